/-
  A calculus of values, boxes and code, and what functions of the program compute, proved in it.
  Conditions: none beyond those that the theorems state. (Part 7: GpPoly, GpRef06, GpRef08, GpRef09, GpRef14, GpRef14m, GpRef11, GpRef41, GpSpan2, GpFrac2, GpLaw11, GpGrid, GpGrid2, NmGrid, GpRef12, GpLaw12, GpLaw41, GcLaw41e, GpLaw41b.)
-/
import Derived.Test.YtefdnbbfkhkjeaaGreatDoorPart6

set_option linter.unusedSectionVars false
set_option linter.unusedVariables false
set_option linter.unusedSimpArgs false
set_option linter.unnecessarySimpa false

section
namespace Go.Ab
def tlen (l : List Rat) : Nat → Nat
  | 0 => 0
  | n + 1 => if l.getD n 0 = 0 then tlen l n else n + 1
theorem tlen_le (l : List Rat) : ∀ n, tlen l n ≤ n
  | 0 => Nat.le_refl _
  | n + 1 => by
    unfold tlen
    split
    · exact Nat.le_succ_of_le (tlen_le l n)
    · exact Nat.le_refl _
def trimR (l : List Rat) : List Rat := l.take (tlen l l.length)
theorem rowF_head (M : List Fz) : Option.all (fun r : List AV => decide (r.length = 3)) (rowF M).head? = true := by cases M <;> rfl
theorem sz_small' {k : Int} (h1 : -100 ≤ k) (h2 : k ≤ 100) : sz (k : Rat) ≤ 1 := by
  unfold sz
  rw [Rat.num_intCast, Rat.den_intCast, ofN_one]
  exact Nat.max_le.2 ⟨ofN_length_le' (by omega), Nat.le_refl _⟩
section
variable {T : Tbl} [CNat T] [CProd T] [CTwos T] [CQuot T] [CQuotD T] [CText T] [CWhole T] [CCommon T] [CFrac T] [CJoin T] [CRow T] [CPoly T]
theorem pnorm_loop (l : List Rat) (hl : l.length ≤ 1000) (hs : ∀ q ∈ l, sz q ≤ 1000) : ∀ n : Nat, n ≤ l.length →
    loopN T 0 0 (.norm false [3, 4]) l342_0 ⟨[(3, .sl (rowF (fzs l)) .an), (4, .i .i64 n)], [], 2⟩ = some (.n, ⟨[(3, .sl (rowF (fzs l)) .an), (4, .i .i64 (tlen l n))], [], 2⟩) := by
  refine loopN_eq (fun n : Nat => ⟨[(3, .sl (rowF (fzs l)) .an), (4, .i .i64 n)], [], 2⟩) (fun n => n ≤ l.length) (fun n => n) (fun n => some (.n, ⟨[(3, .sl (rowF (fzs l)) .an), (4, .i .i64 (tlen l n))], [], 2⟩)) ?_
  intro n hn
  cases n with
  | zero =>
    right
    constructor <;> simp -implicitDefEqProofs [l342_0, tlen]
  | succ n =>
    have hi : n < l.length := hn
    have hil : n < (fzs l).length := by simpa using hi
    have hil' : (n : Int) < (fzs l).length := by omega
    have hg : (fzs l)[n]? = some (fz (l[n]'hi)) := fzs_get (List.getElem?_eq_getElem hi)
    obtain ⟨_, hgE⟩ := List.getElem?_eq_some_iff.1 hg
    have c := frac_sign (T := T) (fz (l[n]'hi)) (by rw [fsz_fz]; have := hs _ (List.getElem_mem hi); omega)
    rw [fv_fz] at c
    have hd : l.getD n 0 = l[n]'hi := by simp [List.getD_eq_getElem?_getD, List.getElem?_eq_getElem hi]
    have hp : (0 : Int) < (n : Int) + 1 := by omega
    have hw : IntKind.wrap .i64 (n : Int) = n := wrap_i64 _ (by omega)
    by_cases hz : l[n]'hi = 0
    · left
      have hq : sgQ (l[n]'hi) = 0 := sgQ_zero.2 hz
      rw [hq] at c
      refine ⟨n, by omega, by simp, ?_, by simp only [tlen]; rw [if_pos (by rw [hd]; exact hz)]⟩
      clear hq hz hd hs
      generalize fzs l = M at *
      generalize fz (l[n]'hi) = X at *
      simp -implicitDefEqProofs [l342_0, hp, hw, hil, hil', hg, hgE, c]
    · right
      have hq : ¬ sgQ (l[n]'hi) = 0 := fun h => hz (sgQ_zero.1 h)
      have ht : tlen l (n + 1) = n + 1 := by simp only [tlen]; rw [if_neg (by rw [hd]; exact hz)]
      rw [ht]
      clear hz hd hs ht
      generalize fzs l = M at *
      generalize sgQ (l[n]'hi) = Q at *
      generalize fz (l[n]'hi) = X at *
      constructor <;> simp -implicitDefEqProofs [l342_0, hp, hw, hil, hil', hg, hgE, c, hq]
theorem poly_norm (l : List Fz) (hl : l.length ≤ 900) (hw : ∀ x ∈ l, fsz x ≤ 900) : callF T 342 [.sl (rowF l) .an] = some (.sl (rowF (fzs (trimR (l.map fv)))) .an) := by
  have c0 := frac_of1 (T := T)
  have c1 := row_scale (T := T) (fz 1) (by rw [fsz_fz, sz_one]; decide) l (by omega) (fun x hx => Nat.le_trans (hw x hx) (by decide))
  have e : scl (fv (fz 1)) l = fzs (l.map fv) := by rw [fzs_scl, fv_fz]; simp [Rat.one_mul]
  rw [e] at c1
  have h := pnorm_loop (T := T) (l.map fv) (by simp; omega) (by
    intro q hq
    obtain ⟨x, hx, rfl⟩ := List.mem_map.1 hq
    exact Nat.le_trans (sz_fv (hw x hx) (by decide)) (by decide)) l.length (by simp)
  have ht := tlen_le (l.map fv) l.length
  have ef : fzs (trimR (l.map fv)) = (fzs (l.map fv)).take (tlen (l.map fv) l.length) := by simp [trimR, fzs, List.map_take]
  have hL : (fzs (l.map fv)).length = l.length := by simp
  rw [ef, f342 _ rfl, b342]
  clear hw e ef
  generalize tlen (l.map fv) l.length = t at *
  generalize fzs (l.map fv) = M at *
  generalize fz 1 = O at *
  have ht1 : t ≤ M.length := by omega
  have ht' : (t : Int) ≤ M.length := by omega
  have hL' : (M.length : Int) = l.length := by omega
  rw [← hL] at h
  have hh := rowF_head M
  simp -implicitDefEqProofs [c0, c1, h, ht1, ht', hh]
def evlR : List Rat → Rat → Rat
  | [], _ => 0
  | a :: l, x => evlR l x * x + a
theorem evlR_sz {x : Rat} {B C : Nat} (hx : sz x ≤ C) : ∀ (l : List Rat), (∀ q ∈ l, sz q ≤ B) → sz (evlR l x) ≤ 1 + l.length * (B + C + 1)
  | [], _ => by simp [evlR, sz_zero]
  | a :: l, h => by
    have h1 := evlR_sz hx l fun q hq => h q (List.mem_cons_of_mem _ hq)
    have h2 := h a List.mem_cons_self
    have h3 := sz_mul (evlR l x) x
    have h4 := sz_add (evlR l x * x) a
    simp only [evlR, List.length_cons]
    rw [Nat.succ_mul]
    omega
theorem peval_loop (l : List Fz) (x : Fz) {B C : Nat} (hl : l.length ≤ 1000) (hx : fsz x ≤ C) (hC : 1 ≤ C) (hB : 1 ≤ B) (hw : ∀ y ∈ l, fsz y ≤ B) (hS : 1 + l.length * (B + C + 1) + C ≤ 1000) : ∀ n : Nat, n ≤ l.length →
    loopN T 0 0 (.norm false [4, 5]) l332_0 ⟨[(0, .sl (rowF l) .an), (3, .ptr (.loc 3) 1 3 0 0), (4, .ptr (.loc 4) 2 3 0 0), (5, .ptr (.loc 5) 3 3 0 0), (6, .i .i64 ((n : Int) - 1))],
      [(.loc 3, ⟨1, .str, 3, [celF x]⟩), (.loc 4, ⟨2, .str, 3, [nocell]⟩), (.loc 5, ⟨3, .str, 3, [celF (fz (evlR ((l.drop n).map fv) (fv x)))]⟩)], 5⟩ =
      some (.n, ⟨[(4, .ptr (.loc 4) 1 3 0 0), (5, .ptr (.loc 5) 2 3 0 0)], [(.loc 4, ⟨1, .str, 3, [nocell]⟩), (.loc 5, ⟨2, .str, 3, [celF (fz (evlR (l.map fv) (fv x)))]⟩)], 4⟩) := by
  refine loopN_eq (fun n : Nat => ⟨[(0, .sl (rowF l) .an), (3, .ptr (.loc 3) 1 3 0 0), (4, .ptr (.loc 4) 2 3 0 0), (5, .ptr (.loc 5) 3 3 0 0), (6, .i .i64 ((n : Int) - 1))],
      [(.loc 3, ⟨1, .str, 3, [celF x]⟩), (.loc 4, ⟨2, .str, 3, [nocell]⟩), (.loc 5, ⟨3, .str, 3, [celF (fz (evlR ((l.drop n).map fv) (fv x)))]⟩)], 5⟩) (fun n => n ≤ l.length) (fun n => n) (fun _ => _) ?_
  intro n hn
  cases n with
  | zero =>
    right
    rw [List.drop_zero]
    generalize fz (evlR (l.map fv) (fv x)) = R at *
    constructor <;> simp -implicitDefEqProofs [l332_0]
  | succ n =>
    left
    have hi : n < l.length := hn
    have hil' : (n : Int) < l.length := by omega
    have hg : l[n]? = some (l[n]'hi) := List.getElem?_eq_getElem hi
    have zx := sz_fv hx hC
    have ze := evlR_sz (x := fv x) zx ((l.drop (n + 1)).map fv) (B := B) (by
      intro q hq
      obtain ⟨y, hy, rfl⟩ := List.mem_map.1 hq
      exact sz_fv (hw y (List.mem_of_mem_drop hy)) hB)
    rw [List.length_map, List.length_drop] at ze
    have hm : (l.length - (n + 1)) * (B + C + 1) ≤ (l.length - 1) * (B + C + 1) := Nat.mul_le_mul_right _ (by omega)
    have hm2 : (l.length - 1) * (B + C + 1) + (B + C + 1) = l.length * (B + C + 1) := by
      rw [← Nat.succ_mul]
      congr 1
      omega
    have c1 := frac_mul (T := T) (fz (evlR ((l.drop (n + 1)).map fv) (fv x))) x (by rw [fsz_fz]; omega) (by omega)
    rw [fv_fz] at c1
    have z2 := sz_mul (evlR ((l.drop (n + 1)).map fv) (fv x)) (fv x)
    have z3 := hw _ (List.getElem_mem hi)
    have c2 := frac_add (T := T) (fz (evlR ((l.drop (n + 1)).map fv) (fv x) * fv x)) (l[n]'hi) (by rw [fsz_fz]; omega) (by omega)
    rw [fv_fz] at c2
    have e : evlR ((l.drop n).map fv) (fv x) = evlR ((l.drop (n + 1)).map fv) (fv x) * fv x + fv (l[n]'hi) := by
      rw [List.drop_eq_getElem_cons hi]
      rfl
    rw [← e] at c2
    have hws : IntKind.wrap .i64 ((n : Int) - 1) = (n : Int) - 1 := wrap_i64 _ (by omega)
    have hp : (0 : Int) ≤ n := by omega
    refine ⟨n, by omega, by simp, ?_, rfl⟩
    clear hw ze hm hm2 e z2 z3 zx hS
    generalize fz (evlR ((l.drop (n + 1)).map fv) (fv x) * fv x) = M at *
    generalize fz (evlR ((l.drop (n + 1)).map fv) (fv x)) = A at *
    generalize fz (evlR ((l.drop n).map fv) (fv x)) = A' at *
    simp -implicitDefEqProofs [l332_0, hi, hil', hg, c1, c2, hws, hp]
theorem poly_eval (l : List Fz) (x : Fz) {B C : Nat} (hl : l.length ≤ 1000) (hx : fsz x ≤ C) (hC : 1 ≤ C) (hB : 1 ≤ B) (hw : ∀ y ∈ l, fsz y ≤ B) (hS : 1 + l.length * (B + C + 1) + C ≤ 1000) :
    callF T 332 [.sl (rowF l) .an, efz x] = some (efz (fz (evlR (l.map fv) (fv x)))) := by
  have c0 := frac_of0 (T := T)
  have h := peval_loop (T := T) l x hl hx hC hB hw hS l.length (Nat.le_refl _)
  rw [List.drop_length] at h
  have e : evlR (([] : List Fz).map fv) (fv x) = 0 := rfl
  rw [e] at h
  have hws : IntKind.wrap .i64 ((l.length : Int) - 1) = (l.length : Int) - 1 := wrap_i64 _ (by omega)
  rw [f332 _ rfl, b332]
  clear hw hS
  generalize fz (evlR (l.map fv) (fv x)) = R at *
  generalize fz 0 = Z at *
  simp -implicitDefEqProofs [c0, h, hws]
def dif (l : List Rat) : List Rat := (List.range (l.length - 1)).map fun (i : Nat) => (((i : Int) + 1 : Int) : Rat) * l.getD (i + 1) 0
def stDf (l : List Fz) (i : Nat) : St := ⟨[(0, .sl (rowF l) .an), (3, .bs (.loc 3) 1 3 0 i), (4, .i .i64 ((i : Int) + 1))], [((.loc 3), ⟨1, .own, 3, rowF (fzs ((dif (l.map fv)).take i))⟩)], 3⟩
theorem pdiff_loop (l : List Fz) (h0 : l ≠ []) (hl : l.length ≤ 90) (hw : ∀ y ∈ l, fsz y ≤ 900) :
    loopN T 0 0 (.norm false [3]) l331_0 (stDf l 0) = some (.n, ⟨[(3, .bs (.loc 3) 1 3 0 (l.length - 1))], [((.loc 3), ⟨1, .own, 3, rowF (fzs (dif (l.map fv)))⟩)], 3⟩) := by
  have hpos : 0 < l.length := List.length_pos_iff.2 h0
  refine range_loop (stDf l) (l.length - 1) _ (fun i hi => ?_) ?_
  · have hil : i + 1 < l.length := by omega
    have hil' : (i : Int) + 1 < l.length := by omega
    have hg : l[i + 1]? = some (l[i + 1]'hil) := List.getElem?_eq_getElem hil
    obtain ⟨k, hk⟩ : ∃ k : Int, k = (i : Int) + 1 := ⟨_, rfl⟩
    have c1 := frac_of (T := T) k (by omega) (by omega)
    have z1 : sz (k : Rat) ≤ 1 := sz_small' (by omega) (by omega)
    have c2 := frac_mul (T := T) (fz (k : Rat)) (l[i + 1]'hil) (by rw [fsz_fz]; omega) (by have := hw _ (List.getElem_mem hil); omega)
    rw [fv_fz] at c2
    have ed : (dif (l.map fv)).take (i + 1) = (dif (l.map fv)).take i ++ [(k : Rat) * fv (l[i + 1]'hil)] := by
      have hd : i < (dif (l.map fv)).length := by simp [dif]; omega
      rw [List.take_succ_eq_append_getElem hd]
      congr 2
      simp only [dif, List.getElem_map, List.getElem_range, List.getD_eq_getElem?_getD, List.getElem?_map, hg, Option.map_some, Option.getD_some, hk]
    have ef : fzs ((dif (l.map fv)).take (i + 1)) = fzs ((dif (l.map fv)).take i) ++ [fz ((k : Rat) * fv (l[i + 1]'hil))] := by rw [ed]; simp [fzs]
    have hml : (fzs ((dif (l.map fv)).take i)).length = i := by simp [dif]; omega
    have hws : IntKind.wrap .i64 (k + 1) = k + 1 := wrap_i64 _ (by omega)
    have hb : i ≤ 4294967295 := by omega
    have hp := rowF_push hml (fz ((k : Rat) * fv (l[i + 1]'hil)))
    have hn0 : (0 : Int) ≤ k := by omega
    have hnat : k.toNat = i + 1 := by omega
    have hkl : k < l.length := by omega
    have hk2 : ((i + 1 : Nat) : Int) + 1 = k + 1 := by omega
    unfold stDf
    rw [ef, hk2, ← hk]
    clear ed ef hw z1
    generalize fz ((k : Rat) * fv (l[i + 1]'hil)) = A at *
    generalize fzs ((dif (l.map fv)).take i) = M at *
    simp -implicitDefEqProofs [l331_0, hil, hg, c1, c2, hml, hws, hb, hp, hn0, hnat, hkl]
  · have e : (dif (l.map fv)).take (l.length - 1) = dif (l.map fv) := List.take_of_length_le (by simp [dif])
    have hk : ((l.length - 1 : Nat) : Int) + 1 = l.length := by omega
    unfold stDf
    rw [e, hk]
    generalize fzs (dif (l.map fv)) = M at *
    constructor <;> simp -implicitDefEqProofs [l331_0]
theorem dif_length (l : List Rat) : (dif l).length = l.length - 1 := by simp [dif]
theorem dif_sz {l : List Rat} {B : Nat} (hl : l.length ≤ 90) (hB : 1 ≤ B) (h : ∀ q ∈ l, sz q ≤ B) : ∀ q ∈ dif l, sz q ≤ 1 + B := by
  intro q hq
  obtain ⟨i, hi, rfl⟩ := List.mem_map.1 hq
  have hi := List.mem_range.1 hi
  have hd : l.getD (i + 1) 0 = l[i + 1]'(by omega) := by simp [List.getD_eq_getElem?_getD, List.getElem?_eq_getElem (show i + 1 < l.length by omega)]
  have h1 := h _ (List.getElem_mem (show i + 1 < l.length by omega))
  have h2 := sz_small' (k := (i : Int) + 1) (by omega) (by omega)
  have h3 := sz_mul (((i : Int) + 1 : Int) : Rat) (l.getD (i + 1) 0)
  rw [hd] at h3 ⊢
  omega
theorem poly_diff (l : List Fz) (hl : l.length ≤ 90) (hw : ∀ y ∈ l, fsz y ≤ 800) : callF T 331 [.sl (rowF l) .an] = some (.sl (rowF (fzs (trimR (dif (l.map fv))))) .an) := by
  rw [f331 _ rfl, b331]
  by_cases h0 : l = []
  · subst h0
    have c := poly_norm (T := T) [] (by decide) (by simp)
    have e : trimR (List.map fv []) = [] := rfl
    have e2 : trimR (dif (List.map fv [])) = [] := rfl
    rw [e] at c
    rw [e2]
    simp only [rowF_nil, fzs, List.map_nil] at c
    have h1 : loopN T 0 0 (.norm false [3]) l331_0 ⟨[(0, .sl [] .an), (3, .bs (.loc 3) 1 3 0 0), (4, .i .i64 1)], [((.loc 3), ⟨1, .own, 3, []⟩)], 3⟩ = some (.n, ⟨[(3, .bs (.loc 3) 1 3 0 0)], [((.loc 3), ⟨1, .own, 3, []⟩)], 3⟩) := by
      refine range_loop (fun _ => ⟨[(0, .sl [] .an), (3, .bs (.loc 3) 1 3 0 0), (4, .i .i64 1)], [((.loc 3), ⟨1, .own, 3, []⟩)], 3⟩) 0 _ (fun i hi => by omega) ?_
      constructor <;> simp -implicitDefEqProofs [l331_0]
    simp only [rowF_nil, fzs, List.map_nil]
    simp -implicitDefEqProofs [c, h1]
  · have h := pdiff_loop (T := T) l h0 hl (fun y hy => Nat.le_trans (hw y hy) (by decide))
    have c := poly_norm (T := T) (fzs (dif (l.map fv))) (by rw [fzs_length, dif_length]; simp; omega) (by
      intro x hx
      obtain ⟨q, hq, rfl⟩ := List.mem_map.1 hx
      have := dif_sz (l := l.map fv) (B := 800) (by simpa using hl) (by decide) (by
        intro q hq
        obtain ⟨y, hy, rfl⟩ := List.mem_map.1 hq
        exact sz_fv (hw y hy) (by decide)) q hq
      rw [fsz_fz]
      omega)
    rw [fv_fzs] at c
    have hL : (fzs (dif (l.map fv))).length = l.length - 1 := by rw [fzs_length, dif_length, List.length_map]
    have ht : List.take (l.length - 1) (fzs (dif (l.map fv))) = fzs (dif (l.map fv)) := List.take_of_length_le (by omega)
    have hle : l.length ≤ (fzs (dif (l.map fv))).length + 1 := by omega
    unfold stDf at h
    rw [List.take_zero] at h
    have e0 : fzs [] = [] := rfl
    rw [e0] at h
    simp only [rowF_nil, Int.natCast_zero, Int.zero_add] at h
    clear hw
    generalize fzs (trimR (dif (l.map fv))) = R at *
    generalize fzs (dif (l.map fv)) = M at *
    simp -implicitDefEqProofs [c, h, ht, hle]
end
end Go.Ab
end

section
namespace Go.Ab
section
variable {T : Tbl}
theorem zeros_loop (m : Nat) (hm : m % 2 = 1) (K : Nat) (hK : 2 ^ K * m < 4294967296) (hK2 : K ≤ 32) : ∀ v : Nat, v ≤ K →
    loopN T 0 0 (.norm false [3]) l224_0 ⟨[(0, u32 (2 ^ v * m)), (3, .i .i64 (K - v : Nat))], [], 2⟩ = some (.n, ⟨[(3, .i .i64 K)], [], 2⟩) := by
  refine loopN_eq (fun v : Nat => ⟨[(0, u32 (2 ^ v * m)), (3, .i .i64 (K - v : Nat))], [], 2⟩) _ (fun v => v) _ ?_
  intro v hv
  cases v with
  | zero =>
    right
    rw [Nat.pow_zero, Nat.one_mul, Nat.sub_zero]
    constructor <;> simp -implicitDefEqProofs [l224_0, hm]
  | succ v =>
    left
    have hle : 2 ^ (v + 1) * m ≤ 2 ^ K * m := Nat.mul_le_mul_right _ (Nat.pow_le_pow_right (by decide) hv)
    have e : 2 ^ (v + 1) * m = 2 ^ v * m * 2 := by rw [Nat.pow_succ, Nat.mul_assoc, Nat.mul_comm 2 m, Nat.mul_assoc]
    have hw : IntKind.wrap .i64 (((K - (v + 1) : Nat) : Int) + 1) = ((K - v : Nat) : Int) := by rw [wrap_i64 _ (by omega)]; omega
    refine ⟨v, by omega, Nat.lt_succ_self v, ?_, rfl⟩
    rw [e] at hle ⊢
    generalize 2 ^ v * m = x at *
    have e1 : x * 2 % 2 = 0 := by omega
    have e2 : x * 2 / 2 % 4294967296 = x := by omega
    have e3 : x < 4294967296 := by omega
    simp -implicitDefEqProofs [l224_0, e1, e2, e3, hw]
end
section
variable {T : Tbl} [CRef06 T]
theorem ref01_zeros (m K : Nat) (hm : m % 2 = 1) (hK : 2 ^ K * m < 4294967296) : callF T 224 [u32 (2 ^ K * m)] = some (.i .i64 K) := by
  have hK2 : K ≤ 32 := by
    rcases Nat.lt_or_ge 32 K with h | h
    · have h1 : 2 ^ 32 ≤ 2 ^ K := Nat.pow_le_pow_right (by decide) (by omega)
      have h2 : 2 ^ K ≤ 2 ^ K * m := Nat.le_mul_of_pos_right _ (by omega)
      have h3 : (2 : Nat) ^ 32 = 4294967296 := rfl
      omega
    · exact h
  have h := zeros_loop (T := T) m hm K hK hK2 K (Nat.le_refl _)
  rw [Nat.sub_self] at h
  simp only [Int.natCast_zero] at h
  have h0 : 2 ^ K * m ≠ 0 := Nat.mul_ne_zero (by have := Nat.pow_pos (n := K) (show 0 < 2 by decide); omega) (by omega)
  rw [f224 _ rfl, b224]
  generalize 2 ^ K * m = x at *
  simp -implicitDefEqProofs [h, h0]
end
theorem get_win {P m a S : List UInt32} {i : Nat} (hm : m.length = i) (hi : i < a.length) : (P ++ (m ++ (a.drop i ++ S)))[P.length + i]? = some (a[i]'hi) := by
  rw [List.getElem?_append_right (by omega), Nat.add_sub_cancel_left, List.getElem?_append_right (by omega), hm, Nat.sub_self, List.drop_eq_getElem_cons hi]
  rfl
theorem get_win1 {P m a S : List UInt32} {i : Nat} (hm : m.length = i) (hi : i + 1 < a.length) : (P ++ (m ++ (a.drop i ++ S)))[P.length + (i + 1)]? = some (a[i + 1]'hi) := by
  rw [List.getElem?_append_right (by omega), Nat.add_sub_cancel_left, List.getElem?_append_right (by omega), hm, Nat.add_sub_cancel_left, List.drop_eq_getElem_cons (show i < a.length by omega), List.drop_eq_getElem_cons hi]
  rfl
theorem set_win {P m a S : List UInt32} {i : Nat} (hm : m.length = i) (hi : i < a.length) (w : UInt32) : (P ++ (m ++ (a.drop i ++ S))).set (P.length + i) w = P ++ ((m ++ [w]) ++ (a.drop (i + 1) ++ S)) := by
  rw [List.set_append_right _ _ (by omega), Nat.add_sub_cancel_left, List.set_append_right _ _ (by omega), hm, Nat.sub_self, List.drop_eq_getElem_cons hi, List.cons_append, List.set_cons_zero]
  simp
section
variable {T : Tbl}
def stDw (Q : List UInt32) (o n s i : Nat) : St := ⟨[(0, .bs (.bor 0) 0 1 o n), (1, .i .i64 s), (5, .i .i64 i)], [(.bor 0, ⟨0, .own, 1, u32s Q⟩)], 4⟩
theorem dw_step1 (Q : List UInt32) (o n s i : Nat) (x y : UInt32) (hi : i + 1 < n) (hn : n ≤ 1000000) (hs : s < 32) (hx : Q[o + i]? = some x) (hy : Q[o + (i + 1)]? = some y) :
    evX (orc T) T 1 l225_0 (stDw Q o n s i) = some (.n, stDw (Q.set (o + i) (w32 ((x.toNat + y.toNat * 4294967296) / 2 ^ s % 4294967296))) o n s (i + 1)) := by
  have h1 : (i : Int) < n := by omega
  have h2 : (i : Int) + 1 < n := by omega
  have hw : IntKind.wrap .i64 ((i : Int) + 1) = ((i + 1 : Nat) : Int) := wrap_i64 _ (by omega)
  have lx := u32_lt x
  have ly := u32_lt y
  have m2 : y.toNat * 4294967296 % 18446744073709551616 = y.toNat * 4294967296 := Nat.mod_eq_of_lt (by omega)
  have m3 : (y.toNat * 4294967296 + x.toNat) % 18446744073709551616 = x.toNat + y.toNat * 4294967296 := by rw [Nat.add_comm]; exact Nat.mod_eq_of_lt (by omega)
  have hmin : min s 64 = s := by omega
  obtain ⟨b1, hgx⟩ := List.getElem?_eq_some_iff.1 hx
  have i1 : i < n := by omega
  unfold stDw
  simp -implicitDefEqProofs [l225_0, h1, h2, i1, hi, hw, hx, hy, m2, m3, hmin, b1, hgx, w32_modw]
theorem dw_step2 (Q : List UInt32) (o n s i : Nat) (x : UInt32) (hi : i + 1 = n) (hn : n ≤ 1000000) (hs : s < 32) (hx : Q[o + i]? = some x) :
    evX (orc T) T 1 l225_0 (stDw Q o n s i) = some (.n, stDw (Q.set (o + i) (w32 (x.toNat / 2 ^ s % 4294967296))) o n s (i + 1)) := by
  have h1 : (i : Int) < n := by omega
  have h2 : ¬ (i : Int) + 1 < n := by omega
  have hw : IntKind.wrap .i64 ((i : Int) + 1) = ((i + 1 : Nat) : Int) := wrap_i64 _ (by omega)
  have hmin : min s 64 = s := by omega
  obtain ⟨b1, hgx⟩ := List.getElem?_eq_some_iff.1 hx
  have i1 : i < n := by omega
  have i2 : ¬ i + 1 < n := by omega
  unfold stDw
  simp -implicitDefEqProofs [l225_0, h1, h2, i1, i2, hw, hx, hmin, b1, hgx, w32_modw]
theorem dw_loop (P a S : List UInt32) (s : Nat) (hs : s < 32) (hl : a.length ≤ 1000000) : ∀ y : Nat × List UInt32,
    (y.1 ≤ a.length ∧ y.2.length = y.1 ∧ val y.2 + 4294967296 ^ y.1 * (val (a.drop y.1) / 2 ^ s) = val a / 2 ^ s) →
    ∃ r, (∃ m : List UInt32, r = (Ex.n, (⟨[(0, .bs (.bor 0) 0 1 P.length a.length)], [(.bor 0, ⟨0, .own, 1, u32s (P ++ (m ++ S))⟩)], 4⟩ : St)) ∧ m.length = a.length ∧ val m = val a / 2 ^ s) ∧
      loopN T 1 0 (.norm false [0]) l225_0 (stDw (P ++ (y.2 ++ (a.drop y.1 ++ S))) P.length a.length s y.1) = some r := by
  refine loopN_ex (fun y : Nat × List UInt32 => stDw (P ++ (y.2 ++ (a.drop y.1 ++ S))) P.length a.length s y.1) _ (fun y => a.length - y.1) _ ?_
  rintro ⟨i, m⟩ ⟨hi, hm, hv⟩
  simp only at hi hm hv
  by_cases h0 : i < a.length
  · left
    have hx := u32_lt (a[i]'h0)
    have hd := List.drop_eq_getElem_cons h0
    have fin : ∀ y R : Nat, val (a.drop (i + 1)) = y + 4294967296 * R → val (m ++ [w32 (((a[i]'h0).toNat + y * 4294967296) / 2 ^ s % 4294967296)]) + 4294967296 ^ (i + 1) * (val (a.drop (i + 1)) / 2 ^ s) = val a / 2 ^ s := by
      intro y R hR
      have hmod : ((a[i]'h0).toNat + y * 4294967296) / 2 ^ s % 4294967296 < 4294967296 := Nat.mod_lt _ (by decide)
      have hdw := down_word (x := (a[i]'h0).toNat) (y := y) (R := R) hs hx
      rw [hd, val_cons, hR, hdw, ← hR] at hv
      rw [val_append, hm, Nat.pow_succ]
      rw [val_cons, val_nil, Nat.mul_zero, Nat.add_zero, w32_of_lt hmod]
      rw [Nat.mul_add] at hv
      rw [← hv, Nat.mul_assoc, Nat.add_assoc]
    by_cases h1 : i + 1 < a.length
    · have hd1 := List.drop_eq_getElem_cons h1
      refine ⟨(i + 1, m ++ [w32 (((a[i]'h0).toNat + (a[i + 1]'h1).toNat * 4294967296) / 2 ^ s % 4294967296)]), ⟨h0, by simp [hm], fin _ (val (a.drop (i + 1 + 1))) (by rw [hd1, val_cons])⟩, by simp only; omega, ?_⟩
      simp only
      rw [dw_step1 _ _ _ _ _ _ _ h1 hl hs (get_win hm h0) (get_win1 hm h1), set_win hm h0]
    · have f0 := fin 0 0 (by rw [List.drop_of_length_le (by omega), val_nil, Nat.mul_zero])
      rw [Nat.zero_mul, Nat.add_zero] at f0
      refine ⟨(i + 1, m ++ [w32 ((a[i]'h0).toNat / 2 ^ s % 4294967296)]), ⟨h0, by simp [hm], f0⟩, by simp only; omega, ?_⟩
      simp only
      rw [dw_step2 _ _ _ _ _ _ (by omega) hl hs (get_win hm h0), set_win hm h0]
  · right
    have : i = a.length := by omega
    subst this
    rw [List.drop_length, val_nil, Nat.zero_div, Nat.mul_zero, Nat.add_zero] at hv
    refine ⟨_, ⟨m, rfl, hm, hv⟩, ?_, ?_⟩ <;> simp -implicitDefEqProofs [l225_0, stDw]
theorem trimw_loop (P a S : List UInt32) (hl : a.length ≤ 1000000) {n : Nat} (hn : n ≤ a.length) (h0 : ∀ (i : Nat) (x : UInt32), n ≤ i → a[i]? = some x → x.toNat = 0) (h1 : ∀ x : UInt32, 0 < n → a[n - 1]? = some x → x.toNat ≠ 0) :
    ∀ k : Nat, (n ≤ k ∧ k ≤ a.length) → loopN T 1 2 (.norm false [0]) l225_1 ⟨[(0, .bs (.bor 0) 0 1 P.length k)], [(.bor 0, ⟨0, .own, 1, u32s (P ++ (a ++ S))⟩)], 4⟩ =
      some (.n, ⟨[(0, .bs (.bor 0) 0 1 P.length n)], [(.bor 0, ⟨0, .own, 1, u32s (P ++ (a ++ S))⟩)], 4⟩) := by
  refine loopN_eq (fun k : Nat => ⟨[(0, .bs (.bor 0) 0 1 P.length k)], [(.bor 0, ⟨0, .own, 1, u32s (P ++ (a ++ S))⟩)], 4⟩) _ (fun k => k) _ ?_
  rintro k ⟨hk, hka⟩
  have hget : ∀ j, j < a.length → (P ++ (a ++ S))[P.length + j]? = a[j]? := by
    intro j hj
    rw [List.getElem?_append_right (by omega), Nat.add_sub_cancel_left, List.getElem?_append_left hj]
  by_cases h2 : k = 0
  · right
    have : n = 0 := by omega
    subst this; subst h2
    generalize P ++ (a ++ S) = Q at *
    constructor <;> simp -implicitDefEqProofs [l225_1]
  · have hw : IntKind.wrap .i64 ((k : Int) - 1) = ((k - 1 : Nat) : Int) := by rw [wrap_i64 _ (by omega)]; omega
    have hg : a[k - 1]? = some (a[k - 1]'(by omega)) := List.getElem?_eq_getElem _
    have hq := hget (k - 1) (by omega)
    rw [hg] at hq
    have hpos : 0 < k := by omega
    have hlt : k - 1 < k := by omega
    generalize P ++ (a ++ S) = Q at *
    by_cases h3 : k = n
    · right
      subst h3
      have hx := h1 _ hpos hg
      constructor <;> simp -implicitDefEqProofs [l225_1, hpos, hw, hq, hx, hlt]
    · left
      have hx := h0 (k - 1) _ (by omega) hg
      refine ⟨k - 1, ⟨by omega, by omega⟩, hlt, ?_, rfl⟩
      simp -implicitDefEqProofs [l225_1, hpos, hw, hq, hx, hlt]
end
section
variable {T : Tbl} [CRef06 T]
theorem ref06_down (P a S : List UInt32) (s : Nat) (hs : s < 32) (hl : a.length ≤ 1000000) :
    ∃ S', S'.length + (ofN (val a / 2 ^ s)).length = a.length + S.length ∧
      callH T 225 [.bs (.bor 0) 0 1 P.length a.length, .i .i64 s] [(.bor 0, ⟨0, .own, 1, u32s (P ++ (a ++ S))⟩)] =
        some (.bs (.bor 0) 0 1 P.length (ofN (val a / 2 ^ s)).length, [(.bor 0, ⟨0, .own, 1, u32s (P ++ (ofN (val a / 2 ^ s) ++ S'))⟩)]) := by
  obtain ⟨_, ⟨m, rfl, hm, hv⟩, hr⟩ := dw_loop (T := T) P a S s hs hl (0, []) ⟨Nat.zero_le _, rfl, by simp⟩
  obtain ⟨n, h1, h2, h3, h4⟩ := ofN_take m
  have ht := trimw_loop (T := T) P m S (by omega) h1 h3 h4 m.length ⟨h1, Nat.le_refl _⟩
  rw [hv] at h2
  have hlen : (ofN (val a / 2 ^ s)).length = n := by rw [← h2]; simp; omega
  have e : P ++ (m ++ S) = P ++ (ofN (val a / 2 ^ s) ++ (m.drop n ++ S)) := by rw [← h2, ← List.append_assoc (m.take n), List.take_append_drop]
  refine ⟨m.drop n ++ S, by simp; omega, ?_⟩
  rw [hlen, ← e]
  rw [hm] at ht
  unfold stDw at hr
  simp only [List.nil_append, List.drop_zero, Int.natCast_zero] at hr
  rw [f225 _ _ rfl, b225]
  clear e h3 h4 h2
  generalize P ++ (m ++ S) = Q at *
  generalize P ++ (a ++ S) = R at *
  simp -implicitDefEqProofs [hr, ht]
theorem win_bound {P a S : List UInt32} {j : Nat} (hj : j < a.length) : (P ++ (a ++ S))[P.length + j]? = a[j]? := by
  rw [List.getElem?_append_right (by omega), Nat.add_sub_cancel_left, List.getElem?_append_left hj]
theorem strip_loop (Q : List UInt32) (o n j0 : Nat) (hn : n ≤ 1000000) (hj : j0 < n) (hz : ∀ j, j < j0 → ∃ x : UInt32, Q[o + j]? = some x ∧ x.toNat = 0) (h1 : ∃ x : UInt32, Q[o + j0]? = some x ∧ x.toNat ≠ 0) :
    ∀ j : Nat, j ≤ j0 → loopN T 1 0 (.norm false [0, 4]) l226_0 ⟨[(0, .bs (.bor 0) 0 1 (o + j) (n - j)), (4, .i .i64 (32 * j : Nat))], [(.bor 0, ⟨0, .own, 1, u32s Q⟩)], 4⟩ =
      some (.n, ⟨[(0, .bs (.bor 0) 0 1 (o + j0) (n - j0)), (4, .i .i64 (32 * j0 : Nat))], [(.bor 0, ⟨0, .own, 1, u32s Q⟩)], 4⟩) := by
  refine loopN_eq (fun j : Nat => ⟨[(0, .bs (.bor 0) 0 1 (o + j) (n - j)), (4, .i .i64 (32 * j : Nat))], [(.bor 0, ⟨0, .own, 1, u32s Q⟩)], 4⟩) _ (fun j => j0 - j) _ ?_
  intro j hj2
  have hpos : 0 < n - j := by omega
  by_cases h : j = j0
  · right
    subst h
    obtain ⟨x, hx, hx0⟩ := h1
    constructor <;> simp -implicitDefEqProofs [l226_0, hpos, hx, hx0]
  · left
    obtain ⟨x, hx, hx0⟩ := hz j (by omega)
    have hw : IntKind.wrap .i64 (((32 * j : Nat) : Int) + 32) = ((32 * (j + 1) : Nat) : Int) := by rw [wrap_i64 _ (by omega)]; omega
    have e1 : 1 < n - j := by omega
    have e2 : n - j - 1 = n - (j + 1) := by omega
    have e3 : (1 : Int) ≤ ((n - j : Nat) : Int) := by omega
    refine ⟨j + 1, by omega, by show j0 - (j + 1) < j0 - j; omega, ?_, rfl⟩
    generalize 32 * j = c at *
    generalize 32 * (j + 1) = c' at *
    rw [← Nat.add_assoc, ← e2]
    generalize n - j = k at *
    have e4 : 1 ≤ k := by omega
    simp -implicitDefEqProofs [l226_0, hpos, hx, hx0, hw, e1, e3, e4]
theorem low_words : ∀ (a : List UInt32), val a ≠ 0 → ∃ j, ∃ h : j < a.length, (∀ i (hi : i < j), (a[i]'(by omega)).toNat = 0) ∧ (a[j]'h).toNat ≠ 0 ∧ val a = 4294967296 ^ j * val (a.drop j)
  | [], h => by simp at h
  | x :: a, h => by
    by_cases hx : x.toNat = 0
    · have h2 : val a ≠ 0 := by
        intro e
        apply h
        rw [val_cons, hx, e]
      obtain ⟨j, hj, h3, h4, h5⟩ := low_words a h2
      refine ⟨j + 1, by simpa using hj, ?_, by simpa using h4, ?_⟩
      · intro i hi
        cases i with
        | zero => simpa using hx
        | succ i => simpa using h3 i (by omega)
      · rw [val_cons, hx, h5, List.drop_succ_cons, Nat.pow_succ, Nat.zero_add, Nat.mul_comm (4294967296 ^ j) 4294967296, Nat.mul_assoc]
    · exact ⟨0, by simp, fun i hi => by omega, by simpa using hx, by simp⟩
theorem ref06_odd (P a S : List UInt32) (hl : a.length ≤ 100000) (h : val a ≠ 0) : ∃ (P' S' : List UInt32) (m k : Nat), val a = 2 ^ k * m ∧ m % 2 = 1 ∧ k ≤ 32 * a.length ∧ (ofN m).length ≤ a.length ∧ P'.length + (ofN m).length + S'.length = P.length + a.length + S.length ∧
    callH T 226 [.bs (.bor 0) 0 1 P.length a.length] [(.bor 0, ⟨0, .own, 1, u32s (P ++ (a ++ S))⟩)] =
      some (.tup [.bs (.bor 0) 0 1 P'.length (ofN m).length, .i .i64 k], [(.bor 0, ⟨0, .own, 1, u32s (P' ++ (ofN m ++ S'))⟩)]) := by
  obtain ⟨j, hj, hz, hne, hv⟩ := low_words a h
  obtain ⟨s, c, hsc, hc⟩ := odd_part hne
  have hx := u32_lt (a[j]'hj)
  have hs : s < 32 := by
    rcases Nat.lt_or_ge s 32 with h1 | h1
    · exact h1
    · have h2 : 2 ^ 32 ≤ 2 ^ s := Nat.pow_le_pow_right (by decide) h1
      have h3 : 2 ^ s ≤ 2 ^ s * c := Nat.le_mul_of_pos_right _ (by omega)
      have h4 : (2 : Nat) ^ 32 = 4294967296 := rfl
      omega
  have hd := List.drop_eq_getElem_cons hj
  -- the rest is odd
  have hm : ∃ m, val (a.drop j) = 2 ^ s * m ∧ m % 2 = 1 := by
    refine ⟨c + 2 ^ (32 - s) * val (a.drop (j + 1)), ?_, ?_⟩
    · rw [hd, val_cons, hsc, Nat.mul_add, ← Nat.mul_assoc, ← Nat.pow_add, show s + (32 - s) = 32 by omega]
    · have : 2 ^ (32 - s) = 2 * 2 ^ (31 - s) := by rw [← Nat.pow_succ']; congr 1; omega
      rw [this, Nat.mul_assoc]
      omega
  obtain ⟨m, hm1, hm2⟩ := hm
  have hdiv : val (a.drop j) / 2 ^ s = m := by rw [hm1, Nat.mul_div_cancel_left _ (Nat.pow_pos (by decide))]
  have hlen : (a.drop j).length = a.length - j := by simp
  obtain ⟨S', hS', hdown⟩ := ref06_down (T := T) (P ++ a.take j) (a.drop j) S s hs (by omega)
  rw [hdiv] at hS' hdown
  have hPl : (P ++ a.take j).length = P.length + j := by simp; omega
  have hbox : (P ++ a.take j) ++ (a.drop j ++ S) = P ++ (a ++ S) := by
    rw [List.append_assoc, ← List.append_assoc (a.take j), List.take_append_drop]
  rw [hPl, hlen, hbox] at hdown
  have hml : (ofN m).length ≤ a.length := by
    have h1 : m ≤ val (a.drop j) := by rw [hm1]; exact Nat.le_mul_of_pos_left _ (Nat.pow_pos (by decide))
    have h2 := ofN_len_le h1
    have h3 := ofN_length_le (a.drop j)
    omega
  refine ⟨P ++ a.take j, S', m, 32 * j + s, ?_, hm2, by omega, hml, by simp at hS' ⊢; omega, ?_⟩
  · rw [hv, hm1, pow32, Nat.pow_add, Nat.mul_assoc]
  · have hst := strip_loop (T := T) (P ++ (a ++ S)) P.length a.length j (by omega) hj (fun i hi => ⟨_, by rw [win_bound (by omega)]; exact List.getElem?_eq_getElem (by omega), hz i hi⟩) ⟨_, by rw [win_bound hj]; exact List.getElem?_eq_getElem hj, hne⟩ 0 (Nat.zero_le _)
    have hzr := ref01_zeros (T := T) c s hc (by rw [← hsc]; exact hx)
    rw [← hsc] at hzr
    have hg : (P ++ (a ++ S))[P.length + j]? = some (a[j]'hj) := by rw [win_bound hj]; exact List.getElem?_eq_getElem hj
    have hpos : 0 < a.length - j := by omega
    have hw : IntKind.wrap .i64 (((32 * j : Nat) : Int) + s) = ((32 * j + s : Nat) : Int) := by rw [wrap_i64 _ (by omega)]; omega
    simp only [Nat.mul_zero, Nat.add_zero, Nat.sub_zero, Int.natCast_zero] at hst
    rw [hPl, f226 _ _ rfl, b226]
    generalize a[j]'hj = x at *
    clear hsc hv hm1 hd hz hne hbox hS' h hdiv hx
    generalize 32 * j = c1 at *
    generalize c1 + s = c2 at *
    generalize P ++ (a ++ S) = Q at *
    generalize P ++ a.take j ++ (ofN m ++ S') = Q' at *
    simp -implicitDefEqProofs [hst, hzr, hg, hpos, hw, hdown]
end
theorem ls_law {P m a S b : List UInt32} {i c s d : Nat} (hm : m.length = i) (h0 : i < a.length) (hv : val m + val (b.take i) = val (a.take i) + 4294967296 ^ i * c) (hs : s < 4294967296) (h : s + (atW b i + c) = (a[i]'h0).toNat + 4294967296 * d) :
    val (m ++ [w32 s]) + val (b.take (i + 1)) = val (a.take (i + 1)) + 4294967296 ^ (i + 1) * d := by
  have e1 := val_take_succ (List.getElem?_eq_getElem h0)
  have e2 := val_take_atW b i
  rw [val_append, hm, e1, e2, Nat.pow_succ]
  simp only [val_cons, val_nil, Nat.mul_zero, Nat.add_zero, w32_of_lt hs]
  generalize 4294967296 ^ i = p at *
  have e3 : p * s + p * (atW b i + c) = p * (a[i]'h0).toNat + p * 4294967296 * d := by rw [← Nat.mul_add, h, Nat.mul_add, Nat.mul_assoc]
  rw [Nat.mul_add] at e3
  omega
section
variable {T : Tbl} [CRef02 T] [CRef04 T] [CRef05 T] [CRef07 T] [CRef06 T]
def stLw (Q R : List UInt32) (o n o2 n2 c i : Nat) : St := ⟨[(0, .bs (.bor 0) 0 1 o n), (1, .bs (.bor 1) 1 1 o2 n2), (4, u64 c), (5, .i .i64 i)], [(.bor 0, ⟨0, .own, 1, u32s Q⟩), (.bor 1, ⟨1, .own, 1, u32s R⟩)], 6⟩
theorem lw_step (Q R b : List UInt32) (o n o2 n2 c i : Nat) (x : UInt32) (hi : i < n) (hn : n ≤ 1000000) (hb : b.length ≤ 1000000) (hc : c ≤ 1) (hx : Q[o + i]? = some x) (hR : List.take n2 (List.drop o2 R) = b) (hR2 : o2 + n2 ≤ R.length) :
    evX (orc T) T 2 l2097_0 (stLw Q R o n o2 n2 c i) = some (.n, stLw (Q.set (o + i) (w32 (if x.toNat < atW b i + c then x.toNat + 4294967296 - (atW b i + c) else x.toNat - (atW b i + c)))) R o n o2 n2 (if x.toNat < atW b i + c then 1 else 0) (i + 1)) := by
  have h1 : (i : Int) < n := by omega
  have hw : IntKind.wrap .i64 ((i : Int) + 1) = ((i + 1 : Nat) : Int) := wrap_i64 _ (by omega)
  have cb := ref02_at (T := T) b i hb
  have lx := u32_lt x
  have lb := atW_lt b i
  generalize atW b i = y at *
  have m2 : y % 18446744073709551616 = y := Nat.mod_eq_of_lt (by omega)
  have m3 : (y + c) % 18446744073709551616 = y + c := Nat.mod_eq_of_lt (by omega)
  have m4 : (x.toNat + 4294967296) % 18446744073709551616 = x.toNat + 4294967296 := Nat.mod_eq_of_lt (by omega)
  obtain ⟨b1, hgx⟩ := List.getElem?_eq_some_iff.1 hx
  unfold stLw
  by_cases hlt : x.toNat < y + c
  · have hs : sub64 (x.toNat + 4294967296) (y + c) = x.toNat + 4294967296 - (y + c) := sub64_le (by omega) (by omega)
    simp -implicitDefEqProofs [l2097_0, h1, hi, hw, cb, m2, m3, m4, hx, b1, hgx, hR, hR2, hlt, hs]
  · have hs : sub64 x.toNat (y + c) = x.toNat - (y + c) := sub64_le (by omega) (by omega)
    simp -implicitDefEqProofs [l2097_0, h1, hi, hw, cb, m2, m3, m4, hx, b1, hgx, hR, hR2, hlt, hs]
theorem lw_loop (P a S R b : List UInt32) (o2 n2 : Nat) (hl : a.length ≤ 1000000) (hb : b.length ≤ 1000000) (hR : List.take n2 (List.drop o2 R) = b) (hR2 : o2 + n2 ≤ R.length) : ∀ y : Nat × Nat × List UInt32,
    (y.1 ≤ a.length ∧ y.2.1 ≤ 1 ∧ y.2.2.length = y.1 ∧ val y.2.2 + val (b.take y.1) = val (a.take y.1) + 4294967296 ^ y.1 * y.2.1) →
    ∃ r, (∃ (c : Nat) (m : List UInt32), r = (Ex.n, (⟨[], [(.bor 0, ⟨0, .own, 1, u32s (P ++ (m ++ S))⟩), (.bor 1, ⟨1, .own, 1, u32s R⟩)], 6⟩ : St)) ∧
      m.length = a.length ∧ c ≤ 1 ∧ val m + val (b.take a.length) = val a + 4294967296 ^ a.length * c) ∧
      loopN T 2 0 (.norm false []) l2097_0 (stLw (P ++ (y.2.2 ++ (a.drop y.1 ++ S))) R P.length a.length o2 n2 y.2.1 y.1) = some r := by
  refine loopN_ex (fun y : Nat × Nat × List UInt32 => stLw (P ++ (y.2.2 ++ (a.drop y.1 ++ S))) R P.length a.length o2 n2 y.2.1 y.1) _ (fun y => a.length - y.1) _ ?_
  rintro ⟨i, c, m⟩ ⟨hi, hc, hm, hv⟩
  simp only at hi hc hm hv
  by_cases h0 : i < a.length
  · left
    have lx := u32_lt (a[i]'h0)
    have lb := atW_lt b i
    have hstep := lw_step (T := T) (P ++ (m ++ (a.drop i ++ S))) R b P.length a.length o2 n2 c i (a[i]'h0) h0 hl hb hc (get_win hm h0) hR hR2
    rw [set_win hm h0] at hstep
    by_cases hlt : (a[i]'h0).toNat < atW b i + c
    · rw [if_pos hlt, if_pos hlt] at hstep
      exact ⟨(i + 1, 1, m ++ [w32 ((a[i]'h0).toNat + 4294967296 - (atW b i + c))]), ⟨h0, Nat.le_refl _, by simp [hm], by simp only; exact ls_law (P := P) (S := S) hm h0 hv (by omega) (by omega)⟩, by simp only; omega, hstep⟩
    · rw [if_neg hlt, if_neg hlt] at hstep
      exact ⟨(i + 1, 0, m ++ [w32 ((a[i]'h0).toNat - (atW b i + c))]), ⟨h0, Nat.zero_le _, by simp [hm], by simp only; exact ls_law (P := P) (S := S) hm h0 hv (by omega) (by omega)⟩, by simp only; omega, hstep⟩
  · right
    have : i = a.length := by omega
    subst this
    rw [List.take_of_length_le (Nat.le_refl a.length)] at hv
    refine ⟨_, ⟨c, m, rfl, hm, hc, hv⟩, ?_, ?_⟩ <;> simp -implicitDefEqProofs [l2097_0, stLw]
theorem ref05_less2 (P a S P2 b S2 : List UInt32) (hl : a.length ≤ 1000000) (hb : b.length ≤ a.length) (hab : val b ≤ val a) :
    ∃ m : List UInt32, m.length = a.length ∧ val m = val a - val b ∧
      callH T 2097 [.bs (.bor 0) 0 1 P.length a.length, .bs (.bor 1) 1 1 P2.length b.length] [(.bor 0, ⟨0, .own, 1, u32s (P ++ (a ++ S))⟩), (.bor 1, ⟨1, .own, 1, u32s (P2 ++ (b ++ S2))⟩)] =
        some (.tup [], [(.bor 0, ⟨0, .own, 1, u32s (P ++ (m ++ S))⟩), (.bor 1, ⟨1, .own, 1, u32s (P2 ++ (b ++ S2))⟩)]) := by
  obtain ⟨_, ⟨c, m, rfl, hm, hc, hv⟩, hr⟩ := lw_loop (T := T) P a S (P2 ++ (b ++ S2)) b P2.length b.length hl (by omega) (by simp) (by simp) (0, 0, []) ⟨Nat.zero_le _, Nat.zero_le _, rfl, by simp⟩
  rw [List.take_of_length_le hb] at hv
  have hlo := val_lt m
  rw [hm] at hlo
  have hval : val m = val a - val b := by
    rcases Nat.eq_zero_or_pos c with h1 | h1
    · subst h1; omega
    · have : c = 1 := by omega
      subst this
      omega
  refine ⟨m, hm, hval, ?_⟩
  unfold stLw at hr
  simp only [List.nil_append, List.drop_zero, Int.natCast_zero] at hr
  rw [f2097 _ _ rfl, b2097]
  generalize P ++ (a ++ S) = Q at *
  generalize P ++ (m ++ S) = Q2 at *
  generalize P2 ++ (b ++ S2) = R at *
  clear hv hlo hval
  simp -implicitDefEqProofs [hr]
theorem ref06_one (a : List UInt32) : callF T 229 [.sl (u32s (ofN (val a))) .an] = some (.b (decide (val a = 1))) := by
  rw [f229 _ rfl, b229]
  generalize val a = n
  by_cases h0 : n = 0
  · subst h0
    simp -implicitDefEqProofs
  · rw [ofN_pos h0]
    by_cases h1 : n / 4294967296 = 0
    · have e : ofN (n / 4294967296) = [] := ofN_eq_nil.2 h1
      have e2 : n % 4294967296 = n := Nat.mod_eq_of_lt (by omega)
      simp -implicitDefEqProofs [e, u32s, w32_mod, e2]
    · have h2 : ¬ ofN (n / 4294967296) = [] := fun e => h1 (ofN_eq_nil.1 e)
      have h3 : ¬ n = 1 := by rintro rfl; simp at h1
      have h4 : ¬ ((ofN (n / 4294967296)).length : Int) + 1 = 1 := by
        have := List.length_pos_iff.2 h2
        omega
      simp -implicitDefEqProofs [u32s, h3, h4]
theorem ref06_over (a g : List UInt32) (ha : a.length ≤ 10000) (hg : g.length ≤ 10000) (h0 : val g ≠ 0) : callF T 230 [.sl (u32s a) .an, .sl (u32s (ofN (val g))) .an] = some (.sl (u32s (ofN (val a / val g))) .an) := by
  have ho := ref06_one (T := T) g
  have hn := ref02_norm (T := T) a (by omega)
  have hd := ref05_div (T := T) a (ofN (val g)) (by omega) (by have := ofN_length_le g; omega) (by rw [val_ofN]; omega)
  rw [val_ofN] at hd
  rw [f230 _ rfl, b230]
  by_cases h1 : val g = 1
  · rw [h1] at ho hd ⊢
    simp -implicitDefEqProofs [ho, hn]
  · simp -implicitDefEqProofs [ho, h1, hd]
theorem ref06_double (a : List UInt32) (k : Nat) (ha : a.length ≤ 10000) (hk : k ≤ 1000000) : callF T 227 [.sl (u32s a) .an, .i .i64 k] = some (.sl (u32s (ofN (2 ^ k * val a))) .an) := by
  have hq : (k : Int).tdiv 32 = (k : Int) / 32 := Int.tdiv_eq_ediv_of_nonneg (by omega)
  have hm2 : (k : Int).tmod 32 = (k : Int) % 32 := Int.tmod_eq_emod_of_nonneg (by omega)
  have s0 : ¬ (k : Int) % 32 < 0 := by omega
  have s1 : ((k : Int) % 32).toNat = k % 32 := by omega
  have s2 : min (k % 32) 32 = k % 32 := by omega
  have w1 : IntKind.wrap .i64 ((k : Int) / 32) = ((k / 32 : Nat) : Int) := by rw [wrap_i64 (k / 32) (by omega)]; omega
  have h2 : 2 ^ (k % 32) < 4294967296 := by
    have := Nat.pow_lt_pow_right (show 1 < 2 by decide) (Nat.mod_lt k (show 0 < 32 by decide))
    have h4 : (2 : Nat) ^ 32 = 4294967296 := rfl
    omega
  have s3 : 2 ^ (k % 32) % 4294967296 = 2 ^ (k % 32) := Nat.mod_eq_of_lt h2
  have hmul := ref04_mul (T := T) (List.replicate (k / 32) 0 ++ a) [w32 (2 ^ (k % 32))] (by simp; omega) (by simp)
  have hv : val (List.replicate (k / 32) 0 ++ a) * val [w32 (2 ^ (k % 32))] = 2 ^ k * val a := by
    rw [val_append, val_replicate, List.length_replicate, val_cons, val_nil, w32_of_lt h2, Nat.mul_zero, Nat.add_zero, Nat.zero_add, pow32, Nat.mul_comm, ← Nat.mul_assoc, ← Nat.pow_add, show k % 32 + 32 * (k / 32) = k by omega]
  rw [hv] at hmul
  have b2 : k / 32 + a.length ≤ 4294967296 := by omega
  have b3 : ((k / 32 : Nat) : Int) ≤ 4294967296 := by omega
  have hu : u32s [w32 (2 ^ (k % 32))] = [[u32 (2 ^ (k % 32))]] := by simp [u32s, w32_of_lt h2]
  rw [hu] at hmul
  have ht : List.take (k / 32 + a.length) (List.replicate (k / 32) 0 ++ a) = List.replicate (k / 32) 0 ++ a := List.take_of_length_le (by simp)
  rw [f227 _ rfl, b227]
  generalize 2 ^ k * val a = V at *
  clear hv hu
  generalize k / 32 = q at *
  simp -implicitDefEqProofs [hq, hm2, w1, s0, s1, s2, s3, hmul, b2, b3, ht]
def nmX : BId := .fld (.loc 12) 22
def nmY : BId := .fld (.loc 14) 22
def nm2 (f : Bool) : BId × BId := if f then (nmX, nmY) else (nmY, nmX)
def stGc (f : Bool) (P a S P2 b S2 : List UInt32) (m n : Nat) : St :=
  ⟨[(5, .bs (nm2 f).1 1 1 P.length a.length), (6, .bs (nm2 f).2 2 1 P2.length b.length), (7, .i .i64 m), (8, .i .i64 n)], [((nm2 f).1, ⟨1, .own, 1, u32s (P ++ (a ++ S))⟩), ((nm2 f).2, ⟨2, .own, 1, u32s (P2 ++ (b ++ S2))⟩)], 4⟩
theorem gc_gt (f : Bool) (P S P2 S2 : List UInt32) (X Y m n : Nat) (hX : (ofN X).length ≤ 10000) (hY : (ofN Y).length ≤ 10000) (h : Y < X) :
    ∃ (P' S' : List UInt32) (k x : Nat), X - Y = 2 ^ k * x ∧ x % 2 = 1 ∧
      evX (orc T) T 0 l228_0 (stGc f P (ofN X) S P2 (ofN Y) S2 m n) = some (.n, stGc f P' (ofN x) S' P2 (ofN Y) S2 m n) := by
  have hc := ref02_cmp (T := T) (ofN X) (ofN Y) (by omega) (by omega)
  rw [val_ofN, val_ofN, show cmpN X Y = 1 by unfold cmpN; rw [if_neg (by omega), if_pos h]] at hc
  obtain ⟨d, hd, hv, hless⟩ := ref05_less2 (T := T) P (ofN X) S P2 (ofN Y) S2 (by omega) (ofN_len_le (Nat.le_of_lt h)) (by rw [val_ofN, val_ofN]; omega)
  rw [val_ofN, val_ofN] at hv
  obtain ⟨P', S', x, k, e1, e2, e3, e4, e5, hodd⟩ := ref06_odd (T := T) P d S (by omega) (by omega)
  refine ⟨P', S', k, x, by omega, e2, ?_⟩
  have t1 : List.take (ofN X).length (List.drop P.length (P ++ (ofN X ++ S))) = ofN X := by simp
  have t2 : List.take (ofN Y).length (List.drop P2.length (P2 ++ (ofN Y ++ S2))) = ofN Y := by simp
  have b1 : P.length + (ofN X).length ≤ (P ++ (ofN X ++ S)).length := by simp
  have b2 : P2.length + (ofN Y).length ≤ (P2 ++ (ofN Y ++ S2)).length := by simp
  rw [hd] at hodd
  unfold stGc
  clear hv e1 e3 e4 e5 hd hX hY
  generalize P ++ (ofN X ++ S) = Q at *
  generalize P2 ++ (ofN Y ++ S2) = R at *
  generalize P' ++ (ofN x ++ S') = Q' at *
  generalize P ++ (d ++ S) = Q2 at *
  generalize ofN X = A at *
  generalize ofN Y = B at *
  cases f <;> simp -implicitDefEqProofs [l228_0, nm2, nmX, nmY, hc, t1, t2, b1, b2, hless, hodd]
theorem gc_lt (f : Bool) (P S P2 S2 : List UInt32) (X Y m n : Nat) (hX : (ofN X).length ≤ 10000) (hY : (ofN Y).length ≤ 10000) (h : X < Y) :
    ∃ (P' S' : List UInt32) (k x : Nat), Y - X = 2 ^ k * x ∧ x % 2 = 1 ∧
      evX (orc T) T 0 l228_0 (stGc f P (ofN X) S P2 (ofN Y) S2 m n) = some (.n, stGc (!f) P' (ofN x) S' P (ofN X) S m n) := by
  have hc := ref02_cmp (T := T) (ofN X) (ofN Y) (by omega) (by omega)
  rw [val_ofN, val_ofN, show cmpN X Y = -1 by unfold cmpN; rw [if_pos h]] at hc
  obtain ⟨d, hd, hv, hless⟩ := ref05_less2 (T := T) P2 (ofN Y) S2 P (ofN X) S (by omega) (ofN_len_le (Nat.le_of_lt h)) (by rw [val_ofN, val_ofN]; omega)
  rw [val_ofN, val_ofN] at hv
  obtain ⟨P', S', x, k, e1, e2, e3, e4, e5, hodd⟩ := ref06_odd (T := T) P2 d S2 (by omega) (by omega)
  refine ⟨P', S', k, x, by omega, e2, ?_⟩
  have t1 : List.take (ofN X).length (List.drop P.length (P ++ (ofN X ++ S))) = ofN X := by simp
  have t2 : List.take (ofN Y).length (List.drop P2.length (P2 ++ (ofN Y ++ S2))) = ofN Y := by simp
  have b1 : P.length + (ofN X).length ≤ (P ++ (ofN X ++ S)).length := by simp
  have b2 : P2.length + (ofN Y).length ≤ (P2 ++ (ofN Y ++ S2)).length := by simp
  rw [hd] at hodd
  unfold stGc
  clear hv e1 e3 e4 e5 hd hX hY
  generalize P ++ (ofN X ++ S) = Q at *
  generalize P2 ++ (ofN Y ++ S2) = R at *
  generalize P' ++ (ofN x ++ S') = Q' at *
  generalize P2 ++ (d ++ S2) = Q2 at *
  generalize ofN X = A at *
  generalize ofN Y = B at *
  cases f <;> simp -implicitDefEqProofs [l228_0, nm2, nmX, nmY, hc, t1, t2, b1, b2, hless, hodd]
theorem gc_eq (f : Bool) (P S P2 S2 : List UInt32) (X m n : Nat) (hX : (ofN X).length ≤ 10000) {G : Option (Ex × St)}
    (hG : G = some (.n, ⟨[(5, .bs (nm2 f).1 1 1 P.length (ofN X).length), (7, .i .i64 m), (8, .i .i64 n)], [((nm2 f).1, ⟨1, .own, 1, u32s (P ++ (ofN X ++ S))⟩)], 3⟩)) :
    isEx (evX (orc T) T 0 l228_0 (stGc f P (ofN X) S P2 (ofN X) S2 m n)) = true ∧ finX 0 0 (Gh.norm false [5, 7, 8]) (evX (orc T) T 0 l228_0 (stGc f P (ofN X) S P2 (ofN X) S2 m n)) = G := by
  subst hG
  have hc := ref02_cmp (T := T) (ofN X) (ofN X) (by omega) (by omega)
  rw [val_ofN, show cmpN X X = 0 by unfold cmpN; rw [if_neg (by omega), if_neg (by omega)]] at hc
  have t1 : List.take (ofN X).length (List.drop P.length (P ++ (ofN X ++ S))) = ofN X := by simp
  have t2 : List.take (ofN X).length (List.drop P2.length (P2 ++ (ofN X ++ S2))) = ofN X := by simp
  have b1 : P.length + (ofN X).length ≤ (P ++ (ofN X ++ S)).length := by simp
  have b2 : P2.length + (ofN X).length ≤ (P2 ++ (ofN X ++ S2)).length := by simp
  unfold stGc
  generalize P ++ (ofN X ++ S) = Q at *
  generalize P2 ++ (ofN X ++ S2) = R at *
  generalize ofN X = A at *
  cases f <;> constructor <;> simp -implicitDefEqProofs [l228_0, nm2, nmX, nmY, hc, t1, t2, b1, b2]
structure Gc where
  f : Bool
  P : List UInt32
  S : List UInt32
  P2 : List UInt32
  S2 : List UInt32
  X : Nat
  Y : Nat
theorem gc_loop (G m n : Nat) : ∀ y : Gc, ((ofN y.X).length ≤ 10000 ∧ (ofN y.Y).length ≤ 10000 ∧ y.X % 2 = 1 ∧ y.Y % 2 = 1 ∧ Nat.gcd y.X y.Y = G) →
    ∃ r, (∃ (f : Bool) (P S : List UInt32), r = (Ex.n, (⟨[(5, .bs (nm2 f).1 1 1 P.length (ofN G).length), (7, .i .i64 m), (8, .i .i64 n)], [((nm2 f).1, ⟨1, .own, 1, u32s (P ++ (ofN G ++ S))⟩)], 3⟩ : St))) ∧
      loopN T 0 0 (.norm false [5, 7, 8]) l228_0 (stGc y.f y.P (ofN y.X) y.S y.P2 (ofN y.Y) y.S2 m n) = some r := by
  refine loopN_ex (fun y : Gc => stGc y.f y.P (ofN y.X) y.S y.P2 (ofN y.Y) y.S2 m n) _ (fun y => y.X + y.Y) _ ?_
  rintro ⟨f, P, S, P2, S2, X, Y⟩ ⟨hX, hY, oX, oY, hG⟩
  simp only at hX hY oX oY hG ⊢
  rcases Nat.lt_trichotomy X Y with h | h | h
  · left
    obtain ⟨P', S', k, x, e1, e2, he⟩ := gc_lt (T := T) f P S P2 S2 X Y m n hX hY h
    have hle : x ≤ Y - X := by rw [e1]; exact Nat.le_mul_of_pos_left _ (Nat.pow_pos (by decide))
    refine ⟨⟨!f, P', S', P, S, x, X⟩, ⟨?_, hX, e2, oX, ?_⟩, by simp only; omega, he⟩
    · have := ofN_len_le (show x ≤ Y by omega)
      simp only; omega
    · simp only
      rw [gcd_less oX (Nat.le_of_lt h) e1, ← hG, Nat.gcd_comm]
  · right
    subst h
    rw [Nat.gcd_self] at hG
    subst hG
    obtain ⟨h1, h2⟩ := gc_eq (T := T) f P S P2 S2 X m n hX rfl
    exact ⟨_, ⟨f, P, S, rfl⟩, h1, h2⟩
  · left
    obtain ⟨P', S', k, x, e1, e2, he⟩ := gc_gt (T := T) f P S P2 S2 X Y m n hX hY h
    have hle : x ≤ X - Y := by rw [e1]; exact Nat.le_mul_of_pos_left _ (Nat.pow_pos (by decide))
    refine ⟨⟨f, P', S', P2, S2, x, Y⟩, ⟨?_, hY, e2, oY, ?_⟩, by simp only; omega, he⟩
    · have := ofN_len_le (show x ≤ X by omega)
      simp only; omega
    · simp only
      rw [gcd_less oY (Nat.le_of_lt h) e1, ← hG]
theorem ref06_gcd (a b : List UInt32) (ha : a.length ≤ 10000) (hb : b.length ≤ 10000) : callF T 228 [.sl (u32s a) .an, .sl (u32s b) .an] = some (.sl (u32s (ofN (Nat.gcd (val a) (val b)))) .an) := by
  have n1 := ref02_norm_own (T := T) a (by omega)
  have n2 := ref02_norm_own (T := T) b (by omega)
  have la := ofN_length_le a
  have lb := ofN_length_le b
  rw [f228 _ rfl, b228]
  generalize val a = X at *
  generalize val b = Y at *
  have tX : List.take (ofN X).length (ofN X) = ofN X := List.take_of_length_le (Nat.le_refl _)
  have tY : List.take (ofN Y).length (ofN Y) = ofN Y := List.take_of_length_le (Nat.le_refl _)
  by_cases hX : X = 0
  · subst hX
    rw [Nat.gcd_zero_left]
    simp only [ofN_zero] at n1
    generalize ofN Y = B at *
    simp -implicitDefEqProofs [n1, n2, tY]
  · have eX : ¬ ofN X = [] := fun e => hX (ofN_eq_nil.1 e)
    by_cases hY : Y = 0
    · subst hY
      rw [Nat.gcd_zero_right]
      simp only [ofN_zero] at n2
      generalize ofN X = A at *
      simp -implicitDefEqProofs [n1, n2, eX, tX]
    · have eY : ¬ ofN Y = [] := fun e => hY (ofN_eq_nil.1 e)
      obtain ⟨P1, S1, x, m, e1, e2, e3, e4, e5, o1⟩ := ref06_odd (T := T) [] (ofN X) [] (by omega) (by rw [val_ofN]; exact hX)
      obtain ⟨P2, S2, y, n, g1, g2, g3, g4, g5, o2⟩ := ref06_odd (T := T) [] (ofN Y) [] (by omega) (by rw [val_ofN]; exact hY)
      rw [val_ofN] at e1 g1
      obtain ⟨_, ⟨f, P, S, rfl⟩, hl⟩ := gc_loop (T := T) (Nat.gcd x y) m n ⟨true, P1, S1, P2, S2, x, y⟩ ⟨by simp only; omega, by simp only; omega, e2, g2, rfl⟩
      have hG : Nat.gcd X Y = 2 ^ (min m n) * Nat.gcd x y := by rw [e1, g1]; exact gcd_two e2 g2
      have hgl : (ofN (Nat.gcd x y)).length ≤ 10000 := by
        have := ofN_len_le (Nat.gcd_le_left y (show 0 < x by omega))
        omega
      have hdb := ref06_double (T := T) (ofN (Nat.gcd x y)) (min m n) hgl (by omega)
      rw [val_ofN, ← hG] at hdb
      simp only [List.nil_append, List.append_nil, List.length_nil] at o1 o2
      unfold stGc at hl
      have t1 : List.take (ofN (Nat.gcd x y)).length (List.drop P.length (P ++ (ofN (Nat.gcd x y) ++ S))) = ofN (Nat.gcd x y) := by simp
      have b1 : P.length + (ofN (Nat.gcd x y)).length ≤ (P ++ (ofN (Nat.gcd x y) ++ S)).length := by simp
      have hmin : (if n < m then (n : Int) else (m : Int)) = ((min m n : Nat) : Int) := by split <;> omega
      clear e1 e2 e3 e4 e5 g1 g2 g3 g4 g5 hG hgl
      generalize min m n = K at *
      generalize P ++ (ofN (Nat.gcd x y) ++ S) = Q at *
      generalize P1 ++ (ofN x ++ S1) = Q1 at *
      generalize P2 ++ (ofN y ++ S2) = Q2 at *
      generalize ofN (Nat.gcd x y) = g at *
      generalize ofN (Nat.gcd X Y) = g' at *
      simp only [nm2, nmX, nmY, if_true] at hl
      generalize ofN X = A at *
      generalize ofN Y = B at *
      cases f <;> simp only [Bool.false_eq_true, if_false, if_true] at hl <;> simp -implicitDefEqProofs [n1, n2, eX, eY, o1, o2, hl, hdb, t1, b1, hmin, mm2]
end
end Go.Ab
end

section
namespace Go.Ab
section
variable {T : Tbl} [CRef08 T]
theorem ref08_norm (n : Bool) (a : List UInt32) (ha : a.length ≤ 1000000) : callF T 39 [wh n a] = some (ez (wv n a)) := by
  have h := ref02_norm (T := T) a ha
  have hl : (0 < (ofN (val a)).length) = (val a ≠ 0) := by
    rw [eq_iff_iff, List.length_pos_iff]
    exact not_congr ofN_eq_nil
  rw [f39 _ rfl, b39]
  unfold wv
  rw [ez_sg]
  cases n <;> simp -implicitDefEqProofs [h, hl]
theorem ref08_add (n m : Bool) (a b : List UInt32) (ha : a.length ≤ 10000) (hb : b.length ≤ 10000) : callF T 24 [wh n a, wh m b] = some (ez (wv n a + wv m b)) := by
  have hc := ref02_cmp (T := T) a b (by omega) (by omega)
  rw [f24 _ rfl, b24]
  have fin : ∀ (s : Bool) (k : Nat), sg s k = wv n a + wv m b → (ofN k).length ≤ 1000000 → callF T 39 [wh s (ofN k)] = some (ez (wv n a + wv m b)) := by
    intro s k h1 h2
    rw [ref08_norm (T := T) s (ofN k) h2]
    have : wv s (ofN k) = sg s k := by unfold wv; rw [val_ofN]
    rw [this, h1]
  have hla := ofN_length_le a
  have hlb := ofN_length_le b
  obtain ⟨z, hz⟩ : ∃ z, z = wv n a + wv m b := ⟨_, rfl⟩
  by_cases h : n = m
  · subst h
    have h1 := ref02_add (T := T) a b (by omega) (by omega)
    have h2 := fin n (val a + val b) (sg_add_same _ _ _) (by
      have := abs_add_len (x := (val a : Int)) (y := val b) (L := 10000) (by simpa using Nat.le_trans hla ha) (by simpa using Nat.le_trans hlb hb)
      have e : ((val a : Int) + val b).natAbs = val a + val b := by omega
      rw [e] at this
      omega)
    rw [← hz] at h2 ⊢
    simp -implicitDefEqProofs [h1, h2]
  · by_cases hlt : val a < val b
    · have h1 := ref02_sub (T := T) b a (by omega) (by omega) (by omega)
      have h2 := fin m (val b - val a) (sg_add_lt h hlt) (by have := ofN_len_le (Nat.sub_le (val b) (val a)); omega)
      rw [← hz] at h2 ⊢
      simp -implicitDefEqProofs [h, hc, cmpN_lt, hlt, h1, h2]
    · have h1 := ref02_sub (T := T) a b (by omega) (by omega) (by omega)
      have h2 := fin n (val a - val b) (sg_add_ge h hlt) (by have := ofN_len_le (Nat.sub_le (val a) (val b)); omega)
      rw [← hz] at h2 ⊢
      simp -implicitDefEqProofs [h, hc, cmpN_lt, hlt, h1, h2]
end
end Go.Ab
end

section
namespace Go.Ab
theorem sg_mulr (n : Bool) (x y : Nat) : sg n (x * y) = sg n x * (y : Int) := by cases n <;> simp [sg, Int.neg_mul]
theorem fz_den (q : Rat) : val (fz q).2.2 ≠ 0 := by
  unfold fz
  rw [val_ofN]
  exact q.den_nz
theorem quo_law2 (n m : Bool) (x y d e : Nat) : mkRat (sg n x) d / mkRat (sg m y) e = mkRat (sg (n != m) (x * e)) (d * y) := by
  rw [sg_mul, Rat.div_def, ← Rat.divInt_ofNat, ← Rat.divInt_ofNat, ← Rat.divInt_ofNat, Rat.inv_divInt, Rat.divInt_mul_divInt]
  cases m
  · simp only [sg, Bool.false_eq_true, if_false, Int.natCast_mul]
  · simp only [sg, if_true, Int.natCast_mul, Int.mul_neg]
    rw [← Rat.neg_divInt_neg, Int.neg_neg]
section
variable {T : Tbl} [CRef02 T] [CRef04 T] [CRef05 T] [CRef07 T] [CRef06 T] [CRef08 T] [CRef09 T]
theorem ref09_norm (x : Fz) (hx : fsz x ≤ 10000) : callF T 231 [efz x] = some (efz (fz (fv x))) := by
  obtain ⟨n, a, d⟩ := x
  have la := fsz_a (n, a, d)
  have ld := fsz_d (n, a, d)
  simp only at la ld
  have n1 := ref02_norm (T := T) a (by omega)
  have n2 := ref02_norm (T := T) d (by omega)
  have la2 := ofN_length_le a
  have ld2 := ofN_length_le d
  have ho := ref06_one (T := T) d
  have hg := ref06_gcd (T := T) (ofN (val a)) (ofN (val d)) (by omega) (by omega)
  rw [val_ofN, val_ofN] at hg
  show _ = some (efz (fz (mkRat (sg n (val a)) (val d))))
  by_cases hd : val d = 0
  · rw [hd, Rat.mkRat_zero, fz_zero, f231 _ rfl, b231]
    rw [hd] at n2
    simp only [ofN_zero] at n2
    simp -implicitDefEqProofs [n1, n2, show u32s [1] = [[u32 1]] from rfl]
  · by_cases ha : val a = 0
    · have e0 : mkRat (sg n (val a)) (val d) = 0 := by rw [Rat.mkRat_eq_zero hd, ha]; cases n <;> rfl
      have ed : ¬ ofN (val d) = [] := fun e => hd (ofN_eq_nil.1 e)
      rw [e0, fz_zero, f231 _ rfl, b231]
      rw [ha] at n1
      simp only [ofN_zero] at n1
      simp -implicitDefEqProofs [n1, n2, ed, show u32s [1] = [[u32 1]] from rfl]
    · have ea : ¬ ofN (val a) = [] := fun e => ha (ofN_eq_nil.1 e)
      have ed : ¬ ofN (val d) = [] := fun e => hd (ofN_eq_nil.1 e)
      rw [fz_mk n (val a) hd, show decide (val a ≠ 0) = true by simpa using ha, Bool.and_true]
      have gpos : Nat.gcd (val a) (val d) ≠ 0 := by
        have := Nat.gcd_pos_of_pos_right (val a) (Nat.pos_of_ne_zero hd)
        omega
      have glen : (ofN (Nat.gcd (val a) (val d))).length ≤ 10000 := by
        have := ofN_len_le (Nat.gcd_le_right (val a) (Nat.pos_of_ne_zero hd))
        omega
      have o1 := ref06_over (T := T) (ofN (val a)) (ofN (Nat.gcd (val a) (val d))) (by omega) glen (by rw [val_ofN]; exact gpos)
      have o2 := ref06_over (T := T) (ofN (val d)) (ofN (Nat.gcd (val a) (val d))) (by omega) glen (by rw [val_ofN]; exact gpos)
      rw [val_ofN, val_ofN] at o1 o2
      rw [f231 _ rfl, b231]
      by_cases h1 : val d = 1
      · rw [h1] at n2 ho ed ⊢
        rw [Nat.gcd_one_right, Nat.div_one, Nat.div_one]
        generalize ofN (val a) = A at *
        generalize ofN 1 = O at *
        simp -implicitDefEqProofs [n1, n2, ho, ea, ed]
      · generalize ofN (val a / Nat.gcd (val a) (val d)) = A' at *
        generalize ofN (val d / Nat.gcd (val a) (val d)) = D' at *
        generalize ofN (Nat.gcd (val a) (val d)) = G at *
        generalize ofN (val a) = A at *
        generalize ofN (val d) = D at *
        simp -implicitDefEqProofs [n1, n2, ho, ea, ed, h1, hg, o1, o2]
theorem ref02_of (n : Nat) (h : n < 18446744073709551616) : callF T 353 [u64 n] = some (.sl (u32s (ofN n)) .an) := by
  have e2 : val [w32 n, w32 (n / 4294967296)] = n := by simp [w32_mod]; omega
  have h2 := ref02_norm (T := T) [w32 n, w32 (n / 4294967296)] (by simp)
  rw [e2] at h2
  have h3 : n / 4294967296 % 4294967296 = n / 4294967296 := Nat.mod_eq_of_lt (by omega)
  have h4 : n / 4294967296 % 18446744073709551616 = n / 4294967296 := Nat.mod_eq_of_lt (by omega)
  rw [f353 _ rfl, b353]
  simp -implicitDefEqProofs [h3, h4, u32s_set _ _ _ (show n / 4294967296 < 4294967296 by omega), h2]
theorem ref09_int (k : Int) (h1 : -9223372036854775808 ≤ k) (h2 : k < 9223372036854775808) : callF T 232 [.i .i64 k] = some (efz (fz (k : Rat))) := by
  have hu : u32s [1] = [[u32 1]] := rfl
  rw [f232 _ rfl, b232]
  by_cases hk : k < 0
  · have w1 : IntKind.wrap .i64 (k + 1) = k + 1 := wrap_i64 _ (by omega)
    have w2 : IntKind.wrap .i64 (-(k + 1)) = -(k + 1) := wrap_i64 _ (by omega)
    have w3 : (-(k + 1) % 18446744073709551616).toNat = k.natAbs - 1 := by omega
    have c1 := ref02_of (T := T) (k.natAbs - 1) (by omega)
    have c2 := ref02_add (T := T) (ofN (k.natAbs - 1)) [1] (by have := ofN_length_le' (n := k.natAbs - 1) (k := 2) (by show _ < 18446744073709551616; omega); omega) (by decide)
    have e1 : val (ofN (k.natAbs - 1)) + val [1] = k.natAbs := by rw [val_ofN]; show _ + (1 + 4294967296 * 0) = _; omega
    rw [e1, hu] at c2
    have c3 := ref09_norm (T := T) (true, ofN k.natAbs, [1]) (by
      have := ofN_length_le' (n := k.natAbs) (k := 2) (by show _ < 18446744073709551616; omega)
      unfold fsz; simp only [List.length_singleton]; omega)
    have e2 : fv (true, ofN k.natAbs, [1]) = (k : Rat) := by
      unfold fv wv
      simp only [val_ofN]
      rw [show val [1] = 1 from rfl, show sg true k.natAbs = k by unfold sg; rw [if_pos rfl]; omega]
      rw [← Rat.divInt_ofNat]
      exact Rat.num_divInt_den (k : Rat)
    rw [e2] at c3
    change callF T 231 [.agg [.b true, .sl (u32s (ofN k.natAbs)) .an, .sl (u32s [1]) .an]] = _ at c3
    rw [hu] at c3
    generalize fz (k : Rat) = z at *
    simp -implicitDefEqProofs [hk, w1, w2, w3, c1, c2, c3]
  · have w3 : (k % 18446744073709551616).toNat = k.natAbs := by omega
    have c1 := ref02_of (T := T) k.natAbs (by omega)
    have c3 := ref09_norm (T := T) (false, ofN k.natAbs, [1]) (by
      have := ofN_length_le' (n := k.natAbs) (k := 2) (by show _ < 18446744073709551616; omega)
      unfold fsz; simp only [List.length_singleton]; omega)
    have e2 : fv (false, ofN k.natAbs, [1]) = (k : Rat) := by
      unfold fv wv
      simp only [val_ofN]
      rw [show val [1] = 1 from rfl, show sg false k.natAbs = k by unfold sg; simp; omega]
      rw [← Rat.divInt_ofNat]
      exact Rat.num_divInt_den (k : Rat)
    rw [e2] at c3
    change callF T 231 [.agg [.b false, .sl (u32s (ofN k.natAbs)) .an, .sl (u32s [1]) .an]] = _ at c3
    rw [hu] at c3
    generalize fz (k : Rat) = z at *
    simp -implicitDefEqProofs [hk, w3, c1, c3]
theorem ref09_int0 : callF T 232 [.i .i64 0] = some (efz (fz 0)) := ref09_int 0 (by decide) (by decide)
theorem ref09_int1 : callF T 232 [.i .i64 1] = some (efz (fz 1)) := ref09_int 1 (by decide) (by decide)
theorem ref09_same (x y : Fz) (hx : fsz x ≤ 10000) : callF T 233 [efz x, efz y] = some (.b (decide (x = y))) := by
  obtain ⟨n, a, d⟩ := x
  obtain ⟨m, b, e⟩ := y
  have la := fsz_a (n, a, d)
  have ld := fsz_d (n, a, d)
  simp only at la ld
  have c1 := ref02_same (T := T) a b (by omega)
  have c2 := ref02_same (T := T) d e (by omega)
  rw [f233 _ rfl, b233]
  by_cases h1 : n = m
  · subst h1
    by_cases h2 : a = b
    · subst h2
      by_cases h3 : d = e
      · subst h3
        simp -implicitDefEqProofs [c1, c2]
      · simp -implicitDefEqProofs [c1, c2, h3]
    · simp -implicitDefEqProofs [c1, h2]
  · simp -implicitDefEqProofs [c1, c2, h1]
theorem ref09_long (x : Fz) (k : Nat) : callF T 247 [efz x, .i .i64 k] = some (.b (decide (k < fsz x))) := by
  obtain ⟨n, a, d⟩ := x
  unfold fsz
  rw [f247 _ rfl, b247]
  by_cases h1 : k < a.length
  · have h3 : k < max a.length d.length := by omega
    simp -implicitDefEqProofs [h1, h3]
  · by_cases h2 : k < d.length
    · have h3 : k < max a.length d.length := by omega
      simp -implicitDefEqProofs [h1, h2, h3]
    · have h3 : ¬ k < max a.length d.length := by omega
      simp -implicitDefEqProofs [h1, h2, h3]
theorem ref09_mul (x y : Fz) (hx : fsz x ≤ 1000) (hy : fsz y ≤ 1000) : callF T 241 [efz x, efz y] = some (efz (fz (fv x * fv y))) := by
  obtain ⟨n, a, d⟩ := x
  obtain ⟨m, b, e⟩ := y
  have la := fsz_a (n, a, d)
  have ld := fsz_d (n, a, d)
  have lb := fsz_a (m, b, e)
  have le := fsz_d (m, b, e)
  simp only at la ld lb le
  have c1 := ref04_mul (T := T) a b (by omega) (by omega)
  have c2 := ref04_mul (T := T) d e (by omega) (by omega)
  have l1 : (ofN (val a * val b)).length ≤ 2000 := by
    have := nat_mul_len (x := val a) (y := val b) (L := 1000) (M := 1000) (Nat.le_trans (ofN_length_le a) (by omega)) (Nat.le_trans (ofN_length_le b) (by omega))
    omega
  have l2 : (ofN (val d * val e)).length ≤ 2000 := by
    have := nat_mul_len (x := val d) (y := val e) (L := 1000) (M := 1000) (Nat.le_trans (ofN_length_le d) (by omega)) (Nat.le_trans (ofN_length_le e) (by omega))
    omega
  have c3 := ref09_norm (T := T) (n != m, ofN (val a * val b), ofN (val d * val e)) (by unfold fsz; simp only; omega)
  have e1 : fv (n != m, ofN (val a * val b), ofN (val d * val e)) = fv (n, a, d) * fv (m, b, e) := by
    unfold fv wv
    simp only [val_ofN]
    rw [sg_mul, Rat.mkRat_mul_mkRat]
  rw [e1] at c3
  rw [f241 _ rfl, b241]
  clear e1 l1 l2
  generalize fz (fv (n, a, d) * fv (m, b, e)) = z at *
  generalize ofN (val a * val b) = A at *
  generalize ofN (val d * val e) = D at *
  simp -implicitDefEqProofs [c1, c2, c3, pendOk_cons]
theorem ref09_quo (x y : Fz) (hx : fsz x ≤ 1000) (hy : fsz y ≤ 1000) : callF T 242 [efz x, efz y] = some (efz (fz (fv x / fv y))) := by
  obtain ⟨n, a, d⟩ := x
  obtain ⟨m, b, e⟩ := y
  have la := fsz_a (n, a, d)
  have ld := fsz_d (n, a, d)
  have lb := fsz_a (m, b, e)
  have le := fsz_d (m, b, e)
  simp only at la ld lb le
  have c1 := ref04_mul (T := T) a e (by omega) (by omega)
  have c2 := ref04_mul (T := T) d b (by omega) (by omega)
  have l1 : (ofN (val a * val e)).length ≤ 2000 := by
    have := nat_mul_len (x := val a) (y := val e) (L := 1000) (M := 1000) (Nat.le_trans (ofN_length_le a) (by omega)) (Nat.le_trans (ofN_length_le e) (by omega))
    omega
  have l2 : (ofN (val d * val b)).length ≤ 2000 := by
    have := nat_mul_len (x := val d) (y := val b) (L := 1000) (M := 1000) (Nat.le_trans (ofN_length_le d) (by omega)) (Nat.le_trans (ofN_length_le b) (by omega))
    omega
  have c3 := ref09_norm (T := T) (n != m, ofN (val a * val e), ofN (val d * val b)) (by unfold fsz; simp only; omega)
  have e1 : fv (n != m, ofN (val a * val e), ofN (val d * val b)) = fv (n, a, d) / fv (m, b, e) := by
    unfold fv wv
    simp only [val_ofN]
    rw [quo_law2]
  rw [e1] at c3
  rw [f242 _ rfl, b242]
  clear e1 l1 l2
  generalize fz (fv (n, a, d) / fv (m, b, e)) = z at *
  generalize ofN (val a * val e) = A at *
  generalize ofN (val d * val b) = D at *
  simp -implicitDefEqProofs [c1, c2, c3, pendOk_cons]
theorem ref09_neg (x : Fz) (hx : fsz x ≤ 10000) : callF T 237 [efz x] = some (efz (fz (-fv x))) := by
  obtain ⟨n, a, d⟩ := x
  have c3 := ref09_norm (T := T) (!n, a, d) hx
  have e1 : fv (!n, a, d) = -fv (n, a, d) := by
    unfold fv wv
    simp only
    rw [sg_not, Rat.neg_mkRat]
  rw [e1] at c3
  rw [f237 _ rfl, b237]
  generalize fz (-fv (n, a, d)) = z at *
  simp -implicitDefEqProofs [c3]
theorem ref09_add (x y : Fz) (hx : fsz x ≤ 1000) (hy : fsz y ≤ 1000) (h1 : val x.2.2 ≠ 0) (h2 : val y.2.2 ≠ 0) : callF T 239 [efz x, efz y] = some (efz (fz (fv x + fv y))) := by
  obtain ⟨n, a, d⟩ := x
  obtain ⟨m, b, e⟩ := y
  have la := fsz_a (n, a, d)
  have ld := fsz_d (n, a, d)
  have lb := fsz_a (m, b, e)
  have le := fsz_d (m, b, e)
  simp only at la ld lb le h1 h2
  have c1 := ref04_mul (T := T) a e (by omega) (by omega)
  have c2 := ref04_mul (T := T) b d (by omega) (by omega)
  have c4 := ref04_mul (T := T) d e (by omega) (by omega)
  have l1 : (ofN (val a * val e)).length ≤ 2000 := by
    have := nat_mul_len (x := val a) (y := val e) (L := 1000) (M := 1000) (Nat.le_trans (ofN_length_le a) (by omega)) (Nat.le_trans (ofN_length_le e) (by omega))
    omega
  have l2 : (ofN (val b * val d)).length ≤ 2000 := by
    have := nat_mul_len (x := val b) (y := val d) (L := 1000) (M := 1000) (Nat.le_trans (ofN_length_le b) (by omega)) (Nat.le_trans (ofN_length_le d) (by omega))
    omega
  have l4 : (ofN (val d * val e)).length ≤ 2000 := by
    have := nat_mul_len (x := val d) (y := val e) (L := 1000) (M := 1000) (Nat.le_trans (ofN_length_le d) (by omega)) (Nat.le_trans (ofN_length_le e) (by omega))
    omega
  have c3 := ref08_add (T := T) n m (ofN (val a * val e)) (ofN (val b * val d)) (by omega) (by omega)
  have e3 : wv n (ofN (val a * val e)) + wv m (ofN (val b * val d)) = sg n (val a) * (val e : Int) + sg m (val b) * (val d : Int) := by
    unfold wv
    rw [val_ofN, val_ofN, sg_mulr, sg_mulr]
  have l3 : (ofN (sg n (val a) * (val e : Int) + sg m (val b) * (val d : Int)).natAbs).length ≤ 3000 := by
    rw [← e3]
    have := abs_add_len (x := wv n (ofN (val a * val e))) (y := wv m (ofN (val b * val d))) (L := 2000) (Nat.le_trans (wv_len _ _) l1) (Nat.le_trans (wv_len _ _) l2)
    omega
  rw [e3] at c3
  obtain ⟨z, hz⟩ : ∃ z, z = sg n (val a) * (val e : Int) + sg m (val b) * (val d : Int) := ⟨_, rfl⟩
  rw [← hz] at c3 l3
  have c5 := ref09_norm (T := T) (decide (z < 0), ofN z.natAbs, ofN (val d * val e)) (by unfold fsz; simp only; omega)
  have e1 : fv (decide (z < 0), ofN z.natAbs, ofN (val d * val e)) = fv (n, a, d) + fv (m, b, e) := by
    unfold fv
    simp only [val_ofN, wv_ez]
    rw [hz]
    exact (Rat.mkRat_add_mkRat _ _ h1 h2).symm
  rw [e1] at c5
  rw [f239 _ rfl, b239]
  clear e1 e3 hz l1 l2 l3 l4 h1 h2
  generalize fz (fv (n, a, d) + fv (m, b, e)) = R at *
  generalize ofN (val a * val e) = A at *
  generalize ofN (val b * val d) = B at *
  generalize ofN (val d * val e) = D at *
  simp -implicitDefEqProofs [c1, c2, c3, c4, c5, pendOk_cons]
theorem ref09_addQ (p q : Rat) (hp : sz p ≤ 1000) (hq : sz q ≤ 1000) : callF T 239 [efz (fz p), efz (fz q)] = some (efz (fz (p + q))) := by
  have := ref09_add (T := T) (fz p) (fz q) hp hq (fz_den p) (fz_den q)
  rwa [fv_fz, fv_fz] at this
theorem ref09_mulQ (p q : Rat) (hp : sz p ≤ 1000) (hq : sz q ≤ 1000) : callF T 241 [efz (fz p), efz (fz q)] = some (efz (fz (p * q))) := by
  have := ref09_mul (T := T) (fz p) (fz q) hp hq
  rwa [fv_fz, fv_fz] at this
end
end Go.Ab
end

section
namespace Go.Ab
def powR (x : Rat) : Nat → Rat
  | 0 => 1
  | n + 1 => powR x n * x
def evlK (l : List Rat) (x : Rat) : Nat → Rat
  | 0 => 0
  | n + 1 => evlK l x n + l.getD n 0 * powR x n
theorem powR_sz {x : Rat} {C : Nat} (hx : sz x ≤ C) : ∀ n, sz (powR x n) ≤ 1 + n * C
  | 0 => by simp [powR, sz_one]
  | n + 1 => by
    have h1 := powR_sz hx n
    have h2 := sz_mul (powR x n) x
    simp only [powR]
    rw [Nat.succ_mul]
    omega
theorem evlK_sz {l : List Rat} {x : Rat} {B C N : Nat} (hx : sz x ≤ C) (hl : ∀ q ∈ l, sz q ≤ B) : ∀ n, n ≤ l.length → n ≤ N → sz (evlK l x n) ≤ 1 + n * (B + N * C + 2)
  | 0, _, _ => by simp [evlK, sz_zero]
  | n + 1, h, hN => by
    have h1 := evlK_sz (N := N) hx hl n (by omega) (by omega)
    have h2 := powR_sz hx n
    have hd : l.getD n 0 = l[n]'(by omega) := by simp [List.getD_eq_getElem?_getD, List.getElem?_eq_getElem (show n < l.length by omega)]
    have h3 := hl _ (List.getElem_mem (show n < l.length by omega))
    have h4 := sz_mul (l.getD n 0) (powR x n)
    have h5 := sz_add (evlK l x n) (l.getD n 0 * powR x n)
    have h6 : n * C ≤ N * C := Nat.mul_le_mul_right _ (by omega)
    rw [hd] at h4 h5
    simp only [evlK]
    rw [Nat.succ_mul, hd]
    omega
theorem evlR_powR (x : Rat) : ∀ (l : List Rat), evlR l x = evlK l x l.length := by
  have shift : ∀ (a : Rat) (l : List Rat) (n : Nat), evlK (a :: l) x (n + 1) = a + evlK l x n * x := by
    intro a l n
    induction n with
    | zero => simp [evlK, powR, Rat.mul_one, Rat.zero_add, Rat.zero_mul, Rat.add_zero]
    | succ n ih =>
      rw [evlK, ih]
      simp only [List.getD_cons_succ, evlK, powR]
      rw [Rat.add_mul, ← Rat.mul_assoc, Rat.add_assoc]
  intro l
  induction l with
  | nil => rfl
  | cons a l ih => rw [evlR, ih, List.length_cons, shift, Rat.add_comm]
section
variable {T : Tbl} [CNat T] [CProd T] [CTwos T] [CQuot T] [CQuotD T] [CText T] [CWhole T] [CCommon T] [CFrac T] [CJoin T] [CRow T] [CRef02 T] [CRef04 T] [CRef05 T] [CRef07 T] [CRef06 T] [CRef08 T] [CRef09 T] [CRef14 T]
theorem ref09_zero (q : Rat) : callF T 235 [efz (fz q)] = some (.b (decide (q = 0))) := by
  have h : ((fz q).2.1.length = 0) ↔ q = 0 := by
    constructor
    · intro h
      have h1 : (ofN q.num.natAbs).length = 0 := h
      rw [List.length_eq_zero_iff] at h1
      have h2 : val (ofN q.num.natAbs) = 0 := by rw [h1]; rfl
      rw [val_ofN] at h2
      exact sgQ_zero.1 (sgI_zero.2 (by omega))
    · intro h
      rw [h, fz_zero]
      rfl
  rw [f235 _ rfl, b235]
  by_cases hz : q = 0
  · have h1 := h.2 hz
    rw [decide_eq_true hz]
    clear h
    generalize fz q = X at *
    simp -implicitDefEqProofs [h1]
  · have h1 : ¬ (fz q).2.1.length = 0 := fun x => hz (h.1 x)
    have h2 : ¬ ((fz q).2.1.length : Int) = 0 := by omega
    rw [decide_eq_false hz]
    clear h
    generalize fz q = X at *
    simp -implicitDefEqProofs [h1, h2]
theorem ref14_at (l : List Rat) (i : Nat) (hl : l.length ≤ 1000) : callF T 355 [.sl (rowF (fzs l)) .an, .i .i64 i] = some (efz (fz (l.getD i 0))) := by
  have c := ref09_int0 (T := T)
  have hlf : (fzs l).length = l.length := fzs_length l
  rw [f355 _ rfl, b355]
  by_cases hi : i < l.length
  · have hg : (fzs l)[i]? = some (fz (l[i]'hi)) := fzs_get (List.getElem?_eq_getElem hi)
    obtain ⟨_, hgE⟩ := List.getElem?_eq_some_iff.1 hg
    have e : l.getD i 0 = l[i]'hi := by simp [List.getD_eq_getElem?_getD, List.getElem?_eq_getElem hi]
    have h1 : i < (fzs l).length := by omega
    have h2 : (i : Int) < (fzs l).length := by omega
    rw [e]
    clear e hlf
    generalize fz (l[i]'hi) = X at *
    generalize fzs l = M at *
    simp -implicitDefEqProofs [h1, h2, hg, hgE]
  · have e : l.getD i 0 = 0 := by simp [List.getD_eq_getElem?_getD, List.getElem?_eq_none (show l.length ≤ i by omega)]
    have h1 : ¬ i < (fzs l).length := by omega
    have h2 : ¬ (i : Int) < (fzs l).length := by omega
    rw [e]
    clear e hlf
    generalize fz 0 = X at *
    generalize fzs l = M at *
    simp -implicitDefEqProofs [h1, h2, c]
theorem rnorm_loop (l : List Rat) (hl : l.length ≤ 1000) : ∀ n : Nat, n ≤ l.length →
    loopN T 0 0 (.norm false [0, 3]) l349_0 ⟨[(0, .sl (rowF (fzs l)) .an), (3, .i .i64 n)], [], 2⟩ = some (.n, ⟨[(0, .sl (rowF (fzs l)) .an), (3, .i .i64 (tlen l n))], [], 2⟩) := by
  refine loopN_eq (fun n : Nat => ⟨[(0, .sl (rowF (fzs l)) .an), (3, .i .i64 n)], [], 2⟩) (fun n => n ≤ l.length) (fun n => n) (fun n => some (.n, ⟨[(0, .sl (rowF (fzs l)) .an), (3, .i .i64 (tlen l n))], [], 2⟩)) ?_
  intro n hn
  cases n with
  | zero =>
    right
    constructor <;> simp -implicitDefEqProofs [l349_0, tlen]
  | succ n =>
    have hi : n < l.length := hn
    have hil : n < (fzs l).length := by simpa using hi
    have hil' : (n : Int) < (fzs l).length := by omega
    have hg : (fzs l)[n]? = some (fz (l[n]'hi)) := fzs_get (List.getElem?_eq_getElem hi)
    obtain ⟨_, hgE⟩ := List.getElem?_eq_some_iff.1 hg
    have c := ref09_zero (T := T) (l[n]'hi)
    have hd : l.getD n 0 = l[n]'hi := by simp [List.getD_eq_getElem?_getD, List.getElem?_eq_getElem hi]
    have hp : (0 : Int) < (n : Int) + 1 := by omega
    have hw : IntKind.wrap .i64 (n : Int) = n := wrap_i64 _ (by omega)
    by_cases hz : l[n]'hi = 0
    · left
      rw [decide_eq_true hz] at c
      refine ⟨n, by omega, by simp, ?_, by simp only [tlen]; rw [if_pos (by rw [hd]; exact hz)]⟩
      clear hz hd
      generalize fzs l = M at *
      generalize fz (l[n]'hi) = X at *
      simp -implicitDefEqProofs [l349_0, hp, hw, hil, hil', hg, hgE, c]
    · right
      rw [decide_eq_false hz] at c
      have ht : tlen l (n + 1) = n + 1 := by simp only [tlen]; rw [if_neg (by rw [hd]; exact hz)]
      rw [ht]
      clear hz hd ht
      generalize fzs l = M at *
      generalize fz (l[n]'hi) = X at *
      constructor <;> simp -implicitDefEqProofs [l349_0, hp, hw, hil, hil', hg, hgE, c]
theorem ref14_norm (l : List Rat) (hl : l.length ≤ 1000) : callF T 349 [.sl (rowF (fzs l)) .an] = some (.sl (rowF (fzs (trimR l))) .an) := by
  have h := rnorm_loop (T := T) l hl l.length (Nat.le_refl _)
  have ht := tlen_le l l.length
  have ef : fzs (trimR l) = (fzs l).take (tlen l l.length) := by simp [trimR, fzs, List.map_take]
  have hL : (fzs l).length = l.length := by simp
  rw [ef, f349 _ rfl, b349]
  clear ef
  generalize tlen l l.length = t at *
  generalize fzs l = M at *
  have ht1 : t ≤ M.length := by omega
  have ht' : (t : Int) ≤ M.length := by omega
  rw [← hL] at h
  have hh := rowF_head M
  have hh2 := rowF_head (M.take t)
  have hm : min t M.length = t := Nat.min_eq_left ht1
  have hb : t ≤ 4294967296 := by omega
  have htt : List.take t (List.take t M) = List.take t M := by rw [List.take_take, Nat.min_self]
  simp -implicitDefEqProofs [h, ht1, ht', hh, hh2, hm, hb, htt]
def stRd (l : List Fz) (i : Nat) : St := ⟨[(0, .sl (rowF l) .an), (3, .bs (.loc 3) 1 3 0 i), (4, .i .i64 ((i : Int) + 1))], [((.loc 3), ⟨1, .own, 3, rowF (fzs ((dif (l.map fv)).take i))⟩)], 3⟩
theorem rdiff_loop (l : List Fz) (h0 : l ≠ []) (hl : l.length ≤ 90) (hw : ∀ y ∈ l, fsz y ≤ 900) :
    loopN T 0 0 (.norm false [3]) l340_0 (stRd l 0) = some (.n, ⟨[(3, .bs (.loc 3) 1 3 0 (l.length - 1))], [((.loc 3), ⟨1, .own, 3, rowF (fzs (dif (l.map fv)))⟩)], 3⟩) := by
  have hpos : 0 < l.length := List.length_pos_iff.2 h0
  refine range_loop (stRd l) (l.length - 1) _ (fun i hi => ?_) ?_
  · have hil : i + 1 < l.length := by omega
    have hil' : (i : Int) + 1 < l.length := by omega
    have hg : l[i + 1]? = some (l[i + 1]'hil) := List.getElem?_eq_getElem hil
    obtain ⟨k, hk⟩ : ∃ k : Int, k = (i : Int) + 1 := ⟨_, rfl⟩
    have c1 := ref09_int (T := T) k (by omega) (by omega)
    have z1 : sz (k : Rat) ≤ 1 := sz_small' (by omega) (by omega)
    have c2 := ref09_mul (T := T) (fz (k : Rat)) (l[i + 1]'hil) (by rw [fsz_fz]; omega) (by have := hw _ (List.getElem_mem hil); omega)
    rw [fv_fz] at c2
    have ed : (dif (l.map fv)).take (i + 1) = (dif (l.map fv)).take i ++ [(k : Rat) * fv (l[i + 1]'hil)] := by
      have hd : i < (dif (l.map fv)).length := by simp [dif]; omega
      rw [List.take_succ_eq_append_getElem hd]
      congr 2
      simp only [dif, List.getElem_map, List.getElem_range, List.getD_eq_getElem?_getD, List.getElem?_map, hg, Option.map_some, Option.getD_some, hk]
    have ef : fzs ((dif (l.map fv)).take (i + 1)) = fzs ((dif (l.map fv)).take i) ++ [fz ((k : Rat) * fv (l[i + 1]'hil))] := by rw [ed]; simp [fzs]
    have hml : (fzs ((dif (l.map fv)).take i)).length = i := by simp [dif]; omega
    have hws : IntKind.wrap .i64 (k + 1) = k + 1 := wrap_i64 _ (by omega)
    have hb : i ≤ 4294967295 := by omega
    have hp := rowF_push hml (fz ((k : Rat) * fv (l[i + 1]'hil)))
    have hn0 : (0 : Int) ≤ k := by omega
    have hnat : k.toNat = i + 1 := by omega
    have hkl : k < l.length := by omega
    have hk2 : ((i + 1 : Nat) : Int) + 1 = k + 1 := by omega
    unfold stRd
    rw [ef, hk2, ← hk]
    clear ed ef hw z1
    generalize fz ((k : Rat) * fv (l[i + 1]'hil)) = A at *
    generalize fzs ((dif (l.map fv)).take i) = M at *
    simp -implicitDefEqProofs [l340_0, hil, hg, c1, c2, hml, hws, hb, hp, hn0, hnat, hkl]
  · have e : (dif (l.map fv)).take (l.length - 1) = dif (l.map fv) := List.take_of_length_le (by simp [dif])
    have hk : ((l.length - 1 : Nat) : Int) + 1 = l.length := by omega
    unfold stRd
    rw [e, hk]
    generalize fzs (dif (l.map fv)) = M at *
    constructor <;> simp -implicitDefEqProofs [l340_0]
theorem ref14_diff (l : List Fz) (hl : l.length ≤ 90) (hw : ∀ y ∈ l, fsz y ≤ 800) : callF T 340 [.sl (rowF l) .an] = some (.sl (rowF (fzs (trimR (dif (l.map fv))))) .an) := by
  rw [f340 _ rfl, b340]
  by_cases h0 : l = []
  · subst h0
    have c := ref14_norm (T := T) [] (by decide)
    have e2 : trimR (dif (List.map fv [])) = [] := rfl
    have e3 : trimR [] = [] := rfl
    rw [e3] at c
    rw [e2]
    simp only [rowF_nil, fzs, List.map_nil] at c
    have h1 : loopN T 0 0 (.norm false [3]) l340_0 ⟨[(0, .sl [] .an), (3, .bs (.loc 3) 1 3 0 0), (4, .i .i64 1)], [((.loc 3), ⟨1, .own, 3, []⟩)], 3⟩ = some (.n, ⟨[(3, .bs (.loc 3) 1 3 0 0)], [((.loc 3), ⟨1, .own, 3, []⟩)], 3⟩) := by
      refine range_loop (fun _ => ⟨[(0, .sl [] .an), (3, .bs (.loc 3) 1 3 0 0), (4, .i .i64 1)], [((.loc 3), ⟨1, .own, 3, []⟩)], 3⟩) 0 _ (fun i hi => by omega) ?_
      constructor <;> simp -implicitDefEqProofs [l340_0]
    simp only [rowF_nil, fzs, List.map_nil]
    simp -implicitDefEqProofs [c, h1]
  · have h := rdiff_loop (T := T) l h0 hl (fun y hy => Nat.le_trans (hw y hy) (by decide))
    have c := ref14_norm (T := T) (dif (l.map fv)) (by rw [dif_length]; simp; omega)
    have hL : (fzs (dif (l.map fv))).length = l.length - 1 := by rw [fzs_length, dif_length, List.length_map]
    have ht : List.take (l.length - 1) (fzs (dif (l.map fv))) = fzs (dif (l.map fv)) := List.take_of_length_le (by omega)
    have hle : l.length ≤ (fzs (dif (l.map fv))).length + 1 := by omega
    unfold stRd at h
    rw [List.take_zero] at h
    have e0 : fzs [] = [] := rfl
    rw [e0] at h
    simp only [rowF_nil, Int.natCast_zero, Int.zero_add] at h
    clear hw
    generalize fzs (trimR (dif (l.map fv))) = R at *
    generalize fzs (dif (l.map fv)) = M at *
    simp -implicitDefEqProofs [c, h, ht, hle]
def stRe (l : List Rat) (x : Rat) (i : Nat) : St := ⟨[(0, .sl (rowF (fzs l)) .an), (3, .ptr (.loc 3) 1 3 0 0), (4, .ptr (.loc 4) 2 3 0 0), (5, .ptr (.loc 5) 3 3 0 0), (6, .ptr (.loc 6) 4 3 0 0), (7, .i .i64 i)],
  [(.loc 3, ⟨1, .str, 3, [celF (fz x)]⟩), (.loc 4, ⟨2, .str, 3, [nocell]⟩), (.loc 5, ⟨3, .str, 3, [celF (fz (evlK l x i))]⟩), (.loc 6, ⟨4, .str, 3, [celF (fz (powR x i))]⟩)], 6⟩
theorem reval_loop (l : List Rat) (x : Rat) {B C : Nat} (hl : l.length ≤ 1000) (hx : sz x ≤ C) (hw : ∀ q ∈ l, sz q ≤ B) (hS : 1 + l.length * (B + l.length * C + 2) ≤ 1000) :
    loopN T 0 0 (.norm false [4, 5]) l341_0 (stRe l x 0) = some (.n, ⟨[(4, .ptr (.loc 4) 1 3 0 0), (5, .ptr (.loc 5) 2 3 0 0)], [(.loc 4, ⟨1, .str, 3, [nocell]⟩), (.loc 5, ⟨2, .str, 3, [celF (fz (evlK l x l.length))]⟩)], 4⟩) := by
  refine range_loop (stRe l x) l.length _ (fun i hi => ?_) ?_
  · have hg : (fzs l)[i]? = some (fz (l[i]'hi)) := fzs_get (List.getElem?_eq_getElem hi)
    obtain ⟨_, hgE⟩ := List.getElem?_eq_some_iff.1 hg
    have hil : i < (fzs l).length := by simpa using hi
    have hil' : (i : Int) < (fzs l).length := by omega
    have hws := wrapS hi (by omega)
    have z1 := powR_sz hx i
    have z2 := evlK_sz (N := l.length) hx hw i (by omega) (by omega)
    have z3 := hw _ (List.getElem_mem hi)
    have m1 : i * (B + l.length * C + 2) + (B + l.length * C + 2) ≤ l.length * (B + l.length * C + 2) := by
      rw [← Nat.succ_mul]
      exact Nat.mul_le_mul_right _ hi
    have m2 : i * C + C ≤ l.length * C := by
      rw [← Nat.succ_mul]
      exact Nat.mul_le_mul_right _ hi
    have z4 := sz_mul (l[i]'hi) (powR x i)
    have c1 := ref09_mulQ (T := T) (l[i]'hi) (powR x i) (by omega) (by omega)
    have c2 := ref09_addQ (T := T) (evlK l x i) (l[i]'hi * powR x i) (by omega) (by omega)
    have c3 := ref09_mulQ (T := T) (powR x i) x (by omega) (by omega)
    have hd : l.getD i 0 = l[i]'hi := by simp [List.getD_eq_getElem?_getD, List.getElem?_eq_getElem hi]
    have e1 : evlK l x (i + 1) = evlK l x i + l[i]'hi * powR x i := by rw [evlK, hd]
    have e2 : powR x (i + 1) = powR x i * x := rfl
    unfold stRe
    rw [e1, e2]
    clear hw hS z1 z2 z3 z4 m1 m2 e1 e2 hd
    generalize fz (l[i]'hi * powR x i) = P at *
    generalize fz (evlK l x i + l[i]'hi * powR x i) = S' at *
    generalize fz (evlK l x i) = S at *
    generalize fz (powR x i * x) = Q' at *
    generalize fz (powR x i) = Q at *
    generalize fz (l[i]'hi) = A at *
    generalize fz x = X at *
    have hi2 : (i : Int) < l.length := by omega
    simp -implicitDefEqProofs [l341_0, hi, hil, hil', hg, hgE, hws, c1, c2, c3]
  · unfold stRe
    generalize fz (evlK l x l.length) = S at *
    generalize fz (powR x l.length) = Q at *
    constructor <;> simp -implicitDefEqProofs [l341_0]
theorem ref14_eval (l : List Rat) (x : Rat) {B C : Nat} (hl : l.length ≤ 1000) (hx : sz x ≤ C) (hw : ∀ q ∈ l, sz q ≤ B) (hS : 1 + l.length * (B + l.length * C + 2) ≤ 1000) :
    callF T 341 [.sl (rowF (fzs l)) .an, efz (fz x)] = some (efz (fz (evlR l x))) := by
  have c0 := ref09_int0 (T := T)
  have c1 := ref09_int1 (T := T)
  have h := reval_loop (T := T) l x hl hx hw hS
  rw [← evlR_powR] at h
  unfold stRe at h
  have e1 : evlK l x 0 = 0 := rfl
  have e2 : powR x 0 = 1 := rfl
  rw [e1, e2] at h
  rw [f341 _ rfl, b341]
  clear hw hS e1 e2
  generalize fz (evlR l x) = R at *
  generalize fz 0 = Z at *
  generalize fz 1 = O at *
  generalize fz x = X at *
  simp only [Int.natCast_zero] at h
  simp -implicitDefEqProofs [c0, c1, h]
def padR (a b : List Rat) : List Rat := (List.range (max a.length b.length)).map fun (i : Nat) => a.getD i 0 + b.getD i 0
theorem padR_length (a b : List Rat) : (padR a b).length = max a.length b.length := by simp [padR]
theorem getD_sz {l : List Rat} {B : Nat} (hB : 1 ≤ B) (h : ∀ q ∈ l, sz q ≤ B) (i : Nat) : sz (l.getD i 0) ≤ B := by
  by_cases hi : i < l.length
  · have hd : l.getD i 0 = l[i]'hi := by simp [List.getD_eq_getElem?_getD, List.getElem?_eq_getElem hi]
    rw [hd]
    exact h _ (List.getElem_mem hi)
  · have hd : l.getD i 0 = 0 := by simp [List.getD_eq_getElem?_getD, List.getElem?_eq_none (show l.length ≤ i by omega)]
    rw [hd, sz_zero]
    exact hB
def stRa (a b : List Rat) (i : Nat) : St := ⟨[(0, .sl (rowF (fzs a)) .an), (1, .sl (rowF (fzs b)) .an), (5, .bs (.loc 5) 1 3 0 i), (6, .i .i64 i)], [((.loc 5), ⟨1, .own, 3, rowF (fzs ((padR a b).take i))⟩)], 3⟩
theorem radd_loop (a b : List Rat) (ha : a.length ≤ 1000) (hb : b.length ≤ 1000) (h1 : ∀ q ∈ a, sz q ≤ 900) (h2 : ∀ q ∈ b, sz q ≤ 900) :
    loopN T 0 0 (.norm false [5]) l348_0 (stRa a b 0) = some (.n, ⟨[(5, .bs (.loc 5) 1 3 0 (max a.length b.length))], [((.loc 5), ⟨1, .own, 3, rowF (fzs (padR a b))⟩)], 3⟩) := by
  refine range_loop (stRa a b) (max a.length b.length) _ (fun i hi => ?_) ?_
  · have c1 := ref14_at (T := T) a i ha
    have c2 := ref14_at (T := T) b i hb
    have c3 := ref09_addQ (T := T) (a.getD i 0) (b.getD i 0) (Nat.le_trans (getD_sz (by decide) h1 i) (by decide)) (Nat.le_trans (getD_sz (by decide) h2 i) (by decide))
    have hd : i < (padR a b).length := by rw [padR_length]; exact hi
    have ed : (padR a b).take (i + 1) = (padR a b).take i ++ [a.getD i 0 + b.getD i 0] := by
      rw [List.take_succ_eq_append_getElem hd]
      congr 2
      simp [padR]
    have ef : fzs ((padR a b).take (i + 1)) = fzs ((padR a b).take i) ++ [fz (a.getD i 0 + b.getD i 0)] := by rw [ed]; simp [fzs]
    have hml : (fzs ((padR a b).take i)).length = i := by rw [fzs_length, List.length_take, Nat.min_eq_left (by omega)]
    have hws := wrapS hi (by omega)
    have hb4 : i ≤ 4294967295 := by omega
    have hp := rowF_push hml (fz (a.getD i 0 + b.getD i 0))
    have hla : (fzs a).length = a.length := by simp
    have hlb : (fzs b).length = b.length := by simp
    unfold stRa
    rw [ef]
    clear ed ef h1 h2 hd
    generalize fz (a.getD i 0 + b.getD i 0) = S at *
    generalize fz (a.getD i 0) = X at *
    generalize fz (b.getD i 0) = Y at *
    generalize fzs ((padR a b).take i) = M at *
    by_cases hia : i < a.length
    · have q1 : i < (fzs a).length := by omega
      have q2 : (i : Int) < (fzs a).length := by omega
      clear hla hlb
      generalize fzs a = A at *
      generalize fzs b = B at *
      simp -implicitDefEqProofs [l348_0, q1, q2, c1, c2, c3, hml, hws, hb4, hp]
    · have q1 : ¬ i < (fzs a).length := by omega
      have q2 : ¬ (i : Int) < (fzs a).length := by omega
      have q3 : i < (fzs b).length := by omega
      have q4 : (i : Int) < (fzs b).length := by omega
      clear hla hlb
      generalize fzs a = A at *
      generalize fzs b = B at *
      simp -implicitDefEqProofs [l348_0, q1, q2, q3, q4, c1, c2, c3, hml, hws, hb4, hp]
  · have e : (padR a b).take (max a.length b.length) = padR a b := List.take_of_length_le (by rw [padR_length]; exact Nat.le_refl _)
    have q1 : ¬ max a.length b.length < (fzs a).length := by rw [fzs_length]; omega
    have q3 : ¬ max a.length b.length < (fzs b).length := by rw [fzs_length]; omega
    unfold stRa
    rw [e]
    generalize max a.length b.length = n at *
    have q2 : ¬ (n : Int) < (fzs a).length := by omega
    have q4 : ¬ (n : Int) < (fzs b).length := by omega
    generalize fzs (padR a b) = M at *
    generalize fzs a = A at *
    generalize fzs b = B at *
    constructor <;> simp -implicitDefEqProofs [l348_0, q1, q2, q3, q4]
theorem ref14_add (a b : List Rat) (ha : a.length ≤ 1000) (hb : b.length ≤ 1000) (h1 : ∀ q ∈ a, sz q ≤ 900) (h2 : ∀ q ∈ b, sz q ≤ 900) :
    callF T 348 [.sl (rowF (fzs a)) .an, .sl (rowF (fzs b)) .an] = some (.sl (rowF (fzs (trimR (padR a b)))) .an) := by
  have h := radd_loop (T := T) a b ha hb h1 h2
  have c := ref14_norm (T := T) (padR a b) (by rw [padR_length]; omega)
  have hL : (fzs (padR a b)).length = max a.length b.length := by rw [fzs_length, padR_length]
  unfold stRa at h
  rw [List.take_zero] at h
  have e0 : fzs [] = [] := rfl
  rw [e0] at h
  simp only [rowF_nil, Int.natCast_zero] at h
  rw [f348 _ rfl, b348]
  clear h1 h2
  generalize max a.length b.length = n at *
  generalize fzs (trimR (padR a b)) = R at *
  generalize fzs (padR a b) = M at *
  have ht : List.take n M = M := List.take_of_length_le (by omega)
  simp -implicitDefEqProofs [h, c, ht, hL]
end
end Go.Ab
end

section
namespace Go.Ab
def cvK (a b : List Rat) (n : Nat) : Nat → Rat
  | 0 => 0
  | k + 1 => cvK a b n k + a.getD k 0 * b.getD (n - k) 0
theorem cvK_sz {a b : List Rat} {B : Nat} (hB : 1 ≤ B) (h1 : ∀ q ∈ a, sz q ≤ B) (h2 : ∀ q ∈ b, sz q ≤ B) (n : Nat) : ∀ k, sz (cvK a b n k) ≤ 1 + k * (2 * B + 1)
  | 0 => by simp [cvK, sz_zero]
  | k + 1 => by
    have ih := cvK_sz hB h1 h2 n k
    have h3 := getD_sz hB h1 k
    have h4 := getD_sz hB h2 (n - k)
    have h5 := sz_mul (a.getD k 0) (b.getD (n - k) 0)
    have h6 := sz_add (cvK a b n k) (a.getD k 0 * b.getD (n - k) 0)
    simp only [cvK]
    rw [Nat.succ_mul]
    omega
section
variable {T : Tbl} [CNat T] [CProd T] [CTwos T] [CQuot T] [CQuotD T] [CText T] [CWhole T] [CCommon T] [CFrac T] [CJoin T] [CRow T] [CRef02 T] [CRef04 T] [CRef05 T] [CRef07 T] [CRef06 T] [CRef08 T] [CRef09 T] [CRef14 T]
def stRm (a b O : List Rat) (n j : Nat) : St := ⟨[(0, .sl (rowF (fzs a)) .an), (1, .sl (rowF (fzs b)) .an), (5, .bs (.loc 5) 1 3 0 n), (6, .i .i64 n), (7, .ptr (.loc 7) 2 3 0 0), (8, .i .i64 j)],
  [((.loc 5), ⟨1, .own, 3, rowF (fzs O)⟩), (.loc 7, ⟨2, .str, 3, [celF (fz (cvK a b n j))]⟩)], 4⟩
theorem rmul_in (a b O : List Rat) (n : Nat) {B : Nat} (ha : a.length ≤ 20) (hb : b.length ≤ 20) (hn : n ≤ 100) (hB : 1 ≤ B) (h1 : ∀ q ∈ a, sz q ≤ B) (h2 : ∀ q ∈ b, sz q ≤ B) (hS : 1 + a.length * (2 * B + 1) ≤ 1000) :
    loopN T 0 2 (.norm false [0, 1, 5, 6, 7]) l347_0 (stRm a b O n 0) = some (.n, ⟨[(0, .sl (rowF (fzs a)) .an), (1, .sl (rowF (fzs b)) .an), (5, .bs (.loc 5) 1 3 0 n), (6, .i .i64 n), (7, .ptr (.loc 7) 2 3 0 0)],
      [((.loc 5), ⟨1, .own, 3, rowF (fzs O)⟩), (.loc 7, ⟨2, .str, 3, [celF (fz (cvK a b n (min (n + 1) a.length)))]⟩)], 4⟩) := by
  have hla : (fzs a).length = a.length := by simp
  have hlb : (fzs b).length = b.length := by simp
  refine range_loop (stRm a b O n) (min (n + 1) a.length) _ (fun j hj => ?_) ?_
  · have hja : j < a.length := by omega
    have hjn : j ≤ n := by omega
    have q1 : (j : Int) ≤ n := by omega
    have q2 : (j : Int) < (fzs a).length := by omega
    have q2' : j < (fzs a).length := by omega
    have hg : (fzs a)[j]? = some (fz (a[j]'hja)) := fzs_get (List.getElem?_eq_getElem hja)
    obtain ⟨_, hgE⟩ := List.getElem?_eq_some_iff.1 hg
    have hws := wrapS (i := j) (n := 200) (by omega) (by decide)
    obtain ⟨m, hm⟩ : ∃ m : Nat, m = n - j := ⟨_, rfl⟩
    have hsub : IntKind.wrap .i64 ((n : Int) - j) = m := by rw [wrap_i64 _ (by omega)]; omega
    have hda : a.getD j 0 = a[j]'hja := by simp [List.getD_eq_getElem?_getD, List.getElem?_eq_getElem hja]
    have e : cvK a b n (j + 1) = cvK a b n j + a[j]'hja * b.getD m 0 := by rw [cvK, hda, hm]
    have z1 := cvK_sz hB h1 h2 n j
    have m1 : j * (2 * B + 1) + (2 * B + 1) ≤ a.length * (2 * B + 1) := by
      rw [← Nat.succ_mul]
      exact Nat.mul_le_mul_right _ hja
    have z2 := h1 _ (List.getElem_mem hja)
    unfold stRm
    rw [e]
    by_cases hk : m < b.length
    · have hdb : b.getD m 0 = b[m]'hk := by simp [List.getD_eq_getElem?_getD, List.getElem?_eq_getElem hk]
      have z3 := h2 _ (List.getElem_mem hk)
      have z4 := sz_mul (a[j]'hja) (b[m]'hk)
      have c1 := ref09_mulQ (T := T) (a[j]'hja) (b[m]'hk) (by omega) (by omega)
      have c2 := ref09_addQ (T := T) (cvK a b n j) (a[j]'hja * b[m]'hk) (by omega) (by omega)
      have hg2 : (fzs b)[m]? = some (fz (b[m]'hk)) := fzs_get (List.getElem?_eq_getElem hk)
      obtain ⟨_, hgE2⟩ := List.getElem?_eq_some_iff.1 hg2
      have q3 : (m : Int) < (fzs b).length := by omega
      have q3' : m < (fzs b).length := by omega
      rw [hdb]
      clear h1 h2 hS z1 z2 z3 z4 m1 e hda hdb hm
      generalize fz (cvK a b n j + a[j]'hja * b[m]'hk) = S' at *
      generalize fz (cvK a b n j) = S at *
      generalize fz (a[j]'hja * b[m]'hk) = P at *
      generalize fz (a[j]'hja) = X at *
      generalize fz (b[m]'hk) = Y at *
      clear hla hlb
      generalize fzs a = A at *
      generalize fzs b = C at *
      generalize fzs O = OO at *
      simp -implicitDefEqProofs [l347_0, q1, q2, q2', q3, q3', hg, hgE, hg2, hgE2, hws, hsub, c1, c2]
    · have hdb : b.getD m 0 = 0 := by simp [List.getD_eq_getElem?_getD, List.getElem?_eq_none (show b.length ≤ m by omega)]
      have q3 : ¬ (m : Int) < (fzs b).length := by omega
      have q3' : ¬ m < (fzs b).length := by omega
      rw [hdb, Rat.mul_zero, Rat.add_zero]
      clear h1 h2 hS z1 z2 m1 e hda hdb hm
      generalize fz (cvK a b n j) = S at *
      clear hla hlb
      generalize fzs a = A at *
      generalize fzs b = C at *
      generalize fzs O = OO at *
      simp -implicitDefEqProofs [l347_0, q1, q2, q2', q3, q3', hws, hsub]
  · unfold stRm
    generalize fz (cvK a b n (min (n + 1) a.length)) = S at *
    by_cases hc : n + 1 ≤ a.length
    · rw [Nat.min_eq_left hc]
      have q1 : ¬ ((n + 1 : Nat) : Int) ≤ n := by omega
      generalize fzs a = A at *
      generalize fzs b = C at *
      generalize fzs O = OO at *
      generalize n + 1 = j at *
      constructor <;> simp -implicitDefEqProofs [l347_0, q1]
    · rw [Nat.min_eq_right (by omega)]
      have q1 : (a.length : Int) ≤ n := by omega
      have q2 : ¬ (a.length : Int) < (fzs a).length := by omega
      have q2' : ¬ a.length < (fzs a).length := by omega
      generalize a.length = j at *
      generalize fzs a = A at *
      generalize fzs b = C at *
      generalize fzs O = OO at *
      constructor <;> simp -implicitDefEqProofs [l347_0, q1, q2, q2']
def cnv (a b : List Rat) : List Rat := (List.range (a.length + b.length)).map fun (n : Nat) => cvK a b n (min (n + 1) a.length)
theorem cnv_length (a b : List Rat) : (cnv a b).length = a.length + b.length := by simp [cnv]
def stRo (a b : List Rat) (n : Nat) : St := ⟨[(0, .sl (rowF (fzs a)) .an), (1, .sl (rowF (fzs b)) .an), (5, .bs (.loc 5) 1 3 0 n), (6, .i .i64 n)], [((.loc 5), ⟨1, .own, 3, rowF (fzs ((cnv a b).take n))⟩)], 3⟩
theorem rmul_out (a b : List Rat) {B : Nat} (ha : a.length ≤ 20) (hb : b.length ≤ 20) (hB : 1 ≤ B) (h1 : ∀ q ∈ a, sz q ≤ B) (h2 : ∀ q ∈ b, sz q ≤ B) (hS : 1 + a.length * (2 * B + 1) ≤ 1000) :
    loopN T 0 0 (.norm false [5]) l347_1 (stRo a b 0) = some (.n, ⟨[(5, .bs (.loc 5) 1 3 0 (a.length + b.length))], [((.loc 5), ⟨1, .own, 3, rowF (fzs (cnv a b))⟩)], 3⟩) := by
  have c0 := ref09_int0 (T := T)
  have hla : (fzs a).length = a.length := by simp
  have hlb : (fzs b).length = b.length := by simp
  have hwl : IntKind.wrap .i64 ((a.length : Int) + b.length) = (a.length : Int) + b.length := wrap_i64 _ (by omega)
  refine range_loop (stRo a b) (a.length + b.length) _ (fun n hn => ?_) ?_
  · have hin := rmul_in (T := T) a b ((cnv a b).take n) n ha hb (by omega) hB h1 h2 hS
    unfold stRm at hin
    have e0 : cvK a b n 0 = 0 := rfl
    rw [e0] at hin
    simp only [Int.natCast_zero] at hin
    have hd : n < (cnv a b).length := by rw [cnv_length]; exact hn
    have ed : (cnv a b).take (n + 1) = (cnv a b).take n ++ [cvK a b n (min (n + 1) a.length)] := by
      rw [List.take_succ_eq_append_getElem hd]
      congr 2
      simp [cnv]
    have ef : fzs ((cnv a b).take (n + 1)) = fzs ((cnv a b).take n) ++ [fz (cvK a b n (min (n + 1) a.length))] := by rw [ed]; simp [fzs]
    have hml : (fzs ((cnv a b).take n)).length = n := by rw [fzs_length, List.length_take, Nat.min_eq_left (by omega)]
    have hws := wrapS hn (by omega)
    have hb4 : n ≤ 4294967295 := by omega
    have hp := rowF_push hml (fz (cvK a b n (min (n + 1) a.length)))
    have q1 : (n : Int) < (a.length : Int) + b.length := by omega
    unfold stRo
    rw [ef]
    clear ed ef h1 h2 hS hd e0
    generalize fz (cvK a b n (min (n + 1) a.length)) = S at *
    generalize fz 0 = Z at *
    generalize fzs ((cnv a b).take n) = M at *
    rw [← hla, ← hlb] at hwl q1
    generalize fzs a = A at *
    generalize fzs b = C at *
    simp -implicitDefEqProofs [l347_1, c0, hin, hml, hws, hb4, hp, q1, hwl]
  · have e : (cnv a b).take (a.length + b.length) = cnv a b := List.take_of_length_le (by rw [cnv_length]; exact Nat.le_refl _)
    unfold stRo
    rw [e]
    clear h1 h2
    generalize fzs (cnv a b) = M at *
    rw [← hla, ← hlb] at hwl
    have q1 : ((a.length + b.length : Nat) : Int) = ((fzs a).length : Int) + (fzs b).length := by omega
    rw [q1]
    generalize a.length + b.length = n at *
    generalize fzs a = A at *
    generalize fzs b = C at *
    constructor <;> simp -implicitDefEqProofs [l347_1, hwl]
theorem ref14_mul (a b : List Rat) {B : Nat} (ha : a.length ≤ 20) (hb : b.length ≤ 20) (hB : 1 ≤ B) (h1 : ∀ q ∈ a, sz q ≤ B) (h2 : ∀ q ∈ b, sz q ≤ B) (hS : 1 + a.length * (2 * B + 1) ≤ 1000) :
    callF T 347 [.sl (rowF (fzs a)) .an, .sl (rowF (fzs b)) .an] = some (.sl (rowF (fzs (trimR (cnv a b)))) .an) := by
  have h := rmul_out (T := T) a b ha hb hB h1 h2 hS
  have c := ref14_norm (T := T) (cnv a b) (by rw [cnv_length]; omega)
  have hL : (fzs (cnv a b)).length = a.length + b.length := by rw [fzs_length, cnv_length]
  unfold stRo at h
  rw [List.take_zero] at h
  have e0 : fzs [] = [] := rfl
  rw [e0] at h
  simp only [rowF_nil, Int.natCast_zero] at h
  rw [f347 _ rfl, b347]
  clear h1 h2
  generalize a.length + b.length = n at *
  generalize fzs (trimR (cnv a b)) = R at *
  generalize fzs (cnv a b) = M at *
  have ht : List.take n M = M := List.take_of_length_le (by omega)
  simp -implicitDefEqProofs [h, c, ht, hL]
end
end Go.Ab
end

section
namespace Go.Ab
section
variable {T : Tbl} [CRef02 T] [CRef04 T] [CRef05 T] [CRef07 T] [CRef06 T] [CRef08 T] [CRef09 T] [CRef11 T]
def stZ1 (n i : Nat) : St := ⟨[(0, .i .i64 n), (3, .bs (.loc 3) 1 3 0 i), (4, .i .i64 i)], [(.loc 3, ⟨1, .own, 3, rowF (List.replicate i (fz 0))⟩)], 3⟩
def stN1 (l : List Fz) (i : Nat) : St := ⟨[(0, .sl (rowF l) .an), (3, .bs (.loc 3) 1 3 0 i), (4, .i .i64 i)], [(.loc 3, ⟨1, .own, 3, rowF (nrm (l.take i))⟩)], 3⟩
theorem norms_loop (l : List Fz) (hl : l.length ≤ 1000) (hw : ∀ x ∈ l, fsz x ≤ 1000) :
    loopN T 0 0 (.norm false [3]) l278_0 (stN1 l 0) = some (.n, ⟨[(3, .bs (.loc 3) 1 3 0 l.length)], [(.loc 3, ⟨1, .own, 3, rowF (nrm l)⟩)], 3⟩) := by
  refine range_loop (stN1 l) l.length _ (fun i hi => ?_) ?_
  · have hg : l[i]? = some (l[i]'hi) := List.getElem?_eq_getElem hi
    have hws := wrapS hi (by omega)
    have hn := ref09_norm (T := T) (l[i]'hi) (Nat.le_trans (hw _ (List.getElem_mem hi)) (by decide))
    have e : nrm (l.take (i + 1)) = nrm (l.take i) ++ [fz (fv (l[i]'hi))] := take_map_succ l _ hi
    have hml : (nrm (l.take i)).length = i := by simp [nrm]; omega
    have hp := rowF_push hml (fz (fv (l[i]'hi)))
    unfold stN1
    rw [e]
    clear e
    generalize nrm (l.take i) = M at *
    generalize fz (fv (l[i]'hi)) = z at *
    have hb : i ≤ 4294967295 := by omega
    simp -implicitDefEqProofs [l278_0, hi, hg, hws, hn, hp, hml, hb]
  · unfold stN1
    rw [List.take_of_length_le (Nat.le_refl _)]
    generalize nrm l = M
    constructor <;> simp -implicitDefEqProofs [l278_0]
theorem ref11_norms (l : List Fz) (hl : l.length ≤ 1000) (hw : ∀ x ∈ l, fsz x ≤ 1000) : callF T 278 [.sl (rowF l) .an] = some (.sl (rowF (nrm l)) .an) := by
  have h := norms_loop (T := T) l hl hw
  unfold stN1 at h
  have e : nrm (l.take 0) = [] := rfl
  rw [e] at h
  simp only [rowF_nil, Int.natCast_zero] at h
  have hl2 : (nrm l).length = l.length := by simp [nrm]
  have ht : List.take l.length (nrm l) = nrm l := List.take_of_length_le (by omega)
  rw [f278 _ rfl, b278]
  simp -implicitDefEqProofs [h, ht, hl2]
def stS1 (a b : List Fz) (i : Nat) : St := ⟨[(0, .sl (rowF a) .an), (1, .sl (rowF b) .an), (5, .i .i64 i)], [], 2⟩
theorem same1_loop (a b : List Fz) (hab : a.length = b.length) (hl : a.length ≤ 1000) (ha : ∀ x ∈ a, fsz x ≤ 10000) :
    loopN T 0 0 (.norm false []) l279_0 (stS1 a b 0) = if a.drop 0 = b.drop 0 then some (.n, ⟨[], [], 2⟩) else some (.r, ⟨[(4, .b false)], [], 2⟩) := by
  refine until_loop (stS1 a b) a.length (fun i => if a.drop i = b.drop i then some (.n, ⟨[], [], 2⟩) else some (.r, ⟨[(4, .b false)], [], 2⟩)) (fun i hi => ?_) ?_
  · have hga : a[i]? = some (a[i]'hi) := List.getElem?_eq_getElem hi
    have hib : i < b.length := by omega
    have hgb : b[i]? = some (b[i]'hib) := List.getElem?_eq_getElem hib
    have hws := wrapS hi (by omega)
    have c := ref09_same (T := T) (a[i]'hi) (b[i]'hib) (ha _ (List.getElem_mem hi))
    have hib' : (i : Int) < b.length := by omega
    have key : (a.drop i = b.drop i) ↔ ((a[i]'hi) = (b[i]'hib) ∧ a.drop (i + 1) = b.drop (i + 1)) := by
      rw [List.drop_eq_getElem_cons hi, List.drop_eq_getElem_cons hib, List.cons.injEq]
    by_cases he : (a[i]'hi) = (b[i]'hib)
    · left
      refine ⟨?_, by simp only [key, he, true_and]⟩
      unfold stS1
      rw [decide_eq_true he] at c
      clear he
      simp -implicitDefEqProofs [l279_0, hi, hga, hgb, hws, c, hib, hib']
    · right
      rw [if_neg (fun h => he (key.1 h).1)]
      unfold stS1
      rw [decide_eq_false he] at c
      clear he
      constructor <;> simp -implicitDefEqProofs [l279_0, hi, hga, hgb, hws, c, hib, hib']
  · rw [List.drop_length, if_pos (by rw [hab, List.drop_length])]
    unfold stS1
    constructor <;> simp -implicitDefEqProofs [l279_0]
theorem ref11_same (a b : List Fz) (hl : a.length ≤ 1000) (ha : ∀ x ∈ a, fsz x ≤ 10000) : callF T 279 [.sl (rowF a) .an, .sl (rowF b) .an] = some (.b (decide (a = b))) := by
  rw [f279 _ rfl, b279]
  by_cases hab : a.length = b.length
  · have h := same1_loop (T := T) a b hab hl ha
    rw [List.drop_zero, List.drop_zero] at h
    unfold stS1 at h
    simp only [Int.natCast_zero] at h
    have hab' : (b.length : Int) = a.length := by omega
    by_cases he : a = b
    · subst he
      rw [if_pos rfl] at h
      simp -implicitDefEqProofs [h]
    · rw [if_neg he] at h
      simp -implicitDefEqProofs [hab', h, he]
  · have he : ¬ a = b := fun h => hab (by rw [h])
    have hab' : ¬ (a.length : Int) = b.length := by omega
    simp -implicitDefEqProofs [hab, hab', he]
def stA1 (p q : List Rat) (i : Nat) : St := ⟨[(0, .sl (rowF (fzs p)) .an), (1, .sl (rowF (fzs q)) .an), (5, .bs (.loc 5) 1 3 0 i), (6, .i .i64 i)], [(.loc 5, ⟨1, .own, 3, rowF (fzs ((addP p (fzs q)).take i))⟩)], 3⟩
def stD1 (p q : List Rat) (i : Nat) : St := ⟨[(0, .sl (rowF (fzs p)) .an), (1, .sl (rowF (fzs q)) .an), (4, .ptr (.loc 4) 1 3 0 0), (5, .ptr (.loc 5) 2 3 0 0), (6, .i .i64 i)],
  [(.loc 4, ⟨1, .str, 3, [nocell]⟩), (.loc 5, ⟨2, .str, 3, [celF (fz (dotK (fzs p) (fzs q) i))]⟩)], 4⟩
def longB (l : List Fz) (many words : Nat) : Bool := decide (many < l.length) || l.any fun x => decide (words < fsz x)
def stL1 (l : List Fz) (many words : Nat) (i : Nat) : St := ⟨[(0, .sl (rowF l) .an), (1, .i .i64 many), (2, .i .i64 words), (7, .i .i64 i)], [], 2⟩
theorem long1_loop (l : List Fz) (many words : Nat) (hl : l.length ≤ many) (hm : many ≤ 1000) :
    loopN T 0 0 (.norm false [0, 1]) l286_0 (stL1 l many words 0) = if (l.drop 0).any (fun x => decide (words < fsz x)) = true then some (.r, ⟨[(6, .b true)], [], 2⟩) else some (.n, ⟨[(0, .sl (rowF l) .an), (1, .i .i64 many)], [], 2⟩) := by
  refine until_loop (stL1 l many words) l.length (fun i => if (l.drop i).any (fun x => decide (words < fsz x)) = true then some (.r, ⟨[(6, .b true)], [], 2⟩) else some (.n, ⟨[(0, .sl (rowF l) .an), (1, .i .i64 many)], [], 2⟩)) (fun i hi => ?_) ?_
  · have hga : l[i]? = some (l[i]'hi) := List.getElem?_eq_getElem hi
    have hws := wrapS hi (by omega)
    have c := ref09_long (T := T) (l[i]'hi) words
    have h3 : (i : Int) < many := by omega
    have h4 : i < many := by omega
    have key : (l.drop i).any (fun x => decide (words < fsz x)) = (decide (words < fsz (l[i]'hi)) || (l.drop (i + 1)).any fun x => decide (words < fsz x)) := by
      rw [List.drop_eq_getElem_cons hi, List.any_cons]
    by_cases he : words < fsz (l[i]'hi)
    · right
      rw [if_pos (by rw [key, decide_eq_true he, Bool.true_or])]
      rw [decide_eq_true he] at c
      unfold stL1
      clear key he
      constructor <;> simp -implicitDefEqProofs [l286_0, hi, h3, h4, hga, hws, c]
    · left
      refine ⟨?_, by simp only [key, decide_eq_false he, Bool.false_or]⟩
      rw [decide_eq_false he] at c
      unfold stL1
      clear key he
      simp -implicitDefEqProofs [l286_0, hi, h3, h4, hga, hws, c]
  · rw [List.drop_length, if_neg (by simp)]
    unfold stL1
    constructor <;> simp -implicitDefEqProofs [l286_0]
theorem ref11_long (l : List Fz) (many words : Nat) (hl : l.length ≤ many) (hm : many ≤ 1000) : callF T 286 [.sl (rowF l) .an, .i .i64 many, .i .i64 words] = some (.b (longB l many words)) := by
  have h := long1_loop (T := T) l many words hl hm
  rw [List.drop_zero] at h
  unfold stL1 at h
  simp only [Int.natCast_zero] at h
  have h1 : ¬ (many : Int) < l.length := by omega
  have h2 : ¬ many < l.length := by omega
  unfold longB
  rw [f286 _ rfl, b286]
  cases hc : l.any fun x => decide (words < fsz x) with
  | true =>
    rw [hc, if_pos rfl] at h
    simp -implicitDefEqProofs [h, h2]
  | false =>
    rw [hc, if_neg (by decide)] at h
    simp -implicitDefEqProofs [h, h1, h2]
theorem long2_loop (l : List Fz) (many words : Nat) (hl : many < l.length) (hm : many ≤ 1000) :
    ∃ r, (r = some (.r, (⟨[(6, .b true)], [], 2⟩ : St)) ∨ r = some (.n, ⟨[(0, .sl (rowF l) .an), (1, .i .i64 many)], [], 2⟩)) ∧ loopN T 0 0 (.norm false [0, 1]) l286_0 (stL1 l many words 0) = r := by
  obtain ⟨G, hG⟩ : ∃ G : Nat → Option (Ex × St), G = fun i => if ((l.take many).drop i).any (fun x => decide (words < fsz x)) = true then some (.r, ⟨[(6, .b true)], [], 2⟩) else some (.n, ⟨[(0, .sl (rowF l) .an), (1, .i .i64 many)], [], 2⟩) := ⟨_, rfl⟩
  refine ⟨G 0, ?_, until_loop (stL1 l many words) many G (fun i hi => ?_) ?_⟩
  · rw [hG]
    simp only
    split
    · exact .inl rfl
    · exact .inr rfl
  · have hil : i < l.length := by omega
    have hil' : (i : Int) < l.length := by omega
    have hga : l[i]? = some (l[i]'hil) := List.getElem?_eq_getElem hil
    have hws := wrapS hi (by omega)
    have c := ref09_long (T := T) (l[i]'hil) words
    have key : ((l.take many).drop i).any (fun x => decide (words < fsz x)) = (decide (words < fsz (l[i]'hil)) || ((l.take many).drop (i + 1)).any fun x => decide (words < fsz x)) := by
      rw [List.drop_eq_getElem_cons (show i < (l.take many).length by simp; omega), List.any_cons, List.getElem_take]
    by_cases he : words < fsz (l[i]'hil)
    · right
      rw [hG]
      simp only
      rw [if_pos (by rw [key, decide_eq_true he, Bool.true_or])]
      rw [decide_eq_true he] at c
      unfold stL1
      clear key he hG
      constructor <;> simp -implicitDefEqProofs [l286_0, hi, hil, hil', hga, hws, c]
    · left
      refine ⟨?_, by rw [hG]; simp only [key, decide_eq_false he, Bool.false_or]⟩
      rw [decide_eq_false he] at c
      unfold stL1
      clear key he hG
      simp -implicitDefEqProofs [l286_0, hi, hil, hil', hga, hws, c]
  · rw [hG]
    simp only
    rw [List.drop_of_length_le (by simp; omega), if_neg (by simp)]
    have h1 : (many : Int) < l.length := by omega
    unfold stL1
    constructor <;> simp -implicitDefEqProofs [l286_0, h1, hl]
theorem ref11_long2 (l : List Fz) (many words : Nat) (hl : many < l.length) (hm : many ≤ 1000) : callF T 286 [.sl (rowF l) .an, .i .i64 many, .i .i64 words] = some (.b true) := by
  obtain ⟨r, hr, h⟩ := long2_loop (T := T) l many words hl hm
  unfold stL1 at h
  simp only [Int.natCast_zero] at h
  have h1 : (many : Int) < l.length := by omega
  rw [f286 _ rfl, b286]
  rcases hr with rfl | rfl
  · simp -implicitDefEqProofs [h]
  · simp -implicitDefEqProofs [h, hl]
theorem ref11_longB (l : List Fz) (many words : Nat) (hm : many ≤ 1000) : callF T 286 [.sl (rowF l) .an, .i .i64 many, .i .i64 words] = some (.b (longB l many words)) := by
  by_cases h : many < l.length
  · rw [ref11_long2 l many words h hm]
    unfold longB
    rw [decide_eq_true h, Bool.true_or]
  · exact ref11_long l many words (by omega) hm
theorem longB_false {l : List Fz} {many words : Nat} (h : longB l many words = false) : l.length ≤ many ∧ ∀ x ∈ l, fsz x ≤ words := by
  unfold longB at h
  simp only [Bool.or_eq_false_iff, decide_eq_false_iff_not, List.any_eq_false, decide_eq_true_eq] at h
  exact ⟨by omega, fun x hx => by have := h.2 x hx; omega⟩
end
end Go.Ab
end

section
namespace Go.Ab
theorem tlen_zero (l : List Rat) : ∀ n i, tlen l n ≤ i → i < n → l.getD i 0 = 0
  | 0, i, _, h => by omega
  | n + 1, i, h, h2 => by
    unfold tlen at h
    split at h
    · next hz =>
      by_cases hi : i = n
      · rw [hi]; exact hz
      · exact tlen_zero l n i h (by omega)
    · omega
theorem trimR_getD (l : List Rat) (i : Nat) : (trimR l).getD i 0 = l.getD i 0 := by
  unfold trimR
  have ht := tlen_le l l.length
  by_cases h1 : i < tlen l l.length
  · simp only [List.getD_eq_getElem?_getD, List.getElem?_take, if_pos h1]
  · have e : (l.take (tlen l l.length)).getD i 0 = 0 := by
      simp only [List.getD_eq_getElem?_getD, List.getElem?_take, if_neg h1, Option.getD_none]
    rw [e]
    by_cases h2 : i < l.length
    · exact (tlen_zero l l.length i (by omega) h2).symm
    · simp only [List.getD_eq_getElem?_getD, List.getElem?_eq_none (show l.length ≤ i by omega), Option.getD_none]
theorem trimR_len (l : List Rat) : (trimR l).length ≤ l.length := by
  unfold trimR
  rw [List.length_take]
  omega
theorem trimR_mem {l : List Rat} {q : Rat} (h : q ∈ trimR l) : q ∈ l := List.mem_of_mem_take h
theorem padR_getD (a b : List Rat) (i : Nat) : (padR a b).getD i 0 = a.getD i 0 + b.getD i 0 := by
  by_cases h : i < max a.length b.length
  · have h2 : i < (padR a b).length := by rw [padR_length]; exact h
    rw [List.getD_eq_getElem?_getD, List.getElem?_eq_getElem h2, Option.getD_some]
    simp [padR]
  · have h2 : ¬ i < (padR a b).length := by rw [padR_length]; exact h
    have e1 : (padR a b).getD i 0 = 0 := by rw [List.getD_eq_getElem?_getD, List.getElem?_eq_none (by omega)]; rfl
    have e2 : a.getD i 0 = 0 := by rw [List.getD_eq_getElem?_getD, List.getElem?_eq_none (by omega)]; rfl
    have e3 : b.getD i 0 = 0 := by rw [List.getD_eq_getElem?_getD, List.getElem?_eq_none (by omega)]; rfl
    rw [e1, e2, e3, Rat.add_zero]
theorem dif_getD (l : List Rat) (i : Nat) : (dif l).getD i 0 = (((i : Int) + 1 : Int) : Rat) * l.getD (i + 1) 0 := by
  by_cases h : i < l.length - 1
  · have h2 : i < (dif l).length := by rw [dif_length]; exact h
    rw [List.getD_eq_getElem?_getD, List.getElem?_eq_getElem h2, Option.getD_some]
    simp [dif]
  · have h2 : ¬ i < (dif l).length := by rw [dif_length]; exact h
    have e1 : (dif l).getD i 0 = 0 := by rw [List.getD_eq_getElem?_getD, List.getElem?_eq_none (by omega)]; rfl
    have e2 : l.getD (i + 1) 0 = 0 := by rw [List.getD_eq_getElem?_getD, List.getElem?_eq_none (by omega)]; rfl
    rw [e1, e2, Rat.mul_zero]
theorem evlK_congr {a b : List Rat} (x : Rat) (h : ∀ i, a.getD i 0 = b.getD i 0) : ∀ n, evlK a x n = evlK b x n
  | 0 => rfl
  | n + 1 => by rw [evlK, evlK, evlK_congr x h n, h n]
theorem evlK_long (a : List Rat) (x : Rat) : ∀ k, evlK a x (a.length + k) = evlK a x a.length
  | 0 => rfl
  | k + 1 => by
    have e : a.getD (a.length + k) 0 = 0 := by rw [List.getD_eq_getElem?_getD, List.getElem?_eq_none (by omega)]; rfl
    rw [← Nat.add_assoc, evlK, e, Rat.zero_mul, Rat.add_zero, evlK_long a x k]
theorem evlR_congr {a b : List Rat} (x : Rat) (h : ∀ i, a.getD i 0 = b.getD i 0) : evlR a x = evlR b x := by
  rw [evlR_powR, evlR_powR, ← evlK_long a x b.length, ← evlK_long b x a.length, evlK_congr x h, Nat.add_comm]
def riseQ (h a b : Rat) : Rat := (b - a) / h
def firQ (h a b f : Rat) : Rat := (riseQ h a b - f) / h
def secQ (h a b f g : Rat) : Rat := ((g - riseQ h a b) / h - firQ h a b f) / h
def cubQ (h a b f g : Rat) : List Rat := trimR (padR (trimR [a, f, firQ h a b f]) (trimR (cnv [0, 0, secQ h a b f g] [-h, 1])))
theorem cnv_c (s h : Rat) : cnv [0, 0, s] [-h, 1] = [0, 0, s * -h, s, 0] := by
  simp [cnv, List.range_succ, cvK, Rat.zero_mul, Rat.zero_add, Rat.mul_one, Rat.mul_zero, Rat.add_zero]
theorem cub_getD (h a b f g : Rat) (i : Nat) : (cubQ h a b f g).getD i 0 = [a, f, firQ h a b f + secQ h a b f g * -h, secQ h a b f g].getD i 0 := by
  unfold cubQ
  rw [trimR_getD, padR_getD, trimR_getD, trimR_getD, cnv_c]
  match i with
  | 0 => simp [Rat.add_zero]
  | 1 => simp [Rat.add_zero]
  | 2 => simp
  | 3 => simp [Rat.zero_add]
  | 4 => simp [Rat.add_zero]
  | i + 5 => simp [Rat.add_zero]
theorem cub_len (h a b f g : Rat) : (cubQ h a b f g).length ≤ 4 := by
  unfold cubQ
  have h1 := trimR_len (padR (trimR [a, f, firQ h a b f]) (trimR (cnv [0, 0, secQ h a b f g] [-h, 1])))
  rw [padR_length] at h1
  have h2 := trimR_len [a, f, firQ h a b f]
  have h3 : (trimR (cnv [0, 0, secQ h a b f g] [-h, 1])).length ≤ 4 := by
    rw [cnv_c]
    unfold trimR
    rw [List.length_take]
    have e : tlen [0, 0, secQ h a b f g * -h, secQ h a b f g, 0] [0, 0, secQ h a b f g * -h, secQ h a b f g, 0].length = tlen [0, 0, secQ h a b f g * -h, secQ h a b f g, 0] 4 := by
      show tlen _ (4 + 1) = _
      rw [tlen]
      simp
    rw [e]
    have := tlen_le [0, 0, secQ h a b f g * -h, secQ h a b f g, 0] 4
    omega
  simp only [List.length_cons, List.length_nil] at h2
  omega
def cub1 (h a b f g x : Rat) : Rat := a + f * x + firQ h a b f * x * x + secQ h a b f g * x * x * (x - h)
def cub2 (h a b f g x : Rat) : Rat := f + 2 * firQ h a b f * x + secQ h a b f g * (3 * x * x - 2 * h * x)
theorem cub_val (h a b f g x : Rat) : evlR (cubQ h a b f g) x = cub1 h a b f g x := by
  rw [evlR_congr x (cub_getD h a b f g)]
  simp only [evlR, cub1]
  grind
theorem cub_dif (h a b f g x : Rat) : evlR (trimR (dif (cubQ h a b f g))) x = cub2 h a b f g x := by
  have e : ∀ i, (trimR (dif (cubQ h a b f g))).getD i 0 = [f, 2 * (firQ h a b f + secQ h a b f g * -h), 3 * secQ h a b f g].getD i 0 := by
    intro i
    rw [trimR_getD, dif_getD, cub_getD]
    match i with
    | 0 => simp [Rat.one_mul]
    | 1 => simp
    | 2 => simp
    | i + 3 => simp [Rat.mul_zero]
  rw [evlR_congr x e]
  simp only [evlR, cub2]
  grind
section
variable {T : Tbl} [CNat T] [CProd T] [CTwos T] [CQuot T] [CQuotD T] [CText T] [CWhole T] [CCommon T] [CFrac T] [CJoin T] [CRow T] [CRef02 T] [CRef04 T] [CRef05 T] [CRef07 T] [CRef06 T] [CRef08 T] [CRef09 T] [CRef11 T] [CRef14 T] [CRef41 T]
theorem ref09_subQ (p q : Rat) (hp : sz p ≤ 1000) (hq : sz q ≤ 1000) : callF T 240 [efz (fz p), efz (fz q)] = some (efz (fz (p - q))) := by
  have c1 := ref09_neg (T := T) (fz q) (by rw [fsz_fz]; omega)
  rw [fv_fz] at c1
  have c2 := ref09_addQ (T := T) p (-q) hp (by rw [sz_neg]; exact hq)
  rw [← Rat.sub_eq_add_neg] at c2
  rw [f240 _ rfl, b240]
  generalize fz (p - q) = R at *
  generalize fz (-q) = N at *
  generalize fz p = X at *
  generalize fz q = Y at *
  simp -implicitDefEqProofs [c1, c2]
theorem ref09_quoQ (p q : Rat) (hp : sz p ≤ 1000) (hq : sz q ≤ 1000) : callF T 242 [efz (fz p), efz (fz q)] = some (efz (fz (p / q))) := by
  have := ref09_quo (T := T) (fz p) (fz q) hp hq
  rwa [fv_fz, fv_fz] at this
theorem ref09_signQ (q : Rat) : callF T 236 [efz (fz q)] = some (.i .i64 (sgQ q)) := by
  have h : ((fz q).2.1.length = 0) ↔ q = 0 := by
    constructor
    · intro h
      have h1 : (ofN q.num.natAbs).length = 0 := h
      rw [List.length_eq_zero_iff] at h1
      have h2 : val (ofN q.num.natAbs) = 0 := by rw [h1]; rfl
      rw [val_ofN] at h2
      exact sgQ_zero.1 (sgI_zero.2 (by omega))
    · intro h
      rw [h, fz_zero]
      rfl
  have hs : (fz q).1 = decide (q.num < 0) := rfl
  rw [f236 _ rfl, b236]
  by_cases hz : q = 0
  · have h1 := h.2 hz
    have h3 : sgQ q = 0 := sgQ_zero.2 hz
    rw [h3]
    clear h
    generalize fz q = X at *
    simp -implicitDefEqProofs [h1]
  · have h1 : ¬ (fz q).2.1.length = 0 := fun x => hz (h.1 x)
    have h2 : ¬ ((fz q).2.1.length : Int) = 0 := by omega
    have h4 : q.num ≠ 0 := fun x => hz (sgQ_zero.1 (sgI_zero.2 x))
    by_cases hn : q.num < 0
    · have h3 : sgQ q = -1 := by
        have a1 := sgI_neg.2 hn
        have a2 : sgI q.num = -1 ∨ sgI q.num = 0 ∨ sgI q.num = 1 := by unfold sgI; split <;> (try split) <;> simp
        show sgI q.num = -1
        omega
      rw [decide_eq_true hn] at hs
      rw [h3]
      clear h
      generalize fz q = X at *
      simp -implicitDefEqProofs [h1, h2, hs]
    · have h3 : sgQ q = 1 := by
        have a1 := sgI_pos.2 (show 0 < q.num by omega)
        have a2 : sgI q.num = -1 ∨ sgI q.num = 0 ∨ sgI q.num = 1 := by unfold sgI; split <;> (try split) <;> simp
        show sgI q.num = 1
        omega
      rw [decide_eq_false hn] at hs
      rw [h3]
      clear h
      generalize fz q = X at *
      simp -implicitDefEqProofs [h1, h2, hs]
theorem ref41_norm (t h : Fz) (y0 y1 f0 f1 : List Fz) (ht : fsz t ≤ 1000) (hh : fsz h ≤ 1000) (hl : ∀ r ∈ [y0, y1, f0, f1], r.length ≤ 1000) (hw : ∀ r ∈ [y0, y1, f0, f1], ∀ x ∈ r, fsz x ≤ 1000) :
    callF T 327 [agS t h y0 y1 f0 f1] = some (agS (fz (fv t)) (fz (fv h)) (nrm y0) (nrm y1) (nrm f0) (nrm f1)) := by
  have c1 := ref09_norm (T := T) t (by omega)
  have c2 := ref09_norm (T := T) h (by omega)
  have d1 := ref11_norms (T := T) y0 (hl y0 (by simp)) (hw y0 (by simp))
  have d2 := ref11_norms (T := T) y1 (hl y1 (by simp)) (hw y1 (by simp))
  have d3 := ref11_norms (T := T) f0 (hl f0 (by simp)) (hw f0 (by simp))
  have d4 := ref11_norms (T := T) f1 (hl f1 (by simp)) (hw f1 (by simp))
  clear hl hw
  rw [f327 _ rfl, b327]
  generalize fz (fv t) = t' at *
  generalize fz (fv h) = h' at *
  generalize nrm y0 = a0 at *
  generalize nrm y1 = a1 at *
  generalize nrm f0 = a2 at *
  generalize nrm f1 = a3 at *
  simp -implicitDefEqProofs [c1, c2, d1, d2, d3, d4]
theorem ref41_right (t : Fz) (h : Rat) (y0 y1 f0 f1 : List Fz) (h2 : y0.length ≤ 300) : callF T 328 [agS t (fz h) y0 y1 f0 f1] = some (.b (rightS (fz h) y0 y1 f0 f1)) := by
  have c := ref09_signQ (T := T) h
  rw [f328 _ rfl, b328]
  unfold rightS
  rw [fv_fz, decide_eq_true h2]
  by_cases h1 : 0 < h
  case neg =>
    have e1 : ¬ 0 < sgQ h := fun x => h1 (sgQ_pos.1 x)
    rw [decide_eq_false h1]
    generalize fz h = H at *
    simp -implicitDefEqProofs [c, e1]
  have e1 : 0 < sgQ h := sgQ_pos.2 h1
  rw [decide_eq_true h1]
  generalize fz h = H at *
  by_cases h3 : y1.length = y0.length
  case neg =>
    have e3 : ((y1.length : Int) == (y0.length : Int)) = false := by simp; omega
    have p3 : ((y1.length : Int) = (y0.length : Int)) = False := by simp; omega
    rw [decide_eq_false h3]
    simp -implicitDefEqProofs [c, e1, e3, p3]
  have e3 : ((y1.length : Int) == (y0.length : Int)) = true := by simp; omega
  have p3 : ((y1.length : Int) = (y0.length : Int)) = True := by simp; omega
  rw [decide_eq_true h3]
  by_cases h4 : f0.length = y0.length
  case neg =>
    have e4 : ((f0.length : Int) == (y0.length : Int)) = false := by simp; omega
    have p4 : ((f0.length : Int) = (y0.length : Int)) = False := by simp; omega
    rw [decide_eq_false h4]
    simp -implicitDefEqProofs [c, e1, e3, p3, e4, p4]
  have e4 : ((f0.length : Int) == (y0.length : Int)) = true := by simp; omega
  have p4 : ((f0.length : Int) = (y0.length : Int)) = True := by simp; omega
  rw [decide_eq_true h4]
  have e5 : ((f1.length : Int) == (y0.length : Int)) = decide (f1.length = y0.length) := by
    rw [Bool.eq_iff_iff]
    simp only [beq_iff_eq, decide_eq_true_eq]
    omega
  clear h1 h2 h3 h4
  generalize decide (f1.length = y0.length) = Z at *
  simp -implicitDefEqProofs [c, e1, e3, p3, e4, p4, e5]
theorem cub_szs {h a b f g : Rat} (hh : sz h ≤ 2) (ha : sz a ≤ 2) (hb : sz b ≤ 2) (hf : sz f ≤ 2) (hg : sz g ≤ 2) :
    sz (b - a) ≤ 5 ∧ sz (riseQ h a b) ≤ 7 ∧ sz (riseQ h a b - f) ≤ 10 ∧ sz (firQ h a b f) ≤ 12 ∧ sz (g - riseQ h a b) ≤ 10 ∧ sz ((g - riseQ h a b) / h) ≤ 12 ∧ sz ((g - riseQ h a b) / h - firQ h a b f) ≤ 25 ∧ sz (secQ h a b f g) ≤ 27 := by
  have e1 := sz_sub b a
  have e2 := sz_div (b - a) h
  have e3 := sz_sub (riseQ h a b) f
  have e4 := sz_div (riseQ h a b - f) h
  have e5 := sz_sub g (riseQ h a b)
  have e6 := sz_div (g - riseQ h a b) h
  have e7 := sz_sub ((g - riseQ h a b) / h) (firQ h a b f)
  have e8 := sz_div ((g - riseQ h a b) / h - firQ h a b f) h
  change sz (riseQ h a b) ≤ _ at e2
  change sz (firQ h a b f) ≤ _ at e4
  change sz (secQ h a b f g) ≤ _ at e8
  omega
theorem cub_sz {h a b f g : Rat} (hh : sz h ≤ 2) (ha : sz a ≤ 2) (hb : sz b ≤ 2) (hf : sz f ≤ 2) (hg : sz g ≤ 2) : ∀ q ∈ cubQ h a b f g, sz q ≤ 42 := by
  obtain ⟨_, _, _, z1, _, _, _, z2⟩ := cub_szs hh ha hb hf hg
  intro q hq
  obtain ⟨i, hi, rfl⟩ := List.getElem_of_mem hq
  have e : (cubQ h a b f g)[i]'hi = (cubQ h a b f g).getD i 0 := by rw [List.getD_eq_getElem?_getD, List.getElem?_eq_getElem hi]; rfl
  rw [e, cub_getD]
  have z3 := sz_mul (secQ h a b f g) (-h)
  rw [sz_neg] at z3
  have z4 := sz_add (firQ h a b f) (secQ h a b f g * -h)
  match i with
  | 0 => show sz a ≤ 42; omega
  | 1 => show sz f ≤ 42; omega
  | 2 => show sz (firQ h a b f + secQ h a b f g * -h) ≤ 42; omega
  | 3 => show sz (secQ h a b f g) ≤ 42; omega
  | i + 4 => show sz 0 ≤ 42; rw [sz_zero]; decide
theorem ref41_cubic (t : Fz) (h a b f g : Rat) (i : Nat) (Y0 Y1 F0 F1 : List Fz) (g0 : Y0[i]? = some (fz a)) (g1 : Y1[i]? = some (fz b)) (g2 : F0[i]? = some (fz f)) (g3 : F1[i]? = some (fz g))
    (hh : sz h ≤ 2) (ha : sz a ≤ 2) (hb : sz b ≤ 2) (hf : sz f ≤ 2) (hg : sz g ≤ 2) : callF T 339 [agS t (fz h) Y0 Y1 F0 F1, .i .i64 i] = some (.sl (rowF (fzs (cubQ h a b f g))) .an) := by
  obtain ⟨z1, z2, z3, z4, z5, z6, z7, z8⟩ := cub_szs hh ha hb hf hg
  have c1 := ref09_subQ (T := T) b a (by omega) (by omega)
  have c2 := ref09_quoQ (T := T) (b - a) h (by omega) (by omega)
  change callF T 242 _ = some (efz (fz (riseQ h a b))) at c2
  have c3 := ref09_subQ (T := T) (riseQ h a b) f (by omega) (by omega)
  have c4 := ref09_quoQ (T := T) (riseQ h a b - f) h (by omega) (by omega)
  change callF T 242 _ = some (efz (fz (firQ h a b f))) at c4
  have c5 := ref09_subQ (T := T) g (riseQ h a b) (by omega) (by omega)
  have c6 := ref09_quoQ (T := T) (g - riseQ h a b) h (by omega) (by omega)
  have c7 := ref09_subQ (T := T) ((g - riseQ h a b) / h) (firQ h a b f) (by omega) (by omega)
  have c8 := ref09_quoQ (T := T) ((g - riseQ h a b) / h - firQ h a b f) h (by omega) (by omega)
  change callF T 242 _ = some (efz (fz (secQ h a b f g))) at c8
  have c9 := ref09_int0 (T := T)
  have c10 := ref09_int1 (T := T)
  have c11 := ref09_neg (T := T) (fz h) (by rw [fsz_fz]; omega)
  rw [fv_fz] at c11
  have m1 : ∀ q ∈ [0, 0, secQ h a b f g], sz q ≤ 27 := by
    intro q hq
    simp only [List.mem_cons, List.not_mem_nil, or_false] at hq
    rcases hq with rfl | rfl | rfl
    · rw [sz_zero]; decide
    · rw [sz_zero]; decide
    · exact z8
  have m2 : ∀ q ∈ [-h, 1], sz q ≤ 27 := by
    intro q hq
    simp only [List.mem_cons, List.not_mem_nil, or_false] at hq
    rcases hq with rfl | rfl
    · rw [sz_neg]; omega
    · rw [sz_one]; decide
  have c12 := ref14_mul (T := T) [0, 0, secQ h a b f g] [-h, 1] (B := 27) (by simp) (by simp) (by decide) m1 m2 (by simp)
  have c13 := ref14_norm (T := T) [a, f, firQ h a b f] (by simp)
  have c14 := ref14_add (T := T) (trimR [a, f, firQ h a b f]) (trimR (cnv [0, 0, secQ h a b f g] [-h, 1])) (by have := trimR_len [a, f, firQ h a b f]; simp at this; omega)
    (by have := trimR_len (cnv [0, 0, secQ h a b f g] [-h, 1]); rw [cnv_length] at this; simp at this; omega) (by
      intro q hq
      have hq := trimR_mem hq
      simp only [List.mem_cons, List.not_mem_nil, or_false] at hq
      rcases hq with rfl | rfl | rfl <;> omega) (by
      intro q hq
      have hq := trimR_mem hq
      rw [cnv_c] at hq
      have z9 := sz_mul (secQ h a b f g) (-h)
      rw [sz_neg] at z9
      simp only [List.mem_cons, List.not_mem_nil, or_false] at hq
      rcases hq with rfl | rfl | rfl | rfl | rfl
      · rw [sz_zero]; decide
      · rw [sz_zero]; decide
      · omega
      · omega
      · rw [sz_zero]; decide)
  have r1 : rowF (fzs [0, 0, secQ h a b f g]) = [celF (fz 0), celF (fz 0), celF (fz (secQ h a b f g))] := rfl
  have r2 : rowF (fzs [-h, 1]) = [celF (fz (-h)), celF (fz 1)] := rfl
  have r3 : rowF (fzs [a, f, firQ h a b f]) = [celF (fz a), celF (fz f), celF (fz (firQ h a b f))] := rfl
  rw [r1, r2] at c12
  rw [r3] at c13
  change callF T 348 _ = some (.sl (rowF (fzs (cubQ h a b f g))) .an) at c14
  obtain ⟨l0, k0⟩ := List.getElem?_eq_some_iff.1 g0
  obtain ⟨l1, k1⟩ := List.getElem?_eq_some_iff.1 g1
  obtain ⟨l2, k2⟩ := List.getElem?_eq_some_iff.1 g2
  obtain ⟨l3, k3⟩ := List.getElem?_eq_some_iff.1 g3
  rw [f339 _ rfl, b339]
  clear z1 z2 z3 z4 z5 z6 z7 z8 m1 m2 r1 r2 r3 hh ha hb hf hg
  generalize fzs (cubQ h a b f g) = R at *
  generalize fzs (trimR [a, f, firQ h a b f]) = R1 at *
  generalize fzs (trimR (cnv [0, 0, secQ h a b f g] [-h, 1])) = R2 at *
  generalize fz ((g - riseQ h a b) / h - firQ h a b f) = X1 at *
  generalize fz ((g - riseQ h a b) / h) = X2 at *
  generalize fz (g - riseQ h a b) = X3 at *
  generalize fz (riseQ h a b - f) = X4 at *
  generalize fz (b - a) = X5 at *
  generalize fz (secQ h a b f g) = X6 at *
  generalize fz (firQ h a b f) = X7 at *
  generalize fz (riseQ h a b) = X8 at *
  generalize fz (-h) = X9 at *
  generalize fz h = X10 at *
  generalize fz a = X11 at *
  generalize fz b = X12 at *
  generalize fz f = X13 at *
  generalize fz g = X14 at *
  generalize fz 0 = Z0 at *
  generalize fz 1 = Z1 at *
  have q0 : (i : Int) < Y0.length := by omega
  have q1 : (i : Int) < Y1.length := by omega
  have q2 : (i : Int) < F0.length := by omega
  have q3 : (i : Int) < F1.length := by omega
  simp -implicitDefEqProofs [c1, c2, c3, c4, c5, c6, c7, c8, c9, c10, c11, c12, c13, c14, g0, g1, g2, g3, l0, l1, l2, l3, k0, k1, k2, k3, q0, q1, q2, q3]
def cubV (sl : Bool) (h a b f g x : Rat) : Rat := if sl then cub2 h a b f g x else cub1 h a b f g x
def atQ (sl : Bool) (h x : Rat) (y0 y1 f0 f1 : List Rat) : List Rat := (List.range y0.length).map fun i => cubV sl h (y0.getD i 0) (y1.getD i 0) (f0.getD i 0) (f1.getD i 0) x
theorem atQ_length (sl : Bool) (h x : Rat) (y0 y1 f0 f1 : List Rat) : (atQ sl h x y0 y1 f0 f1).length = y0.length := by simp [atQ]
def stAt (sl : Bool) (t : Fz) (h x : Rat) (y0 y1 f0 f1 : List Rat) (i : Nat) : St :=
  ⟨[(2, .b sl), (3, .ptr (.loc 3) 1 10 0 0), (7, .bs (.loc 7) 2 3 0 i), (8, .ptr (.loc 8) 3 3 0 0), (9, .i .i64 i)],
    [(.loc 3, ⟨1, .str, 10, [[.b t.1, .sl (u32s t.2.1) .an, .sl (u32s t.2.2) .an, .b (fz h).1, .sl (u32s (fz h).2.1) .an, .sl (u32s (fz h).2.2) .an, .sl (rowF (fzs y0)) .an, .sl (rowF (fzs y1)) .an, .sl (rowF (fzs f0)) .an, .sl (rowF (fzs f1)) .an]]⟩),
     (.loc 7, ⟨2, .own, 3, rowF (fzs ((atQ sl h x y0 y1 f0 f1).take i))⟩), (.loc 8, ⟨3, .str, 3, [celF (fz x)]⟩)], 5⟩
theorem at41_loop (sl : Bool) (t : Fz) (h x : Rat) (y0 y1 f0 f1 : List Rat) (hh : sz h ≤ 2) (hx : sz x ≤ 5) (hn : y0.length ≤ 1000) (l1 : y1.length = y0.length) (l2 : f0.length = y0.length) (l3 : f1.length = y0.length)
    (hw : ∀ r ∈ [y0, y1, f0, f1], ∀ q ∈ r, sz q ≤ 2) :
    loopN T 0 0 (.norm false [7]) l330_0 (stAt sl t h x y0 y1 f0 f1 0) = some (.n, ⟨[(7, .bs (.loc 7) 1 3 0 y0.length)], [(.loc 7, ⟨1, .own, 3, rowF (fzs (atQ sl h x y0 y1 f0 f1))⟩)], 3⟩) := by
  refine range_loop (stAt sl t h x y0 y1 f0 f1) y0.length _ (fun i hi => ?_) ?_
  · have hg : ∀ r ∈ [y0, y1, f0, f1], (fzs r)[i]? = some (fz (r.getD i 0)) ∧ sz (r.getD i 0) ≤ 2 := by
      intro r hr
      have hl : i < r.length := by
        have hr2 := hr
        simp only [List.mem_cons, List.not_mem_nil, or_false] at hr2
        rcases hr2 with rfl | rfl | rfl | rfl <;> omega
      have e : r.getD i 0 = r[i]'hl := by rw [List.getD_eq_getElem?_getD, List.getElem?_eq_getElem hl]; rfl
      rw [e]
      exact ⟨fzs_get (List.getElem?_eq_getElem hl), hw r hr _ (List.getElem_mem hl)⟩
    obtain ⟨g0, z0⟩ := hg y0 (by simp)
    obtain ⟨g1, z1⟩ := hg y1 (by simp)
    obtain ⟨g2, z2⟩ := hg f0 (by simp)
    obtain ⟨g3, z3⟩ := hg f1 (by simp)
    have c1 := ref41_cubic (T := T) t h _ _ _ _ i (fzs y0) (fzs y1) (fzs f0) (fzs f1) g0 g1 g2 g3 hh z0 z1 z2 z3
    have zc := cub_sz hh z0 z1 z2 z3
    have lc := cub_len h (y0.getD i 0) (y1.getD i 0) (f0.getD i 0) (f1.getD i 0)
    have hd : i < (atQ sl h x y0 y1 f0 f1).length := by rw [atQ_length]; exact hi
    have ef : fzs ((atQ sl h x y0 y1 f0 f1).take (i + 1)) = fzs ((atQ sl h x y0 y1 f0 f1).take i) ++ [fz (cubV sl h (y0.getD i 0) (y1.getD i 0) (f0.getD i 0) (f1.getD i 0) x)] := by
      rw [List.take_succ_eq_append_getElem hd]
      simp [fzs, atQ]
    have hml : (fzs ((atQ sl h x y0 y1 f0 f1).take i)).length = i := by rw [fzs_length, List.length_take]; omega
    have hws := wrapS hi (by omega)
    have hb4 : i ≤ 4294967295 := by omega
    have hli : (i : Int) < (fzs y0).length := by rw [fzs_length]; omega
    unfold stAt
    rw [ef]
    generalize fzs ((atQ sl h x y0 y1 f0 f1).take i) = M at *
    clear ef hd hw hg g0 g1 g2 g3
    cases sl with
    | false =>
      have c2 := ref14_eval (T := T) (cubQ h (y0.getD i 0) (y1.getD i 0) (f0.getD i 0) (f1.getD i 0)) x (B := 42) (C := 5) (by omega) hx zc (by
        have m1 : (cubQ h (y0.getD i 0) (y1.getD i 0) (f0.getD i 0) (f1.getD i 0)).length * (42 + (cubQ h (y0.getD i 0) (y1.getD i 0) (f0.getD i 0) (f1.getD i 0)).length * 5 + 2) ≤ 4 * (42 + 4 * 5 + 2) := Nat.mul_le_mul lc (by omega)
        omega)
      rw [cub_val] at c2
      change callF T 341 _ = some (efz (fz (cubV false h (y0.getD i 0) (y1.getD i 0) (f0.getD i 0) (f1.getD i 0) x))) at c2
      have hp := rowF_push hml (fz (cubV false h (y0.getD i 0) (y1.getD i 0) (f0.getD i 0) (f1.getD i 0) x))
      clear zc lc z0 z1 z2 z3
      generalize fz (cubV false h (y0.getD i 0) (y1.getD i 0) (f0.getD i 0) (f1.getD i 0) x) = V at *
      generalize fzs (cubQ h (y0.getD i 0) (y1.getD i 0) (f0.getD i 0) (f1.getD i 0)) = C at *
      generalize fz h = H at *
      generalize fz x = X at *
      generalize fzs y0 = Y0 at *
      generalize fzs y1 = Y1 at *
      generalize fzs f0 = F0 at *
      generalize fzs f1 = F1 at *
      simp -implicitDefEqProofs [l330_0, hli, c1, c2, hml, hws, hb4, hp]
    | true =>
      have c3 := ref14_diff (T := T) (fzs (cubQ h (y0.getD i 0) (y1.getD i 0) (f0.getD i 0) (f1.getD i 0))) (by rw [fzs_length]; omega) (by
        intro y hy
        obtain ⟨q, hq, rfl⟩ := List.mem_map.1 hy
        rw [fsz_fz]
        have := zc q hq
        omega)
      rw [fv_fzs] at c3
      have zd := dif_sz (B := 42) (by omega) (by decide) zc
      have ld := trimR_len (dif (cubQ h (y0.getD i 0) (y1.getD i 0) (f0.getD i 0) (f1.getD i 0)))
      rw [dif_length] at ld
      have c2 := ref14_eval (T := T) (trimR (dif (cubQ h (y0.getD i 0) (y1.getD i 0) (f0.getD i 0) (f1.getD i 0)))) x (B := 43) (C := 5) (by omega) hx (fun q hq => zd q (trimR_mem hq)) (by
        have m1 : (trimR (dif (cubQ h (y0.getD i 0) (y1.getD i 0) (f0.getD i 0) (f1.getD i 0)))).length * (43 + (trimR (dif (cubQ h (y0.getD i 0) (y1.getD i 0) (f0.getD i 0) (f1.getD i 0)))).length * 5 + 2) ≤ 4 * (43 + 4 * 5 + 2) := Nat.mul_le_mul (by omega) (by omega)
        omega)
      rw [cub_dif] at c2
      change callF T 341 _ = some (efz (fz (cubV true h (y0.getD i 0) (y1.getD i 0) (f0.getD i 0) (f1.getD i 0) x))) at c2
      have hp := rowF_push hml (fz (cubV true h (y0.getD i 0) (y1.getD i 0) (f0.getD i 0) (f1.getD i 0) x))
      clear zc lc z0 z1 z2 z3 zd ld
      generalize fz (cubV true h (y0.getD i 0) (y1.getD i 0) (f0.getD i 0) (f1.getD i 0) x) = V at *
      generalize fzs (trimR (dif (cubQ h (y0.getD i 0) (y1.getD i 0) (f0.getD i 0) (f1.getD i 0)))) = D at *
      generalize fzs (cubQ h (y0.getD i 0) (y1.getD i 0) (f0.getD i 0) (f1.getD i 0)) = C at *
      generalize fz h = H at *
      generalize fz x = X at *
      generalize fzs y0 = Y0 at *
      generalize fzs y1 = Y1 at *
      generalize fzs f0 = F0 at *
      generalize fzs f1 = F1 at *
      simp -implicitDefEqProofs [l330_0, hli, c1, c2, c3, hml, hws, hb4, hp]
  · have e : (atQ sl h x y0 y1 f0 f1).take y0.length = atQ sl h x y0 y1 f0 f1 := List.take_of_length_le (by rw [atQ_length]; exact Nat.le_refl _)
    have hl0 : (y0.length : Int) = (fzs y0).length := by rw [fzs_length]
    have hl0' : y0.length = (fzs y0).length := by rw [fzs_length]
    unfold stAt
    rw [e]
    clear hw l1 l2 l3
    generalize fzs (atQ sl h x y0 y1 f0 f1) = M at *
    generalize fz h = H at *
    generalize fz x = X at *
    rw [hl0, hl0']
    generalize fzs y0 = Y0 at *
    generalize fzs y1 = Y1 at *
    generalize fzs f0 = F0 at *
    generalize fzs f1 = F1 at *
    constructor <;> simp -implicitDefEqProofs [l330_0]
theorem ref41_at (sl : Bool) (t h s : Rat) (y0 y1 f0 f1 : List Rat) (ht : sz t ≤ 2) (hh : sz h ≤ 2) (hs : sz s ≤ 2) (hn : y0.length ≤ 1000) (l1 : y1.length = y0.length) (l2 : f0.length = y0.length) (l3 : f1.length = y0.length)
    (hw : ∀ r ∈ [y0, y1, f0, f1], ∀ q ∈ r, sz q ≤ 2) :
    callF T 330 [agS (fz t) (fz h) (fzs y0) (fzs y1) (fzs f0) (fzs f1), efz (fz s), .b sl] = some (.sl (rowF (fzs (atQ sl h (s - t) y0 y1 f0 f1))) .an) := by
  have z1 := sz_sub s t
  have c1 := ref09_subQ (T := T) s t (by omega) (by omega)
  have hlp := at41_loop (T := T) sl (fz t) h (s - t) y0 y1 f0 f1 hh (by omega) hn l1 l2 l3 hw
  have hL : (fzs (atQ sl h (s - t) y0 y1 f0 f1)).length = y0.length := by rw [fzs_length, atQ_length]
  unfold stAt at hlp
  rw [List.take_zero] at hlp
  have e0 : fzs [] = [] := rfl
  rw [e0] at hlp
  simp only [rowF_nil, Int.natCast_zero] at hlp
  rw [f330 _ rfl, b330]
  clear hw
  generalize fzs (atQ sl h (s - t) y0 y1 f0 f1) = M at *
  generalize fz (s - t) = X at *
  generalize fz h = H at *
  generalize fz s = S at *
  generalize fz t = TT at *
  have hM : List.take y0.length M = M := List.take_of_length_le (by omega)
  generalize y0.length = n at *
  generalize fzs y0 = Y0 at *
  generalize fzs y1 = Y1 at *
  generalize fzs f0 = F0 at *
  generalize fzs f1 = F1 at *
  simp -implicitDefEqProofs [c1, hlp, hM, hL]
end
end Go.Ab
end

section
namespace Go.Ab
theorem rowF3 (a b c : Fz) : rowF [a, b, c] = [celF a, celF b, celF c] := rfl
theorem rowF4 (a b c d : Fz) : rowF [a, b, c, d] = [celF a, celF b, celF c, celF d] := rfl
theorem rowF2 (a b : Fz) : rowF [a, b] = [celF a, celF b] := rfl
theorem fzs_le {l : List Rat} {B : Nat} (h : ∀ q ∈ l, sz q ≤ B) : ∀ x ∈ fzs l, fsz x ≤ B := by
  intro x hx
  obtain ⟨q, hq, rfl⟩ := List.mem_map.1 hx
  exact h q hq
def prtQ (t h s : Rat) : Rat := (s - t) / h
def facA (h x y : Rat) : List Rat := [y * y * (1 + 2 * x), x * x * (3 + -2 * x), h * x * y * y, h * x * x * -y]
def facS (h x y : Rat) : List Rat := [-(6 * x * y / h), 6 * x * y / h, y * (1 + -3 * x), x * (-2 + 3 * x)]
def mix4 (c : List Rat) (y0 y1 f0 f1 : List Fz) : List Rat := mixF ((fzs c).zip [y0, y1, f0, f1]) (List.replicate y0.length 0)
theorem prodQ3 (a b c : Rat) : prodQ [fz a, fz b, fz c] = a * b * c := by simp [prodQ, Rat.one_mul]
theorem prodQ2 (a b : Rat) : prodQ [fz a, fz b] = a * b := by simp [prodQ, Rat.one_mul]
theorem prodQ4 (a : Fz) (b c d : Rat) : prodQ [a, fz b, fz c, fz d] = fv a * b * c * d := by simp [prodQ, Rat.one_mul]
section
variable {T : Tbl} [CNat T] [CProd T] [CTwos T] [CQuot T] [CQuotD T] [CText T] [CWhole T] [CCommon T] [CFrac T] [CJoin T] [CRow T] [CSpan T]
theorem prt_sz {t h s : Fz} (ht : fsz t ≤ 6) (hh : fsz h ≤ 6) (hs : fsz s ≤ 6) : sz (prtQ (fv t) (fv h) (fv s)) ≤ 19 := by
  unfold prtQ
  have e1 := sz_sub (fv s) (fv t)
  have e2 := sz_fv (L := 6) ht (by decide)
  have e3 := sz_fv (L := 6) hs (by decide)
  have e4 := sz_fv (L := 6) hh (by decide)
  have e5 := sz_div (fv s - fv t) (fv h)
  omega
theorem lin_sz {a b : Int} {x : Rat} {S : Nat} (hx : sz x ≤ S) (ha1 : -100 ≤ a) (ha2 : a ≤ 100) (hb1 : -100 ≤ b) (hb2 : b ≤ 100) : sz ((a : Rat) + (b : Rat) * x) ≤ S + 3 := by
  have h1 := sz_small ha1 ha2
  have h2 := sz_small hb1 hb2
  have h3 := sz_mul (b : Rat) x
  have h4 := sz_add (a : Rat) ((b : Rat) * x)
  omega
theorem mem3 {a b c : Fz} {B : Nat} (h1 : fsz a ≤ B) (h2 : fsz b ≤ B) (h3 : fsz c ≤ B) : ∀ x ∈ [a, b, c], fsz x ≤ B := by
  intro x hx
  simp only [List.mem_cons, List.not_mem_nil, or_false] at hx
  rcases hx with rfl | rfl | rfl <;> assumption
theorem mem2 {a b : Fz} {B : Nat} (h1 : fsz a ≤ B) (h2 : fsz b ≤ B) : ∀ x ∈ [a, b], fsz x ≤ B := by
  intro x hx
  simp only [List.mem_cons, List.not_mem_nil, or_false] at hx
  rcases hx with rfl | rfl <;> assumption
theorem mem4 {a b c d : Fz} {B : Nat} (h1 : fsz a ≤ B) (h2 : fsz b ≤ B) (h3 : fsz c ≤ B) (h4 : fsz d ≤ B) : ∀ x ∈ [a, b, c, d], fsz x ≤ B := by
  intro x hx
  simp only [List.mem_cons, List.not_mem_nil, or_false] at hx
  rcases hx with rfl | rfl | rfl | rfl <;> assumption
theorem span_at (t h s : Fz) (y0 y1 f0 f1 : List Fz) (ht : fsz t ≤ 6) (hh : fsz h ≤ 6) (hs : fsz s ≤ 6) (hr : rightS h y0 y1 f0 f1 = true) (hw : ∀ r ∈ [y0, y1, f0, f1], ∀ x ∈ r, fsz x ≤ 89) :
    callF T 324 [agS t h y0 y1 f0 f1, efz s] = some (.tup [.sl (rowF (fzs (mix4 (facA (fv h) (prtQ (fv t) (fv h) (fv s)) (1 + -1 * prtQ (fv t) (fv h) (fv s))) y0 y1 f0 f1))) .an, .b true]) := by
  have c0 := span_right (T := T) t h y0 y1 f0 f1 (by omega)
  rw [hr] at c0
  have c1 := span_part (T := T) t h s y0 y1 f0 f1 (by omega) (by omega) (by omega)
  have zx := prt_sz ht hh hs
  change callF T 335 _ = some (efz (fz (prtQ (fv t) (fv h) (fv s)))) at c1
  obtain ⟨x, hx⟩ : ∃ x, x = prtQ (fv t) (fv h) (fv s) := ⟨_, rfl⟩
  rw [← hx] at c1 zx
  rw [← hx]
  have zy : sz (1 + -1 * x) ≤ 22 := lin_sz (a := 1) (b := -1) zx (by decide) (by decide) (by decide) (by decide)
  have z1 : sz (1 + 2 * x) ≤ 22 := lin_sz (a := 1) (b := 2) zx (by decide) (by decide) (by decide) (by decide)
  have z2 : sz (3 + -2 * x) ≤ 22 := lin_sz (a := 3) (b := -2) zx (by decide) (by decide) (by decide) (by decide)
  have k1 : callF T 336 [.i .i64 1, .i .i64 (-1), efz (fz x)] = some (efz (fz (1 + -1 * x))) := by
    have := span_linear (T := T) 1 (-1) (fz x) (by rw [fsz_fz]; omega) (by decide) (by decide) (by decide) (by decide)
    rwa [fv_fz] at this
  have k2 : callF T 336 [.i .i64 1, .i .i64 2, efz (fz x)] = some (efz (fz (1 + 2 * x))) := by
    have := span_linear (T := T) 1 2 (fz x) (by rw [fsz_fz]; omega) (by decide) (by decide) (by decide) (by decide)
    rwa [fv_fz] at this
  have k3 : callF T 336 [.i .i64 3, .i .i64 (-2), efz (fz x)] = some (efz (fz (3 + -2 * x))) := by
    have := span_linear (T := T) 3 (-2) (fz x) (by rw [fsz_fz]; omega) (by decide) (by decide) (by decide) (by decide)
    rwa [fv_fz] at this
  generalize 1 + -1 * x = y at *
  have k4 := frac_neg (T := T) (fz y) (by rw [fsz_fz]; omega)
  rw [fv_fz] at k4
  have zn : sz (-y) ≤ 22 := by rw [sz_neg]; exact zy
  have m1 := span_times (T := T) [fz y, fz y, fz (1 + 2 * x)] (B := 22) (by simp) (by decide) (mem3 zy zy z1) (by simp)
  have m2 := span_times (T := T) [fz x, fz x, fz (3 + -2 * x)] (B := 22) (by simp) (by decide) (mem3 (Nat.le_trans zx (by decide)) (Nat.le_trans zx (by decide)) z2) (by simp)
  have m3 := span_times (T := T) [h, fz x, fz y, fz y] (B := 22) (by simp) (by decide) (mem4 (by omega) (Nat.le_trans zx (by decide)) zy zy) (by simp)
  have m4 := span_times (T := T) [h, fz x, fz x, fz (-y)] (B := 22) (by simp) (by decide) (mem4 (by omega) (Nat.le_trans zx (by decide)) (Nat.le_trans zx (by decide)) zn) (by simp)
  have q1 := prodQ_sz (B := 22) (by decide) [fz y, fz y, fz (1 + 2 * x)] (mem3 zy zy z1) 3
  have q2 := prodQ_sz (B := 22) (by decide) [fz x, fz x, fz (3 + -2 * x)] (mem3 (Nat.le_trans zx (by decide)) (Nat.le_trans zx (by decide)) z2) 3
  have q3 := prodQ_sz (B := 22) (by decide) [h, fz x, fz y, fz y] (mem4 (by omega) (Nat.le_trans zx (by decide)) zy zy) 4
  have q4 := prodQ_sz (B := 22) (by decide) [h, fz x, fz x, fz (-y)] (mem4 (by omega) (Nat.le_trans zx (by decide)) (Nat.le_trans zx (by decide)) zn) 4
  simp only [List.take_succ_cons, List.take_nil, List.take_zero, List.length_cons, List.length_nil] at q1 q2 q3 q4
  rw [prodQ3] at m1 m2 q1 q2
  rw [prodQ4] at m3 m4 q3 q4
  simp only [rightS, Bool.and_eq_true, decide_eq_true_eq] at hr
  obtain ⟨⟨⟨⟨_, h2⟩, h3⟩, h4⟩, h5⟩ := hr
  have mx := row_mix (T := T) (fzs (facA (fv h) x y)) [y0, y1, f0, f1] y0.length (by simp [facA]) h2 (by simp) (B := 89) (fzs_le (by
    intro q hq
    simp only [facA, List.mem_cons, List.not_mem_nil, or_false] at hq
    rcases hq with rfl | rfl | rfl | rfl <;> omega)) hw (by decide) (by simp) (by
    intro r hr
    simp only [List.mem_cons, List.not_mem_nil, or_false] at hr
    rcases hr with rfl | rfl | rfl | rfl <;> omega)
  have rw5 := span_rows (T := T) t h y0 y1 f0 f1
  change callF T 271 _ = some (.tup [.sl (rowF (fzs (mix4 (facA (fv h) x y) y0 y1 f0 f1))) .an, .b true]) at mx
  have ef : rowF (fzs (facA (fv h) x y)) = [celF (fz (y * y * (1 + 2 * x))), celF (fz (x * x * (3 + -2 * x))), celF (fz (fv h * x * y * y)), celF (fz (fv h * x * x * -y))] := rfl
  rw [ef] at mx
  rw [rowF3] at m1 m2
  rw [rowF4] at m3 m4
  rw [f324 _ rfl, b324]
  clear hw ef q1 q2 q3 q4 zx zy z1 z2 zn hx
  generalize fzs (mix4 (facA (fv h) x y) y0 y1 f0 f1) = R at *
  generalize [y0, y1, f0, f1] = LL at *
  generalize fz (y * y * (1 + 2 * x)) = F0 at *
  generalize fz (x * x * (3 + -2 * x)) = F1 at *
  generalize fz (fv h * x * y * y) = F2 at *
  generalize fz (fv h * x * x * -y) = F3 at *
  generalize fz (-y) = Y' at *
  generalize fz (1 + 2 * x) = L1 at *
  generalize fz (3 + -2 * x) = L2 at *
  generalize fz x = X at *
  generalize fz y = Y at *
  simp -implicitDefEqProofs [c0, c1, k1, k2, k3, k4, m1, m2, m3, m4, mx, rw5]
theorem span_slope (t h s : Fz) (y0 y1 f0 f1 : List Fz) (ht : fsz t ≤ 6) (hh : fsz h ≤ 6) (hs : fsz s ≤ 6) (hr : rightS h y0 y1 f0 f1 = true) (hw : ∀ r ∈ [y0, y1, f0, f1], ∀ x ∈ r, fsz x ≤ 89) :
    callF T 326 [agS t h y0 y1 f0 f1, efz s] = some (.tup [.sl (rowF (fzs (mix4 (facS (fv h) (prtQ (fv t) (fv h) (fv s)) (1 + -1 * prtQ (fv t) (fv h) (fv s))) y0 y1 f0 f1))) .an, .b true]) := by
  have c0 := span_right (T := T) t h y0 y1 f0 f1 (by omega)
  rw [hr] at c0
  have c1 := span_part (T := T) t h s y0 y1 f0 f1 (by omega) (by omega) (by omega)
  have zx := prt_sz ht hh hs
  change callF T 335 _ = some (efz (fz (prtQ (fv t) (fv h) (fv s)))) at c1
  obtain ⟨x, hx⟩ : ∃ x, x = prtQ (fv t) (fv h) (fv s) := ⟨_, rfl⟩
  rw [← hx] at c1 zx
  rw [← hx]
  have zy : sz (1 + -1 * x) ≤ 22 := lin_sz (a := 1) (b := -1) zx (by decide) (by decide) (by decide) (by decide)
  have z1 : sz (1 + -3 * x) ≤ 22 := lin_sz (a := 1) (b := -3) zx (by decide) (by decide) (by decide) (by decide)
  have z2 : sz (-2 + 3 * x) ≤ 22 := lin_sz (a := -2) (b := 3) zx (by decide) (by decide) (by decide) (by decide)
  have z6 : sz (6 : Rat) ≤ 1 := sz_small (k := 6) (by decide) (by decide)
  have k0 : callF T 205 [.i .i64 6] = some (efz (fz 6)) := frac_of (T := T) 6 (by decide) (by decide)
  have k1 : callF T 336 [.i .i64 1, .i .i64 (-1), efz (fz x)] = some (efz (fz (1 + -1 * x))) := by
    have := span_linear (T := T) 1 (-1) (fz x) (by rw [fsz_fz]; omega) (by decide) (by decide) (by decide) (by decide)
    rwa [fv_fz] at this
  have k2 : callF T 336 [.i .i64 1, .i .i64 (-3), efz (fz x)] = some (efz (fz (1 + -3 * x))) := by
    have := span_linear (T := T) 1 (-3) (fz x) (by rw [fsz_fz]; omega) (by decide) (by decide) (by decide) (by decide)
    rwa [fv_fz] at this
  have k3 : callF T 336 [.i .i64 (-2), .i .i64 3, efz (fz x)] = some (efz (fz (-2 + 3 * x))) := by
    have := span_linear (T := T) (-2) 3 (fz x) (by rw [fsz_fz]; omega) (by decide) (by decide) (by decide) (by decide)
    rwa [fv_fz] at this
  generalize 1 + -1 * x = y at *
  have zx22 : fsz (fz x) ≤ 22 := Nat.le_trans zx (by decide)
  have z622 : fsz (fz 6) ≤ 22 := Nat.le_trans z6 (by decide)
  have m1 := span_times (T := T) [fz 6, fz x, fz y] (B := 22) (by simp) (by decide) (mem3 z622 zx22 zy) (by simp)
  have m2 := span_times (T := T) [fz y, fz (1 + -3 * x)] (B := 22) (by simp) (by decide) (mem2 zy z1) (by simp)
  have m3 := span_times (T := T) [fz x, fz (-2 + 3 * x)] (B := 22) (by simp) (by decide) (mem2 zx22 z2) (by simp)
  have q1 := prodQ_sz (B := 22) (by decide) [fz 6, fz x, fz y] (mem3 z622 zx22 zy) 3
  have q2 := prodQ_sz (B := 22) (by decide) [fz y, fz (1 + -3 * x)] (mem2 zy z1) 2
  have q3 := prodQ_sz (B := 22) (by decide) [fz x, fz (-2 + 3 * x)] (mem2 zx22 z2) 2
  simp only [List.take_succ_cons, List.take_nil, List.take_zero, List.length_cons, List.length_nil] at q1 q2 q3
  rw [prodQ3] at m1 q1
  rw [prodQ2] at m2 m3 q2 q3
  have zh := sz_fv (L := 6) hh (by decide)
  have zq := sz_div (6 * x * y) (fv h)
  have k4 := frac_quo (T := T) (fz (6 * x * y)) h (by rw [fsz_fz]; omega) (by omega)
  rw [fv_fz] at k4
  have k5 := frac_neg (T := T) (fz (6 * x * y / fv h)) (by rw [fsz_fz]; omega)
  rw [fv_fz] at k5
  have zn : sz (-(6 * x * y / fv h)) ≤ 89 := by rw [sz_neg]; omega
  simp only [rightS, Bool.and_eq_true, decide_eq_true_eq] at hr
  obtain ⟨⟨⟨⟨_, h2⟩, h3⟩, h4⟩, h5⟩ := hr
  have mx := row_mix (T := T) (fzs (facS (fv h) x y)) [y0, y1, f0, f1] y0.length (by simp [facS]) h2 (by simp) (B := 89) (fzs_le (by
    intro q hq
    simp only [facS, List.mem_cons, List.not_mem_nil, or_false] at hq
    rcases hq with rfl | rfl | rfl | rfl <;> omega)) hw (by decide) (by simp) (by
    intro r hr
    simp only [List.mem_cons, List.not_mem_nil, or_false] at hr
    rcases hr with rfl | rfl | rfl | rfl <;> omega)
  have rw5 := span_rows (T := T) t h y0 y1 f0 f1
  change callF T 271 _ = some (.tup [.sl (rowF (fzs (mix4 (facS (fv h) x y) y0 y1 f0 f1))) .an, .b true]) at mx
  have ef : rowF (fzs (facS (fv h) x y)) = [celF (fz (-(6 * x * y / fv h))), celF (fz (6 * x * y / fv h)), celF (fz (y * (1 + -3 * x))), celF (fz (x * (-2 + 3 * x)))] := rfl
  rw [ef] at mx
  rw [rowF3] at m1
  rw [rowF2] at m2 m3
  rw [f326 _ rfl, b326]
  clear hw ef q1 q2 q3 zx zy z1 z2 zn hx zq zx22 z622
  generalize fzs (mix4 (facS (fv h) x y) y0 y1 f0 f1) = R at *
  generalize [y0, y1, f0, f1] = LL at *
  generalize fz (-(6 * x * y / fv h)) = F0 at *
  generalize fz (6 * x * y / fv h) = F1 at *
  generalize fz (6 * x * y) = F4 at *
  generalize fz (y * (1 + -3 * x)) = F2 at *
  generalize fz (x * (-2 + 3 * x)) = F3 at *
  generalize fz (1 + -3 * x) = L1 at *
  generalize fz (-2 + 3 * x) = L2 at *
  generalize fz x = X at *
  generalize fz y = Y at *
  generalize fz 6 = S6 at *
  generalize decide (fv h ≠ 0) = Z at *
  simp -implicitDefEqProofs [c0, c1, k0, k1, k2, k3, k4, k5, m1, m2, m3, mx, rw5]
theorem span_at_none (t h s : Fz) (y0 y1 f0 f1 : List Fz) (hh : fsz h ≤ 300) (hr : rightS h y0 y1 f0 f1 = false) : callF T 324 [agS t h y0 y1 f0 f1, efz s] = some (.tup [.sl [] .an, .b false]) := by
  have c0 := span_right (T := T) t h y0 y1 f0 f1 hh
  rw [hr] at c0
  rw [f324 _ rfl, b324]
  simp -implicitDefEqProofs [c0]
theorem span_slope_none (t h s : Fz) (y0 y1 f0 f1 : List Fz) (hh : fsz h ≤ 300) (hr : rightS h y0 y1 f0 f1 = false) : callF T 326 [agS t h y0 y1 f0 f1, efz s] = some (.tup [.sl [] .an, .b false]) := by
  have c0 := span_right (T := T) t h y0 y1 f0 f1 hh
  rw [hr] at c0
  rw [f326 _ rfl, b326]
  simp -implicitDefEqProofs [c0]
end
end Go.Ab
end

section
namespace Go.Ab
def absQ (q : Rat) : Rat := if q < 0 then -q else q
theorem fz_abs (q : Rat) : fz (absQ q) = (false, (fz q).2.1, (fz q).2.2) := by
  unfold absQ fz
  split
  · next h =>
    have h2 : q.num < 0 := by
      rw [Rat.lt_iff] at h
      simpa using h
    rw [Rat.neg_num, Rat.neg_den, Int.natAbs_neg]
    have e : decide (-q.num < 0) = false := by simp; omega
    rw [e]
  · next h =>
    have h2 : ¬ q.num < 0 := by
      rw [Rat.lt_iff] at h
      simpa using h
    rw [decide_eq_false h2]
theorem absQ_nonneg (q : Rat) : 0 ≤ absQ q := by
  unfold absQ
  split
  · next h => grind
  · next h => exact Rat.not_lt.1 h
theorem sz_abs (q : Rat) : sz (absQ q) = sz q := by
  unfold absQ
  split
  · exact sz_neg q
  · rfl
section
variable {T : Tbl} [CNat T] [CProd T] [CTwos T] [CQuot T] [CQuotD T] [CWhole T] [CCommon T] [CFrac T] [CFrac2 T]
theorem frac_abs (x : Fz) (hx : fsz x ≤ 10000) : callF T 214 [efz x] = some (efz (fz (absQ (fv x)))) := by
  have c := frac_norm (T := T) x hx
  rw [fz_abs, f214 _ rfl, b214]
  generalize fz (fv x) = X at *
  simp -implicitDefEqProofs [c]
end
end Go.Ab
end

section
namespace Go.Ab
theorem take_succ {α : Type} (l : List α) {i : Nat} (h : i < l.length) : l.take (i + 1) = l.take i ++ [l[i]'h] := List.take_succ_eq_append_getElem h
section
variable {T : Tbl} [CRef02 T] [CRef04 T] [CRef05 T] [CRef07 T] [CRef06 T] [CRef08 T] [CRef09 T] [CRef11 T] [CLaw09 T] [CLaw11 T]
theorem law09_to (x : Fz) : callF T 248 [efz x] = some (efz x) := by
  rw [f248 _ rfl, b248]
  simp -implicitDefEqProofs
theorem law09_of (x : Fz) : callF T 249 [efz x] = some (efz x) := by
  rw [f249 _ rfl, b249]
  simp -implicitDefEqProofs
def stTo11 (l : List Fz) (i : Nat) : St := ⟨[(0, .sl (rowF l) .an), (3, .bs (.loc 3) 1 3 0 i), (4, .i .i64 i)], [((.loc 3), ⟨1, .own, 3, rowF (l.take i)⟩)], 3⟩
theorem to11_loop (l : List Fz) (hl : l.length ≤ 4294967296) :
    loopN T 0 0 (.norm false [3]) l287_0 (stTo11 l 0) = some (.n, ⟨[(3, .bs (.loc 3) 1 3 0 (l.length))], [((.loc 3), ⟨1, .own, 3, rowF (l.take (l.length))⟩)], 3⟩) := by
  refine range_loop (stTo11 l) (l.length) _ (fun i hi => ?_) ?_
  · have hws := wrapS hi (by omega)
    have hb : i ≤ 4294967295 := by omega
    have hg : l[i]? = some (l[i]'hi) := List.getElem?_eq_getElem hi
    have hn := law09_to (T := T) (l[i]'hi)
    have e := take_succ l hi
    have hml : (l.take i).length = i := by simp; omega
    have hp := rowF_push hml (l[i]'hi)
    unfold stTo11
    rw [e]
    clear e
    generalize l.take i = M at *
    simp -implicitDefEqProofs [l287_0, hi, hws, hb, hp, hml, hg, hn]
  · unfold stTo11
    rw [List.take_of_length_le (Nat.le_refl _)]
    constructor <;> simp -implicitDefEqProofs [l287_0]
theorem law11_to (l : List Fz) (hl : l.length ≤ 4294967296) : callF T 287 [.sl (rowF l) .an] = some (.sl (rowF l) .an) := by
  have h := to11_loop (T := T) l hl
  unfold stTo11 at h
  rw [List.take_zero, List.take_of_length_le (Nat.le_refl _)] at h
  simp only [rowF_nil, Int.natCast_zero] at h
  have ht : List.take l.length l = l := List.take_of_length_le (Nat.le_refl _)
  rw [f287 _ rfl, b287]
  simp -implicitDefEqProofs [h, ht]
def stOf11 (l : List Fz) (i : Nat) : St := ⟨[(0, .sl (rowF l) .an), (3, .bs (.loc 3) 1 3 0 i), (4, .i .i64 i)], [((.loc 3), ⟨1, .own, 3, rowF (l.take i)⟩)], 3⟩
theorem of11_loop (l : List Fz) (hl : l.length ≤ 4294967296) :
    loopN T 0 0 (.norm false [3]) l288_0 (stOf11 l 0) = some (.n, ⟨[(3, .bs (.loc 3) 1 3 0 (l.length))], [((.loc 3), ⟨1, .own, 3, rowF (l.take (l.length))⟩)], 3⟩) := by
  refine range_loop (stOf11 l) (l.length) _ (fun i hi => ?_) ?_
  · have hws := wrapS hi (by omega)
    have hb : i ≤ 4294967295 := by omega
    have hg : l[i]? = some (l[i]'hi) := List.getElem?_eq_getElem hi
    have hn := law09_of (T := T) (l[i]'hi)
    have e := take_succ l hi
    have hml : (l.take i).length = i := by simp; omega
    have hp := rowF_push hml (l[i]'hi)
    unfold stOf11
    rw [e]
    clear e
    generalize l.take i = M at *
    simp -implicitDefEqProofs [l288_0, hi, hws, hb, hp, hml, hg, hn]
  · unfold stOf11
    rw [List.take_of_length_le (Nat.le_refl _)]
    constructor <;> simp -implicitDefEqProofs [l288_0]
theorem law11_of (l : List Fz) (hl : l.length ≤ 4294967296) : callF T 288 [.sl (rowF l) .an] = some (.sl (rowF l) .an) := by
  have h := of11_loop (T := T) l hl
  unfold stOf11 at h
  rw [List.take_zero, List.take_of_length_le (Nat.le_refl _)] at h
  simp only [rowF_nil, Int.natCast_zero] at h
  have ht : List.take l.length l = l := List.take_of_length_le (Nat.le_refl _)
  rw [f288 _ rfl, b288]
  simp -implicitDefEqProofs [h, ht]
theorem law11_is (a b : List Fz) (hl : a.length ≤ 1000) (ha : ∀ x ∈ a, fsz x ≤ 10000) : callF T 289 [.sl (rowF a) .an, .sl (rowF b) .an] = some (.b (decide (a = b))) := by
  have h1 := law11_of (T := T) a (by omega)
  have h2 := ref11_same (T := T) a b hl ha
  rw [f289 _ rfl, b289]
  simp -implicitDefEqProofs [h1, h2]
end
end Go.Ab
end

section
namespace Go.Ab
def widthM : List (List Fz) → Nat
  | [] => 0
  | r :: _ => r.length
def rightM (m : List (List Fz)) : Bool := m.all fun r => decide (r.length = widthM m)
def colM (m : List (List Fz)) (j : Nat) : List Fz := m.map fun r => r.getD j (false, [], [])
def turnM (m : List (List Fz)) (k : Nat) : List (List Fz) := (List.range k).map fun j => nrm (colM m j)
def scM (r : List Fz) (m : List (List Fz)) : List (List Fz) := List.zipWith (fun x row => scl (fv x) row) r m
def sumM : List (List Fz) → List Rat
  | [] => []
  | r :: m => m.foldl addP (r.map fv)
def leftQ (r : List Fz) (m : List (List Fz)) : List Rat := sumM (scM r m)
def applyQ (m : List (List Fz)) (c : List Fz) : List Rat := m.map fun r => dotQ r c
section
variable {T : Tbl} [CNat T] [CProd T] [CTwos T] [CQuot T] [CQuotD T] [CText T] [CWhole T] [CCommon T] [CFrac T] [CJoin T] [CRow T] [CGrid T]
def stGrR (m : List (List Fz)) (i : Nat) : St := ⟨[(0, .sl (matF m) .an), (5, .sl (matF m) .an), (6, .i .i64 m.length), (7, .i .i64 i)], [], 2⟩
def stGrS (a b : List (List Fz)) (i : Nat) : St := ⟨[(1, .sl (matF b) .an), (12, .sl (matF a) .an), (13, .i .i64 a.length), (14, .i .i64 i)], [], 2⟩
def idQ (k : Nat) (i : Nat) : List (List Fz) := (List.range i).map fun j => fzs ((List.replicate k 0).set j 1)
def stGrI (k : Nat) (i : Nat) : St := ⟨[(0, .i .i64 k), (3, .bs (.loc 3) 1 1 0 i), (8, .i .i64 k), (9, .i .i64 i)], [((.loc 3), ⟨1, .own, 1, matF (idQ k i)⟩)], 3⟩
def stGrT (m R : List (List Fz)) (k j : Nat) (i : Nat) : St := ⟨[(0, .sl (matF m) .an), (3, .bs (.loc 3) 1 1 0 j), (4, .i .i64 j), (5, .bs (.loc 5) 2 3 0 i), (12, .i .i64 k), (13, .i .i64 j), (16, .sl (matF m) .an), (17, .i .i64 m.length), (18, .i .i64 i)], [(.loc 3, ⟨1, .own, 1, matF R⟩), ((.loc 5), ⟨2, .own, 3, rowF (nrm (colM (m.take i) j))⟩)], 4⟩
def stTo12t (m : List (List Fz)) (k : Nat) (i : Nat) : St := ⟨[(0, .sl (matF m) .an), (3, .bs (.loc 3) 1 1 0 i), (12, .i .i64 k), (13, .i .i64 i)], [((.loc 3), ⟨1, .own, 1, matF (turnM m i)⟩)], 3⟩
end
end Go.Ab
end

section
namespace Go.Ab
section
variable {T : Tbl} [CNat T] [CProd T] [CTwos T] [CQuot T] [CQuotD T] [CText T] [CWhole T] [CCommon T] [CFrac T] [CJoin T] [CRow T] [CGrid T]
def stGrL (r : List Fz) (m : List (List Fz)) (i : Nat) : St := ⟨[(0, .sl (rowF r) .an), (6, .bs (.loc 6) 1 1 0 i), (19, .sl (matF m) .an), (20, .i .i64 m.length), (21, .i .i64 i)], [((.loc 6), ⟨1, .own, 1, matF (scM (r.take i) (m.take i))⟩)], 3⟩
def stGrA (m : List (List Fz)) (c : List Fz) (i : Nat) : St := ⟨[(1, .sl (rowF c) .an), (6, .bs (.loc 6) 1 3 0 i), (21, .sl (matF m) .an), (22, .i .i64 m.length), (23, .i .i64 i)], [((.loc 6), ⟨1, .own, 3, rowF (fzs (applyQ (m.take i) c))⟩)], 3⟩
def mulM (a b : List (List Fz)) : List (List Fz) := a.map fun r => fzs (leftQ r b)
def stGrM (a m : List (List Fz)) (i : Nat) : St := ⟨[(1, .sl (matF m) .an), (6, .bs (.loc 6) 1 1 0 i), (26, .sl (matF a) .an), (27, .i .i64 a.length), (28, .i .i64 i)], [((.loc 6), ⟨1, .own, 1, matF (mulM (a.take i) m)⟩)], 3⟩
def addM (a b : List (List Fz)) : List (List Fz) := List.zipWith (fun r s => fzs (addP (r.map fv) s)) a b
def stGrP (a m : List (List Fz)) (i : Nat) : St := ⟨[(1, .sl (matF m) .an), (6, .bs (.loc 6) 1 1 0 i), (33, .sl (matF a) .an), (34, .i .i64 a.length), (35, .i .i64 i)], [((.loc 6), ⟨1, .own, 1, matF (addM (a.take i) (m.take i))⟩)], 3⟩
end
end Go.Ab
end

section
namespace Go.Ab
def dotR : List Rat → List Rat → Rat
  | x :: a, y :: b => x * y + dotR a b
  | _, _ => 0
def valM (m : List (List Fz)) : List (List Rat) := m.map fun r => r.map fv
def fzM (L : List (List Rat)) : List (List Fz) := L.map fzs
@[simp] theorem fzM_length (L : List (List Rat)) : (fzM L).length = L.length := by simp [fzM]
@[simp] theorem valM_length (m : List (List Fz)) : (valM m).length = m.length := by simp [valM]
@[simp] theorem valM_fzM (L : List (List Rat)) : valM (fzM L) = L := by
  unfold valM fzM
  rw [List.map_map]
  simp [Function.comp_def]
def widthQ : List (List Rat) → Nat
  | [] => 0
  | r :: _ => r.length
def rightQ (L : List (List Rat)) : Bool := L.all fun r => decide (r.length = widthQ L)
def colQ (L : List (List Rat)) (j : Nat) : List Rat := L.map fun p => p.getD j 0
def turnQ (L : List (List Rat)) : List (List Rat) := (List.range (widthQ L)).map (colQ L)
def applyR (L : List (List Rat)) (c : List Rat) : List Rat := L.map fun p => dotR p c
def leftR (r : List Rat) (L : List (List Rat)) : List Rat := applyR (turnQ L) r
end Go.Ab
end

section
namespace Go.Ab
section
variable {T : Tbl} [CRef02 T] [CRef04 T] [CRef05 T] [CRef07 T] [CRef06 T] [CRef08 T] [CRef09 T] [CRef11 T] [CRef12 T]
def stR12 (m : List (List Fz)) (i : Nat) : St := ⟨[(0, .sl (matF m) .an), (3, .i .i64 i)], [], 2⟩
def stN12 (m : List (List Fz)) (i : Nat) : St := ⟨[(0, .sl (matF m) .an), (3, .bs (.loc 3) 1 1 0 i), (4, .i .i64 i)], [((.loc 3), ⟨1, .own, 1, matF (fzM (valM (m.take i)))⟩)], 3⟩
def stS12 (a b : List (List Fz)) (i : Nat) : St := ⟨[(0, .sl (matF a) .an), (1, .sl (matF b) .an), (5, .i .i64 i)], [], 2⟩
def stI12 (n : Int) (k : Nat) (i : Nat) : St := ⟨[(0, .i .i64 n), (3, .bs (.loc 3) 1 1 0 i), (4, .i .i64 i)], [((.loc 3), ⟨1, .own, 1, matF (idQ k i)⟩)], 3⟩
def stT12i (L : List (List Rat)) (R : List (List Fz)) (j : Nat) (i : Nat) : St := ⟨[(0, .sl (matF (fzM L)) .an), (3, .bs (.loc 3) 1 1 0 j), (4, .i .i64 j), (5, .bs (.loc 5) 2 3 0 i), (6, .i .i64 i)], [(.loc 3, ⟨1, .own, 1, matF R⟩), ((.loc 5), ⟨2, .own, 3, rowF (fzs (colQ (L.take i) j))⟩)], 4⟩
def stT12o (L : List (List Rat)) (i : Nat) : St := ⟨[(0, .sl (matF (fzM L)) .an), (3, .bs (.loc 3) 1 1 0 i), (4, .i .i64 i)], [((.loc 3), ⟨1, .own, 1, matF (fzM ((List.range i).map (colQ L)))⟩)], 3⟩
def stA12 (L : List (List Rat)) (c : List Rat) (i : Nat) : St := ⟨[(0, .sl (matF (fzM L)) .an), (1, .sl (rowF (fzs c)) .an), (5, .bs (.loc 5) 1 3 0 i), (6, .i .i64 i)], [((.loc 5), ⟨1, .own, 3, rowF (fzs (applyR (L.take i) c))⟩)], 3⟩
def longM (m : List (List Fz)) (many words : Nat) : Bool := decide (many < m.length) || m.any fun r => longB r many words
def stL12 (m : List (List Fz)) (many words : Nat) (i : Nat) : St := ⟨[(0, .sl (matF m) .an), (1, .i .i64 many), (2, .i .i64 words), (7, .i .i64 i)], [], 2⟩
end
end Go.Ab
end

section
namespace Go.Ab
theorem fzs_sz {l : List Rat} {B : Nat} (h : ∀ q ∈ l, sz q ≤ B) : ∀ x ∈ fzs l, fsz x ≤ B := by
  intro x hx
  obtain ⟨q, hq, rfl⟩ := List.mem_map.1 hx
  exact h q hq
theorem vals_sz {l : List Fz} {B : Nat} (hB : 1 ≤ B) (h : ∀ x ∈ l, fsz x ≤ B) : ∀ q ∈ l.map fv, sz q ≤ B := by
  intro q hq
  obtain ⟨x, hx, rfl⟩ := List.mem_map.1 hq
  exact sz_fv (h x hx) hB
section
variable {T : Tbl} [CNat T] [CProd T] [CTwos T] [CQuot T] [CQuotD T] [CText T] [CWhole T] [CCommon T] [CFrac T] [CJoin T] [CRow T] [CGrid T] [CRef02 T] [CRef04 T] [CRef05 T] [CRef07 T] [CRef06 T] [CRef08 T] [CRef09 T] [CRef11 T] [CRef12 T] [CLaw09 T] [CLaw11 T] [CLaw12 T]
def stTo12 (m : List (List Fz)) (i : Nat) : St := ⟨[(0, .sl (matF m) .an), (3, .bs (.loc 3) 1 1 0 i), (4, .i .i64 i)], [((.loc 3), ⟨1, .own, 1, matF (m.take i)⟩)], 3⟩
def stI12s (a b : List (List Fz)) (i : Nat) : St := ⟨[(0, .sl (matF a) .an), (1, .sl (matF b) .an), (5, .i .i64 i)], [], 2⟩
theorem sz3 : sz 3 ≤ 1 := by
  unfold sz
  rw [show (3 : Rat).num = 3 from rfl, show (3 : Rat).den = 1 from rfl, ofN_one, show (3 : Int).natAbs = 3 from rfl]
  exact Nat.max_le.2 ⟨ofN_length_le' (by decide), Nat.le_refl _⟩
theorem szle1 {q : Rat} (h1 : q.num.natAbs < 4294967296) (h2 : q.den < 4294967296) : sz q ≤ 1 := Nat.max_le.2 ⟨ofN_length_le' (by simpa using h1), ofN_length_le' (by simpa using h2)⟩
theorem textQ_nat (n : Nat) (h : n < 10) : textQ (n : Rat) = [UInt8.ofNat (48 + n)] := by
  unfold textQ
  rw [if_pos (Rat.den_natCast n), Rat.num_natCast]
  unfold textZ
  rw [if_neg (by omega), Int.natAbs_natCast, textN_small h]
end
end Go.Ab
end

section
namespace Go.Ab
def longS (t h : Fz) (y0 y1 f0 f1 : List Fz) : Bool := decide (2 < fsz t) || decide (2 < fsz h) || longB y0 4 2 || longB y1 4 2 || longB f0 4 2 || longB f1 4 2
theorem longS_false {t h : Fz} {y0 y1 f0 f1 : List Fz} (e : longS t h y0 y1 f0 f1 = false) :
    fsz t ≤ 2 ∧ fsz h ≤ 2 ∧ (∀ r ∈ [y0, y1, f0, f1], r.length ≤ 4) ∧ ∀ r ∈ [y0, y1, f0, f1], ∀ x ∈ r, fsz x ≤ 2 := by
  unfold longS at e
  simp only [Bool.or_eq_false_iff, decide_eq_false_iff_not] at e
  obtain ⟨⟨⟨⟨⟨e1, e2⟩, e3⟩, e4⟩, e5⟩, e6⟩ := e
  obtain ⟨a3, b3⟩ := longB_false e3
  obtain ⟨a4, b4⟩ := longB_false e4
  obtain ⟨a5, b5⟩ := longB_false e5
  obtain ⟨a6, b6⟩ := longB_false e6
  refine ⟨by omega, by omega, fun r hr => ?_, fun r hr => ?_⟩ <;> simp only [List.mem_cons, List.not_mem_nil, or_false] at hr <;> rcases hr with rfl | rfl | rfl | rfl <;> assumption
theorem mixP_get (c : Rat) (acc : List Rat) (r : List Fz) (i : Nat) (hi : i < acc.length) (hr : r.length = acc.length) : (mixP c acc r).getD i 0 = acc.getD i 0 + c * (r.map fv).getD i 0 := by
  have h1 : i < (mixP c acc r).length := by rw [mixP_length hr]; exact hi
  rw [List.getD_eq_getElem?_getD, List.getElem?_eq_getElem h1, List.getD_eq_getElem?_getD, List.getElem?_eq_getElem hi, List.getD_eq_getElem?_getD, List.getElem?_eq_getElem (show i < (r.map fv).length by simp; omega)]
  simp [mixP]
theorem mix4_get (c0 c1 c2 c3 : Rat) (y0 y1 f0 f1 : List Fz) (l1 : y1.length = y0.length) (l2 : f0.length = y0.length) (l3 : f1.length = y0.length) (i : Nat) (hi : i < y0.length) :
    (mix4 [c0, c1, c2, c3] y0 y1 f0 f1).getD i 0 = c0 * (y0.map fv).getD i 0 + c1 * (y1.map fv).getD i 0 + c2 * (f0.map fv).getD i 0 + c3 * (f1.map fv).getD i 0 := by
  have e : mix4 [c0, c1, c2, c3] y0 y1 f0 f1 = mixP c3 (mixP c2 (mixP c1 (mixP c0 (List.replicate y0.length 0) y0) y1) f0) f1 := by
    simp [mix4, mixF, fzs]
  have n0 : (mixP c0 (List.replicate y0.length 0) y0).length = y0.length := by rw [mixP_length (by simp)]; simp
  have n1 : (mixP c1 (mixP c0 (List.replicate y0.length 0) y0) y1).length = y0.length := by rw [mixP_length (by rw [n0, l1]), n0]
  have n2 : (mixP c2 (mixP c1 (mixP c0 (List.replicate y0.length 0) y0) y1) f0).length = y0.length := by rw [mixP_length (by rw [n1, l2]), n1]
  rw [e, mixP_get _ _ _ _ (by omega) (by omega), mixP_get _ _ _ _ (by omega) (by omega), mixP_get _ _ _ _ (by omega) (by omega), mixP_get _ _ _ _ (by simp; omega) (by simp)]
  have z : (List.replicate y0.length (0 : Rat)).getD i 0 = 0 := by
    rw [List.getD_eq_getElem?_getD, List.getElem?_eq_getElem (by simpa using hi)]
    simp
  rw [z, Rat.zero_add]
theorem mix4_len (c : List Rat) (hc : c.length = 4) (y0 y1 f0 f1 : List Fz) (l1 : y1.length = y0.length) (l2 : f0.length = y0.length) (l3 : f1.length = y0.length) : (mix4 c y0 y1 f0 f1).length = y0.length := by
  unfold mix4
  rw [mixF_len _ _ (fun q hq => by
    have := (List.of_mem_zip hq).2
    rw [List.length_replicate]
    simp only [List.mem_cons, List.not_mem_nil, or_false] at this
    rcases this with h | h | h | h <;> rw [h] <;> omega), List.length_replicate]
theorem cub1_law {h u : Rat} (hh : h ≠ 0) (a b f g : Rat) : (1 + -1 * u) * (1 + -1 * u) * (1 + 2 * u) * a + u * u * (3 + -2 * u) * b + h * u * (1 + -1 * u) * (1 + -1 * u) * f + h * u * u * -(1 + -1 * u) * g = cub1 h a b f g (h * u) := by
  unfold cub1 secQ firQ riseQ
  grind
theorem cub2_law {h u : Rat} (hh : h ≠ 0) (a b f g : Rat) : -(6 * u * (1 + -1 * u) / h) * a + 6 * u * (1 + -1 * u) / h * b + (1 + -1 * u) * (1 + -3 * u) * f + u * (-2 + 3 * u) * g = cub2 h a b f g (h * u) := by
  unfold cub2 secQ firQ riseQ
  grind
theorem prt_mul {t h s : Rat} (hh : h ≠ 0) : h * prtQ t h s = s - t := by
  unfold prtQ
  grind
theorem ext_getD {a b : List Rat} (hl : a.length = b.length) (h : ∀ i, i < a.length → a.getD i 0 = b.getD i 0) : a = b := by
  refine List.ext_getElem hl fun i h1 h2 => ?_
  have := h i h1
  rw [List.getD_eq_getElem?_getD, List.getElem?_eq_getElem h1, List.getD_eq_getElem?_getD, List.getElem?_eq_getElem h2] at this
  exact this
theorem atQ_get (sl : Bool) (h x : Rat) (y0 y1 f0 f1 : List Rat) (i : Nat) (hi : i < y0.length) : (atQ sl h x y0 y1 f0 f1).getD i 0 = cubV sl h (y0.getD i 0) (y1.getD i 0) (f0.getD i 0) (f1.getD i 0) x := by
  rw [List.getD_eq_getElem?_getD, List.getElem?_eq_getElem (by rw [atQ_length]; exact hi), Option.getD_some]
  simp only [atQ, List.getElem_map, List.getElem_range]
theorem mixA_at {t h s : Rat} (hh : h ≠ 0) (y0 y1 f0 f1 : List Fz) (l1 : y1.length = y0.length) (l2 : f0.length = y0.length) (l3 : f1.length = y0.length) :
    mix4 (facA h (prtQ t h s) (1 + -1 * prtQ t h s)) y0 y1 f0 f1 = atQ false h (s - t) (y0.map fv) (y1.map fv) (f0.map fv) (f1.map fv) := by
  have hm := mix4_len (facA h (prtQ t h s) (1 + -1 * prtQ t h s)) rfl y0 y1 f0 f1 l1 l2 l3
  refine ext_getD (by rw [atQ_length, List.length_map, hm]) fun i hi => ?_
  rw [hm] at hi
  rw [atQ_get _ _ _ _ _ _ _ _ (by simpa using hi)]
  unfold facA
  rw [mix4_get _ _ _ _ _ _ _ _ l1 l2 l3 i hi, cub1_law hh, prt_mul hh]
  rfl
theorem mixS_at {t h s : Rat} (hh : h ≠ 0) (y0 y1 f0 f1 : List Fz) (l1 : y1.length = y0.length) (l2 : f0.length = y0.length) (l3 : f1.length = y0.length) :
    mix4 (facS h (prtQ t h s) (1 + -1 * prtQ t h s)) y0 y1 f0 f1 = atQ true h (s - t) (y0.map fv) (y1.map fv) (f0.map fv) (f1.map fv) := by
  have hm := mix4_len (facS h (prtQ t h s) (1 + -1 * prtQ t h s)) rfl y0 y1 f0 f1 l1 l2 l3
  refine ext_getD (by rw [atQ_length, List.length_map, hm]) fun i hi => ?_
  rw [hm] at hi
  rw [atQ_get _ _ _ _ _ _ _ _ (by simpa using hi)]
  unfold facS
  rw [mix4_get _ _ _ _ _ _ _ _ l1 l2 l3 i hi, cub2_law hh, prt_mul hh]
  rfl
theorem sz2 : sz 2 ≤ 1 := szle1 (by decide) (by decide)
theorem cubV_sz (sl : Bool) {h a b f g x : Rat} (hx : sz x ≤ 8) (hh : sz h ≤ 2) (ha : sz a ≤ 2) (hb : sz b ≤ 2) (hf : sz f ≤ 2) (hg : sz g ≤ 2) : sz (cubV sl h a b f g x) ≤ 200 := by
  obtain ⟨_, _, _, z1, _, _, _, z2⟩ := cub_szs hh ha hb hf hg
  cases sl with
  | false =>
    show sz (cub1 h a b f g x) ≤ 200
    unfold cub1
    have e1 := sz_mul f x
    have e2 := sz_mul (firQ h a b f) x
    have e3 := sz_mul (firQ h a b f * x) x
    have e4 := sz_mul (secQ h a b f g) x
    have e5 := sz_mul (secQ h a b f g * x) x
    have e6 := sz_sub x h
    have e7 := sz_mul (secQ h a b f g * x * x) (x - h)
    have e8 := sz_add a (f * x)
    have e9 := sz_add (a + f * x) (firQ h a b f * x * x)
    have e10 := sz_add (a + f * x + firQ h a b f * x * x) (secQ h a b f g * x * x * (x - h))
    omega
  | true =>
    show sz (cub2 h a b f g x) ≤ 200
    unfold cub2
    have s2 := sz2
    have s3 := sz3
    have e1 := sz_mul 2 (firQ h a b f)
    have e2 := sz_mul (2 * firQ h a b f) x
    have e3 := sz_mul 3 x
    have e4 := sz_mul (3 * x) x
    have e5 := sz_mul 2 h
    have e6 := sz_mul (2 * h) x
    have e7 := sz_sub (3 * x * x) (2 * h * x)
    have e8 := sz_mul (secQ h a b f g) (3 * x * x - 2 * h * x)
    have e9 := sz_add f (2 * firQ h a b f * x)
    have e10 := sz_add (f + 2 * firQ h a b f * x) (secQ h a b f g * (3 * x * x - 2 * h * x))
    omega
theorem atQ_sz (sl : Bool) {h x : Rat} {y0 y1 f0 f1 : List Rat} (hx : sz x ≤ 8) (hh : sz h ≤ 2) (hw : ∀ r ∈ [y0, y1, f0, f1], ∀ q ∈ r, sz q ≤ 2) : ∀ q ∈ atQ sl h x y0 y1 f0 f1, sz q ≤ 200 := by
  intro q hq
  obtain ⟨i, _, rfl⟩ := List.mem_map.1 hq
  exact cubV_sz sl hx hh (getD_sz (by decide) (hw y0 (by simp)) i) (getD_sz (by decide) (hw y1 (by simp)) i) (getD_sz (by decide) (hw f0 (by simp)) i) (getD_sz (by decide) (hw f1 (by simp)) i)
theorem rightS_true {h : Fz} {y0 y1 f0 f1 : List Fz} (e : rightS h y0 y1 f0 f1 = true) : 0 < fv h ∧ y1.length = y0.length ∧ f0.length = y0.length ∧ f1.length = y0.length := by
  simp only [rightS, Bool.and_eq_true, decide_eq_true_eq] at e
  obtain ⟨⟨⟨⟨h1, _⟩, h3⟩, h4⟩, h5⟩ := e
  exact ⟨h1, h3, h4, h5⟩
theorem pos_ne {h : Rat} (e : 0 < h) : h ≠ 0 := by grind
theorem nrm_length (l : List Fz) : (nrm l).length = l.length := by simp [nrm]
section
variable {T : Tbl} [CNat T] [CProd T] [CTwos T] [CQuot T] [CQuotD T] [CText T] [CWhole T] [CCommon T] [CFrac T] [CFrac2 T] [CJoin T] [CRow T] [CSpan T] [CRef02 T] [CRef04 T] [CRef05 T] [CRef07 T] [CRef06 T] [CRef08 T] [CRef09 T] [CRef11 T] [CRef14 T] [CRef41 T] [CLaw09 T] [CLaw11 T] [CLaw41 T]
theorem law41_to (t h : Fz) (y0 y1 f0 f1 : List Fz) (hl : ∀ r ∈ [y0, y1, f0, f1], r.length ≤ 4294967296) : callF T 325 [agS t h y0 y1 f0 f1] = some (agS t h y0 y1 f0 f1) := by
  have c1 := law09_to (T := T) t
  have c2 := law09_to (T := T) h
  have d1 := law11_to (T := T) y0 (hl y0 (by simp))
  have d2 := law11_to (T := T) y1 (hl y1 (by simp))
  have d3 := law11_to (T := T) f0 (hl f0 (by simp))
  have d4 := law11_to (T := T) f1 (hl f1 (by simp))
  clear hl
  rw [f325 _ rfl, b325]
  simp -implicitDefEqProofs [c1, c2, d1, d2, d3, d4]
theorem law41_long (t h : Fz) (y0 y1 f0 f1 : List Fz) : callF T 322 [agS t h y0 y1 f0 f1] = some (.b (longS t h y0 y1 f0 f1)) := by
  have c1 := ref09_long (T := T) t 2
  have c2 := ref09_long (T := T) h 2
  have d1 := ref11_longB (T := T) y0 4 2 (by decide)
  have d2 := ref11_longB (T := T) y1 4 2 (by decide)
  have d3 := ref11_longB (T := T) f0 4 2 (by decide)
  have d4 := ref11_longB (T := T) f1 4 2 (by decide)
  simp only [Int.cast_ofNat_Int] at c1 c2 d1 d2 d3 d4
  unfold longS
  rw [f322 _ rfl, b322]
  generalize decide (2 < fsz t) = B1 at *
  generalize decide (2 < fsz h) = B2 at *
  generalize longB y0 4 2 = B3 at *
  generalize longB y1 4 2 = B4 at *
  generalize longB f0 4 2 = B5 at *
  generalize longB f1 4 2 = B6 at *
  cases B1
  case true => simp -implicitDefEqProofs [c1]
  cases B2
  case true => simp -implicitDefEqProofs [c1, c2]
  cases B3
  case true => simp -implicitDefEqProofs [c1, c2, d1]
  cases B4
  case true => simp -implicitDefEqProofs [c1, c2, d1, d2]
  cases B5
  case true => simp -implicitDefEqProofs [c1, c2, d1, d2, d3]
  simp -implicitDefEqProofs [c1, c2, d1, d2, d3, d4]
theorem law41_works : callF T 323 [] = some (.b true) := by
  have k0 := frac_of (T := T) 0 (by decide) (by decide)
  have k1 := frac_of (T := T) 1 (by decide) (by decide)
  have k2 := frac_of (T := T) 2 (by decide) (by decide)
  have k8 := frac_of (T := T) 8 (by decide) (by decide)
  have k12 := frac_of (T := T) 12 (by decide) (by decide)
  have s8 : sz 8 ≤ 1 := szle1 (by decide) (by decide)
  have s12 : sz 12 ≤ 1 := szle1 (by decide) (by decide)
  have s2 := sz2
  have s0 := sz_zero
  have s1 := sz_one
  have hr : rightS (fz 2) [fz 0] [fz 8] [fz 0] [fz 12] = true := by
    unfold rightS
    rw [fv_fz]
    decide +kernel
  have hw : ∀ r ∈ [[fz 0], [fz 8], [fz 0], [fz 12]], ∀ x ∈ r, fsz x ≤ 89 := by
    intro r hr x hx
    simp only [List.mem_cons, List.not_mem_nil, or_false] at hr
    rcases hr with rfl | rfl | rfl | rfl <;> simp only [List.mem_cons, List.not_mem_nil, or_false] at hx <;> subst hx <;> rw [fsz_fz] <;> omega
  have c1 := span_at (T := T) (fz 0) (fz 2) (fz 1) [fz 0] [fz 8] [fz 0] [fz 12] (by rw [fsz_fz]; omega) (by rw [fsz_fz]; omega) (by rw [fsz_fz]; omega) hr hw
  have c2 := span_slope (T := T) (fz 0) (fz 2) (fz 1) [fz 0] [fz 8] [fz 0] [fz 12] (by rw [fsz_fz]; omega) (by rw [fsz_fz]; omega) (by rw [fsz_fz]; omega) hr hw
  simp only [fv_fz] at c1 c2
  rw [mixA_at (t := 0) (h := 2) (s := 1) (by decide +kernel) [fz 0] [fz 8] [fz 0] [fz 12] rfl rfl rfl] at c1
  rw [mixS_at (t := 0) (h := 2) (s := 1) (by decide +kernel) [fz 0] [fz 8] [fz 0] [fz 12] rfl rfl rfl] at c2
  simp only [List.map_cons, List.map_nil, fv_fz] at c1 c2
  have e1 : atQ false 2 (1 - 0) [0] [8] [0] [12] = [1] := by decide +kernel
  have e2 : atQ true 2 (1 - 0) [0] [8] [0] [12] = [3] := by decide +kernel
  rw [e1] at c1
  rw [e2] at c2
  have t1 := row_text (T := T) (fzs [1]) (by decide) (fzs_sz fun q hq => by
    simp only [List.mem_cons, List.not_mem_nil, or_false] at hq
    rw [hq, sz_one]; decide)
  have t2 := row_text (T := T) (fzs [3]) (by decide) (fzs_sz fun q hq => by
    simp only [List.mem_cons, List.not_mem_nil, or_false] at hq
    rw [hq]; exact Nat.le_trans sz3 (by decide))
  have w1 : List.intercalate [44] (txts (fzs [1])) = [49] := by
    have e1 := textQ_nat 1 (by decide)
    simp only [txts, fzs, List.map_cons, List.map_nil, fv_fz]
    rw [show (1 : Rat) = ((1 : Nat) : Rat) from rfl, e1]
    rfl
  have w2 : List.intercalate [44] (txts (fzs [3])) = [51] := by
    have e1 := textQ_nat 3 (by decide)
    simp only [txts, fzs, List.map_cons, List.map_nil, fv_fz]
    rw [show (3 : Rat) = ((3 : Nat) : Rat) from rfl, e1]
    rfl
  rw [w1] at t1
  rw [w2] at t2
  have r0 : rowF [fz 0] = [celF (fz 0)] := rfl
  have r8 : rowF [fz 8] = [celF (fz 8)] := rfl
  have r12 : rowF [fz 12] = [celF (fz 12)] := rfl
  simp only [agS, r0, r8, r12] at c1 c2
  have q0 : ((0 : Int) : Rat) = 0 := rfl
  have q1 : ((1 : Int) : Rat) = 1 := rfl
  have q2 : ((2 : Int) : Rat) = 2 := rfl
  have q8 : ((8 : Int) : Rat) = 8 := rfl
  have q12 : ((12 : Int) : Rat) = 12 := rfl
  rw [q0] at k0
  rw [q1] at k1
  rw [q2] at k2
  rw [q8] at k8
  rw [q12] at k12
  clear hr hw e1 e2 w1 w2 r0 r8 r12 s0 s1 s2 s8 s12 q0 q1 q2 q8 q12
  generalize fzs [1] = L1 at *
  generalize fzs [3] = L3 at *
  generalize fz 0 = Z0 at *
  generalize fz 1 = Z1 at *
  generalize fz 2 = Z2 at *
  generalize fz 8 = Z8 at *
  generalize fz 12 = Z12 at *
  rw [f323 _ rfl, b323]
  simp -implicitDefEqProofs [k0, k1, k2, k8, k12, c1, c2, t1, t2]
theorem law41_cubics (t h s : Fz) (y0 y1 f0 f1 : List Fz) : callF T 311 [agS t h y0 y1 f0 f1, efz s] = some (.b true) := by
  have hw := law41_works (T := T)
  have cl := law41_long (T := T) t h y0 y1 f0 f1
  have cs := ref09_long (T := T) s 2
  simp only [Int.cast_ofNat_Int] at cs
  rw [f311 _ rfl, b311]
  cases hL : longS t h y0 y1 f0 f1 with
  | true =>
    rw [hL] at cl
    simp -implicitDefEqProofs [hw, cl]
  | false =>
    rw [hL] at cl
    cases hS : decide (2 < fsz s) with
    | true =>
      rw [hS] at cs
      simp -implicitDefEqProofs [hw, cl, cs]
    | false =>
      rw [hS] at cs
      have hS := of_decide_eq_false hS
      obtain ⟨zt, zh, zl, zw⟩ := longS_false hL
      have z0 := zl y0 (by simp)
      have hsp := span_right (T := T) t h y0 y1 f0 f1 (by omega)
      have hto := law41_to (T := T) t h y0 y1 f0 f1 (fun r hr => by have := zl r hr; omega)
      have hts := law09_to (T := T) s
      have hn := ref41_norm (T := T) t h y0 y1 f0 f1 (by omega) (by omega) (fun r hr => by have := zl r hr; omega) (fun r hr x hx => Nat.le_trans (zw r hr x hx) (by decide))
      have hr := ref41_right (T := T) (fz (fv t)) (fv h) (nrm y0) (nrm y1) (nrm f0) (nrm f1) (by rw [nrm_length]; omega)
      have er : rightS (fz (fv h)) (nrm y0) (nrm y1) (nrm f0) (nrm f1) = rightS h y0 y1 f0 f1 := by
        unfold rightS
        rw [fv_fz, nrm_length, nrm_length, nrm_length, nrm_length]
      rw [er] at hr
      cases hR : rightS h y0 y1 f0 f1 with
      | false =>
        rw [hR] at hsp hr
        have a1 := span_at_none (T := T) t h s y0 y1 f0 f1 (by omega) hR
        have a2 := span_slope_none (T := T) t h s y0 y1 f0 f1 (by omega) hR
        clear er zl zw
        generalize nrm y0 = N0 at *
        generalize nrm y1 = N1 at *
        generalize nrm f0 = N2 at *
        generalize nrm f1 = N3 at *
        generalize fz (fv t) = NT at *
        generalize fz (fv h) = NH at *
        simp -implicitDefEqProofs [hw, cl, cs, hsp, hto, hts, hn, hr, a1, a2]
      | true =>
        rw [hR] at hsp hr
        obtain ⟨hp, l1, l2, l3⟩ := rightS_true hR
        have a1 := span_at (T := T) t h s y0 y1 f0 f1 (by omega) (by omega) (by omega) hR (fun r hr x hx => Nat.le_trans (zw r hr x hx) (by decide))
        have a2 := span_slope (T := T) t h s y0 y1 f0 f1 (by omega) (by omega) (by omega) hR (fun r hr x hx => Nat.le_trans (zw r hr x hx) (by decide))
        rw [mixA_at (pos_ne hp) _ _ _ _ l1 l2 l3] at a1
        rw [mixS_at (pos_ne hp) _ _ _ _ l1 l2 l3] at a2
        have hns := ref09_norm (T := T) s (by omega)
        have zt2 := sz_fv (L := 2) zt (by decide)
        have zh2 := sz_fv (L := 2) zh (by decide)
        have zs2 := sz_fv (x := s) (L := 2) (by omega) (by decide)
        have zx := sz_sub (fv s) (fv t)
        have zw2 : ∀ r ∈ [y0.map fv, y1.map fv, f0.map fv, f1.map fv], ∀ q ∈ r, sz q ≤ 2 := by
          intro r hr
          simp only [List.mem_cons, List.not_mem_nil, or_false] at hr
          rcases hr with rfl | rfl | rfl | rfl
          · exact vals_sz (by decide) (zw _ (by simp))
          · exact vals_sz (by decide) (zw _ (by simp))
          · exact vals_sz (by decide) (zw _ (by simp))
          · exact vals_sz (by decide) (zw _ (by simp))
        have b1 := ref41_at (T := T) false (fv t) (fv h) (fv s) (y0.map fv) (y1.map fv) (f0.map fv) (f1.map fv) zt2 zh2 zs2 (by simp; omega) (by simp; omega) (by simp; omega) (by simp; omega) zw2
        have b2 := ref41_at (T := T) true (fv t) (fv h) (fv s) (y0.map fv) (y1.map fv) (f0.map fv) (f1.map fv) zt2 zh2 zs2 (by simp; omega) (by simp; omega) (by simp; omega) (by simp; omega) zw2
        rw [← fzs_nrm, ← fzs_nrm, ← fzs_nrm, ← fzs_nrm] at b1 b2
        have zA := atQ_sz false (h := fv h) (x := fv s - fv t) (by omega) zh2 zw2
        have zB := atQ_sz true (h := fv h) (x := fv s - fv t) (by omega) zh2 zw2
        have lA := atQ_length false (fv h) (fv s - fv t) (y0.map fv) (y1.map fv) (f0.map fv) (f1.map fv)
        have lB := atQ_length true (fv h) (fv s - fv t) (y0.map fv) (y1.map fv) (f0.map fv) (f1.map fv)
        rw [List.length_map] at lA lB
        have i1 := law11_is (T := T) (fzs (atQ false (fv h) (fv s - fv t) (y0.map fv) (y1.map fv) (f0.map fv) (f1.map fv))) (fzs (atQ false (fv h) (fv s - fv t) (y0.map fv) (y1.map fv) (f0.map fv) (f1.map fv))) (by rw [fzs_length]; omega) (fzs_sz fun q hq => Nat.le_trans (zA q hq) (by decide))
        have i2 := law11_is (T := T) (fzs (atQ true (fv h) (fv s - fv t) (y0.map fv) (y1.map fv) (f0.map fv) (f1.map fv))) (fzs (atQ true (fv h) (fv s - fv t) (y0.map fv) (y1.map fv) (f0.map fv) (f1.map fv))) (by rw [fzs_length]; omega) (fzs_sz fun q hq => Nat.le_trans (zB q hq) (by decide))
        rw [decide_eq_true rfl] at i1 i2
        clear er zl zw zw2 zA zB lA lB zx
        generalize fzs (atQ false (fv h) (fv s - fv t) (y0.map fv) (y1.map fv) (f0.map fv) (f1.map fv)) = V1 at *
        generalize fzs (atQ true (fv h) (fv s - fv t) (y0.map fv) (y1.map fv) (f0.map fv) (f1.map fv)) = V2 at *
        generalize nrm y0 = N0 at *
        generalize nrm y1 = N1 at *
        generalize nrm f0 = N2 at *
        generalize nrm f1 = N3 at *
        generalize fz (fv t) = NT at *
        generalize fz (fv h) = NH at *
        generalize fz (fv s) = NS at *
        simp -implicitDefEqProofs [hw, cl, cs, hsp, hto, hts, hn, hr, hns, a1, a2, b1, b2, i1, i2]
end
end Go.Ab
end

section
namespace Go.Ab
class CLaw41e (T : Tbl) : Prop where
end Go.Ab
end

section
namespace Go.Ab
theorem rise_of {h x r : Rat} (hh : h ≠ 0) (e : x = h * r) : x / h = r := by
  subst e
  grind
def plQ (a0 a1 a2 a3 x : Rat) : Rat := a0 + a1 * x + a2 * x * x + a3 * x * x * x
def dlQ (a1 a2 a3 x : Rat) : Rat := a1 + 2 * a2 * x + 3 * a3 * x * x
theorem poly_cub {h : Rat} (hh : h ≠ 0) (a0 a1 a2 a3 t s : Rat) :
    cub1 h (plQ a0 a1 a2 a3 t) (plQ a0 a1 a2 a3 (t + h)) (dlQ a1 a2 a3 t) (dlQ a1 a2 a3 (t + h)) (s - t) = plQ a0 a1 a2 a3 s ∧
    cub2 h (plQ a0 a1 a2 a3 t) (plQ a0 a1 a2 a3 (t + h)) (dlQ a1 a2 a3 t) (dlQ a1 a2 a3 (t + h)) (s - t) = dlQ a1 a2 a3 s := by
  have e1 : riseQ h (plQ a0 a1 a2 a3 t) (plQ a0 a1 a2 a3 (t + h)) = a1 + a2 * (2 * t + h) + a3 * (3 * t * t + 3 * t * h + h * h) := by
    refine rise_of hh ?_
    unfold plQ
    grind
  have e2 : firQ h (plQ a0 a1 a2 a3 t) (plQ a0 a1 a2 a3 (t + h)) (dlQ a1 a2 a3 t) = a2 + a3 * (3 * t + h) := by
    refine rise_of hh ?_
    rw [e1]
    unfold dlQ
    grind
  have e3 : (dlQ a1 a2 a3 (t + h) - riseQ h (plQ a0 a1 a2 a3 t) (plQ a0 a1 a2 a3 (t + h))) / h = a2 + a3 * (3 * t + 2 * h) := by
    refine rise_of hh ?_
    rw [e1]
    unfold dlQ
    grind
  have e4 : secQ h (plQ a0 a1 a2 a3 t) (plQ a0 a1 a2 a3 (t + h)) (dlQ a1 a2 a3 t) (dlQ a1 a2 a3 (t + h)) = a3 := by
    refine rise_of hh ?_
    rw [e3, e2]
    grind
  unfold cub1 cub2
  rw [e2, e4]
  unfold plQ dlQ
  refine ⟨by grind, by grind⟩
theorem evl_pl (l : List Rat) (hl : l.length ≤ 4) (x : Rat) : evlR l x = plQ (l.getD 0 0) (l.getD 1 0) (l.getD 2 0) (l.getD 3 0) x := by
  have e : ∀ i, l.getD i 0 = [l.getD 0 0, l.getD 1 0, l.getD 2 0, l.getD 3 0].getD i 0 := by
    intro i
    match i with
    | 0 => rfl
    | 1 => rfl
    | 2 => rfl
    | 3 => rfl
    | i + 4 =>
      rw [List.getD_eq_getElem?_getD, List.getElem?_eq_none (by omega)]
      rfl
  rw [evlR_congr x e]
  simp only [evlR, plQ]
  grind
theorem evl_dl (l : List Rat) (hl : l.length ≤ 4) (x : Rat) : evlR (trimR (dif l)) x = dlQ (l.getD 1 0) (l.getD 2 0) (l.getD 3 0) x := by
  have e : ∀ i, (trimR (dif l)).getD i 0 = [l.getD 1 0, 2 * l.getD 2 0, 3 * l.getD 3 0].getD i 0 := by
    intro i
    rw [trimR_getD, dif_getD]
    match i with
    | 0 =>
      show (((0 : Int) + 1 : Int) : Rat) * l.getD 1 0 = l.getD 1 0
      rw [show (((0 : Int) + 1 : Int) : Rat) = 1 from rfl, Rat.one_mul]
    | 1 => rfl
    | 2 => rfl
    | i + 3 =>
      have h0 : l.getD (i + 3 + 1) 0 = 0 := by
        rw [List.getD_eq_getElem?_getD, List.getElem?_eq_none (by omega)]
        rfl
      rw [h0, Rat.mul_zero]
      rfl
  rw [evlR_congr x e]
  simp only [evlR, dlQ]
  grind
section
variable {T : Tbl} [CNat T] [CProd T] [CTwos T] [CQuot T] [CQuotD T] [CText T] [CWhole T] [CCommon T] [CFrac T] [CFrac2 T] [CJoin T] [CRow T] [CSpan T] [CPoly T] [CRef02 T] [CRef04 T] [CRef05 T] [CRef07 T] [CRef06 T] [CRef08 T] [CRef09 T] [CRef11 T] [CRef14 T] [CRef41 T] [CLaw09 T] [CLaw11 T] [CLaw41 T]
theorem law41_polys (a : List Fz) (t l1 s : Fz) : callF T 315 [.sl (rowF a) .an, .agg [.b t.1, .sl (u32s t.2.1) .an, .sl (u32s t.2.2) .an, .b l1.1, .sl (u32s l1.2.1) .an, .sl (u32s l1.2.2) .an, .b s.1, .sl (u32s s.2.1) .an, .sl (u32s s.2.2) .an]] = some (.b true) := by
  have hw := law41_works (T := T)
  have k0 := ref11_longB (T := T) a 4 2 (by decide)
  have k1 := ref09_long (T := T) t 2
  have k2 := ref09_long (T := T) l1 2
  have k3 := ref09_long (T := T) s 2
  simp only [Int.cast_ofNat_Int] at k0 k1 k2 k3
  rw [f315 _ rfl, b315]
  cases h0 : longB a 4 2 with
  | true =>
    rw [h0] at k0
    simp -implicitDefEqProofs [hw, k0]
  | false =>
  rw [h0] at k0
  cases h1 : decide (2 < fsz t) with
  | true =>
    rw [h1] at k1
    simp -implicitDefEqProofs [hw, k0, k1]
  | false =>
  rw [h1] at k1
  cases h2 : decide (2 < fsz l1) with
  | true =>
    rw [h2] at k2
    simp -implicitDefEqProofs [hw, k0, k1, k2]
  | false =>
  rw [h2] at k2
  cases h3 : decide (2 < fsz s) with
  | true =>
    rw [h3] at k3
    simp -implicitDefEqProofs [hw, k0, k1, k2, k3]
  | false =>
  rw [h3] at k3
  have h1 := of_decide_eq_false h1
  have h2 := of_decide_eq_false h2
  have h3 := of_decide_eq_false h3
  obtain ⟨la, za⟩ := longB_false h0
  have m0 := law11_to (T := T) a (by omega)
  have m1 := law09_to (T := T) t
  have m2 := law09_to (T := T) l1
  have m3 := law09_to (T := T) s
  have d0 := poly_diff (T := T) a (by omega) (fun x hx => Nat.le_trans (za x hx) (by decide))
  have b0 := frac_abs (T := T) l1 (by omega)
  obtain ⟨H, hH⟩ : ∃ H, H = absQ (fv l1) := ⟨_, rfl⟩
  rw [← hH] at b0
  have zl1 := sz_fv (x := l1) (L := 2) (by omega) (by decide)
  have zH : sz H ≤ 2 := by rw [hH, sz_abs]; exact zl1
  have sg := frac_sign (T := T) (fz H) (by rw [fsz_fz]; omega)
  rw [fv_fz] at sg
  by_cases hz : H = 0
  · have hq : sgQ H = 0 := sgQ_zero.2 hz
    rw [hq] at sg
    clear hH hq hz zH
    generalize fz H = FH at *
    generalize fzs (trimR (dif (a.map fv))) = D at *
    simp -implicitDefEqProofs [hw, k0, k1, k2, k3, m0, m1, m2, m3, d0, b0, sg]
  · have hq : ¬ sgQ H = 0 := fun e => hz (sgQ_zero.1 e)
    have hpos : 0 < H := by
      have := absQ_nonneg (fv l1)
      rw [← hH] at this
      grind
    have zt := sz_fv (x := t) (L := 2) (by omega) (by decide)
    have zs := sz_fv (x := s) (L := 2) (by omega) (by decide)
    have ad := frac_add (T := T) t (fz H) (by omega) (by rw [fsz_fz]; omega)
    rw [fv_fz] at ad
    have ze := sz_add (fv t) H
    have zva : ∀ q ∈ a.map fv, sz q ≤ 2 := vals_sz (by decide) za
    have ml : a.length * (2 + 5 + 1) ≤ 4 * (2 + 5 + 1) := Nat.mul_le_mul_right _ la
    have ml2 : a.length * (2 + 2 + 1) ≤ 4 * (2 + 2 + 1) := Nat.mul_le_mul_right _ la
    have p0 := poly_eval (T := T) a t (B := 2) (C := 2) (by omega) (by omega) (by decide) (by decide) za (by omega)
    have p1 := poly_eval (T := T) a (fz (fv t + H)) (B := 2) (C := 5) (by omega) (by rw [fsz_fz]; omega) (by decide) (by decide) za (by omega)
    have p2 := poly_eval (T := T) a s (B := 2) (C := 2) (by omega) (by omega) (by decide) (by decide) za (by omega)
    have zd0 := dif_sz (l := a.map fv) (B := 2) (by simp; omega) (by decide) zva
    have ld := trimR_len (dif (a.map fv))
    rw [dif_length, List.length_map] at ld
    have zd : ∀ x ∈ fzs (trimR (dif (a.map fv))), fsz x ≤ 3 := fzs_sz fun q hq => zd0 q (trimR_mem hq)
    have ldf : (fzs (trimR (dif (a.map fv)))).length ≤ 4 := by rw [fzs_length]; omega
    have md : (fzs (trimR (dif (a.map fv)))).length * (3 + 5 + 1) ≤ 4 * (3 + 5 + 1) := Nat.mul_le_mul_right _ ldf
    have md2 : (fzs (trimR (dif (a.map fv)))).length * (3 + 2 + 1) ≤ 4 * (3 + 2 + 1) := Nat.mul_le_mul_right _ ldf
    have q0 := poly_eval (T := T) (fzs (trimR (dif (a.map fv)))) t (B := 3) (C := 2) (by omega) (by omega) (by decide) (by decide) zd (by omega)
    have q1 := poly_eval (T := T) (fzs (trimR (dif (a.map fv)))) (fz (fv t + H)) (B := 3) (C := 5) (by omega) (by rw [fsz_fz]; omega) (by decide) (by decide) zd (by omega)
    have q2 := poly_eval (T := T) (fzs (trimR (dif (a.map fv)))) s (B := 3) (C := 2) (by omega) (by omega) (by decide) (by decide) zd (by omega)
    rw [fv_fz] at p1 q1
    rw [fv_fzs] at q0 q1 q2
    have w0 := evlR_sz (x := fv t) (B := 2) (C := 2) zt (a.map fv) zva
    have w1 := evlR_sz (x := fv t + H) (B := 2) (C := 5) (by omega) (a.map fv) zva
    have w2 := evlR_sz (x := fv s) (B := 2) (C := 2) zs (a.map fv) zva
    have w3 := evlR_sz (x := fv t) (B := 3) (C := 2) zt (trimR (dif (a.map fv))) (fun q hq => zd0 q (trimR_mem hq))
    have w4 := evlR_sz (x := fv t + H) (B := 3) (C := 5) (by omega) (trimR (dif (a.map fv))) (fun q hq => zd0 q (trimR_mem hq))
    have w5 := evlR_sz (x := fv s) (B := 3) (C := 2) zs (trimR (dif (a.map fv))) (fun q hq => zd0 q (trimR_mem hq))
    rw [List.length_map] at w0 w1 w2
    have mt : (trimR (dif (a.map fv))).length * (3 + 5 + 1) ≤ 4 * (3 + 5 + 1) := Nat.mul_le_mul_right _ (by omega)
    have mt2 : (trimR (dif (a.map fv))).length * (3 + 2 + 1) ≤ 4 * (3 + 2 + 1) := Nat.mul_le_mul_right _ (by omega)
    have hlm : (a.map fv).length ≤ 4 := by simpa using la
    obtain ⟨pc1, pc2⟩ := poly_cub hz ((a.map fv).getD 0 0) ((a.map fv).getD 1 0) ((a.map fv).getD 2 0) ((a.map fv).getD 3 0) (fv t) (fv s)
    rw [← evl_pl _ hlm, ← evl_pl _ hlm, ← evl_pl _ hlm, ← evl_dl _ hlm, ← evl_dl _ hlm] at pc1
    rw [← evl_pl _ hlm, ← evl_pl _ hlm, ← evl_dl _ hlm, ← evl_dl _ hlm, ← evl_dl _ hlm] at pc2
    clear md md2 zd0 zd ld ldf zva ml ml2 hlm za
    generalize evlR (a.map fv) (fv t) = P0 at *
    generalize evlR (a.map fv) (fv t + H) = P1 at *
    generalize evlR (a.map fv) (fv s) = P2 at *
    generalize evlR (trimR (dif (a.map fv))) (fv t) = D0 at *
    generalize evlR (trimR (dif (a.map fv))) (fv t + H) = D1 at *
    generalize evlR (trimR (dif (a.map fv))) (fv s) = D2 at *
    have hR : rightS (fz H) [fz P0] [fz P1] [fz D0] [fz D1] = true := by
      unfold rightS
      rw [fv_fz]
      simp [hpos]
    have hws : ∀ r ∈ [[fz P0], [fz P1], [fz D0], [fz D1]], ∀ x ∈ r, fsz x ≤ 89 := by
      intro r hr x hx
      simp only [List.mem_cons, List.not_mem_nil, or_false] at hr
      rcases hr with rfl | rfl | rfl | rfl <;> simp only [List.mem_cons, List.not_mem_nil, or_false] at hx <;> subst hx <;> rw [fsz_fz] <;> omega
    have a1 := span_at (T := T) t (fz H) s [fz P0] [fz P1] [fz D0] [fz D1] (by omega) (by rw [fsz_fz]; omega) (by omega) hR hws
    have a2 := span_slope (T := T) t (fz H) s [fz P0] [fz P1] [fz D0] [fz D1] (by omega) (by rw [fsz_fz]; omega) (by omega) hR hws
    simp only [fv_fz] at a1 a2
    rw [mixA_at hz [fz P0] [fz P1] [fz D0] [fz D1] rfl rfl rfl] at a1
    rw [mixS_at hz [fz P0] [fz P1] [fz D0] [fz D1] rfl rfl rfl] at a2
    have e1 : atQ false H (fv s - fv t) ([fz P0].map fv) ([fz P1].map fv) ([fz D0].map fv) ([fz D1].map fv) = [P2] := by
      rw [← pc1]
      simp [atQ, cubV]
    have e2 : atQ true H (fv s - fv t) ([fz P0].map fv) ([fz P1].map fv) ([fz D0].map fv) ([fz D1].map fv) = [D2] := by
      rw [← pc2]
      simp [atQ, cubV]
    rw [e1] at a1
    rw [e2] at a2
    have o1 := row_same (T := T) (fzs [P2]) [fz P2] (by simp) (fzs_sz fun q hq => by
      simp only [List.mem_cons, List.not_mem_nil, or_false] at hq
      rw [hq]; omega) (fun x hx => by
      simp only [List.mem_cons, List.not_mem_nil, or_false] at hx
      rw [hx, fsz_fz]; omega)
    have o2 := row_same (T := T) (fzs [D2]) [fz D2] (by simp) (fzs_sz fun q hq => by
      simp only [List.mem_cons, List.not_mem_nil, or_false] at hq
      rw [hq]; omega) (fun x hx => by
      simp only [List.mem_cons, List.not_mem_nil, or_false] at hx
      rw [hx, fsz_fz]; omega)
    rw [decide_eq_true (show (fzs [P2]).map fv = [fz P2].map fv from rfl)] at o1
    rw [decide_eq_true (show (fzs [D2]).map fv = [fz D2].map fv from rfl)] at o2
    have rc : ∀ X : Fz, rowF [X] = [celF X] := fun _ => rfl
    have rf1 : ∀ X : Rat, fzs [X] = [fz X] := fun _ => rfl
    simp only [agS, rc, rf1] at a1 a2 o1 o2
    clear hR hws e1 e2 pc1 pc2 w0 w1 w2 w3 w4 w5 mt mt2 ze zt zs zH hH hpos hz zl1
    generalize fz P0 = X0 at *
    generalize fz P1 = X1 at *
    generalize fz P2 = X2 at *
    generalize fz D0 = X3 at *
    generalize fz D1 = X4 at *
    generalize fz D2 = X5 at *
    generalize fzs (trimR (dif (a.map fv))) = D at *
    generalize fz (fv t + H) = E at *
    generalize fz H = FH at *
    simp -implicitDefEqProofs [hw, k0, k1, k2, k3, m0, m1, m2, m3, d0, b0, sg, hq, ad, p0, p1, p2, q0, q1, q2, a1, a2, o1, o2]
variable [CLaw41e T] in
end
end Go.Ab
end
