/-
  A calculus of values, boxes and code, and what functions of the program compute, proved in it.
  Conditions: none beyond those that the theorems state. (Part 6: GpSpan2, GpFrac2, GpLaw11, GcLaw12, GcRef12, GcGrid, GpGrid, GpGrid2, NmGrid, GpRef12, GpLaw12, GpLaw41, GpLaw41b.)
-/
import Derived.Test.YtefdnbbfkhkjeaaDoorPart5

set_option linter.unusedSectionVars false
set_option linter.unusedVariables false
set_option linter.unusedSimpArgs false
set_option linter.unnecessarySimpa false

section
namespace Go.Ab
theorem rowF3 (a b c : Fz) : rowF [a, b, c] = [celF a, celF b, celF c] := rfl
theorem rowF4 (a b c d : Fz) : rowF [a, b, c, d] = [celF a, celF b, celF c, celF d] := rfl
theorem rowF2 (a b : Fz) : rowF [a, b] = [celF a, celF b] := rfl
theorem fzs_le {l : List Rat} {B : Nat} (h : ∀ q ∈ l, sz q ≤ B) : ∀ x ∈ fzs l, fsz x ≤ B := by
 intro x hx
 obtain ⟨q, hq, rfl⟩ := List.mem_map.1 hx
 exact h q hq
def prtQ (t h s : Rat) : Rat := (s - t) / h
def facA (h x y : Rat) : List Rat := [y * y * (1 + 2 * x), x * x * (3 + -2 * x), h * x * y * y, h * x * x * -y]
def facS (h x y : Rat) : List Rat := [-(6 * x * y / h), 6 * x * y / h, y * (1 + -3 * x), x * (-2 + 3 * x)]
def mix4 (c : List Rat) (y0 y1 f0 f1 : List Fz) : List Rat := mixF ((fzs c).zip [y0, y1, f0, f1]) (List.replicate y0.length 0)
theorem prodQ3 (a b c : Rat) : prodQ [fz a, fz b, fz c] = a * b * c := by simp [prodQ, Rat.one_mul]
theorem prodQ2 (a b : Rat) : prodQ [fz a, fz b] = a * b := by simp [prodQ, Rat.one_mul]
theorem prodQ4 (a : Fz) (b c d : Rat) : prodQ [a, fz b, fz c, fz d] = fv a * b * c * d := by simp [prodQ, Rat.one_mul]
section
variable {T : Tbl} [CNat T] [CProd T] [CTwos T] [CQuot T] [CQuotD T] [CText T] [CWhole T] [CCommon T] [CFrac T] [CJoin T] [CRow T] [CSpan T]
theorem prt_sz {t h s : Fz} (ht : fsz t ≤ 6) (hh : fsz h ≤ 6) (hs : fsz s ≤ 6) : sz (prtQ (fv t) (fv h) (fv s)) ≤ 19 := by
 unfold prtQ
 have e1 := sz_sub (fv s) (fv t)
 have e2 := sz_fv (L := 6) ht (by decide)
 have e3 := sz_fv (L := 6) hs (by decide)
 have e4 := sz_fv (L := 6) hh (by decide)
 have e5 := sz_div (fv s - fv t) (fv h)
 omega
theorem lin_sz {a b : Int} {x : Rat} {S : Nat} (hx : sz x ≤ S) (ha1 : -100 ≤ a) (ha2 : a ≤ 100) (hb1 : -100 ≤ b) (hb2 : b ≤ 100) : sz ((a : Rat) + (b : Rat) * x) ≤ S + 3 := by
 have h1 := sz_small ha1 ha2
 have h2 := sz_small hb1 hb2
 have h3 := sz_mul (b : Rat) x
 have h4 := sz_add (a : Rat) ((b : Rat) * x)
 omega
theorem mem3 {a b c : Fz} {B : Nat} (h1 : fsz a ≤ B) (h2 : fsz b ≤ B) (h3 : fsz c ≤ B) : ∀ x ∈ [a, b, c], fsz x ≤ B := by
 intro x hx
 simp only [List.mem_cons, List.not_mem_nil, or_false] at hx
 rcases hx with rfl | rfl | rfl <;> assumption
theorem mem2 {a b : Fz} {B : Nat} (h1 : fsz a ≤ B) (h2 : fsz b ≤ B) : ∀ x ∈ [a, b], fsz x ≤ B := by
 intro x hx
 simp only [List.mem_cons, List.not_mem_nil, or_false] at hx
 rcases hx with rfl | rfl <;> assumption
theorem mem4 {a b c d : Fz} {B : Nat} (h1 : fsz a ≤ B) (h2 : fsz b ≤ B) (h3 : fsz c ≤ B) (h4 : fsz d ≤ B) : ∀ x ∈ [a, b, c, d], fsz x ≤ B := by
 intro x hx
 simp only [List.mem_cons, List.not_mem_nil, or_false] at hx
 rcases hx with rfl | rfl | rfl | rfl <;> assumption
theorem span_at (t h s : Fz) (y0 y1 f0 f1 : List Fz) (ht : fsz t ≤ 6) (hh : fsz h ≤ 6) (hs : fsz s ≤ 6) (hr : rightS h y0 y1 f0 f1 = true) (hw : ∀ r ∈ [y0, y1, f0, f1], ∀ x ∈ r, fsz x ≤ 89) :
  callF T 324 [agS t h y0 y1 f0 f1, efz s] = some (.tup [.sl (rowF (fzs (mix4 (facA (fv h) (prtQ (fv t) (fv h) (fv s)) (1 + -1 * prtQ (fv t) (fv h) (fv s))) y0 y1 f0 f1))) .an, .b true]) := by
 have c0 := span_right (T := T) t h y0 y1 f0 f1 (by omega)
 rw [hr] at c0
 have c1 := span_part (T := T) t h s y0 y1 f0 f1 (by omega) (by omega) (by omega)
 have zx := prt_sz ht hh hs
 change callF T 335 _ = some (efz (fz (prtQ (fv t) (fv h) (fv s)))) at c1
 obtain ⟨x, hx⟩ : ∃ x, x = prtQ (fv t) (fv h) (fv s) := ⟨_, rfl⟩
 rw [← hx] at c1 zx
 rw [← hx]
 have zy : sz (1 + -1 * x) ≤ 22 := lin_sz (a := 1) (b := -1) zx (by decide) (by decide) (by decide) (by decide)
 have z1 : sz (1 + 2 * x) ≤ 22 := lin_sz (a := 1) (b := 2) zx (by decide) (by decide) (by decide) (by decide)
 have z2 : sz (3 + -2 * x) ≤ 22 := lin_sz (a := 3) (b := -2) zx (by decide) (by decide) (by decide) (by decide)
 have k1 : callF T 336 [.i .i64 1, .i .i64 (-1), efz (fz x)] = some (efz (fz (1 + -1 * x))) := by
  have := span_linear (T := T) 1 (-1) (fz x) (by rw [fsz_fz]; omega) (by decide) (by decide) (by decide) (by decide)
  rwa [fv_fz] at this
 have k2 : callF T 336 [.i .i64 1, .i .i64 2, efz (fz x)] = some (efz (fz (1 + 2 * x))) := by
  have := span_linear (T := T) 1 2 (fz x) (by rw [fsz_fz]; omega) (by decide) (by decide) (by decide) (by decide)
  rwa [fv_fz] at this
 have k3 : callF T 336 [.i .i64 3, .i .i64 (-2), efz (fz x)] = some (efz (fz (3 + -2 * x))) := by
  have := span_linear (T := T) 3 (-2) (fz x) (by rw [fsz_fz]; omega) (by decide) (by decide) (by decide) (by decide)
  rwa [fv_fz] at this
 generalize 1 + -1 * x = y at *
 have k4 := frac_neg (T := T) (fz y) (by rw [fsz_fz]; omega)
 rw [fv_fz] at k4
 have zn : sz (-y) ≤ 22 := by rw [sz_neg]; exact zy
 have m1 := span_times (T := T) [fz y, fz y, fz (1 + 2 * x)] (B := 22) (by simp) (by decide) (mem3 zy zy z1) (by simp)
 have m2 := span_times (T := T) [fz x, fz x, fz (3 + -2 * x)] (B := 22) (by simp) (by decide) (mem3 (Nat.le_trans zx (by decide)) (Nat.le_trans zx (by decide)) z2) (by simp)
 have m3 := span_times (T := T) [h, fz x, fz y, fz y] (B := 22) (by simp) (by decide) (mem4 (by omega) (Nat.le_trans zx (by decide)) zy zy) (by simp)
 have m4 := span_times (T := T) [h, fz x, fz x, fz (-y)] (B := 22) (by simp) (by decide) (mem4 (by omega) (Nat.le_trans zx (by decide)) (Nat.le_trans zx (by decide)) zn) (by simp)
 have q1 := prodQ_sz (B := 22) (by decide) [fz y, fz y, fz (1 + 2 * x)] (mem3 zy zy z1) 3
 have q2 := prodQ_sz (B := 22) (by decide) [fz x, fz x, fz (3 + -2 * x)] (mem3 (Nat.le_trans zx (by decide)) (Nat.le_trans zx (by decide)) z2) 3
 have q3 := prodQ_sz (B := 22) (by decide) [h, fz x, fz y, fz y] (mem4 (by omega) (Nat.le_trans zx (by decide)) zy zy) 4
 have q4 := prodQ_sz (B := 22) (by decide) [h, fz x, fz x, fz (-y)] (mem4 (by omega) (Nat.le_trans zx (by decide)) (Nat.le_trans zx (by decide)) zn) 4
 simp only [List.take_succ_cons, List.take_nil, List.take_zero, List.length_cons, List.length_nil] at q1 q2 q3 q4
 rw [prodQ3] at m1 m2 q1 q2
 rw [prodQ4] at m3 m4 q3 q4
 simp only [rightS, Bool.and_eq_true, decide_eq_true_eq] at hr
 obtain ⟨⟨⟨⟨_, h2⟩, h3⟩, h4⟩, h5⟩ := hr
 have mx := row_mix (T := T) (fzs (facA (fv h) x y)) [y0, y1, f0, f1] y0.length (by simp [facA]) h2 (by simp) (B := 89) (fzs_le (by
  intro q hq
  simp only [facA, List.mem_cons, List.not_mem_nil, or_false] at hq
  rcases hq with rfl | rfl | rfl | rfl <;> omega)) hw (by decide) (by simp) (by
  intro r hr
  simp only [List.mem_cons, List.not_mem_nil, or_false] at hr
  rcases hr with rfl | rfl | rfl | rfl <;> omega)
 have rw5 := span_rows (T := T) t h y0 y1 f0 f1
 change callF T 271 _ = some (.tup [.sl (rowF (fzs (mix4 (facA (fv h) x y) y0 y1 f0 f1))) .an, .b true]) at mx
 have ef : rowF (fzs (facA (fv h) x y)) = [celF (fz (y * y * (1 + 2 * x))), celF (fz (x * x * (3 + -2 * x))), celF (fz (fv h * x * y * y)), celF (fz (fv h * x * x * -y))] := rfl
 rw [ef] at mx
 rw [rowF3] at m1 m2
 rw [rowF4] at m3 m4
 rw [f324 _ rfl, b324]
 clear hw ef q1 q2 q3 q4 zx zy z1 z2 zn hx
 generalize fzs (mix4 (facA (fv h) x y) y0 y1 f0 f1) = R at *
 generalize [y0, y1, f0, f1] = LL at *
 generalize fz (y * y * (1 + 2 * x)) = F0 at *
 generalize fz (x * x * (3 + -2 * x)) = F1 at *
 generalize fz (fv h * x * y * y) = F2 at *
 generalize fz (fv h * x * x * -y) = F3 at *
 generalize fz (-y) = Y' at *
 generalize fz (1 + 2 * x) = L1 at *
 generalize fz (3 + -2 * x) = L2 at *
 generalize fz x = X at *
 generalize fz y = Y at *
 simp -implicitDefEqProofs [c0, c1, k1, k2, k3, k4, m1, m2, m3, m4, mx, rw5]
theorem span_slope (t h s : Fz) (y0 y1 f0 f1 : List Fz) (ht : fsz t ≤ 6) (hh : fsz h ≤ 6) (hs : fsz s ≤ 6) (hr : rightS h y0 y1 f0 f1 = true) (hw : ∀ r ∈ [y0, y1, f0, f1], ∀ x ∈ r, fsz x ≤ 89) :
  callF T 326 [agS t h y0 y1 f0 f1, efz s] = some (.tup [.sl (rowF (fzs (mix4 (facS (fv h) (prtQ (fv t) (fv h) (fv s)) (1 + -1 * prtQ (fv t) (fv h) (fv s))) y0 y1 f0 f1))) .an, .b true]) := by
 have c0 := span_right (T := T) t h y0 y1 f0 f1 (by omega)
 rw [hr] at c0
 have c1 := span_part (T := T) t h s y0 y1 f0 f1 (by omega) (by omega) (by omega)
 have zx := prt_sz ht hh hs
 change callF T 335 _ = some (efz (fz (prtQ (fv t) (fv h) (fv s)))) at c1
 obtain ⟨x, hx⟩ : ∃ x, x = prtQ (fv t) (fv h) (fv s) := ⟨_, rfl⟩
 rw [← hx] at c1 zx
 rw [← hx]
 have zy : sz (1 + -1 * x) ≤ 22 := lin_sz (a := 1) (b := -1) zx (by decide) (by decide) (by decide) (by decide)
 have z1 : sz (1 + -3 * x) ≤ 22 := lin_sz (a := 1) (b := -3) zx (by decide) (by decide) (by decide) (by decide)
 have z2 : sz (-2 + 3 * x) ≤ 22 := lin_sz (a := -2) (b := 3) zx (by decide) (by decide) (by decide) (by decide)
 have z6 : sz (6 : Rat) ≤ 1 := sz_small (k := 6) (by decide) (by decide)
 have k0 : callF T 205 [.i .i64 6] = some (efz (fz 6)) := frac_of (T := T) 6 (by decide) (by decide)
 have k1 : callF T 336 [.i .i64 1, .i .i64 (-1), efz (fz x)] = some (efz (fz (1 + -1 * x))) := by
  have := span_linear (T := T) 1 (-1) (fz x) (by rw [fsz_fz]; omega) (by decide) (by decide) (by decide) (by decide)
  rwa [fv_fz] at this
 have k2 : callF T 336 [.i .i64 1, .i .i64 (-3), efz (fz x)] = some (efz (fz (1 + -3 * x))) := by
  have := span_linear (T := T) 1 (-3) (fz x) (by rw [fsz_fz]; omega) (by decide) (by decide) (by decide) (by decide)
  rwa [fv_fz] at this
 have k3 : callF T 336 [.i .i64 (-2), .i .i64 3, efz (fz x)] = some (efz (fz (-2 + 3 * x))) := by
  have := span_linear (T := T) (-2) 3 (fz x) (by rw [fsz_fz]; omega) (by decide) (by decide) (by decide) (by decide)
  rwa [fv_fz] at this
 generalize 1 + -1 * x = y at *
 have zx22 : fsz (fz x) ≤ 22 := Nat.le_trans zx (by decide)
 have z622 : fsz (fz 6) ≤ 22 := Nat.le_trans z6 (by decide)
 have m1 := span_times (T := T) [fz 6, fz x, fz y] (B := 22) (by simp) (by decide) (mem3 z622 zx22 zy) (by simp)
 have m2 := span_times (T := T) [fz y, fz (1 + -3 * x)] (B := 22) (by simp) (by decide) (mem2 zy z1) (by simp)
 have m3 := span_times (T := T) [fz x, fz (-2 + 3 * x)] (B := 22) (by simp) (by decide) (mem2 zx22 z2) (by simp)
 have q1 := prodQ_sz (B := 22) (by decide) [fz 6, fz x, fz y] (mem3 z622 zx22 zy) 3
 have q2 := prodQ_sz (B := 22) (by decide) [fz y, fz (1 + -3 * x)] (mem2 zy z1) 2
 have q3 := prodQ_sz (B := 22) (by decide) [fz x, fz (-2 + 3 * x)] (mem2 zx22 z2) 2
 simp only [List.take_succ_cons, List.take_nil, List.take_zero, List.length_cons, List.length_nil] at q1 q2 q3
 rw [prodQ3] at m1 q1
 rw [prodQ2] at m2 m3 q2 q3
 have zh := sz_fv (L := 6) hh (by decide)
 have zq := sz_div (6 * x * y) (fv h)
 have k4 := frac_quo (T := T) (fz (6 * x * y)) h (by rw [fsz_fz]; omega) (by omega)
 rw [fv_fz] at k4
 have k5 := frac_neg (T := T) (fz (6 * x * y / fv h)) (by rw [fsz_fz]; omega)
 rw [fv_fz] at k5
 have zn : sz (-(6 * x * y / fv h)) ≤ 89 := by rw [sz_neg]; omega
 simp only [rightS, Bool.and_eq_true, decide_eq_true_eq] at hr
 obtain ⟨⟨⟨⟨_, h2⟩, h3⟩, h4⟩, h5⟩ := hr
 have mx := row_mix (T := T) (fzs (facS (fv h) x y)) [y0, y1, f0, f1] y0.length (by simp [facS]) h2 (by simp) (B := 89) (fzs_le (by
  intro q hq
  simp only [facS, List.mem_cons, List.not_mem_nil, or_false] at hq
  rcases hq with rfl | rfl | rfl | rfl <;> omega)) hw (by decide) (by simp) (by
  intro r hr
  simp only [List.mem_cons, List.not_mem_nil, or_false] at hr
  rcases hr with rfl | rfl | rfl | rfl <;> omega)
 have rw5 := span_rows (T := T) t h y0 y1 f0 f1
 change callF T 271 _ = some (.tup [.sl (rowF (fzs (mix4 (facS (fv h) x y) y0 y1 f0 f1))) .an, .b true]) at mx
 have ef : rowF (fzs (facS (fv h) x y)) = [celF (fz (-(6 * x * y / fv h))), celF (fz (6 * x * y / fv h)), celF (fz (y * (1 + -3 * x))), celF (fz (x * (-2 + 3 * x)))] := rfl
 rw [ef] at mx
 rw [rowF3] at m1
 rw [rowF2] at m2 m3
 rw [f326 _ rfl, b326]
 clear hw ef q1 q2 q3 zx zy z1 z2 zn hx zq zx22 z622
 generalize fzs (mix4 (facS (fv h) x y) y0 y1 f0 f1) = R at *
 generalize [y0, y1, f0, f1] = LL at *
 generalize fz (-(6 * x * y / fv h)) = F0 at *
 generalize fz (6 * x * y / fv h) = F1 at *
 generalize fz (6 * x * y) = F4 at *
 generalize fz (y * (1 + -3 * x)) = F2 at *
 generalize fz (x * (-2 + 3 * x)) = F3 at *
 generalize fz (1 + -3 * x) = L1 at *
 generalize fz (-2 + 3 * x) = L2 at *
 generalize fz x = X at *
 generalize fz y = Y at *
 generalize fz 6 = S6 at *
 generalize decide (fv h ≠ 0) = Z at *
 simp -implicitDefEqProofs [c0, c1, k0, k1, k2, k3, k4, k5, m1, m2, m3, mx, rw5]
end
end Go.Ab
end

section
namespace Go.Ab
def absQ (q : Rat) : Rat := if q < 0 then -q else q
end Go.Ab
end

section
namespace Go.Ab
theorem take_succ {α : Type} (l : List α) {i : Nat} (h : i < l.length) : l.take (i + 1) = l.take i ++ [l[i]'h] := List.take_succ_eq_append_getElem h
section
variable {T : Tbl} [CRef02 T] [CRef04 T] [CRef05 T] [CRef07 T] [CRef06 T] [CRef08 T] [CRef09 T] [CRef11 T] [CLaw09 T] [CLaw11 T]
theorem law09_to (x : Fz) : callF T 248 [efz x] = some (efz x) := by
 rw [f248 _ rfl, b248]
 simp -implicitDefEqProofs
def stTo11 (l : List Fz) (i : Nat) : St := ⟨[(0, .sl (rowF l) .an), (3, .bs (.loc 3) 1 3 0 i), (4, .i .i64 i)], [((.loc 3), ⟨1, .own, 3, rowF (l.take i)⟩)], 3⟩
theorem to11_loop (l : List Fz) (hl : l.length ≤ 4294967296) :
  loopN T 0 0 (.norm false [3]) l287_0 (stTo11 l 0) = some (.n, ⟨[(3, .bs (.loc 3) 1 3 0 (l.length))], [((.loc 3), ⟨1, .own, 3, rowF (l.take (l.length))⟩)], 3⟩) := by
 refine range_loop (stTo11 l) (l.length) _ (fun i hi => ?_) ?_
 ·have hws := wrapS hi (by omega)
  have hb : i ≤ 4294967295 := by omega
  have hg : l[i]? = some (l[i]'hi) := List.getElem?_eq_getElem hi
  have hn := law09_to (T := T) (l[i]'hi)
  have e := take_succ l hi
  have hml : (l.take i).length = i := by simp; omega
  have hp := rowF_push hml (l[i]'hi)
  unfold stTo11
  rw [e]
  clear e
  generalize l.take i = M at *
  simp -implicitDefEqProofs [l287_0, hi, hws, hb, hp, hml, hg, hn]
 ·unfold stTo11
  rw [List.take_of_length_le (Nat.le_refl _)]
  constructor <;> simp -implicitDefEqProofs [l287_0]
theorem law11_to (l : List Fz) (hl : l.length ≤ 4294967296) : callF T 287 [.sl (rowF l) .an] = some (.sl (rowF l) .an) := by
 have h := to11_loop (T := T) l hl
 unfold stTo11 at h
 rw [List.take_zero, List.take_of_length_le (Nat.le_refl _)] at h
 simp only [rowF_nil, Int.natCast_zero] at h
 have ht : List.take l.length l = l := List.take_of_length_le (Nat.le_refl _)
 rw [f287 _ rfl, b287]
 simp -implicitDefEqProofs [h, ht]
def stOf11 (l : List Fz) (i : Nat) : St := ⟨[(0, .sl (rowF l) .an), (3, .bs (.loc 3) 1 3 0 i), (4, .i .i64 i)], [((.loc 3), ⟨1, .own, 3, rowF (l.take i)⟩)], 3⟩
end
end Go.Ab
end

section
namespace Go.Ab
class CLaw12 (T : Tbl) : Prop where
end Go.Ab
end

section
namespace Go.Ab
class CRef12 (T : Tbl) : Prop where
end Go.Ab
end

section
namespace Go.Ab
class CGrid (T : Tbl) : Prop where
end Go.Ab
end

section
namespace Go.Ab
def widthM : List (List Fz) → Nat
 | [] => 0
 | r :: _ => r.length
def rightM (m : List (List Fz)) : Bool := m.all fun r => decide (r.length = widthM m)
def colM (m : List (List Fz)) (j : Nat) : List Fz := m.map fun r => r.getD j (false, [], [])
def turnM (m : List (List Fz)) (k : Nat) : List (List Fz) := (List.range k).map fun j => nrm (colM m j)
def scM (r : List Fz) (m : List (List Fz)) : List (List Fz) := List.zipWith (fun x row => scl (fv x) row) r m
def sumM : List (List Fz) → List Rat
 | [] => []
 | r :: m => m.foldl addP (r.map fv)
def leftQ (r : List Fz) (m : List (List Fz)) : List Rat := sumM (scM r m)
def applyQ (m : List (List Fz)) (c : List Fz) : List Rat := m.map fun r => dotQ r c
section
variable {T : Tbl} [CNat T] [CProd T] [CTwos T] [CQuot T] [CQuotD T] [CText T] [CWhole T] [CCommon T] [CFrac T] [CJoin T] [CRow T] [CGrid T]
def stGrR (m : List (List Fz)) (i : Nat) : St := ⟨[(0, .sl (matF m) .an), (5, .sl (matF m) .an), (6, .i .i64 m.length), (7, .i .i64 i)], [], 2⟩
def stGrS (a b : List (List Fz)) (i : Nat) : St := ⟨[(1, .sl (matF b) .an), (12, .sl (matF a) .an), (13, .i .i64 a.length), (14, .i .i64 i)], [], 2⟩
def idQ (k : Nat) (i : Nat) : List (List Fz) := (List.range i).map fun j => fzs ((List.replicate k 0).set j 1)
def stGrI (k : Nat) (i : Nat) : St := ⟨[(0, .i .i64 k), (3, .bs (.loc 3) 1 1 0 i), (8, .i .i64 k), (9, .i .i64 i)], [((.loc 3), ⟨1, .own, 1, matF (idQ k i)⟩)], 3⟩
def stGrT (m R : List (List Fz)) (k j : Nat) (i : Nat) : St := ⟨[(0, .sl (matF m) .an), (3, .bs (.loc 3) 1 1 0 j), (4, .i .i64 j), (5, .bs (.loc 5) 2 3 0 i), (12, .i .i64 k), (13, .i .i64 j), (16, .sl (matF m) .an), (17, .i .i64 m.length), (18, .i .i64 i)], [(.loc 3, ⟨1, .own, 1, matF R⟩), ((.loc 5), ⟨2, .own, 3, rowF (nrm (colM (m.take i) j))⟩)], 4⟩
def stTo12t (m : List (List Fz)) (k : Nat) (i : Nat) : St := ⟨[(0, .sl (matF m) .an), (3, .bs (.loc 3) 1 1 0 i), (12, .i .i64 k), (13, .i .i64 i)], [((.loc 3), ⟨1, .own, 1, matF (turnM m i)⟩)], 3⟩
end
end Go.Ab
end

section
namespace Go.Ab
section
variable {T : Tbl} [CNat T] [CProd T] [CTwos T] [CQuot T] [CQuotD T] [CText T] [CWhole T] [CCommon T] [CFrac T] [CJoin T] [CRow T] [CGrid T]
def stGrL (r : List Fz) (m : List (List Fz)) (i : Nat) : St := ⟨[(0, .sl (rowF r) .an), (6, .bs (.loc 6) 1 1 0 i), (19, .sl (matF m) .an), (20, .i .i64 m.length), (21, .i .i64 i)], [((.loc 6), ⟨1, .own, 1, matF (scM (r.take i) (m.take i))⟩)], 3⟩
def stGrA (m : List (List Fz)) (c : List Fz) (i : Nat) : St := ⟨[(1, .sl (rowF c) .an), (6, .bs (.loc 6) 1 3 0 i), (21, .sl (matF m) .an), (22, .i .i64 m.length), (23, .i .i64 i)], [((.loc 6), ⟨1, .own, 3, rowF (fzs (applyQ (m.take i) c))⟩)], 3⟩
def mulM (a b : List (List Fz)) : List (List Fz) := a.map fun r => fzs (leftQ r b)
def stGrM (a m : List (List Fz)) (i : Nat) : St := ⟨[(1, .sl (matF m) .an), (6, .bs (.loc 6) 1 1 0 i), (26, .sl (matF a) .an), (27, .i .i64 a.length), (28, .i .i64 i)], [((.loc 6), ⟨1, .own, 1, matF (mulM (a.take i) m)⟩)], 3⟩
def addM (a b : List (List Fz)) : List (List Fz) := List.zipWith (fun r s => fzs (addP (r.map fv) s)) a b
def stGrP (a m : List (List Fz)) (i : Nat) : St := ⟨[(1, .sl (matF m) .an), (6, .bs (.loc 6) 1 1 0 i), (33, .sl (matF a) .an), (34, .i .i64 a.length), (35, .i .i64 i)], [((.loc 6), ⟨1, .own, 1, matF (addM (a.take i) (m.take i))⟩)], 3⟩
end
end Go.Ab
end

section
namespace Go.Ab
def dotR : List Rat → List Rat → Rat
 | x :: a, y :: b => x * y + dotR a b
 | _, _ => 0
def valM (m : List (List Fz)) : List (List Rat) := m.map fun r => r.map fv
def fzM (L : List (List Rat)) : List (List Fz) := L.map fzs
@[simp] theorem fzM_length (L : List (List Rat)) : (fzM L).length = L.length := by simp [fzM]
@[simp] theorem valM_length (m : List (List Fz)) : (valM m).length = m.length := by simp [valM]
@[simp] theorem valM_fzM (L : List (List Rat)) : valM (fzM L) = L := by
 unfold valM fzM
 rw [List.map_map]
 simp [Function.comp_def]
def widthQ : List (List Rat) → Nat
 | [] => 0
 | r :: _ => r.length
def rightQ (L : List (List Rat)) : Bool := L.all fun r => decide (r.length = widthQ L)
def colQ (L : List (List Rat)) (j : Nat) : List Rat := L.map fun p => p.getD j 0
def turnQ (L : List (List Rat)) : List (List Rat) := (List.range (widthQ L)).map (colQ L)
def applyR (L : List (List Rat)) (c : List Rat) : List Rat := L.map fun p => dotR p c
def leftR (r : List Rat) (L : List (List Rat)) : List Rat := applyR (turnQ L) r
end Go.Ab
end

section
namespace Go.Ab
section
variable {T : Tbl} [CRef02 T] [CRef04 T] [CRef05 T] [CRef07 T] [CRef06 T] [CRef08 T] [CRef09 T] [CRef11 T] [CRef12 T]
def stR12 (m : List (List Fz)) (i : Nat) : St := ⟨[(0, .sl (matF m) .an), (3, .i .i64 i)], [], 2⟩
def stN12 (m : List (List Fz)) (i : Nat) : St := ⟨[(0, .sl (matF m) .an), (3, .bs (.loc 3) 1 1 0 i), (4, .i .i64 i)], [((.loc 3), ⟨1, .own, 1, matF (fzM (valM (m.take i)))⟩)], 3⟩
def stS12 (a b : List (List Fz)) (i : Nat) : St := ⟨[(0, .sl (matF a) .an), (1, .sl (matF b) .an), (5, .i .i64 i)], [], 2⟩
def stI12 (n : Int) (k : Nat) (i : Nat) : St := ⟨[(0, .i .i64 n), (3, .bs (.loc 3) 1 1 0 i), (4, .i .i64 i)], [((.loc 3), ⟨1, .own, 1, matF (idQ k i)⟩)], 3⟩
def stT12i (L : List (List Rat)) (R : List (List Fz)) (j : Nat) (i : Nat) : St := ⟨[(0, .sl (matF (fzM L)) .an), (3, .bs (.loc 3) 1 1 0 j), (4, .i .i64 j), (5, .bs (.loc 5) 2 3 0 i), (6, .i .i64 i)], [(.loc 3, ⟨1, .own, 1, matF R⟩), ((.loc 5), ⟨2, .own, 3, rowF (fzs (colQ (L.take i) j))⟩)], 4⟩
def stT12o (L : List (List Rat)) (i : Nat) : St := ⟨[(0, .sl (matF (fzM L)) .an), (3, .bs (.loc 3) 1 1 0 i), (4, .i .i64 i)], [((.loc 3), ⟨1, .own, 1, matF (fzM ((List.range i).map (colQ L)))⟩)], 3⟩
def stA12 (L : List (List Rat)) (c : List Rat) (i : Nat) : St := ⟨[(0, .sl (matF (fzM L)) .an), (1, .sl (rowF (fzs c)) .an), (5, .bs (.loc 5) 1 3 0 i), (6, .i .i64 i)], [((.loc 5), ⟨1, .own, 3, rowF (fzs (applyR (L.take i) c))⟩)], 3⟩
def longM (m : List (List Fz)) (many words : Nat) : Bool := decide (many < m.length) || m.any fun r => longB r many words
def stL12 (m : List (List Fz)) (many words : Nat) (i : Nat) : St := ⟨[(0, .sl (matF m) .an), (1, .i .i64 many), (2, .i .i64 words), (7, .i .i64 i)], [], 2⟩
end
end Go.Ab
end

section
namespace Go.Ab
theorem fzs_sz {l : List Rat} {B : Nat} (h : ∀ q ∈ l, sz q ≤ B) : ∀ x ∈ fzs l, fsz x ≤ B := by
 intro x hx
 obtain ⟨q, hq, rfl⟩ := List.mem_map.1 hx
 exact h q hq
theorem vals_sz {l : List Fz} {B : Nat} (hB : 1 ≤ B) (h : ∀ x ∈ l, fsz x ≤ B) : ∀ q ∈ l.map fv, sz q ≤ B := by
 intro q hq
 obtain ⟨x, hx, rfl⟩ := List.mem_map.1 hq
 exact sz_fv (h x hx) hB
section
variable {T : Tbl} [CNat T] [CProd T] [CTwos T] [CQuot T] [CQuotD T] [CText T] [CWhole T] [CCommon T] [CFrac T] [CJoin T] [CRow T] [CGrid T] [CRef02 T] [CRef04 T] [CRef05 T] [CRef07 T] [CRef06 T] [CRef08 T] [CRef09 T] [CRef11 T] [CRef12 T] [CLaw09 T] [CLaw11 T] [CLaw12 T]
def stTo12 (m : List (List Fz)) (i : Nat) : St := ⟨[(0, .sl (matF m) .an), (3, .bs (.loc 3) 1 1 0 i), (4, .i .i64 i)], [((.loc 3), ⟨1, .own, 1, matF (m.take i)⟩)], 3⟩
def stI12s (a b : List (List Fz)) (i : Nat) : St := ⟨[(0, .sl (matF a) .an), (1, .sl (matF b) .an), (5, .i .i64 i)], [], 2⟩
theorem sz3 : sz 3 ≤ 1 := by
 unfold sz
 rw [show (3 : Rat).num = 3 from rfl, show (3 : Rat).den = 1 from rfl, ofN_one, show (3 : Int).natAbs = 3 from rfl]
 exact Nat.max_le.2 ⟨ofN_length_le' (by decide), Nat.le_refl _⟩
theorem szle1 {q : Rat} (h1 : q.num.natAbs < 4294967296) (h2 : q.den < 4294967296) : sz q ≤ 1 := Nat.max_le.2 ⟨ofN_length_le' (by simpa using h1), ofN_length_le' (by simpa using h2)⟩
theorem textQ_nat (n : Nat) (h : n < 10) : textQ (n : Rat) = [UInt8.ofNat (48 + n)] := by
 unfold textQ
 rw [if_pos (Rat.den_natCast n), Rat.num_natCast]
 unfold textZ
 rw [if_neg (by omega), Int.natAbs_natCast, textN_small h]
end
end Go.Ab
end

section
namespace Go.Ab
def longS (t h : Fz) (y0 y1 f0 f1 : List Fz) : Bool := decide (2 < fsz t) || decide (2 < fsz h) || longB y0 4 2 || longB y1 4 2 || longB f0 4 2 || longB f1 4 2
theorem longS_false {t h : Fz} {y0 y1 f0 f1 : List Fz} (e : longS t h y0 y1 f0 f1 = false) :
  fsz t ≤ 2 ∧ fsz h ≤ 2 ∧ (∀ r ∈ [y0, y1, f0, f1], r.length ≤ 4) ∧ ∀ r ∈ [y0, y1, f0, f1], ∀ x ∈ r, fsz x ≤ 2 := by
 unfold longS at e
 simp only [Bool.or_eq_false_iff, decide_eq_false_iff_not] at e
 obtain ⟨⟨⟨⟨⟨e1, e2⟩, e3⟩, e4⟩, e5⟩, e6⟩ := e
 obtain ⟨a3, b3⟩ := longB_false e3
 obtain ⟨a4, b4⟩ := longB_false e4
 obtain ⟨a5, b5⟩ := longB_false e5
 obtain ⟨a6, b6⟩ := longB_false e6
 refine ⟨by omega, by omega, fun r hr => ?_, fun r hr => ?_⟩ <;> simp only [List.mem_cons, List.not_mem_nil, or_false] at hr <;> rcases hr with rfl | rfl | rfl | rfl <;> assumption
theorem mixP_get (c : Rat) (acc : List Rat) (r : List Fz) (i : Nat) (hi : i < acc.length) (hr : r.length = acc.length) : (mixP c acc r).getD i 0 = acc.getD i 0 + c * (r.map fv).getD i 0 := by
 have h1 : i < (mixP c acc r).length := by rw [mixP_length hr]; exact hi
 rw [List.getD_eq_getElem?_getD, List.getElem?_eq_getElem h1, List.getD_eq_getElem?_getD, List.getElem?_eq_getElem hi, List.getD_eq_getElem?_getD, List.getElem?_eq_getElem (show i < (r.map fv).length by simp; omega)]
 simp [mixP]
theorem mix4_get (c0 c1 c2 c3 : Rat) (y0 y1 f0 f1 : List Fz) (l1 : y1.length = y0.length) (l2 : f0.length = y0.length) (l3 : f1.length = y0.length) (i : Nat) (hi : i < y0.length) :
  (mix4 [c0, c1, c2, c3] y0 y1 f0 f1).getD i 0 = c0 * (y0.map fv).getD i 0 + c1 * (y1.map fv).getD i 0 + c2 * (f0.map fv).getD i 0 + c3 * (f1.map fv).getD i 0 := by
 have e : mix4 [c0, c1, c2, c3] y0 y1 f0 f1 = mixP c3 (mixP c2 (mixP c1 (mixP c0 (List.replicate y0.length 0) y0) y1) f0) f1 := by
  simp [mix4, mixF, fzs]
 have n0 : (mixP c0 (List.replicate y0.length 0) y0).length = y0.length := by rw [mixP_length (by simp)]; simp
 have n1 : (mixP c1 (mixP c0 (List.replicate y0.length 0) y0) y1).length = y0.length := by rw [mixP_length (by rw [n0, l1]), n0]
 have n2 : (mixP c2 (mixP c1 (mixP c0 (List.replicate y0.length 0) y0) y1) f0).length = y0.length := by rw [mixP_length (by rw [n1, l2]), n1]
 rw [e, mixP_get _ _ _ _ (by omega) (by omega), mixP_get _ _ _ _ (by omega) (by omega), mixP_get _ _ _ _ (by omega) (by omega), mixP_get _ _ _ _ (by simp; omega) (by simp)]
 have z : (List.replicate y0.length (0 : Rat)).getD i 0 = 0 := by
  rw [List.getD_eq_getElem?_getD, List.getElem?_eq_getElem (by simpa using hi)]
  simp
 rw [z, Rat.zero_add]
theorem mix4_len (c : List Rat) (hc : c.length = 4) (y0 y1 f0 f1 : List Fz) (l1 : y1.length = y0.length) (l2 : f0.length = y0.length) (l3 : f1.length = y0.length) : (mix4 c y0 y1 f0 f1).length = y0.length := by
 unfold mix4
 rw [mixF_len _ _ (fun q hq => by
  have := (List.of_mem_zip hq).2
  rw [List.length_replicate]
  simp only [List.mem_cons, List.not_mem_nil, or_false] at this
  rcases this with h | h | h | h <;> rw [h] <;> omega), List.length_replicate]
theorem cub1_law {h u : Rat} (hh : h ≠ 0) (a b f g : Rat) : (1 + -1 * u) * (1 + -1 * u) * (1 + 2 * u) * a + u * u * (3 + -2 * u) * b + h * u * (1 + -1 * u) * (1 + -1 * u) * f + h * u * u * -(1 + -1 * u) * g = cub1 h a b f g (h * u) := by
 unfold cub1 secQ firQ riseQ
 grind
theorem cub2_law {h u : Rat} (hh : h ≠ 0) (a b f g : Rat) : -(6 * u * (1 + -1 * u) / h) * a + 6 * u * (1 + -1 * u) / h * b + (1 + -1 * u) * (1 + -3 * u) * f + u * (-2 + 3 * u) * g = cub2 h a b f g (h * u) := by
 unfold cub2 secQ firQ riseQ
 grind
theorem prt_mul {t h s : Rat} (hh : h ≠ 0) : h * prtQ t h s = s - t := by
 unfold prtQ
 grind
theorem ext_getD {a b : List Rat} (hl : a.length = b.length) (h : ∀ i, i < a.length → a.getD i 0 = b.getD i 0) : a = b := by
 refine List.ext_getElem hl fun i h1 h2 => ?_
 have := h i h1
 rw [List.getD_eq_getElem?_getD, List.getElem?_eq_getElem h1, List.getD_eq_getElem?_getD, List.getElem?_eq_getElem h2] at this
 exact this
theorem atQ_get (sl : Bool) (h x : Rat) (y0 y1 f0 f1 : List Rat) (i : Nat) (hi : i < y0.length) : (atQ sl h x y0 y1 f0 f1).getD i 0 = cubV sl h (y0.getD i 0) (y1.getD i 0) (f0.getD i 0) (f1.getD i 0) x := by
 rw [List.getD_eq_getElem?_getD, List.getElem?_eq_getElem (by rw [atQ_length]; exact hi), Option.getD_some]
 simp only [atQ, List.getElem_map, List.getElem_range]
theorem mixA_at {t h s : Rat} (hh : h ≠ 0) (y0 y1 f0 f1 : List Fz) (l1 : y1.length = y0.length) (l2 : f0.length = y0.length) (l3 : f1.length = y0.length) :
  mix4 (facA h (prtQ t h s) (1 + -1 * prtQ t h s)) y0 y1 f0 f1 = atQ false h (s - t) (y0.map fv) (y1.map fv) (f0.map fv) (f1.map fv) := by
 have hm := mix4_len (facA h (prtQ t h s) (1 + -1 * prtQ t h s)) rfl y0 y1 f0 f1 l1 l2 l3
 refine ext_getD (by rw [atQ_length, List.length_map, hm]) fun i hi => ?_
 rw [hm] at hi
 rw [atQ_get _ _ _ _ _ _ _ _ (by simpa using hi)]
 unfold facA
 rw [mix4_get _ _ _ _ _ _ _ _ l1 l2 l3 i hi, cub1_law hh, prt_mul hh]
 rfl
theorem mixS_at {t h s : Rat} (hh : h ≠ 0) (y0 y1 f0 f1 : List Fz) (l1 : y1.length = y0.length) (l2 : f0.length = y0.length) (l3 : f1.length = y0.length) :
  mix4 (facS h (prtQ t h s) (1 + -1 * prtQ t h s)) y0 y1 f0 f1 = atQ true h (s - t) (y0.map fv) (y1.map fv) (f0.map fv) (f1.map fv) := by
 have hm := mix4_len (facS h (prtQ t h s) (1 + -1 * prtQ t h s)) rfl y0 y1 f0 f1 l1 l2 l3
 refine ext_getD (by rw [atQ_length, List.length_map, hm]) fun i hi => ?_
 rw [hm] at hi
 rw [atQ_get _ _ _ _ _ _ _ _ (by simpa using hi)]
 unfold facS
 rw [mix4_get _ _ _ _ _ _ _ _ l1 l2 l3 i hi, cub2_law hh, prt_mul hh]
 rfl
theorem ends1 {h : Rat} (hh : h ≠ 0) (a b f g : Rat) : cub1 h a b f g 0 = a ∧ cub1 h a b f g h = b ∧ cub2 h a b f g 0 = f ∧ cub2 h a b f g h = g := by
 unfold cub1 cub2 secQ firQ riseQ
 refine ⟨by grind, by grind, by grind, by grind⟩
theorem sz2 : sz 2 ≤ 1 := szle1 (by decide) (by decide)
theorem rightS_true {h : Fz} {y0 y1 f0 f1 : List Fz} (e : rightS h y0 y1 f0 f1 = true) : 0 < fv h ∧ y1.length = y0.length ∧ f0.length = y0.length ∧ f1.length = y0.length := by
 simp only [rightS, Bool.and_eq_true, decide_eq_true_eq] at e
 obtain ⟨⟨⟨⟨h1, _⟩, h3⟩, h4⟩, h5⟩ := e
 exact ⟨h1, h3, h4, h5⟩
theorem pos_ne {h : Rat} (e : 0 < h) : h ≠ 0 := by grind
section
variable {T : Tbl} [CNat T] [CProd T] [CTwos T] [CQuot T] [CQuotD T] [CText T] [CWhole T] [CCommon T] [CFrac T] [CFrac2 T] [CJoin T] [CRow T] [CSpan T] [CRef02 T] [CRef04 T] [CRef05 T] [CRef07 T] [CRef06 T] [CRef08 T] [CRef09 T] [CRef11 T] [CRef14 T] [CRef41 T] [CLaw09 T] [CLaw11 T] [CLaw41 T]
theorem law41_to (t h : Fz) (y0 y1 f0 f1 : List Fz) (hl : ∀ r ∈ [y0, y1, f0, f1], r.length ≤ 4294967296) : callF T 325 [agS t h y0 y1 f0 f1] = some (agS t h y0 y1 f0 f1) := by
 have c1 := law09_to (T := T) t
 have c2 := law09_to (T := T) h
 have d1 := law11_to (T := T) y0 (hl y0 (by simp))
 have d2 := law11_to (T := T) y1 (hl y1 (by simp))
 have d3 := law11_to (T := T) f0 (hl f0 (by simp))
 have d4 := law11_to (T := T) f1 (hl f1 (by simp))
 clear hl
 rw [f325 _ rfl, b325]
 simp -implicitDefEqProofs [c1, c2, d1, d2, d3, d4]
theorem law41_long (t h : Fz) (y0 y1 f0 f1 : List Fz) : callF T 322 [agS t h y0 y1 f0 f1] = some (.b (longS t h y0 y1 f0 f1)) := by
 have c1 := ref09_long (T := T) t 2
 have c2 := ref09_long (T := T) h 2
 have d1 := ref11_longB (T := T) y0 4 2 (by decide)
 have d2 := ref11_longB (T := T) y1 4 2 (by decide)
 have d3 := ref11_longB (T := T) f0 4 2 (by decide)
 have d4 := ref11_longB (T := T) f1 4 2 (by decide)
 simp only [Int.cast_ofNat_Int] at c1 c2 d1 d2 d3 d4
 unfold longS
 rw [f322 _ rfl, b322]
 generalize decide (2 < fsz t) = B1 at *
 generalize decide (2 < fsz h) = B2 at *
 generalize longB y0 4 2 = B3 at *
 generalize longB y1 4 2 = B4 at *
 generalize longB f0 4 2 = B5 at *
 generalize longB f1 4 2 = B6 at *
 cases B1
 case true => simp -implicitDefEqProofs [c1]
 cases B2
 case true => simp -implicitDefEqProofs [c1, c2]
 cases B3
 case true => simp -implicitDefEqProofs [c1, c2, d1]
 cases B4
 case true => simp -implicitDefEqProofs [c1, c2, d1, d2]
 cases B5
 case true => simp -implicitDefEqProofs [c1, c2, d1, d2, d3]
 simp -implicitDefEqProofs [c1, c2, d1, d2, d3, d4]
theorem law41_works : callF T 323 [] = some (.b true) := by
 have k0 := frac_of (T := T) 0 (by decide) (by decide)
 have k1 := frac_of (T := T) 1 (by decide) (by decide)
 have k2 := frac_of (T := T) 2 (by decide) (by decide)
 have k8 := frac_of (T := T) 8 (by decide) (by decide)
 have k12 := frac_of (T := T) 12 (by decide) (by decide)
 have s8 : sz 8 ≤ 1 := szle1 (by decide) (by decide)
 have s12 : sz 12 ≤ 1 := szle1 (by decide) (by decide)
 have s2 := sz2
 have s0 := sz_zero
 have s1 := sz_one
 have hr : rightS (fz 2) [fz 0] [fz 8] [fz 0] [fz 12] = true := by
  unfold rightS
  rw [fv_fz]
  decide +kernel
 have hw : ∀ r ∈ [[fz 0], [fz 8], [fz 0], [fz 12]], ∀ x ∈ r, fsz x ≤ 89 := by
  intro r hr x hx
  simp only [List.mem_cons, List.not_mem_nil, or_false] at hr
  rcases hr with rfl | rfl | rfl | rfl <;> simp only [List.mem_cons, List.not_mem_nil, or_false] at hx <;> subst hx <;> rw [fsz_fz] <;> omega
 have c1 := span_at (T := T) (fz 0) (fz 2) (fz 1) [fz 0] [fz 8] [fz 0] [fz 12] (by rw [fsz_fz]; omega) (by rw [fsz_fz]; omega) (by rw [fsz_fz]; omega) hr hw
 have c2 := span_slope (T := T) (fz 0) (fz 2) (fz 1) [fz 0] [fz 8] [fz 0] [fz 12] (by rw [fsz_fz]; omega) (by rw [fsz_fz]; omega) (by rw [fsz_fz]; omega) hr hw
 simp only [fv_fz] at c1 c2
 rw [mixA_at (t := 0) (h := 2) (s := 1) (by decide +kernel) [fz 0] [fz 8] [fz 0] [fz 12] rfl rfl rfl] at c1
 rw [mixS_at (t := 0) (h := 2) (s := 1) (by decide +kernel) [fz 0] [fz 8] [fz 0] [fz 12] rfl rfl rfl] at c2
 simp only [List.map_cons, List.map_nil, fv_fz] at c1 c2
 have e1 : atQ false 2 (1 - 0) [0] [8] [0] [12] = [1] := by decide +kernel
 have e2 : atQ true 2 (1 - 0) [0] [8] [0] [12] = [3] := by decide +kernel
 rw [e1] at c1
 rw [e2] at c2
 have t1 := row_text (T := T) (fzs [1]) (by decide) (fzs_sz fun q hq => by
  simp only [List.mem_cons, List.not_mem_nil, or_false] at hq
  rw [hq, sz_one]; decide)
 have t2 := row_text (T := T) (fzs [3]) (by decide) (fzs_sz fun q hq => by
  simp only [List.mem_cons, List.not_mem_nil, or_false] at hq
  rw [hq]; exact Nat.le_trans sz3 (by decide))
 have w1 : List.intercalate [44] (txts (fzs [1])) = [49] := by
  have e1 := textQ_nat 1 (by decide)
  simp only [txts, fzs, List.map_cons, List.map_nil, fv_fz]
  rw [show (1 : Rat) = ((1 : Nat) : Rat) from rfl, e1]
  rfl
 have w2 : List.intercalate [44] (txts (fzs [3])) = [51] := by
  have e1 := textQ_nat 3 (by decide)
  simp only [txts, fzs, List.map_cons, List.map_nil, fv_fz]
  rw [show (3 : Rat) = ((3 : Nat) : Rat) from rfl, e1]
  rfl
 rw [w1] at t1
 rw [w2] at t2
 have r0 : rowF [fz 0] = [celF (fz 0)] := rfl
 have r8 : rowF [fz 8] = [celF (fz 8)] := rfl
 have r12 : rowF [fz 12] = [celF (fz 12)] := rfl
 simp only [agS, r0, r8, r12] at c1 c2
 have q0 : ((0 : Int) : Rat) = 0 := rfl
 have q1 : ((1 : Int) : Rat) = 1 := rfl
 have q2 : ((2 : Int) : Rat) = 2 := rfl
 have q8 : ((8 : Int) : Rat) = 8 := rfl
 have q12 : ((12 : Int) : Rat) = 12 := rfl
 rw [q0] at k0
 rw [q1] at k1
 rw [q2] at k2
 rw [q8] at k8
 rw [q12] at k12
 clear hr hw e1 e2 w1 w2 r0 r8 r12 s0 s1 s2 s8 s12 q0 q1 q2 q8 q12
 generalize fzs [1] = L1 at *
 generalize fzs [3] = L3 at *
 generalize fz 0 = Z0 at *
 generalize fz 1 = Z1 at *
 generalize fz 2 = Z2 at *
 generalize fz 8 = Z8 at *
 generalize fz 12 = Z12 at *
 rw [f323 _ rfl, b323]
 simp -implicitDefEqProofs [k0, k1, k2, k8, k12, c1, c2, t1, t2]
end
end Go.Ab
end

section
namespace Go.Ab
theorem atQ_0 {h : Rat} (hh : h ≠ 0) (y0 y1 f0 f1 : List Rat) (l1 : y1.length = y0.length) (l2 : f0.length = y0.length) (l3 : f1.length = y0.length) :
  atQ false h 0 y0 y1 f0 f1 = y0 ∧ atQ false h h y0 y1 f0 f1 = y1 ∧ atQ true h 0 y0 y1 f0 f1 = f0 ∧ atQ true h h y0 y1 f0 f1 = f1 := by
 refine ⟨ext_getD (by rw [atQ_length]) fun i hi => ?_, ext_getD (by rw [atQ_length, l1]) fun i hi => ?_, ext_getD (by rw [atQ_length, l2]) fun i hi => ?_, ext_getD (by rw [atQ_length, l3]) fun i hi => ?_⟩ <;>
  rw [atQ_length] at hi <;> rw [atQ_get _ _ _ _ _ _ _ _ hi]
 ·exact (ends1 hh _ _ _ _).1
 ·exact (ends1 hh _ _ _ _).2.1
 ·exact (ends1 hh _ _ _ _).2.2.1
 ·exact (ends1 hh _ _ _ _).2.2.2
def plQ (a0 a1 a2 a3 x : Rat) : Rat := a0 + a1 * x + a2 * x * x + a3 * x * x * x
def dlQ (a1 a2 a3 x : Rat) : Rat := a1 + 2 * a2 * x + 3 * a3 * x * x
section
variable {T : Tbl} [CNat T] [CProd T] [CTwos T] [CQuot T] [CQuotD T] [CText T] [CWhole T] [CCommon T] [CFrac T] [CFrac2 T] [CJoin T] [CRow T] [CSpan T] [CPoly T] [CRef02 T] [CRef04 T] [CRef05 T] [CRef07 T] [CRef06 T] [CRef08 T] [CRef09 T] [CRef11 T] [CRef14 T] [CRef41 T] [CLaw09 T] [CLaw11 T] [CLaw41 T]
variable [CLaw41e T] in
theorem law41_ends (t h : Fz) (y0 y1 f0 f1 : List Fz) (hl : ∀ r ∈ [y0, y1, f0, f1], r.length ≤ 4294967296) : callF T 365 [agS t h y0 y1 f0 f1] = some (.b true) := by
 have hw := law41_works (T := T)
 have cl := law41_long (T := T) t h y0 y1 f0 f1
 have hto := law41_to (T := T) t h y0 y1 f0 f1 hl
 rw [f365 _ rfl, b365]
 cases hL : longS t h y0 y1 f0 f1 with
 | true =>
  rw [hL] at cl
  simp -implicitDefEqProofs [hw, cl, hto]
 | false =>
  rw [hL] at cl
  obtain ⟨zt, zh, zl, zw⟩ := longS_false hL
  have hsp := span_right (T := T) t h y0 y1 f0 f1 (by omega)
  cases hR : rightS h y0 y1 f0 f1 with
  | false =>
   rw [hR] at hsp
   simp -implicitDefEqProofs [hw, cl, hto, hsp]
  | true =>
   rw [hR] at hsp
   obtain ⟨hp, l1, l2, l3⟩ := rightS_true hR
   have hne := pos_ne hp
   have zt2 := sz_fv (L := 2) zt (by decide)
   have zh2 := sz_fv (L := 2) zh (by decide)
   have ze := sz_add (fv t) (fv h)
   have hw89 : ∀ r ∈ [y0, y1, f0, f1], ∀ x ∈ r, fsz x ≤ 89 := fun r hr x hx => Nat.le_trans (zw r hr x hx) (by decide)
   have ad := frac_add (T := T) t h (by omega) (by omega)
   have a1 := span_at (T := T) t h t y0 y1 f0 f1 (by omega) (by omega) (by omega) hR hw89
   have a2 := span_at (T := T) t h (fz (fv t + fv h)) y0 y1 f0 f1 (by omega) (by omega) (by rw [fsz_fz]; omega) hR hw89
   have a3 := span_slope (T := T) t h t y0 y1 f0 f1 (by omega) (by omega) (by omega) hR hw89
   have a4 := span_slope (T := T) t h (fz (fv t + fv h)) y0 y1 f0 f1 (by omega) (by omega) (by rw [fsz_fz]; omega) hR hw89
   rw [mixA_at hne _ _ _ _ l1 l2 l3] at a1 a2
   rw [mixS_at hne _ _ _ _ l1 l2 l3] at a3 a4
   have e0 : fv t - fv t = 0 := by grind
   have e1 : fv (fz (fv t + fv h)) - fv t = fv h := by rw [fv_fz]; grind
   obtain ⟨o1, o2, o3, o4⟩ := atQ_0 hne (y0.map fv) (y1.map fv) (f0.map fv) (f1.map fv) (by simp; omega) (by simp; omega) (by simp; omega)
   rw [e0, o1] at a1
   rw [e1, o2] at a2
   rw [e0, o3] at a3
   rw [e1, o4] at a4
   have same : ∀ r ∈ [y0, y1, f0, f1], callF T 265 [.sl (rowF (fzs (r.map fv))) .an, .sl (rowF r) .an] = some (.b true) := by
    intro r hr
    have := row_same (T := T) (fzs (r.map fv)) r (by have := zl r hr; simp; omega) (fzs_sz (vals_sz (by decide) fun x hx => Nat.le_trans (zw r hr x hx) (by decide))) (fun x hx => Nat.le_trans (zw r hr x hx) (by decide))
    rwa [fv_fzs, decide_eq_true rfl] at this
   have s1 := same y0 (by simp)
   have s2 := same y1 (by simp)
   have s3 := same f0 (by simp)
   have s4 := same f1 (by simp)
   clear same o1 o2 o3 o4 hw89 zl zw hl e0 e1 ze
   generalize fzs (y0.map fv) = N0 at *
   generalize fzs (y1.map fv) = N1 at *
   generalize fzs (f0.map fv) = N2 at *
   generalize fzs (f1.map fv) = N3 at *
   generalize fz (fv t + fv h) = E at *
   simp -implicitDefEqProofs [hw, cl, hto, hsp, ad, a1, a2, a3, a4, s1, s2, s3, s4]
end
end Go.Ab
end
