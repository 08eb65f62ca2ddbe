/-
  A calculus of values, boxes and code, and what functions of the program compute, proved in it.
  Conditions: none beyond those that the theorems state. (Part 7: GpDiff2, GpDiff3, GpDiff4, GpDiff5, GpRef23, GpRef23b, GpLaw17, GpLaw23, GpLaw23b, GcLaw11b, GcRow2, GcFig, NmFig, GcStr, GcSplit, GpSplit, GpFig, GpFig2, GpLaw11b, GpFrac3, GpTape, GpTape2, GpGauge, GpLaw24, GcRun, GcIfc, GpRun, GpRun2, NmEval, GpWalkA, GpCodeA, GpEvalA, GpWcA, GpEvalF, NmDef, GpLaw23c.)
-/
import Derived.Test.YtegcbhlfmmgmhaaGreatDoorPart6
import Derived.Lib.IndexAny
import Derived.Lib.Bytealg

set_option linter.unusedSectionVars false
set_option linter.unusedVariables false
set_option linter.unusedSimpArgs false
set_option linter.unnecessarySimpa false

section
namespace Go.Ab
section
variable {T : Tbl} [CDiff T]
theorem diff_is (x u : Nd) : callF T 53 [.agg (celN x), .agg (celN u)] = some (.b (decide (x.op = u.op) && decide (x.i = u.i))) := by
 obtain ⟨op, i, n⟩ := x
 obtain ⟨op', i', n'⟩ := u
 rw [f53 _ rfl, b53]
 dsimp only
 by_cases h : op = op'
 ·subst h
  by_cases h2 : i = i' <;> simp -implicitDefEqProofs [h2]
 ·simp -implicitDefEqProofs [h]
abbrev celP (p : Pc) : List AV := [.sl (rowN p.1) .an, dv p.2]
theorem diff_two (op : Int) (a da b db : List Nd) (hl : a.length + da.length + 3 * b.length + db.length + 10 ≤ 4294967295) (ha : thin 1000 a) (hda : thin 1000 da) (hb : thin 1000 b) (hdb : thin 1000 db) :
  callF T 78 [.i .i64 op, .agg (celP (a, da)), .agg (celP (b, db))] = some (dv (twoN op a da b db)) := by
 rw [f78 _ rfl, b78]
 unfold twoN
 by_cases h9 : op = 9
 ·subst h9
  have c1 := diff_times (T := T) 9 da b true (by omega) hda hb
  have c2 := diff_times (T := T) 9 db a false (by omega) hdb ha
  have l1 := timesN_le 9 da b true
  have l2 := timesN_le 9 db a false
  have c3 := diff_both (T := T) 7 (timesN 9 da b true) (timesN 9 db a false) (by omega) (thin_times hda hb) (thin_times hdb ha)
  rw [if_pos rfl]
  simp only [celP, dv_sl] at c1 c2 c3 ⊢
  generalize bothN 7 (timesN 9 da b true) (timesN 9 db a false) = R at *
  generalize timesN 9 da b true = P1 at *
  generalize timesN 9 db a false = P2 at *
  generalize flg R = fR at *
  generalize flg P1 = f1 at *
  generalize flg P2 = f2 at *
  generalize flg da = fa at *
  generalize flg db = fb at *
  simp -implicitDefEqProofs [c1, c2, c3]
 rw [if_neg h9]
 by_cases h10 : op = 10
 ·subst h10
  have c1 := diff_times (T := T) 9 db a false (by omega) hdb ha
  have c2 := diff_join2 (T := T) 9 b b (by omega) hb hb
  have l1 := timesN_le 9 db a false
  have l2 := joinN2 9 b b
  have tb : thin 1000 (joinN 9 [b, b]) := by rw [join2]; exact thin_cat hb hb
  have c3 := diff_join2 (T := T) 10 (timesN 9 db a false) (joinN 9 [b, b]) (by omega) (thin_times hdb ha) tb
  have c4 := diff_times (T := T) 10 da b true (by omega) hda hb
  have l4 := timesN_le 10 da b true
  have l5 := lowN_le db b a
  have c5 := diff_both (T := T) 8 (timesN 10 da b true) (lowN db b a) (by omega) (thin_times hda hb) (thin_low hdb hb ha)
  have e1 := eqnil_flg (timesN 9 db a false) true
  rw [if_pos rfl]
  by_cases hz : timesN 9 db a false = []
  ·have hlow : lowN db b a = [] := by unfold lowN; rw [if_pos hz]
   rw [hlow] at c5 ⊢
   rw [if_pos hz] at e1
   rw [hz] at c1
   simp only [celP, dv_sl] at c1 c4 c5 ⊢
   generalize bothN 8 (timesN 10 da b true) [] = R at *
   generalize timesN 10 da b true = P1 at *
   generalize flg R = fR at *
   generalize flg P1 = f1 at *
   generalize flg da = fa at *
   generalize flg db = fb at *
   have e2 : flg [] = .nl := rfl
   rw [e2] at c1 c5
   simp -implicitDefEqProofs [-eqnilAV, eqnil_nil, c1, c4, c5] at c1 c5 ⊢
   simp -implicitDefEqProofs [-eqnilAV, eqnil_nil, c1, c4, c5]
  ·have hlow : lowN db b a = joinN 10 [timesN 9 db a false, joinN 9 [b, b]] := by unfold lowN; rw [if_neg hz]
   have hfz : flg (timesN 9 db a false) = .an := by unfold flg; rw [if_neg hz]
   have hfl : flg (joinN 10 [timesN 9 db a false, joinN 9 [b, b]]) = .an := by unfold flg; rw [if_neg (joinN_ne _ _)]
   rw [hlow] at c5 ⊢
   rw [if_neg hz, hfz] at e1
   simp only [celP, dv_sl, hfz, hfl] at c1 c4 c5 ⊢
   generalize bothN 8 (timesN 10 da b true) (joinN 10 [timesN 9 db a false, joinN 9 [b, b]]) = R at *
   generalize joinN 10 [timesN 9 db a false, joinN 9 [b, b]] = LO at *
   generalize joinN 9 [b, b] = BB at *
   generalize timesN 9 db a false = P2 at *
   generalize timesN 10 da b true = P1 at *
   generalize flg R = fR at *
   generalize flg P1 = f1 at *
   generalize flg da = fa at *
   generalize flg db = fb at *
   simp -implicitDefEqProofs [-eqnilAV, eqnil_nil, e1, c1, c2, c3, c4, c5]
 rw [if_neg h10]
 have c1 := diff_both (T := T) op da db (by omega) hda hdb
 simp only [celP, dv_sl] at c1 ⊢
 generalize bothN op da db = R at *
 generalize flg R = fR at *
 generalize flg da = fa at *
 generalize flg db = fb at *
 simp -implicitDefEqProofs [h9, h10, c1]
theorem diff_one (x : Nd) (a da : List Nd) (hx : x.op = 6 ∨ x.op = 11) (hi : -8 ≤ x.i ∧ x.i ≤ 8) (h6 : x.op = 6 → x.i = 0) (hl : 2 * a.length + da.length + 10 ≤ 4294967295) (ha : thin 1000 a) (hda : thin 1000 da) :
  callF T 77 [.agg (celN x), .agg (celP (a, da))] = some (dv (oneN x a da)) := by
 obtain ⟨op, i, n⟩ := x
 dsimp only at hx hi h6
 rw [f77 _ rfl, b77]
 unfold oneN
 simp only [celP]
 by_cases hz : da = []
 ·subst hz
  rw [if_pos (.inl rfl)]
  simp -implicitDefEqProofs [dv_nil]
 have e1 := eqnil_row hz
 rw [dv_ne hz]
 rcases hx with rfl | rfl
 ·have c1 := diff_join1 (T := T) 6 da (by omega) hda
  rw [if_neg (by simp [hz]), if_pos rfl, dv_ne (joinN_ne _ _)]
  generalize joinN 6 [da] = R at *
  simp -implicitDefEqProofs [-eqnilAV, eqnil_nil, e1, c1]
 by_cases h0 : i = 0
 ·subst h0
  rw [if_pos (.inr ⟨rfl, rfl⟩)]
  simp -implicitDefEqProofs [-eqnilAV, eqnil_nil, e1, dv_nil]
 rw [if_neg (by simp [hz, h0]), if_neg (by decide)]
 by_cases hp : 0 < i
 ·obtain ⟨k, rfl⟩ : ∃ k : Nat, i = k := ⟨i.toNat, by omega⟩
  have c1 := diff_const (T := T) k (by omega)
  have c2 := diff_power (T := T) a ((k : Int) - 1) (by omega)
  have l1 := kN_len (k : Int)
  have l2 := powN_len a ((k : Int) - 1)
  have tp : thin 1000 (powN a ((k : Int) - 1)) := by rw [powN_cat]; exact thin_cat ha (thin_nil _)
  have c3 := diff_join2 (T := T) 9 (kN k) (powN a ((k : Int) - 1)) (by omega) (thin_k (by decide) _) tp
  have l3 := joinN2 9 (kN k) (powN a ((k : Int) - 1))
  have t3 : thin 1000 (joinN 9 [kN k, powN a ((k : Int) - 1)]) := by rw [join2]; exact thin_cat (thin_k (by decide) _) tp
  have c4 := diff_join2 (T := T) 9 (joinN 9 [kN k, powN a ((k : Int) - 1)]) da (by omega) t3 hda
  have hw : IntKind.wrap .i64 ((k : Int) - 1) = (k : Int) - 1 := wrap_i64 _ (by omega)
  rw [if_pos hp, dv_ne (joinN_ne _ _)]
  have hp' : 0 < k := by omega
  have h0' : ¬ k = 0 := by omega
  generalize joinN 9 [joinN 9 [kN k, powN a ((k : Int) - 1)], da] = R at *
  generalize joinN 9 [kN k, powN a ((k : Int) - 1)] = R2 at *
  generalize powN a ((k : Int) - 1) = R3 at *
  generalize kN (k : Int) = R4 at *
  simp -implicitDefEqProofs [-eqnilAV, eqnil_nil, e1, c1, c2, c3, c4, hw, hp', h0, h0']
 ·obtain ⟨k, rfl⟩ : ∃ k : Nat, i = -(k : Int) := ⟨(-i).toNat, by omega⟩
  have en : -(-(k : Int)) = k := by omega
  rw [en]
  have c1 := diff_const (T := T) k (by omega)
  have c2 := diff_power (T := T) a (-(k : Int)) (by omega)
  have l1 := kN_len (k : Int)
  have l2 := powN_len a (-(k : Int))
  have tp : thin 1000 (powN a (-(k : Int))) := by rw [powN_cat]; exact thin_cat ha (thin_nil _)
  have c3 := diff_join2 (T := T) 9 (kN k) (powN a (-(k : Int))) (by omega) (thin_k (by decide) _) tp
  have l3 := joinN2 9 (kN k) (powN a (-(k : Int)))
  have t3 : thin 1000 (joinN 9 [kN k, powN a (-(k : Int))]) := by rw [join2]; exact thin_cat (thin_k (by decide) _) tp
  have c4 := diff_join2 (T := T) 9 (joinN 9 [kN k, powN a (-(k : Int))]) da (by omega) t3 hda
  have l4 := joinN2 9 (joinN 9 [kN k, powN a (-(k : Int))]) da
  have t4 : thin 1000 (joinN 9 [joinN 9 [kN k, powN a (-(k : Int))], da]) := by rw [join2]; exact thin_cat t3 hda
  have c5 := diff_join2 (T := T) 10 (joinN 9 [joinN 9 [kN k, powN a (-(k : Int))], da]) a (by omega) t4 ha
  have l5 := joinN2 10 (joinN 9 [joinN 9 [kN k, powN a (-(k : Int))], da]) a
  have t5 : thin 1000 (joinN 10 [joinN 9 [joinN 9 [kN k, powN a (-(k : Int))], da], a]) := by rw [join2]; exact thin_cat t4 ha
  have c6 := diff_join1 (T := T) 6 (joinN 10 [joinN 9 [joinN 9 [kN k, powN a (-(k : Int))], da], a]) (by omega) t5
  have hw : IntKind.wrap .i64 (k : Int) = (k : Int) := wrap_i64 _ (by omega)
  rw [if_neg hp, dv_ne (joinN_ne _ _)]
  have hp' : ¬ 0 < -(k : Int) := by omega
  have h0' : ¬ k = 0 := by omega
  generalize joinN 6 [joinN 10 [joinN 9 [joinN 9 [kN k, powN a (-(k : Int))], da], a]] = R6 at *
  generalize joinN 10 [joinN 9 [joinN 9 [kN k, powN a (-(k : Int))], da], a] = R5 at *
  generalize joinN 9 [joinN 9 [kN k, powN a (-(k : Int))], da] = R at *
  generalize joinN 9 [kN k, powN a (-(k : Int))] = R2 at *
  generalize powN a (-(k : Int)) = R3 at *
  generalize kN (k : Int) = R4 at *
  simp -implicitDefEqProofs [-eqnilAV, eqnil_nil, e1, c1, c2, c3, c4, c5, c6, hw, hp', h0, h0']
end
end Go.Ab
end

section
namespace Go.Ab
def rowP (l : List Pc) : List (List AV) := l.map celP
@[simp] theorem rowP_length (l : List Pc) : (rowP l).length = l.length := by simp [rowP]
@[simp] theorem rowP_get? (l : List Pc) (i : Nat) : (rowP l)[i]? = (l[i]?).map celP := by simp [rowP]
@[simp] theorem rowP_get (l : List Pc) (i : Nat) (h : i < (rowP l).length) : (rowP l)[i] = celP (l[i]'(by simpa using h)) := by simp [rowP]
theorem rowP_snoc (l : List Pc) (x : Pc) : rowP l ++ [celP x] = rowP (l ++ [x]) := by simp [rowP]
@[simp] theorem rowP_take (l : List Pc) (n : Nat) : (rowP l).take n = rowP (l.take n) := by simp [rowP]
@[simp] theorem rowP_drop (l : List Pc) (n : Nat) : (rowP l).drop n = rowP (l.drop n) := by simp [rowP]
@[simp] theorem rowP_nil : rowP [] = [] := rfl
theorem rowP_put (l : List Pc) (c d : List Nd) : rowP l ++ [[.sl (rowN c) .an, .sl (rowN d) (flg d)]] = rowP (l ++ [(c, d)]) := by
 rw [← rowP_snoc]
 simp only [celP, dv_sl]
section
variable {T : Tbl} [CDiff T]
abbrev hpBy (u x : Nd) (S : List Pc) : Heap := [(.loc 3, ⟨1, .str, 3, [celN u]⟩), (.loc 5, ⟨2, .own, 2, rowP S⟩), (.loc 7, ⟨3, .str, 3, [celN x]⟩)]
def stIn (u x : Nd) (code : List Nd) (S : List Pc) (i kk : Nat) (v : AV) (r : Nat) (from_ j : Nat) : St :=
 ⟨[(0, .sl (rowN code) .an), (3, .ptr (.loc 3) 1 3 0 0), (5, .bs (.loc 5) 2 2 0 S.length), (6, .i .i64 i), (7, .ptr (.loc 7) 3 3 0 0), (8, .i .i64 kk), (9, .i .i64 from_), (13, .sl (rowN code) .an), (14, .i .i64 code.length), (15, .i .i64 i),
  (29, v), (30, .i .i64 r), (31, .i .i64 j)], hpBy u x S, 5⟩
def stOut (u x : Nd) (code : List Nd) (S : List Pc) (i kk : Nat) (from_ : Nat) : St :=
 ⟨[(0, .sl (rowN code) .an), (3, .ptr (.loc 3) 1 3 0 0), (5, .bs (.loc 5) 2 2 0 S.length), (6, .i .i64 i), (7, .ptr (.loc 7) 3 3 0 0), (8, .i .i64 kk), (9, .i .i64 from_), (13, .sl (rowN code) .an), (14, .i .i64 code.length), (15, .i .i64 i)], hpBy u x S, 5⟩
theorem by_in0 (u x : Nd) (code : List Nd) (S : List Pc) (i kk f : Nat) (v : AV) (hv : v = .sl [] .an ∨ v = .bs (.loc 5) 2 2 0 0) :
  loopN T 0 2 (.norm true [0, 3, 5, 6, 7, 8, 9, 13, 14, 15]) l47_0 (stIn u x code S i kk v 0 f 0) = some (.n, stOut u x code S i kk f) := by
 refine range_loop (fun j => stIn u x code S i kk v 0 f j) 0 _ (fun j hj => absurd hj (Nat.not_lt_zero j)) ?_
 unfold stIn stOut
 rcases hv with rfl | rfl <;> (constructor <;> simp -implicitDefEqProofs [l47_0])
theorem lenP_take_le (l : List Pc) (j : Nat) : lenP (l.take j) ≤ lenP l := by
 have : lenP l = lenP (l.take j) + lenP (l.drop j) := by rw [← lenP_append, List.take_append_drop]
 omega
theorem lenP_drop_le (l : List Pc) (j : Nat) : lenP (l.drop j) ≤ lenP l := by
 have : lenP l = lenP (l.take j) + lenP (l.drop j) := by rw [← lenP_append, List.take_append_drop]
 omega
theorem by_in (u x : Nd) (code : List Nd) (S : List Pc) (i kk r : Nat) (hr : S.length = kk + r) (hS : S.length ≤ 4294967295) (hi : lenP S ≤ i) (hi2 : i ≤ 4294967295) :
  loopN T 0 2 (.norm true [0, 3, 5, 6, 7, 8, 9, 13, 14, 15]) l47_0 (stIn u x code S i kk (.bs (.loc 5) 2 2 kk r) r i 0) = some (.n, stOut u x code S i kk (i - lenP (S.drop kk))) := by
 have := range_loop (T := T) (k := 0) (id := 2) (g2 := .norm true [0, 3, 5, 6, 7, 8, 9, 13, 14, 15]) (c := l47_0) (fun j => stIn u x code S i kk (.bs (.loc 5) 2 2 kk r) r (i - lenP ((S.drop kk).take j)) j) r
  (some (.n, stOut u x code S i kk (i - lenP (S.drop kk)))) (fun j hj => ?_) ?_
 ·simpa [lenP_nil] using this
 ·have hlt : kk + j < S.length := by omega
  have hg : S[kk + j]? = some (S[kk + j]'hlt) := List.getElem?_eq_getElem hlt
  have hj' : (j : Int) < r := by omega
  have hws := wrapS hj (by omega)
  have ht : (S.drop kk).take (j + 1) = (S.drop kk).take j ++ [S[kk + j]'hlt] := by
   rw [List.take_succ_eq_append_getElem (by rw [List.length_drop]; omega)]
   congr 2
   simp
  have hle := lenP_take_le (S.drop kk) (j + 1)
  have hle2 := lenP_drop_le S kk
  rw [ht, lenP_snoc] at hle
  rw [ht, lenP_snoc]
  generalize hx : S[kk + j]'hlt = p at *
  generalize lenP ((S.drop kk).take j) = L at *
  generalize lenP (S.drop kk) = L2 at *
  obtain ⟨c, d⟩ := p
  clear ht
  dsimp only at *
  have hw : IntKind.wrap .i64 (((i - L : Nat) : Int) - (c.length : Int)) = ((i - (L + c.length) : Nat) : Int) := by rw [wrap_i64 _ (by omega)]; omega
  unfold stIn
  simp -implicitDefEqProofs [l47_0, hj, hj', hlt, hg, hx, hws, hw, dv_sl]
 ·have ht : (S.drop kk).take r = S.drop kk := List.take_of_length_le (by rw [List.length_drop]; omega)
  rw [ht]
  unfold stIn stOut
  constructor <;> simp -implicitDefEqProofs [l47_0]
def stBy (u : Nd) (code : List Nd) (S : List Pc) (i : Nat) : St :=
 ⟨[(0, .sl (rowN code) .an), (3, .ptr (.loc 3) 1 3 0 0), (5, .bs (.loc 5) 2 2 0 S.length), (13, .sl (rowN code) .an), (14, .i .i64 code.length), (15, .i .i64 i)], [(.loc 3, ⟨1, .str, 3, [celN u]⟩), (.loc 5, ⟨2, .own, 2, rowP S⟩)], 4⟩
variable [CTree T]
theorem by_step0 (u x : Nd) (code : List Nd) (S : List Pc) (i : Nat) (hx : code[i]? = some x) (ha : arN x.op = 0) (hS : S.length ≤ 4294967290) (hi2 : code.length ≤ 4294967290) :
  evX (orc T) T 0 l47_1 (stBy u code S i) = some (.n, stBy u code (S ++ [((code.take (i + 1)).drop i, if x.op = u.op ∧ x.i = u.i then kN 1 else [])]) (i + 1)) := by
 obtain ⟨hlt, hge⟩ := List.getElem?_eq_some_iff.1 hx
 have hlt' : (i : Int) < code.length := by omega
 have hws := wrapS hlt (by omega)
 have ca := tree_arity (T := T) x.op
 rw [ha] at ca
 have ci := diff_is (T := T) x u
 have ck : callF T 48 [.i .i64 1] = some (.sl (rowN (kN 1)) .an) := diff_const (T := T) 1 (by decide)
 have h1 : i ≤ code.length := by omega
 have h2 : i + 1 ≤ code.length := by omega
 have h2' : (i : Int) + 1 ≤ code.length := by omega
 have hin := by_in0 (T := T) u x code S i S.length i
 unfold stIn stOut at hin
 simp only [Int.natCast_zero] at hin
 have h32 : S.length + 1 ≤ 4294967296 := by omega
 have hput := rowP_put S ((code.take (i + 1)).drop i) (if x.op = u.op ∧ x.i = u.i then kN 1 else [])
 have hw : IntKind.wrap .i64 ((S.length : Int) - 0) = S.length := by rw [Int.sub_zero]; exact wrap_i64 _ (by omega)
 have hw2 : IntKind.wrap .i64 (S.length : Int) = S.length := wrap_i64 _ (by omega)
 have hw3 : IntKind.wrap .i64 0 = 0 := by decide
 unfold stBy
 generalize hc : (code.take (i + 1)).drop i = c at *
 obtain ⟨op, xi, n⟩ := x
 obtain ⟨uop, ui, un⟩ := u
 dsimp only at *
 by_cases h0 : S = []
 ·subst h0
  have hin1 := hin (.bs (.loc 5) 2 2 0 0) (.inr rfl)
  clear hin
  simp only [hpBy, List.length_nil, Int.natCast_zero, rowP_nil, List.nil_append] at *
  by_cases hu : op = uop ∧ xi = ui
  ·have e1 : (decide (op = uop) && decide (xi = ui)) = true := by simp [hu]
   rw [e1] at ci
   rw [if_pos hu] at hput ⊢
   have ef : flg (kN 1) = .an := rfl
   rw [ef] at hput
   clear ef
   generalize kN 1 = K at *
   rw [← hput]
   simp -implicitDefEqProofs [l47_1, hlt, hlt', hx, hge, ca, ci, ck, hws, hw, hw2, hw3, hin1, h1, h2, h2', hc, h32]
  ·have e1 : (decide (op = uop) && decide (xi = ui)) = false := by
    rw [Bool.and_eq_false_iff, decide_eq_false_iff_not, decide_eq_false_iff_not]
    exact Classical.not_and_iff_not_or_not.1 hu
   rw [e1] at ci
   rw [if_neg hu] at hput ⊢
   have ef : flg [] = .nl := rfl
   rw [ef, rowN_nil] at hput
   clear ef
   rw [← hput]
   simp -implicitDefEqProofs [l47_1, hlt, hlt', hx, hge, ca, ci, ck, hws, hw, hw2, hw3, hin1, h1, h2, h2', hc, h32]
 ·have hp : 0 < S.length := List.length_pos_iff.2 h0
  have hp' : ¬ S.length = 0 := by omega
  have hin1 := hin (.sl [] .an) (.inl rfl)
  clear hin
  by_cases hu : op = uop ∧ xi = ui
  ·have e1 : (decide (op = uop) && decide (xi = ui)) = true := by simp [hu]
   rw [e1] at ci
   rw [if_pos hu] at hput ⊢
   have ef : flg (kN 1) = .an := rfl
   rw [ef] at hput
   clear ef
   generalize kN 1 = K at *
   simp -implicitDefEqProofs [l47_1, hlt, hlt', hx, hge, ca, ci, ck, hws, hw, hw2, hw3, hin1, hp, hp', h0, h1, h2, h2', hc, h32, hput]
  ·have e1 : (decide (op = uop) && decide (xi = ui)) = false := by
    rw [Bool.and_eq_false_iff, decide_eq_false_iff_not, decide_eq_false_iff_not]
    exact Classical.not_and_iff_not_or_not.1 hu
   rw [e1] at ci
   rw [if_neg hu] at hput ⊢
   have ef : flg [] = .nl := rfl
   rw [ef, rowN_nil] at hput
   clear ef
   simp -implicitDefEqProofs [l47_1, hlt, hlt', hx, hge, ca, ci, ck, hws, hw, hw2, hw3, hin1, hp, hp', h0, h1, h2, h2', hc, h32, hput]
end
end Go.Ab
end

section
namespace Go.Ab
section
variable {T : Tbl} [CDiff T] [CTree T]
theorem by_step1 (u x : Nd) (code : List Nd) (S S' : List Pc) (a da : List Nd) (i : Nat) (hx : code[i]? = some x) (ha : arN x.op = 1) (hSe : S = S' ++ [(a, da)]) (hS : S.length ≤ 4294967290) (hi2 : code.length ≤ 4294967290) (hL : lenP S ≤ i)
  (c1 : callF T 77 [.agg (celN x), .agg (celP (a, da))] = some (dv (oneN x a da))) :
  evX (orc T) T 0 l47_1 (stBy u code S i) = some (.n, stBy u code (S' ++ [((code.take (i + 1)).drop (i - a.length), oneN x a da)]) (i + 1)) := by
 obtain ⟨hlt, hge⟩ := List.getElem?_eq_some_iff.1 hx
 have hlt' : (i : Int) < code.length := by omega
 have hws := wrapS hlt (by omega)
 have ca := tree_arity (T := T) x.op
 rw [ha] at ca
 obtain ⟨kk, hkk⟩ : ∃ kk, kk = S'.length := ⟨_, rfl⟩
 have hSl : S.length = kk + 1 := by rw [hSe, hkk]; simp
 have hg : S[kk]? = some (a, da) := by rw [hSe, hkk]; simp
 have hge2 := (List.getElem?_eq_some_iff.1 hg).2
 have htk : S.take kk = S' := by rw [hSe, hkk]; simp
 have hdr : lenP (S.drop kk) = a.length := by rw [hSe, hkk]; simp [lenP]
 have hin := by_in (T := T) u x code S i kk 1 hSl (by omega) hL (by omega)
 rw [hdr] at hin
 have h1 : i - a.length ≤ i + 1 := by omega
 have h2 : i + 1 ≤ code.length := by omega
 have h2' : (i : Int) + 1 ≤ code.length := by omega
 have h32 : kk + 1 ≤ 4294967296 := by omega
 have hput := rowP_put S' ((code.take (i + 1)).drop (i - a.length)) (oneN x a da)
 have hw : IntKind.wrap .i64 (kk : Int) = kk := wrap_i64 _ (by omega)
 have hw2 : IntKind.wrap .i64 ((kk : Int) + 1 - 1) = kk := by rw [wrap_i64 _ (by omega)]; omega
 have hw5 : IntKind.wrap .i64 ((kk : Int) + 1 - kk) = 1 := by rw [show (kk : Int) + 1 - kk = 1 by omega]; decide
 have hle : kk ≤ S.length := by omega
 have hk1 : (kk : Int) < kk + 1 := by omega
 have hk2 : (kk : Int) < kk + 2 := by omega
 have hk3 : (kk : Int) + 1 < kk + 2 := by omega
 have hk6 : (kk : Int) ≤ kk + 1 := by omega
 have hk7 : (kk : Int) ≤ kk + 2 := by omega
 have hk4 : 0 ≤ (kk : Int) + 1 := by omega
 have hk5 : ((kk : Int) + 1).toNat = kk + 1 := by omega
 unfold stIn stOut at hin
 unfold stBy
 rw [hSl] at hin ⊢
 rw [show (S' ++ [((code.take (i + 1)).drop (i - a.length), oneN x a da)]).length = kk + 1 by rw [hkk]; simp]
 generalize hc : (code.take (i + 1)).drop (i - a.length) = c at *
 simp only [celP, dv_sl] at c1
 generalize hf : i - a.length = f at *
 have h1' : (f : Int) ≤ (i : Int) + 1 := by omega
 generalize oneN x a da = R at *
 generalize hfR : flg R = fR at *
 generalize hfd : flg da = fd at *
 obtain ⟨op, xi, n⟩ := x
 obtain ⟨uop, ui, un⟩ := u
 dsimp only at *
 have hel : celP (a, da) = [.sl (rowN a) .an, .sl (rowN da) fd] := by simp only [celP, dv_sl, hfd]
 simp only [hpBy, Int.natCast_zero, Int.natCast_one] at hin
 rw [← hput]
 clear hSe hdr hkk hS hi2 hL ha
 by_cases h0 : kk = 0
 ·subst h0
  rw [List.take_zero] at htk
  subst htk
  simp only [Int.natCast_zero, Nat.zero_add] at *
  simp -implicitDefEqProofs [l47_1, hlt, hlt', hx, hge, ca, hws, hw, hw2, hin, h1, h1', h2, h2', hc, h32, hSl, hg, hge2, hel, c1]
 ·have hp : 0 < kk := by omega
  simp -implicitDefEqProofs [l47_1, hlt, hlt', hx, hge, ca, hws, hw, hw2, hw5, hin, hp, h0, h1, h1', h2, h2', hc, h32, hSl, hg, hge2, hel, c1, htk, hle, hk1, hk2, hk3, hk4, hk5, hk6, hk7]
theorem by_step2 (u x : Nd) (code : List Nd) (S S' : List Pc) (a da b db : List Nd) (i : Nat) (hx : code[i]? = some x) (ha : arN x.op = 2) (hSe : S = S' ++ [(a, da), (b, db)]) (hS : S.length ≤ 4294967290) (hi2 : code.length ≤ 4294967290) (hL : lenP S ≤ i)
  (c1 : callF T 78 [.i .i64 x.op, .agg (celP (a, da)), .agg (celP (b, db))] = some (dv (twoN x.op a da b db))) :
  evX (orc T) T 0 l47_1 (stBy u code S i) = some (.n, stBy u code (S' ++ [((code.take (i + 1)).drop (i - (a.length + b.length)), twoN x.op a da b db)]) (i + 1)) := by
 obtain ⟨hlt, hge⟩ := List.getElem?_eq_some_iff.1 hx
 have hlt' : (i : Int) < code.length := by omega
 have hws := wrapS hlt (by omega)
 have ca := tree_arity (T := T) x.op
 rw [ha] at ca
 obtain ⟨kk, hkk⟩ : ∃ kk, kk = S'.length := ⟨_, rfl⟩
 have hSl : S.length = kk + 2 := by rw [hSe, hkk]; simp
 have hg : S[kk]? = some (a, da) := by rw [hSe, hkk]; simp
 have hge2 := (List.getElem?_eq_some_iff.1 hg).2
 have hgb : S[kk + 1]? = some (b, db) := by rw [hSe, hkk]; simp
 have hgb2 := (List.getElem?_eq_some_iff.1 hgb).2
 have htk : S.take kk = S' := by rw [hSe, hkk]; simp
 have hdr : lenP (S.drop kk) = a.length + b.length := by rw [hSe, hkk]; simp [lenP]
 have hin := by_in (T := T) u x code S i kk 2 hSl (by omega) hL (by omega)
 rw [hdr] at hin
 have h1 : i - (a.length + b.length) ≤ i + 1 := by omega
 have h2 : i + 1 ≤ code.length := by omega
 have h2' : (i : Int) + 1 ≤ code.length := by omega
 have h32 : kk + 1 ≤ 4294967296 := by omega
 have hput := rowP_put S' ((code.take (i + 1)).drop (i - (a.length + b.length))) (twoN x.op a da b db)
 have hw : IntKind.wrap .i64 (kk : Int) = kk := wrap_i64 _ (by omega)
 have hw2 : IntKind.wrap .i64 ((kk : Int) + 2 - 2) = kk := by rw [wrap_i64 _ (by omega)]; omega
 have hw5 : IntKind.wrap .i64 ((kk : Int) + 2 - kk) = 2 := by rw [show (kk : Int) + 2 - kk = 2 by omega]; decide
 have hw6 : IntKind.wrap .i64 ((kk : Int) + 1) = (kk : Int) + 1 := wrap_i64 _ (by omega)
 have hle : kk ≤ S.length := by omega
 have hk1 : (kk : Int) < kk + 1 := by omega
 have hk2 : (kk : Int) < kk + 2 := by omega
 have hk3 : (kk : Int) + 1 < kk + 2 := by omega
 have hk6 : (kk : Int) ≤ kk + 1 := by omega
 have hk7 : (kk : Int) ≤ kk + 2 := by omega
 have hk4 : 0 ≤ (kk : Int) + 1 := by omega
 have hk5 : ((kk : Int) + 1).toNat = kk + 1 := by omega
 unfold stIn stOut at hin
 unfold stBy
 rw [hSl] at hin ⊢
 rw [show (S' ++ [((code.take (i + 1)).drop (i - (a.length + b.length)), twoN x.op a da b db)]).length = kk + 1 by rw [hkk]; simp]
 generalize hc : (code.take (i + 1)).drop (i - (a.length + b.length)) = c at *
 simp only [celP, dv_sl] at c1
 generalize hf : i - (a.length + b.length) = f at *
 have h1' : (f : Int) ≤ (i : Int) + 1 := by omega
 generalize twoN x.op a da b db = R at *
 generalize hfR : flg R = fR at *
 generalize hfd : flg da = fd at *
 generalize hfe : flg db = fe at *
 obtain ⟨op, xi, n⟩ := x
 obtain ⟨uop, ui, un⟩ := u
 dsimp only at *
 have hel : celP (a, da) = [.sl (rowN a) .an, .sl (rowN da) fd] := by simp only [celP, dv_sl, hfd]
 have hel2 : celP (b, db) = [.sl (rowN b) .an, .sl (rowN db) fe] := by simp only [celP, dv_sl, hfe]
 simp only [hpBy, Int.natCast_zero, Int.cast_ofNat_Int] at hin
 rw [← hput]
 clear hSe hdr hkk hS hi2 hL ha
 by_cases h0 : kk = 0
 ·subst h0
  rw [List.take_zero] at htk
  subst htk
  simp only [Int.natCast_zero, Nat.zero_add] at *
  simp -implicitDefEqProofs [l47_1, hlt, hlt', hx, hge, ca, hws, hw, hw2, hin, h1, h1', h2, h2', hc, h32, hSl, hg, hge2, hgb, hgb2, hel, hel2, hw6, c1]
 ·have hp : 0 < kk := by omega
  simp -implicitDefEqProofs [l47_1, hlt, hlt', hx, hge, ca, hws, hw, hw2, hw5, hin, hp, h0, h1, h1', h2, h2', hc, h32, hSl, hg, hge2, hgb, hgb2, hel, hel2, hw6, c1, htk, hle, hk1, hk2, hk3, hk4, hk5, hk6, hk7]
end
end Go.Ab
end

section
namespace Go.Ab
theorem okN_un {dim pars lets : Int} {x : Nd} (h : okN dim pars lets x = true) : (x.op = 6 → x.i = 0) ∧ (x.op = 11 → -8 ≤ x.i ∧ x.i ≤ 8) := by
 unfold okN at h
 constructor
 ·intro h6
  rw [h6] at h
  rw [if_neg (by decide)] at h
  split at h
  ·cases h
  ·simpa using h
 ·intro h11
  rw [h11] at h
  rw [if_neg (by decide)] at h
  split at h
  ·cases h
  ·simpa using h
theorem mid_drop (p m r : List Nd) (x : Nd) (i j : Nat) (hi : i = p.length + m.length) (hj : j = m.length) : (((p ++ m) ++ x :: r).take (i + 1)).drop (i - j) = m ++ [x] := by
 subst hi hj
 rw [List.take_append, List.length_append, List.take_of_length_le (by rw [List.length_append]; omega), show p.length + m.length + 1 - (p.length + m.length) = 1 by omega, show p.length + m.length - m.length = p.length by omega, List.append_assoc, List.drop_left]
 rfl
theorem thin_sub {w : Nat} {p m r : List Nd} (h : thin w (p ++ m ++ r)) : thin w m := fun x hx => h x (by simp [hx])
theorem tlen_sub {p m r code : List Nd} (h : p ++ m ++ r = code) : m.length ≤ code.length := by rw [← h, List.length_append, List.length_append]; omega
theorem der_le300 (u : Nd) (t : Tre) (h : t.flat.length ≤ 300) : (t.der u).length ≤ 900000 := by
 have h1 := der_le u t
 have h2 : t.flat.length * t.flat.length ≤ 300 * 300 := Nat.mul_le_mul h h
 omega
section
variable {T : Tbl} [CDiff T] [CTree T]
theorem by_loop (u : Nd) (code : List Nd) (t0 : Tre) (hok : ∀ x ∈ code, okN 6 6 0 x = true) (hthin : thin 1000 code) (hl : code.length ≤ 300) :
  ∀ p : List Tre × List Nd, (flats p.1.reverse ++ p.2 = code ∧ (∀ t ∈ p.1, t.ok) ∧ p.2.foldl pushT p.1 = [t0] ∧ (∃ i, wrongL i p.1.length p.2 = -1)) →
  loopN T 0 0 (.norm true [5]) l47_1 (stBy u code (pcs u p.1) (code.length - p.2.length)) =
   some (.n, ⟨[(5, .bs (.loc 5) 1 2 0 1)], [(.loc 5, ⟨1, .own, 2, rowP [(t0.flat, t0.der u)]⟩)], 3⟩) := by
 refine loopN_eq (fun p : List Tre × List Nd => stBy u code (pcs u p.1) (code.length - p.2.length)) _ (fun p => p.2.length) _ ?_
 rintro ⟨s, rest⟩ ⟨hc, hs, hf, j, hw⟩
 dsimp only at *
 cases rest with
 | nil =>
  right
  have e : s = [t0] := hf
  subst e
  rw [List.length_nil, Nat.sub_zero]
  have e2 : pcs u [t0] = [(t0.flat, t0.der u)] := rfl
  rw [e2]
  unfold stBy
  constructor <;> simp -implicitDefEqProofs [l47_1]
 | cons x r =>
  left
  have hlen : (flats s.reverse).length + (r.length + 1) = code.length := by rw [← hc]; simp
  have hi : code.length - (x :: r).length = (flats s.reverse).length := by rw [List.length_cons]; omega
  have hi2 : code.length - r.length = (flats s.reverse).length + 1 := by omega
  rw [hi]
  have hx : code[(flats s.reverse).length]? = some x := by rw [← hc]; simp
  have hxm : x ∈ code := by rw [← hc]; simp
  have hun := okN_un (hok x hxm)
  have hL : lenP (pcs u s) = (flats s.reverse).length := lenP_pcs u s
  have hsl : s.length ≤ (flats s.reverse).length := by
   have : s.reverse.length ≤ (flats s.reverse).length := by
    generalize s.reverse = q
    induction q with
    | nil => exact Nat.zero_le _
    | cons t q ih =>
     have := t.flat_pos
     show q.length + 1 ≤ (t.flat ++ flats q).length
     rw [List.length_append]; omega
   simpa using this
  have hpl := pcs_length u s
  have h1 : ¬ (arN x.op < 0 ∨ (s.length : Int) < arN x.op) := by
   intro hh
   unfold wrongL at hw
   rw [if_pos hh] at hw
   omega
  have hw2 : wrongL (j + 1) (s.length + 1 - arN x.op) r = -1 := by
   unfold wrongL at hw
   rwa [if_neg h1] at hw
  rcases arN_cases x.op with ⟨e, _⟩ | ⟨e, hop⟩ | ⟨e, _⟩ | ⟨e, _⟩
  ·have hp : pushT s x = .leaf x :: s := by simp [pushT, e]
   refine ⟨(.leaf x :: s, r), ⟨?_, ?_, ?_, j + 1, ?_⟩, by simp, ?_, rfl⟩
   ·rw [List.reverse_cons, flats_snoc, List.append_assoc]; exact hc
   ·intro t ht
    rcases List.mem_cons.1 ht with rfl | ht
    ·exact e
    ·exact hs t ht
   ·rw [List.foldl_cons, hp] at hf; exact hf
   ·rw [e] at hw2; rw [← hw2]; congr 1
   ·dsimp only
    rw [hi2, pcs_cons, by_step0 u x code (pcs u s) _ hx e (by omega) (by omega)]
    have := mid_drop (flats s.reverse) [] r x (flats s.reverse).length 0 (by simp) rfl
    rw [List.append_nil, hc, Nat.sub_zero] at this
    rw [this]
    rfl
  ·cases s with
   | nil => exfalso; apply h1; right; rw [e]; decide
   | cons a s1 =>
    have hp : pushT (a :: s1) x = .un x a :: s1 := by simp [pushT, e]
    have hc' : flats s1.reverse ++ a.flat ++ x :: r = code := by
     rw [← hc, List.reverse_cons, flats_snoc]
    have ta : thin 1000 a.flat := by rw [← hc'] at hthin; exact thin_sub hthin
    have la := tlen_sub hc'
    have tda := thin_der (w := 1000) (by decide) u a ta
    have lda := der_le300 u a (by omega)
    have hii : (flats (a :: s1).reverse).length = (flats s1.reverse).length + a.flat.length := by rw [List.reverse_cons, flats_snoc, List.length_append]
    have c1 := diff_one (T := T) x a.flat (a.der u) hop (by
     rcases hop with h | h
     ·have := hun.1 h; omega
     ·exact hun.2 h) hun.1 (by omega) ta tda
    refine ⟨(.un x a :: s1, r), ⟨?_, ?_, ?_, j + 1, ?_⟩, by simp, ?_, rfl⟩
    ·rw [List.reverse_cons, flats_snoc, Tre.flat, ← hc']; simp
    ·intro t ht
     rcases List.mem_cons.1 ht with rfl | ht
     ·exact ⟨e, hs a (by simp)⟩
     ·exact hs t (by simp [ht])
    ·rw [List.foldl_cons, hp] at hf; exact hf
    ·rw [e] at hw2; rw [← hw2]; congr 1; dsimp only; rw [List.length_cons, List.length_cons]; omega
    ·dsimp only
     have hstep := by_step1 (T := T) u x code (pcs u (a :: s1)) (pcs u s1) a.flat (a.der u) _ hx e (pcs_cons u a s1) (by omega) (by omega) (by omega) c1
     rw [hstep, hi2, pcs_cons]
     have := mid_drop (flats s1.reverse) a.flat r x _ a.flat.length hii rfl
     rw [hc'] at this
     rw [this]
     rfl
  ·cases s with
   | nil => exfalso; apply h1; right; rw [e]; decide
   | cons b s0 =>
   cases s0 with
   | nil => exfalso; apply h1; right; rw [e]; simp
   | cons a s1 =>
    have hp : pushT (b :: a :: s1) x = .bin x a b :: s1 := by simp [pushT, e]
    have hc' : flats s1.reverse ++ (a.flat ++ b.flat) ++ x :: r = code := by
     rw [← hc, List.reverse_cons, flats_snoc, List.reverse_cons, flats_snoc]; simp
    have hca : flats s1.reverse ++ a.flat ++ (b.flat ++ x :: r) = code := by rw [← hc']; simp
    have hcb : (flats s1.reverse ++ a.flat) ++ b.flat ++ (x :: r) = code := by rw [← hc']; simp
    have ta : thin 1000 a.flat := by rw [← hca] at hthin; exact thin_sub hthin
    have tb : thin 1000 b.flat := by rw [← hcb] at hthin; exact thin_sub hthin
    have la := tlen_sub hca
    have lb := tlen_sub hcb
    have tda := thin_der (w := 1000) (by decide) u a ta
    have tdb := thin_der (w := 1000) (by decide) u b tb
    have lda := der_le300 u a (by omega)
    have ldb := der_le300 u b (by omega)
    have hii : (flats (b :: a :: s1).reverse).length = (flats s1.reverse).length + (a.flat ++ b.flat).length := by
     rw [List.reverse_cons, flats_snoc, List.reverse_cons, flats_snoc]; simp [Nat.add_assoc]
    have c1 := diff_two (T := T) x.op a.flat (a.der u) b.flat (b.der u) (by omega) ta tda tb tdb
    refine ⟨(.bin x a b :: s1, r), ⟨?_, ?_, ?_, j + 1, ?_⟩, by simp, ?_, rfl⟩
    ·rw [List.reverse_cons, flats_snoc, Tre.flat, ← hc']; simp
    ·intro t ht
     rcases List.mem_cons.1 ht with rfl | ht
     ·exact ⟨e, hs a (by simp), hs b (by simp)⟩
     ·exact hs t (by simp [ht])
    ·rw [List.foldl_cons, hp] at hf; exact hf
    ·rw [e] at hw2; rw [← hw2]; congr 1; dsimp only; rw [List.length_cons, List.length_cons, List.length_cons]; omega
    ·dsimp only
     have hstep := by_step2 (T := T) u x code (pcs u (b :: a :: s1)) (pcs u s1) a.flat (a.der u) b.flat (b.der u) _ hx e (by rw [pcs_cons, pcs_cons]; simp) (by omega) (by omega) (by omega) c1
     rw [hstep, hi2, pcs_cons]
     have := mid_drop (flats s1.reverse) (a.flat ++ b.flat) r x _ (a.flat.length + b.flat.length) hii (by simp)
     rw [hc'] at this
     rw [this]
     simp only [Tre.flat, Tre.der, List.append_assoc]
  ·exfalso; apply h1; left; omega
theorem diff_by (u : Nd) (t : Tre) (ht : t.ok) (hok : ∀ x ∈ t.flat, okN 6 6 0 x = true) (hthin : thin 1000 t.flat) (hl : t.flat.length ≤ 300) :
  callF T 47 [.sl (rowN t.flat) .an, .agg (celN u)] = some (dv (t.der u)) := by
 have hlo := by_loop (T := T) u t.flat t hok hthin hl ([], t.flat) ⟨rfl, by simp, by
  have := fold_flat t ht [] []
  rwa [List.append_nil] at this, 0, wrongN_flat ht⟩
 dsimp only at hlo
 rw [Nat.sub_self] at hlo
 unfold stBy at hlo
 have e : pcs u [] = [] := rfl
 rw [e] at hlo
 simp only [List.length_nil, Int.natCast_zero, rowP_nil] at hlo
 have hel : rowP [(t.flat, t.der u)] = [[.sl (rowN t.flat) .an, .sl (rowN (t.der u)) (flg (t.der u))]] := by simp only [rowP, List.map_cons, List.map_nil, celP, dv_sl]
 rw [hel] at hlo
 rw [dv_sl]
 generalize flg (t.der u) = f at *
 generalize t.der u = D at *
 generalize t.flat = code at *
 obtain ⟨uop, ui, un⟩ := u
 rw [f47 _ rfl, b47]
 simp -implicitDefEqProofs [hlo]
end
end Go.Ab
end

section
namespace Go.Ab
def selN (f s : List Nd) (j : Int) (da db : List Nd) : List Nd :=
 if da ≠ [] ∧ db ≠ [] then catN f s j 0 else if da ≠ [] then f else if db ≠ [] ∧ j = 8 then catN s [] 6 0 else if db ≠ [] then s else []
end Go.Ab
end

section
namespace Go.Ab
end Go.Ab
end

section
namespace Go.Ab
section
variable {T : Tbl} [CLaw17 T]
theorem law17_to (l : List Nd) (hl : l.length ≤ 4294967295) : callF T 13 [.sl (rowN l) .an] = some (.sl (rowN l) .an) := by
 have hlo : loopN T 0 0 (.norm false [3]) l13_0 ⟨[(0, .sl (rowN l) .an), (3, .bs (.loc 3) 1 3 0 0), (4, .i .i64 0)], [(.loc 3, ⟨1, .own, 3, []⟩)], 3⟩ =
   some (.n, ⟨[(3, .bs (.loc 3) 1 3 0 l.length)], [(.loc 3, ⟨1, .own, 3, rowN l⟩)], 3⟩) := by
  have := range_loop (T := T) (k := 0) (id := 0) (g2 := .norm false [3]) (c := l13_0) (fun i => ⟨[(0, .sl (rowN l) .an), (3, .bs (.loc 3) 1 3 0 i), (4, .i .i64 (i : Int))], [(.loc 3, ⟨1, .own, 3, rowN (l.take i)⟩)], 3⟩) l.length
   (some (.n, ⟨[(3, .bs (.loc 3) 1 3 0 l.length)], [(.loc 3, ⟨1, .own, 3, rowN l⟩)], 3⟩)) (fun i hi => ?_) ?_
  ·simpa using this
  ·have hg : l[i]? = some (l[i]'hi) := List.getElem?_eq_getElem hi
   have hi' : (i : Int) < l.length := by omega
   have hws := wrapS hi (by omega)
   have hs : l.take (i + 1) = l.take i ++ [l[i]'hi] := by rw [List.take_succ_eq_append_getElem hi]
   have hp := rowN_push (n := i) (show (l.take i).length = i by rw [List.length_take]; omega) (l[i]'hi)
   have hle : i ≤ (l.take i).length := by rw [List.length_take]; omega
   have h32 : i + 1 ≤ 4294967296 := by omega
   rw [hs]
   generalize hx : l[i]'hi = x at *
   generalize l.take i = m at *
   obtain ⟨op, j, n⟩ := x
   clear hs
   simp -implicitDefEqProofs [l13_0, hi, hi', hg, hx, hws, hp, hle, h32]
  ·constructor <;> simp -implicitDefEqProofs [l13_0]
 rw [f13 _ rfl, b13]
 simp -implicitDefEqProofs [hlo]
end
end Go.Ab
end

section
namespace Go.Ab
def unkB (u : Nd) : Bool := decide (2 ≤ u.op) && decide (u.op ≤ 4) && okN 6 6 0 u
def derF (u : Nd) (t : Tre) : List Nd := if t.der u = [] then kN 0 else t.der u
def freeB (u : Nd) (l : List Nd) : Bool := !(l.any fun x => decide (x.op = u.op) && decide (x.i = u.i))
theorem derF_thin {u : Nd} {t : Tre} (h : thin 1000 t.flat) : thin 1000 (derF u t) := by
 unfold derF
 split
 ·exact thin_k (by decide) _
 ·exact thin_der (by decide) u t h
section
variable {T : Tbl} [CLimb T] [CNat T] [CText T] [CLenD T] [CTree T] [CDiff T]
theorem diff_right (u : Nd) (hn : u.n.length ≤ 1000) : callF T 45 [.agg (celN u)] = some (.b (unkB u)) := by
 have c := check_node (T := T) u 6 6 0 hn
 rw [f45 _ rfl, b45]
 unfold unkB
 generalize okN 6 6 0 u = K at *
 obtain ⟨op, i, n⟩ := u
 dsimp only
 by_cases h2 : op = 2
 ·subst h2; simp -implicitDefEqProofs [c]
 by_cases h3 : op = 3
 ·subst h3; simp -implicitDefEqProofs [c]
 by_cases h4 : op = 4
 ·subst h4; simp -implicitDefEqProofs [c]
 have e : (decide (2 ≤ op) && decide (op ≤ 4)) = false := by
  rw [Bool.and_eq_false_iff, decide_eq_false_iff_not, decide_eq_false_iff_not]; omega
 rw [e]
 simp -implicitDefEqProofs [h2, h3, h4]
theorem diff_By_no (u : Nd) (l : List Nd) (hl : l.length ≤ 4294967290) (hn : thin 1000 l) (hu : u.n.length ≤ 1000) (h : unkB u = false ∨ 300 < l.length ∨ 0 ≤ placeN 6 6 0 l) : callF T 12 [.sl (rowN l) .an, .agg (celN u)] = some (.tup [.sl [] .an, .b false]) := by
 have c1 := diff_right (T := T) u hu
 have c2 := check_place (T := T) l 6 6 0 (by omega) hn
 rw [f12 _ rfl, b12]
 generalize placeN 6 6 0 l = P at *
 obtain ⟨op, i, n⟩ := u
 generalize hU : unkB ⟨op, i, n⟩ = U at *
 cases U with
 | false => simp -implicitDefEqProofs [c1]
 | true =>
  by_cases h3 : 300 < l.length
  ·have h3' : (300 : Int) < l.length := by omega
   simp -implicitDefEqProofs [c1, h3, h3']
  ·have h3' : ¬ (300 : Int) < l.length := by omega
   have h4 : 0 ≤ P := by
    rcases h with h | h | h
    ·cases h
    ·exact absurd h h3
    ·exact h
   simp -implicitDefEqProofs [c1, c2, h3, h3', h4]
theorem diff_By_ok (u : Nd) (t : Tre) (ht : t.ok) (hok : ∀ x ∈ t.flat, okN 6 6 0 x = true) (hl : t.flat.length ≤ 300) (hn : thin 1000 t.flat) (hu : u.n.length ≤ 1000) (h : unkB u = true) : callF T 12 [.sl (rowN t.flat) .an, .agg (celN u)] = some (.tup [.sl (rowN (derF u t)) .an, .b true]) := by
 have c1 := diff_right (T := T) u hu
 have c2 := check_place (T := T) t.flat 6 6 0 (by omega) hn
 rw [placeN_flat ht hok] at c2
 rw [h] at c1
 have c3 := diff_by (T := T) u t ht hok hn hl
 have c4 : callF T 48 [.i .i64 0] = some (.sl (rowN (kN 0)) .an) := diff_const (T := T) 0 (by decide)
 have h3 : ¬ (300 : Int) < t.flat.length := by omega
 rw [f12 _ rfl, b12]
 unfold derF
 generalize kN 0 = K at *
 generalize t.flat = code at *
 obtain ⟨op, i, n⟩ := u
 by_cases hz : t.der ⟨op, i, n⟩ = []
 ·rw [if_pos hz]
  rw [hz, dv_nil] at c3
  simp -implicitDefEqProofs [c1, c2, c3, c4, h3]
 ·rw [if_neg hz]
  have e := eqnil_row hz
  rw [dv_ne hz] at c3
  generalize t.der ⟨op, i, n⟩ = D at *
  simp -implicitDefEqProofs [-eqnilAV, e, c1, c2, c3, c4, h3]
theorem diff_free (u : Nd) (l : List Nd) (hl : l.length ≤ 4294967290) : callF T 18 [.sl (rowN l) .an, .agg (celN u)] = some (.b (freeB u l)) := by
 have hlo : loopN T 0 0 (.norm false []) l18_0 ⟨[(3, .ptr (.loc 3) 1 3 0 0), (7, .sl (rowN l) .an), (8, .i .i64 l.length), (9, .i .i64 ((0 : Nat) : Int))], [(.loc 3, ⟨1, .str, 3, [celN u]⟩)], 3⟩ =
   if ((l.drop 0).any fun x => decide (x.op = u.op) && decide (x.i = u.i)) = true then some (.r, ⟨[(4, .b false)], [], 2⟩) else some (.n, ⟨[], [], 2⟩) := by
  refine until_loop (fun i => ⟨[(3, .ptr (.loc 3) 1 3 0 0), (7, .sl (rowN l) .an), (8, .i .i64 l.length), (9, .i .i64 ((i : Nat) : Int))], [(.loc 3, ⟨1, .str, 3, [celN u]⟩)], 3⟩) l.length
   (fun i => if ((l.drop i).any fun x => decide (x.op = u.op) && decide (x.i = u.i)) = true then some (.r, _) else some (.n, _)) (fun i hi => ?_) ?_
  ·have hg : l[i]? = some (l[i]'hi) := List.getElem?_eq_getElem hi
   have hd : l.drop i = l[i]'hi :: l.drop (i + 1) := List.drop_eq_getElem_cons hi
   have hi' : (i : Int) < l.length := by omega
   have hws := wrapS hi (by omega)
   have ci := diff_is (T := T) (l[i]'hi) u
   rw [hd, List.any_cons]
   generalize hx : l[i]'hi = x at *
   clear hd
   generalize (decide (x.op = u.op) && decide (x.i = u.i)) = B at *
   obtain ⟨op, xi, n⟩ := x
   obtain ⟨uop, ui, un⟩ := u
   cases B with
   | true =>
    right
    simp only [Bool.true_or, if_true]
    constructor <;> simp -implicitDefEqProofs [l18_0, hi, hi', hg, hx, ci]
   | false =>
    left
    refine ⟨?_, by simp only [Bool.false_or]⟩
    simp -implicitDefEqProofs [l18_0, hi, hi', hg, hx, ci, hws]
  ·rw [List.drop_length]
   simp only [List.any_nil, Bool.false_eq_true, if_false]
   constructor <;> simp -implicitDefEqProofs [l18_0]
 rw [List.drop_zero] at hlo
 simp only [Int.natCast_zero] at hlo
 rw [f18 _ rfl, b18]
 unfold freeB
 generalize (l.any fun x => decide (x.op = u.op) && decide (x.i = u.i)) = B at *
 obtain ⟨uop, ui, un⟩ := u
 cases B with
 | true =>
  rw [if_pos rfl] at hlo
  simp -implicitDefEqProofs [hlo]
 | false =>
  rw [if_neg (by decide)] at hlo
  simp -implicitDefEqProofs [hlo]
variable [CRef23 T] [CRef17 T] [CRef02 T] [CRef04 T] [CRef05 T] [CRef07 T]
end
end Go.Ab
end

section
namespace Go.Ab
section
variable {T : Tbl} [CLimb T] [CNat T] [CText T] [CLenD T] [CTree T] [CDiff T] [CRef23 T] [CRef17 T] [CRef02 T] [CRef04 T] [CRef05 T] [CRef07 T] [CLaw17 T] [CLaw23 T]
theorem law23_to (u : Nd) : callF T 14 [.agg (celN u)] = some (.agg (celN u)) := by
 obtain ⟨op, i, n⟩ := u
 rw [f14 _ rfl, b14]
 simp -implicitDefEqProofs
theorem law23_works : callF T 11 [] = some (.b true) := by
 have c1 : callF T 12 [.sl [[.i .i64 2, .i .i64 0, .sl [] .an], [.i .i64 11, .i .i64 2, .sl [] .an]] .an, .agg [.i .i64 2, .i .i64 0, .sl [] .an]] = some (.tup [.sl (rowN (derF ⟨2, 0, []⟩ (.un ⟨11, 2, []⟩ (.leaf ⟨2, 0, []⟩)))) .an, .b true]) :=
  diff_By_ok (T := T) ⟨2, 0, []⟩ (.un ⟨11, 2, []⟩ (.leaf ⟨2, 0, []⟩)) ⟨rfl, rfl⟩ (by decide) (by decide) (by simp [thin, Tre.flat]) (by decide) (by decide)
 have c2 : callF T 12 [.sl [[.i .i64 3, .i .i64 0, .sl [] .an]] .an, .agg [.i .i64 2, .i .i64 0, .sl [] .an]] = some (.tup [.sl (rowN (kN 0)) .an, .b true]) :=
  diff_By_ok (T := T) ⟨2, 0, []⟩ (.leaf ⟨3, 0, []⟩) rfl (by decide) (by decide) (by simp [thin, Tre.flat]) (by decide) (by decide)
 have e2 : rowN (kN 0) = [[.i .i64 1, .i .i64 0, .sl [] .an]] := rfl
 rw [e2] at c2
 have hA : (derF ⟨2, 0, []⟩ (.un ⟨11, 2, []⟩ (.leaf ⟨2, 0, []⟩))).length = 6 := by decide
 have hW : wrongN (derF ⟨2, 0, []⟩ (.un ⟨11, 2, []⟩ (.leaf ⟨2, 0, []⟩))) = -1 := by decide
 generalize derF ⟨2, 0, []⟩ (.un ⟨11, 2, []⟩ (.leaf ⟨2, 0, []⟩)) = A at *
 have c3 := tree_right (T := T) A (by omega)
 rw [hW] at c3
 simp only [decide_true] at c3
 rw [f11 _ rfl, b11]
 simp -implicitDefEqProofs [c1, c2, c3, hA]
end
end Go.Ab
end

section
namespace Go.Ab
class CLaw11b (T : Tbl) : Prop where
end Go.Ab
end

section
namespace Go.Ab
class CRow2 (T : Tbl) : Prop where
end Go.Ab
end

section
namespace Go.Ab
class CFig (T : Tbl) : Prop where
end Go.Ab
end

section
namespace Go.Ab
def prim344 : List AV → Option AV
 | [.s s, .s [47, 46]] => if s.length ≤ 1000000 then some (.i .i64 (Lib.indexAny s [47, 46])) else none
 | _ => none
def prim194 : List AV → Option AV
 | [.s s, .s [c]] => some (.i .i64 (Lib.indexByte s c))
 | _ => none
def prim361 : List AV → Option AV
 | [.s s, .s [c]] => some (.i .i64 (Lib.countByte s c))
 | _ => none
def prim343 : List AV → Option AV
 | [.s [48], .i .i64 n] => if 0 ≤ n ∧ n ≤ 64 then some (.s (List.replicate n.toNat 48)) else none
 | _ => none
end Go.Ab
end

section
namespace Go.Ab
class CStr (T : Tbl) : Prop where
end Go.Ab
end

section
namespace Go.Ab
class CSplit (T : Tbl) : Prop where
end Go.Ab
end

section
namespace Go.Ab
def splitC (c : UInt8) : List UInt8 → List (List UInt8)
 | [] => [[]]
 | b :: l => if b = c then [] :: splitC c l else match splitC c l with
  | [] => [[b]]
  | p :: r => (b :: p) :: r
section
variable {T : Tbl} [CStr T] [CSplit T]
def stSp (c : UInt8) (N : Nat) (ps : List (List UInt8)) (s : List UInt8) : St :=
 ⟨[(0, .s s), (1, .s [c]), (2, .i .i64 0), (3, .i .i64 ((N : Int) - 1)), (9, .bs (.loc 31) 1 1 0 N), (10, .i .i64 ps.length)], [(.loc 31, ⟨1, .own, 1, rowsT ps ++ List.replicate (N - ps.length) [.s []]⟩)], 3⟩
end
end Go.Ab
end

section
namespace Go.Ab
abbrev flt (k a : Int) : AV := .agg [.i .i64 k, .i .i64 0, .i .i64 0, .i .i64 a]
def isCut (c : UInt8) : Bool := c == 47 || c == 46
def cutN : List UInt8 → Nat
 | [] => 0
 | c :: r => if isCut c then 0 else cutN r + 1
def figB (z : Int) (neg : Bool) (s : List UInt8) (c : UInt8) (at_ : Nat) : Rat × Int × Int :=
 let rest := s.drop at_
 if 0 ≤ wrongI rest then (0, 1, wrongI rest + at_)
 else if c = 47 then (if rd rest = 0 then (0, 2, at_) else (mkRat z (rd rest), 0, 0))
 else (mkRat (sg neg (z.natAbs * 10 ^ rest.length + rd rest)) (10 ^ rest.length), 0, 0)
def figR (s : List UInt8) : Rat × Int × Int :=
 let first := s.take (cutN s)
 if 0 ≤ wrongZ first then (0, 1, wrongZ first + minus first)
 else if cutN s < s.length then figB (readZ first) (s.head? = some 45) s (s.getD (cutN s) 0) (cutN s + 1)
 else (mkRat (readZ first) 1, 0, 0)
end Go.Ab
end

section
namespace Go.Ab
def readL : List (List UInt8) → Nat → List Rat → List Rat × Int × Int
 | [], _, acc => (acc, 0, 0)
 | w :: ws, k, acc => if (figR w).2.1 = 0 then readL ws (k + w.length + 1) (acc ++ [(figR w).1]) else ([], (figR w).2.1, (figR w).2.2 + k)
def rowR (s : List UInt8) : List Rat × Int × Int := if s = [] then ([], 0, 0) else readL (splitC 44 s) 0 []
section
variable {T : Tbl} [CLimb T] [CNat T] [CProd T] [CTwos T] [CQuot T] [CQuotD T] [CDigits T] [CText T] [CWhole T] [CCommon T] [CFrac T] [CFrac2 T] [CStr T] [CSplit T] [CPow T] [CFig T] [CJoin T] [CRow T] [CRow2 T]
def stRR (ws : List (List UInt8)) (y : Nat × Nat × List Rat) : St :=
 ⟨[(3, .ptr (.loc 3) 1 4 0 0), (4, .bs (.loc 4) 2 3 0 y.2.2.length), (5, .i .i64 y.2.1), (14, .sl (rowsT ws) .an), (15, .i .i64 ws.length), (16, .i .i64 y.1)],
  [(.loc 3, ⟨1, .str, 4, [[.i .i64 0, .i .i64 0, .i .i64 0, .i .i64 0]]⟩), (.loc 4, ⟨2, .own, 3, rowF (fzs y.2.2)⟩)], 4⟩
def resRR (r : List Rat × Int × Int) : Option (Ex × St) :=
 if r.2.1 = 0 then some (.n, ⟨[(3, .ptr (.loc 3) 1 4 0 0), (4, .bs (.loc 4) 2 3 0 r.1.length)], [(.loc 3, ⟨1, .str, 4, [[.i .i64 0, .i .i64 0, .i .i64 0, .i .i64 0]]⟩), (.loc 4, ⟨2, .own, 3, rowF (fzs r.1)⟩)], 4⟩)
 else some (.r, ⟨[(2, .sl [] .an), (3, .ptr (.loc 3) 1 4 0 0)], [(.loc 3, ⟨1, .str, 4, [[.i .i64 r.2.1, .i .i64 0, .i .i64 0, .i .i64 r.2.2]]⟩)], 3⟩)
end
end Go.Ab
end

section
namespace Go.Ab
end Go.Ab
end

section
namespace Go.Ab
theorem sg_pow (z : Int) : ∀ t : Nat, sg (decide (z < 0) && decide (t % 2 = 1)) (z.natAbs ^ t) = z ^ t
 | 0 => by simp [sg]
 | t + 1 => by
  have ih := sg_pow z t
  have hz : sg (decide (z < 0)) z.natAbs = z := by
   unfold sg
   by_cases h : z < 0
   ·simp only [h, decide_true, if_true]; omega
   ·simp only [h, decide_false, Bool.false_eq_true, if_false]; omega
  have hm := sg_mul (decide (z < 0) && decide (t % 2 = 1)) (decide (z < 0)) (z.natAbs ^ t) z.natAbs
  rw [ih, hz] at hm
  rw [Int.pow_succ, ← hm, Nat.pow_succ]
  congr 1
  rcases Nat.mod_two_eq_zero_or_one t with h | h
  ·have h2 : (t + 1) % 2 = 1 := by omega
   rw [h, h2]
   cases decide (z < 0) <;> rfl
  ·have h2 : (t + 1) % 2 = 0 := by omega
   rw [h, h2]
   cases decide (z < 0) <;> rfl
theorem pow_len {x L : Nat} (h : (ofN x).length ≤ L) : ∀ t : Nat, (ofN (x ^ t)).length ≤ t * L + 1
 | 0 => by rw [Nat.pow_zero, ofN_one]; simp
 | t + 1 => by
  have ih := pow_len h t
  have := nat_mul_len ih h
  rw [Nat.pow_succ, Nat.succ_mul]
  omega
section
variable {T : Tbl} [CLimb T] [CNat T] [CProd T] [CTwos T] [CQuot T] [CQuotD T] [CWhole T] [CCommon T] [CFrac T] [CFrac3 T]
def stPw (a : List UInt32) (k i : Nat) : St := ⟨[(0, .sl (u32s a) .an), (5, .sl (u32s (ofN (val a ^ i))) .an), (7, .i .i64 k), (8, .i .i64 i)], [], 2⟩
theorem frac_power (a : List UInt32) (k : Nat) (hk : k ≤ 8) (ha : a.length ≤ 1100) : callF T 219 [.sl (u32s a) .an, .i .i64 k] = some (.sl (u32s (ofN (val a ^ k))) .an) := by
 have h : loopN T 0 0 (.norm false [5]) l219_0 (stPw a k 0) = some (.n, ⟨[(5, .sl (u32s (ofN (val a ^ k))) .an)], [], 2⟩) := by
  refine range_loop (stPw a k) k _ (fun i hi => ?_) ?_
  ·have hl := pow_len (L := 1100) (Nat.le_trans (ofN_length_le a) ha) i
   have c := prod_mul (T := T) (ofN (val a ^ i)) a (by omega) (by omega)
   rw [val_ofN, ← Nat.pow_succ] at c
   have hw := wrapS hi (by omega)
   unfold stPw
   generalize ofN (val a ^ i) = M at *
   generalize ofN (val a ^ (i + 1)) = M' at *
   simp -implicitDefEqProofs [l219_0, hi, hw, c]
  ·unfold stPw
   generalize ofN (val a ^ k) = M at *
   constructor <;> simp -implicitDefEqProofs [l219_0]
 have ho := nat_of (T := T) 1 (by decide)
 unfold stPw at h
 rw [Nat.pow_zero] at h
 simp only [Int.natCast_zero] at h
 generalize ofN 1 = O at *
 rw [f219 _ rfl, b219]
 generalize ofN (val a ^ k) = M at *
 simp -implicitDefEqProofs [ho, h]
def powR (q : Rat) (e : Int) : Rat × Bool := if -8 ≤ e ∧ e ≤ 8 ∧ ¬ (e < 0 ∧ q = 0) then (powZ q e, true) else (0, false)
theorem fz_pow (q : Rat) (t : Nat) : fz (q ^ t) = (decide (q.num < 0) && decide (t % 2 = 1) && decide (q.num.natAbs ^ t ≠ 0), ofN (q.num.natAbs ^ t), ofN (q.den ^ t)) := by
 have h := sg_pow q.num t
 unfold fz
 rw [Rat.num_pow, Rat.den_pow, ← h, sg_neg, sg_abs]
theorem fz_powi (q : Rat) (t : Nat) (hq : q ≠ 0) : fz (q ^ t)⁻¹ = (decide (q.num < 0) && decide (t % 2 = 1) && decide (q.den ^ t ≠ 0), ofN (q.den ^ t), ofN (q.num.natAbs ^ t)) := by
 have h := sg_pow q.num t
 have hn : q.num ≠ 0 := fun h => hq (Rat.num_eq_zero.1 h)
 have hz : q.num ^ t ≠ 0 := Int.pow_ne_zero hn
 have hd : q.den ^ t ≠ 0 := Nat.pos_iff_ne_zero.1 (Nat.pow_pos q.den_pos)
 have ha : q.num.natAbs ^ t ≠ 0 := Nat.pos_iff_ne_zero.1 (Nat.pow_pos (Int.natAbs_pos.2 hn))
 have e1 : (q ^ t)⁻¹.num = (q.num ^ t).sign * ((q.den ^ t : Nat) : Int) := by rw [Rat.num_inv, Rat.num_pow, Rat.den_pow]
 have e2 : (q ^ t)⁻¹.den = q.num.natAbs ^ t := by rw [Rat.den_inv, Rat.num_pow, if_neg hz, Int.natAbs_pow]
 have e3 : ((q.num ^ t).sign * ((q.den ^ t : Nat) : Int)).natAbs = q.den ^ t := by
  rw [Int.natAbs_mul, Int.natAbs_sign_of_ne_zero hz, Nat.one_mul, Int.natAbs_natCast]
 have e4 : decide ((q.num ^ t).sign * ((q.den ^ t : Nat) : Int) < 0) = decide (q.num ^ t < 0) := by
  rw [decide_eq_decide]
  rcases Int.lt_trichotomy (q.num ^ t) 0 with h1 | h1 | h1
  ·rw [Int.sign_eq_neg_one_of_neg h1]
   constructor
   ·intro _; exact h1
   ·intro _; omega
  ·exact absurd h1 hz
  ·rw [Int.sign_eq_one_of_pos h1]
   constructor
   ·intro _; omega
   ·intro _; omega
 have e5 : decide (q.num ^ t < 0) = (decide (q.num < 0) && decide (t % 2 = 1)) := by
  rw [← h, sg_neg, decide_eq_true ha, Bool.and_true]
 unfold fz
 rw [e1, e2, e3, e4, e5, decide_eq_true hd, Bool.and_true]
theorem frac_pow (x : Fz) (e : Int) (hx : fsz x ≤ 1000) : callF T 220 [efz x, .i .i64 e] = some (.tup [efz (fz (powR (fv x) e).1), .b (powR (fv x) e).2]) := by
 have h0 := frac_of0 (T := T)
 have hsg := frac_sign (T := T) x (by omega)
 have hn := frac_norm (T := T) x (by omega)
 have hs := sz_fv (x := x) (L := 1000) hx (by decide)
 have l1 := sz_num (fv x)
 have l2 := sz_den (fv x)
 unfold powR
 rw [f220 _ rfl, b220]
 by_cases h1 : e < -8
 ·rw [if_neg (by omega)]
  generalize fz 0 = Z at *
  simp -implicitDefEqProofs [h0, h1]
 by_cases h2 : 8 < e
 ·rw [if_neg (by omega)]
  generalize fz 0 = Z at *
  simp -implicitDefEqProofs [h0, h1, h2]
 obtain ⟨q, hq⟩ : ∃ q, q = fv x := ⟨_, rfl⟩
 rw [← hq] at hsg hn hs l1 l2 ⊢
 clear hq
 have e' : fz q = (decide (q.num < 0), ofN q.num.natAbs, ofN q.den) := rfl
 rw [e'] at hn
 have hA : (ofN q.num.natAbs).length ≤ 1100 := by omega
 have hD : (ofN q.den).length ≤ 1100 := by omega
 have pA : ∀ k : Nat, k ≤ 8 → callF T 219 [.sl (u32s (ofN q.num.natAbs)) .an, .i .i64 k] = some (.sl (u32s (ofN (q.num.natAbs ^ k))) .an) := fun k hk => by
  have := frac_power (T := T) (ofN q.num.natAbs) k hk hA
  rwa [val_ofN] at this
 have pD : ∀ k : Nat, k ≤ 8 → callF T 219 [.sl (u32s (ofN q.den)) .an, .i .i64 k] = some (.sl (u32s (ofN (q.den ^ k))) .an) := fun k hk => by
  have := frac_power (T := T) (ofN q.den) k hk hD
  rwa [val_ofN] at this
 have lA : ∀ k : Nat, k ≤ 8 → (ofN (q.num.natAbs ^ k)).length ≤ 1000000 := fun k hk => by
  have := pow_len hA k
  have : k * 1100 ≤ 8 * 1100 := Nat.mul_le_mul_right _ hk
  omega
 have lD : ∀ k : Nat, k ≤ 8 → (ofN (q.den ^ k)).length ≤ 1000000 := fun k hk => by
  have := pow_len hD k
  have : k * 1100 ≤ 8 * 1100 := Nat.mul_le_mul_right _ hk
  omega
 have hodd : ∀ k : Nat, k ≤ 8 → (((k : Int).tmod 2) == 1) = decide (k % 2 = 1) := fun k hk => by
  have e : (k : Int).tmod 2 = ((k % 2 : Nat) : Int) := by rw [show (2 : Int) = ((2 : Nat) : Int) from rfl, ← Int.ofNat_tmod]
  rw [e, Bool.eq_iff_iff]
  simp
  omega
 by_cases h3 : e < 0
 case neg =>
  obtain ⟨n, rfl⟩ : ∃ n : Nat, e = n := ⟨e.toNat, by omega⟩
  have hn8 : n ≤ 8 := by omega
  rw [if_pos (by omega)]
  have hw : IntKind.wrap .i64 (-(n : Int)) = -(n : Int) := wrap_i64 _ (by omega)
  have cA := pA n hn8
  have cD := pD n hn8
  have ho := hodd n hn8
  have hnorm := whole_norm (T := T) (decide (q.num < 0) && decide (n % 2 = 1)) (ofN (q.num.natAbs ^ n)) (lA n hn8)
  rw [show wv (decide (q.num < 0) && decide (n % 2 = 1)) (ofN (q.num.natAbs ^ n)) = sg (decide (q.num < 0) && decide (n % 2 = 1)) (q.num.natAbs ^ n) by unfold wv; rw [val_ofN], ez_sg] at hnorm
  have hf := fz_pow q n
  have hz : powZ q (n : Int) = q ^ n := Rat.zpow_natCast q n
  simp only [hz]
  rw [hf]
  clear hf hz pA pD lA lD hodd hsg e'
  have h4 : ¬ (8 : Int) < n := by omega
  have h5 : ¬ ((n : Int) < -(n : Int)) := by omega
  have h6 : ¬ (n : Int) < 0 := by omega
  have h1' : ¬ (n : Int) < -8 := by omega
  generalize ofN (q.num.natAbs ^ n) = AP at *
  generalize ofN (q.den ^ n) = DP at *
  generalize decide (q.num.natAbs ^ n ≠ 0) = NZ at *
  generalize ofN q.num.natAbs = A at *
  generalize ofN q.den = D at *
  generalize decide (q.num < 0) = NG at *
  generalize decide (n % 2 = 1) = OD at *
  cases NG with
  | false =>
   simp only [Bool.false_and] at hnorm ⊢
   simp -implicitDefEqProofs [h0, hn, h4, h5, h6, h1', hw, mm2, cA, cD, ho, hnorm]
  | true =>
   simp only [Bool.true_and] at hnorm ⊢
   cases OD with
   | false => simp -implicitDefEqProofs [h0, hn, h4, h5, h6, h1', hw, mm2, cA, cD, ho, hnorm]
   | true => simp -implicitDefEqProofs [h0, hn, h4, h5, h6, h1', hw, mm2, cA, cD, ho, hnorm]
 by_cases h7 : q = 0
 ·rw [if_neg (by intro h; exact h.2.2 ⟨h3, h7⟩)]
  have hs0 : sgQ q = 0 := sgQ_zero.2 h7
  rw [hs0] at hsg
  generalize fz 0 = Z at *
  have h4 : ¬ (8 : Int) < e := by omega
  simp -implicitDefEqProofs [h0, h1, h4, h3, hsg]
 rw [if_pos (by refine ⟨by omega, by omega, fun h => h7 h.2⟩)]
 obtain ⟨n, rfl⟩ : ∃ n : Nat, e = -(n : Int) := ⟨(-e).toNat, by omega⟩
 have hn8 : n ≤ 8 := by omega
 have hsz : ¬ sgQ q = 0 := fun h => h7 (sgQ_zero.1 h)
 have hw : IntKind.wrap .i64 (n : Int) = (n : Int) := wrap_i64 _ (by omega)
 have cA := pA n hn8
 have cD := pD n hn8
 have ho := hodd n hn8
 have hnorm := whole_norm (T := T) (decide (q.num < 0) && decide (n % 2 = 1)) (ofN (q.den ^ n)) (lD n hn8)
 rw [show wv (decide (q.num < 0) && decide (n % 2 = 1)) (ofN (q.den ^ n)) = sg (decide (q.num < 0) && decide (n % 2 = 1)) (q.den ^ n) by unfold wv; rw [val_ofN], ez_sg] at hnorm
 have hf := fz_powi q n h7
 have hz : powZ q (-(n : Int)) = (q ^ n)⁻¹ := by unfold powZ; rw [Rat.zpow_neg, Rat.zpow_natCast]
 simp only [hz]
 rw [hf]
 clear hf hz pA pD lA lD hodd e'
 have h4 : ¬ (8 : Int) < -(n : Int) := by omega
 have h5 : (-(n : Int) < (n : Int)) := by omega
 have h1' : ¬ -(n : Int) < -8 := by omega
 have h6 : (n : Int) ≠ 0 := by omega
 have h6' : 0 < (n : Int) := by omega
 have h6'' : 0 < n := by omega
 have h1'' : ¬ 8 < n := by omega
 generalize ofN (q.num.natAbs ^ n) = AP at *
 generalize ofN (q.den ^ n) = DP at *
 generalize decide (q.den ^ n ≠ 0) = NZ at *
 generalize ofN q.num.natAbs = A at *
 generalize ofN q.den = D at *
 generalize decide (q.num < 0) = NG at *
 generalize decide (n % 2 = 1) = OD at *
 generalize sgQ q = SG at *
 cases NG with
 | false =>
  simp only [Bool.false_and] at hnorm ⊢
  simp -implicitDefEqProofs [h0, hn, h3, h4, h5, h6, h6', h6'', h1', h1'', hw, mm2, cA, cD, ho, hnorm, hsg, hsz]
 | true =>
  simp only [Bool.true_and] at hnorm ⊢
  cases OD with
  | false => simp -implicitDefEqProofs [h0, hn, h3, h4, h5, h6, h6', h6'', h1', h1'', hw, mm2, cA, cD, ho, hnorm, hsg, hsz]
  | true => simp -implicitDefEqProofs [h0, hn, h3, h4, h5, h6, h6', h6'', h1', h1'', hw, mm2, cA, cD, ho, hnorm, hsg, hsz]
end
end Go.Ab
end

section
namespace Go.Ab
@[simp] theorem ints_length (l : List Int) : (ints l).length = l.length := by simp [ints]
@[simp] theorem ints_wk (l : List Int) : wkL (ints l) = ints l := by rw [wkL_map]; simp [ints, wkR, wkA]
@[simp] theorem ints_get? (l : List Int) (i : Nat) : (ints l)[i]? = (l[i]?).map fun x => [.i .i64 x] := by simp [ints]
@[simp] theorem ints_get (l : List Int) (i : Nat) (h : i < (ints l).length) : (ints l)[i] = [.i .i64 (l[i]'(by simpa using h))] := by simp [ints]
@[simp] theorem ints_take (l : List Int) (n : Nat) : (ints l).take n = ints (l.take n) := by simp [ints]
@[simp] theorem ints_drop (l : List Int) (n : Nat) : (ints l).drop n = ints (l.drop n) := by simp [ints]
@[simp] theorem ints_nil : ints [] = [] := rfl
section
variable {T : Tbl} [CLimb T] [CNat T] [CProd T] [CTwos T] [CQuot T] [CQuotD T] [CWhole T] [CCommon T] [CFrac T] [CFrac3 T] [CTape T]
def stMy (t : Tp) (p : Nat) (x : Ins) (i : Nat) : St :=
 ⟨[(1, .i .i64 p), (2, .ptr (.loc 2) 1 4 0 0), (5, .ptr (.loc 5) 2 6 0 0), (30, .sl (ints (readsI x)) .an), (31, .i .i64 (readsI x).length), (32, .i .i64 i)],
  [(.loc 2, ⟨1, .str, 4, [[.sl (rowI t.code) .an, .sl (ints t.outs) .an, .i .i64 t.dim, .i .i64 t.par]]⟩), (.loc 5, ⟨2, .str, 6, [celI x]⟩)], 4⟩
end
end Go.Ab
end

section
namespace Go.Ab
section
variable {T : Tbl} [CLimb T] [CNat T] [CProd T] [CTwos T] [CQuot T] [CQuotD T] [CWhole T] [CCommon T] [CFrac T] [CFrac3 T] [CTape T]
structure Small (t : Tp) : Prop where
 code : t.code.length ≤ 4294967296
 outs : t.outs.length ≤ 4294967296
 ns : ∀ i ∈ t.code, fsz i.n ≤ 10000
 d1 : -9223372036854775808 ≤ t.dim
 d2 : t.dim < 9223372036854775808
def bxT (t : Tp) : Box := ⟨1, .str, 4, [[.sl (rowI t.code) .an, .sl (ints t.outs) .an, .i .i64 t.dim, .i .i64 t.par]]⟩
def stW1 (t : Tp) (i : Nat) : St := ⟨[(1, .ptr (.loc 1) 1 4 0 0), (11, .i .i64 t.code.length), (12, .i .i64 i)], [(.loc 1, bxT t)], 3⟩
def stW2 (t : Tp) (i : Nat) : St := ⟨[(1, .ptr (.loc 1) 1 4 0 0), (22, .sl (ints t.outs) .an), (23, .i .i64 t.outs.length), (24, .i .i64 i)], [(.loc 1, bxT t)], 3⟩
end
end Go.Ab
end

section
namespace Go.Ab
def limI (n : Int) : Int := if n < 0 then 0 else if 4096 < n then 4096 else n
abbrev bxG (g : Nat) (s p L : Int) : Box := ⟨g, .str, 3, [[.i .i64 s, .i .i64 p, .i .i64 L]]⟩
def cntS (s : Int) : Int := IntKind.wrap .i64 (s + 1)
def cntP (p : Int) (x : Fz) : Int := if p < (sizF x : Int) then (sizF x : Int) else p
section
variable {T : Tbl} [CLimb T] [CNat T] [CProd T] [CTwos T] [CQuot T] [CQuotD T] [CWhole T] [CCommon T] [CFrac T] [CFrac3 T] [CFrac5 T] [CPow T] [CTape T] [CGauge T] [CEval T]
theorem frac_size' (x : Fz) (hx : fsz x ≤ 10000) : callF T 223 [efz x] = some (.i .i64 (sizF x)) := by
 have h1 := fsz_a x
 have h2 := fsz_d x
 have c1 := twos_len (T := T) x.2.1 (by omega)
 have c2 := twos_len (T := T) x.2.2 (by omega)
 have b1 := blen_le' (x := val x.2.1) (k := 10000) (Nat.le_trans (ofN_length_le x.2.1) (by omega))
 have b2 := blen_le' (x := val x.2.2) (k := 10000) (Nat.le_trans (ofN_length_le x.2.2) (by omega))
 have w : IntKind.wrap .i64 ((blen (val x.2.1) : Int) + (blen (val x.2.2) : Int)) = ((sizF x : Nat) : Int) := by
  have e : ((sizF x : Nat) : Int) = (blen (val x.2.1) : Int) + (blen (val x.2.2) : Int) := by unfold sizF; omega
  rw [e]
  exact wrap_i64 _ (by omega)
 rw [f223 _ rfl, b223]
 generalize sizF x = S at *
 generalize blen (val x.2.1) = B1 at *
 generalize blen (val x.2.2) = B2 at *
 simp -implicitDefEqProofs [c1, c2, w]
theorem gauge_new (n : Int) : callH T 406 [.i .i64 n] [] = some (.ptr (.loc 7) 1 3 0 0, [(.loc 7, bxG 1 0 0 (limI n))]) := by
 unfold limI
 rw [f406 _ _ rfl, b406]
 by_cases h1 : n < 0
 ·simp -implicitDefEqProofs [h1, mm2]
 ·by_cases h2 : 4096 < n
  ·simp -implicitDefEqProofs [h1, h2, mm2]
  ·simp -implicitDefEqProofs [h1, h2, mm2]
theorem gauge_note (s p L k : Int) : callH T 426 [.ptr (.bor 0) 0 3 0 0, .i .i64 k] [(.bor 0, bxG 0 s p L)] = some (.tup [], [(.bor 0, bxG 0 (cntS s) (if p < k then k else p) L)]) := by
 unfold cntS
 rw [f426 _ _ rfl, b426]
 by_cases h1 : p < k
 ·simp -implicitDefEqProofs [h1, mm2]
 ·simp -implicitDefEqProofs [h1, mm2]
theorem gauge_take (s p L : Int) (x : Fz) (hx : fsz x ≤ 10000) : callH T 411 [.ptr (.bor 0) 0 3 0 0, efz x] [(.bor 0, bxG 0 s p L)] = some (.b (decide ((sizF x : Int) ≤ L)), [(.bor 0, bxG 0 (cntS s) (cntP p x) L)]) := by
 have h1 := frac_size' (T := T) x hx
 have h2 := gauge_note (T := T) s p L (sizF x)
 unfold cntP
 rw [f411 _ _ rfl, b411]
 generalize cntS s = s' at *
 generalize (if p < (sizF x : Int) then (sizF x : Int) else p) = p' at *
 generalize (sizF x : Int) = z at *
 simp -implicitDefEqProofs [h1, h2]
def stEn (l : List Fz) (i : Nat) : St := ⟨[(3, .bs (.loc 3) 1 3 0 i), (6, .sl (rowF l) .an), (7, .i .i64 l.length), (8, .i .i64 i)], [(.loc 3, ⟨1, .own, 3, rowF (nrm (l.take i))⟩)], 3⟩
theorem eval_norms (l : List Fz) (hl : l.length ≤ 1000) (hw : ∀ x ∈ l, fsz x ≤ 1000) : callF T 420 [.sl (rowF l) .an] = some (.sl (rowF (nrm l)) .an) := by
 have h : loopN T 0 0 (.norm false [3]) l420_0 (stEn l 0) = some (.n, ⟨[(3, .bs (.loc 3) 1 3 0 l.length)], [(.loc 3, ⟨1, .own, 3, rowF (nrm l)⟩)], 3⟩) := by
  refine range_loop (stEn l) l.length _ (fun i hi => ?_) ?_
  ·have hg : l[i]? = some (l[i]'hi) := List.getElem?_eq_getElem hi
   have hws := wrapS hi (by omega)
   have hn := frac_norm (T := T) (l[i]'hi) (Nat.le_trans (hw _ (List.getElem_mem hi)) (by decide))
   have e : nrm (l.take (i + 1)) = nrm (l.take i) ++ [fz (fv (l[i]'hi))] := take_map_succ l _ hi
   have hp := rowF_push (m := nrm (l.take i)) (n := i) (by simp [nrm]; omega) (fz (fv (l[i]'hi)))
   have hml : (nrm (l.take i)).length = i := by simp [nrm]; omega
   unfold stEn
   rw [e]
   clear e
   generalize nrm (l.take i) = M at *
   generalize fz (fv (l[i]'hi)) = z at *
   have hb : i ≤ 4294967295 := by omega
   simp -implicitDefEqProofs [l420_0, hi, hg, hws, hn, hp, hml, hb]
  ·unfold stEn
   rw [List.take_of_length_le (Nat.le_refl _)]
   generalize nrm l = M
   constructor <;> simp -implicitDefEqProofs [l420_0]
 unfold stEn at h
 simp [nrm] at h
 have ht : List.take l.length (List.map (fun x => fz (fv x)) l) = List.map (fun x => fz (fv x)) l := List.take_of_length_le (by simp)
 rw [f420 _ rfl, b420]
 simp -implicitDefEqProofs [h, nrm, ht]
structure PoS (x : PoF) (B : Nat) : Prop where
 t : fsz x.t ≤ B
 y : ∀ u ∈ x.y, fsz u ≤ B
 p : ∀ u ∈ x.p, fsz u ≤ B
 yl : x.y.length ≤ 1000
 pl : x.p.length ≤ 1000
theorem po_norm (x : PoF) : x.v.f = ⟨fz (fv x.t), nrm x.y, nrm x.p⟩ := by
 unfold PoF.v Po.f
 rw [fzs_nrm, fzs_nrm]
theorem eval_norm (x : PoF) (h : PoS x 1000) : callF T 405 [ept x] = some (ept x.v.f) := by
 have h1 := frac_norm (T := T) x.t (Nat.le_trans h.t (by decide))
 have h2 := eval_norms (T := T) x.y h.yl h.y
 have h3 := eval_norms (T := T) x.p h.pl h.p
 rw [po_norm]
 obtain ⟨t, y, p⟩ := x
 dsimp only at *
 rw [f405 _ rfl, b405]
 generalize fz (fv t) = t' at *
 generalize nrm y = y' at *
 generalize nrm p = p' at *
 simp -implicitDefEqProofs [h1, h2, h3]
end
end Go.Ab
end

section
namespace Go.Ab
def longT (t : Tp) (many words : Nat) : Bool := ((t.code.take many).any fun i => decide (words < fsz i.n)) || decide (many < t.code.length) || decide (many < t.outs.length)
def longP (x : PoF) (many words : Nat) : Bool := decide (words < fsz x.t) || longB x.y many words || longB x.p many words
theorem longP_false {x : PoF} {many words : Nat} (h : longP x many words = false) (hm : many ≤ 1000) : PoS x words := by
 unfold longP at h
 simp only [Bool.or_eq_false_iff, decide_eq_false_iff_not] at h
 obtain ⟨⟨h1, h2⟩, h3⟩ := h
 obtain ⟨a1, a2⟩ := longB_false h2
 obtain ⟨b1, b2⟩ := longB_false h3
 exact ⟨by omega, a2, b2, by omega, by omega⟩
section
variable {T : Tbl} [CRef02 T] [CRef04 T] [CRef05 T] [CRef07 T] [CRef06 T] [CRef08 T] [CRef09 T] [CRef11 T] [CLaw09 T] [CLaw11 T] [CLaw24 T]
def stLT (t : Tp) (many words i : Nat) : St := ⟨[(1, .i .i64 many), (2, .i .i64 words), (3, .ptr (.loc 3) 1 4 0 0), (7, .i .i64 i)], [(.loc 3, bxT t)], 3⟩
def enLT (t : Tp) (many : Nat) : Ex × St := (.n, ⟨[(1, .i .i64 many), (3, .ptr (.loc 3) 1 4 0 0)], [(.loc 3, bxT t)], 3⟩)
theorem ref21_long (x : PoF) (many words : Nat) (hm : many ≤ 1000) : callF T 380 [ept x, .i .i64 many, .i .i64 words] = some (.b (longP x many words)) := by
 have c1 := ref09_long (T := T) x.t words
 have c2 := ref11_longB (T := T) x.y many words hm
 have c3 := ref11_longB (T := T) x.p many words hm
 unfold longP
 generalize decide (words < fsz x.t) = B1 at *
 generalize longB x.y many words = B2 at *
 generalize longB x.p many words = B3 at *
 obtain ⟨⟨n, a, d⟩, y, p⟩ := x
 dsimp only at *
 rw [f380 _ rfl, b380]
 cases B1 <;> cases B2 <;> simp -implicitDefEqProofs [c1, c2, c3]
theorem law21_to (x : PoF) (hy : x.y.length ≤ 1000) (hp : x.p.length ≤ 1000) : callF T 383 [ept x] = some (ept x) := by
 have c1 := law09_to (T := T) x.t
 have c2 := law11_to (T := T) x.y (by omega)
 have c3 := law11_to (T := T) x.p (by omega)
 obtain ⟨⟨n, a, d⟩, y, p⟩ := x
 dsimp only at *
 rw [f383 _ rfl, b383]
 simp -implicitDefEqProofs [c1, c2, c3]
@[simp] theorem ints_hd (l : List Int) : Option.all (fun r => decide (r.length = 1)) (ints l).head? = true := by cases l <;> rfl
def fC : BId := .fld (.loc 3) 0
def stTT (t : Tp) (i : Nat) : St := ⟨[(1, .ptr (.loc 1) 1 4 0 0), (2, .ptr (.loc 2) 2 4 0 0), (3, .ptr (.loc 3) 3 4 0 0), (4, .i .i64 i)],
 [(.loc 1, bxT t), (.loc 2, ⟨2, .str, 4, [[.sl [] .an, .sl [] .an, .i .i64 0, .i .i64 0]]⟩), (.loc 3, ⟨3, .str, 4, [[.bs fC 4 6 0 i, .bs (.loc 13) 5 1 0 t.outs.length, .i .i64 t.dim, .i .i64 t.par]]⟩), (fC, ⟨4, .own, 6, rowI (t.code.take i)⟩), (.loc 13, ⟨5, .own, 1, ints t.outs⟩)], 7⟩
end
end Go.Ab
end

section
namespace Go.Ab
def b441 : AX :=
 (.seq
 (.reg [rg 3 (.xop (.box 1) [(.t 0)]), rg 4 (.xop (.box 3) [(.t 1)]), rg 5 (.xop (.box 3) [(.t 2)]), rg 6 (.alloc [(.b false), (.sl [] .nl), (.sl [] .nl)])])
 (.seq
 (.reg [rg 7 (.load (some 3) (.t 4)), rg 8 (.load (some 3) (.t 5)), rg 9 (.call 215 [(.t 7), (.t 8)]), so (.store 3 (.t 6) (.t 9))])
 (.pre (.norm false [6]) .ret)))
def b443 : AX :=
 (.seq
 (.reg [rg 3 (.xop (.box 1) [(.t 0)]), rg 4 (.xop (.box 3) [(.t 1)]), rg 5 (.xop (.box 3) [(.t 2)]), rg 6 (.alloc [(.b false), (.sl [] .nl), (.sl [] .nl)])])
 (.seq
 (.reg [rg 7 (.load (some 3) (.t 4)), rg 8 (.load (some 3) (.t 5)), rg 9 (.call 217 [(.t 7), (.t 8)]), so (.store 3 (.t 6) (.t 9))])
 (.pre (.norm false [6]) .ret)))
def b444 : AX :=
 (.seq
 (.reg [rg 2 (.xop (.box 1) [(.t 0)]), rg 3 (.xop (.box 3) [(.t 1)]), rg 4 (.alloc [(.b false), (.sl [] .nl), (.sl [] .nl)])])
 (.seq
 (.reg [rg 5 (.load (some 3) (.t 3)), rg 6 (.call 213 [(.t 5)]), so (.store 3 (.t 4) (.t 6))])
 (.pre (.norm false [4]) .ret)))
def b445 : AX :=
 (.seq
 (.reg [rg 2 (.xop (.box 1) [(.t 0)]), rg 3 (.xop (.box 3) [(.t 1)]), rg 4 (.alloc [(.b false), (.sl [] .nl), (.sl [] .nl)])])
 (.seq
 (.reg [rg 5 (.load (some 3) (.t 3)), rg 6 (.call 207 [(.t 5)]), so (.store 3 (.t 4) (.t 6))])
 (.pre (.norm false [4]) .ret)))
def b446 : AX :=
 (.seq
 (.reg [rg 3 (.xop (.box 1) [(.t 0)]), rg 4 (.xop (.box 3) [(.t 1)]), rg 6 (.alloc [(.b false), (.sl [] .nl), (.sl [] .nl)]), rg 7 (.mov (.c (.b false)))])
 (.seq
 (.reg [rg 8 (.load (some 3) (.t 4)), mv 9 2, rg 10 (.call 220 [(.t 8), (.t 9)]), rg 11 (.ext (.t 10) 0), rg 12 (.ext (.t 10) 1), so (.store 3 (.t 6) (.t 11)),
 mv 7 12])
 (.pre (.norm false [6, 7]) .ret)))
def b447 : AX :=
 (.seq
 (.reg [rg 3 (.xop (.box 1) [(.t 0)]), rg 4 (.xop (.box 3) [(.t 1)]), rg 5 (.xop (.box 3) [(.t 2)]), rg 6 (.alloc [(.b false), (.sl [] .nl), (.sl [] .nl)]),
 rg 7 (.mov (.c (.b false)))])
 (.seq
 (.reg [rg 8 (.load (some 3) (.t 4)), rg 9 (.load (some 3) (.t 5)), rg 10 (.call 218 [(.t 8), (.t 9)]), rg 11 (.ext (.t 10) 0), rg 12 (.ext (.t 10) 1),
 so (.store 3 (.t 6) (.t 11)), mv 7 12])
 (.pre (.norm false [6, 7]) .ret)))
def b448 : AX :=
 (.seq
 (.reg [rg 3 (.xop (.box 1) [(.t 0)]), rg 4 (.xop (.box 3) [(.t 1)]), rg 5 (.xop (.box 3) [(.t 2)]), rg 6 (.alloc [(.b false), (.sl [] .nl), (.sl [] .nl)])])
 (.seq
 (.reg [rg 7 (.load (some 3) (.t 4)), rg 8 (.load (some 3) (.t 5)), rg 9 (.call 216 [(.t 7), (.t 8)]), so (.store 3 (.t 6) (.t 9))])
 (.pre (.norm false [6]) .ret)))
class CRun (T : Tbl) : Prop where
 h441 : T 441 = some ⟨3, 10, [.cell 6 (some 3)], b441, none, false⟩
 h443 : T 443 = some ⟨3, 10, [.cell 6 (some 3)], b443, none, false⟩
 h444 : T 444 = some ⟨2, 7, [.cell 4 (some 3)], b444, none, false⟩
 h445 : T 445 = some ⟨2, 7, [.cell 4 (some 3)], b445, none, false⟩
 h446 : T 446 = some ⟨3, 13, [.cell 6 (some 3), .t 7], b446, none, false⟩
 h447 : T 447 = some ⟨3, 13, [.cell 6 (some 3), .t 7], b447, none, false⟩
 h448 : T 448 = some ⟨3, 10, [.cell 6 (some 3)], b448, none, false⟩
section
variable {T : Tbl} [CRun T] {d : Option Nat} {st : St} {xs : List AV} {ps : List Opd} {e : Env} {h : Heap} {ol : List Heap}
@[simp] theorem z441 (xs : List AV) : dI T 441 xs = dR (callF T 441 (xs.map (wkIf false))) xs := dI_eq CRun.h441
@[simp] theorem z443 (xs : List AV) : dI T 443 xs = dR (callF T 443 (xs.map (wkIf false))) xs := dI_eq CRun.h443
@[simp] theorem z444 (xs : List AV) : dI T 444 xs = dR (callF T 444 (xs.map (wkIf false))) xs := dI_eq CRun.h444
@[simp] theorem z445 (xs : List AV) : dI T 445 xs = dR (callF T 445 (xs.map (wkIf false))) xs := dI_eq CRun.h445
@[simp] theorem z446 (xs : List AV) : dI T 446 xs = dR (callF T 446 (xs.map (wkIf false))) xs := dI_eq CRun.h446
@[simp] theorem z447 (xs : List AV) : dI T 447 xs = dR (callF T 447 (xs.map (wkIf false))) xs := dI_eq CRun.h447
@[simp] theorem z448 (xs : List AV) : dI T 448 xs = dR (callF T 448 (xs.map (wkIf false))) xs := dI_eq CRun.h448
end
end Go.Ab
end

section
namespace Go.Ab
def meths1 : List RV := [.cell 1 (some 445), .cell 2 (some 444), .cell 3 (some 441), .cell 4 (some 448), .cell 5 (some 443), .cell 6 (some 447), .cell 7 (some 446), .cell 8 (some 442)]
class CIfc (T : Tbl) : Prop where
 h1 : ∃ t, T 1000001 = some ⟨t, 0, meths1, .bad, none, false⟩
section
variable {T : Tbl} [CIfc T]
theorem meths_1 (x : String × Nat) : x ∈ methsT T 1 ↔ x ∈ [("Of", 445), ("Neg", 444), ("Add", 441), ("Sub", 448), ("Mul", 443), ("Quo", 447), ("Pow", 446), ("Fits", 442)] := by
 obtain ⟨t, ht⟩ := CIfc.h1 (T := T)
 rw [meths_eq ht]
 rfl
@[simp] theorem m1_of : (("Of", 445) ∈ methsT T 1) = True := by simp [meths_1]
@[simp] theorem m1_neg : (("Neg", 444) ∈ methsT T 1) = True := by simp [meths_1]
@[simp] theorem m1_add : (("Add", 441) ∈ methsT T 1) = True := by simp [meths_1]
@[simp] theorem m1_sub : (("Sub", 448) ∈ methsT T 1) = True := by simp [meths_1]
@[simp] theorem m1_mul : (("Mul", 443) ∈ methsT T 1) = True := by simp [meths_1]
@[simp] theorem m1_quo : (("Quo", 447) ∈ methsT T 1) = True := by simp [meths_1]
@[simp] theorem m1_pow : (("Pow", 446) ∈ methsT T 1) = True := by simp [meths_1]
@[simp] theorem m1_fits : (("Fits", 442) ∈ methsT T 1) = True := by simp [meths_1]
end
end Go.Ab
end

section
namespace Go.Ab
abbrev mD : AV := .agg [.dead]
section
variable {T : Tbl} [CLimb T] [CNat T] [CProd T] [CTwos T] [CQuot T] [CQuotD T] [CWhole T] [CCommon T] [CFrac T] [CFrac3 T] [CFrac5 T] [CPow T] [CTape T] [CGauge T] [CEval T] [CRun T] [CIfc T]
theorem gI_get {D : List Rat} {a : Int} (h : 0 ≤ a ∧ a < D.length) : ∃ k : Nat, a = k ∧ (k : Int) < D.length ∧ k < D.length ∧ (fzs D)[k]? = some (fz (gI D a)) := by
 obtain ⟨k, rfl⟩ : ∃ k : Nat, a = k := ⟨a.toNat, by omega⟩
 have hk : k < D.length := by omega
 refine ⟨k, rfl, by omega, hk, ?_⟩
 have e : gI D (k : Int) = D[k]'hk := by simp [gI, List.getD, List.getElem?_eq_getElem hk]
 rw [e]
 exact fzs_get (List.getElem?_eq_getElem hk)
theorem gI_sz {D : List Rat} {a : Int} {B : Nat} (hB : 1 ≤ B) (h : ∀ q ∈ D, sz q ≤ B) : sz (gI D a) ≤ B := by
 unfold gI List.getD
 cases hx : D[a.toNat]? with
 | none => exact Nat.le_trans (Nat.le_of_eq sz_zero) hB
 | some q => exact h q (List.mem_of_getElem? hx)
end
end Go.Ab
end

section
namespace Go.Ab
theorem blen_len {n b : Nat} (h : blen n ≤ b) : (ofN n).length ≤ b / 32 + 1 := by
 refine ofN_length_le' ?_
 unfold blen at h
 split at h
 ·rename_i h0
  subst h0
  exact Nat.pow_pos (by decide)
 ·rename_i h0
  have h1 : n < 2 ^ (n.log2 + 1) := (Nat.log2_lt h0).1 (Nat.lt_succ_self _)
  have h3 : (4294967296 : Nat) ^ (b / 32 + 1) = 2 ^ (32 * (b / 32 + 1)) := by rw [Nat.pow_mul]
  have h2 : 2 ^ (n.log2 + 1) ≤ 2 ^ (32 * (b / 32 + 1)) := Nat.pow_le_pow_right (by decide) (by omega)
  omega
theorem sizQ_sz {q : Rat} {b : Nat} (h : sizQ q ≤ b) : sz q ≤ b / 32 + 1 := by
 unfold sizQ sizF fz at h
 rw [val_ofN, val_ofN] at h
 exact Nat.max_le.2 ⟨blen_len (Nat.le_trans (Nat.le_add_right _ _) h), blen_len (Nat.le_trans (Nat.le_add_left _ _) h)⟩
theorem sz_pow (q : Rat) (n : Nat) : sz (q ^ n) ≤ n * sz q + 1 := by
 unfold sz
 rw [Rat.num_pow, Rat.den_pow, Int.natAbs_pow]
 exact Nat.max_le.2 ⟨pow_len (Nat.le_max_left _ _) n, pow_len (Nat.le_max_right _ _) n⟩
theorem powZ_sz {q : Rat} {e : Int} {B : Nat} (hq : sz q ≤ B) (h1 : -8 ≤ e) (h2 : e ≤ 8) : sz (powZ q e) ≤ 8 * B + 1 := by
 unfold powZ
 rcases Int.le_total 0 e with h | h
 ·obtain ⟨n, rfl⟩ : ∃ n : Nat, e = n := ⟨e.toNat, by omega⟩
  rw [Rat.zpow_natCast]
  have := sz_pow q n
  have h3 : n * sz q ≤ 8 * B := Nat.mul_le_mul (by omega) hq
  omega
 ·obtain ⟨n, rfl⟩ : ∃ n : Nat, e = -(n : Int) := ⟨(-e).toNat, by omega⟩
  rw [Rat.zpow_neg, Rat.zpow_natCast]
  have := sz_pow q n
  have h3 : n * sz q ≤ 8 * B := Nat.mul_le_mul (by omega) hq
  have := sz_inv (q ^ n)
  omega
structure PvS (P : Po) (B : Nat) : Prop where
 t : sz P.t ≤ B
 y : ∀ q ∈ P.y, sz q ≤ B
 p : ∀ q ∈ P.p, sz q ≤ B
def runG (lim : Nat) (P : Po) : List Ins → List Rat → Int → Int → Int × Int
 | [], _, s, p => (s, p)
 | i :: r, D, s, p => if (valI P D i).2 = false then (s, p) else if lim < sizQ (valI P D i).1 then (cntS s, cntP p (fz (valI P D i).1)) else runG lim P r (D ++ [(valI P D i).1]) (cntS s) (cntP p (fz (valI P D i).1))
abbrev bxM : Box := ⟨3, .str, 1, [[.ptr (.bor 0) 0 3 0 0]]⟩
abbrev bxP (g : Nat) (x : PoF) : Box := ⟨g, .str, 5, [[.b x.t.1, .sl (u32s x.t.2.1) .an, .sl (u32s x.t.2.2) .an, .sl (rowF x.y) .an, .sl (rowF x.p) .an]]⟩
abbrev bxF (g : Nat) (a b c d : Int) : Box := ⟨g, .str, 4, [[.i .i64 a, .i .i64 b, .i .i64 c, .i .i64 d]]⟩
def stRun (Q : PoF) (L : Int) (code : List Ins) (i : Nat) (D : List Fz) (s p : Int) (kd : Kind) : St :=
 ⟨[(3, .ptr (.loc 3) 3 1 0 0), (5, .ptr (.loc 5) 4 5 0 0), (7, .ptr (.loc 7) 5 4 0 0), (8, .bs (.loc 8) 6 3 0 i), (34, .sl (rowI code) .an), (35, .i .i64 code.length), (36, .i .i64 i)],
  [(.bor 0, bxG 0 s p L), (.loc 3, bxM), (.loc 5, bxP 4 Q), (.loc 7, bxF 5 0 0 0 0), (.loc 8, ⟨6, kd, 3, rowF D⟩)], 8⟩
def endN (n : Nat) (D : List Fz) (s p L : Int) (kd : Kind) : Ex × St := (.n, ⟨[(7, .ptr (.loc 7) 3 4 0 0), (8, .bs (.loc 8) 4 3 0 n)], [(.bor 0, bxG 0 s p L), (.loc 7, bxF 3 0 0 0 0), (.loc 8, ⟨4, kd, 3, rowF D⟩)], 6⟩)
def endR (kind at_ s p L : Int) : Ex × St := (.r, ⟨[(6, .sl [] .an), (7, .ptr (.loc 7) 3 4 0 0)], [(.bor 0, bxG 0 s p L), (.loc 7, bxF 3 kind 0 0 at_)], 5⟩)
section
variable {T : Tbl} [CLimb T] [CNat T] [CProd T] [CTwos T] [CQuot T] [CQuotD T] [CWhole T] [CCommon T] [CFrac T] [CFrac3 T] [CFrac5 T] [CPow T] [CTape T] [CGauge T] [CEval T] [CRun T] [CIfc T]
def kdE (kd : Kind) (l : List Ins) : Kind := if l = [] then kd else .sh
def endRun (lim : Nat) (P : Po) (code l : List Ins) (D : List Rat) (s p : Int) (kd : Kind) : Ex × St :=
 if (runR lim P l D).2.1 = 0 then endN code.length (fzs (runR lim P l D).1) (runG lim P l D s p).1 (runG lim P l D s p).2 lim (kdE kd l)
 else endR (runR lim P l D).2.1 (runR lim P l D).2.2 (runG lim P l D s p).1 (runG lim P l D s p).2 lim
end
end Go.Ab
end

section
namespace Go.Ab
def leafV (P : Po) (ls : List Rat) (x : Nd) : Rat := if x.op = 1 then ((val x.n : Nat) : Rat) else if x.op = 3 then gI P.y x.i else if x.op = 4 then gI P.p x.i else if x.op = 5 then gI ls x.i else P.t
def unV (x : Nd) (a : Rat) : Rat × Bool := if x.op = 6 then (-a, true) else powR a x.i
def biV (op : Int) (a b : Rat) : Rat × Bool := if op = 7 then (a + b, true) else if op = 8 then (a - b, true) else if op = 9 then (a * b, true) else (a / b, decide (b ≠ 0))
def finV (lim : Nat) (v : Rat × Bool) (i : Nat) : Rat × Nat × Nat := if v.2 = false then (0, 3, i) else if lim < sizQ v.1 then (0, 6, i) else (v.1, 0, 0)
def stepV (P : Po) (ls : List Rat) (s : List Rat) (x : Nd) : (Rat × Bool) × List Rat :=
 if arN x.op = 0 then ((leafV P ls x, true), s) else if arN x.op = 1 then (unV x (s.headD 0), s.tail) else (biV x.op (s.tail.headD 0) (s.headD 0), s.tail.tail)
def walkR (lim : Nat) (P : Po) (ls : List Rat) : Nat → List Rat → List Nd → Rat × Nat × Nat
 | _, s, [] => (s.headD 0, 0, 0)
 | i, s, x :: r => if (finV lim (stepV P ls s x).1 i).2.1 ≠ 0 then finV lim (stepV P ls s x).1 i else walkR lim P ls (i + 1) ((stepV P ls s x).1.1 :: (stepV P ls s x).2) r
def evT (lim : Nat) (P : Po) (ls : List Rat) : Tre → Nat → Rat × Nat × Nat
 | .leaf x, i => finV lim (leafV P ls x, true) i
 | .un x a, i => if (evT lim P ls a i).2.1 ≠ 0 then evT lim P ls a i else finV lim (unV x (evT lim P ls a i).1) (i + a.flat.length)
 | .bin x a b, i => if (evT lim P ls a i).2.1 ≠ 0 then evT lim P ls a i else if (evT lim P ls b (i + a.flat.length)).2.1 ≠ 0 then evT lim P ls b (i + a.flat.length)
   else finV lim (biV x.op (evT lim P ls a i).1 (evT lim P ls b (i + a.flat.length)).1) (i + a.flat.length + b.flat.length)
theorem finV_ok {lim : Nat} {v : Rat × Bool} {i : Nat} (h : (finV lim v i).2.1 = 0) : v.2 = true ∧ sizQ v.1 ≤ lim ∧ finV lim v i = (v.1, 0, 0) := by
 unfold finV at h ⊢
 by_cases h1 : v.2 = false
 ·rw [if_pos h1] at h; exact absurd h (by simp)
 ·rw [if_neg h1] at h ⊢
  by_cases h2 : lim < sizQ v.1
  ·rw [if_pos h2] at h; exact absurd h (by simp)
  ·rw [if_neg h2]
   exact ⟨by simpa using h1, by omega, rfl⟩
theorem finV_kind (lim : Nat) (v : Rat × Bool) (i : Nat) : (finV lim v i).2.1 = 0 ∨ (finV lim v i).2.1 = 3 ∨ (finV lim v i).2.1 = 6 := by
 unfold finV
 split
 ·exact .inr (.inl rfl)
 ·split
  ·exact .inr (.inr rfl)
  ·exact .inl rfl
theorem finV_stop {lim : Nat} {v : Rat × Bool} {i : Nat} (h : (finV lim v i).2.1 ≠ 0) : (finV lim v i).1 = 0 ∧ (finV lim v i).2.2 = i := by
 unfold finV at h ⊢
 split
 ·exact ⟨rfl, rfl⟩
 ·next h1 =>
  rw [if_neg h1] at h
  split
  ·exact ⟨rfl, rfl⟩
  ·next h2 =>
   rw [if_neg h2] at h
   exact absurd rfl h
theorem walk_flat (lim : Nat) (P : Po) (ls : List Rat) : ∀ (t : Tre), t.ok → ∀ (i : Nat) (s : List Rat) (r : List Nd), walkR lim P ls i s (t.flat ++ r) = if (evT lim P ls t i).2.1 ≠ 0 then evT lim P ls t i else walkR lim P ls (i + t.flat.length) ((evT lim P ls t i).1 :: s) r
 | .leaf x, h, i, s, r => by
  have e : arN x.op = 0 := h
  show walkR lim P ls i s (x :: r) = _
  have es : stepV P ls s x = ((leafV P ls x, true), s) := by unfold stepV; rw [if_pos e]
  rw [walkR, es]
  show (if (finV lim (leafV P ls x, true) i).2.1 ≠ 0 then _ else _) = if (finV lim (leafV P ls x, true) i).2.1 ≠ 0 then finV lim (leafV P ls x, true) i else _
  by_cases hk : (finV lim (leafV P ls x, true) i).2.1 = 0
  ·rw [if_neg (by simpa using hk), if_neg (by simpa using hk)]
   have := (finV_ok hk).2.2
   show walkR lim P ls (i + 1) (leafV P ls x :: s) r = walkR lim P ls (i + 1) ((finV lim (leafV P ls x, true) i).1 :: s) r
   rw [this]
  ·rw [if_pos hk, if_pos hk]
 | .un x a, h, i, s, r => by
  have e : arN x.op = 1 := h.1
  rw [Tre.flat, List.append_assoc, walk_flat lim P ls a h.2]
  by_cases ha : (evT lim P ls a i).2.1 = 0
  ·rw [if_neg (by simpa using ha)]
   have ee : evT lim P ls (.un x a) i = finV lim (unV x (evT lim P ls a i).1) (i + a.flat.length) := by show (if _ then _ else _) = _; rw [if_neg (by simpa using ha)]
   rw [ee]
   show walkR lim P ls (i + a.flat.length) ((evT lim P ls a i).1 :: s) (x :: r) = _
   have es : stepV P ls ((evT lim P ls a i).1 :: s) x = (unV x (evT lim P ls a i).1, s) := by unfold stepV; rw [if_neg (by omega), if_pos e]; rfl
   rw [walkR, es]
   by_cases hk : (finV lim (unV x (evT lim P ls a i).1) (i + a.flat.length)).2.1 = 0
   ·rw [if_neg (by simpa using hk), if_neg (by simpa using hk), (finV_ok hk).2.2, List.length_append]
    rfl
   ·rw [if_pos hk, if_pos hk]
  ·rw [if_pos ha]
   have ee : evT lim P ls (.un x a) i = evT lim P ls a i := by show (if _ then _ else _) = _; rw [if_pos ha]
   rw [ee, if_pos ha]
 | .bin x a b, h, i, s, r => by
  have e : arN x.op = 2 := h.1
  rw [Tre.flat, List.append_assoc, walk_flat lim P ls a h.2.1]
  by_cases ha : (evT lim P ls a i).2.1 = 0
  ·rw [if_neg (by simpa using ha), List.append_assoc, walk_flat lim P ls b h.2.2]
   by_cases hb : (evT lim P ls b (i + a.flat.length)).2.1 = 0
   ·rw [if_neg (by simpa using hb)]
    have ee : evT lim P ls (.bin x a b) i = finV lim (biV x.op (evT lim P ls a i).1 (evT lim P ls b (i + a.flat.length)).1) (i + a.flat.length + b.flat.length) := by
     show (if _ then _ else _) = _; rw [if_neg (by simpa using ha), if_neg (by simpa using hb)]
    rw [ee]
    show walkR lim P ls (i + a.flat.length + b.flat.length) ((evT lim P ls b (i + a.flat.length)).1 :: (evT lim P ls a i).1 :: s) (x :: r) = _
    have es : stepV P ls ((evT lim P ls b (i + a.flat.length)).1 :: (evT lim P ls a i).1 :: s) x = (biV x.op (evT lim P ls a i).1 (evT lim P ls b (i + a.flat.length)).1, s) := by
     unfold stepV; rw [if_neg (by omega), if_neg (by omega)]; rfl
    rw [walkR, es]
    by_cases hk : (finV lim (biV x.op (evT lim P ls a i).1 (evT lim P ls b (i + a.flat.length)).1) (i + a.flat.length + b.flat.length)).2.1 = 0
    ·rw [if_neg (by simpa using hk), if_neg (by simpa using hk), (finV_ok hk).2.2, List.length_append, List.length_append]
     simp only [Nat.add_assoc]
     rfl
    ·rw [if_pos hk, if_pos hk]
   ·rw [if_pos hb]
    have ee : evT lim P ls (.bin x a b) i = evT lim P ls b (i + a.flat.length) := by show (if _ then _ else _) = _; rw [if_neg (by simpa using ha), if_pos hb]
    rw [ee, if_pos hb]
  ·rw [if_pos ha]
   have ee : evT lim P ls (.bin x a b) i = evT lim P ls a i := by show (if _ then _ else _) = _; rw [if_pos ha]
   rw [ee, if_pos ha]
theorem evT_kind (lim : Nat) (P : Po) (ls : List Rat) : ∀ (t : Tre) (i : Nat), (evT lim P ls t i).2.1 = 0 ∨ (evT lim P ls t i).2.1 = 3 ∨ (evT lim P ls t i).2.1 = 6
 | .leaf x, i => finV_kind _ _ _
 | .un x a, i => by
  unfold evT
  split
  ·exact evT_kind lim P ls a i
  ·exact finV_kind _ _ _
 | .bin x a b, i => by
  unfold evT
  split
  ·exact evT_kind lim P ls a i
  ·split
   ·exact evT_kind lim P ls b _
   ·exact finV_kind _ _ _
theorem evT_ok {lim : Nat} {P : Po} {ls : List Rat} : ∀ {t : Tre} {i : Nat}, (evT lim P ls t i).2.1 = 0 → (evT lim P ls t i).2.2 = 0 ∧ sizQ (evT lim P ls t i).1 ≤ lim
 | .leaf x, i, h => by
  have := finV_ok (show (finV lim (leafV P ls x, true) i).2.1 = 0 from h)
  show (finV lim (leafV P ls x, true) i).2.2 = 0 ∧ sizQ (finV lim (leafV P ls x, true) i).1 ≤ lim
  rw [this.2.2]; exact ⟨rfl, this.2.1⟩
 | .un x a, i, h => by
  unfold evT at h ⊢
  split
  ·next ha => rw [if_pos ha] at h; exact absurd h ha
  ·next ha =>
   rw [if_neg ha] at h
   have := finV_ok h
   rw [this.2.2]; exact ⟨rfl, this.2.1⟩
 | .bin x a b, i, h => by
  unfold evT at h ⊢
  split
  ·next ha => rw [if_pos ha] at h; exact absurd h ha
  ·next ha =>
   rw [if_neg ha] at h
   split
   ·next hb => rw [if_pos hb] at h; exact absurd h hb
   ·next hb =>
    rw [if_neg hb] at h
    have := finV_ok h
    rw [this.2.2]; exact ⟨rfl, this.2.1⟩
theorem walk_tree (lim : Nat) (P : Po) (ls : List Rat) (t : Tre) (h : t.ok) (i : Nat) : walkR lim P ls i [] t.flat = evT lim P ls t i := by
 have := walk_flat lim P ls t h i [] []
 rw [List.append_nil] at this
 rw [this]
 by_cases hk : (evT lim P ls t i).2.1 = 0
 ·rw [if_neg (by simpa using hk)]
  show ((evT lim P ls t i).1, 0, 0) = _
  have := (evT_ok hk).1
  exact Prod.ext rfl (Prod.ext hk.symm this.symm)
 ·rw [if_pos hk]
theorem leafV_sz {P : Po} {ls : List Rat} {x : Nd} (hP : PvS P 1000) (hls : ∀ q ∈ ls, sz q ≤ 1000) (hx : x.n.length ≤ 1000) : sz (leafV P ls x) ≤ 1000 := by
 unfold leafV
 split
 ·unfold sz
  have h1 := ofN_length_le x.n
  have e1 : ((val x.n : Nat) : Rat).num.natAbs = val x.n := by simp
  have e2 : ((val x.n : Nat) : Rat).den = 1 := by simp
  rw [e1, e2, ofN_one]
  exact Nat.max_le.2 ⟨by omega, by decide⟩
 ·split
  ·exact gI_sz (by decide) hP.y
  ·split
   ·exact gI_sz (by decide) hP.p
   ·split
    ·exact gI_sz (by decide) hls
    ·exact hP.t
theorem unV_sz {x : Nd} {a : Rat} (ha : sz a ≤ 129) : sz (unV x a).1 ≤ 2000 := by
 unfold unV
 split
 ·simp only [sz_neg]; omega
 ·unfold powR
  split
  ·next h =>
   have := powZ_sz ha h.1 h.2.1
   show sz (powZ a x.i) ≤ 2000
   omega
  ·simp [sz_zero]
theorem biV_sz {op : Int} {a b : Rat} (ha : sz a ≤ 129) (hb : sz b ≤ 129) : sz (biV op a b).1 ≤ 2000 := by
 unfold biV
 split
 ·have := sz_add a b; simp only; omega
 ·split
  ·have := sz_sub a b; simp only; omega
  ·split
   ·have := sz_mul a b; simp only; omega
   ·have := sz_div a b; simp only; omega
theorem fit_sz {lim : Nat} {q : Rat} (hl : lim ≤ 4096) (h : sizQ q ≤ lim) : sz q ≤ 129 := by
 have := sizQ_sz h
 have : lim / 32 ≤ 128 := by omega
 omega
def walkG (lim : Nat) (P : Po) (ls : List Rat) : List Rat → List Nd → Int → Int → Int × Int
 | _, [], c, p => (c, p)
 | s, x :: r, c, p => if (stepV P ls s x).1.2 = false then (c, p) else if lim < sizQ (stepV P ls s x).1.1 then (cntS c, cntP p (fz (stepV P ls s x).1.1))
   else walkG lim P ls ((stepV P ls s x).1.1 :: (stepV P ls s x).2) r (cntS c) (cntP p (fz (stepV P ls s x).1.1))
end Go.Ab
end

section
namespace Go.Ab
abbrev hpA (gk : Nat) (Q : PoF) (LS : List Fz) (s p L seen : Int) (F : List Fz) (m : Nat) : Heap :=
 [(.bor 0, ⟨0, .str, 9, [[.b Q.t.1, .sl (u32s Q.t.2.1) .an, .sl (u32s Q.t.2.2) .an, .sl (rowF Q.y) .an, .sl (rowF Q.p) .an, .sl (rowF LS) .an, .ptr (.bor 1) 1 3 0 0, .i .i64 seen, .bs (.bor 2) gk 3 0 m]]⟩), (.bor 1, bxG 1 s p L), (.bor 2, ⟨gk, .own, 3, rowF F⟩)]
abbrev wP : AV := .ptr (.bor 0) 0 9 0 0
section
variable {T : Tbl} [CLimb T] [CNat T] [CProd T] [CTwos T] [CQuot T] [CQuotD T] [CWhole T] [CCommon T] [CFrac T] [CFrac2 T] [CFrac3 T] [CFrac5 T] [CPow T] [CTape T] [CGauge T] [CEval T] [CEval2 T] [CTree T] [CText T] [CLenD T]
theorem frac_new_A (a : List UInt32) (ha : a.length ≤ 10000) : callF T 204 [.agg [.b false, .sl (u32s a) .an], .sl [[u32 1]] .an] = some (.tup [efz (fz ((val a : Nat) : Rat)), .b true]) := by
 have c1 : callF T 70 [.sl [[u32 1]] .an] = some (.b false) := nat_zero (T := T) [1] (by decide)
 have c2 : callF T 202 [.agg [.b false, .sl (u32s a) .an], .sl [[u32 1]] .an] = some (efz (fz (mkRat (wv false a) 1))) := frac_cancel (T := T) false a [1] ha (by decide) (by decide)
 have e : mkRat (wv false a) 1 = ((val a : Nat) : Rat) := by
  rw [Rat.mkRat_one]
  rfl
 rw [e] at c2
 rw [f204 _ rfl, b204]
 generalize fz ((val a : Nat) : Rat) = R at *
 simp -implicitDefEqProofs [c1, c2]
theorem pop_A (Q : PoF) (LS : List Fz) (s p L seen : Int) (F : List Fz) (m : Nat) (x : Fz) (hx : F[m]? = some x) (hm : m ≤ 100000) : callH T 490 [wP] (hpA 2 Q LS s p L seen F (m + 1)) = some (efz x, hpA 2 Q LS s p L seen F m) := by
 obtain ⟨hlt, hge⟩ := List.getElem?_eq_some_iff.1 hx
 have hw : IntKind.wrap .i64 (m : Int) = m := wrap_i64 _ (by omega)
 have h1 : (m : Int) < (m : Int) + 1 := by omega
 have h2 : (m : Int) ≤ (m : Int) + 1 := by omega
 obtain ⟨⟨q0, q1, q2⟩, qy, qp⟩ := Q
 obtain ⟨x0, x1, x2⟩ := x
 rw [f490 _ _ rfl, b490]
 simp -implicitDefEqProofs [hx, hge, hlt, hw, h1, h2]
theorem leaf_A (P : Po) (ls : List Rat) (s p L seen : Int) (F : List Fz) (m : Nat) (x : Nd) (ha : arN x.op = 0) (hn : x.n.length ≤ 1000) (hy : x.op = 3 → 0 ≤ x.i ∧ x.i < P.y.length) (hp : x.op = 4 → 0 ≤ x.i ∧ x.i < P.p.length) (hl : x.op = 5 → 0 ≤ x.i ∧ x.i < ls.length) :
  callH T 489 [wP, .agg (celN x)] (hpA 2 P.f (fzs ls) s p L seen F m) = some (efz (fz (leafV P ls x)), hpA 2 P.f (fzs ls) s p L seen F m) := by
 have hop : x.op = 1 ∨ x.op = 2 ∨ x.op = 3 ∨ x.op = 4 ∨ x.op = 5 := by rcases arN_cases x.op with ⟨e, h⟩ | ⟨e, h⟩ | ⟨e, h⟩ | ⟨e, h⟩ <;> omega
 have c1 := frac_new_A (T := T) x.n (by omega)
 obtain ⟨op, i, n⟩ := x
 obtain ⟨t, y, pp⟩ := P
 dsimp only at *
 unfold leafV Po.f
 dsimp only
 rw [f489 _ _ rfl, b489]
 rcases hop with rfl | rfl | rfl | rfl | rfl
 ·show _ = some (efz (fz ((val n : Nat) : Rat)), _)
  generalize fz ((val n : Nat) : Rat) = z at *
  generalize fzs y = Y at *
  generalize fzs pp = PP at *
  generalize fzs ls = LL at *
  generalize fz t = tt at *
  obtain ⟨t0, t1, t2⟩ := tt
  simp -implicitDefEqProofs [c1]
 ·show _ = some (efz (fz t), _)
  generalize fzs y = Y at *
  generalize fzs pp = PP at *
  generalize fzs ls = LL at *
  generalize fz t = tt at *
  obtain ⟨t0, t1, t2⟩ := tt
  simp -implicitDefEqProofs
 ·obtain ⟨k, rfl, g1, g2, g3⟩ := gI_get (hy rfl)
  have g4 := (List.getElem?_eq_some_iff.1 g3).2
  have hl2 : (fzs y).length = y.length := fzs_length y
  show _ = some (efz (fz (gI y (k : Int))), _)
  generalize fz (gI y (k : Int)) = z at *
  generalize fzs y = Y at *
  generalize fzs pp = PP at *
  generalize fzs ls = LL at *
  generalize fz t = tt at *
  obtain ⟨t0, t1, t2⟩ := tt
  simp -implicitDefEqProofs [g1, g2, g3, g4, hl2]
 ·obtain ⟨k, rfl, g1, g2, g3⟩ := gI_get (hp rfl)
  have g4 := (List.getElem?_eq_some_iff.1 g3).2
  have hl2 : (fzs pp).length = pp.length := fzs_length pp
  show _ = some (efz (fz (gI pp (k : Int))), _)
  generalize fz (gI pp (k : Int)) = z at *
  generalize fzs y = Y at *
  generalize fzs pp = PP at *
  generalize fzs ls = LL at *
  generalize fz t = tt at *
  obtain ⟨t0, t1, t2⟩ := tt
  simp -implicitDefEqProofs [g1, g2, g3, g4, hl2]
 ·obtain ⟨k, rfl, g1, g2, g3⟩ := gI_get (hl rfl)
  have g4 := (List.getElem?_eq_some_iff.1 g3).2
  have hl2 : (fzs ls).length = ls.length := fzs_length ls
  show _ = some (efz (fz (gI ls (k : Int))), _)
  generalize fz (gI ls (k : Int)) = z at *
  generalize fzs y = Y at *
  generalize fzs pp = PP at *
  generalize fzs ls = LL at *
  generalize fz t = tt at *
  obtain ⟨t0, t1, t2⟩ := tt
  simp -implicitDefEqProofs [g1, g2, g3, g4, hl2]
theorem value0_A (Q : PoF) (LS : List Fz) (s p L seen : Int) (F : List Fz) (m : Nat) (x : Nd) (ha : arN x.op = 0) (v : Fz)
  (c : callH T 489 [wP, .agg (celN x)] (hpA 2 Q LS s p L seen F m) = some (efz v, hpA 2 Q LS s p L seen F m)) :
  callH T 484 [wP, .agg (celN x)] (hpA 2 Q LS s p L seen F m) = some (.tup [efz v, .b true], hpA 2 Q LS s p L seen F m) := by
 have ca := tree_arity (T := T) x.op
 rw [ha] at ca
 obtain ⟨⟨q0, q1, q2⟩, qy, qp⟩ := Q
 obtain ⟨op, i, n⟩ := x
 rw [f484 _ _ rfl, b484]
 simp -implicitDefEqProofs [ca, c]
theorem value1_A (Q : PoF) (LS : List Fz) (s p L seen : Int) (F : List Fz) (m : Nat) (x : Nd) (ha : arN x.op = 1) (a : Rat) (hz : sz a ≤ 129) (hx : F[m]? = some (fz a)) (hm : m ≤ 100000) :
  callH T 484 [wP, .agg (celN x)] (hpA 2 Q LS s p L seen F (m + 1)) = some (.tup [efz (fz (unV x a).1), .b (unV x a).2], hpA 2 Q LS s p L seen F m) := by
 have ca := tree_arity (T := T) x.op
 rw [ha] at ca
 have hop : x.op = 6 ∨ x.op = 11 := by rcases arN_cases x.op with ⟨e, h⟩ | ⟨e, h⟩ | ⟨e, h⟩ | ⟨e, h⟩ <;> omega
 have cp := pop_A (T := T) Q LS s p L seen F m (fz a) hx hm
 have c6 := frac_neg (T := T) (fz a) (by rw [fsz_fz]; omega)
 have c11 := frac_pow (T := T) (fz a) x.i (by rw [fsz_fz]; omega)
 rw [fv_fz] at c6 c11
 obtain ⟨⟨q0, q1, q2⟩, qy, qp⟩ := Q
 obtain ⟨op, i, n⟩ := x
 dsimp only at *
 unfold unV
 dsimp only
 rw [f484 _ _ rfl, b484]
 rcases hop with rfl | rfl
 ·rw [if_pos rfl]
  dsimp only
  generalize fz (-a) = z at *
  generalize fz a = u at *
  simp -implicitDefEqProofs [ca, cp, c6]
 ·rw [if_neg (by decide)]
  generalize fz (powR a i).1 = z at *
  generalize (powR a i).2 = ok at *
  generalize fz a = u at *
  simp -implicitDefEqProofs [ca, cp, c11]
theorem value2_A (Q : PoF) (LS : List Fz) (s p L seen : Int) (F : List Fz) (m : Nat) (x : Nd) (ha : arN x.op = 2) (a b : Rat) (hza : sz a ≤ 129) (hzb : sz b ≤ 129) (hx : F[m]? = some (fz a)) (hx2 : F[m + 1]? = some (fz b)) (hm : m ≤ 90000) :
  callH T 484 [wP, .agg (celN x)] (hpA 2 Q LS s p L seen F (m + 2)) = some (.tup [efz (fz (biV x.op a b).1), .b (biV x.op a b).2], hpA 2 Q LS s p L seen F m) := by
 have ca := tree_arity (T := T) x.op
 rw [ha] at ca
 have hop : x.op = 7 ∨ x.op = 8 ∨ x.op = 9 ∨ x.op = 10 := by rcases arN_cases x.op with ⟨e, h⟩ | ⟨e, h⟩ | ⟨e, h⟩ | ⟨e, h⟩ <;> omega
 have cp := pop_A (T := T) Q LS s p L seen F m (fz a) hx (by omega)
 have cp2 := pop_A (T := T) Q LS s p L seen F (m + 1) (fz b) hx2 (by omega)
 have sa : fsz (fz a) ≤ 1000 := by rw [fsz_fz]; omega
 have sb : fsz (fz b) ≤ 1000 := by rw [fsz_fz]; omega
 have c7 := frac_add (T := T) (fz a) (fz b) sa sb
 have c8 := frac_sub (T := T) (fz a) (fz b) sa sb
 have c9 := frac_mul (T := T) (fz a) (fz b) sa sb
 have c10 := frac_quo (T := T) (fz a) (fz b) sa sb
 rw [fv_fz, fv_fz] at c7 c8 c9 c10
 obtain ⟨⟨q0, q1, q2⟩, qy, qp⟩ := Q
 obtain ⟨op, i, n⟩ := x
 dsimp only at *
 unfold biV
 rw [f484 _ _ rfl, b484]
 rcases hop with rfl | rfl | rfl | rfl
 ·rw [if_pos rfl]
  dsimp only
  generalize fz (a + b) = z at *
  generalize fz a = u at *
  generalize fz b = w at *
  simp -implicitDefEqProofs [ca, cp, cp2, c7]
 ·rw [if_neg (by decide), if_pos rfl]
  dsimp only
  generalize fz (a - b) = z at *
  generalize fz a = u at *
  generalize fz b = w at *
  simp -implicitDefEqProofs [ca, cp, cp2, c8]
 ·rw [if_neg (by decide), if_neg (by decide), if_pos rfl]
  dsimp only
  generalize fz (a * b) = z at *
  generalize fz a = u at *
  generalize fz b = w at *
  simp -implicitDefEqProofs [ca, cp, cp2, c9]
 ·rw [if_neg (by decide), if_neg (by decide), if_neg (by decide)]
  dsimp only
  generalize fz (a / b) = z at *
  generalize decide (b ≠ 0) = ok at *
  generalize fz a = u at *
  generalize fz b = w at *
  simp -implicitDefEqProofs [ca, cp, cp2, c10]
end
end Go.Ab
end

section
namespace Go.Ab
abbrev bx4A (z : Fz) : Box := ⟨7, .str, 3, [[.b z.1, .sl (u32s z.2.1) .an, .sl (u32s z.2.2) .an]]⟩
abbrev bx5A (a b c d : Int) : Box := ⟨8, .str, 4, [[.i .i64 a, .i .i64 b, .i .i64 c, .i .i64 d]]⟩
abbrev hqA (gk : Nat) (Q : PoF) (LS : List Fz) (s p L seen : Int) (F : List Fz) (m : Nat) (z : Fz) (a b c d : Int) : Heap :=
 [(.bor 0, ⟨0, .str, 9, [[.b Q.t.1, .sl (u32s Q.t.2.1) .an, .sl (u32s Q.t.2.2) .an, .sl (rowF Q.y) .an, .sl (rowF Q.p) .an, .sl (rowF LS) .an, .ptr (.bor 1) 1 3 0 0, .i .i64 seen, .bs (.bor 2) gk 3 0 m]]⟩), (.bor 1, bxG 1 s p L), (.bor 2, ⟨gk, .own, 3, rowF F⟩), (.loc 4, bx4A z), (.loc 5, bx5A a b c d)]
def stWA (gk : Nat) (Q : PoF) (LS : List Fz) (s p L seen : Int) (F : List Fz) (m : Nat) (code : List Nd) (i : Nat) : St :=
 ⟨[(0, wP), (4, .ptr (.loc 4) 7 3 0 0), (5, .ptr (.loc 5) 8 4 0 0), (18, .sl (rowN code) .an), (19, .i .i64 code.length), (20, .i .i64 i)], hqA gk Q LS s p L seen F m (false, [], []) 0 0 0 0, 10⟩
def endWA (gk : Nat) (Q : PoF) (LS : List Fz) (s p L seen : Int) (F : List Fz) (m : Nat) : Ex × St :=
 (.n, ⟨[(0, wP), (4, .ptr (.loc 4) 7 3 0 0), (5, .ptr (.loc 5) 8 4 0 0)], hqA gk Q LS s p L seen F m (false, [], []) 0 0 0 0, 10⟩)
def endSA (gk : Nat) (Q : PoF) (LS : List Fz) (s p L seen : Int) (F : List Fz) (m : Nat) (kind at_ : Int) : Ex × St :=
 (.r, ⟨[(4, .ptr (.loc 4) 7 3 0 0), (5, .ptr (.loc 5) 8 4 0 0)], hqA gk Q LS s p L seen F m (fz 0) kind 0 0 at_, 10⟩)
theorem rowF_pushA (m : List Fz) (v : Fz) : wkL (rowF m ++ [[.b v.1, .sl (u32s v.2.1) .an, .sl (u32s v.2.2) .an]]) = rowF (m ++ [v]) := by
 have : rowF m ++ [celF v] = rowF (m ++ [v]) := rowF_snoc m v
 rw [show [[AV.b v.1, .sl (u32s v.2.1) .an, .sl (u32s v.2.2) .an]] = [celF v] from rfl, this, rowF_wk]
section
variable {T : Tbl} [CLimb T] [CNat T] [CProd T] [CTwos T] [CQuot T] [CQuotD T] [CWhole T] [CCommon T] [CFrac T] [CFrac2 T] [CFrac3 T] [CFrac5 T] [CPow T] [CTape T] [CGauge T] [CEval T] [CEval2 T] [CTree T] [CText T] [CLenD T]
theorem wk_round_A {gk : Nat} (hk : gk = 2 ∨ gk = 6) (Q : PoF) (LS : List Fz) (s p L seen : Int) (F : List Fz) (m m2 : Nat) (code : List Nd) (i : Nat) (x : Nd) (v : Fz) (hx : code[i]? = some x) (hl : code.length ≤ 100000) (hm : m2 ≤ F.length) (hF : F.length ≤ 100000) (hs : 0 ≤ seen) (hs2 : seen ≤ 100000) (hv : fsz v ≤ 10000)
  (c : callH T 484 [wP, .agg (celN x)] (hpA 2 Q LS s p L seen F m) = some (.tup [efz v, .b true], hpA 2 Q LS s p L seen F m2)) (hf : (sizF v : Int) ≤ L) :
  evX (orc T) T 3 l473_0 (stWA gk Q LS s p L seen F m code i) = some (.n, stWA 6 Q LS (cntS s) (cntP p v) L (seen + 1) (F.take m2 ++ [v]) (m2 + 1) code (i + 1)) := by
 have cg := gauge_take (T := T) s p L v hv
 rw [decide_eq_true hf] at cg
 obtain ⟨hlt, hge⟩ := List.getElem?_eq_some_iff.1 hx
 have hlt' : (i : Int) < code.length := by omega
 have hws := wrapS hlt (by omega)
 have hw : IntKind.wrap .i64 (seen + 1) = seen + 1 := wrap_i64 _ (by omega)
 have hpu := rowF_pushA (F.take m2) v
 have htl : (F.take m2).length = m2 := by rw [List.length_take]; omega
 have h32 : m2 + 1 ≤ 4294967296 := by omega
 generalize cntS s = s' at *
 generalize cntP p v = p' at *
 obtain ⟨⟨q0, q1, q2⟩, qy, qp⟩ := Q
 obtain ⟨op, xi, n⟩ := x
 obtain ⟨v0, v1, v2⟩ := v
 unfold stWA
 rcases hk with rfl | rfl
 ·simp -implicitDefEqProofs [l473_0, hlt, hlt', hx, hge, hws, c, cg, hw, hpu, hm, h32]
 ·simp -implicitDefEqProofs [l473_0, hlt, hlt', hx, hge, hws, c, cg, hw, hpu, hm, h32]
theorem wk_pole_A {gk : Nat} (hk : gk = 2 ∨ gk = 6) (Q : PoF) (LS : List Fz) (s p L seen : Int) (F : List Fz) (m m2 : Nat) (code : List Nd) (i : Nat) (x : Nd) (v : Fz) (hx : code[i]? = some x)
  (c : callH T 484 [wP, .agg (celN x)] (hpA 2 Q LS s p L seen F m) = some (.tup [efz v, .b false], hpA 2 Q LS s p L seen F m2)) :
  evX (orc T) T 3 l473_0 (stWA gk Q LS s p L seen F m code i) = some (endSA gk Q LS s p L seen F m2 3 seen) := by
 have c0 := frac_of0 (T := T)
 obtain ⟨hlt, hge⟩ := List.getElem?_eq_some_iff.1 hx
 have hlt' : (i : Int) < code.length := by omega
 unfold stWA endSA
 generalize fz 0 = Z at *
 obtain ⟨z0, z1, z2⟩ := Z
 obtain ⟨⟨q0, q1, q2⟩, qy, qp⟩ := Q
 obtain ⟨op, xi, n⟩ := x
 obtain ⟨v0, v1, v2⟩ := v
 rcases hk with rfl | rfl
 ·simp -implicitDefEqProofs [l473_0, hlt, hlt', hx, hge, c, c0]
 ·simp -implicitDefEqProofs [l473_0, hlt, hlt', hx, hge, c, c0]
theorem wk_bits_A {gk : Nat} (hk : gk = 2 ∨ gk = 6) (Q : PoF) (LS : List Fz) (s p L seen : Int) (F : List Fz) (m m2 : Nat) (code : List Nd) (i : Nat) (x : Nd) (v : Fz) (hx : code[i]? = some x) (hv : fsz v ≤ 10000)
  (c : callH T 484 [wP, .agg (celN x)] (hpA 2 Q LS s p L seen F m) = some (.tup [efz v, .b true], hpA 2 Q LS s p L seen F m2)) (hf : ¬ (sizF v : Int) ≤ L) :
  evX (orc T) T 3 l473_0 (stWA gk Q LS s p L seen F m code i) = some (endSA gk Q LS (cntS s) (cntP p v) L seen F m2 6 seen) := by
 have c0 := frac_of0 (T := T)
 have cg := gauge_take (T := T) s p L v hv
 rw [decide_eq_false hf] at cg
 obtain ⟨hlt, hge⟩ := List.getElem?_eq_some_iff.1 hx
 have hlt' : (i : Int) < code.length := by omega
 generalize cntS s = s' at *
 generalize cntP p v = p' at *
 unfold stWA endSA
 generalize fz 0 = Z at *
 obtain ⟨z0, z1, z2⟩ := Z
 obtain ⟨⟨q0, q1, q2⟩, qy, qp⟩ := Q
 obtain ⟨op, xi, n⟩ := x
 obtain ⟨v0, v1, v2⟩ := v
 rcases hk with rfl | rfl
 ·simp -implicitDefEqProofs [l473_0, hlt, hlt', hx, hge, c, cg, c0]
 ·simp -implicitDefEqProofs [l473_0, hlt, hlt', hx, hge, c, cg, c0]
theorem wk_end_A {gk : Nat} (hk : gk = 2 ∨ gk = 6) (Q : PoF) (LS : List Fz) (s p L seen : Int) (F : List Fz) (m : Nat) (code : List Nd) :
  isEx (evX (orc T) T 3 l473_0 (stWA gk Q LS s p L seen F m code code.length)) = true ∧ finX 3 0 (.norm false [0, 4, 5]) (evX (orc T) T 3 l473_0 (stWA gk Q LS s p L seen F m code code.length)) = some (endWA gk Q LS s p L seen F m) := by
 obtain ⟨⟨q0, q1, q2⟩, qy, qp⟩ := Q
 unfold stWA endWA
 rcases hk with rfl | rfl <;> constructor <;> simp -implicitDefEqProofs [l473_0]
end
end Go.Ab
end

section
namespace Go.Ab
theorem okN_ix {dim pars lets : Int} {x : Nd} (h : okN dim pars lets x = true) : (x.op = 3 → 0 ≤ x.i ∧ x.i < dim) ∧ (x.op = 4 → 0 ≤ x.i ∧ x.i < pars) ∧ (x.op = 5 → 0 ≤ x.i ∧ x.i < lets) := by
 unfold okN at h
 refine ⟨fun ho => ?_, fun ho => ?_, fun ho => ?_⟩
 all_goals
  rw [ho] at h
  rw [if_neg (by decide)] at h
  split at h
  ·cases h
  ·simpa [belB] using h
section
variable {T : Tbl} [CLimb T] [CNat T] [CProd T] [CTwos T] [CQuot T] [CQuotD T] [CWhole T] [CCommon T] [CFrac T] [CFrac2 T] [CFrac3 T] [CFrac5 T] [CPow T] [CTape T] [CGauge T] [CEval T] [CEval2 T] [CTree T] [CText T] [CLenD T]
theorem finS_A (gk : Nat) (Q : PoF) (LS : List Fz) (s p L seen : Int) (F : List Fz) (m : Nat) (kind at_ : Int) : finX 3 0 (.norm false [0, 4, 5]) (some (endSA gk Q LS s p L seen F m kind at_)) = some (endSA gk Q LS s p L seen F m kind at_) := by
 unfold endSA
 simp -implicitDefEqProofs
def endQA (P : Po) (lim : Nat) (ls : List Rat) (n : Nat) (R : Rat × Nat × Nat) (r : Ex × St) : Prop :=
 (R.2.1 = 0 ∧ ∃ gk s p F, (gk = 2 ∨ gk = 6) ∧ F[0]? = some (fz R.1) ∧ F.length ≤ 5000 ∧ r = endWA gk P.f (fzs ls) s p lim n F 1) ∨
 (R.2.1 ≠ 0 ∧ ∃ gk s p seen F m, (gk = 2 ∨ gk = 6) ∧ r = endSA gk P.f (fzs ls) s p lim seen F m R.2.1 R.2.2)
theorem code_loop_A (P : Po) (lim : Nat) (hlim : lim ≤ 4096) (ls : List Rat) (hP : PvS P 1000) (hls : ∀ q ∈ ls, sz q ≤ 1000) (code : List Nd) (hl : code.length ≤ 3000) (hok : ∀ x ∈ code, okN P.y.length P.p.length ls.length x = true) (hn : thin 1000 code) (hwr : wrongN code = -1) (n0 : Nat) (hn0 : n0 ≤ 10000) (s0 p0 : Int) (F0 : List Fz) (hF0 : F0.length ≤ 5000) :
  ∃ r, endQA P lim ls (n0 + code.length) (walkR lim P ls n0 [] code) r ∧ loopN T 3 0 (.norm false [0, 4, 5]) l473_0 (stWA 2 P.f (fzs ls) s0 p0 lim n0 F0 0 code 0) = some r := by
 refine loopN_ex (fun x : Nat × List Rat × Nat × (Int × Int) × List Fz => stWA x.2.2.1 P.f (fzs ls) x.2.2.2.1.1 x.2.2.2.1.2 lim ((n0 + x.1 : Nat) : Int) x.2.2.2.2 x.2.1.length code x.1)
  (fun x => x.1 ≤ code.length ∧ (x.2.2.1 = 2 ∨ x.2.2.1 = 6) ∧ x.2.2.2.2.take x.2.1.length = fzs x.2.1.reverse ∧ x.2.1.length ≤ x.2.2.2.2.length ∧ x.2.2.2.2.length ≤ 5000 ∧ (∀ q ∈ x.2.1, sz q ≤ 129) ∧ x.2.1.length ≤ x.1 ∧ (∃ j, wrongL j x.2.1.length (code.drop x.1) = -1) ∧ walkR lim P ls (n0 + x.1) x.2.1 (code.drop x.1) = walkR lim P ls n0 [] code)
  (fun x => code.length - x.1) _ ?_ (0, [], 2, (s0, p0), F0) ⟨Nat.zero_le _, .inl rfl, rfl, Nat.zero_le _, hF0, by simp, Nat.le_refl _, ⟨0, hwr⟩, rfl⟩
 rintro ⟨i, s, gk, ⟨c, p⟩, F⟩ ⟨hi, hk, hF, hsF, hFl, hz, hsi, ⟨j, hw⟩, hW⟩
 dsimp only at *
 by_cases hlt : i < code.length
 ·have hx : code[i]? = some (code[i]'hlt) := List.getElem?_eq_getElem hlt
  have hd : code.drop i = code[i]'hlt :: code.drop (i + 1) := List.drop_eq_getElem_cons hlt
  have hmem := List.getElem_mem hlt
  generalize code[i]'hlt = x at *
  rw [hd] at hw hW
  have hxn := hn x hmem
  have hxo := okN_ix (hok x hmem)
  have h1 : ¬ (arN x.op < 0 ∨ (s.length : Int) < arN x.op) := by
   intro hh
   unfold wrongL at hw
   rw [if_pos hh] at hw
   omega
  have hw2 : wrongL (j + 1) (s.length + 1 - arN x.op) (code.drop (i + 1)) = -1 := by
   unfold wrongL at hw
   rwa [if_neg h1] at hw
  -- one round, by what the node makes of the stack
  have round : ∀ (v : Rat) (ok : Bool) (s' : List Rat), stepV P ls s x = ((v, ok), s') → sz v ≤ 2000 → s'.length ≤ s.length → (s'.length : Int) = s.length - arN x.op → (∀ q ∈ s', q ∈ s) → F.take s'.length = fzs s'.reverse →
    callH T 484 [wP, .agg (celN x)] (hpA 2 P.f (fzs ls) c p lim ((n0 + i : Nat) : Int) F s.length) = some (.tup [efz (fz v), .b ok], hpA 2 P.f (fzs ls) c p lim ((n0 + i : Nat) : Int) F s'.length) →
    (∃ y : Nat × List Rat × Nat × (Int × Int) × List Fz, (y.1 ≤ code.length ∧ (y.2.2.1 = 2 ∨ y.2.2.1 = 6) ∧ y.2.2.2.2.take y.2.1.length = fzs y.2.1.reverse ∧ y.2.1.length ≤ y.2.2.2.2.length ∧ y.2.2.2.2.length ≤ 5000 ∧ (∀ q ∈ y.2.1, sz q ≤ 129) ∧ y.2.1.length ≤ y.1 ∧ (∃ j, wrongL j y.2.1.length (code.drop y.1) = -1) ∧ walkR lim P ls (n0 + y.1) y.2.1 (code.drop y.1) = walkR lim P ls n0 [] code) ∧ code.length - y.1 < code.length - i ∧
     evX (orc T) T 3 l473_0 (stWA gk P.f (fzs ls) c p lim ((n0 + i : Nat) : Int) F s.length code i) = some (.n, stWA y.2.2.1 P.f (fzs ls) y.2.2.2.1.1 y.2.2.2.1.2 lim ((n0 + y.1 : Nat) : Int) y.2.2.2.2 y.2.1.length code y.1)) ∨
    (∃ r, endQA P lim ls (n0 + code.length) (walkR lim P ls n0 [] code) r ∧ isEx (evX (orc T) T 3 l473_0 (stWA gk P.f (fzs ls) c p lim ((n0 + i : Nat) : Int) F s.length code i)) = true ∧
     finX 3 0 (.norm false [0, 4, 5]) (evX (orc T) T 3 l473_0 (stWA gk P.f (fzs ls) c p lim ((n0 + i : Nat) : Int) F s.length code i)) = some r) := by
   intro v ok s' hst hv hs's hlen hsub hF' hc
   have hvf : fsz (fz v) ≤ 10000 := by rw [fsz_fz]; omega
   rw [walkR, hst] at hW
   dsimp only at hW
   cases ok with
   | false =>
    right
    have e := wk_pole_A (T := T) hk P.f (fzs ls) c p lim ((n0 + i : Nat) : Int) F s.length s'.length code i x (fz v) hx hc
    have ef : finV lim (v, false) (n0 + i) = (0, 3, n0 + i) := rfl
    rw [ef] at hW
    rw [if_pos (by simp)] at hW
    refine ⟨endSA gk P.f (fzs ls) c p lim ((n0 + i : Nat) : Int) F s'.length 3 ((n0 + i : Nat) : Int), .inr ?_, by rw [e]; rfl, by rw [e, finS_A]⟩
    rw [← hW]
    exact ⟨by simp, gk, c, p, _, F, _, hk, rfl⟩
   | true =>
    by_cases hfit : sizQ v ≤ lim
    ·left
     have ef : finV lim (v, true) (n0 + i) = (v, 0, 0) := by unfold finV; rw [if_neg (by simp), if_neg (by dsimp only; omega)]
     rw [ef] at hW
     rw [if_neg (by simp)] at hW
     have e := wk_round_A (T := T) hk P.f (fzs ls) c p lim ((n0 + i : Nat) : Int) F s.length s'.length code i x (fz v) hx (by omega) (by omega) (by omega) (by omega) (by omega) hvf hc (by unfold sizQ at hfit; omega)
     have hn1 : ((n0 + i : Nat) : Int) + 1 = ((n0 + (i + 1) : Nat) : Int) := by omega
     rw [hn1] at e
     have hl1 : (F.take s'.length ++ [fz v]).length = s'.length + 1 := by rw [List.length_append, List.length_take]; simp only [List.length_cons, List.length_nil]; omega
     refine ⟨(i + 1, v :: s', 6, (cntS c, cntP p (fz v)), F.take s'.length ++ [fz v]), ⟨by dsimp only; omega, .inr rfl, ?_, ?_, ?_, ?_, ?_, ⟨j + 1, ?_⟩, ?_⟩, by dsimp only; omega, e⟩
     ·dsimp only
      rw [List.length_cons, List.take_of_length_le (by omega), hF']
      simp [fzs]
     ·dsimp only; rw [List.length_cons, hl1]; exact Nat.le_refl _
     ·dsimp only; rw [hl1]; omega
     ·intro q hq
      rcases List.mem_cons.1 hq with rfl | hq
      ·exact fit_sz hlim hfit
      ·exact hz q (hsub q hq)
     ·dsimp only; rw [List.length_cons]; omega
     ·dsimp only
      rw [← hw2]
      congr 1
      rw [List.length_cons]; omega
     ·dsimp only
      rw [← hW]
      congr 1
    ·right
     have ef : finV lim (v, true) (n0 + i) = (0, 6, n0 + i) := by unfold finV; rw [if_neg (by simp), if_pos (by dsimp only; omega)]
     rw [ef] at hW
     rw [if_pos (by simp)] at hW
     have e := wk_bits_A (T := T) hk P.f (fzs ls) c p lim ((n0 + i : Nat) : Int) F s.length s'.length code i x (fz v) hx hvf hc (by unfold sizQ at hfit; omega)
     refine ⟨endSA gk P.f (fzs ls) (cntS c) (cntP p (fz v)) lim ((n0 + i : Nat) : Int) F s'.length 6 ((n0 + i : Nat) : Int), .inr ?_, by rw [e]; rfl, by rw [e, finS_A]⟩
     rw [← hW]
     exact ⟨by simp, gk, _, _, _, F, _, hk, rfl⟩
  rcases arN_cases x.op with ⟨e, ho⟩ | ⟨e, ho⟩ | ⟨e, ho⟩ | ⟨e, ho⟩
  ·have hst : stepV P ls s x = ((leafV P ls x, true), s) := by unfold stepV; rw [if_pos e]
   have cl := leaf_A (T := T) P ls c p lim ((n0 + i : Nat) : Int) F s.length x e hxn hxo.1 hxo.2.1 hxo.2.2
   exact round _ true s hst (by have := leafV_sz (P := P) hP hls hxn; omega) (Nat.le_refl _) (by rw [e]; omega) (fun q hq => hq) hF (value0_A P.f (fzs ls) c p lim _ F s.length x e _ cl)
  ·cases s with
   | nil => exfalso; apply h1; right; rw [e]; decide
   | cons a s1 =>
    have hst : stepV P ls (a :: s1) x = (unV x a, s1) := by unfold stepV; rw [if_neg (by omega), if_pos e]; rfl
    have hza := hz a (by simp)
    have hFa : F[s1.length]? = some (fz a) := by
     have : (F.take (a :: s1).length)[s1.length]? = some (fz a) := by rw [hF]; simp [fzs]
     rwa [List.getElem?_take, if_pos (by simp)] at this
    have hF1 : F.take s1.length = fzs s1.reverse := by
     have : (F.take (a :: s1).length).take s1.length = fzs s1.reverse := by rw [hF]; simp [fzs]
     rwa [List.take_take, Nat.min_eq_left (by simp)] at this
    have cv := value1_A (T := T) P.f (fzs ls) c p lim ((n0 + i : Nat) : Int) F s1.length x e a hza hFa (by rw [List.length_cons] at hsi; omega)
    exact round (unV x a).1 (unV x a).2 s1 hst (unV_sz hza) (by simp) (by rw [e, List.length_cons]; omega) (fun q hq => by simp [hq]) hF1 cv
  ·cases s with
   | nil => exfalso; apply h1; right; rw [e]; decide
   | cons b s0 =>
   cases s0 with
   | nil => exfalso; apply h1; right; rw [e]; simp
   | cons a s1 =>
    have hst : stepV P ls (b :: a :: s1) x = (biV x.op a b, s1) := by unfold stepV; rw [if_neg (by omega), if_neg (by omega)]; rfl
    have hza := hz a (by simp)
    have hzb := hz b (by simp)
    have hFa : F[s1.length]? = some (fz a) := by
     have : (F.take (b :: a :: s1).length)[s1.length]? = some (fz a) := by rw [hF]; simp [fzs]
     rwa [List.getElem?_take, if_pos (by simp only [List.length_cons]; omega)] at this
    have hFb : F[s1.length + 1]? = some (fz b) := by
     have : (F.take (b :: a :: s1).length)[s1.length + 1]? = some (fz b) := by rw [hF]; simp [fzs]
     rwa [List.getElem?_take, if_pos (by simp)] at this
    have hF1 : F.take s1.length = fzs s1.reverse := by
     have : (F.take (b :: a :: s1).length).take s1.length = fzs s1.reverse := by rw [hF]; simp [fzs]
     rwa [List.take_take, Nat.min_eq_left (by simp; omega)] at this
    have cv := value2_A (T := T) P.f (fzs ls) c p lim ((n0 + i : Nat) : Int) F s1.length x e a b hza hzb hFa hFb (by simp only [List.length_cons] at hsi; omega)
    exact round (biV x.op a b).1 (biV x.op a b).2 s1 hst (biV_sz hza hzb) (by simp; omega) (by rw [e, List.length_cons, List.length_cons]; omega) (fun q hq => by simp [hq]) hF1 cv
  ·exfalso; apply h1; left; omega
 ·right
  have hi2 : i = code.length := by omega
  subst hi2
  rw [List.drop_length] at hw hW
  have hs1 : s.length = 1 := by
   unfold wrongL at hw
   split at hw
   ·omega
   ·omega
  obtain ⟨v, rfl⟩ := List.length_eq_one_iff.1 hs1
  have e := wk_end_A (T := T) hk P.f (fzs ls) c p lim ((n0 + code.length : Nat) : Int) F 1 code
  refine ⟨endWA gk P.f (fzs ls) c p lim ((n0 + code.length : Nat) : Int) F 1, .inl ?_, e.1, e.2⟩
  have hR : walkR lim P ls (n0 + code.length) [v] [] = (v, 0, 0) := rfl
  rw [hR] at hW
  rw [← hW]
  have hFa : F[0]? = some (fz v) := by
   have : (F.take [v].length)[0]? = some (fz v) := by rw [hF]; simp [fzs]
   rwa [List.getElem?_take, if_pos (by simp)] at this
  exact ⟨rfl, gk, c, p, F, hk, hFa, hFl, rfl⟩
end
end Go.Ab
end

section
namespace Go.Ab
theorem walkR_stop (lim : Nat) (P : Po) (ls : List Rat) : ∀ (l : List Nd) (i : Nat) (s : List Rat), (walkR lim P ls i s l).2.1 ≠ 0 → (walkR lim P ls i s l).1 = 0
 | [], i, s, h => absurd rfl h
 | x :: r, i, s, h => by
  unfold walkR at h ⊢
  split
  ·next h1 => exact (finV_stop h1).1
  ·next h1 =>
   rw [if_neg h1] at h
   exact walkR_stop lim P ls r _ _ h
theorem walkR_at (lim : Nat) (P : Po) (ls : List Rat) : ∀ (l : List Nd) (i : Nat) (s : List Rat), (walkR lim P ls i s l).2.1 = 0 → (walkR lim P ls i s l).2.2 = 0
 | [], i, s, _ => rfl
 | x :: r, i, s, h => by
  unfold walkR at h ⊢
  split
  ·next h1 => rw [if_pos h1] at h; exact absurd h h1
  ·next h1 =>
   rw [if_neg h1] at h
   exact walkR_at lim P ls r _ _ h
section
variable {T : Tbl} [CLimb T] [CNat T] [CProd T] [CTwos T] [CQuot T] [CQuotD T] [CWhole T] [CCommon T] [CFrac T] [CFrac2 T] [CFrac3 T] [CFrac5 T] [CPow T] [CTape T] [CGauge T] [CEval T] [CEval2 T] [CTree T] [CText T] [CLenD T]
theorem eval_code_A (P : Po) (lim : Nat) (hlim : lim ≤ 4096) (ls : List Rat) (hP : PvS P 1000) (hls : ∀ q ∈ ls, sz q ≤ 1000) (code : List Nd) (hl : code.length ≤ 3000) (hok : ∀ x ∈ code, okN P.y.length P.p.length ls.length x = true) (hn : thin 1000 code) (hwr : wrongN code = -1) (n0 : Nat) (hn0 : n0 ≤ 10000) (s0 p0 : Int) (F0 : List Fz) (m0 : Nat) (hF0 : F0.length ≤ 5000) :
  ∃ (gk : Nat) (s p seen : Int) (F : List Fz) (m : Nat), (gk = 2 ∨ gk = 6) ∧ ((walkR lim P ls n0 [] code).2.1 = 0 → seen = ((n0 + code.length : Nat) : Int) ∧ F.length ≤ 5000) ∧
   callH T 473 [wP, .sl (rowN code) .an] (hpA 2 P.f (fzs ls) s0 p0 lim n0 F0 m0) = some (.tup [efz (fz (walkR lim P ls n0 [] code).1), .agg [.i .i64 (walkR lim P ls n0 [] code).2.1, .i .i64 0, .i .i64 0, .i .i64 (walkR lim P ls n0 [] code).2.2]], hpA gk P.f (fzs ls) s p lim seen F m) := by
 obtain ⟨r, hq, hlo⟩ := code_loop_A (T := T) P lim hlim ls hP hls code hl hok hn hwr n0 hn0 s0 p0 F0 hF0
 have hst := walkR_stop lim P ls code n0 []
 have hat := walkR_at lim P ls code n0 []
 generalize walkR lim P ls n0 [] code = R at *
 obtain ⟨v, kind, at_⟩ := R
 dsimp only at *
 unfold stWA at hlo
 have he : hqA 2 P.f (fzs ls) s0 p0 lim n0 F0 0 (false, [], []) 0 0 0 0 = [(.bor 0, ⟨0, .str, 9, [[.b P.f.t.1, .sl (u32s P.f.t.2.1) .an, .sl (u32s P.f.t.2.2) .an, .sl (rowF P.f.y) .an, .sl (rowF P.f.p) .an, .sl (rowF (fzs ls)) .an, .ptr (.bor 1) 1 3 0 0, .i .i64 n0, .bs (.bor 2) 2 3 0 0]]⟩), (.bor 1, bxG 1 s0 p0 lim), (.bor 2, ⟨2, .own, 3, rowF F0⟩), (.loc 4, ⟨7, .str, 3, [[.b false, .sl [] .an, .sl [] .an]]⟩), (.loc 5, ⟨8, .str, 4, [[.i .i64 0, .i .i64 0, .i .i64 0, .i .i64 0]]⟩)] := rfl
 rw [he] at hlo
 clear he
 simp only [Int.natCast_zero] at hlo
 rcases hq with ⟨h0, gk, s, p, F, hk, hF, hFl, rfl⟩ | ⟨h0, gk, s, p, seen, F, m, hk, rfl⟩
 ·dsimp only at h0 hF
  subst h0
  refine ⟨gk, s, p, _, F, 1, hk, fun _ => ⟨rfl, hFl⟩, ?_⟩
  have ha := hat rfl
  subst ha
  have hge := (List.getElem?_eq_some_iff.1 hF).2
  have hlt := (List.getElem?_eq_some_iff.1 hF).1
  unfold endWA at hlo
  generalize P.f = Q at *
  obtain ⟨⟨q0, q1, q2⟩, qy, qp⟩ := Q
  generalize fzs ls = LS at *
  generalize fz v = V at *
  obtain ⟨v0, v1, v2⟩ := V
  rw [f473 _ _ rfl, b473]
  clear hP hls hok hst hat hlim
  rcases hk with rfl | rfl
  ·simp -implicitDefEqProofs [hlo, hF, hge, hlt]
  ·simp -implicitDefEqProofs [hlo, hF, hge, hlt]
 ·dsimp only at h0
  refine ⟨gk, s, p, seen, F, m, hk, fun h => absurd h h0, ?_⟩
  have hv := hst h0
  subst hv
  unfold endSA at hlo
  dsimp only at hlo
  generalize P.f = Q at *
  obtain ⟨⟨q0, q1, q2⟩, qy, qp⟩ := Q
  generalize fzs ls = LS at *
  generalize fz 0 = V at *
  obtain ⟨v0, v1, v2⟩ := V
  rw [f473 _ _ rfl, b473]
  clear hP hls hok hst hat hlim
  rcases hk with rfl | rfl
  ·simp -implicitDefEqProofs [hlo]
  ·simp -implicitDefEqProofs [hlo]
end
end Go.Ab
end

section
namespace Go.Ab
theorem limI_toNat (b : Int) : ((limI b).toNat : Int) = limI b ∧ (limI b).toNat ≤ 4096 := by
 unfold limI
 split
 ·decide
 ·split
  ·decide
  ·omega
theorem pos_pvs {x : PoF} (h : PoS x 1000) : PvS x.v 1000 := by
 refine ⟨sz_fv h.t (by decide), fun q hq => ?_, fun q hq => ?_⟩
 ·obtain ⟨u, hu, rfl⟩ := List.mem_map.1 hq
  exact sz_fv (h.y u hu) (by decide)
 ·obtain ⟨u, hu, rfl⟩ := List.mem_map.1 hq
  exact sz_fv (h.p u hu) (by decide)
abbrev flt4 (a b c d : Int) : AV := .agg [.i .i64 a, .i .i64 b, .i .i64 c, .i .i64 d]
section
variable {T : Tbl} [CLimb T] [CNat T] [CProd T] [CTwos T] [CQuot T] [CQuotD T] [CWhole T] [CCommon T] [CFrac T] [CFrac2 T] [CFrac3 T] [CFrac5 T] [CPow T] [CTape T] [CGauge T] [CEval T] [CEval2 T] [CTree T] [CText T] [CLenD T]
theorem eval_Code_bad (code : List Nd) (x : PoF) (lets : List Fz) (bits : Int) (hl : code.length ≤ 3000) (hn : thin 1000 code) (hb : 0 ≤ placeN x.y.length x.p.length lets.length code) :
  callF T 462 [.sl (rowN code) .an, ept x, .sl (rowF lets) .an, .i .i64 bits] = some (.tup [efz (fz 0), flt4 2 0 0 (placeN x.y.length x.p.length lets.length code)]) := by
 have c1 := check_place (T := T) code x.y.length x.p.length lets.length (by omega) hn
 have c0 := frac_of0 (T := T)
 generalize placeN x.y.length x.p.length lets.length code = pl at *
 generalize fz 0 = Z at *
 obtain ⟨⟨t0, t1, t2⟩, y, p⟩ := x
 obtain ⟨z0, z1, z2⟩ := Z
 dsimp only at *
 rw [f462 _ rfl, b462]
 simp -implicitDefEqProofs [c0, c1, hb]
theorem eval_Code_ok (code : List Nd) (x : PoF) (lets : List Fz) (bits : Int) (hx : PoS x 1000) (hll : lets.length ≤ 1000) (hls : ∀ u ∈ lets, fsz u ≤ 1000) (hl : code.length ≤ 3000) (hn : thin 1000 code) (hb : placeN x.y.length x.p.length lets.length code < 0) :
  callF T 462 [.sl (rowN code) .an, ept x, .sl (rowF lets) .an, .i .i64 bits] =
   some (.tup [efz (fz (walkR (limI bits).toNat x.v (lets.map fv) 0 [] code).1), flt4 (walkR (limI bits).toNat x.v (lets.map fv) 0 [] code).2.1 0 0 (walkR (limI bits).toNat x.v (lets.map fv) 0 [] code).2.2]) := by
 have c1 := check_place (T := T) code x.y.length x.p.length lets.length (by omega) hn
 have c2 := eval_norm (T := T) x hx
 have c3 := eval_norms (T := T) lets hll hls
 have c4 := gauge_new (T := T) bits
 obtain ⟨hl1, hl2⟩ := limI_toNat bits
 obtain ⟨t, ht, e, hok⟩ := placeN_tree hb
 have hyl : x.v.y.length = x.y.length := by simp [PoF.v]
 have hpl : x.v.p.length = x.p.length := by simp [PoF.v]
 have hml : (lets.map fv).length = lets.length := by simp
 obtain ⟨gk, s, p, seen, F, m, hk, _, c5⟩ := eval_code_A (T := T) x.v (limI bits).toNat hl2 (lets.map fv) (pos_pvs hx) (fun q hq => by
  obtain ⟨u, hu, rfl⟩ := List.mem_map.1 hq
  exact sz_fv (hls u hu) (by decide)) code hl (by rw [hyl, hpl, hml]; exact hok) hn (by rw [← e]; exact wrongN_flat ht) 0 (by decide) 0 0 [] 0 (by decide)
 have en : nrm lets = fzs (lets.map fv) := by simp [nrm, fzs]
 rw [en] at c3
 rw [hl1] at c5
 generalize walkR (limI bits).toNat x.v (lets.map fv) 0 [] code = R at *
 generalize hP : placeN x.y.length x.p.length lets.length code = pl at *
 have hnp : ¬ 0 ≤ pl := by omega
 generalize limI bits = L at *
 generalize fzs (lets.map fv) = LS at *
 generalize x.v.f = Q at *
 obtain ⟨⟨t0, t1, t2⟩, y, pp⟩ := x
 obtain ⟨⟨q0, q1, q2⟩, qy, qp⟩ := Q
 obtain ⟨v, kind, at_⟩ := R
 dsimp only at *
 generalize fz v = V at *
 obtain ⟨v0, v1, v2⟩ := V
 simp only [hpA, Int.natCast_zero, rowF_nil] at c5
 clear hyl hpl hml hok e hx hls en hl1 hl2
 rw [f462 _ rfl, b462]
 rcases hk with rfl | rfl
 ·simp -implicitDefEqProofs [c1, c2, c3, c4, c5, hnp, bxG]
 ·simp -implicitDefEqProofs [c1, c2, c3, c4, c5, hnp, bxG]
end
end Go.Ab
end

section
namespace Go.Ab
def valT (P : Po) (ls : List Rat) : Tre → Option Rat
 | .leaf x => some (leafV P ls x)
 | .un x a => (valT P ls a).bind fun v => if (unV x v).2 = true then some (unV x v).1 else none
 | .bin x a b => (valT P ls a).bind fun v => (valT P ls b).bind fun w => if (biV x.op v w).2 = true then some (biV x.op v w).1 else none
theorem valT_of {lim : Nat} {P : Po} {ls : List Rat} : ∀ {t : Tre} {i : Nat}, (evT lim P ls t i).2.1 = 0 → valT P ls t = some (evT lim P ls t i).1
 | .leaf x, i, h => by
  have := (finV_ok (show (finV lim (leafV P ls x, true) i).2.1 = 0 from h)).2.2
  show some (leafV P ls x) = some (finV lim (leafV P ls x, true) i).1
  rw [this]
 | .un x a, i, h => by
  unfold evT at h ⊢
  by_cases ha : (evT lim P ls a i).2.1 ≠ 0
  ·rw [if_pos ha] at h; exact absurd h ha
  ·rw [if_neg ha] at h ⊢
   have hk := finV_ok h
   have ih := valT_of (t := a) (i := i) (by simpa using ha)
   rw [hk.2.2, valT, ih, Option.bind_some, if_pos hk.1]
 | .bin x a b, i, h => by
  unfold evT at h ⊢
  by_cases ha : (evT lim P ls a i).2.1 ≠ 0
  ·rw [if_pos ha] at h; exact absurd h ha
  ·rw [if_neg ha] at h ⊢
   by_cases hb : (evT lim P ls b (i + a.flat.length)).2.1 ≠ 0
   ·rw [if_pos hb] at h; exact absurd h hb
   ·rw [if_neg hb] at h ⊢
    have hk := finV_ok h
    have iha := valT_of (t := a) (i := i) (by simpa using ha)
    have ihb := valT_of (t := b) (i := i + a.flat.length) (by simpa using hb)
    rw [hk.2.2, valT, iha, ihb, Option.bind_some, Option.bind_some, if_pos hk.1]
theorem finV_np {lim : Nat} {v : Rat × Bool} {i : Nat} (h : v.2 = true) : (finV lim v i).2.1 ≠ 3 := by
 unfold finV
 rw [if_neg (by rw [h]; decide)]
 split <;> simp
theorem valT_np {P : Po} {ls : List Rat} {lim : Nat} : ∀ {t : Tre} {v : Rat} {i : Nat}, valT P ls t = some v → (evT lim P ls t i).2.1 ≠ 3
 | .leaf x, v, i, _ => finV_np rfl
 | .un x a, v, i, h => by
  simp only [valT, Option.bind_eq_some_iff] at h
  obtain ⟨u, h1, h2⟩ := h
  have ih := valT_np (lim := lim) (i := i) h1
  unfold evT
  split
  ·exact ih
  ·next ha =>
   have hu := valT_of (t := a) (lim := lim) (i := i) (by simpa using ha)
   rw [h1] at hu
   cases hu
   refine finV_np ?_
   split at h2
   ·assumption
   ·cases h2
 | .bin x a b, v, i, h => by
  simp only [valT, Option.bind_eq_some_iff] at h
  obtain ⟨u, h1, w, h2, h3⟩ := h
  have iha := valT_np (lim := lim) (i := i) h1
  have ihb := valT_np (lim := lim) (i := i + a.flat.length) h2
  unfold evT
  split
  ·exact iha
  ·next ha =>
   split
   ·exact ihb
   ·next hb =>
    have hu := valT_of (t := a) (lim := lim) (i := i) (by simpa using ha)
    have hw := valT_of (t := b) (lim := lim) (i := i + a.flat.length) (by simpa using hb)
    rw [h1] at hu
    rw [h2] at hw
    cases hu
    cases hw
    refine finV_np ?_
    split at h3
    ·assumption
    ·cases h3
theorem valT_ev {P : Po} {ls : List Rat} {lim : Nat} {t : Tre} {v : Rat} {i : Nat} (h : valT P ls t = some v) (hk : (evT lim P ls t i).2.1 = 0) : (evT lim P ls t i).1 = v := by
 have := valT_of hk
 rw [h] at this
 exact (Option.some.inj this).symm
structure Fine (P : Po) (yl pl : Int) (t : Tre) (v : Rat) : Prop where
 ok : t.ok
 nd : ∀ x ∈ t.flat, okN yl pl 0 x = true
 v : valT P [] t = some v
theorem okN_op (yl pl : Int) (op : Int) (h : 6 ≤ op ∧ op ≤ 10) : okN yl pl 0 ⟨op, 0, []⟩ = true := by
 unfold okN
 rw [if_neg (by dsimp only; omega), if_neg (by simp; omega), if_neg (by dsimp only; omega), if_neg (by dsimp only; omega), if_neg (by dsimp only; omega), if_neg (by dsimp only; omega)]
 rfl
theorem okN_pow (yl pl : Int) (e : Int) (h : -8 ≤ e ∧ e ≤ 8) : okN yl pl 0 ⟨11, e, []⟩ = true := by
 unfold okN
 simp [h.1, h.2]
theorem wordsB_k (k : Nat) (h : k < 10) : wordsB (if k = 0 then [] else [w32 k]) = true := by
 unfold wordsB
 have hv : val (if k = 0 then [] else [w32 k]) = k := by
  split
  ·next h0 => rw [h0]; rfl
  ·rw [val_cons, val_nil, w32_toNat]; omega
 rw [hv]
 have h1 : (if k = 0 then [] else [w32 k]) = ofN k := by
  split
  ·next h0 => rw [h0, ofN_zero]
  ·next h0 => rw [ofN_pos h0, show k / 4294967296 = 0 by omega, ofN_zero]
 rw [h1, textN_small h]
 simp
theorem okN_k (yl pl : Int) (k : Nat) (h : k < 10) : ∀ x ∈ kN (k : Int), okN yl pl 0 x = true := by
 intro x hx
 rw [List.mem_singleton.1 hx]
 unfold okN
 rw [if_pos rfl]
 have : wordsB (if (k : Int) = 0 then [] else [w32 (k : Int).toNat]) = true := by
  have := wordsB_k k h
  by_cases h0 : k = 0
  ·subst h0; simpa using this
  ·rw [if_neg h0] at this
   rw [if_neg (by omega)]
   simpa using this
 rw [this]
 rfl
section
variable {P : Po} {yl pl : Int}
theorem fine_k (k : Nat) (h : k < 10) : ∃ t v, Fine P yl pl t v ∧ t.flat = kN (k : Int) :=
 ⟨.leaf ⟨1, 0, if (k : Int) = 0 then [] else [w32 (k : Int).toNat]⟩, _, ⟨rfl, okN_k yl pl k h, rfl⟩, rfl⟩
theorem fine_bin {op : Int} {a b : Tre} {u w : Rat} (ho : 7 ≤ op ∧ op ≤ 10) (ha : Fine P yl pl a u) (hb : Fine P yl pl b w) (h10 : op = 10 → w ≠ 0) : Fine P yl pl (.bin ⟨op, 0, []⟩ a b) (biV op u w).1 := by
 have h2 : (biV op u w).2 = true := by
  unfold biV
  split
  ·rfl
  ·split
   ·rfl
   ·split
    ·rfl
    ·simp only [decide_eq_true_eq]; exact h10 (by omega)
 refine ⟨⟨by show arN op = 2; rcases arN_cases op with h | h | h | h <;> omega, ha.ok, hb.ok⟩, fun x hx => ?_, ?_⟩
 ·simp only [Tre.flat, List.mem_append, List.mem_singleton] at hx
  rcases hx with hx | hx | rfl
  ·exact ha.nd x hx
  ·exact hb.nd x hx
  ·exact okN_op yl pl op (by omega)
 ·rw [valT, ha.v, hb.v, Option.bind_some, Option.bind_some, if_pos h2]
theorem fine_neg {a : Tre} {u : Rat} (ha : Fine P yl pl a u) : Fine P yl pl (.un ⟨6, 0, []⟩ a) (-u) := by
 refine ⟨⟨rfl, ha.ok⟩, fun x hx => ?_, ?_⟩
 ·simp only [Tre.flat, List.mem_append, List.mem_singleton] at hx
  rcases hx with hx | rfl
  ·exact ha.nd x hx
  ·exact okN_op yl pl 6 (by omega)
 ·rw [valT, ha.v, Option.bind_some]; rfl
theorem fine_pow {a : Tre} {u : Rat} {e : Int} (ha : Fine P yl pl a u) (he : -8 ≤ e ∧ e ≤ 8) (h0 : e < 0 → u ≠ 0) : Fine P yl pl (.un ⟨11, e, []⟩ a) (powZ u e) := by
 have hp : powR u e = (powZ u e, true) := by unfold powR; rw [if_pos ⟨he.1, he.2, fun hh => h0 hh.1 hh.2⟩]
 refine ⟨⟨rfl, ha.ok⟩, fun x hx => ?_, ?_⟩
 ·simp only [Tre.flat, List.mem_append, List.mem_singleton] at hx
  rcases hx with hx | rfl
  ·exact ha.nd x hx
  ·exact okN_pow yl pl e he
 ·rw [valT, ha.v, Option.bind_some]
  show (if (unV ⟨11, e, []⟩ u).2 = true then _ else _) = _
  have hu : unV ⟨11, e, []⟩ u = powR u e := rfl
  rw [hu, hp]; rfl
def Der (P : Po) (yl pl : Int) (l : List Nd) : Prop := l = [] ∨ ∃ d w, Fine P yl pl d w ∧ d.flat = l
theorem der_join2 {op : Int} (ho : 7 ≤ op ∧ op ≤ 10) {a b : List Nd} (ha : ∃ d w, Fine P yl pl d w ∧ d.flat = a) (hb : ∃ d w, Fine P yl pl d w ∧ d.flat = b ∧ (op = 10 → w ≠ 0)) : ∃ d w, Fine P yl pl d w ∧ d.flat = joinN op [a, b] := by
 obtain ⟨d, w, h1, h2⟩ := ha
 obtain ⟨d', w', h3, h4, h5⟩ := hb
 exact ⟨_, _, fine_bin ho h1 h3 h5, by simp [Tre.flat, joinN, h2, h4]⟩
theorem der_neg {a : List Nd} (ha : ∃ d w, Fine P yl pl d w ∧ d.flat = a) : ∃ d w, Fine P yl pl d w ∧ d.flat = joinN 6 [a] := by
 obtain ⟨d, w, h1, h2⟩ := ha
 exact ⟨_, _, fine_neg h1, by simp [Tre.flat, joinN, h2]⟩
theorem der_both {op : Int} (ho : op = 7 ∨ op = 8) {a b : List Nd} (ha : Der P yl pl a) (hb : Der P yl pl b) : Der P yl pl (bothN op a b) := by
 unfold bothN
 split
 ·exact ha
 ·next h1 =>
  have hb' := hb.resolve_left h1
  split
  ·next h2 =>
   obtain ⟨d, w, h3, h4⟩ := hb'
   exact .inr (der_join2 (by omega) (ha.resolve_left h2) ⟨d, w, h3, h4, fun h => by omega⟩)
  ·split
   ·exact .inr (der_neg hb')
   ·exact .inr hb'
theorem der_times {op : Int} (ho : op = 9 ∨ op = 10) {d : List Nd} {o : Tre} {w : Rat} (hd : Der P yl pl d) (hw : Fine P yl pl o w) (h10 : op = 10 → w ≠ 0) : Der P yl pl (timesN op d o.flat true) := by
 unfold timesN
 split
 ·exact .inl rfl
 ·next h1 => exact .inr (der_join2 (by omega) (hd.resolve_left h1) ⟨o, w, hw, rfl, h10⟩)
theorem der_times' {d : List Nd} {o : Tre} {w : Rat} (hd : Der P yl pl d) (hw : Fine P yl pl o w) : Der P yl pl (timesN 9 d o.flat false) := by
 unfold timesN
 split
 ·exact .inl rfl
 ·next h1 =>
  obtain ⟨e, v, h3, h4⟩ := hd.resolve_left h1
  exact .inr (der_join2 (by decide) ⟨o, w, hw, rfl⟩ ⟨e, v, h3, h4, fun h => by cases h⟩)
theorem der_fine (u : Nd) : ∀ (t : Tre) (v : Rat), Fine P yl pl t v → Der P yl pl (t.der u)
 | .leaf x, v, h => by
  unfold Tre.der
  split
  ·have := fine_k (P := P) (yl := yl) (pl := pl) 1 (by decide)
   exact .inr this
  ·exact .inl rfl
 | .un x a, v, h => by
  have hv := h.v
  simp only [valT, Option.bind_eq_some_iff] at hv
  obtain ⟨va, h1, h2⟩ := hv
  have hok : (unV x va).2 = true := by
   split at h2
   ·assumption
   ·cases h2
  have ha : Fine P yl pl a va := ⟨h.ok.2, fun y hy => h.nd y (by simp [Tre.flat, hy]), h1⟩
  have ih := der_fine u a va ha
  have hn := okN_un (h.nd x (by simp [Tre.flat]))
  show Der P yl pl (oneN x a.flat (a.der u))
  unfold oneN
  split
  ·exact .inl rfl
  ·next hc =>
   have hda : a.der u ≠ [] := fun hh => hc (.inl hh)
   have hD := ih.resolve_left hda
   split
   ·exact .inr (der_neg hD)
   ·next h6 =>
    have h11 : x.op = 11 := by
     have := h.ok.1
     rcases arN_cases x.op with ⟨e, h⟩ | ⟨e, h⟩ | ⟨e, h⟩ | ⟨e, h⟩ <;> omega
    have hi := hn.2 h11
    have hi0 : x.i ≠ 0 := fun hh => hc (.inr ⟨h11, hh⟩)
    have hu : unV x va = powR va x.i := by unfold unV; rw [if_neg h6]
    split
    ·next hp =>
     have e1 : (x.i.toNat : Int) = x.i := by omega
     obtain ⟨kt, kv, hk, hkf⟩ := fine_k (P := P) (yl := yl) (pl := pl) x.i.toNat (by omega)
     rw [e1] at hkf
     have hpw := fine_pow (e := x.i - 1) ha (by omega) (fun hh => by omega)
     have h3 := fine_bin (op := 9) (by decide) hk hpw (fun hh => by cases hh)
     obtain ⟨d, w, h4, h5⟩ := hD
     refine .inr (der_join2 (by decide) ⟨_, _, h3, ?_⟩ ⟨d, w, h4, h5, fun hh => by cases hh⟩)
     simp [Tre.flat, joinN, hkf, powN]
    ·next hp =>
     have e1 : ((-x.i).toNat : Int) = -x.i := by omega
     have hva : va ≠ 0 := by
      intro hh
      rw [hu] at hok
      unfold powR at hok
      split at hok
      ·next h7 => exact h7.2.2 ⟨by omega, hh⟩
      ·cases hok
     obtain ⟨kt, kv, hk, hkf⟩ := fine_k (P := P) (yl := yl) (pl := pl) (-x.i).toNat (by omega)
     rw [e1] at hkf
     have hpw := fine_pow (e := x.i) ha (by omega) (fun _ => hva)
     have h3 := fine_bin (op := 9) (by decide) hk hpw (fun hh => by cases hh)
     obtain ⟨d, w, h4, h5⟩ := hD
     have h6' := fine_bin (op := 9) (by decide) h3 h4 (fun hh => by cases hh)
     refine .inr (der_neg (der_join2 (by decide) ⟨_, _, h6', ?_⟩ ⟨a, va, ha, rfl, fun _ => hva⟩))
     simp [Tre.flat, joinN, hkf, powN, h5]
 | .bin x a b, v, h => by
  have hv := h.v
  simp only [valT, Option.bind_eq_some_iff] at hv
  obtain ⟨va, h1, vb, h2, h3⟩ := hv
  have hok : (biV x.op va vb).2 = true := by
   split at h3
   ·assumption
   ·cases h3
  have ha : Fine P yl pl a va := ⟨h.ok.2.1, fun y hy => h.nd y (by simp [Tre.flat, hy]), h1⟩
  have hb : Fine P yl pl b vb := ⟨h.ok.2.2, fun y hy => h.nd y (by simp [Tre.flat, hy]), h2⟩
  have iha := der_fine u a va ha
  have ihb := der_fine u b vb hb
  show Der P yl pl (twoN x.op a.flat (a.der u) b.flat (b.der u))
  unfold twoN
  split
  ·exact der_both (.inl rfl) (der_times (.inl rfl) iha hb (fun hh => by cases hh)) (der_times (.inl rfl) ihb ha (fun hh => by cases hh) |> fun _ => der_times' ihb ha)
  ·next h9 =>
   split
   ·next h10 =>
    have hvb : vb ≠ 0 := by
     rw [h10] at hok
     simpa [biV] using hok
    refine der_both (.inr rfl) (der_times (.inr rfl) iha hb (fun _ => hvb)) ?_
    unfold lowN
    split
    ·exact .inl rfl
    ·next hz =>
     have h5 := (der_times' ihb ha).resolve_left hz
     have h6 := fine_bin (op := 9) (by decide) hb hb (fun hh => by cases hh)
     refine .inr (der_join2 (by decide) h5 ⟨_, _, h6, by simp [Tre.flat, joinN], fun _ => ?_⟩)
     show vb * vb ≠ 0
     exact fun hh => by rcases Rat.mul_eq_zero.1 hh with h | h <;> exact hvb h
   ·next h10 =>
    refine der_both ?_ iha ihb
    have := h.ok.1
    rcases arN_cases x.op with ⟨e, h⟩ | ⟨e, h⟩ | ⟨e, h⟩ | ⟨e, h⟩ <;> omega
theorem der_free (u : Nd) : ∀ (t : Tre), (∀ x ∈ t.flat, ¬ (x.op = u.op ∧ x.i = u.i)) → t.der u = []
 | .leaf x, h => by
  unfold Tre.der
  rw [if_neg (h x (by simp [Tre.flat]))]
 | .un x a, h => by
  have ih := der_free u a (fun y hy => h y (by simp [Tre.flat, hy]))
  show oneN x a.flat (a.der u) = []
  rw [ih]
  unfold oneN
  rw [if_pos (.inl rfl)]
 | .bin x a b, h => by
  have iha := der_free u a (fun y hy => h y (by simp [Tre.flat, hy]))
  have ihb := der_free u b (fun y hy => h y (by simp [Tre.flat, hy]))
  show twoN x.op a.flat (a.der u) b.flat (b.der u) = []
  rw [iha, ihb]
  simp [twoN, bothN, timesN, lowN]
end
end Go.Ab
end

section
namespace Go.Ab
theorem longN_false {l : List Nd} {many words : Nat} (h : (decide (many < l.length) || (l.take many).any fun x => decide (words < x.n.length)) = false) : l.length ≤ many ∧ thin words l := by
 have h1 : l.length ≤ many := by
  simp only [Bool.or_eq_false_iff, decide_eq_false_iff_not] at h
  omega
 refine ⟨h1, fun x hx => ?_⟩
 rw [List.take_of_length_le h1] at h
 simp only [Bool.or_eq_false_iff, List.any_eq_false, decide_eq_true_eq] at h
 have := h.2 x hx
 omega
theorem thin_mono {a b : Nat} (h : a ≤ b) {l : List Nd} (hl : thin a l) : thin b l := fun x hx => Nat.le_trans (hl x hx) h
section
variable {T : Tbl} [CLimb T] [CNat T] [CProd T] [CTwos T] [CQuot T] [CQuotD T] [CWhole T] [CCommon T] [CFrac T] [CFrac2 T] [CFrac3 T] [CFrac5 T] [CPow T] [CTape T] [CGauge T] [CEval T] [CEval2 T] [CTree T] [CText T] [CLenD T] [CDiff T] [CRef23 T] [CRef17 T] [CRef02 T] [CRef04 T] [CRef05 T] [CRef07 T] [CLaw17 T] [CLaw23 T] [CLaw23b T]
 [CRef06 T] [CRef08 T] [CRef09 T] [CRef11 T] [CLaw09 T] [CLaw11 T] [CLaw24 T]
theorem eval_Code_any (code : List Nd) (x : PoF) (bits : Int) (hx : PoS x 1000) (hl : code.length ≤ 3000) (hn : thin 1000 code) :
  ∃ (z : Fz) (K A : Int), callF T 462 [.sl (rowN code) .an, ept x, .sl [] .an, .i .i64 bits] = some (.tup [efz z, flt4 K 0 0 A]) ∧ (K = 0 → placeN x.y.length x.p.length 0 code < 0 ∧ (walkR (limI bits).toNat x.v [] 0 [] code).2.1 = 0) := by
 by_cases h : placeN x.y.length x.p.length 0 code < 0
 ·have := eval_Code_ok (T := T) code x [] bits hx (by decide) (by simp) hl hn h
  exact ⟨_, _, _, this, fun hk => ⟨h, by simpa using hk⟩⟩
 ·have := eval_Code_bad (T := T) code x [] bits hl hn (by show 0 ≤ placeN x.y.length x.p.length 0 code; omega)
  exact ⟨_, _, _, this, fun hk => by cases hk⟩
theorem eval_Code_fine (t : Tre) (w : Rat) (x : PoF) (bits : Int) (hx : PoS x 1000) (hf : Fine x.v x.y.length x.p.length t w) (hl : t.flat.length ≤ 3000) (hn : thin 1000 t.flat) :
  ∃ (z : Fz) (K A : Int), callF T 462 [.sl (rowN t.flat) .an, ept x, .sl [] .an, .i .i64 bits] = some (.tup [efz z, flt4 K 0 0 A]) ∧ ((K = 0 ∧ z = fz w ∧ sz w ≤ 129) ∨ K = 6) := by
 have h := placeN_flat hf.ok hf.nd
 have c := eval_Code_ok (T := T) t.flat x [] bits hx (by decide) (by simp) hl hn (by show placeN x.y.length x.p.length 0 t.flat < 0; rw [h]; decide)
 have hm : ([] : List Fz).map fv = [] := rfl
 rw [hm, walk_tree _ _ _ _ hf.ok] at c
 refine ⟨_, _, _, c, ?_⟩
 rcases evT_kind (limI bits).toNat x.v [] t 0 with hk | hk | hk
 ·left
  have hv := valT_ev hf.v hk
  refine ⟨by rw [hk]; rfl, by rw [hv], ?_⟩
  have := (evT_ok hk).2
  rw [hv] at this
  exact fit_sz (limI_toNat bits).2 this
 ·exact absurd hk (valT_np hf.v)
 ·right; rw [hk]; rfl
theorem law23_defined (l : List Nd) (u : Nd) (x : PoF) : callF T 457 [.sl (rowN l) .an, .agg (celN u), ept x] = some (.b true) := by
 have hw := law23_works (T := T)
 have cl := ref17_long (T := T) l 12 2 (.inr (by decide)) (by decide)
 have cl2 := ref21_long (T := T) x 6 1 (by decide)
 simp only [Int.cast_ofNat_Int, Int.natCast_one] at cl cl2
 rw [f457 _ rfl, b457]
 cases hL : (decide (12 < l.length) || (l.take 12).any fun x => decide (2 < x.n.length)) with
 | true =>
  rw [hL] at cl
  obtain ⟨op, i, n⟩ := u
  obtain ⟨⟨x0, x1, x2⟩, xy, xp⟩ := x
  simp -implicitDefEqProofs [hw, cl]
 | false =>
 rw [hL] at cl
 obtain ⟨hlen, hth⟩ := longN_false hL
 clear hL
 have hthin := thin_mono (b := 1000) (by decide) hth
 cases hP : longP x 6 1 with
 | true =>
  rw [hP] at cl2
  obtain ⟨op, i, n⟩ := u
  obtain ⟨⟨x0, x1, x2⟩, xy, xp⟩ := x
  simp -implicitDefEqProofs [hw, cl, cl2]
 | false =>
 rw [hP] at cl2
 have hx0 := longP_false hP (by decide)
 have hx : PoS x 1000 := ⟨Nat.le_trans hx0.t (by decide), fun u hu => Nat.le_trans (hx0.y u hu) (by decide), fun u hu => Nat.le_trans (hx0.p u hu) (by decide), hx0.yl, hx0.pl⟩
 clear hP hx0
 by_cases hun : 0 < u.n.length
 ·obtain ⟨op, i, n⟩ := u
  obtain ⟨⟨x0, x1, x2⟩, xy, xp⟩ := x
  dsimp only at hun
  have hne : n ≠ [] := List.length_pos_iff.1 hun
  simp -implicitDefEqProofs [hw, cl, cl2, hun, hne]
 have hu0 : u.n = [] := List.length_eq_zero_iff.1 (by omega)
 have t1 := law17_to (T := T) l (by omega)
 have t2 := law23_to (T := T) u
 have t3 := law21_to (T := T) x hx.yl hx.pl
 obtain ⟨z0, K0, A0, ce, hce⟩ := eval_Code_any (T := T) l x 200 hx (by omega) hthin
 have cf := diff_free (T := T) u l (by omega)
 by_cases hno : unkB u = false ∨ 300 < l.length ∨ 0 ≤ placeN 6 6 0 l
 ·have cb := diff_By_no (T := T) u l (by omega) hthin (by rw [hu0]; decide) hno
  obtain ⟨op, i, n⟩ := u
  obtain ⟨⟨x0, x1, x2⟩, xy, xp⟩ := x
  obtain ⟨z00, z01, z02⟩ := z0
  dsimp only at hu0
  subst hu0
  simp only [celN, u32s_nil] at *
  clear hce cf hx hno hthin hth
  simp -implicitDefEqProofs [hw, cl, cl2, t1, t2, t3, ce, cb]
 have hunk : unkB u = true := by
  cases h : unkB u with
  | true => rfl
  | false => exact absurd (.inl h) hno
 obtain ⟨t, ht, rfl, hok⟩ := placeN_tree (show placeN 6 6 0 l < 0 from Classical.byContradiction fun h => hno (.inr (.inr (by omega))))
 have cb := diff_By_ok (T := T) u t ht hok (by omega) hthin (by rw [hu0]; decide) hunk
 by_cases hK : K0 = 0
 ·subst hK
  obtain ⟨hpl, hk0⟩ := hce rfl
  obtain ⟨_, _, _, hnd⟩ := placeN_tree hpl
  have hA : A0 = 0 := by
   have c := eval_Code_ok (T := T) t.flat x [] 200 hx (by decide) (by simp) (by omega) hthin hpl
   have e : callF T 462 [.sl (rowN t.flat) .an, ept x, .sl (rowF []) .an, .i .i64 200] = callF T 462 [.sl (rowN t.flat) .an, ept x, .sl [] .an, .i .i64 200] := rfl
   have hm : ([] : List Fz).map fv = [] := rfl
   rw [e, ce, hm, walkR_at _ _ _ _ _ _ hk0] at c
   have c2 := congrArg (fun o => match o with | some (.tup [_, .agg [_, _, _, .i _ a]]) => some a | _ => none) c
   exact Option.some.inj c2
  subst hA
  rw [walk_tree _ _ _ _ ht] at hk0
  have hv0 := valT_of hk0
  have hfin : Fine x.v x.y.length x.p.length t _ := ⟨ht, hnd, hv0⟩
  generalize (evT (limI 200).toNat x.v [] t 0).1 = v0 at hv0 hfin
  -- the derivative, and that of the expression doubled
  have hder : ∃ d w e, Fine x.v x.y.length x.p.length d w ∧ d.flat = derF u t ∧ Fine x.v x.y.length x.p.length e (w + w) ∧ e.flat = derF u (.bin ⟨7, 0, []⟩ t t) ∧ (t.der u = [] → w = 0) := by
   rcases der_fine u t v0 hfin with h0 | ⟨d, w, h1, h2⟩
   ·have e1 : derF u t = kN 0 := by unfold derF; rw [if_pos h0]
    have e2 : derF u (.bin ⟨7, 0, []⟩ t t) = kN 0 := by
     have : (Tre.bin ⟨7, 0, []⟩ t t).der u = [] := by
      show twoN 7 t.flat (t.der u) t.flat (t.der u) = []
      rw [h0]; simp [twoN, bothN]
     unfold derF; rw [if_pos this]
    have fk : Fine x.v x.y.length x.p.length (.leaf ⟨1, 0, []⟩) 0 := by
     refine ⟨rfl, fun y hy => ?_, ?_⟩
     ·rw [List.mem_singleton.1 hy]
      exact okN_k x.y.length x.p.length 0 (by decide) _ (by simp [kN])
     ·show some (leafV x.v [] ⟨1, 0, []⟩) = some 0
      simp [leafV]
    refine ⟨.leaf ⟨1, 0, []⟩, 0, .leaf ⟨1, 0, []⟩, fk, by rw [e1]; rfl, ?_, by rw [e2]; rfl, fun _ => rfl⟩
    rw [Rat.add_zero]
    exact fk
   ·have hne : t.der u ≠ [] := by rw [← h2]; exact d.flat_ne
    have e1 : derF u t = t.der u := by unfold derF; rw [if_neg hne]
    have e3 : (Tre.bin ⟨7, 0, []⟩ t t).der u = joinN 7 [t.der u, t.der u] := by
     show twoN 7 t.flat (t.der u) t.flat (t.der u) = _
     simp [twoN, bothN, hne]
    have e2 : derF u (.bin ⟨7, 0, []⟩ t t) = joinN 7 [t.der u, t.der u] := by
     unfold derF; rw [if_neg (by rw [e3]; exact joinN_ne _ _), e3]
    refine ⟨d, w, .bin ⟨7, 0, []⟩ d d, h1, by rw [e1, h2], fine_bin (op := 7) (by decide) h1 h1 (fun h => by cases h), ?_, fun h => absurd h hne⟩
    rw [e2]
    simp [Tre.flat, joinN, h2]
  obtain ⟨d, w, e, hfd, hd, hfe, he, hw0⟩ := hder
  have ld : (derF u t).length ≤ 1441 := by
   unfold derF
   split
   ·rw [kN_len]; decide
   ·have h1 := der_le u t
    have h2 : t.flat.length * t.flat.length ≤ 12 * 12 := Nat.mul_le_mul hlen hlen
    omega
  have htw : (Tre.bin ⟨7, 0, []⟩ t t).flat = t.flat ++ (t.flat ++ [⟨7, 0, []⟩]) := rfl
  have lt : (Tre.bin ⟨7, 0, []⟩ t t).flat.length ≤ 25 := by rw [htw]; simp only [List.length_append, List.length_cons, List.length_nil]; omega
  have le : (derF u (.bin ⟨7, 0, []⟩ t t)).length ≤ 2883 := by
   unfold derF
   split
   ·rw [kN_len]; decide
   ·have h1 := der_le u t
    have h2 : t.flat.length * t.flat.length ≤ 12 * 12 := Nat.mul_le_mul hlen hlen
    have h3 := bothN_le 7 (t.der u) (t.der u)
    show (twoN 7 t.flat (t.der u) t.flat (t.der u)).length ≤ _
    have h4 : twoN 7 t.flat (t.der u) t.flat (t.der u) = bothN 7 (t.der u) (t.der u) := by simp [twoN]
    rw [h4]
    omega
  have thd : thin 1000 (derF u t) := derF_thin hthin
  have tht : thin 1000 (Tre.bin ⟨7, 0, []⟩ t t).flat := by
   rw [htw]
   refine thin_app hthin (thin_app hthin fun y hy => ?_)
   rw [List.mem_singleton.1 hy]; exact Nat.zero_le _
  have the : thin 1000 (derF u (.bin ⟨7, 0, []⟩ t t)) := derF_thin tht
  have okt : ∀ y ∈ (Tre.bin ⟨7, 0, []⟩ t t).flat, okN 6 6 0 y = true := by
   intro y hy
   rw [htw] at hy
   simp only [List.mem_append, List.mem_singleton] at hy
   rcases hy with hy | hy | rfl
   ·exact hok y hy
   ·exact hok y hy
   ·exact okN_op 6 6 7 (by decide)
  have cb2 := diff_By_ok (T := T) u (.bin ⟨7, 0, []⟩ t t) ⟨rfl, ht, ht⟩ okt (by omega) tht (by rw [hu0]; decide) hunk
  have cr := tree_right (T := T) (derF u t) (by omega)
  have hwr : wrongN (derF u t) = -1 := by rw [← hd]; exact wrongN_flat hfd.ok
  rw [hwr] at cr
  simp only [decide_true] at cr
  obtain ⟨z1, K1, A1, ce1, hz1⟩ := eval_Code_fine (T := T) d w x 4000 hx hfd (by rw [hd]; omega) (by rw [hd]; exact thd)
  obtain ⟨z2, K2, A2, ce2, hz2⟩ := eval_Code_fine (T := T) e (w + w) x 4000 hx hfe (by rw [he]; omega) (by rw [he]; exact the)
  rw [hd] at ce1
  rw [he] at ce2
  have hp0 := rowN_push0 (t.flat ++ t.flat) 7 0
  rw [htw] at cb2
  have hap : rowN t.flat ++ rowN t.flat = rowN (t.flat ++ t.flat) := rowN_append _ _
  have hfr : freeB u t.flat = true → w = 0 := by
   intro hf
   refine hw0 (der_free u t fun y hy hh => ?_)
   unfold freeB at hf
   have hf2 : (t.flat.any fun x => decide (x.op = u.op) && decide (x.i = u.i)) = false := by
    cases h : (t.flat.any fun x => decide (x.op = u.op) && decide (x.i = u.i)) with
    | false => rfl
    | true => rw [h] at hf; cases hf
   have := List.any_eq_false.1 hf2 y hy
   simp [hh] at this
  clear hd he hfd hfe hw0 hv0 hfin hk0 hpl hnd okt lt le hwr
  rw [List.append_assoc] at hp0
  have h31 : t.flat.length + t.flat.length ≤ 4294967296 := by omega
  have h32 : t.flat.length ≤ 4294967296 := by omega
  have h33 : t.flat.length + t.flat.length + 1 ≤ 4294967296 := by omega
  have h34 : (rowN (t.flat ++ t.flat)).take (t.flat.length + t.flat.length) = rowN (t.flat ++ t.flat) := List.take_of_length_le (by simp)
  have h35 : t.flat.length + t.flat.length + 1 ≤ t.flat.length + (t.flat.length + 1) := by omega
  have h36 : wkL (List.take (t.flat.length + t.flat.length + 1) (rowN (t.flat ++ t.flat) ++ [[.i .i64 7, .i .i64 0, .sl [] .nl]])) = rowN (t.flat ++ (t.flat ++ [⟨7, 0, []⟩])) := by
   rw [List.take_of_length_le (by simp only [List.length_append, rowN_length, List.length_cons, List.length_nil]; omega)]
   exact hp0
  generalize hF : freeB u t.flat = FR at *
  generalize derF u t = D at *
  generalize derF u (.bin ⟨7, 0, []⟩ t t) = E at *
  generalize t.flat = code at *
  obtain ⟨op, i, n⟩ := u
  obtain ⟨⟨x0, x1, x2⟩, xy, xp⟩ := x
  obtain ⟨z00, z01, z02⟩ := z0
  dsimp only at hu0
  subst hu0
  simp only [celN, u32s_nil] at *
  clear hx hno hthin hth hce htw ht hok hunk thd tht the ld
  rcases hz1 with ⟨rfl, rfl, s1⟩ | rfl
  ·rcases hz2 with ⟨rfl, rfl, s2⟩ | rfl
   ·have q1 := frac_sign (T := T) (fz w) (by rw [fsz_fz]; omega)
    have q2 := frac_add (T := T) (fz w) (fz w) (by rw [fsz_fz]; omega) (by rw [fsz_fz]; omega)
    have q3 := frac_same (T := T) (fz (w + w)) (fz (w + w)) (by rw [fsz_fz]; omega) (by rw [fsz_fz]; omega)
    rw [fv_fz] at q1
    rw [fv_fz] at q2
    simp only [decide_true] at q3
    cases FR with
    | true =>
     have hw1 := hfr rfl
     subst hw1
     have sg0 : sgQ 0 = 0 := by decide
     rw [sg0] at q1
     generalize fz (0 + 0) = V2 at *
     generalize fz 0 = V1 at *
     obtain ⟨v10, v11, v12⟩ := V1
     obtain ⟨v20, v21, v22⟩ := V2
     simp -implicitDefEqProofs [hw, cl, cl2, t1, t2, t3, ce, cb, cr, ce1, ce2, cb2, hp0, hap, h31, h32, h33, h34, h35, h36, cf, q1, q2, q3]
    | false =>
     generalize fz (w + w) = V2 at *
     generalize fz w = V1 at *
     obtain ⟨v10, v11, v12⟩ := V1
     obtain ⟨v20, v21, v22⟩ := V2
     simp -implicitDefEqProofs [hw, cl, cl2, t1, t2, t3, ce, cb, cr, ce1, ce2, cb2, hp0, hap, h31, h32, h33, h34, h35, h36, cf, q1, q2, q3]
   ·generalize fz w = V1 at *
    obtain ⟨v10, v11, v12⟩ := V1
    obtain ⟨v20, v21, v22⟩ := z2
    simp -implicitDefEqProofs [hw, cl, cl2, t1, t2, t3, ce, cb, cr, ce1, ce2, cb2, hp0, hap, h31, h32, h33, h34, h35, h36]
  ·obtain ⟨v10, v11, v12⟩ := z1
   obtain ⟨v20, v21, v22⟩ := z2
   rcases hz2 with ⟨rfl, _, _⟩ | rfl
   ·simp -implicitDefEqProofs [hw, cl, cl2, t1, t2, t3, ce, cb, cr, ce1, ce2, cb2, hp0, hap, h31, h32, h33, h34, h35, h36]
   ·simp -implicitDefEqProofs [hw, cl, cl2, t1, t2, t3, ce, cb, cr, ce1, ce2, cb2, hp0, hap, h31, h32, h33, h34, h35, h36]
 ·obtain ⟨op, i, n⟩ := u
  obtain ⟨⟨x0, x1, x2⟩, xy, xp⟩ := x
  obtain ⟨z00, z01, z02⟩ := z0
  dsimp only at hu0
  subst hu0
  generalize derF ⟨op, i, []⟩ t = D at *
  generalize t.flat = code at *
  simp only [celN, u32s_nil] at *
  clear hce cf hx hno hthin hth
  simp -implicitDefEqProofs [hw, cl, cl2, t1, t2, t3, ce, cb, hK]
end
end Go.Ab
end
