/-
  A calculus of values, boxes and code, and what functions of the program compute, proved in it.
  Conditions: none beyond those that the theorems state. (Part 6: GpDiff5, GpRef23, GpRef23b, GpLaw17, GpLaw23, GpLaw23b.)
-/
import Derived.Test.YtegcbhlfmmgmhaaDoorPart5

set_option linter.unusedSectionVars false
set_option linter.unusedVariables false
set_option linter.unusedSimpArgs false
set_option linter.unnecessarySimpa false

section
namespace Go.Ab
theorem okN_un {dim pars lets : Int} {x : Nd} (h : okN dim pars lets x = true) : (x.op = 6 → x.i = 0) ∧ (x.op = 11 → -8 ≤ x.i ∧ x.i ≤ 8) := by
 unfold okN at h
 constructor
 ·intro h6
  rw [h6] at h
  rw [if_neg (by decide)] at h
  split at h
  ·cases h
  ·simpa using h
 ·intro h11
  rw [h11] at h
  rw [if_neg (by decide)] at h
  split at h
  ·cases h
  ·simpa using h
theorem mid_drop (p m r : List Nd) (x : Nd) (i j : Nat) (hi : i = p.length + m.length) (hj : j = m.length) : (((p ++ m) ++ x :: r).take (i + 1)).drop (i - j) = m ++ [x] := by
 subst hi hj
 rw [List.take_append, List.length_append, List.take_of_length_le (by rw [List.length_append]; omega), show p.length + m.length + 1 - (p.length + m.length) = 1 by omega, show p.length + m.length - m.length = p.length by omega, List.append_assoc, List.drop_left]
 rfl
theorem thin_sub {w : Nat} {p m r : List Nd} (h : thin w (p ++ m ++ r)) : thin w m := fun x hx => h x (by simp [hx])
theorem tlen_sub {p m r code : List Nd} (h : p ++ m ++ r = code) : m.length ≤ code.length := by rw [← h, List.length_append, List.length_append]; omega
theorem der_le300 (u : Nd) (t : Tre) (h : t.flat.length ≤ 300) : (t.der u).length ≤ 900000 := by
 have h1 := der_le u t
 have h2 : t.flat.length * t.flat.length ≤ 300 * 300 := Nat.mul_le_mul h h
 omega
section
variable {T : Tbl} [CDiff T] [CTree T]
theorem by_loop (u : Nd) (code : List Nd) (t0 : Tre) (hok : ∀ x ∈ code, okN 6 6 0 x = true) (hthin : thin 1000 code) (hl : code.length ≤ 300) :
  ∀ p : List Tre × List Nd, (flats p.1.reverse ++ p.2 = code ∧ (∀ t ∈ p.1, t.ok) ∧ p.2.foldl pushT p.1 = [t0] ∧ (∃ i, wrongL i p.1.length p.2 = -1)) →
  loopN T 0 0 (.norm true [5]) l47_1 (stBy u code (pcs u p.1) (code.length - p.2.length)) =
   some (.n, ⟨[(5, .bs (.loc 5) 1 2 0 1)], [(.loc 5, ⟨1, .own, 2, rowP [(t0.flat, t0.der u)]⟩)], 3⟩) := by
 refine loopN_eq (fun p : List Tre × List Nd => stBy u code (pcs u p.1) (code.length - p.2.length)) _ (fun p => p.2.length) _ ?_
 rintro ⟨s, rest⟩ ⟨hc, hs, hf, j, hw⟩
 dsimp only at *
 cases rest with
 | nil =>
  right
  have e : s = [t0] := hf
  subst e
  rw [List.length_nil, Nat.sub_zero]
  have e2 : pcs u [t0] = [(t0.flat, t0.der u)] := rfl
  rw [e2]
  unfold stBy
  constructor <;> simp -implicitDefEqProofs [l47_1]
 | cons x r =>
  left
  have hlen : (flats s.reverse).length + (r.length + 1) = code.length := by rw [← hc]; simp
  have hi : code.length - (x :: r).length = (flats s.reverse).length := by rw [List.length_cons]; omega
  have hi2 : code.length - r.length = (flats s.reverse).length + 1 := by omega
  rw [hi]
  have hx : code[(flats s.reverse).length]? = some x := by rw [← hc]; simp
  have hxm : x ∈ code := by rw [← hc]; simp
  have hun := okN_un (hok x hxm)
  have hL : lenP (pcs u s) = (flats s.reverse).length := lenP_pcs u s
  have hsl : s.length ≤ (flats s.reverse).length := by
   have : s.reverse.length ≤ (flats s.reverse).length := by
    generalize s.reverse = q
    induction q with
    | nil => exact Nat.zero_le _
    | cons t q ih =>
     have := t.flat_pos
     show q.length + 1 ≤ (t.flat ++ flats q).length
     rw [List.length_append]; omega
   simpa using this
  have hpl := pcs_length u s
  have h1 : ¬ (arN x.op < 0 ∨ (s.length : Int) < arN x.op) := by
   intro hh
   unfold wrongL at hw
   rw [if_pos hh] at hw
   omega
  have hw2 : wrongL (j + 1) (s.length + 1 - arN x.op) r = -1 := by
   unfold wrongL at hw
   rwa [if_neg h1] at hw
  rcases arN_cases x.op with ⟨e, _⟩ | ⟨e, hop⟩ | ⟨e, _⟩ | ⟨e, _⟩
  ·have hp : pushT s x = .leaf x :: s := by simp [pushT, e]
   refine ⟨(.leaf x :: s, r), ⟨?_, ?_, ?_, j + 1, ?_⟩, by simp, ?_, rfl⟩
   ·rw [List.reverse_cons, flats_snoc, List.append_assoc]; exact hc
   ·intro t ht
    rcases List.mem_cons.1 ht with rfl | ht
    ·exact e
    ·exact hs t ht
   ·rw [List.foldl_cons, hp] at hf; exact hf
   ·rw [e] at hw2; rw [← hw2]; congr 1
   ·dsimp only
    rw [hi2, pcs_cons, by_step0 u x code (pcs u s) _ hx e (by omega) (by omega)]
    have := mid_drop (flats s.reverse) [] r x (flats s.reverse).length 0 (by simp) rfl
    rw [List.append_nil, hc, Nat.sub_zero] at this
    rw [this]
    rfl
  ·cases s with
   | nil => exfalso; apply h1; right; rw [e]; decide
   | cons a s1 =>
    have hp : pushT (a :: s1) x = .un x a :: s1 := by simp [pushT, e]
    have hc' : flats s1.reverse ++ a.flat ++ x :: r = code := by
     rw [← hc, List.reverse_cons, flats_snoc]
    have ta : thin 1000 a.flat := by rw [← hc'] at hthin; exact thin_sub hthin
    have la := tlen_sub hc'
    have tda := thin_der (w := 1000) (by decide) u a ta
    have lda := der_le300 u a (by omega)
    have hii : (flats (a :: s1).reverse).length = (flats s1.reverse).length + a.flat.length := by rw [List.reverse_cons, flats_snoc, List.length_append]
    have c1 := diff_one (T := T) x a.flat (a.der u) hop (by
     rcases hop with h | h
     ·have := hun.1 h; omega
     ·exact hun.2 h) hun.1 (by omega) ta tda
    refine ⟨(.un x a :: s1, r), ⟨?_, ?_, ?_, j + 1, ?_⟩, by simp, ?_, rfl⟩
    ·rw [List.reverse_cons, flats_snoc, Tre.flat, ← hc']; simp
    ·intro t ht
     rcases List.mem_cons.1 ht with rfl | ht
     ·exact ⟨e, hs a (by simp)⟩
     ·exact hs t (by simp [ht])
    ·rw [List.foldl_cons, hp] at hf; exact hf
    ·rw [e] at hw2; rw [← hw2]; congr 1; dsimp only; rw [List.length_cons, List.length_cons]; omega
    ·dsimp only
     have hstep := by_step1 (T := T) u x code (pcs u (a :: s1)) (pcs u s1) a.flat (a.der u) _ hx e (pcs_cons u a s1) (by omega) (by omega) (by omega) c1
     rw [hstep, hi2, pcs_cons]
     have := mid_drop (flats s1.reverse) a.flat r x _ a.flat.length hii rfl
     rw [hc'] at this
     rw [this]
     rfl
  ·cases s with
   | nil => exfalso; apply h1; right; rw [e]; decide
   | cons b s0 =>
   cases s0 with
   | nil => exfalso; apply h1; right; rw [e]; simp
   | cons a s1 =>
    have hp : pushT (b :: a :: s1) x = .bin x a b :: s1 := by simp [pushT, e]
    have hc' : flats s1.reverse ++ (a.flat ++ b.flat) ++ x :: r = code := by
     rw [← hc, List.reverse_cons, flats_snoc, List.reverse_cons, flats_snoc]; simp
    have hca : flats s1.reverse ++ a.flat ++ (b.flat ++ x :: r) = code := by rw [← hc']; simp
    have hcb : (flats s1.reverse ++ a.flat) ++ b.flat ++ (x :: r) = code := by rw [← hc']; simp
    have ta : thin 1000 a.flat := by rw [← hca] at hthin; exact thin_sub hthin
    have tb : thin 1000 b.flat := by rw [← hcb] at hthin; exact thin_sub hthin
    have la := tlen_sub hca
    have lb := tlen_sub hcb
    have tda := thin_der (w := 1000) (by decide) u a ta
    have tdb := thin_der (w := 1000) (by decide) u b tb
    have lda := der_le300 u a (by omega)
    have ldb := der_le300 u b (by omega)
    have hii : (flats (b :: a :: s1).reverse).length = (flats s1.reverse).length + (a.flat ++ b.flat).length := by
     rw [List.reverse_cons, flats_snoc, List.reverse_cons, flats_snoc]; simp [Nat.add_assoc]
    have c1 := diff_two (T := T) x.op a.flat (a.der u) b.flat (b.der u) (by omega) ta tda tb tdb
    refine ⟨(.bin x a b :: s1, r), ⟨?_, ?_, ?_, j + 1, ?_⟩, by simp, ?_, rfl⟩
    ·rw [List.reverse_cons, flats_snoc, Tre.flat, ← hc']; simp
    ·intro t ht
     rcases List.mem_cons.1 ht with rfl | ht
     ·exact ⟨e, hs a (by simp), hs b (by simp)⟩
     ·exact hs t (by simp [ht])
    ·rw [List.foldl_cons, hp] at hf; exact hf
    ·rw [e] at hw2; rw [← hw2]; congr 1; dsimp only; rw [List.length_cons, List.length_cons, List.length_cons]; omega
    ·dsimp only
     have hstep := by_step2 (T := T) u x code (pcs u (b :: a :: s1)) (pcs u s1) a.flat (a.der u) b.flat (b.der u) _ hx e (by rw [pcs_cons, pcs_cons]; simp) (by omega) (by omega) (by omega) c1
     rw [hstep, hi2, pcs_cons]
     have := mid_drop (flats s1.reverse) (a.flat ++ b.flat) r x _ (a.flat.length + b.flat.length) hii (by simp)
     rw [hc'] at this
     rw [this]
     simp only [Tre.flat, Tre.der, List.append_assoc]
  ·exfalso; apply h1; left; omega
theorem diff_by (u : Nd) (t : Tre) (ht : t.ok) (hok : ∀ x ∈ t.flat, okN 6 6 0 x = true) (hthin : thin 1000 t.flat) (hl : t.flat.length ≤ 300) :
  callF T 47 [.sl (rowN t.flat) .an, .agg (celN u)] = some (dv (t.der u)) := by
 have hlo := by_loop (T := T) u t.flat t hok hthin hl ([], t.flat) ⟨rfl, by simp, by
  have := fold_flat t ht [] []
  rwa [List.append_nil] at this, 0, wrongN_flat ht⟩
 dsimp only at hlo
 rw [Nat.sub_self] at hlo
 unfold stBy at hlo
 have e : pcs u [] = [] := rfl
 rw [e] at hlo
 simp only [List.length_nil, Int.natCast_zero, rowP_nil] at hlo
 have hel : rowP [(t.flat, t.der u)] = [[.sl (rowN t.flat) .an, .sl (rowN (t.der u)) (flg (t.der u))]] := by simp only [rowP, List.map_cons, List.map_nil, celP, dv_sl]
 rw [hel] at hlo
 rw [dv_sl]
 generalize flg (t.der u) = f at *
 generalize t.der u = D at *
 generalize t.flat = code at *
 obtain ⟨uop, ui, un⟩ := u
 rw [f47 _ rfl, b47]
 simp -implicitDefEqProofs [hlo]
end
end Go.Ab
end

section
namespace Go.Ab
def selN (f s : List Nd) (j : Int) (da db : List Nd) : List Nd :=
 if da ≠ [] ∧ db ≠ [] then catN f s j 0 else if da ≠ [] then f else if db ≠ [] ∧ j = 8 then catN s [] 6 0 else if db ≠ [] then s else []
theorem two9 (a da b db : List Nd) : twoN 9 a da b db = selN (catN da b 9 0) (catN a db 9 0) 7 da db := by
 unfold twoN selN bothN timesN
 by_cases h1 : da = [] <;> by_cases h2 : db = [] <;> simp [h1, h2, join2, catN_ne]
theorem two10 (a da b db : List Nd) : twoN 10 a da b db = selN (catN da b 10 0) (catN (catN a db 9 0) (catN b b 9 0) 10 0) 8 da db := by
 unfold twoN selN bothN lowN timesN
 by_cases h1 : da = [] <;> by_cases h2 : db = [] <;> simp [h1, h2, join2, join1, catN_ne]
theorem two78 (op : Int) (a da b db : List Nd) (h9 : op ≠ 9) (h10 : op ≠ 10) : twoN op a da b db = selN da db op da db := by
 unfold twoN selN bothN
 rw [if_neg h9, if_neg h10]
 by_cases h1 : da = [] <;> by_cases h2 : db = [] <;> by_cases h3 : op = 8 <;> simp [h1, h2, h3, join2, join1]
section
variable {T : Tbl} [CRef23 T]
theorem ref23_cat (a b : List Nd) (op i : Int) (hl : a.length + b.length ≤ 4294967295) : callF T 83 [.sl (rowN a) .an, .sl (rowN b) .an, .i .i64 op, .i .i64 i] = some (.sl (rowN (catN a b op i)) .an) := by
 have hp := rowN_push0 (a ++ b) op i
 have h32 : a.length + b.length + 1 ≤ 4294967296 := by omega
 have h33 : a.length + b.length ≤ 4294967296 := by omega
 have h34 : a.length ≤ 4294967296 := by omega
 have ht := takeS (a ++ b) ⟨op, i, []⟩
 have hab : rowN a ++ rowN b = rowN (a ++ b) := rowN_append a b
 rw [List.length_append] at ht
 have ht2 : (rowN (a ++ b)).take (a.length + b.length) = rowN (a ++ b) := by rw [← rowN_append, List.take_of_length_le (by simp)]
 rw [f83 _ rfl, b83]
 unfold catN
 simp -implicitDefEqProofs [hp, h32, h33, h34, ht, ht2, hab]
 refine ⟨by omega, congrArg rowN (List.take_of_length_le ?_)⟩
 simp only [List.length_append, List.length_cons, List.length_nil]; omega
theorem ref23_number (k : Nat) (h0 : k ≠ 0) (hk : k < 1000) : callF T 82 [.i .i64 (k : Int)] = some (.sl (rowN (kN k)) .an) := by
 have h' : ¬ (k : Int) = 0 := by omega
 have e : (w32 k).toNat = k := by rw [w32_toNat]; omega
 rw [f82 _ rfl, b82]
 unfold kN
 simp -implicitDefEqProofs [h0, h', rowN, u32s, e]
 omega
variable [CRef17 T]
theorem ref23_leaf (u x : Nd) (ht : arN x.op = 0) : callF T 51 [.sl (rowN [x]) .an, .agg (celN u)] = some (.sl (rowN ((Tre.leaf x).der u)) .an) := by
 have cp := ref17_parts (T := T) (.leaf x) ht (by simp [Tre.flat])
 have ck : callF T 82 [.i .i64 1] = some (.sl (rowN (kN 1)) .an) := ref23_number (T := T) 1 (by decide) (by decide)
 have hw : IntKind.wrap .i64 (1 - 1) = 0 := by decide
 have e1 : rowC (Tre.leaf x).parts = [] := rfl
 have e2 : (Tre.leaf x).flat = [x] := rfl
 have e3 : rowN [x] = [celN x] := rfl
 rw [e1, e2, e3] at cp
 rw [e3, f51 _ rfl, b51]
 unfold Tre.der
 generalize kN 1 = K at *
 obtain ⟨op, xi, n⟩ := x
 obtain ⟨uop, ui, un⟩ := u
 dsimp only
 by_cases h : op = uop
 ·subst h
  by_cases h2 : xi = ui
  ·subst h2
   simp -implicitDefEqProofs [cp, ck]
  ·simp -implicitDefEqProofs [cp, h2]
 ·simp -implicitDefEqProofs [cp, h]
theorem ref23_un (u x : Nd) (a : Tre) (code : List Nd) (hc : code = a.flat ++ [x]) (ht : arN x.op = 1) (hop : x.op = 6 ∨ x.op = 11) (ha : a.ok) (hi : -8 ≤ x.i ∧ x.i ≤ 8) (hl : code.length ≤ 300) (D : List Nd) (hD : D.length ≤ 900000)
  (ih : callF T 51 [.sl (rowN a.flat) .an, .agg (celN u)] = some (.sl (rowN D) .an)) : callF T 51 [.sl (rowN code) .an, .agg (celN u)] = some (.sl (rowN (oneN x a.flat D)) .an) := by
 have cp := ref17_parts (T := T) (.un x a) ⟨ht, ha⟩ (by show (a.flat ++ [x]).length ≤ _; rw [← hc]; omega)
 have hfl : (Tre.un x a).flat = code := hc.symm
 have e1 : rowC (Tre.un x a).parts = [[.sl (rowN a.flat) .an]] := rfl
 rw [e1, hfl] at cp
 have hx : code[a.flat.length]? = some x := by rw [hc]; simp
 have hge := (List.getElem?_eq_some_iff.1 hx).2
 have hlen : code.length = a.flat.length + 1 := by rw [hc]; simp
 have hfp := a.flat_pos
 clear hfl e1
 rw [f51 _ rfl, b51]
 generalize hA : a.flat = A at *
 have hw : IntKind.wrap .i64 ((A.length : Int) + 1 - 1) = A.length := by rw [wrap_i64 _ (by omega)]; omega
 have hlt : (A.length : Int) < (A.length : Int) + 1 := by omega
 have hw9 : IntKind.wrap .i64 (A.length : Int) = A.length := wrap_i64 _ (by omega)
 obtain ⟨op, xi, n⟩ := x
 obtain ⟨uop, ui, un⟩ := u
 dsimp only at *
 unfold oneN
 dsimp only
 by_cases hz : D = []
 ·subst hz
  rw [if_pos (.inl rfl)]
  rcases hop with rfl | rfl <;> simp -implicitDefEqProofs [hlen, hw, hw9, hlt, hx, hge, cp, ih]
 have hDp : 0 < D.length := List.length_pos_iff.2 hz
 rcases hop with rfl | rfl
 ·have c1 := ref23_cat (T := T) D [] 6 0 (by simp; omega)
  rw [rowN_nil, ← join1] at c1
  rw [if_neg (by simp [hz]), if_pos rfl]
  generalize joinN 6 [D] = R at *
  simp -implicitDefEqProofs [hlen, hw, hw9, hlt, hx, hge, cp, ih, hDp, hz, c1]
 by_cases h0 : xi = 0
 ·subst h0
  rw [if_pos (.inr ⟨rfl, rfl⟩)]
  simp -implicitDefEqProofs [hlen, hw, hw9, hlt, hx, hge, cp, ih, hDp, hz]
 rw [if_neg (by simp [hz, h0]), if_neg (by decide)]
 by_cases hp : 0 < xi
 ·obtain ⟨k, rfl⟩ : ∃ k : Nat, xi = k := ⟨xi.toNat, by omega⟩
  have c0 := ref23_number (T := T) k (by omega) (by omega)
  have c1 := ref23_cat (T := T) A [] 11 ((k : Int) - 1) (by simp; omega)
  rw [rowN_nil, ← powN_cat] at c1
  have l1 := kN_len (k : Int)
  have l2 := powN_len A ((k : Int) - 1)
  have c2 := ref23_cat (T := T) (kN k) (powN A ((k : Int) - 1)) 9 0 (by omega)
  rw [← join2] at c2
  have l3 := joinN2 9 (kN k) (powN A ((k : Int) - 1))
  have c3 := ref23_cat (T := T) (joinN 9 [kN k, powN A ((k : Int) - 1)]) D 9 0 (by omega)
  rw [← join2] at c3
  have hw2 : IntKind.wrap .i64 ((k : Int) - 1) = (k : Int) - 1 := wrap_i64 _ (by omega)
  rw [if_pos hp]
  have hp' : 0 < k := by omega
  have h0' : ¬ k = 0 := by omega
  generalize joinN 9 [joinN 9 [kN k, powN A ((k : Int) - 1)], D] = R at *
  generalize joinN 9 [kN k, powN A ((k : Int) - 1)] = R2 at *
  generalize powN A ((k : Int) - 1) = R3 at *
  generalize kN (k : Int) = R4 at *
  simp -implicitDefEqProofs [hlen, hw, hw9, hlt, hx, hge, cp, ih, hDp, hz, hp', h0', c0, c1, c2, c3, hw2]
 ·obtain ⟨k, rfl⟩ : ∃ k : Nat, xi = -(k : Int) := ⟨(-xi).toNat, by omega⟩
  have en : -(-(k : Int)) = k := by omega
  rw [en]
  have c0 := ref23_number (T := T) k (by omega) (by omega)
  have c1 := ref23_cat (T := T) A [] 11 (-(k : Int)) (by simp; omega)
  rw [rowN_nil, ← powN_cat] at c1
  have l1 := kN_len (k : Int)
  have l2 := powN_len A (-(k : Int))
  have c2 := ref23_cat (T := T) (kN k) (powN A (-(k : Int))) 9 0 (by omega)
  rw [← join2] at c2
  have l3 := joinN2 9 (kN k) (powN A (-(k : Int)))
  have c3 := ref23_cat (T := T) (joinN 9 [kN k, powN A (-(k : Int))]) D 9 0 (by omega)
  rw [← join2] at c3
  have l4 := joinN2 9 (joinN 9 [kN k, powN A (-(k : Int))]) D
  have c4 := ref23_cat (T := T) (joinN 9 [joinN 9 [kN k, powN A (-(k : Int))], D]) A 10 0 (by omega)
  rw [← join2] at c4
  have l5 := joinN2 10 (joinN 9 [joinN 9 [kN k, powN A (-(k : Int))], D]) A
  have c5 := ref23_cat (T := T) (joinN 10 [joinN 9 [joinN 9 [kN k, powN A (-(k : Int))], D], A]) [] 6 0 (by rw [List.length_nil]; omega)
  rw [rowN_nil, ← join1] at c5
  have hw2 : IntKind.wrap .i64 (k : Int) = (k : Int) := wrap_i64 _ (by omega)
  rw [if_neg hp]
  have hp' : 0 < k := by omega
  have h0' : ¬ k = 0 := by omega
  have hn : -(k : Int) < 0 := by omega
  generalize joinN 6 [joinN 10 [joinN 9 [joinN 9 [kN k, powN A (-(k : Int))], D], A]] = R6 at *
  generalize joinN 10 [joinN 9 [joinN 9 [kN k, powN A (-(k : Int))], D], A] = R5 at *
  generalize joinN 9 [joinN 9 [kN k, powN A (-(k : Int))], D] = R at *
  generalize joinN 9 [kN k, powN A (-(k : Int))] = R2 at *
  generalize powN A (-(k : Int)) = R3 at *
  generalize kN (k : Int) = R4 at *
  simp -implicitDefEqProofs [hlen, hw, hw9, hlt, hx, hge, cp, ih, hDp, hz, hp, hp', h0', hn, c0, c1, c2, c3, c4, c5, hw2]
end
end Go.Ab
end

section
namespace Go.Ab
section
variable {T : Tbl} [CRef23 T] [CRef17 T]
theorem ref23_bin9 (u x : Nd) (a b : Tre) (code : List Nd) (hc : code = a.flat ++ (b.flat ++ [x])) (ht : arN x.op = 2) (h9 : x.op = 9) (ha : a.ok) (hb : b.ok) (hl : code.length ≤ 300) (D E : List Nd) (hD : D.length ≤ 900000) (hE : E.length ≤ 900000)
  (iha : callF T 51 [.sl (rowN a.flat) .an, .agg (celN u)] = some (.sl (rowN D) .an)) (ihb : callF T 51 [.sl (rowN b.flat) .an, .agg (celN u)] = some (.sl (rowN E) .an)) :
  callF T 51 [.sl (rowN code) .an, .agg (celN u)] = some (.sl (rowN (twoN x.op a.flat D b.flat E)) .an) := by
 have cp := ref17_parts (T := T) (.bin x a b) ⟨ht, ha, hb⟩ (by show (a.flat ++ (b.flat ++ [x])).length ≤ _; rw [← hc]; omega)
 have hfl : (Tre.bin x a b).flat = code := hc.symm
 have e1 : rowC (Tre.bin x a b).parts = [[.sl (rowN a.flat) .an], [.sl (rowN b.flat) .an]] := rfl
 rw [e1, hfl] at cp
 have hx : code[a.flat.length + b.flat.length]? = some x := by rw [hc, ← List.append_assoc, ← List.length_append]; simp
 have hge := (List.getElem?_eq_some_iff.1 hx).2
 have hlen : code.length = a.flat.length + b.flat.length + 1 := by rw [hc]; simp [Nat.add_assoc]
 have hfa := a.flat_pos
 have hfb := b.flat_pos
 clear hfl e1 hc
 rw [f51 _ rfl, b51]
 generalize hA : a.flat = A at *
 generalize hB : b.flat = B at *
 generalize hN : A.length + B.length = N at *
 have hw : IntKind.wrap .i64 ((N : Int) + 1 - 1) = N := by rw [wrap_i64 _ (by omega)]; omega
 have hw9 : IntKind.wrap .i64 (N : Int) = N := wrap_i64 _ (by omega)
 have hlt : (N : Int) < (N : Int) + 1 := by omega
 obtain ⟨op, xi, n⟩ := x
 obtain ⟨uop, ui, un⟩ := u
 dsimp only at *
 have hDc : D = [] ∨ (D ≠ [] ∧ 0 < D.length) := by
  by_cases h : D = []
  ·exact .inl h
  ·exact .inr ⟨h, List.length_pos_iff.2 h⟩
 have hEc : E = [] ∨ (E ≠ [] ∧ 0 < E.length) := by
  by_cases h : E = []
  ·exact .inl h
  ·exact .inr ⟨h, List.length_pos_iff.2 h⟩
 subst h9
 rw [two9]
 have c1 := ref23_cat (T := T) D B 9 0 (by omega)
 have c2 := ref23_cat (T := T) A E 9 0 (by omega)
 have l1 : (catN D B 9 0).length = D.length + B.length + 1 := by simp [catN]; omega
 have l2 : (catN A E 9 0).length = A.length + E.length + 1 := by simp [catN]; omega
 have c3 := ref23_cat (T := T) (catN D B 9 0) (catN A E 9 0) 7 0 (by omega)
 unfold selN
 generalize catN (catN D B 9 0) (catN A E 9 0) 7 0 = R3 at *
 generalize catN D B 9 0 = R1 at *
 generalize catN A E 9 0 = R2 at *
 rcases hDc with rfl | ⟨hD1, hD2⟩ <;> rcases hEc with rfl | ⟨hE1, hE2⟩
 ·(try simp only [rowN_nil] at *)
  simp -implicitDefEqProofs [hlen, hw, hw9, hlt, hx, hge, cp, iha, ihb, c1, c2, c3]
 ·(try simp only [rowN_nil] at *)
  simp -implicitDefEqProofs [hlen, hw, hw9, hlt, hx, hge, cp, iha, ihb, c1, c2, c3, hE1, hE2]
 ·(try simp only [rowN_nil] at *)
  simp -implicitDefEqProofs [hlen, hw, hw9, hlt, hx, hge, cp, iha, ihb, c1, c2, c3, hD1, hD2]
 ·(try simp only [rowN_nil] at *)
  simp -implicitDefEqProofs [hlen, hw, hw9, hlt, hx, hge, cp, iha, ihb, c1, c2, c3, hD1, hD2, hE1, hE2]
theorem ref23_bin10 (u x : Nd) (a b : Tre) (code : List Nd) (hc : code = a.flat ++ (b.flat ++ [x])) (ht : arN x.op = 2) (h10 : x.op = 10) (ha : a.ok) (hb : b.ok) (hl : code.length ≤ 300) (D E : List Nd) (hD : D.length ≤ 900000) (hE : E.length ≤ 900000)
  (iha : callF T 51 [.sl (rowN a.flat) .an, .agg (celN u)] = some (.sl (rowN D) .an)) (ihb : callF T 51 [.sl (rowN b.flat) .an, .agg (celN u)] = some (.sl (rowN E) .an)) :
  callF T 51 [.sl (rowN code) .an, .agg (celN u)] = some (.sl (rowN (twoN x.op a.flat D b.flat E)) .an) := by
 have cp := ref17_parts (T := T) (.bin x a b) ⟨ht, ha, hb⟩ (by show (a.flat ++ (b.flat ++ [x])).length ≤ _; rw [← hc]; omega)
 have hfl : (Tre.bin x a b).flat = code := hc.symm
 have e1 : rowC (Tre.bin x a b).parts = [[.sl (rowN a.flat) .an], [.sl (rowN b.flat) .an]] := rfl
 rw [e1, hfl] at cp
 have hx : code[a.flat.length + b.flat.length]? = some x := by rw [hc, ← List.append_assoc, ← List.length_append]; simp
 have hge := (List.getElem?_eq_some_iff.1 hx).2
 have hlen : code.length = a.flat.length + b.flat.length + 1 := by rw [hc]; simp [Nat.add_assoc]
 have hfa := a.flat_pos
 have hfb := b.flat_pos
 clear hfl e1 hc
 rw [f51 _ rfl, b51]
 generalize hA : a.flat = A at *
 generalize hB : b.flat = B at *
 generalize hN : A.length + B.length = N at *
 have hw : IntKind.wrap .i64 ((N : Int) + 1 - 1) = N := by rw [wrap_i64 _ (by omega)]; omega
 have hw9 : IntKind.wrap .i64 (N : Int) = N := wrap_i64 _ (by omega)
 have hlt : (N : Int) < (N : Int) + 1 := by omega
 obtain ⟨op, xi, n⟩ := x
 obtain ⟨uop, ui, un⟩ := u
 dsimp only at *
 have hDc : D = [] ∨ (D ≠ [] ∧ 0 < D.length) := by
  by_cases h : D = []
  ·exact .inl h
  ·exact .inr ⟨h, List.length_pos_iff.2 h⟩
 have hEc : E = [] ∨ (E ≠ [] ∧ 0 < E.length) := by
  by_cases h : E = []
  ·exact .inl h
  ·exact .inr ⟨h, List.length_pos_iff.2 h⟩
 subst h10
 rw [two10]
 have c1 := ref23_cat (T := T) D B 10 0 (by omega)
 have c2 := ref23_cat (T := T) A E 9 0 (by omega)
 have c4 := ref23_cat (T := T) B B 9 0 (by omega)
 have l1 : (catN D B 10 0).length = D.length + B.length + 1 := by simp [catN]; omega
 have l2 : (catN A E 9 0).length = A.length + E.length + 1 := by simp [catN]; omega
 have l4 : (catN B B 9 0).length = B.length + B.length + 1 := by simp [catN]; omega
 have c5 := ref23_cat (T := T) (catN A E 9 0) (catN B B 9 0) 10 0 (by omega)
 have l5 : (catN (catN A E 9 0) (catN B B 9 0) 10 0).length = (catN A E 9 0).length + (catN B B 9 0).length + 1 := by unfold catN; simp; omega
 have c3 := ref23_cat (T := T) (catN D B 10 0) (catN (catN A E 9 0) (catN B B 9 0) 10 0) 8 0 (by omega)
 have c6 := ref23_cat (T := T) (catN (catN A E 9 0) (catN B B 9 0) 10 0) [] 6 0 (by rw [List.length_nil]; omega)
 rw [rowN_nil] at c6
 unfold selN
 generalize catN (catN (catN A E 9 0) (catN B B 9 0) 10 0) [] 6 0 = R6 at *
 generalize catN (catN D B 10 0) (catN (catN A E 9 0) (catN B B 9 0) 10 0) 8 0 = R3 at *
 generalize catN (catN A E 9 0) (catN B B 9 0) 10 0 = R5 at *
 generalize catN D B 10 0 = R1 at *
 generalize catN A E 9 0 = R2 at *
 generalize catN B B 9 0 = R4 at *
 rcases hDc with rfl | ⟨hD1, hD2⟩ <;> rcases hEc with rfl | ⟨hE1, hE2⟩
 ·(try simp only [rowN_nil] at *)
  simp -implicitDefEqProofs [hlen, hw, hw9, hlt, hx, hge, cp, iha, ihb, c1, c2, c3, c4, c5, c6]
 ·(try simp only [rowN_nil] at *)
  simp -implicitDefEqProofs [hlen, hw, hw9, hlt, hx, hge, cp, iha, ihb, c1, c2, c3, c4, c5, c6, hE1, hE2]
 ·(try simp only [rowN_nil] at *)
  simp -implicitDefEqProofs [hlen, hw, hw9, hlt, hx, hge, cp, iha, ihb, c1, c2, c3, c4, c5, c6, hD1, hD2]
 ·(try simp only [rowN_nil] at *)
  simp -implicitDefEqProofs [hlen, hw, hw9, hlt, hx, hge, cp, iha, ihb, c1, c2, c3, c4, c5, c6, hD1, hD2, hE1, hE2]
theorem ref23_bin7 (u x : Nd) (a b : Tre) (code : List Nd) (hc : code = a.flat ++ (b.flat ++ [x])) (ht : arN x.op = 2) (h78 : x.op = 7 ∨ x.op = 8) (ha : a.ok) (hb : b.ok) (hl : code.length ≤ 300) (D E : List Nd) (hD : D.length ≤ 900000) (hE : E.length ≤ 900000)
  (iha : callF T 51 [.sl (rowN a.flat) .an, .agg (celN u)] = some (.sl (rowN D) .an)) (ihb : callF T 51 [.sl (rowN b.flat) .an, .agg (celN u)] = some (.sl (rowN E) .an)) :
  callF T 51 [.sl (rowN code) .an, .agg (celN u)] = some (.sl (rowN (twoN x.op a.flat D b.flat E)) .an) := by
 have cp := ref17_parts (T := T) (.bin x a b) ⟨ht, ha, hb⟩ (by show (a.flat ++ (b.flat ++ [x])).length ≤ _; rw [← hc]; omega)
 have hfl : (Tre.bin x a b).flat = code := hc.symm
 have e1 : rowC (Tre.bin x a b).parts = [[.sl (rowN a.flat) .an], [.sl (rowN b.flat) .an]] := rfl
 rw [e1, hfl] at cp
 have hx : code[a.flat.length + b.flat.length]? = some x := by rw [hc, ← List.append_assoc, ← List.length_append]; simp
 have hge := (List.getElem?_eq_some_iff.1 hx).2
 have hlen : code.length = a.flat.length + b.flat.length + 1 := by rw [hc]; simp [Nat.add_assoc]
 have hfa := a.flat_pos
 have hfb := b.flat_pos
 clear hfl e1 hc
 rw [f51 _ rfl, b51]
 generalize hA : a.flat = A at *
 generalize hB : b.flat = B at *
 generalize hN : A.length + B.length = N at *
 have hw : IntKind.wrap .i64 ((N : Int) + 1 - 1) = N := by rw [wrap_i64 _ (by omega)]; omega
 have hw9 : IntKind.wrap .i64 (N : Int) = N := wrap_i64 _ (by omega)
 have hlt : (N : Int) < (N : Int) + 1 := by omega
 obtain ⟨op, xi, n⟩ := x
 obtain ⟨uop, ui, un⟩ := u
 dsimp only at *
 have hDc : D = [] ∨ (D ≠ [] ∧ 0 < D.length) := by
  by_cases h : D = []
  ·exact .inl h
  ·exact .inr ⟨h, List.length_pos_iff.2 h⟩
 have hEc : E = [] ∨ (E ≠ [] ∧ 0 < E.length) := by
  by_cases h : E = []
  ·exact .inl h
  ·exact .inr ⟨h, List.length_pos_iff.2 h⟩
 have h9 : op ≠ 9 := by omega
 have h10 : op ≠ 10 := by omega
 rw [two78 op A D B E h9 h10]
 have c3 := ref23_cat (T := T) D E op 0 (by omega)
 have c6 := ref23_cat (T := T) E [] 6 0 (by rw [List.length_nil]; omega)
 rw [rowN_nil] at c6
 unfold selN
 generalize catN D E op 0 = R3 at *
 generalize catN E [] 6 0 = R6 at *
 rcases h78 with rfl | rfl
 ·rcases hDc with rfl | ⟨hD1, hD2⟩ <;> rcases hEc with rfl | ⟨hE1, hE2⟩
  ·(try simp only [rowN_nil] at *)
   simp -implicitDefEqProofs [hlen, hw, hw9, hlt, hx, hge, cp, iha, ihb, c3, c6]
  ·(try simp only [rowN_nil] at *)
   simp -implicitDefEqProofs [hlen, hw, hw9, hlt, hx, hge, cp, iha, ihb, c3, c6, hE1, hE2]
  ·(try simp only [rowN_nil] at *)
   simp -implicitDefEqProofs [hlen, hw, hw9, hlt, hx, hge, cp, iha, ihb, c3, c6, hD1, hD2]
  ·(try simp only [rowN_nil] at *)
   simp -implicitDefEqProofs [hlen, hw, hw9, hlt, hx, hge, cp, iha, ihb, c3, c6, hD1, hD2, hE1, hE2]
 ·rcases hDc with rfl | ⟨hD1, hD2⟩ <;> rcases hEc with rfl | ⟨hE1, hE2⟩
  ·(try simp only [rowN_nil] at *)
   simp -implicitDefEqProofs [hlen, hw, hw9, hlt, hx, hge, cp, iha, ihb, c3, c6]
  ·(try simp only [rowN_nil] at *)
   simp -implicitDefEqProofs [hlen, hw, hw9, hlt, hx, hge, cp, iha, ihb, c3, c6, hE1, hE2]
  ·(try simp only [rowN_nil] at *)
   simp -implicitDefEqProofs [hlen, hw, hw9, hlt, hx, hge, cp, iha, ihb, c3, c6, hD1, hD2]
  ·(try simp only [rowN_nil] at *)
   simp -implicitDefEqProofs [hlen, hw, hw9, hlt, hx, hge, cp, iha, ihb, c3, c6, hD1, hD2, hE1, hE2]
theorem ref23_bin (u x : Nd) (a b : Tre) (code : List Nd) (hc : code = a.flat ++ (b.flat ++ [x])) (ht : arN x.op = 2) (hop : 7 ≤ x.op ∧ x.op ≤ 10) (ha : a.ok) (hb : b.ok) (hl : code.length ≤ 300) (D E : List Nd) (hD : D.length ≤ 900000) (hE : E.length ≤ 900000)
  (iha : callF T 51 [.sl (rowN a.flat) .an, .agg (celN u)] = some (.sl (rowN D) .an)) (ihb : callF T 51 [.sl (rowN b.flat) .an, .agg (celN u)] = some (.sl (rowN E) .an)) :
  callF T 51 [.sl (rowN code) .an, .agg (celN u)] = some (.sl (rowN (twoN x.op a.flat D b.flat E)) .an) := by
 rcases (show x.op = 9 ∨ x.op = 10 ∨ (x.op = 7 ∨ x.op = 8) by omega) with h | h | h
 ·exact ref23_bin9 u x a b code hc ht h ha hb hl D E hD hE iha ihb
 ·exact ref23_bin10 u x a b code hc ht h ha hb hl D E hD hE iha ihb
 ·exact ref23_bin7 u x a b code hc ht h ha hb hl D E hD hE iha ihb
theorem ref23_by (u : Nd) : ∀ (t : Tre), t.ok → (∀ x ∈ t.flat, okN 6 6 0 x = true) → t.flat.length ≤ 300 → callF T 51 [.sl (rowN t.flat) .an, .agg (celN u)] = some (.sl (rowN (t.der u)) .an)
 | .leaf x, ht, _, _ => ref23_leaf u x ht
 | .un x a, ht, hok, hl => by
  have hla : a.flat.length ≤ 300 := by simp only [Tre.flat, List.length_append] at hl; omega
  have ih := ref23_by u a ht.2 (fun y hy => hok y (by simp [Tre.flat, hy])) hla
  have hun := okN_un (hok x (by simp [Tre.flat]))
  have hop : x.op = 6 ∨ x.op = 11 := by
   rcases arN_cases x.op with ⟨e, h⟩ | ⟨e, h⟩ | ⟨e, h⟩ | ⟨e, h⟩
   ·have := ht.1; omega
   ·exact h
   ·have := ht.1; omega
   ·have := ht.1; omega
  exact ref23_un u x a _ rfl ht.1 hop ht.2 (by
   rcases hop with h | h
   ·have := hun.1 h; omega
   ·exact hun.2 h) hl _ (der_le300 u a hla) ih
 | .bin x a b, ht, hok, hl => by
  have hla : a.flat.length ≤ 300 := by simp only [Tre.flat, List.length_append] at hl; omega
  have hlb : b.flat.length ≤ 300 := by simp only [Tre.flat, List.length_append] at hl; omega
  have iha := ref23_by u a ht.2.1 (fun y hy => hok y (by simp [Tre.flat, hy])) hla
  have ihb := ref23_by u b ht.2.2 (fun y hy => hok y (by simp [Tre.flat, hy])) hlb
  have hop : 7 ≤ x.op ∧ x.op ≤ 10 := by
   rcases arN_cases x.op with ⟨e, h⟩ | ⟨e, h⟩ | ⟨e, h⟩ | ⟨e, h⟩
   ·have := ht.1; omega
   ·have := ht.1; omega
   ·exact h
   ·have := ht.1; omega
  exact ref23_bin u x a b _ rfl ht.1 hop ht.2.1 ht.2.2 hl _ _ (der_le300 u a hla) (der_le300 u b hlb) iha ihb
end
end Go.Ab
end

section
namespace Go.Ab
section
variable {T : Tbl} [CLaw17 T]
theorem law17_to (l : List Nd) (hl : l.length ≤ 4294967295) : callF T 13 [.sl (rowN l) .an] = some (.sl (rowN l) .an) := by
 have hlo : loopN T 0 0 (.norm false [3]) l13_0 ⟨[(0, .sl (rowN l) .an), (3, .bs (.loc 3) 1 3 0 0), (4, .i .i64 0)], [(.loc 3, ⟨1, .own, 3, []⟩)], 3⟩ =
   some (.n, ⟨[(3, .bs (.loc 3) 1 3 0 l.length)], [(.loc 3, ⟨1, .own, 3, rowN l⟩)], 3⟩) := by
  have := range_loop (T := T) (k := 0) (id := 0) (g2 := .norm false [3]) (c := l13_0) (fun i => ⟨[(0, .sl (rowN l) .an), (3, .bs (.loc 3) 1 3 0 i), (4, .i .i64 (i : Int))], [(.loc 3, ⟨1, .own, 3, rowN (l.take i)⟩)], 3⟩) l.length
   (some (.n, ⟨[(3, .bs (.loc 3) 1 3 0 l.length)], [(.loc 3, ⟨1, .own, 3, rowN l⟩)], 3⟩)) (fun i hi => ?_) ?_
  ·simpa using this
  ·have hg : l[i]? = some (l[i]'hi) := List.getElem?_eq_getElem hi
   have hi' : (i : Int) < l.length := by omega
   have hws := wrapS hi (by omega)
   have hs : l.take (i + 1) = l.take i ++ [l[i]'hi] := by rw [List.take_succ_eq_append_getElem hi]
   have hp := rowN_push (n := i) (show (l.take i).length = i by rw [List.length_take]; omega) (l[i]'hi)
   have hle : i ≤ (l.take i).length := by rw [List.length_take]; omega
   have h32 : i + 1 ≤ 4294967296 := by omega
   rw [hs]
   generalize hx : l[i]'hi = x at *
   generalize l.take i = m at *
   obtain ⟨op, j, n⟩ := x
   clear hs
   simp -implicitDefEqProofs [l13_0, hi, hi', hg, hx, hws, hp, hle, h32]
  ·constructor <;> simp -implicitDefEqProofs [l13_0]
 rw [f13 _ rfl, b13]
 simp -implicitDefEqProofs [hlo]
theorem law17_of (l : List Nd) (hl : l.length ≤ 4294967295) : callF T 17 [.sl (rowN l) .an] = some (.sl (rowN l) .an) := by
 have hlo : loopN T 0 0 (.norm false [3]) l17_0 ⟨[(0, .sl (rowN l) .an), (3, .bs (.loc 3) 1 3 0 0), (4, .i .i64 0)], [(.loc 3, ⟨1, .own, 3, []⟩)], 3⟩ =
   some (.n, ⟨[(3, .bs (.loc 3) 1 3 0 l.length)], [(.loc 3, ⟨1, .own, 3, rowN l⟩)], 3⟩) := by
  have := range_loop (T := T) (k := 0) (id := 0) (g2 := .norm false [3]) (c := l17_0) (fun i => ⟨[(0, .sl (rowN l) .an), (3, .bs (.loc 3) 1 3 0 i), (4, .i .i64 (i : Int))], [(.loc 3, ⟨1, .own, 3, rowN (l.take i)⟩)], 3⟩) l.length
   (some (.n, ⟨[(3, .bs (.loc 3) 1 3 0 l.length)], [(.loc 3, ⟨1, .own, 3, rowN l⟩)], 3⟩)) (fun i hi => ?_) ?_
  ·simpa using this
  ·have hg : l[i]? = some (l[i]'hi) := List.getElem?_eq_getElem hi
   have hi' : (i : Int) < l.length := by omega
   have hws := wrapS hi (by omega)
   have hs : l.take (i + 1) = l.take i ++ [l[i]'hi] := by rw [List.take_succ_eq_append_getElem hi]
   have hp := rowN_push (n := i) (show (l.take i).length = i by rw [List.length_take]; omega) (l[i]'hi)
   have hle : i ≤ (l.take i).length := by rw [List.length_take]; omega
   have h32 : i + 1 ≤ 4294967296 := by omega
   rw [hs]
   generalize hx : l[i]'hi = x at *
   generalize l.take i = m at *
   obtain ⟨op, j, n⟩ := x
   clear hs
   simp -implicitDefEqProofs [l17_0, hi, hi', hg, hx, hws, hp, hle, h32]
  ·constructor <;> simp -implicitDefEqProofs [l17_0]
 rw [f17 _ rfl, b17]
 simp -implicitDefEqProofs [hlo]
end
end Go.Ab
end

section
namespace Go.Ab
def unkB (u : Nd) : Bool := decide (2 ≤ u.op) && decide (u.op ≤ 4) && okN 6 6 0 u
def derF (u : Nd) (t : Tre) : List Nd := if t.der u = [] then kN 0 else t.der u
def freeB (u : Nd) (l : List Nd) : Bool := !(l.any fun x => decide (x.op = u.op) && decide (x.i = u.i))
theorem derF_thin {u : Nd} {t : Tre} (h : thin 1000 t.flat) : thin 1000 (derF u t) := by
 unfold derF
 split
 ·exact thin_k (by decide) _
 ·exact thin_der (by decide) u t h
theorem derF_le {u : Nd} {t : Tre} (h : t.flat.length ≤ 300) : (derF u t).length ≤ 900000 := by
 unfold derF
 split
 ·rw [kN_len]; decide
 ·exact der_le300 u t h
section
variable {T : Tbl} [CLimb T] [CNat T] [CText T] [CLenD T] [CTree T] [CDiff T]
theorem diff_right (u : Nd) (hn : u.n.length ≤ 1000) : callF T 45 [.agg (celN u)] = some (.b (unkB u)) := by
 have c := check_node (T := T) u 6 6 0 hn
 rw [f45 _ rfl, b45]
 unfold unkB
 generalize okN 6 6 0 u = K at *
 obtain ⟨op, i, n⟩ := u
 dsimp only
 by_cases h2 : op = 2
 ·subst h2; simp -implicitDefEqProofs [c]
 by_cases h3 : op = 3
 ·subst h3; simp -implicitDefEqProofs [c]
 by_cases h4 : op = 4
 ·subst h4; simp -implicitDefEqProofs [c]
 have e : (decide (2 ≤ op) && decide (op ≤ 4)) = false := by
  rw [Bool.and_eq_false_iff, decide_eq_false_iff_not, decide_eq_false_iff_not]; omega
 rw [e]
 simp -implicitDefEqProofs [h2, h3, h4]
theorem diff_By_no (u : Nd) (l : List Nd) (hl : l.length ≤ 4294967290) (hn : thin 1000 l) (hu : u.n.length ≤ 1000) (h : unkB u = false ∨ 300 < l.length ∨ 0 ≤ placeN 6 6 0 l) : callF T 12 [.sl (rowN l) .an, .agg (celN u)] = some (.tup [.sl [] .an, .b false]) := by
 have c1 := diff_right (T := T) u hu
 have c2 := check_place (T := T) l 6 6 0 (by omega) hn
 rw [f12 _ rfl, b12]
 generalize placeN 6 6 0 l = P at *
 obtain ⟨op, i, n⟩ := u
 generalize hU : unkB ⟨op, i, n⟩ = U at *
 cases U with
 | false => simp -implicitDefEqProofs [c1]
 | true =>
  by_cases h3 : 300 < l.length
  ·have h3' : (300 : Int) < l.length := by omega
   simp -implicitDefEqProofs [c1, h3, h3']
  ·have h3' : ¬ (300 : Int) < l.length := by omega
   have h4 : 0 ≤ P := by
    rcases h with h | h | h
    ·cases h
    ·exact absurd h h3
    ·exact h
   simp -implicitDefEqProofs [c1, c2, h3, h3', h4]
theorem diff_By_ok (u : Nd) (t : Tre) (ht : t.ok) (hok : ∀ x ∈ t.flat, okN 6 6 0 x = true) (hl : t.flat.length ≤ 300) (hn : thin 1000 t.flat) (hu : u.n.length ≤ 1000) (h : unkB u = true) : callF T 12 [.sl (rowN t.flat) .an, .agg (celN u)] = some (.tup [.sl (rowN (derF u t)) .an, .b true]) := by
 have c1 := diff_right (T := T) u hu
 have c2 := check_place (T := T) t.flat 6 6 0 (by omega) hn
 rw [placeN_flat ht hok] at c2
 rw [h] at c1
 have c3 := diff_by (T := T) u t ht hok hn hl
 have c4 : callF T 48 [.i .i64 0] = some (.sl (rowN (kN 0)) .an) := diff_const (T := T) 0 (by decide)
 have h3 : ¬ (300 : Int) < t.flat.length := by omega
 rw [f12 _ rfl, b12]
 unfold derF
 generalize kN 0 = K at *
 generalize t.flat = code at *
 obtain ⟨op, i, n⟩ := u
 by_cases hz : t.der ⟨op, i, n⟩ = []
 ·rw [if_pos hz]
  rw [hz, dv_nil] at c3
  simp -implicitDefEqProofs [c1, c2, c3, c4, h3]
 ·rw [if_neg hz]
  have e := eqnil_row hz
  rw [dv_ne hz] at c3
  generalize t.der ⟨op, i, n⟩ = D at *
  simp -implicitDefEqProofs [-eqnilAV, e, c1, c2, c3, c4, h3]
theorem diff_free (u : Nd) (l : List Nd) (hl : l.length ≤ 4294967290) : callF T 18 [.sl (rowN l) .an, .agg (celN u)] = some (.b (freeB u l)) := by
 have hlo : loopN T 0 0 (.norm false []) l18_0 ⟨[(3, .ptr (.loc 3) 1 3 0 0), (7, .sl (rowN l) .an), (8, .i .i64 l.length), (9, .i .i64 ((0 : Nat) : Int))], [(.loc 3, ⟨1, .str, 3, [celN u]⟩)], 3⟩ =
   if ((l.drop 0).any fun x => decide (x.op = u.op) && decide (x.i = u.i)) = true then some (.r, ⟨[(4, .b false)], [], 2⟩) else some (.n, ⟨[], [], 2⟩) := by
  refine until_loop (fun i => ⟨[(3, .ptr (.loc 3) 1 3 0 0), (7, .sl (rowN l) .an), (8, .i .i64 l.length), (9, .i .i64 ((i : Nat) : Int))], [(.loc 3, ⟨1, .str, 3, [celN u]⟩)], 3⟩) l.length
   (fun i => if ((l.drop i).any fun x => decide (x.op = u.op) && decide (x.i = u.i)) = true then some (.r, _) else some (.n, _)) (fun i hi => ?_) ?_
  ·have hg : l[i]? = some (l[i]'hi) := List.getElem?_eq_getElem hi
   have hd : l.drop i = l[i]'hi :: l.drop (i + 1) := List.drop_eq_getElem_cons hi
   have hi' : (i : Int) < l.length := by omega
   have hws := wrapS hi (by omega)
   have ci := diff_is (T := T) (l[i]'hi) u
   rw [hd, List.any_cons]
   generalize hx : l[i]'hi = x at *
   clear hd
   generalize (decide (x.op = u.op) && decide (x.i = u.i)) = B at *
   obtain ⟨op, xi, n⟩ := x
   obtain ⟨uop, ui, un⟩ := u
   cases B with
   | true =>
    right
    simp only [Bool.true_or, if_true]
    constructor <;> simp -implicitDefEqProofs [l18_0, hi, hi', hg, hx, ci]
   | false =>
    left
    refine ⟨?_, by simp only [Bool.false_or]⟩
    simp -implicitDefEqProofs [l18_0, hi, hi', hg, hx, ci, hws]
  ·rw [List.drop_length]
   simp only [List.any_nil, Bool.false_eq_true, if_false]
   constructor <;> simp -implicitDefEqProofs [l18_0]
 rw [List.drop_zero] at hlo
 simp only [Int.natCast_zero] at hlo
 rw [f18 _ rfl, b18]
 unfold freeB
 generalize (l.any fun x => decide (x.op = u.op) && decide (x.i = u.i)) = B at *
 obtain ⟨uop, ui, un⟩ := u
 cases B with
 | true =>
  rw [if_pos rfl] at hlo
  simp -implicitDefEqProofs [hlo]
 | false =>
  rw [if_neg (by decide)] at hlo
  simp -implicitDefEqProofs [hlo]
variable [CRef23 T] [CRef17 T] [CRef02 T] [CRef04 T] [CRef05 T] [CRef07 T]
theorem ref23_unknown (u : Nd) (hn : u.n.length ≤ 1000) : callF T 49 [.agg (celN u)] = some (.b (unkB u)) := by
 have c := ref19_node (T := T) u 6 6 0 hn
 rw [f49 _ rfl, b49]
 unfold unkB
 generalize okN 6 6 0 u = K at *
 obtain ⟨op, i, n⟩ := u
 dsimp only
 by_cases h2 : 2 ≤ op
 ·by_cases h3 : op ≤ 4
  ·simp -implicitDefEqProofs [c, h2, h3]
  ·simp -implicitDefEqProofs [h2, h3]
 ·simp -implicitDefEqProofs [h2]
theorem ref23_Code_no (u : Nd) (l : List Nd) (hl : l.length ≤ 4294967290) (hn : thin 1000 l) (hu : u.n.length ≤ 1000) (h : unkB u = false ∨ 300 < l.length ∨ 0 ≤ placeN 6 6 0 l) : callF T 15 [.sl (rowN l) .an, .agg (celN u)] = some (.tup [.sl [] .an, .b false]) := by
 have c1 := ref23_unknown (T := T) u hu
 have c2 := ref19_place (T := T) l 6 6 0 (by omega) hn
 rw [f15 _ rfl, b15]
 generalize placeN 6 6 0 l = P at *
 obtain ⟨op, i, n⟩ := u
 generalize hU : unkB ⟨op, i, n⟩ = U at *
 cases U with
 | false => simp -implicitDefEqProofs [c1]
 | true =>
  by_cases h3 : 300 < l.length
  ·have h3' : (300 : Int) < l.length := by omega
   simp -implicitDefEqProofs [c1, h3, h3']
  ·have h3' : ¬ (300 : Int) < l.length := by omega
   have h4 : 0 ≤ P := by
    rcases h with h | h | h
    ·cases h
    ·exact absurd h h3
    ·exact h
   simp -implicitDefEqProofs [c1, c2, h3, h3', h4]
theorem ref23_Code_ok (u : Nd) (t : Tre) (ht : t.ok) (hok : ∀ x ∈ t.flat, okN 6 6 0 x = true) (hl : t.flat.length ≤ 300) (hn : thin 1000 t.flat) (hu : u.n.length ≤ 1000) (h : unkB u = true) : callF T 15 [.sl (rowN t.flat) .an, .agg (celN u)] = some (.tup [.sl (rowN (derF u t)) .an, .b true]) := by
 have c1 := ref23_unknown (T := T) u hu
 have c2 := ref19_place (T := T) t.flat 6 6 0 (by omega) hn
 rw [placeN_flat ht hok] at c2
 rw [h] at c1
 have c3 := ref23_by (T := T) u t ht hok hl
 have h3 : ¬ (300 : Int) < t.flat.length := by omega
 rw [f15 _ rfl, b15]
 unfold derF
 generalize t.flat = code at *
 obtain ⟨op, i, n⟩ := u
 by_cases hz : t.der ⟨op, i, n⟩ = []
 ·rw [if_pos hz]
  rw [hz, rowN_nil] at c3
  have e : rowN (kN 0) = [[.i .i64 1, .i .i64 0, .sl [] .an]] := rfl
  rw [e]
  simp -implicitDefEqProofs [c1, c2, c3, h3]
 ·rw [if_neg hz]
  have hp : 0 < (t.der ⟨op, i, n⟩).length := List.length_pos_iff.2 hz
  generalize t.der ⟨op, i, n⟩ = D at *
  simp -implicitDefEqProofs [c1, c2, c3, h3, hp, hz]
end
end Go.Ab
end

section
namespace Go.Ab
section
variable {T : Tbl} [CLimb T] [CNat T] [CText T] [CLenD T] [CTree T] [CDiff T] [CRef23 T] [CRef17 T] [CRef02 T] [CRef04 T] [CRef05 T] [CRef07 T] [CLaw17 T] [CLaw23 T]
theorem law23_to (u : Nd) : callF T 14 [.agg (celN u)] = some (.agg (celN u)) := by
 obtain ⟨op, i, n⟩ := u
 rw [f14 _ rfl, b14]
 simp -implicitDefEqProofs
theorem law23_works : callF T 11 [] = some (.b true) := by
 have c1 : callF T 12 [.sl [[.i .i64 2, .i .i64 0, .sl [] .an], [.i .i64 11, .i .i64 2, .sl [] .an]] .an, .agg [.i .i64 2, .i .i64 0, .sl [] .an]] = some (.tup [.sl (rowN (derF ⟨2, 0, []⟩ (.un ⟨11, 2, []⟩ (.leaf ⟨2, 0, []⟩)))) .an, .b true]) :=
  diff_By_ok (T := T) ⟨2, 0, []⟩ (.un ⟨11, 2, []⟩ (.leaf ⟨2, 0, []⟩)) ⟨rfl, rfl⟩ (by decide) (by decide) (by simp [thin, Tre.flat]) (by decide) (by decide)
 have c2 : callF T 12 [.sl [[.i .i64 3, .i .i64 0, .sl [] .an]] .an, .agg [.i .i64 2, .i .i64 0, .sl [] .an]] = some (.tup [.sl (rowN (kN 0)) .an, .b true]) :=
  diff_By_ok (T := T) ⟨2, 0, []⟩ (.leaf ⟨3, 0, []⟩) rfl (by decide) (by decide) (by simp [thin, Tre.flat]) (by decide) (by decide)
 have e2 : rowN (kN 0) = [[.i .i64 1, .i .i64 0, .sl [] .an]] := rfl
 rw [e2] at c2
 have hA : (derF ⟨2, 0, []⟩ (.un ⟨11, 2, []⟩ (.leaf ⟨2, 0, []⟩))).length = 6 := by decide
 have hW : wrongN (derF ⟨2, 0, []⟩ (.un ⟨11, 2, []⟩ (.leaf ⟨2, 0, []⟩))) = -1 := by decide
 generalize derF ⟨2, 0, []⟩ (.un ⟨11, 2, []⟩ (.leaf ⟨2, 0, []⟩)) = A at *
 have c3 := tree_right (T := T) A (by omega)
 rw [hW] at c3
 simp only [decide_true] at c3
 rw [f11 _ rfl, b11]
 simp -implicitDefEqProofs [c1, c2, c3, hA]
theorem freeB_take (u : Nd) (l : List Nd) (i : Nat) (h : i < l.length) : freeB u (l.take (i + 1)) = (freeB u (l.take i) && !(decide ((l[i]'h).op = u.op) && decide ((l[i]'h).i = u.i))) := by
 unfold freeB
 rw [List.take_succ_eq_append_getElem h, List.any_append]
 simp only [List.any_cons, List.any_nil, Bool.or_false, Bool.not_or]
theorem law23_free_loop (u : Nd) (l D : List Nd) (ok yes : Bool) (hl : l.length ≤ 4294967290) :
  loopN T 0 0 (.norm false [0, 3, 5, 6, 7, 8, 9]) l4_0 ⟨[(0, .sl (rowN l) .an), (3, .ptr (.loc 3) 1 3 0 0), (5, .sl (rowN D) .an), (6, .b ok), (7, .sl (rowN D) .an), (8, .b yes), (9, .b true), (10, .i .i64 0)], [(.loc 3, ⟨1, .str, 3, [celN u]⟩)], 3⟩ =
  some (.n, ⟨[(0, .sl (rowN l) .an), (3, .ptr (.loc 3) 1 3 0 0), (5, .sl (rowN D) .an), (6, .b ok), (7, .sl (rowN D) .an), (8, .b yes), (9, .b (freeB u l))], [(.loc 3, ⟨1, .str, 3, [celN u]⟩)], 3⟩) := by
 have := range_loop (T := T) (k := 0) (id := 0) (g2 := .norm false [0, 3, 5, 6, 7, 8, 9]) (c := l4_0) (fun i => ⟨[(0, .sl (rowN l) .an), (3, .ptr (.loc 3) 1 3 0 0), (5, .sl (rowN D) .an), (6, .b ok), (7, .sl (rowN D) .an), (8, .b yes), (9, .b (freeB u (l.take i))), (10, .i .i64 (i : Int))], [(.loc 3, ⟨1, .str, 3, [celN u]⟩)], 3⟩) l.length
  (some (.n, ⟨[(0, .sl (rowN l) .an), (3, .ptr (.loc 3) 1 3 0 0), (5, .sl (rowN D) .an), (6, .b ok), (7, .sl (rowN D) .an), (8, .b yes), (9, .b (freeB u l))], [(.loc 3, ⟨1, .str, 3, [celN u]⟩)], 3⟩)) (fun i hi => ?_) ?_
 ·simpa [freeB] using this
 ·have hg : l[i]? = some (l[i]'hi) := List.getElem?_eq_getElem hi
  have hi' : (i : Int) < l.length := by omega
  have hws := wrapS hi (by omega)
  rw [freeB_take u l i hi]
  generalize freeB u (l.take i) = F at *
  generalize hx : l[i]'hi = x at *
  obtain ⟨op, xi, n⟩ := x
  obtain ⟨uop, ui, un⟩ := u
  dsimp only
  cases F with
  | false => simp -implicitDefEqProofs [l4_0, hi, hi', hg, hx, hws]
  | true =>
   by_cases h1 : op = uop
   ·subst h1
    by_cases h2 : xi = ui
    ·subst h2
     simp -implicitDefEqProofs [l4_0, hi, hi', hg, hx, hws]
    ·simp -implicitDefEqProofs [l4_0, hi, hi', hg, hx, hws, h2]
   ·simp -implicitDefEqProofs [l4_0, hi, hi', hg, hx, hws, h1]
 ·rw [List.take_length]
  constructor <;> simp -implicitDefEqProofs [l4_0]
theorem law23_writes (l : List Nd) (u : Nd) : callF T 4 [.sl (rowN l) .an, .agg (celN u)] = some (.b true) := by
 have hw := law23_works (T := T)
 have cl := ref17_long (T := T) l 40 9 (.inr (by decide)) (by decide)
 simp only [Int.cast_ofNat_Int] at cl
 rw [f4 _ rfl, b4]
 by_cases hL : (decide (40 < l.length) || (l.take 40).any fun x => decide (9 < x.n.length)) = true
 ·rw [hL] at cl
  obtain ⟨op, i, n⟩ := u
  simp -implicitDefEqProofs [hw, cl]
 have hL' : (decide (40 < l.length) || (l.take 40).any fun x => decide (9 < x.n.length)) = false := by simpa using hL
 rw [hL'] at cl
 by_cases hu : 9 < u.n.length
 ·obtain ⟨op, i, n⟩ := u
  dsimp only at hu
  have hu' : (9 : Int) < n.length := by omega
  simp -implicitDefEqProofs [hw, cl, hu, hu']
 have hlen : l.length ≤ 40 := by
  simp only [Bool.or_eq_false_iff, decide_eq_false_iff_not] at hL'
  omega
 have hthin : thin 1000 l := by
  intro x hx
  rw [List.take_of_length_le hlen] at hL'
  simp only [Bool.or_eq_false_iff, List.any_eq_false, decide_eq_true_eq] at hL'
  have := hL'.2 x hx
  omega
 have hu' : ¬ (9 : Int) < u.n.length := by omega
 have t1 := law17_to (T := T) l (by omega)
 have t2 := law23_to (T := T) u
 have cf := diff_free (T := T) u l (by omega)
 have key : ∃ (D : List Nd) (ok : Bool), D.length ≤ 900000 ∧ thin 1000 D ∧ callF T 12 [.sl (rowN l) .an, .agg (celN u)] = some (.tup [.sl (rowN D) .an, .b ok]) ∧ callF T 15 [.sl (rowN l) .an, .agg (celN u)] = some (.tup [.sl (rowN D) .an, .b ok]) := by
  by_cases hno : unkB u = false ∨ 300 < l.length ∨ 0 ≤ placeN 6 6 0 l
  ·exact ⟨[], false, by decide, thin_nil _, diff_By_no u l (by omega) hthin (by omega) hno, ref23_Code_no u l (by omega) hthin (by omega) hno⟩
  ·have h1 : unkB u = true := by
    cases h : unkB u with
    | true => rfl
    | false => exact absurd (.inl h) hno
   obtain ⟨t, ht, rfl, hok⟩ := placeN_tree (show placeN 6 6 0 l < 0 from Classical.byContradiction fun h => hno (.inr (.inr (by omega))))
   exact ⟨derF u t, true, derF_le (by omega), derF_thin hthin, diff_By_ok u t ht hok (by omega) hthin (by omega) h1, ref23_Code_ok u t ht hok (by omega) hthin (by omega) h1⟩
 obtain ⟨D, ok, hD, tD, k1, k2⟩ := key
 have lo := law23_free_loop (T := T) u l D ok ok (by omega)
 have cof := law17_of (T := T) D (by omega)
 have cs := ref17_same (T := T) D (by omega) tD
 obtain ⟨op, i, n⟩ := u
 dsimp only at hu hu'
 generalize freeB ⟨op, i, n⟩ l = F at *
 clear hL hL' hlen hthin hD tD
 simp -implicitDefEqProofs [hw, cl, hu, hu', t1, t2, k1, k2, lo, cof, cs, cf]
end
end Go.Ab
end
