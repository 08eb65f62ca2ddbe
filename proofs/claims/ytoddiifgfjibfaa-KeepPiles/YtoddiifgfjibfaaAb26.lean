/-
  From the reading of an argument to an abstract value of the reading's shape.
-/
import Derived.Test.YtoddiifgfjibfaaAb25
namespace Go.Ab
open Go.ChangeShapes Go.WideShapes Go.ChangeAt Go.RowKit

/-- The shape of a value, or of a row of cells. -/
inductive Ty where
  | int (k : IntKind)
  | bool
  | str
  | sl (r : Ty)
  | nil
  | cons (a : Ty) (r : Ty)

def Ty.z : Ty → Nat
  | .nil => 0
  | .cons a r => a.z + r.z
  | _ => 1

/-- These cells are of this shape. -/
def Ok : Ty → List AV → Prop
  | .int k, cs => ∃ n, cs = [.i k n] ∧ (Lit.int k n).wf = true
  | .bool, cs => ∃ b, cs = [.b b]
  | .str, cs => ∃ l, cs = [.s l] ∧ l.length ≤ maxLen
  | .sl r, cs => ∃ els f, cs = [.sl els f] ∧ els.length ≤ maxLen ∧ (f = .nl ∧ els = [] ∨ f = .so) ∧ ∀ row ∈ els, Ok r row
  | .nil, cs => cs = []
  | .cons a r, cs => ∃ c1 c2, cs = c1 ++ c2 ∧ Ok a c1 ∧ Ok r c2

theorem Ok.len : ∀ {ty : Ty} {cs : List AV}, Ok ty cs → cs.length = ty.z
  | .int _, _, ⟨_, h, _⟩ => by rw [h]; rfl
  | .bool, _, ⟨_, h⟩ => by rw [h]; rfl
  | .str, _, ⟨_, h, _⟩ => by rw [h]; rfl
  | .sl _, _, ⟨_, _, h, _⟩ => by rw [h]; rfl
  | .nil, _, h => by rw [show _ = [] from h]; rfl
  | .cons _ _, _, ⟨_, _, h, h1, h2⟩ => by rw [h, List.length_append, h1.len, h2.len]; rfl

/-- Cells of the world, and abstract ones. -/
def RowC (w : World) (S : Nat → Nat → Prop) (cs : List Value) (xs : List AV) : Prop :=
  xs.length = cs.length ∧ ∀ (j : Nat) (v : Value) (c : AV), cs[j]? = some v → xs[j]? = some c → CP w S v c ∧ v.oneCell' = true

section
variable {H : Type} {enc : TypeId × Value → H} {P : Program} {w : World} {base : Nat} {held : Bool} {S : Nat → Nat → Prop}

theorem RowC.nil : RowC w S [] [] := ⟨rfl, fun j v c h => by simp at h⟩

theorem RowC.one {v : Value} {c : AV} (h : CP w S v c) (h1 : v.oneCell' = true) : RowC w S [v] [c] := by
  refine ⟨rfl, fun j v' c' hv hc => ?_⟩
  cases j with
  | zero => simp at hv hc; subst hv; subst hc; exact ⟨h, h1⟩
  | succ j => simp at hv

theorem RowC.append {cs cs' : List Value} {xs xs' : List AV} (h : RowC w S cs xs) (h' : RowC w S cs' xs') : RowC w S (cs ++ cs') (xs ++ xs') := by
  refine ⟨by rw [List.length_append, List.length_append, h.1, h'.1], fun j v c hv hc => ?_⟩
  by_cases hj : j < cs.length
  · rw [List.getElem?_append_left hj] at hv
    rw [List.getElem?_append_left (by rw [h.1]; exact hj)] at hc
    exact h.2 j v c hv hc
  · rw [List.getElem?_append_right (by omega)] at hv
    rw [List.getElem?_append_right (by rw [h.1]; omega), h.1] at hc
    exact h'.2 _ v c hv hc

def fieldsTy (P : Program) (g : TypeId → Option Ty) (tot : Nat) : Nat → List Field → Option Ty
  | off, [] => if off = tot then some .nil else none
  | off, f :: fs => (g f.type).bind fun a => if f.offset = off ∧ a.z = P.cellsOf f.type then (fieldsTy P g tot (off + a.z) fs).map (.cons a) else none

def tyOf (P : Program) : Nat → TypeId → Option Ty
  | 0, _ => none
  | n + 1, t =>
    match P.underlying t with
    | some .bool => some .bool
    | some (.int k) => some (.int k)
    | some .string => some .str
    | some (.slice e) => (tyOf P n e).bind fun r => if r.z = P.cellsOf e ∧ 0 < r.z then some (.sl r) else none
    | some (.struct fs) => fieldsTy P (tyOf P n) (P.cellsOf t) 0 fs.toList
    | _ => none

theorem list_of {α : Type} {Q : Nat → α → Prop} : ∀ (n : Nat), (∀ i, i < n → ∃ x, Q i x) → ∃ l : List α, l.length = n ∧ ∀ i x, l[i]? = some x → Q i x
  | 0, _ => ⟨[], rfl, fun i x h => by simp at h⟩
  | n + 1, h => by
    obtain ⟨l, hl, hq⟩ := list_of n fun i hi => h i (by omega)
    obtain ⟨x, hx⟩ := h n (by omega)
    refine ⟨l ++ [x], by simp [hl], fun i y hy => ?_⟩
    by_cases hi : i < n
    · rw [List.getElem?_append_left (by omega)] at hy
      exact hq i y hy
    · rw [List.getElem?_append_right (by omega)] at hy
      have : i - l.length = 0 := by
        have := (List.getElem?_eq_some_iff.1 hy).1
        simp at this
        omega
      rw [this] at hy
      simp at hy
      subst hy
      have e : i = n := by omega
      rw [e]
      exact hx

def Places (S : Nat → Nat → Prop) (ps : List MemPlace) : Prop := ∀ k o, MemPlace.cell k o ∈ ps → S k o

theorem fields_open {n : Nat} {g : TypeId → Option Ty} {cs : List Value}
    (ih : ∀ t cs x ty, DataW.trod enc P w base (fun _ => true) held n t cs = some x → g t = some ty → Places S x.2 → ∃ xs, Ok ty xs ∧ RowC w S cs xs) :
    ∀ (fs : List Field) (off : Nat) (ty : Ty) (ys : List (DataW H × List MemPlace)),
      ys.length = fs.length → (∀ (i : Nat) (f : Field), fs[i]? = some f → DataW.trod enc P w base (fun _ => true) held n f.type ((cs.drop f.offset).take (P.cellsOf f.type)) = ys[i]?) →
      fieldsTy P g cs.length off fs = some ty → Places S (ys.flatMap (·.2)) → ∃ xs, Ok ty xs ∧ RowC w S (cs.drop off) xs
  | [], off, ty, ys, hl, hm, ht, hp => by
    simp only [fieldsTy] at ht
    split at ht <;> cases ht
    rename_i ho
    exact ⟨[], rfl, by rw [ho, List.drop_length]; exact RowC.nil⟩
  | f :: fs, off, ty, [], hl, hm, ht, hp => by simp at hl
  | f :: fs, off, ty, y :: ys1, hl, hm, ht, hp => by
    simp only [fieldsTy] at ht
    obtain ⟨a, ha, ht1⟩ := bind_some ht
    split at ht1
    · rename_i hc
      obtain ⟨ho, hz⟩ := hc
      obtain ⟨r, hr, rfl⟩ := map_some ht1
      have hy := hm 0 f rfl
      rw [ho, ← hz] at hy
      simp only [List.getElem?_cons_zero] at hy
      obtain ⟨xs1, ho1, hr1⟩ := ih _ _ _ _ hy ha fun k o h => hp k o (by simp [h])
      obtain ⟨xs2, ho2, hr2⟩ := fields_open ih fs _ r ys1 (by simpa using hl) (fun i f' hf => by simpa using hm (i + 1) f' (by simpa using hf)) hr fun k o h => hp k o (by
        rw [List.flatMap_cons, List.mem_append]
        exact .inr h)
      refine ⟨xs1 ++ xs2, ⟨xs1, xs2, rfl, ho1, ho2⟩, ?_⟩
      have e : cs.drop off = (cs.drop off).take a.z ++ cs.drop (off + a.z) := by rw [← List.drop_drop, List.take_append_drop]
      rw [e]
      exact hr1.append hr2
    · cases ht1

theorem row_cell {a : Addr} {m z : Nat} {cs : List Value} (h : w.cells? base (a.add m) z = some cs) (j : Nat) (hj : j < z) : w.cell? ((a.add m).add j) = cs[j]? := (World.cells?_some h).2.2 j hj

theorem cell_spot {a : Addr} {v : Value} (h : w.cell? a = some v) : a.spot = none := by
  unfold World.cell? at h
  split at h
  · split at h
    · cases h
    · rename_i hs; simpa using hs
  · cases h

theorem trod_open : ∀ (n m : Nat) (t : TypeId) (cs : List Value) (x : DataW H × List MemPlace) (ty : Ty),
    DataW.trod enc P w base (fun _ => true) held n t cs = some x → tyOf P m t = some ty → Places S x.2 → ∃ xs, Ok ty xs ∧ RowC w S cs xs
  | 0, _, _, _, _, _, h, _, _ => by simp [DataW.trod] at h
  | n + 1, 0, _, _, _, _, _, ht, _ => by simp [tyOf] at ht
  | n + 1, m + 1, t, cs, x, ty, h, ht, hp => by
    simp only [tyOf] at ht
    split at ht
    · rename_i hu
      cases ht
      obtain ⟨b, rfl, rfl⟩ := DataW.trod_bool hu h
      exact ⟨[.b b], ⟨b, rfl⟩, RowC.one (.b b) rfl⟩
    · rename_i k hu
      cases ht
      obtain ⟨z, rfl, rfl, hw⟩ := DataW.trod_int hu h
      exact ⟨[.i k z], ⟨z, rfl, hw⟩, RowC.one (.i k z) rfl⟩
    · rename_i hu
      cases ht
      obtain ⟨s, rfl, rfl, hs⟩ := DataW.trod_string hu h
      exact ⟨[.s s.data.toList], ⟨_, rfl, by simpa using hs⟩, RowC.one (.s s.data.toList) rfl⟩
    · rename_i e hu
      obtain ⟨r, hr, ht1⟩ := bind_some ht
      split at ht1
      · rename_i hz
        cases ht1
        obtain ⟨hz, hzp⟩ := hz
        rcases DataW.trod_slice hu h with ⟨rfl, rfl⟩ | ⟨a, len, cap, elems, rest, n', hn', rfl, rfl, hb, hl, hmx, hlen, hel, hsp, hns⟩
        · exact ⟨[.sl [] .nl], ⟨[], .nl, rfl, Nat.zero_le _, .inl ⟨rfl, rfl⟩, fun row h => by simp at h⟩, RowC.one (.slnil _ (.inl rfl)) rfl⟩
        · cases hn'
          obtain ⟨hrl, hrest⟩ := hsp rfl
          have hall : ∀ i, i < cap → ∃ y cs', y ∈ elems ++ rest ∧ w.cells? base (a.add (i * P.cellsOf e)) (P.cellsOf e) = some cs' ∧ DataW.trod enc P w base (fun _ => true) held n e cs' = some y := by
            intro i hi
            by_cases hil : i < len
            · have h1 := hel i hil
              rw [List.getElem?_eq_getElem (by omega)] at h1
              obtain ⟨cs', h2, h3⟩ := bind_some h1
              exact ⟨_, cs', List.mem_append_left _ (List.getElem_mem (by omega)), h2, h3⟩
            · have h1 := hrest (i - len) (by omega)
              rw [List.getElem?_eq_getElem (by omega), show len + (i - len) = i by omega] at h1
              obtain ⟨cs', h2, h3⟩ := bind_some h1
              exact ⟨_, cs', List.mem_append_right _ (List.getElem_mem (by omega)), h2, h3⟩
          by_cases hcap : cap = 0
          · have hl0 : len = 0 := by omega
            subst hcap
            subst hl0
            exact ⟨[.sl [] .so], ⟨[], .so, rfl, Nat.zero_le _, .inr rfl, fun row h => by simp at h⟩, RowC.one (.slz a _ (.inl rfl)) rfl⟩
          · have hspot : a.spot = none := by
              obtain ⟨y, cs', _, h2, _⟩ := hall 0 (by omega)
              have h3 := row_cell h2 0 (by omega)
              have h4 := (World.cells?_some h2).2.1
              rw [List.getElem?_eq_getElem (by omega)] at h3
              have h5 := cell_spot h3
              simpa [Addr.add] using h5
            obtain ⟨blk, off, sp⟩ := a
            simp only at hspot
            subst hspot
            have hrows : ∀ i, i < len → ∃ xs, Ok r xs ∧ ∃ cs', w.cells? base ((⟨blk, off, none⟩ : Addr).add (i * P.cellsOf e)) (P.cellsOf e) = some cs' ∧ RowC w S cs' xs := by
              intro i hi
              obtain ⟨y, cs', hy, h2, h3⟩ := hall i (by omega)
              obtain ⟨xs, ho, hrc⟩ := trod_open n m e cs' y r h3 hr fun k o hk => hp k o (by
                rw [List.mem_append]
                exact .inr (List.mem_flatMap.2 ⟨y, hy, hk⟩))
              exact ⟨xs, ho, cs', h2, hrc⟩
            obtain ⟨els, hels, hq⟩ := list_of len hrows
            refine ⟨[.sl els .so], ⟨els, .so, rfl, by omega, .inr rfl, fun row hrow => ?_⟩, RowC.one ?_ rfl⟩
            · obtain ⟨i, hi⟩ := List.getElem?_of_mem hrow
              exact (hq i row hi).1
            · have hcell : ∀ i j, i < els.length → j < r.z → ∃ v, w.cell? ⟨blk, off + i * r.z + j, none⟩ = some v ∧ v.oneCell' = true ∧ ∀ row c, els[i]? = some row → row[j]? = some c → CP w S v c := by
                intro i j hi hj
                obtain ⟨ho, cs', h2, hrc⟩ := hq i _ (List.getElem?_eq_getElem hi)
                have h3 := row_cell h2 j (by omega)
                have h4 := (World.cells?_some h2).2.1
                rw [add_addr, add_addr, ← hz, List.getElem?_eq_getElem (by omega)] at h3
                have hlr := ho.len
                have h5 := hrc.2 j _ _ (List.getElem?_eq_getElem (by omega)) (List.getElem?_eq_getElem (by omega))
                refine ⟨_, h3, h5.2, fun row c hrow hc => ?_⟩
                rw [List.getElem?_eq_getElem hi] at hrow
                cases hrow
                rw [List.getElem?_eq_getElem (by omega)] at hc
                cases hc
                exact h5.1
              have hS : ∀ i j, i < els.length → j < r.z → S blk (off + i * r.z + j) := by
                intro i j hi hj
                refine hp _ _ ?_
                rw [List.mem_append]
                left
                unfold MemPlace.row
                rw [List.mem_map]
                refine ⟨i * r.z + j, ?_, by rw [Nat.add_assoc]⟩
                rw [List.mem_range, ← hz]
                have h1 : (i + 1) * r.z ≤ (elems.length + rest.length) * r.z := Nat.mul_le_mul_right _ (by omega)
                rw [Nat.add_mul, Nat.one_mul] at h1
                omega
              have := CP.sl (w := w) (S := S) blk off r.z cap els .so (fun i j => (w.cell? ⟨blk, off + i * r.z + j, none⟩).getD undef) (by simp) (by simp) (by omega) hmx
                (fun i row hrow => (hq i row hrow).1.len) (fun i j hi hj => ?_) (fun i row j c hrow hc => ?_)
              · rw [hels] at this
                exact this
              · obtain ⟨v, h1, h2, _⟩ := hcell i j hi hj
                exact ⟨hS i j hi hj, by rw [h1]; rfl, by rw [h1]; exact h2⟩
              · have hi := (List.getElem?_eq_some_iff.1 hrow).1
                have hj := (List.getElem?_eq_some_iff.1 hc).1
                rw [(hq i row hrow).1.len] at hj
                obtain ⟨v, h1, _, h3⟩ := hcell i j hi hj
                show CP w S ((w.cell? ⟨blk, off + i * r.z + j, none⟩).getD undef) c
                rw [h1]
                exact h3 row c hrow hc
      · cases ht1
    · rename_i fs hu
      obtain ⟨xs, n', hn', rfl, hcl, hxl, hx⟩ := DataW.trod_struct hu h
      cases hn'
      rw [← hcl] at ht
      have := fields_open (S := S) (g := tyOf P m) (cs := cs) (n := n) (fun t cs x ty h1 h2 h3 => trod_open n m t cs x ty h1 h2 h3) fs.toList 0 ty xs (by rw [hxl]; simp) (fun i f hf => hx i f (by simpa using hf)) ht hp
      simpa using this
    · cases ht
end
end Go.Ab
