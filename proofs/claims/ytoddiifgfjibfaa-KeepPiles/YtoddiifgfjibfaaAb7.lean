/-
  A struct put together; and all operations that leave the boxes alone in one theorem.
-/
import Derived.Test.YtoddiifgfjibfaaAb6
namespace Go.Ab
open Go.RowKit

section
variable {P : Program} {w : World} {S : Nat → Nat → Prop} {M : Map} {clk : Nat} {e : Nat → AV} {h : Heap} {a : Act}

theorem foldl_set (off : Nat) : ∀ (vs : List Value) (n : Nat) (cells : Array Value), off + n + vs.length ≤ cells.size →
    (((vs.zipIdx n).foldl (fun cs (p : Value × Nat) => cs.setIfInBounds (off + p.2) p.1) cells).toList = cells.toList.take (off + n) ++ (vs ++ cells.toList.drop (off + n + vs.length)))
  | [], n, cells, _ => by simp
  | v :: vs, n, cells, hl => by
    simp only [List.zipIdx_cons, List.foldl_cons]
    rw [foldl_set off vs (n + 1) _ (by simp only [Array.size_setIfInBounds, List.length_cons] at *; omega)]
    simp only [List.length_cons] at hl
    have hlt : off + n < cells.toList.length := by simp; omega
    apply List.ext_getElem?
    intro j
    simp only [Array.toList_setIfInBounds]
    rcases Nat.lt_trichotomy j (off + n) with hj | hj | hj
    · rw [List.getElem?_append_left (by simp; omega), List.getElem?_append_left (by simp; omega), List.getElem?_take, List.getElem?_take, if_pos (by omega), if_pos (by omega), List.getElem?_set_ne (by omega)]
    · subst hj
      rw [List.getElem?_append_left (by simp; omega), List.getElem?_append_right (by simp; omega), List.getElem?_take, if_pos (by omega), List.getElem?_set_self (by omega)]
      simp
      rw [show off + n - min (off + n) cells.size = 0 by omega]
      simp
    · have e1 : (List.take (off + (n + 1)) (cells.toList.set (off + n) v)).length = off + n + 1 := by simp; omega
      have e2 : (List.take (off + n) cells.toList).length = off + n := by simp; omega
      obtain ⟨q, rfl⟩ : ∃ q, j = off + n + 1 + q := ⟨j - (off + n) - 1, by omega⟩
      rw [List.getElem?_append_right (l₁ := List.take (off + (n + 1)) (cells.toList.set (off + n) v)) (by omega), List.getElem?_append_right (l₁ := List.take (off + n) cells.toList) (by omega), e1, e2,
        show off + n + 1 + q - (off + n + 1) = q by omega, show off + n + 1 + q - (off + n) = q + 1 by omega]
      simp only [List.cons_append, List.getElem?_cons_succ]
      rcases Nat.lt_or_ge q vs.length with h1 | h1
      · rw [List.getElem?_append_left h1, List.getElem?_append_left h1]
      · rw [List.getElem?_append_right h1, List.getElem?_append_right h1, List.getElem?_drop, List.getElem?_drop, List.getElem?_set_ne (by omega)]
        simp only [List.length_cons]
        congr 1
        omega

theorem fill_one (off : Nat) (vs cells : Array Value) (hl : off + vs.size ≤ cells.size) :
    (vs.zipIdx.foldl (fun cs (p : Value × Nat) => cs.setIfInBounds (off + p.2) p.1) cells).toList = cells.toList.take off ++ (vs.toList ++ cells.toList.drop (off + vs.size)) := by
  rw [← Array.foldl_toList, Array.toList_zipIdx, foldl_set off vs.toList 0 cells (by simpa using hl)]
  simp

/-- pointwise: cells and what they stand for -/
def Pt (w : World) (S : Nat → Nat → Prop) (M : Map) (clk : Nat) (vs : List Value) (cs : List AV) : Prop :=
  vs.length = cs.length ∧ (∀ (j : Nat) (v : Value), vs[j]? = some v → v.oneCell' = true) ∧ (∀ (j : Nat) (v : Value) (c : AV), vs[j]? = some v → cs[j]? = some c → C w S M clk v c)

theorem Pt.append {vs us : List Value} {cs ds : List AV} (h1 : Pt w S M clk vs cs) (h2 : Pt w S M clk us ds) : Pt w S M clk (vs ++ us) (cs ++ ds) := by
  refine ⟨by simp [h1.1, h2.1], fun j v hv => ?_, fun j v c hv hc => ?_⟩
  · rcases Nat.lt_or_ge j vs.length with hj | hj
    · rw [List.getElem?_append_left hj] at hv; exact h1.2.1 _ _ hv
    · rw [List.getElem?_append_right hj] at hv; exact h2.2.1 _ _ hv
  · rcases Nat.lt_or_ge j vs.length with hj | hj
    · rw [List.getElem?_append_left hj] at hv
      rw [List.getElem?_append_left (by rw [← h1.1]; exact hj)] at hc
      exact h1.2.2 _ _ _ hv hc
    · rw [List.getElem?_append_right hj] at hv
      rw [List.getElem?_append_right (by rw [← h1.1]; exact hj)] at hc
      exact h2.2.2 _ _ _ hv (by rw [h1.1]; exact hc)

theorem Pt.take {vs : List Value} {cs : List AV} (h1 : Pt w S M clk vs cs) (n : Nat) : Pt w S M clk (vs.take n) (cs.take n) := by
  refine ⟨by simp [h1.1], fun j v hv => ?_, fun j v c hv hc => ?_⟩
  · rw [List.getElem?_take] at hv; split at hv
    · exact h1.2.1 _ _ hv
    · cases hv
  · rw [List.getElem?_take] at hv hc; split at hv
    · rename_i hj; rw [if_pos hj] at hc; exact h1.2.2 _ _ _ hv hc
    · cases hv

theorem Pt.drop {vs : List Value} {cs : List AV} (h1 : Pt w S M clk vs cs) (n : Nat) : Pt w S M clk (vs.drop n) (cs.drop n) := by
  refine ⟨by simp [h1.1], fun j v hv => ?_, fun j v c hv hc => ?_⟩
  · rw [List.getElem?_drop] at hv; exact h1.2.1 _ _ hv
  · rw [List.getElem?_drop] at hv hc; exact h1.2.2 _ _ _ hv hc

theorem Pt.agg {vs : List Value} {cs : List AV} (h1 : Pt w S M clk vs cs) : C w S M clk (.agg vs.toArray) (.agg cs) :=
  .agg _ _ (by simpa using h1.1) (fun j v hv => h1.2.1 j v (by simpa using hv)) (fun j v c hv hc => h1.2.2 j v c (by simpa using hv) hc)

theorem Pt.of_cells {v : Value} {x : AV} {cs : List AV} (hx : C w S M clk v x) (hc : cellsOf x = some cs) : Pt w S M clk v.cells.toList cs := by
  obtain ⟨h1, h2, h3⟩ := cellsOf_C hx hc
  exact ⟨by simpa using h1, fun j u hu => h2 j u (by simpa using hu), fun j u c hu hc => h3 j u c (by simpa using hu) hc⟩

/-- the parts, one by one -/
def PtP (w : World) (S : Nat → Nat → Prop) (M : Map) (clk : Nat) (place : Nat → Option (Nat × Nat)) : List (Nat × Value) → List (Nat × Nat × AV) → Prop
  | [], [] => True
  | (i, v) :: r, (off, size, x) :: s => place i = some (off, size) ∧ C w S M clk v x ∧ PtP w S M clk place r s
  | _, _ => False

theorem sound_fill {place : Nat → Option (Nat × Nat)} : ∀ (ps : List (Nat × Value)) (qs : List (Nat × Nat × AV)) (cells : Array Value) (cs ds : List AV),
    Pt w S M clk cells.toList cs → PtP w S M clk place ps qs → fillL cs qs = some ds → ∃ r, Instr.fill place cells ps = some r ∧ Pt w S M clk r.toList ds
  | [], [], cells, cs, ds, hc, _, hf => by
    simp only [fillL, Option.some.injEq] at hf
    subst hf
    exact ⟨cells, rfl, hc⟩
  | [], _ :: _, _, _, _, _, hp, _ => hp.elim
  | _ :: _, [], _, _, _, _, hp, _ => hp.elim
  | (i, v) :: ps, (off, size, x) :: qs, cells, cs, ds, hc, hp, hf => by
    obtain ⟨hpl, hx, hp⟩ := hp
    simp only [fillL] at hf
    split at hf
    · cases hf
    rename_i vs hvs
    split at hf
    · rename_i hn
      have hpt := Pt.of_cells hx hvs
      have hsz : v.cells.size = size := by have := hpt.1; simp at this; omega
      have hcs : cells.size = cs.length := by have := hc.1; simpa using this
      have hle : off + v.cells.size ≤ cells.size := by omega
      have hone := fill_one off v.cells cells hle
      have hpt' : Pt w S M clk (v.cells.zipIdx.foldl (fun cs (p : Value × Nat) => cs.setIfInBounds (off + p.2) p.1) cells).toList (cs.take off ++ (vs ++ cs.drop (off + size))) := by
        rw [hone, hsz]
        exact (hc.take off).append (hpt.append (hc.drop (off + size)))
      obtain ⟨r, hr, hC⟩ := sound_fill ps qs _ _ ds hpt' hp hf
      refine ⟨r, ?_, hC⟩
      simp only [Instr.fill, hpl]
      rw [if_neg (by simp; omega)]
      exact hr
    · cases hf

theorem mapM_some {α β : Type} {f : α → Option β} : ∀ (l : List α) (m : List β), l.mapM f = some m → l.length = m.length ∧ ∀ (j : Nat) (x : α) (y : β), l[j]? = some x → m[j]? = some y → f x = some y
  | [], m, h => by simp at h; subst h; exact ⟨rfl, fun j x y hx => by simp at hx⟩
  | x :: l, m, h => by
    simp only [List.mapM_cons, Option.bind_eq_bind, Option.pure_def] at h
    obtain ⟨y, hy, h1⟩ := bind_some h
    obtain ⟨m', hm, h2⟩ := bind_some h1
    cases h2
    obtain ⟨hl, hg⟩ := mapM_some l m' hm
    refine ⟨by simp [hl], fun j a b ha hb => ?_⟩
    cases j with
    | zero => simp at ha hb; subst ha; subst hb; exact hy
    | succ j => exact hg j a b (by simpa using ha) (by simpa using hb)

theorem ofConst_one {v : Value} {x : AV} (h : ofConst v = some x) : v.oneCell' = true := by
  unfold ofConst at h
  split at h <;> (try cases h) <;> try rfl
  rename_i h1 h2
  cases v <;> first | rfl | (exfalso; simp_all)

theorem zeros_pt {t : TypeId} {zs : List AV} (hz : zeros P t = some zs) : ∃ z : Value, (zeroValue t).run P w = .ok z w ∧ (P.info? t).bind (·.zero) = some z ∧ Pt w S M clk z.cells.toList zs := by
  unfold zeros at hz
  obtain ⟨z, hz1, hz2⟩ := bind_some hz
  obtain ⟨inf, hi, hz3⟩ := bind_some hz1
  obtain ⟨hl, hg⟩ := mapM_some _ _ hz2
  refine ⟨z, by simp [zeroValue, typeInfo, hi, hz3, Result.andThen], hz1, hl, fun j v hv => ?_, fun j v c hv hc => .p (ofConst_C (hg j v c hv hc))⟩
  have hj : j < zs.length := by
    rcases Nat.lt_or_ge j z.cells.toList.length with h | h
    · omega
    · rw [List.getElem?_eq_none h] at hv; cases hv
  exact ofConst_one (hg j v _ hv (List.getElem?_eq_getElem hj))

theorem run_places (fields : Array Field) (hs : ∀ f ∈ fields.toList, ∃ n, sizeT P f.type = some n) :
    (fields.mapM fun f => do pure (f.offset, ← sizeOf f.type) : Sem (Array (Nat × Nat))).run P w = .ok (fields.map fun f => (f.offset, (sizeT P f.type).getD 0)) w := by
  rw [Array.mapM_eq_mapM_toList]
  have key : ∀ l : List Field, (∀ f ∈ l, ∃ n, sizeT P f.type = some n) → (l.mapM fun f => do pure (f.offset, ← sizeOf f.type) : Sem (List (Nat × Nat))).run P w = .ok (l.map fun f => (f.offset, (sizeT P f.type).getD 0)) w := by
    intro l
    induction l with
    | nil => intro _; rfl
    | cons f l ih =>
      intro hl
      obtain ⟨n, hn⟩ := hl f (by simp)
      simp only [List.mapM_cons, Sem.run_bind, sizeT_run hn, Result.andThen_ok, Sem.run_pure, ih (fun g hg => hl g (by simp [hg])), List.map_cons, hn, Option.getD_some]
  refine (Sem.run_map P w _ _).trans ?_
  rw [key _ hs, Result.andThen_ok]
  exact congrArg (fun x => Result.ok x w) (by rw [← Array.toList_map])

end
end Go.Ab
