/-
  The operations that leave the boxes alone do what their abstract twins do: operation by operation.
-/
import Derived.Test.YtoddiifgfjibfaaAb2
namespace Go.Ab
open Go.RowKit

section
variable {P : Program} {w : World} {S : Nat → Nat → Prop} {M : Map} {clk : Nat} {e : Nat → AV} {h : Heap} {a : Act}

theorem run_val {s : Sem Value} {v : Value} (hs : s.run P w = .ok v w) : (do pure (Next.value (← s)) : Sem Next).run P w = .ok (.value v) w := by
  simp [hs, Result.andThen]

theorem run_isAgg' {t : TypeId} {d : TypeDesc} (hd : P.underlying t = some d) : (isAgg t).run P w = .ok (isAggD d) w := by
  unfold isAgg
  simp only [Sem.run_bind, run_underlying hd, Result.andThen_ok]
  cases d <;> rfl

theorem run_isAgg_none {t : TypeId} (hp : partN P t = some none) : (isAgg t).run P w = .ok false w := by
  unfold partN at hp
  obtain ⟨d, hd, hp⟩ := bind_some hp
  obtain ⟨inf, hi, hp⟩ := map_some hp
  rw [run_isAgg' hd]
  split at hp
  · cases hp
  · simp_all

theorem run_isAgg_some {t : TypeId} {n : Nat} (hp : partN P t = some (some n)) : (isAgg t).run P w = .ok true w ∧ (sizeOf t).run P w = .ok n w := by
  unfold partN at hp
  obtain ⟨d, hd, hp⟩ := bind_some hp
  obtain ⟨inf, hi, hp⟩ := map_some hp
  rw [run_isAgg' hd]
  split at hp
  · cases hp
    refine ⟨by simp_all, by simp [sizeOf, typeInfo, hi, Result.andThen]⟩
  · cases hp

/-- What a part of cells is. -/
theorem run_part {t : TypeId} {n : Option Nat} {vs : Array Value} {cs : List AV} {o : Nat} {x : AV} (hp : partN P t = some n) (hl : vs.size = cs.length)
    (h1 : ∀ (j : Nat) (v : Value), vs[j]? = some v → v.oneCell' = true) (hc : ∀ (j : Nat) (v : Value) (c : AV), vs[j]? = some v → cs[j]? = some c → C w S M clk v c)
    (hx : partL n cs o = some x) : ∃ v, (part t vs o).run P w = .ok v w ∧ C w S M clk v x := by
  unfold part
  cases n with
  | none =>
    simp only [partL] at hx
    have ho : o < cs.length := by
      rcases Nat.lt_or_ge o cs.length with h | h
      · exact h
      · rw [List.getElem?_eq_none h] at hx; cases hx
    have hv : vs[o]? = some (vs[o]'(by omega)) := Array.getElem?_eq_getElem (by omega)
    refine ⟨vs[o]'(by omega), ?_, hc o _ x hv hx⟩
    simp only [Sem.run_bind, run_isAgg_none hp, Result.andThen_ok, hv]
    rfl
  | some k =>
    simp only [partL] at hx
    split at hx <;> cases hx
    rename_i hk
    refine ⟨.agg (vs.extract o (o + k)), ?_, .agg _ _ ?_ ?_ ?_⟩
    · simp only [Sem.run_bind, (run_isAgg_some hp).1, (run_isAgg_some hp).2, Result.andThen_ok, if_true, Sem.run_ite, Sem.run_pure]
    · simp only [Array.size_extract, List.length_take, List.length_drop]; omega
    · intro j v hv
      rw [Array.getElem?_extract] at hv
      split at hv
      · exact h1 _ _ hv
      · cases hv
    · intro j v c hv hc'
      rw [Array.getElem?_extract] at hv
      split at hv
      · rw [List.getElem?_take] at hc'
        split at hc'
        · rw [List.getElem?_drop] at hc'
          exact hc _ _ _ hv hc'
        · cases hc'
      · cases hv

/-- Loading out of cells that are known. -/
theorem run_loadVar {t : TypeId} {n : Option Nat} {blk off o : Nat} {cs : List AV} {x : AV} (hp : partN P t = some n)
    (hc : ∀ (j : Nat) (c : AV), cs[j]? = some c → ∃ u, w.cell? ⟨blk, off + j, none⟩ = some u ∧ u.oneCell' = true ∧ C w S M clk u c)
    (hx : partL n cs o = some x) : ∃ v, (loadVar t ⟨blk, off + o, none⟩).run P w = .ok v w ∧ C w S M clk v x := by
  unfold loadVar
  cases n with
  | none =>
    simp only [partL] at hx
    obtain ⟨u, hu, _, hC⟩ := hc o x hx
    refine ⟨u, ?_, hC⟩
    simp only [Sem.run_bind, run_isAgg_none hp, Result.andThen_ok, load, Bool.false_eq_true, if_false, Sem.run_ite, Sem.run, hu]
  | some k =>
    simp only [partL] at hx
    split at hx <;> cases hx
    rename_i hk
    have key : ∃ vs : List Value, vs.length = k ∧ (∀ j v, vs[j]? = some v → w.cell? ((⟨blk, off + o, none⟩ : Addr).add j) = some v ∧ v.oneCell' = true) ∧
        ∀ (j : Nat) (v : Value) (c : AV), vs[j]? = some v → ((cs.drop o).take k)[j]? = some c → C w S M clk v c := by
      have step : ∀ k, o + k ≤ cs.length → ∃ vs : List Value, vs.length = k ∧ (∀ j v, vs[j]? = some v → w.cell? ((⟨blk, off + o, none⟩ : Addr).add j) = some v ∧ v.oneCell' = true) ∧
          ∀ (j : Nat) (v : Value) (c : AV), vs[j]? = some v → (cs.drop o)[j]? = some c → C w S M clk v c := by
        intro k
        induction k with
        | zero => intro _; exact ⟨[], rfl, fun j v hv => by simp at hv, fun j v c hv => by simp at hv⟩
        | succ k ih =>
          intro hk
          obtain ⟨vs, hl, h1, h2⟩ := ih (by omega)
          have hok : cs[o + k]? = some (cs[o + k]'(by omega)) := List.getElem?_eq_getElem (by omega)
          obtain ⟨u, hu, hone, hC⟩ := hc (o + k) _ hok
          refine ⟨vs ++ [u], by simp [hl], fun j v hv => ?_, fun j v c hv hcj => ?_⟩
          · rcases Nat.lt_trichotomy j vs.length with hj | hj | hj
            · rw [List.getElem?_append_left hj] at hv; exact h1 j v hv
            · subst hj
              simp at hv
              subst hv
              refine ⟨?_, hone⟩
              rw [← hu, hl]
              unfold Addr.add
              split
              · rename_i h0; subst h0; rfl
              · simp [Nat.add_assoc]
            · rw [List.getElem?_eq_none (by simp; omega)] at hv; cases hv
          · rcases Nat.lt_trichotomy j vs.length with hj | hj | hj
            · rw [List.getElem?_append_left hj] at hv; exact h2 j v c hv hcj
            · subst hj
              simp at hv
              subst hv
              rw [List.getElem?_drop, hl, hok] at hcj
              cases hcj
              exact hC
            · rw [List.getElem?_eq_none (by simp; omega)] at hv; cases hv
      obtain ⟨vs, hl, h1, h2⟩ := step k hk
      refine ⟨vs, hl, h1, fun j v c hv hcj => ?_⟩
      rw [List.getElem?_take] at hcj
      split at hcj
      · exact h2 j v c hv hcj
      · cases hcj
    obtain ⟨vs, hl, h1, h2⟩ := key
    refine ⟨.agg vs.toArray, ?_, .agg _ _ ?_ ?_ ?_⟩
    · have hr := run_loadCells_list (P := P) w ⟨blk, off + o, none⟩ vs (fun j v hv => (h1 j v hv).1)
      rw [hl] at hr
      simp only [Sem.run_bind, (run_isAgg_some hp).1, (run_isAgg_some hp).2, Result.andThen_ok, if_true, hr, Sem.run_ite, Sem.run_pure]
    · simp only [List.size_toArray, List.length_take, List.length_drop, hl]; omega
    · intro j v hv
      exact (h1 j v (by simpa using hv)).2
    · intro j v c hv hcj
      exact h2 j v c (by simpa using hv) hcj

theorem add_addr (k o n : Nat) : (⟨k, o, none⟩ : Addr).add n = ⟨k, o + n, none⟩ := by
  unfold Addr.add
  split
  · rename_i h0; subst h0; rfl
  · rfl

/-- The cells of a box's element. -/
theorem box_cells {bx : Box} {i : Nat} {r : List AV} (hb : BoxOk w S M clk bx) (hr : bx.els[i]? = some r) :
    ∃ k, M bx.gen = some (some k) ∧ ∀ (j : Nat) (c : AV), r[j]? = some c → ∃ u, w.cell? ⟨k, i * bx.z + j, none⟩ = some u ∧ u.oneCell' = true ∧ C w S M clk u c := by
  obtain ⟨_, _, m, hm, hb⟩ := hb
  cases m with
  | none => simp only [] at hb; rw [hb.1] at hr; simp at hr
  | some k =>
    obtain ⟨arr, ty, hh, hsz, hc, _⟩ := hb
    refine ⟨k, hm, fun j c hj => ?_⟩
    obtain ⟨u, hu, h1, hC, _⟩ := hc i r j c hr hj
    exact ⟨u, by rw [cell_of_row w k _ arr ty (0, 0) hh]; exact hu, h1, hC⟩

theorem sound_load {t : TypeId} {n : Option Nat} {v : Value} {x y : AV} (hp : partN P t = some n) (hh : HeapRel w S M clk h) (hv : C w S M clk v x)
    (hx : loadAV n h x = some y) : ∃ u, (Instr.loadAt t v).run P w = .ok u w ∧ C w S M clk u y := by
  cases x <;> try cases hx
  case ep cs o =>
    obtain ⟨blk, off, u, rfl, hS, hc⟩ := hv.inv_ep.inv_ep
    have := run_loadVar (P := P) (w := w) (S := S) (M := M) (clk := clk) (blk := blk) (off := off) hp (fun j c hj => by
      have hjl : j < cs.length := by
        rcases Nat.lt_or_ge j cs.length with h | h
        · exact h
        · rw [List.getElem?_eq_none h] at hj; cases hj
      exact ⟨u j, (hS j hjl).2.1, (hS j hjl).2.2, .p (hc j c hj)⟩) hx
    obtain ⟨v, h1, h2⟩ := this
    exact ⟨v, by simp only [Instr.loadAt, Instr.sureAddr, Sem.run_bind, Sem.run_pure, Result.andThen_ok, h1], h2⟩
  case ptr id g z i o =>
    simp only [loadAV] at hx
    obtain ⟨bx, hb, hx⟩ := bind_some hx
    obtain ⟨r, hr, hx⟩ := bind_some hx
    obtain ⟨hl, hg, hz⟩ := boxAt_some hb
    obtain ⟨k, hk, hcs⟩ := box_cells (hh.box id bx hl) hr
    have hpo := hv.inv_ptr.2.1
    rw [hg] at hk
    unfold PtrOk at hpo
    rw [hk] at hpo
    simp only [] at hpo
    subst hpo
    rw [hz] at hcs
    obtain ⟨v, h1, h2⟩ := run_loadVar (P := P) (w := w) (S := S) (M := M) (clk := clk) (blk := k) (off := i * z) hp hcs hx
    exact ⟨v, by simp only [Instr.loadAt, Instr.sureAddr, Sem.run_bind, Sem.run_pure, Result.andThen_ok, h1], h2⟩

end
end Go.Ab
