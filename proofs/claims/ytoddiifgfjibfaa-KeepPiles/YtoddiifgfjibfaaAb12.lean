/-
  Freezing: a row of the call's own, read as a value.
-/
import Derived.Test.YtoddiifgfjibfaaAb11
namespace Go.Ab
open Go.RowKit

def cellsS (h : Heap) (M : Map) (ids : List BId) (S : Nat → Nat → Prop) : Nat → Nat → Prop :=
  fun k o => S k o ∨ ∃ id bx, id ∈ ids ∧ h.lookup id = some bx ∧ M bx.gen = some (some k) ∧ o < bx.els.length * bx.z

theorem lookup_map {α β γ : Type} [BEq α] (f : α → β → γ) (k : α) [LawfulBEq α] : ∀ (l : List (α × β)), (l.map fun p => (p.1, f p.1 p.2)).lookup k = (l.lookup k).map (f k)
  | [] => rfl
  | (a, b) :: l => by
    simp only [List.map_cons, List.lookup_cons]
    by_cases h : k == a
    · have := eq_of_beq h; subst this; simp
    · simp only [h]; exact lookup_map f k l

instance : LawfulBEq BId := inferInstance

theorem lookup_share (ids : List BId) (h : Heap) (b : BId) : (shareIds ids h).lookup b = (h.lookup b).map fun bx => if ids.contains b then { bx with kind := .sh } else bx := by
  cases ids with
  | nil =>
    simp only [shareIds, List.contains_nil, Bool.false_eq_true, if_false]
    cases h.lookup b <;> rfl
  | cons i is => exact lookup_map (fun b bx => if (i :: is).contains b then { bx with kind := .sh } else bx) b h

section
variable {P : Program} {cx : Cx} {w w' : World} {S S' : Nat → Nat → Prop} {M : Map} {clk : Nat} {h : Heap} {ρ : Nat → AV} {a : Act}

theorem WRel.share (hr : WRel cx S M clk h w) (ids : List BId) (hk : ∀ id bx, id ∈ ids → h.lookup id = some bx → bx.kind ≠ .str) : WRel cx (cellsS h M ids S) M clk (shareIds ids h) w := by
  have hx : Ext w S M clk w (cellsS h M ids S) M clk := ⟨fun k o hs => .inl hs, fun k o u _ hc => hc, Nat.le_refl _, fun g m _ hm => hm, fun g k arr e _ _ hb => ⟨arr, hb, rfl⟩⟩
  have hlt : ∀ k o, cellsS h M ids S k o → k < w.heap.size := by
    intro k o hs
    rcases hs with hs | ⟨id, bx, _, _, hm, _⟩
    · exact hr.Slt k o hs
    · exact (hr.Mnew _ k hm).1
  have look : ∀ b bx', (shareIds ids h).lookup b = some bx' → ∃ bx, h.lookup b = some bx ∧ bx'.gen = bx.gen ∧ bx'.z = bx.z ∧ bx'.els = bx.els ∧ (b ∈ ids → bx'.kind = .sh) ∧ (b ∉ ids → bx' = bx) := by
    intro b bx' hb
    rw [lookup_share] at hb
    obtain ⟨bx, hbx, rfl⟩ := map_some hb
    refine ⟨bx, hbx, ?_⟩
    by_cases hc : ids.contains b = true
    · have := List.contains_iff_mem.1 hc
      simp [this]
    · have : b ∉ ids := fun h => hc (List.contains_iff_mem.2 h)
      simp [this]
  refine ⟨⟨fun b bx' hb => ?_, fun g m hm => ?_, fun b bx b' bx' h1 h2 hg => ?_, hr.heap.inj⟩, hr.ext.trans hx, hr.fr, fun k o hs => ?_, hlt, hr.Mnew⟩
  · obtain ⟨bx, hbx, hg, hz, hel, hin, hout⟩ := look b bx' hb
    by_cases hm : b ∈ ids
    · obtain ⟨h1, h2, m, hmm, h3⟩ := hr.heap.box b bx hbx
      refine ⟨by rw [hg]; exact h1, by rw [hel, hz]; exact h2, m, by rw [hg]; exact hmm, ?_⟩
      have hkk := hk b bx hm hbx
      cases m with
      | none => exact ⟨by rw [hel]; exact h3.1, by rw [hin hm]; simp⟩
      | some k =>
        obtain ⟨arr, e, hh, hsz, hc, _, hl⟩ := h3
        refine ⟨arr, e, hh, by rw [hel, hz]; exact hsz, fun i r j c hi hj => ?_, fun hne => absurd (hin hm) hne, fun o hs => ?_⟩
        · rw [hel] at hi
          obtain ⟨u, hu, h1, hC, hP⟩ := hc i r j c hi hj
          exact ⟨u, by rw [hz]; exact hu, h1, hC.mono hx, fun _ => (hP hkk).mono hx.hS hx.hcell⟩
        · rw [hel, hz]
          rcases hs with hs | ⟨id, bx2, hid, hb2, hm2, ho⟩
          · exact hl o hs
          · have := hr.heap.inj _ _ _ hm2 hmm
            have := hr.heap.gens _ _ _ _ hb2 hbx this
            subst this
            rw [hbx] at hb2
            cases hb2
            exact ho
    · rw [hout hm]
      refine (hr.heap.box b bx hbx).mono hx rfl (fun _ _ => rfl) fun k o hmk hs => ?_
      rcases hs with hs | ⟨id, bx2, hid, hb2, hm2, ho⟩
      · exact hs
      · have := hr.heap.inj _ _ _ hm2 hmk
        have := hr.heap.gens _ _ _ _ hb2 hbx this
        subst this
        exact absurd hid hm
  · obtain ⟨b, bx, hb, hg⟩ := hr.heap.live g m hm
    refine ⟨b, _, by rw [lookup_share, hb]; rfl, ?_⟩
    simp only
    split <;> exact hg
  · obtain ⟨c, hc, hcg, _⟩ := look _ _ h1
    obtain ⟨c', hc', hcg', _⟩ := look _ _ h2
    exact hr.heap.gens _ _ _ _ hc hc' (by rw [← hcg, ← hcg', hg])
  · rcases hs with hs | ⟨id, bx, _, _, hm, _⟩
    · exact hr.Snew k o hs
    · exact .inr (hr.Mnew _ k hm).2

theorem frzC_CP {v : Value} {x y : AV} {ids : List BId} (hh : HeapRel w S M clk h) (hv : C w S M clk v x) (hf : frzC h x = some y) (hid : ∀ id g z off n, x = .bs id g z off n → id ∈ ids) : CP w (cellsS h M ids S) v y := by
  have up : ∀ {v y}, CP w S v y → CP w (cellsS h M ids S) v y := fun hp => hp.mono (fun _ _ hs => .inl hs) fun _ _ _ _ hc => hc
  cases x <;> simp only [frzC] at hf <;> try cases hf
  case bs id g z off n =>
    obtain ⟨bx, hb, hf1⟩ := bind_some hf
    split at hf1 <;> cases hf1
    rename_i hc
    obtain ⟨hkk, hle⟩ := hc
    obtain ⟨hlk, hg, hz⟩ := boxAt_some hb
    obtain ⟨_, hbs, _⟩ := hv.inv_bs
    obtain ⟨h1, h2, m, hm, h3⟩ := hh.box id bx hlk
    rw [hg] at hm
    unfold BsOk at hbs
    rw [hm] at hbs
    cases m with
    | none =>
      obtain ⟨rfl, rfl, ad, rfl, had⟩ := hbs
      simp only [List.take_zero]
      cases ad with
      | none => exact .slnil _ (.inr rfl)
      | some ad =>
        obtain ⟨blk, o, sp⟩ := ad
        have := had _ rfl
        simp only at this
        subst this
        exact CP_empty rfl (Nat.zero_le _) (by simp)
    | some k =>
      obtain ⟨arr, ty, cap, hblk, rfl, hnc, hcm, harr⟩ := hbs
      obtain ⟨arr', e', hh', hsz, hcc, _, hl⟩ := h3
      rw [hblk] at hh'
      cases hh'
      have hlen : ((bx.els.drop off).take n).length = n := by simp; omega
      have hget : ∀ i, i < n → ((bx.els.drop off).take n)[i]? = bx.els[off + i]? := fun i hi => by rw [List.getElem?_take, if_pos hi, List.getElem?_drop]
      have hlt : ∀ (i : Nat) (r : List AV), ((bx.els.drop off).take n)[i]? = some r → i < n := by
        intro i r hr
        rcases Nat.lt_or_ge i n with h | h
        · exact h
        · rw [List.getElem?_eq_none (by omega)] at hr; cases hr
      have key : ∀ i j, i < n → j < z → ∃ r c u, bx.els[off + i]? = some r ∧ r[j]? = some c ∧ arr[(off + i) * z + j]? = some u ∧ u.oneCell' = true ∧ CP w S u c := by
        intro i j hi hj
        have hr : bx.els[off + i]? = some (bx.els[off + i]'(by omega)) := List.getElem?_eq_getElem (by omega)
        have hrl := h2 _ (List.mem_of_getElem? hr)
        have hc : (bx.els[off + i]'(by omega))[j]? = some ((bx.els[off + i]'(by omega))[j]'(by omega)) := List.getElem?_eq_getElem (by omega)
        obtain ⟨u, hu, h1, _, hP⟩ := hcc _ _ _ _ hr hc
        rw [hz] at hu
        exact ⟨_, _, u, hr, hc, hu, h1, hP hkk⟩
      have hcp := CP.sl (w := w) (S := cellsS h M ids S) k (off * z) z cap ((bx.els.drop off).take n) .an (fun i j => (arr[(off + i) * z + j]?).getD undef) (by simp) (by simp) (by omega) hcm ?_ ?_ ?_
      · rw [hlen] at hcp; exact hcp
      · intro i r hr
        rw [hget i (hlt i r hr)] at hr
        rw [← hz]
        exact h2 _ (List.mem_of_getElem? hr)
      · intro i j hi hj
        rw [hlen] at hi
        obtain ⟨r, c, u, hr, hc, hu, h1, _⟩ := key i j hi hj
        have e1 : off * z + i * z + j = (off + i) * z + j := by rw [Nat.add_mul]
        rw [e1]
        refine ⟨.inr ⟨id, bx, hid _ _ _ _ _ rfl, hlk, by rw [hg]; exact hm, ?_⟩, ?_, ?_⟩
        · rw [hz]
          have : (off + i) * z + j < (off + i + 1) * z := by rw [Nat.add_mul (off + i) 1]; omega
          exact Nat.lt_of_lt_of_le this (Nat.mul_le_mul_right _ (by omega))
        · rw [cell_of_row w k _ arr _ (0, 0) hblk, hu]; rfl
        · rw [hu]; exact h1
      · intro i r j c hr hc
        have hi := hlt i r hr
        rw [hget i hi] at hr
        have hj : j < z := by
          have := h2 _ (List.mem_of_getElem? hr)
          rw [hz] at this
          rcases Nat.lt_or_ge j r.length with h | h
          · omega
          · rw [List.getElem?_eq_none h] at hc; cases hc
        obtain ⟨r', c', u, hr', hc', hu, h1, hP⟩ := key i j hi hj
        rw [hr] at hr'
        cases hr'
        rw [hc] at hc'
        cases hc'
        rw [hu]
        exact up hP
  case i k n => exact up (hv.pureC rfl)
  case b x => exact up (hv.pureC rfl)
  case s l => exact up (hv.pureC rfl)
  case raw v => exact up (hv.pureC rfl)
  case sl els f => exact up (hv.pureC rfl)
  case ep cs o => exact up (hv.pureC rfl)
  case dead => exact .dead _

theorem frz1_CP {v : Value} {x y : AV} {ids : List BId} (hh : HeapRel w S M clk h) (hv : C w S M clk v x) (hf : frz1 h x = some y) (hid : ∀ id, id ∈ refs x → id ∈ ids) : CP w (cellsS h M ids S) v y := by
  cases x
  case agg cs =>
    simp only [frz1] at hf
    obtain ⟨ds, hd, rfl⟩ := map_some hf
    obtain ⟨hl, hg⟩ := mapM_some _ _ hd
    obtain ⟨vs, rfl, hvl, h1, hc⟩ := hv.inv_agg
    refine .agg vs ds (by omega) h1 fun j v d hv hd => ?_
    have hj : j < cs.length := by
      rcases Nat.lt_or_ge j ds.length with h | h
      · omega
      · rw [List.getElem?_eq_none h] at hd; cases hd
    have hcj : cs[j]? = some (cs[j]'hj) := List.getElem?_eq_getElem hj
    refine frzC_CP hh (hc j v _ hv hcj) (hg j _ _ hcj hd) fun id g z off n he => hid id ?_
    simp only [refs, List.mem_flatMap]
    exact ⟨_, List.mem_of_getElem? hcj, by rw [he]; simp⟩
  all_goals exact frzC_CP hh hv hf fun id g z off n he => hid id (by rw [he]; simp [refs])

theorem frz_CP {v : Value} {x y : AV} {ids : List BId} (hh : HeapRel w S M clk h) (hv : C w S M clk v x) (hf : frz h x = some y) (hid : ∀ id, id ∈ refs x → id ∈ ids) : CP w (cellsS h M ids S) v y := by
  cases x
  case tup cs =>
    simp only [frz] at hf
    obtain ⟨ds, hd, rfl⟩ := map_some hf
    obtain ⟨hl, hg⟩ := mapM_some _ _ hd
    obtain ⟨vs, rfl, hvl, hc⟩ := hv.inv_tup
    refine .tup vs ds (by omega) fun j v d hv hd => ?_
    have hj : j < cs.length := by
      rcases Nat.lt_or_ge j ds.length with h | h
      · omega
      · rw [List.getElem?_eq_none h] at hd; cases hd
    have hcj : cs[j]? = some (cs[j]'hj) := List.getElem?_eq_getElem hj
    refine frz1_CP hh (hc j v _ hv hcj) (hg j _ _ hcj hd) fun id he => hid id ?_
    simp only [refs, List.mem_flatMap]
    refine ⟨_, List.mem_of_getElem? hcj, ?_⟩
    have hfj := hg j _ _ hcj hd
    cases hx : cs[j]'hj <;> rw [hx] at he hfj <;> first | (simp [frz1, frzC] at hfj; done) | exact he
  all_goals exact frz1_CP hh hv hf hid

/-- frozen boxes are rows -/
theorem frz_kind {x y : AV} (hf : frz h x = some y) : ∀ id bx, id ∈ refs x → h.lookup id = some bx → bx.kind ≠ .str := by
  have hC : ∀ c d, frzC h c = some d → ∀ id g z off n, c = .bs id g z off n → ∀ bx, h.lookup id = some bx → bx.kind ≠ .str := by
    intro c d hf id g z off n he bx hb
    subst he
    simp only [frzC] at hf
    obtain ⟨bx', hb', hf1⟩ := bind_some hf
    split at hf1 <;> cases hf1
    rename_i hc
    obtain ⟨hlk, _⟩ := boxAt_some hb'
    rw [hb] at hlk
    cases hlk
    exact hc.1
  have h1 : ∀ x y, frz1 h x = some y → (∀ cs, x ≠ .tup cs) → ∀ id bx, id ∈ refs x → h.lookup id = some bx → bx.kind ≠ .str := by
    intro x y hf hnt id bx hid hb
    cases x <;> simp only [refs] at hid <;> try (simp at hid; done)
    case bs id' g z off n =>
      simp only [List.mem_singleton] at hid
      subst hid
      simp only [frz1] at hf
      exact hC (.bs id g z off n) y hf _ _ _ _ _ rfl bx hb
    case agg cs =>
      simp only [frz1] at hf
      obtain ⟨ds, hd, rfl⟩ := map_some hf
      obtain ⟨hl, hg⟩ := mapM_some _ _ hd
      simp only [List.mem_flatMap] at hid
      obtain ⟨c, hc, hid⟩ := hid
      obtain ⟨j, hj⟩ := List.getElem?_of_mem hc
      have hjl : j < ds.length := by
        rcases Nat.lt_or_ge j cs.length with h | h
        · omega
        · rw [List.getElem?_eq_none h] at hj; cases hj
      have hdj : ds[j]? = some (ds[j]'hjl) := List.getElem?_eq_getElem hjl
      cases c <;> simp only [List.mem_singleton] at hid <;> try (simp at hid; done)
      subst hid
      exact hC _ _ (hg j _ _ hj hdj) _ _ _ _ _ rfl bx hb
    case tup cs => exact absurd rfl (hnt cs)
  intro id bx hid hb
  cases x
  case tup cs =>
    simp only [frz] at hf
    obtain ⟨ds, hd, rfl⟩ := map_some hf
    obtain ⟨hl, hg⟩ := mapM_some _ _ hd
    simp only [refs, List.mem_flatMap] at hid
    obtain ⟨c, hc, hid⟩ := hid
    obtain ⟨j, hj⟩ := List.getElem?_of_mem hc
    have hjl : j < ds.length := by
      rcases Nat.lt_or_ge j cs.length with h | h
      · omega
      · rw [List.getElem?_eq_none h] at hj; cases hj
    have hdj : ds[j]? = some (ds[j]'hjl) := List.getElem?_eq_getElem hjl
    have hfj := hg j _ _ hj hdj
    refine h1 _ _ hfj (fun cs he => ?_) id bx ?_ hb
    · subst he; simp [frz1, frzC] at hfj
    · cases c <;> simp only [refs] at hid ⊢ <;> first | exact hid | (simp at hid; done)
  all_goals
    simp only [frz] at hf
    exact h1 _ _ hf (by simp) id bx hid hb

end
end Go.Ab
