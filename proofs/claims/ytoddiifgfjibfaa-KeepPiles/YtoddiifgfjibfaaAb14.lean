/-
  Appending: the model's runs, and rows of cells as lists of elements.
-/
import Derived.Test.YtoddiifgfjibfaaAb13
namespace Go.Ab
open Go.RowKit

/-- a list of cells that reads as elements of z cells each -/
structure Rw (w : World) (S : Nat → Nat → Prop) (z : Nat) (vs : List Value) (els : List (List AV)) : Prop where
  len : vs.length = els.length * z
  row : ∀ r ∈ els, r.length = z
  one : ∀ u ∈ vs, u.oneCell' = true
  cell : ∀ (i : Nat) (r : List AV) (j : Nat) (c : AV), els[i]? = some r → r[j]? = some c → ∃ u, vs[i * z + j]? = some u ∧ CP w S u c

section
variable {P : Program} {cx : Cx} {w w' : World} {S S' : Nat → Nat → Prop} {M : Map} {clk : Nat} {h : Heap} {ρ : Nat → AV} {a : Act}

theorem Rw.mono {z : Nat} {vs : List Value} {els : List (List AV)} (hr : Rw w S z vs els) (hS : ∀ k o, S k o → S' k o) (hw : ∀ k o u, S k o → w.cell? ⟨k, o, none⟩ = some u → w'.cell? ⟨k, o, none⟩ = some u) : Rw w' S' z vs els :=
  ⟨hr.len, hr.row, hr.one, fun i r j c hi hj => let ⟨u, hu, hC⟩ := hr.cell i r j c hi hj; ⟨u, hu, hC.mono hS hw⟩⟩

theorem Rw.nil {z : Nat} : Rw w S z [] [] := ⟨by simp, fun r h => by simp at h, fun u h => by simp at h, fun i r j c h => by simp at h⟩

theorem idx_lt {n z i j : Nat} (hi : i < n) (hj : j < z) : i * z + j < n * z := by
  have : (i + 1) * z ≤ n * z := Nat.mul_le_mul_right _ hi
  rw [Nat.add_mul] at this
  omega

theorem get_lt {α : Type} {l : List α} {i : Nat} {x : α} (h : l[i]? = some x) : i < l.length := by
  rcases Nat.lt_or_ge i l.length with h1 | h1
  · exact h1
  · rw [List.getElem?_eq_none h1] at h; cases h

theorem Rw.append {z : Nat} {vs us : List Value} {els fls : List (List AV)} (h1 : Rw w S z vs els) (h2 : Rw w S z us fls) : Rw w S z (vs ++ us) (els ++ fls) := by
  refine ⟨by simp [h1.len, h2.len, Nat.add_mul], fun r hr => ?_, fun u hu => ?_, fun i r j c hi hj => ?_⟩
  · rcases List.mem_append.1 hr with h | h
    · exact h1.row r h
    · exact h2.row r h
  · rcases List.mem_append.1 hu with h | h
    · exact h1.one u h
    · exact h2.one u h
  · rcases Nat.lt_or_ge i els.length with h | h
    · rw [List.getElem?_append_left h] at hi
      obtain ⟨u, hu, hC⟩ := h1.cell i r j c hi hj
      exact ⟨u, by rw [List.getElem?_append_left (get_lt hu)]; exact hu, hC⟩
    · rw [List.getElem?_append_right h] at hi
      obtain ⟨u, hu, hC⟩ := h2.cell _ r j c hi hj
      refine ⟨u, ?_, hC⟩
      have hle : els.length * z ≤ i * z := Nat.mul_le_mul_right _ h
      rw [List.getElem?_append_right (by rw [h1.len]; omega), h1.len, ← hu]
      congr 1
      rw [Nat.sub_mul]
      omega

theorem Rw.take {z : Nat} {vs : List Value} {els : List (List AV)} (h1 : Rw w S z vs els) (n : Nat) : Rw w S z (vs.take (n * z)) (els.take n) := by
  refine ⟨?_, fun r hr => h1.row r (List.mem_of_mem_take hr), fun u hu => h1.one u (List.mem_of_mem_take hu), fun i r j c hi hj => ?_⟩
  · rw [List.length_take, List.length_take, h1.len]
    rcases Nat.le_total n els.length with h | h
    · rw [Nat.min_eq_left h, Nat.min_eq_left (Nat.mul_le_mul_right _ h)]
    · rw [Nat.min_eq_right h, Nat.min_eq_right (Nat.mul_le_mul_right _ h)]
  · rw [List.getElem?_take] at hi
    split at hi
    · rename_i hin
      obtain ⟨u, hu, hC⟩ := h1.cell i r j c hi hj
      have hjz : j < z := by have := h1.row r (List.mem_of_getElem? hi); have := get_lt hj; omega
      exact ⟨u, by rw [List.getElem?_take, if_pos (idx_lt hin hjz)]; exact hu, hC⟩
    · cases hi

/-- A slice's cells. -/
theorem CP.rows {v : Value} {els : List (List AV)} {f : Fl} {z : Nat} (hv : CP w S v (.sl els f)) (hz : ∀ r ∈ els.head?, r.length = z) :
    ∃ (b : Option Addr) (cap : Nat) (vs : List Value), v = .slice b els.length cap ∧ (b = none → els = [] ∧ cap = 0) ∧ els.length ≤ cap ∧ cap ≤ maxLen ∧ (f = .fu → cap = els.length) ∧ (f = .nl ∨ f = .fu → ∀ ad, b = some ad → ad.spot = none) ∧ (f = .nl → b = none) ∧
      Rw w S z vs els ∧ (∀ j u, vs[j]? = some u → ∃ ad, b = some ad ∧ w.cell? (ad.add j) = some u) := by
  rcases hv.inv_sl with ⟨rfl, b, rfl, hb1, hb2⟩ | ⟨blk, off, z0, cap, u, rfl, hf, hfull, hcap, hmax, hz0, hS, hcc⟩
  · have hbn : (f = .nl ∨ f = .fu) → b = none := by
      intro h
      cases b with
      | none => rfl
      | some a => rcases hb2 (by simp) with h1 | h1 <;> rcases h with h | h <;> rw [h1] at h <;> cases h
    exact ⟨b, 0, [], rfl, fun _ => ⟨rfl, rfl⟩, Nat.le_refl _, Nat.zero_le _, fun h => rfl, fun hf ad h => (by rw [hbn hf] at h; cases h), fun h => hbn (.inl h), Rw.nil, fun j u hu => (by simp at hu)⟩
  · cases hel : els with
    | nil => exact ⟨some ⟨blk, off, none⟩, cap, [], by simp, fun h => (by cases h), by simp, hmax, fun h => (by rw [hfull h, hel]), fun _ ad h => (by cases h; rfl), fun h => absurd h hf, Rw.nil, fun j u hu => (by simp at hu)⟩
    | cons r0 rest =>
      have hzz : z0 = z := by
        have h1 := hz0 0 r0 (by simp [hel])
        have h2 := hz r0 (by simp [hel])
        omega
      subst hzz
      rw [← hel]
      refine ⟨some ⟨blk, off, none⟩, cap, (List.range (els.length * z0)).map fun q => u (q / z0) (q % z0), rfl, fun h => (by cases h), hcap, hmax, hfull, fun _ ad h => (by cases h; rfl), fun h => absurd h hf, ⟨by simp, fun r hr => ?_, fun v hv => ?_, fun i r j c hi hj => ?_⟩, fun j v hv => ⟨_, rfl, ?_⟩⟩
      · obtain ⟨i, hi⟩ := List.getElem?_of_mem hr; exact hz0 i r hi
      · simp only [List.mem_map, List.mem_range] at hv
        obtain ⟨q, hq, rfl⟩ := hv
        have hzp : 0 < z0 := by
          rcases Nat.eq_zero_or_pos z0 with h | h
          · rw [h] at hq; simp at hq
          · exact h
        exact (hS _ _ (by rw [Nat.div_lt_iff_lt_mul hzp]; exact hq) (Nat.mod_lt _ hzp)).2.2
      · have hjz : j < z0 := by have := hz0 i r hi; have := get_lt hj; omega
        have hin := get_lt hi
        refine ⟨u i j, ?_, hcc i r j c hi hj⟩
        rw [List.getElem?_map, List.getElem?_range (idx_lt hin hjz)]
        have e1 : (i * z0 + j) / z0 = i := by rw [Nat.mul_comm, Nat.mul_add_div (by omega), Nat.div_eq_of_lt hjz, Nat.add_zero]
        have e2 : (i * z0 + j) % z0 = j := by rw [Nat.mul_comm, Nat.mul_add_mod, Nat.mod_eq_of_lt hjz]
        simp only [Option.map_some, e1, e2]
      · rw [List.getElem?_map] at hv
        obtain ⟨q, hq, rfl⟩ := map_some hv
        have hq1 := get_lt hq
        rw [List.length_range] at hq1
        rw [List.getElem?_range hq1] at hq
        cases hq
        have hzp : 0 < z0 := by
          rcases Nat.eq_zero_or_pos z0 with h | h
          · rw [h] at hq1; simp at hq1
          · exact h
        rw [add_addr]
        have := (hS (j / z0) (j % z0) (by rw [Nat.div_lt_iff_lt_mul hzp]; exact hq1) (Nat.mod_lt _ hzp)).2.1
        rw [show off + j / z0 * z0 + j % z0 = off + j by have := Nat.div_add_mod j z0; rw [Nat.mul_comm] at this; omega] at this
        exact this

/-- A row box's cells. -/
theorem BoxOk.rows {bx : Box} {k : Nat} (hb : BoxOk w S M clk bx) (hk : M bx.gen = some (some k)) (hkind : bx.kind ≠ .str) :
    ∃ arr e, w.heap[k]? = some (.cells arr e (0, 0)) ∧ bx.els.length * bx.z ≤ arr.size ∧ Rw w S bx.z (arr.toList.take (bx.els.length * bx.z)) bx.els := by
  obtain ⟨_, h2, m, hm, h3⟩ := hb
  rw [hk] at hm
  cases hm
  obtain ⟨arr, e, hh, hsz, hc, _⟩ := h3
  have hzpos : ∀ q, q < bx.els.length * bx.z → 0 < bx.z := by
    intro q hq
    rcases Nat.eq_zero_or_pos bx.z with h | h
    · rw [h] at hq; simp at hq
    · exact h
  refine ⟨arr, e, hh, hsz, by simp; omega, h2, fun u hu => ?_, fun i r j c hi hj => ?_⟩
  · obtain ⟨q, hq⟩ := List.getElem?_of_mem hu
    rw [List.getElem?_take] at hq
    split at hq
    · rename_i hlt
      have hzp := hzpos q hlt
      have hi : q / bx.z < bx.els.length := by rw [Nat.div_lt_iff_lt_mul hzp]; exact hlt
      have hr : bx.els[q / bx.z]? = some (bx.els[q / bx.z]'hi) := List.getElem?_eq_getElem hi
      have hrl := h2 _ (List.mem_of_getElem? hr)
      have hjl : q % bx.z < (bx.els[q / bx.z]'hi).length := by rw [hrl]; exact Nat.mod_lt _ hzp
      obtain ⟨u', hu', h1, _⟩ := hc _ _ _ _ hr (List.getElem?_eq_getElem hjl)
      rw [show q / bx.z * bx.z + q % bx.z = q by have := Nat.div_add_mod q bx.z; rw [Nat.mul_comm] at this; omega] at hu'
      simp only [Array.getElem?_toList] at hq
      rw [hu'] at hq
      cases hq
      exact h1
    · cases hq
  · obtain ⟨u, hu, h1, _, hP⟩ := hc i r j c hi hj
    have hjz : j < bx.z := by have := h2 r (List.mem_of_getElem? hi); have := get_lt hj; omega
    exact ⟨u, by rw [List.getElem?_take, if_pos (idx_lt (get_lt hi) hjz)]; simpa using hu, hP hkind⟩

/-- …and back. -/
theorem BoxOk.of_rows {bx : Box} {k : Nat} {arr : Array Value} {e : TypeId} (hg : bx.gen < clk) (hk : M bx.gen = some (some k)) (hh : w.heap[k]? = some (.cells arr e (0, 0)))
    (hr : Rw w S bx.z (arr.toList.take (bx.els.length * bx.z)) bx.els) (hsz : bx.els.length * bx.z ≤ arr.size) (hS : ∀ o, S k o → bx.kind = .sh ∧ o < bx.els.length * bx.z) : BoxOk w S M clk bx := by
  refine ⟨hg, hr.row, some k, hk, arr, e, hh, hsz, fun i r j c hi hj => ?_, fun hne o hs => hne (hS o hs).1, fun o hs => (hS o hs).2⟩
  obtain ⟨u, hu, hC⟩ := hr.cell i r j c hi hj
  have h1 := hr.one u (List.mem_of_getElem? hu)
  rw [List.getElem?_take] at hu
  split at hu
  · exact ⟨u, by simpa using hu, h1, .p hC, fun _ => hC⟩
  · cases hu

/-! ### append's runs -/

theorem run_append_zero {t ty e : TypeId} {inf : TypeInfo} (ht : P.underlying t = some (.slice e)) (hi : P.info? e = some inf) {b yb : Option Addr} {n cap c : Nat} (hn : n ≤ cap) :
    (Builtin.append_ #[t, t] ty #[.slice b n cap, .slice yb 0 c]).run P w = .ok (.slice b n cap) w := by
  cases b <;> cases yb <;> simp [Builtin.append_, run_underlying ht, sizeOf, typeInfo, hi, Builtin.lenOf, hn, Builtin.firstCells, loadCells, loadCellsFrom, storeCells]

theorem run_append_in {t ty e e' : TypeId} {inf : TypeInfo} (ht : P.underlying t = some (.slice e)) (hi : P.info? e = some inf)
    {g sLen sCap : Nat} {cur : Array Value} (hg : w.heap[g]? = some (.cells cur e' (0, 0)))
    {ad : Addr} {m c : Nat} {news : List Value} (hl : news.length = m * inf.size) (hnews : ∀ j u, news[j]? = some u → w.cell? (ad.add j) = some u) (h1 : ∀ u ∈ news, u.oneCell' = true)
    (hroom : sLen + m ≤ sCap) (hfit : sLen * inf.size + news.length ≤ cur.size) :
    (Builtin.append_ #[t, t] ty #[.slice (some ⟨g, 0, none⟩) sLen sCap, .slice (some ad) m c]).run P w =
      .ok (.slice (some ⟨g, 0, none⟩) (sLen + m) sCap) (w.setRow g (cur.toList.take (sLen * inf.size) ++ news ++ cur.toList.drop (sLen * inf.size + news.length)).toArray) := by
  have hf := run_firstCells_some (P := P) w inf.size m ad m c news hl hnews
  have hst := run_storeCells_at P g (sLen * inf.size) e' news 0 cur w hg (by simpa using hfit) h1
  simp only [Nat.add_zero] at hst
  have e1 : (⟨g, 0, none⟩ : Addr).add (sLen * inf.size) = ⟨g, sLen * inf.size, none⟩ := by rw [add_addr, Nat.zero_add]
  simp [Builtin.append_, run_underlying ht, sizeOf, typeInfo, hi, Builtin.lenOf, hroom, hf, e1, hst]

end
end Go.Ab
