/-
  Operations that make or change boxes: make, literals.
-/
import Derived.Test.YtoddiifgfjibfaaAb16
import Derived.Laws.MakeOwn
namespace Go.Ab
open Go.RowKit

section
variable {P : Program} {cx : Cx} {w w' : World} {S S' : Nat → Nat → Prop} {M : Map} {clk : Nat} {h : Heap} {ρ : Nat → AV} {a : Act}

theorem zeros_pure {t : TypeId} {zs : List AV} (hz : zeros P t = some zs) : ∀ c ∈ zs, pureC c = true := by
  unfold zeros at hz
  obtain ⟨z, _, hz2⟩ := bind_some hz
  obtain ⟨hl, hg⟩ := mapM_some _ _ hz2
  intro c hc
  obtain ⟨j, hj⟩ := List.getElem?_of_mem hc
  have hjl : j < z.cells.toList.length := by have := get_lt hj; omega
  have hcc := hg j _ c (List.getElem?_eq_getElem hjl) hj
  unfold ofConst at hcc
  split at hcc <;> cases hcc <;> rfl

theorem rep_get (zc : Array Value) (n z : Nat) (hz : zc.size = z) (i j : Nat) (hi : i < n) (hj : j < z) : ((Array.range (n * z)).map (zc[· % zc.size]!))[i * z + j]? = zc[j]? := by
  have hlt := idx_lt hi hj
  rw [Array.getElem?_map, Array.getElem?_range, if_pos hlt]
  simp only [Option.map_some]
  have e2 : (i * z + j) % zc.size = j := by rw [hz, Nat.mul_comm, Nat.mul_add_mod, Nat.mod_eq_of_lt hj]
  rw [e2]
  rw [getElem!_pos zc j (by omega), Array.getElem?_eq_getElem (by omega)]

theorem zero_rows {zs : List AV} {z : Value} (hz3 : Pt w S M clk z.cells.toList zs) (hpure : ∀ c ∈ zs, pureC c = true) (n : Nat) : Rw w S zs.length ((Array.range (n * zs.length)).map (z.cells[· % z.cells.size]!)).toList (List.replicate n zs) := by
  have hlen : z.cells.size = zs.length := by have := hz3.1; simpa using this
  refine ⟨by simp, fun r hr => (List.eq_of_mem_replicate hr) ▸ rfl, fun u hu => ?_, fun i r j c hi hj => ?_⟩
  · obtain ⟨q, hq⟩ := List.getElem?_of_mem hu
    have hql := get_lt hq
    simp only [Array.length_toList, Array.size_map, Array.size_range] at hql
    have hzp : 0 < zs.length := by
      rcases Nat.eq_zero_or_pos zs.length with h | h
      · rw [h] at hql; simp at hql
      · exact h
    have hd := rep_get z.cells n zs.length hlen (q / zs.length) (q % zs.length) (by rw [Nat.div_lt_iff_lt_mul hzp]; exact hql) (Nat.mod_lt _ hzp)
    rw [show q / zs.length * zs.length + q % zs.length = q by have := Nat.div_add_mod q zs.length; rw [Nat.mul_comm] at this; omega] at hd
    rw [Array.getElem?_toList, hd] at hq
    exact hz3.2.1 _ _ (by simpa using hq)
  · have hin := get_lt hi
    rw [List.length_replicate] at hin
    rw [List.getElem?_replicate, if_pos hin] at hi
    cases hi
    have hjl := get_lt hj
    have hv : z.cells.toList[j]? = some (z.cells.toList[j]'(by simp; omega)) := List.getElem?_eq_getElem _
    refine ⟨_, ?_, (hz3.2.2 j _ c hv hj).pureC (hpure c (List.mem_of_getElem? hj))⟩
    rw [Array.getElem?_toList, rep_get z.cells n zs.length hlen i j hin hjl]
    simp

theorem sound_mks {t e : TypeId} {inf : TypeInfo} {zs : List AV} {d : Option Nat} {v u : Value} {x y r : AV} {h' : Heap} {clk' : Nat} (hr : RelF cx S M clk h ρ a w) (ht : P.underlying t = some (.slice e)) (hi : P.info? e = some inf) (hby : inf.bytes ≤ 32768)
    (hz : zeros P e = some zs) (hzl : zs.length = inf.size) (hv : C w S M clk v x) (hu : C w S M clk u y) (hs : mksAV inf.size zs d h clk x y = some (r, h', clk')) :
    ∃ v' w' S' M', (Instr.makeSlice t v u).run P w = .ok v' w' ∧ RelF cx S' M' clk' h' ρ a w' ∧ C w' S' M' clk' v' r := by
  unfold mksAV at hs
  split at hs
  · rename_i k n k' m
    obtain rfl := hv.inv_i
    obtain rfl := hu.inv_i
    obtain ⟨d, rfl, hs1⟩ := bind_some hs
    split at hs1 <;> cases hs1
    rename_i hc
    obtain ⟨h0, rfl, hle⟩ := hc
    obtain ⟨z, hz1, hz2, hz3⟩ := zeros_pt (P := P) (w := w) (S := S) (M := M) (clk := clk) hz
    have hzz : inf.zero = some z := by rw [hi] at hz2; simpa using hz2
    obtain ⟨q, rfl⟩ := Int.eq_ofNat_of_zero_le h0
    have hb1 : (inf.bytes : Int) * (q : Int) ≤ 281474976710656 := by
      have h1 : inf.bytes * q ≤ 32768 * 4294967296 := Nat.mul_le_mul hby (by omega)
      have h2 : ((inf.bytes * q : Nat) : Int) ≤ 281474976710656 := by omega
      rwa [Int.natCast_mul] at h2
    have hrun := run_make (P := P) w t e inf z ht hi hzz k k' q q h0 (Int.le_refl _) hb1 (by omega)
    simp only [Int.toNat_natCast] at hrun ⊢
    have hrw := zero_rows hz3 (zeros_pure hz) q
    rw [hzl] at hrw
    obtain ⟨M', h1, h2⟩ := new_row hr (id := .loc d) (bx := ⟨clk, .own, inf.size, List.replicate q zs⟩) (w1 := w) (vs := ((Array.range (q * inf.size)).map (z.cells[· % z.cells.size]!)).toList) (us := []) (e := e) (cap := q)
      ⟨rfl, rfl, rfl, rfl⟩ rfl hrw (by simp) (by simp only [maxLen]; omega) (by simp)
    simp only [List.append_nil, Array.toArray_toList, List.length_replicate] at h1 h2
    exact ⟨_, _, S, M', hrun, h1, h2⟩
  · cases hs

theorem frzP_C {ids : List BId} (hh : HeapRel w S M clk h) : ∀ (ps qs : List (Nat × AV)) (vs : List (Nat × Value)), frzP h ps = some qs → vs.map (·.1) = ps.map (·.1) → (∀ (j : Nat) v x, vs[j]? = some v → ps[j]? = some x → C w S M clk v.2 x.2) → (∀ p ∈ ps, ∀ id ∈ refs p.2, id ∈ ids) →
    vs.map (·.1) = qs.map (·.1) ∧ ∀ (j : Nat) v y, vs[j]? = some v → qs[j]? = some y → CP w (cellsS h M ids S) v.2 y.2
  | [], qs, vs, hf, hm, _, _ => by
    simp only [frzP, Option.some.injEq] at hf
    subst hf
    exact ⟨hm, fun j v y _ hy => by simp at hy⟩
  | (i, x) :: ps, qs, vs, hf, hm, hc, hid => by
    simp only [frzP] at hf
    obtain ⟨y, hy, hf1⟩ := bind_some hf
    obtain ⟨q, hq, rfl⟩ := map_some hf1
    cases vs with
    | nil => simp at hm
    | cons v vs =>
      simp only [List.map_cons, List.cons.injEq] at hm
      obtain ⟨h1, h2⟩ := frzP_C hh ps q vs hq hm.2 (fun j v x hv hx => hc (j + 1) v x (by simpa using hv) (by simpa using hx)) (fun p hp => hid p (by simp [hp]))
      refine ⟨by simp [hm.1, h1], fun j v' y' hv' hy' => ?_⟩
      cases j with
      | zero =>
        simp at hv' hy'
        subst hv'
        subst hy'
        exact frz1_CP hh (hc 0 v (i, x) rfl rfl) hy (hid (i, x) (by simp))
      | succ j => exact h2 j v' y' (by simpa using hv') (by simpa using hy')

theorem fillS_ok {z : Nat} : ∀ (qs : List (Nat × AV)) (vs : List (Nat × Value)) (els out : List (List AV)) (cells : Array Value), Rw w S z cells.toList els → fillS z els qs = some out → vs.map (·.1) = qs.map (·.1) → (∀ (j : Nat) v y, vs[j]? = some v → qs[j]? = some y → CP w S v.2 y.2) →
    ∃ r, Instr.fill (fun i => some (i * z, z)) cells vs = some r ∧ Rw w S z r.toList out ∧ out.length = els.length
  | [], vs, els, out, cells, hr, hf, hm, _ => by
    simp only [fillS, Option.some.injEq] at hf
    subst hf
    have : vs = [] := by simpa using hm
    subst this
    exact ⟨cells, rfl, hr, rfl⟩
  | (i, x) :: qs, vs, els, out, cells, hr, hf, hm, hc => by
    simp only [fillS] at hf
    obtain ⟨cs, hcs, hf1⟩ := bind_some hf
    split at hf1
    · rename_i hcond
      obtain ⟨hl, hp, hi⟩ := hcond
      cases vs with
      | nil => simp at hm
      | cons v vs =>
        simp only [List.map_cons, List.cons.injEq] at hm
        obtain ⟨vi, vv⟩ := v
        simp only at hm
        obtain ⟨rfl, hm⟩ := hm
        have hC : C w S (fun _ => none) 0 vv x := .p (hc 0 (vi, vv) (vi, x) rfl rfl)
        obtain ⟨h1, h2, h3⟩ := cellsOf_C hC hcs
        have hfit : vi * z + vv.cells.size ≤ cells.size := by
          have e1 := hr.len
          simp only [Array.length_toList] at e1
          have : (vi + 1) * z ≤ els.length * z := Nat.mul_le_mul_right _ hi
          rw [Nat.add_mul] at this
          omega
        have hone := fill_one (vi * z) vv.cells cells hfit
        have hrw : Rw w S z (vv.cells.zipIdx.foldl (fun cs (p : Value × Nat) => cs.setIfInBounds (vi * z + p.2) p.1) cells).toList (els.set vi cs) := by
          rw [hone]
          have hA := hr.take vi
          have hB := hr.drop (vi + 1)
          have hmid : Rw w S z vv.cells.toList [cs] := by
            refine ⟨by simp; omega, fun r hr => by simp at hr; rw [hr]; exact hl, fun u hu => ?_, fun i r j c hi hj => ?_⟩
            · obtain ⟨j, hj⟩ := List.getElem?_of_mem hu
              exact h2 j u (by simpa using hj)
            · cases i with
              | succ i => simp at hi
              | zero =>
                simp at hi
                subst hi
                have hjl := get_lt hj
                have hv : vv.cells[j]? = some (vv.cells[j]'(by omega)) := Array.getElem?_eq_getElem _
                exact ⟨_, by simp, (h3 j _ c hv hj).pureC (List.all_eq_true.1 hp c (List.mem_of_getElem? hj))⟩
          have := hA.append (hmid.append hB)
          have e2 : vi * z + vv.cells.size = (vi + 1) * z := by rw [Nat.add_mul]; omega
          rw [e2]
          have e3 : els.set vi cs = els.take vi ++ ([cs] ++ els.drop (vi + 1)) := by rw [List.set_eq_take_append_cons_drop, if_pos hi]; rfl
          rw [e3]
          exact this
        obtain ⟨r, hr1, hr2, hr3⟩ := fillS_ok qs vs _ out _ hrw hf1 hm (fun j v y hv hy => hc (j + 1) v y (by simpa using hv) (by simpa using hy))
        refine ⟨r, ?_, hr2, by simpa using hr3⟩
        simp only [Instr.fill]
        rw [if_neg (by simp; omega)]
        exact hr1
    · cases hf1

theorem sound_bsl {t e : TypeId} {z len : Nat} {zs : List AV} {parts : Array (Nat × Value)} {ps : List (Nat × AV)} {r : AV} {h' : Heap} (hr : RelF cx S M clk h ρ a w) (ht : P.underlying t = some (.slice e)) (hsz : sizeT P e = some z) (hlim : len * z ≤ 16777216) (hz0 : z ≠ 0)
    (hz : zeros P e = some zs) (hzl : zs.length = z) (hm : parts.toList.map (·.1) = ps.map (·.1)) (hc : ∀ (j : Nat) v x, parts.toList[j]? = some v → ps[j]? = some x → C w S M clk v.2 x.2) (hs : bslAV z zs len h ps = some (r, h')) :
    ∃ v' w' S' M', (Instr.buildSlice t len parts).run P w = .ok v' w' ∧ RelF cx S' M' clk h' ρ a w' ∧ C w' S' M' clk v' r := by
  unfold bslAV at hs
  obtain ⟨qs, hq, hs1⟩ := bind_some hs
  obtain ⟨els, hels, he⟩ := map_some hs1
  cases he
  generalize hids : (ps.flatMap fun p => refs p.2) = ids
  have hmem : ∀ p ∈ ps, ∀ id ∈ refs p.2, id ∈ ids := by
    intro p hp id hid
    rw [← hids]
    exact List.mem_flatMap.2 ⟨p, hp, hid⟩
  obtain ⟨h1, h2⟩ := frzP_C (ids := ids) hr.wr.heap ps qs parts.toList hq hm hc hmem
  have hkind : ∀ id bx, id ∈ ids → h.lookup id = some bx → bx.kind ≠ .str := by
    have key : ∀ (ps qs : List (Nat × AV)), frzP h ps = some qs → ∀ p ∈ ps, ∀ id bx, id ∈ refs p.2 → h.lookup id = some bx → bx.kind ≠ .str := by
      intro ps
      induction ps with
      | nil => intro qs _ p hp; simp at hp
      | cons p0 ps ih =>
        intro qs hq p hp id bx hid hb
        obtain ⟨i, x⟩ := p0
        simp only [frzP] at hq
        obtain ⟨y, hy, hq1⟩ := bind_some hq
        obtain ⟨q, hq2, _⟩ := map_some hq1
        rcases List.mem_cons.1 hp with rfl | hp
        · have hfz : frz h x = some y := by
            cases x <;> first | exact hy | (simp [frz1, frzC] at hy)
          exact frz_kind hfz id bx hid hb
        · exact ih q hq2 p hp id bx hid hb
    intro id bx hid hb
    rw [← hids] at hid
    obtain ⟨p, hp, hid⟩ := List.mem_flatMap.1 hid
    exact key ps qs hq p hp id bx hid hb
  have hr1 : RelF cx (cellsS h M ids S) M clk (shareIds ids h) ρ a w :=
    ⟨hr.size, hr.defers, fun t => (hr.env t).mono ⟨fun k o hs => .inl hs, fun k o u _ hc => hc, Nat.le_refl _, fun g m _ hm => hm, fun g k arr e _ _ hb => ⟨arr, hb, rfl⟩⟩, hr.wr.share ids hkind⟩
  obtain ⟨zv, hz1, hz2, hz3⟩ := zeros_pt (P := P) (w := w) (S := cellsS h M ids S) (M := M) (clk := clk) hz
  have hrw := zero_rows hz3 (zeros_pure hz) len
  rw [hzl] at hrw
  obtain ⟨out, ho1, ho2, ho3⟩ := fillS_ok qs parts.toList _ els _ hrw hels h1 h2
  have hlen : els.length = len := by rw [ho3]; simp
  have hcs : zv.cells.size = z := by have := hz3.1; simp at this; omega
  have hrun : (Instr.buildSlice t len parts).run P w = .ok (.slice (some ⟨w.heap.size, 0, none⟩) len len) (w.alloc (.cells out e)) := by
    have hl : ¬ (len * z > 2 ^ 24) := by simp; omega
    simp only [Instr.buildSlice, Sem.run_bind, run_underlying ht, Result.andThen_ok, sizeT_run hsz, hl, if_false, Sem.run_ite]
    by_cases h0 : len * z = 0
    · have hl0 : len = 0 := (Nat.mul_eq_zero.1 h0).resolve_right hz0
      subst hl0
      simp only [Nat.zero_mul, if_true, Sem.run_pure, Result.andThen_ok] at ho1 ⊢
      have e1 : (Array.range 0).map (fun x => (#[] : Array Value)[x % (#[] : Array Value).size]!) = (Array.range 0).map (fun x => zv.cells[x % zv.cells.size]!) := by simp
      rw [e1, ho1]
      rfl
    · simp only [h0, if_false, hz1, Result.andThen_ok, Sem.run_pure]
      rw [ho1]
      rfl
  have hbl := below_alloc w (.cells out e)
  refine ⟨_, _, _, M, hrun, hr1.below hbl, .p ?_⟩
  have hout : out.size = len * z := by have := ho2.len; rw [hlen] at this; simpa using this
  have hnew := heap_alloc_new w (.cells out e)
  rw [← hlen]
  have hx := Ext.below (clk := clk) (M := M) hbl hr1.wr.Slt fun g k hm => (hr1.wr.Mnew g k hm).1
  refine .sl w.heap.size 0 z els.length els .fu (fun i j => (out[i * z + j]?).getD undef) (by simp) (fun _ => rfl) (Nat.le_refl _) (by simp only [maxLen]; have : len ≤ len * z := Nat.le_mul_of_pos_right _ (Nat.pos_of_ne_zero hz0); omega) (fun i r hi => ho2.row r (List.mem_of_getElem? hi)) (fun i j hi hj => ?_) (fun i r j c hi hj => ?_)
  · have hlt : i * z + j < out.size := by rw [hout, ← hlen]; exact idx_lt hi hj
    have hg : out[i * z + j]? = some (out[i * z + j]'hlt) := Array.getElem?_eq_getElem hlt
    refine ⟨.inr ⟨Nat.le_refl _, by simp⟩, ?_, ?_⟩
    · rw [Nat.zero_add, cell_of_row _ _ _ out e (0, 0) hnew, hg]; rfl
    · rw [hg]; exact ho2.one _ (by simp)
  · obtain ⟨u, hu, hC⟩ := ho2.cell i r j c hi hj
    rw [Array.getElem?_toList] at hu
    rw [hu]
    exact hC.mono hx.hS hx.hcell

end
end Go.Ab
