/-
  Operations that make or change boxes: variables, literals, stores, make.
-/
import Derived.Test.YtoddiifgfjibfaaAb15
namespace Go.Ab
open Go.RowKit

def allocAV (zs : List AV) (d : Option Nat) (h : Heap) (clk : Nat) : Option (AV × Heap × Nat) :=
  d.map fun d => (.ptr (.loc d) clk zs.length 0 0, (.loc d, ⟨clk, .str, zs.length, [zs]⟩) :: h, clk + 1)

def storeAV (n : Nat) (h : Heap) (x v : AV) : Option Heap :=
  match x with
  | .ptr id g z i o =>
    (boxAt h id g z).bind fun bx => (bx.els[i]?).bind fun r => (cellsOf v).bind fun cs =>
      if cs.length = n ∧ o + n ≤ r.length ∧ bx.kind ≠ .sh ∧ (bx.kind = .own → cs.all pureC = true) then
        some ((id, ⟨g, bx.kind, z, bx.els.set i (r.take o ++ (cs ++ r.drop (o + n)))⟩) :: h)
      else none
  | _ => none

def mksAV (z : Nat) (zs : List AV) (d : Option Nat) (h : Heap) (clk : Nat) (l c : AV) : Option (AV × Heap × Nat) :=
  match l, c with
  | .i _ n, .i _ m =>
    d.bind fun d =>
      if 0 ≤ n ∧ n = m ∧ n ≤ 4294967296 then some (.bs (.loc d) clk z 0 n.toNat, (.loc d, ⟨clk, .own, z, List.replicate n.toNat zs⟩) :: h, clk + 1) else none
  | _, _ => none

section
variable {P : Program} {cx : Cx} {w w' : World} {S S' : Nat → Nat → Prop} {M : Map} {clk : Nat} {h : Heap} {ρ : Nat → AV} {a : Act}

theorem sound_alloc {t : TypeId} {zs : List AV} {d : Option Nat} {r : AV} {h' : Heap} {clk' : Nat} (hr : RelF cx S M clk h ρ a w) (hz : zeros P t = some zs) (hs : allocAV zs d h clk = some (r, h', clk')) :
    ∃ v' w' S' M', (Instr.alloc t true (.tuple #[])).run P w = .ok v' w' ∧ RelF cx S' M' clk' h' ρ a w' ∧ C w' S' M' clk' v' r := by
  unfold allocAV at hs
  obtain ⟨d, rfl, hs1⟩ := map_some hs
  cases hs1
  obtain ⟨z, hz1, _, hz3⟩ := zeros_pt (P := P) (w := w) (S := S) (M := M) (clk := clk) hz
  have hrun : (Instr.alloc t true (.tuple #[])).run P w = .ok (.pointer (some ⟨w.heap.size, 0, none⟩)) (w.alloc (.cells z.cells t)) := by
    simp only [Instr.alloc, Sem.run_bind, hz1, Result.andThen_ok, newVar, newRow, newObj, Sem.run, Sem.run_pure, World.alloc]
  have hbl := below_alloc w (.cells z.cells t)
  have hnew := heap_alloc_new w (.cells z.cells t)
  have hlen : z.cells.size = zs.length := by have := hz3.1; simpa using this
  refine ⟨_, _, S, setM M ((.loc d, ⟨clk, .str, zs.length, [zs]⟩) :: h) clk (some w.heap.size), hrun, ?_, ?_⟩
  · have hx := Ext.set (id := .loc d) (bx' := ⟨clk, .str, zs.length, [zs]⟩) (k' := some w.heap.size) (clk' := clk + 1) hr.wr (Nat.le_succ _) (fun hlt => absurd hlt (Nat.lt_irrefl _)) (Touch.of_below (id := .loc d) hbl)
    refine hr.set (bx' := ⟨clk, .str, zs.length, [zs]⟩) (k' := some w.heap.size) (Nat.le_succ _) (.inl rfl) (fun hlt => absurd hlt (Nat.lt_irrefl _)) (Touch.of_below hbl) (fun k hk => ?_) ?_
    · cases hk
      exact .inl ⟨Nat.le_refl _, by simp⟩
    · refine ⟨Nat.lt_succ_self _, fun r hr => by simp at hr; rw [hr], some w.heap.size, setM_self _ _ _ _, _, t, hnew, by simp; omega, fun i r j c hi hj => ?_, fun _ o hs => ?_, fun o hs => ?_⟩
      · cases i with
        | succ i => simp at hi
        | zero =>
          simp at hi
          subst hi
          have hj' := get_lt hj
          have hv : z.cells.toList[j]? = some (z.cells.toList[j]'(by simp; omega)) := List.getElem?_eq_getElem _
          refine ⟨_, by simp, hz3.2.1 j _ hv, (hz3.2.2 j _ c hv hj).mono hx, fun hne => absurd rfl hne⟩
      · have := hr.wr.Slt _ _ hs; omega
      · have := hr.wr.Slt _ _ hs; omega
  · refine .ptr _ _ _ _ _ _ (Nat.lt_succ_self _) ?_ rfl
    unfold PtrOk
    rw [setM_self]
    simp

/-- a store into a box's element -/
theorem sound_store {t : TypeId} {n : Nat} {v u : Value} {x y : AV} {h' : Heap} (hr : RelF cx S M clk h ρ a w) (hn : sizeT P t = some n) (hv : C w S M clk v x) (hu : C w S M clk u y) (hs : storeAV n h x y = some h') :
    ∃ w' S' M', (Instr.storeAt t v u).run P w = .ok () w' ∧ RelF cx S' M' clk h' ρ a w' := by
  cases x <;> simp only [storeAV] at hs <;> try (cases hs; done)
  case ptr id g z i o =>
    obtain ⟨bx, hb, hs1⟩ := bind_some hs
    obtain ⟨r, hri, hs2⟩ := bind_some hs1
    obtain ⟨cs, hcs, hs3⟩ := bind_some hs2
    split at hs3 <;> cases hs3
    rename_i hc
    obtain ⟨hcn, hle, hksh, hpure⟩ := hc
    obtain ⟨hlk, hg, hz⟩ := boxAt_some hb
    subst hg
    subst hz
    have hbox := hr.wr.heap.box id bx hlk
    have hbox' := hbox
    obtain ⟨hgc, hrows, m, hm, h3⟩ := hbox'
    cases m with
    | none => simp only [] at h3; rw [h3.1] at hri; simp at hri
    | some k =>
      obtain ⟨arr, ty, hh, hsz, hcells, hown, hlt⟩ := h3
      have hpo := hv.inv_ptr.2.1
      unfold PtrOk at hpo
      rw [hm] at hpo
      simp only [] at hpo
      subst hpo
      obtain ⟨hus, huo, huc⟩ := cellsOf_C hu hcs
      have hrl : r.length = bx.z := hrows r (List.mem_of_getElem? hri)
      have hil := get_lt hri
      have hbase : i * bx.z + bx.z ≤ arr.size := by
        have : (i + 1) * bx.z ≤ bx.els.length * bx.z := Nat.mul_le_mul_right _ hil
        rw [Nat.add_mul] at this
        omega
      have hone : ∀ q ∈ u.cells.toList, q.oneCell' = true := by
        intro q hq
        obtain ⟨j, hj⟩ := List.getElem?_of_mem hq
        exact huo j q (by simpa using hj)
      have hfit : i * bx.z + o + u.cells.toList.length ≤ arr.size := by simp; omega
      have hst := run_storeCells_at P k (i * bx.z + o) ty u.cells.toList 0 arr w hh (by simpa using hfit) hone
      simp only [Nat.add_zero] at hst
      generalize hnew : (arr.toList.take (i * bx.z + o) ++ u.cells.toList ++ arr.toList.drop (i * bx.z + o + u.cells.toList.length)).toArray = new at hst
      have hrun : (Instr.storeAt t (.pointer (some ⟨k, i * bx.z + o, none⟩)) u).run P w = .ok () (w.setRow k new) := by
        have h1 : ¬ (u.cells.size ≠ n) := by omega
        simp only [Instr.storeAt, Instr.sureAddr, Sem.run_bind, Sem.run_pure, Result.andThen_ok, storeVar, sizeT_run hn, h1, if_false, hst]
      have hnsz : new.size = arr.size := by rw [← hnew]; simp; omega
      have hh2 : (w.setRow k new).heap[k]? = some (.cells new ty (0, 0)) := setRow_heap w k arr new ty (0, 0) hh
      have hS : ∀ q, ¬ S k q := hown hksh
      have hcell : ∀ k' o u, S k' o → w.cell? ⟨k', o, none⟩ = some u → (w.setRow k new).cell? ⟨k', o, none⟩ = some u := by
        intro k' o u hs hc
        by_cases hkk : k' = k
        · subst hkk; exact absurd hs (hS o)
        · rw [World.cell?_of_block (w := w) (a := ⟨k', o, none⟩) (setRow_other w k k' new hkk)]; exact hc
      have ht : Touch w (w.setRow k new) S M h id (some k) :=
        ⟨rfl, rfl, rfl, by simp, fun k' _ hne => setRow_other w k k' new (fun e => hne (by rw [e])), fun k' hk' => ⟨bx, hlk, by cases hk'; exact hm⟩, fun k' o u hk' hs hc => hcell k' o u hs hc, fun k' arr1 e1 hk' hb1 => by
          cases hk'
          rw [hh] at hb1
          cases hb1
          exact ⟨new, hh2, hnsz⟩⟩
      have hx := Ext.set (bx' := ⟨bx.gen, bx.kind, bx.z, bx.els.set i (r.take o ++ (cs ++ r.drop (o + n)))⟩) (k' := some k) (clk' := clk) hr.wr (Nat.le_refl _) (fun _ => hm) ht
      refine ⟨_, S, setM M ((id, ⟨bx.gen, bx.kind, bx.z, bx.els.set i (r.take o ++ (cs ++ r.drop (o + n)))⟩) :: h) bx.gen (some k), hrun, ?_⟩
      refine hr.set (bx' := ⟨bx.gen, bx.kind, bx.z, bx.els.set i (r.take o ++ (cs ++ r.drop (o + n)))⟩) (k' := some k) (touched := some k) (Nat.le_refl _) (.inr ⟨bx, hlk, rfl⟩) (fun _ => hm) ht (fun k' hk' => .inr hk') ?_
      have hnr : (r.take o ++ (cs ++ r.drop (o + n))).length = bx.z := by simp; omega
      refine ⟨hgc, fun q hq => ?_, some k, setM_self _ _ _ _, new, ty, hh2, by rw [hnsz, List.length_set]; exact hsz, fun i' r' j c hi' hj => ?_, fun _ q hs => hS q hs, fun q hs => absurd hs (hS q)⟩
      · rcases List.mem_or_eq_of_mem_set hq with h | h
        · exact hrows q h
        · rw [h]; exact hnr
      · have hnewget : ∀ q, (q < i * bx.z + o ∨ i * bx.z + o + n ≤ q) → new[q]? = arr[q]? := by
          intro q hq
          rw [← hnew]
          simp only [List.getElem?_toArray, List.append_assoc]
          have hul : u.cells.toList.length = n := by simp; omega
          have htl : (arr.toList.take (i * bx.z + o)).length = i * bx.z + o := by simp; omega
          rcases hq with hq | hq
          · rw [List.getElem?_append_left (by omega), List.getElem?_take, if_pos hq]; simp
          · rw [List.getElem?_append_right (by omega), List.getElem?_append_right (by omega), List.getElem?_drop, htl, hul]
            simp only [Array.getElem?_toList]
            congr 1
            omega
        have hnewin : ∀ q, q < n → new[i * bx.z + o + q]? = u.cells[q]? := by
          intro q hq
          rw [← hnew]
          simp only [List.getElem?_toArray, List.append_assoc]
          have hul : u.cells.toList.length = n := by simp; omega
          have htl : (arr.toList.take (i * bx.z + o)).length = i * bx.z + o := by simp; omega
          rw [List.getElem?_append_right (by omega), List.getElem?_append_left (by omega), htl]
          simp only [Array.getElem?_toList]
          congr 1
          omega
        by_cases hii : i' = i
        · subst hii
          simp only at hi'
          rw [List.getElem?_set_self hil] at hi'
          cases hi'
          have hjz : j < bx.z := by have := get_lt hj; omega
          rcases Nat.lt_or_ge j o with hjo | hjo
          · rw [List.getElem?_append_left (by simp; omega), List.getElem?_take, if_pos hjo] at hj
            obtain ⟨q, hq, h1, hC, hP⟩ := hcells i' r j c hri hj
            exact ⟨q, by show new[i' * bx.z + j]? = _; rw [hnewget _ (.inl (by omega))]; exact hq, h1, hC.mono hx, fun hne => (hP hne).mono hx.hS hx.hcell⟩
          · have hto : (r.take o).length = o := by simp; omega
            rw [List.getElem?_append_right (by omega), hto] at hj
            rcases Nat.lt_or_ge (j - o) cs.length with hjn | hjn
            · rw [List.getElem?_append_left hjn] at hj
              have hq : u.cells[j - o]? = some (u.cells[j - o]'(by omega)) := Array.getElem?_eq_getElem _
              refine ⟨_, ?_, huo _ _ hq, (huc _ _ c hq hj).mono hx, fun hne => ?_⟩
              · have := hnewin (j - o) (by omega)
                rw [show i' * bx.z + o + (j - o) = i' * bx.z + j by omega] at this
                show new[i' * bx.z + j]? = _
                rw [this]
                exact hq
              · have hko : bx.kind = .own := by cases hk : bx.kind <;> simp_all
                exact (((huc _ _ c hq hj).pureC (List.all_eq_true.1 (hpure hko) c (List.mem_of_getElem? hj)))).mono hx.hS hx.hcell
            · rw [List.getElem?_append_right hjn, List.getElem?_drop] at hj
              have : o + n + (j - o - cs.length) = j := by omega
              rw [this] at hj
              obtain ⟨q, hq, h1, hC, hP⟩ := hcells i' r j c hri hj
              exact ⟨q, by show new[i' * bx.z + j]? = _; rw [hnewget _ (.inr (by omega))]; exact hq, h1, hC.mono hx, fun hne => (hP hne).mono hx.hS hx.hcell⟩
        · simp only at hi'
          rw [List.getElem?_set_ne (Ne.symm hii)] at hi'
          obtain ⟨q, hq, h1, hC, hP⟩ := hcells i' r' j c hi' hj
          have hjz : j < bx.z := by have := hrows r' (List.mem_of_getElem? hi'); have := get_lt hj; omega
          refine ⟨q, ?_, h1, hC.mono hx, fun hne => (hP hne).mono hx.hS hx.hcell⟩
          show new[i' * bx.z + j]? = _
          rw [hnewget]
          · exact hq
          · rcases Nat.lt_or_ge i' i with h | h
            · have := idx_lt (n := i) h hjz; left; omega
            · have h4 : i < i' := by omega
              have : (i + 1) * bx.z ≤ i' * bx.z := Nat.mul_le_mul_right _ h4
              rw [Nat.add_mul] at this
              right; omega

end
end Go.Ab
