/-
  The operations that leave the boxes alone do what their abstract twins do: the rest, and all in one theorem.
-/
import Derived.Test.YtoddiifgfjibfaaAb5
namespace Go.Ab
open Go.RowKit

section
variable {P : Program} {w : World} {S : Nat → Nat → Prop} {M : Map} {clk : Nat} {e : Nat → AV} {h : Heap} {a : Act}

theorem sound_slstr {t : TypeId} {v : Value} {x y : AV} {lo hi : Option Value} {lo' hi' : Option AV} (ht : P.underlying t = some .string)
    (hlo : CO w S M clk lo lo') (hhi : CO w S M clk hi hi') (hv : C w S M clk v x) (hy : slstrAV x lo' hi' = some y) :
    ∃ r, (Instr.sliceAt t v lo hi none).run P w = .ok r w ∧ C w S M clk r y := by
  unfold slstrAV at hy
  split at hy
  · rename_i l
    obtain ⟨k, h1, hy1⟩ := bind_some hy
    obtain ⟨q, h3, rfl⟩ := map_some hy1
    obtain rfl := hv.inv_s
    obtain ⟨hb, hqk, hkt, _⟩ := run_sliceBounds (P := P) (b := false) (len := l.length) (cap := l.length) (m := k) (fun _ => rfl) hlo hhi (mx' := none) (mx := none) trivial h1 rfl h3 (Nat.le_refl _) (Nat.le_refl _) (Nat.le_refl _)
    refine ⟨_, ?_, .p (.s _)⟩
    simp only [Instr.sliceAt, Instr.slice, Sem.run_bind, run_underlying ht, Result.andThen_ok, size_toArray, hb, Sem.run_pure, Option.isSome_none, Bool.false_eq_true, if_false]
    congr 2
    apply ByteArray.ext
    simp [List.drop_take]
  · cases hy

theorem run_addr {v : Value} {ad : Addr} (hv : v = .pointer (some ad)) : (Instr.sureAddr v).run P w = .ok ad w := by
  subst hv; rfl

theorem ptr_val {v : Value} {id : BId} {g z i o : Nat} (hh : HeapRel w S M clk h) (hv : C w S M clk v (.ptr id g z i o)) (hl : liveP h id g z i = true) :
    ∃ k, M g = some (some k) ∧ v = .pointer (some ⟨k, i * z + o, none⟩) := by
  unfold liveP at hl
  split at hl
  · rename_i bx hb
    obtain ⟨hlk, hg, hz⟩ := boxAt_some hb
    obtain ⟨_, _, m, hm, hbox⟩ := hh.box id bx hlk
    rw [hg] at hm
    have hpo := hv.inv_ptr.2.1
    unfold PtrOk at hpo
    rw [hm] at hpo
    cases m with
    | none => simp only [] at hbox; rw [hbox.1] at hl; simp at hl
    | some k => exact ⟨k, hm, hpo⟩
  · cases hl

theorem sound_fad {t : TypeId} {v : Value} {x y : AV} {fs : Array Field} {f : Field} {i n : Nat} (ht : P.underlying t = some (.struct fs)) (hf : fs[i]? = some f) (hn : sizeT P f.type = some n) (h0 : n ≠ 0)
    (hh : HeapRel w S M clk h) (hv : C w S M clk v x) (hy : fadAV f.offset h x = some y) :
    ∃ r, (Instr.fieldAt t v i).run P w = .ok r w ∧ C w S M clk r y := by
  have hrun : ∀ blk off, (Instr.fieldAt t (.pointer (some ⟨blk, off, none⟩)) i).run P w = .ok (.pointer (some ⟨blk, off + f.offset, none⟩)) w := by
    intro blk off
    simp only [Instr.fieldAt, Sem.run_bind, run_underlying ht, Result.andThen_ok, hf, Instr.sureAddr, Sem.run_pure, fieldPlace, sizeT_run hn, h0, if_false, Sem.run_ite, add_addr]
  cases x <;> simp only [fadAV] at hy <;> try cases hy
  case ep cs o =>
    obtain ⟨blk', off', u, rfl, hS, hc⟩ := hv.inv_ep.inv_ep
    refine ⟨_, hrun _ _, ?_⟩
    rw [Nat.add_assoc]
    exact .p (.ep blk' off' cs (o + f.offset) u hS hc)
  case ptr id g z j o =>
    split at hy <;> cases hy
    rename_i hl
    obtain ⟨k, hm, rfl⟩ := ptr_val hh hv hl
    refine ⟨_, hrun _ _, .ptr _ _ _ _ _ _ hv.inv_ptr.1 ?_ rfl⟩
    unfold PtrOk
    rw [hm]
    simp only [Nat.add_assoc]

theorem sound_nilc {v : Value} {x y : AV} (hh : HeapRel w S M clk h) (hv : C w S M clk v x) (hy : nilcAV h x = some y) : (∃ ad, v = .pointer (some ad)) ∧ C w S M clk v y := by
  cases x <;> simp only [nilcAV] at hy <;> try cases hy
  case ep cs o =>
    obtain ⟨blk', off', u, rfl, hS, hc⟩ := hv.inv_ep.inv_ep
    exact ⟨⟨_, rfl⟩, hv⟩
  case ptr id g z j o =>
    split at hy <;> cases hy
    rename_i hl
    obtain ⟨k, hm, rfl⟩ := ptr_val hh hv hl
    exact ⟨⟨_, rfl⟩, hv⟩

theorem sound_fld {t : TypeId} {v : Value} {x y : AV} {fs : Array Field} {f : Field} {i : Nat} {n : Option Nat} (ht : P.underlying t = some (.struct fs)) (hf : fs[i]? = some f) (hn : partN P f.type = some n)
    (hv : C w S M clk v x) (hy : fldAV f.offset n x = some y) : ∃ r, (Instr.field t v i).run P w = .ok r w ∧ C w S M clk r y := by
  cases x <;> simp only [fldAV] at hy <;> try cases hy
  case agg cs =>
    obtain ⟨vs, rfl, hl, h1, hc⟩ := hv.inv_agg
    obtain ⟨r, hr, hC⟩ := run_part (P := P) hn hl h1 hc hy
    exact ⟨r, by simp only [Instr.field, Sem.run_bind, run_underlying ht, Result.andThen_ok, hf, asAgg, Sem.run_pure, hr], hC⟩

theorem sound_iad {t el : TypeId} {z : Nat} {v u : Value} {x i y : AV} (ht : P.underlying t = some (.slice el)) (hz : sizeT P el = some z) (hh : HeapRel w S M clk h)
    (hv : C w S M clk v x) (hu : C w S M clk u i) (hy : iadAV z h x i = some y) : ∃ r, (Instr.indexAt t v u).run P w = .ok r w ∧ C w S M clk r y := by
  have hrun : ∀ (blk off : Nat) (len cap : Nat) (k : IntKind) (n : Int), v = .slice (some ⟨blk, off, none⟩) len cap → u = .int k n → 0 ≤ n ∧ n < len → (Instr.indexAt t v u).run P w = .ok (.pointer (some ⟨blk, off + n.toNat * z, none⟩)) w := by
    intro blk off len cap k n hv hu hn
    subst hv
    subst hu
    simp only [Instr.indexAt, asIntOf, Sem.run_bind, run_underlying ht, Result.andThen_ok, Sem.run_pure, hn, and_self, if_true, sizeT_run hz, add_addr, Sem.run_ite]
  cases x <;> simp only [iadAV] at hy <;> try cases hy
  case sl els f =>
    cases i <;> try cases hy
    rename_i k n
    obtain rfl := hu.inv_i
    simp only at hy
    split at hy <;> try cases hy
    rename_i hn
    obtain ⟨r, hr, hy1⟩ := bind_some hy
    split at hy1 <;> cases hy1
    rename_i hrz
    rcases hv.inv_sl.inv_sl with ⟨rfl, _, rfl, _⟩ | ⟨blk, off, z0, cap, uu, rfl, hf, hfull, hcap, hmax, hz0, hS, hcc⟩
    · simp at hr
    · refine ⟨_, hrun _ _ _ _ _ _ rfl rfl hn, .p ?_⟩
      have hz1 : z0 = z := by rw [← hz0 _ _ hr, hrz]
      subst hz1
      have hlt : n.toNat < els.length := by omega
      have := CP.ep (w := w) (S := S) blk (off + n.toNat * z0) r 0 (fun j => uu n.toNat j) (fun j hj => hS n.toNat j hlt (by omega)) (fun j c hj => hcc _ _ _ _ hr hj)
      simpa using this
  case bs id g z' off len =>
    cases i <;> try cases hy
    rename_i k n
    obtain rfl := hu.inv_i
    simp only at hy
    obtain ⟨bx, hb, hy1⟩ := bind_some hy
    split at hy1 <;> cases hy1
    rename_i hn
    obtain ⟨rfl, hn⟩ := hn
    obtain ⟨hlk, hg, hzb⟩ := boxAt_some hb
    obtain ⟨_, _, m, hm, _⟩ := hh.box id bx hlk
    rw [hg] at hm
    obtain ⟨hgc, hbs, _⟩ := hv.inv_bs
    unfold BsOk at hbs
    rw [hm] at hbs
    cases m with
    | none => exact absurd hn (by omega)
    | some k0 =>
      obtain ⟨arr, ty, cap, hblk, rfl, hnc, hcm, harr⟩ := hbs
      refine ⟨_, hrun _ _ _ _ _ _ rfl rfl hn, .ptr _ _ _ _ _ _ hgc ?_ rfl⟩
      unfold PtrOk
      rw [hm]
      simp only [Nat.add_mul, Nat.add_zero]

theorem sound_iaa {t el : TypeId} {z len : Nat} {v u : Value} {x i y : AV} (ht : P.underlying t = some (.array len el)) (hz : sizeT P el = some z) (hh : HeapRel w S M clk h)
    (hv : C w S M clk v x) (hu : C w S M clk u i) (hy : iaaAV z len h x i = some y) : ∃ r, (Instr.indexAt t v u).run P w = .ok r w ∧ C w S M clk r y := by
  have hrun : ∀ (blk off : Nat) (k : IntKind) (n : Int), v = .pointer (some ⟨blk, off, none⟩) → u = .int k n → 0 ≤ n ∧ n < len → (Instr.indexAt t v u).run P w = .ok (.pointer (some ⟨blk, off + n.toNat * z, none⟩)) w := by
    intro blk off k n hv hu hn
    subst hv
    subst hu
    simp only [Instr.indexAt, asIntOf, Sem.run_bind, run_underlying ht, Result.andThen_ok, Sem.run_pure, hn, and_self, if_true, sizeT_run hz, add_addr, Sem.run_ite, Instr.sureAddr]
  cases x <;> simp only [iaaAV] at hy <;> try cases hy
  case ep cs o =>
    cases i <;> try cases hy
    rename_i k n
    obtain rfl := hu.inv_i
    simp only at hy
    split at hy <;> cases hy
    rename_i hn
    obtain ⟨blk', off', uu, rfl, hS, hc⟩ := hv.inv_ep.inv_ep
    refine ⟨_, hrun _ _ _ _ rfl rfl hn, ?_⟩
    rw [Nat.add_assoc]
    exact .p (.ep blk' off' cs _ uu hS hc)
  case ptr id g z' j o =>
    cases i <;> try cases hy
    rename_i k n
    obtain rfl := hu.inv_i
    simp only at hy
    split at hy <;> cases hy
    rename_i hn
    obtain ⟨hl, hn⟩ := hn
    obtain ⟨k0, hm, rfl⟩ := ptr_val hh hv hl
    refine ⟨_, hrun _ _ _ _ rfl rfl hn, .ptr _ _ _ _ _ _ hv.inv_ptr.1 ?_ rfl⟩
    unfold PtrOk
    rw [hm]
    simp only [Nat.add_assoc]

theorem getElem?_bytes (l : List UInt8) (i : Nat) : (⟨l.toArray⟩ : ByteArray)[i]? = l[i]? := by
  rcases Nat.lt_or_ge i l.length with h | h
  · rw [getElem?_pos (⟨l.toArray⟩ : ByteArray) i (by rw [size_toArray]; exact h), List.getElem?_eq_getElem h]
    rfl
  · rw [getElem?_neg (⟨l.toArray⟩ : ByteArray) i (by rw [size_toArray]; omega), List.getElem?_eq_none h]

theorem sound_ixs {t : TypeId} {v u : Value} {x i y : AV} (ht : P.underlying t = some .string) (hv : C w S M clk v x) (hu : C w S M clk u i) (hy : ixsAV x i = some y) :
    ∃ r, (Instr.index t v u).run P w = .ok r w ∧ C w S M clk r y := by
  unfold ixsAV at hy
  split at hy
  · rename_i l k n
    obtain rfl := hv.inv_s
    obtain rfl := hu.inv_i
    split at hy <;> try cases hy
    rename_i hn
    obtain ⟨b, hb, rfl⟩ := map_some hy
    refine ⟨_, ?_, .p (.i _ _)⟩
    simp only [Instr.index, asIntOf, Sem.run_bind, run_underlying ht, Result.andThen_ok, Sem.run_pure, hn.1, if_true, getElem?_bytes, hb]
  · cases hy

theorem sound_ixa {t el : TypeId} {z len : Nat} {n : Option Nat} {v u : Value} {x i y : AV} (ht : P.underlying t = some (.array len el)) (hz : sizeT P el = some z) (hn : partN P el = some n) (hv : C w S M clk v x) (hu : C w S M clk u i) (hy : ixaAV z len n x i = some y) :
    ∃ r, (Instr.index t v u).run P w = .ok r w ∧ C w S M clk r y := by
  unfold ixaAV at hy
  split at hy
  · rename_i cs k j
    obtain ⟨vs, rfl, hl, h1, hc⟩ := hv.inv_agg
    obtain rfl := hu.inv_i
    split at hy <;> try cases hy
    rename_i hj
    obtain ⟨r, hr, hC⟩ := run_part (P := P) hn hl h1 hc hy
    refine ⟨r, ?_, hC⟩
    simp only [Instr.index, asIntOf, Sem.run_bind, run_underlying ht, Result.andThen_ok, Sem.run_pure, hj, and_self, if_true, sizeT_run hz, Sem.run_ite, hr]
  · cases hy

theorem sound_lens {t ty : TypeId} {v : Value} {x y : AV} (ht : P.underlying t = some .string) (hv : C w S M clk v x) (hy : lensAV x = some y) :
    ∃ r, (Builtin.len_ #[t] ty #[v]).run P w = .ok r w ∧ C w S M clk r y := by
  cases x <;> simp only [lensAV] at hy <;> try cases hy
  case s l =>
    obtain rfl := hv.inv_s
    exact ⟨_, by simp [Builtin.len_, run_underlying ht, size_toArray, goInt], .p (.i _ _)⟩

theorem sound_len {t ty el : TypeId} {v : Value} {x y : AV} (ht : P.underlying t = some (.slice el)) (hh : HeapRel w S M clk h) (hv : C w S M clk v x) (hy : lenAV h x = some y) :
    ∃ r, (Builtin.len_ #[t] ty #[v]).run P w = .ok r w ∧ C w S M clk r y := by
  have hrun : ∀ a n c, v = .slice a n c → (Builtin.len_ #[t] ty #[v]).run P w = .ok (.int .i64 n) w := by
    intro a n c hv
    subst hv
    simp [Builtin.len_, run_underlying ht, goInt]
  cases x <;> simp only [lenAV] at hy <;> try cases hy
  case sl els f =>
    rcases hv.inv_sl.inv_sl with ⟨rfl, _, rfl, _⟩ | ⟨blk, off, z0, cap, uu, rfl, _⟩
    · exact ⟨_, hrun _ _ _ rfl, .p (.i _ _)⟩
    · exact ⟨_, hrun _ _ _ rfl, .p (.i _ _)⟩
  case bs id g z off n =>
    obtain ⟨bx, hb, rfl⟩ := map_some hy
    obtain ⟨hlk, hg, hzb⟩ := boxAt_some hb
    obtain ⟨_, _, m, hm, _⟩ := hh.box id bx hlk
    rw [hg] at hm
    obtain ⟨hgc, hbs, _⟩ := hv.inv_bs
    unfold BsOk at hbs
    rw [hm] at hbs
    cases m with
    | none =>
      obtain ⟨rfl, rfl, ad, rfl, _⟩ := hbs
      exact ⟨_, hrun _ _ _ rfl, .p (.i _ _)⟩
    | some k0 =>
      obtain ⟨arr, ty, cap, hblk, rfl, _⟩ := hbs
      exact ⟨_, hrun _ _ _ rfl, .p (.i _ _)⟩

theorem sound_mm2 {mx : Bool} {v u : Value} {x y z : AV} (hv : C w S M clk v x) (hu : C w S M clk u y) (hz : mm2 mx x y = some z) :
    ∃ r, (if mx then Builtin.max2 v u else Builtin.min2 v u).run P w = .ok r w ∧ C w S M clk r z := by
  unfold mm2 at hz
  split at hz
  · rename_i k a k' b
    obtain rfl := hv.inv_i
    obtain rfl := hu.inv_i
    split at hz <;> cases hz
    refine ⟨_, ?_, .p (.i _ _)⟩
    cases mx <;> simp [Builtin.max2, Builtin.min2]
  · cases hz

theorem sound_mmL {mx : Bool} : ∀ (vs : List Value) (xs : List AV) (v : Value) (x y : AV), vs.length = xs.length → (∀ (j : Nat) (u : Value) (c : AV), vs[j]? = some u → xs[j]? = some c → C w S M clk u c) → C w S M clk v x → mmL mx x xs = some y →
    ∃ r, (vs.foldlM (fun a b => if mx then Builtin.max2 a b else Builtin.min2 a b) v : Sem Value).run P w = .ok r w ∧ C w S M clk r y
  | [], [], v, x, y, _, _, hv, hy => by
    simp only [mmL, Option.some.injEq] at hy
    subst hy
    exact ⟨v, rfl, hv⟩
  | [], _ :: _, _, _, _, hl, _, _, _ => by simp at hl
  | _ :: _, [], _, _, _, hl, _, _, _ => by simp at hl
  | u :: vs, c :: xs, v, x, y, hl, hc, hv, hy => by
    simp only [mmL] at hy
    obtain ⟨z, hz, hy1⟩ := bind_some hy
    obtain ⟨r, hr, hC⟩ := sound_mm2 (P := P) hv (hc 0 u c rfl rfl) hz
    obtain ⟨r', hr', hC'⟩ := sound_mmL vs xs r z y (by simpa using hl) (fun j u c h1 h2 => hc (j + 1) u c (by simpa using h1) (by simpa using h2)) hC hy1
    refine ⟨r', ?_, hC'⟩
    simp only [List.foldlM_cons, Sem.run_bind, hr, Result.andThen_ok, hr']

theorem sound_ext {v : Value} {x y : AV} {ix : Nat} (hv : C w S M clk v x) (hy : extAV ix x = some y) : ∃ r, (Instr.extract v ix).run P w = .ok r w ∧ C w S M clk r y := by
  cases x <;> simp only [extAV] at hy <;> try cases hy
  case tup cs =>
    obtain ⟨vs, rfl, hl, hc⟩ := hv.inv_tup
    have hlt : ix < cs.length := by
      rcases Nat.lt_or_ge ix cs.length with h | h
      · exact h
      · rw [List.getElem?_eq_none h] at hy; cases hy
    have hv : vs[ix]? = some (vs[ix]'(by omega)) := Array.getElem?_eq_getElem (by omega)
    exact ⟨_, by simp only [Instr.extract, hv]; rfl, hc _ _ _ hv hy⟩

end
end Go.Ab
