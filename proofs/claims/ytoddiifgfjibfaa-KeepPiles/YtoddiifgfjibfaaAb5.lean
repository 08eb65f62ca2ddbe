/-
  The operations that leave the boxes alone do what their abstract twins do: equality of structs, parts, addresses, slices, lengths.
-/
import Derived.Test.YtoddiifgfjibfaaAb4
namespace Go.Ab
open Go.RowKit

section
variable {P : Program} {w : World} {S : Nat → Nat → Prop} {M : Map} {clk : Nat} {e : Nat → AV} {h : Heap} {a : Act}

theorem sound_eqs {neq : Bool} {t : TypeId} {X Y : Operand} {v u : Value} {x y z : AV} {fs : Array Field} {ls : List (Nat × Leaf)} (ht : P.underlying t = some (.struct fs)) (hg : P.eqGuardType P.depth t = false) (hs : P.stoodInHeld t = false)
    (hl : leaves P fs.toList = some ls) (hv : C w S M clk v x) (hu : C w S M clk u y) (hz : eqsAV neq ls x y = some z) :
    ∃ r, (do eqGuard (if neq then .neq else .eql) t X Y v u; binOp (if neq then .neq else .eql) t v u : Sem Value).run P w = .ok r w ∧ C w S M clk r z := by
  unfold eqsAV at hz
  split at hz
  · rename_i xs ys
    obtain ⟨b, hb, rfl⟩ := map_some hz
    obtain ⟨vs, rfl, hlv, hv1, hv⟩ := hv.inv_agg
    obtain ⟨us, rfl, hlu, hu1, hu⟩ := hu.inv_agg
    refine ⟨_, ?_, .p (.b _)⟩
    have hfo : P.fieldsOf t = fs := by simp [Program.fieldsOf, ht]
    have he := sound_eqL (P := P) (d := 9998) hlv hlu hv hu fs.toList ls b hl hb
    have hst := run_equalIn_struct (P := P) w 9999 t vs us (by rw [hfo]; exact ht) hs
    rw [hfo, he] at hst
    cases neq
    · simp only [Bool.false_eq_true, if_false, Sem.run_bind, run_eqGuard_agg _ _ _ _ _ _ _ hg, Result.andThen_ok, binOp, Op.equal, Op.maxDepth, hst, Sem.run_pure]
    · simp only [if_true, Sem.run_bind, run_eqGuard_agg _ _ _ _ _ _ _ hg, Result.andThen_ok, binOp, Op.equal, Op.maxDepth, hst, Sem.run_pure]
  · cases hz

theorem run_equalIn_nil {d : Nat} {t el : TypeId} {a : Option Addr} {l c : Nat} (ht : P.underlying t = some (.slice el)) : (Op.equalIn (d + 1) t (.slice a l c) (.slice none 0 0)).run P w = .ok a.isNone w := by
  cases a <;> simp [Op.equalIn, run_underlying ht]

theorem sound_eqnil {neq : Bool} {t el : TypeId} {X Y : Operand} {v : Value} {x z : AV} (ht : P.underlying t = some (.slice el)) (hv : C w S M clk v x) (hz : eqnilAV neq x = some z) :
    ∃ r, (do eqGuard (if neq then .neq else .eql) t X Y v (.slice none 0 0); binOp (if neq then .neq else .eql) t v (.slice none 0 0) : Sem Value).run P w = .ok r w ∧ C w S M clk r z := by
  have key : ∀ (a : Option Addr) (l c : Nat), v = .slice a l c → z = .b (if neq then !a.isNone else a.isNone) → ∃ r, (do eqGuard (if neq then .neq else .eql) t X Y v (.slice none 0 0); binOp (if neq then .neq else .eql) t v (.slice none 0 0) : Sem Value).run P w = .ok r w ∧ C w S M clk r z := by
    intro a l c hv hz
    subst hv
    subst hz
    have he : (Op.equalIn 10000 t (.slice a l c) (.slice none 0 0)).run P w = .ok a.isNone w := run_equalIn_nil (d := 9999) ht
    refine ⟨.bool (if neq then !a.isNone else a.isNone), ?_, .p (.b _)⟩
    cases neq
    · simp only [Bool.false_eq_true, if_false, Sem.run_bind, run_eqGuard_slice, Result.andThen_ok, binOp, Op.equal, Op.maxDepth, he, Sem.run_pure]
    · simp only [if_true, Sem.run_bind, run_eqGuard_slice, Result.andThen_ok, binOp, Op.equal, Op.maxDepth, he, Sem.run_pure]
  unfold eqnilAV at hz
  split at hz <;> cases hz
  · rcases hv.inv_sl.inv_sl with ⟨_, b, rfl, _, hb2⟩ | ⟨_, _, _, _, _, rfl, h1, _⟩
    · cases b with
      | none => exact key _ _ _ rfl (by simp)
      | some a => rcases hb2 (by simp) with h1 | h1 <;> cases h1
    · exact absurd rfl h1
  · rcases hv.inv_sl.inv_sl with ⟨_, b, rfl, hb1, hb2⟩ | ⟨_, _, _, _, _, rfl, h1, _⟩
    · cases b with
      | none => rcases hb1 rfl with h1 | h1 <;> cases h1
      | some a => exact key _ _ _ rfl (by cases neq <;> rfl)
    · exact key _ _ _ rfl (by cases neq <;> rfl)
  · rcases hv.inv_sl.inv_sl with ⟨_, b, rfl, hb1, hb2⟩ | ⟨_, _, _, _, _, rfl, h1, _⟩
    · cases b with
      | none => rcases hb1 rfl with h1 | h1 <;> cases h1
      | some a => exact key _ _ _ rfl (by cases neq <;> rfl)
    · exact key _ _ _ rfl (by cases neq <;> rfl)

theorem sound_un {op : UnOp} {v : Value} {x z : AV} (hv : C w S M clk v x) (hz : unAV op x = some z) : ∃ r, (Op.unary op v).run P w = .ok r w ∧ C w S M clk r z := by
  unfold unAV at hz
  split at hz <;> cases hz
  · obtain rfl := hv.inv_i
    exact ⟨_, by simp [Op.unary, Op.intArith], .p (.i _ _)⟩
  · obtain rfl := hv.inv_b
    exact ⟨_, by simp [Op.unary], .p (.b _)⟩

theorem sound_conv {s t : TypeId} {k0 k : IntKind} {v : Value} {x z : AV} (hs : P.underlying s = some (.int k0)) (ht : P.underlying t = some (.int k)) (hv : C w S M clk v x) (hz : convAV k x = some z) : ∃ r, (convert s t v).run P w = .ok r w ∧ C w S M clk r z := by
  unfold convAV at hz
  split at hz <;> cases hz
  obtain rfl := hv.inv_i
  exact ⟨_, by simp [convert, run_underlying hs, run_underlying ht, Conv.intToInt], .p (.i _ _)⟩

theorem sound_convs {s t : TypeId} {v : Value} {l : List UInt8} (hs : P.underlying s = some .string) (ht : P.underlying t = some .string) (hv : C w S M clk v (.s l)) : ∃ r, (convert s t v).run P w = .ok r w ∧ C w S M clk r (.s l) := by
  obtain rfl := hv.inv_s
  exact ⟨_, by simp [convert, run_underlying hs, run_underlying ht], .p (.s _)⟩

theorem bnd_some {v : Value} {x : AV} {y : Int} {n : Nat} (hv : C w S M clk v x) (hb : bnd x y = some n) : ∃ k, v = .int k (n : Int) ∧ (n : Int) ≤ y := by
  unfold bnd at hb
  split at hb
  · rename_i k m
    obtain rfl := hv.inv_i
    split at hb <;> cases hb
    rename_i hm
    exact ⟨k, by rw [Int.toNat_of_nonneg hm.1], by rw [Int.toNat_of_nonneg hm.1]; exact hm.2⟩
  · cases hb

/-- operand by operand, where there may be none -/
def CO (w : World) (S : Nat → Nat → Prop) (M : Map) (clk : Nat) : Option Value → Option AV → Prop
  | none, none => True
  | some v, some x => C w S M clk v x
  | _, _ => False

theorem run_sliceBound {k : IntKind} {n y : Nat} {code : BoundsCode} (hn : n ≤ y) : (Instr.sliceBound (.int k (n : Int)) y code).run P w = .ok n w := by
  have h1 : (0 : Int) ≤ (n : Int) ∧ (n : Int) ≤ (y : Int) := by omega
  simp [Instr.sliceBound, asIntOf, h1]

theorem run_sliceBounds {b : Bool} {len cap : Nat} {lo hi mx : Option Value} {lo' hi' mx' : Option AV} {k m l : Nat} {top : Nat} (hm : hi.isNone → mx.isNone)
    (hlo : CO w S M clk lo lo') (hhi : CO w S M clk hi hi') (hmx : CO w S M clk mx mx')
    (h1 : bndO hi' len top = some k) (h2 : bndO mx' k top = some m) (h3 : bndO lo' 0 k = some l) (htop : top ≤ cap) (hlen : len ≤ top) (hkm : k ≤ m) :
    (Instr.sliceBounds b len cap lo hi mx).run P w = .ok (l, k, if mx.isSome then m else cap) w ∧ l ≤ k ∧ k ≤ top ∧ (mx.isSome → m ≤ top) := by
  have hk : k ≤ top := by
    cases hi' with
    | none => simp only [bndO, Option.some.injEq] at h1; omega
    | some v =>
      cases hi with
      | none => exact hhi.elim
      | some v' => obtain ⟨_, _, h⟩ := bnd_some (x := v) hhi h1; omega
  have hl : l ≤ k := by
    cases lo' with
    | none => simp only [bndO, Option.some.injEq] at h3; omega
    | some v =>
      cases lo with
      | none => exact hlo.elim
      | some v' => obtain ⟨_, _, h⟩ := bnd_some (x := v) hlo h3; omega
  refine ⟨?_, hl, hk, ?_⟩
  · have lowb : ∀ (code : BoundsCode), (match lo with | some v => Instr.sliceBound v k code | none => pure 0 : Sem Nat).run P w = .ok l w := by
      intro code
      cases lo' with
      | none =>
        cases lo with
        | none => simp only [bndO, Option.some.injEq] at h3; subst h3; rfl
        | some v => exact hlo.elim
      | some x =>
        cases lo with
        | none => exact hlo.elim
        | some v =>
          obtain ⟨kk, rfl, _⟩ := bnd_some (x := x) hlo h3
          exact run_sliceBound hl
    cases mx' with
    | none =>
      cases mx with
      | some v => exact hmx.elim
      | none =>
        cases hi' with
        | none =>
          cases hi with
          | some v => exact hhi.elim
          | none =>
            simp only [bndO, Option.some.injEq] at h1
            subst h1
            simp only [Instr.sliceBounds, Sem.run_bind, Sem.run_pure, Result.andThen_ok, Option.isSome_none, Bool.false_eq_true, if_false]
            have := lowb .sliceB
            cases lo <;> simp_all
        | some x =>
          cases hi with
          | none => exact hhi.elim
          | some v =>
            obtain ⟨kk, rfl, _⟩ := bnd_some (x := x) hhi h1
            have hr : ∀ code, (Instr.sliceBound (.int kk (k : Int)) cap code).run P w = .ok k w := fun code => run_sliceBound (by omega)
            simp only [Instr.sliceBounds, Sem.run_bind, Sem.run_pure, Result.andThen_ok, Option.isSome_none, Bool.false_eq_true, if_false, hr]
            have := lowb .sliceB
            cases lo <;> simp_all
    | some xm =>
      cases mx with
      | none => exact hmx.elim
      | some vm =>
        obtain ⟨km, rfl, hmt⟩ := bnd_some (x := xm) hmx h2
        have hrm : ∀ code, (Instr.sliceBound (.int km (m : Int)) cap code).run P w = .ok m w := fun code => run_sliceBound (by omega)
        cases hi' with
        | none =>
          cases hi with
          | some v => exact hhi.elim
          | none => exact absurd (hm rfl) (by simp)
        | some x =>
          cases hi with
          | none => exact hhi.elim
          | some v =>
            obtain ⟨kk, rfl, _⟩ := bnd_some (x := x) hhi h1
            have hr : ∀ code, (Instr.sliceBound (.int kk (k : Int)) m code).run P w = .ok k w := fun code => run_sliceBound (by omega)
            simp only [Instr.sliceBounds, Sem.run_bind, Result.andThen_ok, Option.isSome_some, if_true, hr, hrm]
            have := lowb .slice3C
            cases lo <;> simp_all
  · intro hs
    cases mx' with
    | none => cases mx with | none => simp at hs | some v => exact hmx.elim
    | some x =>
      cases mx with
      | none => exact hmx.elim
      | some v => obtain ⟨_, _, h⟩ := bnd_some (x := x) hmx h2; omega

theorem sizeT_run {t : TypeId} {z : Nat} (hz : sizeT P t = some z) : (sizeOf t).run P w = .ok z w := by
  unfold sizeT at hz
  obtain ⟨inf, hi, rfl⟩ := map_some hz
  simp [sizeOf, typeInfo, hi, Result.andThen]

theorem CP_empty {f : Fl} {v : Value} {blk off cap : Nat} (hv : v = .slice (some ⟨blk, off, none⟩) 0 cap) (hc : cap ≤ maxLen) (hf : f ≠ .nl ∧ f ≠ .fu) : CP w S v (.sl [] f) := by
  subst hv
  refine .sl blk off 0 cap [] f (fun _ _ => undef) hf.1 (fun h => absurd h hf.2) (Nat.zero_le _) hc (fun i r h => by simp at h) (fun i j h => by simp at h) (fun i r j c h => by simp at h)

theorem sound_slc {t el : TypeId} {z : Nat} {v : Value} {x y : AV} {lo hi mx : Option Value} {lo' hi' mx' : Option AV} (ht : P.underlying t = some (.slice el)) (hz : sizeT P el = some z) (hh : HeapRel w S M clk h)
    (hm : hi.isNone → mx.isNone) (hlo : CO w S M clk lo lo') (hhi : CO w S M clk hi hi') (hmx : CO w S M clk mx mx') (hv : C w S M clk v x) (hy : slcAV z h x lo' hi' mx' = some y) :
    ∃ r, (Instr.sliceAt t v lo hi mx).run P w = .ok r w ∧ C w S M clk r y := by
  have hrun : ∀ (a : Option Addr) (len cap l k m : Nat), v = .slice a len cap → (Instr.sliceBounds true len cap lo hi mx).run P w = .ok (l, k, m) w →
      (Instr.sliceAt t v lo hi mx).run P w = .ok (.slice (if m = l then a else a.map (·.add (l * z))) (k - l) (m - l)) w := by
    intro a len cap l k m hv hb
    subst hv
    simp only [Instr.sliceAt, Instr.slice, Sem.run_bind, run_underlying ht, Result.andThen_ok, hb, sizeT_run hz, Sem.run_pure]
  cases x <;> simp only [slcAV] at hy <;> try cases hy
  case sl els f =>
    obtain ⟨k, h1, hy1⟩ := bind_some hy
    obtain ⟨m, h2, hy2⟩ := bind_some hy1
    obtain ⟨l, h3, hy3⟩ := bind_some hy2
    clear hy hy1 hy2
    split at hy3 <;> cases hy3
    rename_i hc
    obtain ⟨hkm, hzz⟩ := hc
    rcases hv.inv_sl.inv_sl with ⟨rfl, b, rfl, hb1, hb2⟩ | ⟨blk, off, z0, cap, u, rfl, hf, hfull, hcap, hmax, hz0, hS, hcc⟩
    · obtain ⟨hb, hlk, hkt, hmt⟩ := run_sliceBounds (P := P) (b := true) (len := 0) (cap := 0) hm hlo hhi hmx h1 h2 h3 (Nat.le_refl _) (Nat.le_refl _) hkm
      have hk0 : k = 0 := by simpa using hkt
      have hl0 : l = 0 := by omega
      subst hk0
      subst hl0
      have hm0 : (if mx.isSome = true then m else 0) = 0 := by
        split
        · rename_i hs; have := hmt hs; simpa using this
        · rfl
      refine ⟨_, hrun b 0 0 0 0 _ rfl hb, .p ?_⟩
      rw [hm0]
      simp only [List.take_nil, List.drop_nil, if_true]
      cases b with
      | none => refine .slnil _ ?_; rcases hb1 rfl with rfl | rfl <;> simp
      | some a => refine .slz a _ ?_; rcases hb2 (by simp) with rfl | rfl <;> simp
    · obtain ⟨hb, hlk, hkt, hmt⟩ := run_sliceBounds (P := P) (b := true) (len := els.length) (cap := cap) hm hlo hhi hmx h1 h2 h3 hcap (Nat.le_refl _) hkm
      refine ⟨_, hrun _ _ _ _ _ _ rfl hb, .p ?_⟩
      generalize hmm : (if mx.isSome = true then m else cap) = mm
      have hmm1 : k ≤ mm ∧ mm ≤ maxLen := by
        rw [← hmm]
        split
        · rename_i hs; have := hmt hs; exact ⟨hkm, by omega⟩
        · exact ⟨by omega, hmax⟩
      simp only [hf, if_false]
      by_cases hlk' : l = k
      · subst hlk'
        have he : (els.take l).drop l = [] := by simp
        rw [he]
        by_cases hml : mm = l
        · simp only [hml, if_true, Nat.sub_self]
          exact CP_empty rfl (Nat.zero_le _) (by simp)
        · simp only [hml, if_false, Nat.sub_self, Option.map_some, add_addr]
          exact CP_empty rfl (by omega) (by simp)
      · have hml : mm ≠ l := by omega
        have hz1 : z0 = z := by
          cases els with
          | nil => simp at hkt; omega
          | cons r els =>
            have h4 := hz0 0 r rfl
            simp at hzz
            omega
        subst hz1
        have hlen : ((els.take k).drop l).length = k - l := by simp; omega
        simp only [hml, if_false, Option.map_some, add_addr]
        rw [← hlen]
        have hget : ∀ i, i < k - l → ((els.take k).drop l)[i]? = els[l + i]? := by
          intro i hi
          rw [List.getElem?_drop, List.getElem?_take, if_pos (by omega)]
        have hlt : ∀ (i : Nat) (r : List AV), ((els.take k).drop l)[i]? = some r → i < k - l := by
          intro i r hr
          rcases Nat.lt_or_ge i (k - l) with h | h
          · exact h
          · rw [List.getElem?_eq_none (by omega)] at hr; cases hr
        refine .sl blk (off + l * z0) z0 (mm - l) _ .an (fun i j => u (l + i) j) (by simp) (by simp) (by omega) (by omega) ?_ ?_ ?_
        · intro i r hr
          rw [hget i (hlt i r hr)] at hr
          exact hz0 _ _ hr
        · intro i j hi hj
          have := hS (l + i) j (by omega) hj
          rw [Nat.add_mul, ← Nat.add_assoc] at this
          exact this
        · intro i r j c hr hc
          rw [hget i (hlt i r hr)] at hr
          exact hcc _ _ _ _ hr hc
  case bs id g z' off n =>
    obtain ⟨bx, hb, hy1⟩ := bind_some hy
    obtain ⟨k, h1, hy2⟩ := bind_some hy1
    obtain ⟨l, h3, hy3⟩ := bind_some hy2
    clear hy hy1 hy2
    by_cases hc : z' = z ∧ mx'.isNone = true
    case neg => rw [if_neg hc] at hy3; cases hy3
    rw [if_pos hc] at hy3
    have hy := hy3
    clear hy3
    obtain ⟨rfl, hmn⟩ := hc
    obtain ⟨hlb, hg, hzb⟩ := boxAt_some hb
    have hmx0 : mx' = none := by simpa using hmn
    subst hmx0
    have hmx1 : mx = none := by cases mx with | none => rfl | some v => exact hmx.elim
    subst hmx1
    obtain ⟨hgl, hbs, _⟩ := hv.inv_bs
    obtain ⟨_, _, m, hm1, hbox⟩ := hh.box id bx hlb
    rw [hg] at hm1
    unfold BsOk at hbs
    rw [hm1] at hbs
    cases m with
    | none =>
      obtain ⟨rfl, rfl, ad, rfl, had⟩ := hbs
      obtain ⟨hb, hlk, hkt, _⟩ := run_sliceBounds (P := P) (b := true) (len := 0) (cap := 0) (m := k) hm hlo hhi (mx' := none) (mx := none) trivial h1 rfl h3 (Nat.le_refl _) (Nat.le_refl _) (Nat.le_refl _)
      have hk0 : k = 0 := by omega
      have hl0 : l = 0 := by omega
      subst hk0
      subst hl0
      refine ⟨_, hrun ad 0 0 0 0 _ rfl hb, ?_⟩
      simp only [if_true] at hy
      cases hy
      refine .bs id g z' 0 0 _ hgl ?_ rfl
      unfold BsOk
      rw [hm1]
      exact ⟨rfl, rfl, ad, by simp, had⟩
    | some k0 =>
      obtain ⟨arr, ty, cap, hblk, rfl, hnc, hcm, harr⟩ := hbs
      obtain ⟨hb, hlk, hkt, _⟩ := run_sliceBounds (P := P) (b := true) (len := n) (cap := cap) (m := k) hm hlo hhi (mx' := none) (mx := none) trivial h1 rfl h3 hnc (Nat.le_refl _) (Nat.le_refl _)
      refine ⟨_, hrun _ _ _ _ _ _ rfl hb, ?_⟩
      simp only [Option.isSome_none, Bool.false_eq_true, if_false]
      split at hy
      · cases hy
        rename_i hl0
        subst hl0
        refine .bs id g z' off k _ hgl ?_ (by split <;> rfl)
        unfold BsOk
        rw [hm1]
        refine ⟨arr, ty, cap, hblk, ?_, by omega, hcm, harr⟩
        have : (if cap = 0 then (some ⟨k0, off * z', none⟩ : Option Addr) else Option.map (fun (q : Addr) => q.add (0 * z')) (some ⟨k0, off * z', none⟩)) = some ⟨k0, off * z', none⟩ := by
          split
          · rfl
          · simp [Addr.add]
        rw [this]
        simp
      · split at hy
        · cases hy
          rename_i hl0 hlk'
          have hcl : cap ≠ l := by omega
          refine .bs id g z' (off + l) (k - l) _ hgl ?_ (by rfl)
          unfold BsOk
          rw [hm1]
          refine ⟨arr, ty, cap - l, hblk, ?_, by omega, by omega, ?_⟩
          · simp only [hcl, if_false, Option.map_some, add_addr, Nat.add_mul]
          · rw [← harr]; congr 1; omega
        · cases hy
          rename_i hl0 hlk'
          have hkl : k - l = 0 := by omega
          rw [hkl]
          refine .p ?_
          by_cases hcl : cap = l
          · simp only [hcl, if_true]
            exact CP_empty rfl (by omega) (by simp)
          · simp only [hcl, if_false, Option.map_some, add_addr]
            exact CP_empty rfl (by omega) (by simp)

end
end Go.Ab
