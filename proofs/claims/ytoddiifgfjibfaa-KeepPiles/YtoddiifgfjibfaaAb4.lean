/-
  The operations that leave the boxes alone do what their abstract twins do: arithmetic, comparisons, parts, slices.
-/
import Derived.Test.YtoddiifgfjibfaaAb3
namespace Go.Ab
open Go.RowKit

section
variable {P : Program} {w : World} {S : Nat → Nat → Prop} {M : Map} {clk : Nat} {e : Nat → AV} {h : Heap} {a : Act}

theorem sound_binI {op : BinOp} {t : TypeId} {k : IntKind} {m n : Int} {z : AV} (hz : binI op k m n = some z) :
    ∃ v, (binOp op t (.int k m) (.int k n)).run P w = .ok v w ∧ C w S M clk v z := by
  cases op <;> simp only [binI, Option.some.injEq] at hz <;> first
    | (cases hz; done)
    | (subst hz; refine ⟨_, ?_, .p (.i _ _)⟩; simp [binOp, Op.intArith, Op.intBits]; done)
    | (subst hz; refine ⟨_, ?_, .p (.b _)⟩; simp [binOp, Op.intCmp]; done)
    | (split at hz
       · cases hz
       · cases hz
         rename_i h0
         refine ⟨_, ?_, .p (.i _ _)⟩
         simp [binOp, Op.intDiv, h0])

theorem toList_toArray (l : List UInt8) : (⟨l.toArray⟩ : ByteArray).toList = l := by
  rw [ByteArray.toList_eq]

theorem size_toArray (l : List UInt8) : (⟨l.toArray⟩ : ByteArray).size = l.length := by
  simp [ByteArray.size]

theorem append_toArray (l m : List UInt8) : (⟨l.toArray⟩ : ByteArray) ++ (⟨m.toArray⟩ : ByteArray) = ⟨(l ++ m).toArray⟩ := by
  apply ByteArray.ext
  simp

theorem sound_binS {op : BinOp} {t : TypeId} {l m : List UInt8} {z : AV} (hz : binS op l m = some z) :
    ∃ v, (binOp op t (.string ⟨l.toArray⟩) (.string ⟨m.toArray⟩)).run P w = .ok v w ∧ C w S M clk v z := by
  cases op <;> simp only [binS, Option.some.injEq] at hz <;> first
    | (cases hz; done)
    | (subst hz; refine ⟨_, ?_, .p (.b _)⟩; simp [binOp, Op.stringOp]; done)
    | (split at hz
       · cases hz
         rename_i h0
         refine ⟨_, ?_, .p (.s _)⟩
         have : ¬ (((l.length + m.length : Nat) : Int) > IntKind.i64.max) := by
           simp only [IntKind.max, IntKind.signed, IntKind.bits]
           simp
           omega
         simp only [binOp, Op.stringOp, size_toArray, this, if_false, append_toArray]
         rfl
       · cases hz)

theorem run_eqGuard_int {op : BinOp} {t : TypeId} {x y : Operand} {k k' : IntKind} {m n : Int} : (eqGuard op t x y (.int k m) (.int k' n)).run P w = .ok () w := by
  unfold eqGuard
  cases op <;> rfl

theorem run_eqGuard_str {op : BinOp} {t : TypeId} {x y : Operand} {m n : ByteArray} : (eqGuard op t x y (.string m) (.string n)).run P w = .ok () w := by
  unfold eqGuard
  cases op <;> rfl

theorem run_eqGuard_bool {op : BinOp} {t : TypeId} {x y : Operand} {m n : Bool} : (eqGuard op t x y (.bool m) (.bool n)).run P w = .ok () w := by
  unfold eqGuard
  cases op <;> rfl

theorem run_eqGuard_slice {op : BinOp} {t : TypeId} {x y : Operand} {m n : Option Addr} {l1 c1 l2 c2 : Nat} : (eqGuard op t x y (.slice m l1 c1) (.slice n l2 c2)).run P w = .ok () w := by
  unfold eqGuard
  cases op <;> rfl

theorem sound_bin {op : BinOp} {t : TypeId} {X Y : Operand} {v u : Value} {x y z : AV} (hv : C w S M clk v x) (hu : C w S M clk u y) (hz : binV op x y = some z) :
    ∃ r, (do eqGuard op t X Y v u; binOp op t v u : Sem Value).run P w = .ok r w ∧ C w S M clk r z := by
  unfold binV at hz
  split at hz
  · rename_i k m k' n
    obtain rfl := hv.inv_i
    obtain rfl := hu.inv_i
    split at hz <;> cases hz
    rename_i h0
    refine ⟨_, ?_, .p (.i _ _)⟩
    have h0' : ¬ n < 0 := h0
    simp only [Sem.run_bind, run_eqGuard_int, Result.andThen_ok]
    simp [binOp, Op.shift, h0']
  · rename_i k m k' n
    obtain rfl := hv.inv_i
    obtain rfl := hu.inv_i
    split at hz <;> cases hz
    rename_i h0
    refine ⟨_, ?_, .p (.i _ _)⟩
    have h0' : ¬ n < 0 := h0
    simp only [Sem.run_bind, run_eqGuard_int, Result.andThen_ok]
    simp [binOp, Op.shift, h0']
  · rename_i k m k' n _ _
    obtain rfl := hv.inv_i
    obtain rfl := hu.inv_i
    split at hz
    · rename_i hk
      subst hk
      obtain ⟨r, h1, h2⟩ := sound_binI (P := P) (w := w) (S := S) (M := M) (clk := clk) (t := t) hz
      exact ⟨r, by simp only [Sem.run_bind, run_eqGuard_int, Result.andThen_ok, h1], h2⟩
    · cases hz
  · obtain rfl := hv.inv_s
    obtain rfl := hu.inv_s
    obtain ⟨r, h1, h2⟩ := sound_binS (P := P) (w := w) (S := S) (M := M) (clk := clk) (t := t) hz
    exact ⟨r, by simp only [Sem.run_bind, run_eqGuard_str, Result.andThen_ok, h1], h2⟩
  · cases hz

theorem sound_eqb {neq : Bool} {t : TypeId} {X Y : Operand} {v u : Value} {x y z : AV} (ht : P.underlying t = some .bool) (hv : C w S M clk v x) (hu : C w S M clk u y) (hz : eqbAV neq x y = some z) :
    ∃ r, (do eqGuard (if neq then .neq else .eql) t X Y v u; binOp (if neq then .neq else .eql) t v u : Sem Value).run P w = .ok r w ∧ C w S M clk r z := by
  unfold eqbAV at hz
  split at hz <;> cases hz
  obtain rfl := hv.inv_b
  obtain rfl := hu.inv_b
  refine ⟨_, ?_, .p (.b _)⟩
  rename_i s r
  cases neq
  · simp only [Bool.false_eq_true, if_false, Sem.run_bind, run_eqGuard_bool, Result.andThen_ok, binOp, Op.equal, Op.maxDepth, run_equalIn_bool _ 9999 t s r ht, Sem.run_pure]
  · simp only [if_true, Sem.run_bind, run_eqGuard_bool, Result.andThen_ok, binOp, Op.equal, Op.maxDepth, run_equalIn_bool _ 9999 t s r ht, Sem.run_pure]
    rfl

theorem run_part_one {t : TypeId} {vs : Array Value} {o : Nat} {v : Value} (hp : ∃ d, P.underlying t = some d ∧ isAggD d = false) (hv : vs[o]? = some v) : (part t vs o).run P w = .ok v w := by
  obtain ⟨d, hd, ha⟩ := hp
  unfold part
  simp only [Sem.run_bind, run_isAgg' hd, ha, Result.andThen_ok, hv]
  rfl

theorem leafOf_plain {t : TypeId} {l : Leaf} (hl : leafOf P t = some l) : ∃ d, P.underlying t = some d ∧ isAggD d = false ∧ (match l with | .int => ∃ k, d = .int k | .bool => d = .bool | .str => d = .string) := by
  unfold leafOf at hl
  split at hl <;> cases hl <;> rename_i hd
  · exact ⟨_, hd, rfl, _, rfl⟩
  · exact ⟨_, hd, rfl, rfl⟩
  · exact ⟨_, hd, rfl, rfl⟩

theorem leaf_sound {d : Nat} {t : TypeId} {l : Leaf} {v u : Value} {x y : AV} {b : Bool} (hl : leafOf P t = some l) (hv : C w S M clk v x) (hu : C w S M clk u y) (hb : leafEq l x y = some b) :
    (Op.equalIn (d + 1) t v u).run P w = .ok b w := by
  obtain ⟨de, hd, _, hk⟩ := leafOf_plain hl
  cases l with
  | int =>
    obtain ⟨k, rfl⟩ := hk
    cases x <;> cases y <;> simp only [leafEq] at hb <;> try cases hb
    obtain rfl := hv.inv_i
    obtain rfl := hu.inv_i
    split at hb <;> cases hb
    rename_i hk
    subst hk
    exact run_equalIn_int w d t _ _ _ _ hd
  | bool =>
    subst hk
    cases x <;> cases y <;> simp only [leafEq] at hb <;> try cases hb
    obtain rfl := hv.inv_b
    obtain rfl := hu.inv_b
    exact run_equalIn_bool w d t _ _ hd
  | str =>
    subst hk
    cases x <;> cases y <;> simp only [leafEq] at hb <;> try cases hb
    obtain rfl := hv.inv_s
    obtain rfl := hu.inv_s
    rw [run_equalIn_string w d t _ _ hd, toList_toArray, toList_toArray]

theorem sound_eqL {d : Nat} {vs us : Array Value} {xs ys : List AV} (hlv : vs.size = xs.length) (hlu : us.size = ys.length)
    (hv : ∀ (j : Nat) (v : Value) (c : AV), vs[j]? = some v → xs[j]? = some c → C w S M clk v c)
    (hu : ∀ (j : Nat) (v : Value) (c : AV), us[j]? = some v → ys[j]? = some c → C w S M clk v c) :
    ∀ (fs : List Field) (ls : List (Nat × Leaf)) (t : Bool), leaves P fs = some ls → eqL ls xs ys = some t → (Op.eqFields (d + 1) vs us fs).run P w = .ok t w
  | [], ls, t, hl, ht => by
    simp only [leaves, Option.some.injEq] at hl
    subst hl
    simp only [eqL, Option.some.injEq] at ht
    subst ht
    rfl
  | f :: fs, ls, t, hl, ht => by
    simp only [leaves] at hl
    split at hl
    · cases hl
    rename_i hn
    obtain ⟨l, hl1, hl⟩ := bind_some hl
    obtain ⟨ls', hls, rfl⟩ := map_some hl
    simp only [eqL] at ht
    split at ht
    · rename_i x y hx hy
      obtain ⟨b, hb, ht⟩ := bind_some ht
      obtain ⟨c, hc, rfl⟩ := map_some ht
      have hov : f.offset < vs.size := by
        rcases Nat.lt_or_ge f.offset xs.length with h | h
        · omega
        · rw [List.getElem?_eq_none h] at hx; cases hx
      have hou : f.offset < us.size := by
        rcases Nat.lt_or_ge f.offset ys.length with h | h
        · omega
        · rw [List.getElem?_eq_none h] at hy; cases hy
      have hv1 : vs[f.offset]? = some (vs[f.offset]'hov) := Array.getElem?_eq_getElem hov
      have hu1 : us[f.offset]? = some (us[f.offset]'hou) := Array.getElem?_eq_getElem hou
      have hCv := hv _ _ _ hv1 hx
      have hCu := hu _ _ _ hu1 hy
      have hd : ∃ d, P.underlying f.type = some d ∧ isAggD d = false := let ⟨d, h1, h2, _⟩ := leafOf_plain hl1; ⟨d, h1, h2⟩
      have heq : (Op.equalIn (d + 1) f.type (vs[f.offset]'hov) (us[f.offset]'hou)).run P w = .ok b w := leaf_sound hl1 hCv hCu hb
      have ih := sound_eqL (d := d) hlv hlu hv hu fs ls' c hls hc
      have hn' : f.name ≠ "_" := hn
      simp only [Op.eqFields, hn', ne_eq, not_false_eq_true, if_true, Sem.run_bind, run_part_one hd hv1, run_part_one hd hu1, heq, Result.andThen_ok]
      cases b
      · simp
      · simp [ih]
    · cases ht

end
end Go.Ab
