/-
  A region whose order is drawn: if each operation's value hangs on its operands alone, one run in the order of the text serves every order.
-/
import Derived.Test.YtoddiifgfjibfaaAb9
import Derived.StillTail
namespace Go.Ab
open Go.RowKit

section
variable {P : Program} {ops : Array Oper} {md : Region.Mode} {F : Nat → (Nat → AV) → AV → Prop}

/-- operation i comes up -/
def fOp (ops : Array Oper) (F : Nat → (Nat → AV) → AV → Prop) (i : Nat) (K : (Nat → AV) → Prop) (ρ : Nat → AV) : Prop :=
  match ops[i]? with
  | none => K ρ
  | some o => ∃ x, F i ρ x ∧ K (upd ρ o.dst x)

theorem fOp_mono {i : Nat} {ρ : Nat → AV} {K K' : (Nat → AV) → Prop} (h : ∀ ρ, K ρ → K' ρ) (hh : fOp ops F i K ρ) : fOp ops F i K' ρ := by
  unfold fOp at *
  split
  · exact h _ (by simpa [*] using hh)
  · rename_i o ho
    simp only [ho] at hh
    obtain ⟨x, h1, h2⟩ := hh
    exact ⟨x, h1, h _ h2⟩

def anyE (md : Region.Mode) (ops : Array Oper) (F : Nat → (Nat → AV) → AV → Prop) (Q : (Nat → AV) → Prop) : Nat → Array Bool → (Nat → AV) → Prop
  | 0, listed, ρ => Region.ready md ops listed = [] ∧ Q ρ
  | fuel + 1, listed, ρ =>
    (Region.ready md ops listed = [] → Q ρ) ∧
    ∀ i ∈ Region.ready md ops listed, fOp ops F i (anyE md ops F Q fuel (listed.setIfInBounds i true)) ρ

/-- each operation's value hangs on what it looks at alone -/
def Local (ops : Array Oper) (F : Nat → (Nat → AV) → AV → Prop) : Prop :=
  ∀ i o, ops[i]? = some o → ∀ ρ ρ' : Nat → AV, (∀ t, t ∈ o.looksAt ops → ρ t = ρ' t) → ∀ x, F i ρ x → F i ρ' x

theorem upd_out {ρ : Nat → AV} {d : Option Nat} {v : AV} {l : List Nat} (h : ∀ e, d = some e → e ∉ l) : ∀ t, t ∈ l → upd ρ d v t = ρ t := by
  intro t ht
  cases d with
  | none => rfl
  | some d =>
    have : t ≠ d := fun e => h d rfl (e ▸ ht)
    simp [upd, this]

theorem fOp_put (hL : Local ops F) {i j : Nat} {oi oj : Oper} {v : AV} (hi : ops[i]? = some oi) (hj : ops[j]? = some oj) (hap : oi.apart ops oj = true) {K : (Nat → AV) → Prop} {ρ : Nat → AV}
    (hy : F i ρ v) (h : fOp ops F j K (upd ρ oi.dst v)) : fOp ops F j (fun ρ' => F i ρ' v ∧ K (upd ρ' oi.dst v)) ρ := by
  obtain ⟨h1, h2, h3⟩ := Oper.apart_spec hap
  unfold fOp at h ⊢
  simp only [hj] at h ⊢
  obtain ⟨x, hx, hK⟩ := h
  refine ⟨x, hL j oj hj _ _ (upd_out h1) x hx, hL i oi hi _ _ (fun t ht => (upd_out h3 t ht).symm) v hy, ?_⟩
  rw [← upd_comm ρ v x h2]
  exact hK

theorem anyE_first (hL : Local ops F) {Q : (Nat → AV) → Prop} {i : Nat} {oi : Oper} {v : AV} (hi : ops[i]? = some oi) :
    ∀ (fuel : Nat) (listed : Array Bool) (ρ : Nat → AV),
      (∀ j oj, ops[j]? = some oj → j ≠ i → listed.getD j true = false → (∀ e ∈ oj.after, Region.binds md e = true → e.on ≠ i) → oi.apart ops oj = true) →
      i ∈ Region.ready md ops listed → F i ρ v →
      anyE md ops F Q fuel (listed.setIfInBounds i true) (upd ρ oi.dst v) → anyE md ops F Q (fuel + 1) listed ρ := by
  have take : ∀ {ρ : Nat → AV} {K : (Nat → AV) → Prop}, F i ρ v → K (upd ρ oi.dst v) → fOp ops F i K ρ := by
    intro ρ K h1 h2
    unfold fOp
    simp only [hi]
    exact ⟨v, h1, h2⟩
  intro fuel
  induction fuel with
  | zero =>
    intro listed ρ _ hr hy H
    refine ⟨fun h => (by rw [h] at hr; cases hr), fun j hj => ?_⟩
    by_cases hji : j = i
    · subst hji; exact take hy H
    · have := ready_mono hj hji
      rw [H.1] at this
      cases this
  | succ fuel ih =>
    intro listed ρ hfree hr hy H
    refine ⟨fun h => (by rw [h] at hr; cases hr), fun j hj => ?_⟩
    by_cases hji : j = i
    · subst hji; exact take hy H
    · have h1 := H.2 j (ready_mono hj hji)
      obtain ⟨hjun, oj, hoj, hall⟩ := mem_ready.1 hj
      have hnot : ∀ e ∈ oj.after, Region.binds md e = true → e.on ≠ i := fun e he hb heq => by
        have h1 := hall e he hb
        have h0 := (mem_ready.1 hr).1
        rw [heq] at h1
        rcases Nat.lt_or_ge i listed.size with h' | h'
        · simp [h'] at h0 h1; rw [h0] at h1; cases h1
        · simp [Array.getElem?_eq_none h'] at h1
      have h2 := fOp_put hL hi hoj (hfree j oj hoj hji hjun hnot) hy h1
      have hfree' : ∀ k ok, ops[k]? = some ok → k ≠ i → (listed.setIfInBounds j true).getD k true = false →
          (∀ e ∈ ok.after, Region.binds md e = true → e.on ≠ i) → oi.apart ops ok = true := fun k ok hk hki hun hno => by
        refine hfree k ok hk hki ?_ hno
        by_cases hjk : j = k
        · subst hjk; exact hjun
        · rw [getD_set_ne true hjk] at hun; exact hun
      refine fOp_mono (fun ρ' h3 => ih (listed.setIfInBounds j true) ρ' hfree' (ready_mono hr (Ne.symm hji)) h3.1 ?_) h2
      rw [Array.setIfInBounds_comm _ _ hji]
      exact h3.2

/-- the run in the order of the text -/
def lexE (ops : Array Oper) (F : Nat → (Nat → AV) → AV → Prop) (Q : (Nat → AV) → Prop) : List Oper → Nat → (Nat → AV) → Prop
  | [], _, ρ => Q ρ
  | o :: l, k, ρ => ∃ x, F k ρ x ∧ lexE ops F Q l (k + 1) (upd ρ o.dst x)

theorem anyE_lex (hL : Local ops F) {Q : (Nat → AV) → Prop} : ∀ (l : List Oper) (k : Nat) (listed : Array Bool) (ρ : Nat → AV), (∀ j, l[j]? = ops[k + j]?) →
    Region.lexFrom md ops l.length k listed = true → lexE ops F Q l k ρ → anyE md ops F Q l.length listed ρ
  | [], _, _, _, _, hB, h => ⟨by simpa [Region.lexFrom] using hB, h⟩
  | o :: l, k, listed, ρ, hl, hB, h => by
    have h0 : ops[k]? = some o := by simpa using (hl 0).symm
    simp only [List.length_cons, Region.lexFrom, Bool.and_eq_true] at hB
    obtain ⟨⟨hr, hf⟩, hB'⟩ := hB
    obtain ⟨v, hy, hK⟩ := h
    exact anyE_first hL h0 l.length listed ρ (Region.free_spec h0 hf) (by simpa using hr) hy
      (anyE_lex hL l (k + 1) _ _ (fun j => by have := hl (j + 1); simpa [Nat.add_assoc, Nat.add_comm 1 j] using this) hB' hK)

/-- what is listed is closed under what must come ahead -/
structure Clo (md : Region.Mode) (ops : Array Oper) (listed : Array Bool) : Prop where
  size : listed.size = ops.size
  closed : ∀ (j : Nat) (oj : Oper), ops[j]? = some oj → listed.getD j false = true → ∀ e ∈ oj.after, Region.binds md e = true → listed.getD e.on false = true

theorem Clo.set {i : Nat} {listed : Array Bool} (inv : Clo md ops listed) (hi : i ∈ Region.ready md ops listed) : Clo md ops (listed.setIfInBounds i true) := by
  obtain ⟨_, oi, hoi, hall⟩ := mem_ready.1 hi
  refine ⟨by simp [inv.size], fun j oj hj hl e he hb => ?_⟩
  by_cases hij : i = j
  · subst hij
    have : oj = oi := Option.some.inj (hj.symm.trans hoi)
    subst this
    exact getD_set_true (hall e he hb)
  · rw [getD_set_ne false hij] at hl
    exact getD_set_true (inv.closed j oj hj hl e he hb)

/-- from the abstract runs to the model's -/
theorem wpAny_of_anyE {R : Array Bool → (Nat → AV) → Act → World → Prop} {Q : (Nat → AV) → Prop} {Q' : Exit → Act → World → Prop}
    (hs : ∀ i o, ops[i]? = some o → ∀ listed ρ x a w (K : Act → World → Prop), Clo md ops listed → i ∈ Region.ready md ops listed → F i ρ x → R listed ρ a w → (∀ a' w', R (listed.setIfInBounds i true) (upd ρ o.dst x) a' w' → K a' w') → wpOp P ops Q' i K a w)
    (hQ : ∀ listed ρ a w, Clo md ops listed → Region.ready md ops listed = [] → R listed ρ a w → Q ρ → Q' .normal a w) : ∀ (fuel : Nat) (listed : Array Bool) (ρ : Nat → AV) (a : Act) (w : World), Clo md ops listed → R listed ρ a w →
    anyE md ops F Q fuel listed ρ → wpAny P md ops Q' fuel listed a w
  | 0, _, _, _, _, hc, hr, h => ⟨h.1, hQ _ _ _ _ hc h.1 hr h.2⟩
  | fuel + 1, listed, ρ, a, w, hc, hr, h => by
    refine ⟨fun h0 => hQ _ _ _ _ hc h0 hr (h.1 h0), fun i hi => ?_⟩
    have h2 := h.2 i hi
    obtain ⟨_, o, ho, _⟩ := mem_ready.1 hi
    unfold fOp at h2
    simp only [ho] at h2
    obtain ⟨x, hx, hK⟩ := h2
    exact hs i o ho listed ρ x a w _ hc hi hx hr fun a' w' hr' => wpAny_of_anyE hs hQ fuel _ _ a' w' (hc.set hi) hr' hK

theorem wp_region_drawn {id : Nat} {R : Array Bool → (Nat → AV) → Act → World → Prop} {Q : (Nat → AV) → Prop} {Q' : Exit → Act → World → Prop} {ρ : Nat → AV} {a : Act} {w : World}
    (hm : P.follows .mixedOrders = true) (hB : Region.lexB .any ops = true) (hL : Local ops F)
    (hs : ∀ i o, ops[i]? = some o → ∀ listed ρ x a w (K : Act → World → Prop), Clo .any ops listed → i ∈ Region.ready .any ops listed → F i ρ x → R listed ρ a w → (∀ a' w', R (listed.setIfInBounds i true) (upd ρ o.dst x) a' w' → K a' w') → wpOp P ops Q' i K a w)
    (hQ : ∀ listed ρ a w, Clo .any ops listed → Region.ready .any ops listed = [] → R listed ρ a w → Q ρ → Q' .normal a w) (hr : R (Array.replicate ops.size false) ρ a { w with drawn := w.drawn + 1 }) (h : lexE ops F Q ops.toList 0 ρ) : (Code.region id ops true).wp P Q' a w := by
  simp only [Region.lexB, Bool.and_eq_true] at hB
  refine wp_region_any hm (wpAny_of_anyE hs hQ _ _ _ _ _ ⟨by simp, fun j oj _ hl => by rw [getD_replicate_false] at hl; cases hl⟩ hr ?_)
  have := anyE_lex (md := .any) hL ops.toList 0 (Array.replicate ops.size false) ρ (by simp) (by simpa using hB.2) h
  simpa using this

end
end Go.Ab
