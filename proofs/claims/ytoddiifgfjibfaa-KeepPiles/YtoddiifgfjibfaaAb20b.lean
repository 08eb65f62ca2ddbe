/-
  A region whose order is drawn, with operations that write among the others.
-/
import Derived.Test.YtoddiifgfjibfaaAb20
namespace Go.Ab
open Go.RowKit

section
variable {P : Program} {ops : Array Oper}

theorem lex_edges_from {md : Region.Mode} : ∀ (n k : Nat) (listed : Array Bool), Region.lexFrom md ops n k listed = true → (∀ i, listed.getD i false = true → i < k) → ∀ i o, k ≤ i → i < k + n → ops[i]? = some o → ∀ e ∈ o.after, Region.binds md e = true → e.on < i
  | 0, k, listed, _, _, i, o, h1, h2, _, _, _, _ => by omega
  | n + 1, k, listed, hB, hl, i, o, h1, h2, ho, e, he, hb => by
    simp only [Region.lexFrom, Bool.and_eq_true] at hB
    obtain ⟨⟨hr, _⟩, hB'⟩ := hB
    by_cases hik : i = k
    · subst hik
      have hr' : i ∈ Region.ready md ops listed := by simpa using hr
      obtain ⟨_, o', ho', hall⟩ := mem_ready.1 hr'
      rw [ho] at ho'
      cases ho'
      exact hl _ (hall e he hb)
    · refine lex_edges_from n (k + 1) _ hB' (fun j hj => ?_) i o (by omega) (by omega) ho e he hb
      by_cases hjk : k = j
      · omega
      · rw [getD_set_ne false hjk] at hj
        have := hl j hj
        omega

theorem lex_edges (hB : Region.lexB .any ops = true) : ∀ (i : Nat) (o : Oper), ops[i]? = some o → ∀ e ∈ o.after, Region.binds .any e = true → e.on < i := by
  simp only [Region.lexB, Bool.and_eq_true] at hB
  intro i o ho
  have hi : i < ops.size := (Array.getElem?_eq_some_iff.1 ho).1
  exact lex_edges_from ops.size 0 _ hB.2 (fun j hj => by rw [getD_replicate_false] at hj; cases hj) i o (Nat.zero_le _) (by omega) ho

theorem all_listed {listed : Array Bool} (hB : Region.lexB .any ops = true) (hr : Region.ready .any ops listed = []) (hsz : listed.size = ops.size) : ∀ i, i < ops.size → listed.getD i false = true := by
  intro i
  induction i using Nat.strongRecOn with
  | _ i ih =>
    intro hi
    cases hl : listed.getD i false with
    | true => rfl
    | false =>
      have ho : ops[i]? = some (ops[i]'hi) := Array.getElem?_eq_getElem hi
      have : i ∈ Region.ready .any ops listed := mem_ready.2 ⟨getD_in (by omega) hl, _, ho, fun e he hb => by
        have := lex_edges hB i _ ho e he hb
        exact ih e.on this (by omega)⟩
      rw [hr] at this
      cases this

theorem prec_listed {listed : Array Bool} (hc : Clo .any ops listed) : ∀ (n v i : Nat), (listed.getD i false = true ∨ i ∈ Region.ready .any ops listed) → precedes ops n v i = true → listed.getD v false = true
  | 0, _, _, _, h => by cases h
  | n + 1, v, i, hi, h => by
    simp only [precedes] at h
    split at h
    · cases h
    · rename_i o ho
      obtain ⟨e, he, hb⟩ := Array.any_eq_true'.1 h
      simp only [Bool.and_eq_true, Bool.or_eq_true, beq_iff_eq] at hb
      have hl : listed.getD e.on false = true := by
        rcases hi with hi | hi
        · exact hc.closed i o ho hi e he hb.1
        · obtain ⟨_, o', ho', hall⟩ := mem_ready.1 hi
          rw [ho] at ho'
          cases ho'
          exact hall e he hb.1
      rcases hb.2 with hb2 | hb2
      · rw [← hb2]; exact hl
      · exact prec_listed hc n v e.on (.inl hl) hb2

theorem chained_edge : ∀ (ws : List Nat) (m a b : Nat), chained ops ws = true → ws[m]? = some a → ws[m + 1]? = some b → ∃ o, ops[b]? = some o ∧ ∃ e ∈ o.after, Region.binds .any e = true ∧ e.on = a
  | [], _, _, _, _, h, _ => by simp at h
  | [x], m, _, _, _, _, h => by cases m <;> simp at h
  | x :: y :: r, m, a, b, hc, h1, h2 => by
    simp only [chained, Bool.and_eq_true] at hc
    cases m with
    | zero =>
      simp at h1 h2
      subst h1
      subst h2
      have h3 := hc.1
      split at h3
      · rename_i o ho
        obtain ⟨e, he, hb⟩ := Array.any_eq_true'.1 h3
        simp only [Bool.and_eq_true, beq_iff_eq] at hb
        exact ⟨o, ho, e, he, hb.1, hb.2⟩
      · cases h3
    | succ m => exact chained_edge (y :: r) m a b hc.2 (by simpa using h1) (by simpa using h2)

theorem chain_listed {ws : List Nat} {listed : Array Bool} (hch : chained ops ws = true) (hc : Clo .any ops listed) : ∀ (d p v u : Nat), ws[p]? = some v → ws[p + d]? = some u → listed.getD u false = true → listed.getD v false = true
  | 0, p, v, u, h1, h2, hl => by rw [Nat.add_zero, h1] at h2; cases h2; exact hl
  | d + 1, p, v, u, h1, h2, hl => by
    have hlt : p + d < ws.length := by have := get_lt h2; omega
    have hx : ws[p + d]? = some (ws[p + d]'hlt) := List.getElem?_eq_getElem hlt
    obtain ⟨o, ho, e, he, hb, hon⟩ := chained_edge ws (p + d) _ u hch hx h2
    have := hc.closed u o ho hl e he hb
    rw [hon] at this
    exact chain_listed hch hc d p v _ h1 hx this

theorem count_prefix {ws : List Nat} {f : Nat → Bool} : ∀ (p : Nat), p ≤ ws.length → (∀ m v, ws[m]? = some v → (f v = true ↔ m < p)) → (ws.filter f).length = p := by
  induction ws with
  | nil => intro p hp _; simp at hp; subst hp; rfl
  | cons x ws ih =>
    intro p hp h
    have h0 := h 0 x rfl
    cases p with
    | zero =>
      have hx : f x = false := by simpa using h0
      simp only [List.filter_cons, hx, Bool.false_eq_true, if_false]
      exact ih 0 (Nat.zero_le _) fun m v hv => by
        have := h (m + 1) v (by simpa using hv)
        simpa using this
    | succ p =>
      have hx : f x = true := h0.2 (Nat.succ_pos _)
      simp only [List.filter_cons, hx, if_true, List.length_cons]
      rw [ih p (by simpa using hp) fun m v hv => by
        have := h (m + 1) v (by simpa using hv)
        simpa using this]

theorem writers_mem (l : List AO) (k : Nat) : k ∈ writersOf l ↔ ∃ ao, l[k]? = some ao ∧ ao.op.writes = true := by
  unfold writersOf
  simp only [List.mem_map, List.mem_filter]
  constructor
  · rintro ⟨⟨ao, i⟩, ⟨h1, h2⟩, rfl⟩
    rw [List.mem_zipIdx_iff_getElem?] at h1
    exact ⟨ao, h1, h2⟩
  · rintro ⟨ao, h1, h2⟩
    exact ⟨(ao, k), ⟨by rw [List.mem_zipIdx_iff_getElem?]; exact h1, h2⟩, rfl⟩

theorem writers_sorted (l : List AO) : (writersOf l).Pairwise (· < ·) := by
  unfold writersOf
  rw [List.pairwise_map]
  refine List.Pairwise.filter _ ?_
  have key : ∀ (l : List AO) (k : Nat), (l.zipIdx k).Pairwise (fun a b => a.2 < b.2) := by
    intro l
    induction l with
    | nil => intro k; simp
    | cons x l ih =>
      intro k
      simp only [List.zipIdx_cons, List.pairwise_cons]
      refine ⟨fun p hp => ?_, ih (k + 1)⟩
      obtain ⟨a, i⟩ := p
      have := List.le_snd_of_mem_zipIdx hp
      simp only at this ⊢
      omega
  exact key l 0

theorem sorted_get {ws : List Nat} (hs : ws.Pairwise (· < ·)) {p q a b : Nat} (h1 : ws[p]? = some a) (h2 : ws[q]? = some b) (hpq : p < q) : a < b := by
  rw [List.pairwise_iff_getElem] at hs
  have hp := get_lt h1
  have hq := get_lt h2
  have := hs p q hp hq hpq
  rw [List.getElem?_eq_getElem hp] at h1
  rw [List.getElem?_eq_getElem hq] at h2
  cases h1
  cases h2
  exact this

theorem QF_free {o : AO} {ρ : Nat → AV} {x : AV} (hf : o.op.free = true) (h1 h2 : Heap) (hq : QF P h1 o ρ x) : QF P h2 o ρ x := by
  unfold QF at *
  split at hq
  · exact (QOp_free hf h1 h2).1 hq
  · rcases hq with ⟨ha, hb⟩ | hq
    · exact .inl ⟨ha, (QOp_free hf h1 h2).1 hb⟩
    · exact .inr hq

/-- what a quiet operation shows: a value, good for the boxes as they are and for the older ones -/
theorem QF_of {o : AO} {e : Env} {h : Heap} {older : List Heap} {K : Env → Prop} (hw : o.op.writes = false) (hk : qK P o e h older K) : ∃ x, QF P h o e.get x ∧ (o.op.free = false → ∀ h' ∈ older, QF P h' o e.get x) ∧ K (putE e o.dst x) := by
  obtain ⟨dst, guard, op⟩ := o
  have one : opQ P op dst e h older K → ∃ x, QOp P op e.get h x ∧ (op.free = false → ∀ h' ∈ older, QOp P op e.get h' x) ∧ K (putE e dst x) := by
    intro hk
    cases op <;> simp only [opQ] at hk <;> first
      | (obtain ⟨h1, r, h2, h3⟩ := hk; exact ⟨r, ⟨h1, h2⟩, fun hf => (by cases hf), h3⟩)
      | (obtain ⟨h1, ⟨r, h'⟩, h2, h3⟩ := hk; exact ⟨r, ⟨h1, h', h2⟩, fun hf => (by cases hf), h3⟩)
      | (obtain ⟨x, hx, h2, hK⟩ := hk; exact ⟨x, hx, fun hf => (by simp only [hf] at h2; exact h2), hK⟩)
  unfold qK at hk
  unfold QF
  cases guard with
  | none => exact one hk
  | some tw =>
    obtain ⟨t, want⟩ := tw
    simp only at hk ⊢
    split at hk
    · rename_i v hv
      by_cases hvw : v = want
      · rw [if_pos hvw] at hk
        obtain ⟨x, h1, h2, h3⟩ := one hk
        exact ⟨x, .inl ⟨by rw [hv, hvw], h1⟩, fun hf h' hh => .inl ⟨by rw [hv, hvw], h2 hf h' hh⟩, h3⟩
      · rw [if_neg hvw] at hk
        have : e.get t = .b (!want) := by
          rw [hv]
          congr 1
          cases v <;> cases want <;> simp_all
        exact ⟨.tup [], .inr ⟨.inl this, rfl⟩, fun _ _ _ => .inr ⟨.inl this, rfl⟩, hk⟩
    · rename_i hv
      exact ⟨.tup [], .inr ⟨.inr hv, rfl⟩, fun _ _ _ => .inr ⟨.inr hv, rfl⟩, hk⟩
    · exact hk.elim

/-- an operation's value, whatever the order -/
def FD (P : Program) (ops : Array Oper) (aos : List AO) (H : Nat → Heap) (C : Nat → Nat) (i : Nat) (ρ : Nat → AV) (x : AV) : Prop :=
  ∃ ao, aos[i]? = some ao ∧
    match ao.op.writes with
    | true => ao.guard = none ∧ ∃ p, (writersOf aos)[p]? = some i ∧ stepW ao.op ao.dst ρ (H p) (C p) = some (x, H (p + 1), C (p + 1))
    | false => ∀ j, lowOf ops (writersOf aos) i ≤ j → j ≤ highOf ops (writersOf aos) i → QF P (H j) ao ρ x

theorem lexE_of {aos : List AO} {K : St → Prop} (hok : drawOk ops aos = true) (hdst : ∀ (i : Nat) (o : Oper), ops[i]? = some o → ∃ ao : AO, aos[i]? = some ao ∧ ao.dst = o.dst) :
    ∀ (l : List Oper) (k : Nat) (rest : List AO) (e : Env) (h : Heap) (clk : Nat) (older : List Heap) (oc : List Nat), (∀ i, l[i]? = ops[k + i]?) → (∀ i, rest[i]? = aos[k + i]?) → l.length = rest.length → oc.length = older.length →
      older.length ≤ (writersOf aos).length → (∀ m v, (writersOf aos)[m]? = some v → (v < k ↔ m < older.length)) →
      drawL P ((rest.zipIdx k).map fun p => ⟨p.1, lowOf ops (writersOf aos) p.2⟩) e h clk older K →
      ∃ (H : Nat → Heap) (C : Nat → Nat), (∀ m x, older.reverse[m]? = some x → H m = x) ∧ (∀ m x, oc.reverse[m]? = some x → C m = x) ∧ H older.length = h ∧ C older.length = clk ∧
        lexE ops (FD P ops aos H C) (fun ρ => ∃ e, ρ = Env.get e ∧ K ⟨e, H (writersOf aos).length, C (writersOf aos).length⟩) l k e.get
  | [], k, rest, e, h, clk, older, oc, hl, hr, hlen, hoc, hle, hws, hk => by
    have : rest = [] := by cases rest with | nil => rfl | cons _ _ => simp at hlen
    subst this
    simp only [List.zipIdx_nil, List.map_nil, drawL] at hk
    have hfull : older.length = (writersOf aos).length := by
      rcases Nat.lt_or_ge older.length (writersOf aos).length with hlt | hge
      · exfalso
        have hx : (writersOf aos)[older.length]? = some ((writersOf aos)[older.length]'hlt) := List.getElem?_eq_getElem hlt
        have h1 := (hws _ _ hx)
        have hmem : ((writersOf aos)[older.length]'hlt) ∈ writersOf aos := List.getElem_mem _
        obtain ⟨ao, h2, _⟩ := (writers_mem aos _).1 hmem
        have h3 : ¬ ((writersOf aos)[older.length]'hlt) < k := fun hh => by have := h1.1 hh; omega
        have h4 := hr (((writersOf aos)[older.length]'hlt) - k)
        rw [show k + (((writersOf aos)[older.length]'hlt) - k) = ((writersOf aos)[older.length]'hlt) by omega, h2] at h4
        simp at h4
      · omega
    refine ⟨fun m => if m = older.length then h else (older.reverse[m]?).getD [], fun m => if m = older.length then clk else (oc.reverse[m]?).getD 0, fun m x hx => ?_, fun m x hx => ?_, by simp, by simp, ⟨e, rfl, ?_⟩⟩
    · have := get_lt hx
      simp only [List.length_reverse] at this
      have hne : m ≠ older.length := by omega
      simp only [hne, if_false, hx]; rfl
    · have := get_lt hx
      simp only [List.length_reverse] at this
      have hne : m ≠ older.length := by omega
      simp only [hne, if_false, hx]; rfl
    · rw [← hfull]; simpa using hk
  | o :: l, k, rest, e, h, clk, older, oc, hl, hr, hlen, hoc, hle, hws, hk => by
    cases rest with
    | nil => simp at hlen
    | cons ao rest =>
      have ho : ops[k]? = some o := by simpa using (hl 0).symm
      have hao : aos[k]? = some ao := by simpa using (hr 0).symm
      obtain ⟨ao', h1, hd⟩ := hdst k o ho
      rw [hao] at h1
      cases h1
      have hl' : ∀ i, l[i]? = ops[(k + 1) + i]? := fun i => by have := hl (i + 1); simp only [List.getElem?_cons_succ] at this; rw [this]; congr 1; omega
      have hr' : ∀ i, rest[i]? = aos[(k + 1) + i]? := fun i => by have := hr (i + 1); simp only [List.getElem?_cons_succ] at this; rw [this]; congr 1; omega
      have hlen' : l.length = rest.length := by simpa using hlen
      simp only [List.zipIdx_cons, List.map_cons, drawL] at hk
      have hsort := writers_sorted aos
      unfold drawOk at hok
      simp only [Bool.and_eq_true, List.all_eq_true] at hok
      cases hwr : ao.op.writes with
      | true =>
        rw [hwr] at hk
        simp only at hk
        obtain ⟨hgn, ⟨x, h', clk'⟩, hst, hk2⟩ := hk
        have hkm : k ∈ writersOf aos := (writers_mem aos k).2 ⟨ao, hao, hwr⟩
        obtain ⟨m, hm⟩ := List.getElem?_of_mem hkm
        have hmo : m = older.length := by
          have h1 := hws m k hm
          have h2 : ¬ m < older.length := fun hh => Nat.lt_irrefl k (h1.2 hh)
          rcases Nat.lt_or_ge older.length m with h3 | h3
          · exfalso
            have hlt : older.length < (writersOf aos).length := by have := get_lt hm; omega
            have hx : (writersOf aos)[older.length]? = some ((writersOf aos)[older.length]'hlt) := List.getElem?_eq_getElem hlt
            have h4 := sorted_get hsort hx hm h3
            have := (hws _ _ hx).1 h4
            omega
          · omega
        subst hmo
        obtain ⟨H, C, hH, hC, hHe, hCe, hlex⟩ := lexE_of (K := K) (by unfold drawOk; simp only [Bool.and_eq_true, List.all_eq_true]; exact hok) hdst l (k + 1) rest (putE e ao.dst x) h' clk' (h :: older) (clk :: oc) hl' hr' hlen' (by simp [hoc]) (by have := get_lt hm; simp; omega) (fun m v hv => by
          have h1 := hws m v hv
          simp only [List.length_cons]
          constructor
          · intro hlt
            rcases Nat.lt_or_ge v k with h2 | h2
            · have := h1.1 h2; omega
            · have hvk : v = k := by omega
              subst hvk
              rcases Nat.lt_trichotomy m older.length with h3 | h3 | h3
              · omega
              · omega
              · have := sorted_get hsort hm hv h3; omega
          · intro hlt
            rcases Nat.lt_or_ge m older.length with h3 | h3
            · have := h1.2 h3; omega
            · have : m = older.length := by omega
              subst this
              rw [hm] at hv
              cases hv
              omega) hk2
        refine ⟨H, C, fun m x hx => hH m x ?_, fun m x hx => hC m x ?_, ?_, ?_, ?_⟩
        · simp only [List.reverse_cons]
          rw [List.getElem?_append_left (by have := get_lt hx; simpa using this)]
          exact hx
        · simp only [List.reverse_cons]
          rw [List.getElem?_append_left (by have := get_lt hx; simpa using this)]
          exact hx
        · exact hH older.length h (by simp)
        · refine hC older.length clk ?_
          rw [← hoc]; simp
        · refine ⟨x, ⟨ao, hao, ?_⟩, ?_⟩
          · simp only [hwr]
            refine ⟨hgn, older.length, hm, ?_⟩
            have e1 : H older.length = h := hH older.length h (by simp)
            have e2 : C older.length = clk := by refine hC older.length clk ?_; rw [← hoc]; simp
            simp only [List.length_cons] at hHe hCe
            rw [e1, e2, hHe, hCe]
            exact hst
          · rw [← hd, ← get_put]
            exact hlex
      | false =>
        rw [hwr] at hk
        simp only at hk
        obtain ⟨x, hq1, hq2, hk2⟩ := QF_of hwr hk
        have hkm : k ∉ writersOf aos := fun hmem => by
          obtain ⟨ao2, h1, h2⟩ := (writers_mem aos k).1 hmem
          rw [hao] at h1
          cases h1
          rw [hwr] at h2
          cases h2
        obtain ⟨H, C, hH, hC, hHe, hCe, hlex⟩ := lexE_of (K := K) (by unfold drawOk; simp only [Bool.and_eq_true, List.all_eq_true]; exact hok) hdst l (k + 1) rest (putE e ao.dst x) h clk older oc hl' hr' hlen' hoc hle (fun m v hv => by
          have h1 := hws m v hv
          have : v ≠ k := fun he => hkm (by rw [← he]; exact List.mem_of_getElem? hv)
          constructor
          · intro hlt; exact h1.1 (by omega)
          · intro hlt; have := h1.2 hlt; omega) hk2
        refine ⟨H, C, hH, hC, hHe, hCe, x, ⟨ao, hao, ?_⟩, ?_⟩
        · simp only [hwr]
          intro j hlo hhi
          cases hfr : ao.op.free with
          | true => exact QF_free hfr h _ hq1
          | false =>
            have hall := hok.2 (ao, k) (by rw [List.mem_zipIdx_iff_getElem?]; exact hao)
            simp only [hwr, Bool.false_eq_true, if_false, hfr, Bool.false_or, decide_eq_true_eq] at hall
            have hcnt : ((writersOf aos).filter (· < k)).length = older.length := count_prefix older.length hle fun m v hv => by
              have := hws m v hv
              simpa using this
            rw [hcnt] at hall
            rcases Nat.lt_or_ge j older.length with hj | hj
            · have hx : older.reverse[j]? = some (older.reverse[j]'(by simpa using hj)) := List.getElem?_eq_getElem _
              rw [hH j _ hx]
              refine hq2 hfr _ ?_
              rw [List.getElem_reverse]
              have hidx : older.length - 1 - j < older.length - lowOf ops (writersOf aos) k := by omega
              have hx2 : (older.take (older.length - lowOf ops (writersOf aos) k))[older.length - 1 - j]? = some (older[older.length - 1 - j]'(by omega)) := by
                rw [List.getElem?_take, if_pos hidx, List.getElem?_eq_getElem]
              exact List.mem_of_getElem? hx2
            · have : j = older.length := by omega
              subst this
              rw [hHe]
              exact hq1
        · rw [← hd, ← get_put]
          exact hlex

end
end Go.Ab
