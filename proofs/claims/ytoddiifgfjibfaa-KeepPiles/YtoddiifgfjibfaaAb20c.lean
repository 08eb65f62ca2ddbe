/-
  A region whose order is drawn, with operations that write among the others: its soundness.
-/
import Derived.Test.YtoddiifgfjibfaaAb20b
namespace Go.Ab
open Go.RowKit

section
variable {P : Program} {ops : Array Oper} {cx : Cx} {w : World} {a : Act}

theorem resOpers_get {nt : Nat} {ops : Array Oper} : ∀ (l : List Oper) (aos : List AO), resOpers P nt ops l = some aos → ∀ (i : Nat) (o : Oper), l[i]? = some o → ∃ ao, aos[i]? = some ao ∧ resOper P nt ops o = some ao
  | [], aos, _, i, o, h => by simp at h
  | o' :: l, aos, hres, i, o, h => by
    simp only [resOpers] at hres
    obtain ⟨ao, hao, hres1⟩ := bind_some hres
    obtain ⟨rest, hrest, rfl⟩ := map_some hres1
    cases i with
    | zero => simp at h; subst h; exact ⟨ao, rfl, hao⟩
    | succ i => exact resOpers_get l rest hrest i o (by simpa using h)

theorem resOpers_len {nt : Nat} {ops : Array Oper} : ∀ (l : List Oper) (m : List AO), resOpers P nt ops l = some m → l.length = m.length
  | [], m, h => by simp only [resOpers, Option.some.injEq] at h; subst h; rfl
  | o :: l, m, h => by
    simp only [resOpers] at h
    obtain ⟨ao, _, h1⟩ := bind_some h
    obtain ⟨rest, hr, rfl⟩ := map_some h1
    simp [resOpers_len l rest hr]

theorem stepW_congr {o : Oper} {op : AOp} {ρ ρ' : Nat → AV} {d : Option Nat} {h : Heap} {clk : Nat} (hop : resOp P o.op = some op) (hρ : ∀ t, Operand.tmp t ∈ o.op.operands.toList → ρ t = ρ' t) : stepW op d ρ h clk = stepW op d ρ' h clk := by
  obtain ⟨dst, oop, type, pos, after, guard⟩ := o
  simp only at hop hρ
  cases oop <;> simp only [resOp] at hop <;> try (cases hop; done)
  case alloc t => obtain ⟨zs, _, rfl⟩ := map_some hop; rfl
  case store t y v =>
    obtain ⟨n, hn, hop1⟩ := bind_some hop
    obtain ⟨p, hp, hop2⟩ := bind_some hop1
    obtain ⟨q, hq, rfl⟩ := map_some hop2
    simp only [stepW, ev_congr hp fun t ht => hρ t (by simp [Op.operands, ht]), ev_congr hq fun t ht => hρ t (by simp [Op.operands, ht])]
  case makeSlice t l c =>
    split at hop
    · split at hop
      · split at hop
        · obtain ⟨zs, _, hop1⟩ := bind_some hop
          split at hop1
          · obtain ⟨p, hp, hop2⟩ := bind_some hop1
            obtain ⟨q, hq, rfl⟩ := map_some hop2
            simp only [stepW, ev_congr hp fun t ht => hρ t (by simp [Op.operands, ht]), ev_congr hq fun t ht => hρ t (by simp [Op.operands, ht])]
          · cases hop1
        · cases hop
      · cases hop
    · cases hop
  case call c =>
    obtain ⟨callee, cargs, ats⟩ := c
    cases callee with
    | invoke r m => cases hop
    | value fv =>
      cases fv <;> simp only at hop <;> try (cases hop; done)
      obtain ⟨l, hl, rfl⟩ := map_some hop
      rfl
    | builtin b =>
      simp only at hop
      split at hop
      · split at hop
        · obtain ⟨p, _, rfl⟩ := map_some hop; rfl
        · obtain ⟨p, _, rfl⟩ := map_some hop; rfl
        · cases hop; rfl
        · cases hop
      · obtain ⟨l, _, hop1⟩ := bind_some hop; split at hop1 <;> cases hop1; rfl
      · obtain ⟨l, _, hop1⟩ := bind_some hop; split at hop1 <;> cases hop1; rfl
      · rename_i y1 y2 t u hargs hts
        split at hop
        · split at hop
          · split at hop
            · split at hop
              · obtain ⟨p, hp, hop1⟩ := bind_some hop
                obtain ⟨q, hq, rfl⟩ := map_some hop1
                simp only [stepW, ev_congr hp fun t ht => hρ t (by simp [Op.operands, Call.operands, hargs, ht]), ev_congr hq fun t ht => hρ t (by simp [Op.operands, Call.operands, hargs, ht])]
              · cases hop
            · cases hop
          · cases hop
        · cases hop
      · split at hop
        · split at hop
          · obtain ⟨z, _, hop0⟩ := bind_some hop
            split at hop0
            · obtain ⟨p, _, hop1⟩ := bind_some hop0
              obtain ⟨q, _, rfl⟩ := map_some hop1
              rfl
            · cases hop0
          · cases hop
        · cases hop
      · cases hop
  all_goals
    have : stepW op d ρ h clk = none ∧ stepW op d ρ' h clk = none := by
      revert hop
      repeat' split
      all_goals (intro hop; simp [Option.bind_eq_some_iff] at hop)
      all_goals first
        | (subst hop; exact ⟨rfl, rfl⟩)
        | (obtain ⟨_, _, rfl⟩ := hop; exact ⟨rfl, rfl⟩)
        | (obtain ⟨_, _, _, rfl⟩ := hop; exact ⟨rfl, rfl⟩)
        | (obtain ⟨_, _, _, _, rfl⟩ := hop; exact ⟨rfl, rfl⟩)
        | (obtain ⟨_, _, _, _, _, rfl⟩ := hop; exact ⟨rfl, rfl⟩)
        | (obtain ⟨_, _, _, _, _, _, rfl⟩ := hop; exact ⟨rfl, rfl⟩)
        | (obtain ⟨_, _, _, _, _, _, _, rfl⟩ := hop; exact ⟨rfl, rfl⟩)
        | (obtain ⟨_, _, _, _, _, _, _, _, rfl⟩ := hop; exact ⟨rfl, rfl⟩)
        | (obtain ⟨_, _, _, _, _, _, _, _, _, rfl⟩ := hop; exact ⟨rfl, rfl⟩)
        | (obtain ⟨_, _, _, _, _, _, _, _, _, _, _, rfl⟩ := hop; exact ⟨rfl, rfl⟩)
    rw [this.1, this.2]

/-- how many writing operations are done -/
def cnt (ws : List Nat) (listed : Array Bool) : Nat := (ws.filter fun v => listed.getD v false).length

theorem filter_le {f g : Nat → Bool} : ∀ (ws : List Nat), (∀ v ∈ ws, f v = true → g v = true) → (ws.filter f).length ≤ (ws.filter g).length
  | [], _ => Nat.le_refl _
  | x :: ws, h => by
    have ih := filter_le ws fun v hv => h v (by simp [hv])
    simp only [List.filter_cons]
    by_cases hf : f x = true
    · rw [if_pos hf, if_pos (h x (by simp) hf)]
      simp only [List.length_cons]
      omega
    · rw [if_neg hf]
      split
      · simp only [List.length_cons]; omega
      · exact ih

theorem drawK_sound {nt id : Nat} {aos : List AO} {st : St} {K : St → Prop} {Q : Exit → Act → World → Prop} (hnt : nt = cx.nt) (hm : P.follows .mixedOrders = true) (hB : drawOk ops aos = true)
    (hres : resOpers P nt ops ops.toList = some aos) (hk : drawK P (drawOf ops aos) st K) (hr : Rel cx st a w) (hQ : ∀ st' a' w', K st' → Rel cx st' a' w' → Q .normal a' w') : (Code.region id ops true).wp P Q a w := by
  have hget' : ∀ i o, ops[i]? = some o → ∃ ao, aos[i]? = some ao ∧ resOper P nt ops o = some ao := fun i o ho => resOpers_get ops.toList aos hres i o (by simpa using ho)
  have hlen := resOpers_len ops.toList aos hres
  obtain ⟨S, M, hrf⟩ := hr
  have hok := hB
  unfold drawOk at hB
  simp only [Bool.and_eq_true, List.all_eq_true] at hB
  obtain ⟨⟨hlexB, hch⟩, hall⟩ := hB
  have hsort := writers_sorted aos
  obtain ⟨H, C, _, _, hH0, hC0, hlex⟩ := lexE_of (P := P) (ops := ops) (aos := aos) (K := K) hok (fun i o ho => by
    obtain ⟨ao, h1, h2⟩ := hget' i o ho
    obtain ⟨op, g, _, _, rfl, _⟩ := resOper_spec h2
    exact ⟨_, h1, rfl⟩) ops.toList 0 aos st.env st.heap st.clk [] [] (fun i => by simp) (fun i => by simp) hlen rfl (Nat.zero_le _) (fun m v _ => by simp) hk
  simp only [List.length_nil] at hH0 hC0
  generalize hws : writersOf aos = ws at *
  -- the writers that are done are the first ones
  have prefixOf : ∀ (listed : Array Bool), Clo .any ops listed → ∀ (p i : Nat), ws[p]? = some i → (i ∈ Region.ready .any ops listed) → ∀ m v, ws[m]? = some v → (listed.getD v false = true ↔ m < p) := by
    intro listed hc p i hp hi m v hv
    have hun := (mem_ready.1 hi).1
    constructor
    · intro hl
      rcases Nat.lt_or_ge m p with h | h
      · exact h
      · exfalso
        have hp' : ws[p + (m - p)]? = some v := by rw [show p + (m - p) = m by omega]; exact hv
        have := chain_listed hch hc (m - p) p i v hp hp' hl
        rw [getD_both hun] at this
        cases this
    · intro hmp
      have hp1 : ws[(p - 1) + 1]? = some i := by rw [show p - 1 + 1 = p by omega]; exact hp
      have hx : ws[p - 1]? = some (ws[p - 1]'(by have := get_lt hp; omega)) := List.getElem?_eq_getElem _
      obtain ⟨o, ho, e, he, hb, hon⟩ := chained_edge ws (p - 1) _ i hch hx hp1
      obtain ⟨_, o', ho', hall'⟩ := mem_ready.1 hi
      rw [ho] at ho'
      cases ho'
      have hl := hall' e he hb
      rw [hon] at hl
      have hx' : ws[m + (p - 1 - m)]? = some (ws[p - 1]'(by have := get_lt hp; omega)) := by rw [show m + (p - 1 - m) = p - 1 by omega]; exact hx
      exact chain_listed hch hc (p - 1 - m) m v _ hv hx' hl
  refine wp_region_drawn (F := FD P ops aos H C) (R := fun listed ρ a w => RelR cx (C (cnt ws listed)) (H (cnt ws listed)) ρ a w) (Q := fun ρ => ∃ e, ρ = Env.get e ∧ K ⟨e, H ws.length, C ws.length⟩) (ρ := st.env.get) hm hlexB ?_ ?_ ?_ ?_ hlex
  · -- each value hangs on what the operation looks at
    intro i o ho ρ ρ' hρ x ⟨ao, hao, hq⟩
    obtain ⟨ao', h1, h2⟩ := hget' i o ho
    rw [hao] at h1
    cases h1
    refine ⟨ao, hao, ?_⟩
    obtain ⟨op, g, hop, hg, rfl, _⟩ := resOper_spec h2
    have hops : ∀ t, Operand.tmp t ∈ o.op.operands.toList → ρ t = ρ' t := fun t ht => hρ t (by
      unfold Oper.looksAt
      exact List.mem_append_left _ (List.mem_filterMap.2 ⟨.tmp t, ht, rfl⟩))
    have quiet : ∀ h, QF P h ⟨o.dst, g, op⟩ ρ x → QF P h ⟨o.dst, g, op⟩ ρ' x := by
      intro h hq
      unfold QF at hq ⊢
      cases g with
      | none => exact (QOp_congr hop hops).1 hq
      | some tw =>
        obtain ⟨t, want⟩ := tw
        have ht : ρ t = ρ' t := hρ t (by
          unfold resGuard at hg
          split at hg
          · cases hg
          · rename_i j w0 hgo
            obtain ⟨d, hd, he⟩ := map_some hg
            cases he
            unfold Oper.looksAt
            rw [hgo]
            exact List.mem_append_right _ (by simp [hd]))
        simp only at hq ⊢
        rw [ht, QOp_congr hop hops] at hq
        exact hq
    cases hwr : op.writes with
    | true =>
      simp only [hwr] at hq ⊢
      obtain ⟨h3, p, h4, h5⟩ := hq
      exact ⟨h3, p, h4, by rw [← stepW_congr hop hops]; exact h5⟩
    | false =>
      simp only [hwr] at hq ⊢
      exact fun j h3 h4 => quiet _ (hq j h3 h4)
  · intro i o ho listed ρ x a w K' hc hi ⟨ao, hao, hq⟩ hr hK'
    obtain ⟨ao', h1, h2⟩ := hget' i o ho
    rw [hao] at h1
    cases h1
    have hun := (mem_ready.1 hi).1
    have hisz : i < listed.size := by rw [hc.size]; exact (Array.getElem?_eq_some_iff.1 ho).1
    cases hwr : ao.op.writes with
    | true =>
      simp only [hwr] at hq
      obtain ⟨hgn, p, hp, hst⟩ := hq
      rw [hws] at hp
      have hpre := prefixOf listed hc p i hp hi
      have hple := get_lt hp
      have hcnt : cnt ws listed = p := count_prefix p (by omega) fun m v hv => hpre m v hv
      have hcnt' : cnt ws (listed.setIfInBounds i true) = p + 1 := count_prefix (p + 1) (by omega) fun m v hv => by
        by_cases hvi : i = v
        · subst hvi
          have hmp : m = p := by
            rcases Nat.lt_trichotomy m p with h | h | h
            · have := sorted_get hsort hv hp h; omega
            · exact h
            · have := sorted_get hsort hp hv h; omega
          subst hmp
          simp [hisz]
        · rw [getD_set_ne false hvi, hpre m v hv]
          constructor
          · intro h; omega
          · intro h
            have : m ≠ p := by intro h'; subst h'; rw [hp] at hv; cases hv; exact hvi rfl
            omega
      rw [hcnt] at hr
      obtain ⟨S, M, hr⟩ := hr
      subst hnt
      obtain ⟨op, g, hop, hg, rfl, hd⟩ := resOper_spec h2
      simp only at hgn hst
      subst hgn
      obtain ⟨v, w', S', M', h3, h4, h5⟩ := stepW_sound hop hr hst
      have hfin : K' (a.put o.dst v) w' := hK' _ _ (by
        rw [hcnt']
        exact ⟨S', M', h4.put hd h5⟩)
      unfold wpOp
      simp only [ho, guard_none hg a, if_true]
      refine .inl ?_
      rcases h3 with h3 | ⟨h3, rfl⟩
      · exact upon_of h3 hfin
      · unfold Oper.wp
        rw [h3, Oper.upon_skip]
        exact hfin
    | false =>
      simp only [hwr] at hq
      rw [hws] at hq
      have hnm : i ∉ ws := fun hmem => by
        rw [← hws] at hmem
        obtain ⟨ao2, h3, h4⟩ := (writers_mem aos i).1 hmem
        rw [hao] at h3
        cases h3
        rw [hwr] at h4
        cases h4
      have hlo : lowOf ops ws i ≤ cnt ws listed := filter_le ws fun v _ hv => prec_listed hc _ v i (.inr hi) hv
      have hhi : cnt ws listed ≤ highOf ops ws i := filter_le ws fun v _ hv => by
        cases hpr : precedes ops ops.size i v with
        | false => rfl
        | true =>
          have := prec_listed hc _ i v (.inl hv) hpr
          rw [getD_both hun] at this
          cases this
      have hcnt' : cnt ws (listed.setIfInBounds i true) = cnt ws listed := by
        unfold cnt
        congr 1
        refine List.filter_congr fun v hv => ?_
        have : i ≠ v := fun he => hnm (by rw [he]; exact hv)
        rw [getD_set_ne false this]
      refine wpOp_of_QF ho hnt h2 (hq _ hlo hhi) hr fun a' w' hr' => hK' a' w' ?_
      rw [hcnt']
      exact hr'
  · intro listed ρ a w hc hready hr ⟨e, he, hK⟩
    subst he
    have hfull : cnt ws listed = ws.length := count_prefix ws.length (Nat.le_refl _) fun m v hv => by
      have hvm : v ∈ writersOf aos := by rw [hws]; exact List.mem_of_getElem? hv
      obtain ⟨ao, h1, _⟩ := (writers_mem aos v).1 hvm
      have hvl : v < ops.size := by have := get_lt h1; rw [← hlen] at this; simpa using this
      have := all_listed hlexB hready hc.size v hvl
      simp [this, get_lt hv]
    rw [hfull] at hr
    obtain ⟨S, M, hr⟩ := hr
    exact hQ _ a w hK ⟨S, M, hr⟩
  · have h0 : cnt ws (Array.replicate ops.size false) = 0 := count_prefix 0 (Nat.zero_le _) fun m v hv => by
      rw [getD_replicate_false]; simp
    rw [h0, hH0, hC0]
    exact RelR.drawn ⟨S, M, hrf⟩

end
end Go.Ab
