/-
  Operations that make or change boxes: what they make of the abstract state; append.
-/
import Derived.Test.YtoddiifgfjibfaaAb14
namespace Go.Ab
open Go.RowKit

def rowZ (z : Nat) (els : List (List AV)) : Bool := els.head?.all fun r => r.length = z

def rowOf (h : Heap) (z : Nat) : AV → Option (List (List AV))
  | .sl els _ => if rowZ z els then some els else none
  | .bs id g z' off n => (boxAt h id g z').bind fun bx => if z' = z ∧ bx.kind ≠ .str ∧ off + n ≤ bx.els.length then some ((bx.els.drop off).take n) else none
  | _ => none

def appAV (z : Nat) (d : Option Nat) (h : Heap) (clk : Nat) (x y : AV) : Option (AV × Heap × Nat) :=
  (rowOf h z y).bind fun ys =>
  match x with
  | .sl els f =>
    d.bind fun d =>
      if (f = .nl ∨ f = .fu) ∧ rowZ z els = true ∧ (els.isEmpty = true ∨ ys.isEmpty = false) ∧ els.length + ys.length ≤ 4294967296 then
        some (.bs (.loc d) clk z 0 (els.length + ys.length), (.loc d, ⟨clk, .own, z, els ++ ys⟩) :: h, clk + 1)
      else none
  | .bs id g z' off n =>
    (boxAt h id g z').bind fun bx =>
      if z' = z ∧ off = 0 ∧ bx.kind ≠ .str ∧ n ≤ bx.els.length ∧ (bx.kind = .sh → n = bx.els.length) ∧ n + ys.length ≤ 4294967296 then
        some (.bs id clk z 0 (n + ys.length), (id, ⟨clk, bx.kind, z, bx.els.take n ++ ys⟩) :: h, clk + 1)
      else none
  | _ => none

section
variable {P : Program} {cx : Cx} {w w' : World} {S S' : Nat → Nat → Prop} {M : Map} {clk : Nat} {h : Heap} {ρ : Nat → AV} {a : Act}

/-- a slice's length and cells -/
def SlOk (w : World) (S : Nat → Nat → Prop) (z : Nat) (v : Value) (els : List (List AV)) : Prop :=
  ∃ (b : Option Addr) (cap : Nat) (vs : List Value), v = .slice b els.length cap ∧ Rw w S z vs els ∧ ∀ j u, vs[j]? = some u → ∃ ad, b = some ad ∧ w.cell? (ad.add j) = some u

theorem Rw.drop {z : Nat} {vs : List Value} {els : List (List AV)} (h1 : Rw w S z vs els) (n : Nat) : Rw w S z (vs.drop (n * z)) (els.drop n) := by
  refine ⟨?_, fun r hr => h1.row r (List.mem_of_mem_drop hr), fun u hu => h1.one u (List.mem_of_mem_drop hu), fun i r j c hi hj => ?_⟩
  · rw [List.length_drop, List.length_drop, h1.len, Nat.sub_mul]
  · rw [List.getElem?_drop] at hi
    obtain ⟨u, hu, hC⟩ := h1.cell _ r j c hi hj
    refine ⟨u, ?_, hC⟩
    rw [List.getElem?_drop, ← hu, Nat.add_mul, Nat.add_assoc]

theorem rowZ_spec {z : Nat} {els : List (List AV)} (hz : rowZ z els = true) : ∀ r ∈ els.head?, r.length = z := by
  intro r hr
  unfold rowZ at hz
  rw [hr] at hz
  simpa using hz

theorem rowOf_ok {v : Value} {x : AV} {z : Nat} {els : List (List AV)} (hh : HeapRel w S M clk h) (hv : C w S M clk v x) (hr : rowOf h z x = some els) : SlOk w S z v els := by
  cases x <;> simp only [rowOf] at hr <;> try cases hr
  case sl es f =>
    split at hr <;> cases hr
    rename_i hz
    obtain ⟨b, cap, vs, hv, _, _, _, _, _, _, hrw, hc⟩ := hv.inv_sl.rows (rowZ_spec hz)
    exact ⟨b, cap, vs, hv, hrw, hc⟩
  case bs id g z' off n =>
    obtain ⟨bx, hb, hr1⟩ := bind_some hr
    split at hr1 <;> cases hr1
    rename_i hc
    obtain ⟨rfl, hk, hle⟩ := hc
    obtain ⟨hlk, hg, hz⟩ := boxAt_some hb
    obtain ⟨_, hbs, _⟩ := hv.inv_bs
    have hbox := hh.box id bx hlk
    obtain ⟨m, hm⟩ : ∃ m, M bx.gen = some m := let ⟨_, _, m, hm, _⟩ := hbox; ⟨m, hm⟩
    rw [hg] at hm
    unfold BsOk at hbs
    rw [hm] at hbs
    have hlen : ((bx.els.drop off).take n).length = n := by simp; omega
    cases m with
    | none =>
      obtain ⟨rfl, rfl, ad, rfl, _⟩ := hbs
      exact ⟨ad, 0, [], by simp, by simpa using Rw.nil, fun j u hu => by simp at hu⟩
    | some k =>
      obtain ⟨arr, ty, cap, hblk, rfl, hnc, hcm, harr⟩ := hbs
      obtain ⟨arr', e', hh', hsz, hrw⟩ := hbox.rows (by rw [hg]; exact hm) hk
      rw [hblk] at hh'
      cases hh'
      rw [hz] at hrw hsz
      refine ⟨some ⟨k, off * z', none⟩, cap, _, by rw [hlen], (hrw.drop off).take n, fun j u hu => ⟨_, rfl, ?_⟩⟩
      rw [List.getElem?_take] at hu
      split at hu
      · rw [List.getElem?_drop, List.getElem?_take] at hu
        split at hu
        · rw [add_addr, cell_of_row w k _ arr ty (0, 0) hblk]; simpa using hu
        · cases hu
      · cases hu

theorem below_alloc (w : World) (o : Obj) : Below w.heap.size w (w.alloc o) := (Below.refl _ _).alloc (Nat.le_refl _) o
theorem below_drew_alloc (w : World) (o : Obj) : Below w.heap.size w (w.drew.alloc o) := ((Below.refl _ _).drew).alloc (Nat.le_refl _) o

/-- What an operation comes to that makes or changes a box. -/
def Steps1 (P : Program) (cx : Cx) (o : Oper) (ρ : Nat → AV) (a : Act) (w : World) (x : AV) (h' : Heap) (clk' : Nat) : Prop :=
  ∃ v w' S' M', ((execOp a.eval o).run P w = .ok (.value v) w' ∨ ((execOp a.eval o).run P w = .ok .skip w' ∧ v = undef)) ∧ RelF cx S' M' clk' h' ρ a w' ∧ C w' S' M' clk' v x

theorem take_zeros {vs us : List Value} {n : Nat} (hl : vs.length = n) : ((vs ++ us).take n) = vs := by
  rw [← hl, List.take_left]

/-- a new block with these rows in front -/
theorem new_row (hr : RelF cx S M clk h ρ a w) {id : BId} {bx : Box} {w1 : World} {vs us : List Value} {e : TypeId} {cap : Nat} (hw1 : w1.heap = w.heap ∧ w1.os = w.os ∧ w1.tape = w.tape ∧ w1.output = w.output) (hg : bx.gen = clk)
    (hrw : Rw w S bx.z vs bx.els) (hcap : bx.els.length ≤ cap) (hmax : cap ≤ maxLen) (hsz : vs.length + us.length = cap * bx.z) :
    ∃ M', RelF cx S M' (clk + 1) ((id, bx) :: h) ρ a (w1.alloc (.cells (vs ++ us).toArray e)) ∧ C (w1.alloc (.cells (vs ++ us).toArray e)) S M' (clk + 1) (.slice (some ⟨w.heap.size, 0, none⟩) bx.els.length cap) (.bs id clk bx.z 0 bx.els.length) := by
  have hbl : Below w.heap.size w (w1.alloc (.cells (vs ++ us).toArray e)) := by
    refine ⟨hw1.2.1, hw1.2.2.1, hw1.2.2.2, ?_, fun k hk => ?_⟩
    · simp only [World.alloc, Array.size_push, hw1.1]; omega
    · rw [heap_alloc_old w1 _ k (by rw [hw1.1]; exact hk), hw1.1]
  have hnew : (w1.alloc (.cells (vs ++ us).toArray e)).heap[w.heap.size]? = some (.cells (vs ++ us).toArray e (0, 0)) := by
    have := heap_alloc_new w1 (.cells (vs ++ us).toArray e)
    rw [hw1.1] at this
    exact this
  have hx : ∀ k o u, S k o → w.cell? ⟨k, o, none⟩ = some u → (w1.alloc (.cells (vs ++ us).toArray e)).cell? ⟨k, o, none⟩ = some u := by
    intro k o u hs hc
    rw [hbl.cell (p := ⟨k, o, none⟩) (hr.wr.Slt k o hs)]; exact hc
  have hlen := hrw.len
  refine ⟨setM M ((id, bx) :: h) bx.gen (some w.heap.size), hr.set (k' := some w.heap.size) (Nat.le_succ _) (.inl hg) (fun hlt => by omega) (Touch.of_below hbl) (fun k hk => ?_) ?_, ?_⟩
  · cases hk
    refine .inl ⟨Nat.le_refl _, ?_⟩
    simp only [World.alloc, Array.size_push, hw1.1]; omega
  · refine BoxOk.of_rows (by omega) (setM_self _ _ _ _) hnew ?_ (by simp; omega) (fun o hs => ?_)
    · have : (vs ++ us).toArray.toList.take (bx.els.length * bx.z) = vs := by simp only []; exact take_zeros hlen
      rw [this]
      exact hrw.mono (fun _ _ hs => hs) hx
    · have := hr.wr.Slt _ _ hs; omega
  · refine .bs _ _ _ _ _ _ (by omega) ?_ rfl
    unfold BsOk
    rw [← hg, setM_self]
    exact ⟨_, e, cap, hnew, by simp, hcap, hmax, by simp; omega⟩

theorem grown_bound {n : Nat} {w : World} {old : Nat} {e : TypeId} (hn : n ≤ 4294967296) : n ≤ grownCap w n old e ∧ grownCap w n old e ≤ maxLen :=
  ⟨grownCap_ge w n old e, grownCap_le_maxLen w n old e (by simp only [maxLen]; omega)⟩

theorem sound_app {t e ty : TypeId} {inf : TypeInfo} {z : Nat} {d : Option Nat} {v u : Value} {x y r : AV} {h' : Heap} {clk' : Nat} {zv : Value} (hr : RelF cx S M clk h ρ a w) (ht : P.underlying t = some (.slice e)) (hi : P.info? e = some inf)
    (hz0 : inf.size ≠ 0) (hby : inf.bytes ≤ 32768) (hzv : inf.zero = some zv) (hzs : zv.cells.size = inf.size) (hz : inf.size = z)
    (hv : C w S M clk v x) (hu : C w S M clk u y) (hs : appAV z d h clk x y = some (r, h', clk')) :
    ∃ v' w' S' M', (Builtin.append_ #[t, t] ty #[v, u]).run P w = .ok v' w' ∧ RelF cx S' M' clk' h' ρ a w' ∧ C w' S' M' clk' v' r := by
  subst hz
  unfold appAV at hs
  obtain ⟨ys, hys, hs1⟩ := bind_some hs
  obtain ⟨yb, ycap, news, rfl, hnrw, hnc⟩ := rowOf_ok hr.wr.heap hu hys
  -- the appended cells' address
  have hyb : ys.length ≠ 0 → ∃ ad, yb = some ad ∧ ∀ j q, news[j]? = some q → w.cell? (ad.add j) = some q := by
    intro hne
    have h0 : 0 < news.length := by rw [hnrw.len]; exact Nat.mul_pos (Nat.pos_of_ne_zero hne) (Nat.pos_of_ne_zero hz0)
    obtain ⟨ad, had, _⟩ := hnc 0 _ (List.getElem?_eq_getElem h0)
    refine ⟨ad, had, fun j q hq => ?_⟩
    obtain ⟨ad', had', hc⟩ := hnc j q hq
    rw [had] at had'
    cases had'
    exact hc
  have bytes : ∀ n, n ≤ 4294967296 → n * inf.bytes ≤ 140737488355328 := fun n hn => by
    have := Nat.mul_le_mul hn hby
    omega
  -- growth: the old cells, the new ones, a new block
  have grow : ∀ (b : Addr) (n cap : Nat) (olds : List Value) (els : List (List AV)) (id : BId) (kind : Kind), els.length = n → kind ≠ .str → Rw w S inf.size olds els → (∀ j q, olds[j]? = some q → w.cell? (b.add j) = some q) → cap < n + ys.length → n + ys.length ≤ 4294967296 → ys.length ≠ 0 →
      ∃ v' w' S' M', (Builtin.append_ #[t, t] ty #[.slice (some b) n cap, .slice yb ys.length ycap]).run P w = .ok v' w' ∧ RelF cx S' M' (clk + 1) ((id, ⟨clk, kind, inf.size, els ++ ys⟩) :: h) ρ a w' ∧ C w' S' M' (clk + 1) v' (.bs id clk inf.size 0 (n + ys.length)) := by
    intro b n cap olds els id kind hn hkind hrw hoc hcap hbd hm
    obtain ⟨ad, rfl, hnews⟩ := hyb hm
    have hrun := run_append_grow (P := P) w t ty e inf zv ht hi hzv b n cap olds (by rw [hrw.len, hn]) hoc ad ys.length ycap news hnrw.len hnews hcap (by omega) (growslice_fits hcap (bytes _ hbd))
    obtain ⟨g1, g2⟩ := grown_bound (w := w) (old := cap) (e := e) hbd
    have hz1 : (Builtin.zeroCells zv.cells (grownCap w (n + ys.length) cap e - (n + ys.length))).size = (grownCap w (n + ys.length) cap e - (n + ys.length)) * inf.size := by rw [size_zeroCells, hzs]
    obtain ⟨M', h1, h2⟩ := new_row hr (id := id) (bx := ⟨clk, kind, inf.size, els ++ ys⟩) (w1 := w.drew) (vs := olds ++ news) (us := (Builtin.zeroCells zv.cells (grownCap w (n + ys.length) cap e - (n + ys.length))).toList) (e := e) (cap := grownCap w (n + ys.length) cap e)
      ⟨rfl, rfl, rfl, rfl⟩ rfl (hrw.append hnrw) (by simp [hn]; exact g1) g2 (by
        have hzl : (Builtin.zeroCells zv.cells (grownCap w (n + ys.length) cap e - (n + ys.length))).toList.length = (grownCap w (n + ys.length) cap e - (n + ys.length)) * inf.size := by simpa using hz1
        rw [List.length_append, hrw.len, hnrw.len, hzl, hn, ← Nat.add_mul, ← Nat.add_mul]
        congr 1
        omega)
    refine ⟨_, _, S, M', hrun, ?_, ?_⟩
    · have e1 : olds.toArray ++ news.toArray ++ Builtin.zeroCells zv.cells (grownCap w (n + ys.length) cap e - (n + ys.length)) = ((olds ++ news) ++ (Builtin.zeroCells zv.cells (grownCap w (n + ys.length) cap e - (n + ys.length))).toList).toArray := by
        apply Array.ext'; simp
      rw [e1]
      exact h1
    · have e1 : olds.toArray ++ news.toArray ++ Builtin.zeroCells zv.cells (grownCap w (n + ys.length) cap e - (n + ys.length)) = ((olds ++ news) ++ (Builtin.zeroCells zv.cells (grownCap w (n + ys.length) cap e - (n + ys.length))).toList).toArray := by
        apply Array.ext'; simp
      rw [e1]
      have := h2
      simp only [List.length_append, hn] at this
      exact this
  -- the first cells, a new block
  have first : ∀ (id : BId) (kind : Kind), ys.length ≠ 0 → ys.length ≤ 4294967296 →
      ∃ v' w' S' M', (Builtin.append_ #[t, t] ty #[.slice none 0 0, .slice yb ys.length ycap]).run P w = .ok v' w' ∧ RelF cx S' M' (clk + 1) ((id, ⟨clk, kind, inf.size, ys⟩) :: h) ρ a w' ∧ C w' S' M' (clk + 1) v' (.bs id clk inf.size 0 ys.length) := by
    intro id kind hm hbd
    obtain ⟨ad, rfl, hnews⟩ := hyb hm
    have hrun := run_append_nil (P := P) w t ty e inf zv ht hi hzv ad ys.length ycap news hnrw.len hnews (by omega) (by omega) (by have := bytes _ hbd; omega)
    obtain ⟨g1, g2⟩ := grown_bound (w := w) (old := 0) (e := e) hbd
    have hz1 : (Builtin.zeroCells zv.cells (grownCap w ys.length 0 e - ys.length)).toList.length = (grownCap w ys.length 0 e - ys.length) * inf.size := by simpa [hzs] using size_zeroCells zv.cells (grownCap w ys.length 0 e - ys.length)
    obtain ⟨M', h1, h2⟩ := new_row hr (id := id) (bx := ⟨clk, kind, inf.size, ys⟩) (w1 := w.drew) (vs := news) (us := (Builtin.zeroCells zv.cells (grownCap w ys.length 0 e - ys.length)).toList) (e := e) (cap := grownCap w ys.length 0 e)
      ⟨rfl, rfl, rfl, rfl⟩ rfl hnrw g1 g2 (by
        rw [hnrw.len, hz1, ← Nat.add_mul]
        congr 1
        omega)
    have e1 : news.toArray ++ Builtin.zeroCells zv.cells (grownCap w ys.length 0 e - ys.length) = (news ++ (Builtin.zeroCells zv.cells (grownCap w ys.length 0 e - ys.length)).toList).toArray := by
      apply Array.ext'; simp
    rw [← e1] at h1 h2
    exact ⟨_, _, S, M', hrun, h1, h2⟩
  -- nothing, no block yet
  have none0 : ∀ (id : BId) (kind : Kind) (b : Option Addr), kind ≠ .str → ys = [] → (∀ ad, b = some ad → ad.spot = none) →
      ∃ v' w' S' M', (Builtin.append_ #[t, t] ty #[.slice b 0 0, .slice yb ys.length ycap]).run P w = .ok v' w' ∧ RelF cx S' M' (clk + 1) ((id, ⟨clk, kind, inf.size, []⟩) :: h) ρ a w' ∧ C w' S' M' (clk + 1) v' (.bs id clk inf.size 0 0) := by
    intro id kind b hkind hy0 hsp
    subst hy0
    refine ⟨.slice b 0 0, w, S, setM M ((id, ⟨clk, kind, inf.size, []⟩) :: h) clk none, by simpa using run_append_zero (P := P) (w := w) (ty := ty) (c := ycap) (yb := yb) ht hi (b := b) (n := 0) (cap := 0) (Nat.le_refl _), ?_, ?_⟩
    · refine hr.set (bx' := ⟨clk, kind, inf.size, []⟩) (k' := none) (Nat.le_succ _) (.inl rfl) (fun hlt => absurd hlt (Nat.lt_irrefl _)) (Touch.of_below (Below.refl _ _)) (fun k hk => by cases hk) ?_
      exact ⟨Nat.lt_succ_self _, fun r hr => by simp at hr, none, setM_self _ _ _ _, rfl, hkind⟩
    · refine .bs _ _ _ _ _ _ (Nat.lt_succ_self _) ?_ rfl
      unfold BsOk
      rw [setM_self]
      exact ⟨rfl, rfl, b, rfl, hsp⟩
  cases x <;> simp only at hs1 <;> try (cases hs1; done)
  case sl els f =>
    obtain ⟨d', hd, hs2⟩ := bind_some hs1
    split at hs2 <;> cases hs2
    rename_i hc
    obtain ⟨hf, hz, hempty, hbd⟩ := hc
    obtain ⟨b, cap, vs, rfl, hbn, hlc, hcm, hfu, hsp, hnl, hrw, hcs⟩ := hv.inv_sl.rows (rowZ_spec hz)
    by_cases hy0 : ys = []
    · have he0 : els = [] := by
        subst hy0
        rcases hempty with h | h
        · simpa using h
        · simp at h
      have hcap0 : cap = 0 := by
        rcases hf with h | h
        · exact (hbn (hnl h)).2
        · rw [hfu h, he0]; rfl
      subst he0
      subst hcap0
      have := none0 (.loc d') .own b (by simp) hy0 (hsp hf)
      subst hy0
      simpa using this
    · have hm : ys.length ≠ 0 := by simpa using hy0
      cases b with
      | none =>
        obtain ⟨rfl, rfl⟩ := hbn rfl
        have := first (.loc d') .own hm (by simpa using hbd)
        simpa using this
      | some ad =>
        have hfu' : cap = els.length := by
          rcases hf with h | h
          · have := hnl h; cases this
          · exact hfu h
        exact grow ad els.length cap vs els (.loc d') .own rfl (by simp) hrw (fun j q hq => by obtain ⟨ad', h1, h2⟩ := hcs j q hq; cases h1; exact h2) (by omega) hbd hm
  case bs id g z' off n =>
    obtain ⟨bx, hb, hs2⟩ := bind_some hs1
    split at hs2 <;> cases hs2
    rename_i hc
    obtain ⟨rfl, rfl, hkind, hnle, hsh, hbd⟩ := hc
    obtain ⟨hlk, hg, hz⟩ := boxAt_some hb
    obtain ⟨_, hbs, _⟩ := hv.inv_bs
    have hbox := hr.wr.heap.box id bx hlk
    obtain ⟨m, hm0, hm1⟩ : ∃ m, M bx.gen = some m ∧ (m = none → bx.els = []) := by
      obtain ⟨_, _, m, hm, h3⟩ := hbox
      exact ⟨m, hm, fun h => by subst h; exact h3.1⟩
    have hm0' := hm0
    rw [hg] at hm0
    unfold BsOk at hbs
    rw [hm0] at hbs
    cases m with
    | none =>
      obtain ⟨rfl, _, b, rfl, hsp⟩ := hbs
      have hel := hm1 rfl
      rw [hel]
      simp only [List.take_nil, List.nil_append, Nat.zero_add]
      by_cases hy0 : ys = []
      · have := none0 id bx.kind b hkind hy0 hsp
        subst hy0
        simpa using this
      · have hm : ys.length ≠ 0 := by simpa using hy0
        cases b with
        | none => exact first id bx.kind hm (by simpa using hbd)
        | some ad =>
          have := grow ad 0 0 [] [] id bx.kind rfl hkind Rw.nil (fun j q hq => by simp at hq) (by omega) hbd hm
          simpa using this
    | some k =>
      obtain ⟨arr, ty0, cap, hblk, rfl, hnc, hcm, harr⟩ := hbs
      obtain ⟨arr', e', hh', hsz, hrw⟩ := hbox.rows hm0' hkind
      rw [hblk] at hh'
      cases hh'
      rw [hz] at hrw hsz
      simp only [Nat.zero_mul, Nat.zero_add] at harr ⊢
      have htl : (arr.toList.take (bx.els.length * inf.size)).take (n * inf.size) = arr.toList.take (n * inf.size) := by
        rw [List.take_take, Nat.min_eq_left (Nat.mul_le_mul_right _ hnle)]
      have hrwn := hrw.take n
      rw [htl] at hrwn
      have hntl : (bx.els.take n).length = n := by simp; omega
      have hSk : ∀ o, S k o → bx.kind = .sh ∧ o < n * inf.size := by
        intro o hs
        obtain ⟨_, _, m, hmm, h3⟩ := hbox
        rw [hm0'] at hmm
        cases hmm
        obtain ⟨_, _, _, _, _, ho, hl⟩ := h3
        have hk1 : bx.kind = .sh := Classical.byContradiction fun hne => ho hne o hs
        refine ⟨hk1, ?_⟩
        have := hl o hs
        rw [hz, ← hsh hk1] at this
        exact this
      by_cases hy0 : ys = []
      · subst hy0
        simp only [List.length_nil, Nat.add_zero, List.append_nil]
        refine ⟨_, w, S, setM M ((id, ⟨clk, bx.kind, inf.size, bx.els.take n⟩) :: h) clk (some k), run_append_zero ht hi hnc, ?_, ?_⟩
        · refine hr.set (bx' := ⟨clk, bx.kind, inf.size, bx.els.take n⟩) (k' := some k) (touched := some k) (Nat.le_succ _) (.inl rfl) (fun hlt => absurd hlt (Nat.lt_irrefl _))
            ⟨rfl, rfl, rfl, Nat.le_refl _, fun _ _ _ => rfl, fun k' hk' => ⟨bx, hlk, by cases hk'; exact hm0'⟩, fun _ _ _ _ _ hc => hc, fun _ arr e _ hb => ⟨arr, hb, rfl⟩⟩ (fun k' hk' => .inr hk') ?_
          refine BoxOk.of_rows (Nat.lt_succ_self _) (setM_self _ _ _ _) hblk ?_ ?_ (fun o hs => ?_)
          · simp only [hntl]; exact hrwn
          · simp only [hntl]
            exact Nat.le_trans (Nat.mul_le_mul_right _ hnle) hsz
          · simp only [hntl]; exact hSk o hs
        · refine .bs _ _ _ _ _ _ (Nat.lt_succ_self _) ?_ rfl
          unfold BsOk
          rw [setM_self]
          exact ⟨arr, ty0, cap, hblk, by simp, hnc, hcm, by simpa using harr⟩
      · have hm : ys.length ≠ 0 := by simpa using hy0
        by_cases hroom : n + ys.length ≤ cap
        · obtain ⟨ad, rfl, hnews⟩ := hyb hm
          have hfit : n * inf.size + news.length ≤ arr.size := by rw [hnrw.len, ← Nat.add_mul, ← harr]; exact Nat.mul_le_mul_right _ hroom
          have hrun := run_append_in (P := P) (w := w) (ty := ty) (c := ycap) ht hi hblk hnrw.len hnews hnrw.one hroom hfit
          have hnl : (arr.toList.take (n * inf.size)).length = n * inf.size := by simp; omega
          generalize hnew : (arr.toList.take (n * inf.size) ++ news ++ arr.toList.drop (n * inf.size + news.length)).toArray = new at hrun
          have hnsz : new.size = arr.size := by rw [← hnew]; simp; omega
          have hh2 : (w.setRow k new).heap[k]? = some (.cells new ty0 (0, 0)) := setRow_heap w k arr new ty0 (0, 0) hblk
          have hcell : ∀ k' o u, S k' o → w.cell? ⟨k', o, none⟩ = some u → (w.setRow k new).cell? ⟨k', o, none⟩ = some u := by
            intro k' o u hs hc
            by_cases hkk : k' = k
            · subst hkk
              obtain ⟨_, ho⟩ := hSk o hs
              rw [cell_of_row w k' o arr ty0 (0, 0) hblk] at hc
              rw [cell_of_row _ k' o new ty0 (0, 0) hh2, ← hnew, ← hc]
              simp only [List.getElem?_toArray, List.append_assoc]
              rw [List.getElem?_append_left (by omega), List.getElem?_take, if_pos ho]
              simp
            · rw [World.cell?_of_block (w := w) (a := ⟨k', o, none⟩) (setRow_other w k k' new hkk)]; exact hc
          have htk : new.toList.take ((n + ys.length) * inf.size) = arr.toList.take (n * inf.size) ++ news := by
            rw [← hnew]
            simp only []
            refine take_zeros ?_
            rw [List.length_append, hnl, hnrw.len, Nat.add_mul]
          have hbl : (bx.els.take n ++ ys).length = n + ys.length := by rw [List.length_append, hntl]
          refine ⟨_, _, S, setM M ((id, ⟨clk, bx.kind, inf.size, bx.els.take n ++ ys⟩) :: h) clk (some k), hrun, ?_, ?_⟩
          · refine hr.set (bx' := ⟨clk, bx.kind, inf.size, bx.els.take n ++ ys⟩) (k' := some k) (touched := some k) (Nat.le_succ _) (.inl rfl) (fun hlt => absurd hlt (Nat.lt_irrefl _))
              ⟨rfl, rfl, rfl, by simp, fun k' _ hne => setRow_other w k k' new (fun e => hne (by rw [e])), fun k' hk' => ⟨bx, hlk, by cases hk'; exact hm0'⟩, fun k' o u hk' hs hc => hcell k' o u hs hc, fun k' arr1 e1 hk' hb1 => by
                cases hk'
                rw [hblk] at hb1
                cases hb1
                exact ⟨new, hh2, hnsz⟩⟩ (fun k' hk' => .inr hk') ?_
            refine BoxOk.of_rows (Nat.lt_succ_self _) (setM_self _ _ _ _) hh2 ?_ ?_ (fun o hs => ?_)
            · simp only [hbl, htk]
              exact (hrwn.append hnrw).mono (fun _ _ hs => hs) hcell
            · simp only [hbl]
              rw [hnsz, ← harr]
              exact Nat.mul_le_mul_right _ hroom
            · obtain ⟨h1, h2⟩ := hSk o hs
              refine ⟨h1, ?_⟩
              simp only [hbl]
              exact Nat.lt_of_lt_of_le h2 (Nat.mul_le_mul_right _ (Nat.le_add_right _ _))
          · refine .bs _ _ _ _ _ _ (Nat.lt_succ_self _) ?_ rfl
            unfold BsOk
            rw [setM_self]
            exact ⟨new, ty0, cap, hh2, by simp, hroom, hcm, by rw [hnsz]; simpa using harr⟩
        · exact grow ⟨k, 0, none⟩ n cap (arr.toList.take (n * inf.size)) (bx.els.take n) id bx.kind hntl hkind hrwn (fun j q hq => by
            rw [List.getElem?_take] at hq
            split at hq
            · rw [add_addr, cell_of_row w k _ arr ty0 (0, 0) hblk]; simpa using hq
            · cases hq) (by omega) hbd hm

end
end Go.Ab
