/-
  A calculus of values, boxes and code, and what functions of the program compute, proved in it.
  Conditions: none beyond those that the theorems state. (Part 4: LxTab, LxBld, TxJoin, TxJoinOk, LxJoin, Nm5, NmFig, TxStr, TxRune, TxCut, LxStr, LxSign, GpRef16b, GpLaw16, Ab25, Ab26, Ab27, AxTop, NmFrac, AxTop2, LxBase.)
-/
import Derived.Test.YtaclblccdlpblaaPart3
import Derived.Test.YtaclblccdlpblaaProg
import Derived.KernelRfl
import Derived.Shelf.RegionOpenPlain
import Derived.Lib.Strings
import Derived.Lib.Slices
import Derived.Lib.Walk
import Derived.Lib.Builder
import Derived.Lib.AppendStr
import Derived.Lib.UnsafeStr
import Derived.Lib.MakeNoZero
import Derived.WalkKit
import Derived.Laws.Externs
import Derived.Laws.IdiomCopy
import Derived.Laws.BitsLemmas
import GoSem.Claims
import Derived.Shelf.Strings.Builder1
import Derived.Shelf.Strings.Builder2
import Derived.Shelf.Strings.OnBuilder
import Derived.Lib.IndexAny
import Derived.Lib.Bytealg
import Derived.Shelf.Strings.IndexAnyAll
import Derived.Shelf.Strings.Count
import Derived.Shelf.Strings.Search2
import Derived.Laws.RangeAny
import Derived.Laws.Runes
import Derived.Lib.DecodeN
import Derived.WalkMore
import Derived.Deep.LoopGhost
import Derived.Shelf.Small.Utf8
import Derived.Shelf.Strings.Cut
import Derived.Deep.DeepCutAuto
import Derived.Deep.DeepFit
import Derived.Deep.CutBlock
import Derived.Lib.OthersKept
import Derived.ProofKit
import Derived.OpenShut
import Derived.Test.YtaclblccdlpblaaRows

set_option linter.unusedSectionVars false
set_option linter.unusedVariables false
set_option linter.unusedSimpArgs false
set_option linter.unnecessarySimpa false

section
namespace Go.Proofs.Ytaclblccdlpblaa
open Go Go.Ab
set_option maxRecDepth 100000
def nus : List (Nat × Nat) := [(164, 3), (165, 4), (166, 5), (167, 6), (168, 7), (169, 8), (170, 9), (171, 10), (172, 11), (173, 12), (174, 13), (175, 14), (176, 15), (177, 16), (178, 17), (179, 18), (180, 19), (181, 20), (182, 21), (183, 22), (184, 23), (185, 24), (186, 25), (187, 26), (188, 27), (189, 28), (190, 29)]
def nu (u : Nat) : FuncId := (nus.lookup u).getD 0
def row183 : AFx := ⟨0, 0, [], .prim prim183, none, false⟩
def row185 : AFx := ⟨1, 9, [.t 2], b185, none, false⟩
def row186 : AFx := ⟨1, 21, [.t 2], b186, none, false⟩
def row187 : AFx := ⟨0, 0, [], .prim prim187, none, false⟩
def row177 : AFx := ⟨1, 12, [.t 2], b177, none, false⟩
def row188 : AFx := ⟨2, 23, [.t 4], b188, none, false⟩
def row179 : AFx := ⟨1, 8, [.t 2], b179, none, false⟩
def row178 : AFx := ⟨2, 20, [.t 4], b178, none, false⟩
def row176 : AFx := ⟨2, 38, [.t 4], b176, none, false⟩
def row167 : AFx := ⟨1, 60, [.t 2, .cell 3 (some 4)], b167, none, false⟩
def row172 : AFx := ⟨1, 38, [.t 2], b172, none, false⟩
def row174 : AFx := ⟨1, 20, [.t 2], b174, none, false⟩
def row184 : AFx := ⟨0, 0, [], .prim prim184, none, false⟩
def row189 : AFx := ⟨1, 9, [.t 2], b189, none, false⟩
def row190 : AFx := ⟨1, 21, [.t 2], b190, none, false⟩
def row181 : AFx := ⟨1, 20, [.t 2], b181, none, false⟩
def row180 : AFx := ⟨2, 23, [.t 4], b180, none, false⟩
def row182 : AFx := ⟨1, 7, [.t 2], b182, none, false⟩
def row168 : AFx := ⟨1, 123, [.t 2, .t 3], b168, none, false⟩
def row173 : AFx := ⟨1, 36, [.t 2], b173, none, false⟩
def row175 : AFx := ⟨1, 23, [.t 2], b175, none, false⟩
def row171 : AFx := ⟨1, 31, [.t 2], b171, none, false⟩
def row170 : AFx := ⟨1, 31, [.t 2], b170, none, false⟩
def row169 : AFx := ⟨2, 26, [.t 4], b169, none, false⟩
def row166 : AFx := ⟨0, 33, [.t 0], b166, none, false⟩
def row164 : AFx := ⟨1, 39, [.t 2], b164, none, false⟩
def row165 : AFx := ⟨1, 44, [.t 2], b165, none, false⟩
theorem res185 : resFn Try.prog (nu 185) = some (erF nu row185) := by kernel_rfl
theorem res186 : resFn Try.prog (nu 186) = some (erF nu row186) := by kernel_rfl
theorem res177 : resFn Try.prog (nu 177) = some (erF nu row177) := by kernel_rfl
theorem res188 : resFn Try.prog (nu 188) = some (erF nu row188) := by kernel_rfl
theorem res179 : resFn Try.prog (nu 179) = some (erF nu row179) := by kernel_rfl
theorem res178 : resFn Try.prog (nu 178) = some (erF nu row178) := by kernel_rfl
theorem res176 : resFn Try.prog (nu 176) = some (erF nu row176) := by kernel_rfl
theorem res167 : resFn Try.prog (nu 167) = some (erF nu row167) := by kernel_rfl
theorem res172 : resFn Try.prog (nu 172) = some (erF nu row172) := by kernel_rfl
theorem res174 : resFn Try.prog (nu 174) = some (erF nu row174) := by kernel_rfl
theorem res189 : resFn Try.prog (nu 189) = some (erF nu row189) := by kernel_rfl
theorem res190 : resFn Try.prog (nu 190) = some (erF nu row190) := by kernel_rfl
theorem res181 : resFn Try.prog (nu 181) = some (erF nu row181) := by kernel_rfl
theorem res180 : resFn Try.prog (nu 180) = some (erF nu row180) := by kernel_rfl
theorem res182 : resFn Try.prog (nu 182) = some (erF nu row182) := by kernel_rfl
theorem res168 : resFn Try.prog (nu 168) = some (erF nu row168) := by kernel_rfl
theorem res173 : resFn Try.prog (nu 173) = some (erF nu row173) := by kernel_rfl
theorem res175 : resFn Try.prog (nu 175) = some (erF nu row175) := by kernel_rfl
theorem res171 : resFn Try.prog (nu 171) = some (erF nu row171) := by kernel_rfl
theorem res170 : resFn Try.prog (nu 170) = some (erF nu row170) := by kernel_rfl
theorem res169 : resFn Try.prog (nu 169) = some (erF nu row169) := by kernel_rfl
theorem res166 : resFn Try.prog (nu 166) = some (erF nu row166) := by kernel_rfl
theorem res164 : resFn Try.prog (nu 164) = some (erF nu row164) := by kernel_rfl
theorem res165 : resFn Try.prog (nu 165) = some (erF nu row165) := by kernel_rfl
theorem ok_cons {P : Program} {ν : Nat → FuncId} {u : Nat} {af : AFx} {l : List (Nat × AFx)} (h : match af.body.isPrim with | some f => ∀ xs r, f xs = some r → PCall P (ν u) xs (· = r) | none => resFn P (ν u) = some (erF ν af)) (hl : ∀ p ∈ l, match p.2.body.isPrim with | some f => ∀ xs r, f xs = some r → PCall P (ν p.1) xs (· = r) | none => resFn P (ν p.1) = some (erF ν p.2)) :
    ∀ p ∈ (u, af) :: l, match p.2.body.isPrim with | some f => ∀ xs r, f xs = some r → PCall P (ν p.1) xs (· = r) | none => resFn P (ν p.1) = some (erF ν p.2) := by
  intro p hp
  rcases List.mem_cons.1 hp with rfl | hp
  · exact h
  · exact hl p hp
theorem ok_lookup {P : Program} {ν : Nat → FuncId} {l : List (Nat × AFx)} (hl : ∀ p ∈ l, match p.2.body.isPrim with | some f => ∀ xs r, f xs = some r → PCall P (ν p.1) xs (· = r) | none => resFn P (ν p.1) = some (erF ν p.2)) : TOk P ν (fun u => l.lookup u) := fun _ _ h => hl _ (mem_of_lookup h)
theorem sub_cons {l l2 : List (Nat × AFx)} {u : Nat} {af : AFx} (h : l.lookup u = some af) (h2 : ∀ p ∈ l2, l.lookup p.1 = some p.2) : ∀ p ∈ (u, af) :: l2, l.lookup p.1 = some p.2 := by
  intro p hp
  rcases List.mem_cons.1 hp with rfl | hp
  · exact h
  · exact h2 p hp
def gTab : List (Nat × AFx) := [(183, row183), (185, row185), (186, row186), (187, row187), (177, row177), (188, row188), (179, row179), (178, row178), (176, row176), (167, row167), (172, row172), (174, row174), (184, row184), (189, row189), (190, row190), (181, row181), (180, row180), (182, row182), (168, row168), (173, row173), (175, row175), (171, row171), (170, row170), (169, row169), (166, row166), (164, row164), (165, row165)]
def lTab : List (Nat × AFx) := [(183, row183), (185, row185), (186, row186), (187, row187), (177, row177), (188, row188), (179, row179), (178, row178), (176, row176), (167, row167), (172, row172), (174, row174), (184, row184), (189, row189), (190, row190), (181, row181), (180, row180), (182, row182), (168, row168), (173, row173), (175, row175), (171, row171), (170, row170), (169, row169), (166, row166), (164, row164), (165, row165)]
def tab : Tbl := fun u => gTab.lookup u
theorem lTab_ok (hp183 : ∀ xs r, prim183 xs = some r → PCall Try.prog (nu 183) xs (· = r)) (hp187 : ∀ xs r, prim187 xs = some r → PCall Try.prog (nu 187) xs (· = r)) (hp184 : ∀ xs r, prim184 xs = some r → PCall Try.prog (nu 184) xs (· = r)) : TOk Try.prog nu (fun u => lTab.lookup u) := ok_lookup (ok_cons hp183 (ok_cons res185 (ok_cons res186 (ok_cons hp187 (ok_cons res177 (ok_cons res188 (ok_cons res179 (ok_cons res178 (ok_cons res176 (ok_cons res167 (ok_cons res172 (ok_cons res174 (ok_cons hp184 (ok_cons res189 (ok_cons res190 (ok_cons res181 (ok_cons res180 (ok_cons res182 (ok_cons res168 (ok_cons res173 (ok_cons res175 (ok_cons res171 (ok_cons res170 (ok_cons res169 (ok_cons res166 (ok_cons res164 (ok_cons res165 (fun p hp => by cases hp))))))))))))))))))))))))))))
theorem lTab_part : Part gTab lTab := ⟨sub_cons (by kernel_rfl) (sub_cons (by kernel_rfl) (sub_cons (by kernel_rfl) (sub_cons (by kernel_rfl) (sub_cons (by kernel_rfl) (sub_cons (by kernel_rfl) (sub_cons (by kernel_rfl) (sub_cons (by kernel_rfl) (sub_cons (by kernel_rfl) (sub_cons (by kernel_rfl) (sub_cons (by kernel_rfl) (sub_cons (by kernel_rfl) (sub_cons (by kernel_rfl) (sub_cons (by kernel_rfl) (sub_cons (by kernel_rfl) (sub_cons (by kernel_rfl) (sub_cons (by kernel_rfl) (sub_cons (by kernel_rfl) (sub_cons (by kernel_rfl) (sub_cons (by kernel_rfl) (sub_cons (by kernel_rfl) (sub_cons (by kernel_rfl) (sub_cons (by kernel_rfl) (sub_cons (by kernel_rfl) (sub_cons (by kernel_rfl) (sub_cons (by kernel_rfl) (sub_cons (by kernel_rfl) (fun p hp => by cases hp))))))))))))))))))))))))))), by kernel_rfl⟩
instance : CJoin tab where
  h183 := by kernel_rfl
instance : CLex tab where
  h185 := by kernel_rfl
  h186 := by kernel_rfl
  h187 := by kernel_rfl
  h177 := by kernel_rfl
  h188 := by kernel_rfl
  h179 := by kernel_rfl
  h178 := by kernel_rfl
  h176 := by kernel_rfl
  h167 := by kernel_rfl
  h172 := by kernel_rfl
  h174 := by kernel_rfl
  h184 := by kernel_rfl
instance : CRef16 tab where
  h189 := by kernel_rfl
  h190 := by kernel_rfl
  h181 := by kernel_rfl
  h180 := by kernel_rfl
  h182 := by kernel_rfl
  h168 := by kernel_rfl
  h173 := by kernel_rfl
  h175 := by kernel_rfl
instance : CLaw16 tab where
  h171 := by kernel_rfl
  h170 := by kernel_rfl
  h169 := by kernel_rfl
  h166 := by kernel_rfl
  h164 := by kernel_rfl
  h165 := by kernel_rfl
end Go.Proofs.Ytaclblccdlpblaa
end

section
namespace Go.Proofs
open Go.RowKit
theorem Try.sizeBuilder : (Try.prog.info? 55).map (·.size) = some 2 := by kernel_rfl
theorem Try.liesBuilder : liesAt Try.prog Try.prog.depth 55 (2 / Try.prog.cellsOf 55) 0 55 1 = true := by kernel_rfl
theorem Try.infoByte : (Try.prog.info? 5).map (fun i => (i.zero, i.size, i.bytes)) = some (some (.int .u8 0), 1, 1) := by kernel_rfl
theorem Try.cellsByte : Try.prog.cellsOf 5 = 1 := by kernel_rfl
set_option maxHeartbeats 1000000 in
set_option maxRecDepth 100000 in
theorem Try.bCheck_used (b : Nat) (w : World) (h0 : w.cell? ⟨b, 0, none⟩ = some (.pointer (some ⟨b, 0, none⟩))) :
    Calls Try.prog 34 #[.pointer (some ⟨b, 0, none⟩)] w fun e w' => e = .returned (.tuple #[]) ∧ w' = w := by
  obtain ⟨j, hj, _⟩ := Option.map_eq_some_iff.1 Try.sizeBuilder
  go_enter Try.func34, Try.ntmps34
  go_wp2
  rw [Lib.run_neq_ptr_same w _ Try.underlying52 hj]
  go_wp2
  go_end0
  exact ⟨rfl, rfl⟩
set_option maxHeartbeats 1000000 in
set_option maxRecDepth 100000 in
theorem Try.bCheck_fresh (b : Nat) (w : World) (h0 : w.cell? ⟨b, 0, none⟩ = some (.pointer none)) (hsh : w.shape? b = some (55, 2)) (hfz : w.frozen? ⟨b, 0, none⟩ = false) :
    Calls Try.prog 34 #[.pointer (some ⟨b, 0, none⟩)] w fun e w' => e = .returned (.tuple #[]) ∧ w' = w.setCell ⟨b, 0, none⟩ (.pointer (some ⟨b, 0, none⟩)) := by
  obtain ⟨j, hj, hjs⟩ := Option.map_eq_some_iff.1 Try.sizeBuilder
  go_enter Try.func34, Try.ntmps34
  go_wp2
  rw [Lib.run_to_unsafe w ⟨b, 0, none⟩ Try.underlying52 Try.underlying64 hj (by rw [hjs]; decide) hsh (Nat.zero_lt_succ 1)]
  simp only [Result.andThen]
  rw [Oper.upon_value]
  go_wp2
  rw [run_callFunc_extern Try.func37 (by kernel_rfl) (by kernel_rfl) (by kernel_rfl) (e := Extern.AbiNoEscape.same) (by kernel_rfl)]
  rw [Lib.run_noEscape]
  simp only [Result.andThen]
  rw [Oper.upon_value]
  go_wp2
  rw [Lib.run_from_unsafe w ⟨b, 0, none⟩ Try.underlying64 Try.underlying52 hj hsh Try.liesBuilder]
  simp only [Result.andThen]
  rw [Oper.upon_value]
  go_wp2
  go_end0
  exact ⟨rfl, rfl⟩
theorem Try.bCheck (B b : Nat) (bs : List Value) (w : World) (h : Lib.IsBuilder 55 5 B b bs w) :
    Calls Try.prog 34 #[.pointer (some ⟨b, 0, none⟩)] w fun e w' => e = .returned (.tuple #[]) ∧ (Lib.BuilderAt 55 5 B b (.pointer (some ⟨b, 0, none⟩)) bs w' ∧ Below B w w') := by
  rcases h with h | h
  · refine (Try.bCheck_fresh b w h.cell0 h.shape h.frozen0).mono ?_
    rintro e w' ⟨rfl, rfl⟩
    exact ⟨rfl, h.used _, (Below.refl B w).setCell (p := ⟨b, 0, none⟩) h.1 _⟩
  · refine (Try.bCheck_used b w h.cell0).mono ?_
    rintro e w' ⟨rfl, rfl⟩
    exact ⟨rfl, h, Below.refl B _⟩
end Go.Proofs
end

section
set_option linter.unusedVariables false
namespace Go.Proofs
open Go.Shelf Go.RowKit
variable {P : Program} {ρ : Ren}
structure JL (P : Program) (ρ : Ren) : Prop extends Lays.n169 P ρ, Lays.n241 P ρ, Builder.Extra P ρ where
 f156 : P.funcs[ρ.f 156]? = some (Body.n156 ρ)
 f165 : P.funcs[ρ.f 165]? = some (Body.n165 ρ)
 f166 : P.funcs[ρ.f 166]? = some (Body.n166 ρ)
 t4 : P.underlying (ρ.t 4) = some (TypeDesc.bool)
 a4 : ∀ w, (isAgg (ρ.t 4)).run P w = .ok false w
 z4 : ∀ w, (Go.sizeOf (ρ.t 4)).run P w = .ok 1 w
 v4 : ∀ w, (zeroValue (ρ.t 4)).run P w = .ok (Value.bool false) w
 t20 : P.underlying (ρ.t 20) = some (TypeDesc.interface #[])
 a20 : ∀ w, (isAgg (ρ.t 20)).run P w = .ok false w
 z20 : ∀ w, (Go.sizeOf (ρ.t 20)).run P w = .ok 1 w
 v20 : ∀ w, (zeroValue (ρ.t 20)).run P w = .ok (Value.nilIface) w
 t31 : P.underlying (ρ.t 31) = some (TypeDesc.slice (ρ.t 9))
 a31 : ∀ w, (isAgg (ρ.t 31)).run P w = .ok false w
 z31 : ∀ w, (Go.sizeOf (ρ.t 31)).run P w = .ok 1 w
 v31 : ∀ w, (zeroValue (ρ.t 31)).run P w = .ok (Value.slice none 0 0) w
 t75 : P.underlying (ρ.t 75) = some (TypeDesc.interface #[("Error", ρ.t 80)])
 a75 : ∀ w, (isAgg (ρ.t 75)).run P w = .ok false w
 z75 : ∀ w, (Go.sizeOf (ρ.t 75)).run P w = .ok 1 w
 v75 : ∀ w, (zeroValue (ρ.t 75)).run P w = .ok (Value.nilIface) w
 t76 : P.underlying (ρ.t 76) = some (TypeDesc.tuple #[ρ.t 3, ρ.t 75])
 a76 : ∀ w, (isAgg (ρ.t 76)).run P w = .ok false w
 z76 : ∀ w, (Go.sizeOf (ρ.t 76)).run P w = .ok 1 w
 v76 : ∀ w, (zeroValue (ρ.t 76)).run P w = .ok (Value.tuple #[Value.int IntKind.i64 0, Value.nilIface]) w
 t164 : P.underlying (ρ.t 164) = some (TypeDesc.unsafePointer)
 a164 : ∀ w, (isAgg (ρ.t 164)).run P w = .ok false w
 z164 : ∀ w, (Go.sizeOf (ρ.t 164)).run P w = .ok 1 w
 v164 : ∀ w, (zeroValue (ρ.t 164)).run P w = .ok (Value.pointer none) w
 e240 : ∀ args w, (callFunc (ρ.f 240) args).run P w = .ok (.enter (ρ.f 240) args) w
 c240 : ∀ (B b : Nat) (bs : List Value) (w : World), Lib.IsBuilder (ρ.t 72) (ρ.t 5) B b bs w →
  Calls P (ρ.f 240) #[.pointer (some ⟨b, 0, none⟩)] w fun e w' => e = .returned (.tuple #[]) ∧ (Lib.BuilderAt (ρ.t 72) (ρ.t 5) B b (.pointer (some ⟨b, 0, none⟩)) bs w' ∧ Below B w w')
 c240f : ∀ (b : Nat) (w : World), w.cell? ⟨b, 0, none⟩ = some (.pointer none) → w.shape? b = some ((ρ.t 72), 2) → w.frozen? ⟨b, 0, none⟩ = false →
  Calls P (ρ.f 240) #[.pointer (some ⟨b, 0, none⟩)] w fun e w' => e = .returned (.tuple #[]) ∧ w' = w.setCell ⟨b, 0, none⟩ (.pointer (some ⟨b, 0, none⟩))
theorem Jl.hid {p : Prop} (h : p) : Hid p := h
set_option maxHeartbeats 2000000 in
set_option maxRecDepth 100000 in
theorem Jl.Builder_WriteString (L : JL P ρ) (B b : Nat) (bs : List Value) (s : ByteArray) (w : World) (h : Lib.IsBuilder (ρ.t 72) (ρ.t 5) B b bs w) (hlen : bs.length + s.size ≤ 140737488355328) (hBw : B ≤ w.heap.size) :
  Calls P (ρ.f 166) #[.pointer (some ⟨b, 0, none⟩), .string s] w fun e w' => e = .returned (.tuple #[.int .i64 s.size, .nilIface]) ∧ (Lib.BuilderAt (ρ.t 72) (ρ.t 5) B b (.pointer (some ⟨b, 0, none⟩)) (bs ++ Lib.strCells s) w' ∧ Below B w w') := by
 obtain ⟨i0, hi, hz0, hz1, hz2⟩ := info_parts L.infoByte
 have mixed := L.mixed
 have t72 := L.t72; have a72 := L.a72; have z72 := L.z72; have v72 := L.v72; have u72 := run_underlying L.t72
 have t70 := L.t70; have a70 := L.a70; have z70 := L.z70; have v70 := L.v70; have u70 := run_underlying L.t70
 have t37 := L.t37; have a37 := L.a37; have z37 := L.z37; have v37 := L.v37; have u37 := run_underlying L.t37
 have t3 := L.t3; have a3 := L.a3; have z3 := L.z3; have v3 := L.v3; have u3 := run_underlying L.t3
 have t9 := L.t9; have a9 := L.a9; have z9 := L.z9; have v9 := L.v9; have u9 := run_underlying L.t9
 have t4 := L.t4; have a4 := L.a4; have z4 := L.z4; have v4 := L.v4; have u4 := run_underlying L.t4
 have t164 := L.t164; have a164 := L.a164; have z164 := L.z164; have v164 := L.v164; have u164 := run_underlying L.t164
 have t5 := L.t5; have a5 := L.a5; have z5 := L.z5; have v5 := L.v5; have u5 := run_underlying L.t5
 have e240 : ∀ args w, (callFunc (ρ.f 240) args).run P w = .ok (.enter (ρ.f 240) args) w := L.e240
 go_enter L.f166, Body.n166_ntmps ρ
 go_wp2_with (go_at_fn (ρ.f 240); refine (L.c240 B b bs _ h).mono ?_)
 rintro e w1 ⟨rfl, h1, hb1⟩
 obtain ⟨hB, v, hbk, hown, hne⟩ := h1
 have c0 : w1.cell? ⟨b, 0, none⟩ = some (.pointer (some ⟨b, 0, none⟩)) := by rw [Lib.cell_of_heap hbk]; rfl
 have c1 : w1.cell? ⟨b, 1, none⟩ = some v := by rw [Lib.cell_of_heap hbk]; rfl
 go_wp2_with (at_builtin; refine Lib.wpList_append_own_string _ rfl _ _ (ρ.t 37) (ρ.t 9) rfl B (ρ.t 5) i0 L.t37 L.t9 hi hz0 hz1 hz2 _ _ _ rfl hown s rfl ?c3 ?c4 ?c5 ?_)
 case c3 => unfold maxLen; omega
 case c4 => omega
 case c5 => have := hb1.size; omega
 intro v' w2 hown' hgrow _
 have hlt : b < w1.heap.size := by
  rcases Nat.lt_or_ge b w1.heap.size with h' | h'
  ·exact h'
  ·simp [Array.getElem?_eq_none h'] at hbk
 have hb2 : w2.heap[b]? = some (.cells #[.pointer (some ⟨b, 0, none⟩), v] (ρ.t 72) (0, 0)) := by
  rw [hgrow.block b hlt (fun e => hne e.symm)]
  exact hbk
 have d0 : w2.cell? ⟨b, 0, none⟩ = some (.pointer (some ⟨b, 0, none⟩)) := by rw [Lib.cell_of_heap hb2]; rfl
 have d1 : w2.cell? ⟨b, 1, none⟩ = some v := by rw [Lib.cell_of_heap hb2]; rfl
 have f1 : w2.frozen? ⟨b, 1, none⟩ = false := Lib.frozen_of_heap hb2 1
 obtain ⟨ao, n', cap, rfl⟩ : ∃ ao n' cap, v' = .slice ao n' cap := by
  rcases hown'.2 with ⟨hv, _⟩ | ⟨g, cap, cur, hv, _⟩
  ·exact ⟨_, _, _, hv⟩
  ·exact ⟨_, _, _, hv⟩
 go_wp2
 go_ret2
 refine ⟨rfl, ?_, ?_⟩
 ·exact Lib.BuilderAt.put (T := (ρ.t 72)) (e := (ρ.t 5)) hB hb2 (bs' := bs ++ Lib.strCells s) (by simpa [Lib.strCells_length] using hown') L.neB5
 ·exact (hb1.grown hgrow (by have := hb1.size; omega) (fun k hk => (hown.lt k hk).1)).setCell (p := ⟨b, 1, none⟩) hB _
set_option maxHeartbeats 2000000 in
set_option maxRecDepth 1000000 in
theorem Jl.Builder_Grow_fresh (L : JL P ρ) (B b n : Nat) (w : World) (hB : B ≤ b) (hbk : w.heap[b]? = some (.cells #[.pointer none, .slice none 0 0] (ρ.t 72) (0, 0))) (hBw : B ≤ w.heap.size) (hn : n ≤ 281474976710656) :
  Calls P (ρ.f 165) #[.pointer (some ⟨b, 0, none⟩), .int .i64 n] w fun e w' => e = .returned (.tuple #[]) ∧ (Lib.BuilderAt (ρ.t 72) (ρ.t 5) B b (.pointer (some ⟨b, 0, none⟩)) [] w' ∧ Below B w w') := by
 have hbk1 : (w.setCell ⟨b, 0, none⟩ (.pointer (some ⟨b, 0, none⟩))).heap[b]? = some (.cells #[.pointer (some ⟨b, 0, none⟩), .slice none 0 0] (ρ.t 72) (0, 0)) := by
  simp [World.setCell, Array.getElem?_modify, hbk]
 have c1 : (w.setCell ⟨b, 0, none⟩ (.pointer (some ⟨b, 0, none⟩))).cell? ⟨b, 1, none⟩ = some (.slice none 0 0) := by rw [Lib.cell_of_heap hbk1]; rfl
 have hb1 : Below B w (w.setCell ⟨b, 0, none⟩ (.pointer (some ⟨b, 0, none⟩))) := (Below.refl B w).setCell (p := ⟨b, 0, none⟩) hB _
 have mixed := L.mixed
 have t72 := L.t72; have a72 := L.a72; have z72 := L.z72; have v72 := L.v72; have u72 := run_underlying L.t72
 have t70 := L.t70; have a70 := L.a70; have z70 := L.z70; have v70 := L.v70; have u70 := run_underlying L.t70
 have t37 := L.t37; have a37 := L.a37; have z37 := L.z37; have v37 := L.v37; have u37 := run_underlying L.t37
 have t3 := L.t3; have a3 := L.a3; have z3 := L.z3; have v3 := L.v3; have u3 := run_underlying L.t3
 have t9 := L.t9; have a9 := L.a9; have z9 := L.z9; have v9 := L.v9; have u9 := run_underlying L.t9
 have t4 := L.t4; have a4 := L.a4; have z4 := L.z4; have v4 := L.v4; have u4 := run_underlying L.t4
 have t164 := L.t164; have a164 := L.a164; have z164 := L.z164; have v164 := L.v164; have u164 := run_underlying L.t164
 have t5 := L.t5; have a5 := L.a5; have z5 := L.z5; have v5 := L.v5; have u5 := run_underlying L.t5
 have e240 : ∀ args w, (callFunc (ρ.f 240) args).run P w = .ok (.enter (ρ.f 240) args) w := L.e240
 have e241 : ∀ args w, (callFunc (ρ.f 241) args).run P w = .ok (.enter (ρ.f 241) args) w := enters_of L.f241 (by kernel_rfl) rfl
 go_enter L.f165, Body.n165_ntmps ρ
 have hU : Lib.BuilderAt (ρ.t 72) (ρ.t 5) B b (.pointer (some ⟨b, 0, none⟩)) [] (w.setCell ⟨b, 0, none⟩ (.pointer (some ⟨b, 0, none⟩))) := ⟨hB, .slice none 0 0, hbk1, World.ownsRow_nil _ _ _ _, by simp [Value.ownBlock]⟩
 have c1' : (w.setCell ⟨b, 0, none⟩ (.pointer (some ⟨b, 0, none⟩))).drew.cell? ⟨b, 1, none⟩ = some (.slice none 0 0) := c1
 go_wp2_with (go_at_fn (ρ.f 240); refine (L.c240f b w (by rw [Lib.cell_of_heap hbk]; rfl) (by simp [World.shape?, hbk]) (Lib.frozen_of_heap hbk 0)).mono ?_; rintro e w' ⟨rfl, rfl⟩)
 go_region_o
 all_goals go_wp2_with (go_at_fn (ρ.f 241); refine (Any.Builder_grow_fresh L.ton241 L.toExtra B b n (w.setCell ⟨b, 0, none⟩ (.pointer (some ⟨b, 0, none⟩))).drew hB hbk1 (by simpa [World.setCell, World.drew, -World.drew_eq] using hBw) hn).mono ?_; rintro e w' ⟨rfl, h1, h2⟩)
 all_goals first
  | (go_end0; exact ⟨rfl, h1, hb1.drew.trans h2⟩)
  | (go_end0; exact ⟨rfl, hU.drew, hb1.drew⟩)
theorem Jl.strings_Join_none (L : JL P ρ) (a : Option Addr) (c : Nat) (sep : ByteArray) (w : World) :
  Calls P (ρ.f 156) #[.slice a 0 c, .string sep] w fun e w' => e = .returned (.string ⟨#[]⟩) ∧ w' = w := by
 have mixed := L.mixed
 have t72 := L.t72; have a72 := L.a72; have z72 := L.z72; have v72 := L.v72; have u72 := run_underlying L.t72
 have t70 := L.t70; have a70 := L.a70; have z70 := L.z70; have v70 := L.v70; have u70 := run_underlying L.t70
 have t37 := L.t37; have a37 := L.a37; have z37 := L.z37; have v37 := L.v37; have u37 := run_underlying L.t37
 have t127 := L.t127; have a127 := L.a127; have z127 := L.z127; have v127 := L.v127; have u127 := run_underlying L.t127
 have t3 := L.t3; have a3 := L.a3; have z3 := L.z3; have v3 := L.v3; have u3 := run_underlying L.t3
 have t9 := L.t9; have a9 := L.a9; have z9 := L.z9; have v9 := L.v9; have u9 := run_underlying L.t9
 have t4 := L.t4; have a4 := L.a4; have z4 := L.z4; have v4 := L.v4; have u4 := run_underlying L.t4
 have t164 := L.t164; have a164 := L.a164; have z164 := L.z164; have v164 := L.v164; have u164 := run_underlying L.t164
 have t31 := L.t31; have a31 := L.a31; have z31 := L.z31; have v31 := L.v31; have u31 := run_underlying L.t31
 have t5 := L.t5; have a5 := L.a5; have z5 := L.z5; have v5 := L.v5; have u5 := run_underlying L.t5
 have e240 : ∀ args w, (callFunc (ρ.f 240) args).run P w = .ok (.enter (ρ.f 240) args) w := L.e240
 have e241 : ∀ args w, (callFunc (ρ.f 241) args).run P w = .ok (.enter (ρ.f 241) args) w := enters_of L.f241 (by kernel_rfl) rfl
 have e165 : ∀ args w, (callFunc (ρ.f 165) args).run P w = .ok (.enter (ρ.f 165) args) w := enters_of L.f165 (by kernel_rfl) rfl
 have e166 : ∀ args w, (callFunc (ρ.f 166) args).run P w = .ok (.enter (ρ.f 166) args) w := enters_of L.f166 (by kernel_rfl) rfl
 have e169 : ∀ args w, (callFunc (ρ.f 169) args).run P w = .ok (.enter (ρ.f 169) args) w := enters_of L.f169 (by kernel_rfl) rfl
 go_enter L.f156, Body.n156_ntmps ρ
 go_wp2
 go_ret
 exact ⟨rfl, rfl⟩
theorem Jl.strings_Join_one (L : JL P ρ) (bk o c : Nat) (x sep : ByteArray) (w : World) (hc : w.cell? ⟨bk, o, none⟩ = some (.string x)) :
  Calls P (ρ.f 156) #[.slice (some ⟨bk, o, none⟩) 1 c, .string sep] w fun e w' => e = .returned (.string x) ∧ w' = w := by
 have mixed := L.mixed
 have t72 := L.t72; have a72 := L.a72; have z72 := L.z72; have v72 := L.v72; have u72 := run_underlying L.t72
 have t70 := L.t70; have a70 := L.a70; have z70 := L.z70; have v70 := L.v70; have u70 := run_underlying L.t70
 have t37 := L.t37; have a37 := L.a37; have z37 := L.z37; have v37 := L.v37; have u37 := run_underlying L.t37
 have t127 := L.t127; have a127 := L.a127; have z127 := L.z127; have v127 := L.v127; have u127 := run_underlying L.t127
 have t3 := L.t3; have a3 := L.a3; have z3 := L.z3; have v3 := L.v3; have u3 := run_underlying L.t3
 have t9 := L.t9; have a9 := L.a9; have z9 := L.z9; have v9 := L.v9; have u9 := run_underlying L.t9
 have t4 := L.t4; have a4 := L.a4; have z4 := L.z4; have v4 := L.v4; have u4 := run_underlying L.t4
 have t164 := L.t164; have a164 := L.a164; have z164 := L.z164; have v164 := L.v164; have u164 := run_underlying L.t164
 have t31 := L.t31; have a31 := L.a31; have z31 := L.z31; have v31 := L.v31; have u31 := run_underlying L.t31
 have t5 := L.t5; have a5 := L.a5; have z5 := L.z5; have v5 := L.v5; have u5 := run_underlying L.t5
 have e240 : ∀ args w, (callFunc (ρ.f 240) args).run P w = .ok (.enter (ρ.f 240) args) w := L.e240
 have e241 : ∀ args w, (callFunc (ρ.f 241) args).run P w = .ok (.enter (ρ.f 241) args) w := enters_of L.f241 (by kernel_rfl) rfl
 have e165 : ∀ args w, (callFunc (ρ.f 165) args).run P w = .ok (.enter (ρ.f 165) args) w := enters_of L.f165 (by kernel_rfl) rfl
 have e166 : ∀ args w, (callFunc (ρ.f 166) args).run P w = .ok (.enter (ρ.f 166) args) w := enters_of L.f166 (by kernel_rfl) rfl
 have e169 : ∀ args w, (callFunc (ρ.f 169) args).run P w = .ok (.enter (ρ.f 169) args) w := enters_of L.f169 (by kernel_rfl) rfl
 go_enter L.f156, Body.n156_ntmps ρ
 go_wp2
 go_ret
 exact ⟨rfl, rfl⟩
set_option maxHeartbeats 4000000 in
set_option maxRecDepth 100000 in
theorem Jl.strings_Join_many (L : JL P ρ) (bk o c : Nat) (xs : List ByteArray) (sep : ByteArray) (w : World)
  (hcells : ∀ (j : Nat) x, xs[j]? = some x → w.cell? ⟨bk, o + j, none⟩ = some (.string x))
  (hbk : bk < w.heap.size) (h2 : 2 ≤ xs.length) (hN : xs.length ≤ 140737488355328) (hcap : xs.length ≤ c)
  (hlen : (Lib.join (xs.map (·.data.toList)) sep.data.toList).length ≤ 140737488355328) :
  Calls P (ρ.f 156) #[.slice (some ⟨bk, o, none⟩) xs.length c, .string sep] w fun e w' => e = .returned (.string ⟨(Lib.join (xs.map (·.data.toList)) sep.data.toList).toArray⟩) ∧ Below w.heap.size w w' := by
 have HC := Jl.hid hcells
 clear hcells
 -- the lengths
 obtain ⟨x0, r, hxs⟩ : ∃ x0 r, xs = x0 :: r := by
  cases xs with
  | nil => simp at h2
  | cons a t => exact ⟨a, t, rfl⟩
 have hjl : sep.size * (xs.length - 1) + Lib.lens (xs.map (·.data.toList)) ≤ 140737488355328 := by
  have := Lib.join_length x0.data.toList (r.map (·.data.toList)) sep.data.toList
  rw [hxs] at hlen ⊢
  simp only [List.map_cons] at hlen ⊢
  rw [this, List.length_map] at hlen
  rw [Lib.size_eq, List.length_cons, Nat.add_sub_cancel]
  exact hlen
 have hmul : sep.size * (xs.length - 1) ≤ 140737488355328 := by omega
 generalize hM : sep.size * (xs.length - 1) = M at hjl hmul
 have hcast : ((xs.length : Int) - 1) = ((xs.length - 1 : Nat) : Int) := by omega
 have hlt : sep.size < 9223372036854775807 / (xs.length - 1) := by
  have : sep.size + 1 ≤ 9223372036854775807 / (xs.length - 1) := by
   rw [Nat.le_div_iff_mul_le (by omega), Nat.add_mul, hM]
   omega
  omega
 have hdv : ¬ (9223372036854775807 / ((xs.length : Int) - 1) ≤ (sep.size : Int)) := by
  have e : (9223372036854775807 : Int) / ((xs.length - 1 : Nat) : Int) = ((9223372036854775807 / (xs.length - 1) : Nat) : Int) := IntWalk.up_div (x := 9223372036854775807) rfl rfl
  rw [hcast, e]
  generalize 9223372036854775807 / (xs.length - 1) = q at hlt
  omega
 have hprod : wrap64 ((sep.size : Int) * ((xs.length : Int) - 1)) = (M : Int) := by
  have e : (sep.size : Int) * ((xs.length - 1 : Nat) : Int) = ((sep.size * (xs.length - 1) : Nat) : Int) := IntWalk.up_mul rfl rfl
  rw [hcast, e, hM]
  exact IntWalk.wrap64_in _ ⟨by omega, by omega⟩
 have hM0 : sep.size = 0 → M = 0 := fun h => by rw [← hM, h, Nat.zero_mul]
 clear hlt hcast
 have hne0 : ((xs.length : Int) == 0) = false := beq_eq_false_iff_ne.2 (by omega)
 have hne1 : ((xs.length : Int) == 1) = false := beq_eq_false_iff_ne.2 (by omega)
 have Hxs := Jl.hid hxs
 have Hlen := Jl.hid hlen
 clear hxs hlen
 have mixed := L.mixed
 have t72 := L.t72; have a72 := L.a72; have z72 := L.z72; have v72 := L.v72; have u72 := run_underlying L.t72
 have t70 := L.t70; have a70 := L.a70; have z70 := L.z70; have v70 := L.v70; have u70 := run_underlying L.t70
 have t37 := L.t37; have a37 := L.a37; have z37 := L.z37; have v37 := L.v37; have u37 := run_underlying L.t37
 have t127 := L.t127; have a127 := L.a127; have z127 := L.z127; have v127 := L.v127; have u127 := run_underlying L.t127
 have t3 := L.t3; have a3 := L.a3; have z3 := L.z3; have v3 := L.v3; have u3 := run_underlying L.t3
 have t9 := L.t9; have a9 := L.a9; have z9 := L.z9; have v9 := L.v9; have u9 := run_underlying L.t9
 have t4 := L.t4; have a4 := L.a4; have z4 := L.z4; have v4 := L.v4; have u4 := run_underlying L.t4
 have t164 := L.t164; have a164 := L.a164; have z164 := L.z164; have v164 := L.v164; have u164 := run_underlying L.t164
 have t31 := L.t31; have a31 := L.a31; have z31 := L.z31; have v31 := L.v31; have u31 := run_underlying L.t31
 have t5 := L.t5; have a5 := L.a5; have z5 := L.z5; have v5 := L.v5; have u5 := run_underlying L.t5
 have e240 : ∀ args w, (callFunc (ρ.f 240) args).run P w = .ok (.enter (ρ.f 240) args) w := L.e240
 have e241 : ∀ args w, (callFunc (ρ.f 241) args).run P w = .ok (.enter (ρ.f 241) args) w := enters_of L.f241 (by kernel_rfl) rfl
 have e165 : ∀ args w, (callFunc (ρ.f 165) args).run P w = .ok (.enter (ρ.f 165) args) w := enters_of L.f165 (by kernel_rfl) rfl
 have e166 : ∀ args w, (callFunc (ρ.f 166) args).run P w = .ok (.enter (ρ.f 166) args) w := enters_of L.f166 (by kernel_rfl) rfl
 have e169 : ∀ args w, (callFunc (ρ.f 169) args).run P w = .ok (.enter (ρ.f 169) args) w := enters_of L.f169 (by kernel_rfl) rfl
 go_enter L.f156, Body.n156_ntmps ρ
 go_wp2_with fail
 all_goals (
  go_loop [5, 41] (fun n i => ∃ k : Nat, k ≤ xs.length ∧ i = .int .i64 k ∧ n = .int .i64 ((M + Lib.lens ((xs.map (·.data.toList)).take k) : Nat) : Int)) (fun _ i => xs.length - (intOf i).toNat)
  case atStart => exact ⟨0, Nat.zero_le _, rfl, by first | (simp [Lib.lens]; done) | (have := hM0 (by omega); simp [Lib.lens, this])⟩
  case round =>
   obtain ⟨k, hk, rfl, rfl⟩ := hrel
   by_cases hkn : k < xs.length
   ·obtain ⟨x, hx⟩ : ∃ x, xs[k]? = some x := ⟨xs[k], List.getElem?_eq_getElem hkn⟩
    have hc := HC.out k x hx
    have hstep := Lib.lens_take_succ (xs.map (·.data.toList)) k x.data.toList (by simp [hx])
    have hbound : Lib.lens ((xs.map (·.data.toList)).take (k + 1)) ≤ Lib.lens (xs.map (·.data.toList)) := Lib.lens_take_le _ _
    rw [← Lib.size_eq] at hstep
    generalize hA1 : Lib.lens ((xs.map (·.data.toList)).take (k + 1)) = A1 at hstep hbound
    generalize Lib.lens ((xs.map (·.data.toList)).take k) = A0 at hstep
    have HA1 := Jl.hid hA1
    clear hA1
    go_wp2
    exact ⟨⟨k + 1, by omega, by go_num, by rw [HA1.out]; refine congrArg _ ?_; omega⟩, by simp [intOf]; omega⟩
   ·have hke : k = xs.length := by omega
    subst hke
    have hall : (xs.map (·.data.toList)).take xs.length = xs.map (·.data.toList) := List.take_of_length_le (by simp)
    rw [hall]
    generalize hT : Lib.lens (xs.map (·.data.toList)) = T at hjl
    have HT := Jl.hid hT
    clear hT hall
    go_wp2_with fail
    have hMT : ((M : Int) + (T : Int)) = ((M + T : Nat) : Int) := by omega
    rw [hMT]
    refine (Jl.Builder_Grow_fresh L w.heap.size w.heap.size (M + T) _ (Nat.le_refl _) (heap_alloc_new w _) (by simp) (by omega)).mono ?_
    rintro e w1 ⟨rfl, h1, hb1⟩
    have hb1' : Below w.heap.size w w1 := ((Below.refl w.heap.size w).alloc (Nat.le_refl _) _).trans hb1
    -- the first element
    have hx0 : xs[0]? = some x0 := by rw [Hxs.out]; rfl
    have hc0 : w1.cell? ⟨bk, o, none⟩ = some (.string x0) := by
     rw [hb1'.cell (p := ⟨bk, o, none⟩) hbk]
     exact HC.out 0 x0 hx0
    have H1 := Jl.hid (Or.inr h1 : Lib.IsBuilder (ρ.t 72) (ρ.t 5) w.heap.size w.heap.size [] w1)
    have Hb1 := Jl.hid hb1'
    have hBw1 : w.heap.size ≤ w1.heap.size := hb1'.size
    clear h1 hb1 hb1' hMT
    -- what the builder holds behind k rounds of the second loop; and that it is never longer than the whole
    have hwhole : Lib.join (xs.map (·.data.toList)) sep.data.toList = x0.data.toList ++ Lib.joinTail sep.data.toList (r.map (·.data.toList)) := by
     rw [Hxs.out, List.map_cons, Lib.join_cons]
    have hCle : ∀ k, (x0.data.toList ++ Lib.joinTail sep.data.toList ((r.map (·.data.toList)).take k)).length ≤ 140737488355328 := fun k => by
     have h1 := Hlen.out
     rw [hwhole, List.length_append] at h1
     have h2 := Lib.joinTail_take_le sep.data.toList (r.map (·.data.toList)) k
     rw [List.length_append]
     omega
    have HCle := Jl.hid hCle
    have Hwhole := Jl.hid hwhole
    clear hCle hwhole
    go_wp2_with fail
    refine (Jl.Builder_WriteString L w.heap.size w.heap.size [] x0 w1 H1.out (by have := HCle.out 0; simp [Lib.joinTail] at this ⊢; omega) hBw1).mono ?_
    rintro e w2 ⟨rfl, h2', hb2⟩
    have hstart : ([] : List Value) ++ Lib.strCells x0 = Lib.byteCells (x0.data.toList ++ Lib.joinTail sep.data.toList ((r.map (·.data.toList)).take 0)) := by
     simp [Lib.joinTail, Lib.strCells_eq]
    rw [hstart] at h2'
    have H2 := Jl.hid (Or.inr h2' : Lib.IsBuilder (ρ.t 72) (ρ.t 5) w.heap.size w.heap.size _ w2)
    have Hb2 := Jl.hid (Hb1.out.trans hb2)
    clear h2' hb2 hstart
    have hrl : r.length = xs.length - 1 := by rw [Hxs.out]; simp
    go_wp2_with fail
    go_loopw [65] (fun i wr => ∃ k : Nat, k ≤ r.length ∧ i = .int .i64 k ∧ Hid (Lib.IsBuilder (ρ.t 72) (ρ.t 5) w.heap.size w.heap.size (Lib.byteCells (x0.data.toList ++ Lib.joinTail sep.data.toList ((r.map (·.data.toList)).take k))) wr) ∧ Hid (Below w.heap.size w wr)) (fun i _ => r.length - (intOf i).toNat)
    case atStart => exact ⟨0, Nat.zero_le _, rfl, H2, Hb2⟩
    case round =>
     obtain ⟨k, hk', rfl, HB, HW⟩ := hrel
     by_cases hkr : k < r.length
     ·obtain ⟨y, hy⟩ : ∃ y, r[k]? = some y := ⟨r[k], List.getElem?_eq_getElem hkr⟩
      have hxy : xs[k + 1]? = some y := by rw [Hxs.out]; simpa using hy
      have hcy : wr.cell? ⟨bk, o + 1 + k, none⟩ = some (.string y) := by
       rw [HW.out.cell (p := ⟨bk, o + 1 + k, none⟩) hbk, show o + 1 + k = o + (k + 1) by omega]
       exact HC.out (k + 1) y hxy
      have hBw : w.heap.size ≤ wr.heap.size := HW.out.size
      have hnext : Lib.byteCells (x0.data.toList ++ Lib.joinTail sep.data.toList ((r.map (·.data.toList)).take k)) ++ Lib.strCells sep ++ Lib.strCells y = Lib.byteCells (x0.data.toList ++ Lib.joinTail sep.data.toList ((r.map (·.data.toList)).take (k + 1))) := by
       rw [Lib.joinTail_take_succ sep.data.toList (r.map (·.data.toList)) k y.data.toList (by simp [hy]), Lib.strCells_eq, Lib.strCells_eq, ← Lib.byteCells_append, ← Lib.byteCells_append, List.append_assoc, List.append_assoc, List.append_assoc]
      have hl1 := HCle.out (k + 1)
      rw [Lib.joinTail_take_succ sep.data.toList (r.map (·.data.toList)) k y.data.toList (by simp [hy])] at hl1
      simp only [List.length_append, ← Lib.size_eq] at hl1
      have hl0 : (Lib.byteCells (x0.data.toList ++ Lib.joinTail sep.data.toList ((r.map (·.data.toList)).take k))).length = x0.size + (Lib.joinTail sep.data.toList ((r.map (·.data.toList)).take k)).length := by
       rw [Lib.byteCells_length, List.length_append, ← Lib.size_eq]
      generalize (Lib.joinTail sep.data.toList ((r.map (·.data.toList)).take k)).length = J at hl0 hl1
      have Hn := Jl.hid hnext
      clear hnext hy hxy
      go_wp2_with fail
      refine (Jl.Builder_WriteString L w.heap.size w.heap.size _ sep wr HB.out (by rw [hl0]; omega) hBw).mono ?_
      rintro e w3 ⟨rfl, h3, hb3⟩
      have hBw3 : w.heap.size ≤ w3.heap.size := Nat.le_trans hBw hb3.size
      have H3 := Jl.hid h3
      have Hb3 := Jl.hid hb3
      clear h3 hb3
      go_wp2_with fail
      refine (Jl.Builder_WriteString L w.heap.size w.heap.size _ y w3 (Or.inr H3.out) (by rw [List.length_append, hl0, Lib.strCells_length]; omega) hBw3).mono ?_
      rintro e w4 ⟨rfl, h4, hb4⟩
      rw [Hn.out] at h4
      have H4 := Jl.hid (Or.inr h4 : Lib.IsBuilder (ρ.t 72) (ρ.t 5) w.heap.size w.heap.size _ w4)
      have Hb4 := Jl.hid ((HW.out.trans Hb3.out).trans hb4)
      clear h4 hb4
      go_wp2
      exact ⟨⟨k + 1, by omega, by go_num, H4, Hb4⟩, by simp [intOf]; omega⟩
     ·have hke : k = r.length := by omega
      subst hke
      have hfull : (r.map (·.data.toList)).take r.length = r.map (·.data.toList) := List.take_of_length_le (by simp)
      have hB' := HB.out
      rw [hfull, ← Hwhole.out] at hB'
      have hBw : w.heap.size ≤ wr.heap.size := HW.out.size
      go_wp2_with fail
      refine (Any.Builder_String_any L.ton169 L.toExtra w.heap.size w.heap.size _ wr hB' hBw).mono ?_
      rintro e w5 ⟨rfl, hb5⟩
      have Hb5 := Jl.hid (HW.out.trans hb5)
      clear hb5 hB'
      go_wp2
      go_ret
      exact ⟨rfl, Hb5.out⟩)
theorem Jl.strings_Join (L : JL P ρ) (bk o c : Nat) (xs : List ByteArray) (sep : ByteArray) (w : World)
  (hcells : ∀ (j : Nat) x, xs[j]? = some x → w.cell? ⟨bk, o + j, none⟩ = some (.string x))
  (hbk : bk < w.heap.size) (hN : xs.length ≤ 140737488355328) (hcap : xs.length ≤ c)
  (hlen : (Lib.join (xs.map (·.data.toList)) sep.data.toList).length ≤ 140737488355328) :
  Calls P (ρ.f 156) #[.slice (some ⟨bk, o, none⟩) xs.length c, .string sep] w fun e w' => e = .returned (.string ⟨(Lib.join (xs.map (·.data.toList)) sep.data.toList).toArray⟩) ∧ Below w.heap.size w w' := by
 match xs, hcells, hN, hcap, hlen with
 | [], _, _, _, _ => exact (Jl.strings_Join_none L _ c sep w).mono fun e w' ⟨he, hw⟩ => ⟨he, hw ▸ Below.refl _ _⟩
 | [x], hcells, _, _, _ =>
  refine (Jl.strings_Join_one L bk o c x sep w (hcells 0 x rfl)).mono fun e w' ⟨he, hw⟩ => ⟨?_, hw ▸ Below.refl _ _⟩
  rw [he, List.map_cons, List.map_nil, Lib.join_one, Lib.mk_data]
 | x :: y :: r, hcells, hN, hcap, hlen => exact Jl.strings_Join_many L bk o c (x :: y :: r) sep w hcells hbk (by simp) hN hcap hlen
end Go.Proofs
end

section
namespace Go.Proofs
open Go.Shelf Go.RowKit Go.Ab
variable {P : Program} {ρ : Ren}
theorem sl_inv {w : World} {S : Nat → Nat → Prop} {v : Value} {els : List (List AV)} {f : Fl} (h : CP w S v (.sl els f)) :
  (els = [] ∧ ∃ a, v = .slice a 0 0) ∨ ∃ (blk off z cap : Nat) (u : Nat → Nat → Value), v = .slice (some ⟨blk, off, none⟩) els.length cap ∧ els.length ≤ cap ∧ cap ≤ maxLen ∧
   (∀ (i : Nat) (r : List AV), els[i]? = some r → r.length = z) ∧
   (∀ i j, i < els.length → j < z → S blk (off + i * z + j) ∧ w.cell? ⟨blk, off + i * z + j, none⟩ = some (u i j)) ∧
   (∀ (i : Nat) (r : List AV) (j : Nat) (c : AV), els[i]? = some r → r[j]? = some c → CP w S (u i j) c) := by
 cases h with
 | slnil f hf => exact .inl ⟨rfl, _, rfl⟩
 | slz a f hf => exact .inl ⟨rfl, _, rfl⟩
 | sl blk off z cap els f u hf hfull hcap hmax hz hS hc => exact .inr ⟨blk, off, z, cap, u, rfl, hcap, hmax, hz, fun i j hi hj => ⟨(hS i j hi hj).1, (hS i j hi hj).2.1⟩, hc⟩
theorem s_inv {w : World} {S : Nat → Nat → Prop} {v : Value} {l : List UInt8} (h : CP w S v (.s l)) : v = .string ⟨l.toArray⟩ := by
 cases h with
 | s => rfl
theorem two_args {cargs : Array Value} (h : cargs.size = 2) : ∃ a b, cargs = #[a, b] := by
 obtain ⟨l⟩ := cargs
 match l, h with
 | [a, b], _ => exact ⟨a, b, rfl⟩
theorem one_arg {cargs : Array Value} (h : cargs.size = 1) : ∃ a, cargs = #[a] := by
 obtain ⟨l⟩ := cargs
 match l, h with
 | [a], _ => exact ⟨a, rfl⟩
theorem inter_len (sep : List UInt8) (hs : sep.length ≤ 100) : ∀ ts : List (List UInt8), (∀ t ∈ ts, t.length ≤ 10000) → (Lib.join ts sep).length ≤ 20000 * ts.length
 | [], _ => by simp [Lib.join, List.intercalate]
 | x :: r, h => by
  have key : ∀ r : List (List UInt8), (∀ t ∈ r, t.length ≤ 10000) → Lib.lens r ≤ 10000 * r.length := by
   intro r
   induction r with
   | nil => intro _; simp [Lib.lens]
   | cons y r ih =>
    intro h
    have h1 := ih fun t ht => h t (List.mem_cons_of_mem _ ht)
    have h2 := h y List.mem_cons_self
    simp only [Lib.lens, List.map_cons, List.sum_cons, List.length_cons] at h1 ⊢
    omega
  rw [Lib.join_length]
  have h1 := key (x :: r) h
  have h2 := Nat.mul_le_mul_right r.length hs
  simp only [List.length_cons] at h1 ⊢
  omega
theorem join_pcall (L : JL P ρ) : ∀ xs r, prim183 xs = some r → PCall P (ρ.f 156) xs (· = r) := by
 intro xs r h
 unfold prim183 at h
 split at h
 ·split at h
  ·rename_i els sep hl
   cases ht : els.mapM textOf with
   | none => rw [ht] at h; cases h
   | some ts =>
    rw [ht] at h
    cases h
    obtain ⟨he, hb⟩ := texts_rows ht
    refine ⟨enters_of L.f156 (by kernel_rfl) rfl, fun w S cargs hsz hC hS => ?_⟩
    obtain ⟨v0, v1, rfl⟩ := two_args hsz
    have c0 := hC 0 _ _ rfl rfl
    have c1 := s_inv (hC 1 _ _ rfl rfl)
    subst c1
    have htl : ts.length ≤ 1000 := by rw [he, rowsT_length] at hl; exact hl.1
    have done : ∀ {Q : World → Prop}, (∀ w', Q w' → Below w.heap.size w w') → Calls P (ρ.f 156) #[v0, .string ⟨sep.toArray⟩] w (fun e w' => e = .returned (.string ⟨(List.intercalate sep ts).toArray⟩) ∧ Q w') →
      Calls P (ρ.f 156) #[v0, .string ⟨sep.toArray⟩] w fun e w' => ∃ v r, e = .returned v ∧ r = AV.s (List.intercalate sep ts) ∧ Below w.heap.size w w' ∧ CP w' (fun k o => S k o ∨ (w.heap.size ≤ k ∧ k < w'.heap.size)) v r := by
     intro Q hQ hc
     refine hc.mono ?_
     rintro e w' ⟨rfl, hb⟩
     exact ⟨_, _, rfl, rfl, hQ _ hb, .s _⟩
    rcases sl_inv c0 with ⟨h0, a, rfl⟩ | ⟨blk, off, z, cap, u, rfl, hcap, hmax, hz, hcell, hcp⟩
    ·have h1 : ts = [] := by
      rw [he] at h0
      exact List.eq_nil_of_length_eq_zero (by rw [← rowsT_length ts, h0]; rfl)
     subst h1
     refine done (Q := fun w' => w' = w) (fun w' h => h ▸ Below.refl _ _) ?_
     exact Jl.strings_Join_none L a 0 ⟨sep.toArray⟩ w
    ·have hel : els.length = ts.length := by rw [he, rowsT_length]
     have hcells : ∀ (j : Nat) x, (ts.map fun t => (⟨t.toArray⟩ : ByteArray))[j]? = some x → S blk (off + j) ∧ w.cell? ⟨blk, off + j, none⟩ = some (.string x) := by
      intro j x hx
      rw [List.getElem?_map] at hx
      cases ht2 : ts[j]? with
      | none => rw [ht2] at hx; cases hx
      | some t =>
       rw [ht2] at hx
       cases hx
       have hj : els[j]? = some [.s t] := by rw [he]; simp [rowsT, ht2]
       have hz1 : 1 = z := hz j _ hj
       subst hz1
       have hjl : j < els.length := (List.getElem?_eq_some_iff.1 hj).1
       obtain ⟨h1, h2⟩ := hcell j 0 hjl Nat.one_pos
       have h3 := s_inv (hcp j _ 0 (.s t) hj rfl)
       rw [h3] at h2
       simp only [Nat.mul_one, Nat.add_zero] at h1 h2
       exact ⟨h1, h2⟩
     cases hts : ts with
     | nil =>
      subst hts
      rw [show els.length = 0 from hel] at done ⊢
      refine done (Q := fun w' => w' = w) (fun w' h => h ▸ Below.refl _ _) ?_
      exact Jl.strings_Join_none L _ cap ⟨sep.toArray⟩ w
     | cons t0 tr =>
      rw [← hts]
      have hblk : blk < w.heap.size := hS _ _ (hcells 0 ⟨t0.toArray⟩ (by rw [hts]; rfl)).1
      have hm : (ts.map fun t => (⟨t.toArray⟩ : ByteArray)).map (·.data.toList) = ts := by rw [List.map_map]; simp [Function.comp_def]
      have hj := Jl.strings_Join L blk off cap (ts.map fun t => (⟨t.toArray⟩ : ByteArray)) ⟨sep.toArray⟩ w (fun j x hx => (hcells j x hx).2) hblk (by rw [List.length_map]; omega) (by rw [List.length_map]; omega)
       (by rw [hm]; have := inter_len sep hl.2 ts hb; show (Lib.join ts sep).length ≤ _; omega)
      rw [hm, List.length_map, ← hel] at hj
      exact done (fun _ h => h) hj
  ·cases h
 ·cases h
end Go.Proofs
end

section
namespace Go.Proofs
open Go.Shelf Go.RowKit
set_option maxRecDepth 100000
def Try.jren : Ren := ⟨fun | 156 => 22 | 165 => 30 | 166 => 31 | 169 => 32 | 240 => 34 | 241 => 35 | 277 => 38 | n => n, fun | 0 => 0 | 1 => 1 | 2 => 2 | 3 => 3 | 4 => 4 | 5 => 5 | 6 => 6 | 7 => 7 | 8 => 8 | 9 => 9 | 10 => 10 | 11 => 11 | 12 => 12 | 13 => 13 | 14 => 14 | 15 => 15 | 16 => 16 | 17 => 17 | 18 => 18 | 19 => 19 | 20 => 20 | 21 => 21 | 27 => 63 | 31 => 47 | 37 => 53 | 41 => 51 | 46 => 68 | 48 => 44 | 51 => 69 | 55 => 67 | 59 => 49 | 60 => 50 | 67 => 48 | 70 => 52 | 71 => 54 | 72 => 55 | 73 => 56 | 74 => 57 | 75 => 58 | 76 => 59 | 77 => 60 | 80 => 61 | 81 => 77 | 104 => 33 | 114 => 45 | 127 => 62 | 146 => 70 | 151 => 71 | 164 => 64 | 165 => 65 | 166 => 66 | n => n, fun n => n⟩
theorem Try.joinLaid : JL Try.prog Try.jren := {
  mixed := by kernel_rfl,
  f169 := Try.func32.trans (congrArg some (by kernel_rfl)),
  t0 := Try.underlying0,
  a0 := Try.isAgg0,
  z0 := Try.sizeOf0,
  v0 := Try.zeroValue0,
  t3 := Try.underlying3,
  a3 := Try.isAgg3,
  z3 := Try.sizeOf3,
  v3 := Try.zeroValue3,
  t9 := Try.underlying9,
  a9 := Try.isAgg9,
  z9 := Try.sizeOf9,
  v9 := Try.zeroValue9,
  t37 := Try.underlying53,
  a37 := Try.isAgg53,
  z37 := Try.sizeOf53,
  v37 := Try.zeroValue53,
  t70 := Try.underlying52,
  a70 := Try.isAgg52,
  z70 := Try.sizeOf52,
  v70 := Try.zeroValue52,
  t72 := Try.underlying55,
  a72 := Try.isAgg55,
  z72 := Try.sizeOf55,
  v72 := Try.zeroValue55,
  t127 := Try.underlying62,
  a127 := Try.isAgg62,
  z127 := Try.sizeOf62,
  v127 := Try.zeroValue62,
  f241 := Try.func35.trans (congrArg some (by kernel_rfl)),
  f277 := Try.func38.trans (congrArg some (by kernel_rfl)),
  sizeBuilder := by kernel_rfl,
  liesBuilder := by kernel_rfl,
  t5 := Try.underlying5,
  a5 := Try.isAgg5,
  z5 := Try.sizeOf5,
  v5 := Try.zeroValue5,
  infoByte := by kernel_rfl,
  cellsByte := by kernel_rfl,
  sizeByte := by kernel_rfl,
  neB5 := by decide,
  f156 := Try.func22.trans (congrArg some (by kernel_rfl)),
  f165 := Try.func30.trans (congrArg some (by kernel_rfl)),
  f166 := Try.func31.trans (congrArg some (by kernel_rfl)),
  t4 := Try.underlying4,
  a4 := Try.isAgg4,
  z4 := Try.sizeOf4,
  v4 := Try.zeroValue4,
  t20 := Try.underlying20,
  a20 := Try.isAgg20,
  z20 := Try.sizeOf20,
  v20 := Try.zeroValue20,
  t31 := Try.underlying47,
  a31 := Try.isAgg47,
  z31 := Try.sizeOf47,
  v31 := Try.zeroValue47,
  t75 := Try.underlying58,
  a75 := Try.isAgg58,
  z75 := Try.sizeOf58,
  v75 := Try.zeroValue58,
  t76 := Try.underlying59,
  a76 := Try.isAgg59,
  z76 := Try.sizeOf59,
  v76 := Try.zeroValue59,
  t164 := Try.underlying64,
  a164 := Try.isAgg64,
  z164 := Try.sizeOf64,
  v164 := Try.zeroValue64,
  e240 := enters_of Try.func34 (by kernel_rfl) rfl,
  c240 := fun B b bs w h => Try.bCheck B b bs w h,
  c240f := fun b w h0 h1 h2 => Try.bCheck_fresh b w h0 h1 h2 }
end Go.Proofs
namespace Go.Proofs.Ytaclblccdlpblaa
open Go.Ab
theorem join_ok : ∀ xs r, prim183 xs = some r → PCall Try.prog (nu 183) xs (· = r) := by
  have e : nu 183 = Try.jren.f 156 := by kernel_rfl
  rw [e]
  exact join_pcall Try.joinLaid
end Go.Proofs.Ytaclblccdlpblaa
end

section
namespace Go.Ab
def sg (n : Bool) (k : Nat) : Int := if n then -(k : Int) else k
def wv (n : Bool) (a : List UInt32) : Int := sg n (val a)
abbrev wh (n : Bool) (a : List UInt32) : AV := .agg [.b n, .sl (u32s a) .an]
abbrev ez (z : Int) : AV := wh (decide (z < 0)) (ofN z.natAbs)
def sgI (z : Int) : Int := if z < 0 then -1 else if z = 0 then 0 else 1
@[simp] theorem wv_ez (z : Int) : wv (decide (z < 0)) (ofN z.natAbs) = z := by
 unfold wv
 rw [val_ofN]
 by_cases h : z < 0
 ·simp [sg, h]; omega
 ·simp [sg, h]; omega
def textZ (z : Int) : List UInt8 := if z < 0 then 45 :: textN z.natAbs else textN z.natAbs
def readZ (l : List UInt8) : Int := sg (l.head? = some 45) (rd (if l.head? = some 45 then l.tail else l))
def wrongZ (l : List UInt8) : Int := wrongI (if l.head? = some 45 then l.tail else l)
def minus (l : List UInt8) : Int := if l.head? = some 45 then 1 else 0
end Go.Ab
end

section
namespace Go.Ab
def prim344 : List AV → Option AV
 | [.s s, .s [47, 46]] => if s.length ≤ 1000000 then some (.i .i64 (Lib.indexAny s [47, 46])) else none
 | _ => none
def prim194 : List AV → Option AV
 | [.s s, .s [c]] => some (.i .i64 (Lib.indexByte s c))
 | _ => none
def prim361 : List AV → Option AV
 | [.s s, .s [c]] => some (.i .i64 (Lib.countByte s c))
 | _ => none
def prim343 : List AV → Option AV
 | [.s [48], .i .i64 n] => if 0 ≤ n ∧ n ≤ 64 then some (.s (List.replicate n.toNat 48)) else none
 | _ => none
end Go.Ab
end

section
namespace Go.Proofs
open Go.Shelf Go.RowKit Go.Ab
variable {P : Program} {ρ : Ren}
theorem bytes_size (s : List UInt8) : (⟨s.toArray⟩ : ByteArray).size = s.length := by simp [ByteArray.size]
theorem bytes_list (s : List UInt8) : (⟨s.toArray⟩ : ByteArray).data.toList = s := by simp
end Go.Proofs
end

section
namespace Go.Proofs
open Go.Shelf Go.RowKit Go.Lib
variable {P : Program} {ρ : Ren}
abbrev slashDot : ByteArray := ⟨#[47, 46]⟩
end Go.Proofs
end

section
set_option linter.unusedVariables false
namespace Go.Proofs
open Go.Shelf Go.RowKit Go.Lib Go.Ab
variable {P : Program} {ρ : Ren}
set_option maxHeartbeats 2000000 in
set_option maxRecDepth 100000 in
theorem cut_one_lite (L : Lays.n220 P ρ) (s : ByteArray) (w : World) (hs : s.size < 4294967281) :
  Calls P (ρ.f 220) #[.string s, .string ⟨#[10]⟩] w fun e w' => e = .returned (.tuple #[.string ⟨(Lib.cut s.data.toList [10]).1.toArray⟩, .string ⟨(Lib.cut s.data.toList [10]).2.1.toArray⟩, .bool (Lib.cut s.data.toList [10]).2.2]) ∧ ∃ n, w' = w.drewN n := by
 have hone : Lib.index s.data.toList [10] = Lib.indexByte s.data.toList 10 := Lib.index_one _ _
 rcases Lib.indexB_cases s ⟨#[10]⟩ with hix | ⟨i, hix, hroom⟩
 ·obtain ⟨e1, e2, e3⟩ := Lib.cutB_miss s ⟨#[10]⟩ hix
  have hib : Lib.indexByte s.data.toList 10 = -1 := hone.symm.trans hix
  change (⟨(Lib.cut s.data.toList [10]).1.toArray⟩ : ByteArray) = s at e1
  change (⟨(Lib.cut s.data.toList [10]).2.1.toArray⟩ : ByteArray) = ByteArray.empty at e2
  change (Lib.cut s.data.toList [10]).2.2 = false at e3
  rw [e1, e2, e3]
  have t3 := L.t3; have t4 := L.t4; have t9 := L.t9
  have a3 : ∀ w, (isAgg (ρ.t 3)).run P w = .ok false w := run_isAgg_plain L.t3 rfl; have a4 : ∀ w, (isAgg (ρ.t 4)).run P w = .ok false w := run_isAgg_plain L.t4 rfl; have a9 : ∀ w, (isAgg (ρ.t 9)).run P w = .ok false w := run_isAgg_plain L.t9 rfl
  have e219 : ∀ args w, (callFunc (ρ.f 219) args).run P w = .ok (.enter (ρ.f 219) args) w := enters_of L.f219 (by kernel_rfl) rfl
  have mixed := L.mixed; have z3 := L.z3; have v3 := L.v3; have z4 := L.z4; have v4 := L.v4; have z9 := L.z9; have v9 := L.v9
  go_enter L.f220, Body.n220_ntmps ρ
  go_wp2_with (go_at_fn (ρ.f 219); refine (Any.stringslite_Index_one { L with } _ 10 _).mono ?_; rintro e w' ⟨rfl, rfl⟩; rw [hib])
  go_ret3
  exact ⟨rfl, 0, rfl⟩
 ·obtain ⟨e1, e2, e3⟩ := Lib.cutB_hit s ⟨#[10]⟩ i hix
  have hib : Lib.indexByte s.data.toList 10 = (i : Int) := hone.symm.trans hix
  have hsz : (⟨#[10]⟩ : ByteArray).size = 1 := rfl
  rw [hsz] at hroom e2
  change (⟨(Lib.cut s.data.toList [10]).1.toArray⟩ : ByteArray) = s.extract 0 i at e1
  change (⟨(Lib.cut s.data.toList [10]).2.1.toArray⟩ : ByteArray) = s.extract (i + 1) s.size at e2
  change (Lib.cut s.data.toList [10]).2.2 = true at e3
  rw [e1, e2, e3]
  have c1 : (0 : Int) ≤ ↑i := by omega
  have c2 : (↑i : Int) ≤ ↑s.size := by omega
  have c3 : (0 : Int) ≤ ↑i + 1 := by omega
  have c4 : (↑i + 1 : Int) ≤ ↑s.size := by omega
  have t3 := L.t3; have t4 := L.t4; have t9 := L.t9
  have a3 : ∀ w, (isAgg (ρ.t 3)).run P w = .ok false w := run_isAgg_plain L.t3 rfl; have a4 : ∀ w, (isAgg (ρ.t 4)).run P w = .ok false w := run_isAgg_plain L.t4 rfl; have a9 : ∀ w, (isAgg (ρ.t 9)).run P w = .ok false w := run_isAgg_plain L.t9 rfl
  have e219 : ∀ args w, (callFunc (ρ.f 219) args).run P w = .ok (.enter (ρ.f 219) args) w := enters_of L.f219 (by kernel_rfl) rfl
  have mixed := L.mixed; have z3 := L.z3; have v3 := L.v3; have z4 := L.z4; have v4 := L.v4; have z9 := L.z9; have v9 := L.v9
  go_enter L.f220, Body.n220_ntmps ρ
  go_wp2_with (go_at_fn (ρ.f 219); refine (Any.stringslite_Index_one { L with } _ 10 _).mono ?_; rintro e w' ⟨rfl, rfl⟩; rw [hib])
  go_region_o
  go_wp2
  go_ret3
  exact ⟨rfl, 1, rfl⟩
set_option maxHeartbeats 1000000 in
theorem cut_one (L : Lays.n145 P ρ) (s : ByteArray) (w : World) (hs : s.size < 4294967281) :
  Calls P (ρ.f 145) #[.string s, .string ⟨#[10]⟩] w fun e w' => e = .returned (.tuple #[.string ⟨(Lib.cut s.data.toList [10]).1.toArray⟩, .string ⟨(Lib.cut s.data.toList [10]).2.1.toArray⟩, .bool (Lib.cut s.data.toList [10]).2.2]) ∧ ∃ n, w' = w.drewN n := by
 have t4 := L.t4; have t9 := L.t9; have t59 := L.t59
 have a4 : ∀ w, (isAgg (ρ.t 4)).run P w = .ok false w := run_isAgg_plain L.t4 rfl; have a9 : ∀ w, (isAgg (ρ.t 9)).run P w = .ok false w := run_isAgg_plain L.t9 rfl; have a59 : ∀ w, (isAgg (ρ.t 59)).run P w = .ok false w := run_isAgg_plain L.t59 rfl
 have e220 : ∀ args w, (callFunc (ρ.f 220) args).run P w = .ok (.enter (ρ.f 220) args) w := enters_of L.f220 (by kernel_rfl) rfl
 have mixed := L.mixed; have z4 := L.z4; have v4 := L.v4; have z9 := L.z9; have v9 := L.v9; have z59 := L.z59; have v59 := L.v59
 go_enter L.f145, Body.n145_ntmps ρ
 go_wp2_with (go_at_fn (ρ.f 220); refine (cut_one_lite { L with } _ _ hs).mono ?_; rintro e w' ⟨rfl, n, rfl⟩)
 go_ret3
 exact ⟨rfl, n, rfl⟩
theorem indexByte_tw : ∀ (l : List UInt8), (Lib.indexByte l 10 = -1 ∧ l.takeWhile (· != 10) = l ∧ l.dropWhile (· != 10) = [] ∧ l.contains 10 = false) ∨
  (∃ i : Nat, Lib.indexByte l 10 = i ∧ l.takeWhile (· != 10) = l.take i ∧ (l.dropWhile (· != 10)).drop 1 = l.drop (i + 1) ∧ l.contains 10 = true)
 | [] => .inl ⟨rfl, rfl, rfl, rfl⟩
 | c :: r => by
  by_cases hc : c = 10
  ·subst hc
   right
   exact ⟨0, by simp [Lib.indexByte], by simp, by simp, by simp⟩
  ·have hb : (c != 10) = true := by simpa using hc
   have hb2 : (10 == c) = false := by
    rw [beq_eq_false_iff_ne]
    exact fun h => hc h.symm
   rcases indexByte_tw r with ⟨h1, h2, h3, h4⟩ | ⟨i, h1, h2, h3, h4⟩
   ·left
    refine ⟨by simp [Lib.indexByte, hc, h1], ?_, ?_, ?_⟩
    ·rw [List.takeWhile_cons_of_pos (p := (· != 10)) hb, h2]
    ·rw [List.dropWhile_cons_of_pos (p := (· != 10)) hb, h3]
    ·rw [List.contains_cons, hb2, h4]; rfl
   ·right
    refine ⟨i + 1, ?_, ?_, ?_, ?_⟩
    ·have hne : ¬ (i : Int) = -1 := by omega
     simp [Lib.indexByte, hc, h1, hne]
    ·rw [List.takeWhile_cons_of_pos (p := (· != 10)) hb, h2]; rfl
    ·rw [List.dropWhile_cons_of_pos (p := (· != 10)) hb, h3]; rfl
    ·rw [List.contains_cons, hb2, h4]; rfl
theorem cut_lines (l : List UInt8) : Lib.cut l [10] = (l.takeWhile (· != 10), (l.dropWhile (· != 10)).drop 1, l.contains 10) := by
 unfold Lib.cut
 rw [Lib.index_one]
 rcases indexByte_tw l with ⟨h1, h2, h3, h4⟩ | ⟨i, h1, h2, h3, h4⟩
 ·rw [h1, if_neg (by decide), h2, h3, h4]; rfl
 ·rw [h1, if_pos (by omega), h2, h3, h4]; rfl
theorem cut_pcall (L : Lays.n145 P ρ) : ∀ xs r, prim184 xs = some r → PCall P (ρ.f 145) xs (· = r) := by
 intro xs r h
 unfold prim184 at h
 split at h
 ·rename_i l
  split at h
  ·rename_i hl
   cases h
   refine ⟨enters_of L.f145 (by kernel_rfl) rfl, fun w S cargs hsz hC hS => ?_⟩
   obtain ⟨v0, v1, rfl⟩ := two_args hsz
   have c0 := s_inv (hC 0 _ _ rfl rfl)
   have c1 := s_inv (hC 1 _ _ rfl rfl)
   subst c0 c1
   have := cut_one L ⟨l.toArray⟩ w (by rw [bytes_size]; omega)
   rw [bytes_list, cut_lines] at this
   refine this.mono ?_
   rintro e w' ⟨rfl, n, rfl⟩
   refine ⟨_, _, rfl, rfl, ⟨rfl, rfl, rfl, Nat.le_refl _, fun _ _ => rfl⟩, .tup _ _ rfl fun j v c hv hc => ?_⟩
   match j, hv, hc with
   | 0, hv, hc => cases hv; cases hc; exact .s _
   | 1, hv, hc => cases hv; cases hc; exact .s _
   | 2, hv, hc => cases hv; cases hc; exact .b _
  ·cases h
 ·cases h
end Go.Proofs
end

section
namespace Go.Proofs
open Go.Shelf Go.RowKit
set_option maxRecDepth 100000
def Try.sren : Ren := ⟨fun | 145 => 23 | 217 => 39 | 219 => 36 | 220 => 33 | 224 => 41 | 225 => 40 | 266 => 43 | 267 => 42 | 314 => 44 | n => n, fun | 3 => 3 | 4 => 4 | 5 => 5 | 9 => 9 | 46 => 68 | 51 => 69 | 59 => 49 | 146 => 70 | n => n, fun | 1 => 0 | n => n⟩
theorem Try.lays145 : Lays.n145 Try.prog Try.sren := {
  mixed := by kernel_rfl,
  f145 := Try.func23.trans (congrArg some (by kernel_rfl)),
  f217 := Try.func39.trans (congrArg some (by kernel_rfl)),
  f219 := Try.func36.trans (congrArg some (by kernel_rfl)),
  f220 := Try.func33.trans (congrArg some (by kernel_rfl)),
  f224 := Try.func41.trans (congrArg some (by kernel_rfl)),
  f225 := Try.func40.trans (congrArg some (by kernel_rfl)),
  f266 := Try.func43.trans (congrArg some (by kernel_rfl)),
  f267 := Try.func42.trans (congrArg some (by kernel_rfl)),
  f314 := Try.func44.trans (congrArg some (by kernel_rfl)),
  t3 := Try.underlying3,
  a3 := Try.isAgg3,
  z3 := Try.sizeOf3,
  v3 := Try.zeroValue3,
  t4 := Try.underlying4,
  a4 := Try.isAgg4,
  z4 := Try.sizeOf4,
  v4 := Try.zeroValue4,
  t5 := Try.underlying5,
  a5 := Try.isAgg5,
  z5 := Try.sizeOf5,
  v5 := Try.zeroValue5,
  t9 := Try.underlying9,
  a9 := Try.isAgg9,
  z9 := Try.sizeOf9,
  v9 := Try.zeroValue9,
  t46 := Try.underlying68,
  a46 := Try.isAgg68,
  z46 := Try.sizeOf68,
  v46 := Try.zeroValue68,
  t51 := Try.underlying69,
  a51 := Try.isAgg69,
  z51 := Try.sizeOf69,
  v51 := Try.zeroValue69,
  t59 := Try.underlying49,
  a59 := Try.isAgg49,
  z59 := Try.sizeOf49,
  v59 := Try.zeroValue49,
  t146 := Try.underlying70,
  a146 := Try.isAgg70,
  z146 := Try.sizeOf70,
  v146 := Try.zeroValue70,
  g1 := by kernel_rfl }
end Go.Proofs
namespace Go.Proofs.Ytaclblccdlpblaa
open Go.Ab
theorem str184_ok : ∀ xs r, prim184 xs = some r → PCall Try.prog (nu 184) xs (· = r) := by
  have e : nu 184 = Try.sren.f 145 := by kernel_rfl
  rw [e]
  exact cut_pcall Try.lays145
end Go.Proofs.Ytaclblccdlpblaa
end

section
namespace Go.Proofs.Ytaclblccdlpblaa
open Go Go.Ab Go.RowKit
def signS : ByteArray := ⟨#[43, 45, 42, 47, 94, 40, 41, 91, 93, 44, 59, 61]⟩
theorem signS_lt : ∀ (p : Nat) (h : p < signS.size), (signS[p]'h).toNat < 128 := by decide
theorem sign_at (c : Nat) (hc : c < 256) : signB.contains (UInt8.ofNat c) = decide (∃ p, ∃ h : p < signS.size, (signS[p]'h).toNat = c) := by
  rw [Bool.eq_iff_iff, decide_eq_true_iff]
  have : ∀ c, c < 256 → (signB.contains (UInt8.ofNat c) = true ↔ ∃ p, ∃ h : p < signS.size, (signS[p]'h).toNat = c) := by decide +kernel
  exact this c hc
set_option maxHeartbeats 1000000 in
set_option maxRecDepth 100000 in
theorem sign_calls (c : Nat) (hc : c < 256) (w : World) : Calls Try.prog 26 #[.int .u8 (c : Int)] w fun e w' => e = .returned (.bool (signB.contains (UInt8.ofNat c))) ∧ Below w.heap.size w w' := by
  rw [sign_at c hc]
  go_enter Try.func26, Try.ntmps26
  go_wp2
  go_loopw [] (fun wr => ∃ pos : Nat, wr.heap[w.heap.size]? = some (.stringIter signS pos) ∧ Below w.heap.size w wr ∧ ∀ j, j < pos → ∀ h : j < signS.size, (signS[j]'h).toNat ≠ c) (fun wr => signS.size - wr.iterPos w.heap.size)
  case atStart =>
    refine ⟨0, World.iter_heap w signS 0, ?_, fun j hj => absurd hj (Nat.not_lt_zero _)⟩
    exact (Below.refl _ w).alloc (Nat.le_refl _) _
  case round =>
    obtain ⟨pos, hit, hbw, hne⟩ := hrel
    by_cases hp : pos < signS.size
    · have hnx : ∀ ty, (Instr.next (.pointer (some ⟨w.heap.size, 0, none⟩)) true ty).run Try.prog wr = _ := fun ty => Lib.run_next_ascii_at wr w.heap.size signS pos ty hit hp (signS_lt pos hp)
      have hit2 := Lib.iterAt_heap wr w.heap.size signS pos (pos + 1) hit
      have hbw2 := Lib.below_iterAt hbw (k := w.heap.size) (Nat.le_refl _) signS (pos + 1)
      obtain ⟨x, hx⟩ : ∃ x : Nat, (signS[pos]'hp).toNat = x := ⟨_, rfl⟩
      have hx1 := signS_lt pos hp
      rw [hx] at hnx hx1
      have hwr : IntKind.u8.wrap (x : Int) = (x : Int) := by rw [IntKind.wrap_u8]; omega
      by_cases hxc : x = c
      · subst hxc
        go_wp2
        go_ret
        exact ⟨by rw [decide_eq_true ⟨pos, hp, hx⟩]; rfl, hbw2⟩
      · have hxc' : ¬ (x : Int) = (c : Int) := by omega
        go_wp2
        go_roundw
        case rel =>
          refine ⟨pos + 1, hit2, hbw2, fun j hj h => ?_⟩
          rcases Nat.lt_or_ge j pos with h1 | h1
          · exact hne j h1 h
          · obtain rfl : j = pos := by omega
            rw [hx]
            exact hxc
        case measure =>
          simp only [World.iterPos, hit2, hit]
          omega
    · have hnx : ∀ ty, (Instr.next (.pointer (some ⟨w.heap.size, 0, none⟩)) true ty).run Try.prog wr = _ := fun ty => Lib.run_next_end_at wr w.heap.size signS pos ty hit hp
      go_wp2
      go_ret
      have hno : ¬ ∃ p, ∃ h : p < signS.size, (signS[p]'h).toNat = c := by
        rintro ⟨p, h, hpc⟩
        exact hne p (by omega) h hpc
      exact ⟨by rw [decide_eq_false hno]; rfl, hbw⟩
end Go.Proofs.Ytaclblccdlpblaa
end

section
namespace Go.Ab
theorem inter_snocW (c : List UInt8) : ∀ (ts : List (List UInt8)) (t : List UInt8), ts ≠ [] → List.intercalate c (ts ++ [t]) = List.intercalate c ts ++ (c ++ t)
 | [], _, h => absurd rfl h
 | [a], t, _ => by simp [List.intercalate, List.intersperse]
 | a :: b :: r, t, _ => by
  have ih := inter_snocW c (b :: r) t (by simp)
  simp only [List.intercalate, List.cons_append, List.intersperse, List.flatten_cons] at ih ⊢
  rw [ih]
  simp only [List.append_assoc]
theorem inter_boundW {K : Nat} : ∀ (ts : List (List UInt8)), (∀ t ∈ ts, t.length ≤ K) → (List.intercalate [32] ts).length ≤ ts.length * (K + 1)
 | [], _ => by simp [List.intercalate]
 | [a], h => by
  have := h a List.mem_cons_self
  simp [List.intercalate]
  omega
 | a :: b :: r, h => by
  have ih := inter_boundW (b :: r) fun t ht => h t (List.mem_cons_of_mem _ ht)
  have ha := h a List.mem_cons_self
  simp only [List.intercalate, List.intersperse, List.flatten_cons, List.length_append, List.length_cons, List.length_nil] at ih ⊢
  rw [Nat.succ_mul]
  omega
theorem scanL_pre : ∀ (n : Nat) (l : List UInt8) (i : Nat) (acc ws : List Wd), l.length = n → scanL l i acc = .ok ws → ∃ r, ws = acc ++ r := by
 intro n
 induction n using Nat.strongRecOn with
 | _ n ih =>
  intro l i acc ws hl h
  cases l with
  | nil => rw [scanL_nil] at h; cases h; exact ⟨[], by simp⟩
  | cons c r =>
   rw [scanL_cons] at h
   split at h
   ·cases h
   ·split at h
    ·cases h
    ·obtain ⟨r', hr'⟩ := ih _ (by simp only [List.length_drop, List.length_cons] at hl ⊢; omega) _ _ _ _ rfl h
     exact ⟨_, by rw [hr', List.append_assoc]⟩
def oneB (k : Int) (t : List UInt8) : Except Nat (List Wd) → Bool
 | .ok [(k', t', _)] => decide ((k' : Int) = k) && decide (t' = t)
 | _ => false
theorem firstN_le (k : Nat) (r : List UInt8) : 1 ≤ firstN k r ∧ firstN k r ≤ r.length + 1 := by
 unfold firstN
 have := (List.takeWhile_sublist (moreN k) (l := r)).length_le
 omega
theorem oneB_right (k : Int) (t : List UInt8) (ht : t.length ≤ 4000) : oneB k t (scanT t) = rightB k t := by
 unfold scanT
 rw [if_neg (by omega)]
 cases t with
 | nil => simp [skipC, scanL_nil, oneB, rightB]
 | cons c r =>
  simp only [List.length_cons] at ht
  by_cases hsk : skipC false (c :: r) = 0
  ·rw [hsk, List.drop_zero, scanL_cons]
   obtain ⟨f1, f2⟩ := firstN_le (kindN c) r
   by_cases hk : kindN c = 0
   ·rw [if_pos hk]
    simp only [oneB, rightB, hk]
    by_cases hk0 : k = 0
    ·simp [hk0]
    ·have : ¬ (0 : Int) = k := fun h => hk0 h.symm
     simp [this]
   ·rw [if_neg hk]
    by_cases hm : mostN (kindN c) < firstN (kindN c) r
    ·rw [if_pos hm]
     simp only [oneB, rightB]
     by_cases hfl : firstN (kindN c) r = r.length + 1
     ·have : ¬ r.length + 1 ≤ mostN (kindN c) := by omega
      simp [this]
     ·simp [hfl]
    ·rw [if_neg hm, List.nil_append]
     by_cases hfl : firstN (kindN c) r = r.length + 1
     ·have e1 : r.drop (firstN (kindN c) r - 1) = [] := by
       rw [hfl]
       exact List.drop_eq_nil_of_le (by omega)
      have e2 : (c :: r).take (firstN (kindN c) r) = c :: r := by
       rw [hfl]
       exact List.take_of_length_le (by simp)
      rw [e1, e2]
      simp only [skipC, List.drop_nil, scanL_nil, oneB, rightB, hfl]
      have : r.length + 1 ≤ mostN (kindN c) := by omega
      by_cases hkk : (kindN c : Int) = k
      ·have hk0 : k ≠ 0 := by omega
       simp [hkk, hk0, this]
      ·simp [hkk]
     ·have hfalse : rightB k (c :: r) = false := by simp [rightB, hfl]
      rw [hfalse]
      generalize hws : scanL ((r.drop (firstN (kindN c) r - 1)).drop (skipC false (r.drop (firstN (kindN c) r - 1)))) (0 + firstN (kindN c) r + skipC false (r.drop (firstN (kindN c) r - 1))) [(kindN c, (c :: r).take (firstN (kindN c) r), 0)] = res
      cases res with
      | error e => rfl
      | ok ws =>
       obtain ⟨x, hx⟩ := scanL_pre _ _ _ _ _ rfl hws
       rw [hx]
       cases x with
       | nil =>
        simp only [List.append_nil, oneB]
        have hne : ¬ (c :: r).take (firstN (kindN c) r) = c :: r := fun h => by
         have := congrArg List.length h
         rw [List.length_take, List.length_cons] at this
         omega
        rw [decide_eq_false hne, Bool.and_false]
       | cons y x => rfl
  ·have hle := skipC_le false (c :: r)
   have hk : kindN c = 0 ∨ isB c = true ∨ c = 35 := by
    right
    by_cases hb : ((if c = 35 then true else if c = 10 then false else false) || isB c) = true
    ·by_cases h35 : c = 35
     ·exact .inr h35
     ·simp [h35] at hb
      exact .inl hb
    ·exfalso
     apply hsk
     simp only [skipC]
     rw [if_neg hb]
   have hk0 : kindN c = 0 := by
    rcases hk with h | h | h
    ·exact h
    ·simp only [isB, Bool.or_eq_true, decide_eq_true_eq] at h
     rcases h with ((rfl | rfl) | rfl) | rfl <;> decide
    ·subst h; decide
   have hr : rightB k (c :: r) = false := by
    simp only [rightB, hk0]
    by_cases hk0 : k = 0
    ·simp [hk0]
    ·have : ¬ (0 : Int) = k := fun h => hk0 h.symm
     simp [this]
   rw [hr]
   -- every word is shorter than the text
   have key : ∀ (l : List UInt8) (i : Nat), l.length < (c :: r).length → oneB k (c :: r) (scanL l i []) = false := by
    intro l i hl
    cases l with
    | nil => rw [scanL_nil]; rfl
    | cons d q =>
     rw [scanL_cons]
     split
     ·rfl
     ·split
      ·rfl
      ·generalize hws : scanL ((q.drop (firstN (kindN d) q - 1)).drop (skipC false (q.drop (firstN (kindN d) q - 1)))) (i + firstN (kindN d) q + skipC false (q.drop (firstN (kindN d) q - 1))) ([] ++ [(kindN d, (d :: q).take (firstN (kindN d) q), i)]) = res
       cases res with
       | error e => rfl
       | ok ws =>
        obtain ⟨x, hx⟩ := scanL_pre _ _ _ _ _ rfl hws
        rw [hx]
        cases x with
        | nil =>
         simp only [List.nil_append, List.append_nil, oneB]
         have hne : ¬ (d :: q).take (firstN (kindN d) q) = c :: r := fun h => by
          have := congrArg List.length h
          rw [List.length_take] at this
          omega
         rw [decide_eq_false hne, Bool.and_false]
        | cons y x => rfl
   exact key _ _ (by rw [List.length_drop]; omega)
section
variable {T : Tbl} [CRef16 T]
theorem ref16_right (k a : Int) (t : List UInt8) (ht : t.length ≤ 4000) : callF T 173 [.agg [.i .i64 k, .s t, .i .i64 a]] = some (.b (rightB k t)) := by
 have c := ref16_scan (T := T) t (by omega)
 rw [← oneB_right k t ht, f173 _ rfl, b173]
 cases hr : scanT t with
 | error e =>
  rw [hr] at c
  simp only [ansRef] at c
  have he : ¬ (e : Int) < 0 := by omega
  simp -implicitDefEqProofs [c, oneB, he]
 | ok ws =>
  rw [hr] at c
  simp only [ansRef] at c
  match ws with
  | [] =>
   have e0 : rowsW [] = [] := rfl
   rw [e0] at c
   simp -implicitDefEqProofs [c, oneB]
  | [(k', t', a')] =>
   have e1 : rowsW [(k', t', a')] = [[.i .i64 k', .s t', .i .i64 a']] := rfl
   rw [e1] at c
   by_cases hk : (k' : Int) = k
   ·by_cases htt : t' = t
    ·simp -implicitDefEqProofs [c, oneB, hk, htt]
    ·simp -implicitDefEqProofs [c, oneB, hk, htt]
   ·simp -implicitDefEqProofs [c, oneB, hk]
  | w1 :: w2 :: r =>
   have hl : (rowsW (w1 :: w2 :: r)).length = r.length + 2 := by simp
   have hne : ¬ ((r.length : Int) + 2 = 1) := by omega
   have hne' : ¬ (r.length + 2 = 1) := by omega
   have g1 := rowsW_wk (w1 :: w2 :: r)
   have hone : oneB k t (.ok (w1 :: w2 :: r)) = false := rfl
   rw [hone]
   generalize rowsW (w1 :: w2 :: r) = RW at *
   generalize r.length = m at *
   simp -implicitDefEqProofs [c, hl, hne, hne', g1]
theorem ref16_text (l : List Wz) (hl : l.length ≤ 1000) (h : ∀ w ∈ l, w.2.1.length ≤ 10000) : callF T 175 [.sl (rowsZ l) .an] = some (.s (List.intercalate [32] (l.map (·.2.1)))) := by
 have hloop : ∀ i : Nat, i ≤ l.length → loopN T 0 0 (.norm false [3]) l175_0 ⟨[(0, .sl (rowsZ l) .an), (3, .s (List.intercalate [32] ((l.take i).map (·.2.1)))), (4, .i .i64 i)], [], 2⟩ = some (.n, ⟨[(3, .s (List.intercalate [32] (l.map (·.2.1))))], [], 2⟩) := by
  refine loopN_eq (fun i : Nat => ⟨[(0, .sl (rowsZ l) .an), (3, .s (List.intercalate [32] ((l.take i).map (·.2.1)))), (4, .i .i64 i)], [], 2⟩) _ (fun i => l.length - i) _ ?_
  intro i hi
  by_cases h0 : i < l.length
  ·left
   have hws : IntKind.wrap .i64 ((i : Int) + 1) = ((i + 1 : Nat) : Int) := wrap_i64 _ (by omega)
   obtain ⟨w, hwE⟩ : ∃ w, l[i]'h0 = w := ⟨_, rfl⟩
   obtain ⟨k', t', a'⟩ := w
   have hg : (rowsZ l)[i]? = some [.i .i64 k', .s t', .i .i64 a'] := by
    rw [rowsZ_get, List.getElem?_eq_getElem h0, hwE]
    rfl
   obtain ⟨hil, hgE⟩ := List.getElem?_eq_some_iff.1 hg
   have hil' : (i : Int) < (rowsZ l).length := by rw [rowsZ_length]; omega
   have ht4 : t'.length ≤ 10000 := by
    have := h _ (List.getElem_mem h0)
    rw [hwE] at this
    exact this
   have hd : (l.take (i + 1)).map (·.2.1) = (l.take i).map (·.2.1) ++ [t'] := by
    rw [List.take_succ_eq_append_getElem h0, List.map_append, hwE]
    rfl
   have hb := inter_boundW (K := 10000) ((l.take i).map (·.2.1)) (fun t ht => by
    obtain ⟨q, hq, rfl⟩ := List.mem_map.1 ht
    exact h q (List.mem_of_mem_take hq))
   have hlen : ((l.take i).map (·.2.1)).length = i := by rw [List.length_map, List.length_take]; omega
   rw [hlen] at hb
   have hb2 : i * (10000 + 1) ≤ 1000 * 10001 := Nat.mul_le_mul (by omega) (Nat.le_refl _)
   have c1 : (List.intercalate [32] ((l.take i).map (·.2.1))).length + 1 ≤ 9223372036854775807 := by omega
   have c2 : (List.intercalate [32] ((l.take i).map (·.2.1))).length + (t'.length + 1) ≤ 9223372036854775807 := by omega
   have c3 : (List.intercalate [32] ((l.take i).map (·.2.1))).length + 1 + t'.length ≤ 9223372036854775807 := by omega
   have c4 : t'.length ≤ 9223372036854775807 := by omega
   refine ⟨i + 1, h0, by show l.length - (i + 1) < l.length - i; omega, ?_, rfl⟩
   have g1 := rowsZ_wk l
   by_cases hi0 : i = 0
   ·subst hi0
    have e1 : List.intercalate [32] ((l.take (0 + 1)).map (·.2.1)) = t' := by
     rw [hd]
     simp [List.intercalate]
    rw [e1]
    have e2 : List.intercalate [32] ((l.take 0).map (·.2.1)) = ([] : List UInt8) := by simp [List.intercalate]
    rw [e2]
    clear hd hb hb2 hlen c1 c2 c3 h e1 e2 hwE
    generalize rowsZ l = RZ at *
    simp -implicitDefEqProofs [l175_0, hil, hil', hg, hgE, hws, c4, g1]
   ·have hne : (l.take i).map (·.2.1) ≠ [] := by
     intro h
     rw [h] at hlen
     exact hi0 (by simpa using hlen.symm)
    have e1 := inter_snocW [32] ((l.take i).map (·.2.1)) t' hne
    rw [hd, e1]
    have hip : (0 : Int) < i := by omega
    have hip' : 0 < i := by omega
    clear hd hb hb2 hlen h e1 hne hwE
    generalize List.intercalate [32] ((l.take i).map (·.2.1)) = S at *
    generalize rowsZ l = RZ at *
    simp -implicitDefEqProofs [l175_0, hil, hil', hg, hgE, hws, hip, hip', c1, c2, c3, g1]
  ·right
   have : i = l.length := by omega
   subst this
   rw [List.take_length]
   have hlp : (l.length : Int) = (rowsZ l).length := by rw [rowsZ_length]
   clear h
   rw [hlp]
   have g1 := rowsZ_wk l
   generalize List.intercalate [32] (l.map (·.2.1)) = S at *
   generalize rowsZ l = RZ at *
   constructor <;> simp -implicitDefEqProofs [l175_0, g1]
 have h' := hloop 0 (Nat.zero_le _)
 have e2 : List.intercalate [32] ((l.take 0).map (·.2.1)) = ([] : List UInt8) := by simp [List.intercalate]
 rw [e2] at h'
 simp only [Int.natCast_zero] at h'
 rw [f175 _ rfl, b175]
 clear h hloop
 have g1 := rowsZ_wk l
 generalize List.intercalate [32] (l.map (·.2.1)) = S at *
 generalize rowsZ l = RZ at *
 simp -implicitDefEqProofs [h', g1]
end
end Go.Ab
end

section
namespace Go.Ab
theorem rowsZ_take (l : List Wz) {i : Nat} (h : i < l.length) : wkL (List.take i (rowsZ (l.take i)) ++ [wzR (l[i]'h)]) = rowsZ (l.take (i + 1)) := by
 have e1 : List.take i (rowsZ (l.take i)) = rowsZ (l.take i) := List.take_of_length_le (by simp; omega)
 have e2 : rowsZ (l.take i) ++ [wzR (l[i]'h)] = rowsZ (l.take (i + 1)) := by
  rw [List.take_succ_eq_append_getElem h]
  unfold rowsZ
  rw [List.map_append]
  rfl
 rw [e1, e2, rowsZ_wk]
section
variable {T : Tbl} [CLaw16 T]
def stCo (l : List Wz) (i : Nat) : St := ⟨[(0, .sl (rowsZ l) .an), (3, .bs (.loc 3) 1 3 0 i), (4, .i .i64 i)], [(.loc 3, ⟨1, .own, 3, rowsZ (l.take i)⟩)], 3⟩
theorem co_loop (l : List Wz) (hl : l.length ≤ 1000000) (c : AX) (hc : c = l171_0 ∨ c = l170_0) : loopN T 0 0 (.norm false [3]) c (stCo l 0) = some (.n, ⟨[(3, .bs (.loc 3) 1 3 0 l.length)], [(.loc 3, ⟨1, .own, 3, rowsZ l⟩)], 3⟩) := by
 have key : ∀ i : Nat, i ≤ l.length → loopN T 0 0 (.norm false [3]) c (stCo l i) = some (.n, ⟨[(3, .bs (.loc 3) 1 3 0 l.length)], [(.loc 3, ⟨1, .own, 3, rowsZ l⟩)], 3⟩) := by
  refine loopN_eq (stCo l) _ (fun i => l.length - i) _ ?_
  intro i hi
  by_cases h0 : i < l.length
  ·left
   have hws : IntKind.wrap .i64 ((i : Int) + 1) = ((i + 1 : Nat) : Int) := wrap_i64 _ (by omega)
   have hpu := rowsZ_take l h0
   obtain ⟨w, hwE⟩ : ∃ w, l[i]'h0 = w := ⟨_, rfl⟩
   rw [hwE] at hpu
   obtain ⟨k', t', a'⟩ := w
   have hg : (rowsZ l)[i]? = some [.i .i64 k', .s t', .i .i64 a'] := by
    rw [rowsZ_get, List.getElem?_eq_getElem h0, hwE]
    rfl
   change wkL (List.take i (rowsZ (l.take i)) ++ [[AV.i .i64 k', .s t', .i .i64 a']]) = rowsZ (l.take (i + 1)) at hpu
   obtain ⟨hil, hgE⟩ := List.getElem?_eq_some_iff.1 hg
   have hil' : (i : Int) < (rowsZ l).length := by rw [rowsZ_length]; omega
   have hml : (rowsZ (l.take i)).length = i := by simp; omega
   have g1 := rowsZ_wk l
   have g2 := rowsZ_wk (l.take i)
   have hb4 : i ≤ 4294967295 := by omega
   refine ⟨i + 1, h0, by omega, ?_, rfl⟩
   unfold stCo
   rw [← hpu]
   clear hpu hwE
   generalize rowsZ (l.take i) = M at *
   generalize rowsZ l = RZ at *
   rcases hc with rfl | rfl
   ·simp -implicitDefEqProofs [l171_0, hil, hil', hg, hgE, hws, hml, hb4, g1, g2]
   ·simp -implicitDefEqProofs [l170_0, hil, hil', hg, hgE, hws, hml, hb4, g1, g2]
  ·right
   have : i = l.length := by omega
   subst this
   unfold stCo
   rw [List.take_length]
   have hlp : (l.length : Int) = (rowsZ l).length := by rw [rowsZ_length]
   have hlp' : l.length = (rowsZ l).length := by rw [rowsZ_length]
   have g1 := rowsZ_wk l
   rw [hlp, hlp']
   generalize rowsZ l = RZ at *
   rcases hc with rfl | rfl
   ·constructor <;> simp -implicitDefEqProofs [l171_0, g1]
   ·constructor <;> simp -implicitDefEqProofs [l170_0, g1]
 exact key 0 (Nat.zero_le _)
theorem law16_to (l : List Wz) (hl : l.length ≤ 1000000) : callF T 171 [.sl (rowsZ l) .an] = some (.sl (rowsZ l) .an) := by
 have h := co_loop (T := T) l hl l171_0 (.inl rfl)
 have e0 : rowsZ [] = [] := rfl
 unfold stCo at h
 rw [List.take_zero, e0] at h
 simp only [Int.natCast_zero] at h
 have hl2 := rowsZ_length l
 have g1 := rowsZ_wk l
 rw [f171 _ rfl, b171]
 generalize rowsZ l = RZ at *
 generalize l.length = n at *
 have ht : List.take n RZ = RZ := List.take_of_length_le (by omega)
 simp -implicitDefEqProofs [h, ht, hl2, g1]
end
section
variable {T : Tbl} [CJoin T] [CLex T] [CRef16 T] [CLaw16 T]
theorem law16_works : callF T 166 [] = some (.b true) := by
 have a1 := lex_scan (T := T) [50, 42, 121, 91, 48, 93, 32, 35, 32, 120] (by decide)
 have a2 := lex_scan (T := T) [97, 36, 98] (by decide)
 have e1 : scanT [50, 42, 121, 91, 48, 93, 32, 35, 32, 120] = .ok [(1, [50], 0), (3, [42], 1), (2, [121], 2), (3, [91], 3), (1, [48], 4), (3, [93], 5)] := by
  rw [scanT, if_neg (by decide), ← scan_same]
  kernel_rfl
 have e2 : scanT [97, 36, 98] = .error 1 := by
  rw [scanT, if_neg (by decide), ← scan_same]
  kernel_rfl
 rw [e1] at a1
 rw [e2] at a2
 simp only [ansScan] at a1 a2
 have er : rowsW [(1, [50], 0), (3, [42], 1), (2, [121], 2), (3, [91], 3), (1, [48], 4), (3, [93], 5)] = [[.i .i64 1, .s [50], .i .i64 0], [.i .i64 3, .s [42], .i .i64 1], [.i .i64 2, .s [121], .i .i64 2], [.i .i64 3, .s [91], .i .i64 3], [.i .i64 1, .s [48], .i .i64 4], [.i .i64 3, .s [93], .i .i64 5]] := rfl
 rw [er] at a1
 have hle : leafEq .str (AV.s [121]) (AV.s [121]) = some true := by simp [leafEq]
 rw [f166 _ rfl, b166]
 simp -implicitDefEqProofs [a1, a2, hle]
def longW (l : List Wz) : Bool := l.any fun w => decide (200 < w.2.1.length)
theorem wd_loop (l : List Wz) (hl : l.length ≤ 100) : ∀ i : Nat, i ≤ l.length →
  loopN T 0 0 (.norm false [0, 3]) l165_0 ⟨[(0, .sl (rowsZ l) .an), (3, .sl (rowsZ l) .an), (4, .i .i64 i)], [], 2⟩ =
   if longW (l.drop i) = true then some (.r, ⟨[(2, .b true)], [], 2⟩) else some (.n, ⟨[(0, .sl (rowsZ l) .an), (3, .sl (rowsZ l) .an)], [], 2⟩) := by
 refine loopN_eq (fun i : Nat => ⟨[(0, .sl (rowsZ l) .an), (3, .sl (rowsZ l) .an), (4, .i .i64 i)], [], 2⟩) _ (fun i => l.length - i) _ ?_
 intro i hi
 have hw := law16_works (T := T)
 by_cases h0 : i < l.length
 ·have hws : IntKind.wrap .i64 ((i : Int) + 1) = ((i + 1 : Nat) : Int) := wrap_i64 _ (by omega)
  obtain ⟨w, hwE⟩ : ∃ w, l[i]'h0 = w := ⟨_, rfl⟩
  have hd : l.drop i = w :: l.drop (i + 1) := by rw [List.drop_eq_getElem_cons h0, hwE]
  obtain ⟨k', t', a'⟩ := w
  have hg : (rowsZ l)[i]? = some [.i .i64 k', .s t', .i .i64 a'] := by
   rw [rowsZ_get, List.getElem?_eq_getElem h0, hwE]
   rfl
  obtain ⟨hil, hgE⟩ := List.getElem?_eq_some_iff.1 hg
  have hil' : (i : Int) < (rowsZ l).length := by rw [rowsZ_length]; omega
  have g1 := rowsZ_wk l
  by_cases ht : 200 < t'.length
  ·right
   have ht' : (200 : Int) < t'.length := by omega
   have e : longW (l.drop i) = true := by
    rw [hd]
    simp [longW, ht]
   rw [e, if_pos rfl]
   clear e hd hwE
   generalize rowsZ l = RZ at *
   constructor <;> simp -implicitDefEqProofs [l165_0, hil, hil', hg, hgE, g1, ht, ht', hw]
  ·left
   have ht' : ¬ (200 : Int) < t'.length := by omega
   have c1 := lex_right (T := T) k' a' t' (by omega)
   have c2 := ref16_right (T := T) k' a' t' (by omega)
   have e : longW (l.drop i) = longW (l.drop (i + 1)) := by
    rw [hd]
    unfold longW
    rw [List.any_cons, decide_eq_false (by simpa using ht), Bool.false_or]
   refine ⟨i + 1, h0, by show l.length - (i + 1) < l.length - i; omega, ?_, by rw [e]⟩
   clear e hd hwE
   generalize rowsZ l = RZ at *
   generalize rightB k' t' = B at *
   simp -implicitDefEqProofs [l165_0, hil, hil', hg, hgE, hws, g1, ht, ht', c1, c2]
 ·right
  have : i = l.length := by omega
  subst this
  have e : longW (l.drop l.length) = false := by rw [List.drop_length]; rfl
  rw [e, if_neg (by decide)]
  have hlp : (l.length : Int) = (rowsZ l).length := by rw [rowsZ_length]
  have g1 := rowsZ_wk l
  rw [hlp]
  generalize rowsZ l = RZ at *
  constructor <;> simp -implicitDefEqProofs [l165_0, g1]
theorem law16_words (l : List Wz) : callF T 165 [.sl (rowsZ l) .an] = some (.b true) := by
 have hw := law16_works (T := T)
 have hl2 := rowsZ_length l
 have g1 := rowsZ_wk l
 rw [f165 _ rfl, b165]
 by_cases hl : 100 < l.length
 ·have h1 : 100 < (rowsZ l).length := by omega
  have h1' : (100 : Int) < (rowsZ l).length := by omega
  generalize rowsZ l = RZ at *
  simp -implicitDefEqProofs [hw, h1, h1', g1]
 ·have h1 : ¬ 100 < (rowsZ l).length := by omega
  have h1' : ¬ (100 : Int) < (rowsZ l).length := by omega
  have c1 := law16_to (T := T) l (by omega)
  have lp := wd_loop (T := T) l (by omega) 0 (Nat.zero_le _)
  rw [List.drop_zero] at lp
  simp only [Int.natCast_zero] at lp
  cases hL : longW l with
  | true =>
   rw [hL, if_pos rfl] at lp
   generalize rowsZ l = RZ at *
   simp -implicitDefEqProofs [hw, h1, h1', g1, c1, lp]
  | false =>
   rw [hL, if_neg (by decide)] at lp
   have hs : ∀ w ∈ l, w.2.1.length ≤ 10000 := by
    intro w hwm
    have := List.any_eq_false.1 hL w hwm
    have h2 : ¬ 200 < w.2.1.length := by simpa using this
    omega
   have c2 := lex_text (T := T) l (by omega) hs
   have c3 := ref16_text (T := T) l (by omega) hs
   generalize List.intercalate [32] (l.map (·.2.1)) = S at *
   generalize rowsZ l = RZ at *
   simp -implicitDefEqProofs [hw, h1, h1', g1, c1, lp, c2, c3]
end
end Go.Ab
end

section
namespace Go.Ab
open Go.ChangeShapes Go.WideShapes Go.ChangeAt Go.RowKit
theorem post_of_below {H : Type} {enc : TypeId × Value → H} {P : Program} {f : Func} {s : ChangeSpec} {apart fresh handsOn again : Bool} {W W' : World} {args : Array Value} {v : Value} {ds gs : List (DataW H)} {before pa pv : List MemPlace}
  (hW : DataW.Whole enc P f.params.toList s.vars apart W args.toList ds gs before)
  (hres : ∀ (b : Nat) (sp : Nat → Bool) (hd : Bool), DataW.TrodAll enc P W' b sp hd f.resultTypes.toList (v.resultList f.resultTypes.size) (s.fn H (ds ++ gs)).results [])
  (hargs : ∀ sp : Nat → Bool, (∀ p ∈ before, sp p.block = true) → DataW.TrodAll enc P W' 0 sp true f.params.toList args.toList (s.fn H (ds ++ gs)).args pa)
  (hvars : ∀ sp : Nat → Bool, (∀ p ∈ before, sp p.block = true) → DataW.TrodVars enc P W' sp s.vars (s.fn H (ds ++ gs)).vars pv)
  (hps : before = pa ++ pv) (hw : Below W.heap.size W W')
  (hok : ∀ (j : Nat) (t : TypeId) (r : Value), f.resultTypes[j]? = some t → (v.resultList f.resultTypes.size)[j]? = some r → Value.okWide P W' .any 0 t r) :
  s.post enc P f apart fresh handsOn again W args v W' := by
 have hold : ∀ p ∈ before, (fun b => decide (b < W.heap.size)) p.block = true := fun p hp => by simpa using hW.lt p hp
 have hlt : ∀ p ∈ before, p.block < W.heap.size := fun p hp => hW.lt p hp
 refine ⟨ds, gs, before, [], pa, pv, hW, hres _ _ _, hargs _ hold, hvars _ hold, World.keptBut_mono (fun p hp => ⟨hp, ?_⟩) (hw.frame (· ∈ before)), fun _ => ?_⟩
 ·rw [hps, List.mem_append] at hp
  exact Or.inr hp
 ·obtain ⟨_, _, _, _, _, hz, hn⟩ := hW
  refine ⟨hok, _, _, ([] ++ pa) ++ pv, ⟨[] ++ pa, pv, trodAll_append (hargs _ (fun _ _ => rfl)) (hres _ _ _), hvars _ (fun _ _ => rfl), rfl, ?_, ?_⟩, ?_⟩
  ·intro b off hp
   have hp' : MemPlace.cell b off ∈ before := by rw [hps]; simpa using hp
   rw [hw.frozen (p := ⟨b, off, none⟩) (hlt _ hp')]
   exact hz b off hp'
  ·intro ha
   have := hn ha
   rw [hps] at this
   simpa using this
  ·intro p hp _
   rw [hps]
   simpa using hp
end Go.Ab
end

section
namespace Go.Ab
open Go.ChangeShapes Go.WideShapes Go.ChangeAt Go.RowKit
inductive Ty where
 | int (k : IntKind)
 | bool
 | str
 | sl (r : Ty)
 | nil
 | cons (a : Ty) (r : Ty)
def Ty.z : Ty → Nat
 | .nil => 0
 | .cons a r => a.z + r.z
 | _ => 1
def Ok : Ty → List AV → Prop
 | .int k, cs => ∃ n, cs = [.i k n] ∧ (Lit.int k n).wf = true
 | .bool, cs => ∃ b, cs = [.b b]
 | .str, cs => ∃ l, cs = [.s l] ∧ l.length ≤ maxLen
 | .sl r, cs => ∃ els f, cs = [.sl els f] ∧ els.length ≤ maxLen ∧ (f = .nl ∧ els = [] ∨ f = .so) ∧ ∀ row ∈ els, Ok r row
 | .nil, cs => cs = []
 | .cons a r, cs => ∃ c1 c2, cs = c1 ++ c2 ∧ Ok a c1 ∧ Ok r c2
theorem Ok.len : ∀ {ty : Ty} {cs : List AV}, Ok ty cs → cs.length = ty.z
 | .int _, _, ⟨_, h, _⟩ => by rw [h]; rfl
 | .bool, _, ⟨_, h⟩ => by rw [h]; rfl
 | .str, _, ⟨_, h, _⟩ => by rw [h]; rfl
 | .sl _, _, ⟨_, _, h, _⟩ => by rw [h]; rfl
 | .nil, _, h => by rw [show _ = [] from h]; rfl
 | .cons _ _, _, ⟨_, _, h, h1, h2⟩ => by rw [h, List.length_append, h1.len, h2.len]; rfl
def RowC (w : World) (S : Nat → Nat → Prop) (cs : List Value) (xs : List AV) : Prop :=
 xs.length = cs.length ∧ ∀ (j : Nat) (v : Value) (c : AV), cs[j]? = some v → xs[j]? = some c → CP w S v c ∧ v.oneCell' = true
section
variable {H : Type} {enc : TypeId × Value → H} {P : Program} {w : World} {base : Nat} {held : Bool} {S : Nat → Nat → Prop}
theorem RowC.nil : RowC w S [] [] := ⟨rfl, fun j v c h => by simp at h⟩
theorem RowC.one {v : Value} {c : AV} (h : CP w S v c) (h1 : v.oneCell' = true) : RowC w S [v] [c] := by
 refine ⟨rfl, fun j v' c' hv hc => ?_⟩
 cases j with
 | zero => simp at hv hc; subst hv; subst hc; exact ⟨h, h1⟩
 | succ j => simp at hv
theorem RowC.append {cs cs' : List Value} {xs xs' : List AV} (h : RowC w S cs xs) (h' : RowC w S cs' xs') : RowC w S (cs ++ cs') (xs ++ xs') := by
 refine ⟨by rw [List.length_append, List.length_append, h.1, h'.1], fun j v c hv hc => ?_⟩
 by_cases hj : j < cs.length
 ·rw [List.getElem?_append_left hj] at hv
  rw [List.getElem?_append_left (by rw [h.1]; exact hj)] at hc
  exact h.2 j v c hv hc
 ·rw [List.getElem?_append_right (by omega)] at hv
  rw [List.getElem?_append_right (by rw [h.1]; omega), h.1] at hc
  exact h'.2 _ v c hv hc
def fieldsTy (P : Program) (g : TypeId → Option Ty) (tot : Nat) : Nat → List Field → Option Ty
 | off, [] => if off = tot then some .nil else none
 | off, f :: fs => (g f.type).bind fun a => if f.offset = off ∧ a.z = P.cellsOf f.type then (fieldsTy P g tot (off + a.z) fs).map (.cons a) else none
def repTy : Nat → Ty → Ty
 | 0, _ => .nil
 | n + 1, a => .cons a (repTy n a)
def tyOf (P : Program) : Nat → TypeId → Option Ty
 | 0, _ => none
 | n + 1, t =>
  match P.underlying t with
  | some .bool => some .bool
  | some (.int k) => some (.int k)
  | some .string => some .str
  | some (.slice e) => (tyOf P n e).bind fun r => if r.z = P.cellsOf e ∧ 0 < r.z then some (.sl r) else none
  | some (.struct fs) => fieldsTy P (tyOf P n) (P.cellsOf t) 0 fs.toList
  | some (.array k e) => (tyOf P n e).bind fun a => if a.z = P.cellsOf e ∧ k * a.z = P.cellsOf t then some (repTy k a) else none
  | _ => none
theorem list_of {α : Type} {Q : Nat → α → Prop} : ∀ (n : Nat), (∀ i, i < n → ∃ x, Q i x) → ∃ l : List α, l.length = n ∧ ∀ i x, l[i]? = some x → Q i x
 | 0, _ => ⟨[], rfl, fun i x h => by simp at h⟩
 | n + 1, h => by
  obtain ⟨l, hl, hq⟩ := list_of n fun i hi => h i (by omega)
  obtain ⟨x, hx⟩ := h n (by omega)
  refine ⟨l ++ [x], by simp [hl], fun i y hy => ?_⟩
  by_cases hi : i < n
  ·rw [List.getElem?_append_left (by omega)] at hy
   exact hq i y hy
  ·rw [List.getElem?_append_right (by omega)] at hy
   have : i - l.length = 0 := by
    have := (List.getElem?_eq_some_iff.1 hy).1
    simp at this
    omega
   rw [this] at hy
   simp at hy
   subst hy
   have e : i = n := by omega
   rw [e]
   exact hx
def Places (S : Nat → Nat → Prop) (ps : List MemPlace) : Prop := ∀ k o, MemPlace.cell k o ∈ ps → S k o
theorem fields_open {n : Nat} {g : TypeId → Option Ty} {cs : List Value}
  (ih : ∀ t cs x ty, DataW.trod enc P w base (fun _ => true) held n t cs = some x → g t = some ty → Places S x.2 → ∃ xs, Ok ty xs ∧ RowC w S cs xs) :
  ∀ (fs : List Field) (off : Nat) (ty : Ty) (ys : List (DataW H × List MemPlace)),
   ys.length = fs.length → (∀ (i : Nat) (f : Field), fs[i]? = some f → DataW.trod enc P w base (fun _ => true) held n f.type ((cs.drop f.offset).take (P.cellsOf f.type)) = ys[i]?) →
   fieldsTy P g cs.length off fs = some ty → Places S (ys.flatMap (·.2)) → ∃ xs, Ok ty xs ∧ RowC w S (cs.drop off) xs
 | [], off, ty, ys, hl, hm, ht, hp => by
  simp only [fieldsTy] at ht
  split at ht <;> cases ht
  rename_i ho
  exact ⟨[], rfl, by rw [ho, List.drop_length]; exact RowC.nil⟩
 | f :: fs, off, ty, [], hl, hm, ht, hp => by simp at hl
 | f :: fs, off, ty, y :: ys1, hl, hm, ht, hp => by
  simp only [fieldsTy] at ht
  obtain ⟨a, ha, ht1⟩ := bind_some ht
  split at ht1
  ·rename_i hc
   obtain ⟨ho, hz⟩ := hc
   obtain ⟨r, hr, rfl⟩ := map_some ht1
   have hy := hm 0 f rfl
   rw [ho, ← hz] at hy
   simp only [List.getElem?_cons_zero] at hy
   obtain ⟨xs1, ho1, hr1⟩ := ih _ _ _ _ hy ha fun k o h => hp k o (by simp [h])
   obtain ⟨xs2, ho2, hr2⟩ := fields_open ih fs _ r ys1 (by simpa using hl) (fun i f' hf => by simpa using hm (i + 1) f' (by simpa using hf)) hr fun k o h => hp k o (by
    rw [List.flatMap_cons, List.mem_append]
    exact .inr h)
   refine ⟨xs1 ++ xs2, ⟨xs1, xs2, rfl, ho1, ho2⟩, ?_⟩
   have e : cs.drop off = (cs.drop off).take a.z ++ cs.drop (off + a.z) := by rw [← List.drop_drop, List.take_append_drop]
   rw [e]
   exact hr1.append hr2
  ·cases ht1
theorem array_open {n : Nat} {e : TypeId} {r : Ty} (ih : ∀ cs x, DataW.trod enc P w base (fun _ => true) held n e cs = some x → Places S x.2 → ∃ xs, Ok r xs ∧ RowC w S cs xs) :
  ∀ (k : Nat) (cs : List Value) (ys : List (DataW H × List MemPlace)), ys.length = k → cs.length = k * r.z →
   (∀ (i : Nat), i < k → DataW.trod enc P w base (fun _ => true) held n e ((cs.drop (i * r.z)).take r.z) = ys[i]?) → Places S (ys.flatMap (·.2)) → ∃ xs, Ok (repTy k r) xs ∧ RowC w S cs xs
 | 0, cs, ys, hl, hc, hm, hp => by
  rw [Nat.zero_mul, List.length_eq_zero_iff] at hc
  subst hc
  exact ⟨[], rfl, RowC.nil⟩
 | k + 1, cs, [], hl, hc, hm, hp => by simp at hl
 | k + 1, cs, y :: ys, hl, hc, hm, hp => by
  have hy := hm 0 (by omega)
  rw [Nat.zero_mul, List.drop_zero] at hy
  simp only [List.getElem?_cons_zero] at hy
  obtain ⟨xs1, ho1, hr1⟩ := ih _ _ hy fun k o h => hp k o (by simp [h])
  obtain ⟨xs2, ho2, hr2⟩ := array_open ih k (cs.drop r.z) ys (by simpa using hl) (by rw [List.length_drop, hc, Nat.succ_mul]; omega) (fun i hi => by
   have := hm (i + 1) (by omega)
   rw [Nat.succ_mul, Nat.add_comm (i * r.z), ← List.drop_drop] at this
   simpa using this) fun k o h => hp k o (by
    rw [List.flatMap_cons, List.mem_append]
    exact .inr h)
  refine ⟨xs1 ++ xs2, ⟨xs1, xs2, rfl, ho1, ho2⟩, ?_⟩
  have e : cs = cs.take r.z ++ cs.drop r.z := (List.take_append_drop ..).symm
  rw [e]
  exact hr1.append hr2
theorem row_cell {a : Addr} {m z : Nat} {cs : List Value} (h : w.cells? base (a.add m) z = some cs) (j : Nat) (hj : j < z) : w.cell? ((a.add m).add j) = cs[j]? := (World.cells?_some h).2.2 j hj
theorem cell_spot {a : Addr} {v : Value} (h : w.cell? a = some v) : a.spot = none := by
 unfold World.cell? at h
 split at h
 ·split at h
  ·cases h
  ·rename_i hs; simpa using hs
 ·cases h
theorem trod_open : ∀ (n m : Nat) (t : TypeId) (cs : List Value) (x : DataW H × List MemPlace) (ty : Ty),
  DataW.trod enc P w base (fun _ => true) held n t cs = some x → tyOf P m t = some ty → Places S x.2 → ∃ xs, Ok ty xs ∧ RowC w S cs xs
 | 0, _, _, _, _, _, h, _, _ => by simp [DataW.trod] at h
 | n + 1, 0, _, _, _, _, _, ht, _ => by simp [tyOf] at ht
 | n + 1, m + 1, t, cs, x, ty, h, ht, hp => by
  simp only [tyOf] at ht
  split at ht
  ·rename_i hu
   cases ht
   obtain ⟨b, rfl, rfl⟩ := DataW.trod_bool hu h
   exact ⟨[.b b], ⟨b, rfl⟩, RowC.one (.b b) rfl⟩
  ·rename_i k hu
   cases ht
   obtain ⟨z, rfl, rfl, hw⟩ := DataW.trod_int hu h
   exact ⟨[.i k z], ⟨z, rfl, hw⟩, RowC.one (.i k z) rfl⟩
  ·rename_i hu
   cases ht
   obtain ⟨s, rfl, rfl, hs⟩ := DataW.trod_string hu h
   exact ⟨[.s s.data.toList], ⟨_, rfl, by simpa using hs⟩, RowC.one (.s s.data.toList) rfl⟩
  ·rename_i e hu
   obtain ⟨r, hr, ht1⟩ := bind_some ht
   split at ht1
   ·rename_i hz
    cases ht1
    obtain ⟨hz, hzp⟩ := hz
    rcases DataW.trod_slice hu h with ⟨rfl, rfl⟩ | ⟨a, len, cap, elems, rest, n', hn', rfl, rfl, hb, hl, hmx, hlen, hel, hsp, hns⟩
    ·exact ⟨[.sl [] .nl], ⟨[], .nl, rfl, Nat.zero_le _, .inl ⟨rfl, rfl⟩, fun row h => by simp at h⟩, RowC.one (.slnil _ (.inl rfl)) rfl⟩
    ·cases hn'
     obtain ⟨hrl, hrest⟩ := hsp rfl
     have hall : ∀ i, i < cap → ∃ y cs', y ∈ elems ++ rest ∧ w.cells? base (a.add (i * P.cellsOf e)) (P.cellsOf e) = some cs' ∧ DataW.trod enc P w base (fun _ => true) held n e cs' = some y := by
      intro i hi
      by_cases hil : i < len
      ·have h1 := hel i hil
       rw [List.getElem?_eq_getElem (by omega)] at h1
       obtain ⟨cs', h2, h3⟩ := bind_some h1
       exact ⟨_, cs', List.mem_append_left _ (List.getElem_mem (by omega)), h2, h3⟩
      ·have h1 := hrest (i - len) (by omega)
       rw [List.getElem?_eq_getElem (by omega), show len + (i - len) = i by omega] at h1
       obtain ⟨cs', h2, h3⟩ := bind_some h1
       exact ⟨_, cs', List.mem_append_right _ (List.getElem_mem (by omega)), h2, h3⟩
     by_cases hcap : cap = 0
     ·have hl0 : len = 0 := by omega
      subst hcap
      subst hl0
      exact ⟨[.sl [] .so], ⟨[], .so, rfl, Nat.zero_le _, .inr rfl, fun row h => by simp at h⟩, RowC.one (.slz a _ (.inl rfl)) rfl⟩
     ·have hspot : a.spot = none := by
       obtain ⟨y, cs', _, h2, _⟩ := hall 0 (by omega)
       have h3 := row_cell h2 0 (by omega)
       have h4 := (World.cells?_some h2).2.1
       rw [List.getElem?_eq_getElem (by omega)] at h3
       have h5 := cell_spot h3
       simpa [Addr.add] using h5
      obtain ⟨blk, off, sp⟩ := a
      simp only at hspot
      subst hspot
      have hrows : ∀ i, i < len → ∃ xs, Ok r xs ∧ ∃ cs', w.cells? base ((⟨blk, off, none⟩ : Addr).add (i * P.cellsOf e)) (P.cellsOf e) = some cs' ∧ RowC w S cs' xs := by
       intro i hi
       obtain ⟨y, cs', hy, h2, h3⟩ := hall i (by omega)
       obtain ⟨xs, ho, hrc⟩ := trod_open n m e cs' y r h3 hr fun k o hk => hp k o (by
        rw [List.mem_append]
        exact .inr (List.mem_flatMap.2 ⟨y, hy, hk⟩))
       exact ⟨xs, ho, cs', h2, hrc⟩
      obtain ⟨els, hels, hq⟩ := list_of len hrows
      refine ⟨[.sl els .so], ⟨els, .so, rfl, by omega, .inr rfl, fun row hrow => ?_⟩, RowC.one ?_ rfl⟩
      ·obtain ⟨i, hi⟩ := List.getElem?_of_mem hrow
       exact (hq i row hi).1
      ·have hcell : ∀ i j, i < els.length → j < r.z → ∃ v, w.cell? ⟨blk, off + i * r.z + j, none⟩ = some v ∧ v.oneCell' = true ∧ ∀ row c, els[i]? = some row → row[j]? = some c → CP w S v c := by
        intro i j hi hj
        obtain ⟨ho, cs', h2, hrc⟩ := hq i _ (List.getElem?_eq_getElem hi)
        have h3 := row_cell h2 j (by omega)
        have h4 := (World.cells?_some h2).2.1
        rw [add_addr, add_addr, ← hz, List.getElem?_eq_getElem (by omega)] at h3
        have hlr := ho.len
        have h5 := hrc.2 j _ _ (List.getElem?_eq_getElem (by omega)) (List.getElem?_eq_getElem (by omega))
        refine ⟨_, h3, h5.2, fun row c hrow hc => ?_⟩
        rw [List.getElem?_eq_getElem hi] at hrow
        cases hrow
        rw [List.getElem?_eq_getElem (by omega)] at hc
        cases hc
        exact h5.1
       have hS : ∀ i j, i < els.length → j < r.z → S blk (off + i * r.z + j) := by
        intro i j hi hj
        refine hp _ _ ?_
        rw [List.mem_append]
        left
        unfold MemPlace.row
        rw [List.mem_map]
        refine ⟨i * r.z + j, ?_, by rw [Nat.add_assoc]⟩
        rw [List.mem_range, ← hz]
        have h1 : (i + 1) * r.z ≤ (elems.length + rest.length) * r.z := Nat.mul_le_mul_right _ (by omega)
        rw [Nat.add_mul, Nat.one_mul] at h1
        omega
       have := CP.sl (w := w) (S := S) blk off r.z cap els .so (fun i j => (w.cell? ⟨blk, off + i * r.z + j, none⟩).getD undef) (by simp) (by simp) (by omega) hmx
        (fun i row hrow => (hq i row hrow).1.len) (fun i j hi hj => ?_) (fun i row j c hrow hc => ?_)
       ·rw [hels] at this
        exact this
       ·obtain ⟨v, h1, h2, _⟩ := hcell i j hi hj
        exact ⟨hS i j hi hj, by rw [h1]; rfl, by rw [h1]; exact h2⟩
       ·have hi := (List.getElem?_eq_some_iff.1 hrow).1
        have hj := (List.getElem?_eq_some_iff.1 hc).1
        rw [(hq i row hrow).1.len] at hj
        obtain ⟨v, h1, _, h3⟩ := hcell i j hi hj
        show CP w S ((w.cell? ⟨blk, off + i * r.z + j, none⟩).getD undef) c
        rw [h1]
        exact h3 row c hrow hc
   ·cases ht1
  ·rename_i fs hu
   obtain ⟨xs, n', hn', rfl, hcl, hxl, hx⟩ := DataW.trod_struct hu h
   cases hn'
   rw [← hcl] at ht
   have := fields_open (S := S) (g := tyOf P m) (cs := cs) (n := n) (fun t cs x ty h1 h2 h3 => trod_open n m t cs x ty h1 h2 h3) fs.toList 0 ty xs (by rw [hxl]; simp) (fun i f hf => hx i f (by simpa using hf)) ht hp
   simpa using this
  ·rename_i k e hu
   obtain ⟨r, hr, ht1⟩ := bind_some ht
   split at ht1
   ·rename_i hz
    cases ht1
    obtain ⟨hz, hzt⟩ := hz
    obtain ⟨xs, n', hn', rfl, hcl, hxl, hx⟩ := DataW.trod_array hu h
    cases hn'
    rw [← hz] at hx
    exact array_open (S := S) (n := n) (e := e) (r := r) (fun cs x h1 h3 => trod_open n m e cs x r h1 hr h3) k cs xs hxl (by omega) hx hp
   ·cases ht1
  ·cases ht
end
end Go.Ab
end

section
namespace Go.Ab
open Go.ChangeShapes Go.WideShapes Go.ChangeAt Go.RowKit
def isAgg (P : Program) (t : TypeId) : Bool := match P.underlying t with | some (.struct _) => true | some (.array _ _) => true | _ => false
def tysOf (P : Program) (m : Nat) : List TypeId → Option (List (Bool × Ty))
 | [] => some []
 | t :: ts => (tyOf P m t).bind fun a => (tysOf P m ts).map fun r => (isAgg P t, a) :: r
def OkArg : Bool × Ty → AV → Prop
 | (true, ty), x => ∃ cs, x = .agg cs ∧ Ok ty cs
 | (false, ty), x => Ok ty [x]
def OkArgs : List (Bool × Ty) → List AV → Prop
 | [], xs => xs = []
 | a :: r, xs => ∃ x ys, xs = x :: ys ∧ OkArg a x ∧ OkArgs r ys
section
variable {H : Type} {enc : TypeId × Value → H} {P : Program} {w : World} {S : Nat → Nat → Prop}
theorem arg_open {m : Nat} {t : TypeId} {v : Value} {d : DataW H} {p : List MemPlace} {ty : Ty} {base : Nat} (hA : DataW.Trod enc P w 0 (fun _ => true) true t v d p) (hT : tyOf P m t = some ty)
  (hval : Value.okWide P w .any base t v) (hp : Places S p) : ∃ x, OkArg (isAgg P t, ty) x ∧ CP w S v x := by
 obtain ⟨fuel, hf⟩ := hA
 obtain ⟨xs, ho, hrc⟩ := trod_open (S := S) fuel m t _ _ ty hf hT hp
 have hlen := ho.len
 cases hu : P.underlying t with
 | none => cases m <;> simp [tyOf, hu] at hT
 | some desc =>
  have one : ∀ (hag : isAgg P t = false) (hz : ty.z = 1) (hv : v.cells = #[v]), ∃ x, OkArg (isAgg P t, ty) x ∧ CP w S v x := by
   intro hag hz hv
   rw [hag]
   match xs, hlen with
   | [x], _ =>
    refine ⟨x, ho, ?_⟩
    have := hrc.2 0 v x (by rw [hv]; rfl) rfl
    exact this.1
   | [], h => simp [hz] at h
   | _ :: _ :: _, h => simp [hz] at h
  cases m with
  | zero => simp [tyOf] at hT
  | succ m =>
  cases desc <;> simp only [tyOf, hu] at hT <;> try (cases hT; done)
  case struct fs =>
   have hag : isAgg P t = true := by simp [isAgg, hu]
   rw [hag]
   unfold Value.okWide at hval
   rw [hu] at hval
   obtain ⟨cs, rfl, hcs, _⟩ := hval
   refine ⟨.agg xs, ⟨xs, rfl, ho⟩, .agg cs xs ?_ ?_ ?_⟩
   ·have := hrc.1
    simpa [Value.cells] using this.symm
   ·intro j u hu
    have hl := hrc.1
    have hj : j < cs.size := (Array.getElem?_eq_some_iff.1 hu).1
    have hj' : j < xs.length := by rw [hl]; simpa [Value.cells] using hj
    exact (hrc.2 j u _ (by simpa [Value.cells] using hu) (List.getElem?_eq_getElem hj')).2
   ·intro j u c hu hc
    exact (hrc.2 j u c (by simpa [Value.cells] using hu) hc).1
  case array k e =>
   have hag : isAgg P t = true := by simp [isAgg, hu]
   rw [hag]
   unfold Value.okWide at hval
   rw [hu] at hval
   obtain ⟨cs, rfl, hcs, _⟩ := hval
   refine ⟨.agg xs, ⟨xs, rfl, ho⟩, .agg cs xs ?_ ?_ ?_⟩
   ·have := hrc.1
    simpa [Value.cells] using this.symm
   ·intro j u hu
    have hl := hrc.1
    have hj : j < cs.size := (Array.getElem?_eq_some_iff.1 hu).1
    have hj' : j < xs.length := by rw [hl]; simpa [Value.cells] using hj
    exact (hrc.2 j u _ (by simpa [Value.cells] using hu) (List.getElem?_eq_getElem hj')).2
   ·intro j u c hu hc
    exact (hrc.2 j u c (by simpa [Value.cells] using hu) hc).1
  case bool =>
   cases hT
   unfold Value.okWide Cell.okWide Cell.ok at hval
   rw [hu] at hval
   refine one (by simp [isAgg, hu]) rfl ?_
   cases v <;> first | rfl | (exact hval.elim)
  case int k =>
   cases hT
   unfold Value.okWide Cell.okWide Cell.ok at hval
   rw [hu] at hval
   refine one (by simp [isAgg, hu]) rfl ?_
   cases v <;> first | rfl | (exact hval.elim)
  case string =>
   cases hT
   unfold Value.okWide Cell.okWide Cell.ok at hval
   rw [hu] at hval
   refine one (by simp [isAgg, hu]) rfl ?_
   cases v <;> first | rfl | (exact hval.elim)
  case slice e =>
   obtain ⟨r, hr, ht1⟩ := bind_some hT
   split at ht1 <;> cases ht1
   unfold Value.okWide Cell.okWide Cell.ok at hval
   rw [hu] at hval
   refine one (by simp [isAgg, hu]) rfl ?_
   cases v <;> first | rfl | (exact hval.elim)
theorem args_open {m base : Nat} : ∀ (ts : List TypeId) (vs : List Value) (ds : List (DataW H)) (p : List MemPlace) (tys : List (Bool × Ty)), DataW.TrodAll enc P w 0 (fun _ => true) true ts vs ds p → tysOf P m ts = some tys →
  (∀ (j : Nat) t v, ts[j]? = some t → vs[j]? = some v → Value.okWide P w .any base t v) → Places S p →
  ∃ xs, OkArgs tys xs ∧ vs.length = xs.length ∧ ∀ (j : Nat) (v : Value) (c : AV), vs[j]? = some v → xs[j]? = some c → CP w S v c
 | [], vs, ds, p, tys, hA, hT, hval, hp => by
  obtain ⟨rfl, _, _⟩ := trodAll_nil hA
  cases hT
  exact ⟨[], rfl, rfl, fun j v c h => by simp at h⟩
 | t :: ts, vs, ds, p, tys, hA, hT, hval, hp => by
  obtain ⟨v, vs1, d, ds1, a, b, rfl, rfl, rfl, h1, h2⟩ := trodAll_cons hA
  obtain ⟨ty, hty, hT1⟩ := bind_some hT
  obtain ⟨r, hr, rfl⟩ := map_some hT1
  obtain ⟨x, hx, hC⟩ := arg_open (S := S) h1 hty (hval 0 t v rfl rfl) fun k o h => hp k o (List.mem_append_left _ h)
  obtain ⟨xs, ho, hl, hc⟩ := args_open (m := m) (base := base) ts vs1 ds1 b r h2 hr (fun j t v ht hv => hval (j + 1) t v (by simpa using ht) (by simpa using hv)) fun k o h => hp k o (List.mem_append_right _ h)
  refine ⟨x :: xs, ⟨x, xs, rfl, hx, ho⟩, by simp [hl], fun j u c hu hcc => ?_⟩
  cases j with
  | zero => simp at hu hcc; subst hu; subst hcc; exact hC
  | succ j => exact hc j u c (by simpa using hu) (by simpa using hcc)
theorem all_stay (hl : laidOutB P = true) {W W' : World} (hb : Below W.heap.size W W') {sp : Nat → Bool} : ∀ (ts : List TypeId) (vs : List Value) (ds : List (DataW H)) (p : List MemPlace),
  (ts.all fun t => P.readableRec t && decide (t < P.types.size)) = true → DataW.TrodAll enc P W 0 (fun _ => true) true ts vs ds p → (∀ x ∈ p, x.block < W.heap.size) → (∀ x ∈ p, sp x.block = true) → DataW.TrodAll enc P W' 0 sp true ts vs ds p
 | [], _, _, _, _, hA, _, _ => by
  obtain ⟨rfl, rfl, rfl⟩ := trodAll_nil hA
  exact rfl
 | t :: ts, vs, ds, p, hr, hA, hlt, hsp => by
  obtain ⟨v, vs1, d, ds1, a, b, rfl, rfl, rfl, h1, h2⟩ := trodAll_cons hA
  rw [List.all_cons, Bool.and_eq_true, Bool.and_eq_true, decide_eq_true_eq] at hr
  exact ⟨a, b, WideElems.Trod_stays hl hr.1.1 hr.1.2 h1 (fun x hx => hb.same (hlt x (List.mem_append_left _ hx))) (fun x hx => hsp x (List.mem_append_left _ hx)),
   all_stay hl hb ts vs1 ds1 b hr.2 h2 (fun x hx => hlt x (List.mem_append_right _ hx)) (fun x hx => hsp x (List.mem_append_right _ hx)), rfl⟩
theorem all_len : ∀ (ts : List TypeId) (vs : List Value) (ds : List (DataW H)) (p : List MemPlace), DataW.TrodAll enc P w 0 (fun _ => true) true ts vs ds p → ds.length = ts.length
 | [], _, _, _, hA => by
  obtain ⟨rfl, rfl, rfl⟩ := trodAll_nil hA
  rfl
 | t :: ts, vs, ds, p, hA => by
  obtain ⟨v, vs1, d, ds1, a, b, rfl, rfl, rfl, h1, h2⟩ := trodAll_cons hA
  simp [all_len ts vs1 ds1 b h2]
theorem law_step {f : FuncId} {fn : Func} {s : ChangeSpec} {m tb : Nat} {tys : List (Bool × Ty)} {fresh handsOn again : Bool} (hvars : s.vars = []) (hT : tysOf P m fn.params.toList = some tys) (hl : laidOutB P = true)
  (hread : (fn.params.toList.all fun t => P.readableRec t && decide (t < P.types.size)) = true) (hr : fn.resultTypes = #[tb]) (hb : P.underlying tb = some .bool)
  (hfn : ∀ ds : List (DataW H), ds.length = fn.params.toList.length → s.fn H ds = { results := [.lit (.bool true)], args := ds })
  (hcall : ∀ xs, OkArgs tys xs → PCall P f xs (· = .b true)) {W : World} {args : Array Value} {ds gs : List (DataW H)} {before : List MemPlace} {base : Nat}
  (hval : ∀ (j : Nat) t v, fn.params[j]? = some t → args[j]? = some v → Value.okWide P W .any base t v) (hW : DataW.Whole enc P fn.params.toList s.vars false W args.toList ds gs before) :
  Calls P f args W fun e W' => ∃ v, e = .returned v ∧ s.post enc P fn false fresh handsOn again W args v W' := by
 have hW' := hW
 obtain ⟨p, q, hA, hV, rfl, hfz, hnd⟩ := hW
 rw [hvars] at hV
 obtain ⟨rfl, rfl⟩ := trodVars_none hV
 have hlt : ∀ x ∈ p, x.block < W.heap.size := fun x hx => hW'.lt x (List.mem_append_left _ hx)
 obtain ⟨xs, ho, hlen, hC⟩ := args_open (S := fun k o => MemPlace.cell k o ∈ p) _ _ _ _ _ hA hT (fun j t v ht hv => hval j t v (by simpa using ht) (by simpa using hv)) (fun k o h => h)
 have hc := (hcall xs ho).2 W (fun k o => MemPlace.cell k o ∈ p) args (by simpa using hlen) (fun j v c hv hc => hC j v c (by simpa using hv) hc) (fun k o h => hlt _ h)
 refine hc.mono fun e W' ⟨v, r, he, hrr, hbel, hCr⟩ => ?_
 subst he hrr
 have hv : v = .bool true := by cases hCr; rfl
 subst hv
 have hlf := hfn ds (all_len _ _ _ _ hA)
 refine ⟨_, rfl, post_of_below (pa := p) (pv := []) hW' (fun b sp hd => ?_) (fun sp hsp => ?_) (fun sp _ => ?_) rfl hbel (ok_one hr rfl (okWide_bool_mk hb _))⟩
 ·rw [List.append_nil, hlf, hr]
  exact trodAll_mk1 (shut_bool hb _)
 ·rw [List.append_nil, hlf]
  exact all_stay hl hbel _ _ _ _ hread hA hlt fun x hx => hsp x (List.mem_append_left _ hx)
 ·rw [List.append_nil, hlf, hvars]
  exact rfl
end
end Go.Ab
end

section
namespace Go.Ab
theorem pcall_wk {P : Program} {ν : Nat → FuncId} {T : Tbl} (hT : TOk P ν T) (hm : P.follows .mixedOrders = true) {u : Nat} {af : AFx} {xs ys : List AV} {r : AV} (hu : T u = some af) (hl : af.lent = none) (h : callF T u ys = some r) (hx : xs.map wkA = ys) : PCall P (ν u) xs (· = r) := by
 subst hx
 have h1 := callF_sound hT hm hu hl h
 exact PCall.wk (ex := false) h1
end Go.Ab
end

section
namespace Go.Ab
abbrev Fz := Bool × List UInt32 × List UInt32
abbrev celF (x : Fz) : List AV := [.b x.1, .sl (u32s x.2.1) .an, .sl (u32s x.2.2) .an]
abbrev efz (x : Fz) : AV := .agg (celF x)
def fv (x : Fz) : Rat := mkRat (wv x.1 x.2.1) (val x.2.2)
def fz (q : Rat) : Fz := (decide (q.num < 0), ofN q.num.natAbs, ofN q.den)
@[simp] theorem fv_fz (q : Rat) : fv (fz q) = q := by
 unfold fv fz
 rw [wv_ez, val_ofN, Rat.mkRat_self]
def fsz (x : Fz) : Nat := max x.2.1.length x.2.2.length
def sz (q : Rat) : Nat := max (ofN q.num.natAbs).length (ofN q.den).length
def sgQ (q : Rat) : Int := sgI q.num
def rowF (l : List Fz) : List (List AV) := l.map celF
@[simp] theorem rowF_length (l : List Fz) : (rowF l).length = l.length := by simp [rowF]
@[simp] theorem rowF_wk (l : List Fz) : wkL (rowF l) = rowF l := by rw [wkL_map]; simp [rowF, wkR, wkA]
@[simp] theorem rowF_get? (l : List Fz) (i : Nat) : (rowF l)[i]? = (l[i]?).map celF := by simp [rowF]
@[simp] theorem rowF_get (l : List Fz) (i : Nat) (h : i < (rowF l).length) : (rowF l)[i] = celF (l[i]'(by simpa using h)) := by simp [rowF]
@[simp] theorem rowF_take (l : List Fz) (n : Nat) : (rowF l).take n = rowF (l.take n) := by simp [rowF]
@[simp] theorem rowF_drop (l : List Fz) (n : Nat) : (rowF l).drop n = rowF (l.drop n) := by simp [rowF]
@[simp] theorem rowF_nil : rowF [] = [] := rfl
def matF (m : List (List Fz)) : List (List AV) := m.map fun r => [.sl (rowF r) .an]
@[simp] theorem matF_length (l : List (List Fz)) : (matF l).length = l.length := by simp [matF]
@[simp] theorem matF_wk (l : List (List Fz)) : wkL (matF l) = matF l := by rw [wkL_map]; simp [matF, wkR, wkA]
@[simp] theorem matF_get? (l : List (List Fz)) (i : Nat) : (matF l)[i]? = (l[i]?).map fun r => [.sl (rowF r) .an] := by simp [matF]
@[simp] theorem matF_get (l : List (List Fz)) (i : Nat) (h : i < (matF l).length) : (matF l)[i] = [.sl (rowF (l[i]'(by simpa using h))) .an] := by simp [matF]
@[simp] theorem matF_take (l : List (List Fz)) (n : Nat) : (matF l).take n = matF (l.take n) := by simp [matF]
@[simp] theorem matF_drop (l : List (List Fz)) (n : Nat) : (matF l).drop n = matF (l.drop n) := by simp [matF]
@[simp] theorem matF_nil : matF [] = [] := rfl
end Go.Ab
end

section
namespace Go.Ab
abbrev tyF : Ty := .cons .bool (.cons (.sl (.int .u32)) (.cons (.sl (.int .u32)) .nil))
theorem pcall_part {P : Program} {ν : Nat → FuncId} {l l' : List (Nat × AFx)} (hT : TOk P ν fun u => l'.lookup u) (hp : Part l l') (hm : P.follows .mixedOrders = true) {u : Nat} {af : AFx} {xs ys : List AV} {r : AV}
  (hu : l'.lookup u = some af) (hl : af.lent = none) (h : callF (fun u => l.lookup u) u ys = some r) (hx : xs.map wkA = ys) : PCall P (ν u) xs (· = r) :=
 pcall_wk hT hm hu hl (hp.call (by rw [hu]; rfl) h) hx
end Go.Ab
end

section
namespace Go.Proofs.Ytaclblccdlpblaa
open Go Go.Ab Go.ChangeShapes Go.WideShapes Go.ChangeAt Go.RowKit
theorem Try.own : ownKnob Try.prog.godebug = none := by kernel_rfl
theorem Try.laidOut : laidOutB Try.prog = true := by kernel_rfl
theorem Try.mixed : Try.prog.follows .mixedOrders = true := by kernel_rfl
theorem sign_ok : ∀ xs r, prim187 xs = some r → PCall Try.prog (nu 187) xs (· = r) := by
  have e : nu 187 = 26 := by kernel_rfl
  rw [e]
  intro xs r h
  unfold prim187 at h
  split at h
  · rename_i n
    split at h
    · rename_i hn
      cases h
      refine ⟨enters_of Try.func26 (by kernel_rfl) rfl, fun w S cargs hsz hC hS => ?_⟩
      obtain ⟨v0, rfl⟩ := one_arg hsz
      have c0 : v0 = .int .u8 n := by
        have := hC 0 _ _ rfl rfl
        cases this
        rfl
      subst c0
      obtain ⟨c, rfl⟩ : ∃ c : Nat, n = c := ⟨n.toNat, by omega⟩
      refine (sign_calls c (by omega) w).mono ?_
      rintro e w' ⟨rfl, hb⟩
      refine ⟨_, _, rfl, ?_, hb, .b _⟩
      rw [Int.toNat_natCast]
      rfl
    · cases h
  · cases h
abbrev tyW : Ty := .cons (.int .i64) (.cons .str (.cons (.int .i64) .nil))
theorem word_rowsZ : ∀ (els : List (List AV)), (∀ r ∈ els, Ok tyW r) → ∃ l : List Wz, els = rowsZ l
  | [], _ => ⟨[], rfl⟩
  | r :: els, h => by
    obtain ⟨l, rfl⟩ := word_rowsZ els fun row hr => h row (List.mem_cons_of_mem _ hr)
    obtain ⟨c1, c2, rfl, ⟨k, rfl, _⟩, c3, c4, rfl, ⟨t, rfl, _⟩, c5, c6, rfl, ⟨a, rfl, _⟩, rfl⟩ := h r List.mem_cons_self
    exact ⟨(k, t, a) :: l, rfl⟩
theorem words_arg {x : AV} (h : OkArg (false, .sl tyW) x) : ∃ l : List Wz, wkA x = .sl (rowsZ l) .an ∧ l.length ≤ maxLen := by
  obtain ⟨els, f, hx, hm, _, he⟩ := (h : Ok (.sl tyW) [x])
  cases hx
  obtain ⟨l, rfl⟩ := word_rowsZ els he
  exact ⟨l, by simp [wkA], by simpa using hm⟩
end Go.Proofs.Ytaclblccdlpblaa
end
