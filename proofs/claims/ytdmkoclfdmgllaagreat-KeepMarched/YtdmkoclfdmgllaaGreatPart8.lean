/-
  What is kept of a marched history may be kept so, and what is made anew of each of its segments is what the history has; each step lies in just one segment.
  Conditions: none beyond those that the theorems state. (Part 8.)
-/
import Derived.Test.YtdmkoclfdmgllaaGreatPart7

set_option linter.unusedSectionVars false
set_option linter.unusedVariables false
set_option linter.unusedSimpArgs false
set_option linter.unnecessarySimpa false

section
namespace Go.Proofs.YtdmkoclfdmgllaaGreat
open Go Go.Ab Go.ChangeShapes Go.WideShapes Go.ChangeAt Go.RowKit
theorem keepMarched_all(xs:List AV)(h:OkArgs [(true,tyPb),(true,tyFr),(false,.sl tyF),(false,.int .i64)] xs):PCall Tryz.prog 4 xs (·=.b true):=by
 obtain⟨x,l0,rfl,hx,y,l1,rfl,hy,z,l2,rfl,hz,u,l3,rfl,hu,rfl⟩:=h
 obtain⟨ay,ey⟩:=zx8 hy
 obtain⟨ax,ex,bx_,cx⟩:=zx7 hx
 obtain⟨az,ez⟩:=z2y hz
 obtain⟨au,rfl,bu_,cu⟩:=z2z hu
 exact zrh (u:=495) (af:=row495) tab_all lTab_part Tryz.mixed (by kernel_rfl) rfl (zky (T:=tab) ax ay az au bx_ cx) (by simp[ex,ez,wkA,ey])
set_option maxRecDepth 100000 in
theorem keepMarched_lifted(os:Os)(started:os.Started)(H:Type)(enc:TypeId×Value→H) :
  ReturnsInHanded {} Tryz.checked os 4 .any (Rows.keepMarchedSpec.pre6 enc Tryz.prog Tryz.f4 Rows.keepMarchedRow.domain false) (Rows.keepMarchedSpec.post enc Tryz.prog Tryz.f4 false true false false):=by
 refine returnsInHanded_of_change (C:=Tryz.checked) Tryz.own started (by kernel_rfl) Tryz.func4
  (ChangeSpec.witness6 (enc:=enc) (C:=Tryz.checked) false ⟨#[],#[.agg #[.slice none 0 0,.slice none 0 0,.int .i64 0,.int .i64 0,.string ⟨#[]⟩,.slice none 0 0,.slice none 0 0,.slice none 0 0,.slice none 0 0,.slice none 0 0,.int .i64 0],.agg #[.bool false,.slice none 0 0,.slice none 0 0,.bool false,.slice none 0 0,.slice none 0 0,.slice none 0 0],.slice none 0 0,.int .i64 0],[]⟩ 8 (by kernel_rfl) (by kernel_rfl) (by kernel_rfl) (by kernel_rfl)) ?_
 intro W base args ds gs before hval hW _ _
 exact zxs (P:=Tryz.prog) (m:=8) (tb:=4) (tys:=[(true,tyPb),(true,tyFr),(false,.sl tyF),(false,.int .i64)]) rfl (by kernel_rfl) Tryz.laidOut (by kernel_rfl) (by kernel_rfl) Tryz.underlying4
  (fun ds hd=>by
   match ds,hd with
   | [d0,d1,d2,d3],_=>rfl) keepMarched_all hval hW
theorem keepMarched_holds:Rows.KeepMarchedSaid:=
 OpenClaim.holds_of_wide 4 Tryz.f4 rfl rfl rfl rfl rfl rfl rfl ⟨rfl,rfl,rfl,rfl,rfl⟩ rfl rfl rfl rfl rfl (by kernel_rfl) Tryz.func4 (by kernel_rfl)
  (of_decide_eq_true (by kernel_rfl)) (by unfold Func.isWrapper;first | (rw[if_pos (by decide +kernel)];kernel_rfl) | (rw[if_neg (by decide +kernel)];exact⟨rfl,rfl⟩))
  (fun os started H enc _=>keepMarched_lifted os started H enc)
#print axioms keepMarched_holds
end Go.Proofs.YtdmkoclfdmgllaaGreat
end