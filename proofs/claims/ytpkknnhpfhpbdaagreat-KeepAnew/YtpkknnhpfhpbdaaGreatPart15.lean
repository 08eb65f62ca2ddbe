/-
  What is kept of any history, whether anything may be kept so, and what is made anew of it in any segment, or what stops that, and where, are as the document has them; no condition.
  Conditions: none beyond those that the theorems state. (Part 15.)
-/
import Derived.Test.YtpkknnhpfhpbdaaGreatPart14

set_option linter.unusedSectionVars false
set_option linter.unusedVariables false
set_option linter.unusedSimpArgs false
set_option linter.unnecessarySimpa false
set_option linter.defProp false

section
namespace Go.Proofs.YtpkknnhpfhpbdaaGreat
open Go Go.Ab Go.ChangeShapes Go.WideShapes Go.ChangeAt Go.RowKit
theorem keepAnew_all(xs:List AV)(h:Ziw reachBytes [(true,Zpi),(true,Zpk),(true,Zpl),(true,Zj8 3 (.int .i64))] xs):Zb4 Tryz.prog 3 xs (·=.b true):=by
 obtain⟨x,l0,rfl,hx,y,l1,rfl,hy,z,l2,rfl,hz,u,l3,rfl,hu,rfl⟩:=h;have hB:reachBytes<=maxLen:=by decide
 obtain⟨ax,ex,bx,cx⟩:=z23 (hx.ok hB);obtain⟨ay,ey⟩:=z25 (hy.ok hB);obtain⟨az,ez,bz,cz⟩:=zyn hB (by decide) hz;obtain⟨a,b,c,rfl⟩:=zyo (hu.ok hB);exact zus (u:=494) (af:=row494) tab_all lTab_part Tryz.mixed (by kernel_rfl) rfl (zu3 (T:=tab) ax ay az a b c bx cx bz cz) (by simp[ex,ey,ez,wkA,wkR])
theorem types_in:Zix Tryz.prog=true:=by kernel_rfl
set_option maxRecDepth 100000 in
theorem keepAnew_lifted(os:Os)(started:os.Started)(H:Type)(enc:TypeId×Value->H) :
  ReturnsInHanded {} Tryz.checked os 3 .any (Rows.keepAnewSpec.pre6 enc Tryz.prog Tryz.f3 Rows.keepAnewRow.domain false) (Rows.keepAnewSpec.post enc Tryz.prog Tryz.f3 false true false false):=by
 refine returnsInHanded_of_change_sized (C:=Tryz.checked) Tryz.own started (by kernel_rfl) Tryz.func3
  (ChangeSpec.witness6 (enc:=enc) (C:=Tryz.checked) false ⟨#[],#[.agg #[.slice none 0 0,.slice none 0 0,.int .i64 0,.int .i64 0,.string ⟨#[]⟩,.slice none 0 0,.slice none 0 0,.slice none 0 0,.slice none 0 0,.slice none 0 0,.int .i64 0],.agg #[.slice none 0 0,.bool false,.slice none 0 0,.slice none 0 0,.slice none 0 0],.agg #[.int .i64 0,.slice none 0 0,.slice none 0 0,.slice none 0 0],.agg #[.int .i64 0,.int .i64 0,.int .i64 0]],[]⟩ 8 (by kernel_rfl) (by kernel_rfl) (by kernel_rfl) (by kernel_rfl)) ?_
 intro W base args ds gs before hval hW _ hsz _;exact zyq (P:=Tryz.prog) (Q:=WtI Tryz.prog) (B:=reachBytes) (WtI.slice types_in) (WtI.struct types_in) (WtI.array types_in) (m:=8) (tb:=4) (tys:=[(true,Zpi),(true,Zpk),(true,Zpl),(true,Zj8 3 (.int .i64))]) rfl (by kernel_rfl) Tryz.laidOut (by kernel_rfl) (by kernel_rfl) Tryz.underlying4
  (fun ds hd=>by
   match ds,hd with
   | [d0,d1,d2,d3],_=>rfl) keepAnew_all hval hW fun j t d ht hd=>⟨of_decide_eq_true (Yo.1 (show (Tryz.f3.params.toList.all fun t=>decide (t<Tryz.prog.types.size))=true by kernel_rfl) t (Yf ht)),fun n hn=>by
  have h1:=(Yc.1 ht).1;have h2:=(Yc.1 hd).1;have:=Yo.1 hsz n (DataW.weights_mem_each (j:=j) (t:=t) (d:=d) (by rw[Yt h1];exact ht) (by rw[Yt h2];exact hd) n hn);simpa using this⟩
theorem keepAnew_holds:Rows.KeepAnewSaid:=
 OpenClaim.holds_of_wide 3 Tryz.f3 rfl rfl rfl rfl rfl rfl rfl ⟨rfl,rfl,rfl,rfl,rfl⟩ rfl rfl rfl rfl rfl (by kernel_rfl) Tryz.func3 (by kernel_rfl)
  (of_decide_eq_true (by kernel_rfl)) (by unfold Func.isWrapper;first | (rw[if_pos (by decide +kernel)];kernel_rfl) | (rw[if_neg (by decide +kernel)];exact⟨rfl,rfl⟩))
  (fun os started H enc _=>keepAnew_lifted os started H enc)
#print axioms keepAnew_holds
end Go.Proofs.YtpkknnhpfhpbdaaGreat
end