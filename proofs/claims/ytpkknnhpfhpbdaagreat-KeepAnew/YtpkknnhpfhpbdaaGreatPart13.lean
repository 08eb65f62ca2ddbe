/-
  A calculus of values, boxes and code, and what functions of the program compute, proved in it.
  Conditions: none beyond those that the theorems state. (Part 13.)
-/
import Derived.Test.YtpkknnhpfhpbdaaGreatPart12
import Derived.SizedLaws
import Derived.Lib.IndexAny
import Derived.Lib.Bytealg

set_option linter.unusedSectionVars false
set_option linter.unusedVariables false
set_option linter.unusedSimpArgs false
set_option linter.unnecessarySimpa false
set_option linter.defProp false

namespace Go.Ab
section
open Go.ChangeShapes Go.WideShapes Go.ChangeAt Go.RowKit Go.Proofs
section
variable{H:Type}{enc:TypeId×Value->H}{P:Program}{w:World}{base:Nat}{held:Bool}{S:Nat->Nat->Prop}
theorem zh9{Q:TypeId->DataW H->Prop}{B:Nat}{n:Nat}{g:TypeId->Option Ty}{cs:List Value}
  (ih:∀t cs x ty,DataW.trod enc P w base (fun _=>true) held n t cs=some x->g t=some ty->Zhb S x.2->Q t x.1->∃xs,OkB B ty xs/\Zex w S cs xs) :
  ∀(fs:List Field) (off:Nat) (ty:Ty) (ys:List (DataW H×List MemPlace)),
   ys.length=fs.length->(∀(i:Nat) (f:Field),fs[i]? = some f->DataW.trod enc P w base (fun _=>true) held n f.type ((cs.drop f.offset).take (P.cellsOf f.type))=ys[i]?) ->
   Zho P g cs.length off fs=some ty->Zhb S (ys.flatMap (·.2))->(∀(i:Nat) (f:Field) y,fs[i]? = some f->ys[i]? = some y->Q f.type y.1)->∃xs,OkB B ty xs/\Zex w S (cs.drop off) xs
 | [],off,ty,ys,hl,hm,ht,hp,hB=>by
  simp only[Zho]at ht;split at ht<;>cases ht;rename_i ho;exact⟨[],rfl,by rw[ho,Yw];exact Zex.nil⟩
 | f::fs,off,ty,[],hl,hm,ht,hp,hB=>by grind
 | f::fs,off,ty,y::ys1,hl,hm,ht,hp,hB=>by
  obtain⟨a,ha,ht1⟩:=bind_some ht;split at ht1
  ·rename_i hc;obtain⟨ho,hz⟩:=hc;obtain⟨r,hr,rfl⟩:=map_some ht1;have hy:=hm 0 f rfl;rw[ho,<-hz]at hy;obtain⟨xs1,ho1,hr1⟩:=ih _ _ _ _ hy ha (fun k o h=>hp k o (by grind)) (hB 0 f y rfl rfl);obtain⟨xs2,ho2,hr2⟩:=zh9 ih fs _ r ys1 (by grind) (fun i f' hf=>by simpa using hm (i+1) f' (by grind)) hr (fun k o h=>hp k o (by
    grind)) fun i f' z h1 h2=>hB (i+1) f' z (by simpa using h1) (by simpa using h2)
   refine⟨xs1++xs2,⟨xs1,xs2,rfl,ho1,ho2⟩,?_⟩;have e:cs.drop off=(cs.drop off).take a.z++cs.drop (off+a.z):=by rw[<-Yfb,Ybb]
   rw[e];exact hr1.append hr2
  grind
theorem zjx{Q:TypeId->DataW H->Prop}{B:Nat}{n:Nat}{e:TypeId}{r:Ty}(ih:∀cs x,DataW.trod enc P w base (fun _=>true) held n e cs=some x->Zhb S x.2->Q e x.1->∃xs,OkB B r xs/\Zex w S cs xs) :
  ∀(k:Nat) (cs:List Value) (ys:List (DataW H×List MemPlace)),ys.length=k->cs.length=k*r.z ->
   (∀(i:Nat),i<k->DataW.trod enc P w base (fun _=>true) held n e ((cs.drop (i*r.z)).take r.z)=ys[i]?)->Zhb S (ys.flatMap (·.2))->(∀y∈ys,Q e y.1)->∃xs,OkB B (Zj8 k r) xs/\Zex w S cs xs
 | 0,cs,ys,hl,hc,hm,hp,hB=>by
  rw[Ycu,Ybd]at hc;subst hc;exact⟨[],rfl,Zex.nil⟩
 | k+1,cs,[],hl,hc,hm,hp,hB=>by grind
 | k+1,cs,y::ys,hl,hc,hm,hp,hB=>by
  have hy:=hm 0 (by omega);rw[Ycu,Y6]at hy;obtain⟨xs1,ho1,hr1⟩:=ih _ _ hy (fun k o h=>hp k o (by grind)) (hB y Yu);obtain⟨xs2,ho2,hr2⟩:=zjx ih k (cs.drop r.z) ys (by grind) (by grind) (fun i hi=>by
   grind[List.drop_drop]) (fun k o h=>hp k o (by
    grind)) fun z hz=>hB z (Yn _ hz)
  refine⟨xs1++xs2,⟨xs1,xs2,rfl,ho1,ho2⟩,?_⟩;have e:cs=cs.take r.z++cs.drop r.z:=(Ybb ..).symm;rw[e];exact hr1.append hr2
theorem zft{Q:TypeId->DataW H->Prop}{B:Nat}(hQs:∀(t e:TypeId) (elems spare:List (DataW H)),P.underlying t=some (.slice e)->0<P.cellsOf e->Q t (.slice elems spare)->elems.length<=B/\∀d∈elems,Q e d)(hQf:∀(t:TypeId) fs (parts:List (DataW H)),P.underlying t=some (.struct fs)->Q t (.agg parts)->∀(i:Nat) (f:Field) d,fs.toList[i]? = some f->parts[i]? = some d->Q f.type d)(hQa:∀(t:TypeId) k (e:TypeId) (parts:List (DataW H)),P.underlying t=some (.array k e)->Q t (.agg parts)->∀d∈parts,Q e d):∀(n m:Nat) (t:TypeId) (cs:List Value) (x:DataW H×List MemPlace) (ty:Ty),
  DataW.trod enc P w base (fun _=>true) held n t cs=some x->Zin P m t=some ty->Zhb S x.2->Q t x.1->∃xs,OkB B ty xs/\Zex w S cs xs
 | 0,_,_,_,_,_,h,_,_,_=>by simp[DataW.trod]at h
 | n+1,0,_,_,_,_,_,ht,_,_=>by simp[Zin]at ht
 | n+1,m+1,t,cs,x,ty,h,ht,hp,hB=>by
  simp only[Zin]at ht;split at ht
  ·rename_i hu;cases ht;obtain⟨b,rfl,rfl⟩:=DataW.trod_bool hu h;exact⟨[.b b],⟨b,rfl⟩,Zex.one (.b b) rfl⟩
  ·rename_i k hu;cases ht;obtain⟨z,rfl,rfl,hw⟩:=DataW.trod_int hu h;exact⟨[.i k z],⟨z,rfl,hw⟩,Zex.one (.i k z) rfl⟩
  ·rename_i hu;cases ht;obtain⟨s,rfl,rfl,hs⟩:=DataW.trod_string hu h;exact⟨[.s s.data.toList],⟨_,rfl,by simp_all⟩,Zex.one (.s s.data.toList) rfl⟩
  ·rename_i e hu;obtain⟨r,hr,ht1⟩:=bind_some ht;split at ht1
   ·rename_i hz;cases ht1;obtain⟨hz,hzp⟩:=hz;rcases DataW.trod_slice hu h with ⟨rfl,rfl⟩ | ⟨a,len,cap,elems,rest,n',hn',rfl,rfl,hb,hl,hmx,hlen,hel,hsp,hns⟩
    ·exact⟨[.sl [] .nl],⟨[],.nl,rfl,Yv _,.inl ⟨rfl,rfl⟩,fun row h=>by grind⟩,Zex.one (.slnil _ (.inl rfl)) rfl⟩
    ·obtain⟨hrl,hrest⟩:=hsp rfl;obtain⟨hlB0,helB⟩:=hQs t e (elems.map (·.1)) (rest.map (·.1)) hu (by omega) hB;have hlB:len<=B:=by
      rw[Yk]at hlB0;omega
     have hallE:∀i,i<len->∃y cs',y∈elems/\w.cells? base (a.add (i*P.cellsOf e)) (P.cellsOf e)=some cs'/\DataW.trod enc P w base (fun _=>true) held n e cs'=some y:=by
      intro i hil;have h1:=hel i hil;rw[Yb (by omega)]at h1;obtain⟨cs',h2,h3⟩:=bind_some h1
      grind
     have hall:∀i,i<cap->∃y cs',y∈elems++rest/\w.cells? base (a.add (i*P.cellsOf e)) (P.cellsOf e)=some cs'/\DataW.trod enc P w base (fun _=>true) held n e cs'=some y:=by
      intro i hi;by_cases hil:i<len
      ·have h1:=hel i hil;rw[Yb (by omega)]at h1;obtain⟨cs',h2,h3⟩:=bind_some h1
       grind
      ·have h1:=hrest (i-len) (by omega);rw[Yb (by omega),show len+(i-len)=i by omega]at h1;obtain⟨cs',h2,h3⟩:=bind_some h1
       grind
     by_cases hcap:cap=0
     ·have hl0:len=0:=by omega
      subst hcap;subst hl0;exact⟨[.sl [] .so],⟨[],.so,rfl,Yv _,.inr rfl,fun row h=>by grind⟩,Zex.one (.slz a _ (.inl rfl)) rfl⟩
     ·have hspot:a.spot=none:=by
       obtain⟨y,cs',_,h2,_⟩:=hall 0 (by omega);have h3:=zsm h2 0 (by omega)
       grind[World.cells?_some,zw9,Addr.add]
      obtain⟨blk,off,sp⟩:=a;have hrows:∀i,i<len->∃xs,OkB B r xs/\∃cs',w.cells? base ((⟨blk,off,none⟩:Addr).add (i*P.cellsOf e)) (P.cellsOf e)=some cs'/\Zex w S cs' xs:=by
       intro i hi;obtain⟨y,cs',hyE,h2,h3⟩:=hallE i hi;have hy:y∈elems++rest:=Y5 _ hyE;obtain⟨xs,ho,hrc⟩:=zft hQs hQf hQa n m e cs' y r h3 hr (fun k o hk=>hp k o (by
        grind)) (helB y.1 (List.mem_map_of_mem hyE))
       grind
      obtain⟨els,hels,hq⟩:=zw8 len hrows;refine⟨[.sl els .so],⟨els,.so,rfl,by omega,.inr rfl,fun row hrow=>?_⟩,Zex.one ?_ rfl⟩
      ·grind[List.getElem?_of_mem]
      ·have hcell:∀i j,i<els.length->j<r.z->∃v,w.cell? ⟨blk,off+i*r.z+j,none⟩=some v/\v.oneCell'=true/\∀row c,els[i]? = some row->row[j]? = some c->CP w S v c:=by
        intro i j hi hj;obtain⟨ho,cs',h2,hrc⟩:=hq i _ (Yb hi);have h3:=zsm h2 j (by omega);have h4:=(World.cells?_some h2).2.1;rw[zbu,zbu,<-hz,Yb (by omega)]at h3;have hlr:=ho.len;have h5:=hrc.2 j _ _ (Yb (by omega)) (Yb (by omega))
        grind
       have hS:∀i j,i<els.length->j<r.z->S blk (off+i*r.z+j):=by
        intro i j hi hj;refine hp _ _ ?_;rw[Yag];left;unfold MemPlace.row;rw[Yl];refine⟨i*r.z+j,?_,by rw[Ya2]⟩;have h1:(i+1)*r.z<=(elems.length+rest.length)*r.z:=Yaa _ (by omega)
        grind
       have:=CP.sl (w:=w) (S:=S) blk off r.z cap els .so (fun i j=>(w.cell? ⟨blk,off+i*r.z+j,none⟩).getD undef) (by simp) (by simp) (by omega) hmx
        (fun i row hrow=>(hq i row hrow).1.len) (fun i j hi hj=>?_) (fun i row j c hrow hc=>?_)
       ·grind
       ·grind
       ·have hi:=(Yc.1 hrow).1;have hj:=(Yc.1 hc).1;rw[(hq i row hrow).1.len]at hj
        grind
   grind
  ·rename_i fs hu;obtain⟨xs,n',hn',rfl,hcl,hxl,hx⟩:=DataW.trod_struct hu h;cases hn';rw[<-hcl]at ht;have:=zh9 (S:=S) (g:=Zin P m) (cs:=cs) (n:=n) (Q:=Q) (B:=B) (fun t cs x ty h1 h2 h3 h4=>zft hQs hQf hQa n m t cs x ty h1 h2 h3 h4) fs.toList 0 ty xs (by omega) (fun i f hf=>hx i f (by grind)) ht hp (fun i f y hf hy=>hQf t _ _ hu hB i f y.1 hf (by rw[Yaf,hy];rfl))
   grind
  ·rename_i k e hu;obtain⟨r,hr,ht1⟩:=bind_some ht;split at ht1
   ·rename_i hz;cases ht1;obtain⟨hz,hzt⟩:=hz;obtain⟨xs,n',hn',rfl,hcl,hxl,hx⟩:=DataW.trod_array hu h;cases hn';rw[<-hz]at hx;exact zjx (Q:=Q) (B:=B) (S:=S) (n:=n) (e:=e) (r:=r) (fun cs x h1 h3 h4=>zft hQs hQf hQa n m e cs x r h1 hr h3 h4) k cs xs hxl (by omega) hx hp (fun y hy=>hQa t _ _ _ hu hB y.1 (List.mem_map_of_mem hy))
   grind
  grind
end
section
variable{H:Type}{enc:TypeId×Value->H}{P:Program}{w:World}{S:Nat->Nat->Prop}
def zyp{Q:TypeId->DataW H->Prop}{B:Nat}(hQs:∀(t e:TypeId) (elems spare:List (DataW H)),P.underlying t=some (.slice e)->0<P.cellsOf e->Q t (.slice elems spare)->elems.length<=B/\∀d∈elems,Q e d)(hQf:∀(t:TypeId) fs (parts:List (DataW H)),P.underlying t=some (.struct fs)->Q t (.agg parts)->∀(i:Nat) (f:Field) d,fs.toList[i]? = some f->parts[i]? = some d->Q f.type d)(hQa:∀(t:TypeId) k (e:TypeId) (parts:List (DataW H)),P.underlying t=some (.array k e)->Q t (.agg parts)->∀d∈parts,Q e d){m:Nat}{t:TypeId}{v:Value}{d:DataW H}{p:List MemPlace}{ty:Ty}{base:Nat}(hA:DataW.Trod enc P w 0 (fun _=>true) true t v d p)(hT:Zin P m t=some ty)
  (hval:Value.okWide P w .any base t v) (hp:Zhb S p) (hB:Q t d):∃x,Zh2 B (isAgg P t,ty) x/\CP w S v x:=by
 obtain⟨fuel,hf⟩:=hA;obtain⟨xs,ho,hrc⟩:=zft (S:=S) (B:=B) hQs hQf hQa fuel m t _ _ ty hf hT hp hB;have hlen:=ho.len;cases hu:P.underlying t with
 | none=>cases m<;>simp[Zin,hu]at hT
 | some desc=>
  have one:∀(hag:isAgg P t=false) (hz:ty.z=1) (hv:v.cells=#[v]),∃x,Zh2 B (isAgg P t,ty) x/\CP w S v x:=by
   intro hag hz hv;rw[hag]
   match xs,hlen with
   | [x],_=>
    refine⟨x,ho,?_⟩;have:=hrc.2 0 v x (by grind) rfl
    grind
   | [],h=>grind
   | _::_::_,h=>grind
  cases m with
  | zero=>simp[Zin]at hT
  | succ m=>
  cases desc<;>simp only[Zin,hu]at hT<;>try (cases hT;done)
  case struct fs=>
   have hag:isAgg P t=true:=by simp[isAgg,hu]
   rw[hag];unfold Value.okWide at hval;rw[hu]at hval;obtain⟨cs,rfl,hcs,_⟩:=hval;refine⟨.agg xs,⟨xs,rfl,ho⟩,.agg cs xs ?_ ?_ ?_⟩
   ·have:=hrc.1;simpa[Value.cells]using this.symm
   ·intro j u hu;have hl:=hrc.1;have hj:j<cs.size:=(Ybm.1 hu).1;have hj':j<xs.length:=by rw[hl];simpa[Value.cells]using hj
    exact(hrc.2 j u _ (by simpa[Value.cells]using hu) (Yb hj')).2
   ·intro j u c hu hc;exact(hrc.2 j u c (by simpa[Value.cells]using hu) hc).1
  case array k e=>
   have hag:isAgg P t=true:=by simp[isAgg,hu]
   rw[hag];unfold Value.okWide at hval;rw[hu]at hval;obtain⟨cs,rfl,hcs,_⟩:=hval;refine⟨.agg xs,⟨xs,rfl,ho⟩,.agg cs xs ?_ ?_ ?_⟩
   ·have:=hrc.1;simpa[Value.cells]using this.symm
   ·intro j u hu;have hl:=hrc.1;have hj:j<cs.size:=(Ybm.1 hu).1;have hj':j<xs.length:=by rw[hl];simpa[Value.cells]using hj
    exact(hrc.2 j u _ (by simpa[Value.cells]using hu) (Yb hj')).2
   ·intro j u c hu hc;exact(hrc.2 j u c (by simpa[Value.cells]using hu) hc).1
  case bool=>
   cases hT;unfold Value.okWide Cell.okWide Cell.ok at hval;refine one (by simp[isAgg,hu]) rfl ?_;cases v<;>first | rfl | grind
  case int k=>
   cases hT;unfold Value.okWide Cell.okWide Cell.ok at hval;rw[hu]at hval;refine one (by simp[isAgg,hu]) rfl ?_;cases v<;>first | rfl | grind
  case string=>
   cases hT;unfold Value.okWide Cell.okWide Cell.ok at hval;rw[hu]at hval;refine one (by simp[isAgg,hu]) rfl ?_;cases v<;>first | rfl | grind
  case slice e=>
   obtain⟨r,hr,ht1⟩:=bind_some hT;split at ht1<;>cases ht1;unfold Value.okWide Cell.okWide Cell.ok at hval;rw[hu]at hval;refine one (by simp[isAgg,hu]) rfl ?_;cases v<;>first | rfl | grind
theorem zly{Q:TypeId->DataW H->Prop}{B:Nat}(hQs:∀(t e:TypeId) (elems spare:List (DataW H)),P.underlying t=some (.slice e)->0<P.cellsOf e->Q t (.slice elems spare)->elems.length<=B/\∀d∈elems,Q e d)(hQf:∀(t:TypeId) fs (parts:List (DataW H)),P.underlying t=some (.struct fs)->Q t (.agg parts)->∀(i:Nat) (f:Field) d,fs.toList[i]? = some f->parts[i]? = some d->Q f.type d)(hQa:∀(t:TypeId) k (e:TypeId) (parts:List (DataW H)),P.underlying t=some (.array k e)->Q t (.agg parts)->∀d∈parts,Q e d){m base:Nat} :
  ∀(ts:List TypeId) (vs:List Value) (ds:List (DataW H)) (p:List MemPlace) (tys:List (Bool×Ty)),DataW.TrodAll enc P w 0 (fun _=>true) true ts vs ds p->Zm2 P m ts=some tys ->
  (∀(j:Nat) t v,ts[j]? = some t->vs[j]? = some v->Value.okWide P w .any base t v)->Zhb S p->(∀(j:Nat) t d,ts[j]? = some t->ds[j]? = some d->Q t d) ->
  ∃xs,Ziw B tys xs/\vs.length=xs.length/\∀(j:Nat) (v:Value) (c:AV),vs[j]? = some v->xs[j]? = some c->CP w S v c
 | [],vs,ds,p,tys,hA,hT,hval,hp,hB=>by
  obtain⟨rfl,_,_⟩:=trodAll_nil hA;cases hT;exact⟨[],rfl,rfl,fun j v c h=>by simp at h⟩
 | t::ts,vs,ds,p,tys,hA,hT,hval,hp,hB=>by
  obtain⟨v,vs1,d,ds1,a,b,rfl,rfl,rfl,h1,h2⟩:=trodAll_cons hA;obtain⟨ty,hty,hT1⟩:=bind_some hT;obtain⟨r,hr,rfl⟩:=map_some hT1;obtain⟨x,hx,hC⟩:=zyp (S:=S) (B:=B) hQs hQf hQa h1 hty (hval 0 t v rfl rfl) (fun k o h=>hp k o (Y5 _ h)) (hB 0 t d rfl rfl);obtain⟨xs,ho,hl,hc⟩:=zly hQs hQf hQa (m:=m) (base:=base) ts vs1 ds1 b r h2 hr (fun j t v ht hv=>hval (j+1) t v (by simpa using ht) (by simpa using hv)) (fun k o h=>hp k o (Y2 _ h)) fun j t d ht hd=>hB (j+1) t d (by simpa using ht) (by simpa using hd);refine⟨x::xs,⟨x,xs,rfl,hx,ho⟩,by simp[hl],fun j u c hu hcc=>?_⟩;cases j with
  | zero=>simp at hu hcc;subst hu;subst hcc;exact hC
  | succ j=>exact hc j u c (by simpa using hu) (by simpa using hcc)
def zyq{Q:TypeId->DataW H->Prop}{B:Nat}(hQs:∀(t e:TypeId) (elems spare:List (DataW H)),P.underlying t=some (.slice e)->0<P.cellsOf e->Q t (.slice elems spare)->elems.length<=B/\∀d∈elems,Q e d)(hQf:∀(t:TypeId) fs (parts:List (DataW H)),P.underlying t=some (.struct fs)->Q t (.agg parts)->∀(i:Nat) (f:Field) d,fs.toList[i]? = some f->parts[i]? = some d->Q f.type d)(hQa:∀(t:TypeId) k (e:TypeId) (parts:List (DataW H)),P.underlying t=some (.array k e)->Q t (.agg parts)->∀d∈parts,Q e d)
  {f:FuncId} {fn:Func} {s:ChangeSpec} {m tb:Nat} {tys:List (Bool×Ty)} {fresh handsOn again:Bool} (hvars:s.vars=[]) (hT:Zm2 P m fn.params.toList=some tys) (hl:laidOutB P=true)
  (hread:(fn.params.toList.all fun t=>P.readableRec t&&decide (t<P.types.size))=true) (hr:fn.resultTypes=#[tb]) (hb:P.underlying tb=some .bool)
  (hfn:∀ds:List (DataW H),ds.length=fn.params.toList.length->s.fn H ds={ results:=[.lit (.bool true)],args:=ds })
  (hcall:∀xs,Ziw B tys xs->Zb4 P f xs (·=.b true)) {W:World} {args:Array Value} {ds gs:List (DataW H)} {before:List MemPlace} {base:Nat}
  (hval:∀(j:Nat) t v,fn.params[j]? = some t->args[j]? = some v->Value.okWide P W .any base t v) (hW:DataW.Whole enc P fn.params.toList s.vars false W args.toList ds gs before) (hB:∀(j:Nat) t d,fn.params.toList[j]? = some t->ds[j]? = some d->Q t d) :
  Calls P f args W fun e W'=>∃v,e=.returned v/\s.post enc P fn false fresh handsOn again W args v W':=by
 have hW':=hW;obtain⟨p,q,hA,hV,rfl,hfz,hnd⟩:=hW;rw[hvars]at hV;obtain⟨rfl,rfl⟩:=trodVars_none hV;have hlt:∀x∈p,x.block<W.heap.size:=fun x hx=>hW'.lt x (Y5 _ hx);obtain⟨xs,ho,hlen,hC⟩:=zly hQs hQf hQa (S:=fun k o=>MemPlace.cell k o∈p) _ _ _ _ _ hA hT (fun j t v ht hv=>hval j t v (by simpa using ht) (by simpa using hv)) (fun k o h=>h) hB;have hc:=(hcall xs ho).2 W (fun k o=>MemPlace.cell k o∈p) args (by simpa using hlen) (fun j v c hv hc=>hC j v c (by simpa using hv) hc) (fun k o h=>hlt _ h);refine hc.mono fun e W' ⟨v,r,he,hrr,hbel,hCr⟩=>?_;subst he hrr;have hv:v=.bool true:=by cases hCr;rfl
 subst hv;have hlf:=hfn ds (zxa _ _ _ _ hA);refine⟨_,rfl,zmr (pa:=p) (pv:=[]) hW' (fun b sp hd=>?_) (fun sp hsp=>?_) (fun sp _=>?_) rfl hbel (ok_one hr rfl (okWide_bool_mk hb _))⟩
 ·rw[Ya9,hlf,hr];exact trodAll_mk1 (shut_bool hb _)
 ·rw[Ya9,hlf];exact zsn hl hbel _ _ _ _ hread hA hlt fun x hx=>hsp x (Y5 _ hx)
 ·rw[Ya9,hlf,hvars];exact rfl
end
def WtQ(P:Program){H:Type}(t:TypeId)(d:DataW H):Prop:=∀n∈d.weights P t,n<=reachBytes
theorem zgi{H:Type}{P:Program}{e:TypeId}{d:DataW H}:∀{l:List (DataW H)},d∈l->∀n∈d.weights P e,n∈DataW.weightsAll P e l
 | [],h,_,_=>by cases h
 | x::l,h,n,hn=>by
  simp only[DataW.weightsAll,Yag];rcases Yab.1 h with rfl | h
  ·exact .inl hn
  ·exact .inr (zgi h n hn)
def Zix(P:Program):Bool:=(List.range P.types.size).all fun t=>match P.underlying t with
 | some (.slice e)=>decide (e<P.types.size)&&(decide (P.cellsOf e=0) || decide (0<P.bytesOf e))
 | some (.struct fs)=>fs.toList.all fun f=>decide (f.type<P.types.size)
 | some (.array _ e)=>decide (e<P.types.size)
 | _=>true
def WtI(P:Program){H:Type}(t:TypeId)(d:DataW H):Prop:=t<P.types.size/\WtQ P t d
def WtI.slice{H:Type}{P:Program}(hty:Zix P=true)(t e:TypeId)(elems spare:List (DataW H))(hu:P.underlying t=some (.slice e))(hc:0<P.cellsOf e)(h:WtI P t (.slice elems spare)) :
  elems.length<=reachBytes/\∀d∈elems,WtI P e d:=by
 obtain⟨ht,h⟩:=h;have h0:=Yo.1 hty t (Yeh.2 ht);rw[hu]at h0;simp only[Yh,Yb1,decide_eq_true_eq]at h0;have hb:0<P.bytesOf e:=by omega
 refine⟨?_,fun d hd=>⟨h0.1,fun n hn=>h n ?_⟩⟩
 ·have h1:=h ((elems.length+spare.length)*P.bytesOf e) (by simp[DataW.weights,hu]);have h2:=Ybc (elems.length+spare.length) hb;omega
 ·simp only[DataW.weights,hu];exact Yn _ (Y5 _ (zgi hd n hn))
def WtI.struct{H:Type}{P:Program}(hty:Zix P=true)(t:TypeId) fs (parts:List (DataW H)) (hu:P.underlying t=some (.struct fs)) (h:WtI P t (.agg parts)) (i:Nat) (f:Field) (d:DataW H) (hf:fs.toList[i]? = some f) (hd:parts[i]? = some d):WtI P f.type d:=by
 obtain⟨ht,h⟩:=h;have h0:=Yo.1 hty t (Yeh.2 ht);rw[hu]at h0;refine⟨of_decide_eq_true (Yo.1 h0 f (Yf hf)),fun n hn=>h n ?_⟩;simp only[DataW.weights,hu];exact DataW.weights_mem_each (j:=i) (by rw[Yaf,hf];rfl) hd n hn
def WtI.array{H:Type}{P:Program}(hty:Zix P=true)(t:TypeId) k (e:TypeId) (parts:List (DataW H)) (hu:P.underlying t=some (.array k e)) (h:WtI P t (.agg parts)) (d:DataW H) (hd:d∈parts):WtI P e d:=by
 obtain⟨ht,h⟩:=h;have h0:=Yo.1 hty t (Yeh.2 ht);rw[hu]at h0;refine⟨of_decide_eq_true h0,fun n hn=>h n ?_⟩;simp only[DataW.weights,hu];exact zgi hd n hn
end
class Zrl (T:Tbl):Prop where
class Zpq (T:Tbl):Prop where
class Zna (T:Tbl):Prop where
class Zo1 (T:Tbl):Prop where
structure Nd where
 op:Int
 i:Int
 n:List UInt32
 deriving DecidableEq
abbrev Zse(x:Nd):List AV:=[.i .i64 x.op,.i .i64 x.i,.sl (Zc x.n) .an]
def Zg2(l:List Nd):List (List AV):=l.map Zse
@[simp] def zajq:Zg2 []=[]:=rfl
@[simp] def zagg(l:List Nd):Option.all (fun r:List AV=>decide (r.length=3)) (Zg2 l).head? = true:=by cases l<;>rfl
@[simp] def zagh(l:List Nd):Zk1 3 (Zg2 l)=true:=by cases l<;>rfl
@[simp] def z6m(l:List Nd):(Zg2 l).isEmpty=l.isEmpty:=by cases l<;>rfl
def Zrd(l:List (List Nd)):List (List AV):=l.map fun c=>[.sl (Zg2 c) .an]
def arN(op:Int):Int:=if 1<=op/\op<=5 then 0 else if op=6\/op=11 then 1 else if 7<=op/\op<=10 then 2 else -1
def Zoa:Nat->Int->List Nd->Int
 | i,o,[]=>if o=1 then -1 else i
 | i,o,x::r=>if arN x.op<0\/o<arN x.op then i else Zoa (i+1) (o+1-arN x.op) r
def Zob(l:List Nd):Int:=Zoa 0 0 l
def Ztn(o:Int)(l:List Nd):Int:=l.foldl (fun o x=>o+1-arN x.op) o
def goL:Nat->Int->List Nd->Option Nat×Int
 | _,o,[]=>(none,o)
 | i,o,x::r=>if arN x.op<0\/o<arN x.op then (some i,o) else goL (i+1) (o+1-arN x.op) r
def Zp4(n:List UInt32):Bool:=decide (n=ofN (val n))&&decide ((Zkh (val n)).length<=60)
def Zp5(i m:Int):Bool:=decide (0<=i)&&decide (i<m)
def okN(dim pars lets:Int)(x:Nd):Bool:=
 if x.op=1 then decide (x.i=0)&&Zp4 x.n
 else if x.n≠[]\/x.op<1\/11<x.op then false
 else if x.op=3 then Zp5 x.i dim else if x.op=4 then Zp5 x.i pars else if x.op=5 then Zp5 x.i lets
 else if x.op=11 then decide (-8<=x.i)&&decide (x.i<=8)
 else decide (x.i=0)
def Zoc(dim pars lets w:Int):Nat->List Nd->Int
 | _,[]=>w
 | i,x::r=>if (i:Int)=w\/okN dim pars lets x=false then i else Zoc dim pars lets w (i+1) r
def Zre(dim pars lets w:Int):Nat->List Nd->Option Nat
 | _,[]=>none
 | i,x::r=>if (i:Int)=w\/okN dim pars lets x=false then some i else Zre dim pars lets w (i+1) r
def Zk0(dim pars lets:Int)(l:List Nd):Int:=Zoc dim pars lets (Zob l) 0 l
inductive Tre where
 | leaf (x:Nd)
 | un (x:Nd) (a:Tre)
 | bin (x:Nd) (a b:Tre)
def Tre.flat:Tre->List Nd
 | .leaf x=>[x]
 | .un x a=>a.flat++[x]
 | .bin x a b=>a.flat++(b.flat++[x])
def Tre.ok:Tre->Prop
 | .leaf x=>arN x.op=0
 | .un x a=>arN x.op=1/\a.ok
 | .bin x a b=>arN x.op=2/\a.ok/\b.ok
def Tre.deep:Tre->Nat
 | .leaf _=>1
 | .un _ a=>a.deep+1
 | .bin _ a b=>max a.deep b.deep+1
def Zto(s:List Tre):List Nd:=s.flatMap Tre.flat
@[simp] def zajr:Zrd []=[]:=rfl
section
variable{T:Tbl}[Zna T]
def Zuv(l:List Nd)(p:Nat×Int):St:=⟨[(0,.sl (Zg2 l) .an),(3,.i .i64 p.2),(7,.sl (Zg2 l) .an),(8,.i .i64 l.length),(9,.i .i64 p.1)],[],2⟩
variable[Z2 T][Zu T][Zbd T][Zo1 T]
def Zuw(l:List Nd)(dim pars lets w:Int)(i:Nat):St:=⟨[(1,.i .i64 dim),(2,.i .i64 pars),(3,.i .i64 lets),(9,.i .i64 w),(14,.sl (Zg2 l) .an),(15,.i .i64 l.length),(16,.i .i64 i)],[],2⟩
end
structure Lt where
 name:List UInt8
 code:List Nd
abbrev Zq6(x:Lt):List AV:=[.s x.name,.sl (Zg2 x.code) .an]
def Zn6(l:List Lt):List (List AV):=l.map Zq6
structure Fd where
 lets:List Lt
 outs:List (List Nd)
abbrev efd(f:Fd):AV:=.agg [.sl (Zn6 f.lets) .an,.sl (Zrd f.outs) .an]
def codesD(f:Fd):List (List Nd):=f.lets.map (·.code)++f.outs
@[simp] def zaf1:Zn6 []=[]:=rfl
def Zfr(op:Int)(l:List (List Nd)):List Nd:=l.flatten++[⟨op,0,[]⟩]
def kNd(n:Int):List Nd:=[⟨1,0,if n=0 then [] else [w32 n.toNat]⟩]
def Zq3(a:List Nd)(e:Int):List Nd:=a++[⟨11,e,[]⟩]
def Zjv(op:Int)(d o:List Nd)(first:Bool):List Nd:=if d=[] then [] else if first then Zfr op [d,o] else Zfr op [o,d]
def Zn3(op:Int)(a b:List Nd):List Nd:=if b=[] then a else if a≠[] then Zfr op [a,b] else if op=8 then Zfr 6 [b] else b
def Zr7(x:Nd)(a da:List Nd):List Nd:=
 if da=[]\/(x.op=11/\x.i=0) then [] else if x.op=6 then Zfr 6 [da]
 else if 0<x.i then Zfr 9 [Zfr 9 [kNd x.i,Zq3 a (x.i-1)],da]
 else Zfr 6 [Zfr 10 [Zfr 9 [Zfr 9 [kNd (-x.i),Zq3 a x.i],da],a]]
def Zr8(d b o:List Nd):List Nd:=if Zjv 9 d o false=[] then [] else Zfr 10 [Zjv 9 d o false,Zfr 9 [b,b]]
def Zr9(op:Int)(a da b db:List Nd):List Nd:=
 if op=9 then Zn3 7 (Zjv 9 da b true) (Zjv 9 db a false)
 else if op=10 then Zn3 8 (Zjv 10 da b true) (Zr8 db b a)
 else Zn3 op da db
def Tre.der(u:Nd):Tre->List Nd
 | .leaf x=>if x.op=u.op/\x.i=u.i then kNd 1 else []
 | .un x a=>Zr7 x a.flat (a.der u)
 | .bin x a b=>Zr9 x.op a.flat (a.der u) b.flat (b.der u)
def Zu0(a b:List Nd)(op i:Int):List Nd:=a++b++[⟨op,i,[]⟩]
def thin(w:Nat)(l:List Nd):Prop:=∀x∈l,x.n.length<=w
def Ztk(s:List Tre)(x:Nd):List Tre:=
 if arN x.op=0 then .leaf x::s else
  match s with
  | []=>[]
  | a::s1=>if arN x.op=1 then .un x a::s1 else
   match s1 with
   | []=>[]
   | b::s2=>.bin x b a::s2
abbrev Pc:=List Nd×List Nd
def pcs(u:Nd)(s:List Tre):List Pc:=s.reverse.map fun t=>(t.flat,t.der u)
def Zu1(l:List Pc):Nat:=(l.map fun p=>p.1.length).sum
def dps(l:List Nat):List (List AV):=l.map fun n=>[.i .i64 (n:Nat)]
def Zr3(s:List Nat)(x:Nd):List Nat:=if arN x.op=0 then 1::s else if arN x.op=1 then (s.headD 0+1)::s.tail else (max (s.headD 0) (s.tail.headD 0)+1)::s.tail.tail
def Zqt:List Nat->List Nd->List Nat
 | s,[]=>s
 | s,x::r=>Zqt (Zr3 s x) r
def Zr4(l:List Nd):Nat:=if Zob l=-1 then (Zqt [] l).headD 0 else 0
@[simp] def zaox:dps []=[]:=rfl
section
variable{T:Tbl}[Zna T][Zpq T]
def Zth(w n:Nat)(f:Fd):Prop:=∀c∈codesD f,c.length<=n/\thin w c
def Zo4(f:Fd):Nat:=((codesD f).map List.length).sum
def mxT(F:List Nat)(k:Nat):Nat->Nat
 | 0=>0
 | j+1=>max (mxT F k j) (F.getD (k-j-1) 0)
def Zux(l:List Nd)(F:List Nat)(i k a j:Nat):St:=⟨[(3,.bs (.loc 3) 1 1 0 (k-j)),(6,.i .i64 (mxT F k j:Nat)),(10,.sl (Zg2 l) .an),(11,.i .i64 l.length),(12,.i .i64 i),(18,.i .i64 a),(19,.i .i64 j)],[(.loc 3,⟨1,.own,1,dps F⟩)],3⟩
def Zuy(l:List Nd)(F:List Nat)(k i:Nat):St:=⟨[(3,.bs (.loc 3) 1 1 0 k),(10,.sl (Zg2 l) .an),(11,.i .i64 l.length),(12,.i .i64 i)],[(.loc 3,⟨1,.own,1,dps F⟩)],3⟩
end
def nameB(s:List UInt8):Bool:=Zbu 2 s&&decide (s≠[116])&&decide (s≠[121])&&decide (s≠[112])&&decide (s≠[108,101,116])
def twB(l:List Lt)(nm:List UInt8):Bool:=l.any fun x=>decide (x.name=nm)
def ptA(dim pars lets:Int)(c:List Nd):Int:=if Zk0 dim pars lets c<0/\40<Zr4 c then c.length else Zk0 dim pars lets c
def Zq1(dim pars:Int)(L:List Lt):Nat->List Lt->Option (Int×Int×Int)
 | _,[]=>none
 | i,x::r=>if nameB x.name=false\/twB (L.take i) x.name=true then some ((i:Int)+1,1,0) else if 0<=ptA dim pars i x.code then some ((i:Int)+1,0,ptA dim pars i x.code) else Zq1 dim pars L (i+1) r
def Zq2(dim pars:Int)(n:Nat):Nat->List (List Nd)->Option (Int×Int×Int)
 | _,[]=>none
 | i,c::r=>if 0<=ptA dim pars n c then some (((n+i:Nat):Int)+1,0,ptA dim pars n c) else Zq2 dim pars n (i+1) r
def whB(f:Fd)(dim pars:Int):Bool:=decide (1<=dim/\dim<=6/\0<=pars/\pars<=6/\(f.outs.length:Int)=dim/\f.lets.length<=10/\Zo4 f<=300)
def Zuz(f:Fd)(dim pars:Int):Option (Int×Int×Int):=
 if whB f dim pars=false then some (0,0,0) else match Zq1 dim pars f.lets 0 f.lets with
  | some q=>some q
  | none=>Zq2 dim pars f.lets.length 0 f.outs
def inE(E:List (List Nd))(c:List Nd):List Nd:=c.flatMap fun x=>if x.op=5 then (E[x.i.toNat]?).getD [] else [x]
def Zu2(L:List (List Nd)):List (List Nd):=L.foldl (fun E c=>E++[inE E c]) []
def Zou(b:Nat)(c:List Nd):Prop:=∀x∈c,x.op=5->0<=x.i/\x.i<b
def Zou.mono{b b':Nat}{c:List Nd}(h:Zou b c)(hb:b<=b'):Zou b' c:=fun x hx ho=>by have:=h x hx ho;omega
def Zu3(L:List (List Nd)):Prop:=∀(i:Nat) (c:List Nd),L[i]? = some c->Zou i c
def Ztm(c:List Nd):Prop:=∀x∈c,x.op≠5
def szC(S:List Nat)(c:List Nd):Nat:=c.foldl (fun n x=>min (n+if x.op=5 then (S[x.i.toNat]?).getD 0 else 1) 1201) 0
def szT(L:List (List Nd)):List Nat:=L.foldl (fun S c=>S++[szC S c]) []
def Zu4(E:List (List Nd))(O:List (List Nd)):Nat:=(O.map fun c=>(inE E c).length).sum
abbrev mkP:AV:=.ptr (.bor 0) 0 2 0 0
def Zru(E:List (List Nd))(D:List Nat):List (List AV):=D.map fun(i:Nat)=>[.i .i64 (i:Int),.sl (Zg2 ((E[i]?).getD [])) .an]
def plH(L:List Lt)(E:List (List Nd))(D:List Nat):Heap:=[(.bor 0,⟨0,.str,2,[[.sl (Zn6 L) .an,.fnp 0 (.bor 1) 1 2 0 0]]⟩),(.bor 1,⟨1,.mp,2,Zru E D⟩)]
def Zt7(L:List Lt)(E:List (List Nd))(D:List Nat)(out c:List Nd)(i:Nat):St:=
 ⟨[(0,mkP),(5,.bs (.loc 5) 5 3 0 out.length),(8,.sl (Zg2 c) .an),(9,.i .i64 c.length),(10,.i .i64 i)],plH L E D++[(.loc 5,⟨5,.own,3,Zg2 out⟩)],7⟩
end Go.Ab
section
namespace Go.Ab
end Go.Ab
end
namespace Go.Ab
def Zcl(S:List Nat):List (List AV):=S.map fun(n:Nat)=>[.i .i64 (n:Int)]
@[simp] def zbz(S:List Nat):(Zcl S).length=S.length:=by simp[Zcl]
@[simp] def zaoo(S:List Nat):wkL (Zcl S)=Zcl S:=by rw[zb8];simp[Zcl,wkR,wkA]
@[simp] def zajk(S:List Nat)(i:Nat)(h:i<(Zcl S).length):(Zcl S)[i]=[.i .i64 ((S[i]'(by simpa using h):Nat):Int)]:=by simp[Zcl]
@[simp] def zcd:Zcl []=[]:=rfl
def zpi(S:List Nat)(n:Nat):Zcl S++[[.i .i64 (n:Int)]]=Zcl (S++[n]):=by simp[Zcl]
def Zt8(S:List Nat)(n:Nat)(c:List Nd)(i:Nat):St:=
 ⟨[(1,.bs (.bor 0) 0 1 0 S.length),(5,.i .i64 (n:Int)),(8,.sl (Zg2 c) .an),(9,.i .i64 c.length),(10,.i .i64 (i:Int))],[(.bor 0,⟨0,.own,1,Zcl S⟩)],4⟩
def Zaj(k:Int):Nat:=(min (max k 1) 200).toNat
def ze9(k:Int):min (max k 1) 200=(Zaj k:Int)/\1<=Zaj k/\Zaj k<=200:=by
 unfold Zaj;omega
def Zcr(c n:Nat):Nat:=(n+c-1)/c
def Za8(c n:Nat):List Nat:=(List.range (Zcr c n)).map (· * c)
def zhr{c n i:Nat}(hc:1<=c):i<Zcr c n↔i*c<n:=by
 unfold Zcr;rw[Nat.lt_div_iff_mul_lt (by omega)];constructor
 ·intro h;omega
 ·intro h;omega
def zy1{c n i:Nat}(hi:i<Zcr c n):(Za8 c n).take (i+1)=(Za8 c n).take i++[i*c]:=by
 unfold Za8;rw[Ybf,<-List.map_take,Yaf,List.getElem?_range hi]
 rfl
def Zne(n:Int)(k:Int)(c m i:Nat)(g:Nat):St:=
 ⟨[(0,.i .i64 n),(1,.i .i64 k),(5,.bs (.loc 5) 1 1 0 i),(6,.i .i64 ((i*c:Nat):Int))],[(.loc 5,⟨1,.own,1,Zcl ((Za8 c m).take i)⟩)],3⟩
section
variable{T:Tbl}[Zar T]
def zio(k:Int):Za T 518 [.i .i64 k]=some (.i .i64 (Zaj k)):=by
 rw[<-(ze9 k).1,zaa Zar.h518 rfl,b518];simp -implicitDefEqProofs[mm2]
 try omega
def zl4(n k:Int):Za T 517 [.i .i64 n,.i .i64 k]=some (.sl (Zcl (if n<1\/200<n then [] else Za8 (Zaj k) n.toNat)) .an):=by
 have c0:=zio (T:=T) k;obtain⟨_,hc1,hc2⟩:=ze9 k;by_cases h1:n<1
 ·rw[if_pos (.inl h1),zaa Zar.h517 rfl,b517];simp -implicitDefEqProofs[h1]
 by_cases h2:200<n
 ·rw[if_pos (.inr h2),zaa Zar.h517 rfl,b517];simp -implicitDefEqProofs[h1,h2]
 rw[if_neg (by omega)];obtain⟨m,rfl⟩:∃m:Nat,n=m:=⟨n.toNat,by omega⟩;rw[Ybl];generalize Zaj k=c at *
 have hml:(Za8 c m).length=Zcr c m:=by simp[Za8]
 have hmk:Zcr c m<=200:=by
  unfold Zcr;exact Yd (Nat.div_le_div_left hc1 (by decide)) (by rw[Yfi];omega) |> fun _=>by
   have:(m+c-1)/c<=m:=by
    rw[Ydv (by omega)];have:=Ybn m (show 0<c by omega);omega
   omega
 have hlo:Ze T 0 0 (.norm false [5]) l517_0 (Zne m k c m 0 0)=some (.n,⟨[(5,.bs (.loc 5) 1 1 0 (Zcr c m))],[(.loc 5,⟨1,.own,1,Zcl (Za8 c m)⟩)],3⟩):=by
  refine zag (fun i=>Zne m k c m i 0) (Zcr c m) _ (fun i hi=>?_) ?_
  ·have hlt:=(zhr (n:=m) hc1).1 hi;have hlt':((i*c:Nat):Int)<(m:Int):=by omega
   have hw:IntKind.wrap .i64 (((i*c:Nat):Int)+(c:Int))=(((i+1)*c:Nat):Int):=by
    rw[zab _ (by omega),Ydj];omega
   have e:=zy1 hi;have hs:=zpi ((Za8 c m).take i) (i*c);have hl:((Za8 c m).take i).length=i:=by rw[Y3];omega
   have hb:i+1<=4294967296:=by omega
   unfold Zne;rw[e];generalize (Za8 c m).take i=M at *
   generalize i*c=ic at *
   generalize (i+1)*c=ic1 at *
   have htk:List.take i (Zcl M)=Zcl M:=Ya (by rw[zbz];omega);simp -implicitDefEqProofs[l517_0,hlt,hlt',hw,hs,c0,hl,hb,htk]
  ·have hge:¬ ((Zcr c m*c:Nat):Int)<(m:Int):=by
    have:¬ Zcr c m*c<m:=fun h=>by
     have:=(zhr (n:=m) (i:=Zcr c m) hc1).2 h;omega
    omega
   have e:(Za8 c m).take (Zcr c m)=Za8 c m:=Ya (by omega);unfold Zne;rw[e];generalize Zcr c m*c=x at *
   constructor<;>simp -implicitDefEqProofs[l517_0,hge]
 unfold Zne at hlo;rw[Ycu,Yaz,zcd,show (((0:Nat):Int))=0 from rfl]at hlo;have h1':¬ m<1:=by omega
 have h2':¬ 200<m:=by omega
 have ht:List.take (Zcr c m) (Zcl (Za8 c m))=Zcl (Za8 c m):=Ya (by rw[zbz];omega);rw[zaa Zar.h517 rfl,b517];simp -implicitDefEqProofs[h1,h2,h1',h2',hlo,ht,hml,zcd]
end
def Z5(l:List (Nat×Nat)):List (List AV):=l.map fun s=>[.i .i64 (s.1:Int),.i .i64 (s.2:Int)]
@[simp] def zd6(l:List (Nat×Nat)):(Z5 l).length=l.length:=by simp[Z5]
@[simp] def zco(l:List (Nat×Nat)):wkL (Z5 l)=Z5 l:=by rw[zb8];simp[Z5,wkR,wkA]
@[simp] def zaeu(l:List (Nat×Nat))(i:Nat)(h:i<(Z5 l).length):(Z5 l)[i]=[.i .i64 ((l[i]'(by simpa using h)).1:Int),.i .i64 ((l[i]'(by simpa using h)).2:Int)]:=by simp[Z5]
def zhs(l:List (Nat×Nat))(s:Nat×Nat):Z5 l++[[.i .i64 (s.1:Int),.i .i64 (s.2:Int)]]=Z5 (l++[s]):=by simp[Z5]
def zy2(l:List (Nat×Nat))(i:Nat)(s:Nat×Nat):(Z5 l).set i [.i .i64 (s.1:Int),.i .i64 (s.2:Int)]=Z5 (l.set i s):=by simp[Z5,Yed]
abbrev plP:AV:=.ptr (.bor 0) 0 1 0 0
def Zfq(g n:Nat)(S:List (Nat×Nat)):Heap:=[(.bor 0,⟨0,.str,1,[[.bs (.bor 1) g 2 0 n]]⟩),(.bor 1,⟨g,.own,2,Z5 S⟩)]
section
variable{T:Tbl}[Zar T]
def zy3(S:List (Nat×Nat))(s:Nat×Nat)(hl:S.length<=100000) :
  Z4 T 534 [plP,.sl [[.i .i64 (s.1:Int),.i .i64 (s.2:Int)]] .an] (Zfq 1 S.length S)=some (.tup [],Zfq 4 (S.length+1) (S++[s])):=by
 have hs:=zhs S s;have h1:S.length+1<=4294967296:=by omega
 have ht:List.take S.length (Z5 S)=Z5 S:=Ya (by rw[zd6];exact Ye _);unfold Zfq;rw[zam Zar.h534 rfl,b534];simp -implicitDefEqProofs[hs,h1,ht]
def z3e(n:Nat)(S:List (Nat×Nat))(s:Nat×Nat)(hn:n+1<=100000)(hs:S[n]? = some s) :
  Z4 T 550 [plP] (Zfq 1 (n+1) S)=some (.tup [.agg [.i .i64 (s.1:Int),.i .i64 (s.2:Int)],.b true],Zfq 1 (n+1) S):=by
 obtain⟨hlt,hge⟩:=Yc.1 hs;have hw:IntKind.wrap .i64 (((n+1:Nat):Int)-1)=(n:Int):=by rw[zab _ (by omega)];omega
 have h1:¬ ((n+1:Nat):Int)=0:=by omega
 have hlt2:(n:Int)<((n+1:Nat):Int):=by omega
 unfold Zfq;rw[zam Zar.h550 rfl,b550];generalize hn1:n+1=n1 at *
 have hnn:n<n1:=by omega
 have hz:¬ n1=0:=by omega
 simp -implicitDefEqProofs[hs,hge,hlt,hw,h1,hlt2,hnn,hz]
def zy4(S:List (Nat×Nat)):Z4 T 550 [plP] (Zfq 1 0 S)=some (.tup [.agg [.i .i64 0,.i .i64 0],.b false],Zfq 1 0 S):=by
 unfold Zfq;rw[zam Zar.h550 rfl,b550];simp -implicitDefEqProofs
def zs4(n:Nat)(S:List (Nat×Nat))(s:Nat×Nat)(hn:n+1<=100000)(hs:S[n]? = some s) :
  Z4 T 535 [plP] (Zfq 1 (n+1) S)=some (.tup [.agg [.i .i64 (s.1:Int),.i .i64 (s.2:Int)],.b true],Zfq 1 n (S.set n (0,0))):=by
 have c1:=z3e (T:=T) n S s hn hs;obtain⟨hlt,hge⟩:=Yc.1 hs;have hw:IntKind.wrap .i64 (((n+1:Nat):Int)-1)=(n:Int):=by rw[zab _ (by omega)];omega
 have hst:=zy2 S n (0,0);unfold Zfq at *
 rw[zam Zar.h535 rfl,b535];generalize hn1:n+1=n1 at *
 have hnn:n<n1:=by omega
 have hnn1:(n:Int)<(n1:Int):=by omega
 have hnn2:(n:Int)<=(n1:Int):=by omega
 have hle:n<=n1:=by omega
 simp only[Yp]at hst;simp -implicitDefEqProofs[c1,hs,hge,hlt,hw,hnn,hnn1,hnn2,hle,hst]
def zo9(S:List (Nat×Nat)):Z4 T 535 [plP] (Zfq 1 0 S)=some (.tup [.agg [.i .i64 0,.i .i64 0],.b false],Zfq 1 0 S):=by
 have c1:=zy4 (T:=T) S;unfold Zfq at *
 rw[zam Zar.h535 rfl,b535];simp -implicitDefEqProofs[c1]
end
def Zdj(c m:Nat):List (Nat×Nat):=(Za8 c m).map fun x=>(x,min (x+c) m)
def Zgr(n k:Int)(M:List Nat)(S:List (Nat×Nat))(i:Nat):St:=
 ⟨[(0,.i .i64 n),(1,.i .i64 k),(5,.ptr (.loc 5) 1 1 0 0),(13,.sl (Zcl M) .an),(14,.i .i64 M.length),(15,.i .i64 (i:Int))],
  [(.loc 5,⟨1,.str,1,[[.bs (.fld (.loc 5) 0) 2 2 0 i]]⟩),(.fld (.loc 5) 0,⟨2,.own,2,Z5 (S.take i)⟩)],4⟩
def Zdv(b:Bool)(out:List (Nat×Nat))(n:Nat)(Z:List (Nat×Nat))(cur:Nat×Nat):St:=
 ⟨[(5,.ptr (.loc 5) 1 1 0 0),(8,.bs (.loc 8) 3 2 0 out.length),(9,.ptr (.loc 9) 4 2 0 0),(10,.b b)],
  [(.loc 5,⟨1,.str,1,[[.bs (.fld (.loc 5) 0) 2 2 0 n]]⟩),(.fld (.loc 5) 0,⟨2,.own,2,Z5 Z⟩),(.loc 8,⟨3,.own,2,Z5 out⟩),(.loc 9,⟨4,.str,2,[[.i .i64 (cur.1:Int),.i .i64 (cur.2:Int)]]⟩)],6⟩
section
variable{T:Tbl}[Zar T]
def z8g(k:Int)(m i x:Nat)(M:List Nat)(S:List (Nat×Nat))(hx:M[i]? = some x)(hxm:x<m)(hm:m<=200)(hM:M.length<=1000)(hS:S[i]? = some (x,min (x+Zaj k) m)) :
  evX (orc T) T 0 l514_0 (Zgr m k M S i)=some (.n,Zgr m k M S (i+1)):=by
 have c0:=zio (T:=T) k;obtain⟨_,hc1,hc2⟩:=ze9 k;generalize Zaj k=c at *
 obtain⟨hlt,hge⟩:=Yc.1 hx;have hlt':(i:Int)<(M.length:Int):=by omega
 have hws:=zaw hlt (by omega);have hw:IntKind.wrap .i64 ((x:Int)+(c:Int))=(x:Int)+(c:Int):=zab _ (by omega);have hSl:i<S.length:=(Yc.1 hS).1;have c1:=zy3 (T:=T) (S.take i) (x,min (x+c) m) (by rw[Y3];omega);have hl:(S.take i).length=i:=by rw[Y3];omega
 have e:S.take (i+1)=S.take i++[(x,min (x+c) m)]:=by rw[Ybf,hS];rfl
 have hmn:(if (m:Int)<(x:Int)+(c:Int) then (m:Int) else (x:Int)+(c:Int))=((min (x+c) m:Nat):Int):=by split<;>omega
 rw[hl]at c1;unfold Zfq at c1;dsimp only at c1;unfold Zgr;rw[e];have wS:=zco (S.take i);have wS1:=zco (S.take i++[(x,min (x+c) m)]);generalize Z5 (S.take i++[(x,min (x+c) m)])=R1 at *
 generalize Z5 (S.take i)=R0 at *
 generalize min (x+c) m=y at *
 simp -implicitDefEqProofs[l514_0,hlt,hlt',hx,hge,hws,hw,c0,c1,hmn,mm2,wS,wS1]
def zaev(out Z:List (Nat×Nat))(n:Nat)(cur s:Nat×Nat)(hn:n+1<=1000)(ho:out.length<=1000)(hs:Z[n]? = some s) :
  evX (orc T) T 0 l514_1 (Zdv true out (n+1) Z cur)=some (.n,Zdv true (out++[cur]) n (Z.set n (0,0)) s):=by
 have c1:=zs4 (T:=T) n Z s (by omega) hs;have h1:=zhs out cur;have h2:out.length+1<=4294967296:=by omega
 have h3:(out++[cur]).length=out.length+1:=by simp
 have ht:List.take out.length (Z5 out)=Z5 out:=Ya (by rw[zd6];exact Ye _);have w1:=zco (out++[cur]);have w2:=zco (Z.set n (0,0));have w3:=zco Z;unfold Zfq at c1;unfold Zdv;rw[h3];generalize Z5 (out++[cur])=R1 at *
 generalize Z5 (Z.set n (0,0))=R2 at *
 generalize Z5 Z=R3 at *
 simp -implicitDefEqProofs[l514_1,c1,h1,h2,ht,w1,w2,w3]
def z8h(out Z:List (Nat×Nat))(cur:Nat×Nat)(ho:out.length<=1000) :
  evX (orc T) T 0 l514_1 (Zdv true out 0 Z cur)=some (.n,Zdv false (out++[cur]) 0 Z (0,0)):=by
 have c1:=zo9 (T:=T) Z;have h1:=zhs out cur;have h2:out.length+1<=4294967296:=by omega
 have h3:(out++[cur]).length=out.length+1:=by simp
 have ht:List.take out.length (Z5 out)=Z5 out:=Ya (by rw[zd6];exact Ye _);have w1:=zco (out++[cur]);have w3:=zco Z;unfold Zfq at c1;unfold Zdv;rw[h3];generalize Z5 (out++[cur])=R1 at *
 generalize Z5 Z=R3 at *
 simp -implicitDefEqProofs[l514_1,c1,h1,h2,ht,w1,w3]
def z55(out Z:List (Nat×Nat))(n:Nat)(cur:Nat×Nat):Zb6 (evX (orc T) T 0 l514_1 (Zdv false out n Z cur))=true /\
  Zbs 0 2 (.norm false [8]) (evX (orc T) T 0 l514_1 (Zdv false out n Z cur))=some (.n,⟨[(8,.bs (.loc 8) 1 2 0 out.length)],[(.loc 8,⟨1,.own,2,Z5 out⟩)],3⟩):=by
 unfold Zdv;constructor<;>simp -implicitDefEqProofs[l514_1]
def zy5(c m:Nat):(Zdj c m).length=Zcr c m:=by simp[Zdj,Za8]
def zm2{c m:Nat}(hc:1<=c):Zcr c m<=m:=by
 unfold Zcr;rw[Ydv (by omega)];have:=Ybn m (show 0<c by omega);omega
def zm3{c m i x:Nat}(hc:1<=c)(h:(Za8 c m)[i]? = some x):x=i*c/\x<m/\i<Zcr c m:=by
 unfold Za8 at h;rw[Yaf]at h;obtain⟨j,hj,rfl⟩:=Yao.1 h;obtain⟨h1,h2⟩:=Yc.1 hj;rw[Yel]at h1;rw[List.getElem_range]at h2;subst h2;exact⟨rfl,(zhr hc).1 h1,h1⟩
def z3f(S:List (Nat×Nat))(hS:S.length<=1000)(n:Nat)(hn:S.length=n+1)(s:Nat×Nat)(hs:S[n]? = some s) :
  ∃N,Ze T 0 2 (.norm false [8]) l514_1 (Zdv true [] n (S.set n (0,0)) s)=some (.n,⟨[(8,.bs (.loc 8) 1 2 0 N)],[(.loc 8,⟨1,.own,2,Z5 S.reverse⟩)],3⟩)/\N=S.length:=by
 have key:∃r,r=(Ex.n,(⟨[(8,.bs (.loc 8) 1 2 0 S.length)],[(.loc 8,⟨1,.own,2,Z5 S.reverse⟩)],3⟩:St))/\Ze T 0 2 (.norm false [8]) l514_1 (Zdv true [] n (S.set n (0,0)) s)=some r:=by
  have e0:Zdv true [] n (S.set n (0,0)) s=(fun q:Bool×Nat×List (Nat×Nat)×(Nat×Nat)=>Zdv q.1 (S.reverse.take (S.length-(if q.1 then q.2.1+1 else 0))) q.2.1 q.2.2.1 q.2.2.2) (true,n,S.set n (0,0),s):=by
   simp[hn]
  rw[e0];refine zar (fun q:Bool×Nat×List (Nat×Nat)×(Nat×Nat)=>Zdv q.1 (S.reverse.take (S.length-(if q.1 then q.2.1+1 else 0))) q.2.1 q.2.2.1 q.2.2.2)
   (fun q=>if q.1 then q.2.1<S.length/\S[q.2.1]? = some q.2.2.2/\∀i,i<q.2.1->q.2.2.1[i]? = S[i]? else q.2.1=0)
   (fun q=>if q.1 then q.2.1+1 else 0) (fun r=>r=(Ex.n,(⟨[(8,.bs (.loc 8) 1 2 0 S.length)],[(.loc 8,⟨1,.own,2,Z5 S.reverse⟩)],3⟩:St))) ?_ (true,n,S.set n (0,0),s) ?_
  ·rintro⟨b,j,Z,cur⟩ hq
   cases b with
   | false=>
    right;simp only[Yx,if_false]at hq ⊢;have e:S.reverse.take (S.length-0)=S.reverse:=Ya (by simp);rw[e];obtain⟨e1,e2⟩:=z55 (T:=T) S.reverse Z j cur;rw[Yd7]at e2;exact⟨_,rfl,e1,e2⟩
   | true=>
    left;simp only[if_true]at hq ⊢;obtain⟨h1,h2,h3⟩:=hq;have ho:(S.reverse.take (S.length-(j+1))).length<=1000:=by rw[Y3,Yd7];omega
    have hrev:S.reverse[S.length-(j+1)]? = some cur:=by
     rw[List.getElem?_reverse (by omega),show S.length-1-(S.length-(j+1))=j by omega,h2]
    have hsn:S.reverse.take (S.length-j)=S.reverse.take (S.length-(j+1))++[cur]:=by
     rw[show S.length-j=S.length-(j+1)+1 by omega,Ybf,hrev]
     rfl
    cases j with
    | zero=>
     refine⟨(false,0,Z,(0,0)),by simp,by simp,?_⟩;simp only[Yx,if_false];rw[Ye8]at hsn;rw[Ye8,hsn];exact z8h (T:=T) _ Z cur ho
    | succ j=>
     obtain⟨s',hs'⟩:∃s',S[j]? = some s':=⟨_,Yb (by omega)⟩;refine⟨(true,j,Z.set j (0,0),s'),?_,by simp,?_⟩
     ·simp only[if_true];refine⟨by omega,hs',fun i hi=>?_⟩;rw[Ych (by omega)];exact h3 i (by omega)
     ·simp only[if_true];rw[hsn];exact zaev (T:=T) _ Z j cur s' (by omega) ho (by rw[h3 j (by omega)];exact hs')
  ·simp only[if_true];refine⟨by omega,hs,fun i hi=>?_⟩;rw[Ych (by omega)]
 obtain⟨r,rfl,hlo⟩:=key;exact⟨S.length,hlo,rfl⟩
def zm4(n k:Int):Za T 514 [.i .i64 n,.i .i64 k]=some (.sl (Z5 (if n<1\/200<n then [] else (Zdj (Zaj k) n.toNat).reverse)) .an):=by
 have c0:=zl4 (T:=T) n k;by_cases hb:n<1\/200<n
 ·rw[if_pos hb]at c0 ⊢;have c1:=zo9 (T:=T) [];have hl0:Ze T 0 0 (.norm false [5]) l514_0 (Zgr n k [] [] 0)=some (.n,⟨[(5,.ptr (.loc 5) 1 1 0 0)],[(.loc 5,⟨1,.str,1,[[.bs (.fld (.loc 5) 0) 2 2 0 0]]⟩),(.fld (.loc 5) 0,⟨2,.own,2,[]⟩)],4⟩):=by
   refine zag (fun i=>Zgr n k [] [] i) 0 _ (fun i hi=>by omega) ?_;unfold Zgr;constructor<;>simp -implicitDefEqProofs[l514_0,Z5]
  have hl1:Ze T 0 2 (.norm false [8]) l514_1 (Zdv false [] 0 [] (0,0))=some (.n,⟨[(8,.bs (.loc 8) 1 2 0 0)],[(.loc 8,⟨1,.own,2,[]⟩)],3⟩):=by
   obtain⟨e1,e2⟩:=z55 (T:=T) [] [] 0 (0,0);refine zag (fun _=>Zdv false [] 0 [] (0,0)) 0 _ (fun i hi=>by omega) ⟨e1,e2⟩
  unfold Zgr at hl0;unfold Zdv at hl1;unfold Zfq at c1;rw[zcd]at c0;simp only[zcd,Yah,Yfk,show Z5 []=[] from rfl,show (((0:Nat):Int))=0 from rfl]at hl0 hl1 c1;rw[zaa Zar.h514 rfl,b514];simp -implicitDefEqProofs[c0,c1,hl0,hl1,show Z5 []=[] from rfl]
 ·rw[if_neg hb]at c0 ⊢;obtain⟨m,rfl⟩:∃m:Nat,n=m:=⟨n.toNat,by omega⟩;rw[Ybl]at c0 ⊢;obtain⟨_,hc1,hc2⟩:=ze9 k;have hsl:=zy5 (Zaj k) m;have hml:(Za8 (Zaj k) m).length=Zcr (Zaj k) m:=by simp[Za8]
  have hle:=zm2 (c:=Zaj k) (m:=m) hc1;have hpos:0<Zcr (Zaj k) m:=(zhr hc1).2 (by omega);have hl0:Ze T 0 0 (.norm false [5]) l514_0 (Zgr m k (Za8 (Zaj k) m) (Zdj (Zaj k) m) 0)=some (.n,⟨[(5,.ptr (.loc 5) 1 1 0 0)],[(.loc 5,⟨1,.str,1,[[.bs (.fld (.loc 5) 0) 2 2 0 (Zcr (Zaj k) m)]]⟩),(.fld (.loc 5) 0,⟨2,.own,2,Z5 (Zdj (Zaj k) m)⟩)],4⟩):=by
   refine zag (fun i=>Zgr m k (Za8 (Zaj k) m) (Zdj (Zaj k) m) i) (Zcr (Zaj k) m) _ (fun i hi=>?_) ?_
   ·obtain⟨x,hx⟩:∃x,(Za8 (Zaj k) m)[i]? = some x:=⟨_,Yb (by omega)⟩;obtain⟨_,g2,_⟩:=zm3 hc1 hx;refine z8g (T:=T) k m i x _ _ hx g2 (by omega) (by omega) ?_;unfold Zdj;rw[Yaf,hx]
    rfl
   ·have e:(Zdj (Zaj k) m).take (Zcr (Zaj k) m)=Zdj (Zaj k) m:=Ya (by omega);unfold Zgr;rw[e,hml];have w:=zco (Zdj (Zaj k) m);generalize Z5 (Zdj (Zaj k) m)=R at *
    generalize Zcr (Zaj k) m=N at *
    constructor<;>simp -implicitDefEqProofs[l514_0,w]
  obtain⟨N,hN⟩:∃N,Zcr (Zaj k) m=N+1:=⟨Zcr (Zaj k) m-1,by omega⟩;obtain⟨s,hs⟩:∃s,(Zdj (Zaj k) m)[N]? = some s:=⟨_,Yb (by omega)⟩;have c1:=zs4 (T:=T) N (Zdj (Zaj k) m) s (by omega) hs;obtain⟨N2,hl1,rfl⟩:=z3f (T:=T) (Zdj (Zaj k) m) (by omega) N (by omega) s hs;unfold Zgr at hl0;unfold Zdv at hl1;unfold Zfq at c1;rw[hN]at hl0;simp only[Yaz,Yah,show Z5 []=[] from rfl,show (((0:Nat):Int))=0 from rfl]at hl0 hl1;have ht:List.take (Zdj (Zaj k) m).length (Z5 (Zdj (Zaj k) m).reverse)=Z5 (Zdj (Zaj k) m).reverse:=Ya (by simp);have hrl:(Z5 (Zdj (Zaj k) m).reverse).length=(Zdj (Zaj k) m).length:=by simp
  have w1:=zco (Zdj (Zaj k) m).reverse;have w2:=zco (Zdj (Zaj k) m);have w3:=zco ((Zdj (Zaj k) m).set N (0,0));generalize Z5 ((Zdj (Zaj k) m).set N (0,0))=R3 at *
  generalize Z5 (Zdj (Zaj k) m).reverse=R1 at *
  generalize Z5 (Zdj (Zaj k) m)=R2 at *
  generalize (Zdj (Zaj k) m).length=LL at *
  generalize hM:Za8 (Zaj k) m=M at *
  rw[zaa Zar.h514 rfl,b514];simp -implicitDefEqProofs[c0,c1,hl0,hl1,ht,hrl,w1,w2,w3]
end
class Zpo (T:Tbl):Prop where
structure Kp where
 ev:Int
 sz:List Fz
 ts:List Fz
 ys:List (List Fz)
abbrev ekp(c:Kp):AV:=.agg [.i .i64 c.ev,.sl (Zb c.sz) .an,.sl (Zb c.ts) .an,.sl (Zd c.ys) .an]
def Za2(k n:Int):List Nat:=if n<1\/200<n then [] else Za8 (Zaj k) n.toNat
def Zls(k n:Int):List (Nat×Nat):=if n<1\/200<n then [] else (Zdj (Zaj k) n.toNat).reverse
def Zhg(l:List Fz):Bool:=l.all fun x=>decide (0<fv x)
def Zev(c:Kp):Bool:=Zhg c.sz&&(decide (c.ev=Zaj c.ev)&&decide (c.sz.length<=200)&&decide (c.ts.length=(Za2 c.ev c.sz.length).length)&&decide (c.ys.length=(Za2 c.ev c.sz.length).length))
def Zd8(c:Kp)(f t:Int):Bool:=(Zls c.ev c.sz.length).any fun x=>decide ((x.1:Int)=f)&&decide ((x.2:Int)=t)
abbrev Zmh(g:Nat)(c:Kp):Box:=⟨g,.str,4,[[.i .i64 c.ev,.sl (Zb c.sz) .an,.sl (Zb c.ts) .an,.sl (Zd c.ys) .an]]⟩
def Zmi(c:Kp)(i:Nat):St:=⟨[(1,.ptr (.loc 1) 1 4 0 0),(7,.sl (Zb c.sz) .an),(8,.i .i64 c.sz.length),(9,.i .i64 (i:Int))],[(.loc 1,Zmh 1 c)],3⟩
def Zlt(f t:Int)(L:List (Nat×Nat))(i:Nat):St:=⟨[(3,.ptr (.loc 3) 1 2 0 0),(12,.sl (Z5 L) .an),(13,.i .i64 L.length),(14,.i .i64 (i:Int))],[(.loc 3,⟨1,.str,2,[[.i .i64 f,.i .i64 t]]⟩)],3⟩
def Zsr(l:List Fz)(i:Nat):St:=⟨[(0,.sl (Zb l) .an),(5,.sl (Zb l) .an),(6,.i .i64 l.length),(7,.i .i64 (i:Int))],[],2⟩
section
variable{T:Tbl}[Z2 T][Zu T][Zy T][Z0 T][Zt T][Zp T][Zi T][Zl T][Zs T][Zar T]
def zgj(n k:Int):Za T 517 [.i .i64 n,.i .i64 k]=some (.sl (Zcl (Za2 k n)) .an):=zl4 (T:=T) n k
def zl5(n k:Int):Za T 514 [.i .i64 n,.i .i64 k]=some (.sl (Z5 (Zls k n)) .an):=zm4 (T:=T) n k
def zfv(c:Kp)(hl:c.sz.length<=1000)(hw:∀x∈c.sz,fsz x<=10000):Za T 504 [ekp c]=some (.b (Zev c)):=by
 have c1:=zgj (T:=T) c.sz.length c.ev;have c2:=zio (T:=T) c.ev;have hlp:Ze T 0 0 (.norm false [1]) l504_0 (Zmi c 0)=if Zhg (c.sz.drop 0)=true then some (.n,⟨[(1,.ptr (.loc 1) 1 4 0 0)],[(.loc 1,Zmh 1 c)],3⟩) else some (.r,⟨[(2,.b false)],[],2⟩):=by
  refine zap (Zmi c) c.sz.length (fun i=>if Zhg (c.sz.drop i)=true then some (.n,⟨[(1,.ptr (.loc 1) 1 4 0 0)],[(.loc 1,Zmh 1 c)],3⟩) else some (.r,⟨[(2,.b false)],[],2⟩)) (fun i hi=>?_) ?_
  ·have hws:=zaw hi (by omega);have hm:=Yi hi;have cs:=zjz (T:=T) _ (hw _ hm);have key:Zhg (c.sz.drop i)=(decide (0<fv (c.sz[i]'hi))&&Zhg (c.sz.drop (i+1))):=by unfold Zhg;rw[Yg hi,Ybj]
   have e1:(0<fv (c.sz[i]'hi))↔¬ sgQ (fv (c.sz[i]'hi))<=0:=by rw[<-z10];omega
   have hi':(i:Int)<c.sz.length:=by omega
   obtain⟨ev,S,ts,ys⟩:=c;dsimp only at *
   generalize hq:S[i]'hi=q at *
   obtain⟨q1,q2,q3⟩:=q;by_cases hp:sgQ (fv (q1,q2,q3))<=0
   ·right;rw[key,decide_eq_false (by rw[e1];exact fun h=>h hp),Ydb,if_neg (by decide)];generalize sgQ (fv (q1,q2,q3))=g at *
    unfold Zmi;constructor<;>simp -implicitDefEqProofs[l504_0,hi,hi',hq,cs,hp]
   ·left;rw[key,decide_eq_true (e1.2 hp),Ycd];refine⟨?_,rfl⟩;generalize sgQ (fv (q1,q2,q3))=g at *
    unfold Zmi;simp -implicitDefEqProofs[l504_0,hi,hi',hq,hws,cs,hp]
  ·have e:Zhg (c.sz.drop c.sz.length)=true:=by rw[Yw];rfl
   rw[e,if_pos rfl];unfold Zmi;constructor<;>simp -implicitDefEqProofs[l504_0]
 rw[Y6]at hlp;unfold Zmi at hlp;rw[show (((0:Nat):Int))=0 from rfl]at hlp;unfold Zev;generalize hM:Za2 c.ev c.sz.length=M at *
 have hml:(Zcl M).length=M.length:=zbz M;generalize Zhg c.sz=P at *
 generalize Zaj c.ev=cc at *
 obtain⟨ev,S,ts,ys⟩:=c;dsimp only at *
 rw[zaa Zar.h504 rfl,b504];cases P with
 | false=>
  rw[if_neg (by decide)]at hlp;simp -implicitDefEqProofs[hlp]
 | true=>
  rw[if_pos rfl]at hlp;by_cases h1:ev=(cc:Int)
  ·subst h1;by_cases h2:S.length<=200
   ·have h2I:(S.length:Int)<=200:=by omega
    by_cases h3:ts.length=M.length
    ·have h3I:(ts.length:Int)=M.length:=by omega
     by_cases h4:ys.length=M.length
     ·have h4I:(ys.length:Int)=M.length:=by omega
      simp -implicitDefEqProofs[hlp,c1,c2,h2,h2I,h3,h4,h3I,h4I]
     ·have h4I:¬ (ys.length:Int)=M.length:=by omega
      simp -implicitDefEqProofs[hlp,c1,c2,h2,h2I,h3,h4,h3I,h4I]
    ·have h3I:¬ (ts.length:Int)=M.length:=by omega
     simp -implicitDefEqProofs[hlp,c1,c2,h2,h2I,h3,h3I]
   ·have h2I:¬ (S.length:Int)<=200:=by omega
    simp -implicitDefEqProofs[hlp,c1,c2,h2,h2I]
  ·simp -implicitDefEqProofs[hlp,c1,c2,h1]
def zht(c:Kp)(f t:Int)(hl:c.sz.length<=1000):Za T 525 [ekp c,.agg [.i .i64 f,.i .i64 t]]=some (.b (Zd8 c f t)):=by
 have c1:=zl5 (T:=T) c.sz.length c.ev;have hsl:(Zls c.ev c.sz.length).length<=1000:=by
  unfold Zls;split
  ·simp
  ·next hh=>
   rw[Yd7,zy5];have:=zm2 (c:=Zaj c.ev) (m:=(c.sz.length:Int).toNat) (ze9 c.ev).2.1;omega
 unfold Zd8;generalize Zls c.ev c.sz.length=L at *
 have hlp:Ze T 0 0 (.norm false []) l525_0 (Zlt f t L 0)=if ((L.drop 0).any fun x=>decide ((x.1:Int)=f)&&decide ((x.2:Int)=t))=true then some (.r,⟨[(4,.b true)],[],2⟩) else some (.n,⟨[],[],2⟩):=by
  refine zap (Zlt f t L) L.length (fun i=>if ((L.drop i).any fun x=>decide ((x.1:Int)=f)&&decide ((x.2:Int)=t))=true then some (.r,⟨[(4,.b true)],[],2⟩) else some (.n,⟨[],[],2⟩)) (fun i hi=>?_) ?_
  ·have hws:=zaw hi (by omega);have key:((L.drop i).any fun x=>decide ((x.1:Int)=f)&&decide ((x.2:Int)=t))=((decide (((L[i]'hi).1:Int)=f)&&decide (((L[i]'hi).2:Int)=t)) || ((L.drop (i+1)).any fun x=>decide ((x.1:Int)=f)&&decide ((x.2:Int)=t))):=by rw[Yg hi,Yd1]
   have hi':(i:Int)<L.length:=by omega
   generalize hq:L[i]'hi=q at *
   obtain⟨q1,q2⟩:=q;dsimp only at *
   by_cases h1:(q1:Int)=f
   ·by_cases h2:(q2:Int)=t
    ·right;rw[key,decide_eq_true h1,decide_eq_true h2];simp only[Bool.and_self,Yef,if_true];unfold Zlt;constructor<;>simp -implicitDefEqProofs[l525_0,hi,hi',hq,h1,h2]
    ·left;rw[key,decide_eq_false h2,Yfd,Yep];refine⟨?_,rfl⟩;unfold Zlt;simp -implicitDefEqProofs[l525_0,hi,hi',hq,hws,h1,h2]
   ·left;rw[key,decide_eq_false h1,Ydb,Yep];refine⟨?_,rfl⟩;unfold Zlt;simp -implicitDefEqProofs[l525_0,hi,hi',hq,hws,h1]
  ·rw[Yw,List.any_nil,if_neg (by decide)];unfold Zlt;constructor<;>simp -implicitDefEqProofs[l525_0]
 rw[Y6]at hlp;unfold Zlt at hlp;rw[show (((0:Nat):Int))=0 from rfl]at hlp;obtain⟨ev,S,ts,ys⟩:=c;dsimp only at *
 rw[zaa Zar.h525 rfl,b525];have hrl:=zd6 L;cases hA:(L.any fun x=>decide ((x.1:Int)=f)&&decide ((x.2:Int)=t)) with
 | true=>
  rw[hA,if_pos rfl]at hlp;simp -implicitDefEqProofs[c1,hlp]
 | false=>
  rw[hA,if_neg (by decide)]at hlp;simp -implicitDefEqProofs[c1,hlp]
variable[Zpo T]
end
def z8v(l:List Fz):scl 1 l=nrm l:=by
 grind[scl,nrm]
section
variable{T:Tbl}[Z2 T][Zu T][Zy T][Z0 T][Zt T][Zp T][Zi T][Zl T][Zs T][Zad T][Zap T][Zc5 T][Zah T][Zaf T][Zbl T][Zas T][Zd7 T][Za9 T][Zbd T][Zba T][Zbt T][Ze1 T]
def zgk(l:List Fz)(hl:l.length<=1000)(hw:∀x∈l,fsz x<=1000):Za T 533 [.sl (Zb l) .an]=some (.sl (Zb (nrm l)) .an):=by
 have h0:=zs3 (T:=T);have h:=zhc (T:=T) (fz 1) (by decide +kernel) l hl hw;rw[zb6,z8v]at h;rw[zaa Ze1.h533 rfl,b533]
 simp_all
def zph(r:Trr):Za T 549 [.agg (Zll r)]=some (.sl (Zb r.nums) .an):=by
 have e:Zb r.nums=[Zau r.t,Zau r.w,Zau r.h,Zau r.e]:=rfl;rw[zaa Ze1.h549 rfl,b549,e];simp -implicitDefEqProofs[]
def Zsw(m:List (List Fz))(r:List Fz)(j i:Nat):St:=⟨[(7,.sl (Zd m) .an),(8,.i .i64 m.length),(9,.i .i64 j),(13,.sl (Zb r) .an),(14,.i .i64 r.length),(15,.i .i64 i)],[],2⟩
def Zsx(m:List (List Fz))(i:Nat):St:=⟨[(7,.sl (Zd m) .an),(8,.i .i64 m.length),(9,.i .i64 i)],[],2⟩
def bxH(h:Hs):Box:=⟨1,.str,5,[[.sl (Za1 h.l) .an,.b h.t.1,.sl (Zc h.t.2.1) .an,.sl (Zc h.t.2.2) .an,.sl (Zb h.y) .an]]⟩
def Zsy(h:Hs)(i:Nat):St:=⟨[(1,.ptr (.loc 1) 1 5 0 0),(6,.sl (Za1 h.l) .an),(7,.i .i64 h.l.length),(8,.i .i64 i)],[(.loc 1,bxH h)],3⟩
def Zt5(l:List Trr)(i:Nat):St:=⟨[(6,.sl (Za1 l) .an),(7,.i .i64 l.length),(8,.i .i64 i)],[],2⟩
def Zt6(h:Hs)(i:Nat):St:=⟨[(1,.ptr (.loc 1) 1 5 0 0),(8,.sl (Za1 h.l) .an),(9,.i .i64 h.l.length),(10,.i .i64 i)],[(.loc 1,bxH h)],3⟩
def HsS.mono{h:Hs}{A B:Nat}(hs:HsS h A)(hAB:A<=B):HsS h B:=
 ⟨hs.len,Yd hs.t hAB,fun x hx=>Yd (hs.y x hx) hAB,hs.yl,fun r hr x hx=>Yd (hs.rt r hr x hx) hAB,fun r hr x hx=>Yd (hs.ry r hr x hx) hAB,hs.rl⟩
def zzx(l:List Trr)(r:Trr):Zc1 (l++[r])=if r.ok then Zc1 l++[Zdg r] else Zc1 l:=by
 grind[Zc1]
def Znj(l:List Trr)(i n:Nat):St:=⟨[(3,.bs (.loc 3) 1 14 0 n),(8,.sl (Za1 l) .an),(9,.i .i64 l.length),(10,.i .i64 i)],[(.loc 3,⟨1,.own,14,Za1 (Zc1 (l.take i))⟩)],3⟩
def zg7(h:Hs)(hs:HsS h 1000):Za T 532 [ehs h]=some (.sl (Za1 (Zc1 h.l)) .an):=by
 have hlen:=hs.len;have al:∀i,(Zc1 (h.l.take i)).length<=i:=by
  grind[Zc1]
 have hlp:Ze T 0 0 (.norm false [3]) l532_0 (Znj h.l 0 (Zc1 (h.l.take 0)).length)=some (.n,⟨[(3,.bs (.loc 3) 1 14 0 (Zc1 h.l).length)],[(.loc 3,⟨1,.own,14,Za1 (Zc1 h.l)⟩)],3⟩):=by
  refine zag (fun i=>Znj h.l i (Zc1 (h.l.take i)).length) h.l.length _ (fun i hi=>?_) ?_
  ·have hga:h.l[i]? = some (h.l[i]'hi):=Yb hi;have hws:=zaw hi (by omega);have hm:=Yi hi;have key:Zc1 (h.l.take (i+1))=if (h.l[i]'hi).ok then Zc1 (h.l.take i)++[Zdg (h.l[i]'hi)] else Zc1 (h.l.take i):=by
    rw[Y4 hi,zzx]
   have hai:=al i;have c1:=zph (T:=T) (h.l[i]'hi);have c2:=zgk (T:=T) (h.l[i]'hi).nums (by simp[Trr.nums]) (hs.rt _ hm);have c3:=zgk (T:=T) (h.l[i]'hi).y (hs.rl _ hm) (hs.ry _ hm);generalize hq:h.l[i]'hi=q at *
   have hA1:(Zc1 (h.l.take i)).length+1<=4294967296:=by omega
   clear hs hm al;unfold Znj;simp only[key];generalize hA:Zc1 (h.l.take i)=A at *
   clear hA key;have hnn:wkL (Zb q.nums)=Zb q.nums:=zey _;replace c2:Za T 533 [.sl (Zb q.nums) .an]=some (.sl [Zau (fz (fv q.t)),Zau (fz (fv q.w)),Zau (fz (fv q.h)),Zau (fz (fv q.e))] .an):=c2;generalize hN:Zb q.nums=NN at *
   clear hN;have hpush:wkL (Za1 A++[Zll (Zdg q)])=Za1 (A++[Zdg q]):=by rw[zmk,ztr]
   unfold Zdg at *
   obtain⟨q1,q2,q3,q4,q5,q6⟩:=q;dsimp only at *
   generalize fz (fv q1)=z1 at *
   generalize fz (fv q2)=z2 at *
   generalize fz (fv q3)=z3 at *
   generalize fz (fv q4)=z4 at *
   generalize nrm q5=z5 at *
   obtain⟨L,t,y⟩:=h;dsimp only at *
   cases q6 with
   | true=>
    simp -implicitDefEqProofs[l532_0,hi,hq,hws,c1,c2,c3,hnn,hA1,hpush]
   | false=>
    simp -implicitDefEqProofs[l532_0,hi,hq,hws]
  ·simp only[Yev];unfold Znj;simp only[Yev];constructor<;>simp -implicitDefEqProofs[l532_0]
 have e0:Zc1 (h.l.take 0)=[]:=rfl;unfold Znj at hlp;rw[e0]at hlp;simp only[Yp,Yah,zky]at hlp;have ht:List.take (Zc1 h.l).length (Zc1 h.l)=Zc1 h.l:=Yev ..;rw[zaa Ze1.h532 rfl,b532];obtain⟨L,t,y⟩:=h;simp -implicitDefEqProofs[hlp,ht]
end
section
variable{T:Tbl}[Z2 T][Zu T][Zy T][Z0 T][Zt T][Zp T][Zi T][Zl T][Zs T][Zad T][Zap T][Zc5 T][Zah T][Zaf T][Zbl T][Zas T][Zd7 T][Za9 T][Zbd T][Zba T][Zbt T][Ze1 T][Zhf T]
def znc(l:List Trr):(Zc1 l).length<=l.length:=by
 unfold Zc1;rw[Yk];exact Ycc ..
def Znk(A:List Trr)(i:Nat):St:=⟨[(3,.bs (.loc 3) 1 3 0 i),(7,.sl (Za1 A) .an),(8,.i .i64 A.length),(9,.i .i64 i)],[(.loc 3,⟨1,.own,3,Zb ((A.take i).map (·.h))⟩)],3⟩
def z39(h:Hs)(hs:HsS h 1000):Za T 519 [ehs h]=some (.sl (Zb (Zaa h)) .an):=by
 have c:=zg7 (T:=T) h hs;have hl:=Yd (znc h.l) hs.len;unfold Zaa;generalize Zc1 h.l=A at *
 have hlp:Ze T 0 0 (.norm false [3]) l519_0 (Znk A 0)=some (.n,⟨[(3,.bs (.loc 3) 1 3 0 A.length)],[(.loc 3,⟨1,.own,3,Zb (A.map (·.h))⟩)],3⟩):=by
  refine zag (Znk A) A.length _ (fun i hi=>?_) ?_
  ·have hga:A[i]? = some (A[i]'hi):=Yb hi;have hws:=zaw hi (by omega);have key:(A.take (i+1)).map (·.h)=(A.take i).map (·.h)++[(A[i]'hi).h]:=by rw[Y4 hi,Yb2];rfl
   have hml:((A.take i).map (·.h)).length=i:=by simp;omega
   have hi4:i+1<=4294967296:=by omega
   generalize hq:A[i]'hi=q at *
   unfold Znk;simp only[key];generalize (A.take i).map (·.h)=M at *
   have hpush:=za6 hml q.h;obtain⟨q1,q2,q3,q4,q5,q6⟩:=q;dsimp only at *
   simp -implicitDefEqProofs[l519_0,hi,hga,hq,hws,hml,hi4,hpush]
  ·unfold Znk;rw[Ya (Ye _)];constructor<;>simp -implicitDefEqProofs[l519_0]
 unfold Znk at hlp;simp only[Yp,Yaz,Ya6,zay]at hlp;have hml:(A.map (·.h)).length=A.length:=by simp
 have ht:List.take A.length (A.map (·.h))=A.map (·.h):=Ya (by simp);rw[zaa Zhf.h519 rfl,b519];clear hs;generalize A.map (·.h)=M at *
 obtain⟨L,t,y⟩:=h;simp -implicitDefEqProofs[c,hlp,ht,hml]
def Znl(h:Hs)(A:List Trr)(i:Nat):St:=⟨[(1,.ptr (.loc 1) 1 5 0 0),(4,.bs (.loc 4) 2 3 0 i),(5,.bs (.loc 5) 3 1 0 i),(9,.sl (Za1 A) .an),(10,.i .i64 A.length),(11,.i .i64 i)],
 [(.loc 1,bxH h),(.loc 4,⟨2,.own,3,Zb ((A.take i).map (·.t))⟩),(.loc 5,⟨3,.own,1,Zd ((A.take i).map (·.y))⟩)],5⟩
def zvf(h:Hs)(A:List Trr)(hl:A.length<=1000):Ze T 0 0 (.norm false [1,4,5]) l513_0 (Znl h A 0) =
  some (.n,⟨[(1,.ptr (.loc 1) 1 5 0 0),(4,.bs (.loc 4) 2 3 0 A.length),(5,.bs (.loc 5) 3 1 0 A.length)],[(.loc 1,bxH h),(.loc 4,⟨2,.own,3,Zb (A.map (·.t))⟩),(.loc 5,⟨3,.own,1,Zd (A.map (·.y))⟩)],5⟩):=by
 refine zag (Znl h A) A.length _ (fun i hi=>?_) ?_
 ·have hga:A[i]? = some (A[i]'hi):=Yb hi;have hws:=zaw hi (by omega);have key:(A.take (i+1)).map (·.t)=(A.take i).map (·.t)++[(A[i]'hi).t]:=by rw[Y4 hi,Yb2];rfl
  have key2:(A.take (i+1)).map (·.y)=(A.take i).map (·.y)++[(A[i]'hi).y]:=by rw[Y4 hi,Yb2];rfl
  have hml:((A.take i).map (·.t)).length=i:=by simp;omega
  have hml2:((A.take i).map (·.y)).length=i:=by simp;omega
  have hi4:i+1<=4294967296:=by omega
  generalize hq:A[i]'hi=q at *
  unfold Znl bxH;simp only[key,key2];generalize (A.take i).map (·.t)=M at *
  generalize (A.take i).map (·.y)=N at *
  have hpush:=za6 hml q.t;have hpush2:=zdz hml2 q.y;obtain⟨q1,q2,q3,q4,q5,q6⟩:=q;dsimp only at *
  simp -implicitDefEqProofs[l513_0,hi,hga,hq,hws,hml,hml2,hi4,hpush,hpush2]
 ·unfold Znl bxH;rw[Ya (Ye _)];constructor<;>simp -implicitDefEqProofs[l513_0]
def zvg(h:Hs)(hs:HsS h 1000):Za T 513 [ehs h]=some (.tup [.sl (Zb (Zcb h)) .an,.sl (Zd (Zb8 h)) .an]):=by
 have c:=zg7 (T:=T) h hs;have hl:=Yd (znc h.l) hs.len;have c2:=zc6 (T:=T) h.t (Yd hs.t (by decide));have c3:=zgk (T:=T) h.y hs.yl hs.y;unfold Zcb Zb8;generalize Zc1 h.l=A at *
 have hlp:=zvf (T:=T) h A hl;unfold Znl bxH at hlp;simp only[Yp,Yaz,Ya6,zay,znp]at hlp;have hml:(A.map (·.t)).length=A.length:=by simp
 have hml2:(A.map (·.y)).length=A.length:=by simp
 have hi4:A.length+1<=4294967296:=by omega
 rw[zaa Ze1.h513 rfl,b513];clear hs;generalize A.map (·.t)=M at *
 generalize A.map (·.y)=N at *
 generalize hn:A.length=n at *
 have hpush:=za6 hml (fz (fv h.t));have hpush2:=zdz hml2 (nrm h.y);generalize fz (fv h.t)=z at *
 generalize nrm h.y=Y at *
 have ht1:List.take (n+1) (M++[z])=M++[z]:=Ya (by simp;omega);have ht2:List.take (n+1) (N++[Y])=N++[Y]:=Ya (by simp;omega);obtain⟨L,⟨t1,t2,t3⟩,y⟩:=h;dsimp only at *
 simp -implicitDefEqProofs[c,c2,c3,hlp,hml,hml2,hi4,hpush,hpush2,hn,ht1,ht2]
end
def tsK(h:Hs)(k:Int):List Fz:=(Za2 k (Zaa h).length).map fun m=>((Zcb h)[m]?).getD (false,[],[])
def ysK(h:Hs)(k:Int):List (List Fz):=(Za2 k (Zaa h).length).map fun m=>((Zb8 h)[m]?).getD []
def ofK(h:Hs)(k:Int):Kp:=⟨Zaj k,Zaa h,tsK h k,ysK h k⟩
def Zlu(h:Hs)(k:Int)(i:Nat):St:=
 ⟨[(4,.ptr (.loc 4) 1 4 0 0),(5,.ptr (.loc 5) 2 4 0 0),(6,.sl (Zb (Zcb h)) .an),(7,.sl (Zd (Zb8 h)) .an),(24,.sl (Zcl (Za2 k (Zaa h).length)) .an),(25,.i .i64 (Za2 k (Zaa h).length).length),(26,.i .i64 (i:Int))],
  [(.loc 4,⟨1,.str,4,[[.i .i64 0,.sl [] .an,.sl [] .an,.sl [] .an]]⟩),(.loc 5,⟨2,.str,4,[[.i .i64 (Zaj k),.sl (Zb (Zaa h)) .an,.bs (.fld (.loc 5) 2) 3 3 0 i,.bs (.fld (.loc 5) 3) 4 1 0 i]]⟩),
   (.fld (.loc 5) 2,⟨3,.own,3,Zb ((tsK h k).take i)⟩),(.fld (.loc 5) 3,⟨4,.own,1,Zd ((ysK h k).take i)⟩)],6⟩
def zy6{k n:Int}{i m:Nat}(h:(Za2 k n)[i]? = some m):(m:Int)<n:=by
 unfold Za2 at h;split at h
 ·cases h
 ·next hb=>
  have:=(zm3 (ze9 k).2.1 h).2.1;omega
def zg3(k n:Int):(Za2 k n).length<=200:=by
 unfold Za2;split
 ·simp
 ·next hb=>
  have h1:(Za8 (Zaj k) n.toNat).length=Zcr (Zaj k) n.toNat:=by simp[Za8]
  have:=zm2 (c:=Zaj k) (m:=n.toNat) (ze9 k).2.1;omega
section
variable{T:Tbl}[Z2 T][Zu T][Zy T][Z0 T][Zt T][Zp T][Zi T][Zl T][Zs T][Zar T]
def z3g(h:Hs)(k:Int)(i m:Nat)(x:Fz)(r:List Fz)(hm:(Za2 k (Zaa h).length)[i]? = some m)(hx:(Zcb h)[m]? = some x)(hr:(Zb8 h)[m]? = some r) :
  evX (orc T) T 0 l499_0 (Zlu h k i)=some (.n,Zlu h k (i+1)):=by
 have hlen:=zg3 k (Zaa h).length;have et:(tsK h k).take (i+1)=(tsK h k).take i++[x]:=by
  unfold tsK;rw[Ybf,Yaf,hm,Ybr,hx]
  rfl
 have ey:(ysK h k).take (i+1)=(ysK h k).take i++[r]:=by
  unfold ysK;rw[Ybf,Yaf,hm,Ybr,hr]
  rfl
 obtain⟨hi,hge⟩:=Yc.1 hm;have hi':(i:Int)<((Za2 k (Zaa h).length).length:Int):=by omega
 have hws:=zaw hi (by omega);have hl1:(tsK h k).length=(Za2 k (Zaa h).length).length:=by simp[tsK]
 have hl2:(ysK h k).length=(Za2 k (Zaa h).length).length:=by simp[ysK]
 have l1:((tsK h k).take i).length=i:=by rw[Y3];omega
 have l2:((ysK h k).take i).length=i:=by rw[Y3];omega
 have p1:=za6 (m:=(tsK h k).take i) l1 x;have p2:=zdz (m:=(ysK h k).take i) l2 r;have hb:i<=4294967295:=by omega
 obtain⟨g1,g2⟩:=Yc.1 hx;obtain⟨g3,g4⟩:=Yc.1 hr;have g1':(m:Int)<((Zcb h).length:Int):=by omega
 have g3':(m:Int)<((Zb8 h).length:Int):=by omega
 unfold Zlu;rw[et,ey];generalize (tsK h k).take i=A at *
 generalize (ysK h k).take i=B at *
 generalize Za2 k (Zaa h).length=M at *
 generalize Zcb h=NT at *
 generalize Zb8 h=NY at *
 obtain⟨x0,x1,x2⟩:=x;simp -implicitDefEqProofs[l499_0,hi,hi',hm,hge,hws,hx,g1,g1',g2,hr,g3,g3',g4,l1,l2,p1,p2,hb]
variable[Zad T][Zap T][Zc5 T][Zah T][Zaf T][Zbl T][Zas T][Zd7 T][Za9 T][Zbd T][Zba T][Zbt T][Ze1 T][Zhf T]
def z8i(h:Hs)(k:Int)(hs:HsS h 1000):Za T 499 [ehs h,.i .i64 k]=some (ekp (ofK h k)):=by
 have c1:=z39 (T:=T) h hs;have c2:=zvg (T:=T) h hs;have c3:=zio (T:=T) k;have c4:=zgj (T:=T) (Zaa h).length k;have hlen:=zg3 k (Zaa h).length;have hl1:(tsK h k).length=(Za2 k (Zaa h).length).length:=by simp[tsK]
 have hl2:(ysK h k).length=(Za2 k (Zaa h).length).length:=by simp[ysK]
 have hlo:Ze T 0 0 (.norm false [4,5]) l499_0 (Zlu h k 0)=some (.n,⟨[(4,.ptr (.loc 4) 1 4 0 0),(5,.ptr (.loc 5) 2 4 0 0)],
   [(.loc 4,⟨1,.str,4,[[.i .i64 0,.sl [] .an,.sl [] .an,.sl [] .an]]⟩),(.loc 5,⟨2,.str,4,[[.i .i64 (Zaj k),.sl (Zb (Zaa h)) .an,.bs (.fld (.loc 5) 2) 3 3 0 (Za2 k (Zaa h).length).length,.bs (.fld (.loc 5) 3) 4 1 0 (Za2 k (Zaa h).length).length]]⟩),
    (.fld (.loc 5) 2,⟨3,.own,3,Zb (tsK h k)⟩),(.fld (.loc 5) 3,⟨4,.own,1,Zd (ysK h k)⟩)],6⟩):=by
  refine zag (Zlu h k) (Za2 k (Zaa h).length).length _ (fun i hi=>?_) ?_
  ·obtain⟨m,hm⟩:∃m,(Za2 k (Zaa h).length)[i]? = some m:=⟨_,Yb hi⟩;have hml:=zy6 hm;have n1:(Zcb h).length=(Zaa h).length+1:=by simp[Zcb,Zaa]
   have n2:(Zb8 h).length=(Zaa h).length+1:=by simp[Zb8,Zaa]
   obtain⟨x,hx⟩:∃x,(Zcb h)[m]? = some x:=⟨_,Yb (by omega)⟩;obtain⟨r,hr⟩:∃r,(Zb8 h)[m]? = some r:=⟨_,Yb (by omega)⟩;exact z3g (T:=T) h k i m x r hm hx hr
  ·have e1:(tsK h k).take (Za2 k (Zaa h).length).length=tsK h k:=Ya (by omega);have e2:(ysK h k).take (Za2 k (Zaa h).length).length=ysK h k:=Ya (by omega);unfold Zlu;rw[e1,e2];generalize (Za2 k (Zaa h).length).length=N at *
   generalize Za2 k (Zaa h).length=M at *
   generalize Zcb h=NT at *
   generalize Zb8 h=NY at *
   generalize tsK h k=A at *
   generalize ysK h k=B at *
   constructor<;>simp -implicitDefEqProofs[l499_0]
 unfold Zlu at hlo;simp only[Yaz,show Zb []=[] from rfl,show Zd []=[] from rfl,show (((0:Nat):Int))=0 from rfl]at hlo;have t1:List.take (Za2 k (Zaa h).length).length (Zb (tsK h k))=Zb (tsK h k):=Ya (by rw[zex];omega);have t2:List.take (Za2 k (Zaa h).length).length (Zd (ysK h k))=Zd (ysK h k):=Ya (by rw[zbr];omega);have n1:(Zcl (Za2 k (Zaa h).length)).length=(Za2 k (Zaa h).length).length:=zbz _;have hzl:(Zb (Zaa h)).length=(Zaa h).length:=by simp
 unfold ofK;generalize Za2 k (Zaa h).length=M at *
 generalize Zcb h=NT at *
 generalize Zb8 h=NY at *
 generalize tsK h k=A at *
 generalize ysK h k=B at *
 generalize Zaa h=Z at *
 obtain⟨L,⟨t1',t2',t3'⟩,y⟩:=h;rw[zaa Zar.h499 rfl,b499];simp -implicitDefEqProofs[c1,c2,c3,c4,hlo,t1,t2,hl1,hl2]
end
def bmp(l:List Rat)(i:Int)(x:Rat):List Rat:=l.set i.toNat (gI l i+x)
def Zqx(D:List Rat)(x:Ins)(r:Rat):Rat:=if 0<x.b then Ziv (gI D x.a) (x.b-1) else if x.b<0 then r/gI D x.a else 0
def Zqy(D:List Rat)(x:Ins)(r c:Rat)(co:List Rat):List Rat:=
 if x.op=6 then bmp co x.a (-c)
 else if x.op=7 then bmp (bmp co x.a c) x.b c
 else if x.op=8 then bmp (bmp co x.a c) x.b (-c)
 else if x.op=9 then bmp (bmp co x.a (c*gI D x.b)) x.b (c*gI D x.a)
 else if x.op=10 then bmp (bmp co x.a (c/gI D x.b)) x.b (-(c/gI D x.b*r))
 else if x.op=11 then bmp co x.a (c*(x.b*Zqx D x r))
 else co
def Zqz(x:Ins)(c:Rat)(g:Po):Po:=
 if x.op=2 then ⟨g.t+c,g.y,g.p⟩ else if x.op=3 then ⟨g.t,bmp g.y x.a c,g.p⟩ else if x.op=4 then ⟨g.t,g.y,bmp g.p x.a c⟩ else g
def Zo7(lim:Nat)(code:List Ins)(D:List Rat):Nat->List Rat->Po->(List Rat×Po)×Option Nat
 | 0,co,g=>((co,g),none)
 | n+1,co,g=>
  match code[n]? with
  | none=>((co,g),none)
  | some x=>if lim<Zec (gI co n) then ((co,g),some n) else Zo7 lim code D n (Zqy D x (gI D n) (gI co n) co) (Zqz x (gI co n) g)
def Zq0(code:List Ins)(D:List Rat):Nat->List Rat->Po->List Rat×Po
 | 0,co,g=>(co,g)
 | n+1,co,g=>
  match code[n]? with
  | none=>(co,g)
  | some x=>Zq0 code D n (Zqy D x (gI D n) (gI co n) co) (Zqz x (gI co n) g)
def Zo8:List Int->List Rat->List Rat->List Rat
 | o::os,w::ws,co=>Zo8 os ws (bmp co o w)
 | _,_,co=>co
def Z7(lim:Nat):List Rat->Nat->Option Nat
 | [],_=>none
 | q::l,k=>if lim<Zec q then some k else Z7 lim l (k+1)
def Zlk(d p:Nat):Po:=⟨0,List.replicate d 0,List.replicate p 0⟩
def Zr6(g:Po):List Rat:=g.t::(g.y++g.p)
def Zti(lim:Nat)(t:Tp)(P:Po)(w:List Rat):Po×Nat×Nat×Nat:=
 if w.length≠t.outs.length then (Zlk 0 0,2,0,0)
 else if (Zdr lim t P).2.1≠0 then (Zlk 0 0,(Zdr lim t P).2.1,0,(Zdr lim t P).2.2)
 else
  match Zo7 lim t.code (Zdr lim t P).1 t.code.length (Zo8 t.outs w (List.replicate t.code.length 0)) (Zlk t.dim.toNat t.par.toNat) with
  | (_,some i)=>(Zlk 0 0,6,2,i)
  | (s,none)=>match Z7 lim (Zr6 s.2) 0 with | some k=>(Zlk 0 0,6,3,k) | none=>(s.2,0,0,0)
def Zo9(l m:List Rat):List Rat:=List.zipWith (· + ·) l m
def Ztj(g h:Po):Po:=⟨g.t+h.t,Zo9 g.y h.y,Zo9 g.p h.p⟩
def z1g(l:List Fz)(x:Fz):sumF (l++[x])=sumF l+fv x:=by simp[sumF]
def zkm(l:List Fz){i:Nat}(h:i<l.length):sumF (l.take (i+1))=sumF (l.take i)+fv (l[i]'h):=by
 rw[Y4 h,z1g]
theorem zkn{l:List Fz}{B:Nat}(hw:∀x∈l,fsz x<=B)(hB:1<=B):∀i,i<=l.length->sz (sumF (l.take i))<=i*(B+1)+1
 | 0,_=>by
  grind[sumF,zh4]
 | i+1,hi=>by
  have ih:=zkn hw hB i (by omega);rw[zkm l hi];have h1:=zez (sumF (l.take i)) (fv (l[i]'hi));have h3:=za2 (hw _ (Yi hi)) hB
  grind
theorem zgn{x:Fz}(h:Zbn x=true):fsz x<=6:=by
 unfold Zbn at h;simp only[Yh,decide_eq_true_eq]at h;obtain⟨h1,h2⟩:=h;unfold Zbv at h1;have e:x=fz (fv x):=by grind
 rw[e]at h2 ⊢;have:=zkj (q:=fv x) (b:=190) h2;rw[zax];omega
section
variable{T:Tbl}[Z2 T][Zu T][Zy T][Z0 T][Zt T][Zp T][Zi T][Zl T][Zs T][Zad T][Zap T][Zc5 T][Zah T][Zaf T][Zbl T][Zas T][Zd7 T][Zal T]
def Znz(l:List Fz)(i:Nat):St:=⟨[(2,.ptr (.loc 2) 1 3 0 0),(3,.ptr (.loc 3) 2 3 0 0),(7,.sl (Zb l) .an),(8,.i .i64 l.length),(9,.i .i64 i)],
 [(.loc 2,⟨1,.str,3,[Zfb]⟩),(.loc 3,⟨2,.str,3,[Zau (fz (sumF (l.take i)))]⟩)],4⟩
def z48(l:List Fz){B:Nat}(hw:∀x∈l,fsz x<=B)(hB:1<=B)(hS:l.length*(B+1)+1<=1000) :
  Ze T 0 0 (.norm false [2,3]) l562_0 (Znz l 0)=some (.n,⟨[(2,.ptr (.loc 2) 1 3 0 0),(3,.ptr (.loc 3) 2 3 0 0)],[(.loc 2,⟨1,.str,3,[Zfb]⟩),(.loc 3,⟨2,.str,3,[Zau (fz (sumF l))]⟩)],4⟩):=by
 refine zag (Znz l) l.length _ (fun i hi=>?_) ?_
 ·have hlen:l.length*1<=1000:=Yd (Yaq _ (show 1<=B+1 by omega)) (by omega);have hBB:B+1<=1000:=Yd (Ybn _ (show 0<l.length by omega)) (by omega);have hws:=zaw hi (by omega);have ha1:=hw _ (Yi hi);have s1:=zkn hw hB i (by omega);have s2:i*(B+1)<=l.length*(B+1):=Yaa _ (by omega);have c2:=zfu (T:=T) (fz (sumF (l.take i))) (l[i]'hi) (by rw[zax];omega) (by omega);rw[zb6,<-zkm l hi]at c2;unfold Znz;simp -implicitDefEqProofs[l562_0,hi,hws,c2]
 ·unfold Znz;constructor<;>simp -implicitDefEqProofs[l562_0]
def zhz(l:List Fz){B:Nat}(hw:∀x∈l,fsz x<=B)(hB:1<=B)(hS:l.length*(B+1)+1<=1000) :
  Za T 562 [.sl (Zb l) .an]=some (efz (fz (sumF l))):=by
 have h0:=zim (T:=T);have h:=z48 (T:=T) l hw hB hS;unfold Znz at h;have e0:sumF (l.take 0)=0:=rfl;rw[e0]at h;simp only[Yp]at h;rw[zaa Zal.h562 rfl,b562];simp -implicitDefEqProofs[h0,h]
def Zju(m:List (List Fz))(r:List Fz)(j i:Nat):St:=⟨[(7,.sl (Zd m) .an),(8,.i .i64 m.length),(9,.i .i64 j),(13,.sl (Zb r) .an),(14,.i .i64 r.length),(15,.i .i64 i)],[],2⟩
def z1h(m:List (List Fz))(r:List Fz)(j:Nat)(hl:r.length<=1000)(hw:∀x∈r,fsz x<=1000) :
  Ze T 0 2 (.norm false [7,8,9]) l560_0 (Zju m r j 0)=if (r.drop 0).all Zbn=true then some (.n,⟨[(7,.sl (Zd m) .an),(8,.i .i64 m.length),(9,.i .i64 j)],[],2⟩) else some (.r,⟨[(2,.b false)],[],2⟩):=by
 refine zap (Zju m r j) r.length (fun i=>if (r.drop i).all Zbn=true then some (.n,⟨[(7,.sl (Zd m) .an),(8,.i .i64 m.length),(9,.i .i64 j)],[],2⟩) else some (.r,⟨[(2,.b false)],[],2⟩)) (fun i hi=>?_) ?_
 ·have hws:=zaw hi (by omega);have hx:=hw _ (Yi hi);have c1:=zl0 (T:=T) (r[i]'hi) (by omega);have c2:=zl2 (T:=T) (r[i]'hi) (by omega);have key:(r.drop i).all Zbn=(Zbn (r[i]'hi)&&(r.drop (i+1)).all Zbn):=by rw[Yg hi,Ybj]
  have hn:Zbn (r[i]'hi)=(Zbv (r[i]'hi)&&decide (Zcs (r[i]'hi)<=190)):=rfl;by_cases h1:Zbv (r[i]'hi)=true
  ·by_cases h2:Zcs (r[i]'hi)<=190
   ·left;refine⟨?_,by grind⟩;have h3:¬ (190:Int)<Zcs (r[i]'hi):=by omega
    unfold Zju;simp -implicitDefEqProofs[l560_0,hi,hws,c1,c2,h1,h3]
   ·right;have h3:(190:Int)<Zcs (r[i]'hi):=by omega
    rw[if_neg (by grind)];unfold Zju;constructor<;>simp -implicitDefEqProofs[l560_0,hi,c1,c2,h1,h3]
  ·right;have h1':Zbv (r[i]'hi)=false:=by grind
   rw[if_neg (by grind)];unfold Zju;constructor<;>simp -implicitDefEqProofs[l560_0,hi,c1,h1']
 ·simp only[Yw,Ycw,if_true];unfold Zju;constructor<;>simp -implicitDefEqProofs[l560_0]
def Zkf(m:List (List Fz))(i:Nat):St:=⟨[(7,.sl (Zd m) .an),(8,.i .i64 m.length),(9,.i .i64 i)],[],2⟩
def z1i(m:List (List Fz))(hl:m.length<=1000)(hw:∀r∈m,r.length<=1000/\∀x∈r,fsz x<=1000) :
  Ze T 0 0 (.norm false []) l560_1 (Zkf m 0)=if Zdb (m.drop 0)=true then some (.n,⟨[],[],2⟩) else some (.r,⟨[(2,.b false)],[],2⟩):=by
 refine zap (Zkf m) m.length (fun i=>if Zdb (m.drop i)=true then some (.n,⟨[],[],2⟩) else some (.r,⟨[(2,.b false)],[],2⟩)) (fun i hi=>?_) ?_
 ·have hws:=zaw hi (by omega);obtain⟨h1,h2⟩:=hw _ (Yi hi);have h:=z1h (T:=T) m (m[i]'hi) i h1 h2;have key:Zdb (m.drop i)=((m[i]'hi).all Zbn&&Zdb (m.drop (i+1))):=by grind[Zdb,List.drop_eq_getElem_cons]
  unfold Zju at h;rw[Y6]at h;simp only[Yp]at h;by_cases hr:(m[i]'hi).all Zbn=true
  ·left;rw[if_pos hr]at h;refine⟨?_,by grind⟩;unfold Zkf;simp -implicitDefEqProofs[l560_1,hi,hws,h]
  ·right;rw[if_neg hr]at h;rw[if_neg (by grind)];unfold Zkf;constructor<;>simp -implicitDefEqProofs[l560_1,hi,h]
 ·have e:Zdb []=true:=rfl;simp only[Yw,e,if_true];unfold Zkf;constructor<;>simp -implicitDefEqProofs[l560_1]
def zgd(m:List (List Fz))(hl:m.length<=1000)(hw:∀r∈m,r.length<=1000/\∀x∈r,fsz x<=1000):Za T 560 [.sl (Zd m) .an]=some (.b (Zdb m)):=by
 have h:=z1i (T:=T) m hl hw;unfold Zkf at h;rw[Y6]at h;simp only[Yp]at h;rw[zaa Zal.h560 rfl,b560];cases hn:Zdb m with
 | true=>rw[hn]at h;simp at h;simp -implicitDefEqProofs[h]
 | false=>rw[hn]at h;simp at h;simp -implicitDefEqProofs[h]
def Zkg(a:List (List Fz))(i:Nat):St:=⟨[(43,.sl (Zd a) .an),(44,.i .i64 a.length),(45,.i .i64 i)],[],2⟩
def zwa(a:List (List Fz))(hl:a.length<=1000) :
  Ze T 0 0 (.norm false []) l559_0 (Zkg a 0)=if Zbc (a.drop 0) 0=true then some (.n,⟨[],[],2⟩) else some (.r,⟨[(2,.b false)],[],2⟩):=by
 refine zap (Zkg a) a.length (fun i=>if Zbc (a.drop i) i=true then some (.n,⟨[],[],2⟩) else some (.r,⟨[(2,.b false)],[],2⟩)) (fun i hi=>?_) ?_
 ·have hws:=zaw hi (by omega);have key:Zbc (a.drop i) i=(decide ((a[i]'hi).length=i)&&Zbc (a.drop (i+1)) (i+1)):=by rw[Yg hi,Zbc]
  by_cases hr:(a[i]'hi).length=i
  ·left;refine⟨?_,by grind⟩;unfold Zkg;simp -implicitDefEqProofs[l559_0,hi,hws,hr]
  ·right;have hr':¬ ((a[i]'hi).length:Int)=i:=by omega
   rw[if_neg (by grind)];unfold Zkg;constructor<;>simp -implicitDefEqProofs[l559_0,hi,hr']
 ·have e:Zbc [] a.length=true:=rfl;simp only[Yw,e,if_true];unfold Zkg;constructor<;>simp -implicitDefEqProofs[l559_0]
def zp1(s:Sm)(hs:SmS s):Za T 559 [esm s]=some (.b (Zch s)):=by
 have h:=zwa (T:=T) s.a hs.al;unfold Zkg at h;rw[Y6]at h;have l4:=hs.el;rw[zaa Zal.h559 rfl,b559];unfold Zch;obtain⟨nm,c,a,b,e⟩:=s;by_cases p1:b.length<1
 ·have q2:b=[]:=Ybd.1 (by omega);subst q2;simp -implicitDefEqProofs[]
 have p1':1<=b.length:=by omega
 have m2:¬ (b.length:Int)<1:=by omega
 by_cases p2:8<b.length
 ·have q2:¬ b.length<=8:=by omega
  have m3:(8:Int)<b.length:=by omega
  simp -implicitDefEqProofs[p1',q2,m2,m3]
 have p2':b.length<=8:=by omega
 have m3:¬ (8:Int)<b.length:=by omega
 by_cases p3:c.length=b.length
 rotate_left
 ·have q3:¬ (c.length:Int)=b.length:=by omega
  simp -implicitDefEqProofs[p1',p2',m2,m3,p3,q3]
 by_cases p4:a.length=b.length
 rotate_left
 ·have q4:¬ (a.length:Int)=b.length:=by omega
  simp -implicitDefEqProofs[p1',p2',m2,m3,p3,p4,q4]
 rw[p4]at h;by_cases p5:e.length=b.length
 ·cases hsh:Zbc a 0<;>rw[hsh]at h<;>simp at h<;>simp -implicitDefEqProofs[p1',p2',m2,m3,p3,p4,p5,h]
 have q5:¬ (e.length:Int)=b.length:=by omega
 by_cases p6:e.length=0
 ·have e0:e=[]:=Ybd.1 p6;have q7:¬ (0:Int)=b.length:=by omega
  have q8:¬ 0=b.length:=by omega
  subst e0;cases hsh:Zbc a 0<;>rw[hsh]at h<;>simp at h<;>simp -implicitDefEqProofs[p1',p2',m2,m3,p3,p4,q7,q8,h]
 ·have q7:¬ e=[]:=fun h=>p6 (by grind);simp -implicitDefEqProofs[p1',p2',m2,m3,p3,p4,p5,q5,p6]
def bxS(s:Sm):Box:=⟨1,.str,5,[[.s s.nm,.sl (Zb s.c) .an,.sl (Zd s.a) .an,.sl (Zb s.b) .an,.sl (Zb s.e) .an]]⟩
def Zmp(s:Sm)(i:Nat):St:=⟨[(1,.ptr (.loc 1) 1 5 0 0),(6,.sl (Zd s.a) .an),(7,.i .i64 s.a.length),(8,.i .i64 i)],[(.loc 1,bxS s)],3⟩
def z1j(s:Sm)(hl:s.a.length<=8)(hc:s.c.length=s.a.length)(h1:∀r∈s.a,r.length<=8/\∀x∈r,fsz x<=6)(h2:∀x∈s.c,fsz x<=6) :
  Ze T 0 0 (.norm false []) l561_0 (Zmp s 0)=if Zcm (s.a.drop 0) (s.c.drop 0)=true then some (.n,⟨[],[],2⟩) else some (.r,⟨[(2,.b false)],[],2⟩):=by
 refine zap (Zmp s) s.a.length (fun i=>if Zcm (s.a.drop i) (s.c.drop i)=true then some (.n,⟨[],[],2⟩) else some (.r,⟨[(2,.b false)],[],2⟩)) (fun i hi=>?_) ?_
 ·have hic:i<s.c.length:=by omega
  have hws:=zaw hi (by omega);obtain⟨g1,g2⟩:=h1 _ (Yi hi);have g3:=h2 _ (Yi hic);have c1:=zhz (T:=T) (s.a[i]'hi) g2 (by decide) (by omega);have z1:=zkn g2 (by decide) (s.a[i]'hi).length (Ye _);rw[Ya (Ye _)]at z1;have c2:=zj0 (T:=T) (fz (sumF (s.a[i]'hi))) (s.c[i]'hic) (by rw[zax];omega) (by omega);rw[zb6]at c2;have key:Zcm (s.a.drop i) (s.c.drop i)=(decide (sumF (s.a[i]'hi)=fv (s.c[i]'hic))&&Zcm (s.a.drop (i+1)) (s.c.drop (i+1))):=by
   grind[Zcm,List.drop_eq_getElem_cons,List.zip_cons_cons]
  have hic':(i:Int)<s.c.length:=by omega
  generalize fz (sumF (s.a[i]'hi))=z at *
  by_cases he:sumF (s.a[i]'hi)=fv (s.c[i]'hic)
  ·left;refine⟨?_,by grind⟩;unfold Zmp bxS;simp -implicitDefEqProofs[l561_0,hi,hws,c1,c2,he,hic,hic']
  ·right;rw[if_neg (by grind)];unfold Zmp bxS;constructor<;>simp -implicitDefEqProofs[l561_0,hi,c1,c2,he,hic,hic']
 ·have e:Zcm [] (s.c.drop s.a.length)=true:=rfl;simp only[Yw,e,if_true];unfold Zmp bxS;constructor<;>simp -implicitDefEqProofs[l561_0]
def zrv(s:Sm)(hl:s.a.length<=8)(hc:s.c.length=s.a.length)(h1:∀r∈s.a,r.length<=8/\∀x∈r,fsz x<=6)(h2:∀x∈s.c,fsz x<=6):Za T 561 [esm s]=some (.b (Zcm s.a s.c)):=by
 have h:=z1j (T:=T) s hl hc h1 h2;unfold Zmp bxS at h;rw[Y6,Y6]at h;rw[zaa Zal.h561 rfl,b561];obtain⟨nm,c,a,b,e⟩:=s;cases hr:Zcm a c<;>rw[hr]at h<;>simp at h<;>simp -implicitDefEqProofs[h]
theorem zf3:∀(a:List (List Fz)) (i:Nat),Zbc a i=true->∀r∈a,r.length<=i+a.length
 | [],_,_,r,hr=>by grind
 | x::a,i,h,r,hr=>by
  simp only[Zbc,Yh,decide_eq_true_eq]at h;rcases Yab.1 hr with rfl | hr
  ·omega
  ·have:=zf3 a (i+1) h.2 r hr
   grind
def zmg{s:Sm}(h:Zch s=true):1<=s.b.length/\s.b.length<=8/\s.c.length=s.b.length/\s.a.length=s.b.length/\(s.e.length=s.b.length\/s.e.length=0)/\Zbc s.a 0=true:=by
 grind[Zch]
def zti{m:List (List Fz)}(h:Zdb m=true):∀r∈m,∀x∈r,fsz x<=6:=by
 grind[Zdb,zgn]
def zf4{l:List Fz}(hl:l.length<=8)(hw:∀x∈l,fsz x<=6):sz (sumF l)<=57:=by
 have:=zkn hw (by decide) l.length (Ye _)
 grind
end
section
variable{T:Tbl}[Z2 T][Zu T][Zy T][Z0 T][Zt T][Zp T][Zi T][Zl T][Zs T][Zad T][Zap T][Zc5 T][Zah T][Zaf T][Zbl T][Zas T][Zd7 T][Zba T][Zde T][Zal T]
def zp2(s:Sm)(hs:SmS s):Za T 551 [esm s]=some (.i .i64 (Zfz s)):=by
 have o1:=zs3 (T:=T);have c1:=zzi (T:=T) 2 0 s.nm (Yd hs.nm (by decide));have c2:=zp1 (T:=T) s hs;have c3:=zgd (T:=T) s.a hs.al (fun r hr=>⟨(hs.a r hr).1,fun x hx=>Yd ((hs.a r hr).2 x hx) (by decide)⟩);have c4:=zgd (T:=T) [s.b,s.c,s.e] (by simp) (fun r hr=>by
  simp only[Yab,Yes,or_false]at hr;rcases hr with rfl | rfl | rfl
  ·exact⟨hs.bl,fun x hx=>Yd (hs.b x hx) (by decide)⟩
  ·exact⟨hs.cl,fun x hx=>Yd (hs.c x hx) (by decide)⟩
  ·exact⟨hs.el,fun x hx=>Yd (hs.e x hx) (by decide)⟩)
 replace c4:Za T 560 [.sl [[.sl (Zb s.b) .an],[.sl (Zb s.c) .an],[.sl (Zb s.e) .an]] .an]=some (.b (Zdb [s.b,s.c,s.e])):=c4;have k5:=zrv (T:=T) s;have k6:=fun(hl:s.b.length<=8) (h:∀x∈s.b,fsz x<=6)=>zhz (T:=T) s.b h (by decide) (by omega);have k7:=fun(hl:s.e.length<=8) (h:∀x∈s.e,fsz x<=6)=>zhz (T:=T) s.e h (by decide) (by omega);rw[zaa Zal.h551 rfl,b551];unfold Zfz;cases g1:Zbu 2 s.nm with
 | false=>
  rw[g1]at c1;obtain⟨nm,c,a,b,e⟩:=s;generalize fz 1=z1 at *
  dsimp only at *
  simp -implicitDefEqProofs[o1,c1]
 | true=>
 rw[g1]at c1;cases g2:Zch s with
 | false=>
  rw[g2]at c2;obtain⟨nm,c,a,b,e⟩:=s;generalize fz 1=z1 at *
  dsimp only at *
  simp -implicitDefEqProofs[o1,c1,c2]
 | true=>
 rw[g2]at c2;obtain⟨s1,s2,s3,s4,s5,s6⟩:=zmg g2;cases g3:Zdb s.a with
 | false=>
  rw[g3]at c3;obtain⟨nm,c,a,b,e⟩:=s;simp -implicitDefEqProofs[o1,c1,c2,c3]
 | true=>
 rw[g3]at c3;cases g4:Zdb [s.b,s.c,s.e]with
 | false=>
  rw[g4]at c4;obtain⟨nm,c,a,b,e⟩:=s;simp -implicitDefEqProofs[o1,c1,c2,c3,c4]
 | true=>
 rw[g4]at c4;have n1:=zti g3;have n2:=zti g4;have nb:=n2 s.b (by simp);have nc:=n2 s.c (by simp);have ne:=n2 s.e (by simp);have c5:=k5 (by omega) (by omega) (fun r hr=>⟨by have:=zf3 _ _ s6 r hr;omega,n1 r hr⟩) nc;have c6:=k6 (by omega) nb;have c7:=k7 (by omega) ne;have z6:=zf4 (l:=s.b) (by omega) nb;have z7:=zf4 (l:=s.e) (by omega) ne;have d6:=zj0 (T:=T) (fz (sumF s.b)) (fz 1) (by rw[zax];omega) (by rw[zax,z6j];omega);have d7:=zj0 (T:=T) (fz (sumF s.e)) (fz 1) (by rw[zax];omega) (by rw[zax,z6j];omega);rw[zb6,zb6]at d6 d7;cases g5:Zcm s.a s.c with
 | false=>
  rw[g5]at c5;obtain⟨nm,c,a,b,e⟩:=s;simp -implicitDefEqProofs[o1,c1,c2,c3,c4,c5]
 | true=>
 rw[g5]at c5;obtain⟨nm,c,a,b,e⟩:=s;generalize fz (sumF b)=zb at *
 generalize fz (sumF e)=ze at *
 by_cases g6:sumF b=1
 ·by_cases g7:e=[]
  ·subst g7;replace c2:Za T 559 [.agg [.s nm,.sl (Zb c) .an,.sl (Zd a) .an,.sl (Zb b) .an,.sl [] .an]]=_:=c2;replace c4:Za T 560 [.sl [[.sl (Zb b) .an],[.sl (Zb c) .an],[.sl [] .an]] .an]=_:=c4;replace c5:Za T 561 [.agg [.s nm,.sl (Zb c) .an,.sl (Zd a) .an,.sl (Zb b) .an,.sl [] .an]]=_:=c5;simp -implicitDefEqProofs[o1,c1,c2,c3,c4,c5,c6,d6,g6]
  ·have l7:0<e.length:=Ybp.2 g7;by_cases g8:sumF e=1
   ·simp -implicitDefEqProofs[o1,c1,c2,c3,c4,c5,c6,d6,g6,c7,d7,g7,g8,l7]
   ·simp -implicitDefEqProofs[o1,c1,c2,c3,c4,c5,c6,d6,g6,c7,d7,g7,g8,l7]
 ·simp -implicitDefEqProofs[o1,c1,c2,c3,c4,c5,c6,d6,g6]
def zie(s:Sm)(hs:SmS s):Za T 536 [esm s]=some (.b (okS s)):=by
 have h:=zp2 (T:=T) s hs;rw[zaa Zal.h536 rfl,b536];unfold okS;generalize Zfz s=w at *
 by_cases hw:w=0
 ·subst hw;simp -implicitDefEqProofs[h]
 ·simp -implicitDefEqProofs[h,hw]
end
structure PbS (q:Pb):Prop where
 t:TpS q.t
 s:SmS q.s
 p:∀x∈q.p,fsz x<=1000
 pl:q.p.length<=1000
def Zgt(p:Pb)(t:Fz)(y:List Fz):List Rat×Nat×Nat:=Zcz (Zr p.bits) p.t ⟨fv t,y.map fv,p.p.map fv⟩
section
variable{T:Tbl}[Z2 T][Zu T][Zy T][Z0 T][Zt T][Zp T][Zi T][Zl T][Zs T][Zad T][Zap T][Zc5 T][Zah T][Zaf T][Zbl T][Zas T][Zd7 T][Zba T][Zde T][Zal T][Zeu T]
def zf5(p:Pb)(hp:PbS p):Za T 524 [epb p]=some (.b (okP p)):=by
 have c1:=zeh (T:=T) p.t hp.t.small;have c2:=zie (T:=T) p.s hp.s;unfold okP;rw[zaa Zeu.h524 rfl,b524];clear hp;generalize okT p.t=A at *
 generalize okS p.s=B at *
 obtain⟨⟨code,outs,dim,par⟩,⟨nm,c,a,b,e⟩,pp,bits⟩:=p;dsimp only at *
 cases A with
 | false=>simp -implicitDefEqProofs[c1]
 | true=>
 cases B with
 | false=>simp -implicitDefEqProofs[c1,c2]
 | true=>
  by_cases h:(pp.length:Int)=par
  ·simp -implicitDefEqProofs[c1,c2,h]
  ·simp -implicitDefEqProofs[c1,c2,h]
def z9q(p:Pb)(t:Fz)(y:List Fz):Za T 563 [epb p,efz t,.sl (Zb y) .an]=some (ept ⟨t,y,p.p⟩):=by
 rw[zaa Zeu.h563 rfl,b563];obtain⟨⟨code,outs,dim,par⟩,⟨nm,c,a,b,e⟩,pp,bits⟩:=p;obtain⟨t1,t2,t3⟩:=t;simp -implicitDefEqProofs[]
end
def z5n{c:Rat}{acc:List Rat}{r:List Fz}{S b1 b2:Nat}(hc:sz c<=b1)(ha:∀q∈acc,sz q<=S)(hr:∀x∈r,fsz x<=b2)(hB:1<=b2):∀q∈Zdq c acc r,sz q<=S+(b1+b2+1):=by
 intro q hq;obtain⟨i,hi,rfl⟩:=Ydh hq;simp only[Zdq,Yco]at hi;simp only[Zdq,Yck];have h1:=ha _ (Yi (show i<acc.length by omega));have h2:=za2 (hr _ (Yi (show i<r.length by omega))) hB;have h3:=zez (acc[i]'(by omega)) (c*fv (r[i]'(by omega)));have h4:=zd8 c (fv (r[i]'(by omega)));omega
theorem ztu{b1 b2:Nat}(h1:1<=b1)(h2:1<=b2):∀(p:List (Fz×List Fz)) (acc:List Rat) (S:Nat),(∀q∈acc,sz q<=S)->(∀q∈p,fsz q.1<=b1/\∀x∈q.2,fsz x<=b2)->∀q∈Zd3 p acc,sz q<=S+p.length*(b1+b2+1)
 | [],acc,S,ha,_=>by simpa[Zd3]using ha
 | r::p,acc,S,ha,hw=>by
  intro q hq;have hr:=hw r Yu;have:=ztu h1 h2 p (Zdq (fv r.1) acc r.2) (S+(b1+b2+1)) (z5n (za2 hr.1 h1) ha hr.2 h2) (fun r hr=>hw r (Yn _ hr)) q hq;rw[Yr,Ydj];omega
def Ziu(C:List Fz)(K:List (List Rat))(n:Nat):List Rat:=Zd3 (C.zip (K.map fzs)) (List.replicate n 0)
def Zdt(h:Rat)(C:List Fz)(K:List (List Rat))(n:Nat):List Rat:=(Ziu C K n).map fun q=>h*q
def Za4(y:List Rat)(h:Rat)(C:List Fz)(K:List (List Rat)):List Rat:=Zbm y (fzs (Zdt h C K y.length))
def z5o(c:Rat)(l:List Rat):scl c (fzs l)=fzs (l.map fun q=>c*q):=by
 unfold scl fzs;rw[Ybh,Ybh];refine Yd3 fun q _=>?_;show fz (c*fv (fz q))=fz (c*q);rw[zb6]
structure KOk (n:Nat) (K:List (List Rat)):Prop where
 len:K.length<=3
 row:∀r∈K,r.length=n
 sz:∀r∈K,∀q∈r,Go.Ab.sz q<=129
def zhg{C:List Fz}{K:List (List Rat)}{n:Nat}(hK:KOk n K):(Ziu C K n).length=n:=by
 unfold Ziu;rw[ziq _ _ fun q hq=>?_,Yz];obtain⟨r,hr,e⟩:=Yl.1 (Yc0 hq).2;rw[<-e,zae,Yz,hK.row r hr]
def zr1{C:List Fz}{K:List (List Rat)}{n:Nat}(hK:KOk n K)(hC:∀x∈C,fsz x<=20):∀q∈Ziu C K n,sz q<=451:=by
 intro q hq;have:=ztu (b1:=20) (b2:=129) (by decide) (by decide) (C.zip (K.map fzs)) (List.replicate n 0) 1 (fun q hq=>by rw[(List.mem_replicate.1 hq).2,zh4];exact Ye _) (fun q hq=>by
  obtain⟨h1,h2⟩:=Yc0 hq;refine⟨hC _ h1,fun x hx=>?_⟩;obtain⟨r,hr,e⟩:=Yl.1 h2;rw[<-e]at hx;obtain⟨v,hv,rfl⟩:=Yl.1 hx;exact hK.sz r hr v hv) q hq
 have hl:(C.zip (K.map fzs)).length<=3:=by
  rw[Ydq,Yk];have:=hK.len;omega
 have:=Yaa 150 hl;omega
def zea{h:Rat}{C:List Fz}{K:List (List Rat)}{n:Nat}(hK:KOk n K):(Zdt h C K n).length=n:=by
 unfold Zdt;rw[Yk,zhg hK]
def znr{h:Rat}{C:List Fz}{K:List (List Rat)}{n:Nat}(hK:KOk n K)(hC:∀x∈C,fsz x<=20)(hh:sz h<=20):∀q∈Zdt h C K n,sz q<=471:=by
 intro q hq;obtain⟨v,hv,rfl⟩:=Yl.1 hq;have h1:=zr1 hK hC v hv;have h2:=zd8 h v;omega
def zdi{y:List Rat}{h:Rat}{C:List Fz}{K:List (List Rat)}(hK:KOk y.length K):(Za4 y h C K).length=y.length:=by
 unfold Za4;exact zgm (by rw[zae,zea hK])
def zk0{y:List Rat}{h:Rat}{C:List Fz}{K:List (List Rat)}(hK:KOk y.length K)(hC:∀x∈C,fsz x<=20)(hh:sz h<=20)(hy:∀q∈y,sz q<=400):∀q∈Za4 y h C K,sz q<=900:=by
 intro q hq;have:=z03 (S:=400) (B:=471) hy (fun x hx=>by
  obtain⟨v,hv,rfl⟩:=Yl.1 hx;exact znr hK hC hh v hv) (by decide) q hq
 omega
theorem zk1{lim:Nat}:∀{l:List Rat} {k:Nat},Z7 lim l k=none->∀q∈l,Zec q<=lim
 | [],_,_,q,hq=>by cases hq
 | x::l,k,h,q,hq=>by
  unfold Z7 at h;split at h
  ·cases h
  ·rcases Yab.1 hq with rfl | hq
   ·omega
   ·exact zk1 h q hq
def z17{lim:Nat}(hlim:lim<=4096){l:List Rat}{k:Nat}(h:Z7 lim l k=none):∀q∈l,sz q<=129:=fun q hq=>by
 have h1:=zk1 h q hq;have:=zkj (q:=q) (b:=lim) h1;omega
section
variable{T:Tbl}[Z2 T][Zu T][Zy T][Z0 T][Zt T][Zp T][Zi T][Zl T][Zs T][Zad T][Zap T][Zc5 T][Zah T][Zaf T][Zbl T]
def Zgq(F:List Fz)(L:Int)(i:Nat)(s p:Int):St:=⟨[(0,.ptr (.bor 0) 0 3 0 0),(1,.sl (Zb F) .an),(8,.sl (Zb F) .an),(9,.i .i64 F.length),(10,.i .i64 i)],[(.bor 0,bxG 0 s p L)],4⟩
def zaet(F:List Fz)(L:Int)(i:Nat)(s p:Int)(x:Fz)(hi:i<F.length)(hl:F.length<=1000)(hg:F[i]? = some x)(hx:fsz x<=1000)(hf:(Zcs x:Int)<=L) :
  evX (orc T) T 1 l413_0 (Zgq F L i s p)=some (.n,Zgq F L (i+1) (Zfa s) (Zfx p x)):=by
 have ht:=zhq (T:=T) s p L x (Yd hx (by decide));rw[decide_eq_true hf]at ht;have hws:=zaw hi (by omega);have hge:=(Yc.1 hg).2;have hi':(i:Int)<F.length:=by omega
 generalize Zfa s=s' at *
 generalize Zfx p x=p' at *
 unfold Zgq;simp -implicitDefEqProofs[l413_0,hi,hi',hg,hge,hws,ht]
def z8c(F:List Fz)(L:Int)(i:Nat)(s p:Int)(x:Fz)(hi:i<F.length)(hl:F.length<=1000)(hg:F[i]? = some x)(hx:fsz x<=1000)(hf:¬ (Zcs x:Int)<=L) :
  evX (orc T) T 1 l413_0 (Zgq F L i s p)=some (.r,⟨[(4,.i .i64 i),(5,.b false)],[(.bor 0,bxG 0 (Zfa s) (Zfx p x) L)],4⟩):=by
 have ht:=zhq (T:=T) s p L x (Yd hx (by decide));rw[decide_eq_false hf]at ht;have hge:=(Yc.1 hg).2;have hi':(i:Int)<F.length:=by omega
 generalize Zfa s=s' at *
 generalize Zfx p x=p' at *
 unfold Zgq;simp -implicitDefEqProofs[l413_0,hi,hi',hg,hge,ht]
def z8d(F:List Fz)(L s p:Int):Zb6 (evX (orc T) T 1 l413_0 (Zgq F L F.length s p))=true /\
  Zbs 1 0 (.norm false [1]) (evX (orc T) T 1 l413_0 (Zgq F L F.length s p))=some (.n,⟨[(1,.sl (Zb F) .an)],[(.bor 0,bxG 0 s p L)],4⟩):=by
 unfold Zgq;constructor<;>simp -implicitDefEqProofs[l413_0]
def z8e(i s p L:Int):Zbs 1 0 (.norm false [1]) (some (.r,(⟨[(4,.i .i64 i),(5,.b false)],[(.bor 0,bxG 0 s p L)],4⟩:St)))=some (.r,⟨[(4,.i .i64 i),(5,.b false)],[(.bor 0,bxG 0 s p L)],4⟩):=by
 simp -implicitDefEqProofs
def z3b(qs:List Rat)(L:Nat)(hl:qs.length<=1000)(hw:∀q∈qs,sz q<=1000)(s p:Int) :
  ∃r,(∃s' p':Int,(Z7 L qs 0=none/\r=(Ex.n,(⟨[(1,.sl (Zb (fzs qs)) .an)],[(.bor 0,bxG 0 s' p' L)],4⟩:St)))\/(∃k:Nat,Z7 L qs 0=some k/\r=(.r,⟨[(4,.i .i64 k),(5,.b false)],[(.bor 0,bxG 0 s' p' L)],4⟩))) /\
   Ze T 1 0 (.norm false [1]) l413_0 (Zgq (fzs qs) L 0 s p)=some r:=by
 refine zar (fun x:Nat×Int×Int=>Zgq (fzs qs) L x.1 x.2.1 x.2.2) (fun x=>x.1<=qs.length/\Z7 L (qs.drop x.1) x.1=Z7 L qs 0) (fun x=>qs.length-x.1) _ ?_ (0,s,p) ⟨Yv _,rfl⟩
 rintro⟨i,s,p⟩ ⟨hi,hf⟩
 dsimp only at *
 have hfl:(fzs qs).length=qs.length:=zae _;by_cases hlt:i<qs.length
 ·have hd:qs.drop i=qs[i]::qs.drop (i+1):=Yg hlt;have hg:(fzs qs)[i]? = some (fz qs[i]):=by simp[fzs,hlt]
  have hs:fsz (fz qs[i])<=1000:=hw _ (Yi hlt);rw[hd,Z7]at hf;by_cases hb:L<Zec qs[i]
  ·right;rw[if_pos hb]at hf;have e:=z8c (T:=T) (fzs qs) L i s p _ (by omega) (by omega) hg hs (by unfold Zec at hb;omega);refine⟨_,⟨Zfa s,Zfx p (fz qs[i]),.inr ⟨i,hf.symm,rfl⟩⟩,by rw[e];rfl,by rw[e,z8e]⟩
  ·left;rw[if_neg hb]at hf;exact⟨(i+1,Zfa s,Zfx p (fz qs[i])),⟨by dsimp only;omega,hf⟩,by dsimp only;omega,zaet (T:=T) (fzs qs) L i s p _ (by omega) (by omega) hg hs (by unfold Zec at hb;omega)⟩
 ·right;have:i=qs.length:=by omega
  subst this;rw[Yw,Z7]at hf;have e:=z8d (T:=T) (fzs qs) L s p;rw[hfl]at e;exact⟨_,⟨s,p,.inl ⟨hf.symm,rfl⟩⟩,e⟩
def zuz(qs:List Rat)(L:Nat)(hl:qs.length<=1000)(hw:∀q∈qs,sz q<=1000)(s p:Int) :
  ∃s' p':Int,Z4 T 413 [.ptr (.bor 0) 0 3 0 0,.sl (Zb (fzs qs)) .an] [(.bor 0,bxG 0 s p L)]=some (.tup [.i .i64 (match Z7 L qs 0 with | some k=>(k:Int) | none=>(qs.length:Int)),.b (Z7 L qs 0).isNone],[(.bor 0,bxG 0 s' p' L)]):=by
 obtain⟨r,⟨s',p',hr⟩,hloop⟩:=z3b (T:=T) qs L hl hw s p;refine⟨s',p',?_⟩;have hfl:(fzs qs).length=qs.length:=zae _;rw[zam Zaf.h413 rfl,b413];unfold Zgq at hloop;simp only[Yp]at hloop;rcases hr with ⟨h,rfl⟩ | ⟨k,h,rfl⟩
 ·rw[h];rw[hfl]at hloop;generalize fzs qs=F at *
  simp -implicitDefEqProofs[hloop,hfl]
 ·rw[h];rw[hfl]at hloop;generalize fzs qs=F at *
  simp -implicitDefEqProofs[hloop,hfl]
end
abbrev mkS:AV:=.ptr (.bor 0) 0 23 0 0
def Za0(gy gk:Nat)(p:Pb)(t h:Fz)(y:List Fz)(s pk L:Int)(Ys Ks:List (List Rat))(nx er:List Fz):Heap:=
 [(.bor 0,⟨0,.str,23,[[.sl (Zdk p.t.code) .an,.sl (ints p.t.outs) .an,.i .i64 p.t.dim,.i .i64 p.t.par,.s p.s.nm,.sl (Zb p.s.c) .an,.sl (Zd p.s.a) .an,.sl (Zb p.s.b) .an,.sl (Zb p.s.e) .an,.sl (Zb p.p) .an,.i .i64 p.bits,
   .b t.1,.sl (Zc t.2.1) .an,.sl (Zc t.2.2) .an,.b h.1,.sl (Zc h.2.1) .an,.sl (Zc h.2.2) .an,.sl (Zb y) .an,.ptr (.bor 1) 1 3 0 0,.bs (.bor 2) gy 1 0 Ys.length,.bs (.bor 3) gk 1 0 Ks.length,.sl (Zb nx) .an,.sl (Zb er) .an]]⟩),
  (.bor 1,bxG 1 s pk L),(.bor 2,⟨gy,.own,1,Zd (Ys.map fzs)⟩),(.bor 3,⟨gk,.sh,1,Zd (Ks.map fzs)⟩)]
def zeg(K:List (List Rat)):List.take K.length (Zd (K.map fzs))=Zd (K.map fzs):=Ya (by simp[Zd])
section
variable{T:Tbl}[Z2 T][Zu T][Zy T][Z0 T][Zt T][Zp T][Zi T][Zl T][Zs T][Zad T][Zap T][Zc5 T][Zah T][Zaf T][Zbl T][Za9 T][Zbd T][Zba T][Zbt T][Zai T]
def zko(p:Pb)(t h:Fz)(y:List Fz)(s pk L:Int)(Ys Ks:List (List Rat))(nx er:List Fz)(C:List Fz)(hl:C.length=Ks.length)(hK:KOk y.length Ks)(hC:∀x∈C,fsz x<=20)(hh:fsz h<=20)(hy:y.length<=300) :
  Z4 T 556 [mkS,.sl (Zb C) .an] (Za0 2 3 p t h y s pk L Ys Ks nx er)=some (.sl (Zb (fzs (Zdt (fv h) C Ks y.length))) .an,Za0 2 3 p t h y s pk L Ys Ks nx er):=by
 have c1:=z8t (T:=T) C (Ks.map fzs) y.length (by rw[Yk];exact hl) hy (by rw[Yk];have:=hK.len;omega) (B:=129) (fun x hx=>Yd (hC x hx) (by decide)) (fun r hr x hx=>by
  obtain⟨k,hk,rfl⟩:=Yl.1 hr;obtain⟨v,hv,rfl⟩:=Yl.1 hx;exact hK.sz k hk v hv) (by decide) (by
   rw[Yk];have:=Yaa 259 hK.len;omega) (fun r hr=>by
  obtain⟨k,hk,rfl⟩:=Yl.1 hr;rw[zae,hK.row k hk])
 have c2:=zhc (T:=T) h (by omega) (fzs (Ziu C Ks y.length)) (by rw[zae,zhg hK];omega) fun x hx=>by
  obtain⟨v,hv,rfl⟩:=Yl.1 hx;have:=zr1 hK hC v hv;rw[zax];omega
 rw[z5o]at c2;have ht:=zeg Ks;have hkl:(Ks.map fzs).length=Ks.length:=Yk _;have hcr:∀ys,Zee (orc T) T 271 ys=Za T 271 (ys.map (wkIf false)):=fun ys=>zcn Zbt.h271;unfold Zdt;unfold Ziu at *
 unfold Za0;obtain⟨⟨code,outs,dim,par⟩,⟨nm,c,a,b,e⟩,pp,bits⟩:=p;obtain⟨t0,t1,t2⟩:=t;obtain⟨h0,h1,h2⟩:=h;dsimp only at *
 generalize (Zd3 (C.zip (Ks.map fzs)) (List.replicate y.length 0))=M at *
 generalize Ks.map fzs=KF at *
 generalize Ys.map fzs=YF at *
 generalize fzs (M.map fun q=>fv (h0,h1,h2)*q)=R at *
 rw[zam Zai.h556 rfl,b556];simp -implicitDefEqProofs[c1,c2,ht,hcr,hkl,Zc8]
end
section
variable{T:Tbl}[Z2 T][Zu T][Zy T][Z0 T][Zt T][Zp T][Zi T][Zl T][Zs T][Zad T][Zap T][Zc5 T][Zah T][Zaf T][Zbl T][Za9 T][Zbd T][Zba T][Zbt T][Zai T]
def zkp(p:Pb)(t h:Fz)(y:List Fz)(s pk L:Int)(Ys Ks:List (List Rat))(nx er:List Fz)(C:List Fz)(hl:C.length=Ks.length)(hK:KOk y.length Ks)(hC:∀x∈C,fsz x<=20)(hh:fsz h<=20)(hy:y.length<=300)(hys:∀x∈y,fsz x<=400) :
  Z4 T 553 [mkS,.sl (Zb C) .an] (Za0 2 3 p t h y s pk L Ys Ks nx er)=some (.sl (Zb (fzs (Za4 (y.map fv) (fv h) C Ks))) .an,Za0 2 3 p t h y s pk L Ys Ks nx er):=by
 have c1:=zko (T:=T) p t h y s pk L Ys Ks nx er C hl hK hC hh hy;have hsh:sz (fv h)<=20:=za2 hh (by decide);have c2:=z08 (T:=T) y [fzs (Zdt (fv h) C Ks y.length)] (by omega) (by simp) (B:=499) (fun x hx=>Yd (hys x hx) (by decide)) (fun r hr x hx=>by
  rw[Ya1.1 hr]at hx;obtain⟨v,hv,rfl⟩:=Yl.1 hx;have:=znr hK hC hsh v hv;rw[zax];omega) (by decide) (by simp) (fun r hr=>by
  rw[Ya1.1 hr,zae,zea hK])
 have e:Za4 (y.map fv) (fv h) C Ks=Zbm (y.map fv) (fzs (Zdt (fv h) C Ks y.length)):=by
  unfold Za4;rw[Yk]
 rw[e];replace c2:Za T 267 [.sl [[.sl (Zb y) .an],[.sl (Zb (fzs (Zdt (fv h) C Ks y.length))) .an]] .an]=some (.tup [.sl (Zb (fzs (Zbm (y.map fv) (fzs (Zdt (fv h) C Ks y.length))))) .an,.b true]):=c2;generalize fzs (Zbm (y.map fv) (fzs (Zdt (fv h) C Ks y.length)))=R at *
 generalize fzs (Zdt (fv h) C Ks y.length)=W at *
 unfold Za0 at *
 obtain⟨⟨code,outs,dim,par⟩,⟨nm,c,a,b,e⟩,pp,bits⟩:=p;obtain⟨t0,t1,t2⟩:=t;obtain⟨h0,h1,h2⟩:=h;dsimp only at *
 have wKF:=zai (Ks.map fzs);have wYF:=zai (Ys.map fzs);generalize Zd (Ks.map fzs)=KF at *
 generalize Zd (Ys.map fzs)=YF at *
 rw[zam Zai.h553 rfl,b553];simp -implicitDefEqProofs[c1,c2,Zc8,wKF,wYF]
def zfg(p:Pb)(t h:Fz)(y:List Fz)(s pk:Int)(L:Nat)(Ys Ks:List (List Rat))(nx er:List Fz)(l:List Rat)(i:Int)(hl:l.length<=300)(hw:∀q∈l,sz q<=1000) :
  ∃s' p':Int,Z4 T 554 [mkS,.sl (Zb (fzs l)) .an,.i .i64 i] (Za0 2 3 p t h y s pk L Ys Ks nx er)=some (match Z7 L l 0 with | some k=>Zb9 6 0 i (300+(k:Int)) | none=>Zb9 0 0 0 0,Za0 2 3 p t h y s' p' L Ys Ks nx er):=by
 obtain⟨s',p',c1⟩:=zuz (T:=T) l L (by omega) hw s pk;refine⟨s',p',?_⟩;unfold Za0;obtain⟨⟨code,outs,dim,par⟩,⟨nm,c,a,b,e⟩,pp,bits⟩:=p;obtain⟨t0,t1,t2⟩:=t;obtain⟨h0,h1,h2⟩:=h;dsimp only at *
 have wKF:=zai (Ks.map fzs);have wYF:=zai (Ys.map fzs);generalize Zd (Ks.map fzs)=KF at *
 generalize Zd (Ys.map fzs)=YF at *
 cases hf:Z7 L l 0 with
 | none=>
  rw[hf]at c1;generalize fzs l=W at *
  dsimp only at c1 ⊢;rw[zam Zai.h554 rfl,b554];simp -implicitDefEqProofs[c1,Zc8,wKF,wYF]
 | some k=>
  have hk:k<l.length:=by
   have key:∀(l:List Rat) (j k:Nat),Z7 L l j=some k->k<j+l.length:=by
    intro l
    induction l with
    | nil=>intro j k h;cases h
    | cons x l ih=>
     intro j k h;unfold Z7 at h;rw[Yr];split at h
     ·cases h;omega
     ·have:=ih _ _ h;omega
   have:=key l 0 k hf;omega
  rw[hf]at c1;have hw:IntKind.wrap .i64 (300+(k:Int))=300+(k:Int):=zab _ (by omega);generalize fzs l=W at *
  dsimp only at c1 ⊢;rw[zam Zai.h554 rfl,b554];simp -implicitDefEqProofs[c1,Zc8,wKF,wYF,hw]
def zrw(p:Pb)(t h:Fz)(i:Nat)(c:Fz)(hi:p.s.c[i]? = some c)(hc:fsz c<=300)(hh:fsz h<=100)(ht:fsz t<=1000) :
  Za T 564 [epb p,efz t,efz h,.i .i64 (i:Int)]=some (efz (fz (fv t+fv h*fv c))):=by
 have c1:=zin (T:=T) h c (by omega) (by omega);have hs:=zd8 (fv h) (fv c);have s1:=za2 (x:=h) (L:=100) hh (by decide);have s2:=za2 (x:=c) (L:=300) hc (by decide);have c2:=zfu (T:=T) t (fz (fv h*fv c)) ht (by rw[zax];omega);rw[zb6]at c2;obtain⟨hlt,hge⟩:=Yc.1 hi;have hlt':¬ ((p.s.c.length:Int)<=(i:Int)):=by omega
 have hlt2:(i:Int)<(p.s.c.length:Int):=by omega
 obtain⟨⟨code,outs,dim,par⟩,⟨nm,cc,a,b,e⟩,pp,bits⟩:=p;obtain⟨t0,t1,t2⟩:=t;obtain⟨h0,h1,h2⟩:=h;obtain⟨c0,c3,c4⟩:=c;dsimp only at *
 generalize fz (fv (t0,t1,t2)+fv (h0,h1,h2)*fv (c0,c3,c4))=R at *
 generalize fz (fv (h0,h1,h2)*fv (c0,c3,c4))=R1 at *
 rw[zaa Zai.h564 rfl,b564];simp -implicitDefEqProofs[c1,c2,hi,hge,hlt,hlt',hlt2]
end
def Zb1(p:Pb)(h:Rat)(y:List Rat)(i:Nat)(Ks:List (List Rat)):List Rat:=Za4 y h ((p.s.a[i]?).getD []) Ks
def Zea(p:Pb)(t h:Rat)(i:Nat)(x:List Rat):List Rat×Nat×Nat:=Zcz (Zr p.bits) p.t ⟨t+h*fv ((p.s.c[i]?).getD (false,[],[])),x,p.p.map fv⟩
structure StS (p:Pb) (t h:Fz) (y:List Fz):Prop where
 pb:PbS p
 t:fsz t<=500
 h:fsz h<=20
 yl:y.length<=300
 y:∀x∈y,fsz x<=400
 c:∀x∈p.s.c,fsz x<=20
 a:∀r∈p.s.a,∀x∈r,fsz x<=20
 b:∀x∈p.s.b,fsz x<=20
 e:∀x∈p.s.e,fsz x<=20
section
variable{T:Tbl}[Z2 T][Zu T][Zy T][Z0 T][Zt T][Zp T][Zi T][Zl T][Zs T][Zad T][Zap T][Zc5 T][Zah T][Zaf T][Zbl T][Zas T][Zd7 T][Za9 T][Zbd T][Zba T][Zbt T][Zde T][Zal T][Zeu T][Zai T]
def zkq(p:Pb)(t h:Fz)(y:List Fz)(s pk:Int)(Ys Ks:List (List Rat))(nx er:List Fz)(i:Nat)(hS:StS p t h y)(hK:KOk y.length Ks)(A:List Fz)(hi:p.s.a[i]? = some A)(hA:A.length=Ks.length)(k:Nat)(hf:Z7 (Zr p.bits) (Zb1 p (fv h) (y.map fv) i Ks) 0=some k) :
  ∃s' p':Int,Z4 T 552 [mkS,.i .i64 (i:Int)] (Za0 2 3 p t h y s pk (Zr p.bits) Ys Ks nx er)=some (Zb9 6 0 i (300+(k:Int)),Za0 2 3 p t h y s' p' (Zr p.bits) Ys Ks nx er):=by
 have hAm:=Yf hi;have c1:=zkp (T:=T) p t h y s pk (Zr p.bits) Ys Ks nx er A hA hK (hS.a A hAm) hS.h hS.yl hS.y;have e:Zb1 p (fv h) (y.map fv) i Ks=Za4 (y.map fv) (fv h) A Ks:=by unfold Zb1;rw[hi];rfl
 rw[e]at hf;have hKy:KOk (y.map fv).length Ks:=by rw[Yk];exact hK
 have hyl:=hS.yl;obtain⟨s',p',c2⟩:=zfg (T:=T) p t h y s pk (Zr p.bits) Ys Ks nx er (Za4 (y.map fv) (fv h) A Ks) i (by rw[zdi hKy,Yk];omega) fun q hq=>by
  have:=zk0 hKy (hS.a A hAm) (za2 hS.h (by decide)) (fun q hq=>by obtain⟨u,hu,rfl⟩:=Yl.1 hq;exact za2 (hS.y u hu) (by decide)) q hq;omega
 rw[hf]at c2;refine⟨s',p',?_⟩;obtain⟨hlt,hge⟩:=Yc.1 hi;have hlt':(i:Int)<(p.s.a.length:Int):=by omega
 dsimp only at c2;unfold Za0 at *
 clear hS hK hKy hf e hAm;generalize fzs (Za4 (y.map fv) (fv h) A Ks)=R at *
 obtain⟨⟨code,outs,dim,par⟩,⟨nm,c,a,b,e⟩,pp,bits⟩:=p;obtain⟨t0,t1,t2⟩:=t;obtain⟨h0,h1,h2⟩:=h;dsimp only at *
 have wKF:=zai (Ks.map fzs);have wYF:=zai (Ys.map fzs);generalize Zd (Ks.map fzs)=KF at *
 generalize Zd (Ys.map fzs)=YF at *
 rw[zam Zai.h552 rfl,b552];simp -implicitDefEqProofs[c1,c2,hi,hge,hlt,hlt',Zc8,wKF,wYF]
def zlb(p:Pb)(t h:Fz)(y:List Fz)(s pk:Int)(Ys Ks:List (List Rat))(nx er:List Fz)(i:Nat)(hS:StS p t h y)(hK:KOk y.length Ks)(A:List Fz)(hi:p.s.a[i]? = some A)(hA:A.length=Ks.length)(hic:i<p.s.c.length)(hf:Z7 (Zr p.bits) (Zb1 p (fv h) (y.map fv) i Ks) 0=none)(hYY:Ys.length+1<=4294967296) :
  ∃s' p':Int,Z4 T 552 [mkS,.i .i64 (i:Int)] (Za0 2 3 p t h y s pk (Zr p.bits) Ys Ks nx er)=some (if (Zea p (fv t) (fv h) i (Zb1 p (fv h) (y.map fv) i Ks)).2.1=0 then
   (Zb9 0 0 0 0,Za0 7 8 p t h y s' p' (Zr p.bits) (Ys++[Zb1 p (fv h) (y.map fv) i Ks]) (Ks++[(Zea p (fv t) (fv h) i (Zb1 p (fv h) (y.map fv) i Ks)).1]) nx er)
   else (Zb9 (Zea p (fv t) (fv h) i (Zb1 p (fv h) (y.map fv) i Ks)).2.1 0 i (Zea p (fv t) (fv h) i (Zb1 p (fv h) (y.map fv) i Ks)).2.2,Za0 2 3 p t h y s' p' (Zr p.bits) Ys Ks nx er)):=by
 have hAm:=Yf hi;have c1:=zkp (T:=T) p t h y s pk (Zr p.bits) Ys Ks nx er A hA hK (hS.a A hAm) hS.h hS.yl hS.y;have e:Zb1 p (fv h) (y.map fv) i Ks=Za4 (y.map fv) (fv h) A Ks:=by unfold Zb1;rw[hi];rfl
 rw[e]at hf ⊢;have hKy:KOk (y.map fv).length Ks:=by rw[Yk];exact hK
 have hyl:=hS.yl;have hxl:(Za4 (y.map fv) (fv h) A Ks).length=y.length:=by rw[zdi hKy,Yk]
 obtain⟨s',p',c2⟩:=zfg (T:=T) p t h y s pk (Zr p.bits) Ys Ks nx er (Za4 (y.map fv) (fv h) A Ks) i (by omega) fun q hq=>by
  have:=zk0 hKy (hS.a A hAm) (za2 hS.h (by decide)) (fun q hq=>by obtain⟨u,hu,rfl⟩:=Yl.1 hq;exact za2 (hS.y u hu) (by decide)) q hq;omega
 rw[hf]at c2;refine⟨s',p',?_⟩;have hxs:=z17 (zhd p.bits).2 hf;obtain⟨c,hc⟩:∃c,p.s.c[i]? = some c:=⟨_,Yb hic⟩;have hcm:=hS.c c (Yf hc);have s1:=za2 hS.t (by decide);have s2:=za2 hS.h (by decide);have s3:=za2 hcm (by decide);have s4:=zd8 (fv h) (fv c);have s5:=zez (fv t) (fv h*fv c);have hth:=hS.t;have hhh:=hS.h;have c3:=zrw (T:=T) p t h i c hc (by omega) (by omega) (by omega);have c4:=z9q (T:=T) p (fz (fv t+fv h*fv c)) (fzs (Za4 (y.map fv) (fv h) A Ks));have c5:=z1f (T:=T) p.t ⟨fz (fv t+fv h*fv c),fzs (Za4 (y.map fv) (fv h) A Ks),p.p⟩ p.bits hS.pb.t ⟨by rw[zax];omega,fun u hu=>by
  obtain⟨v,hv,rfl⟩:=Yl.1 hu;have:=hxs v hv;rw[zax];omega,hS.pb.p,by dsimp only;rw[zae];omega,hS.pb.pl⟩
 have ev:(⟨fz (fv t+fv h*fv c),fzs (Za4 (y.map fv) (fv h) A Ks),p.p⟩:PoF).v=⟨fv t+fv h*fv c,Za4 (y.map fv) (fv h) A Ks,p.p.map fv⟩:=by
  unfold PoF.v;dsimp only;rw[zb6,zff]
 rw[ev]at c5;have es:Zea p (fv t) (fv h) i (Za4 (y.map fv) (fv h) A Ks)=Zcz (Zr p.bits) p.t ⟨fv t+fv h*fv c,Za4 (y.map fv) (fv h) A Ks,p.p.map fv⟩:=by
  unfold Zea;rw[hc]
  rfl
 rw[es];have h0:(Zcz (Zr p.bits) p.t ⟨fv t+fv h*fv c,Za4 (y.map fv) (fv h) A Ks,p.p.map fv⟩).2.1=0->(Zcz (Zr p.bits) p.t ⟨fv t+fv h*fv c,Za4 (y.map fv) (fv h) A Ks,p.p.map fv⟩).2.2=0:=fun hk=>by
  unfold Zcz at hk ⊢;split
  ·rfl
  ·next hh=>rw[if_neg hh]at hk;exact absurd hk hh
 obtain⟨hlt,hge⟩:=Yc.1 hi;have hlt':(i:Int)<(p.s.a.length:Int):=by omega
 have hk3:=hK.len;have hKl:Ks.length+1<=4294967296:=by omega
 dsimp only at c2 c3 c4;have hsY:∀(Z:List (List Rat)) (r:List Rat),Zd (Z.map fzs)++[[.sl (Zb (fzs r)) .an]]=Zd ((Z++[r]).map fzs):=fun Z r=>by simp[Zd]
 have sY:=hsY Ys (Za4 (y.map fv) (fv h) A Ks);have sK:=hsY Ks (Zcz (Zr p.bits) p.t ⟨fv t+fv h*fv c,Za4 (y.map fv) (fv h) A Ks,p.p.map fv⟩).1;have tY:=zeg Ys;have tK:=zeg Ks;have lY:(Zd (Ys.map fzs)).length=Ys.length:=by simp[Zd]
 have lK:(Zd (Ks.map fzs)).length=Ks.length:=by simp[Zd]
 have wY:wkL (Zd ((Ys++[Za4 (y.map fv) (fv h) A Ks]).map fzs))=Zd ((Ys++[Za4 (y.map fv) (fv h) A Ks]).map fzs):=zai _;have wK:wkL (Zd ((Ks++[(Zcz (Zr p.bits) p.t ⟨fv t+fv h*fv c,Za4 (y.map fv) (fv h) A Ks,p.p.map fv⟩).1]).map fzs))=Zd ((Ks++[(Zcz (Zr p.bits) p.t ⟨fv t+fv h*fv c,Za4 (y.map fv) (fv h) A Ks,p.p.map fv⟩).1]).map fzs):=zai _;have aY:(Ys++[Za4 (y.map fv) (fv h) A Ks]).length=Ys.length+1:=by simp
 have aK:(Ks++[(Zcz (Zr p.bits) p.t ⟨fv t+fv h*fv c,Za4 (y.map fv) (fv h) A Ks,p.p.map fv⟩).1]).length=Ks.length+1:=by simp
 have hYl:Ys.length+1<=4294967296:=hYY;unfold Za0 at *
 clear hS hK hKy hf e hAm hxs hxl hsY ev es s1 s2 s3 s4 s5 hth hhh;generalize Zcz (Zr p.bits) p.t ⟨fv t+fv h*fv c,Za4 (y.map fv) (fv h) A Ks,p.p.map fv⟩=V at *
 generalize Za4 (y.map fv) (fv h) A Ks=X at *
 generalize fz (fv t+fv h*fv c)=TM at *
 obtain⟨V1,V2,V3⟩:=V;dsimp only at *
 generalize Zd ((Ks++[V1]).map fzs)=KF1 at *
 generalize Zd ((Ys++[X]).map fzs)=YF1 at *
 have wKF:=zai (Ks.map fzs);have wYF:=zai (Ys.map fzs);generalize Zd (Ks.map fzs)=KF at *
 generalize Zd (Ys.map fzs)=YF at *
 generalize (Ks++[V1]).length=nk at *
 generalize (Ys++[X]).length=ny at *
 subst aY aK;generalize fzs X=RX at *
 generalize fzs V1=RV at *
 obtain⟨⟨code,outs,dim,par⟩,⟨nm,cc,a,b,e⟩,pp,bits⟩:=p;obtain⟨t0,t1,t2⟩:=t;obtain⟨h0',h1,h2⟩:=h;obtain⟨m0,m1,m2⟩:=TM;dsimp only at *
 by_cases hv:V2=0
 ·have hv3:=h0 hv;subst hv;subst hv3;rw[if_pos rfl];rw[zam Zai.h552 rfl,b552];simp -implicitDefEqProofs[c1,c2,c3,c4,c5,hi,hge,hlt,hlt',Zc8,wKF,wYF,sY,sK,tY,tK,lY,lK,wY,wK,hKl,hYl]
 ·have hvI:¬ (V2:Int)=0:=by omega
  rw[if_neg hv];rw[zam Zai.h552 rfl,b552];simp -implicitDefEqProofs[c1,c2,c3,c4,c5,hi,hge,hlt,hlt',Zc8,wKF,wYF,hv,hvI]
end
class Zqa (T:Tbl):Prop where
class Zpn (T:Tbl):Prop where
def Zqo(a b:List (List Fz)):Bool:=(a.zip b).all fun p=>decide (p.1.map fv=p.2.map fv)
def Ztc(a b:Sm):Bool:=decide (a.nm=b.nm)&&decide (a.a.length=b.a.length)&&decide (a.b.map fv=b.b.map fv)&&decide (a.c.map fv=b.c.map fv)&&decide (a.e.map fv=b.e.map fv)&&Zqo a.a b.a
def eqM(a b:List (List Fz)):Bool:=(a.zip b).all fun p=>decide (p.1=p.2)
def eqS(a b:Sm):Bool:=decide (a.nm=b.nm)&&decide (a.a.length=b.a.length)&&decide (a.b=b.b)&&decide (a.c=b.c)&&decide (a.e=b.e)&&eqM a.a b.a
def Zum(s:Sm):Sm:=⟨s.nm,nrm s.c,s.a.map nrm,nrm s.b,nrm s.e⟩
section
variable{T:Tbl}[Z2 T][Zu T][Zy T][Z0 T][Zt T][Zp T][Zbd T][Zi T][Zl T][Zs T][Zba T][Zbt T][Zgp T]
def Ztd(a b:Sm)(i:Nat):St:=⟨[(3,.ptr (.loc 3) 1 5 0 0),(46,.sl (Zd a.a) .an),(47,.i .i64 a.a.length),(48,.i .i64 i)],[(.loc 3,bxS b)],3⟩
end
section
variable{T:Tbl}[Zz T][Z8 T][Zx T][Zae T][Zw T][Zag T][Zq T][Z9 T][Zgm T][Zqa T][Zpn T]
def Zqp(g:Nat)(s:Sm):Box:=⟨g,.str,5,[[.s s.nm,.sl (Zb s.c) .an,.sl (Zd s.a) .an,.sl (Zb s.b) .an,.sl (Zb s.e) .an]]⟩
def Zun(a b:Sm)(i:Nat):St:=⟨[(2,.ptr (.loc 2) 1 5 0 0),(3,.ptr (.loc 3) 2 5 0 0),(5,.i .i64 i)],[(.loc 2,Zqp 1 a),(.loc 3,Zqp 2 b)],4⟩
end
def Zfd(a b:List Fz):List Fz:=fzs (Zjx (a.map fv) (Zff ((-1:Int):Rat) (b.map fv)))
def Zfy(s:Sm):List Fz:=if okS s=true/\s.e≠[] then Zfd s.b s.e else []
def Zte(s:Sm):Bool:=match s.b.getLast?,s.c.getLast?,s.a.getLast? with
 | some b,some c,some a=>decide (fv b=0)&&(decide (fv c=1)&&decide (a.map fv=(s.b.take (s.b.length-1)).map fv))
 | _,_,_=>false
structure OkSm (s:Sm):Prop where
 b1:1<=s.b.length
 b8:s.b.length<=8
 cl:s.c.length=s.b.length
 al:s.a.length=s.b.length
 el:s.e.length=s.b.length\/s.e.length=0
 sh:Zbc s.a 0=true
 na:Zdb s.a=true
 nb:s.b.all Zbn=true
 nc:s.c.all Zbn=true
 ne:s.e.all Zbn=true
def zafy(b c e:List Fz):Zdb [b,c,e]=(b.all Zbn&&c.all Zbn&&e.all Zbn):=by
 unfold Zdb;simp only[Ybj,Ycw,Yd0,Bool.and_assoc]
def zf2{s:Sm}(h:okS s=true):OkSm s/\Zfz s=0:=by
 unfold okS at h;have hw:=of_decide_eq_true h;refine⟨?_,hw⟩;unfold Zfz at hw;cases g1:Zbu 2 s.nm with
 | false=>rw[g1]at hw;simp at hw
 | true=>
 cases g2:Zch s with
 | false=>rw[g1,g2]at hw;simp at hw
 | true=>
 cases g3:Zdb s.a with
 | false=>rw[g1,g2,g3]at hw;simp at hw
 | true=>
 cases g4:Zdb [s.b,s.c,s.e]with
 | false=>rw[g1,g2,g3,g4]at hw;simp at hw
 | true=>
 obtain⟨s1,s2,s3,s4,s5,s6⟩:=zmg g2;rw[zafy]at g4;simp only[Yh]at g4;exact⟨s1,s2,s3,s4,s5,s6,g3,g4.1.1,g4.1.2,g4.2⟩
def zc9{l:List Fz}(h:l.all Zbn=true):∀x∈l,fsz x<=6:=fun x hx=>zgn (Yo.1 h x hx)
section
variable{T:Tbl}[Z2 T][Zu T][Zy T][Z0 T][Zt T][Zp T][Zbd T][Zi T][Zl T][Zs T][Zet T][Zad T][Zap T][Zc5 T][Zah T][Zaf T][Zbl T][Zas T][Zd7 T][Zba T][Zbt T][Zgo T][Zde T][Zal T][Zgp T]
def zv9(s:Sm)(hs:SmS s):Za T 555 [esm s]=some (.sl (Zb (Zfy s)) .an):=by
 have c1:=zie (T:=T) s hs;unfold Zfy;rw[zaa Zgp.h555 rfl,b555];cases hk:okS s with
 | false=>
  rw[hk]at c1;rw[if_neg (by simp)];clear hs hk;obtain⟨nm,c,a,b,e⟩:=s;simp -implicitDefEqProofs[c1]
 | true=>
 rw[hk]at c1;obtain⟨H,_⟩:=zf2 hk;by_cases h0:s.e=[]
 ·rw[if_neg (fun h=>h.2 h0)];clear hs hk H;obtain⟨nm,c,a,b,e⟩:=s;dsimp only at *
  subst h0;replace c1:Za T 536 [.agg [.s nm,.sl (Zb c) .an,.sl (Zd a) .an,.sl (Zb b) .an,.sl [] .an]]=_:=c1;simp -implicitDefEqProofs[c1]
 ·rw[if_pos ⟨rfl,h0⟩];have hel:s.e.length=s.b.length:=by
   rcases H.el with h | h
   ·exact h
   ·exact absurd (Ybd.1 h) h0
  have hb8:=H.b8;have hpos:¬ (s.e.length:Int)=0:=by have:=Ybp.2 h0;omega
  have c2:=zv8 (T:=T) s.b s.e (by omega) hel (B:=6) (by decide) (by decide) (zc9 H.nb) (zc9 H.ne);have e1:fzs (Zjx (s.b.map fv) (Zff ((-1:Int):Rat) (s.e.map fv)))=Zfd s.b s.e:=rfl;rw[e1]at c2;generalize Zfd s.b s.e=G at *
  clear hs hk H e1;obtain⟨nm,c,a,b,e⟩:=s;dsimp only at *
  simp -implicitDefEqProofs[c1,c2,hpos,h0]
end
def Zan(p:Pb)(t h:Rat)(y:List Rat):Nat->Nat->List (List Rat)->List (List Rat)->(List (List Rat)×List (List Rat))×Nat×Nat×Nat
 | 0,_,Ys,Ks=>((Ys,Ks),0,0,0)
 | n+1,i,Ys,Ks=>
  match Z7 (Zr p.bits) (Zb1 p h y i Ks) 0 with
  | some k=>((Ys,Ks),6,i,300+k)
  | none=>if (Zea p t h i (Zb1 p h y i Ks)).2.1=0 then Zan p t h y n (i+1) (Ys++[Zb1 p h y i Ks]) (Ks++[(Zea p t h i (Zb1 p h y i Ks)).1])
   else ((Ys,Ks),(Zea p t h i (Zb1 p h y i Ks)).2.1,i,(Zea p t h i (Zb1 p h y i Ks)).2.2)
abbrev Zit(g:Nat)(k s a b:Int):Box:=⟨g,.str,4,[[.i .i64 k,.i .i64 s,.i .i64 a,.i .i64 b]]⟩
abbrev Zqs(g:Nat)(s:Sm):Box:=⟨g,.str,5,[[.s s.nm,.sl (Zb s.c) .an,.sl (Zd s.a) .an,.sl (Zb s.b) .an,.sl (Zb s.e) .an]]⟩
def Zgc(gy gk:Nat)(p:Pb)(t h:Fz)(y:List Fz)(i:Nat)(Ys Ks:List (List Rat))(s pk:Int):St:=
 ⟨[(0,mkS),(2,.ptr (.loc 2) 9 4 0 0),(3,.ptr (.loc 3) 10 5 0 0),(15,.i .i64 p.s.b.length),(16,.i .i64 (i:Int))],
  Za0 gy gk p t h y s pk (Zr p.bits) Ys Ks [] []++[(.loc 2,Zit 9 0 0 0 0),(.loc 3,Zqs 10 p.s)],12⟩
def Zn0(gy gk:Nat)(p:Pb)(t h:Fz)(y:List Fz)(Ys Ks:List (List Rat))(s pk:Int)(k i a:Int):St:=
 ⟨[(2,.ptr (.loc 2) 9 4 0 0)],Za0 gy gk p t h y s pk (Zr p.bits) Ys Ks [] []++[(.loc 2,Zit 9 k 0 i a)],11⟩
section
variable{T:Tbl}[Z2 T][Zu T][Zy T][Z0 T][Zt T][Zp T][Zi T][Zl T][Zs T][Zad T][Zap T][Zc5 T][Zah T][Zaf T][Zbl T][Zas T][Zd7 T][Za9 T][Zbd T][Zba T][Zbt T][Zde T][Zal T][Zeu T][Zai T]
def z1k(gy gk:Nat)(hg:(gy=2/\gk=3)\/(gy=7/\gk=8))(p:Pb)(t h:Fz)(y:List Fz)(s pk s' p':Int)(i:Nat)(Ys Ks Y1 K1:List (List Rat))(hlt:i<p.s.b.length)(hbl:p.s.b.length<=100)
  (c1:Z4 T 552 [mkS,.i .i64 (i:Int)] (Za0 2 3 p t h y s pk (Zr p.bits) Ys Ks [] [])=some (Zb9 0 0 0 0,Za0 7 8 p t h y s' p' (Zr p.bits) Y1 K1 [] [])) :
  evX (orc T) T 4 l537_0 (Zgc gy gk p t h y i Ys Ks s pk)=some (.n,Zgc 7 8 p t h y (i+1) Y1 K1 s' p'):=by
 have hlt':(i:Int)<(p.s.b.length:Int):=by omega
 have hws:=zaw hlt (by omega);have lY:(Zd (Y1.map fzs)).length=Y1.length:=by simp[Zd]
 have lK:(Zd (K1.map fzs)).length=K1.length:=by simp[Zd]
 unfold Zgc Za0 at *
 simp only[show Zb []=[] from rfl]at c1 ⊢;obtain⟨⟨code,outs,dim,par⟩,⟨nm,cc,a,b,e⟩,pp,bits⟩:=p;obtain⟨t0,t1,t2⟩:=t;obtain⟨h0,h1,h2⟩:=h;dsimp only at *
 have wKF:=zai (Ks.map fzs);have wYF:=zai (Ys.map fzs);generalize Zd (Ks.map fzs)=KF at *
 generalize Zd (Ys.map fzs)=YF at *
 have wKF1:=zai (K1.map fzs);have wYF1:=zai (Y1.map fzs);generalize Zd (K1.map fzs)=KF1 at *
 generalize Zd (Y1.map fzs)=YF1 at *
 rcases hg with ⟨rfl,rfl⟩ | ⟨rfl,rfl⟩
 all_goals simp -implicitDefEqProofs[l537_0,hlt,hlt',hws,c1,Zc8,wKF,wYF,wKF1,wYF1]
def ztj(gy gk:Nat)(hg:(gy=2/\gk=3)\/(gy=7/\gk=8))(p:Pb)(t h:Fz)(y:List Fz)(s pk s' p':Int)(i:Nat)(Ys Ks:List (List Rat))(hlt:i<p.s.b.length)(hbl:p.s.b.length<=100)(k:Int)(a:Int)(hk:k≠0)
  (c1:Z4 T 552 [mkS,.i .i64 (i:Int)] (Za0 2 3 p t h y s pk (Zr p.bits) Ys Ks [] [])=some (Zb9 k 0 i a,Za0 2 3 p t h y s' p' (Zr p.bits) Ys Ks [] [])) :
  evX (orc T) T 4 l537_0 (Zgc gy gk p t h y i Ys Ks s pk)=some (.r,Zn0 gy gk p t h y Ys Ks s' p' k i a):=by
 have hlt':(i:Int)<(p.s.b.length:Int):=by omega
 unfold Zgc Zn0 Za0 at *
 simp only[show Zb []=[] from rfl]at c1 ⊢;obtain⟨⟨code,outs,dim,par⟩,⟨nm,cc,a1,b,e⟩,pp,bits⟩:=p;obtain⟨t0,t1,t2⟩:=t;obtain⟨h0,h1,h2⟩:=h;dsimp only at *
 have wKF:=zai (Ks.map fzs);have wYF:=zai (Ys.map fzs);generalize Zd (Ks.map fzs)=KF at *
 generalize Zd (Ys.map fzs)=YF at *
 rcases hg with ⟨rfl,rfl⟩ | ⟨rfl,rfl⟩
 all_goals simp -implicitDefEqProofs[l537_0,hlt,hlt',hk,c1,Zc8,wKF,wYF]
end
def Zl2(p:Pb)(h:Rat)(y:List Rat)(Ks:List (List Rat)):List Rat:=if Zfy p.s=[] then [] else Zdt h (Zfy p.s) Ks y.length
structure MdQ where
 Ys:List (List Rat)
 Ks:List (List Rat)
 nx:List Rat
 er:List Rat
def Zmt:MdQ:=⟨[],[],[],[]⟩
def doQ(p:Pb)(t h:Rat)(y:List Rat):MdQ×Nat×Nat×Nat:=
 if (Zan p t h y p.s.b.length 0 [] []).2.1≠0 then (Zmt,(Zan p t h y p.s.b.length 0 [] []).2) else
 match Z7 (Zr p.bits) (Za4 y h p.s.b (Zan p t h y p.s.b.length 0 [] []).1.2) 0 with
 | some k=>(Zmt,6,p.s.b.length,300+k)
 | none=>
  match Z7 (Zr p.bits) (Zl2 p h y (Zan p t h y p.s.b.length 0 [] []).1.2) 0 with
  | some k=>(Zmt,6,p.s.b.length+1,300+k)
  | none=>(⟨(Zan p t h y p.s.b.length 0 [] []).1.1,(Zan p t h y p.s.b.length 0 [] []).1.2,Za4 y h p.s.b (Zan p t h y p.s.b.length 0 [] []).1.2,Zl2 p h y (Zan p t h y p.s.b.length 0 [] []).1.2⟩,0,0,0)
theorem zh6:∀(l:List (List Fz)) (i j:Nat) (A:List Fz),Zbc l i=true->l[j]? = some A->A.length=i+j
 | [],_,_,_,_,h=>by cases h
 | r::l,i,j,A,hs,h=>by
  unfold Zbc at hs;rw[Yh,decide_eq_true_eq]at hs;cases j with
  | zero=>cases h;omega
  | succ j=>
   have:=zh6 l (i+1) j A hs.2 (by rw[Yb7]at h;exact h);omega
def zr2{p:Pb}{t h:Rat}{i:Nat}{x:List Rat}(hk:(Zea p t h i x).2.1=0):(Zea p t h i x).2.2=0/\((Zea p t h i x).1.length=p.t.outs.length/\∀q∈(Zea p t h i x).1,sz q<=129):=by
 unfold Zea Zcz at hk ⊢;split
 ·next h0=>
  have hlim:=(zhd p.bits).2;refine⟨rfl,by unfold Zda;rw[Yk],fun q hq=>?_⟩;obtain⟨o,_,rfl⟩:=Yl.1 hq;refine zla (by decide) ?_;unfold Zdr;split
  ·exact zru hlim _ _ (by simp)
  ·simp
 ·next h0=>rw[if_neg h0]at hk;exact absurd hk h0
theorem zis{p:Pb}{t h:Rat}{y:List Rat}(hn:p.t.outs.length=y.length)(hb:p.s.b.length<=3):∀(n i:Nat) (Ys Ks:List (List Rat)),i+n=p.s.b.length->Ys.length=i->Ks.length=i->KOk y.length Ks->(Zan p t h y n i Ys Ks).2.1=0 ->
  (Zan p t h y n i Ys Ks).1.1.length=p.s.b.length/\(Zan p t h y n i Ys Ks).1.2.length=p.s.b.length/\KOk y.length (Zan p t h y n i Ys Ks).1.2/\(Zan p t h y n i Ys Ks).2.2=(0,0)
 | 0,i,Ys,Ks,hi,h1,h2,hK,_=>⟨by show Ys.length=_;omega,by show Ks.length=_;omega,hK,rfl⟩
 | n+1,i,Ys,Ks,hi,h1,h2,hK,hk=>by
  unfold Zan at hk ⊢;split
  ·next k hf=>rw[hf]at hk;exact absurd hk (by simp)
  ·next hf=>
   rw[hf]at hk;dsimp only at hk ⊢;split
   ·next h0=>
    rw[if_pos h0]at hk;obtain⟨_,s1,s2⟩:=zr2 h0;refine zis hn hb n (i+1) _ _ (by omega) (by simp[h1]) (by simp[h2]) ⟨?_,fun r hr=>?_,fun r hr=>?_⟩ hk
    ·rw[Yam,Yc2];omega
    ·rcases Yag.1 hr with hr | hr
     ·exact hK.row r hr
     ·rw[Ya1.1 hr,s1,hn]
    ·rcases Yag.1 hr with hr | hr
     ·exact hK.sz r hr
     ·rw[Ya1.1 hr];exact s2
   ·next h0=>
    rw[if_neg h0]at hk;exact absurd hk h0
def Zfe(i:Nat)(p:List (Fz×List Rat))(a:Rat):Rat:=p.foldl (fun a q=>a+fv q.1*q.2.getD i 0) a
def zqc(i:Nat)(p:List (Fz×List Rat))(q:Fz×List Rat)(a:Rat):Zfe i (p++[q]) a=Zfe i p a+fv q.1*q.2.getD i 0:=by
 simp[Zfe]
def za7{α:Type}(l:List α)(d:α){i:Nat}(h:i<l.length):l.getD i d=l[i]'h:=by
 rw[List.getD_eq_getElem?_getD,Yb h,Ydd]
def zwj(c:Rat)(acc:List Rat)(r:List Fz)(i:Nat)(hi:i<acc.length)(hr:r.length=acc.length):(Zdq c acc r).getD i 0=acc.getD i 0+c*(r.map fv).getD i 0:=by
 have h1:i<(Zdq c acc r).length:=by rw[zew hr];exact hi
 have h2:i<(r.map fv).length:=by simp;omega
 rw[za7 _ _ h1,za7 _ _ hi,za7 _ _ h2];simp[Zdq]
theorem znq(i:Nat):∀(C:List Fz) (K:List (List Rat)) (acc:List Rat),i<acc.length->(∀r∈K,r.length=acc.length)->(Zd3 (C.zip (K.map fzs)) acc).getD i 0=Zfe i (C.zip K) (acc.getD i 0)
 | [],_,_,_,_=>rfl
 | _::_,[],_,_,_=>rfl
 | c::C,r::K,acc,hi,hr=>by
  have h1:(fzs r).length=acc.length:=by rw[zae,hr r Yu]
  have h2:=zew (c:=fv c) h1;have ih:=znq i C K (Zdq (fv c) acc (fzs r)) (by omega) (fun q hq=>by rw[h2];exact hr q (Yn _ hq));rw[zwj _ _ _ _ hi h1,zff]at ih;exact ih
def z15{y:List Rat}{h:Rat}{C:List Fz}{K:List (List Rat)}(hK:KOk y.length K)(i:Nat)(hi:i<y.length):(Za4 y h C K).getD i 0=y.getD i 0+h*Zfe i (C.zip K) 0:=by
 have e:=znq i C K (List.replicate y.length 0) (by rw[Yz];exact hi) (fun r hr=>by rw[Yz];exact hK.row r hr);have e0:(List.replicate y.length (0:Rat)).getD i 0=0:=by
  rw[za7 _ _ (by rw[Yz];exact hi),Yct]
 rw[e0]at e;have hT:(Zdt h C K y.length).length=y.length:=zea hK;have h1:i<(Za4 y h C K).length:=by rw[zdi hK];exact hi
 have h2:i<(Zd3 (C.zip (K.map fzs)) (List.replicate y.length 0)).length:=by
  have:=zhg (C:=C) hK;unfold Ziu at this;omega
 rw[za7 _ _ h2]at e;rw[za7 _ _ h1,za7 _ _ hi,<-e];have ez:∀(A:List Rat) (B:List Fz) (hA:i<A.length) (hB:i<B.length) (hz:i<(Zbm A B).length),(Zbm A B)[i]'hz=A[i]'hA+fv (B[i]'hB):=by
  intro A B hA hB hz;simp[Zbm]
 have et:∀(M:List Rat) (hM:i<M.length) (hz:i<(fzs (M.map fun q=>h*q)).length),fv ((fzs (M.map fun q=>h*q))[i]'hz)=h*M[i]'hM:=by
  intro M hM hz;simp[fzs,zb6]
 refine(ez y (fzs (Zdt h C K y.length)) hi (by rw[zae];omega) h1).trans ?_;exact congrArg (y[i] + ·) (et (Zd3 (C.zip (K.map fzs)) (List.replicate y.length 0)) h2 (by rw[zae,Yk];exact h2))
section
variable{T:Tbl}[Zz T][Z8 T][Zx T][Zae T][Zw T][Zag T][Zq T][Z9 T][Zc3 T][Zdo T]
def zgl(q:Rat):Za T 235 [efz (fz q)]=some (.b (decide (q=0))):=by
 have h:((fz q).2.1.length=0)↔q=0:=by
  constructor
  ·intro h;have h1:(ofN q.num.natAbs).length=0:=h;rw[Ybd]at h1;have h2:val (ofN q.num.natAbs)=0:=by rw[h1];rfl
   rw[zad]at h2;exact zd9.1 (zno.2 (by omega))
  ·intro h;rw[h,znn]
   rfl
 rw[zaa Zq.h235 rfl,b235];by_cases hz:q=0
 ·have h1:=h.2 hz;rw[decide_eq_true hz];clear h;generalize fz q=R at *
  obtain⟨r0,r1,r2⟩:=R;dsimp only at h1;have h2:r1=[]:=Ybd.1 h1;subst h2;simp -implicitDefEqProofs
 ·have h1:¬ (fz q).2.1.length=0:=fun hh=>hz (h.1 hh);rw[decide_eq_false hz];clear h;generalize fz q=R at *
  obtain⟨r0,r1,r2⟩:=R;dsimp only at h1;have h2:¬ (r1.length:Int)=0:=by omega
  have h4:r1≠[]:=fun hh=>h1 (by rw[hh];rfl);simp -implicitDefEqProofs[h1,h2,h4]
def hpP(q r:Fz):Heap:=[(.loc 2,⟨1,.str,3,[Zau q]⟩),(.loc 4,⟨2,.str,3,[[.b false,.sl [] .an,.sl [] .an]]⟩),(.loc 6,⟨3,.str,3,[Zau r]⟩)]
def Znm(q r:Fz)(e:Int)(i:Nat):St:=⟨[(1,.i .i64 e),(2,.ptr (.loc 2) 1 3 0 0),(4,.ptr (.loc 4) 2 3 0 0),(6,.ptr (.loc 6) 3 3 0 0),(7,.i .i64 i)],hpP q r,5⟩
def Zld(q r:Fz)(e:Int)(i:Nat):St:=⟨[(1,.i .i64 e),(2,.ptr (.loc 2) 1 3 0 0),(4,.ptr (.loc 4) 2 3 0 0),(6,.ptr (.loc 6) 3 3 0 0),(8,.i .i64 (-(i:Int)))],hpP q r,5⟩
def zae5(q:Rat)(hq:sz q<=129)(e:Int)(k:Nat)(hk:k<=8)(he:k=e.toNat) :
  Ze T 0 0 (.norm false [1,2,4,6]) l244_0 (Znm (fz q) (fz 1) e 0)=some (.n,⟨[(1,.i .i64 e),(2,.ptr (.loc 2) 1 3 0 0),(4,.ptr (.loc 4) 2 3 0 0),(6,.ptr (.loc 6) 3 3 0 0)],hpP (fz q) (fz (q^k)),5⟩):=by
 have e0:(1:Rat)=q^(0:Nat):=(Rat.pow_zero q).symm;rw[e0];refine zag (fun i=>Znm (fz q) (fz (q^i)) e i) k _ (fun i hi=>?_) ?_
 ·have hs:=ztg q i;have hm:i*sz q<=7*129:=Ycg (by omega) hq;have c:=zfz (T:=T) (q^i) q (by omega) (by omega);rw[<-Rat.pow_succ]at c;have h1:(i:Int)<e:=by omega
  have hw:=zaw hi (by omega);unfold Znm hpP;generalize fz (q^i)=A at *
  generalize fz (q^(i+1))=B at *
  generalize fz q=Q at *
  obtain⟨a0,a1,a2⟩:=A;obtain⟨b0,b1,b2⟩:=B;obtain⟨q0,q1,q2⟩:=Q;simp -implicitDefEqProofs[l244_0,h1,hw,c]
 ·have h1:¬ (k:Int)<e:=by omega
  unfold Znm hpP;generalize fz (q^k)=A at *
  generalize fz q=Q at *
  obtain⟨a0,a1,a2⟩:=A;obtain⟨q0,q1,q2⟩:=Q;constructor<;>simp -implicitDefEqProofs[l244_0,h1]
def zae6(q:Rat)(hq:sz q<=129)(e:Int)(k:Nat)(hk:k<=8)(he:k=(-e).toNat)(A0:Rat)(hA:A0=1\/k=0) :
  Ze T 0 2 (.norm false [4,6]) l244_1 (Zld (fz q) (fz A0) e 0)=some (.n,⟨[(4,.ptr (.loc 4) 1 3 0 0),(6,.ptr (.loc 6) 2 3 0 0)],[(.loc 4,⟨1,.str,3,[[.b false,.sl [] .an,.sl [] .an]]⟩),(.loc 6,⟨2,.str,3,[Zau (fz (if k=0 then A0 else (q^k)⁻¹))]⟩)],4⟩):=by
 have fin:∀B:Fz,Zb6 (evX (orc T) T 0 l244_1 (Zld (fz q) B e k))=true/\Zbs 0 2 (.norm false [4,6]) (evX (orc T) T 0 l244_1 (Zld (fz q) B e k))=some (.n,⟨[(4,.ptr (.loc 4) 1 3 0 0),(6,.ptr (.loc 6) 2 3 0 0)],[(.loc 4,⟨1,.str,3,[[.b false,.sl [] .an,.sl [] .an]]⟩),(.loc 6,⟨2,.str,3,[Zau B]⟩)],4⟩):=by
  intro B;have h1:¬ e < -(k:Int):=by omega
  unfold Zld hpP;generalize fz q=Q at *
  obtain⟨a0,a1,a2⟩:=B;obtain⟨q0,q1,q2⟩:=Q;constructor<;>simp -implicitDefEqProofs[l244_1,h1]
 by_cases hk0:k=0
 ·rw[if_pos hk0];subst hk0;exact zag (fun i=>Zld (fz q) (fz A0) e i) 0 _ (fun i hi=>absurd hi (Nat.not_lt_zero i)) (fin _)
 ·rw[if_neg hk0];have hA1:A0=(q^(0:Nat))⁻¹:=by
   rcases hA with h | h
   ·rw[h,Rat.pow_zero];decide +kernel
   ·exact absurd h hk0
  rw[hA1];refine zag (fun i=>Zld (fz q) (fz (q^i)⁻¹) e i) k _ (fun i hi=>?_) (fin _);have hs:=Yd (z1y (q^i)) (ztg q i);have hm:i*sz q<=7*129:=Ycg (by omega) hq;have c:=zpu (T:=T) (fz (q^i)⁻¹) (fz q) (by rw[zax];omega) (by rw[zax];omega);rw[zb6,zb6]at c;have er:(q^i)⁻¹/q=(q^(i+1))⁻¹:=by rw[Yd6,Rat.pow_succ,Rat.inv_mul_rev,Rat.mul_comm]
  rw[er]at c;have h1:e < -(i:Int):=by omega
  have hw:IntKind.wrap .i64 (-(i:Int)-1)=-((i+1:Nat):Int):=by rw[zab _ (by omega)];omega
  unfold Zld hpP;generalize fz (q^i)⁻¹=A at *
  generalize fz (q^(i+1))⁻¹=B at *
  generalize fz q=Q at *
  obtain⟨a0,a1,a2⟩:=A;obtain⟨b0,b1,b2⟩:=B;obtain⟨q0,q1,q2⟩:=Q;simp -implicitDefEqProofs[l244_1,h1,hw,c]
def zzy(q:Rat)(hq:sz q<=129)(e:Int):Za T 244 [efz (fz q),.i .i64 e]=some (.tup [efz (fz (Zfw q e).1),.b (Zfw q e).2]):=by
 have c0:=zfx (T:=T);have c1:=zmc (T:=T);have cz:=zgl (T:=T) q;unfold Zfw;rw[zaa Zdo.h244 rfl,b244];by_cases h1:e < -8
 ·rw[if_neg (by omega)];generalize fz 0=Z at *
  generalize fz q=Q at *
  obtain⟨q0,q1,q2⟩:=Q;obtain⟨z0,z1,z2⟩:=Z;simp -implicitDefEqProofs[c0,h1]
 by_cases h2:8<e
 ·rw[if_neg (by omega)];generalize fz 0=Z at *
  generalize fz q=Q at *
  obtain⟨q0,q1,q2⟩:=Q;obtain⟨z0,z1,z2⟩:=Z;simp -implicitDefEqProofs[c0,h1,h2]
 by_cases h3:e<0/\q=0
 ·rw[if_neg (fun hh=>hh.2.2 h3)];rw[decide_eq_true h3.2]at cz;have h4:=h3.1;generalize fz 0=Z at *
  generalize fz q=Q at *
  obtain⟨q0,q1,q2⟩:=Q;obtain⟨z0,z1,z2⟩:=Z;simp -implicitDefEqProofs[c0,h1,h2,h4,cz]
 ·rw[if_pos ⟨by omega,by omega,h3⟩];have a:=zae5 (T:=T) q hq e e.toNat (by omega) rfl;have b:=zae6 (T:=T) q hq e (-e).toNat (by omega) rfl (q^e.toNat) (by
   by_cases hh:(-e).toNat=0
   ·exact .inr hh
   ·left;rw[show e.toNat=0 by omega,Rat.pow_zero])
  have ep:(if (-e).toNat=0 then q^e.toNat else (q^(-e).toNat)⁻¹)=Ziv q e:=by
   unfold Ziv;by_cases hh:(-e).toNat=0
   ·rw[if_pos hh];obtain⟨n,rfl⟩:∃n:Nat,e=n:=⟨e.toNat,by omega⟩;rw[Ybl,Ycq]
   ·rw[if_neg hh];obtain⟨n,rfl⟩:∃n:Nat,e=-n:=⟨(-e).toNat,by omega⟩;rw[show (-(-(n:Int))).toNat=n by omega,Rat.zpow_neg,Ycq]
  rw[ep]at b;unfold Znm hpP at a;unfold Zld hpP at b;simp only[Yp,Int.neg_zero]at a b;generalize fz (Ziv q e)=R at *
  generalize fz (q^e.toNat)=M at *
  generalize fz 1=W at *
  have h4:e<0->decide (q=0)=false:=fun h=>decide_eq_false fun hh=>h3 ⟨h,hh⟩;generalize decide (q=0)=D at *
  generalize fz q=Q at *
  obtain⟨q0,q1,q2⟩:=Q;obtain⟨w0,w1,w2⟩:=W;obtain⟨m0,m1,m2⟩:=M;obtain⟨r0,r1,r2⟩:=R;clear ep c0;by_cases h5:e<0
  ·rw[h4 h5]at cz;simp -implicitDefEqProofs[c1,h1,h2,h5,cz,a,b]
  ·simp -implicitDefEqProofs[c1,h1,h2,h5,a,b]
end
structure FineD (f:Fd) (dim pars:Int):Prop where
 wh:1<=dim/\dim<=6/\0<=pars/\pars<=6/\(f.outs.length:Int)=dim/\f.lets.length<=10/\Zo4 f<=300
 lets:∀k x,f.lets[k]? = some x->Zk0 dim pars (k:Nat) x.code<0
 outs:∀c∈f.outs,Zk0 dim pars f.lets.length c<0
class Zpm (T:Tbl):Prop where
def Zpa(P:Po)(ls:List Rat)(x:Nd):Rat:=if x.op=1 then ((val x.n:Nat):Rat) else if x.op=3 then gI P.y x.i else if x.op=4 then gI P.p x.i else if x.op=5 then gI ls x.i else P.t
def unV(x:Nd)(a:Rat):Rat×Bool:=if x.op=6 then (-a,true) else Zfw a x.i
def biV(op:Int)(a b:Rat):Rat×Bool:=if op=7 then (a+b,true) else if op=8 then (a-b,true) else if op=9 then (a*b,true) else (a/b,decide (b≠0))
def Zn5(lim:Nat)(v:Rat×Bool)(i:Nat):Rat×Nat×Nat:=if v.2=false then (0,3,i) else if lim<Zec v.1 then (0,6,i) else (v.1,0,0)
def Zg8(P:Po)(ls:List Rat)(s:List Rat)(x:Nd):(Rat×Bool)×List Rat:=
 if arN x.op=0 then ((Zpa P ls x,true),s) else if arN x.op=1 then (unV x (s.headD 0),s.tail) else (biV x.op (s.tail.headD 0) (s.headD 0),s.tail.tail)
def Zhu(lim:Nat)(P:Po)(ls:List Rat):Nat->List Rat->List Nd->Rat×Nat×Nat
 | _,s,[]=>(s.headD 0,0,0)
 | i,s,x::r=>if (Zn5 lim (Zg8 P ls s x).1 i).2.1≠0 then Zn5 lim (Zg8 P ls s x).1 i else Zhu lim P ls (i+1) ((Zg8 P ls s x).1.1::(Zg8 P ls s x).2) r
def evT(lim:Nat)(P:Po)(ls:List Rat):Tre->Nat->Rat×Nat×Nat
 | .leaf x,i=>Zn5 lim (Zpa P ls x,true) i
 | .un x a,i=>if (evT lim P ls a i).2.1≠0 then evT lim P ls a i else Zn5 lim (unV x (evT lim P ls a i).1) (i+a.flat.length)
 | .bin x a b,i=>if (evT lim P ls a i).2.1≠0 then evT lim P ls a i else if (evT lim P ls b (i+a.flat.length)).2.1≠0 then evT lim P ls b (i+a.flat.length)
   else Zn5 lim (biV x.op (evT lim P ls a i).1 (evT lim P ls b (i+a.flat.length)).1) (i+a.flat.length+b.flat.length)
def Zq5(lim:Nat)(P:Po)(ls:List Rat):List Rat->List Nd->Int->Int->Int×Int
 | _,[],c,p=>(c,p)
 | s,x::r,c,p=>if (Zg8 P ls s x).1.2=false then (c,p) else if lim<Zec (Zg8 P ls s x).1.1 then (Zfa c,Zfx p (fz (Zg8 P ls s x).1.1))
   else Zq5 lim P ls ((Zg8 P ls s x).1.1::(Zg8 P ls s x).2) r (Zfa c) (Zfx p (fz (Zg8 P ls s x).1.1))
abbrev hpA(gk:Nat)(Q:PoF)(LS:List Fz)(s p L seen:Int)(F:List Fz)(m:Nat):Heap:=
 [(.bor 0,⟨0,.str,9,[[.b Q.t.1,.sl (Zc Q.t.2.1) .an,.sl (Zc Q.t.2.2) .an,.sl (Zb Q.y) .an,.sl (Zb Q.p) .an,.sl (Zb LS) .an,.ptr (.bor 1) 1 3 0 0,.i .i64 seen,.bs (.bor 2) gk 3 0 m]]⟩),(.bor 1,bxG 1 s p L),(.bor 2,⟨gk,.own,3,Zb F⟩)]
abbrev wP:AV:=.ptr (.bor 0) 0 9 0 0
abbrev Zrm(z:Fz):Box:=⟨7,.str,3,[[.b z.1,.sl (Zc z.2.1) .an,.sl (Zc z.2.2) .an]]⟩
abbrev Zrn(a b c d:Int):Box:=⟨8,.str,4,[[.i .i64 a,.i .i64 b,.i .i64 c,.i .i64 d]]⟩
abbrev hqA(gk:Nat)(Q:PoF)(LS:List Fz)(s p L seen:Int)(F:List Fz)(m:Nat)(z:Fz)(a b c d:Int):Heap:=
 [(.bor 0,⟨0,.str,9,[[.b Q.t.1,.sl (Zc Q.t.2.1) .an,.sl (Zc Q.t.2.2) .an,.sl (Zb Q.y) .an,.sl (Zb Q.p) .an,.sl (Zb LS) .an,.ptr (.bor 1) 1 3 0 0,.i .i64 seen,.bs (.bor 2) gk 3 0 m]]⟩),(.bor 1,bxG 1 s p L),(.bor 2,⟨gk,.own,3,Zb F⟩),(.loc 4,Zrm z),(.loc 5,Zrn a b c d)]
def Ztq(gk:Nat)(Q:PoF)(LS:List Fz)(s p L seen:Int)(F:List Fz)(m:Nat)(code:List Nd)(i:Nat):St:=
 ⟨[(0,wP),(4,.ptr (.loc 4) 7 3 0 0),(5,.ptr (.loc 5) 8 4 0 0),(18,.sl (Zg2 code) .an),(19,.i .i64 code.length),(20,.i .i64 i)],hqA gk Q LS s p L seen F m (false,[],[]) 0 0 0 0,10⟩
def Zqc(gk:Nat)(Q:PoF)(LS:List Fz)(s p L seen:Int)(F:List Fz)(m:Nat):Ex×St:=
 (.n,⟨[(0,wP),(4,.ptr (.loc 4) 7 3 0 0),(5,.ptr (.loc 5) 8 4 0 0)],hqA gk Q LS s p L seen F m (false,[],[]) 0 0 0 0,10⟩)
def Zqd(gk:Nat)(Q:PoF)(LS:List Fz)(s p L seen:Int)(F:List Fz)(m:Nat)(kind at_:Int):Ex×St:=
 (.r,⟨[(4,.ptr (.loc 4) 7 3 0 0),(5,.ptr (.loc 5) 8 4 0 0)],hqA gk Q LS s p L seen F m (fz 0) kind 0 0 at_,10⟩)
section
variable{T:Tbl}[Z2 T][Zu T][Zy T][Z0 T][Zt T][Zp T][Zi T][Zl T][Zs T][Zet T][Zad T][Zap T][Zc5 T][Zah T][Zaf T][Zbl T][Zpm T][Zna T][Zbd T][Zo1 T]
def Zsh(P:Po)(lim:Nat)(ls:List Rat)(n:Nat)(R:Rat×Nat×Nat)(r:Ex×St):Prop:=
 (R.2.1=0/\∃gk s p F,(gk=2\/gk=6)/\F[0]? = some (fz R.1)/\F.length<=5000/\r=Zqc gk P.f (fzs ls) s p lim n F 1) \/
 (R.2.1≠0/\∃gk s p seen F m,(gk=2\/gk=6)/\r=Zqd gk P.f (fzs ls) s p lim seen F m R.2.1 R.2.2)
end
end Go.Ab
section
namespace Go.Ab
end Go.Ab
end
namespace Go.Ab
abbrev Zts(a b c d:Int):AV:=.agg [.i .i64 a,.i .i64 b,.i .i64 c,.i .i64 d]
def Zn4(lim:Nat)(P:Po):Nat->List Rat->List (List Nd)->Nat×List Rat×Nat×Nat
 | n,ls,[]=>(n,ls,0,0)
 | n,ls,c::r=>if (Zhu lim P ls n [] c).2.1≠0 then (n,ls,(Zhu lim P ls n [] c).2.1,(Zhu lim P ls n [] c).2.2) else Zn4 lim P (n+c.length) (ls++[(Zhu lim P ls n [] c).1]) r
def Zq4(lim:Nat)(P:Po)(ls:List Rat):Nat->List Rat->List (List Nd)->List Rat×Nat×Nat
 | _,os,[]=>(os,0,0)
 | n,os,c::r=>if (Zhu lim P ls n [] c).2.1≠0 then ([],(Zhu lim P ls n [] c).2.1,(Zhu lim P ls n [] c).2.2) else Zq4 lim P ls (n+c.length) (os++[(Zhu lim P ls n [] c).1]) r
def evD(lim:Nat)(P:Po)(f:Fd):List Rat×Nat×Nat:=
 if (Zn4 lim P 0 [] (f.lets.map (·.code))).2.2.1≠0 then ([],(Zn4 lim P 0 [] (f.lets.map (·.code))).2.2) else Zq4 lim P (Zn4 lim P 0 [] (f.lets.map (·.code))).2.1 (Zn4 lim P 0 [] (f.lets.map (·.code))).1 [] f.outs
class Zrf (T:Tbl):Prop where
class Zp9 (T:Tbl):Prop where
class Zrk (T:Tbl):Prop where
def prim344:List AV->Option AV
 | [.s s,.s [47,46]]=>if s.length<=1000000 then some (.i .i64 (Lib.indexAny s [47,46])) else none
 | _=>none
def prim194:List AV->Option AV
 | [.s s,.s [c]]=>some (.i .i64 (Lib.indexByte s c))
 | _=>none
def prim361:List AV->Option AV
 | [.s s,.s [c]]=>some (.i .i64 (Lib.countByte s c))
 | _=>none
def prim343:List AV->Option AV
 | [.s [48],.i .i64 n]=>if 0<=n/\n<=64 then some (.s (List.replicate n.toNat 48)) else none
 | _=>none
class Zqb (T:Tbl):Prop where
class Zm9 (T:Tbl):Prop where
def Zl0(c:UInt8):List UInt8->List (List UInt8)
 | []=>[[]]
 | b::l=>if b=c then []::Zl0 c l else match Zl0 c l with
  | []=>[[b]]
  | p::r=>(b::p)::r
section
variable{T:Tbl}[Zqb T][Zm9 T]
def Zuu(c:UInt8)(N:Nat)(ps:List (List UInt8))(s:List UInt8):St:=
 ⟨[(0,.s s),(1,.s [c]),(2,.i .i64 0),(3,.i .i64 ((N:Int)-1)),(9,.bs (.loc 31) 1 1 0 N),(10,.i .i64 ps.length)],[(.loc 31,⟨1,.own,1,Zlm ps++List.replicate (N-ps.length) [.s []]⟩)],3⟩
end
abbrev flt(k a:Int):AV:=.agg [.i .i64 k,.i .i64 0,.i .i64 0,.i .i64 a]
def Zqe(c:UInt8):Bool:=c == 47 || c == 46
def Znb:List UInt8->Nat
 | []=>0
 | c::r=>if Zqe c then 0 else Znb r+1
def Zro(z:Int)(neg:Bool)(s:List UInt8)(c:UInt8)(at_:Nat):Rat×Int×Int:=
 let rest:=s.drop at_
 if 0<=Zl1 rest then (0,1,Zl1 rest+at_)
 else if c=47 then (if rd rest=0 then (0,2,at_) else (mkRat z (rd rest),0,0))
 else (mkRat (sg neg (z.natAbs*10^rest.length+rd rest)) (10^rest.length),0,0)
def Zof(s:List UInt8):Rat×Int×Int:=
 let first:=s.take (Znb s)
 if 0<=Zn2 first then (0,1,Zn2 first+Zqw first)
 else if Znb s<s.length then Zro (Zo6 first) (s.head? = some 45) s (s.getD (Znb s) 0) (Znb s+1)
 else (mkRat (Zo6 first) 1,0,0)
def Zo3:List (List UInt8)->Nat->List Rat->List Rat×Int×Int
 | [],_,acc=>(acc,0,0)
 | w::ws,k,acc=>if (Zof w).2.1=0 then Zo3 ws (k+w.length+1) (acc++[(Zof w).1]) else ([],(Zof w).2.1,(Zof w).2.2+k)
def Ztt(s:List UInt8):List Rat×Int×Int:=if s=[] then ([],0,0) else Zo3 (Zl0 44 s) 0 []
section
variable{T:Tbl}[Z2 T][Zu T][Zy T][Z0 T][Zt T][Zp T][Za9 T][Zbd T][Zi T][Zl T][Zs T][Zet T][Zqb T][Zm9 T][Zc5 T][Zrk T][Zba T][Zbt T][Zp9 T]
def Ztu(ws:List (List UInt8))(y:Nat×Nat×List Rat):St:=
 ⟨[(3,.ptr (.loc 3) 1 4 0 0),(4,.bs (.loc 4) 2 3 0 y.2.2.length),(5,.i .i64 y.2.1),(14,.sl (Zlm ws) .an),(15,.i .i64 ws.length),(16,.i .i64 y.1)],
  [(.loc 3,⟨1,.str,4,[[.i .i64 0,.i .i64 0,.i .i64 0,.i .i64 0]]⟩),(.loc 4,⟨2,.own,3,Zb (fzs y.2.2)⟩)],4⟩
def Zsi(r:List Rat×Int×Int):Option (Ex×St):=
 if r.2.1=0 then some (.n,⟨[(3,.ptr (.loc 3) 1 4 0 0),(4,.bs (.loc 4) 2 3 0 r.1.length)],[(.loc 3,⟨1,.str,4,[[.i .i64 0,.i .i64 0,.i .i64 0,.i .i64 0]]⟩),(.loc 4,⟨2,.own,3,Zb (fzs r.1)⟩)],4⟩)
 else some (.r,⟨[(2,.sl [] .an),(3,.ptr (.loc 3) 1 4 0 0)],[(.loc 3,⟨1,.str,4,[[.i .i64 r.2.1,.i .i64 0,.i .i64 0,.i .i64 r.2.2]]⟩)],3⟩)
end
end Go.Ab
section
namespace Go.Ab
end Go.Ab
end
namespace Go.Ab
def Zji(t:Tp)(many words:Nat):Bool:=((t.code.take many).any fun i=>decide (words<fsz i.n)) || decide (many<t.code.length) || decide (many<t.outs.length)
def zj2{t:Tp}{many words:Nat}(h:Zji t many words=false):t.code.length<=many/\t.outs.length<=many/\∀i∈t.code,fsz i.n<=words:=by
 unfold Zji at h;simp only[Yci,decide_eq_false_iff_not,Yem,decide_eq_true_eq]at h;obtain⟨⟨h1,h2⟩,h3⟩:=h;rw[Ya (by omega)]at h1;exact⟨by omega,by omega,fun x hx=>by have:=h1 x hx;omega⟩
def Zst(x:PoF)(many words:Nat):Bool:=decide (words<fsz x.t) || Zam x.y many words || Zam x.p many words
section
variable{T:Tbl}[Zz T][Z8 T][Zx T][Zae T][Zw T][Zag T][Zq T][Z9 T][Zdd T][Zcx T][Ze9 T]
def Zmj(t:Tp)(many words i:Nat):St:=⟨[(1,.i .i64 many),(2,.i .i64 words),(3,.ptr (.loc 3) 1 4 0 0),(7,.i .i64 i)],[(.loc 3,bxT t)],3⟩
def Zog(t:Tp)(many:Nat):Ex×St:=(.n,⟨[(1,.i .i64 many),(3,.ptr (.loc 3) 1 4 0 0)],[(.loc 3,bxT t)],3⟩)
def zu1(t:Tp)(many words:Nat)(hm:many<=1000) :
  Ze T 0 0 (.norm false [1,3]) l379_0 (Zmj t many words 0)=if (t.code.take many).any (fun i=>decide (words<fsz i.n))=true then some (.r,⟨[(6,.b true)],[],2⟩) else some (Zog t many):=by
 have e0:t.code.take many=(t.code.take many).drop 0:=rfl;rw[e0];obtain⟨n,hn⟩:∃n,n=(t.code.take many).length:=⟨_,rfl⟩;have hn':n<=many/\n<=t.code.length/\(n=many\/n=t.code.length):=by rw[hn,Y3];omega
 refine zap (Zmj t many words) n (fun i=>if ((t.code.take many).drop i).any (fun x=>decide (words<fsz x.n))=true then some (.r,⟨[(6,.b true)],[],2⟩) else some (Zog t many)) (fun i hi=>?_) ?_
 ·have h1:i<t.code.length:=by omega
  have h2:(i:Int)<t.code.length:=by omega
  have h3:i<many:=by omega
  have h4:(i:Int)<many:=by omega
  have hg:t.code[i]? = some (t.code[i]'h1):=Yb h1;have hws2:=zaw h3 (by omega);have c:=zfy (T:=T) (t.code[i]'h1).n words;have key:((t.code.take many).drop i).any (fun x=>decide (words<fsz x.n))=(decide (words<fsz (t.code[i]'h1).n) || ((t.code.take many).drop (i+1)).any fun x=>decide (words<fsz x.n)):=by
   rw[Yg (by rw[<-hn];exact hi),Yd1,List.getElem_take]
  by_cases he:words<fsz (t.code[i]'h1).n
  ·right;rw[if_pos (by rw[key,decide_eq_true he,Yef])];rw[decide_eq_true he]at c;unfold Zmj bxT;clear key he hn hn';constructor<;>simp -implicitDefEqProofs[l379_0,h1,h2,h3,h4,hg,c]
  ·left;refine⟨?_,by simp only[key,decide_eq_false he,Yep]⟩;rw[decide_eq_false he]at c;unfold Zmj bxT;clear key he hn hn';simp -implicitDefEqProofs[l379_0,h1,h2,h3,h4,hg,hws2,c]
 ·rw[Ya7 (by omega),if_neg (by simp)];unfold Zmj Zog bxT;by_cases hc:n<t.code.length
  ·have h5:n=many:=by omega
   have h6:(n:Int)<t.code.length:=by omega
   subst h5;constructor<;>simp -implicitDefEqProofs[l379_0,hc,h6]
  ·have h5:¬ (n:Int)<t.code.length:=by omega
   constructor<;>simp -implicitDefEqProofs[l379_0,hc,h5]
def zu2(t:Tp)(many words:Nat)(hm:many<=1000):Za T 379 [etp t,.i .i64 many,.i .i64 words]=some (.b (Zji t many words)):=by
 have h:=zu1 (T:=T) t many words hm;unfold Zmj Zog bxT at h;simp only[Yp]at h;unfold Zji;generalize ((t.code.take many).any fun i=>decide (words<fsz i.n))=B at *
 obtain⟨code,outs,dim,par⟩:=t;dsimp only at *
 rw[zaa Ze9.h379 rfl,b379];cases B with
 | true=>
  rw[if_pos rfl]at h;simp -implicitDefEqProofs[h]
 | false=>
  rw[if_neg (by decide)]at h;by_cases h1:many<code.length
  ·have h2:(many:Int)<code.length:=by omega
   simp -implicitDefEqProofs[h,h1,h2]
  ·have h2:¬ (many:Int)<code.length:=by omega
   have e:decide ((many:Int)<outs.length)=decide (many<outs.length):=by
    by_cases h3:many<outs.length
    ·rw[decide_eq_true h3,decide_eq_true (by omega)]
    ·rw[decide_eq_false h3,decide_eq_false (by omega)]
   simp -implicitDefEqProofs[h,h1,h2,e]
@[simp] def zaol(l:List Int):Option.all (fun r=>decide (r.length=1)) (ints l).head? = true:=by cases l<;>rfl
def fC:BId:=.fld (.loc 3) 0
def Zlv(t:Tp)(i:Nat):St:=⟨[(1,.ptr (.loc 1) 1 4 0 0),(2,.ptr (.loc 2) 2 4 0 0),(3,.ptr (.loc 3) 3 4 0 0),(4,.i .i64 i)],
 [(.loc 1,bxT t),(.loc 2,⟨2,.str,4,[[.sl [] .an,.sl [] .an,.i .i64 0,.i .i64 0]]⟩),(.loc 3,⟨3,.str,4,[[.bs fC 4 6 0 i,.bs (.loc 13) 5 1 0 t.outs.length,.i .i64 t.dim,.i .i64 t.par]]⟩),(fC,⟨4,.own,6,Zdk (t.code.take i)⟩),(.loc 13,⟨5,.own,1,ints t.outs⟩)],7⟩
def zzd(t:Tp)(i:Nat)(hi:i<t.code.length)(hl:t.code.length<=1000):evX (orc T) T 0 l382_0 (Zlv t i)=some (.n,Zlv t (i+1)):=by
 have hws:=zaw hi (by omega);have hb:i<=4294967295:=by omega
 have hg:t.code[i]? = some (t.code[i]'hi):=Yb hi;have hn:=zer (T:=T) (t.code[i]'hi).n;have hi':(i:Int)<t.code.length:=by omega
 have hml:(t.code.take i).length=i:=by simp;omega
 have ht:List.take i (t.code.take i)=t.code.take i:=Ya (by omega);have e:=zfa t.code hi;have hp:=z19 hml (t.code[i]'hi);rw[ht]at hp;unfold Zlv bxT fC;rw[e];clear e;generalize t.code.take i=M at *
 simp -implicitDefEqProofs[l382_0,hi,hi',hws,hb,hg,hn,hml,ht,hp]
def z3l(t:Tp)(hl:t.code.length<=1000):Ze T 0 0 (.norm false [2,3]) l382_0 (Zlv t 0) =
  some (.n,⟨[(2,.ptr (.loc 2) 1 4 0 0),(3,.ptr (.loc 3) 2 4 0 0)],[(.loc 2,⟨1,.str,4,[[.sl [] .an,.sl [] .an,.i .i64 0,.i .i64 0]]⟩),(.loc 3,⟨2,.str,4,[[.bs fC 3 6 0 t.code.length,.bs (.loc 13) 4 1 0 t.outs.length,.i .i64 t.dim,.i .i64 t.par]]⟩),(fC,⟨3,.own,6,Zdk t.code⟩),(.loc 13,⟨4,.own,1,ints t.outs⟩)],6⟩):=by
 refine zag (Zlv t) t.code.length _ (fun i hi=>zzd t i hi hl) ?_;unfold Zlv bxT fC;rw[Ya (Ye _)];constructor<;>simp -implicitDefEqProofs[l382_0]
def z3m(t:Tp)(hl:t.code.length<=1000)(ho:t.outs.length<=1000):Za T 382 [etp t]=some (etp t):=by
 have ht:List.take t.code.length t.code=t.code:=Ya (by omega);have hs:List.take t.outs.length t.outs=t.outs:=Ya (by omega);have h:=z3l (T:=T) t hl;unfold Zlv bxT fC at h;simp only[Yp,Yaz,z5p]at h;obtain⟨code,outs,dim,par⟩:=t;dsimp only at *
 have ho2:outs.length<=4294967296:=by omega
 rw[zaa Ze9.h382 rfl,b382];simp -implicitDefEqProofs[ht,hs,ho2,h]
end
def doV(op i:Int)(a b:Rat):Rat×Bool:=if op=6 then (-a,true) else if op=11 then Zfw a i else biV op a b
section
variable{T:Tbl}[Zz T][Z8 T][Zx T][Zae T][Zw T][Zag T][Zq T][Z9 T][Zc3 T][Zdo T][Zcy T]
def zrl(b:Int):Za T 465 [.i .i64 b]=some (.i .i64 (Zk8 b)):=by
 rw[zaa Zcy.h465 rfl,b465];unfold Zk8;by_cases h1:b<0
 ·simp -implicitDefEqProofs[h1]
 ·by_cases h2:4096<b
  ·simp -implicitDefEqProofs[h1,h2]
  ·simp -implicitDefEqProofs[h1,h2]
def zhw(x:Fz)(lim:Int)(hx:fsz x<=10000):Za T 476 [efz x,.i .i64 lim]=some (.b (decide ((Zcs x:Int)<=lim))):=by
 have c:=zmf (T:=T) x hx;obtain⟨x0,x1,x2⟩:=x;rw[zaa Zcy.h476 rfl,b476];generalize Zcs (x0,x1,x2)=S at *
 by_cases h:(S:Int)<=lim
 ·simp -implicitDefEqProofs[c,h]
 ·simp -implicitDefEqProofs[c,h]
def ztd(op i:Int)(a b:Rat)(hop:6<=op/\op<=11)(ha:sz a<=129)(hb:sz b<=129) :
  Za T 475 [.i .i64 op,.i .i64 i,efz (fz a),efz (fz b)]=some (.tup [efz (fz (doV op i a b).1),.b (doV op i a b).2]):=by
 have c6:=zpv (T:=T) (fz a) (by rw[zax];omega);rw[zb6]at c6;have c7:=zcx (T:=T) a b (by omega) (by omega);have c8:=zafp (T:=T) a b (by omega) (by omega);have c9:=zfz (T:=T) a b (by omega) (by omega);have c11:=zzy (T:=T) a ha i;have cz:=zgl (T:=T) b;have c10:=zpu (T:=T) (fz a) (fz b) (by rw[zax];omega) (by rw[zax];omega);rw[zb6,zb6]at c10;rw[zaa Zcy.h475 rfl,b475];have hcase:op=6\/op=7\/op=8\/op=9\/op=10\/op=11:=by omega
 rcases hcase with rfl | rfl | rfl | rfl | rfl | rfl
 ·have e:doV 6 i a b=(-a,true):=rfl;rw[e];dsimp only;generalize fz a=A at *
  generalize fz b=B at *
  generalize fz (-a)=V at *
  obtain⟨a0,a1,a2⟩:=A;obtain⟨b0,b1,b2⟩:=B;obtain⟨v0,v1,v2⟩:=V;simp -implicitDefEqProofs[c6]
 ·have e:doV 7 i a b=(a+b,true):=rfl;rw[e];dsimp only;generalize fz (a+b)=V at *
  generalize fz a=A at *
  generalize fz b=B at *
  obtain⟨a0,a1,a2⟩:=A;obtain⟨b0,b1,b2⟩:=B;obtain⟨v0,v1,v2⟩:=V;simp -implicitDefEqProofs[c7]
 ·have e:doV 8 i a b=(a-b,true):=rfl;rw[e];dsimp only;generalize fz (a-b)=V at *
  generalize fz a=A at *
  generalize fz b=B at *
  obtain⟨a0,a1,a2⟩:=A;obtain⟨b0,b1,b2⟩:=B;obtain⟨v0,v1,v2⟩:=V;simp -implicitDefEqProofs[c8]
 ·have e:doV 9 i a b=(a*b,true):=rfl;rw[e];dsimp only;generalize fz (a*b)=V at *
  generalize fz a=A at *
  generalize fz b=B at *
  obtain⟨a0,a1,a2⟩:=A;obtain⟨b0,b1,b2⟩:=B;obtain⟨v0,v1,v2⟩:=V;simp -implicitDefEqProofs[c9]
 ·have e:doV 10 i a b=(a/b,decide (b≠0)):=rfl;rw[e];dsimp only;by_cases hz:b=0
  ·have e2:a/b=b:=by rw[hz,Yd6,Rat.inv_zero,Rat.mul_zero]
   have e3:decide (b≠0)=false:=by rw[hz];rfl
   rw[decide_eq_true hz]at cz;rw[e3,e2];clear e e2 e3 c10 c6 c7 c8 c9 c11;generalize fz a=A at *
   generalize fz b=B at *
   obtain⟨a0,a1,a2⟩:=A;obtain⟨b0,b1,b2⟩:=B;simp -implicitDefEqProofs[cz]
  ·rw[decide_eq_true hz];rw[decide_eq_false hz]at cz;clear e;generalize fz (a/b)=V at *
   generalize fz a=A at *
   generalize fz b=B at *
   obtain⟨a0,a1,a2⟩:=A;obtain⟨b0,b1,b2⟩:=B;obtain⟨v0,v1,v2⟩:=V;simp -implicitDefEqProofs[c10,cz]
 ·have e:doV 11 i a b=Zfw a i:=rfl;rw[e];generalize Zfw a i=R at *
  obtain⟨r,ok⟩:=R;dsimp only at *
  generalize fz r=V at *
  generalize fz a=A at *
  generalize fz b=B at *
  obtain⟨a0,a1,a2⟩:=A;obtain⟨b0,b1,b2⟩:=B;obtain⟨v0,v1,v2⟩:=V;simp -implicitDefEqProofs[c11]
end
def z0m{dim par:Int}{p:Nat}{i:Ins}(h:Zc0 dim par p i=true)(ho:i.op=1):fz (fv i.n)=i.n:=by
 grind[Zc0,Zbv]
section
variable{T:Tbl}[Zz T][Z8 T][Zx T][Zae T][Zw T][Zag T][Zq T][Z9 T][Zc3 T][Zdo T][Zcy T][Zbb T]
def zvx(i:Ins)(P:Po)(D:List Rat)(dim par:Int)(hm:Zc0 dim par D.length i=true)(hd:(P.y.length:Int)=dim)(hp:(P.p.length:Int)=par)(hD:∀q∈D,sz q<=129) :
  Za T 558 [.agg (Zf0 i),ept P.f,.sl (Zb (fzs D)) .an]=some (.tup [efz (fz (Z6 P D i).1),.b (Z6 P D i).2]):=by
 have hop:=z2a hm;by_cases h1:i.op=1
 ·have hr:=z0m hm h1;have e:Z6 P D i=(fv i.n,true):=by simp[Z6,h1]
  rw[e];dsimp only;rw[hr];clear hr e hm hop;obtain⟨op,a,b,n0,n1,n2⟩:=i;generalize P.f=Q at *
  generalize fzs D=DD at *
  obtain⟨⟨t0,t1,t2⟩,y,p⟩:=Q;dsimp only at *
  subst h1;rw[zaa Zbb.h558 rfl,b558];simp -implicitDefEqProofs[]
 by_cases h2:i.op=2
 ·have e:Z6 P D i=(P.t,true):=by simp[Z6,h2]
  rw[e];dsimp only;have e2:fz P.t=P.f.t:=rfl;rw[e2];clear e hm hop e2;obtain⟨op,a,b,n0,n1,n2⟩:=i;generalize P.f=Q at *
  generalize fzs D=DD at *
  obtain⟨⟨t0,t1,t2⟩,y,p⟩:=Q;dsimp only at *
  subst h2;rw[zaa Zbb.h558 rfl,b558];simp -implicitDefEqProofs[]
 by_cases h3:i.op=3
 ·have ha:=zage hm h3;obtain⟨k,hk1,hk2,hk3,hka⟩:=zid (D:=P.y) (a:=i.a) ⟨ha.1,by omega⟩;have e:Z6 P D i=(gI P.y i.a,true):=by simp[Z6,h3]
  rw[e];dsimp only;have hl:P.f.y.length=P.y.length:=zae _;have hka':P.f.y[k]? = some (fz (gI P.y i.a)):=hka;have hkae:=(Yc.1 hka').2;generalize fz (gI P.y i.a)=z at *
  rw[<-hl]at hk2 hk3;clear e hm hop hl hka ha hd hp;obtain⟨op,a,b,n0,n1,n2⟩:=i;generalize P.f=Q at *
  generalize fzs D=DD at *
  obtain⟨⟨t0,t1,t2⟩,y,p⟩:=Q;obtain⟨z0,z1,z2⟩:=z;dsimp only at *
  subst h3 hk1;rw[zaa Zbb.h558 rfl,b558];simp -implicitDefEqProofs[hk2,hk3,hkae]
 by_cases h4:i.op=4
 ·have ha:=zagf hm h4;obtain⟨k,hk1,hk2,hk3,hka⟩:=zid (D:=P.p) (a:=i.a) ⟨ha.1,by omega⟩;have e:Z6 P D i=(gI P.p i.a,true):=by simp[Z6,h4]
  rw[e];dsimp only;have hl:P.f.p.length=P.p.length:=zae _;have hka':P.f.p[k]? = some (fz (gI P.p i.a)):=hka;have hkae:=(Yc.1 hka').2;generalize fz (gI P.p i.a)=z at *
  rw[<-hl]at hk2 hk3;clear e hm hop hl hka ha hd hp;obtain⟨op,a,b,n0,n1,n2⟩:=i;generalize P.f=Q at *
  generalize fzs D=DD at *
  obtain⟨⟨t0,t1,t2⟩,y,p⟩:=Q;obtain⟨z0,z1,z2⟩:=z;dsimp only at *
  subst h4 hk1;rw[zaa Zbb.h558 rfl,b558];simp -implicitDefEqProofs[hk2,hk3,hkae]
 have ha:=zagc hm (by omega);obtain⟨k,hk1,hk2,hk3,hka⟩:=zid ha;have sa:sz (gI D i.a)<=129:=zla (by decide) hD;have hl:(fzs D).length=D.length:=zae D;have hkae:=(Yc.1 hka).2;by_cases h6:i.op=6\/i.op=11
 ·have c:=ztd (T:=T) i.op i.b (gI D i.a) (gI D i.a) (by omega) sa sa;have e:Z6 P D i=doV i.op i.b (gI D i.a) (gI D i.a):=by
   grind[Z6,doV,z95,z09]
  rw[e];generalize doV i.op i.b (gI D i.a) (gI D i.a)=V at *
  obtain⟨V,ok⟩:=V;dsimp only at *
  generalize fz V=z at *
  generalize fz (gI D i.a)=u at *
  rw[<-hl]at hk2 hk3;clear e hm hop hl ha hd hp sa hD;obtain⟨op,a,b,n0,n1,n2⟩:=i;generalize P.f=Q at *
  generalize fzs D=DD at *
  obtain⟨⟨t0,t1,t2⟩,y,p⟩:=Q;obtain⟨z0,z1,z2⟩:=z;dsimp only at *
  subst hk1;rw[zaa Zbb.h558 rfl,b558];rcases h6 with rfl | rfl
  ·simp -implicitDefEqProofs[hk2,hk3,hkae,c]
  ·simp -implicitDefEqProofs[hk2,hk3,hkae,c]
 have hb:=zagd hm (by omega);obtain⟨j,hj1,hj2,hj3,hjb⟩:=zid hb;have sb:sz (gI D i.b)<=129:=zla (by decide) hD;have hjbe:=(Yc.1 hjb).2;have c:=ztd (T:=T) i.op 0 (gI D i.a) (gI D i.b) (by omega) sa sb;have hop':i.op=7\/i.op=8\/i.op=9\/i.op=10:=by omega
 have e:Z6 P D i=doV i.op 0 (gI D i.a) (gI D i.b):=by
  grind[Z6,doV,biV]
 rw[e];generalize doV i.op 0 (gI D i.a) (gI D i.b)=V at *
 obtain⟨V,ok⟩:=V;generalize fz V=z at *
 rw[<-hl]at hk2 hk3 hj2 hj3;obtain⟨op,a,b,n0,n1,n2⟩:=i;generalize P.f=Q at *
 generalize fzs D=DD at *
 subst hk1 hj1;rw[zaa Zbb.h558 rfl,b558];rcases hop' with rfl | rfl | rfl | rfl
 ·simp -implicitDefEqProofs[hk2,hk3,hkae,hj2,hj3,hjbe,c]
 ·simp -implicitDefEqProofs[hk2,hk3,hkae,hj2,hj3,hjbe,c]
 ·simp -implicitDefEqProofs[hk2,hk3,hkae,hj2,hj3,hjbe,c]
 ·simp -implicitDefEqProofs[hk2,hk3,hkae,hj2,hj3,hjbe,c]
def Zeh(Q:PoF)(L:Int)(t:Tp)(i:Nat)(D:List Fz):St:=
 ⟨[(2,.i .i64 L),(3,.ptr (.loc 3) 1 4 0 0),(4,.ptr (.loc 4) 2 5 0 0),(9,.bs (.loc 9) 3 3 0 i),(10,.i .i64 i)],
  [(.loc 3,bxT t),(.loc 4,⟨2,.str,5,[[.b Q.t.1,.sl (Zc Q.t.2.1) .an,.sl (Zc Q.t.2.2) .an,.sl (Zb Q.y) .an,.sl (Zb Q.p) .an]]⟩),(.loc 9,⟨3,.sh,3,Zb D⟩)],5⟩
def Zkv(D:List Fz)(n:Nat):Ex×St:=(.n,⟨[(9,.bs (.loc 9) 1 3 0 n)],[(.loc 9,⟨1,.sh,3,Zb D⟩)],3⟩)
def Zh8(kind at_:Int):Ex×St:=(.r,⟨[(6,.sl [] .an),(7,.i .i64 kind),(8,.i .i64 at_)],[],2⟩)
def z0n(Q:PoF)(L:Int)(t:Tp)(i:Nat)(D:List Fz)(x:Ins)(v:Fz)(hi:i<t.code.length)(hc:t.code.length<=1000)(hg:t.code[i]? = some x)(hdl:D.length=i)(hv:fsz v<=10000)
  (c:Za T 558 [.agg (Zf0 x),ept Q,.sl (Zb D) .an]=some (.tup [efz v,.b true])) (hf:(Zcs v:Int)<=L) :
  evX (orc T) T 0 l544_0 (Zeh Q L t i D)=some (.n,Zeh Q L t (i+1) (D++[v])):=by
 have hf2:=zhw (T:=T) v L hv;rw[decide_eq_true hf]at hf2;have hws:=zaw hi (by omega);have hge:=(Yc.1 hg).2;have ht:List.take i D=D:=Ya (by omega);have hp:wkL (Zb D++[Zau v])=Zb (D++[v]):=by rw[zd3,zey]
 have hi':(i:Int)<t.code.length:=by omega
 have hb:i+1<=4294967296:=by omega
 unfold Zeh bxT;obtain⟨code,outs,dim,par⟩:=t;simp -implicitDefEqProofs[l544_0,hi,hi',hge,hws,c,hf2,hp,hdl,hb,ht,zcn Zbb.h558]
theorem z4j(Q:PoF)(L:Int)(t:Tp)(i:Nat)(D:List Fz)(x:Ins)(v:Fz)(hi:i<t.code.length)(hc:t.code.length<=1000)(hg:t.code[i]? = some x)(hdl:D.length=i)
  (c:Za T 558 [.agg (Zf0 x),ept Q,.sl (Zb D) .an]=some (.tup [efz v,.b false])) :
  Zb6 (evX (orc T) T 0 l544_0 (Zeh Q L t i D))=true/\Zbs 0 0 (.norm false [9]) (evX (orc T) T 0 l544_0 (Zeh Q L t i D))=some (Zh8 3 i):=by
 have hge:=(Yc.1 hg).2;have ht:List.take i D=D:=Ya (by omega);have hi':(i:Int)<t.code.length:=by omega
 unfold Zeh bxT Zh8;obtain⟨code,outs,dim,par⟩:=t;constructor<;>simp -implicitDefEqProofs[l544_0,hi,hi',hge,c,hdl,ht,zcn Zbb.h558]
theorem z4k(Q:PoF)(L:Int)(t:Tp)(i:Nat)(D:List Fz)(x:Ins)(v:Fz)(hi:i<t.code.length)(hc:t.code.length<=1000)(hg:t.code[i]? = some x)(hdl:D.length=i)(hv:fsz v<=10000)
  (c:Za T 558 [.agg (Zf0 x),ept Q,.sl (Zb D) .an]=some (.tup [efz v,.b true])) (hf:¬ (Zcs v:Int)<=L) :
  Zb6 (evX (orc T) T 0 l544_0 (Zeh Q L t i D))=true/\Zbs 0 0 (.norm false [9]) (evX (orc T) T 0 l544_0 (Zeh Q L t i D))=some (Zh8 6 i):=by
 have hf2:=zhw (T:=T) v L hv;rw[decide_eq_false hf]at hf2;have hge:=(Yc.1 hg).2;have ht:List.take i D=D:=Ya (by omega);have hi':(i:Int)<t.code.length:=by omega
 unfold Zeh bxT Zh8;obtain⟨code,outs,dim,par⟩:=t;constructor<;>simp -implicitDefEqProofs[l544_0,hi,hi',hge,c,hf2,hdl,ht,zcn Zbb.h558]
theorem z9d(Q:PoF)(L:Int)(t:Tp)(D:List Fz) :
  Zb6 (evX (orc T) T 0 l544_0 (Zeh Q L t t.code.length D))=true/\Zbs 0 0 (.norm false [9]) (evX (orc T) T 0 l544_0 (Zeh Q L t t.code.length D))=some (Zkv D t.code.length):=by
 unfold Zeh bxT Zkv;obtain⟨⟨q0,q1,q2⟩,qy,qp⟩:=Q;obtain⟨code,outs,dim,par⟩:=t;dsimp only at *
 constructor<;>simp -implicitDefEqProofs[l544_0]
def Zjn(lim:Nat)(P:Po)(n:Nat)(l:List Ins)(D:List Rat):Ex×St:=
 if (Zbj lim P l D).2.1=0 then Zkv (fzs (Zbj lim P l D).1) n else Zh8 (Zbj lim P l D).2.1 (Zbj lim P l D).2.2
def z4l(P:Po)(lim:Nat)(hlim:lim<=4096)(t:Tp)(ht:OkTp t)(hn:∀i∈t.code,fsz i.n<=1000)(hd:(P.y.length:Int)=t.dim)(hp:(P.p.length:Int)=t.par)(hP:PvS P 1000) :
  Ze T 0 0 (.norm false [9]) l544_0 (Zeh P.f lim t 0 [])=some (Zjn lim P t.code.length t.code []):=by
 have hc:=ht.cl;have key:=za4 (T:=T) (k:=0) (id:=0) (g2:=.norm false [9]) (c:=l544_0) (fun x:Nat×List Rat=>Zeh P.f lim t x.1 (fzs x.2))
  (fun x=>x.1<=t.code.length/\x.2.length=x.1/\(∀q∈x.2,sz q<=129)) (fun x=>t.code.length-x.1)
  (fun x=>some (Zjn lim P t.code.length (t.code.drop x.1) x.2)) ?_ (0,[]) ⟨Yv _,rfl,by simp⟩
 ·exact key
 rintro⟨i,D⟩ ⟨hi,hdl,hD⟩
 by_cases hlt:i<t.code.length
 ·have hg:t.code[i]? = some (t.code[i]'hlt):=Yb hlt;have hmem:=Yi hlt;have hm:=ht.may i _ hg;have hdr:t.code.drop i=t.code[i]'hlt::t.code.drop (i+1):=Yg hlt;generalize hx:t.code[i]'hlt=x at *
  have hm':Zc0 t.dim t.par D.length x=true:=by grind
  have c:=zvx (T:=T) x P D t.dim t.par hm' hd hp hD;have hvs:fsz (fz (Z6 P D x).1)<=10000:=Yd (z1b hm' hP (hn x hmem) hD) (by decide);have hfl:(fzs D).length=i:=by simp_all
  cases hok:(Z6 P D x).2 with
  | false=>
   grind[z4j,zcr,Zjn]
  | true=>
   rw[hok]at c;by_cases hfit:Zec (Z6 P D x).1<=lim
   ·left;have e:=z0n (T:=T) P.f lim t i (fzs D) x _ hlt (by omega) hg hfl hvs c (by unfold Zec at hfit;omega);refine⟨(i+1,D++[(Z6 P D x).1]),⟨by omega,by grind,fun q hq=>?_⟩,by omega,?_,?_⟩
    ·rcases Yag.1 hq with h | h
     ·grind
     ·rw[Ya1.1 h];have:=zkj hfit;omega
    ·rw[e];simp[fzs]
    grind[zcr,Zjn]
   grind[z4k,Zec,zcr,Zjn]
 grind[z9d,Zjn,Zbj]
def zvy(t:Tp)(P:Po)(lim:Nat)(hlim:lim<=4096)(ht:OkTp t)(hn:∀i∈t.code,fsz i.n<=1000)(hd:(P.y.length:Int)=t.dim)(hp:(P.p.length:Int)=t.par)(hP:PvS P 1000) :
  Za T 544 [etp t,ept P.f,.i .i64 lim]=some (.tup [.sl (Zb (fzs (Zbj lim P t.code []).1)) .an,.i .i64 (Zbj lim P t.code []).2.1,.i .i64 (Zbj lim P t.code []).2.2]):=by
 have hl:=z4l (T:=T) P lim hlim t ht hn hd hp hP;unfold Zjn at hl;by_cases hk:(Zbj lim P t.code []).2.1=0
 ·obtain⟨e2,E,e3,e4⟩:=zfk lim P t.code [] hk;rw[if_pos hk]at hl;rw[hk,e2];have hlen:(fzs (Zbj lim P t.code []).1).length=t.code.length:=by simp_all
  unfold Zeh bxT Zkv at hl;simp only[Yp,zay]at hl;generalize P.f=Q at *
  generalize fzs (Zbj lim P t.code []).1=D at *
  obtain⟨code,outs,dim,par⟩:=t;dsimp only at *
  have htk:List.take code.length D=D:=Ya (by omega);rw[zaa Zbb.h544 rfl,b544];simp -implicitDefEqProofs[hl,hlen,htk]
 ·have e1:=(zr3 lim P t.code [] hk).1;rw[if_neg hk]at hl;rw[e1];have e0:fzs []=[]:=rfl;rw[e0,zay];unfold Zeh bxT Zh8 at hl;simp only[Yp,zay]at hl;generalize P.f=Q at *
  obtain⟨code,outs,dim,par⟩:=t;rw[zaa Zbb.h544 rfl,b544];simp -implicitDefEqProofs[hl]
def Zg1(outs:List Int)(D:List Rat):List Rat:=outs.map fun o=>gI D o
def Zle(t:Tp)(D:List Fz)(i:Nat)(R:List Fz):St:=
 ⟨[(1,.sl (Zb D) .an),(2,.ptr (.loc 2) 1 4 0 0),(5,.bs (.loc 5) 2 3 0 i),(6,.i .i64 i)],[(.loc 2,bxT t),(.loc 5,⟨2,.own,3,Zb R⟩)],4⟩
def z4m(t:Tp)(D:List Rat)(ho:t.outs.length<=1000)(hr:∀o∈t.outs,0<=o/\o<D.length) :
  Ze T 0 0 (.norm false [5]) l547_0 (Zle t (fzs D) 0 [])=some (.n,⟨[(5,.bs (.loc 5) 1 3 0 t.outs.length)],[(.loc 5,⟨1,.own,3,Zb (fzs (Zg1 t.outs D))⟩)],3⟩):=by
 have key:=zag (T:=T) (k:=0) (id:=0) (g2:=.norm false [5]) (c:=l547_0) (fun i=>Zle t (fzs D) i (fzs (Zg1 (t.outs.take i) D))) t.outs.length
  (some (.n,⟨[(5,.bs (.loc 5) 1 3 0 t.outs.length)],[(.loc 5,⟨1,.own,3,Zb (fzs (Zg1 t.outs D))⟩)],3⟩)) (fun i hi=>?_) ?_
 ·exact key
 ·have hi':(i:Int)<t.outs.length:=by omega
  have hws:=zaw hi (by omega);obtain⟨k,hk1,hk2,hk3,hka⟩:=zid (hr _ (Yi hi));have hl:(fzs D).length=D.length:=zae D;have hkae:=(Yc.1 hka).2;have hlen:(fzs (Zg1 (t.outs.take i) D)).length=i:=by simp[Zg1];omega
  have hnext:fzs (Zg1 (t.outs.take (i+1)) D)=fzs (Zg1 (t.outs.take i) D)++[fz (gI D (t.outs[i]'hi))]:=by
   grind[List.take_succ_eq_append_getElem,Zg1,fzs]
  rw[hnext];generalize fzs (Zg1 (t.outs.take i) D)=R at *
  have hp:wkL (Zb (List.take i R)++[Zau (fz (gI D (t.outs[i]'hi)))])=Zb (R++[fz (gI D (t.outs[i]'hi))]):=by
   grind[zd3,zey]
  have hb:i+1<=4294967296:=by omega
  rw[<-hl]at hk2 hk3;unfold Zle bxT;generalize hgo:t.outs[i]'hi=o at *
  generalize fz (gI D o)=z at *
  generalize fzs D=DD at *
  subst hk1;obtain⟨code,outs,dim,par⟩:=t;have ht:List.take i R=R:=Ya (by omega);rw[ht]at hp;simp -implicitDefEqProofs[l547_0,hi,hi',hgo,hws,hk2,hk3,hkae,hlen,hp,ht,hb]
 ·rw[Ya (Ye _)];unfold Zle bxT;have hlen:(fzs (Zg1 t.outs D)).length=t.outs.length:=by simp[Zg1]
  generalize fzs (Zg1 t.outs D)=R at *
  generalize fzs D=DD at *
  obtain⟨code,outs,dim,par⟩:=t;dsimp only at *
  constructor<;>simp -implicitDefEqProofs[l547_0]
def zvz(t:Tp)(D:List Rat)(ho:t.outs.length<=1000)(hr:∀o∈t.outs,0<=o/\o<D.length):Za T 547 [etp t,.sl (Zb (fzs D)) .an]=some (.sl (Zb (fzs (Zda t D))) .an):=by
 have e:Zda t D=Zg1 t.outs D:=rfl;rw[e];have hl:=z4m (T:=T) t D ho hr;unfold Zle bxT at hl;simp only[Yp,zay]at hl;have hlen:(fzs (Zg1 t.outs D)).length=t.outs.length:=by simp[Zg1]
 generalize fzs (Zg1 t.outs D)=R at *
 obtain⟨code,outs,dim,par⟩:=t;dsimp only at *
 have htk:List.take outs.length R=R:=Ya (by omega);rw[zaa Zbb.h547 rfl,b547];simp -implicitDefEqProofs[hl,hlen,htk]
end
section
variable{T:Tbl}[Zz T][Z8 T][Zx T][Zw T][Zae T][Zag T][Zq T][Zcg T]
def zbg(n lo hi:Int):Za T 538 [.i .i64 n,.i .i64 lo,.i .i64 hi]=some (.b (decide (lo<=n)&&decide (n<=hi))):=by
 rw[zaa Zcg.h538 rfl,b538];by_cases h1:lo<=n
 ·by_cases h2:n<=hi
  ·simp -implicitDefEqProofs[h1,h2]
  ·simp -implicitDefEqProofs[h1,h2]
 ·simp -implicitDefEqProofs[h1]
def zic(a m:Int):(decide (0<=a)&&decide (a<=m-1))=Zo a m:=by
 grind[Zo]
def z0j(dim par:Int)(p:Nat)(x:Ins)(hf:fsz x.n<=10000)(d:1<=dim/\dim<=6)(q:0<=par/\par<=6)(hp:p<=4294967296) :
  Za T 539 [.agg (Zf0 x),.i .i64 p,.i .i64 dim,.i .i64 par]=some (.b (Zc0 dim par p x)):=by
 have hn:=za8 (T:=T) x.n hf;have hs:=zcw (T:=T) (fz (fv x.n)) x.n (by exact za2 hf (by decide));have hrt:decide (fz (fv x.n)=x.n)=Zbv x.n:=by grind[Zbv]
 rw[hrt]at hs;have w1:IntKind.wrap .i64 ((p:Int)-1)=(p:Int)-1:=zab _ (by omega);have w2:IntKind.wrap .i64 (dim-1)=dim-1:=zab _ (by omega);have w3:IntKind.wrap .i64 (par-1)=par-1:=zab _ (by omega);have cy:=zbg (T:=T) x.a 0 (dim-1);have cp:=zbg (T:=T) x.a 0 (par-1);have ca:=zbg (T:=T) x.a 0 ((p:Int)-1);have cb:=zbg (T:=T) x.b 0 ((p:Int)-1);have ce:=zbg (T:=T) x.b (-8) 8;have co:=zbg (T:=T) x.op 7 10;rw[zic]at cy cp ca cb;obtain⟨op,a,b,s,nn,dd⟩:=x;rw[zaa Zcg.h539 rfl,b539];by_cases h1:op=1
 ·subst h1;have e:Zc0 dim par p ⟨1,a,b,s,nn,dd⟩=(decide (a=0)&&decide (b=0)&&Zbv (s,nn,dd)):=rfl;rw[e];by_cases ha:a=0
  ·subst ha;by_cases hb:b=0
   ·subst hb;simp -implicitDefEqProofs[hn,hs]
   ·simp -implicitDefEqProofs[hb]
  ·simp -implicitDefEqProofs[ha]
 have hm:Zc0 dim par p ⟨op,a,b,s,nn,dd⟩=(Zh9 (s,nn,dd)&&(if op=2 then decide (a=0)&&decide (b=0) else if op=3 then Zo a dim&&decide (b=0) else if op=4 then Zo a par&&decide (b=0)
   else if op=6 then Zo a p&&decide (b=0) else if op=11 then Zo a p&&(decide (-8<=b)&&decide (b<=8)) else decide (7<=op)&&decide (op<=10)&&Zo a p&&Zo b p)):=by
  unfold Zc0;rw[if_neg h1]
  grind[Zao]
 rw[hm];have e0:Zh9 (s,nn,dd)=(!s&&nn.isEmpty&&dd.isEmpty):=rfl;rw[e0];cases s with
 | true=>simp -implicitDefEqProofs[h1]
 | false=>
 cases nn with
 | cons n0 nn=>simp -implicitDefEqProofs[h1]
 | nil=>
 cases dd with
 | cons d0 dd=>simp -implicitDefEqProofs[h1]
 | nil=>
 have hbd:(b == 0)=decide (b=0):=rfl;generalize Zo a dim=B1 at *
 generalize Zo a par=B2 at *
 generalize Zo a p=B3 at *
 by_cases h2:op=2
 ·subst h2;by_cases ha:a=0
  ·subst ha;simp -implicitDefEqProofs[hbd]
  ·simp -implicitDefEqProofs[ha]
 by_cases h3:op=3
 ·subst h3;cases B1<;>simp -implicitDefEqProofs[w2,cy,hbd]
 by_cases h4:op=4
 ·subst h4;cases B2<;>simp -implicitDefEqProofs[w3,cp,hbd]
 by_cases h6:op=6
 ·subst h6;cases B3<;>simp -implicitDefEqProofs[w1,ca,hbd]
 by_cases h11:op=11
 ·subst h11;cases B3<;>simp -implicitDefEqProofs[w1,ca,ce]
 generalize (decide (7<=op)&&decide (op<=10))=B5 at *
 cases B5<;>cases B3<;>simp -implicitDefEqProofs[h1,h2,h3,h4,h6,h11,w1,ca,cb,co]
def Zmn(t:Tp)(i:Nat):St:=⟨[(1,.ptr (.loc 1) 1 4 0 0),(3,.i .i64 i)],[(.loc 1,bxT t)],3⟩
def z0k(t:Tp)(hs:TpS t)(d:1<=t.dim/\t.dim<=6)(q:0<=t.par/\t.par<=6)(hl:t.code.length<=300):Ze T 0 0 (.norm false [1]) l528_0 (Zmn t 0) =
  if Zbi t.dim t.par 0 t.code=-1 then some (.n,⟨[(1,.ptr (.loc 1) 1 4 0 0)],[(.loc 1,bxT t)],3⟩) else some (.r,⟨[(2,.i .i64 (Zbi t.dim t.par 0 t.code))],[],2⟩):=by
 have e0:t.code.drop 0=t.code:=rfl;refine zap (Zmn t) t.code.length (fun i=>if Zbi t.dim t.par i (t.code.drop i)=-1 then some (.n,_) else some (.r,⟨[(2,.i .i64 (Zbi t.dim t.par i (t.code.drop i)))],[],2⟩)) (fun i hi=>?_) ?_
 ·have hws:=zaw hi (by omega);have hd:t.code.drop i=t.code[i]'hi::t.code.drop (i+1):=Yg hi;have cm:=z0j (T:=T) t.dim t.par i (t.code[i]'hi) (Yd (hs.ns _ (Yi hi)) (by decide)) d q (by omega);have hi':(i:Int)<t.code.length:=by omega
  have hf:Zbi t.dim t.par i (t.code.drop i)=if Zc0 t.dim t.par i (t.code[i]'hi) then Zbi t.dim t.par (i+1) (t.code.drop (i+1)) else i:=by rw[hd];rfl
  by_cases hb:Zc0 t.dim t.par i (t.code[i]'hi)=true
  ·left;rw[hb]at cm;refine⟨?_,by grind⟩;unfold Zmn bxT;simp -implicitDefEqProofs[l528_0,hi,hi',hws,cm]
  ·right;have hb':Zc0 t.dim t.par i (t.code[i]'hi)=false:=by grind
   rw[hb']at cm;rw[if_neg hb]at hf;have hne:¬ (i:Int)=-1:=by omega
   simp only[hf,if_neg hne];unfold Zmn bxT;clear hf hd;constructor<;>simp -implicitDefEqProofs[l528_0,hi,hi',cm]
 ·have hf:Zbi t.dim t.par t.code.length (t.code.drop t.code.length)=-1:=by rw[Yw];rfl
  simp only[hf,if_true];unfold Zmn bxT;constructor<;>simp -implicitDefEqProofs[l528_0]
def Zmo(t:Tp)(i:Nat):St:=⟨[(1,.ptr (.loc 1) 1 4 0 0),(4,.i .i64 i)],[(.loc 1,bxT t)],3⟩
def z0l(t:Tp)(hl:t.code.length<=300)(ho:t.outs.length<=300):Ze T 0 2 (.norm false []) l528_1 (Zmo t 0) =
  if (t.outs.all fun o=>Zo o t.code.length)=true then some (.n,⟨[],[],2⟩) else some (.r,⟨[(2,.i .i64 t.code.length)],[],2⟩):=by
 refine zap (Zmo t) t.outs.length (fun i=>if ((t.outs.drop i).all fun o=>Zo o t.code.length)=true then some (.n,_) else some (.r,_)) (fun i hi=>?_) ?_
 ·have hws:=zaw hi (by omega);have hd:t.outs.drop i=t.outs[i]'hi::t.outs.drop (i+1):=Yg hi;have w1:IntKind.wrap .i64 ((t.code.length:Int)-1)=(t.code.length:Int)-1:=zab _ (by omega);have cm:=zbg (T:=T) (t.outs[i]'hi) 0 ((t.code.length:Int)-1);rw[zic]at cm;have hi':(i:Int)<t.outs.length:=by omega
  by_cases hb:Zo (t.outs[i]'hi) t.code.length=true
  ·left;rw[hb]at cm;refine⟨?_,by grind⟩;unfold Zmo bxT;clear hd;simp -implicitDefEqProofs[l528_1,hi,hi',hws,w1,cm]
  ·right;have hb':Zo (t.outs[i]'hi) t.code.length=false:=by grind
   rw[hb']at cm;have hall:((t.outs.drop i).all fun o=>Zo o t.code.length)=false:=by grind
   simp only[hall,Yx,if_false];unfold Zmo bxT;clear hall hd;constructor<;>simp -implicitDefEqProofs[l528_1,hi,hi',w1,cm]
 ·simp only[Yw,Ycw,if_true];unfold Zmo bxT;constructor<;>simp -implicitDefEqProofs[l528_1]
def zrm(t:Tp)(hs:TpS t):Za T 528 [etp t]=some (.i .i64 (Zf1 t)):=by
 have k1:=zbg (T:=T) t.dim 1 6;have k2:=zbg (T:=T) t.par 0 6;have e1:(decide (1<=t.dim)&&decide (t.dim<=6))=Zo (t.dim-1) 6:=by
  grind[Zo]
 have e2:(decide (0<=t.par)&&decide (t.par<=6))=Zo t.par 7:=by
  grind[Zo]
 rw[e1]at k1;rw[e2]at k2;unfold Zf1 Zfg;by_cases b1:Zo (t.dim-1) 6=true
 ·by_cases b2:Zo t.par 7=true
  ·by_cases b3:(t.outs.length:Int)=t.dim
   ·by_cases b4:t.code.length<=300
    ·rw[<-e1]at b1;rw[<-e2]at b2;have d:=b1;have q:=b2;simp only[Yh,decide_eq_true_eq]at d q;have h1:=z0k (T:=T) t hs d q b4;have h2:=z0l (T:=T) t b4 (by omega);rw[e1]at b1;rw[e2]at b2;unfold Zmn bxT at h1;unfold Zmo bxT at h2;simp only[Yp]at h1 h2;generalize hfi:Zbi t.dim t.par 0 t.code=F at *
     generalize hal:(t.outs.all fun o=>Zo o t.code.length)=AL at *
     have b4':¬ 300<(t.code.length:Int):=by omega
     obtain⟨code,outs,dim,par⟩:=t;rw[b1]at k1 ⊢;rw[b2]at k2 ⊢;rw[zaa Zcg.h528 rfl,b528];by_cases hf:F=-1
     ·subst hf;cases AL with
      | false=>
       simp -implicitDefEqProofs[k1,k2,b3,b4,b4',h1,h2]
      | true=>
       simp -implicitDefEqProofs[k1,k2,b3,b4,b4',h1,h2]
     ·simp -implicitDefEqProofs[k1,k2,b3,b4,b4',h1,hf]
    ·have b4':300<(t.code.length:Int):=by omega
     obtain⟨code,outs,dim,par⟩:=t;rw[b1]at k1 ⊢;rw[b2]at k2 ⊢;rw[zaa Zcg.h528 rfl,b528];simp -implicitDefEqProofs[k1,k2,b3,b4,b4']
   ·obtain⟨code,outs,dim,par⟩:=t;rw[b1]at k1 ⊢;rw[b2]at k2 ⊢;rw[zaa Zcg.h528 rfl,b528];simp -implicitDefEqProofs[k1,k2,b3]
  ·have b2':Zo t.par 7=false:=by grind
   obtain⟨code,outs,dim,par⟩:=t;rw[b1]at k1 ⊢;rw[b2']at k2 ⊢;rw[zaa Zcg.h528 rfl,b528];simp -implicitDefEqProofs[k1,k2]
 ·have b1':Zo (t.dim-1) 6=false:=by grind
  obtain⟨code,outs,dim,par⟩:=t;rw[b1']at k1 ⊢;rw[zaa Zcg.h528 rfl,b528];simp -implicitDefEqProofs[k1]
end
def z0b{c:UInt8}{n:Nat}(hn:n<256)(h:c≠UInt8.ofNat n):¬ c.toNat=n:=fun e=>h (by
 grind[UInt8.toNat_inj,UInt8.toNat_ofNat'])
section
variable{T:Tbl}[Za7 T]
def zkg(c:UInt8):Za T 189 [u8 c.toNat]=some (.b (isD c)):=by
 rw[zaa Za7.h189 rfl,b189];by_cases h1:48<=c.toNat
 ·simp -implicitDefEqProofs[isD,h1]
 ·simp -implicitDefEqProofs[isD,h1]
def zib(c:UInt8):Za T 190 [u8 c.toNat]=some (.b (isL c)):=by
 rw[zaa Za7.h190 rfl,b190];by_cases h1:97<=c.toNat<;>by_cases h2:c.toNat<=122<;>by_cases h3:65<=c.toNat<;>by_cases h4:c.toNat<=90<;>by_cases h5:c.toNat=95 <;>
  simp -implicitDefEqProofs[isL,h1,h2,h3,h4,h5]
end
section
variable{T:Tbl}
def z0c(c:UInt8)(l:List UInt8)(hl:l.length<=1000)(R:Bool):∀i:Nat,(i<=l.length/\(l.drop i).contains c=R) ->
  Ze T 0 0 (.norm false []) l181_0 ⟨[(0,u8 c.toNat),(3,.s l),(4,.i .i64 i)],[],2⟩=if R=true then some (.r,⟨[(2,.i .i64 3)],[],2⟩) else some (.n,⟨[],[],2⟩):=by
 refine za4 (fun i:Nat=>⟨[(0,u8 c.toNat),(3,.s l),(4,.i .i64 i)],[],2⟩) _ (fun i=>l.length-i) _ ?_
 rintro i ⟨hi,hR⟩
 by_cases h0:i<l.length
 ·have hg:l[i]? = some (l[i]'h0):=Yb h0;have hd:=Yg h0;have hw:IntKind.wrap .i64 ((i:Int)+1)=((i+1:Nat):Int):=zab _ (by omega);rw[hd,List.contains_cons]at hR;by_cases hc:(l[i]'h0).toNat=c.toNat
  ·right;have:c=l[i]'h0:=(UInt8.toNat_inj.1 hc).symm;have hR':R=true:=by grind
   subst hR';clear hR hd;constructor<;>simp -implicitDefEqProofs[l181_0,h0,hc]
  ·left;have hne:(c == l[i]'h0)=false:=by
    grind
   rw[hne,Yep]at hR;refine⟨i+1,⟨h0,hR⟩,by omega,?_,rfl⟩;simp -implicitDefEqProofs[l181_0,h0,hc,hw]
 ·right;have:i=l.length:=by omega
  subst this;subst hR;constructor<;>simp -implicitDefEqProofs[l181_0]
end
section
variable{T:Tbl}[Za7 T]
def zf0(c:UInt8):Za T 181 [u8 c.toNat]=some (.i .i64 (Zn c)):=by
 have h1:=zkg (T:=T) c;have h2:=zib (T:=T) c;have h:=z0c (T:=T) c Zjw (by decide) _ 0 ⟨by decide,rfl⟩;rw[Y6,show Zjw.contains c=isS c from rfl]at h;simp only[Zjw]at h;rw[zaa Za7.h181 rfl,b181];cases e1:isD c<;>cases e2:isL c<;>cases e3:isS c<;>simp only[e3]at h<;>simp at h<;>simp -implicitDefEqProofs[Zn,h1,h2,h,e1,e2,e3]
def zhu(k:Nat)(c:UInt8):Za T 180 [.i .i64 k,u8 c.toNat]=some (.b (Zbp k c)):=by
 have h1:=zkg (T:=T) c;have h2:=zib (T:=T) c;rw[zaa Za7.h180 rfl,b180];by_cases k1:k=1
 ·subst k1;cases e1:isD c<;>cases e2:isL c<;>simp -implicitDefEqProofs[Zbp,h1,e1,e2]
 ·have k1':¬ (k:Int)=1:=by omega
  by_cases k2:k=2
  ·subst k2;cases e1:isD c<;>cases e2:isL c<;>simp -implicitDefEqProofs[Zbp,h1,h2,e1,e2]
  ·have k2':¬ (k:Int)=2:=by omega
   simp -implicitDefEqProofs[Zbp,k1,k2,k1',k2']
def zhv(k:Nat):Za T 182 [.i .i64 k]=some (.i .i64 (Za5 k)):=by
 rw[zaa Za7.h182 rfl,b182];by_cases k1:k=1
 ·subst k1;simp -implicitDefEqProofs[Za5]
 ·have k1':¬ (k:Int)=1:=by omega
  by_cases k2:k=2
  ·subst k2;simp -implicitDefEqProofs[Za5]
  ·have k2':¬ (k:Int)=2:=by omega
   simp -implicitDefEqProofs[Za5,k1,k2,k1',k2']
def Zdp(s:List UInt8)(i:Nat)(note:Bool)(acc:List Wd):St:=
 ⟨[(0,.s s),(4,.bs (.loc 4) 1 3 0 acc.length),(5,.b note),(6,.i .i64 i)],[(.loc 4,⟨1,.own,3,Zac acc⟩)],3⟩
def Zgs:Except Nat (List Wd)->Option (Ex×St)
 | .ok ws=>some (.n,⟨[(4,.bs (.loc 4) 1 3 0 ws.length)],[(.loc 4,⟨1,.own,3,Zac ws⟩)],3⟩)
 | .error e=>some (.r,⟨[(2,.sl [] .an),(3,.i .i64 e)],[],2⟩)
def Zry(acc:List Wd)(i:Nat):Prop:=∀k t a,acc.getLast? = some (k,t,a)->a+t.length<=i
def z0d(s:List UInt8)(hs:s.length<=4000)(i:Nat)(h0:i<s.length)(note:Bool)(acc:List Wd)(ha:acc.length<=i)(c:UInt8)(hc:s[i]'h0=c)
  (hsk:((if c=35 then true else if c=10 then false else note) || isB c)=true) :
  evX (orc T) T 0 l168_0 (Zdp s i note acc)=some (.n,Zdp s (i+1) (if c=35 then true else if c=10 then false else note) acc):=by
 have hw:IntKind.wrap .i64 ((i:Int)+1)=((i+1:Nat):Int):=zab _ (by omega);rw[z8q]at hsk;have e35:=zj4 c 35 (by decide);have e10:=zj4 c 10 (by decide);rw[show UInt8.ofNat 35=35 from rfl]at e35;rw[show UInt8.ofNat 10=10 from rfl]at e10;simp only[e35,e10]at hsk ⊢;obtain⟨n,hn⟩:∃n,n=c.toNat:=⟨_,rfl⟩;have hn':=hn.symm;by_cases c35:n=35
 ·subst c35;simp -implicitDefEqProofs[l168_0,Zdp,h0,hc,hn',hw]
 ·by_cases c10:n=10
  ·subst c10;simp -implicitDefEqProofs[l168_0,Zdp,h0,hc,hn',hw]
  ·cases note with
   | true=>simp -implicitDefEqProofs[l168_0,Zdp,h0,hc,hn',hw,c35,c10]
   | false=>
    by_cases c32:n=32
    ·subst c32;simp -implicitDefEqProofs[l168_0,Zdp,h0,hc,hn',hw]
    ·by_cases c9:n=9
     ·subst c9;simp -implicitDefEqProofs[l168_0,Zdp,h0,hc,hn',hw]
     ·have c13:n=13:=by grind
      subst c13;simp -implicitDefEqProofs[l168_0,Zdp,h0,hc,hn',hw]
def zdn(pre:List Wd)(k a:Nat)(t:List UInt8):(Zac (pre++[(k,t,a)]))[pre.length]? = some [.i .i64 k,.s t,.i .i64 a]:=by
 simp[Zac,wdR]
def z0e(s:List UInt8)(hs:s.length<=4000)(i:Nat)(h0:i<s.length)(c:UInt8)(hc:s[i]'h0=c)
  (c35:¬ c.toNat=35) (c10:¬ c.toNat=10) (c32:¬ c.toNat=32) (c9:¬ c.toNat=9) (c13:¬ c.toNat=13) (k:Nat) (hk0:Zn c=k) (hz:¬ k=0) :
  evX (orc T) T 0 l168_0 (Zdp s i false [])=some (.n,Zdp s (i+1) false [(k,[c],i)]):=by
 have hw:IntKind.wrap .i64 ((i:Int)+1)=((i+1:Nat):Int):=zab _ (by omega);have hk:=zf0 (T:=T) c;rw[hk0]at hk;have b1:(i:Int)+1<=s.length:=by omega
 have b2:List.drop i (List.take (i+1) s)=[c]:=by
  grind[List.drop_eq_getElem_cons]
 have hm:=zhv (T:=T) k;have hq:=zfj k;have hq':¬ ((Za5 k:Nat):Int)<1:=by omega
 simp -implicitDefEqProofs[l168_0,Zdp,Zac,wdR,h0,hc,hw,c35,c10,c32,c9,c13,hk,hm,b1,b2,hz,hq']
theorem znf(s:List UInt8)(hs:s.length<=4000)(i:Nat)(h0:i<s.length)(c:UInt8)(hc:s[i]'h0=c)
  (c35:¬ c.toNat=35) (c10:¬ c.toNat=10) (c32:¬ c.toNat=32) (c9:¬ c.toNat=9) (c13:¬ c.toNat=13) (hk0:Zn c=0) :
  Zb6 (evX (orc T) T 0 l168_0 (Zdp s i false []))=true/\Zbs 0 0 (Gh.norm false [4]) (evX (orc T) T 0 l168_0 (Zdp s i false []))=Zgs (.error i):=by
 have hw:IntKind.wrap .i64 ((i:Int)+1)=((i+1:Nat):Int):=zab _ (by omega);have hk:=zf0 (T:=T) c;rw[hk0]at hk;have b1:(i:Int)+1<=s.length:=by omega
 have b2:List.drop i (List.take (i+1) s)=[c]:=by
  grind[List.drop_eq_getElem_cons]
 constructor<;>simp -implicitDefEqProofs[l168_0,Zdp,Zgs,Zac,h0,hc,hw,c35,c10,c32,c9,c13,hk,b1,b2]
def z0f(s:List UInt8)(hs:s.length<=4000)(i:Nat)(h0:i<s.length)(c:UInt8)(hc:s[i]'h0=c)
  (c35:¬ c.toNat=35) (c10:¬ c.toNat=10) (c32:¬ c.toNat=32) (c9:¬ c.toNat=9) (c13:¬ c.toNat=13) (pre:List Wd) (hp:pre.length<i) (k0 a0:Nat) (t0:List UInt8) (ht0:a0+t0.length<=i) (hadj:¬ (a0+t0.length=i/\Zbp k0 c=true)) (k:Nat) (hk0:Zn c=k) (hz:¬ k=0) :
  evX (orc T) T 0 l168_0 (Zdp s i false (pre++[(k0,t0,a0)]))=some (.n,Zdp s (i+1) false (pre++[(k0,t0,a0)]++[(k,[c],i)])):=by
 have hg:s[i]? = some c:=by grind
 have hw:IntKind.wrap .i64 ((i:Int)+1)=((i+1:Nat):Int):=zab _ (by omega);have hwi:IntKind.wrap .i64 (i:Int)=(i:Int):=zab _ (by omega);have b1:(i:Int)+1<=s.length:=by omega
 have b2:List.drop i (List.take (i+1) s)=[c]:=by
  grind[List.drop_eq_getElem_cons]
 have hmo:=zhu (T:=T) k0 c;have hl:=zdn pre k0 a0 t0;have hll:(Zac (pre++[(k0,t0,a0)])).length=pre.length+1:=by simp
 have hl2:=zdn (pre++[(k0,t0,a0)]) k i [c];have hll2:(Zac (pre++[(k0,t0,a0)]++[(k,[c],i)])).length=pre.length+2:=by simp
 have hpu:wkL (List.take (pre.length+1) (Zac (pre++[(k0,t0,a0)]))++[[AV.i .i64 k,.s [c],.i .i64 i]])=Zac (pre++[(k0,t0,a0)]++[(k,[c],i)]):=by
  grind[zl7,List.length_singleton]
 have hwp:IntKind.wrap .i64 (pre.length:Int)=(pre.length:Int):=zab _ (by omega);have hwp1:IntKind.wrap .i64 ((pre.length:Int)+1)=(pre.length:Int)+1:=zab _ (by omega);have hlt:(pre.length:Int)<(pre.length:Int)+1:=by omega
 have hws:IntKind.wrap .i64 ((a0:Int)+t0.length)=((a0:Int)+t0.length):=zab _ (by omega);have hk:=zf0 (T:=T) c;rw[hk0]at hk;have hm:=zhv (T:=T) k;have hq:=zfj k;have hq':¬ ((Za5 k:Nat):Int)<1:=by omega
 have hz':¬ (k:Int)=0:=by omega
 have hal:(pre++[(k0,t0,a0)]).length=pre.length+1:=by simp
 have hal2:(pre++[(k0,t0,a0)]++[(k,[c],i)]).length=pre.length+2:=by simp
 have hpl:pre.length<=4294967294:=by omega
 unfold Zdp;rw[hal,hal2];rw[hal]at hl2;have g1:=zeu (pre++[(k0,t0,a0)]);have g2:=zg4 (pre++[(k0,t0,a0)]);have g3:=zeu (pre++[(k0,t0,a0)]++[(k,[c],i)]);have g4:=zg4 (pre++[(k0,t0,a0)]++[(k,[c],i)]);generalize Zac (pre++[(k0,t0,a0)]++[(k,[c],i)])=RW2 at *
 generalize Zac (pre++[(k0,t0,a0)])=RW at *
 generalize pre.length=m at *
 obtain⟨hx1,hgE⟩:=Yc.1 hl;have hT:List.take (m+1) RW=RW:=Ya (by omega);rw[hT]at hpu;have hl3:(RW++[[AV.i .i64 k,.s [c],.i .i64 i]])[m+1]? = some [AV.i .i64 k,.s [c],.i .i64 i]:=by
  grind
 obtain⟨hx3,hgE3⟩:=Yc.1 hl3;have hm1:((m:Int)+1).toNat=m+1:=by omega
 by_cases had:a0+t0.length=i
 ·have had':(a0:Int)+t0.length=i:=by omega
  have hmm:Zbp k0 c=false:=by grind
  simp -implicitDefEqProofs[l168_0,h0,hc,hw,hwi,c35,c10,c32,c9,c13,hk,hm,b1,b2,hz,hq',hmo,hll,hT,hpu,hm1,hwp,hwp1,hlt,hgE,hgE3,had',hmm,hpl]
 ·have had':¬ (a0:Int)+t0.length=i:=by omega
  simp -implicitDefEqProofs[l168_0,h0,hc,hw,c35,c10,c32,c9,c13,hk,hm,b1,b2,hz,hq',hll,hT,hpu,hm1,hwp,hwp1,hws,hlt,hgE,hgE3,had',hpl]
theorem zng(s:List UInt8)(hs:s.length<=4000)(i:Nat)(h0:i<s.length)(c:UInt8)(hc:s[i]'h0=c)
  (c35:¬ c.toNat=35) (c10:¬ c.toNat=10) (c32:¬ c.toNat=32) (c9:¬ c.toNat=9) (c13:¬ c.toNat=13) (pre:List Wd) (hp:pre.length<i) (k0 a0:Nat) (t0:List UInt8) (ht0:a0+t0.length<=i) (hadj:¬ (a0+t0.length=i/\Zbp k0 c=true)) (hk0:Zn c=0) :
  Zb6 (evX (orc T) T 0 l168_0 (Zdp s i false (pre++[(k0,t0,a0)])))=true/\Zbs 0 0 (Gh.norm false [4]) (evX (orc T) T 0 l168_0 (Zdp s i false (pre++[(k0,t0,a0)])))=Zgs (.error i):=by
 obtain⟨k,hkk⟩:∃k:Nat,k=0:=⟨_,rfl⟩;have hw:IntKind.wrap .i64 ((i:Int)+1)=((i+1:Nat):Int):=zab _ (by omega);have hwi:IntKind.wrap .i64 (i:Int)=(i:Int):=zab _ (by omega);have b1:(i:Int)+1<=s.length:=by omega
 have b2:List.drop i (List.take (i+1) s)=[c]:=by
  grind[List.drop_eq_getElem_cons]
 have hmo:=zhu (T:=T) k0 c;have hl:=zdn pre k0 a0 t0;have hll:(Zac (pre++[(k0,t0,a0)])).length=pre.length+1:=by simp
 have hl2:=zdn (pre++[(k0,t0,a0)]) k i [c];have hpu:wkL (List.take (pre.length+1) (Zac (pre++[(k0,t0,a0)]))++[[AV.i .i64 k,.s [c],.i .i64 i]])=Zac (pre++[(k0,t0,a0)]++[(k,[c],i)]):=by
  grind[zl7,List.length_singleton]
 have hwp:IntKind.wrap .i64 (pre.length:Int)=(pre.length:Int):=zab _ (by omega);have hwp1:IntKind.wrap .i64 ((pre.length:Int)+1)=(pre.length:Int)+1:=zab _ (by omega);have hlt:(pre.length:Int)<(pre.length:Int)+1:=by omega
 have hws:IntKind.wrap .i64 ((a0:Int)+t0.length)=((a0:Int)+t0.length):=zab _ (by omega);have hk:=zf0 (T:=T) c;rw[hk0]at hk;have hz':(k:Int)=0:=by omega
 have hal:(pre++[(k0,t0,a0)]).length=pre.length+1:=by simp
 have hpl:pre.length<=4294967294:=by omega
 unfold Zdp Zgs;rw[hal];have g4:=zg4 (pre++[(k0,t0,a0)]++[(k,[c],i)]);generalize Zac (pre++[(k0,t0,a0)])=RW at *
 generalize pre.length=m at *
 obtain⟨hx1,hgE⟩:=Yc.1 hl;have hT:List.take (m+1) RW=RW:=Ya (by omega);have hl3:(RW++[[AV.i .i64 k,.s [c],.i .i64 i]])[m+1]? = some [AV.i .i64 k,.s [c],.i .i64 i]:=by
  grind
 have hm1:((m:Int)+1).toNat=m+1:=by omega
 by_cases had:a0+t0.length=i
 ·have had':(a0:Int)+t0.length=i:=by omega
  have hmm:Zbp k0 c=false:=by grind
  constructor<;>simp -implicitDefEqProofs[l168_0,h0,hc,hw,hwi,c35,c10,c32,c9,c13,hk,b1,b2,hmo,hll,hT,hm1,hwp,hwp1,hlt,hgE,had',hmm,hpl]
 ·have had':¬ (a0:Int)+t0.length=i:=by omega
  constructor<;>simp -implicitDefEqProofs[l168_0,h0,hc,hw,c35,c10,c32,c9,c13,hk,b1,b2,hll,hT,hm1,hwp,hwp1,hws,hlt,hgE,had',hpl]
def z0g(pre:List Wd)(k a:Nat)(t t':List UInt8):(Zac (pre++[(k,t,a)])).set pre.length [.i .i64 k,.s t',.i .i64 a]=Zac (pre++[(k,t',a)]):=by
 have e:Zac (pre++[(k,t,a)])=Zac pre++[wdR (k,t,a)]:=by simp[Zac]
 have e':Zac (pre++[(k,t',a)])=Zac pre++[wdR (k,t',a)]:=by simp[Zac]
 rw[e,e',Yav _ _ (by simp),zfb,Ybx]
 rfl
def z4i(s:List UInt8)(hs:s.length<=4000)(i:Nat)(h0:i<s.length)(c:UInt8)(hc:s[i]'h0=c)
  (c35:¬ c.toNat=35) (c10:¬ c.toNat=10) (c32:¬ c.toNat=32) (c9:¬ c.toNat=9) (c13:¬ c.toNat=13) (pre:List Wd) (hp:pre.length<i) (k0 a0:Nat) (t0:List UInt8) (had:a0+t0.length=i) (hmm:Zbp k0 c=true) (hz:¬ k0=0) :
  (t0.length+1<=Za5 k0->evX (orc T) T 0 l168_0 (Zdp s i false (pre++[(k0,t0,a0)]))=some (.n,Zdp s (i+1) false (pre++[(k0,t0++[c],a0)]))) /\
  (Za5 k0<t0.length+1->Zb6 (evX (orc T) T 0 l168_0 (Zdp s i false (pre++[(k0,t0,a0)])))=true/\Zbs 0 0 (Gh.norm false [4]) (evX (orc T) T 0 l168_0 (Zdp s i false (pre++[(k0,t0,a0)])))=Zgs (.error i)):=by
 have hw:IntKind.wrap .i64 ((i:Int)+1)=((i+1:Nat):Int):=zab _ (by omega);have hwi:IntKind.wrap .i64 (i:Int)=(i:Int):=zab _ (by omega);have b1:(i:Int)+1<=s.length:=by omega
 have b2:List.drop i (List.take (i+1) s)=[c]:=by
  grind[List.drop_eq_getElem_cons]
 have hmo:=zhu (T:=T) k0 c;rw[hmm]at hmo;have hl:=zdn pre k0 a0 t0;have hll:(Zac (pre++[(k0,t0,a0)])).length=pre.length+1:=by simp
 have hl2:=zdn pre k0 a0 (t0++[c]);have hll2:(Zac (pre++[(k0,t0++[c],a0)])).length=pre.length+1:=by simp
 have hset:=z0g pre k0 a0 t0 (t0++[c]);have hwp:IntKind.wrap .i64 (pre.length:Int)=(pre.length:Int):=zab _ (by omega);have hlt:(pre.length:Int)<(pre.length:Int)+1:=by omega
 have had':(a0:Int)+t0.length=i:=by omega
 have hm:=zhv (T:=T) k0;have hal:(pre++[(k0,t0,a0)]).length=pre.length+1:=by simp
 have hal2:(pre++[(k0,t0++[c],a0)]).length=pre.length+1:=by simp
 have hcl:t0.length+1<=9223372036854775807:=by omega
 unfold Zdp Zgs;rw[hal,hal2];have g3:=zeu (pre++[(k0,t0++[c],a0)]);have g4:=zg4 (pre++[(k0,t0++[c],a0)]);obtain⟨hx1,hgE⟩:=Yc.1 hl;obtain⟨hx2,hgE2⟩:=Yc.1 hl2;refine⟨fun hq=>?_,fun hq=>?_⟩
 ·have hq2:¬ ((Za5 k0:Nat):Int)<(t0.length:Int)+1:=by omega
  simp -implicitDefEqProofs[l168_0,h0,hc,hw,hwi,c35,c10,c32,c9,c13,hm,b1,b2,hz,hmo,hll,hll2,hset,hwp,hlt,hgE,hgE2,had',hcl,hq2,g3]
 ·have hq2:((Za5 k0:Nat):Int)<(t0.length:Int)+1:=by omega
  constructor<;>simp -implicitDefEqProofs[l168_0,h0,hc,hw,hwi,c35,c10,c32,c9,c13,hm,b1,b2,hz,hmo,hll,hll2,hset,hwp,hlt,hgE,hgE2,had',hcl,hq2]
def z0h(s:List UInt8)(hs:s.length<=4000):∀y:Nat×Bool×List Wd,(y.1<=s.length/\y.2.2.length<=y.1/\(∀k t a,y.2.2.getLast? = some (k,t,a)->a+t.length<=y.1/\¬ k=0)) ->
  Ze T 0 0 (.norm false [4]) l168_0 (Zdp s y.1 y.2.1 y.2.2)=Zgs (Zgd (s.drop y.1) y.1 y.2.1 y.2.2):=by
 refine za4 (fun y:Nat×Bool×List Wd=>Zdp s y.1 y.2.1 y.2.2) (fun y=>y.1<=s.length/\y.2.2.length<=y.1/\(∀k t a,y.2.2.getLast? = some (k,t,a)->a+t.length<=y.1/\¬ k=0)) (fun y=>s.length-y.1) (fun y=>Zgs (Zgd (s.drop y.1) y.1 y.2.1 y.2.2)) ?_
 rintro⟨i,note,acc⟩ ⟨hi,ha,he⟩
 by_cases h0:i<s.length
 ·obtain⟨c,hc⟩:∃c,s[i]'h0=c:=⟨_,rfl⟩;have hd:s.drop i=c::s.drop (i+1):=by rw[Yg h0,hc]
  by_cases hsk:((if c=35 then true else if c=10 then false else note) || isB c)=true
  ·left;refine⟨(i+1,(if c=35 then true else if c=10 then false else note),acc),⟨h0,by grind,fun k t a h=>by
    grind⟩,by omega,z0d s hs i h0 note acc ha c hc hsk,?_⟩
   grind[Zgd]
  ·have hsk':=hsk;simp only[Yb1,not_or,Ycr]at hsk';obtain⟨h1,h2⟩:=hsk';have n35:c≠35:=fun e=>by grind
   have n10:c≠10:=fun e=>by subst e;simp[isB]at h2
   have hnote:note=false:=by grind
   subst hnote;have hB:¬ c=32/\¬ c=9/\¬ c=13:=by
    grind[isB]
   have c35:¬ c.toNat=35:=z0b (n:=35) (by decide) n35;have c10:¬ c.toNat=10:=z0b (n:=10) (by decide) n10;have c32:¬ c.toNat=32:=z0b (n:=32) (by decide) hB.1;have c9:¬ c.toNat=9:=z0b (n:=9) (by decide) hB.2.1;have c13:¬ c.toNat=13:=z0b (n:=13) (by decide) hB.2.2;have hR:Zgd (s.drop i) i false acc=if Zga (Zd0 c i acc)=true then .error i else Zgd (s.drop (i+1)) (i+1) false (Zd0 c i acc):=by
    grind[Zgd]
   rw[hR];have hmp:=zfj (Zn c);rcases List.eq_nil_or_concat acc with rfl | ⟨pre,⟨k0,t0,a0⟩,rfl⟩
   ·have hs1:Zd0 c i []=[(Zn c,[c],i)]:=rfl;have hb1:Zga [(Zn c,[c],i)]=decide (Zn c=0):=by
     simp[Zga];omega
    rw[hs1,hb1];by_cases hk:Zn c=0
    ·grind[znf]
    ·left;rw[decide_eq_false hk,if_neg (by decide)];refine⟨(i+1,false,[(Zn c,[c],i)]),⟨h0,by simp,fun k t a h=>by
      grind⟩,by omega,z0e (T:=T) s hs i h0 c hc c35 c10 c32 c9 c13 (Zn c) rfl hk,rfl⟩
   ·rw[List.concat_eq_append]at he ha ⊢;obtain⟨e1,e2⟩:=he k0 t0 a0 (by simp);have hp:pre.length<i:=by
     grind
    by_cases hadj:a0+t0.length=i/\Zbp k0 c=true
    ·have hs1:Zd0 c i (pre++[(k0,t0,a0)])=pre++[(k0,t0++[c],a0)]:=by simp[Zd0,hadj.1,hadj.2]
     have hb1:Zga (pre++[(k0,t0++[c],a0)])=decide (Za5 k0<t0.length+1):=by simp[Zga,e2]
     rw[hs1,hb1];obtain⟨x1,x2⟩:=z4i (T:=T) s hs i h0 c hc c35 c10 c32 c9 c13 pre hp k0 a0 t0 hadj.1 hadj.2 e2;by_cases hq:Za5 k0<t0.length+1
     ·grind
     ·left;rw[decide_eq_false hq,if_neg (by decide)];refine⟨(i+1,false,pre++[(k0,t0++[c],a0)]),⟨h0,by grind,fun k t a h=>by
       grind⟩,by omega,x1 (by omega),rfl⟩
    ·have hs1:Zd0 c i (pre++[(k0,t0,a0)])=pre++[(k0,t0,a0)]++[(Zn c,[c],i)]:=by
      unfold Zd0
      grind
     have hb1:Zga (pre++[(k0,t0,a0)]++[(Zn c,[c],i)])=decide (Zn c=0):=by
      simp[Zga];omega
     rw[hs1,hb1];by_cases hk:Zn c=0
     ·grind[zng]
     ·left;rw[decide_eq_false hk,if_neg (by decide)];refine⟨(i+1,false,pre++[(k0,t0,a0)]++[(Zn c,[c],i)]),⟨h0,by grind,fun k t a h=>by
       grind⟩,by omega,z0f (T:=T) s hs i h0 c hc c35 c10 c32 c9 c13 pre hp k0 a0 t0 e1 hadj (Zn c) rfl hk,rfl⟩
 ·right;have hi2:i=s.length:=by omega
  subst hi2;rw[Yw];have er:Zgd [] s.length note acc=.ok acc:=rfl;rw[er];simp only[Zgs,Zdp];have g1:=zeu acc;have g2:=zg4 acc;have g3:=zfb acc;generalize Zac acc=RW at *
  generalize acc.length=m at *
  constructor<;>simp -implicitDefEqProofs[l168_0,g1]
def Zh7(r:Except Nat (List Wd)):AV:=
 match r with
 | .ok ws=>.tup [.sl (Zac ws) .an,.i .i64 (-1)]
 | .error e=>.tup [.sl [] .an,.i .i64 e]
def zvv(s:List UInt8)(hs:s.length<=1000000):Za T 168 [.s s]=some (Zh7 (Zla s)):=by
 rw[zaa Za7.h168 rfl,b168];unfold Zla;by_cases h1:4000<s.length
 ·have h1':(4000:Int)<s.length:=by omega
  rw[if_pos h1];simp -implicitDefEqProofs[Zh7,h1']
 ·have h1':¬ (4000:Int)<s.length:=by omega
  rw[if_neg h1];have h:=z0h (T:=T) s (by omega) (0,false,[]) ⟨Yv _,Ye _,fun k t a h=>by grind⟩;simp only[Y6]at h;rw[z14]at h;have e0:Zac []=[]:=rfl;simp only[Zdp,e0,Yah,Yp]at h;cases hr:Zei (s.drop (Zbz false s)) (Zbz false s) []with
  | ok ws=>
   rw[hr]at h;simp only[Zgs]at h;have g1:=zeu ws;have g3:=zfb ws;simp only[Zh7];generalize Zac ws=RW at *
   generalize ws.length=m at *
   have ht:List.take m RW=RW:=Ya (by omega);simp -implicitDefEqProofs[h1',h,g1,ht,g3]
  | error e=>
   rw[hr]at h;simp only[Zgs]at h;simp -implicitDefEqProofs[Zh7,h1',h]
end
def zpw:∀(n:Nat) (l:List UInt8) (i:Nat) (acc ws:List Wd),l.length=n->Zei l i acc=.ok ws->∃r,ws=acc++r:=by
 intro n
 induction n using Nat.strongRecOn with
 | _ n ih=>
  intro l i acc ws hl h;cases l with
  | nil=>rw[zhf]at h;cases h;exact⟨[],by simp⟩
  | cons c r=>
   rw[zh5]at h;split at h
   ·cases h
   ·split at h
    ·cases h
    ·obtain⟨r',hr'⟩:=ih _ (by simp only[Ybv,Yr]at hl ⊢;omega) _ _ _ _ rfl h;exact⟨_,by rw[hr',Ybk]⟩
def Zhr(k:Int)(t:List UInt8):Except Nat (List Wd)->Bool
 | .ok [(k',t',_)]=>decide ((k':Int)=k)&&decide (t'=t)
 | _=>false
def z0i(k:Nat)(r:List UInt8):1<=Zab k r/\Zab k r<=r.length+1:=by
 unfold Zab;have:=(List.takeWhile_sublist (Zbp k) (l:=r)).length_le;omega
def zvw(k:Int)(t:List UInt8)(ht:t.length<=4000):Zhr k t (Zla t)=Zbu k t:=by
 unfold Zla;rw[if_neg (by omega)];cases t with
 | nil=>simp[Zbz,zhf,Zhr,Zbu]
 | cons c r=>
  simp only[Yr]at ht;by_cases hsk:Zbz false (c::r)=0
  ·rw[hsk,Y6,zh5];obtain⟨f1,f2⟩:=z0i (Zn c) r;by_cases hk:Zn c=0
   ·rw[if_pos hk];simp only[Zhr,Zbu,hk];by_cases hk0:k=0
    ·simp[hk0]
    ·have:¬ (0:Int)=k:=fun h=>hk0 h.symm;simp[this]
   ·rw[if_neg hk];by_cases hm:Za5 (Zn c)<Zab (Zn c) r
    ·rw[if_pos hm];simp only[Zhr,Zbu];by_cases hfl:Zab (Zn c) r=r.length+1
     ·have:¬ r.length+1<=Za5 (Zn c):=by omega
      simp[this]
     ·simp[hfl]
    ·rw[if_neg hm,Yau];by_cases hfl:Zab (Zn c) r=r.length+1
     ·have e1:r.drop (Zab (Zn c) r-1)=[]:=by
       rw[hfl];exact Yey (by omega)
      have e2:(c::r).take (Zab (Zn c) r)=c::r:=by
       rw[hfl];exact Ya (by simp)
      rw[e1,e2];simp only[Zbz,List.drop_nil,zhf,Zhr,Zbu,hfl];have:r.length+1<=Za5 (Zn c):=by omega
      by_cases hkk:(Zn c:Int)=k
      ·have hk0:k≠0:=by omega
       simp[hkk,hk0,this]
      ·simp[hkk]
     ·have hfalse:Zbu k (c::r)=false:=by simp[Zbu,hfl]
      rw[hfalse];generalize hws:Zei ((r.drop (Zab (Zn c) r-1)).drop (Zbz false (r.drop (Zab (Zn c) r-1)))) (0+Zab (Zn c) r+Zbz false (r.drop (Zab (Zn c) r-1))) [(Zn c,(c::r).take (Zab (Zn c) r),0)]=res;cases res with
      | error e=>rfl
      | ok ws=>
       obtain⟨x,hx⟩:=zpw _ _ _ _ _ rfl hws;rw[hx];cases x with
       | nil=>
        simp only[Ya9,Zhr];have hne:¬ (c::r).take (Zab (Zn c) r)=c::r:=fun h=>by
         have:=congrArg List.length h;rw[Y3,Yr]at this;omega
        rw[decide_eq_false hne,Yfd]
       | cons y x=>rfl
  ·have hle:=zts false (c::r);have hk:Zn c=0\/isB c=true\/c=35:=by
    right;by_cases hb:((if c=35 then true else if c=10 then false else false) || isB c)=true
    ·by_cases h35:c=35
     ·exact .inr h35
     ·simp[h35]at hb;exact .inl hb
    ·exfalso;apply hsk;simp only[Zbz];rw[if_neg hb]
   have hk0:Zn c=0:=by
    rcases hk with h | h | h
    ·exact h
    ·simp only[isB,Yb1,decide_eq_true_eq]at h;rcases h with ((rfl | rfl) | rfl) | rfl<;>decide
    ·subst h;decide
   have hr:Zbu k (c::r)=false:=by
    simp only[Zbu,hk0];by_cases hk0:k=0
    ·simp[hk0]
    ·have:¬ (0:Int)=k:=fun h=>hk0 h.symm;simp[this]
   rw[hr]
   -- every word is shorter than the text
   have key:∀(l:List UInt8) (i:Nat),l.length<(c::r).length->Zhr k (c::r) (Zei l i [])=false:=by
    intro l i hl;cases l with
    | nil=>rw[zhf];rfl
    | cons d q=>
     rw[zh5];split
     ·rfl
     ·split
      ·rfl
      ·generalize hws:Zei ((q.drop (Zab (Zn d) q-1)).drop (Zbz false (q.drop (Zab (Zn d) q-1)))) (i+Zab (Zn d) q+Zbz false (q.drop (Zab (Zn d) q-1))) ([]++[(Zn d,(d::q).take (Zab (Zn d) q),i)])=res;cases res with
       | error e=>rfl
       | ok ws=>
        obtain⟨x,hx⟩:=zpw _ _ _ _ _ rfl hws;rw[hx];cases x with
        | nil=>
         simp only[Yau,Ya9,Zhr];have hne:¬ (d::q).take (Zab (Zn d) q)=c::r:=fun h=>by
          have:=congrArg List.length h;rw[Y3]at this;omega
         rw[decide_eq_false hne,Yfd]
        | cons y x=>rfl
   exact key _ _ (by rw[Ybv];omega)
section
variable{T:Tbl}[Za7 T]
def zrk(k a:Int)(t:List UInt8)(ht:t.length<=4000):Za T 173 [.agg [.i .i64 k,.s t,.i .i64 a]]=some (.b (Zbu k t)):=by
 have c:=zvv (T:=T) t (by omega);rw[<-zvw k t ht,zaa Za7.h173 rfl,b173];cases hr:Zla t with
 | error e=>
  rw[hr]at c;simp only[Zh7]at c;have he:¬ (e:Int)<0:=by omega
  simp -implicitDefEqProofs[c,Zhr,he]
 | ok ws=>
  rw[hr]at c;simp only[Zh7]at c
  match ws with
  | []=>
   have e0:Zac []=[]:=rfl;rw[e0]at c;simp -implicitDefEqProofs[c,Zhr]
  | [(k',t',a')]=>
   have e1:Zac [(k',t',a')]=[[.i .i64 k',.s t',.i .i64 a']]:=rfl;rw[e1]at c;by_cases hk:(k':Int)=k
   ·by_cases htt:t'=t
    ·simp -implicitDefEqProofs[c,Zhr,hk,htt]
    ·simp -implicitDefEqProofs[c,Zhr,hk,htt]
   ·simp -implicitDefEqProofs[c,Zhr,hk]
  | w1::w2::r=>
   have hl:(Zac (w1::w2::r)).length=r.length+2:=by simp
   have hne:¬ ((r.length:Int)+2=1):=by omega
   have hne':¬ (r.length+2=1):=by omega
   have g1:=zeu (w1::w2::r);have hone:Zhr k t (.ok (w1::w2::r))=false:=rfl;rw[hone];generalize Zac (w1::w2::r)=RW at *
   generalize r.length=m at *
   simp -implicitDefEqProofs[c,hl,hne,hne',g1]
end
theorem zmd{x:Fz}(h:Zbn x=true):x=fz (fv x):=by
 grind[Zbn,Zbv]
def z4n{l:List Fz}(h:l.all Zbn=true):l=fzs (l.map fv):=by
 unfold fzs
 conv=>lhs;rw[<-List.map_id l]
 grind[List.map_congr_left,zmd]
def z4o(l:List Rat)(i:Nat)(h:i<l.length):sumF ((fzs l).take (i+1))=sumF ((fzs l).take i)+l[i]'h:=by
 have h':i<(fzs l).length:=by simp_all
 rw[zkm (fzs l) h'];simp[fzs]
section
variable{T:Tbl}[Zz T][Z8 T][Zx T][Zae T][Zw T][Zag T][Zq T][Z9 T][Zc3 T][Zc6 T]
def Zjo(l:List Fz)(i:Nat):St:=⟨[(0,.sl (Zb l) .an),(3,.i .i64 i)],[],2⟩
def zv0(l:List Fz)(hl:l.length<=1000)(hw:∀x∈l,fsz x<=10000) :
  Ze T 0 0 (.norm false []) l540_0 (Zjo l 0)=if (l.drop 0).all Zbn=true then some (.n,⟨[],[],2⟩) else some (.r,⟨[(2,.b true)],[],2⟩):=by
 refine zap (Zjo l) l.length (fun i=>if (l.drop i).all Zbn=true then some (.n,⟨[],[],2⟩) else some (.r,⟨[(2,.b true)],[],2⟩)) (fun i hi=>?_) ?_
 ·have hi':(i:Int)<l.length:=by omega
  have hws:=zaw hi (by omega);have hx:=hw _ (Yi hi);have c1:=za8 (T:=T) (l[i]'hi) hx;have c2:=zcw (T:=T) (fz (fv (l[i]'hi))) (l[i]'hi) (by exact za2 hx (by decide));have c3:=zmf (T:=T) (l[i]'hi) hx;have key:(l.drop i).all Zbn=(Zbn (l[i]'hi)&&(l.drop (i+1)).all Zbn):=by rw[Yg hi,Ybj]
  have hn:Zbn (l[i]'hi)=(Zbv (l[i]'hi)&&decide (Zcs (l[i]'hi)<=190)):=rfl;have hr:decide (fz (fv (l[i]'hi))=l[i]'hi)=Zbv (l[i]'hi):=by grind[Zbv]
  rw[hr]at c2;by_cases h1:Zbv (l[i]'hi)=true
  ·by_cases h2:Zcs (l[i]'hi)<=190
   ·left;refine⟨?_,by grind⟩;have h3:¬ (190:Int)<Zcs (l[i]'hi):=by omega
    unfold Zjo;simp -implicitDefEqProofs[l540_0,hi,hi',hws,c1,c2,c3,h1,h3]
   ·right;have h3:(190:Int)<Zcs (l[i]'hi):=by omega
    rw[if_neg (by grind)];unfold Zjo;constructor<;>simp -implicitDefEqProofs[l540_0,hi,hi',c1,c2,c3,h1,h3]
  ·right;have h1':Zbv (l[i]'hi)=false:=by grind
   rw[if_neg (by grind)];unfold Zjo;constructor<;>simp -implicitDefEqProofs[l540_0,hi,hi',c1,c2,h1']
 ·simp only[Yw,Ycw,if_true];unfold Zjo;constructor<;>simp -implicitDefEqProofs[l540_0]
def zha(l:List Fz)(hl:l.length<=1000)(hw:∀x∈l,fsz x<=10000):Za T 540 [.sl (Zb l) .an]=some (.b (!l.all Zbn)):=by
 have h:=zv0 (T:=T) l hl hw;unfold Zjo at h;rw[zaa Zc6.h540 rfl,b540];cases hn:l.all Zbn with
 | true=>simp_all
 | false=>simp_all
def Zlf(l:List Rat)(i:Nat):St:=⟨[(0,.sl (Zb (fzs l)) .an),(2,.ptr (.loc 2) 1 3 0 0),(3,.ptr (.loc 3) 2 3 0 0),(4,.i .i64 i)],
 [(.loc 2,⟨1,.str,3,[Zfb]⟩),(.loc 3,⟨2,.str,3,[Zau (fz (sumF ((fzs l).take i)))]⟩)],4⟩
def zv1(l:List Rat){B:Nat}(hw:∀x∈l,sz x<=B)(hB:1<=B)(hS:l.length*(B+1)+1<=1000) :
  Ze T 0 0 (.norm false [2,3]) l541_0 (Zlf l 0)=some (.n,⟨[(2,.ptr (.loc 2) 1 3 0 0),(3,.ptr (.loc 3) 2 3 0 0)],[(.loc 2,⟨1,.str,3,[Zfb]⟩),(.loc 3,⟨2,.str,3,[Zau (fz (sumF (fzs l)))]⟩)],4⟩):=by
 refine zag (Zlf l) l.length _ (fun i hi=>?_) ?_
 ·have hlen:l.length*1<=1000:=Yd (Yaq _ (show 1<=B+1 by omega)) (by omega);have hBB:B+1<=1000:=Yd (Ybn _ (show 0<l.length by omega)) (by omega);have hi2:i<(fzs l).length:=by simp_all
  have hga:(fzs l)[i]? = some (fz (l[i]'hi)):=by simp[fzs,hi]
  have hi':(i:Int)<(fzs l).length:=by omega
  have hws:=zaw hi (by omega);have ha1:=hw _ (Yi hi);have hw':∀x∈fzs l,fsz x<=B:=by
   intro x hx;obtain⟨q,hq,rfl⟩:=Yl.1 hx;rw[zax];grind
  have s1:=zkn hw' hB i (by omega);have s2:i*(B+1)<=l.length*(B+1):=Yaa _ (by omega);have c2:=zcx (T:=T) (sumF ((fzs l).take i)) (l[i]'hi) (by omega) (by omega);rw[<-z4o l i hi]at c2;have hge:(fzs l)[i]'hi2=fz (l[i]'hi):=by grind
  unfold Zlf;generalize fzs l=L at *
  simp -implicitDefEqProofs[l541_0,hi',hi2,hge,hws,c2]
 ·unfold Zlf;rw[Ya (by simp_all)];constructor<;>simp -implicitDefEqProofs[l541_0]
def z0o(l:List Rat){B:Nat}(hw:∀x∈l,sz x<=B)(hB:1<=B)(hS:l.length*(B+1)+1<=1000) :
  Za T 541 [.sl (Zb (fzs l)) .an]=some (efz (fz (sumF (fzs l)))):=by
 have h0:=zfx (T:=T);have h:=zv1 (T:=T) l hw hB hS;unfold Zlf at h;have e0:sumF ((fzs l).take 0)=0:=rfl;rw[e0]at h;simp only[Yp]at h;rw[zaa Zc6.h541 rfl,b541];simp -implicitDefEqProofs[h0,h]
def zf1(l:List Fz)(hl:l.length<=8)(hn:l.all Zbn=true):Za T 541 [.sl (Zb l) .an]=some (efz (fz (sumF l))):=by
 have e:=z4n hn;have c:=z0o (T:=T) (l.map fv) (B:=6) (fun q hq=>by
  obtain⟨x,hx,rfl⟩:=Yl.1 hq;exact za2 (zgn (Yo.1 hn x hx)) (by decide)) (by decide) (by grind)
 grind
end
def zkh{p q:Rat}:fz p=fz q↔p=q:=⟨fun h=>by have:=congrArg fv h;rwa [zb6,zb6]at this,fun h=>by rw[h]⟩
section
variable{T:Tbl}[Zz T][Z8 T][Zx T][Zae T][Zw T][Zag T][Zq T][Z9 T][Zc3 T][Za7 T][Zc6 T]
def Zkb(s:Sm)(i:Nat):St:=⟨[(1,.ptr (.loc 1) 1 5 0 0),(3,.i .i64 s.b.length),(4,.i .i64 i)],[(.loc 1,bxS s)],3⟩
def z0p(s:Sm)(hl:s.b.length<=8)(ha:s.a.length=s.b.length) :
  Ze T 0 0 (.norm false [1,3]) l529_0 (Zkb s 0)=if Zbc (s.a.drop 0) 0=true then some (.n,⟨[(1,.ptr (.loc 1) 1 5 0 0),(3,.i .i64 s.b.length)],[(.loc 1,bxS s)],3⟩) else some (.r,⟨[(2,.i .i64 2)],[],2⟩):=by
 refine zap (Zkb s) s.a.length (fun i=>if Zbc (s.a.drop i) i=true then some (.n,⟨[(1,.ptr (.loc 1) 1 5 0 0),(3,.i .i64 s.b.length)],[(.loc 1,bxS s)],3⟩) else some (.r,⟨[(2,.i .i64 2)],[],2⟩)) (fun i hi=>?_) ?_
 ·have hib:i<s.b.length:=by omega
  have hib':(i:Int)<s.b.length:=by omega
  have hia':(i:Int)<s.a.length:=by omega
  have hws:=zaw hi (by omega);have key:Zbc (s.a.drop i) i=(decide ((s.a[i]'hi).length=i)&&Zbc (s.a.drop (i+1)) (i+1)):=by rw[Yg hi,Zbc]
  by_cases hr:(s.a[i]'hi).length=i
  ·left;refine⟨?_,by grind⟩;unfold Zkb bxS;simp -implicitDefEqProofs[l529_0,hi,hib',hia',hws,hr]
  ·right;have hr':¬ ((s.a[i]'hi).length:Int)=i:=by omega
   rw[if_neg (by grind)];unfold Zkb bxS;constructor<;>simp -implicitDefEqProofs[l529_0,hi,hib',hia',hr']
 ·have e:Zbc [] s.a.length=true:=rfl;simp only[Yw,e,if_true];unfold Zkb bxS;have hx:¬ (s.a.length:Int)<s.b.length:=by omega
  have hx2:¬ s.a.length<s.b.length:=by omega
  constructor<;>simp -implicitDefEqProofs[l529_0,ha]
def Zkc(s:Sm)(i:Nat):St:=⟨[(1,.ptr (.loc 1) 1 5 0 0),(3,.i .i64 s.b.length),(5,.i .i64 i)],[(.loc 1,bxS s)],3⟩
def z0q(s:Sm)(hl:s.b.length<=8)(ha:s.a.length=s.b.length)(hw:∀r∈s.a,r.length<=1000/\∀x∈r,fsz x<=10000) :
  Ze T 0 2 (.norm false [1,3]) l529_1 (Zkc s 0)=if Zdb (s.a.drop 0)=true then some (.n,⟨[(1,.ptr (.loc 1) 1 5 0 0),(3,.i .i64 s.b.length)],[(.loc 1,bxS s)],3⟩) else some (.r,⟨[(2,.i .i64 3)],[],2⟩):=by
 refine zap (Zkc s) s.a.length (fun i=>if Zdb (s.a.drop i)=true then some (.n,⟨[(1,.ptr (.loc 1) 1 5 0 0),(3,.i .i64 s.b.length)],[(.loc 1,bxS s)],3⟩) else some (.r,⟨[(2,.i .i64 3)],[],2⟩)) (fun i hi=>?_) ?_
 ·have hib:i<s.b.length:=by omega
  have hib':(i:Int)<s.b.length:=by omega
  have hia':(i:Int)<s.a.length:=by omega
  have hws:=zaw hi (by omega);obtain⟨g1,g2⟩:=hw _ (Yi hi);have cb:=zha (T:=T) (s.a[i]'hi) g1 g2;have key:Zdb (s.a.drop i)=((s.a[i]'hi).all Zbn&&Zdb (s.a.drop (i+1))):=by grind[Zdb,List.drop_eq_getElem_cons]
  by_cases hr:(s.a[i]'hi).all Zbn=true
  ·left;rw[hr]at cb;refine⟨?_,by grind⟩;unfold Zkc bxS;simp -implicitDefEqProofs[l529_1,hi,hib',hia',hws,cb]
  ·right;have hr':(s.a[i]'hi).all Zbn=false:=(Ycr _).mp hr;rw[hr']at cb;rw[if_neg (by grind)];unfold Zkc bxS;constructor<;>simp -implicitDefEqProofs[l529_1,hi,hib',hia',cb]
 ·have e:Zdb []=true:=rfl;simp only[Yw,e,if_true];unfold Zkc bxS;have hx:¬ (s.a.length:Int)<s.b.length:=by omega
  have hx2:¬ s.a.length<s.b.length:=by omega
  constructor<;>simp -implicitDefEqProofs[l529_1,ha]
def Zkd(s:Sm)(i:Nat):St:=⟨[(1,.ptr (.loc 1) 1 5 0 0),(3,.i .i64 s.b.length),(6,.i .i64 i)],[(.loc 1,bxS s)],3⟩
def z0r(s:Sm)(hl:s.b.length<=8)(ha:s.a.length=s.b.length)(hc:s.c.length=s.b.length)(h1:∀r∈s.a,r.length<=8/\r.all Zbn=true)(h2:s.c.all Zbn=true) :
  Ze T 0 4 (.norm false [1]) l529_2 (Zkd s 0)=if Zcm (s.a.drop 0) (s.c.drop 0)=true then some (.n,⟨[(1,.ptr (.loc 1) 1 5 0 0)],[(.loc 1,bxS s)],3⟩) else some (.r,⟨[(2,.i .i64 4)],[],2⟩):=by
 refine zap (Zkd s) s.a.length (fun i=>if Zcm (s.a.drop i) (s.c.drop i)=true then some (.n,⟨[(1,.ptr (.loc 1) 1 5 0 0)],[(.loc 1,bxS s)],3⟩) else some (.r,⟨[(2,.i .i64 4)],[],2⟩)) (fun i hi=>?_) ?_
 ·have hic:i<s.c.length:=by omega
  have hib':(i:Int)<s.b.length:=by omega
  have hia':(i:Int)<s.a.length:=by omega
  have hic':(i:Int)<s.c.length:=by omega
  have hws:=zaw hi (by omega);obtain⟨g1,g2⟩:=h1 _ (Yi hi);have g3:=Yo.1 h2 _ (Yi hic);have c1:=zf1 (T:=T) (s.a[i]'hi) g1 g2;have z1:=zf4 g1 (fun x hx=>zgn (Yo.1 g2 x hx));have c2:=zcw (T:=T) (fz (sumF (s.a[i]'hi))) (s.c[i]'hic) (by rw[zax];omega);have hr3:=zmd g3;have hd:decide (fz (sumF (s.a[i]'hi))=s.c[i]'hic)=decide (sumF (s.a[i]'hi)=fv (s.c[i]'hic)):=by
   grind[zb6]
  rw[hd]at c2;have key:Zcm (s.a.drop i) (s.c.drop i)=(decide (sumF (s.a[i]'hi)=fv (s.c[i]'hic))&&Zcm (s.a.drop (i+1)) (s.c.drop (i+1))):=by
   grind[Zcm,List.drop_eq_getElem_cons,List.zip_cons_cons]
  generalize fz (sumF (s.a[i]'hi))=z at *
  by_cases he:sumF (s.a[i]'hi)=fv (s.c[i]'hic)
  ·left;refine⟨?_,by grind⟩;unfold Zkd bxS;simp -implicitDefEqProofs[l529_2,hi,hib',hia',hws,c1,c2,he,hic,hic']
  ·right;rw[if_neg (by grind)];unfold Zkd bxS;constructor<;>simp -implicitDefEqProofs[l529_2,hi,hib',hia',c1,c2,he,hic,hic']
 ·have e:Zcm [] (s.c.drop s.a.length)=true:=rfl;simp only[Yw,e,if_true];unfold Zkd bxS;have hx:¬ (s.a.length:Int)<s.b.length:=by omega
  have hx2:¬ s.a.length<s.b.length:=by omega
  constructor<;>simp -implicitDefEqProofs[l529_2,ha]
def zaos(b c e:List Fz):Zdb [b,c,e]=(b.all Zbn&&c.all Zbn&&e.all Zbn):=by
 grind[Zdb]
def zrn(s:Sm)(hs:SmS s):Za T 529 [esm s]=some (.i .i64 (Zfz s)):=by
 have o1:=zmc (T:=T);have c1:=zrk (T:=T) 2 0 s.nm (Yd hs.nm (by decide));have kb:=zha (T:=T) s.b hs.bl (fun x hx=>Yd (hs.b x hx) (by decide));have kc:=zha (T:=T) s.c hs.cl (fun x hx=>Yd (hs.c x hx) (by decide));have ke:=zha (T:=T) s.e hs.el (fun x hx=>Yd (hs.e x hx) (by decide));have ha:=fun r hr=>(show r.length<=1000/\∀x∈r,fsz x<=10000 from ⟨(hs.a r hr).1,fun x hx=>Yd ((hs.a r hr).2 x hx) (by decide)⟩);rw[zaa Zc6.h529 rfl,b529];unfold Zfz;cases g1:Zbu 2 s.nm with
 | false=>
  rw[g1]at c1;obtain⟨nm,c,a,b,e⟩:=s;generalize fz 1=z1 at *
  dsimp only at *
  simp -implicitDefEqProofs[c1]
 | true=>
 rw[g1]at c1;by_cases p1:s.b.length<1
 ·have q2:s.b=[]:=Ybd.1 (by omega);have hsh:Zch s=false:=by unfold Zch;grind
  rw[hsh];obtain⟨nm,c,a,b,e⟩:=s;subst q2;simp -implicitDefEqProofs[c1]
 have m2:¬ (s.b.length:Int)<1:=by omega
 by_cases p2:8<s.b.length
 ·have m3:(8:Int)<s.b.length:=by omega
  have hsh:Zch s=false:=by unfold Zch;grind
  rw[hsh];simp -implicitDefEqProofs[c1,m2,m3]
 have p2':s.b.length<=8:=by omega
 have m3:¬ (8:Int)<s.b.length:=by omega
 by_cases p3:s.c.length=s.b.length
 rotate_left
 ·have q3:¬ (s.c.length:Int)=s.b.length:=by omega
  have hsh:Zch s=false:=by unfold Zch;grind
  rw[hsh];simp -implicitDefEqProofs[c1,m2,m3,q3]
 by_cases p4:s.a.length=s.b.length
 rotate_left
 ·have q4:¬ (s.a.length:Int)=s.b.length:=by omega
  have hsh:Zch s=false:=by unfold Zch;grind
  rw[hsh];simp -implicitDefEqProofs[c1,m2,m3,p3,q4]
 by_cases p5:s.e.length=s.b.length\/s.e.length=0
 rotate_left
 ·have q5:¬ (s.e.length:Int)=s.b.length:=by omega
  have q7:¬ s.e=[]:=fun h=>p5 (.inr (by grind));have hsh:Zch s=false:=by
   grind[Zch]
  rw[hsh];simp -implicitDefEqProofs[c1,m2,m3,p3,p4,q5,q7]
 -- the shapes are right as far as lengths go
 have hsh:Zch s=Zbc s.a 0:=by
  grind[Zch]
 have h0:=z0p (T:=T) s p2' p4;have h1:=z0q (T:=T) s p2' p4 ha;have h2:=fun g1 g2=>z0r (T:=T) s p2' p4 p3 g1 g2;rw[hsh];unfold Zkb bxS at h0;unfold Zkc bxS at h1;unfold Zkd bxS at h2;rw[Y6]at h0 h1 h2;rw[Y6]at h2;simp only[Yp]at h0 h1 h2;have hm:=zaos s.b s.c s.e;have m6:¬ s.b=[]:=fun h=>by grind
 rcases p5 with p5 | p5
 ·have q6:¬ s.e=[]:=fun h=>by grind
  have q7:0<s.b.length:=by omega
  cases hq:Zbc s.a 0 with
  | false=>
   rw[hq]at h0;simp -implicitDefEqProofs[c1,m2,m3,p3,p4,p5,m6,h0]
  | true=>
  rw[hq]at h0;cases hna:Zdb s.a with
  | false=>
   rw[hna]at h1;simp -implicitDefEqProofs[c1,m2,m3,p3,p4,p5,m6,h0,h1]
  | true=>
  rw[hna]at h1;cases hnb:s.b.all Zbn with
  | false=>
   rw[hnb]at kb;rw[hnb]at hm;simp -implicitDefEqProofs[c1,m2,m3,p3,p4,p5,m6,h0,h1,kb,hm]
  | true=>
  rw[hnb]at kb;rw[hnb]at hm;cases hnc:s.c.all Zbn with
  | false=>
   rw[hnc]at kc;rw[hnc]at hm;simp -implicitDefEqProofs[c1,m2,m3,p3,p4,p5,m6,h0,h1,kb,kc,hm]
  | true=>
  rw[hnc]at kc;rw[hnc]at hm;cases hne:s.e.all Zbn with
  | false=>
   rw[hne]at ke;rw[hne]at hm;simp -implicitDefEqProofs[c1,m2,m3,p3,p4,p5,m6,h0,h1,kb,kc,ke,hm]
  | true=>
  rw[hne]at ke;rw[hne]at hm;have hna':=Yo.1 hna;have h2':=h2 (fun r hr=>⟨by have:=zf3 _ _ hq r hr;omega,hna' r hr⟩) hnc;have k6:=zf1 (T:=T) s.b p2' hnb;have z6:=zf4 p2' (fun x hx=>zgn (Yo.1 hnb x hx));have d6:=zcw (T:=T) (fz (sumF s.b)) (fz 1) (by rw[zax];omega);have k7:=zf1 (T:=T) s.e (by omega) hne;have z7:=zf4 (l:=s.e) (by omega) (fun x hx=>zgn (Yo.1 hne x hx));have d7:=zcw (T:=T) (fz (sumF s.e)) (fz 1) (by rw[zax];omega);have i7:decide (fz (sumF s.e)=fz 1)=decide (sumF s.e=1):=by rw[decide_eq_decide];exact zkh
  rw[i7]at d7;have i6:decide (fz (sumF s.b)=fz 1)=decide (sumF s.b=1):=by rw[decide_eq_decide];exact zkh
  rw[i6]at d6;cases hrw:Zcm s.a s.c with
  | false=>
   rw[hrw]at h2';simp -implicitDefEqProofs[c1,m2,m3,p3,p4,p5,m6,h0,h1,kb,kc,ke,hm,h2']
  | true=>
  rw[hrw]at h2';generalize fz (sumF s.b)=zb at *
  generalize fz (sumF s.e)=ze at *
  by_cases g6:sumF s.b=1
  ·by_cases g8:sumF s.e=1
   ·dsimp only at *
    simp -implicitDefEqProofs[c1,m2,m3,p3,p4,p5,q6,q7,m6,h0,h1,kb,kc,ke,hm,h2',o1,k6,d6,g6,k7,d7,g8]
   ·dsimp only at *
    simp -implicitDefEqProofs[c1,m2,m3,p3,p4,p5,q6,q7,m6,h0,h1,kb,kc,ke,hm,h2',o1,k6,d6,g6,k7,d7,g8]
  ·dsimp only at *
   simp -implicitDefEqProofs[c1,m2,m3,p3,p4,p5,m6,h0,h1,kb,kc,ke,hm,h2',o1,k6,d6,g6]
 ·have e0:s.e=[]:=Ybd.1 p5;rw[e0]at ke;rw[<-e0]at ke;cases hq:Zbc s.a 0 with
  | false=>
   rw[hq]at h0;obtain⟨nm,c,a,b,e⟩:=s;subst e0;simp only[zay]at *
   simp -implicitDefEqProofs[c1,m2,m3,p3,p4,h0]
  | true=>
  rw[hq]at h0;cases hna:Zdb s.a with
  | false=>
   rw[hna]at h1;obtain⟨nm,c,a,b,e⟩:=s;subst e0;simp only[zay]at *
   simp -implicitDefEqProofs[c1,m2,m3,p3,p4,h0,h1]
  | true=>
  rw[hna]at h1;cases hnb:s.b.all Zbn with
  | false=>
   rw[hnb]at kb;rw[hnb]at hm;obtain⟨nm,c,a,b,e⟩:=s;subst e0;simp only[zay]at *
   simp -implicitDefEqProofs[c1,m2,m3,p3,p4,h0,h1,kb,hm]
  | true=>
  rw[hnb]at kb;rw[hnb]at hm;cases hnc:s.c.all Zbn with
  | false=>
   rw[hnc]at kc;rw[hnc]at hm;obtain⟨nm,c,a,b,e⟩:=s;subst e0;simp only[zay]at *
   simp -implicitDefEqProofs[c1,m2,m3,p3,p4,h0,h1,kb,kc,hm]
  | true=>
  rw[hnc]at kc;rw[hnc]at hm;cases hne:s.e.all Zbn with
  | false=>
   grind
  | true=>
  rw[e0]at ke hm;have hna':=Yo.1 hna;have h2':=h2 (fun r hr=>⟨by have:=zf3 _ _ hq r hr;omega,hna' r hr⟩) hnc;have k6:=zf1 (T:=T) s.b p2' hnb;have z6:=zf4 p2' (fun x hx=>zgn (Yo.1 hnb x hx));have d6:=zcw (T:=T) (fz (sumF s.b)) (fz 1) (by rw[zax];omega);have i6:decide (fz (sumF s.b)=fz 1)=decide (sumF s.b=1):=by rw[decide_eq_decide];exact zkh
  rw[i6]at d6;cases hrw:Zcm s.a s.c with
  | false=>
   rw[hrw]at h2';obtain⟨nm,c,a,b,e⟩:=s;subst e0;simp only[zay]at *
   simp -implicitDefEqProofs[c1,m2,m3,p3,p4,h0,h1,kb,kc,ke,hm,h2']
  | true=>
  rw[hrw]at h2';generalize fz (sumF s.b)=zb at *
  by_cases g6:sumF s.b=1
  ·obtain⟨nm,c,a,b,e⟩:=s;subst e0;simp only[zay]at *
   simp -implicitDefEqProofs[c1,m2,m3,p3,p4,h0,h1,kb,kc,ke,hm,h2',o1,k6,d6,g6]
  ·obtain⟨nm,c,a,b,e⟩:=s;subst e0;simp only[zay]at *
   simp -implicitDefEqProofs[c1,m2,m3,p3,p4,h0,h1,kb,kc,ke,hm,h2',o1,k6,d6,g6]
end
section
variable{T:Tbl}[Zz T][Z8 T][Zx T][Zae T][Zw T][Zag T][Zq T][Z9 T][Zc3 T][Za7 T][Zcg T][Zc6 T][Zdf T]
def zro(p:Pb)(hp:PbS p):Za T 508 [epb p]=some (.b (okP p)):=by
 have c1:=zrm (T:=T) p.t hp.t;have c2:=zrn (T:=T) p.s hp.s;unfold okP okT okS;rw[zaa Zdf.h508 rfl,b508];clear hp;generalize Zf1 p.t=A at *
 generalize Zfz p.s=B at *
 obtain⟨⟨code,outs,dim,par⟩,⟨nm,c,a,b,e⟩,pp,bits⟩:=p;dsimp only at *
 by_cases hA:A=-1
 ·subst hA;by_cases hB:B=0
  ·subst hB;by_cases h:(pp.length:Int)=par
   ·simp -implicitDefEqProofs[c1,c2,h]
   ·simp -implicitDefEqProofs[c1,c2,h]
  ·simp -implicitDefEqProofs[c1,c2,hB]
 ·simp -implicitDefEqProofs[c1,hA]
def zrp(p:Pb)(t:Fz)(y:List Fz)(hl:p.p.length<=1000)(hw:∀x∈p.p,fsz x<=1000):Za T 545 [epb p,efz t,.sl (Zb y) .an]=some (ept ⟨t,y,nrm p.p⟩):=by
 have c:=zd2 (T:=T) p.p hl hw;rw[zaa Zdf.h545 rfl,b545];clear hl hw;generalize nrm p.p=N at *
 obtain⟨⟨code,outs,dim,par⟩,⟨nm,c0,a,b,e⟩,pp,bits⟩:=p;obtain⟨t1,t2,t3⟩:=t;dsimp only at *
 simp -implicitDefEqProofs[c]
end
def Zhs(C:List Fz)(K:List (List Fz))(i:Nat)(h s:Fz)(k:Nat):St:=
 ⟨[(0,.sl (Zb C) .an),(1,.sl (Zd K) .an),(2,.i .i64 i),(7,.ptr (.loc 7) 1 3 0 0),(8,.ptr (.loc 8) 2 3 0 0),(9,.ptr (.loc 9) 3 3 0 0),(10,.i .i64 k)],
  [(.loc 7,⟨1,.str,3,[Zau h]⟩),(.loc 8,⟨2,.str,3,[[.b false,.sl [] .an,.sl [] .an]]⟩),(.loc 9,⟨3,.str,3,[Zau s]⟩)],5⟩
def Zlg(h s:Fz):St:=
 ⟨[(7,.ptr (.loc 7) 1 3 0 0),(8,.ptr (.loc 8) 2 3 0 0),(9,.ptr (.loc 9) 3 3 0 0)],
  [(.loc 7,⟨1,.str,3,[Zau h]⟩),(.loc 8,⟨2,.str,3,[[.b false,.sl [] .an,.sl [] .an]]⟩),(.loc 9,⟨3,.str,3,[Zau s]⟩)],5⟩
section
variable{T:Tbl}[Zz T][Z8 T][Zx T][Zae T][Zw T][Zag T][Zq T][Z9 T][Zc3 T][Zdo T][Zcy T][Zbb T][Z1 T]
def z4p(C:List Fz)(K:List (List Fz))(i k:Nat)(h s s2 c q v:Fz)(r:List Fz)(z:Bool)(hk:C[k]? = some c)(hr:K[k]? = some r)(hq:r[i]? = some q)(hl:C.length<=1000)
  (cz:Za T 235 [efz c]=some (.b z)) (cm:z=false->Za T 241 [efz c,efz q]=some (efz v)) (ca:z=false->Za T 239 [efz s,efz v]=some (efz s2)) (hs:z=true->s2=s) :
  evX (orc T) T 0 l557_0 (Zhs C K i h s k)=some (.n,Zhs C K i h s2 (k+1)):=by
 obtain⟨h1,h2⟩:=Yc.1 hk;obtain⟨h3,h4⟩:=Yc.1 hr;obtain⟨h5,h6⟩:=Yc.1 hq;have h1':(k:Int)<C.length:=by omega
 have h3':(k:Int)<K.length:=by omega
 have h5':(i:Int)<r.length:=by omega
 have hws:=zaw h1 (by omega);unfold Zhs;obtain⟨c0,c1,c2⟩:=c;obtain⟨q0,q1,q2⟩:=q;obtain⟨v0,v1,v2⟩:=v;obtain⟨s0,s1,s3⟩:=s
 try dsimp only at *
 cases z with
 | true=>
  rw[hs rfl];simp -implicitDefEqProofs[l557_0,hk,h1,h1',h2,hws,cz]
 | false=>
  have cm':=cm rfl;have ca':=ca rfl;obtain⟨t0,t1,t2⟩:=s2
  try dsimp only at *
  simp -implicitDefEqProofs[l557_0,hk,h1,h1',h2,hws,cz,cm',ca',hr,h3,h3',h4,hq,h5,h5',h6]
def zafa(C:List Fz)(K:List (List Fz))(i:Nat)(h s:Fz):Zb6 (evX (orc T) T 0 l557_0 (Zhs C K i h s C.length))=true /\
  Zbs 0 0 (.norm false [7,8,9]) (evX (orc T) T 0 l557_0 (Zhs C K i h s C.length))=some (.n,Zlg h s):=by
 unfold Zhs Zlg;constructor<;>simp -implicitDefEqProofs[l557_0]
def z0s(C:List Rat)(K:List (List Rat))(n i:Nat)(h:Rat)(hi:i<n)(hl:C.length=K.length)(hK:KOk n K)(hC:∀c∈C,sz c<=20)(hh:sz h<=20) :
  Za T 557 [.sl (Zb (fzs C)) .an,.sl (Zd (K.map fzs)) .an,.i .i64 i,efz (fz h)]=some (efz (fz (h*Zfe i ((fzs C).zip K) 0))):=by
 have c0:=zfx (T:=T);have hK3:=hK.len;have hCl:(fzs C).length=C.length:=zae C;have hszs:∀k,k<=C.length->sz (Zfe i (((fzs C).zip K).take k) 0)<=1+k*151:=by
  intro k
  induction k with
  | zero=>intro _;show sz 0<=_;rw[zh4];omega
  | succ k ih=>
   intro hk;have hz:k<((fzs C).zip K).length:=by rw[Ydq];omega
   rw[Y4 hz,zqc];have i1:=ih (by omega);have e1:((fzs C).zip K)[k]'hz=(fz (C[k]'(by omega)),K[k]'(by omega)):=by
    rw[List.getElem_zip];simp[fzs]
   rw[e1,zb6];have i2:=hC _ (Yi (show k<C.length by omega));have hr:=hK.row _ (Yi (show k<K.length by omega));have i3:=hK.sz _ (Yi (show k<K.length by omega)) ((K[k]'(by omega)).getD i 0) (by rw[za7 _ _ (by omega)];exact Yi _);have i4:=zd8 (C[k]'(by omega)) ((K[k]'(by omega)).getD i 0);have i5:=zez (Zfe i (((fzs C).zip K).take k) 0) ((C[k]'(by omega))*(K[k]'(by omega)).getD i 0);dsimp only;omega
 have hlo:Ze T 0 0 (.norm false [7,8,9]) l557_0 (Zhs (fzs C) (K.map fzs) i (fz h) (fz 0) 0)=some (.n,Zlg (fz h) (fz (Zfe i ((fzs C).zip K) 0))):=by
  have key:=zag (T:=T) (k:=0) (id:=0) (g2:=.norm false [7,8,9]) (c:=l557_0) (fun k=>Zhs (fzs C) (K.map fzs) i (fz h) (fz (Zfe i (((fzs C).zip K).take k) 0)) k) (fzs C).length
   (some (.n,Zlg (fz h) (fz (Zfe i ((fzs C).zip K) 0)))) (fun k hk=>?_) ?_
  ·exact key
  ·have hkC:k<C.length:=by omega
   have hkK:k<K.length:=by omega
   have hz:k<((fzs C).zip K).length:=by rw[Ydq];omega
   have hr:=hK.row _ (Yi hkK);have e1:((fzs C).zip K)[k]'hz=(fz (C[k]'hkC),K[k]'hkK):=by
    rw[List.getElem_zip];simp[fzs]
   have e2:Zfe i (((fzs C).zip K).take (k+1)) 0=Zfe i (((fzs C).zip K).take k) 0+C[k]'hkC*(K[k]'hkK)[i]'(by omega):=by
    rw[Y4 hz,zqc,e1,zb6,za7 (K[k]'hkK) 0 (by omega)]
   have s1:=hC _ (Yi hkC);have s2:=hK.sz _ (Yi hkK) _ (Yi (show i<(K[k]'hkK).length by omega));have s3:=hszs k (by omega);have s4:=zd8 (C[k]'hkC) ((K[k]'hkK)[i]'(by omega));rw[e2];refine z4p (T:=T) (fzs C) (K.map fzs) i k (fz h) _ _ (fz (C[k]'hkC)) (fz ((K[k]'hkK)[i]'(by omega))) (fz (C[k]'hkC*(K[k]'hkK)[i]'(by omega))) (fzs (K[k]'hkK)) _ (by simp[fzs,hkC]) (by simp[hkK]) (by simp[fzs,hr,hi]) (by omega)
    (zgl (T:=T) _) (fun _=>zfz (T:=T) _ _ (by omega) (by omega)) (fun _=>zcx (T:=T) _ _ (by omega) (by omega)) (fun hz=>?_)
   rw[of_decide_eq_true hz,Rat.zero_mul,Rat.add_zero]
  ·rw[Ya (by rw[Ydq];omega)];exact zafa (T:=T) _ _ _ _ _
 have cm:=zfz (T:=T) h (Zfe i ((fzs C).zip K) 0) (by omega) (by
  have:=hszs C.length (Ye _);rw[Ya (by rw[Ydq];omega)]at this;omega)
 generalize Zfe i ((fzs C).zip K) 0=S at *
 generalize fz (h*S)=V at *
 generalize fz S=S' at *
 generalize fz h=H at *
 generalize fz 0=Z at *
 unfold Zhs Zlg at hlo;rw[show (((0:Nat):Int))=0 from rfl]at hlo;generalize fzs C=CC at *
 generalize hKK:K.map fzs=KK at *
 obtain⟨s0,s1,s2⟩:=S';obtain⟨h0,h1,h2⟩:=H;obtain⟨v0,v1,v2⟩:=V;obtain⟨z0,z1,z2⟩:=Z
 try dsimp only at *
 rw[zaa Z1.h557 rfl,b557];simp -implicitDefEqProofs[c0,hlo,cm]
end
def Zkw(Y C:List Fz)(K:List (List Fz))(h:Fz)(R:List Fz)(i:Nat):St:=
 ⟨[(0,.sl (Zb Y) .an),(1,.sl (Zb C) .an),(2,.sl (Zd K) .an),(7,.ptr (.loc 7) 1 3 0 0),(9,.bs (.loc 9) 2 3 0 i),(10,.i .i64 i)],
  [(.loc 7,⟨1,.str,3,[Zau h]⟩),(.loc 9,⟨2,.own,3,Zb R⟩)],4⟩
def Znq(R:List Fz)(n:Nat):St:=⟨[(9,.bs (.loc 9) 1 3 0 n)],[(.loc 9,⟨1,.own,3,Zb R⟩)],3⟩
def Zd9(Y:List Fz)(lim i:Nat):St:=⟨[(0,.sl (Zb Y) .an),(1,.i .i64 lim),(5,.i .i64 i)],[],2⟩
def Zkx(s:Sm)(R:List Fz)(i:Nat):St:=
 ⟨[(1,.ptr (.loc 1) 1 5 0 0),(3,.bs (.loc 3) 2 3 0 i),(4,.i .i64 i)],[(.loc 1,⟨1,.str,5,[[.s s.nm,.sl (Zb s.c) .an,.sl (Zd s.a) .an,.sl (Zb s.b) .an,.sl (Zb s.e) .an]]⟩),(.loc 3,⟨2,.own,3,Zb R⟩)],4⟩
def Znr(R:List Fz)(n:Nat):St:=⟨[(3,.bs (.loc 3) 1 3 0 n)],[(.loc 3,⟨1,.own,3,Zb R⟩)],3⟩
section
variable{T:Tbl}[Zz T][Z8 T][Zx T][Zae T][Zw T][Zag T][Zq T][Z9 T][Zc3 T][Zdo T][Zcy T][Zbb T][Z1 T]
def z4q(Y C:List Fz)(K:List (List Fz))(h:Fz)(R:List Fz)(i:Nat)(y m v:Fz)(hy:Y[i]? = some y)(hl:Y.length<=1000)(hR:R.length=i)
  (c1:Za T 557 [.sl (Zb C) .an,.sl (Zd K) .an,.i .i64 i,efz h]=some (efz m)) (c2:Za T 239 [efz y,efz m]=some (efz v)) :
  evX (orc T) T 0 l542_0 (Zkw Y C K h R i)=some (.n,Zkw Y C K h (R++[v]) (i+1)):=by
 obtain⟨h1,h2⟩:=Yc.1 hy;have h1':(i:Int)<Y.length:=by omega
 have hws:=zaw h1 (by omega);have hp:wkL (Zb R++[Zau v])=Zb (R++[v]):=by rw[zd3,zey]
 have ht:List.take i R=R:=Ya (by omega);have hb:i+1<=4294967296:=by omega
 unfold Zkw;obtain⟨y0,y1,y2⟩:=y;obtain⟨g0,g1,g2⟩:=h;obtain⟨m0,m1,m2⟩:=m;obtain⟨v0,v1,v2⟩:=v
 try dsimp only at *
 simp -implicitDefEqProofs[l542_0,hy,h1,h1',h2,hws,c1,c2,hp,ht,hb,hR]
def zafb(Y C:List Fz)(K:List (List Fz))(h:Fz)(R:List Fz)(hR:R.length=Y.length):Zb6 (evX (orc T) T 0 l542_0 (Zkw Y C K h R Y.length))=true /\
  Zbs 0 0 (.norm false [9]) (evX (orc T) T 0 l542_0 (Zkw Y C K h R Y.length))=some (.n,Znq R Y.length):=by
 unfold Zkw Znq;constructor<;>simp -implicitDefEqProofs[l542_0,hR]
def zhx(Y C:List Rat)(K:List (List Rat))(h:Rat)(hl:C.length=K.length)(hK:KOk Y.length K)(hC:∀c∈C,sz c<=20)(hh:sz h<=20)(hY:∀q∈Y,sz q<=400)(hn:Y.length<=300) :
  Za T 542 [.sl (Zb (fzs Y)) .an,.sl (Zb (fzs C)) .an,.sl (Zd (K.map fzs)) .an,efz (fz h)]=some (.sl (Zb (fzs (Za4 Y h (fzs C) K))) .an):=by
 have hCl:(fzs C).length=C.length:=zae C;have hYl:(fzs Y).length=Y.length:=zae Y;have hfl:(Za4 Y h (fzs C) K).length=Y.length:=zdi hK;have hmz:∀i,i<Y.length->sz (h*Zfe i ((fzs C).zip K) 0)<=600:=by
  intro i hi;have e:=znq i (fzs C) K (List.replicate Y.length 0) (by rw[Yz];exact hi) (fun r hr=>by rw[Yz];exact hK.row r hr);have e0:(List.replicate Y.length (0:Rat)).getD i 0=0:=by
   rw[za7 _ _ (by rw[Yz];exact hi),Yct]
  rw[e0]at e;have h2:i<(Ziu (fzs C) K Y.length).length:=by rw[zhg hK];exact hi
  have h3:=zr1 (C:=fzs C) hK (fun x hx=>by
   obtain⟨q,hq,rfl⟩:=Yl.1 hx;rw[zax];exact hC q hq) _ (Yi h2)
  have e2:(Ziu (fzs C) K Y.length)[i]'h2=Zfe i ((fzs C).zip K) 0:=by
   rw[<-za7 _ 0 h2];exact e
  rw[e2]at h3;have:=zd8 h (Zfe i ((fzs C).zip K) 0);omega
 have hlo:Ze T 0 0 (.norm false [9]) l542_0 (Zkw (fzs Y) (fzs C) (K.map fzs) (fz h) [] 0)=some (.n,Znq (fzs (Za4 Y h (fzs C) K)) Y.length):=by
  have key:=zag (T:=T) (k:=0) (id:=0) (g2:=.norm false [9]) (c:=l542_0) (fun i=>Zkw (fzs Y) (fzs C) (K.map fzs) (fz h) (fzs ((Za4 Y h (fzs C) K).take i)) i) (fzs Y).length
   (some (.n,Znq (fzs (Za4 Y h (fzs C) K)) Y.length)) (fun i hi=>?_) ?_
  ·exact key
  ·have hiY:i<Y.length:=by omega
   have e1:(fzs ((Za4 Y h (fzs C) K).take (i+1)))=fzs ((Za4 Y h (fzs C) K).take i)++[fz (Y[i]'hiY+h*Zfe i ((fzs C).zip K) 0)]:=by
    have ea:=z15 (C:=fzs C) (h:=h) hK i hiY;rw[za7 _ _ (by omega),za7 _ _ hiY]at ea;rw[Y4 (by omega),ea];simp[fzs]
   rw[e1];exact z4q (T:=T) (fzs Y) (fzs C) (K.map fzs) (fz h) _ i (fz (Y[i]'hiY)) (fz (h*Zfe i ((fzs C).zip K) 0)) _ (by simp[fzs,hiY]) (by omega) (by rw[zae,Y3];omega)
    (z0s (T:=T) C K Y.length i h hiY hl hK hC hh) (zcx (T:=T) _ _ (Yd (hY _ (Yi hiY)) (by decide)) (Yd (hmz i hiY) (by decide)))
  ·rw[hYl,Ya (by omega)];have:=zafb (T:=T) (fzs Y) (fzs C) (K.map fzs) (fz h) (fzs (Za4 Y h (fzs C) K)) (by rw[zae,zae];exact hfl);rw[hYl]at this;exact this
 generalize hFF:fzs (Za4 Y h (fzs C) K)=F at *
 have hFl:F.length=Y.length:=by rw[<-hFF,zae];exact hfl
 have htk:List.take Y.length F=F:=Ya (by omega);generalize fz h=H at *
 unfold Zkw Znq at hlo;simp only[Yp,zay]at hlo;generalize hCC:fzs C=CC at *
 generalize hKK:K.map fzs=KK at *
 generalize hYY:fzs Y=YY at *
 obtain⟨g0,g1,g2⟩:=H
 try dsimp only at *
 rw[zaa Z1.h542 rfl,b542];simp -implicitDefEqProofs[hlo,hFl,htk]
def zv2(Y:List Fz)(lim i:Nat)(y:Fz)(hy:Y[i]? = some y)(hl:Y.length<=1000)(c:Za T 476 [efz y,.i .i64 lim]=some (.b true)) :
  evX (orc T) T 0 l543_0 (Zd9 Y lim i)=some (.n,Zd9 Y lim (i+1)):=by
 obtain⟨h1,h2⟩:=Yc.1 hy;have h1':(i:Int)<Y.length:=by omega
 have hws:=zaw h1 (by omega);unfold Zd9;obtain⟨y0,y1,y2⟩:=y
 try dsimp only at *
 simp -implicitDefEqProofs[l543_0,hy,h1,h1',h2,hws,c]
def z0t(Y:List Fz)(lim i:Nat)(y:Fz)(hy:Y[i]? = some y)(c:Za T 476 [efz y,.i .i64 lim]=some (.b false)) :
  Zb6 (evX (orc T) T 0 l543_0 (Zd9 Y lim i))=true/\Zbs 0 0 (.norm false [0]) (evX (orc T) T 0 l543_0 (Zd9 Y lim i))=some (.r,⟨[(4,.i .i64 i)],[],2⟩):=by
 obtain⟨h1,h2⟩:=Yc.1 hy;have h1':(i:Int)<Y.length:=by omega
 unfold Zd9;obtain⟨y0,y1,y2⟩:=y
 try dsimp only at *
 constructor<;>simp -implicitDefEqProofs[l543_0,hy,h1,h1',h2,c]
def z4r(Y:List Fz)(lim:Nat):Zb6 (evX (orc T) T 0 l543_0 (Zd9 Y lim Y.length))=true /\
  Zbs 0 0 (.norm false [0]) (evX (orc T) T 0 l543_0 (Zd9 Y lim Y.length))=some (.n,⟨[(0,.sl (Zb Y) .an)],[],2⟩):=by
 unfold Zd9;constructor<;>simp -implicitDefEqProofs[l543_0]
def zhb(L:List Rat)(lim:Nat)(hl:L.length<=1000)(hw:∀q∈L,sz q<=10000):Za T 543 [.sl (Zb (fzs L)) .an,.i .i64 lim]=some (.i .i64 (((Z7 lim L 0).getD L.length:Nat):Int)):=by
 have hLl:(fzs L).length=L.length:=zae L;have hlo:Ze T 0 0 (.norm false [0]) l543_0 (Zd9 (fzs L) lim 0)=match Z7 lim (L.drop 0) 0 with
   | some k=>some (.r,⟨[(4,.i .i64 k)],[],2⟩)
   | none=>some (.n,⟨[(0,.sl (Zb (fzs L)) .an)],[],2⟩):=by
  refine zap (T:=T) (fun i=>Zd9 (fzs L) lim i) L.length (fun i=>match Z7 lim (L.drop i) i with
   | some k=>some (.r,⟨[(4,.i .i64 k)],[],2⟩)
   | none=>some (.n,⟨[(0,.sl (Zb (fzs L)) .an)],[],2⟩)) (fun i hi=>?_) ?_
  ·have hd:L.drop i=L[i]'hi::L.drop (i+1):=Yg hi;have c:=zhw (T:=T) (fz (L[i]'hi)) lim (by rw[zax];exact hw _ (Yi hi));have hg:(fzs L)[i]? = some (fz (L[i]'hi)):=by simp[fzs,hi]
   by_cases hb:lim<Zec (L[i]'hi)
   ·right;rw[decide_eq_false (by unfold Zec at hb;omega)]at c;have:=z0t (T:=T) (fzs L) lim i _ hg c;rw[hd,Z7,if_pos hb];exact this
   ·left;rw[decide_eq_true (by unfold Zec at hb;omega)]at c;refine⟨zv2 (T:=T) (fzs L) lim i _ hg (by omega) c,?_⟩;rw[hd,Z7,if_neg hb]
  ·rw[Yw,Z7];have:=z4r (T:=T) (fzs L) lim;rw[hLl]at this;exact this
 rw[Y6]at hlo;unfold Zd9 at hlo;rw[show (((0:Nat):Int))=0 from rfl]at hlo;rw[zaa Z1.h543 rfl,b543];generalize fzs L=F at *
 cases hf:Z7 lim L 0 with
 | none=>
  rw[hf]at hlo;simp -implicitDefEqProofs[hlo,hLl]
 | some k=>
  rw[hf]at hlo;simp -implicitDefEqProofs[hlo]
def zpx(p:Pb)(t h:Rat)(i:Nat)(c:Fz)(hc:p.s.c[i]? = some c)(ht:sz t<=900)(hh:sz h<=20)(hcs:fsz c<=20) :
  Za T 546 [epb p,efz (fz t),efz (fz h),.i .i64 i]=some (efz (fz (t+h*fv c))):=by
 have c1:=zpt (T:=T) (fz h) c (by rw[zax];omega) (by omega);rw[zb6]at c1;have c2:=zcx (T:=T) t (h*fv c) (by omega) (by
  have:=zd8 h (fv c);have:=za2 (x:=c) (L:=20) (by omega) (by decide);omega)
 generalize fz (t+h*fv c)=V at *
 generalize fz (h*fv c)=M at *
 generalize fz t=TT at *
 generalize fz h=H at *
 obtain⟨h1,h2⟩:=Yc.1 hc;have h1':(i:Int)<p.s.c.length:=by omega
 obtain⟨⟨code,outs,dim,par⟩,⟨nm,cc,a,b,e⟩,pp,bits⟩:=p;obtain⟨v0,v1,v2⟩:=V;obtain⟨m0,m1,m2⟩:=M;obtain⟨t0,t1,t2⟩:=TT;obtain⟨g0,g1,g2⟩:=H;obtain⟨c0,c3,c4⟩:=c;dsimp only at *
 rw[zaa Z1.h546 rfl,b546];simp -implicitDefEqProofs[c1,c2,hc,h1,h1',h2]
def z4s(s:Sm)(R:List Fz)(i:Nat)(b e v:Fz)(hb:s.b[i]? = some b)(he:s.e[i]? = some e)(hl:s.e.length<=1000)(hR:R.length=i)(c:Za T 240 [efz b,efz e]=some (efz v)) :
  evX (orc T) T 0 l548_0 (Zkx s R i)=some (.n,Zkx s (R++[v]) (i+1)):=by
 obtain⟨h1,h2⟩:=Yc.1 hb;obtain⟨h3,h4⟩:=Yc.1 he;have h1':(i:Int)<s.b.length:=by omega
 have h3':(i:Int)<s.e.length:=by omega
 have hws:=zaw h3 (by omega);have hp:wkL (Zb R++[Zau v])=Zb (R++[v]):=by rw[zd3,zey]
 have ht:List.take i R=R:=Ya (by omega);have hb4:i+1<=4294967296:=by omega
 unfold Zkx;obtain⟨nm,cc,a,bb,ee⟩:=s;obtain⟨b0,b1,b2⟩:=b;obtain⟨e0,e1,e2⟩:=e;obtain⟨v0,v1,v2⟩:=v;dsimp only at *
 simp -implicitDefEqProofs[l548_0,hb,he,h1,h1',h2,h3,h3',h4,hws,c,hp,ht,hb4,hR]
def zafc(s:Sm)(R:List Fz)(hR:R.length=s.e.length):Zb6 (evX (orc T) T 0 l548_0 (Zkx s R s.e.length))=true /\
  Zbs 0 0 (.norm false [3]) (evX (orc T) T 0 l548_0 (Zkx s R s.e.length))=some (.n,Znr R s.e.length):=by
 unfold Zkx Znr;obtain⟨nm,cc,a,bb,ee⟩:=s;dsimp only at *
 constructor<;>simp -implicitDefEqProofs[l548_0,hR]
def z0u(s:Sm)(B E:List Rat)(hb:s.b=fzs B)(he:s.e=fzs E)(hl:E.length<=B.length)(hE:E.length<=1000)(hB:∀q∈B,sz q<=900)(hEs:∀q∈E,sz q<=900):Za T 548 [esm s]=some (.sl (Zb (Zfd s.b s.e)) .an):=by
 have hel:s.e.length=E.length:=by rw[he,zae]
 have es:Zfd s.b s.e=fzs (List.zipWith (fun a b=>a-b) B E):=by
  unfold Zfd;rw[hb,he,zff,zff];congr 1;unfold Zjx Zff;rw[Ye0];congr 1
  funext a b
  grind
 have hRl:(List.zipWith (fun a b=>a-b) B E).length=E.length:=by rw[Yco];omega
 rw[es];have hlo:Ze T 0 0 (.norm false [3]) l548_0 (Zkx s [] 0)=some (.n,Znr (fzs (List.zipWith (fun a b=>a-b) B E)) E.length):=by
  have key:=zag (T:=T) (k:=0) (id:=0) (g2:=.norm false [3]) (c:=l548_0) (fun i=>Zkx s (fzs ((List.zipWith (fun a b=>a-b) B E).take i)) i) s.e.length
   (some (.n,Znr (fzs (List.zipWith (fun a b=>a-b) B E)) E.length)) (fun i hi=>?_) ?_
  ·exact key
  ·have hiE:i<E.length:=by omega
   have hiB:i<B.length:=by omega
   have e1:fzs ((List.zipWith (fun a b=>a-b) B E).take (i+1))=fzs ((List.zipWith (fun a b=>a-b) B E).take i)++[fz (B[i]'hiB-E[i]'hiE)]:=by
    rw[Y4 (by omega),Yck];simp[fzs]
   rw[e1];exact z4s (T:=T) s _ i (fz (B[i]'hiB)) (fz (E[i]'hiE)) _ (by rw[hb];simp[fzs,hiB]) (by rw[he];simp[fzs,hiE]) (by omega) (by rw[zae,Y3];omega)
    (zafp (T:=T) _ _ (Yd (hB _ (Yi hiB)) (by decide)) (Yd (hEs _ (Yi hiE)) (by decide)))
  ·rw[hel,Ya (by omega)];have:=zafc (T:=T) s (fzs (List.zipWith (fun a b=>a-b) B E)) (by rw[zae];omega);rw[hel]at this;exact this
 have hFl:(fzs (List.zipWith (fun a b=>a-b) B E)).length=E.length:=by rw[zae];omega
 generalize fzs (List.zipWith (fun a b=>a-b) B E)=F at *
 have htk:List.take E.length F=F:=Ya (by omega);unfold Zkx Znr at hlo;simp only[Yp,zay]at hlo;clear hb he es;obtain⟨nm,cc,a,bb,ee⟩:=s;dsimp only at *
 rw[zaa Z1.h548 rfl,b548];simp -implicitDefEqProofs[hlo,hFl,htk]
end
def z0x{c i:Nat}(hc:1<=c):Za8 c (i+1)=if i%c=0 then Za8 c i++[i] else Za8 c i:=by
 have hN:Zcr c (i+1)=i/c+1:=by
  unfold Zcr;rw[show i+1+c-1=i+c by omega,Nat.add_div_right _ (by omega)]
 split
 ·next h0=>
  have hi:i/c*c=i:=Nat.div_mul_cancel (Yez h0);have hN0:Zcr c i=i/c:=by
   unfold Zcr;have:i+c-1=(c-1)+i/c*c:=by omega
   rw[this,Ydw _ _ (by omega),Ya3 (by omega),Yap]
  unfold Za8;rw[hN,hN0,List.range_succ,Yb2,Yak,Ya6,hi]
 ·next h0=>
  have hm:=Ybs i c;have hlt:=Ya5 i hc;rw[Yaw]at hm;have hN0:Zcr c i=i/c+1:=by
   unfold Zcr;have:i+c-1=(i%c-1)+(i/c+1)*c:=by rw[Ybz,Yds];omega
   rw[this,Ydw _ _ (by omega),Ya3 (by omega),Yap]
  unfold Za8;rw[hN,hN0]
def z4z{c m:Nat}(hc:1<=c):(Za8 c m).length<=m:=by
 unfold Za8;rw[Yk,Yel];exact zm2 hc
def Ze3(n k:Int)(M:List Nat)(i:Nat):St:=
 ⟨[(0,.i .i64 n),(1,.i .i64 k),(5,.bs (.loc 5) 1 1 0 M.length),(6,.i .i64 (i:Int))],[(.loc 5,⟨1,.own,1,Zcl M⟩)],3⟩
def Zjq(g:Nat)(c:Kp):Box:=⟨g,.str,4,[[.i .i64 c.ev,.sl (Zb c.sz) .an,.sl (Zb c.ts) .an,.sl (Zd c.ys) .an]]⟩
def Zke(c:Kp)(i:Nat):St:=⟨[(1,.ptr (.loc 1) 1 4 0 0),(3,.i .i64 (i:Int))],[(.loc 1,Zjq 1 c)],3⟩
section
variable{T:Tbl}[Zz T][Z8 T][Zx T][Zae T][Zw T][Zag T][Zq T][Z9 T][Zc3 T][Zaz T]
def zpy(k:Int):Za T 520 [.i .i64 k]=some (.i .i64 (Zaj k)):=by
 rw[<-(ze9 k).1,zaa Zaz.h520 rfl,b520];simp -implicitDefEqProofs[mm2]
 try omega
def zki(n k:Int):Za T 523 [.i .i64 n,.i .i64 k]=some (.sl (Zcl (Za2 k n)) .an):=by
 have c0:=zpy (T:=T) k;obtain⟨_,hc1,hc2⟩:=ze9 k;unfold Za2;have h200:∀(m:Nat),n=m->(1<=m/\m<=200)->Za T 523 [.i .i64 n,.i .i64 k]=some (.sl (Zcl (Za8 (Zaj k) m)) .an):=by
  rintro m rfl ⟨m1,m2⟩
  generalize Zaj k=c at *
  have hlo:Ze T 0 0 (.norm false [5]) l523_0 (Ze3 m k (Za8 c 0) 0)=some (.n,⟨[(5,.bs (.loc 5) 1 1 0 (Za8 c m).length)],[(.loc 5,⟨1,.own,1,Zcl (Za8 c m)⟩)],3⟩):=by
   refine zag (fun i=>Ze3 m k (Za8 c i) i) m _ (fun i hi=>?_) ?_
   ·have hi':(i:Int)<(m:Int):=by omega
    have hm':(m:Int)<=200:=by omega
    have hws:=zaw hi (by omega);have hml:=z4z (c:=c) (m:=i) hc1;have hb:(Za8 c i).length+1<=4294967296:=by omega
    have hc0:¬ (c:Int)=0:=by omega
    have hc00:¬ c=0:=by omega
    have hr:(i:Int).tmod (c:Int)=((i%c:Nat):Int):=(Ydt i c).symm;have hrw:IntKind.wrap .i64 ((i%c:Nat):Int)=((i%c:Nat):Int):=zab _ (by have:=Ya5 i hc1;omega);rw[z0x hc1];have hs:=zpi (Za8 c i) i;generalize Za8 c i=M at *
    have htk:List.take M.length (Zcl M)=Zcl M:=Ya (by rw[zbz];omega);have hl2:(M++[i]).length=M.length+1:=by simp
    by_cases h0:i%c=0
    ·rw[if_pos h0];rw[h0]at hr hrw;unfold Ze3;rw[hl2];simp -implicitDefEqProofs[l523_0,hi,hi',hm',m2,hws,hs,c0,hb,htk,hc0,hc00,hr]
    ·rw[if_neg h0];have h0':¬ ((i%c:Nat):Int)=0:=by omega
     unfold Ze3;generalize i%c=x at *
     simp -implicitDefEqProofs[l523_0,hi,hi',hm',m2,hws,c0,hc0,hc00,hr,h0',h0,hrw]
   ·unfold Ze3;generalize Za8 c m=M at *
    constructor<;>simp -implicitDefEqProofs[l523_0]
  have e0:Za8 c 0=[]:=by
   unfold Za8 Zcr;rw[Yap,Ya3 (by omega)]
   rfl
  unfold Ze3 at hlo;rw[e0,zcd,Yah,show (((0:Nat):Int))=0 from rfl]at hlo;have ht:List.take (Za8 c m).length (Zcl (Za8 c m))=Zcl (Za8 c m):=Ya (by rw[zbz];omega);generalize Za8 c m=M at *
  rw[zaa Zaz.h523 rfl,b523];simp -implicitDefEqProofs[hlo,ht,zcd]
 by_cases h1:n<1
 ·rw[if_pos (.inl h1)];have hlo:Ze T 0 0 (.norm false [5]) l523_0 (Ze3 n k [] 0)=some (.n,⟨[(5,.bs (.loc 5) 1 1 0 0)],[(.loc 5,⟨1,.own,1,[]⟩)],3⟩):=by
   have hn:¬ (0:Int)<n:=by omega
   refine zag (fun i=>Ze3 n k [] i) 0 _ (fun i hi=>absurd hi (by omega)) ?_;unfold Ze3;constructor<;>simp -implicitDefEqProofs[l523_0,hn,zcd]
  unfold Ze3 at hlo;rw[zcd,Yah,show (((0:Nat):Int))=0 from rfl]at hlo;rw[zaa Zaz.h523 rfl,b523];simp -implicitDefEqProofs[hlo,zcd]
 by_cases h2:200<n
 ·rw[if_pos (.inr h2)];have hlo:Ze T 0 0 (.norm false [5]) l523_0 (Ze3 n k [] 0)=some (.n,⟨[(5,.bs (.loc 5) 1 1 0 0)],[(.loc 5,⟨1,.own,1,[]⟩)],3⟩):=by
   have hn:(0:Int)<n:=by omega
   have hn2:¬ n<=200:=by omega
   refine zag (fun i=>Ze3 n k [] i) 0 _ (fun i hi=>absurd hi (by omega)) ?_;unfold Ze3;constructor<;>simp -implicitDefEqProofs[l523_0,hn,hn2,zcd]
  unfold Ze3 at hlo;rw[zcd,Yah,show (((0:Nat):Int))=0 from rfl]at hlo;rw[zaa Zaz.h523 rfl,b523];simp -implicitDefEqProofs[hlo,zcd]
 rw[if_neg (by omega)];exact h200 n.toNat (by omega) (by omega)
def zrs(c:Kp)(hl:c.sz.length<=1000)(hw:∀x∈c.sz,fsz x<=10000):Za T 505 [ekp c]=some (.b (Zev c)):=by
 have c1:=zki (T:=T) c.sz.length c.ev;have hcut:decide (c.ev=Zaj c.ev)=(decide (1<=c.ev)&&decide (c.ev<=200)):=by
  rw[<-(ze9 c.ev).1,<-Bool.decide_and];exact decide_eq_decide.2 (by omega)
 have hlp:Ze T 0 0 (.norm false [1]) l505_0 (Zke c 0)=if Zhg (c.sz.drop 0)=true then some (.n,⟨[(1,.ptr (.loc 1) 1 4 0 0)],[(.loc 1,Zjq 1 c)],3⟩) else some (.r,⟨[(2,.b false)],[],2⟩):=by
  refine zap (Zke c) c.sz.length (fun i=>if Zhg (c.sz.drop i)=true then some (.n,⟨[(1,.ptr (.loc 1) 1 4 0 0)],[(.loc 1,Zjq 1 c)],3⟩) else some (.r,⟨[(2,.b false)],[],2⟩)) (fun i hi=>?_) ?_
  ·have hws:=zaw hi (by omega);have hm:=Yi hi;have cn:=za8 (T:=T) _ (hw _ hm);have cs:=zafq (T:=T) (fv (c.sz[i]'hi));have key:Zhg (c.sz.drop i)=(decide (0<fv (c.sz[i]'hi))&&Zhg (c.sz.drop (i+1))):=by unfold Zhg;rw[Yg hi,Ybj]
   have e1:(0<fv (c.sz[i]'hi))↔¬ sgQ (fv (c.sz[i]'hi))<=0:=by rw[<-z10];omega
   have hi':(i:Int)<c.sz.length:=by omega
   generalize fz (fv (c.sz[i]'hi))=N at *
   obtain⟨ev,S,ts,ys⟩:=c;dsimp only at *
   generalize hq:S[i]'hi=q at *
   obtain⟨q1,q2,q3⟩:=q;obtain⟨n1,n2,n3⟩:=N;by_cases hp:sgQ (fv (q1,q2,q3))<=0
   ·right;rw[key,decide_eq_false (by rw[e1];exact fun h=>h hp),Ydb,if_neg (by decide)];generalize sgQ (fv (q1,q2,q3))=g at *
    unfold Zke Zjq;constructor<;>simp -implicitDefEqProofs[l505_0,hi,hi',hq,cn,cs,hp]
   ·left;rw[key,decide_eq_true (e1.2 hp),Ycd];refine⟨?_,rfl⟩;generalize sgQ (fv (q1,q2,q3))=g at *
    unfold Zke Zjq;simp -implicitDefEqProofs[l505_0,hi,hi',hq,hws,cn,cs,hp]
  ·have e:Zhg (c.sz.drop c.sz.length)=true:=by rw[Yw];rfl
   rw[e,if_pos rfl];unfold Zke Zjq;constructor<;>simp -implicitDefEqProofs[l505_0]
 rw[Y6]at hlp;unfold Zke Zjq at hlp;rw[show (((0:Nat):Int))=0 from rfl]at hlp;unfold Zev;rw[hcut];generalize Za2 c.ev c.sz.length=M at *
 cases hp:Zhg c.sz with
 | false=>
  rw[hp,if_neg (by decide)]at hlp;obtain⟨ev,S,ts,ys⟩:=c;dsimp only at *
  rw[zaa Zaz.h505 rfl,b505];simp -implicitDefEqProofs[hlp]
 | true=>
  rw[hp,if_pos rfl]at hlp;obtain⟨ev,S,ts,ys⟩:=c;dsimp only at *
  rw[Ycd];have n1:(Zcl M).length=M.length:=zbz _;by_cases g1:1<=ev
  ·by_cases g2:ev<=200
   ·by_cases g3:S.length<=200
    ·have g3':(S.length:Int)<=200:=by omega
     by_cases g4:ts.length=M.length
     ·have g4':(ts.length:Int)=M.length:=by omega
      by_cases g5:ys.length=M.length
      ·have g5':(ys.length:Int)=M.length:=by omega
       rw[zaa Zaz.h505 rfl,b505];simp -implicitDefEqProofs[hlp,c1,g1,g2,g3,g3',g4,g4',g5,g5',n1]
      ·have g5':¬ (ys.length:Int)=M.length:=by omega
       rw[zaa Zaz.h505 rfl,b505];simp -implicitDefEqProofs[hlp,c1,g1,g2,g3,g3',g4,g4',g5,g5',n1]
     ·have g4':¬ (ts.length:Int)=M.length:=by omega
      rw[zaa Zaz.h505 rfl,b505];simp -implicitDefEqProofs[hlp,c1,g1,g2,g3,g3',g4,g4',n1]
    ·have g3':¬ (S.length:Int)<=200:=by omega
     rw[zaa Zaz.h505 rfl,b505];simp -implicitDefEqProofs[hlp,c1,g1,g2,g3,g3',n1]
   ·rw[zaa Zaz.h505 rfl,b505];simp -implicitDefEqProofs[hlp,c1,g1,g2,n1]
  ·rw[zaa Zaz.h505 rfl,b505];simp -implicitDefEqProofs[hlp,c1,g1,n1]
end
class Zpp (T:Tbl):Prop where
def Zup(t h s:Rat):Rat:=(s-t)/h
def Zuq(h x y:Rat):List Rat:=[y*y*(1+2*x),x*x*(3 + -2*x),h*x*y*y,h*x*x * -y]
def Zur(h x y:Rat):List Rat:=[-(6*x*y/h),6*x*y/h,y*(1 + -3*x),x*(-2+3*x)]
def Zus(c:List Rat)(y0 y1 f0 f1:List Fz):List Rat:=Zd3 ((fzs c).zip [y0,y1,f0,f1]) (List.replicate y0.length 0)
def Zqr(s:Rat):List Fz->Nat->Option Nat
 | [],_=>none
 | t::l,i=>if s<=fv t then some i else Zqr s l (i+1)
def Zut(s:Rat):List Fz->Option Nat
 | []=>none
 | t::l=>if s<fv t then none else Zqr s l 0
def Zr2:Option Nat->AV
 | some i=>.tup [.i .i64 i,.b true]
 | none=>.tup [.i .i64 (-1),.b false]
section
variable{T:Tbl}[Z2 T][Zu T][Zy T][Z0 T][Zt T][Zp T][Zi T][Zl T][Zs T][Zad T][Zap T][Zc5 T][Zah T][Zaf T][Zbl T][Zas T][Zd7 T][Za9 T][Zbd T][Zba T][Zbt T][Ze1 T][Zhf T][Zde T][Zal T][Zeu T][Zo2 T][Zpp T]
def Ztf(s:Fz)(l:List Fz)(i:Nat):St:=⟨[(3,.ptr (.loc 3) 1 3 0 0),(25,.sl (Zb l) .an),(26,.i .i64 l.length),(27,.i .i64 i)],[(.loc 3,⟨1,.str,3,[Zau s]⟩)],3⟩
def Ztg:Option Nat->Ex×St
 | some i=>(.r,⟨[(4,.i .i64 i),(5,.b true)],[],2⟩)
 | none=>(.n,⟨[],[],2⟩)
end
def Zh5(s:Sm)(many words:Nat):Bool:=decide (50<s.nm.length) || decide (many<s.a.length) || Zam s.b many words || Zam s.c many words || Zam s.e many words || s.a.any fun r=>Zam r many words
def Zjj(p:Pb)(many stages words:Nat):Bool:=Zji p.t many words || Zh5 p.s stages 4 || Zam p.p 6 words
def Zhq(r:Trr)(words:Nat):Bool:=Zam r.nums 4 words || Zam r.y 8 words
def Zil(h:Hs)(many words:Nat):Bool:=decide (many<h.l.length) || decide (words<fsz h.t) || Zam h.y 8 words || h.l.any fun r=>Zhq r words
def zpe{s:Sm}{many words:Nat}(h:Zh5 s many words=false)(hm:many<=1000)(hw:words<=300):SmS s/\(∀x∈s.c,fsz x<=words)/\s.b.length<=many/\s.a.length<=many/\s.c.length<=many/\s.e.length<=many/\(∀r∈s.a,r.length<=many):=by
 unfold Zh5 at h;simp only[Yci,decide_eq_false_iff_not,Yem]at h;obtain⟨⟨⟨⟨⟨h1,h2⟩,h3⟩,h4⟩,h5⟩,h6⟩:=h;obtain⟨b1,b2⟩:=zbb h3;obtain⟨c1,c2⟩:=zbb h4;obtain⟨e1,e2⟩:=zbb h5;have ha:∀r∈s.a,r.length<=many/\∀x∈r,fsz x<=words:=fun r hr=>zbb (by grind);exact⟨⟨by omega,by omega,by omega,by omega,by omega,fun x hx=>Yd (c2 x hx) hw,fun r hr=>⟨Yd (ha r hr).1 hm,fun x hx=>Yd ((ha r hr).2 x hx) hw⟩,fun x hx=>Yd (b2 x hx) hw,fun x hx=>Yd (e2 x hx) hw⟩,c2,b1,by omega,c1,e1,fun r hr=>(ha r hr).1⟩
def zrf{h:Hs}{many words:Nat}(e:Zil h many words=false)(hm:many<=1000):HsS h words/\h.l.length<=many/\h.y.length<=8/\∀r∈h.l,r.y.length<=8:=by
 unfold Zil Zhq at e;simp only[Yci,decide_eq_false_iff_not,Yem]at e;obtain⟨⟨⟨h1,h2⟩,h3⟩,h4⟩:=e;obtain⟨y1,y2⟩:=zbb h3;have hr:∀r∈h.l,(Zam r.nums 4 words=false)/\Zam r.y 8 words=false:=fun r hr=>by
  grind
 exact⟨⟨by omega,by omega,y2,by omega,fun r hx=>(zbb (hr r hx).1).2,fun r hx=>(zbb (hr r hx).2).2,fun r hx=>Yd (zbb (hr r hx).2).1 (by decide)⟩,by omega,y1,fun r hx=>(zbb (hr r hx).2).1⟩
section
variable{T:Tbl}[Z2 T][Zu T][Zy T][Z0 T][Zt T][Zp T][Zi T][Zl T][Zs T][Zad T][Zap T][Zc5 T][Zah T][Zaf T][Zbl T][Zas T][Zd7 T][Za9 T][Zbd T][Zba T][Zbt T]
variable[Zz T][Z8 T][Zx T][Zae T][Zw T][Zag T][Zq T][Z9 T][Zgm T][Zdd T][Zcx T][Zdz T][Zij T][Ze9 T][Zby T][Ze2 T]
def zg6(r:Trr):Za T 516 [.agg (Zll r)]=some (.sl (Zb r.nums) .an):=by
 have e:Zb r.nums=[Zau r.t,Zau r.w,Zau r.h,Zau r.e]:=rfl;rw[zaa Zby.h516 rfl,b516,e];simp -implicitDefEqProofs[]
def Znf(s:Sm):Box:=⟨1,.str,5,[[.s s.nm,.sl (Zb s.c) .an,.sl (Zd s.a) .an,.sl (Zb s.b) .an,.sl (Zb s.e) .an]]⟩
def Zka(s:Sm)(many words i:Nat):St:=⟨[(1,.i .i64 many),(2,.i .i64 words),(3,.ptr (.loc 3) 1 5 0 0),(7,.i .i64 i)],[(.loc 3,Znf s)],3⟩
def zva(s:Sm)(many words:Nat)(hm:many<=1000):Za T 515 [esm s,.i .i64 many,.i .i64 words]=some (.b (Zh5 s many words)):=by
 have cb:=zb0 (T:=T) s.b many words hm;have cc:=zb0 (T:=T) s.c many words hm;have ce:=zb0 (T:=T) s.e many words hm;have hlp:s.a.length<=many->Ze T 0 0 (.norm false []) l515_0 (Zka s many words 0)=if (s.a.drop 0).any (fun r=>Zam r many words)=true then some (.r,⟨[(6,.b true)],[],2⟩) else some (.n,⟨[],[],2⟩):=by
  intro hl;refine zap (Zka s many words) s.a.length (fun i=>if (s.a.drop i).any (fun r=>Zam r many words)=true then some (.r,⟨[(6,.b true)],[],2⟩) else some (.n,⟨[],[],2⟩)) (fun i hi=>?_) ?_
  ·have hi':(i:Int)<s.a.length:=by omega
   have hws:=zaw hi (by omega);have c:=zb0 (T:=T) (s.a[i]'hi) many words hm;have key:(s.a.drop i).any (fun r=>Zam r many words)=(Zam (s.a[i]'hi) many words || (s.a.drop (i+1)).any fun r=>Zam r many words):=by rw[Yg hi,Yd1]
   generalize hq:s.a[i]'hi=q at *
   obtain⟨nm,c',a,b,e⟩:=s;cases hL:Zam q many words with
   | true=>
    right;rw[hL]at c;rw[if_pos (by rw[key,hL,Yef])];unfold Zka Znf;constructor<;>simp -implicitDefEqProofs[l515_0,hi,hi',hq,c]
   | false=>
    left;rw[hL]at c;refine⟨?_,by grind⟩;unfold Zka Znf;simp -implicitDefEqProofs[l515_0,hi,hi',hq,hws,c]
  ·simp only[Yw,List.any_nil,Yx,if_false];unfold Zka Znf;constructor<;>simp -implicitDefEqProofs[l515_0]
 rw[Y6]at hlp;unfold Zka Znf at hlp;unfold Zh5;rw[zaa Zby.h515 rfl,b515];obtain⟨nm,c,a,b,e⟩:=s;dsimp only at *
 by_cases h1:50<nm.length
 ·have h1':(50:Int)<nm.length:=by omega
  simp -implicitDefEqProofs[h1,h1']
 have h1':¬ (50:Int)<nm.length:=by omega
 by_cases h2:many<a.length
 ·have h2':(many:Int)<a.length:=by omega
  simp -implicitDefEqProofs[h1,h1',h2,h2']
 have h2':¬ (many:Int)<a.length:=by omega
 have hl:=hlp (by omega);generalize Zam b many words=B1 at *
 generalize Zam c many words=B2 at *
 generalize Zam e many words=B3 at *
 generalize a.any (fun r=>Zam r many words)=B4 at *
 cases B1 with
 | true=>simp -implicitDefEqProofs[h1,h1',h2,h2',cb]
 | false=>
 cases B2 with
 | true=>simp -implicitDefEqProofs[h1,h1',h2,h2',cb,cc]
 | false=>
 cases B3 with
 | true=>simp -implicitDefEqProofs[h1,h1',h2,h2',cb,cc,ce]
 | false=>
  cases B4<;>simp at hl<;>simp -implicitDefEqProofs[h1,h1',h2,h2',cb,cc,ce,hl]
def zvb(p:Pb)(many stages words:Nat)(hm:many<=1000)(hs:stages<=1000):Za T 496 [epb p,.i .i64 many,.i .i64 stages,.i .i64 words]=some (.b (Zjj p many stages words)):=by
 have c1:=zu2 (T:=T) p.t many words hm;have c2:=zva (T:=T) p.s stages 4 hs;have c3:=zb0 (T:=T) p.p 6 words (by decide);replace c2:Za T 515 [esm p.s,.i .i64 stages,.i .i64 4]=_:=c2;replace c3:Za T 286 [.sl (Zb p.p) .an,.i .i64 6,.i .i64 words]=_:=c3;unfold Zjj;rw[zaa Zby.h496 rfl,b496];generalize Zji p.t many words=A at *
 generalize Zh5 p.s stages 4=B at *
 obtain⟨⟨code,outs,dim,par⟩,⟨nm,c,a,b,e⟩,pp,bits⟩:=p;cases A with
 | true=>simp -implicitDefEqProofs[c1]
 | false=>
 cases B with
 | true=>simp -implicitDefEqProofs[c1,c2]
 | false=>simp -implicitDefEqProofs[c1,c2,c3]
def Zml(h:Hs):Box:=⟨1,.str,5,[[.sl (Za1 h.l) .an,.b h.t.1,.sl (Zc h.t.2.1) .an,.sl (Zc h.t.2.2) .an,.sl (Zb h.y) .an]]⟩
def Zjk(h:Hs)(words i:Nat):St:=⟨[(2,.i .i64 words),(3,.ptr (.loc 3) 1 5 0 0),(7,.i .i64 i)],[(.loc 3,Zml h)],3⟩
def zl9(h:Hs)(many words:Nat)(hm:many<=1000):Za T 497 [ehs h,.i .i64 many,.i .i64 words]=some (.b (Zil h many words)):=by
 have c1:=zfy (T:=T) h.t words;have c2:=zb0 (T:=T) h.y 8 words (by decide);replace c2:Za T 286 [.sl (Zb h.y) .an,.i .i64 8,.i .i64 words]=_:=c2;have hlp:h.l.length<=many->Ze T 0 0 (.norm false []) l497_0 (Zjk h words 0)=if (h.l.drop 0).any (fun r=>Zhq r words)=true then some (.r,⟨[(6,.b true)],[],2⟩) else some (.n,⟨[],[],2⟩):=by
  intro hl;refine zap (Zjk h words) h.l.length (fun i=>if (h.l.drop i).any (fun r=>Zhq r words)=true then some (.r,⟨[(6,.b true)],[],2⟩) else some (.n,⟨[],[],2⟩)) (fun i hi=>?_) ?_
  ·have hi':(i:Int)<h.l.length:=by omega
   have hws:=zaw hi (by omega);have d1:=zg6 (T:=T) (h.l[i]'hi);have d2:=zb0 (T:=T) (h.l[i]'hi).nums 4 words (by decide);have d3:=zb0 (T:=T) (h.l[i]'hi).y 8 words (by decide);replace d2:Za T 286 [.sl (Zb (h.l[i]'hi).nums) .an,.i .i64 4,.i .i64 words]=_:=d2;replace d3:Za T 286 [.sl (Zb (h.l[i]'hi).y) .an,.i .i64 8,.i .i64 words]=_:=d3;have key:(h.l.drop i).any (fun r=>Zhq r words)=(Zhq (h.l[i]'hi) words || (h.l.drop (i+1)).any fun r=>Zhq r words):=by rw[Yg hi,Yd1]
   generalize hq:h.l[i]'hi=q at *
   have hR:Zhq q words=(Zam q.nums 4 words || Zam q.y 8 words):=rfl;generalize Zam q.nums 4 words=A at *
   generalize Zam q.y 8 words=B at *
   have hnn:wkL (Zb q.nums)=Zb q.nums:=zey _;obtain⟨q1,q2,q3,q4,q5,q6⟩:=q;cases A with
   | true=>
    right;rw[if_pos (by grind)];unfold Zjk Zml;constructor<;>simp -implicitDefEqProofs[l497_0,hi,hi',hq,d1,d2,hnn]
   | false=>
   cases B with
   | true=>
    right;rw[if_pos (by grind)];unfold Zjk Zml;constructor<;>simp -implicitDefEqProofs[l497_0,hi,hi',hq,d1,d2,d3,hnn]
   | false=>
    left;refine⟨?_,by grind⟩;unfold Zjk Zml;simp -implicitDefEqProofs[l497_0,hi,hi',hq,hws,d1,d2,d3,hnn]
  ·simp only[Yw,List.any_nil,Yx,if_false];unfold Zjk Zml;constructor<;>simp -implicitDefEqProofs[l497_0]
 rw[Y6]at hlp;unfold Zjk Zml at hlp;unfold Zil;rw[zaa Zby.h497 rfl,b497];generalize Zam h.y 8 words=B2 at *
 generalize (h.l.any fun r=>Zhq r words)=B4 at *
 generalize hft:fsz h.t=ft at *
 obtain⟨L,t,y⟩:=h;dsimp only at *
 by_cases h1:many<L.length
 ·have h1':(many:Int)<L.length:=by omega
  simp -implicitDefEqProofs[h1,h1']
 have h1':¬ (many:Int)<L.length:=by omega
 have hl:=hlp (by omega);by_cases h2:words<ft
 ·simp -implicitDefEqProofs[h1,h1',c1,h2]
 cases B2 with
 | true=>simp -implicitDefEqProofs[h1,h1',c1,h2,c2]
 | false=>
  cases B4<;>simp at hl<;>simp -implicitDefEqProofs[h1,h1',c1,h2,c2,hl]
def z3x(s:Sm)(hs:SmS s):Za T 527 [esm s]=some (esm s):=by
 have c1:=zde (T:=T) s.c (by have:=hs.cl;omega);have c2:=zs5 (T:=T) s.a (by have:=hs.al;omega) (fun r hr=>by have:=(hs.a r hr).1;omega);have c3:=zde (T:=T) s.b (by have:=hs.bl;omega);have c4:=zde (T:=T) s.e (by have:=hs.el;omega);rw[zaa Ze2.h527 rfl,b527];obtain⟨nm,c,a,b,e⟩:=s;simp -implicitDefEqProofs[c1,c2,c3,c4]
def z3y(p:Pb)(hp:PbS p)(hc:p.t.code.length<=1000)(ho:p.t.outs.length<=1000):Za T 507 [epb p]=some (epb p):=by
 have c1:=z3m (T:=T) p.t hc ho;have c2:=z3x (T:=T) p.s hp.s;have c3:=zde (T:=T) p.p (by have:=hp.pl;omega);rw[zaa Ze2.h507 rfl,b507];obtain⟨⟨code,outs,dim,par⟩,⟨nm,c,a,b,e⟩,pp,bits⟩:=p;simp -implicitDefEqProofs[c1,c2,c3]
def Zlw(h:Hs)(i:Nat):St:=⟨[(1,.ptr (.loc 1) 1 5 0 0),(2,.ptr (.loc 2) 2 5 0 0),(3,.ptr (.loc 3) 3 5 0 0),(4,.i .i64 i)],
 [(.loc 1,bxH h),(.loc 2,⟨2,.str,5,[[.sl [] .an,.b false,.sl [] .an,.sl [] .an,.sl [] .an]]⟩),(.loc 3,⟨3,.str,5,[[.bs fC 4 14 0 i,.b h.t.1,.sl (Zc h.t.2.1) .an,.sl (Zc h.t.2.2) .an,.sl (Zb h.y) .an]]⟩),(fC,⟨4,.own,14,Za1 (h.l.take i)⟩)],6⟩
def zvc(h:Hs)(i:Nat)(hi:i<h.l.length)(hl:h.l.length<=1000)(hy:∀r∈h.l,r.y.length<=1000):evX (orc T) T 0 l500_0 (Zlw h i)=some (.n,Zlw h (i+1)):=by
 have hws:=zaw hi (by omega);have hb:i<=4294967295:=by omega
 have c1:=zer (T:=T) (h.l[i]'hi).t;have c2:=zer (T:=T) (h.l[i]'hi).w;have c3:=zer (T:=T) (h.l[i]'hi).h;have c4:=zer (T:=T) (h.l[i]'hi).e;have c5:=zde (T:=T) (h.l[i]'hi).y (by grind);have hi':(i:Int)<h.l.length:=by omega
 have hml:(h.l.take i).length=i:=by grind
 have ht:List.take i (h.l.take i)=h.l.take i:=Ya (by omega);have e:=zfa h.l hi;have hp:=zml hml (h.l[i]'hi);rw[ht]at hp;unfold Zlw bxH fC;rw[e];generalize hq:h.l[i]'hi=q at *
 obtain⟨L,t,y⟩:=h;simp -implicitDefEqProofs[l500_0,hi,hi',hws,hb,hq,c1,c2,c3,c4,c5,hml,ht,hp]
def z3z(h:Hs)(hl:h.l.length<=1000)(hy:∀r∈h.l,r.y.length<=1000)(hyl:h.y.length<=1000):Za T 500 [ehs h]=some (ehs h):=by
 have hlp:Ze T 0 0 (.norm false [2,3]) l500_0 (Zlw h 0)=some (.n,⟨[(2,.ptr (.loc 2) 1 5 0 0),(3,.ptr (.loc 3) 2 5 0 0)],[(.loc 2,⟨1,.str,5,[[.sl [] .an,.b false,.sl [] .an,.sl [] .an,.sl [] .an]]⟩),(.loc 3,⟨2,.str,5,[[.bs fC 3 14 0 h.l.length,.b h.t.1,.sl (Zc h.t.2.1) .an,.sl (Zc h.t.2.2) .an,.sl (Zb h.y) .an]]⟩),(fC,⟨3,.own,14,Za1 h.l⟩)],5⟩):=by
  refine zag (Zlw h) h.l.length _ (fun i hi=>zvc h i hi hl hy) ?_;unfold Zlw bxH fC;constructor<;>simp -implicitDefEqProofs[l500_0]
 have ht:List.take h.l.length h.l=h.l:=Ya (by omega);have c1:=zer (T:=T) h.t;have c2:=zde (T:=T) h.y (by omega);unfold Zlw bxH fC at hlp;simp only[Yp,Yaz,zky]at hlp;rw[zaa Ze2.h500 rfl,b500];obtain⟨L,t,y⟩:=h;simp -implicitDefEqProofs[ht,c1,c2,hlp]
end
end Go.Ab