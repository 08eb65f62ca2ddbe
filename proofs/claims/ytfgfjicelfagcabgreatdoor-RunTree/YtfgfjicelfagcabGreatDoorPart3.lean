/-
  A calculus of values, boxes and code, and what functions of the program compute, proved in it.
  Conditions: none beyond those that the theorems state. (Part 3.)
-/
import Derived.Test.YtfgfjicelfagcabGreatDoorPart2

set_option linter.unusedSectionVars false
set_option linter.unusedVariables false
set_option linter.unusedSimpArgs false
set_option linter.unnecessarySimpa false

namespace Go.Ab
section
open Go.RowKit
theorem zc5:∀(l:Heap) (g j:Nat),j≤Zcf l g j∧Zcf l g j≤j+l.length
 | [],g,j=>by simp[Zcf]
 | p::l,g,j=>by
  have:=zc5 l g (j+1);simp only[Zcf,Yi];split<;>omega
theorem zgn:∀(l:Heap) (g j:Nat),(∃p∈l,p.2.gen=g)→Zcf l g j<j+l.length
 | [],g,j,h=>by grind
 | p::l,g,j,h=>by
  simp only[Zcf,Yi];split
  ·omega
  ·obtain⟨q,hq,he⟩:=h;have hq':q∈l:=by
    grind
   have:=zgn l g (j+1) ⟨q,hq',he⟩;omega
theorem zki:∀(l:Heap) (g j:Nat),(¬ ∃p∈l,p.2.gen=g)→Zcf l g j=j+l.length
 | [],g,j,h=>by simp[Zcf]
 | p::l,g,j,h=>by
  simp only[Zcf,Yi];rw[if_neg (fun he=>h ⟨p,Yp,he⟩),zki l g (j+1) fun⟨q,hq,he⟩=>h ⟨q,Yj _ hq,he⟩];omega
theorem zhn:∀(l:Heap) (g g' j:Nat),(∃p∈l,p.2.gen=g)→(∃p∈l,p.2.gen=g')→Zcf l g j=Zcf l g' j→g=g'
 | [],g,g',j,h,_,_=>by obtain⟨p,hp,_⟩:=h;simp at hp
 | p::l,g,g',j,h,h',he=>by
  simp only[Zcf]at he;have low:=zc5 l g (j+1);have low':=zc5 l g' (j+1);split at he<;>split at he
  ·rename_i h1 h2;rw[←h1,←h2]
  ·omega
  ·omega
  ·rename_i h1 h2;have tl:∀g,p.2.gen≠g→(∃q∈p::l,q.2.gen=g)→∃q∈l,q.2.gen=g:=by
    intro g hne ⟨q,hq,he⟩;rcases Y6.1 hq with rfl | h
    ·exact absurd he hne
    ·exact⟨q,h,he⟩
   exact zhn l g g' (j+1) (tl g h1 h) (tl g' h2 h') he
theorem zfc{h:Heap}{ids:List BId}{p:BId×Box}(hp:p∈Zd3 h ids):h.lookup p.1=some p.2:=by
 obtain⟨b,_,h2⟩:=List.mem_filterMap.1 hp;cases hb:h.lookup b with
 | none=>grind
 | some bx=>grind
theorem za8{β γ:Type}[BEq β][LawfulBEq β]:∀(l:List (β×γ)) (b:β) (x:γ),l.lookup b=some x→(b,x)∈l:=by
 intro l b x h
 induction l with
 | nil=>cases h
 | cons p l ih=>
  grind
theorem zf0{γ:Type}:∀(l:List (BId×γ)) (p:BId×γ),p∈l→∃x,l.lookup p.1=some x:=by
 intro l p h
 induction l with
 | nil=>cases h
 | cons q l ih=>
  obtain⟨q1,q2⟩:=q;by_cases hb:p.1=q1
  ·simp_all
  grind
theorem zmd{h:Heap}{ids:List BId}{p:BId×Box}(hp:p∈Zd3 h ids):(Zd3 h ids).lookup p.1=some p.2:=by
 obtain⟨x,hx⟩:=zf0 _ _ hp;have h1:=zfc (za8 _ _ _ hx);rw[zfc hp]at h1
 grind
theorem zok(live:List Nat)(f:Nat→AV)(t:Nat):(live.map fun t=>(t,f t)).lookup t=if t∈live then some (f t) else none:=by
 induction live with
 | nil=>simp
 | cons s l ih=>
  grind
section
variable{cx:Cx}{st:St}{a:Act}{w:World}
theorem zqa{k:Nat}{hp:Heap}{g g':Nat}(h:∃p∈hp,p.2.gen=g)(h':∃p∈hp,p.2.gen=g')(he:Zcr k hp g=Zcr k hp g'):g=g':=by
 grind[Zcr,zc5,zhn]
theorem Rel.norm{ex:Bool}{k:Nat}{live:List Nat}(hk:cx.clk0=k+1)(hr:Rel cx st a w):Rel cx (Zc6 ex k live st) a w:=by
 obtain⟨S,M,hr⟩:=hr;generalize hids:Zc5 st.heap 40 (Zk9 k++(live.map fun t=>(t,st.env.get t)).flatMap fun p=>rfA p.2) []=ids;generalize hhp:Zd3 st.heap ids=hp;have hn:Zc6 ex k live st=⟨(live.map fun t=>(t,st.env.get t)).map fun p=>(p.1,rlA id (Zcr k hp) (wkIf ex p.2)),hp.map fun p=>(p.1,Z9 ex id (Zcr k hp) p.2),k+hp.length+2⟩:=by
  rw[←hhp,←hids];rfl
 have hlk:∀b bx,hp.lookup b=some bx→st.heap.lookup b=some bx:=by
  intro b bx hb;have:=za8 _ _ _ hb;rw[←hhp]at this;exact zfc this
 have hml:∀p∈hp,hp.lookup p.1=some p.2:=by
  intro p hm;rw[←hhp]at hm ⊢;exact zmd hm
 classical
 generalize hM':(fun g'=>if h:∃g,(∃p∈hp,p.2.gen=g)∧Zcr k hp g=g' then M (Classical.choose h) else none:Map)=M';have hM1:∀g,(∃p∈hp,p.2.gen=g)→M' (Zcr k hp g)=M g:=by
  intro g hg;rw[←hM'];have h:∃g0,(∃p∈hp,p.2.gen=g0)∧Zcr k hp g0=Zcr k hp g:=⟨g,hg,rfl⟩;simp only[dif_pos h];rw[zqa (Classical.choose_spec h).1 hg (Classical.choose_spec h).2]
 have hM2:∀g' m,M' g'=some m→∃g,(∃p∈hp,p.2.gen=g)∧Zcr k hp g=g'∧M g=some m:=by
  grind
 have hrl:Rlb M M' st.clk (k+hp.length+2) (Zcr k hp):=by
  refine⟨fun g hg=>⟨?_,?_⟩⟩
  ·by_cases hin:∃p∈hp,p.2.gen=g
   ·grind
   ·right;cases hm:M' (Zcr k hp g) with
    | none=>rfl
    | some m=>
     obtain⟨g1,h1,h2,_⟩:=hM2 _ _ hm;have hlt:=zgn hp g1 (k+1) h1
     grind[zki,zc5,Zcr]
  grind[zc5,Zcr]
 have hw:=hr.wr;refine⟨S,M',?_⟩;rw[hn];refine⟨hr.size,hr.defers,fun t=>?_,?_⟩
 ·rw[Ycw];have e1:Env.get (live.map fun t=>(t,rlA id (Zcr k hp) (wkIf ex (st.env.get t)))) t=(if t∈live then some (rlA id (Zcr k hp) (wkIf ex (st.env.get t))) else none).getD .dead:=by
   rw[←zok live (fun t=>rlA id (Zcr k hp) (wkIf ex (st.env.get t)))];rfl
  show C w S M' _ _ (Env.get (live.map fun t=>(t,rlA id (Zcr k hp) (wkIf ex (st.env.get t)))) t);rw[e1];split
  ·exact((hr.env t).wkIf ex).rlA hrl
  ·exact .p (.dead _)
 ·refine hw.rl (ex:=ex) (σn:=id) (σg:=Zcr k hp) (D:=fun g=>∃p∈hp,p.2.gen=g) hrl (by grind) (fun g m hg hm=>?_) (fun b' bx' hb=>?_) (fun g' m hm=>?_) (fun g1 g2 hd1 hd2 hg=>?_) (fun g' m hm=>?_)
  ·grind[zc5,Zcr]
  ·rw[zd9 (fun _ bx=>Z9 ex id (Zcr k hp) bx) b' hp]at hb;obtain⟨bx,h1,rfl⟩:=map_some hb;exact⟨b',bx,hlk _ _ h1,rfl,hM1 _ ⟨_,za8 _ _ _ h1,rfl⟩,rfl,⟨_,za8 _ _ _ h1,rfl⟩⟩
  ·obtain⟨g1,⟨p,h1,h1'⟩,h2,h3⟩:=hM2 _ _ hm;refine⟨p.1,Z9 ex id (Zcr k hp) p.2,?_,by show Zcr k hp p.2.gen=g';grind⟩;rw[zd9 (fun _ bx=>Z9 ex id (Zcr k hp) bx) p.1 hp,hml p h1]
   rfl
  ·exact zqa hd1 hd2 hg
  grind
theorem Rel.nil(t:Nat)(id:BId)(z:Nat)(hx:st.env.get t=.sl [] .nl)(hr0:Rel cx st a w):Rel cx ⟨(t,.bs id st.clk z 0 0)::st.env,(id,⟨st.clk,.own,z,[]⟩)::st.heap,st.clk+1⟩ a w:=by
 obtain⟨S,M,hr⟩:=hr0;refine⟨S,Zcq M ((id,⟨st.clk,.own,z,[]⟩)::st.heap) st.clk none,?_⟩;have h1:=hr.set (id:=id) (bx':=⟨st.clk,.own,z,[]⟩) (k':=none) (touched:=none) (clk':=st.clk+1) (Yba _) (.inl rfl) (fun hlt=>absurd hlt (Ya6 _)) (Touch.of_below (Below.refl _ _)) (fun k hk=>by grind)
  ⟨Yv _,fun r hr=>by grind,none,zan _ _ _ _,rfl,by simp⟩
 refine⟨h1.size,h1.defers,fun t'=>?_,h1.wr⟩;have e1:Env.get ((t,AV.bs id st.clk z 0 0)::st.env)=upd st.env.get (some t) (.bs id st.clk z 0 0):=zb0 st.env (some t) _;rw[e1];simp only[upd];split
 ·rename_i ht;subst ht;have hv:=hr.env t';rw[hx]at hv;have hv2:a.tmps.getD t' undef=.slice none 0 0:=by
   rcases hv.inv_sl.inv_sl with ⟨_,b0,hv,_,hb2⟩ | ⟨_,_,_,_,_,_,hf,_⟩
   all_goals grind
  rw[hv2];refine .bs _ _ _ _ _ _ (Yv _) ?_ rfl
  grind[Zf2,zan]
 ·exact h1.env t'
theorem Rel.shr(t:Nat){y:AV}(hy:frz st.heap (st.env.get t)=some y)(hr0:Rel cx st a w):Rel cx ⟨st.env,Zk (refs (st.env.get t)) st.heap,st.clk⟩ a w:=by
 obtain⟨S,M,hr⟩:=hr0;exact⟨_,M,hr.share (refs (st.env.get t)) (zc3 hy)⟩
theorem Rel.frz(t:Nat){y:AV}(hy:frz st.heap (st.env.get t)=some y)(hr0:Rel cx st a w):Rel cx ⟨(t,y)::st.env,Zk (refs (st.env.get t)) st.heap,st.clk⟩ a w:=by
 obtain⟨S,M,hr⟩:=hr0;have hk:=zc3 hy;refine⟨Zbl st.heap M (refs (st.env.get t)) S,M,?_⟩;have h1:=hr.share (refs (st.env.get t)) hk;refine⟨h1.size,h1.defers,fun t'=>?_,h1.wr⟩;have e1:Env.get ((t,y)::st.env)=upd st.env.get (some t) y:=zb0 st.env (some t) _;rw[e1];simp only[upd];split
 ·rename_i ht;subst ht;exact .p (ztr hr.wr.heap (hr.env t') hy fun id hid=>hid)
 ·exact h1.env t'
theorem Rel.fld(b id:BId)(z i o:Nat){bx:Box}{r:List AV}(hb:st.heap.lookup b=some bx)(hk:bx.kind=.str)(hi:bx.els[i]? = some r)(ho:r[o]? = some (.sl [] .nl))(hid:st.heap.lookup id=none)(hr0:Rel cx st a w):Rel cx ⟨st.env,(b,{ bx with els:=bx.els.set i (r.set o (.bs id st.clk z 0 0)) })::(id,⟨st.clk,.own,z,[]⟩)::st.heap,st.clk+1⟩ a w:=by
 obtain⟨S,M,hr⟩:=hr0;refine⟨S,Zcq M ((id,⟨st.clk,.own,z,[]⟩)::st.heap) st.clk none,?_⟩;have h1:=hr.set (id:=id) (bx':=⟨st.clk,.own,z,[]⟩) (k':=none) (touched:=none) (clk':=st.clk+1) (Yba _) (.inl rfl) (fun hlt=>absurd hlt (Ya6 _)) (Touch.of_below (Below.refl _ _)) (fun k hk=>by grind)
  ⟨Yv _,fun r hr=>by grind,none,zan _ _ _ _,rfl,by simp⟩
 have hb1:List.lookup b ((id,(⟨st.clk,.own,z,[]⟩:Box))::st.heap)=some bx:=by grind
 have hw:=h1.wr;generalize hM':Zcq M ((id,⟨st.clk,.own,z,[]⟩)::st.heap) st.clk none=M' at *
 have hself:M' st.clk=some none:=by rw[←hM'];exact zan _ _ _ _
 generalize hbx':({ bx with els:=bx.els.set i (r.set o (.bs id st.clk z 0 0)) }:Box)=bx' at *
 have hgen:bx'.gen=bx.gen:=by grind
 have hz:bx'.z=bx.z:=by grind
 have hkk:bx'.kind=bx.kind:=by grind
 have hbox:Zbr w S M' (st.clk+1) bx':=by
  obtain⟨b1,b2,m,hm1,b3⟩:=hw.heap.box b bx hb1;refine⟨by omega,fun r' hr'=>?_,m,by grind,?_⟩
  ·grind
  ·cases m with
   | none=>
    grind
   | some k=>
    have hmp:bx.kind≠.mp:=by rw[hk];simp
    obtain⟨arr,e,hh,hsz,hcc,hns,hlt⟩:=ck' hmp b3;refine ck (by rw[hkk];exact hmp) ⟨arr,e,hh,by grind,fun i' r' j c' hi' hj=>?_,by grind,by grind⟩;rw[←hbx']at hi';simp only[List.getElem?_set]at hi';rw[hz,hkk];split at hi'
    ·rename_i hii;subst hii;split at hi'
     ·cases hi';rw[List.getElem?_set]at hj;split at hj
      ·rename_i hjo;subst hjo;split at hj
       ·cases hj;obtain⟨u,hu,hu1,hC,hP⟩:=hcc i r o _ hi ho;refine⟨u,hu,hu1,?_,fun hne'=>absurd hk hne'⟩;have hv2:u=.slice none 0 0:=by
         rcases hC.inv_sl.inv_sl with ⟨_,b0,hv,_,hb2⟩ | ⟨_,_,_,_,_,_,hf,_⟩
         all_goals grind
        rw[hv2];refine .bs _ _ _ _ _ _ (Yv _) ?_ rfl
        grind[Zf2]
       grind
      grind
     grind
    grind
 have to:∀q x,List.lookup q ((b,bx')::(id,(⟨st.clk,.own,z,[]⟩:Box))::st.heap)=some x→∃x0,List.lookup q ((id,(⟨st.clk,.own,z,[]⟩:Box))::st.heap)=some x0∧x0.gen=x.gen:=by
  grind
 refine⟨h1.size,h1.defers,h1.env,⟨⟨fun q x hq=>?_,fun g m hm=>?_,fun q1 x1 q2 x2 hq1 hq2 hg=>?_,hw.heap.inj⟩,hw.ext,hw.fr,hw.Snew,hw.Slt,hw.Mnew⟩⟩
 ·by_cases hqb:q=b
  ·grind
  ·rw[za7 _ _ hqb]at hq;exact hw.heap.box q x hq
 ·obtain⟨q,x,hq,hg⟩:=hw.heap.live g m hm;by_cases hqb:q=b
  ·grind[zbt]
  ·exact⟨q,x,by grind,hg⟩
 ·obtain⟨y1,hy1,e1⟩:=to q1 x1 hq1;obtain⟨y2,hy2,e2⟩:=to q2 x2 hq2;exact hw.heap.gens _ _ _ _ hy1 hy2 (by rw[e1,e2,hg])
theorem Rel.str(b:BId){bx:Box}{r:List AV}{i:Nat}(hb:st.heap.lookup b=some bx)(hk:bx.kind≠.sh)(hmp:bx.kind≠.mp)(hi:bx.els[i]? = some r)(hr0:Rel cx st a w):Rel cx ⟨st.env,(b,{ bx with kind:=.str })::st.heap,st.clk⟩ a w:=by
 obtain⟨S,M,hr⟩:=hr0;refine⟨S,M,?_⟩;have hw:=hr.wr;generalize hbx':({ bx with kind:=.str }:Box)=bx' at *
 have hgen:bx'.gen=bx.gen:=by grind
 have hbox:Zbr w S M st.clk bx':=by
  obtain⟨b1,b2,m,hm1,b3⟩:=hw.heap.box b bx hb;refine⟨by omega,by grind,m,by grind,?_⟩;cases m with
  | none=>grind
  | some k=>
   obtain⟨arr,e,hh,hsz,hcc,hns,hlt⟩:=ck' hmp b3;refine ck (by rw[←hbx'];simp) ⟨arr,e,hh,by grind,fun i' r' j c' hi' hj=>?_,by grind,by grind⟩;obtain⟨u,h1,h2,h3,h4⟩:=hcc i' r' j c' (by grind) hj;exact⟨u,by grind,h2,h3,by grind⟩
 have to:∀q x,List.lookup q ((b,bx')::st.heap)=some x→∃x0,List.lookup q st.heap=some x0∧x0.gen=x.gen:=by
  grind
 refine⟨hr.size,hr.defers,hr.env,⟨⟨fun q x hq=>?_,fun g m hm=>?_,fun q1 x1 q2 x2 hq1 hq2 hg=>?_,hw.heap.inj⟩,hw.ext,hw.fr,hw.Snew,hw.Slt,hw.Mnew⟩⟩
 ·by_cases hqb:q=b
  ·grind
  ·rw[za7 _ _ hqb]at hq;exact hw.heap.box q x hq
 ·obtain⟨q,x,hq,hg⟩:=hw.heap.live g m hm;by_cases hqb:q=b
  ·grind[zbt]
  ·exact⟨q,x,by grind,hg⟩
 ·obtain⟨y1,hy1,e1⟩:=to q1 x1 hq1;obtain⟨y2,hy2,e2⟩:=to q2 x2 hq2;exact hw.heap.gens _ _ _ _ hy1 hy2 (by rw[e1,e2,hg])
theorem Rel.gh{k:Nat}{g:Gh}{st':St}(hk:cx.clk0=k+1)(hg:ghS k g st=some st')(hr:Rel cx st a w):Rel cx st' a w:=by
 cases g with
 | nil t z=>
  simp only[ghS]at hg;split at hg<;>cases hg;rename_i hx;exact hr.nil t _ z hx
 | frz t=>
  obtain⟨y,hy,rfl⟩:=map_some hg;exact hr.frz t hy
 | shr t=>
  simp only[ghS]at hg;obtain⟨y,hy,rfl⟩:=map_some hg;exact hr.shr t hy
 | norm ex live=>
  cases hg;exact hr.norm hk
 | trm live=>
  cases hg;have key:∀(l:List Nat) (t:Nat) (x:AV),(l.map fun t=>(t,st.env.get t)).lookup t=some x→st.env.get t=x:=by
   intro l
   induction l with
   | nil=>simp
   | cons a l ih=>grind [List.lookup]
  have hs:Sub st ⟨live.map fun t=>(t,st.env.get t),st.heap,st.clk⟩:=⟨fun t x h=>key _ _ _ h,fun b bx h=>⟨bx,h,.inl rfl⟩,Yd _⟩;exact Rel.sub hs hr
 | opn t j z=>
  simp only[ghS]at hg;split at hg<;>try (cases hg;done)
  split at hg<;>try (cases hg;done)
  rename_i bx hbx;split at hg<;>try (cases hg;done)
  rename_i r hi;split at hg<;>cases hg;rename_i hc;have hb:=(zaq hbx).1;have h1:=hr.str _ hb hc.1 (zcn hbx) hi;have hn:∀b o,BId.fld b o≠b:=fun b o h=>by
   have h2:SizeOf.sizeOf (BId.fld b o)=SizeOf.sizeOf b:=by rw[h]
   simp at h2;omega
  have h2:=h1.fld (bx:={ bx with kind:=.str }) _ (.fld _ _) z _ 0 (zbt _ _ _) rfl hi rfl (by rw[za7 _ _ (hn _ _)];simpa using hc.2);refine Rel.sub ?_ h2;constructor
  ·intro t x h;show (st.env.lookup t).getD .dead=x;rw[show st.env.lookup t=some x from h]
   rfl
  ·intro b' bx' h;refine⟨bx',?_,.inl rfl⟩;simp only[Ydj]
   grind
  ·exact Yd _
 | shi t j=>
  simp only[ghS]at hg;split at hg<;>try (cases hg;done)
  split at hg<;>try (cases hg;done)
  split at hg<;>try (cases hg;done)
  obtain⟨y,hy,rfl⟩:=map_some hg;obtain⟨S,M,hr⟩:=hr;exact⟨_,M,hr.share (refs _) (zc3 hy)⟩
 | shf t i o=>
  simp only[ghS]at hg;split at hg<;>try (cases hg;done)
  split at hg<;>try (cases hg;done)
  split at hg<;>try (cases hg;done)
  split at hg<;>try (cases hg;done)
  obtain⟨y,hy,rfl⟩:=map_some hg;obtain⟨S,M,hr⟩:=hr;exact⟨_,M,hr.share (refs _) (zc3 hy)⟩
 | fld t i o z=>
  simp only[ghS]at hg;split at hg<;>try (cases hg;done)
  split at hg<;>try (cases hg;done)
  rename_i bx hbx;split at hg<;>try (cases hg;done)
  rename_i r hi;split at hg<;>try (cases hg;done)
  rename_i ho;split at hg<;>cases hg;rename_i hc;exact hr.fld _ _ z i o (zaq hbx).1 hc.1 hi ho (by simpa using hc.2)
end
end
section
open Go.RowKit
theorem zme:∀(l:Heap) (g j:Nat),(∃p∈l,p.2.gen=g)→∃q,l[Zcf l g j-j]? = some q∧q.2.gen=g∧j≤Zcf l g j
 | [],g,j,h=>by grind
 | p::l,g,j,h=>by
  simp only[Zcf];split
  ·grind
  ·obtain⟨q,hq,he⟩:=h;have hq':q∈l:=by
    grind
   obtain⟨q2,h1,h2,h3⟩:=zme l g (j+1) ⟨q,hq',he⟩
   grind
theorem zjd:∀(l:List BId) (b b':BId) (j:Nat),b∈l→b'∈l→Ze0 l b j=Ze0 l b' j→b=b'
 | [],b,b',j,h,_,_=>by cases h
 | c::l,b,b',j,h,h',he=>by
  have low:∀(l:List BId) (x:BId) (j:Nat),j≤Ze0 l x j:=by
   intro l x
   induction l with
   | nil=>intro j;exact Yd _
   | cons y l ih=>intro j;simp only[Ze0];split;exact Yd _;exact Yc (Yba j) (ih (j+1))
  simp only[Ze0]at he;have l1:=low l b (j+1);have l2:=low l b' (j+1);split at he<;>split at he
  ·rename_i h1 h2;rw[←h1,←h2]
  ·omega
  ·omega
  ·rename_i h1 h2;have tl:∀x,c≠x→x∈c::l→x∈l:=by
    intro x hne hx;rcases Y6.1 hx with rfl | hx
    ·exact absurd rfl hne
    ·exact hx
   exact zjd l b b' (j+1) (tl b h1 h) (tl b' h2 h') he
theorem zdz{γ:Type}:∀(l:List (BId×γ)),(l.map (·.1)).Nodup→∀p∈l,l.lookup p.1=some p.2:=by
 intro l hn p hp
 induction l with
 | nil=>grind
 | cons q l ih=>
  grind
theorem zho{α:Type}:∀(l:List α),l.Nodup→∀(i j:Nat) (x:α),l[i]? = some x→l[j]? = some x→i=j
 | [],_,i,j,x,h,_=>by simp at h
 | y::l,hn,i,j,x,hi,hj=>by
  simp only[Yd4]at hn;cases i with
  | zero=>
   cases j with
   | zero=>rfl
   | succ j=>
    simp at hi hj;subst hi;exact absurd (Yg hj) hn.1
  | succ i=>
   cases j with
   | zero=>
    simp at hi hj;subst hj;exact absurd (Yg hi) hn.1
   | succ j=>rw[zho l hn.2 i j x hi hj]
theorem Zd0.rl{P:Program}{f:FuncId}{ys:List AV}{hp:Heap}{clk d:Nat}{ex:Bool}{l:List BId}{r0:AV}{hb':Heap}{c':Nat}
  (hkeys:hp.map (·.1)=l) (hnd:l.Nodup)
  (hnd2:((hb'.map fun p=>(Zay l d p.1,Z9 true (Zay l d) (Zbb hp clk) p.2)).map (·.1)).Nodup)
  (hA:Zd0 P f (ys.map fun y=>rlA (inN l) (inG hp) (wkIf ex y)) (hp.map fun p=>(inN l p.1,Z9 ex (inN l) (inG hp) p.2)) (hp.length+1) (fun r h c=>r=r0∧h=hb'∧c=c')) :
  Zd0 P f ys hp clk (fun r h c=>r=rlA (Zay l d) (Zbb hp clk) r0∧h=hb'.map (fun p=>(Zay l d p.1,Z9 true (Zay l d) (Zbb hp clk) p.2))∧c=clk+(c'-hp.length)):=by
 refine⟨hA.1,fun w S M cargs hl hC hh hS hM=>?_⟩;have hml:∀p∈hp,hp.lookup p.1=some p.2:=zdz hp (by grind);have hnd':(hb'.map (·.1)).Nodup:=by
  grind
 classical
 -- the call's own numbering
 generalize hM1:(fun g'=>if h:∃g,(∃p∈hp,p.2.gen=g)∧inG hp g=g' then M (Classical.choose h) else none:Map)=M1;have inj1:∀g1 g2,(∃p∈hp,p.2.gen=g1)→(∃p∈hp,p.2.gen=g2)→inG hp g1=inG hp g2→g1=g2:=fun g1 g2 h1 h2 he=>zhn hp g1 g2 0 h1 h2 he;have hM1a:∀g,(∃p∈hp,p.2.gen=g)→M1 (inG hp g)=M g:=by
  intro g hg;rw[←hM1];have h:∃g0,(∃p∈hp,p.2.gen=g0)∧inG hp g0=inG hp g:=⟨g,hg,rfl⟩;simp only[dif_pos h];rw[inj1 _ _ (Classical.choose_spec h).1 hg (Classical.choose_spec h).2]
 have hM1b:∀g' m,M1 g'=some m→∃g,(∃p∈hp,p.2.gen=g)∧inG hp g=g'∧M g=some m:=by
  grind
 have rl1:Rlb M M1 clk (hp.length+1) (inG hp):=by
  refine⟨fun g _=>⟨?_,?_⟩⟩
  ·by_cases hin:∃p∈hp,p.2.gen=g
   ·grind
   ·right;cases hm:M1 (inG hp g) with
    | none=>rfl
    | some m=>
     obtain⟨g1,h1,h2,_⟩:=hM1b _ _ hm;have hlt:=zgn hp g1 0 h1
     grind[zki,inG]
  grind[zc5,inG]
 have mem_keys:∀p∈hp,p.1∈l:=fun p hpm=>by grind
 have heap1:HeapRel w S M1 (hp.length+1) (hp.map fun p=>(inN l p.1,Z9 ex (inN l) (inG hp) p.2)):=by
  refine hh.rl (ex:=ex) (σn:=inN l) (σg:=inG hp) (D:=fun g=>∃p∈hp,p.2.gen=g) rl1 (fun b' bx' hb=>?_) (fun g' m hm=>?_) inj1 (fun g' m hm=>?_)
  ·obtain⟨p,hpm,he⟩:=Yz.1 (za8 _ _ _ hb)
   grind
  ·obtain⟨g1,⟨p,hpm,h1⟩,h2,h3⟩:=hM1b _ _ hm;obtain⟨x,hx⟩:=zf0 (hp.map fun p=>(inN l p.1,Z9 ex (inN l) (inG hp) p.2)) (inN l p.1,Z9 ex (inN l) (inG hp) p.2) (Yz.2 ⟨p,hpm,rfl⟩);refine⟨_,x,hx,?_⟩;obtain⟨q,hqm,he⟩:=Yz.1 (za8 _ _ _ hx);simp only[Prod.mk.injEq]at he;have hqp:q.1=p.1:=by
    grind[inN,zjd]
   have:q.2=p.2:=by
    grind
   rw[←he.2,this];show inG hp p.2.gen=g'
   grind
  grind
 have range1:∀g k,M1 g=some (some k)→∃g0,M g0=some (some k):=fun g k hm=>let ⟨g1,_,_,h3⟩:=hM1b g _ hm;⟨g1,h3⟩
 refine(hA.2 w S M1 cargs (by grind) (fun j v c hv hc=>?_) heap1 hS (fun g k hm=>let ⟨g0,h0⟩:=range1 g k hm;hM g0 k h0)).mono ?_
 ·obtain⟨c0,h1,rfl⟩:=getElem?_mapped hc;exact((hC j v c0 hv h1).wkIf ex).rlA rl1
 intro e w' ⟨v,r,h',S',M2,clk2,he,⟨hr0,hh',hc2⟩,hCr,hw⟩;subst hr0;subst hh';subst hc2;have hw:=hw 0
 -- back
 have gens:∀(i:Nat) p,hp[i]? = some p→∀(j:Nat) q,hp[j]? = some q→p.2.gen=q.2.gen→i=j:=by
  intro i p hi j q hj hg;have h1:=hh.gens _ _ _ _ (hml p (Yg hi)) (hml q (Yg hj)) hg;refine zho l hnd i j p.1 ?_ ?_
  all_goals grind
 have low:∀g m,M2 g=some m→g<hp.length∨hp.length+1≤g:=by
  intro g m hm;rcases Yt g (hp.length+1) with h1 | h1
  ·obtain⟨g1,h2,h3,_⟩:=hM1b g m (hw.ext.hM g m h1 hm);have:=zgn hp g1 0 h2;unfold inG at h3;omega
  omega
 have outLt:∀g,g<hp.length→∃p,hp[g]? = some p∧Zbb hp clk g=p.2.gen∧p.2.gen<clk:=by
  intro g hg;have h1:hp[g]? = some (hp[g]'hg):=Ya hg;refine⟨_,h1,by simp[Zbb,h1],(hh.box _ _ (hml _ (Ys hg))).1⟩
 have outGe:∀g,hp.length≤g→Zbb hp clk g=clk+(g-hp.length):=by
  grind[Zbb]
 have inj2:∀g1 g2,(∃m,M2 g1=some m)→Zbb hp clk g1=Zbb hp clk g2→g1=g2:=by
  intro g1 g2 ⟨m,hm⟩ he;rcases Yt g1 hp.length with h1 | h1<;>rcases Yt g2 hp.length with h2 | h2
  all_goals grind
 generalize hM3:(fun g'=>if h:∃g,(∃m,M2 g=some m)∧Zbb hp clk g=g' then M2 (Classical.choose h) else none:Map)=M3;have hM3a:∀g,(∃m,M2 g=some m)→M3 (Zbb hp clk g)=M2 g:=by
  intro g hg;have h:∃g0,(∃m,M2 g0=some m)∧Zbb hp clk g0=Zbb hp clk g:=⟨g,hg,rfl⟩
  grind
 have hM3b:∀g' m,M3 g'=some m→∃g,Zbb hp clk g=g'∧M2 g=some m:=by
  grind
 have rl2:Rlb M2 M3 clk2 (clk+(clk2-hp.length)) (Zbb hp clk):=by
  refine⟨fun g hg=>⟨?_,?_⟩⟩
  ·grind
  ·rcases Yt g hp.length with h1 | h1
   all_goals grind
 have back:∀g m,g<clk→M3 g=some m→∃g1,g1<hp.length∧M2 g1=some m∧M1 g1=some m∧M g=some m:=by
  intro g m hg hm;obtain⟨g1,h1,h2⟩:=hM3b _ _ hm;have hlt:g1<hp.length:=by
   grind
  have h3:=hw.ext.hM g1 m (by grind) h2;obtain⟨g2,h4,h5,h6⟩:=hM1b _ _ h3;obtain⟨p,a1,a2,_⟩:=outLt g1 hlt;obtain⟨q,b1,b2,_⟩:=zme hp g2 0 h4
  grind[inG]
 refine⟨v,_,_,S',M3,_,he,⟨rfl,rfl,rfl⟩,hCr.rlA rl2,fun nt=>⟨?_,?_,?_,fun k o hs=>?_,hw.Slt,fun g k hm=>?_⟩⟩
 ·refine hw.heap.rl (ex:=true) (σn:=Zay l d) (σg:=Zbb hp clk) (D:=fun g=>∃m,M2 g=some m) rl2 (fun b' bx' hb=>?_) (fun g' m hm=>?_) (fun g1 g2 h1 _ he=>inj2 g1 g2 h1 he) (fun g' m hm=>?_)
  ·obtain⟨p,hpm,he⟩:=Yz.1 (za8 _ _ _ hb);cases he;have h1:=zdz h' hnd' p hpm;obtain⟨_,_,m,hm,_⟩:=hw.heap.box _ _ h1
   grind
  ·obtain⟨g1,h1,h2⟩:=hM3b _ _ hm;obtain⟨b,bx,h3,h4⟩:=hw.heap.live g1 m h2;refine⟨Zay l d b,Z9 true (Zay l d) (Zbb hp clk) bx,?_,by show Zbb hp clk bx.gen=g';grind⟩;exact zdz _ hnd2 (Zay l d b,Z9 true (Zay l d) (Zbb hp clk) bx) (Yz.2 ⟨(b,bx),za8 _ _ _ h3,rfl⟩)
  grind
 ·refine⟨hw.ext.hS,hw.ext.hcell,by grind,fun g m hg hm=>?_,fun g k arr e hg hm hb=>?_⟩
  ·grind
  ·obtain⟨g1,h1,h2,_,_⟩:=back g _ hg hm;exact hw.ext.hblk g1 k arr e (by grind) h2 hb
 ·exact⟨hw.fr.os,hw.fr.tape,hw.fr.output,hw.fr.size,fun k hk hn=>hw.fr.block k hk fun⟨g,hm⟩=>hn (range1 g k hm)⟩
 ·rcases hw.Snew k o hs with h1 | h1 | ⟨g,h1⟩
  ·grind
  ·grind
  ·exact .inr (.inr (range1 g k h1))
 ·obtain⟨g1,h1,h2⟩:=hM3b _ _ hm;obtain⟨h3,h4⟩:=hw.Mnew g1 k h2;refine⟨h3,?_⟩;rcases h4 with h4 | ⟨g,h4⟩
  ·grind
  ·exact .inr (range1 g k h4)
theorem Zat.wk{P:Program}{f:FuncId}{xs:List AV}{post:AV→Prop}{ex:Bool}(h:Zat P f (xs.map (wkIf ex)) post):Zat P f xs post:=
 ⟨h.1,fun w S cargs hl hC hS=>h.2 w S cargs (by grind) (fun j v c hv hc=>by
  obtain⟨c0,h1,rfl⟩:=getElem?_mapped hc;exact(hC j v c0 hv h1).wkIf ex) hS⟩
end
section
open Go.RowKit
def Zd6(ν:Nat→FuncId)(τ:Nat→Nat):AOp→AOp
 | .call u args=>.call (ν u) args
 | .ifc k x=>.ifc (τ k) x
 | .inv nm _ _ r args=>.inv nm 0 (if nm="()" then 1 else 0) r args
 | .xop (.mkf k) xs=>.xop (.mkf (τ k)) xs
 | .xop (.mkv k) xs=>.xop (.mkv (τ k)) xs
 | op=>op
def Zx(ν:Nat→FuncId)(τ:Nat→Nat)(o:AO):AO:=⟨o.dst,o.guard,Zd6 ν τ o.op⟩
def Zd7(ν:Nat→FuncId)(τ:Nat→Nat)(o:DO):DO:=⟨Zx ν τ o.ao,o.lo,o.hi⟩
def er(ν:Nat→FuncId)(τ:Nat→Nat):AX→AC
 | .skip=>.skip
 | .reg l=>.reg (l.map (Zx ν τ))
 | .draw l=>.draw (l.map (Zd7 ν τ))
 | .seq a b=>.seq (er ν τ a) (er ν τ b)
 | .cond c x y=>.cond c (er ν τ x) (er ν τ y)
 | .block id c=>.block id (er ν τ c)
 | .loop c=>.loop (er ν τ c)
 | .exit id=>.exit id
 | .ret=>.ret
 | .note c _=>er ν τ c
 | .pre _ c=>er ν τ c
 | .scope c=>.scope (er ν τ c)
 | .lp id _ c _=>.block id (.loop (er ν τ c))
 | .bad=>.bad
 | .drawT hd tl=>.drawT (hd.map (Zx ν τ)) (tl.map (Zx ν τ))
 | .drawM hd tl=>.drawM (hd.map (Zx ν τ)) (tl.map (Zx ν τ))
 | .drawC l1 o l2 tl=>.drawT (l1.map (Zx ν τ)++Zx ν τ o::l2.map (Zx ν τ)) (tl.map (Zx ν τ))
 | .drawN l1 o l2=>.draw (l1.map (Zd7 ν τ) ++ ⟨Zx ν τ o,0,0⟩::l2.map (Zd7 ν τ))
 | .prim _=>.bad
 | .label l=>.label l
 | .goto l=>.goto l
 | .gsc l c r=>.gsc l (er ν τ c) (er ν τ r)
def erF(ν:Nat→FuncId)(τ:Nat→Nat)(af:AFx):AF:=⟨af.np,af.nt,af.res,er ν τ af.body⟩
def Ex.out:Ex→Exit
 | .n=>.normal
 | .x id=>.exit id
 | .r=>.ret
 | .g l=>.goto l
def LWp(cx:Cx)(c:AC)(Q:Exit→St→Prop)(st:St):Prop:=
 ∀code,Zm cx.P cx.nt code=some c→cx.P.follows .mixedOrders=true→∀a w,Rel cx st a w→∀(b:Frame) (k:List Item) (cs:List Frame),
  ∃e a' w',(∃st',Q e st'∧Rel cx st' a' w')∧Arrives cx.P (lone (b.at a (.code code :: .inLoop code::k)) cs w) b k cs e a' w'
theorem zyw{cx:Cx}{c:AC}{Q:Exit→St→Prop}{st:St}(h:AWp cx c (Ziu (fun s=>LWp cx c Q s) Q) st):LWp cx c Q st:=by
 intro code hc hm a w hr b k cs;obtain⟨ex,a1,w1,⟨st1,hq1,hrel1⟩,harr⟩:=h code hc hm a w hr b (.inLoop code::k) cs;cases ex with
 | normal=>
  obtain⟨e2,a2,w2,hq2,harr2⟩:=hq1 code hc hm a1 w1 hrel1 b k cs;exact⟨e2,a2,w2,hq2,.of_steps (Steps.trans harr (.one step_inLoop)) harr2⟩
 | exit id=>exact⟨_,a1,w1,⟨st1,hq1,hrel1⟩,.pass (x:=.inLoop code) rfl (fun _ _=>.inl (by simp)) harr⟩
 | goto l=>exact⟨_,a1,w1,⟨st1,hq1,hrel1⟩,.pass (x:=.inLoop code) rfl (fun _ _=>.inl (by simp)) harr⟩
 | ret=>exact⟨_,a1,w1,⟨st1,hq1,hrel1⟩,.pass (x:=.inLoop code) rfl (fun _ _=>.inl (by simp)) harr⟩
 | panic ch=>exact⟨_,a1,w1,⟨st1,hq1,hrel1⟩,.pass (x:=.inLoop code) rfl (fun _ _=>.inl (by simp)) harr⟩
 | outgrown=>exact⟨_,a1,w1,⟨st1,hq1,hrel1⟩,.pass (x:=.inLoop code) rfl (fun _ _=>.inl (by simp)) harr⟩
theorem zhp{cx:Cx}{c:AC}{Q:Exit→St→Prop}{st:St}(h:LWp cx c Q st):AWp cx (.loop c) Q st:=by
 intro code hc hm a w hr;have hcode:=hc;cases code<;>simp only[Zm]at hc<;>try cases hc
 case loop c1=>
  obtain⟨x',hx,he⟩:=map_some hc;cases he;intro b k cs;obtain⟨e,a',w',hq,harr⟩:=h c1 hx hm a w hr b k cs;exact⟨e,a',w',hq,.of_steps (.one step_loop) harr⟩
 case region id ops draw=>
  rcases zah hcode with ⟨_,l,_,h1⟩ | ⟨_,l,_,⟨n,_,h1⟩ | ⟨_,h1⟩ | ⟨n,_,h1⟩ | h1⟩<;>cases h1
 all_goals simp[Yf]at hc
theorem LWp.mono{cx:Cx}{c:AC}{Q Q':Exit→St→Prop}{st:St}(h:LWp cx c Q st)(hq:∀ex st,Q ex st→Q' ex st):LWp cx c Q' st:=
 fun code hc hm a w hr b k cs=>let ⟨e,a',w',⟨st',h1,h2⟩,h3⟩:=h code hc hm a w hr b k cs;⟨e,a',w',⟨st',hq _ _ h1,h2⟩,h3⟩
def Is(e:Ex)(st':St):Exit→St→Prop:=fun ex s=>ex=e.out∧s=st'
theorem zc6{ν:Nat→FuncId}{τ:Nat→Nat}(op:AOp):(Zd6 ν τ op).writes=op.writes:=by
 cases op<;>first | rfl | (rename_i k xs;cases k<;>rfl)
theorem zyx(j:Nat):Zke j≠"()":=by
 unfold Zke
 grind
theorem zmf{T:Tbl}{k:Nat}{nm:String}{u:Nat}(h:(nm,u)∈Zae T k):nm≠"()":=by
 grind[Zae,Zfw,zyx]
structure GoodO (P:Program) (ν:Nat→FuncId) (T:Tbl) (O:Orc):Prop where
 meth:∀k nm u,(nm,u)∈Zae T k→Zdd P (Ze T k) nm=some (ν u)
 fnn:∀k u,Zg2 T k=some u→Ze T k=ν u
 pure:∀u af xs r h,T u=some af→af.lent=none→O.call u xs []=some (r,h)→Zat P (ν u) xs (·=r)
 lent:∀u af ms xs hb r hb',T u=some af→af.lent=some ms→O.call u xs hb=some (r,hb')→Zd0 P (ν u) xs hb (hb.length+1) (fun r1 h1 c1=>r1=r∧h1=hb'∧c1=hb.length+hb'.length+2)
 loop:∀k c st e st',O.loop k c st=some (e,st')→∀cx:Cx,cx.P=P→cx.clk0=k+1→LWp cx (er ν (Ze T) c) (Is e st') st
section
variable{P:Program}{ν:Nat→FuncId}{T:Tbl}{O:Orc}
theorem zis(q:BId→Bool)(h:Heap)(b:BId):(h.filter fun p=>!q p.1).lookup b=if q b=true then none else h.lookup b:=by
 induction h with
 | nil=>simp
 | cons p h ih=>
  grind
theorem zcz(hO:GoodO P ν T O){u:Nat}{xs:List AV}{d:Option Nat}{st st':St}{K:St→Prop}(h:Zc O T u xs d st=some st')(hK:K st') :
  Zf4 P (ν u) xs st.heap (fun r h=>K ⟨Zh st.env d r,h,st.clk⟩)∨Zf5 P (ν u) xs st.heap st.clk (fun r h c=>K ⟨Zh st.env d r,h,c⟩):=by
 unfold Zc at h;split at h
 ·cases h
 rename_i af hT;split at h
 ·rename_i hl;obtain⟨ys,h1,h2⟩:=bind_some h;obtain⟨r,h3,h4⟩:=bind_some h2;refine .inl ⟨ys,(·=r.1),h1,(hO.pure u af _ r.1 r.2 hT hl h3).wk,?_⟩
  grind
 ·rename_i ms hl;obtain⟨ys,h1,h2⟩:=bind_some h;simp only at h2;generalize hh1:Zk (Za1 ms xs) st.heap=h1' at *
  generalize hll:Zc5 h1' 40 (Zcs ms xs) []=l at *
  generalize hhp:Zd3 h1' l=hp at *
  split at h2
  ·rename_i hc;obtain⟨r,h3,h4⟩:=bind_some h2;generalize hhb:(r.2.map fun p=>(Zay l (d.getD 0) p.1,Z9 true (Zay l (d.getD 0)) (Zbb hp st.clk) p.2))=hb' at *
   split at h4
   ·rename_i hchk;cases h4;simp only[Yk,decide_eq_true_eq]at hchk;obtain⟨⟨k2,k3⟩,k4⟩:=hchk;have hmem:∀b bx,hp.lookup b=some bx→h1'.lookup b=some bx:=by
     intro b bx hb;have:=za8 _ _ _ hb;rw[←hhp]at this;exact zfc this
    have hin:∀b,(hp.lookup b).isSome=true↔b∈l:=by
     intro b;constructor
     ·intro hb;obtain⟨bx,hb⟩:=Yb2.1 hb;rw[←hc.1];exact Yz.2 ⟨_,za8 _ _ _ hb,rfl⟩
     ·intro hb;rw[←hc.1]at hb;obtain⟨p,hp1,rfl⟩:=Yz.1 hb;obtain⟨x,hx⟩:=zf0 _ _ hp1
      grind
    have hlk:∀id,(h1'.filter fun p=>!(l.contains p.1 || (hb'.map (·.1)).contains p.1)).lookup id=if (l.contains id || (hb'.map (·.1)).contains id)=true then none else h1'.lookup id:=
     fun id=>zis (fun b=>l.contains b || (hb'.map (·.1)).contains b) h1' id
    refine .inr ⟨ms,ys,h1,hp,h1'.filter (fun p=>!(l.contains p.1 || (hb'.map (·.1)).contains p.1)),_,⟨fun id bx hid=>?_,fun id bx hid=>?_⟩,fun id hid=>?_,Zd0.rl hc.1 hc.2 (by rw[hhb];omega) (by
     have:=hO.lent u af ms _ _ r.1 r.2 hT hl h3;rw[Yat]at this;exact this),?_⟩
    ·grind
    ·grind
    ·rw[hlk,if_pos (by grind)]
    ·rintro r' h' c' hle ⟨rfl,rfl,rfl⟩
     rw[hhb]
     grind
   grind
  grind
theorem zu7(hO:GoodO P ν T O){op:AOp}{d:Option Nat}{st st':St}{K:St→Prop}(h:opX O T op d st=some st')(hK:K st'):opK P (Zd6 ν (Ze T) op) d st K:=by
 cases op<;>simp only[opX]at h
 case call u args=>exact zcz hO h hK
 case ifc k x=>
  cases h;exact⟨_,rfl,hK⟩
 case inv nm k u r args=>
  split at h
  ·rename_i t y hy;split at h
   ·rename_i hc;obtain⟨rfl,hm⟩:=hc;exact .inl ⟨if_neg (zmf hm),_,y,_,hy,hO.meth k nm u hm,zcz hO h hK⟩
   grind
  ·rename_i f x hy;split at h
   ·rename_i hc;obtain⟨rfl,rfl,hm⟩:=hc;have hc:=zcz hO h hK;rw[←hO.fnn k u hm]at hc;exact .inr (.inl ⟨rfl,_,x,hy,hc⟩)
   grind
  ·rename_i f id g z i o hy;split at h
   ·rename_i hc;obtain⟨rfl,rfl,hm⟩:=hc;have hc:=zcz hO h hK;rw[←hO.fnn k u hm]at hc;exact .inr (.inr ⟨rfl,_,id,g,z,i,o,hy,z14 hm,hc⟩)
   grind
  grind
 case xop k xs=>
  cases k
  all_goals
   obtain⟨q,h1,rfl⟩:=map_some h;exact⟨q,h1,hK⟩
 all_goals
  obtain⟨q,h1,rfl⟩:=map_some h;exact⟨q,h1,hK⟩
theorem zmg(hO:GoodO P ν T O){o:AO}{st st':St}{K:St→Prop}(h:Zgu O T o st=some st')(hK:K st'):Zhk P (Zx ν (Ze T) o) st K:=by
 grind[Zgu,Zhk,Zx,zu7,gX]
theorem zdd(hO:GoodO P ν T O):∀(l:List AO) (st st':St) (K:St→Prop),Zd4 O T l st=some st'→K st'→Zdi P (l.map (Zx ν (Ze T))) st K
 | [],st,st',K,h,hK=>by cases h;exact hK
 | o::l,st,st',K,h,hK=>by
  obtain⟨s1,h1,h2⟩:=bind_some h;exact zmg hO h1 (zdd hO l s1 st' K h2 hK)
theorem zmh(hO:GoodO P ν T O){op:AOp}{e:Env}{h:Heap}{older:List Heap}{x:AV}{K:AV→Prop}(hx:opD O T op e h older=some x)(hK:K x):opQ P (Zd6 ν (Ze T) op) e h older K:=by
 by_cases hap:∃z x0 y,op=.app z x0 y
 ·obtain⟨z,x0,y,rfl⟩:=hap;by_cases hc:x0=.c (.sl [] .nl)
  ·subst hc;exact⟨x,hx,hK⟩
  ·exfalso;cases x0 with
   | t n=>simp[opD,Zg]at hx
   | c a=>
    cases a
    case sl els f=>
     cases els with
     | nil=>cases f<;>first | exact hc rfl | simp[opD,Zg]at hx
     | cons r l=>simp[opD,Zg]at hx
    all_goals simp[opD,Zg]at hx
 cases op<;>(try exact absurd ⟨_,_,_,rfl⟩ hap)<;>simp only[opD]at hx
 case call u args=>
  split at hx
  ·grind
  rename_i af hT;split at hx
  ·rename_i hc;simp only[Yk]at hc;obtain⟨r,h1,rfl⟩:=map_some hx;exact⟨_,⟨zdj hc.2,fun hf=>by grind⟩,r.1,(hO.pure u af _ r.1 r.2 hT (by simp_all) h1).wk,hK⟩
  grind
 case ifc k x=>
  cases hx;exact⟨_,rfl,trivial,hK⟩
 case inv nm k u r args=>
  split at hx
  ·rename_i t y hy;split at hx
   ·rename_i hc0;obtain⟨rfl,hm⟩:=hc0;split at hx
    ·grind
    rename_i af hT;split at hx
    ·rename_i hc;simp only[Yk]at hc;obtain⟨r,h1,rfl⟩:=map_some hx;exact⟨if_neg (zmf hm),_,y,_,hy,hO.meth k nm u hm,hc.2,r.1,(hO.pure u af _ r.1 r.2 hT (by simp_all) h1).wk,hK⟩
    grind
   grind
  grind
 case bsl z zs len ps=>
  split at hx
  ·rename_i hc;obtain⟨q,h1,rfl⟩:=map_some hx;exact⟨hc,q,h1,hK⟩
  grind
 case xop k xs=>
  simp_all
 all_goals
  obtain⟨q,h1,h2⟩:=bind_some hx;split at h2
  ·rename_i hc;cases h2;refine⟨_,h1,?_,hK⟩;rcases zr1 hc with hc | hc
   ·simp only[Zd6];rw[hc]
    trivial
   ·simp only[Zd6];split
    ·trivial
    ·exact hc
  ·cases h2
theorem zqb{o:AO}{e:Env}{h':Heap}{x:AV}(hf:o.op.free=false)(hw:o.op.writes=false)(hg:o.guard=none∨∃t want,o.guard=some (t,want)∧e.get t=.b want)(hs:Zgv o.op e.get h'=some x):QF P h' (Zx ν (Ze T) o) e.get x:=by
 have hq:QOp P (Zd6 ν (Ze T) o.op) e.get h' x:=by
  obtain⟨d,g,op⟩:=o;by_cases hap:∃z x0 y,op=.app z x0 y
  ·obtain⟨z,x0,y,rfl⟩:=hap;by_cases hc:x0=.c (.sl [] .nl)
   all_goals simp_all
  cases op<;>first | exact absurd ⟨_,_,_,rfl⟩ hap | exact hs | (cases hf;done) | (cases hw;done) | (cases hs)
 grind[QF,Zx]
theorem zu8{o:AO}{e:Env}{h':Heap}(hg:∃t want,o.guard=some (t,want)∧(e.get t=.b (!want)∨e.get t=.tup [])):QF P h' (Zx ν (Ze T) o) e.get (.tup []):=by
 grind[QF,Zx]
theorem zqc{o:AO}{e:Env}{h h':Heap}{x:AV}(hf:o.op.freeE e.get=true)(hq:QF P h (Zx ν (Ze T) o) e.get x):QF P h' (Zx ν (Ze T) o) e.get x:=
 zka (o:=Zx ν (Ze T) o) (by show (Zd6 ν (Ze T) o.op).freeE e.get=true;cases hop:o.op<;>rw[hop]at hf<;>first | rfl | exact hf | cases hf) h h' hq
theorem zqd{o:AO}{e:Env}{h:Heap}{older:List Heap}{r:AV×Bool}(hx:qX O T o e h older=some r)(hr:r.2=true)(hf:o.op.free=true):o.op.freeE e.get=true:=by
 cases hop:o.op
 case call u args=>
  have key:∀x,opD O T (.call u args) e h older=some x→(args.map (ev e.get)).all noRef=true:=by
   grind[opD]
  unfold qX at hx;rw[hop]at hx;split at hx
  ·obtain⟨x,h1,_⟩:=map_some hx;exact key x h1
  ·split at hx
   ·split at hx
    ·obtain⟨x,h1,_⟩:=map_some hx;exact key x h1
    grind
   all_goals grind
 all_goals (rw[hop]at hf;exact hf)
theorem zfd(hO:GoodO P ν T O){o:AO}{e:Env}{h:Heap}{older:List Heap}{r:AV×Bool}{K:AV→Prop}(hx:qX O T o e h older=some r)(hK:K r.1) :
  qK P (Zx ν (Ze T) o) e h older K∧(r.2=true→(o.guard=none∨∃t want,o.guard=some (t,want)∧e.get t=.b want))∧(r.2=false→r.1=.tup []∧∃t want,o.guard=some (t,want)∧(e.get t=.b (!want)∨e.get t=.tup [])):=by
 unfold qX at hx;unfold qK;simp only[Zx];cases hg:o.guard with
 | none=>
  rw[hg]at hx;obtain⟨x,h1,rfl⟩:=map_some hx
  grind[zmh]
 | some p=>
  obtain⟨t,want⟩:=p;rw[hg]at hx;simp only at hx ⊢;cases hx2:e.get t with
  | b v=>
   rw[hx2]at hx;simp only at hx ⊢;split at hx
   ·rename_i hv;obtain⟨x,h1,rfl⟩:=map_some hx
    grind[zmh]
   ·rename_i hv;rw[if_neg hv];cases hx;refine⟨hK,?_,?_⟩
    ·grind
    intro _;refine⟨rfl,t,want,rfl,.inl ?_⟩;cases v<;>cases want<;>simp_all
  | tup l=>
   grind
  | _=>rw[hx2]at hx;simp at hx
theorem zdl{pend:Zah}{h:Heap}(hp:Za4 pend h=true):∀p∈pend,0<p.1→Zgv p.2.1 p.2.2.1.get h=some p.2.2.2:=by
 grind[Za4]
def Zfh(pendX:Zah)(pend:Zie):Prop:=∀q∈pend,(∀h',q.2 h')∨q.1=0∨∃p∈pendX,p.1=q.1∧∀h',Zgv p.2.1 p.2.2.1.get h'=some p.2.2.2→q.2 h'
theorem Zfh.next{pendX:Zah}{pend:Zie}(h:Zfh pendX pend):Zfh (pendX.map fun p=>(p.1-1,p.2)) (pend.map fun p=>(p.1-1,p.2)):=by
 intro q hq;obtain⟨q0,h1,rfl⟩:=Yz.1 hq;rcases h q0 h1 with h2 | h2 | ⟨p,h2,h3,h4⟩
 ·grind
 ·omega
 ·exact .inr (.inr ⟨_,Yz.2 ⟨p,h2,rfl⟩,by omega,h4⟩)
theorem zc0(hO:GoodO P ν T O):∀(l:List DO) (e:Env) (h:Heap) (clk:Nat) (older:List Heap) (pendX:Zah) (pend:Zie) (st':St) (K:St→Prop),Zfh pendX pend→Zbk O T l e h clk older pendX=some st'→K st'→Zfq P (l.map (Zd7 ν (Ze T))) e h clk older pend K
 | [],e,h,clk,older,pendX,pend,st',K,hpr,hx,hK=>by cases hx;exact hK
 | o::l,e,h,clk,older,pendX,pend,st',K,hpr,hx,hK=>by
  simp only[Zbk]at hx;simp only[Y3,Zfq];have hw:(Zd7 ν (Ze T) o).ao.op.writes=o.ao.op.writes:=by
   exact zc6 _
  rw[hw];cases ho:o.ao.op.writes with
  | true=>
   rw[ho]at hx;simp only at hx ⊢;split at hx
   ·rename_i hg;obtain⟨q,h1,h2⟩:=bind_some hx;split at h2
    ·rename_i hpd;have e1:Zd6 ν (Ze T) o.ao.op=o.ao.op:=by
      cases hop:o.ao.op<;>rw[hop]at ho<;>first | rfl | (simp[AOp.writes]at ho;done) | (rename_i k xs;cases k<;>first | rfl | simp_all)
     refine⟨by show o.ao.guard=none;simpa using hg,q,?_,fun p hp h0=>?_,zc0 hO l _ _ _ _ _ _ st' K hpr.next h2 hK⟩
     ·show stepW (Zd6 ν (Ze T) o.ao.op) o.ao.dst e.get h clk=some q
      grind
     ·rcases hpr p hp with h3 | h3 | ⟨p',h3,h4,h5⟩
      ·grind
      ·omega
      ·exact h5 _ (zdl hpd p' h3 (by omega))
    grind
   grind
  | false=>
   rw[ho]at hx;simp only at hx ⊢;split at hx
   rotate_left
   ·rename_i p hrow;obtain⟨x,h1,h2⟩:=bind_some hx;obtain⟨hg,args,hop,hfr,hold⟩:=zl7 hrow;unfold Zga at h1;split at h1
    ·grind
    rename_i af hT;split at h1
    rotate_left
    ·grind
    obtain⟨r,h3,rfl⟩:=map_some h1;have hcall:Zat P (ν p.1) p.2 (·=r.1):=(hO.pure p.1 af _ r.1 r.2 hT (by simp_all) h3).wk;have hao:Zx ν (Ze T) o.ao=⟨o.ao.dst,none,.call (ν p.1) args⟩:=by unfold Zx;rw[hg,hop];rfl
    show qK P (Zx ν (Ze T) o.ao) e h (older.take (older.length-o.lo)) _;rw[hao];refine⟨p.2,⟨hfr,fun _=>hold⟩,r.1,hcall,?_⟩;refine zc0 hO l _ _ _ _ _ _ st' K ?_ h2 hK;intro q hq;rcases Y6.1 hq with rfl | hq
    ·by_cases hn:older.length<o.hi
     ·refine .inr (.inr ⟨(o.hi-older.length,o.ao.op,e,.tup p.2),?_,rfl,fun h' hs=>?_⟩)
      ·grind
      ·simp only[hop,Zgv]at hs;obtain⟨zs,h6,h7⟩:=map_some hs;cases h7;show QF P h' (Zx ν (Ze T) o.ao) e.get r.1;rw[hao];exact⟨_,h6,hcall⟩
     ·exact .inr (.inl (by show o.hi-older.length=0;omega))
    ·rcases hpr q hq with h3 | h3 | ⟨p',h3,h4,h5⟩
     all_goals grind
   obtain⟨r,h1,h2⟩:=bind_some hx;have key:=fun(K':AV→Prop) (hk:K' r.1)=>zfd hO (K:=K') h1 hk;refine(key _ ?_).1;refine zc0 hO l _ _ _ _ _ _ st' K ?_ h2 hK;obtain⟨_,k1,k2⟩:=key (fun _=>True) trivial;intro q hq;rcases Y6.1 hq with rfl | hq
   ·cases hr2:r.2 with
    | false=>
     obtain⟨h3,h4⟩:=k2 hr2;exact .inl fun h'=>by
      rw[h3];exact zu8 h4
    | true=>
     cases hf:o.ao.op.free with
     | true=>
      obtain⟨hqk,_⟩:=key (fun x=>x=r.1) rfl;obtain⟨x,hq1,_,hxr⟩:=zrk (o:=Zx ν (Ze T) o.ao) (by rw[←ho];exact hw) hqk;subst hxr;exact .inl fun h'=>zqc (zqd h1 hr2 hf) hq1
     | false=>
      by_cases hn:older.length<o.hi
      ·refine .inr (.inr ⟨(o.hi-older.length,o.ao.op,e,r.1),?_,rfl,fun h' hs=>zqb hf ho (k1 hr2) hs⟩)
       grind[Zb2]
      ·exact .inr (.inl (by show o.hi-older.length=0;omega))
   ·rcases hpr q hq with h3 | h3 | ⟨p,h3,h4,h5⟩
    ·grind
    ·omega
    grind[Zb2]
theorem zhq(hO:GoodO P ν T O)(tl:List AO):∀(l:List AO) (e:Env) (h:Heap) (clk:Nat) (st':St) (K:St→Prop),Zd5 O T tl l e h clk=some st'→K st'→Zgh P (tl.map (Zx ν (Ze T))) (l.map (Zx ν (Ze T))) e h clk K
 | [],e,h,clk,st',K,hx,hK=>zdd hO tl _ st' K hx hK
 | o::l,e,h,clk,st',K,hx,hK=>by
  obtain⟨r,h1,h2⟩:=bind_some hx;exact(zfd hO (K:=fun x=>Zgh P (tl.map (Zx ν (Ze T))) (l.map (Zx ν (Ze T))) (Zh e o.dst x) h clk K) h1 (zhq hO tl l _ h clk st' K h2 hK)).1
theorem zf1{c0:Nat}{op:AOp}{e:Env}{l:List Nat}{ν:Nat→FuncId}{τ:Nat→Nat}(h:Zh9 c0 op e l=true):∀g∈l,Zf6 c0 (Zd6 ν τ op) e.get g:=by
 intro g hg;have h1:=Yn.1 h g hg;simp only[Yb3,decide_eq_true_eq,List.any_eq_true,List.contains_iff_mem]at h1;rcases h1 with h1 | ⟨t,ht,h2⟩
 ·exact .inl h1
 ·refine .inr ⟨t,?_,h2⟩;cases op<;>first | exact ht | (cases ht;done) | (rename_i k xs;cases k<;>first | exact ht | cases ht)
theorem zol(hO:GoodO P ν T O){u:Nat}{xs:List AV}{d clk:Nat}{q:AV×Heap×Nat}(h:Zfr O T u xs d clk=some q):∃m,q.2.2=clk+m∧Zkb P (ν u) xs clk q.1 q.2.1 m:=by
 unfold Zfr at h;split at h
 ·cases h
 rename_i af hT;split at h
 ·cases h
 rename_i ms hl;split at h
 ·rename_i hn;obtain⟨r,h3,h4⟩:=bind_some h;simp only at h4;split at h4
  ·rename_i hc;cases h4;obtain⟨hnd,hg1,hg2⟩:=hc;refine⟨r.2.length+2,rfl,hn,?_,hnd,fun g hg=>?_,fun p hp g hg=>?_⟩
   ·have hA:=hO.lent u af ms _ _ r.1 r.2 hT hl h3;have:=Zd0.rl (ys:=xs) (hp:=[]) (clk:=clk) (d:=d) (ex:=af.exact) (l:=[]) (r0:=r.1) (hb':=r.2) (c':=0+r.2.length+2) rfl Yec (by grind) (by simpa using hA)
    grind
   ·have:=Yn.1 hg1 g hg
    grind
   ·obtain⟨hk,rr,hr,y,hy,hgy⟩:=hg;have h5:=Yn.1 hg2 p hp;simp only[hk,if_true]at h5;have h6:=Yn.1 (Yn.1 h5 rr hr) y hy;have:=Yn.1 h6 g hgy
    grind
  grind
 grind
theorem zje{op:AOp}{ua:Nat×List Opd}(h:op.lentN=some ua):op=.call ua.1 ua.2:=by
 cases op<;>simp only[AOp.lentN]at h<;>try cases h
 grind
theorem zfe(q:BId→Bool):∀(h:Heap) (id:BId),(h.filter fun p=>q p.1).lookup id=if q id then h.lookup id else none
 | [],id=>by grind
 | (c,x)::h,id=>by
  have ih:=zfe q h id
  grind
theorem zes(ids:List BId)(h:Heap):Zc0 (Zfg ids h) h:=by
 intro id bx hb;unfold Zfg at hb;split at hb
 ·omega
 ·rw[zfe fun b=>!ids.contains b]at hb
  grind
theorem zu9{z d g g' z' off n:Nat}{x' y:Opd}{ρ:Nat→AV}{x:AV}{hp:Heap}{c:Nat}{b:BId}{o:Box}(hv:ev ρ x'=.bs b g' z' off n)(h:stepW (.app z x' y) (some d) ρ [(b,o)] g=some (x,hp,c)) :
  ∃bx,hp=[(b,bx),(b,o)]∧c=g+1∧bx.gen=g:=by
 obtain⟨ys,_,h1⟩:=bind_some h;rw[hv]at h1;obtain⟨b0,_,h2⟩:=bind_some h1
 grind
def Inv(X h:Heap)(c0:Nat):Prop:=∀id o,X.lookup id=some o→h.lookup id=some o∨∃o',h.lookup id=some o'∧c0≤o'.gen
theorem zb8(hO:GoodO P ν T O)(tl:List AO)(h0 X:Heap)(c0:Nat)(hX0:Zc0 h0 X):∀(l:List AO) (e:Env) (h:Heap) (clk:Nat) (st':St) (K:St→Prop),Zc0 h0 h→c0≤clk→Inv X h c0→Za7 O T tl h0 c0 X l e h clk=some st'→K st'→Zbm P h0 c0 X (fun e h clk=>Zdi P (tl.map (Zx ν (Ze T))) ⟨e,h,clk⟩ K) (l.map (Zx ν (Ze T))) e h clk
 | [],e,h,clk,st',K,_,_,_,hx,hK=>zdd hO tl _ st' K hx hK
 | o::l,e,h,clk,st',K,hsb,hck,hinv,hx,hK=>by
  simp only[Za7]at hx;simp only[Y3,Zbm];have hmk:(Zx ν (Ze T) o).op.maker=o.op.maker:=by
   obtain⟨d,g,op⟩:=o;cases op<;>first | rfl | (rename_i k xs;cases k<;>rfl)
  have hsE:(Zx ν (Ze T) o).op.isStore=o.op.isStore:=by
   obtain⟨d,g,op⟩:=o;cases op<;>first | rfl | (rename_i k xs;cases k<;>rfl)
  have hadd:∀(B:Heap),(∀p∈B,h.lookup p.1=none)→Zc0 h0 (B++h):=by
   intro B hB id bx hid;have h1:=hsb id bx hid
   grind
  have hiadd:∀(B:Heap),(∀p∈B,h.lookup p.1=none)→Inv X (B++h) c0:=by
   intro B hB id o ho;have hn:B.lookup id=none:=by
    cases hl:B.lookup id with
    | none=>rfl
    | some y=>
     rcases hinv id o ho with h2 | ⟨o',h2,_⟩<;>(grind)
   rw[zcm,hn];simpa using hinv id o ho
  have hXn:∀id,h.lookup id=none→X.lookup id=none:=by
   intro id hid;cases hl:X.lookup id with
   | none=>rfl
   | some o=>rcases hinv id o hl with h2 | ⟨o',h2,_⟩<;>(grind)
  have h0n:∀id,X.lookup id=none→h0.lookup id=none:=by
   intro id hid;cases hl:h0.lookup id with
   | none=>rfl
   | some o=>have:=hX0 _ _ hl;grind
  rw[hmk,hsE];cases hm:o.op.maker with
  | true=>
   rw[hm]at hx;simp only at hx ⊢;split at hx
   ·rename_i d hg hd;have hop:Zd6 ν (Ze T) o.op=o.op:=by
     obtain⟨d,g,op⟩:=o;cases op<;>first | rfl | (cases hm;done) | (rename_i k xs;cases k<;>first | rfl | cases hm)
    split at hx
    rotate_left
    ·rename_i p how;obtain⟨q,h1,h2⟩:=bind_some hx;split at h2
     ·rename_i hc;obtain⟨x,hp,c'⟩:=q;obtain⟨b,bo⟩:=p;obtain⟨z,x',y,g',z',off,n,hopa,hev⟩:∃z x' y g' z' off n,o.op=.app z x' y∧ev e.get x'=.bs b g' z' off n:=by
       unfold Zhx at how;split at how
       ·rename_i z x' y hoa;cases hv:ev e.get x'<;>rw[hv]at how<;>simp only[Zjx]at how<;>try (cases how;done)
        unfold Zkg at how
        grind
       grind
      obtain⟨hb1,⟨ox,hb2⟩,hb3,hb4⟩:h0.lookup b=none∧(∃ox,X.lookup b=some ox)∧h.lookup b=some bo∧bo.gen<c0:=by
       rw[hopa]at how;simp only[Zhx,hev,Zjx]at how;unfold Zkg at how
       grind
      have hbx:X.lookup b=some bo:=by
       rcases hinv b ox hb2 with h3 | ⟨o',h3,h4⟩
       all_goals grind
      obtain⟨bx,rfl,rfl,hbg⟩:=zu9 hev (by rw[hopa]at h1;exact h1);simp only[List.take_succ_cons,Yct]at h2 hc;refine⟨hg,d,x,b,bx,some bo,hd,by rw[show (Zx ν (Ze T) o).op=o.op from hop];exact h1,hb3,hbx,hb1,fun o2 ho2=>by grind,fun g hgb=>?_,zb8 hO tl h0 X c0 hX0 l _ _ _ st' K (fun id y hy=>?_) (by omega) (fun id o2 ho2=>?_) h2 hK⟩
      ·obtain⟨hk,r,hr,y,hy,hgy⟩:=hgb;simp only[Zil,Ybx,Yd5,Bool.and_true,hk,if_true,Yn]at hc;exact zf1 (hc r hr y hy) g hgy
      ·have hne:(id == b)=false:=by
        grind
       rw[Yar,hne];exact hsb id y hy
      ·rw[Yar];by_cases hi:id=b
       ·grind
       ·have hne:(id == b)=false:=by grind
        rw[hne];exact hinv id o2 ho2
     grind
    obtain⟨q,h1,h2⟩:=bind_some hx;split at h2
    ·rename_i hc;simp only[Yk]at hc;obtain⟨x,hp,c'⟩:=q;obtain⟨bx,rfl,rfl⟩:∃bx,hp=[(.loc d,bx)]∧c'=clk+1:=zn7 hm h1;have hln:h.lookup (.loc d)=none:=Yci.1 hc.1;have hB1:∀p∈[((.loc d:BId),bx)],h.lookup p.1=none:=fun p hp=>by grind
     refine⟨hg,d,x,.loc d,bx,none,hd,by rw[show (Zx ν (Ze T) o).op=o.op from hop];exact h1,hln,hXn _ hln,h0n _ (hXn _ hln),fun o2 ho2=>(by grind),fun g hgb=>?_,zb8 hO tl h0 X c0 hX0 l _ _ _ st' K (hadd [(.loc d,bx)] hB1) (by omega) (hiadd _ hB1) h2 hK⟩;obtain⟨hk,r,hr,y,hy,hgy⟩:=hgb;have h3:=hc.2;simp only[Zil,Ybx,Yd5,Bool.and_true,hk,if_true,Yn]at h3;exact zf1 (h3 r hr y hy) g hgy
    grind
   grind
  | false=>
   rw[hm]at hx;cases hst:o.op.isStore with
   | true=>
    rw[hst]at hx;simp only at hx ⊢;split at hx
    ·rename_i hg hd;obtain⟨q,h1,h2⟩:=bind_some hx;split at h2
     ·rename_i hfr;obtain⟨dd,gg,op⟩:=o;subst hg hd;cases op<;>try (cases hst;done)
      rename_i n x v;obtain⟨h',e1,rfl⟩:=map_some h1;refine⟨rfl,rfl,h',?_,?_,zb8 hO tl h0 X c0 hX0 l e h' clk st' K ?_ hck ?_ h2 hK⟩
      ·show stepW (.store n x v) none e.get h clk=_;simp only[stepW,e1]
       rfl
      rotate_left 2
      ·intro id bx hid;simp only[Zgk]at hfr;unfold Zcu at e1;split at e1
       ·rename_i id2 g z i o hx2;rw[hx2]at hfr;obtain⟨bx2,_,e2⟩:=bind_some e1;obtain⟨r2,_,e3⟩:=bind_some e2;obtain⟨cs,_,e4⟩:=bind_some e3;split at e4
        ·cases e4;have hne:(id == id2)=false:=by
          grind
         simp only[Yar,hne];exact hinv id bx hid
        grind
       grind
      all_goals
       intro id bx hid;have h3:=hsb id bx hid;replace hid:=hX0 id bx hid;simp only[Zgk]at hfr;unfold Zcu at e1;split at e1
       ·rename_i id2 g z i o hx2;rw[hx2]at hfr;simp only[Yci]at hfr;obtain⟨bx2,_,e2⟩:=bind_some e1;obtain⟨r2,_,e3⟩:=bind_some e2;obtain⟨cs,_,e4⟩:=bind_some e3
        grind
       grind
     grind
    grind
   | false=>
   rw[hst]at hx;cases hlN:o.op.lentN with
   | some ua=>
    rw[hlN]at hx;simp only at hx;split at hx
    ·rename_i d hg hd;obtain⟨q,h1,h2⟩:=bind_some hx;split at h2
     ·rename_i hfr;obtain⟨m,hm2,hcb⟩:=zol hO h1;obtain⟨dd,gg,op⟩:=o;subst hg hd;have hop:=zje hlN;subst hop;rw[hm2]at h2;exact .inr ⟨rfl,ν ua.1,ua.2,d,q.1,q.2.1,m,rfl,rfl,hcb,fun p hp=>by simpa using Yn.1 hfr p hp,zb8 hO tl h0 X c0 hX0 l _ _ _ st' K (hadd _ fun p hp=>by simpa using Yn.1 hfr p hp) (by omega) (hiadd _ fun p hp=>by simpa using Yn.1 hfr p hp) h2 hK⟩
     grind
    grind
   | none=>
   rw[hlN]at hx;obtain⟨x,h1,h2⟩:=bind_some hx;split at h2
   ·rename_i hc;refine .inl ?_;exact(zfd hO (K:=fun x=>(∀g∈gnA x,Zf6 c0 (Zx ν (Ze T) o).op e.get g)∧Zbm P h0 c0 X (fun e h clk=>Zdi P (tl.map (Zx ν (Ze T))) ⟨e,h,clk⟩ K) (l.map (Zx ν (Ze T))) (Zh e o.dst x) h clk) h1 ⟨zf1 hc,zb8 hO tl h0 X c0 hX0 l _ h clk st' K hsb hck hinv h2 hK⟩).1
   grind
theorem zva{O:Orc}{u:Nat}{xs:List AV}{d:Option Nat}{st s:St}(h:Zc O T u xs d st=some s):∃r,s.env=Zh st.env d r:=by
 unfold Zc at h;split at h
 ·cases h
 split at h
 ·obtain⟨ys,h1,h2⟩:=bind_some h;obtain⟨r,h3,h4⟩:=bind_some h2;cases h4;exact⟨_,rfl⟩
 ·obtain⟨ys,h1,h2⟩:=bind_some h;simp only at h2;split at h2
  ·obtain⟨r,h3,h4⟩:=bind_some h2;split at h4
   ·cases h4;exact⟨_,rfl⟩
   ·cases h4
  ·cases h2
theorem zr3{f:FuncId}{xs:List AV}{h:Heap}{K K':AV→Heap→Prop}(hk:∀r h,K r h→K' r h)(hc:Zf4 P f xs h K):Zf4 P f xs h K':=by
 obtain⟨ys,post,h1,h2,h3⟩:=hc;exact⟨ys,post,h1,h2,fun r hr=>hk _ _ (h3 r hr)⟩
theorem zr4{f:FuncId}{xs:List AV}{h:Heap}{clk:Nat}{K K':AV→Heap→Nat→Prop}(hk:∀r h c,K r h c→K' r h c)(hc:Zf5 P f xs h clk K):Zf5 P f xs h clk K':=by
 obtain⟨ms,ys,h1,hb,hr,post,h2,h3,h4,h5⟩:=hc;refine⟨ms,ys,h1,hb,hr,post,h2,h3,h4,fun r hb' c' h6 h7=>?_⟩;obtain⟨e1,e2,e3,e4⟩:=h5 r hb' c' h6 h7;exact⟨e1,e2,e3,hk _ _ _ e4⟩
theorem zqe{op:AOp}{e:Env}{h:Heap}{older:List Heap}{K K':AV→Prop}(hk:∀x,K x→K' x)(hc:opQ P op e h older K):opQ P op e h older K':=by
 by_cases hap:∃z x0 y,op=.app z x0 y
 ·obtain⟨z,x0,y,rfl⟩:=hap;by_cases hx:x0=.c (.sl [] .nl)
  ·subst hx;obtain⟨x,h1,h2⟩:=hc;exact⟨x,h1,hk _ h2⟩
  ·cases x0 with
   | t n=>
    obtain⟨x,h1,h2,h3⟩:=hc;exact⟨x,h1,h2,hk _ h3⟩
   | c a=>
    cases a
    case sl els f=>
     cases els with
     | nil=>
      cases f
      case nl=>exact absurd rfl hx
      all_goals
       obtain⟨x,h1,h2,h3⟩:=hc;exact⟨x,h1,h2,hk _ h3⟩
     | cons r l=>
      obtain⟨x,h1,h2,h3⟩:=hc;exact⟨x,h1,h2,hk _ h3⟩
    all_goals
     obtain⟨x,h1,h2,h3⟩:=hc;exact⟨x,h1,h2,hk _ h3⟩
 cases op<;>(try exact absurd ⟨_,_,_,rfl⟩ hap)
 case call f args=>
  obtain⟨ys,h1,r,h3,h4⟩:=hc;exact⟨ys,h1,r,h3,hk _ h4⟩
 case inv=>
  obtain⟨h0,t,y,f,h1,h2,h3,r,h4,h5⟩:=hc;exact⟨h0,t,y,f,h1,h2,h3,r,h4,hk _ h5⟩
 case bsl=>
  obtain⟨h1,q,h2,h3⟩:=hc;exact⟨h1,q,h2,hk _ h3⟩
 all_goals
  obtain⟨x,h1,h2,h3⟩:=hc;exact⟨x,h1,h2,hk _ h3⟩
theorem z18{o:AO}{e:Env}{h:Heap}{older:List Heap}{K K':AV→Prop}(hk:∀x,K x→K' x)(hc:qK P o e h older K):qK P o e h older K':=by
 unfold qK at hc ⊢;split at hc
 ·exact zqe hk hc
 ·split at hc
  ·split at hc
   ·rename_i hv;simp only[hv,if_true];exact zqe hk hc
   ·rename_i hv;simp only[hv,if_false];exact hk _ hc
  ·exact hk _ hc
  ·exact hc
theorem zhr(hO:GoodO P ν T O){o:AO}{e:Env}{h:Heap}{clk:Nat}{s:St}(hx:Zgb O T o ⟨e,h,clk⟩=some s):∃x,Zf8 P (Zx ν (Ze T) o) e.get h clk x s.heap s.clk∧s.env=Zh e o.dst x:=by
 obtain⟨dst,g,op⟩:=o;unfold Zgb at hx;simp only at hx;split at hx
 ·rename_i d u args;obtain⟨x,hx2⟩:=zva hx;have hc:=zcz hO (K:=fun s'=>s'=s) hx rfl;refine⟨x,⟨rfl,ν u,args,rfl,?_⟩,hx2⟩;have key:∀r (h':Heap) (c:Nat),(⟨Zh e (some d) r,h',c⟩:St)=s→r=x∧h'=s.heap∧c=s.clk:=by
   intro r h' c he;subst he;simp only[Zh]at hx2
   simp_all
  rcases hc with hc | hc
  ·exact .inl (zr3 (fun r h' hk=>key r h' clk hk) hc)
  ·exact .inr (zr4 (fun r h' c hk=>key r h' c hk) hc)
 ·cases hx
def QS(P:Program)(h0 h1:Heap):List AO→Env→Env→Prop
 | [],e,e'=>e=e'
 | o::r,e,e'=>∃x,QF P h0 o e.get x∧QF P h1 o e.get x∧QS P h0 h1 r (Zh e o.dst x) e'
theorem zkj(hO:GoodO P ν T O){o:DO}{e:Env}{h:Heap}{older:List Heap}{r:AV×Bool}(hw:o.ao.op.writes=false)(hx:qX O T o.ao e h older=some r) :
  QF P h (Zx ν (Ze T) o.ao) e.get r.1∧(∀h'∈older,QF P h' (Zx ν (Ze T) o.ao) e.get r.1)∧((∀h',QF P h' (Zx ν (Ze T) o.ao) e.get r.1)∨(r.2=true∧o.ao.op.free=false∧∀h',Zgv o.ao.op e.get h'=some r.1→QF P h' (Zx ν (Ze T) o.ao) e.get r.1)):=by
 have hw':(Zx ν (Ze T) o.ao).op.writes=false:=by
  rw[←hw];exact zc6 _
 obtain⟨hqk,k1,k2⟩:=zfd hO (K:=fun x=>x=r.1) hx rfl;obtain⟨x,hq1,hq2,hxr⟩:=zrk hw' hqk;subst hxr;refine⟨hq1,fun h' hh=>?_,?_⟩
 ·cases hf:(Zx ν (Ze T) o.ao).op.freeE e.get with
  | true=>exact zka hf h _ hq1
  | false=>exact hq2 hf h' hh
 ·cases hr2:r.2 with
  | false=>
   obtain⟨h3,h4⟩:=k2 hr2;exact .inl fun h'=>by
    rw[h3];exact zu8 h4
  | true=>
   cases hf:o.ao.op.free with
   | true=>exact .inl fun h'=>zqc (zqd hx hr2 hf) hq1
   | false=>exact .inr ⟨rfl,rfl,fun h' hs=>zqb hf hw (k1 hr2) hs⟩
theorem zjf(hO:GoodO P ν T O){K:Env→Zah→Option St}{h:Heap}:∀(l:List DO) (e:Env) (pend:Zah) (st':St),(∀o∈l,0<o.hi)→Zeh O T K h l e pend=some st' →
  ∃e' pend',K e' pend'=some st'∧∀h1,Za4 pend' h1=true→Za4 pend h1=true∧QS P h h1 (l.map fun o=>Zx ν (Ze T) o.ao) e e'
 | [],e,pend,st',_,hx=>⟨e,pend,hx,fun h1 hp=>⟨hp,rfl⟩⟩
 | o::l,e,pend,st',hhi,hx=>by
  unfold Zeh at hx;split at hx
  ·cases hx
  rename_i hw;obtain⟨r,h1,h2⟩:=bind_some hx;obtain⟨e',pend',h3,h4⟩:=zjf hO l _ _ st' (fun o ho=>hhi o (Yj _ ho)) h2;obtain⟨q1,_,q2⟩:=zkj hO hw h1;refine⟨e',pend',h3,fun hp1 hp=>?_⟩;obtain⟨h5,h6⟩:=h4 hp1 hp;have hpn:=hhi o Yp;have hold:Za4 pend hp1=true:=by
   classical
   unfold Za4;refine decide_eq_true fun p hp h0=>zdl h5 p ?_ h0;unfold Zb2;split
   ·exact Yj _ hp
   ·exact hp
  refine⟨hold,r.1,q1,?_,h6⟩;rcases q2 with q2 | ⟨e1,e2,q2⟩
  ·exact q2 hp1
  ·refine q2 hp1 (zdl h5 (o.hi-0,o.ao.op,e,r.1) ?_ (by simpa using hpn));unfold Zb2;rw[e1,e2];simp[hpn]
theorem zmi{h0 h1:Heap}{c0 c1:Nat}{K:St→Prop}{tl:List AO}:∀(l r:List AO) (e e':Env),QS P h0 h1 l e e'→Zde P tl h0 c0 h1 c1 K false r e'→Zde P tl h0 c0 h1 c1 K false (l++r) e
 | [],r,e,e',hq,hk=>by cases hq;exact hk
 | o::l,r,e,e',⟨x,h2,h3,h4⟩,hk=>.inl ⟨x,h2,h3,zmi l r _ e' h4 hk⟩
theorem zhs(hO:GoodO P ν T O){K:Env→Option St}{h0 h1:Heap}{c0 c1:Nat}{Q:St→Prop}{tl:List AO}{st':St}(hK:∀e,K e=some st'→Zdi P tl ⟨e,h1,c1⟩ Q):∀(l:List AO) (e:Env),Zcy O T K h0 h1 l e=some st' →
  Zde P tl h0 c0 h1 c1 Q true (l.map (Zx ν (Ze T))) e
 | [],e,hx=>⟨rfl,hK e hx⟩
 | o::l,e,hx=>by
  unfold Zcy at hx;split at hx
  ·cases hx
  rename_i hw;obtain⟨r,e1,e2⟩:=bind_some hx;obtain⟨q1,q2,_⟩:=zkj hO (o:=⟨o,0,0⟩) hw e1;exact .inl ⟨r.1,q2 h0 Yp,q1,zhs hO hK l _ e2⟩
theorem zom(hO:GoodO P ν T O){l1 l2 tl:List AO}{o:AO}{st st':St}{K:St→Prop}(hx:Zgw O T l1 o l2 tl st=some st')(hK:K st') :
  ∃h1 c1,Zde P (tl.map (Zx ν (Ze T))) st.heap st.clk h1 c1 K false (l1.map (Zx ν (Ze T))++Zx ν (Ze T) o::l2.map (Zx ν (Ze T))) st.env:=by
 unfold Zgw at hx;obtain⟨e',pend',h1,h2⟩:=zjf hO _ _ _ st' (fun o ho=>by
  obtain⟨o',_,rfl⟩:=Yz.1 ho;exact Nat.one_pos) hx
 obtain⟨s,h3,h4⟩:=bind_some h1;split at h4
 ·rename_i hpd;obtain⟨x,hcd,henv⟩:=zhr hO h3;obtain⟨_,hqs⟩:=h2 s.heap hpd;refine⟨s.heap,s.clk,zmi _ _ _ e' (by simpa[Ycw,Function.comp_def]using hqs) (.inr ⟨rfl,x,hcd,?_⟩)⟩;show Zde P _ st.heap st.clk s.heap s.clk K true _ (Zh e' o.dst x);rw[←henv];exact zhs hO (fun e he=>zdd hO tl _ st' K he hK) l2 _ h4
 ·cases h4
theorem zd0{K:St→Prop}:∀(l:List DO) (e:Env) (h:Heap) (clk:Nat) (older:List Heap) (pend:Zie),Zfq P l e h clk older pend K→Zbn P (l.map fun o=>(false,o)) e h clk older pend K
 | [],_,_,_,_,_,h=>h
 | o::l,e,h,clk,older,pend,hk=>by
  simp only[Y3,Zbn];simp only[Zfq]at hk;cases hw:o.ao.op.writes with
  | true=>
   rw[hw]at hk;obtain⟨h1,q,h2,h3,h4⟩:=hk;exact⟨h1,q,h2,h3,zd0 l _ _ _ _ _ h4⟩
  | false=>
   rw[hw]at hk;simp only at hk ⊢;exact z18 (fun x hx=>zd0 l _ _ _ _ _ hx) hk
theorem zjg(hO:GoodO P ν T O){K:Env→Zah→Option St}{h:Heap}{clk:Nat}{rest:List (Bool×DO)}{Q:St→Prop}{st':St}(hK:∀e pendX pend,Zfh pendX pend→K e pendX=some st'→Zbn P rest e h clk [] pend Q) :
  ∀(l:List DO) (e:Env) (pendX:Zah) (pend:Zie),Zfh pendX pend→Zeh O T K h l e pendX=some st'→Zbn P ((l.map fun o=>(false,Zd7 ν (Ze T) o))++rest) e h clk [] pend Q
 | [],e,pendX,pend,hpr,hx=>hK e pendX pend hpr hx
 | o::l,e,pendX,pend,hpr,hx=>by
  unfold Zeh at hx;split at hx
  ·cases hx
  rename_i hw;have hw':(Zd7 ν (Ze T) o).ao.op.writes=false:=by
   rw[←hw];exact zc6 _
  obtain⟨r,h1,h2⟩:=bind_some hx;simp only[Y3,Ybk,Zbn,hw',List.take_nil];have hk2:Zbn P ((l.map fun o=>(false,Zd7 ν (Ze T) o))++rest) (Zh e o.ao.dst r.1) h clk [] ((o.hi,fun h'=>QF P h' (Zx ν (Ze T) o.ao) e.get r.1)::pend) Q:=by
   refine zjg hO hK l _ _ _ ?_ h2;obtain⟨_,_,q2⟩:=zkj hO hw h1;intro q hq;rcases Y6.1 hq with rfl | hq
   ·rcases q2 with q2 | ⟨e1,e2,q2⟩
    ·exact .inl q2
    ·by_cases hn:0<o.hi
     ·refine .inr (.inr ⟨(o.hi-0,o.ao.op,e,r.1),?_,rfl,q2⟩);unfold Zb2;rw[e1,e2];simp[hn]
     ·exact .inr (.inl (by show o.hi=0;omega))
   ·rcases hpr q hq with h3 | h3 | ⟨p,h3,h4,h5⟩
    ·exact .inl h3
    ·exact .inr (.inl h3)
    ·refine .inr (.inr ⟨p,?_,h4,h5⟩);unfold Zb2;split
     ·exact Yj _ h3
     ·exact h3
  exact(zfd hO (K:=fun x=>Zbn P ((l.map fun o=>(false,Zd7 ν (Ze T) o))++rest) (Zh e o.ao.dst x) h clk [] ((o.hi,fun h'=>QF P h' (Zx ν (Ze T) o.ao) e.get x)::pend) Q) h1 hk2).1
theorem zon(hO:GoodO P ν T O){l1 l2:List DO}{o:AO}{st st':St}{K:St→Prop}(hx:Zgx O T l1 o l2 st=some st')(hK:K st') :
  Zbn P ((l1.map (Zd7 ν (Ze T))).map (fun o=>(false,Zer 0 o))++(true,⟨Zx ν (Ze T) o,0,0⟩)::(l2.map (Zd7 ν (Ze T))).map (fun o=>(false,Zer 0 o))) st.env st.heap st.clk [] [] K∧o.op.writes=false:=by
 unfold Zgx at hx;split at hx
 ·cases hx
 rename_i hwn;refine⟨?_,by simpa using hwn⟩;have hadj:∀l:List DO,(l.map (Zd7 ν (Ze T))).map (fun o=>(false,Zer 0 o))=(l.map (Zer 0)).map (fun o=>(false,Zd7 ν (Ze T) o)):=fun l=>by
  simp only[Ycw]
  rfl
 rw[hadj l1,hadj l2];refine zjg hO (fun e pendX pend hpr h1=>?_) _ _ _ _ (fun q hq=>by cases hq) hx;obtain⟨s,h3,h4⟩:=bind_some h1;split at h4
 ·rename_i hpd;obtain⟨x,hcd,henv⟩:=zhr hO h3;refine⟨x,s.heap,s.clk,hcd,fun p hp h0=>?_,?_⟩
  ·rcases hpr p hp with h5 | h5 | ⟨p',h5,h6,h7⟩
   ·exact h5 _
   ·omega
   ·exact h7 _ (zdl hpd p' h5 (by omega))
  ·show Zbn P _ (Zh e o.dst x) s.heap s.clk [st.heap] _ K;rw[←henv];have:=zc0 hO (l2.map (Zer 0)) s.env s.heap s.clk [st.heap] _ (pend.map fun p=>(p.1-1,p.2)) st' K hpr.next h4 hK;have h8:=zd0 _ _ _ _ _ _ this;rw[Ycw]at h8;exact h8
 ·cases h4
theorem zvb{cx:Cx}{c:AC}{st:St}{id:Nat}{o:Option (Ex×St)}{e:Ex}{st':St}(h0:∀e1 s1,o=some (e1,s1)→AWp cx c (Is e1 s1) st)
  (h:(o.bind fun r=>match r.1 with | .x j=>if j=id then some (Ex.n,r.2) else some r | _=>some r)=some (e,st')):AWp cx (.block id c) (Is e st') st:=by
 obtain⟨⟨e1,s1⟩,h1,h2⟩:=bind_some h;refine zlr ((h0 e1 s1 h1).mono ?_)
 rintro ex s ⟨rfl,rfl⟩
 cases e1 with
 | n=>cases h2;exact⟨rfl,rfl⟩
 | x j=>
  simp only at h2;show Zeg id _ (.exit j) _;simp only[Zeg];split at h2
  ·rename_i hj;rw[if_pos hj];cases h2;exact⟨rfl,rfl⟩
  ·rename_i hj;rw[if_neg hj];cases h2;exact⟨rfl,rfl⟩
 | r=>cases h2;exact⟨rfl,rfl⟩
 | g l=>cases h2;exact⟨rfl,rfl⟩
theorem zyy{k:Nat}{cx:Cx}(hk:cx.clk0=k+1){c:AC}{st:St}{g:Gh}{o:Option (Ex×St)}{e:Ex}{st':St}(h0:∀e1 s1,o=some (e1,s1)→AWp cx c (Is e1 s1) st)
  (h:(o.bind fun r=>match r.1 with | .n=>(ghS k g r.2).map fun s=>(Ex.n,s) | _=>some r)=some (e,st')):AWp cx c (Is e st') st:=by
 obtain⟨⟨e1,s1⟩,h1,h2⟩:=bind_some h;intro code hc hm a w hr;refine wp_mono (h0 e1 s1 h1 code hc hm a w hr) ?_
 rintro ex a' w' ⟨s,⟨rfl,rfl⟩,hr'⟩
 cases e1 with
 | n=>
  obtain⟨s2,h3,h4⟩:=map_some h2;cases h4;exact⟨_,⟨rfl,rfl⟩,hr'.gh hk h3⟩
 | x id=>cases h2;exact⟨_,⟨rfl,rfl⟩,hr'⟩
 | r=>cases h2;exact⟨_,⟨rfl,rfl⟩,hr'⟩
 | g l=>cases h2;exact⟨_,⟨rfl,rfl⟩,hr'⟩
theorem za1(hO:GoodO P ν T O){k:Nat}{cx:Cx}(hP:cx.P=P)(hk:cx.clk0=k+1):∀(c:AX) (st:St) (e:Ex) (st':St),evX O T k c st=some (e,st')→AWp cx (er ν (Ze T) c) (Is e st') st
 | .skip,st,e,st',h=>by cases h;exact zyi ⟨rfl,rfl⟩
 | .reg l,st,e,st',h=>by
  obtain⟨s,h1,h2⟩:=map_some h;cases h2;refine z1y ?_;rw[hP];exact zdd hO l st st' _ h1 ⟨rfl,rfl⟩
 | .draw l,st,e,st',h=>by
  obtain⟨s,h1,h2⟩:=map_some h;cases h2;refine zyj ?_;rw[hP];exact zc0 hO l _ _ _ _ _ _ st' _ (fun q hq=>by simp at hq) h1 ⟨rfl,rfl⟩
 | .drawT hd tl,st,e,st',h=>by
  obtain⟨s,h1,h2⟩:=map_some h;cases h2;refine zt9 ?_;rw[hP];exact zhq hO tl hd _ _ _ st' _ h1 ⟨rfl,rfl⟩
 | .drawM hd tl,st,e,st',h=>by
  obtain⟨s,h1,h2⟩:=map_some h;cases h2;refine zua (zes (Ze1 hd st.env) st.heap) ?_;rw[hP];exact zb8 hO tl _ _ _ (zes _ _) hd _ _ _ st' _ (zes _ _) (Yd _) (fun _ _ h=>.inl h) h1 ⟨rfl,rfl⟩
 | .drawC l1 o l2 tl,st,e,st',h=>by
  obtain⟨s,h1,h2⟩:=map_some h;cases h2;obtain⟨hp1,c1,h3⟩:=zom hO (K:=fun s=>Is .n st' .normal s) h1 ⟨rfl,rfl⟩;rw[←hP]at h3;exact zuw h3
 | .drawN l1 o l2,st,e,st',h=>by
  obtain⟨s,h1,h2⟩:=map_some h;cases h2;obtain⟨h3,h4⟩:=zon hO (K:=fun s=>Is .n st' .normal s) h1 ⟨rfl,rfl⟩;rw[←hP]at h3;refine zux ?_ h3;show (Zd6 ν (Ze T) o.op).writes=false;rw[zc6];exact h4
 | .bad,st,e,st',h=>by cases h
 | .prim f,st,e,st',h=>by cases h
 | .seq a b,st,e,st',h=>by
  obtain⟨⟨e1,s1⟩,h1,h2⟩:=bind_some h;refine z1z ((za1 hO hP hk a st e1 s1 h1).mono ?_)
  rintro ex s ⟨rfl,rfl⟩
  cases e1 with
  | n=>exact za1 hO hP hk b _ e st' h2
  | x id=>cases h2;exact⟨rfl,rfl⟩
  | r=>cases h2;exact⟨rfl,rfl⟩
  | g l=>cases h2;exact⟨rfl,rfl⟩
 | .cond c x y,st,e,st',h=>by
  simp only[evX]at h;split at h
  ·rename_i t ht;refine zyk ht (fun h1=>?_) (fun h1=>?_)
   ·subst h1;exact za1 hO hP hk x st e st' (by simpa using h)
   ·subst h1;exact za1 hO hP hk y st e st' (by simpa using h)
  ·cases h
 | .block id c,st,e,st',h=>by
  obtain⟨⟨e1,s1⟩,h1,h2⟩:=bind_some h;refine zlr ((za1 hO hP hk c st e1 s1 h1).mono ?_)
  rintro ex s ⟨rfl,rfl⟩
  cases e1 with
  | n=>cases h2;exact⟨rfl,rfl⟩
  | x j=>
   simp only at h2;show Zeg id _ (.exit j) _;simp only[Zeg];split at h2
   ·rename_i hj;rw[if_pos hj];cases h2;exact⟨rfl,rfl⟩
   ·rename_i hj;rw[if_neg hj];cases h2;exact⟨rfl,rfl⟩
  | r=>cases h2;exact⟨rfl,rfl⟩
  | g l=>cases h2;exact⟨rfl,rfl⟩
 | .loop c,st,e,st',h=>zhp (hO.loop k c st e st' (by simpa only[evX]using h) cx hP hk)
 | .exit id,st,e,st',h=>by cases h;exact zyl ⟨rfl,rfl⟩
 | .ret,st,e,st',h=>by cases h;exact z10 ⟨rfl,rfl⟩
 | .note c g,st,e,st',h=>by
  obtain⟨⟨e1,s1⟩,h1,h2⟩:=bind_some h;intro code hc hm a w hr;refine wp_mono (za1 hO hP hk c st e1 s1 h1 code hc hm a w hr) ?_
  rintro ex a' w' ⟨s,⟨rfl,rfl⟩,hr'⟩
  cases e1 with
  | n=>
   obtain⟨s2,h3,h4⟩:=map_some h2;cases h4;exact⟨_,⟨rfl,rfl⟩,hr'.gh hk h3⟩
  | x id=>cases h2;exact⟨_,⟨rfl,rfl⟩,hr'⟩
  | r=>cases h2;exact⟨_,⟨rfl,rfl⟩,hr'⟩
  | g l=>cases h2;exact⟨_,⟨rfl,rfl⟩,hr'⟩
 | .lp id g c g2,st,e,st',h=>by
  obtain⟨s,h1,h2⟩:=bind_some h;have h3:((O.loop k c s).bind fun r=>match r.1 with | .x j=>if j=id then some (Ex.n,r.2) else some r | _=>some r).bind (fun r=>match r.1 with | .n=>(ghS k g2 r.2).map fun s=>(Ex.n,s) | _=>some r)=some (e,st'):=by
   rw[←h2];cases O.loop k c s with
   | none=>rfl
   | some r=>
    obtain⟨e1,s1⟩:=r;cases e1 with
    | n=>rfl
    | r=>rfl
    | g l=>rfl
    | x j=>
     simp only[Yac];split<;>rfl
  have h4:AWp cx (.block id (.loop (er ν (Ze T) c))) (Is e st') s:=
   zyy hk (fun e1 s1 he=>zvb (fun e2 s2 he2=>zhp (hO.loop k c s e2 s2 he2 cx hP hk)) he) h3
  intro code hc hm a w hr;exact h4 code hc hm a w (hr.gh hk h1)
 | .scope c,st,e,st',h=>by
  obtain⟨⟨e1,s1⟩,h1,h2⟩:=bind_some h;refine zub ((za1 hO hP hk c st e1 s1 h1).mono ?_)
  rintro ex s ⟨rfl,rfl⟩
  cases e1 with
  | g l=>cases h2
  | n=>cases h2;exact⟨fun l he=>(by cases he),rfl,rfl⟩
  | x j=>cases h2;exact⟨fun l he=>(by cases he),rfl,rfl⟩
  | r=>cases h2;exact⟨fun l he=>(by cases he),rfl,rfl⟩
 | .label l,st,e,st',h=>by cases h;exact zuc ⟨rfl,rfl⟩
 | .goto l,st,e,st',h=>by cases h;exact zym ⟨rfl,rfl⟩
 | .gsc l c r,st,e,st',h=>by
  have key:∀n o,Zkh (fun s=>evX O T k r s) l n o=some (e,st')→∃e1 s1,o=some (e1,s1)∧GQ cx l (er ν (Ze T) r) (Is e st') n e1.out s1:=by
   intro n
   induction n with
   | zero=>intro o h;cases h
   | succ n ih=>
    intro o h;simp only[Zkh]at h;obtain⟨⟨e1,s1⟩,h1,h2⟩:=bind_some h;refine⟨e1,s1,h1,?_⟩;cases e1 with
    | g j=>
     simp only at h2;split at h2
     ·rename_i hj;obtain⟨e2,s2,h3,h4⟩:=ih _ h2;refine⟨hj,(za1 hO hP hk r s1 e2 s2 h3).mono ?_⟩
      rintro ex s ⟨rfl,rfl⟩
      exact h4
     ·cases h2
    | n=>cases h2;exact⟨rfl,rfl⟩
    | x j=>cases h2;exact⟨rfl,rfl⟩
    | r=>cases h2;exact⟨rfl,rfl⟩
  obtain⟨e1,s1,h1,h2⟩:=key _ _ h;refine z11 100 ((za1 hO hP hk c st e1 s1 h1).mono ?_)
  rintro ex s ⟨rfl,rfl⟩
  exact h2
 | .pre g c,st,e,st',h=>by
  obtain⟨s,h1,h2⟩:=bind_some h;intro code hc hm a w hr;exact za1 hO hP hk c s e st' h2 code hc hm a w (hr.gh hk h1)
theorem zr5{f:FuncId}{xs:List AV}{hb:Heap}{k:Nat}{ex:Bool}{x:AV}{hh:Heap}{cc:Nat}(h:Zd0 P f xs hb (k+1) (fun r h c=>r=x∧h=hh∧c=cc)) :
  Zd0 P f xs hb (k+1) (fun r h c=>r=(Zc6 ex k [0] ⟨[(0,x)],hh,cc⟩).env.get 0∧h=(Zc6 ex k [0] ⟨[(0,x)],hh,cc⟩).heap∧c=(Zc6 ex k [0] ⟨[(0,x)],hh,cc⟩).clk):=by
 refine⟨h.1,fun w S M cargs hl hC hheap hS hM=>(h.2 w S M cargs hl hC hheap hS hM).mono ?_⟩;intro e w' ⟨v,r,h',S',M',clk',he,⟨h1,h2,h3⟩,hCr,hw⟩;subst h1;subst h2;subst h3;have hrel:Rel ⟨P,1,w,S,M,k+1⟩ ⟨[(0,r)],h',clk'⟩ { tmps:=#[v],defers:=[] } w':=by
  refine⟨S',M',rfl,rfl,fun t=>?_,hw 1⟩;cases t with
  | zero=>simp_all
  | succ t=>exact .p (.dead _)
 obtain⟨S2,M2,hr2⟩:=hrel.norm (ex:=ex) (k:=k) (live:=[0]) rfl;refine⟨v,_,_,S2,M2,_,he,⟨rfl,rfl,rfl⟩,by simpa using hr2.env 0,fun nt=>?_⟩;have:=hr2.wr;exact⟨this.heap,this.ext,this.fr,this.Snew,this.Slt,this.Mnew⟩
theorem Zat.res{f:FuncId}{xs:List AV}{y:AV}{ex:Bool}(h:Zat P f xs (·=y)):Zat P f xs (·=wkIf ex y):=
 ⟨h.1,fun w S cargs hl hC hS=>(h.2 w S cargs hl hC hS).mono fun _ _ ⟨v,r,he,hr,hb,hC⟩=>⟨v,_,he,rfl,hb,by rw[←hr];exact hC.wkIf ex⟩⟩
def TOk(P:Program)(ν:Nat→FuncId)(T:Tbl):Prop:=∀u af,T u=some af →
 match af.body.isPrim with
 | some f=>∀xs r,f xs=some r→Zat P (ν u) xs (·=r)
 | none=>if af.body.isBad=true then (∀m∈Zfw af,Zdd P af.np m.1=some (ν m.2))∧(af.res.isEmpty=true→af.np=ν af.nt) else Zcm P (ν u)=some (erF ν (Ze T) af)
theorem GoodO.next(hT:TOk P ν T)(hm:P.follows .mixedOrders=true)(hO:GoodO P ν T O):GoodO P ν T (Zc7 T O):=by
 have bad_no:∀(af:AFx) (k:Nat) (s:St) (r:Ex×St),af.body.isBad=true→evX O T k af.body s=some r→False:=by
  intro af k s r hb he;cases hbd:af.body<;>rw[hbd]at hb he<;>first | (cases hb;done) | (simp only[evX]at he;grind)
 refine⟨hO.meth,hO.fnn,fun u af xs r h hu hl hc=>?_,fun u af ms xs hb r hb' hu hl hc=>?_,fun k c st e st' h cx hP hk=>?_⟩
 ·have hTu:=hT u af hu;simp only[Zc7,hu]at hc;split at hc
  ·rename_i f hf;split at hc
   ·obtain⟨x,h1,h2⟩:=map_some hc
    grind
   grind
  rename_i hf;rw[hf]at hTu;split at hc
  ·rename_i hcond;obtain⟨⟨e,s⟩,h1,h2⟩:=bind_some hc;rw[if_neg (fun hb=>bad_no af _ _ _ hb h1)]at hTu;have key:∃x y,(e=.n∨e=.r)∧Zcx s af.res=some x∧frz s.heap x=some y∧r=wkIf af.exact y:=by
    unfold Zki at h2;cases e with
    | x id=>grind
    | g id=>grind
    | n=>
     obtain⟨x,h3,h4⟩:=bind_some h2;rw[hl]at h4;obtain⟨y,h5,h6⟩:=map_some h4
     grind
    | r=>
     obtain⟨x,h3,h4⟩:=bind_some h2;rw[hl]at h4;obtain⟨y,h5,h6⟩:=map_some h4
     grind
   obtain⟨x,y,he,h3,h5,rfl⟩:=key;refine Zat.res (zud hTu hm hcond.1 fun cx hP hnt hclk=>((za1 hO hP hclk af.body _ e s h1).mono ?_))
   rintro ex s' ⟨rfl,rfl⟩
   exact⟨by rcases he with rfl | rfl;exact .inl rfl;exact .inr rfl,x,y,h3,h5,rfl⟩
  grind
 ·have hTu:=hT u af hu;simp only[Zc7,hu]at hc;split at hc
  ·grind
  rename_i hf;rw[hf]at hTu;split at hc
  ·rename_i hcond;obtain⟨⟨e,s⟩,h1,h2⟩:=bind_some hc;rw[if_neg (fun hb=>bad_no af _ _ _ hb h1)]at hTu;have key:∃x,(e=.n∨e=.r)∧Zcx s af.res=some x∧r=(Zc6 af.exact hb.length [0] ⟨[(0,x)],s.heap,s.clk⟩).env.get 0∧hb'=(Zc6 af.exact hb.length [0] ⟨[(0,x)],s.heap,s.clk⟩).heap:=by
    unfold Zki at h2;cases e with
    | x id=>grind
    | g id=>grind
    | n=>
     obtain⟨x,h3,h4⟩:=bind_some h2
     grind
    | r=>
     obtain⟨x,h3,h4⟩:=bind_some h2
     grind
   obtain⟨x,he,h3,rfl,rfl⟩:=key;have hA:Zd0 P (ν u) xs hb (hb.length+1) (fun r h c=>r=x∧h=s.heap∧c=s.clk):=by
    refine zls hTu hm hcond.1 fun cx hP hnt hclk=>((za1 hO hP hclk af.body _ e s h1).mono ?_)
    rintro ex s' ⟨rfl,rfl⟩
    exact⟨by rcases he with rfl | rfl;exact .inl rfl;exact .inr rfl,x,h3,rfl,rfl,rfl⟩
   have hB:=zr5 (ex:=af.exact) hA;refine⟨hB.1,fun w S M cargs hl hC hheap hS hM=>(hB.2 w S M cargs hl hC hheap hS hM).mono ?_⟩;intro e w' ⟨v,r,h',S',M',clk',he,⟨a1,a2,a3⟩,hCr,hw⟩;refine⟨v,r,h',S',M',clk',he,⟨a1,a2,?_⟩,hCr,hw⟩;rw[a3];simp only[Zc6,Yat]
  grind
 ·obtain⟨⟨e1,s1⟩,h1,h2⟩:=bind_some h;refine zyw ((za1 hO hP hk c st e1 s1 h1).mono ?_)
  rintro ex s ⟨rfl,rfl⟩
  cases e1 with
  | n=>exact hO.loop k c _ e st' h2 cx hP hk
  | x id=>cases h2;exact⟨rfl,rfl⟩
  | r=>cases h2;exact⟨rfl,rfl⟩
  | g l=>cases h2;exact⟨rfl,rfl⟩
theorem zad5(hT:TOk P ν T):∀k nm u,(nm,u)∈Zae T k→Zdd P (Ze T k) nm=some (ν u):=by
 intro k nm u hm;unfold Zae at hm;unfold Ze;cases hT':T (1000000+k) with
 | none=>grind
 | some af=>
  rw[hT']at hm;simp only at hm ⊢;split at hm
  ·rename_i hb;have:=hT _ af hT';have hp:af.body.isPrim=none:=by cases hbd:af.body<;>rw[hbd]at hb<;>first | rfl | cases hb
   grind
  grind
theorem fnn0(hT:TOk P ν T):∀k u,Zg2 T k=some u→Ze T k=ν u:=by
 intro k u hm;unfold Zg2 at hm;unfold Ze;cases hT':T (1000000+k) with
 | none=>grind
 | some af=>
  rw[hT']at hm;simp only at hm ⊢;split at hm
  ·rename_i hb;simp only[Yk]at hb;have:=hT _ af hT';have hp:af.body.isPrim=none:=by cases hbd:af.body<;>rw[hbd]at hb<;>first | rfl | cases hb.1.1
   grind
  grind
theorem GoodO.orcN(hT:TOk P ν T)(hm:P.follows .mixedOrders=true):∀n,GoodO P ν T (orcN T n)
 | 0=>⟨zad5 hT,fnn0 hT,fun _ _ _ _ _ _ _ h=>(by cases h),fun _ _ _ _ _ _ _ _ _ h=>(by cases h),fun _ _ _ _ _ h=>(by cases h)⟩
 | n+1=>(GoodO.orcN hT hm n).next hT hm
end
end
section
open Go.RowKit
inductive Qy where
 | call (u:Nat) (xs:List AV) (hb:Heap) (r:AV×Heap)
 | loop (k:Nat) (c:AX) (st:St) (r:Ex×St)
def Holds(O:Orc):Qy→Prop
 | .call u xs hb r=>O.call u xs hb=some r
 | .loop k c st r=>O.loop k c st=some r
def Zao{α:Type}(f:Orc→Option α):Prop:=∀O r,f O=some r→∃L:List Qy,(∀q∈L,Holds O q)∧∀O',(∀q∈L,Holds O' q)→f O'=some r
theorem Zao.const{α:Type}(a:Option α):Zao fun _=>a:=fun _ _ h=>⟨[],by simp,fun _ _=>h⟩
theorem Zao.bind{α β:Type}{g:Orc→Option α}{h:Orc→α→Option β}(hg:Zao g)(hh:∀x,Zao fun O=>h O x):Zao fun O=>(g O).bind (h O):=by
 intro O r he;obtain⟨x,h1,h2⟩:=bind_some he;obtain⟨L1,a1,a2⟩:=hg O x h1;obtain⟨L2,b1,b2⟩:=hh x O r h2;refine⟨L1++L2,fun q hq=>?_,fun O' hO'=>?_⟩
 all_goals grind
theorem Zao.map{α β:Type}{g:Orc→Option α}(hg:Zao g)(f:α→β):Zao fun O=>(g O).map f:=by
 have:=hg.bind (h:=fun _ x=>some (f x)) fun x=>.const _
 grind[Option.map_eq_bind,Function.comp_def]
theorem Zao.call(u:Nat)(xs:List AV)(hb:Heap):Zao fun O=>O.call u xs hb:=fun O r h=>⟨[.call u xs hb r],by simpa[Holds]using h,fun O' h'=>by simpa[Holds]using h'⟩
theorem Zao.loop(k:Nat)(c:AX)(st:St):Zao fun O=>O.loop k c st:=fun O r h=>⟨[.loop k c st r],by simpa[Holds]using h,fun O' h'=>by simpa[Holds]using h'⟩
section
variable(T:Tbl)
theorem zht(u:Nat)(xs:List AV)(d:Option Nat)(st:St):Zao fun O=>Zc O T u xs d st:=by
 unfold Zc;split
 ·exact .const _
 ·split
  ·refine Zao.bind (.const _) fun ys=>Zao.bind (.call _ _ _) fun r=>.const _
  ·refine Zao.bind (.const _) fun ys=>?_;simp only;split
   ·refine Zao.bind (.call _ _ _) fun r=>.const _
   ·exact .const _
theorem zvc(op:AOp)(d:Option Nat)(st:St):Zao fun O=>opX O T op d st:=by
 by_cases hx:∃k xs,op=.xop k xs
 ·obtain⟨k,xs,rfl⟩:=hx;cases k<;>exact .const _
 cases op<;>(try exact absurd ⟨_,_,rfl⟩ hx)<;>simp only[opX]<;>first | exact .const _ | exact zht T _ _ _ _ | (split<;>first | exact .const _ | (split<;>first | exact .const _ | exact zht T _ _ _ _))
theorem zvd(o:AO)(st:St):Zao fun O=>Zgu O T o st:=by
 unfold Zgu;split
 ·exact zvc T _ _ _
 ·unfold gX;split
  ·split
   ·exact zvc T _ _ _
   ·exact .const _
  ·exact .const _
  ·exact .const _
theorem zff:∀(l:List AO) (st:St),Zao fun O=>Zd4 O T l st
 | [],st=>.const _
 | o::l,st=>by
  exact(zvd T o st).bind fun s=>zff l s
theorem zve(op:AOp)(e:Env)(h:Heap)(older:List Heap):Zao fun O=>opD O T op e h older:=by
 by_cases hap:∃z x0 y,op=.app z x0 y
 ·obtain⟨z,x0,y,rfl⟩:=hap;by_cases hc:x0=.c (.sl [] .nl)
  ·subst hc;exact .const _
  ·simp only[zoj hc];exact .const _
 cases op<;>(try exact absurd ⟨_,_,_,rfl⟩ hap)<;>simp only[opD]<;>try exact .const _
 case call=>
  split
  ·exact .const _
  ·split
   ·exact(Zao.call _ _ _).map _
   ·exact .const _
 case inv=>
  split
  ·split
   ·split
    ·exact .const _
    ·split
     ·exact(Zao.call _ _ _).map _
     ·exact .const _
   ·exact .const _
  ·exact .const _
theorem zmj(o:AO)(e:Env)(h:Heap)(older:List Heap):Zao fun O=>qX O T o e h older:=by
 unfold qX;split
 ·exact(zve T _ _ _ _).map _
 ·split
  ·split
   ·exact(zve T _ _ _ _).map _
   ·exact .const _
  ·exact .const _
  ·exact .const _
theorem zvf(u:Nat)(ys:List AV):Zao fun O=>Zga O T u ys:=by
 unfold Zga;split
 ·exact .const _
 ·split
  ·exact(Zao.call _ _ _).map _
  ·exact .const _
theorem zd1:∀(l:List DO) (e:Env) (h:Heap) (clk:Nat) (older:List Heap) (pend:Zah),Zao fun O=>Zbk O T l e h clk older pend
 | [],e,h,clk,older,pend=>.const _
 | o::l,e,h,clk,older,pend=>by
  simp only[Zbk];split
  ·split
   ·refine Zao.bind (.const _) fun q=>?_;split
    ·exact zd1 l _ _ _ _ _
    ·exact .const _
   ·exact .const _
  ·split
   ·exact(zmj T _ _ _ _).bind fun x=>zd1 l _ _ _ _ _
   ·exact(zvf T _ _).bind fun x=>zd1 l _ _ _ _ _
theorem zmk(tl:List AO):∀(l:List AO) (e:Env) (h:Heap) (clk:Nat),Zao fun O=>Zd5 O T tl l e h clk
 | [],e,h,clk=>zff T tl _
 | o::l,e,h,clk=>by
  exact(zmj T _ _ _ _).bind fun x=>zmk tl l _ _ _
theorem zvg(u:Nat)(xs:List AV)(d clk:Nat):Zao fun O=>Zfr O T u xs d clk:=by
 unfold Zfr;split
 ·exact .const _
 ·split
  ·exact .const _
  ·split
   ·refine(Zao.call _ _ _).bind fun r=>?_;exact .const _
   ·exact .const _
theorem zd2(tl:List AO)(h0:Heap)(c0:Nat)(X:Heap):∀(l:List AO) (e:Env) (h:Heap) (clk:Nat),Zao fun O=>Za7 O T tl h0 c0 X l e h clk
 | [],e,h,clk=>zff T tl _
 | o::l,e,h,clk=>by
  simp only[Za7];split
  ·split
   ·split
    all_goals
     refine Zao.bind (.const _) fun q=>?_;split
     ·exact zd2 tl h0 c0 X l _ _ _
     ·exact .const _
   ·exact .const _
  ·split
   ·split
    ·refine Zao.bind (.const _) fun q=>?_;split
     ·exact zd2 tl h0 c0 X l _ _ _
     ·exact .const _
    ·exact .const _
   split
   ·split
    ·refine(zvg T _ _ _ _).bind fun q=>?_;split
     ·exact zd2 tl h0 c0 X l _ _ _
     ·exact .const _
    ·exact .const _
   ·refine(zmj T _ _ _ _).bind fun x=>?_;split
    ·exact zd2 tl h0 c0 X l _ _ _
    ·exact .const _
theorem zkk{K:Orc→Env→Zah→Option St}(hK:∀e pend,Zao fun O=>K O e pend)(h:Heap):∀(l:List DO) (e:Env) (pend:Zah),Zao fun O=>Zeh O T (K O) h l e pend
 | [],e,pend=>hK e pend
 | o::l,e,pend=>by
  simp only[Zeh];split
  ·exact .const _
  ·exact(zmj T _ _ _ _).bind fun x=>zkk hK h l _ _
theorem zml{K:Orc→Env→Option St}(hK:∀e,Zao fun O=>K O e)(h0 h1:Heap):∀(l:List AO) (e:Env),Zao fun O=>Zcy O T (K O) h0 h1 l e
 | [],e=>hK e
 | o::l,e=>by
  simp only[Zcy];split
  ·exact .const _
  ·exact(zmj T _ _ _ _).bind fun x=>zml hK h0 h1 l _
theorem zmm(o:AO)(st:St):Zao fun O=>Zgb O T o st:=by
 unfold Zgb;split
 ·exact zht T _ _ _ _
 ·exact .const _
theorem zvh(l1:List AO)(o:AO)(l2 tl:List AO)(st:St):Zao fun O=>Zgw O T l1 o l2 tl st:=by
 unfold Zgw;refine zkk T (fun e pend=>(zmm T _ _).bind fun s=>?_) _ _ _ _;split
 ·exact zml T (fun e=>zff T _ _) _ _ _ _
 ·exact .const _
theorem zvi(l1:List DO)(o:AO)(l2:List DO)(st:St):Zao fun O=>Zgx O T l1 o l2 st:=by
 unfold Zgx;split
 ·exact .const _
 refine zkk T (fun e pend=>(zmm T _ _).bind fun s=>?_) _ _ _ _;split
 ·exact zd1 T _ _ _ _ _ _
 ·exact .const _
theorem zb9(k:Nat):∀(c:AX) (st:St),Zao fun O=>evX O T k c st
 | .skip,st=>.const _
 | .reg l,st=>by exact(zff T l st).map _
 | .draw l,st=>by exact(zd1 T l _ _ _ _ _).map _
 | .drawT hd tl,st=>by exact(zmk T tl hd _ _ _).map _
 | .drawM hd tl,st=>by exact(zd2 T tl _ _ _ hd _ _ _).map _
 | .drawC l1 o l2 tl,st=>by exact(zvh T l1 o l2 tl st).map _
 | .drawN l1 o l2,st=>by exact(zvi T l1 o l2 st).map _
 | .bad,st=>.const _
 | .prim f,st=>.const _
 | .seq a b,st=>by
  refine(zb9 k a st).bind fun r=>?_;obtain⟨e,s⟩:=r;cases e
  ·exact zb9 k b s
  ·exact .const _
  ·exact .const _
  ·exact .const _
 | .cond c x y,st=>by
  simp only[evX];split
  ·split
   ·exact zb9 k x st
   ·exact zb9 k y st
  ·exact .const _
 | .block id c,st=>by exact(zb9 k c st).bind fun r=>.const _
 | .loop c,st=>by exact .loop _ _ _
 | .exit id,st=>.const _
 | .ret,st=>.const _
 | .note c g,st=>by exact(zb9 k c st).bind fun r=>.const _
 | .pre g c,st=>by exact Zao.bind (.const _) fun s=>zb9 k c s
 | .scope c,st=>by exact(zb9 k c st).bind fun r=>.const _
 | .label l,st=>.const _
 | .goto l,st=>.const _
 | .gsc l c r,st=>by
  have key:∀n (f:Orc→Option (Ex×St)),Zao f→Zao fun O=>Zkh (fun s=>evX O T k r s) l n (f O):=by
   intro n
   induction n with
   | zero=>intro f _;exact .const _
   | succ n ih=>
    intro f hf;refine hf.bind fun x=>?_;obtain⟨e,s⟩:=x;cases e
    ·exact .const _
    ·exact .const _
    ·exact .const _
    ·simp only;split
     ·exact ih _ (zb9 k r s)
     ·exact .const _
  exact key _ _ (zb9 k c st)
 | .lp id g c g2,st=>by exact Zao.bind (.const _) fun s=>(Zao.loop _ _ _).bind fun r=>.const _
theorem zda(u:Nat)(xs:List AV)(hb:Heap):Zao fun O=>(Zc7 T O).call u xs hb:=by
 simp only[Zc7];split
 ·exact .const _
 ·split
  ·exact .const _
  ·split
   ·exact(zb9 T _ _ _).bind fun r=>.const _
   ·exact .const _
theorem zdb(k:Nat)(c:AX)(st:St):Zao fun O=>(Zc7 T O).loop k c st:=by
 refine(zb9 T k c st).bind fun r=>?_;obtain⟨e,s⟩:=r;cases e
 ·exact .loop _ _ _
 ·exact .const _
 ·exact .const _
 ·exact .const _
theorem zhu:∀(n:Nat) (q:Qy),Holds (orcN T n) q→Holds (orcN T (n+1)) q
 | 0,q,h=>by cases q<;>cases h
 | n+1,.call u xs hb r,h=>by
  obtain⟨L,h1,h2⟩:=zda T u xs hb _ r h;exact h2 _ fun q hq=>zhu n q (h1 q hq)
 | n+1,.loop k c st r,h=>by
  obtain⟨L,h1,h2⟩:=zdb T k c st _ r h;exact h2 _ fun q hq=>zhu n q (h1 q hq)
theorem zoo{n m:Nat}(h:n≤m)(q:Qy)(hq:Holds (orcN T n) q):Holds (orcN T m) q:=by
 induction h with
 | refl=>omega
 | step _ ih=>exact zhu T _ q ih
open Classical in
noncomputable def lim{α:Type}(f:Nat→Option α):Option α:=if h:∃n a,f n=some a then f (Classical.choose h) else none
theorem zqf{α:Type}{f:Nat→Option α}(hm:∀n m a,n≤m→f n=some a→f m=some a)(a:α):lim f=some a↔∃n,f n=some a:=by
 unfold lim;constructor
 ·intro h;split at h
  all_goals grind
 ·intro ⟨n,h⟩;have hex:∃n a,f n=some a:=⟨n,a,h⟩
  grind
noncomputable def orc:Orc:=⟨fun u xs hb=>lim fun n=>(orcN T n).call u xs hb,fun k c st=>lim fun n=>(orcN T n).loop k c st⟩
theorem zck(q:Qy):Holds (orc T) q↔∃n,Holds (orcN T n) q:=by
 cases q with
 | call u xs hb r=>exact zqf (fun n m a hnm h=>zoo T hnm (.call u xs hb a) h) r
 | loop k c st r=>exact zqf (fun n m a hnm h=>zoo T hnm (.loop k c st a) h) r
theorem zop{L:List Qy}(h:∀q∈L,Holds (orc T) q):∃n,∀q∈L,Holds (orcN T n) q:=by
 induction L with
 | nil=>simp_all
 | cons q L ih=>
  obtain⟨n,hn⟩:=ih fun q hq=>h q (Yj _ hq);obtain⟨m,hm⟩:=(zck T q).1 (h q Yp);refine⟨max n m,fun x hx=>?_⟩
  grind[zoo,Nat.le_max_right]
theorem zkl(u:Nat)(xs:List AV)(hb:Heap):(orc T).call u xs hb=(Zc7 T (orc T)).call u xs hb:=by
 apply Option.ext;intro r;constructor
 ·intro h;obtain⟨n,hn⟩:=(zck T (.call u xs hb r)).1 h;cases n with
  | zero=>cases hn
  | succ n=>
   obtain⟨L,h1,h2⟩:=zda T u xs hb _ r hn
   grind[zck]
 ·intro h;obtain⟨L,h1,h2⟩:=zda T u xs hb _ r h;obtain⟨n,hn⟩:=zop T h1;exact(zck T (.call u xs hb r)).2 ⟨n+1,h2 _ hn⟩
theorem zyz(k:Nat)(c:AX)(st:St):(orc T).loop k c st=(Zc7 T (orc T)).loop k c st:=by
 apply Option.ext;intro r;constructor
 ·intro h;obtain⟨n,hn⟩:=(zck T (.loop k c st r)).1 h;cases n with
  | zero=>cases hn
  | succ n=>
   obtain⟨L,h1,h2⟩:=zdb T k c st _ r hn
   grind[zck]
 ·intro h;obtain⟨L,h1,h2⟩:=zdb T k c st _ r h;obtain⟨n,hn⟩:=zop T h1;exact(zck T (.loop k c st r)).2 ⟨n+1,h2 _ hn⟩
end
noncomputable def Za(T:Tbl)(u:Nat)(xs:List AV):Option AV:=((orc T).call u xs []).map (·.1)
noncomputable def Z0(T:Tbl)(u:Nat)(xs:List AV)(hb:Heap):Option (AV×Heap):=(orc T).call u xs hb
noncomputable def Ziw(T:Tbl)(k:Nat)(c:AX)(st:St):Option (Ex×St):=(orc T).loop k c st
theorem zhv{P:Program}{ν:Nat→FuncId}{T:Tbl}(hT:TOk P ν T)(hm:P.follows .mixedOrders=true){u:Nat}{af:AFx}{xs:List AV}{r:AV}(hu:T u=some af)(hl:af.lent=none)(h:Za T u xs=some r):Zat P (ν u) xs (·=r):=by
 obtain⟨⟨r',h'⟩,h1,rfl⟩:=map_some h;obtain⟨n,hn⟩:=(zck T (.call u xs [] (r',h'))).1 h1;exact(GoodO.orcN hT hm n).pure u af xs r' h' hu hl hn
end
section
open Go.RowKit
def u8(n:Nat):AV:=.i .u8 (n:Int)
def u32(n:Nat):AV:=.i .u32 (n:Int)
def u64(n:Nat):AV:=.i .u64 (n:Int)
@[simp] theorem zalp(k:IntKind)(n:Int):wkA (.i k n)=.i k n:=rfl
@[simp] theorem zaiu{h:Heap}(k:IntKind)(n:Int):Zax h (.i k n)=some (.i k n):=rfl
@[simp] theorem zaiv{h:Heap}(k:IntKind)(n:Int):Zby h (.i k n)=some (.i k n):=rfl
@[simp] theorem zalq{h:Heap}(k:IntKind)(n:Int):frz h (.i k n)=some (.i k n):=rfl
@[simp] theorem z6t(k:IntKind)(n:Int):Zap (.i k n)=true:=rfl
@[simp] theorem z6u(k:IntKind)(n:Int):Zaq (.i k n)=true:=rfl
@[simp] theorem zaam(k:IntKind)(n:Int):scalar (.i k n)=true:=rfl
@[simp] theorem zad6(k:IntKind)(n:Int):pureC (.i k n)=true:=rfl
@[simp] theorem zad7(k:IntKind)(n:Int):noRef (.i k n)=true:=rfl
@[simp] theorem zaiw(k:IntKind)(n:Int):refs (.i k n)=[]:=rfl
@[simp] theorem zalr(k:IntKind)(n:Int):rfC (.i k n)=[]:=rfl
@[simp] theorem zals(k:IntKind)(n:Int):rf1 (.i k n)=[]:=rfl
@[simp] theorem zalt(k:IntKind)(n:Int):rfA (.i k n)=[]:=rfl
@[simp] theorem zalu{σn:BId→BId}{σg:Nat→Nat}(k:IntKind)(n:Int):rlC σn σg (.i k n)=(.i k n):=rfl
@[simp] theorem zalv{σn:BId→BId}{σg:Nat→Nat}(k:IntKind)(n:Int):rl1 σn σg (.i k n)=(.i k n):=rfl
@[simp] theorem zalw{σn:BId→BId}{σg:Nat→Nat}(k:IntKind)(n:Int):rlA σn σg (.i k n)=(.i k n):=rfl
@[simp] theorem zaan{h:Heap}(k:IntKind)(n:Int):Za3 h (.i k n)=true:=rfl
@[simp] theorem zaao{h:Heap}(k:IntKind)(n:Int):Zbh h (.i k n)=true:=rfl
@[simp] theorem zad8{h:Heap}(k:IntKind)(n:Int):Zcb h (.i k n)=true:=rfl
@[simp] theorem z6v(k:IntKind)(n:Int):cellsOf (.i k n)=some [.i k n]:=rfl
@[simp] theorem zalx(t:Bool):wkA (.b t)=.b t:=rfl
@[simp] theorem zaix{h:Heap}(t:Bool):Zax h (.b t)=some (.b t):=rfl
@[simp] theorem zaiy{h:Heap}(t:Bool):Zby h (.b t)=some (.b t):=rfl
@[simp] theorem zaly{h:Heap}(t:Bool):frz h (.b t)=some (.b t):=rfl
@[simp] theorem z6w(t:Bool):Zap (.b t)=true:=rfl
@[simp] theorem z6x(t:Bool):Zaq (.b t)=true:=rfl
@[simp] theorem zaap(t:Bool):scalar (.b t)=true:=rfl
@[simp] theorem zad9(t:Bool):pureC (.b t)=true:=rfl
@[simp] theorem zaea(t:Bool):noRef (.b t)=true:=rfl
@[simp] theorem zaiz(t:Bool):refs (.b t)=[]:=rfl
@[simp] theorem zalz(t:Bool):rfC (.b t)=[]:=rfl
@[simp] theorem zal0(t:Bool):rf1 (.b t)=[]:=rfl
@[simp] theorem zal1(t:Bool):rfA (.b t)=[]:=rfl
@[simp] theorem zal2{σn:BId→BId}{σg:Nat→Nat}(t:Bool):rlC σn σg (.b t)=(.b t):=rfl
@[simp] theorem zal3{σn:BId→BId}{σg:Nat→Nat}(t:Bool):rl1 σn σg (.b t)=(.b t):=rfl
@[simp] theorem zal4{σn:BId→BId}{σg:Nat→Nat}(t:Bool):rlA σn σg (.b t)=(.b t):=rfl
@[simp] theorem zaaq{h:Heap}(t:Bool):Za3 h (.b t)=true:=rfl
@[simp] theorem zaar{h:Heap}(t:Bool):Zbh h (.b t)=true:=rfl
@[simp] theorem zaeb{h:Heap}(t:Bool):Zcb h (.b t)=true:=rfl
@[simp] theorem z6y(t:Bool):cellsOf (.b t)=some [.b t]:=rfl
@[simp] theorem zal5(l:List UInt8):wkA (.s l)=.s l:=rfl
@[simp] theorem zai0{h:Heap}(l:List UInt8):Zax h (.s l)=some (.s l):=rfl
@[simp] theorem zai1{h:Heap}(l:List UInt8):Zby h (.s l)=some (.s l):=rfl
@[simp] theorem zal6{h:Heap}(l:List UInt8):frz h (.s l)=some (.s l):=rfl
@[simp] theorem z6z(l:List UInt8):Zap (.s l)=true:=rfl
@[simp] theorem z60(l:List UInt8):Zaq (.s l)=true:=rfl
@[simp] theorem zaas(l:List UInt8):scalar (.s l)=true:=rfl
@[simp] theorem zaec(l:List UInt8):pureC (.s l)=true:=rfl
@[simp] theorem zaed(l:List UInt8):noRef (.s l)=true:=rfl
@[simp] theorem zai2(l:List UInt8):refs (.s l)=[]:=rfl
@[simp] theorem zal7(l:List UInt8):rfC (.s l)=[]:=rfl
@[simp] theorem zal8(l:List UInt8):rf1 (.s l)=[]:=rfl
@[simp] theorem zal9(l:List UInt8):rfA (.s l)=[]:=rfl
@[simp] theorem zama{σn:BId→BId}{σg:Nat→Nat}(l:List UInt8):rlC σn σg (.s l)=(.s l):=rfl
@[simp] theorem zamb{σn:BId→BId}{σg:Nat→Nat}(l:List UInt8):rl1 σn σg (.s l)=(.s l):=rfl
@[simp] theorem zamc{σn:BId→BId}{σg:Nat→Nat}(l:List UInt8):rlA σn σg (.s l)=(.s l):=rfl
@[simp] theorem zaat{h:Heap}(l:List UInt8):Za3 h (.s l)=true:=rfl
@[simp] theorem zaau{h:Heap}(l:List UInt8):Zbh h (.s l)=true:=rfl
@[simp] theorem zaee{h:Heap}(l:List UInt8):Zcb h (.s l)=true:=rfl
@[simp] theorem z61(l:List UInt8):cellsOf (.s l)=some [.s l]:=rfl
@[simp] theorem zaef(v:Value):wkA (.raw v)=.raw v:=rfl
@[simp] theorem zaav{h:Heap}(v:Value):Zax h (.raw v)=some (.raw v):=rfl
@[simp] theorem zaaw{h:Heap}(v:Value):Zby h (.raw v)=some (.raw v):=rfl
@[simp] theorem zaeg{h:Heap}(v:Value):frz h (.raw v)=some (.raw v):=rfl
@[simp] theorem z19(v:Value):Zap (.raw v)=false:=rfl
@[simp] theorem z2a(v:Value):Zaq (.raw v)=false:=rfl
@[simp] theorem z4u(v:Value):scalar (.raw v)=false:=rfl
@[simp] theorem z62(v:Value):pureC (.raw v)=true:=rfl
@[simp] theorem z63(v:Value):noRef (.raw v)=true:=rfl
@[simp] theorem zaax(v:Value):refs (.raw v)=[]:=rfl
@[simp] theorem zaeh(v:Value):rfC (.raw v)=[]:=rfl
@[simp] theorem zaei(v:Value):rf1 (.raw v)=[]:=rfl
@[simp] theorem zaej(v:Value):rfA (.raw v)=[]:=rfl
@[simp] theorem zaek{σn:BId→BId}{σg:Nat→Nat}(v:Value):rlC σn σg (.raw v)=(.raw v):=rfl
@[simp] theorem zael{σn:BId→BId}{σg:Nat→Nat}(v:Value):rl1 σn σg (.raw v)=(.raw v):=rfl
@[simp] theorem zaem{σn:BId→BId}{σg:Nat→Nat}(v:Value):rlA σn σg (.raw v)=(.raw v):=rfl
@[simp] theorem z4v{h:Heap}(v:Value):Za3 h (.raw v)=true:=rfl
@[simp] theorem z4w{h:Heap}(v:Value):Zbh h (.raw v)=true:=rfl
@[simp] theorem z64{h:Heap}(v:Value):Zcb h (.raw v)=true:=rfl
@[simp] theorem zaen{h:Heap}(els:List (List AV))(f:Fl):Zax h (.sl els f)=some (.sl els f):=rfl
@[simp] theorem zaeo{h:Heap}(els:List (List AV))(f:Fl):Zby h (.sl els f)=some (.sl els f):=rfl
@[simp] theorem zai3{h:Heap}(els:List (List AV))(f:Fl):frz h (.sl els f)=some (.sl els f):=rfl
@[simp] theorem z4x(els:List (List AV))(f:Fl):Zap (.sl els f)=false:=rfl
@[simp] theorem z4y(els:List (List AV))(f:Fl):Zaq (.sl els f)=false:=rfl
@[simp] theorem z65(els:List (List AV))(f:Fl):scalar (.sl els f)=false:=rfl
@[simp] theorem zaay(els:List (List AV))(f:Fl):pureC (.sl els f)=true:=rfl
@[simp] theorem zaaz(els:List (List AV))(f:Fl):noRef (.sl els f)=true:=rfl
@[simp] theorem zaep(els:List (List AV))(f:Fl):refs (.sl els f)=[]:=rfl
@[simp] theorem zai4(els:List (List AV))(f:Fl):rfC (.sl els f)=[]:=rfl
@[simp] theorem zai5(els:List (List AV))(f:Fl):rf1 (.sl els f)=[]:=rfl
@[simp] theorem zai6(els:List (List AV))(f:Fl):rfA (.sl els f)=[]:=rfl
@[simp] theorem zai7{σn:BId→BId}{σg:Nat→Nat}(els:List (List AV))(f:Fl):rlC σn σg (.sl els f)=(.sl els f):=rfl
@[simp] theorem zai8{σn:BId→BId}{σg:Nat→Nat}(els:List (List AV))(f:Fl):rl1 σn σg (.sl els f)=(.sl els f):=rfl
@[simp] theorem zai9{σn:BId→BId}{σg:Nat→Nat}(els:List (List AV))(f:Fl):rlA σn σg (.sl els f)=(.sl els f):=rfl
@[simp] theorem z66{h:Heap}(els:List (List AV))(f:Fl):Za3 h (.sl els f)=true:=rfl
@[simp] theorem z67{h:Heap}(els:List (List AV))(f:Fl):Zbh h (.sl els f)=true:=rfl
@[simp] theorem zaa0{h:Heap}(els:List (List AV))(f:Fl):Zcb h (.sl els f)=true:=rfl
@[simp] theorem z4z(els:List (List AV))(f:Fl):cellsOf (.sl els f)=some [.sl els f]:=rfl
@[simp] theorem zaja(cs:List AV)(o:Nat):wkA (.ep cs o)=.ep cs o:=rfl
@[simp] theorem zaeq{h:Heap}(cs:List AV)(o:Nat):Zax h (.ep cs o)=some (.ep cs o):=rfl
@[simp] theorem zaer{h:Heap}(cs:List AV)(o:Nat):Zby h (.ep cs o)=some (.ep cs o):=rfl
@[simp] theorem zajb{h:Heap}(cs:List AV)(o:Nat):frz h (.ep cs o)=some (.ep cs o):=rfl
@[simp] theorem z40(cs:List AV)(o:Nat):Zap (.ep cs o)=false:=rfl
@[simp] theorem z41(cs:List AV)(o:Nat):Zaq (.ep cs o)=false:=rfl
@[simp] theorem z68(cs:List AV)(o:Nat):scalar (.ep cs o)=false:=rfl
@[simp] theorem zaa1(cs:List AV)(o:Nat):pureC (.ep cs o)=true:=rfl
@[simp] theorem zaa2(cs:List AV)(o:Nat):noRef (.ep cs o)=true:=rfl
@[simp] theorem zaes(cs:List AV)(o:Nat):refs (.ep cs o)=[]:=rfl
@[simp] theorem zajc(cs:List AV)(o:Nat):rfC (.ep cs o)=[]:=rfl
@[simp] theorem zajd(cs:List AV)(o:Nat):rf1 (.ep cs o)=[]:=rfl
@[simp] theorem zaje(cs:List AV)(o:Nat):rfA (.ep cs o)=[]:=rfl
@[simp] theorem zajf{σn:BId→BId}{σg:Nat→Nat}(cs:List AV)(o:Nat):rlC σn σg (.ep cs o)=(.ep cs o):=rfl
@[simp] theorem zajg{σn:BId→BId}{σg:Nat→Nat}(cs:List AV)(o:Nat):rl1 σn σg (.ep cs o)=(.ep cs o):=rfl
@[simp] theorem zajh{σn:BId→BId}{σg:Nat→Nat}(cs:List AV)(o:Nat):rlA σn σg (.ep cs o)=(.ep cs o):=rfl
@[simp] theorem z69{h:Heap}(cs:List AV)(o:Nat):Za3 h (.ep cs o)=true:=rfl
@[simp] theorem z7a{h:Heap}(cs:List AV)(o:Nat):Zbh h (.ep cs o)=true:=rfl
@[simp] theorem zaa3{h:Heap}(cs:List AV)(o:Nat):Zcb h (.ep cs o)=true:=rfl
@[simp] theorem z42(cs:List AV)(o:Nat):cellsOf (.ep cs o)=some [.ep cs o]:=rfl
@[simp] theorem zaji(n:Nat):wkA (u8 n)=u8 n:=rfl
@[simp] theorem zaet{h:Heap}(n:Nat):Zax h (u8 n)=some (u8 n):=rfl
@[simp] theorem zaeu{h:Heap}(n:Nat):Zby h (u8 n)=some (u8 n):=rfl
@[simp] theorem zajj{h:Heap}(n:Nat):frz h (u8 n)=some (u8 n):=rfl
@[simp] theorem z43(n:Nat):Zap (u8 n)=true:=rfl
@[simp] theorem z44(n:Nat):Zaq (u8 n)=true:=rfl
@[simp] theorem z7b(n:Nat):scalar (u8 n)=true:=rfl
@[simp] theorem zaa4(n:Nat):pureC (u8 n)=true:=rfl
@[simp] theorem zaa5(n:Nat):noRef (u8 n)=true:=rfl
@[simp] theorem zaev(n:Nat):refs (u8 n)=[]:=rfl
@[simp] theorem zajk(n:Nat):rfC (u8 n)=[]:=rfl
@[simp] theorem zajl(n:Nat):rf1 (u8 n)=[]:=rfl
@[simp] theorem zajm(n:Nat):rfA (u8 n)=[]:=rfl
@[simp] theorem zajn{σn:BId→BId}{σg:Nat→Nat}(n:Nat):rlC σn σg (u8 n)=(u8 n):=rfl
@[simp] theorem zajo{σn:BId→BId}{σg:Nat→Nat}(n:Nat):rl1 σn σg (u8 n)=(u8 n):=rfl
@[simp] theorem zajp{σn:BId→BId}{σg:Nat→Nat}(n:Nat):rlA σn σg (u8 n)=(u8 n):=rfl
@[simp] theorem z7c{h:Heap}(n:Nat):Za3 h (u8 n)=true:=rfl
@[simp] theorem z7d{h:Heap}(n:Nat):Zbh h (u8 n)=true:=rfl
@[simp] theorem zaa6{h:Heap}(n:Nat):Zcb h (u8 n)=true:=rfl
@[simp] theorem z45(n:Nat):cellsOf (u8 n)=some [u8 n]:=rfl
@[simp] theorem zaew(n:Nat):wkA (u32 n)=u32 n:=rfl
@[simp] theorem zaa7{h:Heap}(n:Nat):Zax h (u32 n)=some (u32 n):=rfl
@[simp] theorem zaa8{h:Heap}(n:Nat):Zby h (u32 n)=some (u32 n):=rfl
@[simp] theorem zaex{h:Heap}(n:Nat):frz h (u32 n)=some (u32 n):=rfl
@[simp] theorem z2b(n:Nat):Zap (u32 n)=true:=rfl
@[simp] theorem z2c(n:Nat):Zaq (u32 n)=true:=rfl
@[simp] theorem z46(n:Nat):scalar (u32 n)=true:=rfl
@[simp] theorem z7e(n:Nat):pureC (u32 n)=true:=rfl
@[simp] theorem z7f(n:Nat):noRef (u32 n)=true:=rfl
@[simp] theorem zaa9(n:Nat):refs (u32 n)=[]:=rfl
@[simp] theorem zaey(n:Nat):rfC (u32 n)=[]:=rfl
@[simp] theorem zaez(n:Nat):rf1 (u32 n)=[]:=rfl
@[simp] theorem zae0(n:Nat):rfA (u32 n)=[]:=rfl
@[simp] theorem zae1{σn:BId→BId}{σg:Nat→Nat}(n:Nat):rlC σn σg (u32 n)=(u32 n):=rfl
@[simp] theorem zae2{σn:BId→BId}{σg:Nat→Nat}(n:Nat):rl1 σn σg (u32 n)=(u32 n):=rfl
@[simp] theorem zae3{σn:BId→BId}{σg:Nat→Nat}(n:Nat):rlA σn σg (u32 n)=(u32 n):=rfl
@[simp] theorem z47{h:Heap}(n:Nat):Za3 h (u32 n)=true:=rfl
@[simp] theorem z48{h:Heap}(n:Nat):Zbh h (u32 n)=true:=rfl
@[simp] theorem z7g{h:Heap}(n:Nat):Zcb h (u32 n)=true:=rfl
@[simp] theorem z2d(n:Nat):cellsOf (u32 n)=some [u32 n]:=rfl
@[simp] theorem zae4(n:Nat):wkA (u64 n)=u64 n:=rfl
@[simp] theorem zaba{h:Heap}(n:Nat):Zax h (u64 n)=some (u64 n):=rfl
@[simp] theorem zabb{h:Heap}(n:Nat):Zby h (u64 n)=some (u64 n):=rfl
@[simp] theorem zae5{h:Heap}(n:Nat):frz h (u64 n)=some (u64 n):=rfl
@[simp] theorem z2e(n:Nat):Zap (u64 n)=true:=rfl
@[simp] theorem z2f(n:Nat):Zaq (u64 n)=true:=rfl
@[simp] theorem z49(n:Nat):scalar (u64 n)=true:=rfl
@[simp] theorem z7h(n:Nat):pureC (u64 n)=true:=rfl
@[simp] theorem z7i(n:Nat):noRef (u64 n)=true:=rfl
@[simp] theorem zabc(n:Nat):refs (u64 n)=[]:=rfl
@[simp] theorem zae6(n:Nat):rfC (u64 n)=[]:=rfl
@[simp] theorem zae7(n:Nat):rf1 (u64 n)=[]:=rfl
@[simp] theorem zae8(n:Nat):rfA (u64 n)=[]:=rfl
@[simp] theorem zae9{σn:BId→BId}{σg:Nat→Nat}(n:Nat):rlC σn σg (u64 n)=(u64 n):=rfl
@[simp] theorem zafa{σn:BId→BId}{σg:Nat→Nat}(n:Nat):rl1 σn σg (u64 n)=(u64 n):=rfl
@[simp] theorem zafb{σn:BId→BId}{σg:Nat→Nat}(n:Nat):rlA σn σg (u64 n)=(u64 n):=rfl
@[simp] theorem z5a{h:Heap}(n:Nat):Za3 h (u64 n)=true:=rfl
@[simp] theorem z5b{h:Heap}(n:Nat):Zbh h (u64 n)=true:=rfl
@[simp] theorem z7j{h:Heap}(n:Nat):Zcb h (u64 n)=true:=rfl
@[simp] theorem z2g(n:Nat):cellsOf (u64 n)=some [u64 n]:=rfl
@[simp] theorem zabd :wkA .dead=.dead:=rfl
@[simp] theorem z7k{h:Heap} :Zax h .dead=some .dead:=rfl
@[simp] theorem z7l{h:Heap} :Zby h .dead=some .dead:=rfl
@[simp] theorem zabe{h:Heap} :frz h .dead=some .dead:=rfl
@[simp] theorem z00 :Zap .dead=false:=rfl
@[simp] theorem z01 :Zaq .dead=false:=rfl
@[simp] theorem z2h :scalar .dead=false:=rfl
@[simp] theorem z5c :pureC .dead=true:=rfl
@[simp] theorem z5d :noRef .dead=true:=rfl
@[simp] theorem z7m :refs .dead=[]:=rfl
@[simp] theorem zabf :rfC .dead=[]:=rfl
@[simp] theorem zabg :rf1 .dead=[]:=rfl
@[simp] theorem zabh :rfA .dead=[]:=rfl
@[simp] theorem zabi{σn:BId→BId}{σg:Nat→Nat} :rlC σn σg .dead=.dead:=rfl
@[simp] theorem zabj{σn:BId→BId}{σg:Nat→Nat} :rl1 σn σg .dead=.dead:=rfl
@[simp] theorem zabk{σn:BId→BId}{σg:Nat→Nat} :rlA σn σg .dead=.dead:=rfl
@[simp] theorem z2i{h:Heap} :Za3 h .dead=true:=rfl
@[simp] theorem z2j{h:Heap} :Zbh h .dead=true:=rfl
@[simp] theorem z5e{h:Heap} :Zcb h .dead=true:=rfl
@[simp] theorem zajq(els:List (List AV))(f:Fl):wkA (.sl els f)=.sl (wkL els) .an:=rfl
@[simp] theorem zafc(cs:List AV):wkA (.agg cs)=.agg (wkR cs):=rfl
@[simp] theorem zafd(cs:List AV):wkA (.tup cs)=.tup (wkR cs):=rfl
@[simp] theorem zajr(id:BId)(g z off n:Nat):wkA (.bs id g z off n)=.bs id g z off n:=rfl
@[simp] theorem zafe(id:BId)(g z i o:Nat):wkA (.ptr id g z i o)=.ptr id g z i o:=rfl
@[simp] theorem zaff(f:Nat)(id:BId)(g z i o:Nat):wkA (.fnp f id g z i o)=.fnp f id g z i o:=rfl
@[simp] theorem zafg(f:Nat)(x:AV):wkA (.fnv f x)=.fnv f (wkA x):=rfl
@[simp] theorem zafh :wkR []=[]:=rfl
@[simp] theorem zabl(c:AV)(r:List AV):wkR (c::r)=wkA c::wkR r:=rfl
@[simp] theorem zafi :wkL []=[]:=rfl
@[simp] theorem zabm(c:List AV)(r:List (List AV)):wkL (c::r)=wkR c::wkL r:=rfl
@[simp] theorem zafj{h:Heap}(id:BId)(g z off n:Nat):Zby h (.bs id g z off n)=(Zac h id g z).bind fun bx=>if bx.kind≠.str∧off+n≤bx.els.length then some (.sl ((bx.els.drop off).take n) .an) else none:=rfl
@[simp] theorem zabn{h:Heap}(id:BId)(g z i o:Nat):Zby h (.ptr id g z i o)=some .dead:=rfl
@[simp] theorem zabo{h:Heap}(f:Nat)(id:BId)(g z i o:Nat):Zby h (.fnp f id g z i o)=some .dead:=rfl
@[simp] theorem zabp{h:Heap}(f:Nat)(x:AV):Zby h (.fnv f x)=some (.fnv f x):=rfl
@[simp] theorem zafk{h:Heap}(id:BId)(g z off n:Nat):Zax h (.bs id g z off n)=(Zac h id g z).bind fun bx=>if bx.kind≠.str∧off+n≤bx.els.length then some (.sl ((bx.els.drop off).take n) .an) else none:=rfl
@[simp] theorem zabq{h:Heap}(id:BId)(g z i o:Nat):Zax h (.ptr id g z i o)=some .dead:=rfl
@[simp] theorem zabr{h:Heap}(f:Nat)(id:BId)(g z i o:Nat):Zax h (.fnp f id g z i o)=some .dead:=rfl
@[simp] theorem zabs{h:Heap}(f:Nat)(x:AV):Zax h (.fnv f x)=some (.fnv f x):=rfl
@[simp] theorem zajs{h:Heap}(id:BId)(g z off n:Nat):frz h (.bs id g z off n)=(Zac h id g z).bind fun bx=>if bx.kind≠.str∧off+n≤bx.els.length then some (.sl ((bx.els.drop off).take n) .an) else none:=rfl
@[simp] theorem zafl{h:Heap}(id:BId)(g z i o:Nat):frz h (.ptr id g z i o)=some .dead:=rfl
@[simp] theorem zafm{h:Heap}(f:Nat)(id:BId)(g z i o:Nat):frz h (.fnp f id g z i o)=some .dead:=rfl
@[simp] theorem zafn{h:Heap}(f:Nat)(x:AV):frz h (.fnv f x)=some (.fnv f x):=rfl
@[simp] theorem zabt{h:Heap}(cs:List AV):Zax h (.agg cs)=(cs.mapM (Zby h)).map .agg:=rfl
@[simp] theorem zafo{h:Heap}(cs:List AV):frz h (.agg cs)=(cs.mapM (Zby h)).map .agg:=rfl
@[simp] theorem zafp{h:Heap}(cs:List AV):frz h (.tup cs)=(cs.mapM (Zax h)).map .tup:=rfl
@[simp] theorem z5f(id:BId)(g z off n:Nat):Zap (.bs id g z off n)=false:=rfl
@[simp] theorem z2k(id:BId)(g z i o:Nat):Zap (.ptr id g z i o)=false:=rfl
@[simp] theorem z2l(f:Nat)(id:BId)(g z i o:Nat):Zap (.fnp f id g z i o)=false:=rfl
@[simp] theorem z2m(f:Nat)(x:AV):Zap (.fnv f x)=false:=rfl
@[simp] theorem z5g(id:BId)(g z off n:Nat):Zaq (.bs id g z off n)=false:=rfl
@[simp] theorem z2n(id:BId)(g z i o:Nat):Zaq (.ptr id g z i o)=false:=rfl
@[simp] theorem z2o(f:Nat)(id:BId)(g z i o:Nat):Zaq (.fnp f id g z i o)=false:=rfl
@[simp] theorem z2p(f:Nat)(x:AV):Zaq (.fnv f x)=false:=rfl
@[simp] theorem z7n(id:BId)(g z off n:Nat):scalar (.bs id g z off n)=false:=rfl
@[simp] theorem z5h(id:BId)(g z i o:Nat):scalar (.ptr id g z i o)=false:=rfl
@[simp] theorem z5i(f:Nat)(id:BId)(g z i o:Nat):scalar (.fnp f id g z i o)=false:=rfl
@[simp] theorem z5j(f:Nat)(x:AV):scalar (.fnv f x)=false:=rfl
@[simp] theorem z2q(cs:List AV):Zaq (.agg cs)=cs.all Zap:=rfl
@[simp] theorem z5k(cs:List AV):scalar (.agg cs)=cs.all Zap:=rfl
@[simp] theorem z5l(cs:List AV):scalar (.tup cs)=cs.all Zaq:=rfl
@[simp] theorem zabu(id:BId)(g z off n:Nat):pureC (.bs id g z off n)=false:=rfl
@[simp] theorem z7o(id:BId)(g z i o:Nat):pureC (.ptr id g z i o)=false:=rfl
@[simp] theorem z7p(f:Nat)(id:BId)(g z i o:Nat):pureC (.fnp f id g z i o)=false:=rfl
@[simp] theorem z7q(f:Nat)(x:AV):pureC (.fnv f x)=true:=rfl
@[simp] theorem z7r(cs:List AV):pureC (.agg cs)=false:=rfl
@[simp] theorem z7s(cs:List AV):pureC (.tup cs)=false:=rfl
@[simp] theorem zabv(id:BId)(g z off n:Nat):noRef (.bs id g z off n)=false:=rfl
@[simp] theorem z7t(id:BId)(g z i o:Nat):noRef (.ptr id g z i o)=false:=rfl
@[simp] theorem z7u(f:Nat)(id:BId)(g z i o:Nat):noRef (.fnp f id g z i o)=false:=rfl
@[simp] theorem z7v(f:Nat)(x:AV):noRef (.fnv f x)=true:=rfl
@[simp] theorem z7w(cs:List AV):noRef (.agg cs)=cs.all pureC:=rfl
@[simp] theorem z7x(cs:List AV):noRef (.tup cs)=false:=rfl
@[simp] theorem zafq(id:BId)(g z off n:Nat):refs (.bs id g z off n)=[id]:=rfl
@[simp] theorem zabw(id:BId)(g z i o:Nat):refs (.ptr id g z i o)=[]:=rfl
@[simp] theorem zabx(f:Nat)(id:BId)(g z i o:Nat):refs (.fnp f id g z i o)=[]:=rfl
@[simp] theorem zaby(f:Nat)(x:AV):refs (.fnv f x)=[]:=rfl
@[simp] theorem zajt(id:BId)(g z off n:Nat):rfC (.bs id g z off n)=[id]:=rfl
@[simp] theorem zafr(id:BId)(g z i o:Nat):rfC (.ptr id g z i o)=[id]:=rfl
@[simp] theorem zafs(f:Nat)(id:BId)(g z i o:Nat):rfC (.fnp f id g z i o)=[id]:=rfl
@[simp] theorem zaft(f:Nat)(x:AV):rfC (.fnv f x)=[]:=rfl
@[simp] theorem zaju(id:BId)(g z off n:Nat):rf1 (.bs id g z off n)=[id]:=rfl
@[simp] theorem zafu(id:BId)(g z i o:Nat):rf1 (.ptr id g z i o)=[id]:=rfl
@[simp] theorem zafv(f:Nat)(id:BId)(g z i o:Nat):rf1 (.fnp f id g z i o)=[id]:=rfl
@[simp] theorem zafw(f:Nat)(x:AV):rf1 (.fnv f x)=[]:=rfl
@[simp] theorem zajv(id:BId)(g z off n:Nat):rfA (.bs id g z off n)=[id]:=rfl
@[simp] theorem zafx(id:BId)(g z i o:Nat):rfA (.ptr id g z i o)=[id]:=rfl
@[simp] theorem zafy(f:Nat)(id:BId)(g z i o:Nat):rfA (.fnp f id g z i o)=[id]:=rfl
@[simp] theorem zafz(f:Nat)(x:AV):rfA (.fnv f x)=[]:=rfl
def Zfx:AV→List BId
 | .bs id .. => [id]
 | _=>[]
@[simp] theorem zaf0(cs:List AV):rf1 (.agg cs)=cs.flatMap rfC:=rfl
@[simp] theorem zaf1(cs:List AV):rfA (.agg cs)=cs.flatMap rfC:=rfl
@[simp] theorem zaf2(cs:List AV):rfA (.tup cs)=cs.flatMap rf1:=rfl
@[simp] theorem zajw{σn:BId→BId}{σg:Nat→Nat}(id:BId)(g z off n:Nat):rlC σn σg (.bs id g z off n)=.bs (σn id) (σg g) z off n:=rfl
@[simp] theorem zaf3{σn:BId→BId}{σg:Nat→Nat}(id:BId)(g z i o:Nat):rlC σn σg (.ptr id g z i o)=.ptr (σn id) (σg g) z i o:=rfl
@[simp] theorem zaf4{σn:BId→BId}{σg:Nat→Nat}(f:Nat)(id:BId)(g z i o:Nat):rlC σn σg (.fnp f id g z i o)=.fnp f (σn id) (σg g) z i o:=rfl
@[simp] theorem zaf5{σn:BId→BId}{σg:Nat→Nat}(f:Nat)(x:AV):rlC σn σg (.fnv f x)=.fnv f x:=rfl
@[simp] theorem zajx{σn:BId→BId}{σg:Nat→Nat}(id:BId)(g z off n:Nat):rl1 σn σg (.bs id g z off n)=.bs (σn id) (σg g) z off n:=rfl
@[simp] theorem zaf6{σn:BId→BId}{σg:Nat→Nat}(id:BId)(g z i o:Nat):rl1 σn σg (.ptr id g z i o)=.ptr (σn id) (σg g) z i o:=rfl
@[simp] theorem zaf7{σn:BId→BId}{σg:Nat→Nat}(f:Nat)(id:BId)(g z i o:Nat):rl1 σn σg (.fnp f id g z i o)=.fnp f (σn id) (σg g) z i o:=rfl
@[simp] theorem zaf8{σn:BId→BId}{σg:Nat→Nat}(f:Nat)(x:AV):rl1 σn σg (.fnv f x)=.fnv f x:=rfl
@[simp] theorem zajy{σn:BId→BId}{σg:Nat→Nat}(id:BId)(g z off n:Nat):rlA σn σg (.bs id g z off n)=.bs (σn id) (σg g) z off n:=rfl
@[simp] theorem zaf9{σn:BId→BId}{σg:Nat→Nat}(id:BId)(g z i o:Nat):rlA σn σg (.ptr id g z i o)=.ptr (σn id) (σg g) z i o:=rfl
@[simp] theorem zaga{σn:BId→BId}{σg:Nat→Nat}(f:Nat)(id:BId)(g z i o:Nat):rlA σn σg (.fnp f id g z i o)=.fnp f (σn id) (σg g) z i o:=rfl
@[simp] theorem zagb{σn:BId→BId}{σg:Nat→Nat}(f:Nat)(x:AV):rlA σn σg (.fnv f x)=.fnv f x:=rfl
@[simp] theorem zagc{σn:BId→BId}{σg:Nat→Nat}(cs:List AV):rl1 σn σg (.agg cs)=.agg (cs.map (rlC σn σg)):=rfl
@[simp] theorem zagd{σn:BId→BId}{σg:Nat→Nat}(cs:List AV):rlA σn σg (.agg cs)=.agg (cs.map (rlC σn σg)):=rfl
@[simp] theorem zage{σn:BId→BId}{σg:Nat→Nat}(cs:List AV):rlA σn σg (.tup cs)=.tup (cs.map (rl1 σn σg)):=rfl
@[simp] theorem z7y{h:Heap}(id:BId)(g z off n:Nat):Za3 h (.bs id g z off n)=(Zac h id g z).isSome:=rfl
@[simp] theorem z5m{h:Heap}(id:BId)(g z i o:Nat):Za3 h (.ptr id g z i o)=(Zac h id g z).isSome:=rfl
@[simp] theorem z5n{h:Heap}(f:Nat)(id:BId)(g z i o:Nat):Za3 h (.fnp f id g z i o)=Zba h id g:=rfl
@[simp] theorem z5o{h:Heap}(f:Nat)(x:AV):Za3 h (.fnv f x)=true:=rfl
@[simp] theorem z7z{h:Heap}(id:BId)(g z off n:Nat):Zbh h (.bs id g z off n)=(Zac h id g z).isSome:=rfl
@[simp] theorem z5p{h:Heap}(id:BId)(g z i o:Nat):Zbh h (.ptr id g z i o)=(Zac h id g z).isSome:=rfl
@[simp] theorem z5q{h:Heap}(f:Nat)(id:BId)(g z i o:Nat):Zbh h (.fnp f id g z i o)=Zba h id g:=rfl
@[simp] theorem z5r{h:Heap}(f:Nat)(x:AV):Zbh h (.fnv f x)=true:=rfl
@[simp] theorem zabz{h:Heap}(id:BId)(g z off n:Nat):Zcb h (.bs id g z off n)=(Zac h id g z).isSome:=rfl
@[simp] theorem z71{h:Heap}(id:BId)(g z i o:Nat):Zcb h (.ptr id g z i o)=(Zac h id g z).isSome:=rfl
@[simp] theorem z73{h:Heap}(f:Nat)(id:BId)(g z i o:Nat):Zcb h (.fnp f id g z i o)=Zba h id g:=rfl
@[simp] theorem z74{h:Heap}(f:Nat)(x:AV):Zcb h (.fnv f x)=true:=rfl
@[simp] theorem z5s{h:Heap}(cs:List AV):Zbh h (.agg cs)=cs.all (Za3 h):=rfl
@[simp] theorem z77{h:Heap}(cs:List AV):Zcb h (.agg cs)=cs.all (Za3 h):=rfl
@[simp] theorem z78{h:Heap}(cs:List AV):Zcb h (.tup cs)=cs.all (Zbh h):=rfl
@[simp] theorem z5t(id:BId)(g z off n:Nat):cellsOf (.bs id g z off n)=some [.bs id g z off n]:=rfl
@[simp] theorem z2r(id:BId)(g z i o:Nat):cellsOf (.ptr id g z i o)=some [.ptr id g z i o]:=rfl
@[simp] theorem z2s(f:Nat)(id:BId)(g z i o:Nat):cellsOf (.fnp f id g z i o)=some [.fnp f id g z i o]:=rfl
@[simp] theorem z2t(f:Nat)(x:AV):cellsOf (.fnv f x)=some [.fnv f x]:=rfl
@[simp] theorem z2u(cs:List AV):cellsOf (.agg cs)=some cs:=rfl
@[simp] theorem zajz(k:IntKind)(n:Int):Zfx (.i k n)=[]:=rfl
@[simp] theorem zaj0(t:Bool):Zfx (.b t)=[]:=rfl
@[simp] theorem zaj1(l:List UInt8):Zfx (.s l)=[]:=rfl
@[simp] theorem zab0(v:Value):Zfx (.raw v)=[]:=rfl
@[simp] theorem zagf(els:List (List AV))(f:Fl):Zfx (.sl els f)=[]:=rfl
@[simp] theorem zagg(cs:List AV)(o:Nat):Zfx (.ep cs o)=[]:=rfl
@[simp] theorem zagh(n:Nat):Zfx (u8 n)=[]:=rfl
@[simp] theorem zab1(n:Nat):Zfx (u32 n)=[]:=rfl
@[simp] theorem zab2(n:Nat):Zfx (u64 n)=[]:=rfl
@[simp] theorem z79 :Zfx .dead=[]:=rfl
@[simp] theorem zagi(id:BId)(g z off n:Nat):Zfx (.bs id g z off n)=[id]:=rfl
@[simp] theorem zab3(id:BId)(g z i o:Nat):Zfx (.ptr id g z i o)=[]:=rfl
@[simp] theorem zab4(f:Nat)(id:BId)(g z i o:Nat):Zfx (.fnp f id g z i o)=[]:=rfl
@[simp] theorem zab5(f:Nat)(x:AV):Zfx (.fnv f x)=[]:=rfl
@[simp] theorem zab6(cs:List AV):refs (.agg cs)=cs.flatMap Zfx:=rfl
@[simp] theorem z02:refs (.tup [])=[]:=rfl
@[simp] theorem zab7(h:Heap)(id:BId)(g z:Nat):Zac h id g z=(match h.lookup id with | some bx=>if bx.gen=g∧bx.z=z∧bx.kind≠.mp then some bx else none | none=>none):=rfl
@[simp] theorem z8a(x:AV):wkIf true x=x:=rfl
@[simp] theorem z5u(x:AV):wkIf false x=wkA x:=rfl
theorem zgo(n:Nat):IntKind.wrap .u32 (n:Int)=((n%4294967296:Nat):Int):=by
 simp[IntKind.wrap,IntKind.signed,IntKind.bits]
theorem zec(n:Nat):IntKind.wrap .u64 (n:Int)=((n%18446744073709551616:Nat):Int):=by
 simp[IntKind.wrap,IntKind.signed,IntKind.bits]
theorem wrap_u8(n:Nat):IntKind.wrap .u8 (n:Int)=((n%256:Nat):Int):=by
 simp[IntKind.wrap,IntKind.signed,IntKind.bits]
def bX(o:Option (Ex×St))(f:St→Option (Ex×St)):Option (Ex×St):=o.bind fun r=>match r.1 with | .n=>f r.2 | _=>some r
def Zho(id:Nat)(o:Option (Ex×St)):Option (Ex×St):=o.bind fun r=>match r.1 with | .x j=>if j=id then some (.n,r.2) else some r | _=>some r
def stX(o:Option St):Option (Ex×St):=o.map fun s=>(.n,s)
def bS(o:Option St)(f:St→Option St):Option St:=o.bind f
def cnX(v:AV)(x y:Option (Ex×St)):Option (Ex×St):=match v with | .b t=>if t then x else y | _=>none
def pS(o:Option AV)(d:Option Nat)(st:St):Option St:=o.map fun x=>⟨Zh st.env d x,st.heap,st.clk⟩
def pW(o:Option (AV×Heap×Nat))(d:Option Nat)(st:St):Option St:=o.map fun q=>⟨Zh st.env d q.1,q.2.1,q.2.2⟩
def pB(o:Option (AV×Heap))(d:Option Nat)(st:St):Option St:=o.map fun q=>⟨Zh st.env d q.1,q.2,st.clk⟩
def Zjb(res:List RV)(ex:Bool)(o:Option (Ex×St)):Option AV:=
 o.bind fun r=>match r.1 with | .x _=>none | .g _=>none | _=>(Zcx r.2 res).bind fun x=>(frz r.2.heap x).map (wkIf ex)
def Zjc(res:List RV)(ex:Bool)(k:Nat)(o:Option (Ex×St)):Option (AV×Heap):=
 o.bind fun r=>match r.1 with | .x _=>none | .g _=>none | _=>(Zcx r.2 res).map fun x=>let s:=Zc6 ex k [0] ⟨[(0,x)],r.2.heap,r.2.clk⟩;(s.env.get 0,s.heap)
section
variable{o o':Option (Ex×St)}{f:St→Option (Ex×St)}{s:St}
@[congr] theorem zab8(h:o=o'):bX o f=bX o' f:=by rw[h]
@[congr] theorem zab9{o o':Option St}{f:St→Option St}(h:o=o'):bS o f=bS o' f:=by rw[h]
@[congr] theorem z8b{v v':AV}{x y:Option (Ex×St)}(h:v=v'):cnX v x y=cnX v' x y:=by rw[h]
@[simp] theorem bX_n:bX (some (.n,s)) f=f s:=rfl
@[simp] theorem bX_x(id:Nat):bX (some (.x id,s)) f=some (.x id,s):=rfl
@[simp] theorem bX_r:bX (some (.r,s)) f=some (.r,s):=rfl
@[simp] theorem zagj:bX none f=none:=rfl
@[simp] theorem zaj2{c:Prop}[Decidable c]{a b:Option (Ex×St)}:bX (if c then a else b) f=if c then bX a f else bX b f:=by split<;>rfl
@[simp] theorem zaca(id:Nat){c:Prop}[Decidable c]{a b:Option (Ex×St)}:Zho id (if c then a else b)=if c then Zho id a else Zho id b:=by split<;>rfl
@[simp] theorem zacb{res:List RV}{ex:Bool}{c:Prop}[Decidable c]{a b:Option (Ex×St)}:Zjb res ex (if c then a else b)=if c then Zjb res ex a else Zjb res ex b:=by split<;>rfl
@[simp] theorem zacc{res:List RV}{ex:Bool}{k:Nat}{c:Prop}[Decidable c]{a b:Option (Ex×St)}:Zjc res ex k (if c then a else b)=if c then Zjc res ex k a else Zjc res ex k b:=by split<;>rfl
@[simp] theorem zaj3(id:Nat):Zho id (some (.n,s))=some (.n,s):=rfl
@[simp] theorem z8c(id j:Nat):Zho id (some (.x j,s))=if j=id then some (.n,s) else some (.x j,s):=rfl
@[simp] theorem zaj4(id:Nat):Zho id (some (.r,s))=some (.r,s):=rfl
@[simp] theorem z8d(id:Nat):Zho id none=none:=rfl
@[simp] theorem zacd:stX (some s)=some (.n,s):=rfl
@[simp] theorem zace:stX none=none:=rfl
@[simp] theorem zagk{f:St→Option St}:bS (some s) f=f s:=rfl
@[simp] theorem zagl{f:St→Option St}:bS none f=none:=rfl
@[simp] theorem zamd{t:Bool}{x y:Option (Ex×St)}:cnX (.b t) x y=if t then x else y:=rfl
@[simp] theorem zagm{x:AV}{d:Option Nat}:pS (some x) d s=some ⟨Zh s.env d x,s.heap,s.clk⟩:=rfl
@[simp] theorem zagn{d:Option Nat}:pS none d s=none:=rfl
@[simp] theorem zago{x:AV}{h:Heap}{c:Nat}{d:Option Nat}:pW (some (x,h,c)) d s=some ⟨Zh s.env d x,h,c⟩:=rfl
@[simp] theorem zagp{d:Option Nat}:pW none d s=none:=rfl
@[simp] theorem zagq{x:AV}{h:Heap}{d:Option Nat}:pB (some (x,h)) d s=some ⟨Zh s.env d x,h,s.clk⟩:=rfl
@[simp] theorem zagr{d:Option Nat}:pB none d s=none:=rfl
@[simp] theorem zaj5{res:List RV}{ex:Bool}:Zjb res ex (some (.r,s))=(Zcx s res).bind fun x=>(frz s.heap x).map (wkIf ex):=rfl
@[simp] theorem zaj6{res:List RV}{ex:Bool}:Zjb res ex (some (.n,s))=(Zcx s res).bind fun x=>(frz s.heap x).map (wkIf ex):=rfl
@[simp] theorem zaj7{res:List RV}{ex:Bool}{k:Nat}:Zjc res ex k (some (.r,s))=(Zcx s res).map fun x=>((Zc6 ex k [0] ⟨[(0,x)],s.heap,s.clk⟩).env.get 0,(Zc6 ex k [0] ⟨[(0,x)],s.heap,s.clk⟩).heap):=rfl
@[simp] theorem zaj8{res:List RV}{ex:Bool}{k:Nat}:Zjc res ex k (some (.n,s))=(Zcx s res).map fun x=>((Zc6 ex k [0] ⟨[(0,x)],s.heap,s.clk⟩).env.get 0,(Zc6 ex k [0] ⟨[(0,x)],s.heap,s.clk⟩).heap):=rfl
end
section
variable{T:Tbl}{k:Nat}{st:St}{d:Option Nat}
noncomputable abbrev X(T:Tbl)(k:Nat)(c:AX)(st:St):Option (Ex×St):=evX (orc T) T k c st
noncomputable abbrev R(T:Tbl)(l:List AO)(st:St):Option St:=Zd4 (orc T) T l st
@[congr] theorem z8e{O:Orc}{c:AX}{st st':St}(h:st=st'):evX O T k c st=evX O T k c st':=by rw[h]
@[congr] theorem z8f{O:Orc}{op:AOp}{d:Option Nat}{st st':St}(h:st=st'):opX O T op d st=opX O T op d st':=by rw[h]
@[simp] theorem zaj9:evX (orc T) T k .skip st=some (.n,st):=rfl
@[simp] theorem zame{l:List AO}:evX (orc T) T k (.reg l) st=stX (Zd4 (orc T) T l st):=rfl
@[simp] theorem zaka{l:List DO}:evX (orc T) T k (.draw l) st=stX (Zbk (orc T) T l st.env st.heap st.clk [] []):=rfl
@[simp] theorem zamf{a b:AX}:evX (orc T) T k (.seq a b) st=bX (evX (orc T) T k a st) fun s=>evX (orc T) T k b s:=rfl
@[simp] theorem zakb{c:Opd}{x y:AX}:evX (orc T) T k (.cond c x y) st=cnX (ev st.env.get c) (evX (orc T) T k x st) (evX (orc T) T k y st):=rfl
@[simp] theorem zags{id:Nat}{c:AX}:evX (orc T) T k (.block id c) st=Zho id (evX (orc T) T k c st):=rfl
@[simp] theorem zakc{c:AX}:evX (orc T) T k (.loop c) st=Ziw T k c st:=rfl
def scX(o:Option (Ex×St)):Option (Ex×St):=o.bind fun r=>match r.1 with | .g _=>none | _=>some r
@[congr] theorem z8g{o o':Option (Ex×St)}(h:o=o'):scX o=scX o':=by rw[h]
@[simp] theorem zamg{s:St}:scX (some (.n,s))=some (.n,s):=rfl
@[simp] theorem zamh{j:Nat}{s:St}:scX (some (.x j,s))=some (.x j,s):=rfl
@[simp] theorem zami{s:St}:scX (some (.r,s))=some (.r,s):=rfl
@[simp] theorem zagt{c:Prop}[Decidable c]{a b:Option (Ex×St)}:scX (if c then a else b)=if c then scX a else scX b:=by split<;>rfl
@[simp] theorem zagu{c:AX}:evX (orc T) T k (.scope c) st=scX (evX (orc T) T k c st):=rfl
@[simp] theorem zagv{l:Nat}:evX (orc T) T k (.label l) st=some (.n,st):=rfl
@[simp] theorem zakd{l:Nat}:evX (orc T) T k (.goto l) st=some (.g l,st):=rfl
@[simp] theorem bX_g{l:Nat}{s:St}{f:St→Option (Ex×St)}:bX (some (.g l,s)) f=some (.g l,s):=rfl
@[simp] theorem zake{id l:Nat}{s:St}:Zho id (some (.g l,s))=some (.g l,s):=rfl
@[simp] theorem zakf{id:Nat}:evX (orc T) T k (.exit id) st=some (.x id,st):=rfl
@[simp] theorem zamj:evX (orc T) T k .ret st=some (.r,st):=rfl
@[simp] theorem zakg{c:AX}{g:Gh}:evX (orc T) T k (.note c g) st=bX (evX (orc T) T k c st) fun s=>stX (ghS k g s):=rfl
def prX(o:Option St)(f:St→Option (Ex×St)):Option (Ex×St):=o.bind f
@[congr] theorem z8h{o o':Option St}{f:St→Option (Ex×St)}(h:o=o'):prX o f=prX o' f:=by rw[h]
@[simp] theorem zacf{s:St}{f:St→Option (Ex×St)}:prX (some s) f=f s:=rfl
@[simp] theorem zamk{c:AX}{g:Gh}:evX (orc T) T k (.pre g c) st=prX (ghS k g st) fun s=>evX (orc T) T k c s:=rfl
noncomputable def Zdr(k id:Nat)(g2:Gh)(o:Option (Ex×St)):Option (Ex×St):=bX (Zho id o) fun s=>stX (ghS k g2 s)
noncomputable def Zp(T:Tbl)(k id:Nat)(g2:Gh)(c:AX)(st:St):Option (Ex×St):=Zdr k id g2 (Ziw T k c st)
@[congr] theorem z2v{id:Nat}{g2:Gh}{c:AX}{st st':St}(h:st=st'):Zp T k id g2 c st=Zp T k id g2 c st':=by rw[h]
@[congr] theorem z5v{id:Nat}{g2:Gh}{o o':Option (Ex×St)}(h:o=o'):Zdr k id g2 o=Zdr k id g2 o':=by rw[h]
@[simp] theorem zakh{id j:Nat}{g2:Gh}{s:St}:Zdr k id g2 (some (.x j,s))=if j=id then stX (ghS k g2 s) else some (.x j,s):=by
 unfold Zdr;rw[z8c];split<;>simp
@[simp] theorem zaki{id:Nat}{g2:Gh}{s:St}:Zdr k id g2 (some (.r,s))=some (.r,s):=rfl
@[simp] theorem X_lp{id:Nat}{g g2:Gh}{c:AX}:evX (orc T) T k (.lp id g c g2) st=prX (ghS k g st) fun s=>Zp T k id g2 c s:=by
 simp only[evX,prX,Zp,Zdr,bX,Zho,stX,Ziw];cases ghS k g st with
 | none=>rfl
 | some s=>
  simp only[Yac];cases (orc T).loop k c s with
  | none=>rfl
  | some r=>
   obtain⟨e,s'⟩:=r;cases e with
   | n=>rfl
   | r=>rfl
   | g l=>rfl
   | x j=>
    simp only[Yac];split<;>rfl
def Zei:Option (Ex×St)→Bool
 | some (.x _,_)=>true
 | some (.r,_)=>true
 | _=>false
@[simp] theorem zakj{j:Nat}{s:St}:Zei (some (.x j,s))=true:=rfl
@[simp] theorem zakk{s:St}:Zei (some (.r,s))=true:=rfl
@[simp] theorem zacg{c:Prop}[Decidable c]{a b:Option (Ex×St)}:Zei (if c then a else b)=if c then Zei a else Zei b:=by split<;>rfl
@[congr] theorem z5w{o o':Option (Ex×St)}(h:o=o'):Zei o=Zei o':=by rw[h]
theorem zqg{c:AX}:Ziw T k c st=bX (evX (orc T) T k c st) fun s=>Ziw T k c s:=zyz T k c st
theorem zaz{α:Type}{id:Nat}{g2:Gh}{c:AX}(F:α→St)(I:α→Prop)(μ:α→Nat)(Q:Ex×St→Prop)
  (step:∀x,I x→(∃y,I y∧μ y<μ x∧evX (orc T) T k c (F x)=some (.n,F y))∨(∃r,Q r∧Zei (evX (orc T) T k c (F x))=true∧Zdr k id g2 (evX (orc T) T k c (F x))=some r)) :
  ∀x,I x→∃r,Q r∧Zp T k id g2 c (F x)=some r:=by
 have key:∀n x,μ x=n→I x→∃r,Q r∧Zp T k id g2 c (F x)=some r:=by
  intro n
  induction n using Nat.strongRecOn with
  | _ n ih=>
   intro x hn hI;unfold Zp;rw[zqg];rcases step x hI with ⟨y,h1,h2,h3⟩ | ⟨r,h1,h2,h3⟩
   ·rw[h3,bX_n];exact ih (μ y) (hn▸h2) y rfl h1
   ·refine⟨r,h1,?_⟩;rw[←h3];generalize evX (orc T) T k c (F x)=o at h2 ⊢;cases o with
    | none=>cases h2
    | some q=>
     obtain⟨e,s⟩:=q;cases e
     ·cases h2
     ·rfl
     ·rfl
     ·cases h2
 exact fun x hI=>key _ x rfl hI
theorem zbm{α:Type}{id:Nat}{g2:Gh}{c:AX}(F:α→St)(I:α→Prop)(μ:α→Nat)(G:α→Option (Ex×St))
  (step:∀x,I x→(∃y,I y∧μ y<μ x∧evX (orc T) T k c (F x)=some (.n,F y)∧G y=G x)∨(Zei (evX (orc T) T k c (F x))=true∧Zdr k id g2 (evX (orc T) T k c (F x))=G x)) :
  ∀x,I x→Zp T k id g2 c (F x)=G x:=by
 have key:∀n x,μ x=n→I x→Zp T k id g2 c (F x)=G x:=by
  intro n
  induction n using Nat.strongRecOn with
  | _ n ih=>
   intro x hn hI;unfold Zp;rw[zqg];rcases step x hI with ⟨y,h1,h2,h3,h4⟩ | ⟨h2,h3⟩
   ·rw[h3,bX_n,←h4];exact ih (μ y) (hn▸h2) y rfl h1
   ·rw[←h3];generalize evX (orc T) T k c (F x)=o at h2 ⊢;cases o with
    | none=>cases h2
    | some q=>
     obtain⟨e,s⟩:=q;cases e
     ·cases h2
     ·rfl
     ·rfl
     ·cases h2
 exact fun x hI=>key _ x rfl hI
@[simp] theorem zaml:Zd4 (orc T) T [] st=some st:=rfl
@[simp] theorem zakl{d:Option Nat}{op:AOp}{l:List AO}:Zd4 (orc T) T (⟨d,none,op⟩::l) st=bS (opX (orc T) T op d st) fun s=>Zd4 (orc T) T l s:=rfl
noncomputable def gS(T:Tbl)(x:AV)(want:Bool)(op:AOp)(d:Option Nat)(st:St):Option St:=gX (orc T) T x want op d st
@[congr] theorem zach{x x':AV}{want:Bool}{op:AOp}(h:x=x'):gS T x want op d st=gS T x' want op d st:=by rw[h]
@[simp] theorem zagw{d:Option Nat}{op:AOp}{l:List AO}{t:Nat}{w:Bool}:Zd4 (orc T) T (⟨d,some (t,w),op⟩::l) st=bS (gS T (st.env.get t) w op d st) fun s=>Zd4 (orc T) T l s:=rfl
@[simp] theorem gS_b{v want:Bool}{op:AOp}:gS T (.b v) want op d st=if v=want then opX (orc T) T op d st else some ⟨Zh st.env d (.tup []),st.heap,st.clk⟩:=rfl
@[simp] theorem zakm{vs:List AV}{want:Bool}{op:AOp}:gS T (.tup vs) want op d st=some ⟨Zh st.env d (.tup []),st.heap,st.clk⟩:=rfl
@[simp] theorem zamm{x}:opX (orc T) T (.mov x) d st=some ⟨Zh st.env d (ev st.env.get x),st.heap,st.clk⟩:=rfl
@[simp] theorem zakn{c a b}:opX (orc T) T (.pick c a b) d st=pS (Zg7 (ev st.env.get c) (ev st.env.get a) (ev st.env.get b)) d st:=rfl
@[simp] theorem zagx{zs ps}:opX (orc T) T (.build zs ps) d st=pS ((Zgq zs (ps.map fun p=>(p.1,p.2.1,ev st.env.get p.2.2))).map .agg) d st:=rfl
@[simp] theorem zako{n x}:opX (orc T) T (.load n x) d st=pS (Zft n st.heap (ev st.env.get x)) d st:=rfl
@[simp] theorem zamn{o x y}:opX (orc T) T (.bin o x y) d st=pS (Zab o (ev st.env.get x) (ev st.env.get y)) d st:=rfl
@[simp] theorem zamo{g ls x y}:opX (orc T) T (.eqs g ls x y) d st=pS (Zh1 g ls (ev st.env.get x) (ev st.env.get y)) d st:=rfl
@[simp] theorem zagy{g x}:opX (orc T) T (.eqnil g x) d st=pS (Zfd g (ev st.env.get x)) d st:=rfl
@[simp] theorem zamp{g x y}:opX (orc T) T (.eqb g x y) d st=pS (Zh2 g (ev st.env.get x) (ev st.env.get y)) d st:=rfl
@[simp] theorem O_un{o x}:opX (orc T) T (.un o x) d st=pS (Zg8 o (ev st.env.get x)) d st:=rfl
@[simp] theorem zakp{n x}:opX (orc T) T (.conv n x) d st=pS (Zbw n (ev st.env.get x)) d st:=rfl
@[simp] theorem zamq{z x lo hi mx}:opX (orc T) T (.slc z x lo hi mx) d st=pS (Zgr z st.heap (ev st.env.get x) (evO st.env.get lo) (evO st.env.get hi) (evO st.env.get mx)) d st:=rfl
@[simp] theorem zagz{x lo hi}:opX (orc T) T (.slstr x lo hi) d st=pS (Zfe (ev st.env.get x) (evO st.env.get lo) (evO st.env.get hi)) d st:=rfl
@[simp] theorem zamr{o x}:opX (orc T) T (.fad o x) d st=pS (Zg9 o st.heap (ev st.env.get x)) d st:=rfl
@[simp] theorem zams{o n x}:opX (orc T) T (.fld o n x) d st=pS (Zh3 o n (ev st.env.get x)) d st:=rfl
@[simp] theorem zamt{z x i}:opX (orc T) T (.iad z x i) d st=pS (Zha z st.heap (ev st.env.get x) (ev st.env.get i)) d st:=rfl
@[simp] theorem zamu{z n x i}:opX (orc T) T (.iaa z n x i) d st=pS (Zhb z n st.heap (ev st.env.get x) (ev st.env.get i)) d st:=rfl
@[simp] theorem zamv{x i}:opX (orc T) T (.ixs x i) d st=pS (Zh4 (ev st.env.get x) (ev st.env.get i)) d st:=rfl
@[simp] theorem zamw{z l n x i}:opX (orc T) T (.ixa z l n x i) d st=pS (Zh5 z l n (ev st.env.get x) (ev st.env.get i)) d st:=rfl
@[simp] theorem zamx{x}:opX (orc T) T (.len x) d st=pS (Zhc st.heap (ev st.env.get x)) d st:=rfl
@[simp] theorem zakq{x}:opX (orc T) T (.lens x) d st=pS (Zgg (ev st.env.get x)) d st:=rfl
@[simp] theorem zakr{n}:opX (orc T) T (.lenc n) d st=some ⟨Zh st.env d (.i .i64 n),st.heap,st.clk⟩:=rfl
@[simp] theorem O_mm{m xs}:opX (orc T) T (.mm m xs) d st=pS (Zj5 m (xs.map (ev st.env.get))) d st:=rfl
@[simp] theorem zamy{x n}:opX (orc T) T (.ext x n) d st=pS (Zh6 n (ev st.env.get x)) d st:=rfl
@[simp] theorem zaks{x}:opX (orc T) T (.nilc x) d st=pS (Zfu st.heap (ev st.env.get x)) d st:=rfl
@[simp] theorem zag0{zs}:opX (orc T) T (.alloc zs) d st=pW (Zff zs d st.heap st.clk) d st:=rfl
@[simp] theorem zag1{n x v}:opX (orc T) T (.store n x v) d st=pW ((Zcu n st.heap (ev st.env.get x) (ev st.env.get v)).map fun h'=>(.tup [],h',st.clk)) d st:=rfl
@[simp] theorem zamz{z zs l c}:opX (orc T) T (.mks z zs l c) d st=pW (Zgt z zs d st.heap st.clk (ev st.env.get l) (ev st.env.get c)) d st:=rfl
@[simp] theorem zam0{z x y}:opX (orc T) T (.app z x y) d st=pW (Zit z d st.heap st.clk (ev st.env.get x) (ev st.env.get y)) d st:=rfl
@[simp] theorem zakt{n xs}:opX (orc T) T (.xop (.box n) xs) d st=pW (Zar (.box n) (xs.map (ev st.env.get)) d st.heap st.clk) d st:=rfl
@[simp] theorem zaku{xs}:opX (orc T) T (.xop .cpy xs) d st=pW (Zar .cpy (xs.map (ev st.env.get)) d st.heap st.clk) d st:=rfl
@[simp] theorem zag2{xs}:opX (orc T) T (.xop .bstr xs) d st=pW (Zar .bstr (xs.map (ev st.env.get)) d st.heap st.clk) d st:=rfl
@[simp] theorem zag3{n xs}:opX (orc T) T (.xop (.arsl n) xs) d st=pW (Zar (.arsl n) (xs.map (ev st.env.get)) d st.heap st.clk) d st:=rfl
@[simp] theorem zag4{xs}:opX (orc T) T (.xop .apps xs) d st=pW (Zar .apps (xs.map (ev st.env.get)) d st.heap st.clk) d st:=rfl
@[simp] theorem zakv{xs}:opX (orc T) T (.xop .bad xs) d st=pW (Zar .bad (xs.map (ev st.env.get)) d st.heap st.clk) d st:=rfl
@[simp] theorem zam1{n xs}:opX (orc T) T (.xop (.mkf n) xs) d st=pW (Zar (.mkf (Ze T n)) (xs.map (ev st.env.get)) d st.heap st.clk) d st:=rfl
@[simp] theorem zakw{k zv ok x i}:opX (orc T) T (.look k zv ok x i) d st=pS (Zed k zv ok st.heap (ev st.env.get x) (ev st.env.get i)) d st:=rfl
@[simp] theorem zakx{xs}:opX (orc T) T (.xop .mmap xs) d st=pW (Zar .mmap (xs.map (ev st.env.get)) d st.heap st.clk) d st:=rfl
@[simp] theorem zaky{k xs}:opX (orc T) T (.xop (.mupd k) xs) d st=pW (Zar (.mupd k) (xs.map (ev st.env.get)) d st.heap st.clk) d st:=rfl
@[simp] theorem z2w{dd:Option Nat}{h:Heap}{clk:Nat}:Zar .mmap [] dd h clk=Zih dd h clk:=rfl
@[simp] theorem z2x{n:Nat}{h:Heap}{clk:Nat}:Zih (some n) h clk=some (.fnp 0 (.loc n) clk 2 0 0,(.loc n,⟨clk,.mp,2,[]⟩)::h,clk+1):=rfl
@[simp] theorem zaci(h:Heap)(id:BId)(g:Nat):Zfo h id g=(match h.lookup id with | some bx=>if bx.gen=g∧bx.z=2∧bx.kind=.mp then some bx else none | none=>none):=rfl
@[simp] theorem z5x{k:KTy}{zv:AV}{ok:Bool}{h:Heap}{id:BId}{g:Nat}{i:AV}:Zed k zv ok h (.fnp 0 id g 2 0 0) i=(Zfo h id g).bind fun bx=>if (Zcw k i i).isSome&&noRef i then (Zew k i bx.els).map fun r=>
   if ok then .tup [r.getD zv,.b r.isSome] else r.getD zv else none:=rfl
@[simp] theorem z8i{k k':IntKind}{a b:Int}:Zcw .int (.i k a) (.i k' b)=if k=k' then some (a == b) else none:=rfl
@[simp] theorem zacj{ls:List (Nat×Leaf)}{xs ys:List AV}:Zcw (.fs ls) (.agg xs) (.agg ys)=eqL ls xs ys:=rfl
@[simp] theorem z5y:Ziv (some none)=true:=rfl
@[simp] theorem z8j{k:KTy}{x:AV}:Zew k x []=some none:=rfl
@[simp] theorem z2y{k:KTy}{id:BId}{g:Nat}{i y:AV}{dd:Option Nat}{h:Heap}{clk:Nat}:Zar (.mupd k) [.fnp 0 id g 2 0 0,i,y] dd h clk =
  (Zfo h id g).bind fun bx=>if (Zcw k i i).isSome&&noRef i&&noRef y&&Ziv (Zew k i bx.els) then some (.dead,(id,⟨g,.mp,2,bx.els++[[i,y]]⟩)::h,clk) else none:=rfl
@[simp] theorem zam2{n xs}:opX (orc T) T (.xop (.mkv n) xs) d st=pW (Zar (.mkv (Ze T n)) (xs.map (ev st.env.get)) d st.heap st.clk) d st:=rfl
@[simp] theorem z5z{f:Nat}{x:AV}{dd:Option Nat}{h:Heap}{clk:Nat}:Zar (.mkv f) [x] dd h clk=if noRef x=true then some (.fnv f x,h,clk) else none:=rfl
@[simp] theorem zam3{z zs n ps}:opX (orc T) T (.bsl z zs n ps) d st=pB (Zdz z zs n st.heap (ps.map fun p=>(p.1,ev st.env.get p.2))) d st:=rfl
@[simp] theorem zakz{u args}:opX (orc T) T (.call u args) d st=Zc (orc T) T u (args.map (ev st.env.get)) d st:=rfl
def cR(r:Option AV)(xs:List AV)(d:Option Nat)(st:St):Option St:=
 r.map fun r=>⟨Zh st.env d r,if scalar r then st.heap else Zk (xs.flatMap refs) st.heap,st.clk⟩
@[congr] theorem zack{r r':Option AV}{xs:List AV}(h:r=r'):cR r xs d st=cR r' xs d st:=by rw[h]
@[simp] theorem zag5{r:AV}{xs:List AV}:cR (some r) xs d st=some ⟨Zh st.env d r,if scalar r then st.heap else Zk (xs.flatMap refs) st.heap,st.clk⟩:=rfl
def bL(o:Option (List AV))(f:List AV→Option St):Option St:=o.bind f
@[congr] theorem zacl{o o':Option (List AV)}{f:List AV→Option St}(h:o=o'):bL o f=bL o' f:=by rw[h]
@[simp] theorem zag6{xs:List AV}{f:List AV→Option St}:bL (some xs) f=f xs:=rfl
def Zjy(h:Heap):List AV→Option (List AV)
 | []=>some []
 | x::l=>(Zax h x).bind fun y=>(Zjy h l).map fun ys=>y::ys
theorem zvj(h:Heap):∀l:List AV,l.mapM (Zax h)=Zjy h l
 | []=>rfl
 | x::l=>by simp only[Ybh,Zjy,zvj h l,Yb5,Ycn,Option.map_eq_bind,Function.comp_def]
attribute [simp] Zjy Zfj Za1 Zcs
theorem zaa{u:Nat}{xs:List AV}{np nt:Nat}{res:List RV}{b:AX}{ex:Bool}(hT:T u=some ⟨np,nt,res,b,none,ex⟩) :
  Zc (orc T) T u xs d st=bL (Zjy st.heap xs) fun ys=>cR (Za T u (ys.map (wkIf ex))) xs d st:=by
 unfold Zc bL cR Za;rw[hT];simp only[zvj];congr 1
 funext ys
 cases (orc T).call u (ys.map (wkIf ex)) []<;>rfl
theorem zab{u:Nat}{xs:List AV}{np nt:Nat}{res:List RV}{b:AX}{ex:Bool}(hT:T u=some ⟨np,nt,res,b,none,ex⟩)(hn:xs.length=np)(hp:b.isPrim=none:=by rfl) :
  Za T u xs=Zjb res ex (evX (orc T) T 0 b ⟨Zc1 xs,[],1⟩):=by
 unfold Za Zjb;rw[zkl];simp only[Zc7,hT,hp];rw[if_pos ⟨hn,by simp⟩];simp only[Yas,Yan];cases evX (orc T) T 0 b ⟨Zc1 xs,[],1⟩ with
 | none=>rfl
 | some r=>
  obtain⟨e,s⟩:=r;cases e<;>simp only[Yac,Zki,Yd6]<;>(cases Zcx s res<;>simp only[Option.bind_none,Yd6,Yac]<;>cases frz s.heap _<;>rfl)
theorem zf2{u:Nat}{xs:List AV}{np nt:Nat}{res:List RV}{f:List AV→Option AV}{ex:Bool}(hT:T u=some ⟨np,nt,res,.prim f,none,ex⟩):Za T u xs=f xs:=by
 unfold Za;rw[zkl];simp only[Zc7,hT,AX.isPrim];cases f xs<;>simp
theorem zal{u:Nat}{xs:List AV}{hb:Heap}{np nt:Nat}{res:List RV}{b:AX}{ms:List Bool}{ex:Bool}(hT:T u=some ⟨np,nt,res,b,some ms,ex⟩)(hn:xs.length=np)(hp:b.isPrim=none:=by rfl) :
  Z0 T u xs hb=Zjc res ex hb.length (evX (orc T) T hb.length b ⟨Zc1 xs,hb,hb.length+1⟩):=by
 unfold Z0 Zjc;rw[zkl];simp only[Zc7,hT,hp];rw[if_pos ⟨hn,by simp⟩];cases evX (orc T) T hb.length b ⟨Zc1 xs,hb,hb.length+1⟩ with
 | none=>rfl
 | some r=>
  obtain⟨e,s⟩:=r;cases e<;>simp only[Yac,Zki]<;>(cases Zcx s res<;>rfl)
def Zkj(l:List BId)(hp h1:Heap)(r:Option (AV×Heap))(d:Option Nat)(st:St):Option St:=
 r.bind fun r=>
  let hb':=r.2.map fun p=>(Zay l (d.getD 0) p.1,Z9 true (Zay l (d.getD 0)) (Zbb hp st.clk) p.2)
  let r':=rlA (Zay l (d.getD 0)) (Zbb hp st.clk) r.1
  if (hb'.map (·.1)).Nodup&&Zcb hb' r'&&Zhj hb' then
   some ⟨Zh st.env d r',hb'++(h1.filter fun p=>!(l.contains p.1 || (hb'.map (·.1)).contains p.1)),st.clk+r.2.length+2⟩
  else none
@[congr] theorem z50{l:List BId}{hp h1:Heap}{r r':Option (AV×Heap)}(h:r=r'):Zkj l hp h1 r d st=Zkj l hp h1 r' d st:=by rw[h]
noncomputable def Ze2(ys:List AV)(h1:Heap)(l:List BId)(T:Tbl)(u:Nat)(ex:Bool)(d:Option Nat)(st:St):Option St:=
 if (Zd3 h1 l).map (·.1)=l∧l.Nodup then
  Zkj l (Zd3 h1 l) h1 (Z0 T u (ys.map fun y=>rlA (inN l) (inG (Zd3 h1 l)) (wkIf ex y)) ((Zd3 h1 l).map fun p=>(inN l p.1,Z9 ex (inN l) (inG (Zd3 h1 l)) p.2))) d st
 else none
@[simp] theorem z8k{l:List BId}{hp h1:Heap}{r:AV}{h2:Heap}:Zkj l hp h1 (some (r,h2)) d st =
  (if ((h2.map fun p=>(Zay l (d.getD 0) p.1,Z9 true (Zay l (d.getD 0)) (Zbb hp st.clk) p.2)).map (·.1)).Nodup&&Zcb (h2.map fun p=>(Zay l (d.getD 0) p.1,Z9 true (Zay l (d.getD 0)) (Zbb hp st.clk) p.2)) (rlA (Zay l (d.getD 0)) (Zbb hp st.clk) r)&&Zhj (h2.map fun p=>(Zay l (d.getD 0) p.1,Z9 true (Zay l (d.getD 0)) (Zbb hp st.clk) p.2)) then
   some ⟨Zh st.env d (rlA (Zay l (d.getD 0)) (Zbb hp st.clk) r),(h2.map fun p=>(Zay l (d.getD 0) p.1,Z9 true (Zay l (d.getD 0)) (Zbb hp st.clk) p.2))++(h1.filter fun p=>!(l.contains p.1 || ((h2.map fun p=>(Zay l (d.getD 0) p.1,Z9 true (Zay l (d.getD 0)) (Zbb hp st.clk) p.2)).map (·.1)).contains p.1)),st.clk+h2.length+2⟩
  else none):=rfl
attribute [simp] Ze2 Zay Zbb inN inG Ze0 Zhj
theorem zao{u:Nat}{xs:List AV}{np nt:Nat}{res:List RV}{b:AX}{ms:List Bool}{ex:Bool}(hT:T u=some ⟨np,nt,res,b,some ms,ex⟩) :
  Zc (orc T) T u xs d st=bL (Zfj st.heap ms xs) fun ys=>Ze2 ys (Zk (Za1 ms xs) st.heap) (Zc5 (Zk (Za1 ms xs) st.heap) 40 (Zcs ms xs) []) T u ex d st:=by
 unfold Zc bL Ze2 Zkj Z0;rw[hT]
def bD(o:Option (AV×Bool))(f:AV×Bool→Option St):Option St:=o.bind f
@[congr] theorem zacm{o o':Option (AV×Bool)}{f:AV×Bool→Option St}(h:o=o'):bD o f=bD o' f:=by rw[h]
@[simp] theorem zag7{e:AV×Bool}{f:AV×Bool→Option St}:bD (some e) f=f e:=rfl
def bWr(o:Option (AV×Heap×Nat))(f:AV×Heap×Nat→Option St):Option St:=o.bind f
@[congr] theorem z8l{o o':Option (AV×Heap×Nat)}{f:AV×Heap×Nat→Option St}(h:o=o'):bWr o f=bWr o' f:=by rw[h]
@[simp] theorem zacn{q:AV×Heap×Nat}{f:AV×Heap×Nat→Option St}:bWr (some q) f=f q:=rfl
def iP(b:Bool)(x:Option St):Option St:=if b then x else none
@[congr] theorem zaco{b b':Bool}{x:Option St}(h:b=b'):iP b x=iP b' x:=by rw[h]
@[simp] theorem zag8{x:Option St}:iP true x=x:=rfl
@[simp] theorem z51{h:Heap}:Za4 [] h=true:=by
 classical
 unfold Za4;exact decide_eq_true fun p hp=>by cases hp
@[simp] theorem z2z{q:AOp×Env×AV}{l:Zah}{h:Heap}:Za4 ((0,q)::l) h=Za4 l h:=by
 classical
 unfold Za4;refine decide_eq_decide.2 ⟨fun h1 p hp=>h1 p (Yj _ hp),fun h1 p hp h0=>?_⟩;rcases Y6.1 hp with rfl | hp
 ·cases h0
 ·exact h1 p hp h0
@[simp] theorem z21{n:Nat}{op:AOp}{e:Env}{x:AV}{l:Zah}{h:Heap}(hs:Zgv op e.get h=some x):Za4 ((n,op,e,x)::l) h=Za4 l h:=by
 classical
 unfold Za4;refine decide_eq_decide.2 ⟨fun h1 p hp=>h1 p (Yj _ hp),fun h1 p hp h0=>?_⟩;rcases Y6.1 hp with rfl | hp
 ·exact hs
 ·exact h1 p hp h0
theorem zr6{op:AOp}{e:Env}{older:List Heap}{x:AV}(hf:op.free=true):Zf9 op e older x=true:=by unfold Zf9;rw[hf];rfl
theorem zvk{op:AOp}{e:Env}{x:AV}:Zf9 op e [] x=true:=by
 classical
 unfold Zf9;rw[Yb3];exact .inr (decide_eq_true fun h' hh=>by cases hh)
noncomputable def rD(T:Tbl)(q:Option (Nat×List AV))(o:DO)(r:List DO)(e:Env)(h:Heap)(clk:Nat)(older:List Heap)(pend:Zah):Option St:=
 match q with
 | none=>bD (qX (orc T) T o.ao e h (older.take (older.length-o.lo))) fun x=>Zbk (orc T) T r (Zh e o.ao.dst x.1) h clk older (Zb2 o older.length e x pend)
 | some p=>(Zga (orc T) T p.1 p.2).bind fun x=>Zbk (orc T) T r (Zh e o.ao.dst x) h clk older (if older.length<o.hi then (o.hi-older.length,o.ao.op,e,.tup p.2)::pend else pend)
@[simp] theorem zag9{o:DO}{r:List DO}{e:Env}{h:Heap}{clk:Nat}{older:List Heap}{pend:Zah}:rD T none o r e h clk older pend=bD (qX (orc T) T o.ao e h (older.take (older.length-o.lo))) fun x=>Zbk (orc T) T r (Zh e o.ao.dst x.1) h clk older (Zb2 o older.length e x pend):=rfl
noncomputable def bAV(o:Option AV)(f:AV→Option St):Option St:=o.bind f
@[simp] theorem zacp{x:AV}{f:AV→Option St}:bAV (some x) f=f x:=rfl
@[simp] theorem zaha{u:Nat}{ys:List AV}{o:DO}{r:List DO}{e:Env}{h:Heap}{clk:Nat}{older:List Heap}{pend:Zah}:rD T (some (u,ys)) o r e h clk older pend=bAV (Zga (orc T) T u ys) fun x=>Zbk (orc T) T r (Zh e o.ao.dst x) h clk older (if older.length<o.hi then (o.hi-older.length,o.ao.op,e,.tup ys)::pend else pend):=rfl
open Classical in
noncomputable def rK(u:Nat)(xs ys:List AV)(older:List Heap):Option (Nat×List AV):=if decide (∀h'∈older,Zb4 h' xs=some ys)=true then some (u,ys) else none
@[simp] theorem zahb{g:Option (Nat×Bool)}{e:Env}{h:Heap}{older:List Heap}:Zhn g none e h older=none:=by cases g<;>rfl
@[simp] theorem zahc{g:Nat×Bool}{c:Option (Nat×List Opd)}{e:Env}{h:Heap}{older:List Heap}:Zhn (some g) c e h older=none:=by cases c<;>rfl
noncomputable def rC(c:Bool)(u:Nat)(xs:List AV)(h:Heap)(older:List Heap):Option (Nat×List AV):=
 match c with
 | true=>none
 | false=>(Zb4 h xs).bind fun ys=>rK u xs ys older
@[congr] theorem zacq{c c':Bool}{u:Nat}{xs:List AV}{h:Heap}{older:List Heap}(h1:c=c'):rC c u xs h older=rC c' u xs h older:=by rw[h1]
@[simp] theorem zahd{u:Nat}{xs:List AV}{h:Heap}{older:List Heap}:rC true u xs h older=none:=rfl
@[simp] theorem zacr{u:Nat}{xs:List AV}{h:Heap}{older:List Heap}:rC false u xs h older=(Zb4 h xs).bind fun ys=>rK u xs ys older:=rfl
@[simp] theorem z8m{q:Nat×List Opd}{e:Env}{h:Heap}{older:List Heap}:Zhn none (some q) e h older=rC ((q.2.map (ev e.get)).all noRef) q.1 (q.2.map (ev e.get)) h older:=by
 classical
 unfold Zhn Zkf rC;cases hc:(q.2.map (ev e.get)).all noRef with
 | true=>simp only[hc,if_true,Yd6]
 | false=>
  simp only[hc,Y8,if_false];cases Zb4 h (q.2.map (ev e.get)) with
  | none=>rfl
  | some ys=>
   simp only[Yac,rK];split<;>rfl
noncomputable def dX(T:Tbl)(wr:Bool)(o:DO)(r:List DO)(e:Env)(h:Heap)(clk:Nat)(older:List Heap)(pend:Zah):Option St:=
 match wr with
 | true=>if o.ao.guard.isNone then bWr (stepW o.ao.op o.ao.dst e.get h clk) fun q=>iP (Za4 pend q.2.1) (Zbk (orc T) T r (Zh e o.ao.dst q.1) q.2.1 q.2.2 (h::older) (pend.map fun p=>(p.1-1,p.2))) else none
 | false=>rD T (Zhn o.ao.guard o.ao.op.callN e h (older.take (older.length-o.lo))) o r e h clk older pend
@[congr] theorem z22{l:List DO}{e e':Env}{h h':Heap}{clk clk':Nat}{older older':List Heap}{pend pend':Zah}(h1:e=e')(h2:h=h')(h3:clk=clk')(h4:older=older')(h5:pend=pend'):Zbk (orc T) T l e h clk older pend=Zbk (orc T) T l e' h' clk' older' pend':=by rw[h1,h2,h3,h4,h5]
@[simp] theorem z8n{e:Env}{h:Heap}{clk:Nat}{older:List Heap}{pend:Zah}:Zbk (orc T) T [] e h clk older pend=some ⟨e,h,clk⟩:=rfl
@[simp] theorem z52{o:DO}{r:List DO}{e:Env}{h:Heap}{clk:Nat}{older:List Heap}{pend:Zah}:Zbk (orc T) T (o::r) e h clk older pend=dX T o.ao.op.writes o r e h clk older pend:=by
 unfold dX;rw[Zbk];cases o.ao.op.writes with
 | true=>rfl
 | false=>
  unfold rD;simp only;cases Zhn o.ao.guard o.ao.op.callN e h (older.take (older.length-o.lo))<;>rfl
@[simp] theorem zahe{o:DO}{r:List DO}{e:Env}{h:Heap}{clk:Nat}{older:List Heap}{pend:Zah}:dX T true o r e h clk older pend=if o.ao.guard.isNone then bWr (stepW o.ao.op o.ao.dst e.get h clk) fun q=>iP (Za4 pend q.2.1) (Zbk (orc T) T r (Zh e o.ao.dst q.1) q.2.1 q.2.2 (h::older) (pend.map fun p=>(p.1-1,p.2))) else none:=rfl
@[simp] theorem zacs{o:DO}{r:List DO}{e:Env}{h:Heap}{clk:Nat}{older:List Heap}{pend:Zah}:dX T false o r e h clk older pend=rD T (Zhn o.ao.guard o.ao.op.callN e h (older.take (older.length-o.lo))) o r e h clk older pend:=rfl
def dV(o:Option AV):Option (AV×Bool):=o.map fun x=>(x,true)
@[simp] theorem zahf{x:AV}:dV (some x)=some (x,true):=rfl
@[simp] theorem zahg:dV none=none:=rfl
@[simp] theorem zahh{op:AOp}{e:Env}{h:Heap}{older:List Heap}:qX (orc T) T ⟨d,none,op⟩ e h older=dV (opD (orc T) T op e h older):=rfl
noncomputable def gD(T:Tbl)(x:AV)(want:Bool)(op:AOp)(e:Env)(h:Heap)(older:List Heap):Option (AV×Bool):=
 match x with
 | .b v=>if v=want then dV (opD (orc T) T op e h older) else some (.tup [],false)
 | .tup []=>some (.tup [],false)
 | _=>none
@[congr] theorem zact{x x':AV}{want:Bool}{op:AOp}{e:Env}{h:Heap}{older:List Heap}(h1:x=x'):gD T x want op e h older=gD T x' want op e h older:=by rw[h1]
@[simp] theorem zahi{t:Nat}{want:Bool}{op:AOp}{e:Env}{h:Heap}{older:List Heap}:qX (orc T) T ⟨d,some (t,want),op⟩ e h older=gD T (e.get t) want op e h older:=rfl
@[simp] theorem gD_b{v want:Bool}{op:AOp}{e:Env}{h:Heap}{older:List Heap}:gD T (.b v) want op e h older=if v=want then dV (opD (orc T) T op e h older) else some (.tup [],false):=rfl
@[simp] theorem zak0{want:Bool}{op:AOp}{e:Env}{h:Heap}{older:List Heap}:gD T (.tup []) want op e h older=some (.tup [],false):=rfl
noncomputable def dC(o:Option AV)(op:AOp)(older:List Heap)(e:Env):Option AV:=o.bind fun x=>if Zf9 op e older x then some x else none
@[congr] theorem zacu{o o':Option AV}{op:AOp}{older:List Heap}{e:Env}(h1:o=o'):dC o op older e=dC o' op older e:=by rw[h1]
@[simp] theorem zak1{x:AV}{op:AOp}{e:Env}:dC (some x) op [] e=some x:=by
 unfold dC;rw[Yac,zvk]
 rfl
theorem zbi{op:AOp}{h:Heap}{older:List Heap}{e:Env}(hf:op.free=true):((Zg op e.get h).bind fun x=>if Zf9 op e older x then some x else none)=Zg op e.get h:=by
 cases Zg op e.get h with
 | none=>rfl
 | some x=>rw[Yac,zr6 hf];rfl
@[simp] theorem zam4{x}{e:Env}{h:Heap}{older:List Heap}:opD (orc T) T (.mov x) e h older=some (ev e.get x):=zbi (op:=.mov x) (h:=h) (older:=older) (e:=e) rfl
@[simp] theorem zam5{z y}{e:Env}{h:Heap}{older:List Heap}:opD (orc T) T (.app z (.c (.sl [] .nl)) y) e h older=Zgs z (ev e.get y):=rfl
@[simp] theorem zacv{z:Nat}{els:List (List AV)}{f:Fl}:Zgs z (.sl els f)=if (els.head?.all fun r=>r.length=z)∧els.length≤4294967296 then some (.sl els .an) else none:=rfl
@[simp] theorem z03{z n y}:(AOp.app z (.t n) y).writes=true:=rfl
@[simp] theorem z53{z n y}:(AOp.app z (.t n) y).free=false:=rfl
@[simp] theorem z23{z n y}:(AOp.app z (.t n) y).maker=true:=rfl
@[simp] theorem z54{z y}:(AOp.app z (.c (.sl [] .nl)) y).writes=false:=rfl
@[simp] theorem zacw{z y}:(AOp.app z (.c (.sl [] .nl)) y).free=true:=rfl
@[simp] theorem z8o{z y}:(AOp.app z (.c (.sl [] .nl)) y).maker=false:=rfl
@[simp] theorem zak2{c a b}{e:Env}{h:Heap}{older:List Heap}:opD (orc T) T (.pick c a b) e h older=Zg7 (ev e.get c) (ev e.get a) (ev e.get b):=zbi (op:=.pick c a b) (h:=h) (older:=older) (e:=e) rfl
@[simp] theorem zahj{zs ps}{e:Env}{h:Heap}{older:List Heap}:opD (orc T) T (.build zs ps) e h older=(Zgq zs (ps.map fun p=>(p.1,p.2.1,ev e.get p.2.2))).map .agg:=zbi (op:=.build zs ps) (h:=h) (older:=older) (e:=e) rfl
@[simp] theorem zam6{o x y}{e:Env}{h:Heap}{older:List Heap}:opD (orc T) T (.bin o x y) e h older=Zab o (ev e.get x) (ev e.get y):=zbi (op:=.bin o x y) (h:=h) (older:=older) (e:=e) rfl
@[simp] theorem zam7{g ls x y}{e:Env}{h:Heap}{older:List Heap}:opD (orc T) T (.eqs g ls x y) e h older=Zh1 g ls (ev e.get x) (ev e.get y):=zbi (op:=.eqs g ls x y) (h:=h) (older:=older) (e:=e) rfl
@[simp] theorem zahk{g x}{e:Env}{h:Heap}{older:List Heap}:opD (orc T) T (.eqnil g x) e h older=Zfd g (ev e.get x):=zbi (op:=.eqnil g x) (h:=h) (older:=older) (e:=e) rfl
@[simp] theorem zam8{g x y}{e:Env}{h:Heap}{older:List Heap}:opD (orc T) T (.eqb g x y) e h older=Zh2 g (ev e.get x) (ev e.get y):=zbi (op:=.eqb g x y) (h:=h) (older:=older) (e:=e) rfl
@[simp] theorem D_un{o x}{e:Env}{h:Heap}{older:List Heap}:opD (orc T) T (.un o x) e h older=Zg8 o (ev e.get x):=zbi (op:=.un o x) (h:=h) (older:=older) (e:=e) rfl
@[simp] theorem zak3{k x}{e:Env}{h:Heap}{older:List Heap}:opD (orc T) T (.conv k x) e h older=Zbw k (ev e.get x):=zbi (op:=.conv k x) (h:=h) (older:=older) (e:=e) rfl
@[simp] theorem zahl{x lo hi}{e:Env}{h:Heap}{older:List Heap}:opD (orc T) T (.slstr x lo hi) e h older=Zfe (ev e.get x) (evO e.get lo) (evO e.get hi):=zbi (op:=.slstr x lo hi) (h:=h) (older:=older) (e:=e) rfl
@[simp] theorem zam9{o n x}{e:Env}{h:Heap}{older:List Heap}:opD (orc T) T (.fld o n x) e h older=Zh3 o n (ev e.get x):=zbi (op:=.fld o n x) (h:=h) (older:=older) (e:=e) rfl
@[simp] theorem zana{x i}{e:Env}{h:Heap}{older:List Heap}:opD (orc T) T (.ixs x i) e h older=Zh4 (ev e.get x) (ev e.get i):=zbi (op:=.ixs x i) (h:=h) (older:=older) (e:=e) rfl
@[simp] theorem zanb{z l n x i}{e:Env}{h:Heap}{older:List Heap}:opD (orc T) T (.ixa z l n x i) e h older=Zh5 z l n (ev e.get x) (ev e.get i):=zbi (op:=.ixa z l n x i) (h:=h) (older:=older) (e:=e) rfl
@[simp] theorem zak4{x}{e:Env}{h:Heap}{older:List Heap}:opD (orc T) T (.lens x) e h older=Zgg (ev e.get x):=zbi (op:=.lens x) (h:=h) (older:=older) (e:=e) rfl
@[simp] theorem zak5{n}{e:Env}{h:Heap}{older:List Heap}:opD (orc T) T (.lenc n) e h older=some (.i .i64 n):=zbi (op:=.lenc n) (h:=h) (older:=older) (e:=e) rfl
@[simp] theorem D_mm{m xs}{e:Env}{h:Heap}{older:List Heap}:opD (orc T) T (.mm m xs) e h older=Zj5 m (xs.map (ev e.get)):=zbi (op:=.mm m xs) (h:=h) (older:=older) (e:=e) rfl
@[simp] theorem zanc{x n}{e:Env}{h:Heap}{older:List Heap}:opD (orc T) T (.ext x n) e h older=Zh6 n (ev e.get x):=zbi (op:=.ext x n) (h:=h) (older:=older) (e:=e) rfl
@[simp] theorem zak6{n x}{e:Env}{h:Heap}{older:List Heap}:opD (orc T) T (.load n x) e h older=dC (Zft n h (ev e.get x)) (.load n x) older e:=rfl
@[simp] theorem zand{z x lo hi mx}{e:Env}{h:Heap}{older:List Heap}:opD (orc T) T (.slc z x lo hi mx) e h older=dC (Zgr z h (ev e.get x) (evO e.get lo) (evO e.get hi) (evO e.get mx)) (.slc z x lo hi mx) older e:=rfl
@[simp] theorem zane{o x}{e:Env}{h:Heap}{older:List Heap}:opD (orc T) T (.fad o x) e h older=dC (Zg9 o h (ev e.get x)) (.fad o x) older e:=rfl
@[simp] theorem zanf{z x i}{e:Env}{h:Heap}{older:List Heap}:opD (orc T) T (.iad z x i) e h older=dC (Zha z h (ev e.get x) (ev e.get i)) (.iad z x i) older e:=rfl
@[simp] theorem zang{z n x i}{e:Env}{h:Heap}{older:List Heap}:opD (orc T) T (.iaa z n x i) e h older=dC (Zhb z n h (ev e.get x) (ev e.get i)) (.iaa z n x i) older e:=rfl
@[simp] theorem zanh{x}{e:Env}{h:Heap}{older:List Heap}:opD (orc T) T (.len x) e h older=dC (Zhc h (ev e.get x)) (.len x) older e:=rfl
@[simp] theorem zak7{k zv ok x i}{e:Env}{h:Heap}{older:List Heap}:opD (orc T) T (.look k zv ok x i) e h older=dC (Zed k zv ok h (ev e.get x) (ev e.get i)) (.look k zv ok x i) older e:=rfl
@[simp] theorem zak8{x}{e:Env}{h:Heap}{older:List Heap}:opD (orc T) T (.nilc x) e h older=dC (Zfu h (ev e.get x)) (.nilc x) older e:=rfl
def dR(r:Option AV)(xs:List AV):Option AV:=if xs.all noRef then r else none
@[congr] theorem zacx{r r':Option AV}{xs:List AV}(h1:r=r'):dR r xs=dR r' xs:=by rw[h1]
@[simp] theorem zahm{r:AV}{xs:List AV}:dR (some r) xs=if xs.all noRef then some r else none:=rfl
theorem zau{u:Nat}{args:List Opd}{np nt:Nat}{res:List RV}{b:AX}{ex:Bool}{e:Env}{h:Heap}{older:List Heap}(hT:T u=some ⟨np,nt,res,b,none,ex⟩) :
  opD (orc T) T (.call u args) e h older=dR (Za T u ((args.map (ev e.get)).map (wkIf ex))) (args.map (ev e.get)):=by
 unfold dR Za;simp only[opD,hT,Option.isNone_none,Yco]
@[simp] theorem zani{z zs n ps}{e:Env}{h:Heap}{older:List Heap}:opD (orc T) T (.bsl z zs n ps) e h older=if (ps.map fun p=>(p.1,ev e.get p.2)).all (fun p=>noRef p.2) then (Zdz z zs n [] (ps.map fun p=>(p.1,ev e.get p.2))).map (·.1) else none:=rfl
@[congr] theorem z24{tl l:List AO}{e e':Env}{h h':Heap}{clk clk':Nat}(h1:e=e')(h2:h=h')(h3:clk=clk'):Zd5 (orc T) T tl l e h clk=Zd5 (orc T) T tl l e' h' clk':=by rw[h1,h2,h3]
@[simp] theorem z8p{tl:List AO}{e:Env}{h:Heap}{clk:Nat}:Zd5 (orc T) T tl [] e h clk=Zd4 (orc T) T tl ⟨e,h,clk⟩:=rfl
@[simp] theorem z55{tl r:List AO}{o:AO}{e:Env}{h:Heap}{clk:Nat}:Zd5 (orc T) T tl (o::r) e h clk=bD (qX (orc T) T o e h []) fun x=>Zd5 (orc T) T tl r (Zh e o.dst x.1) h clk:=rfl
@[simp] theorem z8q{tl:List AO}{h0:Heap}{c0:Nat}{X:Heap}{e:Env}{h:Heap}{clk:Nat}:Za7 (orc T) T tl h0 c0 X [] e h clk=Zd4 (orc T) T tl ⟨e,h,clk⟩:=rfl
noncomputable def kM(T:Tbl)(tl:List AO)(h0:Heap)(c0:Nat)(X:Heap)(op:AOp)(d:Nat)(r:List AO)(e:Env)(h:Heap)(q:Option (AV×Heap×Nat)):Option St:=
 q.bind fun q=>if ((h.lookup (.loc d)).isNone&&Zil c0 op e q.2.1)=true then Za7 (orc T) T tl h0 c0 X r (Zh e (some d) q.1) (q.2.1++h) q.2.2 else none
@[simp] theorem zahn{tl:List AO}{h0:Heap}{c0:Nat}{X:Heap}{op:AOp}{d:Nat}{r:List AO}{e:Env}{h:Heap}{q:AV×Heap×Nat}:kM T tl h0 c0 X op d r e h (some q)=if ((h.lookup (.loc d)).isNone&&Zil c0 op e q.2.1)=true then Za7 (orc T) T tl h0 c0 X r (Zh e (some d) q.1) (q.2.1++h) q.2.2 else none:=rfl
noncomputable def kN(T:Tbl)(tl:List AO)(h0:Heap)(c0:Nat)(X:Heap)(op:AOp)(d:Nat)(r:List AO)(e:Env)(h:Heap)(q:Option (AV×Heap×Nat)):Option St:=
 q.bind fun q=>if Zil c0 op e (q.2.1.take 1)=true then Za7 (orc T) T tl h0 c0 X r (Zh e (some d) q.1) (q.2.1.take 1++h) q.2.2 else none
@[simp] theorem zaho{tl:List AO}{h0:Heap}{c0:Nat}{X:Heap}{op:AOp}{d:Nat}{r:List AO}{e:Env}{h:Heap}{q:AV×Heap×Nat}:kN T tl h0 c0 X op d r e h (some q)=if Zil c0 op e (q.2.1.take 1)=true then Za7 (orc T) T tl h0 c0 X r (Zh e (some d) q.1) (q.2.1.take 1++h) q.2.2 else none:=rfl
noncomputable def uX(T:Tbl)(w:Option (BId×Box))(tl:List AO)(h0:Heap)(c0:Nat)(X:Heap)(op:AOp)(d:Nat)(r:List AO)(e:Env)(h:Heap)(clk:Nat):Option St:=
 match w with
 | none=>kM T tl h0 c0 X op d r e h (stepW op (some d) e.get [] clk)
 | some p=>kN T tl h0 c0 X op d r e h (stepW op (some d) e.get [p] clk)
@[simp] theorem zahp{tl:List AO}{h0:Heap}{c0:Nat}{X:Heap}{op:AOp}{d:Nat}{r:List AO}{e:Env}{h:Heap}{clk:Nat}:uX T none tl h0 c0 X op d r e h clk=kM T tl h0 c0 X op d r e h (stepW op (some d) e.get [] clk):=rfl
@[simp] theorem zahq{tl:List AO}{h0:Heap}{c0:Nat}{X:Heap}{op:AOp}{d:Nat}{r:List AO}{e:Env}{h:Heap}{clk:Nat}{p:BId×Box}:uX T (some p) tl h0 c0 X op d r e h clk=kN T tl h0 c0 X op d r e h (stepW op (some d) e.get [p] clk):=rfl
@[simp] theorem z56{c0:Nat}{h0 X h:Heap}{zs:List AV}{e:Env}:Zhx c0 h0 X h (.alloc zs) e=none:=rfl
@[simp] theorem zacy{c0:Nat}{h0 X h:Heap}{z:Nat}{zs:List AV}{l c:Opd}{e:Env}:Zhx c0 h0 X h (.mks z zs l c) e=none:=rfl
@[simp] theorem z8r{c0:Nat}{h0 X h:Heap}{k:KTy}{zv:AV}{ok:Bool}{x i:Opd}{e:Env}:Zhx c0 h0 X h (.look k zv ok x i) e=none:=rfl
@[simp] theorem zacz{c0:Nat}{h0 X h:Heap}{k:XOp}{xs:List Opd}{e:Env}:Zhx c0 h0 X h (.xop k xs) e=none:=rfl
@[simp] theorem zac0{c0:Nat}{h0 X h:Heap}{z:Nat}{x y:Opd}{e:Env}:Zhx c0 h0 X h (.app z x y) e=Zjx c0 h0 X h (ev e.get x):=rfl
@[simp] theorem zahr{c0:Nat}{h0 X h:Heap}{l:List (List AV)}{f:Fl}:Zjx c0 h0 X h (.sl l f)=none:=rfl
@[simp] theorem zahs{c0:Nat}{h0 X h:Heap}{b:BId}{g z o n:Nat}:Zjx c0 h0 X h (.bs b g z o n)=Zkg c0 (h0.lookup b) (X.lookup b) b (h.lookup b):=rfl
@[simp] theorem z8s{c0:Nat}{b:BId}{x o:Box}:Zkg c0 none (some x) b (some o)=if o.gen<c0 then some (b,o) else none:=rfl
attribute [simp] Zl2
@[simp] theorem z8t{e:Env}:Ze1 [] e=[]:=rfl
@[simp] theorem z57{o:AO}{r:List AO}{e:Env}:Ze1 (o::r) e=match o.op with | .mov x=>Ze1 r (Zh e o.dst (ev e.get x)) | .app _ x _=>Zl2 (ev e.get x)++Ze1 r (Zh e o.dst .dead) | _=>Ze1 r (Zh e o.dst .dead):=rfl
@[simp] theorem z25{h:Heap}:Zfg [] h=h:=rfl
@[simp] theorem z04{b:BId}{ids:List BId}{h:Heap}:Zfg (b::ids) h=h.filter fun p=>!(b::ids).contains p.1:=rfl
noncomputable def kB(T:Tbl)(tl:List AO)(h0:Heap)(c0:Nat)(X:Heap)(d:Nat)(r:List AO)(e:Env)(h:Heap)(q:Option (AV×Heap×Nat)):Option St:=
 q.bind fun q=>if q.2.1.all (fun p=>(h.lookup p.1).isNone)=true then Za7 (orc T) T tl h0 c0 X r (Zh e (some d) q.1) (q.2.1++h) q.2.2 else none
@[simp] theorem zaht{tl:List AO}{h0:Heap}{c0:Nat}{X:Heap}{d:Nat}{r:List AO}{e:Env}{h:Heap}{q:AV×Heap×Nat}:kB T tl h0 c0 X d r e h (some q)=if q.2.1.all (fun p=>(h.lookup p.1).isNone)=true then Za7 (orc T) T tl h0 c0 X r (Zh e (some d) q.1) (q.2.1++h) q.2.2 else none:=rfl
noncomputable def lX(T:Tbl)(b:Option (Nat×List Opd))(tl:List AO)(h0:Heap)(c0:Nat)(X:Heap)(o:AO)(r:List AO)(e:Env)(h:Heap)(clk:Nat):Option St:=
 match b with
 | some ua=>
  match o.guard,o.dst with
  | none,some d=>kB T tl h0 c0 X d r e h (Zfr (orc T) T ua.1 (ua.2.map (ev e.get)) d clk)
  | _,_=>none
 | none=>bD (qX (orc T) T o e h0 []) fun x=>if Zh9 c0 o.op e (gnA x.1)=true then Za7 (orc T) T tl h0 c0 X r (Zh e o.dst x.1) h clk else none
@[simp] theorem zahu{tl r:List AO}{h0:Heap}{c0:Nat}{X:Heap}{op:AOp}{dd u:Nat}{args:List Opd}{e:Env}{h:Heap}{clk:Nat}:lX T (some (u,args)) tl h0 c0 X ⟨some dd,none,op⟩ r e h clk=kB T tl h0 c0 X dd r e h (Zfr (orc T) T u (args.map (ev e.get)) dd clk):=rfl
@[simp] theorem zahv{tl r:List AO}{h0:Heap}{c0:Nat}{X:Heap}{o:AO}{e:Env}{h:Heap}{clk:Nat}:lX T none tl h0 c0 X o r e h clk=bD (qX (orc T) T o e h0 []) fun x=>if Zh9 c0 o.op e (gnA x.1)=true then Za7 (orc T) T tl h0 c0 X r (Zh e o.dst x.1) h clk else none:=rfl
noncomputable def tX(T:Tbl)(tl:List AO)(h0:Heap)(c0:Nat)(X:Heap)(r:List AO)(b:Bool)(e:Env)(q:Option Heap)(clk:Nat):Option St:=
 q.bind fun h=>if b=true then Za7 (orc T) T tl h0 c0 X r e h clk else none
@[simp] theorem zahw{tl:List AO}{h0:Heap}{c0:Nat}{X:Heap}{r:List AO}{e:Env}{h:Heap}{clk:Nat}:tX T tl h0 c0 X r true e (some h) clk=Za7 (orc T) T tl h0 c0 X r e h clk:=rfl
noncomputable def sX(T:Tbl)(b:Bool)(tl:List AO)(h0:Heap)(c0:Nat)(X:Heap)(o:AO)(r:List AO)(e:Env)(h:Heap)(clk:Nat):Option St:=
 match b with
 | true=>
  match o.guard,o.dst with
  | none,none=>(stepW o.op none e.get h clk).bind fun q=>if Zgk X o.op e=true then Za7 (orc T) T tl h0 c0 X r e q.2.1 q.2.2 else none
  | _,_=>none
 | false=>lX T o.op.lentN tl h0 c0 X o r e h clk
@[simp] theorem zahx{tl r:List AO}{h0:Heap}{c0:Nat}{X:Heap}{n:Nat}{x v:Opd}{e:Env}{h:Heap}{clk:Nat}:sX T true tl h0 c0 X ⟨none,none,.store n x v⟩ r e h clk=tX T tl h0 c0 X r (Zgk X (.store n x v) e) e (Zcu n h (ev e.get x) (ev e.get v)) clk:=by
 unfold sX tX;simp only[stepW];cases Zcu n h (ev e.get x) (ev e.get v)<;>rfl
@[simp] theorem zac1{tl r:List AO}{h0:Heap}{c0:Nat}{X:Heap}{o:AO}{e:Env}{h:Heap}{clk:Nat}:sX T false tl h0 c0 X o r e h clk=lX T o.op.lentN tl h0 c0 X o r e h clk:=rfl
noncomputable def Zl3(r:Option (AV×Heap))(d clk:Nat):Option (AV×Heap×Nat):=
 r.bind fun r=>
  let hb':=r.2.map fun p=>(Zay [] d p.1,Z9 true (Zay [] d) (Zbb [] clk) p.2)
  let r':=rlA (Zay [] d) (Zbb [] clk) r.1
  if (hb'.map (·.1)).Nodup∧geB clk (gnA r')=true∧geH clk hb'=true then some (r',hb',clk+(r.2.length+2)) else none
@[simp] theorem z26{r:AV×Heap}{dd clk:Nat}:Zl3 (some r) dd clk=if ((r.2.map fun p=>(Zay [] dd p.1,Z9 true (Zay [] dd) (Zbb [] clk) p.2)).map (·.1)).Nodup∧geB clk (gnA (rlA (Zay [] dd) (Zbb [] clk) r.1))=true∧geH clk (r.2.map fun p=>(Zay [] dd p.1,Z9 true (Zay [] dd) (Zbb [] clk) p.2))=true then some (rlA (Zay [] dd) (Zbb [] clk) r.1,r.2.map fun p=>(Zay [] dd p.1,Z9 true (Zay [] dd) (Zbb [] clk) p.2),clk+(r.2.length+2)) else none:=rfl
noncomputable def mX(T:Tbl)(b:Bool)(tl:List AO)(h0:Heap)(c0:Nat)(X:Heap)(o:AO)(r:List AO)(e:Env)(h:Heap)(clk:Nat):Option St:=
 match b with
 | true=>
  match o.guard,o.dst with
  | none,some d=>uX T (Zhx c0 h0 X h o.op e) tl h0 c0 X o.op d r e h clk
  | _,_=>none
 | false=>sX T o.op.isStore tl h0 c0 X o r e h clk
@[simp] theorem z58{tl r:List AO}{h0:Heap}{c0:Nat}{X:Heap}{o:AO}{e:Env}{h:Heap}{clk:Nat}:Za7 (orc T) T tl h0 c0 X (o::r) e h clk=mX T (AOp.maker o.op) tl h0 c0 X o r e h clk:=by
 unfold mX;simp only[Za7];cases AOp.maker o.op with
 | false=>
  unfold sX;simp only;cases AOp.isStore o.op with
  | true=>
   obtain⟨dd,g,op⟩:=o;cases g<;>cases dd<;>rfl
  | false=>
   unfold lX;simp only;cases AOp.lentN o.op with
   | none=>rfl
   | some ua=>
    obtain⟨dd,g,op⟩:=o;cases g<;>cases dd<;>rfl
 | true=>
  obtain⟨dd,g,op⟩:=o;cases g<;>cases dd<;>rfl
@[simp] theorem zahy{tl r:List AO}{h0:Heap}{c0:Nat}{X:Heap}{op:AOp}{dd:Nat}{e:Env}{h:Heap}{clk:Nat}:mX T true tl h0 c0 X ⟨some dd,none,op⟩ r e h clk=uX T (Zhx c0 h0 X h op e) tl h0 c0 X op dd r e h clk:=rfl
@[simp] theorem zac2{tl r:List AO}{h0:Heap}{c0:Nat}{X:Heap}{o:AO}{e:Env}{h:Heap}{clk:Nat}:mX T false tl h0 c0 X o r e h clk=sX T o.op.isStore tl h0 c0 X o r e h clk:=rfl
@[simp] theorem zahz{hd tl:List AO}:evX (orc T) T k (.drawM hd tl) st=stX (Za7 (orc T) T tl (Zfg (Ze1 hd st.env) st.heap) st.clk st.heap hd st.env st.heap st.clk):=rfl
noncomputable def pX(T:Tbl)(w:Bool)(K:Env→Zah→Option St)(h:Heap)(o:DO)(r:List DO)(e:Env)(pend:Zah):Option St:=
 match w with
 | true=>none
 | false=>bD (qX (orc T) T o.ao e h []) fun x=>Zeh (orc T) T K h r (Zh e o.ao.dst x.1) (Zb2 o 0 e x pend)
@[simp] theorem zac3{K:Env→Zah→Option St}{h:Heap}{o:DO}{r:List DO}{e:Env}{pend:Zah}:pX T false K h o r e pend=bD (qX (orc T) T o.ao e h []) fun x=>Zeh (orc T) T K h r (Zh e o.ao.dst x.1) (Zb2 o 0 e x pend):=rfl
@[simp] theorem zac4{K:Env→Zah→Option St}{h:Heap}{e:Env}{pend:Zah}:Zeh (orc T) T K h [] e pend=K e pend:=rfl
@[simp] theorem z8u{K:Env→Zah→Option St}{h:Heap}{o:DO}{r:List DO}{e:Env}{pend:Zah}:Zeh (orc T) T K h (o::r) e pend=pX T o.ao.op.writes K h o r e pend:=by
 unfold pX;rw[Zeh];cases o.ao.op.writes<;>rfl
noncomputable def qpX(T:Tbl)(w:Bool)(K:Env→Option St)(h0 h1:Heap)(o:AO)(r:List AO)(e:Env):Option St:=
 match w with
 | true=>none
 | false=>bD (qX (orc T) T o e h1 [h0]) fun x=>Zcy (orc T) T K h0 h1 r (Zh e o.dst x.1)
@[simp] theorem z8v{K:Env→Option St}{h0 h1:Heap}{o:AO}{r:List AO}{e:Env}:qpX T false K h0 h1 o r e=bD (qX (orc T) T o e h1 [h0]) fun x=>Zcy (orc T) T K h0 h1 r (Zh e o.dst x.1):=rfl
@[congr] theorem z27{K:Env→Option St}{h0 h1:Heap}{l:List AO}{e e':Env}(h2:e=e'):Zcy (orc T) T K h0 h1 l e=Zcy (orc T) T K h0 h1 l e':=by rw[h2]
@[simp] theorem z8w{K:Env→Option St}{h0 h1:Heap}{e:Env}:Zcy (orc T) T K h0 h1 [] e=K e:=rfl
@[simp] theorem z59{K:Env→Option St}{h0 h1:Heap}{o:AO}{r:List AO}{e:Env}:Zcy (orc T) T K h0 h1 (o::r) e=qpX T o.op.writes K h0 h1 o r e:=by
 unfold qpX;rw[Zcy];cases o.op.writes<;>rfl
@[simp] theorem zah0{l1 l2 tl:List AO}{dd u:Nat}{args:List Opd}:evX (orc T) T k (.drawC l1 ⟨some dd,none,.call u args⟩ l2 tl) st =
  stX (Zeh (orc T) T (fun e pend=>bS (Zc (orc T) T u (args.map (ev e.get)) (some dd) ⟨e,st.heap,st.clk⟩) fun s=>iP (Za4 pend s.heap) (Zcy (orc T) T (fun e2=>Zd4 (orc T) T tl ⟨e2,s.heap,s.clk⟩) st.heap s.heap l2 s.env)) st.heap (l1.map fun o=>⟨o,0,1⟩) st.env []):=rfl
@[simp] theorem zah1{l1 l2:List DO}{dd u:Nat}{args:List Opd}:evX (orc T) T k (.drawN l1 ⟨some dd,none,.call u args⟩ l2) st =
  stX (Zeh (orc T) T (fun e pend=>bS (Zc (orc T) T u (args.map (ev e.get)) (some dd) ⟨e,st.heap,st.clk⟩) fun s=>iP (Za4 pend s.heap) (Zbk (orc T) T (l2.map (Zer 0)) s.env s.heap s.clk [st.heap] (pend.map fun p=>(p.1-1,p.2)))) st.heap (l1.map (Zer 0)) st.env []):=rfl
attribute [simp] Zer
@[simp] theorem zanj{n x}:opX (orc T) T (.ifc n x) d st=some ⟨Zh st.env d (.ifc (Ze T n) (ev st.env.get x)),st.heap,st.clk⟩:=rfl
noncomputable def iS(T:Tbl)(x:AV)(nm:String)(n u:Nat)(args:List AV)(d:Option Nat)(st:St):Option St:=
 match x with
 | .ifc t y=>if t=Ze T n∧(nm,u)∈Zae T n then Zc (orc T) T u (y::args) d st else none
 | .fnv f x=>if nm="()"∧f=Ze T n∧Zg2 T n=some u then Zc (orc T) T u (x::args) d st else none
 | .fnp f id g z i o=>if nm="()"∧f=Ze T n∧Zg2 T n=some u then Zc (orc T) T u (args++[.ptr id g z i o]) d st else none
 | _=>none
@[congr] theorem zac5{x x':AV}{nm:String}{n u:Nat}{args args':List AV}{d:Option Nat}{st:St}(h1:x=x')(h2:args=args'):iS T x nm n u args d st=iS T x' nm n u args' d st:=by rw[h1,h2]
@[simp] theorem zank{nm n u r args}:opX (orc T) T (.inv nm n u r args) d st=iS T (ev st.env.get r) nm n u (args.map (ev st.env.get)) d st:=by
 simp only[opX];cases ev st.env.get r<;>rfl
@[simp] theorem zak9{y:AV}{nm:String}{n u:Nat}{args:List AV}{st:St}:iS T (.ifc (Ze T n) y) nm n u args d st=if (nm,u)∈Zae T n then Zc (orc T) T u (y::args) d st else none:=by
 unfold iS;simp only[true_and]
@[simp] theorem zanl{n x}{e:Env}{h:Heap}{older:List Heap}:opD (orc T) T (.ifc n x) e h older=some (.ifc (Ze T n) (ev e.get x)):=rfl
noncomputable def dI(T:Tbl)(u:Nat)(xs:List AV):Option AV:=
 match T u with
 | none=>none
 | some af=>if (af.lent.isNone&&xs.all noRef)=true then ((orc T).call u (xs.map (wkIf af.exact)) []).map (·.1) else none
noncomputable def iD(T:Tbl)(x:AV)(nm:String)(n u:Nat)(args:List AV):Option AV:=
 match x with
 | .ifc t y=>if t=Ze T n∧(nm,u)∈Zae T n then dI T u (drp1 y::args) else none
 | _=>none
@[congr] theorem zac6{x x':AV}{nm:String}{n u:Nat}{args args':List AV}(h1:x=x')(h2:args=args'):iD T x nm n u args=iD T x' nm n u args':=by rw[h1,h2]
@[simp] theorem zanm{nm n u r args}{e:Env}{h:Heap}{older:List Heap}:opD (orc T) T (.inv nm n u r args) e h older=iD T (ev e.get r) nm n u (args.map (ev e.get)):=by
 simp only[opD];cases ev e.get r<;>rfl
@[simp] theorem zala{y:AV}{nm:String}{n u:Nat}{args:List AV}:iD T (.ifc (Ze T n) y) nm n u args=if (nm,u)∈Zae T n then dI T u (drp1 y::args) else none:=by
 unfold iD;simp only[true_and]
theorem z8x{u:Nat}{xs:List AV}{np nt:Nat}{res:List RV}{b:AX}{ex:Bool}(hT:T u=some ⟨np,nt,res,b,none,ex⟩):dI T u xs=dR (Za T u (xs.map (wkIf ex))) xs:=by
 unfold dI dR Za;simp only[hT,Option.isNone_none,Yco]
theorem zy0{n t:Nat}{res:List RV}{x:String×Nat}(hT:T (1000000+n)=some ⟨t,0,res,.bad,none,false⟩):x∈Zae T n↔x∈Zfw ⟨t,0,res,.bad,none,false⟩:=by
 unfold Zae;rw[hT]
 rfl
@[simp] theorem zah2{hd tl:List AO}:evX (orc T) T k (.drawT hd tl) st=stX (Zd5 (orc T) T tl hd st.env st.heap st.clk):=rfl
attribute [simp] Zb2 Zar Zjq Zjr Zja Zij Zik ghS Zc6 Zc5 Zk9 Zd3 Zcr Zcf kids Z9
attribute [simp] gnA gnR Zh9 Zil Zgi Zef AOp.maker drp1 drpC AOp.lentN AOp.isStore Zgk geB geH
attribute [simp] AOp.writes AOp.free Zgr Zfi Zfp Zcu Zff Zgt
attribute [simp] AOp.callN Zgv Zb4 Zig shR
end
end
section
open Go.RowKit
def Zgy(a b:Nat):Nat:=(((a:Int)-b)%4294967296).toNat
def Zjs(a b:Nat):Nat:=(((a:Int)-b)%18446744073709551616).toNat
def Zpd(a b:Nat):Nat:=(((a:Int)-b)%256).toNat
theorem zvl(n:Int):IntKind.wrap .u32 n=(((n%4294967296).toNat:Nat):Int):=by
 grind[IntKind.wrap,IntKind.signed,IntKind.bits]
theorem zmn(n:Int):IntKind.wrap .u64 n=(((n%18446744073709551616).toNat:Nat):Int):=by
 grind[IntKind.wrap,IntKind.signed,IntKind.bits]
@[simp] theorem z8y(n:Int)(h1:-9223372036854775808≤n)(h2:n<9223372036854775808):IntKind.wrap .i64 n=n:=zac n ⟨h1,h2⟩
@[simp] theorem z6a(a b:Nat):((a:Int)+(b:Int)).toNat=a+b:=by omega
@[simp] theorem z28(a b:Nat):(0:Int)≤(a:Int)+(b:Int):=by omega
@[simp] theorem z29(a b:Nat):((a:Int)+(b:Int)+1).toNat=a+b+1:=by omega
@[simp] theorem z05(a b:Nat):(0:Int)≤(a:Int)+(b:Int)+1:=by omega
section
variable(a b:Nat)(k:IntKind)(n:Int)
@[simp] theorem zann:Zab .add (u32 a) (u32 b)=some (u32 ((a+b)%4294967296)):=by
 simp only[u32,zpw,←Int.natCast_add,zgo]
@[simp] theorem zano:Zab .add (u64 a) (u64 b)=some (u64 ((a+b)%18446744073709551616)):=by
 simp only[u64,zpw,←Int.natCast_add,zec]
@[simp] theorem zanp:Zab .mul (u64 a) (u64 b)=some (u64 ((a*b)%18446744073709551616)):=by
 simp only[u64,zyp,←Yd2,zec]
@[simp] theorem zalb:Zab .sub (u32 a) (u32 b)=some (u32 (Zgy a b)):=by
 simp only[u32,zyo,zvl,Zgy]
theorem zqh:((a:Int).tdiv (b:Int))=((a/b:Nat):Int):=by rw[Int.ofNat_tdiv]
theorem zqi:((a:Int).tmod (b:Int))=((a%b:Nat):Int):=by rw[Int.ofNat_tmod]
@[simp] theorem zanq:Zab .quo (u32 a) (u32 b)=if b=0 then none else some (u32 (a/b%4294967296)):=by
 simp only[u32,zpx,zqh,zgo,Ycj]
@[simp] theorem zanr:Zab .quo (u64 a) (u64 b)=if b=0 then none else some (u64 (a/b%18446744073709551616)):=by
 simp only[u64,zpx,zqh,zec,Ycj]
@[simp] theorem zans:Zab .rem (u32 a) (u32 b)=if b=0 then none else some (u32 (a%b)):=by
 simp only[u32,zpy,zqi,Ycj]
@[simp] theorem zant:Zab .rem (u64 a) (u64 b)=if b=0 then none else some (u64 (a%b)):=by
 simp only[u64,zpy,zqi,Ycj]
theorem bvn(w:Nat):(BitVec.ofInt w (a:Int)).toNat=a%2^w:=by simp
@[simp] theorem or32:Zab .or (u32 a) (u32 b)=some (u32 ((a ||| b)%4294967296)):=by
 have h:=Nat.or_mod_two_pow (a:=a) (b:=b) (n:=32);have e:((BitVec.ofInt 32 (a:Int) ||| BitVec.ofInt 32 (b:Int)).toNat)=(a ||| b)%2^32:=by rw[BitVec.toNat_or,bvn,bvn,←h]
 show some (AV.i .u32 (IntKind.wrap .u32 (((BitVec.ofInt 32 (a:Int) ||| BitVec.ofInt 32 (b:Int)).toNat:Nat):Int)))=_;rw[e,zgo];simp[u32]
@[simp] theorem or64:Zab .or (u64 a) (u64 b)=some (u64 ((a ||| b)%18446744073709551616)):=by
 have h:=Nat.or_mod_two_pow (a:=a) (b:=b) (n:=64);have e:((BitVec.ofInt 64 (a:Int) ||| BitVec.ofInt 64 (b:Int)).toNat)=(a ||| b)%2^64:=by rw[BitVec.toNat_or,bvn,bvn,←h]
 show some (AV.i .u64 (IntKind.wrap .u64 (((BitVec.ofInt 64 (a:Int) ||| BitVec.ofInt 64 (b:Int)).toNat:Nat):Int)))=_;rw[e,zec];simp[u64]
theorem zvm(m:Nat):((a:Int)*2^m)=((a*2^m:Nat):Int):=by simp
theorem zjh(m:Nat):((a:Int).fdiv (2^m))=((a/2^m:Nat):Int):=by
 grind
@[simp] theorem zah3:Zab .shl (u64 a) (.i k n)=if n<0 then none else some (u64 (a*2^(min n.toNat 64)%18446744073709551616)):=by
 simp only[u64,Zab,IntKind.bits,zvm,zec]
@[simp] theorem zanu:Zab .shr (u32 a) (.i k n)=if n<0 then none else some (u32 (a/2^(min n.toNat 32))):=by
 simp only[u32,Zab,IntKind.bits,zjh]
@[simp] theorem zah4:Zab .shr (u64 a) (.i k n)=if n<0 then none else some (u64 (a/2^(min n.toNat 64))):=by
 simp only[u64,Zab,IntKind.bits,zjh]
@[simp] theorem z06:¬ ((b:Int)<0):=by omega
@[simp] theorem zalc:Zab .shl (u64 a) (u64 b)=some (u64 (a*2^(min b 64)%18446744073709551616)):=by
 rw[show u64 b=.i .u64 (b:Int) from rfl,zah3,if_neg (z06 b),Ya8]
@[simp] theorem zald:Zab .shr (u64 a) (u64 b)=some (u64 (a/2^(min b 64))):=by
 rw[show u64 b=.i .u64 (b:Int) from rfl,zah4,if_neg (z06 b),Ya8]
@[simp] theorem zanv:Zab .eql (u32 a) (u32 b)=some (.b (decide (a=b))):=by
 simp only[u32,zpz,Option.some.injEq,AV.b.injEq];rw[Ybs];simp[Ycb]
@[simp] theorem zanw:Zab .neq (u32 a) (u32 b)=some (.b (!decide (a=b))):=by
 simp only[u32,zp0,Option.some.injEq,AV.b.injEq];rw[Ybs];simp[Ycb]
@[simp] theorem zanx:Zab .lss (u32 a) (u32 b)=some (.b (decide (a<b))):=by simp[u32,zp1]
@[simp] theorem zany:Zab .leq (u32 a) (u32 b)=some (.b (decide (a≤b))):=by simp[u32,zp2]
@[simp] theorem zanz:Zab .gtr (u32 a) (u32 b)=some (.b (decide (b<a))):=by simp[u32,zyq]
@[simp] theorem zan0:Zab .geq (u32 a) (u32 b)=some (.b (decide (b≤a))):=by simp[u32,zp3]
@[simp] theorem zan1:Zab .neq (u64 a) (u64 b)=some (.b (!decide (a=b))):=by
 simp only[u64,zp0,Option.some.injEq,AV.b.injEq];rw[Ybs];simp[Ycb]
@[simp] theorem eql8:Zab .eql (u8 a) (u8 b)=some (.b (decide (a=b))):=by
 simp only[u8,zpz,Option.some.injEq,AV.b.injEq];rw[Ybs];simp[Ycb]
@[simp] theorem lss8:Zab .lss (u8 a) (u8 b)=some (.b (decide (a<b))):=by simp[u8,zp1]
@[simp] theorem leq8:Zab .leq (u8 a) (u8 b)=some (.b (decide (a≤b))):=by simp[u8,zp2]
@[simp] theorem geq8:Zab .geq (u8 a) (u8 b)=some (.b (decide (b≤a))):=by simp[u8,zp3]
@[simp] theorem z6b:Zbw .u64 (u32 a)=some (u64 (a%18446744073709551616)):=by simp only[u32,u64,Zbw,zec]
@[simp] theorem z6c:Zbw .u32 (u64 a)=some (u32 (a%4294967296)):=by simp only[u32,u64,Zbw,zgo]
@[simp] theorem z8z:Zbw .u8 (u32 a)=some (u8 (a%256)):=by simp only[u32,u8,Zbw,wrap_u8]
@[simp] theorem z80:Zbw .u64 (.i .i64 n)=some (u64 (n%18446744073709551616).toNat):=by simp only[u64,Zbw,zmn]
@[simp] theorem z81:Zbw .i64 (u32 a)=some (.i .i64 (IntKind.wrap .i64 a)):=rfl
@[simp] theorem z82:Zbw .i64 (u64 a)=some (.i .i64 (IntKind.wrap .i64 a)):=rfl
@[simp] theorem zac7:Zbw .i64 (u8 a)=some (.i .i64 (IntKind.wrap .i64 a)):=rfl
@[simp] theorem zac8:Zbw .i64 (.i .i64 n)=some (.i .i64 (IntKind.wrap .i64 n)):=rfl
@[simp] theorem zan2:Zg8 .neg (u64 a)=some (u64 (Zjs 0 a)):=by simp[u64,Zg8,zmn,Zjs]
@[simp] theorem zan3:Zg8 .neg (.i .i64 n)=some (.i .i64 (IntKind.wrap .i64 (0-n))):=rfl
@[simp] theorem zan4(t:Bool):Zg8 .not (.b t)=some (.b (!t)):=rfl
@[simp] theorem zale(m:Nat)(y:Int):bnd (u8 m) y=if 0≤(m:Int)∧(m:Int)≤y then some m else none:=rfl
@[simp] theorem zah5(m:Nat)(y:Int):bnd (u32 m) y=if 0≤(m:Int)∧(m:Int)≤y then some m else none:=rfl
@[simp] theorem zah6(m:Nat)(y:Int):bnd (u64 m) y=if 0≤(m:Int)∧(m:Int)≤y then some m else none:=rfl
attribute [simp] Zfe Zhb Zh5
@[simp] theorem zalf(l:List UInt8):Zh4 (.s l) (.i k n)=if 0≤n∧n<l.length then (l[n.toNat]?).map fun b=>u8 b.toNat else none:=rfl
@[simp] theorem zac9(k':IntKind)(x y:Int):Zdb .int (.i k x) (.i k' y)=if k=k' then some (x == y) else none:=rfl
end
@[simp] theorem zah7(a b:Nat):u32 a=u32 b↔a=b:=by simp[u32,Ycb]
@[simp] theorem zah8(a b:Nat):u64 a=u64 b↔a=b:=by simp[u64,Ycb]
theorem zam(x:UInt32):x.toNat<4294967296:=x.toNat_lt
@[simp] theorem zah9(x:UInt32):x.toNat<4294967296:=x.toNat_lt
def w32(n:Nat):UInt32:=UInt32.ofNat n
theorem zbr(n:Nat):(w32 n).toNat=n%4294967296:=UInt32.toNat_ofNat' ..
theorem zag{n:Nat}(h:n<4294967296):(w32 n).toNat=n:=by rw[zbr,Yx h]
@[simp] theorem z6d(x:UInt32):w32 x.toNat=x:=UInt32.ofNat_toNat
def Zb(l:List UInt32):List (List AV):=l.map fun x=>[u32 x.toNat]
def ints(l:List Int):List (List AV):=l.map fun x=>[.i .i64 x]
def u8s(l:List UInt8):List (List AV):=l.map fun x=>[u8 x.toNat]
section
variable(l m:List UInt32)(x:UInt32)
@[simp] theorem zada:Zb []=[]:=rfl
@[simp] theorem zhw:(Zb l).length=l.length:=by simp[Zb]
@[simp] theorem zaia:wkL (Zb l)=Zb l:=by
 rw[zb4];simp[Zb,wkR]
@[simp] theorem z83(n:Nat):(Zb l).take n=Zb (l.take n):=by simp[Zb]
@[simp] theorem z84(n:Nat):(Zb l).drop n=Zb (l.drop n):=by simp[Zb]
@[simp] theorem z3a:Zb l++Zb m=Zb (l++m):=by simp[Zb]
@[simp] theorem z85(n:Nat)(h:n<4294967296):Zb l++[[u32 n]]=Zb (l++[w32 n]):=by simp[Zb,zag h]
@[simp] theorem u32s_getElem?(i:Nat):(Zb l)[i]? = (l[i]?).map fun x=>[u32 x.toNat]:=by simp[Zb]
@[simp] theorem z07(i:Nat)(h:i<(Zb l).length):(Zb l)[i]=[u32 (l[i]'(by simpa using h)).toNat]:=by simp[Zb]
theorem zbn(i:Nat)(n:Nat)(h:n<4294967296):(Zb l).set i [u32 n]=Zb (l.set i (w32 n)):=by simp[Zb,List.map_set,zag h]
@[simp] theorem z86(i n:Nat):(Zb l).set i [u32 (n%4294967296)]=Zb (l.set i (w32 n)):=by simp[Zb,List.map_set,zbr]
@[simp] theorem zadb(n:Nat):List.replicate n [u32 0]=Zb (List.replicate n 0):=by simp[Zb]
@[simp] theorem z87(z:Nat):((Zb l).head?.all fun r=>decide (r.length=z))=(l.isEmpty || decide (z=1)):=by
 cases l<;>simp[Zb,eq_comm]
end
end
section
open Go.RowKit
abbrev mv(d s:Nat):AO:=⟨some d,none,.mov (.t s)⟩
abbrev rg(d:Nat)(op:AOp):AO:=⟨some d,none,op⟩
abbrev gd(d t:Nat)(b:Bool)(op:AOp):AO:=⟨some d,some (t,b),op⟩
abbrev so(op:AOp):AO:=⟨none,none,op⟩
section
variable(T:Tbl)(u:Nat)(ex:Bool)(ms:List Bool)(xs:List AV)(d:Option Nat)(st:St)(ps:List Opd)(e:Env)
@[simp] noncomputable def cP:Option St:=bL (Zjy st.heap xs) fun ys=>cR (Za T u (ys.map (wkIf ex))) xs d st
@[simp] noncomputable def cL:Option St:=bL (Zfj st.heap ms xs) fun ys=>Ze2 ys (Zk (Za1 ms xs) st.heap) (Zc5 (Zk (Za1 ms xs) st.heap) 40 (Zcs ms xs) []) T u ex d st
@[simp] noncomputable def dP:Option AV:=dR (Za T u ((ps.map (ev e.get)).map (wkIf ex))) (ps.map (ev e.get))
end
section
variable{T:Tbl}{k:Nat}
theorem zat{id:Nat}{g2:Gh}{c:AX}(S:Nat→St)(n:Nat)(G:Option (Ex×St))(step:∀i,i<n→evX (orc T) T k c (S i)=some (.n,S (i+1)))
  (fin:Zei (evX (orc T) T k c (S n))=true∧Zdr k id g2 (evX (orc T) T k c (S n))=G):Zp T k id g2 c (S 0)=G:=
 zbm S (fun i=>i≤n) (fun i=>n-i) (fun _=>G) (by
  intro i hi;by_cases h:i<n
  ·exact .inl ⟨i+1,h,by show n-(i+1)<n-i;omega,step i h,rfl⟩
  ·have:i=n:=by omega
   subst this;exact .inr fin) 0 (Y1 _)
theorem zaw{id:Nat}{g2:Gh}{c:AX}(S:Nat→St)(n:Nat)(G:Nat→Option (Ex×St))
  (step:∀i,i<n→(evX (orc T) T k c (S i)=some (.n,S (i+1))∧G (i+1)=G i)∨(Zei (evX (orc T) T k c (S i))=true∧Zdr k id g2 (evX (orc T) T k c (S i))=G i))
  (fin:Zei (evX (orc T) T k c (S n))=true∧Zdr k id g2 (evX (orc T) T k c (S n))=G n):Zp T k id g2 c (S 0)=G 0:=
 zbm S (fun i=>i≤n) (fun i=>n-i) G (by
  intro i hi;by_cases h:i<n
  ·rcases step i h with ⟨h1,h2⟩ | h1
   ·exact .inl ⟨i+1,h,by show n-(i+1)<n-i;omega,h1,h2⟩
   ·exact .inr h1
  ·have:i=n:=by omega
   subst this;exact .inr fin) 0 (Y1 _)
end
theorem zbj{i n:Nat}(h:i<n)(hn:n≤4294967296):IntKind.wrap .i64 ((i:Int)+1)=((i+1:Nat):Int):=zac _ (by omega)
end
def b115:AX:=
 (.seq
 (.reg [rg 6 (.mov (.c (u32 0))),rg 7 (.mov (.c (u32 0)))])
 (.seq
 (.reg [mv 8 0,mv 9 1,rg 10 (.bin .add (.t 8) (.t 9)),mv 6 10])
 (.seq
 (.seq
 (.reg [mv 11 6,mv 12 0,rg 13 (.bin .lss (.t 11) (.t 12))])
 (.cond (.t 13)
 (.reg [mv 14 7,rg 15 (.bin .add (.t 14) (.c (u32 1))),mv 7 15])
 .skip))
 (.seq
 (.reg [mv 16 6,mv 17 2,rg 18 (.bin .add (.t 16) (.t 17)),mv 6 18])
 (.seq
 (.seq
 (.reg [mv 19 6,mv 20 2,rg 21 (.bin .lss (.t 19) (.t 20))])
 (.cond (.t 21)
 (.reg [mv 22 7,rg 23 (.bin .add (.t 22) (.c (u32 1))),mv 7 23])
 .skip))
 (.seq
 (.reg [mv 24 6,mv 25 7,mv 6 24,mv 7 25])
 (.pre (.norm false [6,7]) .ret)))))))
def b116:AX:=
 (.seq
 (.reg [rg 6 (.mov (.c (u32 0))),rg 7 (.mov (.c (u32 0)))])
 (.seq
 (.reg [mv 8 0,mv 9 1,rg 10 (.bin .sub (.t 8) (.t 9)),mv 6 10])
 (.seq
 (.seq
 (.reg [mv 11 0,mv 12 1,rg 13 (.bin .lss (.t 11) (.t 12))])
 (.cond (.t 13)
 (.reg [mv 14 7,rg 15 (.bin .add (.t 14) (.c (u32 1))),mv 7 15])
 .skip))
 (.seq
 (.seq
 (.reg [mv 16 6,mv 17 2,rg 18 (.bin .lss (.t 16) (.t 17))])
 (.cond (.t 18)
 (.reg [mv 19 7,rg 20 (.bin .add (.t 19) (.c (u32 1))),mv 7 20])
 .skip))
 (.seq
 (.reg [mv 21 6,mv 22 2,rg 23 (.bin .sub (.t 21) (.t 22)),mv 24 7,mv 6 23,mv 7 24])
 (.pre (.norm false [6,7]) .ret))))))
def b117:AX:=
 (.seq
 (.reg [rg 8 (.mov (.c (u32 0))),rg 9 (.mov (.c (u32 0)))])
 (.seq
 (.reg [mv 11 0,rg 12 (.conv .u64 (.t 11)),mv 13 1,rg 14 (.conv .u64 (.t 13)),rg 15 (.bin .mul (.t 12) (.t 14)),mv 16 2,rg 17 (.conv .u64 (.t 16)),rg 18 (.bin .add (.t 15) (.t 17)),mv 19 3,rg 20 (.conv .u64 (.t 19)),rg 21 (.bin .add (.t 18) (.t 20)),mv 10 21])
 (.seq
 (.reg [mv 22 10,rg 23 (.bin .shr (.t 22) (.c (u64 32))),rg 24 (.conv .u32 (.t 23)),mv 25 10,rg 26 (.conv .u32 (.t 25)),mv 8 24,mv 9 26])
 (.pre (.norm false [8,9]) .ret))))
def b118:AX:=
 (.seq
 (.reg [rg 6 (.mov (.c (u32 0))),rg 7 (.mov (.c (u32 0))),rg 8 (.mov (.c (.b false)))])
 (.seq
 (.seq
 (.reg [mv 10 0,mv 11 2,rg 12 (.bin .geq (.t 10) (.t 11))])
 (.cond (.t 12)
 (.seq
 (.reg [rg 6 (.mov (.c (u32 0))),rg 7 (.mov (.c (u32 0))),rg 8 (.mov (.c (.b false)))])
 (.pre (.norm false [6,7,8]) .ret))
 .skip))
 (.seq
 (.reg [mv 13 0,rg 14 (.conv .u64 (.t 13)),rg 15 (.bin .shl (.t 14) (.c (u64 32))),mv 16 1,rg 17 (.conv .u64 (.t 16)),rg 18 (.bin .or (.t 15) (.t 17)),mv 9 18])
 (.seq
 (.drawT [mv 19 9,mv 20 2,rg 21 (.conv .u64 (.t 20)),rg 22 (.bin .quo (.t 19) (.t 21)),rg 23 (.conv .u32 (.t 22)),mv 24 9,mv 25 2,rg 26 (.conv .u64 (.t 25)),rg 27 (.bin .rem (.t 24) (.t 26)),rg 28 (.conv .u32 (.t 27)),mv 6 23]
 [mv 7 28,rg 8 (.mov (.c (.b true)))])
 (.pre (.norm false [6,7,8]) .ret)))))
def l91_0:AX:=
 (.note
 (.seq
 (.seq
 (.reg [mv 5 4,rg 6 (.bin .gtr (.t 5) (.c (.i .i64 0)))])
 (.cond (.t 6)
 .skip
 (.exit 0)))
 (.seq
 (.block 1
 (.seq
 (.reg [mv 9 0,mv 10 4,rg 11 (.bin .shr (.t 9) (.t 10)),rg 12 (.bin .neq (.t 11) (.c (u32 0)))])
 (.cond (.t 12)
 (.seq
 (.reg [mv 13 0,mv 14 4,rg 15 (.bin .shr (.t 13) (.t 14)),mv 0 15])
 (.reg [mv 16 3,mv 17 4,rg 18 (.bin .add (.t 16) (.t 17)),mv 3 18]))
 .skip)))
 (.reg [mv 7 4,rg 8 (.bin .quo (.t 7) (.c (.i .i64 2))),mv 4 8])))
 (.norm false [0,3,4]))
def b91:AX:=
 (.seq
 (.reg [rg 2 (.mov (.c (.i .i64 0)))])
 (.seq
 (.reg [rg 3 (.mov (.c (.i .i64 0)))])
 (.seq
 (.seq
 (.reg [rg 4 (.mov (.c (.i .i64 16)))])
 (.lp 0 (.norm false [0,3,4]) l91_0 (.norm false [0,3])))
 (.seq
 (.reg [mv 19 3,mv 20 0,rg 21 (.conv .i64 (.t 20)),rg 22 (.bin .add (.t 19) (.t 21)),mv 2 22])
 (.pre (.norm false [2]) .ret)))))
def row115:AFx:=⟨3,26,[.t 6,.t 7],b115,none,false⟩
def row116:AFx:=⟨3,25,[.t 6,.t 7],b116,none,false⟩
def row117:AFx:=⟨4,27,[.t 8,.t 9],b117,none,false⟩
def row118:AFx:=⟨3,29,[.t 6,.t 7,.t 8],b118,none,false⟩
def row91:AFx:=⟨1,23,[.t 2],b91,none,false⟩
class Z5 (T:Tbl):Prop where
 h115:T 115=some row115
 h116:T 116=some row116
 h117:T 117=some row117
 h118:T 118=some row118
 h91:T 91=some row91
section
variable{T:Tbl}[Z5 T]{d:Option Nat}{st:St}
@[simp] theorem x115(xs:List AV):Zc (orc T) T 115 xs d st=cP T 115 false xs d st:=zaa Z5.h115
@[simp] theorem x116(xs:List AV):Zc (orc T) T 116 xs d st=cP T 116 false xs d st:=zaa Z5.h116
@[simp] theorem x117(xs:List AV):Zc (orc T) T 117 xs d st=cP T 117 false xs d st:=zaa Z5.h117
@[simp] theorem x118(xs:List AV):Zc (orc T) T 118 xs d st=cP T 118 false xs d st:=zaa Z5.h118
@[simp] theorem x91(xs:List AV):Zc (orc T) T 91 xs d st=cP T 91 false xs d st:=zaa Z5.h91
end
section
variable{T:Tbl}[Z5 T]
theorem zzh(x y c:UInt32):Za T 115 [u32 x.toNat,u32 y.toNat,u32 c.toNat] =
  some (.tup [u32 (w32 (x.toNat+y.toNat+c.toNat)).toNat,u32 (w32 ((x.toNat+y.toNat+c.toNat)/4294967296)).toNat]):=by
 have hx:=zam x;have hy:=zam y;have hc:=zam c;rw[zab Z5.h115 rfl,b115];simp[zbr]
 repeat' split
 all_goals simp
 all_goals omega
theorem zzi(x y b:UInt32):Za T 116 [u32 x.toNat,u32 y.toNat,u32 b.toNat] =
  some (.tup [u32 (w32 (x.toNat+8589934592-(y.toNat+b.toNat))).toNat,u32 (w32 (2-(x.toNat+8589934592-(y.toNat+b.toNat))/4294967296)).toNat]):=by
 have hx:=zam x;have hy:=zam y;have hb:=zam b;rw[zab Z5.h116 rfl,b116];by_cases h1:x.toNat<y.toNat <;>
 by_cases h2:Zgy x.toNat y.toNat<b.toNat <;>
 ·simp[h1,h2,zbr];unfold Zgy at *
  omega
theorem zjq{a b:Nat}(ha:a<4294967296)(hb:b<4294967296):a*b≤18446744065119617025:=by
 have:a*b≤4294967295*4294967295:=Ych (by omega) (by omega);omega
theorem zzj(x y c d:UInt32):Za T 117 [u32 x.toNat,u32 y.toNat,u32 c.toNat,u32 d.toNat] =
  some (.tup [u32 (w32 ((x.toNat*y.toNat+c.toNat+d.toNat)/4294967296)).toNat,u32 (w32 (x.toNat*y.toNat+c.toNat+d.toNat)).toNat]):=by
 have hx:=zam x;have hy:=zam y;have hc:=zam c;have hd:=zam d;have hm:=zjq hx hy;rw[zab Z5.h117 rfl,b117];simp[zbr];generalize x.toNat*y.toNat=m at *
 omega
theorem zqu(hi lo y:UInt32):Za T 118 [u32 hi.toNat,u32 lo.toNat,u32 y.toNat] =
  some (if y.toNat≤hi.toNat then .tup [u32 0,u32 0,.b false]
   else .tup [u32 (w32 ((hi.toNat*4294967296+lo.toNat)/y.toNat)).toNat,u32 (w32 ((hi.toNat*4294967296+lo.toNat)%y.toNat)).toNat,.b true]):=by
 have hx:=zam hi;have hy:=zam y;have hl:=zam lo;rw[zab Z5.h118 rfl,b118];by_cases h1:y.toNat≤hi.toNat
 ·simp[h1]
 ·have h2:¬ y.toNat=0:=by omega
  simp[h1,h2,zbr];have e:hi.toNat*4294967296%18446744073709551616=hi.toNat*4294967296:=Yx (by omega);have e2:(hi.toNat*4294967296) ||| lo.toNat=hi.toNat*4294967296+lo.toNat:=by
   have:=Ycd (i:=32) hl hi.toNat;rw[Yam hi.toNat,show (4294967296:Nat)=2^32 from rfl,this]
  have h3:(hi.toNat*4294967296+lo.toNat)/y.toNat<4294967296:=by
   rw[Ya7 (by omega)];have:=Yaz 4294967296 (show hi.toNat+1≤y.toNat by omega);omega
  rw[e,e2,Yx (show hi.toNat*4294967296+lo.toNat<18446744073709551616 by omega)];exact⟨rfl,rfl⟩
theorem zd4(x y c:Nat)(hx:x<4294967296)(hy:y<4294967296)(hc:c<4294967296):Za T 115 [u32 x,u32 y,u32 c]=some (.tup [u32 ((x+y+c)%4294967296),u32 ((x+y+c)/4294967296)]):=by
 have:=zzh (T:=T) (w32 x) (w32 y) (w32 c);rw[zag hx,zag hy,zag hc,zbr,zag (by omega)]at this;exact this
theorem zfl(x y b:Nat)(hx:x<4294967296)(hy:y<4294967296)(hb:b<4294967296):Za T 116 [u32 x,u32 y,u32 b] =
  some (.tup [u32 ((x+8589934592-(y+b))%4294967296),u32 (2-(x+8589934592-(y+b))/4294967296)]):=by
 have:=zzi (T:=T) (w32 x) (w32 y) (w32 b);rw[zag hx,zag hy,zag hb,zbr,zag (by omega)]at this;exact this
theorem zh1(x y c d:Nat)(hx:x<4294967296)(hy:y<4294967296)(hc:c<4294967296)(hd:d<4294967296):Za T 117 [u32 x,u32 y,u32 c,u32 d] =
  some (.tup [u32 ((x*y+c+d)/4294967296),u32 ((x*y+c+d)%4294967296)]):=by
 have:=zzj (T:=T) (w32 x) (w32 y) (w32 c) (w32 d);have hm:=zjq hx hy;rw[zag hx,zag hy,zag hc,zag hd,zbr (x*y+c+d),zag (by omega)]at this;exact this
theorem z1b{hi lo y:Nat}(h:hi<y)(hl:lo<4294967296):(hi*4294967296+lo)/y<4294967296:=by
 rw[Ya7 (by omega)];have:=Yaz 4294967296 (show hi+1≤y by omega);omega
theorem zm3(hi lo y:Nat)(hx:hi<y)(hl:lo<4294967296)(hy:y<4294967296):Za T 118 [u32 hi,u32 lo,u32 y] =
  some (.tup [u32 ((hi*4294967296+lo)/y),u32 ((hi*4294967296+lo)%y),.b true]):=by
 have:=zqu (T:=T) (w32 hi) (w32 lo) (w32 y);rw[zag (show hi<4294967296 by omega),zag hl,zag hy,zag (z1b hx hl),zag (by have:=Ybf (hi*4294967296+lo) (show 0<y by omega);omega),if_neg (by omega)]at this;exact this
theorem zst(hi lo y:Nat)(hx:y≤hi)(hh:hi<4294967296)(hl:lo<4294967296):Za T 118 [u32 hi,u32 lo,u32 y]=some (.tup [u32 0,u32 0,.b false]):=by
 have:=zqu (T:=T) (w32 hi) (w32 lo) (w32 y);rw[zag hh,zag hl,zag (show y<4294967296 by omega),if_pos hx]at this;exact this
def Za6(n:Nat):Nat:=if n=0 then 0 else n.log2+1
theorem zjr{n s:Nat}(h:n/2^s≠0):Za6 n=s+Za6 (n/2^s):=by
 have hn:n≠0:=by rintro rfl;simp at h
 have hlog:(n/2^s).log2+s=n.log2:=by
  have h1:=Nat.log2_self_le h;have h2:=Ydz (n:=n/2^s);have h3:=Nat.log2_self_le hn;have h4:=Ydz (n:=n);have hp:0<2^s:=Ybn (by decide);have a1:2^((n/2^s).log2+s)≤n:=by
   rw[Yce];exact(Ybz hp).1 h1
  have a2:n<2^((n/2^s).log2+1+s):=by
   rw[Yce];exact(Ya7 hp).1 h2
  have b1:=(Nat.le_log2 hn).2 a1;have b2:=(Ydt hn).2 a2;omega
 unfold Za6;rw[if_neg h,if_neg hn];omega
theorem zsu{x:Nat}(h:x<2):Za6 x=x:=by
 rcases(show x=0∨x=1 by omega) with rfl | rfl<;>decide
def Zi2(y:Nat×Nat×Nat):St:=⟨[(0,u32 y.1),(3,.i .i64 y.2.1),(4,.i .i64 y.2.2)],[],2⟩
end
section
variable{T:Tbl}
theorem zkt(N:Nat):∀y:Nat×Nat×Nat,((y.2.2=16∨y.2.2=8∨y.2.2=4∨y.2.2=2∨y.2.2=1∨y.2.2=0)∧y.1<2^(2*y.2.2)*(if y.2.2=0 then 2 else 1)∧y.2.1+Za6 y.1=N∧y.2.1+2*y.2.2≤32) →
  ∃r,(∃(x n:Nat),r=(Ex.n,(⟨[(0,u32 x),(3,.i .i64 (n:Int))],[],2⟩:St))∧x<2∧n+Za6 x=N∧n≤32)∧Zp T 0 0 (.norm false [0,3]) l91_0 (Zi2 y)=some r:=by
 refine zaz _ _ (fun y=>y.2.2) _ ?_
 rintro⟨x,n,s⟩ ⟨hs,hx,hN,hn⟩
 simp only at hs hx hN hn;by_cases h0:s=0
 ·right;subst h0;refine⟨_,⟨x,n,rfl,by simpa using hx,hN,by omega⟩,?_,?_⟩<;>simp[l91_0,Zi2]
 ·left;by_cases h1:x/2^s=0
  ·refine⟨(x,n,s/2),⟨?_,?_,hN,by simp only;omega⟩,by simp only;omega,?_⟩
   ·rcases hs with rfl | rfl | rfl | rfl | rfl | rfl<;>simp
   ·have h2:x<2^s:=by
     rcases Yt x (2^s) with h | h
     ·exact h
     ·have:=Nat.div_pos h (Ybn (by decide));omega
    rcases hs with rfl | rfl | rfl | rfl | rfl | rfl<;>simp at h2 ⊢<;>omega
   ·rcases hs with rfl | rfl | rfl | rfl | rfl | rfl<;>simp at h1<;>simp[l91_0,Zi2,h1]at h0 ⊢
  ·refine⟨(x/2^s,n+s,s/2),⟨?_,?_,?_,by simp only;omega⟩,by simp only;omega,?_⟩
   ·rcases hs with rfl | rfl | rfl | rfl | rfl | rfl<;>simp
   ·rcases hs with rfl | rfl | rfl | rfl | rfl | rfl<;>simp at hx h0 ⊢<;>omega
   ·have:=zjr h1;simp only;omega
   ·have hw:IntKind.wrap .i64 ((n:Int)+s)=((n+s:Nat):Int):=zac _ (by omega);rcases hs with rfl | rfl | rfl | rfl | rfl | rfl<;>simp at h1 hw<;>simp[l91_0,Zi2,h1,hw]at h0 ⊢
end
section
variable{T:Tbl}[Z5 T]
theorem zqv(x:UInt32):Za T 91 [u32 x.toNat]=some (.i .i64 (Za6 x.toNat)):=by
 have hx:=zam x;obtain⟨_,⟨y,n,rfl,h1,h2,h3⟩,hl⟩:=zkt (T:=T) (Za6 x.toNat) (x.toNat,0,16) ⟨.inl rfl,by simp,by simp,by simp⟩;have hw:IntKind.wrap .i64 (y:Int)=y:=zac _ (by omega);have hw2:IntKind.wrap .i64 ((n:Int)+y)=((n+y:Nat):Int):=zac _ (by omega);have h4:=zsu h1;rw[zab Z5.h91 rfl,b91];simp;unfold Zi2 at hl;simp at hl;rw[hl];simp[hw,hw2];omega
end
def l86_0:AX:=
 (.note
 (.seq
 (.seq
 (.reg [mv 6 3,rg 7 (.bin .gtr (.t 6) (.c (.i .i64 0))),mv 8 7,gd 9 8 true (.mov (.t 0)),gd 10 8 true (.mov (.t 3)),gd 11 8 true (.bin .sub (.t 10) (.c (.i .i64 1))),gd 12 8 true (.iad 1 (.t 9) (.t 11)),gd 13 8 true (.load none (.t 12)),gd 14 8 true (.bin .eql (.t 13) (.c (u32 0))),rg 15 (.pick (.t 8) (.t 14) (.c (.b false)))])
 (.cond (.t 15)
 .skip
 (.exit 0)))
 (.block 1
 (.reg [mv 16 3,rg 17 (.bin .sub (.t 16) (.c (.i .i64 1))),mv 3 17])))
 (.norm false [0,3]))
def b86:AX:=
 (.seq
 (.reg [rg 2 (.mov (.c (.sl [] .nl)))])
 (.seq
 (.reg [mv 4 0,rg 5 (.len (.t 4)),mv 3 5])
 (.seq
 (.lp 0 (.norm false [0,3]) l86_0 (.norm false [0,3]))
 (.seq
 (.reg [mv 18 0,mv 19 3,rg 20 (.slc 1 (.t 18) none (some (.t 19)) none),mv 2 20])
 (.pre (.norm false [2]) .ret)))))
def b106:AX:=
 (.seq
 (.reg [rg 4 (.mov (.c (.sl [] .nl)))])
 (.seq
 (.reg [mv 6 0,rg 7 (.len (.t 6)),mv 8 1,rg 9 (.bin .add (.t 7) (.t 8)),rg 10 (.mks 1 [(u32 0)] (.t 9) (.t 9)),mv 5 10])
 (.seq
 (.reg [mv 11 5,mv 12 0,rg 13 (.xop .cpy [(.t 11),(.t 12)])])
 (.seq
 (.reg [mv 14 5,mv 4 14])
 (.pre (.norm false [4]) .ret)))))
def b71:AX:=
 (.seq
 (.reg [rg 2 (.mov (.c (.sl [] .nl)))])
 (.seq
 (.reg [mv 3 0,rg 4 (.call 86 [(.t 3)]),rg 5 (.call 106 [(.t 4),(.c (.i .i64 0))]),mv 2 5])
 (.pre (.norm false [2]) .ret)))
def b72:AX:=
 (.seq
 (.reg [rg 2 (.mov (.c (.sl [] .nl)))])
 (.seq
 (.reg [mv 3 0,rg 4 (.conv .u32 (.t 3)),mv 5 0,rg 6 (.bin .shr (.t 5) (.c (u64 32))),rg 7 (.conv .u32 (.t 6)),rg 8 (.bsl 1 [(u32 0)] 2 [(0,(.t 4)),(1,(.t 7))]),rg 9 (.call 86 [(.t 8)]),mv 2 9])
 (.pre (.norm false [2]) .ret)))
def l73_0:AX:=
 (.note
 (.seq
 (.reg [rg 15 (.bin .lss (.t 14) (.t 13))])
 (.seq
 (.cond (.t 15)
 .skip
 (.exit 0))
 (.seq
 (.block 1
 (.seq
 (.reg [mv 16 14,rg 17 (.iad 1 (.t 12) (.t 14)),rg 18 (.load none (.t 17)),mv 5 16,mv 6 18])
 (.reg [mv 19 4,mv 20 6,rg 21 (.conv .u64 (.t 20)),mv 22 5,rg 23 (.bin .mul (.c (.i .i64 32)) (.t 22)),rg 24 (.bin .shl (.t 21) (.t 23)),rg 25 (.bin .or (.t 19) (.t 24)),mv 4 25])))
 (.reg [rg 26 (.bin .add (.t 14) (.c (.i .i64 1))),mv 14 26]))))
 (.norm false [4,12,13,14]))
def b73:AX:=
 (.seq
 (.reg [rg 2 (.mov (.c (u64 0))),rg 3 (.mov (.c (.b false)))])
 (.seq
 (.reg [mv 7 0,rg 8 (.call 86 [(.t 7)]),mv 0 8])
 (.seq
 (.seq
 (.reg [mv 9 0,rg 10 (.len (.t 9)),rg 11 (.bin .gtr (.t 10) (.c (.i .i64 2)))])
 (.cond (.t 11)
 (.seq
 (.reg [rg 2 (.mov (.c (u64 0))),rg 3 (.mov (.c (.b false)))])
 (.pre (.norm false [2,3]) .ret))
 .skip))
 (.seq
 (.reg [rg 4 (.mov (.c (u64 0)))])
 (.seq
 (.seq
 (.reg [mv 12 0,rg 13 (.len (.t 12)),rg 14 (.mov (.c (.i .i64 0)))])
 (.lp 0 (.norm false [4,12,13,14]) l73_0 (.norm false [4])))
 (.seq
 (.reg [mv 27 4,mv 2 27,rg 3 (.mov (.c (.b true)))])
 (.pre (.norm false [2,3]) .ret)))))))
def b70:AX:=
 (.seq
 (.reg [rg 2 (.mov (.c (.b false)))])
 (.seq
 (.reg [mv 3 0,rg 4 (.call 86 [(.t 3)]),rg 5 (.len (.t 4)),rg 6 (.bin .eql (.t 5) (.c (.i .i64 0))),mv 2 6])
 (.pre (.norm false [2]) .ret)))
def l87_0:AX:=
 (.note
 (.seq
 (.seq
 (.reg [mv 25 5,rg 26 (.bin .geq (.t 25) (.c (.i .i64 0)))])
 (.cond (.t 26)
 .skip
 (.exit 1)))
 (.seq
 (.block 2
 (.block 3
 (.seq
 (.drawT [mv 30 0,mv 31 5,rg 32 (.iad 1 (.t 30) (.t 31)),rg 33 (.load none (.t 32)),mv 34 1,mv 35 5,rg 36 (.iad 1 (.t 34) (.t 35)),rg 37 (.load none (.t 36))]
 [rg 38 (.bin .lss (.t 33) (.t 37)),mv 29 38])
 (.cond (.t 29)
 (.seq
 (.reg [rg 4 (.mov (.c (.i .i64 (-1))))])
 (.pre (.norm false [4]) .ret))
 (.seq
 (.drawT [mv 40 0,mv 41 5,rg 42 (.iad 1 (.t 40) (.t 41)),rg 43 (.load none (.t 42)),mv 44 1,mv 45 5,rg 46 (.iad 1 (.t 44) (.t 45)),rg 47 (.load none (.t 46))]
 [rg 48 (.bin .gtr (.t 43) (.t 47)),mv 39 48])
 (.cond (.t 39)
 (.seq
 (.reg [rg 4 (.mov (.c (.i .i64 1)))])
 (.pre (.norm false [4]) .ret))
 .skip))))))
 (.reg [mv 27 5,rg 28 (.bin .sub (.t 27) (.c (.i .i64 1))),mv 5 28])))
 (.norm false [0,1,5]))
def b87:AX:=
 (.seq
 (.reg [rg 4 (.mov (.c (.i .i64 0)))])
 (.seq
 (.reg [mv 6 0,rg 7 (.call 86 [(.t 6)]),mv 8 1,rg 9 (.call 86 [(.t 8)]),mv 0 7,mv 1 9])
 (.seq
 (.block 0
 (.seq
 (.reg [mv 11 0,rg 12 (.len (.t 11)),mv 13 1,rg 14 (.len (.t 13)),rg 15 (.bin .lss (.t 12) (.t 14)),mv 10 15])
 (.cond (.t 10)
 (.seq
 (.reg [rg 4 (.mov (.c (.i .i64 (-1))))])
 (.pre (.norm false [4]) .ret))
 (.seq
 (.reg [mv 17 0,rg 18 (.len (.t 17)),mv 19 1,rg 20 (.len (.t 19)),rg 21 (.bin .gtr (.t 18) (.t 20)),mv 16 21])
 (.cond (.t 16)
 (.seq
 (.reg [rg 4 (.mov (.c (.i .i64 1)))])
 (.pre (.norm false [4]) .ret))
 .skip)))))
 (.seq
 (.seq
 (.reg [mv 22 0,rg 23 (.len (.t 22)),rg 24 (.bin .sub (.t 23) (.c (.i .i64 1))),mv 5 24])
 (.lp 1 (.norm false [0,1,5]) l87_0 (.norm false [])))
 (.seq
 (.reg [rg 4 (.mov (.c (.i .i64 0)))])
 (.pre (.norm false [4]) .ret))))))
def l85_0:AX:=
 (.note
 (.seq
 (.reg [rg 21 (.bin .lss (.t 20) (.t 19))])
 (.seq
 (.cond (.t 21)
 .skip
 (.exit 0))
 (.seq
 (.block 1
 (.seq
 (.reg [mv 22 20,mv 7 22])
 (.seq
 (.reg [rg 8 (.mov (.c (u32 0)))])
 (.seq
 (.seq
 (.reg [mv 23 7,mv 24 1,rg 25 (.len (.t 24)),rg 26 (.bin .lss (.t 23) (.t 25))])
 (.cond (.t 26)
 (.reg [mv 27 1,mv 28 7,rg 29 (.iad 1 (.t 27) (.t 28)),rg 30 (.load none (.t 29)),mv 8 30])
 .skip))
 (.reg [mv 32 5,mv 33 7,mv 34 0,mv 35 7,rg 36 (.iad 1 (.t 34) (.t 35)),rg 37 (.load none (.t 36)),mv 38 8,mv 39 6,rg 40 (.call 115 [(.t 37),(.t 38),(.t 39)]),mv 31 40,rg 41 (.ext (.t 31) 0),rg 42 (.ext (.t 31) 1),rg 43 (.iad 1 (.t 32) (.t 33)),so (.store 1 (.t 43) (.t 41)),mv 6 42])))))
 (.reg [rg 44 (.bin .add (.t 20) (.c (.i .i64 1))),mv 20 44]))))
 (.norm false [0,1,5,6,19,20]))
def b85:AX:=
 (.seq
 (.reg [rg 4 (.mov (.c (.sl [] .nl)))])
 (.seq
 (.seq
 (.reg [mv 9 0,rg 10 (.len (.t 9)),mv 11 1,rg 12 (.len (.t 11)),rg 13 (.bin .lss (.t 10) (.t 12))])
 (.cond (.t 13)
 (.reg [mv 14 1,mv 15 0,mv 0 14,mv 1 15])
 .skip))
 (.seq
 (.reg [mv 16 0,rg 17 (.call 2106 [(.t 16),(.c (.i .i64 1))]),mv 5 17])
 (.seq
 (.reg [rg 6 (.mov (.c (u32 0)))])
 (.seq
 (.seq
 (.reg [mv 18 0,rg 19 (.len (.t 18)),rg 20 (.mov (.c (.i .i64 0)))])
 (.lp 0 (.norm false [0,1,5,6,19,20]) l85_0 (.norm false [0,5,6])))
 (.seq
 (.reg [mv 45 5,mv 46 0,rg 47 (.len (.t 46)),mv 48 6,rg 49 (.iad 1 (.t 45) (.t 47)),so (.store 1 (.t 49) (.t 48))])
 (.seq
 (.reg [mv 50 5,rg 51 (.call 86 [(.t 50)]),mv 4 51])
 (.pre (.norm false [4]) .ret))))))))
def l56_0:AX:=
 (.note
 (.seq
 (.reg [rg 9 (.bin .lss (.t 8) (.t 7))])
 (.seq
 (.cond (.t 9)
 .skip
 (.exit 0))
 (.seq
 (.block 1
 (.seq
 (.reg [rg 10 (.iad 1 (.t 6) (.t 8)),rg 11 (.load none (.t 10)),mv 5 11])
 (.reg [mv 12 3,mv 13 5,rg 14 (.call 86 [(.t 13)]),rg 15 (.call 85 [(.t 12),(.t 14)]),mv 3 15])))
 (.reg [rg 16 (.bin .add (.t 8) (.c (.i .i64 1))),mv 8 16]))))
 (.norm false [3,6,7,8]))
def b56:AX:=
 (.seq
 (.reg [rg 2 (.mov (.c (.sl [] .nl)))])
 (.seq
 (.reg [rg 3 (.mov (.c (.sl [] .nl)))])
 (.seq
 (.seq
 (.reg [mv 6 0,rg 7 (.len (.t 6)),rg 8 (.mov (.c (.i .i64 0)))])
 (.lp 0 (.norm false [3,6,7,8]) l56_0 (.norm false [3])))
 (.seq
 (.reg [mv 17 3,mv 2 17])
 (.pre (.norm false [2]) .ret)))))
def l88_0:AX:=
 (.note
 (.seq
 (.reg [rg 23 (.bin .lss (.t 22) (.t 21))])
 (.seq
 (.cond (.t 23)
 .skip
 (.exit 0))
 (.seq
 (.block 1
 (.seq
 (.reg [mv 24 22,mv 8 24])
 (.seq
 (.reg [rg 9 (.mov (.c (u32 0)))])
 (.seq
 (.seq
 (.reg [mv 25 8,mv 26 1,rg 27 (.len (.t 26)),rg 28 (.bin .lss (.t 25) (.t 27))])
 (.cond (.t 28)
 (.reg [mv 29 1,mv 30 8,rg 31 (.iad 1 (.t 29) (.t 30)),rg 32 (.load none (.t 31)),mv 9 32])
 .skip))
 (.reg [mv 34 6,mv 35 8,mv 36 0,mv 37 8,rg 38 (.iad 1 (.t 36) (.t 37)),rg 39 (.load none (.t 38)),mv 40 9,mv 41 7,rg 42 (.call 116 [(.t 39),(.t 40),(.t 41)]),mv 33 42,rg 43 (.ext (.t 33) 0),rg 44 (.ext (.t 33) 1),rg 45 (.iad 1 (.t 34) (.t 35)),so (.store 1 (.t 45) (.t 43)),mv 7 44])))))
 (.reg [rg 46 (.bin .add (.t 22) (.c (.i .i64 1))),mv 22 46]))))
 (.norm false [0,1,6,7,21,22]))
def b88:AX:=
 (.seq
 (.reg [rg 4 (.mov (.c (.sl [] .nl))),rg 5 (.mov (.c (.b false)))])
 (.seq
 (.reg [mv 10 0,rg 11 (.call 86 [(.t 10)]),mv 12 1,rg 13 (.call 86 [(.t 12)]),mv 0 11,mv 1 13])
 (.seq
 (.seq
 (.reg [mv 14 0,mv 15 1,rg 16 (.call 87 [(.t 14),(.t 15)]),rg 17 (.bin .lss (.t 16) (.c (.i .i64 0)))])
 (.cond (.t 17)
 (.seq
 (.reg [rg 4 (.mov (.c (.sl [] .nl))),rg 5 (.mov (.c (.b false)))])
 (.pre (.norm false [4,5]) .ret))
 .skip))
 (.seq
 (.reg [mv 18 0,rg 19 (.call 2106 [(.t 18),(.c (.i .i64 0))]),mv 6 19])
 (.seq
 (.reg [rg 7 (.mov (.c (u32 0)))])
 (.seq
 (.seq
 (.reg [mv 20 0,rg 21 (.len (.t 20)),rg 22 (.mov (.c (.i .i64 0)))])
 (.lp 0 (.norm false [0,1,6,7,21,22]) l88_0 (.norm false [6])))
 (.seq
 (.reg [mv 47 6,rg 48 (.call 86 [(.t 47)]),mv 4 48,rg 5 (.mov (.c (.b true)))])
 (.pre (.norm false [4,5]) .ret))))))))
def b57:AX:=
 (.seq
 (.reg [rg 4 (.mov (.c (.sl [] .nl))),rg 5 (.mov (.c (.i .i64 0)))])
 (.seq
 (.reg [mv 9 0,mv 10 1,rg 11 (.call 87 [(.t 9),(.t 10)]),mv 6 11])
 (.seq
 (.seq
 (.reg [mv 12 6,rg 13 (.bin .lss (.t 12) (.c (.i .i64 0)))])
 (.cond (.t 13)
 (.reg [mv 14 1,mv 15 0,mv 0 14,mv 1 15])
 .skip))
 (.seq
 (.reg [mv 17 0,mv 18 1,rg 19 (.call 88 [(.t 17),(.t 18)]),mv 16 19,rg 20 (.ext (.t 16) 0),rg 21 (.ext (.t 16) 1),mv 7 20,mv 8 21])
 (.seq
 (.reg [mv 22 7,mv 23 6,mv 4 22,mv 5 23])
 (.pre (.norm false [4,5]) .ret))))))
def b2106:AX:=
 (.seq
 (.reg [rg 4 (.mov (.c (.sl [] .nl)))])
 (.seq
 (.reg [mv 6 0,rg 7 (.len (.t 6)),mv 8 1,rg 9 (.bin .add (.t 7) (.t 8)),rg 10 (.mks 1 [(u32 0)] (.t 9) (.t 9)),mv 5 10])
 (.seq
 (.reg [mv 11 5,mv 12 0,rg 13 (.xop .cpy [(.t 11),(.t 12)])])
 (.seq
 (.reg [mv 14 5,mv 4 14])
 (.pre (.norm false [4]) .ret)))))
def row86:AFx:=⟨1,21,[.t 2],b86,none,false⟩
def row106:AFx:=⟨2,15,[.t 4],b106,none,false⟩
def row71:AFx:=⟨1,6,[.t 2],b71,none,false⟩
def row72:AFx:=⟨1,10,[.t 2],b72,none,false⟩
def row73:AFx:=⟨1,28,[.t 2,.t 3],b73,none,false⟩
def row70:AFx:=⟨1,7,[.t 2],b70,none,false⟩
def row87:AFx:=⟨2,49,[.t 4],b87,none,false⟩
def row85:AFx:=⟨2,52,[.t 4],b85,none,false⟩
def row56:AFx:=⟨1,18,[.t 2],b56,none,false⟩
def row88:AFx:=⟨2,49,[.t 4,.t 5],b88,none,false⟩
def row57:AFx:=⟨2,24,[.t 4,.t 5],b57,none,false⟩
def row2106:AFx:=⟨2,15,[.t 4],b2106,(some [false,false]),false⟩
class Zo (T:Tbl):Prop extends Z5 T where
 h86:T 86=some row86
 h106:T 106=some row106
 h71:T 71=some row71
 h72:T 72=some row72
 h73:T 73=some row73
 h70:T 70=some row70
 h87:T 87=some row87
 h85:T 85=some row85
 h56:T 56=some row56
 h88:T 88=some row88
 h57:T 57=some row57
 h2106:T 2106=some row2106
section
variable{T:Tbl}[Zo T]{d:Option Nat}{st:St}
@[simp] theorem x86(xs:List AV):Zc (orc T) T 86 xs d st=cP T 86 false xs d st:=zaa Zo.h86
@[simp] theorem x106(xs:List AV):Zc (orc T) T 106 xs d st=cP T 106 false xs d st:=zaa Zo.h106
@[simp] theorem x71(xs:List AV):Zc (orc T) T 71 xs d st=cP T 71 false xs d st:=zaa Zo.h71
@[simp] theorem y71{e:Env}{h:Heap}{older:List Heap}(args:List Opd):opD (orc T) T (.call 71 args) e h older=dR (Za T 71 ((args.map (ev e.get)).map (wkIf false))) (args.map (ev e.get)):=zau Zo.h71
@[simp] theorem x72(xs:List AV):Zc (orc T) T 72 xs d st=cP T 72 false xs d st:=zaa Zo.h72
@[simp] theorem y72{e:Env}{h:Heap}{older:List Heap}(args:List Opd):opD (orc T) T (.call 72 args) e h older=dR (Za T 72 ((args.map (ev e.get)).map (wkIf false))) (args.map (ev e.get)):=zau Zo.h72
@[simp] theorem x73(xs:List AV):Zc (orc T) T 73 xs d st=cP T 73 false xs d st:=zaa Zo.h73
@[simp] theorem x70(xs:List AV):Zc (orc T) T 70 xs d st=cP T 70 false xs d st:=zaa Zo.h70
@[simp] theorem x87(xs:List AV):Zc (orc T) T 87 xs d st=cP T 87 false xs d st:=zaa Zo.h87
@[simp] theorem x85(xs:List AV):Zc (orc T) T 85 xs d st=cP T 85 false xs d st:=zaa Zo.h85
@[simp] theorem y56{e:Env}{h:Heap}{older:List Heap}(args:List Opd):opD (orc T) T (.call 56 args) e h older=dR (Za T 56 ((args.map (ev e.get)).map (wkIf false))) (args.map (ev e.get)):=zau Zo.h56
@[simp] theorem x88(xs:List AV):Zc (orc T) T 88 xs d st=cP T 88 false xs d st:=zaa Zo.h88
@[simp] theorem x57(xs:List AV):Zc (orc T) T 57 xs d st=cP T 57 false xs d st:=zaa Zo.h57
@[simp] theorem x2106(xs:List AV):Zc (orc T) T 2106 xs d st=bL (Zfj st.heap [false,false] xs) fun ys=>Ze2 ys (Zk (Za1 [false,false] xs) st.heap) (Zc5 (Zk (Za1 [false,false] xs) st.heap) 40 (Zcs [false,false] xs) []) T 2106 false d st:=zao Zo.h2106
end
def val:List UInt32→Nat
 | []=>0
 | x::l=>x.toNat+4294967296*val l
def ofN(n:Nat):List UInt32:=if n=0 then [] else w32 n::ofN (n/4294967296)
termination_by n
decreasing_by omega
def Zi5(l:List UInt32):Prop:=∀x,l.getLast? = some x→x.toNat≠0
@[simp] theorem zcb:val []=0:=rfl
@[simp] theorem zas(x:UInt32)(l:List UInt32):val (x::l)=x.toNat+4294967296*val l:=rfl
@[simp] theorem zk1:ofN 0=[]:=by rw[ofN];rfl
theorem zid{n:Nat}(h:n≠0):ofN n=w32 n::ofN (n/4294967296):=by rw[ofN,if_neg h]
theorem zdn(n:Nat):(w32 n).toNat=n%4294967296:=zbr n
theorem z1e{x:UInt32}{n:Nat}(h:n%4294967296=x.toNat):w32 n=x:=by
 rw[←UInt32.toNat_inj,zdn,h]
theorem zae(n:Nat):val (ofN n)=n:=by
 induction n using Nat.strongRecOn with
 | _ n ih=>
  by_cases h:n=0
  ·subst h;simp
  ·rw[zid h,zas,ih (n/4294967296) (by omega),zdn];omega
theorem zak(l m:List UInt32):val (l++m)=val l+4294967296^l.length*val m:=by
 induction l with
 | nil=>simp
 | cons x l ih=>
  simp only[Ybk,zas,ih,Yi,Yai,Yao,Yaq];congr 2;rw[←Yav,Yam 4294967296 (4294967296^l.length)]
theorem za2(l:List UInt32):val l<4294967296^l.length:=by
 induction l with
 | nil=>simp
 | cons x l ih=>
  have:=zam x;simp only[zas,Yi,Yai];omega
theorem zjz{x:UInt32}{l:List UInt32}(h:Zi5 (x::l)):Zi5 l:=by
 intro y hy;apply h;cases l with
 | nil=>simp at hy
 | cons z l=>rw[List.getLast?_cons_cons];exact hy
theorem z0d{l:List UInt32}(h:Zi5 l):val l=0↔l=[]:=by
 constructor
 ·intro h0
  induction l with
  | nil=>rfl
  | cons x l ih=>
   exfalso;simp only[zas]at h0;have h1:=ih (zjz h) (by omega);subst h1;exact h x (by simp) (by omega)
 ·rintro rfl;rfl
theorem z36{l:List UInt32}(h:Zi5 l):ofN (val l)=l:=by
 induction l with
 | nil=>simp
 | cons x l ih=>
  have hx:=zam x;have hne:val (x::l)≠0:=fun h0=>by have:=(z0d h).1 h0;cases this
  rw[zid hne];congr 1
  ·exact z1e (by simp only[zas];omega)
  ·rw[show val (x::l)/4294967296=val l by simp only[zas];omega];exact ih (zjz h)
theorem zba{n:Nat}:ofN n=[]↔n=0:=⟨fun h=>by rw[←zae n,h];rfl,fun h=>by rw[h];simp⟩
theorem ztf{a:List UInt32}{n:Nat}(hn:n≤a.length)(h0:∀(i:Nat) (x:UInt32),n≤i→a[i]? = some x→x.toNat=0)(h1:∀x:UInt32,0<n→a[n-1]? = some x→x.toNat≠0):a.take n=ofN (val a):=by
 have hr:Zi5 (a.take n):=by
  intro x hx;have hn0:0<n:=by
   rcases Ybj n with h | h
   ·subst h;simp at hx
   ·exact h
  apply h1 x hn0;rw[List.getLast?_eq_getElem?,Y0,Yb4 hn,Y9,if_pos (by omega)]at hx;exact hx
 have hz:∀l:List UInt32,(∀(i:Nat) (x:UInt32),l[i]? = some x→x.toNat=0)→val l=0:=by
  intro l
  induction l with
  | nil=>intro _;rfl
  | cons x l ih=>
   intro h;have h2:=h 0 x rfl;have h3:=ih fun i y hy=>h (i+1) y (by simpa using hy);simp only[zas,h2,h3]
 have hv:val a=val (a.take n):=by
  have e:=zak (a.take n) (a.drop n);rw[Yaw,hz (a.drop n) (fun i x hx=>h0 (n+i) x (by omega) (by rw[Yau]at hx;exact hx))]at e;omega
 rw[hv,z36 hr]
theorem zk2(a:List UInt32):∃n,n≤a.length∧a.take n=ofN (val a)∧(∀(i:Nat) (x:UInt32),n≤i→a[i]? = some x→x.toNat=0)∧(∀x:UInt32,0<n→a[n-1]? = some x→x.toNat≠0):=by
 have key:∀k,k≤a.length→(∀(i:Nat) (x:UInt32),k≤i→a[i]? = some x→x.toNat=0)→∃n,n≤k∧(∀(i:Nat) (x:UInt32),n≤i→a[i]? = some x→x.toNat=0)∧(∀x:UInt32,0<n→a[n-1]? = some x→x.toNat≠0):=by
  intro k
  induction k with
  | zero=>intro _ h;exact⟨0,Yd _,h,fun x hx=>by omega⟩
  | succ k ih=>
   intro hk h;by_cases hz:(a[k]'(by omega)).toNat=0
   ·obtain⟨n,h1,h2,h3⟩:=ih (by omega) fun i x hi hx=>by
     rcases Yt k i with h4 | h4
     ·exact h i x h4 hx
     ·have:i=k:=by omega
      subst this;rw[Ya (by omega)]at hx;cases hx;exact hz
    exact⟨n,by omega,h2,h3⟩
   ·refine⟨k+1,Yd _,h,fun x _ hx=>?_⟩;rw[Nat.add_sub_cancel,Ya (by omega)]at hx;cases hx;exact hz
 obtain⟨n,h1,h2,h3⟩:=key a.length (Yd _) fun i x hi hx=>by rw[List.getElem?_eq_none hi]at hx;cases hx
 exact⟨n,h1,ztf h1 h2 h3,h2,h3⟩
theorem zad(a:List UInt32):(ofN (val a)).length≤a.length:=by
 obtain⟨n,h1,h2,_⟩:=zk2 a;rw[←h2,Y0];omega
theorem zap{n k:Nat}(h:n<4294967296^k):(ofN n).length≤k:=by
 induction k generalizing n with
 | zero=>
  have:n=0:=by simp at h;omega
  subst this;simp
 | succ k ih=>
  by_cases h0:n=0
  ·subst h0;simp
  ·rw[zid h0,Yi];have:=ih (n:=n/4294967296) (by rw[Yai]at h;omega);omega
theorem zaf{a:List UInt32}{i:Nat}{x:UInt32}(h:a[i]? = some x):val (a.take (i+1))=val (a.take i)+4294967296^i*x.toNat:=by
 have hi:i<a.length:=by
  rcases Yt i a.length with h1 | h1
  ·exact h1
  ·rw[List.getElem?_eq_none h1]at h;cases h
 rw[Ybq,h,zak];simp only[Yb8,zas,zcb,Ya9,Yab,Y0];rw[Yb4 (by omega)]
theorem zcl{a:List UInt32}{i:Nat}(x:UInt32)(h:i<a.length):val ((a.set i x).take (i+1))=val (a.take i)+4294967296^i*x.toNat:=by
 rw[zaf (x:=x) (by rw[Ycr h]),List.take_set_of_le (Yd i)]
theorem zbk{a:List UInt32}{i:Nat}(h:a.length≤i):val (a.take i)=val a:=by rw[Yb h]
theorem zdo(n:Nat):val (List.replicate n 0)=0:=by
 induction n with
 | zero=>rfl
 | succ n ih=>simp[Ycl,ih]
theorem zgb{m n:Nat}(h:(ofN m).length<(ofN n).length):m<n:=by
 rcases Yt m n with h1 | h1
 ·exact h1
 ·exfalso;have h2:=za2 (ofN m);rw[zae]at h2;have:=zap (show n<4294967296^(ofN m).length by omega);omega
theorem zbb{m n:Nat}(h:m≤n):(ofN m).length≤(ofN n).length:=by
 rcases Yt (ofN n).length (ofN m).length with h1 | h1
 ·have:=zgb h1;omega
 ·exact h1
def Zfm(x y:Nat):Int:=if x<y then -1 else if y<x then 1 else 0
theorem zxf{a b:List UInt32}{i:Nat}{x y:UInt32}(hx:a[i]? = some x)(hy:b[i]? = some y)(h:x.toNat<y.toNat):val (a.take (i+1))<val (b.take (i+1)):=by
 rw[zaf hx,zaf hy];have h1:=za2 (a.take i);have h2:4294967296^(a.take i).length≤4294967296^i:=Y7 (by decide) (by simp;omega);have h3:=Yaz (4294967296^i) (show x.toNat+1≤y.toNat from h);rw[Yao]at h3;omega
theorem zk3{x y c:Nat}(hx:x<4294967296)(hy:y<4294967296)(hc:c≤1) :
  (x+8589934592-(y+c))%4294967296+(y+c)=x+4294967296*(2-(x+8589934592-(y+c))/4294967296)∧2-(x+8589934592-(y+c))/4294967296≤1:=by omega
def lls(l:List (List UInt32)):List (List AV):=l.map fun a=>[.sl (Zb a) .an]
@[simp] theorem z6f(l:List (List UInt32)):(lls l).length=l.length:=by simp[lls]
@[simp] theorem zalm(l:List (List UInt32)):wkL (lls l)=lls l:=by rw[zb4];simp[lls,wkR]
@[simp] theorem z38(l:List (List UInt32))(i:Nat)(h:i<(lls l).length):(lls l)[i]=[.sl (Zb (l[i]'(by simpa using h))) .an]:=by simp[lls]
section
variable{T:Tbl}
theorem zwo(a:List UInt32)(hl:a.length<9223372036854775808){n:Nat}(hn:n≤a.length)(h0:∀(i:Nat) (x:UInt32),n≤i→a[i]? = some x→x.toNat=0)(h1:∀x:UInt32,0<n→a[n-1]? = some x→x.toNat≠0) :
  ∀m:Nat,(n≤m∧m≤a.length)→Zp T 0 0 (.norm false [0,3]) l86_0 ⟨[(0,.sl (Zb a) .an),(3,.i .i64 (m:Int))],[],2⟩=some (.n,⟨[(0,.sl (Zb a) .an),(3,.i .i64 (n:Int))],[],2⟩):=by
 refine zbm (fun m:Nat=>⟨[(0,.sl (Zb a) .an),(3,.i .i64 (m:Int))],[],2⟩) _ (fun m=>m) _ ?_
 rintro m ⟨hm,hma⟩
 by_cases h2:m=0
 ·right;subst h2;have:n=0:=by omega
  subst this;constructor<;>simp[l86_0]
 ·have hw:IntKind.wrap .i64 ((m:Int)-1)=((m-1:Nat):Int):=by rw[zac _ (by omega)];omega
  have hm1:m-1<a.length:=by omega
  have hg:a[m-1]? = some (a[m-1]'hm1):=Ya hm1;have hpos:0<m:=by omega
  by_cases h3:m=n
  ·right;subst h3;have hx:=h1 _ hpos hg;constructor<;>simp[l86_0,hpos,hw,hm1,hx]
  ·left;refine⟨m-1,⟨by omega,by omega⟩,by show m-1<m;omega,?_,rfl⟩;have hx:=h0 (m-1) _ (by omega) hg;simp[l86_0,hpos,hw,hm1,hx]
end
section
variable{T:Tbl}[Zo T]
theorem zbo(a:List UInt32)(hl:a.length≤4294967296):Za T 86 [.sl (Zb a) .an]=some (.sl (Zb (ofN (val a))) .an):=by
 obtain⟨n,h1,h2,h3,h4⟩:=zk2 a;have hr:=zwo (T:=T) a (by omega) h1 h3 h4 a.length ⟨h1,Yd _⟩;rw[zab Zo.h86 rfl,b86];simp[hr,h1,h2]
theorem zwp(a:List UInt32)(m:Nat)(hl:a.length+m≤4294967296):Za T 106 [.sl (Zb a) .an,.i .i64 (m:Int)]=some (.sl (Zb (a++List.replicate m 0)) .an):=by
 have hw:IntKind.wrap .i64 ((a.length:Int)+m)=((a.length+m:Nat):Int):=zac _ (by omega);have h0:(0:Int)≤(a.length:Int)+m:=by omega
 have h2:(a.length:Int)+m≤4294967296:=by omega
 have h3:((a.length:Int)+m).toNat=a.length+m:=by omega
 rw[zab Zo.h106 rfl,b106];simp[hw,h0,h2,h3,Yb]
theorem zco(a:List UInt32)(m:Nat)(hl:a.length+m≤4294967296):Z0 T 2106 [.sl (Zb a) .an,.i .i64 (m:Int)] [] =
  some (.bs (.loc 10) 1 1 0 (a.length+m),[(.loc 10,⟨1,.own,1,Zb (a++List.replicate m 0)⟩)]):=by
 have hw:IntKind.wrap .i64 ((a.length:Int)+m)=((a.length+m:Nat):Int):=zac _ (by omega);have h0:(0:Int)≤(a.length:Int)+m:=by omega
 have h2:(a.length:Int)+m≤4294967296:=by omega
 have h3:((a.length:Int)+m).toNat=a.length+m:=by omega
 rw[zal Zo.h2106 rfl,b2106];simp[hw,h0,h2,h3]
theorem zbd(a:List UInt32)(hl:a.length≤4294967296):Za T 71 [.sl (Zb a) .an]=some (.sl (Zb (ofN (val a))) .an):=by
 have h1:=zad a;have h2:=zwp (T:=T) (ofN (val a)) 0 (by omega);simp only[Yy]at h2;rw[zab Zo.h71 rfl,b71];simp[zbo a hl,h2]
theorem zgg(n:Nat)(h:n<18446744073709551616):Za T 72 [u64 n]=some (.sl (Zb (ofN n)) .an):=by
 have e2:val [w32 n,w32 (n/4294967296)]=n:=by simp[zdn];omega
 have h2:=zbo (T:=T) [w32 n,w32 (n/4294967296)] (by simp);rw[e2]at h2;have h3:n/4294967296%4294967296=n/4294967296:=Yx (by omega);rw[zab Zo.h72 rfl,b72];simp[h3,zbn _ _ _ (show n/4294967296<4294967296 by omega),h2]
theorem zee(a:List UInt32)(hl:a.length≤4294967296):Za T 70 [.sl (Zb a) .an]=some (.b (decide (val a=0))):=by
 rw[zab Zo.h70 rfl,b70];have:((((ofN (val a)).length:Int) == 0))=decide (val a=0):=by
  rw[Ybs];simp[zba]
 simp[zbo a hl,this]
def Zgn(a b:List UInt32)(y:Nat×Nat×List UInt32):St:=
 ⟨[(0,.sl (Zb a) .an),(1,.sl (Zb b) .an),(5,.bs (.fld (.loc 17) 10) 1 1 0 (a.length+1)),(6,u32 y.2.1),(19,.i .i64 a.length),(20,.i .i64 y.1)],
  [(.fld (.loc 17) 10,⟨1,.own,1,Zb y.2.2⟩)],3⟩
theorem zm5(a b:List UInt32)(hb:b.length≤a.length)(hl:a.length≤1000000):∀y:Nat×Nat×List UInt32,
  (y.1≤a.length∧y.2.1≤1∧y.2.2.length=a.length+1∧val (y.2.2.take y.1)+4294967296^y.1*y.2.1=val (a.take y.1)+val (b.take y.1)) →
  ∃r,(∃(c:Nat) (out:List UInt32),r=(Ex.n,(⟨[(0,.sl (Zb a) .an),(5,.bs (.fld (.loc 17) 10) 1 1 0 (a.length+1)),(6,u32 c)],[(.fld (.loc 17) 10,⟨1,.own,1,Zb out⟩)],3⟩:St)) ∧
   out.length=a.length+1∧c≤1∧val (out.take a.length)+4294967296^a.length*c=val a+val b)∧Zp T 0 0 (.norm false [0,5,6]) l85_0 (Zgn a b y)=some r:=by
 refine zaz _ _ (fun y=>a.length-y.1) _ ?_
 rintro⟨i,c,out⟩ ⟨hi,hc,ho,hv⟩
 simp only at hi hc ho hv;by_cases h0:i<a.length
 ·left;have ha:a[i]? = some (a[i]'h0):=Ya h0;have hoi:i<out.length:=by omega
  have hog:out[i]? = some (out[i]'hoi):=Ya hoi;have hw:IntKind.wrap .i64 ((i:Int)+1)=((i+1:Nat):Int):=zac _ (by omega);have hc2:c<4294967296:=by omega
  have hil:(i:Int)<(a.length:Int)+1:=by omega
  have h1:=zaf ha;by_cases h2:i<b.length
  ·have hbg:b[i]? = some (b[i]'h2):=Ya h2;have h3:=zaf hbg;refine⟨(i+1,((a[i]'h0).toNat+(b[i]'h2).toNat+c)/4294967296,out.set i (w32 ((a[i]'h0).toNat+(b[i]'h2).toNat+c))),⟨by simp only;omega,?_,by simp[ho],?_⟩,by simp only;omega,?_⟩
   ·have:=zam (a[i]'h0);have:=zam (b[i]'h2);simp only;omega
   ·simp only;rw[zcl _ hoi,h1,h3,zdn,Yai];generalize 4294967296^i=p at *
    generalize (a[i]'h0).toNat=x at *
    generalize (b[i]'h2).toNat=z at *
    have e:=Yb1 (x+z+c) 4294967296;have e2:p*((x+z+c)%4294967296)+p*4294967296*((x+z+c)/4294967296)=p*(x+z+c):=by
     conv=>rhs;rw[←e]
     rw[Yao,Yav];omega
    rw[Yao,Yao]at e2;omega
   ·simp[l85_0,Zgn,h0,h2,hog,hw,hil,zd4,hc2]
  ·have h3:val (b.take (i+1))=val (b.take i):=by rw[zbk (by omega),zbk (by omega)]
   refine⟨(i+1,((a[i]'h0).toNat+0+c)/4294967296,out.set i (w32 ((a[i]'h0).toNat+0+c))),⟨by simp only;omega,?_,by simp[ho],?_⟩,by simp only;omega,?_⟩
   ·have:=zam (a[i]'h0);simp only;omega
   ·simp only;rw[zcl _ hoi,h1,h3,zdn,Yai];generalize 4294967296^i=p at *
    generalize (a[i]'h0).toNat=x at *
    have e:=Yb1 (x+0+c) 4294967296;have e2:p*((x+0+c)%4294967296)+p*4294967296*((x+0+c)/4294967296)=p*(x+0+c):=by
     conv=>rhs;rw[←e]
     rw[Yao,Yav];omega
    rw[Yao,Yao]at e2;omega
   ·simp[l85_0,Zgn,h0,h2,hog,hw,hil,zd4,hc2]
 ·right;have:i=a.length:=by omega
  subst this;rw[Yb (Yd _),Yb hb]at hv;refine⟨_,⟨c,out,rfl,ho,hc,hv⟩,?_,?_⟩<;>simp[l85_0,Zgn]
theorem zwq(a b:List UInt32)(hb:b.length≤a.length)(hl:a.length≤1000000):Za T 85 [.sl (Zb a) .an,.sl (Zb b) .an]=some (.sl (Zb (ofN (val a+val b))) .an):=by
 have hf:=zco (T:=T) a 1 (by omega);simp only[Yd8]at hf;obtain⟨_,⟨c,out,rfl,ho,hc,hv⟩,hr⟩:=zm5 (T:=T) a b hb hl (0,0,a++List.replicate 1 0) ⟨Y1 _,Y1 _,by simp,by simp⟩;unfold Zgn at hr;simp at hr;have hog:out[a.length]? = some (out[a.length]'(by omega)):=Ya _;have h1:¬ (a.length:Int)<b.length:=by omega
 have h2:¬ a.length<b.length:=by omega
 have h3:(a.length:Int)<(a.length:Int)+1:=by omega
 have hval:val (out.set a.length (w32 c))=val a+val b:=by
  rw[←Yb (l:=out.set a.length (w32 c)) (i:=a.length+1) (by simp;omega),zcl _ (by omega),zag (by omega)];exact hv
 have ht:=zbo (T:=T) (out.set a.length (w32 c)) (by simp;omega);rw[hval]at ht;have htk:List.take (a.length+1) (out.set a.length (w32 c))=out.set a.length (w32 c):=Yb (by simp;omega);rw[zab Zo.h85 rfl,b85];simp[h1,hf,hr,h3,zbn _ _ _ (show c<4294967296 by omega),htk,ht,ho]
theorem zsy(a b:List UInt32)(hb:a.length<b.length)(hl:b.length≤1000000):Za T 85 [.sl (Zb a) .an,.sl (Zb b) .an]=some (.sl (Zb (ofN (val a+val b))) .an):=by
 have hf:=zco (T:=T) b 1 (by omega);simp only[Yd8]at hf;obtain⟨_,⟨c,out,rfl,ho,hc,hv⟩,hr⟩:=zm5 (T:=T) b a (by omega) hl (0,0,b++List.replicate 1 0) ⟨Y1 _,Y1 _,by simp,by simp⟩;unfold Zgn at hr;simp at hr;have hog:out[b.length]? = some (out[b.length]'(by omega)):=Ya _;have h1:(a.length:Int)<b.length:=by omega
 have h3:(b.length:Int)<(b.length:Int)+1:=by omega
 have hval:val (out.set b.length (w32 c))=val a+val b:=by
  rw[←Yb (l:=out.set b.length (w32 c)) (i:=b.length+1) (by simp;omega),zcl _ (by omega),zag (by omega),hv,Ybi]
 have ht:=zbo (T:=T) (out.set b.length (w32 c)) (by simp;omega);rw[hval]at ht;have htk:List.take (b.length+1) (out.set b.length (w32 c))=out.set b.length (w32 c):=Yb (by simp;omega);rw[zab Zo.h85 rfl,b85];simp[h1,hf,hr,h3,zbn _ _ _ (show c<4294967296 by omega),htk,ht,ho]
theorem zzl(a b:List UInt32)(ha:a.length≤1000000)(hb:b.length≤1000000):Za T 85 [.sl (Zb a) .an,.sl (Zb b) .an]=some (.sl (Zb (ofN (val a+val b))) .an):=by
 rcases Yt a.length b.length with h | h
 ·exact zsy a b h hb
 ·exact zwq a b h ha
def Zfl(l:List (List UInt32)):Nat:=(l.map val).sum
theorem zzm(K:Nat):∀m:List (List UInt32),m.length≤1000→(∀a∈m,a.length≤K)→(ofN (Zfl m)).length≤K+1:=by
 intro m hm hw;apply zap;rw[Yai];have hp0:0<4294967296^K:=Ybn (by decide);have hall:∀a∈m,val a<4294967296^K:=fun a ha=>Yl (za2 a) (Y7 (by decide) (hw a ha));generalize 4294967296^K=p at *
 have h1:Zfl m≤m.length*p:=by
  clear hm hw
  induction m with
  | nil=>simp[Zfl]
  | cons a m ih=>
   have h2:=ih fun a ha=>hall a (Yj _ ha);have h3:=hall a Yp;simp only[Zfl,Y3,Ydu,Yi,Ybr,Ydd]at h2 ⊢;omega
 have h6:=Yae p hm;omega
theorem zzn(l:List (List UInt32))(hl:l.length≤1000)(hw:∀a∈l,a.length≤90000):∀i:Nat,i≤l.length →
  Zp T 0 0 (.norm false [3]) l56_0 ⟨[(3,.sl (Zb (ofN (Zfl (l.take i)))) .an),(6,.sl (lls l) .an),(7,.i .i64 l.length),(8,.i .i64 i)],[],2⟩=some (.n,⟨[(3,.sl (Zb (ofN (Zfl l))) .an)],[],2⟩):=by
 refine zbm (fun i:Nat=>⟨[(3,.sl (Zb (ofN (Zfl (l.take i)))) .an),(6,.sl (lls l) .an),(7,.i .i64 l.length),(8,.i .i64 i)],[],2⟩) _ (fun i=>l.length-i) _ ?_;intro i hi;by_cases h0:i<l.length
 ·left;have hg:l[i]? = some (l[i]'h0):=Ya h0;have hwr:IntKind.wrap .i64 ((i:Int)+1)=((i+1:Nat):Int):=zac _ (by omega);have hw1:=hw _ (Ys h0);have ht:=zbo (T:=T) (l[i]'h0) (by omega);have hs:=zzm 90000 (l.take i) (by simp;omega) fun a ha=>hw a (Ya3 ha);have hp:=zzl (T:=T) (ofN (Zfl (l.take i))) (ofN (val (l[i]'h0))) (by omega) (by have:=zad (l[i]'h0);omega);rw[zae,zae]at hp;have e:Zfl (l.take i)+val (l[i]'h0)=Zfl (l.take (i+1)):=by
   unfold Zfl;rw[Ybq,hg];simp only[Yb8,Yap,Y3,Yca,Yay,Ydu,List.sum_nil,Yab]
  rw[e]at hp;have hz:Zis 1 (lls l)=true:=by cases l<;>simp[lls,Zis]
  refine⟨i+1,h0,by show l.length-(i+1)<l.length-i;omega,?_,rfl⟩;simp[l56_0,h0,ht,hp,hwr]
 ·right;have:i=l.length:=by omega
  subst this;rw[Yb (Yd _)];constructor<;>simp[l56_0]
theorem zzo(l:List (List UInt32))(hl:l.length≤1000)(hw:∀a∈l,a.length≤90000):Za T 56 [.sl (lls l) .an]=some (.sl (Zb (ofN (Zfl l))) .an):=by
 have h:=zzn (T:=T) l hl hw 0 (Y1 _);simp[Zfl]at h;rw[zab Zo.h56 rfl,b56];simp[h,Zfl]
end
section
variable{T:Tbl}
theorem zzp(a b:List UInt32)(hab:a.length=b.length)(hl:a.length≤1000000):∀m:Nat,m≤a.length →
  Zp T 0 1 (.norm false []) l87_0 ⟨[(0,.sl (Zb a) .an),(1,.sl (Zb b) .an),(5,.i .i64 ((m:Int)-1))],[],2⟩ =
   if val (a.take m)<val (b.take m) then some (.r,⟨[(4,.i .i64 (-1))],[],2⟩) else if val (b.take m)<val (a.take m) then some (.r,⟨[(4,.i .i64 1)],[],2⟩) else some (.n,⟨[],[],2⟩):=by
 refine zbm (fun m:Nat=>⟨[(0,.sl (Zb a) .an),(1,.sl (Zb b) .an),(5,.i .i64 ((m:Int)-1))],[],2⟩) _ (fun m=>m) _ ?_;intro m hm;cases m with
 | zero=>
  right;constructor<;>simp[l87_0]
 | succ i=>
  have ha:a[i]? = some (a[i]'(by omega)):=Ya _;have hb:b[i]? = some (b[i]'(by omega)):=Ya _;have hia:i<a.length:=by omega
  have hib:i<b.length:=by omega
  have hw:IntKind.wrap .i64 ((i:Int)-1)=(i:Int)-1:=zac _ (by omega);rcases Ybg (a[i]'hia).toNat (b[i]'hib).toNat with h1 | h1 | h1
  ·right;have h2:=zxf ha hb h1;constructor<;>simp[l87_0,hia,hib,h1,h2]
  ·left;refine⟨i,by omega,Yv i,?_,?_⟩
   ·simp[l87_0,hia,hib,h1,hw]
   ·have e1:=zaf ha;have e2:=zaf hb;rw[e1,e2,h1];have e3:(val (a.take i)+4294967296^i*(b[i]'hib).toNat<val (b.take i)+4294967296^i*(b[i]'hib).toNat)=(val (a.take i)<val (b.take i)):=by
     apply propext;omega
    have e4:(val (b.take i)+4294967296^i*(b[i]'hib).toNat<val (a.take i)+4294967296^i*(b[i]'hib).toNat)=(val (b.take i)<val (a.take i)):=by
     apply propext;omega
    simp only[e3,e4]
  ·right;have h2:=zxf hb ha h1;have h3:¬ val (a.take (i+1))<val (b.take (i+1)):=by omega
   have h4:¬ (a[i]'hia).toNat<(b[i]'hib).toNat:=by omega
   constructor<;>simp[l87_0,hia,hib,h1,h2,h3,h4]
end
section
variable{T:Tbl}[Zo T]
theorem zf6(a b:List UInt32)(ha:a.length≤1000000)(hb:b.length≤1000000):Za T 87 [.sl (Zb a) .an,.sl (Zb b) .an]=some (.i .i64 (Zfm (val a) (val b))):=by
 have hta:=zbo (T:=T) a (by omega);have htb:=zbo (T:=T) b (by omega);have hla:=zad a;have hlb:=zad b;rw[zab Zo.h87 rfl,b87];rcases Ybg (ofN (val a)).length (ofN (val b)).length with h | h | h
 ·have h1:=zgb h;simp[hta,htb,h,Zfm,h1]
 ·have hc:=zzp (T:=T) (ofN (val a)) (ofN (val b)) h (by omega) (ofN (val a)).length (Yd _);rw[Yb (Yd _),Yb (by omega),zae,zae]at hc;have hw:IntKind.wrap .i64 (((ofN (val a)).length:Int)-1)=((ofN (val a)).length:Int)-1:=zac _ (by omega);have h1:¬ (ofN (val a)).length<(ofN (val b)).length:=by omega
  have h2:¬ (ofN (val b)).length<(ofN (val a)).length:=by omega
  simp[hta,htb,h1,h2,hw,hc,Zfm]
  repeat' split
  all_goals simp
 ·have h1:=zgb h;have h2:¬ val a<val b:=by omega
  have h3:¬ (ofN (val a)).length<(ofN (val b)).length:=by omega
  simp[hta,htb,h,Zfm,h1,h2,h3]
def Zi3(a b:List UInt32)(y:Nat×Nat×List UInt32):St:=
 ⟨[(0,.sl (Zb a) .an),(1,.sl (Zb b) .an),(6,.bs (.fld (.loc 19) 10) 1 1 0 a.length),(7,u32 y.2.1),(21,.i .i64 a.length),(22,.i .i64 y.1)],
  [(.fld (.loc 19) 10,⟨1,.own,1,Zb y.2.2⟩)],3⟩
theorem zzq(a b:List UInt32)(hb:b.length≤a.length)(hl:a.length≤1000000):∀y:Nat×Nat×List UInt32,
  (y.1≤a.length∧y.2.1≤1∧y.2.2.length=a.length∧val (y.2.2.take y.1)+val (b.take y.1)=val (a.take y.1)+4294967296^y.1*y.2.1) →
  ∃r,(∃(c:Nat) (out:List UInt32),r=(Ex.n,(⟨[(6,.bs (.fld (.loc 19) 10) 1 1 0 a.length)],[(.fld (.loc 19) 10,⟨1,.own,1,Zb out⟩)],3⟩:St)) ∧
   out.length=a.length∧c≤1∧val out+val b=val a+4294967296^a.length*c)∧Zp T 0 0 (.norm false [6]) l88_0 (Zi3 a b y)=some r:=by
 refine zaz _ _ (fun y=>a.length-y.1) _ ?_
 rintro⟨i,c,out⟩ ⟨hi,hc,ho,hv⟩
 simp only at hi hc ho hv;by_cases h0:i<a.length
 ·left;have ha:a[i]? = some (a[i]'h0):=Ya h0;have hoi:i<out.length:=by omega
  have hog:out[i]? = some (out[i]'hoi):=Ya hoi;have hw:IntKind.wrap .i64 ((i:Int)+1)=((i+1:Nat):Int):=zac _ (by omega);have hc2:c<4294967296:=by omega
  have hx:=zam (a[i]'h0);have h1:=zaf ha;have fin:∀z:Nat,z<4294967296→val (b.take (i+1))=val (b.take i)+4294967296^i*z →
    val ((out.set i (w32 ((a[i]'h0).toNat+8589934592-(z+c)))).take (i+1))+val (b.take (i+1))=val (a.take (i+1))+4294967296^(i+1)*(2-((a[i]'h0).toNat+8589934592-(z+c))/4294967296):=by
   intro z hz h3;have hs:=(zk3 hx hz hc).1;rw[zcl _ hoi,h1,h3,zdn,Yai];generalize 4294967296^i=p at *
   generalize (a[i]'h0).toNat=x at *
   generalize (x+8589934592-(z+c))%4294967296=s at *
   generalize 2-(x+8589934592-(z+c))/4294967296=d at *
   have e2:p*s+p*(z+c)=p*x+p*4294967296*d:=by rw[←Yao,hs,Yao,Yav]
   rw[Yao]at e2;omega
  by_cases h2:i<b.length
  ·have hbg:b[i]? = some (b[i]'h2):=Ya h2;have h3:=zaf hbg;refine⟨(i+1,2-((a[i]'h0).toNat+8589934592-((b[i]'h2).toNat+c))/4294967296,out.set i (w32 ((a[i]'h0).toNat+8589934592-((b[i]'h2).toNat+c)))),⟨h0,(zk3 hx (zam _) hc).2,by simp[ho],fin _ (zam _) h3⟩,by simp only;omega,?_⟩;simp[l88_0,Zi3,h0,h2,hog,hw,zfl,hc2]
  ·have h3:val (b.take (i+1))=val (b.take i)+4294967296^i*0:=by rw[zbk (by omega),zbk (by omega)];simp
   refine⟨(i+1,2-((a[i]'h0).toNat+8589934592-(0+c))/4294967296,out.set i (w32 ((a[i]'h0).toNat+8589934592-(0+c)))),⟨h0,(zk3 hx (by decide) hc).2,by simp[ho],fin 0 (by decide) h3⟩,by simp only;omega,?_⟩;simp[l88_0,Zi3,h0,h2,hog,hw,zfl,hc2]
 ·right;have:i=a.length:=by omega
  subst this;rw[Yb (Yd _),Yb hb,Yb (by omega)]at hv;refine⟨_,⟨c,out,rfl,ho,hc,hv⟩,?_,?_⟩<;>simp[l88_0,Zi3]
theorem zdm{x y:Nat}:Zfm x y<0↔x<y:=by
 unfold Zfm;split
 ·simp[*]
 ·split<;>simp[*]
theorem zwr(a b:List UInt32)(ha:a.length≤1000000)(hb:b.length≤1000000):Za T 88 [.sl (Zb a) .an,.sl (Zb b) .an] =
  some (if val a<val b then .tup [.sl [] .an,.b false] else .tup [.sl (Zb (ofN (val a-val b))) .an,.b true]):=by
 have hta:=zbo (T:=T) a (by omega);have htb:=zbo (T:=T) b (by omega);have hla:=zad a;have hlb:=zad b;have hc:=zf6 (T:=T) (ofN (val a)) (ofN (val b)) (by omega) (by omega);rw[zae,zae]at hc;rw[zab Zo.h88 rfl,b88];by_cases h:val a<val b
 ·simp[hta,htb,hc,zdm,h]
 ·have hle:=zbb (show val b≤val a by omega);have hf:=zco (T:=T) (ofN (val a)) 0 (by omega);simp only[Yy,Yab,List.replicate_zero,Ya5]at hf;obtain⟨_,⟨c,out,rfl,ho,hc1,hv⟩,hr⟩:=zzq (T:=T) (ofN (val a)) (ofN (val b)) hle (by omega) (0,0,ofN (val a)) ⟨Y1 _,Y1 _,rfl,by simp⟩;unfold Zi3 at hr;simp at hr;rw[zae,zae]at hv;have hlt:=za2 out;rw[ho]at hlt;have hc0:c=0:=by
   rcases Ybj c with h1 | h1
   ·exact h1
   ·have:c=1:=by omega
    subst this;omega
  subst hc0;have hval:val out=val a-val b:=by omega
  have ht:=zbo (T:=T) out (by omega);rw[hval]at ht;have htk:List.take (ofN (val a)).length out=out:=Yb (by omega);simp[hta,htb,hc,zdm,h,hf,hr,ho,htk,ht]
theorem z3p(a b:List UInt32)(ha:a.length≤1000000)(hb:b.length≤1000000):Za T 57 [.sl (Zb a) .an,.sl (Zb b) .an] =
  some (.tup [.sl (Zb (ofN (if val a<val b then val b-val a else val a-val b))) .an,.i .i64 (Zfm (val a) (val b))]):=by
 have hc:=zf6 (T:=T) a b ha hb;rw[zab Zo.h57 rfl,b57];by_cases h:val a<val b
 ·have h2:¬ val b<val a:=by omega
  have hs:=zwr (T:=T) b a hb ha;rw[if_neg h2]at hs;simp[hc,zdm,h,hs]
 ·have hs:=zwr (T:=T) a b ha hb;rw[if_neg h]at hs;simp[hc,zdm,h,hs]
theorem zzr{x y:Nat}(hx:x<4294967296):x ||| (y*4294967296)=x+y*4294967296:=by
 have:=Ycd (i:=32) hx y;rw[Nat.or_comm,Yam y,show (4294967296:Nat)=2^32 from rfl,←this];omega
end
section
variable{T:Tbl}
theorem zsz(l:List UInt32)(hl:l.length≤2):∀i:Nat,i≤l.length →
  Zp T 0 0 (.norm false [4]) l73_0 ⟨[(4,u64 (val (l.take i))),(12,.sl (Zb l) .an),(13,.i .i64 l.length),(14,.i .i64 i)],[],2⟩=some (.n,⟨[(4,u64 (val l))],[],2⟩):=by
 refine zbm (fun i:Nat=>⟨[(4,u64 (val (l.take i))),(12,.sl (Zb l) .an),(13,.i .i64 l.length),(14,.i .i64 i)],[],2⟩) _ (fun i=>l.length-i) _ ?_;intro i hi;by_cases h0:i<l.length
 ·left;have hg:l[i]? = some (l[i]'h0):=Ya h0;have hx:=zam (l[i]'h0);have h1:=zaf hg;refine⟨i+1,h0,by show l.length-(i+1)<l.length-i;omega,?_,rfl⟩;rcases(show i=0∨i=1 by omega) with rfl | rfl
  ·simp[l73_0,h0,h1]
  ·have h2:val (l.take 1)<4294967296:=by
    have:=za2 (l.take 1);have h3:(l.take 1).length=1:=by simp;omega
    rw[h3]at this;simpa using this
   have e1:(l[1]'h0).toNat*4294967296%18446744073709551616=(l[1]'h0).toNat*4294967296:=Yx (by omega);have e2:=zzr (y:=(l[1]'h0).toNat) h2;have e3:(val (l.take 1)+(l[1]'h0).toNat*4294967296)%18446744073709551616=val (l.take 1)+(l[1]'h0).toNat*4294967296:=Yx (by omega);have e4:val (l.take 1)+(l[1]'h0).toNat*4294967296=val (l.take (1+1)):=by rw[h1];omega
   simp at e4;have h0':(1:Int)<(l.length:Int):=by omega
   have e5:val (List.take 2 l)<18446744073709551616:=by omega
   simp[l73_0,h0,h0',e1,e2,e4,e5]
 ·right;have:i=l.length:=by omega
  subst this;rw[Yb (Yd _)];constructor<;>simp[l73_0]
end
section
variable{T:Tbl}[Zo T]
theorem zm6(a:List UInt32)(ha:a.length≤1000000):Za T 73 [.sl (Zb a) .an] =
  some (if val a<18446744073709551616 then .tup [u64 (val a),.b true] else .tup [u64 0,.b false]):=by
 have hta:=zbo (T:=T) a (by omega);have hla:=zad a;have hv:=zae (val a);rw[zab Zo.h73 rfl,b73];generalize hl:ofN (val a)=l at *
 by_cases h:2<l.length
 ·have h2:¬ val a<18446744073709551616:=by
   intro h3;have:=zap (show val a<4294967296^2 from h3);rw[hl]at this;omega
  have h3:(2:Int)<(l.length:Int):=by omega
  simp[hta,h3,h2]
 ·have h2:val a<18446744073709551616:=by
   have:=za2 l;rw[hv]at this;have h3:4294967296^l.length≤4294967296^2:=Y7 (by decide) (by omega);omega
  have h3:¬ (2:Int)<(l.length:Int):=by omega
  have hs:=zsz (T:=T) l (by omega) 0 (Y1 _);simp at hs;simp[hta,h3,h2,hs,hv]
end
def l89_0:AX:=
 (.note
 (.seq
 (.reg [rg 15 (.bin .lss (.t 14) (.t 13))])
 (.seq
 (.cond (.t 15)
 .skip
 (.exit 0))
 (.seq
 (.block 1
 (.seq
 (.reg [mv 16 14,rg 17 (.iad 1 (.t 12) (.t 14)),rg 18 (.load none (.t 17)),mv 10 16,mv 11 18])
 (.reg [mv 20 0,mv 21 1,mv 22 10,rg 23 (.bin .add (.t 21) (.t 22)),mv 24 3,mv 25 11,mv 26 0,mv 27 1,mv 28 10,rg 29 (.bin .add (.t 27) (.t 28)),rg 30 (.iad 1 (.t 26) (.t 29)),rg 31 (.load none (.t 30)),mv 32 4,rg 33 (.call 117 [(.t 24),(.t 25),(.t 31),(.t 32)]),mv 19 33,rg 34 (.ext (.t 19) 0),rg 35 (.ext (.t 19) 1),mv 4 34,rg 36 (.iad 1 (.t 20) (.t 23)),so (.store 1 (.t 36) (.t 35))])))
 (.reg [rg 37 (.bin .add (.t 14) (.c (.i .i64 1))),mv 14 37]))))
 (.norm false [0,1,2,3,4,12,13,14]))
def b89:AX:=
 (.seq
 (.seq
 (.reg [mv 12 2,rg 13 (.len (.t 12)),rg 14 (.mov (.c (.i .i64 0)))])
 (.lp 0 (.norm false [0,1,2,3,4,12,13,14]) l89_0 (.norm false [0,1,2,4])))
 (.reg [mv 38 0,mv 39 1,mv 40 2,rg 41 (.len (.t 40)),rg 42 (.bin .add (.t 39) (.t 41)),mv 43 4,rg 44 (.iad 1 (.t 38) (.t 42)),so (.store 1 (.t 44) (.t 43))]))
def l60_0:AX:=
 (.note
 (.seq
 (.reg [rg 18 (.bin .lss (.t 17) (.t 16))])
 (.seq
 (.cond (.t 18)
 .skip
 (.exit 0))
 (.seq
 (.block 1
 (.seq
 (.reg [mv 19 17,rg 20 (.iad 1 (.t 15) (.t 17)),rg 21 (.load none (.t 20)),mv 6 19,mv 7 21])
 (.reg [mv 22 5,mv 23 6,mv 24 0,mv 25 7,rg 26 (.call 89 [(.t 22),(.t 23),(.t 24),(.t 25),(.c (u32 0))])])))
 (.reg [rg 27 (.bin .add (.t 17) (.c (.i .i64 1))),mv 17 27]))))
 (.norm false [0,5,15,16,17]))
def b60:AX:=
 (.seq
 (.reg [rg 4 (.mov (.c (.sl [] .nl)))])
 (.seq
 (.reg [mv 8 0,rg 9 (.len (.t 8)),mv 10 1,rg 11 (.len (.t 10)),rg 12 (.bin .add (.t 9) (.t 11)),rg 13 (.bin .add (.t 12) (.c (.i .i64 1))),rg 14 (.mks 1 [(u32 0)] (.t 13) (.t 13)),mv 5 14])
 (.seq
 (.seq
 (.reg [mv 15 1,rg 16 (.len (.t 15)),rg 17 (.mov (.c (.i .i64 0)))])
 (.lp 0 (.norm false [0,5,15,16,17]) l60_0 (.norm false [5])))
 (.seq
 (.reg [mv 28 5,rg 29 (.call 71 [(.t 28)]),mv 4 29])
 (.pre (.norm false [4]) .ret)))))
def row89:AFx:=⟨5,45,[],b89,(some [true,false,false,false,false]),false⟩
def row60:AFx:=⟨2,30,[.t 4],b60,none,false⟩
class Zy (T:Tbl):Prop extends Zo T where
 h89:T 89=some row89
 h60:T 60=some row60
section
variable{T:Tbl}[Zy T]{d:Option Nat}{st:St}
@[simp] theorem x89(xs:List AV):Zc (orc T) T 89 xs d st=bL (Zfj st.heap [true,false,false,false,false] xs) fun ys=>Ze2 ys (Zk (Za1 [true,false,false,false,false] xs) st.heap) (Zc5 (Zk (Za1 [true,false,false,false,false] xs) st.heap) 40 (Zcs [true,false,false,false,false] xs) []) T 89 false d st:=zao Zy.h89
@[simp] theorem x60(xs:List AV):Zc (orc T) T 60 xs d st=cP T 60 false xs d st:=zaa Zy.h60
@[simp] theorem y60{e:Env}{h:Heap}{older:List Heap}(args:List Opd):opD (orc T) T (.call 60 args) e h older=dR (Za T 60 ((args.map (ev e.get)).map (wkIf false))) (args.map (ev e.get)):=zau Zy.h60
end
def l92_0:AX:=
 (.note
 (.seq
 (.reg [rg 27 (.bin .lss (.t 26) (.t 25))])
 (.seq
 (.cond (.t 27)
 .skip
 (.exit 0))
 (.seq
 (.block 1
 (.seq
 (.reg [mv 28 26,rg 29 (.iad 1 (.t 24) (.t 26)),rg 30 (.load none (.t 29)),mv 8 28,mv 9 30])
 (.seq
 (.reg [mv 31 9,rg 32 (.conv .u64 (.t 31)),mv 33 6,rg 34 (.bin .shl (.t 32) (.t 33)),mv 10 34])
 (.seq
 (.reg [mv 35 7,mv 36 5,mv 37 8,rg 38 (.bin .add (.t 36) (.t 37)),rg 39 (.iad 1 (.t 35) (.t 38)),rg 40 (.load none (.t 39)),mv 41 10,rg 42 (.conv .u32 (.t 41)),rg 43 (.bin .or (.t 40) (.t 42)),rg 44 (.iad 1 (.t 35) (.t 38)),so (.store 1 (.t 44) (.t 43))])
 (.reg [mv 45 7,mv 46 5,mv 47 8,rg 48 (.bin .add (.t 46) (.t 47)),rg 49 (.bin .add (.t 48) (.c (.i .i64 1))),mv 50 10,rg 51 (.bin .shr (.t 50) (.c (u64 32))),rg 52 (.conv .u32 (.t 51)),rg 53 (.iad 1 (.t 45) (.t 49)),so (.store 1 (.t 53) (.t 52))])))))
 (.reg [rg 54 (.bin .add (.t 26) (.c (.i .i64 1))),mv 26 54]))))
 (.norm false [5,6,7,24,25,26]))
def b92:AX:=
 (.seq
 (.reg [rg 4 (.mov (.c (.sl [] .nl)))])
 (.seq
 (.reg [mv 11 1,rg 12 (.mm true [(.t 11),(.c (.i .i64 0))]),rg 13 (.mm false [(.t 12),(.c (.i .i64 4096))]),mv 1 13])
 (.seq
 (.reg [mv 14 1,rg 15 (.bin .quo (.t 14) (.c (.i .i64 32))),mv 16 1,rg 17 (.bin .rem (.t 16) (.c (.i .i64 32))),mv 5 15,mv 6 17])
 (.seq
 (.reg [mv 18 5,mv 19 0,rg 20 (.len (.t 19)),rg 21 (.bin .add (.t 18) (.t 20)),rg 22 (.bin .add (.t 21) (.c (.i .i64 1))),rg 23 (.mks 1 [(u32 0)] (.t 22) (.t 22)),mv 7 23])
 (.seq
 (.seq
 (.reg [mv 24 0,rg 25 (.len (.t 24)),rg 26 (.mov (.c (.i .i64 0)))])
 (.lp 0 (.norm false [5,6,7,24,25,26]) l92_0 (.norm false [7])))
 (.seq
 (.reg [mv 55 7,rg 56 (.call 71 [(.t 55)]),mv 4 56])
 (.pre (.norm false [4]) .ret)))))))
def l94_0:AX:=
 (.note
 (.seq
 (.reg [rg 28 (.bin .lss (.t 27) (.t 26))])
 (.seq
 (.cond (.t 28)
 .skip
 (.exit 0))
 (.seq
 (.block 1
 (.seq
 (.reg [mv 29 27,mv 8 29])
 (.seq
 (.reg [mv 30 0,mv 31 5,mv 32 8,rg 33 (.bin .add (.t 31) (.t 32)),rg 34 (.iad 1 (.t 30) (.t 33)),rg 35 (.load none (.t 34)),rg 36 (.conv .u64 (.t 35)),mv 9 36])
 (.seq
 (.seq
 (.reg [mv 37 5,mv 38 8,rg 39 (.bin .add (.t 37) (.t 38)),rg 40 (.bin .add (.t 39) (.c (.i .i64 1))),mv 41 0,rg 42 (.len (.t 41)),rg 43 (.bin .lss (.t 40) (.t 42))])
 (.cond (.t 43)
 (.reg [mv 44 9,mv 45 0,mv 46 5,mv 47 8,rg 48 (.bin .add (.t 46) (.t 47)),rg 49 (.bin .add (.t 48) (.c (.i .i64 1))),rg 50 (.iad 1 (.t 45) (.t 49)),rg 51 (.load none (.t 50)),rg 52 (.conv .u64 (.t 51)),rg 53 (.bin .shl (.t 52) (.c (u64 32))),rg 54 (.bin .or (.t 44) (.t 53)),mv 9 54])
 .skip))
 (.reg [mv 55 7,mv 56 8,mv 57 9,mv 58 6,rg 59 (.bin .shr (.t 57) (.t 58)),rg 60 (.conv .u32 (.t 59)),rg 61 (.iad 1 (.t 55) (.t 56)),so (.store 1 (.t 61) (.t 60))])))))
 (.reg [rg 62 (.bin .add (.t 27) (.c (.i .i64 1))),mv 27 62]))))
 (.norm false [0,5,6,7,26,27]))
def b94:AX:=
 (.seq
 (.reg [rg 4 (.mov (.c (.sl [] .nl)))])
 (.seq
 (.reg [mv 10 1,rg 11 (.mm true [(.t 10),(.c (.i .i64 0))]),mv 1 11])
 (.seq
 (.reg [mv 12 1,rg 13 (.bin .quo (.t 12) (.c (.i .i64 32))),mv 14 1,rg 15 (.bin .rem (.t 14) (.c (.i .i64 32))),mv 5 13,mv 6 15])
 (.seq
 (.seq
 (.reg [mv 16 5,mv 17 0,rg 18 (.len (.t 17)),rg 19 (.bin .geq (.t 16) (.t 18))])
 (.cond (.t 19)
 (.seq
 (.reg [rg 4 (.mov (.c (.sl [] .nl)))])
 (.pre (.norm false [4]) .ret))
 .skip))
 (.seq
 (.reg [mv 20 0,rg 21 (.len (.t 20)),mv 22 5,rg 23 (.bin .sub (.t 21) (.t 22)),rg 24 (.mks 1 [(u32 0)] (.t 23) (.t 23)),mv 7 24])
 (.seq
 (.seq
 (.reg [mv 25 7,rg 26 (.len (.t 25)),rg 27 (.mov (.c (.i .i64 0)))])
 (.lp 0 (.norm false [0,5,6,7,26,27]) l94_0 (.norm false [7])))
 (.seq
 (.reg [mv 63 7,rg 64 (.call 71 [(.t 63)]),mv 4 64])
 (.pre (.norm false [4]) .ret))))))))
def row92:AFx:=⟨2,57,[.t 4],b92,none,false⟩
def row94:AFx:=⟨2,65,[.t 4],b94,none,false⟩
class Zz (T:Tbl):Prop where
 h92:T 92=some row92
 h94:T 94=some row94
section
variable{T:Tbl}[Zz T]{d:Option Nat}{st:St}
@[simp] theorem x94(xs:List AV):Zc (orc T) T 94 xs d st=cP T 94 false xs d st:=zaa Zz.h94
end
theorem zf7{P m S:List UInt32}{i:Nat}(hm:m.length=i)(hi:i<S.length):(P++(m++S.drop i))[P.length+i]? = some (S[i]'hi):=by
 rw[Yh (by omega),Yb6,Yh (by omega),hm,Ycf,Yau,Yab,Ya hi]
theorem zf8{P m S:List UInt32}{i:Nat}(w:UInt32)(hm:m.length=i)(hi:i<S.length):(P++(m++S.drop i)).set (P.length+i) w=P++((m++[w])++S.drop (i+1)):=by
 rw[Ya0 (P.length+i) w (by omega),Yb6,Ya0 i w (by omega),hm,Ycf,Ym hi,Ydj];simp
section
variable{T:Tbl}[Zy T]
def Zjt(P S a:List UInt32)(x:Nat)(y:Nat×Nat×List UInt32):St:=
 ⟨[(0,.bs (.bor 0) 0 1 0 (P.length+S.length)),(1,.i .i64 P.length),(2,.sl (Zb a) .an),(3,u32 x),(4,u32 y.2.1),(12,.sl (Zb a) .an),(13,.i .i64 a.length),(14,.i .i64 y.1)],
  [(.bor 0,⟨0,.own,1,Zb (P++(y.2.2++S.drop y.1))⟩)],4⟩
theorem zzt{p m w c c' s x y t v k:Nat}(h:m+p*c=s+x*t+k)(e:w+4294967296*c'=x*y+v+c):(m+p*w)+p*4294967296*c'=(s+p*v)+x*(t+p*y)+k:=by
 have e2:p*w+p*4294967296*c'=p*(x*y)+p*v+p*c:=by rw[Yav,←Yao,e,Yao,Yao]
 have e3:x*(t+p*y)=x*t+p*(x*y):=by rw[Yao,←Yav,Yam x p,Yav]
 omega
theorem zzu(P S a:List UInt32)(x c0:Nat)(hx:x<4294967296)(hS:a.length<S.length)(hl:P.length+S.length≤1000000):∀y:Nat×Nat×List UInt32,
  (y.1≤a.length∧y.2.1<4294967296∧y.2.2.length=y.1∧val y.2.2+4294967296^y.1*y.2.1=val (S.take y.1)+x*val (a.take y.1)+c0) →
  ∃r,(∃(c:Nat) (m:List UInt32),r=(Ex.n,(⟨[(0,.bs (.bor 0) 0 1 0 (P.length+S.length)),(1,.i .i64 P.length),(2,.sl (Zb a) .an),(4,u32 c)],[(.bor 0,⟨0,.own,1,Zb (P++(m++S.drop a.length))⟩)],4⟩:St)) ∧
   m.length=a.length∧c<4294967296∧val m+4294967296^a.length*c=val (S.take a.length)+x*val a+c0)∧Zp T 1 0 (.norm false [0,1,2,4]) l89_0 (Zjt P S a x y)=some r:=by
 refine zaz _ _ (fun y=>a.length-y.1) _ ?_
 rintro⟨i,c,m⟩ ⟨hi,hc,hm,hv⟩
 simp only at hi hc hm hv;by_cases h0:i<a.length
 ·left;have ha:a[i]? = some (a[i]'h0):=Ya h0;have hiS:i<S.length:=by omega
  have hs:S[i]? = some (S[i]'hiS):=Ya hiS;have hg:=zf7 (P:=P) hm hiS;have hw:IntKind.wrap .i64 ((i:Int)+1)=((i+1:Nat):Int):=zac _ (by omega);have hw2:IntKind.wrap .i64 ((P.length:Int)+i)=((P.length+i:Nat):Int):=zac _ (by omega);have hlt:P.length+i<P.length+S.length:=by omega
  have hlt2:((P.length+i:Nat):Int)<(P.length:Int)+S.length:=by omega
  have hla:=zam (a[i]'h0);have hls:=zam (S[i]'hiS);have hmul:=zjq hx hla;have hlen:(P++(m++S.drop i)).length=P.length+S.length:=by simp;omega
  have hcall:=zh1 (T:=T) x (a[i]'h0).toNat (S[i]'hiS).toNat c hx hla hls hc;have hset:=zf8 (P:=P) (w32 (x*(a[i]'h0).toNat+(S[i]'hiS).toNat+c)) hm hiS;refine⟨(i+1,(x*(a[i]'h0).toNat+(S[i]'hiS).toNat+c)/4294967296,m++[w32 (x*(a[i]'h0).toNat+(S[i]'hiS).toNat+c)]),⟨h0,by simp only;omega,by simp[hm],?_⟩,by simp only;omega,?_⟩
  ·simp only;rw[zak,zaf ha,zaf hs,Yai,hm];simp only[zas,zcb,Ya9,Yab,zdn];exact zzt hv (by have:=Yb1 (x*(a[i]'h0).toNat+(S[i]'hiS).toNat+c) 4294967296;omega)
  ·simp[l89_0,Zjt,h0,hw,hw2,hiS,hg,hcall,hset]
 ·right;have:i=a.length:=by omega
  subst this;rw[Yb (Yd a.length)]at hv;refine⟨_,⟨c,m,rfl,hm,hc,hv⟩,?_,?_⟩<;>simp[l89_0,Zjt]
theorem zzv(P S a:List UInt32)(x c0:Nat)(hx:x<4294967296)(hc:c0<4294967296)(hS:a.length<S.length)(hl:P.length+S.length≤1000000) :
  ∃m,m.length=a.length+1∧val m=val (S.take a.length)+x*val a+c0 ∧
   Z0 T 89 [.bs (.bor 0) 0 1 0 (P.length+S.length),.i .i64 P.length,.sl (Zb a) .an,u32 x,u32 c0] [(.bor 0,⟨0,.own,1,Zb (P++S)⟩)] =
    some (.tup [],[(.bor 0,⟨0,.own,1,Zb (P++(m++S.drop (a.length+1)))⟩)]):=by
 obtain⟨_,⟨c,m,rfl,hm,hc1,hv⟩,hr⟩:=zzu (T:=T) P S a x c0 hx hS hl (0,c0,[]) ⟨Y1 _,hc,rfl,by simp⟩;unfold Zjt at hr;simp at hr;refine⟨m++[w32 c],by simp[hm],by rw[zak,hm];simpa[zag hc1]using hv,?_⟩;have hw2:IntKind.wrap .i64 ((P.length:Int)+a.length)=((P.length+a.length:Nat):Int):=zac _ (by omega);have hlt:P.length+a.length<P.length+S.length:=by omega
 have hlt2:((P.length+a.length:Nat):Int)<(P.length:Int)+S.length:=by omega
 have hg:=zf7 (P:=P) hm hS;have hset:=zf8 (P:=P) (w32 c) hm hS;rw[zal Zy.h89 rfl,b89];simp[hr,hw2,hg,hS,zbn _ _ _ hc1,hset]
def Zju(a b:List UInt32)(y:Nat×List UInt32):St:=
 ⟨[(0,.sl (Zb a) .an),(5,.bs (.loc 14) 1 1 0 (a.length+b.length+1)),(15,.sl (Zb b) .an),(16,.i .i64 b.length),(17,.i .i64 y.1)],[(.loc 14,⟨1,.own,1,Zb (y.2++List.replicate (b.length+1-y.1) 0)⟩)],3⟩
theorem zzw(a b:List UInt32)(ha:a.length≤100000)(hb:b.length≤100000):∀y:Nat×List UInt32,
  (y.1≤b.length∧y.2.length=a.length+y.1∧val y.2=val a*val (b.take y.1)) →
  ∃r,(∃out:List UInt32,r=(Ex.n,(⟨[(5,.bs (.loc 14) 1 1 0 (a.length+b.length+1))],[(.loc 14,⟨1,.own,1,Zb out⟩)],3⟩:St))∧out.length=a.length+b.length+1∧val out=val a*val b) ∧
   Zp T 0 0 (.norm false [5]) l60_0 (Zju a b y)=some r:=by
 refine zaz _ _ (fun y=>b.length-y.1) _ ?_
 rintro⟨i,X⟩ ⟨hi,hX,hv⟩
 simp only at hi hX hv;by_cases h0:i<b.length
 ·left;have hbg:b[i]? = some (b[i]'h0):=Ya h0;have hw:IntKind.wrap .i64 ((i:Int)+1)=((i+1:Nat):Int):=zac _ (by omega);obtain⟨m,hm1,hm2,hc⟩:=zzv (T:=T) (X.take i) (X.drop i++List.replicate (b.length+1-i) 0) a (b[i]'h0).toNat 0 (zam _) (by decide) (by simp;omega) (by simp;omega);have e1:X.take i++(X.drop i++List.replicate (b.length+1-i) 0)=X++List.replicate (b.length+1-i) 0:=by rw[←Y5,Yaw]
  have e2:(X.take i).length=i:=by simp;omega
  have e3:(X.drop i++List.replicate (b.length+1-i) 0).length=a.length+b.length+1-i:=by simp;omega
  have e4:i+(a.length+b.length+1-i)=a.length+b.length+1:=by omega
  have e5:(X.drop i++List.replicate (b.length+1-i) 0).drop (a.length+1)=List.replicate (b.length+1-(i+1)) 0:=by
   rw[List.drop_append,Ya4 (by simp;omega),List.drop_replicate];simp only[Ybt,Yc0];congr 1;omega
  have e6:(X.drop i++List.replicate (b.length+1-i) 0).take a.length=X.drop i:=by
   rw[Yc4 (by simp;omega),Yb (by simp;omega)]
  rw[e1,e2,e3,e4,e5]at hc;rw[e6]at hm2;simp only[←Y5]at hc;refine⟨(i+1,X.take i++m),⟨h0,by simp only[Yq,e2,hm1];omega,?_⟩,by simp only;omega,?_⟩
  ·simp only;have e7:=zak (X.take i) (X.drop i);rw[Yaw,e2]at e7;rw[zak,e2,hm2,zaf hbg,Yao (val a),←hv,e7,Yao,Yao];have e8:4294967296^i*((b[i]'h0).toNat*val a)=val a*(4294967296^i*(b[i]'h0).toNat):=by
    rw[Yam (b[i]'h0).toNat,←Yav,Yam (4294967296^i) (val a),Yav]
   rw[e8];omega
  ·simp[l60_0,Zju,h0,hw,hc]
 ·right;have:i=b.length:=by omega
  subst this;rw[Yb (Yd _)]at hv;refine⟨_,⟨X++List.replicate (b.length+1-b.length) 0,rfl,by simp;omega,by rw[zak,zdo,hv];simp⟩,?_,?_⟩<;>simp[l60_0,Zju]
theorem zef(a b:List UInt32)(ha:a.length≤100000)(hb:b.length≤100000):Za T 60 [.sl (Zb a) .an,.sl (Zb b) .an]=some (.sl (Zb (ofN (val a*val b))) .an):=by
 obtain⟨_,⟨out,rfl,ho,hv⟩,hr⟩:=zzw (T:=T) a b ha hb (0,List.replicate a.length 0) ⟨Y1 _,by simp,by simp[zdo]⟩;unfold Zju at hr;simp at hr;have hw1:IntKind.wrap .i64 ((a.length:Int)+b.length)=(a.length:Int)+b.length:=zac _ (by omega);have hw:IntKind.wrap .i64 ((a.length:Int)+b.length+1)=(a.length:Int)+b.length+1:=zac _ (by omega);have hle:(a.length:Int)+b.length+1≤4294967296:=by omega
 have hn:=zbd (T:=T) out (by omega);rw[hv]at hn;have htk:List.take (a.length+b.length+1) out=out:=Yb (by omega);have he:a.length+(b.length+1)=a.length+b.length+1:=by omega
 rw[he]at hr;rw[zab Zy.h60 rfl,b60];simp[hw,hw1,hle,hr,ho,htk,hn]
end
theorem z39(w:Nat):4294967296^w=2^(32*w):=by
 rw[Ycs]
theorem zni(a:List UInt32)(w:Nat)(h:w≤a.length):val a=val (a.take w)+4294967296^w*val (a.drop w):=by
 have:=zak (a.take w) (a.drop w);rw[Yaw,Y0,Yb4 h]at this;exact this
theorem z4a(a:List UInt32)(w:Nat)(h:w≤a.length):val a/4294967296^w=val (a.drop w):=by
 have hp:0<4294967296^w:=Ybn (by decide);have hlt:=za2 (a.take w);rw[Y0,Yb4 h]at hlt;rw[zni a w h,Yc8 _ _ hp,Ybw hlt,Yan]
theorem z1f{a b n:Nat}(h:a<2^n):a ||| 2^n*b=a+2^n*b:=by
 rw[Nat.or_comm,←Ycd h,Ybi]
theorem z4b{x c n:Nat}(hx:x<4294967296)(hn:n<32)(hc:c<2^n) :
  x*2^n<18446744073709551616∧(c ||| x*2^n%4294967296)=c+x*2^n%4294967296∧c+x*2^n%4294967296<4294967296∧x*2^n/4294967296<2^n∧2^n<4294967296:=by
 have hp:2^(n+(32-n))=4294967296:=by rw[show n+(32-n)=32 by omega]
 rw[Yce]at hp;have hq:0<2^n:=Ybn (by decide);have hr:1<2^(32-n):=Nat.one_lt_two_pow (by omega);have e1:x*2^n%4294967296=2^n*(x%2^(32-n)):=by rw[←hp,Yam x,Nat.mul_mod_mul_left]
 have e2:=z1f (b:=x%2^(32-n)) hc;rw[←e1]at e2;have hlt:2^n<4294967296:=by
  have h1:=Yaz (2^n) (show 2≤2^(32-n) from hr);rw[hp]at h1;omega
 refine⟨?_,e2,?_,?_,hlt⟩
 ·have:=Nat.mul_lt_mul'' hx hlt;simpa using this
 ·rw[e1];have h1:x%2^(32-n)+1≤2^(32-n):=Ybf _ (by omega);have h2:=Yaz (2^n) h1;rw[hp,Yao,Yda]at h2;omega
 ·exact Ybc (by rw[Yam x];rw[Yam 4294967296];exact Nat.mul_lt_mul_of_pos_left hx hq)
theorem zxg{x y R b:Nat}(hb:b<32)(hx:x<4294967296) :
  (x+4294967296*(y+4294967296*R))/2^b=(x+y*4294967296)/2^b%4294967296+4294967296*((y+4294967296*R)/2^b):=by
 have hq:0<2^b:=Ybn (by decide);have h1:(x+4294967296*(y+4294967296*R))/4294967296=y+4294967296*R:=by omega
 have h2:(x+4294967296*(y+4294967296*R))/2^b/4294967296=(y+4294967296*R)/2^b:=by
  rw[Yb7,Yam (2^b),←Yb7,h1]
 have hp:2^b*2^(32-b)=4294967296:=by rw[←Yce,show b+(32-b)=32 by omega]
 have h3:x+4294967296*(y+4294967296*R)=(x+y*4294967296)+2^b*(4294967296*(2^(32-b)*R)):=by
  have:2^b*(4294967296*(2^(32-b)*R))=4294967296*(4294967296*R):=by
   rw[Nat.mul_left_comm,←Yav (2^b),hp]
  omega
 have h4:(x+4294967296*(y+4294967296*R))/2^b%4294967296=(x+y*4294967296)/2^b%4294967296:=by
  rw[h3,Yc8 _ _ hq,Nat.add_mul_mod_self_left]
 have h5:=Nat.mod_add_div ((x+4294967296*(y+4294967296*R))/2^b) 4294967296;rw[h2,h4]at h5;exact h5.symm
end Go.Ab