/-
  A calculus of values, boxes and code, and what functions of the program compute, proved in it.
  Conditions: none beyond those that the theorems state. (Part 2.)
-/
import Derived.Test.YtajopjoiaogapaaGreatDoorPart1
import Derived.Scope

set_option linter.unusedSectionVars false
set_option linter.unusedVariables false
set_option linter.unusedSimpArgs false
set_option linter.unnecessarySimpa false

namespace Go.Ab
section
open Go.RowKit
section
variable{P:Program}{cx:Cx}{w w':World}{S S':Nat→Nat→Prop}{M:Map}{clk:Nat}{h:Heap}{ρ:Nat→AV}{a:Act}
theorem zd8(he:Zet w S M clk ρ a):∀(l:List (Nat×Operand)) (ps:List (Nat×Opd)),Zch l=some ps →
  (l.map fun p=>(p.1,a.eval p.2)).map (·.1)=(ps.map fun p=>(p.1,ev ρ p.2)).map (·.1) ∧
  ∀(j:Nat) v x,(l.map fun p=>(p.1,a.eval p.2))[j]? = some v→(ps.map fun p=>(p.1,ev ρ p.2))[j]? = some x→C w S M clk v.2 x.2
 | [],ps,hr=>by simp only[Zch,Option.some.injEq]at hr;subst hr;exact⟨rfl,fun j v x hv=>by simp at hv⟩
 | (i,x)::l,ps,hr=>by
  obtain⟨p,hp,hr2⟩:=bind_some hr;obtain⟨qs,hq,rfl⟩:=map_some hr2;obtain⟨h1,h2⟩:=zd8 he l qs hq;refine⟨by simpa using h1,fun j v y hv hy=>?_⟩;cases j with
  | zero=>simp at hv hy;subst hv;subst hy;exact ev_C he hp
  | succ j=>exact h2 j v y (by simpa using hv) (by simpa using hy)
theorem zc2{o:Oper}{next:Act→World→Prop}{Q:Exit→Act→World→Prop}{v:Value}(hrun:(execOp a.eval o).run P w=.ok (.value v) w')(hn:next (a.put o.dst v) w'):o.wp P a w next Q:=by
 grind[Oper.wp,Oper.upon_value]
theorem zf0{s:Sem Value}{v:Value}(hs:s.run P w=.ok v w'):(do pure (Next.value (←s)):Sem Next).run P w=.ok (.value v) w':=by
 simp_all
def AOp.makes:AOp→Bool
 | .alloc .. | .store .. | .mks .. | .bsl .. => true
 | _=>false
theorem zhu{c:Call}{op:AOp}(hop:Zdn P (.call c)=some op):op.makes=false:=by
 replace hop:=zaw hop;rcases hop with hop | ⟨k,xs,rfl,_⟩
 rotate_left
 ·rfl
 obtain⟨callee,args,ats⟩:=c;cases callee with
 | invoke r m=>
  obtain⟨p,hp,hr1⟩:=bind_some hop;obtain⟨l,hl,rfl⟩:=map_some hr1
  rfl
 | builtin b=>
  simp only[Zbl]at hop;revert hop
  repeat' split
  all_goals (intro hop;simp[Yd]at hop)
  all_goals first
   | (obtain⟨_,_,rfl⟩:=hop;rfl)
   | (subst hop;rfl)
   | (obtain⟨_,_,_,rfl⟩:=hop;rfl)
   | (obtain⟨_,_,_,_,rfl⟩:=hop;rfl)
   | (obtain⟨_,_,_,_,_,_,rfl⟩:=hop;rfl)
   | (obtain⟨_,_,_,_,_,rfl⟩:=hop;rfl)
   | (obtain⟨_,_,_,_,_,_,_,rfl⟩:=hop;rfl)
 | value fv=>
  cases fv<;>simp only[Zbl]at hop<;>try (cases hop;done)
  all_goals
   obtain⟨l,hl,rfl⟩:=map_some hop
   rfl
theorem zot{o:Op}{k:XOp}{xs:List Opd}(hop:Zbl P o=some (.xop k xs)):False:=by
 cases o<;>simp only[Zbl]at hop<;>try (cases hop;done)
 all_goals
  revert hop
  repeat' split
  all_goals simp[Yd]
theorem zc3{o:Oper}{op:AOp}{x:AV}{h':Heap}{clk':Nat}(hop:Zdn P o.op=some op)(hr:RelF cx S M clk h ρ a w)(hs:stepW op o.dst ρ h clk=some (x,h',clk')) :
  ∃v w' S' M',((execOp a.eval o).run P w=.ok (.value v) w'∨((execOp a.eval o).run P w=.ok .skip w'∧v=undef))∧RelF cx S' M' clk' h' ρ a w'∧C w' S' M' clk' v x:=by
 obtain⟨dst,oop,type,pos,after,guard⟩:=o;have hcall:∀c,oop=.call c→op.makes=false:=fun c hc=>zhu (by rw[←hc];exact hop);have hop':=zaw hop;clear hop;rcases hop' with hop | ⟨k,xs,he,hx⟩
 rotate_left
 ·subst he;rcases hx with hx | ⟨rfl,rfl⟩
  ·exact zmc (o:=⟨dst,oop,type,pos,after,guard⟩) hx hr hs
  ·simp[stepW,Za7]at hs
 cases op<;>simp only[stepW]at hs<;>try (cases hs;done)
 case xop k xs=>exact(zot hop).elim
 case alloc zs=>
  obtain⟨t,hz,rfl⟩:∃t,zeros P t=some zs∧oop=.alloc t:=by
   cases oop<;>(try simp only[Zbl]at hop)
   case alloc t=>
    simp_all
   case call c=>exact absurd (hcall c rfl) (by simp[AOp.makes])
   all_goals
    exfalso;revert hop
    repeat' split
    all_goals simp[Yd]
  obtain⟨v',w',S',M',h1,h2,h3⟩:=zlx hr hz hs;exact⟨v',w',S',M',.inl (zf0 h1),h2,h3⟩
 case store n px pv=>
  obtain⟨t,y,v,hsz,hp,hq,rfl⟩:∃t y v,Zaw P t=some n∧Zh y=some px∧Zh v=some pv∧oop=.store t y v:=by
   cases oop<;>(try simp only[Zbl]at hop)
   case store t y v=>
    obtain⟨n',hn,hop1⟩:=bind_some hop;obtain⟨p,hp,hop2⟩:=bind_some hop1;obtain⟨q,hq,he⟩:=map_some hop2
    grind
   case call c=>exact absurd (hcall c rfl) (by simp[AOp.makes])
   all_goals
    exfalso;revert hop
    repeat' split
    all_goals simp[Yd]
  obtain⟨h1',hs1,he⟩:=map_some hs;cases he;obtain⟨w',S',M',h1,h2⟩:=zly hr hsz (ev_C hr.env hp) (ev_C hr.env hq) hs1;refine⟨undef,w',S',M',.inr ⟨?_,rfl⟩,h2,.p (.tup #[] [] rfl fun j v c hv=>by grind)⟩
  grind[execOp,Sem.run_bind,Result.andThen_ok,Sem.run_pure]
 case mks z zs pl pc=>
  obtain⟨t,l,c,e,inf,ht,hi,hby,hzs,hzl,hp,hq,hz,rfl⟩:∃t l c e inf,P.underlying t=some (.slice e)∧P.info? e=some inf∧inf.bytes≤32768∧zeros P e=some zs∧zs.length=inf.size∧Zh l=some pl∧Zh c=some pc∧inf.size=z∧oop=.makeSlice t l c:=by
   cases oop<;>(try simp only[Zbl]at hop)
   case makeSlice t l c=>
    split at hop
    ·split at hop
     ·split at hop
      ·obtain⟨zs',hzs,hop1⟩:=bind_some hop;split at hop1
       ·obtain⟨p,hp,hop2⟩:=bind_some hop1;obtain⟨q,hq,he⟩:=map_some hop2
        grind
       grind
      grind
     grind
    grind
   case call c=>exact absurd (hcall c rfl) (by simp[AOp.makes])
   all_goals
    exfalso;revert hop
    repeat' split
    all_goals simp[Yd]
  subst hz;obtain⟨v',w',S',M',h1,h2,h3⟩:=zqq hr ht hi hby hzs hzl (ev_C hr.env hp) (ev_C hr.env hq) hs;exact⟨v',w',S',M',.inl (zf0 h1),h2,h3⟩
 case app z px py=>
  cases oop<;>simp only[Zbl]at hop
  case call c=>
   obtain⟨callee,cargs,ats⟩:=c;cases callee with
   | invoke r m=>
    obtain⟨p,hp,hr1⟩:=bind_some hop
    simp_all
   | value fv=>
    cases fv<;>simp only at hop<;>try simp_all
    all_goals simp_all
   | builtin b=>
    simp only at hop;split at hop
    ·revert hop
     repeat' split
     all_goals simp
    ·obtain⟨l,_,hop1⟩:=bind_some hop;grind
    ·obtain⟨l,_,hop1⟩:=bind_some hop;grind
    ·rename_i y1 y2 t u hargs hts;split at hop
     ·rename_i htu;split at hop
      ·rename_i e ht;split at hop
       ·rename_i inf hi;split at hop
        ·rename_i hcond;obtain⟨h0,hby,hzs⟩:=hcond;obtain⟨p,hp,hop1⟩:=bind_some hop;obtain⟨q,hq,he⟩:=map_some hop1;cases he;obtain⟨zv,hzv,hzc⟩:∃zv,inf.zero=some zv∧zv.cells.size=inf.size:=by
          cases hzz:inf.zero with
          | none=>grind
          | some zv=>grind
         obtain⟨v',w',S',M',h1,h2,h3⟩:=zqo (P:=P) (ty:=type) hr ht hi h0 hby hzv hzc rfl (ev_C hr.env hp) (ev_C hr.env hq) hs;have ha:cargs=#[y1,y2]:=by grind
         have hat:ats=#[t,t]:=by grind
         subst ha;subst hat;exact⟨v',w',S',M',.inl (by simp[execOp,resolve,invoke,builtin,h1]),h2,h3⟩
        grind
       grind
      grind
     grind
    ·split at hop
     ·split at hop
      ·obtain⟨z,_,hop0⟩:=bind_some hop;split at hop0
       ·obtain⟨p,_,hop1⟩:=bind_some hop0
        simp_all
       grind
      grind
     grind
    grind
  all_goals
   exfalso;revert hop
   repeat' split
   all_goals simp[Yd]
theorem zhv{dst:Option Nat}{type:TypeId}{pos:_}{after:_}{guard:_}{cargs:Array Operand}{ats:Array TypeId}{rr:Operand}{nm:String}{t f:Nat}{v:Value}(hv:a.eval rr=.iface t v)(hm:Zdx P t nm=some f)(hent:Enters P f) :
  (execOp a.eval { dst:=dst,op:=.call { callee:=.invoke rr nm,args:=cargs,argTypes:=ats },type:=type,pos:=pos,after:=after,guard:=guard }).run P w=.ok (.enter f (#[v]++cargs.map a.eval)) w:=by
 have e1:(#[Value.iface t v]++cargs.map a.eval)[0]? = some (.iface t v):=by grind
 have e2:(#[Value.iface t v]++cargs.map a.eval).extract 1 (#[Value.iface t v]++cargs.map a.eval).size=cargs.map a.eval:=by simp
 simp only[execOp,resolve,Sem.run_bind,Sem.run_pure,Result.andThen_ok,invoke,hv,e1,e2];rw[zo5 hm];exact hent _ _
theorem zus{dst:Option Nat}{type:TypeId}{pos:_}{after:_}{guard:_}{cargs:Array Operand}{ats:Array TypeId}{t f:Nat}{v:Value}(hv:a.tmps.getD t undef=.func (.func f) #[] #[v])(hent:Enters P f) :
  (execOp a.eval { dst:=dst,op:=.call { callee:=.value (.tmp t),args:=cargs,argTypes:=ats },type:=type,pos:=pos,after:=after,guard:=guard }).run P w=.ok (.enter f (cargs.map a.eval ++ #[v])) w:=by
 have hv':a.eval (.tmp t)=.func (.func f) #[] #[v]:=hv;simp only[execOp,resolve,hv',Deferred.ofValue,Sem.run_bind,Sem.run_pure,Result.andThen_ok,invoke];have:=hent (cargs.map a.eval ++ #[v]) w
 grind
theorem zqw{dst:Option Nat}{type:TypeId}{pos:_}{after:_}{guard:_}{cargs:Array Operand}{ats:Array TypeId}{t f:Nat}{v:Value}(hv:a.tmps.getD t undef=.func (.func f) #[v] #[])(hent:Enters P f) :
  (execOp a.eval { dst:=dst,op:=.call { callee:=.value (.tmp t),args:=cargs,argTypes:=ats },type:=type,pos:=pos,after:=after,guard:=guard }).run P w=.ok (.enter f (#[v]++cargs.map a.eval)) w:=by
 have hv':a.eval (.tmp t)=.func (.func f) #[v] #[]:=hv;simp only[execOp,resolve,hv',Deferred.ofValue,Sem.run_bind,Sem.run_pure,Result.andThen_ok,invoke];have:=hent (#[v]++cargs.map a.eval) w
 grind
theorem zjp{st:St}{o:Oper}{op:AOp}{K:St→Prop}{next:Act→World→Prop}{Q:Exit→Act→World→Prop}(hop:Zdn P o.op=some op)(hd:∀e,o.dst=some e→e<cx.nt)
  (hr:RelF cx S M st.clk st.heap st.env.get a w) (hk:opK P op o.dst st K) (hn:∀st' a' w',K st'→Rel cx st' a' w'→next a' w'):o.wp P a w next Q:=by
 have quiet:okK (Zg op st.env.get st.heap) (fun x=>K ⟨Zm st.env o.dst x,st.heap,st.clk⟩)→o.wp P a w next Q:=by
  intro ⟨x,hx,hK⟩;obtain⟨v,hv,hC⟩:=zgs (P:=P) hop hr.env hr.wr.heap hx;exact zc2 hv (hn _ _ _ hK (Rel.put hr hd hC))
 have wr:okK (stepW op o.dst st.env.get st.heap st.clk) (fun q=>K ⟨Zm st.env o.dst q.1,q.2.1,q.2.2⟩)→o.wp P a w next Q:=by
  intro ⟨⟨x,h',c'⟩,hs,hK⟩;obtain⟨v,w',S',M',h1,h2,h3⟩:=zc3 hop hr hs;rcases h1 with h1 | ⟨h1,rfl⟩
  ·exact zc2 h1 (hn _ _ _ hK (Rel.put h2 hd h3))
  ·unfold Oper.wp;rw[h1,Oper.upon_skip];exact hn _ _ _ hK (Rel.put h2 hd h3)
 have call:∀f args,op=.call f args→o.wp P a w next Q:=by
  intro f args he;subst he;obtain⟨dst,oop,type,pos,after,guard⟩:=o;obtain⟨cargs,ats,hcall,hl⟩:=zdn hop;subst hcall;obtain⟨h1,h2⟩:=zbq hr.env _ _ hl;have hsz:(cargs.map a.eval).size=(args.map (ev st.env.get)).length:=by grind
  have hC:∀(j:Nat) (v:Value) (c:AV),(cargs.map a.eval)[j]? = some v→(args.map (ev st.env.get))[j]? = some c→C w S M st.clk v c:=
   fun j v c hv hc=>h2 j v c (by grind) hc
  have hexec:Enters P f→(execOp a.eval { dst:=dst,op:=.call { callee:=.value (.func f),args:=cargs,argTypes:=ats },type:=type,pos:=pos,after:=after,guard:=guard }).run P w=.ok (.enter f (cargs.map a.eval)) w:=by
   intro hent;simp only[execOp,resolve,Act.eval,Deferred.ofValue,Sem.run_bind,Sem.run_pure,Result.andThen_ok,invoke];have:=hent (cargs.map a.eval) w
   grind
  rcases hk with hk | hk
  ·obtain⟨hent,hc⟩:=zc0 hr hk hsz hC;unfold Oper.wp;rw[hexec hent,Oper.upon_enter];refine hc.mono fun e w' ⟨v,r,h',S',M',he,hK,hr',hC'⟩=>?_;subst he;exact hn _ _ _ hK (Rel.put hr' hd hC')
  ·obtain⟨hent,hc⟩:=zc1 hr hk hsz hC;unfold Oper.wp;rw[hexec hent,Oper.upon_enter];refine hc.mono fun e w' ⟨v,r,h',S',M',clk',he,hK,hr',hC'⟩=>?_;subst he;exact hn _ _ _ hK (Rel.put hr' hd hC')
 obtain⟨dst,oop,type,pos,after,guard⟩:=o;have hop':=zaw hop;clear hop;rcases hop' with hop | ⟨k,xs,he,hx⟩
 rotate_left
 ·subst he;exact wr hk
 cases oop<;>simp only[Zbl]at hop<;>try (cases hop;done)
 case alloc t=>
  obtain⟨zs,hz,rfl⟩:=map_some hop;exact wr hk
 case makeInterface t y=>
  split at hop
  ·split at hop
   ·grind
   ·obtain⟨p,hp,rfl⟩:=map_some hop;exact quiet hk
  grind
 case buildSlice t len parts=>
  split at hop
  ·rename_i e ht;obtain⟨z,hz,hop1⟩:=bind_some hop;split at hop1
   ·rename_i hlim;obtain⟨zs,hzs,hop2⟩:=bind_some hop1;split at hop2
    ·rename_i hzl;obtain⟨ps,hps,rfl⟩:=map_some hop2;obtain⟨⟨r,h'⟩,hs,hK⟩:=hk;obtain⟨h1,h2⟩:=zd8 hr.env _ _ hps;obtain⟨v',w',S',M',h3,h4,h5⟩:=zjn (parts:=Array.map (fun(x:Nat×Operand)=>(x.fst,a.eval x.snd)) parts) hr ht hz hlim.1 hlim.2 hzs hzl (by simp_all) (fun j v x hv hx=>h2 j v x (by grind) hx) hs;exact zc2 (w':=w') (zf0 h3) (hn _ _ _ hK (Rel.put h4 hd h5))
    grind
   grind
  grind
 case store t y v=>
  obtain⟨n,hsz,hop1⟩:=bind_some hop;obtain⟨p,hp,hop2⟩:=bind_some hop1;obtain⟨q,hq,rfl⟩:=map_some hop2;exact wr hk
 case makeSlice t l c=>
  split at hop
  ·split at hop
   ·split at hop
    ·obtain⟨zs,hzs,hop1⟩:=bind_some hop;split at hop1
     ·obtain⟨p,hp,hop2⟩:=bind_some hop1;obtain⟨q,hq,rfl⟩:=map_some hop2;exact wr hk
     grind
    grind
   grind
  grind
 case call c=>
  obtain⟨callee,cargs,ats⟩:=c;cases callee with
  | invoke r m=>
   obtain⟨p,hp,hr1⟩:=bind_some hop;obtain⟨l,hl,rfl⟩:=map_some hr1;rcases hk with ⟨_,hk⟩ | ⟨h0,_⟩ | ⟨h0,_⟩
   rotate_left
   ·omega
   ·omega
   obtain⟨t,y,f,hy,hm,hk⟩:=hk;have hCr:=ev_C hr.env hp;rw[hy]at hCr;obtain⟨v,hv,hCy⟩:=hCr.inv_ifc;obtain⟨h1,h2⟩:=zbq hr.env _ _ hl;have hsz:(#[v]++cargs.map a.eval).size=(y::l.map (ev st.env.get)).length:=by
    grind
   have hC:∀(j:Nat) (u:Value) (c:AV),(#[v]++cargs.map a.eval)[j]? = some u→(y::l.map (ev st.env.get))[j]? = some c→C w S M st.clk u c:=by
    grind
   have hexec:=zhv (P:=P) (w:=w) (dst:=dst) (type:=type) (pos:=pos) (after:=after) (guard:=guard) (ats:=ats) (cargs:=cargs) hv hm;rcases hk with hk | hk
   ·obtain⟨hent,hc⟩:=zc0 hr hk hsz hC;unfold Oper.wp;rw[hexec hent,Oper.upon_enter];refine hc.mono fun e w' ⟨v,r,h',S',M',he,hK,hr',hC'⟩=>?_;subst he;exact hn _ _ _ hK (Rel.put hr' hd hC')
   ·obtain⟨hent,hc⟩:=zc1 hr hk hsz hC;unfold Oper.wp;rw[hexec hent,Oper.upon_enter];refine hc.mono fun e w' ⟨v,r,h',S',M',clk',he,hK,hr',hC'⟩=>?_;subst he;exact hn _ _ _ hK (Rel.put hr' hd hC')
  | value fv=>
   cases fv<;>simp only at hop<;>try (cases hop;done)
   case func f=>obtain⟨l,hl,rfl⟩:=map_some hop;grind
   case tmp tt=>
    obtain⟨l,hl,rfl⟩:=map_some hop;rcases hk with ⟨h0,_⟩ | ⟨_,hk⟩ | ⟨_,hk⟩
    ·omega
    ·obtain⟨f,y,hy,hk⟩:=hk;have hCr:=hr.env tt;rw[show st.env.get tt=_ from hy]at hCr;obtain⟨v,hv,hCy⟩:=hCr.inv_fnv;obtain⟨h1,h2⟩:=zbq hr.env _ _ hl;have hsz:(#[v]++cargs.map a.eval).size=(y::l.map (ev st.env.get)).length:=by
      grind
     have hC:∀(j:Nat) (u:Value) (c:AV),(#[v]++cargs.map a.eval)[j]? = some u→(y::l.map (ev st.env.get))[j]? = some c→C w S M st.clk u c:=by
      intro j u c hu hc;cases j with
      | zero=>
       rw[Ycj (by simp)]at hu;cases hu;cases hc;exact .p hCy
      | succ j=>
       grind
     have hexec:=zqw (P:=P) (a:=a) (w:=w) (dst:=dst) (type:=type) (pos:=pos) (after:=after) (guard:=guard) (ats:=ats) (cargs:=cargs) hv;rcases hk with hk | hk
     ·obtain⟨hent,hc⟩:=zc0 hr hk hsz hC;unfold Oper.wp;rw[hexec hent,Oper.upon_enter];refine hc.mono fun e w' ⟨v,r,h',S',M',he,hK,hr',hC'⟩=>?_;subst he;exact hn _ _ _ hK (Rel.put hr' hd hC')
     ·obtain⟨hent,hc⟩:=zc1 hr hk hsz hC;unfold Oper.wp;rw[hexec hent,Oper.upon_enter];refine hc.mono fun e w' ⟨v,r,h',S',M',clk',he,hK,hr',hC'⟩=>?_;subst he;exact hn _ _ _ hK (Rel.put hr' hd hC')
    obtain⟨f,id,g,z,i,oo,hy,hk⟩:=hk;have hCr:=hr.env tt;rw[show st.env.get tt=_ from hy]at hCr;obtain⟨v,hv,hg,hpo,h1v⟩:=hCr.inv_fnp;obtain⟨h1,h2⟩:=zbq hr.env _ _ hl;have hsz:(cargs.map a.eval ++ #[v]).size=(l.map (ev st.env.get)++[AV.ptr id g z i oo]).length:=by
     grind
    have hC:∀(j:Nat) (u:Value) (c:AV),(cargs.map a.eval ++ #[v])[j]? = some u→(l.map (ev st.env.get)++[AV.ptr id g z i oo])[j]? = some c→C w S M st.clk u c:=by
     intro j u c hu hc;have hs:cargs.size=l.length:=by omega
     rcases Yt j l.length with hj | hj
     ·grind
     ·rw[Array.getElem?_append_right (by grind)]at hu;rw[Yi (by grind)]at hc;simp only[Array.size_map,Ybr,hs]at hu hc;cases hq:j-l.length with
      | succ q=>grind
      | zero=>
       rw[hq]at hu hc;simp at hu hc;subst hu;subst hc;exact .ptr _ _ _ _ _ _ hg hpo h1v
    have hexec:=zus (P:=P) (a:=a) (w:=w) (dst:=dst) (type:=type) (pos:=pos) (after:=after) (guard:=guard) (ats:=ats) (cargs:=cargs) hv;rcases hk with hk | hk
    ·obtain⟨hent,hc⟩:=zc0 hr hk hsz hC;unfold Oper.wp;rw[hexec hent,Oper.upon_enter];refine hc.mono fun e w' ⟨v,r,h',S',M',he,hK,hr',hC'⟩=>?_;subst he;exact hn _ _ _ hK (Rel.put hr' hd hC')
    ·obtain⟨hent,hc⟩:=zc1 hr hk hsz hC;unfold Oper.wp;rw[hexec hent,Oper.upon_enter];refine hc.mono fun e w' ⟨v,r,h',S',M',clk',he,hK,hr',hC'⟩=>?_;subst he;exact hn _ _ _ hK (Rel.put hr' hd hC')
  | builtin b=>
   simp only at hop;split at hop
   ·split at hop
    ·obtain⟨p,_,rfl⟩:=map_some hop;exact quiet hk
    ·obtain⟨p,_,rfl⟩:=map_some hop;exact quiet hk
    ·cases hop;exact quiet hk
    grind
   ·obtain⟨l,_,hop1⟩:=bind_some hop;split at hop1<;>cases hop1;exact quiet hk
   ·obtain⟨l,_,hop1⟩:=bind_some hop;split at hop1<;>cases hop1;exact quiet hk
   ·split at hop
    ·rename_i htu;split at hop
     ·split at hop
      ·split at hop
       ·obtain⟨p,hp,hop1⟩:=bind_some hop;obtain⟨q,hq,rfl⟩:=map_some hop1;exact wr hk
       grind
      grind
     grind
    grind
   ·split at hop
    ·split at hop
     ·obtain⟨z,_,hop0⟩:=bind_some hop;split at hop0
      ·obtain⟨p,_,hop1⟩:=bind_some hop0;obtain⟨q,_,rfl⟩:=map_some hop1;exact quiet hk
      grind
     grind
    grind
   grind
 case convert s d y=>
  split at hop
  ·obtain⟨p,hp,rfl⟩:=map_some hop;exact quiet hk
  ·split at hop
   ·obtain⟨p,hp,rfl⟩:=map_some hop;exact quiet hk
   grind
  grind
 case move y=>obtain⟨p,hp,rfl⟩:=map_some hop;exact quiet hk
 case assign y=>obtain⟨p,hp,rfl⟩:=map_some hop;exact quiet hk
 case pick c u v=>
  obtain⟨c',hc,hop1⟩:=bind_some hop;obtain⟨u',hu,hop2⟩:=bind_some hop1;obtain⟨v',hv,rfl⟩:=map_some hop2;exact quiet hk
 case build t parts=>
  split at hop
  ·split at hop
   ·obtain⟨zs,hz,hop1⟩:=bind_some hop;obtain⟨ps,hp,rfl⟩:=map_some hop1;exact quiet hk
   grind
  ·obtain⟨n,_,hop0⟩:=bind_some hop;obtain⟨zs,hz,hop1⟩:=bind_some hop0;obtain⟨ps,hp,rfl⟩:=map_some hop1;exact quiet hk
  grind
 case load t y=>
  obtain⟨n,hn',hop1⟩:=bind_some hop;obtain⟨p,hp,rfl⟩:=map_some hop1;exact quiet hk
 case nilCheck y=>obtain⟨p,hp,rfl⟩:=map_some hop;exact quiet hk
 case binOp op' t y z _=>
  obtain⟨p,hp,hop1⟩:=bind_some hop;obtain⟨q,hq,hop2⟩:=bind_some hop1;split at hop2
  ·cases hop2;exact quiet hk
  ·cases hop2;exact quiet hk
  ·cases op'<;>cases hop2<;>exact quiet hk
  ·split at hop2
   ·cases op'<;>try cases hop2
    ·obtain⟨ls,hl,rfl⟩:=map_some hop2;exact quiet hk
    ·obtain⟨ls,hl,rfl⟩:=map_some hop2;exact quiet hk
   grind
  ·split at hop2
   ·cases op'<;>cases hop2<;>exact quiet hk
   grind
  grind
 case unOp op' t y=>obtain⟨p,hp,rfl⟩:=map_some hop;exact quiet hk
 case slice t y lo hi mx=>
  split at hop
  ·obtain⟨z,hz,hop1⟩:=bind_some hop;obtain⟨p,hp,hop2⟩:=bind_some hop1;obtain⟨lo',hlo,hop3⟩:=bind_some hop2;obtain⟨hi',hhi,hop4⟩:=bind_some hop3;obtain⟨mx',hmx,hop5⟩:=bind_some hop4;split at hop5<;>cases hop5;exact quiet hk
  ·split at hop
   ·obtain⟨p,hp,hop2⟩:=bind_some hop;obtain⟨lo',hlo,hop3⟩:=bind_some hop2;obtain⟨hi',hhi,rfl⟩:=map_some hop3;exact quiet hk
   grind
  grind
 case fieldAddr t y i=>
  split at hop
  ·split at hop
   ·obtain⟨n,hn',hop1⟩:=bind_some hop;split at hop1
    ·grind
    ·obtain⟨p,hp,rfl⟩:=map_some hop1;exact quiet hk
   grind
  grind
 case field t y i=>
  split at hop
  ·split at hop
   ·obtain⟨n,hn',hop1⟩:=bind_some hop;obtain⟨p,hp,rfl⟩:=map_some hop1;exact quiet hk
   grind
  grind
 case indexAddr t y i=>
  split at hop
  ·obtain⟨z,hz,hop1⟩:=bind_some hop;obtain⟨p,hp,hop2⟩:=bind_some hop1;obtain⟨q,hq,rfl⟩:=map_some hop2;exact quiet hk
  ·obtain⟨z,hz,hop1⟩:=bind_some hop;obtain⟨p,hp,hop2⟩:=bind_some hop1;obtain⟨q,hq,rfl⟩:=map_some hop2;exact quiet hk
  grind
 case index t y i=>
  split at hop
  ·obtain⟨p,hp,hop2⟩:=bind_some hop;obtain⟨q,hq,rfl⟩:=map_some hop2;exact quiet hk
  ·obtain⟨z,hz,hop1⟩:=bind_some hop;obtain⟨k,hk',hop3⟩:=bind_some hop1;obtain⟨p,hp,hop2⟩:=bind_some hop3;obtain⟨q,hq,rfl⟩:=map_some hop2;exact quiet hk
  grind
 case extract y i=>obtain⟨p,hp,rfl⟩:=map_some hop;exact quiet hk
end
end
section
open Go.RowKit
def opQ(P:Program)(op:AOp)(e:Env)(h:Heap)(older:List Heap)(K:AV→Prop):Prop:=
 match op with
 | .call f args=>∃ys,(Zb2 h (args.map (ev e.get))=some ys∧((args.map (ev e.get)).all noRef=false→∀h'∈older,Zb2 h' (args.map (ev e.get))=some ys))∧∃r,Zad P f ys (·=r)∧K r
 | .inv nm _ u r args=>u=0∧∃t y f,ev e.get r=.ifc t y∧Zdx P t nm=some f∧((drp1 y::args.map (ev e.get)).all noRef=true)∧∃x,Zad P f (drp1 y::args.map (ev e.get)) (·=x)∧K x
 | .bsl z zs len ps=>((ps.map fun p=>(p.1,ev e.get p.2)).all fun p=>noRef p.2)=true∧okK (Zdo z zs len [] (ps.map fun p=>(p.1,ev e.get p.2))) fun q=>K q.1
 | .app z (.c (.sl [] .nl)) y=>okK (Zf4 z (ev e.get y)) K
 | op=>okK (Zg op e.get h) fun x=>(match op.free with | true=>True | false=>∀h'∈older,Zg op e.get h'=some x)∧K x
def qK(P:Program)(o:AO)(e:Env)(h:Heap)(older:List Heap)(K:AV→Prop):Prop:=
 match o.guard with
 | none=>opQ P o.op e h older K
 | some (t,want)=>
  match e.get t with
  | .b v=>if v=want then opQ P o.op e h older K else K (.tup [])
  | .tup []=>K (.tup [])
  | _=>False
abbrev Zju:=List (Nat×(Heap→Prop))
def Zf6(P:Program):List DO→Env→Heap→Nat→List Heap→Zju→(St→Prop)→Prop
 | [],e,h,clk,_,_,K=>K ⟨e,h,clk⟩
 | o::r,e,h,clk,older,pend,K=>
  match o.ao.op.writes with
  | true=>o.ao.guard=none∧okK (stepW o.ao.op o.ao.dst e.get h clk) fun q=>(∀p∈pend,0<p.1→p.2 q.2.1)∧Zf6 P r (Zm e o.ao.dst q.1) q.2.1 q.2.2 (h::older) (pend.map fun p=>(p.1-1,p.2)) K
  | false=>qK P o.ao e h (older.take (older.length-o.lo)) fun x=>Zf6 P r (Zm e o.ao.dst x) h clk older ((o.hi-older.length,fun h'=>QF P h' o.ao e.get x)::pend) K
def Zlk(P:Program)(l:List DO)(st:St)(K:St→Prop):Prop:=Zf6 P l st.env st.heap st.clk [] [] K
section
variable{P:Program}{cx:Cx}{w w':World}{S S':Nat→Nat→Prop}{M:Map}{clk:Nat}{h:Heap}{ρ:Nat→AV}{a:Act}
theorem zas{nt:Nat}{ops:Array Oper}{o:Oper}{ao:AO}(hao:Zcu P nt ops o=some ao):∃op g,Zdn P o.op=some op∧Zbx ops o.guard=some g∧ao=⟨o.dst,g,op⟩∧∀e,o.dst=some e→e<nt:=by
 obtain⟨op,hop,hao1⟩:=bind_some hao;obtain⟨g,hg,hao2⟩:=bind_some hao1
 grind
theorem zcc{ops:Array Oper}{o:Oper}(hg:Zbx ops o.guard=some none)(a:Act):Region.wanted o (yielded ops a.tmps)=true:=by
 have hgn:o.guard=none:=by
  unfold Zbx at hg;split at hg
  ·omega
  ·obtain⟨d,_,hd⟩:=map_some hg;grind
 unfold Region.wanted
 grind
theorem zlz{ops:Array Oper}{o:Oper}{t:Nat}{want v:Bool}{x:AV}(hg:Zbx ops o.guard=some (some (t,want)))(hC:C w S M clk (a.tmps.getD t undef) x)(hx:x=.b v):Region.wanted o (yielded ops a.tmps)=(v == want):=by
 obtain⟨j,hgj,hjd⟩:∃j,o.guard=some (j,want)∧(ops[j]?).bind (·.dst)=some t:=by
  unfold Zbx at hg;split at hg
  ·grind
  ·obtain⟨d,hd,he⟩:=map_some hg
   grind
 subst hx;have hv:=hC.inv_b;unfold Region.wanted;simp only[yielded];cases hq:a.tmps[t]? with
 | none=>simp[hq,undef]at hv
 | some u=>
  simp_all
theorem zjr{ops:Array Oper}{o:Oper}{t:Nat}{want:Bool}{x:AV}{vs:List AV}(hg:Zbx ops o.guard=some (some (t,want)))(hC:C w S M clk (a.tmps.getD t undef) x)(hx:x=.tup vs):Region.wanted o (yielded ops a.tmps)=false:=by
 obtain⟨j,hgj,hjd⟩:∃j,o.guard=some (j,want)∧(ops[j]?).bind (·.dst)=some t:=by
  unfold Zbx at hg;split at hg
  ·grind
  ·obtain⟨d,hd,he⟩:=map_some hg
   grind
 subst hx;obtain⟨us,hv,_⟩:=hC.inv_tup;unfold Region.wanted;simp only[yielded];cases hq:a.tmps[t]? with
 | none=>grind
 | some u=>
  simp_all
theorem zqx:C w S M clk undef (.tup []):=.p (.tup #[] [] rfl fun j v c hv=>by grind)
theorem zcv{nt:Nat}{ops:Array Oper}{Q:Exit→Act→World→Prop}(hnt:nt=cx.nt):∀(l:List Oper) (aos:List AO) (st:St) (K:St→Prop) (a:Act) (w:World),Zan P nt ops l=some aos→Zd5 P aos st K→Rel cx st a w →
  (∀st' a' w',K st'→Rel cx st' a' w'→Q .normal a' w')→wpList P ops Q l a w
 | [],aos,st,K,a,w,hres,hk,hr,hQ=>by
  simp only[Zan,Option.some.injEq]at hres;subst hres;exact hQ st a w hk hr
 | o::l,aos,st,K,a,w,hres,hk,hr,hQ=>by
  obtain⟨ao,hao,hres1⟩:=bind_some hres;obtain⟨rest,hrest,rfl⟩:=map_some hres1;obtain⟨op,g,hop,hg,rfl,hd⟩:=zas hao;subst hnt;simp only[Zd5,Zgp]at hk;refine wpList_step fun N hN=>?_;have next:∀st' a' w',Zd5 P rest st' K→Rel cx st' a' w'→N a' w':=fun st' a' w' h1 h2=>hN a' w' (zcv rfl l rest st' K a' w' hrest h1 h2 hQ)
  obtain⟨S,M,hrf⟩:=hr;have skip:Zd5 P rest ⟨Zm st.env o.dst (.tup []),st.heap,st.clk⟩ K→N (a.put o.dst undef) w:=fun h1=>next _ _ _ h1 (Rel.put hrf hd zqx)
  cases g with
  | none=>
   grind[zcc,zjp]
  | some tw=>
   obtain⟨t,want⟩:=tw;have hC:=hrf.env t
   grind[zlz,zjp,zjr]
theorem zqy{o:Op}{nm:String}{k u:Nat}{r:Opd}{args:List Opd}(hop:Zdn P o=some (.inv nm k u r args))(hu:u=0) :
  ∃rr cargs ats,o=.call { callee:=.invoke rr nm,args:=cargs,argTypes:=ats }∧Zh rr=some r∧Zbu cargs.toList=some args:=by
 replace hop:=zaw hop;rcases hop with hop | ⟨k,xs,he,_⟩
 rotate_left
 ·grind
 cases o<;>simp only[Zbl]at hop
 case call c=>
  obtain⟨callee,cargs,ats⟩:=c;cases callee with
  | invoke rr m=>
   obtain⟨p,hp,hr1⟩:=bind_some hop;obtain⟨l,hl,he⟩:=map_some hr1;injection he with h1 h2 h3 h4 h5
   subst h1 h4 h5
   grind
  | builtin b=>
   exfalso;revert hop;simp only
   repeat' split
   all_goals simp[Yd]
  | value fv=>
   cases fv<;>simp only at hop<;>try simp_all
   all_goals simp_all
 all_goals
  exfalso;revert hop
  repeat' split
  all_goals simp[Yd]
theorem RelF.heap_congr{cx:Cx}{h h2:Heap}{ρ:Nat→AV}{a:Act}(he:∀id,h2.lookup id=h.lookup id)(hr:RelF cx S M clk h ρ a w):RelF cx S M clk h2 ρ a w:=
 ⟨hr.size,hr.defers,hr.env,⟨⟨fun b bx hb=>hr.wr.heap.box b bx (by grind),fun g m hm=>by
   obtain⟨b,bx,h1,h2⟩:=hr.wr.heap.live g m hm
   grind,fun b bx b' bx' h1 h2 hg=>hr.wr.heap.gens b bx b' bx' (by grind) (by grind) hg,hr.wr.heap.inj⟩,hr.wr.ext,hr.wr.fr,hr.wr.Snew,hr.wr.Slt,hr.wr.Mnew⟩⟩
theorem zou{ids:List BId}(hk:∀id bx,id∈ids→h.lookup id=some bx→bx.kind=.sh)(b:BId):h.lookup b=(Zj ids h).lookup b:=by
 rw[zch];cases hb:h.lookup b with
 | none=>rfl
 | some bx=>
  split
  ·rename_i hc;cases bx
   grind
  ·rfl
theorem zut{x:AV}(hx:shR h x=true):∀id bx,id∈refs x→h.lookup id=some bx→bx.kind=.sh:=by
 intro id bx hid hb;have:=Yh.1 hx id hid
 grind
theorem zx1{vs:List Value}:∀{xs ys:List AV},Zb2 h xs=some ys→vs.length=xs.length→HeapRel w S M clk h→(∀(j:Nat) (v:Value) (c:AV),vs[j]? = some v→xs[j]? = some c→C w S M clk v c) →
  ∃ids:List BId,(∀id bx,id∈ids→h.lookup id=some bx→bx.kind=.sh)∧vs.length=ys.length∧∀(j:Nat) (v:Value) (c:AV),vs[j]? = some v→ys[j]? = some c→CP w (Zbz h M ids S) v c:=by
 intro xs ys hf hl hh hc;refine⟨(xs.filter fun x=>!noRef x).flatMap refs,fun id bx hid hb=>?_,?_⟩
 ·obtain⟨x,hx,hix⟩:=Yac.1 hid;clear hc hl hid
  induction xs generalizing ys with
  | nil=>grind
  | cons x0 xs ih=>
   obtain⟨y,hy,hf1⟩:=bind_some hf;obtain⟨ys',hys,_⟩:=map_some hf1
   grind[Zhw,zut]
 ·have key:∀(xs ys:List AV),Zb2 h xs=some ys→xs.length=ys.length∧∀(j:Nat) (x y:AV),xs[j]? = some x→ys[j]? = some y→Zhw h x=some y:=by
   intro xs
   induction xs with
   | nil=>grind[Zb2]
   | cons x0 xs ih=>
    intro ys h0;obtain⟨y,hy,hf1⟩:=bind_some h0;obtain⟨ys',hys,rfl⟩:=map_some hf1
    grind
  obtain⟨k1,k2⟩:=key xs ys hf;refine⟨by omega,fun j v y hv hy=>?_⟩;have hj:j<xs.length:=by grind
  have hx:xs[j]? = some (xs[j]'hj):=Ya hj;have hC:=hc j v _ hv hx;have hfj:=k2 j _ _ hx hy;unfold Zhw at hfj;split at hfj
  ·rename_i hn;cases hfj;exact(hC.mono (zin _)).noRef hn
  grind[ze7]
theorem zdq{nt:Nat}{ops:Array Oper}{Q':Exit→Act→World→Prop}{i:Nat}{o:Oper}{ao:AO}{x:AV}{K:Act→World→Prop}(ho:ops[i]? = some o)(hnt:nt=cx.nt)
  (hao:Zcu P nt ops o=some ao) (hq:QF P h ao ρ x) (hr:Ze1 cx clk h ρ a w) (hK:∀a' w',Ze1 cx clk h (upd ρ o.dst x) a' w'→K a' w'):wpOp P ops Q' i K a w:=by
 subst hnt;obtain⟨S,M,hr⟩:=hr;obtain⟨op,g,hop,hg,rfl,hd⟩:=zas hao;unfold wpOp;simp only[ho];have skip:x=.tup []→Region.wanted o (yielded ops a.tmps)=false→if Region.wanted o (yielded ops a.tmps)=true then o.wp P a w K Q'∨o.asks P a w∧LetsOut Q' else K (a.put o.dst undef) w:=by
  intro hx hw;rw[hw];subst hx;exact hK _ _ ⟨S,M,hr.put hd zqx⟩
 have run:Region.wanted o (yielded ops a.tmps)=true→QOp P op ρ h x→if Region.wanted o (yielded ops a.tmps)=true then o.wp P a w K Q'∨o.asks P a w∧LetsOut Q' else K (a.put o.dst undef) w:=by
  intro hw hqo;rw[hw];refine .inl ?_;have quiet:Zg op ρ h=some x→o.wp P a w K Q':=by
   intro hs;obtain⟨v,hv,hC⟩:=zgs (P:=P) hop hr.env hr.wr.heap hs;exact zc2 hv (hK _ _ ⟨S,M,hr.put hd hC⟩)
  cases op with
  | call f args=>
   obtain⟨ys,hfr,hent1,hp⟩:=hqo;obtain⟨dst,oop,type,pos,after,guard⟩:=o;obtain⟨cargs,ats,hcall,hl⟩:=zdn hop;subst hcall;obtain⟨r1,r2⟩:=zbq hr.env _ _ hl;obtain⟨ids,hk,h1,h2⟩:=zx1 (vs:=cargs.toList.map a.eval) hfr (by grind) hr.wr.heap (fun j v c hv hc=>r2 j v c hv hc);replace hr:=(hr.share ids fun id bx hid hb=>by grind).heap_congr (h2:=h) (zou hk);have hc:=hp w _ (cargs.map a.eval) (by grind) (fun j v c hv hc=>h2 j v c (by grind) hc) hr.wr.Slt;unfold Oper.wp;have hrun:(execOp a.eval { dst:=dst,op:=.call { callee:=.value (.func f),args:=cargs,argTypes:=ats },type:=type,pos:=pos,after:=after,guard:=guard }).run P w=.ok (.enter f (cargs.map a.eval)) w:=by
    simp only[execOp,resolve,Act.eval,Deferred.ofValue,Sem.run_bind,Sem.run_pure,Result.andThen_ok,invoke];have:=hent1 (cargs.map a.eval) w
    grind
   rw[hrun,Oper.upon_enter];refine hc.mono fun e w' ⟨v,r,he,hpr,hb,hC⟩=>?_;subst he;subst hpr;exact hK _ _ ⟨_,M,(hr.below hb).put hd (.p hC)⟩
  | inv nm k u r args=>
   obtain⟨hu0,t,y,f,hy,hm,hn,hent1,hp⟩:=hqo;obtain⟨dst,oop,type,pos,after,guard⟩:=o;obtain⟨rr,cargs,ats,rfl,hrr,hl⟩:=zqy hop hu0;have hCr:=ev_C hr.env hrr;rw[hy]at hCr;obtain⟨v,hv,hCy⟩:=hCr.inv_ifc;obtain⟨h1,h2⟩:=zbq hr.env _ _ hl;have hsz:(#[v]++cargs.map a.eval).size=(drp1 y::args.map (ev ρ)).length:=by
    grind
   have hC:∀(j:Nat) (u:Value) (c:AV),(#[v]++cargs.map a.eval)[j]? = some u→(drp1 y::args.map (ev ρ))[j]? = some c→CP w S u c:=by
    intro j u c hu hc;have hnr:=Yh.1 hn c (Yf hc);cases j with
    | zero=>
     rw[Ycj (by simp)]at hu;cases hu;cases hc;exact hCy.drp1.noRef hnr
    | succ j=>
     exact(h2 j u c (by grind) (by grind)).noRef hnr
   have hc:=hp w S (#[v]++cargs.map a.eval) hsz hC hr.wr.Slt;unfold Oper.wp;rw[zhv hv hm hent1,Oper.upon_enter];refine hc.mono fun e w' ⟨v,r,he,hpr,hb,hC⟩=>?_;subst he;subst hpr;exact hK _ _ ⟨_,M,(hr.below hb).put hd (.p hC)⟩
  | bsl z zs len ps=>
   obtain⟨hn,h0,hb⟩:=hqo;obtain⟨dst,oop,type,pos,after,guard⟩:=o;obtain⟨t,parts,e,ht,hz,hlim,hzs,hzl,hps,rfl⟩:∃t parts e,P.underlying t=some (.slice e)∧Zaw P e=some z∧(len*z≤16777216∧z≠0)∧zeros P e=some zs∧zs.length=z∧Zch parts.toList=some ps∧oop=.buildSlice t len parts:=by
    have hcall:∀c,oop=.call c→(AOp.bsl z zs len ps).makes=false:=fun c hc=>zhu (P:=P) (by rw[←hc];omega);have hop':=zaw hop;clear hop;rcases hop' with hop | ⟨k,xs,he,_⟩
    rotate_left
    ·grind
    cases oop<;>simp only[Zbl]at hop
    case buildSlice t len' parts=>
     split at hop
     ·obtain⟨z',hz,hop1⟩:=bind_some hop;split at hop1
      ·obtain⟨zs',hzs,hop2⟩:=bind_some hop1;split at hop2
       ·obtain⟨ps',hps,he⟩:=map_some hop2
        grind
       grind
      grind
     grind
    case call c=>exact absurd (hcall c rfl) (by simp[AOp.makes])
    all_goals
     exfalso;revert hop
     repeat' split
     all_goals simp[Yd]
   obtain⟨h1,h2⟩:=zd8 hr.env _ _ hps
   -- parts without boxes are the same,whatever boxes there are
   have pure1:∀x:AV,noRef x=true→Za1 h x=Za1 [] x∧refs x=[]:=by
    intro x hx;have hc:∀c:AV,pureC c=true→Zby h c=Zby [] c:=by intro c hc;cases c<;>first | rfl | cases hc
    cases x<;>try (exact⟨rfl,rfl⟩)
    case agg cs=>
     simp only[noRef,Yh]at hx;refine⟨?_,?_⟩
     ·simp only[Za1];have:cs.mapM (Zby h)=cs.mapM (Zby []):=by
       induction cs with
       | nil=>rfl
       | cons c cs ih=>grind
      grind
     ·simp only[refs,List.flatMap_eq_nil_iff];intro c hcm;have:=hx c hcm;cases c<;>first | rfl | cases this
    all_goals cases hx
   have hq:∀qs:List (Nat×AV),(qs.all fun p=>noRef p.2)=true→Zgn h qs=Zgn [] qs∧(qs.flatMap fun p=>refs p.2)=[]:=by
    intro qs
    induction qs with
    | nil=>intro _;exact⟨rfl,rfl⟩
    | cons q qs ih=>
     intro hall;obtain⟨i,y⟩:=q;simp only[Ybx,Yj]at hall;obtain⟨e1,e2⟩:=ih hall.2;obtain⟨e3,e4⟩:=pure1 y hall.1;exact⟨by simp only[Zgn,e1,e3],by grind⟩
   obtain⟨e1,e2⟩:=hq _ hn;have hb':Zdo z zs len h (ps.map fun p=>(p.1,ev ρ p.2))=some (x,h):=by
    unfold Zdo at hb ⊢;obtain⟨qs,hqs,hb1⟩:=bind_some hb;obtain⟨els,hels,he⟩:=map_some hb1
    grind[Zj]
   obtain⟨v',w',S',M',h3,h4,h5⟩:=zjn (parts:=Array.map (fun(x:Nat×Operand)=>(x.fst,a.eval x.snd)) parts) hr ht hz hlim.1 hlim.2 hzs hzl (by simp_all) (fun j v x hv hx=>h2 j v x (by grind) hx) hb';exact zc2 (w':=w') (zf0 h3) (hK _ _ ⟨S',M',h4.put hd h5⟩)
  | app z px py=>
   by_cases hx:px=.c (.sl [] .nl)
   ·subst hx;have hs:Zf4 z (ev ρ py)=some x:=hqo;obtain⟨dst,oop,type,pos,after,guard⟩:=o;have hop':=zaw hop;clear hop;rcases hop' with hop | ⟨k,xs,he,_⟩
    rotate_left
    ·grind
    cases oop<;>simp only[Zbl]at hop
    case call c=>
     obtain⟨callee,cargs,ats⟩:=c;cases callee with
     | invoke r m=>
      obtain⟨p,hp,hr1⟩:=bind_some hop
      simp_all
     | value fv=>
      cases fv<;>simp only at hop<;>try simp_all
      all_goals simp_all
     | builtin b=>
      simp only at hop;split at hop
      ·revert hop
       repeat' split
       all_goals simp
      ·obtain⟨l,_,hop1⟩:=bind_some hop;grind
      ·obtain⟨l,_,hop1⟩:=bind_some hop;grind
      ·rename_i y1 y2 t u hargs hts;split at hop
       ·rename_i htu;split at hop
        ·rename_i e ht;split at hop
         ·rename_i inf hi;split at hop
          ·rename_i hcond;obtain⟨h0,hby,hzs⟩:=hcond;obtain⟨p,hp,hop1⟩:=bind_some hop;obtain⟨q,hq,he⟩:=map_some hop1;cases he;obtain⟨zv,hzv,hzc⟩:∃zv,inf.zero=some zv∧zv.cells.size=inf.size:=by
            cases hzz:inf.zero with
            | none=>grind
            | some zv=>grind
           obtain⟨v',w',S',M',h1,h2,h3⟩:=zqr (P:=P) (ty:=type) hr ht hi h0 hby hzv hzc rfl (ev_C hr.env hp) (ev_C hr.env hq) hs;have ha:cargs=#[y1,y2]:=by grind
           have hat:ats=#[t,t]:=by grind
           subst ha;subst hat;exact zc2 (w':=w') (by simp[execOp,resolve,invoke,builtin,h1]) (hK _ _ ⟨S',M',h2.put hd h3⟩)
          grind
         grind
        grind
       grind
      ·split at hop
       ·split at hop
        ·obtain⟨z,_,hop0⟩:=bind_some hop;split at hop0
         ·obtain⟨p,_,hop1⟩:=bind_some hop0
          simp_all
         grind
        grind
       grind
      grind
    all_goals
     exfalso;revert hop
     repeat' split
     all_goals simp[Yd]
   ·exact((zrp hx).1 hqo).elim
  | _=>exact quiet hqo
 unfold QF at hq;cases g with
 | none=>exact run (zcc hg a) hq
 | some tw=>
  obtain⟨t,want⟩:=tw;rcases hq with ⟨hb,hqo⟩ | ⟨hb,hx⟩
  ·exact run (by rw[zlz hg (hr.env t) hb];simp) hqo
  ·refine skip hx ?_;rcases hb with hb | hb
   ·rw[zlz hg (hr.env t) hb];grind
   ·exact zjr hg (hr.env t) hb
end
end
section
open Go.RowKit
section
variable{P:Program}{ops:Array Oper}
theorem zd0{md:Region.Mode}:∀(n k:Nat) (listed:Array Bool),Region.lexFrom md ops n k listed=true→(∀i,listed.getD i false=true→i<k)→∀i o,k≤i→i<k+n→ops[i]? = some o→∀e∈o.after,Region.binds md e=true→e.on<i
 | 0,k,listed,_,_,i,o,h1,h2,_,_,_,_=>by omega
 | n+1,k,listed,hB,hl,i,o,h1,h2,ho,e,he,hb=>by
  simp only[Region.lexFrom,Yj]at hB;obtain⟨⟨hr,_⟩,hB'⟩:=hB;by_cases hik:i=k
  ·grind[mem_ready]
  ·refine zd0 n (k+1) _ hB' (fun j hj=>?_) i o (by omega) (by omega) ho e he hb;by_cases hjk:k=j
   ·omega
   ·rw[getD_set_ne false hjk]at hj
    grind
theorem zqz(hB:Region.lexB .any ops=true):∀(i:Nat) (o:Oper),ops[i]? = some o→∀e∈o.after,Region.binds .any e=true→e.on<i:=by
 simp only[Region.lexB,Yj]at hB;intro i o ho;have hi:i<ops.size:=(Yck.1 ho).1
 grind[zd0,getD_replicate_false]
theorem zov{listed:Array Bool}(hB:Region.lexB .any ops=true)(hr:Region.ready .any ops listed=[])(hsz:listed.size=ops.size):∀i,i<ops.size→listed.getD i false=true:=by
 intro i
 induction i using Nat.strongRecOn with
 | _ i ih=>
  intro hi;cases hl:listed.getD i false with
  | true=>rfl
  | false=>
   have ho:ops[i]? = some (ops[i]'hi):=Yw hi;have:i∈Region.ready .any ops listed:=mem_ready.2 ⟨getD_in (by omega) hl,_,ho,fun e he hb=>by
    grind[zqz]⟩
   grind
theorem zd9{listed:Array Bool}(hc:Clo .any ops listed):∀(n v i:Nat),(listed.getD i false=true∨i∈Region.ready .any ops listed)→Zea ops n v i=true→listed.getD v false=true
 | 0,_,_,_,h=>by cases h
 | n+1,v,i,hi,h=>by
  simp only[Zea]at h;split at h
  ·cases h
  ·rename_i o ho;obtain⟨e,he,hb⟩:=Array.any_eq_true'.1 h;simp only[Yj,Ya2,beq_iff_eq]at hb;have hl:listed.getD e.on false=true:=by
    rcases hi with hi | hi
    ·exact hc.closed i o ho hi e he hb.1
    ·obtain⟨_,o',ho',hall⟩:=mem_ready.1 hi;rw[ho]at ho';cases ho';exact hall e he hb.1
   rcases hb.2 with hb2 | hb2
   ·rw[←hb2];exact hl
   ·exact zd9 hc n v e.on (.inl hl) hb2
theorem zde:∀(ws:List Nat) (m a b:Nat),chained ops ws=true→ws[m]? = some a→ws[m+1]? = some b→∃o,ops[b]? = some o∧∃e∈o.after,Region.binds .any e=true∧e.on=a
 | [],_,_,_,_,h,_=>by simp at h
 | [x],m,_,_,_,_,h=>by cases m<;>simp at h
 | x::y::r,m,a,b,hc,h1,h2=>by
  simp only[chained,Yj]at hc;cases m with
  | zero=>
   simp at h1 h2;subst h1;subst h2;have h3:=hc.1;split at h3
   ·rename_i o ho;obtain⟨e,he,hb⟩:=Array.any_eq_true'.1 h3;simp only[Yj,beq_iff_eq]at hb;exact⟨o,ho,e,he,hb.1,hb.2⟩
   ·cases h3
  | succ m=>exact zde (y::r) m a b hc.2 (by simpa using h1) (by simpa using h2)
theorem zdf{ws:List Nat}{listed:Array Bool}(hch:chained ops ws=true)(hc:Clo .any ops listed):∀(d p v u:Nat),ws[p]? = some v→ws[p+d]? = some u→listed.getD u false=true→listed.getD v false=true
 | 0,p,v,u,h1,h2,hl=>by rw[Y1,h1]at h2;cases h2;exact hl
 | d+1,p,v,u,h1,h2,hl=>by
  have hlt:p+d<ws.length:=by have:=zci h2;omega
  have hx:ws[p+d]? = some (ws[p+d]'hlt):=Ya hlt;obtain⟨o,ho,e,he,hb,hon⟩:=zde ws (p+d) _ u hch hx h2;have:=hc.closed u o ho hl e he hb;rw[hon]at this;exact zdf hch hc d p v _ h1 hx this
theorem zcj{ws:List Nat}{f:Nat→Bool}:∀(p:Nat),p≤ws.length→(∀m v,ws[m]? = some v→(f v=true↔m<p))→(ws.filter f).length=p:=by
 induction ws with
 | nil=>grind
 | cons x ws ih=>
  intro p hp h;have h0:=h 0 x rfl;cases p with
  | zero=>
   have hx:f x=false:=by grind
   simp only[List.filter_cons,hx,Yaw,if_false];exact ih 0 (Yu _) fun m v hv=>by
    have:=h (m+1) v (by grind)
    grind
  | succ p=>
   have hx:f x=true:=h0.2 (Nat.succ_pos _);simp only[List.filter_cons,hx,if_true,Yk];rw[ih p (by grind) fun m v hv=>by
    have:=h (m+1) v (by grind)
    grind]
theorem zcd(l:List AO)(k:Nat):k∈Zo l↔∃ao,l[k]? = some ao∧ao.op.writes=true:=by
 unfold Zo;simp only[Yz,List.mem_filter];constructor
 ·grind
 ·rintro⟨ao,h1,h2⟩
  exact⟨(ao,k),⟨by grind,h2⟩,rfl⟩
theorem zhk(l:List AO):(Zo l).Pairwise (· < ·):=by
 unfold Zo;rw[List.pairwise_map];have key:∀(l:List AO) (k:Nat),(l.zipIdx k).Pairwise (fun a b=>a.2<b.2):=by
  intro l
  induction l with
  | nil=>simp_all
  | cons x l ih=>
   grind[List.zipIdx_cons,List.pairwise_cons]
 grind
theorem zhw{ws:List Nat}(hs:ws.Pairwise (· < ·)){p q a b:Nat}(h1:ws[p]? = some a)(h2:ws[q]? = some b)(hpq:p<q):a<b:=by
 grind[List.pairwise_iff_getElem]
theorem zq0{o:AO}{ρ:Nat→AV}{x:AV}(hf:o.op.freeE ρ=true)(h1 h2:Heap)(hq:QF P h1 o ρ x):QF P h2 o ρ x:=by
 grind[QF,zvb]
theorem zuu{o:AO}{e:Env}{h:Heap}{older:List Heap}{K:AV→Prop}(hw:o.op.writes=false)(hk:qK P o e h older K):∃x,QF P h o e.get x∧(o.op.freeE e.get=false→∀h'∈older,QF P h' o e.get x)∧K x:=by
 obtain⟨dst,guard,op⟩:=o;have one:opQ P op e h older K→∃x,QOp P op e.get h x∧(op.freeE e.get=false→∀h'∈older,QOp P op e.get h' x)∧K x:=by
  intro hk;by_cases hap:∃z x0 y,op=.app z x0 y
  ·obtain⟨z,x0,y,rfl⟩:=hap;by_cases hx:x0=.c (.sl [] .nl)
   ·subst hx;obtain⟨x,h1,h2⟩:=hk;exact⟨x,h1,fun hf=>(by cases hf),h2⟩
   grind[zoq]
  cases op
  case app=>grind
  case call f args=>
   obtain⟨ys,⟨h1,h2⟩,r,h3,h4⟩:=hk;exact⟨r,⟨ys,h1,h3⟩,fun hf h' hh=>⟨ys,h2 hf h' hh,h3⟩,h4⟩
  all_goals first
   | (obtain⟨h1,r,h2,h3⟩:=hk;exact⟨r,⟨h1,h2⟩,fun hf=>(by cases hf),h3⟩)
   | (obtain⟨h0,t,y,f,h1,h2,h3,r,h4,h5⟩:=hk;exact⟨r,⟨h0,t,y,f,h1,h2,h3,h4⟩,fun hf=>(by cases hf),h5⟩)
   | (obtain⟨h1,⟨r,h'⟩,h2,h3⟩:=hk;exact⟨r,⟨h1,h',h2⟩,fun hf=>(by cases hf),h3⟩)
   | (obtain⟨x,hx,h2,hK⟩:=hk;exact⟨x,hx,fun hf=>(by simp only[AOp.freeE]at hf;simp only[hf]at h2;exact h2),hK⟩)
 unfold qK at hk;unfold QF;cases guard with
 | none=>grind
 | some tw=>
  obtain⟨t,want⟩:=tw;simp only at hk ⊢;split at hk
  ·rename_i v hv;by_cases hvw:v=want
   ·grind
   ·have:e.get t=.b (!want):=by
     cases v<;>cases want<;>simp_all
    grind
  all_goals grind
def FD(P:Program)(ops:Array Oper)(aos:List AO)(H:Nat→Heap)(C:Nat→Nat)(i:Nat)(ρ:Nat→AV)(x:AV):Prop:=
 ∃ao,aos[i]? = some ao ∧
  match ao.op.writes with
  | true=>ao.guard=none∧∃p,(Zo aos)[p]? = some i∧stepW ao.op ao.dst ρ (H p) (C p)=some (x,H (p+1),C (p+1))
  | false=>∀j,Zia ops (Zo aos) i≤j→j≤Zfn ops (Zo aos) i→QF P (H j) ao ρ x
theorem zl0{aos:List AO}{K:St→Prop}(hok:Zeb ops aos=true)(hdst:∀(i:Nat) (o:Oper),ops[i]? = some o→∃ao:AO,aos[i]? = some ao∧ao.dst=o.dst) :
  ∀(l:List Oper) (k:Nat) (rest:List AO) (e:Env) (h:Heap) (clk:Nat) (older:List Heap) (oc:List Nat) (pend:Zju),(∀i,l[i]? = ops[k+i]?)→(∀i,rest[i]? = aos[k+i]?)→l.length=rest.length→oc.length=older.length →
   older.length≤(Zo aos).length→(∀m v,(Zo aos)[m]? = some v→(v<k↔m<older.length)) →
   Zf6 P ((rest.zipIdx k).map fun p=>⟨p.1,Zia ops (Zo aos) p.2,Zfn ops (Zo aos) p.2⟩) e h clk older pend K →
   ∃(H:Nat→Heap) (C:Nat→Nat),(∀m x,older.reverse[m]? = some x→H m=x)∧(∀m x,oc.reverse[m]? = some x→C m=x)∧H older.length=h∧C older.length=clk∧(∀p∈pend,∀j,older.length<j→j≤older.length+p.1→j≤(Zo aos).length→p.2 (H j)) ∧
    Zfe ops (FD P ops aos H C) (fun ρ=>∃e,ρ=Env.get e∧K ⟨e,H (Zo aos).length,C (Zo aos).length⟩) l k e.get
 | [],k,rest,e,h,clk,older,oc,pend,hl,hr,hlen,hoc,hle,hws,hk=>by
  have:rest=[]:=by grind
  subst this;simp only[List.zipIdx_nil,Yb9,Zf6]at hk;have hfull:older.length=(Zo aos).length:=by
   rcases Yt older.length (Zo aos).length with hlt | hge
   ·have hx:(Zo aos)[older.length]? = some ((Zo aos)[older.length]'hlt):=Ya hlt;have h1:=(hws _ _ hx);have hmem:((Zo aos)[older.length]'hlt)∈Zo aos:=Yp _;obtain⟨ao,h2,_⟩:=(zcd aos _).1 hmem;have h4:=hr (((Zo aos)[older.length]'hlt)-k)
    grind
   omega
  refine⟨fun m=>if m=older.length then h else (older.reverse[m]?).getD [],fun m=>if m=older.length then clk else (oc.reverse[m]?).getD 0,fun m x hx=>?_,fun m x hx=>?_,by simp,by simp,fun p _ j h1 _ h3=>by omega,⟨e,rfl,?_⟩⟩
  all_goals grind
 | o::l,k,rest,e,h,clk,older,oc,pend,hl,hr,hlen,hoc,hle,hws,hk=>by
  cases rest with
  | nil=>grind
  | cons ao rest=>
   have ho:ops[k]? = some o:=by simpa using (hl 0).symm
   have hao:aos[k]? = some ao:=by simpa using (hr 0).symm
   obtain⟨ao',h1,hd⟩:=hdst k o ho;rw[hao]at h1;cases h1;have hl':∀i,l[i]? = ops[(k+1)+i]? := fun i=>by have:=hl (i+1);grind
   have hr':∀i,rest[i]? = aos[(k+1)+i]? := fun i=>by have:=hr (i+1);grind
   have hlen':l.length=rest.length:=by grind
   simp only[Ydl,Yv,Zf6]at hk;have hsort:=zhk aos;unfold Zeb at hok;cases hwr:ao.op.writes with
   | true=>
    rw[hwr]at hk;simp only at hk;obtain⟨hgn,⟨x,h',clk'⟩,hst,hpd,hk2⟩:=hk;have hkm:k∈Zo aos:=(zcd aos k).2 ⟨ao,hao,hwr⟩;obtain⟨m,hm⟩:=Y8 hkm;have hmo:m=older.length:=by
     have h1:=hws m k hm;have h2:¬ m<older.length:=fun hh=>Ya9 k (h1.2 hh);rcases Yt older.length m with h3 | h3
     ·have hlt:older.length<(Zo aos).length:=by grind
      have hx:(Zo aos)[older.length]? = some ((Zo aos)[older.length]'hlt):=Ya hlt
      grind[zhw]
     omega
    subst hmo;obtain⟨H,C,hH,hC,hHe,hCe,hPe,hlex⟩:=zl0 (K:=K) (by grind[Zeb]) hdst l (k+1) rest (Zm e ao.dst x) h' clk' (h::older) (clk::oc) (pend.map fun p=>(p.1-1,p.2)) hl' hr' hlen' (by grind) (by grind) (fun m v hv=>by
     grind[zhw]) hk2
    refine⟨H,C,fun m x hx=>hH m x ?_,fun m x hx=>hC m x ?_,?_,?_,fun p hp j h1 h2 h3=>?_,?_⟩
    ·grind
    ·grind
    ·exact hH older.length h (by simp)
    ·grind
    ·simp only[Yk]at hHe hPe;rcases Yt (older.length+1) j with h4 | h4
     ·exact hPe (p.1-1,p.2) (Yz.2 ⟨p,hp,rfl⟩) j h4 (by omega) h3
     grind
    ·refine⟨x,⟨ao,hao,?_⟩,?_⟩
     ·simp only[hwr];refine⟨hgn,older.length,hm,?_⟩;have e1:H older.length=h:=hH older.length h (by simp)
      grind
     grind[zdd]
   | false=>
    rw[hwr]at hk;obtain⟨x,hq1,hq2,hk2⟩:=zuu hwr hk;have hkm:k∉Zo aos:=fun hmem=>by
     grind[zcd]
    obtain⟨H,C,hH,hC,hHe,hCe,hPe,hlex⟩:=zl0 (K:=K) (by grind[Zeb]) hdst l (k+1) rest (Zm e ao.dst x) h clk older oc ((Zfn ops (Zo aos) k-older.length,fun h'=>QF P h' ao e.get x)::pend) hl' hr' hlen' hoc hle (fun m v hv=>by
     grind) hk2
    refine⟨H,C,hH,hC,hHe,hCe,fun p hp=>hPe p (Ym _ hp),x,⟨ao,hao,?_⟩,?_⟩
    ·simp only[hwr];intro j hlo hhi;cases hfr:ao.op.freeE e.get with
     | true=>exact zq0 hfr h _ hq1
     | false=>
      rcases Yt j older.length with hj | hj
      ·have hx:older.reverse[j]? = some (older.reverse[j]'(by grind)):=Ya _;rw[hH j _ hx];have hx2:(older.take (older.length-Zia ops (Zo aos) k))[older.length-1-j]? = some (older[older.length-1-j]'(by omega)):=by
        grind
       grind
      ·rcases Yt older.length j with hj2 | hj2
       ·grind[Zfn,List.mem_cons_self]
       grind
    ·rw[←hd,←zdd];omega
end
end
section
open Go.RowKit
section
variable{P:Program}{ops:Array Oper}{cx:Cx}{w:World}{a:Act}
theorem zb3{nt:Nat}{ops:Array Oper}:∀(l:List Oper) (aos:List AO),Zan P nt ops l=some aos→∀(i:Nat) (o:Oper),l[i]? = some o→∃ao,aos[i]? = some ao∧Zcu P nt ops o=some ao
 | [],aos,_,i,o,h=>by simp at h
 | o'::l,aos,hres,i,o,h=>by
  obtain⟨ao,hao,hres1⟩:=bind_some hres;obtain⟨rest,hrest,rfl⟩:=map_some hres1;cases i with
  | zero=>simp at h;subst h;exact⟨ao,rfl,hao⟩
  | succ i=>exact zb3 l rest hrest i o (by simpa using h)
theorem zb4{nt:Nat}{ops:Array Oper}:∀(l:List Oper) (m:List AO),Zan P nt ops l=some m→l.length=m.length
 | [],m,h=>by simp only[Zan,Option.some.injEq]at h;subst h;rfl
 | o::l,m,h=>by
  obtain⟨ao,_,h1⟩:=bind_some h;obtain⟨rest,hr,rfl⟩:=map_some h1;simp[zb4 l rest hr]
theorem zea{o:Oper}{op:AOp}{ρ ρ':Nat→AV}{d:Option Nat}{h:Heap}{clk:Nat}(hop:Zdn P o.op=some op)(hρ:∀t,Operand.tmp t∈o.op.operands.toList→ρ t=ρ' t):stepW op d ρ h clk=stepW op d ρ' h clk:=by
 obtain⟨dst,oop,type,pos,after,guard⟩:=o;have hop':=zaw hop;clear hop;rcases hop' with hop | ⟨k,xs,he,hx⟩
 rotate_left
 ·subst he;rcases hx with hx | ⟨rfl,rfl⟩
  ·have e1:xs.map (ev ρ)=xs.map (ev ρ'):=List.map_congr_left fun y hy=>by
    cases y with
    | t t=>exact hρ t (znx hx t hy)
    | c v=>rfl
   simp only[stepW,e1]
  ·rfl
 cases oop<;>simp only[Zbl]at hop<;>try (cases hop;done)
 case alloc t=>obtain⟨zs,_,rfl⟩:=map_some hop;rfl
 case store t y v=>
  obtain⟨n,hn,hop1⟩:=bind_some hop;obtain⟨p,hp,hop2⟩:=bind_some hop1;obtain⟨q,hq,rfl⟩:=map_some hop2
  grind[stepW,zak,Op.operands]
 case makeSlice t l c=>
  split at hop
  ·split at hop
   ·split at hop
    ·obtain⟨zs,_,hop1⟩:=bind_some hop;split at hop1
     ·obtain⟨p,hp,hop2⟩:=bind_some hop1;obtain⟨q,hq,rfl⟩:=map_some hop2
      grind[stepW,zak,Op.operands]
     grind
    grind
   grind
  grind
 case call c=>
  obtain⟨callee,cargs,ats⟩:=c;cases callee with
  | invoke r m=>
   obtain⟨p,hp,hr1⟩:=bind_some hop;obtain⟨l,hl,rfl⟩:=map_some hr1
   rfl
  | value fv=>
   cases fv<;>simp only at hop<;>try (cases hop;done)
   all_goals
    obtain⟨l,hl,rfl⟩:=map_some hop
    rfl
  | builtin b=>
   simp only at hop;split at hop
   ·split at hop
    ·obtain⟨p,_,rfl⟩:=map_some hop;rfl
    ·obtain⟨p,_,rfl⟩:=map_some hop;rfl
    ·cases hop;rfl
    grind
   ·obtain⟨l,_,hop1⟩:=bind_some hop;split at hop1<;>cases hop1;rfl
   ·obtain⟨l,_,hop1⟩:=bind_some hop;split at hop1<;>cases hop1;rfl
   ·split at hop
    ·split at hop
     ·split at hop
      ·split at hop
       ·obtain⟨p,hp,hop1⟩:=bind_some hop;obtain⟨q,hq,rfl⟩:=map_some hop1
        grind[stepW,zak,Op.operands,Call.operands]
       grind
      grind
     grind
    grind
   ·split at hop
    ·split at hop
     ·obtain⟨z,_,hop0⟩:=bind_some hop;split at hop0
      ·obtain⟨p,_,hop1⟩:=bind_some hop0;obtain⟨q,_,rfl⟩:=map_some hop1
       rfl
      grind
     grind
    grind
   grind
 all_goals
  have:stepW op d ρ h clk=none∧stepW op d ρ' h clk=none:=by
   revert hop
   repeat' split
   all_goals (intro hop;simp[Yd]at hop)
   all_goals first
    | (subst hop;exact⟨rfl,rfl⟩)
    | (obtain⟨_,_,rfl⟩:=hop;exact⟨rfl,rfl⟩)
    | (obtain⟨_,_,_,rfl⟩:=hop;exact⟨rfl,rfl⟩)
    | (obtain⟨_,_,_,_,rfl⟩:=hop;exact⟨rfl,rfl⟩)
    | (obtain⟨_,_,_,_,_,rfl⟩:=hop;exact⟨rfl,rfl⟩)
    | (obtain⟨_,_,_,_,_,_,rfl⟩:=hop;exact⟨rfl,rfl⟩)
    | (obtain⟨_,_,_,_,_,_,_,rfl⟩:=hop;exact⟨rfl,rfl⟩)
    | (obtain⟨_,_,_,_,_,_,_,_,rfl⟩:=hop;exact⟨rfl,rfl⟩)
    | (obtain⟨_,_,_,_,_,_,_,_,_,rfl⟩:=hop;exact⟨rfl,rfl⟩)
    | (obtain⟨_,_,_,_,_,_,_,_,_,_,_,rfl⟩:=hop;exact⟨rfl,rfl⟩)
  rw[this.1,this.2]
def cnt(ws:List Nat)(listed:Array Bool):Nat:=(ws.filter fun v=>listed.getD v false).length
theorem zge{f g:Nat→Bool}:∀(ws:List Nat),(∀v∈ws,f v=true→g v=true)→(ws.filter f).length≤(ws.filter g).length
 | [],_=>Yg _
 | x::ws,h=>by
  have ih:=zge ws fun v hv=>h v (by grind)
  grind
theorem zl1{nt id:Nat}{aos:List AO}{st:St}{K:St→Prop}{Q:Exit→Act→World→Prop}(hnt:nt=cx.nt)(hm:P.follows .mixedOrders=true)(hB:Zeb ops aos=true)
  (hres:Zan P nt ops ops.toList=some aos) (hk:Zlk P (Zis ops aos) st K) (hr:Rel cx st a w) (hQ:∀st' a' w',K st'→Rel cx st' a' w'→Q .normal a' w'):(Code.region id ops true).wp P Q a w:=by
 have hget':∀i o,ops[i]? = some o→∃ao,aos[i]? = some ao∧Zcu P nt ops o=some ao:=fun i o ho=>zb3 ops.toList aos hres i o (by grind);have hlen:=zb4 ops.toList aos hres;obtain⟨S,M,hrf⟩:=hr;have hok:=hB;unfold Zeb at hB;simp only[Yj,Yh]at hB;obtain⟨⟨hlexB,hch⟩,hall⟩:=hB;obtain⟨H,C,_,_,hH0,hC0,_,hlex⟩:=zl0 (P:=P) (ops:=ops) (aos:=aos) (K:=K) hok (fun i o ho=>by
  grind[zas]) ops.toList 0 aos st.env st.heap st.clk [] [] [] (fun i=>by simp) (fun i=>by simp) hlen rfl (Yu _) (fun m v _=>by simp) hk
 simp only[Yak]at hH0 hC0;generalize hws:Zo aos=ws at *
 -- the writers that are done are the first ones
 have prefixOf:∀(listed:Array Bool),Clo .any ops listed→∀(p i:Nat),ws[p]? = some i→(i∈Region.ready .any ops listed)→∀m v,ws[m]? = some v→(listed.getD v false=true↔m<p):=by
  intro listed hc p i hp hi m v hv;have hun:=(mem_ready.1 hi).1;constructor
  ·intro hl;rcases Yt m p with h | h
   ·exact h
   ·have hp':ws[p+(m-p)]? = some v:=by grind
    have:=zdf hch hc (m-p) p i v hp hp' hl
    grind
  ·intro hmp;have hp1:ws[(p-1)+1]? = some i:=by grind
   have hx:ws[p-1]? = some (ws[p-1]'(by grind)):=Ya _;obtain⟨o,ho,e,he,hb,hon⟩:=zde ws (p-1) _ i hch hx hp1;obtain⟨_,o',ho',hall'⟩:=mem_ready.1 hi;rw[ho]at ho';cases ho';have hl:=hall' e he hb;rw[hon]at hl;have hx':ws[m+(p-1-m)]? = some (ws[p-1]'(by grind)):=by grind
   exact zdf hch hc (p-1-m) m v _ hv hx' hl
 refine zga (F:=FD P ops aos H C) (R:=fun listed ρ a w=>Ze1 cx (C (cnt ws listed)) (H (cnt ws listed)) ρ a w) (Q:=fun ρ=>∃e,ρ=Env.get e∧K ⟨e,H ws.length,C ws.length⟩) (ρ:=st.env.get) hm hlexB ?_ ?_ ?_ ?_ hlex
 ·-- each value hangs on what the operation looks at
  intro i o ho ρ ρ' hρ x ⟨ao,hao,hq⟩;obtain⟨ao',h1,h2⟩:=hget' i o ho;rw[hao]at h1;cases h1;refine⟨ao,hao,?_⟩;obtain⟨op,g,hop,hg,rfl,_⟩:=zas h2;have hops:∀t,Operand.tmp t∈o.op.operands.toList→ρ t=ρ' t:=fun t ht=>hρ t (by
   grind[Oper.looksAt])
  have quiet:∀h,QF P h ⟨o.dst,g,op⟩ ρ x→QF P h ⟨o.dst,g,op⟩ ρ' x:=by
   intro h hq;unfold QF at hq ⊢;cases g with
   | none=>exact(zen hop hops).1 hq
   | some tw=>
    grind[Zbx,map_some,Oper.looksAt,zen]
  cases hwr:op.writes with
  | true=>
   simp only[hwr]at hq ⊢;obtain⟨h3,p,h4,h5⟩:=hq;exact⟨h3,p,h4,by rw[←zea hop hops];omega⟩
  | false=>
   grind
 ·intro i o ho listed ρ x a w K' hc hi ⟨ao,hao,hq⟩ hr hK';obtain⟨ao',h1,h2⟩:=hget' i o ho;rw[hao]at h1;cases h1;have hun:=(mem_ready.1 hi).1;have hisz:i<listed.size:=by grind
  cases hwr:ao.op.writes with
  | true=>
   simp only[hwr]at hq;obtain⟨hgn,p,hp,hst⟩:=hq;rw[hws]at hp;have hpre:=prefixOf listed hc p i hp hi;have hple:=zci hp;have hcnt:cnt ws listed=p:=zcj p (by omega) fun m v hv=>hpre m v hv;have hcnt':cnt ws (listed.setIfInBounds i true)=p+1:=zcj (p+1) (by omega) fun m v hv=>by
    by_cases hvi:i=v
    ·have hmp:m=p:=by
      grind
     simp_all
    ·rw[getD_set_ne false hvi,hpre m v hv];constructor
     all_goals grind
   rw[hcnt]at hr;obtain⟨S,M,hr⟩:=hr;subst hnt;obtain⟨op,g,hop,hg,rfl,hd⟩:=zas h2;simp only at hgn hst;subst hgn;obtain⟨v,w',S',M',h3,h4,h5⟩:=zc3 hop hr hst;have hfin:K' (a.put o.dst v) w':=hK' _ _ (by
    rw[hcnt'];exact⟨S',M',h4.put hd h5⟩)
   unfold wpOp;simp only[ho,zcc hg a,if_true]
   grind[zc2,Oper.wp,Oper.upon_skip]
  | false=>
   simp only[hwr]at hq;rw[hws]at hq;have hnm:i∉ws:=fun hmem=>by
    grind[zcd]
   have hlo:Zia ops ws i≤cnt ws listed:=zge ws fun v _ hv=>zd9 hc _ v i (.inr hi) hv;have hhi:cnt ws listed≤Zfn ops ws i:=zge ws fun v _ hv=>by
    grind[zd9]
   have hcnt':cnt ws (listed.setIfInBounds i true)=cnt ws listed:=by
    unfold cnt;congr 1;refine List.filter_congr fun v hv=>?_;have:i≠v:=fun he=>hnm (by grind)
    simp_all
   refine zdq ho hnt h2 (hq _ hlo hhi) hr fun a' w' hr'=>hK' a' w' ?_
   grind
 ·intro listed ρ a w hc hready hr ⟨e,he,hK⟩;subst he;have hfull:cnt ws listed=ws.length:=zcj ws.length (Yg _) fun m v hv=>by
   have hvm:v∈Zo aos:=by grind
   obtain⟨ao,h1,_⟩:=(zcd aos v).1 hvm;have hvl:v<ops.size:=by grind
   have:=zov hlexB hready hc.size v hvl
   grind
  rw[hfull]at hr;obtain⟨S,M,hr⟩:=hr;exact hQ _ a w hK ⟨S,M,hr⟩
 ·have h0:cnt ws (Array.replicate ops.size false)=0:=zcj 0 (Yu _) fun m v hv=>by
   rw[getD_replicate_false];simp
  rw[h0,hH0,hC0];exact Ze1.drawn ⟨S,M,hrf⟩
end
end
section
open Go.RowKit
def Zfo(P:Program)(tl:List AO):List AO→Env→Heap→Nat→(St→Prop)→Prop
 | [],e,h,clk,K=>Zd5 P tl ⟨e,h,clk⟩ K
 | o::r,e,h,clk,K=>qK P o e h [] fun x=>Zfo P tl r (Zm e o.dst x) h clk K
section
variable{P:Program}{ops:Array Oper}{md:Region.Mode}{F:Nat→(Nat→AV)→AV→Prop}
def Zgq(md:Region.Mode)(ops:Array Oper)(F:Nat→(Nat→AV)→AV→Prop)(n:Nat)(L:Array Bool→(Nat→AV)→Prop):Nat→Array Bool→(Nat→AV)→Prop
 | 0,listed,ρ=>L listed ρ
 | f+1,listed,ρ=>
  Region.ready md ops listed≠[]∧∀i∈Region.ready md ops listed,i<n∧fOp ops F i (Zgq md ops F n L f (listed.setIfInBounds i true)) ρ
theorem zgf(hL:Zev ops F){n i:Nat}{oi:Oper}{v:AV}{L:Array Bool→(Nat→AV)→Prop}(hi:ops[i]? = some oi)
  (hs:Region.sinkB md ops n=true) (hc:Region.chainB md ops n=true) (hn:n<ops.size) (hin:i<n)
  (hdone:∀listed ρ,L listed ρ→∀j∈Region.ready md ops listed,n≤j) :
  ∀(f:Nat) (listed:Array Bool) (ρ:Nat→AV),HeadInv md ops n listed →
   (∀j oj,ops[j]? = some oj→j≠i→listed.getD j true=false→(∀e∈oj.after,Region.binds md e=true→e.on≠i)→oi.apart ops oj=true) →
   i∈Region.ready md ops listed→F i ρ v →
   Zgq md ops F n L f (listed.setIfInBounds i true) (upd ρ oi.dst v)→Zgq md ops F n L (f+1) listed ρ:=by
 have take:∀{ρ:Nat→AV} {K:(Nat→AV)→Prop},F i ρ v→K (upd ρ oi.dst v)→fOp ops F i K ρ:=by
  grind[fOp]
 intro f
 induction f with
 | zero=>
  intro listed ρ inv _ hr hy H;have hun:=(mem_ready.1 hr).1;refine⟨fun h=>(by grind),fun j hj=>?_⟩;have hjn:j<n:=by
   rcases Yt j n with h | h
   ·exact h
   ·exact absurd hj (tail_waits hs hc hn inv _ i rfl hin hun j h)
  by_cases hji:j=i
  ·grind
  ·have:=hdone _ _ H j (ready_mono hj hji);omega
 | succ f ih=>
  intro listed ρ inv hfree hr hy H;have hun:=(mem_ready.1 hr).1;refine⟨fun h=>(by grind),fun j hj=>?_⟩;have hjn:j<n:=by
   rcases Yt j n with h | h
   ·exact h
   ·exact absurd hj (tail_waits hs hc hn inv _ i rfl hin hun j h)
  refine⟨hjn,?_⟩;by_cases hji:j=i
  ·grind
  ·have h1:=(H.2 j (ready_mono hj hji)).2;obtain⟨hjun,oj,hoj,hall⟩:=mem_ready.1 hj;have hnot:∀e∈oj.after,Region.binds md e=true→e.on≠i:=fun e he hb heq=>by
    grind
   have h2:=zql hL hi hoj (hfree j oj hoj hji hjun hnot) hy h1;have hfree':∀k ok,ops[k]? = some ok→k≠i→(listed.setIfInBounds j true).getD k true=false →
     (∀e∈ok.after,Region.binds md e=true→e.on≠i)→oi.apart ops ok=true:=fun k ok hk hki hun hno=>by
    refine hfree k ok hk hki ?_ hno;by_cases hjk:j=k
    ·grind
    simp_all
   refine znc (fun ρ' h3=>ih (listed.setIfInBounds j true) ρ' (inv.set hj hjn) hfree' (ready_mono hr (Ne.symm hji)) h3.1 ?_) h2
   grind[Array.setIfInBounds_comm]
theorem zjs(hL:Zev ops F){n g:Nat}{Lq:(Nat→AV)→Prop}(hs:Region.sinkB md ops n=true)(hc:Region.chainB md ops n=true)(hn:n<ops.size) :
  ∀(l:List Oper) (k:Nat) (listed:Array Bool) (ρ:Nat→AV),(∀j,j<l.length→l[j]? = ops[k+j]?)→k+l.length=n→HeadInv md ops n listed →
  Region.lexHead md ops g l.length k listed=true→Zfe ops F Lq l k ρ →
  Zgq md ops F n (fun listed' ρ'=>Region.seqB md ops g n listed'=true∧Lq ρ') l.length listed ρ
 | [],k,listed,ρ,_,hk,_,hB,h=>by
  have:k=n:=by simpa using hk
  subst this;exact⟨by simpa[Region.lexHead]using hB,h⟩
 | o::l,k,listed,ρ,hl,hk,inv,hB,h=>by
  have h0:ops[k]? = some o:=by simpa using (hl 0 (by simp)).symm
  simp only[Yk,Region.lexHead,Yj]at hB;obtain⟨⟨hr,hf⟩,hB'⟩:=hB;have hkn:k<n:=by simp only[Yk]at hk;omega
  have hr':k∈Region.ready md ops listed:=by simpa using hr
  obtain⟨v,hy,hK⟩:=h;exact zgf hL h0 hs hc hn hkn (fun listed' a' hL=>seqB_ready hL.1) l.length listed ρ inv (Region.free_spec h0 hf) hr' hy
   (zjs hL hs hc hn l (k+1) _ _ (fun j hj=>by have:=hl (j+1) (by simp;omega);simpa[Ya1,Yb6 1 j]using this) (by simp only[Yk]at hk;omega) (inv.set hr' hkn) hB' hK)
theorem zd1{n g:Nat}{L:Array Bool→(Nat→AV)→Prop}{R:(Nat→AV)→Act→World→Prop}{Q':Exit→Act→World→Prop}
  (hs:∀i o,i<n→ops[i]? = some o→∀ρ x a w (K:Act→World→Prop),F i ρ x→R ρ a w→(∀a' w',R (upd ρ o.dst x) a' w'→K a' w')→wpOp P ops Q' i K a w)
  (hQ:∀listed ρ a w,L listed ρ→R ρ a w→wpAny P md ops Q' g listed a w):∀(f:Nat) (listed:Array Bool) (ρ:Nat→AV) (a:Act) (w:World),R ρ a w →
  Zgq md ops F n L f listed ρ→wpAny P md ops Q' (f+g) listed a w
 | 0,_,_,_,_,hr,h=>by rw[Yai];exact hQ _ _ _ _ h hr
 | f+1,listed,ρ,a,w,hr,h=>by
  rw[show f+1+g=(f+g)+1 by omega];refine⟨fun h0=>absurd h0 h.1,fun i hi=>?_⟩;obtain⟨hin,h2⟩:=h.2 i hi;obtain⟨_,o,ho,_⟩:=mem_ready.1 hi;unfold fOp at h2;simp only[ho]at h2;obtain⟨x,hx,hK⟩:=h2;exact hs i o hin ho ρ x a w _ hx hr fun a' w' hr'=>zd1 hs hQ f _ _ a' w' hr' hK
end
section
variable{P:Program}{ops:Array Oper}{cx:Cx}{w:World}{a:Act}
theorem zl2{l:List AO}{n:Nat}(h:Zht ops l=some n):(∀ao∈l.take n,ao.op.writes=false)∧Region.lexTailB .any ops n=true:=by
 have:=Ydp h
 grind
def FT(P:Program)(aos:List AO)(n:Nat)(h:Heap)(i:Nat)(ρ:Nat→AV)(x:AV):Prop:=
 i<n∧∃ao,aos[i]? = some ao∧QF P h ao ρ x
theorem zjt{aos tl:List AO}{n:Nat}{h:Heap}{clk:Nat}{K:St→Prop}(hw:∀ao∈aos.take n,ao.op.writes=false)(hdst:∀(i:Nat) (o:Oper),ops[i]? = some o→∃ao:AO,aos[i]? = some ao∧ao.dst=o.dst) :
  ∀(l:List Oper) (k:Nat) (rest:List AO) (e:Env),(∀j,j<l.length→l[j]? = ops[k+j]?)→(∀j,j<rest.length→rest[j]? = aos[k+j]?)→l.length=rest.length→k+l.length=n →
   Zfo P tl rest e h clk K→Zfe ops (FT P aos n h) (fun ρ=>∃e,ρ=Env.get e∧Zd5 P tl ⟨e,h,clk⟩ K) l k e.get
 | [],k,rest,e,_,_,hlen,_,hk=>by
  have:rest=[]:=Ya0 (by simpa using hlen.symm);subst this;exact⟨e,rfl,hk⟩
 | o::l,k,rest,e,hl,hr,hlen,hkn,hk=>by
  cases rest with
  | nil=>simp at hlen
  | cons ao rest=>
   have h0:ops[k]? = some o:=by simpa using (hl 0 (by simp)).symm
   have h1:aos[k]? = some ao:=by simpa using (hr 0 (by simp)).symm
   obtain⟨ao',h2,hd⟩:=hdst k o h0;rw[h1]at h2;cases h2;simp only[Yk]at hkn;have hwr:ao.op.writes=false:=hw ao (Yf (i:=k) (by rw[Y6,if_pos (by omega)];exact h1));obtain⟨x,hq1,_,hk2⟩:=zuu hwr hk;refine⟨x,⟨by omega,ao,h1,hq1⟩,?_⟩;rw[←hd,←zdd];exact zjt hw hdst l (k+1) rest _ (fun j hj=>by have:=hl (j+1) (by simp;omega);simpa[Ya1,Yb6 1 j]using this) (fun j hj=>by have:=hr (j+1) (by simp;omega);simpa[Ya1,Yb6 1 j]using this) (by simpa using hlen) (by omega) hk2
theorem zca{nt:Nat}{ops:Array Oper}:∀(n:Nat) (l:List Oper) (aos:List AO),Zan P nt ops l=some aos→Zan P nt ops (l.drop n)=some (aos.drop n)
 | 0,l,aos,h=>h
 | n+1,[],aos,h=>by
  simp only[Zan,Option.some.injEq]at h;subst h
  rfl
 | n+1,o::l,aos,h=>by
  obtain⟨ao,_,h1⟩:=bind_some h;obtain⟨rest,hr,rfl⟩:=map_some h1;exact zca n l rest hr
theorem zl3{nt id n:Nat}{aos:List AO}{st:St}{K:St→Prop}{Q:Exit→Act→World→Prop}(hnt:nt=cx.nt)(hm:P.follows .mixedOrders=true)(hB:Zht ops aos=some n)
  (hres:Zan P nt ops ops.toList=some aos) (hk:Zfo P (aos.drop n) (aos.take n) st.env st.heap st.clk K) (hr:Rel cx st a w) (hQ:∀st' a' w',K st'→Rel cx st' a' w'→Q .normal a' w'):(Code.region id ops true).wp P Q a w:=by
 obtain⟨hw,hT⟩:=zl2 hB;simp only[Region.lexTailB,Yj,decide_eq_true_eq]at hT;obtain⟨⟨⟨⟨_,hn⟩,hs⟩,hc⟩,hlex⟩:=hT;have hget':∀i o,ops[i]? = some o→∃ao,aos[i]? = some ao∧Zcu P nt ops o=some ao:=fun i o ho=>zb3 ops.toList aos hres i o (by grind);have hlen:=zb4 ops.toList aos hres;have htl:(ops.toList.take n).length=n:=by grind
 have hdl:(ops.toList.drop n).length=ops.size-n:=by simp
 have inv0:HeadInv .any ops n (Array.replicate ops.size false):=
  ⟨by simp,fun j oj _ hl=>(by rw[getD_replicate_false]at hl;grind),fun t _ ht=>getD_in (by grind) (getD_replicate_false _ _)⟩
 have hloc:Zev ops (FT P aos n st.heap):=by
  intro i o ho ρ ρ' hρ x ⟨hin,ao,hao,hq⟩;obtain⟨ao',h1,h2⟩:=hget' i o ho;rw[hao]at h1;refine⟨hin,ao,hao,?_⟩;obtain⟨op,g,hop,hg,rfl,_⟩:=zas h2
  grind[Oper.looksAt,QF,zen,Zbx,map_some]
 obtain⟨S,M,hrf⟩:=hr;have hlx:=zjt (P:=P) (ops:=ops) (aos:=aos) (tl:=aos.drop n) (n:=n) (h:=st.heap) (clk:=st.clk) (K:=K) hw (fun i o ho=>by
  grind[zas]) (ops.toList.take n) 0 (aos.take n) st.env (fun j hj=>by
   grind) (fun j hj=>by
   grind) (by grind) (by omega) hk
 have H:=zjs (md:=.any) (g:=ops.size-n) hloc hs hc hn (ops.toList.take n) 0 _ st.env.get (fun j hj=>by
  grind) (by omega) inv0 (by grind) hlx
 refine wp_region_any hm ?_;have:=zd1 (P:=P) (md:=.any) (Q':=Q) (g:=ops.size-n) (F:=FT P aos n st.heap) (R:=fun ρ a w=>Ze1 cx st.clk st.heap ρ a w) (fun i o hin ho ρ x a w K' ⟨_,ao,hao,hq⟩ hr hK'=>by
  grind[zdq]) (fun listed ρ a' w' hL hr'=>by
  obtain⟨hseq,e,rfl,hrun⟩:=hL;have hwl:wpList P ops Q (ops.toList.drop n) a' w':=zcv hnt _ _ ⟨e,st.heap,st.clk⟩ K a' w' (zca n _ _ hres) hrun hr' hQ
  grind[wpAny_of_seq]) _ _ _ a { w with drawn:=w.drawn+1 } (Ze1.drawn ⟨S,M,hrf⟩) H
 grind
end
end
section
open Go.RowKit
mutual
def gnA:AV→List Nat
 | .sl _ _=>[]
 | .agg cs=>gnR cs
 | .tup cs=>gnR cs
 | .i _ _=>[]
 | .b _=>[]
 | .s _=>[]
 | .raw _=>[]
 | .ep _ _=>[]
 | .bs _ g _ _ _=>[g]
 | .ptr _ g _ _ _=>[g]
 | .fnp _ _ g _ _ _=>[g]
 | .fnv .. => []
 | .ifc _ x=>gnA x
 | .dead=>[]
def gnR:List AV→List Nat
 | []=>[]
 | c::r=>gnA c++gnR r
end
theorem zgg{g:Nat}:∀(cs:List AV),g∈gnR cs↔∃c∈cs,g∈gnA c
 | []=>by simp[gnR]
 | c::r=>by simp[gnR,zgg r]
section
variable{w w':World}{S S':Nat→Nat→Prop}{M M':Map}{clk clk':Nat}
theorem zq1{vs:Array Value}{cs:List AV}(hl:vs.size=cs.length){c:AV}(hc:c∈cs):∃(j:Nat) (v:Value),vs[j]? = some v∧cs[j]? = some c:=by
 obtain⟨j,hj⟩:=Y8 hc;have hlt:j<vs.size:=by grind
 exact⟨j,vs[j],Yw hlt,hj⟩
theorem CP.gn{v:Value}{x:AV}(h:CP w S v x):gnA x=[]:=by
 have key:∀(vs:Array Value) (cs:List AV),vs.size=cs.length→(∀(j:Nat) (v:Value) (c:AV),vs[j]? = some v→cs[j]? = some c→gnA c=[])→gnR cs=[]:=by
  intro vs cs hl ih;rw[List.eq_nil_iff_forall_not_mem]
  grind[zgg,zq1]
 induction h with
 | agg vs cs hl h1 _ ih=>simp only[gnA];grind
 | tup vs cs hl _ ih=>simp only[gnA];grind
 | _=>simp only[gnA]
theorem C.gn{v:Value}{x:AV}(h:C w S M clk v x):∀g∈gnA x,g<clk:=by
 have key:∀(vs:Array Value) (cs:List AV),vs.size=cs.length→(∀(j:Nat) (v:Value) (c:AV),vs[j]? = some v→cs[j]? = some c→∀g∈gnA c,g<clk)→∀g∈gnR cs,g<clk:=by
  grind[zgg,zq1]
 induction h with
 | p h=>rw[h.gn];grind
 | bs id g z off n v hg _ _=>grind[gnA]
 | ptr id g z i o v hg _ _=>grind[gnA]
 | fnp f id g z i o v hg _ _=>grind[gnA]
 | agg vs cs hl h1 _ ih=>simp only[gnA];grind
 | tup vs cs hl _ ih=>simp only[gnA];grind
 | ifc t v x _ ih=>simp only[gnA];omega
theorem C.remap{v:Value}{x:AV}(h:C w S M clk v x)(hg:∀g∈gnA x,M' g=M g∧g<clk'):C w S M' clk' v x:=by
 induction h with
 | p h=>exact .p h
 | bs id g z off n v hg' h h1=>
  obtain⟨h2,h3⟩:=hg g (by simp[gnA]);exact .bs id g z off n v h3 (by grind) h1
 | ptr id g z i o v hg' h h1=>
  obtain⟨h2,h3⟩:=hg g (by simp[gnA]);exact .ptr id g z i o v h3 (by grind) h1
 | fnp f id g z i o v hg' h h1=>
  obtain⟨h2,h3⟩:=hg g (by simp[gnA]);exact .fnp f id g z i o v h3 (by grind) h1
 | agg vs cs hl h1 _ ih=>
  refine .agg vs cs hl h1 fun j v c hv hc=>ih j v c hv hc fun g hgc=>hg g ?_
  grind[gnA,zgg]
 | tup vs cs hl _ ih=>
  refine .tup vs cs hl fun j v c hv hc=>ih j v c hv hc fun g hgc=>hg g ?_
  grind[gnA,zgg]
 | ifc t v x _ ih=>exact .ifc t v x (ih fun g hgx=>hg g (by simp only[gnA];omega))
inductive MkF (i:BId):(Nat→AV)→Nat→Prop
 | ptr (z:Nat):MkF i (fun g=>.ptr i g z 0 0) z
 | bs (z n:Nat):MkF i (fun g=>.bs i g z 0 n) z
def Zdq(bx:Box)(g:Nat):Prop:=bx.kind=.str∧∃r∈bx.els,∃x∈r,g∈gnA x
theorem Zbt.remap{bx:Box}(hb:Zbt w S M clk bx)(h1:M' bx.gen=M bx.gen)(h2:bx.gen<clk')(h3:∀g,Zdq bx g→M' g=M g∧g<clk'):Zbt w S M' clk' bx:=by
 obtain⟨_,b2,m,hm,b3⟩:=hb;refine⟨h2,b2,m,by grind,?_⟩;cases m with
 | none=>omega
 | some k=>
  obtain⟨arr,e,hh,hsz,hc,ho,hl⟩:=b3;refine⟨arr,e,hh,hsz,fun i r j c hi hj=>?_,ho,hl⟩;obtain⟨u,hu,hone,hC,hP⟩:=hc i r j c hi hj;refine⟨u,hu,hone,?_,hP⟩;by_cases hk:bx.kind=.str
  ·exact hC.remap fun g hg=>h3 g ⟨hk,r,Yf hi,c,Yf hj,hg⟩
  ·exact .p (hP hk)
theorem Zbt.gn{bx:Box}(hb:Zbt w S M clk bx):bx.gen<clk∧∀g,Zdq bx g→g<clk:=by
 obtain⟨b1,_,m,hm,b3⟩:=hb;refine⟨b1,fun g ⟨hk,r,hr,x,hx,hg⟩=>?_⟩;obtain⟨i,hi⟩:=Y8 hr;obtain⟨j,hj⟩:=Y8 hx;cases m with
 | none=>grind
 | some k=>
  obtain⟨arr,e,hh,hsz,hc,ho,hl⟩:=b3;obtain⟨u,hu,hone,hC,hP⟩:=hc i r j x hi hj;exact hC.gn g hg
theorem RelF.regen{cx:Cx}{h:Heap}{ρ:Nat→AV}{a:Act}{w:World}{S:Nat→Nat→Prop}{M:Map}{d c g z:Nat}{k:Kind}{els:List (List AV)}{f:Nat→AV}{i0:BId}(hf:MkF i0 f z)
  (hr:RelF cx S M (c+1) ((i0,⟨c,k,z,els⟩)::h) (upd ρ (some d) (f c)) a w) (hgc:g<c) (hcx:cx.clk0≤g) (hnew:h.lookup i0=none)
  (henv:∀t,∀q∈gnA (ρ t),q≠g∧q<c) (hbox:∀id bx,h.lookup id=some bx→bx.gen≠g∧bx.gen<c∧∀q,Zdq bx q→q≠g∧q<c)
  (hels:∀q,Zdq ⟨c,k,z,els⟩ q→q≠g∧q<c) :
  RelF cx S (fun q=>if q=g then M c else if q=c then none else M q) c ((i0,⟨g,k,z,els⟩)::h) (upd ρ (some d) (f g)) a w:=by
 generalize hM2:(fun q=>if q=g then M c else if q=c then none else M q:Map)=M2;have m2:∀q,q≠g→q<c→M2 q=M q:=by grind
 have m3:∀q m,M2 q=some m→(q=g∧M c=some m)∨(q≠g∧q≠c∧M q=some m):=by
  grind
 have look:∀(b:BId) (bx:Box) (x:Box),((i0,x)::h).lookup b=some bx→(b=i0∧bx=x)∨(b≠i0∧h.lookup b=some bx):=by
  grind
 have lookS:∀(x:Box),((i0,x)::h).lookup i0=some x:=by grind
 have hw:=hr.wr;refine⟨hr.size,hr.defers,fun t=>?_,⟨⟨fun b bx hb=>?_,fun q m hq=>?_,fun b bx b' bx' hb hb' he=>?_,fun q q' k' h1 h2=>?_⟩,⟨hw.ext.hS,hw.ext.hcell,by omega,fun q m hq hm=>?_,fun q k' arr e hq hm hb=>?_⟩,hw.fr,hw.Snew,hw.Slt,fun q k' hm=>?_⟩⟩
 ·have hC:=hr.env t;simp only[upd]at hC ⊢;by_cases ht:t=d
  ·rw[if_pos ht]at hC ⊢;cases hf with
   | ptr z=>
    obtain⟨_,h2,h3⟩:=hC.inv_ptr;exact .ptr _ _ _ _ _ _ hgc (by grind) h3
   | bs z n=>
    obtain⟨_,h2,h3⟩:=hC.inv_bs;exact .bs _ _ _ _ _ _ hgc (by grind) h3
  ·rw[if_neg ht]at hC ⊢;exact hC.remap fun q hq=>⟨m2 q (henv t q hq).1 (henv t q hq).2,(henv t q hq).2⟩
 ·rcases look b bx _ hb with ⟨rfl,rfl⟩ | ⟨hne,hl⟩
  ·have h0:=hw.heap.box _ _ (lookS ⟨c,k,z,els⟩);obtain⟨_,b2,m,hm,b3⟩:=h0;refine⟨hgc,b2,m,by grind,?_⟩;cases m with
   | none=>omega
   | some kk=>
    obtain⟨arr,e,hh,hsz,hc,ho,hl⟩:=b3;refine⟨arr,e,hh,hsz,fun i r j x hi hj=>?_,ho,hl⟩;obtain⟨u,hu,hone,hC,hP⟩:=hc i r j x hi hj;refine⟨u,hu,hone,?_,hP⟩;by_cases hk:k=.str
    ·refine hC.remap fun q hq=>?_;have:=hels q ⟨hk,r,Yf hi,x,Yf hj,hq⟩
     grind
    ·exact .p (hP hk)
  ·have h0:=hw.heap.box b bx (by grind);obtain⟨h1,h2,h3⟩:=hbox b bx hl;exact h0.remap (m2 _ h1 h2) h2 fun q hq=>⟨m2 q (h3 q hq).1 (h3 q hq).2,(h3 q hq).2⟩
 ·rcases m3 q m hq with ⟨rfl,_⟩ | ⟨_,hne,hm⟩
  ·grind
  ·obtain⟨b,bx,hb,he⟩:=hw.heap.live q m hm;rcases look b bx _ hb with ⟨rfl,rfl⟩ | ⟨hnd,hl⟩
   all_goals grind
 ·rcases look b bx _ hb with ⟨rfl,rfl⟩ | ⟨hne,hl⟩<;>rcases look b' bx' _ hb' with ⟨rfl,rfl⟩ | ⟨hne',hl'⟩
  ·rfl
  ·grind
  ·grind
  ·exact hw.heap.gens b bx b' bx' (by grind) (by grind) he
 ·rcases m3 q _ h1 with ⟨rfl,e1⟩ | ⟨n1,n2,e1⟩<;>rcases m3 q' _ h2 with ⟨rfl,e2⟩ | ⟨n1',n2',e2⟩
  ·rfl
  ·exact absurd (hw.heap.inj _ _ _ e1 e2).symm n2'
  ·exact absurd (hw.heap.inj _ _ _ e1 e2) n2
  ·exact hw.heap.inj _ _ _ e1 e2
 ·rcases m3 q m hm with ⟨rfl,_⟩ | ⟨_,_,e1⟩
  ·omega
  ·exact hw.ext.hM q m hq e1
 ·rcases m3 q _ hm with ⟨rfl,_⟩ | ⟨_,_,e1⟩
  ·omega
  ·exact hw.ext.hblk q k' arr e hq e1 hb
 ·rcases m3 q _ hm with ⟨rfl,e1⟩ | ⟨_,_,e1⟩
  ·exact hw.Mnew _ k' e1
  ·exact hw.Mnew q k' e1
theorem RelF.more{cx:Cx}{h:Heap}{ρ:Nat→AV}{a:Act}(hc:clk≤clk')(hr:RelF cx S M clk h ρ a w):RelF cx S M clk' h ρ a w:=by
 have hx:Ext w S M clk w S M clk':=⟨fun _ _ h=>h,fun _ _ _ _ h=>h,hc,fun _ _ _ h=>h,fun _ _ arr _ _ _ h=>⟨arr,h,rfl⟩⟩;exact⟨hr.size,hr.defers,fun t=>(hr.env t).mono hx,⟨⟨fun b bx hb=>(hr.wr.heap.box b bx hb).mono hx rfl (fun _ _=>rfl) fun _ _ _ h=>h,hr.wr.heap.live,hr.wr.heap.gens,hr.wr.heap.inj⟩,hr.wr.ext.trans hx,hr.wr.fr,hr.wr.Snew,hr.wr.Slt,hr.wr.Mnew⟩⟩
end
def Zc5(h h':Heap):Prop:=∀id bx,h.lookup id=some bx→h'.lookup id=some bx
theorem zdg{h h':Heap}(hs:Zc5 h h'){id:BId}{g z:Nat}{bx:Box}(hb:Z6 h id g z=some bx):Z6 h' id g z=some bx:=by
 unfold Z6 at hb ⊢;split at hb
 ·rename_i b hl;rw[hs id b hl];omega
 grind
theorem zgh{h h':Heap}(hs:Zc5 h h'){id:BId}{g z i:Nat}(hb:Zeu h id g z i=true):Zeu h' id g z i=true:=by
 grind[Zeu,zdg]
theorem zeh{α:Type}{h h':Heap}(hs:Zc5 h h'){id:BId}{g z:Nat}{f:Box→Option α}{x:α}(hb:(Z6 h id g z).bind f=some x):(Z6 h' id g z).bind f=some x:=by
 obtain⟨bx,h1,h2⟩:=bind_some hb;rw[zdg hs h1]
 grind
theorem zuv{α:Type}{h h':Heap}(hs:Zc5 h h'){id:BId}{g z:Nat}{f:Box→α}{x:α}(hb:(Z6 h id g z).map f=some x):(Z6 h' id g z).map f=some x:=by
 obtain⟨bx,h1,rfl⟩:=map_some hb;rw[zdg hs h1]
 rfl
theorem zq2{h h':Heap}(hs:Zc5 h h'){op:AOp}{ρ:Nat→AV}{x:AV}(hq:Zg op ρ h=some x):Zg op ρ h'=some x:=by
 cases op<;>try exact hq
 case load n y=>
  simp only[Zg]at hq ⊢;cases hy:ev ρ y<;>rw[hy]at hq<;>simp only[Zez]at hq ⊢<;>first | exact hq | exact zeh hs hq
 case slc z y lo hi mx=>
  simp only[Zg]at hq ⊢;cases hy:ev ρ y<;>rw[hy]at hq<;>simp only[Zf3]at hq ⊢<;>first | exact hq | exact zeh hs hq
 case fad o y=>
  simp only[Zg]at hq ⊢;cases hy:ev ρ y<;>rw[hy]at hq<;>simp only[Zgh]at hq ⊢<;>try exact hq
  grind[zgh]
 case iad z y i=>
  simp only[Zg]at hq ⊢;cases hy:ev ρ y<;>rw[hy]at hq<;>cases hi:ev ρ i<;>rw[hi]at hq<;>simp only[Zgi]at hq ⊢<;>first | exact hq | exact zeh hs hq
 case iaa z len y i=>
  simp only[Zg]at hq ⊢;cases hy:ev ρ y<;>rw[hy]at hq<;>cases hi:ev ρ i<;>rw[hi]at hq<;>simp only[Zgj]at hq ⊢<;>try exact hq
  grind[zgh]
 case len y=>
  simp only[Zg]at hq ⊢;cases hy:ev ρ y<;>rw[hy]at hq<;>simp only[Zgk]at hq ⊢<;>first | exact hq | exact zuv hs hq
 case nilc y=>
  simp only[Zg]at hq ⊢;cases hy:ev ρ y<;>rw[hy]at hq<;>simp only[Ze0]at hq ⊢<;>try exact hq
  grind[zgh]
theorem zuw{h h':Heap}(hs:Zc5 h h'){x y:AV}(hq:Za1 h x=some y):Za1 h' x=some y:=by
 have hC:∀c d,Zby h c=some d→Zby h' c=some d:=by
  intro c d hc;cases c
  case bs id g z off n=>
   simp only[Zby]at hc ⊢;obtain⟨bx,hb,h2⟩:=bind_some hc;rw[zdg hs hb]
   grind
  all_goals exact hc
 cases x
 case agg cs=>
  simp only[Za1]at hq ⊢;obtain⟨ds,hd,rfl⟩:=map_some hq;have:cs.mapM (Zby h')=some ds:=by
   induction cs generalizing ds with
   | nil=>grind
   | cons c cs ih=>
    simp only[Ycq,Yby,Ycu]at hd ⊢;obtain⟨d,h1,h2⟩:=bind_some hd;obtain⟨es,h3,h4⟩:=bind_some h2
    grind
  grind
 all_goals (simp only[Za1]at hq ⊢;exact hC _ _ hq)
theorem zux{h:Heap}{x y:AV}(hq:Za1 h x=some y):∀id∈refs x,∃bx,h.lookup id=some bx:=by
 have hC:∀c d,Zby h c=some d→∀id g z off n,c=.bs id g z off n→∃bx,h.lookup id=some bx:=by
  grind[Zby,Z6]
 intro id hid;cases x
 case agg cs=>
  obtain⟨ds,hd,rfl⟩:=map_some hq;obtain⟨k1,k2⟩:=zbf _ _ hd
  grind[refs,List.getElem?_of_mem]
 case bs=>grind[refs,Za1]
 all_goals first | (cases hid;done) | (simp[Za1,Zby]at hq)
theorem zuy{h h':Heap}(hs:Zc5 h h'){x y:AV}(hq:Zhw h x=some y):Zhw h' x=some y:=by
 unfold Zhw at hq ⊢;split at hq
 ·omega
 ·split at hq
  ·rename_i h1;rw[if_pos,zuw hs hq];refine Yh.2 fun id hid=>?_;obtain⟨bx,hb⟩:=zux hq id hid;have:=Yh.1 h1 id hid;simp only[hb]at this;simp only[hs id bx hb,this]
  grind
theorem zju{h h':Heap}(hs:Zc5 h h'):∀{l ys:List AV},Zb2 h l=some ys→Zb2 h' l=some ys
 | [],ys,hq=>hq
 | x::l,ys,hq=>by
  simp only[Zb2]at hq ⊢;obtain⟨y,h1,h2⟩:=bind_some hq;obtain⟨zs,h3,rfl⟩:=map_some h2;rw[zuy hs h1,Y4,zju hs h3,Yc4]
theorem zxa{P:Program}{h h':Heap}(hs:Zc5 h h'){o:AO}{ρ:Nat→AV}{x:AV}(hq:QF P h o ρ x):QF P h' o ρ x:=by
 have one:QOp P o.op ρ h x→QOp P o.op ρ h' x:=by
  intro hq;unfold QOp at hq ⊢
  grind[zju,zq2]
 grind[QF]
end
section
open Go.RowKit
def Zdv:Opd→List Nat
 | .t n=>[n]
 | .c _=>[]
def Zfp:AOp→List Nat
 | .mov x=>Zdv x
 | .build _ ps=>ps.flatMap fun p=>Zdv p.2.2
 | .xop (.box _) [x]=>Zdv x
 | _=>[]
def AOp.slotty:AOp→Bool
 | .mov _ | .build .. | .xop .. => true
 | _=>false
theorem zq3{op:AOp}(h:op.slotty=false):Zfp op=[]:=by
 cases op<;>first | rfl | cases h
def Zff(c0:Nat)(op:AOp)(ρ:Nat→AV)(g:Nat):Prop:=g<c0∨∃t∈Zfp op,g∈gnA (ρ t)
def Zjv(P:Program)(f:FuncId)(xs:List AV)(g0:Nat)(x:AV)(B:Heap)(m:Nat):Prop:=
 xs.all noRef=true∧Zdp P f xs [] g0 (fun r h c=>r=x∧h=B∧c=g0+m)∧(B.map (·.1)).Nodup∧(∀g∈gnA x,g0≤g)∧∀p∈B,∀g,Zdq p.2 g→g0≤g
def obH(b:BId)(ob:Option Box):Heap:=match ob with | none=>[] | some o=>[(b,o)]
def Zbr(P:Program)(h0:Heap)(c0:Nat)(X:Heap)(Fin:Env→Heap→Nat→Prop):List AO→Env→Heap→Nat→Prop
 | [],e,h,clk=>Fin e h clk
 | o::r,e,h,clk=>
  match o.op.maker with
  | true=>o.guard=none∧∃d x b bx ob,o.dst=some d∧stepW o.op (some d) e.get (obH b ob) clk=some (x,(b,bx)::obH b ob,clk+1)∧h.lookup b=ob∧X.lookup b=ob∧h0.lookup b=none∧(∀o,ob=some o→o.gen<clk) ∧
    (∀g,Zdq bx g→Zff c0 o.op e.get g)∧Zbr P h0 c0 X Fin r (Zm e (some d) x) ((b,bx)::h) (clk+1)
  | false=>
   match o.op.isStore with
   | true=>o.guard=none∧o.dst=none∧∃H2,stepW o.op none e.get h clk=some (.tup [],H2,clk)∧Zc5 h0 H2∧Zbr P h0 c0 X Fin r e H2 clk
   | false=>
    (qK P o e h0 [] fun x=>(∀g∈gnA x,Zff c0 o.op e.get g)∧Zbr P h0 c0 X Fin r (Zm e o.dst x) h clk) ∨
    (o.guard=none∧∃f args d x B m,o.op=.call f args∧o.dst=some d∧Zjv P f (args.map (ev e.get)) clk x B m∧(∀p∈B,h.lookup p.1=none) ∧
     Zbr P h0 c0 X Fin r (Zm e (some d) x) (B++h) (clk+m))
def Zgr(P:Program)(tl:List AO)(h0:Heap)(c0:Nat)(X:Heap)(hd:List AO)(e:Env)(h:Heap)(clk:Nat)(K:St→Prop):Prop:=
 Zbr P h0 c0 X (fun e h clk=>Zd5 P tl ⟨e,h,clk⟩ K) hd e h clk
section
variable{P:Program}{ops:Array Oper}
theorem zc4{y:Operand}{x:Opd}(h:Zh y=some x):∀t∈Zdv x,y=.tmp t:=by
 intro t ht;cases x with
 | t n=>
  grind[Zdv,zcl]
 | c v=>cases ht
theorem zei{fields:Array Field}:∀{l:List (Nat×Operand)} {ps:List (Nat×Nat×Opd)},Zbw P fields l=some ps→∀t,t∈(ps.flatMap fun p=>Zdv p.2.2)→Operand.tmp t∈l.map (·.2)
 | [],ps,hr,t,ht=>by simp only[Zbw,Option.some.injEq]at hr;subst hr;cases ht
 | (i,x)::l,ps,hr,t,ht=>by
  simp only[Zbw]at hr;split at hr
  ·cases hr
  obtain⟨n,hn,hr1⟩:=bind_some hr;obtain⟨p,hp,hr2⟩:=bind_some hr1;obtain⟨qs,hq,rfl⟩:=map_some hr2;simp only[List.flatMap_cons,Yat]at ht;simp only[Yv,Yy];rcases ht with ht | ht
  ·exact .inl (zc4 hp t ht).symm
  ·exact .inr (zei hq t ht)
theorem zd2{n:Nat}:∀{l:List (Nat×Operand)} {ps:List (Nat×Nat×Opd)},Zca n l=some ps→∀t,t∈(ps.flatMap fun p=>Zdv p.2.2)→Operand.tmp t∈l.map (·.2)
 | [],ps,hr,t,ht=>by simp only[Zca,Option.some.injEq]at hr;subst hr;cases ht
 | (i,x)::l,ps,hr,t,ht=>by
  obtain⟨p,hp,hr2⟩:=bind_some hr;obtain⟨qs,hq,rfl⟩:=map_some hr2;simp only[List.flatMap_cons,Yat]at ht;simp only[Yv,Yy];rcases ht with ht | ht
  ·exact .inl (zc4 hp t ht).symm
  ·exact .inr (zd2 hq t ht)
theorem zow{o:Op}{op:AOp}(hop:Zdn P o=some op):∀t∈Zfp op,Operand.tmp t∈o.operands.toList:=by
 intro t ht;replace hop:=zaw hop;rcases hop with hop | ⟨k,xs,rfl,hx⟩
 rotate_left
 ·rcases hx with hx | ⟨rfl,rfl⟩
  ·cases k<;>simp only[Zfp]at ht<;>try (cases ht;done)
   match xs,hx,ht with
   | [],hx,ht=>grind
   | [x],hx,ht=>
    cases x with
    | t n=>
     grind[Zdv,znx]
    | c v=>cases ht
   | _::_::_,hx,ht=>grind
  ·cases ht
 cases o<;>simp only[Zbl]at hop
 case move y=>
  obtain⟨p,hp,rfl⟩:=map_some hop;simp[Op.operands,zc4 hp t ht]
 case assign y=>
  obtain⟨p,hp,rfl⟩:=map_some hop;simp[Op.operands,zc4 hp t ht]
 case build ty parts=>
  split at hop
  ·split at hop
   ·obtain⟨zs,_,hop1⟩:=bind_some hop;obtain⟨ps,hp,rfl⟩:=map_some hop1;have:=zei hp t ht;simpa[Op.operands]using this
   grind
  ·obtain⟨n,_,hop0⟩:=bind_some hop;obtain⟨zs,_,hop1⟩:=bind_some hop0;obtain⟨ps,hp,rfl⟩:=map_some hop1;have:=zd2 hp t ht;simpa[Op.operands]using this
  grind
 all_goals
  exfalso;have key:op.slotty=false:=by
   clear ht;revert hop
   repeat' split
   all_goals (intro hop)
   all_goals try contradiction
   all_goals try (cases hop;rfl;done)
   all_goals try simp only[Yd,Y7,reduceCtorEq,and_false,exists_false]at hop
   all_goals try (exact hop.elim)
   all_goals first
    | (obtain⟨_,_,rfl⟩:=hop;rfl)
    | (obtain⟨_,_,hop⟩:=hop;split at hop<;>cases hop<;>rfl)
    | (obtain⟨_,_,_,_,rfl⟩:=hop;rfl)
    | (obtain⟨_,_,_,_,hop⟩:=hop;split at hop<;>cases hop<;>rfl)
    | (obtain⟨_,_,_,_,_,_,rfl⟩:=hop;rfl)
    | (obtain⟨_,_,_,_,_,_,_,_,rfl⟩:=hop;rfl)
    | (obtain⟨_,_,_,_,_,_,_,_,_,_,rfl⟩:=hop;rfl)
    | (obtain⟨_,_,_,_,_,_,_,_,hop⟩:=hop;split at hop<;>cases hop<;>rfl)
    | (obtain⟨_,_,_,_,_,_,_,_,_,_,hop⟩:=hop;split at hop<;>cases hop<;>rfl)
    | (obtain⟨_,_,hop⟩:=hop;split at hop<;>first | (cases hop;done) | (simp only[Yd,Y7]at hop;obtain⟨_,_,hop⟩:=hop;split at hop<;>first | (cases hop;done) | (simp only[Y7]at hop;first | (obtain⟨_,_,rfl⟩:=hop;rfl) | (obtain⟨_,_,_,_,rfl⟩:=hop;rfl))))
    | (obtain⟨_,_,hop⟩:=hop;split at hop<;>first | (cases hop;done) | (simp only[Yd,Y7]at hop;first | (obtain⟨_,_,rfl⟩:=hop;rfl) | (obtain⟨_,_,_,_,rfl⟩:=hop;rfl)))
  rw[zq3 key]at ht;cases ht
theorem zjv{h h':Heap}(hs:Zc5 h h'){z:Nat}{y:AV}{ys:List (List AV)}(hy:rowOf h z y=some ys):rowOf h' z y=some ys:=by
 cases y<;>simp only[rowOf]at hy ⊢<;>first | exact hy | (cases hy;done) | exact zeh hs hy
theorem zhx{op:AOp}{d g:Nat}{ρ:Nat→AV}{x:AV}{b:BId}{bx:Box}{ob:Option Box}(hm:op.maker=true)(h:stepW op (some d) ρ (obH b ob) g=some (x,(b,bx)::obH b ob,g+1)) :
  ∃f z k els,MkF b f z∧bx=⟨g,k,z,els⟩∧x=f g∧∀(hp:Heap) (c:Nat),Zc5 (obH b ob) hp→stepW op (some d) ρ hp c=some (f c,(b,⟨c,k,z,els⟩)::hp,c+1):=by
 cases op<;>simp only[AOp.maker]at hm<;>try (cases hm;done)
 case alloc zs=>
  obtain⟨rfl,rfl,rfl⟩:=h;exact⟨_,_,_,_,.ptr zs.length,rfl,rfl,fun hp c _=>rfl⟩
 case mks z zs l c=>
  simp only[stepW,Zf5]at h ⊢;split at h
  ·rename_i k1 n k2 m _ _;simp only[Y4]at h ⊢;split at h
   ·rename_i hc;obtain⟨rfl,rfl,rfl⟩:=h;exact⟨_,_,_,_,.bs z n.toNat,rfl,rfl,fun hp c _=>by rw[if_pos hc]⟩
   grind
  grind
 case app z x' y=>
  simp only[stepW,Zib]at h ⊢;obtain⟨ys,hy,h1⟩:=bind_some h;cases hv:ev ρ x'<;>rw[hv]at h1<;>simp only[Zhu]at h1<;>try (cases h1;done)
  case sl els fl=>
   simp only[Y4]at h1;split at h1
   ·simp only[Option.some.injEq,Prod.mk.injEq,List.cons.injEq,and_true]at h1;obtain⟨rfl,rfl,rfl⟩:=h1;refine⟨_,_,_,_,.bs z (els.length+ys.length),rfl,rfl,fun hp c hs=>?_⟩
    grind[zjv,Zhu]
   grind
  case bs id g' z' off n=>
   obtain⟨b0,hb0,h2⟩:=bind_some h1;split at h2
   ·rename_i hc;simp only[Option.some.injEq,Prod.mk.injEq,List.cons.injEq,and_true]at h2;obtain⟨rfl,rfl,rfl⟩:=h2;refine⟨_,_,_,_,.bs z (n+ys.length),rfl,rfl,fun hp c hs=>?_⟩
    grind[zjv,Zhu,zdg]
   grind
 case xop k xs=>
  cases k<;>simp only at hm<;>try (cases hm;done)
  rename_i n
  match xs,h with
  | [],h=>simp[stepW,Za7]at h
  | [y],h=>
   simp only[stepW,Za7,Yv,Yb9,Zi3,Y4]at h ⊢;obtain⟨cs,hcs,h1⟩:=bind_some h;split at h1
   ·simp only[Option.some.injEq,Prod.mk.injEq,List.cons.injEq,and_true]at h1;obtain⟨rfl,rfl,rfl⟩:=h1;refine⟨_,_,_,_,.ptr n,rfl,rfl,fun hp c _=>?_⟩
    grind
   grind
  | _::_::_,h=>simp[stepW,Za7]at h
theorem zl4{op:AOp}{d g:Nat}{ρ:Nat→AV}{x:AV}{hp:Heap}{c:Nat}(hm:op.maker=true)(h:stepW op (some d) ρ [] g=some (x,hp,c)):∃bx,hp=[(.loc d,bx)]∧c=g+1:=by
 cases op<;>simp only[AOp.maker]at hm<;>try (cases hm;done)
 case alloc zs=>
  grind[stepW,Zel]
 case mks z zs l c=>
  simp only[stepW,Zf5]at h
  grind
 case app z x' y=>
  obtain⟨ys,hy,h1⟩:=bind_some h;cases hv:ev ρ x'<;>rw[hv]at h1<;>simp only[Zhu]at h1<;>try (cases h1;done)
  grind
 case xop k xs=>
  cases k<;>simp only at hm<;>try (cases hm;done)
  match xs,h with
  | [],h=>simp[stepW,Za7]at h
  | [y],h=>
   obtain⟨cs,hcs,h1⟩:=bind_some h
   grind
  | _::_::_,h=>simp[stepW,Za7]at h
structure Mk where
 i:Nat
 d:Nat
 x:AV
 bs:Heap
 g0:Nat
 n:Nat
 ob:Option Box
def Mk.has(m:Mk)(g:Nat):Prop:=m.g0≤g∧g<m.g0+m.n
def FM(P:Program)(aos:List AO)(n:Nat)(h0:Heap)(c0:Nat)(MK:List Mk)(i:Nat)(ρ:Nat→AV)(x:AV):Prop:=
 i<n∧∃ao,aos[i]? = some ao ∧
  ((ao.guard=none∧∃m∈MK,m.i=i∧ao.dst=some m.d∧m.x=x ∧
    ((ao.op.maker=true∧∃b bx,m.bs=[(b,bx)]∧m.g0=bx.gen∧m.n=1∧stepW ao.op (some m.d) ρ (obH b m.ob) bx.gen=some (x,(b,bx)::obH b m.ob,bx.gen+1)∧∀g,Zdq bx g→Zff c0 ao.op ρ g) ∨
     (ao.op.maker=false∧m.ob=none∧∃f args,ao.op=.call f args∧Zjv P f (args.map (ev ρ)) m.g0 x m.bs m.n))) ∨
   (ao.op.maker=false∧(∀m∈MK,m.i≠i)∧QF P h0 ao ρ x∧∀g∈gnA x,Zff c0 ao.op ρ g))
def mkH(l:List Mk):Heap:=l.reverse.flatMap fun m=>m.bs
def mkN(l:List Mk):Nat:=(l.map fun m=>m.n).sum
theorem zdr{γ:Type}{id:BId}{x:γ}:∀(l:List (BId×γ)),(id,x)∈l→(∀y,(id,y)∈l→y=x)→l.lookup id=some x
 | [],h,_=>by cases h
 | (b,y)::l,h,hu=>by
  simp only[Yaj];by_cases hb:id=b
  ·subst hb;simp only[beq_self_eq_true];rw[hu y (by simp)]
  ·have:(id == b)=false:=by simpa using hb
   rw[this];refine zdr l ?_ fun z hz=>hu z (Ym _ hz);rcases Yy.1 h with h | h
   ·injection h with h1 h2
    exact absurd h1 hb
   ·exact h
theorem zhy{γ:Type}{id:BId}:∀(l:List (BId×γ)),(∀y,(id,y)∉l)→l.lookup id=none
 | [],_=>rfl
 | (b,y)::l,h=>by
  grind
theorem zl5{l:List Mk}{id:BId}{x:Box}:(id,x)∈mkH l↔∃m∈l,(id,x)∈m.bs:=by
 grind[mkH]
theorem zgi{γ:Type}:∀(l:List (BId×γ)),(l.map (·.1)).Nodup→∀{b:BId} {x y:γ},(b,x)∈l→(b,y)∈l→x=y
 | [],_,_,_,_,h,_=>by cases h
 | (c,z)::l,hn,b,x,y,h1,h2=>by
  simp only[Yv,List.nodup_cons]at hn;rcases Yy.1 h1 with h1 | h1<;>rcases Yy.1 h2 with h2 | h2
  ·rw[Prod.mk.injEq]at h1 h2;rw[h1.2,h2.2]
  ·rw[Prod.mk.injEq]at h1;exact absurd (Yz.2 ⟨_,h2,h1.1⟩) hn.1
  ·rw[Prod.mk.injEq]at h2;exact absurd (Yz.2 ⟨_,h1,h2.1⟩) hn.1
  ·exact zgi l hn.2 h1 h2
theorem zgj{γ:Type}:∀(l:List (BId×γ)) (b:BId) (x:γ),l.lookup b=some x→(b,x)∈l
 | [],b,x,h=>by simp at h
 | (c,y)::l,b,x,h=>by
  simp only[Yaj]at h;split at h
  ·rename_i hb;cases h;rw[eq_of_beq hb];simp
  ·exact Ym _ (zgj l b x h)
theorem znf{aos:List AO}{n:Nat}{h0 X:Heap}{c0:Nat}(hX0:Zc5 h0 X){Fin:Env→Heap→Nat→Prop}(hw:∀ao∈aos.take n,ao.op.writes=true→ao.op.maker=true)(hdst:∀(i:Nat) (o:Oper),ops[i]? = some o→∃ao:AO,aos[i]? = some ao∧ao.dst=o.dst) :
  ∀(l:List Oper) (k:Nat) (rest:List AO) (e:Env) (h:Heap) (clk:Nat),(∀j,j<l.length→l[j]? = ops[k+j]?)→(∀j,j<rest.length→rest[j]? = aos[k+j]?)→l.length=rest.length→k+l.length=n→(∀id,h.lookup id=none→X.lookup id=none) →
   Zbr P h0 c0 X Fin rest e h clk →
   ∃MKs:List Mk,(∀m∈MKs,k≤m.i∧m.i<n∧clk≤m.g0∧m.g0+m.n≤clk+mkN MKs∧(∀p∈m.bs,h.lookup p.1=m.ob∧X.lookup p.1=m.ob∧h0.lookup p.1=none)∧(m.bs.map (·.1)).Nodup) ∧
    (∀m∈MKs,∀m'∈MKs,(m.i=m'.i∨(∃b x y,(b,x)∈m.bs∧(b,y)∈m'.bs)∨(∃g,m.has g∧m'.has g))→m=m') ∧
    (∀m∈MKs,∃ao,aos[m.i]? = some ao∧ao.op.noisy=true) ∧
    ∀MK:List Mk,(∀m∈MKs,m∈MK)→(∀m∈MK,k≤m.i→m∈MKs)→Zfe ops (FM P aos n h0 c0 MK) (fun ρ=>∃e,ρ=Env.get e∧Fin e (mkH MKs++h) (clk+mkN MKs)) l k e.get
 | [],k,rest,e,h,clk,_,_,hlen,_,_,hk=>by
  have:rest=[]:=Ya0 (by grind);subst this;exact⟨[],by simp,by simp,by simp,fun MK _ _=>⟨e,rfl,by simpa[mkH,mkN,Zbr]using hk⟩⟩
 | o::l,k,rest,e,h,clk,hl,hr,hlen,hkn,hXh,hk=>by
  cases rest with
  | nil=>grind
  | cons ao rest=>
   have h0':ops[k]? = some o:=by simpa using (hl 0 (by simp)).symm
   have h1:aos[k]? = some ao:=by simpa using (hr 0 (by simp)).symm
   obtain⟨ao',h2,hd⟩:=hdst k o h0';rw[h1]at h2;cases h2;simp only[Yk]at hkn;have hmem:ao∈aos.take n:=Yf (i:=k) (by grind);have hl':∀j,j<l.length→l[j]? = ops[k+1+j]? := fun j hj=>by have:=hl (j+1) (by grind);grind
   have hr':∀j,j<rest.length→rest[j]? = aos[k+1+j]? := fun j hj=>by have:=hr (j+1) (by grind);grind
   simp only[Zbr]at hk
   -- one that makes boxes
   have make:∀(d:Nat) (x:AV) (B:Heap) (m:Nat) (ob:Option Box),ao.op.noisy=true→ao.dst=some d→(∀p∈B,h.lookup p.1=ob∧X.lookup p.1=ob∧h0.lookup p.1=none)→(∀p∈B,X.lookup p.1≠some p.2)→(B.map (·.1)).Nodup →
     (∀MK:List Mk,(⟨k,d,x,B,clk,m,ob⟩:Mk)∈MK→FM P aos n h0 c0 MK k e.get x)→Zbr P h0 c0 X Fin rest (Zm e (some d) x) (B++h) (clk+m)→(∃MKs:List Mk,(∀m∈MKs,k≤m.i∧m.i<n∧clk≤m.g0∧m.g0+m.n≤clk+mkN MKs∧(∀p∈m.bs,h.lookup p.1=m.ob∧X.lookup p.1=m.ob∧h0.lookup p.1=none)∧(m.bs.map (·.1)).Nodup) ∧
      (∀m∈MKs,∀m'∈MKs,(m.i=m'.i∨(∃b x y,(b,x)∈m.bs∧(b,y)∈m'.bs)∨(∃g,m.has g∧m'.has g))→m=m') ∧
      (∀m∈MKs,∃ao,aos[m.i]? = some ao∧ao.op.noisy=true) ∧
    ∀MK:List Mk,(∀m∈MKs,m∈MK)→(∀m∈MK,k≤m.i→m∈MKs)→Zfe ops (FM P aos n h0 c0 MK) (fun ρ=>∃e,ρ=Env.get e∧Fin e (mkH MKs++h) (clk+mkN MKs)) (o::l) k e.get):=by
    intro d x B m ob hno hdd hfr hXB hnd hF hk2;obtain⟨MKs,p1,p2,p4,p3⟩:=znf hX0 (Fin:=Fin) hw hdst l (k+1) rest _ _ _ hl' hr' (by grind) (by omega) (fun id hid=>hXh id (by grind)) hk2;have hsum:mkN (⟨k,d,x,B,clk,m,ob⟩::MKs)=m+mkN MKs:=by simp[mkN]
    refine⟨⟨k,d,x,B,clk,m,ob⟩::MKs,fun q hq=>?_,fun q hq q' hq' he=>?_,fun q hq=>(Yy.1 hq).elim (fun e=>by grind) (fun hq=>p4 q hq),fun MK hMK hMK2=>?_⟩
    ·rw[hsum];rcases Yy.1 hq with rfl | hq
     ·grind
     ·obtain⟨q1,q2,q3,q4,q5,q6⟩:=p1 q hq;refine⟨by omega,q2,by omega,by omega,fun p hp=>?_,q6⟩;obtain⟨this,hxo,h0o⟩:=q5 p hp;cases hBl:B.lookup p.1 with
      | none=>grind
      | some bx=>grind
    ·have key:∀m'∈MKs,(k=m'.i∨(∃b x y,(b,x)∈B∧(b,y)∈m'.bs)∨(∃g,(clk≤g∧g<clk+m)∧m'.has g))→False:=by
      intro m' hm' he;obtain⟨q1,q2,q3,q4,q5,_⟩:=p1 m' hm';rcases he with he | ⟨b,u,v,hb,hb'⟩ | ⟨g,hg,hg'⟩
      ·omega
      ·obtain⟨this,hxo,h0o⟩:=q5 _ hb';cases hBl:B.lookup b with
       | none=>grind
       | some bx=>exact hXB (b,bx) (zgj _ _ _ hBl) (by grind)
      ·have h3:=hg'.1;omega
     rcases Yy.1 hq with rfl | hq<;>rcases Yy.1 hq' with rfl | hq'
     ·rfl
     ·exact(key q' hq' he).elim
     ·refine(key q hq ?_).elim;rcases he with he | ⟨b,u,v,hb,hb'⟩ | ⟨g,hg,hg'⟩
      ·grind
      ·grind
      ·exact .inr (.inr ⟨g,hg',hg⟩)
     grind
    ·refine⟨x,hF MK (hMK _ (by simp)),?_⟩;have:=p3 MK (fun m hm=>hMK m (by grind)) (fun q hq hqi=>by
      grind)
     rw[←hd,←zdd,hdd];have e1:mkH (⟨k,d,x,B,clk,m,ob⟩::MKs)++h=mkH MKs++(B++h):=by simp[mkH]
     have e2:clk+mkN (⟨k,d,x,B,clk,m,ob⟩::MKs:List Mk)=clk+m+mkN MKs:=by omega
     rw[e1,e2];omega
   cases hmk:ao.op.maker with
   | true=>
    rw[hmk]at hk;obtain⟨hgn,d,x,b,bx,ob,hdd,hst,hfr,hfx,hf0,hgo,hcont,hk2⟩:=hk;obtain⟨f,z,kd,els,hf,hbx,hx,_⟩:=zhx hmk hst;have hg0:bx.gen=clk:=by grind
    refine make d x [(b,bx)] 1 ob (by cases hop:ao.op<;>rw[hop]at hmk<;>first | rfl | exact hmk | cases hmk) hdd (fun p hp=>by grind) (fun p hp he=>?_) (by simp) (fun MK hm=>⟨by omega,ao,h1,.inl ⟨hgn,_,hm,rfl,hdd,rfl,.inl ⟨hmk,b,bx,rfl,hg0.symm,rfl,by grind,hcont⟩⟩⟩) hk2
    grind
   | false=>
    rw[hmk]at hk;have hns:ao.op.isStore=false:=by
     cases hh:ao.op.isStore with
     | false=>rfl
     | true=>
      have hww:ao.op.writes=true:=by
       cases hop:ao.op<;>rw[hop]at hh<;>first | rfl | cases hh
      grind
    rw[hns]at hk;rcases hk with hk | ⟨hgn,f,args,d,x,B,m,hop,hdd,hcb,hfr,hk2⟩
    ·have hwr:ao.op.writes=false:=by
      grind
     obtain⟨x,hq1,_,hcont,hk2⟩:=zuu hwr hk;obtain⟨MKs,p1,p2,p4,p3⟩:=znf hX0 (Fin:=Fin) hw hdst l (k+1) rest _ _ _ hl' hr' (by grind) (by omega) hXh hk2;refine⟨MKs,fun m hm=>?_,p2,p4,fun MK hMK hMK2=>⟨x,⟨by omega,ao,h1,.inr ⟨hmk,fun m hm he=>?_,hq1,hcont⟩⟩,?_⟩⟩
     ·grind
     ·grind
     grind[zdd]
    ·have hfx:∀p∈B,X.lookup p.1=none:=fun p hp=>hXh _ (hfr p hp);have hf0:∀p∈B,h0.lookup p.1=none:=fun p hp=>by
      cases hl0:h0.lookup p.1 with
      | none=>rfl
      | some y=>have:=hX0 _ _ hl0;grind
     exact make d x B m none (by rw[hop];rfl) hdd (fun p hp=>⟨hfr p hp,hfx p hp,hf0 p hp⟩) (fun p hp he=>by grind) hcb.2.2.1 (fun MK hm=>⟨by omega,ao,h1,.inl ⟨hgn,_,hm,rfl,hdd,rfl,.inr ⟨hmk,rfl,f,args,hop,hcb⟩⟩⟩) hk2
theorem zej{h0 X:Heap}{c0:Nat}{Fin:Env→Heap→Nat→Prop}(s:List AO):∀(l:List AO) (e:Env) (h:Heap) (clk:Nat),Zbr P h0 c0 X Fin (l++s) e h clk=Zbr P h0 c0 X (fun e h clk=>Zbr P h0 c0 X Fin s e h clk) l e h clk
 | [],e,h,clk=>rfl
 | o::l,e,h,clk=>by
  have ih:=zej (h0:=h0) (X:=X) (c0:=c0) (Fin:=Fin) s l;simp only[Ybl,Zbr,ih]
end
end
section
open Go.RowKit
section
variable{P:Program}{w w':World}{S S':Nat→Nat→Prop}{M M':Map}
theorem znj{γ:Type}:∀(l:List (BId×γ)) (b:BId) (x:γ),l.lookup b=some x→(b,x)∈l
 | [],b,x,h=>by simp at h
 | (c,y)::l,b,x,h=>by
  simp only[Yaj]at h;split at h
  ·rename_i hb;cases h;rw[eq_of_beq hb];simp
  ·exact Ym _ (znj l b x h)
theorem RelF.mk2{cx:Cx}{h B:Heap}{ρ:Nat→AV}{a:Act}{c g0 n nt:Nat}{v:Value}{x:AV}(hr:RelF cx S M c h ρ a w)
  (hw:WRel ⟨P,nt,w,S,fun _=>none,g0⟩ S' M' (g0+n) B w') (hC:C w' S' M' (g0+n) v x) (hc:g0+n≤c) (h0:cx.clk0≤g0) (hfr:∀p∈B,h.lookup p.1=none)
  (henv:∀t,∀q∈gnA (ρ t),¬ (g0≤q∧q<g0+n)) (hbox:∀id bx,h.lookup id=some bx→¬ (g0≤bx.gen∧bx.gen<g0+n)∧∀q,Zdq bx q→¬ (g0≤q∧q<g0+n))
  (hx:∀g∈gnA x,g0≤g) (hB:∀p∈B,∀g,Zdq p.2 g→g0≤g) :
  ∃M2,RelF cx S' M2 c (B++h) ρ a w'∧C w' S' M2 c v x:=by
 have hno:∀k,¬ (⟨P,nt,w,S,fun _=>none,g0⟩:Cx).brw k:=by
  intro k ⟨g,hg⟩
  grind
 have hblk:∀k,k<w.heap.size→w'.heap[k]? = w.heap[k]? := fun k hk=>hw.fr.block k hk (hno k);have hSo:∀k o,k<w.heap.size→S' k o→S k o:=by
  intro k o hk hs;rcases hw.Snew k o hs with h1 | h1 | h1
  all_goals grind
 have hin:∀g m,M' g=some m→g0≤g∧g<g0+n:=by
  intro g m hm;obtain⟨b,bx,h1,h2⟩:=hw.heap.live g m hm;refine⟨?_,by rw[←h2];exact(hw.heap.box b bx h1).1⟩;rcases Yt g g0 with hlt | hge
  ·have:=hw.ext.hM g m hlt hm
   grind
  omega
 have hMk:∀g k,M' g=some (some k)→k<w'.heap.size∧w.heap.size≤k:=by
  intro g k hm;obtain⟨h1,h2⟩:=hw.Mnew g k hm
  grind
 have hx1:Ext w S M c w' S' M c:=by
  refine⟨hw.ext.hS,hw.ext.hcell,Yg _,fun g m _ hm=>hm,fun g k arr e _ hm hb=>⟨arr,?_,rfl⟩⟩
  grind
 generalize hM2:(fun g=>if g0≤g∧g<g0+n then M' g else M g:Map)=M2;have m1:∀g,g0≤g∧g<g0+n→M2 g=M' g:=by grind
 have m2:∀g,¬ (g0≤g∧g<g0+n)→M2 g=M g:=by grind
 have m3:∀g m,M2 g=some m→((g0≤g∧g<g0+n)∧M' g=some m)∨(¬ (g0≤g∧g<g0+n)∧M g=some m):=by
  grind
 have hlt:∀q,¬ (g0≤q∧q<g0+n)→q<c→M2 q=M q∧q<c:=fun q h1 h2=>⟨m2 q h1,h2⟩;have hlook:∀id bx,(B++h).lookup id=some bx→B.lookup id=some bx∨(B.lookup id=none∧h.lookup id=some bx):=by
  grind
 have hlh:∀id bx,h.lookup id=some bx→(B++h).lookup id=some bx:=by
  grind
 have hBg:∀id bx,B.lookup id=some bx→g0≤bx.gen∧bx.gen<g0+n:=by
  intro id bx hb;obtain⟨b1,_,m,hm,_⟩:=hw.heap.box id bx hb
  grind
 refine⟨M2,⟨hr.size,hr.defers,fun t=>?_,⟨⟨fun b bx hb=>?_,fun g m hm=>?_,fun b bx b' bx' h1 h2 hg=>?_,fun g g' k h1 h2=>?_⟩,⟨?_,?_,?_,fun g m hg hm=>?_,fun g k arr e hg hm hb=>?_⟩,?_,fun k o hs=>?_,hw.Slt,fun g k hm=>?_⟩⟩,?_⟩
 ·exact((hr.env t).mono hx1).remap fun q hq=>hlt q (henv t q hq) ((hr.env t).gn q hq)
 ·rcases hlook b bx hb with h1 | ⟨_,h1⟩
  ·have hbk:=hw.heap.box b bx h1;have hg:=hBg b bx h1;refine hbk.remap (m1 _ hg) (by omega) fun q hq=>?_;have h2:=hB _ (znj B b bx h1) q hq;have h3:=hbk.gn.2 q hq
   grind
  ·have hbk:=hr.wr.heap.box b bx h1;obtain⟨e1,e2⟩:=hbox b bx h1;refine(hbk.mono hx1 rfl (fun k hm=>hblk k (hr.wr.Mnew _ k hm).1) fun k o hm hs=>hSo k o (hr.wr.Mnew _ k hm).1 hs).remap (m2 _ e1) hbk.1 fun q hq=>?_;exact hlt q (e2 q hq) (hbk.gn.2 q hq)
 ·rcases m3 g m hm with ⟨_,h1⟩ | ⟨_,h1⟩
  ·obtain⟨b,bx,h2,h3⟩:=hw.heap.live g m h1
   grind
  ·obtain⟨b,bx,h2,h3⟩:=hr.wr.heap.live g m h1
   grind
 ·rcases hlook b bx h1 with h1 | ⟨_,h1⟩<;>rcases hlook b' bx' h2 with h2 | ⟨_,h2⟩
  ·exact hw.heap.gens b bx b' bx' h1 h2 hg
  ·grind
  ·grind
  ·exact hr.wr.heap.gens b bx b' bx' h1 h2 hg
 ·rcases m3 g _ h1 with ⟨_,e1⟩ | ⟨_,e1⟩<;>rcases m3 g' _ h2 with ⟨_,e2⟩ | ⟨_,e2⟩
  ·exact hw.heap.inj _ _ _ e1 e2
  ·have:=(hMk g k e1).2;have:=(hr.wr.Mnew g' k e2).1;omega
  ·have:=(hMk g' k e2).2;have:=(hr.wr.Mnew g k e1).1;omega
  ·exact hr.wr.heap.inj _ _ _ e1 e2
 ·exact(hr.wr.ext.trans hx1).hS
 ·exact(hr.wr.ext.trans hx1).hcell
 ·omega
 ·rw[m2 g (by omega)]at hm;exact(hr.wr.ext.trans hx1).hM g m hg hm
 ·rw[m2 g (by omega)]at hm;exact(hr.wr.ext.trans hx1).hblk g k arr e hg hm hb
 ·have f1:=hr.wr.fr;have f2:=hw.fr;exact⟨f2.os.trans f1.os,f2.tape.trans f1.tape,f2.output.trans f1.output,Yc f1.size f2.size,fun k hk hn=>(hblk k (Yl hk f1.size)).trans (f1.block k hk hn)⟩
 ·rcases hw.Snew k o hs with h1 | h1 | h1
  ·exact hr.wr.Snew k o h1
  ·exact .inr (.inl (Yc hr.wr.fr.size h1))
  grind
 ·rcases m3 g _ hm with ⟨_,e1⟩ | ⟨_,e1⟩
  ·obtain⟨h1,h2⟩:=hMk g k e1;exact⟨h1,.inl (Yc hr.wr.fr.size h2)⟩
  ·obtain⟨h1,h2⟩:=hr.wr.Mnew g k e1
   grind
 ·exact hC.remap fun q hq=>by
   have h2:=hC.gn q hq
   grind
end
end
section
open Go.RowKit
section
variable{P:Program}{ops:Array Oper}{md:Region.Mode}{F:Nat→(Nat→AV)→AV→Prop}
theorem ze8(hL:Zev ops F){n g:Nat}{Lq:(Nat→AV)→Prop}(hs:Region.sinkB md ops n=true)(hc:Region.chainB md ops n=true)(hn:n<ops.size) :
  ∀(l:List Oper) (k:Nat) (listed:Array Bool) (ρ:Nat→AV),(∀j,j<l.length→l[j]? = ops[k+j]?)→k+l.length=n→HeadInv md ops n listed→(∀i,i<k→listed.getD i false=true) →
  Region.lexHead md ops g l.length k listed=true→Zfe ops F Lq l k ρ →
  Zgq md ops F n (fun listed' ρ'=>Region.seqB md ops g n listed'=true∧(∀i,i<n→listed'.getD i false=true)∧Lq ρ') l.length listed ρ
 | [],k,listed,ρ,_,hk,_,hfull,hB,h=>by
  have:k=n:=by simpa using hk
  subst this;exact⟨by simpa[Region.lexHead]using hB,hfull,h⟩
 | o::l,k,listed,ρ,hl,hk,inv,hfull,hB,h=>by
  have h0:ops[k]? = some o:=by simpa using (hl 0 (by simp)).symm
  simp only[Yk,Region.lexHead,Yj]at hB;obtain⟨⟨hr,hf⟩,hB'⟩:=hB;have hkn:k<n:=by simp only[Yk]at hk;omega
  have hr':k∈Region.ready md ops listed:=by simpa using hr
  obtain⟨v,hy,hK⟩:=h;have hksz:k<listed.size:=by rw[inv.size];omega
  exact zgf hL h0 hs hc hn hkn (fun listed' a' hL=>seqB_ready hL.1) l.length listed ρ inv (Region.free_spec h0 hf) hr' hy
   (ze8 hL hs hc hn l (k+1) _ _ (fun j hj=>by have:=hl (j+1) (by simp;omega);simpa[Ya1,Yb6 1 j]using this) (by simp only[Yk]at hk;omega) (inv.set hr' hkn) (fun i hi=>by
    by_cases hik:k=i
    ·subst hik;simp[hksz]
    ·rw[getD_set_ne false hik];exact hfull i (by omega)) hB' hK)
theorem zce{n g:Nat}{L:Array Bool→(Nat→AV)→Prop}{R:Array Bool→(Nat→AV)→Act→World→Prop}{Q':Exit→Act→World→Prop}
  (hs:∀i o listed,i<n→ops[i]? = some o→i∈Region.ready md ops listed→∀ρ x a w (K:Act→World→Prop),F i ρ x→R listed ρ a w→(∀a' w',R (listed.setIfInBounds i true) (upd ρ o.dst x) a' w'→K a' w')→wpOp P ops Q' i K a w)
  (hQ:∀listed ρ a w,L listed ρ→R listed ρ a w→wpAny P md ops Q' g listed a w):∀(f:Nat) (listed:Array Bool) (ρ:Nat→AV) (a:Act) (w:World),R listed ρ a w →
  Zgq md ops F n L f listed ρ→wpAny P md ops Q' (f+g) listed a w
 | 0,_,_,_,_,hr,h=>by rw[Yai];exact hQ _ _ _ _ h hr
 | f+1,listed,ρ,a,w,hr,h=>by
  rw[show f+1+g=(f+g)+1 by omega];refine⟨fun h0=>absurd h0 h.1,fun i hi=>?_⟩;obtain⟨hin,h2⟩:=h.2 i hi;obtain⟨_,o,ho,_⟩:=mem_ready.1 hi;unfold fOp at h2;simp only[ho]at h2;obtain⟨x,hx,hK⟩:=h2;exact hs i o listed hin ho hi ρ x a w _ hx hr fun a' w' hr'=>zce hs hQ f _ _ a' w' hr' hK
end
section
variable{P:Program}{ops:Array Oper}{cx:Cx}{w:World}{a:Act}
def Gok(c0:Nat)(MK:List Mk)(listed:Array Bool)(g:Nat):Prop:=g<c0∨∃m∈MK,listed.getD m.i false=true∧m.has g
def RM(cx:Cx)(X:Heap)(c0:Nat)(MK:List Mk)(listed:Array Bool)(ρ:Nat→AV)(a:Act)(w:World):Prop:=
 ∃h',Ze1 cx (c0+mkN MK) h' ρ a w∧(∀id bx,X.lookup id=some bx→(∀m∈MK,listed.getD m.i false=true→∀y,(id,y)∉m.bs)→h'.lookup id=some bx)∧(∀m∈MK,listed.getD m.i false=true→∀p∈m.bs,h'.lookup p.1=some p.2) ∧
  (∀id bx,h'.lookup id=some bx→X.lookup id=some bx∨∃m∈MK,listed.getD m.i false=true∧(id,bx)∈m.bs) ∧
  (∀t,∀g∈gnA (ρ t),Gok c0 MK listed g)∧(∀id bx,h'.lookup id=some bx→Gok c0 MK listed bx.gen∧∀g,Zdq bx g→Gok c0 MK listed g)
theorem Gok.mono{c0:Nat}{MK:List Mk}{listed:Array Bool}{i g:Nat}(h:Gok c0 MK listed g):Gok c0 MK (listed.setIfInBounds i true) g:=by
 rcases h with h | ⟨m,hm,hl,hg⟩
 ·exact .inl h
 ·refine .inr ⟨m,hm,?_,hg⟩;by_cases hi:i=m.i
  ·have:m.i<listed.size:=by
    grind
   simp_all
  simp_all
theorem zng{nt n c0:Nat}{aos:List AO}{h0:Heap}{MK:List Mk}(hget':∀(i:Nat) (o:Oper),ops[i]? = some o→∃ao,aos[i]? = some ao∧Zcu P nt ops o=some ao):Zev ops (FM P aos n h0 c0 MK):=by
 intro i o ho ρ ρ' hρ x ⟨hin,ao,hao,hq⟩;obtain⟨ao',h1,h2⟩:=hget' i o ho;rw[hao]at h1;cases h1;refine⟨hin,ao,hao,?_⟩;obtain⟨op,g,hop,hg,rfl,_⟩:=zas h2;have hops:∀t,Operand.tmp t∈o.op.operands.toList→ρ t=ρ' t:=fun t ht=>hρ t (by
  grind[Oper.looksAt])
 have hct:∀q,Zff c0 op ρ q→Zff c0 op ρ' q:=by
  intro q hq;rcases hq with hq | ⟨t,ht,hq⟩
  ·exact .inl hq
  ·exact .inr ⟨t,ht,by rw[←hops t (zow hop t ht)];omega⟩
 rcases hq with ⟨e1,m,e2,e3,e4,e5,hkk⟩ | ⟨hmk,e1,e2,e3⟩
 ·grind[zea,zdn,zcw,Op.operands,Call.operands]
 ·grind[QF,zen,Zbx,map_some,Oper.looksAt]
theorem zgk(b:BId):∀(h:Heap) (id:BId),(h.filter fun p=>!(p.1 == b)).lookup id=if id=b then none else h.lookup id
 | [],id=>by grind
 | (c,x)::h,id=>by
  have ih:=zgk b h id
  grind
theorem zq4{nt n c0:Nat}{aos:List AO}{h0 X:Heap}(hX0:Zc5 h0 X){MK:List Mk}{Q:Exit→Act→World→Prop}(hnt:nt=cx.nt)(hget':∀(i:Nat) (o:Oper),ops[i]? = some o→∃ao,aos[i]? = some ao∧Zcu P nt ops o=some ao)(hc0:cx.clk0≤c0)
  (p1:(∀m∈MK,0≤m.i∧m.i<n∧c0≤m.g0∧m.g0+m.n≤c0+mkN MK∧(∀p∈m.bs,X.lookup p.1=m.ob∧X.lookup p.1=m.ob∧h0.lookup p.1=none)∧(m.bs.map (·.1)).Nodup)) (p2:(∀m∈MK,∀m'∈MK,(m.i=m'.i∨(∃b x y,(b,x)∈m.bs∧(b,y)∈m'.bs)∨(∃g,m.has g∧m'.has g))→m=m'))
  {i:Nat} {o:Oper} {listed:Array Bool} (ho:ops[i]? = some o) (hrd:i∈Region.ready .any ops listed) {ρ:Nat→AV} {x:AV} {a:Act} {w:World} {K':Act→World→Prop}
  (hF:FM P aos n h0 c0 MK i ρ x) (hr:RM cx X c0 MK listed ρ a w) (hK':∀a' w',RM cx X c0 MK (listed.setIfInBounds i true) (upd ρ o.dst x) a' w'→K' a' w'):wpOp P ops Q i K' a w:=by
 have fresh:∀(listed:Array Bool) (m:Mk),m∈MK→listed.getD m.i false=false→∀g,Gok c0 MK listed g→¬ m.has g∧g<c0+mkN MK:=by
  intro listed m hmM hun g hg;obtain⟨_,_,q3,q4,_,_⟩:=p1 m hmM;rcases hg with hg | ⟨m',hm',hl,hh⟩
  ·exact⟨fun h=>by have:=h.1;omega,by omega⟩
  ·obtain⟨_,_,_,r4,_,_⟩:=p1 m' hm';refine⟨fun he=>?_,by have:=hh.2;omega⟩
   grind
 obtain⟨_,ao,hao,hq⟩:=hF;obtain⟨ao',h1,h2⟩:=hget' i o ho;rw[hao]at h1;cases h1;have hun:=(mem_ready.1 hrd).1;have hisz:i<listed.size:=by
  grind
 obtain⟨h',hrel,r1,r2,r3,r4,r5⟩:=hr;have hset:∀k,k≠i→(listed.setIfInBounds i true).getD k false=listed.getD k false:=fun k hk=>getD_set_ne false (Ne.symm hk);have hseti:(listed.setIfInBounds i true).getD i false=true:=by simp[hisz]
 obtain⟨op,g,hop,hg,hao',hd⟩:=zas h2;have hcok:∀q,Zff c0 ao.op ρ q→Gok c0 MK listed q:=by
  intro q hq;rcases hq with hq | ⟨t,_,hq⟩
  ·exact .inl hq
  grind
 rcases hq with ⟨hgn,m,hmM,hmi,hdst,hmx,hkind⟩ | ⟨hmk,hnm,hqf,hcont⟩
 rotate_left
 ·have hsub:Zc5 h0 h':=fun id bx hb=>r1 id bx (hX0 _ _ hb) fun m hm' _ y hy=>by
   grind
  refine zdq ho hnt h2 (zxa hsub hqf) hrel fun a' w' hr'=>hK' a' w' ⟨h',hr',fun id bx hb hno=>r1 id bx hb fun m hm' hl=>hno m hm' (by grind),fun m hm' hl p hp=>r2 m hm' ?_ p hp,fun id bx hb=>?_,fun t q hq'=>?_,fun id bx hb=>⟨(r5 id bx hb).1.mono,fun q hq'=>((r5 id bx hb).2 q hq').mono⟩⟩
  ·grind
  ·grind
  ·cases hdd:o.dst with
   | none=>rw[hdd]at hq';exact(r4 t q hq').mono
   | some d=>
    rw[hdd]at hq';simp only[upd]at hq';split at hq'
    ·exact(hcok q (hcont q hq')).mono
    ·exact(r4 t q hq').mono
 subst hmi;have hunf:listed.getD m.i false=false:=getD_both hun;obtain⟨q1,q2,q3,q4,q5,q6⟩:=p1 m hmM;have hfr:=fresh listed m hmM hunf;have huse:∀id y,(id,y)∈m.bs→∀m'∈MK,listed.getD m'.i false=true→∀z,(id,z)∉m'.bs:=by
  grind
 have hmono:∀m'∈MK,listed.getD m'.i false=true→(listed.setIfInBounds m.i true).getD m'.i false=true:=by
  grind
 have hodst:o.dst=some m.d:=by grind
 have hfin:∀a' w',Ze1 cx (c0+mkN MK) (m.bs++h') (upd ρ o.dst x) a' w'→(∀q∈gnA x,Gok c0 MK (listed.setIfInBounds m.i true) q) →
   (∀p∈m.bs,m.has p.2.gen∧∀q,Zdq p.2 q→Gok c0 MK (listed.setIfInBounds m.i true) q)→K' a' w':=by
  intro a' w' hre hgx hgb;have hlk:∀id,m.bs.lookup id=none→(m.bs++h').lookup id=h'.lookup id:=by
   grind
  have hlm:∀p∈m.bs,(m.bs++h').lookup p.1=some p.2:=by
   intro p hp;rw[zb9,zdr m.bs (id:=p.1) (x:=p.2) hp fun y hy=>zgi _ q6 hy hp]
   rfl
  have hcas:∀id bx,(m.bs++h').lookup id=some bx→(id,bx)∈m.bs∨h'.lookup id=some bx:=by
   grind
  refine hK' _ _ ⟨m.bs++h',hre,fun id bx hb hno=>?_,fun m' hm' hl p hp=>?_,fun id bx hb=>?_,fun t q hq=>?_,fun id bx hb=>?_⟩
  ·rw[hlk id (zhy _ fun y hy=>hno m hmM hseti y hy)];exact r1 id bx hb fun m' hm' hl=>hno m' hm' (hmono m' hm' hl)
  ·by_cases hmm:m'=m
   ·grind
   grind
  ·rcases hcas id bx hb with hb | hb
   ·grind
   ·rcases r3 id bx hb with h6 | ⟨m',hm',h7,h8⟩
    ·grind
    grind
  ·rw[hodst]at hq;simp only[upd]at hq;split at hq
   ·grind
   ·exact(r4 t q hq).mono
  ·rcases hcas id bx hb with hb | hb
   ·obtain⟨h3,h4⟩:=hgb _ hb;exact⟨.inr ⟨m,hmM,hseti,h3⟩,h4⟩
   ·exact⟨(r5 id bx hb).1.mono,fun q hq=>((r5 id bx hb).2 q hq).mono⟩
 rcases hkind with ⟨hmk,b0,bx,hbs,hg0,hn1,hst,hbc⟩ | ⟨hmk,hob,f,args,hopc,hnr,hac,hnd,hgx,hgb⟩
 ·obtain⟨f,z,kd,els,hf,hbx,hx,hall⟩:=zhx hmk hst;have hhas:∀q,q=bx.gen→m.has q:=by
   intro q hq;subst hq;refine⟨by omega,by omega⟩
  obtain⟨S,M,hrf⟩:=hrel;subst hnt;have hmem:(b0,bx)∈m.bs:=by grind
  have hsubO:Zc5 (obH b0 m.ob) h':=by
   intro id y hy;cases hob:m.ob with
   | none=>rw[hob]at hy;cases hy
   | some ob=>
    rw[hob]at hy;simp only[obH,Yaj]at hy
    grind
  have hst2:=hall h' (c0+mkN MK) hsubO;subst hao';simp only at hst2 hgn hdst hmk hbc;subst hgn;rw[←hdst]at hst2;obtain⟨v,w',S',M',h3,h4,h5⟩:=zc3 hop hrf hst2;have hput0:=h4.put hd h5;rw[hdst]at hput0;have hcg:∀(y:Box) (id:BId),((b0,y)::h'.filter fun p=>!(p.1 == b0)).lookup id=((b0,y)::h').lookup id:=by
   intro y id;rw[Yaj,Yaj,zgk]
   grind
  have hput:=hput0.heap_congr (hcg _);have hnone':(h'.filter fun p=>!(p.1 == b0)).lookup b0=none:=by grind
  have hdr:∀id y,(h'.filter fun p=>!(p.1 == b0)).lookup id=some y→h'.lookup id=some y:=by
   intro id y hy;rw[zgk]at hy
   grind
  have hgen:bx.gen<c0+mkN MK:=by omega
  have hfr':∀q,Gok c0 MK listed q→q≠bx.gen∧q<c0+mkN MK:=fun q hq=>⟨fun e=>(hfr q hq).1 (hhas q e),(hfr q hq).2⟩;have hbx':∀q,Zdq ⟨c0+mkN MK,kd,z,els⟩ q→Zdq bx q:=by
   intro q hq;rw[hbx];exact hq
  have hre:=RelF.regen (g:=bx.gen) hf hput hgen (by omega) hnone' (fun t q hq=>hfr' q (r4 t q hq)) (fun id bx hb=>⟨(hfr' _ (r5 id bx (hdr id bx hb)).1).1,(hfr' _ (r5 id bx (hdr id bx hb)).1).2,fun q hq=>hfr' q ((r5 id bx (hdr id bx hb)).2 q hq)⟩) (fun q hq=>hfr' q (hcok q (hbc q (hbx' q hq))));have e1:(⟨bx.gen,kd,z,els⟩:Box)=bx:=by grind
  rw[e1,←hx]at hre;have hfin2:K' (a.put o.dst v) w':=by
   refine hfin _ _ ?_ (fun q hq=>?_) fun p hp=>?_
   ·rw[hdst,hbs];exact⟨_,_,hre.heap_congr fun id=>(hcg bx id).symm⟩
   ·have:q=bx.gen:=by
     rw[hx]at hq;cases hf with
     | ptr=>simpa[gnA]using hq
     | bs=>simpa[gnA]using hq
    exact .inr ⟨m,hmM,hseti,hhas q this⟩
   ·rw[hbs]at hp;have:p=(b0,bx):=by grind
    subst this;exact⟨hhas _ rfl,fun q hq=>(hcok q (hbc q hq)).mono⟩
  grind[wpOp,zcc,zc2,Oper.wp,Oper.upon_skip]
 ·have hnone:∀p∈m.bs,h'.lookup p.1=none:=by
   intro p hp;cases hl:h'.lookup p.1 with
   | none=>rfl
   | some bx=>
    grind
  obtain⟨S,M,hrf⟩:=hrel;subst hnt;subst hao';simp only at hgn hopc hdst;subst hgn hopc;have hwant:=zcc hg a;obtain⟨dst,oop,type,pos,after,guard⟩:=o;simp only at hop hd hodst hfin;obtain⟨cargs,ats,hcall,hl⟩:=zdn hop;subst hcall;obtain⟨h1,h2⟩:=zx0 hrf.env hl hnr;have hc:=hac.2 w S (fun _=>none) (cargs.map a.eval) (by grind) (fun j v c hv hc=>.p (h2 j v c (by grind) hc)) ⟨fun b bx h=>(by grind),fun g m h=>(by cases h),fun b bx b' bx' h=>(by grind),fun g g' k h=>(by cases h)⟩ hrf.wr.Slt (fun _ _ h=>by cases h);unfold wpOp;simp only[ho,hwant,if_true];refine .inl ?_;unfold Oper.wp;have hrun:(execOp a.eval { dst:=dst,op:=.call { callee:=.value (.func f),args:=cargs,argTypes:=ats },type:=type,pos:=pos,after:=after,guard:=guard }).run P w=.ok (.enter f (cargs.map a.eval)) w:=by
   simp only[execOp,resolve,Act.eval,Deferred.ofValue,Sem.run_bind,Sem.run_pure,Result.andThen_ok,invoke];have:=hac.1 (cargs.map a.eval) w
   grind
  rw[hrun,Oper.upon_enter];refine hc.mono fun e w' ⟨v,r,hB,S',M',clk',he,⟨hr1,hr2,hr3⟩,hC,hw⟩=>?_;subst he hr1 hr2 hr3;obtain⟨M2,hre,hCx⟩:=hrf.mk2 (hw 0) hC (by omega) (by omega) hnone (fun t q hq=>(hfr q (r4 t q hq)).1) (fun id bx hb=>⟨(hfr _ (r5 id bx hb).1).1,fun q hq=>(hfr q ((r5 id bx hb).2 q hq)).1⟩) hgx hgb;have hin:∀q,q∈gnA r→m.has q:=fun q hq=>⟨hgx q hq,hC.gn q hq⟩;refine hfin _ _ ⟨_,M2,hre.put hd hCx⟩ (fun q hq=>.inr ⟨m,hmM,hseti,hin q hq⟩) fun p hp=>?_;have hlp:m.bs.lookup p.1=some p.2:=zdr m.bs (id:=p.1) (x:=p.2) hp fun y hy=>zgi _ q6 hy hp;have hbk:=(hw 0).heap.box _ _ hlp;obtain⟨b1,_,mm,hmm,_⟩:=hbk;refine⟨⟨?_,b1⟩,fun q hq=>.inr ⟨m,hmM,hseti,hgb p hp q hq,((hw 0).heap.box _ _ hlp).gn.2 q hq⟩⟩;rcases Yt p.2.gen m.g0 with hlt | hge
  ·have:=(hw 0).ext.hM _ _ hlt hmm
   grind
  omega
theorem zq5{n c0:Nat}{h0 X:Heap}{MK:List Mk}(p1:(∀m∈MK,0≤m.i∧m.i<n∧c0≤m.g0∧m.g0+m.n≤c0+mkN MK∧(∀p∈m.bs,X.lookup p.1=m.ob∧X.lookup p.1=m.ob∧h0.lookup p.1=none)∧(m.bs.map (·.1)).Nodup))(p2:(∀m∈MK,∀m'∈MK,(m.i=m'.i∨(∃b x y,(b,x)∈m.bs∧(b,y)∈m'.bs)∨(∃g,m.has g∧m'.has g))→m=m'))
  {listed:Array Bool} {ρ:Nat→AV} {a:Act} {w:World} (hfull:∀m∈MK,listed.getD m.i false=true) (hr:RM cx X c0 MK listed ρ a w):Ze1 cx (c0+mkN MK) (mkH MK++X) ρ a w:=by
 obtain⟨h',⟨S,M,hrf⟩,r1,r2,r3,r4,r5⟩:=hr;have hheap:∀id,(mkH MK++X).lookup id=h'.lookup id:=by
  intro id;rw[zb9];by_cases hex:∃m∈MK,∃x,(id,x)∈m.bs
  ·obtain⟨m,hmM,x,hx⟩:=hex;rw[r2 m hmM (hfull m hmM) (id,x) hx,zdr (mkH MK) (x:=x) (zl5.2 ⟨m,hmM,hx⟩) fun y hy=>?_]
   ·rfl
   grind[zl5]
  ·rw[zhy (mkH MK) fun y hy=>hex (by
    grind[zl5]),Option.none_or]
   cases hl:h'.lookup id with
   | none=>
    cases hl2:X.lookup id with
    | none=>rfl
    | some bx=>grind
   | some bx=>
    grind
 exact⟨S,M,hrf.heap_congr hheap⟩
theorem znh{st:St}{MK:List Mk}{sz:Nat}(hr:Rel cx st a w):RM cx st.heap st.clk MK (Array.replicate sz false) st.env.get a { w with drawn:=w.drawn+1 }:=by
 obtain⟨S,M,hrf⟩:=hr;refine⟨st.heap,Ze1.drawn ⟨S,M,hrf.more (Nat.le_add_right _ _)⟩,fun _ _ h _=>h,fun m _ hl=>?_,fun id bx hb=>.inl hb,fun t g hg=>.inl ((hrf.env t).gn g hg),fun id bx hb=>?_⟩
 ·rw[getD_replicate_false]at hl;grind
 ·obtain⟨h1,h2⟩:=(hrf.wr.heap.box id bx hb).gn;exact⟨.inl h1,fun g hg=>.inl (h2 g hg)⟩
theorem zjw{nt id n:Nat}{aos:List AO}{h0:Heap}{st:St}(hX0:Zc5 h0 st.heap){K:St→Prop}{Q:Exit→Act→World→Prop}(hnt:nt=cx.nt)(hm:P.follows .mixedOrders=true)
  (hw:∀ao∈aos.take n,ao.op.writes=true→ao.op.maker=true) (hT:Region.lexTailB .any ops n=true)
  (hres:Zan P nt ops ops.toList=some aos) (hk:Zgr P (aos.drop n) h0 st.clk st.heap (aos.take n) st.env st.heap st.clk K) (hr:Rel cx st a w) (hQ:∀st' a' w',K st'→Rel cx st' a' w'→Q .normal a' w'):(Code.region id ops true).wp P Q a w:=by
 simp only[Region.lexTailB,Yj,decide_eq_true_eq]at hT;obtain⟨⟨⟨⟨_,hn⟩,hs⟩,hc⟩,hlex⟩:=hT;have hget':∀i o,ops[i]? = some o→∃ao,aos[i]? = some ao∧Zcu P nt ops o=some ao:=fun i o ho=>zb3 ops.toList aos hres i o (by grind);have hlen:=zb4 ops.toList aos hres;have htl:(ops.toList.take n).length=n:=by grind
 have hdl:(ops.toList.drop n).length=ops.size-n:=by simp
 have inv0:HeadInv .any ops n (Array.replicate ops.size false):=
  ⟨by simp,fun j oj _ hl=>(by rw[getD_replicate_false]at hl;grind),fun t _ ht=>getD_in (by grind) (getD_replicate_false _ _)⟩
 obtain⟨MK,p1,p2,_,p3⟩:=znf (P:=P) (ops:=ops) (aos:=aos) (n:=n) (h0:=h0) (X:=st.heap) (c0:=st.clk) hX0 (Fin:=fun e h clk=>Zd5 P (aos.drop n) ⟨e,h,clk⟩ K) hw (fun i o ho=>by
  grind[zas]) (ops.toList.take n) 0 (aos.take n) st.env st.heap st.clk (fun j hj=>by
   grind) (fun j hj=>by
   grind) (by grind) (by omega) (fun _ h=>h) hk
 have hlx:=p3 MK (fun m hm=>hm) fun m hm _=>hm;have hc0:cx.clk0≤st.clk:=by
  obtain⟨S,M,hrf⟩:=hr;exact hrf.wr.ext.hclk
 have H:=ze8 (md:=.any) (g:=ops.size-n) (zng hget') hs hc hn (ops.toList.take n) 0 _ st.env.get (fun j hj=>by
  grind) (by omega) inv0 (fun i hi=>by omega) (by grind) hlx
 refine wp_region_any hm ?_;have:=zce (P:=P) (md:=.any) (Q':=Q) (g:=ops.size-n) (F:=FM P aos n h0 st.clk MK) (R:=RM cx st.heap st.clk MK) (fun i o listed hin ho hrd ρ x a w K' hF hr hK'=>zq4 hX0 hnt hget' hc0 p1 p2 ho hrd hF hr hK') (fun listed ρ a' w' hL hr'=>by
  obtain⟨hseq,hfull,e,rfl,hrun⟩:=hL;have hrf:=zq5 p1 p2 (fun m hm=>hfull _ (p1 m hm).2.1) hr';have hwl:wpList P ops Q (ops.toList.drop n) a' w':=zcv hnt _ _ ⟨e,mkH MK++st.heap,st.clk+mkN MK⟩ K a' w' (zca n _ _ hres) hrun hrf hQ
  grind[wpAny_of_seq]) _ _ _ a { w with drawn:=w.drawn+1 } (znh hr) H
 grind
theorem zni{F:Nat→(Nat→AV)→AV→Prop}{Q:(Nat→AV)→Prop}:∀(l:List Oper) (k:Nat) (ρ:Nat→AV),Zfe ops F Q l k ρ→∃ρ',Q ρ'∧Zfe ops F (fun r=>r=ρ') l k ρ
 | [],_,ρ,h=>⟨ρ,h,rfl⟩
 | o::l,k,ρ,⟨x,hx,h⟩=>by
  obtain⟨ρ',h1,h2⟩:=zni l (k+1) _ h;exact⟨ρ',h1,x,hx,h2⟩
theorem zjx{F F':Nat→(Nat→AV)→AV→Prop}{Q Q':(Nat→AV)→Prop}{o:Oper}(hF:∀i ρ x,F i ρ x→F' i ρ x):∀(l:List Oper) (k:Nat) (ρ:Nat→AV),(∀ρ,Q ρ→∃x,F' (k+l.length) ρ x∧Q' (upd ρ o.dst x))→Zfe ops F Q l k ρ→Zfe ops F' Q' (l++[o]) k ρ
 | [],k,ρ,hQ,h=>hQ ρ h
 | y::l,k,ρ,hQ,⟨x,hx,h⟩=>⟨x,hF _ _ _ hx,zjx hF l (k+1) _ (fun ρ hq=>by grind) h⟩
def FL(P:Program)(aos:List AO)(n:Nat)(h0 X:Heap)(c0:Nat)(MK:List Mk)(ao:AO)(H2:Heap)(i:Nat)(ρ:Nat→AV)(x:AV):Prop:=
 (i≠n∧FM P aos n h0 c0 MK i ρ x)∨(i=n∧x=.tup []∧stepW ao.op none ρ (mkH MK++X) (c0+mkN MK)=some (.tup [],H2,c0+mkN MK))
def RL(cx:Cx)(ops:Array Oper)(n:Nat)(X:Heap)(c0:Nat)(MK:List Mk)(H2:Heap)(listed:Array Bool)(ρ:Nat→AV)(a:Act)(w:World):Prop:=
 (listed.getD n false=false∧RM cx X c0 MK listed ρ a w) ∨
 (listed.getD n false=true∧(∀i,Region.waitsFor .any ops n i=true→listed.getD i false=true)∧Ze1 cx (c0+mkN MK) H2 ρ a w)
theorem zjy{nt id n:Nat}{aos:List AO}{h0:Heap}{st:St}(hX0:Zc5 h0 st.heap){K:St→Prop}{Q:Exit→Act→World→Prop}(hnt:nt=cx.nt)(hm:P.follows .mixedOrders=true)
  (hw:∀ao∈aos.take n,ao.op.writes=true→ao.op.maker=true) (hB:Zjp ops aos n=true)
  (hres:Zan P nt ops ops.toList=some aos) (hk:Zgr P (aos.drop (n+1)) h0 st.clk st.heap (aos.take (n+1)) st.env st.heap st.clk K) (hr:Rel cx st a w) (hQ:∀st' a' w',K st'→Rel cx st' a' w'→Q .normal a' w'):(Code.region id ops true).wp P Q a w:=by
 simp only[Zjp,Yj]at hB;obtain⟨⟨hT,hS⟩,hlate⟩:=hB;simp only[Region.lexTailB,Yj,decide_eq_true_eq]at hT;obtain⟨⟨⟨⟨_,hn⟩,hs⟩,hc⟩,hlex⟩:=hT;have hget':∀(i:Nat) (o:Oper),ops[i]? = some o→∃ao,aos[i]? = some ao∧Zcu P nt ops o=some ao:=fun i o ho=>zb3 ops.toList aos hres i o (by grind);have hlen:=zb4 ops.toList aos hres;have htl:(ops.toList.take n).length=n:=by grind
 have htl1:(ops.toList.take (n+1)).length=n+1:=by grind
 have hdl:(ops.toList.drop (n+1)).length=ops.size-(n+1):=by simp
 split at hS
 rotate_left
 ·grind
 rename_i ao hao;simp only[Yj,Ycr]at hS;obtain⟨⟨hg,hd⟩,hst⟩:=hS;have inv0:HeadInv .any ops (n+1) (Array.replicate ops.size false):=
  ⟨by simp,fun j oj _ hl=>(by rw[getD_replicate_false]at hl;grind),fun t _ ht=>getD_in (by grind) (getD_replicate_false _ _)⟩
 have htka:aos.take (n+1)=aos.take n++[ao]:=by
  rw[Ycx,hao]
  rfl
 unfold Zgr at hk;rw[htka,zej]at hk;obtain⟨MK,p1,p2,p4,p3⟩:=znf (P:=P) (ops:=ops) (aos:=aos) (n:=n) (h0:=h0) (X:=st.heap) (c0:=st.clk) hX0 (Fin:=fun e h clk=>Zbr P h0 st.clk st.heap (fun e h clk=>Zd5 P (aos.drop (n+1)) ⟨e,h,clk⟩ K) [ao] e h clk) hw (fun i o ho=>by
  grind[zas]) (ops.toList.take n) 0 (aos.take n) st.env st.heap st.clk (fun j hj=>by
   grind) (fun j hj=>by
   grind) (by grind) (by omega) (fun _ h=>h) hk
 have hlx:=p3 MK (fun m hm=>hm) fun m hm _=>hm;have hc0:cx.clk0≤st.clk:=by
  obtain⟨S,M,hrf⟩:=hr;exact hrf.wr.ext.hclk
 obtain⟨ρe,⟨e,rfl,hrun⟩,hlx1⟩:=zni _ _ _ hlx;have hn':n<ops.size:=by omega
 have hos:ops[n]? = some (ops[n]'hn'):=Yw hn';generalize ops[n]'hn'=os at hos;obtain⟨ao',f1,f2⟩:=hget' n os hos;rw[hao]at f1;cases f1;obtain⟨op,g,hop,hgs,hao',hdst⟩:=zas f2;subst hao';simp only at hg hd hst;have hnm:op.maker=false:=by
  cases op<;>first | rfl | cases hst
 simp only[Zbr,hnm,hst]at hrun;obtain⟨_,_,H2,hst2,hsub,hrun2⟩:=hrun;have htk:ops.toList.take (n+1)=ops.toList.take n++[os]:=by
  grind[List.take_add_one]
 have hlx2:Zfe ops (FL P aos n h0 st.heap st.clk MK ⟨os.dst,none,op⟩ H2) (fun ρ=>∃e,ρ=Env.get e∧Zd5 P (aos.drop (n+1)) ⟨e,H2,st.clk+mkN MK⟩ K) (ops.toList.take (n+1)) 0 st.env.get:=by
  rw[htk];refine zjx (fun i ρ x h=>.inl ⟨by have:=h.1;omega,h⟩) _ _ _ (fun ρ hρ=>?_) hlx1;subst hρ;refine⟨.tup [],.inr ⟨by omega,rfl,hst2⟩,?_⟩;rw[hd];exact⟨e,rfl,hrun2⟩
 have hloc:Zev ops (FL P aos n h0 st.heap st.clk MK ⟨os.dst,none,op⟩ H2):=by
  intro i o ho ρ ρ' hρ x hx;rcases hx with ⟨h1,h2⟩ | ⟨rfl,h2,h3⟩
  ·exact .inl ⟨h1,zng hget' i o ho ρ ρ' hρ x h2⟩
  ·refine .inr ⟨rfl,h2,?_⟩
   grind[zea,Oper.looksAt]
 have H:=ze8 (md:=.any) (g:=ops.size-(n+1)) hloc hs hc hn (ops.toList.take (n+1)) 0 _ st.env.get (fun j hj=>by
  grind) (by omega) inv0 (fun i hi=>by omega) (by grind) hlx2
 refine wp_region_any hm ?_;have hwait:∀listed:Array Bool,n∈Region.ready .any ops listed→∀i,Region.waitsFor .any ops n i=true→listed.getD i false=true:=by
  intro listed hrd i hi;obtain⟨_,o,ho,hall⟩:=mem_ready.1 hrd;obtain⟨oj,hj,ed,hed,hb,he⟩:=Region.waitsFor_spec hi
  grind
 have hnoisy:∀m∈MK,Region.waitsFor .any ops n m.i=true:=by
  grind
 have setne:∀(listed:Array Bool) (i j:Nat),j≠i→(listed.setIfInBounds i true).getD j false=listed.getD j false:=fun listed i j hj=>getD_set_ne false (Ne.symm hj);have setmono:∀(listed:Array Bool) (i j:Nat),listed.getD j false=true→(listed.setIfInBounds i true).getD j false=true:=by
  intro listed i j hj;by_cases he:j=i
  ·have:j<listed.size:=by
    grind
   simp_all
  grind
 have:=zce (P:=P) (md:=.any) (Q':=Q) (g:=ops.size-(n+1)) (F:=FL P aos n h0 st.heap st.clk MK ⟨os.dst,none,op⟩ H2) (R:=RL cx ops n st.heap st.clk MK H2) (fun i o listed hin ho hrd ρ x a w K' hF hr hK'=>by
  have hun:=(mem_ready.1 hrd).1;rcases hF with ⟨hne,hF⟩ | ⟨rfl,rfl,h3⟩
  ·rcases hr with ⟨hl,hr⟩ | ⟨hl,hcl,hr⟩
   ·exact zq4 hX0 hnt hget' hc0 p1 p2 ho hrd hF hr fun a' w' h=>hK' a' w' (.inl ⟨by grind,h⟩)
   ·obtain⟨hi,ao2,g1,g2⟩:=hF;rcases g2 with ⟨_,m,hmM,hmi,_⟩ | ⟨_,_,hqf,_⟩
    ·have:=hcl _ (hnoisy m hmM)
     grind
    ·obtain⟨ao3,k1,k2⟩:=hget' i o ho;rw[g1]at k1;cases k1;exact zdq ho hnt k2 (zxa hsub hqf) hr fun a' w' hr'=>hK' a' w' (.inr ⟨by grind,fun j hj=>setmono _ _ _ (hcl j hj),hr'⟩)
  ·rw[hos]at ho;cases ho;rcases hr with ⟨hl,hr⟩ | ⟨hl,_⟩
   rotate_left
   ·grind
   have hwt:=hwait listed hrd;obtain⟨S,M,hrf⟩:=zq5 p1 p2 (fun m hmM=>hwt _ (hnoisy m hmM)) hr;subst hnt;rw[←hd]at h3;obtain⟨v,w',S',M',e3,e4,e5⟩:=zc3 hop hrf h3;have hput:=e4.put hdst e5;have hisz:i<listed.size:=by
    grind
   have hfin:K' (a.put os.dst v) w':=hK' _ _ (.inr ⟨by simp[hisz],fun j hj=>setmono _ _ _ (hwt j hj),_,_,hput⟩)
   grind[wpOp,zcc,zc2,Oper.wp,Oper.upon_skip]) (fun listed ρ a' w' hL hr'=>by
  obtain⟨hseq,hfull,e,rfl,hrun⟩:=hL;have hrf:Ze1 cx (st.clk+mkN MK) H2 e.get a' w':=by
   rcases hr' with ⟨hl,_⟩ | ⟨_,_,h⟩
   all_goals grind
  have hwl:wpList P ops Q (ops.toList.drop (n+1)) a' w':=zcv hnt _ _ ⟨e,H2,st.clk+mkN MK⟩ K a' w' (zca (n+1) _ _ hres) hrun hrf hQ
  grind[wpAny_of_seq]) _ _ _ a { w with drawn:=w.drawn+1 } (.inl ⟨getD_replicate_false _ _,znh hr⟩) H
 rw[htl1,show n+1+(ops.size-(n+1))=ops.size by omega]at this;omega
theorem zl6{nt id n:Nat}{aos:List AO}{h0:Heap}{st:St}(hX0:Zc5 h0 st.heap){K:St→Prop}{Q:Exit→Act→World→Prop}(hnt:nt=cx.nt)(hm:P.follows .mixedOrders=true)(hB:Zjq ops aos=some n∨∃k,Zjr ops aos=some k∧n=k+1)
  (hres:Zan P nt ops ops.toList=some aos) (hk:Zgr P (aos.drop n) h0 st.clk st.heap (aos.take n) st.env st.heap st.clk K) (hr:Rel cx st a w) (hQ:∀st' a' w',K st'→Rel cx st' a' w'→Q .normal a' w'):(Code.region id ops true).wp P Q a w:=by
 rcases hB with hB | ⟨k,hB,rfl⟩
 ·have:=Ydp hB
  grind[zjw]
 ·have:=Ydp hB
  grind[zjy]
end
end
section
open Go.RowKit
def AWp(cx:Cx)(c:AC)(Q:Exit→St→Prop)(st:St):Prop:=
 ∀code,Zt cx.P cx.nt code=some c→cx.P.follows .mixedOrders=true→∀a w,Rel cx st a w→code.wp cx.P (fun ex a' w'=>∃st',Q ex st'∧Rel cx st' a' w') a w
section
variable{cx:Cx}{Q:Exit→St→Prop}{st:St}
theorem AWp.mono{c:AC}{Q':Exit→St→Prop}(h:AWp cx c Q st)(hq:∀ex st,Q ex st→Q' ex st):AWp cx c Q' st:=
 fun code hc hm a w hr=>wp_mono (h code hc hm a w hr) fun _ _ _ ⟨st',h1,h2⟩=>⟨st',hq _ _ h1,h2⟩
theorem zuz(h:Q .normal st):AWp cx .skip Q st:=by
 intro code hc hm a w hr;have hcode:=hc;cases code<;>simp only[Zt]at hc<;>try cases hc
 case skip=>exact wp_skip ⟨st,h,hr⟩
 case region id ops draw=>
  rcases zaj hcode with ⟨_,l,_,h1⟩ | ⟨_,l,_,⟨n,_,h1⟩ | ⟨_,h1⟩ | ⟨n,_,h1⟩ | h1⟩<;>cases h1
 all_goals simp[Yd]at hc
theorem zx2{l:List AO}(h:Zd5 cx.P l st (Q .normal)):AWp cx (.reg l) Q st:=by
 intro code hc hm a w hr;have hcode:=hc;cases code<;>simp only[Zt]at hc<;>try cases hc
 case region id ops draw=>
  grind[zaj,wp_region_list,zcv]
 all_goals simp[Yd]at hc
theorem zu0{l:List DO}(h:Zlk cx.P l st (Q .normal)):AWp cx (.draw l) Q st:=by
 intro code hc hm a w hr;have hcode:=hc;cases code<;>simp only[Zt]at hc<;>try cases hc
 case region id ops draw=>
  grind[zaj,zl1]
 all_goals simp[Yd]at hc
theorem zq6{hd tl:List AO}(h:Zfo cx.P tl hd st.env st.heap st.clk (Q .normal)):AWp cx (.drawT hd tl) Q st:=by
 intro code hc hm a w hr;have hcode:=hc;cases code<;>simp only[Zt]at hc<;>try cases hc
 case region id ops draw=>
  grind[zaj,zl3]
 all_goals simp[Yd]at hc
theorem zq7{hd tl:List AO}{h0:Heap}(hX0:Zc5 h0 st.heap)(h:Zgr cx.P tl h0 st.clk st.heap hd st.env st.heap st.clk (Q .normal)):AWp cx (.drawM hd tl) Q st:=by
 intro code hc hm a w hr;have hcode:=hc;cases code<;>simp only[Zt]at hc<;>try cases hc
 case region id ops draw=>
  grind[zaj,zl6]
 all_goals simp[Yd]at hc
def Zic(N:St→Prop)(Q:Exit→St→Prop):Exit→St→Prop
 | .normal,st=>N st
 | ex,st=>Q ex st
theorem zx3{x y:AC}(h:AWp cx x (Zic (AWp cx y Q) Q) st):AWp cx (.seq x y) Q st:=by
 intro code hc hm a w hr;have hcode:=hc;cases code<;>simp only[Zt]at hc<;>try cases hc
 case seq c1 c2=>
  obtain⟨x',hx,hc1⟩:=bind_some hc;obtain⟨y',hy,he⟩:=map_some hc1;cases he;refine wp_seq (wp_mono (h c1 hx hm a w hr) fun ex a' w' ⟨st',h1,h2⟩=>?_);cases ex with
  | normal=>exact h1 c2 hy hm a' w' h2
  | _=>exact⟨st',h1,h2⟩
 case region id ops draw=>
  rcases zaj hcode with ⟨_,l,_,h1⟩ | ⟨_,l,_,⟨n,_,h1⟩ | ⟨_,h1⟩ | ⟨n,_,h1⟩ | h1⟩<;>cases h1
 all_goals simp[Yd]at hc
theorem zu1{c:Opd}{x y:AC}{t:Bool}(hc0:ev st.env.get c=.b t)(ht:t=true→AWp cx x Q st)(hf:t=false→AWp cx y Q st):AWp cx (.cond c x y) Q st:=by
 intro code hc hm a w hr;have hcode:=hc;cases code<;>simp only[Zt]at hc<;>try cases hc
 case cond o c1 c2=>
  obtain⟨p,hp,hc1⟩:=bind_some hc;obtain⟨x',hx,hc2⟩:=bind_some hc1;obtain⟨y',hy,he⟩:=map_some hc2;cases he;obtain⟨S,M,hrf⟩:=hr;have hC:=ev_C hrf.env hp;rw[hc0]at hC;refine wp_cond_split hC.inv_b (fun h1=>ht h1 c1 hx hm a w ⟨S,M,hrf⟩) (fun h1=>hf h1 c2 hy hm a w ⟨S,M,hrf⟩)
 case region id ops draw=>
  rcases zaj hcode with ⟨_,l,_,h1⟩ | ⟨_,l,_,⟨n,_,h1⟩ | ⟨_,h1⟩ | ⟨n,_,h1⟩ | h1⟩<;>cases h1
 all_goals simp[Yd]at hc
def Zdw(id:Nat)(Q:Exit→St→Prop):Exit→St→Prop
 | .exit id',st=>if id'=id then Q .normal st else Q (.exit id') st
 | ex,st=>Q ex st
theorem zjz{id:Nat}{c:AC}(h:AWp cx c (Zdw id Q) st):AWp cx (.block id c) Q st:=by
 intro code hc hm a w hr;have hcode:=hc;cases code<;>simp only[Zt]at hc<;>try cases hc
 case block id' c1=>
  obtain⟨x',hx,he⟩:=map_some hc;cases he;refine wp_block (wp_mono (h c1 hx hm a w hr) fun ex a' w' ⟨st',h1,h2⟩=>?_);cases ex with
  | exit j=>
   grind[Zdw,Exit.inBlock]
  | _=>exact⟨st',h1,h2⟩
 case region id ops draw=>
  rcases zaj hcode with ⟨_,l,_,h1⟩ | ⟨_,l,_,⟨n,_,h1⟩ | ⟨_,h1⟩ | ⟨n,_,h1⟩ | h1⟩<;>cases h1
 all_goals simp[Yd]at hc
theorem zu2{id:Nat}(h:Q (.exit id) st):AWp cx (.exit id) Q st:=by
 intro code hc hm a w hr;have hcode:=hc;cases code<;>simp only[Zt]at hc<;>try cases hc
 case exit=>exact wp_exit ⟨st,h,hr⟩
 case region id ops draw=>
  rcases zaj hcode with ⟨_,l,_,h1⟩ | ⟨_,l,_,⟨n,_,h1⟩ | ⟨_,h1⟩ | ⟨n,_,h1⟩ | h1⟩<;>cases h1
 all_goals simp[Yd]at hc
theorem zx4(h:Q .ret st):AWp cx .ret Q st:=by
 intro code hc hm a w hr;have hcode:=hc;cases code<;>simp only[Zt]at hc<;>try cases hc
 case ret=>exact wp_ret ⟨st,h,hr⟩
 case region id ops draw=>
  rcases zaj hcode with ⟨_,l,_,h1⟩ | ⟨_,l,_,⟨n,_,h1⟩ | ⟨_,h1⟩ | ⟨n,_,h1⟩ | h1⟩<;>cases h1
 all_goals simp[Yd]at hc
theorem zq8{c:AC}(h:AWp cx c (fun ex s=>(∀l,ex≠.goto l)∧Q ex s) st):AWp cx (.scope c) Q st:=by
 intro code hc hm a w hr;have hcode:=hc;cases code<;>simp only[Zt]at hc<;>try cases hc
 case scope c1=>
  obtain⟨x',hx,he⟩:=Yd.1 hc;rw[zf9]at he;obtain⟨rfl,_⟩:=he;refine wp_scope_straight (wp_mono (h c1 hx hm a w hr) fun ex a' w' ⟨st',⟨h0,h1⟩,h2⟩=>?_);cases ex with
  | goto l=>grind
  | _=>exact⟨st',h1,h2⟩
 case region id ops draw=>
  rcases zaj hcode with ⟨_,l,_,h1⟩ | ⟨_,l,_,⟨n,_,h1⟩ | ⟨_,h1⟩ | ⟨n,_,h1⟩ | h1⟩<;>cases h1
 all_goals simp[Yd]at hc
theorem zq9{l:Nat}(h:Q .normal st):AWp cx (.label l) Q st:=by
 intro code hc hm a w hr;have hcode:=hc;cases code<;>simp only[Zt]at hc<;>try cases hc
 case label=>exact wp_label ⟨st,h,hr⟩
 case region id ops draw=>
  rcases zaj hcode with ⟨_,l,_,h1⟩ | ⟨_,l,_,⟨n,_,h1⟩ | ⟨_,h1⟩ | ⟨n,_,h1⟩ | h1⟩<;>cases h1
 all_goals simp[Yd]at hc
theorem zu3{l:Nat}(h:Q (.goto l) st):AWp cx (.goto l) Q st:=by
 intro code hc hm a w hr;have hcode:=hc;cases code<;>simp only[Zt]at hc<;>try cases hc
 case goto=>exact wp_goto ⟨st,h,hr⟩
 case region id ops draw=>
  rcases zaj hcode with ⟨_,l,_,h1⟩ | ⟨_,l,_,⟨n,_,h1⟩ | ⟨_,h1⟩ | ⟨n,_,h1⟩ | h1⟩<;>cases h1
 all_goals simp[Yd]at hc
def GQ(cx:Cx)(l:Nat)(r:AC)(Q:Exit→St→Prop):Nat→Exit→St→Prop
 | 0,_,_=>False
 | n+1,.goto j,s=>j=l∧AWp cx r (GQ cx l r Q n) s
 | _+1,ex,s=>Q ex s
theorem zx5{l:Nat}{c r:AC}(n:Nat)(h:AWp cx c (GQ cx l r Q n) st):AWp cx (.gsc l c r) Q st:=by
 intro code hc hm a w hr;have hcode:=hc;cases code<;>simp only[Zt]at hc<;>try cases hc
 case scope c1=>
  obtain⟨x',hx,he⟩:=Yd.1 hc;rw[zf9]at he;obtain⟨rfl,_,hrest⟩:=he;have hl:=ze6 c1 _ l hx;obtain⟨rest,hf,hres⟩:∃rest,findLabel c1 l=some rest∧Zt cx.P cx.nt rest=some r:=by
   grind
  intro b k cs;have key:∀n ex s a w,GQ cx l r Q n ex s→Rel cx s a w→∀m,Arrives cx.P m b (.inScope c1::k) cs ex a w →
    ∃e a' w',(∃st',Q e st'∧Rel cx st' a' w')∧Arrives cx.P m b k cs e a' w':=by
   intro n
   induction n with
   | zero=>intro ex s a w hG;exact hG.elim
   | succ n ih=>
    intro ex s a w hG hR m harr;cases ex with
    | goto j=>
     obtain⟨rfl,hA⟩:=hG;obtain⟨e2,a2,w2,⟨s2,hG2,hR2⟩,harr2⟩:=hA rest hres hm a w hR b (.inScope c1::k) cs;exact ih e2 s2 a2 w2 hG2 hR2 m (.of_steps (harr _ (by simp[gotoIn,hf])) harr2)
    | normal=>exact⟨.normal,a,w,⟨s,hG,hR⟩,Steps.trans harr (.one step_inScope)⟩
    | exit id=>exact⟨.exit id,a,w,⟨s,hG,hR⟩,fun k' hk=>harr k' (by simp[exitTo,hk])⟩
    | ret=>exact⟨_,a,w,⟨s,hG,hR⟩,harr⟩
    | panic ch=>exact⟨_,a,w,⟨s,hG,hR⟩,harr⟩
    | outgrown=>exact⟨_,a,w,⟨s,hG,hR⟩,harr⟩
  obtain⟨ex,a1,w1,⟨s1,hG1,hR1⟩,harr1⟩:=h c1 hx hm a w hr b (.inScope c1::k) cs;obtain⟨e,a',w',hq,harr⟩:=key n ex s1 a1 w1 hG1 hR1 _ harr1;exact⟨e,a',w',hq,.of_steps (.one step_scope) harr⟩
 case region id ops draw=>
  rcases zaj hcode with ⟨_,l,_,h1⟩ | ⟨_,l,_,⟨n,_,h1⟩ | ⟨_,h1⟩ | ⟨n,_,h1⟩ | h1⟩<;>cases h1
 all_goals simp[Yd]at hc
structure Sub (st st':St):Prop where
 env:∀t x,st'.env.lookup t=some x→st.env.get t=x
 heap:∀b bx,st'.heap.lookup b=some bx→∃bx0,st.heap.lookup b=some bx0∧(bx=bx0∨(bx0.kind≠.str∧bx={ bx0 with kind:=.sh }))
 clk:st.clk≤st'.clk
theorem Rel.sub{st':St}{a:Act}{w:World}(hs:Sub st st')(hr:Rel cx st a w):Rel cx st' a w:=by
 obtain⟨S,M,hr⟩:=hr
 classical
 generalize hMb:(fun g=>if Live st'.heap g then M g else none:Map)=Mb;have hMb1:∀g m,Mb g=some m→Live st'.heap g∧M g=some m:=by
  grind
 have hMb2:∀g,Live st'.heap g→Mb g=M g:=by grind
 have hx:Ext w S M st.clk w S Mb st'.clk:=⟨fun _ _ hs=>hs,fun _ _ _ _ hc=>hc,hs.clk,fun g m _ hm=>(hMb1 g m hm).2,fun _ _ arr _ _ _ hb=>⟨arr,hb,rfl⟩⟩;refine⟨S,Mb,hr.size,hr.defers,fun t=>?_,⟨fun b bx hb=>?_,fun g m hm=>(hMb1 g m hm).1,fun b bx b' bx' h1 h2 hg=>?_,fun g g' k h1 h2=>hr.wr.heap.inj _ _ _ (hMb1 _ _ h1).2 (hMb1 _ _ h2).2⟩,hr.wr.ext.trans hx,hr.wr.fr,hr.wr.Snew,hr.wr.Slt,fun g k hm=>hr.wr.Mnew g k (hMb1 _ _ hm).2⟩
 ·unfold Env.get;cases hl:st'.env.lookup t with
  | none=>exact .p (.dead _)
  | some x=>
   have:=hr.env t;rw[hs.env t x hl]at this;exact this.mono hx
 ·obtain⟨bx0,h0,h1⟩:=hs.heap b bx hb;have hl:Live st'.heap bx.gen:=⟨b,bx,hb,rfl⟩;have hbox:=hr.wr.heap.box b bx0 h0;rcases h1 with rfl | ⟨hk,rfl⟩
  ·exact hbox.mono hx (hMb2 _ hl) (fun _ _=>rfl) fun _ _ _ hs=>hs
  ·obtain⟨b1,b2,m,hm,b3⟩:=hbox.mono hx (hMb2 bx0.gen hl) (fun _ _=>rfl) fun _ _ _ hs=>hs;refine⟨b1,b2,m,hm,?_⟩;cases m with
   | none=>grind
   | some k=>
    grind
 ·obtain⟨bx0,h3,h4⟩:=hs.heap b bx h1;obtain⟨bx0',h5,h6⟩:=hs.heap b' bx' h2;have e1:bx.gen=bx0.gen:=by grind
  have e2:bx'.gen=bx0'.gen:=by grind
  exact hr.wr.heap.gens _ _ _ _ h3 h5 (by rw[←e1,←e2,hg])
theorem AWp.sub{c:AC}{st':St}(hs:Sub st st')(h:AWp cx c Q st'):AWp cx c Q st:=
 fun code hc hm a w hr=>h code hc hm a w (hr.sub hs)
end
end
section
open Go.RowKit
def resV(st:St):RV→Option AV
 | .t n=>some (st.env.get n)
 | .cell n k=>Zez k st.heap (st.env.get n)
def Zfq(tmps:Array Value):ResultVar→Sem Value
 | .tmp t=>pure (tmps.getD t undef)
 | .cell q t=>do loadVar t (←asAddr (tmps.getD q undef))
theorem zhz(fn:Func)(tmps:Array Value):results fn tmps=(fn.results.mapM (Zfq tmps) >>= fun vs=>pure (if h:vs.size=1 then vs[0] else .tuple vs)):=by
 unfold results
 rfl
def Zcw(st:St)(rs:List RV):Option AV:=
 match rs with
 | [r]=>resV st r
 | rs=>(rs.mapM (resV st)).map .tup
section
variable{P:Program}{cx:Cx}{w:World}{S:Nat→Nat→Prop}{M:Map}{st:St}{a:Act}
theorem zx6{rs:List ResultVar}{ps:List RV}{xs:List AV}(hres:Zdu P rs=some ps)(hr:RelF cx S M st.clk st.heap st.env.get a w)(hx:ps.mapM (resV st)=some xs) :
  ∃vs:List Value,(rs.mapM (Zfq a.tmps)).run P w=.ok vs w∧vs.length=xs.length∧∀(j:Nat) (v:Value) (c:AV),vs[j]? = some v→xs[j]? = some c→C w S M st.clk v c:=by
 induction rs generalizing ps xs with
 | nil=>
  simp only[Zdu,Option.some.injEq]at hres
  simp_all
 | cons r rs ih=>
  have step:∀(p:RV) (qs:List RV) (s:Sem Value),ps=p::qs→Zdu P rs=some qs→(∀x,resV st p=some x→∃v,s.run P w=.ok v w∧C w S M st.clk v x) →
    ∃(x:AV) (ys:List AV) (v:Value) (vs:List Value),xs=x::ys∧s.run P w=.ok v w∧C w S M st.clk v x∧(rs.mapM (Zfq a.tmps)).run P w=.ok vs w∧vs.length=ys.length∧∀(j:Nat) (v:Value) (c:AV),vs[j]? = some v→ys[j]? = some c→C w S M st.clk v c:=by
   intro p qs s hp hq hs;subst hp;simp only[Ycq,Yby,Ycu]at hx;obtain⟨x,hx1,hx2⟩:=bind_some hx;obtain⟨ys,hx3,hx4⟩:=bind_some hx2
   grind
  cases r with
  | tmp t=>
   simp only[Zdu]at hres;obtain⟨qs,hq,hp⟩:=map_some hres;obtain⟨x,ys,v,vs,rfl,h1,h2,h3,h4,h5⟩:=step _ qs (pure (a.tmps.getD t undef)) hp.symm hq (fun x hx=>by
    simp only[resV,Option.some.injEq]at hx;subst hx;exact⟨_,rfl,hr.env t⟩)
   refine⟨v::vs,?_,by grind,fun j v' c hv hc=>?_⟩
   ·grind[Zfq,Sem.run_bind,Result.andThen_ok,Sem.run_pure]
   grind
  | cell q t=>
   simp only[Zdu]at hres;obtain⟨k,hk,hres1⟩:=bind_some hres;obtain⟨qs,hq,hp⟩:=map_some hres1;obtain⟨x,ys,v,vs,rfl,h1,h2,h3,h4,h5⟩:=step _ qs (do loadVar t (←asAddr (a.tmps.getD q undef))) hp.symm hq (fun x hx=>by
    simp only[resV]at hx;obtain⟨v,h1,h2⟩:=zh1 (P:=P) hk hr.wr.heap (hr.env q) hx;refine⟨v,?_,h2⟩
    -- the address is one
    unfold Instr.loadAt at h1;cases hv:a.tmps.getD q undef<;>rw[hv]at h1<;>try (simp[Instr.sureAddr,stuck]at h1;done)
    rename_i ad;cases ad with
    | none=>simp[Instr.sureAddr,stuck]at h1
    | some ad=>simpa[Instr.sureAddr,asAddr]using h1)
   refine⟨v::vs,?_,by grind,fun j v' c hv hc=>?_⟩
   ·grind[Sem.run_bind,Zfq,Result.andThen_ok,Sem.run_pure]
   grind
theorem zl7{fn:Func}{ps:List RV}{x:AV}(hres:Zdu P fn.results.toList=some ps)(hr:RelF cx S M st.clk st.heap st.env.get a w)(hx:Zcw st ps=some x):∃v,(results fn a.tmps).run P w=.ok v w∧C w S M st.clk v x:=by
 have main:∀xs,ps.mapM (resV st)=some xs→∃vs:Array Value,(fn.results.mapM (Zfq a.tmps)).run P w=.ok vs w∧vs.size=xs.length∧∀(j:Nat) (v:Value) (c:AV),vs[j]? = some v→xs[j]? = some c→C w S M st.clk v c:=by
  intro xs hxs;obtain⟨vs,h1,h2,h3⟩:=zx6 hres hr hxs;refine⟨vs.toArray,?_,by omega,fun j v c hv hc=>h3 j v c (by grind) hc⟩
  grind[Array.mapM_eq_mapM_toList,Sem.run_map,Result.andThen_ok]
 unfold Zcw at hx;split at hx
 ·rename_i r;obtain⟨vs,h1,h2,h3⟩:=main [x] (by simp[hx]);have hsz:vs.size=1:=by omega
  have hv:vs[0]? = some (vs[0]'(by omega)):=Yw _;refine⟨vs[0]'(by omega),?_,h3 0 _ x hv rfl⟩
  grind[zhz,Sem.run_bind,Result.andThen_ok,Sem.run_pure]
 ·rename_i hne;obtain⟨xs,hxs,rfl⟩:=map_some hx;obtain⟨vs,h1,h2,h3⟩:=main xs hxs;refine⟨.tuple vs,?_,.tup vs xs h2 h3⟩;have hsz:vs.size≠1:=by
   intro hs;obtain⟨hl,_⟩:=zbf _ _ hxs;rw[h2]at hs
   match ps,hl with
   | [],hl=>grind
   | [p],hl=>grind
   | p::q::r,hl=>grind
  grind[zhz,Sem.run_bind,Result.andThen_ok,Sem.run_pure]
end
def Zll(rs:List RV)(post:AV→Heap→Nat→Prop):Exit→St→Prop:=
 fun ex st=>(ex=.normal∨ex=.ret)∧∃r,Zcw st rs=some r∧post r st.heap st.clk
def Zlm(rs:List RV)(post:AV→Prop):Exit→St→Prop:=
 fun ex st=>(ex=.normal∨ex=.ret)∧∃r y,Zcw st rs=some r∧frz st.heap r=some y∧post y
def Zcd(args:List AV):Env:=args.zipIdx.map fun p=>(p.2,p.1)
theorem zox(args:List AV)(t:Nat):(Zcd args).get t=(args[t]?).getD .dead:=by
 have key:∀(l:List AV) (k t:Nat),((l.zipIdx k).map fun p=>(p.2,p.1)).lookup t=if k≤t then l[t-k]? else none:=by
  intro l
  induction l with
  | nil=>grind
  | cons x l ih=>
   intro k t;simp only[Ydl,Yv,Yaj]
   grind
 unfold Env.get Zcd
 grind
section
variable{P:Program}{f:FuncId}{af:AF}{args:List AV}
theorem zax(hf:Zfd P f=some af):Enters P f:=by
 unfold Zfd at hf;split at hf
 ·rename_i fn hfn;split at hf
  ·rename_i c hb;obtain⟨rs,hrs,hf1⟩:=bind_some hf;obtain⟨c',hc',hf2⟩:=bind_some hf1;split at hf2
   ·rename_i hcond;intro cargs w;unfold callFunc
    simp_all
   grind
  grind
 grind
theorem zj0{hb:Heap}{clk:Nat}{post:AV→Heap→Nat→Prop}(hf:Zfd P f=some af)(hm:P.follows .mixedOrders=true)(hn:args.length=af.np)
  (h:∀cx:Cx,cx.P=P→cx.nt=af.nt→cx.clk0=clk→AWp cx af.body (Zll af.res post) ⟨Zcd args,hb,clk⟩):Zdp P f args hb clk post:=by
 refine⟨zax hf,fun w S M cargs hl hC hh hS hM=>?_⟩;unfold Zfd at hf;split at hf
 ·rename_i fn hfn;split at hf
  ·rename_i c hbody;obtain⟨rs,hrs,hf1⟩:=bind_some hf;obtain⟨c',hc',hf2⟩:=bind_some hf1;split at hf2<;>cases hf2;rename_i hcond;simp only at h hn;refine calls_of_wp hfn hbody ?_;have hwp:=h ⟨P,fn.ntmps,w,S,M,clk⟩ rfl rfl rfl c hc' hm { tmps:=cargs++Array.replicate (fn.ntmps-cargs.size) undef,defers:=[] } w ⟨S,M,?_⟩
   ·refine wp_mono hwp fun ex a' w' ⟨st',⟨hex,r,hres,hpost⟩,hrel⟩=>?_;obtain⟨S',M',hr⟩:=hrel;obtain⟨v,hv,hCv⟩:=zl7 hrs hr hres;have hfin:∃v r h' S' M' clk',Ending.returned v=.returned v∧post r h' clk'∧C w' S' M' clk' v r∧∀nt,WRel ⟨P,nt,w,S,M,clk⟩ S' M' clk' h' w':=⟨v,r,st'.heap,S',M',st'.clk,rfl,hpost,hCv,fun nt=>⟨hr.wr.heap,hr.wr.ext,hr.wr.fr,hr.wr.Snew,hr.wr.Slt,hr.wr.Mnew⟩⟩;have hw:∀nt,WRel ⟨P,nt,w,S,M,clk⟩ S' M' st'.clk st'.heap w':=fun nt=>⟨hr.wr.heap,hr.wr.ext,hr.wr.fr,hr.wr.Snew,hr.wr.Slt,hr.wr.Mnew⟩;rcases hex with rfl | rfl
    ·exact⟨hr.defers,v,hv,v,r,st'.heap,S',M',st'.clk,rfl,hpost,hCv,hw⟩
    ·exact⟨hr.defers,v,hv,v,r,st'.heap,S',M',st'.clk,rfl,hpost,hCv,hw⟩
   ·refine⟨by grind,rfl,fun t=>?_,⟨hh,Ext.refl _ _ _ _,⟨rfl,rfl,rfl,Yg _,fun _ _ _=>rfl⟩,fun k o hs=>.inl hs,hS,fun g k hm=>⟨hM g k hm,.inr ⟨g,hm⟩⟩⟩⟩;rw[zox];cases ha:args[t]? with
    | none=>exact .p (.dead _)
    | some x=>
     have htl:=zci ha;have hv:cargs[t]? = some (cargs[t]'(by omega)):=Yw _;have e1:(cargs++Array.replicate (fn.ntmps-cargs.size) undef).getD t undef=cargs[t]'(by omega):=by
      simp only[Array.getD_eq_getD_getElem?]
      grind
     grind
  grind
 grind
theorem zra{post:AV→Prop}(hf:Zfd P f=some af)(hm:P.follows .mixedOrders=true)(hn:args.length=af.np)
  (h:∀cx:Cx,cx.P=P→cx.nt=af.nt→cx.clk0=1→AWp cx af.body (Zlm af.res post) ⟨Zcd args,[],1⟩):Zad P f args post:=by
 have hA:Zdp P f args [] 1 (fun r h _=>∃y,frz h r=some y∧post y):=
  zj0 hf hm hn fun cx h1 h2 h0=>(h cx h1 h2 h0).mono fun ex st ⟨h3,r,y,h4,h5,h6⟩=>⟨h3,r,h4,y,h5,h6⟩
 refine⟨hA.1,fun w S cargs hl hC hS=>?_⟩;refine(hA.2 w S (fun _=>none) cargs hl (fun j v c hv hc=>.p (hC j v c hv hc)) ⟨fun b bx hb=>(by grind),fun g m hm=>(by grind),fun b bx b' bx' h1=>(by grind),fun g g' k h1=>(by grind)⟩ hS (fun g k hm=>(by grind))).mono ?_;intro e w' ⟨v,r,h',S',M',clk',he,⟨y,hy,hpost⟩,hCr,hw⟩;have hw:=hw 0;refine⟨v,y,he,hpost,⟨hw.fr.os,hw.fr.tape,hw.fr.output,hw.fr.size,fun k hk=>hw.fr.block k hk fun⟨g,hg⟩=>(by grind)⟩,?_⟩;refine(zw6 hw.heap hCr hy fun id hid=>hid).mono (fun k o hs=>?_) fun k o u _ hc=>hc;rcases hs with hs | ⟨id,bx,_,_,hm,_⟩
 ·rcases hw.Snew k o hs with h1 | h1 | ⟨g,h1⟩
  ·grind
  ·exact .inr ⟨h1,hw.Slt k o hs⟩
  grind
 ·obtain⟨h1,h2⟩:=hw.Mnew _ k hm;rcases h2 with h2 | ⟨g,h2⟩
  all_goals grind
end
end
section
open Go.RowKit
mutual
def wkA:AV→AV
 | .sl els _=>.sl (wkL els) .an
 | .agg cs=>.agg (wkR cs)
 | .tup cs=>.tup (wkR cs)
 | .i k n=>.i k n
 | .b x=>.b x
 | .s l=>.s l
 | .raw v=>.raw v
 | .ep cs o=>.ep cs o
 | .bs id g z off n=>.bs id g z off n
 | .ptr id g z i o=>.ptr id g z i o
 | .ifc t x=>.ifc t x
 | .fnp f id g z i o=>.fnp f id g z i o
 | .fnv f x=>.fnv f (wkA x)
 | .dead=>.dead
def wkR:List AV→List AV
 | []=>[]
 | c::r=>wkA c::wkR r
def wkL:List (List AV)→List (List AV)
 | []=>[]
 | r::l=>wkR r::wkL l
end
def wkIf(ex:Bool)(x:AV):AV:=if ex then x else wkA x
def rlC(σn:BId→BId)(σg:Nat→Nat):AV→AV
 | .bs id g z off n=>.bs (σn id) (σg g) z off n
 | .ptr id g z i o=>.ptr (σn id) (σg g) z i o
 | .fnp f id g z i o=>.fnp f (σn id) (σg g) z i o
 | .agg _ | .tup _ | .ifc .. => .dead
 | x=>x
def rl1(σn:BId→BId)(σg:Nat→Nat):AV→AV
 | .agg cs=>.agg (cs.map (rlC σn σg))
 | x=>rlC σn σg x
def rlA(σn:BId→BId)(σg:Nat→Nat):AV→AV
 | .tup cs=>.tup (cs.map (rl1 σn σg))
 | x=>rl1 σn σg x
def rfC:AV→List BId
 | .bs id _ _ _ _=>[id]
 | .ptr id _ _ _ _=>[id]
 | .fnp _ id _ _ _ _=>[id]
 | _=>[]
def rf1:AV→List BId
 | .agg cs=>cs.flatMap rfC
 | x=>rfC x
def rfA:AV→List BId
 | .tup cs=>cs.flatMap rf1
 | x=>rf1 x
def Zaf(ex:Bool)(σn:BId→BId)(σg:Nat→Nat)(bx:Box):Box:=
 ⟨σg bx.gen,bx.kind,bx.z,if bx.kind=.str then bx.els.map fun r=>r.map fun c=>rlC σn σg (wkIf ex c) else if ex then bx.els else wkL bx.els⟩
def kids(h:Heap)(b:BId):List BId:=
 match h.lookup b with
 | some bx=>if bx.kind=.str then bx.els.flatMap fun r=>r.flatMap rfC else []
 | none=>[]
def Zc0(h:Heap):Nat→List BId→List BId→List BId
 | 0,_,acc=>acc
 | _,[],acc=>acc
 | n+1,b::todo,acc=>if acc.contains b then Zc0 h n todo acc else Zc0 h n (kids h b++todo) (acc++[b])
def Zk3:Nat→List BId
 | 0=>[]
 | k+1=>Zk3 k++[.bor k]
def Zdr(h:Heap)(ids:List BId):Heap:=ids.filterMap fun b=>(h.lookup b).map fun bx=>(b,bx)
def Zce:Heap→Nat→Nat→Nat
 | [],_,j=>j
 | p::l,g,j=>if p.2.gen=g then j else Zce l g (j+1)
def Zci(k:Nat)(hp:Heap)(g:Nat):Nat:=if g≤k then g else Zce hp g (k+1)
def Zc1(ex:Bool)(k:Nat)(live:List Nat)(st:St):St:=
 let env:=live.map fun t=>(t,st.env.get t)
 let hp:=Zdr st.heap (Zc0 st.heap 40 (Zk3 k++env.flatMap fun p=>rfA p.2) [])
 ⟨env.map fun p=>(p.1,rlA id (Zci k hp) (wkIf ex p.2)),hp.map fun p=>(p.1,Zaf ex id (Zci k hp) p.2),k+hp.length+2⟩
inductive Gh where
 | nil (t z:Nat)                      -- an empty list,told as a row of the call's own
 | frz (t:Nat)                        -- a row of the call's own,told as a value
 | norm (ex:Bool) (live:List Nat)
 | fld (t:Nat) (i o z:Nat)          -- an empty list in a field of the box that slot t points to
 | shr (t:Nat)                        -- a row of the call's own,stored into no more,but told as a row
 | opn (t j z:Nat)                    -- an empty list in a cell (slot j tells which) of the row in slot t,told as a row of the call's own
 | shi (t j:Nat)                      -- the row in such a cell,stored into no more
 | trm (live:List Nat)                -- these slots alone
inductive AX where
 | skip
 | reg (ops:List AO)
 | draw (ops:List DO)
 | seq (a b:AX)
 | cond (c:Opd) (x y:AX)
 | block (id:Nat) (c:AX)
 | loop (c:AX)
 | exit (id:Nat)
 | ret
 | note (c:AX) (g:Gh)
 | pre (g:Gh) (c:AX)   -- ahead of c
 | scope (c:AX)
 | lp (id:Nat) (g:Gh) (c:AX) (g2:Gh)   -- a loop in its block: told by g ahead of it,by g2 behind
 | bad
 | drawT (hd tl:List AO)
 | drawM (hd tl:List AO)
 | prim (f:List AV→Option AV)   -- no code: a function known by its contract
 | label (l:Nat)
 | goto (l:Nat)
 | gsc (l:Nat) (c r:AX)   -- a scope,and what stands behind its label
def AX.isPrim:AX→Option (List AV→Option AV)
 | .prim f=>some f
 | _=>none
def AX.isBad:AX→Bool
 | .bad=>true
 | _=>false
def Zjx:Nat→String
 | 1=>"Of"
 | 2=>"Neg"
 | 3=>"Add"
 | 4=>"Sub"
 | 5=>"Mul"
 | 6=>"Quo"
 | 7=>"Pow"
 | 8=>"Fits"
 | _=>""
structure AFx where
 np:Nat
 nt:Nat
 res:List RV
 body:AX
 lent:Option (List Bool)
 exact:Bool
abbrev Tbl:=Nat→Option AFx
def Zhz(af:AFx):List (String×Nat):=af.res.filterMap fun r=>match r with | .cell j (some u)=>some (Zjx j,u) | _=>none
def Zu(T:Tbl)(k:Nat):Nat:=match T (1000000+k) with | some af=>af.np | none=>0
def Zb9(T:Tbl)(k:Nat):List (String×Nat):=match T (1000000+k) with | some af=>if af.body.isBad then Zhz af else [] | none=>[]
def Zg8(T:Tbl)(k:Nat):Option Nat:=match T (1000000+k) with | some af=>if af.body.isBad&&af.res.isEmpty then some af.nt else none | none=>none
inductive Ex where
 | n
 | x (id:Nat)
 | r
 | g (l:Nat)
def ghS(k:Nat)(g:Gh)(st:St):Option St:=
 match g with
 | .nil t z=>
  match st.env.get t with
  | .sl [] .nl=>some ⟨(t,.bs (.loc t) st.clk z 0 0)::st.env,(.loc t,⟨st.clk,.own,z,[]⟩)::st.heap,st.clk+1⟩
  | _=>none
 | .frz t=>(frz st.heap (st.env.get t)).map fun y=>⟨(t,y)::st.env,Zj (refs (st.env.get t)) st.heap,st.clk⟩
 | .norm ex live=>some (Zc1 ex k live st)
 | .shr t=>(frz st.heap (st.env.get t)).map fun _=>⟨st.env,Zj (refs (st.env.get t)) st.heap,st.clk⟩
 | .trm live=>some ⟨live.map fun t=>(t,st.env.get t),st.heap,st.clk⟩
 | .opn t j z=>
  match st.env.get t,st.env.get j with
  | .bs b g z0 off _,.i _ v=>
   match Z6 st.heap b g z0 with
   | some bx=>
    match bx.els[off+v.toNat]? with
    | some (.sl [] .nl::r)=>
     if bx.kind≠.sh∧(st.heap.lookup (.fld b (off+v.toNat))).isNone then
      some ⟨st.env,(b,{ bx with kind:=.str,els:=bx.els.set (off+v.toNat) (.bs (.fld b (off+v.toNat)) st.clk z 0 0::r) })::(.fld b (off+v.toNat),⟨st.clk,.own,z,[]⟩)::st.heap,st.clk+1⟩
     else none
    | _=>none
   | none=>none
  | _,_=>none
 | .shi t j=>
  match st.env.get t,st.env.get j with
  | .bs b g z0 off _,.i _ v=>
   match Z6 st.heap b g z0 with
   | some bx=>
    match bx.els[off+v.toNat]? with
    | some (y::_)=>(frz st.heap y).map fun _=>⟨st.env,Zj (refs y) st.heap,st.clk⟩
    | _=>none
   | none=>none
  | _,_=>none
 | .fld t i o z=>
  match st.env.get t with
  | .ptr b g z0 _ _=>
   match Z6 st.heap b g z0 with
   | some bx=>
    match bx.els[i]? with
    | some r=>
     match r[o]? with
     | some (.sl [] .nl)=>
      if bx.kind=.str∧(st.heap.lookup (.fld b o)).isNone then
       some ⟨st.env,(b,{ bx with els:=bx.els.set i (r.set o (.bs (.fld b o) st.clk z 0 0)) })::(.fld b o,⟨st.clk,.own,z,[]⟩)::st.heap,st.clk+1⟩
      else none
     | _=>none
    | none=>none
   | none=>none
  | _=>none
structure Orc where
 call:Nat→List AV→Heap→Option (AV×Heap)
 loop:Nat→AX→St→Option (Ex×St)
def Zcj:List Bool→List AV→List BId
 | m::ms,x::xs=>(if m then rfA x else [])++Zcj ms xs
 | _,_=>[]
def Zec:List BId→BId→Nat→Nat
 | [],_,j=>j
 | b::l,x,j=>if b=x then j else Zec l x (j+1)
def inN(l:List BId)(b:BId):BId:=.bor (Zec l b 0)
def inG(hp:Heap)(g:Nat):Nat:=Zce hp g 0
def Za2(l:List BId)(d:Nat)(b:BId):BId:=
 match b with
 | .bor i=>l.getD i (.fld (.loc d) i)
 | .loc n=>.fld (.loc d) n
 | .fld b o=>.fld (.fld (.loc d) 0) (match b with | .loc n=>1000+1000*n+o | _=>o)
def Zbd(hp:Heap)(clk:Nat)(g:Nat):Nat:=
 match hp[g]? with
 | some p=>p.2.gen
 | none=>clk+(g-hp.length)
def Zd(O:Orc)(T:Tbl)(u:Nat)(xs:List AV)(d:Option Nat)(st:St):Option St:=
 match T u with
 | none=>none
 | some af=>
  match af.lent with
  | none=>
   (xs.mapM (Za1 st.heap)).bind fun ys=>(O.call u (ys.map (wkIf af.exact)) []).bind fun r=>
    some ⟨Zm st.env d r.1,if scalar r.1 then st.heap else Zj (xs.flatMap refs) st.heap,st.clk⟩
  | some ms=>
   (Zeq st.heap ms xs).bind fun ys=>
    let h1:=Zj (Za4 ms xs) st.heap
    let l:=Zc0 h1 40 (Zcj ms xs) []
    let hp:=Zdr h1 l
    if hp.map (·.1)=l∧l.Nodup then
     (O.call u (ys.map fun y=>rlA (inN l) (inG hp) (wkIf af.exact y)) (hp.map fun p=>(inN l p.1,Zaf af.exact (inN l) (inG hp) p.2))).bind fun r=>
      let hb':=r.2.map fun p=>(Za2 l (d.getD 0) p.1,Zaf true (Za2 l (d.getD 0)) (Zbd hp st.clk) p.2)
      let r':=rlA (Za2 l (d.getD 0)) (Zbd hp st.clk) r.1
      if (hb'.map (·.1)).Nodup&&Zb5 hb' r'&&Zgo hb' then
       some ⟨Zm st.env d r',hb'++(h1.filter fun p=>!(l.contains p.1 || (hb'.map (·.1)).contains p.1)),st.clk+r.2.length+2⟩
      else none
    else none
def opX(O:Orc)(T:Tbl)(op:AOp)(d:Option Nat)(st:St):Option St:=
 match op with
 | .call u args=>Zd O T u (args.map (ev st.env.get)) d st
 | .ifc k x=>some ⟨Zm st.env d (.ifc (Zu T k) (ev st.env.get x)),st.heap,st.clk⟩
 | .inv nm k u r args=>
  match ev st.env.get r with
  | .ifc t y=>if t=Zu T k∧(nm,u)∈Zb9 T k then Zd O T u (y::args.map (ev st.env.get)) d st else none
  | .fnv f x=>if nm="()"∧f=Zu T k∧Zg8 T k=some u then Zd O T u (x::args.map (ev st.env.get)) d st else none
  | .fnp f id g z i o=>if nm="()"∧f=Zu T k∧Zg8 T k=some u then Zd O T u (args.map (ev st.env.get)++[.ptr id g z i o]) d st else none
  | _=>none
 | .xop (.mkv k) xs=>(stepW (.xop (.mkv (Zu T k)) xs) d st.env.get st.heap st.clk).map fun q=>⟨Zm st.env d q.1,q.2.1,q.2.2⟩
 | .xop (.mkf k) xs=>(stepW (.xop (.mkf (Zu T k)) xs) d st.env.get st.heap st.clk).map fun q=>⟨Zm st.env d q.1,q.2.1,q.2.2⟩
 | .alloc .. | .store .. | .mks .. | .app .. | .xop .. => (stepW op d st.env.get st.heap st.clk).map fun q=>⟨Zm st.env d q.1,q.2.1,q.2.2⟩
 | .bsl z zs len ps=>(Zdo z zs len st.heap (ps.map fun p=>(p.1,ev st.env.get p.2))).map fun q=>⟨Zm st.env d q.1,q.2,st.clk⟩
 | op=>(Zg op st.env.get st.heap).map fun x=>⟨Zm st.env d x,st.heap,st.clk⟩
def gX(O:Orc)(T:Tbl)(x:AV)(want:Bool)(op:AOp)(d:Option Nat)(st:St):Option St:=
 match x with
 | .b v=>if v=want then opX O T op d st else some ⟨Zm st.env d (.tup []),st.heap,st.clk⟩
 | .tup _=>some ⟨Zm st.env d (.tup []),st.heap,st.clk⟩
 | _=>none
def Zf7(O:Orc)(T:Tbl)(o:AO)(st:St):Option St:=
 match o.guard with
 | none=>opX O T o.op o.dst st
 | some (t,want)=>gX O T (st.env.get t) want o.op o.dst st
def Zd6(O:Orc)(T:Tbl):List AO→St→Option St
 | [],st=>some st
 | o::r,st=>(Zf7 O T o st).bind (Zd6 O T r)
open Classical in
noncomputable def Zd0(op:AOp)(e:Env)(older:List Heap)(x:AV):Bool:=op.free || decide (∀h'∈older,Zg op e.get h'=some x)
theorem zpb{op:AOp}{e:Env}{older:List Heap}{x:AV}(h:Zd0 op e older x=true):op.free=true∨∀h'∈older,Zg op e.get h'=some x:=by
 classical
 unfold Zd0 at h;rw[Ya2]at h;rcases h with h | h
 ·exact .inl h
 ·exact .inr (of_decide_eq_true h)
noncomputable def opD(O:Orc)(T:Tbl)(op:AOp)(e:Env)(h:Heap)(older:List Heap):Option AV:=
 match op with
 | .call u args=>
  match T u with
  | none=>none
  | some af=>if af.lent.isNone&&(args.map (ev e.get)).all noRef then (O.call u ((args.map (ev e.get)).map (wkIf af.exact)) []).map (·.1) else none
 | .ifc k x=>some (.ifc (Zu T k) (ev e.get x))
 | .inv nm k u r args=>
  match ev e.get r with
  | .ifc t y=>
   if t=Zu T k∧(nm,u)∈Zb9 T k then
    match T u with
    | none=>none
    | some af=>if af.lent.isNone&&(drp1 y::args.map (ev e.get)).all noRef then (O.call u ((drp1 y::args.map (ev e.get)).map (wkIf af.exact)) []).map (·.1) else none
   else none
  | _=>none
 | .bsl z zs len ps=>
  if (ps.map fun p=>(p.1,ev e.get p.2)).all (fun p=>noRef p.2) then (Zdo z zs len [] (ps.map fun p=>(p.1,ev e.get p.2))).map (·.1) else none
 | .app z (.c (.sl [] .nl)) y=>Zf4 z (ev e.get y)
 | op=>(Zg op e.get h).bind fun x=>if Zd0 op e older x then some x else none
theorem zmd{O:Orc}{T:Tbl}{z:Nat}{x0 y:Opd}{e:Env}{h:Heap}{older:List Heap}(hc:x0≠.c (.sl [] .nl)):opD O T (.app z x0 y) e h older=none:=by
 cases x0 with
 | t n=>simp[opD,Zg]
 | c a=>
  cases a
  case sl els f=>
   cases els with
   | nil=>cases f<;>first | exact absurd rfl hc | simp[opD,Zg]
   | cons r l=>simp[opD,Zg]
  all_goals simp[opD,Zg]
noncomputable def qX(O:Orc)(T:Tbl)(o:AO)(e:Env)(h:Heap)(older:List Heap):Option (AV×Bool):=
 match o.guard with
 | none=>(opD O T o.op e h older).map fun x=>(x,true)
 | some (t,want)=>
  match e.get t with
  | .b v=>if v=want then (opD O T o.op e h older).map fun x=>(x,true) else some (.tup [],false)
  | .tup []=>some (.tup [],false)
  | _=>none
def AOp.callN:AOp→Option (Nat×List Opd)
 | .call u args=>some (u,args)
 | _=>none
theorem zpc{op:AOp}{q:Nat×List Opd}(h:op.callN=some q):op=.call q.1 q.2:=by
 cases op<;>simp only[AOp.callN]at h<;>cases h
 rfl
open Classical in
noncomputable def Zjy(xs:List AV)(h:Heap)(older:List Heap):Option (List AV):=
 if xs.all noRef=true then none else (Zb2 h xs).bind fun ys=>if decide (∀h'∈older,Zb2 h' xs=some ys)=true then some ys else none
noncomputable def Zgt(g:Option (Nat×Bool))(c:Option (Nat×List Opd))(e:Env)(h:Heap)(older:List Heap):Option (Nat×List AV):=
 match g,c with
 | none,some q=>(Zjy (q.2.map (ev e.get)) h older).map fun ys=>(q.1,ys)
 | _,_=>none
theorem zkd{g:Option (Nat×Bool)}{op:AOp}{e:Env}{h:Heap}{older:List Heap}{p:Nat×List AV}(hq:Zgt g op.callN e h older=some p) :
  g=none∧∃args,op=.call p.1 args∧Zb2 h (args.map (ev e.get))=some p.2∧∀h'∈older,Zb2 h' (args.map (ev e.get))=some p.2:=by
 classical
 unfold Zgt at hq;split at hq
 ·rename_i q hc;obtain⟨ys,h1,rfl⟩:=map_some hq;refine⟨rfl,q.2,zpc hc,?_⟩;unfold Zjy at h1;split at h1
  ·cases h1
  ·obtain⟨zs,h2,h3⟩:=bind_some h1;split at h3
   ·rename_i hd;cases h3;exact⟨h2,of_decide_eq_true hd⟩
   ·cases h3
 ·cases hq
def Zed(O:Orc)(T:Tbl)(u:Nat)(ys:List AV):Option AV:=
 match T u with
 | none=>none
 | some af=>if af.lent.isNone=true then (O.call u (ys.map (wkIf af.exact)) []).map (·.1) else none
def Zgu(op:AOp)(ρ:Nat→AV)(h:Heap):Option AV:=
 match op with
 | .call _ args=>(Zb2 h (args.map (ev ρ))).map .tup
 | op=>Zg op ρ h
abbrev Zb6:=List (Nat×AOp×Env×AV)
open Classical in
noncomputable def Zck(pend:Zb6)(h:Heap):Bool:=decide (∀p∈pend,0<p.1→Zgu p.2.1 p.2.2.1.get h=some p.2.2.2)
def Zem(o:DO)(n:Nat)(e:Env)(r:AV×Bool)(pend:Zb6):Zb6:=
 if r.2&&!o.ao.op.free&&decide (n<o.hi) then (o.hi-n,o.ao.op,e,r.1)::pend else pend
noncomputable def Zb0(O:Orc)(T:Tbl):List DO→Env→Heap→Nat→List Heap→Zb6→Option St
 | [],e,h,clk,_,_=>some ⟨e,h,clk⟩
 | o::r,e,h,clk,older,pend=>
  match o.ao.op.writes with
  | true=>if o.ao.guard.isNone then (stepW o.ao.op o.ao.dst e.get h clk).bind fun q=>if Zck pend q.2.1 then Zb0 O T r (Zm e o.ao.dst q.1) q.2.1 q.2.2 (h::older) (pend.map fun p=>(p.1-1,p.2)) else none else none
  | false=>
   match Zgt o.ao.guard o.ao.op.callN e h (older.take (older.length-o.lo)) with
   | none=>(qX O T o.ao e h (older.take (older.length-o.lo))).bind fun x=>Zb0 O T r (Zm e o.ao.dst x.1) h clk older (Zem o older.length e x pend)
   | some p=>(Zed O T p.1 p.2).bind fun x=>Zb0 O T r (Zm e o.ao.dst x) h clk older (if older.length<o.hi then (o.hi-older.length,o.ao.op,e,.tup p.2)::pend else pend)
noncomputable def Zds(O:Orc)(T:Tbl)(tl:List AO):List AO→Env→Heap→Nat→Option St
 | [],e,h,clk=>Zd6 O T tl ⟨e,h,clk⟩
 | o::r,e,h,clk=>(qX O T o e h []).bind fun x=>Zds O T tl r (Zm e o.dst x.1) h clk
def Zhk(c0:Nat)(op:AOp)(e:Env)(l:List Nat):Bool:=l.all fun g=>decide (g<c0) || (Zfp op).any fun t=>(gnA (e.get t)).contains g
def Zh0(c0:Nat)(op:AOp)(e:Env)(hp:Heap):Bool:=hp.all fun p=>if p.2.kind=.str then p.2.els.all fun r=>r.all fun x=>Zhk c0 op e (gnA x) else true
def AOp.lentN:AOp→Option (Nat×List Opd)
 | .call u args=>if 2000≤u∧u<3000 then some (u,args) else none
 | _=>none
def geB(clk:Nat)(l:List Nat):Bool:=l.all fun g=>decide (clk≤g)
def geH(clk:Nat)(hp:Heap):Bool:=hp.all fun p=>if p.2.kind=.str then p.2.els.all fun r=>r.all fun x=>geB clk (gnA x) else true
def Zew(O:Orc)(T:Tbl)(u:Nat)(xs:List AV)(d clk:Nat):Option (AV×Heap×Nat):=
 match T u with
 | none=>none
 | some af=>
  match af.lent with
  | none=>none
  | some _=>
   if xs.all noRef=true then
    (O.call u (xs.map fun y=>rlA (inN []) (inG []) (wkIf af.exact y)) []).bind fun r=>
     let hb':=r.2.map fun p=>(Za2 [] d p.1,Zaf true (Za2 [] d) (Zbd [] clk) p.2)
     let r':=rlA (Za2 [] d) (Zbd [] clk) r.1
     if (hb'.map (·.1)).Nodup∧geB clk (gnA r')=true∧geH clk hb'=true then some (r',hb',clk+(r.2.length+2)) else none
   else none
def Zfs(h0:Heap)(op:AOp)(e:Env):Bool:=
 match op with
 | .store _ x _=>match ev e.get x with | .ptr id _ _ _ _=>(h0.lookup id).isNone | _=>false
 | _=>false
def Zlw:AV→List BId
 | .bs id .. => [id]
 | _=>[]
def Zee:List AO→Env→List BId
 | [],_=>[]
 | o::r,e=>
  match o.op with
  | .mov x=>Zee r (Zm e o.dst (ev e.get x))
  | .app _ x _=>Zlw (ev e.get x)++Zee r (Zm e o.dst .dead)
  | _=>Zee r (Zm e o.dst .dead)
def Zen(ids:List BId)(h:Heap):Heap:=match ids with | []=>h | _=>h.filter fun p=>!ids.contains p.1
def Zjz(c0:Nat)(z x:Option Box)(b:BId)(o:Option Box):Option (BId×Box):=
 match z,x,o with
 | none,some _,some o=>if o.gen<c0 then some (b,o) else none
 | _,_,_=>none
def Zje(c0:Nat)(h0 X h:Heap):AV→Option (BId×Box)
 | .bs b _ _ _ _=>Zjz c0 (h0.lookup b) (X.lookup b) b (h.lookup b)
 | _=>none
def Zh1(c0:Nat)(h0 X h:Heap)(op:AOp)(e:Env):Option (BId×Box):=
 match op with
 | .app _ x _=>Zje c0 h0 X h (ev e.get x)
 | _=>none
noncomputable def Zbc(O:Orc)(T:Tbl)(tl:List AO)(h0:Heap)(c0:Nat)(X:Heap):List AO→Env→Heap→Nat→Option St
 | [],e,h,clk=>Zd6 O T tl ⟨e,h,clk⟩
 | o::r,e,h,clk=>
  match o.op.maker with
  | true=>
   match o.guard,o.dst with
   | none,some d=>
    match Zh1 c0 h0 X h o.op e with
    | none=>(stepW o.op (some d) e.get [] clk).bind fun q=>if (h.lookup (.loc d)).isNone&&Zh0 c0 o.op e q.2.1 then Zbc O T tl h0 c0 X r (Zm e (some d) q.1) (q.2.1++h) q.2.2 else none
    | some p=>(stepW o.op (some d) e.get [p] clk).bind fun q=>if Zh0 c0 o.op e (q.2.1.take 1) then Zbc O T tl h0 c0 X r (Zm e (some d) q.1) (q.2.1.take 1++h) q.2.2 else none
   | _,_=>none
  | false=>
   match o.op.isStore with
   | true=>
    match o.guard,o.dst with
    | none,none=>(stepW o.op none e.get h clk).bind fun q=>if Zfs X o.op e=true then Zbc O T tl h0 c0 X r e q.2.1 q.2.2 else none
    | _,_=>none
   | false=>
    match o.op.lentN with
    | some ua=>
     match o.guard,o.dst with
     | none,some d=>(Zew O T ua.1 (ua.2.map (ev e.get)) d clk).bind fun q=>if q.2.1.all (fun p=>(h.lookup p.1).isNone)=true then Zbc O T tl h0 c0 X r (Zm e (some d) q.1) (q.2.1++h) q.2.2 else none
     | _,_=>none
    | none=>(qX O T o e h0 []).bind fun x=>if Zhk c0 o.op e (gnA x.1) then Zbc O T tl h0 c0 X r (Zm e o.dst x.1) h clk else none
def Zft(f:St→Option (Ex×St))(l:Nat):Nat→Option (Ex×St)→Option (Ex×St)
 | 0,_=>none
 | n+1,o=>o.bind fun x=>match x.1 with | .g j=>if j=l then Zft f l n (f x.2) else none | _=>some x
noncomputable def evX(O:Orc)(T:Tbl)(k:Nat):AX→St→Option (Ex×St)
 | .skip,st=>some (.n,st)
 | .reg l,st=>(Zd6 O T l st).map fun s=>(.n,s)
 | .draw l,st=>(Zb0 O T l st.env st.heap st.clk [] []).map fun s=>(.n,s)
 | .drawT hd tl,st=>(Zds O T tl hd st.env st.heap st.clk).map fun s=>(.n,s)
 | .drawM hd tl,st=>(Zbc O T tl (Zen (Zee hd st.env) st.heap) st.clk st.heap hd st.env st.heap st.clk).map fun s=>(.n,s)
 | .bad,_=>none
 | .prim _,_=>none
 | .seq a b,st=>(evX O T k a st).bind fun r=>match r.1 with | .n=>evX O T k b r.2 | _=>some r
 | .cond c x y,st=>match ev st.env.get c with | .b t=>if t then evX O T k x st else evX O T k y st | _=>none
 | .block id c,st=>(evX O T k c st).bind fun r=>match r.1 with | .x j=>if j=id then some (.n,r.2) else some r | _=>some r
 | .loop c,st=>O.loop k c st
 | .exit id,st=>some (.x id,st)
 | .ret,st=>some (.r,st)
 | .note c g,st=>(evX O T k c st).bind fun r=>match r.1 with | .n=>(ghS k g r.2).map fun s=>(.n,s) | _=>some r
 | .pre g c,st=>(ghS k g st).bind fun s=>evX O T k c s
 | .scope c,st=>(evX O T k c st).bind fun r=>match r.1 with | .g _=>none | _=>some r
 | .lp id g c g2,st=>(ghS k g st).bind fun s=>(O.loop k c s).bind fun r=>match r.1 with | .n=>(ghS k g2 r.2).map fun s=>(.n,s) | .x j=>if j=id then (ghS k g2 r.2).map fun s=>(.n,s) else some r | _=>some r
 | .label _,st=>some (.n,st)
 | .goto l,st=>some (.g l,st)
 | .gsc l c r,st=>Zft (fun s=>evX O T k r s) l 100 (evX O T k c st)
def Zj0(af:AFx)(k:Nat)(r:Ex×St):Option (AV×Heap):=
 match r.1 with
 | .x _=>none
 | .g _=>none
 | _=>
  (Zcw r.2 af.res).bind fun x=>
  match af.lent with
  | none=>(frz r.2.heap x).map fun y=>(wkIf af.exact y,[])
  | some _=>let s:=Zc1 af.exact k [0] ⟨[(0,x)],r.2.heap,r.2.clk⟩;some (s.env.get 0,s.heap)
noncomputable def Zc2(T:Tbl)(O:Orc):Orc where
 call u xs hb:=
  match T u with
  | none=>none
  | some af=>
   match af.body.isPrim with
   | some f=>if hb=[]∧af.lent=none then (f xs).map fun x=>(x,[]) else none
   | none=>if xs.length=af.np∧(af.lent=none→hb=[]) then (evX O T hb.length af.body ⟨Zcd xs,hb,hb.length+1⟩).bind (Zj0 af hb.length) else none
 loop k c st:=(evX O T k c st).bind fun r=>match r.1 with | .n=>O.loop k c r.2 | _=>some r
noncomputable def orcN(T:Tbl):Nat→Orc
 | 0=>⟨fun _ _ _=>none,fun _ _ _=>none⟩
 | n+1=>Zc2 T (orcN T n)
end
section
open Go.RowKit
theorem zgt(l:List AV)(j:Nat):(wkR l)[j]? = (l[j]?).map wkA:=by
 induction l generalizing j with
 | nil=>simp[wkR]
 | cons c l ih=>cases j<;>simp[wkR,ih]
theorem zgu(l:List AV):(wkR l).length=l.length:=by
 induction l with
 | nil=>rfl
 | cons c l ih=>simp[wkR,ih]
theorem ziv(l:List AV):wkR l=l.map wkA:=by
 induction l with
 | nil=>rfl
 | cons c l ih=>simp[wkR,ih]
theorem zbt(l:List (List AV)):wkL l=l.map wkR:=by
 induction l with
 | nil=>rfl
 | cons c l ih=>simp[wkL,ih]
theorem zrx(l:List (List AV))(j:Nat):(wkL l)[j]? = (l[j]?).map wkR:=by rw[zbt];simp
theorem ziw(l:List (List AV)):(wkL l).length=l.length:=by rw[zbt];simp
section
variable{w:World}{S:Nat→Nat→Prop}{M M':Map}{clk clk':Nat}
theorem CP.wk{v:Value}{x:AV}(h:CP w S v x):CP w S v (wkA x):=by
 induction h with
 | i k n=>exact .i k n
 | b x=>exact .b x
 | s l=>exact .s l
 | raw v=>exact .raw v
 | dead v=>exact .dead v
 | agg vs cs hl h1 _ ih=>
  refine .agg vs _ (by rw[zgu];omega) h1 fun j v c hv hc=>?_
  grind[zgt]
 | tup vs cs hl _ ih=>
  refine .tup vs _ (by rw[zgu];omega) fun j v c hv hc=>?_
  grind[zgt]
 | slnil f hf=>exact .slnil _ (.inr rfl)
 | slz a f hf=>exact .slz a _ (.inr rfl)
 | sl blk off z cap els f u hf hfull hcap hmax hz hSc _ ih=>
  rw[←ziw els];refine .sl blk off z cap _ _ u (by grind) (by grind) (by rw[ziw];omega) hmax (fun i r hr=>?_) (fun i j hi hj=>hSc i j (by rw[ziw]at hi;omega) hj) fun i r j c hr hc=>?_
  ·grind[zrx,zgu]
  grind[zrx,zgt]
 | ep blk off cs o u hSc _ ih=>exact .ep blk off cs o u hSc ‹_›
 | fnv f v x _ ih=>exact .fnv f v _ ih
theorem C.wk{v:Value}{x:AV}(h:C w S M clk v x):C w S M clk v (wkA x):=by
 induction h with
 | p h=>exact .p h.wk
 | bs id g z off n v hg h h1=>exact .bs id g z off n v hg h h1
 | ptr id g z i o v hg h h1=>exact .ptr id g z i o v hg h h1
 | agg vs cs hl h1 _ ih=>
  refine .agg vs _ (by rw[zgu];omega) h1 fun j v c hv hc=>?_
  grind[zgt]
 | tup vs cs hl _ ih=>
  refine .tup vs _ (by rw[zgu];omega) fun j v c hv hc=>?_
  grind[zgt]
 | ifc t v x h _=>exact .ifc t v x h
 | fnp f id g z i o v hg h h1=>exact .fnp f id g z i o v hg h h1
theorem CP.wkIf{v:Value}{x:AV}(ex:Bool)(h:CP w S v x):CP w S v (wkIf ex x):=by
 unfold Go.Ab.wkIf;split
 ·exact h
 ·exact h.wk
theorem C.wkIf{v:Value}{x:AV}(ex:Bool)(h:C w S M clk v x):C w S M clk v (wkIf ex x):=by
 unfold Go.Ab.wkIf;split
 ·exact h
 ·exact h.wk
structure Rlb (M M':Map) (clk clk':Nat) (σ:Nat→Nat):Prop where
 fwd:∀g,g<clk→(M' (σ g)=M g∨M' (σ g)=none)∧σ g<clk'
theorem C.rlC{v:Value}{x:AV}{σn:BId→BId}{σg:Nat→Nat}(hr:Rlb M M' clk clk' σg)(h:C w S M clk v x):C w S M' clk' v (rlC σn σg x):=by
 cases h with
 | p h=>
  cases h with
  | i k n=>exact .p (.i k n)
  | b x=>exact .p (.b x)
  | s l=>exact .p (.s l)
  | raw v=>exact .p (.raw v)
  | dead v=>exact .p (.dead v)
  | agg=>exact .p (.dead _)
  | tup=>exact .p (.dead _)
  | slnil f hf=>exact .p (.slnil f hf)
  | slz a f hf=>exact .p (.slz a f hf)
  | sl blk off z cap els f u h1 h2 h3 h4 h5 h6 h7=>exact .p (.sl blk off z cap els f u h1 h2 h3 h4 h5 h6 h7)
  | ep blk off cs o u h1 h2=>exact .p (.ep blk off cs o u h1 h2)
  | fnv f v x h=>exact .p (.fnv f v x h)
 | bs id g z off n v hg h h1=>
  obtain⟨h2,h3⟩:=hr.fwd g hg;refine .bs _ _ _ _ _ _ h3 ?_ h1;rcases h2 with h2 | h2<;>rw[h2]
  ·exact h
  ·trivial
 | ptr id g z i o v hg h h1=>
  obtain⟨h2,h3⟩:=hr.fwd g hg;refine .ptr _ _ _ _ _ _ h3 ?_ h1;rcases h2 with h2 | h2<;>rw[h2]
  ·exact h
  ·trivial
 | fnp f id g z i o v hg h h1=>
  obtain⟨h2,h3⟩:=hr.fwd g hg;refine .fnp _ _ _ _ _ _ _ h3 ?_ h1;rcases h2 with h2 | h2<;>rw[h2]
  ·exact h
  ·trivial
 | agg vs cs=>exact .p (.dead _)
 | tup vs cs=>exact .p (.dead _)
 | ifc t v x=>exact .p (.dead _)
theorem getElem?_mapped{α β:Type}{l:List α}{f:α→β}{j:Nat}{y:β}(h:(l.map f)[j]? = some y):∃x,l[j]? = some x∧y=f x:=by
 grind
theorem C.rl1{v:Value}{x:AV}{σn:BId→BId}{σg:Nat→Nat}(hr:Rlb M M' clk clk' σg)(h:C w S M clk v x):C w S M' clk' v (rl1 σn σg x):=by
 cases x
 case agg cs=>
  obtain⟨vs,rfl,hl,h1,hc⟩:=h.inv_agg;refine .agg vs _ (by grind) h1 fun j v c hv hcj=>?_
  grind[rlC]
 all_goals exact h.rlC (σn:=σn) hr
theorem C.rlA{v:Value}{x:AV}{σn:BId→BId}{σg:Nat→Nat}(hr:Rlb M M' clk clk' σg)(h:C w S M clk v x):C w S M' clk' v (rlA σn σg x):=by
 cases x
 case tup cs=>
  obtain⟨vs,rfl,hl,hc⟩:=h.inv_tup;refine .tup vs _ (by grind) fun j v c hv hcj=>?_
  grind[rl1]
 all_goals exact h.rl1 (σn:=σn) hr
theorem Zbt.rl{bx:Box}{ex:Bool}{σn:BId→BId}{σg:Nat→Nat}(hr:Rlb M M' clk clk' σg)(hM:M' (σg bx.gen)=M bx.gen)(h:Zbt w S M clk bx):Zbt w S M' clk' (Zaf ex σn σg bx):=by
 obtain⟨h1,h2,m,hm,h3⟩:=h
 -- each row of the new box
 have row:∀(i:Nat) (r:List AV),(Zaf ex σn σg bx).els[i]? = some r→∃r0,bx.els[i]? = some r0∧r.length=r0.length∧∀(j:Nat) c,r[j]? = some c→∃c0,r0[j]? = some c0 ∧
   ((bx.kind=.str∧c=Go.Ab.rlC σn σg (wkIf ex c0))∨(bx.kind≠.str∧c=wkIf ex c0)):=by
  grind[Zaf,getElem?_mapped,wkIf,zbt,ziv]
 have hlen:(Zaf ex σn σg bx).els.length=bx.els.length:=by
  grind[Zaf,ziw]
 refine⟨(hr.fwd _ h1).2,fun r hrm=>?_,m,by rw[←hm];exact hM,?_⟩
 ·obtain⟨i,hi⟩:=Y8 hrm;obtain⟨r0,h4,h5,_⟩:=row i r hi;rw[h5];exact h2 r0 (Yf h4)
 ·cases m with
  | none=>
   grind[Zaf]
  | some k=>
   obtain⟨arr,e,h4,h5,h6,h7,h8⟩:=h3;refine⟨arr,e,h4,by rw[hlen];exact h5,fun i r j c hi hj=>?_,h7,by rw[hlen];exact h8⟩;obtain⟨r0,h9,h10,h11⟩:=row i r hi;obtain⟨c0,h12,h13⟩:=h11 j c hj;obtain⟨u,hu,ho,hC,hP⟩:=h6 i r0 j c0 h9 h12;refine⟨u,hu,ho,?_,fun hk=>?_⟩
   ·rcases h13 with ⟨hk,rfl⟩ | ⟨hk,rfl⟩
    ·exact(hC.wkIf ex).rlC hr
    ·exact .p ((hP hk).wkIf ex)
   ·rcases h13 with ⟨hk',rfl⟩ | ⟨hk',rfl⟩
    ·exact absurd hk' hk
    ·exact(hP hk).wkIf ex
theorem HeapRel.rl{h h2:Heap}{ex:Bool}{σn:BId→BId}{σg:Nat→Nat}{D:Nat→Prop}(hr:Rlb M M' clk clk' σg)(hh:HeapRel w S M clk h)
  (h1:∀b' bx',h2.lookup b'=some bx'→∃b bx,h.lookup b=some bx∧bx'=Zaf ex σn σg bx∧M' (σg bx.gen)=M bx.gen∧b'=σn b∧D bx.gen)
  (h3:∀g' m,M' g'=some m→∃b' bx',h2.lookup b'=some bx'∧bx'.gen=g')
  (h4:∀g1 g2,D g1→D g2→σg g1=σg g2→g1=g2)
  (h5:∀g' m,M' g'=some m→∃g,M g=some m∧σg g=g'):HeapRel w S M' clk' h2:=by
 refine⟨fun b' bx' hb=>?_,h3,fun b1 x1 b2 x2 hb1 hb2 hg=>?_,fun g g' k hg hg'=>?_⟩
 ·obtain⟨b,bx,h6,rfl,h7,_⟩:=h1 b' bx' hb;exact(hh.box b bx h6).rl hr h7
 ·obtain⟨c1,y1,h6,rfl,_,rfl,d1⟩:=h1 b1 x1 hb1;obtain⟨c2,y2,h8,rfl,_,rfl,d2⟩:=h1 b2 x2 hb2;rw[hh.gens _ _ _ _ h6 h8 (h4 _ _ d1 d2 hg)]
 ·obtain⟨g1,h6,rfl⟩:=h5 _ _ hg;obtain⟨g2,h7,rfl⟩:=h5 _ _ hg';rw[hh.inj _ _ _ h6 h7]
theorem WRel.rl{cx:Cx}{h h2:Heap}{ex:Bool}{σn:BId→BId}{σg:Nat→Nat}{D:Nat→Prop}(hr:Rlb M M' clk clk' σg)(hw:WRel cx S M clk h w)(hc:cx.clk0≤clk')
  (h0:∀g m,g<cx.clk0→M' g=some m→M g=some m)
  (h1:∀b' bx',h2.lookup b'=some bx'→∃b bx,h.lookup b=some bx∧bx'=Zaf ex σn σg bx∧M' (σg bx.gen)=M bx.gen∧b'=σn b∧D bx.gen)
  (h3:∀g' m,M' g'=some m→∃b' bx',h2.lookup b'=some bx'∧bx'.gen=g')
  (h4:∀g1 g2,D g1→D g2→σg g1=σg g2→g1=g2)
  (h5:∀g' m,M' g'=some m→∃g,M g=some m∧σg g=g'):WRel cx S M' clk' h2 w:=
 ⟨hw.heap.rl hr h1 h3 h4 h5,⟨hw.ext.hS,hw.ext.hcell,hc,fun g m hg hm=>hw.ext.hM g m hg (h0 g m hg hm),fun g k arr e hg hm hb=>hw.ext.hblk g k arr e hg (h0 g _ hg hm) hb⟩,hw.fr,hw.Snew,hw.Slt,
  fun g k hm=>let ⟨g1,h6,_⟩:=h5 g _ hm;hw.Mnew g1 k h6⟩
end
end
section
open Go.RowKit
section
variable{α β:Type}{P:Program}{K:St→Prop}
@[simp] theorem z5v(t d:Nat)(x:AV)(e:Env):Env.get ((d,x)::e) t=if t=d then x else e.get t:=by
 simp only[Env.get,Yaj];by_cases h:t=d
 ·subst h;simp
 ·have:(t == d)=false:=by simpa using h
  simp[this,h]
@[simp] theorem z8y(t:Nat):Env.get [] t=.dead:=rfl
@[simp] theorem z5w{st:St}:Zd5 P [] st K↔K st:=Iff.rfl
@[simp] theorem z2f{o:AO}{l:List AO}{st:St}:Zd5 P (o::l) st K↔Zgp P o st fun st'=>Zd5 P l st' K:=Iff.rfl
@[simp] theorem z0r{d:Option Nat}{op:AOp}{st:St}:Zgp P ⟨d,none,op⟩ st K↔opK P op d st K:=Iff.rfl
@[simp] theorem z2g(e:Env)(x:AV):Zm e none x=e:=rfl
@[simp] theorem z2h(e:Env)(d:Nat)(x:AV):Zm e (some d) x=(d,x)::e:=rfl
@[simp] theorem ev_t(e:Nat→AV)(n:Nat):ev e (.t n)=e n:=rfl
@[simp] theorem ev_c(e:Nat→AV)(x:AV):ev e (.c x)=x:=rfl
@[simp] theorem zxb{N:St→Prop}{Q:Exit→St→Prop}{st:St}:Zic N Q .normal st↔N st:=Iff.rfl
@[simp] theorem z0s{N:St→Prop}{Q:Exit→St→Prop}{st:St}{id:Nat}:Zic N Q (.exit id) st↔Q (.exit id) st:=Iff.rfl
@[simp] theorem z2i{N:St→Prop}{Q:Exit→St→Prop}{st:St}:Zic N Q .ret st↔Q .ret st:=Iff.rfl
@[simp] theorem zu4{id:Nat}{Q:Exit→St→Prop}{st:St}:Zdw id Q .normal st↔Q .normal st:=Iff.rfl
@[simp] theorem z0t{id:Nat}{Q:Exit→St→Prop}{st:St}:Zdw id Q .ret st↔Q .ret st:=Iff.rfl
@[simp] theorem zx7{id id':Nat}{Q:Exit→St→Prop}{st:St}:Zdw id Q (.exit id') st↔if id'=id then Q .normal st else Q (.exit id') st:=Iff.rfl
def gK(P:Program)(x:AV)(want:Bool)(op:AOp)(d:Option Nat)(st:St)(K:St→Prop):Prop:=
 match x with
 | .b v=>if v=want then opK P op d st K else K ⟨Zm st.env d (.tup []),st.heap,st.clk⟩
 | .tup _=>K ⟨Zm st.env d (.tup []),st.heap,st.clk⟩
 | _=>False
@[simp] theorem z0u{d:Option Nat}{op:AOp}{t:Nat}{want:Bool}{st:St}:Zgp P ⟨d,some (t,want),op⟩ st K↔gK P (st.env.get t) want op d st K:=by
 rfl
@[simp] theorem gK_b{v want:Bool}{op:AOp}{d:Option Nat}{st:St}:gK P (.b v) want op d st K↔if v=want then opK P op d st K else K ⟨Zm st.env d (.tup []),st.heap,st.clk⟩:=Iff.rfl
@[simp] theorem zadw{vs:List AV}{want:Bool}{op:AOp}{d:Option Nat}{st:St}:gK P (.tup vs) want op d st K↔K ⟨Zm st.env d (.tup []),st.heap,st.clk⟩:=Iff.rfl
@[simp] theorem z8z{z n:Nat}{zs:List AV}{ps:List (Nat×Opd)}{d:Option Nat}{st:St}:opK P (.bsl z zs n ps) d st K↔okK (Zdo z zs n st.heap (ps.map fun p=>(p.1,ev st.env.get p.2))) fun q=>K ⟨Zm st.env d q.1,q.2,st.clk⟩:=Iff.rfl
@[simp] theorem z80{x}{d:Option Nat}{st:St}:opK P (.mov x) d st K↔okK (Zg (.mov x) st.env.get st.heap) fun x=>K ⟨Zm st.env d x,st.heap,st.clk⟩:=Iff.rfl
@[simp] theorem z5x{c a b}{d:Option Nat}{st:St}:opK P (.pick c a b) d st K↔okK (Zg (.pick c a b) st.env.get st.heap) fun x=>K ⟨Zm st.env d x,st.heap,st.clk⟩:=Iff.rfl
@[simp] theorem z2j{zs ps}{d:Option Nat}{st:St}:opK P (.build zs ps) d st K↔okK (Zg (.build zs ps) st.env.get st.heap) fun x=>K ⟨Zm st.env d x,st.heap,st.clk⟩:=Iff.rfl
@[simp] theorem z5y{n x}{d:Option Nat}{st:St}:opK P (.load n x) d st K↔okK (Zg (.load n x) st.env.get st.heap) fun x=>K ⟨Zm st.env d x,st.heap,st.clk⟩:=Iff.rfl
@[simp] theorem z81{o x y}{d:Option Nat}{st:St}:opK P (.bin o x y) d st K↔okK (Zg (.bin o x y) st.env.get st.heap) fun x=>K ⟨Zm st.env d x,st.heap,st.clk⟩:=Iff.rfl
@[simp] theorem z82{g ls x y}{d:Option Nat}{st:St}:opK P (.eqs g ls x y) d st K↔okK (Zg (.eqs g ls x y) st.env.get st.heap) fun x=>K ⟨Zm st.env d x,st.heap,st.clk⟩:=Iff.rfl
@[simp] theorem z2k{g x}{d:Option Nat}{st:St}:opK P (.eqnil g x) d st K↔okK (Zg (.eqnil g x) st.env.get st.heap) fun x=>K ⟨Zm st.env d x,st.heap,st.clk⟩:=Iff.rfl
@[simp] theorem z83{g x y}{d:Option Nat}{st:St}:opK P (.eqb g x y) d st K↔okK (Zg (.eqb g x y) st.env.get st.heap) fun x=>K ⟨Zm st.env d x,st.heap,st.clk⟩:=Iff.rfl
@[simp] theorem zadx{o x}{d:Option Nat}{st:St}:opK P (.un o x) d st K↔okK (Zg (.un o x) st.env.get st.heap) fun x=>K ⟨Zm st.env d x,st.heap,st.clk⟩:=Iff.rfl
@[simp] theorem z5z{k x}{d:Option Nat}{st:St}:opK P (.conv k x) d st K↔okK (Zg (.conv k x) st.env.get st.heap) fun x=>K ⟨Zm st.env d x,st.heap,st.clk⟩:=Iff.rfl
@[simp] theorem z84{z x lo hi mx}{d:Option Nat}{st:St}:opK P (.slc z x lo hi mx) d st K↔okK (Zg (.slc z x lo hi mx) st.env.get st.heap) fun x=>K ⟨Zm st.env d x,st.heap,st.clk⟩:=Iff.rfl
@[simp] theorem z2l{x lo hi}{d:Option Nat}{st:St}:opK P (.slstr x lo hi) d st K↔okK (Zg (.slstr x lo hi) st.env.get st.heap) fun x=>K ⟨Zm st.env d x,st.heap,st.clk⟩:=Iff.rfl
@[simp] theorem z85{n x}{d:Option Nat}{st:St}:opK P (.fad n x) d st K↔okK (Zg (.fad n x) st.env.get st.heap) fun x=>K ⟨Zm st.env d x,st.heap,st.clk⟩:=Iff.rfl
@[simp] theorem z86{o n x}{d:Option Nat}{st:St}:opK P (.fld o n x) d st K↔okK (Zg (.fld o n x) st.env.get st.heap) fun x=>K ⟨Zm st.env d x,st.heap,st.clk⟩:=Iff.rfl
@[simp] theorem z87{z x i}{d:Option Nat}{st:St}:opK P (.iad z x i) d st K↔okK (Zg (.iad z x i) st.env.get st.heap) fun x=>K ⟨Zm st.env d x,st.heap,st.clk⟩:=Iff.rfl
@[simp] theorem z88{z n x i}{d:Option Nat}{st:St}:opK P (.iaa z n x i) d st K↔okK (Zg (.iaa z n x i) st.env.get st.heap) fun x=>K ⟨Zm st.env d x,st.heap,st.clk⟩:=Iff.rfl
@[simp] theorem z89{x i}{d:Option Nat}{st:St}:opK P (.ixs x i) d st K↔okK (Zg (.ixs x i) st.env.get st.heap) fun x=>K ⟨Zm st.env d x,st.heap,st.clk⟩:=Iff.rfl
@[simp] theorem z9a{z l n x i}{d:Option Nat}{st:St}:opK P (.ixa z l n x i) d st K↔okK (Zg (.ixa z l n x i) st.env.get st.heap) fun x=>K ⟨Zm st.env d x,st.heap,st.clk⟩:=Iff.rfl
@[simp] theorem z9b{x}{d:Option Nat}{st:St}:opK P (.len x) d st K↔okK (Zg (.len x) st.env.get st.heap) fun x=>K ⟨Zm st.env d x,st.heap,st.clk⟩:=Iff.rfl
@[simp] theorem z50{x}{d:Option Nat}{st:St}:opK P (.lens x) d st K↔okK (Zg (.lens x) st.env.get st.heap) fun x=>K ⟨Zm st.env d x,st.heap,st.clk⟩:=Iff.rfl
@[simp] theorem z52{n}{d:Option Nat}{st:St}:opK P (.lenc n) d st K↔okK (Zg (.lenc n) st.env.get st.heap) fun x=>K ⟨Zm st.env d x,st.heap,st.clk⟩:=Iff.rfl
@[simp] theorem zady{m xs}{d:Option Nat}{st:St}:opK P (.mm m xs) d st K↔okK (Zg (.mm m xs) st.env.get st.heap) fun x=>K ⟨Zm st.env d x,st.heap,st.clk⟩:=Iff.rfl
@[simp] theorem z9c{x n}{d:Option Nat}{st:St}:opK P (.ext x n) d st K↔okK (Zg (.ext x n) st.env.get st.heap) fun x=>K ⟨Zm st.env d x,st.heap,st.clk⟩:=Iff.rfl
@[simp] theorem z53{x}{d:Option Nat}{st:St}:opK P (.nilc x) d st K↔okK (Zg (.nilc x) st.env.get st.heap) fun x=>K ⟨Zm st.env d x,st.heap,st.clk⟩:=Iff.rfl
@[simp] theorem z2m{zs}{d:Option Nat}{st:St}:opK P (.alloc zs) d st K↔okK (stepW (.alloc zs) d st.env.get st.heap st.clk) fun q=>K ⟨Zm st.env d q.1,q.2.1,q.2.2⟩:=Iff.rfl
@[simp] theorem z2n{n x v}{d:Option Nat}{st:St}:opK P (.store n x v) d st K↔okK (stepW (.store n x v) d st.env.get st.heap st.clk) fun q=>K ⟨Zm st.env d q.1,q.2.1,q.2.2⟩:=Iff.rfl
@[simp] theorem z9d{z zs l c}{d:Option Nat}{st:St}:opK P (.mks z zs l c) d st K↔okK (stepW (.mks z zs l c) d st.env.get st.heap st.clk) fun q=>K ⟨Zm st.env d q.1,q.2.1,q.2.2⟩:=Iff.rfl
@[simp] theorem z9e{z x y}{d:Option Nat}{st:St}:opK P (.app z x y) d st K↔okK (stepW (.app z x y) d st.env.get st.heap st.clk) fun q=>K ⟨Zm st.env d q.1,q.2.1,q.2.2⟩:=Iff.rfl
@[simp] theorem z54(k:IntKind)(n:Int):Zgg .neg (.i k n)=some (.i k (k.wrap (0-n))):=rfl
@[simp] theorem z55(t:Bool):Zgg .not (.b t)=some (.b (!t)):=rfl
attribute [simp] Zg stepW Zgf Zgk Zfm Zjo mmL mm2 Zhf Zhc Zej Ze0 Zgi Zez Zgh Zhd Zd8 Zf2 Zhb eqL evO Zlm Zcw resV Zcd Zdo Zgn Zhg Zj Zib Zhu rowOf Ziu
@[simp] theorem znk{k:IntKind}{a b:Int}:Z8 .add (.i k a) (.i k b)=some (.i k (k.wrap (a+b))):=by simp[Z8,Zfb]
@[simp] theorem znl{k:IntKind}{a b:Int}:Z8 .sub (.i k a) (.i k b)=some (.i k (k.wrap (a-b))):=by simp[Z8,Zfb]
@[simp] theorem znm{k:IntKind}{a b:Int}:Z8 .mul (.i k a) (.i k b)=some (.i k (k.wrap (a*b))):=by simp[Z8,Zfb]
@[simp] theorem zu5{k:IntKind}{a b:Int}:Z8 .quo (.i k a) (.i k b)=if b=0 then none else some (.i k (k.wrap (a.tdiv b))):=by simp[Z8,Zfb]
@[simp] theorem zu6{k:IntKind}{a b:Int}:Z8 .rem (.i k a) (.i k b)=if b=0 then none else some (.i k (a.tmod b)):=by simp[Z8,Zfb]
@[simp] theorem znn{k:IntKind}{a b:Int}:Z8 .eql (.i k a) (.i k b)=some (.b (a == b)):=by simp[Z8,Zfb]
@[simp] theorem zno{k:IntKind}{a b:Int}:Z8 .neq (.i k a) (.i k b)=some (.b (a != b)):=by simp[Z8,Zfb]
@[simp] theorem znp{k:IntKind}{a b:Int}:Z8 .lss (.i k a) (.i k b)=some (.b (a<b)):=by simp[Z8,Zfb]
@[simp] theorem znq{k:IntKind}{a b:Int}:Z8 .leq (.i k a) (.i k b)=some (.b (a≤b)):=by simp[Z8,Zfb]
@[simp] theorem znr{k:IntKind}{a b:Int}:Z8 .gtr (.i k a) (.i k b)=some (.b (a > b)):=by simp[Z8,Zfb]
@[simp] theorem zns{k:IntKind}{a b:Int}:Z8 .geq (.i k a) (.i k b)=some (.b (a≥b)):=by simp[Z8,Zfb]
@[simp] theorem z2o{a b:List UInt8}:Z8 .eql (.s a) (.s b)=some (.b (a == b)):=by simp[Z8,Zjn]
@[simp] theorem z2p{a b:List UInt8}:Z8 .add (.s a) (.s b)=if a.length+b.length≤9223372036854775807 then some (.s (a++b)) else none:=by simp[Z8,Zjn]
theorem zac(n:Int)(h:-9223372036854775808≤n∧n<9223372036854775808):IntKind.wrap .i64 n=n:=by
 simp[IntKind.wrap,IntKind.signed,IntKind.bits]<;>(omega)<;>omega
end
end
section
open Go.RowKit
section
variable{cx:Cx}{Q:Exit→St→Prop}{st:St}{c:AC}{P:Program}{K:St→Prop}
@[simp] theorem z0v{β:Type}(b b':BId)(x:β)(l:List (BId×β)):List.lookup b ((b',x)::l)=if b=b' then some x else List.lookup b l:=by
 grind
attribute [simp] Zeu Zcv Zel Zf5 Zll
attribute [simp] AOp.writes AOp.free Zf3 Zep
@[simp] theorem zagh(k:IntKind)(n y:Int):bnd (.i k n) y=if 0≤n∧n≤y then some n.toNat else none:=rfl
theorem WRel.sub{S:Nat→Nat→Prop}{M:Map}{st st':St}{w:World}(hs:Sub st st')(hr:WRel cx S M st.clk st.heap w):∃Mb,WRel cx S Mb st'.clk st'.heap w∧Ext w S M st.clk w S Mb st'.clk:=by
 classical
 generalize hMb:(fun g=>if Live st'.heap g then M g else none:Map)=Mb;have hMb1:∀g m,Mb g=some m→Live st'.heap g∧M g=some m:=by
  grind
 have hMb2:∀g,Live st'.heap g→Mb g=M g:=by grind
 have hx:Ext w S M st.clk w S Mb st'.clk:=⟨fun _ _ hs=>hs,fun _ _ _ _ hc=>hc,hs.clk,fun g m _ hm=>(hMb1 g m hm).2,fun _ _ arr _ _ _ hb=>⟨arr,hb,rfl⟩⟩;refine⟨Mb,⟨⟨fun b bx hb=>?_,fun g m hm=>(hMb1 g m hm).1,fun b bx b' bx' h1 h2 hg=>?_,fun g g' k h1 h2=>hr.heap.inj _ _ _ (hMb1 _ _ h1).2 (hMb1 _ _ h2).2⟩,hr.ext.trans hx,hr.fr,hr.Snew,hr.Slt,fun g k hm=>hr.Mnew g k (hMb1 _ _ hm).2⟩,hx⟩
 ·obtain⟨bx0,h0,h1⟩:=hs.heap b bx hb;have hl:Live st'.heap bx.gen:=⟨b,bx,hb,rfl⟩;have hbox:=hr.heap.box b bx0 h0;rcases h1 with rfl | ⟨hk,rfl⟩
  ·exact hbox.mono hx (hMb2 _ hl) (fun _ _=>rfl) fun _ _ _ hs=>hs
  ·obtain⟨b1,b2,m,hm,b3⟩:=hbox.mono hx (hMb2 bx0.gen hl) (fun _ _=>rfl) fun _ _ _ hs=>hs;refine⟨b1,b2,m,hm,?_⟩;cases m with
   | none=>grind
   | some k=>
    grind
 ·obtain⟨bx0,h3,h4⟩:=hs.heap b bx h1;obtain⟨bx0',h5,h6⟩:=hs.heap b' bx' h2;have e1:bx.gen=bx0.gen:=by grind
  have e2:bx'.gen=bx0'.gen:=by grind
  exact hr.heap.gens _ _ _ _ h3 h5 (by rw[←e1,←e2,hg])
def Zo3(rs:List RV)(post:AV→Heap→Nat→Prop):Exit→St→Prop:=
 fun ex st=>(ex=.normal∨ex=.ret)∧∃r,Zcw st rs=some r∧∃h' c',Sub ⟨[],st.heap,st.clk⟩ ⟨[],h',c'⟩∧post r h' c'
end
end
section
open Go.RowKit
theorem zcm:∀(l:Heap) (g j:Nat),j≤Zce l g j∧Zce l g j≤j+l.length
 | [],g,j=>by simp[Zce]
 | p::l,g,j=>by
  have:=zcm l g (j+1);simp only[Zce,Yk];split<;>omega
theorem zf2:∀(l:Heap) (g j:Nat),(∃p∈l,p.2.gen=g)→Zce l g j<j+l.length
 | [],g,j,h=>by grind
 | p::l,g,j,h=>by
  simp only[Zce,Yk];split
  ·omega
  ·obtain⟨q,hq,he⟩:=h;have hq':q∈l:=by
    grind
   have:=zf2 l g (j+1) ⟨q,hq',he⟩;omega
theorem zix:∀(l:Heap) (g j:Nat),(¬ ∃p∈l,p.2.gen=g)→Zce l g j=j+l.length
 | [],g,j,h=>by simp[Zce]
 | p::l,g,j,h=>by
  simp only[Zce,Yk];rw[if_neg (fun he=>h ⟨p,Y2,he⟩),zix l g (j+1) fun⟨q,hq,he⟩=>h ⟨q,Ym _ hq,he⟩];omega
theorem zgv:∀(l:Heap) (g g' j:Nat),(∃p∈l,p.2.gen=g)→(∃p∈l,p.2.gen=g')→Zce l g j=Zce l g' j→g=g'
 | [],g,g',j,h,_,_=>by obtain⟨p,hp,_⟩:=h;simp at hp
 | p::l,g,g',j,h,h',he=>by
  simp only[Zce]at he;have low:=zcm l g (j+1);have low':=zcm l g' (j+1);split at he<;>split at he
  ·rename_i h1 h2;rw[←h1,←h2]
  ·omega
  ·omega
  ·rename_i h1 h2;have tl:∀g,p.2.gen≠g→(∃q∈p::l,q.2.gen=g)→∃q∈l,q.2.gen=g:=by
    intro g hne ⟨q,hq,he⟩;rcases Yy.1 hq with rfl | h
    ·exact absurd he hne
    ·exact⟨q,h,he⟩
   exact zgv l g g' (j+1) (tl g h1 h) (tl g' h2 h') he
theorem zeo{h:Heap}{ids:List BId}{p:BId×Box}(hp:p∈Zdr h ids):h.lookup p.1=some p.2:=by
 obtain⟨b,_,h2⟩:=List.mem_filterMap.1 hp;cases hb:h.lookup b with
 | none=>grind
 | some bx=>grind
theorem zbc{β γ:Type}[BEq β][LawfulBEq β]:∀(l:List (β×γ)) (b:β) (x:γ),l.lookup b=some x→(b,x)∈l:=by
 intro l b x h
 induction l with
 | nil=>cases h
 | cons p l ih=>
  grind
theorem zfc{γ:Type}:∀(l:List (BId×γ)) (p:BId×γ),p∈l→∃x,l.lookup p.1=some x:=by
 intro l p h
 induction l with
 | nil=>cases h
 | cons q l ih=>
  obtain⟨q1,q2⟩:=q;by_cases hb:p.1=q1
  ·simp_all
  grind
theorem zki{h:Heap}{ids:List BId}{p:BId×Box}(hp:p∈Zdr h ids):(Zdr h ids).lookup p.1=some p.2:=by
 obtain⟨x,hx⟩:=zfc _ _ hp;have h1:=zeo (zbc _ _ _ hx);rw[zeo hp]at h1
 grind
theorem zme(live:List Nat)(f:Nat→AV)(t:Nat):(live.map fun t=>(t,f t)).lookup t=if t∈live then some (f t) else none:=by
 induction live with
 | nil=>simp
 | cons s l ih=>
  grind
section
variable{cx:Cx}{st:St}{a:Act}{w:World}
theorem zny{k:Nat}{hp:Heap}{g g':Nat}(h:∃p∈hp,p.2.gen=g)(h':∃p∈hp,p.2.gen=g')(he:Zci k hp g=Zci k hp g'):g=g':=by
 grind[Zci,zcm,zgv]
theorem Rel.norm{ex:Bool}{k:Nat}{live:List Nat}(hk:cx.clk0=k+1)(hr:Rel cx st a w):Rel cx (Zc1 ex k live st) a w:=by
 obtain⟨S,M,hr⟩:=hr;generalize hids:Zc0 st.heap 40 (Zk3 k++(live.map fun t=>(t,st.env.get t)).flatMap fun p=>rfA p.2) []=ids;generalize hhp:Zdr st.heap ids=hp;have hn:Zc1 ex k live st=⟨(live.map fun t=>(t,st.env.get t)).map fun p=>(p.1,rlA id (Zci k hp) (wkIf ex p.2)),hp.map fun p=>(p.1,Zaf ex id (Zci k hp) p.2),k+hp.length+2⟩:=by
  rw[←hhp,←hids];rfl
 have hlk:∀b bx,hp.lookup b=some bx→st.heap.lookup b=some bx:=by
  intro b bx hb;have:=zbc _ _ _ hb;rw[←hhp]at this;exact zeo this
 have hml:∀p∈hp,hp.lookup p.1=some p.2:=by
  intro p hm;rw[←hhp]at hm ⊢;exact zki hm
 classical
 generalize hM':(fun g'=>if h:∃g,(∃p∈hp,p.2.gen=g)∧Zci k hp g=g' then M (Classical.choose h) else none:Map)=M';have hM1:∀g,(∃p∈hp,p.2.gen=g)→M' (Zci k hp g)=M g:=by
  intro g hg;rw[←hM'];have h:∃g0,(∃p∈hp,p.2.gen=g0)∧Zci k hp g0=Zci k hp g:=⟨g,hg,rfl⟩;simp only[dif_pos h];rw[zny (Classical.choose_spec h).1 hg (Classical.choose_spec h).2]
 have hM2:∀g' m,M' g'=some m→∃g,(∃p∈hp,p.2.gen=g)∧Zci k hp g=g'∧M g=some m:=by
  grind
 have hrl:Rlb M M' st.clk (k+hp.length+2) (Zci k hp):=by
  refine⟨fun g hg=>⟨?_,?_⟩⟩
  ·by_cases hin:∃p∈hp,p.2.gen=g
   ·grind
   ·right;cases hm:M' (Zci k hp g) with
    | none=>rfl
    | some m=>
     obtain⟨g1,h1,h2,_⟩:=hM2 _ _ hm;have hlt:=zf2 hp g1 (k+1) h1
     grind[zix,zcm,Zci]
  grind[zcm,Zci]
 have hw:=hr.wr;refine⟨S,M',?_⟩;rw[hn];refine⟨hr.size,hr.defers,fun t=>?_,?_⟩
 ·rw[List.map_map];have e1:Env.get (live.map fun t=>(t,rlA id (Zci k hp) (wkIf ex (st.env.get t)))) t=(if t∈live then some (rlA id (Zci k hp) (wkIf ex (st.env.get t))) else none).getD .dead:=by
   rw[←zme live (fun t=>rlA id (Zci k hp) (wkIf ex (st.env.get t)))];rfl
  show C w S M' _ _ (Env.get (live.map fun t=>(t,rlA id (Zci k hp) (wkIf ex (st.env.get t)))) t);rw[e1];split
  ·exact((hr.env t).wkIf ex).rlA hrl
  ·exact .p (.dead _)
 ·refine hw.rl (ex:=ex) (σn:=id) (σg:=Zci k hp) (D:=fun g=>∃p∈hp,p.2.gen=g) hrl (by grind) (fun g m hg hm=>?_) (fun b' bx' hb=>?_) (fun g' m hm=>?_) (fun g1 g2 hd1 hd2 hg=>?_) (fun g' m hm=>?_)
  ·grind[zcm,Zci]
  ·rw[zdo (fun _ bx=>Zaf ex id (Zci k hp) bx) b' hp]at hb;obtain⟨bx,h1,rfl⟩:=map_some hb;exact⟨b',bx,hlk _ _ h1,rfl,hM1 _ ⟨_,zbc _ _ _ h1,rfl⟩,rfl,⟨_,zbc _ _ _ h1,rfl⟩⟩
  ·obtain⟨g1,⟨p,h1,h1'⟩,h2,h3⟩:=hM2 _ _ hm;refine⟨p.1,Zaf ex id (Zci k hp) p.2,?_,by show Zci k hp p.2.gen=g';grind⟩;rw[zdo (fun _ bx=>Zaf ex id (Zci k hp) bx) p.1 hp,hml p h1]
   rfl
  ·exact zny hd1 hd2 hg
  grind
theorem Rel.nil(t:Nat)(id:BId)(z:Nat)(hx:st.env.get t=.sl [] .nl)(hr0:Rel cx st a w):Rel cx ⟨(t,.bs id st.clk z 0 0)::st.env,(id,⟨st.clk,.own,z,[]⟩)::st.heap,st.clk+1⟩ a w:=by
 obtain⟨S,M,hr⟩:=hr0;refine⟨S,Zc4 M ((id,⟨st.clk,.own,z,[]⟩)::st.heap) st.clk none,?_⟩;have h1:=hr.set (id:=id) (bx':=⟨st.clk,.own,z,[]⟩) (k':=none) (touched:=none) (clk':=st.clk+1) (Ya8 _) (.inl rfl) (fun hlt=>absurd hlt (Ya9 _)) (Touch.of_below (Below.refl _ _)) (fun k hk=>by grind)
  ⟨Yx _,fun r hr=>by grind,none,zan _ _ _ _,rfl,by simp⟩
 refine⟨h1.size,h1.defers,fun t'=>?_,h1.wr⟩;have e1:Env.get ((t,AV.bs id st.clk z 0 0)::st.env)=upd st.env.get (some t) (.bs id st.clk z 0 0):=zdd st.env (some t) _;rw[e1];simp only[upd];split
 ·rename_i ht;subst ht;have hv:=hr.env t';rw[hx]at hv;have hv2:a.tmps.getD t' undef=.slice none 0 0:=by
   rcases hv.inv_sl.inv_sl with ⟨_,b0,hv,_,hb2⟩ | ⟨_,_,_,_,_,_,hf,_⟩
   all_goals grind
  rw[hv2];refine .bs _ _ _ _ _ _ (Yx _) ?_ rfl
  grind[Zfk,zan]
 ·exact h1.env t'
theorem Rel.shr(t:Nat){y:AV}(hy:frz st.heap (st.env.get t)=some y)(hr0:Rel cx st a w):Rel cx ⟨st.env,Zj (refs (st.env.get t)) st.heap,st.clk⟩ a w:=by
 obtain⟨S,M,hr⟩:=hr0;exact⟨_,M,hr.share (refs (st.env.get t)) (zdp hy)⟩
theorem Rel.frz(t:Nat){y:AV}(hy:frz st.heap (st.env.get t)=some y)(hr0:Rel cx st a w):Rel cx ⟨(t,y)::st.env,Zj (refs (st.env.get t)) st.heap,st.clk⟩ a w:=by
 obtain⟨S,M,hr⟩:=hr0;have hk:=zdp hy;refine⟨Zbz st.heap M (refs (st.env.get t)) S,M,?_⟩;have h1:=hr.share (refs (st.env.get t)) hk;refine⟨h1.size,h1.defers,fun t'=>?_,h1.wr⟩;have e1:Env.get ((t,y)::st.env)=upd st.env.get (some t) y:=zdd st.env (some t) _;rw[e1];simp only[upd];split
 ·rename_i ht;subst ht;exact .p (zw6 hr.wr.heap (hr.env t') hy fun id hid=>hid)
 ·exact h1.env t'
theorem Rel.fld(b id:BId)(z i o:Nat){bx:Box}{r:List AV}(hb:st.heap.lookup b=some bx)(hk:bx.kind=.str)(hi:bx.els[i]? = some r)(ho:r[o]? = some (.sl [] .nl))(hid:st.heap.lookup id=none)(hr0:Rel cx st a w):Rel cx ⟨st.env,(b,{ bx with els:=bx.els.set i (r.set o (.bs id st.clk z 0 0)) })::(id,⟨st.clk,.own,z,[]⟩)::st.heap,st.clk+1⟩ a w:=by
 obtain⟨S,M,hr⟩:=hr0;refine⟨S,Zc4 M ((id,⟨st.clk,.own,z,[]⟩)::st.heap) st.clk none,?_⟩;have h1:=hr.set (id:=id) (bx':=⟨st.clk,.own,z,[]⟩) (k':=none) (touched:=none) (clk':=st.clk+1) (Ya8 _) (.inl rfl) (fun hlt=>absurd hlt (Ya9 _)) (Touch.of_below (Below.refl _ _)) (fun k hk=>by grind)
  ⟨Yx _,fun r hr=>by grind,none,zan _ _ _ _,rfl,by simp⟩
 have hb1:List.lookup b ((id,(⟨st.clk,.own,z,[]⟩:Box))::st.heap)=some bx:=by grind
 have hw:=h1.wr;generalize hM':Zc4 M ((id,⟨st.clk,.own,z,[]⟩)::st.heap) st.clk none=M' at *
 have hself:M' st.clk=some none:=by rw[←hM'];exact zan _ _ _ _
 generalize hbx':({ bx with els:=bx.els.set i (r.set o (.bs id st.clk z 0 0)) }:Box)=bx' at *
 have hgen:bx'.gen=bx.gen:=by grind
 have hz:bx'.z=bx.z:=by grind
 have hkk:bx'.kind=bx.kind:=by grind
 have hbox:Zbt w S M' (st.clk+1) bx':=by
  obtain⟨b1,b2,m,hm1,b3⟩:=hw.heap.box b bx hb1;refine⟨by omega,fun r' hr'=>?_,m,by grind,?_⟩
  ·grind
  ·cases m with
   | none=>
    grind
   | some k=>
    obtain⟨arr,e,hh,hsz,hcc,hns,hlt⟩:=b3;refine⟨arr,e,hh,by grind,fun i' r' j c' hi' hj=>?_,by grind,by grind⟩;rw[←hbx']at hi';simp only[List.getElem?_set]at hi';rw[hz,hkk];split at hi'
    ·rename_i hii;subst hii;split at hi'
     ·cases hi';rw[List.getElem?_set]at hj;split at hj
      ·rename_i hjo;subst hjo;split at hj
       ·cases hj;obtain⟨u,hu,hu1,hC,hP⟩:=hcc i r o _ hi ho;refine⟨u,hu,hu1,?_,fun hne'=>absurd hk hne'⟩;have hv2:u=.slice none 0 0:=by
         rcases hC.inv_sl.inv_sl with ⟨_,b0,hv,_,hb2⟩ | ⟨_,_,_,_,_,_,hf,_⟩
         all_goals grind
        rw[hv2];refine .bs _ _ _ _ _ _ (Yx _) ?_ rfl
        grind[Zfk]
       grind
      grind
     grind
    grind
 have to:∀q x,List.lookup q ((b,bx')::(id,(⟨st.clk,.own,z,[]⟩:Box))::st.heap)=some x→∃x0,List.lookup q ((id,(⟨st.clk,.own,z,[]⟩:Box))::st.heap)=some x0∧x0.gen=x.gen:=by
  grind
 refine⟨h1.size,h1.defers,h1.env,⟨⟨fun q x hq=>?_,fun g m hm=>?_,fun q1 x1 q2 x2 hq1 hq2 hg=>?_,hw.heap.inj⟩,hw.ext,hw.fr,hw.Snew,hw.Slt,hw.Mnew⟩⟩
 ·by_cases hqb:q=b
  ·grind
  ·rw[zam _ _ hqb]at hq;exact hw.heap.box q x hq
 ·obtain⟨q,x,hq,hg⟩:=hw.heap.live g m hm;by_cases hqb:q=b
  ·grind[zbm]
  ·exact⟨q,x,by grind,hg⟩
 ·obtain⟨y1,hy1,e1⟩:=to q1 x1 hq1;obtain⟨y2,hy2,e2⟩:=to q2 x2 hq2;exact hw.heap.gens _ _ _ _ hy1 hy2 (by rw[e1,e2,hg])
theorem Rel.str(b:BId){bx:Box}{r:List AV}{i:Nat}(hb:st.heap.lookup b=some bx)(hk:bx.kind≠.sh)(hi:bx.els[i]? = some r)(hr0:Rel cx st a w):Rel cx ⟨st.env,(b,{ bx with kind:=.str })::st.heap,st.clk⟩ a w:=by
 obtain⟨S,M,hr⟩:=hr0;refine⟨S,M,?_⟩;have hw:=hr.wr;generalize hbx':({ bx with kind:=.str }:Box)=bx' at *
 have hgen:bx'.gen=bx.gen:=by grind
 have hbox:Zbt w S M st.clk bx':=by
  obtain⟨b1,b2,m,hm1,b3⟩:=hw.heap.box b bx hb;refine⟨by omega,by grind,m,by grind,?_⟩;cases m with
  | none=>grind
  | some k=>
   obtain⟨arr,e,hh,hsz,hcc,hns,hlt⟩:=b3;refine⟨arr,e,hh,by grind,fun i' r' j c' hi' hj=>?_,by grind,by grind⟩;obtain⟨u,h1,h2,h3,h4⟩:=hcc i' r' j c' (by grind) hj;exact⟨u,by grind,h2,h3,by grind⟩
 have to:∀q x,List.lookup q ((b,bx')::st.heap)=some x→∃x0,List.lookup q st.heap=some x0∧x0.gen=x.gen:=by
  grind
 refine⟨hr.size,hr.defers,hr.env,⟨⟨fun q x hq=>?_,fun g m hm=>?_,fun q1 x1 q2 x2 hq1 hq2 hg=>?_,hw.heap.inj⟩,hw.ext,hw.fr,hw.Snew,hw.Slt,hw.Mnew⟩⟩
 ·by_cases hqb:q=b
  ·grind
  ·rw[zam _ _ hqb]at hq;exact hw.heap.box q x hq
 ·obtain⟨q,x,hq,hg⟩:=hw.heap.live g m hm;by_cases hqb:q=b
  ·grind[zbm]
  ·exact⟨q,x,by grind,hg⟩
 ·obtain⟨y1,hy1,e1⟩:=to q1 x1 hq1;obtain⟨y2,hy2,e2⟩:=to q2 x2 hq2;exact hw.heap.gens _ _ _ _ hy1 hy2 (by rw[e1,e2,hg])
theorem Rel.gh{k:Nat}{g:Gh}{st':St}(hk:cx.clk0=k+1)(hg:ghS k g st=some st')(hr:Rel cx st a w):Rel cx st' a w:=by
 cases g with
 | nil t z=>
  simp only[ghS]at hg;split at hg<;>cases hg;rename_i hx;exact hr.nil t _ z hx
 | frz t=>
  obtain⟨y,hy,rfl⟩:=map_some hg;exact hr.frz t hy
 | shr t=>
  simp only[ghS]at hg;obtain⟨y,hy,rfl⟩:=map_some hg;exact hr.shr t hy
 | norm ex live=>
  cases hg;exact hr.norm hk
 | trm live=>
  cases hg;have key:∀(l:List Nat) (t:Nat) (x:AV),(l.map fun t=>(t,st.env.get t)).lookup t=some x→st.env.get t=x:=by
   intro l
   induction l with
   | nil=>simp
   | cons a l ih=>grind [List.lookup]
  have hs:Sub st ⟨live.map fun t=>(t,st.env.get t),st.heap,st.clk⟩:=⟨fun t x h=>key _ _ _ h,fun b bx h=>⟨bx,h,.inl rfl⟩,Yg _⟩;exact Rel.sub hs hr
 | opn t j z=>
  simp only[ghS]at hg;split at hg<;>try (cases hg;done)
  split at hg<;>try (cases hg;done)
  rename_i bx hbx;split at hg<;>try (cases hg;done)
  rename_i r hi;split at hg<;>cases hg;rename_i hc;have hb:=(zat hbx).1;have h1:=hr.str _ hb hc.1 hi;have hn:∀b o,BId.fld b o≠b:=fun b o h=>by
   have h2:SizeOf.sizeOf (BId.fld b o)=SizeOf.sizeOf b:=by rw[h]
   simp at h2;omega
  have h2:=h1.fld (bx:={ bx with kind:=.str }) _ (.fld _ _) z _ 0 (zbm _ _ _) rfl hi rfl (by rw[zam _ _ (hn _ _)];simpa using hc.2);refine Rel.sub ?_ h2;constructor
  ·intro t x h;show (st.env.lookup t).getD .dead=x;rw[show st.env.lookup t=some x from h]
   rfl
  ·intro b' bx' h;refine⟨bx',?_,.inl rfl⟩;simp only[Ybm]
   grind
  ·exact Yg _
 | shi t j=>
  simp only[ghS]at hg;split at hg<;>try (cases hg;done)
  split at hg<;>try (cases hg;done)
  split at hg<;>try (cases hg;done)
  obtain⟨y,hy,rfl⟩:=map_some hg;obtain⟨S,M,hr⟩:=hr;exact⟨_,M,hr.share (refs _) (zdp hy)⟩
 | fld t i o z=>
  simp only[ghS]at hg;split at hg<;>try (cases hg;done)
  split at hg<;>try (cases hg;done)
  rename_i bx hbx;split at hg<;>try (cases hg;done)
  rename_i r hi;split at hg<;>try (cases hg;done)
  rename_i ho;split at hg<;>cases hg;rename_i hc;exact hr.fld _ _ z i o (zat hbx).1 hc.1 hi ho (by simpa using hc.2)
end
end
section
open Go.RowKit
theorem zkj:∀(l:Heap) (g j:Nat),(∃p∈l,p.2.gen=g)→∃q,l[Zce l g j-j]? = some q∧q.2.gen=g∧j≤Zce l g j
 | [],g,j,h=>by grind
 | p::l,g,j,h=>by
  simp only[Zce];split
  ·grind
  ·obtain⟨q,hq,he⟩:=h;have hq':q∈l:=by
    grind
   obtain⟨q2,h1,h2,h3⟩:=zkj l g (j+1) ⟨q,hq',he⟩
   grind
theorem zh2:∀(l:List BId) (b b':BId) (j:Nat),b∈l→b'∈l→Zec l b j=Zec l b' j→b=b'
 | [],b,b',j,h,_,_=>by cases h
 | c::l,b,b',j,h,h',he=>by
  have low:∀(l:List BId) (x:BId) (j:Nat),j≤Zec l x j:=by
   intro l x
   induction l with
   | nil=>intro j;exact Yg _
   | cons y l ih=>intro j;simp only[Zec];split;exact Yg _;exact Yc (Ya8 j) (ih (j+1))
  simp only[Zec]at he;have l1:=low l b (j+1);have l2:=low l b' (j+1);split at he<;>split at he
  ·rename_i h1 h2;rw[←h1,←h2]
  ·omega
  ·omega
  ·rename_i h1 h2;have tl:∀x,c≠x→x∈c::l→x∈l:=by
    intro x hne hx;rcases Yy.1 hx with rfl | hx
    ·exact absurd rfl hne
    ·exact hx
   exact zh2 l b b' (j+1) (tl b h1 h) (tl b' h2 h') he
theorem zdh{γ:Type}:∀(l:List (BId×γ)),(l.map (·.1)).Nodup→∀p∈l,l.lookup p.1=some p.2:=by
 intro l hn p hp
 induction l with
 | nil=>grind
 | cons q l ih=>
  grind
theorem zgw{α:Type}:∀(l:List α),l.Nodup→∀(i j:Nat) (x:α),l[i]? = some x→l[j]? = some x→i=j
 | [],_,i,j,x,h,_=>by simp at h
 | y::l,hn,i,j,x,hi,hj=>by
  simp only[List.nodup_cons]at hn;cases i with
  | zero=>
   cases j with
   | zero=>rfl
   | succ j=>
    simp at hi hj;subst hi;exact absurd (Yf hj) hn.1
  | succ i=>
   cases j with
   | zero=>
    simp at hi hj;subst hj;exact absurd (Yf hi) hn.1
   | succ j=>rw[zgw l hn.2 i j x hi hj]
theorem Zdp.rl{P:Program}{f:FuncId}{ys:List AV}{hp:Heap}{clk d:Nat}{ex:Bool}{l:List BId}{r0:AV}{hb':Heap}{c':Nat}
  (hkeys:hp.map (·.1)=l) (hnd:l.Nodup)
  (hnd2:((hb'.map fun p=>(Za2 l d p.1,Zaf true (Za2 l d) (Zbd hp clk) p.2)).map (·.1)).Nodup)
  (hA:Zdp P f (ys.map fun y=>rlA (inN l) (inG hp) (wkIf ex y)) (hp.map fun p=>(inN l p.1,Zaf ex (inN l) (inG hp) p.2)) (hp.length+1) (fun r h c=>r=r0∧h=hb'∧c=c')) :
  Zdp P f ys hp clk (fun r h c=>r=rlA (Za2 l d) (Zbd hp clk) r0∧h=hb'.map (fun p=>(Za2 l d p.1,Zaf true (Za2 l d) (Zbd hp clk) p.2))∧c=clk+(c'-hp.length)):=by
 refine⟨hA.1,fun w S M cargs hl hC hh hS hM=>?_⟩;have hml:∀p∈hp,hp.lookup p.1=some p.2:=zdh hp (by grind);have hnd':(hb'.map (·.1)).Nodup:=by
  grind
 classical
 -- the call's own numbering
 generalize hM1:(fun g'=>if h:∃g,(∃p∈hp,p.2.gen=g)∧inG hp g=g' then M (Classical.choose h) else none:Map)=M1;have inj1:∀g1 g2,(∃p∈hp,p.2.gen=g1)→(∃p∈hp,p.2.gen=g2)→inG hp g1=inG hp g2→g1=g2:=fun g1 g2 h1 h2 he=>zgv hp g1 g2 0 h1 h2 he;have hM1a:∀g,(∃p∈hp,p.2.gen=g)→M1 (inG hp g)=M g:=by
  intro g hg;rw[←hM1];have h:∃g0,(∃p∈hp,p.2.gen=g0)∧inG hp g0=inG hp g:=⟨g,hg,rfl⟩;simp only[dif_pos h];rw[inj1 _ _ (Classical.choose_spec h).1 hg (Classical.choose_spec h).2]
 have hM1b:∀g' m,M1 g'=some m→∃g,(∃p∈hp,p.2.gen=g)∧inG hp g=g'∧M g=some m:=by
  grind
 have rl1:Rlb M M1 clk (hp.length+1) (inG hp):=by
  refine⟨fun g _=>⟨?_,?_⟩⟩
  ·by_cases hin:∃p∈hp,p.2.gen=g
   ·grind
   ·right;cases hm:M1 (inG hp g) with
    | none=>rfl
    | some m=>
     obtain⟨g1,h1,h2,_⟩:=hM1b _ _ hm;have hlt:=zf2 hp g1 0 h1
     grind[zix,inG]
  grind[zcm,inG]
 have mem_keys:∀p∈hp,p.1∈l:=fun p hpm=>by grind
 have heap1:HeapRel w S M1 (hp.length+1) (hp.map fun p=>(inN l p.1,Zaf ex (inN l) (inG hp) p.2)):=by
  refine hh.rl (ex:=ex) (σn:=inN l) (σg:=inG hp) (D:=fun g=>∃p∈hp,p.2.gen=g) rl1 (fun b' bx' hb=>?_) (fun g' m hm=>?_) inj1 (fun g' m hm=>?_)
  ·obtain⟨p,hpm,he⟩:=Yz.1 (zbc _ _ _ hb)
   grind
  ·obtain⟨g1,⟨p,hpm,h1⟩,h2,h3⟩:=hM1b _ _ hm;obtain⟨x,hx⟩:=zfc (hp.map fun p=>(inN l p.1,Zaf ex (inN l) (inG hp) p.2)) (inN l p.1,Zaf ex (inN l) (inG hp) p.2) (Yz.2 ⟨p,hpm,rfl⟩);refine⟨_,x,hx,?_⟩;obtain⟨q,hqm,he⟩:=Yz.1 (zbc _ _ _ hx);simp only[Prod.mk.injEq]at he;have hqp:q.1=p.1:=by
    grind[inN,zh2]
   have:q.2=p.2:=by
    grind
   rw[←he.2,this];show inG hp p.2.gen=g'
   grind
  grind
 have range1:∀g k,M1 g=some (some k)→∃g0,M g0=some (some k):=fun g k hm=>let ⟨g1,_,_,h3⟩:=hM1b g _ hm;⟨g1,h3⟩
 refine(hA.2 w S M1 cargs (by grind) (fun j v c hv hc=>?_) heap1 hS (fun g k hm=>let ⟨g0,h0⟩:=range1 g k hm;hM g0 k h0)).mono ?_
 ·obtain⟨c0,h1,rfl⟩:=getElem?_mapped hc;exact((hC j v c0 hv h1).wkIf ex).rlA rl1
 intro e w' ⟨v,r,h',S',M2,clk2,he,⟨hr0,hh',hc2⟩,hCr,hw⟩;subst hr0;subst hh';subst hc2;have hw:=hw 0
 -- back
 have gens:∀(i:Nat) p,hp[i]? = some p→∀(j:Nat) q,hp[j]? = some q→p.2.gen=q.2.gen→i=j:=by
  intro i p hi j q hj hg;have h1:=hh.gens _ _ _ _ (hml p (Yf hi)) (hml q (Yf hj)) hg;refine zgw l hnd i j p.1 ?_ ?_
  all_goals grind
 have low:∀g m,M2 g=some m→g<hp.length∨hp.length+1≤g:=by
  intro g m hm;rcases Yt g (hp.length+1) with h1 | h1
  ·obtain⟨g1,h2,h3,_⟩:=hM1b g m (hw.ext.hM g m h1 hm);have:=zf2 hp g1 0 h2;unfold inG at h3;omega
  omega
 have outLt:∀g,g<hp.length→∃p,hp[g]? = some p∧Zbd hp clk g=p.2.gen∧p.2.gen<clk:=by
  intro g hg;have h1:hp[g]? = some (hp[g]'hg):=Ya hg;refine⟨_,h1,by simp[Zbd,h1],(hh.box _ _ (hml _ (Yp hg))).1⟩
 have outGe:∀g,hp.length≤g→Zbd hp clk g=clk+(g-hp.length):=by
  grind[Zbd]
 have inj2:∀g1 g2,(∃m,M2 g1=some m)→Zbd hp clk g1=Zbd hp clk g2→g1=g2:=by
  intro g1 g2 ⟨m,hm⟩ he;rcases Yt g1 hp.length with h1 | h1<;>rcases Yt g2 hp.length with h2 | h2
  all_goals grind
 generalize hM3:(fun g'=>if h:∃g,(∃m,M2 g=some m)∧Zbd hp clk g=g' then M2 (Classical.choose h) else none:Map)=M3;have hM3a:∀g,(∃m,M2 g=some m)→M3 (Zbd hp clk g)=M2 g:=by
  intro g hg;have h:∃g0,(∃m,M2 g0=some m)∧Zbd hp clk g0=Zbd hp clk g:=⟨g,hg,rfl⟩
  grind
 have hM3b:∀g' m,M3 g'=some m→∃g,Zbd hp clk g=g'∧M2 g=some m:=by
  grind
 have rl2:Rlb M2 M3 clk2 (clk+(clk2-hp.length)) (Zbd hp clk):=by
  refine⟨fun g hg=>⟨?_,?_⟩⟩
  ·grind
  ·rcases Yt g hp.length with h1 | h1
   all_goals grind
 have back:∀g m,g<clk→M3 g=some m→∃g1,g1<hp.length∧M2 g1=some m∧M1 g1=some m∧M g=some m:=by
  intro g m hg hm;obtain⟨g1,h1,h2⟩:=hM3b _ _ hm;have hlt:g1<hp.length:=by
   grind
  have h3:=hw.ext.hM g1 m (by grind) h2;obtain⟨g2,h4,h5,h6⟩:=hM1b _ _ h3;obtain⟨p,a1,a2,_⟩:=outLt g1 hlt;obtain⟨q,b1,b2,_⟩:=zkj hp g2 0 h4
  grind[inG]
 refine⟨v,_,_,S',M3,_,he,⟨rfl,rfl,rfl⟩,hCr.rlA rl2,fun nt=>⟨?_,?_,?_,fun k o hs=>?_,hw.Slt,fun g k hm=>?_⟩⟩
 ·refine hw.heap.rl (ex:=true) (σn:=Za2 l d) (σg:=Zbd hp clk) (D:=fun g=>∃m,M2 g=some m) rl2 (fun b' bx' hb=>?_) (fun g' m hm=>?_) (fun g1 g2 h1 _ he=>inj2 g1 g2 h1 he) (fun g' m hm=>?_)
  ·obtain⟨p,hpm,he⟩:=Yz.1 (zbc _ _ _ hb);cases he;have h1:=zdh h' hnd' p hpm;obtain⟨_,_,m,hm,_⟩:=hw.heap.box _ _ h1
   grind
  ·obtain⟨g1,h1,h2⟩:=hM3b _ _ hm;obtain⟨b,bx,h3,h4⟩:=hw.heap.live g1 m h2;refine⟨Za2 l d b,Zaf true (Za2 l d) (Zbd hp clk) bx,?_,by show Zbd hp clk bx.gen=g';grind⟩;exact zdh _ hnd2 (Za2 l d b,Zaf true (Za2 l d) (Zbd hp clk) bx) (Yz.2 ⟨(b,bx),zbc _ _ _ h3,rfl⟩)
  grind
 ·refine⟨hw.ext.hS,hw.ext.hcell,by grind,fun g m hg hm=>?_,fun g k arr e hg hm hb=>?_⟩
  ·grind
  ·obtain⟨g1,h1,h2,_,_⟩:=back g _ hg hm;exact hw.ext.hblk g1 k arr e (by grind) h2 hb
 ·exact⟨hw.fr.os,hw.fr.tape,hw.fr.output,hw.fr.size,fun k hk hn=>hw.fr.block k hk fun⟨g,hm⟩=>hn (range1 g k hm)⟩
 ·rcases hw.Snew k o hs with h1 | h1 | ⟨g,h1⟩
  ·grind
  ·grind
  ·exact .inr (.inr (range1 g k h1))
 ·obtain⟨g1,h1,h2⟩:=hM3b _ _ hm;obtain⟨h3,h4⟩:=hw.Mnew g1 k h2;refine⟨h3,?_⟩;rcases h4 with h4 | ⟨g,h4⟩
  ·grind
  ·exact .inr (range1 g k h4)
theorem Zad.wk{P:Program}{f:FuncId}{xs:List AV}{post:AV→Prop}{ex:Bool}(h:Zad P f (xs.map (wkIf ex)) post):Zad P f xs post:=
 ⟨h.1,fun w S cargs hl hC hS=>h.2 w S cargs (by grind) (fun j v c hv hc=>by
  obtain⟨c0,h1,rfl⟩:=getElem?_mapped hc;exact(hC j v c0 hv h1).wkIf ex) hS⟩
end
section
open Go.RowKit
def Zd1(ν:Nat→FuncId)(τ:Nat→Nat):AOp→AOp
 | .call u args=>.call (ν u) args
 | .ifc k x=>.ifc (τ k) x
 | .inv nm _ _ r args=>.inv nm 0 (if nm="()" then 1 else 0) r args
 | .xop (.mkf k) xs=>.xop (.mkf (τ k)) xs
 | .xop (.mkv k) xs=>.xop (.mkv (τ k)) xs
 | op=>op
def Zal(ν:Nat→FuncId)(τ:Nat→Nat)(o:AO):AO:=⟨o.dst,o.guard,Zd1 ν τ o.op⟩
def Zj1(ν:Nat→FuncId)(τ:Nat→Nat)(o:DO):DO:=⟨Zal ν τ o.ao,o.lo,o.hi⟩
def er(ν:Nat→FuncId)(τ:Nat→Nat):AX→AC
 | .skip=>.skip
 | .reg l=>.reg (l.map (Zal ν τ))
 | .draw l=>.draw (l.map (Zj1 ν τ))
 | .seq a b=>.seq (er ν τ a) (er ν τ b)
 | .cond c x y=>.cond c (er ν τ x) (er ν τ y)
 | .block id c=>.block id (er ν τ c)
 | .loop c=>.loop (er ν τ c)
 | .exit id=>.exit id
 | .ret=>.ret
 | .note c _=>er ν τ c
 | .pre _ c=>er ν τ c
 | .scope c=>.scope (er ν τ c)
 | .lp id _ c _=>.block id (.loop (er ν τ c))
 | .bad=>.bad
 | .drawT hd tl=>.drawT (hd.map (Zal ν τ)) (tl.map (Zal ν τ))
 | .drawM hd tl=>.drawM (hd.map (Zal ν τ)) (tl.map (Zal ν τ))
 | .prim _=>.bad
 | .label l=>.label l
 | .goto l=>.goto l
 | .gsc l c r=>.gsc l (er ν τ c) (er ν τ r)
def erF(ν:Nat→FuncId)(τ:Nat→Nat)(af:AFx):AF:=⟨af.np,af.nt,af.res,er ν τ af.body⟩
def Ex.out:Ex→Exit
 | .n=>.normal
 | .x id=>.exit id
 | .r=>.ret
 | .g l=>.goto l
def LWp(cx:Cx)(c:AC)(Q:Exit→St→Prop)(st:St):Prop:=
 ∀code,Zt cx.P cx.nt code=some c→cx.P.follows .mixedOrders=true→∀a w,Rel cx st a w→∀(b:Frame) (k:List Item) (cs:List Frame),
  ∃e a' w',(∃st',Q e st'∧Rel cx st' a' w')∧Arrives cx.P (lone (b.at a (.code code :: .inLoop code::k)) cs w) b k cs e a' w'
theorem zvc{cx:Cx}{c:AC}{Q:Exit→St→Prop}{st:St}(h:AWp cx c (Zic (fun s=>LWp cx c Q s) Q) st):LWp cx c Q st:=by
 intro code hc hm a w hr b k cs;obtain⟨ex,a1,w1,⟨st1,hq1,hrel1⟩,harr⟩:=h code hc hm a w hr b (.inLoop code::k) cs;cases ex with
 | normal=>
  obtain⟨e2,a2,w2,hq2,harr2⟩:=hq1 code hc hm a1 w1 hrel1 b k cs;exact⟨e2,a2,w2,hq2,.of_steps (Steps.trans harr (.one step_inLoop)) harr2⟩
 | exit id=>exact⟨_,a1,w1,⟨st1,hq1,hrel1⟩,.pass (x:=.inLoop code) rfl (fun _ _=>.inl (by simp)) harr⟩
 | goto l=>exact⟨_,a1,w1,⟨st1,hq1,hrel1⟩,.pass (x:=.inLoop code) rfl (fun _ _=>.inl (by simp)) harr⟩
 | ret=>exact⟨_,a1,w1,⟨st1,hq1,hrel1⟩,.pass (x:=.inLoop code) rfl (fun _ _=>.inl (by simp)) harr⟩
 | panic ch=>exact⟨_,a1,w1,⟨st1,hq1,hrel1⟩,.pass (x:=.inLoop code) rfl (fun _ _=>.inl (by simp)) harr⟩
 | outgrown=>exact⟨_,a1,w1,⟨st1,hq1,hrel1⟩,.pass (x:=.inLoop code) rfl (fun _ _=>.inl (by simp)) harr⟩
theorem zgx{cx:Cx}{c:AC}{Q:Exit→St→Prop}{st:St}(h:LWp cx c Q st):AWp cx (.loop c) Q st:=by
 intro code hc hm a w hr;have hcode:=hc;cases code<;>simp only[Zt]at hc<;>try cases hc
 case loop c1=>
  obtain⟨x',hx,he⟩:=map_some hc;cases he;intro b k cs;obtain⟨e,a',w',hq,harr⟩:=h c1 hx hm a w hr b k cs;exact⟨e,a',w',hq,.of_steps (.one step_loop) harr⟩
 case region id ops draw=>
  rcases zaj hcode with ⟨_,l,_,h1⟩ | ⟨_,l,_,⟨n,_,h1⟩ | ⟨_,h1⟩ | ⟨n,_,h1⟩ | h1⟩<;>cases h1
 all_goals simp[Yd]at hc
theorem LWp.mono{cx:Cx}{c:AC}{Q Q':Exit→St→Prop}{st:St}(h:LWp cx c Q st)(hq:∀ex st,Q ex st→Q' ex st):LWp cx c Q' st:=
 fun code hc hm a w hr b k cs=>let ⟨e,a',w',⟨st',h1,h2⟩,h3⟩:=h code hc hm a w hr b k cs;⟨e,a',w',⟨st',hq _ _ h1,h2⟩,h3⟩
def Is(e:Ex)(st':St):Exit→St→Prop:=fun ex s=>ex=e.out∧s=st'
theorem zkk{ν:Nat→FuncId}{τ:Nat→Nat}(op:AOp):(Zd1 ν τ op).writes=op.writes:=by
 cases op<;>first | rfl | (rename_i k xs;cases k<;>rfl)
theorem zvd(j:Nat):Zjx j≠"()":=by
 unfold Zjx
 grind
theorem zkl{T:Tbl}{k:Nat}{nm:String}{u:Nat}(h:(nm,u)∈Zb9 T k):nm≠"()":=by
 grind[Zb9,Zhz,zvd]
structure GoodO (P:Program) (ν:Nat→FuncId) (T:Tbl) (O:Orc):Prop where
 meth:∀k nm u,(nm,u)∈Zb9 T k→Zdx P (Zu T k) nm=some (ν u)
 fnn:∀k u,Zg8 T k=some u→Zu T k=ν u
 pure:∀u af xs r h,T u=some af→af.lent=none→O.call u xs []=some (r,h)→Zad P (ν u) xs (·=r)
 lent:∀u af ms xs hb r hb',T u=some af→af.lent=some ms→O.call u xs hb=some (r,hb')→Zdp P (ν u) xs hb (hb.length+1) (fun r1 h1 c1=>r1=r∧h1=hb'∧c1=hb.length+hb'.length+2)
 loop:∀k c st e st',O.loop k c st=some (e,st')→∀cx:Cx,cx.P=P→cx.clk0=k+1→LWp cx (er ν (Zu T) c) (Is e st') st
section
variable{P:Program}{ν:Nat→FuncId}{T:Tbl}{O:Orc}
theorem zhn(q:BId→Bool)(h:Heap)(b:BId):(h.filter fun p=>!q p.1).lookup b=if q b=true then none else h.lookup b:=by
 induction h with
 | nil=>simp
 | cons p h ih=>
  grind
theorem zc8(hO:GoodO P ν T O){u:Nat}{xs:List AV}{d:Option Nat}{st st':St}{K:St→Prop}(h:Zd O T u xs d st=some st')(hK:K st') :
  Zhh P (ν u) xs st.heap (fun r h=>K ⟨Zm st.env d r,h,st.clk⟩)∨Zhi P (ν u) xs st.heap st.clk (fun r h c=>K ⟨Zm st.env d r,h,c⟩):=by
 unfold Zd at h;split at h
 ·cases h
 rename_i af hT;split at h
 ·rename_i hl;obtain⟨ys,h1,h2⟩:=bind_some h;obtain⟨r,h3,h4⟩:=bind_some h2;refine .inl ⟨ys,(·=r.1),h1,(hO.pure u af _ r.1 r.2 hT hl h3).wk,?_⟩
  grind
 ·rename_i ms hl;obtain⟨ys,h1,h2⟩:=bind_some h;simp only at h2;generalize hh1:Zj (Za4 ms xs) st.heap=h1' at *
  generalize hll:Zc0 h1' 40 (Zcj ms xs) []=l at *
  generalize hhp:Zdr h1' l=hp at *
  split at h2
  ·rename_i hc;obtain⟨r,h3,h4⟩:=bind_some h2;generalize hhb:(r.2.map fun p=>(Za2 l (d.getD 0) p.1,Zaf true (Za2 l (d.getD 0)) (Zbd hp st.clk) p.2))=hb' at *
   split at h4
   ·rename_i hchk;cases h4;simp only[Yj,decide_eq_true_eq]at hchk;obtain⟨⟨k2,k3⟩,k4⟩:=hchk;have hmem:∀b bx,hp.lookup b=some bx→h1'.lookup b=some bx:=by
     intro b bx hb;have:=zbc _ _ _ hb;rw[←hhp]at this;exact zeo this
    have hin:∀b,(hp.lookup b).isSome=true↔b∈l:=by
     intro b;constructor
     ·intro hb;obtain⟨bx,hb⟩:=Ybe.1 hb;rw[←hc.1];exact Yz.2 ⟨_,zbc _ _ _ hb,rfl⟩
     ·intro hb;rw[←hc.1]at hb;obtain⟨p,hp1,rfl⟩:=Yz.1 hb;obtain⟨x,hx⟩:=zfc _ _ hp1
      grind
    have hlk:∀id,(h1'.filter fun p=>!(l.contains p.1 || (hb'.map (·.1)).contains p.1)).lookup id=if (l.contains id || (hb'.map (·.1)).contains id)=true then none else h1'.lookup id:=
     fun id=>zhn (fun b=>l.contains b || (hb'.map (·.1)).contains b) h1' id
    refine .inr ⟨ms,ys,h1,hp,h1'.filter (fun p=>!(l.contains p.1 || (hb'.map (·.1)).contains p.1)),_,⟨fun id bx hid=>?_,fun id bx hid=>?_⟩,fun id hid=>?_,Zdp.rl hc.1 hc.2 (by rw[hhb];omega) (by
     have:=hO.lent u af ms _ _ r.1 r.2 hT hl h3;rw[Ybr]at this;exact this),?_⟩
    ·grind
    ·grind
    ·rw[hlk,if_pos (by grind)]
    ·rintro r' h' c' hle ⟨rfl,rfl,rfl⟩
     rw[hhb]
     grind
   grind
  grind
theorem zry(hO:GoodO P ν T O){op:AOp}{d:Option Nat}{st st':St}{K:St→Prop}(h:opX O T op d st=some st')(hK:K st'):opK P (Zd1 ν (Zu T) op) d st K:=by
 cases op<;>simp only[opX]at h
 case call u args=>exact zc8 hO h hK
 case ifc k x=>
  cases h;exact⟨_,rfl,hK⟩
 case inv nm k u r args=>
  split at h
  ·rename_i t y hy;split at h
   ·rename_i hc;obtain⟨rfl,hm⟩:=hc;exact .inl ⟨if_neg (zkl hm),_,y,_,hy,hO.meth k nm u hm,zc8 hO h hK⟩
   grind
  ·rename_i f x hy;split at h
   ·rename_i hc;obtain⟨rfl,rfl,hm⟩:=hc;have hc:=zc8 hO h hK;rw[←hO.fnn k u hm]at hc;exact .inr (.inl ⟨rfl,_,x,hy,hc⟩)
   grind
  ·rename_i f id g z i o hy;split at h
   ·rename_i hc;obtain⟨rfl,rfl,hm⟩:=hc;have hc:=zc8 hO h hK;rw[←hO.fnn k u hm]at hc;exact .inr (.inr ⟨rfl,_,id,g,z,i,o,hy,hc⟩)
   grind
  grind
 case xop k xs=>
  cases k
  all_goals
   obtain⟨q,h1,rfl⟩:=map_some h;exact⟨q,h1,hK⟩
 all_goals
  obtain⟨q,h1,rfl⟩:=map_some h;exact⟨q,h1,hK⟩
theorem zkm(hO:GoodO P ν T O){o:AO}{st st':St}{K:St→Prop}(h:Zf7 O T o st=some st')(hK:K st'):Zgp P (Zal ν (Zu T) o) st K:=by
 grind[Zf7,Zgp,Zal,zry,gX]
theorem zds(hO:GoodO P ν T O):∀(l:List AO) (st st':St) (K:St→Prop),Zd6 O T l st=some st'→K st'→Zd5 P (l.map (Zal ν (Zu T))) st K
 | [],st,st',K,h,hK=>by cases h;exact hK
 | o::l,st,st',K,h,hK=>by
  obtain⟨s1,h1,h2⟩:=bind_some h;exact zkm hO h1 (zds hO l s1 st' K h2 hK)
theorem zkn(hO:GoodO P ν T O){op:AOp}{e:Env}{h:Heap}{older:List Heap}{x:AV}{K:AV→Prop}(hx:opD O T op e h older=some x)(hK:K x):opQ P (Zd1 ν (Zu T) op) e h older K:=by
 by_cases hap:∃z x0 y,op=.app z x0 y
 ·obtain⟨z,x0,y,rfl⟩:=hap;by_cases hc:x0=.c (.sl [] .nl)
  ·subst hc;exact⟨x,hx,hK⟩
  ·exfalso;cases x0 with
   | t n=>simp[opD,Zg]at hx
   | c a=>
    cases a
    case sl els f=>
     cases els with
     | nil=>cases f<;>first | exact hc rfl | simp[opD,Zg]at hx
     | cons r l=>simp[opD,Zg]at hx
    all_goals simp[opD,Zg]at hx
 cases op<;>(try exact absurd ⟨_,_,_,rfl⟩ hap)<;>simp only[opD]at hx
 case call u args=>
  split at hx
  ·grind
  rename_i af hT;split at hx
  ·rename_i hc;simp only[Yj]at hc;obtain⟨r,h1,rfl⟩:=map_some hx;exact⟨_,⟨zc6 hc.2,fun hf=>by grind⟩,r.1,(hO.pure u af _ r.1 r.2 hT (by simp_all) h1).wk,hK⟩
  grind
 case ifc k x=>
  cases hx;exact⟨_,rfl,trivial,hK⟩
 case inv nm k u r args=>
  split at hx
  ·rename_i t y hy;split at hx
   ·rename_i hc0;obtain⟨rfl,hm⟩:=hc0;split at hx
    ·grind
    rename_i af hT;split at hx
    ·rename_i hc;simp only[Yj]at hc;obtain⟨r,h1,rfl⟩:=map_some hx;exact⟨if_neg (zkl hm),_,y,_,hy,hO.meth k nm u hm,hc.2,r.1,(hO.pure u af _ r.1 r.2 hT (by simp_all) h1).wk,hK⟩
    grind
   grind
  grind
 case bsl z zs len ps=>
  split at hx
  ·rename_i hc;obtain⟨q,h1,rfl⟩:=map_some hx;exact⟨hc,q,h1,hK⟩
  grind
 case xop k xs=>
  simp_all
 all_goals
  obtain⟨q,h1,h2⟩:=bind_some hx;split at h2
  ·rename_i hc;cases h2;refine⟨_,h1,?_,hK⟩;rcases zpb hc with hc | hc
   ·simp only[Zd1];rw[hc]
    trivial
   ·simp only[Zd1];split
    ·trivial
    ·exact hc
  ·cases h2
theorem zve{o:AO}{e:Env}{h':Heap}{x:AV}(hf:o.op.free=false)(hw:o.op.writes=false)(hg:o.guard=none∨∃t want,o.guard=some (t,want)∧e.get t=.b want)(hs:Zgu o.op e.get h'=some x):QF P h' (Zal ν (Zu T) o) e.get x:=by
 have hq:QOp P (Zd1 ν (Zu T) o.op) e.get h' x:=by
  obtain⟨d,g,op⟩:=o;by_cases hap:∃z x0 y,op=.app z x0 y
  ·obtain⟨z,x0,y,rfl⟩:=hap;by_cases hc:x0=.c (.sl [] .nl)
   all_goals simp_all
  cases op<;>first | exact absurd ⟨_,_,_,rfl⟩ hap | exact hs | (cases hf;done) | (cases hw;done) | (cases hs)
 grind[QF,Zal]
theorem zyb{o:AO}{e:Env}{h':Heap}(hg:∃t want,o.guard=some (t,want)∧(e.get t=.b (!want)∨e.get t=.tup [])):QF P h' (Zal ν (Zu T) o) e.get (.tup []):=by
 grind[QF,Zal]
theorem zvf{o:AO}{e:Env}{h h':Heap}{x:AV}(hf:o.op.freeE e.get=true)(hq:QF P h (Zal ν (Zu T) o) e.get x):QF P h' (Zal ν (Zu T) o) e.get x:=
 zq0 (o:=Zal ν (Zu T) o) (by show (Zd1 ν (Zu T) o.op).freeE e.get=true;cases hop:o.op<;>rw[hop]at hf<;>first | rfl | exact hf | cases hf) h h' hq
theorem zvg{o:AO}{e:Env}{h:Heap}{older:List Heap}{r:AV×Bool}(hx:qX O T o e h older=some r)(hr:r.2=true)(hf:o.op.free=true):o.op.freeE e.get=true:=by
 cases hop:o.op
 case call u args=>
  have key:∀x,opD O T (.call u args) e h older=some x→(args.map (ev e.get)).all noRef=true:=by
   grind[opD]
  unfold qX at hx;rw[hop]at hx;split at hx
  ·obtain⟨x,h1,_⟩:=map_some hx;exact key x h1
  ·split at hx
   ·split at hx
    ·obtain⟨x,h1,_⟩:=map_some hx;exact key x h1
    grind
   all_goals grind
 all_goals (rw[hop]at hf;exact hf)
theorem ziy(hO:GoodO P ν T O){o:AO}{e:Env}{h:Heap}{older:List Heap}{r:AV×Bool}{K:AV→Prop}(hx:qX O T o e h older=some r)(hK:K r.1) :
  qK P (Zal ν (Zu T) o) e h older K∧(r.2=true→(o.guard=none∨∃t want,o.guard=some (t,want)∧e.get t=.b want))∧(r.2=false→r.1=.tup []∧∃t want,o.guard=some (t,want)∧(e.get t=.b (!want)∨e.get t=.tup [])):=by
 unfold qX at hx;unfold qK;simp only[Zal];cases hg:o.guard with
 | none=>
  rw[hg]at hx;obtain⟨x,h1,rfl⟩:=map_some hx
  grind[zkn]
 | some p=>
  obtain⟨t,want⟩:=p;rw[hg]at hx;simp only at hx ⊢;cases hx2:e.get t with
  | b v=>
   rw[hx2]at hx;simp only at hx ⊢;split at hx
   ·rename_i hv;obtain⟨x,h1,rfl⟩:=map_some hx
    grind[zkn]
   ·rename_i hv;rw[if_neg hv];cases hx;refine⟨hK,?_,?_⟩
    ·grind
    intro _;refine⟨rfl,t,want,rfl,.inl ?_⟩;cases v<;>cases want<;>simp_all
  | tup l=>
   grind
  | _=>rw[hx2]at hx;simp at hx
theorem zmf{pend:Zb6}{h:Heap}(hp:Zck pend h=true):∀p∈pend,0<p.1→Zgu p.2.1 p.2.2.1.get h=some p.2.2.2:=by
 grind[Zck]
def Zge(pendX:Zb6)(pend:Zju):Prop:=∀q∈pend,(∀h',q.2 h')∨q.1=0∨∃p∈pendX,p.1=q.1∧∀h',Zgu p.2.1 p.2.2.1.get h'=some p.2.2.2→q.2 h'
theorem Zge.next{pendX:Zb6}{pend:Zju}(h:Zge pendX pend):Zge (pendX.map fun p=>(p.1-1,p.2)) (pend.map fun p=>(p.1-1,p.2)):=by
 intro q hq;obtain⟨q0,h1,rfl⟩:=Yz.1 hq;rcases h q0 h1 with h2 | h2 | ⟨p,h2,h3,h4⟩
 ·grind
 ·omega
 ·exact .inr (.inr ⟨_,Yz.2 ⟨p,h2,rfl⟩,by omega,h4⟩)
theorem zc9(hO:GoodO P ν T O):∀(l:List DO) (e:Env) (h:Heap) (clk:Nat) (older:List Heap) (pendX:Zb6) (pend:Zju) (st':St) (K:St→Prop),Zge pendX pend→Zb0 O T l e h clk older pendX=some st'→K st'→Zf6 P (l.map (Zj1 ν (Zu T))) e h clk older pend K
 | [],e,h,clk,older,pendX,pend,st',K,hpr,hx,hK=>by cases hx;exact hK
 | o::l,e,h,clk,older,pendX,pend,st',K,hpr,hx,hK=>by
  simp only[Zb0]at hx;simp only[Yv,Zf6];have hw:(Zj1 ν (Zu T) o).ao.op.writes=o.ao.op.writes:=by
   exact zkk _
  rw[hw];cases ho:o.ao.op.writes with
  | true=>
   rw[ho]at hx;simp only at hx ⊢;split at hx
   ·rename_i hg;obtain⟨q,h1,h2⟩:=bind_some hx;split at h2
    ·rename_i hpd;have e1:Zd1 ν (Zu T) o.ao.op=o.ao.op:=by
      cases hop:o.ao.op<;>rw[hop]at ho<;>first | rfl | (simp[AOp.writes]at ho;done) | (rename_i k xs;cases k<;>first | rfl | simp_all)
     refine⟨by show o.ao.guard=none;simpa using hg,q,?_,fun p hp h0=>?_,zc9 hO l _ _ _ _ _ _ st' K hpr.next h2 hK⟩
     ·show stepW (Zd1 ν (Zu T) o.ao.op) o.ao.dst e.get h clk=some q
      grind
     ·rcases hpr p hp with h3 | h3 | ⟨p',h3,h4,h5⟩
      ·grind
      ·omega
      ·exact h5 _ (zmf hpd p' h3 (by omega))
    grind
   grind
  | false=>
   rw[ho]at hx;simp only at hx ⊢;split at hx
   rotate_left
   ·rename_i p hrow;obtain⟨x,h1,h2⟩:=bind_some hx;obtain⟨hg,args,hop,hfr,hold⟩:=zkd hrow;unfold Zed at h1;split at h1
    ·grind
    rename_i af hT;split at h1
    rotate_left
    ·grind
    obtain⟨r,h3,rfl⟩:=map_some h1;have hcall:Zad P (ν p.1) p.2 (·=r.1):=(hO.pure p.1 af _ r.1 r.2 hT (by simp_all) h3).wk;have hao:Zal ν (Zu T) o.ao=⟨o.ao.dst,none,.call (ν p.1) args⟩:=by unfold Zal;rw[hg,hop];rfl
    show qK P (Zal ν (Zu T) o.ao) e h (older.take (older.length-o.lo)) _;rw[hao];refine⟨p.2,⟨hfr,fun _=>hold⟩,r.1,hcall,?_⟩;refine zc9 hO l _ _ _ _ _ _ st' K ?_ h2 hK;intro q hq;rcases Yy.1 hq with rfl | hq
    ·by_cases hn:older.length<o.hi
     ·refine .inr (.inr ⟨(o.hi-older.length,o.ao.op,e,.tup p.2),?_,rfl,fun h' hs=>?_⟩)
      ·grind
      ·simp only[hop,Zgu]at hs;obtain⟨zs,h6,h7⟩:=map_some hs;cases h7;show QF P h' (Zal ν (Zu T) o.ao) e.get r.1;rw[hao];exact⟨_,h6,hcall⟩
     ·exact .inr (.inl (by show o.hi-older.length=0;omega))
    ·rcases hpr q hq with h3 | h3 | ⟨p',h3,h4,h5⟩
     all_goals grind
   obtain⟨r,h1,h2⟩:=bind_some hx;have key:=fun(K':AV→Prop) (hk:K' r.1)=>ziy hO (K:=K') h1 hk;refine(key _ ?_).1;refine zc9 hO l _ _ _ _ _ _ st' K ?_ h2 hK;obtain⟨_,k1,k2⟩:=key (fun _=>True) trivial;intro q hq;rcases Yy.1 hq with rfl | hq
   ·cases hr2:r.2 with
    | false=>
     obtain⟨h3,h4⟩:=k2 hr2;exact .inl fun h'=>by
      rw[h3];exact zyb h4
    | true=>
     cases hf:o.ao.op.free with
     | true=>
      obtain⟨hqk,_⟩:=key (fun x=>x=r.1) rfl;obtain⟨x,hq1,_,hxr⟩:=zuu (o:=Zal ν (Zu T) o.ao) (by rw[←ho];exact hw) hqk;subst hxr;exact .inl fun h'=>zvf (zvg h1 hr2 hf) hq1
     | false=>
      by_cases hn:older.length<o.hi
      ·refine .inr (.inr ⟨(o.hi-older.length,o.ao.op,e,r.1),?_,rfl,fun h' hs=>zve hf ho (k1 hr2) hs⟩)
       grind[Zem]
      ·exact .inr (.inl (by show o.hi-older.length=0;omega))
   ·rcases hpr q hq with h3 | h3 | ⟨p,h3,h4,h5⟩
    ·grind
    ·omega
    grind[Zem]
theorem zgy(hO:GoodO P ν T O)(tl:List AO):∀(l:List AO) (e:Env) (h:Heap) (clk:Nat) (st':St) (K:St→Prop),Zds O T tl l e h clk=some st'→K st'→Zfo P (tl.map (Zal ν (Zu T))) (l.map (Zal ν (Zu T))) e h clk K
 | [],e,h,clk,st',K,hx,hK=>zds hO tl _ st' K hx hK
 | o::l,e,h,clk,st',K,hx,hK=>by
  obtain⟨r,h1,h2⟩:=bind_some hx;exact(ziy hO (K:=fun x=>Zfo P (tl.map (Zal ν (Zu T))) (l.map (Zal ν (Zu T))) (Zm e o.dst x) h clk K) h1 (zgy hO tl l _ h clk st' K h2 hK)).1
theorem zfd{c0:Nat}{op:AOp}{e:Env}{l:List Nat}{ν:Nat→FuncId}{τ:Nat→Nat}(h:Zhk c0 op e l=true):∀g∈l,Zff c0 (Zd1 ν τ op) e.get g:=by
 intro g hg;have h1:=Yh.1 h g hg;simp only[Ya2,decide_eq_true_eq,List.any_eq_true,Yca]at h1;rcases h1 with h1 | ⟨t,ht,h2⟩
 ·exact .inl h1
 ·refine .inr ⟨t,?_,h2⟩;cases op<;>first | exact ht | (cases ht;done) | (rename_i k xs;cases k<;>first | exact ht | cases ht)
theorem zmg(hO:GoodO P ν T O){u:Nat}{xs:List AV}{d clk:Nat}{q:AV×Heap×Nat}(h:Zew O T u xs d clk=some q):∃m,q.2.2=clk+m∧Zjv P (ν u) xs clk q.1 q.2.1 m:=by
 unfold Zew at h;split at h
 ·cases h
 rename_i af hT;split at h
 ·cases h
 rename_i ms hl;split at h
 ·rename_i hn;obtain⟨r,h3,h4⟩:=bind_some h;simp only at h4;split at h4
  ·rename_i hc;cases h4;obtain⟨hnd,hg1,hg2⟩:=hc;refine⟨r.2.length+2,rfl,hn,?_,hnd,fun g hg=>?_,fun p hp g hg=>?_⟩
   ·have hA:=hO.lent u af ms _ _ r.1 r.2 hT hl h3;have:=Zdp.rl (ys:=xs) (hp:=[]) (clk:=clk) (d:=d) (ex:=af.exact) (l:=[]) (r0:=r.1) (hb':=r.2) (c':=0+r.2.length+2) rfl List.nodup_nil (by grind) (by simpa using hA)
    grind
   ·have:=Yh.1 hg1 g hg
    grind
   ·obtain⟨hk,rr,hr,y,hy,hgy⟩:=hg;have h5:=Yh.1 hg2 p hp;simp only[hk,if_true]at h5;have h6:=Yh.1 (Yh.1 h5 rr hr) y hy;have:=Yh.1 h6 g hgy
    grind
  grind
 grind
theorem zh3{op:AOp}{ua:Nat×List Opd}(h:op.lentN=some ua):op=.call ua.1 ua.2:=by
 cases op<;>simp only[AOp.lentN]at h<;>try cases h
 grind
theorem zep(q:BId→Bool):∀(h:Heap) (id:BId),(h.filter fun p=>q p.1).lookup id=if q id then h.lookup id else none
 | [],id=>by grind
 | (c,x)::h,id=>by
  have ih:=zep q h id
  grind
theorem zeb(ids:List BId)(h:Heap):Zc5 (Zen ids h) h:=by
 intro id bx hb;unfold Zen at hb;split at hb
 ·omega
 ·rw[zep fun b=>!ids.contains b]at hb
  grind
theorem zrz{z d g g' z' off n:Nat}{x' y:Opd}{ρ:Nat→AV}{x:AV}{hp:Heap}{c:Nat}{b:BId}{o:Box}(hv:ev ρ x'=.bs b g' z' off n)(h:stepW (.app z x' y) (some d) ρ [(b,o)] g=some (x,hp,c)) :
  ∃bx,hp=[(b,bx),(b,o)]∧c=g+1∧bx.gen=g:=by
 obtain⟨ys,_,h1⟩:=bind_some h;rw[hv]at h1;obtain⟨b0,_,h2⟩:=bind_some h1
 grind
def Inv(X h:Heap)(c0:Nat):Prop:=∀id o,X.lookup id=some o→h.lookup id=some o∨∃o',h.lookup id=some o'∧c0≤o'.gen
theorem zbu(hO:GoodO P ν T O)(tl:List AO)(h0 X:Heap)(c0:Nat)(hX0:Zc5 h0 X):∀(l:List AO) (e:Env) (h:Heap) (clk:Nat) (st':St) (K:St→Prop),Zc5 h0 h→c0≤clk→Inv X h c0→Zbc O T tl h0 c0 X l e h clk=some st'→K st'→Zbr P h0 c0 X (fun e h clk=>Zd5 P (tl.map (Zal ν (Zu T))) ⟨e,h,clk⟩ K) (l.map (Zal ν (Zu T))) e h clk
 | [],e,h,clk,st',K,_,_,_,hx,hK=>zds hO tl _ st' K hx hK
 | o::l,e,h,clk,st',K,hsb,hck,hinv,hx,hK=>by
  simp only[Zbc]at hx;simp only[Yv,Zbr];have hmk:(Zal ν (Zu T) o).op.maker=o.op.maker:=by
   obtain⟨d,g,op⟩:=o;cases op<;>first | rfl | (rename_i k xs;cases k<;>rfl)
  have hsE:(Zal ν (Zu T) o).op.isStore=o.op.isStore:=by
   obtain⟨d,g,op⟩:=o;cases op<;>first | rfl | (rename_i k xs;cases k<;>rfl)
  have hadd:∀(B:Heap),(∀p∈B,h.lookup p.1=none)→Zc5 h0 (B++h):=by
   intro B hB id bx hid;have h1:=hsb id bx hid
   grind
  have hiadd:∀(B:Heap),(∀p∈B,h.lookup p.1=none)→Inv X (B++h) c0:=by
   intro B hB id o ho;have hn:B.lookup id=none:=by
    cases hl:B.lookup id with
    | none=>rfl
    | some y=>
     rcases hinv id o ho with h2 | ⟨o',h2,_⟩<;>(grind)
   rw[zb9,hn];simpa using hinv id o ho
  have hXn:∀id,h.lookup id=none→X.lookup id=none:=by
   intro id hid;cases hl:X.lookup id with
   | none=>rfl
   | some o=>rcases hinv id o hl with h2 | ⟨o',h2,_⟩<;>(grind)
  have h0n:∀id,X.lookup id=none→h0.lookup id=none:=by
   intro id hid;cases hl:h0.lookup id with
   | none=>rfl
   | some o=>have:=hX0 _ _ hl;grind
  rw[hmk,hsE];cases hm:o.op.maker with
  | true=>
   rw[hm]at hx;simp only at hx ⊢;split at hx
   ·rename_i d hg hd;have hop:Zd1 ν (Zu T) o.op=o.op:=by
     obtain⟨d,g,op⟩:=o;cases op<;>first | rfl | (cases hm;done) | (rename_i k xs;cases k<;>first | rfl | cases hm)
    split at hx
    rotate_left
    ·rename_i p how;obtain⟨q,h1,h2⟩:=bind_some hx;split at h2
     ·rename_i hc;obtain⟨x,hp,c'⟩:=q;obtain⟨b,bo⟩:=p;obtain⟨z,x',y,g',z',off,n,hopa,hev⟩:∃z x' y g' z' off n,o.op=.app z x' y∧ev e.get x'=.bs b g' z' off n:=by
       unfold Zh1 at how;split at how
       ·rename_i z x' y hoa;cases hv:ev e.get x'<;>rw[hv]at how<;>simp only[Zje]at how<;>try (cases how;done)
        unfold Zjz at how
        grind
       grind
      obtain⟨hb1,⟨ox,hb2⟩,hb3,hb4⟩:h0.lookup b=none∧(∃ox,X.lookup b=some ox)∧h.lookup b=some bo∧bo.gen<c0:=by
       rw[hopa]at how;simp only[Zh1,hev,Zje]at how;unfold Zjz at how
       grind
      have hbx:X.lookup b=some bo:=by
       rcases hinv b ox hb2 with h3 | ⟨o',h3,h4⟩
       all_goals grind
      obtain⟨bx,rfl,rfl,hbg⟩:=zrz hev (by rw[hopa]at h1;exact h1);simp only[List.take_succ_cons,Ybo]at h2 hc;refine⟨hg,d,x,b,bx,some bo,hd,by rw[show (Zal ν (Zu T) o).op=o.op from hop];exact h1,hb3,hbx,hb1,fun o2 ho2=>by grind,fun g hgb=>?_,zbu hO tl h0 X c0 hX0 l _ _ _ st' K (fun id y hy=>?_) (by omega) (fun id o2 ho2=>?_) h2 hK⟩
      ·obtain⟨hk,r,hr,y,hy,hgy⟩:=hgb;simp only[Zh0,Ybx,Ydq,Ydz,hk,if_true,Yh]at hc;exact zfd (hc r hr y hy) g hgy
      ·have hne:(id == b)=false:=by
        grind
       rw[Yaj,hne];exact hsb id y hy
      ·rw[Yaj];by_cases hi:id=b
       ·grind
       ·have hne:(id == b)=false:=by grind
        rw[hne];exact hinv id o2 ho2
     grind
    obtain⟨q,h1,h2⟩:=bind_some hx;split at h2
    ·rename_i hc;simp only[Yj]at hc;obtain⟨x,hp,c'⟩:=q;obtain⟨bx,rfl,rfl⟩:∃bx,hp=[(.loc d,bx)]∧c'=clk+1:=zl4 hm h1;have hln:h.lookup (.loc d)=none:=Ycr.1 hc.1;have hB1:∀p∈[((.loc d:BId),bx)],h.lookup p.1=none:=fun p hp=>by grind
     refine⟨hg,d,x,.loc d,bx,none,hd,by rw[show (Zal ν (Zu T) o).op=o.op from hop];exact h1,hln,hXn _ hln,h0n _ (hXn _ hln),fun o2 ho2=>(by grind),fun g hgb=>?_,zbu hO tl h0 X c0 hX0 l _ _ _ st' K (hadd [(.loc d,bx)] hB1) (by omega) (hiadd _ hB1) h2 hK⟩;obtain⟨hk,r,hr,y,hy,hgy⟩:=hgb;have h3:=hc.2;simp only[Zh0,Ybx,Ydq,Ydz,hk,if_true,Yh]at h3;exact zfd (h3 r hr y hy) g hgy
    grind
   grind
  | false=>
   rw[hm]at hx;cases hst:o.op.isStore with
   | true=>
    rw[hst]at hx;simp only at hx ⊢;split at hx
    ·rename_i hg hd;obtain⟨q,h1,h2⟩:=bind_some hx;split at h2
     ·rename_i hfr;obtain⟨dd,gg,op⟩:=o;subst hg hd;cases op<;>try (cases hst;done)
      rename_i n x v;obtain⟨h',e1,rfl⟩:=map_some h1;refine⟨rfl,rfl,h',?_,?_,zbu hO tl h0 X c0 hX0 l e h' clk st' K ?_ hck ?_ h2 hK⟩
      ·show stepW (.store n x v) none e.get h clk=_;simp only[stepW,e1]
       rfl
      rotate_left 2
      ·intro id bx hid;simp only[Zfs]at hfr;unfold Zcv at e1;split at e1
       ·rename_i id2 g z i o hx2;rw[hx2]at hfr;obtain⟨bx2,_,e2⟩:=bind_some e1;obtain⟨r2,_,e3⟩:=bind_some e2;obtain⟨cs,_,e4⟩:=bind_some e3;split at e4
        ·cases e4;have hne:(id == id2)=false:=by
          grind
         simp only[Yaj,hne];exact hinv id bx hid
        grind
       grind
      all_goals
       intro id bx hid;have h3:=hsb id bx hid;replace hid:=hX0 id bx hid;simp only[Zfs]at hfr;unfold Zcv at e1;split at e1
       ·rename_i id2 g z i o hx2;rw[hx2]at hfr;simp only[Ycr]at hfr;obtain⟨bx2,_,e2⟩:=bind_some e1;obtain⟨r2,_,e3⟩:=bind_some e2;obtain⟨cs,_,e4⟩:=bind_some e3
        grind
       grind
     grind
    grind
   | false=>
   rw[hst]at hx;cases hlN:o.op.lentN with
   | some ua=>
    rw[hlN]at hx;simp only at hx;split at hx
    ·rename_i d hg hd;obtain⟨q,h1,h2⟩:=bind_some hx;split at h2
     ·rename_i hfr;obtain⟨m,hm2,hcb⟩:=zmg hO h1;obtain⟨dd,gg,op⟩:=o;subst hg hd;have hop:=zh3 hlN;subst hop;rw[hm2]at h2;exact .inr ⟨rfl,ν ua.1,ua.2,d,q.1,q.2.1,m,rfl,rfl,hcb,fun p hp=>by simpa using Yh.1 hfr p hp,zbu hO tl h0 X c0 hX0 l _ _ _ st' K (hadd _ fun p hp=>by simpa using Yh.1 hfr p hp) (by omega) (hiadd _ fun p hp=>by simpa using Yh.1 hfr p hp) h2 hK⟩
     grind
    grind
   | none=>
   rw[hlN]at hx;obtain⟨x,h1,h2⟩:=bind_some hx;split at h2
   ·rename_i hc;refine .inl ?_;exact(ziy hO (K:=fun x=>(∀g∈gnA x,Zff c0 (Zal ν (Zu T) o).op e.get g)∧Zbr P h0 c0 X (fun e h clk=>Zd5 P (tl.map (Zal ν (Zu T))) ⟨e,h,clk⟩ K) (l.map (Zal ν (Zu T))) (Zm e o.dst x) h clk) h1 ⟨zfd hc,zbu hO tl h0 X c0 hX0 l _ h clk st' K hsb hck hinv h2 hK⟩).1
   grind
theorem zr0{cx:Cx}{c:AC}{st:St}{id:Nat}{o:Option (Ex×St)}{e:Ex}{st':St}(h0:∀e1 s1,o=some (e1,s1)→AWp cx c (Is e1 s1) st)
  (h:(o.bind fun r=>match r.1 with | .x j=>if j=id then some (Ex.n,r.2) else some r | _=>some r)=some (e,st')):AWp cx (.block id c) (Is e st') st:=by
 obtain⟨⟨e1,s1⟩,h1,h2⟩:=bind_some h;refine zjz ((h0 e1 s1 h1).mono ?_)
 rintro ex s ⟨rfl,rfl⟩
 cases e1 with
 | n=>cases h2;exact⟨rfl,rfl⟩
 | x j=>
  simp only at h2;show Zdw id _ (.exit j) _;simp only[Zdw];split at h2
  ·rename_i hj;rw[if_pos hj];cases h2;exact⟨rfl,rfl⟩
  ·rename_i hj;rw[if_neg hj];cases h2;exact⟨rfl,rfl⟩
 | r=>cases h2;exact⟨rfl,rfl⟩
 | g l=>cases h2;exact⟨rfl,rfl⟩
theorem zvh{k:Nat}{cx:Cx}(hk:cx.clk0=k+1){c:AC}{st:St}{g:Gh}{o:Option (Ex×St)}{e:Ex}{st':St}(h0:∀e1 s1,o=some (e1,s1)→AWp cx c (Is e1 s1) st)
  (h:(o.bind fun r=>match r.1 with | .n=>(ghS k g r.2).map fun s=>(Ex.n,s) | _=>some r)=some (e,st')):AWp cx c (Is e st') st:=by
 obtain⟨⟨e1,s1⟩,h1,h2⟩:=bind_some h;intro code hc hm a w hr;refine wp_mono (h0 e1 s1 h1 code hc hm a w hr) ?_
 rintro ex a' w' ⟨s,⟨rfl,rfl⟩,hr'⟩
 cases e1 with
 | n=>
  obtain⟨s2,h3,h4⟩:=map_some h2;cases h4;exact⟨_,⟨rfl,rfl⟩,hr'.gh hk h3⟩
 | x id=>cases h2;exact⟨_,⟨rfl,rfl⟩,hr'⟩
 | r=>cases h2;exact⟨_,⟨rfl,rfl⟩,hr'⟩
 | g l=>cases h2;exact⟨_,⟨rfl,rfl⟩,hr'⟩
theorem za2(hO:GoodO P ν T O){k:Nat}{cx:Cx}(hP:cx.P=P)(hk:cx.clk0=k+1):∀(c:AX) (st:St) (e:Ex) (st':St),evX O T k c st=some (e,st')→AWp cx (er ν (Zu T) c) (Is e st') st
 | .skip,st,e,st',h=>by cases h;exact zuz ⟨rfl,rfl⟩
 | .reg l,st,e,st',h=>by
  obtain⟨s,h1,h2⟩:=map_some h;cases h2;refine zx2 ?_;rw[hP];exact zds hO l st st' _ h1 ⟨rfl,rfl⟩
 | .draw l,st,e,st',h=>by
  obtain⟨s,h1,h2⟩:=map_some h;cases h2;refine zu0 ?_;rw[hP];exact zc9 hO l _ _ _ _ _ _ st' _ (fun q hq=>by simp at hq) h1 ⟨rfl,rfl⟩
 | .drawT hd tl,st,e,st',h=>by
  obtain⟨s,h1,h2⟩:=map_some h;cases h2;refine zq6 ?_;rw[hP];exact zgy hO tl hd _ _ _ st' _ h1 ⟨rfl,rfl⟩
 | .drawM hd tl,st,e,st',h=>by
  obtain⟨s,h1,h2⟩:=map_some h;cases h2;refine zq7 (zeb (Zee hd st.env) st.heap) ?_;rw[hP];exact zbu hO tl _ _ _ (zeb _ _) hd _ _ _ st' _ (zeb _ _) (Yg _) (fun _ _ h=>.inl h) h1 ⟨rfl,rfl⟩
 | .bad,st,e,st',h=>by cases h
 | .prim f,st,e,st',h=>by cases h
 | .seq a b,st,e,st',h=>by
  obtain⟨⟨e1,s1⟩,h1,h2⟩:=bind_some h;refine zx3 ((za2 hO hP hk a st e1 s1 h1).mono ?_)
  rintro ex s ⟨rfl,rfl⟩
  cases e1 with
  | n=>exact za2 hO hP hk b _ e st' h2
  | x id=>cases h2;exact⟨rfl,rfl⟩
  | r=>cases h2;exact⟨rfl,rfl⟩
  | g l=>cases h2;exact⟨rfl,rfl⟩
 | .cond c x y,st,e,st',h=>by
  simp only[evX]at h;split at h
  ·rename_i t ht;refine zu1 ht (fun h1=>?_) (fun h1=>?_)
   ·subst h1;exact za2 hO hP hk x st e st' (by simpa using h)
   ·subst h1;exact za2 hO hP hk y st e st' (by simpa using h)
  ·cases h
 | .block id c,st,e,st',h=>by
  obtain⟨⟨e1,s1⟩,h1,h2⟩:=bind_some h;refine zjz ((za2 hO hP hk c st e1 s1 h1).mono ?_)
  rintro ex s ⟨rfl,rfl⟩
  cases e1 with
  | n=>cases h2;exact⟨rfl,rfl⟩
  | x j=>
   simp only at h2;show Zdw id _ (.exit j) _;simp only[Zdw];split at h2
   ·rename_i hj;rw[if_pos hj];cases h2;exact⟨rfl,rfl⟩
   ·rename_i hj;rw[if_neg hj];cases h2;exact⟨rfl,rfl⟩
  | r=>cases h2;exact⟨rfl,rfl⟩
  | g l=>cases h2;exact⟨rfl,rfl⟩
 | .loop c,st,e,st',h=>zgx (hO.loop k c st e st' (by simpa only[evX]using h) cx hP hk)
 | .exit id,st,e,st',h=>by cases h;exact zu2 ⟨rfl,rfl⟩
 | .ret,st,e,st',h=>by cases h;exact zx4 ⟨rfl,rfl⟩
 | .note c g,st,e,st',h=>by
  obtain⟨⟨e1,s1⟩,h1,h2⟩:=bind_some h;intro code hc hm a w hr;refine wp_mono (za2 hO hP hk c st e1 s1 h1 code hc hm a w hr) ?_
  rintro ex a' w' ⟨s,⟨rfl,rfl⟩,hr'⟩
  cases e1 with
  | n=>
   obtain⟨s2,h3,h4⟩:=map_some h2;cases h4;exact⟨_,⟨rfl,rfl⟩,hr'.gh hk h3⟩
  | x id=>cases h2;exact⟨_,⟨rfl,rfl⟩,hr'⟩
  | r=>cases h2;exact⟨_,⟨rfl,rfl⟩,hr'⟩
  | g l=>cases h2;exact⟨_,⟨rfl,rfl⟩,hr'⟩
 | .lp id g c g2,st,e,st',h=>by
  obtain⟨s,h1,h2⟩:=bind_some h;have h3:((O.loop k c s).bind fun r=>match r.1 with | .x j=>if j=id then some (Ex.n,r.2) else some r | _=>some r).bind (fun r=>match r.1 with | .n=>(ghS k g2 r.2).map fun s=>(Ex.n,s) | _=>some r)=some (e,st'):=by
   rw[←h2];cases O.loop k c s with
   | none=>rfl
   | some r=>
    obtain⟨e1,s1⟩:=r;cases e1 with
    | n=>rfl
    | r=>rfl
    | g l=>rfl
    | x j=>
     simp only[Y4];split<;>rfl
  have h4:AWp cx (.block id (.loop (er ν (Zu T) c))) (Is e st') s:=
   zvh hk (fun e1 s1 he=>zr0 (fun e2 s2 he2=>zgx (hO.loop k c s e2 s2 he2 cx hP hk)) he) h3
  intro code hc hm a w hr;exact h4 code hc hm a w (hr.gh hk h1)
 | .scope c,st,e,st',h=>by
  obtain⟨⟨e1,s1⟩,h1,h2⟩:=bind_some h;refine zq8 ((za2 hO hP hk c st e1 s1 h1).mono ?_)
  rintro ex s ⟨rfl,rfl⟩
  cases e1 with
  | g l=>cases h2
  | n=>cases h2;exact⟨fun l he=>(by cases he),rfl,rfl⟩
  | x j=>cases h2;exact⟨fun l he=>(by cases he),rfl,rfl⟩
  | r=>cases h2;exact⟨fun l he=>(by cases he),rfl,rfl⟩
 | .label l,st,e,st',h=>by cases h;exact zq9 ⟨rfl,rfl⟩
 | .goto l,st,e,st',h=>by cases h;exact zu3 ⟨rfl,rfl⟩
 | .gsc l c r,st,e,st',h=>by
  have key:∀n o,Zft (fun s=>evX O T k r s) l n o=some (e,st')→∃e1 s1,o=some (e1,s1)∧GQ cx l (er ν (Zu T) r) (Is e st') n e1.out s1:=by
   intro n
   induction n with
   | zero=>intro o h;cases h
   | succ n ih=>
    intro o h;simp only[Zft]at h;obtain⟨⟨e1,s1⟩,h1,h2⟩:=bind_some h;refine⟨e1,s1,h1,?_⟩;cases e1 with
    | g j=>
     simp only at h2;split at h2
     ·rename_i hj;obtain⟨e2,s2,h3,h4⟩:=ih _ h2;refine⟨hj,(za2 hO hP hk r s1 e2 s2 h3).mono ?_⟩
      rintro ex s ⟨rfl,rfl⟩
      exact h4
     ·cases h2
    | n=>cases h2;exact⟨rfl,rfl⟩
    | x j=>cases h2;exact⟨rfl,rfl⟩
    | r=>cases h2;exact⟨rfl,rfl⟩
  obtain⟨e1,s1,h1,h2⟩:=key _ _ h;refine zx5 100 ((za2 hO hP hk c st e1 s1 h1).mono ?_)
  rintro ex s ⟨rfl,rfl⟩
  exact h2
 | .pre g c,st,e,st',h=>by
  obtain⟨s,h1,h2⟩:=bind_some h;intro code hc hm a w hr;exact za2 hO hP hk c s e st' h2 code hc hm a w (hr.gh hk h1)
theorem zpd{f:FuncId}{xs:List AV}{hb:Heap}{k:Nat}{ex:Bool}{x:AV}{hh:Heap}{cc:Nat}(h:Zdp P f xs hb (k+1) (fun r h c=>r=x∧h=hh∧c=cc)) :
  Zdp P f xs hb (k+1) (fun r h c=>r=(Zc1 ex k [0] ⟨[(0,x)],hh,cc⟩).env.get 0∧h=(Zc1 ex k [0] ⟨[(0,x)],hh,cc⟩).heap∧c=(Zc1 ex k [0] ⟨[(0,x)],hh,cc⟩).clk):=by
 refine⟨h.1,fun w S M cargs hl hC hheap hS hM=>(h.2 w S M cargs hl hC hheap hS hM).mono ?_⟩;intro e w' ⟨v,r,h',S',M',clk',he,⟨h1,h2,h3⟩,hCr,hw⟩;subst h1;subst h2;subst h3;have hrel:Rel ⟨P,1,w,S,M,k+1⟩ ⟨[(0,r)],h',clk'⟩ { tmps:=#[v],defers:=[] } w':=by
  refine⟨S',M',rfl,rfl,fun t=>?_,hw 1⟩;cases t with
  | zero=>simp_all
  | succ t=>exact .p (.dead _)
 obtain⟨S2,M2,hr2⟩:=hrel.norm (ex:=ex) (k:=k) (live:=[0]) rfl;refine⟨v,_,_,S2,M2,_,he,⟨rfl,rfl,rfl⟩,by simpa using hr2.env 0,fun nt=>?_⟩;have:=hr2.wr;exact⟨this.heap,this.ext,this.fr,this.Snew,this.Slt,this.Mnew⟩
theorem Zad.res{f:FuncId}{xs:List AV}{y:AV}{ex:Bool}(h:Zad P f xs (·=y)):Zad P f xs (·=wkIf ex y):=
 ⟨h.1,fun w S cargs hl hC hS=>(h.2 w S cargs hl hC hS).mono fun _ _ ⟨v,r,he,hr,hb,hC⟩=>⟨v,_,he,rfl,hb,by rw[←hr];exact hC.wkIf ex⟩⟩
def TOk(P:Program)(ν:Nat→FuncId)(T:Tbl):Prop:=∀u af,T u=some af →
 match af.body.isPrim with
 | some f=>∀xs r,f xs=some r→Zad P (ν u) xs (·=r)
 | none=>if af.body.isBad=true then (∀m∈Zhz af,Zdx P af.np m.1=some (ν m.2))∧(af.res.isEmpty=true→af.np=ν af.nt) else Zfd P (ν u)=some (erF ν (Zu T) af)
theorem GoodO.next(hT:TOk P ν T)(hm:P.follows .mixedOrders=true)(hO:GoodO P ν T O):GoodO P ν T (Zc2 T O):=by
 have bad_no:∀(af:AFx) (k:Nat) (s:St) (r:Ex×St),af.body.isBad=true→evX O T k af.body s=some r→False:=by
  intro af k s r hb he;cases hbd:af.body<;>rw[hbd]at hb he<;>first | (cases hb;done) | (simp only[evX]at he;grind)
 refine⟨hO.meth,hO.fnn,fun u af xs r h hu hl hc=>?_,fun u af ms xs hb r hb' hu hl hc=>?_,fun k c st e st' h cx hP hk=>?_⟩
 ·have hTu:=hT u af hu;simp only[Zc2,hu]at hc;split at hc
  ·rename_i f hf;split at hc
   ·obtain⟨x,h1,h2⟩:=map_some hc
    grind
   grind
  rename_i hf;rw[hf]at hTu;split at hc
  ·rename_i hcond;obtain⟨⟨e,s⟩,h1,h2⟩:=bind_some hc;rw[if_neg (fun hb=>bad_no af _ _ _ hb h1)]at hTu;have key:∃x y,(e=.n∨e=.r)∧Zcw s af.res=some x∧frz s.heap x=some y∧r=wkIf af.exact y:=by
    unfold Zj0 at h2;cases e with
    | x id=>grind
    | g id=>grind
    | n=>
     obtain⟨x,h3,h4⟩:=bind_some h2;rw[hl]at h4;obtain⟨y,h5,h6⟩:=map_some h4
     grind
    | r=>
     obtain⟨x,h3,h4⟩:=bind_some h2;rw[hl]at h4;obtain⟨y,h5,h6⟩:=map_some h4
     grind
   obtain⟨x,y,he,h3,h5,rfl⟩:=key;refine Zad.res (zra hTu hm hcond.1 fun cx hP hnt hclk=>((za2 hO hP hclk af.body _ e s h1).mono ?_))
   rintro ex s' ⟨rfl,rfl⟩
   exact⟨by rcases he with rfl | rfl;exact .inl rfl;exact .inr rfl,x,y,h3,h5,rfl⟩
  grind
 ·have hTu:=hT u af hu;simp only[Zc2,hu]at hc;split at hc
  ·grind
  rename_i hf;rw[hf]at hTu;split at hc
  ·rename_i hcond;obtain⟨⟨e,s⟩,h1,h2⟩:=bind_some hc;rw[if_neg (fun hb=>bad_no af _ _ _ hb h1)]at hTu;have key:∃x,(e=.n∨e=.r)∧Zcw s af.res=some x∧r=(Zc1 af.exact hb.length [0] ⟨[(0,x)],s.heap,s.clk⟩).env.get 0∧hb'=(Zc1 af.exact hb.length [0] ⟨[(0,x)],s.heap,s.clk⟩).heap:=by
    unfold Zj0 at h2;cases e with
    | x id=>grind
    | g id=>grind
    | n=>
     obtain⟨x,h3,h4⟩:=bind_some h2
     grind
    | r=>
     obtain⟨x,h3,h4⟩:=bind_some h2
     grind
   obtain⟨x,he,h3,rfl,rfl⟩:=key;have hA:Zdp P (ν u) xs hb (hb.length+1) (fun r h c=>r=x∧h=s.heap∧c=s.clk):=by
    refine zj0 hTu hm hcond.1 fun cx hP hnt hclk=>((za2 hO hP hclk af.body _ e s h1).mono ?_)
    rintro ex s' ⟨rfl,rfl⟩
    exact⟨by rcases he with rfl | rfl;exact .inl rfl;exact .inr rfl,x,h3,rfl,rfl,rfl⟩
   have hB:=zpd (ex:=af.exact) hA;refine⟨hB.1,fun w S M cargs hl hC hheap hS hM=>(hB.2 w S M cargs hl hC hheap hS hM).mono ?_⟩;intro e w' ⟨v,r,h',S',M',clk',he,⟨a1,a2,a3⟩,hCr,hw⟩;refine⟨v,r,h',S',M',clk',he,⟨a1,a2,?_⟩,hCr,hw⟩;rw[a3];simp only[Zc1,Ybr]
  grind
 ·obtain⟨⟨e1,s1⟩,h1,h2⟩:=bind_some h;refine zvc ((za2 hO hP hk c st e1 s1 h1).mono ?_)
  rintro ex s ⟨rfl,rfl⟩
  cases e1 with
  | n=>exact hO.loop k c _ e st' h2 cx hP hk
  | x id=>cases h2;exact⟨rfl,rfl⟩
  | r=>cases h2;exact⟨rfl,rfl⟩
  | g l=>cases h2;exact⟨rfl,rfl⟩
theorem z9f(hT:TOk P ν T):∀k nm u,(nm,u)∈Zb9 T k→Zdx P (Zu T k) nm=some (ν u):=by
 intro k nm u hm;unfold Zb9 at hm;unfold Zu;cases hT':T (1000000+k) with
 | none=>grind
 | some af=>
  rw[hT']at hm;simp only at hm ⊢;split at hm
  ·rename_i hb;have:=hT _ af hT';have hp:af.body.isPrim=none:=by cases hbd:af.body<;>rw[hbd]at hb<;>first | rfl | cases hb
   grind
  grind
theorem fnn0(hT:TOk P ν T):∀k u,Zg8 T k=some u→Zu T k=ν u:=by
 intro k u hm;unfold Zg8 at hm;unfold Zu;cases hT':T (1000000+k) with
 | none=>grind
 | some af=>
  rw[hT']at hm;simp only at hm ⊢;split at hm
  ·rename_i hb;simp only[Yj]at hb;have:=hT _ af hT';have hp:af.body.isPrim=none:=by cases hbd:af.body<;>rw[hbd]at hb<;>first | rfl | cases hb.1
   grind
  grind
theorem GoodO.orcN(hT:TOk P ν T)(hm:P.follows .mixedOrders=true):∀n,GoodO P ν T (orcN T n)
 | 0=>⟨z9f hT,fnn0 hT,fun _ _ _ _ _ _ _ h=>(by cases h),fun _ _ _ _ _ _ _ _ _ h=>(by cases h),fun _ _ _ _ _ h=>(by cases h)⟩
 | n+1=>(GoodO.orcN hT hm n).next hT hm
end
end
end Go.Ab