/-
  A calculus of values, boxes and code, and what functions of the program compute, proved in it.
  Conditions: none beyond those that the theorems state. (Part 2: Ab19, Ab20, Ab20b, Ab20c, Ab20d, Ab20e, Ab20f, Ab20h, Ab20g, Ab21, Ab22, Ax1, Ax2, Ab23, Ab24, Ax3, Ax4.)
-/
import Derived.Test.YtoppjelfghopnaaGreatDoorPart1
import Derived.Scope

set_option linter.unusedSectionVars false
set_option linter.unusedVariables false
set_option linter.unusedSimpArgs false
set_option linter.unnecessarySimpa false

section
namespace Go.Ab
open Go.RowKit
section
variable{P:Program}{cx:Cx}{w w':World}{S S':Nat→Nat→Prop}{M:Map}{clk:Nat}{h:Heap}{ρ:Nat→AV}{a:Act}
theorem zet(he:Ze5 w S M clk ρ a):∀(l:List (Nat×Operand)) (ps:List (Nat×Opd)),Zcf l=some ps →
  (l.map fun p=>(p.1,a.eval p.2)).map (·.1)=(ps.map fun p=>(p.1,ev ρ p.2)).map (·.1) ∧
  ∀(j:Nat) v x,(l.map fun p=>(p.1,a.eval p.2))[j]? = some v→(ps.map fun p=>(p.1,ev ρ p.2))[j]? = some x→C w S M clk v.2 x.2
 | [],ps,hr=>by simp only[Zcf,Option.some.injEq]at hr;subst hr;exact⟨rfl,fun j v x hv=>by simp at hv⟩
 | (i,x)::l,ps,hr=>by
  simp only[Zcf]at hr;obtain⟨p,hp,hr2⟩:=bind_some hr;obtain⟨qs,hq,rfl⟩:=map_some hr2;obtain⟨h1,h2⟩:=zet he l qs hq;refine⟨by simpa using h1,fun j v y hv hy=>?_⟩;cases j with
  | zero=>simp at hv hy;subst hv;subst hy;exact ev_C he hp
  | succ j=>exact h2 j v y (by simpa using hv) (by simpa using hy)
theorem zdb{o:Oper}{next:Act→World→Prop}{Q:Exit→Act→World→Prop}{v:Value}(hrun:(execOp a.eval o).run P w=.ok (.value v) w')(hn:next (a.put o.dst v) w'):o.wp P a w next Q:=by
 unfold Oper.wp;rw[hrun,Oper.upon_value];exact hn
theorem zgl{s:Sem Value}{v:Value}(hs:s.run P w=.ok v w'):(do pure (Next.value (←s)):Sem Next).run P w=.ok (.value v) w':=by
 simp[hs,Result.andThen]
def AOp.makes:AOp→Bool
 | .alloc .. | .store .. | .mks .. | .bsl .. => true
 | _=>false
theorem ziz{c:Call}{op:AOp}(hop:Zd1 P (.call c)=some op):op.makes=false:=by
 replace hop:=za1 hop;rcases hop with hop | ⟨k,xs,rfl,_⟩
 rotate_left
 ·rfl
 obtain⟨callee,args,ats⟩:=c;cases callee with
 | invoke r m=>
  simp only[Zbo]at hop;obtain⟨p,hp,hr1⟩:=bind_some hop;obtain⟨l,hl,rfl⟩:=map_some hr1
  rfl
 | builtin b=>
  simp only[Zbo]at hop;revert hop
  repeat' split
  all_goals (intro hop;simp[Yg]at hop)
  all_goals first
   | (obtain⟨_,_,rfl⟩:=hop;rfl)
   | (subst hop;rfl)
   | (obtain⟨_,_,_,rfl⟩:=hop;rfl)
   | (obtain⟨_,_,_,_,rfl⟩:=hop;rfl)
   | (obtain⟨_,_,_,_,_,_,rfl⟩:=hop;rfl)
   | (obtain⟨_,_,_,_,_,rfl⟩:=hop;rfl)
   | (obtain⟨_,_,_,_,_,_,_,rfl⟩:=hop;rfl)
 | value fv=>
  cases fv<;>simp only[Zbo]at hop<;>try (cases hop;done)
  all_goals
   obtain⟨l,hl,rfl⟩:=map_some hop
   rfl
theorem zp7{o:Op}{k:XOp}{xs:List Opd}(hop:Zbo P o=some (.xop k xs)):False:=by
 cases o<;>simp only[Zbo]at hop<;>try (cases hop;done)
 all_goals
  revert hop
  repeat' split
  all_goals simp[Yg]
theorem zdc{o:Oper}{op:AOp}{x:AV}{h':Heap}{clk':Nat}(hop:Zd1 P o.op=some op)(hr:RelF cx S M clk h ρ a w)(hs:stepW op o.dst ρ h clk=some (x,h',clk')) :
  ∃v w' S' M',((execOp a.eval o).run P w=.ok (.value v) w'∨((execOp a.eval o).run P w=.ok .skip w'∧v=undef))∧RelF cx S' M' clk' h' ρ a w'∧C w' S' M' clk' v x:=by
 obtain⟨dst,oop,type,pos,after,guard⟩:=o;simp only at hop hs;have hcall:∀c,oop=.call c→op.makes=false:=fun c hc=>ziz (by rw[←hc];exact hop);have hop':=za1 hop;clear hop;rcases hop' with hop | ⟨k,xs,he,hx⟩
 rotate_left
 ·subst he;rcases hx with hx | ⟨rfl,rfl⟩
  ·exact znw (o:=⟨dst,oop,type,pos,after,guard⟩) hx hr hs
  ·simp[stepW,Zbh]at hs
 cases op<;>simp only[stepW]at hs<;>try (cases hs;done)
 case xop k xs=>exact(zp7 hop).elim
 case alloc zs=>
  obtain⟨t,hz,rfl⟩:∃t,zeros P t=some zs∧oop=.alloc t:=by
   cases oop<;>(try simp only[Zbo]at hop)
   case alloc t=>
    obtain⟨zs',hz,he⟩:=map_some hop;cases he;exact⟨t,hz,rfl⟩
   case call c=>exact absurd (hcall c rfl) (by simp[AOp.makes])
   all_goals
    exfalso;revert hop
    repeat' split
    all_goals simp[Yg]
  obtain⟨v',w',S',M',h1,h2,h3⟩:=zng hr hz hs;exact⟨v',w',S',M',.inl (zgl h1),h2,h3⟩
 case store n px pv=>
  obtain⟨t,y,v,hsz,hp,hq,rfl⟩:∃t y v,Za7 P t=some n∧Zl y=some px∧Zl v=some pv∧oop=.store t y v:=by
   cases oop<;>(try simp only[Zbo]at hop)
   case store t y v=>
    obtain⟨n',hn,hop1⟩:=bind_some hop;obtain⟨p,hp,hop2⟩:=bind_some hop1;obtain⟨q,hq,he⟩:=map_some hop2;cases he;exact⟨t,y,v,hn,hp,hq,rfl⟩
   case call c=>exact absurd (hcall c rfl) (by simp[AOp.makes])
   all_goals
    exfalso;revert hop
    repeat' split
    all_goals simp[Yg]
  obtain⟨h1',hs1,he⟩:=map_some hs;cases he;obtain⟨w',S',M',h1,h2⟩:=znh hr hsz (ev_C hr.env hp) (ev_C hr.env hq) hs1;refine⟨undef,w',S',M',.inr ⟨?_,rfl⟩,h2,.p (.tup #[] [] rfl fun j v c hv=>by simp at hv)⟩;simp only[execOp,Sem.run_bind,h1,Result.andThen_ok,Sem.run_pure]
 case mks z zs pl pc=>
  obtain⟨t,l,c,e,inf,ht,hi,hby,hzs,hzl,hp,hq,hz,rfl⟩:∃t l c e inf,P.underlying t=some (.slice e)∧P.info? e=some inf∧inf.bytes≤32768∧zeros P e=some zs∧zs.length=inf.size∧Zl l=some pl∧Zl c=some pc∧inf.size=z∧oop=.makeSlice t l c:=by
   cases oop<;>(try simp only[Zbo]at hop)
   case makeSlice t l c=>
    split at hop
    ·rename_i e ht;split at hop
     ·rename_i inf hi;split at hop
      ·rename_i hcond;obtain⟨zs',hzs,hop1⟩:=bind_some hop;split at hop1
       ·rename_i hzl;obtain⟨p,hp,hop2⟩:=bind_some hop1;obtain⟨q,hq,he⟩:=map_some hop2;cases he;exact⟨t,l,c,e,inf,ht,hi,hcond.2,hzs,hzl,hp,hq,rfl,rfl⟩
       ·cases hop1
      ·cases hop
     ·cases hop
    ·cases hop
   case call c=>exact absurd (hcall c rfl) (by simp[AOp.makes])
   all_goals
    exfalso;revert hop
    repeat' split
    all_goals simp[Yg]
  subst hz;obtain⟨v',w',S',M',h1,h2,h3⟩:=zsg hr ht hi hby hzs hzl (ev_C hr.env hp) (ev_C hr.env hq) hs;exact⟨v',w',S',M',.inl (zgl h1),h2,h3⟩
 case app z px py=>
  cases oop<;>simp only[Zbo]at hop
  case call c=>
   obtain⟨callee,cargs,ats⟩:=c;cases callee with
   | invoke r m=>
    obtain⟨p,hp,hr1⟩:=bind_some hop;obtain⟨l,hl,he⟩:=map_some hr1;cases he
   | value fv=>
    cases fv<;>simp only at hop<;>try (cases hop;done)
    all_goals
     obtain⟨l,hl,he⟩:=map_some hop;cases he
   | builtin b=>
    simp only at hop;split at hop
    ·exfalso;revert hop
     repeat' split
     all_goals simp
    ·obtain⟨l,_,hop1⟩:=bind_some hop;split at hop1<;>cases hop1
    ·obtain⟨l,_,hop1⟩:=bind_some hop;split at hop1<;>cases hop1
    ·rename_i y1 y2 t u hargs hts;split at hop
     ·rename_i htu;subst htu;split at hop
      ·rename_i e ht;split at hop
       ·rename_i inf hi;split at hop
        ·rename_i hcond;obtain⟨h0,hby,hzs⟩:=hcond;obtain⟨p,hp,hop1⟩:=bind_some hop;obtain⟨q,hq,he⟩:=map_some hop1;cases he;obtain⟨zv,hzv,hzc⟩:∃zv,inf.zero=some zv∧zv.cells.size=inf.size:=by
          cases hzz:inf.zero with
          | none=>rw[hzz]at hzs;cases hzs
          | some zv=>rw[hzz]at hzs;exact⟨zv,rfl,by simpa using hzs⟩
         obtain⟨v',w',S',M',h1,h2,h3⟩:=zse (P:=P) (ty:=type) hr ht hi h0 hby hzv hzc rfl (ev_C hr.env hp) (ev_C hr.env hq) hs;have ha:cargs=#[y1,y2]:=by rw[←Ych (xs:=cargs),hargs]
         have hat:ats=#[t,t]:=by rw[←Ych (xs:=ats),hts]
         subst ha;subst hat;exact⟨v',w',S',M',.inl (by simp[execOp,resolve,invoke,builtin,h1]),h2,h3⟩
        ·cases hop
       ·cases hop
      ·cases hop
     ·cases hop
    ·split at hop
     ·split at hop
      ·obtain⟨z,_,hop0⟩:=bind_some hop;split at hop0
       ·obtain⟨p,_,hop1⟩:=bind_some hop0;obtain⟨q,_,he⟩:=map_some hop1;cases he
       ·cases hop0
      ·cases hop
     ·cases hop
    ·cases hop
  all_goals
   exfalso;revert hop
   repeat' split
   all_goals simp[Yg]
theorem zi0{dst:Option Nat}{type:TypeId}{pos:_}{after:_}{guard:_}{cargs:Array Operand}{ats:Array TypeId}{rr:Operand}{nm:String}{t f:Nat}{v:Value}(hv:a.eval rr=.iface t v)(hm:Zdt P t nm=some f)(hent:Enters P f) :
  (execOp a.eval { dst:=dst,op:=.call { callee:=.invoke rr nm,args:=cargs,argTypes:=ats },type:=type,pos:=pos,after:=after,guard:=guard }).run P w=.ok (.enter f (#[v]++cargs.map a.eval)) w:=by
 have e1:(#[Value.iface t v]++cargs.map a.eval)[0]? = some (.iface t v):=by rw[Ybh (by simp)];rfl
 have e2:(#[Value.iface t v]++cargs.map a.eval).extract 1 (#[Value.iface t v]++cargs.map a.eval).size=cargs.map a.eval:=by simp
 simp only[execOp,resolve,Sem.run_bind,Sem.run_pure,Result.andThen_ok,invoke,hv,e1,e2];rw[zqj hm];exact hent _ _
theorem zwx{dst:Option Nat}{type:TypeId}{pos:_}{after:_}{guard:_}{cargs:Array Operand}{ats:Array TypeId}{t f:Nat}{v:Value}(hv:a.tmps.getD t undef=.func (.func f) #[] #[v])(hent:Enters P f) :
  (execOp a.eval { dst:=dst,op:=.call { callee:=.value (.tmp t),args:=cargs,argTypes:=ats },type:=type,pos:=pos,after:=after,guard:=guard }).run P w=.ok (.enter f (cargs.map a.eval ++ #[v])) w:=by
 have hv':a.eval (.tmp t)=.func (.func f) #[] #[v]:=hv;simp only[execOp,resolve,hv',Deferred.ofValue,Sem.run_bind,Sem.run_pure,Result.andThen_ok,invoke];have:=hent (cargs.map a.eval ++ #[v]) w;simpa using this
theorem zsm{dst:Option Nat}{type:TypeId}{pos:_}{after:_}{guard:_}{cargs:Array Operand}{ats:Array TypeId}{t f:Nat}{v:Value}(hv:a.tmps.getD t undef=.func (.func f) #[v] #[])(hent:Enters P f) :
  (execOp a.eval { dst:=dst,op:=.call { callee:=.value (.tmp t),args:=cargs,argTypes:=ats },type:=type,pos:=pos,after:=after,guard:=guard }).run P w=.ok (.enter f (#[v]++cargs.map a.eval)) w:=by
 have hv':a.eval (.tmp t)=.func (.func f) #[v] #[]:=hv;simp only[execOp,resolve,hv',Deferred.ofValue,Sem.run_bind,Sem.run_pure,Result.andThen_ok,invoke];have:=hent (#[v]++cargs.map a.eval) w;simpa using this
theorem zk3{st:St}{o:Oper}{op:AOp}{K:St→Prop}{next:Act→World→Prop}{Q:Exit→Act→World→Prop}(hop:Zd1 P o.op=some op)(hd:∀e,o.dst=some e→e<cx.nt)
  (hr:RelF cx S M st.clk st.heap st.env.get a w) (hk:opK P op o.dst st K) (hn:∀st' a' w',K st'→Rel cx st' a' w'→next a' w'):o.wp P a w next Q:=by
 have quiet:okK (Zh op st.env.get st.heap) (fun x=>K ⟨Zq st.env o.dst x,st.heap,st.clk⟩)→o.wp P a w next Q:=by
  intro ⟨x,hx,hK⟩;obtain⟨v,hv,hC⟩:=zhe (P:=P) hop hr.env hr.wr.heap hx;exact zdb hv (hn _ _ _ hK (Rel.put hr hd hC))
 have wr:okK (stepW op o.dst st.env.get st.heap st.clk) (fun q=>K ⟨Zq st.env o.dst q.1,q.2.1,q.2.2⟩)→o.wp P a w next Q:=by
  intro ⟨⟨x,h',c'⟩,hs,hK⟩;obtain⟨v,w',S',M',h1,h2,h3⟩:=zdc hop hr hs;rcases h1 with h1 | ⟨h1,rfl⟩
  ·exact zdb h1 (hn _ _ _ hK (Rel.put h2 hd h3))
  ·unfold Oper.wp;rw[h1,Oper.upon_skip];exact hn _ _ _ hK (Rel.put h2 hd h3)
 have call:∀f args,op=.call f args→o.wp P a w next Q:=by
  intro f args he;subst he;obtain⟨dst,oop,type,pos,after,guard⟩:=o;simp only at hop hk hd;obtain⟨cargs,ats,hcall,hl⟩:=zd4 hop;subst hcall;obtain⟨h1,h2⟩:=zbu hr.env _ _ hl;have hsz:(cargs.map a.eval).size=(args.map (ev st.env.get)).length:=by simpa using h1
  have hC:∀(j:Nat) (v:Value) (c:AV),(cargs.map a.eval)[j]? = some v→(args.map (ev st.env.get))[j]? = some c→C w S M st.clk v c:=
   fun j v c hv hc=>h2 j v c (by simpa using hv) hc
  have hexec:Enters P f→(execOp a.eval { dst:=dst,op:=.call { callee:=.value (.func f),args:=cargs,argTypes:=ats },type:=type,pos:=pos,after:=after,guard:=guard }).run P w=.ok (.enter f (cargs.map a.eval)) w:=by
   intro hent;simp only[execOp,resolve,Act.eval,Deferred.ofValue,Sem.run_bind,Sem.run_pure,Result.andThen_ok,invoke];have:=hent (cargs.map a.eval) w;simpa using this
  simp only[opK]at hk;rcases hk with hk | hk
  ·obtain⟨hent,hc⟩:=zc9 hr hk hsz hC;unfold Oper.wp;rw[hexec hent,Oper.upon_enter];refine hc.mono fun e w' ⟨v,r,h',S',M',he,hK,hr',hC'⟩=>?_;subst he;exact hn _ _ _ hK (Rel.put hr' hd hC')
  ·obtain⟨hent,hc⟩:=zda hr hk hsz hC;unfold Oper.wp;rw[hexec hent,Oper.upon_enter];refine hc.mono fun e w' ⟨v,r,h',S',M',clk',he,hK,hr',hC'⟩=>?_;subst he;exact hn _ _ _ hK (Rel.put hr' hd hC')
 obtain⟨dst,oop,type,pos,after,guard⟩:=o;simp only at hop hk hd;have hop':=za1 hop;clear hop;rcases hop' with hop | ⟨k,xs,he,hx⟩
 rotate_left
 ·subst he;exact wr hk
 cases oop<;>simp only[Zbo]at hop<;>try (cases hop;done)
 case alloc t=>
  obtain⟨zs,hz,rfl⟩:=map_some hop;exact wr hk
 case makeInterface t y=>
  split at hop
  ·split at hop
   ·cases hop
   ·obtain⟨p,hp,rfl⟩:=map_some hop;exact quiet hk
  ·cases hop
 case buildSlice t len parts=>
  split at hop
  ·rename_i e ht;obtain⟨z,hz,hop1⟩:=bind_some hop;split at hop1
   ·rename_i hlim;obtain⟨zs,hzs,hop2⟩:=bind_some hop1;split at hop2
    ·rename_i hzl;obtain⟨ps,hps,rfl⟩:=map_some hop2;obtain⟨⟨r,h'⟩,hs,hK⟩:=hk;obtain⟨h1,h2⟩:=zet hr.env _ _ hps;have e1:∀ρ:Operand→Value,(Array.map (fun(x:Nat×Operand)=>(x.fst,ρ x.snd)) parts).toList=parts.toList.map fun p=>(p.1,ρ p.2):=by intro ρ;simp
     obtain⟨v',w',S',M',h3,h4,h5⟩:=zk1 (parts:=Array.map (fun(x:Nat×Operand)=>(x.fst,a.eval x.snd)) parts) hr ht hz hlim.1 hlim.2 hzs hzl (by rw[e1];exact h1) (fun j v x hv hx=>h2 j v x (by rw[e1]at hv;exact hv) hx) hs;exact zdb (w':=w') (zgl h3) (hn _ _ _ hK (Rel.put h4 hd h5))
    ·cases hop2
   ·cases hop1
  ·cases hop
 case store t y v=>
  obtain⟨n,hsz,hop1⟩:=bind_some hop;obtain⟨p,hp,hop2⟩:=bind_some hop1;obtain⟨q,hq,rfl⟩:=map_some hop2;exact wr hk
 case makeSlice t l c=>
  split at hop
  ·split at hop
   ·split at hop
    ·obtain⟨zs,hzs,hop1⟩:=bind_some hop;split at hop1
     ·obtain⟨p,hp,hop2⟩:=bind_some hop1;obtain⟨q,hq,rfl⟩:=map_some hop2;exact wr hk
     ·cases hop1
    ·cases hop
   ·cases hop
  ·cases hop
 case call c=>
  obtain⟨callee,cargs,ats⟩:=c;cases callee with
  | invoke r m=>
   obtain⟨p,hp,hr1⟩:=bind_some hop;obtain⟨l,hl,rfl⟩:=map_some hr1;clear call;simp only[opK]at hk;rcases hk with ⟨_,hk⟩ | ⟨h0,_⟩ | ⟨h0,_⟩
   rotate_left
   ·cases h0
   ·cases h0
   obtain⟨t,y,f,hy,hm,hk⟩:=hk;have hCr:=ev_C hr.env hp;rw[hy]at hCr;obtain⟨v,hv,hCy⟩:=hCr.inv_ifc;obtain⟨h1,h2⟩:=zbu hr.env _ _ hl;have hsz:(#[v]++cargs.map a.eval).size=(y::l.map (ev st.env.get)).length:=by
    have:cargs.size=l.length:=by simpa using h1
    simp[this,Ya0]
   have hC:∀(j:Nat) (u:Value) (c:AV),(#[v]++cargs.map a.eval)[j]? = some u→(y::l.map (ev st.env.get))[j]? = some c→C w S M st.clk u c:=by
    intro j u c hu hc;cases j with
    | zero=>
     rw[Ybh (by simp)]at hu;cases hu;cases hc;exact hCy
    | succ j=>
     rw[Yb4 (by simp)]at hu;exact h2 j u c (by simpa using hu) (by simpa using hc)
   have hexec:=zi0 (P:=P) (w:=w) (dst:=dst) (type:=type) (pos:=pos) (after:=after) (guard:=guard) (ats:=ats) (cargs:=cargs) hv hm;rcases hk with hk | hk
   ·obtain⟨hent,hc⟩:=zc9 hr hk hsz hC;unfold Oper.wp;rw[hexec hent,Oper.upon_enter];refine hc.mono fun e w' ⟨v,r,h',S',M',he,hK,hr',hC'⟩=>?_;subst he;exact hn _ _ _ hK (Rel.put hr' hd hC')
   ·obtain⟨hent,hc⟩:=zda hr hk hsz hC;unfold Oper.wp;rw[hexec hent,Oper.upon_enter];refine hc.mono fun e w' ⟨v,r,h',S',M',clk',he,hK,hr',hC'⟩=>?_;subst he;exact hn _ _ _ hK (Rel.put hr' hd hC')
  | value fv=>
   cases fv<;>simp only at hop<;>try (cases hop;done)
   case func f=>obtain⟨l,hl,rfl⟩:=map_some hop;exact call _ _ rfl
   case tmp tt=>
    obtain⟨l,hl,rfl⟩:=map_some hop;clear call;simp only[opK]at hk;rcases hk with ⟨h0,_⟩ | ⟨_,hk⟩ | ⟨_,hk⟩
    ·cases h0
    ·obtain⟨f,y,hy,hk⟩:=hk;have hCr:=hr.env tt;rw[show st.env.get tt=_ from hy]at hCr;obtain⟨v,hv,hCy⟩:=hCr.inv_fnv;obtain⟨h1,h2⟩:=zbu hr.env _ _ hl;have hsz:(#[v]++cargs.map a.eval).size=(y::l.map (ev st.env.get)).length:=by
      have:cargs.size=l.length:=by simpa using h1
      simp[this,Ya0]
     have hC:∀(j:Nat) (u:Value) (c:AV),(#[v]++cargs.map a.eval)[j]? = some u→(y::l.map (ev st.env.get))[j]? = some c→C w S M st.clk u c:=by
      intro j u c hu hc;cases j with
      | zero=>
       rw[Ybh (by simp)]at hu;cases hu;cases hc;exact .p hCy
      | succ j=>
       rw[Yb4 (by simp)]at hu;exact h2 j u c (by simpa using hu) (by simpa using hc)
     have hexec:=zsm (P:=P) (a:=a) (w:=w) (dst:=dst) (type:=type) (pos:=pos) (after:=after) (guard:=guard) (ats:=ats) (cargs:=cargs) hv;rcases hk with hk | hk
     ·obtain⟨hent,hc⟩:=zc9 hr hk hsz hC;unfold Oper.wp;rw[hexec hent,Oper.upon_enter];refine hc.mono fun e w' ⟨v,r,h',S',M',he,hK,hr',hC'⟩=>?_;subst he;exact hn _ _ _ hK (Rel.put hr' hd hC')
     ·obtain⟨hent,hc⟩:=zda hr hk hsz hC;unfold Oper.wp;rw[hexec hent,Oper.upon_enter];refine hc.mono fun e w' ⟨v,r,h',S',M',clk',he,hK,hr',hC'⟩=>?_;subst he;exact hn _ _ _ hK (Rel.put hr' hd hC')
    obtain⟨f,id,g,z,i,oo,hy,hk⟩:=hk;have hCr:=hr.env tt;rw[show st.env.get tt=_ from hy]at hCr;obtain⟨v,hv,hg,hpo,h1v⟩:=hCr.inv_fnp;obtain⟨h1,h2⟩:=zbu hr.env _ _ hl;have hsz:(cargs.map a.eval ++ #[v]).size=(l.map (ev st.env.get)++[AV.ptr id g z i oo]).length:=by
     have:cargs.size=l.length:=by simpa using h1
     simp[this]
    have hC:∀(j:Nat) (u:Value) (c:AV),(cargs.map a.eval ++ #[v])[j]? = some u→(l.map (ev st.env.get)++[AV.ptr id g z i oo])[j]? = some c→C w S M st.clk u c:=by
     intro j u c hu hc;have hs:cargs.size=l.length:=by simpa using h1
     rcases Yq j l.length with hj | hj
     ·rw[Ybh (by simpa[hs]using hj)]at hu;rw[Yr (by simpa using hj)]at hc;exact h2 j u c (by simpa using hu) (by simpa using hc)
     ·rw[Yb4 (by simpa[hs]using hj)]at hu;rw[Yn (by simpa using hj)]at hc;simp only[Array.size_map,Ydq,hs]at hu hc;cases hq:j-l.length with
      | succ q=>rw[hq]at hc;simp at hc
      | zero=>
       rw[hq]at hu hc;simp at hu hc;subst hu;subst hc;exact .ptr _ _ _ _ _ _ hg hpo h1v
    have hexec:=zwx (P:=P) (a:=a) (w:=w) (dst:=dst) (type:=type) (pos:=pos) (after:=after) (guard:=guard) (ats:=ats) (cargs:=cargs) hv;rcases hk with hk | hk
    ·obtain⟨hent,hc⟩:=zc9 hr hk hsz hC;unfold Oper.wp;rw[hexec hent,Oper.upon_enter];refine hc.mono fun e w' ⟨v,r,h',S',M',he,hK,hr',hC'⟩=>?_;subst he;exact hn _ _ _ hK (Rel.put hr' hd hC')
    ·obtain⟨hent,hc⟩:=zda hr hk hsz hC;unfold Oper.wp;rw[hexec hent,Oper.upon_enter];refine hc.mono fun e w' ⟨v,r,h',S',M',clk',he,hK,hr',hC'⟩=>?_;subst he;exact hn _ _ _ hK (Rel.put hr' hd hC')
  | builtin b=>
   simp only at hop;split at hop
   ·split at hop
    ·obtain⟨p,_,rfl⟩:=map_some hop;exact quiet hk
    ·obtain⟨p,_,rfl⟩:=map_some hop;exact quiet hk
    ·cases hop;exact quiet hk
    ·cases hop
   ·obtain⟨l,_,hop1⟩:=bind_some hop;split at hop1<;>cases hop1;exact quiet hk
   ·obtain⟨l,_,hop1⟩:=bind_some hop;split at hop1<;>cases hop1;exact quiet hk
   ·rename_i y1 y2 t u hargs hts;split at hop
    ·rename_i htu;subst htu;split at hop
     ·rename_i e ht;split at hop
      ·rename_i inf hi;split at hop
       ·obtain⟨p,hp,hop1⟩:=bind_some hop;obtain⟨q,hq,rfl⟩:=map_some hop1;exact wr hk
       ·cases hop
      ·cases hop
     ·cases hop
    ·cases hop
   ·split at hop
    ·split at hop
     ·obtain⟨z,_,hop0⟩:=bind_some hop;split at hop0
      ·obtain⟨p,_,hop1⟩:=bind_some hop0;obtain⟨q,_,rfl⟩:=map_some hop1;exact quiet hk
      ·cases hop0
     ·cases hop
    ·cases hop
   ·cases hop
 case convert s d y=>
  split at hop
  ·obtain⟨p,hp,rfl⟩:=map_some hop;exact quiet hk
  ·split at hop
   ·obtain⟨p,hp,rfl⟩:=map_some hop;exact quiet hk
   ·cases hop
  ·cases hop
 case move y=>obtain⟨p,hp,rfl⟩:=map_some hop;exact quiet hk
 case assign y=>obtain⟨p,hp,rfl⟩:=map_some hop;exact quiet hk
 case pick c u v=>
  obtain⟨c',hc,hop1⟩:=bind_some hop;obtain⟨u',hu,hop2⟩:=bind_some hop1;obtain⟨v',hv,rfl⟩:=map_some hop2;exact quiet hk
 case build t parts=>
  split at hop
  ·split at hop
   ·obtain⟨zs,hz,hop1⟩:=bind_some hop;obtain⟨ps,hp,rfl⟩:=map_some hop1;exact quiet hk
   ·cases hop
  ·obtain⟨n,_,hop0⟩:=bind_some hop;obtain⟨zs,hz,hop1⟩:=bind_some hop0;obtain⟨ps,hp,rfl⟩:=map_some hop1;exact quiet hk
  ·cases hop
 case load t y=>
  obtain⟨n,hn',hop1⟩:=bind_some hop;obtain⟨p,hp,rfl⟩:=map_some hop1;exact quiet hk
 case nilCheck y=>obtain⟨p,hp,rfl⟩:=map_some hop;exact quiet hk
 case binOp op' t y z _=>
  obtain⟨p,hp,hop1⟩:=bind_some hop;obtain⟨q,hq,hop2⟩:=bind_some hop1;split at hop2
  ·cases hop2;exact quiet hk
  ·cases hop2;exact quiet hk
  ·cases op'<;>cases hop2<;>exact quiet hk
  ·split at hop2
   ·cases op'<;>try cases hop2
    ·obtain⟨ls,hl,rfl⟩:=map_some hop2;exact quiet hk
    ·obtain⟨ls,hl,rfl⟩:=map_some hop2;exact quiet hk
   ·cases hop2
  ·split at hop2
   ·cases op'<;>cases hop2<;>exact quiet hk
   ·cases hop2
  ·cases hop2
 case unOp op' t y=>obtain⟨p,hp,rfl⟩:=map_some hop;exact quiet hk
 case slice t y lo hi mx=>
  split at hop
  ·obtain⟨z,hz,hop1⟩:=bind_some hop;obtain⟨p,hp,hop2⟩:=bind_some hop1;obtain⟨lo',hlo,hop3⟩:=bind_some hop2;obtain⟨hi',hhi,hop4⟩:=bind_some hop3;obtain⟨mx',hmx,hop5⟩:=bind_some hop4;split at hop5<;>cases hop5;exact quiet hk
  ·split at hop
   ·obtain⟨p,hp,hop2⟩:=bind_some hop;obtain⟨lo',hlo,hop3⟩:=bind_some hop2;obtain⟨hi',hhi,rfl⟩:=map_some hop3;exact quiet hk
   ·cases hop
  ·cases hop
 case fieldAddr t y i=>
  split at hop
  ·split at hop
   ·obtain⟨n,hn',hop1⟩:=bind_some hop;split at hop1
    ·cases hop1
    ·obtain⟨p,hp,rfl⟩:=map_some hop1;exact quiet hk
   ·cases hop
  ·cases hop
 case field t y i=>
  split at hop
  ·split at hop
   ·obtain⟨n,hn',hop1⟩:=bind_some hop;obtain⟨p,hp,rfl⟩:=map_some hop1;exact quiet hk
   ·cases hop
  ·cases hop
 case indexAddr t y i=>
  split at hop
  ·obtain⟨z,hz,hop1⟩:=bind_some hop;obtain⟨p,hp,hop2⟩:=bind_some hop1;obtain⟨q,hq,rfl⟩:=map_some hop2;exact quiet hk
  ·obtain⟨z,hz,hop1⟩:=bind_some hop;obtain⟨p,hp,hop2⟩:=bind_some hop1;obtain⟨q,hq,rfl⟩:=map_some hop2;exact quiet hk
  ·cases hop
 case index t y i=>
  split at hop
  ·obtain⟨p,hp,hop2⟩:=bind_some hop;obtain⟨q,hq,rfl⟩:=map_some hop2;exact quiet hk
  ·obtain⟨z,hz,hop1⟩:=bind_some hop;obtain⟨k,hk',hop3⟩:=bind_some hop1;obtain⟨p,hp,hop2⟩:=bind_some hop3;obtain⟨q,hq,rfl⟩:=map_some hop2;exact quiet hk
  ·cases hop
 case extract y i=>obtain⟨p,hp,rfl⟩:=map_some hop;exact quiet hk
end
end Go.Ab
end
section
namespace Go.Ab
open Go.RowKit
def opQ(P:Program)(op:AOp)(e:Env)(h:Heap)(older:List Heap)(K:AV→Prop):Prop:=
 match op with
 | .call f args=>∃ys,(Zb2 h (args.map (ev e.get))=some ys∧((args.map (ev e.get)).all noRef=false→∀h'∈older,Zb2 h' (args.map (ev e.get))=some ys))∧∃r,Zaq P f ys (·=r)∧K r
 | .inv nm _ u r args=>u=0∧∃t y f,ev e.get r=.ifc t y∧Zdt P t nm=some f∧((drp1 y::args.map (ev e.get)).all noRef=true)∧∃x,Zaq P f (drp1 y::args.map (ev e.get)) (·=x)∧K x
 | .bsl z zs len ps=>((ps.map fun p=>(p.1,ev e.get p.2)).all fun p=>noRef p.2)=true∧okK (Zd2 z zs len [] (ps.map fun p=>(p.1,ev e.get p.2))) fun q=>K q.1
 | .app z (.c (.sl [] .nl)) y=>okK (Zf7 z (ev e.get y)) K
 | op=>okK (Zh op e.get h) fun x=>(match op.free with | true=>True | false=>∀h'∈older,Zh op e.get h'=some x)∧K x
def qK(P:Program)(o:AO)(e:Env)(h:Heap)(older:List Heap)(K:AV→Prop):Prop:=
 match o.guard with
 | none=>opQ P o.op e h older K
 | some (t,want)=>
  match e.get t with
  | .b v=>if v=want then opQ P o.op e h older K else K (.tup [])
  | .tup []=>K (.tup [])
  | _=>False
abbrev Zjp:=List (Nat×(Heap→Prop))
def Zf9(P:Program):List DO→Env→Heap→Nat→List Heap→Zjp→(St→Prop)→Prop
 | [],e,h,clk,_,_,K=>K ⟨e,h,clk⟩
 | o::r,e,h,clk,older,pend,K=>
  match o.ao.op.writes with
  | true=>o.ao.guard=none∧okK (stepW o.ao.op o.ao.dst e.get h clk) fun q=>(∀p∈pend,0<p.1→p.2 q.2.1)∧Zf9 P r (Zq e o.ao.dst q.1) q.2.1 q.2.2 (h::older) (pend.map fun p=>(p.1-1,p.2)) K
  | false=>qK P o.ao e h (older.take (older.length-o.lo)) fun x=>Zf9 P r (Zq e o.ao.dst x) h clk older ((o.hi-older.length,fun h'=>QF P h' o.ao e.get x)::pend) K
def Zkz(P:Program)(l:List DO)(st:St)(K:St→Prop):Prop:=Zf9 P l st.env st.heap st.clk [] [] K
section
variable{P:Program}{cx:Cx}{w w':World}{S S':Nat→Nat→Prop}{M:Map}{clk:Nat}{h:Heap}{ρ:Nat→AV}{a:Act}
theorem zaw{nt:Nat}{ops:Array Oper}{o:Oper}{ao:AO}(hao:Zcw P nt ops o=some ao):∃op g,Zd1 P o.op=some op∧Zb7 ops o.guard=some g∧ao=⟨o.dst,g,op⟩∧∀e,o.dst=some e→e<nt:=by
 unfold Zcw at hao;obtain⟨op,hop,hao1⟩:=bind_some hao;obtain⟨g,hg,hao2⟩:=bind_some hao1;refine⟨op,g,hop,hg,?_⟩;cases hdd:o.dst with
 | none=>rw[hdd]at hao2;simp only[Option.some.injEq]at hao2;exact⟨hao2.symm,fun e he=>by cases he⟩
 | some d=>
  rw[hdd]at hao2;simp only at hao2;split at hao2<;>cases hao2;exact⟨rfl,fun e he=>by cases he;assumption⟩
theorem zca{ops:Array Oper}{o:Oper}(hg:Zb7 ops o.guard=some none)(a:Act):Region.wanted o (yielded ops a.tmps)=true:=by
 have hgn:o.guard=none:=by
  unfold Zb7 at hg;split at hg
  ·assumption
  ·obtain⟨d,_,hd⟩:=map_some hg;cases hd
 unfold Region.wanted;rw[hgn]
theorem zni{ops:Array Oper}{o:Oper}{t:Nat}{want v:Bool}{x:AV}(hg:Zb7 ops o.guard=some (some (t,want)))(hC:C w S M clk (a.tmps.getD t undef) x)(hx:x=.b v):Region.wanted o (yielded ops a.tmps)=(v == want):=by
 obtain⟨j,hgj,hjd⟩:∃j,o.guard=some (j,want)∧(ops[j]?).bind (·.dst)=some t:=by
  unfold Zb7 at hg;split at hg
  ·cases hg
  ·rename_i j w0 hgo;obtain⟨d,hd,he⟩:=map_some hg;cases he;exact⟨j,hgo,hd⟩
 subst hx;have hv:=hC.inv_b;unfold Region.wanted;rw[hgj];simp only[yielded,hjd];cases hq:a.tmps[t]? with
 | none=>simp[hq,undef]at hv
 | some u=>
  simp[hq]at hv;subst hv;simp[hq]
theorem zk5{ops:Array Oper}{o:Oper}{t:Nat}{want:Bool}{x:AV}{vs:List AV}(hg:Zb7 ops o.guard=some (some (t,want)))(hC:C w S M clk (a.tmps.getD t undef) x)(hx:x=.tup vs):Region.wanted o (yielded ops a.tmps)=false:=by
 obtain⟨j,hgj,hjd⟩:∃j,o.guard=some (j,want)∧(ops[j]?).bind (·.dst)=some t:=by
  unfold Zb7 at hg;split at hg
  ·cases hg
  ·rename_i j w0 hgo;obtain⟨d,hd,he⟩:=map_some hg;cases he;exact⟨j,hgo,hd⟩
 subst hx;obtain⟨us,hv,_⟩:=hC.inv_tup;unfold Region.wanted;rw[hgj];simp only[yielded,hjd];cases hq:a.tmps[t]? with
 | none=>simp[hq]
 | some u=>
  simp[hq]at hv;subst hv;simp[hq]
theorem zsn:C w S M clk undef (.tup []):=.p (.tup #[] [] rfl fun j v c hv=>by simp at hv)
theorem zc2{nt:Nat}{ops:Array Oper}{Q:Exit→Act→World→Prop}(hnt:nt=cx.nt):∀(l:List Oper) (aos:List AO) (st:St) (K:St→Prop) (a:Act) (w:World),Zau P nt ops l=some aos→Zec P aos st K→Rel cx st a w →
  (∀st' a' w',K st'→Rel cx st' a' w'→Q .normal a' w')→wpList P ops Q l a w
 | [],aos,st,K,a,w,hres,hk,hr,hQ=>by
  simp only[Zau,Option.some.injEq]at hres;subst hres;exact hQ st a w hk hr
 | o::l,aos,st,K,a,w,hres,hk,hr,hQ=>by
  simp only[Zau]at hres;obtain⟨ao,hao,hres1⟩:=bind_some hres;obtain⟨rest,hrest,rfl⟩:=map_some hres1;obtain⟨op,g,hop,hg,rfl,hd⟩:=zaw hao;subst hnt;simp only[Zec,Zgq]at hk;refine wpList_step fun N hN=>?_;have next:∀st' a' w',Zec P rest st' K→Rel cx st' a' w'→N a' w':=fun st' a' w' h1 h2=>hN a' w' (zc2 rfl l rest st' K a' w' hrest h1 h2 hQ)
  obtain⟨S,M,hrf⟩:=hr;have skip:Zec P rest ⟨Zq st.env o.dst (.tup []),st.heap,st.clk⟩ K→N (a.put o.dst undef) w:=fun h1=>next _ _ _ h1 (Rel.put hrf hd zsn)
  cases g with
  | none=>
   rw[zca hg a];simp only[if_true];exact zk3 hop hd hrf hk next
  | some tw=>
   obtain⟨t,want⟩:=tw;simp only at hk;have hC:=hrf.env t;split at hk
   ·rename_i v hv;rw[zni hg hC hv];by_cases hvw:v=want
    ·rw[if_pos hvw]at hk;simp only[hvw,beq_self_eq_true,if_true];exact zk3 hop hd hrf hk next
    ·rw[if_neg hvw]at hk;have:(v == want)=false:=by simpa using hvw
     rw[this];exact skip hk
   ·rename_i vs hv;rw[zk5 hg hC hv];exact skip hk
   ·exact hk.elim
theorem zso{o:Op}{nm:String}{k u:Nat}{r:Opd}{args:List Opd}(hop:Zd1 P o=some (.inv nm k u r args))(hu:u=0) :
  ∃rr cargs ats,o=.call { callee:=.invoke rr nm,args:=cargs,argTypes:=ats }∧Zl rr=some r∧Zbt cargs.toList=some args:=by
 replace hop:=za1 hop;rcases hop with hop | ⟨k,xs,he,_⟩
 rotate_left
 ·cases he
 cases o<;>simp only[Zbo]at hop
 case call c=>
  obtain⟨callee,cargs,ats⟩:=c;cases callee with
  | invoke rr m=>
   obtain⟨p,hp,hr1⟩:=bind_some hop;obtain⟨l,hl,he⟩:=map_some hr1;injection he with h1 h2 h3 h4 h5
   subst h1 h4 h5;exact⟨rr,cargs,ats,rfl,hp,hl⟩
  | builtin b=>
   exfalso;revert hop;simp only
   repeat' split
   all_goals simp[Yg]
  | value fv=>
   cases fv<;>simp only at hop<;>try (cases hop;done)
   all_goals
    obtain⟨l,hl,he⟩:=map_some hop
    first
     | (cases he;done)
     | (injection he with h1 h2 h3;omega)
 all_goals
  exfalso;revert hop
  repeat' split
  all_goals simp[Yg]
theorem RelF.heap_congr{cx:Cx}{h h2:Heap}{ρ:Nat→AV}{a:Act}(he:∀id,h2.lookup id=h.lookup id)(hr:RelF cx S M clk h ρ a w):RelF cx S M clk h2 ρ a w:=
 ⟨hr.size,hr.defers,hr.env,⟨⟨fun b bx hb=>hr.wr.heap.box b bx (by rw[←he];exact hb),fun g m hm=>by
   obtain⟨b,bx,h1,h2⟩:=hr.wr.heap.live g m hm;exact⟨b,bx,by rw[he];exact h1,h2⟩,fun b bx b' bx' h1 h2 hg=>hr.wr.heap.gens b bx b' bx' (by rw[←he];exact h1) (by rw[←he];exact h2) hg,hr.wr.heap.inj⟩,hr.wr.ext,hr.wr.fr,hr.wr.Snew,hr.wr.Slt,hr.wr.Mnew⟩⟩
theorem zp8{ids:List BId}(hk:∀id bx,id∈ids→h.lookup id=some bx→bx.kind=.sh)(b:BId):h.lookup b=(Zm ids h).lookup b:=by
 rw[zdo];cases hb:h.lookup b with
 | none=>rfl
 | some bx=>
  simp only[Yb3];split
  ·rename_i hc;have:=hk b bx (Ybd.1 hc) hb;cases bx;simp only at this;subst this
   rfl
  ·rfl
theorem zwy{x:AV}(hx:shR h x=true):∀id bx,id∈refs x→h.lookup id=some bx→bx.kind=.sh:=by
 intro id bx hid hb;have:=Yh.1 hx id hid;simp only[hb,decide_eq_true_eq]at this;exact this
theorem z0e{vs:List Value}:∀{xs ys:List AV},Zb2 h xs=some ys→vs.length=xs.length→HeapRel w S M clk h→(∀(j:Nat) (v:Value) (c:AV),vs[j]? = some v→xs[j]? = some c→C w S M clk v c) →
  ∃ids:List BId,(∀id bx,id∈ids→h.lookup id=some bx→bx.kind=.sh)∧vs.length=ys.length∧∀(j:Nat) (v:Value) (c:AV),vs[j]? = some v→ys[j]? = some c→CP w (Zb9 h M ids S) v c:=by
 intro xs ys hf hl hh hc;refine⟨(xs.filter fun x=>!noRef x).flatMap refs,fun id bx hid hb=>?_,?_⟩
 ·obtain⟨x,hx,hix⟩:=Yas.1 hid;simp only[Yek,Ycy]at hx;clear hc hl hid
  induction xs generalizing ys with
  | nil=>cases hx.1
  | cons x0 xs ih=>
   simp only[Zb2]at hf;obtain⟨y,hy,hf1⟩:=bind_some hf;obtain⟨ys',hys,_⟩:=map_some hf1;rcases Yw.1 hx.1 with rfl | hm
   ·simp only[Zhv,hx.2]at hy;split at hy
    ·rename_i hs;exact zwy hs id bx hix hb
    ·cases hy
   ·exact ih hys ⟨hm,hx.2⟩
 ·have key:∀(xs ys:List AV),Zb2 h xs=some ys→xs.length=ys.length∧∀(j:Nat) (x y:AV),xs[j]? = some x→ys[j]? = some y→Zhv h x=some y:=by
   intro xs
   induction xs with
   | nil=>intro ys h0;simp only[Zb2,Option.some.injEq]at h0;subst h0;exact⟨rfl,fun j x y h=>by simp at h⟩
   | cons x0 xs ih=>
    intro ys h0;simp only[Zb2]at h0;obtain⟨y,hy,hf1⟩:=bind_some h0;obtain⟨ys',hys,rfl⟩:=map_some hf1;obtain⟨k1,k2⟩:=ih ys' hys;refine⟨by simp[k1],fun j x z hx hz=>?_⟩;cases j with
    | zero=>cases hx;cases hz;exact hy
    | succ j=>exact k2 j x z (by simpa using hx) (by simpa using hz)
  obtain⟨k1,k2⟩:=key xs ys hf;refine⟨by omega,fun j v y hv hy=>?_⟩;have hj:j<xs.length:=by have:=zbg hv;omega
  have hx:xs[j]? = some (xs[j]'hj):=Ya hj;have hC:=hc j v _ hv hx;have hfj:=k2 j _ _ hx hy;unfold Zhv at hfj;split at hfj
  ·rename_i hn;cases hfj;exact(hC.mono (zjv _)).noRef hn
  ·rename_i hn;split at hfj
   ·exact zfv hh hC hfj fun id hid=>Yas.2 ⟨_,Yek.2 ⟨Yj hx,by simp[hn]⟩,hid⟩
   ·cases hfj
theorem zd6{nt:Nat}{ops:Array Oper}{Q':Exit→Act→World→Prop}{i:Nat}{o:Oper}{ao:AO}{x:AV}{K:Act→World→Prop}(ho:ops[i]? = some o)(hnt:nt=cx.nt)
  (hao:Zcw P nt ops o=some ao) (hq:QF P h ao ρ x) (hr:Zfc cx clk h ρ a w) (hK:∀a' w',Zfc cx clk h (upd ρ o.dst x) a' w'→K a' w'):wpOp P ops Q' i K a w:=by
 subst hnt;obtain⟨S,M,hr⟩:=hr;obtain⟨op,g,hop,hg,rfl,hd⟩:=zaw hao;unfold wpOp;simp only[ho];have skip:x=.tup []→Region.wanted o (yielded ops a.tmps)=false→if Region.wanted o (yielded ops a.tmps)=true then o.wp P a w K Q'∨o.asks P a w∧LetsOut Q' else K (a.put o.dst undef) w:=by
  intro hx hw;rw[hw];simp only[Yz,if_false];subst hx;exact hK _ _ ⟨S,M,hr.put hd zsn⟩
 have run:Region.wanted o (yielded ops a.tmps)=true→QOp P op ρ h x→if Region.wanted o (yielded ops a.tmps)=true then o.wp P a w K Q'∨o.asks P a w∧LetsOut Q' else K (a.put o.dst undef) w:=by
  intro hw hqo;rw[hw];simp only[if_true];refine .inl ?_;have quiet:Zh op ρ h=some x→o.wp P a w K Q':=by
   intro hs;obtain⟨v,hv,hC⟩:=zhe (P:=P) hop hr.env hr.wr.heap hs;exact zdb hv (hK _ _ ⟨S,M,hr.put hd hC⟩)
  cases op with
  | call f args=>
   obtain⟨ys,hfr,hent1,hp⟩:=hqo;obtain⟨dst,oop,type,pos,after,guard⟩:=o;simp only at hop hK hd;obtain⟨cargs,ats,hcall,hl⟩:=zd4 hop;subst hcall;obtain⟨r1,r2⟩:=zbu hr.env _ _ hl;obtain⟨ids,hk,h1,h2⟩:=z0e (vs:=cargs.toList.map a.eval) hfr (by simpa using r1) hr.wr.heap (fun j v c hv hc=>r2 j v c hv hc);replace hr:=(hr.share ids fun id bx hid hb=>by rw[hk id bx hid hb];decide).heap_congr (h2:=h) (zp8 hk);have hc:=hp w _ (cargs.map a.eval) (by simpa using h1) (fun j v c hv hc=>h2 j v c (by simpa using hv) hc) hr.wr.Slt;unfold Oper.wp;have hrun:(execOp a.eval { dst:=dst,op:=.call { callee:=.value (.func f),args:=cargs,argTypes:=ats },type:=type,pos:=pos,after:=after,guard:=guard }).run P w=.ok (.enter f (cargs.map a.eval)) w:=by
    simp only[execOp,resolve,Act.eval,Deferred.ofValue,Sem.run_bind,Sem.run_pure,Result.andThen_ok,invoke];have:=hent1 (cargs.map a.eval) w;simpa using this
   rw[hrun,Oper.upon_enter];refine hc.mono fun e w' ⟨v,r,he,hpr,hb,hC⟩=>?_;subst he;subst hpr;exact hK _ _ ⟨_,M,(hr.below hb).put hd (.p hC)⟩
  | inv nm k u r args=>
   obtain⟨hu0,t,y,f,hy,hm,hn,hent1,hp⟩:=hqo;obtain⟨dst,oop,type,pos,after,guard⟩:=o;simp only at hop hK hd;obtain⟨rr,cargs,ats,rfl,hrr,hl⟩:=zso hop hu0;have hCr:=ev_C hr.env hrr;rw[hy]at hCr;obtain⟨v,hv,hCy⟩:=hCr.inv_ifc;obtain⟨h1,h2⟩:=zbu hr.env _ _ hl;have hsz:(#[v]++cargs.map a.eval).size=(drp1 y::args.map (ev ρ)).length:=by
    have:cargs.size=args.length:=by simpa using h1
    simp[this,Ya0]
   have hC:∀(j:Nat) (u:Value) (c:AV),(#[v]++cargs.map a.eval)[j]? = some u→(drp1 y::args.map (ev ρ))[j]? = some c→CP w S u c:=by
    intro j u c hu hc;have hnr:=Yh.1 hn c (Yj hc);cases j with
    | zero=>
     rw[Ybh (by simp)]at hu;cases hu;cases hc;exact hCy.drp1.noRef hnr
    | succ j=>
     rw[Yb4 (by simp)]at hu;exact(h2 j u c (by simpa using hu) (by simpa using hc)).noRef hnr
   have hc:=hp w S (#[v]++cargs.map a.eval) hsz hC hr.wr.Slt;unfold Oper.wp;rw[zi0 hv hm hent1,Oper.upon_enter];refine hc.mono fun e w' ⟨v,r,he,hpr,hb,hC⟩=>?_;subst he;subst hpr;exact hK _ _ ⟨_,M,(hr.below hb).put hd (.p hC)⟩
  | bsl z zs len ps=>
   obtain⟨hn,h0,hb⟩:=hqo;obtain⟨dst,oop,type,pos,after,guard⟩:=o;simp only at hop hK hd;obtain⟨t,parts,e,ht,hz,hlim,hzs,hzl,hps,rfl⟩:∃t parts e,P.underlying t=some (.slice e)∧Za7 P e=some z∧(len*z≤16777216∧z≠0)∧zeros P e=some zs∧zs.length=z∧Zcf parts.toList=some ps∧oop=.buildSlice t len parts:=by
    have hcall:∀c,oop=.call c→(AOp.bsl z zs len ps).makes=false:=fun c hc=>ziz (P:=P) (by rw[←hc];exact hop);have hop':=za1 hop;clear hop;rcases hop' with hop | ⟨k,xs,he,_⟩
    rotate_left
    ·cases he
    cases oop<;>simp only[Zbo]at hop
    case buildSlice t len' parts=>
     split at hop
     ·rename_i e ht;obtain⟨z',hz,hop1⟩:=bind_some hop;split at hop1
      ·rename_i hlim;obtain⟨zs',hzs,hop2⟩:=bind_some hop1;split at hop2
       ·rename_i hzl;obtain⟨ps',hps,he⟩:=map_some hop2;cases he;exact⟨t,parts,e,ht,hz,hlim,hzs,hzl,hps,rfl⟩
       ·cases hop2
      ·cases hop1
     ·cases hop
    case call c=>exact absurd (hcall c rfl) (by simp[AOp.makes])
    all_goals
     exfalso;revert hop
     repeat' split
     all_goals simp[Yg]
   obtain⟨h1,h2⟩:=zet hr.env _ _ hps
   -- parts without boxes are the same,whatever boxes there are
   have pure1:∀x:AV,noRef x=true→Zbg h x=Zbg [] x∧refs x=[]:=by
    intro x hx;have hc:∀c:AV,pureC c=true→Zb8 h c=Zb8 [] c:=by intro c hc;cases c<;>first | rfl | cases hc
    cases x<;>try (exact⟨rfl,rfl⟩)
    case agg cs=>
     simp only[noRef,Yh]at hx;refine⟨?_,?_⟩
     ·simp only[Zbg];have:cs.mapM (Zb8 h)=cs.mapM (Zb8 []):=by
       clear hb h2 h1 hps hn hop hK
       induction cs with
       | nil=>rfl
       | cons c cs ih=>simp only[Ycs,hc c (hx c (by simp)),ih fun d hd=>hx d (by simp[hd])]
      rw[this]
     ·simp only[refs,List.flatMap_eq_nil_iff];intro c hcm;have:=hx c hcm;cases c<;>first | rfl | cases this
    all_goals cases hx
   have hq:∀qs:List (Nat×AV),(qs.all fun p=>noRef p.2)=true→Zgn h qs=Zgn [] qs∧(qs.flatMap fun p=>refs p.2)=[]:=by
    intro qs
    induction qs with
    | nil=>intro _;exact⟨rfl,rfl⟩
    | cons q qs ih=>
     intro hall;obtain⟨i,y⟩:=q;simp only[Ybz,Yo]at hall;obtain⟨e1,e2⟩:=ih hall.2;obtain⟨e3,e4⟩:=pure1 y hall.1;exact⟨by simp only[Zgn,e1,e3],by simp only[Ydh,e4,e2,Ybc]⟩
   obtain⟨e1,e2⟩:=hq _ hn;have hb':Zd2 z zs len h (ps.map fun p=>(p.1,ev ρ p.2))=some (x,h):=by
    unfold Zd2 at hb ⊢;rw[e1,e2];obtain⟨qs,hqs,hb1⟩:=bind_some hb;obtain⟨els,hels,he⟩:=map_some hb1;cases he;simp only[hqs,Yy,hels,Yb3,Zm]
   have e3:∀ρ:Operand→Value,(Array.map (fun(x:Nat×Operand)=>(x.fst,ρ x.snd)) parts).toList=parts.toList.map fun p=>(p.1,ρ p.2):=by intro ρ;simp
   obtain⟨v',w',S',M',h3,h4,h5⟩:=zk1 (parts:=Array.map (fun(x:Nat×Operand)=>(x.fst,a.eval x.snd)) parts) hr ht hz hlim.1 hlim.2 hzs hzl (by rw[e3];exact h1) (fun j v x hv hx=>h2 j v x (by rw[e3]at hv;exact hv) hx) hb';exact zdb (w':=w') (zgl h3) (hK _ _ ⟨S',M',h4.put hd h5⟩)
  | app z px py=>
   by_cases hx:px=.c (.sl [] .nl)
   ·subst hx;have hs:Zf7 z (ev ρ py)=some x:=hqo;obtain⟨dst,oop,type,pos,after,guard⟩:=o;simp only at hop hK hd;have hop':=za1 hop;clear hop;rcases hop' with hop | ⟨k,xs,he,_⟩
    rotate_left
    ·cases he
    cases oop<;>simp only[Zbo]at hop
    case call c=>
     obtain⟨callee,cargs,ats⟩:=c;cases callee with
     | invoke r m=>
      obtain⟨p,hp,hr1⟩:=bind_some hop;obtain⟨l,hl,he⟩:=map_some hr1;cases he
     | value fv=>
      cases fv<;>simp only at hop<;>try (cases hop;done)
      all_goals
       obtain⟨l,hl,he⟩:=map_some hop;cases he
     | builtin b=>
      simp only at hop;split at hop
      ·exfalso;revert hop
       repeat' split
       all_goals simp
      ·obtain⟨l,_,hop1⟩:=bind_some hop;split at hop1<;>cases hop1
      ·obtain⟨l,_,hop1⟩:=bind_some hop;split at hop1<;>cases hop1
      ·rename_i y1 y2 t u hargs hts;split at hop
       ·rename_i htu;subst htu;split at hop
        ·rename_i e ht;split at hop
         ·rename_i inf hi;split at hop
          ·rename_i hcond;obtain⟨h0,hby,hzs⟩:=hcond;obtain⟨p,hp,hop1⟩:=bind_some hop;obtain⟨q,hq,he⟩:=map_some hop1;cases he;obtain⟨zv,hzv,hzc⟩:∃zv,inf.zero=some zv∧zv.cells.size=inf.size:=by
            cases hzz:inf.zero with
            | none=>rw[hzz]at hzs;cases hzs
            | some zv=>rw[hzz]at hzs;exact⟨zv,rfl,by simpa using hzs⟩
           obtain⟨v',w',S',M',h1,h2,h3⟩:=zsh (P:=P) (ty:=type) hr ht hi h0 hby hzv hzc rfl (ev_C hr.env hp) (ev_C hr.env hq) hs;have ha:cargs=#[y1,y2]:=by rw[←Ych (xs:=cargs),hargs]
           have hat:ats=#[t,t]:=by rw[←Ych (xs:=ats),hts]
           subst ha;subst hat;exact zdb (w':=w') (by simp[execOp,resolve,invoke,builtin,h1]) (hK _ _ ⟨S',M',h2.put hd h3⟩)
          ·cases hop
         ·cases hop
        ·cases hop
       ·cases hop
      ·split at hop
       ·split at hop
        ·obtain⟨z,_,hop0⟩:=bind_some hop;split at hop0
         ·obtain⟨p,_,hop1⟩:=bind_some hop0;obtain⟨q,_,he⟩:=map_some hop1;cases he
         ·cases hop0
        ·cases hop
       ·cases hop
      ·cases hop
    all_goals
     exfalso;revert hop
     repeat' split
     all_goals simp[Yg]
   ·exact((znu hx).1 hqo).elim
  | _=>exact quiet hqo
 unfold QF at hq;cases g with
 | none=>exact run (zca hg a) hq
 | some tw=>
  obtain⟨t,want⟩:=tw;simp only at hq;rcases hq with ⟨hb,hqo⟩ | ⟨hb,hx⟩
  ·exact run (by rw[zni hg (hr.env t) hb];simp) hqo
  ·refine skip hx ?_;rcases hb with hb | hb
   ·rw[zni hg (hr.env t) hb];cases want<;>rfl
   ·exact zk5 hg (hr.env t) hb
end
end Go.Ab
end
section
namespace Go.Ab
open Go.RowKit
section
variable{P:Program}{ops:Array Oper}
theorem zej{md:Region.Mode}:∀(n k:Nat) (listed:Array Bool),Region.lexFrom md ops n k listed=true→(∀i,listed.getD i false=true→i<k)→∀i o,k≤i→i<k+n→ops[i]? = some o→∀e∈o.after,Region.binds md e=true→e.on<i
 | 0,k,listed,_,_,i,o,h1,h2,_,_,_,_=>by omega
 | n+1,k,listed,hB,hl,i,o,h1,h2,ho,e,he,hb=>by
  simp only[Region.lexFrom,Yo]at hB;obtain⟨⟨hr,_⟩,hB'⟩:=hB;by_cases hik:i=k
  ·subst hik;have hr':i∈Region.ready md ops listed:=by simpa using hr
   obtain⟨_,o',ho',hall⟩:=mem_ready.1 hr';rw[ho]at ho';cases ho';exact hl _ (hall e he hb)
  ·refine zej n (k+1) _ hB' (fun j hj=>?_) i o (by omega) (by omega) ho e he hb;by_cases hjk:k=j
   ·omega
   ·rw[getD_set_ne false hjk]at hj;have:=hl j hj;omega
theorem zsp(hB:Region.lexB .any ops=true):∀(i:Nat) (o:Oper),ops[i]? = some o→∀e∈o.after,Region.binds .any e=true→e.on<i:=by
 simp only[Region.lexB,Yo]at hB;intro i o ho;have hi:i<ops.size:=(Yc1.1 ho).1;exact zej ops.size 0 _ hB.2 (fun j hj=>by rw[getD_replicate_false]at hj;cases hj) i o (Yl _) (by omega) ho
theorem zp9{listed:Array Bool}(hB:Region.lexB .any ops=true)(hr:Region.ready .any ops listed=[])(hsz:listed.size=ops.size):∀i,i<ops.size→listed.getD i false=true:=by
 intro i
 induction i using Nat.strongRecOn with
 | _ i ih=>
  intro hi;cases hl:listed.getD i false with
  | true=>rfl
  | false=>
   have ho:ops[i]? = some (ops[i]'hi):=Y7 hi;have:i∈Region.ready .any ops listed:=mem_ready.2 ⟨getD_in (by omega) hl,_,ho,fun e he hb=>by
    have:=zsp hB i _ ho e he hb;exact ih e.on this (by omega)⟩
   rw[hr]at this;cases this
theorem zeu{listed:Array Bool}(hc:Clo .any ops listed):∀(n v i:Nat),(listed.getD i false=true∨i∈Region.ready .any ops listed)→Zep ops n v i=true→listed.getD v false=true
 | 0,_,_,_,h=>by cases h
 | n+1,v,i,hi,h=>by
  simp only[Zep]at h;split at h
  ·cases h
  ·rename_i o ho;obtain⟨e,he,hb⟩:=Array.any_eq_true'.1 h;simp only[Yo,Yav,beq_iff_eq]at hb;have hl:listed.getD e.on false=true:=by
    rcases hi with hi | hi
    ·exact hc.closed i o ho hi e he hb.1
    ·obtain⟨_,o',ho',hall⟩:=mem_ready.1 hi;rw[ho]at ho';cases ho';exact hall e he hb.1
   rcases hb.2 with hb2 | hb2
   ·rw[←hb2];exact hl
   ·exact zeu hc n v e.on (.inl hl) hb2
theorem zdq:∀(ws:List Nat) (m a b:Nat),chained ops ws=true→ws[m]? = some a→ws[m+1]? = some b→∃o,ops[b]? = some o∧∃e∈o.after,Region.binds .any e=true∧e.on=a
 | [],_,_,_,_,h,_=>by simp at h
 | [x],m,_,_,_,_,h=>by cases m<;>simp at h
 | x::y::r,m,a,b,hc,h1,h2=>by
  simp only[chained,Yo]at hc;cases m with
  | zero=>
   simp at h1 h2;subst h1;subst h2;have h3:=hc.1;split at h3
   ·rename_i o ho;obtain⟨e,he,hb⟩:=Array.any_eq_true'.1 h3;simp only[Yo,beq_iff_eq]at hb;exact⟨o,ho,e,he,hb.1,hb.2⟩
   ·cases h3
  | succ m=>exact zdq (y::r) m a b hc.2 (by simpa using h1) (by simpa using h2)
theorem zdr{ws:List Nat}{listed:Array Bool}(hch:chained ops ws=true)(hc:Clo .any ops listed):∀(d p v u:Nat),ws[p]? = some v→ws[p+d]? = some u→listed.getD u false=true→listed.getD v false=true
 | 0,p,v,u,h1,h2,hl=>by rw[Yx,h1]at h2;cases h2;exact hl
 | d+1,p,v,u,h1,h2,hl=>by
  have hlt:p+d<ws.length:=by have:=zbg h2;omega
  have hx:ws[p+d]? = some (ws[p+d]'hlt):=Ya hlt;obtain⟨o,ho,e,he,hb,hon⟩:=zdq ws (p+d) _ u hch hx h2;have:=hc.closed u o ho hl e he hb;rw[hon]at this;exact zdr hch hc d p v _ h1 hx this
theorem zcp{ws:List Nat}{f:Nat→Bool}:∀(p:Nat),p≤ws.length→(∀m v,ws[m]? = some v→(f v=true↔m<p))→(ws.filter f).length=p:=by
 induction ws with
 | nil=>intro p hp _;simp at hp;subst hp;rfl
 | cons x ws ih=>
  intro p hp h;have h0:=h 0 x rfl;cases p with
  | zero=>
   have hx:f x=false:=by simpa using h0
   simp only[Ycq,hx,Yz,if_false];exact ih 0 (Yl _) fun m v hv=>by
    have:=h (m+1) v (by simpa using hv);simpa using this
  | succ p=>
   have hx:f x=true:=h0.2 (Nat.succ_pos _);simp only[Ycq,hx,if_true,Yd];rw[ih p (by simpa using hp) fun m v hv=>by
    have:=h (m+1) v (by simpa using hv);simpa using this]
theorem zcf(l:List AO)(k:Nat):k∈Zk l↔∃ao,l[k]? = some ao∧ao.op.writes=true:=by
 unfold Zk;simp only[Yat,Yek];constructor
 ·rintro⟨⟨ao,i⟩,⟨h1,h2⟩,rfl⟩
  rw[Ydo]at h1;exact⟨ao,h1,h2⟩
 ·rintro⟨ao,h1,h2⟩
  exact⟨(ao,k),⟨by rw[Ydo];exact h1,h2⟩,rfl⟩
theorem zik(l:List AO):(Zk l).Pairwise (· < ·):=by
 unfold Zk;rw[List.pairwise_map];refine List.Pairwise.filter _ ?_;have key:∀(l:List AO) (k:Nat),(l.zipIdx k).Pairwise (fun a b=>a.2<b.2):=by
  intro l
  induction l with
  | nil=>intro k;simp
  | cons x l ih=>
   intro k;simp only[Ydk,List.pairwise_cons];refine⟨fun p hp=>?_,ih (k+1)⟩;obtain⟨a,i⟩:=p;have:=List.le_snd_of_mem_zipIdx hp;simp only at this ⊢;omega
 exact key l 0
theorem zi1{ws:List Nat}(hs:ws.Pairwise (· < ·)){p q a b:Nat}(h1:ws[p]? = some a)(h2:ws[q]? = some b)(hpq:p<q):a<b:=by
 rw[List.pairwise_iff_getElem]at hs;have hp:=zbg h1;have hq:=zbg h2;have:=hs p q hp hq hpq;rw[Ya hp]at h1;rw[Ya hq]at h2;cases h1;cases h2;exact this
theorem zsq{o:AO}{ρ:Nat→AV}{x:AV}(hf:o.op.freeE ρ=true)(h1 h2:Heap)(hq:QF P h1 o ρ x):QF P h2 o ρ x:=by
 unfold QF at *
 split at hq
 ·exact(zo8 hf h1 h2).1 hq
 ·rcases hq with ⟨ha,hb⟩ | hq
  ·exact .inl ⟨ha,(zo8 hf h1 h2).1 hb⟩
  ·exact .inr hq
theorem zwz{o:AO}{e:Env}{h:Heap}{older:List Heap}{K:AV→Prop}(hw:o.op.writes=false)(hk:qK P o e h older K):∃x,QF P h o e.get x∧(o.op.freeE e.get=false→∀h'∈older,QF P h' o e.get x)∧K x:=by
 obtain⟨dst,guard,op⟩:=o;have one:opQ P op e h older K→∃x,QOp P op e.get h x∧(op.freeE e.get=false→∀h'∈older,QOp P op e.get h' x)∧K x:=by
  intro hk;by_cases hap:∃z x0 y,op=.app z x0 y
  ·obtain⟨z,x0,y,rfl⟩:=hap;by_cases hx:x0=.c (.sl [] .nl)
   ·subst hx;obtain⟨x,h1,h2⟩:=hk;exact⟨x,h1,fun hf=>(by cases hf),h2⟩
   ·exact absurd (show (AOp.app z x0 y).writes=false from hw) (by rw[ziu hx];simp)
  cases op
  case app=>exact absurd ⟨_,_,_,rfl⟩ hap
  case call f args=>
   obtain⟨ys,⟨h1,h2⟩,r,h3,h4⟩:=hk;exact⟨r,⟨ys,h1,h3⟩,fun hf h' hh=>⟨ys,h2 hf h' hh,h3⟩,h4⟩
  all_goals simp only[opQ]at hk
  all_goals first
   | (obtain⟨h1,r,h2,h3⟩:=hk;exact⟨r,⟨h1,h2⟩,fun hf=>(by cases hf),h3⟩)
   | (obtain⟨h0,t,y,f,h1,h2,h3,r,h4,h5⟩:=hk;exact⟨r,⟨h0,t,y,f,h1,h2,h3,h4⟩,fun hf=>(by cases hf),h5⟩)
   | (obtain⟨h1,⟨r,h'⟩,h2,h3⟩:=hk;exact⟨r,⟨h1,h',h2⟩,fun hf=>(by cases hf),h3⟩)
   | (obtain⟨x,hx,h2,hK⟩:=hk;exact⟨x,hx,fun hf=>(by simp only[AOp.freeE]at hf;simp only[hf]at h2;exact h2),hK⟩)
 unfold qK at hk;unfold QF;cases guard with
 | none=>exact one hk
 | some tw=>
  obtain⟨t,want⟩:=tw;simp only at hk ⊢;split at hk
  ·rename_i v hv;by_cases hvw:v=want
   ·rw[if_pos hvw]at hk;obtain⟨x,h1,h2,h3⟩:=one hk;exact⟨x,.inl ⟨by rw[hv,hvw],h1⟩,fun hf h' hh=>.inl ⟨by rw[hv,hvw],h2 hf h' hh⟩,h3⟩
   ·rw[if_neg hvw]at hk;have:e.get t=.b (!want):=by
     rw[hv];congr 1;cases v<;>cases want<;>simp_all
    exact⟨.tup [],.inr ⟨.inl this,rfl⟩,fun _ _ _=>.inr ⟨.inl this,rfl⟩,hk⟩
  ·rename_i hv;exact⟨.tup [],.inr ⟨.inr hv,rfl⟩,fun _ _ _=>.inr ⟨.inr hv,rfl⟩,hk⟩
  ·exact hk.elim
def FD(P:Program)(ops:Array Oper)(aos:List AO)(H:Nat→Heap)(C:Nat→Nat)(i:Nat)(ρ:Nat→AV)(x:AV):Prop:=
 ∃ao,aos[i]? = some ao ∧
  match ao.op.writes with
  | true=>ao.guard=none∧∃p,(Zk aos)[p]? = some i∧stepW ao.op ao.dst ρ (H p) (C p)=some (x,H (p+1),C (p+1))
  | false=>∀j,Zhh ops (Zk aos) i≤j→j≤Zfv ops (Zk aos) i→QF P (H j) ao ρ x
theorem znj{aos:List AO}{K:St→Prop}(hok:Zeq ops aos=true)(hdst:∀(i:Nat) (o:Oper),ops[i]? = some o→∃ao:AO,aos[i]? = some ao∧ao.dst=o.dst) :
  ∀(l:List Oper) (k:Nat) (rest:List AO) (e:Env) (h:Heap) (clk:Nat) (older:List Heap) (oc:List Nat) (pend:Zjp),(∀i,l[i]? = ops[k+i]?)→(∀i,rest[i]? = aos[k+i]?)→l.length=rest.length→oc.length=older.length →
   older.length≤(Zk aos).length→(∀m v,(Zk aos)[m]? = some v→(v<k↔m<older.length)) →
   Zf9 P ((rest.zipIdx k).map fun p=>⟨p.1,Zhh ops (Zk aos) p.2,Zfv ops (Zk aos) p.2⟩) e h clk older pend K →
   ∃(H:Nat→Heap) (C:Nat→Nat),(∀m x,older.reverse[m]? = some x→H m=x)∧(∀m x,oc.reverse[m]? = some x→C m=x)∧H older.length=h∧C older.length=clk∧(∀p∈pend,∀j,older.length<j→j≤older.length+p.1→j≤(Zk aos).length→p.2 (H j)) ∧
    Zfm ops (FD P ops aos H C) (fun ρ=>∃e,ρ=Env.get e∧K ⟨e,H (Zk aos).length,C (Zk aos).length⟩) l k e.get
 | [],k,rest,e,h,clk,older,oc,pend,hl,hr,hlen,hoc,hle,hws,hk=>by
  have:rest=[]:=by cases rest with | nil=>rfl | cons _ _=>simp at hlen
  subst this;simp only[List.zipIdx_nil,Yc7,Zf9]at hk;have hfull:older.length=(Zk aos).length:=by
   rcases Yq older.length (Zk aos).length with hlt | hge
   ·exfalso;have hx:(Zk aos)[older.length]? = some ((Zk aos)[older.length]'hlt):=Ya hlt;have h1:=(hws _ _ hx);have hmem:((Zk aos)[older.length]'hlt)∈Zk aos:=Yaf _;obtain⟨ao,h2,_⟩:=(zcf aos _).1 hmem;have h3:¬ ((Zk aos)[older.length]'hlt)<k:=fun hh=>by have:=h1.1 hh;omega
    have h4:=hr (((Zk aos)[older.length]'hlt)-k);rw[show k+(((Zk aos)[older.length]'hlt)-k)=((Zk aos)[older.length]'hlt) by omega,h2]at h4;simp at h4
   ·omega
  refine⟨fun m=>if m=older.length then h else (older.reverse[m]?).getD [],fun m=>if m=older.length then clk else (oc.reverse[m]?).getD 0,fun m x hx=>?_,fun m x hx=>?_,by simp,by simp,fun p _ j h1 _ h3=>by omega,⟨e,rfl,?_⟩⟩
  ·have:=zbg hx;simp only[List.length_reverse]at this;have hne:m≠older.length:=by omega
   simp only[hne,if_false,hx];rfl
  ·have:=zbg hx;simp only[List.length_reverse]at this;have hne:m≠older.length:=by omega
   simp only[hne,if_false,hx];rfl
  ·rw[←hfull];simpa using hk
 | o::l,k,rest,e,h,clk,older,oc,pend,hl,hr,hlen,hoc,hle,hws,hk=>by
  cases rest with
  | nil=>simp at hlen
  | cons ao rest=>
   have ho:ops[k]? = some o:=by simpa using (hl 0).symm
   have hao:aos[k]? = some ao:=by simpa using (hr 0).symm
   obtain⟨ao',h1,hd⟩:=hdst k o ho;rw[hao]at h1;cases h1;have hl':∀i,l[i]? = ops[(k+1)+i]? := fun i=>by have:=hl (i+1);simp only[Yb0]at this;rw[this];congr 1;omega
   have hr':∀i,rest[i]? = aos[(k+1)+i]? := fun i=>by have:=hr (i+1);simp only[Yb0]at this;rw[this];congr 1;omega
   have hlen':l.length=rest.length:=by simpa using hlen
   simp only[Ydk,Y2,Zf9]at hk;have hsort:=zik aos;unfold Zeq at hok;simp only[Yo,Yh]at hok;cases hwr:ao.op.writes with
   | true=>
    rw[hwr]at hk;simp only at hk;obtain⟨hgn,⟨x,h',clk'⟩,hst,hpd,hk2⟩:=hk;have hkm:k∈Zk aos:=(zcf aos k).2 ⟨ao,hao,hwr⟩;obtain⟨m,hm⟩:=Yau hkm;have hmo:m=older.length:=by
     have h1:=hws m k hm;have h2:¬ m<older.length:=fun hh=>Ybs k (h1.2 hh);rcases Yq older.length m with h3 | h3
     ·exfalso;have hlt:older.length<(Zk aos).length:=by have:=zbg hm;omega
      have hx:(Zk aos)[older.length]? = some ((Zk aos)[older.length]'hlt):=Ya hlt;have h4:=zi1 hsort hx hm h3;have:=(hws _ _ hx).1 h4;omega
     ·omega
    subst hmo;obtain⟨H,C,hH,hC,hHe,hCe,hPe,hlex⟩:=znj (K:=K) (by unfold Zeq;simp only[Yo,Yh];exact hok) hdst l (k+1) rest (Zq e ao.dst x) h' clk' (h::older) (clk::oc) (pend.map fun p=>(p.1-1,p.2)) hl' hr' hlen' (by simp[hoc]) (by have:=zbg hm;simp;omega) (fun m v hv=>by
     have h1:=hws m v hv;simp only[Yd];constructor
     ·intro hlt;rcases Yq v k with h2 | h2
      ·have:=h1.1 h2;omega
      ·have hvk:v=k:=by omega
       subst hvk;rcases Ybr m older.length with h3 | h3 | h3
       ·omega
       ·omega
       ·have:=zi1 hsort hm hv h3;omega
     ·intro hlt;rcases Yq m older.length with h3 | h3
      ·have:=h1.2 h3;omega
      ·have:m=older.length:=by omega
       subst this;rw[hm]at hv;cases hv;omega) hk2
    refine⟨H,C,fun m x hx=>hH m x ?_,fun m x hx=>hC m x ?_,?_,?_,fun p hp j h1 h2 h3=>?_,?_⟩
    ·simp only[List.reverse_cons];rw[Yr (by have:=zbg hx;simpa using this)];exact hx
    ·simp only[List.reverse_cons];rw[Yr (by have:=zbg hx;simpa using this)];exact hx
    ·exact hH older.length h (by simp)
    ·refine hC older.length clk ?_;rw[←hoc];simp
    ·simp only[Yd]at hHe hPe;rcases Yq (older.length+1) j with h4 | h4
     ·exact hPe (p.1-1,p.2) (Yat.2 ⟨p,hp,rfl⟩) j h4 (by simp only;omega) h3
     ·have:j=older.length+1:=by omega
      subst this;rw[hHe];exact hpd p hp (by omega)
    ·refine⟨x,⟨ao,hao,?_⟩,?_⟩
     ·simp only[hwr];refine⟨hgn,older.length,hm,?_⟩;have e1:H older.length=h:=hH older.length h (by simp);have e2:C older.length=clk:=by refine hC older.length clk ?_;rw[←hoc];simp
      simp only[Yd]at hHe hCe;rw[e1,e2,hHe,hCe];exact hst
     ·rw[←hd,←zdp];exact hlex
   | false=>
    rw[hwr]at hk;simp only at hk;obtain⟨x,hq1,hq2,hk2⟩:=zwz hwr hk;have hkm:k∉Zk aos:=fun hmem=>by
     obtain⟨ao2,h1,h2⟩:=(zcf aos k).1 hmem;rw[hao]at h1;cases h1;rw[hwr]at h2;cases h2
    obtain⟨H,C,hH,hC,hHe,hCe,hPe,hlex⟩:=znj (K:=K) (by unfold Zeq;simp only[Yo,Yh];exact hok) hdst l (k+1) rest (Zq e ao.dst x) h clk older oc ((Zfv ops (Zk aos) k-older.length,fun h'=>QF P h' ao e.get x)::pend) hl' hr' hlen' hoc hle (fun m v hv=>by
     have h1:=hws m v hv;have:v≠k:=fun he=>hkm (by rw[←he];exact Yj hv);constructor
     ·intro hlt;exact h1.1 (by omega)
     ·intro hlt;have:=h1.2 hlt;omega) hk2
    refine⟨H,C,hH,hC,hHe,hCe,fun p hp=>hPe p (Ys _ hp),x,⟨ao,hao,?_⟩,?_⟩
    ·simp only[hwr];intro j hlo hhi;cases hfr:ao.op.freeE e.get with
     | true=>exact zsq hfr h _ hq1
     | false=>
      rcases Yq j older.length with hj | hj
      ·have hx:older.reverse[j]? = some (older.reverse[j]'(by simpa using hj)):=Ya _;rw[hH j _ hx];refine hq2 hfr _ ?_;rw[List.getElem_reverse];have hidx:older.length-1-j<older.length-Zhh ops (Zk aos) k:=by omega
       have hx2:(older.take (older.length-Zhh ops (Zk aos) k))[older.length-1-j]? = some (older[older.length-1-j]'(by omega)):=by
        rw[Y0,if_pos hidx,Ya]
       exact Yj hx2
      ·rcases Yq older.length j with hj2 | hj2
       ·have hle2:Zfv ops (Zk aos) k≤(Zk aos).length:=List.length_filter_le _ _;exact hPe _ Y9 j hj2 (by simp only;omega) (by omega)
       ·have:j=older.length:=by omega
        subst this;rw[hHe];exact hq1
    ·rw[←hd,←zdp];exact hlex
end
end Go.Ab
end
section
namespace Go.Ab
open Go.RowKit
section
variable{P:Program}{ops:Array Oper}{cx:Cx}{w:World}{a:Act}
theorem zb3{nt:Nat}{ops:Array Oper}:∀(l:List Oper) (aos:List AO),Zau P nt ops l=some aos→∀(i:Nat) (o:Oper),l[i]? = some o→∃ao,aos[i]? = some ao∧Zcw P nt ops o=some ao
 | [],aos,_,i,o,h=>by simp at h
 | o'::l,aos,hres,i,o,h=>by
  obtain⟨ao,hao,hres1⟩:=bind_some hres;obtain⟨rest,hrest,rfl⟩:=map_some hres1;cases i with
  | zero=>simp at h;subst h;exact⟨ao,rfl,hao⟩
  | succ i=>exact zb3 l rest hrest i o (by simpa using h)
theorem zb4{nt:Nat}{ops:Array Oper}:∀(l:List Oper) (m:List AO),Zau P nt ops l=some m→l.length=m.length
 | [],m,h=>by simp only[Zau,Option.some.injEq]at h;subst h;rfl
 | o::l,m,h=>by
  obtain⟨ao,_,h1⟩:=bind_some h;obtain⟨rest,hr,rfl⟩:=map_some h1;simp[zb4 l rest hr]
theorem zev{o:Oper}{op:AOp}{ρ ρ':Nat→AV}{d:Option Nat}{h:Heap}{clk:Nat}(hop:Zd1 P o.op=some op)(hρ:∀t,Operand.tmp t∈o.op.operands.toList→ρ t=ρ' t):stepW op d ρ h clk=stepW op d ρ' h clk:=by
 obtain⟨dst,oop,type,pos,after,guard⟩:=o;have hop':=za1 hop;clear hop;rcases hop' with hop | ⟨k,xs,he,hx⟩
 rotate_left
 ·subst he;rcases hx with hx | ⟨rfl,rfl⟩
  ·have e1:xs.map (ev ρ)=xs.map (ev ρ'):=List.map_congr_left fun y hy=>by
    cases y with
    | t t=>exact hρ t (zo9 hx t hy)
    | c v=>rfl
   simp only[stepW,e1]
  ·rfl
 cases oop<;>simp only[Zbo]at hop<;>try (cases hop;done)
 case alloc t=>obtain⟨zs,_,rfl⟩:=map_some hop;rfl
 case store t y v=>
  obtain⟨n,hn,hop1⟩:=bind_some hop;obtain⟨p,hp,hop2⟩:=bind_some hop1;obtain⟨q,hq,rfl⟩:=map_some hop2
  grind[stepW,zal,Op.operands]
 case makeSlice t l c=>
  split at hop
  ·split at hop
   ·split at hop
    ·obtain⟨zs,_,hop1⟩:=bind_some hop;split at hop1
     ·obtain⟨p,hp,hop2⟩:=bind_some hop1;obtain⟨q,hq,rfl⟩:=map_some hop2
      grind[stepW,zal,Op.operands]
     grind
    grind
   grind
  grind
 case call c=>
  obtain⟨callee,cargs,ats⟩:=c;cases callee with
  | invoke r m=>
   obtain⟨p,hp,hr1⟩:=bind_some hop;obtain⟨l,hl,rfl⟩:=map_some hr1
   rfl
  | value fv=>
   cases fv<;>simp only at hop<;>try (cases hop;done)
   all_goals
    obtain⟨l,hl,rfl⟩:=map_some hop
    rfl
  | builtin b=>
   simp only at hop;split at hop
   ·split at hop
    ·obtain⟨p,_,rfl⟩:=map_some hop;rfl
    ·obtain⟨p,_,rfl⟩:=map_some hop;rfl
    ·cases hop;rfl
    grind
   ·obtain⟨l,_,hop1⟩:=bind_some hop;split at hop1<;>cases hop1;rfl
   ·obtain⟨l,_,hop1⟩:=bind_some hop;split at hop1<;>cases hop1;rfl
   ·split at hop
    ·split at hop
     ·split at hop
      ·split at hop
       ·obtain⟨p,hp,hop1⟩:=bind_some hop;obtain⟨q,hq,rfl⟩:=map_some hop1
        grind[stepW,zal,Op.operands,Call.operands]
       grind
      grind
     grind
    grind
   ·split at hop
    ·split at hop
     ·obtain⟨z,_,hop0⟩:=bind_some hop;split at hop0
      ·obtain⟨p,_,hop1⟩:=bind_some hop0;obtain⟨q,_,rfl⟩:=map_some hop1
       rfl
      grind
     grind
    grind
   grind
 all_goals
  have:stepW op d ρ h clk=none∧stepW op d ρ' h clk=none:=by
   revert hop
   repeat' split
   all_goals (intro hop;simp[Yg]at hop)
   all_goals first
    | (subst hop;exact⟨rfl,rfl⟩)
    | (obtain⟨_,_,rfl⟩:=hop;exact⟨rfl,rfl⟩)
    | (obtain⟨_,_,_,rfl⟩:=hop;exact⟨rfl,rfl⟩)
    | (obtain⟨_,_,_,_,rfl⟩:=hop;exact⟨rfl,rfl⟩)
    | (obtain⟨_,_,_,_,_,rfl⟩:=hop;exact⟨rfl,rfl⟩)
    | (obtain⟨_,_,_,_,_,_,rfl⟩:=hop;exact⟨rfl,rfl⟩)
    | (obtain⟨_,_,_,_,_,_,_,rfl⟩:=hop;exact⟨rfl,rfl⟩)
    | (obtain⟨_,_,_,_,_,_,_,_,rfl⟩:=hop;exact⟨rfl,rfl⟩)
    | (obtain⟨_,_,_,_,_,_,_,_,_,rfl⟩:=hop;exact⟨rfl,rfl⟩)
    | (obtain⟨_,_,_,_,_,_,_,_,_,_,_,rfl⟩:=hop;exact⟨rfl,rfl⟩)
  rw[this.1,this.2]
def cnt(ws:List Nat)(listed:Array Bool):Nat:=(ws.filter fun v=>listed.getD v false).length
theorem zg2{f g:Nat→Bool}:∀(ws:List Nat),(∀v∈ws,f v=true→g v=true)→(ws.filter f).length≤(ws.filter g).length
 | [],_=>Yf _
 | x::ws,h=>by
  have ih:=zg2 ws fun v hv=>h v (by grind)
  grind
theorem znk{nt id:Nat}{aos:List AO}{st:St}{K:St→Prop}{Q:Exit→Act→World→Prop}(hnt:nt=cx.nt)(hm:P.follows .mixedOrders=true)(hB:Zeq ops aos=true)
  (hres:Zau P nt ops ops.toList=some aos) (hk:Zkz P (Ziq ops aos) st K) (hr:Rel cx st a w) (hQ:∀st' a' w',K st'→Rel cx st' a' w'→Q .normal a' w'):(Code.region id ops true).wp P Q a w:=by
 have hget':∀i o,ops[i]? = some o→∃ao,aos[i]? = some ao∧Zcw P nt ops o=some ao:=fun i o ho=>zb3 ops.toList aos hres i o (by grind);have hlen:=zb4 ops.toList aos hres;obtain⟨S,M,hrf⟩:=hr;have hok:=hB;unfold Zeq at hB;simp only[Yo,Yh]at hB;obtain⟨⟨hlexB,hch⟩,hall⟩:=hB;obtain⟨H,C,_,_,hH0,hC0,_,hlex⟩:=znj (P:=P) (ops:=ops) (aos:=aos) (K:=K) hok (fun i o ho=>by
  grind[zaw]) ops.toList 0 aos st.env st.heap st.clk [] [] [] (fun i=>by simp) (fun i=>by simp) hlen rfl (Yl _) (fun m v _=>by simp) hk
 simp only[Y1]at hH0 hC0;generalize hws:Zk aos=ws at *
 -- the writers that are done are the first ones
 have prefixOf:∀(listed:Array Bool),Clo .any ops listed→∀(p i:Nat),ws[p]? = some i→(i∈Region.ready .any ops listed)→∀m v,ws[m]? = some v→(listed.getD v false=true↔m<p):=by
  intro listed hc p i hp hi m v hv;have hun:=(mem_ready.1 hi).1;constructor
  ·intro hl;rcases Yq m p with h | h
   ·exact h
   ·have hp':ws[p+(m-p)]? = some v:=by grind
    have:=zdr hch hc (m-p) p i v hp hp' hl
    grind
  ·intro hmp;have hp1:ws[(p-1)+1]? = some i:=by grind
   have hx:ws[p-1]? = some (ws[p-1]'(by grind)):=Ya _;obtain⟨o,ho,e,he,hb,hon⟩:=zdq ws (p-1) _ i hch hx hp1;obtain⟨_,o',ho',hall'⟩:=mem_ready.1 hi;rw[ho]at ho';cases ho';have hl:=hall' e he hb;rw[hon]at hl;have hx':ws[m+(p-1-m)]? = some (ws[p-1]'(by grind)):=by grind
   exact zdr hch hc (p-1-m) m v _ hv hx' hl
 refine zgy (F:=FD P ops aos H C) (R:=fun listed ρ a w=>Zfc cx (C (cnt ws listed)) (H (cnt ws listed)) ρ a w) (Q:=fun ρ=>∃e,ρ=Env.get e∧K ⟨e,H ws.length,C ws.length⟩) (ρ:=st.env.get) hm hlexB ?_ ?_ ?_ ?_ hlex
 ·-- each value hangs on what the operation looks at
  intro i o ho ρ ρ' hρ x ⟨ao,hao,hq⟩;obtain⟨ao',h1,h2⟩:=hget' i o ho;rw[hao]at h1;cases h1;refine⟨ao,hao,?_⟩;obtain⟨op,g,hop,hg,rfl,_⟩:=zaw h2;have hops:∀t,Operand.tmp t∈o.op.operands.toList→ρ t=ρ' t:=fun t ht=>hρ t (by
   grind[Oper.looksAt])
  have quiet:∀h,QF P h ⟨o.dst,g,op⟩ ρ x→QF P h ⟨o.dst,g,op⟩ ρ' x:=by
   intro h hq;unfold QF at hq ⊢;cases g with
   | none=>exact(zdu hop hops).1 hq
   | some tw=>
    grind[Zb7,map_some,Oper.looksAt,zdu]
  cases hwr:op.writes with
  | true=>
   simp only[hwr]at hq ⊢;obtain⟨h3,p,h4,h5⟩:=hq;exact⟨h3,p,h4,by rw[←zev hop hops];omega⟩
  | false=>
   grind
 ·intro i o ho listed ρ x a w K' hc hi ⟨ao,hao,hq⟩ hr hK';obtain⟨ao',h1,h2⟩:=hget' i o ho;rw[hao]at h1;cases h1;have hun:=(mem_ready.1 hi).1;have hisz:i<listed.size:=by grind
  cases hwr:ao.op.writes with
  | true=>
   simp only[hwr]at hq;obtain⟨hgn,p,hp,hst⟩:=hq;rw[hws]at hp;have hpre:=prefixOf listed hc p i hp hi;have hple:=zbg hp;have hcnt:cnt ws listed=p:=zcp p (by omega) fun m v hv=>hpre m v hv;have hcnt':cnt ws (listed.setIfInBounds i true)=p+1:=zcp (p+1) (by omega) fun m v hv=>by
    by_cases hvi:i=v
    ·have hmp:m=p:=by
      grind
     simp_all
    ·rw[getD_set_ne false hvi,hpre m v hv];constructor
     all_goals grind
   rw[hcnt]at hr;obtain⟨S,M,hr⟩:=hr;subst hnt;obtain⟨op,g,hop,hg,rfl,hd⟩:=zaw h2;simp only at hgn hst;subst hgn;obtain⟨v,w',S',M',h3,h4,h5⟩:=zdc hop hr hst;have hfin:K' (a.put o.dst v) w':=hK' _ _ (by
    rw[hcnt'];exact⟨S',M',h4.put hd h5⟩)
   unfold wpOp;simp only[ho,zca hg a,if_true]
   grind[zdb,Oper.wp,Oper.upon_skip]
  | false=>
   simp only[hwr]at hq;rw[hws]at hq;have hnm:i∉ws:=fun hmem=>by
    grind[zcf]
   have hlo:Zhh ops ws i≤cnt ws listed:=zg2 ws fun v _ hv=>zeu hc _ v i (.inr hi) hv;have hhi:cnt ws listed≤Zfv ops ws i:=zg2 ws fun v _ hv=>by
    grind[zeu]
   have hcnt':cnt ws (listed.setIfInBounds i true)=cnt ws listed:=by
    unfold cnt;congr 1;refine List.filter_congr fun v hv=>?_;have:i≠v:=fun he=>hnm (by grind)
    simp_all
   refine zd6 ho hnt h2 (hq _ hlo hhi) hr fun a' w' hr'=>hK' a' w' ?_
   grind
 ·intro listed ρ a w hc hready hr ⟨e,he,hK⟩;subst he;have hfull:cnt ws listed=ws.length:=zcp ws.length (Yf _) fun m v hv=>by
   have hvm:v∈Zk aos:=by grind
   obtain⟨ao,h1,_⟩:=(zcf aos v).1 hvm;have hvl:v<ops.size:=by grind
   have:=zp9 hlexB hready hc.size v hvl
   grind
  rw[hfull]at hr;obtain⟨S,M,hr⟩:=hr;exact hQ _ a w hK ⟨S,M,hr⟩
 ·have h0:cnt ws (Array.replicate ops.size false)=0:=zcp 0 (Yl _) fun m v hv=>by
   rw[getD_replicate_false];simp
  rw[h0,hH0,hC0];exact Zfc.drawn ⟨S,M,hrf⟩
end
end Go.Ab
end
section
namespace Go.Ab
open Go.RowKit
def Zfd(P:Program)(tl:List AO):List AO→Env→Heap→Nat→(St→Prop)→Prop
 | [],e,h,clk,K=>Zec P tl ⟨e,h,clk⟩ K
 | o::r,e,h,clk,K=>qK P o e h [] fun x=>Zfd P tl r (Zq e o.dst x) h clk K
section
variable{P:Program}{ops:Array Oper}{md:Region.Mode}{F:Nat→(Nat→AV)→AV→Prop}
def Zgr(md:Region.Mode)(ops:Array Oper)(F:Nat→(Nat→AV)→AV→Prop)(n:Nat)(L:Array Bool→(Nat→AV)→Prop):Nat→Array Bool→(Nat→AV)→Prop
 | 0,listed,ρ=>L listed ρ
 | f+1,listed,ρ=>
  Region.ready md ops listed≠[]∧∀i∈Region.ready md ops listed,i<n∧fOp ops F i (Zgr md ops F n L f (listed.setIfInBounds i true)) ρ
theorem zg3(hL:Ze8 ops F){n i:Nat}{oi:Oper}{v:AV}{L:Array Bool→(Nat→AV)→Prop}(hi:ops[i]? = some oi)
  (hs:Region.sinkB md ops n=true) (hc:Region.chainB md ops n=true) (hn:n<ops.size) (hin:i<n)
  (hdone:∀listed ρ,L listed ρ→∀j∈Region.ready md ops listed,n≤j) :
  ∀(f:Nat) (listed:Array Bool) (ρ:Nat→AV),HeadInv md ops n listed →
   (∀j oj,ops[j]? = some oj→j≠i→listed.getD j true=false→(∀e∈oj.after,Region.binds md e=true→e.on≠i)→oi.apart ops oj=true) →
   i∈Region.ready md ops listed→F i ρ v →
   Zgr md ops F n L f (listed.setIfInBounds i true) (upd ρ oi.dst v)→Zgr md ops F n L (f+1) listed ρ:=by
 have take:∀{ρ:Nat→AV} {K:(Nat→AV)→Prop},F i ρ v→K (upd ρ oi.dst v)→fOp ops F i K ρ:=by
  grind[fOp]
 intro f
 induction f with
 | zero=>
  intro listed ρ inv _ hr hy H;have hun:=(mem_ready.1 hr).1;refine⟨fun h=>(by grind),fun j hj=>?_⟩;have hjn:j<n:=by
   rcases Yq j n with h | h
   ·exact h
   ·exact absurd hj (tail_waits hs hc hn inv _ i rfl hin hun j h)
  by_cases hji:j=i
  ·grind
  ·have:=hdone _ _ H j (ready_mono hj hji);omega
 | succ f ih=>
  intro listed ρ inv hfree hr hy H;have hun:=(mem_ready.1 hr).1;refine⟨fun h=>(by grind),fun j hj=>?_⟩;have hjn:j<n:=by
   rcases Yq j n with h | h
   ·exact h
   ·exact absurd hj (tail_waits hs hc hn inv _ i rfl hin hun j h)
  refine⟨hjn,?_⟩;by_cases hji:j=i
  ·grind
  ·have h1:=(H.2 j (ready_mono hj hji)).2;obtain⟨hjun,oj,hoj,hall⟩:=mem_ready.1 hj;have hnot:∀e∈oj.after,Region.binds md e=true→e.on≠i:=fun e he hb heq=>by
    grind
   have h2:=zsb hL hi hoj (hfree j oj hoj hji hjun hnot) hy h1;have hfree':∀k ok,ops[k]? = some ok→k≠i→(listed.setIfInBounds j true).getD k true=false →
     (∀e∈ok.after,Region.binds md e=true→e.on≠i)→oi.apart ops ok=true:=fun k ok hk hki hun hno=>by
    refine hfree k ok hk hki ?_ hno;by_cases hjk:j=k
    ·grind
    simp_all
   refine zop (fun ρ' h3=>ih (listed.setIfInBounds j true) ρ' (inv.set hj hjn) hfree' (ready_mono hr (Ne.symm hji)) h3.1 ?_) h2
   grind[Array.setIfInBounds_comm]
theorem zk6(hL:Ze8 ops F){n g:Nat}{Lq:(Nat→AV)→Prop}(hs:Region.sinkB md ops n=true)(hc:Region.chainB md ops n=true)(hn:n<ops.size) :
  ∀(l:List Oper) (k:Nat) (listed:Array Bool) (ρ:Nat→AV),(∀j,j<l.length→l[j]? = ops[k+j]?)→k+l.length=n→HeadInv md ops n listed →
  Region.lexHead md ops g l.length k listed=true→Zfm ops F Lq l k ρ →
  Zgr md ops F n (fun listed' ρ'=>Region.seqB md ops g n listed'=true∧Lq ρ') l.length listed ρ
 | [],k,listed,ρ,_,hk,_,hB,h=>by
  have:k=n:=by simpa using hk
  subst this;exact⟨by simpa[Region.lexHead]using hB,h⟩
 | o::l,k,listed,ρ,hl,hk,inv,hB,h=>by
  have h0:ops[k]? = some o:=by simpa using (hl 0 (by simp)).symm
  simp only[Yd,Region.lexHead,Yo]at hB;obtain⟨⟨hr,hf⟩,hB'⟩:=hB;have hkn:k<n:=by simp only[Yd]at hk;omega
  have hr':k∈Region.ready md ops listed:=by simpa using hr
  obtain⟨v,hy,hK⟩:=h;exact zg3 hL h0 hs hc hn hkn (fun listed' a' hL=>seqB_ready hL.1) l.length listed ρ inv (Region.free_spec h0 hf) hr' hy
   (zk6 hL hs hc hn l (k+1) _ _ (fun j hj=>by have:=hl (j+1) (by simp;omega);simpa[Yao,Ya0 1 j]using this) (by simp only[Yd]at hk;omega) (inv.set hr' hkn) hB' hK)
theorem zek{n g:Nat}{L:Array Bool→(Nat→AV)→Prop}{R:(Nat→AV)→Act→World→Prop}{Q':Exit→Act→World→Prop}
  (hs:∀i o,i<n→ops[i]? = some o→∀ρ x a w (K:Act→World→Prop),F i ρ x→R ρ a w→(∀a' w',R (upd ρ o.dst x) a' w'→K a' w')→wpOp P ops Q' i K a w)
  (hQ:∀listed ρ a w,L listed ρ→R ρ a w→wpAny P md ops Q' g listed a w):∀(f:Nat) (listed:Array Bool) (ρ:Nat→AV) (a:Act) (w:World),R ρ a w →
  Zgr md ops F n L f listed ρ→wpAny P md ops Q' (f+g) listed a w
 | 0,_,_,_,_,hr,h=>by rw[Yah];exact hQ _ _ _ _ h hr
 | f+1,listed,ρ,a,w,hr,h=>by
  rw[show f+1+g=(f+g)+1 by omega];refine⟨fun h0=>absurd h0 h.1,fun i hi=>?_⟩;obtain⟨hin,h2⟩:=h.2 i hi;obtain⟨_,o,ho,_⟩:=mem_ready.1 hi;unfold fOp at h2;simp only[ho]at h2;obtain⟨x,hx,hK⟩:=h2;exact hs i o hin ho ρ x a w _ hx hr fun a' w' hr'=>zek hs hQ f _ _ a' w' hr' hK
end
section
variable{P:Program}{ops:Array Oper}{cx:Cx}{w:World}{a:Act}
theorem znl{l:List AO}{n:Nat}(h:Zht ops l=some n):(∀ao∈l.take n,ao.op.writes=false)∧Region.lexTailB .any ops n=true:=by
 have:=Ydr h
 grind
def FT(P:Program)(aos:List AO)(n:Nat)(h:Heap)(i:Nat)(ρ:Nat→AV)(x:AV):Prop:=
 i<n∧∃ao,aos[i]? = some ao∧QF P h ao ρ x
theorem zk7{aos tl:List AO}{n:Nat}{h:Heap}{clk:Nat}{K:St→Prop}(hw:∀ao∈aos.take n,ao.op.writes=false)(hdst:∀(i:Nat) (o:Oper),ops[i]? = some o→∃ao:AO,aos[i]? = some ao∧ao.dst=o.dst) :
  ∀(l:List Oper) (k:Nat) (rest:List AO) (e:Env),(∀j,j<l.length→l[j]? = ops[k+j]?)→(∀j,j<rest.length→rest[j]? = aos[k+j]?)→l.length=rest.length→k+l.length=n →
   Zfd P tl rest e h clk K→Zfm ops (FT P aos n h) (fun ρ=>∃e,ρ=Env.get e∧Zec P tl ⟨e,h,clk⟩ K) l k e.get
 | [],k,rest,e,_,_,hlen,_,hk=>by
  have:rest=[]:=Ya3 (by simpa using hlen.symm);subst this;exact⟨e,rfl,hk⟩
 | o::l,k,rest,e,hl,hr,hlen,hkn,hk=>by
  cases rest with
  | nil=>simp at hlen
  | cons ao rest=>
   have h0:ops[k]? = some o:=by simpa using (hl 0 (by simp)).symm
   have h1:aos[k]? = some ao:=by simpa using (hr 0 (by simp)).symm
   obtain⟨ao',h2,hd⟩:=hdst k o h0;rw[h1]at h2;cases h2;simp only[Yd]at hkn;have hwr:ao.op.writes=false:=hw ao (Yj (i:=k) (by rw[Y0,if_pos (by omega)];exact h1));obtain⟨x,hq1,_,hk2⟩:=zwz hwr hk;refine⟨x,⟨by omega,ao,h1,hq1⟩,?_⟩;rw[←hd,←zdp];exact zk7 hw hdst l (k+1) rest _ (fun j hj=>by have:=hl (j+1) (by simp;omega);simpa[Yao,Ya0 1 j]using this) (fun j hj=>by have:=hr (j+1) (by simp;omega);simpa[Yao,Ya0 1 j]using this) (by simpa using hlen) (by omega) hk2
theorem zb8{nt:Nat}{ops:Array Oper}:∀(n:Nat) (l:List Oper) (aos:List AO),Zau P nt ops l=some aos→Zau P nt ops (l.drop n)=some (aos.drop n)
 | 0,l,aos,h=>h
 | n+1,[],aos,h=>by
  simp only[Zau,Option.some.injEq]at h;subst h
  rfl
 | n+1,o::l,aos,h=>by
  obtain⟨ao,_,h1⟩:=bind_some h;obtain⟨rest,hr,rfl⟩:=map_some h1;exact zb8 n l rest hr
theorem znm{nt id n:Nat}{aos:List AO}{st:St}{K:St→Prop}{Q:Exit→Act→World→Prop}(hnt:nt=cx.nt)(hm:P.follows .mixedOrders=true)(hB:Zht ops aos=some n)
  (hres:Zau P nt ops ops.toList=some aos) (hk:Zfd P (aos.drop n) (aos.take n) st.env st.heap st.clk K) (hr:Rel cx st a w) (hQ:∀st' a' w',K st'→Rel cx st' a' w'→Q .normal a' w'):(Code.region id ops true).wp P Q a w:=by
 obtain⟨hw,hT⟩:=znl hB;simp only[Region.lexTailB,Yo,decide_eq_true_eq]at hT;obtain⟨⟨⟨⟨_,hn⟩,hs⟩,hc⟩,hlex⟩:=hT;have hget':∀i o,ops[i]? = some o→∃ao,aos[i]? = some ao∧Zcw P nt ops o=some ao:=fun i o ho=>zb3 ops.toList aos hres i o (by grind);have hlen:=zb4 ops.toList aos hres;have htl:(ops.toList.take n).length=n:=by grind
 have hdl:(ops.toList.drop n).length=ops.size-n:=by simp
 have inv0:HeadInv .any ops n (Array.replicate ops.size false):=
  ⟨by simp,fun j oj _ hl=>(by rw[getD_replicate_false]at hl;grind),fun t _ ht=>getD_in (by grind) (getD_replicate_false _ _)⟩
 have hloc:Ze8 ops (FT P aos n st.heap):=by
  intro i o ho ρ ρ' hρ x ⟨hin,ao,hao,hq⟩;obtain⟨ao',h1,h2⟩:=hget' i o ho;rw[hao]at h1;refine⟨hin,ao,hao,?_⟩;obtain⟨op,g,hop,hg,rfl,_⟩:=zaw h2
  grind[Oper.looksAt,QF,zdu,Zb7,map_some]
 obtain⟨S,M,hrf⟩:=hr;have hlx:=zk7 (P:=P) (ops:=ops) (aos:=aos) (tl:=aos.drop n) (n:=n) (h:=st.heap) (clk:=st.clk) (K:=K) hw (fun i o ho=>by
  grind[zaw]) (ops.toList.take n) 0 (aos.take n) st.env (fun j hj=>by
   grind) (fun j hj=>by
   grind) (by grind) (by omega) hk
 have H:=zk6 (md:=.any) (g:=ops.size-n) hloc hs hc hn (ops.toList.take n) 0 _ st.env.get (fun j hj=>by
  grind) (by omega) inv0 (by grind) hlx
 refine wp_region_any hm ?_;have:=zek (P:=P) (md:=.any) (Q':=Q) (g:=ops.size-n) (F:=FT P aos n st.heap) (R:=fun ρ a w=>Zfc cx st.clk st.heap ρ a w) (fun i o hin ho ρ x a w K' ⟨_,ao,hao,hq⟩ hr hK'=>by
  grind[zd6]) (fun listed ρ a' w' hL hr'=>by
  obtain⟨hseq,e,rfl,hrun⟩:=hL;have hwl:wpList P ops Q (ops.toList.drop n) a' w':=zc2 hnt _ _ ⟨e,st.heap,st.clk⟩ K a' w' (zb8 n _ _ hres) hrun hr' hQ
  grind[wpAny_of_seq]) _ _ _ a { w with drawn:=w.drawn+1 } (Zfc.drawn ⟨S,M,hrf⟩) H
 grind
end
end Go.Ab
end
section
namespace Go.Ab
open Go.RowKit
mutual
def gnA:AV→List Nat
 | .sl _ _=>[]
 | .agg cs=>gnR cs
 | .tup cs=>gnR cs
 | .i _ _=>[]
 | .b _=>[]
 | .s _=>[]
 | .raw _=>[]
 | .ep _ _=>[]
 | .bs _ g _ _ _=>[g]
 | .ptr _ g _ _ _=>[g]
 | .fnp _ _ g _ _ _=>[g]
 | .fnv .. => []
 | .ifc _ x=>gnA x
 | .dead=>[]
def gnR:List AV→List Nat
 | []=>[]
 | c::r=>gnA c++gnR r
end
theorem zg4{g:Nat}:∀(cs:List AV),g∈gnR cs↔∃c∈cs,g∈gnA c
 | []=>by simp[gnR]
 | c::r=>by simp[gnR,zg4 r]
section
variable{w w':World}{S S':Nat→Nat→Prop}{M M':Map}{clk clk':Nat}
theorem zsr{vs:Array Value}{cs:List AV}(hl:vs.size=cs.length){c:AV}(hc:c∈cs):∃(j:Nat) (v:Value),vs[j]? = some v∧cs[j]? = some c:=by
 obtain⟨j,hj⟩:=Yau hc;have hlt:j<vs.size:=by have:=zbg hj;omega
 exact⟨j,vs[j],Y7 hlt,hj⟩
theorem CP.gn{v:Value}{x:AV}(h:CP w S v x):gnA x=[]:=by
 have key:∀(vs:Array Value) (cs:List AV),vs.size=cs.length→(∀(j:Nat) (v:Value) (c:AV),vs[j]? = some v→cs[j]? = some c→gnA c=[])→gnR cs=[]:=by
  intro vs cs hl ih;rw[List.eq_nil_iff_forall_not_mem];intro g hg;obtain⟨c,hc,hgc⟩:=(zg4 cs).1 hg;obtain⟨j,v,hv,hj⟩:=zsr hl hc;rw[ih j v c hv hj]at hgc;cases hgc
 induction h with
 | agg vs cs hl h1 _ ih=>simp only[gnA];exact key vs cs hl ih
 | tup vs cs hl _ ih=>simp only[gnA];exact key vs cs hl ih
 | _=>simp only[gnA]
theorem C.gn{v:Value}{x:AV}(h:C w S M clk v x):∀g∈gnA x,g<clk:=by
 have key:∀(vs:Array Value) (cs:List AV),vs.size=cs.length→(∀(j:Nat) (v:Value) (c:AV),vs[j]? = some v→cs[j]? = some c→∀g∈gnA c,g<clk)→∀g∈gnR cs,g<clk:=by
  intro vs cs hl ih g hg;obtain⟨c,hc,hgc⟩:=(zg4 cs).1 hg;obtain⟨j,v,hv,hj⟩:=zsr hl hc;exact ih j v c hv hj g hgc
 induction h with
 | p h=>rw[h.gn];intro g hg;cases hg
 | bs id g z off n v hg _ _=>intro g' h';simp only[gnA,Ya9]at h';omega
 | ptr id g z i o v hg _ _=>intro g' h';simp only[gnA,Ya9]at h';omega
 | fnp f id g z i o v hg _ _=>intro g' h';simp only[gnA,Ya9]at h';omega
 | agg vs cs hl h1 _ ih=>simp only[gnA];exact key vs cs hl ih
 | tup vs cs hl _ ih=>simp only[gnA];exact key vs cs hl ih
 | ifc t v x _ ih=>simp only[gnA];exact ih
theorem C.remap{v:Value}{x:AV}(h:C w S M clk v x)(hg:∀g∈gnA x,M' g=M g∧g<clk'):C w S M' clk' v x:=by
 induction h with
 | p h=>exact .p h
 | bs id g z off n v hg' h h1=>
  obtain⟨h2,h3⟩:=hg g (by simp[gnA]);exact .bs id g z off n v h3 (by rw[h2];exact h) h1
 | ptr id g z i o v hg' h h1=>
  obtain⟨h2,h3⟩:=hg g (by simp[gnA]);exact .ptr id g z i o v h3 (by rw[h2];exact h) h1
 | fnp f id g z i o v hg' h h1=>
  obtain⟨h2,h3⟩:=hg g (by simp[gnA]);exact .fnp f id g z i o v h3 (by rw[h2];exact h) h1
 | agg vs cs hl h1 _ ih=>
  refine .agg vs cs hl h1 fun j v c hv hc=>ih j v c hv hc fun g hgc=>hg g ?_;simp only[gnA];exact(zg4 cs).2 ⟨c,Yj hc,hgc⟩
 | tup vs cs hl _ ih=>
  refine .tup vs cs hl fun j v c hv hc=>ih j v c hv hc fun g hgc=>hg g ?_;simp only[gnA];exact(zg4 cs).2 ⟨c,Yj hc,hgc⟩
 | ifc t v x _ ih=>exact .ifc t v x (ih fun g hgx=>hg g (by simp only[gnA];exact hgx))
inductive MkF (i:BId):(Nat→AV)→Nat→Prop
 | ptr (z:Nat):MkF i (fun g=>.ptr i g z 0 0) z
 | bs (z n:Nat):MkF i (fun g=>.bs i g z 0 n) z
def Zd4(bx:Box)(g:Nat):Prop:=bx.kind=.str∧∃r∈bx.els,∃x∈r,g∈gnA x
theorem Zb4.remap{bx:Box}(hb:Zb4 w S M clk bx)(h1:M' bx.gen=M bx.gen)(h2:bx.gen<clk')(h3:∀g,Zd4 bx g→M' g=M g∧g<clk'):Zb4 w S M' clk' bx:=by
 obtain⟨_,b2,m,hm,b3⟩:=hb;refine⟨h2,b2,m,by rw[h1];exact hm,?_⟩;cases m with
 | none=>exact b3
 | some k=>
  obtain⟨arr,e,hh,hsz,hc,ho,hl⟩:=b3;refine⟨arr,e,hh,hsz,fun i r j c hi hj=>?_,ho,hl⟩;obtain⟨u,hu,hone,hC,hP⟩:=hc i r j c hi hj;refine⟨u,hu,hone,?_,hP⟩;by_cases hk:bx.kind=.str
  ·exact hC.remap fun g hg=>h3 g ⟨hk,r,Yj hi,c,Yj hj,hg⟩
  ·exact .p (hP hk)
theorem Zb4.gn{bx:Box}(hb:Zb4 w S M clk bx):bx.gen<clk∧∀g,Zd4 bx g→g<clk:=by
 obtain⟨b1,_,m,hm,b3⟩:=hb;refine⟨b1,fun g ⟨hk,r,hr,x,hx,hg⟩=>?_⟩;obtain⟨i,hi⟩:=Yau hr;obtain⟨j,hj⟩:=Yau hx;cases m with
 | none=>exact absurd hk b3.2
 | some k=>
  obtain⟨arr,e,hh,hsz,hc,ho,hl⟩:=b3;obtain⟨u,hu,hone,hC,hP⟩:=hc i r j x hi hj;exact hC.gn g hg
theorem RelF.regen{cx:Cx}{h:Heap}{ρ:Nat→AV}{a:Act}{w:World}{S:Nat→Nat→Prop}{M:Map}{d c g z:Nat}{k:Kind}{els:List (List AV)}{f:Nat→AV}{i0:BId}(hf:MkF i0 f z)
  (hr:RelF cx S M (c+1) ((i0,⟨c,k,z,els⟩)::h) (upd ρ (some d) (f c)) a w) (hgc:g<c) (hcx:cx.clk0≤g) (hnew:h.lookup i0=none)
  (henv:∀t,∀q∈gnA (ρ t),q≠g∧q<c) (hbox:∀id bx,h.lookup id=some bx→bx.gen≠g∧bx.gen<c∧∀q,Zd4 bx q→q≠g∧q<c)
  (hels:∀q,Zd4 ⟨c,k,z,els⟩ q→q≠g∧q<c) :
  RelF cx S (fun q=>if q=g then M c else if q=c then none else M q) c ((i0,⟨g,k,z,els⟩)::h) (upd ρ (some d) (f g)) a w:=by
 generalize hM2:(fun q=>if q=g then M c else if q=c then none else M q:Map)=M2;have m1:M2 g=M c:=by rw[←hM2];simp
 have m2:∀q,q≠g→q<c→M2 q=M q:=by intro q h1 h2;rw[←hM2];simp only[if_neg h1];rw[if_neg (by omega)]
 have m3:∀q m,M2 q=some m→(q=g∧M c=some m)∨(q≠g∧q≠c∧M q=some m):=by
  intro q m hq;rw[←hM2]at hq;simp only at hq;split at hq
  ·exact .inl ⟨‹_›,hq⟩
  ·split at hq
   ·cases hq
   ·exact .inr ⟨‹_›,‹_›,hq⟩
 have look:∀(b:BId) (bx:Box) (x:Box),((i0,x)::h).lookup b=some bx→(b=i0∧bx=x)∨(b≠i0∧h.lookup b=some bx):=by
  intro b bx x hb;simp only[Y3]at hb;split at hb
  ·rename_i he;cases hb;exact .inl ⟨eq_of_beq he,rfl⟩
  ·rename_i he;exact .inr ⟨fun e=>by subst e;simp at he,hb⟩
 have lookN:∀(b:BId) (x:Box),b≠i0→((i0,x)::h).lookup b=h.lookup b:=by
  intro b x hb;simp only[Y3];have:(b == i0)=false:=by simpa using hb
  rw[this]
 have lookS:∀(x:Box),((i0,x)::h).lookup i0=some x:=by intro x;simp[Y3]
 have hw:=hr.wr;refine⟨hr.size,hr.defers,fun t=>?_,⟨⟨fun b bx hb=>?_,fun q m hq=>?_,fun b bx b' bx' hb hb' he=>?_,fun q q' k' h1 h2=>?_⟩,⟨hw.ext.hS,hw.ext.hcell,by omega,fun q m hq hm=>?_,fun q k' arr e hq hm hb=>?_⟩,hw.fr,hw.Snew,hw.Slt,fun q k' hm=>?_⟩⟩
 ·have hC:=hr.env t;simp only[upd]at hC ⊢;by_cases ht:t=d
  ·rw[if_pos ht]at hC ⊢;cases hf with
   | ptr z=>
    obtain⟨_,h2,h3⟩:=hC.inv_ptr;exact .ptr _ _ _ _ _ _ hgc (by rw[m1];exact h2) h3
   | bs z n=>
    obtain⟨_,h2,h3⟩:=hC.inv_bs;exact .bs _ _ _ _ _ _ hgc (by rw[m1];exact h2) h3
  ·rw[if_neg ht]at hC ⊢;exact hC.remap fun q hq=>⟨m2 q (henv t q hq).1 (henv t q hq).2,(henv t q hq).2⟩
 ·rcases look b bx _ hb with ⟨rfl,rfl⟩ | ⟨hne,hl⟩
  ·have h0:=hw.heap.box _ _ (lookS ⟨c,k,z,els⟩);obtain⟨_,b2,m,hm,b3⟩:=h0;refine⟨hgc,b2,m,by rw[m1];exact hm,?_⟩;cases m with
   | none=>exact b3
   | some kk=>
    obtain⟨arr,e,hh,hsz,hc,ho,hl⟩:=b3;refine⟨arr,e,hh,hsz,fun i r j x hi hj=>?_,ho,hl⟩;obtain⟨u,hu,hone,hC,hP⟩:=hc i r j x hi hj;refine⟨u,hu,hone,?_,hP⟩;by_cases hk:k=.str
    ·refine hC.remap fun q hq=>?_;have:=hels q ⟨hk,r,Yj hi,x,Yj hj,hq⟩;exact⟨m2 q this.1 this.2,this.2⟩
    ·exact .p (hP hk)
  ·have h0:=hw.heap.box b bx (by rw[lookN b _ hne];exact hl);obtain⟨h1,h2,h3⟩:=hbox b bx hl;exact h0.remap (m2 _ h1 h2) h2 fun q hq=>⟨m2 q (h3 q hq).1 (h3 q hq).2,(h3 q hq).2⟩
 ·rcases m3 q m hq with ⟨rfl,_⟩ | ⟨_,hne,hm⟩
  ·exact⟨i0,_,lookS _,rfl⟩
  ·obtain⟨b,bx,hb,he⟩:=hw.heap.live q m hm;rcases look b bx _ hb with ⟨rfl,rfl⟩ | ⟨hnd,hl⟩
   ·exact absurd he.symm hne
   ·exact⟨b,bx,by rw[lookN b _ hnd];exact hl,he⟩
 ·rcases look b bx _ hb with ⟨rfl,rfl⟩ | ⟨hne,hl⟩<;>rcases look b' bx' _ hb' with ⟨rfl,rfl⟩ | ⟨hne',hl'⟩
  ·rfl
  ·exact absurd he.symm (hbox _ _ hl').1
  ·exact absurd he (hbox _ _ hl).1
  ·exact hw.heap.gens b bx b' bx' (by rw[lookN b _ hne];exact hl) (by rw[lookN b' _ hne'];exact hl') he
 ·rcases m3 q _ h1 with ⟨rfl,e1⟩ | ⟨n1,n2,e1⟩<;>rcases m3 q' _ h2 with ⟨rfl,e2⟩ | ⟨n1',n2',e2⟩
  ·rfl
  ·exact absurd (hw.heap.inj _ _ _ e1 e2).symm n2'
  ·exact absurd (hw.heap.inj _ _ _ e1 e2) n2
  ·exact hw.heap.inj _ _ _ e1 e2
 ·rcases m3 q m hm with ⟨rfl,_⟩ | ⟨_,_,e1⟩
  ·omega
  ·exact hw.ext.hM q m hq e1
 ·rcases m3 q _ hm with ⟨rfl,_⟩ | ⟨_,_,e1⟩
  ·omega
  ·exact hw.ext.hblk q k' arr e hq e1 hb
 ·rcases m3 q _ hm with ⟨rfl,e1⟩ | ⟨_,_,e1⟩
  ·exact hw.Mnew _ k' e1
  ·exact hw.Mnew q k' e1
theorem RelF.more{cx:Cx}{h:Heap}{ρ:Nat→AV}{a:Act}(hc:clk≤clk')(hr:RelF cx S M clk h ρ a w):RelF cx S M clk' h ρ a w:=by
 have hx:Ext w S M clk w S M clk':=⟨fun _ _ h=>h,fun _ _ _ _ h=>h,hc,fun _ _ _ h=>h,fun _ _ arr _ _ _ h=>⟨arr,h,rfl⟩⟩;exact⟨hr.size,hr.defers,fun t=>(hr.env t).mono hx,⟨⟨fun b bx hb=>(hr.wr.heap.box b bx hb).mono hx rfl (fun _ _=>rfl) fun _ _ _ h=>h,hr.wr.heap.live,hr.wr.heap.gens,hr.wr.heap.inj⟩,hr.wr.ext.trans hx,hr.wr.fr,hr.wr.Snew,hr.wr.Slt,hr.wr.Mnew⟩⟩
end
def Zdi(h h':Heap):Prop:=∀id bx,h.lookup id=some bx→h'.lookup id=some bx
theorem zds{h h':Heap}(hs:Zdi h h'){id:BId}{g z:Nat}{bx:Box}(hb:Zal h id g z=some bx):Zal h' id g z=some bx:=by
 unfold Zal at hb ⊢;split at hb
 ·rename_i b hl;rw[hs id b hl];exact hb
 ·cases hb
theorem zg5{h h':Heap}(hs:Zdi h h'){id:BId}{g z i:Nat}(hb:Ze6 h id g z i=true):Ze6 h' id g z i=true:=by
 unfold Ze6 at hb ⊢;split at hb
 ·rename_i bx hl;rw[zds hs hl];exact hb
 ·cases hb
theorem ze6{α:Type}{h h':Heap}(hs:Zdi h h'){id:BId}{g z:Nat}{f:Box→Option α}{x:α}(hb:(Zal h id g z).bind f=some x):(Zal h' id g z).bind f=some x:=by
 obtain⟨bx,h1,h2⟩:=bind_some hb;rw[zds hs h1];exact h2
theorem zw0{α:Type}{h h':Heap}(hs:Zdi h h'){id:BId}{g z:Nat}{f:Box→α}{x:α}(hb:(Zal h id g z).map f=some x):(Zal h' id g z).map f=some x:=by
 obtain⟨bx,h1,rfl⟩:=map_some hb;rw[zds hs h1]
 rfl
theorem zss{h h':Heap}(hs:Zdi h h'){op:AOp}{ρ:Nat→AV}{x:AV}(hq:Zh op ρ h=some x):Zh op ρ h'=some x:=by
 cases op<;>try exact hq
 case load n y=>
  simp only[Zh]at hq ⊢;cases hy:ev ρ y<;>rw[hy]at hq<;>simp only[Zeo]at hq ⊢<;>first | exact hq | exact ze6 hs hq
 case slc z y lo hi mx=>
  simp only[Zh]at hq ⊢;cases hy:ev ρ y<;>rw[hy]at hq<;>simp only[Zf6]at hq ⊢<;>first | exact hq | exact ze6 hs hq
 case fad o y=>
  simp only[Zh]at hq ⊢;cases hy:ev ρ y<;>rw[hy]at hq<;>simp only[Zgh]at hq ⊢<;>try exact hq
  split at hq
  ·rename_i hl;rw[if_pos (zg5 hs hl)];exact hq
  ·cases hq
 case iad z y i=>
  simp only[Zh]at hq ⊢;cases hy:ev ρ y<;>rw[hy]at hq<;>cases hi:ev ρ i<;>rw[hi]at hq<;>simp only[Zgi]at hq ⊢<;>first | exact hq | exact ze6 hs hq
 case iaa z len y i=>
  simp only[Zh]at hq ⊢;cases hy:ev ρ y<;>rw[hy]at hq<;>cases hi:ev ρ i<;>rw[hi]at hq<;>simp only[Zgj]at hq ⊢<;>try exact hq
  split at hq
  ·rename_i hl;rw[if_pos ⟨zg5 hs hl.1,hl.2⟩];exact hq
  ·cases hq
 case len y=>
  simp only[Zh]at hq ⊢;cases hy:ev ρ y<;>rw[hy]at hq<;>simp only[Zgk]at hq ⊢<;>first | exact hq | exact zw0 hs hq
 case nilc y=>
  simp only[Zh]at hq ⊢;cases hy:ev ρ y<;>rw[hy]at hq<;>simp only[Zfb]at hq ⊢<;>try exact hq
  split at hq
  ·rename_i hl;rw[if_pos (zg5 hs hl)];exact hq
  ·cases hq
theorem zw1{h h':Heap}(hs:Zdi h h'){x y:AV}(hq:Zbg h x=some y):Zbg h' x=some y:=by
 have hC:∀c d,Zb8 h c=some d→Zb8 h' c=some d:=by
  intro c d hc;cases c
  case bs id g z off n=>
   simp only[Zb8]at hc ⊢;obtain⟨bx,hb,h2⟩:=bind_some hc;rw[zds hs hb];exact h2
  all_goals exact hc
 cases x
 case agg cs=>
  simp only[Zbg]at hq ⊢;obtain⟨ds,hd,rfl⟩:=map_some hq;have:cs.mapM (Zb8 h')=some ds:=by
   clear hq
   induction cs generalizing ds with
   | nil=>exact hd
   | cons c cs ih=>
    simp only[Ycs,Ycn,Ydb]at hd ⊢;obtain⟨d,h1,h2⟩:=bind_some hd;obtain⟨es,h3,h4⟩:=bind_some h2;rw[hC c d h1,Yy,ih es h3,Yy];exact h4
  rw[this]
  rfl
 all_goals (simp only[Zbg]at hq ⊢;exact hC _ _ hq)
theorem zw2{h:Heap}{x y:AV}(hq:Zbg h x=some y):∀id∈refs x,∃bx,h.lookup id=some bx:=by
 have hC:∀c d,Zb8 h c=some d→∀id g z off n,c=.bs id g z off n→∃bx,h.lookup id=some bx:=by
  intro c d hc id g z off n he;subst he;simp only[Zb8]at hc;obtain⟨bx,hb,_⟩:=bind_some hc;unfold Zal at hb;split at hb
  ·rename_i b hl;exact⟨b,hl⟩
  ·cases hb
 intro id hid;cases x
 case agg cs=>
  simp only[Zbg]at hq;obtain⟨ds,hd,rfl⟩:=map_some hq;obtain⟨k1,k2⟩:=zbl _ _ hd;simp only[refs,Yas]at hid;obtain⟨c,hc,hid⟩:=hid;obtain⟨j,hj⟩:=Yau hc;have hjl:j<ds.length:=by have:=zbg hj;omega
  have:=k2 j c _ hj (Ya hjl);cases c<;>simp only[Ycr,Yw,or_false]at hid;subst hid;exact hC _ _ this _ _ _ _ _ rfl
 case bs=>simp only[refs,Yw,Ycr,or_false]at hid;subst hid;simp only[Zbg]at hq;exact hC _ _ hq _ _ _ _ _ rfl
 all_goals first | (cases hid;done) | (simp[Zbg,Zb8]at hq;done)
theorem zw3{h h':Heap}(hs:Zdi h h'){x y:AV}(hq:Zhv h x=some y):Zhv h' x=some y:=by
 unfold Zhv at hq ⊢;split at hq
 ·exact hq
 ·split at hq
  ·rename_i h1;rw[if_pos,zw1 hs hq];refine Yh.2 fun id hid=>?_;obtain⟨bx,hb⟩:=zw2 hq id hid;have:=Yh.1 h1 id hid;simp only[hb]at this;simp only[hs id bx hb,this]
  ·cases hq
theorem zk8{h h':Heap}(hs:Zdi h h'):∀{l ys:List AV},Zb2 h l=some ys→Zb2 h' l=some ys
 | [],ys,hq=>hq
 | x::l,ys,hq=>by
  simp only[Zb2]at hq ⊢;obtain⟨y,h1,h2⟩:=bind_some hq;obtain⟨zs,h3,rfl⟩:=map_some h2;rw[zw3 hs h1,Yy,zk8 hs h3,Yb3]
theorem zzj{P:Program}{h h':Heap}(hs:Zdi h h'){o:AO}{ρ:Nat→AV}{x:AV}(hq:QF P h o ρ x):QF P h' o ρ x:=by
 have one:QOp P o.op ρ h x→QOp P o.op ρ h' x:=by
  intro hq;unfold QOp at hq ⊢;split at hq
  ·obtain⟨ys,h1,h2⟩:=hq;exact⟨ys,zk8 hs h1,h2⟩
  all_goals first | exact hq | exact zss hs hq
 unfold QF at hq ⊢;split at hq
 ·exact one hq
 ·rcases hq with ⟨h1,h2⟩ | hq
  ·exact .inl ⟨h1,one h2⟩
  ·exact .inr hq
end Go.Ab
end
section
namespace Go.Ab
open Go.RowKit
def Zed:Opd→List Nat
 | .t n=>[n]
 | .c _=>[]
def Zfe:AOp→List Nat
 | .mov x=>Zed x
 | .build _ ps=>ps.flatMap fun p=>Zed p.2.2
 | .xop (.box _) [x]=>Zed x
 | _=>[]
def AOp.slotty:AOp→Bool
 | .mov _ | .build .. | .xop .. => true
 | _=>false
theorem zst{op:AOp}(h:op.slotty=false):Zfe op=[]:=by
 cases op<;>first | rfl | cases h
def Zfn(c0:Nat)(op:AOp)(ρ:Nat→AV)(g:Nat):Prop:=g<c0∨∃t∈Zfe op,g∈gnA (ρ t)
def Zjq(P:Program)(f:FuncId)(xs:List AV)(g0:Nat)(x:AV)(B:Heap)(m:Nat):Prop:=
 xs.all noRef=true∧Zd3 P f xs [] g0 (fun r h c=>r=x∧h=B∧c=g0+m)∧(B.map (·.1)).Nodup∧(∀g∈gnA x,g0≤g)∧∀p∈B,∀g,Zd4 p.2 g→g0≤g
def obH(b:BId)(ob:Option Box):Heap:=match ob with | none=>[] | some o=>[(b,o)]
def Zb0(P:Program)(h0:Heap)(c0:Nat)(X:Heap)(Fin:Env→Heap→Nat→Prop):List AO→Env→Heap→Nat→Prop
 | [],e,h,clk=>Fin e h clk
 | o::r,e,h,clk=>
  match o.op.maker with
  | true=>o.guard=none∧∃d x b bx ob,o.dst=some d∧stepW o.op (some d) e.get (obH b ob) clk=some (x,(b,bx)::obH b ob,clk+1)∧h.lookup b=ob∧X.lookup b=ob∧h0.lookup b=none∧(∀o,ob=some o→o.gen<clk) ∧
    (∀g,Zd4 bx g→Zfn c0 o.op e.get g)∧Zb0 P h0 c0 X Fin r (Zq e (some d) x) ((b,bx)::h) (clk+1)
  | false=>
   match o.op.isStore with
   | true=>o.guard=none∧o.dst=none∧∃H2,stepW o.op none e.get h clk=some (.tup [],H2,clk)∧Zdi h0 H2∧Zb0 P h0 c0 X Fin r e H2 clk
   | false=>
    (qK P o e h0 [] fun x=>(∀g∈gnA x,Zfn c0 o.op e.get g)∧Zb0 P h0 c0 X Fin r (Zq e o.dst x) h clk) ∨
    (o.guard=none∧∃f args d x B m,o.op=.call f args∧o.dst=some d∧Zjq P f (args.map (ev e.get)) clk x B m∧(∀p∈B,h.lookup p.1=none) ∧
     Zb0 P h0 c0 X Fin r (Zq e (some d) x) (B++h) (clk+m))
def Zgs(P:Program)(tl:List AO)(h0:Heap)(c0:Nat)(X:Heap)(hd:List AO)(e:Env)(h:Heap)(clk:Nat)(K:St→Prop):Prop:=
 Zb0 P h0 c0 X (fun e h clk=>Zec P tl ⟨e,h,clk⟩ K) hd e h clk
section
variable{P:Program}{ops:Array Oper}
theorem zdd{y:Operand}{x:Opd}(h:Zl y=some x):∀t∈Zed x,y=.tmp t:=by
 intro t ht;cases x with
 | t n=>
  simp only[Zed,Ya9]at ht;subst ht;exact zcq h
 | c v=>cases ht
theorem ze7{fields:Array Field}:∀{l:List (Nat×Operand)} {ps:List (Nat×Nat×Opd)},Zb6 P fields l=some ps→∀t,t∈(ps.flatMap fun p=>Zed p.2.2)→Operand.tmp t∈l.map (·.2)
 | [],ps,hr,t,ht=>by simp only[Zb6,Option.some.injEq]at hr;subst hr;cases ht
 | (i,x)::l,ps,hr,t,ht=>by
  simp only[Zb6]at hr;split at hr
  ·cases hr
  obtain⟨n,hn,hr1⟩:=bind_some hr;obtain⟨p,hp,hr2⟩:=bind_some hr1;obtain⟨qs,hq,rfl⟩:=map_some hr2;simp only[Ydh,Yax]at ht;simp only[Y2,Yw];rcases ht with ht | ht
  ·exact .inl (zdd hp t ht).symm
  ·exact .inr (ze7 hq t ht)
theorem zel{n:Nat}:∀{l:List (Nat×Operand)} {ps:List (Nat×Nat×Opd)},Zbz n l=some ps→∀t,t∈(ps.flatMap fun p=>Zed p.2.2)→Operand.tmp t∈l.map (·.2)
 | [],ps,hr,t,ht=>by simp only[Zbz,Option.some.injEq]at hr;subst hr;cases ht
 | (i,x)::l,ps,hr,t,ht=>by
  simp only[Zbz]at hr;obtain⟨p,hp,hr2⟩:=bind_some hr;obtain⟨qs,hq,rfl⟩:=map_some hr2;simp only[Ydh,Yax]at ht;simp only[Y2,Yw];rcases ht with ht | ht
  ·exact .inl (zdd hp t ht).symm
  ·exact .inr (zel hq t ht)
theorem zqa{o:Op}{op:AOp}(hop:Zd1 P o=some op):∀t∈Zfe op,Operand.tmp t∈o.operands.toList:=by
 intro t ht;replace hop:=za1 hop;rcases hop with hop | ⟨k,xs,rfl,hx⟩
 rotate_left
 ·rcases hx with hx | ⟨rfl,rfl⟩
  ·cases k<;>simp only[Zfe]at ht<;>try (cases ht;done)
   match xs,hx,ht with
   | [],hx,ht=>cases ht
   | [x],hx,ht=>
    cases x with
    | t n=>
     simp only[Zfe,Zed,Ya9]at ht;subst ht;exact zo9 hx t (by simp)
    | c v=>cases ht
   | _::_::_,hx,ht=>cases ht
  ·cases ht
 cases o<;>simp only[Zbo]at hop
 case move y=>
  obtain⟨p,hp,rfl⟩:=map_some hop;simp[Op.operands,zdd hp t ht]
 case assign y=>
  obtain⟨p,hp,rfl⟩:=map_some hop;simp[Op.operands,zdd hp t ht]
 case build ty parts=>
  split at hop
  ·split at hop
   ·obtain⟨zs,_,hop1⟩:=bind_some hop;obtain⟨ps,hp,rfl⟩:=map_some hop1;have:=ze7 hp t ht;simpa[Op.operands]using this
   ·cases hop
  ·obtain⟨n,_,hop0⟩:=bind_some hop;obtain⟨zs,_,hop1⟩:=bind_some hop0;obtain⟨ps,hp,rfl⟩:=map_some hop1;have:=zel hp t ht;simpa[Op.operands]using this
  ·cases hop
 all_goals
  exfalso;have key:op.slotty=false:=by
   clear ht;revert hop
   repeat' split
   all_goals (intro hop)
   all_goals try contradiction
   all_goals try (cases hop;rfl;done)
   all_goals try simp only[Yg,Yar,reduceCtorEq,and_false,exists_false]at hop
   all_goals try (exact hop.elim)
   all_goals first
    | (obtain⟨_,_,rfl⟩:=hop;rfl)
    | (obtain⟨_,_,hop⟩:=hop;split at hop<;>cases hop<;>rfl)
    | (obtain⟨_,_,_,_,rfl⟩:=hop;rfl)
    | (obtain⟨_,_,_,_,hop⟩:=hop;split at hop<;>cases hop<;>rfl)
    | (obtain⟨_,_,_,_,_,_,rfl⟩:=hop;rfl)
    | (obtain⟨_,_,_,_,_,_,_,_,rfl⟩:=hop;rfl)
    | (obtain⟨_,_,_,_,_,_,_,_,_,_,rfl⟩:=hop;rfl)
    | (obtain⟨_,_,_,_,_,_,_,_,hop⟩:=hop;split at hop<;>cases hop<;>rfl)
    | (obtain⟨_,_,_,_,_,_,_,_,_,_,hop⟩:=hop;split at hop<;>cases hop<;>rfl)
    | (obtain⟨_,_,hop⟩:=hop;split at hop<;>first | (cases hop;done) | (simp only[Yg,Yar]at hop;obtain⟨_,_,hop⟩:=hop;split at hop<;>first | (cases hop;done) | (simp only[Yg,Yar]at hop;first | (obtain⟨_,_,rfl⟩:=hop;rfl) | (obtain⟨_,_,_,_,rfl⟩:=hop;rfl))))
    | (obtain⟨_,_,hop⟩:=hop;split at hop<;>first | (cases hop;done) | (simp only[Yg,Yar]at hop;first | (obtain⟨_,_,rfl⟩:=hop;rfl) | (obtain⟨_,_,_,_,rfl⟩:=hop;rfl)))
  rw[zst key]at ht;cases ht
theorem zk9{h h':Heap}(hs:Zdi h h'){z:Nat}{y:AV}{ys:List (List AV)}(hy:rowOf h z y=some ys):rowOf h' z y=some ys:=by
 cases y<;>simp only[rowOf]at hy ⊢<;>first | exact hy | (cases hy;done) | exact ze6 hs hy
theorem zi2{op:AOp}{d g:Nat}{ρ:Nat→AV}{x:AV}{b:BId}{bx:Box}{ob:Option Box}(hm:op.maker=true)(h:stepW op (some d) ρ (obH b ob) g=some (x,(b,bx)::obH b ob,g+1)) :
  ∃f z k els,MkF b f z∧bx=⟨g,k,z,els⟩∧x=f g∧∀(hp:Heap) (c:Nat),Zdi (obH b ob) hp→stepW op (some d) ρ hp c=some (f c,(b,⟨c,k,z,els⟩)::hp,c+1):=by
 generalize obH b ob=hb at h ⊢;cases op<;>simp only[AOp.maker]at hm<;>try (cases hm;done)
 case alloc zs=>
  simp only[stepW,Zea,Yb3,Option.some.injEq,Prod.mk.injEq,List.cons.injEq,and_true,true_and]at h;obtain⟨rfl,rfl,rfl⟩:=h;exact⟨_,_,_,_,.ptr zs.length,rfl,rfl,fun hp c _=>rfl⟩
 case mks z zs l c=>
  simp only[stepW,Zf8]at h ⊢;split at h
  ·rename_i k1 n k2 m _ _;simp only[Yy]at h ⊢;split at h
   ·rename_i hc;simp only[Option.some.injEq,Prod.mk.injEq,List.cons.injEq,and_true,true_and]at h;obtain⟨rfl,rfl,rfl⟩:=h;exact⟨_,_,_,_,.bs z n.toNat,rfl,rfl,fun hp c _=>by rw[if_pos hc]⟩
   ·cases h
  ·cases h
 case app z x' y=>
  simp only[stepW,Zgo]at h ⊢;obtain⟨ys,hy,h1⟩:=bind_some h;cases hv:ev ρ x'<;>rw[hv]at h1<;>simp only[Zg8]at h1<;>try (cases h1;done)
  case sl els fl=>
   simp only[Yy]at h1;split at h1
   ·rename_i hc;simp only[Option.some.injEq,Prod.mk.injEq,List.cons.injEq,and_true,true_and]at h1;obtain⟨rfl,rfl,rfl⟩:=h1;refine⟨_,_,_,_,.bs z (els.length+ys.length),rfl,rfl,fun hp c hs=>?_⟩;rw[zk9 hs hy,Yy];simp only[Zg8,Yy];rw[if_pos hc]
   ·cases h1
  case bs id g' z' off n=>
   obtain⟨b0,hb0,h2⟩:=bind_some h1;split at h2
   ·rename_i hc;simp only[Option.some.injEq,Prod.mk.injEq,List.cons.injEq,and_true,true_and]at h2;obtain⟨rfl,rfl,rfl⟩:=h2;refine⟨_,_,_,_,.bs z (n+ys.length),rfl,rfl,fun hp c hs=>?_⟩;rw[zk9 hs hy,Yy];simp only[Zg8];rw[zds hs hb0,Yy,if_pos hc]
   ·cases h2
 case xop k xs=>
  cases k<;>simp only at hm<;>try (cases hm;done)
  rename_i n
  match xs,h with
  | [],h=>simp[stepW,Zbh]at h
  | [y],h=>
   simp only[stepW,Zbh,Y2,Yc7,Zib,Yy]at h ⊢;obtain⟨cs,hcs,h1⟩:=bind_some h;split at h1
   ·rename_i hc;simp only[Option.some.injEq,Prod.mk.injEq,List.cons.injEq,and_true,true_and]at h1;obtain⟨rfl,rfl,rfl⟩:=h1;refine⟨_,_,_,_,.ptr n,rfl,rfl,fun hp c _=>?_⟩;rw[hcs,Yy,if_pos hc]
   ·cases h1
  | _::_::_,h=>simp[stepW,Zbh]at h
theorem znn{op:AOp}{d g:Nat}{ρ:Nat→AV}{x:AV}{hp:Heap}{c:Nat}(hm:op.maker=true)(h:stepW op (some d) ρ [] g=some (x,hp,c)):∃bx,hp=[(.loc d,bx)]∧c=g+1:=by
 cases op<;>simp only[AOp.maker]at hm<;>try (cases hm;done)
 case alloc zs=>
  simp only[stepW,Zea,Yb3,Option.some.injEq,Prod.mk.injEq]at h;obtain⟨_,rfl,rfl⟩:=h;exact⟨_,rfl,rfl⟩
 case mks z zs l c=>
  simp only[stepW,Zf8]at h;split at h
  ·simp only[Yy]at h;split at h
   ·simp only[Option.some.injEq,Prod.mk.injEq]at h;obtain⟨_,rfl,rfl⟩:=h;exact⟨_,rfl,rfl⟩
   ·cases h
  ·cases h
 case app z x' y=>
  simp only[stepW,Zgo]at h;obtain⟨ys,hy,h1⟩:=bind_some h;cases hv:ev ρ x'<;>rw[hv]at h1<;>simp only[Zg8]at h1<;>try (cases h1;done)
  case sl els fl=>
   simp only[Yy]at h1;split at h1
   ·simp only[Option.some.injEq,Prod.mk.injEq]at h1;obtain⟨_,rfl,rfl⟩:=h1;exact⟨_,rfl,rfl⟩
   ·cases h1
 case xop k xs=>
  cases k<;>simp only at hm<;>try (cases hm;done)
  match xs,h with
  | [],h=>simp[stepW,Zbh]at h
  | [y],h=>
   simp only[stepW,Zbh,Y2,Yc7,Zib,Yy]at h;obtain⟨cs,hcs,h1⟩:=bind_some h;split at h1
   ·simp only[Option.some.injEq,Prod.mk.injEq]at h1;obtain⟨_,rfl,rfl⟩:=h1;exact⟨_,rfl,rfl⟩
   ·cases h1
  | _::_::_,h=>simp[stepW,Zbh]at h
structure Mk where
 i:Nat
 d:Nat
 x:AV
 bs:Heap
 g0:Nat
 n:Nat
 ob:Option Box
def Mk.has(m:Mk)(g:Nat):Prop:=m.g0≤g∧g<m.g0+m.n
def FM(P:Program)(aos:List AO)(n:Nat)(h0:Heap)(c0:Nat)(MK:List Mk)(i:Nat)(ρ:Nat→AV)(x:AV):Prop:=
 i<n∧∃ao,aos[i]? = some ao ∧
  ((ao.guard=none∧∃m∈MK,m.i=i∧ao.dst=some m.d∧m.x=x ∧
    ((ao.op.maker=true∧∃b bx,m.bs=[(b,bx)]∧m.g0=bx.gen∧m.n=1∧stepW ao.op (some m.d) ρ (obH b m.ob) bx.gen=some (x,(b,bx)::obH b m.ob,bx.gen+1)∧∀g,Zd4 bx g→Zfn c0 ao.op ρ g) ∨
     (ao.op.maker=false∧m.ob=none∧∃f args,ao.op=.call f args∧Zjq P f (args.map (ev ρ)) m.g0 x m.bs m.n))) ∨
   (ao.op.maker=false∧(∀m∈MK,m.i≠i)∧QF P h0 ao ρ x∧∀g∈gnA x,Zfn c0 ao.op ρ g))
def mkH(l:List Mk):Heap:=l.reverse.flatMap fun m=>m.bs
def mkN(l:List Mk):Nat:=(l.map fun m=>m.n).sum
theorem zd7{γ:Type}{id:BId}{x:γ}:∀(l:List (BId×γ)),(id,x)∈l→(∀y,(id,y)∈l→y=x)→l.lookup id=some x
 | [],h,_=>by cases h
 | (b,y)::l,h,hu=>by
  simp only[Y3];by_cases hb:id=b
  ·subst hb;simp only[beq_self_eq_true];rw[hu y (by simp)]
  ·have:(id == b)=false:=by simpa using hb
   rw[this];refine zd7 l ?_ fun z hz=>hu z (Ys _ hz);rcases Yw.1 h with h | h
   ·injection h with h1 h2
    exact absurd h1 hb
   ·exact h
theorem zc3{γ:Type}{id:BId}:∀(l:List (BId×γ)),(∀y,(id,y)∉l)→l.lookup id=none
 | [],_=>rfl
 | (b,y)::l,h=>by
  simp only[Y3];by_cases hb:id=b
  ·subst hb;exact absurd (by simp) (h y)
  ·have:(id == b)=false:=by simpa using hb
   rw[this];exact zc3 l fun z hz=>h z (Ys _ hz)
theorem zno{l:List Mk}{id:BId}{x:Box}:(id,x)∈mkH l↔∃m∈l,(id,x)∈m.bs:=by
 unfold mkH;simp only[Yas,List.mem_reverse]
theorem ze8{γ:Type}:∀(l:List (BId×γ)),(l.map (·.1)).Nodup→∀{b:BId} {x y:γ},(b,x)∈l→(b,y)∈l→x=y
 | [],_,_,_,_,h,_=>by cases h
 | (c,z)::l,hn,b,x,y,h1,h2=>by
  simp only[Y2,Yds]at hn;rcases Yw.1 h1 with h1 | h1<;>rcases Yw.1 h2 with h2 | h2
  ·rw[Prod.mk.injEq]at h1 h2;rw[h1.2,h2.2]
  ·rw[Prod.mk.injEq]at h1;exact absurd (Yat.2 ⟨_,h2,h1.1⟩) hn.1
  ·rw[Prod.mk.injEq]at h2;exact absurd (Yat.2 ⟨_,h1,h2.1⟩) hn.1
  ·exact ze8 l hn.2 h1 h2
theorem zcg{γ:Type}:∀(l:List (BId×γ)) (b:BId) (x:γ),l.lookup b=some x→(b,x)∈l
 | [],b,x,h=>by simp at h
 | (c,y)::l,b,x,h=>by
  simp only[Y3]at h;split at h
  ·rename_i hb;cases h;rw[eq_of_beq hb];simp
  ·exact Ys _ (zcg l b x h)
theorem zg6{γ:Type}{l:List (BId×γ)}{b:BId}(h:l.lookup b=none):∀x,(b,x)∉l:=by
 intro x hx
 induction l with
 | nil=>cases hx
 | cons p l ih=>
  obtain⟨c,y⟩:=p;simp only[Y3]at h;split at h
  ·cases h
  ·rename_i hb;rcases Yw.1 hx with hx | hx
   ·rw[Prod.mk.injEq]at hx;rw[hx.1]at hb;simp at hb
   ·exact ih h hx
theorem zos{aos:List AO}{n:Nat}{h0 X:Heap}{c0:Nat}(hX0:Zdi h0 X){Fin:Env→Heap→Nat→Prop}(hw:∀ao∈aos.take n,ao.op.writes=true→ao.op.maker=true)(hdst:∀(i:Nat) (o:Oper),ops[i]? = some o→∃ao:AO,aos[i]? = some ao∧ao.dst=o.dst) :
  ∀(l:List Oper) (k:Nat) (rest:List AO) (e:Env) (h:Heap) (clk:Nat),(∀j,j<l.length→l[j]? = ops[k+j]?)→(∀j,j<rest.length→rest[j]? = aos[k+j]?)→l.length=rest.length→k+l.length=n→(∀id,h.lookup id=none→X.lookup id=none) →
   Zb0 P h0 c0 X Fin rest e h clk →
   ∃MKs:List Mk,(∀m∈MKs,k≤m.i∧m.i<n∧clk≤m.g0∧m.g0+m.n≤clk+mkN MKs∧(∀p∈m.bs,h.lookup p.1=m.ob∧X.lookup p.1=m.ob∧h0.lookup p.1=none)∧(m.bs.map (·.1)).Nodup) ∧
    (∀m∈MKs,∀m'∈MKs,(m.i=m'.i∨(∃b x y,(b,x)∈m.bs∧(b,y)∈m'.bs)∨(∃g,m.has g∧m'.has g))→m=m') ∧
    (∀m∈MKs,∃ao,aos[m.i]? = some ao∧ao.op.noisy=true) ∧
    ∀MK:List Mk,(∀m∈MKs,m∈MK)→(∀m∈MK,k≤m.i→m∈MKs)→Zfm ops (FM P aos n h0 c0 MK) (fun ρ=>∃e,ρ=Env.get e∧Fin e (mkH MKs++h) (clk+mkN MKs)) l k e.get
 | [],k,rest,e,h,clk,_,_,hlen,_,_,hk=>by
  have:rest=[]:=Ya3 (by simpa using hlen.symm);subst this;exact⟨[],by simp,by simp,by simp,fun MK _ _=>⟨e,rfl,by simpa[mkH,mkN,Zb0]using hk⟩⟩
 | o::l,k,rest,e,h,clk,hl,hr,hlen,hkn,hXh,hk=>by
  cases rest with
  | nil=>simp at hlen
  | cons ao rest=>
   have h0':ops[k]? = some o:=by simpa using (hl 0 (by simp)).symm
   have h1:aos[k]? = some ao:=by simpa using (hr 0 (by simp)).symm
   obtain⟨ao',h2,hd⟩:=hdst k o h0';rw[h1]at h2;cases h2;simp only[Yd]at hkn;have hmem:ao∈aos.take n:=Yj (i:=k) (by rw[Y0,if_pos (by omega)];exact h1);have hl':∀j,j<l.length→l[j]? = ops[k+1+j]? := fun j hj=>by have:=hl (j+1) (by simp;omega);simpa[Yao,Ya0 1 j]using this
   have hr':∀j,j<rest.length→rest[j]? = aos[k+1+j]? := fun j hj=>by have:=hr (j+1) (by simp;omega);simpa[Yao,Ya0 1 j]using this
   simp only[Zb0]at hk
   -- one that makes boxes
   have make:∀(d:Nat) (x:AV) (B:Heap) (m:Nat) (ob:Option Box),ao.op.noisy=true→ao.dst=some d→(∀p∈B,h.lookup p.1=ob∧X.lookup p.1=ob∧h0.lookup p.1=none)→(∀p∈B,X.lookup p.1≠some p.2)→(B.map (·.1)).Nodup →
     (∀MK:List Mk,(⟨k,d,x,B,clk,m,ob⟩:Mk)∈MK→FM P aos n h0 c0 MK k e.get x)→Zb0 P h0 c0 X Fin rest (Zq e (some d) x) (B++h) (clk+m)→(∃MKs:List Mk,(∀m∈MKs,k≤m.i∧m.i<n∧clk≤m.g0∧m.g0+m.n≤clk+mkN MKs∧(∀p∈m.bs,h.lookup p.1=m.ob∧X.lookup p.1=m.ob∧h0.lookup p.1=none)∧(m.bs.map (·.1)).Nodup) ∧
      (∀m∈MKs,∀m'∈MKs,(m.i=m'.i∨(∃b x y,(b,x)∈m.bs∧(b,y)∈m'.bs)∨(∃g,m.has g∧m'.has g))→m=m') ∧
      (∀m∈MKs,∃ao,aos[m.i]? = some ao∧ao.op.noisy=true) ∧
    ∀MK:List Mk,(∀m∈MKs,m∈MK)→(∀m∈MK,k≤m.i→m∈MKs)→Zfm ops (FM P aos n h0 c0 MK) (fun ρ=>∃e,ρ=Env.get e∧Fin e (mkH MKs++h) (clk+mkN MKs)) (o::l) k e.get):=by
    intro d x B m ob hno hdd hfr hXB hnd hF hk2;obtain⟨MKs,p1,p2,p4,p3⟩:=zos hX0 (Fin:=Fin) hw hdst l (k+1) rest _ _ _ hl' hr' (by simpa using hlen) (by omega) (fun id hid=>hXh id (by rw[zap]at hid;exact(Option.or_eq_none_iff.1 hid).2)) hk2;have hsum:mkN (⟨k,d,x,B,clk,m,ob⟩::MKs)=m+mkN MKs:=by simp[mkN]
    refine⟨⟨k,d,x,B,clk,m,ob⟩::MKs,fun q hq=>?_,fun q hq q' hq' he=>?_,fun q hq=>(Yw.1 hq).elim (fun e=>by subst e;exact⟨ao,h1,hno⟩) (fun hq=>p4 q hq),fun MK hMK hMK2=>?_⟩
    ·rw[hsum];rcases Yw.1 hq with rfl | hq
     ·exact⟨Yf _,by show k<n;omega,Yf _,by show clk+m≤_;omega,hfr,hnd⟩
     ·obtain⟨q1,q2,q3,q4,q5,q6⟩:=p1 q hq;refine⟨by omega,q2,by omega,by omega,fun p hp=>?_,q6⟩;obtain⟨this,hxo,h0o⟩:=q5 p hp;rw[zap]at this;cases hBl:B.lookup p.1 with
      | none=>rw[hBl]at this;exact⟨by simpa using this,hxo,h0o⟩
      | some bx=>rw[hBl]at this;exact(hXB (p.1,bx) (zcg _ _ _ hBl) (by rw[hxo,←this];rfl)).elim
    ·have key:∀m'∈MKs,(k=m'.i∨(∃b x y,(b,x)∈B∧(b,y)∈m'.bs)∨(∃g,(clk≤g∧g<clk+m)∧m'.has g))→False:=by
      intro m' hm' he;obtain⟨q1,q2,q3,q4,q5,_⟩:=p1 m' hm';rcases he with he | ⟨b,u,v,hb,hb'⟩ | ⟨g,hg,hg'⟩
      ·omega
      ·obtain⟨this,hxo,h0o⟩:=q5 _ hb';rw[zap]at this;cases hBl:B.lookup b with
       | none=>exact zg6 hBl u hb
       | some bx=>simp only[hBl]at this;exact hXB (b,bx) (zcg _ _ _ hBl) (by rw[hxo,←this];rfl)
      ·have h3:=hg'.1;omega
     rcases Yw.1 hq with rfl | hq<;>rcases Yw.1 hq' with rfl | hq'
     ·rfl
     ·exact(key q' hq' he).elim
     ·refine(key q hq ?_).elim;rcases he with he | ⟨b,u,v,hb,hb'⟩ | ⟨g,hg,hg'⟩
      ·exact .inl he.symm
      ·exact .inr (.inl ⟨b,v,u,hb',hb⟩)
      ·exact .inr (.inr ⟨g,hg',hg⟩)
     ·exact p2 q hq q' hq' he
    ·refine⟨x,hF MK (hMK _ (by simp)),?_⟩;have:=p3 MK (fun m hm=>hMK m (by simp[hm])) (fun q hq hqi=>by
      rcases Yw.1 (hMK2 q hq (by omega)) with rfl | h3
      ·exact absurd hqi (by show ¬ k+1≤k;omega)
      ·exact h3)
     rw[←hd,←zdp,hdd];have e1:mkH (⟨k,d,x,B,clk,m,ob⟩::MKs)++h=mkH MKs++(B++h):=by simp[mkH]
     have e2:clk+mkN (⟨k,d,x,B,clk,m,ob⟩::MKs:List Mk)=clk+m+mkN MKs:=by rw[hsum];omega
     rw[e1,e2];exact this
   cases hmk:ao.op.maker with
   | true=>
    rw[hmk]at hk;simp only at hk;obtain⟨hgn,d,x,b,bx,ob,hdd,hst,hfr,hfx,hf0,hgo,hcont,hk2⟩:=hk;obtain⟨f,z,kd,els,hf,hbx,hx,_⟩:=zi2 hmk hst;have hg0:bx.gen=clk:=by rw[hbx]
    refine make d x [(b,bx)] 1 ob (by cases hop:ao.op<;>rw[hop]at hmk<;>first | rfl | exact hmk | cases hmk) hdd (fun p hp=>by have:p=(b,bx):=(by simpa using hp);subst this;exact⟨hfr,hfx,hf0⟩) (fun p hp he=>?_) (by simp) (fun MK hm=>⟨by omega,ao,h1,.inl ⟨hgn,_,hm,rfl,hdd,rfl,.inl ⟨hmk,b,bx,rfl,hg0.symm,rfl,by rw[hg0];exact hst,hcont⟩⟩⟩) hk2;have:p=(b,bx):=by simpa using hp
    subst this;rw[hfx]at he;have h9:bx.gen<clk:=hgo _ he;omega
   | false=>
    rw[hmk]at hk;simp only at hk;have hns:ao.op.isStore=false:=by
     cases hh:ao.op.isStore with
     | false=>rfl
     | true=>
      have hww:ao.op.writes=true:=by
       cases hop:ao.op<;>rw[hop]at hh<;>first | rfl | cases hh
      rw[hw ao hmem hww]at hmk;cases hmk
    rw[hns]at hk;simp only at hk;rcases hk with hk | ⟨hgn,f,args,d,x,B,m,hop,hdd,hcb,hfr,hk2⟩
    ·have hwr:ao.op.writes=false:=by
      cases hww:ao.op.writes with
      | false=>rfl
      | true=>rw[hw ao hmem hww]at hmk;cases hmk
     obtain⟨x,hq1,_,hcont,hk2⟩:=zwz hwr hk;obtain⟨MKs,p1,p2,p4,p3⟩:=zos hX0 (Fin:=Fin) hw hdst l (k+1) rest _ _ _ hl' hr' (by simpa using hlen) (by omega) hXh hk2;refine⟨MKs,fun m hm=>?_,p2,p4,fun MK hMK hMK2=>⟨x,⟨by omega,ao,h1,.inr ⟨hmk,fun m hm he=>?_,hq1,hcont⟩⟩,?_⟩⟩
     ·obtain⟨q1,q2,q3,q4,q5⟩:=p1 m hm;exact⟨by omega,q2,q3,q4,q5⟩
     ·have:=(p1 m (hMK2 m hm (by omega))).1;omega
     ·rw[←hd,←zdp];exact p3 MK hMK fun q hq hqi=>hMK2 q hq (by omega)
    ·have hfx:∀p∈B,X.lookup p.1=none:=fun p hp=>hXh _ (hfr p hp);have hf0:∀p∈B,h0.lookup p.1=none:=fun p hp=>by
      cases hl0:h0.lookup p.1 with
      | none=>rfl
      | some y=>have:=hX0 _ _ hl0;rw[hfx p hp]at this;cases this
     exact make d x B m none (by rw[hop];rfl) hdd (fun p hp=>⟨hfr p hp,hfx p hp,hf0 p hp⟩) (fun p hp he=>by rw[hfx p hp]at he;cases he) hcb.2.2.1 (fun MK hm=>⟨by omega,ao,h1,.inl ⟨hgn,_,hm,rfl,hdd,rfl,.inr ⟨hmk,rfl,f,args,hop,hcb⟩⟩⟩) hk2
theorem ze9{h0 X:Heap}{c0:Nat}{Fin:Env→Heap→Nat→Prop}(s:List AO):∀(l:List AO) (e:Env) (h:Heap) (clk:Nat),Zb0 P h0 c0 X Fin (l++s) e h clk=Zb0 P h0 c0 X (fun e h clk=>Zb0 P h0 c0 X Fin s e h clk) l e h clk
 | [],e,h,clk=>rfl
 | o::l,e,h,clk=>by
  have ih:=ze9 (h0:=h0) (X:=X) (c0:=c0) (Fin:=Fin) s l;simp only[Ybj,Zb0,ih]
end
end Go.Ab
end
section
namespace Go.Ab
open Go.RowKit
section
variable{P:Program}{w w':World}{S S':Nat→Nat→Prop}{M M':Map}
theorem zjw{γ:Type}:∀(l:List (BId×γ)) (b:BId) (x:γ),l.lookup b=some x→(b,x)∈l
 | [],b,x,h=>by simp at h
 | (c,y)::l,b,x,h=>by
  simp only[Y3]at h;split at h
  ·rename_i hb;cases h;rw[eq_of_beq hb];simp
  ·exact Ys _ (zjw l b x h)
theorem RelF.mk2{cx:Cx}{h B:Heap}{ρ:Nat→AV}{a:Act}{c g0 n nt:Nat}{v:Value}{x:AV}(hr:RelF cx S M c h ρ a w)
  (hw:WRel ⟨P,nt,w,S,fun _=>none,g0⟩ S' M' (g0+n) B w') (hC:C w' S' M' (g0+n) v x) (hc:g0+n≤c) (h0:cx.clk0≤g0) (hfr:∀p∈B,h.lookup p.1=none)
  (henv:∀t,∀q∈gnA (ρ t),¬ (g0≤q∧q<g0+n)) (hbox:∀id bx,h.lookup id=some bx→¬ (g0≤bx.gen∧bx.gen<g0+n)∧∀q,Zd4 bx q→¬ (g0≤q∧q<g0+n))
  (hx:∀g∈gnA x,g0≤g) (hB:∀p∈B,∀g,Zd4 p.2 g→g0≤g) :
  ∃M2,RelF cx S' M2 c (B++h) ρ a w'∧C w' S' M2 c v x:=by
 have hno:∀k,¬ (⟨P,nt,w,S,fun _=>none,g0⟩:Cx).brw k:=by
  intro k ⟨g,hg⟩;cases hg
 have hblk:∀k,k<w.heap.size→w'.heap[k]? = w.heap[k]? := fun k hk=>hw.fr.block k hk (hno k);have hSo:∀k o,k<w.heap.size→S' k o→S k o:=by
  intro k o hk hs;rcases hw.Snew k o hs with h1 | h1 | h1
  ·exact h1
  ·simp only at h1;omega
  ·exact absurd h1 (hno k)
 have hsz:w.heap.size≤w'.heap.size:=hw.fr.size;have hin:∀g m,M' g=some m→g0≤g∧g<g0+n:=by
  intro g m hm;obtain⟨b,bx,h1,h2⟩:=hw.heap.live g m hm;refine⟨?_,by rw[←h2];exact(hw.heap.box b bx h1).1⟩;rcases Yq g g0 with hlt | hge
  ·have:=hw.ext.hM g m hlt hm;cases this
  ·exact hge
 have hMk:∀g k,M' g=some (some k)→k<w'.heap.size∧w.heap.size≤k:=by
  intro g k hm;obtain⟨h1,h2⟩:=hw.Mnew g k hm;rcases h2 with h2 | h2
  ·exact⟨h1,h2⟩
  ·exact absurd h2 (hno k)
 have hx1:Ext w S M c w' S' M c:=by
  refine⟨hw.ext.hS,hw.ext.hcell,Yf _,fun g m _ hm=>hm,fun g k arr e _ hm hb=>⟨arr,?_,rfl⟩⟩;rw[hblk k (hr.wr.Mnew g k hm).1];exact hb
 generalize hM2:(fun g=>if g0≤g∧g<g0+n then M' g else M g:Map)=M2;have m1:∀g,g0≤g∧g<g0+n→M2 g=M' g:=by intro g hg;rw[←hM2];simp only;rw[if_pos hg]
 have m2:∀g,¬ (g0≤g∧g<g0+n)→M2 g=M g:=by intro g hg;rw[←hM2];simp only;rw[if_neg hg]
 have m3:∀g m,M2 g=some m→((g0≤g∧g<g0+n)∧M' g=some m)∨(¬ (g0≤g∧g<g0+n)∧M g=some m):=by
  intro g m hm;by_cases hg:g0≤g∧g<g0+n
  ·rw[m1 g hg]at hm;exact .inl ⟨hg,hm⟩
  ·rw[m2 g hg]at hm;exact .inr ⟨hg,hm⟩
 have hlt:∀q,¬ (g0≤q∧q<g0+n)→q<c→M2 q=M q∧q<c:=fun q h1 h2=>⟨m2 q h1,h2⟩;have hlook:∀id bx,(B++h).lookup id=some bx→B.lookup id=some bx∨(B.lookup id=none∧h.lookup id=some bx):=by
  intro id bx hb;rw[zap]at hb;cases hq:B.lookup id with
  | none=>rw[hq]at hb;exact .inr ⟨rfl,by simpa using hb⟩
  | some b=>rw[hq]at hb;exact .inl (by simpa using hb)
 have hlB:∀id bx,B.lookup id=some bx→(B++h).lookup id=some bx:=by
  intro id bx hb;rw[zap,hb]
  rfl
 have hlh:∀id bx,h.lookup id=some bx→(B++h).lookup id=some bx:=by
  intro id bx hb;rw[zap];cases hq:B.lookup id with
  | none=>simpa using hb
  | some b=>
   have:=hfr _ (zjw B id b hq);simp only at this;rw[this]at hb;cases hb
 have hBg:∀id bx,B.lookup id=some bx→g0≤bx.gen∧bx.gen<g0+n:=by
  intro id bx hb;obtain⟨b1,_,m,hm,_⟩:=hw.heap.box id bx hb;exact hin _ m hm
 refine⟨M2,⟨hr.size,hr.defers,fun t=>?_,⟨⟨fun b bx hb=>?_,fun g m hm=>?_,fun b bx b' bx' h1 h2 hg=>?_,fun g g' k h1 h2=>?_⟩,⟨?_,?_,?_,fun g m hg hm=>?_,fun g k arr e hg hm hb=>?_⟩,?_,fun k o hs=>?_,hw.Slt,fun g k hm=>?_⟩⟩,?_⟩
 ·exact((hr.env t).mono hx1).remap fun q hq=>hlt q (henv t q hq) ((hr.env t).gn q hq)
 ·rcases hlook b bx hb with h1 | ⟨_,h1⟩
  ·have hbk:=hw.heap.box b bx h1;have hg:=hBg b bx h1;refine hbk.remap (m1 _ hg) (by omega) fun q hq=>?_;have h2:=hB _ (zjw B b bx h1) q hq;have h3:=hbk.gn.2 q hq;exact⟨m1 q ⟨h2,h3⟩,by omega⟩
  ·have hbk:=hr.wr.heap.box b bx h1;obtain⟨e1,e2⟩:=hbox b bx h1;refine(hbk.mono hx1 rfl (fun k hm=>hblk k (hr.wr.Mnew _ k hm).1) fun k o hm hs=>hSo k o (hr.wr.Mnew _ k hm).1 hs).remap (m2 _ e1) hbk.1 fun q hq=>?_;exact hlt q (e2 q hq) (hbk.gn.2 q hq)
 ·rcases m3 g m hm with ⟨_,h1⟩ | ⟨_,h1⟩
  ·obtain⟨b,bx,h2,h3⟩:=hw.heap.live g m h1;exact⟨b,bx,hlB b bx h2,h3⟩
  ·obtain⟨b,bx,h2,h3⟩:=hr.wr.heap.live g m h1;exact⟨b,bx,hlh b bx h2,h3⟩
 ·rcases hlook b bx h1 with h1 | ⟨_,h1⟩<;>rcases hlook b' bx' h2 with h2 | ⟨_,h2⟩
  ·exact hw.heap.gens b bx b' bx' h1 h2 hg
  ·have:=hBg b bx h1;rw[hg]at this;exact absurd this (hbox b' bx' h2).1
  ·have:=hBg b' bx' h2;rw[←hg]at this;exact absurd this (hbox b bx h1).1
  ·exact hr.wr.heap.gens b bx b' bx' h1 h2 hg
 ·rcases m3 g _ h1 with ⟨_,e1⟩ | ⟨_,e1⟩<;>rcases m3 g' _ h2 with ⟨_,e2⟩ | ⟨_,e2⟩
  ·exact hw.heap.inj _ _ _ e1 e2
  ·have:=(hMk g k e1).2;have:=(hr.wr.Mnew g' k e2).1;omega
  ·have:=(hMk g' k e2).2;have:=(hr.wr.Mnew g k e1).1;omega
  ·exact hr.wr.heap.inj _ _ _ e1 e2
 ·exact(hr.wr.ext.trans hx1).hS
 ·exact(hr.wr.ext.trans hx1).hcell
 ·exact(hr.wr.ext.trans hx1).hclk
 ·rw[m2 g (by omega)]at hm;exact(hr.wr.ext.trans hx1).hM g m hg hm
 ·rw[m2 g (by omega)]at hm;exact(hr.wr.ext.trans hx1).hblk g k arr e hg hm hb
 ·have f1:=hr.wr.fr;have f2:=hw.fr;exact⟨f2.os.trans f1.os,f2.tape.trans f1.tape,f2.output.trans f1.output,Ye f1.size f2.size,fun k hk hn=>(hblk k (Yp hk f1.size)).trans (f1.block k hk hn)⟩
 ·rcases hw.Snew k o hs with h1 | h1 | h1
  ·exact hr.wr.Snew k o h1
  ·exact .inr (.inl (Ye hr.wr.fr.size h1))
  ·exact absurd h1 (hno k)
 ·rcases m3 g _ hm with ⟨_,e1⟩ | ⟨_,e1⟩
  ·obtain⟨h1,h2⟩:=hMk g k e1;exact⟨h1,.inl (Ye hr.wr.fr.size h2)⟩
  ·obtain⟨h1,h2⟩:=hr.wr.Mnew g k e1;exact⟨by omega,h2⟩
 ·exact hC.remap fun q hq=>by
   have h1:=hx q hq;have h2:=hC.gn q hq;exact⟨m1 q ⟨h1,h2⟩,by omega⟩
end
end Go.Ab
end
section
namespace Go.Ab
open Go.RowKit
section
variable{P:Program}{ops:Array Oper}{md:Region.Mode}{F:Nat→(Nat→AV)→AV→Prop}
theorem zfw(hL:Ze8 ops F){n g:Nat}{Lq:(Nat→AV)→Prop}(hs:Region.sinkB md ops n=true)(hc:Region.chainB md ops n=true)(hn:n<ops.size) :
  ∀(l:List Oper) (k:Nat) (listed:Array Bool) (ρ:Nat→AV),(∀j,j<l.length→l[j]? = ops[k+j]?)→k+l.length=n→HeadInv md ops n listed→(∀i,i<k→listed.getD i false=true) →
  Region.lexHead md ops g l.length k listed=true→Zfm ops F Lq l k ρ →
  Zgr md ops F n (fun listed' ρ'=>Region.seqB md ops g n listed'=true∧(∀i,i<n→listed'.getD i false=true)∧Lq ρ') l.length listed ρ
 | [],k,listed,ρ,_,hk,_,hfull,hB,h=>by
  have:k=n:=by simpa using hk
  subst this;exact⟨by simpa[Region.lexHead]using hB,hfull,h⟩
 | o::l,k,listed,ρ,hl,hk,inv,hfull,hB,h=>by
  have h0:ops[k]? = some o:=by simpa using (hl 0 (by simp)).symm
  simp only[Yd,Region.lexHead,Yo]at hB;obtain⟨⟨hr,hf⟩,hB'⟩:=hB;have hkn:k<n:=by simp only[Yd]at hk;omega
  have hr':k∈Region.ready md ops listed:=by simpa using hr
  obtain⟨v,hy,hK⟩:=h;have hksz:k<listed.size:=by rw[inv.size];omega
  exact zg3 hL h0 hs hc hn hkn (fun listed' a' hL=>seqB_ready hL.1) l.length listed ρ inv (Region.free_spec h0 hf) hr' hy
   (zfw hL hs hc hn l (k+1) _ _ (fun j hj=>by have:=hl (j+1) (by simp;omega);simpa[Yao,Ya0 1 j]using this) (by simp only[Yd]at hk;omega) (inv.set hr' hkn) (fun i hi=>by
    by_cases hik:k=i
    ·subst hik;simp[hksz]
    ·rw[getD_set_ne false hik];exact hfull i (by omega)) hB' hK)
theorem zch{n g:Nat}{L:Array Bool→(Nat→AV)→Prop}{R:Array Bool→(Nat→AV)→Act→World→Prop}{Q':Exit→Act→World→Prop}
  (hs:∀i o listed,i<n→ops[i]? = some o→i∈Region.ready md ops listed→∀ρ x a w (K:Act→World→Prop),F i ρ x→R listed ρ a w→(∀a' w',R (listed.setIfInBounds i true) (upd ρ o.dst x) a' w'→K a' w')→wpOp P ops Q' i K a w)
  (hQ:∀listed ρ a w,L listed ρ→R listed ρ a w→wpAny P md ops Q' g listed a w):∀(f:Nat) (listed:Array Bool) (ρ:Nat→AV) (a:Act) (w:World),R listed ρ a w →
  Zgr md ops F n L f listed ρ→wpAny P md ops Q' (f+g) listed a w
 | 0,_,_,_,_,hr,h=>by rw[Yah];exact hQ _ _ _ _ h hr
 | f+1,listed,ρ,a,w,hr,h=>by
  rw[show f+1+g=(f+g)+1 by omega];refine⟨fun h0=>absurd h0 h.1,fun i hi=>?_⟩;obtain⟨hin,h2⟩:=h.2 i hi;obtain⟨_,o,ho,_⟩:=mem_ready.1 hi;unfold fOp at h2;simp only[ho]at h2;obtain⟨x,hx,hK⟩:=h2;exact hs i o listed hin ho hi ρ x a w _ hx hr fun a' w' hr'=>zch hs hQ f _ _ a' w' hr' hK
end
section
variable{P:Program}{ops:Array Oper}{cx:Cx}{w:World}{a:Act}
def Gok(c0:Nat)(MK:List Mk)(listed:Array Bool)(g:Nat):Prop:=g<c0∨∃m∈MK,listed.getD m.i false=true∧m.has g
def RM(cx:Cx)(X:Heap)(c0:Nat)(MK:List Mk)(listed:Array Bool)(ρ:Nat→AV)(a:Act)(w:World):Prop:=
 ∃h',Zfc cx (c0+mkN MK) h' ρ a w∧(∀id bx,X.lookup id=some bx→(∀m∈MK,listed.getD m.i false=true→∀y,(id,y)∉m.bs)→h'.lookup id=some bx)∧(∀m∈MK,listed.getD m.i false=true→∀p∈m.bs,h'.lookup p.1=some p.2) ∧
  (∀id bx,h'.lookup id=some bx→X.lookup id=some bx∨∃m∈MK,listed.getD m.i false=true∧(id,bx)∈m.bs) ∧
  (∀t,∀g∈gnA (ρ t),Gok c0 MK listed g)∧(∀id bx,h'.lookup id=some bx→Gok c0 MK listed bx.gen∧∀g,Zd4 bx g→Gok c0 MK listed g)
theorem Gok.mono{c0:Nat}{MK:List Mk}{listed:Array Bool}{i g:Nat}(h:Gok c0 MK listed g):Gok c0 MK (listed.setIfInBounds i true) g:=by
 rcases h with h | ⟨m,hm,hl,hg⟩
 ·exact .inl h
 ·refine .inr ⟨m,hm,?_,hg⟩;by_cases hi:i=m.i
  ·subst hi;have:m.i<listed.size:=by
    rcases Yq m.i listed.size with h' | h'
    ·exact h'
    ·simp[Ycu h']at hl
   simp[this]
  ·rw[getD_set_ne false hi];exact hl
theorem zot{nt n c0:Nat}{aos:List AO}{h0:Heap}{MK:List Mk}(hget':∀(i:Nat) (o:Oper),ops[i]? = some o→∃ao,aos[i]? = some ao∧Zcw P nt ops o=some ao):Ze8 ops (FM P aos n h0 c0 MK):=by
 intro i o ho ρ ρ' hρ x ⟨hin,ao,hao,hq⟩;obtain⟨ao',h1,h2⟩:=hget' i o ho;rw[hao]at h1;cases h1;refine⟨hin,ao,hao,?_⟩;obtain⟨op,g,hop,hg,rfl,_⟩:=zaw h2;have hops:∀t,Operand.tmp t∈o.op.operands.toList→ρ t=ρ' t:=fun t ht=>hρ t (by
  unfold Oper.looksAt;exact Yaw _ (Ydc.2 ⟨.tmp t,ht,rfl⟩))
 have hct:∀q,Zfn c0 op ρ q→Zfn c0 op ρ' q:=by
  intro q hq;rcases hq with hq | ⟨t,ht,hq⟩
  ·exact .inl hq
  ·exact .inr ⟨t,ht,by rw[←hops t (zqa hop t ht)];exact hq⟩
 simp only at hq ⊢;rcases hq with ⟨e1,m,e2,e3,e4,e5,hkk⟩ | ⟨hmk,e1,e2,e3⟩
 ·refine .inl ⟨e1,m,e2,e3,e4,e5,?_⟩;rcases hkk with ⟨k1,b,bx,k2,k3,k4,k5,k6⟩ | ⟨k1,ko,f,args,k2,k3⟩
  ·exact .inl ⟨k1,b,bx,k2,k3,k4,by rw[←zev hop hops];exact k5,fun q hq=>hct q (k6 q hq)⟩
  ·refine .inr ⟨k1,ko,f,args,k2,?_⟩;subst k2;obtain⟨cargs,ats,hcall,hl⟩:=zd4 hop;rw[←zc4 hl fun t ht=>hops t (by rw[hcall];simp[Op.operands,Call.operands,ht])];exact k3
 ·refine .inr ⟨hmk,e1,?_,fun q hq'=>hct q (e3 q hq')⟩;have hq:=e2;unfold QF at hq ⊢;cases g with
  | none=>exact(zdu hop hops).1 hq
  | some tw=>
   obtain⟨t,want⟩:=tw;have ht:ρ t=ρ' t:=hρ t (by
    unfold Zb7 at hg;split at hg
    ·cases hg
    ·rename_i j w0 hgo;obtain⟨d,hd,he⟩:=map_some hg;cases he;unfold Oper.looksAt;rw[hgo];exact Yap _ (by simp[hd]))
   simp only at hq ⊢;rw[ht,zdu hop hops]at hq;exact hq
theorem zfa(b:BId):∀(h:Heap) (id:BId),(h.filter fun p=>!(p.1 == b)).lookup id=if id=b then none else h.lookup id
 | [],id=>by split<;>rfl
 | (c,x)::h,id=>by
  have ih:=zfa b h id;rw[Ycq];by_cases hc:c=b
  ·subst hc;simp only[beq_self_eq_true,Bool.not_true,Yz,if_false];rw[ih];by_cases hi:id=c
   ·rw[if_pos hi,if_pos hi]
   ·rw[if_neg hi,if_neg hi,Y3];have:(id == c)=false:=by simpa using hi
    rw[this]
  ·have hcb:(c == b)=false:=by simpa using hc
   simp only[hcb,Yeq,if_true];rw[Y3,Y3,ih];by_cases hi:id=b
   ·subst hi;have:(id == c)=false:=by simpa using fun e=>hc e.symm
    rw[this]
   ·rw[if_neg hi,if_neg hi]
theorem zsu{nt n c0:Nat}{aos:List AO}{h0 X:Heap}(hX0:Zdi h0 X){MK:List Mk}{Q:Exit→Act→World→Prop}(hnt:nt=cx.nt)(hget':∀(i:Nat) (o:Oper),ops[i]? = some o→∃ao,aos[i]? = some ao∧Zcw P nt ops o=some ao)(hc0:cx.clk0≤c0)
  (p1:(∀m∈MK,0≤m.i∧m.i<n∧c0≤m.g0∧m.g0+m.n≤c0+mkN MK∧(∀p∈m.bs,X.lookup p.1=m.ob∧X.lookup p.1=m.ob∧h0.lookup p.1=none)∧(m.bs.map (·.1)).Nodup)) (p2:(∀m∈MK,∀m'∈MK,(m.i=m'.i∨(∃b x y,(b,x)∈m.bs∧(b,y)∈m'.bs)∨(∃g,m.has g∧m'.has g))→m=m'))
  {i:Nat} {o:Oper} {listed:Array Bool} (ho:ops[i]? = some o) (hrd:i∈Region.ready .any ops listed) {ρ:Nat→AV} {x:AV} {a:Act} {w:World} {K':Act→World→Prop}
  (hF:FM P aos n h0 c0 MK i ρ x) (hr:RM cx X c0 MK listed ρ a w) (hK':∀a' w',RM cx X c0 MK (listed.setIfInBounds i true) (upd ρ o.dst x) a' w'→K' a' w'):wpOp P ops Q i K' a w:=by
 have fresh:∀(listed:Array Bool) (m:Mk),m∈MK→listed.getD m.i false=false→∀g,Gok c0 MK listed g→¬ m.has g∧g<c0+mkN MK:=by
  intro listed m hmM hun g hg;obtain⟨_,_,q3,q4,_,_⟩:=p1 m hmM;rcases hg with hg | ⟨m',hm',hl,hh⟩
  ·exact⟨fun h=>by have:=h.1;omega,by omega⟩
  ·obtain⟨_,_,_,r4,_,_⟩:=p1 m' hm';refine⟨fun he=>?_,by have:=hh.2;omega⟩;have:=p2 m' hm' m hmM (.inr (.inr ⟨g,hh,he⟩));subst this;rw[hun]at hl;cases hl
 obtain⟨_,ao,hao,hq⟩:=hF;obtain⟨ao',h1,h2⟩:=hget' i o ho;rw[hao]at h1;cases h1;have hun:=(mem_ready.1 hrd).1;have hisz:i<listed.size:=by
  rcases Yq i listed.size with h' | h'
  ·exact h'
  ·simp[Ycu h']at hun
 obtain⟨h',hrel,r1,r2,r3,r4,r5⟩:=hr;have hset:∀k,k≠i→(listed.setIfInBounds i true).getD k false=listed.getD k false:=fun k hk=>getD_set_ne false (Ne.symm hk);have hseti:(listed.setIfInBounds i true).getD i false=true:=by simp[hisz]
 obtain⟨op,g,hop,hg,hao',hd⟩:=zaw h2;have hcok:∀q,Zfn c0 ao.op ρ q→Gok c0 MK listed q:=by
  intro q hq;rcases hq with hq | ⟨t,_,hq⟩
  ·exact .inl hq
  ·exact r4 t q hq
 rcases hq with ⟨hgn,m,hmM,hmi,hdst,hmx,hkind⟩ | ⟨hmk,hnm,hqf,hcont⟩
 rotate_left
 ·have hsub:Zdi h0 h':=fun id bx hb=>r1 id bx (hX0 _ _ hb) fun m hm' _ y hy=>by
   have:=((p1 m hm').2.2.2.2.1 _ hy).2.2;rw[hb]at this;cases this
  refine zd6 ho hnt h2 (zzj hsub hqf) hrel fun a' w' hr'=>hK' a' w' ⟨h',hr',fun id bx hb hno=>r1 id bx hb fun m hm' hl=>hno m hm' (by rw[hset m.i (hnm m hm')];exact hl),fun m hm' hl p hp=>r2 m hm' ?_ p hp,fun id bx hb=>?_,fun t q hq'=>?_,fun id bx hb=>⟨(r5 id bx hb).1.mono,fun q hq'=>((r5 id bx hb).2 q hq').mono⟩⟩
  ·rw[hset m.i (hnm m hm')]at hl;exact hl
  ·rcases r3 id bx hb with h3 | ⟨m,hm',h4,h5⟩
   ·exact .inl h3
   ·exact .inr ⟨m,hm',by rw[hset m.i (hnm m hm')];exact h4,h5⟩
  ·cases hdd:o.dst with
   | none=>rw[hdd]at hq';exact(r4 t q hq').mono
   | some d=>
    rw[hdd]at hq';simp only[upd]at hq';split at hq'
    ·exact(hcok q (hcont q hq')).mono
    ·exact(r4 t q hq').mono
 subst hmi;have hunf:listed.getD m.i false=false:=getD_both hun;obtain⟨q1,q2,q3,q4,q5,q6⟩:=p1 m hmM;have hfr:=fresh listed m hmM hunf;have huse:∀id y,(id,y)∈m.bs→∀m'∈MK,listed.getD m'.i false=true→∀z,(id,z)∉m'.bs:=by
  intro id y hy m' hm' hl z hz;have:=p2 m hmM m' hm' (.inr (.inl ⟨id,y,z,hy,hz⟩));subst this;rw[hunf]at hl;cases hl
 have hmono:∀m'∈MK,listed.getD m'.i false=true→(listed.setIfInBounds m.i true).getD m'.i false=true:=by
  intro m' hm' hl;by_cases e:m'.i=m.i
  ·rw[e];exact hseti
  ·rw[hset _ e];exact hl
 have hodst:o.dst=some m.d:=by rw[hao']at hdst;exact hdst
 have hfin:∀a' w',Zfc cx (c0+mkN MK) (m.bs++h') (upd ρ o.dst x) a' w'→(∀q∈gnA x,Gok c0 MK (listed.setIfInBounds m.i true) q) →
   (∀p∈m.bs,m.has p.2.gen∧∀q,Zd4 p.2 q→Gok c0 MK (listed.setIfInBounds m.i true) q)→K' a' w':=by
  intro a' w' hre hgx hgb;have hlk:∀id,m.bs.lookup id=none→(m.bs++h').lookup id=h'.lookup id:=by
   intro id hn;rw[zap,hn]
   rfl
  have hlm:∀p∈m.bs,(m.bs++h').lookup p.1=some p.2:=by
   intro p hp;rw[zap,zd7 m.bs (id:=p.1) (x:=p.2) hp fun y hy=>ze8 _ q6 hy hp]
   rfl
  have hcas:∀id bx,(m.bs++h').lookup id=some bx→(id,bx)∈m.bs∨h'.lookup id=some bx:=by
   intro id bx hb;cases hl:m.bs.lookup id with
   | none=>rw[hlk id hl]at hb;exact .inr hb
   | some y=>
    rw[zap,hl]at hb;have:y=bx:=by simpa using hb
    subst this;exact .inl (zcg _ _ _ hl)
  refine hK' _ _ ⟨m.bs++h',hre,fun id bx hb hno=>?_,fun m' hm' hl p hp=>?_,fun id bx hb=>?_,fun t q hq=>?_,fun id bx hb=>?_⟩
  ·rw[hlk id (zc3 _ fun y hy=>hno m hmM hseti y hy)];exact r1 id bx hb fun m' hm' hl=>hno m' hm' (hmono m' hm' hl)
  ·by_cases hmm:m'=m
   ·subst hmm;exact hlm p hp
   ·have hne:m'.i≠m.i:=fun e=>hmm (p2 m' hm' m hmM (.inl e));rw[hset _ hne]at hl;rw[hlk p.1 (zc3 _ fun y hy=>hmm (p2 m' hm' m hmM (.inr (.inl ⟨p.1,p.2,y,hp,hy⟩))))];exact r2 m' hm' hl p hp
  ·rcases hcas id bx hb with hb | hb
   ·exact .inr ⟨m,hmM,hseti,hb⟩
   ·rcases r3 id bx hb with h6 | ⟨m',hm',h7,h8⟩
    ·exact .inl h6
    ·exact .inr ⟨m',hm',hmono m' hm' h7,h8⟩
  ·rw[hodst]at hq;simp only[upd]at hq;split at hq
   ·exact hgx q hq
   ·exact(r4 t q hq).mono
  ·rcases hcas id bx hb with hb | hb
   ·obtain⟨h3,h4⟩:=hgb _ hb;exact⟨.inr ⟨m,hmM,hseti,h3⟩,h4⟩
   ·exact⟨(r5 id bx hb).1.mono,fun q hq=>((r5 id bx hb).2 q hq).mono⟩
 rcases hkind with ⟨hmk,b0,bx,hbs,hg0,hn1,hst,hbc⟩ | ⟨hmk,hob,f,args,hopc,hnr,hac,hnd,hgx,hgb⟩
 ·obtain⟨f,z,kd,els,hf,hbx,hx,hall⟩:=zi2 hmk hst;have hhas:∀q,q=bx.gen→m.has q:=by
   intro q hq;subst hq;refine⟨by omega,by omega⟩
  obtain⟨S,M,hrf⟩:=hrel;subst hnt;have hmem:(b0,bx)∈m.bs:=by rw[hbs];simp
  have hsubO:Zdi (obH b0 m.ob) h':=by
   intro id y hy;cases hob:m.ob with
   | none=>rw[hob]at hy;cases hy
   | some ob=>
    rw[hob]at hy;simp only[obH,Y3]at hy;split at hy
    ·rename_i he;cases hy;have:id=b0:=eq_of_beq he;subst this;exact r1 id _ (by rw[(q5 _ hmem).1,hob]) fun m' hm' hl z=>huse _ _ hmem m' hm' hl z
    ·cases hy
  have hst2:=hall h' (c0+mkN MK) hsubO;subst hao';simp only at hst2 hgn hdst hmk hbc;subst hgn;rw[←hdst]at hst2;obtain⟨v,w',S',M',h3,h4,h5⟩:=zdc hop hrf hst2;have hput0:=h4.put hd h5;rw[hdst]at hput0;have hcg:∀(y:Box) (id:BId),((b0,y)::h'.filter fun p=>!(p.1 == b0)).lookup id=((b0,y)::h').lookup id:=by
   intro y id;rw[Y3,Y3,zfa];by_cases hi:id=b0
   ·subst hi;simp
   ·rw[if_neg hi]
  have hput:=hput0.heap_congr (hcg _);have hnone':(h'.filter fun p=>!(p.1 == b0)).lookup b0=none:=by rw[zfa,if_pos rfl]
  have hdr:∀id y,(h'.filter fun p=>!(p.1 == b0)).lookup id=some y→h'.lookup id=some y:=by
   intro id y hy;rw[zfa]at hy;split at hy
   ·cases hy
   ·exact hy
  have hgen:bx.gen<c0+mkN MK:=by omega
  have hfr':∀q,Gok c0 MK listed q→q≠bx.gen∧q<c0+mkN MK:=fun q hq=>⟨fun e=>(hfr q hq).1 (hhas q e),(hfr q hq).2⟩;have hbx':∀q,Zd4 ⟨c0+mkN MK,kd,z,els⟩ q→Zd4 bx q:=by
   intro q hq;rw[hbx];exact hq
  have hre:=RelF.regen (g:=bx.gen) hf hput hgen (by omega) hnone' (fun t q hq=>hfr' q (r4 t q hq)) (fun id bx hb=>⟨(hfr' _ (r5 id bx (hdr id bx hb)).1).1,(hfr' _ (r5 id bx (hdr id bx hb)).1).2,fun q hq=>hfr' q ((r5 id bx (hdr id bx hb)).2 q hq)⟩) (fun q hq=>hfr' q (hcok q (hbc q (hbx' q hq))));have e1:(⟨bx.gen,kd,z,els⟩:Box)=bx:=by rw[hbx]
  rw[e1,←hx]at hre;have hfin2:K' (a.put o.dst v) w':=by
   refine hfin _ _ ?_ (fun q hq=>?_) fun p hp=>?_
   ·rw[hdst,hbs];exact⟨_,_,hre.heap_congr fun id=>(hcg bx id).symm⟩
   ·have:q=bx.gen:=by
     rw[hx]at hq;cases hf with
     | ptr=>simpa[gnA]using hq
     | bs=>simpa[gnA]using hq
    exact .inr ⟨m,hmM,hseti,hhas q this⟩
   ·rw[hbs]at hp;have:p=(b0,bx):=by simpa using hp
    subst this;exact⟨hhas _ rfl,fun q hq=>(hcok q (hbc q hq)).mono⟩
  unfold wpOp;simp only[ho,zca hg a,if_true];refine .inl ?_;rcases h3 with h3 | ⟨h3,rfl⟩
  ·exact zdb h3 hfin2
  ·unfold Oper.wp;rw[h3,Oper.upon_skip];exact hfin2
 ·have hnone:∀p∈m.bs,h'.lookup p.1=none:=by
   intro p hp;cases hl:h'.lookup p.1 with
   | none=>rfl
   | some bx=>
    rcases r3 _ bx hl with h6 | ⟨m',hm',h7,h8⟩
    ·rw[(q5 p hp).1,hob]at h6;cases h6
    ·exact(huse p.1 p.2 hp m' hm' h7 bx h8).elim
  obtain⟨S,M,hrf⟩:=hrel;subst hnt;subst hao';simp only at hgn hopc hdst;subst hgn hopc;have hwant:=zca hg a;obtain⟨dst,oop,type,pos,after,guard⟩:=o;simp only at hop hd hodst hfin;obtain⟨cargs,ats,hcall,hl⟩:=zd4 hop;subst hcall;obtain⟨h1,h2⟩:=z0d hrf.env hl hnr;have hc:=hac.2 w S (fun _=>none) (cargs.map a.eval) (by simpa using h1) (fun j v c hv hc=>.p (h2 j v c (by simpa using hv) hc)) ⟨fun b bx h=>(by simp at h),fun g m h=>(by cases h),fun b bx b' bx' h=>(by simp at h),fun g g' k h=>(by cases h)⟩ hrf.wr.Slt (fun _ _ h=>by cases h);unfold wpOp;simp only[ho,hwant,if_true];refine .inl ?_;unfold Oper.wp;have hrun:(execOp a.eval { dst:=dst,op:=.call { callee:=.value (.func f),args:=cargs,argTypes:=ats },type:=type,pos:=pos,after:=after,guard:=guard }).run P w=.ok (.enter f (cargs.map a.eval)) w:=by
   simp only[execOp,resolve,Act.eval,Deferred.ofValue,Sem.run_bind,Sem.run_pure,Result.andThen_ok,invoke];have:=hac.1 (cargs.map a.eval) w;simpa using this
  rw[hrun,Oper.upon_enter];refine hc.mono fun e w' ⟨v,r,hB,S',M',clk',he,⟨hr1,hr2,hr3⟩,hC,hw⟩=>?_;subst he hr1 hr2 hr3;obtain⟨M2,hre,hCx⟩:=hrf.mk2 (hw 0) hC (by omega) (by omega) hnone (fun t q hq=>(hfr q (r4 t q hq)).1) (fun id bx hb=>⟨(hfr _ (r5 id bx hb).1).1,fun q hq=>(hfr q ((r5 id bx hb).2 q hq)).1⟩) hgx hgb;have hin:∀q,q∈gnA r→m.has q:=fun q hq=>⟨hgx q hq,hC.gn q hq⟩;refine hfin _ _ ⟨_,M2,hre.put hd hCx⟩ (fun q hq=>.inr ⟨m,hmM,hseti,hin q hq⟩) fun p hp=>?_;have hlp:m.bs.lookup p.1=some p.2:=zd7 m.bs (id:=p.1) (x:=p.2) hp fun y hy=>ze8 _ q6 hy hp;have hbk:=(hw 0).heap.box _ _ hlp;obtain⟨b1,_,mm,hmm,_⟩:=hbk;refine⟨⟨?_,b1⟩,fun q hq=>.inr ⟨m,hmM,hseti,hgb p hp q hq,((hw 0).heap.box _ _ hlp).gn.2 q hq⟩⟩;rcases Yq p.2.gen m.g0 with hlt | hge
  ·have:=(hw 0).ext.hM _ _ hlt hmm;cases this
  ·exact hge
theorem zsv{n c0:Nat}{h0 X:Heap}{MK:List Mk}(p1:(∀m∈MK,0≤m.i∧m.i<n∧c0≤m.g0∧m.g0+m.n≤c0+mkN MK∧(∀p∈m.bs,X.lookup p.1=m.ob∧X.lookup p.1=m.ob∧h0.lookup p.1=none)∧(m.bs.map (·.1)).Nodup))(p2:(∀m∈MK,∀m'∈MK,(m.i=m'.i∨(∃b x y,(b,x)∈m.bs∧(b,y)∈m'.bs)∨(∃g,m.has g∧m'.has g))→m=m'))
  {listed:Array Bool} {ρ:Nat→AV} {a:Act} {w:World} (hfull:∀m∈MK,listed.getD m.i false=true) (hr:RM cx X c0 MK listed ρ a w):Zfc cx (c0+mkN MK) (mkH MK++X) ρ a w:=by
 obtain⟨h',⟨S,M,hrf⟩,r1,r2,r3,r4,r5⟩:=hr;have hheap:∀id,(mkH MK++X).lookup id=h'.lookup id:=by
  intro id;rw[zap];by_cases hex:∃m∈MK,∃x,(id,x)∈m.bs
  ·obtain⟨m,hmM,x,hx⟩:=hex;rw[r2 m hmM (hfull m hmM) (id,x) hx,zd7 (mkH MK) (x:=x) (zno.2 ⟨m,hmM,hx⟩) fun y hy=>?_]
   ·rfl
   ·obtain⟨m',hm',h6⟩:=zno.1 hy;have:=p2 m hmM m' hm' (.inr (.inl ⟨id,x,y,hx,h6⟩));subst this;exact ze8 _ (p1 m hmM).2.2.2.2.2 h6 hx
  ·rw[zc3 (mkH MK) fun y hy=>hex (by
    obtain⟨m,hmM,h6⟩:=zno.1 hy;exact⟨m,hmM,y,h6⟩),Option.none_or]
   cases hl:h'.lookup id with
   | none=>
    cases hl2:X.lookup id with
    | none=>rfl
    | some bx=>rw[r1 id bx hl2 fun m hmM _ y hy=>hex ⟨m,hmM,y,hy⟩]at hl;cases hl
   | some bx=>
    rcases r3 id bx hl with h6 | ⟨m,hmM,_,h6⟩
    ·exact h6
    ·exact absurd ⟨m,hmM,bx,h6⟩ hex
 exact⟨S,M,hrf.heap_congr hheap⟩
theorem zou{st:St}{MK:List Mk}{sz:Nat}(hr:Rel cx st a w):RM cx st.heap st.clk MK (Array.replicate sz false) st.env.get a { w with drawn:=w.drawn+1 }:=by
 obtain⟨S,M,hrf⟩:=hr;refine⟨st.heap,Zfc.drawn ⟨S,M,hrf.more (Nat.le_add_right _ _)⟩,fun _ _ h _=>h,fun m _ hl=>?_,fun id bx hb=>.inl hb,fun t g hg=>.inl ((hrf.env t).gn g hg),fun id bx hb=>?_⟩
 ·rw[getD_replicate_false]at hl;cases hl
 ·obtain⟨h1,h2⟩:=(hrf.wr.heap.box id bx hb).gn;exact⟨.inl h1,fun g hg=>.inl (h2 g hg)⟩
theorem zla{nt id n:Nat}{aos:List AO}{h0:Heap}{st:St}(hX0:Zdi h0 st.heap){K:St→Prop}{Q:Exit→Act→World→Prop}(hnt:nt=cx.nt)(hm:P.follows .mixedOrders=true)
  (hw:∀ao∈aos.take n,ao.op.writes=true→ao.op.maker=true) (hT:Region.lexTailB .any ops n=true)
  (hres:Zau P nt ops ops.toList=some aos) (hk:Zgs P (aos.drop n) h0 st.clk st.heap (aos.take n) st.env st.heap st.clk K) (hr:Rel cx st a w) (hQ:∀st' a' w',K st'→Rel cx st' a' w'→Q .normal a' w'):(Code.region id ops true).wp P Q a w:=by
 simp only[Region.lexTailB,Yo,decide_eq_true_eq]at hT;obtain⟨⟨⟨⟨_,hn⟩,hs⟩,hc⟩,hlex⟩:=hT;have hget':∀i o,ops[i]? = some o→∃ao,aos[i]? = some ao∧Zcw P nt ops o=some ao:=fun i o ho=>zb3 ops.toList aos hres i o (by simpa using ho);have hlen:=zb4 ops.toList aos hres;have hlen':aos.length=ops.size:=by rw[←hlen];simp
 have htl:(ops.toList.take n).length=n:=by simp;omega
 have hdl:(ops.toList.drop n).length=ops.size-n:=by simp
 have inv0:HeadInv .any ops n (Array.replicate ops.size false):=
  ⟨by simp,fun j oj _ hl=>(by rw[getD_replicate_false]at hl;cases hl),fun t _ ht=>getD_in (by simpa using ht) (getD_replicate_false _ _)⟩
 obtain⟨MK,p1,p2,_,p3⟩:=zos (P:=P) (ops:=ops) (aos:=aos) (n:=n) (h0:=h0) (X:=st.heap) (c0:=st.clk) hX0 (Fin:=fun e h clk=>Zec P (aos.drop n) ⟨e,h,clk⟩ K) hw (fun i o ho=>by
  obtain⟨ao,h1,h2⟩:=hget' i o ho;obtain⟨op,g,_,_,rfl,_⟩:=zaw h2;exact⟨_,h1,rfl⟩) (ops.toList.take n) 0 (aos.take n) st.env st.heap st.clk (fun j hj=>by
   rw[htl]at hj;rw[Y0,if_pos hj];simp) (fun j hj=>by
   have hj':j<n:=by simp at hj;omega
   rw[Y0,if_pos hj',Yah]) (by rw[htl];simp;omega) (by rw[htl];omega) (fun _ h=>h) hk
 have hlx:=p3 MK (fun m hm=>hm) fun m hm _=>hm;have hc0:cx.clk0≤st.clk:=by
  obtain⟨S,M,hrf⟩:=hr;exact hrf.wr.ext.hclk
 have H:=zfw (md:=.any) (g:=ops.size-n) (zot hget') hs hc hn (ops.toList.take n) 0 _ st.env.get (fun j hj=>by
  rw[htl]at hj;rw[Y0,if_pos hj];simp) (by rw[htl];omega) inv0 (fun i hi=>by omega) (by rw[htl];exact hlex) hlx
 refine wp_region_any hm ?_;have:=zch (P:=P) (md:=.any) (Q':=Q) (g:=ops.size-n) (F:=FM P aos n h0 st.clk MK) (R:=RM cx st.heap st.clk MK) (fun i o listed hin ho hrd ρ x a w K' hF hr hK'=>zsu hX0 hnt hget' hc0 p1 p2 ho hrd hF hr hK') (fun listed ρ a' w' hL hr'=>by
  obtain⟨hseq,hfull,e,rfl,hrun⟩:=hL;have hrf:=zsv p1 p2 (fun m hm=>hfull _ (p1 m hm).2.1) hr';have hwl:wpList P ops Q (ops.toList.drop n) a' w':=zc2 hnt _ _ ⟨e,mkH MK++st.heap,st.clk+mkN MK⟩ K a' w' (zb8 n _ _ hres) hrun hrf hQ;have:=wpAny_of_seq (md:=.any) (Q':=Q) (ops.toList.drop n) n listed a' w' (fun j=>by simp[Yaj]) (by rw[hdl];exact hseq) hwl
  rwa [hdl]at this) _ _ _ a { w with drawn:=w.drawn+1 } (zou hr) H
 rw[htl,show n+(ops.size-n)=ops.size by omega]at this;exact this
theorem zov{F:Nat→(Nat→AV)→AV→Prop}{Q:(Nat→AV)→Prop}:∀(l:List Oper) (k:Nat) (ρ:Nat→AV),Zfm ops F Q l k ρ→∃ρ',Q ρ'∧Zfm ops F (fun r=>r=ρ') l k ρ
 | [],_,ρ,h=>⟨ρ,h,rfl⟩
 | o::l,k,ρ,⟨x,hx,h⟩=>by
  obtain⟨ρ',h1,h2⟩:=zov l (k+1) _ h;exact⟨ρ',h1,x,hx,h2⟩
theorem zlb{F F':Nat→(Nat→AV)→AV→Prop}{Q Q':(Nat→AV)→Prop}{o:Oper}(hF:∀i ρ x,F i ρ x→F' i ρ x):∀(l:List Oper) (k:Nat) (ρ:Nat→AV),(∀ρ,Q ρ→∃x,F' (k+l.length) ρ x∧Q' (upd ρ o.dst x))→Zfm ops F Q l k ρ→Zfm ops F' Q' (l++[o]) k ρ
 | [],k,ρ,hQ,h=>hQ ρ h
 | y::l,k,ρ,hQ,⟨x,hx,h⟩=>⟨x,hF _ _ _ hx,zlb hF l (k+1) _ (fun ρ hq=>by have:=hQ ρ hq;rwa [Yd,show k+(l.length+1)=k+1+l.length by omega]at this) h⟩
def FL(P:Program)(aos:List AO)(n:Nat)(h0 X:Heap)(c0:Nat)(MK:List Mk)(ao:AO)(H2:Heap)(i:Nat)(ρ:Nat→AV)(x:AV):Prop:=
 (i≠n∧FM P aos n h0 c0 MK i ρ x)∨(i=n∧x=.tup []∧stepW ao.op none ρ (mkH MK++X) (c0+mkN MK)=some (.tup [],H2,c0+mkN MK))
def RL(cx:Cx)(ops:Array Oper)(n:Nat)(X:Heap)(c0:Nat)(MK:List Mk)(H2:Heap)(listed:Array Bool)(ρ:Nat→AV)(a:Act)(w:World):Prop:=
 (listed.getD n false=false∧RM cx X c0 MK listed ρ a w) ∨
 (listed.getD n false=true∧(∀i,Region.waitsFor .any ops n i=true→listed.getD i false=true)∧Zfc cx (c0+mkN MK) H2 ρ a w)
theorem zlc{nt id n:Nat}{aos:List AO}{h0:Heap}{st:St}(hX0:Zdi h0 st.heap){K:St→Prop}{Q:Exit→Act→World→Prop}(hnt:nt=cx.nt)(hm:P.follows .mixedOrders=true)
  (hw:∀ao∈aos.take n,ao.op.writes=true→ao.op.maker=true) (hB:Zjk ops aos n=true)
  (hres:Zau P nt ops ops.toList=some aos) (hk:Zgs P (aos.drop (n+1)) h0 st.clk st.heap (aos.take (n+1)) st.env st.heap st.clk K) (hr:Rel cx st a w) (hQ:∀st' a' w',K st'→Rel cx st' a' w'→Q .normal a' w'):(Code.region id ops true).wp P Q a w:=by
 simp only[Zjk,Yo]at hB;obtain⟨⟨hT,hS⟩,hlate⟩:=hB;simp only[Region.lexTailB,Yo,decide_eq_true_eq]at hT;obtain⟨⟨⟨⟨_,hn⟩,hs⟩,hc⟩,hlex⟩:=hT;have hget':∀(i:Nat) (o:Oper),ops[i]? = some o→∃ao,aos[i]? = some ao∧Zcw P nt ops o=some ao:=fun i o ho=>zb3 ops.toList aos hres i o (by simpa using ho);have hlen:=zb4 ops.toList aos hres;have hlen':aos.length=ops.size:=by rw[←hlen];simp
 have htl:(ops.toList.take n).length=n:=by simp;omega
 have htl1:(ops.toList.take (n+1)).length=n+1:=by simp;omega
 have hdl:(ops.toList.drop (n+1)).length=ops.size-(n+1):=by simp
 split at hS
 rotate_left
 ·cases hS
 rename_i ao hao;simp only[Yo,Ycf]at hS;obtain⟨⟨hg,hd⟩,hst⟩:=hS;have inv0:HeadInv .any ops (n+1) (Array.replicate ops.size false):=
  ⟨by simp,fun j oj _ hl=>(by rw[getD_replicate_false]at hl;cases hl),fun t _ ht=>getD_in (by simpa using ht) (getD_replicate_false _ _)⟩
 have htka:aos.take (n+1)=aos.take n++[ao]:=by
  rw[Ycz,hao]
  rfl
 unfold Zgs at hk;rw[htka,ze9]at hk;obtain⟨MK,p1,p2,p4,p3⟩:=zos (P:=P) (ops:=ops) (aos:=aos) (n:=n) (h0:=h0) (X:=st.heap) (c0:=st.clk) hX0 (Fin:=fun e h clk=>Zb0 P h0 st.clk st.heap (fun e h clk=>Zec P (aos.drop (n+1)) ⟨e,h,clk⟩ K) [ao] e h clk) hw (fun i o ho=>by
  obtain⟨ao,h1,h2⟩:=hget' i o ho;obtain⟨op,g,_,_,rfl,_⟩:=zaw h2;exact⟨_,h1,rfl⟩) (ops.toList.take n) 0 (aos.take n) st.env st.heap st.clk (fun j hj=>by
   rw[htl]at hj;rw[Y0,if_pos hj];simp) (fun j hj=>by
   have hj':j<n:=by simp at hj;omega
   rw[Y0,if_pos hj',Yah]) (by rw[htl];simp;omega) (by rw[htl];omega) (fun _ h=>h) hk
 have hlx:=p3 MK (fun m hm=>hm) fun m hm _=>hm;have hc0:cx.clk0≤st.clk:=by
  obtain⟨S,M,hrf⟩:=hr;exact hrf.wr.ext.hclk
 obtain⟨ρe,⟨e,rfl,hrun⟩,hlx1⟩:=zov _ _ _ hlx;have hn':n<ops.size:=by omega
 have hos:ops[n]? = some (ops[n]'hn'):=Y7 hn';generalize ops[n]'hn'=os at hos;obtain⟨ao',f1,f2⟩:=hget' n os hos;rw[hao]at f1;cases f1;obtain⟨op,g,hop,hgs,hao',hdst⟩:=zaw f2;subst hao';simp only at hg hd hst;subst hg;have hnm:op.maker=false:=by
  cases op<;>first | rfl | cases hst
 simp only[Zb0,hnm,hst]at hrun;obtain⟨_,_,H2,hst2,hsub,hrun2⟩:=hrun;have htk:ops.toList.take (n+1)=ops.toList.take n++[os]:=by
  rw[Ycz];have:ops.toList[n]? = some os:=by simpa using hos
  rw[this]
  rfl
 have hlx2:Zfm ops (FL P aos n h0 st.heap st.clk MK ⟨os.dst,none,op⟩ H2) (fun ρ=>∃e,ρ=Env.get e∧Zec P (aos.drop (n+1)) ⟨e,H2,st.clk+mkN MK⟩ K) (ops.toList.take (n+1)) 0 st.env.get:=by
  rw[htk];refine zlb (fun i ρ x h=>.inl ⟨by have:=h.1;omega,h⟩) _ _ _ (fun ρ hρ=>?_) hlx1;subst hρ;refine⟨.tup [],.inr ⟨by rw[htl];omega,rfl,hst2⟩,?_⟩;rw[hd];exact⟨e,rfl,hrun2⟩
 have hloc:Ze8 ops (FL P aos n h0 st.heap st.clk MK ⟨os.dst,none,op⟩ H2):=by
  intro i o ho ρ ρ' hρ x hx;rcases hx with ⟨h1,h2⟩ | ⟨rfl,h2,h3⟩
  ·exact .inl ⟨h1,zot hget' i o ho ρ ρ' hρ x h2⟩
  ·refine .inr ⟨rfl,h2,?_⟩;rw[hos]at ho;cases ho;rw[←zev hop fun t ht=>hρ t (by
    unfold Oper.looksAt;exact Yaw _ (Ydc.2 ⟨.tmp t,ht,rfl⟩))]
   exact h3
 have H:=zfw (md:=.any) (g:=ops.size-(n+1)) hloc hs hc hn (ops.toList.take (n+1)) 0 _ st.env.get (fun j hj=>by
  rw[htl1]at hj;rw[Y0,if_pos hj];simp) (by rw[htl1];omega) inv0 (fun i hi=>by omega) (by rw[htl1];exact hlex) hlx2
 refine wp_region_any hm ?_;have hwait:∀listed:Array Bool,n∈Region.ready .any ops listed→∀i,Region.waitsFor .any ops n i=true→listed.getD i false=true:=by
  intro listed hrd i hi;obtain⟨_,o,ho,hall⟩:=mem_ready.1 hrd;obtain⟨oj,hj,ed,hed,hb,he⟩:=Region.waitsFor_spec hi;rw[ho]at hj;cases hj;rw[←he];exact hall ed hed hb
 have hnoisy:∀m∈MK,Region.waitsFor .any ops n m.i=true:=by
  intro m hmM;obtain⟨am,g1,g2⟩:=p4 m hmM;have:=Yh.1 hlate m.i (List.mem_range.2 (p1 m hmM).2.1);simp only[Yav]at this;rcases this with h | h
  ·exact h
  ·rw[g1]at h;simp only[Ycy]at h;rw[g2]at h;cases h
 have setne:∀(listed:Array Bool) (i j:Nat),j≠i→(listed.setIfInBounds i true).getD j false=listed.getD j false:=fun listed i j hj=>getD_set_ne false (Ne.symm hj);have setmono:∀(listed:Array Bool) (i j:Nat),listed.getD j false=true→(listed.setIfInBounds i true).getD j false=true:=by
  intro listed i j hj;by_cases he:j=i
  ·subst he;have:j<listed.size:=by
    rcases Yq j listed.size with h' | h'
    ·exact h'
    ·simp[Ycu h']at hj
   simp[this]
  ·rw[setne _ _ _ he];exact hj
 have:=zch (P:=P) (md:=.any) (Q':=Q) (g:=ops.size-(n+1)) (F:=FL P aos n h0 st.heap st.clk MK ⟨os.dst,none,op⟩ H2) (R:=RL cx ops n st.heap st.clk MK H2) (fun i o listed hin ho hrd ρ x a w K' hF hr hK'=>by
  have hun:=(mem_ready.1 hrd).1;rcases hF with ⟨hne,hF⟩ | ⟨rfl,rfl,h3⟩
  ·rcases hr with ⟨hl,hr⟩ | ⟨hl,hcl,hr⟩
   ·exact zsu hX0 hnt hget' hc0 p1 p2 ho hrd hF hr fun a' w' h=>hK' a' w' (.inl ⟨by rw[setne _ _ _ (Ne.symm hne)];exact hl,h⟩)
   ·obtain⟨hi,ao2,g1,g2⟩:=hF;have hfree:ao2.op.noisy=false:=by
     have:=Yh.1 hlate i (List.mem_range.2 hi);simp only[Yav]at this;rcases this with h | h
     ·have:=hcl i h;rw[getD_both hun]at this;cases this
     ·rw[g1]at h;simpa only[Ycy]using h
    rcases g2 with ⟨_,m,hmM,hmi,_⟩ | ⟨_,_,hqf,_⟩
    ·have:=hcl _ (hnoisy m hmM);rw[hmi,getD_both hun]at this;cases this
    ·obtain⟨ao3,k1,k2⟩:=hget' i o ho;rw[g1]at k1;cases k1;exact zd6 ho hnt k2 (zzj hsub hqf) hr fun a' w' hr'=>hK' a' w' (.inr ⟨by rw[setne _ _ _ (Ne.symm hne)];exact hl,fun j hj=>setmono _ _ _ (hcl j hj),hr'⟩)
  ·rw[hos]at ho;cases ho;rcases hr with ⟨hl,hr⟩ | ⟨hl,_⟩
   rotate_left
   ·rw[getD_both hun]at hl;cases hl
   have hwt:=hwait listed hrd;obtain⟨S,M,hrf⟩:=zsv p1 p2 (fun m hmM=>hwt _ (hnoisy m hmM)) hr;subst hnt;simp only at h3 hd;rw[←hd]at h3;obtain⟨v,w',S',M',e3,e4,e5⟩:=zdc hop hrf h3;have hput:=e4.put hdst e5;have hisz:i<listed.size:=by
    rcases Yq i listed.size with h' | h'
    ·exact h'
    ·simp[Ycu h']at hun
   have hfin:K' (a.put os.dst v) w':=hK' _ _ (.inr ⟨by simp[hisz],fun j hj=>setmono _ _ _ (hwt j hj),_,_,hput⟩);unfold wpOp;simp only[hos,zca hgs a,if_true];refine .inl ?_;rcases e3 with e3 | ⟨e3,rfl⟩
   ·exact zdb e3 hfin
   ·unfold Oper.wp;rw[e3,Oper.upon_skip];exact hfin) (fun listed ρ a' w' hL hr'=>by
  obtain⟨hseq,hfull,e,rfl,hrun⟩:=hL;have hrf:Zfc cx (st.clk+mkN MK) H2 e.get a' w':=by
   rcases hr' with ⟨hl,_⟩ | ⟨_,_,h⟩
   ·rw[hfull n (by omega)]at hl;cases hl
   ·exact h
  have hwl:wpList P ops Q (ops.toList.drop (n+1)) a' w':=zc2 hnt _ _ ⟨e,H2,st.clk+mkN MK⟩ K a' w' (zb8 (n+1) _ _ hres) hrun hrf hQ;have:=wpAny_of_seq (md:=.any) (Q':=Q) (ops.toList.drop (n+1)) (n+1) listed a' w' (fun j=>by simp[Yaj]) (by rw[hdl];exact hseq) hwl
  rwa [hdl]at this) _ _ _ a { w with drawn:=w.drawn+1 } (.inl ⟨getD_replicate_false _ _,zou hr⟩) H
 rw[htl1,show n+1+(ops.size-(n+1))=ops.size by omega]at this;exact this
theorem znp{nt id n:Nat}{aos:List AO}{h0:Heap}{st:St}(hX0:Zdi h0 st.heap){K:St→Prop}{Q:Exit→Act→World→Prop}(hnt:nt=cx.nt)(hm:P.follows .mixedOrders=true)(hB:Zjl ops aos=some n∨∃k,Zjm ops aos=some k∧n=k+1)
  (hres:Zau P nt ops ops.toList=some aos) (hk:Zgs P (aos.drop n) h0 st.clk st.heap (aos.take n) st.env st.heap st.clk K) (hr:Rel cx st a w) (hQ:∀st' a' w',K st'→Rel cx st' a' w'→Q .normal a' w'):(Code.region id ops true).wp P Q a w:=by
 have key:∀k,((aos.take k).all fun a=>!a.op.writes || (a.op.maker&&a.guard.isNone&&a.dst.isSome))=true→∀ao∈aos.take k,ao.op.writes=true→ao.op.maker=true:=by
  intro k hall ao hao hw;have:=Yh.1 hall ao hao;simp only[Yav,Ycy,Yo]at this;rcases this with h1 | h1
  ·rw[hw]at h1;cases h1
  ·exact h1.1.1
 rcases hB with hB | ⟨k,hB,rfl⟩
 ·have:=Ydr hB;simp only[Yo]at this;exact zla hX0 hnt hm (key n this.1) this.2 hres hk hr hQ
 ·have:=Ydr hB;simp only[Yo]at this;exact zlc hX0 hnt hm (key k this.1) this.2 hres hk hr hQ
end
end Go.Ab
end
section
namespace Go.Ab
open Go.RowKit
def AWp(cx:Cx)(c:AC)(Q:Exit→St→Prop)(st:St):Prop:=
 ∀code,Zv cx.P cx.nt code=some c→cx.P.follows .mixedOrders=true→∀a w,Rel cx st a w→code.wp cx.P (fun ex a' w'=>∃st',Q ex st'∧Rel cx st' a' w') a w
section
variable{cx:Cx}{Q:Exit→St→Prop}{st:St}
theorem AWp.mono{c:AC}{Q':Exit→St→Prop}(h:AWp cx c Q st)(hq:∀ex st,Q ex st→Q' ex st):AWp cx c Q' st:=
 fun code hc hm a w hr=>wp_mono (h code hc hm a w hr) fun _ _ _ ⟨st',h1,h2⟩=>⟨st',hq _ _ h1,h2⟩
theorem zw4(h:Q .normal st):AWp cx .skip Q st:=by
 intro code hc hm a w hr;have hcode:=hc;cases code<;>simp only[Zv]at hc<;>try cases hc
 case skip=>exact wp_skip ⟨st,h,hr⟩
 case region id ops draw=>
  rcases zam hcode with ⟨_,l,_,h1⟩ | ⟨_,l,_,⟨n,_,h1⟩ | ⟨_,h1⟩ | ⟨n,_,h1⟩ | h1⟩<;>cases h1
 all_goals simp[Yg]at hc
theorem z0f{l:List AO}(h:Zec cx.P l st (Q .normal)):AWp cx (.reg l) Q st:=by
 intro code hc hm a w hr;have hcode:=hc;cases code<;>simp only[Zv]at hc<;>try cases hc
 case region id ops draw=>
  rcases zam hcode with ⟨hd,l',hl,h1⟩ | ⟨_,l',_,⟨n,_,h1⟩ | ⟨_,h1⟩ | ⟨n,_,h1⟩ | h1⟩<;>cases h1
  subst hd;exact wp_region_list (zc2 rfl ops.toList l st (Q .normal) a w hl h hr fun st' a' w' h1 h2=>⟨st',h1,h2⟩)
 all_goals simp[Yg]at hc
theorem zw5{l:List DO}(h:Zkz cx.P l st (Q .normal)):AWp cx (.draw l) Q st:=by
 intro code hc hm a w hr;have hcode:=hc;cases code<;>simp only[Zv]at hc<;>try cases hc
 case region id ops draw=>
  rcases zam hcode with ⟨_,l',_,h1⟩ | ⟨hd,l',hl,⟨n,_,h1⟩ | ⟨hB,h1⟩ | ⟨n,_,h1⟩ | h1⟩<;>cases h1
  subst hd;exact znk rfl hm hB hl h hr fun st' a' w' h1 h2=>⟨st',h1,h2⟩
 all_goals simp[Yg]at hc
theorem zsw{hd tl:List AO}(h:Zfd cx.P tl hd st.env st.heap st.clk (Q .normal)):AWp cx (.drawT hd tl) Q st:=by
 intro code hc hm a w hr;have hcode:=hc;cases code<;>simp only[Zv]at hc<;>try cases hc
 case region id ops draw=>
  rcases zam hcode with ⟨_,l',_,h1⟩ | ⟨hd,l',hl,⟨n,hB,h1⟩ | ⟨_,h1⟩ | ⟨n,_,h1⟩ | h1⟩<;>cases h1
  subst hd;exact znm rfl hm hB hl h hr fun st' a' w' h1 h2=>⟨st',h1,h2⟩
 all_goals simp[Yg]at hc
theorem zsx{hd tl:List AO}{h0:Heap}(hX0:Zdi h0 st.heap)(h:Zgs cx.P tl h0 st.clk st.heap hd st.env st.heap st.clk (Q .normal)):AWp cx (.drawM hd tl) Q st:=by
 intro code hc hm a w hr;have hcode:=hc;cases code<;>simp only[Zv]at hc<;>try cases hc
 case region id ops draw=>
  rcases zam hcode with ⟨_,l',_,h1⟩ | ⟨hd,l',hl,⟨n,_,h1⟩ | ⟨_,h1⟩ | ⟨n,hB,h1⟩ | h1⟩<;>cases h1
  subst hd;exact znp hX0 rfl hm hB hl h hr fun st' a' w' h1 h2=>⟨st',h1,h2⟩
 all_goals simp[Yg]at hc
def Zia(N:St→Prop)(Q:Exit→St→Prop):Exit→St→Prop
 | .normal,st=>N st
 | ex,st=>Q ex st
theorem z0g{x y:AC}(h:AWp cx x (Zia (AWp cx y Q) Q) st):AWp cx (.seq x y) Q st:=by
 intro code hc hm a w hr;have hcode:=hc;cases code<;>simp only[Zv]at hc<;>try cases hc
 case seq c1 c2=>
  obtain⟨x',hx,hc1⟩:=bind_some hc;obtain⟨y',hy,he⟩:=map_some hc1;cases he;refine wp_seq (wp_mono (h c1 hx hm a w hr) fun ex a' w' ⟨st',h1,h2⟩=>?_);cases ex with
  | normal=>exact h1 c2 hy hm a' w' h2
  | _=>exact⟨st',h1,h2⟩
 case region id ops draw=>
  rcases zam hcode with ⟨_,l,_,h1⟩ | ⟨_,l,_,⟨n,_,h1⟩ | ⟨_,h1⟩ | ⟨n,_,h1⟩ | h1⟩<;>cases h1
 all_goals simp[Yg]at hc
theorem zw6{c:Opd}{x y:AC}{t:Bool}(hc0:ev st.env.get c=.b t)(ht:t=true→AWp cx x Q st)(hf:t=false→AWp cx y Q st):AWp cx (.cond c x y) Q st:=by
 intro code hc hm a w hr;have hcode:=hc;cases code<;>simp only[Zv]at hc<;>try cases hc
 case cond o c1 c2=>
  obtain⟨p,hp,hc1⟩:=bind_some hc;obtain⟨x',hx,hc2⟩:=bind_some hc1;obtain⟨y',hy,he⟩:=map_some hc2;cases he;obtain⟨S,M,hrf⟩:=hr;have hC:=ev_C hrf.env hp;rw[hc0]at hC;refine wp_cond_split hC.inv_b (fun h1=>ht h1 c1 hx hm a w ⟨S,M,hrf⟩) (fun h1=>hf h1 c2 hy hm a w ⟨S,M,hrf⟩)
 case region id ops draw=>
  rcases zam hcode with ⟨_,l,_,h1⟩ | ⟨_,l,_,⟨n,_,h1⟩ | ⟨_,h1⟩ | ⟨n,_,h1⟩ | h1⟩<;>cases h1
 all_goals simp[Yg]at hc
def Zee(id:Nat)(Q:Exit→St→Prop):Exit→St→Prop
 | .exit id',st=>if id'=id then Q .normal st else Q (.exit id') st
 | ex,st=>Q ex st
theorem zld{id:Nat}{c:AC}(h:AWp cx c (Zee id Q) st):AWp cx (.block id c) Q st:=by
 intro code hc hm a w hr;have hcode:=hc;cases code<;>simp only[Zv]at hc<;>try cases hc
 case block id' c1=>
  obtain⟨x',hx,he⟩:=map_some hc;cases he;refine wp_block (wp_mono (h c1 hx hm a w hr) fun ex a' w' ⟨st',h1,h2⟩=>?_);cases ex with
  | exit j=>
   simp only[Zee]at h1;simp only[Exit.inBlock];split at h1
   ·rename_i hj;rw[if_pos hj];exact⟨st',h1,h2⟩
   ·rename_i hj;rw[if_neg hj];exact⟨st',h1,h2⟩
  | _=>exact⟨st',h1,h2⟩
 case region id ops draw=>
  rcases zam hcode with ⟨_,l,_,h1⟩ | ⟨_,l,_,⟨n,_,h1⟩ | ⟨_,h1⟩ | ⟨n,_,h1⟩ | h1⟩<;>cases h1
 all_goals simp[Yg]at hc
theorem zw7{id:Nat}(h:Q (.exit id) st):AWp cx (.exit id) Q st:=by
 intro code hc hm a w hr;have hcode:=hc;cases code<;>simp only[Zv]at hc<;>try cases hc
 case exit=>exact wp_exit ⟨st,h,hr⟩
 case region id ops draw=>
  rcases zam hcode with ⟨_,l,_,h1⟩ | ⟨_,l,_,⟨n,_,h1⟩ | ⟨_,h1⟩ | ⟨n,_,h1⟩ | h1⟩<;>cases h1
 all_goals simp[Yg]at hc
theorem z0h(h:Q .ret st):AWp cx .ret Q st:=by
 intro code hc hm a w hr;have hcode:=hc;cases code<;>simp only[Zv]at hc<;>try cases hc
 case ret=>exact wp_ret ⟨st,h,hr⟩
 case region id ops draw=>
  rcases zam hcode with ⟨_,l,_,h1⟩ | ⟨_,l,_,⟨n,_,h1⟩ | ⟨_,h1⟩ | ⟨n,_,h1⟩ | h1⟩<;>cases h1
 all_goals simp[Yg]at hc
theorem zsy{c:AC}(h:AWp cx c (fun ex s=>(∀l,ex≠.goto l)∧Q ex s) st):AWp cx (.scope c) Q st:=by
 intro code hc hm a w hr;have hcode:=hc;cases code<;>simp only[Zv]at hc<;>try cases hc
 case scope c1=>
  obtain⟨x',hx,he⟩:=Yg.1 hc;rw[zgx]at he;obtain⟨rfl,_⟩:=he;refine wp_scope_straight (wp_mono (h c1 hx hm a w hr) fun ex a' w' ⟨st',⟨h0,h1⟩,h2⟩=>?_);cases ex with
  | goto l=>exact absurd rfl (h0 l)
  | _=>exact⟨st',h1,h2⟩
 case region id ops draw=>
  rcases zam hcode with ⟨_,l,_,h1⟩ | ⟨_,l,_,⟨n,_,h1⟩ | ⟨_,h1⟩ | ⟨n,_,h1⟩ | h1⟩<;>cases h1
 all_goals simp[Yg]at hc
theorem zsz{l:Nat}(h:Q .normal st):AWp cx (.label l) Q st:=by
 intro code hc hm a w hr;have hcode:=hc;cases code<;>simp only[Zv]at hc<;>try cases hc
 case label=>exact wp_label ⟨st,h,hr⟩
 case region id ops draw=>
  rcases zam hcode with ⟨_,l,_,h1⟩ | ⟨_,l,_,⟨n,_,h1⟩ | ⟨_,h1⟩ | ⟨n,_,h1⟩ | h1⟩<;>cases h1
 all_goals simp[Yg]at hc
theorem zw8{l:Nat}(h:Q (.goto l) st):AWp cx (.goto l) Q st:=by
 intro code hc hm a w hr;have hcode:=hc;cases code<;>simp only[Zv]at hc<;>try cases hc
 case goto=>exact wp_goto ⟨st,h,hr⟩
 case region id ops draw=>
  rcases zam hcode with ⟨_,l,_,h1⟩ | ⟨_,l,_,⟨n,_,h1⟩ | ⟨_,h1⟩ | ⟨n,_,h1⟩ | h1⟩<;>cases h1
 all_goals simp[Yg]at hc
def GQ(cx:Cx)(l:Nat)(r:AC)(Q:Exit→St→Prop):Nat→Exit→St→Prop
 | 0,_,_=>False
 | n+1,.goto j,s=>j=l∧AWp cx r (GQ cx l r Q n) s
 | _+1,ex,s=>Q ex s
theorem z0i{l:Nat}{c r:AC}(n:Nat)(h:AWp cx c (GQ cx l r Q n) st):AWp cx (.gsc l c r) Q st:=by
 intro code hc hm a w hr;have hcode:=hc;cases code<;>simp only[Zv]at hc<;>try cases hc
 case scope c1=>
  obtain⟨x',hx,he⟩:=Yg.1 hc;rw[zgx]at he;obtain⟨rfl,_,hrest⟩:=he;have hl:=zfu c1 _ l hx;obtain⟨rest,hf,hres⟩:∃rest,findLabel c1 l=some rest∧Zv cx.P cx.nt rest=some r:=by
   cases hf:findLabel c1 l with
   | none=>rw[hf]at hl;simp only at hl;rw[hl]at hrest;cases hrest
   | some rest=>
    rw[hf]at hl;obtain⟨r',e1,e2⟩:=hl;rw[hrest]at e1;cases e1;exact⟨rest,rfl,e2⟩
  intro b k cs;have key:∀n ex s a w,GQ cx l r Q n ex s→Rel cx s a w→∀m,Arrives cx.P m b (.inScope c1::k) cs ex a w →
    ∃e a' w',(∃st',Q e st'∧Rel cx st' a' w')∧Arrives cx.P m b k cs e a' w':=by
   intro n
   induction n with
   | zero=>intro ex s a w hG;exact hG.elim
   | succ n ih=>
    intro ex s a w hG hR m harr;cases ex with
    | goto j=>
     obtain⟨rfl,hA⟩:=hG;obtain⟨e2,a2,w2,⟨s2,hG2,hR2⟩,harr2⟩:=hA rest hres hm a w hR b (.inScope c1::k) cs;exact ih e2 s2 a2 w2 hG2 hR2 m (.of_steps (harr _ (by simp[gotoIn,hf])) harr2)
    | normal=>exact⟨.normal,a,w,⟨s,hG,hR⟩,Steps.trans harr (.one step_inScope)⟩
    | exit id=>exact⟨.exit id,a,w,⟨s,hG,hR⟩,fun k' hk=>harr k' (by simp[exitTo,hk])⟩
    | ret=>exact⟨_,a,w,⟨s,hG,hR⟩,harr⟩
    | panic ch=>exact⟨_,a,w,⟨s,hG,hR⟩,harr⟩
    | outgrown=>exact⟨_,a,w,⟨s,hG,hR⟩,harr⟩
  obtain⟨ex,a1,w1,⟨s1,hG1,hR1⟩,harr1⟩:=h c1 hx hm a w hr b (.inScope c1::k) cs;obtain⟨e,a',w',hq,harr⟩:=key n ex s1 a1 w1 hG1 hR1 _ harr1;exact⟨e,a',w',hq,.of_steps (.one step_scope) harr⟩
 case region id ops draw=>
  rcases zam hcode with ⟨_,l,_,h1⟩ | ⟨_,l,_,⟨n,_,h1⟩ | ⟨_,h1⟩ | ⟨n,_,h1⟩ | h1⟩<;>cases h1
 all_goals simp[Yg]at hc
structure Sub (st st':St):Prop where
 env:∀t x,st'.env.lookup t=some x→st.env.get t=x
 heap:∀b bx,st'.heap.lookup b=some bx→∃bx0,st.heap.lookup b=some bx0∧(bx=bx0∨(bx0.kind≠.str∧bx={ bx0 with kind:=.sh }))
 clk:st.clk≤st'.clk
theorem Rel.sub{st':St}{a:Act}{w:World}(hs:Sub st st')(hr:Rel cx st a w):Rel cx st' a w:=by
 obtain⟨S,M,hr⟩:=hr
 classical
 generalize hMb:(fun g=>if Live st'.heap g then M g else none:Map)=Mb;have hMb1:∀g m,Mb g=some m→Live st'.heap g∧M g=some m:=by
  intro g m hm;rw[←hMb]at hm;simp only at hm;split at hm
  ·exact⟨‹_›,hm⟩
  ·cases hm
 have hMb2:∀g,Live st'.heap g→Mb g=M g:=by intro g hg;rw[←hMb];simp[hg]
 have hx:Ext w S M st.clk w S Mb st'.clk:=⟨fun _ _ hs=>hs,fun _ _ _ _ hc=>hc,hs.clk,fun g m _ hm=>(hMb1 g m hm).2,fun _ _ arr _ _ _ hb=>⟨arr,hb,rfl⟩⟩;refine⟨S,Mb,hr.size,hr.defers,fun t=>?_,⟨fun b bx hb=>?_,fun g m hm=>(hMb1 g m hm).1,fun b bx b' bx' h1 h2 hg=>?_,fun g g' k h1 h2=>hr.wr.heap.inj _ _ _ (hMb1 _ _ h1).2 (hMb1 _ _ h2).2⟩,hr.wr.ext.trans hx,hr.wr.fr,hr.wr.Snew,hr.wr.Slt,fun g k hm=>hr.wr.Mnew g k (hMb1 _ _ hm).2⟩
 ·unfold Env.get;cases hl:st'.env.lookup t with
  | none=>exact .p (.dead _)
  | some x=>
   have:=hr.env t;rw[hs.env t x hl]at this;exact this.mono hx
 ·obtain⟨bx0,h0,h1⟩:=hs.heap b bx hb;have hl:Live st'.heap bx.gen:=⟨b,bx,hb,rfl⟩;have hbox:=hr.wr.heap.box b bx0 h0;rcases h1 with rfl | ⟨hk,rfl⟩
  ·exact hbox.mono hx (hMb2 _ hl) (fun _ _=>rfl) fun _ _ _ hs=>hs
  ·obtain⟨b1,b2,m,hm,b3⟩:=hbox.mono hx (hMb2 bx0.gen hl) (fun _ _=>rfl) fun _ _ _ hs=>hs;refine⟨b1,b2,m,hm,?_⟩;cases m with
   | none=>exact⟨b3.1,by simp⟩
   | some k=>
    obtain⟨arr,e,hh,hsz,hc,ho,hlt⟩:=b3;refine⟨arr,e,hh,hsz,fun i r j c hi hj=>?_,fun hne=>absurd rfl hne,hlt⟩;obtain⟨u,hu,h1,hC,hP⟩:=hc i r j c hi hj;exact⟨u,hu,h1,hC,fun _=>hP hk⟩
 ·obtain⟨bx0,h3,h4⟩:=hs.heap b bx h1;obtain⟨bx0',h5,h6⟩:=hs.heap b' bx' h2;have e1:bx.gen=bx0.gen:=by rcases h4 with rfl | ⟨_,rfl⟩<;>rfl
  have e2:bx'.gen=bx0'.gen:=by rcases h6 with rfl | ⟨_,rfl⟩<;>rfl
  exact hr.wr.heap.gens _ _ _ _ h3 h5 (by rw[←e1,←e2,hg])
theorem AWp.sub{c:AC}{st':St}(hs:Sub st st')(h:AWp cx c Q st'):AWp cx c Q st:=
 fun code hc hm a w hr=>h code hc hm a w (hr.sub hs)
end
end Go.Ab
end
section
namespace Go.Ab
open Go.RowKit
def resV(st:St):RV→Option AV
 | .t n=>some (st.env.get n)
 | .cell n k=>Zeo k st.heap (st.env.get n)
def Zfw(tmps:Array Value):ResultVar→Sem Value
 | .tmp t=>pure (tmps.getD t undef)
 | .cell q t=>do loadVar t (←asAddr (tmps.getD q undef))
theorem zi3(fn:Func)(tmps:Array Value):results fn tmps=(fn.results.mapM (Zfw tmps) >>= fun vs=>pure (if h:vs.size=1 then vs[0] else .tuple vs)):=by
 unfold results
 rfl
def Zda(st:St)(rs:List RV):Option AV:=
 match rs with
 | [r]=>resV st r
 | rs=>(rs.mapM (resV st)).map .tup
section
variable{P:Program}{cx:Cx}{w:World}{S:Nat→Nat→Prop}{M:Map}{st:St}{a:Act}
theorem z0j{rs:List ResultVar}{ps:List RV}{xs:List AV}(hres:Zd9 P rs=some ps)(hr:RelF cx S M st.clk st.heap st.env.get a w)(hx:ps.mapM (resV st)=some xs) :
  ∃vs:List Value,(rs.mapM (Zfw a.tmps)).run P w=.ok vs w∧vs.length=xs.length∧∀(j:Nat) (v:Value) (c:AV),vs[j]? = some v→xs[j]? = some c→C w S M st.clk v c:=by
 induction rs generalizing ps xs with
 | nil=>
  simp only[Zd9,Option.some.injEq]at hres
  simp_all
 | cons r rs ih=>
  have step:∀(p:RV) (qs:List RV) (s:Sem Value),ps=p::qs→Zd9 P rs=some qs→(∀x,resV st p=some x→∃v,s.run P w=.ok v w∧C w S M st.clk v x) →
    ∃(x:AV) (ys:List AV) (v:Value) (vs:List Value),xs=x::ys∧s.run P w=.ok v w∧C w S M st.clk v x∧(rs.mapM (Zfw a.tmps)).run P w=.ok vs w∧vs.length=ys.length∧∀(j:Nat) (v:Value) (c:AV),vs[j]? = some v→ys[j]? = some c→C w S M st.clk v c:=by
   intro p qs s hp hq hs;subst hp;simp only[Ycs,Ycn,Ydb]at hx;obtain⟨x,hx1,hx2⟩:=bind_some hx;obtain⟨ys,hx3,hx4⟩:=bind_some hx2
   grind
  cases r with
  | tmp t=>
   simp only[Zd9]at hres;obtain⟨qs,hq,hp⟩:=map_some hres;obtain⟨x,ys,v,vs,rfl,h1,h2,h3,h4,h5⟩:=step _ qs (pure (a.tmps.getD t undef)) hp.symm hq (fun x hx=>by
    simp only[resV,Option.some.injEq]at hx;subst hx;exact⟨_,rfl,hr.env t⟩)
   refine⟨v::vs,?_,by grind,fun j v' c hv hc=>?_⟩
   ·grind[Zfw,Sem.run_bind,Result.andThen_ok,Sem.run_pure]
   grind
  | cell q t=>
   simp only[Zd9]at hres;obtain⟨k,hk,hres1⟩:=bind_some hres;obtain⟨qs,hq,hp⟩:=map_some hres1;obtain⟨x,ys,v,vs,rfl,h1,h2,h3,h4,h5⟩:=step _ qs (do loadVar t (←asAddr (a.tmps.getD q undef))) hp.symm hq (fun x hx=>by
    simp only[resV]at hx;obtain⟨v,h1,h2⟩:=zi5 (P:=P) hk hr.wr.heap (hr.env q) hx;refine⟨v,?_,h2⟩
    -- the address is one
    unfold Instr.loadAt at h1;cases hv:a.tmps.getD q undef<;>rw[hv]at h1<;>try (simp[Instr.sureAddr,stuck]at h1;done)
    rename_i ad;cases ad with
    | none=>simp[Instr.sureAddr,stuck]at h1
    | some ad=>simpa[Instr.sureAddr,asAddr]using h1)
   refine⟨v::vs,?_,by grind,fun j v' c hv hc=>?_⟩
   ·grind[Sem.run_bind,Zfw,Result.andThen_ok,Sem.run_pure]
   grind
theorem znq{fn:Func}{ps:List RV}{x:AV}(hres:Zd9 P fn.results.toList=some ps)(hr:RelF cx S M st.clk st.heap st.env.get a w)(hx:Zda st ps=some x):∃v,(results fn a.tmps).run P w=.ok v w∧C w S M st.clk v x:=by
 have main:∀xs,ps.mapM (resV st)=some xs→∃vs:Array Value,(fn.results.mapM (Zfw a.tmps)).run P w=.ok vs w∧vs.size=xs.length∧∀(j:Nat) (v:Value) (c:AV),vs[j]? = some v→xs[j]? = some c→C w S M st.clk v c:=by
  intro xs hxs;obtain⟨vs,h1,h2,h3⟩:=z0j hres hr hxs;refine⟨vs.toArray,?_,by omega,fun j v c hv hc=>h3 j v c (by grind) hc⟩
  grind[Array.mapM_eq_mapM_toList,Sem.run_map,Result.andThen_ok]
 unfold Zda at hx;split at hx
 ·rename_i r;obtain⟨vs,h1,h2,h3⟩:=main [x] (by simp[hx]);have hsz:vs.size=1:=by omega
  have hv:vs[0]? = some (vs[0]'(by omega)):=Y7 _;refine⟨vs[0]'(by omega),?_,h3 0 _ x hv rfl⟩
  grind[zi3,Sem.run_bind,Result.andThen_ok,Sem.run_pure]
 ·rename_i hne;obtain⟨xs,hxs,rfl⟩:=map_some hx;obtain⟨vs,h1,h2,h3⟩:=main xs hxs;refine⟨.tuple vs,?_,.tup vs xs h2 h3⟩;have hsz:vs.size≠1:=by
   intro hs;obtain⟨hl,_⟩:=zbl _ _ hxs;rw[h2]at hs
   match ps,hl with
   | [],hl=>grind
   | [p],hl=>grind
   | p::q::r,hl=>grind
  grind[zi3,Sem.run_bind,Result.andThen_ok,Sem.run_pure]
end
def Zk0(rs:List RV)(post:AV→Heap→Nat→Prop):Exit→St→Prop:=
 fun ex st=>(ex=.normal∨ex=.ret)∧∃r,Zda st rs=some r∧post r st.heap st.clk
def Zk1(rs:List RV)(post:AV→Prop):Exit→St→Prop:=
 fun ex st=>(ex=.normal∨ex=.ret)∧∃r y,Zda st rs=some r∧frz st.heap r=some y∧post y
def Zch(args:List AV):Env:=args.zipIdx.map fun p=>(p.2,p.1)
theorem zqb(args:List AV)(t:Nat):(Zch args).get t=(args[t]?).getD .dead:=by
 have key:∀(l:List AV) (k t:Nat),((l.zipIdx k).map fun p=>(p.2,p.1)).lookup t=if k≤t then l[t-k]? else none:=by
  intro l
  induction l with
  | nil=>grind
  | cons x l ih=>
   intro k t;simp only[Ydk,Y2,Y3]
   grind
 unfold Env.get Zch
 grind
section
variable{P:Program}{f:FuncId}{af:AF}{args:List AV}
theorem za2(hf:Zfl P f=some af):Enters P f:=by
 unfold Zfl at hf;split at hf
 ·rename_i fn hfn;split at hf
  ·rename_i c hb;obtain⟨rs,hrs,hf1⟩:=bind_some hf;obtain⟨c',hc',hf2⟩:=bind_some hf1;split at hf2
   ·rename_i hcond;intro cargs w;unfold callFunc
    simp_all
   grind
  grind
 grind
theorem zle{hb:Heap}{clk:Nat}{post:AV→Heap→Nat→Prop}(hf:Zfl P f=some af)(hm:P.follows .mixedOrders=true)(hn:args.length=af.np)
  (h:∀cx:Cx,cx.P=P→cx.nt=af.nt→cx.clk0=clk→AWp cx af.body (Zk0 af.res post) ⟨Zch args,hb,clk⟩):Zd3 P f args hb clk post:=by
 refine⟨za2 hf,fun w S M cargs hl hC hh hS hM=>?_⟩;unfold Zfl at hf;split at hf
 ·rename_i fn hfn;split at hf
  ·rename_i c hbody;obtain⟨rs,hrs,hf1⟩:=bind_some hf;obtain⟨c',hc',hf2⟩:=bind_some hf1;split at hf2<;>cases hf2;rename_i hcond;simp only at h hn;refine calls_of_wp hfn hbody ?_;have hwp:=h ⟨P,fn.ntmps,w,S,M,clk⟩ rfl rfl rfl c hc' hm { tmps:=cargs++Array.replicate (fn.ntmps-cargs.size) undef,defers:=[] } w ⟨S,M,?_⟩
   ·refine wp_mono hwp fun ex a' w' ⟨st',⟨hex,r,hres,hpost⟩,hrel⟩=>?_;obtain⟨S',M',hr⟩:=hrel;obtain⟨v,hv,hCv⟩:=znq hrs hr hres;have hfin:∃v r h' S' M' clk',Ending.returned v=.returned v∧post r h' clk'∧C w' S' M' clk' v r∧∀nt,WRel ⟨P,nt,w,S,M,clk⟩ S' M' clk' h' w':=⟨v,r,st'.heap,S',M',st'.clk,rfl,hpost,hCv,fun nt=>⟨hr.wr.heap,hr.wr.ext,hr.wr.fr,hr.wr.Snew,hr.wr.Slt,hr.wr.Mnew⟩⟩;have hw:∀nt,WRel ⟨P,nt,w,S,M,clk⟩ S' M' st'.clk st'.heap w':=fun nt=>⟨hr.wr.heap,hr.wr.ext,hr.wr.fr,hr.wr.Snew,hr.wr.Slt,hr.wr.Mnew⟩;rcases hex with rfl | rfl
    ·exact⟨hr.defers,v,hv,v,r,st'.heap,S',M',st'.clk,rfl,hpost,hCv,hw⟩
    ·exact⟨hr.defers,v,hv,v,r,st'.heap,S',M',st'.clk,rfl,hpost,hCv,hw⟩
   ·refine⟨by grind,rfl,fun t=>?_,⟨hh,Ext.refl _ _ _ _,⟨rfl,rfl,rfl,Yf _,fun _ _ _=>rfl⟩,fun k o hs=>.inl hs,hS,fun g k hm=>⟨hM g k hm,.inr ⟨g,hm⟩⟩⟩⟩;rw[zqb];cases ha:args[t]? with
    | none=>exact .p (.dead _)
    | some x=>
     have htl:=zbg ha;have hv:cargs[t]? = some (cargs[t]'(by omega)):=Y7 _;have e1:(cargs++Array.replicate (fn.ntmps-cargs.size) undef).getD t undef=cargs[t]'(by omega):=by
      simp only[Array.getD_eq_getD_getElem?]
      grind
     grind
  grind
 grind
theorem zs0{post:AV→Prop}(hf:Zfl P f=some af)(hm:P.follows .mixedOrders=true)(hn:args.length=af.np)
  (h:∀cx:Cx,cx.P=P→cx.nt=af.nt→cx.clk0=1→AWp cx af.body (Zk1 af.res post) ⟨Zch args,[],1⟩):Zaq P f args post:=by
 have hA:Zd3 P f args [] 1 (fun r h _=>∃y,frz h r=some y∧post y):=
  zle hf hm hn fun cx h1 h2 h0=>(h cx h1 h2 h0).mono fun ex st ⟨h3,r,y,h4,h5,h6⟩=>⟨h3,r,h4,y,h5,h6⟩
 refine⟨hA.1,fun w S cargs hl hC hS=>?_⟩;refine(hA.2 w S (fun _=>none) cargs hl (fun j v c hv hc=>.p (hC j v c hv hc)) ⟨fun b bx hb=>(by grind),fun g m hm=>(by grind),fun b bx b' bx' h1=>(by grind),fun g g' k h1=>(by grind)⟩ hS (fun g k hm=>(by grind))).mono ?_;intro e w' ⟨v,r,h',S',M',clk',he,⟨y,hy,hpost⟩,hCr,hw⟩;have hw:=hw 0;refine⟨v,y,he,hpost,⟨hw.fr.os,hw.fr.tape,hw.fr.output,hw.fr.size,fun k hk=>hw.fr.block k hk fun⟨g,hg⟩=>(by grind)⟩,?_⟩;refine(zzf hw.heap hCr hy fun id hid=>hid).mono (fun k o hs=>?_) fun k o u _ hc=>hc;rcases hs with hs | ⟨id,bx,_,_,hm,_⟩
 ·rcases hw.Snew k o hs with h1 | h1 | ⟨g,h1⟩
  ·grind
  ·exact .inr ⟨h1,hw.Slt k o hs⟩
  grind
 ·obtain⟨h1,h2⟩:=hw.Mnew _ k hm;rcases h2 with h2 | ⟨g,h2⟩
  all_goals grind
end
end Go.Ab
end
section
namespace Go.Ab
open Go.RowKit
mutual
def wkA:AV→AV
 | .sl els _=>.sl (wkL els) .an
 | .agg cs=>.agg (wkR cs)
 | .tup cs=>.tup (wkR cs)
 | .i k n=>.i k n
 | .b x=>.b x
 | .s l=>.s l
 | .raw v=>.raw v
 | .ep cs o=>.ep cs o
 | .bs id g z off n=>.bs id g z off n
 | .ptr id g z i o=>.ptr id g z i o
 | .ifc t x=>.ifc t x
 | .fnp f id g z i o=>.fnp f id g z i o
 | .fnv f x=>.fnv f (wkA x)
 | .dead=>.dead
def wkR:List AV→List AV
 | []=>[]
 | c::r=>wkA c::wkR r
def wkL:List (List AV)→List (List AV)
 | []=>[]
 | r::l=>wkR r::wkL l
end
def wkIf(ex:Bool)(x:AV):AV:=if ex then x else wkA x
def rlC(σn:BId→BId)(σg:Nat→Nat):AV→AV
 | .bs id g z off n=>.bs (σn id) (σg g) z off n
 | .ptr id g z i o=>.ptr (σn id) (σg g) z i o
 | .fnp f id g z i o=>.fnp f (σn id) (σg g) z i o
 | .agg _ | .tup _ | .ifc .. => .dead
 | x=>x
def rl1(σn:BId→BId)(σg:Nat→Nat):AV→AV
 | .agg cs=>.agg (cs.map (rlC σn σg))
 | x=>rlC σn σg x
def rlA(σn:BId→BId)(σg:Nat→Nat):AV→AV
 | .tup cs=>.tup (cs.map (rl1 σn σg))
 | x=>rl1 σn σg x
def rfC:AV→List BId
 | .bs id _ _ _ _=>[id]
 | .ptr id _ _ _ _=>[id]
 | .fnp _ id _ _ _ _=>[id]
 | _=>[]
def rf1:AV→List BId
 | .agg cs=>cs.flatMap rfC
 | x=>rfC x
def rfA:AV→List BId
 | .tup cs=>cs.flatMap rf1
 | x=>rf1 x
def Zar(ex:Bool)(σn:BId→BId)(σg:Nat→Nat)(bx:Box):Box:=
 ⟨σg bx.gen,bx.kind,bx.z,if bx.kind=.str then bx.els.map fun r=>r.map fun c=>rlC σn σg (wkIf ex c) else if ex then bx.els else wkL bx.els⟩
def kids(h:Heap)(b:BId):List BId:=
 match h.lookup b with
 | some bx=>if bx.kind=.str then bx.els.flatMap fun r=>r.flatMap rfC else []
 | none=>[]
def Zcy(h:Heap):Nat→List BId→List BId→List BId
 | 0,_,acc=>acc
 | _,[],acc=>acc
 | n+1,b::todo,acc=>if acc.contains b then Zcy h n todo acc else Zcy h n (kids h b++todo) (acc++[b])
def Zkl:Nat→List BId
 | 0=>[]
 | k+1=>Zkl k++[.bor k]
def Zd5(h:Heap)(ids:List BId):Heap:=ids.filterMap fun b=>(h.lookup b).map fun bx=>(b,bx)
def Zcn:Heap→Nat→Nat→Nat
 | [],_,j=>j
 | p::l,g,j=>if p.2.gen=g then j else Zcn l g (j+1)
def Zc4(k:Nat)(hp:Heap)(g:Nat):Nat:=if g≤k then g else Zcn hp g (k+1)
def Zdf(ex:Bool)(k:Nat)(live:List Nat)(st:St):St:=
 let env:=live.map fun t=>(t,st.env.get t)
 let hp:=Zd5 st.heap (Zcy st.heap 40 (Zkl k++env.flatMap fun p=>rfA p.2) [])
 ⟨env.map fun p=>(p.1,rlA id (Zc4 k hp) (wkIf ex p.2)),hp.map fun p=>(p.1,Zar ex id (Zc4 k hp) p.2),k+hp.length+2⟩
inductive Gh where
 | nil (t z:Nat)                      -- an empty list,told as a row of the call's own
 | frz (t:Nat)                        -- a row of the call's own,told as a value
 | norm (ex:Bool) (live:List Nat)
 | fld (t:Nat) (i o z:Nat)          -- an empty list in a field of the box that slot t points to
 | shr (t:Nat)                        -- a row of the call's own,stored into no more,but told as a row
inductive AX where
 | skip
 | reg (ops:List AO)
 | draw (ops:List DO)
 | seq (a b:AX)
 | cond (c:Opd) (x y:AX)
 | block (id:Nat) (c:AX)
 | loop (c:AX)
 | exit (id:Nat)
 | ret
 | note (c:AX) (g:Gh)
 | pre (g:Gh) (c:AX)   -- ahead of c
 | scope (c:AX)
 | lp (id:Nat) (g:Gh) (c:AX) (g2:Gh)   -- a loop in its block: told by g ahead of it,by g2 behind
 | bad
 | drawT (hd tl:List AO)
 | drawM (hd tl:List AO)
 | prim (f:List AV→Option AV)   -- no code: a function known by its contract
 | label (l:Nat)
 | goto (l:Nat)
 | gsc (l:Nat) (c r:AX)   -- a scope,and what stands behind its label
def AX.isPrim:AX→Option (List AV→Option AV)
 | .prim f=>some f
 | _=>none
def AX.isBad:AX→Bool
 | .bad=>true
 | _=>false
def Zjt:Nat→String
 | 1=>"Of"
 | 2=>"Neg"
 | 3=>"Add"
 | 4=>"Sub"
 | 5=>"Mul"
 | 6=>"Quo"
 | 7=>"Pow"
 | 8=>"Fits"
 | _=>""
structure AFx where
 np:Nat
 nt:Nat
 res:List RV
 body:AX
 lent:Option (List Bool)
 exact:Bool
abbrev Tbl:=Nat→Option AFx
def Zhy(af:AFx):List (String×Nat):=af.res.filterMap fun r=>match r with | .cell j (some u)=>some (Zjt j,u) | _=>none
def Zt(T:Tbl)(k:Nat):Nat:=match T (1000000+k) with | some af=>af.np | none=>0
def Zcp(T:Tbl)(k:Nat):List (String×Nat):=match T (1000000+k) with | some af=>if af.body.isBad then Zhy af else [] | none=>[]
def Zg9(T:Tbl)(k:Nat):Option Nat:=match T (1000000+k) with | some af=>if af.body.isBad&&af.res.isEmpty then some af.nt else none | none=>none
inductive Ex where
 | n
 | x (id:Nat)
 | r
 | g (l:Nat)
def ghS(k:Nat)(g:Gh)(st:St):Option St:=
 match g with
 | .nil t z=>
  match st.env.get t with
  | .sl [] .nl=>some ⟨(t,.bs (.loc t) st.clk z 0 0)::st.env,(.loc t,⟨st.clk,.own,z,[]⟩)::st.heap,st.clk+1⟩
  | _=>none
 | .frz t=>(frz st.heap (st.env.get t)).map fun y=>⟨(t,y)::st.env,Zm (refs (st.env.get t)) st.heap,st.clk⟩
 | .norm ex live=>some (Zdf ex k live st)
 | .shr t=>(frz st.heap (st.env.get t)).map fun _=>⟨st.env,Zm (refs (st.env.get t)) st.heap,st.clk⟩
 | .fld t i o z=>
  match st.env.get t with
  | .ptr b g z0 _ _=>
   match Zal st.heap b g z0 with
   | some bx=>
    match bx.els[i]? with
    | some r=>
     match r[o]? with
     | some (.sl [] .nl)=>
      if bx.kind=.str∧(st.heap.lookup (.fld b o)).isNone then
       some ⟨st.env,(b,{ bx with els:=bx.els.set i (r.set o (.bs (.fld b o) st.clk z 0 0)) })::(.fld b o,⟨st.clk,.own,z,[]⟩)::st.heap,st.clk+1⟩
      else none
     | _=>none
    | none=>none
   | none=>none
  | _=>none
structure Orc where
 call:Nat→List AV→Heap→Option (AV×Heap)
 loop:Nat→AX→St→Option (Ex×St)
def Zci:List Bool→List AV→List BId
 | m::ms,x::xs=>(if m then rfA x else [])++Zci ms xs
 | _,_=>[]
def Zer:List BId→BId→Nat→Nat
 | [],_,j=>j
 | b::l,x,j=>if b=x then j else Zer l x (j+1)
def inN(l:List BId)(b:BId):BId:=.bor (Zer l b 0)
def inG(hp:Heap)(g:Nat):Nat:=Zcn hp g 0
def Za8(l:List BId)(d:Nat)(b:BId):BId:=
 match b with
 | .bor i=>l.getD i (.fld (.loc d) i)
 | .loc n=>.fld (.loc d) n
 | .fld b o=>.fld (.fld (.loc d) 0) (match b with | .loc n=>1000+1000*n+o | _=>o)
def Zbk(hp:Heap)(clk:Nat)(g:Nat):Nat:=
 match hp[g]? with
 | some p=>p.2.gen
 | none=>clk+(g-hp.length)
def Zd(O:Orc)(T:Tbl)(u:Nat)(xs:List AV)(d:Option Nat)(st:St):Option St:=
 match T u with
 | none=>none
 | some af=>
  match af.lent with
  | none=>
   (xs.mapM (Zbg st.heap)).bind fun ys=>(O.call u (ys.map (wkIf af.exact)) []).bind fun r=>
    some ⟨Zq st.env d r.1,if scalar r.1 then st.heap else Zm (xs.flatMap refs) st.heap,st.clk⟩
  | some ms=>
   (Zeb st.heap ms xs).bind fun ys=>
    let h1:=Zm (Za1 ms xs) st.heap
    let l:=Zcy h1 40 (Zci ms xs) []
    let hp:=Zd5 h1 l
    if hp.map (·.1)=l∧l.Nodup then
     (O.call u (ys.map fun y=>rlA (inN l) (inG hp) (wkIf af.exact y)) (hp.map fun p=>(inN l p.1,Zar af.exact (inN l) (inG hp) p.2))).bind fun r=>
      let hb':=r.2.map fun p=>(Za8 l (d.getD 0) p.1,Zar true (Za8 l (d.getD 0)) (Zbk hp st.clk) p.2)
      let r':=rlA (Za8 l (d.getD 0)) (Zbk hp st.clk) r.1
      if (hb'.map (·.1)).Nodup&&Zcm hb' r'&&Zgp hb' then
       some ⟨Zq st.env d r',hb'++(h1.filter fun p=>!(l.contains p.1 || (hb'.map (·.1)).contains p.1)),st.clk+r.2.length+2⟩
      else none
    else none
def opX(O:Orc)(T:Tbl)(op:AOp)(d:Option Nat)(st:St):Option St:=
 match op with
 | .call u args=>Zd O T u (args.map (ev st.env.get)) d st
 | .ifc k x=>some ⟨Zq st.env d (.ifc (Zt T k) (ev st.env.get x)),st.heap,st.clk⟩
 | .inv nm k u r args=>
  match ev st.env.get r with
  | .ifc t y=>if t=Zt T k∧(nm,u)∈Zcp T k then Zd O T u (y::args.map (ev st.env.get)) d st else none
  | .fnv f x=>if nm="()"∧f=Zt T k∧Zg9 T k=some u then Zd O T u (x::args.map (ev st.env.get)) d st else none
  | .fnp f id g z i o=>if nm="()"∧f=Zt T k∧Zg9 T k=some u then Zd O T u (args.map (ev st.env.get)++[.ptr id g z i o]) d st else none
  | _=>none
 | .xop (.mkv k) xs=>(stepW (.xop (.mkv (Zt T k)) xs) d st.env.get st.heap st.clk).map fun q=>⟨Zq st.env d q.1,q.2.1,q.2.2⟩
 | .xop (.mkf k) xs=>(stepW (.xop (.mkf (Zt T k)) xs) d st.env.get st.heap st.clk).map fun q=>⟨Zq st.env d q.1,q.2.1,q.2.2⟩
 | .alloc .. | .store .. | .mks .. | .app .. | .xop .. => (stepW op d st.env.get st.heap st.clk).map fun q=>⟨Zq st.env d q.1,q.2.1,q.2.2⟩
 | .bsl z zs len ps=>(Zd2 z zs len st.heap (ps.map fun p=>(p.1,ev st.env.get p.2))).map fun q=>⟨Zq st.env d q.1,q.2,st.clk⟩
 | op=>(Zh op st.env.get st.heap).map fun x=>⟨Zq st.env d x,st.heap,st.clk⟩
def gX(O:Orc)(T:Tbl)(x:AV)(want:Bool)(op:AOp)(d:Option Nat)(st:St):Option St:=
 match x with
 | .b v=>if v=want then opX O T op d st else some ⟨Zq st.env d (.tup []),st.heap,st.clk⟩
 | .tup _=>some ⟨Zq st.env d (.tup []),st.heap,st.clk⟩
 | _=>none
def Zga(O:Orc)(T:Tbl)(o:AO)(st:St):Option St:=
 match o.guard with
 | none=>opX O T o.op o.dst st
 | some (t,want)=>gX O T (st.env.get t) want o.op o.dst st
def Zdu(O:Orc)(T:Tbl):List AO→St→Option St
 | [],st=>some st
 | o::r,st=>(Zga O T o st).bind (Zdu O T r)
open Classical in
noncomputable def Zeg(op:AOp)(e:Env)(older:List Heap)(x:AV):Bool:=op.free || decide (∀h'∈older,Zh op e.get h'=some x)
theorem zqp{op:AOp}{e:Env}{older:List Heap}{x:AV}(h:Zeg op e older x=true):op.free=true∨∀h'∈older,Zh op e.get h'=some x:=by
 classical
 unfold Zeg at h;rw[Yav]at h;rcases h with h | h
 ·exact .inl h
 ·exact .inr (of_decide_eq_true h)
noncomputable def opD(O:Orc)(T:Tbl)(op:AOp)(e:Env)(h:Heap)(older:List Heap):Option AV:=
 match op with
 | .call u args=>
  match T u with
  | none=>none
  | some af=>if af.lent.isNone&&(args.map (ev e.get)).all noRef then (O.call u ((args.map (ev e.get)).map (wkIf af.exact)) []).map (·.1) else none
 | .ifc k x=>some (.ifc (Zt T k) (ev e.get x))
 | .inv nm k u r args=>
  match ev e.get r with
  | .ifc t y=>
   if t=Zt T k∧(nm,u)∈Zcp T k then
    match T u with
    | none=>none
    | some af=>if af.lent.isNone&&(drp1 y::args.map (ev e.get)).all noRef then (O.call u ((drp1 y::args.map (ev e.get)).map (wkIf af.exact)) []).map (·.1) else none
   else none
  | _=>none
 | .bsl z zs len ps=>
  if (ps.map fun p=>(p.1,ev e.get p.2)).all (fun p=>noRef p.2) then (Zd2 z zs len [] (ps.map fun p=>(p.1,ev e.get p.2))).map (·.1) else none
 | .app z (.c (.sl [] .nl)) y=>Zf7 z (ev e.get y)
 | op=>(Zh op e.get h).bind fun x=>if Zeg op e older x then some x else none
theorem znx{O:Orc}{T:Tbl}{z:Nat}{x0 y:Opd}{e:Env}{h:Heap}{older:List Heap}(hc:x0≠.c (.sl [] .nl)):opD O T (.app z x0 y) e h older=none:=by
 cases x0 with
 | t n=>simp[opD,Zh]
 | c a=>
  cases a
  case sl els f=>
   cases els with
   | nil=>cases f<;>first | exact absurd rfl hc | simp[opD,Zh]
   | cons r l=>simp[opD,Zh]
  all_goals simp[opD,Zh]
noncomputable def qX(O:Orc)(T:Tbl)(o:AO)(e:Env)(h:Heap)(older:List Heap):Option (AV×Bool):=
 match o.guard with
 | none=>(opD O T o.op e h older).map fun x=>(x,true)
 | some (t,want)=>
  match e.get t with
  | .b v=>if v=want then (opD O T o.op e h older).map fun x=>(x,true) else some (.tup [],false)
  | .tup []=>some (.tup [],false)
  | _=>none
def AOp.callN:AOp→Option (Nat×List Opd)
 | .call u args=>some (u,args)
 | _=>none
theorem zqq{op:AOp}{q:Nat×List Opd}(h:op.callN=some q):op=.call q.1 q.2:=by
 cases op<;>simp only[AOp.callN]at h<;>cases h
 rfl
open Classical in
noncomputable def Zju(xs:List AV)(h:Heap)(older:List Heap):Option (List AV):=
 if xs.all noRef=true then none else (Zb2 h xs).bind fun ys=>if decide (∀h'∈older,Zb2 h' xs=some ys)=true then some ys else none
noncomputable def Zgt(g:Option (Nat×Bool))(c:Option (Nat×List Opd))(e:Env)(h:Heap)(older:List Heap):Option (Nat×List AV):=
 match g,c with
 | none,some q=>(Zju (q.2.map (ev e.get)) h older).map fun ys=>(q.1,ys)
 | _,_=>none
theorem zlq{g:Option (Nat×Bool)}{op:AOp}{e:Env}{h:Heap}{older:List Heap}{p:Nat×List AV}(hq:Zgt g op.callN e h older=some p) :
  g=none∧∃args,op=.call p.1 args∧Zb2 h (args.map (ev e.get))=some p.2∧∀h'∈older,Zb2 h' (args.map (ev e.get))=some p.2:=by
 classical
 unfold Zgt at hq;split at hq
 ·rename_i q hc;obtain⟨ys,h1,rfl⟩:=map_some hq;refine⟨rfl,q.2,zqq hc,?_⟩;unfold Zju at h1;split at h1
  ·cases h1
  ·obtain⟨zs,h2,h3⟩:=bind_some h1;split at h3
   ·rename_i hd;cases h3;exact⟨h2,of_decide_eq_true hd⟩
   ·cases h3
 ·cases hq
def Zfp(O:Orc)(T:Tbl)(u:Nat)(ys:List AV):Option AV:=
 match T u with
 | none=>none
 | some af=>if af.lent.isNone=true then (O.call u (ys.map (wkIf af.exact)) []).map (·.1) else none
def Zgu(op:AOp)(ρ:Nat→AV)(h:Heap):Option AV:=
 match op with
 | .call _ args=>(Zb2 h (args.map (ev ρ))).map .tup
 | op=>Zh op ρ h
abbrev Zct:=List (Nat×AOp×Env×AV)
open Classical in
noncomputable def Zc5(pend:Zct)(h:Heap):Bool:=decide (∀p∈pend,0<p.1→Zgu p.2.1 p.2.2.1.get h=some p.2.2.2)
def Ze0(o:DO)(n:Nat)(e:Env)(r:AV×Bool)(pend:Zct):Zct:=
 if r.2&&!o.ao.op.free&&decide (n<o.hi) then (o.hi-n,o.ao.op,e,r.1)::pend else pend
noncomputable def Zb3(O:Orc)(T:Tbl):List DO→Env→Heap→Nat→List Heap→Zct→Option St
 | [],e,h,clk,_,_=>some ⟨e,h,clk⟩
 | o::r,e,h,clk,older,pend=>
  match o.ao.op.writes with
  | true=>if o.ao.guard.isNone then (stepW o.ao.op o.ao.dst e.get h clk).bind fun q=>if Zc5 pend q.2.1 then Zb3 O T r (Zq e o.ao.dst q.1) q.2.1 q.2.2 (h::older) (pend.map fun p=>(p.1-1,p.2)) else none else none
  | false=>
   match Zgt o.ao.guard o.ao.op.callN e h (older.take (older.length-o.lo)) with
   | none=>(qX O T o.ao e h (older.take (older.length-o.lo))).bind fun x=>Zb3 O T r (Zq e o.ao.dst x.1) h clk older (Ze0 o older.length e x pend)
   | some p=>(Zfp O T p.1 p.2).bind fun x=>Zb3 O T r (Zq e o.ao.dst x) h clk older (if older.length<o.hi then (o.hi-older.length,o.ao.op,e,.tup p.2)::pend else pend)
noncomputable def Zdm(O:Orc)(T:Tbl)(tl:List AO):List AO→Env→Heap→Nat→Option St
 | [],e,h,clk=>Zdu O T tl ⟨e,h,clk⟩
 | o::r,e,h,clk=>(qX O T o e h []).bind fun x=>Zdm O T tl r (Zq e o.dst x.1) h clk
def Zgv(c0:Nat)(op:AOp)(e:Env)(l:List Nat):Bool:=l.all fun g=>decide (g<c0) || (Zfe op).any fun t=>(gnA (e.get t)).contains g
def Zhz(c0:Nat)(op:AOp)(e:Env)(hp:Heap):Bool:=hp.all fun p=>if p.2.kind=.str then p.2.els.all fun r=>r.all fun x=>Zgv c0 op e (gnA x) else true
def AOp.lentN:AOp→Option (Nat×List Opd)
 | .call u args=>if 2000≤u∧u<3000 then some (u,args) else none
 | _=>none
def geB(clk:Nat)(l:List Nat):Bool:=l.all fun g=>decide (clk≤g)
def geH(clk:Nat)(hp:Heap):Bool:=hp.all fun p=>if p.2.kind=.str then p.2.els.all fun r=>r.all fun x=>geB clk (gnA x) else true
def Ze9(O:Orc)(T:Tbl)(u:Nat)(xs:List AV)(d clk:Nat):Option (AV×Heap×Nat):=
 match T u with
 | none=>none
 | some af=>
  match af.lent with
  | none=>none
  | some _=>
   if xs.all noRef=true then
    (O.call u (xs.map fun y=>rlA (inN []) (inG []) (wkIf af.exact y)) []).bind fun r=>
     let hb':=r.2.map fun p=>(Za8 [] d p.1,Zar true (Za8 [] d) (Zbk [] clk) p.2)
     let r':=rlA (Za8 [] d) (Zbk [] clk) r.1
     if (hb'.map (·.1)).Nodup∧geB clk (gnA r')=true∧geH clk hb'=true then some (r',hb',clk+(r.2.length+2)) else none
   else none
def Zfy(h0:Heap)(op:AOp)(e:Env):Bool:=
 match op with
 | .store _ x _=>match ev e.get x with | .ptr id _ _ _ _=>(h0.lookup id).isNone | _=>false
 | _=>false
def Zla:AV→List BId
 | .bs id .. => [id]
 | _=>[]
def Zes:List AO→Env→List BId
 | [],_=>[]
 | o::r,e=>
  match o.op with
  | .mov x=>Zes r (Zq e o.dst (ev e.get x))
  | .app _ x _=>Zla (ev e.get x)++Zes r (Zq e o.dst .dead)
  | _=>Zes r (Zq e o.dst .dead)
def Ze1(ids:List BId)(h:Heap):Heap:=match ids with | []=>h | _=>h.filter fun p=>!ids.contains p.1
def Zjv(c0:Nat)(z x:Option Box)(b:BId)(o:Option Box):Option (BId×Box):=
 match z,x,o with
 | none,some _,some o=>if o.gen<c0 then some (b,o) else none
 | _,_,_=>none
def Zi8(c0:Nat)(h0 X h:Heap):AV→Option (BId×Box)
 | .bs b _ _ _ _=>Zjv c0 (h0.lookup b) (X.lookup b) b (h.lookup b)
 | _=>none
def Zh0(c0:Nat)(h0 X h:Heap)(op:AOp)(e:Env):Option (BId×Box):=
 match op with
 | .app _ x _=>Zi8 c0 h0 X h (ev e.get x)
 | _=>none
noncomputable def Zbm(O:Orc)(T:Tbl)(tl:List AO)(h0:Heap)(c0:Nat)(X:Heap):List AO→Env→Heap→Nat→Option St
 | [],e,h,clk=>Zdu O T tl ⟨e,h,clk⟩
 | o::r,e,h,clk=>
  match o.op.maker with
  | true=>
   match o.guard,o.dst with
   | none,some d=>
    match Zh0 c0 h0 X h o.op e with
    | none=>(stepW o.op (some d) e.get [] clk).bind fun q=>if (h.lookup (.loc d)).isNone&&Zhz c0 o.op e q.2.1 then Zbm O T tl h0 c0 X r (Zq e (some d) q.1) (q.2.1++h) q.2.2 else none
    | some p=>(stepW o.op (some d) e.get [p] clk).bind fun q=>if Zhz c0 o.op e (q.2.1.take 1) then Zbm O T tl h0 c0 X r (Zq e (some d) q.1) (q.2.1.take 1++h) q.2.2 else none
   | _,_=>none
  | false=>
   match o.op.isStore with
   | true=>
    match o.guard,o.dst with
    | none,none=>(stepW o.op none e.get h clk).bind fun q=>if Zfy X o.op e=true then Zbm O T tl h0 c0 X r e q.2.1 q.2.2 else none
    | _,_=>none
   | false=>
    match o.op.lentN with
    | some ua=>
     match o.guard,o.dst with
     | none,some d=>(Ze9 O T ua.1 (ua.2.map (ev e.get)) d clk).bind fun q=>if q.2.1.all (fun p=>(h.lookup p.1).isNone)=true then Zbm O T tl h0 c0 X r (Zq e (some d) q.1) (q.2.1++h) q.2.2 else none
     | _,_=>none
    | none=>(qX O T o e h0 []).bind fun x=>if Zgv c0 o.op e (gnA x.1) then Zbm O T tl h0 c0 X r (Zq e o.dst x.1) h clk else none
def Zi9(f:St→Option (Ex×St))(l:Nat):Nat→Option (Ex×St)→Option (Ex×St)
 | 0,_=>none
 | n+1,o=>o.bind fun x=>match x.1 with | .g j=>if j=l then Zi9 f l n (f x.2) else none | _=>some x
noncomputable def evX(O:Orc)(T:Tbl)(k:Nat):AX→St→Option (Ex×St)
 | .skip,st=>some (.n,st)
 | .reg l,st=>(Zdu O T l st).map fun s=>(.n,s)
 | .draw l,st=>(Zb3 O T l st.env st.heap st.clk [] []).map fun s=>(.n,s)
 | .drawT hd tl,st=>(Zdm O T tl hd st.env st.heap st.clk).map fun s=>(.n,s)
 | .drawM hd tl,st=>(Zbm O T tl (Ze1 (Zes hd st.env) st.heap) st.clk st.heap hd st.env st.heap st.clk).map fun s=>(.n,s)
 | .bad,_=>none
 | .prim _,_=>none
 | .seq a b,st=>(evX O T k a st).bind fun r=>match r.1 with | .n=>evX O T k b r.2 | _=>some r
 | .cond c x y,st=>match ev st.env.get c with | .b t=>if t then evX O T k x st else evX O T k y st | _=>none
 | .block id c,st=>(evX O T k c st).bind fun r=>match r.1 with | .x j=>if j=id then some (.n,r.2) else some r | _=>some r
 | .loop c,st=>O.loop k c st
 | .exit id,st=>some (.x id,st)
 | .ret,st=>some (.r,st)
 | .note c g,st=>(evX O T k c st).bind fun r=>match r.1 with | .n=>(ghS k g r.2).map fun s=>(.n,s) | _=>some r
 | .pre g c,st=>(ghS k g st).bind fun s=>evX O T k c s
 | .scope c,st=>(evX O T k c st).bind fun r=>match r.1 with | .g _=>none | _=>some r
 | .lp id g c g2,st=>(ghS k g st).bind fun s=>(O.loop k c s).bind fun r=>match r.1 with | .n=>(ghS k g2 r.2).map fun s=>(.n,s) | .x j=>if j=id then (ghS k g2 r.2).map fun s=>(.n,s) else some r | _=>some r
 | .label _,st=>some (.n,st)
 | .goto l,st=>some (.g l,st)
 | .gsc l c r,st=>Zi9 (fun s=>evX O T k r s) l 100 (evX O T k c st)
def Zjw(af:AFx)(k:Nat)(r:Ex×St):Option (AV×Heap):=
 match r.1 with
 | .x _=>none
 | .g _=>none
 | _=>
  (Zda r.2 af.res).bind fun x=>
  match af.lent with
  | none=>(frz r.2.heap x).map fun y=>(wkIf af.exact y,[])
  | some _=>let s:=Zdf af.exact k [0] ⟨[(0,x)],r.2.heap,r.2.clk⟩;some (s.env.get 0,s.heap)
noncomputable def Zc2(T:Tbl)(O:Orc):Orc where
 call u xs hb:=
  match T u with
  | none=>none
  | some af=>
   match af.body.isPrim with
   | some f=>if hb=[]∧af.lent=none then (f xs).map fun x=>(x,[]) else none
   | none=>if xs.length=af.np∧(af.lent=none→hb=[]) then (evX O T hb.length af.body ⟨Zch xs,hb,hb.length+1⟩).bind (Zjw af hb.length) else none
 loop k c st:=(evX O T k c st).bind fun r=>match r.1 with | .n=>O.loop k c r.2 | _=>some r
noncomputable def orcN(T:Tbl):Nat→Orc
 | 0=>⟨fun _ _ _=>none,fun _ _ _=>none⟩
 | n+1=>Zc2 T (orcN T n)
end Go.Ab
end
section
namespace Go.Ab
open Go.RowKit
theorem zhf(l:List AV)(j:Nat):(wkR l)[j]? = (l[j]?).map wkA:=by
 induction l generalizing j with
 | nil=>simp[wkR]
 | cons c l ih=>cases j<;>simp[wkR,ih]
theorem zhg(l:List AV):(wkR l).length=l.length:=by
 induction l with
 | nil=>rfl
 | cons c l ih=>simp[wkR,ih]
theorem z0o(l:List AV):wkR l=l.map wkA:=by
 induction l with
 | nil=>rfl
 | cons c l ih=>simp[wkR,ih]
theorem zb6(l:List (List AV)):wkL l=l.map wkR:=by
 induction l with
 | nil=>rfl
 | cons c l ih=>simp[wkL,ih]
theorem ztm(l:List (List AV))(j:Nat):(wkL l)[j]? = (l[j]?).map wkR:=by rw[zb6];simp
theorem zj6(l:List (List AV)):(wkL l).length=l.length:=by rw[zb6];simp
section
variable{w:World}{S:Nat→Nat→Prop}{M M':Map}{clk clk':Nat}
theorem CP.wk{v:Value}{x:AV}(h:CP w S v x):CP w S v (wkA x):=by
 induction h with
 | i k n=>exact .i k n
 | b x=>exact .b x
 | s l=>exact .s l
 | raw v=>exact .raw v
 | dead v=>exact .dead v
 | agg vs cs hl h1 _ ih=>
  refine .agg vs _ (by rw[zhg];omega) h1 fun j v c hv hc=>?_
  grind[zhf]
 | tup vs cs hl _ ih=>
  refine .tup vs _ (by rw[zhg];omega) fun j v c hv hc=>?_
  grind[zhf]
 | slnil f hf=>exact .slnil _ (.inr rfl)
 | slz a f hf=>exact .slz a _ (.inr rfl)
 | sl blk off z cap els f u hf hfull hcap hmax hz hSc _ ih=>
  rw[←zj6 els];refine .sl blk off z cap _ _ u (by grind) (by grind) (by rw[zj6];omega) hmax (fun i r hr=>?_) (fun i j hi hj=>hSc i j (by rw[zj6]at hi;omega) hj) fun i r j c hr hc=>?_
  ·grind[ztm,zhg]
  grind[ztm,zhf]
 | ep blk off cs o u hSc _ ih=>exact .ep blk off cs o u hSc ‹_›
 | fnv f v x _ ih=>exact .fnv f v _ ih
theorem C.wk{v:Value}{x:AV}(h:C w S M clk v x):C w S M clk v (wkA x):=by
 induction h with
 | p h=>exact .p h.wk
 | bs id g z off n v hg h h1=>exact .bs id g z off n v hg h h1
 | ptr id g z i o v hg h h1=>exact .ptr id g z i o v hg h h1
 | agg vs cs hl h1 _ ih=>
  refine .agg vs _ (by rw[zhg];omega) h1 fun j v c hv hc=>?_
  grind[zhf]
 | tup vs cs hl _ ih=>
  refine .tup vs _ (by rw[zhg];omega) fun j v c hv hc=>?_
  grind[zhf]
 | ifc t v x h _=>exact .ifc t v x h
 | fnp f id g z i o v hg h h1=>exact .fnp f id g z i o v hg h h1
theorem CP.wkIf{v:Value}{x:AV}(ex:Bool)(h:CP w S v x):CP w S v (wkIf ex x):=by
 unfold Go.Ab.wkIf;split
 ·exact h
 ·exact h.wk
theorem C.wkIf{v:Value}{x:AV}(ex:Bool)(h:C w S M clk v x):C w S M clk v (wkIf ex x):=by
 unfold Go.Ab.wkIf;split
 ·exact h
 ·exact h.wk
structure Rlb (M M':Map) (clk clk':Nat) (σ:Nat→Nat):Prop where
 fwd:∀g,g<clk→(M' (σ g)=M g∨M' (σ g)=none)∧σ g<clk'
theorem C.rlC{v:Value}{x:AV}{σn:BId→BId}{σg:Nat→Nat}(hr:Rlb M M' clk clk' σg)(h:C w S M clk v x):C w S M' clk' v (rlC σn σg x):=by
 cases h with
 | p h=>
  cases h with
  | i k n=>exact .p (.i k n)
  | b x=>exact .p (.b x)
  | s l=>exact .p (.s l)
  | raw v=>exact .p (.raw v)
  | dead v=>exact .p (.dead v)
  | agg=>exact .p (.dead _)
  | tup=>exact .p (.dead _)
  | slnil f hf=>exact .p (.slnil f hf)
  | slz a f hf=>exact .p (.slz a f hf)
  | sl blk off z cap els f u h1 h2 h3 h4 h5 h6 h7=>exact .p (.sl blk off z cap els f u h1 h2 h3 h4 h5 h6 h7)
  | ep blk off cs o u h1 h2=>exact .p (.ep blk off cs o u h1 h2)
  | fnv f v x h=>exact .p (.fnv f v x h)
 | bs id g z off n v hg h h1=>
  obtain⟨h2,h3⟩:=hr.fwd g hg;refine .bs _ _ _ _ _ _ h3 ?_ h1;rcases h2 with h2 | h2<;>rw[h2]
  ·exact h
  ·trivial
 | ptr id g z i o v hg h h1=>
  obtain⟨h2,h3⟩:=hr.fwd g hg;refine .ptr _ _ _ _ _ _ h3 ?_ h1;rcases h2 with h2 | h2<;>rw[h2]
  ·exact h
  ·trivial
 | fnp f id g z i o v hg h h1=>
  obtain⟨h2,h3⟩:=hr.fwd g hg;refine .fnp _ _ _ _ _ _ _ h3 ?_ h1;rcases h2 with h2 | h2<;>rw[h2]
  ·exact h
  ·trivial
 | agg vs cs=>exact .p (.dead _)
 | tup vs cs=>exact .p (.dead _)
 | ifc t v x=>exact .p (.dead _)
theorem getElem?_mapped{α β:Type}{l:List α}{f:α→β}{j:Nat}{y:β}(h:(l.map f)[j]? = some y):∃x,l[j]? = some x∧y=f x:=by
 grind
theorem C.rl1{v:Value}{x:AV}{σn:BId→BId}{σg:Nat→Nat}(hr:Rlb M M' clk clk' σg)(h:C w S M clk v x):C w S M' clk' v (rl1 σn σg x):=by
 cases x
 case agg cs=>
  obtain⟨vs,rfl,hl,h1,hc⟩:=h.inv_agg;refine .agg vs _ (by grind) h1 fun j v c hv hcj=>?_
  grind[rlC]
 all_goals exact h.rlC (σn:=σn) hr
theorem C.rlA{v:Value}{x:AV}{σn:BId→BId}{σg:Nat→Nat}(hr:Rlb M M' clk clk' σg)(h:C w S M clk v x):C w S M' clk' v (rlA σn σg x):=by
 cases x
 case tup cs=>
  obtain⟨vs,rfl,hl,hc⟩:=h.inv_tup;refine .tup vs _ (by grind) fun j v c hv hcj=>?_
  grind[rl1]
 all_goals exact h.rl1 (σn:=σn) hr
theorem Zb4.rl{bx:Box}{ex:Bool}{σn:BId→BId}{σg:Nat→Nat}(hr:Rlb M M' clk clk' σg)(hM:M' (σg bx.gen)=M bx.gen)(h:Zb4 w S M clk bx):Zb4 w S M' clk' (Zar ex σn σg bx):=by
 obtain⟨h1,h2,m,hm,h3⟩:=h
 -- each row of the new box
 have row:∀(i:Nat) (r:List AV),(Zar ex σn σg bx).els[i]? = some r→∃r0,bx.els[i]? = some r0∧r.length=r0.length∧∀(j:Nat) c,r[j]? = some c→∃c0,r0[j]? = some c0 ∧
   ((bx.kind=.str∧c=Go.Ab.rlC σn σg (wkIf ex c0))∨(bx.kind≠.str∧c=wkIf ex c0)):=by
  grind[Zar,getElem?_mapped,wkIf,zb6,z0o]
 have hlen:(Zar ex σn σg bx).els.length=bx.els.length:=by
  grind[Zar,zj6]
 refine⟨(hr.fwd _ h1).2,fun r hrm=>?_,m,by rw[←hm];exact hM,?_⟩
 ·obtain⟨i,hi⟩:=Yau hrm;obtain⟨r0,h4,h5,_⟩:=row i r hi;rw[h5];exact h2 r0 (Yj h4)
 ·cases m with
  | none=>
   grind[Zar]
  | some k=>
   obtain⟨arr,e,h4,h5,h6,h7,h8⟩:=h3;refine⟨arr,e,h4,by rw[hlen];exact h5,fun i r j c hi hj=>?_,h7,by rw[hlen];exact h8⟩;obtain⟨r0,h9,h10,h11⟩:=row i r hi;obtain⟨c0,h12,h13⟩:=h11 j c hj;obtain⟨u,hu,ho,hC,hP⟩:=h6 i r0 j c0 h9 h12;refine⟨u,hu,ho,?_,fun hk=>?_⟩
   ·rcases h13 with ⟨hk,rfl⟩ | ⟨hk,rfl⟩
    ·exact(hC.wkIf ex).rlC hr
    ·exact .p ((hP hk).wkIf ex)
   ·rcases h13 with ⟨hk',rfl⟩ | ⟨hk',rfl⟩
    ·exact absurd hk' hk
    ·exact(hP hk).wkIf ex
theorem HeapRel.rl{h h2:Heap}{ex:Bool}{σn:BId→BId}{σg:Nat→Nat}{D:Nat→Prop}(hr:Rlb M M' clk clk' σg)(hh:HeapRel w S M clk h)
  (h1:∀b' bx',h2.lookup b'=some bx'→∃b bx,h.lookup b=some bx∧bx'=Zar ex σn σg bx∧M' (σg bx.gen)=M bx.gen∧b'=σn b∧D bx.gen)
  (h3:∀g' m,M' g'=some m→∃b' bx',h2.lookup b'=some bx'∧bx'.gen=g')
  (h4:∀g1 g2,D g1→D g2→σg g1=σg g2→g1=g2)
  (h5:∀g' m,M' g'=some m→∃g,M g=some m∧σg g=g'):HeapRel w S M' clk' h2:=by
 refine⟨fun b' bx' hb=>?_,h3,fun b1 x1 b2 x2 hb1 hb2 hg=>?_,fun g g' k hg hg'=>?_⟩
 ·obtain⟨b,bx,h6,rfl,h7,_⟩:=h1 b' bx' hb;exact(hh.box b bx h6).rl hr h7
 ·obtain⟨c1,y1,h6,rfl,_,rfl,d1⟩:=h1 b1 x1 hb1;obtain⟨c2,y2,h8,rfl,_,rfl,d2⟩:=h1 b2 x2 hb2;rw[hh.gens _ _ _ _ h6 h8 (h4 _ _ d1 d2 hg)]
 ·obtain⟨g1,h6,rfl⟩:=h5 _ _ hg;obtain⟨g2,h7,rfl⟩:=h5 _ _ hg';rw[hh.inj _ _ _ h6 h7]
theorem WRel.rl{cx:Cx}{h h2:Heap}{ex:Bool}{σn:BId→BId}{σg:Nat→Nat}{D:Nat→Prop}(hr:Rlb M M' clk clk' σg)(hw:WRel cx S M clk h w)(hc:cx.clk0≤clk')
  (h0:∀g m,g<cx.clk0→M' g=some m→M g=some m)
  (h1:∀b' bx',h2.lookup b'=some bx'→∃b bx,h.lookup b=some bx∧bx'=Zar ex σn σg bx∧M' (σg bx.gen)=M bx.gen∧b'=σn b∧D bx.gen)
  (h3:∀g' m,M' g'=some m→∃b' bx',h2.lookup b'=some bx'∧bx'.gen=g')
  (h4:∀g1 g2,D g1→D g2→σg g1=σg g2→g1=g2)
  (h5:∀g' m,M' g'=some m→∃g,M g=some m∧σg g=g'):WRel cx S M' clk' h2 w:=
 ⟨hw.heap.rl hr h1 h3 h4 h5,⟨hw.ext.hS,hw.ext.hcell,hc,fun g m hg hm=>hw.ext.hM g m hg (h0 g m hg hm),fun g k arr e hg hm hb=>hw.ext.hblk g k arr e hg (h0 g _ hg hm) hb⟩,hw.fr,hw.Snew,hw.Slt,
  fun g k hm=>let ⟨g1,h6,_⟩:=h5 g _ hm;hw.Mnew g1 k h6⟩
end
end Go.Ab
end
section
namespace Go.Ab
open Go.RowKit
section
variable{α β:Type}{P:Program}{K:St→Prop}
@[simp] theorem z8q(t d:Nat)(x:AV)(e:Env):Env.get ((d,x)::e) t=if t=d then x else e.get t:=by
 simp only[Env.get,Y3];by_cases h:t=d
 ·subst h;simp
 ·have:(t == d)=false:=by simpa using h
  simp[this,h]
@[simp] theorem zabo(t:Nat):Env.get [] t=.dead:=rfl
@[simp] theorem z8r{st:St}:Zec P [] st K↔K st:=Iff.rfl
@[simp] theorem z43{o:AO}{l:List AO}{st:St}:Zec P (o::l) st K↔Zgq P o st fun st'=>Zec P l st' K:=Iff.rfl
@[simp] theorem z3e{d:Option Nat}{op:AOp}{st:St}:Zgq P ⟨d,none,op⟩ st K↔opK P op d st K:=Iff.rfl
@[simp] theorem z44(e:Env)(x:AV):Zq e none x=e:=rfl
@[simp] theorem z45(e:Env)(d:Nat)(x:AV):Zq e (some d) x=(d,x)::e:=rfl
@[simp] theorem ev_t(e:Nat→AV)(n:Nat):ev e (.t n)=e n:=rfl
@[simp] theorem ev_c(e:Nat→AV)(x:AV):ev e (.c x)=x:=rfl
@[simp] theorem zzk{N:St→Prop}{Q:Exit→St→Prop}{st:St}:Zia N Q .normal st↔N st:=Iff.rfl
@[simp] theorem z3f{N:St→Prop}{Q:Exit→St→Prop}{st:St}{id:Nat}:Zia N Q (.exit id) st↔Q (.exit id) st:=Iff.rfl
@[simp] theorem z47{N:St→Prop}{Q:Exit→St→Prop}{st:St}:Zia N Q .ret st↔Q .ret st:=Iff.rfl
@[simp] theorem zw9{id:Nat}{Q:Exit→St→Prop}{st:St}:Zee id Q .normal st↔Q .normal st:=Iff.rfl
@[simp] theorem z3g{id:Nat}{Q:Exit→St→Prop}{st:St}:Zee id Q .ret st↔Q .ret st:=Iff.rfl
@[simp] theorem z0k{id id':Nat}{Q:Exit→St→Prop}{st:St}:Zee id Q (.exit id') st↔if id'=id then Q .normal st else Q (.exit id') st:=Iff.rfl
def gK(P:Program)(x:AV)(want:Bool)(op:AOp)(d:Option Nat)(st:St)(K:St→Prop):Prop:=
 match x with
 | .b v=>if v=want then opK P op d st K else K ⟨Zq st.env d (.tup []),st.heap,st.clk⟩
 | .tup _=>K ⟨Zq st.env d (.tup []),st.heap,st.clk⟩
 | _=>False
@[simp] theorem z3h{d:Option Nat}{op:AOp}{t:Nat}{want:Bool}{st:St}:Zgq P ⟨d,some (t,want),op⟩ st K↔gK P (st.env.get t) want op d st K:=by
 rfl
@[simp] theorem gK_b{v want:Bool}{op:AOp}{d:Option Nat}{st:St}:gK P (.b v) want op d st K↔if v=want then opK P op d st K else K ⟨Zq st.env d (.tup []),st.heap,st.clk⟩:=Iff.rfl
@[simp] theorem zagl{vs:List AV}{want:Bool}{op:AOp}{d:Option Nat}{st:St}:gK P (.tup vs) want op d st K↔K ⟨Zq st.env d (.tup []),st.heap,st.clk⟩:=Iff.rfl
@[simp] theorem zabp{z n:Nat}{zs:List AV}{ps:List (Nat×Opd)}{d:Option Nat}{st:St}:opK P (.bsl z zs n ps) d st K↔okK (Zd2 z zs n st.heap (ps.map fun p=>(p.1,ev st.env.get p.2))) fun q=>K ⟨Zq st.env d q.1,q.2,st.clk⟩:=Iff.rfl
@[simp] theorem zabq{x}{d:Option Nat}{st:St}:opK P (.mov x) d st K↔okK (Zh (.mov x) st.env.get st.heap) fun x=>K ⟨Zq st.env d x,st.heap,st.clk⟩:=Iff.rfl
@[simp] theorem z8s{c a b}{d:Option Nat}{st:St}:opK P (.pick c a b) d st K↔okK (Zh (.pick c a b) st.env.get st.heap) fun x=>K ⟨Zq st.env d x,st.heap,st.clk⟩:=Iff.rfl
@[simp] theorem z48{zs ps}{d:Option Nat}{st:St}:opK P (.build zs ps) d st K↔okK (Zh (.build zs ps) st.env.get st.heap) fun x=>K ⟨Zq st.env d x,st.heap,st.clk⟩:=Iff.rfl
@[simp] theorem z8t{n x}{d:Option Nat}{st:St}:opK P (.load n x) d st K↔okK (Zh (.load n x) st.env.get st.heap) fun x=>K ⟨Zq st.env d x,st.heap,st.clk⟩:=Iff.rfl
@[simp] theorem zabr{o x y}{d:Option Nat}{st:St}:opK P (.bin o x y) d st K↔okK (Zh (.bin o x y) st.env.get st.heap) fun x=>K ⟨Zq st.env d x,st.heap,st.clk⟩:=Iff.rfl
@[simp] theorem zabs{g ls x y}{d:Option Nat}{st:St}:opK P (.eqs g ls x y) d st K↔okK (Zh (.eqs g ls x y) st.env.get st.heap) fun x=>K ⟨Zq st.env d x,st.heap,st.clk⟩:=Iff.rfl
@[simp] theorem z49{g x}{d:Option Nat}{st:St}:opK P (.eqnil g x) d st K↔okK (Zh (.eqnil g x) st.env.get st.heap) fun x=>K ⟨Zq st.env d x,st.heap,st.clk⟩:=Iff.rfl
@[simp] theorem zabt{g x y}{d:Option Nat}{st:St}:opK P (.eqb g x y) d st K↔okK (Zh (.eqb g x y) st.env.get st.heap) fun x=>K ⟨Zq st.env d x,st.heap,st.clk⟩:=Iff.rfl
@[simp] theorem zagm{o x}{d:Option Nat}{st:St}:opK P (.un o x) d st K↔okK (Zh (.un o x) st.env.get st.heap) fun x=>K ⟨Zq st.env d x,st.heap,st.clk⟩:=Iff.rfl
@[simp] theorem z8u{k x}{d:Option Nat}{st:St}:opK P (.conv k x) d st K↔okK (Zh (.conv k x) st.env.get st.heap) fun x=>K ⟨Zq st.env d x,st.heap,st.clk⟩:=Iff.rfl
@[simp] theorem zabu{z x lo hi mx}{d:Option Nat}{st:St}:opK P (.slc z x lo hi mx) d st K↔okK (Zh (.slc z x lo hi mx) st.env.get st.heap) fun x=>K ⟨Zq st.env d x,st.heap,st.clk⟩:=Iff.rfl
@[simp] theorem z5a{x lo hi}{d:Option Nat}{st:St}:opK P (.slstr x lo hi) d st K↔okK (Zh (.slstr x lo hi) st.env.get st.heap) fun x=>K ⟨Zq st.env d x,st.heap,st.clk⟩:=Iff.rfl
@[simp] theorem zabv{n x}{d:Option Nat}{st:St}:opK P (.fad n x) d st K↔okK (Zh (.fad n x) st.env.get st.heap) fun x=>K ⟨Zq st.env d x,st.heap,st.clk⟩:=Iff.rfl
@[simp] theorem zabw{o n x}{d:Option Nat}{st:St}:opK P (.fld o n x) d st K↔okK (Zh (.fld o n x) st.env.get st.heap) fun x=>K ⟨Zq st.env d x,st.heap,st.clk⟩:=Iff.rfl
@[simp] theorem zabx{z x i}{d:Option Nat}{st:St}:opK P (.iad z x i) d st K↔okK (Zh (.iad z x i) st.env.get st.heap) fun x=>K ⟨Zq st.env d x,st.heap,st.clk⟩:=Iff.rfl
@[simp] theorem zaby{z n x i}{d:Option Nat}{st:St}:opK P (.iaa z n x i) d st K↔okK (Zh (.iaa z n x i) st.env.get st.heap) fun x=>K ⟨Zq st.env d x,st.heap,st.clk⟩:=Iff.rfl
@[simp] theorem zabz{x i}{d:Option Nat}{st:St}:opK P (.ixs x i) d st K↔okK (Zh (.ixs x i) st.env.get st.heap) fun x=>K ⟨Zq st.env d x,st.heap,st.clk⟩:=Iff.rfl
@[simp] theorem zab0{z l n x i}{d:Option Nat}{st:St}:opK P (.ixa z l n x i) d st K↔okK (Zh (.ixa z l n x i) st.env.get st.heap) fun x=>K ⟨Zq st.env d x,st.heap,st.clk⟩:=Iff.rfl
@[simp] theorem zab1{x}{d:Option Nat}{st:St}:opK P (.len x) d st K↔okK (Zh (.len x) st.env.get st.heap) fun x=>K ⟨Zq st.env d x,st.heap,st.clk⟩:=Iff.rfl
@[simp] theorem z8v{x}{d:Option Nat}{st:St}:opK P (.lens x) d st K↔okK (Zh (.lens x) st.env.get st.heap) fun x=>K ⟨Zq st.env d x,st.heap,st.clk⟩:=Iff.rfl
@[simp] theorem z8w{n}{d:Option Nat}{st:St}:opK P (.lenc n) d st K↔okK (Zh (.lenc n) st.env.get st.heap) fun x=>K ⟨Zq st.env d x,st.heap,st.clk⟩:=Iff.rfl
@[simp] theorem zagn{m xs}{d:Option Nat}{st:St}:opK P (.mm m xs) d st K↔okK (Zh (.mm m xs) st.env.get st.heap) fun x=>K ⟨Zq st.env d x,st.heap,st.clk⟩:=Iff.rfl
@[simp] theorem zab2{x n}{d:Option Nat}{st:St}:opK P (.ext x n) d st K↔okK (Zh (.ext x n) st.env.get st.heap) fun x=>K ⟨Zq st.env d x,st.heap,st.clk⟩:=Iff.rfl
@[simp] theorem z8x{x}{d:Option Nat}{st:St}:opK P (.nilc x) d st K↔okK (Zh (.nilc x) st.env.get st.heap) fun x=>K ⟨Zq st.env d x,st.heap,st.clk⟩:=Iff.rfl
@[simp] theorem z5b{zs}{d:Option Nat}{st:St}:opK P (.alloc zs) d st K↔okK (stepW (.alloc zs) d st.env.get st.heap st.clk) fun q=>K ⟨Zq st.env d q.1,q.2.1,q.2.2⟩:=Iff.rfl
@[simp] theorem z5c{n x v}{d:Option Nat}{st:St}:opK P (.store n x v) d st K↔okK (stepW (.store n x v) d st.env.get st.heap st.clk) fun q=>K ⟨Zq st.env d q.1,q.2.1,q.2.2⟩:=Iff.rfl
@[simp] theorem zab3{z zs l c}{d:Option Nat}{st:St}:opK P (.mks z zs l c) d st K↔okK (stepW (.mks z zs l c) d st.env.get st.heap st.clk) fun q=>K ⟨Zq st.env d q.1,q.2.1,q.2.2⟩:=Iff.rfl
@[simp] theorem zab4{z x y}{d:Option Nat}{st:St}:opK P (.app z x y) d st K↔okK (stepW (.app z x y) d st.env.get st.heap st.clk) fun q=>K ⟨Zq st.env d q.1,q.2.1,q.2.2⟩:=Iff.rfl
@[simp] theorem z8y(k:IntKind)(n:Int):Zgg .neg (.i k n)=some (.i k (k.wrap (0-n))):=rfl
@[simp] theorem z8z(t:Bool):Zgg .not (.b t)=some (.b (!t)):=rfl
attribute [simp] Zh stepW Zgf Zgk Zfu Zjj mmL mm2 Zhg Zhd Zey Zfb Zgi Zeo Zgh Zhe Zen Zf5 Zhc eqL evO Zk1 Zda resV Zch Zd2 Zgn Zhi Zm Zgo Zg8 rowOf Zis
@[simp] theorem zow{k:IntKind}{a b:Int}:Zad .add (.i k a) (.i k b)=some (.i k (k.wrap (a+b))):=by simp[Zad,Zfk]
@[simp] theorem zjx{k:IntKind}{a b:Int}:Zad .sub (.i k a) (.i k b)=some (.i k (k.wrap (a-b))):=by simp[Zad,Zfk]
@[simp] theorem zox{k:IntKind}{a b:Int}:Zad .mul (.i k a) (.i k b)=some (.i k (k.wrap (a*b))):=by simp[Zad,Zfk]
@[simp] theorem zoy{k:IntKind}{a b:Int}:Zad .quo (.i k a) (.i k b)=if b=0 then none else some (.i k (k.wrap (a.tdiv b))):=by simp[Zad,Zfk]
@[simp] theorem zoz{k:IntKind}{a b:Int}:Zad .rem (.i k a) (.i k b)=if b=0 then none else some (.i k (a.tmod b)):=by simp[Zad,Zfk]
@[simp] theorem zo0{k:IntKind}{a b:Int}:Zad .eql (.i k a) (.i k b)=some (.b (a == b)):=by simp[Zad,Zfk]
@[simp] theorem zjy{k:IntKind}{a b:Int}:Zad .neq (.i k a) (.i k b)=some (.b (a != b)):=by simp[Zad,Zfk]
@[simp] theorem zjz{k:IntKind}{a b:Int}:Zad .lss (.i k a) (.i k b)=some (.b (a<b)):=by simp[Zad,Zfk]
@[simp] theorem zo1{k:IntKind}{a b:Int}:Zad .leq (.i k a) (.i k b)=some (.b (a≤b)):=by simp[Zad,Zfk]
@[simp] theorem zo2{k:IntKind}{a b:Int}:Zad .gtr (.i k a) (.i k b)=some (.b (a > b)):=by simp[Zad,Zfk]
@[simp] theorem zo3{k:IntKind}{a b:Int}:Zad .geq (.i k a) (.i k b)=some (.b (a≥b)):=by simp[Zad,Zfk]
@[simp] theorem z5d{a b:List UInt8}:Zad .eql (.s a) (.s b)=some (.b (a == b)):=by simp[Zad,Zi6]
@[simp] theorem z5e{a b:List UInt8}:Zad .neq (.s a) (.s b)=some (.b (!(a == b))):=by simp[Zad,Zi6]
@[simp] theorem z5f{a b:List UInt8}:Zad .add (.s a) (.s b)=if a.length+b.length≤9223372036854775807 then some (.s (a++b)) else none:=by simp[Zad,Zi6]
theorem zab(n:Int)(h:-9223372036854775808≤n∧n<9223372036854775808):IntKind.wrap .i64 n=n:=by
 simp[IntKind.wrap,IntKind.signed,IntKind.bits]<;>(omega)<;>omega
end
end Go.Ab
end
section
namespace Go.Ab
open Go.RowKit
section
variable{cx:Cx}{Q:Exit→St→Prop}{st:St}{c:AC}{P:Program}{K:St→Prop}
@[simp] theorem z3i{β:Type}(b b':BId)(x:β)(l:List (BId×β)):List.lookup b ((b',x)::l)=if b=b' then some x else List.lookup b l:=by
 grind
attribute [simp] Ze6 Zc8 Zea Zf8 Zk0
attribute [simp] AOp.writes AOp.free Zf6 Ze2
@[simp] theorem zai6(k:IntKind)(n y:Int):bnd (.i k n) y=if 0≤n∧n≤y then some n.toNat else none:=rfl
theorem WRel.sub{S:Nat→Nat→Prop}{M:Map}{st st':St}{w:World}(hs:Sub st st')(hr:WRel cx S M st.clk st.heap w):∃Mb,WRel cx S Mb st'.clk st'.heap w∧Ext w S M st.clk w S Mb st'.clk:=by
 classical
 generalize hMb:(fun g=>if Live st'.heap g then M g else none:Map)=Mb;have hMb1:∀g m,Mb g=some m→Live st'.heap g∧M g=some m:=by
  grind
 have hMb2:∀g,Live st'.heap g→Mb g=M g:=by grind
 have hx:Ext w S M st.clk w S Mb st'.clk:=⟨fun _ _ hs=>hs,fun _ _ _ _ hc=>hc,hs.clk,fun g m _ hm=>(hMb1 g m hm).2,fun _ _ arr _ _ _ hb=>⟨arr,hb,rfl⟩⟩;refine⟨Mb,⟨⟨fun b bx hb=>?_,fun g m hm=>(hMb1 g m hm).1,fun b bx b' bx' h1 h2 hg=>?_,fun g g' k h1 h2=>hr.heap.inj _ _ _ (hMb1 _ _ h1).2 (hMb1 _ _ h2).2⟩,hr.ext.trans hx,hr.fr,hr.Snew,hr.Slt,fun g k hm=>hr.Mnew g k (hMb1 _ _ hm).2⟩,hx⟩
 ·obtain⟨bx0,h0,h1⟩:=hs.heap b bx hb;have hl:Live st'.heap bx.gen:=⟨b,bx,hb,rfl⟩;have hbox:=hr.heap.box b bx0 h0;rcases h1 with rfl | ⟨hk,rfl⟩
  ·exact hbox.mono hx (hMb2 _ hl) (fun _ _=>rfl) fun _ _ _ hs=>hs
  ·obtain⟨b1,b2,m,hm,b3⟩:=hbox.mono hx (hMb2 bx0.gen hl) (fun _ _=>rfl) fun _ _ _ hs=>hs;refine⟨b1,b2,m,hm,?_⟩;cases m with
   | none=>grind
   | some k=>
    grind
 ·obtain⟨bx0,h3,h4⟩:=hs.heap b bx h1;obtain⟨bx0',h5,h6⟩:=hs.heap b' bx' h2;have e1:bx.gen=bx0.gen:=by grind
  have e2:bx'.gen=bx0'.gen:=by grind
  exact hr.heap.gens _ _ _ _ h3 h5 (by rw[←e1,←e2,hg])
def Zn3(rs:List RV)(post:AV→Heap→Nat→Prop):Exit→St→Prop:=
 fun ex st=>(ex=.normal∨ex=.ret)∧∃r,Zda st rs=some r∧∃h' c',Sub ⟨[],st.heap,st.clk⟩ ⟨[],h',c'⟩∧post r h' c'
end
end Go.Ab
end
section
namespace Go.Ab
open Go.RowKit
theorem zcr:∀(l:Heap) (g j:Nat),j≤Zcn l g j∧Zcn l g j≤j+l.length
 | [],g,j=>by simp[Zcn]
 | p::l,g,j=>by
  have:=zcr l g (j+1);simp only[Zcn,Yd];split<;>omega
theorem zgn:∀(l:Heap) (g j:Nat),(∃p∈l,p.2.gen=g)→Zcn l g j<j+l.length
 | [],g,j,h=>by grind
 | p::l,g,j,h=>by
  simp only[Zcn,Yd];split
  ·omega
  ·obtain⟨q,hq,he⟩:=h;have hq':q∈l:=by
    grind
   have:=zgn l g (j+1) ⟨q,hq',he⟩;omega
theorem zj7:∀(l:Heap) (g j:Nat),(¬ ∃p∈l,p.2.gen=g)→Zcn l g j=j+l.length
 | [],g,j,h=>by simp[Zcn]
 | p::l,g,j,h=>by
  simp only[Zcn,Yd];rw[if_neg (fun he=>h ⟨p,Y9,he⟩),zj7 l g (j+1) fun⟨q,hq,he⟩=>h ⟨q,Ys _ hq,he⟩];omega
theorem zhh:∀(l:Heap) (g g' j:Nat),(∃p∈l,p.2.gen=g)→(∃p∈l,p.2.gen=g')→Zcn l g j=Zcn l g' j→g=g'
 | [],g,g',j,h,_,_=>by obtain⟨p,hp,_⟩:=h;simp at hp
 | p::l,g,g',j,h,h',he=>by
  simp only[Zcn]at he;have low:=zcr l g (j+1);have low':=zcr l g' (j+1);split at he<;>split at he
  ·rename_i h1 h2;rw[←h1,←h2]
  ·omega
  ·omega
  ·rename_i h1 h2;have tl:∀g,p.2.gen≠g→(∃q∈p::l,q.2.gen=g)→∃q∈l,q.2.gen=g:=by
    intro g hne ⟨q,hq,he⟩;rcases Yw.1 hq with rfl | h
    ·exact absurd he hne
    ·exact⟨q,h,he⟩
   exact zhh l g g' (j+1) (tl g h1 h) (tl g' h2 h') he
theorem zfe{h:Heap}{ids:List BId}{p:BId×Box}(hp:p∈Zd5 h ids):h.lookup p.1=some p.2:=by
 obtain⟨b,_,h2⟩:=Ydc.1 hp;cases hb:h.lookup b with
 | none=>grind
 | some bx=>grind
theorem za8{β γ:Type}[BEq β][LawfulBEq β]:∀(l:List (β×γ)) (b:β) (x:γ),l.lookup b=some x→(b,x)∈l:=by
 intro l b x h
 induction l with
 | nil=>cases h
 | cons p l ih=>
  grind
theorem zf0{γ:Type}:∀(l:List (BId×γ)) (p:BId×γ),p∈l→∃x,l.lookup p.1=some x:=by
 intro l p h
 induction l with
 | nil=>cases h
 | cons q l ih=>
  obtain⟨q1,q2⟩:=q;by_cases hb:p.1=q1
  ·simp_all
  grind
theorem zlv{h:Heap}{ids:List BId}{p:BId×Box}(hp:p∈Zd5 h ids):(Zd5 h ids).lookup p.1=some p.2:=by
 obtain⟨x,hx⟩:=zf0 _ _ hp;have h1:=zfe (za8 _ _ _ hx);rw[zfe hp]at h1
 grind
theorem zny(live:List Nat)(f:Nat→AV)(t:Nat):(live.map fun t=>(t,f t)).lookup t=if t∈live then some (f t) else none:=by
 induction live with
 | nil=>simp
 | cons s l ih=>
  grind
section
variable{cx:Cx}{st:St}{a:Act}{w:World}
theorem zpa{k:Nat}{hp:Heap}{g g':Nat}(h:∃p∈hp,p.2.gen=g)(h':∃p∈hp,p.2.gen=g')(he:Zc4 k hp g=Zc4 k hp g'):g=g':=by
 grind[Zc4,zcr,zhh]
theorem Rel.norm{ex:Bool}{k:Nat}{live:List Nat}(hk:cx.clk0=k+1)(hr:Rel cx st a w):Rel cx (Zdf ex k live st) a w:=by
 obtain⟨S,M,hr⟩:=hr;generalize hids:Zcy st.heap 40 (Zkl k++(live.map fun t=>(t,st.env.get t)).flatMap fun p=>rfA p.2) []=ids;generalize hhp:Zd5 st.heap ids=hp;have hn:Zdf ex k live st=⟨(live.map fun t=>(t,st.env.get t)).map fun p=>(p.1,rlA id (Zc4 k hp) (wkIf ex p.2)),hp.map fun p=>(p.1,Zar ex id (Zc4 k hp) p.2),k+hp.length+2⟩:=by
  rw[←hhp,←hids];rfl
 have hlk:∀b bx,hp.lookup b=some bx→st.heap.lookup b=some bx:=by
  intro b bx hb;have:=za8 _ _ _ hb;rw[←hhp]at this;exact zfe this
 have hml:∀p∈hp,hp.lookup p.1=some p.2:=by
  intro p hm;rw[←hhp]at hm ⊢;exact zlv hm
 classical
 generalize hM':(fun g'=>if h:∃g,(∃p∈hp,p.2.gen=g)∧Zc4 k hp g=g' then M (Classical.choose h) else none:Map)=M';have hM1:∀g,(∃p∈hp,p.2.gen=g)→M' (Zc4 k hp g)=M g:=by
  intro g hg;rw[←hM'];have h:∃g0,(∃p∈hp,p.2.gen=g0)∧Zc4 k hp g0=Zc4 k hp g:=⟨g,hg,rfl⟩;simp only[dif_pos h];rw[zpa (Classical.choose_spec h).1 hg (Classical.choose_spec h).2]
 have hM2:∀g' m,M' g'=some m→∃g,(∃p∈hp,p.2.gen=g)∧Zc4 k hp g=g'∧M g=some m:=by
  grind
 have hrl:Rlb M M' st.clk (k+hp.length+2) (Zc4 k hp):=by
  refine⟨fun g hg=>⟨?_,?_⟩⟩
  ·by_cases hin:∃p∈hp,p.2.gen=g
   ·grind
   ·right;cases hm:M' (Zc4 k hp g) with
    | none=>rfl
    | some m=>
     obtain⟨g1,h1,h2,_⟩:=hM2 _ _ hm;have hlt:=zgn hp g1 (k+1) h1
     grind[zj7,zcr,Zc4]
  grind[zcr,Zc4]
 have hw:=hr.wr;refine⟨S,M',?_⟩;rw[hn];refine⟨hr.size,hr.defers,fun t=>?_,?_⟩
 ·rw[List.map_map];have e1:Env.get (live.map fun t=>(t,rlA id (Zc4 k hp) (wkIf ex (st.env.get t)))) t=(if t∈live then some (rlA id (Zc4 k hp) (wkIf ex (st.env.get t))) else none).getD .dead:=by
   rw[←zny live (fun t=>rlA id (Zc4 k hp) (wkIf ex (st.env.get t)))];rfl
  show C w S M' _ _ (Env.get (live.map fun t=>(t,rlA id (Zc4 k hp) (wkIf ex (st.env.get t)))) t);rw[e1];split
  ·exact((hr.env t).wkIf ex).rlA hrl
  ·exact .p (.dead _)
 ·refine hw.rl (ex:=ex) (σn:=id) (σg:=Zc4 k hp) (D:=fun g=>∃p∈hp,p.2.gen=g) hrl (by grind) (fun g m hg hm=>?_) (fun b' bx' hb=>?_) (fun g' m hm=>?_) (fun g1 g2 hd1 hd2 hg=>?_) (fun g' m hm=>?_)
  ·grind[zcr,Zc4]
  ·rw[zd5 (fun _ bx=>Zar ex id (Zc4 k hp) bx) b' hp]at hb;obtain⟨bx,h1,rfl⟩:=map_some hb;exact⟨b',bx,hlk _ _ h1,rfl,hM1 _ ⟨_,za8 _ _ _ h1,rfl⟩,rfl,⟨_,za8 _ _ _ h1,rfl⟩⟩
  ·obtain⟨g1,⟨p,h1,h1'⟩,h2,h3⟩:=hM2 _ _ hm;refine⟨p.1,Zar ex id (Zc4 k hp) p.2,?_,by show Zc4 k hp p.2.gen=g';grind⟩;rw[zd5 (fun _ bx=>Zar ex id (Zc4 k hp) bx) p.1 hp,hml p h1]
   rfl
  ·exact zpa hd1 hd2 hg
  grind
theorem Rel.nil(t:Nat)(id:BId)(z:Nat)(hx:st.env.get t=.sl [] .nl)(hr0:Rel cx st a w):Rel cx ⟨(t,.bs id st.clk z 0 0)::st.env,(id,⟨st.clk,.own,z,[]⟩)::st.heap,st.clk+1⟩ a w:=by
 obtain⟨S,M,hr⟩:=hr0;refine⟨S,Zdh M ((id,⟨st.clk,.own,z,[]⟩)::st.heap) st.clk none,?_⟩;have h1:=hr.set (id:=id) (bx':=⟨st.clk,.own,z,[]⟩) (k':=none) (touched:=none) (clk':=st.clk+1) (Ybq _) (.inl rfl) (fun hlt=>absurd hlt (Ybs _)) (Touch.of_below (Below.refl _ _)) (fun k hk=>by grind)
  ⟨Y4 _,fun r hr=>by grind,none,zat _ _ _ _,rfl,by simp⟩
 refine⟨h1.size,h1.defers,fun t'=>?_,h1.wr⟩;have e1:Env.get ((t,AV.bs id st.clk z 0 0)::st.env)=upd st.env.get (some t) (.bs id st.clk z 0 0):=zdp st.env (some t) _;rw[e1];simp only[upd];split
 ·rename_i ht;subst ht;have hv:=hr.env t';rw[hx]at hv;have hv2:a.tmps.getD t' undef=.slice none 0 0:=by
   rcases hv.inv_sl.inv_sl with ⟨_,b0,hv,_,hb2⟩ | ⟨_,_,_,_,_,_,hf,_⟩
   all_goals grind
  rw[hv2];refine .bs _ _ _ _ _ _ (Y4 _) ?_ rfl
  grind[Zfj,zat]
 ·exact h1.env t'
theorem Rel.shr(t:Nat){y:AV}(hy:frz st.heap (st.env.get t)=some y)(hr0:Rel cx st a w):Rel cx ⟨st.env,Zm (refs (st.env.get t)) st.heap,st.clk⟩ a w:=by
 obtain⟨S,M,hr⟩:=hr0;exact⟨_,M,hr.share (refs (st.env.get t)) (ze4 hy)⟩
theorem Rel.frz(t:Nat){y:AV}(hy:frz st.heap (st.env.get t)=some y)(hr0:Rel cx st a w):Rel cx ⟨(t,y)::st.env,Zm (refs (st.env.get t)) st.heap,st.clk⟩ a w:=by
 obtain⟨S,M,hr⟩:=hr0;have hk:=ze4 hy;refine⟨Zb9 st.heap M (refs (st.env.get t)) S,M,?_⟩;have h1:=hr.share (refs (st.env.get t)) hk;refine⟨h1.size,h1.defers,fun t'=>?_,h1.wr⟩;have e1:Env.get ((t,y)::st.env)=upd st.env.get (some t) y:=zdp st.env (some t) _;rw[e1];simp only[upd];split
 ·rename_i ht;subst ht;exact .p (zzf hr.wr.heap (hr.env t') hy fun id hid=>hid)
 ·exact h1.env t'
theorem Rel.fld(b id:BId)(z i o:Nat){bx:Box}{r:List AV}(hb:st.heap.lookup b=some bx)(hk:bx.kind=.str)(hi:bx.els[i]? = some r)(ho:r[o]? = some (.sl [] .nl))(hid:st.heap.lookup id=none)(hr0:Rel cx st a w):Rel cx ⟨st.env,(b,{ bx with els:=bx.els.set i (r.set o (.bs id st.clk z 0 0)) })::(id,⟨st.clk,.own,z,[]⟩)::st.heap,st.clk+1⟩ a w:=by
 obtain⟨S,M,hr⟩:=hr0;refine⟨S,Zdh M ((id,⟨st.clk,.own,z,[]⟩)::st.heap) st.clk none,?_⟩;have h1:=hr.set (id:=id) (bx':=⟨st.clk,.own,z,[]⟩) (k':=none) (touched:=none) (clk':=st.clk+1) (Ybq _) (.inl rfl) (fun hlt=>absurd hlt (Ybs _)) (Touch.of_below (Below.refl _ _)) (fun k hk=>by grind)
  ⟨Y4 _,fun r hr=>by grind,none,zat _ _ _ _,rfl,by simp⟩
 have hb1:List.lookup b ((id,(⟨st.clk,.own,z,[]⟩:Box))::st.heap)=some bx:=by grind
 have hw:=h1.wr;generalize hM':Zdh M ((id,⟨st.clk,.own,z,[]⟩)::st.heap) st.clk none=M' at *
 have hself:M' st.clk=some none:=by rw[←hM'];exact zat _ _ _ _
 generalize hbx':({ bx with els:=bx.els.set i (r.set o (.bs id st.clk z 0 0)) }:Box)=bx' at *
 have hgen:bx'.gen=bx.gen:=by grind
 have hz:bx'.z=bx.z:=by grind
 have hkk:bx'.kind=bx.kind:=by grind
 have hbox:Zb4 w S M' (st.clk+1) bx':=by
  obtain⟨b1,b2,m,hm1,b3⟩:=hw.heap.box b bx hb1;refine⟨by omega,fun r' hr'=>?_,m,by grind,?_⟩
  ·grind
  ·cases m with
   | none=>
    grind
   | some k=>
    obtain⟨arr,e,hh,hsz,hcc,hns,hlt⟩:=b3;refine⟨arr,e,hh,by grind,fun i' r' j c' hi' hj=>?_,by grind,by grind⟩;rw[←hbx']at hi';simp only[List.getElem?_set]at hi';rw[hz,hkk];split at hi'
    ·rename_i hii;subst hii;split at hi'
     ·cases hi';rw[List.getElem?_set]at hj;split at hj
      ·rename_i hjo;subst hjo;split at hj
       ·cases hj;obtain⟨u,hu,hu1,hC,hP⟩:=hcc i r o _ hi ho;refine⟨u,hu,hu1,?_,fun hne'=>absurd hk hne'⟩;have hv2:u=.slice none 0 0:=by
         rcases hC.inv_sl.inv_sl with ⟨_,b0,hv,_,hb2⟩ | ⟨_,_,_,_,_,_,hf,_⟩
         all_goals grind
        rw[hv2];refine .bs _ _ _ _ _ _ (Y4 _) ?_ rfl
        grind[Zfj]
       grind
      grind
     grind
    grind
 have to:∀q x,List.lookup q ((b,bx')::(id,(⟨st.clk,.own,z,[]⟩:Box))::st.heap)=some x→∃x0,List.lookup q ((id,(⟨st.clk,.own,z,[]⟩:Box))::st.heap)=some x0∧x0.gen=x.gen:=by
  grind
 refine⟨h1.size,h1.defers,h1.env,⟨⟨fun q x hq=>?_,fun g m hm=>?_,fun q1 x1 q2 x2 hq1 hq2 hg=>?_,hw.heap.inj⟩,hw.ext,hw.fr,hw.Snew,hw.Slt,hw.Mnew⟩⟩
 ·by_cases hqb:q=b
  ·grind
  ·rw[zb0 _ _ hqb]at hq;exact hw.heap.box q x hq
 ·obtain⟨q,x,hq,hg⟩:=hw.heap.live g m hm;by_cases hqb:q=b
  ·grind[zdm]
  ·exact⟨q,x,by grind,hg⟩
 ·obtain⟨y1,hy1,e1⟩:=to q1 x1 hq1;obtain⟨y2,hy2,e2⟩:=to q2 x2 hq2;exact hw.heap.gens _ _ _ _ hy1 hy2 (by rw[e1,e2,hg])
theorem Rel.gh{k:Nat}{g:Gh}{st':St}(hk:cx.clk0=k+1)(hg:ghS k g st=some st')(hr:Rel cx st a w):Rel cx st' a w:=by
 cases g with
 | nil t z=>
  simp only[ghS]at hg;split at hg<;>cases hg;rename_i hx;exact hr.nil t _ z hx
 | frz t=>
  obtain⟨y,hy,rfl⟩:=map_some hg;exact hr.frz t hy
 | shr t=>
  simp only[ghS]at hg;obtain⟨y,hy,rfl⟩:=map_some hg;exact hr.shr t hy
 | norm ex live=>
  cases hg;exact hr.norm hk
 | fld t i o z=>
  simp only[ghS]at hg;split at hg<;>try (cases hg;done)
  split at hg<;>try (cases hg;done)
  rename_i bx hbx;split at hg<;>try (cases hg;done)
  rename_i r hi;split at hg<;>try (cases hg;done)
  rename_i ho;split at hg<;>cases hg;rename_i hc;exact hr.fld _ _ z i o (zay hbx).1 hc.1 hi ho (by simpa using hc.2)
end
end Go.Ab
end
section
namespace Go.Ab
open Go.RowKit
theorem zlw:∀(l:Heap) (g j:Nat),(∃p∈l,p.2.gen=g)→∃q,l[Zcn l g j-j]? = some q∧q.2.gen=g∧j≤Zcn l g j
 | [],g,j,h=>by obtain⟨p,hp,_⟩:=h;simp at hp
 | p::l,g,j,h=>by
  simp only[Zcn];split
  ·rename_i he;exact⟨p,by simp,he,Yf _⟩
  ·rename_i hne;obtain⟨q,hq,he⟩:=h;have hq':q∈l:=by
    rcases Yw.1 hq with rfl | h
    ·exact absurd he hne
    ·exact h
   obtain⟨q2,h1,h2,h3⟩:=zlw l g (j+1) ⟨q,hq',he⟩;refine⟨q2,?_,h2,by omega⟩;rw[show Zcn l g (j+1)-j=(Zcn l g (j+1)-(j+1))+1 by omega];simpa using h1
theorem zi6:∀(l:List BId) (b b':BId) (j:Nat),b∈l→b'∈l→Zer l b j=Zer l b' j→b=b'
 | [],b,b',j,h,_,_=>by cases h
 | c::l,b,b',j,h,h',he=>by
  have low:∀(l:List BId) (x:BId) (j:Nat),j≤Zer l x j:=by
   intro l x
   induction l with
   | nil=>intro j;exact Yf _
   | cons y l ih=>intro j;simp only[Zer];split;exact Yf _;exact Ye (Ybq j) (ih (j+1))
  simp only[Zer]at he;have l1:=low l b (j+1);have l2:=low l b' (j+1);split at he<;>split at he
  ·rename_i h1 h2;rw[←h1,←h2]
  ·omega
  ·omega
  ·rename_i h1 h2;have tl:∀x,c≠x→x∈c::l→x∈l:=by
    intro x hne hx;rcases Yw.1 hx with rfl | hx
    ·exact absurd rfl hne
    ·exact hx
   exact zi6 l b b' (j+1) (tl b h1 h) (tl b' h2 h') he
theorem zdv{γ:Type}:∀(l:List (BId×γ)),(l.map (·.1)).Nodup→∀p∈l,l.lookup p.1=some p.2:=by
 intro l hn p hp
 induction l with
 | nil=>cases hp
 | cons q l ih=>
  obtain⟨q1,q2⟩:=q;simp only[Y2,Yds]at hn;rcases Yw.1 hp with rfl | hp
  ·simp
  ·have hne:p.1≠q1:=fun he=>hn.1 (he▸Yat.2 ⟨p,hp,rfl⟩);simp[hne,ih hn.2 hp]
theorem zgg{α β:Type}{f:α→β}:∀(l:List α),(l.map f).Nodup→l.Nodup
 | [],_=>List.nodup_nil
 | x::l,h=>by
  simp only[Y2,Yds]at h ⊢;exact⟨fun hx=>h.1 (Yat.2 ⟨x,hx,rfl⟩),zgg l h.2⟩
theorem zhi{α:Type}:∀(l:List α),l.Nodup→∀(i j:Nat) (x:α),l[i]? = some x→l[j]? = some x→i=j
 | [],_,i,j,x,h,_=>by simp at h
 | y::l,hn,i,j,x,hi,hj=>by
  simp only[Yds]at hn;cases i with
  | zero=>
   cases j with
   | zero=>rfl
   | succ j=>
    simp at hi hj;subst hi;exact absurd (Yj hj) hn.1
  | succ i=>
   cases j with
   | zero=>
    simp at hi hj;subst hj;exact absurd (Yj hi) hn.1
   | succ j=>simp at hi hj;rw[zhi l hn.2 i j x hi hj]
theorem Zd3.rl{P:Program}{f:FuncId}{ys:List AV}{hp:Heap}{clk d:Nat}{ex:Bool}{l:List BId}{r0:AV}{hb':Heap}{c':Nat}
  (hkeys:hp.map (·.1)=l) (hnd:l.Nodup)
  (hnd2:((hb'.map fun p=>(Za8 l d p.1,Zar true (Za8 l d) (Zbk hp clk) p.2)).map (·.1)).Nodup)
  (hA:Zd3 P f (ys.map fun y=>rlA (inN l) (inG hp) (wkIf ex y)) (hp.map fun p=>(inN l p.1,Zar ex (inN l) (inG hp) p.2)) (hp.length+1) (fun r h c=>r=r0∧h=hb'∧c=c')) :
  Zd3 P f ys hp clk (fun r h c=>r=rlA (Za8 l d) (Zbk hp clk) r0∧h=hb'.map (fun p=>(Za8 l d p.1,Zar true (Za8 l d) (Zbk hp clk) p.2))∧c=clk+(c'-hp.length)):=by
 refine⟨hA.1,fun w S M cargs hl hC hh hS hM=>?_⟩;have hml:∀p∈hp,hp.lookup p.1=some p.2:=zdv hp (by rw[hkeys];exact hnd);have hnd':(hb'.map (·.1)).Nodup:=by
  refine zgg (f:=Za8 l d) _ ?_;rw[List.map_map];rw[List.map_map]at hnd2;exact hnd2
 classical
 -- the call's own numbering
 generalize hM1:(fun g'=>if h:∃g,(∃p∈hp,p.2.gen=g)∧inG hp g=g' then M (Classical.choose h) else none:Map)=M1;have inj1:∀g1 g2,(∃p∈hp,p.2.gen=g1)→(∃p∈hp,p.2.gen=g2)→inG hp g1=inG hp g2→g1=g2:=fun g1 g2 h1 h2 he=>zhh hp g1 g2 0 h1 h2 he;have hM1a:∀g,(∃p∈hp,p.2.gen=g)→M1 (inG hp g)=M g:=by
  intro g hg;rw[←hM1];have h:∃g0,(∃p∈hp,p.2.gen=g0)∧inG hp g0=inG hp g:=⟨g,hg,rfl⟩;simp only[dif_pos h];rw[inj1 _ _ (Classical.choose_spec h).1 hg (Classical.choose_spec h).2]
 have hM1b:∀g' m,M1 g'=some m→∃g,(∃p∈hp,p.2.gen=g)∧inG hp g=g'∧M g=some m:=by
  intro g' m hm;rw[←hM1]at hm;simp only at hm;split at hm
  ·rename_i h;exact⟨_,(Classical.choose_spec h).1,(Classical.choose_spec h).2,hm⟩
  ·cases hm
 have rl1:Rlb M M1 clk (hp.length+1) (inG hp):=by
  refine⟨fun g _=>⟨?_,?_⟩⟩
  ·by_cases hin:∃p∈hp,p.2.gen=g
   ·exact .inl (hM1a g hin)
   ·right;cases hm:M1 (inG hp g) with
    | none=>rfl
    | some m=>
     exfalso;obtain⟨g1,h1,h2,_⟩:=hM1b _ _ hm;have hlt:=zgn hp g1 0 h1;have hno:=zj7 hp g 0 hin;unfold inG at h2;omega
  ·have:=zcr hp g 0;unfold inG;omega
 have mem_keys:∀p∈hp,p.1∈l:=fun p hpm=>by rw[←hkeys];exact Yat.2 ⟨p,hpm,rfl⟩
 have heap1:HeapRel w S M1 (hp.length+1) (hp.map fun p=>(inN l p.1,Zar ex (inN l) (inG hp) p.2)):=by
  refine hh.rl (ex:=ex) (σn:=inN l) (σg:=inG hp) (D:=fun g=>∃p∈hp,p.2.gen=g) rl1 (fun b' bx' hb=>?_) (fun g' m hm=>?_) inj1 (fun g' m hm=>?_)
  ·obtain⟨p,hpm,he⟩:=Yat.1 (za8 _ _ _ hb);cases he;exact⟨p.1,p.2,hml p hpm,rfl,hM1a _ ⟨p,hpm,rfl⟩,rfl,⟨p,hpm,rfl⟩⟩
  ·obtain⟨g1,⟨p,hpm,h1⟩,h2,h3⟩:=hM1b _ _ hm;obtain⟨x,hx⟩:=zf0 (hp.map fun p=>(inN l p.1,Zar ex (inN l) (inG hp) p.2)) (inN l p.1,Zar ex (inN l) (inG hp) p.2) (Yat.2 ⟨p,hpm,rfl⟩);refine⟨_,x,hx,?_⟩;obtain⟨q,hqm,he⟩:=Yat.1 (za8 _ _ _ hx);simp only[Prod.mk.injEq]at he;have hqp:q.1=p.1:=by
    have:=he.1;simp only[inN,BId.bor.injEq]at this;exact zi6 l _ _ 0 (mem_keys q hqm) (mem_keys p hpm) this
   have:q.2=p.2:=by
    have a1:=hml q hqm;have a2:=hml p hpm;rw[hqp,a2]at a1;exact(Option.some.inj a1).symm
   rw[←he.2,this];show inG hp p.2.gen=g';rw[h1,h2]
  ·obtain⟨g1,h1,h2,h3⟩:=hM1b _ _ hm;exact⟨g1,h3,h2⟩
 have range1:∀g k,M1 g=some (some k)→∃g0,M g0=some (some k):=fun g k hm=>let ⟨g1,_,_,h3⟩:=hM1b g _ hm;⟨g1,h3⟩
 refine(hA.2 w S M1 cargs (by simpa using hl) (fun j v c hv hc=>?_) heap1 hS (fun g k hm=>let ⟨g0,h0⟩:=range1 g k hm;hM g0 k h0)).mono ?_
 ·obtain⟨c0,h1,rfl⟩:=getElem?_mapped hc;exact((hC j v c0 hv h1).wkIf ex).rlA rl1
 intro e w' ⟨v,r,h',S',M2,clk2,he,⟨hr0,hh',hc2⟩,hCr,hw⟩;subst hr0;subst hh';subst hc2;have hw:=hw 0;have hclk2:hp.length+1≤clk2:=hw.ext.hclk
 -- back
 have gens:∀(i:Nat) p,hp[i]? = some p→∀(j:Nat) q,hp[j]? = some q→p.2.gen=q.2.gen→i=j:=by
  intro i p hi j q hj hg;have h1:=hh.gens _ _ _ _ (hml p (Yj hi)) (hml q (Yj hj)) hg;refine zhi l hnd i j p.1 ?_ ?_
  ·rw[←hkeys,Yb2,hi];rfl
  ·rw[←hkeys,Yb2,hj,h1];rfl
 have low:∀g m,M2 g=some m→g<hp.length∨hp.length+1≤g:=by
  intro g m hm;rcases Yq g (hp.length+1) with h1 | h1
  ·obtain⟨g1,h2,h3,_⟩:=hM1b g m (hw.ext.hM g m h1 hm);have:=zgn hp g1 0 h2;unfold inG at h3;omega
  ·exact .inr h1
 have outLt:∀g,g<hp.length→∃p,hp[g]? = some p∧Zbk hp clk g=p.2.gen∧p.2.gen<clk:=by
  intro g hg;have h1:hp[g]? = some (hp[g]'hg):=Ya hg;refine⟨_,h1,by simp[Zbk,h1],(hh.box _ _ (hml _ (Yaf hg))).1⟩
 have outGe:∀g,hp.length≤g→Zbk hp clk g=clk+(g-hp.length):=by
  intro g hg;have h1:hp[g]? = none:=Yak hg;simp[Zbk,h1]
 have inj2:∀g1 g2,(∃m,M2 g1=some m)→Zbk hp clk g1=Zbk hp clk g2→g1=g2:=by
  intro g1 g2 ⟨m,hm⟩ he;rcases Yq g1 hp.length with h1 | h1<;>rcases Yq g2 hp.length with h2 | h2
  ·obtain⟨p,a1,a2,_⟩:=outLt g1 h1;obtain⟨q,b1,b2,_⟩:=outLt g2 h2;exact gens g1 p a1 g2 q b1 (by rw[←a2,←b2,he])
  ·obtain⟨p,a1,a2,a3⟩:=outLt g1 h1;rw[a2,outGe g2 h2]at he;omega
  ·obtain⟨p,a1,a2,a3⟩:=outLt g2 h2;rw[a2,outGe g1 h1]at he;omega
  ·rw[outGe g1 h1,outGe g2 h2]at he;omega
 generalize hM3:(fun g'=>if h:∃g,(∃m,M2 g=some m)∧Zbk hp clk g=g' then M2 (Classical.choose h) else none:Map)=M3;have hM3a:∀g,(∃m,M2 g=some m)→M3 (Zbk hp clk g)=M2 g:=by
  intro g hg;rw[←hM3];have h:∃g0,(∃m,M2 g0=some m)∧Zbk hp clk g0=Zbk hp clk g:=⟨g,hg,rfl⟩;simp only[dif_pos h];rw[inj2 _ _ (Classical.choose_spec h).1 (Classical.choose_spec h).2]
 have hM3b:∀g' m,M3 g'=some m→∃g,Zbk hp clk g=g'∧M2 g=some m:=by
  intro g' m hm;rw[←hM3]at hm;simp only at hm;split at hm
  ·rename_i h;exact⟨_,(Classical.choose_spec h).2,hm⟩
  ·cases hm
 have rl2:Rlb M2 M3 clk2 (clk+(clk2-hp.length)) (Zbk hp clk):=by
  refine⟨fun g hg=>⟨?_,?_⟩⟩
  ·cases hm:M2 g with
   | some m=>left;rw[←hm];exact hM3a g ⟨m,hm⟩
   | none=>
    left;cases hm3:M3 (Zbk hp clk g) with
    | none=>rfl
    | some m=>
     obtain⟨g1,h1,h2⟩:=hM3b _ _ hm3;have:=inj2 g1 g ⟨m,h2⟩ h1;subst this;rw[hm]at h2;cases h2
  ·rcases Yq g hp.length with h1 | h1
   ·obtain⟨p,_,a2,a3⟩:=outLt g h1;rw[a2];omega
   ·rw[outGe g h1];omega
 have back:∀g m,g<clk→M3 g=some m→∃g1,g1<hp.length∧M2 g1=some m∧M1 g1=some m∧M g=some m:=by
  intro g m hg hm;obtain⟨g1,h1,h2⟩:=hM3b _ _ hm;have hlt:g1<hp.length:=by
   rcases Yq g1 hp.length with h3 | h3
   ·exact h3
   ·rw[outGe g1 h3]at h1;omega
  have h3:=hw.ext.hM g1 m (by show g1<hp.length+1;omega) h2;obtain⟨g2,h4,h5,h6⟩:=hM1b _ _ h3;obtain⟨p,a1,a2,_⟩:=outLt g1 hlt;obtain⟨q,b1,b2,_⟩:=zlw hp g2 0 h4;unfold inG at h5;rw[Yel,h5,a1]at b1;cases b1;rw[a2]at h1;refine⟨g1,hlt,h2,h3,?_⟩;rw[←h1,b2];exact h6
 refine⟨v,_,_,S',M3,_,he,⟨rfl,rfl,rfl⟩,hCr.rlA rl2,fun nt=>⟨?_,?_,?_,fun k o hs=>?_,hw.Slt,fun g k hm=>?_⟩⟩
 ·refine hw.heap.rl (ex:=true) (σn:=Za8 l d) (σg:=Zbk hp clk) (D:=fun g=>∃m,M2 g=some m) rl2 (fun b' bx' hb=>?_) (fun g' m hm=>?_) (fun g1 g2 h1 _ he=>inj2 g1 g2 h1 he) (fun g' m hm=>?_)
  ·obtain⟨p,hpm,he⟩:=Yat.1 (za8 _ _ _ hb);cases he;have h1:=zdv h' hnd' p hpm;obtain⟨_,_,m,hm,_⟩:=hw.heap.box _ _ h1;exact⟨p.1,p.2,h1,rfl,hM3a _ ⟨m,hm⟩,rfl,⟨m,hm⟩⟩
  ·obtain⟨g1,h1,h2⟩:=hM3b _ _ hm;obtain⟨b,bx,h3,h4⟩:=hw.heap.live g1 m h2;refine⟨Za8 l d b,Zar true (Za8 l d) (Zbk hp clk) bx,?_,by show Zbk hp clk bx.gen=g';rw[h4,h1]⟩;exact zdv _ hnd2 (Za8 l d b,Zar true (Za8 l d) (Zbk hp clk) bx) (Yat.2 ⟨(b,bx),za8 _ _ _ h3,rfl⟩)
  ·obtain⟨g1,h1,h2⟩:=hM3b _ _ hm;exact⟨g1,h2,h1⟩
 ·refine⟨hw.ext.hS,hw.ext.hcell,by show clk≤clk+(clk2-hp.length);omega,fun g m hg hm=>?_,fun g k arr e hg hm hb=>?_⟩
  ·obtain⟨_,_,_,_,h4⟩:=back g m hg hm;exact h4
  ·obtain⟨g1,h1,h2,_,_⟩:=back g _ hg hm;exact hw.ext.hblk g1 k arr e (by show g1<hp.length+1;omega) h2 hb
 ·exact⟨hw.fr.os,hw.fr.tape,hw.fr.output,hw.fr.size,fun k hk hn=>hw.fr.block k hk fun⟨g,hm⟩=>hn (range1 g k hm)⟩
 ·rcases hw.Snew k o hs with h1 | h1 | ⟨g,h1⟩
  ·exact .inl h1
  ·exact .inr (.inl h1)
  ·exact .inr (.inr (range1 g k h1))
 ·obtain⟨g1,h1,h2⟩:=hM3b _ _ hm;obtain⟨h3,h4⟩:=hw.Mnew g1 k h2;refine⟨h3,?_⟩;rcases h4 with h4 | ⟨g,h4⟩
  ·exact .inl h4
  ·exact .inr (range1 g k h4)
theorem Zaq.wk{P:Program}{f:FuncId}{xs:List AV}{post:AV→Prop}{ex:Bool}(h:Zaq P f (xs.map (wkIf ex)) post):Zaq P f xs post:=
 ⟨h.1,fun w S cargs hl hC hS=>h.2 w S cargs (by simpa using hl) (fun j v c hv hc=>by
  obtain⟨c0,h1,rfl⟩:=getElem?_mapped hc;exact(hC j v c0 hv h1).wkIf ex) hS⟩
end Go.Ab
end