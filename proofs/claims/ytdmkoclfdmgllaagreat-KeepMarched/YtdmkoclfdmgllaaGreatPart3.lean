/-
  A calculus of values, boxes and code, and what functions of the program compute, proved in it.
  Conditions: none beyond those that the theorems state. (Part 3.)
-/
import Derived.Test.YtdmkoclfdmgllaaGreatPart2

set_option linter.unusedSectionVars false
set_option linter.unusedVariables false
set_option linter.unusedSimpArgs false
set_option linter.unnecessarySimpa false

namespace Go.Ab
section
open Go.RowKit
mutual
def wkA:AV→AV
 | .sl els _=>.sl (wkL els) .an
 | .agg cs=>.agg (wkR cs)
 | .tup cs=>.tup (wkR cs)
 | .i k n=>.i k n
 | .b x=>.b x
 | .s l=>.s l
 | .raw v=>.raw v
 | .ep cs o=>.ep cs o
 | .bs id g z off n=>.bs id g z off n
 | .ptr id g z i o=>.ptr id g z i o
 | .ifc t x=>.ifc t x
 | .fnp f id g z i o=>.fnp f id g z i o
 | .fnv f x=>.fnv f (wkA x)
 | .dead=>.dead
def wkR:List AV→List AV
 | []=>[]
 | c::r=>wkA c::wkR r
def wkL:List (List AV)→List (List AV)
 | []=>[]
 | r::l=>wkR r::wkL l
end
def wkIf(ex:Bool)(x:AV):AV:=if ex then x else wkA x
def rlC(σn:BId→BId)(σg:Nat→Nat):AV→AV
 | .bs id g z off n=>.bs (σn id) (σg g) z off n
 | .ptr id g z i o=>.ptr (σn id) (σg g) z i o
 | .fnp f id g z i o=>.fnp f (σn id) (σg g) z i o
 | .agg _ | .tup _ | .ifc .. => .dead
 | x=>x
def rl1(σn:BId→BId)(σg:Nat→Nat):AV→AV
 | .agg cs=>.agg (cs.map (rlC σn σg))
 | x=>rlC σn σg x
def rlA(σn:BId→BId)(σg:Nat→Nat):AV→AV
 | .tup cs=>.tup (cs.map (rl1 σn σg))
 | x=>rl1 σn σg x
def rfC:AV→List BId
 | .bs id _ _ _ _=>[id]
 | .ptr id _ _ _ _=>[id]
 | .fnp _ id _ _ _ _=>[id]
 | _=>[]
def rf1:AV→List BId
 | .agg cs=>cs.flatMap rfC
 | x=>rfC x
def rfA:AV→List BId
 | .tup cs=>cs.flatMap rf1
 | x=>rf1 x
def rlBox(ex:Bool)(σn:BId→BId)(σg:Nat→Nat)(bx:Box):Box:=
 ⟨σg bx.gen,bx.kind,bx.z,if bx.kind=.str then bx.els.map fun r=>r.map fun c=>rlC σn σg (wkIf ex c) else if ex then bx.els else wkL bx.els⟩
def kids(h:Heap)(b:BId):List BId:=
 match h.lookup b with
 | some bx=>if bx.kind=.str then bx.els.flatMap fun r=>r.flatMap rfC else []
 | none=>[]
def reach(h:Heap):Nat→List BId→List BId→List BId
 | 0,_,acc=>acc
 | _,[],acc=>acc
 | n+1,b::todo,acc=>if acc.contains b then reach h n todo acc else reach h n (kids h b++todo) (acc++[b])
def bors:Nat→List BId
 | 0=>[]
 | k+1=>bors k++[.bor k]
def pickH(h:Heap)(ids:List BId):Heap:=ids.filterMap fun b=>(h.lookup b).map fun bx=>(b,bx)
def genIx:Heap→Nat→Nat→Nat
 | [],_,j=>j
 | p::l,g,j=>if p.2.gen=g then j else genIx l g (j+1)
def sigG(k:Nat)(hp:Heap)(g:Nat):Nat:=if g≤k then g else genIx hp g (k+1)
def normS(ex:Bool)(k:Nat)(live:List Nat)(st:St):St:=
 let env:=live.map fun t=>(t,st.env.get t)
 let hp:=pickH st.heap (reach st.heap 40 (bors k++env.flatMap fun p=>rfA p.2) [])
 ⟨env.map fun p=>(p.1,rlA id (sigG k hp) (wkIf ex p.2)),hp.map fun p=>(p.1,rlBox ex id (sigG k hp) p.2),k+hp.length+2⟩
inductive Gh where
 | nil (t z:Nat)                      -- an empty list,told as a row of the call's own
 | frz (t:Nat)                        -- a row of the call's own,told as a value
 | norm (ex:Bool) (live:List Nat)
 | fld (t:Nat) (i o z:Nat)          -- an empty list in a field of the box that slot t points to
 | shr (t:Nat)                        -- a row of the call's own,stored into no more,but told as a row
 | opn (t j z:Nat)                    -- an empty list in a cell (slot j tells which) of the row in slot t,told as a row of the call's own
 | shi (t j:Nat)                      -- the row in such a cell,stored into no more
 | trm (live:List Nat)                -- these slots alone
 | shf (t:Nat) (i o:Nat)            -- the row in a field of the box that slot t points to,stored into no more
inductive AX where
 | skip
 | reg (ops:List AO)
 | draw (ops:List DO)
 | seq (a b:AX)
 | cond (c:Opd) (x y:AX)
 | block (id:Nat) (c:AX)
 | loop (c:AX)
 | exit (id:Nat)
 | ret
 | note (c:AX) (g:Gh)
 | pre (g:Gh) (c:AX)   -- ahead of c
 | scope (c:AX)
 | lp (id:Nat) (g:Gh) (c:AX) (g2:Gh)   -- a loop in its block: told by g ahead of it,by g2 behind
 | bad
 | drawT (hd tl:List AO)
 | drawM (hd tl:List AO)
 | prim (f:List AV→Option AV)   -- no code: a function known by its contract
 | label (l:Nat)
 | goto (l:Nat)
 | gsc (l:Nat) (c r:AX)   -- a scope,and what stands behind its label
 | drawC (l1:List AO) (o:AO) (l2 tl:List AO)   -- a drawn region and its tail,one call that may change boxes in its head
 | drawN (l1:List DO) (o:AO) (l2:List DO)      -- a drawn region,such a call ahead of all that writes
 | drawR (hd tl:List AO)   -- a drawn region and its tail,calls in its head that are handed shared rows of the call's own
 | drawP (l1:List DO) (o:AO) (l2:List DO) (da:Nat) (cs:List AV) (n:Nat) (xs vs:Opd)   -- such a call beside one new box,and a store behind all
def AX.isPrim:AX→Option (List AV→Option AV)
 | .prim f=>some f
 | _=>none
def AX.isBad:AX→Bool
 | .bad=>true
 | _=>false
def mname:Nat→String
 | 1=>"Of"
 | 2=>"Neg"
 | 3=>"Add"
 | 4=>"Sub"
 | 5=>"Mul"
 | 6=>"Quo"
 | 7=>"Pow"
 | 8=>"Fits"
 | _=>""
structure AFx where
 np:Nat
 nt:Nat
 res:List RV
 body:AX
 lent:Option (List Bool)
 exact:Bool
abbrev Tbl:=Nat→Option AFx
def methsA(af:AFx):List (String×Nat):=af.res.filterMap fun r=>match r with | .cell j (some u)=>some (mname j,u) | _=>none
def tyNum(T:Tbl)(k:Nat):Nat:=match T (1000000+k) with | some af=>af.np | none=>0
def methsT(T:Tbl)(k:Nat):List (String×Nat):=match T (1000000+k) with | some af=>if af.body.isBad then methsA af else [] | none=>[]
def funT(T:Tbl)(k:Nat):Option Nat:=match T (1000000+k) with | some af=>if (af.body.isBad&&af.res.isEmpty)&&af.np != 0 then some af.nt else none | none=>none
theorem z1p{T:Tbl}{k u:Nat}(h:funT T k=some u):tyNum T k≠0:=by
 unfold funT at h
 unfold tyNum
 split at h
 ·split at h
  ·rename_i hc
   rw[Bool.and_eq_true]at hc
   simpa using hc.2
  ·cases h
 ·cases h
inductive Ex where
 | n
 | x (id:Nat)
 | r
 | g (l:Nat)
def ghS(k:Nat)(g:Gh)(st:St):Option St:=
 match g with
 | .nil t z=>
  match st.env.get t with
  | .sl [] .nl=>some ⟨(t,.bs (.loc t) st.clk z 0 0)::st.env,(.loc t,⟨st.clk,.own,z,[]⟩)::st.heap,st.clk+1⟩
  | _=>none
 | .frz t=>(frz st.heap (st.env.get t)).map fun y=>⟨(t,y)::st.env,shareIds (refs (st.env.get t)) st.heap,st.clk⟩
 | .norm ex live=>some (normS ex k live st)
 | .shr t=>(frz st.heap (st.env.get t)).map fun _=>⟨st.env,shareIds (refs (st.env.get t)) st.heap,st.clk⟩
 | .trm live=>some ⟨live.map fun t=>(t,st.env.get t),st.heap,st.clk⟩
 | .opn t j z=>
  match st.env.get t,st.env.get j with
  | .bs b g z0 off _,.i _ v=>
   match boxAt st.heap b g z0 with
   | some bx=>
    match bx.els[off+v.toNat]? with
    | some (.sl [] .nl::r)=>
     if bx.kind≠.sh∧(st.heap.lookup (.fld b (off+v.toNat))).isNone then
      some ⟨st.env,(b,{ bx with kind:=.str,els:=bx.els.set (off+v.toNat) (.bs (.fld b (off+v.toNat)) st.clk z 0 0::r) })::(.fld b (off+v.toNat),⟨st.clk,.own,z,[]⟩)::st.heap,st.clk+1⟩
     else none
    | _=>none
   | none=>none
  | _,_=>none
 | .shi t j=>
  match st.env.get t,st.env.get j with
  | .bs b g z0 off _,.i _ v=>
   match boxAt st.heap b g z0 with
   | some bx=>
    match bx.els[off+v.toNat]? with
    | some (y::_)=>(frz st.heap y).map fun _=>⟨st.env,shareIds (refs y) st.heap,st.clk⟩
    | _=>none
   | none=>none
  | _,_=>none
 | .shf t i o=>
  match st.env.get t with
  | .ptr b g z0 _ _=>
   match boxAt st.heap b g z0 with
   | some bx=>
    match bx.els[i]? with
    | some r=>
     match r[o]? with
     | some y=>(frz st.heap y).map fun _=>⟨st.env,shareIds (refs y) st.heap,st.clk⟩
     | none=>none
    | none=>none
   | none=>none
  | _=>none
 | .fld t i o z=>
  match st.env.get t with
  | .ptr b g z0 _ _=>
   match boxAt st.heap b g z0 with
   | some bx=>
    match bx.els[i]? with
    | some r=>
     match r[o]? with
     | some (.sl [] .nl)=>
      if bx.kind=.str∧(st.heap.lookup (.fld b o)).isNone then
       some ⟨st.env,(b,{ bx with els:=bx.els.set i (r.set o (.bs (.fld b o) st.clk z 0 0)) })::(.fld b o,⟨st.clk,.own,z,[]⟩)::st.heap,st.clk+1⟩
      else none
     | _=>none
    | none=>none
   | none=>none
  | _=>none
structure Orc where
 call:Nat→List AV→Heap→Option (AV×Heap)
 loop:Nat→AX→St→Option (Ex×St)
def rootsM:List Bool→List AV→List BId
 | m::ms,x::xs=>(if m then rfA x else [])++rootsM ms xs
 | _,_=>[]
def nameIx:List BId→BId→Nat→Nat
 | [],_,j=>j
 | b::l,x,j=>if b=x then j else nameIx l x (j+1)
def inN(l:List BId)(b:BId):BId:=.bor (nameIx l b 0)
def inG(hp:Heap)(g:Nat):Nat:=genIx hp g 0
def outN(l:List BId)(d:Nat)(b:BId):BId:=
 match b with
 | .bor i=>l.getD i (.fld (.loc d) i)
 | .loc n=>.fld (.loc d) n
 | .fld b o=>.fld (.fld (.loc d) 0) (match b with | .loc n=>1000+1000*n+o | _=>o)
def outG(hp:Heap)(clk:Nat)(g:Nat):Nat:=
 match hp[g]? with
 | some p=>p.2.gen
 | none=>clk+(g-hp.length)
def callX(O:Orc)(T:Tbl)(u:Nat)(xs:List AV)(d:Option Nat)(st:St):Option St:=
 match T u with
 | none=>none
 | some af=>
  match af.lent with
  | none=>
   (xs.mapM (frz1 st.heap)).bind fun ys=>(O.call u (ys.map (wkIf af.exact)) []).bind fun r=>
    some ⟨putE st.env d r.1,if scalar r.1 then st.heap else shareIds (xs.flatMap refs) st.heap,st.clk⟩
  | some ms=>
   (frzM st.heap ms xs).bind fun ys=>
    let h1:=shareIds (refsM ms xs) st.heap
    let l:=reach h1 40 (rootsM ms xs) []
    let hp:=pickH h1 l
    if hp.map (·.1)=l∧l.Nodup then
     (O.call u (ys.map fun y=>rlA (inN l) (inG hp) (wkIf af.exact y)) (hp.map fun p=>(inN l p.1,rlBox af.exact (inN l) (inG hp) p.2))).bind fun r=>
      let hb':=r.2.map fun p=>(outN l (d.getD 0) p.1,rlBox true (outN l (d.getD 0)) (outG hp st.clk) p.2)
      let r':=rlA (outN l (d.getD 0)) (outG hp st.clk) r.1
      if (hb'.map (·.1)).Nodup&&refOk hb' r'&&heapOk hb' then
       some ⟨putE st.env d r',hb'++(h1.filter fun p=>!(l.contains p.1 || (hb'.map (·.1)).contains p.1)),st.clk+r.2.length+2⟩
      else none
    else none
def opX(O:Orc)(T:Tbl)(op:AOp)(d:Option Nat)(st:St):Option St:=
 match op with
 | .call u args=>callX O T u (args.map (ev st.env.get)) d st
 | .ifc k x=>some ⟨putE st.env d (.ifc (tyNum T k) (ev st.env.get x)),st.heap,st.clk⟩
 | .inv nm k u r args=>
  match ev st.env.get r with
  | .ifc t y=>if t=tyNum T k∧(nm,u)∈methsT T k then callX O T u (y::args.map (ev st.env.get)) d st else none
  | .fnv f x=>if nm="()"∧f=tyNum T k∧funT T k=some u then callX O T u (x::args.map (ev st.env.get)) d st else none
  | .fnp f id g z i o=>if nm="()"∧f=tyNum T k∧funT T k=some u then callX O T u (args.map (ev st.env.get)++[.ptr id g z i o]) d st else none
  | _=>none
 | .xop (.mkv k) xs=>(stepW (.xop (.mkv (tyNum T k)) xs) d st.env.get st.heap st.clk).map fun q=>⟨putE st.env d q.1,q.2.1,q.2.2⟩
 | .xop (.mkf k) xs=>(stepW (.xop (.mkf (tyNum T k)) xs) d st.env.get st.heap st.clk).map fun q=>⟨putE st.env d q.1,q.2.1,q.2.2⟩
 | .alloc .. | .store .. | .mks .. | .app .. | .xop .. => (stepW op d st.env.get st.heap st.clk).map fun q=>⟨putE st.env d q.1,q.2.1,q.2.2⟩
 | .bsl z zs len ps=>(bslAV z zs len st.heap (ps.map fun p=>(p.1,ev st.env.get p.2))).map fun q=>⟨putE st.env d q.1,q.2,st.clk⟩
 | op=>(stepQ op st.env.get st.heap).map fun x=>⟨putE st.env d x,st.heap,st.clk⟩
def gX(O:Orc)(T:Tbl)(x:AV)(want:Bool)(op:AOp)(d:Option Nat)(st:St):Option St:=
 match x with
 | .b v=>if v=want then opX O T op d st else some ⟨putE st.env d (.tup []),st.heap,st.clk⟩
 | .tup _=>some ⟨putE st.env d (.tup []),st.heap,st.clk⟩
 | _=>none
def stepX(O:Orc)(T:Tbl)(o:AO)(st:St):Option St:=
 match o.guard with
 | none=>opX O T o.op o.dst st
 | some (t,want)=>gX O T (st.env.get t) want o.op o.dst st
def runX(O:Orc)(T:Tbl):List AO→St→Option St
 | [],st=>some st
 | o::r,st=>(stepX O T o st).bind (runX O T r)
open Classical in
noncomputable def keepD(op:AOp)(e:Env)(older:List Heap)(x:AV):Bool:=op.free || decide (∀h'∈older,stepQ op e.get h'=some x)
theorem zq9{op:AOp}{e:Env}{older:List Heap}{x:AV}(h:keepD op e older x=true):op.free=true∨∀h'∈older,stepQ op e.get h'=some x:=by
 classical
 unfold keepD at h
 rw[Bool.or_eq_true]at h
 rcases h with h | h
 ·exact .inl h
 ·exact .inr (of_decide_eq_true h)
noncomputable def opD(O:Orc)(T:Tbl)(op:AOp)(e:Env)(h:Heap)(older:List Heap):Option AV:=
 match op with
 | .call u args=>
  match T u with
  | none=>none
  | some af=>if af.lent.isNone&&(args.map (ev e.get)).all noRef then (O.call u ((args.map (ev e.get)).map (wkIf af.exact)) []).map (·.1) else none
 | .ifc k x=>some (.ifc (tyNum T k) (ev e.get x))
 | .inv nm k u r args=>
  match ev e.get r with
  | .ifc t y=>
   if t=tyNum T k∧(nm,u)∈methsT T k then
    match T u with
    | none=>none
    | some af=>if af.lent.isNone&&(drp1 y::args.map (ev e.get)).all noRef then (O.call u ((drp1 y::args.map (ev e.get)).map (wkIf af.exact)) []).map (·.1) else none
   else none
  | _=>none
 | .bsl z zs len ps=>
  if (ps.map fun p=>(p.1,ev e.get p.2)).all (fun p=>noRef p.2) then (bslAV z zs len [] (ps.map fun p=>(p.1,ev e.get p.2))).map (·.1) else none
 | .app z (.c (.sl [] .nl)) y=>cpnAV z (ev e.get y)
 | op=>(stepQ op e.get h).bind fun x=>if keepD op e older x then some x else none
theorem zn8{O:Orc}{T:Tbl}{z:Nat}{x0 y:Opd}{e:Env}{h:Heap}{older:List Heap}(hc:x0≠.c (.sl [] .nl)):opD O T (.app z x0 y) e h older=none:=by
 cases x0 with
 | t n=>simp[opD,stepQ]
 | c a=>
  cases a
  case sl els f=>
   cases els with
   | nil=>cases f<;>first | exact absurd rfl hc | simp[opD,stepQ]
   | cons r l=>simp[opD,stepQ]
  all_goals simp[opD,stepQ]
noncomputable def qX(O:Orc)(T:Tbl)(o:AO)(e:Env)(h:Heap)(older:List Heap):Option (AV×Bool):=
 match o.guard with
 | none=>(opD O T o.op e h older).map fun x=>(x,true)
 | some (t,want)=>
  match e.get t with
  | .b v=>if v=want then (opD O T o.op e h older).map fun x=>(x,true) else some (.tup [],false)
  | .tup []=>some (.tup [],false)
  | _=>none
def AOp.callN:AOp→Option (Nat×List Opd)
 | .call u args=>some (u,args)
 | _=>none
theorem zra{op:AOp}{q:Nat×List Opd}(h:op.callN=some q):op=.call q.1 q.2:=by
 cases op<;>simp only[AOp.callN]at h<;>cases h
 rfl
open Classical in
noncomputable def rowQ1(xs:List AV)(h:Heap)(older:List Heap):Option (List AV):=
 if xs.all noRef=true then none else (frzRL h xs).bind fun ys=>if decide (∀h'∈older,frzRL h' xs=some ys)=true then some ys else none
noncomputable def rowQ(g:Option (Nat×Bool))(c:Option (Nat×List Opd))(e:Env)(h:Heap)(older:List Heap):Option (Nat×List AV):=
 match g,c with
 | none,some q=>(rowQ1 (q.2.map (ev e.get)) h older).map fun ys=>(q.1,ys)
 | _,_=>none
theorem zfk{g:Option (Nat×Bool)}{op:AOp}{e:Env}{h:Heap}{older:List Heap}{p:Nat×List AV}(hq:rowQ g op.callN e h older=some p) :
  g=none∧∃args,op=.call p.1 args∧frzRL h (args.map (ev e.get))=some p.2∧∀h'∈older,frzRL h' (args.map (ev e.get))=some p.2:=by
 classical
 unfold rowQ at hq
 split at hq
 ·rename_i q hc
  obtain⟨ys,h1,rfl⟩:=map_some hq
  refine⟨rfl,q.2,zra hc,?_⟩
  unfold rowQ1 at h1
  split at h1
  ·cases h1
  ·obtain⟨zs,h2,h3⟩:=bind_some h1
   split at h3
   ·rename_i hd
    cases h3
    exact⟨h2,of_decide_eq_true hd⟩
   ·cases h3
 ·cases hq
def callR(O:Orc)(T:Tbl)(u:Nat)(ys:List AV):Option AV:=
 match T u with
 | none=>none
 | some af=>if af.lent.isNone=true then (O.call u (ys.map (wkIf af.exact)) []).map (·.1) else none
def stepP(op:AOp)(ρ:Nat→AV)(h:Heap):Option AV:=
 match op with
 | .call _ args=>(frzRL h (args.map (ev ρ))).map .tup
 | op=>stepQ op ρ h
abbrev PendX:=List (Nat×AOp×Env×AV)
open Classical in
noncomputable def pendOk(pend:PendX)(h:Heap):Bool:=decide (∀p∈pend,0<p.1→stepP p.2.1 p.2.2.1.get h=some p.2.2.2)
def pendAdd(o:DO)(n:Nat)(e:Env)(r:AV×Bool)(pend:PendX):PendX:=
 if r.2&&!o.ao.op.free&&decide (n<o.hi) then (o.hi-n,o.ao.op,e,r.1)::pend else pend
noncomputable def drawX(O:Orc)(T:Tbl):List DO→Env→Heap→Nat→List Heap→PendX→Option St
 | [],e,h,clk,_,_=>some ⟨e,h,clk⟩
 | o::r,e,h,clk,older,pend=>
  match o.ao.op.writes with
  | true=>if o.ao.guard.isNone then (stepW o.ao.op o.ao.dst e.get h clk).bind fun q=>if pendOk pend q.2.1 then drawX O T r (putE e o.ao.dst q.1) q.2.1 q.2.2 (h::older) (pend.map fun p=>(p.1-1,p.2)) else none else none
  | false=>
   match rowQ o.ao.guard o.ao.op.callN e h (older.take (older.length-o.lo)) with
   | none=>(qX O T o.ao e h (older.take (older.length-o.lo))).bind fun x=>drawX O T r (putE e o.ao.dst x.1) h clk older (pendAdd o older.length e x pend)
   | some p=>(callR O T p.1 p.2).bind fun x=>drawX O T r (putE e o.ao.dst x) h clk older (if older.length<o.hi then (o.hi-older.length,o.ao.op,e,.tup p.2)::pend else pend)
noncomputable def headX(O:Orc)(T:Tbl)(tl:List AO):List AO→Env→Heap→Nat→Option St
 | [],e,h,clk=>runX O T tl ⟨e,h,clk⟩
 | o::r,e,h,clk=>(qX O T o e h []).bind fun x=>headX O T tl r (putE e o.dst x.1) h clk
noncomputable def headR(O:Orc)(T:Tbl)(tl:List AO):List AO→Env→Heap→Nat→Option St
 | [],e,h,clk=>runX O T tl ⟨e,h,clk⟩
 | o::r,e,h,clk=>
  match rowQ o.guard o.op.callN e h []with
  | none=>(qX O T o e h []).bind fun x=>headR O T tl r (putE e o.dst x.1) h clk
  | some p=>(callR O T p.1 p.2).bind fun x=>headR O T tl r (putE e o.dst x) h clk
def contB(c0:Nat)(op:AOp)(e:Env)(l:List Nat):Bool:=l.all fun g=>decide (g<c0) || (slotsM op).any fun t=>(gnA (e.get t)).contains g
def boxB(c0:Nat)(op:AOp)(e:Env)(hp:Heap):Bool:=hp.all fun p=>if p.2.kind=.str then p.2.els.all fun r=>r.all fun x=>contB c0 op e (gnA x) else true
def AOp.lentN:AOp→Option (Nat×List Opd)
 | .call u args=>if 2000≤u∧u<3000 then some (u,args) else none
 | _=>none
def geB(clk:Nat)(l:List Nat):Bool:=l.all fun g=>decide (clk≤g)
def geH(clk:Nat)(hp:Heap):Bool:=hp.all fun p=>if p.2.kind=.str then p.2.els.all fun r=>r.all fun x=>geB clk (gnA x) else true
def callM(O:Orc)(T:Tbl)(u:Nat)(xs:List AV)(d clk:Nat):Option (AV×Heap×Nat):=
 match T u with
 | none=>none
 | some af=>
  match af.lent with
  | none=>none
  | some _=>
   if xs.all noRef=true then
    (O.call u (xs.map fun y=>rlA (inN []) (inG []) (wkIf af.exact y)) []).bind fun r=>
     let hb':=r.2.map fun p=>(outN [] d p.1,rlBox true (outN [] d) (outG [] clk) p.2)
     let r':=rlA (outN [] d) (outG [] clk) r.1
     if (hb'.map (·.1)).Nodup∧geB clk (gnA r')=true∧geH clk hb'=true then some (r',hb',clk+(r.2.length+2)) else none
   else none
def freshS(h0:Heap)(op:AOp)(e:Env):Bool:=
 match op with
 | .store _ x _=>match ev e.get x with | .ptr id _ _ _ _=>(h0.lookup id).isNone | _=>false
 | _=>false
def idOf:AV→List BId
 | .bs id .. => [id]
 | _=>[]
def consD:List AO→Env→List BId
 | [],_=>[]
 | o::r,e=>
  match o.op with
  | .mov x=>consD r (putE e o.dst (ev e.get x))
  | .app _ x _=>idOf (ev e.get x)++consD r (putE e o.dst .dead)
  | _=>consD r (putE e o.dst .dead)
def dropIds(ids:List BId)(h:Heap):Heap:=match ids with | []=>h | _=>h.filter fun p=>!ids.contains p.1
def ownL(c0:Nat)(z x:Option Box)(b:BId)(o:Option Box):Option (BId×Box):=
 match z,x,o with
 | none,some _,some o=>if o.gen<c0 then some (b,o) else none
 | _,_,_=>none
def ownA(c0:Nat)(h0 X h:Heap):AV→Option (BId×Box)
 | .bs b _ _ _ _=>ownL c0 (h0.lookup b) (X.lookup b) b (h.lookup b)
 | _=>none
def ownO(c0:Nat)(h0 X h:Heap)(op:AOp)(e:Env):Option (BId×Box):=
 match op with
 | .app _ x _=>ownA c0 h0 X h (ev e.get x)
 | _=>none
noncomputable def headM(O:Orc)(T:Tbl)(tl:List AO)(h0:Heap)(c0:Nat)(X:Heap):List AO→Env→Heap→Nat→Option St
 | [],e,h,clk=>runX O T tl ⟨e,h,clk⟩
 | o::r,e,h,clk=>
  match o.op.maker with
  | true=>
   match o.guard,o.dst with
   | none,some d=>
    match ownO c0 h0 X h o.op e with
    | none=>(stepW o.op (some d) e.get [] clk).bind fun q=>if (h.lookup (.loc d)).isNone&&boxB c0 o.op e q.2.1 then headM O T tl h0 c0 X r (putE e (some d) q.1) (q.2.1++h) q.2.2 else none
    | some p=>(stepW o.op (some d) e.get [p] clk).bind fun q=>if boxB c0 o.op e (q.2.1.take 1) then headM O T tl h0 c0 X r (putE e (some d) q.1) (q.2.1.take 1++h) q.2.2 else none
   | _,_=>none
  | false=>
   match o.op.isStore with
   | true=>
    match o.guard,o.dst with
    | none,none=>(stepW o.op none e.get h clk).bind fun q=>if freshS X o.op e=true then headM O T tl h0 c0 X r e q.2.1 q.2.2 else none
    | _,_=>none
   | false=>
    match o.op.lentN with
    | some ua=>
     match o.guard,o.dst with
     | none,some d=>(callM O T ua.1 (ua.2.map (ev e.get)) d clk).bind fun q=>if q.2.1.all (fun p=>(h.lookup p.1).isNone)=true then headM O T tl h0 c0 X r (putE e (some d) q.1) (q.2.1++h) q.2.2 else none
     | _,_=>none
    | none=>(qX O T o e h0 []).bind fun x=>if contB c0 o.op e (gnA x.1) then headM O T tl h0 c0 X r (putE e o.dst x.1) h clk else none
noncomputable def preC(O:Orc)(T:Tbl)(K:Env→PendX→Option St)(h:Heap):List DO→Env→PendX→Option St
 | [],e,pend=>K e pend
 | o::r,e,pend=>
  match o.ao.op.writes with
  | true=>none
  | false=>(qX O T o.ao e h []).bind fun x=>preC O T K h r (putE e o.ao.dst x.1) (pendAdd o 0 e x pend)
noncomputable def postC(O:Orc)(T:Tbl)(K:Env→Option St)(h0 h1:Heap):List AO→Env→Option St
 | [],e=>K e
 | o::r,e=>
  match o.op.writes with
  | true=>none
  | false=>(qX O T o e h1 [h0]).bind fun x=>postC O T K h0 h1 r (putE e o.dst x.1)
def callC(O:Orc)(T:Tbl)(o:AO)(st:St):Option St:=
 match o.guard,o.dst,o.op with
 | none,some d,.call u args=>callX O T u (args.map (ev st.env.get)) (some d) st
 | _,_,_=>none
noncomputable def headC(O:Orc)(T:Tbl)(l1:List AO)(o:AO)(l2 tl:List AO)(st:St):Option St:=
 preC O T (fun e pend=>(callC O T o ⟨e,st.heap,st.clk⟩).bind fun s=>if pendOk pend s.heap then postC O T (fun e2=>runX O T tl ⟨e2,s.heap,s.clk⟩) st.heap s.heap l2 s.env else none) st.heap (l1.map fun o=>⟨o,0,1⟩) st.env []
noncomputable def headN(O:Orc)(T:Tbl)(l1:List DO)(o:AO)(l2:List DO)(st:St):Option St:=
 if o.op.writes=true then none else preC O T (fun e pend=>(callC O T o ⟨e,st.heap,st.clk⟩).bind fun s=>if pendOk pend s.heap then drawX O T (l2.map (adjD 0)) s.env s.heap s.clk [st.heap] (pend.map fun p=>(p.1-1,p.2)) else none) st.heap (l1.map (adjD 0)) st.env []
noncomputable def postP(O:Orc)(T:Tbl)(K:Env→Option St)(hs:List Heap)(h1:Heap):List AO→Env→Option St
 | [],e=>K e
 | o::r,e=>
  match o.op.writes with
  | true=>none
  | false=>(qX O T o e h1 hs).bind fun x=>postP O T K hs h1 r (putE e o.dst x.1)
open Classical in
noncomputable def subB(h h':Heap):Bool:=decide (∀p∈h',h.lookup p.1=some p.2)
open Classical in
noncomputable def sameC(c0:Nat)(s1 s2:St):Bool:=decide (s2.env=s1.env∧c0≤s1.clk∧s1.clk+1≤s2.clk)
def lowD(l:List DO):Bool:=l.all fun d=>decide (d.hi≤1)
noncomputable def headP(O:Orc)(T:Tbl)(l1:List DO)(o:AO)(l2:List DO)(da:Nat)(cs:List AV)(n:Nat)(xs vs:Opd)(st:St):Option St:=
 if (lowD l1&&lowD l2&&!o.op.writes)=true then
  preC O T (fun e pend=>(callC O T o ⟨e,st.heap,st.clk⟩).bind fun s1=>
   (callC O T o ⟨e,(.loc da,⟨s1.clk,.str,cs.length,[cs]⟩)::st.heap,s1.clk+1⟩).bind fun s2=>
    if (pendOk pend s1.heap&&pendOk pend ((.loc da,⟨s1.clk,.str,cs.length,[cs]⟩)::st.heap)&&pendOk pend s2.heap&&(sameC st.clk s1 s2&&subB ((.loc da,⟨s1.clk,.str,cs.length,[cs]⟩)::s1.heap) s2.heap))=true then
     postP O T (fun e2=>(storeAV n s2.heap (ev (putE e2 (some da) (.ptr (.loc da) s1.clk cs.length 0 0)).get xs) (ev (putE e2 (some da) (.ptr (.loc da) s1.clk cs.length 0 0)).get vs)).map fun h2=>⟨putE e2 (some da) (.ptr (.loc da) s1.clk cs.length 0 0),h2,s2.clk⟩)
      [st.heap,s1.heap,(.loc da,⟨s1.clk,.str,cs.length,[cs]⟩)::st.heap] s2.heap (l2.map (·.ao)) s1.env
    else none) st.heap (l1.map fun o=>⟨o.ao,0,1⟩) st.env []
 else none
def gscX(f:St→Option (Ex×St))(l:Nat):Nat→Option (Ex×St)→Option (Ex×St)
 | 0,_=>none
 | n+1,o=>o.bind fun x=>match x.1 with | .g j=>if j=l then gscX f l n (f x.2) else none | _=>some x
noncomputable def evX(O:Orc)(T:Tbl)(k:Nat):AX→St→Option (Ex×St)
 | .skip,st=>some (.n,st)
 | .reg l,st=>(runX O T l st).map fun s=>(.n,s)
 | .draw l,st=>(drawX O T l st.env st.heap st.clk [] []).map fun s=>(.n,s)
 | .drawT hd tl,st=>(headX O T tl hd st.env st.heap st.clk).map fun s=>(.n,s)
 | .drawM hd tl,st=>(headM O T tl (dropIds (consD hd st.env) st.heap) st.clk st.heap hd st.env st.heap st.clk).map fun s=>(.n,s)
 | .drawC l1 o l2 tl,st=>(headC O T l1 o l2 tl st).map fun s=>(.n,s)
 | .drawN l1 o l2,st=>(headN O T l1 o l2 st).map fun s=>(.n,s)
 | .drawR hd tl,st=>(headR O T tl hd st.env st.heap st.clk).map fun s=>(.n,s)
 | .drawP l1 o l2 da cs n xs vs,st=>(headP O T l1 o l2 da cs n xs vs st).map fun s=>(.n,s)
 | .bad,_=>none
 | .prim _,_=>none
 | .seq a b,st=>(evX O T k a st).bind fun r=>match r.1 with | .n=>evX O T k b r.2 | _=>some r
 | .cond c x y,st=>match ev st.env.get c with | .b t=>if t then evX O T k x st else evX O T k y st | _=>none
 | .block id c,st=>(evX O T k c st).bind fun r=>match r.1 with | .x j=>if j=id then some (.n,r.2) else some r | _=>some r
 | .loop c,st=>O.loop k c st
 | .exit id,st=>some (.x id,st)
 | .ret,st=>some (.r,st)
 | .note c g,st=>(evX O T k c st).bind fun r=>match r.1 with | .n=>(ghS k g r.2).map fun s=>(.n,s) | _=>some r
 | .pre g c,st=>(ghS k g st).bind fun s=>evX O T k c s
 | .scope c,st=>(evX O T k c st).bind fun r=>match r.1 with | .g _=>none | _=>some r
 | .lp id g c g2,st=>(ghS k g st).bind fun s=>(O.loop k c s).bind fun r=>match r.1 with | .n=>(ghS k g2 r.2).map fun s=>(.n,s) | .x j=>if j=id then (ghS k g2 r.2).map fun s=>(.n,s) else some r | _=>some r
 | .label _,st=>some (.n,st)
 | .goto l,st=>some (.g l,st)
 | .gsc l c r,st=>gscX (fun s=>evX O T k r s) l 100 (evX O T k c st)
def endX(af:AFx)(k:Nat)(r:Ex×St):Option (AV×Heap):=
 match r.1 with
 | .x _=>none
 | .g _=>none
 | _=>
  (resAV r.2 af.res).bind fun x=>
  match af.lent with
  | none=>(frz r.2.heap x).map fun y=>(wkIf af.exact y,[])
  | some _=>let s:=normS af.exact k [0] ⟨[(0,x)],r.2.heap,r.2.clk⟩;some (s.env.get 0,s.heap)
noncomputable def nextO(T:Tbl)(O:Orc):Orc where
 call u xs hb:=
  match T u with
  | none=>none
  | some af=>
   match af.body.isPrim with
   | some f=>if hb=[]∧af.lent=none then (f xs).map fun x=>(x,[]) else none
   | none=>if xs.length=af.np∧(af.lent=none→hb=[]) then (evX O T hb.length af.body ⟨argEnv xs,hb,hb.length+1⟩).bind (endX af hb.length) else none
 loop k c st:=(evX O T k c st).bind fun r=>match r.1 with | .n=>O.loop k c r.2 | _=>some r
noncomputable def orcN(T:Tbl):Nat→Orc
 | 0=>⟨fun _ _ _=>none,fun _ _ _=>none⟩
 | n+1=>nextO T (orcN T n)
end
section
open Go.RowKit
theorem zhy(l:List AV)(j:Nat):(wkR l)[j]? = (l[j]?).map wkA:=by
 induction l generalizing j with
 | nil=>simp[wkR]
 | cons c l ih=>cases j<;>simp[wkR,ih]
theorem zhz(l:List AV):(wkR l).length=l.length:=by
 induction l with
 | nil=>rfl
 | cons c l ih=>simp[wkR,ih]
theorem zh0(l:List AV):wkR l=l.map wkA:=by
 induction l with
 | nil=>rfl
 | cons c l ih=>simp[wkR,ih]
theorem zbs(l:List (List AV)):wkL l=l.map wkR:=by
 induction l with
 | nil=>rfl
 | cons c l ih=>simp[wkL,ih]
theorem zt5(l:List (List AV))(j:Nat):(wkL l)[j]? = (l[j]?).map wkR:=by rw[zbs];simp
theorem zkn(l:List (List AV)):(wkL l).length=l.length:=by rw[zbs];simp
section
variable{w:World}{S:Nat→Nat→Prop}{M M':Map}{clk clk':Nat}
theorem CP.wk{v:Value}{x:AV}(h:CP w S v x):CP w S v (wkA x):=by
 induction h with
 | i k n=>exact .i k n
 | b x=>exact .b x
 | s l=>exact .s l
 | raw v=>exact .raw v
 | dead v=>exact .dead v
 | agg vs cs hl h1 _ ih=>
  refine .agg vs _ (by rw[zhz];omega) h1 fun j v c hv hc=>?_
  grind[zhy]
 | tup vs cs hl _ ih=>
  refine .tup vs _ (by rw[zhz];omega) fun j v c hv hc=>?_
  grind[zhy]
 | slnil f hf=>exact .slnil _ (.inr rfl)
 | slz a f hf=>exact .slz a _ (.inr rfl)
 | sl blk off z cap els f u hf hfull hcap hmax hz hSc _ ih=>
  rw[←zkn els]
  refine .sl blk off z cap _ _ u (by grind) (by grind) (by rw[zkn];omega) hmax (fun i r hr=>?_) (fun i j hi hj=>hSc i j (by rw[zkn]at hi;omega) hj) fun i r j c hr hc=>?_
  ·grind[zt5,zhz]
  grind[zt5,zhy]
 | ep blk off cs o u hSc _ ih=>exact .ep blk off cs o u hSc ‹_›
 | fnv f v x _ ih=>exact .fnv f v _ ih
theorem C.wk{v:Value}{x:AV}(h:C w S M clk v x):C w S M clk v (wkA x):=by
 induction h with
 | p h=>exact .p h.wk
 | bs id g z off n v hg h h1=>exact .bs id g z off n v hg h h1
 | ptr id g z i o v hg h h1=>exact .ptr id g z i o v hg h h1
 | agg vs cs hl h1 _ ih=>
  refine .agg vs _ (by rw[zhz];omega) h1 fun j v c hv hc=>?_
  grind[zhy]
 | tup vs cs hl _ ih=>
  refine .tup vs _ (by rw[zhz];omega) fun j v c hv hc=>?_
  grind[zhy]
 | ifc t v x h _=>exact .ifc t v x h
 | fnp f id g z i o v hg h h1=>exact .fnp f id g z i o v hg h h1
theorem CP.wkIf{v:Value}{x:AV}(ex:Bool)(h:CP w S v x):CP w S v (wkIf ex x):=by
 unfold Go.Ab.wkIf;split
 ·exact h
 ·exact h.wk
theorem C.wkIf{v:Value}{x:AV}(ex:Bool)(h:C w S M clk v x):C w S M clk v (wkIf ex x):=by
 unfold Go.Ab.wkIf;split
 ·exact h
 ·exact h.wk
structure Rlb (M M':Map) (clk clk':Nat) (σ:Nat→Nat):Prop where
 fwd:∀g,g<clk→(M' (σ g)=M g∨M' (σ g)=none)∧σ g<clk'
theorem C.rlC{v:Value}{x:AV}{σn:BId→BId}{σg:Nat→Nat}(hr:Rlb M M' clk clk' σg)(h:C w S M clk v x):C w S M' clk' v (rlC σn σg x):=by
 cases h with
 | p h=>
  cases h with
  | i k n=>exact .p (.i k n)
  | b x=>exact .p (.b x)
  | s l=>exact .p (.s l)
  | raw v=>exact .p (.raw v)
  | dead v=>exact .p (.dead v)
  | agg=>exact .p (.dead _)
  | tup=>exact .p (.dead _)
  | slnil f hf=>exact .p (.slnil f hf)
  | slz a f hf=>exact .p (.slz a f hf)
  | sl blk off z cap els f u h1 h2 h3 h4 h5 h6 h7=>exact .p (.sl blk off z cap els f u h1 h2 h3 h4 h5 h6 h7)
  | ep blk off cs o u h1 h2=>exact .p (.ep blk off cs o u h1 h2)
  | fnv f v x h=>exact .p (.fnv f v x h)
 | bs id g z off n v hg h h1=>
  obtain⟨h2,h3⟩:=hr.fwd g hg
  refine .bs _ _ _ _ _ _ h3 ?_ h1
  rcases h2 with h2 | h2<;>rw[h2]
  ·exact h
  ·trivial
 | ptr id g z i o v hg h h1=>
  obtain⟨h2,h3⟩:=hr.fwd g hg
  refine .ptr _ _ _ _ _ _ h3 ?_ h1
  rcases h2 with h2 | h2<;>rw[h2]
  ·exact h
  ·trivial
 | fnp f id g z i o v hg h h1=>
  obtain⟨h2,h3⟩:=hr.fwd g hg
  refine .fnp _ _ _ _ _ _ _ h3 ?_ h1
  rcases h2 with h2 | h2<;>rw[h2]
  ·exact h
  ·trivial
 | agg vs cs=>exact .p (.dead _)
 | tup vs cs=>exact .p (.dead _)
 | ifc t v x=>exact .p (.dead _)
theorem getElem?_mapped{α β:Type}{l:List α}{f:α→β}{j:Nat}{y:β}(h:(l.map f)[j]? = some y):∃x,l[j]? = some x∧y=f x:=by
 grind
theorem C.rl1{v:Value}{x:AV}{σn:BId→BId}{σg:Nat→Nat}(hr:Rlb M M' clk clk' σg)(h:C w S M clk v x):C w S M' clk' v (rl1 σn σg x):=by
 cases x
 case agg cs=>
  obtain⟨vs,rfl,hl,h1,hc⟩:=h.inv_agg
  refine .agg vs _ (by grind) h1 fun j v c hv hcj=>?_
  grind[rlC]
 all_goals exact h.rlC (σn:=σn) hr
theorem C.rlA{v:Value}{x:AV}{σn:BId→BId}{σg:Nat→Nat}(hr:Rlb M M' clk clk' σg)(h:C w S M clk v x):C w S M' clk' v (rlA σn σg x):=by
 cases x
 case tup cs=>
  obtain⟨vs,rfl,hl,hc⟩:=h.inv_tup
  refine .tup vs _ (by grind) fun j v c hv hcj=>?_
  grind[rl1]
 all_goals exact h.rl1 (σn:=σn) hr
theorem BoxOk.rl{bx:Box}{ex:Bool}{σn:BId→BId}{σg:Nat→Nat}(hr:Rlb M M' clk clk' σg)(hM:M' (σg bx.gen)=M bx.gen)(h:BoxOk w S M clk bx):BoxOk w S M' clk' (rlBox ex σn σg bx):=by
 obtain⟨h1,h2,m,hm,h3⟩:=h
 -- each row of the new box
 have row:∀(i:Nat) (r:List AV),(rlBox ex σn σg bx).els[i]? = some r→∃r0,bx.els[i]? = some r0∧r.length=r0.length∧∀(j:Nat) c,r[j]? = some c→∃c0,r0[j]? = some c0 ∧
   ((bx.kind=.str∧c=Go.Ab.rlC σn σg (wkIf ex c0))∨(bx.kind≠.str∧c=wkIf ex c0)):=by
  grind[rlBox,getElem?_mapped,wkIf,zbs,zh0]
 have hlen:(rlBox ex σn σg bx).els.length=bx.els.length:=by
  grind[rlBox,zkn]
 refine⟨(hr.fwd _ h1).2,fun r hrm=>?_,m,by rw[←hm];exact hM,?_⟩
 ·obtain⟨i,hi⟩:=List.getElem?_of_mem hrm
  obtain⟨r0,h4,h5,_⟩:=row i r hi
  rw[h5]
  exact h2 r0 (List.mem_of_getElem? h4)
 ·cases m with
  | none=>
   grind[rlBox]
  | some k=>
   have hkk:(rlBox ex σn σg bx).kind=bx.kind:=rfl
   by_cases hmp:bx.kind=.mp
   ·obtain⟨es,c,h4,h5,h7⟩:=ckP' hmp h3
    refine ckP (hkk.trans hmp) ⟨es,c,h4,?_,h7⟩
    have hels:(rlBox ex σn σg bx).els=if ex then bx.els else wkL bx.els:=by simp[rlBox,hmp]
    rw[hels]
    cases ex with
    | true=>simpa using h5
    | false=>
     have h8:=Ents.map (f:=wkA) (fun v x hv=>CP.wk hv) h5
     simp only[Bool.false_eq_true,if_false,zbs]
     rwa [show wkR=fun r:List AV=>r.map wkA from funext zh0]
   obtain⟨arr,e,h4,h5,h6,h7,h8⟩:=ck' hmp h3
   refine ck (by rw[hkk];exact hmp) ⟨arr,e,h4,by rw[hlen];exact h5,fun i r j c hi hj=>?_,h7,by rw[hlen];exact h8⟩
   obtain⟨r0,h9,h10,h11⟩:=row i r hi
   obtain⟨c0,h12,h13⟩:=h11 j c hj
   obtain⟨u,hu,ho,hC,hP⟩:=h6 i r0 j c0 h9 h12
   refine⟨u,hu,ho,?_,fun hk=>?_⟩
   ·rcases h13 with ⟨hk,rfl⟩ | ⟨hk,rfl⟩
    ·exact(hC.wkIf ex).rlC hr
    ·exact .p ((hP hk).wkIf ex)
   ·rcases h13 with ⟨hk',rfl⟩ | ⟨hk',rfl⟩
    ·exact absurd hk' hk
    ·exact(hP hk).wkIf ex
theorem HeapRel.rl{h h2:Heap}{ex:Bool}{σn:BId→BId}{σg:Nat→Nat}{D:Nat→Prop}(hr:Rlb M M' clk clk' σg)(hh:HeapRel w S M clk h)
  (h1:∀b' bx',h2.lookup b'=some bx'→∃b bx,h.lookup b=some bx∧bx'=rlBox ex σn σg bx∧M' (σg bx.gen)=M bx.gen∧b'=σn b∧D bx.gen)
  (h3:∀g' m,M' g'=some m→∃b' bx',h2.lookup b'=some bx'∧bx'.gen=g')
  (h4:∀g1 g2,D g1→D g2→σg g1=σg g2→g1=g2)
  (h5:∀g' m,M' g'=some m→∃g,M g=some m∧σg g=g'):HeapRel w S M' clk' h2:=by
 refine⟨fun b' bx' hb=>?_,h3,fun b1 x1 b2 x2 hb1 hb2 hg=>?_,fun g g' k hg hg'=>?_⟩
 ·obtain⟨b,bx,h6,rfl,h7,_⟩:=h1 b' bx' hb
  exact(hh.box b bx h6).rl hr h7
 ·obtain⟨c1,y1,h6,rfl,_,rfl,d1⟩:=h1 b1 x1 hb1
  obtain⟨c2,y2,h8,rfl,_,rfl,d2⟩:=h1 b2 x2 hb2
  rw[hh.gens _ _ _ _ h6 h8 (h4 _ _ d1 d2 hg)]
 ·obtain⟨g1,h6,rfl⟩:=h5 _ _ hg
  obtain⟨g2,h7,rfl⟩:=h5 _ _ hg'
  rw[hh.inj _ _ _ h6 h7]
theorem WRel.rl{cx:Cx}{h h2:Heap}{ex:Bool}{σn:BId→BId}{σg:Nat→Nat}{D:Nat→Prop}(hr:Rlb M M' clk clk' σg)(hw:WRel cx S M clk h w)(hc:cx.clk0≤clk')
  (h0:∀g m,g<cx.clk0→M' g=some m→M g=some m)
  (h1:∀b' bx',h2.lookup b'=some bx'→∃b bx,h.lookup b=some bx∧bx'=rlBox ex σn σg bx∧M' (σg bx.gen)=M bx.gen∧b'=σn b∧D bx.gen)
  (h3:∀g' m,M' g'=some m→∃b' bx',h2.lookup b'=some bx'∧bx'.gen=g')
  (h4:∀g1 g2,D g1→D g2→σg g1=σg g2→g1=g2)
  (h5:∀g' m,M' g'=some m→∃g,M g=some m∧σg g=g'):WRel cx S M' clk' h2 w:=
 ⟨hw.heap.rl hr h1 h3 h4 h5,⟨hw.ext.hS,hw.ext.hcell,hc,fun g m hg hm=>hw.ext.hM g m hg (h0 g m hg hm),fun g k arr e hg hm hb=>hw.ext.hblk g k arr e hg (h0 g _ hg hm) hb⟩,hw.fr,hw.Snew,hw.Slt,
  fun g k hm=>let ⟨g1,h6,_⟩:=h5 g _ hm;hw.Mnew g1 k h6⟩
end
end
section
open Go.RowKit
section
variable{α β:Type}{P:Program}{K:St→Prop}
@[simp] theorem z94(t d:Nat)(x:AV)(e:Env):Env.get ((d,x)::e) t=if t=d then x else e.get t:=by
 simp only[Env.get,List.lookup_cons]
 by_cases h:t=d
 ·subst h;simp
 ·have:(t == d)=false:=by simpa using h
  simp[this,h]
@[simp] theorem zadf(t:Nat):Env.get [] t=.dead:=rfl
@[simp] theorem z95{st:St}:runK P [] st K↔K st:=Iff.rfl
@[simp] theorem z6c{o:AO}{l:List AO}{st:St}:runK P (o::l) st K↔stepK P o st fun st'=>runK P l st' K:=Iff.rfl
@[simp] theorem z4i{d:Option Nat}{op:AOp}{st:St}:stepK P ⟨d,none,op⟩ st K↔opK P op d st K:=Iff.rfl
@[simp] theorem z6d(e:Env)(x:AV):putE e none x=e:=rfl
@[simp] theorem z6e(e:Env)(d:Nat)(x:AV):putE e (some d) x=(d,x)::e:=rfl
@[simp] theorem ev_t(e:Nat→AV)(n:Nat):ev e (.t n)=e n:=rfl
@[simp] theorem ev_c(e:Nat→AV)(x:AV):ev e (.c x)=x:=rfl
@[simp] theorem z0h{N:St→Prop}{Q:Exit→St→Prop}{st:St}:thenK N Q .normal st↔N st:=Iff.rfl
@[simp] theorem z4j{N:St→Prop}{Q:Exit→St→Prop}{st:St}{id:Nat}:thenK N Q (.exit id) st↔Q (.exit id) st:=Iff.rfl
@[simp] theorem z6f{N:St→Prop}{Q:Exit→St→Prop}{st:St}:thenK N Q .ret st↔Q .ret st:=Iff.rfl
@[simp] theorem zxk{id:Nat}{Q:Exit→St→Prop}{st:St}:blockK id Q .normal st↔Q .normal st:=Iff.rfl
@[simp] theorem z4k{id:Nat}{Q:Exit→St→Prop}{st:St}:blockK id Q .ret st↔Q .ret st:=Iff.rfl
@[simp] theorem z1o{id id':Nat}{Q:Exit→St→Prop}{st:St}:blockK id Q (.exit id') st↔if id'=id then Q .normal st else Q (.exit id') st:=Iff.rfl
def gK(P:Program)(x:AV)(want:Bool)(op:AOp)(d:Option Nat)(st:St)(K:St→Prop):Prop:=
 match x with
 | .b v=>if v=want then opK P op d st K else K ⟨putE st.env d (.tup []),st.heap,st.clk⟩
 | .tup _=>K ⟨putE st.env d (.tup []),st.heap,st.clk⟩
 | _=>False
@[simp] theorem z4l{d:Option Nat}{op:AOp}{t:Nat}{want:Bool}{st:St}:stepK P ⟨d,some (t,want),op⟩ st K↔gK P (st.env.get t) want op d st K:=by
 rfl
@[simp] theorem gK_b{v want:Bool}{op:AOp}{d:Option Nat}{st:St}:gK P (.b v) want op d st K↔if v=want then opK P op d st K else K ⟨putE st.env d (.tup []),st.heap,st.clk⟩:=Iff.rfl
@[simp] theorem zaik{vs:List AV}{want:Bool}{op:AOp}{d:Option Nat}{st:St}:gK P (.tup vs) want op d st K↔K ⟨putE st.env d (.tup []),st.heap,st.clk⟩:=Iff.rfl
@[simp] theorem zadg{z n:Nat}{zs:List AV}{ps:List (Nat×Opd)}{d:Option Nat}{st:St}:opK P (.bsl z zs n ps) d st K↔okK (bslAV z zs n st.heap (ps.map fun p=>(p.1,ev st.env.get p.2))) fun q=>K ⟨putE st.env d q.1,q.2,st.clk⟩:=Iff.rfl
@[simp] theorem zadh{x}{d:Option Nat}{st:St}:opK P (.mov x) d st K↔okK (stepQ (.mov x) st.env.get st.heap) fun x=>K ⟨putE st.env d x,st.heap,st.clk⟩:=Iff.rfl
@[simp] theorem z96{c a b}{d:Option Nat}{st:St}:opK P (.pick c a b) d st K↔okK (stepQ (.pick c a b) st.env.get st.heap) fun x=>K ⟨putE st.env d x,st.heap,st.clk⟩:=Iff.rfl
@[simp] theorem z6g{zs ps}{d:Option Nat}{st:St}:opK P (.build zs ps) d st K↔okK (stepQ (.build zs ps) st.env.get st.heap) fun x=>K ⟨putE st.env d x,st.heap,st.clk⟩:=Iff.rfl
@[simp] theorem z97{n x}{d:Option Nat}{st:St}:opK P (.load n x) d st K↔okK (stepQ (.load n x) st.env.get st.heap) fun x=>K ⟨putE st.env d x,st.heap,st.clk⟩:=Iff.rfl
@[simp] theorem zadi{o x y}{d:Option Nat}{st:St}:opK P (.bin o x y) d st K↔okK (stepQ (.bin o x y) st.env.get st.heap) fun x=>K ⟨putE st.env d x,st.heap,st.clk⟩:=Iff.rfl
@[simp] theorem zadj{g ls x y}{d:Option Nat}{st:St}:opK P (.eqs g ls x y) d st K↔okK (stepQ (.eqs g ls x y) st.env.get st.heap) fun x=>K ⟨putE st.env d x,st.heap,st.clk⟩:=Iff.rfl
@[simp] theorem z6h{g x}{d:Option Nat}{st:St}:opK P (.eqnil g x) d st K↔okK (stepQ (.eqnil g x) st.env.get st.heap) fun x=>K ⟨putE st.env d x,st.heap,st.clk⟩:=Iff.rfl
@[simp] theorem zadk{g x y}{d:Option Nat}{st:St}:opK P (.eqb g x y) d st K↔okK (stepQ (.eqb g x y) st.env.get st.heap) fun x=>K ⟨putE st.env d x,st.heap,st.clk⟩:=Iff.rfl
@[simp] theorem zail{o x}{d:Option Nat}{st:St}:opK P (.un o x) d st K↔okK (stepQ (.un o x) st.env.get st.heap) fun x=>K ⟨putE st.env d x,st.heap,st.clk⟩:=Iff.rfl
@[simp] theorem z98{k x}{d:Option Nat}{st:St}:opK P (.conv k x) d st K↔okK (stepQ (.conv k x) st.env.get st.heap) fun x=>K ⟨putE st.env d x,st.heap,st.clk⟩:=Iff.rfl
@[simp] theorem zadl{z x lo hi mx}{d:Option Nat}{st:St}:opK P (.slc z x lo hi mx) d st K↔okK (stepQ (.slc z x lo hi mx) st.env.get st.heap) fun x=>K ⟨putE st.env d x,st.heap,st.clk⟩:=Iff.rfl
@[simp] theorem z6i{x lo hi}{d:Option Nat}{st:St}:opK P (.slstr x lo hi) d st K↔okK (stepQ (.slstr x lo hi) st.env.get st.heap) fun x=>K ⟨putE st.env d x,st.heap,st.clk⟩:=Iff.rfl
@[simp] theorem zadm{n x}{d:Option Nat}{st:St}:opK P (.fad n x) d st K↔okK (stepQ (.fad n x) st.env.get st.heap) fun x=>K ⟨putE st.env d x,st.heap,st.clk⟩:=Iff.rfl
@[simp] theorem zadn{o n x}{d:Option Nat}{st:St}:opK P (.fld o n x) d st K↔okK (stepQ (.fld o n x) st.env.get st.heap) fun x=>K ⟨putE st.env d x,st.heap,st.clk⟩:=Iff.rfl
@[simp] theorem zado{z x i}{d:Option Nat}{st:St}:opK P (.iad z x i) d st K↔okK (stepQ (.iad z x i) st.env.get st.heap) fun x=>K ⟨putE st.env d x,st.heap,st.clk⟩:=Iff.rfl
@[simp] theorem zadp{z n x i}{d:Option Nat}{st:St}:opK P (.iaa z n x i) d st K↔okK (stepQ (.iaa z n x i) st.env.get st.heap) fun x=>K ⟨putE st.env d x,st.heap,st.clk⟩:=Iff.rfl
@[simp] theorem zadq{x i}{d:Option Nat}{st:St}:opK P (.ixs x i) d st K↔okK (stepQ (.ixs x i) st.env.get st.heap) fun x=>K ⟨putE st.env d x,st.heap,st.clk⟩:=Iff.rfl
@[simp] theorem zadr{z l n x i}{d:Option Nat}{st:St}:opK P (.ixa z l n x i) d st K↔okK (stepQ (.ixa z l n x i) st.env.get st.heap) fun x=>K ⟨putE st.env d x,st.heap,st.clk⟩:=Iff.rfl
@[simp] theorem zads{x}{d:Option Nat}{st:St}:opK P (.len x) d st K↔okK (stepQ (.len x) st.env.get st.heap) fun x=>K ⟨putE st.env d x,st.heap,st.clk⟩:=Iff.rfl
@[simp] theorem z99{x}{d:Option Nat}{st:St}:opK P (.lens x) d st K↔okK (stepQ (.lens x) st.env.get st.heap) fun x=>K ⟨putE st.env d x,st.heap,st.clk⟩:=Iff.rfl
@[simp] theorem zaaa{n}{d:Option Nat}{st:St}:opK P (.lenc n) d st K↔okK (stepQ (.lenc n) st.env.get st.heap) fun x=>K ⟨putE st.env d x,st.heap,st.clk⟩:=Iff.rfl
@[simp] theorem zaim{m xs}{d:Option Nat}{st:St}:opK P (.mm m xs) d st K↔okK (stepQ (.mm m xs) st.env.get st.heap) fun x=>K ⟨putE st.env d x,st.heap,st.clk⟩:=Iff.rfl
@[simp] theorem zadt{x n}{d:Option Nat}{st:St}:opK P (.ext x n) d st K↔okK (stepQ (.ext x n) st.env.get st.heap) fun x=>K ⟨putE st.env d x,st.heap,st.clk⟩:=Iff.rfl
@[simp] theorem zaab{x}{d:Option Nat}{st:St}:opK P (.nilc x) d st K↔okK (stepQ (.nilc x) st.env.get st.heap) fun x=>K ⟨putE st.env d x,st.heap,st.clk⟩:=Iff.rfl
@[simp] theorem z6j{zs}{d:Option Nat}{st:St}:opK P (.alloc zs) d st K↔okK (stepW (.alloc zs) d st.env.get st.heap st.clk) fun q=>K ⟨putE st.env d q.1,q.2.1,q.2.2⟩:=Iff.rfl
@[simp] theorem z6k{n x v}{d:Option Nat}{st:St}:opK P (.store n x v) d st K↔okK (stepW (.store n x v) d st.env.get st.heap st.clk) fun q=>K ⟨putE st.env d q.1,q.2.1,q.2.2⟩:=Iff.rfl
@[simp] theorem zadu{z zs l c}{d:Option Nat}{st:St}:opK P (.mks z zs l c) d st K↔okK (stepW (.mks z zs l c) d st.env.get st.heap st.clk) fun q=>K ⟨putE st.env d q.1,q.2.1,q.2.2⟩:=Iff.rfl
@[simp] theorem zadv{z x y}{d:Option Nat}{st:St}:opK P (.app z x y) d st K↔okK (stepW (.app z x y) d st.env.get st.heap st.clk) fun q=>K ⟨putE st.env d q.1,q.2.1,q.2.2⟩:=Iff.rfl
@[simp] theorem zaac(k:IntKind)(n:Int):unAV .neg (.i k n)=some (.i k (k.wrap (0-n))):=rfl
@[simp] theorem zaad(t:Bool):unAV .not (.b t)=some (.b (!t)):=rfl
attribute [simp] stepQ stepW pickAV lenAV lensAV mmAV mmL mm2 extAV eqbAV eqnilAV nilcAV iadAV loadAV fadAV fldAV partL fillL eqsAV eqL evO exitP resAV resV argEnv bslAV frzP fillS shareIds appAV appR rowOf rowZ
@[simp] theorem zo8{k:IntKind}{a b:Int}:binV .add (.i k a) (.i k b)=some (.i k (k.wrap (a+b))):=by simp[binV,binI]
@[simp] theorem zxl{k:IntKind}{a b:Int}:binV .sub (.i k a) (.i k b)=some (.i k (k.wrap (a-b))):=by simp[binV,binI]
@[simp] theorem zxm{k:IntKind}{a b:Int}:binV .mul (.i k a) (.i k b)=some (.i k (k.wrap (a*b))):=by simp[binV,binI]
@[simp] theorem zxn{k:IntKind}{a b:Int}:binV .quo (.i k a) (.i k b)=if b=0 then none else some (.i k (k.wrap (a.tdiv b))):=by simp[binV,binI]
@[simp] theorem zxo{k:IntKind}{a b:Int}:binV .rem (.i k a) (.i k b)=if b=0 then none else some (.i k (a.tmod b)):=by simp[binV,binI]
@[simp] theorem zo9{k:IntKind}{a b:Int}:binV .eql (.i k a) (.i k b)=some (.b (a == b)):=by simp[binV,binI]
@[simp] theorem zpa{k:IntKind}{a b:Int}:binV .neq (.i k a) (.i k b)=some (.b (a != b)):=by simp[binV,binI]
@[simp] theorem zxp{k:IntKind}{a b:Int}:binV .lss (.i k a) (.i k b)=some (.b (a<b)):=by simp[binV,binI]
@[simp] theorem zpb{k:IntKind}{a b:Int}:binV .leq (.i k a) (.i k b)=some (.b (a≤b)):=by simp[binV,binI]
@[simp] theorem zxq{k:IntKind}{a b:Int}:binV .gtr (.i k a) (.i k b)=some (.b (a > b)):=by simp[binV,binI]
@[simp] theorem zpc{k:IntKind}{a b:Int}:binV .geq (.i k a) (.i k b)=some (.b (a≥b)):=by simp[binV,binI]
@[simp] theorem z6l{a b:List UInt8}:binV .eql (.s a) (.s b)=some (.b (a == b)):=by simp[binV,binS]
theorem zac(n:Int)(h:-9223372036854775808≤n∧n<9223372036854775808):IntKind.wrap .i64 n=n:=by
 simp[IntKind.wrap,IntKind.signed,IntKind.bits]<;>(omega)<;>omega
end
end
section
open Go.RowKit
section
variable{cx:Cx}{Q:Exit→St→Prop}{st:St}{c:AC}{P:Program}{K:St→Prop}
@[simp] theorem z4m{β:Type}(b b':BId)(x:β)(l:List (BId×β)):List.lookup b ((b',x)::l)=if b=b' then some x else List.lookup b l:=by
 grind
attribute [simp] liveP storeAV allocAV mksAV exitB
attribute [simp] AOp.writes AOp.free slcAV bndO
@[simp] theorem zalh(k:IntKind)(n y:Int):bnd (.i k n) y=if 0≤n∧n≤y then some n.toNat else none:=rfl
theorem WRel.sub{S:Nat→Nat→Prop}{M:Map}{st st':St}{w:World}(hs:Sub st st')(hr:WRel cx S M st.clk st.heap w):∃Mb,WRel cx S Mb st'.clk st'.heap w∧Ext w S M st.clk w S Mb st'.clk:=by
 classical
 generalize hMb:(fun g=>if Live st'.heap g then M g else none:Map)=Mb
 have hMb1:∀g m,Mb g=some m→Live st'.heap g∧M g=some m:=by
  grind
 have hMb2:∀g,Live st'.heap g→Mb g=M g:=by grind
 have hx:Ext w S M st.clk w S Mb st'.clk:=⟨fun _ _ hs=>hs,fun _ _ _ _ hc=>hc,hs.clk,fun g m _ hm=>(hMb1 g m hm).2,fun _ _ arr _ _ _ hb=>⟨arr,hb,rfl⟩⟩
 refine⟨Mb,⟨⟨fun b bx hb=>?_,fun g m hm=>(hMb1 g m hm).1,fun b bx b' bx' h1 h2 hg=>?_,fun g g' k h1 h2=>hr.heap.inj _ _ _ (hMb1 _ _ h1).2 (hMb1 _ _ h2).2⟩,hr.ext.trans hx,hr.fr,hr.Snew,hr.Slt,fun g k hm=>hr.Mnew g k (hMb1 _ _ hm).2⟩,hx⟩
 ·obtain⟨bx0,h0,h1⟩:=hs.heap b bx hb
  have hl:Live st'.heap bx.gen:=⟨b,bx,hb,rfl⟩
  have hbox:=hr.heap.box b bx0 h0
  rcases h1 with rfl | ⟨hk,rfl⟩
  ·exact hbox.mono hx (hMb2 _ hl) (fun _ _=>rfl) fun _ _ _ hs=>hs
  ·obtain⟨b1,b2,m,hm,b3⟩:=hbox.mono hx (hMb2 bx0.gen hl) (fun _ _=>rfl) fun _ _ _ hs=>hs
   refine⟨b1,b2,m,hm,?_⟩
   cases m with
   | none=>exact⟨b3.1,by simp,by simp⟩
   | some k=>
    obtain⟨arr,e,c1,c2,c3,c4,c5⟩:=ck' hk.2 b3
    exact ck (by simp) ⟨arr,e,c1,c2,fun i r j c hi hj=>let ⟨u,d1,d2,d3,d4⟩:=c3 i r j c hi hj;⟨u,d1,d2,d3,fun _=>d4 hk.1⟩,fun hne=>absurd rfl hne,c5⟩
 ·obtain⟨bx0,h3,h4⟩:=hs.heap b bx h1
  obtain⟨bx0',h5,h6⟩:=hs.heap b' bx' h2
  have e1:bx.gen=bx0.gen:=by grind
  have e2:bx'.gen=bx0'.gen:=by grind
  exact hr.heap.gens _ _ _ _ h3 h5 (by rw[←e1,←e2,hg])
def exitC(rs:List RV)(post:AV→Heap→Nat→Prop):Exit→St→Prop:=
 fun ex st=>(ex=.normal∨ex=.ret)∧∃r,resAV st rs=some r∧∃h' c',Sub ⟨[],st.heap,st.clk⟩ ⟨[],h',c'⟩∧post r h' c'
end
end
section
open Go.RowKit
theorem zde:∀(l:Heap) (g j:Nat),j≤genIx l g j∧genIx l g j≤j+l.length
 | [],g,j=>by simp[genIx]
 | p::l,g,j=>by
  have:=zde l g (j+1)
  simp only[genIx,List.length_cons]
  split<;>omega
theorem zgw:∀(l:Heap) (g j:Nat),(∃p∈l,p.2.gen=g)→genIx l g j<j+l.length
 | [],g,j,h=>by grind
 | p::l,g,j,h=>by
  simp only[genIx,List.length_cons]
  split
  ·omega
  ·obtain⟨q,hq,he⟩:=h
   have hq':q∈l:=by
    grind
   have:=zgw l g (j+1) ⟨q,hq',he⟩
   omega
theorem zko:∀(l:Heap) (g j:Nat),(¬ ∃p∈l,p.2.gen=g)→genIx l g j=j+l.length
 | [],g,j,h=>by simp[genIx]
 | p::l,g,j,h=>by
  simp only[genIx,List.length_cons]
  rw[if_neg (fun he=>h ⟨p,List.mem_cons_self,he⟩),zko l g (j+1) fun⟨q,hq,he⟩=>h ⟨q,List.mem_cons_of_mem _ hq,he⟩]
  omega
theorem zh1:∀(l:Heap) (g g' j:Nat),(∃p∈l,p.2.gen=g)→(∃p∈l,p.2.gen=g')→genIx l g j=genIx l g' j→g=g'
 | [],g,g',j,h,_,_=>by obtain⟨p,hp,_⟩:=h;simp at hp
 | p::l,g,g',j,h,h',he=>by
  simp only[genIx]at he
  have low:=zde l g (j+1)
  have low':=zde l g' (j+1)
  split at he<;>split at he
  ·rename_i h1 h2;rw[←h1,←h2]
  ·omega
  ·omega
  ·rename_i h1 h2
   have tl:∀g,p.2.gen≠g→(∃q∈p::l,q.2.gen=g)→∃q∈l,q.2.gen=g:=by
    intro g hne ⟨q,hq,he⟩
    rcases List.mem_cons.1 hq with rfl | h
    ·exact absurd he hne
    ·exact⟨q,h,he⟩
   exact zh1 l g g' (j+1) (tl g h1 h) (tl g' h2 h') he
theorem zfl{h:Heap}{ids:List BId}{p:BId×Box}(hp:p∈pickH h ids):h.lookup p.1=some p.2:=by
 obtain⟨b,_,h2⟩:=List.mem_filterMap.1 hp
 cases hb:h.lookup b with
 | none=>grind
 | some bx=>grind
theorem za7{β γ:Type}[BEq β][LawfulBEq β]:∀(l:List (β×γ)) (b:β) (x:γ),l.lookup b=some x→(b,x)∈l:=by
 intro l b x h
 induction l with
 | nil=>cases h
 | cons p l ih=>
  grind
theorem zf6{γ:Type}:∀(l:List (BId×γ)) (p:BId×γ),p∈l→∃x,l.lookup p.1=some x:=by
 intro l p h
 induction l with
 | nil=>cases h
 | cons q l ih=>
  obtain⟨q1,q2⟩:=q
  by_cases hb:p.1=q1
  ·simp_all
  grind
theorem zmf{h:Heap}{ids:List BId}{p:BId×Box}(hp:p∈pickH h ids):(pickH h ids).lookup p.1=some p.2:=by
 obtain⟨x,hx⟩:=zf6 _ _ hp
 have h1:=zfl (za7 _ _ _ hx)
 rw[zfl hp]at h1
 grind
theorem zn9(live:List Nat)(f:Nat→AV)(t:Nat):(live.map fun t=>(t,f t)).lookup t=if t∈live then some (f t) else none:=by
 induction live with
 | nil=>simp
 | cons s l ih=>
  grind
section
variable{cx:Cx}{st:St}{a:Act}{w:World}
theorem zpj{k:Nat}{hp:Heap}{g g':Nat}(h:∃p∈hp,p.2.gen=g)(h':∃p∈hp,p.2.gen=g')(he:sigG k hp g=sigG k hp g'):g=g':=by
 grind[sigG,zde,zh1]
theorem Rel.norm{ex:Bool}{k:Nat}{live:List Nat}(hk:cx.clk0=k+1)(hr:Rel cx st a w):Rel cx (normS ex k live st) a w:=by
 obtain⟨S,M,hr⟩:=hr
 generalize hids:reach st.heap 40 (bors k++(live.map fun t=>(t,st.env.get t)).flatMap fun p=>rfA p.2) []=ids
 generalize hhp:pickH st.heap ids=hp
 have hn:normS ex k live st=⟨(live.map fun t=>(t,st.env.get t)).map fun p=>(p.1,rlA id (sigG k hp) (wkIf ex p.2)),hp.map fun p=>(p.1,rlBox ex id (sigG k hp) p.2),k+hp.length+2⟩:=by
  rw[←hhp,←hids];rfl
 have hlk:∀b bx,hp.lookup b=some bx→st.heap.lookup b=some bx:=by
  intro b bx hb
  have:=za7 _ _ _ hb
  rw[←hhp]at this
  exact zfl this
 have hml:∀p∈hp,hp.lookup p.1=some p.2:=by
  intro p hm
  rw[←hhp]at hm ⊢
  exact zmf hm
 classical
 generalize hM':(fun g'=>if h:∃g,(∃p∈hp,p.2.gen=g)∧sigG k hp g=g' then M (Classical.choose h) else none:Map)=M'
 have hM1:∀g,(∃p∈hp,p.2.gen=g)→M' (sigG k hp g)=M g:=by
  intro g hg
  rw[←hM']
  have h:∃g0,(∃p∈hp,p.2.gen=g0)∧sigG k hp g0=sigG k hp g:=⟨g,hg,rfl⟩
  simp only[dif_pos h]
  rw[zpj (Classical.choose_spec h).1 hg (Classical.choose_spec h).2]
 have hM2:∀g' m,M' g'=some m→∃g,(∃p∈hp,p.2.gen=g)∧sigG k hp g=g'∧M g=some m:=by
  grind
 have hrl:Rlb M M' st.clk (k+hp.length+2) (sigG k hp):=by
  refine⟨fun g hg=>⟨?_,?_⟩⟩
  ·by_cases hin:∃p∈hp,p.2.gen=g
   ·grind
   ·right
    cases hm:M' (sigG k hp g) with
    | none=>rfl
    | some m=>
     obtain⟨g1,h1,h2,_⟩:=hM2 _ _ hm
     have hlt:=zgw hp g1 (k+1) h1
     grind[zko,zde,sigG]
  grind[zde,sigG]
 have hw:=hr.wr
 refine⟨S,M',?_⟩
 rw[hn]
 refine⟨hr.size,hr.defers,fun t=>?_,?_⟩
 ·rw[List.map_map]
  have e1:Env.get (live.map fun t=>(t,rlA id (sigG k hp) (wkIf ex (st.env.get t)))) t=(if t∈live then some (rlA id (sigG k hp) (wkIf ex (st.env.get t))) else none).getD .dead:=by
   rw[←zn9 live (fun t=>rlA id (sigG k hp) (wkIf ex (st.env.get t)))];rfl
  show C w S M' _ _ (Env.get (live.map fun t=>(t,rlA id (sigG k hp) (wkIf ex (st.env.get t)))) t)
  rw[e1]
  split
  ·exact((hr.env t).wkIf ex).rlA hrl
  ·exact .p (.dead _)
 ·refine hw.rl (ex:=ex) (σn:=id) (σg:=sigG k hp) (D:=fun g=>∃p∈hp,p.2.gen=g) hrl (by grind) (fun g m hg hm=>?_) (fun b' bx' hb=>?_) (fun g' m hm=>?_) (fun g1 g2 hd1 hd2 hg=>?_) (fun g' m hm=>?_)
  ·grind[zde,sigG]
  ·rw[zek (fun _ bx=>rlBox ex id (sigG k hp) bx) b' hp]at hb
   obtain⟨bx,h1,rfl⟩:=map_some hb
   exact⟨b',bx,hlk _ _ h1,rfl,hM1 _ ⟨_,za7 _ _ _ h1,rfl⟩,rfl,⟨_,za7 _ _ _ h1,rfl⟩⟩
  ·obtain⟨g1,⟨p,h1,h1'⟩,h2,h3⟩:=hM2 _ _ hm
   refine⟨p.1,rlBox ex id (sigG k hp) p.2,?_,by show sigG k hp p.2.gen=g';grind⟩
   rw[zek (fun _ bx=>rlBox ex id (sigG k hp) bx) p.1 hp,hml p h1]
   rfl
  ·exact zpj hd1 hd2 hg
  grind
theorem Rel.nil(t:Nat)(id:BId)(z:Nat)(hx:st.env.get t=.sl [] .nl)(hr0:Rel cx st a w):Rel cx ⟨(t,.bs id st.clk z 0 0)::st.env,(id,⟨st.clk,.own,z,[]⟩)::st.heap,st.clk+1⟩ a w:=by
 obtain⟨S,M,hr⟩:=hr0
 refine⟨S,setM M ((id,⟨st.clk,.own,z,[]⟩)::st.heap) st.clk none,?_⟩
 have h1:=hr.set (id:=id) (bx':=⟨st.clk,.own,z,[]⟩) (k':=none) (touched:=none) (clk':=st.clk+1) (Nat.le_succ _) (.inl rfl) (fun hlt=>absurd hlt (Nat.lt_irrefl _)) (Touch.of_below (Below.refl _ _)) (fun k hk=>by grind)
  ⟨Nat.lt_succ_self _,fun r hr=>by grind,none,zap _ _ _ _,rfl,by simp⟩
 refine⟨h1.size,h1.defers,fun t'=>?_,h1.wr⟩
 have e1:Env.get ((t,AV.bs id st.clk z 0 0)::st.env)=upd st.env.get (some t) (.bs id st.clk z 0 0):=zb7 st.env (some t) _
 rw[e1]
 simp only[upd]
 split
 ·rename_i ht
  subst ht
  have hv:=hr.env t'
  rw[hx]at hv
  have hv2:a.tmps.getD t' undef=.slice none 0 0:=by
   rcases hv.inv_sl.inv_sl with ⟨_,b0,hv,_,hb2⟩ | ⟨_,_,_,_,_,_,hf,_⟩
   all_goals grind
  rw[hv2]
  refine .bs _ _ _ _ _ _ (Nat.lt_succ_self _) ?_ rfl
  grind[BsOk,zap]
 ·exact h1.env t'
theorem Rel.shr(t:Nat){y:AV}(hy:frz st.heap (st.env.get t)=some y)(hr0:Rel cx st a w):Rel cx ⟨st.env,shareIds (refs (st.env.get t)) st.heap,st.clk⟩ a w:=by
 obtain⟨S,M,hr⟩:=hr0
 exact⟨_,M,hr.share (refs (st.env.get t)) (zdo hy)⟩
theorem Rel.frz(t:Nat){y:AV}(hy:frz st.heap (st.env.get t)=some y)(hr0:Rel cx st a w):Rel cx ⟨(t,y)::st.env,shareIds (refs (st.env.get t)) st.heap,st.clk⟩ a w:=by
 obtain⟨S,M,hr⟩:=hr0
 have hk:=zdo hy
 refine⟨cellsS st.heap M (refs (st.env.get t)) S,M,?_⟩
 have h1:=hr.share (refs (st.env.get t)) hk
 refine⟨h1.size,h1.defers,fun t'=>?_,h1.wr⟩
 have e1:Env.get ((t,y)::st.env)=upd st.env.get (some t) y:=zb7 st.env (some t) _
 rw[e1]
 simp only[upd]
 split
 ·rename_i ht
  subst ht
  exact .p (z0c hr.wr.heap (hr.env t') hy fun id hid=>hid)
 ·exact h1.env t'
theorem Rel.fld(b id:BId)(z i o:Nat){bx:Box}{r:List AV}(hb:st.heap.lookup b=some bx)(hk:bx.kind=.str)(hi:bx.els[i]? = some r)(ho:r[o]? = some (.sl [] .nl))(hid:st.heap.lookup id=none)(hr0:Rel cx st a w):Rel cx ⟨st.env,(b,{ bx with els:=bx.els.set i (r.set o (.bs id st.clk z 0 0)) })::(id,⟨st.clk,.own,z,[]⟩)::st.heap,st.clk+1⟩ a w:=by
 obtain⟨S,M,hr⟩:=hr0
 refine⟨S,setM M ((id,⟨st.clk,.own,z,[]⟩)::st.heap) st.clk none,?_⟩
 have h1:=hr.set (id:=id) (bx':=⟨st.clk,.own,z,[]⟩) (k':=none) (touched:=none) (clk':=st.clk+1) (Nat.le_succ _) (.inl rfl) (fun hlt=>absurd hlt (Nat.lt_irrefl _)) (Touch.of_below (Below.refl _ _)) (fun k hk=>by grind)
  ⟨Nat.lt_succ_self _,fun r hr=>by grind,none,zap _ _ _ _,rfl,by simp⟩
 have hb1:List.lookup b ((id,(⟨st.clk,.own,z,[]⟩:Box))::st.heap)=some bx:=by grind
 have hw:=h1.wr
 generalize hM':setM M ((id,⟨st.clk,.own,z,[]⟩)::st.heap) st.clk none=M' at *
 have hself:M' st.clk=some none:=by rw[←hM'];exact zap _ _ _ _
 generalize hbx':({ bx with els:=bx.els.set i (r.set o (.bs id st.clk z 0 0)) }:Box)=bx' at *
 have hgen:bx'.gen=bx.gen:=by grind
 have hz:bx'.z=bx.z:=by grind
 have hkk:bx'.kind=bx.kind:=by grind
 have hbox:BoxOk w S M' (st.clk+1) bx':=by
  obtain⟨b1,b2,m,hm1,b3⟩:=hw.heap.box b bx hb1
  refine⟨by omega,fun r' hr'=>?_,m,by grind,?_⟩
  ·grind
  ·cases m with
   | none=>
    grind
   | some k=>
    have hmp:bx.kind≠.mp:=by rw[hk];simp
    obtain⟨arr,e,hh,hsz,hcc,hns,hlt⟩:=ck' hmp b3
    refine ck (by rw[hkk];exact hmp) ⟨arr,e,hh,by grind,fun i' r' j c' hi' hj=>?_,by grind,by grind⟩
    rw[←hbx']at hi'
    simp only[List.getElem?_set]at hi'
    rw[hz,hkk]
    split at hi'
    ·rename_i hii
     subst hii
     split at hi'
     ·cases hi'
      rw[List.getElem?_set]at hj
      split at hj
      ·rename_i hjo
       subst hjo
       split at hj
       ·cases hj
        obtain⟨u,hu,hu1,hC,hP⟩:=hcc i r o _ hi ho
        refine⟨u,hu,hu1,?_,fun hne'=>absurd hk hne'⟩
        have hv2:u=.slice none 0 0:=by
         rcases hC.inv_sl.inv_sl with ⟨_,b0,hv,_,hb2⟩ | ⟨_,_,_,_,_,_,hf,_⟩
         all_goals grind
        rw[hv2]
        refine .bs _ _ _ _ _ _ (Nat.lt_succ_self _) ?_ rfl
        grind[BsOk]
       grind
      grind
     grind
    grind
 have to:∀q x,List.lookup q ((b,bx')::(id,(⟨st.clk,.own,z,[]⟩:Box))::st.heap)=some x→∃x0,List.lookup q ((id,(⟨st.clk,.own,z,[]⟩:Box))::st.heap)=some x0∧x0.gen=x.gen:=by
  grind
 refine⟨h1.size,h1.defers,h1.env,⟨⟨fun q x hq=>?_,fun g m hm=>?_,fun q1 x1 q2 x2 hq1 hq2 hg=>?_,hw.heap.inj⟩,hw.ext,hw.fr,hw.Snew,hw.Slt,hw.Mnew⟩⟩
 ·by_cases hqb:q=b
  ·grind
  ·rw[zbe _ _ hqb]at hq
   exact hw.heap.box q x hq
 ·obtain⟨q,x,hq,hg⟩:=hw.heap.live g m hm
  by_cases hqb:q=b
  ·grind[zbx]
  ·exact⟨q,x,by grind,hg⟩
 ·obtain⟨y1,hy1,e1⟩:=to q1 x1 hq1
  obtain⟨y2,hy2,e2⟩:=to q2 x2 hq2
  exact hw.heap.gens _ _ _ _ hy1 hy2 (by rw[e1,e2,hg])
theorem Rel.str(b:BId){bx:Box}{r:List AV}{i:Nat}(hb:st.heap.lookup b=some bx)(hk:bx.kind≠.sh)(hmp:bx.kind≠.mp)(hi:bx.els[i]? = some r)(hr0:Rel cx st a w):Rel cx ⟨st.env,(b,{ bx with kind:=.str })::st.heap,st.clk⟩ a w:=by
 obtain⟨S,M,hr⟩:=hr0
 refine⟨S,M,?_⟩
 have hw:=hr.wr
 generalize hbx':({ bx with kind:=.str }:Box)=bx' at *
 have hgen:bx'.gen=bx.gen:=by grind
 have hbox:BoxOk w S M st.clk bx':=by
  obtain⟨b1,b2,m,hm1,b3⟩:=hw.heap.box b bx hb
  refine⟨by omega,by grind,m,by grind,?_⟩
  cases m with
  | none=>grind
  | some k=>
   obtain⟨arr,e,hh,hsz,hcc,hns,hlt⟩:=ck' hmp b3
   refine ck (by rw[←hbx'];simp) ⟨arr,e,hh,by grind,fun i' r' j c' hi' hj=>?_,by grind,by grind⟩
   obtain⟨u,h1,h2,h3,h4⟩:=hcc i' r' j c' (by grind) hj
   exact⟨u,by grind,h2,h3,by grind⟩
 have to:∀q x,List.lookup q ((b,bx')::st.heap)=some x→∃x0,List.lookup q st.heap=some x0∧x0.gen=x.gen:=by
  grind
 refine⟨hr.size,hr.defers,hr.env,⟨⟨fun q x hq=>?_,fun g m hm=>?_,fun q1 x1 q2 x2 hq1 hq2 hg=>?_,hw.heap.inj⟩,hw.ext,hw.fr,hw.Snew,hw.Slt,hw.Mnew⟩⟩
 ·by_cases hqb:q=b
  ·grind
  ·rw[zbe _ _ hqb]at hq
   exact hw.heap.box q x hq
 ·obtain⟨q,x,hq,hg⟩:=hw.heap.live g m hm
  by_cases hqb:q=b
  ·grind[zbx]
  ·exact⟨q,x,by grind,hg⟩
 ·obtain⟨y1,hy1,e1⟩:=to q1 x1 hq1
  obtain⟨y2,hy2,e2⟩:=to q2 x2 hq2
  exact hw.heap.gens _ _ _ _ hy1 hy2 (by rw[e1,e2,hg])
theorem Rel.gh{k:Nat}{g:Gh}{st':St}(hk:cx.clk0=k+1)(hg:ghS k g st=some st')(hr:Rel cx st a w):Rel cx st' a w:=by
 cases g with
 | nil t z=>
  simp only[ghS]at hg
  split at hg<;>cases hg
  rename_i hx
  exact hr.nil t _ z hx
 | frz t=>
  obtain⟨y,hy,rfl⟩:=map_some hg
  exact hr.frz t hy
 | shr t=>
  simp only[ghS]at hg
  obtain⟨y,hy,rfl⟩:=map_some hg
  exact hr.shr t hy
 | norm ex live=>
  cases hg
  exact hr.norm hk
 | trm live=>
  cases hg
  have key:∀(l:List Nat) (t:Nat) (x:AV),(l.map fun t=>(t,st.env.get t)).lookup t=some x→st.env.get t=x:=by
   intro l
   induction l with
   | nil=>simp
   | cons a l ih=>grind [List.lookup]
  have hs:Sub st ⟨live.map fun t=>(t,st.env.get t),st.heap,st.clk⟩:=⟨fun t x h=>key _ _ _ h,fun b bx h=>⟨bx,h,.inl rfl⟩,Nat.le_refl _⟩
  exact Rel.sub hs hr
 | opn t j z=>
  simp only[ghS]at hg
  split at hg<;>try (cases hg;done)
  split at hg<;>try (cases hg;done)
  rename_i bx hbx
  split at hg<;>try (cases hg;done)
  rename_i r hi
  split at hg<;>cases hg
  rename_i hc
  have hb:=(zav hbx).1
  have h1:=hr.str _ hb hc.1 (zct hbx) hi
  have hn:∀b o,BId.fld b o≠b:=fun b o h=>by
   have h2:SizeOf.sizeOf (BId.fld b o)=SizeOf.sizeOf b:=by rw[h]
   simp at h2
   omega
  have h2:=h1.fld (bx:={ bx with kind:=.str }) _ (.fld _ _) z _ 0 (zbx _ _ _) rfl hi rfl (by rw[zbe _ _ (hn _ _)];simpa using hc.2)
  refine Rel.sub ?_ h2
  constructor
  ·intro t x h
   show (st.env.lookup t).getD .dead=x
   rw[show st.env.lookup t=some x from h]
   rfl
  ·intro b' bx' h
   refine⟨bx',?_,.inl rfl⟩
   simp only[List.set_cons_zero]
   grind
  ·exact Nat.le_refl _
 | shi t j=>
  simp only[ghS]at hg
  split at hg<;>try (cases hg;done)
  split at hg<;>try (cases hg;done)
  split at hg<;>try (cases hg;done)
  obtain⟨y,hy,rfl⟩:=map_some hg
  obtain⟨S,M,hr⟩:=hr
  exact⟨_,M,hr.share (refs _) (zdo hy)⟩
 | shf t i o=>
  simp only[ghS]at hg
  split at hg<;>try (cases hg;done)
  split at hg<;>try (cases hg;done)
  split at hg<;>try (cases hg;done)
  split at hg<;>try (cases hg;done)
  obtain⟨y,hy,rfl⟩:=map_some hg
  obtain⟨S,M,hr⟩:=hr
  exact⟨_,M,hr.share (refs _) (zdo hy)⟩
 | fld t i o z=>
  simp only[ghS]at hg
  split at hg<;>try (cases hg;done)
  split at hg<;>try (cases hg;done)
  rename_i bx hbx
  split at hg<;>try (cases hg;done)
  rename_i r hi
  split at hg<;>try (cases hg;done)
  rename_i ho
  split at hg<;>cases hg
  rename_i hc
  exact hr.fld _ _ z i o (zav hbx).1 hc.1 hi ho (by simpa using hc.2)
end
end
section
open Go.RowKit
theorem zmg:∀(l:Heap) (g j:Nat),(∃p∈l,p.2.gen=g)→∃q,l[genIx l g j-j]? = some q∧q.2.gen=g∧j≤genIx l g j
 | [],g,j,h=>by grind
 | p::l,g,j,h=>by
  simp only[genIx]
  split
  ·grind
  ·obtain⟨q,hq,he⟩:=h
   have hq':q∈l:=by
    grind
   obtain⟨q2,h1,h2,h3⟩:=zmg l g (j+1) ⟨q,hq',he⟩
   grind
theorem zjo:∀(l:List BId) (b b':BId) (j:Nat),b∈l→b'∈l→nameIx l b j=nameIx l b' j→b=b'
 | [],b,b',j,h,_,_=>by cases h
 | c::l,b,b',j,h,h',he=>by
  have low:∀(l:List BId) (x:BId) (j:Nat),j≤nameIx l x j:=by
   intro l x
   induction l with
   | nil=>intro j;exact Nat.le_refl _
   | cons y l ih=>intro j;simp only[nameIx];split;exact Nat.le_refl _;exact Nat.le_trans (Nat.le_succ j) (ih (j+1))
  simp only[nameIx]at he
  have l1:=low l b (j+1)
  have l2:=low l b' (j+1)
  split at he<;>split at he
  ·rename_i h1 h2;rw[←h1,←h2]
  ·omega
  ·omega
  ·rename_i h1 h2
   have tl:∀x,c≠x→x∈c::l→x∈l:=by
    intro x hne hx
    rcases List.mem_cons.1 hx with rfl | hx
    ·exact absurd rfl hne
    ·exact hx
   exact zjo l b b' (j+1) (tl b h1 h) (tl b' h2 h') he
theorem zd9{γ:Type}:∀(l:List (BId×γ)),(l.map (·.1)).Nodup→∀p∈l,l.lookup p.1=some p.2:=by
 intro l hn p hp
 induction l with
 | nil=>grind
 | cons q l ih=>
  grind
theorem zh2{α:Type}:∀(l:List α),l.Nodup→∀(i j:Nat) (x:α),l[i]? = some x→l[j]? = some x→i=j
 | [],_,i,j,x,h,_=>by simp at h
 | y::l,hn,i,j,x,hi,hj=>by
  simp only[List.nodup_cons]at hn
  cases i with
  | zero=>
   cases j with
   | zero=>rfl
   | succ j=>
    simp at hi hj
    subst hi
    exact absurd (List.mem_of_getElem? hj) hn.1
  | succ i=>
   cases j with
   | zero=>
    simp at hi hj
    subst hj
    exact absurd (List.mem_of_getElem? hi) hn.1
   | succ j=>rw[zh2 l hn.2 i j x hi hj]
theorem ACall.rl{P:Program}{f:FuncId}{ys:List AV}{hp:Heap}{clk d:Nat}{ex:Bool}{l:List BId}{r0:AV}{hb':Heap}{c':Nat}
  (hkeys:hp.map (·.1)=l) (hnd:l.Nodup)
  (hnd2:((hb'.map fun p=>(outN l d p.1,rlBox true (outN l d) (outG hp clk) p.2)).map (·.1)).Nodup)
  (hA:ACall P f (ys.map fun y=>rlA (inN l) (inG hp) (wkIf ex y)) (hp.map fun p=>(inN l p.1,rlBox ex (inN l) (inG hp) p.2)) (hp.length+1) (fun r h c=>r=r0∧h=hb'∧c=c')) :
  ACall P f ys hp clk (fun r h c=>r=rlA (outN l d) (outG hp clk) r0∧h=hb'.map (fun p=>(outN l d p.1,rlBox true (outN l d) (outG hp clk) p.2))∧c=clk+(c'-hp.length)):=by
 refine⟨hA.1,fun w S M cargs hl hC hh hS hM=>?_⟩
 have hml:∀p∈hp,hp.lookup p.1=some p.2:=zd9 hp (by grind)
 have hnd':(hb'.map (·.1)).Nodup:=by
  grind
 classical
 -- the call's own numbering
 generalize hM1:(fun g'=>if h:∃g,(∃p∈hp,p.2.gen=g)∧inG hp g=g' then M (Classical.choose h) else none:Map)=M1
 have inj1:∀g1 g2,(∃p∈hp,p.2.gen=g1)→(∃p∈hp,p.2.gen=g2)→inG hp g1=inG hp g2→g1=g2:=fun g1 g2 h1 h2 he=>zh1 hp g1 g2 0 h1 h2 he
 have hM1a:∀g,(∃p∈hp,p.2.gen=g)→M1 (inG hp g)=M g:=by
  intro g hg
  rw[←hM1]
  have h:∃g0,(∃p∈hp,p.2.gen=g0)∧inG hp g0=inG hp g:=⟨g,hg,rfl⟩
  simp only[dif_pos h]
  rw[inj1 _ _ (Classical.choose_spec h).1 hg (Classical.choose_spec h).2]
 have hM1b:∀g' m,M1 g'=some m→∃g,(∃p∈hp,p.2.gen=g)∧inG hp g=g'∧M g=some m:=by
  grind
 have rl1:Rlb M M1 clk (hp.length+1) (inG hp):=by
  refine⟨fun g _=>⟨?_,?_⟩⟩
  ·by_cases hin:∃p∈hp,p.2.gen=g
   ·grind
   ·right
    cases hm:M1 (inG hp g) with
    | none=>rfl
    | some m=>
     obtain⟨g1,h1,h2,_⟩:=hM1b _ _ hm
     have hlt:=zgw hp g1 0 h1
     grind[zko,inG]
  grind[zde,inG]
 have mem_keys:∀p∈hp,p.1∈l:=fun p hpm=>by grind
 have heap1:HeapRel w S M1 (hp.length+1) (hp.map fun p=>(inN l p.1,rlBox ex (inN l) (inG hp) p.2)):=by
  refine hh.rl (ex:=ex) (σn:=inN l) (σg:=inG hp) (D:=fun g=>∃p∈hp,p.2.gen=g) rl1 (fun b' bx' hb=>?_) (fun g' m hm=>?_) inj1 (fun g' m hm=>?_)
  ·obtain⟨p,hpm,he⟩:=List.mem_map.1 (za7 _ _ _ hb)
   grind
  ·obtain⟨g1,⟨p,hpm,h1⟩,h2,h3⟩:=hM1b _ _ hm
   obtain⟨x,hx⟩:=zf6 (hp.map fun p=>(inN l p.1,rlBox ex (inN l) (inG hp) p.2)) (inN l p.1,rlBox ex (inN l) (inG hp) p.2) (List.mem_map.2 ⟨p,hpm,rfl⟩)
   refine⟨_,x,hx,?_⟩
   obtain⟨q,hqm,he⟩:=List.mem_map.1 (za7 _ _ _ hx)
   simp only[Prod.mk.injEq]at he
   have hqp:q.1=p.1:=by
    grind[inN,zjo]
   have:q.2=p.2:=by
    grind
   rw[←he.2,this]
   show inG hp p.2.gen=g'
   grind
  grind
 have range1:∀g k,M1 g=some (some k)→∃g0,M g0=some (some k):=fun g k hm=>let ⟨g1,_,_,h3⟩:=hM1b g _ hm;⟨g1,h3⟩
 refine(hA.2 w S M1 cargs (by grind) (fun j v c hv hc=>?_) heap1 hS (fun g k hm=>let ⟨g0,h0⟩:=range1 g k hm;hM g0 k h0)).mono ?_
 ·obtain⟨c0,h1,rfl⟩:=getElem?_mapped hc
  exact((hC j v c0 hv h1).wkIf ex).rlA rl1
 intro e w' ⟨v,r,h',S',M2,clk2,he,⟨hr0,hh',hc2⟩,hCr,hw⟩
 subst hr0
 subst hh'
 subst hc2
 have hw:=hw 0
 -- back
 have gens:∀(i:Nat) p,hp[i]? = some p→∀(j:Nat) q,hp[j]? = some q→p.2.gen=q.2.gen→i=j:=by
  intro i p hi j q hj hg
  have h1:=hh.gens _ _ _ _ (hml p (List.mem_of_getElem? hi)) (hml q (List.mem_of_getElem? hj)) hg
  refine zh2 l hnd i j p.1 ?_ ?_
  all_goals grind
 have low:∀g m,M2 g=some m→g<hp.length∨hp.length+1≤g:=by
  intro g m hm
  rcases Nat.lt_or_ge g (hp.length+1) with h1 | h1
  ·obtain⟨g1,h2,h3,_⟩:=hM1b g m (hw.ext.hM g m h1 hm)
   have:=zgw hp g1 0 h2
   unfold inG at h3
   omega
  omega
 have outLt:∀g,g<hp.length→∃p,hp[g]? = some p∧outG hp clk g=p.2.gen∧p.2.gen<clk:=by
  intro g hg
  have h1:hp[g]? = some (hp[g]'hg):=List.getElem?_eq_getElem hg
  refine⟨_,h1,by simp[outG,h1],(hh.box _ _ (hml _ (List.getElem_mem hg))).1⟩
 have outGe:∀g,hp.length≤g→outG hp clk g=clk+(g-hp.length):=by
  grind[outG]
 have inj2:∀g1 g2,(∃m,M2 g1=some m)→outG hp clk g1=outG hp clk g2→g1=g2:=by
  intro g1 g2 ⟨m,hm⟩ he
  rcases Nat.lt_or_ge g1 hp.length with h1 | h1<;>rcases Nat.lt_or_ge g2 hp.length with h2 | h2
  all_goals grind
 generalize hM3:(fun g'=>if h:∃g,(∃m,M2 g=some m)∧outG hp clk g=g' then M2 (Classical.choose h) else none:Map)=M3
 have hM3a:∀g,(∃m,M2 g=some m)→M3 (outG hp clk g)=M2 g:=by
  intro g hg
  have h:∃g0,(∃m,M2 g0=some m)∧outG hp clk g0=outG hp clk g:=⟨g,hg,rfl⟩
  grind
 have hM3b:∀g' m,M3 g'=some m→∃g,outG hp clk g=g'∧M2 g=some m:=by
  grind
 have rl2:Rlb M2 M3 clk2 (clk+(clk2-hp.length)) (outG hp clk):=by
  refine⟨fun g hg=>⟨?_,?_⟩⟩
  ·grind
  ·rcases Nat.lt_or_ge g hp.length with h1 | h1
   all_goals grind
 have back:∀g m,g<clk→M3 g=some m→∃g1,g1<hp.length∧M2 g1=some m∧M1 g1=some m∧M g=some m:=by
  intro g m hg hm
  obtain⟨g1,h1,h2⟩:=hM3b _ _ hm
  have hlt:g1<hp.length:=by
   grind
  have h3:=hw.ext.hM g1 m (by grind) h2
  obtain⟨g2,h4,h5,h6⟩:=hM1b _ _ h3
  obtain⟨p,a1,a2,_⟩:=outLt g1 hlt
  obtain⟨q,b1,b2,_⟩:=zmg hp g2 0 h4
  grind[inG]
 refine⟨v,_,_,S',M3,_,he,⟨rfl,rfl,rfl⟩,hCr.rlA rl2,fun nt=>⟨?_,?_,?_,fun k o hs=>?_,hw.Slt,fun g k hm=>?_⟩⟩
 ·refine hw.heap.rl (ex:=true) (σn:=outN l d) (σg:=outG hp clk) (D:=fun g=>∃m,M2 g=some m) rl2 (fun b' bx' hb=>?_) (fun g' m hm=>?_) (fun g1 g2 h1 _ he=>inj2 g1 g2 h1 he) (fun g' m hm=>?_)
  ·obtain⟨p,hpm,he⟩:=List.mem_map.1 (za7 _ _ _ hb)
   cases he
   have h1:=zd9 h' hnd' p hpm
   obtain⟨_,_,m,hm,_⟩:=hw.heap.box _ _ h1
   grind
  ·obtain⟨g1,h1,h2⟩:=hM3b _ _ hm
   obtain⟨b,bx,h3,h4⟩:=hw.heap.live g1 m h2
   refine⟨outN l d b,rlBox true (outN l d) (outG hp clk) bx,?_,by show outG hp clk bx.gen=g';grind⟩
   exact zd9 _ hnd2 (outN l d b,rlBox true (outN l d) (outG hp clk) bx) (List.mem_map.2 ⟨(b,bx),za7 _ _ _ h3,rfl⟩)
  grind
 ·refine⟨hw.ext.hS,hw.ext.hcell,by grind,fun g m hg hm=>?_,fun g k arr e hg hm hb=>?_⟩
  ·grind
  ·obtain⟨g1,h1,h2,_,_⟩:=back g _ hg hm
   exact hw.ext.hblk g1 k arr e (by grind) h2 hb
 ·exact⟨hw.fr.os,hw.fr.tape,hw.fr.output,hw.fr.size,fun k hk hn=>hw.fr.block k hk fun⟨g,hm⟩=>hn (range1 g k hm)⟩
 ·rcases hw.Snew k o hs with h1 | h1 | ⟨g,h1⟩
  ·grind
  ·grind
  ·exact .inr (.inr (range1 g k h1))
 ·obtain⟨g1,h1,h2⟩:=hM3b _ _ hm
  obtain⟨h3,h4⟩:=hw.Mnew g1 k h2
  refine⟨h3,?_⟩
  rcases h4 with h4 | ⟨g,h4⟩
  ·grind
  ·exact .inr (range1 g k h4)
theorem PCall.wk{P:Program}{f:FuncId}{xs:List AV}{post:AV→Prop}{ex:Bool}(h:PCall P f (xs.map (wkIf ex)) post):PCall P f xs post:=
 ⟨h.1,fun w S cargs hl hC hS=>h.2 w S cargs (by grind) (fun j v c hv hc=>by
  obtain⟨c0,h1,rfl⟩:=getElem?_mapped hc
  exact(hC j v c0 hv h1).wkIf ex) hS⟩
end
section
open Go.RowKit
def mapOp(ν:Nat→FuncId)(τ:Nat→Nat):AOp→AOp
 | .call u args=>.call (ν u) args
 | .ifc k x=>.ifc (τ k) x
 | .inv nm _ _ r args=>.inv nm 0 (if nm="()" then 1 else 0) r args
 | .xop (.mkf k) xs=>.xop (.mkf (τ k)) xs
 | .xop (.mkv k) xs=>.xop (.mkv (τ k)) xs
 | op=>op
def mapAO(ν:Nat→FuncId)(τ:Nat→Nat)(o:AO):AO:=⟨o.dst,o.guard,mapOp ν τ o.op⟩
def mapDO(ν:Nat→FuncId)(τ:Nat→Nat)(o:DO):DO:=⟨mapAO ν τ o.ao,o.lo,o.hi⟩
def er(ν:Nat→FuncId)(τ:Nat→Nat):AX→AC
 | .skip=>.skip
 | .reg l=>.reg (l.map (mapAO ν τ))
 | .draw l=>.draw (l.map (mapDO ν τ))
 | .seq a b=>.seq (er ν τ a) (er ν τ b)
 | .cond c x y=>.cond c (er ν τ x) (er ν τ y)
 | .block id c=>.block id (er ν τ c)
 | .loop c=>.loop (er ν τ c)
 | .exit id=>.exit id
 | .ret=>.ret
 | .note c _=>er ν τ c
 | .pre _ c=>er ν τ c
 | .scope c=>.scope (er ν τ c)
 | .lp id _ c _=>.block id (.loop (er ν τ c))
 | .bad=>.bad
 | .drawT hd tl=>.drawT (hd.map (mapAO ν τ)) (tl.map (mapAO ν τ))
 | .drawM hd tl=>.drawM (hd.map (mapAO ν τ)) (tl.map (mapAO ν τ))
 | .drawC l1 o l2 tl=>.drawT (l1.map (mapAO ν τ)++mapAO ν τ o::l2.map (mapAO ν τ)) (tl.map (mapAO ν τ))
 | .drawN l1 o l2=>.draw (l1.map (mapDO ν τ) ++ ⟨mapAO ν τ o,0,0⟩::l2.map (mapDO ν τ))
 | .drawR hd tl=>.drawT (hd.map (mapAO ν τ)) (tl.map (mapAO ν τ))
 | .drawP l1 o l2 da cs n xs vs=>.draw (l1.map (mapDO ν τ) ++ ⟨mapAO ν τ o,0,1⟩::(l2.map (mapDO ν τ)++[⟨⟨some da,none,.alloc cs⟩,0,1⟩,⟨⟨none,none,.store n xs vs⟩,1,2⟩]))
 | .prim _=>.bad
 | .label l=>.label l
 | .goto l=>.goto l
 | .gsc l c r=>.gsc l (er ν τ c) (er ν τ r)
def erF(ν:Nat→FuncId)(τ:Nat→Nat)(af:AFx):AF:=⟨af.np,af.nt,af.res,er ν τ af.body⟩
def Ex.out:Ex→Exit
 | .n=>.normal
 | .x id=>.exit id
 | .r=>.ret
 | .g l=>.goto l
def LWp(cx:Cx)(c:AC)(Q:Exit→St→Prop)(st:St):Prop:=
 ∀code,resCode cx.P cx.nt code=some c→cx.P.follows .mixedOrders=true→∀a w,Rel cx st a w→∀(b:Frame) (k:List Item) (cs:List Frame),
  ∃e a' w',(∃st',Q e st'∧Rel cx st' a' w')∧Arrives cx.P (lone (b.at a (.code code :: .inLoop code::k)) cs w) b k cs e a' w'
theorem zxw{cx:Cx}{c:AC}{Q:Exit→St→Prop}{st:St}(h:AWp cx c (thenK (fun s=>LWp cx c Q s) Q) st):LWp cx c Q st:=by
 intro code hc hm a w hr b k cs
 obtain⟨ex,a1,w1,⟨st1,hq1,hrel1⟩,harr⟩:=h code hc hm a w hr b (.inLoop code::k) cs
 cases ex with
 | normal=>
  obtain⟨e2,a2,w2,hq2,harr2⟩:=hq1 code hc hm a1 w1 hrel1 b k cs
  exact⟨e2,a2,w2,hq2,.of_steps (Steps.trans harr (.one step_inLoop)) harr2⟩
 | exit id=>exact⟨_,a1,w1,⟨st1,hq1,hrel1⟩,.pass (x:=.inLoop code) rfl (fun _ _=>.inl (by simp)) harr⟩
 | goto l=>exact⟨_,a1,w1,⟨st1,hq1,hrel1⟩,.pass (x:=.inLoop code) rfl (fun _ _=>.inl (by simp)) harr⟩
 | ret=>exact⟨_,a1,w1,⟨st1,hq1,hrel1⟩,.pass (x:=.inLoop code) rfl (fun _ _=>.inl (by simp)) harr⟩
 | panic ch=>exact⟨_,a1,w1,⟨st1,hq1,hrel1⟩,.pass (x:=.inLoop code) rfl (fun _ _=>.inl (by simp)) harr⟩
 | outgrown=>exact⟨_,a1,w1,⟨st1,hq1,hrel1⟩,.pass (x:=.inLoop code) rfl (fun _ _=>.inl (by simp)) harr⟩
theorem zh3{cx:Cx}{c:AC}{Q:Exit→St→Prop}{st:St}(h:LWp cx c Q st):AWp cx (.loop c) Q st:=by
 intro code hc hm a w hr
 have hcode:=hc
 cases code<;>simp only[resCode]at hc<;>try cases hc
 case loop c1=>
  obtain⟨x',hx,he⟩:=map_some hc
  cases he
  intro b k cs
  obtain⟨e,a',w',hq,harr⟩:=h c1 hx hm a w hr b k cs
  exact⟨e,a',w',hq,.of_steps (.one step_loop) harr⟩
 case region id ops draw=>
  rcases zai hcode with ⟨_,l,_,h1⟩ | ⟨_,l,_,⟨n,_,h1⟩ | ⟨_,h1⟩ | ⟨n,_,h1⟩ | h1⟩<;>cases h1
 all_goals simp[Option.bind_eq_some_iff]at hc
theorem LWp.mono{cx:Cx}{c:AC}{Q Q':Exit→St→Prop}{st:St}(h:LWp cx c Q st)(hq:∀ex st,Q ex st→Q' ex st):LWp cx c Q' st:=
 fun code hc hm a w hr b k cs=>let ⟨e,a',w',⟨st',h1,h2⟩,h3⟩:=h code hc hm a w hr b k cs;⟨e,a',w',⟨st',hq _ _ h1,h2⟩,h3⟩
def Is(e:Ex)(st':St):Exit→St→Prop:=fun ex s=>ex=e.out∧s=st'
theorem zbj{ν:Nat→FuncId}{τ:Nat→Nat}(op:AOp):(mapOp ν τ op).writes=op.writes:=by
 cases op<;>first | rfl | (rename_i k xs;cases k<;>rfl)
theorem zxx(j:Nat):mname j≠"()":=by
 unfold mname
 grind
theorem zmh{T:Tbl}{k:Nat}{nm:String}{u:Nat}(h:(nm,u)∈methsT T k):nm≠"()":=by
 grind[methsT,methsA,zxx]
structure GoodO (P:Program) (ν:Nat→FuncId) (T:Tbl) (O:Orc):Prop where
 meth:∀k nm u,(nm,u)∈methsT T k→methOf P (tyNum T k) nm=some (ν u)
 fnn:∀k u,funT T k=some u→tyNum T k=ν u
 pure:∀u af xs r h,T u=some af→af.lent=none→O.call u xs []=some (r,h)→PCall P (ν u) xs (·=r)
 lent:∀u af ms xs hb r hb',T u=some af→af.lent=some ms→O.call u xs hb=some (r,hb')→ACall P (ν u) xs hb (hb.length+1) (fun r1 h1 c1=>r1=r∧h1=hb'∧c1=hb.length+hb'.length+2)
 loop:∀k c st e st',O.loop k c st=some (e,st')→∀cx:Cx,cx.P=P→cx.clk0=k+1→LWp cx (er ν (tyNum T) c) (Is e st') st
section
variable{P:Program}{ν:Nat→FuncId}{T:Tbl}{O:Orc}
theorem zi5(q:BId→Bool)(h:Heap)(b:BId):(h.filter fun p=>!q p.1).lookup b=if q b=true then none else h.lookup b:=by
 induction h with
 | nil=>simp
 | cons p h ih=>
  grind
theorem zc8(hO:GoodO P ν T O){u:Nat}{xs:List AV}{d:Option Nat}{st st':St}{K:St→Prop}(h:callX O T u xs d st=some st')(hK:K st') :
  callP P (ν u) xs st.heap (fun r h=>K ⟨putE st.env d r,h,st.clk⟩)∨callB P (ν u) xs st.heap st.clk (fun r h c=>K ⟨putE st.env d r,h,c⟩):=by
 unfold callX at h
 split at h
 ·cases h
 rename_i af hT
 split at h
 ·rename_i hl
  obtain⟨ys,h1,h2⟩:=bind_some h
  obtain⟨r,h3,h4⟩:=bind_some h2
  refine .inl ⟨ys,(·=r.1),h1,(hO.pure u af _ r.1 r.2 hT hl h3).wk,?_⟩
  grind
 ·rename_i ms hl
  obtain⟨ys,h1,h2⟩:=bind_some h
  simp only at h2
  generalize hh1:shareIds (refsM ms xs) st.heap=h1' at *
  generalize hll:reach h1' 40 (rootsM ms xs) []=l at *
  generalize hhp:pickH h1' l=hp at *
  split at h2
  ·rename_i hc
   obtain⟨r,h3,h4⟩:=bind_some h2
   generalize hhb:(r.2.map fun p=>(outN l (d.getD 0) p.1,rlBox true (outN l (d.getD 0)) (outG hp st.clk) p.2))=hb' at *
   split at h4
   ·rename_i hchk
    cases h4
    simp only[Bool.and_eq_true,decide_eq_true_eq]at hchk
    obtain⟨⟨k2,k3⟩,k4⟩:=hchk
    have hmem:∀b bx,hp.lookup b=some bx→h1'.lookup b=some bx:=by
     intro b bx hb
     have:=za7 _ _ _ hb
     rw[←hhp]at this
     exact zfl this
    have hin:∀b,(hp.lookup b).isSome=true↔b∈l:=by
     intro b
     constructor
     ·intro hb
      obtain⟨bx,hb⟩:=Option.isSome_iff_exists.1 hb
      rw[←hc.1]
      exact List.mem_map.2 ⟨_,za7 _ _ _ hb,rfl⟩
     ·intro hb
      rw[←hc.1]at hb
      obtain⟨p,hp1,rfl⟩:=List.mem_map.1 hb
      obtain⟨x,hx⟩:=zf6 _ _ hp1
      grind
    have hlk:∀id,(h1'.filter fun p=>!(l.contains p.1 || (hb'.map (·.1)).contains p.1)).lookup id=if (l.contains id || (hb'.map (·.1)).contains id)=true then none else h1'.lookup id:=
     fun id=>zi5 (fun b=>l.contains b || (hb'.map (·.1)).contains b) h1' id
    refine .inr ⟨ms,ys,h1,hp,h1'.filter (fun p=>!(l.contains p.1 || (hb'.map (·.1)).contains p.1)),_,⟨fun id bx hid=>?_,fun id bx hid=>?_⟩,fun id hid=>?_,ACall.rl hc.1 hc.2 (by rw[hhb];omega) (by
     have:=hO.lent u af ms _ _ r.1 r.2 hT hl h3
     rw[List.length_map]at this
     exact this),?_⟩
    ·grind
    ·grind
    ·rw[hlk,if_pos (by grind)]
    ·rintro r' h' c' hle ⟨rfl,rfl,rfl⟩
     rw[hhb]
     grind
   grind
  grind
theorem zt6(hO:GoodO P ν T O){op:AOp}{d:Option Nat}{st st':St}{K:St→Prop}(h:opX O T op d st=some st')(hK:K st'):opK P (mapOp ν (tyNum T) op) d st K:=by
 cases op<;>simp only[opX]at h
 case call u args=>exact zc8 hO h hK
 case ifc k x=>
  cases h
  exact⟨_,rfl,hK⟩
 case inv nm k u r args=>
  split at h
  ·rename_i t y hy
   split at h
   ·rename_i hc
    obtain⟨rfl,hm⟩:=hc
    exact .inl ⟨if_neg (zmh hm),_,y,_,hy,hO.meth k nm u hm,zc8 hO h hK⟩
   grind
  ·rename_i f x hy
   split at h
   ·rename_i hc
    obtain⟨rfl,rfl,hm⟩:=hc
    have hc:=zc8 hO h hK
    rw[←hO.fnn k u hm]at hc
    exact .inr (.inl ⟨rfl,_,x,hy,hc⟩)
   grind
  ·rename_i f id g z i o hy
   split at h
   ·rename_i hc
    obtain⟨rfl,rfl,hm⟩:=hc
    have hc:=zc8 hO h hK
    rw[←hO.fnn k u hm]at hc
    exact .inr (.inr ⟨rfl,_,id,g,z,i,o,hy,z1p hm,hc⟩)
   grind
  grind
 case xop k xs=>
  cases k
  all_goals
   obtain⟨q,h1,rfl⟩:=map_some h
   exact⟨q,h1,hK⟩
 all_goals
  obtain⟨q,h1,rfl⟩:=map_some h
  exact⟨q,h1,hK⟩
theorem zmi(hO:GoodO P ν T O){o:AO}{st st':St}{K:St→Prop}(h:stepX O T o st=some st')(hK:K st'):stepK P (mapAO ν (tyNum T) o) st K:=by
 grind[stepX,stepK,mapAO,zt6,gX]
theorem zcz(hO:GoodO P ν T O):∀(l:List AO) (st st':St) (K:St→Prop),runX O T l st=some st'→K st'→runK P (l.map (mapAO ν (tyNum T))) st K
 | [],st,st',K,h,hK=>by cases h;exact hK
 | o::l,st,st',K,h,hK=>by
  obtain⟨s1,h1,h2⟩:=bind_some h
  exact zmi hO h1 (zcz hO l s1 st' K h2 hK)
theorem zmj(hO:GoodO P ν T O){op:AOp}{e:Env}{h:Heap}{older:List Heap}{x:AV}{K:AV→Prop}(hx:opD O T op e h older=some x)(hK:K x):opQ P (mapOp ν (tyNum T) op) e h older K:=by
 by_cases hap:∃z x0 y,op=.app z x0 y
 ·obtain⟨z,x0,y,rfl⟩:=hap
  by_cases hc:x0=.c (.sl [] .nl)
  ·subst hc
   exact⟨x,hx,hK⟩
  ·exfalso
   cases x0 with
   | t n=>simp[opD,stepQ]at hx
   | c a=>
    cases a
    case sl els f=>
     cases els with
     | nil=>cases f<;>first | exact hc rfl | simp[opD,stepQ]at hx
     | cons r l=>simp[opD,stepQ]at hx
    all_goals simp[opD,stepQ]at hx
 cases op<;>(try exact absurd ⟨_,_,_,rfl⟩ hap)<;>simp only[opD]at hx
 case call u args=>
  split at hx
  ·grind
  rename_i af hT
  split at hx
  ·rename_i hc
   simp only[Bool.and_eq_true]at hc
   obtain⟨r,h1,rfl⟩:=map_some hx
   exact⟨_,⟨zds hc.2,fun hf=>by grind⟩,r.1,(hO.pure u af _ r.1 r.2 hT (by simp_all) h1).wk,hK⟩
  grind
 case ifc k x=>
  cases hx
  exact⟨_,rfl,trivial,hK⟩
 case inv nm k u r args=>
  split at hx
  ·rename_i t y hy
   split at hx
   ·rename_i hc0
    obtain⟨rfl,hm⟩:=hc0
    split at hx
    ·grind
    rename_i af hT
    split at hx
    ·rename_i hc
     simp only[Bool.and_eq_true]at hc
     obtain⟨r,h1,rfl⟩:=map_some hx
     exact⟨if_neg (zmh hm),_,y,_,hy,hO.meth k nm u hm,hc.2,r.1,(hO.pure u af _ r.1 r.2 hT (by simp_all) h1).wk,hK⟩
    grind
   grind
  grind
 case bsl z zs len ps=>
  split at hx
  ·rename_i hc
   obtain⟨q,h1,rfl⟩:=map_some hx
   exact⟨hc,q,h1,hK⟩
  grind
 case xop k xs=>
  simp_all
 all_goals
  obtain⟨q,h1,h2⟩:=bind_some hx
  split at h2
  ·rename_i hc
   cases h2
   refine⟨_,h1,?_,hK⟩
   rcases zq9 hc with hc | hc
   ·simp only[mapOp]
    rw[hc]
    trivial
   ·simp only[mapOp]
    split
    ·trivial
    ·exact hc
  ·cases h2
theorem zpk{o:AO}{e:Env}{h':Heap}{x:AV}(hf:o.op.free=false)(hw:o.op.writes=false)(hg:o.guard=none∨∃t want,o.guard=some (t,want)∧e.get t=.b want)(hs:stepP o.op e.get h'=some x):QF P h' (mapAO ν (tyNum T) o) e.get x:=by
 have hq:QOp P (mapOp ν (tyNum T) o.op) e.get h' x:=by
  obtain⟨d,g,op⟩:=o
  by_cases hap:∃z x0 y,op=.app z x0 y
  ·obtain⟨z,x0,y,rfl⟩:=hap
   by_cases hc:x0=.c (.sl [] .nl)
   all_goals simp_all
  cases op<;>first | exact absurd ⟨_,_,_,rfl⟩ hap | exact hs | (cases hf;done) | (cases hw;done) | (cases hs)
 grind[QF,mapAO]
theorem zt7{o:AO}{e:Env}{h':Heap}(hg:∃t want,o.guard=some (t,want)∧(e.get t=.b (!want)∨e.get t=.tup [])):QF P h' (mapAO ν (tyNum T) o) e.get (.tup []):=by
 grind[QF,mapAO]
theorem zpl{o:AO}{e:Env}{h h':Heap}{x:AV}(hf:o.op.freeE e.get=true)(hq:QF P h (mapAO ν (tyNum T) o) e.get x):QF P h' (mapAO ν (tyNum T) o) e.get x:=
 zkg (o:=mapAO ν (tyNum T) o) (by show (mapOp ν (tyNum T) o.op).freeE e.get=true;cases hop:o.op<;>rw[hop]at hf<;>first | rfl | exact hf | cases hf) h h' hq
theorem zpm{o:AO}{e:Env}{h:Heap}{older:List Heap}{r:AV×Bool}(hx:qX O T o e h older=some r)(hr:r.2=true)(hf:o.op.free=true):o.op.freeE e.get=true:=by
 cases hop:o.op
 case call u args=>
  have key:∀x,opD O T (.call u args) e h older=some x→(args.map (ev e.get)).all noRef=true:=by
   grind[opD]
  unfold qX at hx
  rw[hop]at hx
  split at hx
  ·obtain⟨x,h1,_⟩:=map_some hx;exact key x h1
  ·split at hx
   ·split at hx
    ·obtain⟨x,h1,_⟩:=map_some hx;exact key x h1
    grind
   all_goals grind
 all_goals (rw[hop]at hf;exact hf)
theorem zeo(hO:GoodO P ν T O){o:AO}{e:Env}{h:Heap}{older:List Heap}{r:AV×Bool}{K:AV→Prop}(hx:qX O T o e h older=some r)(hK:K r.1) :
  qK P (mapAO ν (tyNum T) o) e h older K∧(r.2=true→(o.guard=none∨∃t want,o.guard=some (t,want)∧e.get t=.b want))∧(r.2=false→r.1=.tup []∧∃t want,o.guard=some (t,want)∧(e.get t=.b (!want)∨e.get t=.tup [])):=by
 unfold qX at hx
 unfold qK
 simp only[mapAO]
 cases hg:o.guard with
 | none=>
  rw[hg]at hx
  obtain⟨x,h1,rfl⟩:=map_some hx
  grind[zmj]
 | some p=>
  obtain⟨t,want⟩:=p
  rw[hg]at hx
  simp only at hx ⊢
  cases hx2:e.get t with
  | b v=>
   rw[hx2]at hx
   simp only at hx ⊢
   split at hx
   ·rename_i hv
    obtain⟨x,h1,rfl⟩:=map_some hx
    grind[zmj]
   ·rename_i hv
    rw[if_neg hv]
    cases hx
    refine⟨hK,?_,?_⟩
    ·grind
    intro _
    refine⟨rfl,t,want,rfl,.inl ?_⟩
    cases v<;>cases want<;>simp_all
  | tup l=>
   grind
  | _=>rw[hx2]at hx;simp at hx
theorem zcf{pend:PendX}{h:Heap}(hp:pendOk pend h=true):∀p∈pend,0<p.1→stepP p.2.1 p.2.2.1.get h=some p.2.2.2:=by
 grind[pendOk]
def PendRel(pendX:PendX)(pend:Pend):Prop:=∀q∈pend,(∀h',q.2 h')∨q.1=0∨∃p∈pendX,p.1=q.1∧∀h',stepP p.2.1 p.2.2.1.get h'=some p.2.2.2→q.2 h'
theorem PendRel.next{pendX:PendX}{pend:Pend}(h:PendRel pendX pend):PendRel (pendX.map fun p=>(p.1-1,p.2)) (pend.map fun p=>(p.1-1,p.2)):=by
 intro q hq
 obtain⟨q0,h1,rfl⟩:=List.mem_map.1 hq
 rcases h q0 h1 with h2 | h2 | ⟨p,h2,h3,h4⟩
 ·grind
 ·omega
 ·exact .inr (.inr ⟨_,List.mem_map.2 ⟨p,h2,rfl⟩,by omega,h4⟩)
theorem zc9(hO:GoodO P ν T O):∀(l:List DO) (e:Env) (h:Heap) (clk:Nat) (older:List Heap) (pendX:PendX) (pend:Pend) (st':St) (K:St→Prop),PendRel pendX pend→drawX O T l e h clk older pendX=some st'→K st'→drawL P (l.map (mapDO ν (tyNum T))) e h clk older pend K
 | [],e,h,clk,older,pendX,pend,st',K,hpr,hx,hK=>by cases hx;exact hK
 | o::l,e,h,clk,older,pendX,pend,st',K,hpr,hx,hK=>by
  simp only[drawX]at hx
  simp only[List.map_cons,drawL]
  have hw:(mapDO ν (tyNum T) o).ao.op.writes=o.ao.op.writes:=by
   exact zbj _
  rw[hw]
  cases ho:o.ao.op.writes with
  | true=>
   rw[ho]at hx
   simp only at hx ⊢
   split at hx
   ·rename_i hg
    obtain⟨q,h1,h2⟩:=bind_some hx
    split at h2
    ·rename_i hpd
     have e1:mapOp ν (tyNum T) o.ao.op=o.ao.op:=by
      cases hop:o.ao.op<;>rw[hop]at ho<;>first | rfl | (simp[AOp.writes]at ho;done) | (rename_i k xs;cases k<;>first | rfl | simp_all)
     refine⟨by show o.ao.guard=none;simpa using hg,q,?_,fun p hp h0=>?_,zc9 hO l _ _ _ _ _ _ st' K hpr.next h2 hK⟩
     ·show stepW (mapOp ν (tyNum T) o.ao.op) o.ao.dst e.get h clk=some q
      grind
     ·rcases hpr p hp with h3 | h3 | ⟨p',h3,h4,h5⟩
      ·grind
      ·omega
      ·exact h5 _ (zcf hpd p' h3 (by omega))
    grind
   grind
  | false=>
   rw[ho]at hx
   simp only at hx ⊢
   split at hx
   rotate_left
   ·rename_i p hrow
    obtain⟨x,h1,h2⟩:=bind_some hx
    obtain⟨hg,args,hop,hfr,hold⟩:=zfk hrow
    unfold callR at h1
    split at h1
    ·grind
    rename_i af hT
    split at h1
    rotate_left
    ·grind
    obtain⟨r,h3,rfl⟩:=map_some h1
    have hcall:PCall P (ν p.1) p.2 (·=r.1):=(hO.pure p.1 af _ r.1 r.2 hT (by simp_all) h3).wk
    have hao:mapAO ν (tyNum T) o.ao=⟨o.ao.dst,none,.call (ν p.1) args⟩:=by unfold mapAO;rw[hg,hop];rfl
    show qK P (mapAO ν (tyNum T) o.ao) e h (older.take (older.length-o.lo)) _
    rw[hao]
    refine⟨p.2,⟨hfr,fun _=>hold⟩,r.1,hcall,?_⟩
    refine zc9 hO l _ _ _ _ _ _ st' K ?_ h2 hK
    intro q hq
    rcases List.mem_cons.1 hq with rfl | hq
    ·by_cases hn:older.length<o.hi
     ·refine .inr (.inr ⟨(o.hi-older.length,o.ao.op,e,.tup p.2),?_,rfl,fun h' hs=>?_⟩)
      ·grind
      ·simp only[hop,stepP]at hs
       obtain⟨zs,h6,h7⟩:=map_some hs
       cases h7
       show QF P h' (mapAO ν (tyNum T) o.ao) e.get r.1
       rw[hao]
       exact⟨_,h6,hcall⟩
     ·exact .inr (.inl (by show o.hi-older.length=0;omega))
    ·rcases hpr q hq with h3 | h3 | ⟨p',h3,h4,h5⟩
     all_goals grind
   obtain⟨r,h1,h2⟩:=bind_some hx
   have key:=fun(K':AV→Prop) (hk:K' r.1)=>zeo hO (K:=K') h1 hk
   refine(key _ ?_).1
   refine zc9 hO l _ _ _ _ _ _ st' K ?_ h2 hK
   obtain⟨_,k1,k2⟩:=key (fun _=>True) trivial
   intro q hq
   rcases List.mem_cons.1 hq with rfl | hq
   ·cases hr2:r.2 with
    | false=>
     obtain⟨h3,h4⟩:=k2 hr2
     exact .inl fun h'=>by
      rw[h3]
      exact zt7 h4
    | true=>
     cases hf:o.ao.op.free with
     | true=>
      obtain⟨hqk,_⟩:=key (fun x=>x=r.1) rfl
      obtain⟨x,hq1,_,hxr⟩:=zqr (o:=mapAO ν (tyNum T) o.ao) (by rw[←ho];exact hw) hqk
      subst hxr
      exact .inl fun h'=>zpl (zpm h1 hr2 hf) hq1
     | false=>
      by_cases hn:older.length<o.hi
      ·refine .inr (.inr ⟨(o.hi-older.length,o.ao.op,e,r.1),?_,rfl,fun h' hs=>zpk hf ho (k1 hr2) hs⟩)
       grind[pendAdd]
      ·exact .inr (.inl (by show o.hi-older.length=0;omega))
   ·rcases hpr q hq with h3 | h3 | ⟨p,h3,h4,h5⟩
    ·grind
    ·omega
    grind[pendAdd]
theorem zh4(hO:GoodO P ν T O)(tl:List AO):∀(l:List AO) (e:Env) (h:Heap) (clk:Nat) (st':St) (K:St→Prop),headX O T tl l e h clk=some st'→K st'→drawTL P (tl.map (mapAO ν (tyNum T))) (l.map (mapAO ν (tyNum T))) e h clk K
 | [],e,h,clk,st',K,hx,hK=>zcz hO tl _ st' K hx hK
 | o::l,e,h,clk,st',K,hx,hK=>by
  obtain⟨r,h1,h2⟩:=bind_some hx
  exact(zeo hO (K:=fun x=>drawTL P (tl.map (mapAO ν (tyNum T))) (l.map (mapAO ν (tyNum T))) (putE e o.dst x) h clk K) h1 (zh4 hO tl l _ h clk st' K h2 hK)).1
theorem ze4(hO:GoodO P ν T O)(tl:List AO):∀(l:List AO) (e:Env) (h:Heap) (clk:Nat) (st':St) (K:St→Prop),headR O T tl l e h clk=some st'→K st'→drawTL P (tl.map (mapAO ν (tyNum T))) (l.map (mapAO ν (tyNum T))) e h clk K
 | [],e,h,clk,st',K,hx,hK=>zcz hO tl _ st' K hx hK
 | o::l,e,h,clk,st',K,hx,hK=>by
  unfold headR at hx
  split at hx
  ·obtain⟨r,h1,h2⟩:=bind_some hx
   exact(zeo hO (K:=fun x=>drawTL P (tl.map (mapAO ν (tyNum T))) (l.map (mapAO ν (tyNum T))) (putE e o.dst x) h clk K) h1 (ze4 hO tl l _ h clk st' K h2 hK)).1
  ·rename_i p hrow
   obtain⟨x,h1,h2⟩:=bind_some hx
   obtain⟨hg,args,hop,hfr,hold⟩:=zfk hrow
   unfold callR at h1
   split at h1
   ·grind
   rename_i af hT
   split at h1
   rotate_left
   ·grind
   obtain⟨r,h3,rfl⟩:=map_some h1
   have hcall:PCall P (ν p.1) p.2 (·=r.1):=(hO.pure p.1 af _ r.1 r.2 hT (by simp_all) h3).wk
   have hao:mapAO ν (tyNum T) o=⟨o.dst,none,.call (ν p.1) args⟩:=by unfold mapAO;rw[hg,hop];rfl
   have ih:=ze4 hO tl l _ h clk st' K h2 hK
   show qK P (mapAO ν (tyNum T) o) e h [] _
   rw[hao]
   exact⟨p.2,⟨hfr,fun _=>hold⟩,r.1,hcall,ih⟩
theorem zf7{c0:Nat}{op:AOp}{e:Env}{l:List Nat}{ν:Nat→FuncId}{τ:Nat→Nat}(h:contB c0 op e l=true):∀g∈l,contG c0 (mapOp ν τ op) e.get g:=by
 intro g hg
 have h1:=List.all_eq_true.1 h g hg
 simp only[Bool.or_eq_true,decide_eq_true_eq,List.any_eq_true,List.contains_iff_mem]at h1
 rcases h1 with h1 | ⟨t,ht,h2⟩
 ·exact .inl h1
 ·refine .inr ⟨t,?_,h2⟩
  cases op<;>first | exact ht | (cases ht;done) | (rename_i k xs;cases k<;>first | exact ht | cases ht)
theorem zoa(hO:GoodO P ν T O){u:Nat}{xs:List AV}{d clk:Nat}{q:AV×Heap×Nat}(h:callM O T u xs d clk=some q):∃m,q.2.2=clk+m∧CallB P (ν u) xs clk q.1 q.2.1 m:=by
 unfold callM at h
 split at h
 ·cases h
 rename_i af hT
 split at h
 ·cases h
 rename_i ms hl
 split at h
 ·rename_i hn
  obtain⟨r,h3,h4⟩:=bind_some h
  simp only at h4
  split at h4
  ·rename_i hc
   cases h4
   obtain⟨hnd,hg1,hg2⟩:=hc
   refine⟨r.2.length+2,rfl,hn,?_,hnd,fun g hg=>?_,fun p hp g hg=>?_⟩
   ·have hA:=hO.lent u af ms _ _ r.1 r.2 hT hl h3
    have:=ACall.rl (ys:=xs) (hp:=[]) (clk:=clk) (d:=d) (ex:=af.exact) (l:=[]) (r0:=r.1) (hb':=r.2) (c':=0+r.2.length+2) rfl List.nodup_nil (by grind) (by simpa using hA)
    grind
   ·have:=List.all_eq_true.1 hg1 g hg
    grind
   ·obtain⟨hk,rr,hr,y,hy,hgy⟩:=hg
    have h5:=List.all_eq_true.1 hg2 p hp
    simp only[hk,if_true]at h5
    have h6:=List.all_eq_true.1 (List.all_eq_true.1 h5 rr hr) y hy
    have:=List.all_eq_true.1 h6 g hgy
    grind
  grind
 grind
theorem zjp{op:AOp}{ua:Nat×List Opd}(h:op.lentN=some ua):op=.call ua.1 ua.2:=by
 cases op<;>simp only[AOp.lentN]at h<;>try cases h
 grind
theorem zfm(q:BId→Bool):∀(h:Heap) (id:BId),(h.filter fun p=>q p.1).lookup id=if q id then h.lookup id else none
 | [],id=>by grind
 | (c,x)::h,id=>by
  have ih:=zfm q h id
  grind
theorem ze5(ids:List BId)(h:Heap):HSub (dropIds ids h) h:=by
 intro id bx hb
 unfold dropIds at hb
 split at hb
 ·omega
 ·rw[zfm fun b=>!ids.contains b]at hb
  grind
theorem zt8{z d g g' z' off n:Nat}{x' y:Opd}{ρ:Nat→AV}{x:AV}{hp:Heap}{c:Nat}{b:BId}{o:Box}(hv:ev ρ x'=.bs b g' z' off n)(h:stepW (.app z x' y) (some d) ρ [(b,o)] g=some (x,hp,c)) :
  ∃bx,hp=[(b,bx),(b,o)]∧c=g+1∧bx.gen=g:=by
 obtain⟨ys,_,h1⟩:=bind_some h
 rw[hv]at h1
 obtain⟨b0,_,h2⟩:=bind_some h1
 grind
def Inv(X h:Heap)(c0:Nat):Prop:=∀id o,X.lookup id=some o→h.lookup id=some o∨∃o',h.lookup id=some o'∧c0≤o'.gen
theorem zcg(hO:GoodO P ν T O)(tl:List AO)(h0 X:Heap)(c0:Nat)(hX0:HSub h0 X):∀(l:List AO) (e:Env) (h:Heap) (clk:Nat) (st':St) (K:St→Prop),HSub h0 h→c0≤clk→Inv X h c0→headM O T tl h0 c0 X l e h clk=some st'→K st'→drawMG P h0 c0 X (fun e h clk=>runK P (tl.map (mapAO ν (tyNum T))) ⟨e,h,clk⟩ K) (l.map (mapAO ν (tyNum T))) e h clk
 | [],e,h,clk,st',K,_,_,_,hx,hK=>zcz hO tl _ st' K hx hK
 | o::l,e,h,clk,st',K,hsb,hck,hinv,hx,hK=>by
  simp only[headM]at hx
  simp only[List.map_cons,drawMG]
  have hmk:(mapAO ν (tyNum T) o).op.maker=o.op.maker:=by
   obtain⟨d,g,op⟩:=o
   cases op<;>first | rfl | (rename_i k xs;cases k<;>rfl)
  have hsE:(mapAO ν (tyNum T) o).op.isStore=o.op.isStore:=by
   obtain⟨d,g,op⟩:=o
   cases op<;>first | rfl | (rename_i k xs;cases k<;>rfl)
  have hadd:∀(B:Heap),(∀p∈B,h.lookup p.1=none)→HSub h0 (B++h):=by
   intro B hB id bx hid
   have h1:=hsb id bx hid
   grind
  have hiadd:∀(B:Heap),(∀p∈B,h.lookup p.1=none)→Inv X (B++h) c0:=by
   intro B hB id o ho
   have hn:B.lookup id=none:=by
    cases hl:B.lookup id with
    | none=>rfl
    | some y=>
     rcases hinv id o ho with h2 | ⟨o',h2,_⟩<;>(grind)
   rw[zcs,hn]
   simpa using hinv id o ho
  have hXn:∀id,h.lookup id=none→X.lookup id=none:=by
   intro id hid
   cases hl:X.lookup id with
   | none=>rfl
   | some o=>rcases hinv id o hl with h2 | ⟨o',h2,_⟩<;>(grind)
  have h0n:∀id,X.lookup id=none→h0.lookup id=none:=by
   intro id hid
   cases hl:h0.lookup id with
   | none=>rfl
   | some o=>have:=hX0 _ _ hl;grind
  rw[hmk,hsE]
  cases hm:o.op.maker with
  | true=>
   rw[hm]at hx
   simp only at hx ⊢
   split at hx
   ·rename_i d hg hd
    have hop:mapOp ν (tyNum T) o.op=o.op:=by
     obtain⟨d,g,op⟩:=o
     cases op<;>first | rfl | (cases hm;done) | (rename_i k xs;cases k<;>first | rfl | cases hm)
    split at hx
    rotate_left
    ·rename_i p how
     obtain⟨q,h1,h2⟩:=bind_some hx
     split at h2
     ·rename_i hc
      obtain⟨x,hp,c'⟩:=q
      obtain⟨b,bo⟩:=p
      obtain⟨z,x',y,g',z',off,n,hopa,hev⟩:∃z x' y g' z' off n,o.op=.app z x' y∧ev e.get x'=.bs b g' z' off n:=by
       unfold ownO at how
       split at how
       ·rename_i z x' y hoa
        cases hv:ev e.get x'<;>rw[hv]at how<;>simp only[ownA]at how<;>try (cases how;done)
        unfold ownL at how
        grind
       grind
      obtain⟨hb1,⟨ox,hb2⟩,hb3,hb4⟩:h0.lookup b=none∧(∃ox,X.lookup b=some ox)∧h.lookup b=some bo∧bo.gen<c0:=by
       rw[hopa]at how
       simp only[ownO,hev,ownA]at how
       unfold ownL at how
       grind
      have hbx:X.lookup b=some bo:=by
       rcases hinv b ox hb2 with h3 | ⟨o',h3,h4⟩
       all_goals grind
      obtain⟨bx,rfl,rfl,hbg⟩:=zt8 hev (by rw[hopa]at h1;exact h1)
      simp only[List.take_succ_cons,List.take_zero]at h2 hc
      refine⟨hg,d,x,b,bx,some bo,hd,by rw[show (mapAO ν (tyNum T) o).op=o.op from hop];exact h1,hb3,hbx,hb1,fun o2 ho2=>by grind,fun g hgb=>?_,zcg hO tl h0 X c0 hX0 l _ _ _ st' K (fun id y hy=>?_) (by omega) (fun id o2 ho2=>?_) h2 hK⟩
      ·obtain⟨hk,r,hr,y,hy,hgy⟩:=hgb
       simp only[boxB,List.all_cons,List.all_nil,Bool.and_true,hk,if_true,List.all_eq_true]at hc
       exact zf7 (hc r hr y hy) g hgy
      ·have hne:(id == b)=false:=by
        grind
       rw[List.lookup_cons,hne]
       exact hsb id y hy
      ·rw[List.lookup_cons]
       by_cases hi:id=b
       ·grind
       ·have hne:(id == b)=false:=by grind
        rw[hne]
        exact hinv id o2 ho2
     grind
    obtain⟨q,h1,h2⟩:=bind_some hx
    split at h2
    ·rename_i hc
     simp only[Bool.and_eq_true]at hc
     obtain⟨x,hp,c'⟩:=q
     obtain⟨bx,rfl,rfl⟩:∃bx,hp=[(.loc d,bx)]∧c'=clk+1:=znu hm h1
     have hln:h.lookup (.loc d)=none:=Option.isNone_iff_eq_none.1 hc.1
     have hB1:∀p∈[((.loc d:BId),bx)],h.lookup p.1=none:=fun p hp=>by grind
     refine⟨hg,d,x,.loc d,bx,none,hd,by rw[show (mapAO ν (tyNum T) o).op=o.op from hop];exact h1,hln,hXn _ hln,h0n _ (hXn _ hln),fun o2 ho2=>(by grind),fun g hgb=>?_,zcg hO tl h0 X c0 hX0 l _ _ _ st' K (hadd [(.loc d,bx)] hB1) (by omega) (hiadd _ hB1) h2 hK⟩
     obtain⟨hk,r,hr,y,hy,hgy⟩:=hgb
     have h3:=hc.2
     simp only[boxB,List.all_cons,List.all_nil,Bool.and_true,hk,if_true,List.all_eq_true]at h3
     exact zf7 (h3 r hr y hy) g hgy
    grind
   grind
  | false=>
   rw[hm]at hx
   cases hst:o.op.isStore with
   | true=>
    rw[hst]at hx
    simp only at hx ⊢
    split at hx
    ·rename_i hg hd
     obtain⟨q,h1,h2⟩:=bind_some hx
     split at h2
     ·rename_i hfr
      obtain⟨dd,gg,op⟩:=o
      subst hg hd
      cases op<;>try (cases hst;done)
      rename_i n x v
      obtain⟨h',e1,rfl⟩:=map_some h1
      refine⟨rfl,rfl,h',?_,?_,zcg hO tl h0 X c0 hX0 l e h' clk st' K ?_ hck ?_ h2 hK⟩
      ·show stepW (.store n x v) none e.get h clk=_
       simp only[stepW,e1]
       rfl
      rotate_left 2
      ·intro id bx hid
       simp only[freshS]at hfr
       unfold storeAV at e1
       split at e1
       ·rename_i id2 g z i o hx2
        rw[hx2]at hfr
        obtain⟨bx2,_,e2⟩:=bind_some e1
        obtain⟨r2,_,e3⟩:=bind_some e2
        obtain⟨cs,_,e4⟩:=bind_some e3
        split at e4
        ·cases e4
         have hne:(id == id2)=false:=by
          grind
         simp only[List.lookup_cons,hne]
         exact hinv id bx hid
        grind
       grind
      all_goals
       intro id bx hid
       have h3:=hsb id bx hid
       replace hid:=hX0 id bx hid
       simp only[freshS]at hfr
       unfold storeAV at e1
       split at e1
       ·rename_i id2 g z i o hx2
        rw[hx2]at hfr
        simp only[Option.isNone_iff_eq_none]at hfr
        obtain⟨bx2,_,e2⟩:=bind_some e1
        obtain⟨r2,_,e3⟩:=bind_some e2
        obtain⟨cs,_,e4⟩:=bind_some e3
        grind
       grind
     grind
    grind
   | false=>
   rw[hst]at hx
   cases hlN:o.op.lentN with
   | some ua=>
    rw[hlN]at hx
    simp only at hx
    split at hx
    ·rename_i d hg hd
     obtain⟨q,h1,h2⟩:=bind_some hx
     split at h2
     ·rename_i hfr
      obtain⟨m,hm2,hcb⟩:=zoa hO h1
      obtain⟨dd,gg,op⟩:=o
      subst hg hd
      have hop:=zjp hlN
      subst hop
      rw[hm2]at h2
      exact .inr ⟨rfl,ν ua.1,ua.2,d,q.1,q.2.1,m,rfl,rfl,hcb,fun p hp=>by simpa using List.all_eq_true.1 hfr p hp,zcg hO tl h0 X c0 hX0 l _ _ _ st' K (hadd _ fun p hp=>by simpa using List.all_eq_true.1 hfr p hp) (by omega) (hiadd _ fun p hp=>by simpa using List.all_eq_true.1 hfr p hp) h2 hK⟩
     grind
    grind
   | none=>
   rw[hlN]at hx
   obtain⟨x,h1,h2⟩:=bind_some hx
   split at h2
   ·rename_i hc
    refine .inl ?_
    exact(zeo hO (K:=fun x=>(∀g∈gnA x,contG c0 (mapAO ν (tyNum T) o).op e.get g)∧drawMG P h0 c0 X (fun e h clk=>runK P (tl.map (mapAO ν (tyNum T))) ⟨e,h,clk⟩ K) (l.map (mapAO ν (tyNum T))) (putE e o.dst x) h clk) h1 ⟨zf7 hc,zcg hO tl h0 X c0 hX0 l _ h clk st' K hsb hck hinv h2 hK⟩).1
   grind
theorem zt9{O:Orc}{u:Nat}{xs:List AV}{d:Option Nat}{st s:St}(h:callX O T u xs d st=some s):∃r,s.env=putE st.env d r:=by
 unfold callX at h
 split at h
 ·cases h
 split at h
 ·obtain⟨ys,h1,h2⟩:=bind_some h
  obtain⟨r,h3,h4⟩:=bind_some h2
  cases h4
  exact⟨_,rfl⟩
 ·obtain⟨ys,h1,h2⟩:=bind_some h
  simp only at h2
  split at h2
  ·obtain⟨r,h3,h4⟩:=bind_some h2
   split at h4
   ·cases h4
    exact⟨_,rfl⟩
   ·cases h4
  ·cases h2
theorem zrb{f:FuncId}{xs:List AV}{h:Heap}{K K':AV→Heap→Prop}(hk:∀r h,K r h→K' r h)(hc:callP P f xs h K):callP P f xs h K':=by
 obtain⟨ys,post,h1,h2,h3⟩:=hc
 exact⟨ys,post,h1,h2,fun r hr=>hk _ _ (h3 r hr)⟩
theorem zrc{f:FuncId}{xs:List AV}{h:Heap}{clk:Nat}{K K':AV→Heap→Nat→Prop}(hk:∀r h c,K r h c→K' r h c)(hc:callB P f xs h clk K):callB P f xs h clk K':=by
 obtain⟨ms,ys,h1,hb,hr,post,h2,h3,h4,h5⟩:=hc
 refine⟨ms,ys,h1,hb,hr,post,h2,h3,h4,fun r hb' c' h6 h7=>?_⟩
 obtain⟨e1,e2,e3,e4⟩:=h5 r hb' c' h6 h7
 exact⟨e1,e2,e3,hk _ _ _ e4⟩
theorem zpn{op:AOp}{e:Env}{h:Heap}{older:List Heap}{K K':AV→Prop}(hk:∀x,K x→K' x)(hc:opQ P op e h older K):opQ P op e h older K':=by
 by_cases hap:∃z x0 y,op=.app z x0 y
 ·obtain⟨z,x0,y,rfl⟩:=hap
  by_cases hx:x0=.c (.sl [] .nl)
  ·subst hx
   obtain⟨x,h1,h2⟩:=hc
   exact⟨x,h1,hk _ h2⟩
  ·cases x0 with
   | t n=>
    obtain⟨x,h1,h2,h3⟩:=hc
    exact⟨x,h1,h2,hk _ h3⟩
   | c a=>
    cases a
    case sl els f=>
     cases els with
     | nil=>
      cases f
      case nl=>exact absurd rfl hx
      all_goals
       obtain⟨x,h1,h2,h3⟩:=hc
       exact⟨x,h1,h2,hk _ h3⟩
     | cons r l=>
      obtain⟨x,h1,h2,h3⟩:=hc
      exact⟨x,h1,h2,hk _ h3⟩
    all_goals
     obtain⟨x,h1,h2,h3⟩:=hc
     exact⟨x,h1,h2,hk _ h3⟩
 cases op<;>(try exact absurd ⟨_,_,_,rfl⟩ hap)
 case call f args=>
  obtain⟨ys,h1,r,h3,h4⟩:=hc
  exact⟨ys,h1,r,h3,hk _ h4⟩
 case inv=>
  obtain⟨h0,t,y,f,h1,h2,h3,r,h4,h5⟩:=hc
  exact⟨h0,t,y,f,h1,h2,h3,r,h4,hk _ h5⟩
 case bsl=>
  obtain⟨h1,q,h2,h3⟩:=hc
  exact⟨h1,q,h2,hk _ h3⟩
 all_goals
  obtain⟨x,h1,h2,h3⟩:=hc
  exact⟨x,h1,h2,hk _ h3⟩
theorem z1t{o:AO}{e:Env}{h:Heap}{older:List Heap}{K K':AV→Prop}(hk:∀x,K x→K' x)(hc:qK P o e h older K):qK P o e h older K':=by
 unfold qK at hc ⊢
 split at hc
 ·exact zpn hk hc
 ·split at hc
  ·split at hc
   ·rename_i hv
    simp only[hv,if_true]
    exact zpn hk hc
   ·rename_i hv
    simp only[hv,if_false]
    exact hk _ hc
  ·exact hk _ hc
  ·exact hc
theorem zdv(hO:GoodO P ν T O){o:AO}{e:Env}{h:Heap}{clk:Nat}{s:St}(hx:callC O T o ⟨e,h,clk⟩=some s):∃x,CallD P (mapAO ν (tyNum T) o) e.get h clk x s.heap s.clk∧s.env=putE e o.dst x:=by
 obtain⟨dst,g,op⟩:=o
 unfold callC at hx
 simp only at hx
 split at hx
 ·rename_i d u args
  obtain⟨x,hx2⟩:=zt9 hx
  have hc:=zc8 hO (K:=fun s'=>s'=s) hx rfl
  refine⟨x,⟨rfl,ν u,args,rfl,?_⟩,hx2⟩
  have key:∀r (h':Heap) (c:Nat),(⟨putE e (some d) r,h',c⟩:St)=s→r=x∧h'=s.heap∧c=s.clk:=by
   intro r h' c he
   subst he
   simp only[putE]at hx2
   simp_all
  rcases hc with hc | hc
  ·exact .inl (zrb (fun r h' hk=>key r h' clk hk) hc)
  ·exact .inr (zrc (fun r h' c hk=>key r h' c hk) hc)
 ·cases hx
def QS(P:Program)(h0 h1:Heap):List AO→Env→Env→Prop
 | [],e,e'=>e=e'
 | o::r,e,e'=>∃x,QF P h0 o e.get x∧QF P h1 o e.get x∧QS P h0 h1 r (putE e o.dst x) e'
theorem zfn(hO:GoodO P ν T O){o:DO}{e:Env}{h:Heap}{older:List Heap}{r:AV×Bool}(hw:o.ao.op.writes=false)(hx:qX O T o.ao e h older=some r) :
  QF P h (mapAO ν (tyNum T) o.ao) e.get r.1∧(∀h'∈older,QF P h' (mapAO ν (tyNum T) o.ao) e.get r.1)∧((∀h',QF P h' (mapAO ν (tyNum T) o.ao) e.get r.1)∨(r.2=true∧o.ao.op.free=false∧∀h',stepP o.ao.op e.get h'=some r.1→QF P h' (mapAO ν (tyNum T) o.ao) e.get r.1)):=by
 have hw':(mapAO ν (tyNum T) o.ao).op.writes=false:=by
  rw[←hw]
  exact zbj _
 obtain⟨hqk,k1,k2⟩:=zeo hO (K:=fun x=>x=r.1) hx rfl
 obtain⟨x,hq1,hq2,hxr⟩:=zqr hw' hqk
 subst hxr
 refine⟨hq1,fun h' hh=>?_,?_⟩
 ·cases hf:(mapAO ν (tyNum T) o.ao).op.freeE e.get with
  | true=>exact zkg hf h _ hq1
  | false=>exact hq2 hf h' hh
 ·cases hr2:r.2 with
  | false=>
   obtain⟨h3,h4⟩:=k2 hr2
   exact .inl fun h'=>by
    rw[h3]
    exact zt7 h4
  | true=>
   cases hf:o.ao.op.free with
   | true=>exact .inl fun h'=>zpl (zpm hx hr2 hf) hq1
   | false=>exact .inr ⟨rfl,rfl,fun h' hs=>zpk hf hw (k1 hr2) hs⟩
theorem zjq(hO:GoodO P ν T O){K:Env→PendX→Option St}{h:Heap}:∀(l:List DO) (e:Env) (pend:PendX) (st':St),(∀o∈l,0<o.hi)→preC O T K h l e pend=some st' →
  ∃e' pend',K e' pend'=some st'∧∀h1,pendOk pend' h1=true→pendOk pend h1=true∧QS P h h1 (l.map fun o=>mapAO ν (tyNum T) o.ao) e e'
 | [],e,pend,st',_,hx=>⟨e,pend,hx,fun h1 hp=>⟨hp,rfl⟩⟩
 | o::l,e,pend,st',hhi,hx=>by
  unfold preC at hx
  split at hx
  ·cases hx
  rename_i hw
  obtain⟨r,h1,h2⟩:=bind_some hx
  obtain⟨e',pend',h3,h4⟩:=zjq hO l _ _ st' (fun o ho=>hhi o (List.mem_cons_of_mem _ ho)) h2
  obtain⟨q1,_,q2⟩:=zfn hO hw h1
  refine⟨e',pend',h3,fun hp1 hp=>?_⟩
  obtain⟨h5,h6⟩:=h4 hp1 hp
  have hpn:=hhi o List.mem_cons_self
  have hold:pendOk pend hp1=true:=by
   classical
   unfold pendOk
   refine decide_eq_true fun p hp h0=>zcf h5 p ?_ h0
   unfold pendAdd
   split
   ·exact List.mem_cons_of_mem _ hp
   ·exact hp
  refine⟨hold,r.1,q1,?_,h6⟩
  rcases q2 with q2 | ⟨e1,e2,q2⟩
  ·exact q2 hp1
  ·refine q2 hp1 (zcf h5 (o.hi-0,o.ao.op,e,r.1) ?_ (by simpa using hpn))
   unfold pendAdd
   rw[e1,e2]
   simp[hpn]
theorem zmk{h0 h1:Heap}{c0 c1:Nat}{K:St→Prop}{tl:List AO}:∀(l r:List AO) (e e':Env),QS P h0 h1 l e e'→drawCL P tl h0 c0 h1 c1 K false r e'→drawCL P tl h0 c0 h1 c1 K false (l++r) e
 | [],r,e,e',hq,hk=>by cases hq;exact hk
 | o::l,r,e,e',⟨x,h2,h3,h4⟩,hk=>.inl ⟨x,h2,h3,zmk l r _ e' h4 hk⟩
theorem zh5(hO:GoodO P ν T O){K:Env→Option St}{h0 h1:Heap}{c0 c1:Nat}{Q:St→Prop}{tl:List AO}{st':St}(hK:∀e,K e=some st'→runK P tl ⟨e,h1,c1⟩ Q):∀(l:List AO) (e:Env),postC O T K h0 h1 l e=some st' →
  drawCL P tl h0 c0 h1 c1 Q true (l.map (mapAO ν (tyNum T))) e
 | [],e,hx=>⟨rfl,hK e hx⟩
 | o::l,e,hx=>by
  unfold postC at hx
  split at hx
  ·cases hx
  rename_i hw
  obtain⟨r,e1,e2⟩:=bind_some hx
  obtain⟨q1,q2,_⟩:=zfn hO (o:=⟨o,0,0⟩) hw e1
  exact .inl ⟨r.1,q2 h0 List.mem_cons_self,q1,zh5 hO hK l _ e2⟩
theorem zob(hO:GoodO P ν T O){l1 l2 tl:List AO}{o:AO}{st st':St}{K:St→Prop}(hx:headC O T l1 o l2 tl st=some st')(hK:K st') :
  ∃h1 c1,drawCL P (tl.map (mapAO ν (tyNum T))) st.heap st.clk h1 c1 K false (l1.map (mapAO ν (tyNum T))++mapAO ν (tyNum T) o::l2.map (mapAO ν (tyNum T))) st.env:=by
 unfold headC at hx
 obtain⟨e',pend',h1,h2⟩:=zjq hO _ _ _ st' (fun o ho=>by
  obtain⟨o',_,rfl⟩:=List.mem_map.1 ho
  exact Nat.one_pos) hx
 obtain⟨s,h3,h4⟩:=bind_some h1
 split at h4
 ·rename_i hpd
  obtain⟨x,hcd,henv⟩:=zdv hO h3
  obtain⟨_,hqs⟩:=h2 s.heap hpd
  refine⟨s.heap,s.clk,zmk _ _ _ e' (by simpa[List.map_map,Function.comp_def]using hqs) (.inr ⟨rfl,x,hcd,?_⟩)⟩
  show drawCL P _ st.heap st.clk s.heap s.clk K true _ (putE e' o.dst x)
  rw[←henv]
  exact zh5 hO (fun e he=>zcz hO tl _ st' K he hK) l2 _ h4
 ·cases h4
theorem zea{K:St→Prop}:∀(l:List DO) (e:Env) (h:Heap) (clk:Nat) (older:List Heap) (pend:Pend),drawL P l e h clk older pend K→drawNL P (l.map fun o=>(false,o)) e h clk older pend K
 | [],_,_,_,_,_,h=>h
 | o::l,e,h,clk,older,pend,hk=>by
  simp only[List.map_cons,drawNL]
  simp only[drawL]at hk
  cases hw:o.ao.op.writes with
  | true=>
   rw[hw]at hk
   obtain⟨h1,q,h2,h3,h4⟩:=hk
   exact⟨h1,q,h2,h3,zea l _ _ _ _ _ h4⟩
  | false=>
   rw[hw]at hk
   simp only at hk ⊢
   exact z1t (fun x hx=>zea l _ _ _ _ _ hx) hk
theorem zjr(hO:GoodO P ν T O){K:Env→PendX→Option St}{h:Heap}{clk:Nat}{rest:List (Bool×DO)}{Q:St→Prop}{st':St}(hK:∀e pendX pend,PendRel pendX pend→K e pendX=some st'→drawNL P rest e h clk [] pend Q) :
  ∀(l:List DO) (e:Env) (pendX:PendX) (pend:Pend),PendRel pendX pend→preC O T K h l e pendX=some st'→drawNL P ((l.map fun o=>(false,mapDO ν (tyNum T) o))++rest) e h clk [] pend Q
 | [],e,pendX,pend,hpr,hx=>hK e pendX pend hpr hx
 | o::l,e,pendX,pend,hpr,hx=>by
  unfold preC at hx
  split at hx
  ·cases hx
  rename_i hw
  have hw':(mapDO ν (tyNum T) o).ao.op.writes=false:=by
   rw[←hw]
   exact zbj _
  obtain⟨r,h1,h2⟩:=bind_some hx
  simp only[List.map_cons,List.cons_append,drawNL,hw',List.take_nil]
  have hk2:drawNL P ((l.map fun o=>(false,mapDO ν (tyNum T) o))++rest) (putE e o.ao.dst r.1) h clk [] ((o.hi,fun h'=>QF P h' (mapAO ν (tyNum T) o.ao) e.get r.1)::pend) Q:=by
   refine zjr hO hK l _ _ _ ?_ h2
   obtain⟨_,_,q2⟩:=zfn hO hw h1
   intro q hq
   rcases List.mem_cons.1 hq with rfl | hq
   ·rcases q2 with q2 | ⟨e1,e2,q2⟩
    ·exact .inl q2
    ·by_cases hn:0<o.hi
     ·refine .inr (.inr ⟨(o.hi-0,o.ao.op,e,r.1),?_,rfl,q2⟩)
      unfold pendAdd
      rw[e1,e2]
      simp[hn]
     ·exact .inr (.inl (by show o.hi=0;omega))
   ·rcases hpr q hq with h3 | h3 | ⟨p,h3,h4,h5⟩
    ·exact .inl h3
    ·exact .inr (.inl h3)
    ·refine .inr (.inr ⟨p,?_,h4,h5⟩)
     unfold pendAdd
     split
     ·exact List.mem_cons_of_mem _ h3
     ·exact h3
  exact(zeo hO (K:=fun x=>drawNL P ((l.map fun o=>(false,mapDO ν (tyNum T) o))++rest) (putE e o.ao.dst x) h clk [] ((o.hi,fun h'=>QF P h' (mapAO ν (tyNum T) o.ao) e.get x)::pend) Q) h1 hk2).1
theorem zoc(hO:GoodO P ν T O){l1 l2:List DO}{o:AO}{st st':St}{K:St→Prop}(hx:headN O T l1 o l2 st=some st')(hK:K st') :
  drawNL P ((l1.map (mapDO ν (tyNum T))).map (fun o=>(false,adjD 0 o))++(true,⟨mapAO ν (tyNum T) o,0,0⟩)::(l2.map (mapDO ν (tyNum T))).map (fun o=>(false,adjD 0 o))) st.env st.heap st.clk [] [] K∧o.op.writes=false:=by
 unfold headN at hx
 split at hx
 ·cases hx
 rename_i hwn
 refine⟨?_,by simpa using hwn⟩
 have hadj:∀l:List DO,(l.map (mapDO ν (tyNum T))).map (fun o=>(false,adjD 0 o))=(l.map (adjD 0)).map (fun o=>(false,mapDO ν (tyNum T) o)):=fun l=>by
  simp only[List.map_map]
  rfl
 rw[hadj l1,hadj l2]
 refine zjr hO (fun e pendX pend hpr h1=>?_) _ _ _ _ (fun q hq=>by cases hq) hx
 obtain⟨s,h3,h4⟩:=bind_some h1
 split at h4
 ·rename_i hpd
  obtain⟨x,hcd,henv⟩:=zdv hO h3
  refine⟨x,s.heap,s.clk,hcd,fun p hp h0=>?_,?_⟩
  ·rcases hpr p hp with h5 | h5 | ⟨p',h5,h6,h7⟩
   ·exact h5 _
   ·omega
   ·exact h7 _ (zcf hpd p' h5 (by omega))
  ·show drawNL P _ (putE e o.dst x) s.heap s.clk [st.heap] _ K
   rw[←henv]
   have:=zc9 hO (l2.map (adjD 0)) s.env s.heap s.clk [st.heap] _ (pend.map fun p=>(p.1-1,p.2)) st' K hpr.next h4 hK
   have h8:=zea _ _ _ _ _ _ this
   rw[List.map_map]at h8
   exact h8
 ·cases h4
theorem zua{hs hs':List Heap}(h:∀x∈hs',x∈hs):∀(l:List AO) (e e':Env),QL P hs l e e'→QL P hs' l e e'
 | [],e,e',hq=>hq
 | o::l,e,e',⟨x,h1,h2⟩=>⟨x,fun y hy=>h1 y (h y hy),zua h l _ _ h2⟩
theorem zjs(hO:GoodO P ν T O){K:Env→PendX→Option St}{h:Heap}:∀(l:List DO) (e:Env) (pend:PendX) (st':St),(∀o∈l,0<o.hi)→preC O T K h l e pend=some st' →
  (∀o∈l,o.ao.op.writes=false)∧∃e' pend',K e' pend'=some st'∧∀hs:List Heap,(∀h1∈hs,pendOk pend' h1=true)→(∀h1∈hs,pendOk pend h1=true)∧QL P (h::hs) (l.map fun o=>mapAO ν (tyNum T) o.ao) e e'
 | [],e,pend,st',_,hx=>⟨(fun o ho=>by cases ho),e,pend,hx,fun hs hp=>⟨hp,rfl⟩⟩
 | o::l,e,pend,st',hhi,hx=>by
  unfold preC at hx
  split at hx
  ·cases hx
  rename_i hw
  obtain⟨r,h1,h2⟩:=bind_some hx
  obtain⟨hwl,e',pend',h3,h4⟩:=zjs hO l _ _ st' (fun o ho=>hhi o (List.mem_cons_of_mem _ ho)) h2
  obtain⟨q1,_,q2⟩:=zfn hO hw h1
  refine⟨fun o' ho=>?_,e',pend',h3,fun hs hp=>?_⟩
  ·rcases List.mem_cons.1 ho with rfl | ho
   ·exact hw
   ·exact hwl o' ho
  obtain⟨h5,h6⟩:=h4 hs hp
  have hpn:=hhi o List.mem_cons_self
  refine⟨fun hp1 hm=>?_,r.1,fun hp1 hm=>?_,h6⟩
  ·classical
   unfold pendOk
   refine decide_eq_true fun p hp h0=>zcf (h5 hp1 hm) p ?_ h0
   unfold pendAdd
   split
   ·exact List.mem_cons_of_mem _ hp
   ·exact hp
  ·rcases List.mem_cons.1 hm with rfl | hm
   ·exact q1
   ·rcases q2 with q2 | ⟨e1,e2,q2⟩
    ·exact q2 hp1
    ·refine q2 hp1 (zcf (h5 hp1 hm) (o.hi-0,o.ao.op,e,r.1) ?_ (by simpa using hpn))
     unfold pendAdd
     rw[e1,e2]
     simp[hpn]
theorem zh6(hO:GoodO P ν T O){K:Env→Option St}{hs:List Heap}{h1:Heap}{st':St}:∀(l:List AO) (e:Env),postP O T K hs h1 l e=some st' →
  (∀o∈l,o.op.writes=false)∧∃e',K e'=some st'∧QL P (h1::hs) (l.map (mapAO ν (tyNum T))) e e'
 | [],e,hx=>⟨(fun o ho=>by cases ho),e,hx,rfl⟩
 | o::l,e,hx=>by
  unfold postP at hx
  split at hx
  ·cases hx
  rename_i hw
  obtain⟨r,e1,e2⟩:=bind_some hx
  obtain⟨q1,q2,_⟩:=zfn hO (o:=⟨o,0,0⟩) hw e1
  obtain⟨hwl,e',h3,h4⟩:=zh6 hO l _ e2
  refine⟨fun o' ho=>?_,e',h3,r.1,fun hp hm=>?_,h4⟩
  ·rcases List.mem_cons.1 ho with rfl | ho
   ·exact hw
   ·exact hwl o' ho
  ·rcases List.mem_cons.1 hm with rfl | hm
   ·exact q1
   ·exact q2 hp hm
theorem zub{h h':Heap}(hs:subB h h'=true):KSub h h':=by
 classical
 unfold subB at hs
 intro b bx hb
 exact of_decide_eq_true hs (b,bx) (za7 _ _ _ hb)
theorem zod(hO:GoodO P ν T O){cx:Cx}(hP:cx.P=P){l1 l2:List DO}{o:AO}{da n:Nat}{cs:List AV}{xs vs:Opd}{st st':St}{Q:Exit→St→Prop}(hx:headP O T l1 o l2 da cs n xs vs st=some st')(hK:Q .normal st') :
  AWp cx (.draw (l1.map (mapDO ν (tyNum T)) ++ ⟨mapAO ν (tyNum T) o,0,1⟩::(l2.map (mapDO ν (tyNum T))++[⟨⟨some da,none,.alloc cs⟩,0,1⟩,⟨⟨none,none,.store n xs vs⟩,1,2⟩]))) Q st:=by
 subst hP
 unfold headP at hx
 split at hx
 case isFalse=>cases hx
 rename_i hlow
 simp only[Bool.and_eq_true,Bool.not_eq_true']at hlow
 obtain⟨⟨hl1,hl2⟩,how⟩:=hlow
 obtain⟨hw1,e',pend',h1,h2⟩:=zjs hO _ _ _ st' (fun o ho=>by
  obtain⟨o',_,rfl⟩:=List.mem_map.1 ho
  exact Nat.one_pos) hx
 obtain⟨s1,h3,h4⟩:=bind_some h1
 obtain⟨s2,h5,h6⟩:=bind_some h4
 split at h6
 case isFalse=>cases h6
 rename_i hc
 simp only[Bool.and_eq_true]at hc
 obtain⟨⟨⟨p1,p2⟩,p3⟩,hsame,hsub⟩:=hc
 obtain⟨i1,i2,i3⟩:s2.env=s1.env∧st.clk≤s1.clk∧s1.clk+1≤s2.clk:=by
  classical
  unfold sameC at hsame
  exact of_decide_eq_true hsame
 obtain⟨x,hcd,henv⟩:=zdv hO h3
 obtain⟨x2,hcd2,henv2⟩:=zdv hO h5
 have hxx:x2=x:=by
  rw[henv,henv2]at i1
  obtain⟨dst,g,op⟩:=o
  unfold callC at h3
  simp only at h3 i1
  split at h3
  ·simp only[putE,List.cons.injEq,Prod.mk.injEq,and_true,true_and]at i1
   exact i1
  ·cases h3
 subst hxx
 obtain⟨hw2,e2,h7,h8⟩:=zh6 hO _ _ h6
 obtain⟨h9,hst,hq2⟩:=map_some h7
 subst hq2
 obtain⟨_,hq1⟩:=h2 [s1.heap,(.loc da,⟨s1.clk,.str,cs.length,[cs]⟩)::st.heap,s2.heap] (fun y hy=>by
  simp only[List.mem_cons,List.not_mem_nil,or_false]at hy
  rcases hy with rfl | rfl | rfl
  ·exact p1
  ·exact p2
  ·exact p3)
 refine ztw (h1:=s1.heap) (hb:=s2.heap) (hm:=s2.heap) (c1:=s1.clk) (cb:=s2.clk) (cm:=s2.clk) (e1:=e') (e2:=e2) (x:=x2) (fun d hd=>?_) (by show (mapOp ν (tyNum T) o.op).writes=false;rw[zbj];exact how) ?_ hcd hcd2 (fun _ _ h=>h) (Nat.le_refl _) ?_ (zub hsub) hst hK i2 i3
 ·unfold lowD at hl1 hl2
  rw[List.all_eq_true]at hl1 hl2
  rcases List.mem_append.1 hd with hd | hd
  ·obtain⟨d',hd',rfl⟩:=List.mem_map.1 hd
   refine⟨of_decide_eq_true (hl1 d' hd'),?_⟩
   show (mapOp ν (tyNum T) d'.ao.op).writes=false
   rw[zbj]
   exact hw1 ⟨d'.ao,0,1⟩ (List.mem_map.2 ⟨d',hd',rfl⟩)
  ·obtain⟨d',hd',rfl⟩:=List.mem_map.1 hd
   refine⟨of_decide_eq_true (hl2 d' hd'),?_⟩
   show (mapOp ν (tyNum T) d'.ao.op).writes=false
   rw[zbj]
   exact hw2 d'.ao (List.mem_map.2 ⟨d',hd',rfl⟩)
 ·have:=zua (hs':=[st.heap,s1.heap,(.loc da,⟨s1.clk,.str,cs.length,[cs]⟩)::st.heap,s2.heap]) (fun y hy=>hy) _ _ _ hq1
  simpa[List.map_map,Function.comp_def,mapDO]using this
 ·have:=zua (hs':=[st.heap,s1.heap,(.loc da,⟨s1.clk,.str,cs.length,[cs]⟩)::st.heap,s2.heap]) (fun y hy=>by
   simp only[List.mem_cons,List.not_mem_nil,or_false]at hy ⊢
   rcases hy with h | h | h | h
   ·exact .inr (.inl h)
   ·exact .inr (.inr (.inl h))
   ·exact .inr (.inr (.inr h))
   ·exact .inl h) _ _ _ h8
  rw[henv]at this
  rw[List.map_map]at this ⊢
  exact this
theorem zuc{cx:Cx}{c:AC}{st:St}{id:Nat}{o:Option (Ex×St)}{e:Ex}{st':St}(h0:∀e1 s1,o=some (e1,s1)→AWp cx c (Is e1 s1) st)
  (h:(o.bind fun r=>match r.1 with | .x j=>if j=id then some (Ex.n,r.2) else some r | _=>some r)=some (e,st')):AWp cx (.block id c) (Is e st') st:=by
 obtain⟨⟨e1,s1⟩,h1,h2⟩:=bind_some h
 refine zls ((h0 e1 s1 h1).mono ?_)
 rintro ex s ⟨rfl,rfl⟩
 cases e1 with
 | n=>cases h2;exact⟨rfl,rfl⟩
 | x j=>
  simp only at h2
  show blockK id _ (.exit j) _
  simp only[blockK]
  split at h2
  ·rename_i hj;rw[if_pos hj];cases h2;exact⟨rfl,rfl⟩
  ·rename_i hj;rw[if_neg hj];cases h2;exact⟨rfl,rfl⟩
 | r=>cases h2;exact⟨rfl,rfl⟩
 | g l=>cases h2;exact⟨rfl,rfl⟩
theorem zxy{k:Nat}{cx:Cx}(hk:cx.clk0=k+1){c:AC}{st:St}{g:Gh}{o:Option (Ex×St)}{e:Ex}{st':St}(h0:∀e1 s1,o=some (e1,s1)→AWp cx c (Is e1 s1) st)
  (h:(o.bind fun r=>match r.1 with | .n=>(ghS k g r.2).map fun s=>(Ex.n,s) | _=>some r)=some (e,st')):AWp cx c (Is e st') st:=by
 obtain⟨⟨e1,s1⟩,h1,h2⟩:=bind_some h
 intro code hc hm a w hr
 refine wp_mono (h0 e1 s1 h1 code hc hm a w hr) ?_
 rintro ex a' w' ⟨s,⟨rfl,rfl⟩,hr'⟩
 cases e1 with
 | n=>
  obtain⟨s2,h3,h4⟩:=map_some h2
  cases h4
  exact⟨_,⟨rfl,rfl⟩,hr'.gh hk h3⟩
 | x id=>cases h2;exact⟨_,⟨rfl,rfl⟩,hr'⟩
 | r=>cases h2;exact⟨_,⟨rfl,rfl⟩,hr'⟩
 | g l=>cases h2;exact⟨_,⟨rfl,rfl⟩,hr'⟩
theorem za8(hO:GoodO P ν T O){k:Nat}{cx:Cx}(hP:cx.P=P)(hk:cx.clk0=k+1):∀(c:AX) (st:St) (e:Ex) (st':St),evX O T k c st=some (e,st')→AWp cx (er ν (tyNum T) c) (Is e st') st
 | .skip,st,e,st',h=>by cases h;exact zxf ⟨rfl,rfl⟩
 | .reg l,st,e,st',h=>by
  obtain⟨s,h1,h2⟩:=map_some h
  cases h2
  refine z1j ?_
  rw[hP]
  exact zcz hO l st st' _ h1 ⟨rfl,rfl⟩
 | .draw l,st,e,st',h=>by
  obtain⟨s,h1,h2⟩:=map_some h
  cases h2
  refine zxg ?_
  rw[hP]
  exact zc9 hO l _ _ _ _ _ _ st' _ (fun q hq=>by simp at hq) h1 ⟨rfl,rfl⟩
 | .drawT hd tl,st,e,st',h=>by
  obtain⟨s,h1,h2⟩:=map_some h
  cases h2
  refine zlr ?_
  rw[hP]
  exact zh4 hO tl hd _ _ _ st' _ h1 ⟨rfl,rfl⟩
 | .drawM hd tl,st,e,st',h=>by
  obtain⟨s,h1,h2⟩:=map_some h
  cases h2
  refine zs6 (ze5 (consD hd st.env) st.heap) ?_
  rw[hP]
  exact zcg hO tl _ _ _ (ze5 _ _) hd _ _ _ st' _ (ze5 _ _) (Nat.le_refl _) (fun _ _ h=>.inl h) h1 ⟨rfl,rfl⟩
 | .drawC l1 o l2 tl,st,e,st',h=>by
  obtain⟨s,h1,h2⟩:=map_some h
  cases h2
  obtain⟨hp1,c1,h3⟩:=zob hO (K:=fun s=>Is .n st' .normal s) h1 ⟨rfl,rfl⟩
  rw[←hP]at h3
  exact zts h3
 | .drawN l1 o l2,st,e,st',h=>by
  obtain⟨s,h1,h2⟩:=map_some h
  cases h2
  obtain⟨h3,h4⟩:=zoc hO (K:=fun s=>Is .n st' .normal s) h1 ⟨rfl,rfl⟩
  rw[←hP]at h3
  refine ztt ?_ h3
  show (mapOp ν (tyNum T) o.op).writes=false
  rw[zbj]
  exact h4
 | .drawR hd tl,st,e,st',h=>by
  obtain⟨s,h1,h2⟩:=map_some h
  cases h2
  refine zlr ?_
  rw[hP]
  exact ze4 hO tl hd _ _ _ st' _ h1 ⟨rfl,rfl⟩
 | .drawP l1 o l2 da cs n xs vs,st,e,st',h=>by
  obtain⟨s,h1,h2⟩:=map_some h
  cases h2
  exact zod hO hP h1 ⟨rfl,rfl⟩
 | .bad,st,e,st',h=>by cases h
 | .prim f,st,e,st',h=>by cases h
 | .seq a b,st,e,st',h=>by
  obtain⟨⟨e1,s1⟩,h1,h2⟩:=bind_some h
  refine z1k ((za8 hO hP hk a st e1 s1 h1).mono ?_)
  rintro ex s ⟨rfl,rfl⟩
  cases e1 with
  | n=>exact za8 hO hP hk b _ e st' h2
  | x id=>cases h2;exact⟨rfl,rfl⟩
  | r=>cases h2;exact⟨rfl,rfl⟩
  | g l=>cases h2;exact⟨rfl,rfl⟩
 | .cond c x y,st,e,st',h=>by
  simp only[evX]at h
  split at h
  ·rename_i t ht
   refine zxh ht (fun h1=>?_) (fun h1=>?_)
   ·subst h1;exact za8 hO hP hk x st e st' (by simpa using h)
   ·subst h1;exact za8 hO hP hk y st e st' (by simpa using h)
  ·cases h
 | .block id c,st,e,st',h=>by
  obtain⟨⟨e1,s1⟩,h1,h2⟩:=bind_some h
  refine zls ((za8 hO hP hk c st e1 s1 h1).mono ?_)
  rintro ex s ⟨rfl,rfl⟩
  cases e1 with
  | n=>cases h2;exact⟨rfl,rfl⟩
  | x j=>
   simp only at h2
   show blockK id _ (.exit j) _
   simp only[blockK]
   split at h2
   ·rename_i hj;rw[if_pos hj];cases h2;exact⟨rfl,rfl⟩
   ·rename_i hj;rw[if_neg hj];cases h2;exact⟨rfl,rfl⟩
  | r=>cases h2;exact⟨rfl,rfl⟩
  | g l=>cases h2;exact⟨rfl,rfl⟩
 | .loop c,st,e,st',h=>zh3 (hO.loop k c st e st' (by simpa only[evX]using h) cx hP hk)
 | .exit id,st,e,st',h=>by cases h;exact zxi ⟨rfl,rfl⟩
 | .ret,st,e,st',h=>by cases h;exact z1l ⟨rfl,rfl⟩
 | .note c g,st,e,st',h=>by
  obtain⟨⟨e1,s1⟩,h1,h2⟩:=bind_some h
  intro code hc hm a w hr
  refine wp_mono (za8 hO hP hk c st e1 s1 h1 code hc hm a w hr) ?_
  rintro ex a' w' ⟨s,⟨rfl,rfl⟩,hr'⟩
  cases e1 with
  | n=>
   obtain⟨s2,h3,h4⟩:=map_some h2
   cases h4
   exact⟨_,⟨rfl,rfl⟩,hr'.gh hk h3⟩
  | x id=>cases h2;exact⟨_,⟨rfl,rfl⟩,hr'⟩
  | r=>cases h2;exact⟨_,⟨rfl,rfl⟩,hr'⟩
  | g l=>cases h2;exact⟨_,⟨rfl,rfl⟩,hr'⟩
 | .lp id g c g2,st,e,st',h=>by
  obtain⟨s,h1,h2⟩:=bind_some h
  have h3:((O.loop k c s).bind fun r=>match r.1 with | .x j=>if j=id then some (Ex.n,r.2) else some r | _=>some r).bind (fun r=>match r.1 with | .n=>(ghS k g2 r.2).map fun s=>(Ex.n,s) | _=>some r)=some (e,st'):=by
   rw[←h2]
   cases O.loop k c s with
   | none=>rfl
   | some r=>
    obtain⟨e1,s1⟩:=r
    cases e1 with
    | n=>rfl
    | r=>rfl
    | g l=>rfl
    | x j=>
     simp only[Option.bind_some]
     split<;>rfl
  have h4:AWp cx (.block id (.loop (er ν (tyNum T) c))) (Is e st') s:=
   zxy hk (fun e1 s1 he=>zuc (fun e2 s2 he2=>zh3 (hO.loop k c s e2 s2 he2 cx hP hk)) he) h3
  intro code hc hm a w hr
  exact h4 code hc hm a w (hr.gh hk h1)
 | .scope c,st,e,st',h=>by
  obtain⟨⟨e1,s1⟩,h1,h2⟩:=bind_some h
  refine zs7 ((za8 hO hP hk c st e1 s1 h1).mono ?_)
  rintro ex s ⟨rfl,rfl⟩
  cases e1 with
  | g l=>cases h2
  | n=>cases h2;exact⟨fun l he=>(by cases he),rfl,rfl⟩
  | x j=>cases h2;exact⟨fun l he=>(by cases he),rfl,rfl⟩
  | r=>cases h2;exact⟨fun l he=>(by cases he),rfl,rfl⟩
 | .label l,st,e,st',h=>by cases h;exact zs8 ⟨rfl,rfl⟩
 | .goto l,st,e,st',h=>by cases h;exact zxj ⟨rfl,rfl⟩
 | .gsc l c r,st,e,st',h=>by
  have key:∀n o,gscX (fun s=>evX O T k r s) l n o=some (e,st')→∃e1 s1,o=some (e1,s1)∧GQ cx l (er ν (tyNum T) r) (Is e st') n e1.out s1:=by
   intro n
   induction n with
   | zero=>intro o h;cases h
   | succ n ih=>
    intro o h
    simp only[gscX]at h
    obtain⟨⟨e1,s1⟩,h1,h2⟩:=bind_some h
    refine⟨e1,s1,h1,?_⟩
    cases e1 with
    | g j=>
     simp only at h2
     split at h2
     ·rename_i hj
      obtain⟨e2,s2,h3,h4⟩:=ih _ h2
      refine⟨hj,(za8 hO hP hk r s1 e2 s2 h3).mono ?_⟩
      rintro ex s ⟨rfl,rfl⟩
      exact h4
     ·cases h2
    | n=>cases h2;exact⟨rfl,rfl⟩
    | x j=>cases h2;exact⟨rfl,rfl⟩
    | r=>cases h2;exact⟨rfl,rfl⟩
  obtain⟨e1,s1,h1,h2⟩:=key _ _ h
  refine z1m 100 ((za8 hO hP hk c st e1 s1 h1).mono ?_)
  rintro ex s ⟨rfl,rfl⟩
  exact h2
 | .pre g c,st,e,st',h=>by
  obtain⟨s,h1,h2⟩:=bind_some h
  intro code hc hm a w hr
  exact za8 hO hP hk c s e st' h2 code hc hm a w (hr.gh hk h1)
theorem zrd{f:FuncId}{xs:List AV}{hb:Heap}{k:Nat}{ex:Bool}{x:AV}{hh:Heap}{cc:Nat}(h:ACall P f xs hb (k+1) (fun r h c=>r=x∧h=hh∧c=cc)) :
  ACall P f xs hb (k+1) (fun r h c=>r=(normS ex k [0] ⟨[(0,x)],hh,cc⟩).env.get 0∧h=(normS ex k [0] ⟨[(0,x)],hh,cc⟩).heap∧c=(normS ex k [0] ⟨[(0,x)],hh,cc⟩).clk):=by
 refine⟨h.1,fun w S M cargs hl hC hheap hS hM=>(h.2 w S M cargs hl hC hheap hS hM).mono ?_⟩
 intro e w' ⟨v,r,h',S',M',clk',he,⟨h1,h2,h3⟩,hCr,hw⟩
 subst h1
 subst h2
 subst h3
 have hrel:Rel ⟨P,1,w,S,M,k+1⟩ ⟨[(0,r)],h',clk'⟩ { tmps:=#[v],defers:=[] } w':=by
  refine⟨S',M',rfl,rfl,fun t=>?_,hw 1⟩
  cases t with
  | zero=>simp_all
  | succ t=>exact .p (.dead _)
 obtain⟨S2,M2,hr2⟩:=hrel.norm (ex:=ex) (k:=k) (live:=[0]) rfl
 refine⟨v,_,_,S2,M2,_,he,⟨rfl,rfl,rfl⟩,by simpa using hr2.env 0,fun nt=>?_⟩
 have:=hr2.wr
 exact⟨this.heap,this.ext,this.fr,this.Snew,this.Slt,this.Mnew⟩
theorem PCall.res{f:FuncId}{xs:List AV}{y:AV}{ex:Bool}(h:PCall P f xs (·=y)):PCall P f xs (·=wkIf ex y):=
 ⟨h.1,fun w S cargs hl hC hS=>(h.2 w S cargs hl hC hS).mono fun _ _ ⟨v,r,he,hr,hb,hC⟩=>⟨v,_,he,rfl,hb,by rw[←hr];exact hC.wkIf ex⟩⟩
def TOk(P:Program)(ν:Nat→FuncId)(T:Tbl):Prop:=∀u af,T u=some af →
 match af.body.isPrim with
 | some f=>∀xs r,f xs=some r→PCall P (ν u) xs (·=r)
 | none=>if af.body.isBad=true then (∀m∈methsA af,methOf P af.np m.1=some (ν m.2))∧(af.res.isEmpty=true→af.np=ν af.nt) else resFn P (ν u)=some (erF ν (tyNum T) af)
theorem GoodO.next(hT:TOk P ν T)(hm:P.follows .mixedOrders=true)(hO:GoodO P ν T O):GoodO P ν T (nextO T O):=by
 have bad_no:∀(af:AFx) (k:Nat) (s:St) (r:Ex×St),af.body.isBad=true→evX O T k af.body s=some r→False:=by
  intro af k s r hb he
  cases hbd:af.body<;>rw[hbd]at hb he<;>first | (cases hb;done) | (simp only[evX]at he;grind)
 refine⟨hO.meth,hO.fnn,fun u af xs r h hu hl hc=>?_,fun u af ms xs hb r hb' hu hl hc=>?_,fun k c st e st' h cx hP hk=>?_⟩
 ·have hTu:=hT u af hu
  simp only[nextO,hu]at hc
  split at hc
  ·rename_i f hf
   split at hc
   ·obtain⟨x,h1,h2⟩:=map_some hc
    grind
   grind
  rename_i hf
  rw[hf]at hTu
  split at hc
  ·rename_i hcond
   obtain⟨⟨e,s⟩,h1,h2⟩:=bind_some hc
   rw[if_neg (fun hb=>bad_no af _ _ _ hb h1)]at hTu
   have key:∃x y,(e=.n∨e=.r)∧resAV s af.res=some x∧frz s.heap x=some y∧r=wkIf af.exact y:=by
    unfold endX at h2
    cases e with
    | x id=>grind
    | g id=>grind
    | n=>
     obtain⟨x,h3,h4⟩:=bind_some h2
     rw[hl]at h4
     obtain⟨y,h5,h6⟩:=map_some h4
     grind
    | r=>
     obtain⟨x,h3,h4⟩:=bind_some h2
     rw[hl]at h4
     obtain⟨y,h5,h6⟩:=map_some h4
     grind
   obtain⟨x,y,he,h3,h5,rfl⟩:=key
   refine PCall.res (zs9 hTu hm hcond.1 fun cx hP hnt hclk=>((za8 hO hP hclk af.body _ e s h1).mono ?_))
   rintro ex s' ⟨rfl,rfl⟩
   exact⟨by rcases he with rfl | rfl;exact .inl rfl;exact .inr rfl,x,y,h3,h5,rfl⟩
  grind
 ·have hTu:=hT u af hu
  simp only[nextO,hu]at hc
  split at hc
  ·grind
  rename_i hf
  rw[hf]at hTu
  split at hc
  ·rename_i hcond
   obtain⟨⟨e,s⟩,h1,h2⟩:=bind_some hc
   rw[if_neg (fun hb=>bad_no af _ _ _ hb h1)]at hTu
   have key:∃x,(e=.n∨e=.r)∧resAV s af.res=some x∧r=(normS af.exact hb.length [0] ⟨[(0,x)],s.heap,s.clk⟩).env.get 0∧hb'=(normS af.exact hb.length [0] ⟨[(0,x)],s.heap,s.clk⟩).heap:=by
    unfold endX at h2
    cases e with
    | x id=>grind
    | g id=>grind
    | n=>
     obtain⟨x,h3,h4⟩:=bind_some h2
     grind
    | r=>
     obtain⟨x,h3,h4⟩:=bind_some h2
     grind
   obtain⟨x,he,h3,rfl,rfl⟩:=key
   have hA:ACall P (ν u) xs hb (hb.length+1) (fun r h c=>r=x∧h=s.heap∧c=s.clk):=by
    refine zlu hTu hm hcond.1 fun cx hP hnt hclk=>((za8 hO hP hclk af.body _ e s h1).mono ?_)
    rintro ex s' ⟨rfl,rfl⟩
    exact⟨by rcases he with rfl | rfl;exact .inl rfl;exact .inr rfl,x,h3,rfl,rfl,rfl⟩
   have hB:=zrd (ex:=af.exact) hA
   refine⟨hB.1,fun w S M cargs hl hC hheap hS hM=>(hB.2 w S M cargs hl hC hheap hS hM).mono ?_⟩
   intro e w' ⟨v,r,h',S',M',clk',he,⟨a1,a2,a3⟩,hCr,hw⟩
   refine⟨v,r,h',S',M',clk',he,⟨a1,a2,?_⟩,hCr,hw⟩
   rw[a3]
   simp only[normS,List.length_map]
  grind
 ·obtain⟨⟨e1,s1⟩,h1,h2⟩:=bind_some h
  refine zxw ((za8 hO hP hk c st e1 s1 h1).mono ?_)
  rintro ex s ⟨rfl,rfl⟩
  cases e1 with
  | n=>exact hO.loop k c _ e st' h2 cx hP hk
  | x id=>cases h2;exact⟨rfl,rfl⟩
  | r=>cases h2;exact⟨rfl,rfl⟩
  | g l=>cases h2;exact⟨rfl,rfl⟩
theorem zadw(hT:TOk P ν T):∀k nm u,(nm,u)∈methsT T k→methOf P (tyNum T k) nm=some (ν u):=by
 intro k nm u hm
 unfold methsT at hm
 unfold tyNum
 cases hT':T (1000000+k) with
 | none=>grind
 | some af=>
  rw[hT']at hm
  simp only at hm ⊢
  split at hm
  ·rename_i hb
   have:=hT _ af hT'
   have hp:af.body.isPrim=none:=by cases hbd:af.body<;>rw[hbd]at hb<;>first | rfl | cases hb
   grind
  grind
theorem fnn0(hT:TOk P ν T):∀k u,funT T k=some u→tyNum T k=ν u:=by
 intro k u hm
 unfold funT at hm
 unfold tyNum
 cases hT':T (1000000+k) with
 | none=>grind
 | some af=>
  rw[hT']at hm
  simp only at hm ⊢
  split at hm
  ·rename_i hb
   simp only[Bool.and_eq_true]at hb
   have:=hT _ af hT'
   have hp:af.body.isPrim=none:=by cases hbd:af.body<;>rw[hbd]at hb<;>first | rfl | cases hb.1.1
   grind
  grind
theorem GoodO.orcN(hT:TOk P ν T)(hm:P.follows .mixedOrders=true):∀n,GoodO P ν T (orcN T n)
 | 0=>⟨zadw hT,fnn0 hT,fun _ _ _ _ _ _ _ h=>(by cases h),fun _ _ _ _ _ _ _ _ _ h=>(by cases h),fun _ _ _ _ _ h=>(by cases h)⟩
 | n+1=>(GoodO.orcN hT hm n).next hT hm
end
end
section
open Go.RowKit
inductive Qy where
 | call (u:Nat) (xs:List AV) (hb:Heap) (r:AV×Heap)
 | loop (k:Nat) (c:AX) (st:St) (r:Ex×St)
def Holds(O:Orc):Qy→Prop
 | .call u xs hb r=>O.call u xs hb=some r
 | .loop k c st r=>O.loop k c st=some r
def Fin1{α:Type}(f:Orc→Option α):Prop:=∀O r,f O=some r→∃L:List Qy,(∀q∈L,Holds O q)∧∀O',(∀q∈L,Holds O' q)→f O'=some r
theorem Fin1.const{α:Type}(a:Option α):Fin1 fun _=>a:=fun _ _ h=>⟨[],by simp,fun _ _=>h⟩
theorem Fin1.bind{α β:Type}{g:Orc→Option α}{h:Orc→α→Option β}(hg:Fin1 g)(hh:∀x,Fin1 fun O=>h O x):Fin1 fun O=>(g O).bind (h O):=by
 intro O r he
 obtain⟨x,h1,h2⟩:=bind_some he
 obtain⟨L1,a1,a2⟩:=hg O x h1
 obtain⟨L2,b1,b2⟩:=hh x O r h2
 refine⟨L1++L2,fun q hq=>?_,fun O' hO'=>?_⟩
 all_goals grind
theorem Fin1.map{α β:Type}{g:Orc→Option α}(hg:Fin1 g)(f:α→β):Fin1 fun O=>(g O).map f:=by
 have:=hg.bind (h:=fun _ x=>some (f x)) fun x=>.const _
 grind[Option.map_eq_bind,Function.comp_def]
theorem Fin1.call(u:Nat)(xs:List AV)(hb:Heap):Fin1 fun O=>O.call u xs hb:=fun O r h=>⟨[.call u xs hb r],by simpa[Holds]using h,fun O' h'=>by simpa[Holds]using h'⟩
theorem Fin1.loop(k:Nat)(c:AX)(st:St):Fin1 fun O=>O.loop k c st:=fun O r h=>⟨[.loop k c st r],by simpa[Holds]using h,fun O' h'=>by simpa[Holds]using h'⟩
section
variable(T:Tbl)
theorem zh7(u:Nat)(xs:List AV)(d:Option Nat)(st:St):Fin1 fun O=>callX O T u xs d st:=by
 unfold callX
 split
 ·exact .const _
 ·split
  ·refine Fin1.bind (.const _) fun ys=>Fin1.bind (.call _ _ _) fun r=>.const _
  ·refine Fin1.bind (.const _) fun ys=>?_
   simp only
   split
   ·refine Fin1.bind (.call _ _ _) fun r=>.const _
   ·exact .const _
theorem zud(op:AOp)(d:Option Nat)(st:St):Fin1 fun O=>opX O T op d st:=by
 by_cases hx:∃k xs,op=.xop k xs
 ·obtain⟨k,xs,rfl⟩:=hx
  cases k<;>exact .const _
 cases op<;>(try exact absurd ⟨_,_,rfl⟩ hx)<;>simp only[opX]<;>first | exact .const _ | exact zh7 T _ _ _ _ | (split<;>first | exact .const _ | (split<;>first | exact .const _ | exact zh7 T _ _ _ _))
theorem zue(o:AO)(st:St):Fin1 fun O=>stepX O T o st:=by
 unfold stepX
 split
 ·exact zud T _ _ _
 ·unfold gX
  split
  ·split
   ·exact zud T _ _ _
   ·exact .const _
  ·exact .const _
  ·exact .const _
theorem zep:∀(l:List AO) (st:St),Fin1 fun O=>runX O T l st
 | [],st=>.const _
 | o::l,st=>by
  exact(zue T o st).bind fun s=>zep l s
theorem zuf(op:AOp)(e:Env)(h:Heap)(older:List Heap):Fin1 fun O=>opD O T op e h older:=by
 by_cases hap:∃z x0 y,op=.app z x0 y
 ·obtain⟨z,x0,y,rfl⟩:=hap
  by_cases hc:x0=.c (.sl [] .nl)
  ·subst hc;exact .const _
  ·simp only[zn8 hc];exact .const _
 cases op<;>(try exact absurd ⟨_,_,_,rfl⟩ hap)<;>simp only[opD]<;>try exact .const _
 case call=>
  split
  ·exact .const _
  ·split
   ·exact(Fin1.call _ _ _).map _
   ·exact .const _
 case inv=>
  split
  ·split
   ·split
    ·exact .const _
    ·split
     ·exact(Fin1.call _ _ _).map _
     ·exact .const _
   ·exact .const _
  ·exact .const _
theorem zh8(o:AO)(e:Env)(h:Heap)(older:List Heap):Fin1 fun O=>qX O T o e h older:=by
 unfold qX
 split
 ·exact(zuf T _ _ _ _).map _
 ·split
  ·split
   ·exact(zuf T _ _ _ _).map _
   ·exact .const _
  ·exact .const _
  ·exact .const _
theorem zml(u:Nat)(ys:List AV):Fin1 fun O=>callR O T u ys:=by
 unfold callR
 split
 ·exact .const _
 ·split
  ·exact(Fin1.call _ _ _).map _
  ·exact .const _
theorem zeb:∀(l:List DO) (e:Env) (h:Heap) (clk:Nat) (older:List Heap) (pend:PendX),Fin1 fun O=>drawX O T l e h clk older pend
 | [],e,h,clk,older,pend=>.const _
 | o::l,e,h,clk,older,pend=>by
  simp only[drawX]
  split
  ·split
   ·refine Fin1.bind (.const _) fun q=>?_
    split
    ·exact zeb l _ _ _ _ _
    ·exact .const _
   ·exact .const _
  ·split
   ·exact(zh8 T _ _ _ _).bind fun x=>zeb l _ _ _ _ _
   ·exact(zml T _ _).bind fun x=>zeb l _ _ _ _ _
theorem zh9(tl:List AO):∀(l:List AO) (e:Env) (h:Heap) (clk:Nat),Fin1 fun O=>headR O T tl l e h clk
 | [],e,h,clk=>zep T tl _
 | o::l,e,h,clk=>by
  simp only[headR]
  split
  ·exact(zh8 T _ _ _ _).bind fun x=>zh9 tl l _ _ _
  ·exact(zml T _ _).bind fun x=>zh9 tl l _ _ _
theorem zmm(tl:List AO):∀(l:List AO) (e:Env) (h:Heap) (clk:Nat),Fin1 fun O=>headX O T tl l e h clk
 | [],e,h,clk=>zep T tl _
 | o::l,e,h,clk=>by
  exact(zh8 T _ _ _ _).bind fun x=>zmm tl l _ _ _
theorem zug(u:Nat)(xs:List AV)(d clk:Nat):Fin1 fun O=>callM O T u xs d clk:=by
 unfold callM
 split
 ·exact .const _
 ·split
  ·exact .const _
  ·split
   ·refine(Fin1.call _ _ _).bind fun r=>?_
    exact .const _
   ·exact .const _
theorem zec(tl:List AO)(h0:Heap)(c0:Nat)(X:Heap):∀(l:List AO) (e:Env) (h:Heap) (clk:Nat),Fin1 fun O=>headM O T tl h0 c0 X l e h clk
 | [],e,h,clk=>zep T tl _
 | o::l,e,h,clk=>by
  simp only[headM]
  split
  ·split
   ·split
    all_goals
     refine Fin1.bind (.const _) fun q=>?_
     split
     ·exact zec tl h0 c0 X l _ _ _
     ·exact .const _
   ·exact .const _
  ·split
   ·split
    ·refine Fin1.bind (.const _) fun q=>?_
     split
     ·exact zec tl h0 c0 X l _ _ _
     ·exact .const _
    ·exact .const _
   split
   ·split
    ·refine(zug T _ _ _ _).bind fun q=>?_
     split
     ·exact zec tl h0 c0 X l _ _ _
     ·exact .const _
    ·exact .const _
   ·refine(zh8 T _ _ _ _).bind fun x=>?_
    split
    ·exact zec tl h0 c0 X l _ _ _
    ·exact .const _
theorem zgx{K:Orc→Env→PendX→Option St}(hK:∀e pend,Fin1 fun O=>K O e pend)(h:Heap):∀(l:List DO) (e:Env) (pend:PendX),Fin1 fun O=>preC O T (K O) h l e pend
 | [],e,pend=>hK e pend
 | o::l,e,pend=>by
  simp only[preC]
  split
  ·exact .const _
  ·exact(zh8 T _ _ _ _).bind fun x=>zgx hK h l _ _
theorem zmn{K:Orc→Env→Option St}(hK:∀e,Fin1 fun O=>K O e)(h0 h1:Heap):∀(l:List AO) (e:Env),Fin1 fun O=>postC O T (K O) h0 h1 l e
 | [],e=>hK e
 | o::l,e=>by
  simp only[postC]
  split
  ·exact .const _
  ·exact(zh8 T _ _ _ _).bind fun x=>zmn hK h0 h1 l _
theorem zfo(o:AO)(st:St):Fin1 fun O=>callC O T o st:=by
 unfold callC
 split
 ·exact zh7 T _ _ _ _
 ·exact .const _
theorem zuh(l1:List AO)(o:AO)(l2 tl:List AO)(st:St):Fin1 fun O=>headC O T l1 o l2 tl st:=by
 unfold headC
 refine zgx T (fun e pend=>(zfo T _ _).bind fun s=>?_) _ _ _ _
 split
 ·exact zmn T (fun e=>zep T _ _) _ _ _ _
 ·exact .const _
theorem zui(l1:List DO)(o:AO)(l2:List DO)(st:St):Fin1 fun O=>headN O T l1 o l2 st:=by
 unfold headN
 split
 ·exact .const _
 refine zgx T (fun e pend=>(zfo T _ _).bind fun s=>?_) _ _ _ _
 split
 ·exact zeb T _ _ _ _ _ _
 ·exact .const _
theorem zmo{K:Orc→Env→Option St}(hK:∀e,Fin1 fun O=>K O e)(hs:List Heap)(h1:Heap):∀(l:List AO) (e:Env),Fin1 fun O=>postP O T (K O) hs h1 l e
 | [],e=>hK e
 | o::l,e=>by
  simp only[postP]
  split
  ·exact .const _
  ·exact(zh8 T _ _ _ _).bind fun x=>zmo hK hs h1 l _
theorem zuj(l1:List DO)(o:AO)(l2:List DO)(da:Nat)(cs:List AV)(n:Nat)(xs vs:Opd)(st:St):Fin1 fun O=>headP O T l1 o l2 da cs n xs vs st:=by
 unfold headP
 split
 case isFalse=>exact .const _
 refine zgx T (fun e pend=>(zfo T _ _).bind fun s1=>(zfo T _ _).bind fun s2=>?_) _ _ _ _
 split
 ·exact zmo T (K:=fun _ e2=>(storeAV n s2.heap (ev (putE e2 (some da) (.ptr (.loc da) s1.clk cs.length 0 0)).get xs) (ev (putE e2 (some da) (.ptr (.loc da) s1.clk cs.length 0 0)).get vs)).map fun h2=>⟨putE e2 (some da) (.ptr (.loc da) s1.clk cs.length 0 0),h2,s2.clk⟩) (fun e=>.const _) _ _ _ _
 ·exact .const _
theorem zcq(k:Nat):∀(c:AX) (st:St),Fin1 fun O=>evX O T k c st
 | .skip,st=>.const _
 | .reg l,st=>by exact(zep T l st).map _
 | .draw l,st=>by exact(zeb T l _ _ _ _ _).map _
 | .drawT hd tl,st=>by exact(zmm T tl hd _ _ _).map _
 | .drawM hd tl,st=>by exact(zec T tl _ _ _ hd _ _ _).map _
 | .drawC l1 o l2 tl,st=>by exact(zuh T l1 o l2 tl st).map _
 | .drawN l1 o l2,st=>by exact(zui T l1 o l2 st).map _
 | .drawR hd tl,st=>by exact(zh9 T tl hd _ _ _).map _
 | .drawP l1 o l2 da cs n xs vs,st=>by exact(zuj T l1 o l2 da cs n xs vs st).map _
 | .bad,st=>.const _
 | .prim f,st=>.const _
 | .seq a b,st=>by
  refine(zcq k a st).bind fun r=>?_
  obtain⟨e,s⟩:=r
  cases e
  ·exact zcq k b s
  ·exact .const _
  ·exact .const _
  ·exact .const _
 | .cond c x y,st=>by
  simp only[evX]
  split
  ·split
   ·exact zcq k x st
   ·exact zcq k y st
  ·exact .const _
 | .block id c,st=>by exact(zcq k c st).bind fun r=>.const _
 | .loop c,st=>by exact .loop _ _ _
 | .exit id,st=>.const _
 | .ret,st=>.const _
 | .note c g,st=>by exact(zcq k c st).bind fun r=>.const _
 | .pre g c,st=>by exact Fin1.bind (.const _) fun s=>zcq k c s
 | .scope c,st=>by exact(zcq k c st).bind fun r=>.const _
 | .label l,st=>.const _
 | .goto l,st=>.const _
 | .gsc l c r,st=>by
  have key:∀n (f:Orc→Option (Ex×St)),Fin1 f→Fin1 fun O=>gscX (fun s=>evX O T k r s) l n (f O):=by
   intro n
   induction n with
   | zero=>intro f _;exact .const _
   | succ n ih=>
    intro f hf
    refine hf.bind fun x=>?_
    obtain⟨e,s⟩:=x
    cases e
    ·exact .const _
    ·exact .const _
    ·exact .const _
    ·simp only
     split
     ·exact ih _ (zcq k r s)
     ·exact .const _
  exact key _ _ (zcq k c st)
 | .lp id g c g2,st=>by exact Fin1.bind (.const _) fun s=>(Fin1.loop _ _ _).bind fun r=>.const _
theorem zdh(u:Nat)(xs:List AV)(hb:Heap):Fin1 fun O=>(nextO T O).call u xs hb:=by
 simp only[nextO]
 split
 ·exact .const _
 ·split
  ·exact .const _
  ·split
   ·exact(zcq T _ _ _).bind fun r=>.const _
   ·exact .const _
theorem zdi(k:Nat)(c:AX)(st:St):Fin1 fun O=>(nextO T O).loop k c st:=by
 refine(zcq T k c st).bind fun r=>?_
 obtain⟨e,s⟩:=r
 cases e
 ·exact .loop _ _ _
 ·exact .const _
 ·exact .const _
 ·exact .const _
theorem zia:∀(n:Nat) (q:Qy),Holds (orcN T n) q→Holds (orcN T (n+1)) q
 | 0,q,h=>by cases q<;>cases h
 | n+1,.call u xs hb r,h=>by
  obtain⟨L,h1,h2⟩:=zdh T u xs hb _ r h
  exact h2 _ fun q hq=>zia n q (h1 q hq)
 | n+1,.loop k c st r,h=>by
  obtain⟨L,h1,h2⟩:=zdi T k c st _ r h
  exact h2 _ fun q hq=>zia n q (h1 q hq)
theorem zoe{n m:Nat}(h:n≤m)(q:Qy)(hq:Holds (orcN T n) q):Holds (orcN T m) q:=by
 induction h with
 | refl=>omega
 | step _ ih=>exact zia T _ q ih
open Classical in
noncomputable def lim{α:Type}(f:Nat→Option α):Option α:=if h:∃n a,f n=some a then f (Classical.choose h) else none
theorem zpo{α:Type}{f:Nat→Option α}(hm:∀n m a,n≤m→f n=some a→f m=some a)(a:α):lim f=some a↔∃n,f n=some a:=by
 unfold lim
 constructor
 ·intro h
  split at h
  all_goals grind
 ·intro ⟨n,h⟩
  have hex:∃n a,f n=some a:=⟨n,a,h⟩
  grind
noncomputable def orc:Orc:=⟨fun u xs hb=>lim fun n=>(orcN T n).call u xs hb,fun k c st=>lim fun n=>(orcN T n).loop k c st⟩
theorem zcn(q:Qy):Holds (orc T) q↔∃n,Holds (orcN T n) q:=by
 cases q with
 | call u xs hb r=>exact zpo (fun n m a hnm h=>zoe T hnm (.call u xs hb a) h) r
 | loop k c st r=>exact zpo (fun n m a hnm h=>zoe T hnm (.loop k c st a) h) r
theorem zuk{L:List Qy}(h:∀q∈L,Holds (orc T) q):∃n,∀q∈L,Holds (orcN T n) q:=by
 induction L with
 | nil=>simp_all
 | cons q L ih=>
  obtain⟨n,hn⟩:=ih fun q hq=>h q (List.mem_cons_of_mem _ hq)
  obtain⟨m,hm⟩:=(zcn T q).1 (h q List.mem_cons_self)
  refine⟨max n m,fun x hx=>?_⟩
  grind[zoe,Nat.le_max_right]
theorem zkp(u:Nat)(xs:List AV)(hb:Heap):(orc T).call u xs hb=(nextO T (orc T)).call u xs hb:=by
 apply Option.ext
 intro r
 constructor
 ·intro h
  obtain⟨n,hn⟩:=(zcn T (.call u xs hb r)).1 h
  cases n with
  | zero=>cases hn
  | succ n=>
   obtain⟨L,h1,h2⟩:=zdh T u xs hb _ r hn
   grind[zcn]
 ·intro h
  obtain⟨L,h1,h2⟩:=zdh T u xs hb _ r h
  obtain⟨n,hn⟩:=zuk T h1
  exact(zcn T (.call u xs hb r)).2 ⟨n+1,h2 _ hn⟩
theorem zxz(k:Nat)(c:AX)(st:St):(orc T).loop k c st=(nextO T (orc T)).loop k c st:=by
 apply Option.ext
 intro r
 constructor
 ·intro h
  obtain⟨n,hn⟩:=(zcn T (.loop k c st r)).1 h
  cases n with
  | zero=>cases hn
  | succ n=>
   obtain⟨L,h1,h2⟩:=zdi T k c st _ r hn
   grind[zcn]
 ·intro h
  obtain⟨L,h1,h2⟩:=zdi T k c st _ r h
  obtain⟨n,hn⟩:=zuk T h1
  exact(zcn T (.loop k c st r)).2 ⟨n+1,h2 _ hn⟩
end
noncomputable def callF(T:Tbl)(u:Nat)(xs:List AV):Option AV:=((orc T).call u xs []).map (·.1)
noncomputable def callH(T:Tbl)(u:Nat)(xs:List AV)(hb:Heap):Option (AV×Heap):=(orc T).call u xs hb
noncomputable def loopX(T:Tbl)(k:Nat)(c:AX)(st:St):Option (Ex×St):=(orc T).loop k c st
theorem zof{P:Program}{ν:Nat→FuncId}{T:Tbl}(hT:TOk P ν T)(hm:P.follows .mixedOrders=true){u:Nat}{af:AFx}{xs:List AV}{r:AV}(hu:T u=some af)(hl:af.lent=none)(h:callF T u xs=some r):PCall P (ν u) xs (·=r):=by
 obtain⟨⟨r',h'⟩,h1,rfl⟩:=map_some h
 obtain⟨n,hn⟩:=(zcn T (.call u xs [] (r',h'))).1 h1
 exact(GoodO.orcN hT hm n).pure u af xs r' h' hu hl hn
end
section
open Go.RowKit
def u8(n:Nat):AV:=.i .u8 (n:Int)
def u32(n:Nat):AV:=.i .u32 (n:Int)
def u64(n:Nat):AV:=.i .u64 (n:Int)
@[simp] theorem zali(k:IntKind)(n:Int):wkA (.i k n)=.i k n:=rfl
@[simp] theorem zain{h:Heap}(k:IntKind)(n:Int):frz1 h (.i k n)=some (.i k n):=rfl
@[simp] theorem zaio{h:Heap}(k:IntKind)(n:Int):frzC h (.i k n)=some (.i k n):=rfl
@[simp] theorem zalj{h:Heap}(k:IntKind)(n:Int):frz h (.i k n)=some (.i k n):=rfl
@[simp] theorem z6m(k:IntKind)(n:Int):scalarC (.i k n)=true:=rfl
@[simp] theorem z6n(k:IntKind)(n:Int):scalar1 (.i k n)=true:=rfl
@[simp] theorem zaae(k:IntKind)(n:Int):scalar (.i k n)=true:=rfl
@[simp] theorem zadx(k:IntKind)(n:Int):pureC (.i k n)=true:=rfl
@[simp] theorem zady(k:IntKind)(n:Int):noRef (.i k n)=true:=rfl
@[simp] theorem zaip(k:IntKind)(n:Int):refs (.i k n)=[]:=rfl
@[simp] theorem zalk(k:IntKind)(n:Int):rfC (.i k n)=[]:=rfl
@[simp] theorem zall(k:IntKind)(n:Int):rf1 (.i k n)=[]:=rfl
@[simp] theorem zalm(k:IntKind)(n:Int):rfA (.i k n)=[]:=rfl
@[simp] theorem zaln{σn:BId→BId}{σg:Nat→Nat}(k:IntKind)(n:Int):rlC σn σg (.i k n)=(.i k n):=rfl
@[simp] theorem zalo{σn:BId→BId}{σg:Nat→Nat}(k:IntKind)(n:Int):rl1 σn σg (.i k n)=(.i k n):=rfl
@[simp] theorem zalp{σn:BId→BId}{σg:Nat→Nat}(k:IntKind)(n:Int):rlA σn σg (.i k n)=(.i k n):=rfl
@[simp] theorem zaaf{h:Heap}(k:IntKind)(n:Int):refOkC h (.i k n)=true:=rfl
@[simp] theorem zaag{h:Heap}(k:IntKind)(n:Int):refOk1 h (.i k n)=true:=rfl
@[simp] theorem zadz{h:Heap}(k:IntKind)(n:Int):refOk h (.i k n)=true:=rfl
@[simp] theorem z6o(k:IntKind)(n:Int):cellsOf (.i k n)=some [.i k n]:=rfl
@[simp] theorem zalq(t:Bool):wkA (.b t)=.b t:=rfl
@[simp] theorem zaiq{h:Heap}(t:Bool):frz1 h (.b t)=some (.b t):=rfl
@[simp] theorem zair{h:Heap}(t:Bool):frzC h (.b t)=some (.b t):=rfl
@[simp] theorem zalr{h:Heap}(t:Bool):frz h (.b t)=some (.b t):=rfl
@[simp] theorem z6p(t:Bool):scalarC (.b t)=true:=rfl
@[simp] theorem z6q(t:Bool):scalar1 (.b t)=true:=rfl
@[simp] theorem zaah(t:Bool):scalar (.b t)=true:=rfl
@[simp] theorem zad0(t:Bool):pureC (.b t)=true:=rfl
@[simp] theorem zad1(t:Bool):noRef (.b t)=true:=rfl
@[simp] theorem zais(t:Bool):refs (.b t)=[]:=rfl
@[simp] theorem zals(t:Bool):rfC (.b t)=[]:=rfl
@[simp] theorem zalt(t:Bool):rf1 (.b t)=[]:=rfl
@[simp] theorem zalu(t:Bool):rfA (.b t)=[]:=rfl
@[simp] theorem zalv{σn:BId→BId}{σg:Nat→Nat}(t:Bool):rlC σn σg (.b t)=(.b t):=rfl
@[simp] theorem zalw{σn:BId→BId}{σg:Nat→Nat}(t:Bool):rl1 σn σg (.b t)=(.b t):=rfl
@[simp] theorem zalx{σn:BId→BId}{σg:Nat→Nat}(t:Bool):rlA σn σg (.b t)=(.b t):=rfl
@[simp] theorem zaai{h:Heap}(t:Bool):refOkC h (.b t)=true:=rfl
@[simp] theorem zaaj{h:Heap}(t:Bool):refOk1 h (.b t)=true:=rfl
@[simp] theorem zad2{h:Heap}(t:Bool):refOk h (.b t)=true:=rfl
@[simp] theorem z6r(t:Bool):cellsOf (.b t)=some [.b t]:=rfl
@[simp] theorem zaly(l:List UInt8):wkA (.s l)=.s l:=rfl
@[simp] theorem zait{h:Heap}(l:List UInt8):frz1 h (.s l)=some (.s l):=rfl
@[simp] theorem zaiu{h:Heap}(l:List UInt8):frzC h (.s l)=some (.s l):=rfl
@[simp] theorem zalz{h:Heap}(l:List UInt8):frz h (.s l)=some (.s l):=rfl
@[simp] theorem z6s(l:List UInt8):scalarC (.s l)=true:=rfl
@[simp] theorem z6t(l:List UInt8):scalar1 (.s l)=true:=rfl
@[simp] theorem zaak(l:List UInt8):scalar (.s l)=true:=rfl
@[simp] theorem zad3(l:List UInt8):pureC (.s l)=true:=rfl
@[simp] theorem zad4(l:List UInt8):noRef (.s l)=true:=rfl
@[simp] theorem zaiv(l:List UInt8):refs (.s l)=[]:=rfl
@[simp] theorem zal0(l:List UInt8):rfC (.s l)=[]:=rfl
@[simp] theorem zal1(l:List UInt8):rf1 (.s l)=[]:=rfl
@[simp] theorem zal2(l:List UInt8):rfA (.s l)=[]:=rfl
@[simp] theorem zal3{σn:BId→BId}{σg:Nat→Nat}(l:List UInt8):rlC σn σg (.s l)=(.s l):=rfl
@[simp] theorem zal4{σn:BId→BId}{σg:Nat→Nat}(l:List UInt8):rl1 σn σg (.s l)=(.s l):=rfl
@[simp] theorem zal5{σn:BId→BId}{σg:Nat→Nat}(l:List UInt8):rlA σn σg (.s l)=(.s l):=rfl
@[simp] theorem zaal{h:Heap}(l:List UInt8):refOkC h (.s l)=true:=rfl
@[simp] theorem zaam{h:Heap}(l:List UInt8):refOk1 h (.s l)=true:=rfl
@[simp] theorem zad5{h:Heap}(l:List UInt8):refOk h (.s l)=true:=rfl
@[simp] theorem z6u(l:List UInt8):cellsOf (.s l)=some [.s l]:=rfl
@[simp] theorem zad6(v:Value):wkA (.raw v)=.raw v:=rfl
@[simp] theorem zaan{h:Heap}(v:Value):frz1 h (.raw v)=some (.raw v):=rfl
@[simp] theorem zaao{h:Heap}(v:Value):frzC h (.raw v)=some (.raw v):=rfl
@[simp] theorem zad7{h:Heap}(v:Value):frz h (.raw v)=some (.raw v):=rfl
@[simp] theorem z1u(v:Value):scalarC (.raw v)=false:=rfl
@[simp] theorem z1v(v:Value):scalar1 (.raw v)=false:=rfl
@[simp] theorem z4n(v:Value):scalar (.raw v)=false:=rfl
@[simp] theorem z6v(v:Value):pureC (.raw v)=true:=rfl
@[simp] theorem z6w(v:Value):noRef (.raw v)=true:=rfl
@[simp] theorem zaap(v:Value):refs (.raw v)=[]:=rfl
@[simp] theorem zad8(v:Value):rfC (.raw v)=[]:=rfl
@[simp] theorem zad9(v:Value):rf1 (.raw v)=[]:=rfl
@[simp] theorem zaea(v:Value):rfA (.raw v)=[]:=rfl
@[simp] theorem zaeb{σn:BId→BId}{σg:Nat→Nat}(v:Value):rlC σn σg (.raw v)=(.raw v):=rfl
@[simp] theorem zaec{σn:BId→BId}{σg:Nat→Nat}(v:Value):rl1 σn σg (.raw v)=(.raw v):=rfl
@[simp] theorem zaed{σn:BId→BId}{σg:Nat→Nat}(v:Value):rlA σn σg (.raw v)=(.raw v):=rfl
@[simp] theorem z4o{h:Heap}(v:Value):refOkC h (.raw v)=true:=rfl
@[simp] theorem z4p{h:Heap}(v:Value):refOk1 h (.raw v)=true:=rfl
@[simp] theorem z6x{h:Heap}(v:Value):refOk h (.raw v)=true:=rfl
@[simp] theorem zaee{h:Heap}(els:List (List AV))(f:Fl):frz1 h (.sl els f)=some (.sl els f):=rfl
@[simp] theorem zaef{h:Heap}(els:List (List AV))(f:Fl):frzC h (.sl els f)=some (.sl els f):=rfl
@[simp] theorem zaiw{h:Heap}(els:List (List AV))(f:Fl):frz h (.sl els f)=some (.sl els f):=rfl
@[simp] theorem z4q(els:List (List AV))(f:Fl):scalarC (.sl els f)=false:=rfl
@[simp] theorem z4r(els:List (List AV))(f:Fl):scalar1 (.sl els f)=false:=rfl
@[simp] theorem z6y(els:List (List AV))(f:Fl):scalar (.sl els f)=false:=rfl
@[simp] theorem zaaq(els:List (List AV))(f:Fl):pureC (.sl els f)=true:=rfl
@[simp] theorem zaar(els:List (List AV))(f:Fl):noRef (.sl els f)=true:=rfl
@[simp] theorem zaeg(els:List (List AV))(f:Fl):refs (.sl els f)=[]:=rfl
@[simp] theorem zaix(els:List (List AV))(f:Fl):rfC (.sl els f)=[]:=rfl
@[simp] theorem zaiy(els:List (List AV))(f:Fl):rf1 (.sl els f)=[]:=rfl
@[simp] theorem zaiz(els:List (List AV))(f:Fl):rfA (.sl els f)=[]:=rfl
@[simp] theorem zai0{σn:BId→BId}{σg:Nat→Nat}(els:List (List AV))(f:Fl):rlC σn σg (.sl els f)=(.sl els f):=rfl
@[simp] theorem zai1{σn:BId→BId}{σg:Nat→Nat}(els:List (List AV))(f:Fl):rl1 σn σg (.sl els f)=(.sl els f):=rfl
@[simp] theorem zai2{σn:BId→BId}{σg:Nat→Nat}(els:List (List AV))(f:Fl):rlA σn σg (.sl els f)=(.sl els f):=rfl
@[simp] theorem z6z{h:Heap}(els:List (List AV))(f:Fl):refOkC h (.sl els f)=true:=rfl
@[simp] theorem z60{h:Heap}(els:List (List AV))(f:Fl):refOk1 h (.sl els f)=true:=rfl
@[simp] theorem zaas{h:Heap}(els:List (List AV))(f:Fl):refOk h (.sl els f)=true:=rfl
@[simp] theorem z4s(els:List (List AV))(f:Fl):cellsOf (.sl els f)=some [.sl els f]:=rfl
@[simp] theorem zai3(cs:List AV)(o:Nat):wkA (.ep cs o)=.ep cs o:=rfl
@[simp] theorem zaeh{h:Heap}(cs:List AV)(o:Nat):frz1 h (.ep cs o)=some (.ep cs o):=rfl
@[simp] theorem zaei{h:Heap}(cs:List AV)(o:Nat):frzC h (.ep cs o)=some (.ep cs o):=rfl
@[simp] theorem zai4{h:Heap}(cs:List AV)(o:Nat):frz h (.ep cs o)=some (.ep cs o):=rfl
@[simp] theorem z4t(cs:List AV)(o:Nat):scalarC (.ep cs o)=false:=rfl
@[simp] theorem z4u(cs:List AV)(o:Nat):scalar1 (.ep cs o)=false:=rfl
@[simp] theorem z61(cs:List AV)(o:Nat):scalar (.ep cs o)=false:=rfl
@[simp] theorem zaat(cs:List AV)(o:Nat):pureC (.ep cs o)=true:=rfl
@[simp] theorem zaau(cs:List AV)(o:Nat):noRef (.ep cs o)=true:=rfl
@[simp] theorem zaej(cs:List AV)(o:Nat):refs (.ep cs o)=[]:=rfl
@[simp] theorem zai5(cs:List AV)(o:Nat):rfC (.ep cs o)=[]:=rfl
@[simp] theorem zai6(cs:List AV)(o:Nat):rf1 (.ep cs o)=[]:=rfl
@[simp] theorem zai7(cs:List AV)(o:Nat):rfA (.ep cs o)=[]:=rfl
@[simp] theorem zai8{σn:BId→BId}{σg:Nat→Nat}(cs:List AV)(o:Nat):rlC σn σg (.ep cs o)=(.ep cs o):=rfl
@[simp] theorem zai9{σn:BId→BId}{σg:Nat→Nat}(cs:List AV)(o:Nat):rl1 σn σg (.ep cs o)=(.ep cs o):=rfl
@[simp] theorem zaja{σn:BId→BId}{σg:Nat→Nat}(cs:List AV)(o:Nat):rlA σn σg (.ep cs o)=(.ep cs o):=rfl
@[simp] theorem z62{h:Heap}(cs:List AV)(o:Nat):refOkC h (.ep cs o)=true:=rfl
@[simp] theorem z63{h:Heap}(cs:List AV)(o:Nat):refOk1 h (.ep cs o)=true:=rfl
@[simp] theorem zaav{h:Heap}(cs:List AV)(o:Nat):refOk h (.ep cs o)=true:=rfl
@[simp] theorem z4v(cs:List AV)(o:Nat):cellsOf (.ep cs o)=some [.ep cs o]:=rfl
@[simp] theorem zajb(n:Nat):wkA (u8 n)=u8 n:=rfl
@[simp] theorem zaek{h:Heap}(n:Nat):frz1 h (u8 n)=some (u8 n):=rfl
@[simp] theorem zael{h:Heap}(n:Nat):frzC h (u8 n)=some (u8 n):=rfl
@[simp] theorem zajc{h:Heap}(n:Nat):frz h (u8 n)=some (u8 n):=rfl
@[simp] theorem z4w(n:Nat):scalarC (u8 n)=true:=rfl
@[simp] theorem z4x(n:Nat):scalar1 (u8 n)=true:=rfl
@[simp] theorem z64(n:Nat):scalar (u8 n)=true:=rfl
@[simp] theorem zaaw(n:Nat):pureC (u8 n)=true:=rfl
@[simp] theorem zaax(n:Nat):noRef (u8 n)=true:=rfl
@[simp] theorem zaem(n:Nat):refs (u8 n)=[]:=rfl
@[simp] theorem zajd(n:Nat):rfC (u8 n)=[]:=rfl
@[simp] theorem zaje(n:Nat):rf1 (u8 n)=[]:=rfl
@[simp] theorem zajf(n:Nat):rfA (u8 n)=[]:=rfl
@[simp] theorem zajg{σn:BId→BId}{σg:Nat→Nat}(n:Nat):rlC σn σg (u8 n)=(u8 n):=rfl
@[simp] theorem zajh{σn:BId→BId}{σg:Nat→Nat}(n:Nat):rl1 σn σg (u8 n)=(u8 n):=rfl
@[simp] theorem zaji{σn:BId→BId}{σg:Nat→Nat}(n:Nat):rlA σn σg (u8 n)=(u8 n):=rfl
@[simp] theorem z65{h:Heap}(n:Nat):refOkC h (u8 n)=true:=rfl
@[simp] theorem z66{h:Heap}(n:Nat):refOk1 h (u8 n)=true:=rfl
@[simp] theorem zaay{h:Heap}(n:Nat):refOk h (u8 n)=true:=rfl
@[simp] theorem z4y(n:Nat):cellsOf (u8 n)=some [u8 n]:=rfl
@[simp] theorem zaen(n:Nat):wkA (u32 n)=u32 n:=rfl
@[simp] theorem zaaz{h:Heap}(n:Nat):frz1 h (u32 n)=some (u32 n):=rfl
@[simp] theorem zaa0{h:Heap}(n:Nat):frzC h (u32 n)=some (u32 n):=rfl
@[simp] theorem zaeo{h:Heap}(n:Nat):frz h (u32 n)=some (u32 n):=rfl
@[simp] theorem z1w(n:Nat):scalarC (u32 n)=true:=rfl
@[simp] theorem z1x(n:Nat):scalar1 (u32 n)=true:=rfl
@[simp] theorem z4z(n:Nat):scalar (u32 n)=true:=rfl
@[simp] theorem z67(n:Nat):pureC (u32 n)=true:=rfl
@[simp] theorem z68(n:Nat):noRef (u32 n)=true:=rfl
@[simp] theorem zaa1(n:Nat):refs (u32 n)=[]:=rfl
@[simp] theorem zaep(n:Nat):rfC (u32 n)=[]:=rfl
@[simp] theorem zaeq(n:Nat):rf1 (u32 n)=[]:=rfl
@[simp] theorem zaer(n:Nat):rfA (u32 n)=[]:=rfl
@[simp] theorem zaes{σn:BId→BId}{σg:Nat→Nat}(n:Nat):rlC σn σg (u32 n)=(u32 n):=rfl
@[simp] theorem zaet{σn:BId→BId}{σg:Nat→Nat}(n:Nat):rl1 σn σg (u32 n)=(u32 n):=rfl
@[simp] theorem zaeu{σn:BId→BId}{σg:Nat→Nat}(n:Nat):rlA σn σg (u32 n)=(u32 n):=rfl
@[simp] theorem z40{h:Heap}(n:Nat):refOkC h (u32 n)=true:=rfl
@[simp] theorem z41{h:Heap}(n:Nat):refOk1 h (u32 n)=true:=rfl
@[simp] theorem z69{h:Heap}(n:Nat):refOk h (u32 n)=true:=rfl
@[simp] theorem z1y(n:Nat):cellsOf (u32 n)=some [u32 n]:=rfl
@[simp] theorem zaev(n:Nat):wkA (u64 n)=u64 n:=rfl
@[simp] theorem zaa2{h:Heap}(n:Nat):frz1 h (u64 n)=some (u64 n):=rfl
@[simp] theorem zaa3{h:Heap}(n:Nat):frzC h (u64 n)=some (u64 n):=rfl
@[simp] theorem zaew{h:Heap}(n:Nat):frz h (u64 n)=some (u64 n):=rfl
@[simp] theorem z1z(n:Nat):scalarC (u64 n)=true:=rfl
@[simp] theorem z10(n:Nat):scalar1 (u64 n)=true:=rfl
@[simp] theorem z42(n:Nat):scalar (u64 n)=true:=rfl
@[simp] theorem z7a(n:Nat):pureC (u64 n)=true:=rfl
@[simp] theorem z7b(n:Nat):noRef (u64 n)=true:=rfl
@[simp] theorem zaa4(n:Nat):refs (u64 n)=[]:=rfl
@[simp] theorem zaex(n:Nat):rfC (u64 n)=[]:=rfl
@[simp] theorem zaey(n:Nat):rf1 (u64 n)=[]:=rfl
@[simp] theorem zaez(n:Nat):rfA (u64 n)=[]:=rfl
@[simp] theorem zae0{σn:BId→BId}{σg:Nat→Nat}(n:Nat):rlC σn σg (u64 n)=(u64 n):=rfl
@[simp] theorem zae1{σn:BId→BId}{σg:Nat→Nat}(n:Nat):rl1 σn σg (u64 n)=(u64 n):=rfl
@[simp] theorem zae2{σn:BId→BId}{σg:Nat→Nat}(n:Nat):rlA σn σg (u64 n)=(u64 n):=rfl
@[simp] theorem z43{h:Heap}(n:Nat):refOkC h (u64 n)=true:=rfl
@[simp] theorem z44{h:Heap}(n:Nat):refOk1 h (u64 n)=true:=rfl
@[simp] theorem z7c{h:Heap}(n:Nat):refOk h (u64 n)=true:=rfl
@[simp] theorem z11(n:Nat):cellsOf (u64 n)=some [u64 n]:=rfl
@[simp] theorem zaa5 :wkA .dead=.dead:=rfl
@[simp] theorem z7d{h:Heap} :frz1 h .dead=some .dead:=rfl
@[simp] theorem z7e{h:Heap} :frzC h .dead=some .dead:=rfl
@[simp] theorem zaa6{h:Heap} :frz h .dead=some .dead:=rfl
@[simp] theorem z0j :scalarC .dead=false:=rfl
@[simp] theorem z0k :scalar1 .dead=false:=rfl
@[simp] theorem z12 :scalar .dead=false:=rfl
@[simp] theorem z45 :pureC .dead=true:=rfl
@[simp] theorem z46 :noRef .dead=true:=rfl
@[simp] theorem z7f :refs .dead=[]:=rfl
@[simp] theorem zaa7 :rfC .dead=[]:=rfl
@[simp] theorem zaa8 :rf1 .dead=[]:=rfl
@[simp] theorem zaa9 :rfA .dead=[]:=rfl
@[simp] theorem zaba{σn:BId→BId}{σg:Nat→Nat} :rlC σn σg .dead=.dead:=rfl
@[simp] theorem zabb{σn:BId→BId}{σg:Nat→Nat} :rl1 σn σg .dead=.dead:=rfl
@[simp] theorem zabc{σn:BId→BId}{σg:Nat→Nat} :rlA σn σg .dead=.dead:=rfl
@[simp] theorem z13{h:Heap} :refOkC h .dead=true:=rfl
@[simp] theorem z14{h:Heap} :refOk1 h .dead=true:=rfl
@[simp] theorem z47{h:Heap} :refOk h .dead=true:=rfl
@[simp] theorem zajj(els:List (List AV))(f:Fl):wkA (.sl els f)=.sl (wkL els) .an:=rfl
@[simp] theorem zae3(cs:List AV):wkA (.agg cs)=.agg (wkR cs):=rfl
@[simp] theorem zae4(cs:List AV):wkA (.tup cs)=.tup (wkR cs):=rfl
@[simp] theorem zajk(id:BId)(g z off n:Nat):wkA (.bs id g z off n)=.bs id g z off n:=rfl
@[simp] theorem zae5(id:BId)(g z i o:Nat):wkA (.ptr id g z i o)=.ptr id g z i o:=rfl
@[simp] theorem zae6(f:Nat)(id:BId)(g z i o:Nat):wkA (.fnp f id g z i o)=.fnp f id g z i o:=rfl
@[simp] theorem zae7(f:Nat)(x:AV):wkA (.fnv f x)=.fnv f (wkA x):=rfl
@[simp] theorem zae8 :wkR []=[]:=rfl
@[simp] theorem zabd(c:AV)(r:List AV):wkR (c::r)=wkA c::wkR r:=rfl
@[simp] theorem zae9 :wkL []=[]:=rfl
@[simp] theorem zabe(c:List AV)(r:List (List AV)):wkL (c::r)=wkR c::wkL r:=rfl
@[simp] theorem zafa{h:Heap}(id:BId)(g z off n:Nat):frzC h (.bs id g z off n)=(boxAt h id g z).bind fun bx=>if bx.kind≠.str∧off+n≤bx.els.length then some (.sl ((bx.els.drop off).take n) .an) else none:=rfl
@[simp] theorem zabf{h:Heap}(id:BId)(g z i o:Nat):frzC h (.ptr id g z i o)=some .dead:=rfl
@[simp] theorem zabg{h:Heap}(f:Nat)(id:BId)(g z i o:Nat):frzC h (.fnp f id g z i o)=some .dead:=rfl
@[simp] theorem zabh{h:Heap}(f:Nat)(x:AV):frzC h (.fnv f x)=some (.fnv f x):=rfl
@[simp] theorem zafb{h:Heap}(id:BId)(g z off n:Nat):frz1 h (.bs id g z off n)=(boxAt h id g z).bind fun bx=>if bx.kind≠.str∧off+n≤bx.els.length then some (.sl ((bx.els.drop off).take n) .an) else none:=rfl
@[simp] theorem zabi{h:Heap}(id:BId)(g z i o:Nat):frz1 h (.ptr id g z i o)=some .dead:=rfl
@[simp] theorem zabj{h:Heap}(f:Nat)(id:BId)(g z i o:Nat):frz1 h (.fnp f id g z i o)=some .dead:=rfl
@[simp] theorem zabk{h:Heap}(f:Nat)(x:AV):frz1 h (.fnv f x)=some (.fnv f x):=rfl
@[simp] theorem zajl{h:Heap}(id:BId)(g z off n:Nat):frz h (.bs id g z off n)=(boxAt h id g z).bind fun bx=>if bx.kind≠.str∧off+n≤bx.els.length then some (.sl ((bx.els.drop off).take n) .an) else none:=rfl
@[simp] theorem zafc{h:Heap}(id:BId)(g z i o:Nat):frz h (.ptr id g z i o)=some .dead:=rfl
@[simp] theorem zafd{h:Heap}(f:Nat)(id:BId)(g z i o:Nat):frz h (.fnp f id g z i o)=some .dead:=rfl
@[simp] theorem zafe{h:Heap}(f:Nat)(x:AV):frz h (.fnv f x)=some (.fnv f x):=rfl
@[simp] theorem zabl{h:Heap}(cs:List AV):frz1 h (.agg cs)=(cs.mapM (frzC h)).map .agg:=rfl
@[simp] theorem zaff{h:Heap}(cs:List AV):frz h (.agg cs)=(cs.mapM (frzC h)).map .agg:=rfl
@[simp] theorem zafg{h:Heap}(cs:List AV):frz h (.tup cs)=(cs.mapM (frz1 h)).map .tup:=rfl
@[simp] theorem z48(id:BId)(g z off n:Nat):scalarC (.bs id g z off n)=false:=rfl
@[simp] theorem z15(id:BId)(g z i o:Nat):scalarC (.ptr id g z i o)=false:=rfl
@[simp] theorem z16(f:Nat)(id:BId)(g z i o:Nat):scalarC (.fnp f id g z i o)=false:=rfl
@[simp] theorem z17(f:Nat)(x:AV):scalarC (.fnv f x)=false:=rfl
@[simp] theorem z49(id:BId)(g z off n:Nat):scalar1 (.bs id g z off n)=false:=rfl
@[simp] theorem z18(id:BId)(g z i o:Nat):scalar1 (.ptr id g z i o)=false:=rfl
@[simp] theorem z19(f:Nat)(id:BId)(g z i o:Nat):scalar1 (.fnp f id g z i o)=false:=rfl
@[simp] theorem z2a(f:Nat)(x:AV):scalar1 (.fnv f x)=false:=rfl
@[simp] theorem z7g(id:BId)(g z off n:Nat):scalar (.bs id g z off n)=false:=rfl
@[simp] theorem z5a(id:BId)(g z i o:Nat):scalar (.ptr id g z i o)=false:=rfl
@[simp] theorem z5b(f:Nat)(id:BId)(g z i o:Nat):scalar (.fnp f id g z i o)=false:=rfl
@[simp] theorem z5c(f:Nat)(x:AV):scalar (.fnv f x)=false:=rfl
@[simp] theorem z2b(cs:List AV):scalar1 (.agg cs)=cs.all scalarC:=rfl
@[simp] theorem z5d(cs:List AV):scalar (.agg cs)=cs.all scalarC:=rfl
@[simp] theorem z5e(cs:List AV):scalar (.tup cs)=cs.all scalar1:=rfl
@[simp] theorem zabm(id:BId)(g z off n:Nat):pureC (.bs id g z off n)=false:=rfl
@[simp] theorem z7h(id:BId)(g z i o:Nat):pureC (.ptr id g z i o)=false:=rfl
@[simp] theorem z7i(f:Nat)(id:BId)(g z i o:Nat):pureC (.fnp f id g z i o)=false:=rfl
@[simp] theorem z7j(f:Nat)(x:AV):pureC (.fnv f x)=true:=rfl
@[simp] theorem z7k(cs:List AV):pureC (.agg cs)=false:=rfl
@[simp] theorem z7l(cs:List AV):pureC (.tup cs)=false:=rfl
@[simp] theorem zabn(id:BId)(g z off n:Nat):noRef (.bs id g z off n)=false:=rfl
@[simp] theorem z7m(id:BId)(g z i o:Nat):noRef (.ptr id g z i o)=false:=rfl
@[simp] theorem z7n(f:Nat)(id:BId)(g z i o:Nat):noRef (.fnp f id g z i o)=false:=rfl
@[simp] theorem z7o(f:Nat)(x:AV):noRef (.fnv f x)=true:=rfl
@[simp] theorem z7p(cs:List AV):noRef (.agg cs)=cs.all pureC:=rfl
@[simp] theorem z7q(cs:List AV):noRef (.tup cs)=false:=rfl
@[simp] theorem zafh(id:BId)(g z off n:Nat):refs (.bs id g z off n)=[id]:=rfl
@[simp] theorem zabo(id:BId)(g z i o:Nat):refs (.ptr id g z i o)=[]:=rfl
@[simp] theorem zabp(f:Nat)(id:BId)(g z i o:Nat):refs (.fnp f id g z i o)=[]:=rfl
@[simp] theorem zabq(f:Nat)(x:AV):refs (.fnv f x)=[]:=rfl
@[simp] theorem zajm(id:BId)(g z off n:Nat):rfC (.bs id g z off n)=[id]:=rfl
@[simp] theorem zafi(id:BId)(g z i o:Nat):rfC (.ptr id g z i o)=[id]:=rfl
@[simp] theorem zafj(f:Nat)(id:BId)(g z i o:Nat):rfC (.fnp f id g z i o)=[id]:=rfl
@[simp] theorem zafk(f:Nat)(x:AV):rfC (.fnv f x)=[]:=rfl
@[simp] theorem zajn(id:BId)(g z off n:Nat):rf1 (.bs id g z off n)=[id]:=rfl
@[simp] theorem zafl(id:BId)(g z i o:Nat):rf1 (.ptr id g z i o)=[id]:=rfl
@[simp] theorem zafm(f:Nat)(id:BId)(g z i o:Nat):rf1 (.fnp f id g z i o)=[id]:=rfl
@[simp] theorem zafn(f:Nat)(x:AV):rf1 (.fnv f x)=[]:=rfl
@[simp] theorem zajo(id:BId)(g z off n:Nat):rfA (.bs id g z off n)=[id]:=rfl
@[simp] theorem zafo(id:BId)(g z i o:Nat):rfA (.ptr id g z i o)=[id]:=rfl
@[simp] theorem zafp(f:Nat)(id:BId)(g z i o:Nat):rfA (.fnp f id g z i o)=[id]:=rfl
@[simp] theorem zafq(f:Nat)(x:AV):rfA (.fnv f x)=[]:=rfl
def rfsC:AV→List BId
 | .bs id .. => [id]
 | _=>[]
@[simp] theorem zafr(cs:List AV):rf1 (.agg cs)=cs.flatMap rfC:=rfl
@[simp] theorem zafs(cs:List AV):rfA (.agg cs)=cs.flatMap rfC:=rfl
@[simp] theorem zaft(cs:List AV):rfA (.tup cs)=cs.flatMap rf1:=rfl
@[simp] theorem zajp{σn:BId→BId}{σg:Nat→Nat}(id:BId)(g z off n:Nat):rlC σn σg (.bs id g z off n)=.bs (σn id) (σg g) z off n:=rfl
@[simp] theorem zafu{σn:BId→BId}{σg:Nat→Nat}(id:BId)(g z i o:Nat):rlC σn σg (.ptr id g z i o)=.ptr (σn id) (σg g) z i o:=rfl
@[simp] theorem zafv{σn:BId→BId}{σg:Nat→Nat}(f:Nat)(id:BId)(g z i o:Nat):rlC σn σg (.fnp f id g z i o)=.fnp f (σn id) (σg g) z i o:=rfl
@[simp] theorem zafw{σn:BId→BId}{σg:Nat→Nat}(f:Nat)(x:AV):rlC σn σg (.fnv f x)=.fnv f x:=rfl
@[simp] theorem zajq{σn:BId→BId}{σg:Nat→Nat}(id:BId)(g z off n:Nat):rl1 σn σg (.bs id g z off n)=.bs (σn id) (σg g) z off n:=rfl
@[simp] theorem zafx{σn:BId→BId}{σg:Nat→Nat}(id:BId)(g z i o:Nat):rl1 σn σg (.ptr id g z i o)=.ptr (σn id) (σg g) z i o:=rfl
@[simp] theorem zafy{σn:BId→BId}{σg:Nat→Nat}(f:Nat)(id:BId)(g z i o:Nat):rl1 σn σg (.fnp f id g z i o)=.fnp f (σn id) (σg g) z i o:=rfl
@[simp] theorem zafz{σn:BId→BId}{σg:Nat→Nat}(f:Nat)(x:AV):rl1 σn σg (.fnv f x)=.fnv f x:=rfl
@[simp] theorem zajr{σn:BId→BId}{σg:Nat→Nat}(id:BId)(g z off n:Nat):rlA σn σg (.bs id g z off n)=.bs (σn id) (σg g) z off n:=rfl
@[simp] theorem zaf0{σn:BId→BId}{σg:Nat→Nat}(id:BId)(g z i o:Nat):rlA σn σg (.ptr id g z i o)=.ptr (σn id) (σg g) z i o:=rfl
@[simp] theorem zaf1{σn:BId→BId}{σg:Nat→Nat}(f:Nat)(id:BId)(g z i o:Nat):rlA σn σg (.fnp f id g z i o)=.fnp f (σn id) (σg g) z i o:=rfl
@[simp] theorem zaf2{σn:BId→BId}{σg:Nat→Nat}(f:Nat)(x:AV):rlA σn σg (.fnv f x)=.fnv f x:=rfl
@[simp] theorem zaf3{σn:BId→BId}{σg:Nat→Nat}(cs:List AV):rl1 σn σg (.agg cs)=.agg (cs.map (rlC σn σg)):=rfl
@[simp] theorem zaf4{σn:BId→BId}{σg:Nat→Nat}(cs:List AV):rlA σn σg (.agg cs)=.agg (cs.map (rlC σn σg)):=rfl
@[simp] theorem zaf5{σn:BId→BId}{σg:Nat→Nat}(cs:List AV):rlA σn σg (.tup cs)=.tup (cs.map (rl1 σn σg)):=rfl
@[simp] theorem z7r{h:Heap}(id:BId)(g z off n:Nat):refOkC h (.bs id g z off n)=(boxAt h id g z).isSome:=rfl
@[simp] theorem z5f{h:Heap}(id:BId)(g z i o:Nat):refOkC h (.ptr id g z i o)=(boxAt h id g z).isSome:=rfl
@[simp] theorem z5g{h:Heap}(f:Nat)(id:BId)(g z i o:Nat):refOkC h (.fnp f id g z i o)=genAt h id g:=rfl
@[simp] theorem z5h{h:Heap}(f:Nat)(x:AV):refOkC h (.fnv f x)=true:=rfl
@[simp] theorem z7s{h:Heap}(id:BId)(g z off n:Nat):refOk1 h (.bs id g z off n)=(boxAt h id g z).isSome:=rfl
@[simp] theorem z5i{h:Heap}(id:BId)(g z i o:Nat):refOk1 h (.ptr id g z i o)=(boxAt h id g z).isSome:=rfl
@[simp] theorem z5j{h:Heap}(f:Nat)(id:BId)(g z i o:Nat):refOk1 h (.fnp f id g z i o)=genAt h id g:=rfl
@[simp] theorem z5k{h:Heap}(f:Nat)(x:AV):refOk1 h (.fnv f x)=true:=rfl
@[simp] theorem zabr{h:Heap}(id:BId)(g z off n:Nat):refOk h (.bs id g z off n)=(boxAt h id g z).isSome:=rfl
@[simp] theorem z7t{h:Heap}(id:BId)(g z i o:Nat):refOk h (.ptr id g z i o)=(boxAt h id g z).isSome:=rfl
@[simp] theorem z7u{h:Heap}(f:Nat)(id:BId)(g z i o:Nat):refOk h (.fnp f id g z i o)=genAt h id g:=rfl
@[simp] theorem z7v{h:Heap}(f:Nat)(x:AV):refOk h (.fnv f x)=true:=rfl
@[simp] theorem z5l{h:Heap}(cs:List AV):refOk1 h (.agg cs)=cs.all (refOkC h):=rfl
@[simp] theorem z7w{h:Heap}(cs:List AV):refOk h (.agg cs)=cs.all (refOkC h):=rfl
@[simp] theorem z7x{h:Heap}(cs:List AV):refOk h (.tup cs)=cs.all (refOk1 h):=rfl
@[simp] theorem z5m(id:BId)(g z off n:Nat):cellsOf (.bs id g z off n)=some [.bs id g z off n]:=rfl
@[simp] theorem z2c(id:BId)(g z i o:Nat):cellsOf (.ptr id g z i o)=some [.ptr id g z i o]:=rfl
@[simp] theorem z2d(f:Nat)(id:BId)(g z i o:Nat):cellsOf (.fnp f id g z i o)=some [.fnp f id g z i o]:=rfl
@[simp] theorem z2e(f:Nat)(x:AV):cellsOf (.fnv f x)=some [.fnv f x]:=rfl
@[simp] theorem z2f(cs:List AV):cellsOf (.agg cs)=some cs:=rfl
@[simp] theorem zajs(k:IntKind)(n:Int):rfsC (.i k n)=[]:=rfl
@[simp] theorem zajt(t:Bool):rfsC (.b t)=[]:=rfl
@[simp] theorem zaju(l:List UInt8):rfsC (.s l)=[]:=rfl
@[simp] theorem zabs(v:Value):rfsC (.raw v)=[]:=rfl
@[simp] theorem zaf6(els:List (List AV))(f:Fl):rfsC (.sl els f)=[]:=rfl
@[simp] theorem zaf7(cs:List AV)(o:Nat):rfsC (.ep cs o)=[]:=rfl
@[simp] theorem zaf8(n:Nat):rfsC (u8 n)=[]:=rfl
@[simp] theorem zabt(n:Nat):rfsC (u32 n)=[]:=rfl
@[simp] theorem zabu(n:Nat):rfsC (u64 n)=[]:=rfl
@[simp] theorem z7y :rfsC .dead=[]:=rfl
@[simp] theorem zaf9(id:BId)(g z off n:Nat):rfsC (.bs id g z off n)=[id]:=rfl
@[simp] theorem zabv(id:BId)(g z i o:Nat):rfsC (.ptr id g z i o)=[]:=rfl
@[simp] theorem zabw(f:Nat)(id:BId)(g z i o:Nat):rfsC (.fnp f id g z i o)=[]:=rfl
@[simp] theorem zabx(f:Nat)(x:AV):rfsC (.fnv f x)=[]:=rfl
@[simp] theorem zaby(cs:List AV):refs (.agg cs)=cs.flatMap rfsC:=rfl
@[simp] theorem z0l:refs (.tup [])=[]:=rfl
@[simp] theorem zabz(h:Heap)(id:BId)(g z:Nat):boxAt h id g z=(match h.lookup id with | some bx=>if bx.gen=g∧bx.z=z∧bx.kind≠.mp then some bx else none | none=>none):=rfl
@[simp] theorem z7z(x:AV):wkIf true x=x:=rfl
@[simp] theorem z5n(x:AV):wkIf false x=wkA x:=rfl
theorem zkq(n:Nat):IntKind.wrap .u32 (n:Int)=((n%4294967296:Nat):Int):=by
 simp[IntKind.wrap,IntKind.signed,IntKind.bits]
theorem zeq(n:Nat):IntKind.wrap .u64 (n:Int)=((n%18446744073709551616:Nat):Int):=by
 simp[IntKind.wrap,IntKind.signed,IntKind.bits]
theorem wrap_u8(n:Nat):IntKind.wrap .u8 (n:Int)=((n%256:Nat):Int):=by
 simp[IntKind.wrap,IntKind.signed,IntKind.bits]
def bX(o:Option (Ex×St))(f:St→Option (Ex×St)):Option (Ex×St):=o.bind fun r=>match r.1 with | .n=>f r.2 | _=>some r
def blkX(id:Nat)(o:Option (Ex×St)):Option (Ex×St):=o.bind fun r=>match r.1 with | .x j=>if j=id then some (.n,r.2) else some r | _=>some r
def stX(o:Option St):Option (Ex×St):=o.map fun s=>(.n,s)
def bS(o:Option St)(f:St→Option St):Option St:=o.bind f
def cnX(v:AV)(x y:Option (Ex×St)):Option (Ex×St):=match v with | .b t=>if t then x else y | _=>none
def pS(o:Option AV)(d:Option Nat)(st:St):Option St:=o.map fun x=>⟨putE st.env d x,st.heap,st.clk⟩
def pW(o:Option (AV×Heap×Nat))(d:Option Nat)(st:St):Option St:=o.map fun q=>⟨putE st.env d q.1,q.2.1,q.2.2⟩
def pB(o:Option (AV×Heap))(d:Option Nat)(st:St):Option St:=o.map fun q=>⟨putE st.env d q.1,q.2,st.clk⟩
def retF(res:List RV)(ex:Bool)(o:Option (Ex×St)):Option AV:=
 o.bind fun r=>match r.1 with | .x _=>none | .g _=>none | _=>(resAV r.2 res).bind fun x=>(frz r.2.heap x).map (wkIf ex)
def retH(res:List RV)(ex:Bool)(k:Nat)(o:Option (Ex×St)):Option (AV×Heap):=
 o.bind fun r=>match r.1 with | .x _=>none | .g _=>none | _=>(resAV r.2 res).map fun x=>let s:=normS ex k [0] ⟨[(0,x)],r.2.heap,r.2.clk⟩;(s.env.get 0,s.heap)
section
variable{o o':Option (Ex×St)}{f:St→Option (Ex×St)}{s:St}
@[congr] theorem zab0(h:o=o'):bX o f=bX o' f:=by rw[h]
@[congr] theorem zab1{o o':Option St}{f:St→Option St}(h:o=o'):bS o f=bS o' f:=by rw[h]
@[congr] theorem z70{v v':AV}{x y:Option (Ex×St)}(h:v=v'):cnX v x y=cnX v' x y:=by rw[h]
@[simp] theorem bX_n:bX (some (.n,s)) f=f s:=rfl
@[simp] theorem bX_x(id:Nat):bX (some (.x id,s)) f=some (.x id,s):=rfl
@[simp] theorem bX_r:bX (some (.r,s)) f=some (.r,s):=rfl
@[simp] theorem zaga:bX none f=none:=rfl
@[simp] theorem zajv{c:Prop}[Decidable c]{a b:Option (Ex×St)}:bX (if c then a else b) f=if c then bX a f else bX b f:=by split<;>rfl
@[simp] theorem zab2(id:Nat){c:Prop}[Decidable c]{a b:Option (Ex×St)}:blkX id (if c then a else b)=if c then blkX id a else blkX id b:=by split<;>rfl
@[simp] theorem zab3{res:List RV}{ex:Bool}{c:Prop}[Decidable c]{a b:Option (Ex×St)}:retF res ex (if c then a else b)=if c then retF res ex a else retF res ex b:=by split<;>rfl
@[simp] theorem zab4{res:List RV}{ex:Bool}{k:Nat}{c:Prop}[Decidable c]{a b:Option (Ex×St)}:retH res ex k (if c then a else b)=if c then retH res ex k a else retH res ex k b:=by split<;>rfl
@[simp] theorem zajw(id:Nat):blkX id (some (.n,s))=some (.n,s):=rfl
@[simp] theorem z71(id j:Nat):blkX id (some (.x j,s))=if j=id then some (.n,s) else some (.x j,s):=rfl
@[simp] theorem zajx(id:Nat):blkX id (some (.r,s))=some (.r,s):=rfl
@[simp] theorem z72(id:Nat):blkX id none=none:=rfl
@[simp] theorem zab5:stX (some s)=some (.n,s):=rfl
@[simp] theorem zab6:stX none=none:=rfl
@[simp] theorem zagb{f:St→Option St}:bS (some s) f=f s:=rfl
@[simp] theorem zagc{f:St→Option St}:bS none f=none:=rfl
@[simp] theorem zal6{t:Bool}{x y:Option (Ex×St)}:cnX (.b t) x y=if t then x else y:=rfl
@[simp] theorem zagd{x:AV}{d:Option Nat}:pS (some x) d s=some ⟨putE s.env d x,s.heap,s.clk⟩:=rfl
@[simp] theorem zage{d:Option Nat}:pS none d s=none:=rfl
@[simp] theorem zagf{x:AV}{h:Heap}{c:Nat}{d:Option Nat}:pW (some (x,h,c)) d s=some ⟨putE s.env d x,h,c⟩:=rfl
@[simp] theorem zagg{d:Option Nat}:pW none d s=none:=rfl
@[simp] theorem zagh{x:AV}{h:Heap}{d:Option Nat}:pB (some (x,h)) d s=some ⟨putE s.env d x,h,s.clk⟩:=rfl
@[simp] theorem zagi{d:Option Nat}:pB none d s=none:=rfl
@[simp] theorem zajy{res:List RV}{ex:Bool}:retF res ex (some (.r,s))=(resAV s res).bind fun x=>(frz s.heap x).map (wkIf ex):=rfl
@[simp] theorem zajz{res:List RV}{ex:Bool}:retF res ex (some (.n,s))=(resAV s res).bind fun x=>(frz s.heap x).map (wkIf ex):=rfl
@[simp] theorem zaj0{res:List RV}{ex:Bool}{k:Nat}:retH res ex k (some (.r,s))=(resAV s res).map fun x=>((normS ex k [0] ⟨[(0,x)],s.heap,s.clk⟩).env.get 0,(normS ex k [0] ⟨[(0,x)],s.heap,s.clk⟩).heap):=rfl
@[simp] theorem zaj1{res:List RV}{ex:Bool}{k:Nat}:retH res ex k (some (.n,s))=(resAV s res).map fun x=>((normS ex k [0] ⟨[(0,x)],s.heap,s.clk⟩).env.get 0,(normS ex k [0] ⟨[(0,x)],s.heap,s.clk⟩).heap):=rfl
end
section
variable{T:Tbl}{k:Nat}{st:St}{d:Option Nat}
noncomputable abbrev X(T:Tbl)(k:Nat)(c:AX)(st:St):Option (Ex×St):=evX (orc T) T k c st
noncomputable abbrev R(T:Tbl)(l:List AO)(st:St):Option St:=runX (orc T) T l st
@[congr] theorem z73{O:Orc}{c:AX}{st st':St}(h:st=st'):evX O T k c st=evX O T k c st':=by rw[h]
@[congr] theorem z74{O:Orc}{op:AOp}{d:Option Nat}{st st':St}(h:st=st'):opX O T op d st=opX O T op d st':=by rw[h]
@[simp] theorem zaj2:evX (orc T) T k .skip st=some (.n,st):=rfl
@[simp] theorem zal7{l:List AO}:evX (orc T) T k (.reg l) st=stX (runX (orc T) T l st):=rfl
@[simp] theorem zaj3{l:List DO}:evX (orc T) T k (.draw l) st=stX (drawX (orc T) T l st.env st.heap st.clk [] []):=rfl
@[simp] theorem zal8{a b:AX}:evX (orc T) T k (.seq a b) st=bX (evX (orc T) T k a st) fun s=>evX (orc T) T k b s:=rfl
@[simp] theorem zaj4{c:Opd}{x y:AX}:evX (orc T) T k (.cond c x y) st=cnX (ev st.env.get c) (evX (orc T) T k x st) (evX (orc T) T k y st):=rfl
@[simp] theorem zagj{id:Nat}{c:AX}:evX (orc T) T k (.block id c) st=blkX id (evX (orc T) T k c st):=rfl
@[simp] theorem zaj5{c:AX}:evX (orc T) T k (.loop c) st=loopX T k c st:=rfl
def scX(o:Option (Ex×St)):Option (Ex×St):=o.bind fun r=>match r.1 with | .g _=>none | _=>some r
@[congr] theorem z77{o o':Option (Ex×St)}(h:o=o'):scX o=scX o':=by rw[h]
@[simp] theorem zal9{s:St}:scX (some (.n,s))=some (.n,s):=rfl
@[simp] theorem zama{j:Nat}{s:St}:scX (some (.x j,s))=some (.x j,s):=rfl
@[simp] theorem zamb{s:St}:scX (some (.r,s))=some (.r,s):=rfl
@[simp] theorem zagk{c:Prop}[Decidable c]{a b:Option (Ex×St)}:scX (if c then a else b)=if c then scX a else scX b:=by split<;>rfl
@[simp] theorem zagl{c:AX}:evX (orc T) T k (.scope c) st=scX (evX (orc T) T k c st):=rfl
@[simp] theorem zagm{l:Nat}:evX (orc T) T k (.label l) st=some (.n,st):=rfl
@[simp] theorem zaj6{l:Nat}:evX (orc T) T k (.goto l) st=some (.g l,st):=rfl
@[simp] theorem bX_g{l:Nat}{s:St}{f:St→Option (Ex×St)}:bX (some (.g l,s)) f=some (.g l,s):=rfl
@[simp] theorem zaj7{id l:Nat}{s:St}:blkX id (some (.g l,s))=some (.g l,s):=rfl
@[simp] theorem zaj8{id:Nat}:evX (orc T) T k (.exit id) st=some (.x id,st):=rfl
@[simp] theorem zamc:evX (orc T) T k .ret st=some (.r,st):=rfl
@[simp] theorem zaj9{c:AX}{g:Gh}:evX (orc T) T k (.note c g) st=bX (evX (orc T) T k c st) fun s=>stX (ghS k g s):=rfl
def prX(o:Option St)(f:St→Option (Ex×St)):Option (Ex×St):=o.bind f
@[simp] theorem zab7{s:St}{f:St→Option (Ex×St)}:prX (some s) f=f s:=rfl
@[simp] theorem zamd{c:AX}{g:Gh}:evX (orc T) T k (.pre g c) st=prX (ghS k g st) fun s=>evX (orc T) T k c s:=rfl
noncomputable def finX(k id:Nat)(g2:Gh)(o:Option (Ex×St)):Option (Ex×St):=bX (blkX id o) fun s=>stX (ghS k g2 s)
noncomputable def loopN(T:Tbl)(k id:Nat)(g2:Gh)(c:AX)(st:St):Option (Ex×St):=finX k id g2 (loopX T k c st)
@[congr] theorem z2g{id:Nat}{g2:Gh}{c:AX}{st st':St}(h:st=st'):loopN T k id g2 c st=loopN T k id g2 c st':=by rw[h]
@[congr] theorem z5o{id:Nat}{g2:Gh}{o o':Option (Ex×St)}(h:o=o'):finX k id g2 o=finX k id g2 o':=by rw[h]
@[simp] theorem zaka{id j:Nat}{g2:Gh}{s:St}:finX k id g2 (some (.x j,s))=if j=id then stX (ghS k g2 s) else some (.x j,s):=by
 unfold finX
 rw[z71]
 split<;>simp
@[simp] theorem zakb{id:Nat}{g2:Gh}{s:St}:finX k id g2 (some (.r,s))=some (.r,s):=rfl
@[simp] theorem X_lp{id:Nat}{g g2:Gh}{c:AX}:evX (orc T) T k (.lp id g c g2) st=prX (ghS k g st) fun s=>loopN T k id g2 c s:=by
 simp only[evX,prX,loopN,finX,bX,blkX,stX,loopX]
 cases ghS k g st with
 | none=>rfl
 | some s=>
  simp only[Option.bind_some]
  cases (orc T).loop k c s with
  | none=>rfl
  | some r=>
   obtain⟨e,s'⟩:=r
   cases e with
   | n=>rfl
   | r=>rfl
   | g l=>rfl
   | x j=>
    simp only[Option.bind_some]
    split<;>rfl
def isEx:Option (Ex×St)→Bool
 | some (.x _,_)=>true
 | some (.r,_)=>true
 | _=>false
@[simp] theorem zakc{j:Nat}{s:St}:isEx (some (.x j,s))=true:=rfl
@[simp] theorem zakd{s:St}:isEx (some (.r,s))=true:=rfl
@[simp] theorem zab8{c:Prop}[Decidable c]{a b:Option (Ex×St)}:isEx (if c then a else b)=if c then isEx a else isEx b:=by split<;>rfl
@[congr] theorem z5p{o o':Option (Ex×St)}(h:o=o'):isEx o=isEx o':=by rw[h]
theorem zpp{c:AX}:loopX T k c st=bX (evX (orc T) T k c st) fun s=>loopX T k c s:=zxz T k c st
theorem za1{α:Type}{id:Nat}{g2:Gh}{c:AX}(F:α→St)(I:α→Prop)(μ:α→Nat)(Q:Ex×St→Prop)
  (step:∀x,I x→(∃y,I y∧μ y<μ x∧evX (orc T) T k c (F x)=some (.n,F y))∨(∃r,Q r∧isEx (evX (orc T) T k c (F x))=true∧finX k id g2 (evX (orc T) T k c (F x))=some r)) :
  ∀x,I x→∃r,Q r∧loopN T k id g2 c (F x)=some r:=by
 have key:∀n x,μ x=n→I x→∃r,Q r∧loopN T k id g2 c (F x)=some r:=by
  intro n
  induction n using Nat.strongRecOn with
  | _ n ih=>
   intro x hn hI
   unfold loopN
   rw[zpp]
   rcases step x hI with ⟨y,h1,h2,h3⟩ | ⟨r,h1,h2,h3⟩
   ·rw[h3,bX_n]
    exact ih (μ y) (hn▸h2) y rfl h1
   ·refine⟨r,h1,?_⟩
    rw[←h3]
    generalize evX (orc T) T k c (F x)=o at h2 ⊢
    cases o with
    | none=>cases h2
    | some q=>
     obtain⟨e,s⟩:=q
     cases e
     ·cases h2
     ·rfl
     ·rfl
     ·cases h2
 exact fun x hI=>key _ x rfl hI
theorem zcv{α:Type}{id:Nat}{g2:Gh}{c:AX}(F:α→St)(I:α→Prop)(μ:α→Nat)(G:α→Option (Ex×St))
  (step:∀x,I x→(∃y,I y∧μ y<μ x∧evX (orc T) T k c (F x)=some (.n,F y)∧G y=G x)∨(isEx (evX (orc T) T k c (F x))=true∧finX k id g2 (evX (orc T) T k c (F x))=G x)) :
  ∀x,I x→loopN T k id g2 c (F x)=G x:=by
 have key:∀n x,μ x=n→I x→loopN T k id g2 c (F x)=G x:=by
  intro n
  induction n using Nat.strongRecOn with
  | _ n ih=>
   intro x hn hI
   unfold loopN
   rw[zpp]
   rcases step x hI with ⟨y,h1,h2,h3,h4⟩ | ⟨h2,h3⟩
   ·rw[h3,bX_n,←h4]
    exact ih (μ y) (hn▸h2) y rfl h1
   ·rw[←h3]
    generalize evX (orc T) T k c (F x)=o at h2 ⊢
    cases o with
    | none=>cases h2
    | some q=>
     obtain⟨e,s⟩:=q
     cases e
     ·cases h2
     ·rfl
     ·rfl
     ·cases h2
 exact fun x hI=>key _ x rfl hI
@[simp] theorem zame:runX (orc T) T [] st=some st:=rfl
@[simp] theorem zake{d:Option Nat}{op:AOp}{l:List AO}:runX (orc T) T (⟨d,none,op⟩::l) st=bS (opX (orc T) T op d st) fun s=>runX (orc T) T l s:=rfl
noncomputable def gS(T:Tbl)(x:AV)(want:Bool)(op:AOp)(d:Option Nat)(st:St):Option St:=gX (orc T) T x want op d st
@[congr] theorem zab9{x x':AV}{want:Bool}{op:AOp}(h:x=x'):gS T x want op d st=gS T x' want op d st:=by rw[h]
@[simp] theorem zagn{d:Option Nat}{op:AOp}{l:List AO}{t:Nat}{w:Bool}:runX (orc T) T (⟨d,some (t,w),op⟩::l) st=bS (gS T (st.env.get t) w op d st) fun s=>runX (orc T) T l s:=rfl
@[simp] theorem gS_b{v want:Bool}{op:AOp}:gS T (.b v) want op d st=if v=want then opX (orc T) T op d st else some ⟨putE st.env d (.tup []),st.heap,st.clk⟩:=rfl
@[simp] theorem zakf{vs:List AV}{want:Bool}{op:AOp}:gS T (.tup vs) want op d st=some ⟨putE st.env d (.tup []),st.heap,st.clk⟩:=rfl
@[simp] theorem zamf{x}:opX (orc T) T (.mov x) d st=some ⟨putE st.env d (ev st.env.get x),st.heap,st.clk⟩:=rfl
@[simp] theorem zakg{c a b}:opX (orc T) T (.pick c a b) d st=pS (pickAV (ev st.env.get c) (ev st.env.get a) (ev st.env.get b)) d st:=rfl
@[simp] theorem zago{zs ps}:opX (orc T) T (.build zs ps) d st=pS ((fillL zs (ps.map fun p=>(p.1,p.2.1,ev st.env.get p.2.2))).map .agg) d st:=rfl
@[simp] theorem zakh{n x}:opX (orc T) T (.load n x) d st=pS (loadAV n st.heap (ev st.env.get x)) d st:=rfl
@[simp] theorem zamg{o x y}:opX (orc T) T (.bin o x y) d st=pS (binV o (ev st.env.get x) (ev st.env.get y)) d st:=rfl
@[simp] theorem zamh{g ls x y}:opX (orc T) T (.eqs g ls x y) d st=pS (eqsAV g ls (ev st.env.get x) (ev st.env.get y)) d st:=rfl
@[simp] theorem zagp{g x}:opX (orc T) T (.eqnil g x) d st=pS (eqnilAV g (ev st.env.get x)) d st:=rfl
@[simp] theorem zami{g x y}:opX (orc T) T (.eqb g x y) d st=pS (eqbAV g (ev st.env.get x) (ev st.env.get y)) d st:=rfl
@[simp] theorem O_un{o x}:opX (orc T) T (.un o x) d st=pS (unAV o (ev st.env.get x)) d st:=rfl
@[simp] theorem zaki{n x}:opX (orc T) T (.conv n x) d st=pS (convAV n (ev st.env.get x)) d st:=rfl
@[simp] theorem zamj{z x lo hi mx}:opX (orc T) T (.slc z x lo hi mx) d st=pS (slcAV z st.heap (ev st.env.get x) (evO st.env.get lo) (evO st.env.get hi) (evO st.env.get mx)) d st:=rfl
@[simp] theorem zagq{x lo hi}:opX (orc T) T (.slstr x lo hi) d st=pS (slstrAV (ev st.env.get x) (evO st.env.get lo) (evO st.env.get hi)) d st:=rfl
@[simp] theorem zamk{o x}:opX (orc T) T (.fad o x) d st=pS (fadAV o st.heap (ev st.env.get x)) d st:=rfl
@[simp] theorem zaml{o n x}:opX (orc T) T (.fld o n x) d st=pS (fldAV o n (ev st.env.get x)) d st:=rfl
@[simp] theorem zamm{z x i}:opX (orc T) T (.iad z x i) d st=pS (iadAV z st.heap (ev st.env.get x) (ev st.env.get i)) d st:=rfl
@[simp] theorem zamn{z n x i}:opX (orc T) T (.iaa z n x i) d st=pS (iaaAV z n st.heap (ev st.env.get x) (ev st.env.get i)) d st:=rfl
@[simp] theorem zamo{x i}:opX (orc T) T (.ixs x i) d st=pS (ixsAV (ev st.env.get x) (ev st.env.get i)) d st:=rfl
@[simp] theorem zamp{z l n x i}:opX (orc T) T (.ixa z l n x i) d st=pS (ixaAV z l n (ev st.env.get x) (ev st.env.get i)) d st:=rfl
@[simp] theorem zamq{x}:opX (orc T) T (.len x) d st=pS (lenAV st.heap (ev st.env.get x)) d st:=rfl
@[simp] theorem zakj{x}:opX (orc T) T (.lens x) d st=pS (lensAV (ev st.env.get x)) d st:=rfl
@[simp] theorem zakk{n}:opX (orc T) T (.lenc n) d st=some ⟨putE st.env d (.i .i64 n),st.heap,st.clk⟩:=rfl
@[simp] theorem O_mm{m xs}:opX (orc T) T (.mm m xs) d st=pS (mmAV m (xs.map (ev st.env.get))) d st:=rfl
@[simp] theorem zamr{x n}:opX (orc T) T (.ext x n) d st=pS (extAV n (ev st.env.get x)) d st:=rfl
@[simp] theorem zakl{x}:opX (orc T) T (.nilc x) d st=pS (nilcAV st.heap (ev st.env.get x)) d st:=rfl
@[simp] theorem zagr{zs}:opX (orc T) T (.alloc zs) d st=pW (allocAV zs d st.heap st.clk) d st:=rfl
@[simp] theorem zags{n x v}:opX (orc T) T (.store n x v) d st=pW ((storeAV n st.heap (ev st.env.get x) (ev st.env.get v)).map fun h'=>(.tup [],h',st.clk)) d st:=rfl
@[simp] theorem zams{z zs l c}:opX (orc T) T (.mks z zs l c) d st=pW (mksAV z zs d st.heap st.clk (ev st.env.get l) (ev st.env.get c)) d st:=rfl
@[simp] theorem zamt{z x y}:opX (orc T) T (.app z x y) d st=pW (appAV z d st.heap st.clk (ev st.env.get x) (ev st.env.get y)) d st:=rfl
@[simp] theorem zakm{n xs}:opX (orc T) T (.xop (.box n) xs) d st=pW (stepXV (.box n) (xs.map (ev st.env.get)) d st.heap st.clk) d st:=rfl
@[simp] theorem zakn{xs}:opX (orc T) T (.xop .cpy xs) d st=pW (stepXV .cpy (xs.map (ev st.env.get)) d st.heap st.clk) d st:=rfl
@[simp] theorem zagt{xs}:opX (orc T) T (.xop .bstr xs) d st=pW (stepXV .bstr (xs.map (ev st.env.get)) d st.heap st.clk) d st:=rfl
@[simp] theorem zagu{n xs}:opX (orc T) T (.xop (.arsl n) xs) d st=pW (stepXV (.arsl n) (xs.map (ev st.env.get)) d st.heap st.clk) d st:=rfl
@[simp] theorem zagv{xs}:opX (orc T) T (.xop .apps xs) d st=pW (stepXV .apps (xs.map (ev st.env.get)) d st.heap st.clk) d st:=rfl
@[simp] theorem zako{xs}:opX (orc T) T (.xop .bad xs) d st=pW (stepXV .bad (xs.map (ev st.env.get)) d st.heap st.clk) d st:=rfl
@[simp] theorem zamu{n xs}:opX (orc T) T (.xop (.mkf n) xs) d st=pW (stepXV (.mkf (tyNum T n)) (xs.map (ev st.env.get)) d st.heap st.clk) d st:=rfl
@[simp] theorem zakp{k zv ok x i}:opX (orc T) T (.look k zv ok x i) d st=pS (lookAV k zv ok st.heap (ev st.env.get x) (ev st.env.get i)) d st:=rfl
@[simp] theorem zakq{xs}:opX (orc T) T (.xop .mmap xs) d st=pW (stepXV .mmap (xs.map (ev st.env.get)) d st.heap st.clk) d st:=rfl
@[simp] theorem zakr{k xs}:opX (orc T) T (.xop (.mupd k) xs) d st=pW (stepXV (.mupd k) (xs.map (ev st.env.get)) d st.heap st.clk) d st:=rfl
@[simp] theorem z2h{dd:Option Nat}{h:Heap}{clk:Nat}:stepXV .mmap [] dd h clk=mmapXV dd h clk:=rfl
@[simp] theorem z2i{n:Nat}{h:Heap}{clk:Nat}:mmapXV (some n) h clk=some (.fnp 0 (.loc n) clk 2 0 0,(.loc n,⟨clk,.mp,2,[]⟩)::h,clk+1):=rfl
@[simp] theorem zaca(h:Heap)(id:BId)(g:Nat):mapAt h id g=(match h.lookup id with | some bx=>if bx.gen=g∧bx.z=2∧bx.kind=.mp then some bx else none | none=>none):=rfl
@[simp] theorem z5q{k:KTy}{zv:AV}{ok:Bool}{h:Heap}{id:BId}{g:Nat}{i:AV}:lookAV k zv ok h (.fnp 0 id g 2 0 0) i=(mapAt h id g).bind fun bx=>if (keyEq k i i).isSome&&noRef i then (findE k i bx.els).map fun r=>
   if ok then .tup [r.getD zv,.b r.isSome] else r.getD zv else none:=rfl
@[simp] theorem z78{k k':IntKind}{a b:Int}:keyEq .int (.i k a) (.i k' b)=if k=k' then some (a == b) else none:=rfl
@[simp] theorem zacb{ls:List (Nat×Leaf)}{xs ys:List AV}:keyEq (.fs ls) (.agg xs) (.agg ys)=eqL ls xs ys:=rfl
@[simp] theorem z5r:isNew (some none)=true:=rfl
@[simp] theorem z79{k:KTy}{x:AV}:findE k x []=some none:=rfl
@[simp] theorem z2j{k:KTy}{id:BId}{g:Nat}{i y:AV}{dd:Option Nat}{h:Heap}{clk:Nat}:stepXV (.mupd k) [.fnp 0 id g 2 0 0,i,y] dd h clk =
  (mapAt h id g).bind fun bx=>if (keyEq k i i).isSome&&noRef i&&noRef y&&isNew (findE k i bx.els) then some (.dead,(id,⟨g,.mp,2,bx.els++[[i,y]]⟩)::h,clk) else none:=rfl
@[simp] theorem zamv{n xs}:opX (orc T) T (.xop (.mkv n) xs) d st=pW (stepXV (.mkv (tyNum T n)) (xs.map (ev st.env.get)) d st.heap st.clk) d st:=rfl
@[simp] theorem z5s{f:Nat}{x:AV}{dd:Option Nat}{h:Heap}{clk:Nat}:stepXV (.mkv f) [x] dd h clk=if noRef x=true then some (.fnv f x,h,clk) else none:=rfl
@[simp] theorem zamw{z zs n ps}:opX (orc T) T (.bsl z zs n ps) d st=pB (bslAV z zs n st.heap (ps.map fun p=>(p.1,ev st.env.get p.2))) d st:=rfl
@[simp] theorem zaks{u args}:opX (orc T) T (.call u args) d st=callX (orc T) T u (args.map (ev st.env.get)) d st:=rfl
def cR(r:Option AV)(xs:List AV)(d:Option Nat)(st:St):Option St:=
 r.map fun r=>⟨putE st.env d r,if scalar r then st.heap else shareIds (xs.flatMap refs) st.heap,st.clk⟩
@[congr] theorem zacc{r r':Option AV}{xs:List AV}(h:r=r'):cR r xs d st=cR r' xs d st:=by rw[h]
@[simp] theorem zagw{r:AV}{xs:List AV}:cR (some r) xs d st=some ⟨putE st.env d r,if scalar r then st.heap else shareIds (xs.flatMap refs) st.heap,st.clk⟩:=rfl
def bL(o:Option (List AV))(f:List AV→Option St):Option St:=o.bind f
@[congr] theorem zacd{o o':Option (List AV)}{f:List AV→Option St}(h:o=o'):bL o f=bL o' f:=by rw[h]
@[simp] theorem zagx{xs:List AV}{f:List AV→Option St}:bL (some xs) f=f xs:=rfl
def frzL(h:Heap):List AV→Option (List AV)
 | []=>some []
 | x::l=>(frz1 h x).bind fun y=>(frzL h l).map fun ys=>y::ys
theorem zul(h:Heap):∀l:List AV,l.mapM (frz1 h)=frzL h l
 | []=>rfl
 | x::l=>by simp only[List.mapM_cons,frzL,zul h l,Option.bind_eq_bind,Option.pure_def,Option.map_eq_bind,Function.comp_def]
attribute [simp] frzL frzM refsM rootsM
theorem zaa{u:Nat}{xs:List AV}{np nt:Nat}{res:List RV}{b:AX}{ex:Bool}(hT:T u=some ⟨np,nt,res,b,none,ex⟩) :
  callX (orc T) T u xs d st=bL (frzL st.heap xs) fun ys=>cR (callF T u (ys.map (wkIf ex))) xs d st:=by
 unfold callX bL cR callF
 rw[hT]
 simp only[zul]
 congr 1
 funext ys
 cases (orc T).call u (ys.map (wkIf ex)) []<;>rfl
theorem zab{u:Nat}{xs:List AV}{np nt:Nat}{res:List RV}{b:AX}{ex:Bool}(hT:T u=some ⟨np,nt,res,b,none,ex⟩)(hn:xs.length=np)(hp:b.isPrim=none:=by rfl) :
  callF T u xs=retF res ex (evX (orc T) T 0 b ⟨argEnv xs,[],1⟩):=by
 unfold callF retF
 rw[zkp]
 simp only[nextO,hT,hp]
 rw[if_pos ⟨hn,by simp⟩]
 simp only[List.length_nil,Nat.zero_add]
 cases evX (orc T) T 0 b ⟨argEnv xs,[],1⟩ with
 | none=>rfl
 | some r=>
  obtain⟨e,s⟩:=r
  cases e<;>simp only[Option.bind_some,endX,Option.map_none]<;>(cases resAV s res<;>simp only[Option.bind_none,Option.map_none,Option.bind_some]<;>cases frz s.heap _<;>rfl)
theorem zre{u:Nat}{xs:List AV}{np nt:Nat}{res:List RV}{f:List AV→Option AV}{ex:Bool}(hT:T u=some ⟨np,nt,res,.prim f,none,ex⟩):callF T u xs=f xs:=by
 unfold callF
 rw[zkp]
 simp only[nextO,hT,AX.isPrim]
 cases f xs<;>simp
theorem zau{u:Nat}{xs:List AV}{hb:Heap}{np nt:Nat}{res:List RV}{b:AX}{ms:List Bool}{ex:Bool}(hT:T u=some ⟨np,nt,res,b,some ms,ex⟩)(hn:xs.length=np)(hp:b.isPrim=none:=by rfl) :
  callH T u xs hb=retH res ex hb.length (evX (orc T) T hb.length b ⟨argEnv xs,hb,hb.length+1⟩):=by
 unfold callH retH
 rw[zkp]
 simp only[nextO,hT,hp]
 rw[if_pos ⟨hn,by simp⟩]
 cases evX (orc T) T hb.length b ⟨argEnv xs,hb,hb.length+1⟩ with
 | none=>rfl
 | some r=>
  obtain⟨e,s⟩:=r
  cases e<;>simp only[Option.bind_some,endX]<;>(cases resAV s res<;>rfl)
def outX(l:List BId)(hp h1:Heap)(r:Option (AV×Heap))(d:Option Nat)(st:St):Option St:=
 r.bind fun r=>
  let hb':=r.2.map fun p=>(outN l (d.getD 0) p.1,rlBox true (outN l (d.getD 0)) (outG hp st.clk) p.2)
  let r':=rlA (outN l (d.getD 0)) (outG hp st.clk) r.1
  if (hb'.map (·.1)).Nodup&&refOk hb' r'&&heapOk hb' then
   some ⟨putE st.env d r',hb'++(h1.filter fun p=>!(l.contains p.1 || (hb'.map (·.1)).contains p.1)),st.clk+r.2.length+2⟩
  else none
@[congr] theorem z5t{l:List BId}{hp h1:Heap}{r r':Option (AV×Heap)}(h:r=r'):outX l hp h1 r d st=outX l hp h1 r' d st:=by rw[h]
noncomputable def lentX(ys:List AV)(h1:Heap)(l:List BId)(T:Tbl)(u:Nat)(ex:Bool)(d:Option Nat)(st:St):Option St:=
 if (pickH h1 l).map (·.1)=l∧l.Nodup then
  outX l (pickH h1 l) h1 (callH T u (ys.map fun y=>rlA (inN l) (inG (pickH h1 l)) (wkIf ex y)) ((pickH h1 l).map fun p=>(inN l p.1,rlBox ex (inN l) (inG (pickH h1 l)) p.2))) d st
 else none
@[simp] theorem z8a{l:List BId}{hp h1:Heap}{r:AV}{h2:Heap}:outX l hp h1 (some (r,h2)) d st =
  (if ((h2.map fun p=>(outN l (d.getD 0) p.1,rlBox true (outN l (d.getD 0)) (outG hp st.clk) p.2)).map (·.1)).Nodup&&refOk (h2.map fun p=>(outN l (d.getD 0) p.1,rlBox true (outN l (d.getD 0)) (outG hp st.clk) p.2)) (rlA (outN l (d.getD 0)) (outG hp st.clk) r)&&heapOk (h2.map fun p=>(outN l (d.getD 0) p.1,rlBox true (outN l (d.getD 0)) (outG hp st.clk) p.2)) then
   some ⟨putE st.env d (rlA (outN l (d.getD 0)) (outG hp st.clk) r),(h2.map fun p=>(outN l (d.getD 0) p.1,rlBox true (outN l (d.getD 0)) (outG hp st.clk) p.2))++(h1.filter fun p=>!(l.contains p.1 || ((h2.map fun p=>(outN l (d.getD 0) p.1,rlBox true (outN l (d.getD 0)) (outG hp st.clk) p.2)).map (·.1)).contains p.1)),st.clk+h2.length+2⟩
  else none):=rfl
attribute [simp] lentX outN outG inN inG nameIx heapOk
theorem zan{u:Nat}{xs:List AV}{np nt:Nat}{res:List RV}{b:AX}{ms:List Bool}{ex:Bool}(hT:T u=some ⟨np,nt,res,b,some ms,ex⟩) :
  callX (orc T) T u xs d st=bL (frzM st.heap ms xs) fun ys=>lentX ys (shareIds (refsM ms xs) st.heap) (reach (shareIds (refsM ms xs) st.heap) 40 (rootsM ms xs) []) T u ex d st:=by
 unfold callX bL lentX outX callH
 rw[hT]
def bD(o:Option (AV×Bool))(f:AV×Bool→Option St):Option St:=o.bind f
@[congr] theorem zace{o o':Option (AV×Bool)}{f:AV×Bool→Option St}(h:o=o'):bD o f=bD o' f:=by rw[h]
@[simp] theorem zagy{e:AV×Bool}{f:AV×Bool→Option St}:bD (some e) f=f e:=rfl
def bWr(o:Option (AV×Heap×Nat))(f:AV×Heap×Nat→Option St):Option St:=o.bind f
@[congr] theorem z8b{o o':Option (AV×Heap×Nat)}{f:AV×Heap×Nat→Option St}(h:o=o'):bWr o f=bWr o' f:=by rw[h]
@[simp] theorem zacf{q:AV×Heap×Nat}{f:AV×Heap×Nat→Option St}:bWr (some q) f=f q:=rfl
def iP(b:Bool)(x:Option St):Option St:=if b then x else none
@[congr] theorem zacg{b b':Bool}{x:Option St}(h:b=b'):iP b x=iP b' x:=by rw[h]
@[simp] theorem zagz{x:Option St}:iP true x=x:=rfl
@[simp] theorem z5u{h:Heap}:pendOk [] h=true:=by
 classical
 unfold pendOk
 exact decide_eq_true fun p hp=>by cases hp
@[simp] theorem z2k{q:AOp×Env×AV}{l:PendX}{h:Heap}:pendOk ((0,q)::l) h=pendOk l h:=by
 classical
 unfold pendOk
 refine decide_eq_decide.2 ⟨fun h1 p hp=>h1 p (List.mem_cons_of_mem _ hp),fun h1 p hp h0=>?_⟩
 rcases List.mem_cons.1 hp with rfl | hp
 ·cases h0
 ·exact h1 p hp h0
@[simp] theorem z2l{n:Nat}{op:AOp}{e:Env}{x:AV}{l:PendX}{h:Heap}(hs:stepP op e.get h=some x):pendOk ((n,op,e,x)::l) h=pendOk l h:=by
 classical
 unfold pendOk
 refine decide_eq_decide.2 ⟨fun h1 p hp=>h1 p (List.mem_cons_of_mem _ hp),fun h1 p hp h0=>?_⟩
 rcases List.mem_cons.1 hp with rfl | hp
 ·exact hs
 ·exact h1 p hp h0
theorem zrf{op:AOp}{e:Env}{older:List Heap}{x:AV}(hf:op.free=true):keepD op e older x=true:=by unfold keepD;rw[hf];rfl
theorem zum{op:AOp}{e:Env}{x:AV}:keepD op e [] x=true:=by
 classical
 unfold keepD
 rw[Bool.or_eq_true]
 exact .inr (decide_eq_true fun h' hh=>by cases hh)
noncomputable def rD(T:Tbl)(q:Option (Nat×List AV))(o:DO)(r:List DO)(e:Env)(h:Heap)(clk:Nat)(older:List Heap)(pend:PendX):Option St:=
 match q with
 | none=>bD (qX (orc T) T o.ao e h (older.take (older.length-o.lo))) fun x=>drawX (orc T) T r (putE e o.ao.dst x.1) h clk older (pendAdd o older.length e x pend)
 | some p=>(callR (orc T) T p.1 p.2).bind fun x=>drawX (orc T) T r (putE e o.ao.dst x) h clk older (if older.length<o.hi then (o.hi-older.length,o.ao.op,e,.tup p.2)::pend else pend)
@[simp] theorem zag0{o:DO}{r:List DO}{e:Env}{h:Heap}{clk:Nat}{older:List Heap}{pend:PendX}:rD T none o r e h clk older pend=bD (qX (orc T) T o.ao e h (older.take (older.length-o.lo))) fun x=>drawX (orc T) T r (putE e o.ao.dst x.1) h clk older (pendAdd o older.length e x pend):=rfl
noncomputable def bAV(o:Option AV)(f:AV→Option St):Option St:=o.bind f
@[simp] theorem zach{x:AV}{f:AV→Option St}:bAV (some x) f=f x:=rfl
@[simp] theorem zag1{u:Nat}{ys:List AV}{o:DO}{r:List DO}{e:Env}{h:Heap}{clk:Nat}{older:List Heap}{pend:PendX}:rD T (some (u,ys)) o r e h clk older pend=bAV (callR (orc T) T u ys) fun x=>drawX (orc T) T r (putE e o.ao.dst x) h clk older (if older.length<o.hi then (o.hi-older.length,o.ao.op,e,.tup ys)::pend else pend):=rfl
theorem zx0{u:Nat}{ys:List AV}{np nt:Nat}{res:List RV}{b:AX}{ex:Bool}(hT:T u=some ⟨np,nt,res,b,none,ex⟩):callR (orc T) T u ys=callF T u (ys.map (wkIf ex)):=by
 unfold callR callF
 rw[hT]
 rfl
open Classical in
noncomputable def rK(u:Nat)(xs ys:List AV)(older:List Heap):Option (Nat×List AV):=if decide (∀h'∈older,frzRL h' xs=some ys)=true then some (u,ys) else none
@[simp] theorem zakt{u:Nat}{xs ys:List AV}:rK u xs ys []=some (u,ys):=by
 classical
 unfold rK
 rw[if_pos (decide_eq_true fun h' hh=>by cases hh)]
@[simp] theorem zag2{g:Option (Nat×Bool)}{e:Env}{h:Heap}{older:List Heap}:rowQ g none e h older=none:=by cases g<;>rfl
@[simp] theorem zag3{g:Nat×Bool}{c:Option (Nat×List Opd)}{e:Env}{h:Heap}{older:List Heap}:rowQ (some g) c e h older=none:=by cases c<;>rfl
noncomputable def rC(c:Bool)(u:Nat)(xs:List AV)(h:Heap)(older:List Heap):Option (Nat×List AV):=
 match c with
 | true=>none
 | false=>(frzRL h xs).bind fun ys=>rK u xs ys older
@[congr] theorem zaci{c c':Bool}{u:Nat}{xs:List AV}{h:Heap}{older:List Heap}(h1:c=c'):rC c u xs h older=rC c' u xs h older:=by rw[h1]
@[simp] theorem zag4{u:Nat}{xs:List AV}{h:Heap}{older:List Heap}:rC true u xs h older=none:=rfl
@[simp] theorem zacj{u:Nat}{xs:List AV}{h:Heap}{older:List Heap}:rC false u xs h older=(frzRL h xs).bind fun ys=>rK u xs ys older:=rfl
@[simp] theorem z8c{q:Nat×List Opd}{e:Env}{h:Heap}{older:List Heap}:rowQ none (some q) e h older=rC ((q.2.map (ev e.get)).all noRef) q.1 (q.2.map (ev e.get)) h older:=by
 classical
 unfold rowQ rowQ1 rC
 cases hc:(q.2.map (ev e.get)).all noRef with
 | true=>simp only[hc,if_true,Option.map_none]
 | false=>
  simp only[hc,Bool.false_eq_true,if_false]
  cases frzRL h (q.2.map (ev e.get)) with
  | none=>rfl
  | some ys=>
   simp only[Option.bind_some,rK]
   split<;>rfl
noncomputable def dX(T:Tbl)(wr:Bool)(o:DO)(r:List DO)(e:Env)(h:Heap)(clk:Nat)(older:List Heap)(pend:PendX):Option St:=
 match wr with
 | true=>if o.ao.guard.isNone then bWr (stepW o.ao.op o.ao.dst e.get h clk) fun q=>iP (pendOk pend q.2.1) (drawX (orc T) T r (putE e o.ao.dst q.1) q.2.1 q.2.2 (h::older) (pend.map fun p=>(p.1-1,p.2))) else none
 | false=>rD T (rowQ o.ao.guard o.ao.op.callN e h (older.take (older.length-o.lo))) o r e h clk older pend
@[congr] theorem z2m{l:List DO}{e e':Env}{h h':Heap}{clk clk':Nat}{older older':List Heap}{pend pend':PendX}(h1:e=e')(h2:h=h')(h3:clk=clk')(h4:older=older')(h5:pend=pend'):drawX (orc T) T l e h clk older pend=drawX (orc T) T l e' h' clk' older' pend':=by rw[h1,h2,h3,h4,h5]
@[simp] theorem z8d{e:Env}{h:Heap}{clk:Nat}{older:List Heap}{pend:PendX}:drawX (orc T) T [] e h clk older pend=some ⟨e,h,clk⟩:=rfl
@[simp] theorem z5v{o:DO}{r:List DO}{e:Env}{h:Heap}{clk:Nat}{older:List Heap}{pend:PendX}:drawX (orc T) T (o::r) e h clk older pend=dX T o.ao.op.writes o r e h clk older pend:=by
 unfold dX
 rw[drawX]
 cases o.ao.op.writes with
 | true=>rfl
 | false=>
  unfold rD
  simp only
  cases rowQ o.ao.guard o.ao.op.callN e h (older.take (older.length-o.lo))<;>rfl
@[simp] theorem zag5{o:DO}{r:List DO}{e:Env}{h:Heap}{clk:Nat}{older:List Heap}{pend:PendX}:dX T true o r e h clk older pend=if o.ao.guard.isNone then bWr (stepW o.ao.op o.ao.dst e.get h clk) fun q=>iP (pendOk pend q.2.1) (drawX (orc T) T r (putE e o.ao.dst q.1) q.2.1 q.2.2 (h::older) (pend.map fun p=>(p.1-1,p.2))) else none:=rfl
@[simp] theorem zack{o:DO}{r:List DO}{e:Env}{h:Heap}{clk:Nat}{older:List Heap}{pend:PendX}:dX T false o r e h clk older pend=rD T (rowQ o.ao.guard o.ao.op.callN e h (older.take (older.length-o.lo))) o r e h clk older pend:=rfl
def dV(o:Option AV):Option (AV×Bool):=o.map fun x=>(x,true)
@[simp] theorem zag6{x:AV}:dV (some x)=some (x,true):=rfl
@[simp] theorem zag7:dV none=none:=rfl
@[simp] theorem zag8{op:AOp}{e:Env}{h:Heap}{older:List Heap}:qX (orc T) T ⟨d,none,op⟩ e h older=dV (opD (orc T) T op e h older):=rfl
noncomputable def gD(T:Tbl)(x:AV)(want:Bool)(op:AOp)(e:Env)(h:Heap)(older:List Heap):Option (AV×Bool):=
 match x with
 | .b v=>if v=want then dV (opD (orc T) T op e h older) else some (.tup [],false)
 | .tup []=>some (.tup [],false)
 | _=>none
@[congr] theorem zacl{x x':AV}{want:Bool}{op:AOp}{e:Env}{h:Heap}{older:List Heap}(h1:x=x'):gD T x want op e h older=gD T x' want op e h older:=by rw[h1]
@[simp] theorem zag9{t:Nat}{want:Bool}{op:AOp}{e:Env}{h:Heap}{older:List Heap}:qX (orc T) T ⟨d,some (t,want),op⟩ e h older=gD T (e.get t) want op e h older:=rfl
@[simp] theorem gD_b{v want:Bool}{op:AOp}{e:Env}{h:Heap}{older:List Heap}:gD T (.b v) want op e h older=if v=want then dV (opD (orc T) T op e h older) else some (.tup [],false):=rfl
@[simp] theorem zaku{want:Bool}{op:AOp}{e:Env}{h:Heap}{older:List Heap}:gD T (.tup []) want op e h older=some (.tup [],false):=rfl
noncomputable def dC(o:Option AV)(op:AOp)(older:List Heap)(e:Env):Option AV:=o.bind fun x=>if keepD op e older x then some x else none
@[congr] theorem zacm{o o':Option AV}{op:AOp}{older:List Heap}{e:Env}(h1:o=o'):dC o op older e=dC o' op older e:=by rw[h1]
@[simp] theorem zakv{x:AV}{op:AOp}{e:Env}:dC (some x) op [] e=some x:=by
 unfold dC
 rw[Option.bind_some,zum]
 rfl
theorem zbk{op:AOp}{h:Heap}{older:List Heap}{e:Env}(hf:op.free=true):((stepQ op e.get h).bind fun x=>if keepD op e older x then some x else none)=stepQ op e.get h:=by
 cases stepQ op e.get h with
 | none=>rfl
 | some x=>rw[Option.bind_some,zrf hf];rfl
@[simp] theorem zamx{x}{e:Env}{h:Heap}{older:List Heap}:opD (orc T) T (.mov x) e h older=some (ev e.get x):=zbk (op:=.mov x) (h:=h) (older:=older) (e:=e) rfl
@[simp] theorem zamy{z y}{e:Env}{h:Heap}{older:List Heap}:opD (orc T) T (.app z (.c (.sl [] .nl)) y) e h older=cpnAV z (ev e.get y):=rfl
@[simp] theorem zacn{z:Nat}{els:List (List AV)}{f:Fl}:cpnAV z (.sl els f)=if (els.head?.all fun r=>r.length=z)∧els.length≤4294967296 then some (.sl els .an) else none:=rfl
@[simp] theorem z0m{z n y}:(AOp.app z (.t n) y).writes=true:=rfl
@[simp] theorem z5w{z n y}:(AOp.app z (.t n) y).free=false:=rfl
@[simp] theorem z2n{z n y}:(AOp.app z (.t n) y).maker=true:=rfl
@[simp] theorem z5x{z y}:(AOp.app z (.c (.sl [] .nl)) y).writes=false:=rfl
@[simp] theorem zaco{z y}:(AOp.app z (.c (.sl [] .nl)) y).free=true:=rfl
@[simp] theorem z8e{z y}:(AOp.app z (.c (.sl [] .nl)) y).maker=false:=rfl
@[simp] theorem zakw{c a b}{e:Env}{h:Heap}{older:List Heap}:opD (orc T) T (.pick c a b) e h older=pickAV (ev e.get c) (ev e.get a) (ev e.get b):=zbk (op:=.pick c a b) (h:=h) (older:=older) (e:=e) rfl
@[simp] theorem zaha{zs ps}{e:Env}{h:Heap}{older:List Heap}:opD (orc T) T (.build zs ps) e h older=(fillL zs (ps.map fun p=>(p.1,p.2.1,ev e.get p.2.2))).map .agg:=zbk (op:=.build zs ps) (h:=h) (older:=older) (e:=e) rfl
@[simp] theorem zamz{o x y}{e:Env}{h:Heap}{older:List Heap}:opD (orc T) T (.bin o x y) e h older=binV o (ev e.get x) (ev e.get y):=zbk (op:=.bin o x y) (h:=h) (older:=older) (e:=e) rfl
@[simp] theorem zam0{g ls x y}{e:Env}{h:Heap}{older:List Heap}:opD (orc T) T (.eqs g ls x y) e h older=eqsAV g ls (ev e.get x) (ev e.get y):=zbk (op:=.eqs g ls x y) (h:=h) (older:=older) (e:=e) rfl
@[simp] theorem zahb{g x}{e:Env}{h:Heap}{older:List Heap}:opD (orc T) T (.eqnil g x) e h older=eqnilAV g (ev e.get x):=zbk (op:=.eqnil g x) (h:=h) (older:=older) (e:=e) rfl
@[simp] theorem zam1{g x y}{e:Env}{h:Heap}{older:List Heap}:opD (orc T) T (.eqb g x y) e h older=eqbAV g (ev e.get x) (ev e.get y):=zbk (op:=.eqb g x y) (h:=h) (older:=older) (e:=e) rfl
@[simp] theorem D_un{o x}{e:Env}{h:Heap}{older:List Heap}:opD (orc T) T (.un o x) e h older=unAV o (ev e.get x):=zbk (op:=.un o x) (h:=h) (older:=older) (e:=e) rfl
@[simp] theorem zakx{k x}{e:Env}{h:Heap}{older:List Heap}:opD (orc T) T (.conv k x) e h older=convAV k (ev e.get x):=zbk (op:=.conv k x) (h:=h) (older:=older) (e:=e) rfl
@[simp] theorem zahc{x lo hi}{e:Env}{h:Heap}{older:List Heap}:opD (orc T) T (.slstr x lo hi) e h older=slstrAV (ev e.get x) (evO e.get lo) (evO e.get hi):=zbk (op:=.slstr x lo hi) (h:=h) (older:=older) (e:=e) rfl
@[simp] theorem zam2{o n x}{e:Env}{h:Heap}{older:List Heap}:opD (orc T) T (.fld o n x) e h older=fldAV o n (ev e.get x):=zbk (op:=.fld o n x) (h:=h) (older:=older) (e:=e) rfl
@[simp] theorem zam3{x i}{e:Env}{h:Heap}{older:List Heap}:opD (orc T) T (.ixs x i) e h older=ixsAV (ev e.get x) (ev e.get i):=zbk (op:=.ixs x i) (h:=h) (older:=older) (e:=e) rfl
@[simp] theorem zam4{z l n x i}{e:Env}{h:Heap}{older:List Heap}:opD (orc T) T (.ixa z l n x i) e h older=ixaAV z l n (ev e.get x) (ev e.get i):=zbk (op:=.ixa z l n x i) (h:=h) (older:=older) (e:=e) rfl
@[simp] theorem zaky{x}{e:Env}{h:Heap}{older:List Heap}:opD (orc T) T (.lens x) e h older=lensAV (ev e.get x):=zbk (op:=.lens x) (h:=h) (older:=older) (e:=e) rfl
@[simp] theorem zakz{n}{e:Env}{h:Heap}{older:List Heap}:opD (orc T) T (.lenc n) e h older=some (.i .i64 n):=zbk (op:=.lenc n) (h:=h) (older:=older) (e:=e) rfl
@[simp] theorem D_mm{m xs}{e:Env}{h:Heap}{older:List Heap}:opD (orc T) T (.mm m xs) e h older=mmAV m (xs.map (ev e.get)):=zbk (op:=.mm m xs) (h:=h) (older:=older) (e:=e) rfl
@[simp] theorem zam5{x n}{e:Env}{h:Heap}{older:List Heap}:opD (orc T) T (.ext x n) e h older=extAV n (ev e.get x):=zbk (op:=.ext x n) (h:=h) (older:=older) (e:=e) rfl
@[simp] theorem zak0{n x}{e:Env}{h:Heap}{older:List Heap}:opD (orc T) T (.load n x) e h older=dC (loadAV n h (ev e.get x)) (.load n x) older e:=rfl
@[simp] theorem zam6{z x lo hi mx}{e:Env}{h:Heap}{older:List Heap}:opD (orc T) T (.slc z x lo hi mx) e h older=dC (slcAV z h (ev e.get x) (evO e.get lo) (evO e.get hi) (evO e.get mx)) (.slc z x lo hi mx) older e:=rfl
@[simp] theorem zam7{o x}{e:Env}{h:Heap}{older:List Heap}:opD (orc T) T (.fad o x) e h older=dC (fadAV o h (ev e.get x)) (.fad o x) older e:=rfl
@[simp] theorem zam8{z x i}{e:Env}{h:Heap}{older:List Heap}:opD (orc T) T (.iad z x i) e h older=dC (iadAV z h (ev e.get x) (ev e.get i)) (.iad z x i) older e:=rfl
@[simp] theorem zam9{z n x i}{e:Env}{h:Heap}{older:List Heap}:opD (orc T) T (.iaa z n x i) e h older=dC (iaaAV z n h (ev e.get x) (ev e.get i)) (.iaa z n x i) older e:=rfl
@[simp] theorem zana{x}{e:Env}{h:Heap}{older:List Heap}:opD (orc T) T (.len x) e h older=dC (lenAV h (ev e.get x)) (.len x) older e:=rfl
@[simp] theorem zak1{k zv ok x i}{e:Env}{h:Heap}{older:List Heap}:opD (orc T) T (.look k zv ok x i) e h older=dC (lookAV k zv ok h (ev e.get x) (ev e.get i)) (.look k zv ok x i) older e:=rfl
@[simp] theorem zak2{x}{e:Env}{h:Heap}{older:List Heap}:opD (orc T) T (.nilc x) e h older=dC (nilcAV h (ev e.get x)) (.nilc x) older e:=rfl
def dR(r:Option AV)(xs:List AV):Option AV:=if xs.all noRef then r else none
@[congr] theorem zacp{r r':Option AV}{xs:List AV}(h1:r=r'):dR r xs=dR r' xs:=by rw[h1]
@[simp] theorem zahd{r:AV}{xs:List AV}:dR (some r) xs=if xs.all noRef then some r else none:=rfl
theorem zal{u:Nat}{args:List Opd}{np nt:Nat}{res:List RV}{b:AX}{ex:Bool}{e:Env}{h:Heap}{older:List Heap}(hT:T u=some ⟨np,nt,res,b,none,ex⟩) :
  opD (orc T) T (.call u args) e h older=dR (callF T u ((args.map (ev e.get)).map (wkIf ex))) (args.map (ev e.get)):=by
 unfold dR callF
 simp only[opD,hT,Option.isNone_none,Bool.true_and]
@[simp] theorem zanb{z zs n ps}{e:Env}{h:Heap}{older:List Heap}:opD (orc T) T (.bsl z zs n ps) e h older=if (ps.map fun p=>(p.1,ev e.get p.2)).all (fun p=>noRef p.2) then (bslAV z zs n [] (ps.map fun p=>(p.1,ev e.get p.2))).map (·.1) else none:=rfl
@[congr] theorem z2o{tl l:List AO}{e e':Env}{h h':Heap}{clk clk':Nat}(h1:e=e')(h2:h=h')(h3:clk=clk'):headX (orc T) T tl l e h clk=headX (orc T) T tl l e' h' clk':=by rw[h1,h2,h3]
@[simp] theorem z8f{tl:List AO}{e:Env}{h:Heap}{clk:Nat}:headX (orc T) T tl [] e h clk=runX (orc T) T tl ⟨e,h,clk⟩:=rfl
@[simp] theorem z5y{tl r:List AO}{o:AO}{e:Env}{h:Heap}{clk:Nat}:headX (orc T) T tl (o::r) e h clk=bD (qX (orc T) T o e h []) fun x=>headX (orc T) T tl r (putE e o.dst x.1) h clk:=rfl
noncomputable def rH(T:Tbl)(q:Option (Nat×List AV))(tl:List AO)(o:AO)(r:List AO)(e:Env)(h:Heap)(clk:Nat):Option St:=
 match q with
 | none=>bD (qX (orc T) T o e h []) fun x=>headR (orc T) T tl r (putE e o.dst x.1) h clk
 | some p=>(callR (orc T) T p.1 p.2).bind fun x=>headR (orc T) T tl r (putE e o.dst x) h clk
@[simp] theorem zahe{tl:List AO}{o:AO}{r:List AO}{e:Env}{h:Heap}{clk:Nat}:rH T none tl o r e h clk=bD (qX (orc T) T o e h []) fun x=>headR (orc T) T tl r (putE e o.dst x.1) h clk:=rfl
@[simp] theorem zahf{p:Nat×List AV}{tl:List AO}{o:AO}{r:List AO}{e:Env}{h:Heap}{clk:Nat}:rH T (some p) tl o r e h clk=(callR (orc T) T p.1 p.2).bind fun x=>headR (orc T) T tl r (putE e o.dst x) h clk:=rfl
@[congr] theorem z2p{tl l:List AO}{e e':Env}{h h':Heap}{clk clk':Nat}(h1:e=e')(h2:h=h')(h3:clk=clk'):headR (orc T) T tl l e h clk=headR (orc T) T tl l e' h' clk':=by rw[h1,h2,h3]
@[simp] theorem z8g{tl:List AO}{e:Env}{h:Heap}{clk:Nat}:headR (orc T) T tl [] e h clk=runX (orc T) T tl ⟨e,h,clk⟩:=rfl
@[simp] theorem z5z{tl r:List AO}{o:AO}{e:Env}{h:Heap}{clk:Nat}:headR (orc T) T tl (o::r) e h clk=rH T (rowQ o.guard o.op.callN e h []) tl o r e h clk:=by
 unfold rH
 rw[headR]
 cases rowQ o.guard o.op.callN e h []<;>rfl
@[simp] theorem zahg{hd tl:List AO}:evX (orc T) T k (.drawR hd tl) st=stX (headR (orc T) T tl hd st.env st.heap st.clk):=rfl
@[congr] theorem z2q{tl l:List AO}{h0:Heap}{c0:Nat}{X:Heap}{e e':Env}{h h':Heap}{clk clk':Nat}(h1:e=e')(h2:h=h')(h3:clk=clk'):headM (orc T) T tl h0 c0 X l e h clk=headM (orc T) T tl h0 c0 X l e' h' clk':=by rw[h1,h2,h3]
@[simp] theorem z8h{tl:List AO}{h0:Heap}{c0:Nat}{X:Heap}{e:Env}{h:Heap}{clk:Nat}:headM (orc T) T tl h0 c0 X [] e h clk=runX (orc T) T tl ⟨e,h,clk⟩:=rfl
noncomputable def kM(T:Tbl)(tl:List AO)(h0:Heap)(c0:Nat)(X:Heap)(op:AOp)(d:Nat)(r:List AO)(e:Env)(h:Heap)(q:Option (AV×Heap×Nat)):Option St:=
 q.bind fun q=>if ((h.lookup (.loc d)).isNone&&boxB c0 op e q.2.1)=true then headM (orc T) T tl h0 c0 X r (putE e (some d) q.1) (q.2.1++h) q.2.2 else none
@[simp] theorem zahh{tl:List AO}{h0:Heap}{c0:Nat}{X:Heap}{op:AOp}{d:Nat}{r:List AO}{e:Env}{h:Heap}{q:AV×Heap×Nat}:kM T tl h0 c0 X op d r e h (some q)=if ((h.lookup (.loc d)).isNone&&boxB c0 op e q.2.1)=true then headM (orc T) T tl h0 c0 X r (putE e (some d) q.1) (q.2.1++h) q.2.2 else none:=rfl
noncomputable def kN(T:Tbl)(tl:List AO)(h0:Heap)(c0:Nat)(X:Heap)(op:AOp)(d:Nat)(r:List AO)(e:Env)(h:Heap)(q:Option (AV×Heap×Nat)):Option St:=
 q.bind fun q=>if boxB c0 op e (q.2.1.take 1)=true then headM (orc T) T tl h0 c0 X r (putE e (some d) q.1) (q.2.1.take 1++h) q.2.2 else none
@[simp] theorem zahi{tl:List AO}{h0:Heap}{c0:Nat}{X:Heap}{op:AOp}{d:Nat}{r:List AO}{e:Env}{h:Heap}{q:AV×Heap×Nat}:kN T tl h0 c0 X op d r e h (some q)=if boxB c0 op e (q.2.1.take 1)=true then headM (orc T) T tl h0 c0 X r (putE e (some d) q.1) (q.2.1.take 1++h) q.2.2 else none:=rfl
noncomputable def uX(T:Tbl)(w:Option (BId×Box))(tl:List AO)(h0:Heap)(c0:Nat)(X:Heap)(op:AOp)(d:Nat)(r:List AO)(e:Env)(h:Heap)(clk:Nat):Option St:=
 match w with
 | none=>kM T tl h0 c0 X op d r e h (stepW op (some d) e.get [] clk)
 | some p=>kN T tl h0 c0 X op d r e h (stepW op (some d) e.get [p] clk)
@[congr] theorem zacq{w w':Option (BId×Box)}{tl:List AO}{h0:Heap}{c0:Nat}{X:Heap}{op:AOp}{d:Nat}{r:List AO}{e:Env}{h:Heap}{clk:Nat}(h1:w=w'):uX T w tl h0 c0 X op d r e h clk=uX T w' tl h0 c0 X op d r e h clk:=by rw[h1]
@[simp] theorem zahj{tl:List AO}{h0:Heap}{c0:Nat}{X:Heap}{op:AOp}{d:Nat}{r:List AO}{e:Env}{h:Heap}{clk:Nat}:uX T none tl h0 c0 X op d r e h clk=kM T tl h0 c0 X op d r e h (stepW op (some d) e.get [] clk):=rfl
@[simp] theorem zahk{tl:List AO}{h0:Heap}{c0:Nat}{X:Heap}{op:AOp}{d:Nat}{r:List AO}{e:Env}{h:Heap}{clk:Nat}{p:BId×Box}:uX T (some p) tl h0 c0 X op d r e h clk=kN T tl h0 c0 X op d r e h (stepW op (some d) e.get [p] clk):=rfl
@[simp] theorem z50{c0:Nat}{h0 X h:Heap}{zs:List AV}{e:Env}:ownO c0 h0 X h (.alloc zs) e=none:=rfl
@[simp] theorem zacr{c0:Nat}{h0 X h:Heap}{z:Nat}{zs:List AV}{l c:Opd}{e:Env}:ownO c0 h0 X h (.mks z zs l c) e=none:=rfl
@[simp] theorem z8i{c0:Nat}{h0 X h:Heap}{k:KTy}{zv:AV}{ok:Bool}{x i:Opd}{e:Env}:ownO c0 h0 X h (.look k zv ok x i) e=none:=rfl
@[simp] theorem zacs{c0:Nat}{h0 X h:Heap}{k:XOp}{xs:List Opd}{e:Env}:ownO c0 h0 X h (.xop k xs) e=none:=rfl
@[simp] theorem zact{c0:Nat}{h0 X h:Heap}{z:Nat}{x y:Opd}{e:Env}:ownO c0 h0 X h (.app z x y) e=ownA c0 h0 X h (ev e.get x):=rfl
@[simp] theorem zahl{c0:Nat}{h0 X h:Heap}{l:List (List AV)}{f:Fl}:ownA c0 h0 X h (.sl l f)=none:=rfl
@[simp] theorem zahm{c0:Nat}{h0 X h:Heap}{b:BId}{g z o n:Nat}:ownA c0 h0 X h (.bs b g z o n)=ownL c0 (h0.lookup b) (X.lookup b) b (h.lookup b):=rfl
@[simp] theorem z8j{c0:Nat}{b:BId}{x o:Box}:ownL c0 none (some x) b (some o)=if o.gen<c0 then some (b,o) else none:=rfl
attribute [simp] idOf
@[simp] theorem z8k{e:Env}:consD [] e=[]:=rfl
@[simp] theorem z51{o:AO}{r:List AO}{e:Env}:consD (o::r) e=match o.op with | .mov x=>consD r (putE e o.dst (ev e.get x)) | .app _ x _=>idOf (ev e.get x)++consD r (putE e o.dst .dead) | _=>consD r (putE e o.dst .dead):=rfl
@[simp] theorem z2r{h:Heap}:dropIds [] h=h:=rfl
@[simp] theorem z0n{b:BId}{ids:List BId}{h:Heap}:dropIds (b::ids) h=h.filter fun p=>!(b::ids).contains p.1:=rfl
noncomputable def kB(T:Tbl)(tl:List AO)(h0:Heap)(c0:Nat)(X:Heap)(d:Nat)(r:List AO)(e:Env)(h:Heap)(q:Option (AV×Heap×Nat)):Option St:=
 q.bind fun q=>if q.2.1.all (fun p=>(h.lookup p.1).isNone)=true then headM (orc T) T tl h0 c0 X r (putE e (some d) q.1) (q.2.1++h) q.2.2 else none
@[simp] theorem zahn{tl:List AO}{h0:Heap}{c0:Nat}{X:Heap}{d:Nat}{r:List AO}{e:Env}{h:Heap}{q:AV×Heap×Nat}:kB T tl h0 c0 X d r e h (some q)=if q.2.1.all (fun p=>(h.lookup p.1).isNone)=true then headM (orc T) T tl h0 c0 X r (putE e (some d) q.1) (q.2.1++h) q.2.2 else none:=rfl
noncomputable def lX(T:Tbl)(b:Option (Nat×List Opd))(tl:List AO)(h0:Heap)(c0:Nat)(X:Heap)(o:AO)(r:List AO)(e:Env)(h:Heap)(clk:Nat):Option St:=
 match b with
 | some ua=>
  match o.guard,o.dst with
  | none,some d=>kB T tl h0 c0 X d r e h (callM (orc T) T ua.1 (ua.2.map (ev e.get)) d clk)
  | _,_=>none
 | none=>bD (qX (orc T) T o e h0 []) fun x=>if contB c0 o.op e (gnA x.1)=true then headM (orc T) T tl h0 c0 X r (putE e o.dst x.1) h clk else none
@[simp] theorem zaho{tl r:List AO}{h0:Heap}{c0:Nat}{X:Heap}{op:AOp}{dd u:Nat}{args:List Opd}{e:Env}{h:Heap}{clk:Nat}:lX T (some (u,args)) tl h0 c0 X ⟨some dd,none,op⟩ r e h clk=kB T tl h0 c0 X dd r e h (callM (orc T) T u (args.map (ev e.get)) dd clk):=rfl
@[simp] theorem zahp{tl r:List AO}{h0:Heap}{c0:Nat}{X:Heap}{o:AO}{e:Env}{h:Heap}{clk:Nat}:lX T none tl h0 c0 X o r e h clk=bD (qX (orc T) T o e h0 []) fun x=>if contB c0 o.op e (gnA x.1)=true then headM (orc T) T tl h0 c0 X r (putE e o.dst x.1) h clk else none:=rfl
noncomputable def tX(T:Tbl)(tl:List AO)(h0:Heap)(c0:Nat)(X:Heap)(r:List AO)(b:Bool)(e:Env)(q:Option Heap)(clk:Nat):Option St:=
 q.bind fun h=>if b=true then headM (orc T) T tl h0 c0 X r e h clk else none
@[simp] theorem zahq{tl:List AO}{h0:Heap}{c0:Nat}{X:Heap}{r:List AO}{e:Env}{h:Heap}{clk:Nat}:tX T tl h0 c0 X r true e (some h) clk=headM (orc T) T tl h0 c0 X r e h clk:=rfl
noncomputable def sX(T:Tbl)(b:Bool)(tl:List AO)(h0:Heap)(c0:Nat)(X:Heap)(o:AO)(r:List AO)(e:Env)(h:Heap)(clk:Nat):Option St:=
 match b with
 | true=>
  match o.guard,o.dst with
  | none,none=>(stepW o.op none e.get h clk).bind fun q=>if freshS X o.op e=true then headM (orc T) T tl h0 c0 X r e q.2.1 q.2.2 else none
  | _,_=>none
 | false=>lX T o.op.lentN tl h0 c0 X o r e h clk
@[simp] theorem zahr{tl r:List AO}{h0:Heap}{c0:Nat}{X:Heap}{n:Nat}{x v:Opd}{e:Env}{h:Heap}{clk:Nat}:sX T true tl h0 c0 X ⟨none,none,.store n x v⟩ r e h clk=tX T tl h0 c0 X r (freshS X (.store n x v) e) e (storeAV n h (ev e.get x) (ev e.get v)) clk:=by
 unfold sX tX
 simp only[stepW]
 cases storeAV n h (ev e.get x) (ev e.get v)<;>rfl
@[simp] theorem zacu{tl r:List AO}{h0:Heap}{c0:Nat}{X:Heap}{o:AO}{e:Env}{h:Heap}{clk:Nat}:sX T false tl h0 c0 X o r e h clk=lX T o.op.lentN tl h0 c0 X o r e h clk:=rfl
noncomputable def callMr(r:Option (AV×Heap))(d clk:Nat):Option (AV×Heap×Nat):=
 r.bind fun r=>
  let hb':=r.2.map fun p=>(outN [] d p.1,rlBox true (outN [] d) (outG [] clk) p.2)
  let r':=rlA (outN [] d) (outG [] clk) r.1
  if (hb'.map (·.1)).Nodup∧geB clk (gnA r')=true∧geH clk hb'=true then some (r',hb',clk+(r.2.length+2)) else none
@[simp] theorem z2s{r:AV×Heap}{dd clk:Nat}:callMr (some r) dd clk=if ((r.2.map fun p=>(outN [] dd p.1,rlBox true (outN [] dd) (outG [] clk) p.2)).map (·.1)).Nodup∧geB clk (gnA (rlA (outN [] dd) (outG [] clk) r.1))=true∧geH clk (r.2.map fun p=>(outN [] dd p.1,rlBox true (outN [] dd) (outG [] clk) p.2))=true then some (rlA (outN [] dd) (outG [] clk) r.1,r.2.map fun p=>(outN [] dd p.1,rlBox true (outN [] dd) (outG [] clk) p.2),clk+(r.2.length+2)) else none:=rfl
noncomputable def mX(T:Tbl)(b:Bool)(tl:List AO)(h0:Heap)(c0:Nat)(X:Heap)(o:AO)(r:List AO)(e:Env)(h:Heap)(clk:Nat):Option St:=
 match b with
 | true=>
  match o.guard,o.dst with
  | none,some d=>uX T (ownO c0 h0 X h o.op e) tl h0 c0 X o.op d r e h clk
  | _,_=>none
 | false=>sX T o.op.isStore tl h0 c0 X o r e h clk
@[simp] theorem z52{tl r:List AO}{h0:Heap}{c0:Nat}{X:Heap}{o:AO}{e:Env}{h:Heap}{clk:Nat}:headM (orc T) T tl h0 c0 X (o::r) e h clk=mX T (AOp.maker o.op) tl h0 c0 X o r e h clk:=by
 unfold mX
 simp only[headM]
 cases AOp.maker o.op with
 | false=>
  unfold sX
  simp only
  cases AOp.isStore o.op with
  | true=>
   obtain⟨dd,g,op⟩:=o
   cases g<;>cases dd<;>rfl
  | false=>
   unfold lX
   simp only
   cases AOp.lentN o.op with
   | none=>rfl
   | some ua=>
    obtain⟨dd,g,op⟩:=o
    cases g<;>cases dd<;>rfl
 | true=>
  obtain⟨dd,g,op⟩:=o
  cases g<;>cases dd<;>rfl
@[simp] theorem zahs{tl r:List AO}{h0:Heap}{c0:Nat}{X:Heap}{op:AOp}{dd:Nat}{e:Env}{h:Heap}{clk:Nat}:mX T true tl h0 c0 X ⟨some dd,none,op⟩ r e h clk=uX T (ownO c0 h0 X h op e) tl h0 c0 X op dd r e h clk:=rfl
@[simp] theorem zacv{tl r:List AO}{h0:Heap}{c0:Nat}{X:Heap}{o:AO}{e:Env}{h:Heap}{clk:Nat}:mX T false tl h0 c0 X o r e h clk=sX T o.op.isStore tl h0 c0 X o r e h clk:=rfl
@[simp] theorem zaht{hd tl:List AO}:evX (orc T) T k (.drawM hd tl) st=stX (headM (orc T) T tl (dropIds (consD hd st.env) st.heap) st.clk st.heap hd st.env st.heap st.clk):=rfl
noncomputable def pX(T:Tbl)(w:Bool)(K:Env→PendX→Option St)(h:Heap)(o:DO)(r:List DO)(e:Env)(pend:PendX):Option St:=
 match w with
 | true=>none
 | false=>bD (qX (orc T) T o.ao e h []) fun x=>preC (orc T) T K h r (putE e o.ao.dst x.1) (pendAdd o 0 e x pend)
@[simp] theorem zacw{K:Env→PendX→Option St}{h:Heap}{o:DO}{r:List DO}{e:Env}{pend:PendX}:pX T false K h o r e pend=bD (qX (orc T) T o.ao e h []) fun x=>preC (orc T) T K h r (putE e o.ao.dst x.1) (pendAdd o 0 e x pend):=rfl
@[simp] theorem zacx{K:Env→PendX→Option St}{h:Heap}{e:Env}{pend:PendX}:preC (orc T) T K h [] e pend=K e pend:=rfl
@[simp] theorem z8l{K:Env→PendX→Option St}{h:Heap}{o:DO}{r:List DO}{e:Env}{pend:PendX}:preC (orc T) T K h (o::r) e pend=pX T o.ao.op.writes K h o r e pend:=by
 unfold pX
 rw[preC]
 cases o.ao.op.writes<;>rfl
noncomputable def qpX(T:Tbl)(w:Bool)(K:Env→Option St)(h0 h1:Heap)(o:AO)(r:List AO)(e:Env):Option St:=
 match w with
 | true=>none
 | false=>bD (qX (orc T) T o e h1 [h0]) fun x=>postC (orc T) T K h0 h1 r (putE e o.dst x.1)
@[simp] theorem z8m{K:Env→Option St}{h0 h1:Heap}{o:AO}{r:List AO}{e:Env}:qpX T false K h0 h1 o r e=bD (qX (orc T) T o e h1 [h0]) fun x=>postC (orc T) T K h0 h1 r (putE e o.dst x.1):=rfl
@[congr] theorem z2t{K:Env→Option St}{h0 h1:Heap}{l:List AO}{e e':Env}(h2:e=e'):postC (orc T) T K h0 h1 l e=postC (orc T) T K h0 h1 l e':=by rw[h2]
@[simp] theorem z8n{K:Env→Option St}{h0 h1:Heap}{e:Env}:postC (orc T) T K h0 h1 [] e=K e:=rfl
@[simp] theorem z53{K:Env→Option St}{h0 h1:Heap}{o:AO}{r:List AO}{e:Env}:postC (orc T) T K h0 h1 (o::r) e=qpX T o.op.writes K h0 h1 o r e:=by
 unfold qpX
 rw[postC]
 cases o.op.writes<;>rfl
@[simp] theorem zahu{l1 l2 tl:List AO}{dd u:Nat}{args:List Opd}:evX (orc T) T k (.drawC l1 ⟨some dd,none,.call u args⟩ l2 tl) st =
  stX (preC (orc T) T (fun e pend=>bS (callX (orc T) T u (args.map (ev e.get)) (some dd) ⟨e,st.heap,st.clk⟩) fun s=>iP (pendOk pend s.heap) (postC (orc T) T (fun e2=>runX (orc T) T tl ⟨e2,s.heap,s.clk⟩) st.heap s.heap l2 s.env)) st.heap (l1.map fun o=>⟨o,0,1⟩) st.env []):=rfl
@[simp] theorem zahv{l1 l2:List DO}{dd u:Nat}{args:List Opd}:evX (orc T) T k (.drawN l1 ⟨some dd,none,.call u args⟩ l2) st =
  stX (preC (orc T) T (fun e pend=>bS (callX (orc T) T u (args.map (ev e.get)) (some dd) ⟨e,st.heap,st.clk⟩) fun s=>iP (pendOk pend s.heap) (drawX (orc T) T (l2.map (adjD 0)) s.env s.heap s.clk [st.heap] (pend.map fun p=>(p.1-1,p.2)))) st.heap (l1.map (adjD 0)) st.env []):=rfl
attribute [simp] adjD
noncomputable def qlX(T:Tbl)(w:Bool)(K:Env→Option St)(hs:List Heap)(h1:Heap)(o:AO)(r:List AO)(e:Env):Option St:=
 match w with
 | true=>none
 | false=>bD (qX (orc T) T o e h1 hs) fun x=>postP (orc T) T K hs h1 r (putE e o.dst x.1)
@[simp] theorem z8o{K:Env→Option St}{hs:List Heap}{h1:Heap}{o:AO}{r:List AO}{e:Env}:qlX T false K hs h1 o r e=bD (qX (orc T) T o e h1 hs) fun x=>postP (orc T) T K hs h1 r (putE e o.dst x.1):=rfl
@[simp] theorem z8p{K:Env→Option St}{hs:List Heap}{h1:Heap}{e:Env}:postP (orc T) T K hs h1 [] e=K e:=rfl
@[simp] theorem z54{K:Env→Option St}{hs:List Heap}{h1:Heap}{o:AO}{r:List AO}{e:Env}:postP (orc T) T K hs h1 (o::r) e=qlX T o.op.writes K hs h1 o r e:=by
 unfold qlX
 rw[postP]
 cases o.op.writes<;>rfl
@[simp] theorem zacy{h:Heap}:subB h []=true:=by
 classical
 unfold subB
 simp
@[simp] theorem z8q{h l:Heap}{b:BId}{bx:Box}(hb:h.lookup b=some bx):subB h ((b,bx)::l)=subB h l:=by
 classical
 unfold subB
 simp[hb]
@[simp] theorem z55{c0 c1 c2:Nat}{e1 e2:Env}{h1 h2:Heap}(i1:e2=e1)(i2:c0≤c1)(i3:c1+1≤c2):sameC c0 ⟨e1,h1,c1⟩ ⟨e2,h2,c2⟩=true:=by
 classical
 unfold sameC
 simp[i1,i2,i3]
attribute [simp] lowD
@[simp] theorem zahw{l1 l2:List DO}{dd u da n:Nat}{args:List Opd}{cs:List AV}{xs vs:Opd}:evX (orc T) T k (.drawP l1 ⟨some dd,none,.call u args⟩ l2 da cs n xs vs) st =
  stX (iP (lowD l1&&lowD l2) (preC (orc T) T (fun e pend=>bS (callX (orc T) T u (args.map (ev e.get)) (some dd) ⟨e,st.heap,st.clk⟩) fun s1=>
   bS (callX (orc T) T u (args.map (ev e.get)) (some dd) ⟨e,(.loc da,⟨s1.clk,.str,cs.length,[cs]⟩)::st.heap,s1.clk+1⟩) fun s2=>
    iP (pendOk pend s1.heap&&pendOk pend ((.loc da,⟨s1.clk,.str,cs.length,[cs]⟩)::st.heap)&&pendOk pend s2.heap&&(sameC st.clk s1 s2&&subB ((.loc da,⟨s1.clk,.str,cs.length,[cs]⟩)::s1.heap) s2.heap))
     (postP (orc T) T (fun e2=>(storeAV n s2.heap (ev (putE e2 (some da) (.ptr (.loc da) s1.clk cs.length 0 0)).get xs) (ev (putE e2 (some da) (.ptr (.loc da) s1.clk cs.length 0 0)).get vs)).map fun h2=>⟨putE e2 (some da) (.ptr (.loc da) s1.clk cs.length 0 0),h2,s2.clk⟩)
      [st.heap,s1.heap,(.loc da,⟨s1.clk,.str,cs.length,[cs]⟩)::st.heap] s2.heap (l2.map (·.ao)) s1.env)) st.heap (l1.map fun o=>⟨o.ao,0,1⟩) st.env [])):=by
 show (headP _ _ _ _ _ _ _ _ _ _ _).map _=_
 unfold headP
 simp only[AOp.writes,Bool.not_false,Bool.and_true]
 cases lowD l1&&lowD l2<;>rfl
@[simp] theorem zanc{n x}:opX (orc T) T (.ifc n x) d st=some ⟨putE st.env d (.ifc (tyNum T n) (ev st.env.get x)),st.heap,st.clk⟩:=rfl
noncomputable def iS(T:Tbl)(x:AV)(nm:String)(n u:Nat)(args:List AV)(d:Option Nat)(st:St):Option St:=
 match x with
 | .ifc t y=>if t=tyNum T n∧(nm,u)∈methsT T n then callX (orc T) T u (y::args) d st else none
 | .fnv f x=>if nm="()"∧f=tyNum T n∧funT T n=some u then callX (orc T) T u (x::args) d st else none
 | .fnp f id g z i o=>if nm="()"∧f=tyNum T n∧funT T n=some u then callX (orc T) T u (args++[.ptr id g z i o]) d st else none
 | _=>none
@[congr] theorem zacz{x x':AV}{nm:String}{n u:Nat}{args args':List AV}{d:Option Nat}{st:St}(h1:x=x')(h2:args=args'):iS T x nm n u args d st=iS T x' nm n u args' d st:=by rw[h1,h2]
@[simp] theorem zand{nm n u r args}:opX (orc T) T (.inv nm n u r args) d st=iS T (ev st.env.get r) nm n u (args.map (ev st.env.get)) d st:=by
 simp only[opX]
 cases ev st.env.get r<;>rfl
@[simp] theorem zak3{y:AV}{nm:String}{n u:Nat}{args:List AV}{st:St}:iS T (.ifc (tyNum T n) y) nm n u args d st=if (nm,u)∈methsT T n then callX (orc T) T u (y::args) d st else none:=by
 unfold iS
 simp only[true_and]
@[simp] theorem zane{n x}{e:Env}{h:Heap}{older:List Heap}:opD (orc T) T (.ifc n x) e h older=some (.ifc (tyNum T n) (ev e.get x)):=rfl
noncomputable def dI(T:Tbl)(u:Nat)(xs:List AV):Option AV:=
 match T u with
 | none=>none
 | some af=>if (af.lent.isNone&&xs.all noRef)=true then ((orc T).call u (xs.map (wkIf af.exact)) []).map (·.1) else none
noncomputable def iD(T:Tbl)(x:AV)(nm:String)(n u:Nat)(args:List AV):Option AV:=
 match x with
 | .ifc t y=>if t=tyNum T n∧(nm,u)∈methsT T n then dI T u (drp1 y::args) else none
 | _=>none
@[congr] theorem zac0{x x':AV}{nm:String}{n u:Nat}{args args':List AV}(h1:x=x')(h2:args=args'):iD T x nm n u args=iD T x' nm n u args':=by rw[h1,h2]
@[simp] theorem zanf{nm n u r args}{e:Env}{h:Heap}{older:List Heap}:opD (orc T) T (.inv nm n u r args) e h older=iD T (ev e.get r) nm n u (args.map (ev e.get)):=by
 simp only[opD]
 cases ev e.get r<;>rfl
@[simp] theorem zak4{y:AV}{nm:String}{n u:Nat}{args:List AV}:iD T (.ifc (tyNum T n) y) nm n u args=if (nm,u)∈methsT T n then dI T u (drp1 y::args) else none:=by
 unfold iD
 simp only[true_and]
theorem z8r{u:Nat}{xs:List AV}{np nt:Nat}{res:List RV}{b:AX}{ex:Bool}(hT:T u=some ⟨np,nt,res,b,none,ex⟩):dI T u xs=dR (callF T u (xs.map (wkIf ex))) xs:=by
 unfold dI dR callF
 simp only[hT,Option.isNone_none,Bool.true_and]
theorem zx1{n t:Nat}{res:List RV}{x:String×Nat}(hT:T (1000000+n)=some ⟨t,0,res,.bad,none,false⟩):x∈methsT T n↔x∈methsA ⟨t,0,res,.bad,none,false⟩:=by
 unfold methsT
 rw[hT]
 rfl
@[simp] theorem zahx{hd tl:List AO}:evX (orc T) T k (.drawT hd tl) st=stX (headX (orc T) T tl hd st.env st.heap st.clk):=rfl
attribute [simp] pendAdd stepXV boxXV cpyXV bstrXV arslXV appsXV ghS normS reach bors pickH sigG genIx kids rlBox
attribute [simp] gnA gnR contB boxB slotsM slotOf AOp.maker drp1 drpC AOp.lentN AOp.isStore freshS geB geH
attribute [simp] AOp.writes AOp.free slcAV bndO liveP storeAV allocAV mksAV
attribute [simp] AOp.callN stepP frzRL frzR shR
end
end
section
open Go.RowKit
def sub32(a b:Nat):Nat:=(((a:Int)-b)%4294967296).toNat
def sub64(a b:Nat):Nat:=(((a:Int)-b)%18446744073709551616).toNat
def sub8(a b:Nat):Nat:=(((a:Int)-b)%256).toNat
theorem zun(n:Int):IntKind.wrap .u32 n=(((n%4294967296).toNat:Nat):Int):=by
 grind[IntKind.wrap,IntKind.signed,IntKind.bits]
theorem zmp(n:Int):IntKind.wrap .u64 n=(((n%18446744073709551616).toNat:Nat):Int):=by
 grind[IntKind.wrap,IntKind.signed,IntKind.bits]
@[simp] theorem z8s(n:Int)(h1:-9223372036854775808≤n)(h2:n<9223372036854775808):IntKind.wrap .i64 n=n:=zac n ⟨h1,h2⟩
@[simp] theorem z56(a b:Nat):((a:Int)+(b:Int)).toNat=a+b:=by omega
@[simp] theorem z2u(a b:Nat):(0:Int)≤(a:Int)+(b:Int):=by omega
@[simp] theorem z2v(a b:Nat):((a:Int)+(b:Int)+1).toNat=a+b+1:=by omega
@[simp] theorem z0o(a b:Nat):(0:Int)≤(a:Int)+(b:Int)+1:=by omega
section
variable(a b:Nat)(k:IntKind)(n:Int)
@[simp] theorem zang:binV .add (u32 a) (u32 b)=some (u32 ((a+b)%4294967296)):=by
 simp only[u32,zo8,←Int.natCast_add,zkq]
@[simp] theorem zanh:binV .add (u64 a) (u64 b)=some (u64 ((a+b)%18446744073709551616)):=by
 simp only[u64,zo8,←Int.natCast_add,zeq]
@[simp] theorem zani:binV .mul (u64 a) (u64 b)=some (u64 ((a*b)%18446744073709551616)):=by
 simp only[u64,zxm,←Int.natCast_mul,zeq]
@[simp] theorem zak5:binV .sub (u32 a) (u32 b)=some (u32 (sub32 a b)):=by
 simp only[u32,zxl,zun,sub32]
theorem zx2:((a:Int).tdiv (b:Int))=((a/b:Nat):Int):=by rw[Int.ofNat_tdiv]
theorem zx3:((a:Int).tmod (b:Int))=((a%b:Nat):Int):=by rw[Int.ofNat_tmod]
@[simp] theorem zanj:binV .quo (u64 a) (u64 b)=if b=0 then none else some (u64 (a/b%18446744073709551616)):=by
 simp only[u64,zxn,zx2,zeq,Int.natCast_eq_zero]
@[simp] theorem zank:binV .rem (u64 a) (u64 b)=if b=0 then none else some (u64 (a%b)):=by
 simp only[u64,zxo,zx3,Int.natCast_eq_zero]
theorem bvn(w:Nat):(BitVec.ofInt w (a:Int)).toNat=a%2^w:=by simp
@[simp] theorem or32:binV .or (u32 a) (u32 b)=some (u32 ((a ||| b)%4294967296)):=by
 have h:=Nat.or_mod_two_pow (a:=a) (b:=b) (n:=32)
 have e:((BitVec.ofInt 32 (a:Int) ||| BitVec.ofInt 32 (b:Int)).toNat)=(a ||| b)%2^32:=by rw[BitVec.toNat_or,bvn,bvn,←h]
 show some (AV.i .u32 (IntKind.wrap .u32 (((BitVec.ofInt 32 (a:Int) ||| BitVec.ofInt 32 (b:Int)).toNat:Nat):Int)))=_
 rw[e,zkq]
 simp[u32]
@[simp] theorem or64:binV .or (u64 a) (u64 b)=some (u64 ((a ||| b)%18446744073709551616)):=by
 have h:=Nat.or_mod_two_pow (a:=a) (b:=b) (n:=64)
 have e:((BitVec.ofInt 64 (a:Int) ||| BitVec.ofInt 64 (b:Int)).toNat)=(a ||| b)%2^64:=by rw[BitVec.toNat_or,bvn,bvn,←h]
 show some (AV.i .u64 (IntKind.wrap .u64 (((BitVec.ofInt 64 (a:Int) ||| BitVec.ofInt 64 (b:Int)).toNat:Nat):Int)))=_
 rw[e,zeq]
 simp[u64]
theorem zuo(m:Nat):((a:Int)*2^m)=((a*2^m:Nat):Int):=by simp
theorem zjt(m:Nat):((a:Int).fdiv (2^m))=((a/2^m:Nat):Int):=by
 grind
@[simp] theorem zahy:binV .shl (u64 a) (.i k n)=if n<0 then none else some (u64 (a*2^(min n.toNat 64)%18446744073709551616)):=by
 simp only[u64,binV,IntKind.bits,zuo,zeq]
@[simp] theorem zanl:binV .shr (u32 a) (.i k n)=if n<0 then none else some (u32 (a/2^(min n.toNat 32))):=by
 simp only[u32,binV,IntKind.bits,zjt]
@[simp] theorem zahz:binV .shr (u64 a) (.i k n)=if n<0 then none else some (u64 (a/2^(min n.toNat 64))):=by
 simp only[u64,binV,IntKind.bits,zjt]
@[simp] theorem z0p:¬ ((b:Int)<0):=by omega
@[simp] theorem zak6:binV .shl (u64 a) (u64 b)=some (u64 (a*2^(min b 64)%18446744073709551616)):=by
 rw[show u64 b=.i .u64 (b:Int) from rfl,zahy,if_neg (z0p b),Int.toNat_natCast]
@[simp] theorem zak7:binV .shr (u64 a) (u64 b)=some (u64 (a/2^(min b 64))):=by
 rw[show u64 b=.i .u64 (b:Int) from rfl,zahz,if_neg (z0p b),Int.toNat_natCast]
@[simp] theorem zanm:binV .eql (u32 a) (u32 b)=some (.b (decide (a=b))):=by
 simp only[u32,zo9,Option.some.injEq,AV.b.injEq];rw[Bool.eq_iff_iff];simp[Int.natCast_inj]
@[simp] theorem zann:binV .neq (u32 a) (u32 b)=some (.b (!decide (a=b))):=by
 simp only[u32,zpa,Option.some.injEq,AV.b.injEq];rw[Bool.eq_iff_iff];simp[Int.natCast_inj]
@[simp] theorem zano:binV .lss (u32 a) (u32 b)=some (.b (decide (a<b))):=by simp[u32,zxp]
@[simp] theorem zanp:binV .leq (u32 a) (u32 b)=some (.b (decide (a≤b))):=by simp[u32,zpb]
@[simp] theorem zanq:binV .gtr (u32 a) (u32 b)=some (.b (decide (b<a))):=by simp[u32,zxq]
@[simp] theorem zanr:binV .geq (u32 a) (u32 b)=some (.b (decide (b≤a))):=by simp[u32,zpc]
@[simp] theorem zans:binV .neq (u64 a) (u64 b)=some (.b (!decide (a=b))):=by
 simp only[u64,zpa,Option.some.injEq,AV.b.injEq];rw[Bool.eq_iff_iff];simp[Int.natCast_inj]
@[simp] theorem eql8:binV .eql (u8 a) (u8 b)=some (.b (decide (a=b))):=by
 simp only[u8,zo9,Option.some.injEq,AV.b.injEq];rw[Bool.eq_iff_iff];simp[Int.natCast_inj]
@[simp] theorem leq8:binV .leq (u8 a) (u8 b)=some (.b (decide (a≤b))):=by simp[u8,zpb]
@[simp] theorem geq8:binV .geq (u8 a) (u8 b)=some (.b (decide (b≤a))):=by simp[u8,zpc]
@[simp] theorem z57:convAV .u64 (u32 a)=some (u64 (a%18446744073709551616)):=by simp only[u32,u64,convAV,zeq]
@[simp] theorem z58:convAV .u32 (u64 a)=some (u32 (a%4294967296)):=by simp only[u32,u64,convAV,zkq]
@[simp] theorem z8t:convAV .u64 (.i .i64 n)=some (u64 (n%18446744073709551616).toNat):=by simp only[u64,convAV,zmp]
@[simp] theorem z8u:convAV .i64 (u32 a)=some (.i .i64 (IntKind.wrap .i64 a)):=rfl
@[simp] theorem z8v:convAV .i64 (u64 a)=some (.i .i64 (IntKind.wrap .i64 a)):=rfl
@[simp] theorem zac1:convAV .i64 (u8 a)=some (.i .i64 (IntKind.wrap .i64 a)):=rfl
@[simp] theorem zac2:convAV .i64 (.i .i64 n)=some (.i .i64 (IntKind.wrap .i64 n)):=rfl
@[simp] theorem zant:unAV .neg (u64 a)=some (u64 (sub64 0 a)):=by simp[u64,unAV,zmp,sub64]
@[simp] theorem zanu:unAV .neg (.i .i64 n)=some (.i .i64 (IntKind.wrap .i64 (0-n))):=rfl
@[simp] theorem zanv(t:Bool):unAV .not (.b t)=some (.b (!t)):=rfl
@[simp] theorem zak8(m:Nat)(y:Int):bnd (u8 m) y=if 0≤(m:Int)∧(m:Int)≤y then some m else none:=rfl
@[simp] theorem zah0(m:Nat)(y:Int):bnd (u32 m) y=if 0≤(m:Int)∧(m:Int)≤y then some m else none:=rfl
@[simp] theorem zah1(m:Nat)(y:Int):bnd (u64 m) y=if 0≤(m:Int)∧(m:Int)≤y then some m else none:=rfl
attribute [simp] slstrAV iaaAV ixaAV
@[simp] theorem zak9(l:List UInt8):ixsAV (.s l) (.i k n)=if 0≤n∧n<l.length then (l[n.toNat]?).map fun b=>u8 b.toNat else none:=rfl
@[simp] theorem zac3(k':IntKind)(x y:Int):leafEq .int (.i k x) (.i k' y)=if k=k' then some (x == y) else none:=rfl
end
@[simp] theorem zah2(a b:Nat):u32 a=u32 b↔a=b:=by simp[u32,Int.natCast_inj]
@[simp] theorem zah3(a b:Nat):u64 a=u64 b↔a=b:=by simp[u64,Int.natCast_inj]
theorem zaq(x:UInt32):x.toNat<4294967296:=x.toNat_lt
@[simp] theorem zah4(x:UInt32):x.toNat<4294967296:=x.toNat_lt
def w32(n:Nat):UInt32:=UInt32.ofNat n
theorem zbw(n:Nat):(w32 n).toNat=n%4294967296:=UInt32.toNat_ofNat' ..
theorem zaf{n:Nat}(h:n<4294967296):(w32 n).toNat=n:=by rw[zbw,Nat.mod_eq_of_lt h]
def u32s(l:List UInt32):List (List AV):=l.map fun x=>[u32 x.toNat]
def ints(l:List Int):List (List AV):=l.map fun x=>[.i .i64 x]
def u8s(l:List UInt8):List (List AV):=l.map fun x=>[u8 x.toNat]
section
variable(l m:List UInt32)(x:UInt32)
@[simp] theorem zac4:u32s []=[]:=rfl
@[simp] theorem z2w:(u32s l).length=l.length:=by simp[u32s]
@[simp] theorem zah5:wkL (u32s l)=u32s l:=by
 rw[zbs];simp[u32s,wkR]
@[simp] theorem z8w(n:Nat):(u32s l).take n=u32s (l.take n):=by simp[u32s]
@[simp] theorem z8x(n:Nat):(u32s l).drop n=u32s (l.drop n):=by simp[u32s]
@[simp] theorem z2x:u32s l++u32s m=u32s (l++m):=by simp[u32s]
@[simp] theorem z8y(n:Nat)(h:n<4294967296):u32s l++[[u32 n]]=u32s (l++[w32 n]):=by simp[u32s,zaf h]
@[simp] theorem u32s_getElem?(i:Nat):(u32s l)[i]? = (l[i]?).map fun x=>[u32 x.toNat]:=by simp[u32s]
@[simp] theorem z0q(i:Nat)(h:i<(u32s l).length):(u32s l)[i]=[u32 (l[i]'(by simpa using h)).toNat]:=by simp[u32s]
theorem zbo(i:Nat)(n:Nat)(h:n<4294967296):(u32s l).set i [u32 n]=u32s (l.set i (w32 n)):=by simp[u32s,List.map_set,zaf h]
@[simp] theorem z8z(i n:Nat):(u32s l).set i [u32 (n%4294967296)]=u32s (l.set i (w32 n)):=by simp[u32s,List.map_set,zbw]
@[simp] theorem zac5(n:Nat):List.replicate n [u32 0]=u32s (List.replicate n 0):=by simp[u32s]
@[simp] theorem z80(z:Nat):((u32s l).head?.all fun r=>decide (r.length=z))=(l.isEmpty || decide (z=1)):=by
 cases l<;>simp[u32s,eq_comm]
end
end
section
open Go.RowKit
abbrev mv(d s:Nat):AO:=⟨some d,none,.mov (.t s)⟩
abbrev rg(d:Nat)(op:AOp):AO:=⟨some d,none,op⟩
abbrev gd(d t:Nat)(b:Bool)(op:AOp):AO:=⟨some d,some (t,b),op⟩
abbrev so(op:AOp):AO:=⟨none,none,op⟩
section
variable(T:Tbl)(u:Nat)(ex:Bool)(ms:List Bool)(xs:List AV)(d:Option Nat)(st:St)(ps:List Opd)(e:Env)
@[simp] noncomputable def cP:Option St:=bL (frzL st.heap xs) fun ys=>cR (callF T u (ys.map (wkIf ex))) xs d st
@[simp] noncomputable def cL:Option St:=bL (frzM st.heap ms xs) fun ys=>lentX ys (shareIds (refsM ms xs) st.heap) (reach (shareIds (refsM ms xs) st.heap) 40 (rootsM ms xs) []) T u ex d st
@[simp] noncomputable def dP:Option AV:=dR (callF T u ((ps.map (ev e.get)).map (wkIf ex))) (ps.map (ev e.get))
end
section
variable{T:Tbl}{k:Nat}
theorem zak{id:Nat}{g2:Gh}{c:AX}(S:Nat→St)(n:Nat)(G:Option (Ex×St))(step:∀i,i<n→evX (orc T) T k c (S i)=some (.n,S (i+1)))
  (fin:isEx (evX (orc T) T k c (S n))=true∧finX k id g2 (evX (orc T) T k c (S n))=G):loopN T k id g2 c (S 0)=G:=
 zcv S (fun i=>i≤n) (fun i=>n-i) (fun _=>G) (by
  intro i hi
  by_cases h:i<n
  ·exact .inl ⟨i+1,h,by show n-(i+1)<n-i;omega,step i h,rfl⟩
  ·have:i=n:=by omega
   subst this
   exact .inr fin) 0 (Nat.zero_le _)
theorem zax{id:Nat}{g2:Gh}{c:AX}(S:Nat→St)(n:Nat)(G:Nat→Option (Ex×St))
  (step:∀i,i<n→(evX (orc T) T k c (S i)=some (.n,S (i+1))∧G (i+1)=G i)∨(isEx (evX (orc T) T k c (S i))=true∧finX k id g2 (evX (orc T) T k c (S i))=G i))
  (fin:isEx (evX (orc T) T k c (S n))=true∧finX k id g2 (evX (orc T) T k c (S n))=G n):loopN T k id g2 c (S 0)=G 0:=
 zcv S (fun i=>i≤n) (fun i=>n-i) G (by
  intro i hi
  by_cases h:i<n
  ·rcases step i h with ⟨h1,h2⟩ | h1
   ·exact .inl ⟨i+1,h,by show n-(i+1)<n-i;omega,h1,h2⟩
   ·exact .inr h1
  ·have:i=n:=by omega
   subst this
   exact .inr fin) 0 (Nat.zero_le _)
end
theorem za5{i n:Nat}(h:i<n)(hn:n≤4294967296):IntKind.wrap .i64 ((i:Int)+1)=((i+1:Nat):Int):=zac _ (by omega)
end
def b115:AX:=
 (.seq
 (.reg [rg 6 (.mov (.c (u32 0))),rg 7 (.mov (.c (u32 0)))])
 (.seq
 (.reg [mv 8 0,mv 9 1,rg 10 (.bin .add (.t 8) (.t 9)),mv 6 10])
 (.seq
 (.seq
 (.reg [mv 11 6,mv 12 0,rg 13 (.bin .lss (.t 11) (.t 12))])
 (.cond (.t 13)
 (.reg [mv 14 7,rg 15 (.bin .add (.t 14) (.c (u32 1))),mv 7 15])
 .skip))
 (.seq
 (.reg [mv 16 6,mv 17 2,rg 18 (.bin .add (.t 16) (.t 17)),mv 6 18])
 (.seq
 (.seq
 (.reg [mv 19 6,mv 20 2,rg 21 (.bin .lss (.t 19) (.t 20))])
 (.cond (.t 21)
 (.reg [mv 22 7,rg 23 (.bin .add (.t 22) (.c (u32 1))),mv 7 23])
 .skip))
 (.seq
 (.reg [mv 24 6,mv 25 7,mv 6 24,mv 7 25])
 (.pre (.norm false [6,7]) .ret)))))))
def b116:AX:=
 (.seq
 (.reg [rg 6 (.mov (.c (u32 0))),rg 7 (.mov (.c (u32 0)))])
 (.seq
 (.reg [mv 8 0,mv 9 1,rg 10 (.bin .sub (.t 8) (.t 9)),mv 6 10])
 (.seq
 (.seq
 (.reg [mv 11 0,mv 12 1,rg 13 (.bin .lss (.t 11) (.t 12))])
 (.cond (.t 13)
 (.reg [mv 14 7,rg 15 (.bin .add (.t 14) (.c (u32 1))),mv 7 15])
 .skip))
 (.seq
 (.seq
 (.reg [mv 16 6,mv 17 2,rg 18 (.bin .lss (.t 16) (.t 17))])
 (.cond (.t 18)
 (.reg [mv 19 7,rg 20 (.bin .add (.t 19) (.c (u32 1))),mv 7 20])
 .skip))
 (.seq
 (.reg [mv 21 6,mv 22 2,rg 23 (.bin .sub (.t 21) (.t 22)),mv 24 7,mv 6 23,mv 7 24])
 (.pre (.norm false [6,7]) .ret))))))
def b117:AX:=
 (.seq
 (.reg [rg 8 (.mov (.c (u32 0))),rg 9 (.mov (.c (u32 0)))])
 (.seq
 (.reg [mv 11 0,rg 12 (.conv .u64 (.t 11)),mv 13 1,rg 14 (.conv .u64 (.t 13)),rg 15 (.bin .mul (.t 12) (.t 14)),mv 16 2,rg 17 (.conv .u64 (.t 16)),rg 18 (.bin .add (.t 15) (.t 17)),mv 19 3,rg 20 (.conv .u64 (.t 19)),rg 21 (.bin .add (.t 18) (.t 20)),mv 10 21])
 (.seq
 (.reg [mv 22 10,rg 23 (.bin .shr (.t 22) (.c (u64 32))),rg 24 (.conv .u32 (.t 23)),mv 25 10,rg 26 (.conv .u32 (.t 25)),mv 8 24,mv 9 26])
 (.pre (.norm false [8,9]) .ret))))
def b118:AX:=
 (.seq
 (.reg [rg 6 (.mov (.c (u32 0))),rg 7 (.mov (.c (u32 0))),rg 8 (.mov (.c (.b false)))])
 (.seq
 (.seq
 (.reg [mv 10 0,mv 11 2,rg 12 (.bin .geq (.t 10) (.t 11))])
 (.cond (.t 12)
 (.seq
 (.reg [rg 6 (.mov (.c (u32 0))),rg 7 (.mov (.c (u32 0))),rg 8 (.mov (.c (.b false)))])
 (.pre (.norm false [6,7,8]) .ret))
 .skip))
 (.seq
 (.reg [mv 13 0,rg 14 (.conv .u64 (.t 13)),rg 15 (.bin .shl (.t 14) (.c (u64 32))),mv 16 1,rg 17 (.conv .u64 (.t 16)),rg 18 (.bin .or (.t 15) (.t 17)),mv 9 18])
 (.seq
 (.drawT [mv 19 9,mv 20 2,rg 21 (.conv .u64 (.t 20)),rg 22 (.bin .quo (.t 19) (.t 21)),rg 23 (.conv .u32 (.t 22)),mv 24 9,mv 25 2,rg 26 (.conv .u64 (.t 25)),rg 27 (.bin .rem (.t 24) (.t 26)),rg 28 (.conv .u32 (.t 27)),mv 6 23]
 [mv 7 28,rg 8 (.mov (.c (.b true)))])
 (.pre (.norm false [6,7,8]) .ret)))))
def l91_0:AX:=
 (.note
 (.seq
 (.seq
 (.reg [mv 5 4,rg 6 (.bin .gtr (.t 5) (.c (.i .i64 0)))])
 (.cond (.t 6)
 .skip
 (.exit 0)))
 (.seq
 (.block 1
 (.seq
 (.reg [mv 9 0,mv 10 4,rg 11 (.bin .shr (.t 9) (.t 10)),rg 12 (.bin .neq (.t 11) (.c (u32 0)))])
 (.cond (.t 12)
 (.seq
 (.reg [mv 13 0,mv 14 4,rg 15 (.bin .shr (.t 13) (.t 14)),mv 0 15])
 (.reg [mv 16 3,mv 17 4,rg 18 (.bin .add (.t 16) (.t 17)),mv 3 18]))
 .skip)))
 (.reg [mv 7 4,rg 8 (.bin .quo (.t 7) (.c (.i .i64 2))),mv 4 8])))
 (.norm false [0,3,4]))
def b91:AX:=
 (.seq
 (.reg [rg 2 (.mov (.c (.i .i64 0)))])
 (.seq
 (.reg [rg 3 (.mov (.c (.i .i64 0)))])
 (.seq
 (.seq
 (.reg [rg 4 (.mov (.c (.i .i64 16)))])
 (.lp 0 (.norm false [0,3,4]) l91_0 (.norm false [0,3])))
 (.seq
 (.reg [mv 19 3,mv 20 0,rg 21 (.conv .i64 (.t 20)),rg 22 (.bin .add (.t 19) (.t 21)),mv 2 22])
 (.pre (.norm false [2]) .ret)))))
class CLimb (T:Tbl):Prop where
 h115:T 115=some ⟨3,26,[.t 6,.t 7],b115,none,false⟩
 h116:T 116=some ⟨3,25,[.t 6,.t 7],b116,none,false⟩
 h117:T 117=some ⟨4,27,[.t 8,.t 9],b117,none,false⟩
 h118:T 118=some ⟨3,29,[.t 6,.t 7,.t 8],b118,none,false⟩
 h91:T 91=some ⟨1,23,[.t 2],b91,none,false⟩
section
variable{T:Tbl}[CLimb T]{d:Option Nat}{st:St}
@[simp] theorem x115(xs:List AV):callX (orc T) T 115 xs d st=cP T 115 false xs d st:=zaa CLimb.h115
theorem f115(xs:List AV)(hn:xs.length=3):callF T 115 xs=retF [.t 6,.t 7] false (evX (orc T) T 0 b115 ⟨argEnv xs,[],1⟩):=zab CLimb.h115 hn
@[simp] theorem x116(xs:List AV):callX (orc T) T 116 xs d st=cP T 116 false xs d st:=zaa CLimb.h116
theorem f116(xs:List AV)(hn:xs.length=3):callF T 116 xs=retF [.t 6,.t 7] false (evX (orc T) T 0 b116 ⟨argEnv xs,[],1⟩):=zab CLimb.h116 hn
@[simp] theorem x117(xs:List AV):callX (orc T) T 117 xs d st=cP T 117 false xs d st:=zaa CLimb.h117
theorem f117(xs:List AV)(hn:xs.length=4):callF T 117 xs=retF [.t 8,.t 9] false (evX (orc T) T 0 b117 ⟨argEnv xs,[],1⟩):=zab CLimb.h117 hn
@[simp] theorem x118(xs:List AV):callX (orc T) T 118 xs d st=cP T 118 false xs d st:=zaa CLimb.h118
theorem f118(xs:List AV)(hn:xs.length=3):callF T 118 xs=retF [.t 6,.t 7,.t 8] false (evX (orc T) T 0 b118 ⟨argEnv xs,[],1⟩):=zab CLimb.h118 hn
@[simp] theorem x91(xs:List AV):callX (orc T) T 91 xs d st=cP T 91 false xs d st:=zaa CLimb.h91
theorem f91(xs:List AV)(hn:xs.length=1):callF T 91 xs=retF [.t 2] false (evX (orc T) T 0 b91 ⟨argEnv xs,[],1⟩):=zab CLimb.h91 hn
end
end Go.Ab