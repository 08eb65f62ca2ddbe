/-
  A calculus of values, boxes and code, and what functions of the program compute, proved in it.
  Conditions: none beyond those that the theorems state. (Part 3.)
-/
import Derived.Test.YtajopjoiaogapaaGreatDoorPart2

set_option linter.unusedSectionVars false
set_option linter.unusedVariables false
set_option linter.unusedSimpArgs false
set_option linter.unnecessarySimpa false

namespace Go.Ab
section
open Go.RowKit
inductive Qy where
 | call (u:Nat) (xs:List AV) (hb:Heap) (r:AV×Heap)
 | loop (k:Nat) (c:AX) (st:St) (r:Ex×St)
def Holds(O:Orc):Qy→Prop
 | .call u xs hb r=>O.call u xs hb=some r
 | .loop k c st r=>O.loop k c st=some r
def Za8{α:Type}(f:Orc→Option α):Prop:=∀O r,f O=some r→∃L:List Qy,(∀q∈L,Holds O q)∧∀O',(∀q∈L,Holds O' q)→f O'=some r
theorem Za8.const{α:Type}(a:Option α):Za8 fun _=>a:=fun _ _ h=>⟨[],by simp,fun _ _=>h⟩
theorem Za8.bind{α β:Type}{g:Orc→Option α}{h:Orc→α→Option β}(hg:Za8 g)(hh:∀x,Za8 fun O=>h O x):Za8 fun O=>(g O).bind (h O):=by
 intro O r he;obtain⟨x,h1,h2⟩:=bind_some he;obtain⟨L1,a1,a2⟩:=hg O x h1;obtain⟨L2,b1,b2⟩:=hh x O r h2;refine⟨L1++L2,fun q hq=>?_,fun O' hO'=>?_⟩
 all_goals grind
theorem Za8.map{α β:Type}{g:Orc→Option α}(hg:Za8 g)(f:α→β):Za8 fun O=>(g O).map f:=by
 have:=hg.bind (h:=fun _ x=>some (f x)) fun x=>.const _
 grind[Option.map_eq_bind,Function.comp_def]
theorem Za8.call(u:Nat)(xs:List AV)(hb:Heap):Za8 fun O=>O.call u xs hb:=fun O r h=>⟨[.call u xs hb r],by simpa[Holds]using h,fun O' h'=>by simpa[Holds]using h'⟩
theorem Za8.loop(k:Nat)(c:AX)(st:St):Za8 fun O=>O.loop k c st:=fun O r h=>⟨[.loop k c st r],by simpa[Holds]using h,fun O' h'=>by simpa[Holds]using h'⟩
section
variable(T:Tbl)
theorem zko(u:Nat)(xs:List AV)(d:Option Nat)(st:St):Za8 fun O=>Zd O T u xs d st:=by
 unfold Zd;split
 ·exact .const _
 ·split
  ·refine Za8.bind (.const _) fun ys=>Za8.bind (.call _ _ _) fun r=>.const _
  ·refine Za8.bind (.const _) fun ys=>?_;simp only;split
   ·refine Za8.bind (.call _ _ _) fun r=>.const _
   ·exact .const _
theorem zr1(op:AOp)(d:Option Nat)(st:St):Za8 fun O=>opX O T op d st:=by
 by_cases hx:∃k xs,op=.xop k xs
 ·obtain⟨k,xs,rfl⟩:=hx;cases k<;>exact .const _
 cases op<;>(try exact absurd ⟨_,_,rfl⟩ hx)<;>simp only[opX]<;>first | exact .const _ | exact zko T _ _ _ _ | (split<;>first | exact .const _ | (split<;>first | exact .const _ | exact zko T _ _ _ _))
theorem zr2(o:AO)(st:St):Za8 fun O=>Zf7 O T o st:=by
 unfold Zf7;split
 ·exact zr1 T _ _ _
 ·unfold gX;split
  ·split
   ·exact zr1 T _ _ _
   ·exact .const _
  ·exact .const _
  ·exact .const _
theorem zf3:∀(l:List AO) (st:St),Za8 fun O=>Zd6 O T l st
 | [],st=>.const _
 | o::l,st=>by
  exact(zr2 T o st).bind fun s=>zf3 l s
theorem zr3(op:AOp)(e:Env)(h:Heap)(older:List Heap):Za8 fun O=>opD O T op e h older:=by
 by_cases hap:∃z x0 y,op=.app z x0 y
 ·obtain⟨z,x0,y,rfl⟩:=hap;by_cases hc:x0=.c (.sl [] .nl)
  ·subst hc;exact .const _
  ·simp only[zmd hc];exact .const _
 cases op<;>(try exact absurd ⟨_,_,_,rfl⟩ hap)<;>simp only[opD]<;>try exact .const _
 case call=>
  split
  ·exact .const _
  ·split
   ·exact(Za8.call _ _ _).map _
   ·exact .const _
 case inv=>
  split
  ·split
   ·split
    ·exact .const _
    ·split
     ·exact(Za8.call _ _ _).map _
     ·exact .const _
   ·exact .const _
  ·exact .const _
theorem zr4(o:AO)(e:Env)(h:Heap)(older:List Heap):Za8 fun O=>qX O T o e h older:=by
 unfold qX;split
 ·exact(zr3 T _ _ _ _).map _
 ·split
  ·split
   ·exact(zr3 T _ _ _ _).map _
   ·exact .const _
  ·exact .const _
  ·exact .const _
theorem zr5(u:Nat)(ys:List AV):Za8 fun O=>Zed O T u ys:=by
 unfold Zed;split
 ·exact .const _
 ·split
  ·exact(Za8.call _ _ _).map _
  ·exact .const _
theorem zeq:∀(l:List DO) (e:Env) (h:Heap) (clk:Nat) (older:List Heap) (pend:Zb6),Za8 fun O=>Zb0 O T l e h clk older pend
 | [],e,h,clk,older,pend=>.const _
 | o::l,e,h,clk,older,pend=>by
  simp only[Zb0];split
  ·split
   ·refine Za8.bind (.const _) fun q=>?_;split
    ·exact zeq l _ _ _ _ _
    ·exact .const _
   ·exact .const _
  ·split
   ·exact(zr4 T _ _ _ _).bind fun x=>zeq l _ _ _ _ _
   ·exact(zr5 T _ _).bind fun x=>zeq l _ _ _ _ _
theorem zkp(tl:List AO):∀(l:List AO) (e:Env) (h:Heap) (clk:Nat),Za8 fun O=>Zds O T tl l e h clk
 | [],e,h,clk=>zf3 T tl _
 | o::l,e,h,clk=>by
  exact(zr4 T _ _ _ _).bind fun x=>zkp tl l _ _ _
theorem zr6(u:Nat)(xs:List AV)(d clk:Nat):Za8 fun O=>Zew O T u xs d clk:=by
 unfold Zew;split
 ·exact .const _
 ·split
  ·exact .const _
  ·split
   ·refine(Za8.call _ _ _).bind fun r=>?_;exact .const _
   ·exact .const _
theorem zdi(tl:List AO)(h0:Heap)(c0:Nat)(X:Heap):∀(l:List AO) (e:Env) (h:Heap) (clk:Nat),Za8 fun O=>Zbc O T tl h0 c0 X l e h clk
 | [],e,h,clk=>zf3 T tl _
 | o::l,e,h,clk=>by
  simp only[Zbc];split
  ·split
   ·split
    all_goals
     refine Za8.bind (.const _) fun q=>?_;split
     ·exact zdi tl h0 c0 X l _ _ _
     ·exact .const _
   ·exact .const _
  ·split
   ·split
    ·refine Za8.bind (.const _) fun q=>?_;split
     ·exact zdi tl h0 c0 X l _ _ _
     ·exact .const _
    ·exact .const _
   split
   ·split
    ·refine(zr6 T _ _ _ _).bind fun q=>?_;split
     ·exact zdi tl h0 c0 X l _ _ _
     ·exact .const _
    ·exact .const _
   ·refine(zr4 T _ _ _ _).bind fun x=>?_;split
    ·exact zdi tl h0 c0 X l _ _ _
    ·exact .const _
theorem zb7(k:Nat):∀(c:AX) (st:St),Za8 fun O=>evX O T k c st
 | .skip,st=>.const _
 | .reg l,st=>by exact(zf3 T l st).map _
 | .draw l,st=>by exact(zeq T l _ _ _ _ _).map _
 | .drawT hd tl,st=>by exact(zkp T tl hd _ _ _).map _
 | .drawM hd tl,st=>by exact(zdi T tl _ _ _ hd _ _ _).map _
 | .bad,st=>.const _
 | .prim f,st=>.const _
 | .seq a b,st=>by
  refine(zb7 k a st).bind fun r=>?_;obtain⟨e,s⟩:=r;cases e
  ·exact zb7 k b s
  ·exact .const _
  ·exact .const _
  ·exact .const _
 | .cond c x y,st=>by
  simp only[evX];split
  ·split
   ·exact zb7 k x st
   ·exact zb7 k y st
  ·exact .const _
 | .block id c,st=>by exact(zb7 k c st).bind fun r=>.const _
 | .loop c,st=>by exact .loop _ _ _
 | .exit id,st=>.const _
 | .ret,st=>.const _
 | .note c g,st=>by exact(zb7 k c st).bind fun r=>.const _
 | .pre g c,st=>by exact Za8.bind (.const _) fun s=>zb7 k c s
 | .scope c,st=>by exact(zb7 k c st).bind fun r=>.const _
 | .label l,st=>.const _
 | .goto l,st=>.const _
 | .gsc l c r,st=>by
  have key:∀n (f:Orc→Option (Ex×St)),Za8 f→Za8 fun O=>Zft (fun s=>evX O T k r s) l n (f O):=by
   intro n
   induction n with
   | zero=>intro f _;exact .const _
   | succ n ih=>
    intro f hf;refine hf.bind fun x=>?_;obtain⟨e,s⟩:=x;cases e
    ·exact .const _
    ·exact .const _
    ·exact .const _
    ·simp only;split
     ·exact ih _ (zb7 k r s)
     ·exact .const _
  exact key _ _ (zb7 k c st)
 | .lp id g c g2,st=>by exact Za8.bind (.const _) fun s=>(Za8.loop _ _ _).bind fun r=>.const _
theorem zcs(u:Nat)(xs:List AV)(hb:Heap):Za8 fun O=>(Zc2 T O).call u xs hb:=by
 simp only[Zc2];split
 ·exact .const _
 ·split
  ·exact .const _
  ·split
   ·exact(zb7 T _ _ _).bind fun r=>.const _
   ·exact .const _
theorem zct(k:Nat)(c:AX)(st:St):Za8 fun O=>(Zc2 T O).loop k c st:=by
 refine(zb7 T k c st).bind fun r=>?_;obtain⟨e,s⟩:=r;cases e
 ·exact .loop _ _ _
 ·exact .const _
 ·exact .const _
 ·exact .const _
theorem zgz:∀(n:Nat) (q:Qy),Holds (orcN T n) q→Holds (orcN T (n+1)) q
 | 0,q,h=>by cases q<;>cases h
 | n+1,.call u xs hb r,h=>by
  obtain⟨L,h1,h2⟩:=zcs T u xs hb _ r h;exact h2 _ fun q hq=>zgz n q (h1 q hq)
 | n+1,.loop k c st r,h=>by
  obtain⟨L,h1,h2⟩:=zct T k c st _ r h;exact h2 _ fun q hq=>zgz n q (h1 q hq)
theorem zmh{n m:Nat}(h:n≤m)(q:Qy)(hq:Holds (orcN T n) q):Holds (orcN T m) q:=by
 induction h with
 | refl=>omega
 | step _ ih=>exact zgz T _ q ih
open Classical in
noncomputable def lim{α:Type}(f:Nat→Option α):Option α:=if h:∃n a,f n=some a then f (Classical.choose h) else none
theorem znz{α:Type}{f:Nat→Option α}(hm:∀n m a,n≤m→f n=some a→f m=some a)(a:α):lim f=some a↔∃n,f n=some a:=by
 unfold lim;constructor
 ·intro h;split at h
  all_goals grind
 ·intro ⟨n,h⟩;have hex:∃n a,f n=some a:=⟨n,a,h⟩
  grind
noncomputable def orc:Orc:=⟨fun u xs hb=>lim fun n=>(orcN T n).call u xs hb,fun k c st=>lim fun n=>(orcN T n).loop k c st⟩
theorem zb5(q:Qy):Holds (orc T) q↔∃n,Holds (orcN T n) q:=by
 cases q with
 | call u xs hb r=>exact znz (fun n m a hnm h=>zmh T hnm (.call u xs hb a) h) r
 | loop k c st r=>exact znz (fun n m a hnm h=>zmh T hnm (.loop k c st a) h) r
theorem zr7{L:List Qy}(h:∀q∈L,Holds (orc T) q):∃n,∀q∈L,Holds (orcN T n) q:=by
 induction L with
 | nil=>simp_all
 | cons q L ih=>
  obtain⟨n,hn⟩:=ih fun q hq=>h q (Ym _ hq);obtain⟨m,hm⟩:=(zb5 T q).1 (h q Y2);refine⟨max n m,fun x hx=>?_⟩
  grind[zmh,Nat.le_max_right]
theorem ziz(u:Nat)(xs:List AV)(hb:Heap):(orc T).call u xs hb=(Zc2 T (orc T)).call u xs hb:=by
 apply Option.ext;intro r;constructor
 ·intro h;obtain⟨n,hn⟩:=(zb5 T (.call u xs hb r)).1 h;cases n with
  | zero=>cases hn
  | succ n=>
   obtain⟨L,h1,h2⟩:=zcs T u xs hb _ r hn
   grind[zb5]
 ·intro h;obtain⟨L,h1,h2⟩:=zcs T u xs hb _ r h;obtain⟨n,hn⟩:=zr7 T h1;exact(zb5 T (.call u xs hb r)).2 ⟨n+1,h2 _ hn⟩
theorem zvi(k:Nat)(c:AX)(st:St):(orc T).loop k c st=(Zc2 T (orc T)).loop k c st:=by
 apply Option.ext;intro r;constructor
 ·intro h;obtain⟨n,hn⟩:=(zb5 T (.loop k c st r)).1 h;cases n with
  | zero=>cases hn
  | succ n=>
   obtain⟨L,h1,h2⟩:=zct T k c st _ r hn
   grind[zb5]
 ·intro h;obtain⟨L,h1,h2⟩:=zct T k c st _ r h;obtain⟨n,hn⟩:=zr7 T h1;exact(zb5 T (.loop k c st r)).2 ⟨n+1,h2 _ hn⟩
end
noncomputable def Za(T:Tbl)(u:Nat)(xs:List AV):Option AV:=((orc T).call u xs []).map (·.1)
noncomputable def Zcf(T:Tbl)(u:Nat)(xs:List AV)(hb:Heap):Option (AV×Heap):=(orc T).call u xs hb
noncomputable def Zid(T:Tbl)(k:Nat)(c:AX)(st:St):Option (Ex×St):=(orc T).loop k c st
theorem zmi{P:Program}{ν:Nat→FuncId}{T:Tbl}(hT:TOk P ν T)(hm:P.follows .mixedOrders=true){u:Nat}{af:AFx}{xs:List AV}{r:AV}(hu:T u=some af)(hl:af.lent=none)(h:Za T u xs=some r):Zad P (ν u) xs (·=r):=by
 obtain⟨⟨r',h'⟩,h1,rfl⟩:=map_some h;obtain⟨n,hn⟩:=(zb5 T (.call u xs [] (r',h'))).1 h1;exact(GoodO.orcN hT hm n).pure u af xs r' h' hu hl hn
end
section
open Go.RowKit
def u8(n:Nat):AV:=.i .u8 (n:Int)
def u32(n:Nat):AV:=.i .u32 (n:Int)
def u64(n:Nat):AV:=.i .u64 (n:Int)
@[simp] theorem zagi(k:IntKind)(n:Int):wkA (.i k n)=.i k n:=rfl
@[simp] theorem zadz{h:Heap}(k:IntKind)(n:Int):Za1 h (.i k n)=some (.i k n):=rfl
@[simp] theorem zad0{h:Heap}(k:IntKind)(n:Int):Zby h (.i k n)=some (.i k n):=rfl
@[simp] theorem zagj{h:Heap}(k:IntKind)(n:Int):frz h (.i k n)=some (.i k n):=rfl
@[simp] theorem z2q(k:IntKind)(n:Int):Zat (.i k n)=true:=rfl
@[simp] theorem z2r(k:IntKind)(n:Int):Zau (.i k n)=true:=rfl
@[simp] theorem z56(k:IntKind)(n:Int):scalar (.i k n)=true:=rfl
@[simp] theorem z9g(k:IntKind)(n:Int):pureC (.i k n)=true:=rfl
@[simp] theorem z9h(k:IntKind)(n:Int):noRef (.i k n)=true:=rfl
@[simp] theorem zad1(k:IntKind)(n:Int):refs (.i k n)=[]:=rfl
@[simp] theorem zagk(k:IntKind)(n:Int):rfC (.i k n)=[]:=rfl
@[simp] theorem zagl(k:IntKind)(n:Int):rf1 (.i k n)=[]:=rfl
@[simp] theorem zagm(k:IntKind)(n:Int):rfA (.i k n)=[]:=rfl
@[simp] theorem zagn{σn:BId→BId}{σg:Nat→Nat}(k:IntKind)(n:Int):rlC σn σg (.i k n)=(.i k n):=rfl
@[simp] theorem zago{σn:BId→BId}{σg:Nat→Nat}(k:IntKind)(n:Int):rl1 σn σg (.i k n)=(.i k n):=rfl
@[simp] theorem zagp{σn:BId→BId}{σg:Nat→Nat}(k:IntKind)(n:Int):rlA σn σg (.i k n)=(.i k n):=rfl
@[simp] theorem z57{h:Heap}(k:IntKind)(n:Int):Za6 h (.i k n)=true:=rfl
@[simp] theorem z58{h:Heap}(k:IntKind)(n:Int):Zbm h (.i k n)=true:=rfl
@[simp] theorem z9i{h:Heap}(k:IntKind)(n:Int):Zb5 h (.i k n)=true:=rfl
@[simp] theorem z2s(k:IntKind)(n:Int):cellsOf (.i k n)=some [.i k n]:=rfl
@[simp] theorem zagq(t:Bool):wkA (.b t)=.b t:=rfl
@[simp] theorem zad2{h:Heap}(t:Bool):Za1 h (.b t)=some (.b t):=rfl
@[simp] theorem zad3{h:Heap}(t:Bool):Zby h (.b t)=some (.b t):=rfl
@[simp] theorem zagr{h:Heap}(t:Bool):frz h (.b t)=some (.b t):=rfl
@[simp] theorem z2t(t:Bool):Zat (.b t)=true:=rfl
@[simp] theorem z2u(t:Bool):Zau (.b t)=true:=rfl
@[simp] theorem z6a(t:Bool):scalar (.b t)=true:=rfl
@[simp] theorem z9j(t:Bool):pureC (.b t)=true:=rfl
@[simp] theorem z9k(t:Bool):noRef (.b t)=true:=rfl
@[simp] theorem zad4(t:Bool):refs (.b t)=[]:=rfl
@[simp] theorem zags(t:Bool):rfC (.b t)=[]:=rfl
@[simp] theorem zagt(t:Bool):rf1 (.b t)=[]:=rfl
@[simp] theorem zagu(t:Bool):rfA (.b t)=[]:=rfl
@[simp] theorem zagv{σn:BId→BId}{σg:Nat→Nat}(t:Bool):rlC σn σg (.b t)=(.b t):=rfl
@[simp] theorem zagw{σn:BId→BId}{σg:Nat→Nat}(t:Bool):rl1 σn σg (.b t)=(.b t):=rfl
@[simp] theorem zagx{σn:BId→BId}{σg:Nat→Nat}(t:Bool):rlA σn σg (.b t)=(.b t):=rfl
@[simp] theorem z6b{h:Heap}(t:Bool):Za6 h (.b t)=true:=rfl
@[simp] theorem z6c{h:Heap}(t:Bool):Zbm h (.b t)=true:=rfl
@[simp] theorem z9l{h:Heap}(t:Bool):Zb5 h (.b t)=true:=rfl
@[simp] theorem z2v(t:Bool):cellsOf (.b t)=some [.b t]:=rfl
@[simp] theorem zagy(l:List UInt8):wkA (.s l)=.s l:=rfl
@[simp] theorem zad5{h:Heap}(l:List UInt8):Za1 h (.s l)=some (.s l):=rfl
@[simp] theorem zad6{h:Heap}(l:List UInt8):Zby h (.s l)=some (.s l):=rfl
@[simp] theorem zagz{h:Heap}(l:List UInt8):frz h (.s l)=some (.s l):=rfl
@[simp] theorem z2w(l:List UInt8):Zat (.s l)=true:=rfl
@[simp] theorem z2x(l:List UInt8):Zau (.s l)=true:=rfl
@[simp] theorem z6d(l:List UInt8):scalar (.s l)=true:=rfl
@[simp] theorem z9m(l:List UInt8):pureC (.s l)=true:=rfl
@[simp] theorem z9n(l:List UInt8):noRef (.s l)=true:=rfl
@[simp] theorem zad7(l:List UInt8):refs (.s l)=[]:=rfl
@[simp] theorem zag0(l:List UInt8):rfC (.s l)=[]:=rfl
@[simp] theorem zag1(l:List UInt8):rf1 (.s l)=[]:=rfl
@[simp] theorem zag2(l:List UInt8):rfA (.s l)=[]:=rfl
@[simp] theorem zag3{σn:BId→BId}{σg:Nat→Nat}(l:List UInt8):rlC σn σg (.s l)=(.s l):=rfl
@[simp] theorem zag4{σn:BId→BId}{σg:Nat→Nat}(l:List UInt8):rl1 σn σg (.s l)=(.s l):=rfl
@[simp] theorem zag5{σn:BId→BId}{σg:Nat→Nat}(l:List UInt8):rlA σn σg (.s l)=(.s l):=rfl
@[simp] theorem z6e{h:Heap}(l:List UInt8):Za6 h (.s l)=true:=rfl
@[simp] theorem z6f{h:Heap}(l:List UInt8):Zbm h (.s l)=true:=rfl
@[simp] theorem z9o{h:Heap}(l:List UInt8):Zb5 h (.s l)=true:=rfl
@[simp] theorem z2y(l:List UInt8):cellsOf (.s l)=some [.s l]:=rfl
@[simp] theorem z9p(v:Value):wkA (.raw v)=.raw v:=rfl
@[simp] theorem z6g{h:Heap}(v:Value):Za1 h (.raw v)=some (.raw v):=rfl
@[simp] theorem z6h{h:Heap}(v:Value):Zby h (.raw v)=some (.raw v):=rfl
@[simp] theorem z9q{h:Heap}(v:Value):frz h (.raw v)=some (.raw v):=rfl
@[simp] theorem zyc(v:Value):Zat (.raw v)=false:=rfl
@[simp] theorem zyd(v:Value):Zau (.raw v)=false:=rfl
@[simp] theorem z0w(v:Value):scalar (.raw v)=false:=rfl
@[simp] theorem z2z(v:Value):pureC (.raw v)=true:=rfl
@[simp] theorem z22(v:Value):noRef (.raw v)=true:=rfl
@[simp] theorem z6i(v:Value):refs (.raw v)=[]:=rfl
@[simp] theorem z9r(v:Value):rfC (.raw v)=[]:=rfl
@[simp] theorem z9s(v:Value):rf1 (.raw v)=[]:=rfl
@[simp] theorem z9t(v:Value):rfA (.raw v)=[]:=rfl
@[simp] theorem z9u{σn:BId→BId}{σg:Nat→Nat}(v:Value):rlC σn σg (.raw v)=(.raw v):=rfl
@[simp] theorem z9v{σn:BId→BId}{σg:Nat→Nat}(v:Value):rl1 σn σg (.raw v)=(.raw v):=rfl
@[simp] theorem z9w{σn:BId→BId}{σg:Nat→Nat}(v:Value):rlA σn σg (.raw v)=(.raw v):=rfl
@[simp] theorem z0x{h:Heap}(v:Value):Za6 h (.raw v)=true:=rfl
@[simp] theorem z0y{h:Heap}(v:Value):Zbm h (.raw v)=true:=rfl
@[simp] theorem z23{h:Heap}(v:Value):Zb5 h (.raw v)=true:=rfl
@[simp] theorem z9x{h:Heap}(els:List (List AV))(f:Fl):Za1 h (.sl els f)=some (.sl els f):=rfl
@[simp] theorem z9y{h:Heap}(els:List (List AV))(f:Fl):Zby h (.sl els f)=some (.sl els f):=rfl
@[simp] theorem zad8{h:Heap}(els:List (List AV))(f:Fl):frz h (.sl els f)=some (.sl els f):=rfl
@[simp] theorem z0z(els:List (List AV))(f:Fl):Zat (.sl els f)=false:=rfl
@[simp] theorem z00(els:List (List AV))(f:Fl):Zau (.sl els f)=false:=rfl
@[simp] theorem z24(els:List (List AV))(f:Fl):scalar (.sl els f)=false:=rfl
@[simp] theorem z6j(els:List (List AV))(f:Fl):pureC (.sl els f)=true:=rfl
@[simp] theorem z6k(els:List (List AV))(f:Fl):noRef (.sl els f)=true:=rfl
@[simp] theorem z9z(els:List (List AV))(f:Fl):refs (.sl els f)=[]:=rfl
@[simp] theorem zad9(els:List (List AV))(f:Fl):rfC (.sl els f)=[]:=rfl
@[simp] theorem zaea(els:List (List AV))(f:Fl):rf1 (.sl els f)=[]:=rfl
@[simp] theorem zaeb(els:List (List AV))(f:Fl):rfA (.sl els f)=[]:=rfl
@[simp] theorem zaec{σn:BId→BId}{σg:Nat→Nat}(els:List (List AV))(f:Fl):rlC σn σg (.sl els f)=(.sl els f):=rfl
@[simp] theorem zaed{σn:BId→BId}{σg:Nat→Nat}(els:List (List AV))(f:Fl):rl1 σn σg (.sl els f)=(.sl els f):=rfl
@[simp] theorem zaee{σn:BId→BId}{σg:Nat→Nat}(els:List (List AV))(f:Fl):rlA σn σg (.sl els f)=(.sl els f):=rfl
@[simp] theorem z25{h:Heap}(els:List (List AV))(f:Fl):Za6 h (.sl els f)=true:=rfl
@[simp] theorem z26{h:Heap}(els:List (List AV))(f:Fl):Zbm h (.sl els f)=true:=rfl
@[simp] theorem z6l{h:Heap}(els:List (List AV))(f:Fl):Zb5 h (.sl els f)=true:=rfl
@[simp] theorem z01(els:List (List AV))(f:Fl):cellsOf (.sl els f)=some [.sl els f]:=rfl
@[simp] theorem zaef(cs:List AV)(o:Nat):wkA (.ep cs o)=.ep cs o:=rfl
@[simp] theorem z90{h:Heap}(cs:List AV)(o:Nat):Za1 h (.ep cs o)=some (.ep cs o):=rfl
@[simp] theorem z91{h:Heap}(cs:List AV)(o:Nat):Zby h (.ep cs o)=some (.ep cs o):=rfl
@[simp] theorem zaeg{h:Heap}(cs:List AV)(o:Nat):frz h (.ep cs o)=some (.ep cs o):=rfl
@[simp] theorem z02(cs:List AV)(o:Nat):Zat (.ep cs o)=false:=rfl
@[simp] theorem z03(cs:List AV)(o:Nat):Zau (.ep cs o)=false:=rfl
@[simp] theorem z27(cs:List AV)(o:Nat):scalar (.ep cs o)=false:=rfl
@[simp] theorem z6m(cs:List AV)(o:Nat):pureC (.ep cs o)=true:=rfl
@[simp] theorem z6n(cs:List AV)(o:Nat):noRef (.ep cs o)=true:=rfl
@[simp] theorem z92(cs:List AV)(o:Nat):refs (.ep cs o)=[]:=rfl
@[simp] theorem zaeh(cs:List AV)(o:Nat):rfC (.ep cs o)=[]:=rfl
@[simp] theorem zaei(cs:List AV)(o:Nat):rf1 (.ep cs o)=[]:=rfl
@[simp] theorem zaej(cs:List AV)(o:Nat):rfA (.ep cs o)=[]:=rfl
@[simp] theorem zaek{σn:BId→BId}{σg:Nat→Nat}(cs:List AV)(o:Nat):rlC σn σg (.ep cs o)=(.ep cs o):=rfl
@[simp] theorem zael{σn:BId→BId}{σg:Nat→Nat}(cs:List AV)(o:Nat):rl1 σn σg (.ep cs o)=(.ep cs o):=rfl
@[simp] theorem zaem{σn:BId→BId}{σg:Nat→Nat}(cs:List AV)(o:Nat):rlA σn σg (.ep cs o)=(.ep cs o):=rfl
@[simp] theorem z28{h:Heap}(cs:List AV)(o:Nat):Za6 h (.ep cs o)=true:=rfl
@[simp] theorem z29{h:Heap}(cs:List AV)(o:Nat):Zbm h (.ep cs o)=true:=rfl
@[simp] theorem z6o{h:Heap}(cs:List AV)(o:Nat):Zb5 h (.ep cs o)=true:=rfl
@[simp] theorem z04(cs:List AV)(o:Nat):cellsOf (.ep cs o)=some [.ep cs o]:=rfl
@[simp] theorem zaen(n:Nat):wkA (u8 n)=u8 n:=rfl
@[simp] theorem z93{h:Heap}(n:Nat):Za1 h (u8 n)=some (u8 n):=rfl
@[simp] theorem z94{h:Heap}(n:Nat):Zby h (u8 n)=some (u8 n):=rfl
@[simp] theorem zaeo{h:Heap}(n:Nat):frz h (u8 n)=some (u8 n):=rfl
@[simp] theorem z05(n:Nat):Zat (u8 n)=true:=rfl
@[simp] theorem z06(n:Nat):Zau (u8 n)=true:=rfl
@[simp] theorem z3a(n:Nat):scalar (u8 n)=true:=rfl
@[simp] theorem z6p(n:Nat):pureC (u8 n)=true:=rfl
@[simp] theorem z6q(n:Nat):noRef (u8 n)=true:=rfl
@[simp] theorem z95(n:Nat):refs (u8 n)=[]:=rfl
@[simp] theorem zaep(n:Nat):rfC (u8 n)=[]:=rfl
@[simp] theorem zaeq(n:Nat):rf1 (u8 n)=[]:=rfl
@[simp] theorem zaer(n:Nat):rfA (u8 n)=[]:=rfl
@[simp] theorem zaes{σn:BId→BId}{σg:Nat→Nat}(n:Nat):rlC σn σg (u8 n)=(u8 n):=rfl
@[simp] theorem zaet{σn:BId→BId}{σg:Nat→Nat}(n:Nat):rl1 σn σg (u8 n)=(u8 n):=rfl
@[simp] theorem zaeu{σn:BId→BId}{σg:Nat→Nat}(n:Nat):rlA σn σg (u8 n)=(u8 n):=rfl
@[simp] theorem z3b{h:Heap}(n:Nat):Za6 h (u8 n)=true:=rfl
@[simp] theorem z3c{h:Heap}(n:Nat):Zbm h (u8 n)=true:=rfl
@[simp] theorem z6r{h:Heap}(n:Nat):Zb5 h (u8 n)=true:=rfl
@[simp] theorem z07(n:Nat):cellsOf (u8 n)=some [u8 n]:=rfl
@[simp] theorem z96(n:Nat):wkA (u32 n)=u32 n:=rfl
@[simp] theorem z6s{h:Heap}(n:Nat):Za1 h (u32 n)=some (u32 n):=rfl
@[simp] theorem z6t{h:Heap}(n:Nat):Zby h (u32 n)=some (u32 n):=rfl
@[simp] theorem z97{h:Heap}(n:Nat):frz h (u32 n)=some (u32 n):=rfl
@[simp] theorem zye(n:Nat):Zat (u32 n)=true:=rfl
@[simp] theorem zyf(n:Nat):Zau (u32 n)=true:=rfl
@[simp] theorem z08(n:Nat):scalar (u32 n)=true:=rfl
@[simp] theorem z3d(n:Nat):pureC (u32 n)=true:=rfl
@[simp] theorem z3e(n:Nat):noRef (u32 n)=true:=rfl
@[simp] theorem z6u(n:Nat):refs (u32 n)=[]:=rfl
@[simp] theorem z98(n:Nat):rfC (u32 n)=[]:=rfl
@[simp] theorem z99(n:Nat):rf1 (u32 n)=[]:=rfl
@[simp] theorem zaaa(n:Nat):rfA (u32 n)=[]:=rfl
@[simp] theorem zaab{σn:BId→BId}{σg:Nat→Nat}(n:Nat):rlC σn σg (u32 n)=(u32 n):=rfl
@[simp] theorem zaac{σn:BId→BId}{σg:Nat→Nat}(n:Nat):rl1 σn σg (u32 n)=(u32 n):=rfl
@[simp] theorem zaad{σn:BId→BId}{σg:Nat→Nat}(n:Nat):rlA σn σg (u32 n)=(u32 n):=rfl
@[simp] theorem z09{h:Heap}(n:Nat):Za6 h (u32 n)=true:=rfl
@[simp] theorem z1a{h:Heap}(n:Nat):Zbm h (u32 n)=true:=rfl
@[simp] theorem z3f{h:Heap}(n:Nat):Zb5 h (u32 n)=true:=rfl
@[simp] theorem zyg(n:Nat):cellsOf (u32 n)=some [u32 n]:=rfl
@[simp] theorem zaae(n:Nat):wkA (u64 n)=u64 n:=rfl
@[simp] theorem z6v{h:Heap}(n:Nat):Za1 h (u64 n)=some (u64 n):=rfl
@[simp] theorem z6w{h:Heap}(n:Nat):Zby h (u64 n)=some (u64 n):=rfl
@[simp] theorem zaaf{h:Heap}(n:Nat):frz h (u64 n)=some (u64 n):=rfl
@[simp] theorem zyh(n:Nat):Zat (u64 n)=true:=rfl
@[simp] theorem zyi(n:Nat):Zau (u64 n)=true:=rfl
@[simp] theorem z1b(n:Nat):scalar (u64 n)=true:=rfl
@[simp] theorem z3g(n:Nat):pureC (u64 n)=true:=rfl
@[simp] theorem z3h(n:Nat):noRef (u64 n)=true:=rfl
@[simp] theorem z6x(n:Nat):refs (u64 n)=[]:=rfl
@[simp] theorem zaag(n:Nat):rfC (u64 n)=[]:=rfl
@[simp] theorem zaah(n:Nat):rf1 (u64 n)=[]:=rfl
@[simp] theorem zaai(n:Nat):rfA (u64 n)=[]:=rfl
@[simp] theorem zaaj{σn:BId→BId}{σg:Nat→Nat}(n:Nat):rlC σn σg (u64 n)=(u64 n):=rfl
@[simp] theorem zaak{σn:BId→BId}{σg:Nat→Nat}(n:Nat):rl1 σn σg (u64 n)=(u64 n):=rfl
@[simp] theorem zaal{σn:BId→BId}{σg:Nat→Nat}(n:Nat):rlA σn σg (u64 n)=(u64 n):=rfl
@[simp] theorem z1c{h:Heap}(n:Nat):Za6 h (u64 n)=true:=rfl
@[simp] theorem z1d{h:Heap}(n:Nat):Zbm h (u64 n)=true:=rfl
@[simp] theorem z3i{h:Heap}(n:Nat):Zb5 h (u64 n)=true:=rfl
@[simp] theorem zyj(n:Nat):cellsOf (u64 n)=some [u64 n]:=rfl
@[simp] theorem z6y :wkA .dead=.dead:=rfl
@[simp] theorem z3j{h:Heap} :Za1 h .dead=some .dead:=rfl
@[simp] theorem z3k{h:Heap} :Zby h .dead=some .dead:=rfl
@[simp] theorem z6z{h:Heap} :frz h .dead=some .dead:=rfl
@[simp] theorem zxd :Zat .dead=false:=rfl
@[simp] theorem zxe :Zau .dead=false:=rfl
@[simp] theorem zyk :scalar .dead=false:=rfl
@[simp] theorem z1e :pureC .dead=true:=rfl
@[simp] theorem z1f :noRef .dead=true:=rfl
@[simp] theorem z3l :refs .dead=[]:=rfl
@[simp] theorem z60 :rfC .dead=[]:=rfl
@[simp] theorem z61 :rf1 .dead=[]:=rfl
@[simp] theorem z62 :rfA .dead=[]:=rfl
@[simp] theorem z63{σn:BId→BId}{σg:Nat→Nat} :rlC σn σg .dead=.dead:=rfl
@[simp] theorem z64{σn:BId→BId}{σg:Nat→Nat} :rl1 σn σg .dead=.dead:=rfl
@[simp] theorem z65{σn:BId→BId}{σg:Nat→Nat} :rlA σn σg .dead=.dead:=rfl
@[simp] theorem zyl{h:Heap} :Za6 h .dead=true:=rfl
@[simp] theorem zym{h:Heap} :Zbm h .dead=true:=rfl
@[simp] theorem z1g{h:Heap} :Zb5 h .dead=true:=rfl
@[simp] theorem zaev(els:List (List AV))(f:Fl):wkA (.sl els f)=.sl (wkL els) .an:=rfl
@[simp] theorem zaam(cs:List AV):wkA (.agg cs)=.agg (wkR cs):=rfl
@[simp] theorem zaan(cs:List AV):wkA (.tup cs)=.tup (wkR cs):=rfl
@[simp] theorem zaew(id:BId)(g z off n:Nat):wkA (.bs id g z off n)=.bs id g z off n:=rfl
@[simp] theorem zaao(id:BId)(g z i o:Nat):wkA (.ptr id g z i o)=.ptr id g z i o:=rfl
@[simp] theorem zaap(f:Nat)(id:BId)(g z i o:Nat):wkA (.fnp f id g z i o)=.fnp f id g z i o:=rfl
@[simp] theorem zaaq(f:Nat)(x:AV):wkA (.fnv f x)=.fnv f (wkA x):=rfl
@[simp] theorem zaar :wkR []=[]:=rfl
@[simp] theorem z66(c:AV)(r:List AV):wkR (c::r)=wkA c::wkR r:=rfl
@[simp] theorem zaas :wkL []=[]:=rfl
@[simp] theorem zn0(c:List AV)(r:List (List AV)):wkL (c::r)=wkR c::wkL r:=rfl
@[simp] theorem zaat{h:Heap}(id:BId)(g z off n:Nat):Zby h (.bs id g z off n)=(Z6 h id g z).bind fun bx=>if bx.kind≠.str∧off+n≤bx.els.length then some (.sl ((bx.els.drop off).take n) .an) else none:=rfl
@[simp] theorem z67{h:Heap}(id:BId)(g z i o:Nat):Zby h (.ptr id g z i o)=some .dead:=rfl
@[simp] theorem z68{h:Heap}(f:Nat)(id:BId)(g z i o:Nat):Zby h (.fnp f id g z i o)=some .dead:=rfl
@[simp] theorem z69{h:Heap}(f:Nat)(x:AV):Zby h (.fnv f x)=some (.fnv f x):=rfl
@[simp] theorem zaau{h:Heap}(id:BId)(g z off n:Nat):Za1 h (.bs id g z off n)=(Z6 h id g z).bind fun bx=>if bx.kind≠.str∧off+n≤bx.els.length then some (.sl ((bx.els.drop off).take n) .an) else none:=rfl
@[simp] theorem z7a{h:Heap}(id:BId)(g z i o:Nat):Za1 h (.ptr id g z i o)=some .dead:=rfl
@[simp] theorem z7b{h:Heap}(f:Nat)(id:BId)(g z i o:Nat):Za1 h (.fnp f id g z i o)=some .dead:=rfl
@[simp] theorem z7c{h:Heap}(f:Nat)(x:AV):Za1 h (.fnv f x)=some (.fnv f x):=rfl
@[simp] theorem zaex{h:Heap}(id:BId)(g z off n:Nat):frz h (.bs id g z off n)=(Z6 h id g z).bind fun bx=>if bx.kind≠.str∧off+n≤bx.els.length then some (.sl ((bx.els.drop off).take n) .an) else none:=rfl
@[simp] theorem zaav{h:Heap}(id:BId)(g z i o:Nat):frz h (.ptr id g z i o)=some .dead:=rfl
@[simp] theorem zaaw{h:Heap}(f:Nat)(id:BId)(g z i o:Nat):frz h (.fnp f id g z i o)=some .dead:=rfl
@[simp] theorem zaax{h:Heap}(f:Nat)(x:AV):frz h (.fnv f x)=some (.fnv f x):=rfl
@[simp] theorem z7d{h:Heap}(cs:List AV):Za1 h (.agg cs)=(cs.mapM (Zby h)).map .agg:=rfl
@[simp] theorem zaay{h:Heap}(cs:List AV):frz h (.agg cs)=(cs.mapM (Zby h)).map .agg:=rfl
@[simp] theorem zaaz{h:Heap}(cs:List AV):frz h (.tup cs)=(cs.mapM (Za1 h)).map .tup:=rfl
@[simp] theorem z1h(id:BId)(g z off n:Nat):Zat (.bs id g z off n)=false:=rfl
@[simp] theorem zyn(id:BId)(g z i o:Nat):Zat (.ptr id g z i o)=false:=rfl
@[simp] theorem zyo(f:Nat)(id:BId)(g z i o:Nat):Zat (.fnp f id g z i o)=false:=rfl
@[simp] theorem zyp(f:Nat)(x:AV):Zat (.fnv f x)=false:=rfl
@[simp] theorem z1i(id:BId)(g z off n:Nat):Zau (.bs id g z off n)=false:=rfl
@[simp] theorem zyq(id:BId)(g z i o:Nat):Zau (.ptr id g z i o)=false:=rfl
@[simp] theorem zyr(f:Nat)(id:BId)(g z i o:Nat):Zau (.fnp f id g z i o)=false:=rfl
@[simp] theorem zys(f:Nat)(x:AV):Zau (.fnv f x)=false:=rfl
@[simp] theorem z3m(id:BId)(g z off n:Nat):scalar (.bs id g z off n)=false:=rfl
@[simp] theorem z1j(id:BId)(g z i o:Nat):scalar (.ptr id g z i o)=false:=rfl
@[simp] theorem z1k(f:Nat)(id:BId)(g z i o:Nat):scalar (.fnp f id g z i o)=false:=rfl
@[simp] theorem z1l(f:Nat)(x:AV):scalar (.fnv f x)=false:=rfl
@[simp] theorem zyt(cs:List AV):Zau (.agg cs)=cs.all Zat:=rfl
@[simp] theorem z1m(cs:List AV):scalar (.agg cs)=cs.all Zat:=rfl
@[simp] theorem z1n(cs:List AV):scalar (.tup cs)=cs.all Zau:=rfl
@[simp] theorem z7e(id:BId)(g z off n:Nat):pureC (.bs id g z off n)=false:=rfl
@[simp] theorem z3n(id:BId)(g z i o:Nat):pureC (.ptr id g z i o)=false:=rfl
@[simp] theorem z3o(f:Nat)(id:BId)(g z i o:Nat):pureC (.fnp f id g z i o)=false:=rfl
@[simp] theorem z3p(f:Nat)(x:AV):pureC (.fnv f x)=true:=rfl
@[simp] theorem z3q(cs:List AV):pureC (.agg cs)=false:=rfl
@[simp] theorem z3r(cs:List AV):pureC (.tup cs)=false:=rfl
@[simp] theorem z7f(id:BId)(g z off n:Nat):noRef (.bs id g z off n)=false:=rfl
@[simp] theorem z3s(id:BId)(g z i o:Nat):noRef (.ptr id g z i o)=false:=rfl
@[simp] theorem z3t(f:Nat)(id:BId)(g z i o:Nat):noRef (.fnp f id g z i o)=false:=rfl
@[simp] theorem z3u(f:Nat)(x:AV):noRef (.fnv f x)=true:=rfl
@[simp] theorem z3v(cs:List AV):noRef (.agg cs)=cs.all pureC:=rfl
@[simp] theorem z3w(cs:List AV):noRef (.tup cs)=false:=rfl
@[simp] theorem zaa0(id:BId)(g z off n:Nat):refs (.bs id g z off n)=[id]:=rfl
@[simp] theorem z7g(id:BId)(g z i o:Nat):refs (.ptr id g z i o)=[]:=rfl
@[simp] theorem z7h(f:Nat)(id:BId)(g z i o:Nat):refs (.fnp f id g z i o)=[]:=rfl
@[simp] theorem z7i(f:Nat)(x:AV):refs (.fnv f x)=[]:=rfl
@[simp] theorem zaey(id:BId)(g z off n:Nat):rfC (.bs id g z off n)=[id]:=rfl
@[simp] theorem zaa1(id:BId)(g z i o:Nat):rfC (.ptr id g z i o)=[id]:=rfl
@[simp] theorem zaa2(f:Nat)(id:BId)(g z i o:Nat):rfC (.fnp f id g z i o)=[id]:=rfl
@[simp] theorem zaa3(f:Nat)(x:AV):rfC (.fnv f x)=[]:=rfl
@[simp] theorem zaez(id:BId)(g z off n:Nat):rf1 (.bs id g z off n)=[id]:=rfl
@[simp] theorem zaa4(id:BId)(g z i o:Nat):rf1 (.ptr id g z i o)=[id]:=rfl
@[simp] theorem zaa5(f:Nat)(id:BId)(g z i o:Nat):rf1 (.fnp f id g z i o)=[id]:=rfl
@[simp] theorem zaa6(f:Nat)(x:AV):rf1 (.fnv f x)=[]:=rfl
@[simp] theorem zae0(id:BId)(g z off n:Nat):rfA (.bs id g z off n)=[id]:=rfl
@[simp] theorem zaa7(id:BId)(g z i o:Nat):rfA (.ptr id g z i o)=[id]:=rfl
@[simp] theorem zaa8(f:Nat)(id:BId)(g z i o:Nat):rfA (.fnp f id g z i o)=[id]:=rfl
@[simp] theorem zaa9(f:Nat)(x:AV):rfA (.fnv f x)=[]:=rfl
def Ze3:AV→List BId
 | .bs id .. => [id]
 | _=>[]
@[simp] theorem zaba(cs:List AV):rf1 (.agg cs)=cs.flatMap rfC:=rfl
@[simp] theorem zabb(cs:List AV):rfA (.agg cs)=cs.flatMap rfC:=rfl
@[simp] theorem zabc(cs:List AV):rfA (.tup cs)=cs.flatMap rf1:=rfl
@[simp] theorem zae1{σn:BId→BId}{σg:Nat→Nat}(id:BId)(g z off n:Nat):rlC σn σg (.bs id g z off n)=.bs (σn id) (σg g) z off n:=rfl
@[simp] theorem zabd{σn:BId→BId}{σg:Nat→Nat}(id:BId)(g z i o:Nat):rlC σn σg (.ptr id g z i o)=.ptr (σn id) (σg g) z i o:=rfl
@[simp] theorem zabe{σn:BId→BId}{σg:Nat→Nat}(f:Nat)(id:BId)(g z i o:Nat):rlC σn σg (.fnp f id g z i o)=.fnp f (σn id) (σg g) z i o:=rfl
@[simp] theorem zabf{σn:BId→BId}{σg:Nat→Nat}(f:Nat)(x:AV):rlC σn σg (.fnv f x)=.fnv f x:=rfl
@[simp] theorem zae2{σn:BId→BId}{σg:Nat→Nat}(id:BId)(g z off n:Nat):rl1 σn σg (.bs id g z off n)=.bs (σn id) (σg g) z off n:=rfl
@[simp] theorem zabg{σn:BId→BId}{σg:Nat→Nat}(id:BId)(g z i o:Nat):rl1 σn σg (.ptr id g z i o)=.ptr (σn id) (σg g) z i o:=rfl
@[simp] theorem zabh{σn:BId→BId}{σg:Nat→Nat}(f:Nat)(id:BId)(g z i o:Nat):rl1 σn σg (.fnp f id g z i o)=.fnp f (σn id) (σg g) z i o:=rfl
@[simp] theorem zabi{σn:BId→BId}{σg:Nat→Nat}(f:Nat)(x:AV):rl1 σn σg (.fnv f x)=.fnv f x:=rfl
@[simp] theorem zae3{σn:BId→BId}{σg:Nat→Nat}(id:BId)(g z off n:Nat):rlA σn σg (.bs id g z off n)=.bs (σn id) (σg g) z off n:=rfl
@[simp] theorem zabj{σn:BId→BId}{σg:Nat→Nat}(id:BId)(g z i o:Nat):rlA σn σg (.ptr id g z i o)=.ptr (σn id) (σg g) z i o:=rfl
@[simp] theorem zabk{σn:BId→BId}{σg:Nat→Nat}(f:Nat)(id:BId)(g z i o:Nat):rlA σn σg (.fnp f id g z i o)=.fnp f (σn id) (σg g) z i o:=rfl
@[simp] theorem zabl{σn:BId→BId}{σg:Nat→Nat}(f:Nat)(x:AV):rlA σn σg (.fnv f x)=.fnv f x:=rfl
@[simp] theorem zabm{σn:BId→BId}{σg:Nat→Nat}(cs:List AV):rl1 σn σg (.agg cs)=.agg (cs.map (rlC σn σg)):=rfl
@[simp] theorem zabn{σn:BId→BId}{σg:Nat→Nat}(cs:List AV):rlA σn σg (.agg cs)=.agg (cs.map (rlC σn σg)):=rfl
@[simp] theorem zabo{σn:BId→BId}{σg:Nat→Nat}(cs:List AV):rlA σn σg (.tup cs)=.tup (cs.map (rl1 σn σg)):=rfl
@[simp] theorem z3x{h:Heap}(id:BId)(g z off n:Nat):Za6 h (.bs id g z off n)=(Z6 h id g z).isSome:=rfl
@[simp] theorem z1o{h:Heap}(id:BId)(g z i o:Nat):Za6 h (.ptr id g z i o)=(Z6 h id g z).isSome:=rfl
@[simp] theorem z1p{h:Heap}(f:Nat)(id:BId)(g z i o:Nat):Za6 h (.fnp f id g z i o)=(Z6 h id g z).isSome:=rfl
@[simp] theorem z1q{h:Heap}(f:Nat)(x:AV):Za6 h (.fnv f x)=true:=rfl
@[simp] theorem z3y{h:Heap}(id:BId)(g z off n:Nat):Zbm h (.bs id g z off n)=(Z6 h id g z).isSome:=rfl
@[simp] theorem z1r{h:Heap}(id:BId)(g z i o:Nat):Zbm h (.ptr id g z i o)=(Z6 h id g z).isSome:=rfl
@[simp] theorem z1s{h:Heap}(f:Nat)(id:BId)(g z i o:Nat):Zbm h (.fnp f id g z i o)=(Z6 h id g z).isSome:=rfl
@[simp] theorem z1t{h:Heap}(f:Nat)(x:AV):Zbm h (.fnv f x)=true:=rfl
@[simp] theorem z7j{h:Heap}(id:BId)(g z off n:Nat):Zb5 h (.bs id g z off n)=(Z6 h id g z).isSome:=rfl
@[simp] theorem z3z{h:Heap}(id:BId)(g z i o:Nat):Zb5 h (.ptr id g z i o)=(Z6 h id g z).isSome:=rfl
@[simp] theorem z30{h:Heap}(f:Nat)(id:BId)(g z i o:Nat):Zb5 h (.fnp f id g z i o)=(Z6 h id g z).isSome:=rfl
@[simp] theorem z32{h:Heap}(f:Nat)(x:AV):Zb5 h (.fnv f x)=true:=rfl
@[simp] theorem z1u{h:Heap}(cs:List AV):Zbm h (.agg cs)=cs.all (Za6 h):=rfl
@[simp] theorem z33{h:Heap}(cs:List AV):Zb5 h (.agg cs)=cs.all (Za6 h):=rfl
@[simp] theorem z34{h:Heap}(cs:List AV):Zb5 h (.tup cs)=cs.all (Zbm h):=rfl
@[simp] theorem z1v(id:BId)(g z off n:Nat):cellsOf (.bs id g z off n)=some [.bs id g z off n]:=rfl
@[simp] theorem zyu(id:BId)(g z i o:Nat):cellsOf (.ptr id g z i o)=some [.ptr id g z i o]:=rfl
@[simp] theorem zyv(f:Nat)(id:BId)(g z i o:Nat):cellsOf (.fnp f id g z i o)=some [.fnp f id g z i o]:=rfl
@[simp] theorem zyw(f:Nat)(x:AV):cellsOf (.fnv f x)=some [.fnv f x]:=rfl
@[simp] theorem zyx(cs:List AV):cellsOf (.agg cs)=some cs:=rfl
@[simp] theorem zae4(k:IntKind)(n:Int):Ze3 (.i k n)=[]:=rfl
@[simp] theorem zae5(t:Bool):Ze3 (.b t)=[]:=rfl
@[simp] theorem zae6(l:List UInt8):Ze3 (.s l)=[]:=rfl
@[simp] theorem z7k(v:Value):Ze3 (.raw v)=[]:=rfl
@[simp] theorem zabp(els:List (List AV))(f:Fl):Ze3 (.sl els f)=[]:=rfl
@[simp] theorem zabq(cs:List AV)(o:Nat):Ze3 (.ep cs o)=[]:=rfl
@[simp] theorem zabr(n:Nat):Ze3 (u8 n)=[]:=rfl
@[simp] theorem z7l(n:Nat):Ze3 (u32 n)=[]:=rfl
@[simp] theorem z7m(n:Nat):Ze3 (u64 n)=[]:=rfl
@[simp] theorem z35 :Ze3 .dead=[]:=rfl
@[simp] theorem zabs(id:BId)(g z off n:Nat):Ze3 (.bs id g z off n)=[id]:=rfl
@[simp] theorem z7n(id:BId)(g z i o:Nat):Ze3 (.ptr id g z i o)=[]:=rfl
@[simp] theorem z7o(f:Nat)(id:BId)(g z i o:Nat):Ze3 (.fnp f id g z i o)=[]:=rfl
@[simp] theorem z7p(f:Nat)(x:AV):Ze3 (.fnv f x)=[]:=rfl
@[simp] theorem z7q(cs:List AV):refs (.agg cs)=cs.flatMap Ze3:=rfl
@[simp] theorem zxf:refs (.tup [])=[]:=rfl
@[simp] theorem z7r(h:Heap)(id:BId)(g z:Nat):Z6 h id g z=(match h.lookup id with | some bx=>if bx.gen=g∧bx.z=z then some bx else none | none=>none):=rfl
@[simp] theorem z36(x:AV):wkIf true x=x:=rfl
@[simp] theorem z1w(x:AV):wkIf false x=wkA x:=rfl
theorem zer(n:Nat):IntKind.wrap .u32 (n:Int)=((n%4294967296:Nat):Int):=by
 simp[IntKind.wrap,IntKind.signed,IntKind.bits]
theorem zdt(n:Nat):IntKind.wrap .u64 (n:Int)=((n%18446744073709551616:Nat):Int):=by
 simp[IntKind.wrap,IntKind.signed,IntKind.bits]
theorem wrap_u8(n:Nat):IntKind.wrap .u8 (n:Int)=((n%256:Nat):Int):=by
 simp[IntKind.wrap,IntKind.signed,IntKind.bits]
def bX(o:Option (Ex×St))(f:St→Option (Ex×St)):Option (Ex×St):=o.bind fun r=>match r.1 with | .n=>f r.2 | _=>some r
def Zgv(id:Nat)(o:Option (Ex×St)):Option (Ex×St):=o.bind fun r=>match r.1 with | .x j=>if j=id then some (.n,r.2) else some r | _=>some r
def stX(o:Option St):Option (Ex×St):=o.map fun s=>(.n,s)
def bS(o:Option St)(f:St→Option St):Option St:=o.bind f
def cnX(v:AV)(x y:Option (Ex×St)):Option (Ex×St):=match v with | .b t=>if t then x else y | _=>none
def pS(o:Option AV)(d:Option Nat)(st:St):Option St:=o.map fun x=>⟨Zm st.env d x,st.heap,st.clk⟩
def pW(o:Option (AV×Heap×Nat))(d:Option Nat)(st:St):Option St:=o.map fun q=>⟨Zm st.env d q.1,q.2.1,q.2.2⟩
def pB(o:Option (AV×Heap))(d:Option Nat)(st:St):Option St:=o.map fun q=>⟨Zm st.env d q.1,q.2,st.clk⟩
def Zgw(res:List RV)(ex:Bool)(o:Option (Ex×St)):Option AV:=
 o.bind fun r=>match r.1 with | .x _=>none | .g _=>none | _=>(Zcw r.2 res).bind fun x=>(frz r.2.heap x).map (wkIf ex)
def Ziw(res:List RV)(ex:Bool)(k:Nat)(o:Option (Ex×St)):Option (AV×Heap):=
 o.bind fun r=>match r.1 with | .x _=>none | .g _=>none | _=>(Zcw r.2 res).map fun x=>let s:=Zc1 ex k [0] ⟨[(0,x)],r.2.heap,r.2.clk⟩;(s.env.get 0,s.heap)
section
variable{o o':Option (Ex×St)}{f:St→Option (Ex×St)}{s:St}
@[congr] theorem z7s(h:o=o'):bX o f=bX o' f:=by rw[h]
@[congr] theorem z7t{o o':Option St}{f:St→Option St}(h:o=o'):bS o f=bS o' f:=by rw[h]
@[congr] theorem z37{v v':AV}{x y:Option (Ex×St)}(h:v=v'):cnX v x y=cnX v' x y:=by rw[h]
@[simp] theorem bX_n:bX (some (.n,s)) f=f s:=rfl
@[simp] theorem bX_x(id:Nat):bX (some (.x id,s)) f=some (.x id,s):=rfl
@[simp] theorem bX_r:bX (some (.r,s)) f=some (.r,s):=rfl
@[simp] theorem zabt:bX none f=none:=rfl
@[simp] theorem zae7{c:Prop}[Decidable c]{a b:Option (Ex×St)}:bX (if c then a else b) f=if c then bX a f else bX b f:=by split<;>rfl
@[simp] theorem z7u(id:Nat){c:Prop}[Decidable c]{a b:Option (Ex×St)}:Zgv id (if c then a else b)=if c then Zgv id a else Zgv id b:=by split<;>rfl
@[simp] theorem z7v{res:List RV}{ex:Bool}{c:Prop}[Decidable c]{a b:Option (Ex×St)}:Zgw res ex (if c then a else b)=if c then Zgw res ex a else Zgw res ex b:=by split<;>rfl
@[simp] theorem z7w{res:List RV}{ex:Bool}{k:Nat}{c:Prop}[Decidable c]{a b:Option (Ex×St)}:Ziw res ex k (if c then a else b)=if c then Ziw res ex k a else Ziw res ex k b:=by split<;>rfl
@[simp] theorem zae8(id:Nat):Zgv id (some (.n,s))=some (.n,s):=rfl
@[simp] theorem z38(id j:Nat):Zgv id (some (.x j,s))=if j=id then some (.n,s) else some (.x j,s):=rfl
@[simp] theorem zae9(id:Nat):Zgv id (some (.r,s))=some (.r,s):=rfl
@[simp] theorem z39(id:Nat):Zgv id none=none:=rfl
@[simp] theorem z7x:stX (some s)=some (.n,s):=rfl
@[simp] theorem z7y:stX none=none:=rfl
@[simp] theorem zabu{f:St→Option St}:bS (some s) f=f s:=rfl
@[simp] theorem zabv{f:St→Option St}:bS none f=none:=rfl
@[simp] theorem zag6{t:Bool}{x y:Option (Ex×St)}:cnX (.b t) x y=if t then x else y:=rfl
@[simp] theorem zabw{x:AV}{d:Option Nat}:pS (some x) d s=some ⟨Zm s.env d x,s.heap,s.clk⟩:=rfl
@[simp] theorem zabx{d:Option Nat}:pS none d s=none:=rfl
@[simp] theorem zaby{x:AV}{h:Heap}{c:Nat}{d:Option Nat}:pW (some (x,h,c)) d s=some ⟨Zm s.env d x,h,c⟩:=rfl
@[simp] theorem zabz{d:Option Nat}:pW none d s=none:=rfl
@[simp] theorem zab0{x:AV}{h:Heap}{d:Option Nat}:pB (some (x,h)) d s=some ⟨Zm s.env d x,h,s.clk⟩:=rfl
@[simp] theorem zab1{d:Option Nat}:pB none d s=none:=rfl
@[simp] theorem zafa{res:List RV}{ex:Bool}:Zgw res ex (some (.r,s))=(Zcw s res).bind fun x=>(frz s.heap x).map (wkIf ex):=rfl
@[simp] theorem zafb{res:List RV}{ex:Bool}:Zgw res ex (some (.n,s))=(Zcw s res).bind fun x=>(frz s.heap x).map (wkIf ex):=rfl
@[simp] theorem zafc{res:List RV}{ex:Bool}{k:Nat}:Ziw res ex k (some (.r,s))=(Zcw s res).map fun x=>((Zc1 ex k [0] ⟨[(0,x)],s.heap,s.clk⟩).env.get 0,(Zc1 ex k [0] ⟨[(0,x)],s.heap,s.clk⟩).heap):=rfl
@[simp] theorem zafd{res:List RV}{ex:Bool}{k:Nat}:Ziw res ex k (some (.n,s))=(Zcw s res).map fun x=>((Zc1 ex k [0] ⟨[(0,x)],s.heap,s.clk⟩).env.get 0,(Zc1 ex k [0] ⟨[(0,x)],s.heap,s.clk⟩).heap):=rfl
end
section
variable{T:Tbl}{k:Nat}{st:St}{d:Option Nat}
noncomputable abbrev X(T:Tbl)(k:Nat)(c:AX)(st:St):Option (Ex×St):=evX (orc T) T k c st
noncomputable abbrev R(T:Tbl)(l:List AO)(st:St):Option St:=Zd6 (orc T) T l st
@[congr] theorem z4a{O:Orc}{c:AX}{st st':St}(h:st=st'):evX O T k c st=evX O T k c st':=by rw[h]
@[congr] theorem z4b{O:Orc}{op:AOp}{d:Option Nat}{st st':St}(h:st=st'):opX O T op d st=opX O T op d st':=by rw[h]
@[simp] theorem zafe:evX (orc T) T k .skip st=some (.n,st):=rfl
@[simp] theorem zag7{l:List AO}:evX (orc T) T k (.reg l) st=stX (Zd6 (orc T) T l st):=rfl
@[simp] theorem zaff{l:List DO}:evX (orc T) T k (.draw l) st=stX (Zb0 (orc T) T l st.env st.heap st.clk [] []):=rfl
@[simp] theorem zag8{a b:AX}:evX (orc T) T k (.seq a b) st=bX (evX (orc T) T k a st) fun s=>evX (orc T) T k b s:=rfl
@[simp] theorem zafg{c:Opd}{x y:AX}:evX (orc T) T k (.cond c x y) st=cnX (ev st.env.get c) (evX (orc T) T k x st) (evX (orc T) T k y st):=rfl
@[simp] theorem zab2{id:Nat}{c:AX}:evX (orc T) T k (.block id c) st=Zgv id (evX (orc T) T k c st):=rfl
@[simp] theorem zafh{c:AX}:evX (orc T) T k (.loop c) st=Zid T k c st:=rfl
def scX(o:Option (Ex×St)):Option (Ex×St):=o.bind fun r=>match r.1 with | .g _=>none | _=>some r
@[congr] theorem z4c{o o':Option (Ex×St)}(h:o=o'):scX o=scX o':=by rw[h]
@[simp] theorem zag9{s:St}:scX (some (.n,s))=some (.n,s):=rfl
@[simp] theorem zaha{j:Nat}{s:St}:scX (some (.x j,s))=some (.x j,s):=rfl
@[simp] theorem zahb{s:St}:scX (some (.r,s))=some (.r,s):=rfl
@[simp] theorem zab3{c:Prop}[Decidable c]{a b:Option (Ex×St)}:scX (if c then a else b)=if c then scX a else scX b:=by split<;>rfl
@[simp] theorem zab4{c:AX}:evX (orc T) T k (.scope c) st=scX (evX (orc T) T k c st):=rfl
@[simp] theorem zab5{l:Nat}:evX (orc T) T k (.label l) st=some (.n,st):=rfl
@[simp] theorem zafi{l:Nat}:evX (orc T) T k (.goto l) st=some (.g l,st):=rfl
@[simp] theorem bX_g{l:Nat}{s:St}{f:St→Option (Ex×St)}:bX (some (.g l,s)) f=some (.g l,s):=rfl
@[simp] theorem zafj{id l:Nat}{s:St}:Zgv id (some (.g l,s))=some (.g l,s):=rfl
theorem zab6{l:Nat}{c r:AX}:evX (orc T) T k (.gsc l c r) st=Zft (fun s=>evX (orc T) T k r s) l 100 (evX (orc T) T k c st):=rfl
@[simp] theorem zafk{id:Nat}:evX (orc T) T k (.exit id) st=some (.x id,st):=rfl
@[simp] theorem zahc:evX (orc T) T k .ret st=some (.r,st):=rfl
@[simp] theorem zafl{c:AX}{g:Gh}:evX (orc T) T k (.note c g) st=bX (evX (orc T) T k c st) fun s=>stX (ghS k g s):=rfl
def prX(o:Option St)(f:St→Option (Ex×St)):Option (Ex×St):=o.bind f
@[congr] theorem z4d{o o':Option St}{f:St→Option (Ex×St)}(h:o=o'):prX o f=prX o' f:=by rw[h]
@[simp] theorem z7z{s:St}{f:St→Option (Ex×St)}:prX (some s) f=f s:=rfl
@[simp] theorem z4e{c:AX}{g:Gh}:evX (orc T) T k (.pre g c) st=prX (ghS k g st) fun s=>evX (orc T) T k c s:=rfl
noncomputable def Ze4(k id:Nat)(g2:Gh)(o:Option (Ex×St)):Option (Ex×St):=bX (Zgv id o) fun s=>stX (ghS k g2 s)
noncomputable def Zv(T:Tbl)(k id:Nat)(g2:Gh)(c:AX)(st:St):Option (Ex×St):=Ze4 k id g2 (Zid T k c st)
@[congr] theorem zyy{id:Nat}{g2:Gh}{c:AX}{st st':St}(h:st=st'):Zv T k id g2 c st=Zv T k id g2 c st':=by rw[h]
@[congr] theorem z1x{id:Nat}{g2:Gh}{o o':Option (Ex×St)}(h:o=o'):Ze4 k id g2 o=Ze4 k id g2 o':=by rw[h]
@[simp] theorem zafm{id j:Nat}{g2:Gh}{s:St}:Ze4 k id g2 (some (.x j,s))=if j=id then stX (ghS k g2 s) else some (.x j,s):=by
 unfold Ze4;rw[z38];split<;>simp
@[simp] theorem zafn{id:Nat}{g2:Gh}{s:St}:Ze4 k id g2 (some (.r,s))=some (.r,s):=rfl
@[simp] theorem X_lp{id:Nat}{g g2:Gh}{c:AX}:evX (orc T) T k (.lp id g c g2) st=prX (ghS k g st) fun s=>Zv T k id g2 c s:=by
 simp only[evX,prX,Zv,Ze4,bX,Zgv,stX,Zid];cases ghS k g st with
 | none=>rfl
 | some s=>
  simp only[Y4];cases (orc T).loop k c s with
  | none=>rfl
  | some r=>
   obtain⟨e,s'⟩:=r;cases e with
   | n=>rfl
   | r=>rfl
   | g l=>rfl
   | x j=>
    simp only[Y4];split<;>rfl
def Ze5:Option (Ex×St)→Bool
 | some (.x _,_)=>true
 | some (.r,_)=>true
 | _=>false
@[simp] theorem zafo{j:Nat}{s:St}:Ze5 (some (.x j,s))=true:=rfl
@[simp] theorem zafp{s:St}:Ze5 (some (.r,s))=true:=rfl
@[simp] theorem z70{c:Prop}[Decidable c]{a b:Option (Ex×St)}:Ze5 (if c then a else b)=if c then Ze5 a else Ze5 b:=by split<;>rfl
@[congr] theorem z1y{o o':Option (Ex×St)}(h:o=o'):Ze5 o=Ze5 o':=by rw[h]
theorem zn1{c:AX}:Zid T k c st=bX (evX (orc T) T k c st) fun s=>Zid T k c s:=zvi T k c st
theorem za0{α:Type}{id:Nat}{g2:Gh}{c:AX}(F:α→St)(I:α→Prop)(μ:α→Nat)(Q:Ex×St→Prop)
  (step:∀x,I x→(∃y,I y∧μ y<μ x∧evX (orc T) T k c (F x)=some (.n,F y))∨(∃r,Q r∧Ze5 (evX (orc T) T k c (F x))=true∧Ze4 k id g2 (evX (orc T) T k c (F x))=some r)) :
  ∀x,I x→∃r,Q r∧Zv T k id g2 c (F x)=some r:=by
 have key:∀n x,μ x=n→I x→∃r,Q r∧Zv T k id g2 c (F x)=some r:=by
  intro n
  induction n using Nat.strongRecOn with
  | _ n ih=>
   intro x hn hI;unfold Zv;rw[zn1];rcases step x hI with ⟨y,h1,h2,h3⟩ | ⟨r,h1,h2,h3⟩
   ·rw[h3,bX_n];exact ih (μ y) (hn▸h2) y rfl h1
   ·refine⟨r,h1,?_⟩;rw[←h3];generalize evX (orc T) T k c (F x)=o at h2 ⊢;cases o with
    | none=>cases h2
    | some q=>
     obtain⟨e,s⟩:=q;cases e
     ·cases h2
     ·rfl
     ·rfl
     ·cases h2
 exact fun x hI=>key _ x rfl hI
theorem za1{α:Type}{id:Nat}{g2:Gh}{c:AX}(F:α→St)(I:α→Prop)(μ:α→Nat)(G:α→Option (Ex×St))
  (step:∀x,I x→(∃y,I y∧μ y<μ x∧evX (orc T) T k c (F x)=some (.n,F y)∧G y=G x)∨(Ze5 (evX (orc T) T k c (F x))=true∧Ze4 k id g2 (evX (orc T) T k c (F x))=G x)) :
  ∀x,I x→Zv T k id g2 c (F x)=G x:=by
 have key:∀n x,μ x=n→I x→Zv T k id g2 c (F x)=G x:=by
  intro n
  induction n using Nat.strongRecOn with
  | _ n ih=>
   intro x hn hI;unfold Zv;rw[zn1];rcases step x hI with ⟨y,h1,h2,h3,h4⟩ | ⟨h2,h3⟩
   ·rw[h3,bX_n,←h4];exact ih (μ y) (hn▸h2) y rfl h1
   ·rw[←h3];generalize evX (orc T) T k c (F x)=o at h2 ⊢;cases o with
    | none=>cases h2
    | some q=>
     obtain⟨e,s⟩:=q;cases e
     ·cases h2
     ·rfl
     ·rfl
     ·cases h2
 exact fun x hI=>key _ x rfl hI
@[simp] theorem zahd:Zd6 (orc T) T [] st=some st:=rfl
@[simp] theorem zafq{d:Option Nat}{op:AOp}{l:List AO}:Zd6 (orc T) T (⟨d,none,op⟩::l) st=bS (opX (orc T) T op d st) fun s=>Zd6 (orc T) T l s:=rfl
noncomputable def gS(T:Tbl)(x:AV)(want:Bool)(op:AOp)(d:Option Nat)(st:St):Option St:=gX (orc T) T x want op d st
@[congr] theorem z71{x x':AV}{want:Bool}{op:AOp}(h:x=x'):gS T x want op d st=gS T x' want op d st:=by rw[h]
@[simp] theorem zab7{d:Option Nat}{op:AOp}{l:List AO}{t:Nat}{w:Bool}:Zd6 (orc T) T (⟨d,some (t,w),op⟩::l) st=bS (gS T (st.env.get t) w op d st) fun s=>Zd6 (orc T) T l s:=rfl
@[simp] theorem gS_b{v want:Bool}{op:AOp}:gS T (.b v) want op d st=if v=want then opX (orc T) T op d st else some ⟨Zm st.env d (.tup []),st.heap,st.clk⟩:=rfl
@[simp] theorem zafr{vs:List AV}{want:Bool}{op:AOp}:gS T (.tup vs) want op d st=some ⟨Zm st.env d (.tup []),st.heap,st.clk⟩:=rfl
@[simp] theorem zahe{x}:opX (orc T) T (.mov x) d st=some ⟨Zm st.env d (ev st.env.get x),st.heap,st.clk⟩:=rfl
@[simp] theorem zafs{c a b}:opX (orc T) T (.pick c a b) d st=pS (Zgf (ev st.env.get c) (ev st.env.get a) (ev st.env.get b)) d st:=rfl
@[simp] theorem zab8{zs ps}:opX (orc T) T (.build zs ps) d st=pS ((Zf2 zs (ps.map fun p=>(p.1,p.2.1,ev st.env.get p.2.2))).map .agg) d st:=rfl
@[simp] theorem zaft{n x}:opX (orc T) T (.load n x) d st=pS (Zez n st.heap (ev st.env.get x)) d st:=rfl
@[simp] theorem zahf{o x y}:opX (orc T) T (.bin o x y) d st=pS (Z8 o (ev st.env.get x) (ev st.env.get y)) d st:=rfl
@[simp] theorem zahg{g ls x y}:opX (orc T) T (.eqs g ls x y) d st=pS (Zhb g ls (ev st.env.get x) (ev st.env.get y)) d st:=rfl
@[simp] theorem zab9{g x}:opX (orc T) T (.eqnil g x) d st=pS (Zej g (ev st.env.get x)) d st:=rfl
@[simp] theorem zahh{g x y}:opX (orc T) T (.eqb g x y) d st=pS (Zhc g (ev st.env.get x) (ev st.env.get y)) d st:=rfl
@[simp] theorem O_un{o x}:opX (orc T) T (.un o x) d st=pS (Zgg o (ev st.env.get x)) d st:=rfl
@[simp] theorem zafu{n x}:opX (orc T) T (.conv n x) d st=pS (Zbv n (ev st.env.get x)) d st:=rfl
@[simp] theorem zahi{z x lo hi mx}:opX (orc T) T (.slc z x lo hi mx) d st=pS (Zf3 z st.heap (ev st.env.get x) (evO st.env.get lo) (evO st.env.get hi) (evO st.env.get mx)) d st:=rfl
@[simp] theorem zaca{x lo hi}:opX (orc T) T (.slstr x lo hi) d st=pS (Zek (ev st.env.get x) (evO st.env.get lo) (evO st.env.get hi)) d st:=rfl
@[simp] theorem zahj{o x}:opX (orc T) T (.fad o x) d st=pS (Zgh o st.heap (ev st.env.get x)) d st:=rfl
@[simp] theorem zahk{o n x}:opX (orc T) T (.fld o n x) d st=pS (Zhd o n (ev st.env.get x)) d st:=rfl
@[simp] theorem zahl{z x i}:opX (orc T) T (.iad z x i) d st=pS (Zgi z st.heap (ev st.env.get x) (ev st.env.get i)) d st:=rfl
@[simp] theorem zahm{z n x i}:opX (orc T) T (.iaa z n x i) d st=pS (Zgj z n st.heap (ev st.env.get x) (ev st.env.get i)) d st:=rfl
@[simp] theorem zahn{x i}:opX (orc T) T (.ixs x i) d st=pS (Zhe (ev st.env.get x) (ev st.env.get i)) d st:=rfl
@[simp] theorem zaho{z l n x i}:opX (orc T) T (.ixa z l n x i) d st=pS (Zfc z l n (ev st.env.get x) (ev st.env.get i)) d st:=rfl
@[simp] theorem zahp{x}:opX (orc T) T (.len x) d st=pS (Zgk st.heap (ev st.env.get x)) d st:=rfl
@[simp] theorem zafv{x}:opX (orc T) T (.lens x) d st=pS (Zfm (ev st.env.get x)) d st:=rfl
@[simp] theorem zafw{n}:opX (orc T) T (.lenc n) d st=some ⟨Zm st.env d (.i .i64 n),st.heap,st.clk⟩:=rfl
@[simp] theorem O_mm{m xs}:opX (orc T) T (.mm m xs) d st=pS (Zjo m (xs.map (ev st.env.get))) d st:=rfl
@[simp] theorem zahq{x n}:opX (orc T) T (.ext x n) d st=pS (Zhf n (ev st.env.get x)) d st:=rfl
@[simp] theorem zafx{x}:opX (orc T) T (.nilc x) d st=pS (Ze0 st.heap (ev st.env.get x)) d st:=rfl
@[simp] theorem zacb{zs}:opX (orc T) T (.alloc zs) d st=pW (Zel zs d st.heap st.clk) d st:=rfl
@[simp] theorem zacc{n x v}:opX (orc T) T (.store n x v) d st=pW ((Zcv n st.heap (ev st.env.get x) (ev st.env.get v)).map fun h'=>(.tup [],h',st.clk)) d st:=rfl
@[simp] theorem zahr{z zs l c}:opX (orc T) T (.mks z zs l c) d st=pW (Zf5 z zs d st.heap st.clk (ev st.env.get l) (ev st.env.get c)) d st:=rfl
@[simp] theorem zahs{z x y}:opX (orc T) T (.app z x y) d st=pW (Zib z d st.heap st.clk (ev st.env.get x) (ev st.env.get y)) d st:=rfl
@[simp] theorem zafy{n xs}:opX (orc T) T (.xop (.box n) xs) d st=pW (Za7 (.box n) (xs.map (ev st.env.get)) d st.heap st.clk) d st:=rfl
@[simp] theorem zafz{xs}:opX (orc T) T (.xop .cpy xs) d st=pW (Za7 .cpy (xs.map (ev st.env.get)) d st.heap st.clk) d st:=rfl
@[simp] theorem zacd{xs}:opX (orc T) T (.xop .bstr xs) d st=pW (Za7 .bstr (xs.map (ev st.env.get)) d st.heap st.clk) d st:=rfl
@[simp] theorem zace{n xs}:opX (orc T) T (.xop (.arsl n) xs) d st=pW (Za7 (.arsl n) (xs.map (ev st.env.get)) d st.heap st.clk) d st:=rfl
@[simp] theorem zacf{xs}:opX (orc T) T (.xop .apps xs) d st=pW (Za7 .apps (xs.map (ev st.env.get)) d st.heap st.clk) d st:=rfl
@[simp] theorem zaf0{xs}:opX (orc T) T (.xop .bad xs) d st=pW (Za7 .bad (xs.map (ev st.env.get)) d st.heap st.clk) d st:=rfl
@[simp] theorem zaht{n xs}:opX (orc T) T (.xop (.mkf n) xs) d st=pW (Za7 (.mkf (Zu T n)) (xs.map (ev st.env.get)) d st.heap st.clk) d st:=rfl
@[simp] theorem zahu{n xs}:opX (orc T) T (.xop (.mkv n) xs) d st=pW (Za7 (.mkv (Zu T n)) (xs.map (ev st.env.get)) d st.heap st.clk) d st:=rfl
@[simp] theorem z1z{f:Nat}{x:AV}{dd:Option Nat}{h:Heap}{clk:Nat}:Za7 (.mkv f) [x] dd h clk=if noRef x=true then some (.fnv f x,h,clk) else none:=rfl
@[simp] theorem z10{f:Nat}{id:BId}{g z i o:Nat}{dd:Option Nat}{h:Heap}{clk:Nat}:Za7 (.mkf f) [.ptr id g z i o] dd h clk=some (.fnp f id g z i o,h,clk):=rfl
@[simp] theorem zahv{z zs n ps}:opX (orc T) T (.bsl z zs n ps) d st=pB (Zdo z zs n st.heap (ps.map fun p=>(p.1,ev st.env.get p.2))) d st:=rfl
@[simp] theorem zaf1{u args}:opX (orc T) T (.call u args) d st=Zd (orc T) T u (args.map (ev st.env.get)) d st:=rfl
def cR(r:Option AV)(xs:List AV)(d:Option Nat)(st:St):Option St:=
 r.map fun r=>⟨Zm st.env d r,if scalar r then st.heap else Zj (xs.flatMap refs) st.heap,st.clk⟩
@[congr] theorem z72{r r':Option AV}{xs:List AV}(h:r=r'):cR r xs d st=cR r' xs d st:=by rw[h]
@[simp] theorem zacg{r:AV}{xs:List AV}:cR (some r) xs d st=some ⟨Zm st.env d r,if scalar r then st.heap else Zj (xs.flatMap refs) st.heap,st.clk⟩:=rfl
def bL(o:Option (List AV))(f:List AV→Option St):Option St:=o.bind f
@[congr] theorem z73{o o':Option (List AV)}{f:List AV→Option St}(h:o=o'):bL o f=bL o' f:=by rw[h]
@[simp] theorem zach{xs:List AV}{f:List AV→Option St}:bL (some xs) f=f xs:=rfl
def Zjf(h:Heap):List AV→Option (List AV)
 | []=>some []
 | x::l=>(Za1 h x).bind fun y=>(Zjf h l).map fun ys=>y::ys
theorem zr8(h:Heap):∀l:List AV,l.mapM (Za1 h)=Zjf h l
 | []=>rfl
 | x::l=>by simp only[Ycq,Zjf,zr8 h l,Yby,Ycu,Option.map_eq_bind,Function.comp_def]
attribute [simp] Zjf Zeq Za4 Zcj
theorem zaa{u:Nat}{xs:List AV}{np nt:Nat}{res:List RV}{b:AX}{ex:Bool}(hT:T u=some ⟨np,nt,res,b,none,ex⟩) :
  Zd (orc T) T u xs d st=bL (Zjf st.heap xs) fun ys=>cR (Za T u (ys.map (wkIf ex))) xs d st:=by
 unfold Zd bL cR Za;rw[hT];simp only[zr8];congr 1
 funext ys
 cases (orc T).call u (ys.map (wkIf ex)) []<;>rfl
theorem zab{u:Nat}{xs:List AV}{np nt:Nat}{res:List RV}{b:AX}{ex:Bool}(hT:T u=some ⟨np,nt,res,b,none,ex⟩)(hn:xs.length=np)(hp:b.isPrim=none:=by rfl) :
  Za T u xs=Zgw res ex (evX (orc T) T 0 b ⟨Zcd xs,[],1⟩):=by
 unfold Za Zgw;rw[ziz];simp only[Zc2,hT,hp];rw[if_pos ⟨hn,by simp⟩];simp only[Yak,Yai];cases evX (orc T) T 0 b ⟨Zcd xs,[],1⟩ with
 | none=>rfl
 | some r=>
  obtain⟨e,s⟩:=r;cases e<;>simp only[Y4,Zj0,Ydr]<;>(cases Zcw s res<;>simp only[Option.bind_none,Ydr,Y4]<;>cases frz s.heap _<;>rfl)
theorem zcx{u:Nat}{xs:List AV}{np nt:Nat}{res:List RV}{f:List AV→Option AV}{ex:Bool}(hT:T u=some ⟨np,nt,res,.prim f,none,ex⟩):Za T u xs=f xs:=by
 unfold Za;rw[ziz];simp only[Zc2,hT,AX.isPrim];cases f xs<;>simp
theorem zbn{u:Nat}{xs:List AV}{hb:Heap}{np nt:Nat}{res:List RV}{b:AX}{ms:List Bool}{ex:Bool}(hT:T u=some ⟨np,nt,res,b,some ms,ex⟩)(hn:xs.length=np)(hp:b.isPrim=none:=by rfl) :
  Zcf T u xs hb=Ziw res ex hb.length (evX (orc T) T hb.length b ⟨Zcd xs,hb,hb.length+1⟩):=by
 unfold Zcf Ziw;rw[ziz];simp only[Zc2,hT,hp];rw[if_pos ⟨hn,by simp⟩];cases evX (orc T) T hb.length b ⟨Zcd xs,hb,hb.length+1⟩ with
 | none=>rfl
 | some r=>
  obtain⟨e,s⟩:=r;cases e<;>simp only[Y4,Zj0]<;>(cases Zcw s res<;>rfl)
def Zj2(l:List BId)(hp h1:Heap)(r:Option (AV×Heap))(d:Option Nat)(st:St):Option St:=
 r.bind fun r=>
  let hb':=r.2.map fun p=>(Za2 l (d.getD 0) p.1,Zaf true (Za2 l (d.getD 0)) (Zbd hp st.clk) p.2)
  let r':=rlA (Za2 l (d.getD 0)) (Zbd hp st.clk) r.1
  if (hb'.map (·.1)).Nodup&&Zb5 hb' r'&&Zgo hb' then
   some ⟨Zm st.env d r',hb'++(h1.filter fun p=>!(l.contains p.1 || (hb'.map (·.1)).contains p.1)),st.clk+r.2.length+2⟩
  else none
@[congr] theorem z11{l:List BId}{hp h1:Heap}{r r':Option (AV×Heap)}(h:r=r'):Zj2 l hp h1 r d st=Zj2 l hp h1 r' d st:=by rw[h]
noncomputable def Zef(ys:List AV)(h1:Heap)(l:List BId)(T:Tbl)(u:Nat)(ex:Bool)(d:Option Nat)(st:St):Option St:=
 if (Zdr h1 l).map (·.1)=l∧l.Nodup then
  Zj2 l (Zdr h1 l) h1 (Zcf T u (ys.map fun y=>rlA (inN l) (inG (Zdr h1 l)) (wkIf ex y)) ((Zdr h1 l).map fun p=>(inN l p.1,Zaf ex (inN l) (inG (Zdr h1 l)) p.2))) d st
 else none
@[simp] theorem z4f{l:List BId}{hp h1:Heap}{r:AV}{h2:Heap}:Zj2 l hp h1 (some (r,h2)) d st =
  (if ((h2.map fun p=>(Za2 l (d.getD 0) p.1,Zaf true (Za2 l (d.getD 0)) (Zbd hp st.clk) p.2)).map (·.1)).Nodup&&Zb5 (h2.map fun p=>(Za2 l (d.getD 0) p.1,Zaf true (Za2 l (d.getD 0)) (Zbd hp st.clk) p.2)) (rlA (Za2 l (d.getD 0)) (Zbd hp st.clk) r)&&Zgo (h2.map fun p=>(Za2 l (d.getD 0) p.1,Zaf true (Za2 l (d.getD 0)) (Zbd hp st.clk) p.2)) then
   some ⟨Zm st.env d (rlA (Za2 l (d.getD 0)) (Zbd hp st.clk) r),(h2.map fun p=>(Za2 l (d.getD 0) p.1,Zaf true (Za2 l (d.getD 0)) (Zbd hp st.clk) p.2))++(h1.filter fun p=>!(l.contains p.1 || ((h2.map fun p=>(Za2 l (d.getD 0) p.1,Zaf true (Za2 l (d.getD 0)) (Zbd hp st.clk) p.2)).map (·.1)).contains p.1)),st.clk+h2.length+2⟩
  else none):=rfl
attribute [simp] Zef Za2 Zbd inN inG Zec Zgo
theorem zay{u:Nat}{xs:List AV}{np nt:Nat}{res:List RV}{b:AX}{ms:List Bool}{ex:Bool}(hT:T u=some ⟨np,nt,res,b,some ms,ex⟩) :
  Zd (orc T) T u xs d st=bL (Zeq st.heap ms xs) fun ys=>Zef ys (Zj (Za4 ms xs) st.heap) (Zc0 (Zj (Za4 ms xs) st.heap) 40 (Zcj ms xs) []) T u ex d st:=by
 unfold Zd bL Zef Zj2 Zcf;rw[hT]
def bD(o:Option (AV×Bool))(f:AV×Bool→Option St):Option St:=o.bind f
@[congr] theorem z74{o o':Option (AV×Bool)}{f:AV×Bool→Option St}(h:o=o'):bD o f=bD o' f:=by rw[h]
@[simp] theorem zaci{e:AV×Bool}{f:AV×Bool→Option St}:bD (some e) f=f e:=rfl
def bWr(o:Option (AV×Heap×Nat))(f:AV×Heap×Nat→Option St):Option St:=o.bind f
@[congr] theorem z4g{o o':Option (AV×Heap×Nat)}{f:AV×Heap×Nat→Option St}(h:o=o'):bWr o f=bWr o' f:=by rw[h]
@[simp] theorem z77{q:AV×Heap×Nat}{f:AV×Heap×Nat→Option St}:bWr (some q) f=f q:=rfl
def iP(b:Bool)(x:Option St):Option St:=if b then x else none
@[congr] theorem z78{b b':Bool}{x:Option St}(h:b=b'):iP b x=iP b' x:=by rw[h]
@[simp] theorem zacj{x:Option St}:iP true x=x:=rfl
@[simp] theorem z12{h:Heap}:Zck [] h=true:=by
 classical
 unfold Zck;exact decide_eq_true fun p hp=>by cases hp
@[simp] theorem zyz{q:AOp×Env×AV}{l:Zb6}{h:Heap}:Zck ((0,q)::l) h=Zck l h:=by
 classical
 unfold Zck;refine decide_eq_decide.2 ⟨fun h1 p hp=>h1 p (Ym _ hp),fun h1 p hp h0=>?_⟩;rcases Yy.1 hp with rfl | hp
 ·cases h0
 ·exact h1 p hp h0
@[simp] theorem zmj{n:Nat}{op:AOp}{e:Env}{x:AV}{l:Zb6}{h:Heap}(hs:Zgu op e.get h=some x):Zck ((n,op,e,x)::l) h=Zck l h:=by
 classical
 unfold Zck;refine decide_eq_decide.2 ⟨fun h1 p hp=>h1 p (Ym _ hp),fun h1 p hp h0=>?_⟩;rcases Yy.1 hp with rfl | hp
 ·exact hs
 ·exact h1 p hp h0
theorem zpe{op:AOp}{e:Env}{older:List Heap}{x:AV}(hf:op.free=true):Zd0 op e older x=true:=by unfold Zd0;rw[hf];rfl
theorem zr9{op:AOp}{e:Env}{x:AV}:Zd0 op e [] x=true:=by
 classical
 unfold Zd0;rw[Ya2];exact .inr (decide_eq_true fun h' hh=>by cases hh)
theorem zpf{op:AOp}{e:Env}{h:Heap}{older:List Heap}{x:AV}(h1:Zg op e.get h=some x):Zd0 op e (h::older) x=Zd0 op e older x:=by
 classical
 unfold Zd0;congr 1;refine decide_eq_decide.2 ?_;simp only[Yy,forall_eq_or_imp,h1,true_and]
noncomputable def rD(T:Tbl)(q:Option (Nat×List AV))(o:DO)(r:List DO)(e:Env)(h:Heap)(clk:Nat)(older:List Heap)(pend:Zb6):Option St:=
 match q with
 | none=>bD (qX (orc T) T o.ao e h (older.take (older.length-o.lo))) fun x=>Zb0 (orc T) T r (Zm e o.ao.dst x.1) h clk older (Zem o older.length e x pend)
 | some p=>(Zed (orc T) T p.1 p.2).bind fun x=>Zb0 (orc T) T r (Zm e o.ao.dst x) h clk older (if older.length<o.hi then (o.hi-older.length,o.ao.op,e,.tup p.2)::pend else pend)
@[congr] theorem z79{q q':Option (Nat×List AV)}{o:DO}{r:List DO}{e:Env}{h:Heap}{clk:Nat}{older:List Heap}{pend:Zb6}(h1:q=q'):rD T q o r e h clk older pend=rD T q' o r e h clk older pend:=by rw[h1]
@[simp] theorem zack{o:DO}{r:List DO}{e:Env}{h:Heap}{clk:Nat}{older:List Heap}{pend:Zb6}:rD T none o r e h clk older pend=bD (qX (orc T) T o.ao e h (older.take (older.length-o.lo))) fun x=>Zb0 (orc T) T r (Zm e o.ao.dst x.1) h clk older (Zem o older.length e x pend):=rfl
noncomputable def bAV(o:Option AV)(f:AV→Option St):Option St:=o.bind f
@[congr] theorem z4h{o o':Option AV}{f:AV→Option St}(h:o=o'):bAV o f=bAV o' f:=by rw[h]
@[simp] theorem z8a{x:AV}{f:AV→Option St}:bAV (some x) f=f x:=rfl
@[simp] theorem zacl{u:Nat}{ys:List AV}{o:DO}{r:List DO}{e:Env}{h:Heap}{clk:Nat}{older:List Heap}{pend:Zb6}:rD T (some (u,ys)) o r e h clk older pend=bAV (Zed (orc T) T u ys) fun x=>Zb0 (orc T) T r (Zm e o.ao.dst x) h clk older (if older.length<o.hi then (o.hi-older.length,o.ao.op,e,.tup ys)::pend else pend):=rfl
theorem zvj{u:Nat}{ys:List AV}{np nt:Nat}{res:List RV}{b:AX}{ex:Bool}(hT:T u=some ⟨np,nt,res,b,none,ex⟩):Zed (orc T) T u ys=Za T u (ys.map (wkIf ex)):=by
 unfold Zed Za;rw[hT]
 rfl
open Classical in
noncomputable def rK(u:Nat)(xs ys:List AV)(older:List Heap):Option (Nat×List AV):=if decide (∀h'∈older,Zb2 h' xs=some ys)=true then some (u,ys) else none
@[simp] theorem zaf2{u:Nat}{xs ys:List AV}:rK u xs ys []=some (u,ys):=by
 classical
 unfold rK;rw[if_pos (decide_eq_true fun h' hh=>by cases hh)]
@[simp] theorem zacm{g:Option (Nat×Bool)}{e:Env}{h:Heap}{older:List Heap}:Zgt g none e h older=none:=by cases g<;>rfl
@[simp] theorem zacn{g:Nat×Bool}{c:Option (Nat×List Opd)}{e:Env}{h:Heap}{older:List Heap}:Zgt (some g) c e h older=none:=by cases c<;>rfl
noncomputable def rC(c:Bool)(u:Nat)(xs:List AV)(h:Heap)(older:List Heap):Option (Nat×List AV):=
 match c with
 | true=>none
 | false=>(Zb2 h xs).bind fun ys=>rK u xs ys older
@[congr] theorem z8b{c c':Bool}{u:Nat}{xs:List AV}{h:Heap}{older:List Heap}(h1:c=c'):rC c u xs h older=rC c' u xs h older:=by rw[h1]
@[simp] theorem zaco{u:Nat}{xs:List AV}{h:Heap}{older:List Heap}:rC true u xs h older=none:=rfl
@[simp] theorem z8c{u:Nat}{xs:List AV}{h:Heap}{older:List Heap}:rC false u xs h older=(Zb2 h xs).bind fun ys=>rK u xs ys older:=rfl
@[simp] theorem z4i{q:Nat×List Opd}{e:Env}{h:Heap}{older:List Heap}:Zgt none (some q) e h older=rC ((q.2.map (ev e.get)).all noRef) q.1 (q.2.map (ev e.get)) h older:=by
 classical
 unfold Zgt Zjy rC;cases hc:(q.2.map (ev e.get)).all noRef with
 | true=>simp only[hc,if_true,Ydr]
 | false=>
  simp only[hc,Yaw,if_false];cases Zb2 h (q.2.map (ev e.get)) with
  | none=>rfl
  | some ys=>
   simp only[Y4,rK];split<;>rfl
noncomputable def dX(T:Tbl)(wr:Bool)(o:DO)(r:List DO)(e:Env)(h:Heap)(clk:Nat)(older:List Heap)(pend:Zb6):Option St:=
 match wr with
 | true=>if o.ao.guard.isNone then bWr (stepW o.ao.op o.ao.dst e.get h clk) fun q=>iP (Zck pend q.2.1) (Zb0 (orc T) T r (Zm e o.ao.dst q.1) q.2.1 q.2.2 (h::older) (pend.map fun p=>(p.1-1,p.2))) else none
 | false=>rD T (Zgt o.ao.guard o.ao.op.callN e h (older.take (older.length-o.lo))) o r e h clk older pend
@[congr] theorem zy0{l:List DO}{e e':Env}{h h':Heap}{clk clk':Nat}{older older':List Heap}{pend pend':Zb6}(h1:e=e')(h2:h=h')(h3:clk=clk')(h4:older=older')(h5:pend=pend'):Zb0 (orc T) T l e h clk older pend=Zb0 (orc T) T l e' h' clk' older' pend':=by rw[h1,h2,h3,h4,h5]
@[simp] theorem z4j{e:Env}{h:Heap}{clk:Nat}{older:List Heap}{pend:Zb6}:Zb0 (orc T) T [] e h clk older pend=some ⟨e,h,clk⟩:=rfl
@[simp] theorem z13{o:DO}{r:List DO}{e:Env}{h:Heap}{clk:Nat}{older:List Heap}{pend:Zb6}:Zb0 (orc T) T (o::r) e h clk older pend=dX T o.ao.op.writes o r e h clk older pend:=by
 unfold dX;rw[Zb0];cases o.ao.op.writes with
 | true=>rfl
 | false=>
  unfold rD;simp only;cases Zgt o.ao.guard o.ao.op.callN e h (older.take (older.length-o.lo))<;>rfl
@[simp] theorem zacp{o:DO}{r:List DO}{e:Env}{h:Heap}{clk:Nat}{older:List Heap}{pend:Zb6}:dX T true o r e h clk older pend=if o.ao.guard.isNone then bWr (stepW o.ao.op o.ao.dst e.get h clk) fun q=>iP (Zck pend q.2.1) (Zb0 (orc T) T r (Zm e o.ao.dst q.1) q.2.1 q.2.2 (h::older) (pend.map fun p=>(p.1-1,p.2))) else none:=rfl
@[simp] theorem z8d{o:DO}{r:List DO}{e:Env}{h:Heap}{clk:Nat}{older:List Heap}{pend:Zb6}:dX T false o r e h clk older pend=rD T (Zgt o.ao.guard o.ao.op.callN e h (older.take (older.length-o.lo))) o r e h clk older pend:=rfl
def dV(o:Option AV):Option (AV×Bool):=o.map fun x=>(x,true)
@[simp] theorem zacq{x:AV}:dV (some x)=some (x,true):=rfl
@[simp] theorem zacr:dV none=none:=rfl
@[simp] theorem zacs{op:AOp}{e:Env}{h:Heap}{older:List Heap}:qX (orc T) T ⟨d,none,op⟩ e h older=dV (opD (orc T) T op e h older):=rfl
noncomputable def gD(T:Tbl)(x:AV)(want:Bool)(op:AOp)(e:Env)(h:Heap)(older:List Heap):Option (AV×Bool):=
 match x with
 | .b v=>if v=want then dV (opD (orc T) T op e h older) else some (.tup [],false)
 | .tup []=>some (.tup [],false)
 | _=>none
@[congr] theorem z8e{x x':AV}{want:Bool}{op:AOp}{e:Env}{h:Heap}{older:List Heap}(h1:x=x'):gD T x want op e h older=gD T x' want op e h older:=by rw[h1]
@[simp] theorem zact{t:Nat}{want:Bool}{op:AOp}{e:Env}{h:Heap}{older:List Heap}:qX (orc T) T ⟨d,some (t,want),op⟩ e h older=gD T (e.get t) want op e h older:=rfl
@[simp] theorem gD_b{v want:Bool}{op:AOp}{e:Env}{h:Heap}{older:List Heap}:gD T (.b v) want op e h older=if v=want then dV (opD (orc T) T op e h older) else some (.tup [],false):=rfl
@[simp] theorem zaf3{want:Bool}{op:AOp}{e:Env}{h:Heap}{older:List Heap}:gD T (.tup []) want op e h older=some (.tup [],false):=rfl
noncomputable def dC(o:Option AV)(op:AOp)(older:List Heap)(e:Env):Option AV:=o.bind fun x=>if Zd0 op e older x then some x else none
@[congr] theorem z8f{o o':Option AV}{op:AOp}{older:List Heap}{e:Env}(h1:o=o'):dC o op older e=dC o' op older e:=by rw[h1]
@[simp] theorem zaf4{x:AV}{op:AOp}{e:Env}:dC (some x) op [] e=some x:=by
 unfold dC;rw[Y4,zr9]
 rfl
theorem zy1{x:AV}{op:AOp}{h:Heap}{older:List Heap}{e:Env}(h1:Zg op e.get h=some x):dC (some x) op (h::older) e=dC (some x) op older e:=by
 unfold dC;rw[Y4,Y4,zpf h1]
theorem zbg{op:AOp}{h:Heap}{older:List Heap}{e:Env}(hf:op.free=true):((Zg op e.get h).bind fun x=>if Zd0 op e older x then some x else none)=Zg op e.get h:=by
 cases Zg op e.get h with
 | none=>rfl
 | some x=>rw[Y4,zpe hf];rfl
@[simp] theorem zahw{x}{e:Env}{h:Heap}{older:List Heap}:opD (orc T) T (.mov x) e h older=some (ev e.get x):=zbg (op:=.mov x) (h:=h) (older:=older) (e:=e) rfl
@[simp] theorem zahx{z y}{e:Env}{h:Heap}{older:List Heap}:opD (orc T) T (.app z (.c (.sl [] .nl)) y) e h older=Zf4 z (ev e.get y):=rfl
@[simp] theorem z8g{z:Nat}{els:List (List AV)}{f:Fl}:Zf4 z (.sl els f)=if (els.head?.all fun r=>r.length=z)∧els.length≤4294967296 then some (.sl els .an) else none:=rfl
@[simp] theorem zxg{z n y}:(AOp.app z (.t n) y).writes=true:=rfl
@[simp] theorem z14{z n y}:(AOp.app z (.t n) y).free=false:=rfl
@[simp] theorem zy2{z n y}:(AOp.app z (.t n) y).maker=true:=rfl
@[simp] theorem z15{z y}:(AOp.app z (.c (.sl [] .nl)) y).writes=false:=rfl
@[simp] theorem z8h{z y}:(AOp.app z (.c (.sl [] .nl)) y).free=true:=rfl
@[simp] theorem z4k{z y}:(AOp.app z (.c (.sl [] .nl)) y).maker=false:=rfl
@[simp] theorem zaf5{c a b}{e:Env}{h:Heap}{older:List Heap}:opD (orc T) T (.pick c a b) e h older=Zgf (ev e.get c) (ev e.get a) (ev e.get b):=zbg (op:=.pick c a b) (h:=h) (older:=older) (e:=e) rfl
@[simp] theorem zacu{zs ps}{e:Env}{h:Heap}{older:List Heap}:opD (orc T) T (.build zs ps) e h older=(Zf2 zs (ps.map fun p=>(p.1,p.2.1,ev e.get p.2.2))).map .agg:=zbg (op:=.build zs ps) (h:=h) (older:=older) (e:=e) rfl
@[simp] theorem zahy{o x y}{e:Env}{h:Heap}{older:List Heap}:opD (orc T) T (.bin o x y) e h older=Z8 o (ev e.get x) (ev e.get y):=zbg (op:=.bin o x y) (h:=h) (older:=older) (e:=e) rfl
@[simp] theorem zahz{g ls x y}{e:Env}{h:Heap}{older:List Heap}:opD (orc T) T (.eqs g ls x y) e h older=Zhb g ls (ev e.get x) (ev e.get y):=zbg (op:=.eqs g ls x y) (h:=h) (older:=older) (e:=e) rfl
@[simp] theorem zacv{g x}{e:Env}{h:Heap}{older:List Heap}:opD (orc T) T (.eqnil g x) e h older=Zej g (ev e.get x):=zbg (op:=.eqnil g x) (h:=h) (older:=older) (e:=e) rfl
@[simp] theorem zah0{g x y}{e:Env}{h:Heap}{older:List Heap}:opD (orc T) T (.eqb g x y) e h older=Zhc g (ev e.get x) (ev e.get y):=zbg (op:=.eqb g x y) (h:=h) (older:=older) (e:=e) rfl
@[simp] theorem D_un{o x}{e:Env}{h:Heap}{older:List Heap}:opD (orc T) T (.un o x) e h older=Zgg o (ev e.get x):=zbg (op:=.un o x) (h:=h) (older:=older) (e:=e) rfl
@[simp] theorem zaf6{k x}{e:Env}{h:Heap}{older:List Heap}:opD (orc T) T (.conv k x) e h older=Zbv k (ev e.get x):=zbg (op:=.conv k x) (h:=h) (older:=older) (e:=e) rfl
@[simp] theorem zacw{x lo hi}{e:Env}{h:Heap}{older:List Heap}:opD (orc T) T (.slstr x lo hi) e h older=Zek (ev e.get x) (evO e.get lo) (evO e.get hi):=zbg (op:=.slstr x lo hi) (h:=h) (older:=older) (e:=e) rfl
@[simp] theorem zah1{o n x}{e:Env}{h:Heap}{older:List Heap}:opD (orc T) T (.fld o n x) e h older=Zhd o n (ev e.get x):=zbg (op:=.fld o n x) (h:=h) (older:=older) (e:=e) rfl
@[simp] theorem zah2{x i}{e:Env}{h:Heap}{older:List Heap}:opD (orc T) T (.ixs x i) e h older=Zhe (ev e.get x) (ev e.get i):=zbg (op:=.ixs x i) (h:=h) (older:=older) (e:=e) rfl
@[simp] theorem zah3{z l n x i}{e:Env}{h:Heap}{older:List Heap}:opD (orc T) T (.ixa z l n x i) e h older=Zfc z l n (ev e.get x) (ev e.get i):=zbg (op:=.ixa z l n x i) (h:=h) (older:=older) (e:=e) rfl
@[simp] theorem zaf7{x}{e:Env}{h:Heap}{older:List Heap}:opD (orc T) T (.lens x) e h older=Zfm (ev e.get x):=zbg (op:=.lens x) (h:=h) (older:=older) (e:=e) rfl
@[simp] theorem zaf8{n}{e:Env}{h:Heap}{older:List Heap}:opD (orc T) T (.lenc n) e h older=some (.i .i64 n):=zbg (op:=.lenc n) (h:=h) (older:=older) (e:=e) rfl
@[simp] theorem D_mm{m xs}{e:Env}{h:Heap}{older:List Heap}:opD (orc T) T (.mm m xs) e h older=Zjo m (xs.map (ev e.get)):=zbg (op:=.mm m xs) (h:=h) (older:=older) (e:=e) rfl
@[simp] theorem zah4{x n}{e:Env}{h:Heap}{older:List Heap}:opD (orc T) T (.ext x n) e h older=Zhf n (ev e.get x):=zbg (op:=.ext x n) (h:=h) (older:=older) (e:=e) rfl
@[simp] theorem zaf9{n x}{e:Env}{h:Heap}{older:List Heap}:opD (orc T) T (.load n x) e h older=dC (Zez n h (ev e.get x)) (.load n x) older e:=rfl
@[simp] theorem zah5{z x lo hi mx}{e:Env}{h:Heap}{older:List Heap}:opD (orc T) T (.slc z x lo hi mx) e h older=dC (Zf3 z h (ev e.get x) (evO e.get lo) (evO e.get hi) (evO e.get mx)) (.slc z x lo hi mx) older e:=rfl
@[simp] theorem zah6{o x}{e:Env}{h:Heap}{older:List Heap}:opD (orc T) T (.fad o x) e h older=dC (Zgh o h (ev e.get x)) (.fad o x) older e:=rfl
@[simp] theorem zah7{z x i}{e:Env}{h:Heap}{older:List Heap}:opD (orc T) T (.iad z x i) e h older=dC (Zgi z h (ev e.get x) (ev e.get i)) (.iad z x i) older e:=rfl
@[simp] theorem zah8{z n x i}{e:Env}{h:Heap}{older:List Heap}:opD (orc T) T (.iaa z n x i) e h older=dC (Zgj z n h (ev e.get x) (ev e.get i)) (.iaa z n x i) older e:=rfl
@[simp] theorem zah9{x}{e:Env}{h:Heap}{older:List Heap}:opD (orc T) T (.len x) e h older=dC (Zgk h (ev e.get x)) (.len x) older e:=rfl
@[simp] theorem zaga{x}{e:Env}{h:Heap}{older:List Heap}:opD (orc T) T (.nilc x) e h older=dC (Ze0 h (ev e.get x)) (.nilc x) older e:=rfl
def dR(r:Option AV)(xs:List AV):Option AV:=if xs.all noRef then r else none
@[congr] theorem z8i{r r':Option AV}{xs:List AV}(h1:r=r'):dR r xs=dR r' xs:=by rw[h1]
@[simp] theorem zacx{r:AV}{xs:List AV}:dR (some r) xs=if xs.all noRef then some r else none:=rfl
theorem zao{u:Nat}{args:List Opd}{np nt:Nat}{res:List RV}{b:AX}{ex:Bool}{e:Env}{h:Heap}{older:List Heap}(hT:T u=some ⟨np,nt,res,b,none,ex⟩) :
  opD (orc T) T (.call u args) e h older=dR (Za T u ((args.map (ev e.get)).map (wkIf ex))) (args.map (ev e.get)):=by
 unfold dR Za;simp only[opD,hT,Option.isNone_none,Yc3]
@[simp] theorem zaia{z zs n ps}{e:Env}{h:Heap}{older:List Heap}:opD (orc T) T (.bsl z zs n ps) e h older=if (ps.map fun p=>(p.1,ev e.get p.2)).all (fun p=>noRef p.2) then (Zdo z zs n [] (ps.map fun p=>(p.1,ev e.get p.2))).map (·.1) else none:=rfl
@[congr] theorem zy3{tl l:List AO}{e e':Env}{h h':Heap}{clk clk':Nat}(h1:e=e')(h2:h=h')(h3:clk=clk'):Zds (orc T) T tl l e h clk=Zds (orc T) T tl l e' h' clk':=by rw[h1,h2,h3]
@[simp] theorem z4l{tl:List AO}{e:Env}{h:Heap}{clk:Nat}:Zds (orc T) T tl [] e h clk=Zd6 (orc T) T tl ⟨e,h,clk⟩:=rfl
@[simp] theorem z16{tl r:List AO}{o:AO}{e:Env}{h:Heap}{clk:Nat}:Zds (orc T) T tl (o::r) e h clk=bD (qX (orc T) T o e h []) fun x=>Zds (orc T) T tl r (Zm e o.dst x.1) h clk:=rfl
@[simp] theorem z4m{tl:List AO}{h0:Heap}{c0:Nat}{X:Heap}{e:Env}{h:Heap}{clk:Nat}:Zbc (orc T) T tl h0 c0 X [] e h clk=Zd6 (orc T) T tl ⟨e,h,clk⟩:=rfl
noncomputable def kM(T:Tbl)(tl:List AO)(h0:Heap)(c0:Nat)(X:Heap)(op:AOp)(d:Nat)(r:List AO)(e:Env)(h:Heap)(q:Option (AV×Heap×Nat)):Option St:=
 q.bind fun q=>if ((h.lookup (.loc d)).isNone&&Zh0 c0 op e q.2.1)=true then Zbc (orc T) T tl h0 c0 X r (Zm e (some d) q.1) (q.2.1++h) q.2.2 else none
@[simp] theorem zacy{tl:List AO}{h0:Heap}{c0:Nat}{X:Heap}{op:AOp}{d:Nat}{r:List AO}{e:Env}{h:Heap}{q:AV×Heap×Nat}:kM T tl h0 c0 X op d r e h (some q)=if ((h.lookup (.loc d)).isNone&&Zh0 c0 op e q.2.1)=true then Zbc (orc T) T tl h0 c0 X r (Zm e (some d) q.1) (q.2.1++h) q.2.2 else none:=rfl
noncomputable def kN(T:Tbl)(tl:List AO)(h0:Heap)(c0:Nat)(X:Heap)(op:AOp)(d:Nat)(r:List AO)(e:Env)(h:Heap)(q:Option (AV×Heap×Nat)):Option St:=
 q.bind fun q=>if Zh0 c0 op e (q.2.1.take 1)=true then Zbc (orc T) T tl h0 c0 X r (Zm e (some d) q.1) (q.2.1.take 1++h) q.2.2 else none
@[simp] theorem zacz{tl:List AO}{h0:Heap}{c0:Nat}{X:Heap}{op:AOp}{d:Nat}{r:List AO}{e:Env}{h:Heap}{q:AV×Heap×Nat}:kN T tl h0 c0 X op d r e h (some q)=if Zh0 c0 op e (q.2.1.take 1)=true then Zbc (orc T) T tl h0 c0 X r (Zm e (some d) q.1) (q.2.1.take 1++h) q.2.2 else none:=rfl
noncomputable def uX(T:Tbl)(w:Option (BId×Box))(tl:List AO)(h0:Heap)(c0:Nat)(X:Heap)(op:AOp)(d:Nat)(r:List AO)(e:Env)(h:Heap)(clk:Nat):Option St:=
 match w with
 | none=>kM T tl h0 c0 X op d r e h (stepW op (some d) e.get [] clk)
 | some p=>kN T tl h0 c0 X op d r e h (stepW op (some d) e.get [p] clk)
@[simp] theorem zac0{tl:List AO}{h0:Heap}{c0:Nat}{X:Heap}{op:AOp}{d:Nat}{r:List AO}{e:Env}{h:Heap}{clk:Nat}:uX T none tl h0 c0 X op d r e h clk=kM T tl h0 c0 X op d r e h (stepW op (some d) e.get [] clk):=rfl
@[simp] theorem zac1{tl:List AO}{h0:Heap}{c0:Nat}{X:Heap}{op:AOp}{d:Nat}{r:List AO}{e:Env}{h:Heap}{clk:Nat}{p:BId×Box}:uX T (some p) tl h0 c0 X op d r e h clk=kN T tl h0 c0 X op d r e h (stepW op (some d) e.get [p] clk):=rfl
@[simp] theorem z17{c0:Nat}{h0 X h:Heap}{zs:List AV}{e:Env}:Zh1 c0 h0 X h (.alloc zs) e=none:=rfl
@[simp] theorem z8j{c0:Nat}{h0 X h:Heap}{z:Nat}{zs:List AV}{l c:Opd}{e:Env}:Zh1 c0 h0 X h (.mks z zs l c) e=none:=rfl
@[simp] theorem z8k{c0:Nat}{h0 X h:Heap}{k:XOp}{xs:List Opd}{e:Env}:Zh1 c0 h0 X h (.xop k xs) e=none:=rfl
@[simp] theorem z8l{c0:Nat}{h0 X h:Heap}{z:Nat}{x y:Opd}{e:Env}:Zh1 c0 h0 X h (.app z x y) e=Zje c0 h0 X h (ev e.get x):=rfl
@[simp] theorem zac2{c0:Nat}{h0 X h:Heap}{l:List (List AV)}{f:Fl}:Zje c0 h0 X h (.sl l f)=none:=rfl
@[simp] theorem zac3{c0:Nat}{h0 X h:Heap}{b:BId}{g z o n:Nat}:Zje c0 h0 X h (.bs b g z o n)=Zjz c0 (h0.lookup b) (X.lookup b) b (h.lookup b):=rfl
@[simp] theorem z4n{c0:Nat}{b:BId}{x o:Box}:Zjz c0 none (some x) b (some o)=if o.gen<c0 then some (b,o) else none:=rfl
attribute [simp] Zlw
@[simp] theorem z4o{e:Env}:Zee [] e=[]:=rfl
@[simp] theorem z18{o:AO}{r:List AO}{e:Env}:Zee (o::r) e=match o.op with | .mov x=>Zee r (Zm e o.dst (ev e.get x)) | .app _ x _=>Zlw (ev e.get x)++Zee r (Zm e o.dst .dead) | _=>Zee r (Zm e o.dst .dead):=rfl
@[simp] theorem zy4{h:Heap}:Zen [] h=h:=rfl
@[simp] theorem zxh{b:BId}{ids:List BId}{h:Heap}:Zen (b::ids) h=h.filter fun p=>!(b::ids).contains p.1:=rfl
noncomputable def kB(T:Tbl)(tl:List AO)(h0:Heap)(c0:Nat)(X:Heap)(d:Nat)(r:List AO)(e:Env)(h:Heap)(q:Option (AV×Heap×Nat)):Option St:=
 q.bind fun q=>if q.2.1.all (fun p=>(h.lookup p.1).isNone)=true then Zbc (orc T) T tl h0 c0 X r (Zm e (some d) q.1) (q.2.1++h) q.2.2 else none
@[simp] theorem zac4{tl:List AO}{h0:Heap}{c0:Nat}{X:Heap}{d:Nat}{r:List AO}{e:Env}{h:Heap}{q:AV×Heap×Nat}:kB T tl h0 c0 X d r e h (some q)=if q.2.1.all (fun p=>(h.lookup p.1).isNone)=true then Zbc (orc T) T tl h0 c0 X r (Zm e (some d) q.1) (q.2.1++h) q.2.2 else none:=rfl
noncomputable def lX(T:Tbl)(b:Option (Nat×List Opd))(tl:List AO)(h0:Heap)(c0:Nat)(X:Heap)(o:AO)(r:List AO)(e:Env)(h:Heap)(clk:Nat):Option St:=
 match b with
 | some ua=>
  match o.guard,o.dst with
  | none,some d=>kB T tl h0 c0 X d r e h (Zew (orc T) T ua.1 (ua.2.map (ev e.get)) d clk)
  | _,_=>none
 | none=>bD (qX (orc T) T o e h0 []) fun x=>if Zhk c0 o.op e (gnA x.1)=true then Zbc (orc T) T tl h0 c0 X r (Zm e o.dst x.1) h clk else none
@[simp] theorem zac5{tl r:List AO}{h0:Heap}{c0:Nat}{X:Heap}{op:AOp}{dd u:Nat}{args:List Opd}{e:Env}{h:Heap}{clk:Nat}:lX T (some (u,args)) tl h0 c0 X ⟨some dd,none,op⟩ r e h clk=kB T tl h0 c0 X dd r e h (Zew (orc T) T u (args.map (ev e.get)) dd clk):=rfl
@[simp] theorem zac6{tl r:List AO}{h0:Heap}{c0:Nat}{X:Heap}{o:AO}{e:Env}{h:Heap}{clk:Nat}:lX T none tl h0 c0 X o r e h clk=bD (qX (orc T) T o e h0 []) fun x=>if Zhk c0 o.op e (gnA x.1)=true then Zbc (orc T) T tl h0 c0 X r (Zm e o.dst x.1) h clk else none:=rfl
noncomputable def tX(T:Tbl)(tl:List AO)(h0:Heap)(c0:Nat)(X:Heap)(r:List AO)(b:Bool)(e:Env)(q:Option Heap)(clk:Nat):Option St:=
 q.bind fun h=>if b=true then Zbc (orc T) T tl h0 c0 X r e h clk else none
@[simp] theorem zac7{tl:List AO}{h0:Heap}{c0:Nat}{X:Heap}{r:List AO}{e:Env}{h:Heap}{clk:Nat}:tX T tl h0 c0 X r true e (some h) clk=Zbc (orc T) T tl h0 c0 X r e h clk:=rfl
noncomputable def sX(T:Tbl)(b:Bool)(tl:List AO)(h0:Heap)(c0:Nat)(X:Heap)(o:AO)(r:List AO)(e:Env)(h:Heap)(clk:Nat):Option St:=
 match b with
 | true=>
  match o.guard,o.dst with
  | none,none=>(stepW o.op none e.get h clk).bind fun q=>if Zfs X o.op e=true then Zbc (orc T) T tl h0 c0 X r e q.2.1 q.2.2 else none
  | _,_=>none
 | false=>lX T o.op.lentN tl h0 c0 X o r e h clk
@[simp] theorem zac8{tl r:List AO}{h0:Heap}{c0:Nat}{X:Heap}{n:Nat}{x v:Opd}{e:Env}{h:Heap}{clk:Nat}:sX T true tl h0 c0 X ⟨none,none,.store n x v⟩ r e h clk=tX T tl h0 c0 X r (Zfs X (.store n x v) e) e (Zcv n h (ev e.get x) (ev e.get v)) clk:=by
 unfold sX tX;simp only[stepW];cases Zcv n h (ev e.get x) (ev e.get v)<;>rfl
@[simp] theorem z8m{tl r:List AO}{h0:Heap}{c0:Nat}{X:Heap}{o:AO}{e:Env}{h:Heap}{clk:Nat}:sX T false tl h0 c0 X o r e h clk=lX T o.op.lentN tl h0 c0 X o r e h clk:=rfl
noncomputable def Zlx(r:Option (AV×Heap))(d clk:Nat):Option (AV×Heap×Nat):=
 r.bind fun r=>
  let hb':=r.2.map fun p=>(Za2 [] d p.1,Zaf true (Za2 [] d) (Zbd [] clk) p.2)
  let r':=rlA (Za2 [] d) (Zbd [] clk) r.1
  if (hb'.map (·.1)).Nodup∧geB clk (gnA r')=true∧geH clk hb'=true then some (r',hb',clk+(r.2.length+2)) else none
@[simp] theorem zy5{r:AV×Heap}{dd clk:Nat}:Zlx (some r) dd clk=if ((r.2.map fun p=>(Za2 [] dd p.1,Zaf true (Za2 [] dd) (Zbd [] clk) p.2)).map (·.1)).Nodup∧geB clk (gnA (rlA (Za2 [] dd) (Zbd [] clk) r.1))=true∧geH clk (r.2.map fun p=>(Za2 [] dd p.1,Zaf true (Za2 [] dd) (Zbd [] clk) p.2))=true then some (rlA (Za2 [] dd) (Zbd [] clk) r.1,r.2.map fun p=>(Za2 [] dd p.1,Zaf true (Za2 [] dd) (Zbd [] clk) p.2),clk+(r.2.length+2)) else none:=rfl
noncomputable def mX(T:Tbl)(b:Bool)(tl:List AO)(h0:Heap)(c0:Nat)(X:Heap)(o:AO)(r:List AO)(e:Env)(h:Heap)(clk:Nat):Option St:=
 match b with
 | true=>
  match o.guard,o.dst with
  | none,some d=>uX T (Zh1 c0 h0 X h o.op e) tl h0 c0 X o.op d r e h clk
  | _,_=>none
 | false=>sX T o.op.isStore tl h0 c0 X o r e h clk
@[simp] theorem z19{tl r:List AO}{h0:Heap}{c0:Nat}{X:Heap}{o:AO}{e:Env}{h:Heap}{clk:Nat}:Zbc (orc T) T tl h0 c0 X (o::r) e h clk=mX T (AOp.maker o.op) tl h0 c0 X o r e h clk:=by
 unfold mX;simp only[Zbc];cases AOp.maker o.op with
 | false=>
  unfold sX;simp only;cases AOp.isStore o.op with
  | true=>
   obtain⟨dd,g,op⟩:=o;cases g<;>cases dd<;>rfl
  | false=>
   unfold lX;simp only;cases AOp.lentN o.op with
   | none=>rfl
   | some ua=>
    obtain⟨dd,g,op⟩:=o;cases g<;>cases dd<;>rfl
 | true=>
  obtain⟨dd,g,op⟩:=o;cases g<;>cases dd<;>rfl
@[simp] theorem zac9{tl r:List AO}{h0:Heap}{c0:Nat}{X:Heap}{op:AOp}{dd:Nat}{e:Env}{h:Heap}{clk:Nat}:mX T true tl h0 c0 X ⟨some dd,none,op⟩ r e h clk=uX T (Zh1 c0 h0 X h op e) tl h0 c0 X op dd r e h clk:=rfl
@[simp] theorem z8n{tl r:List AO}{h0:Heap}{c0:Nat}{X:Heap}{o:AO}{e:Env}{h:Heap}{clk:Nat}:mX T false tl h0 c0 X o r e h clk=sX T o.op.isStore tl h0 c0 X o r e h clk:=rfl
@[simp] theorem zada{hd tl:List AO}:evX (orc T) T k (.drawM hd tl) st=stX (Zbc (orc T) T tl (Zen (Zee hd st.env) st.heap) st.clk st.heap hd st.env st.heap st.clk):=rfl
@[simp] theorem zaib{n x}:opX (orc T) T (.ifc n x) d st=some ⟨Zm st.env d (.ifc (Zu T n) (ev st.env.get x)),st.heap,st.clk⟩:=rfl
noncomputable def iS(T:Tbl)(x:AV)(nm:String)(n u:Nat)(args:List AV)(d:Option Nat)(st:St):Option St:=
 match x with
 | .ifc t y=>if t=Zu T n∧(nm,u)∈Zb9 T n then Zd (orc T) T u (y::args) d st else none
 | .fnv f x=>if nm="()"∧f=Zu T n∧Zg8 T n=some u then Zd (orc T) T u (x::args) d st else none
 | .fnp f id g z i o=>if nm="()"∧f=Zu T n∧Zg8 T n=some u then Zd (orc T) T u (args++[.ptr id g z i o]) d st else none
 | _=>none
@[simp] theorem zaic{nm n u r args}:opX (orc T) T (.inv nm n u r args) d st=iS T (ev st.env.get r) nm n u (args.map (ev st.env.get)) d st:=by
 simp only[opX];cases ev st.env.get r<;>rfl
@[simp] theorem zaid{n x}{e:Env}{h:Heap}{older:List Heap}:opD (orc T) T (.ifc n x) e h older=some (.ifc (Zu T n) (ev e.get x)):=rfl
noncomputable def dI(T:Tbl)(u:Nat)(xs:List AV):Option AV:=
 match T u with
 | none=>none
 | some af=>if (af.lent.isNone&&xs.all noRef)=true then ((orc T).call u (xs.map (wkIf af.exact)) []).map (·.1) else none
noncomputable def iD(T:Tbl)(x:AV)(nm:String)(n u:Nat)(args:List AV):Option AV:=
 match x with
 | .ifc t y=>if t=Zu T n∧(nm,u)∈Zb9 T n then dI T u (drp1 y::args) else none
 | _=>none
@[simp] theorem zaie{nm n u r args}{e:Env}{h:Heap}{older:List Heap}:opD (orc T) T (.inv nm n u r args) e h older=iD T (ev e.get r) nm n u (args.map (ev e.get)):=by
 simp only[opD];cases ev e.get r<;>rfl
@[simp] theorem zadb{hd tl:List AO}:evX (orc T) T k (.drawT hd tl) st=stX (Zds (orc T) T tl hd st.env st.heap st.clk):=rfl
attribute [simp] Zem Za7 Zi3 Zi4 Ziv Zhx Zhy ghS Zc1 Zc0 Zk3 Zdr Zci Zce kids Zaf
attribute [simp] gnA gnR Zhk Zh0 Zfp Zdv AOp.maker drp1 drpC AOp.lentN AOp.isStore Zfs geB geH
attribute [simp] AOp.writes AOp.free Zf3 Zep Zeu Zcv Zel Zf5
attribute [simp] AOp.callN Zgu Zb2 Zhw shR
end
end
section
open Go.RowKit
def Zf8(a b:Nat):Nat:=(((a:Int)-b)%4294967296).toNat
def Zi5(a b:Nat):Nat:=(((a:Int)-b)%18446744073709551616).toNat
def Zj3(a b:Nat):Nat:=(((a:Int)-b)%256).toNat
theorem zy6{a b:Nat}(h:b≤a)(h2:a<256):Zj3 a b=a-b:=by unfold Zj3;omega
theorem zsa(n:Int):IntKind.wrap .u32 n=(((n%4294967296).toNat:Nat):Int):=by
 grind[IntKind.wrap,IntKind.signed,IntKind.bits]
theorem zkq(n:Int):IntKind.wrap .u64 n=(((n%18446744073709551616).toNat:Nat):Int):=by
 grind[IntKind.wrap,IntKind.signed,IntKind.bits]
theorem zvk(n:Int):IntKind.wrap .u8 n=(((n%256).toNat:Nat):Int):=by
 grind[IntKind.wrap,IntKind.signed,IntKind.bits]
@[simp] theorem z4p(n:Int)(h1:-9223372036854775808≤n)(h2:n<9223372036854775808):IntKind.wrap .i64 n=n:=zac n ⟨h1,h2⟩
@[simp] theorem z2a(a b:Nat):((a:Int)+(b:Int)).toNat=a+b:=by omega
@[simp] theorem zy7(a b:Nat):(0:Int)≤(a:Int)+(b:Int):=by omega
@[simp] theorem zy8(a:Nat):(0:Int)≤(a:Int)+1:=by omega
@[simp] theorem zy9(a b:Nat):((a:Int)+(b:Int)+1).toNat=a+b+1:=by omega
@[simp] theorem zxi(a b:Nat):(0:Int)≤(a:Int)+(b:Int)+1:=by omega
section
variable(a b:Nat)(k:IntKind)(n:Int)
@[simp] theorem zaif:Z8 .add (u32 a) (u32 b)=some (u32 ((a+b)%4294967296)):=by
 simp only[u32,znk,←Ya3,zer]
@[simp] theorem zaig:Z8 .add (u64 a) (u64 b)=some (u64 ((a+b)%18446744073709551616)):=by
 simp only[u64,znk,←Ya3,zdt]
@[simp] theorem zaih:Z8 .mul (u32 a) (u32 b)=some (u32 ((a*b)%4294967296)):=by
 simp only[u32,znm,←Yc5,zer]
@[simp] theorem zaii:Z8 .mul (u64 a) (u64 b)=some (u64 ((a*b)%18446744073709551616)):=by
 simp only[u64,znm,←Yc5,zdt]
@[simp] theorem zagb:Z8 .sub (u32 a) (u32 b)=some (u32 (Zf8 a b)):=by
 simp only[u32,znl,zsa,Zf8]
@[simp] theorem zaij:Z8 .sub (u8 a) (u8 b)=some (u8 (Zj3 a b)):=by
 simp only[u8,znl,zvk,Zj3]
theorem zvl:((a:Int).tdiv (b:Int))=((a/b:Nat):Int):=by rw[Int.ofNat_tdiv]
theorem zvm:((a:Int).tmod (b:Int))=((a%b:Nat):Int):=by rw[Int.ofNat_tmod]
@[simp] theorem zaik:Z8 .quo (u64 a) (u64 b)=if b=0 then none else some (u64 (a/b%18446744073709551616)):=by
 simp only[u64,zu5,zvl,zdt,Int.natCast_eq_zero]
@[simp] theorem zail:Z8 .rem (u64 a) (u64 b)=if b=0 then none else some (u64 (a%b)):=by
 simp only[u64,zu6,zvm,Int.natCast_eq_zero]
theorem bvn(w:Nat):(BitVec.ofInt w (a:Int)).toNat=a%2^w:=by simp
@[simp] theorem or32:Z8 .or (u32 a) (u32 b)=some (u32 ((a ||| b)%4294967296)):=by
 have h:=Nat.or_mod_two_pow (a:=a) (b:=b) (n:=32);have e:((BitVec.ofInt 32 (a:Int) ||| BitVec.ofInt 32 (b:Int)).toNat)=(a ||| b)%2^32:=by rw[BitVec.toNat_or,bvn,bvn,←h]
 show some (AV.i .u32 (IntKind.wrap .u32 (((BitVec.ofInt 32 (a:Int) ||| BitVec.ofInt 32 (b:Int)).toNat:Nat):Int)))=_;rw[e,zer];simp[u32]
@[simp] theorem or64:Z8 .or (u64 a) (u64 b)=some (u64 ((a ||| b)%18446744073709551616)):=by
 have h:=Nat.or_mod_two_pow (a:=a) (b:=b) (n:=64);have e:((BitVec.ofInt 64 (a:Int) ||| BitVec.ofInt 64 (b:Int)).toNat)=(a ||| b)%2^64:=by rw[BitVec.toNat_or,bvn,bvn,←h]
 show some (AV.i .u64 (IntKind.wrap .u64 (((BitVec.ofInt 64 (a:Int) ||| BitVec.ofInt 64 (b:Int)).toNat:Nat):Int)))=_;rw[e,zdt];simp[u64]
theorem zsb(m:Nat):((a:Int)*2^m)=((a*2^m:Nat):Int):=by simp
theorem zh4(m:Nat):((a:Int).fdiv (2^m))=((a/2^m:Nat):Int):=by
 grind
@[simp] theorem zadc:Z8 .shl (u64 a) (.i k n)=if n<0 then none else some (u64 (a*2^(min n.toNat 64)%18446744073709551616)):=by
 simp only[u64,Z8,IntKind.bits,zsb,zdt]
@[simp] theorem zaim:Z8 .shr (u32 a) (.i k n)=if n<0 then none else some (u32 (a/2^(min n.toNat 32))):=by
 simp only[u32,Z8,IntKind.bits,zh4]
@[simp] theorem zadd:Z8 .shr (u64 a) (.i k n)=if n<0 then none else some (u64 (a/2^(min n.toNat 64))):=by
 simp only[u64,Z8,IntKind.bits,zh4]
@[simp] theorem zxj:¬ ((b:Int)<0):=by omega
@[simp] theorem zagc:Z8 .shl (u64 a) (u64 b)=some (u64 (a*2^(min b 64)%18446744073709551616)):=by
 rw[show u64 b=.i .u64 (b:Int) from rfl,zadc,if_neg (zxj b),Ych]
@[simp] theorem zagd:Z8 .shr (u64 a) (u64 b)=some (u64 (a/2^(min b 64))):=by
 rw[show u64 b=.i .u64 (b:Int) from rfl,zadd,if_neg (zxj b),Ych]
@[simp] theorem zain:Z8 .eql (u32 a) (u32 b)=some (.b (decide (a=b))):=by
 simp only[u32,znn,Option.some.injEq,AV.b.injEq];rw[Ybs];simp[Ycb]
@[simp] theorem zaio:Z8 .neq (u32 a) (u32 b)=some (.b (!decide (a=b))):=by
 simp only[u32,zno,Option.some.injEq,AV.b.injEq];rw[Ybs];simp[Ycb]
@[simp] theorem zaip:Z8 .lss (u32 a) (u32 b)=some (.b (decide (a<b))):=by simp[u32,znp]
@[simp] theorem zaiq:Z8 .leq (u32 a) (u32 b)=some (.b (decide (a≤b))):=by simp[u32,znq]
@[simp] theorem zair:Z8 .gtr (u32 a) (u32 b)=some (.b (decide (b<a))):=by simp[u32,znr]
@[simp] theorem zais:Z8 .geq (u32 a) (u32 b)=some (.b (decide (b≤a))):=by simp[u32,zns]
@[simp] theorem zait:Z8 .neq (u64 a) (u64 b)=some (.b (!decide (a=b))):=by
 simp only[u64,zno,Option.some.injEq,AV.b.injEq];rw[Ybs];simp[Ycb]
@[simp] theorem eql8:Z8 .eql (u8 a) (u8 b)=some (.b (decide (a=b))):=by
 simp only[u8,znn,Option.some.injEq,AV.b.injEq];rw[Ybs];simp[Ycb]
@[simp] theorem lss8:Z8 .lss (u8 a) (u8 b)=some (.b (decide (a<b))):=by simp[u8,znp]
@[simp] theorem leq8:Z8 .leq (u8 a) (u8 b)=some (.b (decide (a≤b))):=by simp[u8,znq]
@[simp] theorem gtr8:Z8 .gtr (u8 a) (u8 b)=some (.b (decide (b<a))):=by simp[u8,znr]
@[simp] theorem geq8:Z8 .geq (u8 a) (u8 b)=some (.b (decide (b≤a))):=by simp[u8,zns]
@[simp] theorem z2b:Zbv .u64 (u32 a)=some (u64 (a%18446744073709551616)):=by simp only[u32,u64,Zbv,zdt]
@[simp] theorem z2c:Zbv .u32 (u64 a)=some (u32 (a%4294967296)):=by simp only[u32,u64,Zbv,zer]
@[simp] theorem z4q:Zbv .u32 (u8 a)=some (u32 (a%4294967296)):=by simp only[u32,u8,Zbv,zer]
@[simp] theorem z4r:Zbv .u64 (.i .i64 n)=some (u64 (n%18446744073709551616).toNat):=by simp only[u64,Zbv,zkq]
@[simp] theorem z4s:Zbv .i64 (u32 a)=some (.i .i64 (IntKind.wrap .i64 a)):=rfl
@[simp] theorem z4t:Zbv .i64 (u64 a)=some (.i .i64 (IntKind.wrap .i64 a)):=rfl
@[simp] theorem z8o:Zbv .i64 (u8 a)=some (.i .i64 (IntKind.wrap .i64 a)):=rfl
@[simp] theorem z8p:Zbv .i64 (.i .i64 n)=some (.i .i64 (IntKind.wrap .i64 n)):=rfl
@[simp] theorem zaiu:Zgg .neg (u64 a)=some (u64 (Zi5 0 a)):=by simp[u64,Zgg,zkq,Zi5]
@[simp] theorem zaiv:Zgg .neg (.i .i64 n)=some (.i .i64 (IntKind.wrap .i64 (0-n))):=rfl
@[simp] theorem zaiw(t:Bool):Zgg .not (.b t)=some (.b (!t)):=rfl
@[simp] theorem zage(m:Nat)(y:Int):bnd (u8 m) y=if 0≤(m:Int)∧(m:Int)≤y then some m else none:=rfl
@[simp] theorem zade(m:Nat)(y:Int):bnd (u32 m) y=if 0≤(m:Int)∧(m:Int)≤y then some m else none:=rfl
@[simp] theorem zadf(m:Nat)(y:Int):bnd (u64 m) y=if 0≤(m:Int)∧(m:Int)≤y then some m else none:=rfl
attribute [simp] Zek Zgj Zfc
@[simp] theorem zagf(l:List UInt8):Zhe (.s l) (.i k n)=if 0≤n∧n<l.length then (l[n.toNat]?).map fun b=>u8 b.toNat else none:=rfl
@[simp] theorem z8q(k':IntKind)(x y:Int):Zfl .int (.i k x) (.i k' y)=if k=k' then some (x == y) else none:=rfl
end
@[simp] theorem zadg(a b:Nat):u32 a=u32 b↔a=b:=by simp[u32,Ycb]
@[simp] theorem zadh(a b:Nat):u64 a=u64 b↔a=b:=by simp[u64,Ycb]
theorem zal(x:UInt32):x.toNat<4294967296:=x.toNat_lt
@[simp] theorem zadi(x:UInt32):x.toNat<4294967296:=x.toNat_lt
def w32(n:Nat):UInt32:=UInt32.ofNat n
theorem zba(n:Nat):(w32 n).toNat=n%4294967296:=UInt32.toNat_ofNat' ..
theorem zah{n:Nat}(h:n<4294967296):(w32 n).toNat=n:=by rw[zba,Ys h]
def Zb(l:List UInt32):List (List AV):=l.map fun x=>[u32 x.toNat]
def ints(l:List Int):List (List AV):=l.map fun x=>[.i .i64 x]
def u8s(l:List UInt8):List (List AV):=l.map fun x=>[u8 x.toNat]
section
variable(l m:List UInt32)(x:UInt32)
@[simp] theorem z8r:Zb []=[]:=rfl
@[simp] theorem zza:(Zb l).length=l.length:=by simp[Zb]
@[simp] theorem zadj:wkL (Zb l)=Zb l:=by
 rw[zbt];simp[Zb,wkR]
@[simp] theorem z4u(n:Nat):(Zb l).take n=Zb (l.take n):=by simp[Zb]
@[simp] theorem z4v(n:Nat):(Zb l).drop n=Zb (l.drop n):=by simp[Zb]
@[simp] theorem zzb:Zb l++Zb m=Zb (l++m):=by simp[Zb]
@[simp] theorem z4w(n:Nat)(h:n<4294967296):Zb l++[[u32 n]]=Zb (l++[w32 n]):=by simp[Zb,zah h]
@[simp] theorem u32s_getElem?(i:Nat):(Zb l)[i]? = (l[i]?).map fun x=>[u32 x.toNat]:=by simp[Zb]
@[simp] theorem zxk(i:Nat)(h:i<(Zb l).length):(Zb l)[i]=[u32 (l[i]'(by simpa using h)).toNat]:=by simp[Zb]
theorem zbj(i:Nat)(n:Nat)(h:n<4294967296):(Zb l).set i [u32 n]=Zb (l.set i (w32 n)):=by simp[Zb,Ycc,zah h]
@[simp] theorem z4x(i n:Nat):(Zb l).set i [u32 (n%4294967296)]=Zb (l.set i (w32 n)):=by simp[Zb,Ycc,zba]
@[simp] theorem z8s(n:Nat):List.replicate n [u32 0]=Zb (List.replicate n 0):=by simp[Zb]
@[simp] theorem z4y(z:Nat):((Zb l).head?.all fun r=>decide (r.length=z))=(l.isEmpty || decide (z=1)):=by
 cases l<;>simp[Zb,eq_comm]
end
end
section
open Go.RowKit
abbrev mv(d s:Nat):AO:=⟨some d,none,.mov (.t s)⟩
abbrev rg(d:Nat)(op:AOp):AO:=⟨some d,none,op⟩
abbrev gd(d t:Nat)(b:Bool)(op:AOp):AO:=⟨some d,some (t,b),op⟩
abbrev so(op:AOp):AO:=⟨none,none,op⟩
section
variable(T:Tbl)(u:Nat)(ex:Bool)(ms:List Bool)(xs:List AV)(d:Option Nat)(st:St)(ps:List Opd)(e:Env)
@[simp] noncomputable def cP:Option St:=bL (Zjf st.heap xs) fun ys=>cR (Za T u (ys.map (wkIf ex))) xs d st
@[simp] noncomputable def cL:Option St:=bL (Zeq st.heap ms xs) fun ys=>Zef ys (Zj (Za4 ms xs) st.heap) (Zc0 (Zj (Za4 ms xs) st.heap) 40 (Zcj ms xs) []) T u ex d st
@[simp] noncomputable def dP:Option AV:=dR (Za T u ((ps.map (ev e.get)).map (wkIf ex))) (ps.map (ev e.get))
end
section
variable{T:Tbl}{k:Nat}
theorem zau{id:Nat}{g2:Gh}{c:AX}(S:Nat→St)(n:Nat)(G:Option (Ex×St))(step:∀i,i<n→evX (orc T) T k c (S i)=some (.n,S (i+1)))
  (fin:Ze5 (evX (orc T) T k c (S n))=true∧Ze4 k id g2 (evX (orc T) T k c (S n))=G):Zv T k id g2 c (S 0)=G:=
 za1 S (fun i=>i≤n) (fun i=>n-i) (fun _=>G) (by
  intro i hi;by_cases h:i<n
  ·exact .inl ⟨i+1,h,by show n-(i+1)<n-i;omega,step i h,rfl⟩
  ·have:i=n:=by omega
   subst this;exact .inr fin) 0 (Yu _)
theorem za3{id:Nat}{g2:Gh}{c:AX}(S:Nat→St)(n:Nat)(G:Nat→Option (Ex×St))
  (step:∀i,i<n→(evX (orc T) T k c (S i)=some (.n,S (i+1))∧G (i+1)=G i)∨(Ze5 (evX (orc T) T k c (S i))=true∧Ze4 k id g2 (evX (orc T) T k c (S i))=G i))
  (fin:Ze5 (evX (orc T) T k c (S n))=true∧Ze4 k id g2 (evX (orc T) T k c (S n))=G n):Zv T k id g2 c (S 0)=G 0:=
 za1 S (fun i=>i≤n) (fun i=>n-i) G (by
  intro i hi;by_cases h:i<n
  ·rcases step i h with ⟨h1,h2⟩ | h1
   ·exact .inl ⟨i+1,h,by show n-(i+1)<n-i;omega,h1,h2⟩
   ·exact .inr h1
  ·have:i=n:=by omega
   subst this;exact .inr fin) 0 (Yu _)
end
theorem zb8{i n:Nat}(h:i<n)(hn:n≤4294967296):IntKind.wrap .i64 ((i:Int)+1)=((i+1:Nat):Int):=zac _ (by omega)
end
def b115:AX:=
 (.seq
 (.reg [rg 6 (.mov (.c (u32 0))),rg 7 (.mov (.c (u32 0)))])
 (.seq
 (.reg [mv 8 0,mv 9 1,rg 10 (.bin .add (.t 8) (.t 9)),mv 6 10])
 (.seq
 (.seq
 (.reg [mv 11 6,mv 12 0,rg 13 (.bin .lss (.t 11) (.t 12))])
 (.cond (.t 13)
 (.reg [mv 14 7,rg 15 (.bin .add (.t 14) (.c (u32 1))),mv 7 15])
 .skip))
 (.seq
 (.reg [mv 16 6,mv 17 2,rg 18 (.bin .add (.t 16) (.t 17)),mv 6 18])
 (.seq
 (.seq
 (.reg [mv 19 6,mv 20 2,rg 21 (.bin .lss (.t 19) (.t 20))])
 (.cond (.t 21)
 (.reg [mv 22 7,rg 23 (.bin .add (.t 22) (.c (u32 1))),mv 7 23])
 .skip))
 (.seq
 (.reg [mv 24 6,mv 25 7,mv 6 24,mv 7 25])
 (.pre (.norm false [6,7]) .ret)))))))
def b116:AX:=
 (.seq
 (.reg [rg 6 (.mov (.c (u32 0))),rg 7 (.mov (.c (u32 0)))])
 (.seq
 (.reg [mv 8 0,mv 9 1,rg 10 (.bin .sub (.t 8) (.t 9)),mv 6 10])
 (.seq
 (.seq
 (.reg [mv 11 0,mv 12 1,rg 13 (.bin .lss (.t 11) (.t 12))])
 (.cond (.t 13)
 (.reg [mv 14 7,rg 15 (.bin .add (.t 14) (.c (u32 1))),mv 7 15])
 .skip))
 (.seq
 (.seq
 (.reg [mv 16 6,mv 17 2,rg 18 (.bin .lss (.t 16) (.t 17))])
 (.cond (.t 18)
 (.reg [mv 19 7,rg 20 (.bin .add (.t 19) (.c (u32 1))),mv 7 20])
 .skip))
 (.seq
 (.reg [mv 21 6,mv 22 2,rg 23 (.bin .sub (.t 21) (.t 22)),mv 24 7,mv 6 23,mv 7 24])
 (.pre (.norm false [6,7]) .ret))))))
def b117:AX:=
 (.seq
 (.reg [rg 8 (.mov (.c (u32 0))),rg 9 (.mov (.c (u32 0)))])
 (.seq
 (.reg [mv 11 0,rg 12 (.conv .u64 (.t 11)),mv 13 1,rg 14 (.conv .u64 (.t 13)),rg 15 (.bin .mul (.t 12) (.t 14)),mv 16 2,rg 17 (.conv .u64 (.t 16)),rg 18 (.bin .add (.t 15) (.t 17)),mv 19 3,rg 20 (.conv .u64 (.t 19)),rg 21 (.bin .add (.t 18) (.t 20)),mv 10 21])
 (.seq
 (.reg [mv 22 10,rg 23 (.bin .shr (.t 22) (.c (u64 32))),rg 24 (.conv .u32 (.t 23)),mv 25 10,rg 26 (.conv .u32 (.t 25)),mv 8 24,mv 9 26])
 (.pre (.norm false [8,9]) .ret))))
def b118:AX:=
 (.seq
 (.reg [rg 6 (.mov (.c (u32 0))),rg 7 (.mov (.c (u32 0))),rg 8 (.mov (.c (.b false)))])
 (.seq
 (.seq
 (.reg [mv 10 0,mv 11 2,rg 12 (.bin .geq (.t 10) (.t 11))])
 (.cond (.t 12)
 (.seq
 (.reg [rg 6 (.mov (.c (u32 0))),rg 7 (.mov (.c (u32 0))),rg 8 (.mov (.c (.b false)))])
 (.pre (.norm false [6,7,8]) .ret))
 .skip))
 (.seq
 (.reg [mv 13 0,rg 14 (.conv .u64 (.t 13)),rg 15 (.bin .shl (.t 14) (.c (u64 32))),mv 16 1,rg 17 (.conv .u64 (.t 16)),rg 18 (.bin .or (.t 15) (.t 17)),mv 9 18])
 (.seq
 (.drawT [mv 19 9,mv 20 2,rg 21 (.conv .u64 (.t 20)),rg 22 (.bin .quo (.t 19) (.t 21)),rg 23 (.conv .u32 (.t 22)),mv 24 9,mv 25 2,rg 26 (.conv .u64 (.t 25)),rg 27 (.bin .rem (.t 24) (.t 26)),rg 28 (.conv .u32 (.t 27)),mv 6 23]
 [mv 7 28,rg 8 (.mov (.c (.b true)))])
 (.pre (.norm false [6,7,8]) .ret)))))
def l91_0:AX:=
 (.note
 (.seq
 (.seq
 (.reg [mv 5 4,rg 6 (.bin .gtr (.t 5) (.c (.i .i64 0)))])
 (.cond (.t 6)
 .skip
 (.exit 0)))
 (.seq
 (.block 1
 (.seq
 (.reg [mv 9 0,mv 10 4,rg 11 (.bin .shr (.t 9) (.t 10)),rg 12 (.bin .neq (.t 11) (.c (u32 0)))])
 (.cond (.t 12)
 (.seq
 (.reg [mv 13 0,mv 14 4,rg 15 (.bin .shr (.t 13) (.t 14)),mv 0 15])
 (.reg [mv 16 3,mv 17 4,rg 18 (.bin .add (.t 16) (.t 17)),mv 3 18]))
 .skip)))
 (.reg [mv 7 4,rg 8 (.bin .quo (.t 7) (.c (.i .i64 2))),mv 4 8])))
 (.norm false [0,3,4]))
def b91:AX:=
 (.seq
 (.reg [rg 2 (.mov (.c (.i .i64 0)))])
 (.seq
 (.reg [rg 3 (.mov (.c (.i .i64 0)))])
 (.seq
 (.seq
 (.reg [rg 4 (.mov (.c (.i .i64 16)))])
 (.lp 0 (.norm false [0,3,4]) l91_0 (.norm false [0,3])))
 (.seq
 (.reg [mv 19 3,mv 20 0,rg 21 (.conv .i64 (.t 20)),rg 22 (.bin .add (.t 19) (.t 21)),mv 2 22])
 (.pre (.norm false [2]) .ret)))))
def row115:AFx:=⟨3,26,[.t 6,.t 7],b115,none,false⟩
def row116:AFx:=⟨3,25,[.t 6,.t 7],b116,none,false⟩
def row117:AFx:=⟨4,27,[.t 8,.t 9],b117,none,false⟩
def row118:AFx:=⟨3,29,[.t 6,.t 7,.t 8],b118,none,false⟩
def row91:AFx:=⟨1,23,[.t 2],b91,none,false⟩
class Zy (T:Tbl):Prop where
 h115:T 115=some row115
 h116:T 116=some row116
 h117:T 117=some row117
 h118:T 118=some row118
 h91:T 91=some row91
section
variable{T:Tbl}[Zy T]{d:Option Nat}{st:St}
@[simp] theorem x115(xs:List AV):Zd (orc T) T 115 xs d st=cP T 115 false xs d st:=zaa Zy.h115
@[simp] theorem x116(xs:List AV):Zd (orc T) T 116 xs d st=cP T 116 false xs d st:=zaa Zy.h116
@[simp] theorem x117(xs:List AV):Zd (orc T) T 117 xs d st=cP T 117 false xs d st:=zaa Zy.h117
@[simp] theorem x118(xs:List AV):Zd (orc T) T 118 xs d st=cP T 118 false xs d st:=zaa Zy.h118
@[simp] theorem x91(xs:List AV):Zd (orc T) T 91 xs d st=cP T 91 false xs d st:=zaa Zy.h91
end
section
variable{T:Tbl}[Zy T]
theorem zv6(x y c:UInt32):Za T 115 [u32 x.toNat,u32 y.toNat,u32 c.toNat] =
  some (.tup [u32 (w32 (x.toNat+y.toNat+c.toNat)).toNat,u32 (w32 ((x.toNat+y.toNat+c.toNat)/4294967296)).toNat]):=by
 have hx:=zal x;have hy:=zal y;have hc:=zal c;rw[zab Zy.h115 rfl,b115];simp[zba]
 repeat' split
 all_goals simp
 all_goals omega
theorem zv7(x y b:UInt32):Za T 116 [u32 x.toNat,u32 y.toNat,u32 b.toNat] =
  some (.tup [u32 (w32 (x.toNat+8589934592-(y.toNat+b.toNat))).toNat,u32 (w32 (2-(x.toNat+8589934592-(y.toNat+b.toNat))/4294967296)).toNat]):=by
 have hx:=zal x;have hy:=zal y;have hb:=zal b;rw[zab Zy.h116 rfl,b116];by_cases h1:x.toNat<y.toNat <;>
 by_cases h2:Zf8 x.toNat y.toNat<b.toNat <;>
 ·simp[h1,h2,zba];unfold Zf8 at *
  omega
theorem zg3{a b:Nat}(ha:a<4294967296)(hb:b<4294967296):a*b≤18446744065119617025:=by
 have:a*b≤4294967295*4294967295:=Ydc (by omega) (by omega);omega
theorem zn9(x y c d:UInt32):Za T 117 [u32 x.toNat,u32 y.toNat,u32 c.toNat,u32 d.toNat] =
  some (.tup [u32 (w32 ((x.toNat*y.toNat+c.toNat+d.toNat)/4294967296)).toNat,u32 (w32 (x.toNat*y.toNat+c.toNat+d.toNat)).toNat]):=by
 have hx:=zal x;have hy:=zal y;have hc:=zal c;have hd:=zal d;have hm:=zg3 hx hy;rw[zab Zy.h117 rfl,b117];simp[zba];generalize x.toNat*y.toNat=m at *
 omega
theorem zoa(hi lo y:UInt32):Za T 118 [u32 hi.toNat,u32 lo.toNat,u32 y.toNat] =
  some (if y.toNat≤hi.toNat then .tup [u32 0,u32 0,.b false]
   else .tup [u32 (w32 ((hi.toNat*4294967296+lo.toNat)/y.toNat)).toNat,u32 (w32 ((hi.toNat*4294967296+lo.toNat)%y.toNat)).toNat,.b true]):=by
 have hx:=zal hi;have hy:=zal y;have hl:=zal lo;rw[zab Zy.h118 rfl,b118];by_cases h1:y.toNat≤hi.toNat
 ·simp[h1]
 ·have h2:¬ y.toNat=0:=by omega
  simp[h1,h2,zba];have e:hi.toNat*4294967296%18446744073709551616=hi.toNat*4294967296:=Ys (by omega);have e2:(hi.toNat*4294967296) ||| lo.toNat=hi.toNat*4294967296+lo.toNat:=by
   have:=Ycf (i:=32) hl hi.toNat;rw[Yae hi.toNat,show (4294967296:Nat)=2^32 from rfl,this]
  have h3:(hi.toNat*4294967296+lo.toNat)/y.toNat<4294967296:=by
   rw[Yba (by omega)];have:=Yan 4294967296 (show hi.toNat+1≤y.toNat by omega);omega
  rw[e,e2,Ys (show hi.toNat*4294967296+lo.toNat<18446744073709551616 by omega)];exact⟨rfl,rfl⟩
theorem zdj(x y c:Nat)(hx:x<4294967296)(hy:y<4294967296)(hc:c<4294967296):Za T 115 [u32 x,u32 y,u32 c]=some (.tup [u32 ((x+y+c)%4294967296),u32 ((x+y+c)/4294967296)]):=by
 have:=zv6 (T:=T) (w32 x) (w32 y) (w32 c);rw[zah hx,zah hy,zah hc,zba,zah (by omega)]at this;exact this
theorem zeu(x y b:Nat)(hx:x<4294967296)(hy:y<4294967296)(hb:b<4294967296):Za T 116 [u32 x,u32 y,u32 b] =
  some (.tup [u32 ((x+8589934592-(y+b))%4294967296),u32 (2-(x+8589934592-(y+b))/4294967296)]):=by
 have:=zv7 (T:=T) (w32 x) (w32 y) (w32 b);rw[zah hx,zah hy,zah hb,zba,zah (by omega)]at this;exact this
theorem zg4(x y c d:Nat)(hx:x<4294967296)(hy:y<4294967296)(hc:c<4294967296)(hd:d<4294967296):Za T 117 [u32 x,u32 y,u32 c,u32 d] =
  some (.tup [u32 ((x*y+c+d)/4294967296),u32 ((x*y+c+d)%4294967296)]):=by
 have:=zn9 (T:=T) (w32 x) (w32 y) (w32 c) (w32 d);have hm:=zg3 hx hy;rw[zah hx,zah hy,zah hc,zah hd,zba (x*y+c+d),zah (by omega)]at this;exact this
theorem zxn{hi lo y:Nat}(h:hi<y)(hl:lo<4294967296):(hi*4294967296+lo)/y<4294967296:=by
 rw[Yba (by omega)];have:=Yan 4294967296 (show hi+1≤y by omega);omega
theorem zk3(hi lo y:Nat)(hx:hi<y)(hl:lo<4294967296)(hy:y<4294967296):Za T 118 [u32 hi,u32 lo,u32 y] =
  some (.tup [u32 ((hi*4294967296+lo)/y),u32 ((hi*4294967296+lo)%y),.b true]):=by
 have:=zoa (T:=T) (w32 hi) (w32 lo) (w32 y);rw[zah (show hi<4294967296 by omega),zah hl,zah hy,zah (zxn hx hl),zah (by have:=Ya5 (hi*4294967296+lo) (show 0<y by omega);omega),if_neg (by omega)]at this;exact this
theorem zpr(hi lo y:Nat)(hx:y≤hi)(hh:hi<4294967296)(hl:lo<4294967296):Za T 118 [u32 hi,u32 lo,u32 y]=some (.tup [u32 0,u32 0,.b false]):=by
 have:=zoa (T:=T) (w32 hi) (w32 lo) (w32 y);rw[zah hh,zah hl,zah (show y<4294967296 by omega),if_pos hx]at this;exact this
def Z5(n:Nat):Nat:=if n=0 then 0 else n.log2+1
theorem zh9{n s:Nat}(h:n/2^s≠0):Z5 n=s+Z5 (n/2^s):=by
 have hn:n≠0:=by rintro rfl;simp at h
 have hlog:(n/2^s).log2+s=n.log2:=by
  have h1:=Nat.log2_self_le h;have h2:=Ycs (n:=n/2^s);have h3:=Nat.log2_self_le hn;have h4:=Ycs (n:=n);have hp:0<2^s:=Ybg (by decide);have a1:2^((n/2^s).log2+s)≤n:=by
   rw[Ybp];exact(Ybn hp).1 h1
  have a2:n<2^((n/2^s).log2+1+s):=by
   rw[Ybp];exact(Yba hp).1 h2
  have b1:=(Nat.le_log2 hn).2 a1;have b2:=(Yc7 hn).2 a2;omega
 unfold Z5;rw[if_neg h,if_neg hn];omega
theorem zps{x:Nat}(h:x<2):Z5 x=x:=by
 rcases(show x=0∨x=1 by omega) with rfl | rfl<;>decide
def Zig(y:Nat×Nat×Nat):St:=⟨[(0,u32 y.1),(3,.i .i64 y.2.1),(4,.i .i64 y.2.2)],[],2⟩
end
section
variable{T:Tbl}
theorem zi4(N:Nat):∀y:Nat×Nat×Nat,((y.2.2=16∨y.2.2=8∨y.2.2=4∨y.2.2=2∨y.2.2=1∨y.2.2=0)∧y.1<2^(2*y.2.2)*(if y.2.2=0 then 2 else 1)∧y.2.1+Z5 y.1=N∧y.2.1+2*y.2.2≤32) →
  ∃r,(∃(x n:Nat),r=(Ex.n,(⟨[(0,u32 x),(3,.i .i64 (n:Int))],[],2⟩:St))∧x<2∧n+Z5 x=N∧n≤32)∧Zv T 0 0 (.norm false [0,3]) l91_0 (Zig y)=some r:=by
 refine za0 _ _ (fun y=>y.2.2) _ ?_
 rintro⟨x,n,s⟩ ⟨hs,hx,hN,hn⟩
 simp only at hs hx hN hn;by_cases h0:s=0
 ·right;subst h0;refine⟨_,⟨x,n,rfl,by simpa using hx,hN,by omega⟩,?_,?_⟩<;>simp[l91_0,Zig]
 ·left;by_cases h1:x/2^s=0
  ·refine⟨(x,n,s/2),⟨?_,?_,hN,by simp only;omega⟩,by simp only;omega,?_⟩
   ·rcases hs with rfl | rfl | rfl | rfl | rfl | rfl<;>simp
   ·have h2:x<2^s:=by
     rcases Yt x (2^s) with h | h
     ·exact h
     ·have:=Nat.div_pos h (Ybg (by decide));omega
    rcases hs with rfl | rfl | rfl | rfl | rfl | rfl<;>simp at h2 ⊢<;>omega
   ·rcases hs with rfl | rfl | rfl | rfl | rfl | rfl<;>simp at h1<;>simp[l91_0,Zig,h1]at h0 ⊢
  ·refine⟨(x/2^s,n+s,s/2),⟨?_,?_,?_,by simp only;omega⟩,by simp only;omega,?_⟩
   ·rcases hs with rfl | rfl | rfl | rfl | rfl | rfl<;>simp
   ·rcases hs with rfl | rfl | rfl | rfl | rfl | rfl<;>simp at hx h0 ⊢<;>omega
   ·have:=zh9 h1;simp only;omega
   ·have hw:IntKind.wrap .i64 ((n:Int)+s)=((n+s:Nat):Int):=zac _ (by omega);rcases hs with rfl | rfl | rfl | rfl | rfl | rfl<;>simp at h1 hw<;>simp[l91_0,Zig,h1,hw]at h0 ⊢
end
section
variable{T:Tbl}[Zy T]
theorem zob(x:UInt32):Za T 91 [u32 x.toNat]=some (.i .i64 (Z5 x.toNat)):=by
 have hx:=zal x;obtain⟨_,⟨y,n,rfl,h1,h2,h3⟩,hl⟩:=zi4 (T:=T) (Z5 x.toNat) (x.toNat,0,16) ⟨.inl rfl,by simp,by simp,by simp⟩;have hw:IntKind.wrap .i64 (y:Int)=y:=zac _ (by omega);have hw2:IntKind.wrap .i64 ((n:Int)+y)=((n+y:Nat):Int):=zac _ (by omega);have h4:=zps h1;rw[zab Zy.h91 rfl,b91];simp;unfold Zig at hl;simp at hl;rw[hl];simp[hw,hw2];omega
end
def l86_0:AX:=
 (.note
 (.seq
 (.seq
 (.reg [mv 6 3,rg 7 (.bin .gtr (.t 6) (.c (.i .i64 0))),mv 8 7,gd 9 8 true (.mov (.t 0)),gd 10 8 true (.mov (.t 3)),gd 11 8 true (.bin .sub (.t 10) (.c (.i .i64 1))),gd 12 8 true (.iad 1 (.t 9) (.t 11)),gd 13 8 true (.load none (.t 12)),gd 14 8 true (.bin .eql (.t 13) (.c (u32 0))),rg 15 (.pick (.t 8) (.t 14) (.c (.b false)))])
 (.cond (.t 15)
 .skip
 (.exit 0)))
 (.block 1
 (.reg [mv 16 3,rg 17 (.bin .sub (.t 16) (.c (.i .i64 1))),mv 3 17])))
 (.norm false [0,3]))
def b86:AX:=
 (.seq
 (.reg [rg 2 (.mov (.c (.sl [] .nl)))])
 (.seq
 (.reg [mv 4 0,rg 5 (.len (.t 4)),mv 3 5])
 (.seq
 (.lp 0 (.norm false [0,3]) l86_0 (.norm false [0,3]))
 (.seq
 (.reg [mv 18 0,mv 19 3,rg 20 (.slc 1 (.t 18) none (some (.t 19)) none),mv 2 20])
 (.pre (.norm false [2]) .ret)))))
def b106:AX:=
 (.seq
 (.reg [rg 4 (.mov (.c (.sl [] .nl)))])
 (.seq
 (.reg [mv 6 0,rg 7 (.len (.t 6)),mv 8 1,rg 9 (.bin .add (.t 7) (.t 8)),rg 10 (.mks 1 [(u32 0)] (.t 9) (.t 9)),mv 5 10])
 (.seq
 (.reg [mv 11 5,mv 12 0,rg 13 (.xop .cpy [(.t 11),(.t 12)])])
 (.seq
 (.reg [mv 14 5,mv 4 14])
 (.pre (.norm false [4]) .ret)))))
def b71:AX:=
 (.seq
 (.reg [rg 2 (.mov (.c (.sl [] .nl)))])
 (.seq
 (.reg [mv 3 0,rg 4 (.call 86 [(.t 3)]),rg 5 (.call 106 [(.t 4),(.c (.i .i64 0))]),mv 2 5])
 (.pre (.norm false [2]) .ret)))
def b72:AX:=
 (.seq
 (.reg [rg 2 (.mov (.c (.sl [] .nl)))])
 (.seq
 (.reg [mv 3 0,rg 4 (.conv .u32 (.t 3)),mv 5 0,rg 6 (.bin .shr (.t 5) (.c (u64 32))),rg 7 (.conv .u32 (.t 6)),rg 8 (.bsl 1 [(u32 0)] 2 [(0,(.t 4)),(1,(.t 7))]),rg 9 (.call 86 [(.t 8)]),mv 2 9])
 (.pre (.norm false [2]) .ret)))
def l73_0:AX:=
 (.note
 (.seq
 (.reg [rg 15 (.bin .lss (.t 14) (.t 13))])
 (.seq
 (.cond (.t 15)
 .skip
 (.exit 0))
 (.seq
 (.block 1
 (.seq
 (.reg [mv 16 14,rg 17 (.iad 1 (.t 12) (.t 14)),rg 18 (.load none (.t 17)),mv 5 16,mv 6 18])
 (.reg [mv 19 4,mv 20 6,rg 21 (.conv .u64 (.t 20)),mv 22 5,rg 23 (.bin .mul (.c (.i .i64 32)) (.t 22)),rg 24 (.bin .shl (.t 21) (.t 23)),rg 25 (.bin .or (.t 19) (.t 24)),mv 4 25])))
 (.reg [rg 26 (.bin .add (.t 14) (.c (.i .i64 1))),mv 14 26]))))
 (.norm false [4,12,13,14]))
def b73:AX:=
 (.seq
 (.reg [rg 2 (.mov (.c (u64 0))),rg 3 (.mov (.c (.b false)))])
 (.seq
 (.reg [mv 7 0,rg 8 (.call 86 [(.t 7)]),mv 0 8])
 (.seq
 (.seq
 (.reg [mv 9 0,rg 10 (.len (.t 9)),rg 11 (.bin .gtr (.t 10) (.c (.i .i64 2)))])
 (.cond (.t 11)
 (.seq
 (.reg [rg 2 (.mov (.c (u64 0))),rg 3 (.mov (.c (.b false)))])
 (.pre (.norm false [2,3]) .ret))
 .skip))
 (.seq
 (.reg [rg 4 (.mov (.c (u64 0)))])
 (.seq
 (.seq
 (.reg [mv 12 0,rg 13 (.len (.t 12)),rg 14 (.mov (.c (.i .i64 0)))])
 (.lp 0 (.norm false [4,12,13,14]) l73_0 (.norm false [4])))
 (.seq
 (.reg [mv 27 4,mv 2 27,rg 3 (.mov (.c (.b true)))])
 (.pre (.norm false [2,3]) .ret)))))))
def b70:AX:=
 (.seq
 (.reg [rg 2 (.mov (.c (.b false)))])
 (.seq
 (.reg [mv 3 0,rg 4 (.call 86 [(.t 3)]),rg 5 (.len (.t 4)),rg 6 (.bin .eql (.t 5) (.c (.i .i64 0))),mv 2 6])
 (.pre (.norm false [2]) .ret)))
def l87_0:AX:=
 (.note
 (.seq
 (.seq
 (.reg [mv 25 5,rg 26 (.bin .geq (.t 25) (.c (.i .i64 0)))])
 (.cond (.t 26)
 .skip
 (.exit 1)))
 (.seq
 (.block 2
 (.block 3
 (.seq
 (.drawT [mv 30 0,mv 31 5,rg 32 (.iad 1 (.t 30) (.t 31)),rg 33 (.load none (.t 32)),mv 34 1,mv 35 5,rg 36 (.iad 1 (.t 34) (.t 35)),rg 37 (.load none (.t 36))]
 [rg 38 (.bin .lss (.t 33) (.t 37)),mv 29 38])
 (.cond (.t 29)
 (.seq
 (.reg [rg 4 (.mov (.c (.i .i64 (-1))))])
 (.pre (.norm false [4]) .ret))
 (.seq
 (.drawT [mv 40 0,mv 41 5,rg 42 (.iad 1 (.t 40) (.t 41)),rg 43 (.load none (.t 42)),mv 44 1,mv 45 5,rg 46 (.iad 1 (.t 44) (.t 45)),rg 47 (.load none (.t 46))]
 [rg 48 (.bin .gtr (.t 43) (.t 47)),mv 39 48])
 (.cond (.t 39)
 (.seq
 (.reg [rg 4 (.mov (.c (.i .i64 1)))])
 (.pre (.norm false [4]) .ret))
 .skip))))))
 (.reg [mv 27 5,rg 28 (.bin .sub (.t 27) (.c (.i .i64 1))),mv 5 28])))
 (.norm false [0,1,5]))
def b87:AX:=
 (.seq
 (.reg [rg 4 (.mov (.c (.i .i64 0)))])
 (.seq
 (.reg [mv 6 0,rg 7 (.call 86 [(.t 6)]),mv 8 1,rg 9 (.call 86 [(.t 8)]),mv 0 7,mv 1 9])
 (.seq
 (.block 0
 (.seq
 (.reg [mv 11 0,rg 12 (.len (.t 11)),mv 13 1,rg 14 (.len (.t 13)),rg 15 (.bin .lss (.t 12) (.t 14)),mv 10 15])
 (.cond (.t 10)
 (.seq
 (.reg [rg 4 (.mov (.c (.i .i64 (-1))))])
 (.pre (.norm false [4]) .ret))
 (.seq
 (.reg [mv 17 0,rg 18 (.len (.t 17)),mv 19 1,rg 20 (.len (.t 19)),rg 21 (.bin .gtr (.t 18) (.t 20)),mv 16 21])
 (.cond (.t 16)
 (.seq
 (.reg [rg 4 (.mov (.c (.i .i64 1)))])
 (.pre (.norm false [4]) .ret))
 .skip)))))
 (.seq
 (.seq
 (.reg [mv 22 0,rg 23 (.len (.t 22)),rg 24 (.bin .sub (.t 23) (.c (.i .i64 1))),mv 5 24])
 (.lp 1 (.norm false [0,1,5]) l87_0 (.norm false [])))
 (.seq
 (.reg [rg 4 (.mov (.c (.i .i64 0)))])
 (.pre (.norm false [4]) .ret))))))
def l85_0:AX:=
 (.note
 (.seq
 (.reg [rg 21 (.bin .lss (.t 20) (.t 19))])
 (.seq
 (.cond (.t 21)
 .skip
 (.exit 0))
 (.seq
 (.block 1
 (.seq
 (.reg [mv 22 20,mv 7 22])
 (.seq
 (.reg [rg 8 (.mov (.c (u32 0)))])
 (.seq
 (.seq
 (.reg [mv 23 7,mv 24 1,rg 25 (.len (.t 24)),rg 26 (.bin .lss (.t 23) (.t 25))])
 (.cond (.t 26)
 (.reg [mv 27 1,mv 28 7,rg 29 (.iad 1 (.t 27) (.t 28)),rg 30 (.load none (.t 29)),mv 8 30])
 .skip))
 (.reg [mv 32 5,mv 33 7,mv 34 0,mv 35 7,rg 36 (.iad 1 (.t 34) (.t 35)),rg 37 (.load none (.t 36)),mv 38 8,mv 39 6,rg 40 (.call 115 [(.t 37),(.t 38),(.t 39)]),mv 31 40,rg 41 (.ext (.t 31) 0),rg 42 (.ext (.t 31) 1),rg 43 (.iad 1 (.t 32) (.t 33)),so (.store 1 (.t 43) (.t 41)),mv 6 42])))))
 (.reg [rg 44 (.bin .add (.t 20) (.c (.i .i64 1))),mv 20 44]))))
 (.norm false [0,1,5,6,19,20]))
def b85:AX:=
 (.seq
 (.reg [rg 4 (.mov (.c (.sl [] .nl)))])
 (.seq
 (.seq
 (.reg [mv 9 0,rg 10 (.len (.t 9)),mv 11 1,rg 12 (.len (.t 11)),rg 13 (.bin .lss (.t 10) (.t 12))])
 (.cond (.t 13)
 (.reg [mv 14 1,mv 15 0,mv 0 14,mv 1 15])
 .skip))
 (.seq
 (.reg [mv 16 0,rg 17 (.call 2106 [(.t 16),(.c (.i .i64 1))]),mv 5 17])
 (.seq
 (.reg [rg 6 (.mov (.c (u32 0)))])
 (.seq
 (.seq
 (.reg [mv 18 0,rg 19 (.len (.t 18)),rg 20 (.mov (.c (.i .i64 0)))])
 (.lp 0 (.norm false [0,1,5,6,19,20]) l85_0 (.norm false [0,5,6])))
 (.seq
 (.reg [mv 45 5,mv 46 0,rg 47 (.len (.t 46)),mv 48 6,rg 49 (.iad 1 (.t 45) (.t 47)),so (.store 1 (.t 49) (.t 48))])
 (.seq
 (.reg [mv 50 5,rg 51 (.call 86 [(.t 50)]),mv 4 51])
 (.pre (.norm false [4]) .ret))))))))
def l56_0:AX:=
 (.note
 (.seq
 (.reg [rg 9 (.bin .lss (.t 8) (.t 7))])
 (.seq
 (.cond (.t 9)
 .skip
 (.exit 0))
 (.seq
 (.block 1
 (.seq
 (.reg [rg 10 (.iad 1 (.t 6) (.t 8)),rg 11 (.load none (.t 10)),mv 5 11])
 (.reg [mv 12 3,mv 13 5,rg 14 (.call 86 [(.t 13)]),rg 15 (.call 85 [(.t 12),(.t 14)]),mv 3 15])))
 (.reg [rg 16 (.bin .add (.t 8) (.c (.i .i64 1))),mv 8 16]))))
 (.norm false [3,6,7,8]))
def b56:AX:=
 (.seq
 (.reg [rg 2 (.mov (.c (.sl [] .nl)))])
 (.seq
 (.reg [rg 3 (.mov (.c (.sl [] .nl)))])
 (.seq
 (.seq
 (.reg [mv 6 0,rg 7 (.len (.t 6)),rg 8 (.mov (.c (.i .i64 0)))])
 (.lp 0 (.norm false [3,6,7,8]) l56_0 (.norm false [3])))
 (.seq
 (.reg [mv 17 3,mv 2 17])
 (.pre (.norm false [2]) .ret)))))
def l88_0:AX:=
 (.note
 (.seq
 (.reg [rg 23 (.bin .lss (.t 22) (.t 21))])
 (.seq
 (.cond (.t 23)
 .skip
 (.exit 0))
 (.seq
 (.block 1
 (.seq
 (.reg [mv 24 22,mv 8 24])
 (.seq
 (.reg [rg 9 (.mov (.c (u32 0)))])
 (.seq
 (.seq
 (.reg [mv 25 8,mv 26 1,rg 27 (.len (.t 26)),rg 28 (.bin .lss (.t 25) (.t 27))])
 (.cond (.t 28)
 (.reg [mv 29 1,mv 30 8,rg 31 (.iad 1 (.t 29) (.t 30)),rg 32 (.load none (.t 31)),mv 9 32])
 .skip))
 (.reg [mv 34 6,mv 35 8,mv 36 0,mv 37 8,rg 38 (.iad 1 (.t 36) (.t 37)),rg 39 (.load none (.t 38)),mv 40 9,mv 41 7,rg 42 (.call 116 [(.t 39),(.t 40),(.t 41)]),mv 33 42,rg 43 (.ext (.t 33) 0),rg 44 (.ext (.t 33) 1),rg 45 (.iad 1 (.t 34) (.t 35)),so (.store 1 (.t 45) (.t 43)),mv 7 44])))))
 (.reg [rg 46 (.bin .add (.t 22) (.c (.i .i64 1))),mv 22 46]))))
 (.norm false [0,1,6,7,21,22]))
def b88:AX:=
 (.seq
 (.reg [rg 4 (.mov (.c (.sl [] .nl))),rg 5 (.mov (.c (.b false)))])
 (.seq
 (.reg [mv 10 0,rg 11 (.call 86 [(.t 10)]),mv 12 1,rg 13 (.call 86 [(.t 12)]),mv 0 11,mv 1 13])
 (.seq
 (.seq
 (.reg [mv 14 0,mv 15 1,rg 16 (.call 87 [(.t 14),(.t 15)]),rg 17 (.bin .lss (.t 16) (.c (.i .i64 0)))])
 (.cond (.t 17)
 (.seq
 (.reg [rg 4 (.mov (.c (.sl [] .nl))),rg 5 (.mov (.c (.b false)))])
 (.pre (.norm false [4,5]) .ret))
 .skip))
 (.seq
 (.reg [mv 18 0,rg 19 (.call 2106 [(.t 18),(.c (.i .i64 0))]),mv 6 19])
 (.seq
 (.reg [rg 7 (.mov (.c (u32 0)))])
 (.seq
 (.seq
 (.reg [mv 20 0,rg 21 (.len (.t 20)),rg 22 (.mov (.c (.i .i64 0)))])
 (.lp 0 (.norm false [0,1,6,7,21,22]) l88_0 (.norm false [6])))
 (.seq
 (.reg [mv 47 6,rg 48 (.call 86 [(.t 47)]),mv 4 48,rg 5 (.mov (.c (.b true)))])
 (.pre (.norm false [4,5]) .ret))))))))
def b57:AX:=
 (.seq
 (.reg [rg 4 (.mov (.c (.sl [] .nl))),rg 5 (.mov (.c (.i .i64 0)))])
 (.seq
 (.reg [mv 9 0,mv 10 1,rg 11 (.call 87 [(.t 9),(.t 10)]),mv 6 11])
 (.seq
 (.seq
 (.reg [mv 12 6,rg 13 (.bin .lss (.t 12) (.c (.i .i64 0)))])
 (.cond (.t 13)
 (.reg [mv 14 1,mv 15 0,mv 0 14,mv 1 15])
 .skip))
 (.seq
 (.reg [mv 17 0,mv 18 1,rg 19 (.call 88 [(.t 17),(.t 18)]),mv 16 19,rg 20 (.ext (.t 16) 0),rg 21 (.ext (.t 16) 1),mv 7 20,mv 8 21])
 (.seq
 (.reg [mv 22 7,mv 23 6,mv 4 22,mv 5 23])
 (.pre (.norm false [4,5]) .ret))))))
def b2106:AX:=
 (.seq
 (.reg [rg 4 (.mov (.c (.sl [] .nl)))])
 (.seq
 (.reg [mv 6 0,rg 7 (.len (.t 6)),mv 8 1,rg 9 (.bin .add (.t 7) (.t 8)),rg 10 (.mks 1 [(u32 0)] (.t 9) (.t 9)),mv 5 10])
 (.seq
 (.reg [mv 11 5,mv 12 0,rg 13 (.xop .cpy [(.t 11),(.t 12)])])
 (.seq
 (.reg [mv 14 5,mv 4 14])
 (.pre (.norm false [4]) .ret)))))
def row86:AFx:=⟨1,21,[.t 2],b86,none,false⟩
def row106:AFx:=⟨2,15,[.t 4],b106,none,false⟩
def row71:AFx:=⟨1,6,[.t 2],b71,none,false⟩
def row72:AFx:=⟨1,10,[.t 2],b72,none,false⟩
def row73:AFx:=⟨1,28,[.t 2,.t 3],b73,none,false⟩
def row70:AFx:=⟨1,7,[.t 2],b70,none,false⟩
def row87:AFx:=⟨2,49,[.t 4],b87,none,false⟩
def row85:AFx:=⟨2,52,[.t 4],b85,none,false⟩
def row56:AFx:=⟨1,18,[.t 2],b56,none,false⟩
def row88:AFx:=⟨2,49,[.t 4,.t 5],b88,none,false⟩
def row57:AFx:=⟨2,24,[.t 4,.t 5],b57,none,false⟩
def row2106:AFx:=⟨2,15,[.t 4],b2106,(some [false,false]),false⟩
class Zn (T:Tbl):Prop extends Zy T where
 h86:T 86=some row86
 h106:T 106=some row106
 h71:T 71=some row71
 h72:T 72=some row72
 h73:T 73=some row73
 h70:T 70=some row70
 h87:T 87=some row87
 h85:T 85=some row85
 h56:T 56=some row56
 h88:T 88=some row88
 h57:T 57=some row57
 h2106:T 2106=some row2106
section
variable{T:Tbl}[Zn T]{d:Option Nat}{st:St}
@[simp] theorem x86(xs:List AV):Zd (orc T) T 86 xs d st=cP T 86 false xs d st:=zaa Zn.h86
@[simp] theorem x106(xs:List AV):Zd (orc T) T 106 xs d st=cP T 106 false xs d st:=zaa Zn.h106
@[simp] theorem x71(xs:List AV):Zd (orc T) T 71 xs d st=cP T 71 false xs d st:=zaa Zn.h71
@[simp] theorem y71{e:Env}{h:Heap}{older:List Heap}(args:List Opd):opD (orc T) T (.call 71 args) e h older=dR (Za T 71 ((args.map (ev e.get)).map (wkIf false))) (args.map (ev e.get)):=zao Zn.h71
@[simp] theorem x72(xs:List AV):Zd (orc T) T 72 xs d st=cP T 72 false xs d st:=zaa Zn.h72
@[simp] theorem y72{e:Env}{h:Heap}{older:List Heap}(args:List Opd):opD (orc T) T (.call 72 args) e h older=dR (Za T 72 ((args.map (ev e.get)).map (wkIf false))) (args.map (ev e.get)):=zao Zn.h72
@[simp] theorem x73(xs:List AV):Zd (orc T) T 73 xs d st=cP T 73 false xs d st:=zaa Zn.h73
@[simp] theorem x70(xs:List AV):Zd (orc T) T 70 xs d st=cP T 70 false xs d st:=zaa Zn.h70
@[simp] theorem x87(xs:List AV):Zd (orc T) T 87 xs d st=cP T 87 false xs d st:=zaa Zn.h87
@[simp] theorem x85(xs:List AV):Zd (orc T) T 85 xs d st=cP T 85 false xs d st:=zaa Zn.h85
@[simp] theorem x56(xs:List AV):Zd (orc T) T 56 xs d st=cP T 56 false xs d st:=zaa Zn.h56
@[simp] theorem y56{e:Env}{h:Heap}{older:List Heap}(args:List Opd):opD (orc T) T (.call 56 args) e h older=dR (Za T 56 ((args.map (ev e.get)).map (wkIf false))) (args.map (ev e.get)):=zao Zn.h56
@[simp] theorem x88(xs:List AV):Zd (orc T) T 88 xs d st=cP T 88 false xs d st:=zaa Zn.h88
@[simp] theorem x57(xs:List AV):Zd (orc T) T 57 xs d st=cP T 57 false xs d st:=zaa Zn.h57
@[simp] theorem x2106(xs:List AV):Zd (orc T) T 2106 xs d st=bL (Zeq st.heap [false,false] xs) fun ys=>Zef ys (Zj (Za4 [false,false] xs) st.heap) (Zc0 (Zj (Za4 [false,false] xs) st.heap) 40 (Zcj [false,false] xs) []) T 2106 false d st:=zay Zn.h2106
end
def val:List UInt32→Nat
 | []=>0
 | x::l=>x.toNat+4294967296*val l
def ofN(n:Nat):List UInt32:=if n=0 then [] else w32 n::ofN (n/4294967296)
termination_by n
decreasing_by omega
def Zio(l:List UInt32):Prop:=∀x,l.getLast? = some x→x.toNat≠0
@[simp] theorem zbo:val []=0:=rfl
@[simp] theorem zaq(x:UInt32)(l:List UInt32):val (x::l)=x.toNat+4294967296*val l:=rfl
@[simp] theorem zjg:ofN 0=[]:=by rw[ofN];rfl
theorem zhf{n:Nat}(h:n≠0):ofN n=w32 n::ofN (n/4294967296):=by rw[ofN,if_neg h]
theorem zdc(n:Nat):(w32 n).toNat=n%4294967296:=zba n
theorem zxt{x:UInt32}{n:Nat}(h:n%4294967296=x.toNat):w32 n=x:=by
 rw[←UInt32.toNat_inj,zdc,h]
theorem zag(n:Nat):val (ofN n)=n:=by
 induction n using Nat.strongRecOn with
 | _ n ih=>
  by_cases h:n=0
  ·subst h;simp
  ·rw[zhf h,zaq,ih (n/4294967296) (by omega),zdc];omega
theorem zai(l m:List UInt32):val (l++m)=val l+4294967296^l.length*val m:=by
 induction l with
 | nil=>simp
 | cons x l ih=>
  simp only[Ybl,zaq,ih,Yk,Yaa,Yaf,Ya1];congr 2;rw[←Yam,Yae 4294967296 (4294967296^l.length)]
theorem za5(l:List UInt32):val l<4294967296^l.length:=by
 induction l with
 | nil=>simp
 | cons x l ih=>
  have:=zal x;simp only[zaq,Yk,Yaa];omega
theorem zih{x:UInt32}{l:List UInt32}(h:Zio (x::l)):Zio l:=by
 intro y hy;apply h;cases l with
 | nil=>simp at hy
 | cons z l=>rw[List.getLast?_cons_cons];exact hy
theorem zw1{l:List UInt32}(h:Zio l):val l=0↔l=[]:=by
 constructor
 ·intro h0
  induction l with
  | nil=>rfl
  | cons x l ih=>
   exfalso;simp only[zaq]at h0;have h1:=ih (zih h) (by omega);subst h1;exact h x (by simp) (by omega)
 ·rintro rfl;rfl
theorem z0k{l:List UInt32}(h:Zio l):ofN (val l)=l:=by
 induction l with
 | nil=>simp
 | cons x l ih=>
  have hx:=zal x;have hne:val (x::l)≠0:=fun h0=>by have:=(zw1 h).1 h0;cases this
  rw[zhf hne];congr 1
  ·exact zxt (by simp only[zaq];omega)
  ·rw[show val (x::l)/4294967296=val l by simp only[zaq];omega];exact ih (zih h)
theorem za4{n:Nat}:ofN n=[]↔n=0:=⟨fun h=>by rw[←zag n,h];rfl,fun h=>by rw[h];simp⟩
theorem zqh{a:List UInt32}{n:Nat}(hn:n≤a.length)(h0:∀(i:Nat) (x:UInt32),n≤i→a[i]? = some x→x.toNat=0)(h1:∀x:UInt32,0<n→a[n-1]? = some x→x.toNat≠0):a.take n=ofN (val a):=by
 have hr:Zio (a.take n):=by
  intro x hx;have hn0:0<n:=by
   rcases Ybd n with h | h
   ·subst h;simp at hx
   ·exact h
  apply h1 x hn0;rw[List.getLast?_eq_getElem?,Yad,Ybv hn,Y6,if_pos (by omega)]at hx;exact hx
 have hz:∀l:List UInt32,(∀(i:Nat) (x:UInt32),l[i]? = some x→x.toNat=0)→val l=0:=by
  intro l
  induction l with
  | nil=>intro _;rfl
  | cons x l ih=>
   intro h;have h2:=h 0 x rfl;have h3:=ih fun i y hy=>h (i+1) y (by simpa using hy);simp only[zaq,h2,h3]
 have hv:val a=val (a.take n):=by
  have e:=zai (a.take n) (a.drop n);rw[Yal,hz (a.drop n) (fun i x hx=>h0 (n+i) x (by omega) (by rw[Yab]at hx;exact hx))]at e;omega
 rw[hv,z0k hr]
theorem zon(a:List UInt32):∃n,n≤a.length∧a.take n=ofN (val a)∧(∀(i:Nat) (x:UInt32),n≤i→a[i]? = some x→x.toNat=0)∧(∀x:UInt32,0<n→a[n-1]? = some x→x.toNat≠0):=by
 have key:∀k,k≤a.length→(∀(i:Nat) (x:UInt32),k≤i→a[i]? = some x→x.toNat=0)→∃n,n≤k∧(∀(i:Nat) (x:UInt32),n≤i→a[i]? = some x→x.toNat=0)∧(∀x:UInt32,0<n→a[n-1]? = some x→x.toNat≠0):=by
  intro k
  induction k with
  | zero=>intro _ h;exact⟨0,Yg _,h,fun x hx=>by omega⟩
  | succ k ih=>
   intro hk h;by_cases hz:(a[k]'(by omega)).toNat=0
   ·obtain⟨n,h1,h2,h3⟩:=ih (by omega) fun i x hi hx=>by
     rcases Yt k i with h4 | h4
     ·exact h i x h4 hx
     ·have:i=k:=by omega
      subst this;rw[Ya (by omega)]at hx;cases hx;exact hz
    exact⟨n,by omega,h2,h3⟩
   ·refine⟨k+1,Yg _,h,fun x _ hx=>?_⟩;rw[Nat.add_sub_cancel,Ya (by omega)]at hx;cases hx;exact hz
 obtain⟨n,h1,h2,h3⟩:=key a.length (Yg _) fun i x hi hx=>by rw[List.getElem?_eq_none hi]at hx;cases hx
 exact⟨n,h1,zqh h1 h2 h3,h2,h3⟩
theorem zad(a:List UInt32):(ofN (val a)).length≤a.length:=by
 obtain⟨n,h1,h2,_⟩:=zon a;rw[←h2,Yad];omega
theorem zae{n k:Nat}(h:n<4294967296^k):(ofN n).length≤k:=by
 induction k generalizing n with
 | zero=>
  have:n=0:=by simp at h;omega
  subst this;simp
 | succ k ih=>
  by_cases h0:n=0
  ·subst h0;simp
  ·rw[zhf h0,Yk];have:=ih (n:=n/4294967296) (by rw[Yaa]at h;omega);omega
theorem zaf{a:List UInt32}{i:Nat}{x:UInt32}(h:a[i]? = some x):val (a.take (i+1))=val (a.take i)+4294967296^i*x.toNat:=by
 have hi:i<a.length:=by
  rcases Yt i a.length with h1 | h1
  ·exact h1
  ·rw[List.getElem?_eq_none h1]at h;cases h
 rw[Ycx,h,zai];simp only[Option.toList_some,zaq,zbo,Yaq,Y1,Yad];rw[Ybv (by omega)]
theorem zb6{a:List UInt32}{i:Nat}(x:UInt32)(h:i<a.length):val ((a.set i x).take (i+1))=val (a.take i)+4294967296^i*x.toNat:=by
 rw[zaf (x:=x) (by rw[Yar h]),List.take_set_of_le (Yg i)]
theorem zbi{a:List UInt32}{i:Nat}(h:a.length≤i):val (a.take i)=val a:=by rw[Yb h]
theorem za8(n:Nat):val (List.replicate n 0)=0:=by
 induction n with
 | zero=>rfl
 | succ n ih=>simp[Yav,ih]
theorem zfm{m n:Nat}(h:(ofN m).length<(ofN n).length):m<n:=by
 rcases Yt m n with h1 | h1
 ·exact h1
 ·exfalso;have h2:=za5 (ofN m);rw[zag]at h2;have:=zae (show n<4294967296^(ofN m).length by omega);omega
theorem zbl{m n:Nat}(h:m≤n):(ofN m).length≤(ofN n).length:=by
 rcases Yt (ofN n).length (ofN m).length with h1 | h1
 ·have:=zfm h1;omega
 ·exact h1
def Zfz(x y:Nat):Int:=if x<y then -1 else if y<x then 1 else 0
theorem zuf{a b:List UInt32}{i:Nat}{x y:UInt32}(hx:a[i]? = some x)(hy:b[i]? = some y)(h:x.toNat<y.toNat):val (a.take (i+1))<val (b.take (i+1)):=by
 rw[zaf hx,zaf hy];have h1:=za5 (a.take i);have h2:4294967296^(a.take i).length≤4294967296^i:=Yn (by decide) (by simp;omega);have h3:=Yan (4294967296^i) (show x.toNat+1≤y.toNat from h);rw[Yaf]at h3;omega
theorem zjh{x y c:Nat}(hx:x<4294967296)(hy:y<4294967296)(hc:c≤1) :
  (x+8589934592-(y+c))%4294967296+(y+c)=x+4294967296*(2-(x+8589934592-(y+c))/4294967296)∧2-(x+8589934592-(y+c))/4294967296≤1:=by omega
def lls(l:List (List UInt32)):List (List AV):=l.map fun a=>[.sl (Zb a) .an]
@[simp] theorem z2d(l:List (List UInt32)):(lls l).length=l.length:=by simp[lls]
@[simp] theorem zagg(l:List (List UInt32)):wkL (lls l)=lls l:=by rw[zbt];simp[lls,wkR]
@[simp] theorem z0l(l:List (List UInt32))(i:Nat)(h:i<(lls l).length):(lls l)[i]=[.sl (Zb (l[i]'(by simpa using h))) .an]:=by simp[lls]
section
variable{T:Tbl}
theorem zsz(a:List UInt32)(hl:a.length<9223372036854775808){n:Nat}(hn:n≤a.length)(h0:∀(i:Nat) (x:UInt32),n≤i→a[i]? = some x→x.toNat=0)(h1:∀x:UInt32,0<n→a[n-1]? = some x→x.toNat≠0) :
  ∀m:Nat,(n≤m∧m≤a.length)→Zv T 0 0 (.norm false [0,3]) l86_0 ⟨[(0,.sl (Zb a) .an),(3,.i .i64 (m:Int))],[],2⟩=some (.n,⟨[(0,.sl (Zb a) .an),(3,.i .i64 (n:Int))],[],2⟩):=by
 refine za1 (fun m:Nat=>⟨[(0,.sl (Zb a) .an),(3,.i .i64 (m:Int))],[],2⟩) _ (fun m=>m) _ ?_
 rintro m ⟨hm,hma⟩
 by_cases h2:m=0
 ·right;subst h2;have:n=0:=by omega
  subst this;constructor<;>simp[l86_0]
 ·have hw:IntKind.wrap .i64 ((m:Int)-1)=((m-1:Nat):Int):=by rw[zac _ (by omega)];omega
  have hm1:m-1<a.length:=by omega
  have hg:a[m-1]? = some (a[m-1]'hm1):=Ya hm1;have hpos:0<m:=by omega
  by_cases h3:m=n
  ·right;subst h3;have hx:=h1 _ hpos hg;constructor<;>simp[l86_0,hpos,hw,hm1,hx]
  ·left;refine⟨m-1,⟨by omega,by omega⟩,by show m-1<m;omega,?_,rfl⟩;have hx:=h0 (m-1) _ (by omega) hg;simp[l86_0,hpos,hw,hm1,hx]
end
section
variable{T:Tbl}[Zn T]
theorem zbk(a:List UInt32)(hl:a.length≤4294967296):Za T 86 [.sl (Zb a) .an]=some (.sl (Zb (ofN (val a))) .an):=by
 obtain⟨n,h1,h2,h3,h4⟩:=zon a;have hr:=zsz (T:=T) a (by omega) h1 h3 h4 a.length ⟨h1,Yg _⟩;rw[zab Zn.h86 rfl,b86];simp[hr,h1,h2]
theorem zs0(a:List UInt32)(m:Nat)(hl:a.length+m≤4294967296):Za T 106 [.sl (Zb a) .an,.i .i64 (m:Int)]=some (.sl (Zb (a++List.replicate m 0)) .an):=by
 have hw:IntKind.wrap .i64 ((a.length:Int)+m)=((a.length+m:Nat):Int):=zac _ (by omega);have h0:(0:Int)≤(a.length:Int)+m:=by omega
 have h2:(a.length:Int)+m≤4294967296:=by omega
 have h3:((a.length:Int)+m).toNat=a.length+m:=by omega
 rw[zab Zn.h106 rfl,b106];simp[hw,h0,h2,h3,Yb]
theorem zcb(a:List UInt32)(m:Nat)(hl:a.length+m≤4294967296):Zcf T 2106 [.sl (Zb a) .an,.i .i64 (m:Int)] [] =
  some (.bs (.loc 10) 1 1 0 (a.length+m),[(.loc 10,⟨1,.own,1,Zb (a++List.replicate m 0)⟩)]):=by
 have hw:IntKind.wrap .i64 ((a.length:Int)+m)=((a.length+m:Nat):Int):=zac _ (by omega);have h0:(0:Int)≤(a.length:Int)+m:=by omega
 have h2:(a.length:Int)+m≤4294967296:=by omega
 have h3:((a.length:Int)+m).toNat=a.length+m:=by omega
 rw[zbn Zn.h2106 rfl,b2106];simp[hw,h0,h2,h3]
theorem za6(a:List UInt32)(hl:a.length≤4294967296):Za T 71 [.sl (Zb a) .an]=some (.sl (Zb (ofN (val a))) .an):=by
 have h1:=zad a;have h2:=zs0 (T:=T) (ofN (val a)) 0 (by omega);simp only[Y3]at h2;rw[zab Zn.h71 rfl,b71];simp[zbk a hl,h2]
theorem zd4(n:Nat)(h:n<18446744073709551616):Za T 72 [u64 n]=some (.sl (Zb (ofN n)) .an):=by
 have e2:val [w32 n,w32 (n/4294967296)]=n:=by simp[zdc];omega
 have h2:=zbk (T:=T) [w32 n,w32 (n/4294967296)] (by simp);rw[e2]at h2;have h3:n/4294967296%4294967296=n/4294967296:=Ys (by omega);rw[zab Zn.h72 rfl,b72];simp[h3,zbj _ _ _ (show n/4294967296<4294967296 by omega),h2]
theorem zi6(a:List UInt32)(hl:a.length≤4294967296):Za T 70 [.sl (Zb a) .an]=some (.b (decide (val a=0))):=by
 rw[zab Zn.h70 rfl,b70];have:((((ofN (val a)).length:Int) == 0))=decide (val a=0):=by
  rw[Ybs];simp[za4]
 simp[zbk a hl,this]
def Zfx(a b:List UInt32)(y:Nat×Nat×List UInt32):St:=
 ⟨[(0,.sl (Zb a) .an),(1,.sl (Zb b) .an),(5,.bs (.fld (.loc 17) 10) 1 1 0 (a.length+1)),(6,u32 y.2.1),(19,.i .i64 a.length),(20,.i .i64 y.1)],
  [(.fld (.loc 17) 10,⟨1,.own,1,Zb y.2.2⟩)],3⟩
theorem zk6(a b:List UInt32)(hb:b.length≤a.length)(hl:a.length≤1000000):∀y:Nat×Nat×List UInt32,
  (y.1≤a.length∧y.2.1≤1∧y.2.2.length=a.length+1∧val (y.2.2.take y.1)+4294967296^y.1*y.2.1=val (a.take y.1)+val (b.take y.1)) →
  ∃r,(∃(c:Nat) (out:List UInt32),r=(Ex.n,(⟨[(0,.sl (Zb a) .an),(5,.bs (.fld (.loc 17) 10) 1 1 0 (a.length+1)),(6,u32 c)],[(.fld (.loc 17) 10,⟨1,.own,1,Zb out⟩)],3⟩:St)) ∧
   out.length=a.length+1∧c≤1∧val (out.take a.length)+4294967296^a.length*c=val a+val b)∧Zv T 0 0 (.norm false [0,5,6]) l85_0 (Zfx a b y)=some r:=by
 refine za0 _ _ (fun y=>a.length-y.1) _ ?_
 rintro⟨i,c,out⟩ ⟨hi,hc,ho,hv⟩
 simp only at hi hc ho hv;by_cases h0:i<a.length
 ·left;have ha:a[i]? = some (a[i]'h0):=Ya h0;have hoi:i<out.length:=by omega
  have hog:out[i]? = some (out[i]'hoi):=Ya hoi;have hw:IntKind.wrap .i64 ((i:Int)+1)=((i+1:Nat):Int):=zac _ (by omega);have hc2:c<4294967296:=by omega
  have hil:(i:Int)<(a.length:Int)+1:=by omega
  have h1:=zaf ha;by_cases h2:i<b.length
  ·have hbg:b[i]? = some (b[i]'h2):=Ya h2;have h3:=zaf hbg;refine⟨(i+1,((a[i]'h0).toNat+(b[i]'h2).toNat+c)/4294967296,out.set i (w32 ((a[i]'h0).toNat+(b[i]'h2).toNat+c))),⟨by simp only;omega,?_,by simp[ho],?_⟩,by simp only;omega,?_⟩
   ·have:=zal (a[i]'h0);have:=zal (b[i]'h2);simp only;omega
   ·simp only;rw[zb6 _ hoi,h1,h3,zdc,Yaa];generalize 4294967296^i=p at *
    generalize (a[i]'h0).toNat=x at *
    generalize (b[i]'h2).toNat=z at *
    have e:=Ybq (x+z+c) 4294967296;have e2:p*((x+z+c)%4294967296)+p*4294967296*((x+z+c)/4294967296)=p*(x+z+c):=by
     conv=>rhs;rw[←e]
     rw[Yaf,Yam];omega
    rw[Yaf,Yaf]at e2;omega
   ·simp[l85_0,Zfx,h0,h2,hog,hw,hil,zdj,hc2]
  ·have h3:val (b.take (i+1))=val (b.take i):=by rw[zbi (by omega),zbi (by omega)]
   refine⟨(i+1,((a[i]'h0).toNat+0+c)/4294967296,out.set i (w32 ((a[i]'h0).toNat+0+c))),⟨by simp only;omega,?_,by simp[ho],?_⟩,by simp only;omega,?_⟩
   ·have:=zal (a[i]'h0);simp only;omega
   ·simp only;rw[zb6 _ hoi,h1,h3,zdc,Yaa];generalize 4294967296^i=p at *
    generalize (a[i]'h0).toNat=x at *
    have e:=Ybq (x+0+c) 4294967296;have e2:p*((x+0+c)%4294967296)+p*4294967296*((x+0+c)/4294967296)=p*(x+0+c):=by
     conv=>rhs;rw[←e]
     rw[Yaf,Yam];omega
    rw[Yaf,Yaf]at e2;omega
   ·simp[l85_0,Zfx,h0,h2,hog,hw,hil,zdj,hc2]
 ·right;have:i=a.length:=by omega
  subst this;rw[Yb (Yg _),Yb hb]at hv;refine⟨_,⟨c,out,rfl,ho,hc,hv⟩,?_,?_⟩<;>simp[l85_0,Zfx]
theorem zs1(a b:List UInt32)(hb:b.length≤a.length)(hl:a.length≤1000000):Za T 85 [.sl (Zb a) .an,.sl (Zb b) .an]=some (.sl (Zb (ofN (val a+val b))) .an):=by
 have hf:=zcb (T:=T) a 1 (by omega);simp only[Ya4]at hf;obtain⟨_,⟨c,out,rfl,ho,hc,hv⟩,hr⟩:=zk6 (T:=T) a b hb hl (0,0,a++List.replicate 1 0) ⟨Yu _,Yu _,by simp,by simp⟩;unfold Zfx at hr;simp at hr;have hog:out[a.length]? = some (out[a.length]'(by omega)):=Ya _;have h1:¬ (a.length:Int)<b.length:=by omega
 have h2:¬ a.length<b.length:=by omega
 have h3:(a.length:Int)<(a.length:Int)+1:=by omega
 have hval:val (out.set a.length (w32 c))=val a+val b:=by
  rw[←Yb (l:=out.set a.length (w32 c)) (i:=a.length+1) (by simp;omega),zb6 _ (by omega),zah (by omega)];exact hv
 have ht:=zbk (T:=T) (out.set a.length (w32 c)) (by simp;omega);rw[hval]at ht;have htk:List.take (a.length+1) (out.set a.length (w32 c))=out.set a.length (w32 c):=Yb (by simp;omega);rw[zab Zn.h85 rfl,b85];simp[h1,hf,hr,h3,zbj _ _ _ (show c<4294967296 by omega),htk,ht,ho]
theorem zpx(a b:List UInt32)(hb:a.length<b.length)(hl:b.length≤1000000):Za T 85 [.sl (Zb a) .an,.sl (Zb b) .an]=some (.sl (Zb (ofN (val a+val b))) .an):=by
 have hf:=zcb (T:=T) b 1 (by omega);simp only[Ya4]at hf;obtain⟨_,⟨c,out,rfl,ho,hc,hv⟩,hr⟩:=zk6 (T:=T) b a (by omega) hl (0,0,b++List.replicate 1 0) ⟨Yu _,Yu _,by simp,by simp⟩;unfold Zfx at hr;simp at hr;have hog:out[b.length]? = some (out[b.length]'(by omega)):=Ya _;have h1:(a.length:Int)<b.length:=by omega
 have h3:(b.length:Int)<(b.length:Int)+1:=by omega
 have hval:val (out.set b.length (w32 c))=val a+val b:=by
  rw[←Yb (l:=out.set b.length (w32 c)) (i:=b.length+1) (by simp;omega),zb6 _ (by omega),zah (by omega),hv,Yb6]
 have ht:=zbk (T:=T) (out.set b.length (w32 c)) (by simp;omega);rw[hval]at ht;have htk:List.take (b.length+1) (out.set b.length (w32 c))=out.set b.length (w32 c):=Yb (by simp;omega);rw[zab Zn.h85 rfl,b85];simp[h1,hf,hr,h3,zbj _ _ _ (show c<4294967296 by omega),htk,ht,ho]
theorem zwa(a b:List UInt32)(ha:a.length≤1000000)(hb:b.length≤1000000):Za T 85 [.sl (Zb a) .an,.sl (Zb b) .an]=some (.sl (Zb (ofN (val a+val b))) .an):=by
 rcases Yt a.length b.length with h | h
 ·exact zpx a b h hb
 ·exact zs1 a b h ha
def Zdk(l:List (List UInt32)):Nat:=(l.map val).sum
theorem zwb(K:Nat):∀m:List (List UInt32),m.length≤1000→(∀a∈m,a.length≤K)→(ofN (Zdk m)).length≤K+1:=by
 intro m hm hw;apply zae;rw[Yaa];have hp0:0<4294967296^K:=Ybg (by decide);have hall:∀a∈m,val a<4294967296^K:=fun a ha=>Yl (za5 a) (Yn (by decide) (hw a ha));generalize 4294967296^K=p at *
 have h1:Zdk m≤m.length*p:=by
  clear hm hw
  induction m with
  | nil=>simp[Zdk]
  | cons a m ih=>
   have h2:=ih fun a ha=>hall a (Ym _ ha);have h3:=hall a Y2;simp only[Zdk,Yv,Yci,Yk,Ybk,Ydk]at h2 ⊢;omega
 have h6:=Yr p hm;omega
theorem zwc(l:List (List UInt32))(hl:l.length≤1000)(hw:∀a∈l,a.length≤90000):∀i:Nat,i≤l.length →
  Zv T 0 0 (.norm false [3]) l56_0 ⟨[(3,.sl (Zb (ofN (Zdk (l.take i)))) .an),(6,.sl (lls l) .an),(7,.i .i64 l.length),(8,.i .i64 i)],[],2⟩=some (.n,⟨[(3,.sl (Zb (ofN (Zdk l))) .an)],[],2⟩):=by
 refine za1 (fun i:Nat=>⟨[(3,.sl (Zb (ofN (Zdk (l.take i)))) .an),(6,.sl (lls l) .an),(7,.i .i64 l.length),(8,.i .i64 i)],[],2⟩) _ (fun i=>l.length-i) _ ?_;intro i hi;by_cases h0:i<l.length
 ·left;have hg:l[i]? = some (l[i]'h0):=Ya h0;have hwr:IntKind.wrap .i64 ((i:Int)+1)=((i+1:Nat):Int):=zac _ (by omega);have hw1:=hw _ (Yp h0);have ht:=zbk (T:=T) (l[i]'h0) (by omega);have hs:=zwb 90000 (l.take i) (by simp;omega) fun a ha=>hw a (Y9 ha);have hp:=zwa (T:=T) (ofN (Zdk (l.take i))) (ofN (val (l[i]'h0))) (by omega) (by have:=zad (l[i]'h0);omega);rw[zag,zag]at hp;have e:Zdk (l.take i)+val (l[i]'h0)=Zdk (l.take (i+1)):=by
   unfold Zdk;rw[Ycx,hg];simp only[Option.toList_some,Ycd,Yv,Yb9,List.sum_append,Yci,List.sum_nil,Y1]
  rw[e]at hp;have hz:Ziu 1 (lls l)=true:=by cases l<;>simp[lls,Ziu]
  refine⟨i+1,h0,by show l.length-(i+1)<l.length-i;omega,?_,rfl⟩;simp[l56_0,h0,ht,hp,hwr]
 ·right;have:i=l.length:=by omega
  subst this;rw[Yb (Yg _)];constructor<;>simp[l56_0]
theorem zoc(l:List (List UInt32))(hl:l.length≤1000)(hw:∀a∈l,a.length≤90000):Za T 56 [.sl (lls l) .an]=some (.sl (Zb (ofN (Zdk l))) .an):=by
 have h:=zwc (T:=T) l hl hw 0 (Yu _);simp[Zdk]at h;rw[zab Zn.h56 rfl,b56];simp[h,Zdk]
theorem zs2(l:List (List UInt32))(hl:l.length≤1000)(hw:∀a∈l,a.length≤10000):Za T 56 [.sl (lls l) .an]=some (.sl (Zb (ofN (Zdk l))) .an):=zoc (T:=T) l hl (fun a h=>Yc (hw a h) (by decide))
end
section
variable{T:Tbl}
theorem zwd(a b:List UInt32)(hab:a.length=b.length)(hl:a.length≤1000000):∀m:Nat,m≤a.length →
  Zv T 0 1 (.norm false []) l87_0 ⟨[(0,.sl (Zb a) .an),(1,.sl (Zb b) .an),(5,.i .i64 ((m:Int)-1))],[],2⟩ =
   if val (a.take m)<val (b.take m) then some (.r,⟨[(4,.i .i64 (-1))],[],2⟩) else if val (b.take m)<val (a.take m) then some (.r,⟨[(4,.i .i64 1)],[],2⟩) else some (.n,⟨[],[],2⟩):=by
 refine za1 (fun m:Nat=>⟨[(0,.sl (Zb a) .an),(1,.sl (Zb b) .an),(5,.i .i64 ((m:Int)-1))],[],2⟩) _ (fun m=>m) _ ?_;intro m hm;cases m with
 | zero=>
  right;constructor<;>simp[l87_0]
 | succ i=>
  have ha:a[i]? = some (a[i]'(by omega)):=Ya _;have hb:b[i]? = some (b[i]'(by omega)):=Ya _;have hia:i<a.length:=by omega
  have hib:i<b.length:=by omega
  have hw:IntKind.wrap .i64 ((i:Int)-1)=(i:Int)-1:=zac _ (by omega);rcases Ycy (a[i]'hia).toNat (b[i]'hib).toNat with h1 | h1 | h1
  ·right;have h2:=zuf ha hb h1;constructor<;>simp[l87_0,hia,hib,h1,h2]
  ·left;refine⟨i,by omega,Yx i,?_,?_⟩
   ·simp[l87_0,hia,hib,h1,hw]
   ·have e1:=zaf ha;have e2:=zaf hb;rw[e1,e2,h1];have e3:(val (a.take i)+4294967296^i*(b[i]'hib).toNat<val (b.take i)+4294967296^i*(b[i]'hib).toNat)=(val (a.take i)<val (b.take i)):=by
     apply propext;omega
    have e4:(val (b.take i)+4294967296^i*(b[i]'hib).toNat<val (a.take i)+4294967296^i*(b[i]'hib).toNat)=(val (b.take i)<val (a.take i)):=by
     apply propext;omega
    simp only[e3,e4]
  ·right;have h2:=zuf hb ha h1;have h3:¬ val (a.take (i+1))<val (b.take (i+1)):=by omega
   have h4:¬ (a[i]'hia).toNat<(b[i]'hib).toNat:=by omega
   constructor<;>simp[l87_0,hia,hib,h1,h2,h3,h4]
end
section
variable{T:Tbl}[Zn T]
theorem zg5(a b:List UInt32)(ha:a.length≤1000000)(hb:b.length≤1000000):Za T 87 [.sl (Zb a) .an,.sl (Zb b) .an]=some (.i .i64 (Zfz (val a) (val b))):=by
 have hta:=zbk (T:=T) a (by omega);have htb:=zbk (T:=T) b (by omega);have hla:=zad a;have hlb:=zad b;rw[zab Zn.h87 rfl,b87];rcases Ycy (ofN (val a)).length (ofN (val b)).length with h | h | h
 ·have h1:=zfm h;simp[hta,htb,h,Zfz,h1]
 ·have hc:=zwd (T:=T) (ofN (val a)) (ofN (val b)) h (by omega) (ofN (val a)).length (Yg _);rw[Yb (Yg _),Yb (by omega),zag,zag]at hc;have hw:IntKind.wrap .i64 (((ofN (val a)).length:Int)-1)=((ofN (val a)).length:Int)-1:=zac _ (by omega);have h1:¬ (ofN (val a)).length<(ofN (val b)).length:=by omega
  have h2:¬ (ofN (val b)).length<(ofN (val a)).length:=by omega
  simp[hta,htb,h1,h2,hw,hc,Zfz]
  repeat' split
  all_goals simp
 ·have h1:=zfm h;have h2:¬ val a<val b:=by omega
  have h3:¬ (ofN (val a)).length<(ofN (val b)).length:=by omega
  simp[hta,htb,h,Zfz,h1,h2,h3]
def Zih(a b:List UInt32)(y:Nat×Nat×List UInt32):St:=
 ⟨[(0,.sl (Zb a) .an),(1,.sl (Zb b) .an),(6,.bs (.fld (.loc 19) 10) 1 1 0 a.length),(7,u32 y.2.1),(21,.i .i64 a.length),(22,.i .i64 y.1)],
  [(.fld (.loc 19) 10,⟨1,.own,1,Zb y.2.2⟩)],3⟩
theorem zwe(a b:List UInt32)(hb:b.length≤a.length)(hl:a.length≤1000000):∀y:Nat×Nat×List UInt32,
  (y.1≤a.length∧y.2.1≤1∧y.2.2.length=a.length∧val (y.2.2.take y.1)+val (b.take y.1)=val (a.take y.1)+4294967296^y.1*y.2.1) →
  ∃r,(∃(c:Nat) (out:List UInt32),r=(Ex.n,(⟨[(6,.bs (.fld (.loc 19) 10) 1 1 0 a.length)],[(.fld (.loc 19) 10,⟨1,.own,1,Zb out⟩)],3⟩:St)) ∧
   out.length=a.length∧c≤1∧val out+val b=val a+4294967296^a.length*c)∧Zv T 0 0 (.norm false [6]) l88_0 (Zih a b y)=some r:=by
 refine za0 _ _ (fun y=>a.length-y.1) _ ?_
 rintro⟨i,c,out⟩ ⟨hi,hc,ho,hv⟩
 simp only at hi hc ho hv;by_cases h0:i<a.length
 ·left;have ha:a[i]? = some (a[i]'h0):=Ya h0;have hoi:i<out.length:=by omega
  have hog:out[i]? = some (out[i]'hoi):=Ya hoi;have hw:IntKind.wrap .i64 ((i:Int)+1)=((i+1:Nat):Int):=zac _ (by omega);have hc2:c<4294967296:=by omega
  have hx:=zal (a[i]'h0);have h1:=zaf ha;have fin:∀z:Nat,z<4294967296→val (b.take (i+1))=val (b.take i)+4294967296^i*z →
    val ((out.set i (w32 ((a[i]'h0).toNat+8589934592-(z+c)))).take (i+1))+val (b.take (i+1))=val (a.take (i+1))+4294967296^(i+1)*(2-((a[i]'h0).toNat+8589934592-(z+c))/4294967296):=by
   intro z hz h3;have hs:=(zjh hx hz hc).1;rw[zb6 _ hoi,h1,h3,zdc,Yaa];generalize 4294967296^i=p at *
   generalize (a[i]'h0).toNat=x at *
   generalize (x+8589934592-(z+c))%4294967296=s at *
   generalize 2-(x+8589934592-(z+c))/4294967296=d at *
   have e2:p*s+p*(z+c)=p*x+p*4294967296*d:=by rw[←Yaf,hs,Yaf,Yam]
   rw[Yaf]at e2;omega
  by_cases h2:i<b.length
  ·have hbg:b[i]? = some (b[i]'h2):=Ya h2;have h3:=zaf hbg;refine⟨(i+1,2-((a[i]'h0).toNat+8589934592-((b[i]'h2).toNat+c))/4294967296,out.set i (w32 ((a[i]'h0).toNat+8589934592-((b[i]'h2).toNat+c)))),⟨h0,(zjh hx (zal _) hc).2,by simp[ho],fin _ (zal _) h3⟩,by simp only;omega,?_⟩;simp[l88_0,Zih,h0,h2,hog,hw,zeu,hc2]
  ·have h3:val (b.take (i+1))=val (b.take i)+4294967296^i*0:=by rw[zbi (by omega),zbi (by omega)];simp
   refine⟨(i+1,2-((a[i]'h0).toNat+8589934592-(0+c))/4294967296,out.set i (w32 ((a[i]'h0).toNat+8589934592-(0+c)))),⟨h0,(zjh hx (by decide) hc).2,by simp[ho],fin 0 (by decide) h3⟩,by simp only;omega,?_⟩;simp[l88_0,Zih,h0,h2,hog,hw,zeu,hc2]
 ·right;have:i=a.length:=by omega
  subst this;rw[Yb (Yg _),Yb hb,Yb (by omega)]at hv;refine⟨_,⟨c,out,rfl,ho,hc,hv⟩,?_,?_⟩<;>simp[l88_0,Zih]
theorem zdb{x y:Nat}:Zfz x y<0↔x<y:=by
 unfold Zfz;split
 ·simp[*]
 ·split<;>simp[*]
theorem zs3(a b:List UInt32)(ha:a.length≤1000000)(hb:b.length≤1000000):Za T 88 [.sl (Zb a) .an,.sl (Zb b) .an] =
  some (if val a<val b then .tup [.sl [] .an,.b false] else .tup [.sl (Zb (ofN (val a-val b))) .an,.b true]):=by
 have hta:=zbk (T:=T) a (by omega);have htb:=zbk (T:=T) b (by omega);have hla:=zad a;have hlb:=zad b;have hc:=zg5 (T:=T) (ofN (val a)) (ofN (val b)) (by omega) (by omega);rw[zag,zag]at hc;rw[zab Zn.h88 rfl,b88];by_cases h:val a<val b
 ·simp[hta,htb,hc,zdb,h]
 ·have hle:=zbl (show val b≤val a by omega);have hf:=zcb (T:=T) (ofN (val a)) 0 (by omega);simp only[Y3,Y1,List.replicate_zero,Ybb]at hf;obtain⟨_,⟨c,out,rfl,ho,hc1,hv⟩,hr⟩:=zwe (T:=T) (ofN (val a)) (ofN (val b)) hle (by omega) (0,0,ofN (val a)) ⟨Yu _,Yu _,rfl,by simp⟩;unfold Zih at hr;simp at hr;rw[zag,zag]at hv;have hlt:=za5 out;rw[ho]at hlt;have hc0:c=0:=by
   rcases Ybd c with h1 | h1
   ·exact h1
   ·have:c=1:=by omega
    subst this;omega
  subst hc0;have hval:val out=val a-val b:=by omega
  have ht:=zbk (T:=T) out (by omega);rw[hval]at ht;have htk:List.take (ofN (val a)).length out=out:=Yb (by omega);simp[hta,htb,hc,zdb,h,hf,hr,ho,htk,ht]
theorem zzo(a b:List UInt32)(ha:a.length≤1000000)(hb:b.length≤1000000):Za T 57 [.sl (Zb a) .an,.sl (Zb b) .an] =
  some (.tup [.sl (Zb (ofN (if val a<val b then val b-val a else val a-val b))) .an,.i .i64 (Zfz (val a) (val b))]):=by
 have hc:=zg5 (T:=T) a b ha hb;rw[zab Zn.h57 rfl,b57];by_cases h:val a<val b
 ·have h2:¬ val b<val a:=by omega
  have hs:=zs3 (T:=T) b a hb ha;rw[if_neg h2]at hs;simp[hc,zdb,h,hs]
 ·have hs:=zs3 (T:=T) a b ha hb;rw[if_neg h]at hs;simp[hc,zdb,h,hs]
theorem zwf{x y:Nat}(hx:x<4294967296):x ||| (y*4294967296)=x+y*4294967296:=by
 have:=Ycf (i:=32) hx y;rw[Nat.or_comm,Yae y,show (4294967296:Nat)=2^32 from rfl,←this];omega
end
section
variable{T:Tbl}
theorem zpy(l:List UInt32)(hl:l.length≤2):∀i:Nat,i≤l.length →
  Zv T 0 0 (.norm false [4]) l73_0 ⟨[(4,u64 (val (l.take i))),(12,.sl (Zb l) .an),(13,.i .i64 l.length),(14,.i .i64 i)],[],2⟩=some (.n,⟨[(4,u64 (val l))],[],2⟩):=by
 refine za1 (fun i:Nat=>⟨[(4,u64 (val (l.take i))),(12,.sl (Zb l) .an),(13,.i .i64 l.length),(14,.i .i64 i)],[],2⟩) _ (fun i=>l.length-i) _ ?_;intro i hi;by_cases h0:i<l.length
 ·left;have hg:l[i]? = some (l[i]'h0):=Ya h0;have hx:=zal (l[i]'h0);have h1:=zaf hg;refine⟨i+1,h0,by show l.length-(i+1)<l.length-i;omega,?_,rfl⟩;rcases(show i=0∨i=1 by omega) with rfl | rfl
  ·simp[l73_0,h0,h1]
  ·have h2:val (l.take 1)<4294967296:=by
    have:=za5 (l.take 1);have h3:(l.take 1).length=1:=by simp;omega
    rw[h3]at this;simpa using this
   have e1:(l[1]'h0).toNat*4294967296%18446744073709551616=(l[1]'h0).toNat*4294967296:=Ys (by omega);have e2:=zwf (y:=(l[1]'h0).toNat) h2;have e3:(val (l.take 1)+(l[1]'h0).toNat*4294967296)%18446744073709551616=val (l.take 1)+(l[1]'h0).toNat*4294967296:=Ys (by omega);have e4:val (l.take 1)+(l[1]'h0).toNat*4294967296=val (l.take (1+1)):=by rw[h1];omega
   simp at e4;have h0':(1:Int)<(l.length:Int):=by omega
   have e5:val (List.take 2 l)<18446744073709551616:=by omega
   simp[l73_0,h0,h0',e1,e2,e4,e5]
 ·right;have:i=l.length:=by omega
  subst this;rw[Yb (Yg _)];constructor<;>simp[l73_0]
end
section
variable{T:Tbl}[Zn T]
theorem zk7(a:List UInt32)(ha:a.length≤1000000):Za T 73 [.sl (Zb a) .an] =
  some (if val a<18446744073709551616 then .tup [u64 (val a),.b true] else .tup [u64 0,.b false]):=by
 have hta:=zbk (T:=T) a (by omega);have hla:=zad a;have hv:=zag (val a);rw[zab Zn.h73 rfl,b73];generalize hl:ofN (val a)=l at *
 by_cases h:2<l.length
 ·have h2:¬ val a<18446744073709551616:=by
   intro h3;have:=zae (show val a<4294967296^2 from h3);rw[hl]at this;omega
  have h3:(2:Int)<(l.length:Int):=by omega
  simp[hta,h3,h2]
 ·have h2:val a<18446744073709551616:=by
   have:=za5 l;rw[hv]at this;have h3:4294967296^l.length≤4294967296^2:=Yn (by decide) (by omega);omega
  have h3:¬ (2:Int)<(l.length:Int):=by omega
  have hs:=zpy (T:=T) l (by omega) 0 (Yu _);simp at hs;simp[hta,h3,h2,hs,hv]
end
def l89_0:AX:=
 (.note
 (.seq
 (.reg [rg 15 (.bin .lss (.t 14) (.t 13))])
 (.seq
 (.cond (.t 15)
 .skip
 (.exit 0))
 (.seq
 (.block 1
 (.seq
 (.reg [mv 16 14,rg 17 (.iad 1 (.t 12) (.t 14)),rg 18 (.load none (.t 17)),mv 10 16,mv 11 18])
 (.reg [mv 20 0,mv 21 1,mv 22 10,rg 23 (.bin .add (.t 21) (.t 22)),mv 24 3,mv 25 11,mv 26 0,mv 27 1,mv 28 10,rg 29 (.bin .add (.t 27) (.t 28)),rg 30 (.iad 1 (.t 26) (.t 29)),rg 31 (.load none (.t 30)),mv 32 4,rg 33 (.call 117 [(.t 24),(.t 25),(.t 31),(.t 32)]),mv 19 33,rg 34 (.ext (.t 19) 0),rg 35 (.ext (.t 19) 1),mv 4 34,rg 36 (.iad 1 (.t 20) (.t 23)),so (.store 1 (.t 36) (.t 35))])))
 (.reg [rg 37 (.bin .add (.t 14) (.c (.i .i64 1))),mv 14 37]))))
 (.norm false [0,1,2,3,4,12,13,14]))
def b89:AX:=
 (.seq
 (.seq
 (.reg [mv 12 2,rg 13 (.len (.t 12)),rg 14 (.mov (.c (.i .i64 0)))])
 (.lp 0 (.norm false [0,1,2,3,4,12,13,14]) l89_0 (.norm false [0,1,2,4])))
 (.reg [mv 38 0,mv 39 1,mv 40 2,rg 41 (.len (.t 40)),rg 42 (.bin .add (.t 39) (.t 41)),mv 43 4,rg 44 (.iad 1 (.t 38) (.t 42)),so (.store 1 (.t 44) (.t 43))]))
def b100:AX:=
 (.seq
 (.reg [rg 6 (.mov (.c (.sl [] .nl)))])
 (.seq
 (.reg [mv 8 0,rg 9 (.len (.t 8)),rg 10 (.bin .add (.t 9) (.c (.i .i64 1))),rg 11 (.mks 1 [(u32 0)] (.t 10) (.t 10)),mv 7 11])
 (.seq
 (.reg [mv 12 7,mv 13 0,mv 14 1,mv 15 2,rg 16 (.call 89 [(.t 12),(.c (.i .i64 0)),(.t 13),(.t 14),(.t 15)])])
 (.seq
 (.reg [mv 17 7,rg 18 (.call 71 [(.t 17)]),mv 6 18])
 (.pre (.norm false [6]) .ret)))))
def l60_0:AX:=
 (.note
 (.seq
 (.reg [rg 18 (.bin .lss (.t 17) (.t 16))])
 (.seq
 (.cond (.t 18)
 .skip
 (.exit 0))
 (.seq
 (.block 1
 (.seq
 (.reg [mv 19 17,rg 20 (.iad 1 (.t 15) (.t 17)),rg 21 (.load none (.t 20)),mv 6 19,mv 7 21])
 (.reg [mv 22 5,mv 23 6,mv 24 0,mv 25 7,rg 26 (.call 89 [(.t 22),(.t 23),(.t 24),(.t 25),(.c (u32 0))])])))
 (.reg [rg 27 (.bin .add (.t 17) (.c (.i .i64 1))),mv 17 27]))))
 (.norm false [0,5,15,16,17]))
def b60:AX:=
 (.seq
 (.reg [rg 4 (.mov (.c (.sl [] .nl)))])
 (.seq
 (.reg [mv 8 0,rg 9 (.len (.t 8)),mv 10 1,rg 11 (.len (.t 10)),rg 12 (.bin .add (.t 9) (.t 11)),rg 13 (.bin .add (.t 12) (.c (.i .i64 1))),rg 14 (.mks 1 [(u32 0)] (.t 13) (.t 13)),mv 5 14])
 (.seq
 (.seq
 (.reg [mv 15 1,rg 16 (.len (.t 15)),rg 17 (.mov (.c (.i .i64 0)))])
 (.lp 0 (.norm false [0,5,15,16,17]) l60_0 (.norm false [5])))
 (.seq
 (.reg [mv 28 5,rg 29 (.call 71 [(.t 28)]),mv 4 29])
 (.pre (.norm false [4]) .ret)))))
def row89:AFx:=⟨5,45,[],b89,(some [true,false,false,false,false]),false⟩
def row100:AFx:=⟨3,19,[.t 6],b100,none,false⟩
def row60:AFx:=⟨2,30,[.t 4],b60,none,false⟩
class Zs (T:Tbl):Prop extends Zn T where
 h89:T 89=some row89
 h100:T 100=some row100
 h60:T 60=some row60
section
variable{T:Tbl}[Zs T]{d:Option Nat}{st:St}
@[simp] theorem x89(xs:List AV):Zd (orc T) T 89 xs d st=bL (Zeq st.heap [true,false,false,false,false] xs) fun ys=>Zef ys (Zj (Za4 [true,false,false,false,false] xs) st.heap) (Zc0 (Zj (Za4 [true,false,false,false,false] xs) st.heap) 40 (Zcj [true,false,false,false,false] xs) []) T 89 false d st:=zay Zs.h89
@[simp] theorem x100(xs:List AV):Zd (orc T) T 100 xs d st=cP T 100 false xs d st:=zaa Zs.h100
@[simp] theorem x60(xs:List AV):Zd (orc T) T 60 xs d st=cP T 60 false xs d st:=zaa Zs.h60
@[simp] theorem y60{e:Env}{h:Heap}{older:List Heap}(args:List Opd):opD (orc T) T (.call 60 args) e h older=dR (Za T 60 ((args.map (ev e.get)).map (wkIf false))) (args.map (ev e.get)):=zao Zs.h60
end
def l92_0:AX:=
 (.note
 (.seq
 (.reg [rg 27 (.bin .lss (.t 26) (.t 25))])
 (.seq
 (.cond (.t 27)
 .skip
 (.exit 0))
 (.seq
 (.block 1
 (.seq
 (.reg [mv 28 26,rg 29 (.iad 1 (.t 24) (.t 26)),rg 30 (.load none (.t 29)),mv 8 28,mv 9 30])
 (.seq
 (.reg [mv 31 9,rg 32 (.conv .u64 (.t 31)),mv 33 6,rg 34 (.bin .shl (.t 32) (.t 33)),mv 10 34])
 (.seq
 (.reg [mv 35 7,mv 36 5,mv 37 8,rg 38 (.bin .add (.t 36) (.t 37)),rg 39 (.iad 1 (.t 35) (.t 38)),rg 40 (.load none (.t 39)),mv 41 10,rg 42 (.conv .u32 (.t 41)),rg 43 (.bin .or (.t 40) (.t 42)),rg 44 (.iad 1 (.t 35) (.t 38)),so (.store 1 (.t 44) (.t 43))])
 (.reg [mv 45 7,mv 46 5,mv 47 8,rg 48 (.bin .add (.t 46) (.t 47)),rg 49 (.bin .add (.t 48) (.c (.i .i64 1))),mv 50 10,rg 51 (.bin .shr (.t 50) (.c (u64 32))),rg 52 (.conv .u32 (.t 51)),rg 53 (.iad 1 (.t 45) (.t 49)),so (.store 1 (.t 53) (.t 52))])))))
 (.reg [rg 54 (.bin .add (.t 26) (.c (.i .i64 1))),mv 26 54]))))
 (.norm false [5,6,7,24,25,26]))
def b92:AX:=
 (.seq
 (.reg [rg 4 (.mov (.c (.sl [] .nl)))])
 (.seq
 (.reg [mv 11 1,rg 12 (.mm true [(.t 11),(.c (.i .i64 0))]),rg 13 (.mm false [(.t 12),(.c (.i .i64 4096))]),mv 1 13])
 (.seq
 (.reg [mv 14 1,rg 15 (.bin .quo (.t 14) (.c (.i .i64 32))),mv 16 1,rg 17 (.bin .rem (.t 16) (.c (.i .i64 32))),mv 5 15,mv 6 17])
 (.seq
 (.reg [mv 18 5,mv 19 0,rg 20 (.len (.t 19)),rg 21 (.bin .add (.t 18) (.t 20)),rg 22 (.bin .add (.t 21) (.c (.i .i64 1))),rg 23 (.mks 1 [(u32 0)] (.t 22) (.t 22)),mv 7 23])
 (.seq
 (.seq
 (.reg [mv 24 0,rg 25 (.len (.t 24)),rg 26 (.mov (.c (.i .i64 0)))])
 (.lp 0 (.norm false [5,6,7,24,25,26]) l92_0 (.norm false [7])))
 (.seq
 (.reg [mv 55 7,rg 56 (.call 71 [(.t 55)]),mv 4 56])
 (.pre (.norm false [4]) .ret)))))))
def l94_0:AX:=
 (.note
 (.seq
 (.reg [rg 28 (.bin .lss (.t 27) (.t 26))])
 (.seq
 (.cond (.t 28)
 .skip
 (.exit 0))
 (.seq
 (.block 1
 (.seq
 (.reg [mv 29 27,mv 8 29])
 (.seq
 (.reg [mv 30 0,mv 31 5,mv 32 8,rg 33 (.bin .add (.t 31) (.t 32)),rg 34 (.iad 1 (.t 30) (.t 33)),rg 35 (.load none (.t 34)),rg 36 (.conv .u64 (.t 35)),mv 9 36])
 (.seq
 (.seq
 (.reg [mv 37 5,mv 38 8,rg 39 (.bin .add (.t 37) (.t 38)),rg 40 (.bin .add (.t 39) (.c (.i .i64 1))),mv 41 0,rg 42 (.len (.t 41)),rg 43 (.bin .lss (.t 40) (.t 42))])
 (.cond (.t 43)
 (.reg [mv 44 9,mv 45 0,mv 46 5,mv 47 8,rg 48 (.bin .add (.t 46) (.t 47)),rg 49 (.bin .add (.t 48) (.c (.i .i64 1))),rg 50 (.iad 1 (.t 45) (.t 49)),rg 51 (.load none (.t 50)),rg 52 (.conv .u64 (.t 51)),rg 53 (.bin .shl (.t 52) (.c (u64 32))),rg 54 (.bin .or (.t 44) (.t 53)),mv 9 54])
 .skip))
 (.reg [mv 55 7,mv 56 8,mv 57 9,mv 58 6,rg 59 (.bin .shr (.t 57) (.t 58)),rg 60 (.conv .u32 (.t 59)),rg 61 (.iad 1 (.t 55) (.t 56)),so (.store 1 (.t 61) (.t 60))])))))
 (.reg [rg 62 (.bin .add (.t 27) (.c (.i .i64 1))),mv 27 62]))))
 (.norm false [0,5,6,7,26,27]))
def b94:AX:=
 (.seq
 (.reg [rg 4 (.mov (.c (.sl [] .nl)))])
 (.seq
 (.reg [mv 10 1,rg 11 (.mm true [(.t 10),(.c (.i .i64 0))]),mv 1 11])
 (.seq
 (.reg [mv 12 1,rg 13 (.bin .quo (.t 12) (.c (.i .i64 32))),mv 14 1,rg 15 (.bin .rem (.t 14) (.c (.i .i64 32))),mv 5 13,mv 6 15])
 (.seq
 (.seq
 (.reg [mv 16 5,mv 17 0,rg 18 (.len (.t 17)),rg 19 (.bin .geq (.t 16) (.t 18))])
 (.cond (.t 19)
 (.seq
 (.reg [rg 4 (.mov (.c (.sl [] .nl)))])
 (.pre (.norm false [4]) .ret))
 .skip))
 (.seq
 (.reg [mv 20 0,rg 21 (.len (.t 20)),mv 22 5,rg 23 (.bin .sub (.t 21) (.t 22)),rg 24 (.mks 1 [(u32 0)] (.t 23) (.t 23)),mv 7 24])
 (.seq
 (.seq
 (.reg [mv 25 7,rg 26 (.len (.t 25)),rg 27 (.mov (.c (.i .i64 0)))])
 (.lp 0 (.norm false [0,5,6,7,26,27]) l94_0 (.norm false [7])))
 (.seq
 (.reg [mv 63 7,rg 64 (.call 71 [(.t 63)]),mv 4 64])
 (.pre (.norm false [4]) .ret))))))))
def row92:AFx:=⟨2,57,[.t 4],b92,none,false⟩
def row94:AFx:=⟨2,65,[.t 4],b94,none,false⟩
class Zw (T:Tbl):Prop where
 h92:T 92=some row92
 h94:T 94=some row94
section
variable{T:Tbl}[Zw T]{d:Option Nat}{st:St}
@[simp] theorem x92(xs:List AV):Zd (orc T) T 92 xs d st=cP T 92 false xs d st:=zaa Zw.h92
@[simp] theorem x94(xs:List AV):Zd (orc T) T 94 xs d st=cP T 94 false xs d st:=zaa Zw.h94
end
theorem zff{P m S:List UInt32}{i:Nat}(hm:m.length=i)(hi:i<S.length):(P++(m++S.drop i))[P.length+i]? = some (S[i]'hi):=by
 rw[Yi (by omega),Yb0,Yi (by omega),hm,Ybw,Yab,Y1,Ya hi]
theorem zfg{P m S:List UInt32}{i:Nat}(w:UInt32)(hm:m.length=i)(hi:i<S.length):(P++(m++S.drop i)).set (P.length+i) w=P++((m++[w])++S.drop (i+1)):=by
 rw[Y5 (P.length+i) w (by omega),Yb0,Y5 i w (by omega),hm,Ybw,Yq hi,Ybm];simp
section
variable{T:Tbl}[Zs T]
def Zi9(P S a:List UInt32)(x:Nat)(y:Nat×Nat×List UInt32):St:=
 ⟨[(0,.bs (.bor 0) 0 1 0 (P.length+S.length)),(1,.i .i64 P.length),(2,.sl (Zb a) .an),(3,u32 x),(4,u32 y.2.1),(12,.sl (Zb a) .an),(13,.i .i64 a.length),(14,.i .i64 y.1)],
  [(.bor 0,⟨0,.own,1,Zb (P++(y.2.2++S.drop y.1))⟩)],4⟩
theorem zwp{p m w c c' s x y t v k:Nat}(h:m+p*c=s+x*t+k)(e:w+4294967296*c'=x*y+v+c):(m+p*w)+p*4294967296*c'=(s+p*v)+x*(t+p*y)+k:=by
 have e2:p*w+p*4294967296*c'=p*(x*y)+p*v+p*c:=by rw[Yam,←Yaf,e,Yaf,Yaf]
 have e3:x*(t+p*y)=x*t+p*(x*y):=by rw[Yaf,←Yam,Yae x p,Yam]
 omega
theorem zwq(P S a:List UInt32)(x c0:Nat)(hx:x<4294967296)(hS:a.length<S.length)(hl:P.length+S.length≤1000000):∀y:Nat×Nat×List UInt32,
  (y.1≤a.length∧y.2.1<4294967296∧y.2.2.length=y.1∧val y.2.2+4294967296^y.1*y.2.1=val (S.take y.1)+x*val (a.take y.1)+c0) →
  ∃r,(∃(c:Nat) (m:List UInt32),r=(Ex.n,(⟨[(0,.bs (.bor 0) 0 1 0 (P.length+S.length)),(1,.i .i64 P.length),(2,.sl (Zb a) .an),(4,u32 c)],[(.bor 0,⟨0,.own,1,Zb (P++(m++S.drop a.length))⟩)],4⟩:St)) ∧
   m.length=a.length∧c<4294967296∧val m+4294967296^a.length*c=val (S.take a.length)+x*val a+c0)∧Zv T 1 0 (.norm false [0,1,2,4]) l89_0 (Zi9 P S a x y)=some r:=by
 refine za0 _ _ (fun y=>a.length-y.1) _ ?_
 rintro⟨i,c,m⟩ ⟨hi,hc,hm,hv⟩
 simp only at hi hc hm hv;by_cases h0:i<a.length
 ·left;have ha:a[i]? = some (a[i]'h0):=Ya h0;have hiS:i<S.length:=by omega
  have hs:S[i]? = some (S[i]'hiS):=Ya hiS;have hg:=zff (P:=P) hm hiS;have hw:IntKind.wrap .i64 ((i:Int)+1)=((i+1:Nat):Int):=zac _ (by omega);have hw2:IntKind.wrap .i64 ((P.length:Int)+i)=((P.length+i:Nat):Int):=zac _ (by omega);have hlt:P.length+i<P.length+S.length:=by omega
  have hlt2:((P.length+i:Nat):Int)<(P.length:Int)+S.length:=by omega
  have hla:=zal (a[i]'h0);have hls:=zal (S[i]'hiS);have hmul:=zg3 hx hla;have hlen:(P++(m++S.drop i)).length=P.length+S.length:=by simp;omega
  have hcall:=zg4 (T:=T) x (a[i]'h0).toNat (S[i]'hiS).toNat c hx hla hls hc;have hset:=zfg (P:=P) (w32 (x*(a[i]'h0).toNat+(S[i]'hiS).toNat+c)) hm hiS;refine⟨(i+1,(x*(a[i]'h0).toNat+(S[i]'hiS).toNat+c)/4294967296,m++[w32 (x*(a[i]'h0).toNat+(S[i]'hiS).toNat+c)]),⟨h0,by simp only;omega,by simp[hm],?_⟩,by simp only;omega,?_⟩
  ·simp only;rw[zai,zaf ha,zaf hs,Yaa,hm];simp only[zaq,zbo,Yaq,Y1,zdc];exact zwp hv (by have:=Ybq (x*(a[i]'h0).toNat+(S[i]'hiS).toNat+c) 4294967296;omega)
  ·simp[l89_0,Zi9,h0,hw,hw2,hiS,hg,hcall,hset]
 ·right;have:i=a.length:=by omega
  subst this;rw[Yb (Yg a.length)]at hv;refine⟨_,⟨c,m,rfl,hm,hc,hv⟩,?_,?_⟩<;>simp[l89_0,Zi9]
theorem zi7(P S a:List UInt32)(x c0:Nat)(hx:x<4294967296)(hc:c0<4294967296)(hS:a.length<S.length)(hl:P.length+S.length≤1000000) :
  ∃m,m.length=a.length+1∧val m=val (S.take a.length)+x*val a+c0 ∧
   Zcf T 89 [.bs (.bor 0) 0 1 0 (P.length+S.length),.i .i64 P.length,.sl (Zb a) .an,u32 x,u32 c0] [(.bor 0,⟨0,.own,1,Zb (P++S)⟩)] =
    some (.tup [],[(.bor 0,⟨0,.own,1,Zb (P++(m++S.drop (a.length+1)))⟩)]):=by
 obtain⟨_,⟨c,m,rfl,hm,hc1,hv⟩,hr⟩:=zwq (T:=T) P S a x c0 hx hS hl (0,c0,[]) ⟨Yu _,hc,rfl,by simp⟩;unfold Zi9 at hr;simp at hr;refine⟨m++[w32 c],by simp[hm],by rw[zai,hm];simpa[zah hc1]using hv,?_⟩;have hw2:IntKind.wrap .i64 ((P.length:Int)+a.length)=((P.length+a.length:Nat):Int):=zac _ (by omega);have hlt:P.length+a.length<P.length+S.length:=by omega
 have hlt2:((P.length+a.length:Nat):Int)<(P.length:Int)+S.length:=by omega
 have hg:=zff (P:=P) hm hS;have hset:=zfg (P:=P) (w32 c) hm hS;rw[zbn Zs.h89 rfl,b89];simp[hr,hw2,hg,hS,zbj _ _ _ hc1,hset]
def Zja(a b:List UInt32)(y:Nat×List UInt32):St:=
 ⟨[(0,.sl (Zb a) .an),(5,.bs (.loc 14) 1 1 0 (a.length+b.length+1)),(15,.sl (Zb b) .an),(16,.i .i64 b.length),(17,.i .i64 y.1)],[(.loc 14,⟨1,.own,1,Zb (y.2++List.replicate (b.length+1-y.1) 0)⟩)],3⟩
theorem zwr(a b:List UInt32)(ha:a.length≤100000)(hb:b.length≤100000):∀y:Nat×List UInt32,
  (y.1≤b.length∧y.2.length=a.length+y.1∧val y.2=val a*val (b.take y.1)) →
  ∃r,(∃out:List UInt32,r=(Ex.n,(⟨[(5,.bs (.loc 14) 1 1 0 (a.length+b.length+1))],[(.loc 14,⟨1,.own,1,Zb out⟩)],3⟩:St))∧out.length=a.length+b.length+1∧val out=val a*val b) ∧
   Zv T 0 0 (.norm false [5]) l60_0 (Zja a b y)=some r:=by
 refine za0 _ _ (fun y=>b.length-y.1) _ ?_
 rintro⟨i,X⟩ ⟨hi,hX,hv⟩
 simp only at hi hX hv;by_cases h0:i<b.length
 ·left;have hbg:b[i]? = some (b[i]'h0):=Ya h0;have hw:IntKind.wrap .i64 ((i:Int)+1)=((i+1:Nat):Int):=zac _ (by omega);obtain⟨m,hm1,hm2,hc⟩:=zi7 (T:=T) (X.take i) (X.drop i++List.replicate (b.length+1-i) 0) a (b[i]'h0).toNat 0 (zal _) (by decide) (by simp;omega) (by simp;omega);have e1:X.take i++(X.drop i++List.replicate (b.length+1-i) 0)=X++List.replicate (b.length+1-i) 0:=by rw[←Ybj,Yal]
  have e2:(X.take i).length=i:=by simp;omega
  have e3:(X.drop i++List.replicate (b.length+1-i) 0).length=a.length+b.length+1-i:=by simp;omega
  have e4:i+(a.length+b.length+1-i)=a.length+b.length+1:=by omega
  have e5:(X.drop i++List.replicate (b.length+1-i) 0).drop (a.length+1)=List.replicate (b.length+1-(i+1)) 0:=by
   rw[List.drop_append,Yas (by simp;omega),List.drop_replicate];simp only[Ybc,Yao];congr 1;omega
  have e6:(X.drop i++List.replicate (b.length+1-i) 0).take a.length=X.drop i:=by
   rw[Yb2 (by simp;omega),Yb (by simp;omega)]
  rw[e1,e2,e3,e4,e5]at hc;rw[e6]at hm2;simp only[←Ybj]at hc;refine⟨(i+1,X.take i++m),⟨h0,by simp only[Y0,e2,hm1];omega,?_⟩,by simp only;omega,?_⟩
  ·simp only;have e7:=zai (X.take i) (X.drop i);rw[Yal,e2]at e7;rw[zai,e2,hm2,zaf hbg,Yaf (val a),←hv,e7,Yaf,Yaf];have e8:4294967296^i*((b[i]'h0).toNat*val a)=val a*(4294967296^i*(b[i]'h0).toNat):=by
    rw[Yae (b[i]'h0).toNat,←Yam,Yae (4294967296^i) (val a),Yam]
   rw[e8];omega
  ·simp[l60_0,Zja,h0,hw,hc]
 ·right;have:i=b.length:=by omega
  subst this;rw[Yb (Yg _)]at hv;refine⟨_,⟨X++List.replicate (b.length+1-b.length) 0,rfl,by simp;omega,by rw[zai,za8,hv];simp⟩,?_,?_⟩<;>simp[l60_0,Zja]
theorem zez(a b:List UInt32)(ha:a.length≤100000)(hb:b.length≤100000):Za T 60 [.sl (Zb a) .an,.sl (Zb b) .an]=some (.sl (Zb (ofN (val a*val b))) .an):=by
 obtain⟨_,⟨out,rfl,ho,hv⟩,hr⟩:=zwr (T:=T) a b ha hb (0,List.replicate a.length 0) ⟨Yu _,by simp,by simp[za8]⟩;unfold Zja at hr;simp at hr;have hw1:IntKind.wrap .i64 ((a.length:Int)+b.length)=(a.length:Int)+b.length:=zac _ (by omega);have hw:IntKind.wrap .i64 ((a.length:Int)+b.length+1)=(a.length:Int)+b.length+1:=zac _ (by omega);have hle:(a.length:Int)+b.length+1≤4294967296:=by omega
 have hn:=za6 (T:=T) out (by omega);rw[hv]at hn;have htk:List.take (a.length+b.length+1) out=out:=Yb (by omega);have he:a.length+(b.length+1)=a.length+b.length+1:=by omega
 rw[he]at hr;rw[zab Zs.h60 rfl,b60];simp[hw,hw1,hle,hr,ho,htk,hn]
theorem zta(a:List UInt32)(x c:Nat)(ha:a.length≤100000)(hx:x<4294967296)(hc:c<4294967296):Za T 100 [.sl (Zb a) .an,u32 x,u32 c]=some (.sl (Zb (ofN (val a*x+c))) .an):=by
 obtain⟨m,hm1,hm2,hr⟩:=zi7 (T:=T) [] (List.replicate (a.length+1) 0) a x c hx hc (by simp) (by simp;omega);simp at hr;have hv:val m=val a*x+c:=by
  rw[hm2];have:val ((List.replicate (a.length+1) (0:UInt32)).take a.length)=0:=by rw[List.take_replicate,za8]
  rw[this,Yae];omega
 have hw:IntKind.wrap .i64 ((a.length:Int)+1)=(a.length:Int)+1:=zac _ (by omega);have hle:(a.length:Int)+1≤4294967296:=by omega
 have hn:=za6 (T:=T) m (by omega);rw[hv]at hn;have htk:List.take (a.length+1) m=m:=Yb (by omega);rw[zab Zs.h100 rfl,b100];simp[hw,hle,hr,hm1,htk,hn]
end
theorem zw2(w:Nat):4294967296^w=2^(32*w):=by
 rw[Yc8]
theorem zlo(a:List UInt32)(w:Nat)(h:w≤a.length):val a=val (a.take w)+4294967296^w*val (a.drop w):=by
 have:=zai (a.take w) (a.drop w);rw[Yal,Yad,Ybv h]at this;exact this
theorem z0m(a:List UInt32)(w:Nat)(h:w≤a.length):val a/4294967296^w=val (a.drop w):=by
 have hp:0<4294967296^w:=Ybg (by decide);have hlt:=za5 (a.take w);rw[Yad,Ybv h]at hlt;rw[zlo a w h,Yc2 _ _ hp,Ybh hlt,Yai]
theorem zxu{a b n:Nat}(h:a<2^n):a ||| 2^n*b=a+2^n*b:=by
 rw[Nat.or_comm,←Ycf h,Yb6]
theorem z0n{x c n:Nat}(hx:x<4294967296)(hn:n<32)(hc:c<2^n) :
  x*2^n<18446744073709551616∧(c ||| x*2^n%4294967296)=c+x*2^n%4294967296∧c+x*2^n%4294967296<4294967296∧x*2^n/4294967296<2^n∧2^n<4294967296:=by
 have hp:2^(n+(32-n))=4294967296:=by rw[show n+(32-n)=32 by omega]
 rw[Ybp]at hp;have hq:0<2^n:=Ybg (by decide);have hr:1<2^(32-n):=Nat.one_lt_two_pow (by omega);have e1:x*2^n%4294967296=2^n*(x%2^(32-n)):=by rw[←hp,Yae x,Nat.mul_mod_mul_left]
 have e2:=zxu (b:=x%2^(32-n)) hc;rw[←e1]at e2;have hlt:2^n<4294967296:=by
  have h1:=Yan (2^n) (show 2≤2^(32-n) from hr);rw[hp]at h1;omega
 refine⟨?_,e2,?_,?_,hlt⟩
 ·have:=Nat.mul_lt_mul'' hx hlt;simpa using this
 ·rw[e1];have h1:x%2^(32-n)+1≤2^(32-n):=Ya5 _ (by omega);have h2:=Yan (2^n) h1;rw[hp,Yaf,Ydi]at h2;omega
 ·exact Yco (by rw[Yae x];rw[Yae 4294967296];exact Nat.mul_lt_mul_of_pos_left hx hq)
theorem zug{x y R b:Nat}(hb:b<32)(hx:x<4294967296) :
  (x+4294967296*(y+4294967296*R))/2^b=(x+y*4294967296)/2^b%4294967296+4294967296*((y+4294967296*R)/2^b):=by
 have hq:0<2^b:=Ybg (by decide);have h1:(x+4294967296*(y+4294967296*R))/4294967296=y+4294967296*R:=by omega
 have h2:(x+4294967296*(y+4294967296*R))/2^b/4294967296=(y+4294967296*R)/2^b:=by
  rw[Yb3,Yae (2^b),←Yb3,h1]
 have hp:2^b*2^(32-b)=4294967296:=by rw[←Ybp,show b+(32-b)=32 by omega]
 have h3:x+4294967296*(y+4294967296*R)=(x+y*4294967296)+2^b*(4294967296*(2^(32-b)*R)):=by
  have:2^b*(4294967296*(2^(32-b)*R))=4294967296*(4294967296*R):=by
   rw[Nat.mul_left_comm,←Yam (2^b),hp]
  omega
 have h4:(x+4294967296*(y+4294967296*R))/2^b%4294967296=(x+y*4294967296)/2^b%4294967296:=by
  rw[h3,Yc2 _ _ hq,Nat.add_mul_mod_self_left]
 have h5:=Nat.mod_add_div ((x+4294967296*(y+4294967296*R))/2^b) 4294967296;rw[h2,h4]at h5;exact h5.symm
theorem zom{P m R:List UInt32}{i:Nat}{c:UInt32}(hm:m.length=i):(P++(m++c::R))[P.length+i]? = some c:=by
 grind
theorem zjf{P m R:List UInt32}{i:Nat}{c:UInt32}(w:UInt32)(hm:m.length=i):(P++(m++c::R)).set (P.length+i) w=P++(m++w::R):=by
 rw[Y5 (P.length+i) w (by omega),Yb0,Y5 i w (by omega),hm,Ybw,Ybm]
theorem zwy{P m R:List UInt32}{i:Nat}{c d:UInt32}(w:UInt32)(hm:m.length=i):(P++(m++c::d::R)).set (P.length+i+1) w=P++(m++c::w::R):=by
 rw[Ya1,Y5 (P.length+(i+1)) w (by omega),Yb0,Y5 (i+1) w (by omega),hm,show i+1-i=1 by omega]
 rfl
theorem zwz{P m R:List UInt32}{i:Nat}{c d:UInt32}(hm:m.length=i):(P++(m++c::d::R))[P.length+i+1]? = some d:=by
 grind
theorem zf7(n:Nat):w32 (n%4294967296)=w32 n:=zxt (by rw[zdc,Nat.mod_mod])
section
variable{T:Tbl}[Zn T][Zw T]
def Zks(P a:List UInt32)(n:Nat)(y:Nat×Nat×List UInt32):St:=
 ⟨[(5,.i .i64 P.length),(6,.i .i64 n),(7,.bs (.loc 23) 1 1 0 (P.length+a.length+1)),(24,.sl (Zb a) .an),(25,.i .i64 a.length),(26,.i .i64 y.1)],[(.loc 23,⟨1,.own,1,Zb (P++(y.2.2++w32 y.2.1::List.replicate (a.length-y.1) 0))⟩)],3⟩
end
section
variable{T:Tbl}
theorem zua(P a:List UInt32)(n:Nat)(hn:n<32)(hl:P.length+a.length≤1000000):∀y:Nat×Nat×List UInt32,
  (y.1≤a.length∧y.2.1<2^n∧y.2.2.length=y.1∧val y.2.2+4294967296^y.1*y.2.1=2^n*val (a.take y.1)) →
  ∃r,(∃(c:Nat) (m:List UInt32),r=(Ex.n,(⟨[(7,.bs (.loc 23) 1 1 0 (P.length+a.length+1))],[(.loc 23,⟨1,.own,1,Zb (P++(m++[w32 c]))⟩)],3⟩:St)) ∧
   m.length=a.length∧c<2^n∧val m+4294967296^a.length*c=2^n*val a)∧Zv T 0 0 (.norm false [7]) l92_0 (Zks P a n y)=some r:=by
 refine za0 _ _ (fun y=>a.length-y.1) _ ?_
 rintro⟨i,c,m⟩ ⟨hi,hc,hm,hv⟩
 simp only at hi hc hm hv;by_cases h0:i<a.length
 ·left;have ha:a[i]? = some (a[i]'h0):=Ya h0;obtain⟨u1,u2,u3,u4,u5⟩:=z0n (zal (a[i]'h0)) hn hc;have hx:=zal (a[i]'h0);have hrep:List.replicate (a.length-i) (0:UInt32)=0::List.replicate (a.length-(i+1)) 0:=by
   rw[show a.length-i=a.length-(i+1)+1 by omega,Yav]
  have hw:IntKind.wrap .i64 ((i:Int)+1)=((i+1:Nat):Int):=zac _ (by omega);have hw2:IntKind.wrap .i64 ((P.length:Int)+i)=((P.length+i:Nat):Int):=zac _ (by omega);have hw3:IntKind.wrap .i64 ((P.length:Int)+i+1)=((P.length+i+1:Nat):Int):=zac _ (by omega);have hg:=zom (P:=P) (c:=w32 c) (R:=0::List.replicate (a.length-(i+1)) 0) hm;have hg3:=zwz (P:=P) (c:=w32 (c+(a[i]'h0).toNat*2^n%4294967296)) (d:=0) (R:=List.replicate (a.length-(i+1)) 0) hm;have hs1:=zjf (P:=P) (c:=w32 c) (R:=0::List.replicate (a.length-(i+1)) 0) (w32 (c+(a[i]'h0).toNat*2^n%4294967296)) hm;have hs2:=zwy (P:=P) (c:=w32 (c+(a[i]'h0).toNat*2^n%4294967296)) (d:=0) (R:=List.replicate (a.length-(i+1)) 0) (w32 ((a[i]'h0).toNat*2^n/4294967296)) hm;have hmin:min n 64=n:=by omega
  have hlt1:(P.length:Int)+i<(P.length:Int)+a.length+1:=by omega
  have hlt2:(P.length:Int)+i<(P.length:Int)+a.length:=by omega
  have m1:(a[i]'h0).toNat%18446744073709551616=(a[i]'h0).toNat:=Ys (by omega);have m2:=Ys u1;have m3:=Ys u3;have hcc:c<4294967296:=by omega
  have m4:(a[i]'h0).toNat*2^n/4294967296%4294967296=(a[i]'h0).toNat*2^n/4294967296:=Ys (by omega);have m5:(a[i]'h0).toNat*2^n/4294967296<4294967296:=by omega
  refine⟨(i+1,(a[i]'h0).toNat*2^n/4294967296,m++[w32 (c+(a[i]'h0).toNat*2^n%4294967296)]),⟨h0,u4,by grind,?_⟩,by omega,?_⟩
  ·grind[zai,zaf,zaq,zbo,zah,Nat.div_add_mod]
  ·simp -implicitDefEqProofs[l92_0,Zks,h0,hrep,hw,hw2,hw3,hg,hg3,hs1,hs2,zbj _ _ _ u3,zbj _ _ _ m5,hmin,hlt1,hlt2,m1,m2,m3,m4,u2,zah hcc]
 ·right;have:i=a.length:=by omega
  subst this;rw[Yb (Yg a.length)]at hv;refine⟨_,⟨c,m,rfl,hm,hc,hv⟩,?_,?_⟩<;>simp -implicitDefEqProofs[l92_0,Zks]
end
section
variable{T:Tbl}[Zn T][Zw T]
theorem z0j(a:List UInt32)(n:Nat)(hn:n≤4096)(hl:a.length≤100000):Za T 92 [.sl (Zb a) .an,.i .i64 n]=some (.sl (Zb (ofN (val a*2^n))) .an):=by
 obtain⟨_,⟨c,m,rfl,hm,hc,hv⟩,hr⟩:=zua (T:=T) (List.replicate (n/32) 0) a (n%32) (Ya5 _ (by decide)) (by grind) (0,0,[]) ⟨Yu _,Ybg (by decide),rfl,by simp⟩;have hc32:c<4294967296:=Yl hc (by
  have:2^(n%32)≤2^32:=Yn (by decide) (by omega);omega)
 have hval:val (List.replicate (n/32) 0++(m++[w32 c]))=val a*2^n:=by
  rw[zai,za8,Yb8,zai,hm];simp only[zaq,zbo,Yaq,Y1,zah hc32,Yai];rw[hv,zw2,←Yam,←Ybp,show 32*(n/32)+n%32=n by omega,Yae]
 have hlen:(List.replicate (n/32) 0++(m++[w32 c])).length=n/32+a.length+1:=by grind
 have hnm:=za6 (T:=T) (List.replicate (n/32) 0++(m++[w32 c])) (by omega);rw[hval]at hnm;unfold Zks at hr;generalize List.replicate (n/32) 0++(m++[w32 c])=Q at *
 simp at hr;have hz:List.replicate (n/32) (0:UInt32)++w32 0::List.replicate a.length 0=List.replicate (n/32+a.length+1) 0:=by
  have:w32 0=0:=rfl;rw[this,←Yav,Ybu,Ya1]
 rw[hz]at hr;have hn2:¬ (4096:Int)<(n:Int):=by omega
 have hq:(n:Int).tdiv 32=(n:Int)/32:=Ycl (by omega);have hm2:(n:Int).tmod 32=(n:Int)%32:=Ycm (by omega);have w1:IntKind.wrap .i64 ((n:Int)/32)=(n:Int)/32:=zac (n/32) (by omega);have w2:IntKind.wrap .i64 ((n:Int)/32+a.length)=(n:Int)/32+a.length:=zac _ (by omega);have w3:IntKind.wrap .i64 ((n:Int)/32+a.length+1)=(n:Int)/32+a.length+1:=zac _ (by omega);have p1:(0:Int)≤(n:Int)/32+a.length+1:=by omega
 have p2:(n:Int)/32+a.length+1≤4294967296:=by omega
 have p3:((n:Int)/32+a.length+1).toNat=n/32+a.length+1:=by omega
 have htk:List.take (n/32+a.length+1) Q=Q:=Yb (by omega);rw[zab Zw.h92 rfl,b92];simp -implicitDefEqProofs[hn2,hq,hm2,w1,w2,w3,p1,p2,p3,hr,hnm,htk,hlen]
def Zkt(a:List UInt32)(W n:Nat)(y:Nat×List UInt32):St:=
 ⟨[(0,.sl (Zb a) .an),(5,.i .i64 W),(6,.i .i64 n),(7,.bs (.loc 24) 1 1 0 (a.length-W)),(26,.i .i64 (a.length-W:Nat)),(27,.i .i64 y.1)],[(.loc 24,⟨1,.own,1,Zb (y.2++List.replicate (a.length-W-y.1) 0)⟩)],3⟩
end
section
variable{T:Tbl}
theorem zub(a:List UInt32)(W n:Nat)(hn:n<32)(hW:W≤a.length)(hl:a.length≤1000000):∀y:Nat×List UInt32,
  (y.1≤a.length-W∧y.2.length=y.1∧val y.2+4294967296^y.1*(val (a.drop (W+y.1))/2^n)=val (a.drop W)/2^n) →
  ∃r,(∃m:List UInt32,r=(Ex.n,(⟨[(7,.bs (.loc 24) 1 1 0 (a.length-W))],[(.loc 24,⟨1,.own,1,Zb m⟩)],3⟩:St)) ∧
   m.length=a.length-W∧val m=val (a.drop W)/2^n)∧Zv T 0 0 (.norm false [7]) l94_0 (Zkt a W n y)=some r:=by
 refine za0 _ _ (fun y=>a.length-W-y.1) _ ?_
 rintro⟨i,m⟩ ⟨hi,hm,hv⟩
 by_cases h0:i<a.length-W
 ·left;have hWi:W+i<a.length:=by omega
  have ha:a[W+i]? = some (a[W+i]'hWi):=Ya hWi;have hx:=zal (a[W+i]'hWi);have hd:=Yq hWi;have hrep:List.replicate (a.length-W-i) (0:UInt32)=0::List.replicate (a.length-W-(i+1)) 0:=by
   rw[show a.length-W-i=a.length-W-(i+1)+1 by omega,Yav]
  have hw:IntKind.wrap .i64 ((i:Int)+1)=((i+1:Nat):Int):=zac _ (by omega);have hw2:IntKind.wrap .i64 ((W:Int)+i)=((W+i:Nat):Int):=zac _ (by omega);have hw3:IntKind.wrap .i64 ((W:Int)+i+1)=((W+i+1:Nat):Int):=zac _ (by omega);have hg:=zom (P:=[]) (c:=0) (R:=List.replicate (a.length-W-(i+1)) 0) hm;have hmin:min n 64=n:=by omega
  have hlt1:(W:Int)+i<(a.length:Int):=by omega
  have hlt3:((W:Int)+i).toNat=W+i:=by omega
  have m1:(a[W+i]'hWi).toNat%18446744073709551616=(a[W+i]'hWi).toNat:=Ys (by omega);have fin:∀y R:Nat,val (a.drop (W+i+1))=y+4294967296*R→val (m++[w32 (((a[W+i]'hWi).toNat+y*4294967296)/2^n%4294967296)])+4294967296^(i+1)*(val (a.drop (W+(i+1)))/2^n)=val (a.drop W)/2^n:=by
   intro y R hR;have hmod:((a[W+i]'hWi).toNat+y*4294967296)/2^n%4294967296<4294967296:=Ya5 _ (by decide);have hdw:=zug (x:=(a[W+i]'hWi).toNat) (y:=y) (R:=R) hn hx;rw[hd,zaq,hR,hdw,←hR]at hv
   grind[zai,zaq,zbo,zah]
  by_cases h1:W+i+1<a.length
  ·have hd1:=Yq h1;have hy:=zal (a[W+i+1]'h1);have m2:(a[W+i+1]'h1).toNat%18446744073709551616=(a[W+i+1]'h1).toNat:=Ys (by omega);have m3:(a[W+i+1]'h1).toNat*4294967296%18446744073709551616=(a[W+i+1]'h1).toNat*4294967296:=Ys (by omega);have hor:(a[W+i]'hWi).toNat ||| (a[W+i+1]'h1).toNat*4294967296=(a[W+i]'hWi).toNat+(a[W+i+1]'h1).toNat*4294967296:=by
    have:=zxu (a:=(a[W+i]'hWi).toNat) (b:=(a[W+i+1]'h1).toNat) (n:=32) (by simp)
    grind
   have m4:((a[W+i]'hWi).toNat+(a[W+i+1]'h1).toNat*4294967296)%18446744073709551616=(a[W+i]'hWi).toNat+(a[W+i+1]'h1).toNat*4294967296:=Ys (by omega);have hs1:=zjf (P:=[]) (c:=0) (R:=List.replicate (a.length-W-(i+1)) 0) (w32 (((a[W+i]'hWi).toNat+(a[W+i+1]'h1).toNat*4294967296)/2^n%4294967296)) hm;have hlt2:(W:Int)+i+1<(a.length:Int):=by omega
   have hlt4:((W:Int)+i+1).toNat=W+i+1:=by omega
   refine⟨(i+1,m++[w32 (((a[W+i]'hWi).toNat+(a[W+i+1]'h1).toNat*4294967296)/2^n%4294967296)]),⟨h0,by grind,fin _ (val (a.drop (W+i+1+1))) (by rw[hd1,zaq])⟩,by omega,?_⟩;simp at hg;simp[zf7]at hs1;simp -implicitDefEqProofs[l94_0,Zkt,h0,ha,hrep,hw,hw2,hw3,hg,hs1,zf7,hmin,hlt1,hlt2,hlt3,hlt4,m1,m2,m3,m4,hor,h1]
  ·have hs1:=zjf (P:=[]) (c:=0) (R:=List.replicate (a.length-W-(i+1)) 0) (w32 ((a[W+i]'hWi).toNat/2^n%4294967296)) hm;have hlt2:¬ (W:Int)+i+1<(a.length:Int):=by omega
   have f0:=fin 0 0 (by rw[Yas (by omega),zbo,Yaq]);refine⟨(i+1,m++[w32 ((a[W+i]'hWi).toNat/2^n%4294967296)]),⟨h0,by grind,f0⟩,by omega,?_⟩;simp at hg;simp[zf7]at hs1;simp -implicitDefEqProofs[l94_0,Zkt,h0,ha,hrep,hw,hw2,hw3,hg,hs1,zf7,hmin,hlt1,hlt2,hlt3,m1]
 ·right;have:i=a.length-W:=by omega
  subst this;rw[show W+(a.length-W)=a.length by omega,Yag,zbo,Nat.zero_div,Yaq,Y1]at hv;refine⟨_,⟨m++List.replicate (a.length-W-(a.length-W)) 0,rfl,by grind,by grind⟩,?_,?_⟩<;>simp -implicitDefEqProofs[l94_0,Zkt]
end
section
variable{T:Tbl}[Zn T][Zw T]
theorem zuc(a:List UInt32)(n:Nat)(h:n/32≤a.length):val (a.drop (n/32))/2^(n%32)=val a/2^n:=by
 rw[←z0m a _ h,Yb3,zw2,←Ybp,show 32*(n/32)+n%32=n by omega]
theorem zud(a:List UInt32)(n:Nat)(hn:n≤100000000)(hl:a.length≤100000):Za T 94 [.sl (Zb a) .an,.i .i64 n]=some (.sl (Zb (ofN (val a/2^n))) .an):=by
 have hn2:¬ (n:Int)<0:=by omega
 have hq:(n:Int).tdiv 32=(n:Int)/32:=Ycl (by omega);have hm2:(n:Int).tmod 32=(n:Int)%32:=Ycm (by omega);have w1:IntKind.wrap .i64 ((n:Int)/32)=(n:Int)/32:=zac (n/32) (by omega);rcases Yt (n/32) a.length with h0 | h0
 ·obtain⟨_,⟨m,rfl,hm,hv⟩,hr⟩:=zub (T:=T) a (n/32) (n%32) (Ya5 _ (by decide)) (by omega) (by omega) (0,[]) ⟨Yu _,rfl,by rw[zbo,Ydv,Ydk,Yai,Y1]⟩;rw[zuc a n (by omega)]at hv;have hnm:=za6 (T:=T) m (by omega);rw[hv]at hnm;unfold Zkt at hr;have hsub:((a.length-n/32:Nat):Int)=(a.length:Int)-(n:Int)/32:=by omega
  simp[hsub]at hr;have p0:¬ (a.length:Int)≤(n:Int)/32:=by omega
  have w2:IntKind.wrap .i64 ((a.length:Int)-(n:Int)/32)=(a.length:Int)-(n:Int)/32:=zac _ (by omega);have p1:(n:Int)/32≤(a.length:Int):=by omega
  have p2:(a.length:Int)-(n:Int)/32≤4294967296:=by omega
  have p3:((a.length:Int)-(n:Int)/32).toNat=a.length-n/32:=by omega
  have htk:List.take (a.length-n/32) m=m:=Yb (by omega);have p5:a.length≤a.length-n/32+n/32:=by omega
  rw[zab Zw.h94 rfl,b94];simp -implicitDefEqProofs[hn2,hq,hm2,w1,w2,p0,p5,p1,p2,p3,hsub,hr,hnm,htk,hm]
 ·have hz:val a/2^n=0:=by
   refine Ybh (Yl (za5 a) ?_);rw[zw2];exact Yn (by decide) (by omega)
  have p0:(a.length:Int)≤(n:Int)/32:=by omega
  rw[hz,zjg,zab Zw.h94 rfl,b94];simp -implicitDefEqProofs[hn2,hq,hm2,w1,p0]
end
def l90_0:AX:=
 (.note
 (.seq
 (.seq
 (.reg [mv 16 7,rg 17 (.bin .geq (.t 16) (.c (.i .i64 0)))])
 (.cond (.t 17)
 .skip
 (.exit 0)))
 (.seq
 (.block 1
 (.reg [mv 21 4,mv 22 7,mv 23 5,mv 24 0,mv 25 7,rg 26 (.iad 1 (.t 24) (.t 25)),rg 27 (.load none (.t 26)),mv 28 1,rg 29 (.call 118 [(.t 23),(.t 27),(.t 28)]),mv 20 29,rg 30 (.ext (.t 20) 0),rg 31 (.ext (.t 20) 1),rg 32 (.ext (.t 20) 2),rg 33 (.iad 1 (.t 21) (.t 22)),so (.store 1 (.t 33) (.t 30)),mv 5 31]))
 (.reg [mv 18 7,rg 19 (.bin .sub (.t 18) (.c (.i .i64 1))),mv 7 19])))
 (.norm false [0,1,4,5,7]))
def b90:AX:=
 (.seq
 (.reg [rg 4 (.mov (.c (.sl [] .nl))),rg 5 (.mov (.c (u32 0))),rg 6 (.mov (.c (.b false)))])
 (.seq
 (.seq
 (.reg [mv 8 1,rg 9 (.bin .eql (.t 8) (.c (u32 0)))])
 (.cond (.t 9)
 (.seq
 (.reg [rg 4 (.mov (.c (.sl [] .nl))),rg 5 (.mov (.c (u32 0))),rg 6 (.mov (.c (.b false)))])
 (.pre (.norm false [4,5,6]) .ret))
 .skip))
 (.seq
 (.reg [mv 10 0,rg 11 (.len (.t 10)),rg 12 (.mks 1 [(u32 0)] (.t 11) (.t 11)),mv 4 12])
 (.seq
 (.seq
 (.reg [mv 13 0,rg 14 (.len (.t 13)),rg 15 (.bin .sub (.t 14) (.c (.i .i64 1))),mv 7 15])
 (.lp 0 (.norm false [0,1,4,5,7]) l90_0 (.norm false [4,5])))
 (.seq
 (.reg [mv 34 4,rg 35 (.call 71 [(.t 34)]),mv 36 5,mv 4 35,mv 5 36,rg 6 (.mov (.c (.b true)))])
 (.pre (.norm false [4,5,6]) .ret))))))
def l119_0:AX:=
 (.note
 (.block 1
 (.seq
 (.reg [mv 46 11,mv 47 4,rg 48 (.call 117 [(.t 46),(.t 47),(.c (u32 0)),(.c (u32 0))]),mv 45 48,rg 49 (.ext (.t 45) 0),rg 50 (.ext (.t 45) 1),mv 16 49,mv 17 50])
 (.seq
 (.seq
 (.reg [mv 51 16,mv 52 12,rg 53 (.bin .lss (.t 51) (.t 52)),mv 54 53,gd 55 54 false (.mov (.t 16)),gd 56 54 false (.mov (.t 12)),gd 57 54 false (.bin .eql (.t 55) (.t 56)),gd 58 54 false (.mov (.t 57)),gd 59 58 true (.mov (.t 17)),gd 60 58 true (.mov (.t 2)),gd 61 58 true (.bin .leq (.t 59) (.t 60)),gd 62 54 false (.pick (.t 58) (.t 61) (.c (.b false))),rg 63 (.pick (.t 54) (.c (.b true)) (.t 62))])
 (.cond (.t 63)
 (.exit 0)
 .skip))
 (.seq
 (.reg [mv 64 11,rg 65 (.bin .sub (.t 64) (.c (u32 1))),mv 11 65])
 (.seq
 (.reg [mv 67 12,mv 68 3,rg 69 (.call 115 [(.t 67),(.t 68),(.c (u32 0))]),mv 66 69,rg 70 (.ext (.t 66) 0),rg 71 (.ext (.t 66) 1),mv 18 70,mv 19 71])
 (.seq
 (.seq
 (.reg [mv 72 19,rg 73 (.bin .gtr (.t 72) (.c (u32 0)))])
 (.cond (.t 73)
 (.exit 0)
 .skip))
 (.reg [mv 74 18,mv 12 74])))))))
 (.norm false [2,3,4,11,12]))
def b119:AX:=
 (.seq
 (.reg [rg 10 (.mov (.c (u32 0)))])
 (.scope
 (.seq
 (.reg [mv 21 0,mv 22 1,mv 23 3,rg 24 (.call 118 [(.t 21),(.t 22),(.t 23)]),mv 20 24,rg 25 (.ext (.t 20) 0),rg 26 (.ext (.t 20) 1),rg 27 (.ext (.t 20) 2),mv 11 25,mv 12 26,mv 13 27])
 (.seq
 (.seq
 (.reg [mv 28 13,rg 29 (.un .not (.t 28))])
 (.cond (.t 29)
 (.seq
 (.reg [rg 11 (.mov (.c (u32 4294967295)))])
 (.seq
 (.reg [mv 31 1,mv 32 3,rg 33 (.call 115 [(.t 31),(.t 32),(.c (u32 0))]),mv 30 33,rg 34 (.ext (.t 30) 0),rg 35 (.ext (.t 30) 1),mv 14 34,mv 15 35])
 (.seq
 (.seq
 (.reg [mv 36 0,mv 37 3,rg 38 (.bin .gtr (.t 36) (.t 37)),mv 39 38,gd 40 39 false (.mov (.t 15)),gd 41 39 false (.bin .gtr (.t 40) (.c (u32 0))),rg 42 (.pick (.t 39) (.c (.b true)) (.t 41))])
 (.cond (.t 42)
 (.seq
 (.reg [mv 43 11,mv 10 43])
 (.pre (.norm false [10]) .ret))
 .skip))
 (.reg [mv 44 14,mv 12 44]))))
 .skip))
 (.seq
 (.label 0)
 (.seq
 (.lp 0 (.norm false [2,3,4,11,12]) l119_0 (.norm false [11]))
 (.seq
 (.reg [mv 75 11,mv 10 75])
 (.pre (.norm false [10]) .ret))))))))
def l120_0:AX:=
 (.note
 (.seq
 (.reg [rg 18 (.bin .lss (.t 17) (.t 16))])
 (.seq
 (.cond (.t 18)
 .skip
 (.exit 0))
 (.seq
 (.block 1
 (.seq
 (.reg [mv 19 17,rg 20 (.iad 1 (.t 15) (.t 17)),rg 21 (.load none (.t 20)),mv 11 19,mv 12 21])
 (.seq
 (.reg [rg 13 (.mov (.c (u32 0)))])
 (.seq
 (.reg [mv 23 3,mv 24 12,mv 25 9,rg 26 (.call 117 [(.t 23),(.t 24),(.t 25),(.c (u32 0))]),mv 22 26,rg 27 (.ext (.t 22) 0),rg 28 (.ext (.t 22) 1),mv 9 27,mv 13 28])
 (.reg [mv 30 0,mv 31 1,mv 32 11,rg 33 (.bin .add (.t 31) (.t 32)),mv 34 0,mv 35 1,mv 36 11,rg 37 (.bin .add (.t 35) (.t 36)),rg 38 (.iad 1 (.t 34) (.t 37)),rg 39 (.load none (.t 38)),mv 40 13,mv 41 10,rg 42 (.call 116 [(.t 39),(.t 40),(.t 41)]),mv 29 42,rg 43 (.ext (.t 29) 0),rg 44 (.ext (.t 29) 1),rg 45 (.iad 1 (.t 30) (.t 33)),so (.store 1 (.t 45) (.t 43)),mv 10 44])))))
 (.reg [rg 46 (.bin .add (.t 17) (.c (.i .i64 1))),mv 17 46]))))
 (.norm false [0,1,2,3,9,10,15,16,17]))
def b120:AX:=
 (.seq
 (.reg [rg 8 (.mov (.c (.b false)))])
 (.seq
 (.reg [rg 9 (.mov (.c (u32 0))),rg 10 (.mov (.c (u32 0)))])
 (.seq
 (.seq
 (.reg [mv 15 2,rg 16 (.len (.t 15)),rg 17 (.mov (.c (.i .i64 0)))])
 (.lp 0 (.norm false [0,1,2,3,9,10,15,16,17]) l120_0 (.norm false [0,1,2,9,10])))
 (.seq
 (.reg [mv 47 1,mv 48 2,rg 49 (.len (.t 48)),rg 50 (.bin .add (.t 47) (.t 49)),mv 14 50])
 (.seq
 (.reg [mv 52 0,mv 53 14,mv 54 0,mv 55 14,rg 56 (.iad 1 (.t 54) (.t 55)),rg 57 (.load none (.t 56)),mv 58 9,mv 59 10,rg 60 (.call 116 [(.t 57),(.t 58),(.t 59)]),mv 51 60,rg 61 (.ext (.t 51) 0),rg 62 (.ext (.t 51) 1),rg 63 (.iad 1 (.t 52) (.t 53)),so (.store 1 (.t 63) (.t 61)),mv 10 62])
 (.seq
 (.reg [mv 64 10,rg 65 (.bin .gtr (.t 64) (.c (u32 0))),mv 8 65])
 (.pre (.norm false [8]) .ret)))))))
def l121_0:AX:=
 (.note
 (.seq
 (.reg [rg 12 (.bin .lss (.t 11) (.t 10))])
 (.seq
 (.cond (.t 12)
 .skip
 (.exit 0))
 (.seq
 (.block 1
 (.seq
 (.reg [mv 13 11,rg 14 (.iad 1 (.t 9) (.t 11)),rg 15 (.load none (.t 14)),mv 7 13,mv 8 15])
 (.reg [mv 17 0,mv 18 1,mv 19 7,rg 20 (.bin .add (.t 18) (.t 19)),mv 21 0,mv 22 1,mv 23 7,rg 24 (.bin .add (.t 22) (.t 23)),rg 25 (.iad 1 (.t 21) (.t 24)),rg 26 (.load none (.t 25)),mv 27 8,mv 28 6,rg 29 (.call 115 [(.t 26),(.t 27),(.t 28)]),mv 16 29,rg 30 (.ext (.t 16) 0),rg 31 (.ext (.t 16) 1),rg 32 (.iad 1 (.t 17) (.t 20)),so (.store 1 (.t 32) (.t 30)),mv 6 31])))
 (.reg [rg 33 (.bin .add (.t 11) (.c (.i .i64 1))),mv 11 33]))))
 (.norm false [0,1,2,6,9,10,11]))
def b121:AX:=
 (.seq
 (.reg [rg 6 (.mov (.c (u32 0)))])
 (.seq
 (.seq
 (.reg [mv 9 2,rg 10 (.len (.t 9)),rg 11 (.mov (.c (.i .i64 0)))])
 (.lp 0 (.norm false [0,1,2,6,9,10,11]) l121_0 (.norm false [0,1,2,6])))
 (.reg [mv 34 0,mv 35 1,mv 36 2,rg 37 (.len (.t 36)),rg 38 (.bin .add (.t 35) (.t 37)),rg 39 (.iad 1 (.t 34) (.t 38)),rg 40 (.load none (.t 39)),mv 41 6,rg 42 (.bin .add (.t 40) (.t 41)),rg 43 (.iad 1 (.t 34) (.t 38)),so (.store 1 (.t 43) (.t 42))])))
def l93_0:AX:=
 (.note
 (.seq
 (.seq
 (.reg [mv 19 7,rg 20 (.bin .geq (.t 19) (.c (.i .i64 0)))])
 (.cond (.t 20)
 .skip
 (.exit 0)))
 (.seq
 (.block 1
 (.seq
 (.drawT [mv 23 0,mv 24 7,mv 25 5,rg 26 (.bin .add (.t 24) (.t 25)),rg 27 (.iad 1 (.t 23) (.t 26)),rg 28 (.load none (.t 27)),mv 29 0,mv 30 7,mv 31 5,rg 32 (.bin .add (.t 30) (.t 31)),rg 33 (.bin .sub (.t 32) (.c (.i .i64 1))),rg 34 (.iad 1 (.t 29) (.t 33)),rg 35 (.load none (.t 34)),mv 36 0,mv 37 7,mv 38 5,rg 39 (.bin .add (.t 37) (.t 38)),rg 40 (.bin .sub (.t 39) (.c (.i .i64 2))),rg 41 (.iad 1 (.t 36) (.t 40)),rg 42 (.load none (.t 41)),mv 43 1,mv 44 5,rg 45 (.bin .sub (.t 44) (.c (.i .i64 1))),rg 46 (.iad 1 (.t 43) (.t 45)),rg 47 (.load none (.t 46)),mv 48 1,mv 49 5,rg 50 (.bin .sub (.t 49) (.c (.i .i64 2))),rg 51 (.iad 1 (.t 48) (.t 50)),rg 52 (.load none (.t 51))]
 [rg 53 (.call 119 [(.t 28),(.t 35),(.t 42),(.t 47),(.t 52)]),mv 8 53])
 (.seq
 (.seq
 (.reg [mv 54 0,mv 55 7,mv 56 1,mv 57 8,rg 58 (.call 120 [(.t 54),(.t 55),(.t 56),(.t 57)])])
 (.cond (.t 58)
 (.seq
 (.reg [mv 59 8,rg 60 (.bin .sub (.t 59) (.c (u32 1))),mv 8 60])
 (.reg [mv 61 0,mv 62 7,mv 63 1,rg 64 (.call 121 [(.t 61),(.t 62),(.t 63)])]))
 .skip))
 (.reg [mv 65 6,mv 66 7,mv 67 8,rg 68 (.iad 1 (.t 65) (.t 66)),so (.store 1 (.t 68) (.t 67))]))))
 (.reg [mv 21 7,rg 22 (.bin .sub (.t 21) (.c (.i .i64 1))),mv 7 22])))
 (.norm false [0,1,5,6,7]))
def b93:AX:=
 (.seq
 (.reg [rg 4 (.mov (.c (.sl [] .nl)))])
 (.seq
 (.reg [mv 9 1,rg 10 (.len (.t 9)),mv 5 10])
 (.seq
 (.reg [mv 11 0,rg 12 (.len (.t 11)),mv 13 5,rg 14 (.bin .sub (.t 12) (.t 13)),rg 15 (.mks 1 [(u32 0)] (.t 14) (.t 14)),mv 6 15])
 (.seq
 (.seq
 (.reg [mv 16 6,rg 17 (.len (.t 16)),rg 18 (.bin .sub (.t 17) (.c (.i .i64 1))),mv 7 18])
 (.lp 0 (.norm false [0,1,5,6,7]) l93_0 (.norm false [6])))
 (.seq
 (.reg [mv 69 6,mv 4 69])
 (.pre (.norm false [4]) .ret))))))
def row90:AFx:=⟨2,37,[.t 4,.t 5,.t 6],b90,none,false⟩
def row119:AFx:=⟨5,76,[.t 10],b119,none,false⟩
def row120:AFx:=⟨4,66,[.t 8],b120,(some [true,false,false,false]),false⟩
def row121:AFx:=⟨3,44,[],b121,(some [true,false,false]),false⟩
def row93:AFx:=⟨2,70,[.t 4],b93,(some [true,false]),false⟩
class Zq (T:Tbl):Prop where
 h90:T 90=some row90
 h119:T 119=some row119
 h120:T 120=some row120
 h121:T 121=some row121
 h93:T 93=some row93
section
variable{T:Tbl}[Zq T]{d:Option Nat}{st:St}
@[simp] theorem x90(xs:List AV):Zd (orc T) T 90 xs d st=cP T 90 false xs d st:=zaa Zq.h90
@[simp] theorem x119(xs:List AV):Zd (orc T) T 119 xs d st=cP T 119 false xs d st:=zaa Zq.h119
theorem f119(xs:List AV)(hn:xs.length=5):Za T 119 xs=Zgw [.t 10] false (evX (orc T) T 0 b119 ⟨Zcd xs,[],1⟩):=zab Zq.h119 hn
@[simp] theorem x120(xs:List AV):Zd (orc T) T 120 xs d st=bL (Zeq st.heap [true,false,false,false] xs) fun ys=>Zef ys (Zj (Za4 [true,false,false,false] xs) st.heap) (Zc0 (Zj (Za4 [true,false,false,false] xs) st.heap) 40 (Zcj [true,false,false,false] xs) []) T 120 false d st:=zay Zq.h120
@[simp] theorem x121(xs:List AV):Zd (orc T) T 121 xs d st=bL (Zeq st.heap [true,false,false] xs) fun ys=>Zef ys (Zj (Za4 [true,false,false] xs) st.heap) (Zc0 (Zj (Za4 [true,false,false] xs) st.heap) 40 (Zcj [true,false,false] xs) []) T 121 false d st:=zay Zq.h121
@[simp] theorem x93(xs:List AV):Zd (orc T) T 93 xs d st=bL (Zeq st.heap [true,false] xs) fun ys=>Zef ys (Zj (Za4 [true,false] xs) st.heap) (Zc0 (Zj (Za4 [true,false] xs) st.heap) 40 (Zcj [true,false] xs) []) T 93 false d st:=zay Zq.h93
end
theorem zi8{m:List UInt32}{j:Nat}(w:UInt32):(List.replicate (j+1) 0++m).set j w=List.replicate j 0++w::m:=by
 rw[List.set_append_left j w (by simp),List.replicate_succ',Y5 j w (by simp)];simp
theorem zi9{m:List UInt32}{j:Nat}:(List.replicate (j+1) (0:UInt32)++m)[j]? = some 0:=by
 rw[Yo (by simp),Yct,if_pos (by omega)]
section
variable{T:Tbl}[Zn T][Zw T][Zs T][Zq T]
def Zk8(a:List UInt32)(x:Nat)(y:Nat×Nat×List UInt32):St:=
 ⟨[(0,.sl (Zb a) .an),(1,u32 x),(4,.bs (.loc 12) 1 1 0 a.length),(5,u32 y.2.1),(7,.i .i64 ((y.1:Int)-1))],[(.loc 12,⟨1,.own,1,Zb (List.replicate y.1 0++y.2.2)⟩)],3⟩
end
section
variable{T:Tbl}[Zn T]
theorem zz2(a:List UInt32)(x:Nat)(hx:x<4294967296)(hl:a.length≤1000000):∀y:Nat×Nat×List UInt32,
  (y.1≤a.length∧y.2.1<x∧y.2.2.length=a.length-y.1∧val (a.drop y.1)=x*val y.2.2+y.2.1) →
  ∃r,(∃(c:Nat) (m:List UInt32),r=(Ex.n,(⟨[(4,.bs (.loc 12) 1 1 0 a.length),(5,u32 c)],[(.loc 12,⟨1,.own,1,Zb m⟩)],3⟩:St)) ∧
   m.length=a.length∧c<x∧val a=x*val m+c)∧Zv T 0 0 (.norm false [4,5]) l90_0 (Zk8 a x y)=some r:=by
 refine za0 _ _ (fun y=>y.1) _ ?_
 rintro⟨k,c,m⟩ ⟨hk,hc,hm,hv⟩
 simp only at hk hc hm hv;cases k with
 | zero=>
  right;refine⟨_,⟨c,m,rfl,by omega,hc,hv⟩,?_,?_⟩<;>simp -implicitDefEqProofs[l90_0,Zk8]
 | succ j=>
  left;have hja:j<a.length:=by omega
  have hy:=zal (a[j]'hja);have hd:=Yq hja;have hw:IntKind.wrap .i64 ((j:Int)-1)=(j:Int)-1:=zac _ (by omega);have hs:=zi8 (m:=m) (j:=j) (w32 ((c*4294967296+(a[j]'hja).toNat)/x));have hq:(c*4294967296+(a[j]'hja).toNat)/x<4294967296:=by
   refine Yco ?_;omega
  have hdv:=zk3 (T:=T) c (a[j]'hja).toNat x hc hy hx;refine⟨(j,(c*4294967296+(a[j]'hja).toNat)%x,w32 ((c*4294967296+(a[j]'hja).toNat)/x)::m),⟨by omega,Ya5 _ (by omega),by grind,?_⟩,Yx j,?_⟩
  ·grind[zaq,zah,Nat.div_add_mod]
  ·simp -implicitDefEqProofs[l90_0,Zk8,hja,hw,hs,zi9,hdv,zbj _ _ _ hq]
end
section
variable{T:Tbl}[Zn T][Zq T]
theorem ztb(a:List UInt32)(x:Nat)(hx:x<4294967296)(h0:0<x)(hl:a.length≤1000000) :
  Za T 90 [.sl (Zb a) .an,u32 x]=some (.tup [.sl (Zb (ofN (val a/x))) .an,u32 (val a%x),.b true]):=by
 obtain⟨_,⟨c,m,rfl,hm,hc,hv⟩,hr⟩:=zz2 (T:=T) a x hx hl (a.length,0,[]) ⟨Yg _,h0,by simp,by rw[Yag,zbo,Yaq,Yai]⟩;have e1:val a/x=val m:=by grind[Nat.mul_add_div,Nat.div_eq_of_lt]
 have e2:val a%x=c:=by rw[hv,Nat.mul_add_mod,Ys hc]
 have hnm:=za6 (T:=T) m (by omega);unfold Zk8 at hr;simp at hr;have hx0:x≠0:=by omega
 have w1:IntKind.wrap .i64 ((a.length:Int)-1)=(a.length:Int)-1:=zac _ (by omega);have p1:(a.length:Int)≤4294967296:=by omega
 have htk:List.take a.length m=m:=Yb (by omega);rw[e1,e2,zab Zq.h90 rfl,b90];simp -implicitDefEqProofs[hr,hx0,w1,p1,htk,hm,hnm]
end
section
variable{T:Tbl}[Zn T][Zw T][Zs T][Zq T]
theorem zle{p M w X s t y v D D':Nat}(h:M+X*t=s+p*D)(e:w+X*y+D=v+4294967296*D'):(M+p*w)+X*(t+p*y)=(s+p*v)+p*4294967296*D':=by
 grind
def Zk9(P S b:List UInt32)(x:Nat)(y:Nat×(Nat×Nat)×List UInt32):St:=
 ⟨[(0,.bs (.bor 0) 0 1 0 (P.length+S.length)),(1,.i .i64 P.length),(2,.sl (Zb b) .an),(3,u32 x),(9,u32 y.2.1.1),(10,u32 y.2.1.2),(15,.sl (Zb b) .an),(16,.i .i64 b.length),(17,.i .i64 y.1)],
  [(.bor 0,⟨0,.own,1,Zb (P++(y.2.2++S.drop y.1))⟩)],4⟩
end
section
variable{T:Tbl}[Zn T]
theorem zz3(P S b:List UInt32)(x:Nat)(hx:x<4294967296)(hS:b.length<S.length)(hl:P.length+S.length≤1000000):∀y:Nat×(Nat×Nat)×List UInt32,
  (y.1≤b.length∧y.2.1.1<4294967296∧y.2.1.2≤1∧y.2.2.length=y.1∧val y.2.2+x*val (b.take y.1)=val (S.take y.1)+4294967296^y.1*(y.2.1.2+y.2.1.1)) →
  ∃r,(∃(C B:Nat) (m:List UInt32),r=(Ex.n,(⟨[(0,.bs (.bor 0) 0 1 0 (P.length+S.length)),(1,.i .i64 P.length),(2,.sl (Zb b) .an),(9,u32 C),(10,u32 B)],[(.bor 0,⟨0,.own,1,Zb (P++(m++S.drop b.length))⟩)],4⟩:St)) ∧
   C<4294967296∧B≤1∧m.length=b.length∧val m+x*val b=val (S.take b.length)+4294967296^b.length*(B+C))∧Zv T 1 0 (.norm false [0,1,2,9,10]) l120_0 (Zk9 P S b x y)=some r:=by
 refine za0 _ _ (fun y=>b.length-y.1) _ ?_
 rintro⟨i,⟨C,B⟩,m⟩ ⟨hi,hC,hB,hm,hv⟩
 simp only at hi hC hB hm hv;by_cases h0:i<b.length
 ·left;have hb:b[i]? = some (b[i]'h0):=Ya h0;have hiS:i<S.length:=by omega
  have hs:S[i]? = some (S[i]'hiS):=Ya hiS;have hg:=zff (P:=P) hm hiS;have hw:IntKind.wrap .i64 ((i:Int)+1)=((i+1:Nat):Int):=zac _ (by omega);have hw2:IntKind.wrap .i64 ((P.length:Int)+i)=((P.length+i:Nat):Int):=zac _ (by omega);have hlt2:(P.length:Int)+i<(P.length:Int)+S.length:=by omega
  have hlb:=zal (b[i]'h0);have hls:=zal (S[i]'hiS);have hmul:=zg3 hx hlb;have c1:=zg4 (T:=T) x (b[i]'h0).toNat C 0 hx hlb hC (by decide);rw[Y1]at c1;obtain⟨lo,hlo⟩:∃lo,lo=(x*(b[i]'h0).toNat+C)%4294967296:=⟨_,rfl⟩;obtain⟨C',hC'⟩:∃C',C'=(x*(b[i]'h0).toNat+C)/4294967296:=⟨_,rfl⟩;rw[←hlo,←hC']at c1;have c2:=zeu (T:=T) (S[i]'hiS).toNat lo B hls (by omega) (by omega);obtain⟨w,hwd⟩:∃w,w=((S[i]'hiS).toNat+8589934592-(lo+B))%4294967296:=⟨_,rfl⟩;obtain⟨B',hB'⟩:∃B',B'=2-((S[i]'hiS).toNat+8589934592-(lo+B))/4294967296:=⟨_,rfl⟩;rw[←hwd,←hB']at c2;have hwl:w<4294967296:=by omega
  have hset:=zfg (P:=P) (w32 w) hm hiS;refine⟨(i+1,(C',B'),m++[w32 w]),⟨h0,by grind,by simp only;omega,by grind,?_⟩,by omega,?_⟩
  ·simp only;rw[zai,zaf hb,zaf hs,Yaa,hm,zaq,zbo,Yaq,Y1,zah hwl];exact zle hv (by omega)
  ·simp -implicitDefEqProofs[l120_0,Zk9,h0,hw,hw2,hlt2,hg,c1,c2,hset,zbj _ _ _ hwl]
 ·right;have:i=b.length:=by omega
  subst this;rw[Yb (Yg b.length)]at hv;refine⟨_,⟨C,B,m,rfl,hC,hB,hm,hv⟩,?_,?_⟩<;>simp -implicitDefEqProofs[l120_0,Zk9]
end
section
variable{T:Tbl}[Zn T][Zq T]
theorem ztc(P S b:List UInt32)(x:Nat)(hx:x<4294967296)(hS:b.length<S.length)(hl:P.length+S.length≤1000000) :
  ∃(B:Nat) (m:List UInt32),B≤1∧m.length=b.length+1∧val m+x*val b=val (S.take (b.length+1))+4294967296^(b.length+1)*B ∧
   Zcf T 120 [.bs (.bor 0) 0 1 0 (P.length+S.length),.i .i64 P.length,.sl (Zb b) .an,u32 x] [(.bor 0,⟨0,.own,1,Zb (P++S)⟩)] =
    some (.b (decide (0<B)),[(.bor 0,⟨0,.own,1,Zb (P++(m++S.drop (b.length+1)))⟩)]):=by
 obtain⟨_,⟨C,B,m,rfl,hC,hB,hm,hv⟩,hr⟩:=zz3 (T:=T) P S b x hx hS hl (0,(0,0),[]) ⟨Yu _,Nat.zero_lt_succ _,Yu _,rfl,by simp⟩;unfold Zk9 at hr;simp at hr;have hs:S[b.length]? = some (S[b.length]'hS):=Ya hS;have hls:=zal (S[b.length]'hS);have hg:=zff (P:=P) hm hS;have hw2:IntKind.wrap .i64 ((P.length:Int)+b.length)=((P.length+b.length:Nat):Int):=zac _ (by omega);have hlt2:(P.length:Int)+b.length<(P.length:Int)+S.length:=by omega
 have c2:=zeu (T:=T) (S[b.length]'hS).toNat C B hls hC (by omega);obtain⟨w,hwd⟩:∃w,w=((S[b.length]'hS).toNat+8589934592-(C+B))%4294967296:=⟨_,rfl⟩;obtain⟨B',hB'⟩:∃B',B'=2-((S[b.length]'hS).toNat+8589934592-(C+B))/4294967296:=⟨_,rfl⟩;rw[←hwd,←hB']at c2;have hwl:w<4294967296:=by omega
 have hset:=zfg (P:=P) (w32 w) hm hS;refine⟨B',m++[w32 w],by omega,by grind,?_,?_⟩
 ·rw[zai,zaf hs,Yaa,hm,zaq,zbo,Yaq,Y1,zah hwl];have:=zle (y:=0) (w:=w) (v:=(S[b.length]'hS).toNat) (D':=B') hv (by omega);omega
 ·rw[zbn Zq.h120 rfl,b120];simp -implicitDefEqProofs[hr,hw2,hlt2,hg,c2,hset,zbj _ _ _ hwl]
end
section
variable{T:Tbl}[Zn T][Zw T][Zs T][Zq T]
theorem zlf{p M w s t y v D D':Nat}(h:M+p*D=s+t)(e:w+4294967296*D'=v+y+D):(M+p*w)+p*4294967296*D'=(s+p*v)+(t+p*y):=by
 grind
def Zla(P S b:List UInt32)(y:Nat×Nat×List UInt32):St:=
 ⟨[(0,.bs (.bor 0) 0 1 0 (P.length+S.length)),(1,.i .i64 P.length),(2,.sl (Zb b) .an),(6,u32 y.2.1),(9,.sl (Zb b) .an),(10,.i .i64 b.length),(11,.i .i64 y.1)],
  [(.bor 0,⟨0,.own,1,Zb (P++(y.2.2++S.drop y.1))⟩)],4⟩
end
section
variable{T:Tbl}[Zn T]
theorem zz4(P S b:List UInt32)(hS:b.length<S.length)(hl:P.length+S.length≤1000000):∀y:Nat×Nat×List UInt32,
  (y.1≤b.length∧y.2.1≤1∧y.2.2.length=y.1∧val y.2.2+4294967296^y.1*y.2.1=val (S.take y.1)+val (b.take y.1)) →
  ∃r,(∃(C:Nat) (m:List UInt32),r=(Ex.n,(⟨[(0,.bs (.bor 0) 0 1 0 (P.length+S.length)),(1,.i .i64 P.length),(2,.sl (Zb b) .an),(6,u32 C)],[(.bor 0,⟨0,.own,1,Zb (P++(m++S.drop b.length))⟩)],4⟩:St)) ∧
   C≤1∧m.length=b.length∧val m+4294967296^b.length*C=val (S.take b.length)+val b)∧Zv T 1 0 (.norm false [0,1,2,6]) l121_0 (Zla P S b y)=some r:=by
 refine za0 _ _ (fun y=>b.length-y.1) _ ?_
 rintro⟨i,C,m⟩ ⟨hi,hC,hm,hv⟩
 simp only at hi hC hm hv;by_cases h0:i<b.length
 ·left;have hb:b[i]? = some (b[i]'h0):=Ya h0;have hiS:i<S.length:=by omega
  have hs:S[i]? = some (S[i]'hiS):=Ya hiS;have hg:=zff (P:=P) hm hiS;have hw:IntKind.wrap .i64 ((i:Int)+1)=((i+1:Nat):Int):=zac _ (by omega);have hw2:IntKind.wrap .i64 ((P.length:Int)+i)=((P.length+i:Nat):Int):=zac _ (by omega);have hlt2:(P.length:Int)+i<(P.length:Int)+S.length:=by omega
  have hlb:=zal (b[i]'h0);have hls:=zal (S[i]'hiS);have c2:=zdj (T:=T) (S[i]'hiS).toNat (b[i]'h0).toNat C hls hlb (by omega);obtain⟨w,hwd⟩:∃w,w=((S[i]'hiS).toNat+(b[i]'h0).toNat+C)%4294967296:=⟨_,rfl⟩;obtain⟨C',hC'⟩:∃C',C'=((S[i]'hiS).toNat+(b[i]'h0).toNat+C)/4294967296:=⟨_,rfl⟩;rw[←hwd,←hC']at c2;have hwl:w<4294967296:=by omega
  have hset:=zfg (P:=P) (w32 w) hm hiS;refine⟨(i+1,C',m++[w32 w]),⟨h0,by grind,by grind,?_⟩,by omega,?_⟩
  ·simp only;rw[zai,zaf hb,zaf hs,Yaa,hm,zaq,zbo,Yaq,Y1,zah hwl];exact zlf hv (by omega)
  ·simp -implicitDefEqProofs[l121_0,Zla,h0,hw,hw2,hlt2,hg,c2,hset,zbj _ _ _ hwl]
 ·right;have:i=b.length:=by omega
  subst this;rw[Yb (Yg b.length)]at hv;refine⟨_,⟨C,m,rfl,hC,hm,hv⟩,?_,?_⟩<;>simp -implicitDefEqProofs[l121_0,Zla]
end
section
variable{T:Tbl}[Zn T][Zq T]
theorem ztd(P S b:List UInt32)(hS:b.length<S.length)(hl:P.length+S.length≤1000000) :
  ∃(D:Nat) (m:List UInt32),D≤1∧m.length=b.length+1∧val m+4294967296^(b.length+1)*D=val (S.take (b.length+1))+val b ∧
   Zcf T 121 [.bs (.bor 0) 0 1 0 (P.length+S.length),.i .i64 P.length,.sl (Zb b) .an] [(.bor 0,⟨0,.own,1,Zb (P++S)⟩)] =
    some (.tup [],[(.bor 0,⟨0,.own,1,Zb (P++(m++S.drop (b.length+1)))⟩)]):=by
 obtain⟨_,⟨C,m,rfl,hC,hm,hv⟩,hr⟩:=zz4 (T:=T) P S b hS hl (0,0,[]) ⟨Yu _,Yu _,rfl,by simp⟩;unfold Zla at hr;simp at hr;have hs:S[b.length]? = some (S[b.length]'hS):=Ya hS;have hls:=zal (S[b.length]'hS);have hg:=zff (P:=P) hm hS;have hw2:IntKind.wrap .i64 ((P.length:Int)+b.length)=((P.length+b.length:Nat):Int):=zac _ (by omega);have hlt2:(P.length:Int)+b.length<(P.length:Int)+S.length:=by omega
 obtain⟨w,hwd⟩:∃w,w=((S[b.length]'hS).toNat+C)%4294967296:=⟨_,rfl⟩;have hwl:w<4294967296:=by omega
 have hset:=zfg (P:=P) (w32 w) hm hS;refine⟨((S[b.length]'hS).toNat+C)/4294967296,m++[w32 w],by omega,by grind,?_,?_⟩
 ·rw[zai,zaf hs,Yaa,hm,zaq,zbo,Yaq,Y1,zah hwl];have:=zlf (y:=0) (w:=w) (v:=(S[b.length]'hS).toNat) (D':=((S[b.length]'hS).toNat+C)/4294967296) hv (by omega);omega
 ·rw[zbn Zq.h121 rfl,b121];simp -implicitDefEqProofs[hr,hw2,hlt2,hg,←hwd,hset,zbj _ _ _ hwl]
end
theorem zg2(q b1 b0:Nat):q*(b1*4294967296+b0)=q*b1*4294967296+q*b0:=by
 rw[Yaf q,←Yam q]
theorem zi3{a2 a1 a0 b1 b0 q r:Nat}(h:q*b1+r=a2*4294967296+a1)(hle:q*b0≤r*4294967296+a0) :
  q*(b1*4294967296+b0)≤(a2*4294967296+a1)*4294967296+a0:=by
 refine Yc (Nat.le_of_eq (zg2 q b1 b0)) ?_;revert h hle;generalize q*b1=u;generalize q*b0=v;omega
theorem zvw{a2 a1 a0 b1 b0 q r:Nat}(h:q*b1+r=a2*4294967296+a1)(hgt:r*4294967296+a0<q*b0) :
  (a2*4294967296+a1)*4294967296+a0<q*(b1*4294967296+b0):=by
 refine Nat.lt_of_lt_of_eq ?_ (zg2 q b1 b0).symm;revert h hgt;generalize q*b1=u;generalize q*b0=v;omega
theorem zsi{q b0 r a0:Nat}(h0:a0<4294967296):(q*b0/4294967296<r∨q*b0/4294967296=r∧q*b0%4294967296≤a0)↔q*b0≤r*4294967296+a0:=by
 generalize q*b0=m;omega
section
variable{T:Tbl}[Zn T][Zw T][Zs T][Zq T]
def Zgz(a0 b1 b0:Nat)(y:Nat×Nat):St:=⟨[(2,u32 a0),(3,u32 b1),(4,u32 b0),(11,u32 y.1),(12,u32 y.2)],[],2⟩
end
section
variable{T:Tbl}[Zn T]
theorem zsj(a2 a1 a0 b1 b0 g:Nat)(h0:a0<4294967296)(hb1:b1<4294967296)(hb0:b0<4294967296)
  (F1:∀q,q<4294967296→g≤q→q*(b1*4294967296+b0)≤(a2*4294967296+a1)*4294967296+a0→q=g)
  (F2:∀q,(a2*4294967296+a1)*4294967296+a0<q*(b1*4294967296+b0)→g<q):∀y:Nat×Nat,
  (y.1<4294967296∧y.2<4294967296∧y.1*b1+y.2=a2*4294967296+a1∧g≤y.1) →
  ∃r,(r=(Ex.n,(⟨[(11,u32 g)],[],2⟩:St)))∧Zv T 0 0 (.norm false [11]) l119_0 (Zgz a0 b1 b0 y)=some r:=by
 refine za0 _ _ (fun y=>y.1) _ ?_
 rintro⟨q,r⟩ ⟨hq,hr,hv,hg⟩
 simp only at hq hr hv hg;have c1:=zg4 (T:=T) q b0 0 0 hq hb0 (by decide) (by decide);have c2:=zdj (T:=T) r b1 0 hr hb1 (by decide);rw[Y1]at c1;rw[Y1]at c2;have hcmp:=zsi (q:=q) (b0:=b0) (r:=r) h0;obtain⟨hi,hhi⟩:∃hi,hi=q*b0/4294967296:=⟨_,rfl⟩;obtain⟨lo,hlo⟩:∃lo,lo=q*b0%4294967296:=⟨_,rfl⟩;rw[←hhi,←hlo]at c1 hcmp;have hlol:lo<4294967296:=by omega
 have hhil:hi<4294967296:=by
  have:=zg3 hq hb0;omega
 by_cases hle:q*b0≤r*4294967296+a0
 ·right;have hqg:=F1 q hq hg (zi3 hv hle);subst hqg;have hc:=hcmp.2 hle;clear hhi hlo;rcases hc with hc | ⟨rfl,hc2⟩
  ·refine⟨_,rfl,?_,?_⟩<;>simp -implicitDefEqProofs[l119_0,Zgz,c1,hc]
  ·refine⟨_,rfl,?_,?_⟩<;>simp -implicitDefEqProofs[l119_0,Zgz,c1,hc2]
 ·have hgt:r*4294967296+a0<q*b0:=by omega
  have hlt:=F2 q (zvw hv hgt);have hc:¬ (hi<r∨hi=r∧lo≤a0):=fun h=>hle (hcmp.1 h);have hq1:q-1<4294967296:=by omega
  have hs:Zf8 q 1=q-1:=by unfold Zf8;omega
  have hqb:(q-1)*b1+(r+b1)=a2*4294967296+a1:=by
   have:q*b1=(q-1)*b1+b1:=by
    rw[←Nat.succ_mul];congr 1;omega
   omega
  by_cases hcar:4294967296≤r+b1
  ·right;have hmul:=zg3 hq1 hb0;have hqg:=F1 (q-1) hq1 (by omega) (zi3 hqb (by
    generalize (q-1)*b0=v at *
    omega))
   have m2:0<(r+b1)/4294967296:=Nat.div_pos hcar (by decide);have m3:(r+b1)/4294967296<4294967296:=by omega
   have hr2:¬ hi<r:=fun h=>hc (.inl h);clear hhi hlo;refine⟨_,rfl,?_,?_⟩<;>by_cases he:hi=r
   ·have hc3:¬ lo≤a0:=fun h=>hc (.inr ⟨he,h⟩);subst he;simp -implicitDefEqProofs[l119_0,Zgz,c1,c2,hs,hc3,m2]
   ·simp -implicitDefEqProofs[l119_0,Zgz,c1,c2,hs,hr2,he,m2]
   ·have hc3:¬ lo≤a0:=fun h=>hc (.inr ⟨he,h⟩);subst he;simp -implicitDefEqProofs[l119_0,Zgz,c1,c2,hs,hc3,m2,hqg]
   ·simp -implicitDefEqProofs[l119_0,Zgz,c1,c2,hs,hr2,he,m2,hqg]
  ·left;refine⟨(q-1,r+b1),⟨hq1,by simp only;omega,hqb,by simp only;omega⟩,by simp only;omega,?_⟩;have m1:(r+b1)%4294967296=r+b1:=Ys (by omega);have m2:(r+b1)/4294967296=0:=Ybh (by omega);rw[m1,m2]at c2;have hr2:¬ hi<r:=fun h=>hc (.inl h);clear hhi hlo;by_cases he:hi=r
   ·have hc3:¬ lo≤a0:=fun h=>hc (.inr ⟨he,h⟩);subst he;simp -implicitDefEqProofs[l119_0,Zgz,c1,c2,hs,hc3]
   ·simp -implicitDefEqProofs[l119_0,Zgz,c1,c2,hs,hr2,he]
end
section
variable{T:Tbl}[Zn T][Zw T][Zs T][Zq T]
theorem zzh{n two:Nat}(h:0<two):(∀q,q<4294967296→min 4294967295 (n/two)≤q→q*two≤n→q=min 4294967295 (n/two))∧(∀q,n<q*two→min 4294967295 (n/two)<q):=by
 constructor
 ·intro q hq hg hle;have:=(Ybn h).2 hle;omega
 ·intro q hlt;have:=(Yba h).2 hlt;omega
theorem zvx{A a0 b1 b0:Nat}(h0:a0<4294967296)(hp:0<b1):A*4294967296+a0<(A/b1+1)*(b1*4294967296+b0):=by
 have h1:A<(A/b1+1)*b1:=by rw[Yae];exact Nat.lt_mul_div_succ A hp
 refine Nat.lt_of_lt_of_eq ?_ (zg2 (A/b1+1) b1 b0).symm;generalize (A/b1+1)*b1=u at *
 generalize (A/b1+1)*b0=v at *
 omega
end
section
variable{T:Tbl}[Zn T][Zq T]
theorem zpp(a2 a1 a0 b1 b0:Nat)(h2:a2<4294967296)(h1:a1<4294967296)(h0:a0<4294967296)(hb1:b1<4294967296)(hb0:b0<4294967296)(hp:0<b1) :
  Za T 119 [u32 a2,u32 a1,u32 a0,u32 b1,u32 b0]=some (u32 (min 4294967295 (((a2*4294967296+a1)*4294967296+a0)/(b1*4294967296+b0)))):=by
 obtain⟨F1,F2⟩:=zzh (n:=(a2*4294967296+a1)*4294967296+a0) (two:=b1*4294967296+b0) (by omega);have hgle:=Ydt 4294967295 (((a2*4294967296+a1)*4294967296+a0)/(b1*4294967296+b0));generalize min 4294967295 (((a2*4294967296+a1)*4294967296+a0)/(b1*4294967296+b0))=g at *
 by_cases hlt:a2<b1
 ·have hd:=zk3 (T:=T) a2 a1 b1 hlt h1 hb1;have hql:(a2*4294967296+a1)/b1<4294967296:=zxn hlt h1;have hrl:(a2*4294967296+a1)%b1<b1:=Ya5 _ hp;have hdm:=Ybq (a2*4294967296+a1) b1;rw[Yae]at hdm;obtain⟨_,rfl,hr⟩:=zsj (T:=T) a2 a1 a0 b1 b0 g h0 hb1 hb0 F1 F2 ((a2*4294967296+a1)/b1,(a2*4294967296+a1)%b1) ⟨hql,by simp only;omega,hdm,by have:=F2 _ (zvx (A:=a2*4294967296+a1) (b0:=b0) h0 hp);simp only;omega⟩;unfold Zgz at hr;simp at hr;rw[f119 _ rfl,b119];simp -implicitDefEqProofs[hd,hr]
 ·have hd:=zpr (T:=T) a2 a1 b1 (by omega) h2 h1;have ha:=zdj (T:=T) a1 b1 0 h1 hb1 (by decide);rw[Y1]at ha;by_cases hbig:b1<a2∨4294967296≤a1+b1
  ·have hg:4294967295=g:=by
    refine F1 4294967295 (by decide) hgle ?_;refine zi3 (r:=a2*4294967296+a1-4294967295*b1) (by omega) ?_;omega
   subst hg;rw[f119 _ rfl,b119];rcases Yt b1 a2 with hb | hb
   ·simp -implicitDefEqProofs[hd,ha,hb]
   ·have hc:4294967296≤a1+b1:=by omega
    have hb2:¬ b1<a2:=by omega
    have m2:0<(a1+b1)/4294967296:=Nat.div_pos hc (by decide);simp -implicitDefEqProofs[hd,ha,hb2,m2]
  ·have hb2:¬ b1<a2:=fun h=>hbig (.inl h);have hc:a1+b1<4294967296:=by omega
   have m1:(a1+b1)%4294967296=a1+b1:=Ys hc;have m2:(a1+b1)/4294967296=0:=Ybh hc;rw[m1,m2]at ha;obtain⟨_,rfl,hr⟩:=zsj (T:=T) a2 a1 a0 b1 b0 g h0 hb1 hb0 F1 F2 (4294967295,a1+b1) ⟨Yx 4294967295,hc,by simp only;omega,hgle⟩;unfold Zgz at hr;simp at hr;have hb3:a2≤b1:=by omega
   rw[f119 _ rfl,b119];simp -implicitDefEqProofs[hd,ha,hb2,hr]
end
theorem zuh{V b d three two v0 b0:Nat}(hV:V=three*d+v0)(hv:v0<d)(hb:b=two*d+b0)(hb0:b0<d)(h2:4294967296≤two)(hlt:V<4294967296*b) :
  V/b≤min 4294967295 (three/two)∧min 4294967295 (three/two)≤V/b+1:=by
 have hd:0<d:=by omega
 have htp:0<two:=by omega
 have hbp:0<b:=by
  have:=Nat.mul_pos htp hd;omega
 have hq:V/b<4294967296:=Yco (by rw[Yae];exact hlt);have hqb:V/b*b≤V:=Nat.div_mul_le_self V b;have hqb2:V<(V/b+1)*b:=by rw[Yae];exact Nat.lt_mul_div_succ V hbp
 generalize V/b=q at *
 constructor
 ·refine Nat.le_min.2 ⟨by omega,(Ybn htp).2 ?_⟩;have h3:q*two*d<(three+1)*d:=by
   have:q*two*d≤q*b:=by rw[hb,Yaf,Yam];omega
   rw[Ybk,Ydk];omega
  have:=Nat.lt_of_mul_lt_mul_right h3;omega
 ·generalize hx:min 4294967295 (three/two)=x;have hx1:x≤three/two:=by rw[←hx];exact Nat.min_le_right _ _
  have hx2:x≤4294967295:=by rw[←hx];exact Ydt _ _
  have hx3:x*two≤three:=(Ybn htp).1 hx1;rcases Yt (q+1) x with h | h
  ·exfalso;have e1:(q+2)*two≤x*two:=Yr _ h;have e2:(q+2)*two*d≤three*d:=Yr _ (Yc e1 hx3);have e3:(q+1)*b=(q+1)*two*d+(q+1)*b0:=by rw[hb,Yaf,Yam]
   have e4:(q+1)*b0≤(q+1)*d:=Yan _ (Ydb hb0);have e5:(q+2)*two*d=(q+1)*two*d+two*d:=by rw[show q+2=(q+1)+1 from rfl,Ybk (q+1) 1 two,Ydk,Ybk]
   have e6:(q+1)*d≤two*d:=Yr _ (by omega);omega
  ·exact h
theorem zv8{vA vA' t p V x r vb vm T:Nat}(h0:vA=t+p*V)(h1:vA'=t+p*r)(hV:V=vb*x+r)(hT:T=vA+p*4294967296*(vm*vb)) :
  T=vA'+p*((x+4294967296*vm)*vb):=by grind
theorem zsu{V b x Bo vm p:Nat}(hb:0<b)(h1:V/b≤x)(h2:x≤V/b+1)(_hp:V<p)(hm:vm<p)(hBo:Bo≤1)(h:vm+x*b=V+p*Bo) :
  (Bo=0→x=V/b∧vm=V%b)∧(Bo=1→x=V/b+1∧vm+b=V%b+p):=by
 have hd:=Ybq V b;constructor
 ·intro h0;subst h0;have hx:x=V/b:=by
   have:x*b≤V:=by omega
   have:=(Ybn hb).2 this;omega
  grind
 ·intro h0;subst h0;have hx:x=V/b+1:=by
   grind
  grind
theorem zsv{vm b r p D vm':Nat}(_hr:r<p)(h:vm+b=r+p)(hm:vm'<p)(hD:D≤1)(hg:vm'+p*D=vm+b):vm'=r:=by
 rcases Ybd D with h0 | h0
 all_goals grind
theorem zk4{α:Type}{A:List α}{i k:Nat}(h:i=k)(hi:i<A.length)(hk:k<A.length):A[i]'hi=A[k]'hk:=by grind
theorem zi5(A:List UInt32)(j n:Nat):val (A.drop j)=val ((A.drop j).take n)+4294967296^((A.drop j).take n).length*val (A.drop (j+n)):=by
 grind[List.take_append_drop,zai,List.drop_drop]
theorem zpt{q x:Nat}(h:x=q+1)(hx:x<4294967296):Zf8 x 1=q:=by unfold Zf8;omega
theorem zsw{A m1:List UInt32}{j n:Nat}(hm1:m1.length=n+1)(hj:j+n<A.length) :
  (A.take j++(m1++A.drop (j+(n+1)))).take j=A.take j∧(A.take j++(m1++A.drop (j+(n+1)))).drop (j+(n+1))=A.drop (j+(n+1)) ∧
  ((A.take j++(m1++A.drop (j+(n+1)))).drop j).take (n+1)=m1∧(A.take j++(m1++A.drop (j+(n+1)))).length=A.length:=by
 have htj:(A.take j).length=j:=by grind
 refine⟨?_,?_,?_,?_⟩
 ·rw[Yb2 (by omega),Yb (by omega)]
 ·rw[←Ydy,Ybi (by omega),Yas (l:=A.take j) (by omega),Ybc,Ybi (by omega),Yas (by omega),Ybc]
 all_goals grind
theorem zsx{D:List UInt32}{n:Nat}(h:n+2<D.length):val (D.take (n+3))=(((D[n+2]'h).toNat*4294967296+(D[n+1]'(by omega)).toNat)*4294967296+(D[n]'(by omega)).toNat)*4294967296^n+val (D.take n):=by
 grind[zaf]
theorem zzm{D:List UInt32}{n:Nat}(h:n+1<D.length):val (D.take (n+2))=((D[n+1]'h).toNat*4294967296+(D[n]'(by omega)).toNat)*4294967296^n+val (D.take n):=by
 grind[zaf]
section
variable{T:Tbl}[Zn T][Zq T]
theorem zpu(A b:List UInt32)(j x:Nat)(hx:x<4294967296)(hj:j+b.length<A.length)(hl:A.length≤1000000) :
  ∃(B:Nat) (m:List UInt32),B≤1∧m.length=b.length+1∧val m+x*val b=val ((A.drop j).take (b.length+1))+4294967296^(b.length+1)*B ∧
   Zcf T 120 [.bs (.bor 0) 0 1 0 A.length,.i .i64 j,.sl (Zb b) .an,u32 x] [(.bor 0,⟨0,.own,1,Zb A⟩)] =
    some (.b (decide (0<B)),[(.bor 0,⟨0,.own,1,Zb (A.take j++(m++A.drop (j+(b.length+1))))⟩)]):=by
 have h1:(A.take j).length=j:=by grind
 have h2:(A.drop j).length=A.length-j:=by simp
 obtain⟨B,m,hB,hm,hv,hc⟩:=ztc (T:=T) (A.take j) (A.drop j) b x hx (by omega) (by omega)
 grind[List.take_append_drop,List.drop_drop]
end
section
variable{T:Tbl}[Zn T][Zq T]
theorem zpv(A b:List UInt32)(j:Nat)(hj:j+b.length<A.length)(hl:A.length≤1000000) :
  ∃(D:Nat) (m:List UInt32),D≤1∧m.length=b.length+1∧val m+4294967296^(b.length+1)*D=val ((A.drop j).take (b.length+1))+val b ∧
   Zcf T 121 [.bs (.bor 0) 0 1 0 A.length,.i .i64 j,.sl (Zb b) .an] [(.bor 0,⟨0,.own,1,Zb A⟩)] =
    some (.tup [],[(.bor 0,⟨0,.own,1,Zb (A.take j++(m++A.drop (j+(b.length+1))))⟩)]):=by
 have h1:(A.take j).length=j:=by grind
 have h2:(A.drop j).length=A.length-j:=by simp
 obtain⟨D,m,hD,hm,hv,hc⟩:=ztd (T:=T) (A.take j) (A.drop j) b (by omega) (by omega);rw[h1,h2,show j+(A.length-j)=A.length by omega,Yal,Ydy]at hc;exact⟨D,m,hD,hm,hv,hc⟩
end
section
variable{T:Tbl}[Zn T][Zw T][Zs T][Zq T]
def Zjh(b:List UInt32)(LA LQ:Nat)(y:Nat×List UInt32×List UInt32):St:=
 ⟨[(0,.bs (.bor 0) 0 1 0 LA),(1,.sl (Zb b) .an),(5,.i .i64 b.length),(6,.bs (.loc 15) 3 1 0 LQ),(7,.i .i64 ((y.1:Int)-1))],
  [(.bor 0,⟨0,.own,1,Zb y.2.1⟩),(.loc 15,⟨3,.own,1,Zb (List.replicate y.1 0++y.2.2)⟩)],5⟩
end
section
variable{T:Tbl}[Zn T][Zq T]
set_option maxHeartbeats 2000000 in
theorem zzn(A0 b:List UInt32)(LQ nb:Nat)(hnb:b.length=nb+2)(hb1:0<(b[nb+1]'(by omega)).toNat)(hl:A0.length≤1000000)(hA0:A0.length=LQ+b.length):∀y:Nat×List UInt32×List UInt32,
  (y.1≤LQ∧y.2.1.length=A0.length∧y.2.2.length=LQ-y.1∧val (y.2.1.drop y.1)<val b∧val A0=val y.2.1+4294967296^y.1*(val y.2.2*val b)) →
  ∃r,(∃Q A:List UInt32,r=(Ex.n,(⟨[(6,.bs (.loc 15) 3 1 0 LQ)],[(.bor 0,⟨0,.own,1,Zb A⟩),(.loc 15,⟨3,.own,1,Zb Q⟩)],5⟩:St)) ∧
   Q.length=LQ∧A.length=A0.length∧val Q=val A0/val b∧val A=val A0%val b)∧Zv T 1 0 (.norm false [6]) l93_0 (Zjh b A0.length LQ y)=some r:=by
 refine za0 _ _ (fun y=>y.1) _ ?_
 rintro⟨k,A,m⟩ ⟨hk,hA,hm,hlt,hv⟩
 simp only at hk hA hm hlt hv;have hbp:0<val b:=by omega
 cases k with
 | zero=>
  right;rw[Ydv,Ydk]at hv;rw[Yaz]at hlt;refine⟨_,⟨m,A,rfl,by omega,hA,?_,?_⟩,?_,?_⟩
  ·rw[hv,Nat.add_mul_div_right _ _ hbp,Ybh hlt,Yai]
  ·rw[hv,Nat.add_mul_mod_self_right,Ys hlt]
  ·simp -implicitDefEqProofs[l93_0,Zjh]
  ·simp -implicitDefEqProofs[l93_0,Zjh]
 | succ j=>
  left
  -- the window
  have hD:(A.drop j).length=A.length-j:=by simp
  have hDn:nb+2<(A.drop j).length:=by omega
  have hVlt:val (A.drop j)<4294967296*val b:=by
   have:=Yq (show j<A.length by omega);rw[this,zaq];have:=zal (A[j]'(by omega));omega
  have hbB:=za5 b;rw[hnb]at hbB;have hsplit:=zi5 A j (nb+3);have hlen3:((A.drop j).take (nb+3)).length=nb+3:=by simp;omega
  rw[hlen3]at hsplit;have hz:val (A.drop (j+(nb+3)))=0:=by
   rcases Ybd (val (A.drop (j+(nb+3)))) with h | h
   ·exact h
   ·exfalso;have h1:=Yan (4294967296^(nb+3)) h;rw[Yaa 4294967296 (nb+2)]at h1 hsplit;generalize 4294967296^(nb+2)=p at *
    generalize p*4294967296*val (A.drop (j+(nb+3)))=u at *
    omega
  rw[hz,Yaq,Y1]at hsplit;have h3:=zsx hDn;have h2:=zzm (D:=b) (n:=nb) (by omega);rw[zbi (a:=b) (i:=nb+2) (by omega)]at h2;have hv0:=za5 ((A.drop j).take nb);have hb0:=za5 (b.take nb);rw[show ((A.drop j).take nb).length=nb by simp;omega]at hv0;rw[show (b.take nb).length=nb by simp;omega]at hb0;obtain⟨V,hV⟩:∃V,V=val (A.drop j):=⟨_,rfl⟩;rw[←hV]at hsplit hVlt;rw[←hsplit]at h3;have hg:=zuh (V:=V) (b:=val b) h3 hv0 h2 hb0 (by omega) hVlt;obtain⟨p0,hp0⟩:∃p,p=j+b.length:=⟨_,rfl⟩;obtain⟨p1,hp1⟩:∃p,p=j+(nb+1):=⟨_,rfl⟩;obtain⟨p2,hp2⟩:∃p,p=j+nb:=⟨_,rfl⟩;obtain⟨q1,hq1⟩:∃p,p=nb+1:=⟨_,rfl⟩;have c1:p0<A.length:=by omega
  have c2:p1<A.length:=by omega
  have c3:p2<A.length:=by omega
  have c4:q1<b.length:=by omega
  have c5:nb<b.length:=by omega
  have e1:(A.drop j)[nb+2]'hDn=A[p0]'c1:=Ydf.trans (zk4 (by omega) _ _);have e2:(A.drop j)[nb+1]'(by omega)=A[p1]'c2:=Ydf.trans (zk4 (by omega) _ _);have e3:(A.drop j)[nb]'(by omega)=A[p2]'c3:=Ydf.trans (zk4 (by omega) _ _);have e4:b[nb+1]'(by omega)=b[q1]'c4:=zk4 (by omega) _ _;rw[e1,e2,e3,e4]at hg;rw[e4]at hb1;have hgs:=zpp (T:=T) (A[p0]'c1).toNat (A[p1]'c2).toNat (A[p2]'c3).toNat (b[q1]'c4).toNat (b[nb]'c5).toNat (zal _) (zal _) (zal _) (zal _) (zal _) hb1;obtain⟨x,hxd⟩:∃x,x=min 4294967295 ((((A[p0]'c1).toNat*4294967296+(A[p1]'c2).toNat)*4294967296+(A[p2]'c3).toNat)/((b[q1]'c4).toNat*4294967296+(b[nb]'c5).toNat)):=⟨_,rfl⟩;rw[←hxd]at hg hgs;have hx:x<4294967296:=by rw[hxd];exact Ycw (Ydt _ _) (by decide)
  clear hxd;obtain⟨Bo,m1,hBo,hm1,hvm1,hct⟩:=zpu (T:=T) A b j x hx (by omega) (by omega);rw[hnb,show nb+2+1=nb+3 from rfl,←hsplit]at hvm1;have hm1l:=za5 m1;rw[hm1,hnb,show nb+2+1=nb+3 from rfl]at hm1l;have hVp:V<4294967296^(nb+3):=by
   rw[Yaa 4294967296 (nb+2)];generalize 4294967296^(nb+2)=p at *
   omega
  have hpk:=zsu hbp hg.1 hg.2 hVp hm1l hBo hvm1;have hql:V/val b<4294967296:=Yco (by rw[Yae];exact hVlt);have hzb:val (A.drop (j+(b.length+1)))=0:=by rw[hnb];exact hz
  have htj:(A.take j).length=j:=by simp;omega
  have fin:∀m2:List UInt32,m2.length=b.length+1→val m2=V%val b →
    (A.take j++(m2++A.drop (j+(b.length+1)))).length=A0.length∧val ((A.take j++(m2++A.drop (j+(b.length+1)))).drop j)<val b ∧
    val A0=val (A.take j++(m2++A.drop (j+(b.length+1))))+4294967296^j*(val (w32 (V/val b)::m)*val b):=by
   intro m2 hm2 hvm2;refine⟨by simp[hm2];omega,?_,?_⟩
   ·rw[Ybi (by omega),Yas (by omega),Ybc,zai,hzb,Yaq,Y1,hvm2];exact Ya5 _ hbp
   ·have t1:val A=val (A.take j)+4294967296^j*V:=by rw[hV];exact zlo A j (by omega)
    have t2:val (A.take j++(m2++A.drop (j+(b.length+1))))=val (A.take j)+4294967296^j*(V%val b):=by
     rw[zai,zai,hzb,Yaq,Y1,hvm2,htj]
    rw[zaq,zah hql];exact zv8 t1 t2 (Ybq V (val b)).symm hv
  clear hv hvm1 hsplit h3 h2 hg hbB hVlt hlt hzb hz hv0 hb0 hm1l hVp;have hw1:IntKind.wrap .i64 ((j:Int)-1)=(j:Int)-1:=zac _ (by omega);have hw2:IntKind.wrap .i64 ((j:Int)+b.length)=((p0:Nat):Int):=by rw[zac _ (by omega)];omega
  have hw3:IntKind.wrap .i64 ((p0:Int)-1)=((p1:Nat):Int):=by rw[zac _ (by omega)];omega
  have hw4:IntKind.wrap .i64 ((p0:Int)-2)=((p2:Nat):Int):=by rw[zac _ (by omega)];omega
  have hw5:IntKind.wrap .i64 ((b.length:Int)-1)=((q1:Nat):Int):=by rw[zac _ (by omega)];omega
  have hw6:IntKind.wrap .i64 ((b.length:Int)-2)=((nb:Nat):Int):=by rw[zac _ (by omega)];omega
  have hj1:j<LQ:=by omega
  rw[hA]at hct;have hml:(w32 (V/val b)::m).length=LQ-j:=by simp[hm];omega
  have hjb:j+b.length<A.length:=by omega
  have hnb3:nb+3=b.length+1:=by omega
  have d1:p0<A0.length:=by omega
  have d2:p1<A0.length:=by omega
  have d3:p2<A0.length:=by omega
  rcases Ybd Bo with h0 | h0
  ·obtain⟨hxq,hvm⟩:=hpk.1 h0;subst h0;subst hxq;have hset:=zi8 (m:=m) (j:=j) (w32 (V/val b));obtain⟨f1,f2,f3⟩:=fin m1 hm1 hvm;refine⟨(j,A.take j++(m1++A.drop (j+(b.length+1))),w32 (V/val b)::m),⟨Ydb hj1,f1,hml,f2,f3⟩,Yx j,?_⟩;simp -implicitDefEqProofs[l93_0,Zjh,hw1,hw2,hw3,hw4,hw5,hw6,c4,c5,d1,d2,d3,hA,hj1,hgs,hct,hset,zi9,zbj _ _ _ hx]
  ·have h1:Bo=1:=by omega
   obtain⟨hxq,hvm⟩:=hpk.2 h1;subst h1;have hset:=zi8 (m:=m) (j:=j) (w32 (V/val b));obtain⟨t1,t2,t3,t4⟩:=zsw (A:=A) hm1 hjb;rw[hA]at t4;obtain⟨D,m2,hD,hm2,hvm2,hcg⟩:=zpv (T:=T) (A.take j++(m1++A.drop (j+(b.length+1)))) b j (by rw[t4,←hA];exact hjb) (by rw[t4];exact hl);rw[t1,t2,t4]at hcg;rw[t3]at hvm2;have hm2l:=za5 m2;rw[hm2]at hm2l;have hVb:=Ya5 V hbp;have hbq:val b<4294967296^(b.length+1):=Yl (za5 b) (Yn (by decide) (Ya8 _));rw[hnb3]at hvm;have hv2:=zsv (Nat.lt_trans hVb hbq) hvm hm2l hD hvm2;have hsx:=zpt hxq hx;obtain⟨f1,f2,f3⟩:=fin m2 hm2 hv2;refine⟨(j,A.take j++(m2++A.drop (j+(b.length+1))),w32 (V/val b)::m),⟨Ydb hj1,f1,hml,f2,f3⟩,Yx j,?_⟩;simp -implicitDefEqProofs[l93_0,Zjh,hw1,hw2,hw3,hw4,hw5,hw6,c4,c5,d1,d2,d3,hA,hj1,hgs,hct,hsx,hcg,hset,zi9,zbj _ _ _ hql]
end
section
variable{T:Tbl}[Zn T][Zq T]
theorem zsy(A b:List UInt32)(LQ nb:Nat)(hnb:b.length=nb+2)(hb1:0<(b[nb+1]'(by omega)).toNat)(hl:A.length≤1000000)(hA:A.length=LQ+b.length)(hlt:val (A.drop LQ)<val b) :
  ∃Q R:List UInt32,Q.length=LQ∧R.length=A.length∧val Q=val A/val b∧val R=val A%val b ∧
   Zcf T 93 [.bs (.bor 0) 0 1 0 A.length,.sl (Zb b) .an] [(.bor 0,⟨0,.own,1,Zb A⟩)]=some (.bs (.loc 15) 3 1 0 LQ,[(.bor 0,⟨0,.own,1,Zb R⟩),(.loc 15,⟨3,.own,1,Zb Q⟩)]):=by
 obtain⟨_,⟨Q,R,rfl,hQ,hR,hq,hr⟩,hlp⟩:=zzn (T:=T) A b LQ nb hnb hb1 hl hA (LQ,A,[]) ⟨Yg _,rfl,by simp,hlt,by simp⟩;have hw:IntKind.wrap .i64 ((A.length:Int)-b.length)=(LQ:Int):=by rw[zac _ (by omega)];omega
 have hw1:IntKind.wrap .i64 ((LQ:Int)-1)=(LQ:Int)-1:=zac _ (by omega);have h1:(LQ:Int)≤4294967296:=by omega
 refine⟨Q,R,hQ,hR,hq,hr,?_⟩;unfold Zjh at hlp;simp at hlp;rw[zbn Zq.h93 rfl,b93];simp -implicitDefEqProofs[hw,hw1,h1,hlp]
end
def b2071:AX:=
 (.seq
 (.reg [rg 2 (.mov (.c (.sl [] .nl)))])
 (.seq
 (.reg [mv 3 0,rg 4 (.call 86 [(.t 3)]),rg 5 (.call 2106 [(.t 4),(.c (.i .i64 0))]),mv 2 5])
 (.pre (.norm false [2]) .ret)))
def l2092_0:AX:=
 (.note
 (.seq
 (.reg [rg 27 (.bin .lss (.t 26) (.t 25))])
 (.seq
 (.cond (.t 27)
 .skip
 (.exit 0))
 (.seq
 (.block 1
 (.seq
 (.reg [mv 28 26,rg 29 (.iad 1 (.t 24) (.t 26)),rg 30 (.load none (.t 29)),mv 8 28,mv 9 30])
 (.seq
 (.reg [mv 31 9,rg 32 (.conv .u64 (.t 31)),mv 33 6,rg 34 (.bin .shl (.t 32) (.t 33)),mv 10 34])
 (.seq
 (.reg [mv 35 7,mv 36 5,mv 37 8,rg 38 (.bin .add (.t 36) (.t 37)),rg 39 (.iad 1 (.t 35) (.t 38)),rg 40 (.load none (.t 39)),mv 41 10,rg 42 (.conv .u32 (.t 41)),rg 43 (.bin .or (.t 40) (.t 42)),rg 44 (.iad 1 (.t 35) (.t 38)),so (.store 1 (.t 44) (.t 43))])
 (.reg [mv 45 7,mv 46 5,mv 47 8,rg 48 (.bin .add (.t 46) (.t 47)),rg 49 (.bin .add (.t 48) (.c (.i .i64 1))),mv 50 10,rg 51 (.bin .shr (.t 50) (.c (u64 32))),rg 52 (.conv .u32 (.t 51)),rg 53 (.iad 1 (.t 45) (.t 49)),so (.store 1 (.t 53) (.t 52))])))))
 (.reg [rg 54 (.bin .add (.t 26) (.c (.i .i64 1))),mv 26 54]))))
 (.norm false [5,6,7,24,25,26]))
def b2092:AX:=
 (.seq
 (.reg [rg 4 (.mov (.c (.sl [] .nl)))])
 (.seq
 (.reg [mv 11 1,rg 12 (.mm true [(.t 11),(.c (.i .i64 0))]),rg 13 (.mm false [(.t 12),(.c (.i .i64 4096))]),mv 1 13])
 (.seq
 (.reg [mv 14 1,rg 15 (.bin .quo (.t 14) (.c (.i .i64 32))),mv 16 1,rg 17 (.bin .rem (.t 16) (.c (.i .i64 32))),mv 5 15,mv 6 17])
 (.seq
 (.reg [mv 18 5,mv 19 0,rg 20 (.len (.t 19)),rg 21 (.bin .add (.t 18) (.t 20)),rg 22 (.bin .add (.t 21) (.c (.i .i64 1))),rg 23 (.mks 1 [(u32 0)] (.t 22) (.t 22)),mv 7 23])
 (.seq
 (.seq
 (.reg [mv 24 0,rg 25 (.len (.t 24)),rg 26 (.mov (.c (.i .i64 0)))])
 (.lp 0 (.norm false [5,6,7,24,25,26]) l2092_0 (.norm false [7])))
 (.seq
 (.reg [mv 55 7,rg 56 (.call 2071 [(.t 55)]),mv 4 56])
 (.pre (.norm false [4]) .ret)))))))
def b62:AX:=
 (.seq
 (.reg [rg 4 (.mov (.c (.sl [] .nl))),rg 5 (.mov (.c (.sl [] .nl))),rg 6 (.mov (.c (.b false)))])
 (.seq
 (.reg [mv 12 1,rg 13 (.call 71 [(.t 12)]),mv 1 13])
 (.seq
 (.block 0
 (.seq
 (.reg [mv 15 1,rg 16 (.len (.t 15)),rg 17 (.bin .eql (.t 16) (.c (.i .i64 0))),mv 14 17])
 (.cond (.t 14)
 (.seq
 (.reg [rg 4 (.mov (.c (.sl [] .nl))),rg 5 (.mov (.c (.sl [] .nl))),rg 6 (.mov (.c (.b false)))])
 (.pre (.norm false [4,5,6]) .ret))
 (.seq
 (.reg [mv 19 0,mv 20 1,rg 21 (.call 87 [(.t 19),(.t 20)]),rg 22 (.bin .lss (.t 21) (.c (.i .i64 0))),mv 18 22])
 (.cond (.t 18)
 (.seq
 (.reg [mv 23 0,rg 24 (.call 71 [(.t 23)]),rg 4 (.mov (.c (.sl [] .nl))),mv 5 24,rg 6 (.mov (.c (.b true)))])
 (.pre (.norm false [4,5,6]) .ret))
 (.seq
 (.reg [mv 26 1,rg 27 (.len (.t 26)),rg 28 (.bin .eql (.t 27) (.c (.i .i64 1))),mv 25 28])
 (.cond (.t 25)
 (.seq
 (.reg [mv 30 0,mv 31 1,rg 32 (.iad 1 (.t 31) (.c (.i .i64 0))),rg 33 (.load none (.t 32)),rg 34 (.call 90 [(.t 30),(.t 33)]),mv 29 34,rg 35 (.ext (.t 29) 0),rg 36 (.ext (.t 29) 1),rg 37 (.ext (.t 29) 2),mv 7 35,mv 8 36,mv 9 37])
 (.seq
 (.reg [mv 38 7,mv 39 8,rg 40 (.conv .u64 (.t 39)),rg 41 (.call 72 [(.t 40)]),mv 4 38,mv 5 41,rg 6 (.mov (.c (.b true)))])
 (.pre (.norm false [4,5,6]) .ret)))
 .skip)))))))
 (.seq
 (.reg [mv 42 1,mv 43 1,rg 44 (.len (.t 43)),rg 45 (.bin .sub (.t 44) (.c (.i .i64 1))),rg 46 (.iad 1 (.t 42) (.t 45)),rg 47 (.load none (.t 46)),rg 48 (.call 91 [(.t 47)]),rg 49 (.bin .sub (.c (.i .i64 32)) (.t 48)),mv 10 49])
 (.seq
 (.reg [mv 50 0,mv 51 10,rg 52 (.call 2092 [(.t 50),(.t 51)]),rg 53 (.bsl 1 [(u32 0)] 1 [(0,(.c (u32 0)))]),rg 54 (.app 1 (.t 52) (.t 53)),mv 11 54])
 (.seq
 (.reg [mv 55 11,mv 56 1,mv 57 10,rg 58 (.call 2092 [(.t 56),(.t 57)]),rg 59 (.call 93 [(.t 55),(.t 58)]),mv 4 59])
 (.seq
 (.reg [mv 60 4,rg 61 (.call 71 [(.t 60)]),mv 62 11,mv 63 10,rg 64 (.call 94 [(.t 62),(.t 63)]),mv 4 61,mv 5 64,rg 6 (.mov (.c (.b true)))])
 (.pre (.norm false [4,5,6]) .ret))))))))
def row2071:AFx:=⟨1,6,[.t 2],b2071,(some [false]),false⟩
def row2092:AFx:=⟨2,57,[.t 4],b2092,(some [false,false]),false⟩
def row62:AFx:=⟨2,65,[.t 4,.t 5,.t 6],b62,none,false⟩
class Zk (T:Tbl):Prop where
 h2071:T 2071=some row2071
 h2092:T 2092=some row2092
 h62:T 62=some row62
section
variable{T:Tbl}[Zk T]{d:Option Nat}{st:St}
@[simp] theorem x2071(xs:List AV):Zd (orc T) T 2071 xs d st=bL (Zeq st.heap [false] xs) fun ys=>Zef ys (Zj (Za4 [false] xs) st.heap) (Zc0 (Zj (Za4 [false] xs) st.heap) 40 (Zcj [false] xs) []) T 2071 false d st:=zay Zk.h2071
@[simp] theorem x2092(xs:List AV):Zd (orc T) T 2092 xs d st=bL (Zeq st.heap [false,false] xs) fun ys=>Zef ys (Zj (Za4 [false,false] xs) st.heap) (Zc0 (Zj (Za4 [false,false] xs) st.heap) 40 (Zcj [false,false] xs) []) T 2092 false d st:=zay Zk.h2092
@[simp] theorem x62(xs:List AV):Zd (orc T) T 62 xs d st=cP T 62 false xs d st:=zaa Zk.h62
end
theorem zz5(x:Nat):x<2^Z5 x:=by
 unfold Z5;split
 ·subst x;decide
 ·exact Ycs
theorem zte{x:Nat}(h:x<4294967296):Z5 x≤32:=by
 unfold Z5;split
 ·omega
 ·rename_i h0;have:=(Yc7 h0 (k:=32)).2 (by simpa using h);omega
theorem zxq{n k:Nat}(h:(ofN n).length=k+1):4294967296^k≤n:=by
 rcases Yt n (4294967296^k) with h1 | h1
 ·have:=zae h1;omega
 ·exact h1
theorem z5b{b:List UInt32}{nb:Nat}(h:b.length=nb+2)(hb:b=ofN (val b)) :
  (ofN (val b*2^(32-Z5 (b[nb+1]'(by omega)).toNat))).length=nb+2:=by
 have hl:=zte (zal (b[nb+1]'(by omega)));have hs:=zz5 (b[nb+1]'(by omega)).toNat;have h1:val b=val (b.take (nb+1))+4294967296^(nb+1)*(b[nb+1]'(by omega)).toNat:=by
  have:=zaf (Ya (show nb+1<b.length by omega))
  rwa [zbi (by omega)]at this
 have h2:=za5 (b.take (nb+1));rw[show (b.take (nb+1)).length=nb+1 by simp;omega]at h2;generalize (b[nb+1]'(by omega)).toNat=t at *
 refine Nat.le_antisymm (zae ?_) ?_
 ·have h3:val b<4294967296^(nb+1)*2^Z5 t:=by
   have:4294967296^(nb+1)*(t+1)≤4294967296^(nb+1)*2^Z5 t:=Yan _ hs;rw[Yaf,Ydi]at this;omega
  have h4:2^Z5 t*2^(32-Z5 t)=4294967296:=by
   rw[←Ybp,show Z5 t+(32-Z5 t)=32 by omega]
  have h5:=Yc9 h3 (Ybg (n:=32-Z5 t) (show 0<2 by decide));rw[Yam,h4,←Yaa]at h5;exact h5
 ·have h3:val b≤val b*2^(32-Z5 t):=Ydg _ (Ybg (by decide));have:=zbl h3;rw[←hb]at this;omega
theorem zz6{b:List UInt32}{nb:Nat}(h:b.length=nb+2)(hb:b=ofN (val b)):0<(b[nb+1]'(by omega)).toNat:=by
 have h1:val b=val (b.take (nb+1))+4294967296^(nb+1)*(b[nb+1]'(by omega)).toNat:=by
  have:=zaf (Ya (show nb+1<b.length by omega))
  rwa [zbi (by omega)]at this
 have h2:=za5 (b.take (nb+1));rw[show (b.take (nb+1)).length=nb+1 by simp;omega]at h2;have h3:4294967296^(nb+1)≤val b:=zxq (by rw[←hb];omega);rcases Ybd (b[nb+1]'(by omega)).toNat with h0 | h0
 ·rw[h0,Yaq]at h1;omega
 ·exact h0
theorem zg8(l:List UInt32):val (l++[0])=val l:=by rw[zai];simp
theorem z5c{A b:List UInt32}{nb L:Nat}(hA:(A++[0]).length=L+b.length)(hb:b.length=nb+2)(hbo:b=ofN (val b)):val ((A++[0]).drop L)<val b:=by
 have hl:L≤A.length:=by simp at hA;omega
 rw[Ybi hl,zg8];have h1:=za5 (A.drop L);have h2:(A.drop L).length=nb+1:=by simp at hA ⊢;omega
 rw[h2]at h1;exact Yl h1 (zxq (by rw[←hbo];omega))
section
variable{T:Tbl}[Zn T][Zk T]
theorem zlg(a:List UInt32)(hl:a.length≤1000000):Zcf T 2071 [.sl (Zb a) .an] [] =
  some (.bs (.fld (.loc 5) 10) 1 1 0 (ofN (val a)).length,[(.fld (.loc 5) 10,⟨1,.own,1,Zb (ofN (val a))⟩)]):=by
 have h1:=zad a;have h2:=zcb (T:=T) (ofN (val a)) 0 (by omega);simp only[Y3,Y1,List.replicate_zero,Ybb]at h2;rw[zbn Zk.h2071 rfl,b2071];simp -implicitDefEqProofs[zbk a (by omega),h2]
end
section
variable{T:Tbl}[Zn T][Zk T]
theorem zg9(a:List UInt32)(n:Nat)(hn:n≤4096)(hl:a.length≤100000):Zcf T 2092 [.sl (Zb a) .an,.i .i64 n] [] =
  some (.bs (.fld (.fld (.loc 56) 0) 6010) 1 1 0 (ofN (val a*2^n)).length,[(.fld (.fld (.loc 56) 0) 6010,⟨1,.own,1,Zb (ofN (val a*2^n))⟩)]):=by
 obtain⟨_,⟨c,m,rfl,hm,hc,hv⟩,hr⟩:=zua (T:=T) (List.replicate (n/32) 0) a (n%32) (Ya5 _ (by decide)) (by simp;omega) (0,0,[]) ⟨Yu _,Ybg (by decide),rfl,by simp⟩;have hc32:c<4294967296:=Yl hc (by
  have:2^(n%32)≤2^32:=Yn (by decide) (by omega);simpa using this)
 have hval:val (List.replicate (n/32) 0++(m++[w32 c]))=val a*2^n:=by
  rw[zai,za8,Yb8,zai,hm];simp only[zaq,zbo,Yaq,Y1,zah hc32,Yai];rw[hv,zw2,←Yam,←Ybp,show 32*(n/32)+n%32=n by omega,Yae]
 have hlen:(List.replicate (n/32) 0++(m++[w32 c])).length=n/32+a.length+1:=by simp[hm];omega
 have hnm:=zlg (T:=T) (List.replicate (n/32) 0++(m++[w32 c])) (by omega);rw[hval]at hnm;rw[show l92_0=l2092_0 from rfl]at hr;unfold Zks at hr;generalize List.replicate (n/32) 0++(m++[w32 c])=Q at *
 simp at hr;have hz:List.replicate (n/32) (0:UInt32)++w32 0::List.replicate a.length 0=List.replicate (n/32+a.length+1) 0:=by
  have:w32 0=0:=rfl;rw[this,←Yav,Ybu,Ya1]
 rw[hz]at hr;have hn2:¬ (4096:Int)<(n:Int):=by omega
 have hq:(n:Int).tdiv 32=(n:Int)/32:=Ycl (by omega);have hm2:(n:Int).tmod 32=(n:Int)%32:=Ycm (by omega);have w1:IntKind.wrap .i64 ((n:Int)/32)=(n:Int)/32:=zac (n/32) (by omega);have w2:IntKind.wrap .i64 ((n:Int)/32+a.length)=(n:Int)/32+a.length:=zac _ (by omega);have w3:IntKind.wrap .i64 ((n:Int)/32+a.length+1)=(n:Int)/32+a.length+1:=zac _ (by omega);have p1:(0:Int)≤(n:Int)/32+a.length+1:=by omega
 have p2:(n:Int)/32+a.length+1≤4294967296:=by omega
 have p3:((n:Int)/32+a.length+1).toNat=n/32+a.length+1:=by omega
 have htk:List.take (n/32+a.length+1) Q=Q:=Yb (by omega);rw[zbn Zk.h2092 rfl,b2092];simp -implicitDefEqProofs[hn2,hq,hm2,w1,w2,w3,p1,p2,p3,hr,hnm,htk,hlen]
end
section
variable{T:Tbl}[Zn T][Zw T][Zs T][Zq T][Zk T]
theorem ze0(a b:List UInt32)(ha:a.length≤90000)(hb:b.length≤90000):Za T 62 [.sl (Zb a) .an,.sl (Zb b) .an] =
  some (if val b=0 then .tup [.sl [] .an,.sl [] .an,.b false] else .tup [.sl (Zb (ofN (val a/val b))) .an,.sl (Zb (ofN (val a%val b))) .an,.b true]):=by
 have hnb:=za6 (T:=T) b (by omega);have hna:=za6 (T:=T) a (by omega);have hlb:=zad b;have hla:=zad a;have hcmp:=zg5 (T:=T) a (ofN (val b)) (by omega) (by omega);rw[zag]at hcmp;rw[zab Zk.h62 rfl,b62];by_cases h0:val b=0
 ·rw[h0]at hnb;simp -implicitDefEqProofs[hnb,h0]
 ·have h0':ofN (val b)≠[]:=fun h=>h0 (za4.1 h);have hl0:(ofN (val b)).length≠0:=fun h=>h0' (Ya0 h);by_cases hlt:val a<val b
  ·have hd:=Ybh hlt;have hm:=Ys hlt;simp -implicitDefEqProofs[hnb,h0,hl0,hcmp,zdb,hlt,hna,hd,hm]
  ·rcases Yt 1 (ofN (val b)).length with h1 | h1
   ·obtain⟨b',hb'⟩:∃b',b'=ofN (val b):=⟨_,rfl⟩;have hvb:val b'=val b:=by rw[hb',zag]
    have hbo:b'=ofN (val b'):=by rw[hvb,hb']
    rw[←hb']at hnb hcmp hl0 h1 hlb;obtain⟨nb,hnbl⟩:∃nb,b'.length=nb+2:=⟨b'.length-2,by omega⟩;have hll:=zob (T:=T) (b'[nb+1]'(by omega));have hbl:=zte (zal (b'[nb+1]'(by omega)));have hup:=z5b hnbl hbo;obtain⟨s,hs⟩:∃s,s=32-Z5 (b'[nb+1]'(by omega)).toNat:=⟨_,rfl⟩;obtain⟨l,hll2⟩:∃l,l=Z5 (b'[nb+1]'(by omega)).toNat:=⟨_,rfl⟩;rw[←hs]at hup;rw[←hll2]at hll hs hbl;obtain⟨B,hB⟩:∃B,B=ofN (val b'*2^s):=⟨_,rfl⟩;obtain⟨A,hA⟩:∃A,A=ofN (val a*2^s):=⟨_,rfl⟩;have hua:=zg9 (T:=T) a s (by omega) (by omega);have hub:=zg9 (T:=T) b' s (by omega) (by omega);rw[←hA]at hua;rw[←hB]at hub hup;have hBo:B=ofN (val B):=by rw[hB,zag]
    have hvA:val A=val a*2^s:=by rw[hA,zag]
    have hvB:val B=val b'*2^s:=by rw[hB,zag]
    have hAB:B.length≤A.length:=by
     rw[hA,hB];exact zbl (Yr _ (by omega))
    have hAl:A.length≤a.length+1:=by
     rw[hA];refine zae ?_;have h2:2^s≤2^32:=Yn (by decide) (by omega);rw[Yaa];exact Ycw (Yan _ h2) (Yc9 (za5 a) (by decide))
    have hpos:=zz6 (hup) hBo;obtain⟨Q,R,hQ,hR,hvQ,hvR,hlong⟩:=zsy (T:=T) (A++[0]) B (A.length+1-B.length) nb hup hpos (by simp;omega) (by simp;omega) (z5c (by simp;omega) hup hBo);rw[zg8,hvA,hvB,hvb,Nat.mul_div_mul_right _ _ (Ybg (by decide))]at hvQ;rw[zg8,hvA,hvB,hvb,Nat.mul_mod_mul_right]at hvR;have hnq:=za6 (T:=T) Q (by omega);have hAl1:(A++[(0:UInt32)]).length=A.length+1:=by simp
    rw[hAl1]at hlong hR;have hdn:=zud (T:=T) R s (by omega) (by omega);rw[hvR,Nat.mul_div_cancel _ (Ybg (by decide))]at hdn;rw[hvQ]at hnq;obtain⟨q1,hq1⟩:∃p,p=nb+1:=⟨_,rfl⟩;have c1:q1<b'.length:=by omega
    have hwt:b'[nb+1]'(by omega)=b'[q1]'c1:=zk4 (by omega) _ _;rw[hwt]at hll;have w1:IntKind.wrap .i64 ((b'.length:Int)-1)=(q1:Int):=by rw[zac _ (by omega)];omega
    have w2:IntKind.wrap .i64 (32-(l:Int))=(s:Int):=by rw[zac _ (by omega)];omega
    have c3:A.length≤4294967295:=by omega
    have c4:w32 0=0:=rfl;have c5:A.length+1≤A.length+1-B.length+B.length:=by omega
    have c2:¬ ((b'.length:Int)=1):=by omega
    have t1:List.take (A.length+1) R=R:=Yb (by omega);have t2:List.take (A.length+1-B.length) Q=Q:=Yb (by omega);simp -implicitDefEqProofs[hnb,h0,hl0,hcmp,zdb,hlt,w1,w2,c1,c2,c3,c4,c5,hll,hua,hub,hlong,hnq,hdn,t1,t2,hQ,hR]
   ·have hl1:(ofN (val b)).length=1:=by omega
    obtain⟨w,hw⟩:=List.length_eq_one_iff.1 hl1;have hvb:val b=w.toNat:=by
     have:=zag (val b);rw[hw]at this;simp at this;omega
    have hwl:=zal w;have hwd:=ztb (T:=T) a (val b) (by omega) (by omega) (by omega);have hof:=zd4 (T:=T) (val a%val b) (by have:=Ya5 (val a) (show 0<val b by omega);omega);have m1:val a%val b%18446744073709551616=val a%val b:=Ys (by have:=Ya5 (val a) (show 0<val b by omega);omega);rw[hw]at hnb hcmp;rw[←hvb]at hwl;simp -implicitDefEqProofs[hnb,h0,hcmp,zdb,hlt,hwd,←hvb,hof,m1]
end
def Zna(n:Nat):List UInt8:=if h:n<10 then [UInt8.ofNat (48+n)] else UInt8.ofNat (48+n%10)::Zna (n/10)
termination_by n
decreasing_by omega
def Zg7(n:Nat):List UInt8:=(Zna n).reverse
def Zl5:List AV→Option UInt32
 | [.i .u32 n]=>if 0≤n∧n<4294967296 then some (w32 n.toNat) else none
 | _=>none
def prim68:List AV→Option AV
 | [.sl els .an]=>if els.length≤1000 then (els.mapM Zl5).map fun l=>.s (Zg7 (val l)) else none
 | _=>none
def Zc7:Nat→List UInt8→Int
 | _,[]=>-1
 | k,c::r=>if c.toNat<48∨57<c.toNat∨k=60 then k else Zc7 (k+1) r
def Z0(l:List UInt8):Int:=if l=[] then 0 else Zc7 0 l
theorem zm9:∀(k:Nat) (l:List UInt8),-1≤Zc7 k l
 | _,[]=>by simp[Zc7]
 | k,c::r=>by
  simp only[Zc7];split
  ·omega
  ·exact zm9 (k+1) r
theorem zhg:∀(k:Nat) (l:List UInt8),k≤60→Zc7 k l≤60
 | _,[],_=>by simp[Zc7]
 | k,c::r,h=>by
  simp only[Zc7];split
  ·omega
  ·exact zhg (k+1) r (by omega)
theorem zf8:∀(k:Nat) (l:List UInt8),k≤60→Zc7 k l<0→k+l.length≤60∧∀c∈l,48≤c.toNat∧c.toNat≤57
 | k,[],h,_=>⟨by simpa using h,by simp⟩
 | k,c::r,h,hw=>by
  simp only[Zc7]at hw;split at hw
  ·omega
  ·rename_i hc;obtain⟨h1,h2⟩:=zf8 (k+1) r (by omega) hw;refine⟨by simp;omega,fun d hd=>?_⟩;rcases Yy.1 hd with rfl | hd
   ·omega
   ·exact h2 d hd
def rd(l:List UInt8):Nat:=l.foldl (fun n c=>n*10+(c.toNat-48)) 0
theorem z0o(l:List UInt8):∀n,l.foldl (fun n c=>n*10+(c.toNat-48)) n=n*10^l.length+rd l:=by
 induction l with
 | nil=>intro n;simp[rd]
 | cons c l ih=>
  intro n;simp only[Yc6,Yk,rd];rw[ih,ih (0*10+(c.toNat-48)),Yaa]
  grind
theorem zhh(a b:List UInt8):rd (a++b)=rd a*10^b.length+rd b:=by
 unfold rd;rw[List.foldl_append,z0o]
 rfl
theorem z0p(a:List UInt8)(c:UInt8):rd (a++[c])=rd a*10+(c.toNat-48):=by
 rw[zhh];simp[rd]
theorem zlp{l:List UInt8}{i:Nat}{c:UInt8}(h:l[i]? = some c):rd (l.take (i+1))=rd (l.take i)*10+(c.toNat-48):=by
 rw[Ycx,h];exact z0p _ _
theorem zui{l:List UInt8}(h:∀c∈l,48≤c.toNat∧c.toNat≤57):rd l<10^l.length:=by
 induction l with
 | nil=>simp[rd]
 | cons c l ih=>
  have h1:=ih fun d hd=>h d (Ym _ hd);have h2:=h c Y2;have:rd (c::l)=(c.toNat-48)*10^l.length+rd l:=by
   have:=zhh [c] l;simpa[rd]using this
  rw[this,Yk,Yaa];have h3:(c.toNat-48)*10^l.length≤9*10^l.length:=Yr _ (by omega);omega
def txN(n:Nat)(s:List UInt8):List UInt8:=if n=0∧s≠[] then s else Zg7 n++s
def Zov:Nat→Nat→List UInt8
 | 0,_=>[]
 | k+1,x=>Zov k (x/10)++[UInt8.ofNat (48+x%10)]
def u8c(l:List UInt8):List AV:=l.map fun b=>u8 b.toNat
def b98:AX:=
 (.seq
 (.reg [rg 4 (.mov (.c (.s []))),rg 5 (.mov (.c (.b false)))])
 (.seq
 (.seq
 (.reg [mv 6 0,mv 7 1,rg 8 (.call 123 [(.t 6),(.t 7)]),rg 9 (.un .not (.t 8))])
 (.cond (.t 9)
 (.seq
 (.reg [mv 10 0,mv 4 10,rg 5 (.mov (.c (.b false)))])
 (.pre (.norm false [4,5]) .ret))
 .skip))
 (.seq
 (.reg [mv 11 0,mv 12 1,rg 13 (.lens (.t 12)),rg 14 (.slstr (.t 11) (some (.t 13)) none),mv 4 14,rg 5 (.mov (.c (.b true)))])
 (.pre (.norm false [4,5]) .ret))))
def b123:AX:=
 (.seq
 (.reg [rg 4 (.mov (.c (.b false)))])
 (.seq
 (.reg [mv 5 0,rg 6 (.lens (.t 5)),mv 7 1,rg 8 (.lens (.t 7)),rg 9 (.bin .geq (.t 6) (.t 8)),mv 10 9,gd 11 10 true (.mov (.t 0)),gd 12 10 true (.mov (.t 1)),gd 13 10 true (.lens (.t 12)),gd 14 10 true (.slstr (.t 11) none (some (.t 13))),gd 15 10 true (.mov (.t 1)),gd 16 10 true (.bin .eql (.t 14) (.t 15)),rg 17 (.pick (.t 10) (.t 16) (.c (.b false))),mv 4 17])
 (.pre (.norm false [4]) .ret)))
def b64:AX:=
 (.seq
 (.reg [rg 4 (.mov (.c (.s []))),rg 5 (.mov (.c (.b false)))])
 (.seq
 (.reg [mv 6 0,mv 7 1,rg 8 (.call 98 [(.t 6),(.t 7)]),rg 9 (.ext (.t 8) 0),rg 10 (.ext (.t 8) 1),mv 4 9,mv 5 10])
 (.pre (.norm false [4,5]) .ret)))
def l99_0:AX:=
 (.note
 (.seq
 (.reg [rg 7 (.bin .lss (.t 6) (.t 5))])
 (.seq
 (.cond (.t 7)
 .skip
 (.exit 0))
 (.seq
 (.block 1
 (.seq
 (.reg [mv 8 6,mv 3 8])
 (.seq
 (.reg [mv 9 0,mv 10 3,rg 11 (.ixs (.t 9) (.t 10)),rg 12 (.bin .lss (.t 11) (.c (u8 48))),mv 13 12,gd 14 13 false (.mov (.t 0)),gd 15 13 false (.mov (.t 3)),gd 16 13 false (.ixs (.t 14) (.t 15)),gd 17 13 false (.bin .gtr (.t 16) (.c (u8 57))),rg 18 (.pick (.t 13) (.c (.b true)) (.t 17)),mv 19 18,gd 20 19 false (.mov (.t 3)),gd 21 19 false (.bin .eql (.t 20) (.c (.i .i64 60))),rg 22 (.pick (.t 19) (.c (.b true)) (.t 21))])
 (.cond (.t 22)
 (.seq
 (.reg [mv 23 3,mv 2 23])
 (.pre (.norm false [2]) .ret))
 .skip))))
 (.reg [rg 24 (.bin .add (.t 6) (.c (.i .i64 1))),mv 6 24]))))
 (.norm false [0,5,6]))
def b99:AX:=
 (.seq
 (.reg [rg 2 (.mov (.c (.i .i64 0)))])
 (.seq
 (.seq
 (.reg [mv 4 0,rg 5 (.lens (.t 4)),rg 6 (.mov (.c (.i .i64 0)))])
 (.lp 0 (.norm false [0,5,6]) l99_0 (.norm false [0])))
 (.seq
 (.seq
 (.reg [mv 25 0,rg 26 (.bin .eql (.t 25) (.c (.s [])))])
 (.cond (.t 26)
 (.seq
 (.reg [rg 2 (.mov (.c (.i .i64 0)))])
 (.pre (.norm false [2]) .ret))
 .skip))
 (.seq
 (.reg [rg 2 (.mov (.c (.i .i64 (-1))))])
 (.pre (.norm false [2]) .ret)))))
def l65_0:AX:=
 (.note
 (.seq
 (.seq
 (.reg [mv 20 9,rg 21 (.bin .lss (.t 20) (.c (.i .i64 9))),mv 22 21,gd 23 22 true (.mov (.t 6)),gd 24 22 true (.mov (.t 0)),gd 25 22 true (.lens (.t 24)),gd 26 22 true (.bin .lss (.t 23) (.t 25)),rg 27 (.pick (.t 22) (.t 26) (.c (.b false)))])
 (.cond (.t 27)
 .skip
 (.exit 2)))
 (.seq
 (.block 3
 (.seq
 (.reg [mv 30 7,rg 31 (.bin .mul (.t 30) (.c (u32 10))),mv 32 0,mv 33 6,rg 34 (.ixs (.t 32) (.t 33)),rg 35 (.bin .sub (.t 34) (.c (u8 48))),rg 36 (.conv .u32 (.t 35)),rg 37 (.bin .add (.t 31) (.t 36)),mv 7 37])
 (.seq
 (.reg [mv 38 8,rg 39 (.bin .mul (.t 38) (.c (u32 10))),mv 8 39])
 (.reg [mv 40 6,rg 41 (.bin .add (.t 40) (.c (.i .i64 1))),mv 6 41]))))
 (.reg [mv 28 9,rg 29 (.bin .add (.t 28) (.c (.i .i64 1))),mv 9 29])))
 (.norm false [0,3,5,6,7,8,9]))
def l65_1:AX:=
 (.note
 (.seq
 (.seq
 (.reg [mv 16 6,mv 17 0,rg 18 (.lens (.t 17)),rg 19 (.bin .lss (.t 16) (.t 18))])
 (.cond (.t 19)
 .skip
 (.exit 0)))
 (.block 1
 (.seq
 (.reg [rg 7 (.mov (.c (u32 0))),rg 8 (.mov (.c (u32 1)))])
 (.seq
 (.seq
 (.reg [rg 9 (.mov (.c (.i .i64 0)))])
 (.lp 2 (.norm false [0,3,5,6,7,8,9]) l65_0 (.norm false [0,3,5,6,7,8])))
 (.reg [mv 42 5,mv 43 8,mv 44 7,rg 45 (.call 100 [(.t 42),(.t 43),(.t 44)]),mv 5 45])))))
 (.norm false [0,3,5,6]))
def b65:AX:=
 (.seq
 (.reg [rg 2 (.mov (.c (.sl [] .nl))),rg 3 (.alloc [(.i .i64 0),(.i .i64 0),(.i .i64 0),(.i .i64 0)])])
 (.seq
 (.seq
 (.reg [mv 10 0,rg 11 (.call 99 [(.t 10)]),mv 4 11])
 (.seq
 (.reg [mv 12 4,rg 13 (.bin .geq (.t 12) (.c (.i .i64 0)))])
 (.cond (.t 13)
 (.seq
 (.reg [mv 14 4,rg 15 (.build [(.i .i64 0),(.i .i64 0),(.i .i64 0),(.i .i64 0)] [(0,1,(.c (.i .i64 1))),(3,1,(.t 14))]),rg 2 (.mov (.c (.sl [] .nl))),so (.store 4 (.t 3) (.t 15))])
 (.pre (.norm false [2,3]) .ret))
 .skip)))
 (.seq
 (.reg [rg 5 (.mov (.c (.sl [] .nl)))])
 (.seq
 (.seq
 (.reg [rg 6 (.mov (.c (.i .i64 0)))])
 (.lp 0 (.norm false [0,3,5,6]) l65_1 (.norm false [3,5])))
 (.seq
 (.reg [mv 46 5,rg 47 (.build [(.i .i64 0),(.i .i64 0),(.i .i64 0),(.i .i64 0)] []),mv 2 46,so (.store 4 (.t 3) (.t 47))])
 (.pre (.norm false [2,3]) .ret))))))
def row98:AFx:=⟨2,15,[.t 4,.t 5],b98,none,false⟩
def row123:AFx:=⟨2,18,[.t 4],b123,none,false⟩
def row64:AFx:=⟨2,11,[.t 4,.t 5],b64,none,false⟩
def row99:AFx:=⟨1,27,[.t 2],b99,none,false⟩
def row65:AFx:=⟨1,48,[.t 2,.cell 3 (some 4)],b65,none,false⟩
class Zx (T:Tbl):Prop where
 h98:T 98=some row98
 h123:T 123=some row123
 h64:T 64=some row64
 h99:T 99=some row99
 h65:T 65=some row65
section
variable{T:Tbl}[Zx T]{d:Option Nat}{st:St}
@[simp] theorem x98(xs:List AV):Zd (orc T) T 98 xs d st=cP T 98 false xs d st:=zaa Zx.h98
@[simp] theorem x123(xs:List AV):Zd (orc T) T 123 xs d st=cP T 123 false xs d st:=zaa Zx.h123
@[simp] theorem x64(xs:List AV):Zd (orc T) T 64 xs d st=cP T 64 false xs d st:=zaa Zx.h64
@[simp] theorem x99(xs:List AV):Zd (orc T) T 99 xs d st=cP T 99 false xs d st:=zaa Zx.h99
@[simp] theorem x65(xs:List AV):Zd (orc T) T 65 xs d st=cP T 65 false xs d st:=zaa Zx.h65
end
class Zaz (T:Tbl):Prop where
class Zmm (T:Tbl):Prop where
section
variable{T:Tbl}[Zx T]
theorem zsd(l:List UInt8)(hl:l.length≤1000000):Za T 64 [.s l,.s [45]]=some (.tup [.s (if l.head? = some 45 then l.tail else l),.b (l.head? = some 45)]):=by
 have h1:Za T 123 [.s l,.s [45]]=some (.b (l.head? = some 45)):=by
  rw[zab Zx.h123 rfl,b123];cases l with
  | nil=>simp -implicitDefEqProofs
  | cons c r=>
   have h2:(1:Int)≤(r.length:Int)+1:=by omega
   by_cases hc:c=45<;>simp -implicitDefEqProofs[h2,hc]
 have h3:Za T 98 [.s l,.s [45]]=some (.tup [.s (if l.head? = some 45 then l.tail else l),.b (l.head? = some 45)]):=by
  rw[zab Zx.h98 rfl,b98];cases l with
  | nil=>simp -implicitDefEqProofs[h1]
  | cons c r=>
   have h2:(1:Int)≤(r.length:Int)+1:=by omega
   by_cases hc:c=45
   ·subst hc;simp -implicitDefEqProofs[h1,h2]
   ·simp -implicitDefEqProofs[h1,hc]
 rw[zab Zx.h64 rfl,b64];simp -implicitDefEqProofs[h3]
end
section
variable{T:Tbl}
theorem zzd(l:List UInt8)(hl:l.length≤1000000):∀i:Nat,i≤l.length →
  Zv T 0 0 (.norm false [0]) l99_0 ⟨[(0,.s l),(5,.i .i64 l.length),(6,.i .i64 i)],[],2⟩ =
   if 0≤Zc7 i (l.drop i) then some (.r,⟨[(2,.i .i64 (Zc7 i (l.drop i)))],[],2⟩) else some (.n,⟨[(0,.s l)],[],2⟩):=by
 refine za1 (fun i:Nat=>⟨[(0,.s l),(5,.i .i64 l.length),(6,.i .i64 i)],[],2⟩) _ (fun i=>l.length-i) _ ?_;intro i hi;by_cases h0:i<l.length
 ·have hg:l[i]? = some (l[i]'h0):=Ya h0;have hd:=Yq h0;have hw:IntKind.wrap .i64 ((i:Int)+1)=((i+1:Nat):Int):=zac _ (by omega);by_cases hc:(l[i]'h0).toNat<48∨57<(l[i]'h0).toNat∨i=60
  ·right;rw[hd];have e:Zc7 i (l[i]'h0::List.drop (i+1) l)=i:=by simp only[Zc7];rw[if_pos hc]
   rw[e];by_cases c1:(l[i]'h0).toNat<48
   ·constructor<;>simp -implicitDefEqProofs[l99_0,h0,c1]
   ·by_cases c2:57<(l[i]'h0).toNat
    ·constructor<;>simp -implicitDefEqProofs[l99_0,h0,c1,c2]
    ·have c3:i=60:=by omega
     subst c3;have h0':(60:Int)<(l.length:Int):=by omega
     constructor<;>simp -implicitDefEqProofs[l99_0,h0,h0',c1,c2]
  ·left;have e:Zc7 i (l.drop i)=Zc7 (i+1) (l.drop (i+1)):=by rw[hd];simp only[Zc7];rw[if_neg hc]
   have c1:¬ (l[i]'h0).toNat<48:=fun h=>hc (.inl h);have c2:¬ 57<(l[i]'h0).toNat:=fun h=>hc (.inr (.inl h));have c3:¬ ((i:Int)=60):=fun h=>hc (.inr (.inr (by omega)));refine⟨i+1,h0,by show l.length-(i+1)<l.length-i;omega,?_,?_⟩
   ·simp -implicitDefEqProofs[l99_0,h0,c1,c2,c3,hw]
   ·simp only[e]
 ·right;have:i=l.length:=by omega
  subst this;rw[Yag];constructor<;>simp -implicitDefEqProofs[l99_0,Zc7]
end
section
variable{T:Tbl}[Zx T]
theorem zku(l:List UInt8)(hl:l.length≤1000000):Za T 99 [.s l]=some (.i .i64 (Z0 l)):=by
 have h:=zzd (T:=T) l hl 0 (Yu _);have hg:=zm9 0 l;rw[Yaz]at h;simp at h;rw[zab Zx.h99 rfl,b99];unfold Z0;by_cases h0:l=[]
 ·subst h0;simp[Zc7]at h;simp -implicitDefEqProofs[h]
 ·by_cases h1:0≤Zc7 0 l
  ·rw[if_pos h1]at h;simp -implicitDefEqProofs[h,h0]
  ·rw[if_neg h1]at h;have h2:Zc7 0 l=-1:=by omega
   simp -implicitDefEqProofs[h,h0,h2]
end
section
variable{T:Tbl}[Zn T][Zs T][Zx T]
def Zj7(l:List UInt8)(o:List UInt32)(i0 k:Nat):St:=
 ⟨[(0,.s l),(3,.ptr (.loc 3) 1 4 0 0),(5,.sl (Zb o) .an),(6,.i .i64 (i0+k:Nat)),(7,u32 (rd ((l.drop i0).take k))),(8,u32 (10^k)),(9,.i .i64 k)],[(.loc 3,⟨1,.str,4,[[.i .i64 0,.i .i64 0,.i .i64 0,.i .i64 0]]⟩)],3⟩
end
section
variable{T:Tbl}
theorem zze(l:List UInt8)(o:List UInt32)(i0 kf:Nat)(hl:l.length≤60)(hd:∀c∈l,48≤c.toNat∧c.toNat≤57)(hkf:kf=min 9 (l.length-i0))(hi0:i0≤l.length):∀k,k≤kf →
  Zv T 0 2 (.norm false [0,3,5,6,7,8]) l65_0 (Zj7 l o i0 k) =
   some (.n,⟨[(0,.s l),(3,.ptr (.loc 3) 1 4 0 0),(5,.sl (Zb o) .an),(6,.i .i64 (i0+kf:Nat)),(7,u32 (rd ((l.drop i0).take kf))),(8,u32 (10^kf))],[(.loc 3,⟨1,.str,4,[[.i .i64 0,.i .i64 0,.i .i64 0,.i .i64 0]]⟩)],3⟩):=by
 refine za1 (fun k=>Zj7 l o i0 k) _ (fun k=>kf-k) _ ?_;intro k hk;by_cases h0:k<kf
 ·left;have hi:i0+k<l.length:=by omega
  have hg:l[i0+k]? = some (l[i0+k]'hi):=Ya hi;have hgd:(l.drop i0)[k]? = some (l[i0+k]'hi):=by rw[Yab];exact hg
  have hc:=hd _ (Yp hi);obtain⟨p,hp⟩:∃p,p=i0+k:=⟨_,rfl⟩;have hx:=zui (l:=(l.drop i0).take k) fun c hc=>hd c (Ycn (Y9 hc));have hlen:((l.drop i0).take k).length=k:=by simp;omega
  rw[hlen]at hx;have hp8:10^k≤10^8:=Yn (by decide) (by omega);have hr:=zlp hgd;have hw:IntKind.wrap .i64 ((k:Int)+1)=((k+1:Nat):Int):=zac _ (by omega);have hw2:IntKind.wrap .i64 ((p:Int)+1)=((i0+(k+1):Nat):Int):=by rw[zac _ (by omega)];omega
  have hk9:(k:Int)<9:=by omega
  have hpl:(p:Int)<l.length:=by omega
  refine⟨k+1,h0,by show kf-(k+1)<kf-k;omega,?_,rfl⟩;unfold Zj7;rw[hr,Yaa];subst hp;generalize hcd:(l[i0+k]'hi).toNat=c at *
  generalize rd ((l.drop i0).take k)=x at *
  generalize 10^k=t at *
  have m1:x*10%4294967296=x*10:=Ys (by omega);have m2:Zj3 c 48=c-48:=zy6 (by omega) (by omega);have m3:(c-48)%4294967296=c-48:=Ys (by omega);have m4:(x*10+(c-48))%4294967296=x*10+(c-48):=Ys (by omega);have m5:t*10%4294967296=t*10:=Ys (by omega);have hpl':(i0:Int)+k<l.length:=by omega
  have hw2':IntKind.wrap .i64 ((i0:Int)+k+1)=(i0:Int)+(k+1):=by rw[zac _ (by omega)];omega
  simp -implicitDefEqProofs[l65_0,hk9,hpl',hi,hcd,m1,m2,m3,m4,m5,hw,hw2']
 ·right;have:k=kf:=by omega
  subst this;unfold Zj7;generalize rd ((l.drop i0).take k)=x;generalize 10^k=t;by_cases h9:k=9
  ·subst h9;constructor<;>simp -implicitDefEqProofs[l65_0]
  ·have hk9:(k:Int)<9:=by omega
   have hpl':¬ ((i0:Int)+k<l.length):=by omega
   constructor<;>simp -implicitDefEqProofs[l65_0,hk9,hpl']
end
section
variable{T:Tbl}[Zs T]
theorem zzf(l:List UInt8)(hl:l.length≤60)(hd:∀c∈l,48≤c.toNat∧c.toNat≤57):∀i:Nat,i≤l.length →
  Zv T 0 0 (.norm false [3,5]) l65_1 ⟨[(0,.s l),(3,.ptr (.loc 3) 1 4 0 0),(5,.sl (Zb (ofN (rd (l.take i)))) .an),(6,.i .i64 i)],[(.loc 3,⟨1,.str,4,[[.i .i64 0,.i .i64 0,.i .i64 0,.i .i64 0]]⟩)],3⟩ =
   some (.n,⟨[(3,.ptr (.loc 3) 1 4 0 0),(5,.sl (Zb (ofN (rd l))) .an)],[(.loc 3,⟨1,.str,4,[[.i .i64 0,.i .i64 0,.i .i64 0,.i .i64 0]]⟩)],3⟩):=by
 refine za1 (fun i:Nat=>⟨[(0,.s l),(3,.ptr (.loc 3) 1 4 0 0),(5,.sl (Zb (ofN (rd (l.take i)))) .an),(6,.i .i64 i)],[(.loc 3,⟨1,.str,4,[[.i .i64 0,.i .i64 0,.i .i64 0,.i .i64 0]]⟩)],3⟩) _ (fun i=>l.length-i) _ ?_;intro i hi;by_cases h0:i<l.length
 ·left;obtain⟨kf,hkf⟩:∃kf,kf=min 9 (l.length-i):=⟨_,rfl⟩;have h:=zze (T:=T) l (ofN (rd (l.take i))) i kf hl hd hkf hi 0 (Yu _);unfold Zj7 at h;simp[show rd []=0 from rfl]at h;have hx:=zui (l:=(l.drop i).take kf) fun c hc=>hd c (Ycn (Y9 hc));have hlen:((l.drop i).take kf).length=kf:=by simp;omega
  rw[hlen]at hx;have hp8:10^kf≤10^9:=Yn (by decide) (by omega);have hol:(ofN (rd (l.take i))).length≤60:=by
   refine zae ?_;have h1:=zui (l:=l.take i) fun c hc=>hd c (Y9 hc);have h2:10^(l.take i).length≤10^60:=Yn (by decide) (by simp;omega);exact Yl h1 (Yc h2 (by decide))
  have hpw:=zta (T:=T) (ofN (rd (l.take i))) (10^kf) (rd ((l.drop i).take kf)) (by omega) (by omega) (by omega);have hr:rd (l.take (i+kf))=rd (l.take i)*10^kf+rd ((l.drop i).take kf):=by
   rw[List.take_add,zhh,hlen]
  rw[zag,←hr]at hpw;refine⟨i+kf,by omega,by show l.length-(i+kf)<l.length-i;omega,?_,rfl⟩;simp -implicitDefEqProofs[l65_1,h0,h,hpw]
 ·right;have:i=l.length:=by omega
  subst this;rw[Yc0];constructor<;>simp -implicitDefEqProofs[l65_1]
end
section
variable{T:Tbl}[Zs T][Zx T]
theorem zg0(l:List UInt8)(hl:l.length≤1000000):Za T 65 [.s l]=some (.tup (if 0≤Z0 l then [.sl [] .an,.agg [.i .i64 1,.i .i64 0,.i .i64 0,.i .i64 (Z0 l)]]
  else [.sl (Zb (ofN (rd l))) .an,.agg [.i .i64 0,.i .i64 0,.i .i64 0,.i .i64 0]])):=by
 have hw:=zku (T:=T) l hl;rw[zab Zx.h65 rfl,b65];by_cases h0:0≤Z0 l
 ·simp -implicitDefEqProofs[hw,h0]
 ·have h1:Zc7 0 l<0:=by
   unfold Z0 at h0;split at h0
   ·omega
   ·omega
  obtain⟨h2,h3⟩:=zf8 0 l (Yu _) h1;have h:=zzf (T:=T) l (by omega) h3 0 (Yu _);simp[show rd []=0 from rfl]at h;simp -implicitDefEqProofs[hw,h0,h]
end
end Go.Ab