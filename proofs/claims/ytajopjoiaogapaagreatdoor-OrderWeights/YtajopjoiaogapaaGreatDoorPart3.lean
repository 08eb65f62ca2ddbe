/-
  A calculus of values, boxes and code, and what functions of the program compute, proved in it.
  Conditions: none beyond those that the theorems state. (Part 3.)
-/
import Derived.Test.YtajopjoiaogapaaGreatDoorPart2

set_option linter.unusedSectionVars false
set_option linter.unusedVariables false
set_option linter.unusedSimpArgs false
set_option linter.unnecessarySimpa false

namespace Go.Ab
section
open Go.RowKit
inductive Qy where
 | call (u:Nat) (xs:List AV) (hb:Heap) (r:AV×Heap)
 | loop (k:Nat) (c:AX) (st:St) (r:Ex×St)
def Holds(O:Orc):Qy→Prop
 | .call u xs hb r=>O.call u xs hb=some r
 | .loop k c st r=>O.loop k c st=some r
def Zbm{α:Type}(f:Orc→Option α):Prop:=∀O r,f O=some r→∃L:List Qy,(∀q∈L,Holds O q)∧∀O',(∀q∈L,Holds O' q)→f O'=some r
theorem Zbm.const{α:Type}(a:Option α):Zbm fun _=>a:=fun _ _ h=>⟨[],by simp,fun _ _=>h⟩
theorem Zbm.bind{α β:Type}{g:Orc→Option α}{h:Orc→α→Option β}(hg:Zbm g)(hh:∀x,Zbm fun O=>h O x):Zbm fun O=>(g O).bind (h O):=by
 intro O r he;obtain⟨x,h1,h2⟩:=bind_some he;obtain⟨L1,a1,a2⟩:=hg O x h1;obtain⟨L2,b1,b2⟩:=hh x O r h2;refine⟨L1++L2,fun q hq=>?_,fun O' hO'=>?_⟩
 all_goals grind
theorem Zbm.map{α β:Type}{g:Orc→Option α}(hg:Zbm g)(f:α→β):Zbm fun O=>(g O).map f:=by
 have:=hg.bind (h:=fun _ x=>some (f x)) fun x=>.const _
 grind[Option.map_eq_bind,Function.comp_def]
theorem Zbm.call(u:Nat)(xs:List AV)(hb:Heap):Zbm fun O=>O.call u xs hb:=fun O r h=>⟨[.call u xs hb r],by simpa[Holds]using h,fun O' h'=>by simpa[Holds]using h'⟩
theorem Zbm.loop(k:Nat)(c:AX)(st:St):Zbm fun O=>O.loop k c st:=fun O r h=>⟨[.loop k c st r],by simpa[Holds]using h,fun O' h'=>by simpa[Holds]using h'⟩
section
variable(T:Tbl)
theorem zmk(u:Nat)(xs:List AV)(d:Option Nat)(st:St):Zbm fun O=>Zc O T u xs d st:=by
 unfold Zc;split
 ·exact .const _
 ·split
  ·refine Zbm.bind (.const _) fun ys=>Zbm.bind (.call _ _ _) fun r=>.const _
  ·refine Zbm.bind (.const _) fun ys=>?_;simp only;split
   ·refine Zbm.bind (.call _ _ _) fun r=>.const _
   ·exact .const _
theorem zuv(op:AOp)(d:Option Nat)(st:St):Zbm fun O=>opX O T op d st:=by
 by_cases hx:∃k xs,op=.xop k xs
 ·obtain⟨k,xs,rfl⟩:=hx;cases k<;>exact .const _
 cases op<;>(try exact absurd ⟨_,_,rfl⟩ hx)<;>simp only[opX]<;>first | exact .const _ | exact zmk T _ _ _ _ | (split<;>first | exact .const _ | (split<;>first | exact .const _ | exact zmk T _ _ _ _))
theorem zuw(o:AO)(st:St):Zbm fun O=>Zgq O T o st:=by
 unfold Zgq;split
 ·exact zuv T _ _ _
 ·unfold gX;split
  ·split
   ·exact zuv T _ _ _
   ·exact .const _
  ·exact .const _
  ·exact .const _
theorem zg2:∀(l:List AO) (st:St),Zbm fun O=>Zev O T l st
 | [],st=>.const _
 | o::l,st=>by
  exact(zuw T o st).bind fun s=>zg2 l s
theorem zux(op:AOp)(e:Env)(h:Heap)(older:List Heap):Zbm fun O=>opD O T op e h older:=by
 by_cases hap:∃z x0 y,op=.app z x0 y
 ·obtain⟨z,x0,y,rfl⟩:=hap;by_cases hc:x0=.c (.sl [] .nl)
  ·subst hc;exact .const _
  ·simp only[zoh hc];exact .const _
 cases op<;>(try exact absurd ⟨_,_,_,rfl⟩ hap)<;>simp only[opD]<;>try exact .const _
 case call=>
  split
  ·exact .const _
  ·split
   ·exact(Zbm.call _ _ _).map _
   ·exact .const _
 case inv=>
  split
  ·split
   ·split
    ·exact .const _
    ·split
     ·exact(Zbm.call _ _ _).map _
     ·exact .const _
   ·exact .const _
  ·exact .const _
theorem zuy(o:AO)(e:Env)(h:Heap)(older:List Heap):Zbm fun O=>qX O T o e h older:=by
 unfold qX;split
 ·exact(zux T _ _ _ _).map _
 ·split
  ·split
   ·exact(zux T _ _ _ _).map _
   ·exact .const _
  ·exact .const _
  ·exact .const _
theorem zuz(u:Nat)(ys:List AV):Zbm fun O=>Ze3 O T u ys:=by
 unfold Ze3;split
 ·exact .const _
 ·split
  ·exact(Zbm.call _ _ _).map _
  ·exact .const _
theorem zfg:∀(l:List DO) (e:Env) (h:Heap) (clk:Nat) (older:List Heap) (pend:Zco),Zbm fun O=>Zcg O T l e h clk older pend
 | [],e,h,clk,older,pend=>.const _
 | o::l,e,h,clk,older,pend=>by
  simp only[Zcg];split
  ·split
   ·refine Zbm.bind (.const _) fun q=>?_;split
    ·exact zfg l _ _ _ _ _
    ·exact .const _
   ·exact .const _
  ·split
   ·exact(zuy T _ _ _ _).bind fun x=>zfg l _ _ _ _ _
   ·exact(zuz T _ _).bind fun x=>zfg l _ _ _ _ _
theorem zml(tl:List AO):∀(l:List AO) (e:Env) (h:Heap) (clk:Nat),Zbm fun O=>Zeg O T tl l e h clk
 | [],e,h,clk=>zg2 T tl _
 | o::l,e,h,clk=>by
  exact(zuy T _ _ _ _).bind fun x=>zml tl l _ _ _
theorem zu0(u:Nat)(xs:List AV)(d clk:Nat):Zbm fun O=>Zfh O T u xs d clk:=by
 unfold Zfh;split
 ·exact .const _
 ·split
  ·exact .const _
  ·split
   ·refine(Zbm.call _ _ _).bind fun r=>?_;exact .const _
   ·exact .const _
theorem zdy(tl:List AO)(h0:Heap)(c0:Nat)(X:Heap):∀(l:List AO) (e:Env) (h:Heap) (clk:Nat),Zbm fun O=>Zbp O T tl h0 c0 X l e h clk
 | [],e,h,clk=>zg2 T tl _
 | o::l,e,h,clk=>by
  simp only[Zbp];split
  ·split
   ·split
    all_goals
     refine Zbm.bind (.const _) fun q=>?_;split
     ·exact zdy tl h0 c0 X l _ _ _
     ·exact .const _
   ·exact .const _
  ·split
   ·split
    ·refine Zbm.bind (.const _) fun q=>?_;split
     ·exact zdy tl h0 c0 X l _ _ _
     ·exact .const _
    ·exact .const _
   split
   ·split
    ·refine(zu0 T _ _ _ _).bind fun q=>?_;split
     ·exact zdy tl h0 c0 X l _ _ _
     ·exact .const _
    ·exact .const _
   ·refine(zuy T _ _ _ _).bind fun x=>?_;split
    ·exact zdy tl h0 c0 X l _ _ _
    ·exact .const _
theorem zce(k:Nat):∀(c:AX) (st:St),Zbm fun O=>evX O T k c st
 | .skip,st=>.const _
 | .reg l,st=>by exact(zg2 T l st).map _
 | .draw l,st=>by exact(zfg T l _ _ _ _ _).map _
 | .drawT hd tl,st=>by exact(zml T tl hd _ _ _).map _
 | .drawM hd tl,st=>by exact(zdy T tl _ _ _ hd _ _ _).map _
 | .bad,st=>.const _
 | .prim f,st=>.const _
 | .seq a b,st=>by
  refine(zce k a st).bind fun r=>?_;obtain⟨e,s⟩:=r;cases e
  ·exact zce k b s
  ·exact .const _
  ·exact .const _
  ·exact .const _
 | .cond c x y,st=>by
  simp only[evX];split
  ·split
   ·exact zce k x st
   ·exact zce k y st
  ·exact .const _
 | .block id c,st=>by exact(zce k c st).bind fun r=>.const _
 | .loop c,st=>by exact .loop _ _ _
 | .exit id,st=>.const _
 | .ret,st=>.const _
 | .note c g,st=>by exact(zce k c st).bind fun r=>.const _
 | .pre g c,st=>by exact Zbm.bind (.const _) fun s=>zce k c s
 | .scope c,st=>by exact(zce k c st).bind fun r=>.const _
 | .label l,st=>.const _
 | .goto l,st=>.const _
 | .gsc l c r,st=>by
  have key:∀n (f:Orc→Option (Ex×St)),Zbm f→Zbm fun O=>Zgd (fun s=>evX O T k r s) l n (f O):=by
   intro n
   induction n with
   | zero=>intro f _;exact .const _
   | succ n ih=>
    intro f hf;refine hf.bind fun x=>?_;obtain⟨e,s⟩:=x;cases e
    ·exact .const _
    ·exact .const _
    ·exact .const _
    ·simp only;split
     ·exact ih _ (zce k r s)
     ·exact .const _
  exact key _ _ (zce k c st)
 | .lp id g c g2,st=>by exact Zbm.bind (.const _) fun s=>(Zbm.loop _ _ _).bind fun r=>.const _
theorem zc5(u:Nat)(xs:List AV)(hb:Heap):Zbm fun O=>(Zdh T O).call u xs hb:=by
 simp only[Zdh];split
 ·exact .const _
 ·split
  ·exact .const _
  ·split
   ·exact(zce T _ _ _).bind fun r=>.const _
   ·exact .const _
theorem zc6(k:Nat)(c:AX)(st:St):Zbm fun O=>(Zdh T O).loop k c st:=by
 refine(zce T k c st).bind fun r=>?_;obtain⟨e,s⟩:=r;cases e
 ·exact .loop _ _ _
 ·exact .const _
 ·exact .const _
 ·exact .const _
theorem zhv:∀(n:Nat) (q:Qy),Holds (orcN T n) q→Holds (orcN T (n+1)) q
 | 0,q,h=>by cases q<;>cases h
 | n+1,.call u xs hb r,h=>by
  obtain⟨L,h1,h2⟩:=zc5 T u xs hb _ r h;exact h2 _ fun q hq=>zhv n q (h1 q hq)
 | n+1,.loop k c st r,h=>by
  obtain⟨L,h1,h2⟩:=zc6 T k c st _ r h;exact h2 _ fun q hq=>zhv n q (h1 q hq)
theorem zol{n m:Nat}(h:n≤m)(q:Qy)(hq:Holds (orcN T n) q):Holds (orcN T m) q:=by
 induction h with
 | refl=>omega
 | step _ ih=>exact zhv T _ q ih
open Classical in
noncomputable def lim{α:Type}(f:Nat→Option α):Option α:=if h:∃n a,f n=some a then f (Classical.choose h) else none
theorem zqd{α:Type}{f:Nat→Option α}(hm:∀n m a,n≤m→f n=some a→f m=some a)(a:α):lim f=some a↔∃n,f n=some a:=by
 unfold lim;constructor
 ·intro h;split at h
  all_goals grind
 ·intro ⟨n,h⟩;have hex:∃n a,f n=some a:=⟨n,a,h⟩
  grind
noncomputable def orc:Orc:=⟨fun u xs hb=>lim fun n=>(orcN T n).call u xs hb,fun k c st=>lim fun n=>(orcN T n).loop k c st⟩
theorem zcd(q:Qy):Holds (orc T) q↔∃n,Holds (orcN T n) q:=by
 cases q with
 | call u xs hb r=>exact zqd (fun n m a hnm h=>zol T hnm (.call u xs hb a) h) r
 | loop k c st r=>exact zqd (fun n m a hnm h=>zol T hnm (.loop k c st a) h) r
theorem zu1{L:List Qy}(h:∀q∈L,Holds (orc T) q):∃n,∀q∈L,Holds (orcN T n) q:=by
 induction L with
 | nil=>simp_all
 | cons q L ih=>
  obtain⟨n,hn⟩:=ih fun q hq=>h q (Ys _ hq);obtain⟨m,hm⟩:=(zcd T q).1 (h q Y9);refine⟨max n m,fun x hx=>?_⟩
  grind[zol,Nat.le_max_right]
theorem zko(u:Nat)(xs:List AV)(hb:Heap):(orc T).call u xs hb=(Zdh T (orc T)).call u xs hb:=by
 apply Option.ext;intro r;constructor
 ·intro h;obtain⟨n,hn⟩:=(zcd T (.call u xs hb r)).1 h;cases n with
  | zero=>cases hn
  | succ n=>
   obtain⟨L,h1,h2⟩:=zc5 T u xs hb _ r hn
   grind[zcd]
 ·intro h;obtain⟨L,h1,h2⟩:=zc5 T u xs hb _ r h;obtain⟨n,hn⟩:=zu1 T h1;exact(zcd T (.call u xs hb r)).2 ⟨n+1,h2 _ hn⟩
theorem zyu(k:Nat)(c:AX)(st:St):(orc T).loop k c st=(Zdh T (orc T)).loop k c st:=by
 apply Option.ext;intro r;constructor
 ·intro h;obtain⟨n,hn⟩:=(zcd T (.loop k c st r)).1 h;cases n with
  | zero=>cases hn
  | succ n=>
   obtain⟨L,h1,h2⟩:=zc6 T k c st _ r hn
   grind[zcd]
 ·intro h;obtain⟨L,h1,h2⟩:=zc6 T k c st _ r h;obtain⟨n,hn⟩:=zu1 T h1;exact(zcd T (.loop k c st r)).2 ⟨n+1,h2 _ hn⟩
end
noncomputable def Za(T:Tbl)(u:Nat)(xs:List AV):Option AV:=((orc T).call u xs []).map (·.1)
noncomputable def Zbz(T:Tbl)(u:Nat)(xs:List AV)(hb:Heap):Option (AV×Heap):=(orc T).call u xs hb
noncomputable def Zi9(T:Tbl)(k:Nat)(c:AX)(st:St):Option (Ex×St):=(orc T).loop k c st
theorem zom{P:Program}{ν:Nat→FuncId}{T:Tbl}(hT:TOk P ν T)(hm:P.follows .mixedOrders=true){u:Nat}{af:AFx}{xs:List AV}{r:AV}(hu:T u=some af)(hl:af.lent=none)(h:Za T u xs=some r):Zal P (ν u) xs (·=r):=by
 obtain⟨⟨r',h'⟩,h1,rfl⟩:=map_some h;obtain⟨n,hn⟩:=(zcd T (.call u xs [] (r',h'))).1 h1;exact(GoodO.orcN hT hm n).pure u af xs r' h' hu hl hn
end
section
open Go.RowKit
def u8(n:Nat):AV:=.i .u8 (n:Int)
def u32(n:Nat):AV:=.i .u32 (n:Int)
def u64(n:Nat):AV:=.i .u64 (n:Int)
@[simp] theorem zak3(k:IntKind)(n:Int):wkA (.i k n)=.i k n:=rfl
@[simp] theorem zaij{h:Heap}(k:IntKind)(n:Int):Zbe h (.i k n)=some (.i k n):=rfl
@[simp] theorem zaik{h:Heap}(k:IntKind)(n:Int):Zcd h (.i k n)=some (.i k n):=rfl
@[simp] theorem zak4{h:Heap}(k:IntKind)(n:Int):frz h (.i k n)=some (.i k n):=rfl
@[simp] theorem z68(k:IntKind)(n:Int):Za3 (.i k n)=true:=rfl
@[simp] theorem z69(k:IntKind)(n:Int):Za4 (.i k n)=true:=rfl
@[simp] theorem zaao(k:IntKind)(n:Int):scalar (.i k n)=true:=rfl
@[simp] theorem zadu(k:IntKind)(n:Int):pureC (.i k n)=true:=rfl
@[simp] theorem zadv(k:IntKind)(n:Int):noRef (.i k n)=true:=rfl
@[simp] theorem zail(k:IntKind)(n:Int):refs (.i k n)=[]:=rfl
@[simp] theorem zak5(k:IntKind)(n:Int):rfC (.i k n)=[]:=rfl
@[simp] theorem zak6(k:IntKind)(n:Int):rf1 (.i k n)=[]:=rfl
@[simp] theorem zak7(k:IntKind)(n:Int):rfA (.i k n)=[]:=rfl
@[simp] theorem zak8{σn:BId→BId}{σg:Nat→Nat}(k:IntKind)(n:Int):rlC σn σg (.i k n)=(.i k n):=rfl
@[simp] theorem zak9{σn:BId→BId}{σg:Nat→Nat}(k:IntKind)(n:Int):rl1 σn σg (.i k n)=(.i k n):=rfl
@[simp] theorem zala{σn:BId→BId}{σg:Nat→Nat}(k:IntKind)(n:Int):rlA σn σg (.i k n)=(.i k n):=rfl
@[simp] theorem zaap{h:Heap}(k:IntKind)(n:Int):Zbk h (.i k n)=true:=rfl
@[simp] theorem zaaq{h:Heap}(k:IntKind)(n:Int):Zbx h (.i k n)=true:=rfl
@[simp] theorem zadw{h:Heap}(k:IntKind)(n:Int):Zcn h (.i k n)=true:=rfl
@[simp] theorem z7a(k:IntKind)(n:Int):cellsOf (.i k n)=some [.i k n]:=rfl
@[simp] theorem zalb(t:Bool):wkA (.b t)=.b t:=rfl
@[simp] theorem zaim{h:Heap}(t:Bool):Zbe h (.b t)=some (.b t):=rfl
@[simp] theorem zain{h:Heap}(t:Bool):Zcd h (.b t)=some (.b t):=rfl
@[simp] theorem zalc{h:Heap}(t:Bool):frz h (.b t)=some (.b t):=rfl
@[simp] theorem z7b(t:Bool):Za3 (.b t)=true:=rfl
@[simp] theorem z7c(t:Bool):Za4 (.b t)=true:=rfl
@[simp] theorem zaar(t:Bool):scalar (.b t)=true:=rfl
@[simp] theorem zadx(t:Bool):pureC (.b t)=true:=rfl
@[simp] theorem zady(t:Bool):noRef (.b t)=true:=rfl
@[simp] theorem zaio(t:Bool):refs (.b t)=[]:=rfl
@[simp] theorem zald(t:Bool):rfC (.b t)=[]:=rfl
@[simp] theorem zale(t:Bool):rf1 (.b t)=[]:=rfl
@[simp] theorem zalf(t:Bool):rfA (.b t)=[]:=rfl
@[simp] theorem zalg{σn:BId→BId}{σg:Nat→Nat}(t:Bool):rlC σn σg (.b t)=(.b t):=rfl
@[simp] theorem zalh{σn:BId→BId}{σg:Nat→Nat}(t:Bool):rl1 σn σg (.b t)=(.b t):=rfl
@[simp] theorem zali{σn:BId→BId}{σg:Nat→Nat}(t:Bool):rlA σn σg (.b t)=(.b t):=rfl
@[simp] theorem zaas{h:Heap}(t:Bool):Zbk h (.b t)=true:=rfl
@[simp] theorem zaat{h:Heap}(t:Bool):Zbx h (.b t)=true:=rfl
@[simp] theorem zadz{h:Heap}(t:Bool):Zcn h (.b t)=true:=rfl
@[simp] theorem z7d(t:Bool):cellsOf (.b t)=some [.b t]:=rfl
@[simp] theorem zalj(l:List UInt8):wkA (.s l)=.s l:=rfl
@[simp] theorem zaip{h:Heap}(l:List UInt8):Zbe h (.s l)=some (.s l):=rfl
@[simp] theorem zaiq{h:Heap}(l:List UInt8):Zcd h (.s l)=some (.s l):=rfl
@[simp] theorem zalk{h:Heap}(l:List UInt8):frz h (.s l)=some (.s l):=rfl
@[simp] theorem z7e(l:List UInt8):Za3 (.s l)=true:=rfl
@[simp] theorem z7f(l:List UInt8):Za4 (.s l)=true:=rfl
@[simp] theorem zaau(l:List UInt8):scalar (.s l)=true:=rfl
@[simp] theorem zad0(l:List UInt8):pureC (.s l)=true:=rfl
@[simp] theorem zad1(l:List UInt8):noRef (.s l)=true:=rfl
@[simp] theorem zair(l:List UInt8):refs (.s l)=[]:=rfl
@[simp] theorem zall(l:List UInt8):rfC (.s l)=[]:=rfl
@[simp] theorem zalm(l:List UInt8):rf1 (.s l)=[]:=rfl
@[simp] theorem zaln(l:List UInt8):rfA (.s l)=[]:=rfl
@[simp] theorem zalo{σn:BId→BId}{σg:Nat→Nat}(l:List UInt8):rlC σn σg (.s l)=(.s l):=rfl
@[simp] theorem zalp{σn:BId→BId}{σg:Nat→Nat}(l:List UInt8):rl1 σn σg (.s l)=(.s l):=rfl
@[simp] theorem zalq{σn:BId→BId}{σg:Nat→Nat}(l:List UInt8):rlA σn σg (.s l)=(.s l):=rfl
@[simp] theorem zaav{h:Heap}(l:List UInt8):Zbk h (.s l)=true:=rfl
@[simp] theorem zaaw{h:Heap}(l:List UInt8):Zbx h (.s l)=true:=rfl
@[simp] theorem zad2{h:Heap}(l:List UInt8):Zcn h (.s l)=true:=rfl
@[simp] theorem z7g(l:List UInt8):cellsOf (.s l)=some [.s l]:=rfl
@[simp] theorem zad3(v:Value):wkA (.raw v)=.raw v:=rfl
@[simp] theorem zaax{h:Heap}(v:Value):Zbe h (.raw v)=some (.raw v):=rfl
@[simp] theorem zaay{h:Heap}(v:Value):Zcd h (.raw v)=some (.raw v):=rfl
@[simp] theorem zad4{h:Heap}(v:Value):frz h (.raw v)=some (.raw v):=rfl
@[simp] theorem z12(v:Value):Za3 (.raw v)=false:=rfl
@[simp] theorem z13(v:Value):Za4 (.raw v)=false:=rfl
@[simp] theorem z5c(v:Value):scalar (.raw v)=false:=rfl
@[simp] theorem z7h(v:Value):pureC (.raw v)=true:=rfl
@[simp] theorem z7i(v:Value):noRef (.raw v)=true:=rfl
@[simp] theorem zaaz(v:Value):refs (.raw v)=[]:=rfl
@[simp] theorem zad5(v:Value):rfC (.raw v)=[]:=rfl
@[simp] theorem zad6(v:Value):rf1 (.raw v)=[]:=rfl
@[simp] theorem zad7(v:Value):rfA (.raw v)=[]:=rfl
@[simp] theorem zad8{σn:BId→BId}{σg:Nat→Nat}(v:Value):rlC σn σg (.raw v)=(.raw v):=rfl
@[simp] theorem zad9{σn:BId→BId}{σg:Nat→Nat}(v:Value):rl1 σn σg (.raw v)=(.raw v):=rfl
@[simp] theorem zaea{σn:BId→BId}{σg:Nat→Nat}(v:Value):rlA σn σg (.raw v)=(.raw v):=rfl
@[simp] theorem z5d{h:Heap}(v:Value):Zbk h (.raw v)=true:=rfl
@[simp] theorem z5e{h:Heap}(v:Value):Zbx h (.raw v)=true:=rfl
@[simp] theorem z7j{h:Heap}(v:Value):Zcn h (.raw v)=true:=rfl
@[simp] theorem zaeb{h:Heap}(els:List (List AV))(f:Fl):Zbe h (.sl els f)=some (.sl els f):=rfl
@[simp] theorem zaec{h:Heap}(els:List (List AV))(f:Fl):Zcd h (.sl els f)=some (.sl els f):=rfl
@[simp] theorem zais{h:Heap}(els:List (List AV))(f:Fl):frz h (.sl els f)=some (.sl els f):=rfl
@[simp] theorem z5f(els:List (List AV))(f:Fl):Za3 (.sl els f)=false:=rfl
@[simp] theorem z5g(els:List (List AV))(f:Fl):Za4 (.sl els f)=false:=rfl
@[simp] theorem z7k(els:List (List AV))(f:Fl):scalar (.sl els f)=false:=rfl
@[simp] theorem zaa0(els:List (List AV))(f:Fl):pureC (.sl els f)=true:=rfl
@[simp] theorem zaa1(els:List (List AV))(f:Fl):noRef (.sl els f)=true:=rfl
@[simp] theorem zaed(els:List (List AV))(f:Fl):refs (.sl els f)=[]:=rfl
@[simp] theorem zait(els:List (List AV))(f:Fl):rfC (.sl els f)=[]:=rfl
@[simp] theorem zaiu(els:List (List AV))(f:Fl):rf1 (.sl els f)=[]:=rfl
@[simp] theorem zaiv(els:List (List AV))(f:Fl):rfA (.sl els f)=[]:=rfl
@[simp] theorem zaiw{σn:BId→BId}{σg:Nat→Nat}(els:List (List AV))(f:Fl):rlC σn σg (.sl els f)=(.sl els f):=rfl
@[simp] theorem zaix{σn:BId→BId}{σg:Nat→Nat}(els:List (List AV))(f:Fl):rl1 σn σg (.sl els f)=(.sl els f):=rfl
@[simp] theorem zaiy{σn:BId→BId}{σg:Nat→Nat}(els:List (List AV))(f:Fl):rlA σn σg (.sl els f)=(.sl els f):=rfl
@[simp] theorem z7l{h:Heap}(els:List (List AV))(f:Fl):Zbk h (.sl els f)=true:=rfl
@[simp] theorem z7m{h:Heap}(els:List (List AV))(f:Fl):Zbx h (.sl els f)=true:=rfl
@[simp] theorem zaa2{h:Heap}(els:List (List AV))(f:Fl):Zcn h (.sl els f)=true:=rfl
@[simp] theorem z5h(els:List (List AV))(f:Fl):cellsOf (.sl els f)=some [.sl els f]:=rfl
@[simp] theorem zaiz(cs:List AV)(o:Nat):wkA (.ep cs o)=.ep cs o:=rfl
@[simp] theorem zaee{h:Heap}(cs:List AV)(o:Nat):Zbe h (.ep cs o)=some (.ep cs o):=rfl
@[simp] theorem zaef{h:Heap}(cs:List AV)(o:Nat):Zcd h (.ep cs o)=some (.ep cs o):=rfl
@[simp] theorem zai0{h:Heap}(cs:List AV)(o:Nat):frz h (.ep cs o)=some (.ep cs o):=rfl
@[simp] theorem z5i(cs:List AV)(o:Nat):Za3 (.ep cs o)=false:=rfl
@[simp] theorem z5j(cs:List AV)(o:Nat):Za4 (.ep cs o)=false:=rfl
@[simp] theorem z7n(cs:List AV)(o:Nat):scalar (.ep cs o)=false:=rfl
@[simp] theorem zaa3(cs:List AV)(o:Nat):pureC (.ep cs o)=true:=rfl
@[simp] theorem zaa4(cs:List AV)(o:Nat):noRef (.ep cs o)=true:=rfl
@[simp] theorem zaeg(cs:List AV)(o:Nat):refs (.ep cs o)=[]:=rfl
@[simp] theorem zai1(cs:List AV)(o:Nat):rfC (.ep cs o)=[]:=rfl
@[simp] theorem zai2(cs:List AV)(o:Nat):rf1 (.ep cs o)=[]:=rfl
@[simp] theorem zai3(cs:List AV)(o:Nat):rfA (.ep cs o)=[]:=rfl
@[simp] theorem zai4{σn:BId→BId}{σg:Nat→Nat}(cs:List AV)(o:Nat):rlC σn σg (.ep cs o)=(.ep cs o):=rfl
@[simp] theorem zai5{σn:BId→BId}{σg:Nat→Nat}(cs:List AV)(o:Nat):rl1 σn σg (.ep cs o)=(.ep cs o):=rfl
@[simp] theorem zai6{σn:BId→BId}{σg:Nat→Nat}(cs:List AV)(o:Nat):rlA σn σg (.ep cs o)=(.ep cs o):=rfl
@[simp] theorem z7o{h:Heap}(cs:List AV)(o:Nat):Zbk h (.ep cs o)=true:=rfl
@[simp] theorem z7p{h:Heap}(cs:List AV)(o:Nat):Zbx h (.ep cs o)=true:=rfl
@[simp] theorem zaa5{h:Heap}(cs:List AV)(o:Nat):Zcn h (.ep cs o)=true:=rfl
@[simp] theorem z5k(cs:List AV)(o:Nat):cellsOf (.ep cs o)=some [.ep cs o]:=rfl
@[simp] theorem zai7(n:Nat):wkA (u8 n)=u8 n:=rfl
@[simp] theorem zaeh{h:Heap}(n:Nat):Zbe h (u8 n)=some (u8 n):=rfl
@[simp] theorem zaei{h:Heap}(n:Nat):Zcd h (u8 n)=some (u8 n):=rfl
@[simp] theorem zai8{h:Heap}(n:Nat):frz h (u8 n)=some (u8 n):=rfl
@[simp] theorem z5l(n:Nat):Za3 (u8 n)=true:=rfl
@[simp] theorem z5m(n:Nat):Za4 (u8 n)=true:=rfl
@[simp] theorem z7q(n:Nat):scalar (u8 n)=true:=rfl
@[simp] theorem zaa6(n:Nat):pureC (u8 n)=true:=rfl
@[simp] theorem zaa7(n:Nat):noRef (u8 n)=true:=rfl
@[simp] theorem zaej(n:Nat):refs (u8 n)=[]:=rfl
@[simp] theorem zai9(n:Nat):rfC (u8 n)=[]:=rfl
@[simp] theorem zaja(n:Nat):rf1 (u8 n)=[]:=rfl
@[simp] theorem zajb(n:Nat):rfA (u8 n)=[]:=rfl
@[simp] theorem zajc{σn:BId→BId}{σg:Nat→Nat}(n:Nat):rlC σn σg (u8 n)=(u8 n):=rfl
@[simp] theorem zajd{σn:BId→BId}{σg:Nat→Nat}(n:Nat):rl1 σn σg (u8 n)=(u8 n):=rfl
@[simp] theorem zaje{σn:BId→BId}{σg:Nat→Nat}(n:Nat):rlA σn σg (u8 n)=(u8 n):=rfl
@[simp] theorem z7r{h:Heap}(n:Nat):Zbk h (u8 n)=true:=rfl
@[simp] theorem z7s{h:Heap}(n:Nat):Zbx h (u8 n)=true:=rfl
@[simp] theorem zaa8{h:Heap}(n:Nat):Zcn h (u8 n)=true:=rfl
@[simp] theorem z5n(n:Nat):cellsOf (u8 n)=some [u8 n]:=rfl
@[simp] theorem zaek(n:Nat):wkA (u32 n)=u32 n:=rfl
@[simp] theorem zaa9{h:Heap}(n:Nat):Zbe h (u32 n)=some (u32 n):=rfl
@[simp] theorem zaba{h:Heap}(n:Nat):Zcd h (u32 n)=some (u32 n):=rfl
@[simp] theorem zael{h:Heap}(n:Nat):frz h (u32 n)=some (u32 n):=rfl
@[simp] theorem z14(n:Nat):Za3 (u32 n)=true:=rfl
@[simp] theorem z15(n:Nat):Za4 (u32 n)=true:=rfl
@[simp] theorem z5o(n:Nat):scalar (u32 n)=true:=rfl
@[simp] theorem z7t(n:Nat):pureC (u32 n)=true:=rfl
@[simp] theorem z7u(n:Nat):noRef (u32 n)=true:=rfl
@[simp] theorem zabb(n:Nat):refs (u32 n)=[]:=rfl
@[simp] theorem zaem(n:Nat):rfC (u32 n)=[]:=rfl
@[simp] theorem zaen(n:Nat):rf1 (u32 n)=[]:=rfl
@[simp] theorem zaeo(n:Nat):rfA (u32 n)=[]:=rfl
@[simp] theorem zaep{σn:BId→BId}{σg:Nat→Nat}(n:Nat):rlC σn σg (u32 n)=(u32 n):=rfl
@[simp] theorem zaeq{σn:BId→BId}{σg:Nat→Nat}(n:Nat):rl1 σn σg (u32 n)=(u32 n):=rfl
@[simp] theorem zaer{σn:BId→BId}{σg:Nat→Nat}(n:Nat):rlA σn σg (u32 n)=(u32 n):=rfl
@[simp] theorem z5p{h:Heap}(n:Nat):Zbk h (u32 n)=true:=rfl
@[simp] theorem z5q{h:Heap}(n:Nat):Zbx h (u32 n)=true:=rfl
@[simp] theorem z7v{h:Heap}(n:Nat):Zcn h (u32 n)=true:=rfl
@[simp] theorem z16(n:Nat):cellsOf (u32 n)=some [u32 n]:=rfl
@[simp] theorem zaes(n:Nat):wkA (u64 n)=u64 n:=rfl
@[simp] theorem zabc{h:Heap}(n:Nat):Zbe h (u64 n)=some (u64 n):=rfl
@[simp] theorem zabd{h:Heap}(n:Nat):Zcd h (u64 n)=some (u64 n):=rfl
@[simp] theorem zaet{h:Heap}(n:Nat):frz h (u64 n)=some (u64 n):=rfl
@[simp] theorem z17(n:Nat):Za3 (u64 n)=true:=rfl
@[simp] theorem z18(n:Nat):Za4 (u64 n)=true:=rfl
@[simp] theorem z5r(n:Nat):scalar (u64 n)=true:=rfl
@[simp] theorem z7w(n:Nat):pureC (u64 n)=true:=rfl
@[simp] theorem z7x(n:Nat):noRef (u64 n)=true:=rfl
@[simp] theorem zabe(n:Nat):refs (u64 n)=[]:=rfl
@[simp] theorem zaeu(n:Nat):rfC (u64 n)=[]:=rfl
@[simp] theorem zaev(n:Nat):rf1 (u64 n)=[]:=rfl
@[simp] theorem zaew(n:Nat):rfA (u64 n)=[]:=rfl
@[simp] theorem zaex{σn:BId→BId}{σg:Nat→Nat}(n:Nat):rlC σn σg (u64 n)=(u64 n):=rfl
@[simp] theorem zaey{σn:BId→BId}{σg:Nat→Nat}(n:Nat):rl1 σn σg (u64 n)=(u64 n):=rfl
@[simp] theorem zaez{σn:BId→BId}{σg:Nat→Nat}(n:Nat):rlA σn σg (u64 n)=(u64 n):=rfl
@[simp] theorem z5s{h:Heap}(n:Nat):Zbk h (u64 n)=true:=rfl
@[simp] theorem z5t{h:Heap}(n:Nat):Zbx h (u64 n)=true:=rfl
@[simp] theorem z7y{h:Heap}(n:Nat):Zcn h (u64 n)=true:=rfl
@[simp] theorem z19(n:Nat):cellsOf (u64 n)=some [u64 n]:=rfl
@[simp] theorem zabf :wkA .dead=.dead:=rfl
@[simp] theorem z7z{h:Heap} :Zbe h .dead=some .dead:=rfl
@[simp] theorem z70{h:Heap} :Zcd h .dead=some .dead:=rfl
@[simp] theorem zabg{h:Heap} :frz h .dead=some .dead:=rfl
@[simp] theorem z00 :Za3 .dead=false:=rfl
@[simp] theorem z01 :Za4 .dead=false:=rfl
@[simp] theorem z2a :scalar .dead=false:=rfl
@[simp] theorem z5u :pureC .dead=true:=rfl
@[simp] theorem z5v :noRef .dead=true:=rfl
@[simp] theorem z71 :refs .dead=[]:=rfl
@[simp] theorem zabh :rfC .dead=[]:=rfl
@[simp] theorem zabi :rf1 .dead=[]:=rfl
@[simp] theorem zabj :rfA .dead=[]:=rfl
@[simp] theorem zabk{σn:BId→BId}{σg:Nat→Nat} :rlC σn σg .dead=.dead:=rfl
@[simp] theorem zabl{σn:BId→BId}{σg:Nat→Nat} :rl1 σn σg .dead=.dead:=rfl
@[simp] theorem zabm{σn:BId→BId}{σg:Nat→Nat} :rlA σn σg .dead=.dead:=rfl
@[simp] theorem z2b{h:Heap} :Zbk h .dead=true:=rfl
@[simp] theorem z2c{h:Heap} :Zbx h .dead=true:=rfl
@[simp] theorem z5w{h:Heap} :Zcn h .dead=true:=rfl
@[simp] theorem zajf(els:List (List AV))(f:Fl):wkA (.sl els f)=.sl (wkL els) .an:=rfl
@[simp] theorem zae0(cs:List AV):wkA (.agg cs)=.agg (wkR cs):=rfl
@[simp] theorem zae1(cs:List AV):wkA (.tup cs)=.tup (wkR cs):=rfl
@[simp] theorem zajg(id:BId)(g z off n:Nat):wkA (.bs id g z off n)=.bs id g z off n:=rfl
@[simp] theorem zae2(id:BId)(g z i o:Nat):wkA (.ptr id g z i o)=.ptr id g z i o:=rfl
@[simp] theorem zae3(f:Nat)(id:BId)(g z i o:Nat):wkA (.fnp f id g z i o)=.fnp f id g z i o:=rfl
@[simp] theorem zae4(f:Nat)(x:AV):wkA (.fnv f x)=.fnv f (wkA x):=rfl
@[simp] theorem zae5 :wkR []=[]:=rfl
@[simp] theorem zabn(c:AV)(r:List AV):wkR (c::r)=wkA c::wkR r:=rfl
@[simp] theorem zae6 :wkL []=[]:=rfl
@[simp] theorem zqe(c:List AV)(r:List (List AV)):wkL (c::r)=wkR c::wkL r:=rfl
@[simp] theorem zae7{h:Heap}(id:BId)(g z off n:Nat):Zcd h (.bs id g z off n)=(Zaf h id g z).bind fun bx=>if bx.kind≠.str∧off+n≤bx.els.length then some (.sl ((bx.els.drop off).take n) .an) else none:=rfl
@[simp] theorem zabo{h:Heap}(id:BId)(g z i o:Nat):Zcd h (.ptr id g z i o)=some .dead:=rfl
@[simp] theorem zabp{h:Heap}(f:Nat)(id:BId)(g z i o:Nat):Zcd h (.fnp f id g z i o)=some .dead:=rfl
@[simp] theorem zabq{h:Heap}(f:Nat)(x:AV):Zcd h (.fnv f x)=some (.fnv f x):=rfl
@[simp] theorem zae8{h:Heap}(id:BId)(g z off n:Nat):Zbe h (.bs id g z off n)=(Zaf h id g z).bind fun bx=>if bx.kind≠.str∧off+n≤bx.els.length then some (.sl ((bx.els.drop off).take n) .an) else none:=rfl
@[simp] theorem zabr{h:Heap}(id:BId)(g z i o:Nat):Zbe h (.ptr id g z i o)=some .dead:=rfl
@[simp] theorem zabs{h:Heap}(f:Nat)(id:BId)(g z i o:Nat):Zbe h (.fnp f id g z i o)=some .dead:=rfl
@[simp] theorem zabt{h:Heap}(f:Nat)(x:AV):Zbe h (.fnv f x)=some (.fnv f x):=rfl
@[simp] theorem zajh{h:Heap}(id:BId)(g z off n:Nat):frz h (.bs id g z off n)=(Zaf h id g z).bind fun bx=>if bx.kind≠.str∧off+n≤bx.els.length then some (.sl ((bx.els.drop off).take n) .an) else none:=rfl
@[simp] theorem zae9{h:Heap}(id:BId)(g z i o:Nat):frz h (.ptr id g z i o)=some .dead:=rfl
@[simp] theorem zafa{h:Heap}(f:Nat)(id:BId)(g z i o:Nat):frz h (.fnp f id g z i o)=some .dead:=rfl
@[simp] theorem zafb{h:Heap}(f:Nat)(x:AV):frz h (.fnv f x)=some (.fnv f x):=rfl
@[simp] theorem zabu{h:Heap}(cs:List AV):Zbe h (.agg cs)=(cs.mapM (Zcd h)).map .agg:=rfl
@[simp] theorem zafc{h:Heap}(cs:List AV):frz h (.agg cs)=(cs.mapM (Zcd h)).map .agg:=rfl
@[simp] theorem zafd{h:Heap}(cs:List AV):frz h (.tup cs)=(cs.mapM (Zbe h)).map .tup:=rfl
@[simp] theorem z5x(id:BId)(g z off n:Nat):Za3 (.bs id g z off n)=false:=rfl
@[simp] theorem z2d(id:BId)(g z i o:Nat):Za3 (.ptr id g z i o)=false:=rfl
@[simp] theorem z2e(f:Nat)(id:BId)(g z i o:Nat):Za3 (.fnp f id g z i o)=false:=rfl
@[simp] theorem z2f(f:Nat)(x:AV):Za3 (.fnv f x)=false:=rfl
@[simp] theorem z5y(id:BId)(g z off n:Nat):Za4 (.bs id g z off n)=false:=rfl
@[simp] theorem z2g(id:BId)(g z i o:Nat):Za4 (.ptr id g z i o)=false:=rfl
@[simp] theorem z2h(f:Nat)(id:BId)(g z i o:Nat):Za4 (.fnp f id g z i o)=false:=rfl
@[simp] theorem z2i(f:Nat)(x:AV):Za4 (.fnv f x)=false:=rfl
@[simp] theorem z72(id:BId)(g z off n:Nat):scalar (.bs id g z off n)=false:=rfl
@[simp] theorem z5z(id:BId)(g z i o:Nat):scalar (.ptr id g z i o)=false:=rfl
@[simp] theorem z50(f:Nat)(id:BId)(g z i o:Nat):scalar (.fnp f id g z i o)=false:=rfl
@[simp] theorem z52(f:Nat)(x:AV):scalar (.fnv f x)=false:=rfl
@[simp] theorem z2j(cs:List AV):Za4 (.agg cs)=cs.all Za3:=rfl
@[simp] theorem z53(cs:List AV):scalar (.agg cs)=cs.all Za3:=rfl
@[simp] theorem z54(cs:List AV):scalar (.tup cs)=cs.all Za4:=rfl
@[simp] theorem zabv(id:BId)(g z off n:Nat):pureC (.bs id g z off n)=false:=rfl
@[simp] theorem z73(id:BId)(g z i o:Nat):pureC (.ptr id g z i o)=false:=rfl
@[simp] theorem z74(f:Nat)(id:BId)(g z i o:Nat):pureC (.fnp f id g z i o)=false:=rfl
@[simp] theorem z77(f:Nat)(x:AV):pureC (.fnv f x)=true:=rfl
@[simp] theorem z78(cs:List AV):pureC (.agg cs)=false:=rfl
@[simp] theorem z79(cs:List AV):pureC (.tup cs)=false:=rfl
@[simp] theorem zabw(id:BId)(g z off n:Nat):noRef (.bs id g z off n)=false:=rfl
@[simp] theorem z8a(id:BId)(g z i o:Nat):noRef (.ptr id g z i o)=false:=rfl
@[simp] theorem z8b(f:Nat)(id:BId)(g z i o:Nat):noRef (.fnp f id g z i o)=false:=rfl
@[simp] theorem z8c(f:Nat)(x:AV):noRef (.fnv f x)=true:=rfl
@[simp] theorem z8d(cs:List AV):noRef (.agg cs)=cs.all pureC:=rfl
@[simp] theorem z8e(cs:List AV):noRef (.tup cs)=false:=rfl
@[simp] theorem zafe(id:BId)(g z off n:Nat):refs (.bs id g z off n)=[id]:=rfl
@[simp] theorem zabx(id:BId)(g z i o:Nat):refs (.ptr id g z i o)=[]:=rfl
@[simp] theorem zaby(f:Nat)(id:BId)(g z i o:Nat):refs (.fnp f id g z i o)=[]:=rfl
@[simp] theorem zabz(f:Nat)(x:AV):refs (.fnv f x)=[]:=rfl
@[simp] theorem zaji(id:BId)(g z off n:Nat):rfC (.bs id g z off n)=[id]:=rfl
@[simp] theorem zaff(id:BId)(g z i o:Nat):rfC (.ptr id g z i o)=[id]:=rfl
@[simp] theorem zafg(f:Nat)(id:BId)(g z i o:Nat):rfC (.fnp f id g z i o)=[id]:=rfl
@[simp] theorem zafh(f:Nat)(x:AV):rfC (.fnv f x)=[]:=rfl
@[simp] theorem zajj(id:BId)(g z off n:Nat):rf1 (.bs id g z off n)=[id]:=rfl
@[simp] theorem zafi(id:BId)(g z i o:Nat):rf1 (.ptr id g z i o)=[id]:=rfl
@[simp] theorem zafj(f:Nat)(id:BId)(g z i o:Nat):rf1 (.fnp f id g z i o)=[id]:=rfl
@[simp] theorem zafk(f:Nat)(x:AV):rf1 (.fnv f x)=[]:=rfl
@[simp] theorem zajk(id:BId)(g z off n:Nat):rfA (.bs id g z off n)=[id]:=rfl
@[simp] theorem zafl(id:BId)(g z i o:Nat):rfA (.ptr id g z i o)=[id]:=rfl
@[simp] theorem zafm(f:Nat)(id:BId)(g z i o:Nat):rfA (.fnp f id g z i o)=[id]:=rfl
@[simp] theorem zafn(f:Nat)(x:AV):rfA (.fnv f x)=[]:=rfl
def Zfo:AV→List BId
 | .bs id .. => [id]
 | _=>[]
@[simp] theorem zafo(cs:List AV):rf1 (.agg cs)=cs.flatMap rfC:=rfl
@[simp] theorem zafp(cs:List AV):rfA (.agg cs)=cs.flatMap rfC:=rfl
@[simp] theorem zafq(cs:List AV):rfA (.tup cs)=cs.flatMap rf1:=rfl
@[simp] theorem zajl{σn:BId→BId}{σg:Nat→Nat}(id:BId)(g z off n:Nat):rlC σn σg (.bs id g z off n)=.bs (σn id) (σg g) z off n:=rfl
@[simp] theorem zafr{σn:BId→BId}{σg:Nat→Nat}(id:BId)(g z i o:Nat):rlC σn σg (.ptr id g z i o)=.ptr (σn id) (σg g) z i o:=rfl
@[simp] theorem zafs{σn:BId→BId}{σg:Nat→Nat}(f:Nat)(id:BId)(g z i o:Nat):rlC σn σg (.fnp f id g z i o)=.fnp f (σn id) (σg g) z i o:=rfl
@[simp] theorem zaft{σn:BId→BId}{σg:Nat→Nat}(f:Nat)(x:AV):rlC σn σg (.fnv f x)=.fnv f x:=rfl
@[simp] theorem zajm{σn:BId→BId}{σg:Nat→Nat}(id:BId)(g z off n:Nat):rl1 σn σg (.bs id g z off n)=.bs (σn id) (σg g) z off n:=rfl
@[simp] theorem zafu{σn:BId→BId}{σg:Nat→Nat}(id:BId)(g z i o:Nat):rl1 σn σg (.ptr id g z i o)=.ptr (σn id) (σg g) z i o:=rfl
@[simp] theorem zafv{σn:BId→BId}{σg:Nat→Nat}(f:Nat)(id:BId)(g z i o:Nat):rl1 σn σg (.fnp f id g z i o)=.fnp f (σn id) (σg g) z i o:=rfl
@[simp] theorem zafw{σn:BId→BId}{σg:Nat→Nat}(f:Nat)(x:AV):rl1 σn σg (.fnv f x)=.fnv f x:=rfl
@[simp] theorem zajn{σn:BId→BId}{σg:Nat→Nat}(id:BId)(g z off n:Nat):rlA σn σg (.bs id g z off n)=.bs (σn id) (σg g) z off n:=rfl
@[simp] theorem zafx{σn:BId→BId}{σg:Nat→Nat}(id:BId)(g z i o:Nat):rlA σn σg (.ptr id g z i o)=.ptr (σn id) (σg g) z i o:=rfl
@[simp] theorem zafy{σn:BId→BId}{σg:Nat→Nat}(f:Nat)(id:BId)(g z i o:Nat):rlA σn σg (.fnp f id g z i o)=.fnp f (σn id) (σg g) z i o:=rfl
@[simp] theorem zafz{σn:BId→BId}{σg:Nat→Nat}(f:Nat)(x:AV):rlA σn σg (.fnv f x)=.fnv f x:=rfl
@[simp] theorem zaf0{σn:BId→BId}{σg:Nat→Nat}(cs:List AV):rl1 σn σg (.agg cs)=.agg (cs.map (rlC σn σg)):=rfl
@[simp] theorem zaf1{σn:BId→BId}{σg:Nat→Nat}(cs:List AV):rlA σn σg (.agg cs)=.agg (cs.map (rlC σn σg)):=rfl
@[simp] theorem zaf2{σn:BId→BId}{σg:Nat→Nat}(cs:List AV):rlA σn σg (.tup cs)=.tup (cs.map (rl1 σn σg)):=rfl
@[simp] theorem z8f{h:Heap}(id:BId)(g z off n:Nat):Zbk h (.bs id g z off n)=(Zaf h id g z).isSome:=rfl
@[simp] theorem z55{h:Heap}(id:BId)(g z i o:Nat):Zbk h (.ptr id g z i o)=(Zaf h id g z).isSome:=rfl
@[simp] theorem z56{h:Heap}(f:Nat)(id:BId)(g z i o:Nat):Zbk h (.fnp f id g z i o)=(Zaf h id g z).isSome:=rfl
@[simp] theorem z57{h:Heap}(f:Nat)(x:AV):Zbk h (.fnv f x)=true:=rfl
@[simp] theorem z8g{h:Heap}(id:BId)(g z off n:Nat):Zbx h (.bs id g z off n)=(Zaf h id g z).isSome:=rfl
@[simp] theorem z58{h:Heap}(id:BId)(g z i o:Nat):Zbx h (.ptr id g z i o)=(Zaf h id g z).isSome:=rfl
@[simp] theorem z6a{h:Heap}(f:Nat)(id:BId)(g z i o:Nat):Zbx h (.fnp f id g z i o)=(Zaf h id g z).isSome:=rfl
@[simp] theorem z6b{h:Heap}(f:Nat)(x:AV):Zbx h (.fnv f x)=true:=rfl
@[simp] theorem zab0{h:Heap}(id:BId)(g z off n:Nat):Zcn h (.bs id g z off n)=(Zaf h id g z).isSome:=rfl
@[simp] theorem z8h{h:Heap}(id:BId)(g z i o:Nat):Zcn h (.ptr id g z i o)=(Zaf h id g z).isSome:=rfl
@[simp] theorem z8i{h:Heap}(f:Nat)(id:BId)(g z i o:Nat):Zcn h (.fnp f id g z i o)=(Zaf h id g z).isSome:=rfl
@[simp] theorem z8j{h:Heap}(f:Nat)(x:AV):Zcn h (.fnv f x)=true:=rfl
@[simp] theorem z6c{h:Heap}(cs:List AV):Zbx h (.agg cs)=cs.all (Zbk h):=rfl
@[simp] theorem z8k{h:Heap}(cs:List AV):Zcn h (.agg cs)=cs.all (Zbk h):=rfl
@[simp] theorem z8l{h:Heap}(cs:List AV):Zcn h (.tup cs)=cs.all (Zbx h):=rfl
@[simp] theorem z6d(id:BId)(g z off n:Nat):cellsOf (.bs id g z off n)=some [.bs id g z off n]:=rfl
@[simp] theorem z2k(id:BId)(g z i o:Nat):cellsOf (.ptr id g z i o)=some [.ptr id g z i o]:=rfl
@[simp] theorem z2l(f:Nat)(id:BId)(g z i o:Nat):cellsOf (.fnp f id g z i o)=some [.fnp f id g z i o]:=rfl
@[simp] theorem z2m(f:Nat)(x:AV):cellsOf (.fnv f x)=some [.fnv f x]:=rfl
@[simp] theorem z2n(cs:List AV):cellsOf (.agg cs)=some cs:=rfl
@[simp] theorem zajo(k:IntKind)(n:Int):Zfo (.i k n)=[]:=rfl
@[simp] theorem zajp(t:Bool):Zfo (.b t)=[]:=rfl
@[simp] theorem zajq(l:List UInt8):Zfo (.s l)=[]:=rfl
@[simp] theorem zab1(v:Value):Zfo (.raw v)=[]:=rfl
@[simp] theorem zaf3(els:List (List AV))(f:Fl):Zfo (.sl els f)=[]:=rfl
@[simp] theorem zaf4(cs:List AV)(o:Nat):Zfo (.ep cs o)=[]:=rfl
@[simp] theorem zaf5(n:Nat):Zfo (u8 n)=[]:=rfl
@[simp] theorem zab2(n:Nat):Zfo (u32 n)=[]:=rfl
@[simp] theorem zab3(n:Nat):Zfo (u64 n)=[]:=rfl
@[simp] theorem z8m :Zfo .dead=[]:=rfl
@[simp] theorem zaf6(id:BId)(g z off n:Nat):Zfo (.bs id g z off n)=[id]:=rfl
@[simp] theorem zab4(id:BId)(g z i o:Nat):Zfo (.ptr id g z i o)=[]:=rfl
@[simp] theorem zab5(f:Nat)(id:BId)(g z i o:Nat):Zfo (.fnp f id g z i o)=[]:=rfl
@[simp] theorem zab6(f:Nat)(x:AV):Zfo (.fnv f x)=[]:=rfl
@[simp] theorem zab7(cs:List AV):refs (.agg cs)=cs.flatMap Zfo:=rfl
@[simp] theorem z02:refs (.tup [])=[]:=rfl
@[simp] theorem zab8(h:Heap)(id:BId)(g z:Nat):Zaf h id g z=(match h.lookup id with | some bx=>if bx.gen=g∧bx.z=z then some bx else none | none=>none):=rfl
@[simp] theorem z8n(x:AV):wkIf true x=x:=rfl
@[simp] theorem z6e(x:AV):wkIf false x=wkA x:=rfl
theorem zcz(n:Nat):IntKind.wrap .u32 (n:Int)=((n%4294967296:Nat):Int):=by
 simp[IntKind.wrap,IntKind.signed,IntKind.bits]
theorem zeb(n:Nat):IntKind.wrap .u64 (n:Int)=((n%18446744073709551616:Nat):Int):=by
 simp[IntKind.wrap,IntKind.signed,IntKind.bits]
theorem wrap_u8(n:Nat):IntKind.wrap .u8 (n:Int)=((n%256:Nat):Int):=by
 simp[IntKind.wrap,IntKind.signed,IntKind.bits]
def bX(o:Option (Ex×St))(f:St→Option (Ex×St)):Option (Ex×St):=o.bind fun r=>match r.1 with | .n=>f r.2 | _=>some r
def Zhe(id:Nat)(o:Option (Ex×St)):Option (Ex×St):=o.bind fun r=>match r.1 with | .x j=>if j=id then some (.n,r.2) else some r | _=>some r
def stX(o:Option St):Option (Ex×St):=o.map fun s=>(.n,s)
def bS(o:Option St)(f:St→Option St):Option St:=o.bind f
def cnX(v:AV)(x y:Option (Ex×St)):Option (Ex×St):=match v with | .b t=>if t then x else y | _=>none
def pS(o:Option AV)(d:Option Nat)(st:St):Option St:=o.map fun x=>⟨Zo st.env d x,st.heap,st.clk⟩
def pW(o:Option (AV×Heap×Nat))(d:Option Nat)(st:St):Option St:=o.map fun q=>⟨Zo st.env d q.1,q.2.1,q.2.2⟩
def pB(o:Option (AV×Heap))(d:Option Nat)(st:St):Option St:=o.map fun q=>⟨Zo st.env d q.1,q.2,st.clk⟩
def Zgu(res:List RV)(ex:Bool)(o:Option (Ex×St)):Option AV:=
 o.bind fun r=>match r.1 with | .x _=>none | .g _=>none | _=>(Zdb r.2 res).bind fun x=>(frz r.2.heap x).map (wkIf ex)
def Ziv(res:List RV)(ex:Bool)(k:Nat)(o:Option (Ex×St)):Option (AV×Heap):=
 o.bind fun r=>match r.1 with | .x _=>none | .g _=>none | _=>(Zdb r.2 res).map fun x=>let s:=Zdg ex k [0] ⟨[(0,x)],r.2.heap,r.2.clk⟩;(s.env.get 0,s.heap)
section
variable{o o':Option (Ex×St)}{f:St→Option (Ex×St)}{s:St}
@[congr] theorem zab9(h:o=o'):bX o f=bX o' f:=by rw[h]
@[congr] theorem zaca{o o':Option St}{f:St→Option St}(h:o=o'):bS o f=bS o' f:=by rw[h]
@[congr] theorem z8o{v v':AV}{x y:Option (Ex×St)}(h:v=v'):cnX v x y=cnX v' x y:=by rw[h]
@[simp] theorem bX_n:bX (some (.n,s)) f=f s:=rfl
@[simp] theorem bX_x(id:Nat):bX (some (.x id,s)) f=some (.x id,s):=rfl
@[simp] theorem bX_r:bX (some (.r,s)) f=some (.r,s):=rfl
@[simp] theorem zaf7:bX none f=none:=rfl
@[simp] theorem zajr{c:Prop}[Decidable c]{a b:Option (Ex×St)}:bX (if c then a else b) f=if c then bX a f else bX b f:=by split<;>rfl
@[simp] theorem zacb(id:Nat){c:Prop}[Decidable c]{a b:Option (Ex×St)}:Zhe id (if c then a else b)=if c then Zhe id a else Zhe id b:=by split<;>rfl
@[simp] theorem zacc{res:List RV}{ex:Bool}{c:Prop}[Decidable c]{a b:Option (Ex×St)}:Zgu res ex (if c then a else b)=if c then Zgu res ex a else Zgu res ex b:=by split<;>rfl
@[simp] theorem zacd{res:List RV}{ex:Bool}{k:Nat}{c:Prop}[Decidable c]{a b:Option (Ex×St)}:Ziv res ex k (if c then a else b)=if c then Ziv res ex k a else Ziv res ex k b:=by split<;>rfl
@[simp] theorem zajs(id:Nat):Zhe id (some (.n,s))=some (.n,s):=rfl
@[simp] theorem z8p(id j:Nat):Zhe id (some (.x j,s))=if j=id then some (.n,s) else some (.x j,s):=rfl
@[simp] theorem zajt(id:Nat):Zhe id (some (.r,s))=some (.r,s):=rfl
@[simp] theorem z8q(id:Nat):Zhe id none=none:=rfl
@[simp] theorem zace:stX (some s)=some (.n,s):=rfl
@[simp] theorem zacf:stX none=none:=rfl
@[simp] theorem zaf8{f:St→Option St}:bS (some s) f=f s:=rfl
@[simp] theorem zaf9{f:St→Option St}:bS none f=none:=rfl
@[simp] theorem zalr{t:Bool}{x y:Option (Ex×St)}:cnX (.b t) x y=if t then x else y:=rfl
@[simp] theorem zaga{x:AV}{d:Option Nat}:pS (some x) d s=some ⟨Zo s.env d x,s.heap,s.clk⟩:=rfl
@[simp] theorem zagb{d:Option Nat}:pS none d s=none:=rfl
@[simp] theorem zagc{x:AV}{h:Heap}{c:Nat}{d:Option Nat}:pW (some (x,h,c)) d s=some ⟨Zo s.env d x,h,c⟩:=rfl
@[simp] theorem zagd{d:Option Nat}:pW none d s=none:=rfl
@[simp] theorem zage{x:AV}{h:Heap}{d:Option Nat}:pB (some (x,h)) d s=some ⟨Zo s.env d x,h,s.clk⟩:=rfl
@[simp] theorem zagf{d:Option Nat}:pB none d s=none:=rfl
@[simp] theorem zaju{res:List RV}{ex:Bool}:Zgu res ex (some (.r,s))=(Zdb s res).bind fun x=>(frz s.heap x).map (wkIf ex):=rfl
@[simp] theorem zajv{res:List RV}{ex:Bool}:Zgu res ex (some (.n,s))=(Zdb s res).bind fun x=>(frz s.heap x).map (wkIf ex):=rfl
@[simp] theorem zajw{res:List RV}{ex:Bool}{k:Nat}:Ziv res ex k (some (.r,s))=(Zdb s res).map fun x=>((Zdg ex k [0] ⟨[(0,x)],s.heap,s.clk⟩).env.get 0,(Zdg ex k [0] ⟨[(0,x)],s.heap,s.clk⟩).heap):=rfl
@[simp] theorem zajx{res:List RV}{ex:Bool}{k:Nat}:Ziv res ex k (some (.n,s))=(Zdb s res).map fun x=>((Zdg ex k [0] ⟨[(0,x)],s.heap,s.clk⟩).env.get 0,(Zdg ex k [0] ⟨[(0,x)],s.heap,s.clk⟩).heap):=rfl
end
section
variable{T:Tbl}{k:Nat}{st:St}{d:Option Nat}
noncomputable abbrev X(T:Tbl)(k:Nat)(c:AX)(st:St):Option (Ex×St):=evX (orc T) T k c st
noncomputable abbrev R(T:Tbl)(l:List AO)(st:St):Option St:=Zev (orc T) T l st
@[congr] theorem z8r{O:Orc}{c:AX}{st st':St}(h:st=st'):evX O T k c st=evX O T k c st':=by rw[h]
@[congr] theorem z8s{O:Orc}{op:AOp}{d:Option Nat}{st st':St}(h:st=st'):opX O T op d st=opX O T op d st':=by rw[h]
@[simp] theorem zajy:evX (orc T) T k .skip st=some (.n,st):=rfl
@[simp] theorem zals{l:List AO}:evX (orc T) T k (.reg l) st=stX (Zev (orc T) T l st):=rfl
@[simp] theorem zajz{l:List DO}:evX (orc T) T k (.draw l) st=stX (Zcg (orc T) T l st.env st.heap st.clk [] []):=rfl
@[simp] theorem zalt{a b:AX}:evX (orc T) T k (.seq a b) st=bX (evX (orc T) T k a st) fun s=>evX (orc T) T k b s:=rfl
@[simp] theorem zaj0{c:Opd}{x y:AX}:evX (orc T) T k (.cond c x y) st=cnX (ev st.env.get c) (evX (orc T) T k x st) (evX (orc T) T k y st):=rfl
@[simp] theorem zagg{id:Nat}{c:AX}:evX (orc T) T k (.block id c) st=Zhe id (evX (orc T) T k c st):=rfl
@[simp] theorem zaj1{c:AX}:evX (orc T) T k (.loop c) st=Zi9 T k c st:=rfl
def scX(o:Option (Ex×St)):Option (Ex×St):=o.bind fun r=>match r.1 with | .g _=>none | _=>some r
@[congr] theorem z8t{o o':Option (Ex×St)}(h:o=o'):scX o=scX o':=by rw[h]
@[simp] theorem zalu{s:St}:scX (some (.n,s))=some (.n,s):=rfl
@[simp] theorem zalv{j:Nat}{s:St}:scX (some (.x j,s))=some (.x j,s):=rfl
@[simp] theorem zalw{s:St}:scX (some (.r,s))=some (.r,s):=rfl
@[simp] theorem zagh{c:Prop}[Decidable c]{a b:Option (Ex×St)}:scX (if c then a else b)=if c then scX a else scX b:=by split<;>rfl
@[simp] theorem zagi{c:AX}:evX (orc T) T k (.scope c) st=scX (evX (orc T) T k c st):=rfl
@[simp] theorem zagj{l:Nat}:evX (orc T) T k (.label l) st=some (.n,st):=rfl
@[simp] theorem zaj2{l:Nat}:evX (orc T) T k (.goto l) st=some (.g l,st):=rfl
@[simp] theorem bX_g{l:Nat}{s:St}{f:St→Option (Ex×St)}:bX (some (.g l,s)) f=some (.g l,s):=rfl
@[simp] theorem zaj3{id l:Nat}{s:St}:Zhe id (some (.g l,s))=some (.g l,s):=rfl
theorem zagk{l:Nat}{c r:AX}:evX (orc T) T k (.gsc l c r) st=Zgd (fun s=>evX (orc T) T k r s) l 100 (evX (orc T) T k c st):=rfl
@[simp] theorem zaj4{id:Nat}:evX (orc T) T k (.exit id) st=some (.x id,st):=rfl
@[simp] theorem zalx:evX (orc T) T k .ret st=some (.r,st):=rfl
@[simp] theorem zaj5{c:AX}{g:Gh}:evX (orc T) T k (.note c g) st=bX (evX (orc T) T k c st) fun s=>stX (ghS k g s):=rfl
def prX(o:Option St)(f:St→Option (Ex×St)):Option (Ex×St):=o.bind f
@[congr] theorem z8u{o o':Option St}{f:St→Option (Ex×St)}(h:o=o'):prX o f=prX o' f:=by rw[h]
@[simp] theorem zacg{s:St}{f:St→Option (Ex×St)}:prX (some s) f=f s:=rfl
@[simp] theorem z8v{c:AX}{g:Gh}:evX (orc T) T k (.pre g c) st=prX (ghS k g st) fun s=>evX (orc T) T k c s:=rfl
noncomputable def Zeh(k id:Nat)(g2:Gh)(o:Option (Ex×St)):Option (Ex×St):=bX (Zhe id o) fun s=>stX (ghS k g2 s)
noncomputable def Zj(T:Tbl)(k id:Nat)(g2:Gh)(c:AX)(st:St):Option (Ex×St):=Zeh k id g2 (Zi9 T k c st)
@[congr] theorem z2o{id:Nat}{g2:Gh}{c:AX}{st st':St}(h:st=st'):Zj T k id g2 c st=Zj T k id g2 c st':=by rw[h]
@[congr] theorem z6f{id:Nat}{g2:Gh}{o o':Option (Ex×St)}(h:o=o'):Zeh k id g2 o=Zeh k id g2 o':=by rw[h]
@[simp] theorem zaj6{id j:Nat}{g2:Gh}{s:St}:Zeh k id g2 (some (.x j,s))=if j=id then stX (ghS k g2 s) else some (.x j,s):=by
 unfold Zeh;rw[z8p];split<;>simp
@[simp] theorem zaj7{id:Nat}{g2:Gh}{s:St}:Zeh k id g2 (some (.r,s))=some (.r,s):=rfl
@[simp] theorem X_lp{id:Nat}{g g2:Gh}{c:AX}:evX (orc T) T k (.lp id g c g2) st=prX (ghS k g st) fun s=>Zj T k id g2 c s:=by
 simp only[evX,prX,Zj,Zeh,bX,Zhe,stX,Zi9];cases ghS k g st with
 | none=>rfl
 | some s=>
  simp only[Yah];cases (orc T).loop k c s with
  | none=>rfl
  | some r=>
   obtain⟨e,s'⟩:=r;cases e with
   | n=>rfl
   | r=>rfl
   | g l=>rfl
   | x j=>
    simp only[Yah];split<;>rfl
def Zd5:Option (Ex×St)→Bool
 | some (.x _,_)=>true
 | some (.r,_)=>true
 | _=>false
@[simp] theorem zaj8{j:Nat}{s:St}:Zd5 (some (.x j,s))=true:=rfl
@[simp] theorem zaj9{s:St}:Zd5 (some (.r,s))=true:=rfl
@[simp] theorem zach{c:Prop}[Decidable c]{a b:Option (Ex×St)}:Zd5 (if c then a else b)=if c then Zd5 a else Zd5 b:=by split<;>rfl
@[congr] theorem z6g{o o':Option (Ex×St)}(h:o=o'):Zd5 o=Zd5 o':=by rw[h]
theorem zqf{c:AX}:Zi9 T k c st=bX (evX (orc T) T k c st) fun s=>Zi9 T k c s:=zyu T k c st
theorem zar{α:Type}{id:Nat}{g2:Gh}{c:AX}(F:α→St)(I:α→Prop)(μ:α→Nat)(Q:Ex×St→Prop)
  (step:∀x,I x→(∃y,I y∧μ y<μ x∧evX (orc T) T k c (F x)=some (.n,F y))∨(∃r,Q r∧Zd5 (evX (orc T) T k c (F x))=true∧Zeh k id g2 (evX (orc T) T k c (F x))=some r)) :
  ∀x,I x→∃r,Q r∧Zj T k id g2 c (F x)=some r:=by
 have key:∀n x,μ x=n→I x→∃r,Q r∧Zj T k id g2 c (F x)=some r:=by
  intro n
  induction n using Nat.strongRecOn with
  | _ n ih=>
   intro x hn hI;unfold Zj;rw[zqf];rcases step x hI with ⟨y,h1,h2,h3⟩ | ⟨r,h1,h2,h3⟩
   ·rw[h3,bX_n];exact ih (μ y) (hn▸h2) y rfl h1
   ·refine⟨r,h1,?_⟩;rw[←h3];generalize evX (orc T) T k c (F x)=o at h2 ⊢;cases o with
    | none=>cases h2
    | some q=>
     obtain⟨e,s⟩:=q;cases e
     ·cases h2
     ·rfl
     ·rfl
     ·cases h2
 exact fun x hI=>key _ x rfl hI
theorem zav{α:Type}{id:Nat}{g2:Gh}{c:AX}(F:α→St)(I:α→Prop)(μ:α→Nat)(G:α→Option (Ex×St))
  (step:∀x,I x→(∃y,I y∧μ y<μ x∧evX (orc T) T k c (F x)=some (.n,F y)∧G y=G x)∨(Zd5 (evX (orc T) T k c (F x))=true∧Zeh k id g2 (evX (orc T) T k c (F x))=G x)) :
  ∀x,I x→Zj T k id g2 c (F x)=G x:=by
 have key:∀n x,μ x=n→I x→Zj T k id g2 c (F x)=G x:=by
  intro n
  induction n using Nat.strongRecOn with
  | _ n ih=>
   intro x hn hI;unfold Zj;rw[zqf];rcases step x hI with ⟨y,h1,h2,h3,h4⟩ | ⟨h2,h3⟩
   ·rw[h3,bX_n,←h4];exact ih (μ y) (hn▸h2) y rfl h1
   ·rw[←h3];generalize evX (orc T) T k c (F x)=o at h2 ⊢;cases o with
    | none=>cases h2
    | some q=>
     obtain⟨e,s⟩:=q;cases e
     ·cases h2
     ·rfl
     ·rfl
     ·cases h2
 exact fun x hI=>key _ x rfl hI
@[simp] theorem zaly:Zev (orc T) T [] st=some st:=rfl
@[simp] theorem zaka{d:Option Nat}{op:AOp}{l:List AO}:Zev (orc T) T (⟨d,none,op⟩::l) st=bS (opX (orc T) T op d st) fun s=>Zev (orc T) T l s:=rfl
noncomputable def gS(T:Tbl)(x:AV)(want:Bool)(op:AOp)(d:Option Nat)(st:St):Option St:=gX (orc T) T x want op d st
@[congr] theorem zaci{x x':AV}{want:Bool}{op:AOp}(h:x=x'):gS T x want op d st=gS T x' want op d st:=by rw[h]
@[simp] theorem zagl{d:Option Nat}{op:AOp}{l:List AO}{t:Nat}{w:Bool}:Zev (orc T) T (⟨d,some (t,w),op⟩::l) st=bS (gS T (st.env.get t) w op d st) fun s=>Zev (orc T) T l s:=rfl
@[simp] theorem gS_b{v want:Bool}{op:AOp}:gS T (.b v) want op d st=if v=want then opX (orc T) T op d st else some ⟨Zo st.env d (.tup []),st.heap,st.clk⟩:=rfl
@[simp] theorem zakb{vs:List AV}{want:Bool}{op:AOp}:gS T (.tup vs) want op d st=some ⟨Zo st.env d (.tup []),st.heap,st.clk⟩:=rfl
@[simp] theorem zalz{x}:opX (orc T) T (.mov x) d st=some ⟨Zo st.env d (ev st.env.get x),st.heap,st.clk⟩:=rfl
@[simp] theorem zakc{c a b}:opX (orc T) T (.pick c a b) d st=pS (Zgz (ev st.env.get c) (ev st.env.get a) (ev st.env.get b)) d st:=rfl
@[simp] theorem zagm{zs ps}:opX (orc T) T (.build zs ps) d st=pS ((Zgl zs (ps.map fun p=>(p.1,p.2.1,ev st.env.get p.2.2))).map .agg) d st:=rfl
@[simp] theorem zakd{n x}:opX (orc T) T (.load n x) d st=pS (Zfk n st.heap (ev st.env.get x)) d st:=rfl
@[simp] theorem zal0{o x y}:opX (orc T) T (.bin o x y) d st=pS (Zad o (ev st.env.get x) (ev st.env.get y)) d st:=rfl
@[simp] theorem zal1{g ls x y}:opX (orc T) T (.eqs g ls x y) d st=pS (Zh0 g ls (ev st.env.get x) (ev st.env.get y)) d st:=rfl
@[simp] theorem zagn{g x}:opX (orc T) T (.eqnil g x) d st=pS (Ze7 g (ev st.env.get x)) d st:=rfl
@[simp] theorem zal2{g x y}:opX (orc T) T (.eqb g x y) d st=pS (Zh1 g (ev st.env.get x) (ev st.env.get y)) d st:=rfl
@[simp] theorem O_un{o x}:opX (orc T) T (.un o x) d st=pS (Zg0 o (ev st.env.get x)) d st:=rfl
@[simp] theorem zake{n x}:opX (orc T) T (.conv n x) d st=pS (Zca n (ev st.env.get x)) d st:=rfl
@[simp] theorem zal3{z x lo hi mx}:opX (orc T) T (.slc z x lo hi mx) d st=pS (Zgm z st.heap (ev st.env.get x) (evO st.env.get lo) (evO st.env.get hi) (evO st.env.get mx)) d st:=rfl
@[simp] theorem zago{x lo hi}:opX (orc T) T (.slstr x lo hi) d st=pS (Ze8 (ev st.env.get x) (evO st.env.get lo) (evO st.env.get hi)) d st:=rfl
@[simp] theorem zal4{o x}:opX (orc T) T (.fad o x) d st=pS (Zg1 o st.heap (ev st.env.get x)) d st:=rfl
@[simp] theorem zal5{o n x}:opX (orc T) T (.fld o n x) d st=pS (Zh2 o n (ev st.env.get x)) d st:=rfl
@[simp] theorem zal6{z x i}:opX (orc T) T (.iad z x i) d st=pS (Zg2 z st.heap (ev st.env.get x) (ev st.env.get i)) d st:=rfl
@[simp] theorem zal7{z n x i}:opX (orc T) T (.iaa z n x i) d st=pS (Zg3 z n st.heap (ev st.env.get x) (ev st.env.get i)) d st:=rfl
@[simp] theorem zal8{x i}:opX (orc T) T (.ixs x i) d st=pS (Zh3 (ev st.env.get x) (ev st.env.get i)) d st:=rfl
@[simp] theorem zal9{z l n x i}:opX (orc T) T (.ixa z l n x i) d st=pS (Zfv z l n (ev st.env.get x) (ev st.env.get i)) d st:=rfl
@[simp] theorem zama{x}:opX (orc T) T (.len x) d st=pS (Zg4 st.heap (ev st.env.get x)) d st:=rfl
@[simp] theorem zakf{x}:opX (orc T) T (.lens x) d st=pS (Zf6 (ev st.env.get x)) d st:=rfl
@[simp] theorem zakg{n}:opX (orc T) T (.lenc n) d st=some ⟨Zo st.env d (.i .i64 n),st.heap,st.clk⟩:=rfl
@[simp] theorem O_mm{m xs}:opX (orc T) T (.mm m xs) d st=pS (Zkp m (xs.map (ev st.env.get))) d st:=rfl
@[simp] theorem zamb{x n}:opX (orc T) T (.ext x n) d st=pS (Zh4 n (ev st.env.get x)) d st:=rfl
@[simp] theorem zakh{x}:opX (orc T) T (.nilc x) d st=pS (Zfl st.heap (ev st.env.get x)) d st:=rfl
@[simp] theorem zagp{zs}:opX (orc T) T (.alloc zs) d st=pW (Ze9 zs d st.heap st.clk) d st:=rfl
@[simp] theorem zagq{n x v}:opX (orc T) T (.store n x v) d st=pW ((Zda n st.heap (ev st.env.get x) (ev st.env.get v)).map fun h'=>(.tup [],h',st.clk)) d st:=rfl
@[simp] theorem zamc{z zs l c}:opX (orc T) T (.mks z zs l c) d st=pW (Zgo z zs d st.heap st.clk (ev st.env.get l) (ev st.env.get c)) d st:=rfl
@[simp] theorem zamd{z x y}:opX (orc T) T (.app z x y) d st=pW (Zi7 z d st.heap st.clk (ev st.env.get x) (ev st.env.get y)) d st:=rfl
@[simp] theorem zaki{n xs}:opX (orc T) T (.xop (.box n) xs) d st=pW (Zbl (.box n) (xs.map (ev st.env.get)) d st.heap st.clk) d st:=rfl
@[simp] theorem zakj{xs}:opX (orc T) T (.xop .cpy xs) d st=pW (Zbl .cpy (xs.map (ev st.env.get)) d st.heap st.clk) d st:=rfl
@[simp] theorem zagr{xs}:opX (orc T) T (.xop .bstr xs) d st=pW (Zbl .bstr (xs.map (ev st.env.get)) d st.heap st.clk) d st:=rfl
@[simp] theorem zags{n xs}:opX (orc T) T (.xop (.arsl n) xs) d st=pW (Zbl (.arsl n) (xs.map (ev st.env.get)) d st.heap st.clk) d st:=rfl
@[simp] theorem zagt{xs}:opX (orc T) T (.xop .apps xs) d st=pW (Zbl .apps (xs.map (ev st.env.get)) d st.heap st.clk) d st:=rfl
@[simp] theorem zakk{xs}:opX (orc T) T (.xop .bad xs) d st=pW (Zbl .bad (xs.map (ev st.env.get)) d st.heap st.clk) d st:=rfl
@[simp] theorem zame{n xs}:opX (orc T) T (.xop (.mkf n) xs) d st=pW (Zbl (.mkf (Zu T n)) (xs.map (ev st.env.get)) d st.heap st.clk) d st:=rfl
@[simp] theorem zamf{n xs}:opX (orc T) T (.xop (.mkv n) xs) d st=pW (Zbl (.mkv (Zu T n)) (xs.map (ev st.env.get)) d st.heap st.clk) d st:=rfl
@[simp] theorem z6h{f:Nat}{x:AV}{dd:Option Nat}{h:Heap}{clk:Nat}:Zbl (.mkv f) [x] dd h clk=if noRef x=true then some (.fnv f x,h,clk) else none:=rfl
@[simp] theorem z6i{f:Nat}{id:BId}{g z i o:Nat}{dd:Option Nat}{h:Heap}{clk:Nat}:Zbl (.mkf f) [.ptr id g z i o] dd h clk=some (.fnp f id g z i o,h,clk):=rfl
@[simp] theorem zamg{z zs n ps}:opX (orc T) T (.bsl z zs n ps) d st=pB (Zec z zs n st.heap (ps.map fun p=>(p.1,ev st.env.get p.2))) d st:=rfl
@[simp] theorem zakl{u args}:opX (orc T) T (.call u args) d st=Zc (orc T) T u (args.map (ev st.env.get)) d st:=rfl
def cR(r:Option AV)(xs:List AV)(d:Option Nat)(st:St):Option St:=
 r.map fun r=>⟨Zo st.env d r,if scalar r then st.heap else Zh (xs.flatMap refs) st.heap,st.clk⟩
@[congr] theorem zacj{r r':Option AV}{xs:List AV}(h:r=r'):cR r xs d st=cR r' xs d st:=by rw[h]
@[simp] theorem zagu{r:AV}{xs:List AV}:cR (some r) xs d st=some ⟨Zo st.env d r,if scalar r then st.heap else Zh (xs.flatMap refs) st.heap,st.clk⟩:=rfl
def bL(o:Option (List AV))(f:List AV→Option St):Option St:=o.bind f
@[congr] theorem zack{o o':Option (List AV)}{f:List AV→Option St}(h:o=o'):bL o f=bL o' f:=by rw[h]
@[simp] theorem zagv{xs:List AV}{f:List AV→Option St}:bL (some xs) f=f xs:=rfl
def Zkf(h:Heap):List AV→Option (List AV)
 | []=>some []
 | x::l=>(Zbe h x).bind fun y=>(Zkf h l).map fun ys=>y::ys
theorem zu2(h:Heap):∀l:List AV,l.mapM (Zbe h)=Zkf h l
 | []=>rfl
 | x::l=>by simp only[Yc2,Zkf,zu2 h l,Ycj,Yde,Option.map_eq_bind,Function.comp_def]
attribute [simp] Zkf Zek Zay Zck
theorem zaa{u:Nat}{xs:List AV}{np nt:Nat}{res:List RV}{b:AX}{ex:Bool}(hT:T u=some ⟨np,nt,res,b,none,ex⟩) :
  Zc (orc T) T u xs d st=bL (Zkf st.heap xs) fun ys=>cR (Za T u (ys.map (wkIf ex))) xs d st:=by
 unfold Zc bL cR Za;rw[hT];simp only[zu2];congr 1
 funext ys
 cases (orc T).call u (ys.map (wkIf ex)) []<;>rfl
theorem zab{u:Nat}{xs:List AV}{np nt:Nat}{res:List RV}{b:AX}{ex:Bool}(hT:T u=some ⟨np,nt,res,b,none,ex⟩)(hn:xs.length=np)(hp:b.isPrim=none:=by rfl) :
  Za T u xs=Zgu res ex (evX (orc T) T 0 b ⟨Zcf xs,[],1⟩):=by
 unfold Za Zgu;rw[zko];simp only[Zdh,hT,hp];rw[if_pos ⟨hn,by simp⟩];simp only[Yal,Y8];cases evX (orc T) T 0 b ⟨Zcf xs,[],1⟩ with
 | none=>rfl
 | some r=>
  obtain⟨e,s⟩:=r;cases e<;>simp only[Yah,Zk2,Yek]<;>(cases Zdb s res<;>simp only[Option.bind_none,Yek,Yah]<;>cases frz s.heap _<;>rfl)
theorem zdc{u:Nat}{xs:List AV}{np nt:Nat}{res:List RV}{f:List AV→Option AV}{ex:Bool}(hT:T u=some ⟨np,nt,res,.prim f,none,ex⟩):Za T u xs=f xs:=by
 unfold Za;rw[zko];simp only[Zdh,hT,AX.isPrim];cases f xs<;>simp
theorem za9{u:Nat}{xs:List AV}{hb:Heap}{np nt:Nat}{res:List RV}{b:AX}{ms:List Bool}{ex:Bool}(hT:T u=some ⟨np,nt,res,b,some ms,ex⟩)(hn:xs.length=np)(hp:b.isPrim=none:=by rfl) :
  Zbz T u xs hb=Ziv res ex hb.length (evX (orc T) T hb.length b ⟨Zcf xs,hb,hb.length+1⟩):=by
 unfold Zbz Ziv;rw[zko];simp only[Zdh,hT,hp];rw[if_pos ⟨hn,by simp⟩];cases evX (orc T) T hb.length b ⟨Zcf xs,hb,hb.length+1⟩ with
 | none=>rfl
 | some r=>
  obtain⟨e,s⟩:=r;cases e<;>simp only[Yah,Zk2]<;>(cases Zdb s res<;>rfl)
def Zk4(l:List BId)(hp h1:Heap)(r:Option (AV×Heap))(d:Option Nat)(st:St):Option St:=
 r.bind fun r=>
  let hb':=r.2.map fun p=>(Zbf l (d.getD 0) p.1,Zap true (Zbf l (d.getD 0)) (Zbq hp st.clk) p.2)
  let r':=rlA (Zbf l (d.getD 0)) (Zbq hp st.clk) r.1
  if (hb'.map (·.1)).Nodup&&Zcn hb' r'&&Zg8 hb' then
   some ⟨Zo st.env d r',hb'++(h1.filter fun p=>!(l.contains p.1 || (hb'.map (·.1)).contains p.1)),st.clk+r.2.length+2⟩
  else none
@[congr] theorem z6j{l:List BId}{hp h1:Heap}{r r':Option (AV×Heap)}(h:r=r'):Zk4 l hp h1 r d st=Zk4 l hp h1 r' d st:=by rw[h]
noncomputable def Zd1(ys:List AV)(h1:Heap)(l:List BId)(T:Tbl)(u:Nat)(ex:Bool)(d:Option Nat)(st:St):Option St:=
 if (Zef h1 l).map (·.1)=l∧l.Nodup then
  Zk4 l (Zef h1 l) h1 (Zbz T u (ys.map fun y=>rlA (inN l) (inG (Zef h1 l)) (wkIf ex y)) ((Zef h1 l).map fun p=>(inN l p.1,Zap ex (inN l) (inG (Zef h1 l)) p.2))) d st
 else none
@[simp] theorem z8w{l:List BId}{hp h1:Heap}{r:AV}{h2:Heap}:Zk4 l hp h1 (some (r,h2)) d st =
  (if ((h2.map fun p=>(Zbf l (d.getD 0) p.1,Zap true (Zbf l (d.getD 0)) (Zbq hp st.clk) p.2)).map (·.1)).Nodup&&Zcn (h2.map fun p=>(Zbf l (d.getD 0) p.1,Zap true (Zbf l (d.getD 0)) (Zbq hp st.clk) p.2)) (rlA (Zbf l (d.getD 0)) (Zbq hp st.clk) r)&&Zg8 (h2.map fun p=>(Zbf l (d.getD 0) p.1,Zap true (Zbf l (d.getD 0)) (Zbq hp st.clk) p.2)) then
   some ⟨Zo st.env d (rlA (Zbf l (d.getD 0)) (Zbq hp st.clk) r),(h2.map fun p=>(Zbf l (d.getD 0) p.1,Zap true (Zbf l (d.getD 0)) (Zbq hp st.clk) p.2))++(h1.filter fun p=>!(l.contains p.1 || ((h2.map fun p=>(Zbf l (d.getD 0) p.1,Zap true (Zbf l (d.getD 0)) (Zbq hp st.clk) p.2)).map (·.1)).contains p.1)),st.clk+h2.length+2⟩
  else none):=rfl
attribute [simp] Zd1 Zbf Zbq inN inG Ze2 Zg8
theorem zaw{u:Nat}{xs:List AV}{np nt:Nat}{res:List RV}{b:AX}{ms:List Bool}{ex:Bool}(hT:T u=some ⟨np,nt,res,b,some ms,ex⟩) :
  Zc (orc T) T u xs d st=bL (Zek st.heap ms xs) fun ys=>Zd1 ys (Zh (Zay ms xs) st.heap) (Zcv (Zh (Zay ms xs) st.heap) 40 (Zck ms xs) []) T u ex d st:=by
 unfold Zc bL Zd1 Zk4 Zbz;rw[hT]
def bD(o:Option (AV×Bool))(f:AV×Bool→Option St):Option St:=o.bind f
@[congr] theorem zacl{o o':Option (AV×Bool)}{f:AV×Bool→Option St}(h:o=o'):bD o f=bD o' f:=by rw[h]
@[simp] theorem zagw{e:AV×Bool}{f:AV×Bool→Option St}:bD (some e) f=f e:=rfl
def bWr(o:Option (AV×Heap×Nat))(f:AV×Heap×Nat→Option St):Option St:=o.bind f
@[congr] theorem z8x{o o':Option (AV×Heap×Nat)}{f:AV×Heap×Nat→Option St}(h:o=o'):bWr o f=bWr o' f:=by rw[h]
@[simp] theorem zacm{q:AV×Heap×Nat}{f:AV×Heap×Nat→Option St}:bWr (some q) f=f q:=rfl
def iP(b:Bool)(x:Option St):Option St:=if b then x else none
@[congr] theorem zacn{b b':Bool}{x:Option St}(h:b=b'):iP b x=iP b' x:=by rw[h]
@[simp] theorem zagx{x:Option St}:iP true x=x:=rfl
@[simp] theorem z6k{h:Heap}:Zc2 [] h=true:=by
 classical
 unfold Zc2;exact decide_eq_true fun p hp=>by cases hp
@[simp] theorem z2p{q:AOp×Env×AV}{l:Zco}{h:Heap}:Zc2 ((0,q)::l) h=Zc2 l h:=by
 classical
 unfold Zc2;refine decide_eq_decide.2 ⟨fun h1 p hp=>h1 p (Ys _ hp),fun h1 p hp h0=>?_⟩;rcases Y2.1 hp with rfl | hp
 ·cases h0
 ·exact h1 p hp h0
@[simp] theorem zhw{n:Nat}{op:AOp}{e:Env}{x:AV}{l:Zco}{h:Heap}(hs:Zhd op e.get h=some x):Zc2 ((n,op,e,x)::l) h=Zc2 l h:=by
 classical
 unfold Zc2;refine decide_eq_decide.2 ⟨fun h1 p hp=>h1 p (Ys _ hp),fun h1 p hp h0=>?_⟩;rcases Y2.1 hp with rfl | hp
 ·exact hs
 ·exact h1 p hp h0
theorem zrx{op:AOp}{e:Env}{older:List Heap}{x:AV}(hf:op.free=true):Zeo op e older x=true:=by unfold Zeo;rw[hf];rfl
theorem zu3{op:AOp}{e:Env}{x:AV}:Zeo op e [] x=true:=by
 classical
 unfold Zeo;rw[Ya1];exact .inr (decide_eq_true fun h' hh=>by cases hh)
theorem zry{op:AOp}{e:Env}{h:Heap}{older:List Heap}{x:AV}(h1:Zi op e.get h=some x):Zeo op e (h::older) x=Zeo op e older x:=by
 classical
 unfold Zeo;congr 1;refine decide_eq_decide.2 ?_;simp only[Y2,forall_eq_or_imp,h1,true_and]
noncomputable def rD(T:Tbl)(q:Option (Nat×List AV))(o:DO)(r:List DO)(e:Env)(h:Heap)(clk:Nat)(older:List Heap)(pend:Zco):Option St:=
 match q with
 | none=>bD (qX (orc T) T o.ao e h (older.take (older.length-o.lo))) fun x=>Zcg (orc T) T r (Zo e o.ao.dst x.1) h clk older (Zfa o older.length e x pend)
 | some p=>(Ze3 (orc T) T p.1 p.2).bind fun x=>Zcg (orc T) T r (Zo e o.ao.dst x) h clk older (if older.length<o.hi then (o.hi-older.length,o.ao.op,e,.tup p.2)::pend else pend)
@[congr] theorem zaco{q q':Option (Nat×List AV)}{o:DO}{r:List DO}{e:Env}{h:Heap}{clk:Nat}{older:List Heap}{pend:Zco}(h1:q=q'):rD T q o r e h clk older pend=rD T q' o r e h clk older pend:=by rw[h1]
@[simp] theorem zagy{o:DO}{r:List DO}{e:Env}{h:Heap}{clk:Nat}{older:List Heap}{pend:Zco}:rD T none o r e h clk older pend=bD (qX (orc T) T o.ao e h (older.take (older.length-o.lo))) fun x=>Zcg (orc T) T r (Zo e o.ao.dst x.1) h clk older (Zfa o older.length e x pend):=rfl
noncomputable def bAV(o:Option AV)(f:AV→Option St):Option St:=o.bind f
@[congr] theorem z8y{o o':Option AV}{f:AV→Option St}(h:o=o'):bAV o f=bAV o' f:=by rw[h]
@[simp] theorem zacp{x:AV}{f:AV→Option St}:bAV (some x) f=f x:=rfl
@[simp] theorem zagz{u:Nat}{ys:List AV}{o:DO}{r:List DO}{e:Env}{h:Heap}{clk:Nat}{older:List Heap}{pend:Zco}:rD T (some (u,ys)) o r e h clk older pend=bAV (Ze3 (orc T) T u ys) fun x=>Zcg (orc T) T r (Zo e o.ao.dst x) h clk older (if older.length<o.hi then (o.hi-older.length,o.ao.op,e,.tup ys)::pend else pend):=rfl
theorem zyv{u:Nat}{ys:List AV}{np nt:Nat}{res:List RV}{b:AX}{ex:Bool}(hT:T u=some ⟨np,nt,res,b,none,ex⟩):Ze3 (orc T) T u ys=Za T u (ys.map (wkIf ex)):=by
 unfold Ze3 Za;rw[hT]
 rfl
open Classical in
noncomputable def rK(u:Nat)(xs ys:List AV)(older:List Heap):Option (Nat×List AV):=if decide (∀h'∈older,Zcj h' xs=some ys)=true then some (u,ys) else none
@[simp] theorem zakm{u:Nat}{xs ys:List AV}:rK u xs ys []=some (u,ys):=by
 classical
 unfold rK;rw[if_pos (decide_eq_true fun h' hh=>by cases hh)]
@[simp] theorem zag0{g:Option (Nat×Bool)}{e:Env}{h:Heap}{older:List Heap}:Zhc g none e h older=none:=by cases g<;>rfl
@[simp] theorem zag1{g:Nat×Bool}{c:Option (Nat×List Opd)}{e:Env}{h:Heap}{older:List Heap}:Zhc (some g) c e h older=none:=by cases c<;>rfl
noncomputable def rC(c:Bool)(u:Nat)(xs:List AV)(h:Heap)(older:List Heap):Option (Nat×List AV):=
 match c with
 | true=>none
 | false=>(Zcj h xs).bind fun ys=>rK u xs ys older
@[congr] theorem zacq{c c':Bool}{u:Nat}{xs:List AV}{h:Heap}{older:List Heap}(h1:c=c'):rC c u xs h older=rC c' u xs h older:=by rw[h1]
@[simp] theorem zag2{u:Nat}{xs:List AV}{h:Heap}{older:List Heap}:rC true u xs h older=none:=rfl
@[simp] theorem zacr{u:Nat}{xs:List AV}{h:Heap}{older:List Heap}:rC false u xs h older=(Zcj h xs).bind fun ys=>rK u xs ys older:=rfl
@[simp] theorem z8z{q:Nat×List Opd}{e:Env}{h:Heap}{older:List Heap}:Zhc none (some q) e h older=rC ((q.2.map (ev e.get)).all noRef) q.1 (q.2.map (ev e.get)) h older:=by
 classical
 unfold Zhc Zk0 rC;cases hc:(q.2.map (ev e.get)).all noRef with
 | true=>simp only[hc,if_true,Yek]
 | false=>
  simp only[hc,Yai,if_false];cases Zcj h (q.2.map (ev e.get)) with
  | none=>rfl
  | some ys=>
   simp only[Yah,rK];split<;>rfl
noncomputable def dX(T:Tbl)(wr:Bool)(o:DO)(r:List DO)(e:Env)(h:Heap)(clk:Nat)(older:List Heap)(pend:Zco):Option St:=
 match wr with
 | true=>if o.ao.guard.isNone then bWr (stepW o.ao.op o.ao.dst e.get h clk) fun q=>iP (Zc2 pend q.2.1) (Zcg (orc T) T r (Zo e o.ao.dst q.1) q.2.1 q.2.2 (h::older) (pend.map fun p=>(p.1-1,p.2))) else none
 | false=>rD T (Zhc o.ao.guard o.ao.op.callN e h (older.take (older.length-o.lo))) o r e h clk older pend
@[congr] theorem z2q{l:List DO}{e e':Env}{h h':Heap}{clk clk':Nat}{older older':List Heap}{pend pend':Zco}(h1:e=e')(h2:h=h')(h3:clk=clk')(h4:older=older')(h5:pend=pend'):Zcg (orc T) T l e h clk older pend=Zcg (orc T) T l e' h' clk' older' pend':=by rw[h1,h2,h3,h4,h5]
@[simp] theorem z80{e:Env}{h:Heap}{clk:Nat}{older:List Heap}{pend:Zco}:Zcg (orc T) T [] e h clk older pend=some ⟨e,h,clk⟩:=rfl
@[simp] theorem z6l{o:DO}{r:List DO}{e:Env}{h:Heap}{clk:Nat}{older:List Heap}{pend:Zco}:Zcg (orc T) T (o::r) e h clk older pend=dX T o.ao.op.writes o r e h clk older pend:=by
 unfold dX;rw[Zcg];cases o.ao.op.writes with
 | true=>rfl
 | false=>
  unfold rD;simp only;cases Zhc o.ao.guard o.ao.op.callN e h (older.take (older.length-o.lo))<;>rfl
@[simp] theorem zag3{o:DO}{r:List DO}{e:Env}{h:Heap}{clk:Nat}{older:List Heap}{pend:Zco}:dX T true o r e h clk older pend=if o.ao.guard.isNone then bWr (stepW o.ao.op o.ao.dst e.get h clk) fun q=>iP (Zc2 pend q.2.1) (Zcg (orc T) T r (Zo e o.ao.dst q.1) q.2.1 q.2.2 (h::older) (pend.map fun p=>(p.1-1,p.2))) else none:=rfl
@[simp] theorem zacs{o:DO}{r:List DO}{e:Env}{h:Heap}{clk:Nat}{older:List Heap}{pend:Zco}:dX T false o r e h clk older pend=rD T (Zhc o.ao.guard o.ao.op.callN e h (older.take (older.length-o.lo))) o r e h clk older pend:=rfl
def dV(o:Option AV):Option (AV×Bool):=o.map fun x=>(x,true)
@[simp] theorem zag4{x:AV}:dV (some x)=some (x,true):=rfl
@[simp] theorem zag5:dV none=none:=rfl
@[simp] theorem zag6{op:AOp}{e:Env}{h:Heap}{older:List Heap}:qX (orc T) T ⟨d,none,op⟩ e h older=dV (opD (orc T) T op e h older):=rfl
noncomputable def gD(T:Tbl)(x:AV)(want:Bool)(op:AOp)(e:Env)(h:Heap)(older:List Heap):Option (AV×Bool):=
 match x with
 | .b v=>if v=want then dV (opD (orc T) T op e h older) else some (.tup [],false)
 | .tup []=>some (.tup [],false)
 | _=>none
@[congr] theorem zact{x x':AV}{want:Bool}{op:AOp}{e:Env}{h:Heap}{older:List Heap}(h1:x=x'):gD T x want op e h older=gD T x' want op e h older:=by rw[h1]
@[simp] theorem zag7{t:Nat}{want:Bool}{op:AOp}{e:Env}{h:Heap}{older:List Heap}:qX (orc T) T ⟨d,some (t,want),op⟩ e h older=gD T (e.get t) want op e h older:=rfl
@[simp] theorem gD_b{v want:Bool}{op:AOp}{e:Env}{h:Heap}{older:List Heap}:gD T (.b v) want op e h older=if v=want then dV (opD (orc T) T op e h older) else some (.tup [],false):=rfl
@[simp] theorem zakn{want:Bool}{op:AOp}{e:Env}{h:Heap}{older:List Heap}:gD T (.tup []) want op e h older=some (.tup [],false):=rfl
noncomputable def dC(o:Option AV)(op:AOp)(older:List Heap)(e:Env):Option AV:=o.bind fun x=>if Zeo op e older x then some x else none
@[congr] theorem zacu{o o':Option AV}{op:AOp}{older:List Heap}{e:Env}(h1:o=o'):dC o op older e=dC o' op older e:=by rw[h1]
@[simp] theorem zako{x:AV}{op:AOp}{e:Env}:dC (some x) op [] e=some x:=by
 unfold dC;rw[Yah,zu3]
 rfl
theorem z2r{x:AV}{op:AOp}{h:Heap}{older:List Heap}{e:Env}(h1:Zi op e.get h=some x):dC (some x) op (h::older) e=dC (some x) op older e:=by
 unfold dC;rw[Yah,Yah,zry h1]
theorem zbq{op:AOp}{h:Heap}{older:List Heap}{e:Env}(hf:op.free=true):((Zi op e.get h).bind fun x=>if Zeo op e older x then some x else none)=Zi op e.get h:=by
 cases Zi op e.get h with
 | none=>rfl
 | some x=>rw[Yah,zrx hf];rfl
@[simp] theorem zamh{x}{e:Env}{h:Heap}{older:List Heap}:opD (orc T) T (.mov x) e h older=some (ev e.get x):=zbq (op:=.mov x) (h:=h) (older:=older) (e:=e) rfl
@[simp] theorem zami{z y}{e:Env}{h:Heap}{older:List Heap}:opD (orc T) T (.app z (.c (.sl [] .nl)) y) e h older=Zgn z (ev e.get y):=rfl
@[simp] theorem zacv{z:Nat}{els:List (List AV)}{f:Fl}:Zgn z (.sl els f)=if (els.head?.all fun r=>r.length=z)∧els.length≤4294967296 then some (.sl els .an) else none:=rfl
@[simp] theorem z03{z n y}:(AOp.app z (.t n) y).writes=true:=rfl
@[simp] theorem z6m{z n y}:(AOp.app z (.t n) y).free=false:=rfl
@[simp] theorem z2s{z n y}:(AOp.app z (.t n) y).maker=true:=rfl
@[simp] theorem z6n{z y}:(AOp.app z (.c (.sl [] .nl)) y).writes=false:=rfl
@[simp] theorem zacw{z y}:(AOp.app z (.c (.sl [] .nl)) y).free=true:=rfl
@[simp] theorem z81{z y}:(AOp.app z (.c (.sl [] .nl)) y).maker=false:=rfl
@[simp] theorem zakp{c a b}{e:Env}{h:Heap}{older:List Heap}:opD (orc T) T (.pick c a b) e h older=Zgz (ev e.get c) (ev e.get a) (ev e.get b):=zbq (op:=.pick c a b) (h:=h) (older:=older) (e:=e) rfl
@[simp] theorem zag8{zs ps}{e:Env}{h:Heap}{older:List Heap}:opD (orc T) T (.build zs ps) e h older=(Zgl zs (ps.map fun p=>(p.1,p.2.1,ev e.get p.2.2))).map .agg:=zbq (op:=.build zs ps) (h:=h) (older:=older) (e:=e) rfl
@[simp] theorem zamj{o x y}{e:Env}{h:Heap}{older:List Heap}:opD (orc T) T (.bin o x y) e h older=Zad o (ev e.get x) (ev e.get y):=zbq (op:=.bin o x y) (h:=h) (older:=older) (e:=e) rfl
@[simp] theorem zamk{g ls x y}{e:Env}{h:Heap}{older:List Heap}:opD (orc T) T (.eqs g ls x y) e h older=Zh0 g ls (ev e.get x) (ev e.get y):=zbq (op:=.eqs g ls x y) (h:=h) (older:=older) (e:=e) rfl
@[simp] theorem zag9{g x}{e:Env}{h:Heap}{older:List Heap}:opD (orc T) T (.eqnil g x) e h older=Ze7 g (ev e.get x):=zbq (op:=.eqnil g x) (h:=h) (older:=older) (e:=e) rfl
@[simp] theorem zaml{g x y}{e:Env}{h:Heap}{older:List Heap}:opD (orc T) T (.eqb g x y) e h older=Zh1 g (ev e.get x) (ev e.get y):=zbq (op:=.eqb g x y) (h:=h) (older:=older) (e:=e) rfl
@[simp] theorem D_un{o x}{e:Env}{h:Heap}{older:List Heap}:opD (orc T) T (.un o x) e h older=Zg0 o (ev e.get x):=zbq (op:=.un o x) (h:=h) (older:=older) (e:=e) rfl
@[simp] theorem zakq{k x}{e:Env}{h:Heap}{older:List Heap}:opD (orc T) T (.conv k x) e h older=Zca k (ev e.get x):=zbq (op:=.conv k x) (h:=h) (older:=older) (e:=e) rfl
@[simp] theorem zaha{x lo hi}{e:Env}{h:Heap}{older:List Heap}:opD (orc T) T (.slstr x lo hi) e h older=Ze8 (ev e.get x) (evO e.get lo) (evO e.get hi):=zbq (op:=.slstr x lo hi) (h:=h) (older:=older) (e:=e) rfl
@[simp] theorem zamm{o n x}{e:Env}{h:Heap}{older:List Heap}:opD (orc T) T (.fld o n x) e h older=Zh2 o n (ev e.get x):=zbq (op:=.fld o n x) (h:=h) (older:=older) (e:=e) rfl
@[simp] theorem zamn{x i}{e:Env}{h:Heap}{older:List Heap}:opD (orc T) T (.ixs x i) e h older=Zh3 (ev e.get x) (ev e.get i):=zbq (op:=.ixs x i) (h:=h) (older:=older) (e:=e) rfl
@[simp] theorem zamo{z l n x i}{e:Env}{h:Heap}{older:List Heap}:opD (orc T) T (.ixa z l n x i) e h older=Zfv z l n (ev e.get x) (ev e.get i):=zbq (op:=.ixa z l n x i) (h:=h) (older:=older) (e:=e) rfl
@[simp] theorem zakr{x}{e:Env}{h:Heap}{older:List Heap}:opD (orc T) T (.lens x) e h older=Zf6 (ev e.get x):=zbq (op:=.lens x) (h:=h) (older:=older) (e:=e) rfl
@[simp] theorem zaks{n}{e:Env}{h:Heap}{older:List Heap}:opD (orc T) T (.lenc n) e h older=some (.i .i64 n):=zbq (op:=.lenc n) (h:=h) (older:=older) (e:=e) rfl
@[simp] theorem D_mm{m xs}{e:Env}{h:Heap}{older:List Heap}:opD (orc T) T (.mm m xs) e h older=Zkp m (xs.map (ev e.get)):=zbq (op:=.mm m xs) (h:=h) (older:=older) (e:=e) rfl
@[simp] theorem zamp{x n}{e:Env}{h:Heap}{older:List Heap}:opD (orc T) T (.ext x n) e h older=Zh4 n (ev e.get x):=zbq (op:=.ext x n) (h:=h) (older:=older) (e:=e) rfl
@[simp] theorem zakt{n x}{e:Env}{h:Heap}{older:List Heap}:opD (orc T) T (.load n x) e h older=dC (Zfk n h (ev e.get x)) (.load n x) older e:=rfl
@[simp] theorem zamq{z x lo hi mx}{e:Env}{h:Heap}{older:List Heap}:opD (orc T) T (.slc z x lo hi mx) e h older=dC (Zgm z h (ev e.get x) (evO e.get lo) (evO e.get hi) (evO e.get mx)) (.slc z x lo hi mx) older e:=rfl
@[simp] theorem zamr{o x}{e:Env}{h:Heap}{older:List Heap}:opD (orc T) T (.fad o x) e h older=dC (Zg1 o h (ev e.get x)) (.fad o x) older e:=rfl
@[simp] theorem zams{z x i}{e:Env}{h:Heap}{older:List Heap}:opD (orc T) T (.iad z x i) e h older=dC (Zg2 z h (ev e.get x) (ev e.get i)) (.iad z x i) older e:=rfl
@[simp] theorem zamt{z n x i}{e:Env}{h:Heap}{older:List Heap}:opD (orc T) T (.iaa z n x i) e h older=dC (Zg3 z n h (ev e.get x) (ev e.get i)) (.iaa z n x i) older e:=rfl
@[simp] theorem zamu{x}{e:Env}{h:Heap}{older:List Heap}:opD (orc T) T (.len x) e h older=dC (Zg4 h (ev e.get x)) (.len x) older e:=rfl
@[simp] theorem zaku{x}{e:Env}{h:Heap}{older:List Heap}:opD (orc T) T (.nilc x) e h older=dC (Zfl h (ev e.get x)) (.nilc x) older e:=rfl
def dR(r:Option AV)(xs:List AV):Option AV:=if xs.all noRef then r else none
@[congr] theorem zacx{r r':Option AV}{xs:List AV}(h1:r=r'):dR r xs=dR r' xs:=by rw[h1]
@[simp] theorem zahb{r:AV}{xs:List AV}:dR (some r) xs=if xs.all noRef then some r else none:=rfl
theorem zaj{u:Nat}{args:List Opd}{np nt:Nat}{res:List RV}{b:AX}{ex:Bool}{e:Env}{h:Heap}{older:List Heap}(hT:T u=some ⟨np,nt,res,b,none,ex⟩) :
  opD (orc T) T (.call u args) e h older=dR (Za T u ((args.map (ev e.get)).map (wkIf ex))) (args.map (ev e.get)):=by
 unfold dR Za;simp only[opD,hT,Option.isNone_none,Yck]
@[simp] theorem zamv{z zs n ps}{e:Env}{h:Heap}{older:List Heap}:opD (orc T) T (.bsl z zs n ps) e h older=if (ps.map fun p=>(p.1,ev e.get p.2)).all (fun p=>noRef p.2) then (Zec z zs n [] (ps.map fun p=>(p.1,ev e.get p.2))).map (·.1) else none:=rfl
@[congr] theorem z2t{tl l:List AO}{e e':Env}{h h':Heap}{clk clk':Nat}(h1:e=e')(h2:h=h')(h3:clk=clk'):Zeg (orc T) T tl l e h clk=Zeg (orc T) T tl l e' h' clk':=by rw[h1,h2,h3]
@[simp] theorem z82{tl:List AO}{e:Env}{h:Heap}{clk:Nat}:Zeg (orc T) T tl [] e h clk=Zev (orc T) T tl ⟨e,h,clk⟩:=rfl
@[simp] theorem z6o{tl r:List AO}{o:AO}{e:Env}{h:Heap}{clk:Nat}:Zeg (orc T) T tl (o::r) e h clk=bD (qX (orc T) T o e h []) fun x=>Zeg (orc T) T tl r (Zo e o.dst x.1) h clk:=rfl
@[simp] theorem z83{tl:List AO}{h0:Heap}{c0:Nat}{X:Heap}{e:Env}{h:Heap}{clk:Nat}:Zbp (orc T) T tl h0 c0 X [] e h clk=Zev (orc T) T tl ⟨e,h,clk⟩:=rfl
noncomputable def kM(T:Tbl)(tl:List AO)(h0:Heap)(c0:Nat)(X:Heap)(op:AOp)(d:Nat)(r:List AO)(e:Env)(h:Heap)(q:Option (AV×Heap×Nat)):Option St:=
 q.bind fun q=>if ((h.lookup (.loc d)).isNone&&Zit c0 op e q.2.1)=true then Zbp (orc T) T tl h0 c0 X r (Zo e (some d) q.1) (q.2.1++h) q.2.2 else none
@[simp] theorem zahc{tl:List AO}{h0:Heap}{c0:Nat}{X:Heap}{op:AOp}{d:Nat}{r:List AO}{e:Env}{h:Heap}{q:AV×Heap×Nat}:kM T tl h0 c0 X op d r e h (some q)=if ((h.lookup (.loc d)).isNone&&Zit c0 op e q.2.1)=true then Zbp (orc T) T tl h0 c0 X r (Zo e (some d) q.1) (q.2.1++h) q.2.2 else none:=rfl
noncomputable def kN(T:Tbl)(tl:List AO)(h0:Heap)(c0:Nat)(X:Heap)(op:AOp)(d:Nat)(r:List AO)(e:Env)(h:Heap)(q:Option (AV×Heap×Nat)):Option St:=
 q.bind fun q=>if Zit c0 op e (q.2.1.take 1)=true then Zbp (orc T) T tl h0 c0 X r (Zo e (some d) q.1) (q.2.1.take 1++h) q.2.2 else none
@[simp] theorem zahd{tl:List AO}{h0:Heap}{c0:Nat}{X:Heap}{op:AOp}{d:Nat}{r:List AO}{e:Env}{h:Heap}{q:AV×Heap×Nat}:kN T tl h0 c0 X op d r e h (some q)=if Zit c0 op e (q.2.1.take 1)=true then Zbp (orc T) T tl h0 c0 X r (Zo e (some d) q.1) (q.2.1.take 1++h) q.2.2 else none:=rfl
noncomputable def uX(T:Tbl)(w:Option (BId×Box))(tl:List AO)(h0:Heap)(c0:Nat)(X:Heap)(op:AOp)(d:Nat)(r:List AO)(e:Env)(h:Heap)(clk:Nat):Option St:=
 match w with
 | none=>kM T tl h0 c0 X op d r e h (stepW op (some d) e.get [] clk)
 | some p=>kN T tl h0 c0 X op d r e h (stepW op (some d) e.get [p] clk)
@[simp] theorem zahe{tl:List AO}{h0:Heap}{c0:Nat}{X:Heap}{op:AOp}{d:Nat}{r:List AO}{e:Env}{h:Heap}{clk:Nat}:uX T none tl h0 c0 X op d r e h clk=kM T tl h0 c0 X op d r e h (stepW op (some d) e.get [] clk):=rfl
@[simp] theorem zahf{tl:List AO}{h0:Heap}{c0:Nat}{X:Heap}{op:AOp}{d:Nat}{r:List AO}{e:Env}{h:Heap}{clk:Nat}{p:BId×Box}:uX T (some p) tl h0 c0 X op d r e h clk=kN T tl h0 c0 X op d r e h (stepW op (some d) e.get [p] clk):=rfl
@[simp] theorem z6p{c0:Nat}{h0 X h:Heap}{zs:List AV}{e:Env}:Ziu c0 h0 X h (.alloc zs) e=none:=rfl
@[simp] theorem zacy{c0:Nat}{h0 X h:Heap}{z:Nat}{zs:List AV}{l c:Opd}{e:Env}:Ziu c0 h0 X h (.mks z zs l c) e=none:=rfl
@[simp] theorem zacz{c0:Nat}{h0 X h:Heap}{k:XOp}{xs:List Opd}{e:Env}:Ziu c0 h0 X h (.xop k xs) e=none:=rfl
@[simp] theorem zac0{c0:Nat}{h0 X h:Heap}{z:Nat}{x y:Opd}{e:Env}:Ziu c0 h0 X h (.app z x y) e=Zke c0 h0 X h (ev e.get x):=rfl
@[simp] theorem zahg{c0:Nat}{h0 X h:Heap}{l:List (List AV)}{f:Fl}:Zke c0 h0 X h (.sl l f)=none:=rfl
@[simp] theorem zahh{c0:Nat}{h0 X h:Heap}{b:BId}{g z o n:Nat}:Zke c0 h0 X h (.bs b g z o n)=Zk1 c0 (h0.lookup b) (X.lookup b) b (h.lookup b):=rfl
@[simp] theorem z84{c0:Nat}{b:BId}{x o:Box}:Zk1 c0 none (some x) b (some o)=if o.gen<c0 then some (b,o) else none:=rfl
attribute [simp] Zm1
@[simp] theorem z85{e:Env}:Ze4 [] e=[]:=rfl
@[simp] theorem z6q{o:AO}{r:List AO}{e:Env}:Ze4 (o::r) e=match o.op with | .mov x=>Ze4 r (Zo e o.dst (ev e.get x)) | .app _ x _=>Zm1 (ev e.get x)++Ze4 r (Zo e o.dst .dead) | _=>Ze4 r (Zo e o.dst .dead):=rfl
@[simp] theorem z2u{h:Heap}:Zfb [] h=h:=rfl
@[simp] theorem z04{b:BId}{ids:List BId}{h:Heap}:Zfb (b::ids) h=h.filter fun p=>!(b::ids).contains p.1:=rfl
noncomputable def kB(T:Tbl)(tl:List AO)(h0:Heap)(c0:Nat)(X:Heap)(d:Nat)(r:List AO)(e:Env)(h:Heap)(q:Option (AV×Heap×Nat)):Option St:=
 q.bind fun q=>if q.2.1.all (fun p=>(h.lookup p.1).isNone)=true then Zbp (orc T) T tl h0 c0 X r (Zo e (some d) q.1) (q.2.1++h) q.2.2 else none
@[simp] theorem zahi{tl:List AO}{h0:Heap}{c0:Nat}{X:Heap}{d:Nat}{r:List AO}{e:Env}{h:Heap}{q:AV×Heap×Nat}:kB T tl h0 c0 X d r e h (some q)=if q.2.1.all (fun p=>(h.lookup p.1).isNone)=true then Zbp (orc T) T tl h0 c0 X r (Zo e (some d) q.1) (q.2.1++h) q.2.2 else none:=rfl
noncomputable def lX(T:Tbl)(b:Option (Nat×List Opd))(tl:List AO)(h0:Heap)(c0:Nat)(X:Heap)(o:AO)(r:List AO)(e:Env)(h:Heap)(clk:Nat):Option St:=
 match b with
 | some ua=>
  match o.guard,o.dst with
  | none,some d=>kB T tl h0 c0 X d r e h (Zfh (orc T) T ua.1 (ua.2.map (ev e.get)) d clk)
  | _,_=>none
 | none=>bD (qX (orc T) T o e h0 []) fun x=>if Zh9 c0 o.op e (gnA x.1)=true then Zbp (orc T) T tl h0 c0 X r (Zo e o.dst x.1) h clk else none
@[simp] theorem zahj{tl r:List AO}{h0:Heap}{c0:Nat}{X:Heap}{op:AOp}{dd u:Nat}{args:List Opd}{e:Env}{h:Heap}{clk:Nat}:lX T (some (u,args)) tl h0 c0 X ⟨some dd,none,op⟩ r e h clk=kB T tl h0 c0 X dd r e h (Zfh (orc T) T u (args.map (ev e.get)) dd clk):=rfl
@[simp] theorem zahk{tl r:List AO}{h0:Heap}{c0:Nat}{X:Heap}{o:AO}{e:Env}{h:Heap}{clk:Nat}:lX T none tl h0 c0 X o r e h clk=bD (qX (orc T) T o e h0 []) fun x=>if Zh9 c0 o.op e (gnA x.1)=true then Zbp (orc T) T tl h0 c0 X r (Zo e o.dst x.1) h clk else none:=rfl
noncomputable def tX(T:Tbl)(tl:List AO)(h0:Heap)(c0:Nat)(X:Heap)(r:List AO)(b:Bool)(e:Env)(q:Option Heap)(clk:Nat):Option St:=
 q.bind fun h=>if b=true then Zbp (orc T) T tl h0 c0 X r e h clk else none
@[simp] theorem zahl{tl:List AO}{h0:Heap}{c0:Nat}{X:Heap}{r:List AO}{e:Env}{h:Heap}{clk:Nat}:tX T tl h0 c0 X r true e (some h) clk=Zbp (orc T) T tl h0 c0 X r e h clk:=rfl
noncomputable def sX(T:Tbl)(b:Bool)(tl:List AO)(h0:Heap)(c0:Nat)(X:Heap)(o:AO)(r:List AO)(e:Env)(h:Heap)(clk:Nat):Option St:=
 match b with
 | true=>
  match o.guard,o.dst with
  | none,none=>(stepW o.op none e.get h clk).bind fun q=>if Zgc X o.op e=true then Zbp (orc T) T tl h0 c0 X r e q.2.1 q.2.2 else none
  | _,_=>none
 | false=>lX T o.op.lentN tl h0 c0 X o r e h clk
@[simp] theorem zahm{tl r:List AO}{h0:Heap}{c0:Nat}{X:Heap}{n:Nat}{x v:Opd}{e:Env}{h:Heap}{clk:Nat}:sX T true tl h0 c0 X ⟨none,none,.store n x v⟩ r e h clk=tX T tl h0 c0 X r (Zgc X (.store n x v) e) e (Zda n h (ev e.get x) (ev e.get v)) clk:=by
 unfold sX tX;simp only[stepW];cases Zda n h (ev e.get x) (ev e.get v)<;>rfl
@[simp] theorem zac1{tl r:List AO}{h0:Heap}{c0:Nat}{X:Heap}{o:AO}{e:Env}{h:Heap}{clk:Nat}:sX T false tl h0 c0 X o r e h clk=lX T o.op.lentN tl h0 c0 X o r e h clk:=rfl
noncomputable def Zm2(r:Option (AV×Heap))(d clk:Nat):Option (AV×Heap×Nat):=
 r.bind fun r=>
  let hb':=r.2.map fun p=>(Zbf [] d p.1,Zap true (Zbf [] d) (Zbq [] clk) p.2)
  let r':=rlA (Zbf [] d) (Zbq [] clk) r.1
  if (hb'.map (·.1)).Nodup∧geB clk (gnA r')=true∧geH clk hb'=true then some (r',hb',clk+(r.2.length+2)) else none
@[simp] theorem z2v{r:AV×Heap}{dd clk:Nat}:Zm2 (some r) dd clk=if ((r.2.map fun p=>(Zbf [] dd p.1,Zap true (Zbf [] dd) (Zbq [] clk) p.2)).map (·.1)).Nodup∧geB clk (gnA (rlA (Zbf [] dd) (Zbq [] clk) r.1))=true∧geH clk (r.2.map fun p=>(Zbf [] dd p.1,Zap true (Zbf [] dd) (Zbq [] clk) p.2))=true then some (rlA (Zbf [] dd) (Zbq [] clk) r.1,r.2.map fun p=>(Zbf [] dd p.1,Zap true (Zbf [] dd) (Zbq [] clk) p.2),clk+(r.2.length+2)) else none:=rfl
noncomputable def mX(T:Tbl)(b:Bool)(tl:List AO)(h0:Heap)(c0:Nat)(X:Heap)(o:AO)(r:List AO)(e:Env)(h:Heap)(clk:Nat):Option St:=
 match b with
 | true=>
  match o.guard,o.dst with
  | none,some d=>uX T (Ziu c0 h0 X h o.op e) tl h0 c0 X o.op d r e h clk
  | _,_=>none
 | false=>sX T o.op.isStore tl h0 c0 X o r e h clk
@[simp] theorem z6r{tl r:List AO}{h0:Heap}{c0:Nat}{X:Heap}{o:AO}{e:Env}{h:Heap}{clk:Nat}:Zbp (orc T) T tl h0 c0 X (o::r) e h clk=mX T (AOp.maker o.op) tl h0 c0 X o r e h clk:=by
 unfold mX;simp only[Zbp];cases AOp.maker o.op with
 | false=>
  unfold sX;simp only;cases AOp.isStore o.op with
  | true=>
   obtain⟨dd,g,op⟩:=o;cases g<;>cases dd<;>rfl
  | false=>
   unfold lX;simp only;cases AOp.lentN o.op with
   | none=>rfl
   | some ua=>
    obtain⟨dd,g,op⟩:=o;cases g<;>cases dd<;>rfl
 | true=>
  obtain⟨dd,g,op⟩:=o;cases g<;>cases dd<;>rfl
@[simp] theorem zahn{tl r:List AO}{h0:Heap}{c0:Nat}{X:Heap}{op:AOp}{dd:Nat}{e:Env}{h:Heap}{clk:Nat}:mX T true tl h0 c0 X ⟨some dd,none,op⟩ r e h clk=uX T (Ziu c0 h0 X h op e) tl h0 c0 X op dd r e h clk:=rfl
@[simp] theorem zac2{tl r:List AO}{h0:Heap}{c0:Nat}{X:Heap}{o:AO}{e:Env}{h:Heap}{clk:Nat}:mX T false tl h0 c0 X o r e h clk=sX T o.op.isStore tl h0 c0 X o r e h clk:=rfl
@[simp] theorem zaho{hd tl:List AO}:evX (orc T) T k (.drawM hd tl) st=stX (Zbp (orc T) T tl (Zfb (Ze4 hd st.env) st.heap) st.clk st.heap hd st.env st.heap st.clk):=rfl
@[simp] theorem zamw{n x}:opX (orc T) T (.ifc n x) d st=some ⟨Zo st.env d (.ifc (Zu T n) (ev st.env.get x)),st.heap,st.clk⟩:=rfl
noncomputable def iS(T:Tbl)(x:AV)(nm:String)(n u:Nat)(args:List AV)(d:Option Nat)(st:St):Option St:=
 match x with
 | .ifc t y=>if t=Zu T n∧(nm,u)∈Zcp T n then Zc (orc T) T u (y::args) d st else none
 | .fnv f x=>if nm="()"∧f=Zu T n∧Zhu T n=some u then Zc (orc T) T u (x::args) d st else none
 | .fnp f id g z i o=>if nm="()"∧f=Zu T n∧Zhu T n=some u then Zc (orc T) T u (args++[.ptr id g z i o]) d st else none
 | _=>none
@[simp] theorem zamx{nm n u r args}:opX (orc T) T (.inv nm n u r args) d st=iS T (ev st.env.get r) nm n u (args.map (ev st.env.get)) d st:=by
 simp only[opX];cases ev st.env.get r<;>rfl
@[simp] theorem zamy{n x}{e:Env}{h:Heap}{older:List Heap}:opD (orc T) T (.ifc n x) e h older=some (.ifc (Zu T n) (ev e.get x)):=rfl
noncomputable def dI(T:Tbl)(u:Nat)(xs:List AV):Option AV:=
 match T u with
 | none=>none
 | some af=>if (af.lent.isNone&&xs.all noRef)=true then ((orc T).call u (xs.map (wkIf af.exact)) []).map (·.1) else none
noncomputable def iD(T:Tbl)(x:AV)(nm:String)(n u:Nat)(args:List AV):Option AV:=
 match x with
 | .ifc t y=>if t=Zu T n∧(nm,u)∈Zcp T n then dI T u (drp1 y::args) else none
 | _=>none
@[simp] theorem zamz{nm n u r args}{e:Env}{h:Heap}{older:List Heap}:opD (orc T) T (.inv nm n u r args) e h older=iD T (ev e.get r) nm n u (args.map (ev e.get)):=by
 simp only[opD];cases ev e.get r<;>rfl
@[simp] theorem zahp{hd tl:List AO}:evX (orc T) T k (.drawT hd tl) st=stX (Zeg (orc T) T tl hd st.env st.heap st.clk):=rfl
attribute [simp] Zfa Zbl Zj3 Zj4 Zju Ziq Zir ghS Zdg Zcv Zl4 Zef Zc1 Zcw kids Zap
attribute [simp] gnA gnR Zh9 Zit Zf9 Zel AOp.maker drp1 drpC AOp.lentN AOp.isStore Zgc geB geH
attribute [simp] AOp.writes AOp.free Zgm Zfd Zff Zda Ze9 Zgo
attribute [simp] AOp.callN Zhd Zcj Zip shR
end
end
section
open Go.RowKit
def Zgr(a b:Nat):Nat:=(((a:Int)-b)%4294967296).toNat
def Zd2(a b:Nat):Nat:=(((a:Int)-b)%18446744073709551616).toNat
def Zk5(a b:Nat):Nat:=(((a:Int)-b)%256).toNat
theorem zec{a b:Nat}(h:b≤a)(h2:a<18446744073709551616):Zd2 a b=a-b:=by unfold Zd2;omega
theorem z2w{a b:Nat}(h:b≤a)(h2:a<256):Zk5 a b=a-b:=by unfold Zk5;omega
theorem zu4(n:Int):IntKind.wrap .u32 n=(((n%4294967296).toNat:Nat):Int):=by
 grind[IntKind.wrap,IntKind.signed,IntKind.bits]
theorem zhx(n:Int):IntKind.wrap .u64 n=(((n%18446744073709551616).toNat:Nat):Int):=by
 grind[IntKind.wrap,IntKind.signed,IntKind.bits]
theorem zyw(n:Int):IntKind.wrap .u8 n=(((n%256).toNat:Nat):Int):=by
 grind[IntKind.wrap,IntKind.signed,IntKind.bits]
@[simp] theorem z86(n:Int)(h1:-9223372036854775808≤n)(h2:n<9223372036854775808):IntKind.wrap .i64 n=n:=zac n ⟨h1,h2⟩
@[simp] theorem z6s(a b:Nat):((a:Int)+(b:Int)).toNat=a+b:=by omega
@[simp] theorem z2x(a b:Nat):(0:Int)≤(a:Int)+(b:Int):=by omega
@[simp] theorem z2y(a:Nat):(0:Int)≤(a:Int)+1:=by omega
@[simp] theorem z2z(a b:Nat):((a:Int)+(b:Int)+1).toNat=a+b+1:=by omega
@[simp] theorem z05(a b:Nat):(0:Int)≤(a:Int)+(b:Int)+1:=by omega
section
variable(a b:Nat)(k:IntKind)(n:Int)
@[simp] theorem zam0:Zad .add (u32 a) (u32 b)=some (u32 ((a+b)%4294967296)):=by
 simp only[u32,zpy,←Yax,zcz]
@[simp] theorem zam1:Zad .add (u64 a) (u64 b)=some (u64 ((a+b)%18446744073709551616)):=by
 simp only[u64,zpy,←Yax,zeb]
@[simp] theorem zam2:Zad .mul (u32 a) (u32 b)=some (u32 ((a*b)%4294967296)):=by
 simp only[u32,zpz,←Ydc,zcz]
@[simp] theorem zam3:Zad .mul (u64 a) (u64 b)=some (u64 ((a*b)%18446744073709551616)):=by
 simp only[u64,zpz,←Ydc,zeb]
@[simp] theorem zakv:Zad .sub (u32 a) (u32 b)=some (u32 (Zgr a b)):=by
 simp only[u32,zkc,zu4,Zgr]
@[simp] theorem zakw:Zad .sub (u64 a) (u64 b)=some (u64 (Zd2 a b)):=by
 simp only[u64,zkc,zhx,Zd2]
@[simp] theorem zam4:Zad .sub (u8 a) (u8 b)=some (u8 (Zk5 a b)):=by
 simp only[u8,zkc,zyw,Zk5]
theorem zqg:((a:Int).tdiv (b:Int))=((a/b:Nat):Int):=by rw[Int.ofNat_tdiv]
theorem zqh:((a:Int).tmod (b:Int))=((a%b:Nat):Int):=by rw[Int.ofNat_tmod]
@[simp] theorem zam5:Zad .quo (u32 a) (u32 b)=if b=0 then none else some (u32 (a/b%4294967296)):=by
 simp only[u32,zp0,zqg,zcz,Yc8]
@[simp] theorem zam6:Zad .quo (u64 a) (u64 b)=if b=0 then none else some (u64 (a/b%18446744073709551616)):=by
 simp only[u64,zp0,zqg,zeb,Yc8]
@[simp] theorem zam7:Zad .rem (u32 a) (u32 b)=if b=0 then none else some (u32 (a%b)):=by
 simp only[u32,zp1,zqh,Yc8]
@[simp] theorem zam8:Zad .rem (u64 a) (u64 b)=if b=0 then none else some (u64 (a%b)):=by
 simp only[u64,zp1,zqh,Yc8]
theorem bvn(w:Nat):(BitVec.ofInt w (a:Int)).toNat=a%2^w:=by simp
@[simp] theorem or32:Zad .or (u32 a) (u32 b)=some (u32 ((a ||| b)%4294967296)):=by
 have h:=Nat.or_mod_two_pow (a:=a) (b:=b) (n:=32);have e:((BitVec.ofInt 32 (a:Int) ||| BitVec.ofInt 32 (b:Int)).toNat)=(a ||| b)%2^32:=by rw[BitVec.toNat_or,bvn,bvn,←h]
 show some (AV.i .u32 (IntKind.wrap .u32 (((BitVec.ofInt 32 (a:Int) ||| BitVec.ofInt 32 (b:Int)).toNat:Nat):Int)))=_;rw[e,zcz];simp[u32]
@[simp] theorem or64:Zad .or (u64 a) (u64 b)=some (u64 ((a ||| b)%18446744073709551616)):=by
 have h:=Nat.or_mod_two_pow (a:=a) (b:=b) (n:=64);have e:((BitVec.ofInt 64 (a:Int) ||| BitVec.ofInt 64 (b:Int)).toNat)=(a ||| b)%2^64:=by rw[BitVec.toNat_or,bvn,bvn,←h]
 show some (AV.i .u64 (IntKind.wrap .u64 (((BitVec.ofInt 64 (a:Int) ||| BitVec.ofInt 64 (b:Int)).toNat:Nat):Int)))=_;rw[e,zeb];simp[u64]
theorem zmm(m:Nat):((a:Int)*2^m)=((a*2^m:Nat):Int):=by simp
theorem zjl(m:Nat):((a:Int).fdiv (2^m))=((a/2^m:Nat):Int):=by
 grind
@[simp] theorem zam9:Zad .shl (u32 a) (.i k n)=if n<0 then none else some (u32 (a*2^(min n.toNat 32)%4294967296)):=by
 simp only[u32,Zad,IntKind.bits,zmm,zcz]
@[simp] theorem zahq:Zad .shl (u64 a) (.i k n)=if n<0 then none else some (u64 (a*2^(min n.toNat 64)%18446744073709551616)):=by
 simp only[u64,Zad,IntKind.bits,zmm,zeb]
@[simp] theorem zana:Zad .shr (u32 a) (.i k n)=if n<0 then none else some (u32 (a/2^(min n.toNat 32))):=by
 simp only[u32,Zad,IntKind.bits,zjl]
@[simp] theorem zahr:Zad .shr (u64 a) (.i k n)=if n<0 then none else some (u64 (a/2^(min n.toNat 64))):=by
 simp only[u64,Zad,IntKind.bits,zjl]
@[simp] theorem z06:¬ ((b:Int)<0):=by omega
@[simp] theorem zakx:Zad .shl (u64 a) (u64 b)=some (u64 (a*2^(min b 64)%18446744073709551616)):=by
 rw[show u64 b=.i .u64 (b:Int) from rfl,zahq,if_neg (z06 b),Ycd]
@[simp] theorem zaky:Zad .shr (u64 a) (u64 b)=some (u64 (a/2^(min b 64))):=by
 rw[show u64 b=.i .u64 (b:Int) from rfl,zahr,if_neg (z06 b),Ycd]
@[simp] theorem zanb:Zad .eql (u32 a) (u32 b)=some (.b (decide (a=b))):=by
 simp only[u32,zp2,Option.some.injEq,AV.b.injEq];rw[Ycf];simp[Ycr]
@[simp] theorem zanc:Zad .neq (u32 a) (u32 b)=some (.b (!decide (a=b))):=by
 simp only[u32,zp3,Option.some.injEq,AV.b.injEq];rw[Ycf];simp[Ycr]
@[simp] theorem zand:Zad .lss (u32 a) (u32 b)=some (.b (decide (a<b))):=by simp[u32,zkd]
@[simp] theorem zane:Zad .leq (u32 a) (u32 b)=some (.b (decide (a≤b))):=by simp[u32,zp4]
@[simp] theorem zanf:Zad .gtr (u32 a) (u32 b)=some (.b (decide (b<a))):=by simp[u32,zp5]
@[simp] theorem zang:Zad .geq (u32 a) (u32 b)=some (.b (decide (b≤a))):=by simp[u32,zp6]
@[simp] theorem zanh:Zad .neq (u64 a) (u64 b)=some (.b (!decide (a=b))):=by
 simp only[u64,zp3,Option.some.injEq,AV.b.injEq];rw[Ycf];simp[Ycr]
@[simp] theorem zani:Zad .lss (u64 a) (u64 b)=some (.b (decide (a<b))):=by simp[u64,zkd]
@[simp] theorem eql8:Zad .eql (u8 a) (u8 b)=some (.b (decide (a=b))):=by
 simp only[u8,zp2,Option.some.injEq,AV.b.injEq];rw[Ycf];simp[Ycr]
@[simp] theorem lss8:Zad .lss (u8 a) (u8 b)=some (.b (decide (a<b))):=by simp[u8,zkd]
@[simp] theorem leq8:Zad .leq (u8 a) (u8 b)=some (.b (decide (a≤b))):=by simp[u8,zp4]
@[simp] theorem gtr8:Zad .gtr (u8 a) (u8 b)=some (.b (decide (b<a))):=by simp[u8,zp5]
@[simp] theorem geq8:Zad .geq (u8 a) (u8 b)=some (.b (decide (b≤a))):=by simp[u8,zp6]
@[simp] theorem z6t:Zca .u64 (u32 a)=some (u64 (a%18446744073709551616)):=by simp only[u32,u64,Zca,zeb]
@[simp] theorem z6u:Zca .u32 (u64 a)=some (u32 (a%4294967296)):=by simp only[u32,u64,Zca,zcz]
@[simp] theorem z87:Zca .u32 (u8 a)=some (u32 (a%4294967296)):=by simp only[u32,u8,Zca,zcz]
@[simp] theorem z88:Zca .u64 (.i .i64 n)=some (u64 (n%18446744073709551616).toNat):=by simp only[u64,Zca,zhx]
@[simp] theorem z89:Zca .i64 (u32 a)=some (.i .i64 (IntKind.wrap .i64 a)):=rfl
@[simp] theorem z9a:Zca .i64 (u64 a)=some (.i .i64 (IntKind.wrap .i64 a)):=rfl
@[simp] theorem zac3:Zca .i64 (u8 a)=some (.i .i64 (IntKind.wrap .i64 a)):=rfl
@[simp] theorem zac4:Zca .i64 (.i .i64 n)=some (.i .i64 (IntKind.wrap .i64 n)):=rfl
@[simp] theorem zanj:Zg0 .neg (u64 a)=some (u64 (Zd2 0 a)):=by simp[u64,Zg0,zhx,Zd2]
@[simp] theorem zank:Zg0 .neg (.i .i64 n)=some (.i .i64 (IntKind.wrap .i64 (0-n))):=rfl
@[simp] theorem zanl(t:Bool):Zg0 .not (.b t)=some (.b (!t)):=rfl
@[simp] theorem zakz(m:Nat)(y:Int):bnd (u8 m) y=if 0≤(m:Int)∧(m:Int)≤y then some m else none:=rfl
@[simp] theorem zahs(m:Nat)(y:Int):bnd (u32 m) y=if 0≤(m:Int)∧(m:Int)≤y then some m else none:=rfl
@[simp] theorem zaht(m:Nat)(y:Int):bnd (u64 m) y=if 0≤(m:Int)∧(m:Int)≤y then some m else none:=rfl
attribute [simp] Ze8 Zg3 Zfv
@[simp] theorem zak0(l:List UInt8):Zh3 (.s l) (.i k n)=if 0≤n∧n<l.length then (l[n.toNat]?).map fun b=>u8 b.toNat else none:=rfl
@[simp] theorem zac5(k':IntKind)(x y:Int):Zf5 .int (.i k x) (.i k' y)=if k=k' then some (x == y) else none:=rfl
end
@[simp] theorem zahu(a b:Nat):u32 a=u32 b↔a=b:=by simp[u32,Ycr]
@[simp] theorem zahv(a b:Nat):u64 a=u64 b↔a=b:=by simp[u64,Ycr]
theorem zak(x:UInt32):x.toNat<4294967296:=x.toNat_lt
@[simp] theorem zahw(x:UInt32):x.toNat<4294967296:=x.toNat_lt
def w32(n:Nat):UInt32:=UInt32.ofNat n
theorem zbj(n:Nat):(w32 n).toNat=n%4294967296:=UInt32.toNat_ofNat' ..
theorem zah{n:Nat}(h:n<4294967296):(w32 n).toNat=n:=by rw[zbj,Yh h]
def Zb(l:List UInt32):List (List AV):=l.map fun x=>[u32 x.toNat]
def ints(l:List Int):List (List AV):=l.map fun x=>[.i .i64 x]
def u8s(l:List UInt8):List (List AV):=l.map fun x=>[u8 x.toNat]
section
variable(l m:List UInt32)(x:UInt32)
@[simp] theorem zac6:Zb []=[]:=rfl
@[simp] theorem z22:(Zb l).length=l.length:=by simp[Zb]
@[simp] theorem zahx:wkL (Zb l)=Zb l:=by
 rw[zb3];simp[Zb,wkR]
@[simp] theorem z9b(n:Nat):(Zb l).take n=Zb (l.take n):=by simp[Zb]
@[simp] theorem z9c(n:Nat):(Zb l).drop n=Zb (l.drop n):=by simp[Zb]
@[simp] theorem z23:Zb l++Zb m=Zb (l++m):=by simp[Zb]
@[simp] theorem z9d(n:Nat)(h:n<4294967296):Zb l++[[u32 n]]=Zb (l++[w32 n]):=by simp[Zb,zah h]
@[simp] theorem u32s_getElem?(i:Nat):(Zb l)[i]? = (l[i]?).map fun x=>[u32 x.toNat]:=by simp[Zb]
@[simp] theorem z07(i:Nat)(h:i<(Zb l).length):(Zb l)[i]=[u32 (l[i]'(by simpa using h)).toNat]:=by simp[Zb]
theorem zbg(i:Nat)(n:Nat)(h:n<4294967296):(Zb l).set i [u32 n]=Zb (l.set i (w32 n)):=by simp[Zb,Ycs,zah h]
@[simp] theorem z9e(i n:Nat):(Zb l).set i [u32 (n%4294967296)]=Zb (l.set i (w32 n)):=by simp[Zb,Ycs,zbj]
@[simp] theorem zac7(n:Nat):List.replicate n [u32 0]=Zb (List.replicate n 0):=by simp[Zb]
@[simp] theorem z9f(z:Nat):((Zb l).head?.all fun r=>decide (r.length=z))=(l.isEmpty || decide (z=1)):=by
 cases l<;>simp[Zb,eq_comm]
end
end
section
open Go.RowKit
abbrev mv(d s:Nat):AO:=⟨some d,none,.mov (.t s)⟩
abbrev rg(d:Nat)(op:AOp):AO:=⟨some d,none,op⟩
abbrev gd(d t:Nat)(b:Bool)(op:AOp):AO:=⟨some d,some (t,b),op⟩
abbrev so(op:AOp):AO:=⟨none,none,op⟩
section
variable(T:Tbl)(u:Nat)(ex:Bool)(ms:List Bool)(xs:List AV)(d:Option Nat)(st:St)(ps:List Opd)(e:Env)
@[simp] noncomputable def cP:Option St:=bL (Zkf st.heap xs) fun ys=>cR (Za T u (ys.map (wkIf ex))) xs d st
@[simp] noncomputable def cL:Option St:=bL (Zek st.heap ms xs) fun ys=>Zd1 ys (Zh (Zay ms xs) st.heap) (Zcv (Zh (Zay ms xs) st.heap) 40 (Zck ms xs) []) T u ex d st
@[simp] noncomputable def dP:Option AV:=dR (Za T u ((ps.map (ev e.get)).map (wkIf ex))) (ps.map (ev e.get))
end
section
variable{T:Tbl}{k:Nat}
theorem za2{id:Nat}{g2:Gh}{c:AX}(S:Nat→St)(n:Nat)(G:Option (Ex×St))(step:∀i,i<n→evX (orc T) T k c (S i)=some (.n,S (i+1)))
  (fin:Zd5 (evX (orc T) T k c (S n))=true∧Zeh k id g2 (evX (orc T) T k c (S n))=G):Zj T k id g2 c (S 0)=G:=
 zav S (fun i=>i≤n) (fun i=>n-i) (fun _=>G) (by
  intro i hi;by_cases h:i<n
  ·exact .inl ⟨i+1,h,by show n-(i+1)<n-i;omega,step i h,rfl⟩
  ·have:i=n:=by omega
   subst this;exact .inr fin) 0 (Yo _)
theorem zaq{id:Nat}{g2:Gh}{c:AX}(S:Nat→St)(n:Nat)(G:Nat→Option (Ex×St))
  (step:∀i,i<n→(evX (orc T) T k c (S i)=some (.n,S (i+1))∧G (i+1)=G i)∨(Zd5 (evX (orc T) T k c (S i))=true∧Zeh k id g2 (evX (orc T) T k c (S i))=G i))
  (fin:Zd5 (evX (orc T) T k c (S n))=true∧Zeh k id g2 (evX (orc T) T k c (S n))=G n):Zj T k id g2 c (S 0)=G 0:=
 zav S (fun i=>i≤n) (fun i=>n-i) G (by
  intro i hi;by_cases h:i<n
  ·rcases step i h with ⟨h1,h2⟩ | h1
   ·exact .inl ⟨i+1,h,by show n-(i+1)<n-i;omega,h1,h2⟩
   ·exact .inr h1
  ·have:i=n:=by omega
   subst this;exact .inr fin) 0 (Yo _)
end
theorem zbv{i n:Nat}(h:i<n)(hn:n≤4294967296):IntKind.wrap .i64 ((i:Int)+1)=((i+1:Nat):Int):=zac _ (by omega)
end
def b115:AX:=
 (.seq
 (.reg [rg 6 (.mov (.c (u32 0))),rg 7 (.mov (.c (u32 0)))])
 (.seq
 (.reg [mv 8 0,mv 9 1,rg 10 (.bin .add (.t 8) (.t 9)),mv 6 10])
 (.seq
 (.seq
 (.reg [mv 11 6,mv 12 0,rg 13 (.bin .lss (.t 11) (.t 12))])
 (.cond (.t 13)
 (.reg [mv 14 7,rg 15 (.bin .add (.t 14) (.c (u32 1))),mv 7 15])
 .skip))
 (.seq
 (.reg [mv 16 6,mv 17 2,rg 18 (.bin .add (.t 16) (.t 17)),mv 6 18])
 (.seq
 (.seq
 (.reg [mv 19 6,mv 20 2,rg 21 (.bin .lss (.t 19) (.t 20))])
 (.cond (.t 21)
 (.reg [mv 22 7,rg 23 (.bin .add (.t 22) (.c (u32 1))),mv 7 23])
 .skip))
 (.seq
 (.reg [mv 24 6,mv 25 7,mv 6 24,mv 7 25])
 (.pre (.norm false [6,7]) .ret)))))))
def b116:AX:=
 (.seq
 (.reg [rg 6 (.mov (.c (u32 0))),rg 7 (.mov (.c (u32 0)))])
 (.seq
 (.reg [mv 8 0,mv 9 1,rg 10 (.bin .sub (.t 8) (.t 9)),mv 6 10])
 (.seq
 (.seq
 (.reg [mv 11 0,mv 12 1,rg 13 (.bin .lss (.t 11) (.t 12))])
 (.cond (.t 13)
 (.reg [mv 14 7,rg 15 (.bin .add (.t 14) (.c (u32 1))),mv 7 15])
 .skip))
 (.seq
 (.seq
 (.reg [mv 16 6,mv 17 2,rg 18 (.bin .lss (.t 16) (.t 17))])
 (.cond (.t 18)
 (.reg [mv 19 7,rg 20 (.bin .add (.t 19) (.c (u32 1))),mv 7 20])
 .skip))
 (.seq
 (.reg [mv 21 6,mv 22 2,rg 23 (.bin .sub (.t 21) (.t 22)),mv 24 7,mv 6 23,mv 7 24])
 (.pre (.norm false [6,7]) .ret))))))
def b117:AX:=
 (.seq
 (.reg [rg 8 (.mov (.c (u32 0))),rg 9 (.mov (.c (u32 0)))])
 (.seq
 (.reg [mv 11 0,rg 12 (.conv .u64 (.t 11)),mv 13 1,rg 14 (.conv .u64 (.t 13)),rg 15 (.bin .mul (.t 12) (.t 14)),mv 16 2,rg 17 (.conv .u64 (.t 16)),rg 18 (.bin .add (.t 15) (.t 17)),mv 19 3,rg 20 (.conv .u64 (.t 19)),rg 21 (.bin .add (.t 18) (.t 20)),mv 10 21])
 (.seq
 (.reg [mv 22 10,rg 23 (.bin .shr (.t 22) (.c (u64 32))),rg 24 (.conv .u32 (.t 23)),mv 25 10,rg 26 (.conv .u32 (.t 25)),mv 8 24,mv 9 26])
 (.pre (.norm false [8,9]) .ret))))
def b118:AX:=
 (.seq
 (.reg [rg 6 (.mov (.c (u32 0))),rg 7 (.mov (.c (u32 0))),rg 8 (.mov (.c (.b false)))])
 (.seq
 (.seq
 (.reg [mv 10 0,mv 11 2,rg 12 (.bin .geq (.t 10) (.t 11))])
 (.cond (.t 12)
 (.seq
 (.reg [rg 6 (.mov (.c (u32 0))),rg 7 (.mov (.c (u32 0))),rg 8 (.mov (.c (.b false)))])
 (.pre (.norm false [6,7,8]) .ret))
 .skip))
 (.seq
 (.reg [mv 13 0,rg 14 (.conv .u64 (.t 13)),rg 15 (.bin .shl (.t 14) (.c (u64 32))),mv 16 1,rg 17 (.conv .u64 (.t 16)),rg 18 (.bin .or (.t 15) (.t 17)),mv 9 18])
 (.seq
 (.drawT [mv 19 9,mv 20 2,rg 21 (.conv .u64 (.t 20)),rg 22 (.bin .quo (.t 19) (.t 21)),rg 23 (.conv .u32 (.t 22)),mv 24 9,mv 25 2,rg 26 (.conv .u64 (.t 25)),rg 27 (.bin .rem (.t 24) (.t 26)),rg 28 (.conv .u32 (.t 27)),mv 6 23]
 [mv 7 28,rg 8 (.mov (.c (.b true)))])
 (.pre (.norm false [6,7,8]) .ret)))))
def l91_0:AX:=
 (.note
 (.seq
 (.seq
 (.reg [mv 5 4,rg 6 (.bin .gtr (.t 5) (.c (.i .i64 0)))])
 (.cond (.t 6)
 .skip
 (.exit 0)))
 (.seq
 (.block 1
 (.seq
 (.reg [mv 9 0,mv 10 4,rg 11 (.bin .shr (.t 9) (.t 10)),rg 12 (.bin .neq (.t 11) (.c (u32 0)))])
 (.cond (.t 12)
 (.seq
 (.reg [mv 13 0,mv 14 4,rg 15 (.bin .shr (.t 13) (.t 14)),mv 0 15])
 (.reg [mv 16 3,mv 17 4,rg 18 (.bin .add (.t 16) (.t 17)),mv 3 18]))
 .skip)))
 (.reg [mv 7 4,rg 8 (.bin .quo (.t 7) (.c (.i .i64 2))),mv 4 8])))
 (.norm false [0,3,4]))
def b91:AX:=
 (.seq
 (.reg [rg 2 (.mov (.c (.i .i64 0)))])
 (.seq
 (.reg [rg 3 (.mov (.c (.i .i64 0)))])
 (.seq
 (.seq
 (.reg [rg 4 (.mov (.c (.i .i64 16)))])
 (.lp 0 (.norm false [0,3,4]) l91_0 (.norm false [0,3])))
 (.seq
 (.reg [mv 19 3,mv 20 0,rg 21 (.conv .i64 (.t 20)),rg 22 (.bin .add (.t 19) (.t 21)),mv 2 22])
 (.pre (.norm false [2]) .ret)))))
def row115:AFx:=⟨3,26,[.t 6,.t 7],b115,none,false⟩
def row116:AFx:=⟨3,25,[.t 6,.t 7],b116,none,false⟩
def row117:AFx:=⟨4,27,[.t 8,.t 9],b117,none,false⟩
def row118:AFx:=⟨3,29,[.t 6,.t 7,.t 8],b118,none,false⟩
def row91:AFx:=⟨1,23,[.t 2],b91,none,false⟩
class Z0 (T:Tbl):Prop where
 h115:T 115=some row115
 h116:T 116=some row116
 h117:T 117=some row117
 h118:T 118=some row118
 h91:T 91=some row91
section
variable{T:Tbl}[Z0 T]{d:Option Nat}{st:St}
@[simp] theorem x115(xs:List AV):Zc (orc T) T 115 xs d st=cP T 115 false xs d st:=zaa Z0.h115
@[simp] theorem x116(xs:List AV):Zc (orc T) T 116 xs d st=cP T 116 false xs d st:=zaa Z0.h116
@[simp] theorem x117(xs:List AV):Zc (orc T) T 117 xs d st=cP T 117 false xs d st:=zaa Z0.h117
@[simp] theorem x118(xs:List AV):Zc (orc T) T 118 xs d st=cP T 118 false xs d st:=zaa Z0.h118
@[simp] theorem x91(xs:List AV):Zc (orc T) T 91 xs d st=cP T 91 false xs d st:=zaa Z0.h91
end
section
variable{T:Tbl}[Z0 T]
theorem zzg(x y c:UInt32):Za T 115 [u32 x.toNat,u32 y.toNat,u32 c.toNat] =
  some (.tup [u32 (w32 (x.toNat+y.toNat+c.toNat)).toNat,u32 (w32 ((x.toNat+y.toNat+c.toNat)/4294967296)).toNat]):=by
 have hx:=zak x;have hy:=zak y;have hc:=zak c;rw[zab Z0.h115 rfl,b115];simp[zbj]
 repeat' split
 all_goals simp
 all_goals omega
theorem zzh(x y b:UInt32):Za T 116 [u32 x.toNat,u32 y.toNat,u32 b.toNat] =
  some (.tup [u32 (w32 (x.toNat+8589934592-(y.toNat+b.toNat))).toNat,u32 (w32 (2-(x.toNat+8589934592-(y.toNat+b.toNat))/4294967296)).toNat]):=by
 have hx:=zak x;have hy:=zak y;have hb:=zak b;rw[zab Z0.h116 rfl,b116];by_cases h1:x.toNat<y.toNat <;>
 by_cases h2:Zgr x.toNat y.toNat<b.toNat <;>
 ·simp[h1,h2,zbj];unfold Zgr at *
  omega
theorem zgp{a b:Nat}(ha:a<4294967296)(hb:b<4294967296):a*b≤18446744065119617025:=by
 have:a*b≤4294967295*4294967295:=Ybh (by omega) (by omega);omega
theorem zqo(x y c d:UInt32):Za T 117 [u32 x.toNat,u32 y.toNat,u32 c.toNat,u32 d.toNat] =
  some (.tup [u32 (w32 ((x.toNat*y.toNat+c.toNat+d.toNat)/4294967296)).toNat,u32 (w32 (x.toNat*y.toNat+c.toNat+d.toNat)).toNat]):=by
 have hx:=zak x;have hy:=zak y;have hc:=zak c;have hd:=zak d;have hm:=zgp hx hy;rw[zab Z0.h117 rfl,b117];simp[zbj];generalize x.toNat*y.toNat=m at *
 omega
theorem zqp(hi lo y:UInt32):Za T 118 [u32 hi.toNat,u32 lo.toNat,u32 y.toNat] =
  some (if y.toNat≤hi.toNat then .tup [u32 0,u32 0,.b false]
   else .tup [u32 (w32 ((hi.toNat*4294967296+lo.toNat)/y.toNat)).toNat,u32 (w32 ((hi.toNat*4294967296+lo.toNat)%y.toNat)).toNat,.b true]):=by
 have hx:=zak hi;have hy:=zak y;have hl:=zak lo;rw[zab Z0.h118 rfl,b118];by_cases h1:y.toNat≤hi.toNat
 ·simp[h1]
 ·have h2:¬ y.toNat=0:=by omega
  simp[h1,h2,zbj];have e:hi.toNat*4294967296%18446744073709551616=hi.toNat*4294967296:=Yh (by omega);have e2:(hi.toNat*4294967296) ||| lo.toNat=hi.toNat*4294967296+lo.toNat:=by
   have:=Ycu (i:=32) hl hi.toNat;rw[Yaf hi.toNat,show (4294967296:Nat)=2^32 from rfl,this]
  have h3:(hi.toNat*4294967296+lo.toNat)/y.toNat<4294967296:=by
   rw[Ybr (by omega)];have:=Yx 4294967296 (show hi.toNat+1≤y.toNat by omega);omega
  rw[e,e2,Yh (show hi.toNat*4294967296+lo.toNat<18446744073709551616 by omega)];exact⟨rfl,rfl⟩
theorem zd1(x y c:Nat)(hx:x<4294967296)(hy:y<4294967296)(hc:c<4294967296):Za T 115 [u32 x,u32 y,u32 c]=some (.tup [u32 ((x+y+c)%4294967296),u32 ((x+y+c)/4294967296)]):=by
 have:=zzg (T:=T) (w32 x) (w32 y) (w32 c);rw[zah hx,zah hy,zah hc,zbj,zah (by omega)]at this;exact this
theorem zfl(x y b:Nat)(hx:x<4294967296)(hy:y<4294967296)(hb:b<4294967296):Za T 116 [u32 x,u32 y,u32 b] =
  some (.tup [u32 ((x+8589934592-(y+b))%4294967296),u32 (2-(x+8589934592-(y+b))/4294967296)]):=by
 have:=zzh (T:=T) (w32 x) (w32 y) (w32 b);rw[zah hx,zah hy,zah hb,zbj,zah (by omega)]at this;exact this
theorem zh5(x y c d:Nat)(hx:x<4294967296)(hy:y<4294967296)(hc:c<4294967296)(hd:d<4294967296):Za T 117 [u32 x,u32 y,u32 c,u32 d] =
  some (.tup [u32 ((x*y+c+d)/4294967296),u32 ((x*y+c+d)%4294967296)]):=by
 have:=zqo (T:=T) (w32 x) (w32 y) (w32 c) (w32 d);have hm:=zgp hx hy;rw[zah hx,zah hy,zah hc,zah hd,zbj (x*y+c+d),zah (by omega)]at this;exact this
theorem z1a{hi lo y:Nat}(h:hi<y)(hl:lo<4294967296):(hi*4294967296+lo)/y<4294967296:=by
 rw[Ybr (by omega)];have:=Yx 4294967296 (show hi+1≤y by omega);omega
theorem zmw(hi lo y:Nat)(hx:hi<y)(hl:lo<4294967296)(hy:y<4294967296):Za T 118 [u32 hi,u32 lo,u32 y] =
  some (.tup [u32 ((hi*4294967296+lo)/y),u32 ((hi*4294967296+lo)%y),.b true]):=by
 have:=zqp (T:=T) (w32 hi) (w32 lo) (w32 y);rw[zah (show hi<4294967296 by omega),zah hl,zah hy,zah (z1a hx hl),zah (by have:=Yaz (hi*4294967296+lo) (show 0<y by omega);omega),if_neg (by omega)]at this;exact this
theorem zsb(hi lo y:Nat)(hx:y≤hi)(hh:hi<4294967296)(hl:lo<4294967296):Za T 118 [u32 hi,u32 lo,u32 y]=some (.tup [u32 0,u32 0,.b false]):=by
 have:=zqp (T:=T) (w32 hi) (w32 lo) (w32 y);rw[zah hh,zah hl,zah (show y<4294967296 by omega),if_pos hx]at this;exact this
def Z7(n:Nat):Nat:=if n=0 then 0 else n.log2+1
theorem zjr{n s:Nat}(h:n/2^s≠0):Z7 n=s+Z7 (n/2^s):=by
 have hn:n≠0:=by rintro rfl;simp at h
 have hlog:(n/2^s).log2+s=n.log2:=by
  have h1:=Nat.log2_self_le h;have h2:=Yc6 (n:=n/2^s);have h3:=Nat.log2_self_le hn;have h4:=Yc6 (n:=n);have hp:0<2^s:=Ya0 (by decide);have a1:2^((n/2^s).log2+s)≤n:=by
   rw[Ybb];exact(Yca hp).1 h1
  have a2:n<2^((n/2^s).log2+1+s):=by
   rw[Ybb];exact(Ybr hp).1 h2
  have b1:=(Nat.le_log2 hn).2 a1;have b2:=(Ydp hn).2 a2;omega
 unfold Z7;rw[if_neg h,if_neg hn];omega
theorem zsc{x:Nat}(h:x<2):Z7 x=x:=by
 rcases(show x=0∨x=1 by omega) with rfl | rfl<;>decide
def Zjd(y:Nat×Nat×Nat):St:=⟨[(0,u32 y.1),(3,.i .i64 y.2.1),(4,.i .i64 y.2.2)],[],2⟩
end
section
variable{T:Tbl}
theorem zkw(N:Nat):∀y:Nat×Nat×Nat,((y.2.2=16∨y.2.2=8∨y.2.2=4∨y.2.2=2∨y.2.2=1∨y.2.2=0)∧y.1<2^(2*y.2.2)*(if y.2.2=0 then 2 else 1)∧y.2.1+Z7 y.1=N∧y.2.1+2*y.2.2≤32) →
  ∃r,(∃(x n:Nat),r=(Ex.n,(⟨[(0,u32 x),(3,.i .i64 (n:Int))],[],2⟩:St))∧x<2∧n+Z7 x=N∧n≤32)∧Zj T 0 0 (.norm false [0,3]) l91_0 (Zjd y)=some r:=by
 refine zar _ _ (fun y=>y.2.2) _ ?_
 rintro⟨x,n,s⟩ ⟨hs,hx,hN,hn⟩
 simp only at hs hx hN hn;by_cases h0:s=0
 ·right;subst h0;refine⟨_,⟨x,n,rfl,by simpa using hx,hN,by omega⟩,?_,?_⟩<;>simp[l91_0,Zjd]
 ·left;by_cases h1:x/2^s=0
  ·refine⟨(x,n,s/2),⟨?_,?_,hN,by simp only;omega⟩,by simp only;omega,?_⟩
   ·rcases hs with rfl | rfl | rfl | rfl | rfl | rfl<;>simp
   ·have h2:x<2^s:=by
     rcases Yt x (2^s) with h | h
     ·exact h
     ·have:=Yes h (Ya0 (by decide));omega
    rcases hs with rfl | rfl | rfl | rfl | rfl | rfl<;>simp at h2 ⊢<;>omega
   ·rcases hs with rfl | rfl | rfl | rfl | rfl | rfl<;>simp at h1<;>simp[l91_0,Zjd,h1]at h0 ⊢
  ·refine⟨(x/2^s,n+s,s/2),⟨?_,?_,?_,by simp only;omega⟩,by simp only;omega,?_⟩
   ·rcases hs with rfl | rfl | rfl | rfl | rfl | rfl<;>simp
   ·rcases hs with rfl | rfl | rfl | rfl | rfl | rfl<;>simp at hx h0 ⊢<;>omega
   ·have:=zjr h1;simp only;omega
   ·have hw:IntKind.wrap .i64 ((n:Int)+s)=((n+s:Nat):Int):=zac _ (by omega);rcases hs with rfl | rfl | rfl | rfl | rfl | rfl<;>simp at h1 hw<;>simp[l91_0,Zjd,h1,hw]at h0 ⊢
end
section
variable{T:Tbl}[Z0 T]
theorem zqq(x:UInt32):Za T 91 [u32 x.toNat]=some (.i .i64 (Z7 x.toNat)):=by
 have hx:=zak x;obtain⟨_,⟨y,n,rfl,h1,h2,h3⟩,hl⟩:=zkw (T:=T) (Z7 x.toNat) (x.toNat,0,16) ⟨.inl rfl,by simp,by simp,by simp⟩;have hw:IntKind.wrap .i64 (y:Int)=y:=zac _ (by omega);have hw2:IntKind.wrap .i64 ((n:Int)+y)=((n+y:Nat):Int):=zac _ (by omega);have h4:=zsc h1;rw[zab Z0.h91 rfl,b91];simp;unfold Zjd at hl;simp at hl;rw[hl];simp[hw,hw2];omega
end
def l86_0:AX:=
 (.note
 (.seq
 (.seq
 (.reg [mv 6 3,rg 7 (.bin .gtr (.t 6) (.c (.i .i64 0))),mv 8 7,gd 9 8 true (.mov (.t 0)),gd 10 8 true (.mov (.t 3)),gd 11 8 true (.bin .sub (.t 10) (.c (.i .i64 1))),gd 12 8 true (.iad 1 (.t 9) (.t 11)),gd 13 8 true (.load none (.t 12)),gd 14 8 true (.bin .eql (.t 13) (.c (u32 0))),rg 15 (.pick (.t 8) (.t 14) (.c (.b false)))])
 (.cond (.t 15)
 .skip
 (.exit 0)))
 (.block 1
 (.reg [mv 16 3,rg 17 (.bin .sub (.t 16) (.c (.i .i64 1))),mv 3 17])))
 (.norm false [0,3]))
def b86:AX:=
 (.seq
 (.reg [rg 2 (.mov (.c (.sl [] .nl)))])
 (.seq
 (.reg [mv 4 0,rg 5 (.len (.t 4)),mv 3 5])
 (.seq
 (.lp 0 (.norm false [0,3]) l86_0 (.norm false [0,3]))
 (.seq
 (.reg [mv 18 0,mv 19 3,rg 20 (.slc 1 (.t 18) none (some (.t 19)) none),mv 2 20])
 (.pre (.norm false [2]) .ret)))))
def b106:AX:=
 (.seq
 (.reg [rg 4 (.mov (.c (.sl [] .nl)))])
 (.seq
 (.reg [mv 6 0,rg 7 (.len (.t 6)),mv 8 1,rg 9 (.bin .add (.t 7) (.t 8)),rg 10 (.mks 1 [(u32 0)] (.t 9) (.t 9)),mv 5 10])
 (.seq
 (.reg [mv 11 5,mv 12 0,rg 13 (.xop .cpy [(.t 11),(.t 12)])])
 (.seq
 (.reg [mv 14 5,mv 4 14])
 (.pre (.norm false [4]) .ret)))))
def b71:AX:=
 (.seq
 (.reg [rg 2 (.mov (.c (.sl [] .nl)))])
 (.seq
 (.reg [mv 3 0,rg 4 (.call 86 [(.t 3)]),rg 5 (.call 106 [(.t 4),(.c (.i .i64 0))]),mv 2 5])
 (.pre (.norm false [2]) .ret)))
def b72:AX:=
 (.seq
 (.reg [rg 2 (.mov (.c (.sl [] .nl)))])
 (.seq
 (.reg [mv 3 0,rg 4 (.conv .u32 (.t 3)),mv 5 0,rg 6 (.bin .shr (.t 5) (.c (u64 32))),rg 7 (.conv .u32 (.t 6)),rg 8 (.bsl 1 [(u32 0)] 2 [(0,(.t 4)),(1,(.t 7))]),rg 9 (.call 86 [(.t 8)]),mv 2 9])
 (.pre (.norm false [2]) .ret)))
def l73_0:AX:=
 (.note
 (.seq
 (.reg [rg 15 (.bin .lss (.t 14) (.t 13))])
 (.seq
 (.cond (.t 15)
 .skip
 (.exit 0))
 (.seq
 (.block 1
 (.seq
 (.reg [mv 16 14,rg 17 (.iad 1 (.t 12) (.t 14)),rg 18 (.load none (.t 17)),mv 5 16,mv 6 18])
 (.reg [mv 19 4,mv 20 6,rg 21 (.conv .u64 (.t 20)),mv 22 5,rg 23 (.bin .mul (.c (.i .i64 32)) (.t 22)),rg 24 (.bin .shl (.t 21) (.t 23)),rg 25 (.bin .or (.t 19) (.t 24)),mv 4 25])))
 (.reg [rg 26 (.bin .add (.t 14) (.c (.i .i64 1))),mv 14 26]))))
 (.norm false [4,12,13,14]))
def b73:AX:=
 (.seq
 (.reg [rg 2 (.mov (.c (u64 0))),rg 3 (.mov (.c (.b false)))])
 (.seq
 (.reg [mv 7 0,rg 8 (.call 86 [(.t 7)]),mv 0 8])
 (.seq
 (.seq
 (.reg [mv 9 0,rg 10 (.len (.t 9)),rg 11 (.bin .gtr (.t 10) (.c (.i .i64 2)))])
 (.cond (.t 11)
 (.seq
 (.reg [rg 2 (.mov (.c (u64 0))),rg 3 (.mov (.c (.b false)))])
 (.pre (.norm false [2,3]) .ret))
 .skip))
 (.seq
 (.reg [rg 4 (.mov (.c (u64 0)))])
 (.seq
 (.seq
 (.reg [mv 12 0,rg 13 (.len (.t 12)),rg 14 (.mov (.c (.i .i64 0)))])
 (.lp 0 (.norm false [4,12,13,14]) l73_0 (.norm false [4])))
 (.seq
 (.reg [mv 27 4,mv 2 27,rg 3 (.mov (.c (.b true)))])
 (.pre (.norm false [2,3]) .ret)))))))
def b70:AX:=
 (.seq
 (.reg [rg 2 (.mov (.c (.b false)))])
 (.seq
 (.reg [mv 3 0,rg 4 (.call 86 [(.t 3)]),rg 5 (.len (.t 4)),rg 6 (.bin .eql (.t 5) (.c (.i .i64 0))),mv 2 6])
 (.pre (.norm false [2]) .ret)))
def l87_0:AX:=
 (.note
 (.seq
 (.seq
 (.reg [mv 25 5,rg 26 (.bin .geq (.t 25) (.c (.i .i64 0)))])
 (.cond (.t 26)
 .skip
 (.exit 1)))
 (.seq
 (.block 2
 (.block 3
 (.seq
 (.drawT [mv 30 0,mv 31 5,rg 32 (.iad 1 (.t 30) (.t 31)),rg 33 (.load none (.t 32)),mv 34 1,mv 35 5,rg 36 (.iad 1 (.t 34) (.t 35)),rg 37 (.load none (.t 36))]
 [rg 38 (.bin .lss (.t 33) (.t 37)),mv 29 38])
 (.cond (.t 29)
 (.seq
 (.reg [rg 4 (.mov (.c (.i .i64 (-1))))])
 (.pre (.norm false [4]) .ret))
 (.seq
 (.drawT [mv 40 0,mv 41 5,rg 42 (.iad 1 (.t 40) (.t 41)),rg 43 (.load none (.t 42)),mv 44 1,mv 45 5,rg 46 (.iad 1 (.t 44) (.t 45)),rg 47 (.load none (.t 46))]
 [rg 48 (.bin .gtr (.t 43) (.t 47)),mv 39 48])
 (.cond (.t 39)
 (.seq
 (.reg [rg 4 (.mov (.c (.i .i64 1)))])
 (.pre (.norm false [4]) .ret))
 .skip))))))
 (.reg [mv 27 5,rg 28 (.bin .sub (.t 27) (.c (.i .i64 1))),mv 5 28])))
 (.norm false [0,1,5]))
def b87:AX:=
 (.seq
 (.reg [rg 4 (.mov (.c (.i .i64 0)))])
 (.seq
 (.reg [mv 6 0,rg 7 (.call 86 [(.t 6)]),mv 8 1,rg 9 (.call 86 [(.t 8)]),mv 0 7,mv 1 9])
 (.seq
 (.block 0
 (.seq
 (.reg [mv 11 0,rg 12 (.len (.t 11)),mv 13 1,rg 14 (.len (.t 13)),rg 15 (.bin .lss (.t 12) (.t 14)),mv 10 15])
 (.cond (.t 10)
 (.seq
 (.reg [rg 4 (.mov (.c (.i .i64 (-1))))])
 (.pre (.norm false [4]) .ret))
 (.seq
 (.reg [mv 17 0,rg 18 (.len (.t 17)),mv 19 1,rg 20 (.len (.t 19)),rg 21 (.bin .gtr (.t 18) (.t 20)),mv 16 21])
 (.cond (.t 16)
 (.seq
 (.reg [rg 4 (.mov (.c (.i .i64 1)))])
 (.pre (.norm false [4]) .ret))
 .skip)))))
 (.seq
 (.seq
 (.reg [mv 22 0,rg 23 (.len (.t 22)),rg 24 (.bin .sub (.t 23) (.c (.i .i64 1))),mv 5 24])
 (.lp 1 (.norm false [0,1,5]) l87_0 (.norm false [])))
 (.seq
 (.reg [rg 4 (.mov (.c (.i .i64 0)))])
 (.pre (.norm false [4]) .ret))))))
def l85_0:AX:=
 (.note
 (.seq
 (.reg [rg 21 (.bin .lss (.t 20) (.t 19))])
 (.seq
 (.cond (.t 21)
 .skip
 (.exit 0))
 (.seq
 (.block 1
 (.seq
 (.reg [mv 22 20,mv 7 22])
 (.seq
 (.reg [rg 8 (.mov (.c (u32 0)))])
 (.seq
 (.seq
 (.reg [mv 23 7,mv 24 1,rg 25 (.len (.t 24)),rg 26 (.bin .lss (.t 23) (.t 25))])
 (.cond (.t 26)
 (.reg [mv 27 1,mv 28 7,rg 29 (.iad 1 (.t 27) (.t 28)),rg 30 (.load none (.t 29)),mv 8 30])
 .skip))
 (.reg [mv 32 5,mv 33 7,mv 34 0,mv 35 7,rg 36 (.iad 1 (.t 34) (.t 35)),rg 37 (.load none (.t 36)),mv 38 8,mv 39 6,rg 40 (.call 115 [(.t 37),(.t 38),(.t 39)]),mv 31 40,rg 41 (.ext (.t 31) 0),rg 42 (.ext (.t 31) 1),rg 43 (.iad 1 (.t 32) (.t 33)),so (.store 1 (.t 43) (.t 41)),mv 6 42])))))
 (.reg [rg 44 (.bin .add (.t 20) (.c (.i .i64 1))),mv 20 44]))))
 (.norm false [0,1,5,6,19,20]))
def b85:AX:=
 (.seq
 (.reg [rg 4 (.mov (.c (.sl [] .nl)))])
 (.seq
 (.seq
 (.reg [mv 9 0,rg 10 (.len (.t 9)),mv 11 1,rg 12 (.len (.t 11)),rg 13 (.bin .lss (.t 10) (.t 12))])
 (.cond (.t 13)
 (.reg [mv 14 1,mv 15 0,mv 0 14,mv 1 15])
 .skip))
 (.seq
 (.reg [mv 16 0,rg 17 (.call 2106 [(.t 16),(.c (.i .i64 1))]),mv 5 17])
 (.seq
 (.reg [rg 6 (.mov (.c (u32 0)))])
 (.seq
 (.seq
 (.reg [mv 18 0,rg 19 (.len (.t 18)),rg 20 (.mov (.c (.i .i64 0)))])
 (.lp 0 (.norm false [0,1,5,6,19,20]) l85_0 (.norm false [0,5,6])))
 (.seq
 (.reg [mv 45 5,mv 46 0,rg 47 (.len (.t 46)),mv 48 6,rg 49 (.iad 1 (.t 45) (.t 47)),so (.store 1 (.t 49) (.t 48))])
 (.seq
 (.reg [mv 50 5,rg 51 (.call 86 [(.t 50)]),mv 4 51])
 (.pre (.norm false [4]) .ret))))))))
def l56_0:AX:=
 (.note
 (.seq
 (.reg [rg 9 (.bin .lss (.t 8) (.t 7))])
 (.seq
 (.cond (.t 9)
 .skip
 (.exit 0))
 (.seq
 (.block 1
 (.seq
 (.reg [rg 10 (.iad 1 (.t 6) (.t 8)),rg 11 (.load none (.t 10)),mv 5 11])
 (.reg [mv 12 3,mv 13 5,rg 14 (.call 86 [(.t 13)]),rg 15 (.call 85 [(.t 12),(.t 14)]),mv 3 15])))
 (.reg [rg 16 (.bin .add (.t 8) (.c (.i .i64 1))),mv 8 16]))))
 (.norm false [3,6,7,8]))
def b56:AX:=
 (.seq
 (.reg [rg 2 (.mov (.c (.sl [] .nl)))])
 (.seq
 (.reg [rg 3 (.mov (.c (.sl [] .nl)))])
 (.seq
 (.seq
 (.reg [mv 6 0,rg 7 (.len (.t 6)),rg 8 (.mov (.c (.i .i64 0)))])
 (.lp 0 (.norm false [3,6,7,8]) l56_0 (.norm false [3])))
 (.seq
 (.reg [mv 17 3,mv 2 17])
 (.pre (.norm false [2]) .ret)))))
def l88_0:AX:=
 (.note
 (.seq
 (.reg [rg 23 (.bin .lss (.t 22) (.t 21))])
 (.seq
 (.cond (.t 23)
 .skip
 (.exit 0))
 (.seq
 (.block 1
 (.seq
 (.reg [mv 24 22,mv 8 24])
 (.seq
 (.reg [rg 9 (.mov (.c (u32 0)))])
 (.seq
 (.seq
 (.reg [mv 25 8,mv 26 1,rg 27 (.len (.t 26)),rg 28 (.bin .lss (.t 25) (.t 27))])
 (.cond (.t 28)
 (.reg [mv 29 1,mv 30 8,rg 31 (.iad 1 (.t 29) (.t 30)),rg 32 (.load none (.t 31)),mv 9 32])
 .skip))
 (.reg [mv 34 6,mv 35 8,mv 36 0,mv 37 8,rg 38 (.iad 1 (.t 36) (.t 37)),rg 39 (.load none (.t 38)),mv 40 9,mv 41 7,rg 42 (.call 116 [(.t 39),(.t 40),(.t 41)]),mv 33 42,rg 43 (.ext (.t 33) 0),rg 44 (.ext (.t 33) 1),rg 45 (.iad 1 (.t 34) (.t 35)),so (.store 1 (.t 45) (.t 43)),mv 7 44])))))
 (.reg [rg 46 (.bin .add (.t 22) (.c (.i .i64 1))),mv 22 46]))))
 (.norm false [0,1,6,7,21,22]))
def b88:AX:=
 (.seq
 (.reg [rg 4 (.mov (.c (.sl [] .nl))),rg 5 (.mov (.c (.b false)))])
 (.seq
 (.reg [mv 10 0,rg 11 (.call 86 [(.t 10)]),mv 12 1,rg 13 (.call 86 [(.t 12)]),mv 0 11,mv 1 13])
 (.seq
 (.seq
 (.reg [mv 14 0,mv 15 1,rg 16 (.call 87 [(.t 14),(.t 15)]),rg 17 (.bin .lss (.t 16) (.c (.i .i64 0)))])
 (.cond (.t 17)
 (.seq
 (.reg [rg 4 (.mov (.c (.sl [] .nl))),rg 5 (.mov (.c (.b false)))])
 (.pre (.norm false [4,5]) .ret))
 .skip))
 (.seq
 (.reg [mv 18 0,rg 19 (.call 2106 [(.t 18),(.c (.i .i64 0))]),mv 6 19])
 (.seq
 (.reg [rg 7 (.mov (.c (u32 0)))])
 (.seq
 (.seq
 (.reg [mv 20 0,rg 21 (.len (.t 20)),rg 22 (.mov (.c (.i .i64 0)))])
 (.lp 0 (.norm false [0,1,6,7,21,22]) l88_0 (.norm false [6])))
 (.seq
 (.reg [mv 47 6,rg 48 (.call 86 [(.t 47)]),mv 4 48,rg 5 (.mov (.c (.b true)))])
 (.pre (.norm false [4,5]) .ret))))))))
def b57:AX:=
 (.seq
 (.reg [rg 4 (.mov (.c (.sl [] .nl))),rg 5 (.mov (.c (.i .i64 0)))])
 (.seq
 (.reg [mv 9 0,mv 10 1,rg 11 (.call 87 [(.t 9),(.t 10)]),mv 6 11])
 (.seq
 (.seq
 (.reg [mv 12 6,rg 13 (.bin .lss (.t 12) (.c (.i .i64 0)))])
 (.cond (.t 13)
 (.reg [mv 14 1,mv 15 0,mv 0 14,mv 1 15])
 .skip))
 (.seq
 (.reg [mv 17 0,mv 18 1,rg 19 (.call 88 [(.t 17),(.t 18)]),mv 16 19,rg 20 (.ext (.t 16) 0),rg 21 (.ext (.t 16) 1),mv 7 20,mv 8 21])
 (.seq
 (.reg [mv 22 7,mv 23 6,mv 4 22,mv 5 23])
 (.pre (.norm false [4,5]) .ret))))))
def b2106:AX:=
 (.seq
 (.reg [rg 4 (.mov (.c (.sl [] .nl)))])
 (.seq
 (.reg [mv 6 0,rg 7 (.len (.t 6)),mv 8 1,rg 9 (.bin .add (.t 7) (.t 8)),rg 10 (.mks 1 [(u32 0)] (.t 9) (.t 9)),mv 5 10])
 (.seq
 (.reg [mv 11 5,mv 12 0,rg 13 (.xop .cpy [(.t 11),(.t 12)])])
 (.seq
 (.reg [mv 14 5,mv 4 14])
 (.pre (.norm false [4]) .ret)))))
def row86:AFx:=⟨1,21,[.t 2],b86,none,false⟩
def row106:AFx:=⟨2,15,[.t 4],b106,none,false⟩
def row71:AFx:=⟨1,6,[.t 2],b71,none,false⟩
def row72:AFx:=⟨1,10,[.t 2],b72,none,false⟩
def row73:AFx:=⟨1,28,[.t 2,.t 3],b73,none,false⟩
def row70:AFx:=⟨1,7,[.t 2],b70,none,false⟩
def row87:AFx:=⟨2,49,[.t 4],b87,none,false⟩
def row85:AFx:=⟨2,52,[.t 4],b85,none,false⟩
def row56:AFx:=⟨1,18,[.t 2],b56,none,false⟩
def row88:AFx:=⟨2,49,[.t 4,.t 5],b88,none,false⟩
def row57:AFx:=⟨2,24,[.t 4,.t 5],b57,none,false⟩
def row2106:AFx:=⟨2,15,[.t 4],b2106,(some [false,false]),false⟩
class Zq (T:Tbl):Prop extends Z0 T where
 h86:T 86=some row86
 h106:T 106=some row106
 h71:T 71=some row71
 h72:T 72=some row72
 h73:T 73=some row73
 h70:T 70=some row70
 h87:T 87=some row87
 h85:T 85=some row85
 h56:T 56=some row56
 h88:T 88=some row88
 h57:T 57=some row57
 h2106:T 2106=some row2106
section
variable{T:Tbl}[Zq T]{d:Option Nat}{st:St}
@[simp] theorem x86(xs:List AV):Zc (orc T) T 86 xs d st=cP T 86 false xs d st:=zaa Zq.h86
@[simp] theorem x106(xs:List AV):Zc (orc T) T 106 xs d st=cP T 106 false xs d st:=zaa Zq.h106
@[simp] theorem x71(xs:List AV):Zc (orc T) T 71 xs d st=cP T 71 false xs d st:=zaa Zq.h71
@[simp] theorem y71{e:Env}{h:Heap}{older:List Heap}(args:List Opd):opD (orc T) T (.call 71 args) e h older=dR (Za T 71 ((args.map (ev e.get)).map (wkIf false))) (args.map (ev e.get)):=zaj Zq.h71
@[simp] theorem x72(xs:List AV):Zc (orc T) T 72 xs d st=cP T 72 false xs d st:=zaa Zq.h72
@[simp] theorem y72{e:Env}{h:Heap}{older:List Heap}(args:List Opd):opD (orc T) T (.call 72 args) e h older=dR (Za T 72 ((args.map (ev e.get)).map (wkIf false))) (args.map (ev e.get)):=zaj Zq.h72
@[simp] theorem x73(xs:List AV):Zc (orc T) T 73 xs d st=cP T 73 false xs d st:=zaa Zq.h73
@[simp] theorem x70(xs:List AV):Zc (orc T) T 70 xs d st=cP T 70 false xs d st:=zaa Zq.h70
@[simp] theorem x87(xs:List AV):Zc (orc T) T 87 xs d st=cP T 87 false xs d st:=zaa Zq.h87
@[simp] theorem x85(xs:List AV):Zc (orc T) T 85 xs d st=cP T 85 false xs d st:=zaa Zq.h85
@[simp] theorem x56(xs:List AV):Zc (orc T) T 56 xs d st=cP T 56 false xs d st:=zaa Zq.h56
@[simp] theorem y56{e:Env}{h:Heap}{older:List Heap}(args:List Opd):opD (orc T) T (.call 56 args) e h older=dR (Za T 56 ((args.map (ev e.get)).map (wkIf false))) (args.map (ev e.get)):=zaj Zq.h56
@[simp] theorem x88(xs:List AV):Zc (orc T) T 88 xs d st=cP T 88 false xs d st:=zaa Zq.h88
@[simp] theorem x57(xs:List AV):Zc (orc T) T 57 xs d st=cP T 57 false xs d st:=zaa Zq.h57
@[simp] theorem x2106(xs:List AV):Zc (orc T) T 2106 xs d st=bL (Zek st.heap [false,false] xs) fun ys=>Zd1 ys (Zh (Zay [false,false] xs) st.heap) (Zcv (Zh (Zay [false,false] xs) st.heap) 40 (Zck [false,false] xs) []) T 2106 false d st:=zaw Zq.h2106
end
def val:List UInt32→Nat
 | []=>0
 | x::l=>x.toNat+4294967296*val l
def ofN(n:Nat):List UInt32:=if n=0 then [] else w32 n::ofN (n/4294967296)
termination_by n
decreasing_by omega
def Zjo(l:List UInt32):Prop:=∀x,l.getLast? = some x→x.toNat≠0
@[simp] theorem za5:val []=0:=rfl
@[simp] theorem zal(x:UInt32)(l:List UInt32):val (x::l)=x.toNat+4294967296*val l:=rfl
@[simp] theorem zlb:ofN 0=[]:=by rw[ofN];rfl
theorem zgi{n:Nat}(h:n≠0):ofN n=w32 n::ofN (n/4294967296):=by rw[ofN,if_neg h]
theorem zb1(n:Nat):(w32 n).toNat=n%4294967296:=zbj n
theorem z1j{x:UInt32}{n:Nat}(h:n%4294967296=x.toNat):w32 n=x:=by
 rw[←Yed,zb1,h]
theorem zae(n:Nat):val (ofN n)=n:=by
 induction n using Nat.strongRecOn with
 | _ n ih=>
  by_cases h:n=0
  ·subst h;simp
  ·rw[zgi h,zal,ih (n/4294967296) (by omega),zb1];omega
theorem zai(l m:List UInt32):val (l++m)=val l+4294967296^l.length*val m:=by
 induction l with
 | nil=>simp
 | cons x l ih=>
  simp only[Ybm,zal,ih,Ym,Y4,Yag,Ya6];congr 2;rw[←Y3,Yaf 4294967296 (4294967296^l.length)]
theorem za0(l:List UInt32):val l<4294967296^l.length:=by
 induction l with
 | nil=>simp
 | cons x l ih=>
  have:=zak x;simp only[zal,Ym,Y4];omega
theorem zj6{x:UInt32}{l:List UInt32}(h:Zjo (x::l)):Zjo l:=by
 intro y hy;apply h;cases l with
 | nil=>simp at hy
 | cons z l=>rw[List.getLast?_cons_cons];exact hy
theorem z0l{l:List UInt32}(h:Zjo l):val l=0↔l=[]:=by
 constructor
 ·intro h0
  induction l with
  | nil=>rfl
  | cons x l ih=>
   exfalso;simp only[zal]at h0;have h1:=ih (zj6 h) (by omega);subst h1;exact h x (by simp) (by omega)
 ·rintro rfl;rfl
theorem z4w{l:List UInt32}(h:Zjo l):ofN (val l)=l:=by
 induction l with
 | nil=>simp
 | cons x l ih=>
  have hx:=zak x;have hne:val (x::l)≠0:=fun h0=>by have:=(z0l h).1 h0;cases this
  rw[zgi hne];congr 1
  ·exact z1j (by simp only[zal];omega)
  ·rw[show val (x::l)/4294967296=val l by simp only[zal];omega];exact ih (zj6 h)
theorem zas{n:Nat}:ofN n=[]↔n=0:=⟨fun h=>by rw[←zae n,h];rfl,fun h=>by rw[h];simp⟩
theorem zta{a:List UInt32}{n:Nat}(hn:n≤a.length)(h0:∀(i:Nat) (x:UInt32),n≤i→a[i]? = some x→x.toNat=0)(h1:∀x:UInt32,0<n→a[n-1]? = some x→x.toNat≠0):a.take n=ofN (val a):=by
 have hr:Zjo (a.take n):=by
  intro x hx;have hn0:0<n:=by
   rcases Yaw n with h | h
   ·subst h;simp at hx
   ·exact h
  apply h1 x hn0;rw[List.getLast?_eq_getElem?,Yaa,Ych hn,Yaj,if_pos (by omega)]at hx;exact hx
 have hz:∀l:List UInt32,(∀(i:Nat) (x:UInt32),l[i]? = some x→x.toNat=0)→val l=0:=by
  intro l
  induction l with
  | nil=>intro _;rfl
  | cons x l ih=>
   intro h;have h2:=h 0 x rfl;have h3:=ih fun i y hy=>h (i+1) y (by simpa using hy);simp only[zal,h2,h3]
 have hv:val a=val (a.take n):=by
  have e:=zai (a.take n) (a.drop n);rw[Yan,hz (a.drop n) (fun i x hx=>h0 (n+i) x (by omega) (by rw[Yao]at hx;exact hx))]at e;omega
 rw[hv,z4w hr]
theorem zfz(a:List UInt32):∃n,n≤a.length∧a.take n=ofN (val a)∧(∀(i:Nat) (x:UInt32),n≤i→a[i]? = some x→x.toNat=0)∧(∀x:UInt32,0<n→a[n-1]? = some x→x.toNat≠0):=by
 have key:∀k,k≤a.length→(∀(i:Nat) (x:UInt32),k≤i→a[i]? = some x→x.toNat=0)→∃n,n≤k∧(∀(i:Nat) (x:UInt32),n≤i→a[i]? = some x→x.toNat=0)∧(∀x:UInt32,0<n→a[n-1]? = some x→x.toNat≠0):=by
  intro k
  induction k with
  | zero=>intro _ h;exact⟨0,Ye _,h,fun x hx=>by omega⟩
  | succ k ih=>
   intro hk h;by_cases hz:(a[k]'(by omega)).toNat=0
   ·obtain⟨n,h1,h2,h3⟩:=ih (by omega) fun i x hi hx=>by
     rcases Yt k i with h4 | h4
     ·exact h i x h4 hx
     ·have:i=k:=by omega
      subst this;rw[Ya (by omega)]at hx;cases hx;exact hz
    exact⟨n,by omega,h2,h3⟩
   ·refine⟨k+1,Ye _,h,fun x _ hx=>?_⟩;rw[Yd0,Ya (by omega)]at hx;cases hx;exact hz
 obtain⟨n,h1,h2,h3⟩:=key a.length (Ye _) fun i x hi hx=>by rw[Ycv hi]at hx;cases hx
 exact⟨n,h1,zta h1 h2 h3,h2,h3⟩
theorem zad(a:List UInt32):(ofN (val a)).length≤a.length:=by
 obtain⟨n,h1,h2,_⟩:=zfz a;rw[←h2,Yaa];omega
theorem zag{n k:Nat}(h:n<4294967296^k):(ofN n).length≤k:=by
 induction k generalizing n with
 | zero=>
  have:n=0:=by simp at h;omega
  subst this;simp
 | succ k ih=>
  by_cases h0:n=0
  ·subst h0;simp
  ·rw[zgi h0,Ym];have:=ih (n:=n/4294967296) (by rw[Y4]at h;omega);omega
theorem zaf{a:List UInt32}{i:Nat}{x:UInt32}(h:a[i]? = some x):val (a.take (i+1))=val (a.take i)+4294967296^i*x.toNat:=by
 have hi:i<a.length:=by
  rcases Yt i a.length with h1 | h1
  ·exact h1
  ·rw[Ycv h1]at h;cases h
 rw[Ydf,h,zai];simp only[Option.toList_some,zal,za5,Yac,Yq,Yaa];rw[Ych (by omega)]
theorem zbs{a:List UInt32}{i:Nat}(x:UInt32)(h:i<a.length):val ((a.set i x).take (i+1))=val (a.take i)+4294967296^i*x.toNat:=by
 rw[zaf (x:=x) (by rw[Yas h]),List.take_set_of_le (Ye i)]
theorem zbf{a:List UInt32}{i:Nat}(h:a.length≤i):val (a.take i)=val a:=by rw[Yb h]
theorem zax(n:Nat):val (List.replicate n 0)=0:=by
 induction n with
 | zero=>rfl
 | succ n ih=>simp[Ybg,ih]
theorem zgj{m n:Nat}(h:(ofN m).length<(ofN n).length):m<n:=by
 rcases Yt m n with h1 | h1
 ·exact h1
 ·exfalso;have h2:=za0 (ofN m);rw[zae]at h2;have:=zag (show n<4294967296^(ofN m).length by omega);omega
theorem zat{m n:Nat}(h:m≤n):(ofN m).length≤(ofN n).length:=by
 rcases Yt (ofN n).length (ofN m).length with h1 | h1
 ·have:=zgj h1;omega
 ·exact h1
def Zdf(x y:Nat):Int:=if x<y then -1 else if y<x then 1 else 0
theorem zxm{a b:List UInt32}{i:Nat}{x y:UInt32}(hx:a[i]? = some x)(hy:b[i]? = some y)(h:x.toNat<y.toNat):val (a.take (i+1))<val (b.take (i+1)):=by
 rw[zaf hx,zaf hy];have h1:=za0 (a.take i);have h2:4294967296^(a.take i).length≤4294967296^i:=Yk (by decide) (by simp;omega);have h3:=Yx (4294967296^i) (show x.toNat+1≤y.toNat from h);rw[Yag]at h3;omega
theorem zlc{x y c:Nat}(hx:x<4294967296)(hy:y<4294967296)(hc:c≤1) :
  (x+8589934592-(y+c))%4294967296+(y+c)=x+4294967296*(2-(x+8589934592-(y+c))/4294967296)∧2-(x+8589934592-(y+c))/4294967296≤1:=by omega
def lls(l:List (List UInt32)):List (List AV):=l.map fun a=>[.sl (Zb a) .an]
@[simp] theorem z6v(l:List (List UInt32)):(lls l).length=l.length:=by simp[lls]
@[simp] theorem zak1(l:List (List UInt32)):wkL (lls l)=lls l:=by rw[zb3];simp[lls,wkR]
@[simp] theorem z4x(l:List (List UInt32))(i:Nat)(h:i<(lls l).length):(lls l)[i]=[.sl (Zb (l[i]'(by simpa using h))) .an]:=by simp[lls]
section
variable{T:Tbl}
theorem zvq(a:List UInt32)(hl:a.length<9223372036854775808){n:Nat}(hn:n≤a.length)(h0:∀(i:Nat) (x:UInt32),n≤i→a[i]? = some x→x.toNat=0)(h1:∀x:UInt32,0<n→a[n-1]? = some x→x.toNat≠0) :
  ∀m:Nat,(n≤m∧m≤a.length)→Zj T 0 0 (.norm false [0,3]) l86_0 ⟨[(0,.sl (Zb a) .an),(3,.i .i64 (m:Int))],[],2⟩=some (.n,⟨[(0,.sl (Zb a) .an),(3,.i .i64 (n:Int))],[],2⟩):=by
 refine zav (fun m:Nat=>⟨[(0,.sl (Zb a) .an),(3,.i .i64 (m:Int))],[],2⟩) _ (fun m=>m) _ ?_
 rintro m ⟨hm,hma⟩
 by_cases h2:m=0
 ·right;subst h2;have:n=0:=by omega
  subst this;constructor<;>simp[l86_0]
 ·have hw:IntKind.wrap .i64 ((m:Int)-1)=((m-1:Nat):Int):=by rw[zac _ (by omega)];omega
  have hm1:m-1<a.length:=by omega
  have hg:a[m-1]? = some (a[m-1]'hm1):=Ya hm1;have hpos:0<m:=by omega
  by_cases h3:m=n
  ·right;subst h3;have hx:=h1 _ hpos hg;constructor<;>simp[l86_0,hpos,hw,hm1,hx]
  ·left;refine⟨m-1,⟨by omega,by omega⟩,by show m-1<m;omega,?_,rfl⟩;have hx:=h0 (m-1) _ (by omega) hg;simp[l86_0,hpos,hw,hm1,hx]
end
section
variable{T:Tbl}[Zq T]
theorem zbt(a:List UInt32)(hl:a.length≤4294967296):Za T 86 [.sl (Zb a) .an]=some (.sl (Zb (ofN (val a))) .an):=by
 obtain⟨n,h1,h2,h3,h4⟩:=zfz a;have hr:=zvq (T:=T) a (by omega) h1 h3 h4 a.length ⟨h1,Ye _⟩;rw[zab Zq.h86 rfl,b86];simp[hr,h1,h2]
theorem zvr(a:List UInt32)(m:Nat)(hl:a.length+m≤4294967296):Za T 106 [.sl (Zb a) .an,.i .i64 (m:Int)]=some (.sl (Zb (a++List.replicate m 0)) .an):=by
 have hw:IntKind.wrap .i64 ((a.length:Int)+m)=((a.length+m:Nat):Int):=zac _ (by omega);have h0:(0:Int)≤(a.length:Int)+m:=by omega
 have h2:(a.length:Int)+m≤4294967296:=by omega
 have h3:((a.length:Int)+m).toNat=a.length+m:=by omega
 rw[zab Zq.h106 rfl,b106];simp[hw,h0,h2,h3,Yb]
theorem zci(a:List UInt32)(m:Nat)(hl:a.length+m≤4294967296):Zbz T 2106 [.sl (Zb a) .an,.i .i64 (m:Int)] [] =
  some (.bs (.loc 10) 1 1 0 (a.length+m),[(.loc 10,⟨1,.own,1,Zb (a++List.replicate m 0)⟩)]):=by
 have hw:IntKind.wrap .i64 ((a.length:Int)+m)=((a.length+m:Nat):Int):=zac _ (by omega);have h0:(0:Int)≤(a.length:Int)+m:=by omega
 have h2:(a.length:Int)+m≤4294967296:=by omega
 have h3:((a.length:Int)+m).toNat=a.length+m:=by omega
 rw[za9 Zq.h2106 rfl,b2106];simp[hw,h0,h2,h3]
theorem zbh(a:List UInt32)(hl:a.length≤4294967296):Za T 71 [.sl (Zb a) .an]=some (.sl (Zb (ofN (val a))) .an):=by
 have h1:=zad a;have h2:=zvr (T:=T) (ofN (val a)) 0 (by omega);simp only[Yw]at h2;rw[zab Zq.h71 rfl,b71];simp[zbt a hl,h2]
theorem zeq(n:Nat)(h:n<18446744073709551616):Za T 72 [u64 n]=some (.sl (Zb (ofN n)) .an):=by
 have e2:val [w32 n,w32 (n/4294967296)]=n:=by simp[zb1];omega
 have h2:=zbt (T:=T) [w32 n,w32 (n/4294967296)] (by simp);rw[e2]at h2;have h3:n/4294967296%4294967296=n/4294967296:=Yh (by omega);rw[zab Zq.h72 rfl,b72];simp[h3,zbg _ _ _ (show n/4294967296<4294967296 by omega),h2]
theorem zky(a:List UInt32)(hl:a.length≤4294967296):Za T 70 [.sl (Zb a) .an]=some (.b (decide (val a=0))):=by
 rw[zab Zq.h70 rfl,b70];have:((((ofN (val a)).length:Int) == 0))=decide (val a=0):=by
  rw[Ycf];simp[zas]
 simp[zbt a hl,this]
def Zgh(a b:List UInt32)(y:Nat×Nat×List UInt32):St:=
 ⟨[(0,.sl (Zb a) .an),(1,.sl (Zb b) .an),(5,.bs (.fld (.loc 17) 10) 1 1 0 (a.length+1)),(6,u32 y.2.1),(19,.i .i64 a.length),(20,.i .i64 y.1)],
  [(.fld (.loc 17) 10,⟨1,.own,1,Zb y.2.2⟩)],3⟩
theorem zmy(a b:List UInt32)(hb:b.length≤a.length)(hl:a.length≤1000000):∀y:Nat×Nat×List UInt32,
  (y.1≤a.length∧y.2.1≤1∧y.2.2.length=a.length+1∧val (y.2.2.take y.1)+4294967296^y.1*y.2.1=val (a.take y.1)+val (b.take y.1)) →
  ∃r,(∃(c:Nat) (out:List UInt32),r=(Ex.n,(⟨[(0,.sl (Zb a) .an),(5,.bs (.fld (.loc 17) 10) 1 1 0 (a.length+1)),(6,u32 c)],[(.fld (.loc 17) 10,⟨1,.own,1,Zb out⟩)],3⟩:St)) ∧
   out.length=a.length+1∧c≤1∧val (out.take a.length)+4294967296^a.length*c=val a+val b)∧Zj T 0 0 (.norm false [0,5,6]) l85_0 (Zgh a b y)=some r:=by
 refine zar _ _ (fun y=>a.length-y.1) _ ?_
 rintro⟨i,c,out⟩ ⟨hi,hc,ho,hv⟩
 simp only at hi hc ho hv;by_cases h0:i<a.length
 ·left;have ha:a[i]? = some (a[i]'h0):=Ya h0;have hoi:i<out.length:=by omega
  have hog:out[i]? = some (out[i]'hoi):=Ya hoi;have hw:IntKind.wrap .i64 ((i:Int)+1)=((i+1:Nat):Int):=zac _ (by omega);have hc2:c<4294967296:=by omega
  have hil:(i:Int)<(a.length:Int)+1:=by omega
  have h1:=zaf ha;by_cases h2:i<b.length
  ·have hbg:b[i]? = some (b[i]'h2):=Ya h2;have h3:=zaf hbg;refine⟨(i+1,((a[i]'h0).toNat+(b[i]'h2).toNat+c)/4294967296,out.set i (w32 ((a[i]'h0).toNat+(b[i]'h2).toNat+c))),⟨by simp only;omega,?_,by simp[ho],?_⟩,by simp only;omega,?_⟩
   ·have:=zak (a[i]'h0);have:=zak (b[i]'h2);simp only;omega
   ·simp only;rw[zbs _ hoi,h1,h3,zb1,Y4];generalize 4294967296^i=p at *
    generalize (a[i]'h0).toNat=x at *
    generalize (b[i]'h2).toNat=z at *
    have e:=Ybs (x+z+c) 4294967296;have e2:p*((x+z+c)%4294967296)+p*4294967296*((x+z+c)/4294967296)=p*(x+z+c):=by
     conv=>rhs;rw[←e]
     rw[Yag,Y3];omega
    rw[Yag,Yag]at e2;omega
   ·simp[l85_0,Zgh,h0,h2,hog,hw,hil,zd1,hc2]
  ·have h3:val (b.take (i+1))=val (b.take i):=by rw[zbf (by omega),zbf (by omega)]
   refine⟨(i+1,((a[i]'h0).toNat+0+c)/4294967296,out.set i (w32 ((a[i]'h0).toNat+0+c))),⟨by simp only;omega,?_,by simp[ho],?_⟩,by simp only;omega,?_⟩
   ·have:=zak (a[i]'h0);simp only;omega
   ·simp only;rw[zbs _ hoi,h1,h3,zb1,Y4];generalize 4294967296^i=p at *
    generalize (a[i]'h0).toNat=x at *
    have e:=Ybs (x+0+c) 4294967296;have e2:p*((x+0+c)%4294967296)+p*4294967296*((x+0+c)/4294967296)=p*(x+0+c):=by
     conv=>rhs;rw[←e]
     rw[Yag,Y3];omega
    rw[Yag,Yag]at e2;omega
   ·simp[l85_0,Zgh,h0,h2,hog,hw,hil,zd1,hc2]
 ·right;have:i=a.length:=by omega
  subst this;rw[Yb (Ye _),Yb hb]at hv;refine⟨_,⟨c,out,rfl,ho,hc,hv⟩,?_,?_⟩<;>simp[l85_0,Zgh]
theorem zvs(a b:List UInt32)(hb:b.length≤a.length)(hl:a.length≤1000000):Za T 85 [.sl (Zb a) .an,.sl (Zb b) .an]=some (.sl (Zb (ofN (val a+val b))) .an):=by
 have hf:=zci (T:=T) a 1 (by omega);simp only[Yar]at hf;obtain⟨_,⟨c,out,rfl,ho,hc,hv⟩,hr⟩:=zmy (T:=T) a b hb hl (0,0,a++List.replicate 1 0) ⟨Yo _,Yo _,by simp,by simp⟩;unfold Zgh at hr;simp at hr;have hog:out[a.length]? = some (out[a.length]'(by omega)):=Ya _;have h1:¬ (a.length:Int)<b.length:=by omega
 have h2:¬ a.length<b.length:=by omega
 have h3:(a.length:Int)<(a.length:Int)+1:=by omega
 have hval:val (out.set a.length (w32 c))=val a+val b:=by
  rw[←Yb (l:=out.set a.length (w32 c)) (i:=a.length+1) (by simp;omega),zbs _ (by omega),zah (by omega)];exact hv
 have ht:=zbt (T:=T) (out.set a.length (w32 c)) (by simp;omega);rw[hval]at ht;have htk:List.take (a.length+1) (out.set a.length (w32 c))=out.set a.length (w32 c):=Yb (by simp;omega);rw[zab Zq.h85 rfl,b85];simp[h1,hf,hr,h3,zbg _ _ _ (show c<4294967296 by omega),htk,ht,ho]
theorem zsh(a b:List UInt32)(hb:a.length<b.length)(hl:b.length≤1000000):Za T 85 [.sl (Zb a) .an,.sl (Zb b) .an]=some (.sl (Zb (ofN (val a+val b))) .an):=by
 have hf:=zci (T:=T) b 1 (by omega);simp only[Yar]at hf;obtain⟨_,⟨c,out,rfl,ho,hc,hv⟩,hr⟩:=zmy (T:=T) b a (by omega) hl (0,0,b++List.replicate 1 0) ⟨Yo _,Yo _,by simp,by simp⟩;unfold Zgh at hr;simp at hr;have hog:out[b.length]? = some (out[b.length]'(by omega)):=Ya _;have h1:(a.length:Int)<b.length:=by omega
 have h3:(b.length:Int)<(b.length:Int)+1:=by omega
 have hval:val (out.set b.length (w32 c))=val a+val b:=by
  rw[←Yb (l:=out.set b.length (w32 c)) (i:=b.length+1) (by simp;omega),zbs _ (by omega),zah (by omega),hv,Ybl]
 have ht:=zbt (T:=T) (out.set b.length (w32 c)) (by simp;omega);rw[hval]at ht;have htk:List.take (b.length+1) (out.set b.length (w32 c))=out.set b.length (w32 c):=Yb (by simp;omega);rw[zab Zq.h85 rfl,b85];simp[h1,hf,hr,h3,zbg _ _ _ (show c<4294967296 by omega),htk,ht,ho]
theorem zzk(a b:List UInt32)(ha:a.length≤1000000)(hb:b.length≤1000000):Za T 85 [.sl (Zb a) .an,.sl (Zb b) .an]=some (.sl (Zb (ofN (val a+val b))) .an):=by
 rcases Yt a.length b.length with h | h
 ·exact zsh a b h hb
 ·exact zvs a b h ha
def Zd7(l:List (List UInt32)):Nat:=(l.map val).sum
theorem zzl(K:Nat):∀m:List (List UInt32),m.length≤1000→(∀a∈m,a.length≤K)→(ofN (Zd7 m)).length≤K+1:=by
 intro m hm hw;apply zag;rw[Y4];have hp0:0<4294967296^K:=Ya0 (by decide);have hall:∀a∈m,val a<4294967296^K:=fun a ha=>Yp (za0 a) (Yk (by decide) (hw a ha));generalize 4294967296^K=p at *
 have h1:Zd7 m≤m.length*p:=by
  clear hm hw
  induction m with
  | nil=>simp[Zd7]
  | cons a m ih=>
   have h2:=ih fun a ha=>hall a (Ys _ ha);have h3:=hall a Y9;simp only[Zd7,Yy,Ycw,Ym,Ybw,Yd9]at h2 ⊢;omega
 have h6:=Yu p hm;omega
theorem zzm(l:List (List UInt32))(hl:l.length≤1000)(hw:∀a∈l,a.length≤90000):∀i:Nat,i≤l.length →
  Zj T 0 0 (.norm false [3]) l56_0 ⟨[(3,.sl (Zb (ofN (Zd7 (l.take i)))) .an),(6,.sl (lls l) .an),(7,.i .i64 l.length),(8,.i .i64 i)],[],2⟩=some (.n,⟨[(3,.sl (Zb (ofN (Zd7 l))) .an)],[],2⟩):=by
 refine zav (fun i:Nat=>⟨[(3,.sl (Zb (ofN (Zd7 (l.take i)))) .an),(6,.sl (lls l) .an),(7,.i .i64 l.length),(8,.i .i64 i)],[],2⟩) _ (fun i=>l.length-i) _ ?_;intro i hi;by_cases h0:i<l.length
 ·left;have hg:l[i]? = some (l[i]'h0):=Ya h0;have hwr:IntKind.wrap .i64 ((i:Int)+1)=((i+1:Nat):Int):=zac _ (by omega);have hw1:=hw _ (Yr h0);have ht:=zbt (T:=T) (l[i]'h0) (by omega);have hs:=zzl 90000 (l.take i) (by simp;omega) fun a ha=>hw a (Yav ha);have hp:=zzk (T:=T) (ofN (Zd7 (l.take i))) (ofN (val (l[i]'h0))) (by omega) (by have:=zad (l[i]'h0);omega);rw[zae,zae]at hp;have e:Zd7 (l.take i)+val (l[i]'h0)=Zd7 (l.take (i+1)):=by
   unfold Zd7;rw[Ydf,hg];simp only[Option.toList_some,Yct,Yy,Ycp,List.sum_append,Ycw,List.sum_nil,Yq]
  rw[e]at hp;have hz:Zjt 1 (lls l)=true:=by cases l<;>simp[lls,Zjt]
  refine⟨i+1,h0,by show l.length-(i+1)<l.length-i;omega,?_,rfl⟩;simp[l56_0,h0,ht,hp,hwr]
 ·right;have:i=l.length:=by omega
  subst this;rw[Yb (Ye _)];constructor<;>simp[l56_0]
theorem zqr(l:List (List UInt32))(hl:l.length≤1000)(hw:∀a∈l,a.length≤90000):Za T 56 [.sl (lls l) .an]=some (.sl (Zb (ofN (Zd7 l))) .an):=by
 have h:=zzm (T:=T) l hl hw 0 (Yo _);simp[Zd7]at h;rw[zab Zq.h56 rfl,b56];simp[h,Zd7]
theorem zvt(l:List (List UInt32))(hl:l.length≤1000)(hw:∀a∈l,a.length≤10000):Za T 56 [.sl (lls l) .an]=some (.sl (Zb (ofN (Zd7 l))) .an):=zqr (T:=T) l hl (fun a h=>Yc (hw a h) (by decide))
end
section
variable{T:Tbl}
theorem zzn(a b:List UInt32)(hab:a.length=b.length)(hl:a.length≤1000000):∀m:Nat,m≤a.length →
  Zj T 0 1 (.norm false []) l87_0 ⟨[(0,.sl (Zb a) .an),(1,.sl (Zb b) .an),(5,.i .i64 ((m:Int)-1))],[],2⟩ =
   if val (a.take m)<val (b.take m) then some (.r,⟨[(4,.i .i64 (-1))],[],2⟩) else if val (b.take m)<val (a.take m) then some (.r,⟨[(4,.i .i64 1)],[],2⟩) else some (.n,⟨[],[],2⟩):=by
 refine zav (fun m:Nat=>⟨[(0,.sl (Zb a) .an),(1,.sl (Zb b) .an),(5,.i .i64 ((m:Int)-1))],[],2⟩) _ (fun m=>m) _ ?_;intro m hm;cases m with
 | zero=>
  right;constructor<;>simp[l87_0]
 | succ i=>
  have ha:a[i]? = some (a[i]'(by omega)):=Ya _;have hb:b[i]? = some (b[i]'(by omega)):=Ya _;have hia:i<a.length:=by omega
  have hib:i<b.length:=by omega
  have hw:IntKind.wrap .i64 ((i:Int)-1)=(i:Int)-1:=zac _ (by omega);rcases Yce (a[i]'hia).toNat (b[i]'hib).toNat with h1 | h1 | h1
  ·right;have h2:=zxm ha hb h1;constructor<;>simp[l87_0,hia,hib,h1,h2]
  ·left;refine⟨i,by omega,Yz i,?_,?_⟩
   ·simp[l87_0,hia,hib,h1,hw]
   ·have e1:=zaf ha;have e2:=zaf hb;rw[e1,e2,h1];have e3:(val (a.take i)+4294967296^i*(b[i]'hib).toNat<val (b.take i)+4294967296^i*(b[i]'hib).toNat)=(val (a.take i)<val (b.take i)):=by
     apply propext;omega
    have e4:(val (b.take i)+4294967296^i*(b[i]'hib).toNat<val (a.take i)+4294967296^i*(b[i]'hib).toNat)=(val (b.take i)<val (a.take i)):=by
     apply propext;omega
    simp only[e3,e4]
  ·right;have h2:=zxm hb ha h1;have h3:¬ val (a.take (i+1))<val (b.take (i+1)):=by omega
   have h4:¬ (a[i]'hia).toNat<(b[i]'hib).toNat:=by omega
   constructor<;>simp[l87_0,hia,hib,h1,h2,h3,h4]
end
section
variable{T:Tbl}[Zq T]
theorem zh6(a b:List UInt32)(ha:a.length≤1000000)(hb:b.length≤1000000):Za T 87 [.sl (Zb a) .an,.sl (Zb b) .an]=some (.i .i64 (Zdf (val a) (val b))):=by
 have hta:=zbt (T:=T) a (by omega);have htb:=zbt (T:=T) b (by omega);have hla:=zad a;have hlb:=zad b;rw[zab Zq.h87 rfl,b87];rcases Yce (ofN (val a)).length (ofN (val b)).length with h | h | h
 ·have h1:=zgj h;simp[hta,htb,h,Zdf,h1]
 ·have hc:=zzn (T:=T) (ofN (val a)) (ofN (val b)) h (by omega) (ofN (val a)).length (Ye _);rw[Yb (Ye _),Yb (by omega),zae,zae]at hc;have hw:IntKind.wrap .i64 (((ofN (val a)).length:Int)-1)=((ofN (val a)).length:Int)-1:=zac _ (by omega);have h1:¬ (ofN (val a)).length<(ofN (val b)).length:=by omega
  have h2:¬ (ofN (val b)).length<(ofN (val a)).length:=by omega
  simp[hta,htb,h1,h2,hw,hc,Zdf]
  repeat' split
  all_goals simp
 ·have h1:=zgj h;have h2:¬ val a<val b:=by omega
  have h3:¬ (ofN (val a)).length<(ofN (val b)).length:=by omega
  simp[hta,htb,h,Zdf,h1,h2,h3]
def Zje(a b:List UInt32)(y:Nat×Nat×List UInt32):St:=
 ⟨[(0,.sl (Zb a) .an),(1,.sl (Zb b) .an),(6,.bs (.fld (.loc 19) 10) 1 1 0 a.length),(7,u32 y.2.1),(21,.i .i64 a.length),(22,.i .i64 y.1)],
  [(.fld (.loc 19) 10,⟨1,.own,1,Zb y.2.2⟩)],3⟩
theorem zzo(a b:List UInt32)(hb:b.length≤a.length)(hl:a.length≤1000000):∀y:Nat×Nat×List UInt32,
  (y.1≤a.length∧y.2.1≤1∧y.2.2.length=a.length∧val (y.2.2.take y.1)+val (b.take y.1)=val (a.take y.1)+4294967296^y.1*y.2.1) →
  ∃r,(∃(c:Nat) (out:List UInt32),r=(Ex.n,(⟨[(6,.bs (.fld (.loc 19) 10) 1 1 0 a.length)],[(.fld (.loc 19) 10,⟨1,.own,1,Zb out⟩)],3⟩:St)) ∧
   out.length=a.length∧c≤1∧val out+val b=val a+4294967296^a.length*c)∧Zj T 0 0 (.norm false [6]) l88_0 (Zje a b y)=some r:=by
 refine zar _ _ (fun y=>a.length-y.1) _ ?_
 rintro⟨i,c,out⟩ ⟨hi,hc,ho,hv⟩
 simp only at hi hc ho hv;by_cases h0:i<a.length
 ·left;have ha:a[i]? = some (a[i]'h0):=Ya h0;have hoi:i<out.length:=by omega
  have hog:out[i]? = some (out[i]'hoi):=Ya hoi;have hw:IntKind.wrap .i64 ((i:Int)+1)=((i+1:Nat):Int):=zac _ (by omega);have hc2:c<4294967296:=by omega
  have hx:=zak (a[i]'h0);have h1:=zaf ha;have fin:∀z:Nat,z<4294967296→val (b.take (i+1))=val (b.take i)+4294967296^i*z →
    val ((out.set i (w32 ((a[i]'h0).toNat+8589934592-(z+c)))).take (i+1))+val (b.take (i+1))=val (a.take (i+1))+4294967296^(i+1)*(2-((a[i]'h0).toNat+8589934592-(z+c))/4294967296):=by
   intro z hz h3;have hs:=(zlc hx hz hc).1;rw[zbs _ hoi,h1,h3,zb1,Y4];generalize 4294967296^i=p at *
   generalize (a[i]'h0).toNat=x at *
   generalize (x+8589934592-(z+c))%4294967296=s at *
   generalize 2-(x+8589934592-(z+c))/4294967296=d at *
   have e2:p*s+p*(z+c)=p*x+p*4294967296*d:=by rw[←Yag,hs,Yag,Y3]
   rw[Yag]at e2;omega
  by_cases h2:i<b.length
  ·have hbg:b[i]? = some (b[i]'h2):=Ya h2;have h3:=zaf hbg;refine⟨(i+1,2-((a[i]'h0).toNat+8589934592-((b[i]'h2).toNat+c))/4294967296,out.set i (w32 ((a[i]'h0).toNat+8589934592-((b[i]'h2).toNat+c)))),⟨h0,(zlc hx (zak _) hc).2,by simp[ho],fin _ (zak _) h3⟩,by simp only;omega,?_⟩;simp[l88_0,Zje,h0,h2,hog,hw,zfl,hc2]
  ·have h3:val (b.take (i+1))=val (b.take i)+4294967296^i*0:=by rw[zbf (by omega),zbf (by omega)];simp
   refine⟨(i+1,2-((a[i]'h0).toNat+8589934592-(0+c))/4294967296,out.set i (w32 ((a[i]'h0).toNat+8589934592-(0+c)))),⟨h0,(zlc hx (by decide) hc).2,by simp[ho],fin 0 (by decide) h3⟩,by simp only;omega,?_⟩;simp[l88_0,Zje,h0,h2,hog,hw,zfl,hc2]
 ·right;have:i=a.length:=by omega
  subst this;rw[Yb (Ye _),Yb hb,Yb (by omega)]at hv;refine⟨_,⟨c,out,rfl,ho,hc,hv⟩,?_,?_⟩<;>simp[l88_0,Zje]
theorem zcp{x y:Nat}:Zdf x y<0↔x<y:=by
 unfold Zdf;split
 ·simp[*]
 ·split<;>simp[*]
theorem zvu(a b:List UInt32)(ha:a.length≤1000000)(hb:b.length≤1000000):Za T 88 [.sl (Zb a) .an,.sl (Zb b) .an] =
  some (if val a<val b then .tup [.sl [] .an,.b false] else .tup [.sl (Zb (ofN (val a-val b))) .an,.b true]):=by
 have hta:=zbt (T:=T) a (by omega);have htb:=zbt (T:=T) b (by omega);have hla:=zad a;have hlb:=zad b;have hc:=zh6 (T:=T) (ofN (val a)) (ofN (val b)) (by omega) (by omega);rw[zae,zae]at hc;rw[zab Zq.h88 rfl,b88];by_cases h:val a<val b
 ·simp[hta,htb,hc,zcp,h]
 ·have hle:=zat (show val b≤val a by omega);have hf:=zci (T:=T) (ofN (val a)) 0 (by omega);simp only[Yw,Yq,List.replicate_zero,Ybf]at hf;obtain⟨_,⟨c,out,rfl,ho,hc1,hv⟩,hr⟩:=zzo (T:=T) (ofN (val a)) (ofN (val b)) hle (by omega) (0,0,ofN (val a)) ⟨Yo _,Yo _,rfl,by simp⟩;unfold Zje at hr;simp at hr;rw[zae,zae]at hv;have hlt:=za0 out;rw[ho]at hlt;have hc0:c=0:=by
   rcases Yaw c with h1 | h1
   ·exact h1
   ·have:c=1:=by omega
    subst this;omega
  subst hc0;have hval:val out=val a-val b:=by omega
  have ht:=zbt (T:=T) out (by omega);rw[hval]at ht;have htk:List.take (ofN (val a)).length out=out:=Yb (by omega);simp[hta,htb,hc,zcp,h,hf,hr,ho,htk,ht]
theorem z3k(a b:List UInt32)(ha:a.length≤1000000)(hb:b.length≤1000000):Za T 57 [.sl (Zb a) .an,.sl (Zb b) .an] =
  some (.tup [.sl (Zb (ofN (if val a<val b then val b-val a else val a-val b))) .an,.i .i64 (Zdf (val a) (val b))]):=by
 have hc:=zh6 (T:=T) a b ha hb;rw[zab Zq.h57 rfl,b57];by_cases h:val a<val b
 ·have h2:¬ val b<val a:=by omega
  have hs:=zvu (T:=T) b a hb ha;rw[if_neg h2]at hs;simp[hc,zcp,h,hs]
 ·have hs:=zvu (T:=T) a b ha hb;rw[if_neg h]at hs;simp[hc,zcp,h,hs]
theorem zzp{x y:Nat}(hx:x<4294967296):x ||| (y*4294967296)=x+y*4294967296:=by
 have:=Ycu (i:=32) hx y;rw[Nat.or_comm,Yaf y,show (4294967296:Nat)=2^32 from rfl,←this];omega
end
section
variable{T:Tbl}
theorem zsi(l:List UInt32)(hl:l.length≤2):∀i:Nat,i≤l.length →
  Zj T 0 0 (.norm false [4]) l73_0 ⟨[(4,u64 (val (l.take i))),(12,.sl (Zb l) .an),(13,.i .i64 l.length),(14,.i .i64 i)],[],2⟩=some (.n,⟨[(4,u64 (val l))],[],2⟩):=by
 refine zav (fun i:Nat=>⟨[(4,u64 (val (l.take i))),(12,.sl (Zb l) .an),(13,.i .i64 l.length),(14,.i .i64 i)],[],2⟩) _ (fun i=>l.length-i) _ ?_;intro i hi;by_cases h0:i<l.length
 ·left;have hg:l[i]? = some (l[i]'h0):=Ya h0;have hx:=zak (l[i]'h0);have h1:=zaf hg;refine⟨i+1,h0,by show l.length-(i+1)<l.length-i;omega,?_,rfl⟩;rcases(show i=0∨i=1 by omega) with rfl | rfl
  ·simp[l73_0,h0,h1]
  ·have h2:val (l.take 1)<4294967296:=by
    have:=za0 (l.take 1);have h3:(l.take 1).length=1:=by simp;omega
    rw[h3]at this;simpa using this
   have e1:(l[1]'h0).toNat*4294967296%18446744073709551616=(l[1]'h0).toNat*4294967296:=Yh (by omega);have e2:=zzp (y:=(l[1]'h0).toNat) h2;have e3:(val (l.take 1)+(l[1]'h0).toNat*4294967296)%18446744073709551616=val (l.take 1)+(l[1]'h0).toNat*4294967296:=Yh (by omega);have e4:val (l.take 1)+(l[1]'h0).toNat*4294967296=val (l.take (1+1)):=by rw[h1];omega
   simp at e4;have h0':(1:Int)<(l.length:Int):=by omega
   have e5:val (List.take 2 l)<18446744073709551616:=by omega
   simp[l73_0,h0,h0',e1,e2,e4,e5]
 ·right;have:i=l.length:=by omega
  subst this;rw[Yb (Ye _)];constructor<;>simp[l73_0]
end
section
variable{T:Tbl}[Zq T]
theorem zmz(a:List UInt32)(ha:a.length≤1000000):Za T 73 [.sl (Zb a) .an] =
  some (if val a<18446744073709551616 then .tup [u64 (val a),.b true] else .tup [u64 0,.b false]):=by
 have hta:=zbt (T:=T) a (by omega);have hla:=zad a;have hv:=zae (val a);rw[zab Zq.h73 rfl,b73];generalize hl:ofN (val a)=l at *
 by_cases h:2<l.length
 ·have h2:¬ val a<18446744073709551616:=by
   intro h3;have:=zag (show val a<4294967296^2 from h3);rw[hl]at this;omega
  have h3:(2:Int)<(l.length:Int):=by omega
  simp[hta,h3,h2]
 ·have h2:val a<18446744073709551616:=by
   have:=za0 l;rw[hv]at this;have h3:4294967296^l.length≤4294967296^2:=Yk (by decide) (by omega);omega
  have h3:¬ (2:Int)<(l.length:Int):=by omega
  have hs:=zsi (T:=T) l (by omega) 0 (Yo _);simp at hs;simp[hta,h3,h2,hs,hv]
end
def l89_0:AX:=
 (.note
 (.seq
 (.reg [rg 15 (.bin .lss (.t 14) (.t 13))])
 (.seq
 (.cond (.t 15)
 .skip
 (.exit 0))
 (.seq
 (.block 1
 (.seq
 (.reg [mv 16 14,rg 17 (.iad 1 (.t 12) (.t 14)),rg 18 (.load none (.t 17)),mv 10 16,mv 11 18])
 (.reg [mv 20 0,mv 21 1,mv 22 10,rg 23 (.bin .add (.t 21) (.t 22)),mv 24 3,mv 25 11,mv 26 0,mv 27 1,mv 28 10,rg 29 (.bin .add (.t 27) (.t 28)),rg 30 (.iad 1 (.t 26) (.t 29)),rg 31 (.load none (.t 30)),mv 32 4,rg 33 (.call 117 [(.t 24),(.t 25),(.t 31),(.t 32)]),mv 19 33,rg 34 (.ext (.t 19) 0),rg 35 (.ext (.t 19) 1),mv 4 34,rg 36 (.iad 1 (.t 20) (.t 23)),so (.store 1 (.t 36) (.t 35))])))
 (.reg [rg 37 (.bin .add (.t 14) (.c (.i .i64 1))),mv 14 37]))))
 (.norm false [0,1,2,3,4,12,13,14]))
def b89:AX:=
 (.seq
 (.seq
 (.reg [mv 12 2,rg 13 (.len (.t 12)),rg 14 (.mov (.c (.i .i64 0)))])
 (.lp 0 (.norm false [0,1,2,3,4,12,13,14]) l89_0 (.norm false [0,1,2,4])))
 (.reg [mv 38 0,mv 39 1,mv 40 2,rg 41 (.len (.t 40)),rg 42 (.bin .add (.t 39) (.t 41)),mv 43 4,rg 44 (.iad 1 (.t 38) (.t 42)),so (.store 1 (.t 44) (.t 43))]))
def b100:AX:=
 (.seq
 (.reg [rg 6 (.mov (.c (.sl [] .nl)))])
 (.seq
 (.reg [mv 8 0,rg 9 (.len (.t 8)),rg 10 (.bin .add (.t 9) (.c (.i .i64 1))),rg 11 (.mks 1 [(u32 0)] (.t 10) (.t 10)),mv 7 11])
 (.seq
 (.reg [mv 12 7,mv 13 0,mv 14 1,mv 15 2,rg 16 (.call 89 [(.t 12),(.c (.i .i64 0)),(.t 13),(.t 14),(.t 15)])])
 (.seq
 (.reg [mv 17 7,rg 18 (.call 71 [(.t 17)]),mv 6 18])
 (.pre (.norm false [6]) .ret)))))
def l60_0:AX:=
 (.note
 (.seq
 (.reg [rg 18 (.bin .lss (.t 17) (.t 16))])
 (.seq
 (.cond (.t 18)
 .skip
 (.exit 0))
 (.seq
 (.block 1
 (.seq
 (.reg [mv 19 17,rg 20 (.iad 1 (.t 15) (.t 17)),rg 21 (.load none (.t 20)),mv 6 19,mv 7 21])
 (.reg [mv 22 5,mv 23 6,mv 24 0,mv 25 7,rg 26 (.call 89 [(.t 22),(.t 23),(.t 24),(.t 25),(.c (u32 0))])])))
 (.reg [rg 27 (.bin .add (.t 17) (.c (.i .i64 1))),mv 17 27]))))
 (.norm false [0,5,15,16,17]))
def b60:AX:=
 (.seq
 (.reg [rg 4 (.mov (.c (.sl [] .nl)))])
 (.seq
 (.reg [mv 8 0,rg 9 (.len (.t 8)),mv 10 1,rg 11 (.len (.t 10)),rg 12 (.bin .add (.t 9) (.t 11)),rg 13 (.bin .add (.t 12) (.c (.i .i64 1))),rg 14 (.mks 1 [(u32 0)] (.t 13) (.t 13)),mv 5 14])
 (.seq
 (.seq
 (.reg [mv 15 1,rg 16 (.len (.t 15)),rg 17 (.mov (.c (.i .i64 0)))])
 (.lp 0 (.norm false [0,5,15,16,17]) l60_0 (.norm false [5])))
 (.seq
 (.reg [mv 28 5,rg 29 (.call 71 [(.t 28)]),mv 4 29])
 (.pre (.norm false [4]) .ret)))))
def row89:AFx:=⟨5,45,[],b89,(some [true,false,false,false,false]),false⟩
def row100:AFx:=⟨3,19,[.t 6],b100,none,false⟩
def row60:AFx:=⟨2,30,[.t 4],b60,none,false⟩
class Zv (T:Tbl):Prop extends Zq T where
 h89:T 89=some row89
 h100:T 100=some row100
 h60:T 60=some row60
section
variable{T:Tbl}[Zv T]{d:Option Nat}{st:St}
@[simp] theorem x89(xs:List AV):Zc (orc T) T 89 xs d st=bL (Zek st.heap [true,false,false,false,false] xs) fun ys=>Zd1 ys (Zh (Zay [true,false,false,false,false] xs) st.heap) (Zcv (Zh (Zay [true,false,false,false,false] xs) st.heap) 40 (Zck [true,false,false,false,false] xs) []) T 89 false d st:=zaw Zv.h89
@[simp] theorem x100(xs:List AV):Zc (orc T) T 100 xs d st=cP T 100 false xs d st:=zaa Zv.h100
@[simp] theorem x60(xs:List AV):Zc (orc T) T 60 xs d st=cP T 60 false xs d st:=zaa Zv.h60
@[simp] theorem y60{e:Env}{h:Heap}{older:List Heap}(args:List Opd):opD (orc T) T (.call 60 args) e h older=dR (Za T 60 ((args.map (ev e.get)).map (wkIf false))) (args.map (ev e.get)):=zaj Zv.h60
end
def l92_0:AX:=
 (.note
 (.seq
 (.reg [rg 27 (.bin .lss (.t 26) (.t 25))])
 (.seq
 (.cond (.t 27)
 .skip
 (.exit 0))
 (.seq
 (.block 1
 (.seq
 (.reg [mv 28 26,rg 29 (.iad 1 (.t 24) (.t 26)),rg 30 (.load none (.t 29)),mv 8 28,mv 9 30])
 (.seq
 (.reg [mv 31 9,rg 32 (.conv .u64 (.t 31)),mv 33 6,rg 34 (.bin .shl (.t 32) (.t 33)),mv 10 34])
 (.seq
 (.reg [mv 35 7,mv 36 5,mv 37 8,rg 38 (.bin .add (.t 36) (.t 37)),rg 39 (.iad 1 (.t 35) (.t 38)),rg 40 (.load none (.t 39)),mv 41 10,rg 42 (.conv .u32 (.t 41)),rg 43 (.bin .or (.t 40) (.t 42)),rg 44 (.iad 1 (.t 35) (.t 38)),so (.store 1 (.t 44) (.t 43))])
 (.reg [mv 45 7,mv 46 5,mv 47 8,rg 48 (.bin .add (.t 46) (.t 47)),rg 49 (.bin .add (.t 48) (.c (.i .i64 1))),mv 50 10,rg 51 (.bin .shr (.t 50) (.c (u64 32))),rg 52 (.conv .u32 (.t 51)),rg 53 (.iad 1 (.t 45) (.t 49)),so (.store 1 (.t 53) (.t 52))])))))
 (.reg [rg 54 (.bin .add (.t 26) (.c (.i .i64 1))),mv 26 54]))))
 (.norm false [5,6,7,24,25,26]))
def b92:AX:=
 (.seq
 (.reg [rg 4 (.mov (.c (.sl [] .nl)))])
 (.seq
 (.reg [mv 11 1,rg 12 (.mm true [(.t 11),(.c (.i .i64 0))]),rg 13 (.mm false [(.t 12),(.c (.i .i64 4096))]),mv 1 13])
 (.seq
 (.reg [mv 14 1,rg 15 (.bin .quo (.t 14) (.c (.i .i64 32))),mv 16 1,rg 17 (.bin .rem (.t 16) (.c (.i .i64 32))),mv 5 15,mv 6 17])
 (.seq
 (.reg [mv 18 5,mv 19 0,rg 20 (.len (.t 19)),rg 21 (.bin .add (.t 18) (.t 20)),rg 22 (.bin .add (.t 21) (.c (.i .i64 1))),rg 23 (.mks 1 [(u32 0)] (.t 22) (.t 22)),mv 7 23])
 (.seq
 (.seq
 (.reg [mv 24 0,rg 25 (.len (.t 24)),rg 26 (.mov (.c (.i .i64 0)))])
 (.lp 0 (.norm false [5,6,7,24,25,26]) l92_0 (.norm false [7])))
 (.seq
 (.reg [mv 55 7,rg 56 (.call 71 [(.t 55)]),mv 4 56])
 (.pre (.norm false [4]) .ret)))))))
def l94_0:AX:=
 (.note
 (.seq
 (.reg [rg 28 (.bin .lss (.t 27) (.t 26))])
 (.seq
 (.cond (.t 28)
 .skip
 (.exit 0))
 (.seq
 (.block 1
 (.seq
 (.reg [mv 29 27,mv 8 29])
 (.seq
 (.reg [mv 30 0,mv 31 5,mv 32 8,rg 33 (.bin .add (.t 31) (.t 32)),rg 34 (.iad 1 (.t 30) (.t 33)),rg 35 (.load none (.t 34)),rg 36 (.conv .u64 (.t 35)),mv 9 36])
 (.seq
 (.seq
 (.reg [mv 37 5,mv 38 8,rg 39 (.bin .add (.t 37) (.t 38)),rg 40 (.bin .add (.t 39) (.c (.i .i64 1))),mv 41 0,rg 42 (.len (.t 41)),rg 43 (.bin .lss (.t 40) (.t 42))])
 (.cond (.t 43)
 (.reg [mv 44 9,mv 45 0,mv 46 5,mv 47 8,rg 48 (.bin .add (.t 46) (.t 47)),rg 49 (.bin .add (.t 48) (.c (.i .i64 1))),rg 50 (.iad 1 (.t 45) (.t 49)),rg 51 (.load none (.t 50)),rg 52 (.conv .u64 (.t 51)),rg 53 (.bin .shl (.t 52) (.c (u64 32))),rg 54 (.bin .or (.t 44) (.t 53)),mv 9 54])
 .skip))
 (.reg [mv 55 7,mv 56 8,mv 57 9,mv 58 6,rg 59 (.bin .shr (.t 57) (.t 58)),rg 60 (.conv .u32 (.t 59)),rg 61 (.iad 1 (.t 55) (.t 56)),so (.store 1 (.t 61) (.t 60))])))))
 (.reg [rg 62 (.bin .add (.t 27) (.c (.i .i64 1))),mv 27 62]))))
 (.norm false [0,5,6,7,26,27]))
def b94:AX:=
 (.seq
 (.reg [rg 4 (.mov (.c (.sl [] .nl)))])
 (.seq
 (.reg [mv 10 1,rg 11 (.mm true [(.t 10),(.c (.i .i64 0))]),mv 1 11])
 (.seq
 (.reg [mv 12 1,rg 13 (.bin .quo (.t 12) (.c (.i .i64 32))),mv 14 1,rg 15 (.bin .rem (.t 14) (.c (.i .i64 32))),mv 5 13,mv 6 15])
 (.seq
 (.seq
 (.reg [mv 16 5,mv 17 0,rg 18 (.len (.t 17)),rg 19 (.bin .geq (.t 16) (.t 18))])
 (.cond (.t 19)
 (.seq
 (.reg [rg 4 (.mov (.c (.sl [] .nl)))])
 (.pre (.norm false [4]) .ret))
 .skip))
 (.seq
 (.reg [mv 20 0,rg 21 (.len (.t 20)),mv 22 5,rg 23 (.bin .sub (.t 21) (.t 22)),rg 24 (.mks 1 [(u32 0)] (.t 23) (.t 23)),mv 7 24])
 (.seq
 (.seq
 (.reg [mv 25 7,rg 26 (.len (.t 25)),rg 27 (.mov (.c (.i .i64 0)))])
 (.lp 0 (.norm false [0,5,6,7,26,27]) l94_0 (.norm false [7])))
 (.seq
 (.reg [mv 63 7,rg 64 (.call 71 [(.t 63)]),mv 4 64])
 (.pre (.norm false [4]) .ret))))))))
def row92:AFx:=⟨2,57,[.t 4],b92,none,false⟩
def row94:AFx:=⟨2,65,[.t 4],b94,none,false⟩
class Zy (T:Tbl):Prop where
 h92:T 92=some row92
 h94:T 94=some row94
section
variable{T:Tbl}[Zy T]{d:Option Nat}{st:St}
@[simp] theorem x92(xs:List AV):Zc (orc T) T 92 xs d st=cP T 92 false xs d st:=zaa Zy.h92
@[simp] theorem x94(xs:List AV):Zc (orc T) T 94 xs d st=cP T 94 false xs d st:=zaa Zy.h94
end
theorem zc7{P m S:List UInt32}{i:Nat}(hm:m.length=i)(hi:i<S.length):(P++(m++S.drop i))[P.length+i]? = some (S[i]'hi):=by
 rw[Yl (by omega),Yb2,Yl (by omega),hm,Ybt,Yao,Yq,Ya hi]
theorem zcr{P m S:List UInt32}{i:Nat}(w:UInt32)(hm:m.length=i)(hi:i<S.length):(P++(m++S.drop i)).set (P.length+i) w=P++((m++[w])++S.drop (i+1)):=by
 rw[Y7 (P.length+i) w (by omega),Yb2,Y7 i w (by omega),hm,Ybt,Yj hi,Ybj];simp
section
variable{T:Tbl}[Zv T]
def Zj8(P S a:List UInt32)(x:Nat)(y:Nat×Nat×List UInt32):St:=
 ⟨[(0,.bs (.bor 0) 0 1 0 (P.length+S.length)),(1,.i .i64 P.length),(2,.sl (Zb a) .an),(3,u32 x),(4,u32 y.2.1),(12,.sl (Zb a) .an),(13,.i .i64 a.length),(14,.i .i64 y.1)],
  [(.bor 0,⟨0,.own,1,Zb (P++(y.2.2++S.drop y.1))⟩)],4⟩
theorem zqu{p m w c c' s x y t v k:Nat}(h:m+p*c=s+x*t+k)(e:w+4294967296*c'=x*y+v+c):(m+p*w)+p*4294967296*c'=(s+p*v)+x*(t+p*y)+k:=by
 have e2:p*w+p*4294967296*c'=p*(x*y)+p*v+p*c:=by rw[Y3,←Yag,e,Yag,Yag]
 have e3:x*(t+p*y)=x*t+p*(x*y):=by rw[Yag,←Y3,Yaf x p,Y3]
 omega
theorem zzz(P S a:List UInt32)(x c0:Nat)(hx:x<4294967296)(hS:a.length<S.length)(hl:P.length+S.length≤1000000):∀y:Nat×Nat×List UInt32,
  (y.1≤a.length∧y.2.1<4294967296∧y.2.2.length=y.1∧val y.2.2+4294967296^y.1*y.2.1=val (S.take y.1)+x*val (a.take y.1)+c0) →
  ∃r,(∃(c:Nat) (m:List UInt32),r=(Ex.n,(⟨[(0,.bs (.bor 0) 0 1 0 (P.length+S.length)),(1,.i .i64 P.length),(2,.sl (Zb a) .an),(4,u32 c)],[(.bor 0,⟨0,.own,1,Zb (P++(m++S.drop a.length))⟩)],4⟩:St)) ∧
   m.length=a.length∧c<4294967296∧val m+4294967296^a.length*c=val (S.take a.length)+x*val a+c0)∧Zj T 1 0 (.norm false [0,1,2,4]) l89_0 (Zj8 P S a x y)=some r:=by
 refine zar _ _ (fun y=>a.length-y.1) _ ?_
 rintro⟨i,c,m⟩ ⟨hi,hc,hm,hv⟩
 simp only at hi hc hm hv;by_cases h0:i<a.length
 ·left;have ha:a[i]? = some (a[i]'h0):=Ya h0;have hiS:i<S.length:=by omega
  have hs:S[i]? = some (S[i]'hiS):=Ya hiS;have hg:=zc7 (P:=P) hm hiS;have hw:IntKind.wrap .i64 ((i:Int)+1)=((i+1:Nat):Int):=zac _ (by omega);have hw2:IntKind.wrap .i64 ((P.length:Int)+i)=((P.length+i:Nat):Int):=zac _ (by omega);have hlt:P.length+i<P.length+S.length:=by omega
  have hlt2:((P.length+i:Nat):Int)<(P.length:Int)+S.length:=by omega
  have hla:=zak (a[i]'h0);have hls:=zak (S[i]'hiS);have hmul:=zgp hx hla;have hlen:(P++(m++S.drop i)).length=P.length+S.length:=by simp;omega
  have hcall:=zh5 (T:=T) x (a[i]'h0).toNat (S[i]'hiS).toNat c hx hla hls hc;have hset:=zcr (P:=P) (w32 (x*(a[i]'h0).toNat+(S[i]'hiS).toNat+c)) hm hiS;refine⟨(i+1,(x*(a[i]'h0).toNat+(S[i]'hiS).toNat+c)/4294967296,m++[w32 (x*(a[i]'h0).toNat+(S[i]'hiS).toNat+c)]),⟨h0,by simp only;omega,by simp[hm],?_⟩,by simp only;omega,?_⟩
  ·simp only;rw[zai,zaf ha,zaf hs,Y4,hm];simp only[zal,za5,Yac,Yq,zb1];exact zqu hv (by have:=Ybs (x*(a[i]'h0).toNat+(S[i]'hiS).toNat+c) 4294967296;omega)
  ·simp[l89_0,Zj8,h0,hw,hw2,hiS,hg,hcall,hset]
 ·right;have:i=a.length:=by omega
  subst this;rw[Yb (Ye a.length)]at hv;refine⟨_,⟨c,m,rfl,hm,hc,hv⟩,?_,?_⟩<;>simp[l89_0,Zj8]
theorem zk1(P S a:List UInt32)(x c0:Nat)(hx:x<4294967296)(hc:c0<4294967296)(hS:a.length<S.length)(hl:P.length+S.length≤1000000) :
  ∃m,m.length=a.length+1∧val m=val (S.take a.length)+x*val a+c0 ∧
   Zbz T 89 [.bs (.bor 0) 0 1 0 (P.length+S.length),.i .i64 P.length,.sl (Zb a) .an,u32 x,u32 c0] [(.bor 0,⟨0,.own,1,Zb (P++S)⟩)] =
    some (.tup [],[(.bor 0,⟨0,.own,1,Zb (P++(m++S.drop (a.length+1)))⟩)]):=by
 obtain⟨_,⟨c,m,rfl,hm,hc1,hv⟩,hr⟩:=zzz (T:=T) P S a x c0 hx hS hl (0,c0,[]) ⟨Yo _,hc,rfl,by simp⟩;unfold Zj8 at hr;simp at hr;refine⟨m++[w32 c],by simp[hm],by rw[zai,hm];simpa[zah hc1]using hv,?_⟩;have hw2:IntKind.wrap .i64 ((P.length:Int)+a.length)=((P.length+a.length:Nat):Int):=zac _ (by omega);have hlt:P.length+a.length<P.length+S.length:=by omega
 have hlt2:((P.length+a.length:Nat):Int)<(P.length:Int)+S.length:=by omega
 have hg:=zc7 (P:=P) hm hS;have hset:=zcr (P:=P) (w32 c) hm hS;rw[za9 Zv.h89 rfl,b89];simp[hr,hw2,hg,hS,zbg _ _ _ hc1,hset]
def Zj9(a b:List UInt32)(y:Nat×List UInt32):St:=
 ⟨[(0,.sl (Zb a) .an),(5,.bs (.loc 14) 1 1 0 (a.length+b.length+1)),(15,.sl (Zb b) .an),(16,.i .i64 b.length),(17,.i .i64 y.1)],[(.loc 14,⟨1,.own,1,Zb (y.2++List.replicate (b.length+1-y.1) 0)⟩)],3⟩
theorem zz0(a b:List UInt32)(ha:a.length≤100000)(hb:b.length≤100000):∀y:Nat×List UInt32,
  (y.1≤b.length∧y.2.length=a.length+y.1∧val y.2=val a*val (b.take y.1)) →
  ∃r,(∃out:List UInt32,r=(Ex.n,(⟨[(5,.bs (.loc 14) 1 1 0 (a.length+b.length+1))],[(.loc 14,⟨1,.own,1,Zb out⟩)],3⟩:St))∧out.length=a.length+b.length+1∧val out=val a*val b) ∧
   Zj T 0 0 (.norm false [5]) l60_0 (Zj9 a b y)=some r:=by
 refine zar _ _ (fun y=>b.length-y.1) _ ?_
 rintro⟨i,X⟩ ⟨hi,hX,hv⟩
 simp only at hi hX hv;by_cases h0:i<b.length
 ·left;have hbg:b[i]? = some (b[i]'h0):=Ya h0;have hw:IntKind.wrap .i64 ((i:Int)+1)=((i+1:Nat):Int):=zac _ (by omega);obtain⟨m,hm1,hm2,hc⟩:=zk1 (T:=T) (X.take i) (X.drop i++List.replicate (b.length+1-i) 0) a (b[i]'h0).toNat 0 (zak _) (by decide) (by simp;omega) (by simp;omega);have e1:X.take i++(X.drop i++List.replicate (b.length+1-i) 0)=X++List.replicate (b.length+1-i) 0:=by rw[←Ybd,Yan]
  have e2:(X.take i).length=i:=by simp;omega
  have e3:(X.drop i++List.replicate (b.length+1-i) 0).length=a.length+b.length+1-i:=by simp;omega
  have e4:i+(a.length+b.length+1-i)=a.length+b.length+1:=by omega
  have e5:(X.drop i++List.replicate (b.length+1-i) 0).drop (a.length+1)=List.replicate (b.length+1-(i+1)) 0:=by
   rw[Yee,Yat (by simp;omega),Yds];simp only[Yam,Yak];congr 1;omega
  have e6:(X.drop i++List.replicate (b.length+1-i) 0).take a.length=X.drop i:=by
   rw[Ybx (by simp;omega),Yb (by simp;omega)]
  rw[e1,e2,e3,e4,e5]at hc;rw[e6]at hm2;simp only[←Ybd]at hc;refine⟨(i+1,X.take i++m),⟨h0,by simp only[Y1,e2,hm1];omega,?_⟩,by simp only;omega,?_⟩
  ·simp only;have e7:=zai (X.take i) (X.drop i);rw[Yan,e2]at e7;rw[zai,e2,hm2,zaf hbg,Yag (val a),←hv,e7,Yag,Yag];have e8:4294967296^i*((b[i]'h0).toNat*val a)=val a*(4294967296^i*(b[i]'h0).toNat):=by
    rw[Yaf (b[i]'h0).toNat,←Y3,Yaf (4294967296^i) (val a),Y3]
   rw[e8];omega
  ·simp[l60_0,Zj9,h0,hw,hc]
 ·right;have:i=b.length:=by omega
  subst this;rw[Yb (Ye _)]at hv;refine⟨_,⟨X++List.replicate (b.length+1-b.length) 0,rfl,by simp;omega,by rw[zai,zax,hv];simp⟩,?_,?_⟩<;>simp[l60_0,Zj9]
theorem zfq(a b:List UInt32)(ha:a.length≤100000)(hb:b.length≤100000):Za T 60 [.sl (Zb a) .an,.sl (Zb b) .an]=some (.sl (Zb (ofN (val a*val b))) .an):=by
 obtain⟨_,⟨out,rfl,ho,hv⟩,hr⟩:=zz0 (T:=T) a b ha hb (0,List.replicate a.length 0) ⟨Yo _,by simp,by simp[zax]⟩;unfold Zj9 at hr;simp at hr;have hw1:IntKind.wrap .i64 ((a.length:Int)+b.length)=(a.length:Int)+b.length:=zac _ (by omega);have hw:IntKind.wrap .i64 ((a.length:Int)+b.length+1)=(a.length:Int)+b.length+1:=zac _ (by omega);have hle:(a.length:Int)+b.length+1≤4294967296:=by omega
 have hn:=zbh (T:=T) out (by omega);rw[hv]at hn;have htk:List.take (a.length+b.length+1) out=out:=Yb (by omega);have he:a.length+(b.length+1)=a.length+b.length+1:=by omega
 rw[he]at hr;rw[zab Zv.h60 rfl,b60];simp[hw,hw1,hle,hr,ho,htk,hn]
theorem zv1(a:List UInt32)(x c:Nat)(ha:a.length≤100000)(hx:x<4294967296)(hc:c<4294967296):Za T 100 [.sl (Zb a) .an,u32 x,u32 c]=some (.sl (Zb (ofN (val a*x+c))) .an):=by
 obtain⟨m,hm1,hm2,hr⟩:=zk1 (T:=T) [] (List.replicate (a.length+1) 0) a x c hx hc (by simp) (by simp;omega);simp at hr;have hv:val m=val a*x+c:=by
  rw[hm2];have:val ((List.replicate (a.length+1) (0:UInt32)).take a.length)=0:=by rw[List.take_replicate,zax]
  rw[this,Yaf];omega
 have hw:IntKind.wrap .i64 ((a.length:Int)+1)=(a.length:Int)+1:=zac _ (by omega);have hle:(a.length:Int)+1≤4294967296:=by omega
 have hn:=zbh (T:=T) m (by omega);rw[hv]at hn;have htk:List.take (a.length+1) m=m:=Yb (by omega);rw[zab Zv.h100 rfl,b100];simp[hw,hle,hr,hm1,htk,hn]
end
theorem zld(w:Nat):4294967296^w=2^(32*w):=by
 rw[Ydr]
theorem znm(a:List UInt32)(w:Nat)(h:w≤a.length):val a=val (a.take w)+4294967296^w*val (a.drop w):=by
 have:=zai (a.take w) (a.drop w);rw[Yan,Yaa,Ych h]at this;exact this
theorem zxn(a:List UInt32)(w:Nat)(h:w≤a.length):val a/4294967296^w=val (a.drop w):=by
 have hp:0<4294967296^w:=Ya0 (by decide);have hlt:=za0 (a.take w);rw[Yaa,Ych h]at hlt;rw[znm a w h,Ybz _ _ hp,Ya2 hlt,Y8]
theorem zxo{a:List UInt32}{i:Nat}{x:UInt32}(h:a[i/32]? = some x):val a/2^i%2=x.toNat/2^(i%32)%2:=by
 have hlt:i/32<a.length:=by
  rcases Yt (i/32) a.length with h1 | h1
  ·exact h1
  ·rw[Ycv h1]at h;cases h
 have e:2^i=4294967296^(i/32)*2^(i%32):=by
  rw[zld,←Ybb];congr 1;omega
 rw[e,←Ybe,zxn a _ (by omega)];have hx:a[i/32]'hlt=x:=by rw[Ya hlt]at h;cases h;rfl
 rw[Yj hlt,hx,zal];generalize val (a.drop (i/32+1))=r;have hb:i%32<32:=Yaz _ (by decide);generalize i%32=b at *
 have e2:4294967296*r=2^b*(2^(32-b-1)*2*r):=by
  rw[←Y4,←Y3,←Ybb,show b+(32-b-1+1)=32 by omega]
 rw[e2,Ybz _ _ (Ya0 (by decide)),Nat.mul_right_comm,Ydv]
theorem znn{n k:Nat}(h:n<2^(k+1))(hb:n/2^k%2=0):n<2^k:=by
 have hp:0<2^k:=Ya0 (by decide);rw[Y4]at h;have h1:n/2^k<2:=Ycc h;have h2:n/2^k=0:=by
  generalize n/2^k=q at *
  omega
 rcases Yt n (2^k) with h3 | h3
 ·exact h3
 ·have:=Yes h3 hp;omega
theorem z1k{a b n:Nat}(h:a<2^n):a ||| 2^n*b=a+2^n*b:=by
 rw[Nat.or_comm,←Ycu h,Ybl]
theorem z4y{x c n:Nat}(hx:x<4294967296)(hn:n<32)(hc:c<2^n) :
  x*2^n<18446744073709551616∧(c ||| x*2^n%4294967296)=c+x*2^n%4294967296∧c+x*2^n%4294967296<4294967296∧x*2^n/4294967296<2^n∧2^n<4294967296:=by
 have hp:2^(n+(32-n))=4294967296:=by rw[show n+(32-n)=32 by omega]
 rw[Ybb]at hp;have hq:0<2^n:=Ya0 (by decide);have hr:1<2^(32-n):=Nat.one_lt_two_pow (by omega);have e1:x*2^n%4294967296=2^n*(x%2^(32-n)):=by rw[←hp,Yaf x,Nat.mul_mod_mul_left]
 have e2:=z1k (b:=x%2^(32-n)) hc;rw[←e1]at e2;have hlt:2^n<4294967296:=by
  have h1:=Yx (2^n) (show 2≤2^(32-n) from hr);rw[hp]at h1;omega
 refine⟨?_,e2,?_,?_,hlt⟩
 ·have:=Nat.mul_lt_mul'' hx hlt;simpa using this
 ·rw[e1];have h1:x%2^(32-n)+1≤2^(32-n):=Yaz _ (by omega);have h2:=Yx (2^n) h1;rw[hp,Yag,Ydm]at h2;omega
 ·exact Ycc (by rw[Yaf x];rw[Yaf 4294967296];exact Nat.mul_lt_mul_of_pos_left hx hq)
theorem zno{x y R b:Nat}(hb:b<32)(hx:x<4294967296) :
  (x+4294967296*(y+4294967296*R))/2^b=(x+y*4294967296)/2^b%4294967296+4294967296*((y+4294967296*R)/2^b):=by
 have hq:0<2^b:=Ya0 (by decide);have h1:(x+4294967296*(y+4294967296*R))/4294967296=y+4294967296*R:=by omega
 have h2:(x+4294967296*(y+4294967296*R))/2^b/4294967296=(y+4294967296*R)/2^b:=by
  rw[Ybe,Yaf (2^b),←Ybe,h1]
 have hp:2^b*2^(32-b)=4294967296:=by rw[←Ybb,show b+(32-b)=32 by omega]
 have h3:x+4294967296*(y+4294967296*R)=(x+y*4294967296)+2^b*(4294967296*(2^(32-b)*R)):=by
  have:2^b*(4294967296*(2^(32-b)*R))=4294967296*(4294967296*R):=by
   rw[Nat.mul_left_comm,←Y3 (2^b),hp]
  omega
 have h4:(x+4294967296*(y+4294967296*R))/2^b%4294967296=(x+y*4294967296)/2^b%4294967296:=by
  rw[h3,Ybz _ _ hq,Yc5]
 have h5:=Nat.mod_add_div ((x+4294967296*(y+4294967296*R))/2^b) 4294967296;rw[h2,h4]at h5;exact h5.symm
theorem zq1{P m R:List UInt32}{i:Nat}{c:UInt32}(hm:m.length=i):(P++(m++c::R))[P.length+i]? = some c:=by
 grind
theorem zla{P m R:List UInt32}{i:Nat}{c:UInt32}(w:UInt32)(hm:m.length=i):(P++(m++c::R)).set (P.length+i) w=P++(m++w::R):=by
 rw[Y7 (P.length+i) w (by omega),Yb2,Y7 i w (by omega),hm,Ybt,Ybj]
theorem z0i{P m R:List UInt32}{i:Nat}{c d:UInt32}(w:UInt32)(hm:m.length=i):(P++(m++c::d::R)).set (P.length+i+1) w=P++(m++c::w::R):=by
 rw[Ya6,Y7 (P.length+(i+1)) w (by omega),Yb2,Y7 (i+1) w (by omega),hm,show i+1-i=1 by omega]
 rfl
theorem z0j{P m R:List UInt32}{i:Nat}{c d:UInt32}(hm:m.length=i):(P++(m++c::d::R))[P.length+i+1]? = some d:=by
 grind
theorem zel(n:Nat):w32 (n%4294967296)=w32 n:=z1j (by rw[zb1,Nat.mod_mod])
section
variable{T:Tbl}[Zq T][Zy T]
def Zlu(P a:List UInt32)(n:Nat)(y:Nat×Nat×List UInt32):St:=
 ⟨[(5,.i .i64 P.length),(6,.i .i64 n),(7,.bs (.loc 23) 1 1 0 (P.length+a.length+1)),(24,.sl (Zb a) .an),(25,.i .i64 a.length),(26,.i .i64 y.1)],[(.loc 23,⟨1,.own,1,Zb (P++(y.2.2++w32 y.2.1::List.replicate (a.length-y.1) 0))⟩)],3⟩
end
section
variable{T:Tbl}
theorem zxh(P a:List UInt32)(n:Nat)(hn:n<32)(hl:P.length+a.length≤1000000):∀y:Nat×Nat×List UInt32,
  (y.1≤a.length∧y.2.1<2^n∧y.2.2.length=y.1∧val y.2.2+4294967296^y.1*y.2.1=2^n*val (a.take y.1)) →
  ∃r,(∃(c:Nat) (m:List UInt32),r=(Ex.n,(⟨[(7,.bs (.loc 23) 1 1 0 (P.length+a.length+1))],[(.loc 23,⟨1,.own,1,Zb (P++(m++[w32 c]))⟩)],3⟩:St)) ∧
   m.length=a.length∧c<2^n∧val m+4294967296^a.length*c=2^n*val a)∧Zj T 0 0 (.norm false [7]) l92_0 (Zlu P a n y)=some r:=by
 refine zar _ _ (fun y=>a.length-y.1) _ ?_
 rintro⟨i,c,m⟩ ⟨hi,hc,hm,hv⟩
 simp only at hi hc hm hv;by_cases h0:i<a.length
 ·left;have ha:a[i]? = some (a[i]'h0):=Ya h0;obtain⟨u1,u2,u3,u4,u5⟩:=z4y (zak (a[i]'h0)) hn hc;have hx:=zak (a[i]'h0);have hrep:List.replicate (a.length-i) (0:UInt32)=0::List.replicate (a.length-(i+1)) 0:=by
   rw[show a.length-i=a.length-(i+1)+1 by omega,Ybg]
  have hw:IntKind.wrap .i64 ((i:Int)+1)=((i+1:Nat):Int):=zac _ (by omega);have hw2:IntKind.wrap .i64 ((P.length:Int)+i)=((P.length+i:Nat):Int):=zac _ (by omega);have hw3:IntKind.wrap .i64 ((P.length:Int)+i+1)=((P.length+i+1:Nat):Int):=zac _ (by omega);have hg:=zq1 (P:=P) (c:=w32 c) (R:=0::List.replicate (a.length-(i+1)) 0) hm;have hg3:=z0j (P:=P) (c:=w32 (c+(a[i]'h0).toNat*2^n%4294967296)) (d:=0) (R:=List.replicate (a.length-(i+1)) 0) hm;have hs1:=zla (P:=P) (c:=w32 c) (R:=0::List.replicate (a.length-(i+1)) 0) (w32 (c+(a[i]'h0).toNat*2^n%4294967296)) hm;have hs2:=z0i (P:=P) (c:=w32 (c+(a[i]'h0).toNat*2^n%4294967296)) (d:=0) (R:=List.replicate (a.length-(i+1)) 0) (w32 ((a[i]'h0).toNat*2^n/4294967296)) hm;have hmin:min n 64=n:=by omega
  have hlt1:(P.length:Int)+i<(P.length:Int)+a.length+1:=by omega
  have hlt2:(P.length:Int)+i<(P.length:Int)+a.length:=by omega
  have m1:(a[i]'h0).toNat%18446744073709551616=(a[i]'h0).toNat:=Yh (by omega);have m2:=Yh u1;have m3:=Yh u3;have hcc:c<4294967296:=by omega
  have m4:(a[i]'h0).toNat*2^n/4294967296%4294967296=(a[i]'h0).toNat*2^n/4294967296:=Yh (by omega);have m5:(a[i]'h0).toNat*2^n/4294967296<4294967296:=by omega
  refine⟨(i+1,(a[i]'h0).toNat*2^n/4294967296,m++[w32 (c+(a[i]'h0).toNat*2^n%4294967296)]),⟨h0,u4,by grind,?_⟩,by omega,?_⟩
  ·grind[zai,zaf,zal,za5,zah,Nat.div_add_mod]
  ·simp -implicitDefEqProofs[l92_0,Zlu,h0,hrep,hw,hw2,hw3,hg,hg3,hs1,hs2,zbg _ _ _ u3,zbg _ _ _ m5,hmin,hlt1,hlt2,m1,m2,m3,m4,u2,zah hcc]
 ·right;have:i=a.length:=by omega
  subst this;rw[Yb (Ye a.length)]at hv;refine⟨_,⟨c,m,rfl,hm,hc,hv⟩,?_,?_⟩<;>simp -implicitDefEqProofs[l92_0,Zlu]
end
section
variable{T:Tbl}[Zq T][Zy T]
theorem z4v(a:List UInt32)(n:Nat)(hn:n≤4096)(hl:a.length≤100000):Za T 92 [.sl (Zb a) .an,.i .i64 n]=some (.sl (Zb (ofN (val a*2^n))) .an):=by
 obtain⟨_,⟨c,m,rfl,hm,hc,hv⟩,hr⟩:=zxh (T:=T) (List.replicate (n/32) 0) a (n%32) (Yaz _ (by decide)) (by grind) (0,0,[]) ⟨Yo _,Ya0 (by decide),rfl,by simp⟩;have hc32:c<4294967296:=Yp hc (by
  have:2^(n%32)≤2^32:=Yk (by decide) (by omega);omega)
 have hval:val (List.replicate (n/32) 0++(m++[w32 c]))=val a*2^n:=by
  rw[zai,zax,Yb8,zai,hm];simp only[zal,za5,Yac,Yq,zah hc32,Y8];rw[hv,zld,←Y3,←Ybb,show 32*(n/32)+n%32=n by omega,Yaf]
 have hlen:(List.replicate (n/32) 0++(m++[w32 c])).length=n/32+a.length+1:=by grind
 have hnm:=zbh (T:=T) (List.replicate (n/32) 0++(m++[w32 c])) (by omega);rw[hval]at hnm;unfold Zlu at hr;generalize List.replicate (n/32) 0++(m++[w32 c])=Q at *
 simp at hr;have hz:List.replicate (n/32) (0:UInt32)++w32 0::List.replicate a.length 0=List.replicate (n/32+a.length+1) 0:=by
  have:w32 0=0:=rfl;rw[this,←Ybg,Ycg,Ya6]
 rw[hz]at hr;have hn2:¬ (4096:Int)<(n:Int):=by omega
 have hq:(n:Int).tdiv 32=(n:Int)/32:=Yb6 (by omega);have hm2:(n:Int).tmod 32=(n:Int)%32:=Yb7 (by omega);have w1:IntKind.wrap .i64 ((n:Int)/32)=(n:Int)/32:=zac (n/32) (by omega);have w2:IntKind.wrap .i64 ((n:Int)/32+a.length)=(n:Int)/32+a.length:=zac _ (by omega);have w3:IntKind.wrap .i64 ((n:Int)/32+a.length+1)=(n:Int)/32+a.length+1:=zac _ (by omega);have p1:(0:Int)≤(n:Int)/32+a.length+1:=by omega
 have p2:(n:Int)/32+a.length+1≤4294967296:=by omega
 have p3:((n:Int)/32+a.length+1).toNat=n/32+a.length+1:=by omega
 have htk:List.take (n/32+a.length+1) Q=Q:=Yb (by omega);rw[zab Zy.h92 rfl,b92];simp -implicitDefEqProofs[hn2,hq,hm2,w1,w2,w3,p1,p2,p3,hr,hnm,htk,hlen]
def Zlv(a:List UInt32)(W n:Nat)(y:Nat×List UInt32):St:=
 ⟨[(0,.sl (Zb a) .an),(5,.i .i64 W),(6,.i .i64 n),(7,.bs (.loc 24) 1 1 0 (a.length-W)),(26,.i .i64 (a.length-W:Nat)),(27,.i .i64 y.1)],[(.loc 24,⟨1,.own,1,Zb (y.2++List.replicate (a.length-W-y.1) 0)⟩)],3⟩
end
section
variable{T:Tbl}
theorem zxi(a:List UInt32)(W n:Nat)(hn:n<32)(hW:W≤a.length)(hl:a.length≤1000000):∀y:Nat×List UInt32,
  (y.1≤a.length-W∧y.2.length=y.1∧val y.2+4294967296^y.1*(val (a.drop (W+y.1))/2^n)=val (a.drop W)/2^n) →
  ∃r,(∃m:List UInt32,r=(Ex.n,(⟨[(7,.bs (.loc 24) 1 1 0 (a.length-W))],[(.loc 24,⟨1,.own,1,Zb m⟩)],3⟩:St)) ∧
   m.length=a.length-W∧val m=val (a.drop W)/2^n)∧Zj T 0 0 (.norm false [7]) l94_0 (Zlv a W n y)=some r:=by
 refine zar _ _ (fun y=>a.length-W-y.1) _ ?_
 rintro⟨i,m⟩ ⟨hi,hm,hv⟩
 by_cases h0:i<a.length-W
 ·left;have hWi:W+i<a.length:=by omega
  have ha:a[W+i]? = some (a[W+i]'hWi):=Ya hWi;have hx:=zak (a[W+i]'hWi);have hd:=Yj hWi;have hrep:List.replicate (a.length-W-i) (0:UInt32)=0::List.replicate (a.length-W-(i+1)) 0:=by
   rw[show a.length-W-i=a.length-W-(i+1)+1 by omega,Ybg]
  have hw:IntKind.wrap .i64 ((i:Int)+1)=((i+1:Nat):Int):=zac _ (by omega);have hw2:IntKind.wrap .i64 ((W:Int)+i)=((W+i:Nat):Int):=zac _ (by omega);have hw3:IntKind.wrap .i64 ((W:Int)+i+1)=((W+i+1:Nat):Int):=zac _ (by omega);have hg:=zq1 (P:=[]) (c:=0) (R:=List.replicate (a.length-W-(i+1)) 0) hm;have hmin:min n 64=n:=by omega
  have hlt1:(W:Int)+i<(a.length:Int):=by omega
  have hlt3:((W:Int)+i).toNat=W+i:=by omega
  have m1:(a[W+i]'hWi).toNat%18446744073709551616=(a[W+i]'hWi).toNat:=Yh (by omega);have fin:∀y R:Nat,val (a.drop (W+i+1))=y+4294967296*R→val (m++[w32 (((a[W+i]'hWi).toNat+y*4294967296)/2^n%4294967296)])+4294967296^(i+1)*(val (a.drop (W+(i+1)))/2^n)=val (a.drop W)/2^n:=by
   intro y R hR;have hmod:((a[W+i]'hWi).toNat+y*4294967296)/2^n%4294967296<4294967296:=Yaz _ (by decide);have hdw:=zno (x:=(a[W+i]'hWi).toNat) (y:=y) (R:=R) hn hx;rw[hd,zal,hR,hdw,←hR]at hv
   grind[zai,zal,za5,zah]
  by_cases h1:W+i+1<a.length
  ·have hd1:=Yj h1;have hy:=zak (a[W+i+1]'h1);have m2:(a[W+i+1]'h1).toNat%18446744073709551616=(a[W+i+1]'h1).toNat:=Yh (by omega);have m3:(a[W+i+1]'h1).toNat*4294967296%18446744073709551616=(a[W+i+1]'h1).toNat*4294967296:=Yh (by omega);have hor:(a[W+i]'hWi).toNat ||| (a[W+i+1]'h1).toNat*4294967296=(a[W+i]'hWi).toNat+(a[W+i+1]'h1).toNat*4294967296:=by
    have:=z1k (a:=(a[W+i]'hWi).toNat) (b:=(a[W+i+1]'h1).toNat) (n:=32) (by simp)
    grind
   have m4:((a[W+i]'hWi).toNat+(a[W+i+1]'h1).toNat*4294967296)%18446744073709551616=(a[W+i]'hWi).toNat+(a[W+i+1]'h1).toNat*4294967296:=Yh (by omega);have hs1:=zla (P:=[]) (c:=0) (R:=List.replicate (a.length-W-(i+1)) 0) (w32 (((a[W+i]'hWi).toNat+(a[W+i+1]'h1).toNat*4294967296)/2^n%4294967296)) hm;have hlt2:(W:Int)+i+1<(a.length:Int):=by omega
   have hlt4:((W:Int)+i+1).toNat=W+i+1:=by omega
   refine⟨(i+1,m++[w32 (((a[W+i]'hWi).toNat+(a[W+i+1]'h1).toNat*4294967296)/2^n%4294967296)]),⟨h0,by grind,fin _ (val (a.drop (W+i+1+1))) (by rw[hd1,zal])⟩,by omega,?_⟩;simp at hg;simp[zel]at hs1;simp -implicitDefEqProofs[l94_0,Zlv,h0,ha,hrep,hw,hw2,hw3,hg,hs1,zel,hmin,hlt1,hlt2,hlt3,hlt4,m1,m2,m3,m4,hor,h1]
  ·have hs1:=zla (P:=[]) (c:=0) (R:=List.replicate (a.length-W-(i+1)) 0) (w32 ((a[W+i]'hWi).toNat/2^n%4294967296)) hm;have hlt2:¬ (W:Int)+i+1<(a.length:Int):=by omega
   have f0:=fin 0 0 (by rw[Yat (by omega),za5,Yac]);refine⟨(i+1,m++[w32 ((a[W+i]'hWi).toNat/2^n%4294967296)]),⟨h0,by grind,f0⟩,by omega,?_⟩;simp at hg;simp[zel]at hs1;simp -implicitDefEqProofs[l94_0,Zlv,h0,ha,hrep,hw,hw2,hw3,hg,hs1,zel,hmin,hlt1,hlt2,hlt3,m1]
 ·right;have:i=a.length-W:=by omega
  subst this;rw[show W+(a.length-W)=a.length by omega,Y5,za5,Nat.zero_div,Yac,Yq]at hv;refine⟨_,⟨m++List.replicate (a.length-W-(a.length-W)) 0,rfl,by grind,by grind⟩,?_,?_⟩<;>simp -implicitDefEqProofs[l94_0,Zlv]
end
section
variable{T:Tbl}[Zq T][Zy T]
theorem zxj(a:List UInt32)(n:Nat)(h:n/32≤a.length):val (a.drop (n/32))/2^(n%32)=val a/2^n:=by
 rw[←zxn a _ h,Ybe,zld,←Ybb,show 32*(n/32)+n%32=n by omega]
theorem zxk(a:List UInt32)(n:Nat)(hn:n≤100000000)(hl:a.length≤100000):Za T 94 [.sl (Zb a) .an,.i .i64 n]=some (.sl (Zb (ofN (val a/2^n))) .an):=by
 have hn2:¬ (n:Int)<0:=by omega
 have hq:(n:Int).tdiv 32=(n:Int)/32:=Yb6 (by omega);have hm2:(n:Int).tmod 32=(n:Int)%32:=Yb7 (by omega);have w1:IntKind.wrap .i64 ((n:Int)/32)=(n:Int)/32:=zac (n/32) (by omega);rcases Yt (n/32) a.length with h0 | h0
 ·obtain⟨_,⟨m,rfl,hm,hv⟩,hr⟩:=zxi (T:=T) a (n/32) (n%32) (Yaz _ (by decide)) (by omega) (by omega) (0,[]) ⟨Yo _,rfl,by rw[za5,Ydg,Yd9,Y8,Yq]⟩;rw[zxj a n (by omega)]at hv;have hnm:=zbh (T:=T) m (by omega);rw[hv]at hnm;unfold Zlv at hr;have hsub:((a.length-n/32:Nat):Int)=(a.length:Int)-(n:Int)/32:=by omega
  simp[hsub]at hr;have p0:¬ (a.length:Int)≤(n:Int)/32:=by omega
  have w2:IntKind.wrap .i64 ((a.length:Int)-(n:Int)/32)=(a.length:Int)-(n:Int)/32:=zac _ (by omega);have p1:(n:Int)/32≤(a.length:Int):=by omega
  have p2:(a.length:Int)-(n:Int)/32≤4294967296:=by omega
  have p3:((a.length:Int)-(n:Int)/32).toNat=a.length-n/32:=by omega
  have htk:List.take (a.length-n/32) m=m:=Yb (by omega);have p5:a.length≤a.length-n/32+n/32:=by omega
  rw[zab Zy.h94 rfl,b94];simp -implicitDefEqProofs[hn2,hq,hm2,w1,w2,p0,p5,p1,p2,p3,hsub,hr,hnm,htk,hm]
 ·have hz:val a/2^n=0:=by
   refine Ya2 (Yp (za0 a) ?_);rw[zld];exact Yk (by decide) (by omega)
  have p0:(a.length:Int)≤(n:Int)/32:=by omega
  rw[hz,zlb,zab Zy.h94 rfl,b94];simp -implicitDefEqProofs[hn2,hq,hm2,w1,p0]
end
def l90_0:AX:=
 (.note
 (.seq
 (.seq
 (.reg [mv 16 7,rg 17 (.bin .geq (.t 16) (.c (.i .i64 0)))])
 (.cond (.t 17)
 .skip
 (.exit 0)))
 (.seq
 (.block 1
 (.reg [mv 21 4,mv 22 7,mv 23 5,mv 24 0,mv 25 7,rg 26 (.iad 1 (.t 24) (.t 25)),rg 27 (.load none (.t 26)),mv 28 1,rg 29 (.call 118 [(.t 23),(.t 27),(.t 28)]),mv 20 29,rg 30 (.ext (.t 20) 0),rg 31 (.ext (.t 20) 1),rg 32 (.ext (.t 20) 2),rg 33 (.iad 1 (.t 21) (.t 22)),so (.store 1 (.t 33) (.t 30)),mv 5 31]))
 (.reg [mv 18 7,rg 19 (.bin .sub (.t 18) (.c (.i .i64 1))),mv 7 19])))
 (.norm false [0,1,4,5,7]))
def b90:AX:=
 (.seq
 (.reg [rg 4 (.mov (.c (.sl [] .nl))),rg 5 (.mov (.c (u32 0))),rg 6 (.mov (.c (.b false)))])
 (.seq
 (.seq
 (.reg [mv 8 1,rg 9 (.bin .eql (.t 8) (.c (u32 0)))])
 (.cond (.t 9)
 (.seq
 (.reg [rg 4 (.mov (.c (.sl [] .nl))),rg 5 (.mov (.c (u32 0))),rg 6 (.mov (.c (.b false)))])
 (.pre (.norm false [4,5,6]) .ret))
 .skip))
 (.seq
 (.reg [mv 10 0,rg 11 (.len (.t 10)),rg 12 (.mks 1 [(u32 0)] (.t 11) (.t 11)),mv 4 12])
 (.seq
 (.seq
 (.reg [mv 13 0,rg 14 (.len (.t 13)),rg 15 (.bin .sub (.t 14) (.c (.i .i64 1))),mv 7 15])
 (.lp 0 (.norm false [0,1,4,5,7]) l90_0 (.norm false [4,5])))
 (.seq
 (.reg [mv 34 4,rg 35 (.call 71 [(.t 34)]),mv 36 5,mv 4 35,mv 5 36,rg 6 (.mov (.c (.b true)))])
 (.pre (.norm false [4,5,6]) .ret))))))
def l119_0:AX:=
 (.note
 (.block 1
 (.seq
 (.reg [mv 46 11,mv 47 4,rg 48 (.call 117 [(.t 46),(.t 47),(.c (u32 0)),(.c (u32 0))]),mv 45 48,rg 49 (.ext (.t 45) 0),rg 50 (.ext (.t 45) 1),mv 16 49,mv 17 50])
 (.seq
 (.seq
 (.reg [mv 51 16,mv 52 12,rg 53 (.bin .lss (.t 51) (.t 52)),mv 54 53,gd 55 54 false (.mov (.t 16)),gd 56 54 false (.mov (.t 12)),gd 57 54 false (.bin .eql (.t 55) (.t 56)),gd 58 54 false (.mov (.t 57)),gd 59 58 true (.mov (.t 17)),gd 60 58 true (.mov (.t 2)),gd 61 58 true (.bin .leq (.t 59) (.t 60)),gd 62 54 false (.pick (.t 58) (.t 61) (.c (.b false))),rg 63 (.pick (.t 54) (.c (.b true)) (.t 62))])
 (.cond (.t 63)
 (.exit 0)
 .skip))
 (.seq
 (.reg [mv 64 11,rg 65 (.bin .sub (.t 64) (.c (u32 1))),mv 11 65])
 (.seq
 (.reg [mv 67 12,mv 68 3,rg 69 (.call 115 [(.t 67),(.t 68),(.c (u32 0))]),mv 66 69,rg 70 (.ext (.t 66) 0),rg 71 (.ext (.t 66) 1),mv 18 70,mv 19 71])
 (.seq
 (.seq
 (.reg [mv 72 19,rg 73 (.bin .gtr (.t 72) (.c (u32 0)))])
 (.cond (.t 73)
 (.exit 0)
 .skip))
 (.reg [mv 74 18,mv 12 74])))))))
 (.norm false [2,3,4,11,12]))
def b119:AX:=
 (.seq
 (.reg [rg 10 (.mov (.c (u32 0)))])
 (.scope
 (.seq
 (.reg [mv 21 0,mv 22 1,mv 23 3,rg 24 (.call 118 [(.t 21),(.t 22),(.t 23)]),mv 20 24,rg 25 (.ext (.t 20) 0),rg 26 (.ext (.t 20) 1),rg 27 (.ext (.t 20) 2),mv 11 25,mv 12 26,mv 13 27])
 (.seq
 (.seq
 (.reg [mv 28 13,rg 29 (.un .not (.t 28))])
 (.cond (.t 29)
 (.seq
 (.reg [rg 11 (.mov (.c (u32 4294967295)))])
 (.seq
 (.reg [mv 31 1,mv 32 3,rg 33 (.call 115 [(.t 31),(.t 32),(.c (u32 0))]),mv 30 33,rg 34 (.ext (.t 30) 0),rg 35 (.ext (.t 30) 1),mv 14 34,mv 15 35])
 (.seq
 (.seq
 (.reg [mv 36 0,mv 37 3,rg 38 (.bin .gtr (.t 36) (.t 37)),mv 39 38,gd 40 39 false (.mov (.t 15)),gd 41 39 false (.bin .gtr (.t 40) (.c (u32 0))),rg 42 (.pick (.t 39) (.c (.b true)) (.t 41))])
 (.cond (.t 42)
 (.seq
 (.reg [mv 43 11,mv 10 43])
 (.pre (.norm false [10]) .ret))
 .skip))
 (.reg [mv 44 14,mv 12 44]))))
 .skip))
 (.seq
 (.label 0)
 (.seq
 (.lp 0 (.norm false [2,3,4,11,12]) l119_0 (.norm false [11]))
 (.seq
 (.reg [mv 75 11,mv 10 75])
 (.pre (.norm false [10]) .ret))))))))
def l120_0:AX:=
 (.note
 (.seq
 (.reg [rg 18 (.bin .lss (.t 17) (.t 16))])
 (.seq
 (.cond (.t 18)
 .skip
 (.exit 0))
 (.seq
 (.block 1
 (.seq
 (.reg [mv 19 17,rg 20 (.iad 1 (.t 15) (.t 17)),rg 21 (.load none (.t 20)),mv 11 19,mv 12 21])
 (.seq
 (.reg [rg 13 (.mov (.c (u32 0)))])
 (.seq
 (.reg [mv 23 3,mv 24 12,mv 25 9,rg 26 (.call 117 [(.t 23),(.t 24),(.t 25),(.c (u32 0))]),mv 22 26,rg 27 (.ext (.t 22) 0),rg 28 (.ext (.t 22) 1),mv 9 27,mv 13 28])
 (.reg [mv 30 0,mv 31 1,mv 32 11,rg 33 (.bin .add (.t 31) (.t 32)),mv 34 0,mv 35 1,mv 36 11,rg 37 (.bin .add (.t 35) (.t 36)),rg 38 (.iad 1 (.t 34) (.t 37)),rg 39 (.load none (.t 38)),mv 40 13,mv 41 10,rg 42 (.call 116 [(.t 39),(.t 40),(.t 41)]),mv 29 42,rg 43 (.ext (.t 29) 0),rg 44 (.ext (.t 29) 1),rg 45 (.iad 1 (.t 30) (.t 33)),so (.store 1 (.t 45) (.t 43)),mv 10 44])))))
 (.reg [rg 46 (.bin .add (.t 17) (.c (.i .i64 1))),mv 17 46]))))
 (.norm false [0,1,2,3,9,10,15,16,17]))
def b120:AX:=
 (.seq
 (.reg [rg 8 (.mov (.c (.b false)))])
 (.seq
 (.reg [rg 9 (.mov (.c (u32 0))),rg 10 (.mov (.c (u32 0)))])
 (.seq
 (.seq
 (.reg [mv 15 2,rg 16 (.len (.t 15)),rg 17 (.mov (.c (.i .i64 0)))])
 (.lp 0 (.norm false [0,1,2,3,9,10,15,16,17]) l120_0 (.norm false [0,1,2,9,10])))
 (.seq
 (.reg [mv 47 1,mv 48 2,rg 49 (.len (.t 48)),rg 50 (.bin .add (.t 47) (.t 49)),mv 14 50])
 (.seq
 (.reg [mv 52 0,mv 53 14,mv 54 0,mv 55 14,rg 56 (.iad 1 (.t 54) (.t 55)),rg 57 (.load none (.t 56)),mv 58 9,mv 59 10,rg 60 (.call 116 [(.t 57),(.t 58),(.t 59)]),mv 51 60,rg 61 (.ext (.t 51) 0),rg 62 (.ext (.t 51) 1),rg 63 (.iad 1 (.t 52) (.t 53)),so (.store 1 (.t 63) (.t 61)),mv 10 62])
 (.seq
 (.reg [mv 64 10,rg 65 (.bin .gtr (.t 64) (.c (u32 0))),mv 8 65])
 (.pre (.norm false [8]) .ret)))))))
def l121_0:AX:=
 (.note
 (.seq
 (.reg [rg 12 (.bin .lss (.t 11) (.t 10))])
 (.seq
 (.cond (.t 12)
 .skip
 (.exit 0))
 (.seq
 (.block 1
 (.seq
 (.reg [mv 13 11,rg 14 (.iad 1 (.t 9) (.t 11)),rg 15 (.load none (.t 14)),mv 7 13,mv 8 15])
 (.reg [mv 17 0,mv 18 1,mv 19 7,rg 20 (.bin .add (.t 18) (.t 19)),mv 21 0,mv 22 1,mv 23 7,rg 24 (.bin .add (.t 22) (.t 23)),rg 25 (.iad 1 (.t 21) (.t 24)),rg 26 (.load none (.t 25)),mv 27 8,mv 28 6,rg 29 (.call 115 [(.t 26),(.t 27),(.t 28)]),mv 16 29,rg 30 (.ext (.t 16) 0),rg 31 (.ext (.t 16) 1),rg 32 (.iad 1 (.t 17) (.t 20)),so (.store 1 (.t 32) (.t 30)),mv 6 31])))
 (.reg [rg 33 (.bin .add (.t 11) (.c (.i .i64 1))),mv 11 33]))))
 (.norm false [0,1,2,6,9,10,11]))
def b121:AX:=
 (.seq
 (.reg [rg 6 (.mov (.c (u32 0)))])
 (.seq
 (.seq
 (.reg [mv 9 2,rg 10 (.len (.t 9)),rg 11 (.mov (.c (.i .i64 0)))])
 (.lp 0 (.norm false [0,1,2,6,9,10,11]) l121_0 (.norm false [0,1,2,6])))
 (.reg [mv 34 0,mv 35 1,mv 36 2,rg 37 (.len (.t 36)),rg 38 (.bin .add (.t 35) (.t 37)),rg 39 (.iad 1 (.t 34) (.t 38)),rg 40 (.load none (.t 39)),mv 41 6,rg 42 (.bin .add (.t 40) (.t 41)),rg 43 (.iad 1 (.t 34) (.t 38)),so (.store 1 (.t 43) (.t 42))])))
def l93_0:AX:=
 (.note
 (.seq
 (.seq
 (.reg [mv 19 7,rg 20 (.bin .geq (.t 19) (.c (.i .i64 0)))])
 (.cond (.t 20)
 .skip
 (.exit 0)))
 (.seq
 (.block 1
 (.seq
 (.drawT [mv 23 0,mv 24 7,mv 25 5,rg 26 (.bin .add (.t 24) (.t 25)),rg 27 (.iad 1 (.t 23) (.t 26)),rg 28 (.load none (.t 27)),mv 29 0,mv 30 7,mv 31 5,rg 32 (.bin .add (.t 30) (.t 31)),rg 33 (.bin .sub (.t 32) (.c (.i .i64 1))),rg 34 (.iad 1 (.t 29) (.t 33)),rg 35 (.load none (.t 34)),mv 36 0,mv 37 7,mv 38 5,rg 39 (.bin .add (.t 37) (.t 38)),rg 40 (.bin .sub (.t 39) (.c (.i .i64 2))),rg 41 (.iad 1 (.t 36) (.t 40)),rg 42 (.load none (.t 41)),mv 43 1,mv 44 5,rg 45 (.bin .sub (.t 44) (.c (.i .i64 1))),rg 46 (.iad 1 (.t 43) (.t 45)),rg 47 (.load none (.t 46)),mv 48 1,mv 49 5,rg 50 (.bin .sub (.t 49) (.c (.i .i64 2))),rg 51 (.iad 1 (.t 48) (.t 50)),rg 52 (.load none (.t 51))]
 [rg 53 (.call 119 [(.t 28),(.t 35),(.t 42),(.t 47),(.t 52)]),mv 8 53])
 (.seq
 (.seq
 (.reg [mv 54 0,mv 55 7,mv 56 1,mv 57 8,rg 58 (.call 120 [(.t 54),(.t 55),(.t 56),(.t 57)])])
 (.cond (.t 58)
 (.seq
 (.reg [mv 59 8,rg 60 (.bin .sub (.t 59) (.c (u32 1))),mv 8 60])
 (.reg [mv 61 0,mv 62 7,mv 63 1,rg 64 (.call 121 [(.t 61),(.t 62),(.t 63)])]))
 .skip))
 (.reg [mv 65 6,mv 66 7,mv 67 8,rg 68 (.iad 1 (.t 65) (.t 66)),so (.store 1 (.t 68) (.t 67))]))))
 (.reg [mv 21 7,rg 22 (.bin .sub (.t 21) (.c (.i .i64 1))),mv 7 22])))
 (.norm false [0,1,5,6,7]))
def b93:AX:=
 (.seq
 (.reg [rg 4 (.mov (.c (.sl [] .nl)))])
 (.seq
 (.reg [mv 9 1,rg 10 (.len (.t 9)),mv 5 10])
 (.seq
 (.reg [mv 11 0,rg 12 (.len (.t 11)),mv 13 5,rg 14 (.bin .sub (.t 12) (.t 13)),rg 15 (.mks 1 [(u32 0)] (.t 14) (.t 14)),mv 6 15])
 (.seq
 (.seq
 (.reg [mv 16 6,rg 17 (.len (.t 16)),rg 18 (.bin .sub (.t 17) (.c (.i .i64 1))),mv 7 18])
 (.lp 0 (.norm false [0,1,5,6,7]) l93_0 (.norm false [6])))
 (.seq
 (.reg [mv 69 6,mv 4 69])
 (.pre (.norm false [4]) .ret))))))
def row90:AFx:=⟨2,37,[.t 4,.t 5,.t 6],b90,none,false⟩
def row119:AFx:=⟨5,76,[.t 10],b119,none,false⟩
def row120:AFx:=⟨4,66,[.t 8],b120,(some [true,false,false,false]),false⟩
def row121:AFx:=⟨3,44,[],b121,(some [true,false,false]),false⟩
def row93:AFx:=⟨2,70,[.t 4],b93,(some [true,false]),false⟩
class Zr (T:Tbl):Prop where
 h90:T 90=some row90
 h119:T 119=some row119
 h120:T 120=some row120
 h121:T 121=some row121
 h93:T 93=some row93
section
variable{T:Tbl}[Zr T]{d:Option Nat}{st:St}
@[simp] theorem x90(xs:List AV):Zc (orc T) T 90 xs d st=cP T 90 false xs d st:=zaa Zr.h90
@[simp] theorem x119(xs:List AV):Zc (orc T) T 119 xs d st=cP T 119 false xs d st:=zaa Zr.h119
theorem f119(xs:List AV)(hn:xs.length=5):Za T 119 xs=Zgu [.t 10] false (evX (orc T) T 0 b119 ⟨Zcf xs,[],1⟩):=zab Zr.h119 hn
@[simp] theorem x120(xs:List AV):Zc (orc T) T 120 xs d st=bL (Zek st.heap [true,false,false,false] xs) fun ys=>Zd1 ys (Zh (Zay [true,false,false,false] xs) st.heap) (Zcv (Zh (Zay [true,false,false,false] xs) st.heap) 40 (Zck [true,false,false,false] xs) []) T 120 false d st:=zaw Zr.h120
@[simp] theorem x121(xs:List AV):Zc (orc T) T 121 xs d st=bL (Zek st.heap [true,false,false] xs) fun ys=>Zd1 ys (Zh (Zay [true,false,false] xs) st.heap) (Zcv (Zh (Zay [true,false,false] xs) st.heap) 40 (Zck [true,false,false] xs) []) T 121 false d st:=zaw Zr.h121
@[simp] theorem x93(xs:List AV):Zc (orc T) T 93 xs d st=bL (Zek st.heap [true,false] xs) fun ys=>Zd1 ys (Zh (Zay [true,false] xs) st.heap) (Zcv (Zh (Zay [true,false] xs) st.heap) 40 (Zck [true,false] xs) []) T 93 false d st:=zaw Zr.h93
end
theorem zk2{m:List UInt32}{j:Nat}(w:UInt32):(List.replicate (j+1) 0++m).set j w=List.replicate j 0++w::m:=by
 rw[List.set_append_left j w (by simp),List.replicate_succ',Y7 j w (by simp)];simp
theorem zk3{m:List UInt32}{j:Nat}:(List.replicate (j+1) (0:UInt32)++m)[j]? = some 0:=by
 rw[Yv (by simp),Ybi,if_pos (by omega)]
section
variable{T:Tbl}[Zq T][Zy T][Zv T][Zr T]
def Zl9(a:List UInt32)(x:Nat)(y:Nat×Nat×List UInt32):St:=
 ⟨[(0,.sl (Zb a) .an),(1,u32 x),(4,.bs (.loc 12) 1 1 0 a.length),(5,u32 y.2.1),(7,.i .i64 ((y.1:Int)-1))],[(.loc 12,⟨1,.own,1,Zb (List.replicate y.1 0++y.2.2)⟩)],3⟩
end
section
variable{T:Tbl}[Zq T]
theorem z3x(a:List UInt32)(x:Nat)(hx:x<4294967296)(hl:a.length≤1000000):∀y:Nat×Nat×List UInt32,
  (y.1≤a.length∧y.2.1<x∧y.2.2.length=a.length-y.1∧val (a.drop y.1)=x*val y.2.2+y.2.1) →
  ∃r,(∃(c:Nat) (m:List UInt32),r=(Ex.n,(⟨[(4,.bs (.loc 12) 1 1 0 a.length),(5,u32 c)],[(.loc 12,⟨1,.own,1,Zb m⟩)],3⟩:St)) ∧
   m.length=a.length∧c<x∧val a=x*val m+c)∧Zj T 0 0 (.norm false [4,5]) l90_0 (Zl9 a x y)=some r:=by
 refine zar _ _ (fun y=>y.1) _ ?_
 rintro⟨k,c,m⟩ ⟨hk,hc,hm,hv⟩
 simp only at hk hc hm hv;cases k with
 | zero=>
  right;refine⟨_,⟨c,m,rfl,by omega,hc,hv⟩,?_,?_⟩<;>simp -implicitDefEqProofs[l90_0,Zl9]
 | succ j=>
  left;have hja:j<a.length:=by omega
  have hy:=zak (a[j]'hja);have hd:=Yj hja;have hw:IntKind.wrap .i64 ((j:Int)-1)=(j:Int)-1:=zac _ (by omega);have hs:=zk2 (m:=m) (j:=j) (w32 ((c*4294967296+(a[j]'hja).toNat)/x));have hq:(c*4294967296+(a[j]'hja).toNat)/x<4294967296:=by
   refine Ycc ?_;omega
  have hdv:=zmw (T:=T) c (a[j]'hja).toNat x hc hy hx;refine⟨(j,(c*4294967296+(a[j]'hja).toNat)%x,w32 ((c*4294967296+(a[j]'hja).toNat)/x)::m),⟨by omega,Yaz _ (by omega),by grind,?_⟩,Yz j,?_⟩
  ·grind[zal,zah,Nat.div_add_mod]
  ·simp -implicitDefEqProofs[l90_0,Zl9,hja,hw,hs,zk3,hdv,zbg _ _ _ hq]
end
section
variable{T:Tbl}[Zq T][Zr T]
theorem zv2(a:List UInt32)(x:Nat)(hx:x<4294967296)(h0:0<x)(hl:a.length≤1000000) :
  Za T 90 [.sl (Zb a) .an,u32 x]=some (.tup [.sl (Zb (ofN (val a/x))) .an,u32 (val a%x),.b true]):=by
 obtain⟨_,⟨c,m,rfl,hm,hc,hv⟩,hr⟩:=z3x (T:=T) a x hx hl (a.length,0,[]) ⟨Ye _,h0,by simp,by rw[Y5,za5,Yac,Y8]⟩;have e1:val a/x=val m:=by grind[Nat.mul_add_div,Nat.div_eq_of_lt]
 have e2:val a%x=c:=by rw[hv,Nat.mul_add_mod,Yh hc]
 have hnm:=zbh (T:=T) m (by omega);unfold Zl9 at hr;simp at hr;have hx0:x≠0:=by omega
 have w1:IntKind.wrap .i64 ((a.length:Int)-1)=(a.length:Int)-1:=zac _ (by omega);have p1:(a.length:Int)≤4294967296:=by omega
 have htk:List.take a.length m=m:=Yb (by omega);rw[e1,e2,zab Zr.h90 rfl,b90];simp -implicitDefEqProofs[hr,hx0,w1,p1,htk,hm,hnm]
end
section
variable{T:Tbl}[Zq T][Zy T][Zv T][Zr T]
theorem zm7{p M w X s t y v D D':Nat}(h:M+X*t=s+p*D)(e:w+X*y+D=v+4294967296*D'):(M+p*w)+X*(t+p*y)=(s+p*v)+p*4294967296*D':=by
 grind
def Zma(P S b:List UInt32)(x:Nat)(y:Nat×(Nat×Nat)×List UInt32):St:=
 ⟨[(0,.bs (.bor 0) 0 1 0 (P.length+S.length)),(1,.i .i64 P.length),(2,.sl (Zb b) .an),(3,u32 x),(9,u32 y.2.1.1),(10,u32 y.2.1.2),(15,.sl (Zb b) .an),(16,.i .i64 b.length),(17,.i .i64 y.1)],
  [(.bor 0,⟨0,.own,1,Zb (P++(y.2.2++S.drop y.1))⟩)],4⟩
end
section
variable{T:Tbl}[Zq T]
theorem z3y(P S b:List UInt32)(x:Nat)(hx:x<4294967296)(hS:b.length<S.length)(hl:P.length+S.length≤1000000):∀y:Nat×(Nat×Nat)×List UInt32,
  (y.1≤b.length∧y.2.1.1<4294967296∧y.2.1.2≤1∧y.2.2.length=y.1∧val y.2.2+x*val (b.take y.1)=val (S.take y.1)+4294967296^y.1*(y.2.1.2+y.2.1.1)) →
  ∃r,(∃(C B:Nat) (m:List UInt32),r=(Ex.n,(⟨[(0,.bs (.bor 0) 0 1 0 (P.length+S.length)),(1,.i .i64 P.length),(2,.sl (Zb b) .an),(9,u32 C),(10,u32 B)],[(.bor 0,⟨0,.own,1,Zb (P++(m++S.drop b.length))⟩)],4⟩:St)) ∧
   C<4294967296∧B≤1∧m.length=b.length∧val m+x*val b=val (S.take b.length)+4294967296^b.length*(B+C))∧Zj T 1 0 (.norm false [0,1,2,9,10]) l120_0 (Zma P S b x y)=some r:=by
 refine zar _ _ (fun y=>b.length-y.1) _ ?_
 rintro⟨i,⟨C,B⟩,m⟩ ⟨hi,hC,hB,hm,hv⟩
 simp only at hi hC hB hm hv;by_cases h0:i<b.length
 ·left;have hb:b[i]? = some (b[i]'h0):=Ya h0;have hiS:i<S.length:=by omega
  have hs:S[i]? = some (S[i]'hiS):=Ya hiS;have hg:=zc7 (P:=P) hm hiS;have hw:IntKind.wrap .i64 ((i:Int)+1)=((i+1:Nat):Int):=zac _ (by omega);have hw2:IntKind.wrap .i64 ((P.length:Int)+i)=((P.length+i:Nat):Int):=zac _ (by omega);have hlt2:(P.length:Int)+i<(P.length:Int)+S.length:=by omega
  have hlb:=zak (b[i]'h0);have hls:=zak (S[i]'hiS);have hmul:=zgp hx hlb;have c1:=zh5 (T:=T) x (b[i]'h0).toNat C 0 hx hlb hC (by decide);rw[Yq]at c1;obtain⟨lo,hlo⟩:∃lo,lo=(x*(b[i]'h0).toNat+C)%4294967296:=⟨_,rfl⟩;obtain⟨C',hC'⟩:∃C',C'=(x*(b[i]'h0).toNat+C)/4294967296:=⟨_,rfl⟩;rw[←hlo,←hC']at c1;have c2:=zfl (T:=T) (S[i]'hiS).toNat lo B hls (by omega) (by omega);obtain⟨w,hwd⟩:∃w,w=((S[i]'hiS).toNat+8589934592-(lo+B))%4294967296:=⟨_,rfl⟩;obtain⟨B',hB'⟩:∃B',B'=2-((S[i]'hiS).toNat+8589934592-(lo+B))/4294967296:=⟨_,rfl⟩;rw[←hwd,←hB']at c2;have hwl:w<4294967296:=by omega
  have hset:=zcr (P:=P) (w32 w) hm hiS;refine⟨(i+1,(C',B'),m++[w32 w]),⟨h0,by grind,by simp only;omega,by grind,?_⟩,by omega,?_⟩
  ·simp only;rw[zai,zaf hb,zaf hs,Y4,hm,zal,za5,Yac,Yq,zah hwl];exact zm7 hv (by omega)
  ·simp -implicitDefEqProofs[l120_0,Zma,h0,hw,hw2,hlt2,hg,c1,c2,hset,zbg _ _ _ hwl]
 ·right;have:i=b.length:=by omega
  subst this;rw[Yb (Ye b.length)]at hv;refine⟨_,⟨C,B,m,rfl,hC,hB,hm,hv⟩,?_,?_⟩<;>simp -implicitDefEqProofs[l120_0,Zma]
end
section
variable{T:Tbl}[Zq T][Zr T]
theorem zv3(P S b:List UInt32)(x:Nat)(hx:x<4294967296)(hS:b.length<S.length)(hl:P.length+S.length≤1000000) :
  ∃(B:Nat) (m:List UInt32),B≤1∧m.length=b.length+1∧val m+x*val b=val (S.take (b.length+1))+4294967296^(b.length+1)*B ∧
   Zbz T 120 [.bs (.bor 0) 0 1 0 (P.length+S.length),.i .i64 P.length,.sl (Zb b) .an,u32 x] [(.bor 0,⟨0,.own,1,Zb (P++S)⟩)] =
    some (.b (decide (0<B)),[(.bor 0,⟨0,.own,1,Zb (P++(m++S.drop (b.length+1)))⟩)]):=by
 obtain⟨_,⟨C,B,m,rfl,hC,hB,hm,hv⟩,hr⟩:=z3y (T:=T) P S b x hx hS hl (0,(0,0),[]) ⟨Yo _,Nat.zero_lt_succ _,Yo _,rfl,by simp⟩;unfold Zma at hr;simp at hr;have hs:S[b.length]? = some (S[b.length]'hS):=Ya hS;have hls:=zak (S[b.length]'hS);have hg:=zc7 (P:=P) hm hS;have hw2:IntKind.wrap .i64 ((P.length:Int)+b.length)=((P.length+b.length:Nat):Int):=zac _ (by omega);have hlt2:(P.length:Int)+b.length<(P.length:Int)+S.length:=by omega
 have c2:=zfl (T:=T) (S[b.length]'hS).toNat C B hls hC (by omega);obtain⟨w,hwd⟩:∃w,w=((S[b.length]'hS).toNat+8589934592-(C+B))%4294967296:=⟨_,rfl⟩;obtain⟨B',hB'⟩:∃B',B'=2-((S[b.length]'hS).toNat+8589934592-(C+B))/4294967296:=⟨_,rfl⟩;rw[←hwd,←hB']at c2;have hwl:w<4294967296:=by omega
 have hset:=zcr (P:=P) (w32 w) hm hS;refine⟨B',m++[w32 w],by omega,by grind,?_,?_⟩
 ·rw[zai,zaf hs,Y4,hm,zal,za5,Yac,Yq,zah hwl];have:=zm7 (y:=0) (w:=w) (v:=(S[b.length]'hS).toNat) (D':=B') hv (by omega);omega
 ·rw[za9 Zr.h120 rfl,b120];simp -implicitDefEqProofs[hr,hw2,hlt2,hg,c2,hset,zbg _ _ _ hwl]
end
section
variable{T:Tbl}[Zq T][Zy T][Zv T][Zr T]
theorem zm8{p M w s t y v D D':Nat}(h:M+p*D=s+t)(e:w+4294967296*D'=v+y+D):(M+p*w)+p*4294967296*D'=(s+p*v)+(t+p*y):=by
 grind
def Zmb(P S b:List UInt32)(y:Nat×Nat×List UInt32):St:=
 ⟨[(0,.bs (.bor 0) 0 1 0 (P.length+S.length)),(1,.i .i64 P.length),(2,.sl (Zb b) .an),(6,u32 y.2.1),(9,.sl (Zb b) .an),(10,.i .i64 b.length),(11,.i .i64 y.1)],
  [(.bor 0,⟨0,.own,1,Zb (P++(y.2.2++S.drop y.1))⟩)],4⟩
end
section
variable{T:Tbl}[Zq T]
theorem z3z(P S b:List UInt32)(hS:b.length<S.length)(hl:P.length+S.length≤1000000):∀y:Nat×Nat×List UInt32,
  (y.1≤b.length∧y.2.1≤1∧y.2.2.length=y.1∧val y.2.2+4294967296^y.1*y.2.1=val (S.take y.1)+val (b.take y.1)) →
  ∃r,(∃(C:Nat) (m:List UInt32),r=(Ex.n,(⟨[(0,.bs (.bor 0) 0 1 0 (P.length+S.length)),(1,.i .i64 P.length),(2,.sl (Zb b) .an),(6,u32 C)],[(.bor 0,⟨0,.own,1,Zb (P++(m++S.drop b.length))⟩)],4⟩:St)) ∧
   C≤1∧m.length=b.length∧val m+4294967296^b.length*C=val (S.take b.length)+val b)∧Zj T 1 0 (.norm false [0,1,2,6]) l121_0 (Zmb P S b y)=some r:=by
 refine zar _ _ (fun y=>b.length-y.1) _ ?_
 rintro⟨i,C,m⟩ ⟨hi,hC,hm,hv⟩
 simp only at hi hC hm hv;by_cases h0:i<b.length
 ·left;have hb:b[i]? = some (b[i]'h0):=Ya h0;have hiS:i<S.length:=by omega
  have hs:S[i]? = some (S[i]'hiS):=Ya hiS;have hg:=zc7 (P:=P) hm hiS;have hw:IntKind.wrap .i64 ((i:Int)+1)=((i+1:Nat):Int):=zac _ (by omega);have hw2:IntKind.wrap .i64 ((P.length:Int)+i)=((P.length+i:Nat):Int):=zac _ (by omega);have hlt2:(P.length:Int)+i<(P.length:Int)+S.length:=by omega
  have hlb:=zak (b[i]'h0);have hls:=zak (S[i]'hiS);have c2:=zd1 (T:=T) (S[i]'hiS).toNat (b[i]'h0).toNat C hls hlb (by omega);obtain⟨w,hwd⟩:∃w,w=((S[i]'hiS).toNat+(b[i]'h0).toNat+C)%4294967296:=⟨_,rfl⟩;obtain⟨C',hC'⟩:∃C',C'=((S[i]'hiS).toNat+(b[i]'h0).toNat+C)/4294967296:=⟨_,rfl⟩;rw[←hwd,←hC']at c2;have hwl:w<4294967296:=by omega
  have hset:=zcr (P:=P) (w32 w) hm hiS;refine⟨(i+1,C',m++[w32 w]),⟨h0,by grind,by grind,?_⟩,by omega,?_⟩
  ·simp only;rw[zai,zaf hb,zaf hs,Y4,hm,zal,za5,Yac,Yq,zah hwl];exact zm8 hv (by omega)
  ·simp -implicitDefEqProofs[l121_0,Zmb,h0,hw,hw2,hlt2,hg,c2,hset,zbg _ _ _ hwl]
 ·right;have:i=b.length:=by omega
  subst this;rw[Yb (Ye b.length)]at hv;refine⟨_,⟨C,m,rfl,hC,hm,hv⟩,?_,?_⟩<;>simp -implicitDefEqProofs[l121_0,Zmb]
end
section
variable{T:Tbl}[Zq T][Zr T]
theorem zv4(P S b:List UInt32)(hS:b.length<S.length)(hl:P.length+S.length≤1000000) :
  ∃(D:Nat) (m:List UInt32),D≤1∧m.length=b.length+1∧val m+4294967296^(b.length+1)*D=val (S.take (b.length+1))+val b ∧
   Zbz T 121 [.bs (.bor 0) 0 1 0 (P.length+S.length),.i .i64 P.length,.sl (Zb b) .an] [(.bor 0,⟨0,.own,1,Zb (P++S)⟩)] =
    some (.tup [],[(.bor 0,⟨0,.own,1,Zb (P++(m++S.drop (b.length+1)))⟩)]):=by
 obtain⟨_,⟨C,m,rfl,hC,hm,hv⟩,hr⟩:=z3z (T:=T) P S b hS hl (0,0,[]) ⟨Yo _,Yo _,rfl,by simp⟩;unfold Zmb at hr;simp at hr;have hs:S[b.length]? = some (S[b.length]'hS):=Ya hS;have hls:=zak (S[b.length]'hS);have hg:=zc7 (P:=P) hm hS;have hw2:IntKind.wrap .i64 ((P.length:Int)+b.length)=((P.length+b.length:Nat):Int):=zac _ (by omega);have hlt2:(P.length:Int)+b.length<(P.length:Int)+S.length:=by omega
 obtain⟨w,hwd⟩:∃w,w=((S[b.length]'hS).toNat+C)%4294967296:=⟨_,rfl⟩;have hwl:w<4294967296:=by omega
 have hset:=zcr (P:=P) (w32 w) hm hS;refine⟨((S[b.length]'hS).toNat+C)/4294967296,m++[w32 w],by omega,by grind,?_,?_⟩
 ·rw[zai,zaf hs,Y4,hm,zal,za5,Yac,Yq,zah hwl];have:=zm8 (y:=0) (w:=w) (v:=(S[b.length]'hS).toNat) (D':=((S[b.length]'hS).toNat+C)/4294967296) hv (by omega);omega
 ·rw[za9 Zr.h121 rfl,b121];simp -implicitDefEqProofs[hr,hw2,hlt2,hg,←hwd,hset,zbg _ _ _ hwl]
end
theorem zh1(q b1 b0:Nat):q*(b1*4294967296+b0)=q*b1*4294967296+q*b0:=by
 rw[Yag q,←Y3 q]
theorem zkt{a2 a1 a0 b1 b0 q r:Nat}(h:q*b1+r=a2*4294967296+a1)(hle:q*b0≤r*4294967296+a0) :
  q*(b1*4294967296+b0)≤(a2*4294967296+a1)*4294967296+a0:=by
 refine Yc (Nat.le_of_eq (zh1 q b1 b0)) ?_;revert h hle;generalize q*b1=u;generalize q*b0=v;omega
theorem zy5{a2 a1 a0 b1 b0 q r:Nat}(h:q*b1+r=a2*4294967296+a1)(hgt:r*4294967296+a0<q*b0) :
  (a2*4294967296+a1)*4294967296+a0<q*(b1*4294967296+b0):=by
 refine Nat.lt_of_lt_of_eq ?_ (zh1 q b1 b0).symm;revert h hgt;generalize q*b1=u;generalize q*b0=v;omega
theorem zvb{q b0 r a0:Nat}(h0:a0<4294967296):(q*b0/4294967296<r∨q*b0/4294967296=r∧q*b0%4294967296≤a0)↔q*b0≤r*4294967296+a0:=by
 generalize q*b0=m;omega
section
variable{T:Tbl}[Zq T][Zy T][Zv T][Zr T]
def Zhg(a0 b1 b0:Nat)(y:Nat×Nat):St:=⟨[(2,u32 a0),(3,u32 b1),(4,u32 b0),(11,u32 y.1),(12,u32 y.2)],[],2⟩
end
section
variable{T:Tbl}[Zq T]
theorem zvc(a2 a1 a0 b1 b0 g:Nat)(h0:a0<4294967296)(hb1:b1<4294967296)(hb0:b0<4294967296)
  (F1:∀q,q<4294967296→g≤q→q*(b1*4294967296+b0)≤(a2*4294967296+a1)*4294967296+a0→q=g)
  (F2:∀q,(a2*4294967296+a1)*4294967296+a0<q*(b1*4294967296+b0)→g<q):∀y:Nat×Nat,
  (y.1<4294967296∧y.2<4294967296∧y.1*b1+y.2=a2*4294967296+a1∧g≤y.1) →
  ∃r,(r=(Ex.n,(⟨[(11,u32 g)],[],2⟩:St)))∧Zj T 0 0 (.norm false [11]) l119_0 (Zhg a0 b1 b0 y)=some r:=by
 refine zar _ _ (fun y=>y.1) _ ?_
 rintro⟨q,r⟩ ⟨hq,hr,hv,hg⟩
 simp only at hq hr hv hg;have c1:=zh5 (T:=T) q b0 0 0 hq hb0 (by decide) (by decide);have c2:=zd1 (T:=T) r b1 0 hr hb1 (by decide);rw[Yq]at c1;rw[Yq]at c2;have hcmp:=zvb (q:=q) (b0:=b0) (r:=r) h0;obtain⟨hi,hhi⟩:∃hi,hi=q*b0/4294967296:=⟨_,rfl⟩;obtain⟨lo,hlo⟩:∃lo,lo=q*b0%4294967296:=⟨_,rfl⟩;rw[←hhi,←hlo]at c1 hcmp;have hlol:lo<4294967296:=by omega
 have hhil:hi<4294967296:=by
  have:=zgp hq hb0;omega
 by_cases hle:q*b0≤r*4294967296+a0
 ·right;have hqg:=F1 q hq hg (zkt hv hle);subst hqg;have hc:=hcmp.2 hle;clear hhi hlo;rcases hc with hc | ⟨rfl,hc2⟩
  ·refine⟨_,rfl,?_,?_⟩<;>simp -implicitDefEqProofs[l119_0,Zhg,c1,hc]
  ·refine⟨_,rfl,?_,?_⟩<;>simp -implicitDefEqProofs[l119_0,Zhg,c1,hc2]
 ·have hgt:r*4294967296+a0<q*b0:=by omega
  have hlt:=F2 q (zy5 hv hgt);have hc:¬ (hi<r∨hi=r∧lo≤a0):=fun h=>hle (hcmp.1 h);have hq1:q-1<4294967296:=by omega
  have hs:Zgr q 1=q-1:=by unfold Zgr;omega
  have hqb:(q-1)*b1+(r+b1)=a2*4294967296+a1:=by
   have:q*b1=(q-1)*b1+b1:=by
    rw[←Nat.succ_mul];congr 1;omega
   omega
  by_cases hcar:4294967296≤r+b1
  ·right;have hmul:=zgp hq1 hb0;have hqg:=F1 (q-1) hq1 (by omega) (zkt hqb (by
    generalize (q-1)*b0=v at *
    omega))
   have m2:0<(r+b1)/4294967296:=Yes hcar (by decide);have m3:(r+b1)/4294967296<4294967296:=by omega
   have hr2:¬ hi<r:=fun h=>hc (.inl h);clear hhi hlo;refine⟨_,rfl,?_,?_⟩<;>by_cases he:hi=r
   ·have hc3:¬ lo≤a0:=fun h=>hc (.inr ⟨he,h⟩);subst he;simp -implicitDefEqProofs[l119_0,Zhg,c1,c2,hs,hc3,m2]
   ·simp -implicitDefEqProofs[l119_0,Zhg,c1,c2,hs,hr2,he,m2]
   ·have hc3:¬ lo≤a0:=fun h=>hc (.inr ⟨he,h⟩);subst he;simp -implicitDefEqProofs[l119_0,Zhg,c1,c2,hs,hc3,m2,hqg]
   ·simp -implicitDefEqProofs[l119_0,Zhg,c1,c2,hs,hr2,he,m2,hqg]
  ·left;refine⟨(q-1,r+b1),⟨hq1,by simp only;omega,hqb,by simp only;omega⟩,by simp only;omega,?_⟩;have m1:(r+b1)%4294967296=r+b1:=Yh (by omega);have m2:(r+b1)/4294967296=0:=Ya2 (by omega);rw[m1,m2]at c2;have hr2:¬ hi<r:=fun h=>hc (.inl h);clear hhi hlo;by_cases he:hi=r
   ·have hc3:¬ lo≤a0:=fun h=>hc (.inr ⟨he,h⟩);subst he;simp -implicitDefEqProofs[l119_0,Zhg,c1,c2,hs,hc3]
   ·simp -implicitDefEqProofs[l119_0,Zhg,c1,c2,hs,hr2,he]
end
section
variable{T:Tbl}[Zq T][Zy T][Zv T][Zr T]
theorem z3a{n two:Nat}(h:0<two):(∀q,q<4294967296→min 4294967295 (n/two)≤q→q*two≤n→q=min 4294967295 (n/two))∧(∀q,n<q*two→min 4294967295 (n/two)<q):=by
 constructor
 ·intro q hq hg hle;have:=(Yca h).2 hle;omega
 ·intro q hlt;have:=(Ybr h).2 hlt;omega
theorem zy6{A a0 b1 b0:Nat}(h0:a0<4294967296)(hp:0<b1):A*4294967296+a0<(A/b1+1)*(b1*4294967296+b0):=by
 have h1:A<(A/b1+1)*b1:=by rw[Yaf];exact Nat.lt_mul_div_succ A hp
 refine Nat.lt_of_lt_of_eq ?_ (zh1 (A/b1+1) b1 b0).symm;generalize (A/b1+1)*b1=u at *
 generalize (A/b1+1)*b0=v at *
 omega
end
section
variable{T:Tbl}[Zq T][Zr T]
theorem zr9(a2 a1 a0 b1 b0:Nat)(h2:a2<4294967296)(h1:a1<4294967296)(h0:a0<4294967296)(hb1:b1<4294967296)(hb0:b0<4294967296)(hp:0<b1) :
  Za T 119 [u32 a2,u32 a1,u32 a0,u32 b1,u32 b0]=some (u32 (min 4294967295 (((a2*4294967296+a1)*4294967296+a0)/(b1*4294967296+b0)))):=by
 obtain⟨F1,F2⟩:=z3a (n:=(a2*4294967296+a1)*4294967296+a0) (two:=b1*4294967296+b0) (by omega);have hgle:=Yel 4294967295 (((a2*4294967296+a1)*4294967296+a0)/(b1*4294967296+b0));generalize min 4294967295 (((a2*4294967296+a1)*4294967296+a0)/(b1*4294967296+b0))=g at *
 by_cases hlt:a2<b1
 ·have hd:=zmw (T:=T) a2 a1 b1 hlt h1 hb1;have hql:(a2*4294967296+a1)/b1<4294967296:=z1a hlt h1;have hrl:(a2*4294967296+a1)%b1<b1:=Yaz _ hp;have hdm:=Ybs (a2*4294967296+a1) b1;rw[Yaf]at hdm;obtain⟨_,rfl,hr⟩:=zvc (T:=T) a2 a1 a0 b1 b0 g h0 hb1 hb0 F1 F2 ((a2*4294967296+a1)/b1,(a2*4294967296+a1)%b1) ⟨hql,by simp only;omega,hdm,by have:=F2 _ (zy6 (A:=a2*4294967296+a1) (b0:=b0) h0 hp);simp only;omega⟩;unfold Zhg at hr;simp at hr;rw[f119 _ rfl,b119];simp -implicitDefEqProofs[hd,hr]
 ·have hd:=zsb (T:=T) a2 a1 b1 (by omega) h2 h1;have ha:=zd1 (T:=T) a1 b1 0 h1 hb1 (by decide);rw[Yq]at ha;by_cases hbig:b1<a2∨4294967296≤a1+b1
  ·have hg:4294967295=g:=by
    refine F1 4294967295 (by decide) hgle ?_;refine zkt (r:=a2*4294967296+a1-4294967295*b1) (by omega) ?_;omega
   subst hg;rw[f119 _ rfl,b119];rcases Yt b1 a2 with hb | hb
   ·simp -implicitDefEqProofs[hd,ha,hb]
   ·have hc:4294967296≤a1+b1:=by omega
    have hb2:¬ b1<a2:=by omega
    have m2:0<(a1+b1)/4294967296:=Yes hc (by decide);simp -implicitDefEqProofs[hd,ha,hb2,m2]
  ·have hb2:¬ b1<a2:=fun h=>hbig (.inl h);have hc:a1+b1<4294967296:=by omega
   have m1:(a1+b1)%4294967296=a1+b1:=Yh hc;have m2:(a1+b1)/4294967296=0:=Ya2 hc;rw[m1,m2]at ha;obtain⟨_,rfl,hr⟩:=zvc (T:=T) a2 a1 a0 b1 b0 g h0 hb1 hb0 F1 F2 (4294967295,a1+b1) ⟨Yz 4294967295,hc,by simp only;omega,hgle⟩;unfold Zhg at hr;simp at hr;have hb3:a2≤b1:=by omega
   rw[f119 _ rfl,b119];simp -implicitDefEqProofs[hd,ha,hb2,hr]
end
theorem zxp{V b d three two v0 b0:Nat}(hV:V=three*d+v0)(hv:v0<d)(hb:b=two*d+b0)(hb0:b0<d)(h2:4294967296≤two)(hlt:V<4294967296*b) :
  V/b≤min 4294967295 (three/two)∧min 4294967295 (three/two)≤V/b+1:=by
 have hd:0<d:=by omega
 have htp:0<two:=by omega
 have hbp:0<b:=by
  have:=Nat.mul_pos htp hd;omega
 have hq:V/b<4294967296:=Ycc (by rw[Yaf];exact hlt);have hqb:V/b*b≤V:=Nat.div_mul_le_self V b;have hqb2:V<(V/b+1)*b:=by rw[Yaf];exact Nat.lt_mul_div_succ V hbp
 generalize V/b=q at *
 constructor
 ·refine Nat.le_min.2 ⟨by omega,(Yca htp).2 ?_⟩;have h3:q*two*d<(three+1)*d:=by
   have:q*two*d≤q*b:=by rw[hb,Yag,Y3];omega
   rw[Ybw,Yd9];omega
  have:=Nat.lt_of_mul_lt_mul_right h3;omega
 ·generalize hx:min 4294967295 (three/two)=x;have hx1:x≤three/two:=by rw[←hx];exact Nat.min_le_right _ _
  have hx2:x≤4294967295:=by rw[←hx];exact Yel _ _
  have hx3:x*two≤three:=(Yca htp).1 hx1;rcases Yt (q+1) x with h | h
  ·exfalso;have e1:(q+2)*two≤x*two:=Yu _ h;have e2:(q+2)*two*d≤three*d:=Yu _ (Yc e1 hx3);have e3:(q+1)*b=(q+1)*two*d+(q+1)*b0:=by rw[hb,Yag,Y3]
   have e4:(q+1)*b0≤(q+1)*d:=Yx _ (Yda hb0);have e5:(q+2)*two*d=(q+1)*two*d+two*d:=by rw[show q+2=(q+1)+1 from rfl,Ybw (q+1) 1 two,Yd9,Ybw]
   have e6:(q+1)*d≤two*d:=Yu _ (by omega);omega
  ·exact h
theorem zzi{vA vA' t p V x r vb vm T:Nat}(h0:vA=t+p*V)(h1:vA'=t+p*r)(hV:V=vb*x+r)(hT:T=vA+p*4294967296*(vm*vb)) :
  T=vA'+p*((x+4294967296*vm)*vb):=by grind
theorem zvl{V b x Bo vm p:Nat}(hb:0<b)(h1:V/b≤x)(h2:x≤V/b+1)(_hp:V<p)(hm:vm<p)(hBo:Bo≤1)(h:vm+x*b=V+p*Bo) :
  (Bo=0→x=V/b∧vm=V%b)∧(Bo=1→x=V/b+1∧vm+b=V%b+p):=by
 have hd:=Ybs V b;constructor
 ·intro h0;subst h0;have hx:x=V/b:=by
   have:x*b≤V:=by omega
   have:=(Yca hb).2 this;omega
  grind
 ·intro h0;subst h0;have hx:x=V/b+1:=by
   grind
  grind
theorem zvm{vm b r p D vm':Nat}(_hr:r<p)(h:vm+b=r+p)(hm:vm'<p)(hD:D≤1)(hg:vm'+p*D=vm+b):vm'=r:=by
 rcases Yaw D with h0 | h0
 all_goals grind
theorem zmx{α:Type}{A:List α}{i k:Nat}(h:i=k)(hi:i<A.length)(hk:k<A.length):A[i]'hi=A[k]'hk:=by grind
theorem zkx(A:List UInt32)(j n:Nat):val (A.drop j)=val ((A.drop j).take n)+4294967296^((A.drop j).take n).length*val (A.drop (j+n)):=by
 grind[List.take_append_drop,zai,List.drop_drop]
theorem zsd{q x:Nat}(h:x=q+1)(hx:x<4294967296):Zgr x 1=q:=by unfold Zgr;omega
theorem zvn{A m1:List UInt32}{j n:Nat}(hm1:m1.length=n+1)(hj:j+n<A.length) :
  (A.take j++(m1++A.drop (j+(n+1)))).take j=A.take j∧(A.take j++(m1++A.drop (j+(n+1)))).drop (j+(n+1))=A.drop (j+(n+1)) ∧
  ((A.take j++(m1++A.drop (j+(n+1)))).drop j).take (n+1)=m1∧(A.take j++(m1++A.drop (j+(n+1)))).length=A.length:=by
 have htj:(A.take j).length=j:=by grind
 refine⟨?_,?_,?_,?_⟩
 ·rw[Ybx (by omega),Yb (by omega)]
 ·rw[←Yeo,Yby (by omega),Yat (l:=A.take j) (by omega),Yam,Yby (by omega),Yat (by omega),Yam]
 all_goals grind
theorem zvo{D:List UInt32}{n:Nat}(h:n+2<D.length):val (D.take (n+3))=(((D[n+2]'h).toNat*4294967296+(D[n+1]'(by omega)).toNat)*4294967296+(D[n]'(by omega)).toNat)*4294967296^n+val (D.take n):=by
 grind[zaf]
theorem z3i{D:List UInt32}{n:Nat}(h:n+1<D.length):val (D.take (n+2))=((D[n+1]'h).toNat*4294967296+(D[n]'(by omega)).toNat)*4294967296^n+val (D.take n):=by
 grind[zaf]
section
variable{T:Tbl}[Zq T][Zr T]
theorem zse(A b:List UInt32)(j x:Nat)(hx:x<4294967296)(hj:j+b.length<A.length)(hl:A.length≤1000000) :
  ∃(B:Nat) (m:List UInt32),B≤1∧m.length=b.length+1∧val m+x*val b=val ((A.drop j).take (b.length+1))+4294967296^(b.length+1)*B ∧
   Zbz T 120 [.bs (.bor 0) 0 1 0 A.length,.i .i64 j,.sl (Zb b) .an,u32 x] [(.bor 0,⟨0,.own,1,Zb A⟩)] =
    some (.b (decide (0<B)),[(.bor 0,⟨0,.own,1,Zb (A.take j++(m++A.drop (j+(b.length+1))))⟩)]):=by
 have h1:(A.take j).length=j:=by grind
 have h2:(A.drop j).length=A.length-j:=by simp
 obtain⟨B,m,hB,hm,hv,hc⟩:=zv3 (T:=T) (A.take j) (A.drop j) b x hx (by omega) (by omega)
 grind[List.take_append_drop,List.drop_drop]
end
section
variable{T:Tbl}[Zq T][Zr T]
theorem zsf(A b:List UInt32)(j:Nat)(hj:j+b.length<A.length)(hl:A.length≤1000000) :
  ∃(D:Nat) (m:List UInt32),D≤1∧m.length=b.length+1∧val m+4294967296^(b.length+1)*D=val ((A.drop j).take (b.length+1))+val b ∧
   Zbz T 121 [.bs (.bor 0) 0 1 0 A.length,.i .i64 j,.sl (Zb b) .an] [(.bor 0,⟨0,.own,1,Zb A⟩)] =
    some (.tup [],[(.bor 0,⟨0,.own,1,Zb (A.take j++(m++A.drop (j+(b.length+1))))⟩)]):=by
 have h1:(A.take j).length=j:=by grind
 have h2:(A.drop j).length=A.length-j:=by simp
 obtain⟨D,m,hD,hm,hv,hc⟩:=zv4 (T:=T) (A.take j) (A.drop j) b (by omega) (by omega);rw[h1,h2,show j+(A.length-j)=A.length by omega,Yan,Yeo]at hc;exact⟨D,m,hD,hm,hv,hc⟩
end
section
variable{T:Tbl}[Zq T][Zy T][Zv T][Zr T]
def Zkh(b:List UInt32)(LA LQ:Nat)(y:Nat×List UInt32×List UInt32):St:=
 ⟨[(0,.bs (.bor 0) 0 1 0 LA),(1,.sl (Zb b) .an),(5,.i .i64 b.length),(6,.bs (.loc 15) 3 1 0 LQ),(7,.i .i64 ((y.1:Int)-1))],
  [(.bor 0,⟨0,.own,1,Zb y.2.1⟩),(.loc 15,⟨3,.own,1,Zb (List.replicate y.1 0++y.2.2)⟩)],5⟩
end
section
variable{T:Tbl}[Zq T][Zr T]
set_option maxHeartbeats 2000000 in
theorem z3j(A0 b:List UInt32)(LQ nb:Nat)(hnb:b.length=nb+2)(hb1:0<(b[nb+1]'(by omega)).toNat)(hl:A0.length≤1000000)(hA0:A0.length=LQ+b.length):∀y:Nat×List UInt32×List UInt32,
  (y.1≤LQ∧y.2.1.length=A0.length∧y.2.2.length=LQ-y.1∧val (y.2.1.drop y.1)<val b∧val A0=val y.2.1+4294967296^y.1*(val y.2.2*val b)) →
  ∃r,(∃Q A:List UInt32,r=(Ex.n,(⟨[(6,.bs (.loc 15) 3 1 0 LQ)],[(.bor 0,⟨0,.own,1,Zb A⟩),(.loc 15,⟨3,.own,1,Zb Q⟩)],5⟩:St)) ∧
   Q.length=LQ∧A.length=A0.length∧val Q=val A0/val b∧val A=val A0%val b)∧Zj T 1 0 (.norm false [6]) l93_0 (Zkh b A0.length LQ y)=some r:=by
 refine zar _ _ (fun y=>y.1) _ ?_
 rintro⟨k,A,m⟩ ⟨hk,hA,hm,hlt,hv⟩
 simp only at hk hA hm hlt hv;have hbp:0<val b:=by omega
 cases k with
 | zero=>
  right;rw[Ydg,Yd9]at hv;rw[Yad]at hlt;refine⟨_,⟨m,A,rfl,by omega,hA,?_,?_⟩,?_,?_⟩
  ·rw[hv,Nat.add_mul_div_right _ _ hbp,Ya2 hlt,Y8]
  ·rw[hv,Ydv,Yh hlt]
  ·simp -implicitDefEqProofs[l93_0,Zkh]
  ·simp -implicitDefEqProofs[l93_0,Zkh]
 | succ j=>
  left
  -- the window
  have hD:(A.drop j).length=A.length-j:=by simp
  have hDn:nb+2<(A.drop j).length:=by omega
  have hVlt:val (A.drop j)<4294967296*val b:=by
   have:=Yj (show j<A.length by omega);rw[this,zal];have:=zak (A[j]'(by omega));omega
  have hbB:=za0 b;rw[hnb]at hbB;have hsplit:=zkx A j (nb+3);have hlen3:((A.drop j).take (nb+3)).length=nb+3:=by simp;omega
  rw[hlen3]at hsplit;have hz:val (A.drop (j+(nb+3)))=0:=by
   rcases Yaw (val (A.drop (j+(nb+3)))) with h | h
   ·exact h
   ·exfalso;have h1:=Yx (4294967296^(nb+3)) h;rw[Y4 4294967296 (nb+2)]at h1 hsplit;generalize 4294967296^(nb+2)=p at *
    generalize p*4294967296*val (A.drop (j+(nb+3)))=u at *
    omega
  rw[hz,Yac,Yq]at hsplit;have h3:=zvo hDn;have h2:=z3i (D:=b) (n:=nb) (by omega);rw[zbf (a:=b) (i:=nb+2) (by omega)]at h2;have hv0:=za0 ((A.drop j).take nb);have hb0:=za0 (b.take nb);rw[show ((A.drop j).take nb).length=nb by simp;omega]at hv0;rw[show (b.take nb).length=nb by simp;omega]at hb0;obtain⟨V,hV⟩:∃V,V=val (A.drop j):=⟨_,rfl⟩;rw[←hV]at hsplit hVlt;rw[←hsplit]at h3;have hg:=zxp (V:=V) (b:=val b) h3 hv0 h2 hb0 (by omega) hVlt;obtain⟨p0,hp0⟩:∃p,p=j+b.length:=⟨_,rfl⟩;obtain⟨p1,hp1⟩:∃p,p=j+(nb+1):=⟨_,rfl⟩;obtain⟨p2,hp2⟩:∃p,p=j+nb:=⟨_,rfl⟩;obtain⟨q1,hq1⟩:∃p,p=nb+1:=⟨_,rfl⟩;have c1:p0<A.length:=by omega
  have c2:p1<A.length:=by omega
  have c3:p2<A.length:=by omega
  have c4:q1<b.length:=by omega
  have c5:nb<b.length:=by omega
  have e1:(A.drop j)[nb+2]'hDn=A[p0]'c1:=Yd5.trans (zmx (by omega) _ _);have e2:(A.drop j)[nb+1]'(by omega)=A[p1]'c2:=Yd5.trans (zmx (by omega) _ _);have e3:(A.drop j)[nb]'(by omega)=A[p2]'c3:=Yd5.trans (zmx (by omega) _ _);have e4:b[nb+1]'(by omega)=b[q1]'c4:=zmx (by omega) _ _;rw[e1,e2,e3,e4]at hg;rw[e4]at hb1;have hgs:=zr9 (T:=T) (A[p0]'c1).toNat (A[p1]'c2).toNat (A[p2]'c3).toNat (b[q1]'c4).toNat (b[nb]'c5).toNat (zak _) (zak _) (zak _) (zak _) (zak _) hb1;obtain⟨x,hxd⟩:∃x,x=min 4294967295 ((((A[p0]'c1).toNat*4294967296+(A[p1]'c2).toNat)*4294967296+(A[p2]'c3).toNat)/((b[q1]'c4).toNat*4294967296+(b[nb]'c5).toNat)):=⟨_,rfl⟩;rw[←hxd]at hg hgs;have hx:x<4294967296:=by rw[hxd];exact Ycl (Yel _ _) (by decide)
  clear hxd;obtain⟨Bo,m1,hBo,hm1,hvm1,hct⟩:=zse (T:=T) A b j x hx (by omega) (by omega);rw[hnb,show nb+2+1=nb+3 from rfl,←hsplit]at hvm1;have hm1l:=za0 m1;rw[hm1,hnb,show nb+2+1=nb+3 from rfl]at hm1l;have hVp:V<4294967296^(nb+3):=by
   rw[Y4 4294967296 (nb+2)];generalize 4294967296^(nb+2)=p at *
   omega
  have hpk:=zvl hbp hg.1 hg.2 hVp hm1l hBo hvm1;have hql:V/val b<4294967296:=Ycc (by rw[Yaf];exact hVlt);have hzb:val (A.drop (j+(b.length+1)))=0:=by rw[hnb];exact hz
  have htj:(A.take j).length=j:=by simp;omega
  have fin:∀m2:List UInt32,m2.length=b.length+1→val m2=V%val b →
    (A.take j++(m2++A.drop (j+(b.length+1)))).length=A0.length∧val ((A.take j++(m2++A.drop (j+(b.length+1)))).drop j)<val b ∧
    val A0=val (A.take j++(m2++A.drop (j+(b.length+1))))+4294967296^j*(val (w32 (V/val b)::m)*val b):=by
   intro m2 hm2 hvm2;refine⟨by simp[hm2];omega,?_,?_⟩
   ·rw[Yby (by omega),Yat (by omega),Yam,zai,hzb,Yac,Yq,hvm2];exact Yaz _ hbp
   ·have t1:val A=val (A.take j)+4294967296^j*V:=by rw[hV];exact znm A j (by omega)
    have t2:val (A.take j++(m2++A.drop (j+(b.length+1))))=val (A.take j)+4294967296^j*(V%val b):=by
     rw[zai,zai,hzb,Yac,Yq,hvm2,htj]
    rw[zal,zah hql];exact zzi t1 t2 (Ybs V (val b)).symm hv
  clear hv hvm1 hsplit h3 h2 hg hbB hVlt hlt hzb hz hv0 hb0 hm1l hVp;have hw1:IntKind.wrap .i64 ((j:Int)-1)=(j:Int)-1:=zac _ (by omega);have hw2:IntKind.wrap .i64 ((j:Int)+b.length)=((p0:Nat):Int):=by rw[zac _ (by omega)];omega
  have hw3:IntKind.wrap .i64 ((p0:Int)-1)=((p1:Nat):Int):=by rw[zac _ (by omega)];omega
  have hw4:IntKind.wrap .i64 ((p0:Int)-2)=((p2:Nat):Int):=by rw[zac _ (by omega)];omega
  have hw5:IntKind.wrap .i64 ((b.length:Int)-1)=((q1:Nat):Int):=by rw[zac _ (by omega)];omega
  have hw6:IntKind.wrap .i64 ((b.length:Int)-2)=((nb:Nat):Int):=by rw[zac _ (by omega)];omega
  have hj1:j<LQ:=by omega
  rw[hA]at hct;have hml:(w32 (V/val b)::m).length=LQ-j:=by simp[hm];omega
  have hjb:j+b.length<A.length:=by omega
  have hnb3:nb+3=b.length+1:=by omega
  have d1:p0<A0.length:=by omega
  have d2:p1<A0.length:=by omega
  have d3:p2<A0.length:=by omega
  rcases Yaw Bo with h0 | h0
  ·obtain⟨hxq,hvm⟩:=hpk.1 h0;subst h0;subst hxq;have hset:=zk2 (m:=m) (j:=j) (w32 (V/val b));obtain⟨f1,f2,f3⟩:=fin m1 hm1 hvm;refine⟨(j,A.take j++(m1++A.drop (j+(b.length+1))),w32 (V/val b)::m),⟨Yda hj1,f1,hml,f2,f3⟩,Yz j,?_⟩;simp -implicitDefEqProofs[l93_0,Zkh,hw1,hw2,hw3,hw4,hw5,hw6,c4,c5,d1,d2,d3,hA,hj1,hgs,hct,hset,zk3,zbg _ _ _ hx]
  ·have h1:Bo=1:=by omega
   obtain⟨hxq,hvm⟩:=hpk.2 h1;subst h1;have hset:=zk2 (m:=m) (j:=j) (w32 (V/val b));obtain⟨t1,t2,t3,t4⟩:=zvn (A:=A) hm1 hjb;rw[hA]at t4;obtain⟨D,m2,hD,hm2,hvm2,hcg⟩:=zsf (T:=T) (A.take j++(m1++A.drop (j+(b.length+1)))) b j (by rw[t4,←hA];exact hjb) (by rw[t4];exact hl);rw[t1,t2,t4]at hcg;rw[t3]at hvm2;have hm2l:=za0 m2;rw[hm2]at hm2l;have hVb:=Yaz V hbp;have hbq:val b<4294967296^(b.length+1):=Yp (za0 b) (Yk (by decide) (Ybo _));rw[hnb3]at hvm;have hv2:=zvm (Nat.lt_trans hVb hbq) hvm hm2l hD hvm2;have hsx:=zsd hxq hx;obtain⟨f1,f2,f3⟩:=fin m2 hm2 hv2;refine⟨(j,A.take j++(m2++A.drop (j+(b.length+1))),w32 (V/val b)::m),⟨Yda hj1,f1,hml,f2,f3⟩,Yz j,?_⟩;simp -implicitDefEqProofs[l93_0,Zkh,hw1,hw2,hw3,hw4,hw5,hw6,c4,c5,d1,d2,d3,hA,hj1,hgs,hct,hsx,hcg,hset,zk3,zbg _ _ _ hql]
end
section
variable{T:Tbl}[Zq T][Zr T]
theorem zvp(A b:List UInt32)(LQ nb:Nat)(hnb:b.length=nb+2)(hb1:0<(b[nb+1]'(by omega)).toNat)(hl:A.length≤1000000)(hA:A.length=LQ+b.length)(hlt:val (A.drop LQ)<val b) :
  ∃Q R:List UInt32,Q.length=LQ∧R.length=A.length∧val Q=val A/val b∧val R=val A%val b ∧
   Zbz T 93 [.bs (.bor 0) 0 1 0 A.length,.sl (Zb b) .an] [(.bor 0,⟨0,.own,1,Zb A⟩)]=some (.bs (.loc 15) 3 1 0 LQ,[(.bor 0,⟨0,.own,1,Zb R⟩),(.loc 15,⟨3,.own,1,Zb Q⟩)]):=by
 obtain⟨_,⟨Q,R,rfl,hQ,hR,hq,hr⟩,hlp⟩:=z3j (T:=T) A b LQ nb hnb hb1 hl hA (LQ,A,[]) ⟨Ye _,rfl,by simp,hlt,by simp⟩;have hw:IntKind.wrap .i64 ((A.length:Int)-b.length)=(LQ:Int):=by rw[zac _ (by omega)];omega
 have hw1:IntKind.wrap .i64 ((LQ:Int)-1)=(LQ:Int)-1:=zac _ (by omega);have h1:(LQ:Int)≤4294967296:=by omega
 refine⟨Q,R,hQ,hR,hq,hr,?_⟩;unfold Zkh at hlp;simp at hlp;rw[za9 Zr.h93 rfl,b93];simp -implicitDefEqProofs[hw,hw1,h1,hlp]
end
def b2071:AX:=
 (.seq
 (.reg [rg 2 (.mov (.c (.sl [] .nl)))])
 (.seq
 (.reg [mv 3 0,rg 4 (.call 86 [(.t 3)]),rg 5 (.call 2106 [(.t 4),(.c (.i .i64 0))]),mv 2 5])
 (.pre (.norm false [2]) .ret)))
def l2092_0:AX:=
 (.note
 (.seq
 (.reg [rg 27 (.bin .lss (.t 26) (.t 25))])
 (.seq
 (.cond (.t 27)
 .skip
 (.exit 0))
 (.seq
 (.block 1
 (.seq
 (.reg [mv 28 26,rg 29 (.iad 1 (.t 24) (.t 26)),rg 30 (.load none (.t 29)),mv 8 28,mv 9 30])
 (.seq
 (.reg [mv 31 9,rg 32 (.conv .u64 (.t 31)),mv 33 6,rg 34 (.bin .shl (.t 32) (.t 33)),mv 10 34])
 (.seq
 (.reg [mv 35 7,mv 36 5,mv 37 8,rg 38 (.bin .add (.t 36) (.t 37)),rg 39 (.iad 1 (.t 35) (.t 38)),rg 40 (.load none (.t 39)),mv 41 10,rg 42 (.conv .u32 (.t 41)),rg 43 (.bin .or (.t 40) (.t 42)),rg 44 (.iad 1 (.t 35) (.t 38)),so (.store 1 (.t 44) (.t 43))])
 (.reg [mv 45 7,mv 46 5,mv 47 8,rg 48 (.bin .add (.t 46) (.t 47)),rg 49 (.bin .add (.t 48) (.c (.i .i64 1))),mv 50 10,rg 51 (.bin .shr (.t 50) (.c (u64 32))),rg 52 (.conv .u32 (.t 51)),rg 53 (.iad 1 (.t 45) (.t 49)),so (.store 1 (.t 53) (.t 52))])))))
 (.reg [rg 54 (.bin .add (.t 26) (.c (.i .i64 1))),mv 26 54]))))
 (.norm false [5,6,7,24,25,26]))
def b2092:AX:=
 (.seq
 (.reg [rg 4 (.mov (.c (.sl [] .nl)))])
 (.seq
 (.reg [mv 11 1,rg 12 (.mm true [(.t 11),(.c (.i .i64 0))]),rg 13 (.mm false [(.t 12),(.c (.i .i64 4096))]),mv 1 13])
 (.seq
 (.reg [mv 14 1,rg 15 (.bin .quo (.t 14) (.c (.i .i64 32))),mv 16 1,rg 17 (.bin .rem (.t 16) (.c (.i .i64 32))),mv 5 15,mv 6 17])
 (.seq
 (.reg [mv 18 5,mv 19 0,rg 20 (.len (.t 19)),rg 21 (.bin .add (.t 18) (.t 20)),rg 22 (.bin .add (.t 21) (.c (.i .i64 1))),rg 23 (.mks 1 [(u32 0)] (.t 22) (.t 22)),mv 7 23])
 (.seq
 (.seq
 (.reg [mv 24 0,rg 25 (.len (.t 24)),rg 26 (.mov (.c (.i .i64 0)))])
 (.lp 0 (.norm false [5,6,7,24,25,26]) l2092_0 (.norm false [7])))
 (.seq
 (.reg [mv 55 7,rg 56 (.call 2071 [(.t 55)]),mv 4 56])
 (.pre (.norm false [4]) .ret)))))))
def b62:AX:=
 (.seq
 (.reg [rg 4 (.mov (.c (.sl [] .nl))),rg 5 (.mov (.c (.sl [] .nl))),rg 6 (.mov (.c (.b false)))])
 (.seq
 (.reg [mv 12 1,rg 13 (.call 71 [(.t 12)]),mv 1 13])
 (.seq
 (.block 0
 (.seq
 (.reg [mv 15 1,rg 16 (.len (.t 15)),rg 17 (.bin .eql (.t 16) (.c (.i .i64 0))),mv 14 17])
 (.cond (.t 14)
 (.seq
 (.reg [rg 4 (.mov (.c (.sl [] .nl))),rg 5 (.mov (.c (.sl [] .nl))),rg 6 (.mov (.c (.b false)))])
 (.pre (.norm false [4,5,6]) .ret))
 (.seq
 (.reg [mv 19 0,mv 20 1,rg 21 (.call 87 [(.t 19),(.t 20)]),rg 22 (.bin .lss (.t 21) (.c (.i .i64 0))),mv 18 22])
 (.cond (.t 18)
 (.seq
 (.reg [mv 23 0,rg 24 (.call 71 [(.t 23)]),rg 4 (.mov (.c (.sl [] .nl))),mv 5 24,rg 6 (.mov (.c (.b true)))])
 (.pre (.norm false [4,5,6]) .ret))
 (.seq
 (.reg [mv 26 1,rg 27 (.len (.t 26)),rg 28 (.bin .eql (.t 27) (.c (.i .i64 1))),mv 25 28])
 (.cond (.t 25)
 (.seq
 (.reg [mv 30 0,mv 31 1,rg 32 (.iad 1 (.t 31) (.c (.i .i64 0))),rg 33 (.load none (.t 32)),rg 34 (.call 90 [(.t 30),(.t 33)]),mv 29 34,rg 35 (.ext (.t 29) 0),rg 36 (.ext (.t 29) 1),rg 37 (.ext (.t 29) 2),mv 7 35,mv 8 36,mv 9 37])
 (.seq
 (.reg [mv 38 7,mv 39 8,rg 40 (.conv .u64 (.t 39)),rg 41 (.call 72 [(.t 40)]),mv 4 38,mv 5 41,rg 6 (.mov (.c (.b true)))])
 (.pre (.norm false [4,5,6]) .ret)))
 .skip)))))))
 (.seq
 (.reg [mv 42 1,mv 43 1,rg 44 (.len (.t 43)),rg 45 (.bin .sub (.t 44) (.c (.i .i64 1))),rg 46 (.iad 1 (.t 42) (.t 45)),rg 47 (.load none (.t 46)),rg 48 (.call 91 [(.t 47)]),rg 49 (.bin .sub (.c (.i .i64 32)) (.t 48)),mv 10 49])
 (.seq
 (.reg [mv 50 0,mv 51 10,rg 52 (.call 2092 [(.t 50),(.t 51)]),rg 53 (.bsl 1 [(u32 0)] 1 [(0,(.c (u32 0)))]),rg 54 (.app 1 (.t 52) (.t 53)),mv 11 54])
 (.seq
 (.reg [mv 55 11,mv 56 1,mv 57 10,rg 58 (.call 2092 [(.t 56),(.t 57)]),rg 59 (.call 93 [(.t 55),(.t 58)]),mv 4 59])
 (.seq
 (.reg [mv 60 4,rg 61 (.call 71 [(.t 60)]),mv 62 11,mv 63 10,rg 64 (.call 94 [(.t 62),(.t 63)]),mv 4 61,mv 5 64,rg 6 (.mov (.c (.b true)))])
 (.pre (.norm false [4,5,6]) .ret))))))))
def row2071:AFx:=⟨1,6,[.t 2],b2071,(some [false]),false⟩
def row2092:AFx:=⟨2,57,[.t 4],b2092,(some [false,false]),false⟩
def row62:AFx:=⟨2,65,[.t 4,.t 5,.t 6],b62,none,false⟩
class Zn (T:Tbl):Prop where
 h2071:T 2071=some row2071
 h2092:T 2092=some row2092
 h62:T 62=some row62
section
variable{T:Tbl}[Zn T]{d:Option Nat}{st:St}
@[simp] theorem x2071(xs:List AV):Zc (orc T) T 2071 xs d st=bL (Zek st.heap [false] xs) fun ys=>Zd1 ys (Zh (Zay [false] xs) st.heap) (Zcv (Zh (Zay [false] xs) st.heap) 40 (Zck [false] xs) []) T 2071 false d st:=zaw Zn.h2071
@[simp] theorem x2092(xs:List AV):Zc (orc T) T 2092 xs d st=bL (Zek st.heap [false,false] xs) fun ys=>Zd1 ys (Zh (Zay [false,false] xs) st.heap) (Zcv (Zh (Zay [false,false] xs) st.heap) 40 (Zck [false,false] xs) []) T 2092 false d st:=zaw Zn.h2092
@[simp] theorem x62(xs:List AV):Zc (orc T) T 62 xs d st=cP T 62 false xs d st:=zaa Zn.h62
end
theorem z30(x:Nat):x<2^Z7 x:=by
 unfold Z7;split
 ·subst x;decide
 ·exact Yc6
theorem zv5{x:Nat}(h:x<4294967296):Z7 x≤32:=by
 unfold Z7;split
 ·omega
 ·rename_i h0;have:=(Ydp h0 (k:=32)).2 (by simpa using h);omega
theorem z1e{n k:Nat}(h:(ofN n).length=k+1):4294967296^k≤n:=by
 rcases Yt n (4294967296^k) with h1 | h1
 ·have:=zag h1;omega
 ·exact h1
theorem z9r{b:List UInt32}{nb:Nat}(h:b.length=nb+2)(hb:b=ofN (val b)) :
  (ofN (val b*2^(32-Z7 (b[nb+1]'(by omega)).toNat))).length=nb+2:=by
 have hl:=zv5 (zak (b[nb+1]'(by omega)));have hs:=z30 (b[nb+1]'(by omega)).toNat;have h1:val b=val (b.take (nb+1))+4294967296^(nb+1)*(b[nb+1]'(by omega)).toNat:=by
  have:=zaf (Ya (show nb+1<b.length by omega))
  rwa [zbf (by omega)]at this
 have h2:=za0 (b.take (nb+1));rw[show (b.take (nb+1)).length=nb+1 by simp;omega]at h2;generalize (b[nb+1]'(by omega)).toNat=t at *
 refine Nat.le_antisymm (zag ?_) ?_
 ·have h3:val b<4294967296^(nb+1)*2^Z7 t:=by
   have:4294967296^(nb+1)*(t+1)≤4294967296^(nb+1)*2^Z7 t:=Yx _ hs;rw[Yag,Ydm]at this;omega
  have h4:2^Z7 t*2^(32-Z7 t)=4294967296:=by
   rw[←Ybb,show Z7 t+(32-Z7 t)=32 by omega]
  have h5:=Ydt h3 (Ya0 (n:=32-Z7 t) (show 0<2 by decide));rw[Y3,h4,←Y4]at h5;exact h5
 ·have h3:val b≤val b*2^(32-Z7 t):=Yci _ (Ya0 (by decide));have:=zat h3;rw[←hb]at this;omega
theorem z32{b:List UInt32}{nb:Nat}(h:b.length=nb+2)(hb:b=ofN (val b)):0<(b[nb+1]'(by omega)).toNat:=by
 have h1:val b=val (b.take (nb+1))+4294967296^(nb+1)*(b[nb+1]'(by omega)).toNat:=by
  have:=zaf (Ya (show nb+1<b.length by omega))
  rwa [zbf (by omega)]at this
 have h2:=za0 (b.take (nb+1));rw[show (b.take (nb+1)).length=nb+1 by simp;omega]at h2;have h3:4294967296^(nb+1)≤val b:=z1e (by rw[←hb];omega);rcases Yaw (b[nb+1]'(by omega)).toNat with h0 | h0
 ·rw[h0,Yac]at h1;omega
 ·exact h0
theorem zh9(l:List UInt32):val (l++[0])=val l:=by rw[zai];simp
theorem z9s{A b:List UInt32}{nb L:Nat}(hA:(A++[0]).length=L+b.length)(hb:b.length=nb+2)(hbo:b=ofN (val b)):val ((A++[0]).drop L)<val b:=by
 have hl:L≤A.length:=by simp at hA;omega
 rw[Yby hl,zh9];have h1:=za0 (A.drop L);have h2:(A.drop L).length=nb+1:=by simp at hA ⊢;omega
 rw[h2]at h1;exact Yp h1 (z1e (by rw[←hbo];omega))
section
variable{T:Tbl}[Zq T][Zn T]
theorem zm9(a:List UInt32)(hl:a.length≤1000000):Zbz T 2071 [.sl (Zb a) .an] [] =
  some (.bs (.fld (.loc 5) 10) 1 1 0 (ofN (val a)).length,[(.fld (.loc 5) 10,⟨1,.own,1,Zb (ofN (val a))⟩)]):=by
 have h1:=zad a;have h2:=zci (T:=T) (ofN (val a)) 0 (by omega);simp only[Yw,Yq,List.replicate_zero,Ybf]at h2;rw[za9 Zn.h2071 rfl,b2071];simp -implicitDefEqProofs[zbt a (by omega),h2]
end
section
variable{T:Tbl}[Zq T][Zn T]
theorem zia(a:List UInt32)(n:Nat)(hn:n≤4096)(hl:a.length≤100000):Zbz T 2092 [.sl (Zb a) .an,.i .i64 n] [] =
  some (.bs (.fld (.fld (.loc 56) 0) 6010) 1 1 0 (ofN (val a*2^n)).length,[(.fld (.fld (.loc 56) 0) 6010,⟨1,.own,1,Zb (ofN (val a*2^n))⟩)]):=by
 obtain⟨_,⟨c,m,rfl,hm,hc,hv⟩,hr⟩:=zxh (T:=T) (List.replicate (n/32) 0) a (n%32) (Yaz _ (by decide)) (by simp;omega) (0,0,[]) ⟨Yo _,Ya0 (by decide),rfl,by simp⟩;have hc32:c<4294967296:=Yp hc (by
  have:2^(n%32)≤2^32:=Yk (by decide) (by omega);simpa using this)
 have hval:val (List.replicate (n/32) 0++(m++[w32 c]))=val a*2^n:=by
  rw[zai,zax,Yb8,zai,hm];simp only[zal,za5,Yac,Yq,zah hc32,Y8];rw[hv,zld,←Y3,←Ybb,show 32*(n/32)+n%32=n by omega,Yaf]
 have hlen:(List.replicate (n/32) 0++(m++[w32 c])).length=n/32+a.length+1:=by simp[hm];omega
 have hnm:=zm9 (T:=T) (List.replicate (n/32) 0++(m++[w32 c])) (by omega);rw[hval]at hnm;rw[show l92_0=l2092_0 from rfl]at hr;unfold Zlu at hr;generalize List.replicate (n/32) 0++(m++[w32 c])=Q at *
 simp at hr;have hz:List.replicate (n/32) (0:UInt32)++w32 0::List.replicate a.length 0=List.replicate (n/32+a.length+1) 0:=by
  have:w32 0=0:=rfl;rw[this,←Ybg,Ycg,Ya6]
 rw[hz]at hr;have hn2:¬ (4096:Int)<(n:Int):=by omega
 have hq:(n:Int).tdiv 32=(n:Int)/32:=Yb6 (by omega);have hm2:(n:Int).tmod 32=(n:Int)%32:=Yb7 (by omega);have w1:IntKind.wrap .i64 ((n:Int)/32)=(n:Int)/32:=zac (n/32) (by omega);have w2:IntKind.wrap .i64 ((n:Int)/32+a.length)=(n:Int)/32+a.length:=zac _ (by omega);have w3:IntKind.wrap .i64 ((n:Int)/32+a.length+1)=(n:Int)/32+a.length+1:=zac _ (by omega);have p1:(0:Int)≤(n:Int)/32+a.length+1:=by omega
 have p2:(n:Int)/32+a.length+1≤4294967296:=by omega
 have p3:((n:Int)/32+a.length+1).toNat=n/32+a.length+1:=by omega
 have htk:List.take (n/32+a.length+1) Q=Q:=Yb (by omega);rw[za9 Zn.h2092 rfl,b2092];simp -implicitDefEqProofs[hn2,hq,hm2,w1,w2,w3,p1,p2,p3,hr,hnm,htk,hlen]
end
section
variable{T:Tbl}[Zq T][Zy T][Zv T][Zr T][Zn T]
theorem zfr(a b:List UInt32)(ha:a.length≤90000)(hb:b.length≤90000):Za T 62 [.sl (Zb a) .an,.sl (Zb b) .an] =
  some (if val b=0 then .tup [.sl [] .an,.sl [] .an,.b false] else .tup [.sl (Zb (ofN (val a/val b))) .an,.sl (Zb (ofN (val a%val b))) .an,.b true]):=by
 have hnb:=zbh (T:=T) b (by omega);have hna:=zbh (T:=T) a (by omega);have hlb:=zad b;have hla:=zad a;have hcmp:=zh6 (T:=T) a (ofN (val b)) (by omega) (by omega);rw[zae]at hcmp;rw[zab Zn.h62 rfl,b62];by_cases h0:val b=0
 ·rw[h0]at hnb;simp -implicitDefEqProofs[hnb,h0]
 ·have h0':ofN (val b)≠[]:=fun h=>h0 (zas.1 h);have hl0:(ofN (val b)).length≠0:=fun h=>h0' (Yab h);by_cases hlt:val a<val b
  ·have hd:=Ya2 hlt;have hm:=Yh hlt;simp -implicitDefEqProofs[hnb,h0,hl0,hcmp,zcp,hlt,hna,hd,hm]
  ·rcases Yt 1 (ofN (val b)).length with h1 | h1
   ·obtain⟨b',hb'⟩:∃b',b'=ofN (val b):=⟨_,rfl⟩;have hvb:val b'=val b:=by rw[hb',zae]
    have hbo:b'=ofN (val b'):=by rw[hvb,hb']
    rw[←hb']at hnb hcmp hl0 h1 hlb;obtain⟨nb,hnbl⟩:∃nb,b'.length=nb+2:=⟨b'.length-2,by omega⟩;have hll:=zqq (T:=T) (b'[nb+1]'(by omega));have hbl:=zv5 (zak (b'[nb+1]'(by omega)));have hup:=z9r hnbl hbo;obtain⟨s,hs⟩:∃s,s=32-Z7 (b'[nb+1]'(by omega)).toNat:=⟨_,rfl⟩;obtain⟨l,hll2⟩:∃l,l=Z7 (b'[nb+1]'(by omega)).toNat:=⟨_,rfl⟩;rw[←hs]at hup;rw[←hll2]at hll hs hbl;obtain⟨B,hB⟩:∃B,B=ofN (val b'*2^s):=⟨_,rfl⟩;obtain⟨A,hA⟩:∃A,A=ofN (val a*2^s):=⟨_,rfl⟩;have hua:=zia (T:=T) a s (by omega) (by omega);have hub:=zia (T:=T) b' s (by omega) (by omega);rw[←hA]at hua;rw[←hB]at hub hup;have hBo:B=ofN (val B):=by rw[hB,zae]
    have hvA:val A=val a*2^s:=by rw[hA,zae]
    have hvB:val B=val b'*2^s:=by rw[hB,zae]
    have hAB:B.length≤A.length:=by
     rw[hA,hB];exact zat (Yu _ (by omega))
    have hAl:A.length≤a.length+1:=by
     rw[hA];refine zag ?_;have h2:2^s≤2^32:=Yk (by decide) (by omega);rw[Y4];exact Ycl (Yx _ h2) (Ydt (za0 a) (by decide))
    have hpos:=z32 (hup) hBo;obtain⟨Q,R,hQ,hR,hvQ,hvR,hlong⟩:=zvp (T:=T) (A++[0]) B (A.length+1-B.length) nb hup hpos (by simp;omega) (by simp;omega) (z9s (by simp;omega) hup hBo);rw[zh9,hvA,hvB,hvb,Nat.mul_div_mul_right _ _ (Ya0 (by decide))]at hvQ;rw[zh9,hvA,hvB,hvb,Nat.mul_mod_mul_right]at hvR;have hnq:=zbh (T:=T) Q (by omega);have hAl1:(A++[(0:UInt32)]).length=A.length+1:=by simp
    rw[hAl1]at hlong hR;have hdn:=zxk (T:=T) R s (by omega) (by omega);rw[hvR,Nat.mul_div_cancel _ (Ya0 (by decide))]at hdn;rw[hvQ]at hnq;obtain⟨q1,hq1⟩:∃p,p=nb+1:=⟨_,rfl⟩;have c1:q1<b'.length:=by omega
    have hwt:b'[nb+1]'(by omega)=b'[q1]'c1:=zmx (by omega) _ _;rw[hwt]at hll;have w1:IntKind.wrap .i64 ((b'.length:Int)-1)=(q1:Int):=by rw[zac _ (by omega)];omega
    have w2:IntKind.wrap .i64 (32-(l:Int))=(s:Int):=by rw[zac _ (by omega)];omega
    have c3:A.length≤4294967295:=by omega
    have c4:w32 0=0:=rfl;have c5:A.length+1≤A.length+1-B.length+B.length:=by omega
    have c2:¬ ((b'.length:Int)=1):=by omega
    have t1:List.take (A.length+1) R=R:=Yb (by omega);have t2:List.take (A.length+1-B.length) Q=Q:=Yb (by omega);simp -implicitDefEqProofs[hnb,h0,hl0,hcmp,zcp,hlt,w1,w2,c1,c2,c3,c4,c5,hll,hua,hub,hlong,hnq,hdn,t1,t2,hQ,hR]
   ·have hl1:(ofN (val b)).length=1:=by omega
    obtain⟨w,hw⟩:=List.length_eq_one_iff.1 hl1;have hvb:val b=w.toNat:=by
     have:=zae (val b);rw[hw]at this;simp at this;omega
    have hwl:=zak w;have hwd:=zv2 (T:=T) a (val b) (by omega) (by omega) (by omega);have hof:=zeq (T:=T) (val a%val b) (by have:=Yaz (val a) (show 0<val b by omega);omega);have m1:val a%val b%18446744073709551616=val a%val b:=Yh (by have:=Yaz (val a) (show 0<val b by omega);omega);rw[hw]at hnb hcmp;rw[←hvb]at hwl;simp -implicitDefEqProofs[hnb,h0,hcmp,zcp,hlt,hwd,←hvb,hof,m1]
end
def Zob(n:Nat):List UInt8:=if h:n<10 then [UInt8.ofNat (48+n)] else UInt8.ofNat (48+n%10)::Zob (n/10)
termination_by n
decreasing_by omega
def Zhr(n:Nat):List UInt8:=(Zob n).reverse
def Zna:List AV→Option UInt32
 | [.i .u32 n]=>if 0≤n∧n<4294967296 then some (w32 n.toNat) else none
 | _=>none
def prim68:List AV→Option AV
 | [.sl els .an]=>if els.length≤1000 then (els.mapM Zna).map fun l=>.s (Zhr (val l)) else none
 | _=>none
def Zdo:Nat→List UInt8→Int
 | _,[]=>-1
 | k,c::r=>if c.toNat<48∨57<c.toNat∨k=60 then k else Zdo (k+1) r
def Z8(l:List UInt8):Int:=if l=[] then 0 else Zdo 0 l
theorem zpj:∀(k:Nat) (l:List UInt8),-1≤Zdo k l
 | _,[]=>by simp[Zdo]
 | k,c::r=>by
  simp only[Zdo];split
  ·omega
  ·exact zpj (k+1) r
theorem zio:∀(k:Nat) (l:List UInt8),k≤60→Zdo k l≤60
 | _,[],_=>by simp[Zdo]
 | k,c::r,h=>by
  simp only[Zdo];split
  ·omega
  ·exact zio (k+1) r (by omega)
theorem zg4:∀(k:Nat) (l:List UInt8),k≤60→Zdo k l<0→k+l.length≤60∧∀c∈l,48≤c.toNat∧c.toNat≤57
 | k,[],h,_=>⟨by simpa using h,by simp⟩
 | k,c::r,h,hw=>by
  simp only[Zdo]at hw;split at hw
  ·omega
  ·rename_i hc;obtain⟨h1,h2⟩:=zg4 (k+1) r (by omega) hw;refine⟨by simp;omega,fun d hd=>?_⟩;rcases Y2.1 hd with rfl | hd
   ·omega
   ·exact h2 d hd
def rd(l:List UInt8):Nat:=l.foldl (fun n c=>n*10+(c.toNat-48)) 0
theorem z4z(l:List UInt8):∀n,l.foldl (fun n c=>n*10+(c.toNat-48)) n=n*10^l.length+rd l:=by
 induction l with
 | nil=>intro n;simp[rd]
 | cons c l ih=>
  intro n;simp only[List.foldl_cons,Ym,rd];rw[ih,ih (0*10+(c.toNat-48)),Y4]
  grind
theorem ziq(a b:List UInt8):rd (a++b)=rd a*10^b.length+rd b:=by
 unfold rd;rw[List.foldl_append,z4z]
 rfl
theorem z40(a:List UInt8)(c:UInt8):rd (a++[c])=rd a*10+(c.toNat-48):=by
 rw[ziq];simp[rd]
theorem znp{l:List UInt8}{i:Nat}{c:UInt8}(h:l[i]? = some c):rd (l.take (i+1))=rd (l.take i)*10+(c.toNat-48):=by
 rw[Ydf,h];exact z40 _ _
theorem zxq{l:List UInt8}(h:∀c∈l,48≤c.toNat∧c.toNat≤57):rd l<10^l.length:=by
 induction l with
 | nil=>simp[rd]
 | cons c l ih=>
  have h1:=ih fun d hd=>h d (Ys _ hd);have h2:=h c Y9;have:rd (c::l)=(c.toNat-48)*10^l.length+rd l:=by
   have:=ziq [c] l;simpa[rd]using this
  rw[this,Ym,Y4];have h3:(c.toNat-48)*10^l.length≤9*10^l.length:=Yu _ (by omega);omega
def txN(n:Nat)(s:List UInt8):List UInt8:=if n=0∧s≠[] then s else Zhr n++s
def Zpm:Nat→Nat→List UInt8
 | 0,_=>[]
 | k+1,x=>Zpm k (x/10)++[UInt8.ofNat (48+x%10)]
def u8c(l:List UInt8):List AV:=l.map fun b=>u8 b.toNat
def b98:AX:=
 (.seq
 (.reg [rg 4 (.mov (.c (.s []))),rg 5 (.mov (.c (.b false)))])
 (.seq
 (.seq
 (.reg [mv 6 0,mv 7 1,rg 8 (.call 123 [(.t 6),(.t 7)]),rg 9 (.un .not (.t 8))])
 (.cond (.t 9)
 (.seq
 (.reg [mv 10 0,mv 4 10,rg 5 (.mov (.c (.b false)))])
 (.pre (.norm false [4,5]) .ret))
 .skip))
 (.seq
 (.reg [mv 11 0,mv 12 1,rg 13 (.lens (.t 12)),rg 14 (.slstr (.t 11) (some (.t 13)) none),mv 4 14,rg 5 (.mov (.c (.b true)))])
 (.pre (.norm false [4,5]) .ret))))
def b123:AX:=
 (.seq
 (.reg [rg 4 (.mov (.c (.b false)))])
 (.seq
 (.reg [mv 5 0,rg 6 (.lens (.t 5)),mv 7 1,rg 8 (.lens (.t 7)),rg 9 (.bin .geq (.t 6) (.t 8)),mv 10 9,gd 11 10 true (.mov (.t 0)),gd 12 10 true (.mov (.t 1)),gd 13 10 true (.lens (.t 12)),gd 14 10 true (.slstr (.t 11) none (some (.t 13))),gd 15 10 true (.mov (.t 1)),gd 16 10 true (.bin .eql (.t 14) (.t 15)),rg 17 (.pick (.t 10) (.t 16) (.c (.b false))),mv 4 17])
 (.pre (.norm false [4]) .ret)))
def b64:AX:=
 (.seq
 (.reg [rg 4 (.mov (.c (.s []))),rg 5 (.mov (.c (.b false)))])
 (.seq
 (.reg [mv 6 0,mv 7 1,rg 8 (.call 98 [(.t 6),(.t 7)]),rg 9 (.ext (.t 8) 0),rg 10 (.ext (.t 8) 1),mv 4 9,mv 5 10])
 (.pre (.norm false [4,5]) .ret)))
def l99_0:AX:=
 (.note
 (.seq
 (.reg [rg 7 (.bin .lss (.t 6) (.t 5))])
 (.seq
 (.cond (.t 7)
 .skip
 (.exit 0))
 (.seq
 (.block 1
 (.seq
 (.reg [mv 8 6,mv 3 8])
 (.seq
 (.reg [mv 9 0,mv 10 3,rg 11 (.ixs (.t 9) (.t 10)),rg 12 (.bin .lss (.t 11) (.c (u8 48))),mv 13 12,gd 14 13 false (.mov (.t 0)),gd 15 13 false (.mov (.t 3)),gd 16 13 false (.ixs (.t 14) (.t 15)),gd 17 13 false (.bin .gtr (.t 16) (.c (u8 57))),rg 18 (.pick (.t 13) (.c (.b true)) (.t 17)),mv 19 18,gd 20 19 false (.mov (.t 3)),gd 21 19 false (.bin .eql (.t 20) (.c (.i .i64 60))),rg 22 (.pick (.t 19) (.c (.b true)) (.t 21))])
 (.cond (.t 22)
 (.seq
 (.reg [mv 23 3,mv 2 23])
 (.pre (.norm false [2]) .ret))
 .skip))))
 (.reg [rg 24 (.bin .add (.t 6) (.c (.i .i64 1))),mv 6 24]))))
 (.norm false [0,5,6]))
def b99:AX:=
 (.seq
 (.reg [rg 2 (.mov (.c (.i .i64 0)))])
 (.seq
 (.seq
 (.reg [mv 4 0,rg 5 (.lens (.t 4)),rg 6 (.mov (.c (.i .i64 0)))])
 (.lp 0 (.norm false [0,5,6]) l99_0 (.norm false [0])))
 (.seq
 (.seq
 (.reg [mv 25 0,rg 26 (.bin .eql (.t 25) (.c (.s [])))])
 (.cond (.t 26)
 (.seq
 (.reg [rg 2 (.mov (.c (.i .i64 0)))])
 (.pre (.norm false [2]) .ret))
 .skip))
 (.seq
 (.reg [rg 2 (.mov (.c (.i .i64 (-1))))])
 (.pre (.norm false [2]) .ret)))))
def l65_0:AX:=
 (.note
 (.seq
 (.seq
 (.reg [mv 20 9,rg 21 (.bin .lss (.t 20) (.c (.i .i64 9))),mv 22 21,gd 23 22 true (.mov (.t 6)),gd 24 22 true (.mov (.t 0)),gd 25 22 true (.lens (.t 24)),gd 26 22 true (.bin .lss (.t 23) (.t 25)),rg 27 (.pick (.t 22) (.t 26) (.c (.b false)))])
 (.cond (.t 27)
 .skip
 (.exit 2)))
 (.seq
 (.block 3
 (.seq
 (.reg [mv 30 7,rg 31 (.bin .mul (.t 30) (.c (u32 10))),mv 32 0,mv 33 6,rg 34 (.ixs (.t 32) (.t 33)),rg 35 (.bin .sub (.t 34) (.c (u8 48))),rg 36 (.conv .u32 (.t 35)),rg 37 (.bin .add (.t 31) (.t 36)),mv 7 37])
 (.seq
 (.reg [mv 38 8,rg 39 (.bin .mul (.t 38) (.c (u32 10))),mv 8 39])
 (.reg [mv 40 6,rg 41 (.bin .add (.t 40) (.c (.i .i64 1))),mv 6 41]))))
 (.reg [mv 28 9,rg 29 (.bin .add (.t 28) (.c (.i .i64 1))),mv 9 29])))
 (.norm false [0,3,5,6,7,8,9]))
def l65_1:AX:=
 (.note
 (.seq
 (.seq
 (.reg [mv 16 6,mv 17 0,rg 18 (.lens (.t 17)),rg 19 (.bin .lss (.t 16) (.t 18))])
 (.cond (.t 19)
 .skip
 (.exit 0)))
 (.block 1
 (.seq
 (.reg [rg 7 (.mov (.c (u32 0))),rg 8 (.mov (.c (u32 1)))])
 (.seq
 (.seq
 (.reg [rg 9 (.mov (.c (.i .i64 0)))])
 (.lp 2 (.norm false [0,3,5,6,7,8,9]) l65_0 (.norm false [0,3,5,6,7,8])))
 (.reg [mv 42 5,mv 43 8,mv 44 7,rg 45 (.call 100 [(.t 42),(.t 43),(.t 44)]),mv 5 45])))))
 (.norm false [0,3,5,6]))
def b65:AX:=
 (.seq
 (.reg [rg 2 (.mov (.c (.sl [] .nl))),rg 3 (.alloc [(.i .i64 0),(.i .i64 0),(.i .i64 0),(.i .i64 0)])])
 (.seq
 (.seq
 (.reg [mv 10 0,rg 11 (.call 99 [(.t 10)]),mv 4 11])
 (.seq
 (.reg [mv 12 4,rg 13 (.bin .geq (.t 12) (.c (.i .i64 0)))])
 (.cond (.t 13)
 (.seq
 (.reg [mv 14 4,rg 15 (.build [(.i .i64 0),(.i .i64 0),(.i .i64 0),(.i .i64 0)] [(0,1,(.c (.i .i64 1))),(3,1,(.t 14))]),rg 2 (.mov (.c (.sl [] .nl))),so (.store 4 (.t 3) (.t 15))])
 (.pre (.norm false [2,3]) .ret))
 .skip)))
 (.seq
 (.reg [rg 5 (.mov (.c (.sl [] .nl)))])
 (.seq
 (.seq
 (.reg [rg 6 (.mov (.c (.i .i64 0)))])
 (.lp 0 (.norm false [0,3,5,6]) l65_1 (.norm false [3,5])))
 (.seq
 (.reg [mv 46 5,rg 47 (.build [(.i .i64 0),(.i .i64 0),(.i .i64 0),(.i .i64 0)] []),mv 2 46,so (.store 4 (.t 3) (.t 47))])
 (.pre (.norm false [2,3]) .ret))))))
def row98:AFx:=⟨2,15,[.t 4,.t 5],b98,none,false⟩
def row123:AFx:=⟨2,18,[.t 4],b123,none,false⟩
def row64:AFx:=⟨2,11,[.t 4,.t 5],b64,none,false⟩
def row99:AFx:=⟨1,27,[.t 2],b99,none,false⟩
def row65:AFx:=⟨1,48,[.t 2,.cell 3 (some 4)],b65,none,false⟩
class Zx (T:Tbl):Prop where
 h98:T 98=some row98
 h123:T 123=some row123
 h64:T 64=some row64
 h99:T 99=some row99
 h65:T 65=some row65
section
variable{T:Tbl}[Zx T]{d:Option Nat}{st:St}
@[simp] theorem x98(xs:List AV):Zc (orc T) T 98 xs d st=cP T 98 false xs d st:=zaa Zx.h98
@[simp] theorem x123(xs:List AV):Zc (orc T) T 123 xs d st=cP T 123 false xs d st:=zaa Zx.h123
@[simp] theorem x64(xs:List AV):Zc (orc T) T 64 xs d st=cP T 64 false xs d st:=zaa Zx.h64
@[simp] theorem x99(xs:List AV):Zc (orc T) T 99 xs d st=cP T 99 false xs d st:=zaa Zx.h99
@[simp] theorem x65(xs:List AV):Zc (orc T) T 65 xs d st=cP T 65 false xs d st:=zaa Zx.h65
end
class Zbc (T:Tbl):Prop where
class Zno (T:Tbl):Prop where
end Go.Ab