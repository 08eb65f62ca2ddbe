/-
  A calculus of values, boxes and code, and what functions of the program compute, proved in it.
  Conditions: none beyond those that the theorems state. (Part 13.)
-/
import Derived.Test.YtmojeopgpabkhaaGreatDoorPart12

set_option linter.unusedSectionVars false
set_option linter.unusedVariables false
set_option linter.unusedSimpArgs false
set_option linter.unnecessarySimpa false
set_option linter.defProp false

namespace Go.Ab
abbrev hpA(gk:Nat)(Q:PoF)(LS:List Fz)(s p L seen:Int)(F:List Fz)(m:Nat):Heap:=
 [(.bor 0,⟨0,.str,9,[[.b Q.t.1,.sl (Zb Q.t.2.1) .an,.sl (Zb Q.t.2.2) .an,.sl (Zc Q.y) .an,.sl (Zc Q.p) .an,.sl (Zc LS) .an,.ptr (.bor 1) 1 3 0 0,.i .i64 seen,.bs (.bor 2) gk 3 0 m]]⟩),(.bor 1,bxG 1 s p L),(.bor 2,⟨gk,.own,3,Zc F⟩)]
abbrev wP:AV:=.ptr (.bor 0) 0 9 0 0
section
variable{T:Tbl}[Z2 T][Zr T][Zv T][Zw T][Zq T][Zo T][Ze T][Zh T][Zs T][Zbv T][Z0 T][Z5 T][Zbk T][Z7 T][Z3 T][Zak T][Zao T][Zax T][Z9 T][Zcs T]
def zmd(a:List UInt32)(ha:a.length<=10000):Za T 204 [.agg [.b false,.sl (Zb a) .an],.sl [[u32 1]] .an]=some (.tup [efz (fz ((val a:Nat):Rat)),.b true]):=by
 have c1:Za T 70 [.sl [[u32 1]] .an]=some (.b false):=zfr (T:=T) [1] (by decide);have c2:Za T 202 [.agg [.b false,.sl (Zb a) .an],.sl [[u32 1]] .an]=some (efz (fz (mkRat (wv false a) 1))):=zr0 (T:=T) false a [1] ha (by decide) (by decide);have e:mkRat (wv false a) 1=((val a:Nat):Rat):=by
  rw[Rat.mkRat_one]
  rfl
 rw[e]at c2;rw[zaa Zbv.h204 rfl,b204];generalize fz ((val a:Nat):Rat)=R at *
 simp -implicitDefEqProofs[c1,c2]
def z9d(Q:PoF)(LS:List Fz)(s p L seen:Int)(F:List Fz)(m:Nat)(x:Fz)(hx:F[m]? = some x)(hm:m<=100000):Z1 T 490 [wP] (hpA 2 Q LS s p L seen F (m+1))=some (efz x,hpA 2 Q LS s p L seen F m):=by
 obtain⟨hlt,hge⟩:=Yb.1 hx;have hw:IntKind.wrap .i64 (m:Int)=m:=zab _ (by omega);have h1:(m:Int)<(m:Int)+1:=by omega
 have h2:(m:Int)<=(m:Int)+1:=by omega
 obtain⟨⟨q0,q1,q2⟩,qy,qp⟩:=Q;obtain⟨x0,x1,x2⟩:=x;rw[zad Zao.h490 rfl,b490];simp -implicitDefEqProofs[hx,hge,hlt,hw,h1,h2]
def zafw(P:Po)(ls:List Rat)(s p L seen:Int)(F:List Fz)(m:Nat)(x:Nd)(ha:arN x.op=0)(hn:x.n.length<=1000)(hy:x.op=3->0<=x.i/\x.i<P.y.length)(hp:x.op=4->0<=x.i/\x.i<P.p.length)(hl:x.op=5->0<=x.i/\x.i<ls.length) :
  Z1 T 489 [wP,.agg (Zdb x)] (hpA 2 P.f (fzs ls) s p L seen F m)=some (efz (fz (Zca P ls x)),hpA 2 P.f (fzs ls) s p L seen F m):=by
 have hop:x.op=1\/x.op=2\/x.op=3\/x.op=4\/x.op=5:=by rcases zax x.op with ⟨e,h⟩ | ⟨e,h⟩ | ⟨e,h⟩ | ⟨e,h⟩<;>omega
 have c1:=zmd (T:=T) x.n (by omega);obtain⟨op,i,n⟩:=x;obtain⟨t,y,pp⟩:=P;dsimp only at *
 unfold Zca Po.f;dsimp only;rw[zad Zao.h489 rfl,b489];rcases hop with rfl | rfl | rfl | rfl | rfl
 ·show _=some (efz (fz ((val n:Nat):Rat)),_);generalize fz ((val n:Nat):Rat)=z at *
  generalize fzs y=Y at *
  generalize fzs pp=PP at *
  generalize fzs ls=LL at *
  generalize fz t=tt at *
  obtain⟨t0,t1,t2⟩:=tt;simp -implicitDefEqProofs[c1]
 ·show _=some (efz (fz t),_);generalize fzs y=Y at *
  generalize fzs pp=PP at *
  generalize fzs ls=LL at *
  generalize fz t=tt at *
  obtain⟨t0,t1,t2⟩:=tt;simp -implicitDefEqProofs
 ·obtain⟨k,rfl,g1,g2,g3⟩:=zp9 (hy rfl);have g4:=(Yb.1 g3).2;have hl2:(fzs y).length=y.length:=zaf y;show _=some (efz (fz (gI y (k:Int))),_);generalize fz (gI y (k:Int))=z at *
  generalize fzs y=Y at *
  generalize fzs pp=PP at *
  generalize fzs ls=LL at *
  generalize fz t=tt at *
  obtain⟨t0,t1,t2⟩:=tt;simp -implicitDefEqProofs[g1,g2,g3,g4,hl2]
 ·obtain⟨k,rfl,g1,g2,g3⟩:=zp9 (hp rfl);have g4:=(Yb.1 g3).2;have hl2:(fzs pp).length=pp.length:=zaf pp;show _=some (efz (fz (gI pp (k:Int))),_);generalize fz (gI pp (k:Int))=z at *
  generalize fzs y=Y at *
  generalize fzs pp=PP at *
  generalize fzs ls=LL at *
  generalize fz t=tt at *
  obtain⟨t0,t1,t2⟩:=tt;simp -implicitDefEqProofs[g1,g2,g3,g4,hl2]
 ·obtain⟨k,rfl,g1,g2,g3⟩:=zp9 (hl rfl);have g4:=(Yb.1 g3).2;have hl2:(fzs ls).length=ls.length:=zaf ls;show _=some (efz (fz (gI ls (k:Int))),_);generalize fz (gI ls (k:Int))=z at *
  generalize fzs y=Y at *
  generalize fzs pp=PP at *
  generalize fzs ls=LL at *
  generalize fz t=tt at *
  obtain⟨t0,t1,t2⟩:=tt;simp -implicitDefEqProofs[g1,g2,g3,g4,hl2]
def z4r(Q:PoF)(LS:List Fz)(s p L seen:Int)(F:List Fz)(m:Nat)(x:Nd)(ha:arN x.op=0)(v:Fz)
  (c:Z1 T 489 [wP,.agg (Zdb x)] (hpA 2 Q LS s p L seen F m)=some (efz v,hpA 2 Q LS s p L seen F m)) :
  Z1 T 484 [wP,.agg (Zdb x)] (hpA 2 Q LS s p L seen F m)=some (.tup [efz v,.b true],hpA 2 Q LS s p L seen F m):=by
 have ca:=za2 (T:=T) x.op;rw[ha]at ca;obtain⟨⟨q0,q1,q2⟩,qy,qp⟩:=Q;obtain⟨op,i,n⟩:=x;rw[zad Zao.h484 rfl,b484];simp -implicitDefEqProofs[ca,c]
def z4s(Q:PoF)(LS:List Fz)(s p L seen:Int)(F:List Fz)(m:Nat)(x:Nd)(ha:arN x.op=1)(a:Rat)(hz:sz a<=129)(hx:F[m]? = some (fz a))(hm:m<=100000) :
  Z1 T 484 [wP,.agg (Zdb x)] (hpA 2 Q LS s p L seen F (m+1))=some (.tup [efz (fz (unV x a).1),.b (unV x a).2],hpA 2 Q LS s p L seen F m):=by
 have ca:=za2 (T:=T) x.op;rw[ha]at ca;have hop:x.op=6\/x.op=11:=by rcases zax x.op with ⟨e,h⟩ | ⟨e,h⟩ | ⟨e,h⟩ | ⟨e,h⟩<;>omega
 have cp:=z9d (T:=T) Q LS s p L seen F m (fz a) hx hm;have c6:=zfp (T:=T) (fz a) (by rw[zar];omega);have c11:=zg1 (T:=T) (fz a) x.i (by rw[zar];omega);rw[zbi]at c6 c11;obtain⟨⟨q0,q1,q2⟩,qy,qp⟩:=Q;obtain⟨op,i,n⟩:=x;dsimp only at *
 unfold unV;dsimp only;rw[zad Zao.h484 rfl,b484];rcases hop with rfl | rfl
 ·rw[if_pos rfl];dsimp only;generalize fz (-a)=z at *
  generalize fz a=u at *
  simp -implicitDefEqProofs[ca,cp,c6]
 ·rw[if_neg (by decide)];generalize fz (Zeh a i).1=z at *
  generalize (Zeh a i).2=ok at *
  generalize fz a=u at *
  simp -implicitDefEqProofs[ca,cp,c11]
def z4t(Q:PoF)(LS:List Fz)(s p L seen:Int)(F:List Fz)(m:Nat)(x:Nd)(ha:arN x.op=2)(a b:Rat)(hza:sz a<=129)(hzb:sz b<=129)(hx:F[m]? = some (fz a))(hx2:F[m+1]? = some (fz b))(hm:m<=90000) :
  Z1 T 484 [wP,.agg (Zdb x)] (hpA 2 Q LS s p L seen F (m+2))=some (.tup [efz (fz (biV x.op a b).1),.b (biV x.op a b).2],hpA 2 Q LS s p L seen F m):=by
 have ca:=za2 (T:=T) x.op;rw[ha]at ca;have hop:x.op=7\/x.op=8\/x.op=9\/x.op=10:=by rcases zax x.op with ⟨e,h⟩ | ⟨e,h⟩ | ⟨e,h⟩ | ⟨e,h⟩<;>omega
 have cp:=z9d (T:=T) Q LS s p L seen F m (fz a) hx (by omega);have cp2:=z9d (T:=T) Q LS s p L seen F (m+1) (fz b) hx2 (by omega);have sa:fsz (fz a)<=1000:=by rw[zar];omega
 have sb:fsz (fz b)<=1000:=by rw[zar];omega
 have c7:=zgy (T:=T) (fz a) (fz b) sa sb;have c8:=zgz (T:=T) (fz a) (fz b) sa sb;have c9:=zcj (T:=T) (fz a) (fz b) sa sb;have c10:=zfq (T:=T) (fz a) (fz b) sa sb;rw[zbi,zbi]at c7 c8 c9 c10;obtain⟨⟨q0,q1,q2⟩,qy,qp⟩:=Q;obtain⟨op,i,n⟩:=x;dsimp only at *
 unfold biV;rw[zad Zao.h484 rfl,b484];rcases hop with rfl | rfl | rfl | rfl
 ·rw[if_pos rfl];dsimp only;generalize fz (a+b)=z at *
  generalize fz a=u at *
  generalize fz b=w at *
  simp -implicitDefEqProofs[ca,cp,cp2,c7]
 ·rw[if_neg (by decide),if_pos rfl];dsimp only;generalize fz (a-b)=z at *
  generalize fz a=u at *
  generalize fz b=w at *
  simp -implicitDefEqProofs[ca,cp,cp2,c8]
 ·rw[if_neg (by decide),if_neg (by decide),if_pos rfl];dsimp only;generalize fz (a*b)=z at *
  generalize fz a=u at *
  generalize fz b=w at *
  simp -implicitDefEqProofs[ca,cp,cp2,c9]
 ·rw[if_neg (by decide),if_neg (by decide),if_neg (by decide)];dsimp only;generalize fz (a/b)=z at *
  generalize decide (b≠0)=ok at *
  generalize fz a=u at *
  generalize fz b=w at *
  simp -implicitDefEqProofs[ca,cp,cp2,c10]
end
abbrev Zpn(z:Fz):Box:=⟨7,.str,3,[[.b z.1,.sl (Zb z.2.1) .an,.sl (Zb z.2.2) .an]]⟩
abbrev Zpo(a b c d:Int):Box:=⟨8,.str,4,[[.i .i64 a,.i .i64 b,.i .i64 c,.i .i64 d]]⟩
abbrev hqA(gk:Nat)(Q:PoF)(LS:List Fz)(s p L seen:Int)(F:List Fz)(m:Nat)(z:Fz)(a b c d:Int):Heap:=
 [(.bor 0,⟨0,.str,9,[[.b Q.t.1,.sl (Zb Q.t.2.1) .an,.sl (Zb Q.t.2.2) .an,.sl (Zc Q.y) .an,.sl (Zc Q.p) .an,.sl (Zc LS) .an,.ptr (.bor 1) 1 3 0 0,.i .i64 seen,.bs (.bor 2) gk 3 0 m]]⟩),(.bor 1,bxG 1 s p L),(.bor 2,⟨gk,.own,3,Zc F⟩),(.loc 4,Zpn z),(.loc 5,Zpo a b c d)]
def Zge(gk:Nat)(Q:PoF)(LS:List Fz)(s p L seen:Int)(F:List Fz)(m:Nat)(code:List Nd)(i:Nat):St:=
 ⟨[(0,wP),(4,.ptr (.loc 4) 7 3 0 0),(5,.ptr (.loc 5) 8 4 0 0),(18,.sl (Zl code) .an),(19,.i .i64 code.length),(20,.i .i64 i)],hqA gk Q LS s p L seen F m (false,[],[]) 0 0 0 0,10⟩
def Zks(gk:Nat)(Q:PoF)(LS:List Fz)(s p L seen:Int)(F:List Fz)(m:Nat):Ex×St:=
 (.n,⟨[(0,wP),(4,.ptr (.loc 4) 7 3 0 0),(5,.ptr (.loc 5) 8 4 0 0)],hqA gk Q LS s p L seen F m (false,[],[]) 0 0 0 0,10⟩)
def Zgf(gk:Nat)(Q:PoF)(LS:List Fz)(s p L seen:Int)(F:List Fz)(m:Nat)(kind at_:Int):Ex×St:=
 (.r,⟨[(4,.ptr (.loc 4) 7 3 0 0),(5,.ptr (.loc 5) 8 4 0 0)],hqA gk Q LS s p L seen F m (fz 0) kind 0 0 at_,10⟩)
def zvs(m:List Fz)(v:Fz):wkL (Zc m++[[.b v.1,.sl (Zb v.2.1) .an,.sl (Zb v.2.2) .an]])=Zc (m++[v]):=by
 have:Zc m++[Zci v]=Zc (m++[v]):=zhe m v;rw[show [[AV.b v.1,.sl (Zb v.2.1) .an,.sl (Zb v.2.2) .an]]=[Zci v] from rfl,this,zgi]
section
variable{T:Tbl}[Z2 T][Zr T][Zv T][Zw T][Zq T][Zo T][Ze T][Zh T][Zs T][Zbv T][Z0 T][Z5 T][Zbk T][Z7 T][Z3 T][Zak T][Zao T][Zax T][Z9 T][Zcs T]
def zvt{gk:Nat}(hk:gk=2\/gk=6)(Q:PoF)(LS:List Fz)(s p L seen:Int)(F:List Fz)(m m2:Nat)(code:List Nd)(i:Nat)(x:Nd)(v:Fz)(hx:code[i]? = some x)(hl:code.length<=100000)(hm:m2<=F.length)(hF:F.length<=100000)(hs:0<=seen)(hs2:seen<=100000)(hv:fsz v<=10000)
  (c:Z1 T 484 [wP,.agg (Zdb x)] (hpA 2 Q LS s p L seen F m)=some (.tup [efz v,.b true],hpA 2 Q LS s p L seen F m2)) (hf:(Zby v:Int)<=L) :
  evX (orc T) T 3 l473_0 (Zge gk Q LS s p L seen F m code i)=some (.n,Zge 6 Q LS (Zbg s) (Zbn p v) L (seen+1) (F.take m2++[v]) (m2+1) code (i+1)):=by
 have cg:=zd8 (T:=T) s p L v hv;rw[decide_eq_true hf]at cg;obtain⟨hlt,hge⟩:=Yb.1 hx;have hlt':(i:Int)<code.length:=by omega
 have hws:=zbc hlt (by omega);have hw:IntKind.wrap .i64 (seen+1)=seen+1:=zab _ (by omega);have hpu:=zvs (F.take m2) v;have htl:(F.take m2).length=m2:=by rw[Yae];omega
 have h32:m2+1<=4294967296:=by omega
 generalize Zbg s=s' at *
 generalize Zbn p v=p' at *
 obtain⟨⟨q0,q1,q2⟩,qy,qp⟩:=Q;obtain⟨op,xi,n⟩:=x;obtain⟨v0,v1,v2⟩:=v;unfold Zge;rcases hk with rfl | rfl
 ·simp -implicitDefEqProofs[l473_0,hlt,hlt',hx,hge,hws,c,cg,hw,hpu,hm,h32]
 ·simp -implicitDefEqProofs[l473_0,hlt,hlt',hx,hge,hws,c,cg,hw,hpu,hm,h32]
def zzr{gk:Nat}(hk:gk=2\/gk=6)(Q:PoF)(LS:List Fz)(s p L seen:Int)(F:List Fz)(m m2:Nat)(code:List Nd)(i:Nat)(x:Nd)(v:Fz)(hx:code[i]? = some x)
  (c:Z1 T 484 [wP,.agg (Zdb x)] (hpA 2 Q LS s p L seen F m)=some (.tup [efz v,.b false],hpA 2 Q LS s p L seen F m2)) :
  evX (orc T) T 3 l473_0 (Zge gk Q LS s p L seen F m code i)=some (Zgf gk Q LS s p L seen F m2 3 seen):=by
 have c0:=zc8 (T:=T);obtain⟨hlt,hge⟩:=Yb.1 hx;have hlt':(i:Int)<code.length:=by omega
 unfold Zge Zgf;generalize fz 0=Z at *
 obtain⟨z0,z1,z2⟩:=Z;obtain⟨⟨q0,q1,q2⟩,qy,qp⟩:=Q;obtain⟨op,xi,n⟩:=x;obtain⟨v0,v1,v2⟩:=v;rcases hk with rfl | rfl
 ·simp -implicitDefEqProofs[l473_0,hlt,hlt',hx,hge,c,c0]
 ·simp -implicitDefEqProofs[l473_0,hlt,hlt',hx,hge,c,c0]
def zzs{gk:Nat}(hk:gk=2\/gk=6)(Q:PoF)(LS:List Fz)(s p L seen:Int)(F:List Fz)(m m2:Nat)(code:List Nd)(i:Nat)(x:Nd)(v:Fz)(hx:code[i]? = some x)(hv:fsz v<=10000)
  (c:Z1 T 484 [wP,.agg (Zdb x)] (hpA 2 Q LS s p L seen F m)=some (.tup [efz v,.b true],hpA 2 Q LS s p L seen F m2)) (hf:¬ (Zby v:Int)<=L) :
  evX (orc T) T 3 l473_0 (Zge gk Q LS s p L seen F m code i)=some (Zgf gk Q LS (Zbg s) (Zbn p v) L seen F m2 6 seen):=by
 have c0:=zc8 (T:=T);have cg:=zd8 (T:=T) s p L v hv;rw[decide_eq_false hf]at cg;obtain⟨hlt,hge⟩:=Yb.1 hx;have hlt':(i:Int)<code.length:=by omega
 generalize Zbg s=s' at *
 generalize Zbn p v=p' at *
 unfold Zge Zgf;generalize fz 0=Z at *
 obtain⟨z0,z1,z2⟩:=Z;obtain⟨⟨q0,q1,q2⟩,qy,qp⟩:=Q;obtain⟨op,xi,n⟩:=x;obtain⟨v0,v1,v2⟩:=v;rcases hk with rfl | rfl
 ·simp -implicitDefEqProofs[l473_0,hlt,hlt',hx,hge,c,cg,c0]
 ·simp -implicitDefEqProofs[l473_0,hlt,hlt',hx,hge,c,cg,c0]
def z3g{gk:Nat}(hk:gk=2\/gk=6)(Q:PoF)(LS:List Fz)(s p L seen:Int)(F:List Fz)(m:Nat)(code:List Nd) :
  Ze6 (evX (orc T) T 3 l473_0 (Zge gk Q LS s p L seen F m code code.length))=true/\Zdw 3 0 (.norm false [0,4,5]) (evX (orc T) T 3 l473_0 (Zge gk Q LS s p L seen F m code code.length))=some (Zks gk Q LS s p L seen F m):=by
 obtain⟨⟨q0,q1,q2⟩,qy,qp⟩:=Q;unfold Zge Zks;rcases hk with rfl | rfl<;>constructor<;>simp -implicitDefEqProofs[l473_0]
end
def zae4{dim pars lets:Int}{x:Nd}(h:okN dim pars lets x=true):(x.op=3->0<=x.i/\x.i<dim)/\(x.op=4->0<=x.i/\x.i<pars)/\(x.op=5->0<=x.i/\x.i<lets):=by
 unfold okN at h;refine⟨fun ho=>?_,fun ho=>?_,fun ho=>?_⟩
 all_goals
  rw[ho]at h;rw[if_neg (by decide)]at h;split at h
  ·cases h
  ·simpa[Zgl]using h
section
variable{T:Tbl}[Z2 T][Zr T][Zv T][Zw T][Zq T][Zo T][Ze T][Zh T][Zs T][Zbv T][Z0 T][Z5 T][Zbk T][Z7 T][Z3 T][Zak T][Zao T][Zax T][Z9 T][Zcs T]
def z5z(gk:Nat)(Q:PoF)(LS:List Fz)(s p L seen:Int)(F:List Fz)(m:Nat)(kind at_:Int):Zdw 3 0 (.norm false [0,4,5]) (some (Zgf gk Q LS s p L seen F m kind at_))=some (Zgf gk Q LS s p L seen F m kind at_):=by
 unfold Zgf;simp -implicitDefEqProofs
def Zn0(P:Po)(lim:Nat)(ls:List Rat)(n:Nat)(R:Rat×Nat×Nat)(r:Ex×St):Prop:=
 (R.2.1=0/\∃gk s p F,(gk=2\/gk=6)/\F[0]? = some (fz R.1)/\F.length<=5000/\r=Zks gk P.f (fzs ls) s p lim n F 1) \/
 (R.2.1≠0/\∃gk s p seen F m,(gk=2\/gk=6)/\r=Zgf gk P.f (fzs ls) s p lim seen F m R.2.1 R.2.2)
def zrw(P:Po)(lim:Nat)(hlim:lim<=4096)(ls:List Rat)(hP:PvS P 1000)(hls:∀q∈ls,sz q<=1000)(code:List Nd)(hl:code.length<=3000)(hok:∀x∈code,okN P.y.length P.p.length ls.length x=true)(hn:thin 1000 code)(hwr:Zcp code=-1)(n0:Nat)(hn0:n0<=10000)(s0 p0:Int)(F0:List Fz)(hF0:F0.length<=5000) :
  ∃r,Zn0 P lim ls (n0+code.length) (Zam lim P ls n0 [] code) r/\Zx T 3 0 (.norm false [0,4,5]) l473_0 (Zge 2 P.f (fzs ls) s0 p0 lim n0 F0 0 code 0)=some r:=by
 refine zay (fun x:Nat×List Rat×Nat×(Int×Int)×List Fz=>Zge x.2.2.1 P.f (fzs ls) x.2.2.2.1.1 x.2.2.2.1.2 lim ((n0+x.1:Nat):Int) x.2.2.2.2 x.2.1.length code x.1)
  (fun x=>x.1<=code.length/\(x.2.2.1=2\/x.2.2.1=6)/\x.2.2.2.2.take x.2.1.length=fzs x.2.1.reverse/\x.2.1.length<=x.2.2.2.2.length/\x.2.2.2.2.length<=5000/\(∀q∈x.2.1,sz q<=129)/\x.2.1.length<=x.1/\(∃j,Zah j x.2.1.length (code.drop x.1)=-1)/\Zam lim P ls (n0+x.1) x.2.1 (code.drop x.1)=Zam lim P ls n0 [] code)
  (fun x=>code.length-x.1) _ ?_ (0,[],2,(s0,p0),F0) ⟨Yx _,.inl rfl,rfl,Yx _,hF0,by simp,Yh _,⟨0,hwr⟩,rfl⟩
 rintro⟨i,s,gk,⟨c,p⟩,F⟩ ⟨hi,hk,hF,hsF,hFl,hz,hsi,⟨j,hw⟩,hW⟩
 dsimp only at *
 by_cases hlt:i<code.length
 ·have hx:code[i]? = some (code[i]'hlt):=Ya hlt;have hd:code.drop i=code[i]'hlt::code.drop (i+1):=Yo hlt;have hmem:=Y7 hlt;generalize code[i]'hlt=x at *
  rw[hd]at hw hW;have hxn:=hn x hmem;have hxo:=zae4 (hok x hmem);have h1:¬ (arN x.op<0\/(s.length:Int)<arN x.op):=by
   intro hh;unfold Zah at hw;rw[if_pos hh]at hw;omega
  have hw2:Zah (j+1) (s.length+1-arN x.op) (code.drop (i+1))=-1:=by
   unfold Zah at hw
   rwa [if_neg h1]at hw
  -- one round,by what the node makes of the stack
  have round:∀(v:Rat) (ok:Bool) (s':List Rat),Zc3 P ls s x=((v,ok),s')->sz v<=2000->s'.length<=s.length->(s'.length:Int)=s.length-arN x.op->(∀q∈s',q∈s)->F.take s'.length=fzs s'.reverse ->
    Z1 T 484 [wP,.agg (Zdb x)] (hpA 2 P.f (fzs ls) c p lim ((n0+i:Nat):Int) F s.length)=some (.tup [efz (fz v),.b ok],hpA 2 P.f (fzs ls) c p lim ((n0+i:Nat):Int) F s'.length) ->
    (∃y:Nat×List Rat×Nat×(Int×Int)×List Fz,(y.1<=code.length/\(y.2.2.1=2\/y.2.2.1=6)/\y.2.2.2.2.take y.2.1.length=fzs y.2.1.reverse/\y.2.1.length<=y.2.2.2.2.length/\y.2.2.2.2.length<=5000/\(∀q∈y.2.1,sz q<=129)/\y.2.1.length<=y.1/\(∃j,Zah j y.2.1.length (code.drop y.1)=-1)/\Zam lim P ls (n0+y.1) y.2.1 (code.drop y.1)=Zam lim P ls n0 [] code)/\code.length-y.1<code.length-i /\
     evX (orc T) T 3 l473_0 (Zge gk P.f (fzs ls) c p lim ((n0+i:Nat):Int) F s.length code i)=some (.n,Zge y.2.2.1 P.f (fzs ls) y.2.2.2.1.1 y.2.2.2.1.2 lim ((n0+y.1:Nat):Int) y.2.2.2.2 y.2.1.length code y.1)) \/
    (∃r,Zn0 P lim ls (n0+code.length) (Zam lim P ls n0 [] code) r/\Ze6 (evX (orc T) T 3 l473_0 (Zge gk P.f (fzs ls) c p lim ((n0+i:Nat):Int) F s.length code i))=true /\
     Zdw 3 0 (.norm false [0,4,5]) (evX (orc T) T 3 l473_0 (Zge gk P.f (fzs ls) c p lim ((n0+i:Nat):Int) F s.length code i))=some r):=by
   intro v ok s' hst hv hs's hlen hsub hF' hc;have hvf:fsz (fz v)<=10000:=by rw[zar];omega
   rw[Zam,hst]at hW;dsimp only at hW;cases ok with
   | false=>
    right;have e:=zzr (T:=T) hk P.f (fzs ls) c p lim ((n0+i:Nat):Int) F s.length s'.length code i x (fz v) hx hc;have ef:Zco lim (v,false) (n0+i)=(0,3,n0+i):=rfl;rw[ef]at hW;rw[if_pos (by simp)]at hW;refine⟨Zgf gk P.f (fzs ls) c p lim ((n0+i:Nat):Int) F s'.length 3 ((n0+i:Nat):Int),.inr ?_,by rw[e];rfl,by rw[e,z5z]⟩;rw[<-hW];exact⟨by simp,gk,c,p,_,F,_,hk,rfl⟩
   | true=>
    by_cases hfit:Zbl v<=lim
    ·left;have ef:Zco lim (v,true) (n0+i)=(v,0,0):=by unfold Zco;rw[if_neg (by simp),if_neg (by dsimp only;omega)]
     rw[ef]at hW;rw[if_neg (by simp)]at hW;have e:=zvt (T:=T) hk P.f (fzs ls) c p lim ((n0+i:Nat):Int) F s.length s'.length code i x (fz v) hx (by omega) (by omega) (by omega) (by omega) (by omega) hvf hc (by unfold Zbl at hfit;omega);have hn1:((n0+i:Nat):Int)+1=((n0+(i+1):Nat):Int):=by omega
     rw[hn1]at e;have hl1:(F.take s'.length++[fz v]).length=s'.length+1:=by rw[Yp,Yae];simp only[Yg,Yab];omega
     refine⟨(i+1,v::s',6,(Zbg c,Zbn p (fz v)),F.take s'.length++[fz v]),⟨by dsimp only;omega,.inr rfl,?_,?_,?_,?_,?_,⟨j+1,?_⟩,?_⟩,by dsimp only;omega,e⟩
     ·dsimp only;rw[Yg,Yc (by omega),hF'];simp[fzs]
     ·dsimp only;rw[Yg,hl1];exact Yh _
     ·dsimp only;rw[hl1];omega
     ·intro q hq;rcases Yw.1 hq with rfl | hq
      ·exact z6b hlim hfit
      ·exact hz q (hsub q hq)
     ·dsimp only;rw[Yg];omega
     ·dsimp only;rw[<-hw2];congr 1;rw[Yg];omega
     ·dsimp only;rw[<-hW];congr 1
    ·right;have ef:Zco lim (v,true) (n0+i)=(0,6,n0+i):=by unfold Zco;rw[if_neg (by simp),if_pos (by dsimp only;omega)]
     rw[ef]at hW;rw[if_pos (by simp)]at hW;have e:=zzs (T:=T) hk P.f (fzs ls) c p lim ((n0+i:Nat):Int) F s.length s'.length code i x (fz v) hx hvf hc (by unfold Zbl at hfit;omega);refine⟨Zgf gk P.f (fzs ls) (Zbg c) (Zbn p (fz v)) lim ((n0+i:Nat):Int) F s'.length 6 ((n0+i:Nat):Int),.inr ?_,by rw[e];rfl,by rw[e,z5z]⟩;rw[<-hW];exact⟨by simp,gk,_,_,_,F,_,hk,rfl⟩
  rcases zax x.op with ⟨e,ho⟩ | ⟨e,ho⟩ | ⟨e,ho⟩ | ⟨e,ho⟩
  ·have hst:Zc3 P ls s x=((Zca P ls x,true),s):=by unfold Zc3;rw[if_pos e]
   have cl:=zafw (T:=T) P ls c p lim ((n0+i:Nat):Int) F s.length x e hxn hxo.1 hxo.2.1 hxo.2.2;exact round _ true s hst (by have:=z45 (P:=P) hP hls hxn;omega) (Yh _) (by rw[e];omega) (fun q hq=>hq) hF (z4r P.f (fzs ls) c p lim _ F s.length x e _ cl)
  ·cases s with
   | nil=>exfalso;apply h1;right;rw[e];decide
   | cons a s1=>
    have hst:Zc3 P ls (a::s1) x=(unV x a,s1):=by unfold Zc3;rw[if_neg (by omega),if_pos e];rfl
    have hza:=hz a (by simp);have hFa:F[s1.length]? = some (fz a):=by
     have:(F.take (a::s1).length)[s1.length]? = some (fz a):=by rw[hF];simp[fzs]
     rwa [Yai,if_pos (by simp)]at this
    have hF1:F.take s1.length=fzs s1.reverse:=by
     have:(F.take (a::s1).length).take s1.length=fzs s1.reverse:=by rw[hF];simp[fzs]
     rwa [List.take_take,Ycg (by simp)]at this
    have cv:=z4s (T:=T) P.f (fzs ls) c p lim ((n0+i:Nat):Int) F s1.length x e a hza hFa (by rw[Yg]at hsi;omega);exact round (unV x a).1 (unV x a).2 s1 hst (zaf1 hza) (by simp) (by rw[e,Yg];omega) (fun q hq=>by simp[hq]) hF1 cv
  ·cases s with
   | nil=>exfalso;apply h1;right;rw[e];decide
   | cons b s0=>
   cases s0 with
   | nil=>exfalso;apply h1;right;rw[e];simp
   | cons a s1=>
    have hst:Zc3 P ls (b::a::s1) x=(biV x.op a b,s1):=by unfold Zc3;rw[if_neg (by omega),if_neg (by omega)];rfl
    have hza:=hz a (by simp);have hzb:=hz b (by simp);have hFa:F[s1.length]? = some (fz a):=by
     have:(F.take (b::a::s1).length)[s1.length]? = some (fz a):=by rw[hF];simp[fzs]
     rwa [Yai,if_pos (by simp only[Yg];omega)]at this
    have hFb:F[s1.length+1]? = some (fz b):=by
     have:(F.take (b::a::s1).length)[s1.length+1]? = some (fz b):=by rw[hF];simp[fzs]
     rwa [Yai,if_pos (by simp)]at this
    have hF1:F.take s1.length=fzs s1.reverse:=by
     have:(F.take (b::a::s1).length).take s1.length=fzs s1.reverse:=by rw[hF];simp[fzs]
     rwa [List.take_take,Ycg (by simp;omega)]at this
    have cv:=z4t (T:=T) P.f (fzs ls) c p lim ((n0+i:Nat):Int) F s1.length x e a b hza hzb hFa hFb (by simp only[Yg]at hsi;omega);exact round (biV x.op a b).1 (biV x.op a b).2 s1 hst (zaf2 hza hzb) (by simp;omega) (by rw[e,Yg,Yg];omega) (fun q hq=>by simp[hq]) hF1 cv
  ·exfalso;apply h1;left;omega
 ·right;have hi2:i=code.length:=by omega
  subst hi2;rw[Yaf]at hw hW;have hs1:s.length=1:=by
   unfold Zah at hw;split at hw
   ·omega
   ·omega
  obtain⟨v,rfl⟩:=Yck.1 hs1;have e:=z3g (T:=T) hk P.f (fzs ls) c p lim ((n0+code.length:Nat):Int) F 1 code;refine⟨Zks gk P.f (fzs ls) c p lim ((n0+code.length:Nat):Int) F 1,.inl ?_,e.1,e.2⟩;have hR:Zam lim P ls (n0+code.length) [v] []=(v,0,0):=rfl;rw[hR]at hW;rw[<-hW];have hFa:F[0]? = some (fz v):=by
   have:(F.take [v].length)[0]? = some (fz v):=by rw[hF];simp[fzs]
   rwa [Yai,if_pos (by simp)]at this
  exact⟨rfl,gk,c,p,F,hk,hFa,hFl,rfl⟩
end
theorem zme(lim:Nat)(P:Po)(ls:List Rat):∀(l:List Nd) (i:Nat) (s:List Rat),(Zam lim P ls i s l).2.1≠0->(Zam lim P ls i s l).1=0
 | [],i,s,h=>absurd rfl h
 | x::r,i,s,h=>by
  unfold Zam at h ⊢;split
  ·next h1=>exact(z1z h1).1
  ·next h1=>
   rw[if_neg h1]at h;exact zme lim P ls r _ _ h
theorem zub(lim:Nat)(P:Po)(ls:List Rat):∀(l:List Nd) (i:Nat) (s:List Rat),(Zam lim P ls i s l).2.1=0->(Zam lim P ls i s l).2.2=0
 | [],i,s,_=>rfl
 | x::r,i,s,h=>by
  unfold Zam at h ⊢;split
  ·next h1=>rw[if_pos h1]at h;exact absurd h h1
  ·next h1=>
   rw[if_neg h1]at h;exact zub lim P ls r _ _ h
section
variable{T:Tbl}[Z2 T][Zr T][Zv T][Zw T][Zq T][Zo T][Ze T][Zh T][Zs T][Zbv T][Z0 T][Z5 T][Zbk T][Z7 T][Z3 T][Zak T][Zao T][Zax T][Z9 T][Zcs T]
def zsh(P:Po)(lim:Nat)(hlim:lim<=4096)(ls:List Rat)(hP:PvS P 1000)(hls:∀q∈ls,sz q<=1000)(code:List Nd)(hl:code.length<=3000)(hok:∀x∈code,okN P.y.length P.p.length ls.length x=true)(hn:thin 1000 code)(hwr:Zcp code=-1)(n0:Nat)(hn0:n0<=10000)(s0 p0:Int)(F0:List Fz)(m0:Nat)(hF0:F0.length<=5000) :
  ∃(gk:Nat) (s p seen:Int) (F:List Fz) (m:Nat),(gk=2\/gk=6)/\((Zam lim P ls n0 [] code).2.1=0->seen=((n0+code.length:Nat):Int)/\F.length<=5000) /\
   Z1 T 473 [wP,.sl (Zl code) .an] (hpA 2 P.f (fzs ls) s0 p0 lim n0 F0 m0)=some (.tup [efz (fz (Zam lim P ls n0 [] code).1),.agg [.i .i64 (Zam lim P ls n0 [] code).2.1,.i .i64 0,.i .i64 0,.i .i64 (Zam lim P ls n0 [] code).2.2]],hpA gk P.f (fzs ls) s p lim seen F m):=by
 obtain⟨r,hq,hlo⟩:=zrw (T:=T) P lim hlim ls hP hls code hl hok hn hwr n0 hn0 s0 p0 F0 hF0;have hst:=zme lim P ls code n0 [];have hat:=zub lim P ls code n0 [];generalize Zam lim P ls n0 [] code=R at *
 obtain⟨v,kind,at_⟩:=R;dsimp only at *
 unfold Zge at hlo;have he:hqA 2 P.f (fzs ls) s0 p0 lim n0 F0 0 (false,[],[]) 0 0 0 0=[(.bor 0,⟨0,.str,9,[[.b P.f.t.1,.sl (Zb P.f.t.2.1) .an,.sl (Zb P.f.t.2.2) .an,.sl (Zc P.f.y) .an,.sl (Zc P.f.p) .an,.sl (Zc (fzs ls)) .an,.ptr (.bor 1) 1 3 0 0,.i .i64 n0,.bs (.bor 2) 2 3 0 0]]⟩),(.bor 1,bxG 1 s0 p0 lim),(.bor 2,⟨2,.own,3,Zc F0⟩),(.loc 4,⟨7,.str,3,[[.b false,.sl [] .an,.sl [] .an]]⟩),(.loc 5,⟨8,.str,4,[[.i .i64 0,.i .i64 0,.i .i64 0,.i .i64 0]]⟩)]:=rfl;rw[he]at hlo;clear he;simp only[Ym]at hlo;rcases hq with ⟨h0,gk,s,p,F,hk,hF,hFl,rfl⟩ | ⟨h0,gk,s,p,seen,F,m,hk,rfl⟩
 ·dsimp only at h0 hF;subst h0;refine⟨gk,s,p,_,F,1,hk,fun _=>⟨rfl,hFl⟩,?_⟩;have ha:=hat rfl;subst ha;have hge:=(Yb.1 hF).2;have hlt:=(Yb.1 hF).1;unfold Zks at hlo;generalize P.f=Q at *
  obtain⟨⟨q0,q1,q2⟩,qy,qp⟩:=Q;generalize fzs ls=LS at *
  generalize fz v=V at *
  obtain⟨v0,v1,v2⟩:=V;rw[zad Zao.h473 rfl,b473];clear hP hls hok hst hat hlim;rcases hk with rfl | rfl
  ·simp -implicitDefEqProofs[hlo,hF,hge,hlt]
  ·simp -implicitDefEqProofs[hlo,hF,hge,hlt]
 ·dsimp only at h0;refine⟨gk,s,p,seen,F,m,hk,fun h=>absurd h h0,?_⟩;have hv:=hst h0;subst hv;unfold Zgf at hlo;dsimp only at hlo;generalize P.f=Q at *
  obtain⟨⟨q0,q1,q2⟩,qy,qp⟩:=Q;generalize fzs ls=LS at *
  generalize fz 0=V at *
  obtain⟨v0,v1,v2⟩:=V;rw[zad Zao.h473 rfl,b473];clear hP hls hok hst hat hlim;rcases hk with rfl | rfl
  ·simp -implicitDefEqProofs[hlo]
  ·simp -implicitDefEqProofs[hlo]
end
def zl4(b:Int):((Zgs b).toNat:Int)=Zgs b/\(Zgs b).toNat<=4096:=by
 unfold Zgs;split
 ·decide
 ·split
  ·decide
  ·omega
def z8k{x:PoF}(h:PoS x 1000):PvS x.v 1000:=by
 refine⟨zbd h.t (by decide),fun q hq=>?_,fun q hq=>?_⟩
 ·obtain⟨u,hu,rfl⟩:=Yu.1 hq;exact zbd (h.y u hu) (by decide)
 ·obtain⟨u,hu,rfl⟩:=Yu.1 hq;exact zbd (h.p u hu) (by decide)
abbrev Zjj(a b c d:Int):AV:=.agg [.i .i64 a,.i .i64 b,.i .i64 c,.i .i64 d]
section
variable{T:Tbl}[Z2 T][Zr T][Zv T][Zw T][Zq T][Zo T][Ze T][Zh T][Zs T][Zbv T][Z0 T][Z5 T][Zbk T][Z7 T][Z3 T][Zak T][Zao T][Zax T][Z9 T][Zcs T]
def zpn(code:List Nd)(x:PoF)(lets:List Fz)(bits:Int)(hx:PoS x 1000)(hll:lets.length<=1000)(hls:∀u∈lets,fsz u<=1000)(hl:code.length<=3000)(hn:thin 1000 code)(hb:Za9 x.y.length x.p.length lets.length code<0) :
  Za T 462 [.sl (Zl code) .an,ept x,.sl (Zc lets) .an,.i .i64 bits] =
   some (.tup [efz (fz (Zam (Zgs bits).toNat x.v (lets.map fv) 0 [] code).1),Zjj (Zam (Zgs bits).toNat x.v (lets.map fv) 0 [] code).2.1 0 0 (Zam (Zgs bits).toNat x.v (lets.map fv) 0 [] code).2.2]):=by
 have c1:=zdv (T:=T) code x.y.length x.p.length lets.length (by omega) hn;have c2:=zg3 (T:=T) x hx;have c3:=zhu (T:=T) lets hll hls;have c4:=zg2 (T:=T) bits;obtain⟨hl1,hl2⟩:=zl4 bits;obtain⟨t,ht,e,hok⟩:=zcr hb;have hyl:x.v.y.length=x.y.length:=by simp[PoF.v]
 have hpl:x.v.p.length=x.p.length:=by simp[PoF.v]
 have hml:(lets.map fv).length=lets.length:=by simp
 obtain⟨gk,s,p,seen,F,m,hk,_,c5⟩:=zsh (T:=T) x.v (Zgs bits).toNat hl2 (lets.map fv) (z8k hx) (fun q hq=>by
  obtain⟨u,hu,rfl⟩:=Yu.1 hq;exact zbd (hls u hu) (by decide)) code hl (by rw[hyl,hpl,hml];exact hok) hn (by rw[<-e];exact zet ht) 0 (by decide) 0 0 [] 0 (by decide)
 have en:nrm lets=fzs (lets.map fv):=by simp[nrm,fzs]
 rw[en]at c3;rw[hl1]at c5;generalize Zam (Zgs bits).toNat x.v (lets.map fv) 0 [] code=R at *
 generalize hP:Za9 x.y.length x.p.length lets.length code=pl at *
 have hnp:¬ 0<=pl:=by omega
 generalize Zgs bits=L at *
 generalize fzs (lets.map fv)=LS at *
 generalize x.v.f=Q at *
 obtain⟨⟨t0,t1,t2⟩,y,pp⟩:=x;obtain⟨⟨q0,q1,q2⟩,qy,qp⟩:=Q;obtain⟨v,kind,at_⟩:=R;dsimp only at *
 generalize fz v=V at *
 obtain⟨v0,v1,v2⟩:=V;simp only[hpA,Ym,zdd]at c5;clear hyl hpl hml hok e hx hls en hl1 hl2;rw[zaa Zao.h462 rfl,b462];rcases hk with rfl | rfl
 ·simp -implicitDefEqProofs[c1,c2,c3,c4,c5,hnp,bxG]
 ·simp -implicitDefEqProofs[c1,c2,c3,c4,c5,hnp,bxG]
end
def Ze1(P:Po)(ls:List Rat):Tre->Option Rat
 | .leaf x=>some (Zca P ls x)
 | .un x a=>(Ze1 P ls a).bind fun v=>if (unV x v).2=true then some (unV x v).1 else none
 | .bin x a b=>(Ze1 P ls a).bind fun v=>(Ze1 P ls b).bind fun w=>if (biV x.op v w).2=true then some (biV x.op v w).1 else none
theorem zgg{lim:Nat}{P:Po}{ls:List Rat}:∀{t:Tre} {i:Nat},(evT lim P ls t i).2.1=0->Ze1 P ls t=some (evT lim P ls t i).1
 | .leaf x,i,h=>by
  have:=(zeq (show (Zco lim (Zca P ls x,true) i).2.1=0 from h)).2.2;show some (Zca P ls x)=some (Zco lim (Zca P ls x,true) i).1;rw[this]
 | .un x a,i,h=>by
  unfold evT at h ⊢;by_cases ha:(evT lim P ls a i).2.1≠0
  ·rw[if_pos ha]at h;exact absurd h ha
  ·rw[if_neg ha]at h ⊢;have hk:=zeq h;have ih:=zgg (t:=a) (i:=i) (by simpa using ha);rw[hk.2.2,Ze1,ih,Y5,if_pos hk.1]
 | .bin x a b,i,h=>by
  unfold evT at h ⊢;by_cases ha:(evT lim P ls a i).2.1≠0
  ·rw[if_pos ha]at h;exact absurd h ha
  ·rw[if_neg ha]at h ⊢;by_cases hb:(evT lim P ls b (i+a.flat.length)).2.1≠0
   ·rw[if_pos hb]at h;exact absurd h hb
   ·rw[if_neg hb]at h ⊢;have hk:=zeq h;have iha:=zgg (t:=a) (i:=i) (by simpa using ha);have ihb:=zgg (t:=b) (i:=i+a.flat.length) (by simpa using hb);rw[hk.2.2,Ze1,iha,ihb,Y5,Y5,if_pos hk.1]
def zsn{lim:Nat}{v:Rat×Bool}{i:Nat}(h:v.2=true):(Zco lim v i).2.1≠3:=by
 unfold Zco;rw[if_neg (by rw[h];decide)];split<;>simp
theorem znq{P:Po}{ls:List Rat}{lim:Nat}:∀{t:Tre} {v:Rat} {i:Nat},Ze1 P ls t=some v->(evT lim P ls t i).2.1≠3
 | .leaf x,v,i,_=>zsn rfl
 | .un x a,v,i,h=>by
  simp only[Ze1,Yf]at h;obtain⟨u,h1,h2⟩:=h;have ih:=znq (lim:=lim) (i:=i) h1;unfold evT;split
  ·exact ih
  ·next ha=>
   have hu:=zgg (t:=a) (lim:=lim) (i:=i) (by simpa using ha);rw[h1]at hu;cases hu;refine zsn ?_;split at h2
   ·assumption
   ·cases h2
 | .bin x a b,v,i,h=>by
  simp only[Ze1,Yf]at h;obtain⟨u,h1,w,h2,h3⟩:=h;have iha:=znq (lim:=lim) (i:=i) h1;have ihb:=znq (lim:=lim) (i:=i+a.flat.length) h2;unfold evT;split
  ·exact iha
  ·next ha=>
   split
   ·exact ihb
   ·next hb=>
    have hu:=zgg (t:=a) (lim:=lim) (i:=i) (by simpa using ha);have hw:=zgg (t:=b) (lim:=lim) (i:=i+a.flat.length) (by simpa using hb);rw[h1]at hu;rw[h2]at hw;cases hu;cases hw;refine zsn ?_;split at h3
    ·assumption
    ·cases h3
def z9o{P:Po}{ls:List Rat}{lim:Nat}{t:Tre}{v:Rat}{i:Nat}(h:Ze1 P ls t=some v)(hk:(evT lim P ls t i).2.1=0):(evT lim P ls t i).1=v:=by
 have:=zgg hk;rw[h]at this;exact(Option.some.inj this).symm
structure Fine (P:Po) (yl pl:Int) (t:Tre) (v:Rat):Prop where
 ok:t.ok
 nd:∀x∈t.flat,okN yl pl 0 x=true
 v:Ze1 P [] t=some v
def z59(yl pl:Int)(op:Int)(h:6<=op/\op<=10):okN yl pl 0 ⟨op,0,[]⟩=true:=by
 unfold okN;rw[if_neg (by dsimp only;omega),if_neg (by simp;omega),if_neg (by dsimp only;omega),if_neg (by dsimp only;omega),if_neg (by dsimp only;omega),if_neg (by dsimp only;omega)]
 rfl
def z9p(yl pl:Int)(e:Int)(h:-8<=e/\e<=8):okN yl pl 0 ⟨11,e,[]⟩=true:=by
 unfold okN;simp[h.1,h.2]
def z40(k:Nat)(h:k<10):Zhc (if k=0 then [] else [w32 k])=true:=by
 unfold Zhc;have hv:val (if k=0 then [] else [w32 k])=k:=by
  split
  ·next h0=>rw[h0];rfl
  ·rw[zaq,zb0,zba];omega
 rw[hv];have h1:(if k=0 then [] else [w32 k])=ofN k:=by
  split
  ·next h0=>rw[h0,zg7]
  ·next h0=>rw[zh6 h0,show k/4294967296=0 by omega,zg7]
 rw[h1,zdw h];simp
def zaoz(yl pl:Int)(k:Nat)(h:k<10):∀x∈kNd (k:Int),okN yl pl 0 x=true:=by
 intro x hx;rw[Yr.1 hx];unfold okN;rw[if_pos rfl];have:Zhc (if (k:Int)=0 then [] else [w32 (k:Int).toNat])=true:=by
  have:=z40 k h;by_cases h0:k=0
  ·subst h0;simpa using this
  ·rw[if_neg h0]at this;rw[if_neg (by omega)];simpa using this
 rw[this]
 rfl
section
variable{P:Po}{yl pl:Int}
def zeo{op:Int}{a b:Tre}{u w:Rat}(ho:7<=op/\op<=10)(ha:Fine P yl pl a u)(hb:Fine P yl pl b w)(h10:op=10->w≠0):Fine P yl pl (.bin ⟨op,0,[]⟩ a b) (biV op u w).1:=by
 have h2:(biV op u w).2=true:=by
  unfold biV;split
  ·rfl
  ·split
   ·rfl
   ·split
    ·rfl
    ·simp only[decide_eq_true_eq];exact h10 (by omega)
 refine⟨⟨by show arN op=2;rcases zax op with h | h | h | h<;>omega,ha.ok,hb.ok⟩,fun x hx=>?_,?_⟩
 ·simp only[Tre.flat,Y6,Yr]at hx;rcases hx with hx | hx | rfl
  ·exact ha.nd x hx
  ·exact hb.nd x hx
  ·exact z59 yl pl op (by omega)
 ·rw[Ze1,ha.v,hb.v,Y5,Y5,if_pos h2]
def zui{a:Tre}{u:Rat}(ha:Fine P yl pl a u):Fine P yl pl (.un ⟨6,0,[]⟩ a) (-u):=by
 refine⟨⟨rfl,ha.ok⟩,fun x hx=>?_,?_⟩
 ·simp only[Tre.flat,Y6,Yr]at hx;rcases hx with hx | rfl
  ·exact ha.nd x hx
  ·exact z59 yl pl 6 (by omega)
 ·rw[Ze1,ha.v,Y5];rfl
def zuj{a:Tre}{u:Rat}{e:Int}(ha:Fine P yl pl a u)(he:-8<=e/\e<=8)(h0:e<0->u≠0):Fine P yl pl (.un ⟨11,e,[]⟩ a) (Zbp u e):=by
 have hp:Zeh u e=(Zbp u e,true):=by unfold Zeh;rw[if_pos ⟨he.1,he.2,fun hh=>h0 hh.1 hh.2⟩]
 refine⟨⟨rfl,ha.ok⟩,fun x hx=>?_,?_⟩
 ·simp only[Tre.flat,Y6,Yr]at hx;rcases hx with hx | rfl
  ·exact ha.nd x hx
  ·exact z9p yl pl e he
 ·rw[Ze1,ha.v,Y5];show (if (unV ⟨11,e,[]⟩ u).2=true then _ else _)=_;have hu:unV ⟨11,e,[]⟩ u=Zeh u e:=rfl;rw[hu,hp];rfl
def Der(P:Po)(yl pl:Int)(l:List Nd):Prop:=l=[]\/∃d w,Fine P yl pl d w/\d.flat=l
end
def zr3{l:List Nd}{many words:Nat}(h:(decide (many<l.length) || (l.take many).any fun x=>decide (words<x.n.length))=false):l.length<=many/\thin words l:=by
 have h1:l.length<=many:=by
  simp only[Ycx,decide_eq_false_iff_not]at h;omega
 refine⟨h1,fun x hx=>?_⟩;rw[Yc h1]at h;simp only[Ycx,List.any_eq_false,decide_eq_true_eq]at h;have:=h.2 x hx;omega
def zpt{a b:Nat}(h:a<=b){l:List Nd}(hl:thin a l):thin b l:=fun x hx=>Ye (hl x hx) h
section
variable{T:Tbl}[Z2 T][Zr T][Zv T][Zw T][Zq T][Zo T][Ze T][Zh T][Zs T][Zbv T][Z0 T][Z5 T][Zbk T][Z7 T][Z3 T][Zak T][Zao T][Zax T][Z9 T][Zcs T][Za4 T][Zmv T][Zd9 T][Zb1 T][Zb2 T][Zbm T][Zb3 T][Ze9 T][Zoc T][Znl T]
 [Zc7 T] [Zdf T] [Zc0 T] [Zc1 T] [Zd6 T] [Zd7 T] [Zd8 T]
end
class Zi6 (T:Tbl):Prop where
def dps(l:List Nat):List (List AV):=l.map fun n=>[.i .i64 (n:Nat)]
def Zqf(s:List Nat)(x:Nd):List Nat:=if arN x.op=0 then 1::s else if arN x.op=1 then (s.headD 0+1)::s.tail else (max (s.headD 0) (s.tail.headD 0)+1)::s.tail.tail
def Zo1:List Nat->List Nd->List Nat
 | s,[]=>s
 | s,x::r=>Zo1 (Zqf s x) r
def Zqg(l:List Nd):Nat:=if Zcp l=-1 then (Zo1 [] l).headD 0 else 0
@[simp] def zaox:dps []=[]:=rfl
section
variable{T:Tbl}[Zax T][Zi6 T]
def Zrn(w n:Nat)(f:Fd):Prop:=∀c∈codesD f,c.length<=n/\thin w c
def Zm9(f:Fd):Nat:=((codesD f).map List.length).sum
def mxT(F:List Nat)(k:Nat):Nat->Nat
 | 0=>0
 | j+1=>max (mxT F k j) (F.getD (k-j-1) 0)
def Ztl(l:List Nd)(F:List Nat)(i k a j:Nat):St:=⟨[(3,.bs (.loc 3) 1 1 0 (k-j)),(6,.i .i64 (mxT F k j:Nat)),(10,.sl (Zl l) .an),(11,.i .i64 l.length),(12,.i .i64 i),(18,.i .i64 a),(19,.i .i64 j)],[(.loc 3,⟨1,.own,1,dps F⟩)],3⟩
def Ztm(l:List Nd)(F:List Nat)(k i:Nat):St:=⟨[(3,.bs (.loc 3) 1 1 0 k),(10,.sl (Zl l) .an),(11,.i .i64 l.length),(12,.i .i64 i)],[(.loc 3,⟨1,.own,1,dps F⟩)],3⟩
end
class Zms (T:Tbl):Prop where
section
variable{T:Tbl}[Za5 T][Zms T]
def wdR(w:Wd):List AV:=[.i .i64 w.1,.s w.2.1,.i .i64 w.2.2]
def Zm6(l:List Wd):List (List AV):=l.map wdR
def Zq4(s:List UInt8)(i:Nat)(acc:List Wd):St:=
 ⟨[(0,.s s),(3,.ptr (.loc 3) 1 4 0 0),(4,.bs (.loc 4) 2 3 0 acc.length),(5,.i .i64 i)],[(.loc 3,⟨1,.str,4,[[.i .i64 0,.i .i64 0,.i .i64 0,.i .i64 0]]⟩),(.loc 4,⟨2,.own,3,Zm6 acc⟩)],4⟩
def Zq5:Except Nat (List Wd)->Option (Ex×St)
 | .ok ws=>some (.n,⟨[(3,.ptr (.loc 3) 1 4 0 0),(4,.bs (.loc 4) 2 3 0 ws.length)],[(.loc 3,⟨1,.str,4,[[.i .i64 0,.i .i64 0,.i .i64 0,.i .i64 0]]⟩),(.loc 4,⟨2,.own,3,Zm6 ws⟩)],4⟩)
 | .error e=>some (.r,⟨[(2,.sl [] .an),(3,.ptr (.loc 3) 1 4 0 0)],[(.loc 3,⟨1,.str,4,[[.i .i64 1,.i .i64 0,.i .i64 0,.i .i64 e]]⟩)],3⟩)
def Zpi(r:Except Nat (List Wd)):AV:=
 match r with
 | .ok ws=>.tup [.sl (Zm6 ws) .an,.agg [.i .i64 0,.i .i64 0,.i .i64 0,.i .i64 0]]
 | .error e=>.tup [.sl [] .an,.agg [.i .i64 1,.i .i64 0,.i .i64 0,.i .i64 e]]
def Zq6(s:List UInt8):Except Nat (List Wd):=if 4000<s.length then .error 4000 else Zn6 (s.drop (Zk3 false s)) (Zk3 false s) []
def Zoh(k:Int)(t:List UInt8):Bool:=
 match t with
 | []=>false
 | c::r=>decide (k≠0)&&decide ((Zev c:Int)=k)&&decide (Zhb (Zev c) r=r.length+1)&&decide (r.length+1<=Zlr (Zev c))
abbrev Wz:=Int×List UInt8×Int
def wzR(w:Wz):List AV:=[.i .i64 w.1,.s w.2.1,.i .i64 w.2.2]
def Zow(l:List Wz):List (List AV):=l.map wzR
def Zsg(l:List Wz)(i:Nat)(b:BId):St:=
 ⟨[(3,.bs (.loc 3) 1 1 0 i),(6,.sl (Zow l) .an),(7,.i .i64 l.length),(8,.i .i64 i)],[(.loc 3,⟨1,.own,1,Zcu ((l.take i).map (·.2.1))⟩)],3⟩
end
def nameB(s:List UInt8):Bool:=Zoh 2 s&&decide (s≠[116])&&decide (s≠[121])&&decide (s≠[112])&&decide (s≠[108,101,116])
def twB(l:List Lt)(nm:List UInt8):Bool:=l.any fun x=>decide (x.name=nm)
def ptA(dim pars lets:Int)(c:List Nd):Int:=if Za9 dim pars lets c<0/\40<Zqg c then c.length else Za9 dim pars lets c
def Zo4(dim pars:Int)(L:List Lt):Nat->List Lt->Option (Int×Int×Int)
 | _,[]=>none
 | i,x::r=>if nameB x.name=false\/twB (L.take i) x.name=true then some ((i:Int)+1,1,0) else if 0<=ptA dim pars i x.code then some ((i:Int)+1,0,ptA dim pars i x.code) else Zo4 dim pars L (i+1) r
def Zo5(dim pars:Int)(n:Nat):Nat->List (List Nd)->Option (Int×Int×Int)
 | _,[]=>none
 | i,c::r=>if 0<=ptA dim pars n c then some (((n+i:Nat):Int)+1,0,ptA dim pars n c) else Zo5 dim pars n (i+1) r
def whB(f:Fd)(dim pars:Int):Bool:=decide (1<=dim/\dim<=6/\0<=pars/\pars<=6/\(f.outs.length:Int)=dim/\f.lets.length<=10/\Zm9 f<=300)
def Zqh(f:Fd)(dim pars:Int):Option (Int×Int×Int):=
 if whB f dim pars=false then some (0,0,0) else match Zo4 dim pars f.lets 0 f.lets with
  | some q=>some q
  | none=>Zo5 dim pars f.lets.length 0 f.outs
def z9x{α:Type}{motive:List α->Prop}(nil:motive [])(append_singleton:∀(l:List α) (x:α),motive l->motive (l++[x]))(l:List α):motive l:=by
 have key:∀l:List α,motive l.reverse:=by
  intro l
  induction l with
  | nil=>exact nil
  | cons x l ih=>rw[Ya2];exact append_singleton _ x ih
 rw[<-List.reverse_reverse l];exact key _
def inE(E:List (List Nd))(c:List Nd):List Nd:=c.flatMap fun x=>if x.op=5 then (E[x.i.toNat]?).getD [] else [x]
def Zqk(L:List (List Nd)):List (List Nd):=L.foldl (fun E c=>E++[inE E c]) []
def refB(b:Nat)(c:List Nd):Prop:=∀x∈c,x.op=5->0<=x.i/\x.i<b
def refB.mono{b b':Nat}{c:List Nd}(h:refB b c)(hb:b<=b'):refB b' c:=fun x hx ho=>by have:=h x hx ho;omega
def refT(L:List (List Nd)):Prop:=∀(i:Nat) (c:List Nd),L[i]? = some c->refB i c
def Zrr(c:List Nd):Prop:=∀x∈c,x.op≠5
def szC(S:List Nat)(c:List Nd):Nat:=c.foldl (fun n x=>min (n+if x.op=5 then (S[x.i.toNat]?).getD 0 else 1) 1201) 0
def szT(L:List (List Nd)):List Nat:=L.foldl (fun S c=>S++[szC S c]) []
def Zql(E:List (List Nd))(O:List (List Nd)):Nat:=(O.map fun c=>(inE E c).length).sum
structure FineD (f:Fd) (dim pars:Int):Prop where
 wh:1<=dim/\dim<=6/\0<=pars/\pars<=6/\(f.outs.length:Int)=dim/\f.lets.length<=10/\Zm9 f<=300
 lets:∀k x,f.lets[k]? = some x->Za9 dim pars (k:Nat) x.code<0
 outs:∀c∈f.outs,Za9 dim pars f.lets.length c<0
def zsq{dim pars lets:Int}{x:Nd}(h:okN dim pars lets x=true)(ho:x.op=5):0<=x.i/\x.i<lets:=by
 unfold okN at h;rw[ho,if_neg (by decide)]at h;split at h
 ·cases h
 ·simpa[Zgl]using h
def FineD.refT{f:Fd}{dim pars:Int}(h:FineD f dim pars):refT (f.lets.map (·.code)):=by
 intro i c hc x hx ho;rw[Yan]at hc;obtain⟨y,hy,rfl⟩:=Yaq.1 hc;obtain⟨_,_,_,hok⟩:=zcr (h.lets i y hy);exact zsq (hok x hx) ho
def FineD.refB{f:Fd}{dim pars:Int}(h:FineD f dim pars):∀c∈f.outs,refB f.lets.length c:=by
 intro c hc x hx ho;obtain⟨_,_,_,hok⟩:=zcr (h.outs c hc);exact zsq (hok x hx) ho
def zw9{l:List Nat}{n:Nat}(h:n∈l):n<=l.sum:=by
 induction l with
 | nil=>cases h
 | cons m l ih=>
  rw[Yey];rcases Yw.1 h with rfl | h
  ·omega
  ·have:=ih h;omega
def FineD.len{f:Fd}{dim pars:Int}(h:FineD f dim pars):∀c∈codesD f,c.length<=300:=by
 intro c hc;have:=h.wh.2.2.2.2.2.2;unfold Zm9 at this;have h2:c.length<=((codesD f).map List.length).sum:=zw9 (Yu.2 ⟨c,hc,rfl⟩);omega
def Zrs(f:Fd):Bool:=decide (0<f.lets.length) || f.outs.any fun c=>c.any fun x=>decide (x.op=5)
abbrev Zpe(f:Fd):List (List Nd):=Zqk (f.lets.map (·.code))
def Ztn(f:Fd):Bool:=decide (Zqh f f.outs.length 6=none)&&decide (Zql (Zpe f) f.outs<=1200)
def Zrt(f:Fd):List (List Nd):=f.outs.map (inE (Zpe f))
def Dig(l:List UInt8):Prop:=∀c∈l,48<=c.toNat/\c.toNat<=57
def zus{n:Nat}(h:n<10):(UInt8.ofNat (48+n)).toNat=48+n:=by
 rw[UInt8.toNat_ofNat'];omega
def zut(n:Nat):rd (Zan n)=n:=by
 induction n using Nat.strongRecOn with
 | _ n ih=>
  by_cases h:n<10
  ·rw[zdw h];show 0*10+((UInt8.ofNat (48+n)).toNat-48)=n;rw[zus h];omega
  ·rw[zkr h,z9k,ih (n/10) (by omega),zus (by omega)];omega
def Zrv(l:List UInt8):Prop:=∀c∈l,Zn1 c=false
def Ins.ext'{x y:Ins}(h1:x.op=y.op)(h2:x.a=y.a)(h3:x.b=y.b)(h4:x.n=y.n):x=y:=by
 obtain⟨_,_,_,_⟩:=x;obtain⟨_,_,_,_⟩:=y
 simp_all
instance:DecidableEq Ins:=fun x y=>decidable_of_iff (x.op=y.op/\x.a=y.a/\x.b=y.b/\x.n=y.n) ⟨fun h=>Ins.ext' h.1 h.2.1 h.2.2.1 h.2.2.2,fun h=>by subst h;exact⟨rfl,rfl,rfl,rfl⟩⟩
def blk:Fz:=(false,[],[])
def MkI(x:Ins):Prop:=(x.op=1->∃n:Nat,x.n=fz (n:Rat))/\(x.op≠1->x.n=blk)
def Zho(x:Ins):List UInt8:=if x.op=1 then Zan (val x.n.2.1) else []
def Zjf(x:Ins):AV:=.agg [.i .i64 x.op,.i .i64 x.a,.i .i64 x.b,.s (Zho x)]
abbrev lsK:List (Nat×Leaf):=[(0,.int),(1,.int),(2,.int),(3,.str)]
def zsk(x y:Ins):Zdy (.fs lsK) (Zjf x) (Zjf y)=some (decide (x.op=y.op/\x.a=y.a/\x.b=y.b/\Zho x=Zho y)):=by
 unfold Zjf;simp only[Zdy,eqL,Ybx,Ya7,Zej];by_cases h1:x.op=y.op<;>by_cases h2:x.a=y.a<;>by_cases h3:x.b=y.b<;>by_cases h4:Zho x=Zho y<;>simp[h1,h2,h3,h4]
def z9n{x y:Ins}(hx:MkI x)(hy:MkI y)(h:x.op=y.op/\x.a=y.a/\x.b=y.b/\Zho x=Zho y):x=y:=by
 obtain⟨h1,h2,h3,h4⟩:=h;refine Ins.ext' h1 h2 h3 ?_;by_cases ho:x.op=1
 ·obtain⟨n,hn⟩:=hx.1 ho;obtain⟨m,hm⟩:=hy.1 (h1▸ho);unfold Zho at h4;rw[if_pos ho,if_pos (h1▸ho)]at h4;have h5:val x.n.2.1=val y.n.2.1:=by rw[<-zut (val x.n.2.1),h4,zut]
  have key:∀k:Nat,val (fz (k:Rat)).2.1=k:=fun k=>by
   unfold fz;simp[zae]
  rw[hn,hm,key,key]at h5;rw[hn,hm,h5]
 ·rw[hx.2 ho,hy.2 (h1▸ho)]
def Zjg(x:Ins):Nat->List Ins->Option Nat
 | _,[]=>none
 | k,y::r=>if y=x then some k else Zjg x (k+1) r
def Zil:Nat->List Ins->List (List AV)
 | _,[]=>[]
 | k,y::r=>[Zjf y,.i .i64 (k:Int)]::Zil (k+1) r
@[simp] def zajo(k:Nat):Zil k []=[]:=rfl
theorem zqi(x:Ins):∀(C:List Ins) (k:Nat),Zil k (C++[x])=Zil k C++[[Zjf x,.i .i64 ((k+C.length:Nat):Int)]]
 | [],k=>rfl
 | y::r,k=>by
  show _::Zil (k+1) (r++[x])=_::(Zil (k+1) r++_);rw[zqi x r (k+1),Yg,show k+1+r.length=k+(r.length+1) by omega]
@[simp] theorem z1t:∀(C:List Ins) (k:Nat),wkL (Zil k C)=Zil k C
 | [],k=>rfl
 | y::r,k=>by
  show wkR [Zjf y,.i .i64 (k:Int)]::wkL (Zil (k+1) r)=_;rw[z1t r (k+1)]
  rfl
theorem zkv(x:Ins)(hx:MkI x):∀(C:List Ins) (k:Nat),(∀y∈C,MkI y)->Zf5 (.fs lsK) (Zjf x) (Zil k C)=some ((Zjg x k C).map fun i=>.i .i64 (i:Int))
 | [],k,_=>rfl
 | y::r,k,h=>by
  show (Zdy (.fs lsK) (Zjf x) (Zjf y)).bind _=_;rw[zsk,Y5];by_cases hxy:y=x
  ·subst hxy;rw[decide_eq_true ⟨rfl,rfl,rfl,rfl⟩,if_pos rfl];unfold Zjg;rw[if_pos rfl]
   rfl
  ·have:¬ (x.op=y.op/\x.a=y.a/\x.b=y.b/\Zho x=Zho y):=fun hh=>hxy (z9n hx (h y Yv) hh).symm;rw[decide_eq_false this,if_neg (by decide)];unfold Zjg;rw[if_neg hxy];exact zkv x hx r (k+1) fun z hz=>h z (Yk _ hz)
theorem zsl(x:Ins):∀(C:List Ins) (k i:Nat),Zjg x k C=some i->k<=i/\i<k+C.length/\C[i-k]? = some x
 | [],k,i,h=>by cases h
 | y::r,k,i,h=>by
  unfold Zjg at h;split at h
  ·next hy=>
   cases h;subst hy;exact⟨Yh _,by simp,by simp⟩
  ·obtain⟨h1,h2,h3⟩:=zsl x r (k+1) i h;refine⟨by omega,by simp only[Yg];omega,?_⟩;rw[show i-k=(i-(k+1))+1 by omega,Ya7];exact h3
def Zb9(C:List Ins)(x:Ins):List Ins×Nat:=match Zjg x 0 C with | some i=>(C,i) | none=>(C++[x],C.length)
def Zba(x:Nd):Ins:=if x.op=1 then ⟨1,0,0,fz ((val x.n:Nat):Rat)⟩ else if x.op=2 then ⟨2,0,0,blk⟩ else ⟨x.op,x.i,0,blk⟩
def ndI(Ls:List Nat)(C:List Ins)(s:List Nat)(x:Nd):List Ins×Nat:=
 if x.op=5 then (C,(Ls[x.i.toNat]?).getD 0)
 else if arN x.op=0 then Zb9 C (Zba x)
 else if arN x.op=1 then Zb9 C ⟨x.op,((s[s.length-1]?).getD 0:Nat),x.i,blk⟩
 else Zb9 C ⟨x.op,((s[s.length-2]?).getD 0:Nat),((s[s.length-1]?).getD 0:Nat),blk⟩
structure Mq where
 C:List Ins
 W:List Nat
 s:List Nat
def Zaf(Ls:List Nat)(q:Mq)(x:Nd):Mq:=⟨(ndI Ls q.C q.s x).1,q.W++[(ndI Ls q.C q.s x).2],q.s.take (q.s.length-(arN x.op).toNat)++[(ndI Ls q.C q.s x).2]⟩
def exQ(Ls:List Nat)(C:List Ins)(W:List Nat)(c:List Nd):Mq:=c.foldl (Zaf Ls) ⟨C,W,[]⟩
def zug(Ls:List Nat)(C:List Ins)(W:List Nat)(c:List Nd)(x:Nd):exQ Ls C W (c++[x])=Zaf Ls (exQ Ls C W c) x:=by simp[exQ]
def zsm{C:List Ins}{x:Ins}(hC:∀y∈C,MkI y)(hx:MkI x):∀y∈(Zb9 C x).1,MkI y:=by
 unfold Zb9;split
 ·exact hC
 ·intro y hy;rcases Y6.1 hy with h | h
  ·exact hC y h
  ·rw[Yr]at h;rw[h];exact hx
def zuh(x:Nd):MkI (Zba x):=by
 unfold Zba;split
 ·exact⟨fun _=>⟨_,rfl⟩,fun h=>absurd rfl h⟩
 ·next h1=>
  split
  ·exact⟨fun h=>absurd h (by decide),fun _=>rfl⟩
  ·exact⟨fun h=>absurd h h1,fun _=>rfl⟩
def zafz{Ls:List Nat}{C:List Ins}{s:List Nat}{x:Nd}(hC:∀y∈C,MkI y):∀y∈(ndI Ls C s x).1,MkI y:=by
 unfold ndI;split
 ·exact hC
 ·split
  ·exact zsm hC (zuh x)
  ·next h0=>
   have h1:x.op≠1:=fun h=>h0 (by rw[h];decide);split
   ·exact zsm hC ⟨fun h=>absurd h h1,fun _=>rfl⟩
   ·exact zsm hC ⟨fun h=>absurd h h1,fun _=>rfl⟩
theorem z58(Ls:List Nat):∀(c:List Nd) (q:Mq),(∀y∈q.C,MkI y)->∀y∈(c.foldl (Zaf Ls) q).C,MkI y
 | [],q,h=>h
 | x::c,q,h=>z58 Ls c (Zaf Ls q x) (zafz h)
def znp(C:List Ins)(x:Ins):C.length<=(Zb9 C x).1.length/\(Zb9 C x).1.length<=C.length+1/\(Zb9 C x).2<(Zb9 C x).1.length:=by
 unfold Zb9;split
 ·next i h=>
  have:=zsl x C 0 i h;exact⟨Yh _,by simp,by simpa using this.2.1⟩
 ·simp
class Zpm (T:Tbl):Prop where
abbrev mkP:AV:=.ptr (.bor 0) 0 2 0 0
def Zp1(E:List (List Nd))(D:List Nat):List (List AV):=D.map fun(i:Nat)=>[.i .i64 (i:Int),.sl (Zl ((E[i]?).getD [])) .an]
def plH(L:List Lt)(E:List (List Nd))(D:List Nat):Heap:=[(.bor 0,⟨0,.str,2,[[.sl (Zf0 L) .an,.fnp 0 (.bor 1) 1 2 0 0]]⟩),(.bor 1,⟨1,.mp,2,Zp1 E D⟩)]
def ziy{k:KTy}{id:BId}{g:Nat}{i y:AV}{h:Heap}{clk:Nat}:Zj5 k (.fnp 0 id g 2 0 0) i y h clk =
  (Zgx h id g).bind fun bx=>if (Zdy k i i).isSome&&noRef i&&noRef y&&Zko (Zf5 k i bx.els) then some (.dead,(id,⟨g,.mp,2,bx.els++[[i,y]]⟩)::h,clk) else none:=rfl
def Zsk(L:List Lt)(E:List (List Nd))(D:List Nat)(out c:List Nd)(i:Nat):St:=
 ⟨[(0,mkP),(5,.bs (.loc 5) 5 3 0 out.length),(8,.sl (Zl c) .an),(9,.i .i64 c.length),(10,.i .i64 i)],plH L E D++[(.loc 5,⟨5,.own,3,Zl out⟩)],7⟩
end Go.Ab
section
namespace Go.Ab
end Go.Ab
end
namespace Go.Ab
def Zbw(S:List Nat):List (List AV):=S.map fun(n:Nat)=>[.i .i64 (n:Int)]
@[simp] def zdu(S:List Nat):(Zbw S).length=S.length:=by simp[Zbw]
@[simp] def zaot(S:List Nat):wkL (Zbw S)=Zbw S:=by rw[zav];simp[Zbw,wkR,wkA]
@[simp] def zajj(S:List Nat)(i:Nat)(h:i<(Zbw S).length):(Zbw S)[i]=[.i .i64 ((S[i]'(by simpa using h):Nat):Int)]:=by simp[Zbw]
@[simp] def zajk:Zbw []=[]:=rfl
def zkl(S:List Nat)(n:Nat):Zbw S++[[.i .i64 (n:Int)]]=Zbw (S++[n]):=by simp[Zbw]
def Zsl(S:List Nat)(n:Nat)(c:List Nd)(i:Nat):St:=
 ⟨[(1,.bs (.bor 0) 0 1 0 S.length),(5,.i .i64 (n:Int)),(8,.sl (Zl c) .an),(9,.i .i64 c.length),(10,.i .i64 (i:Int))],[(.bor 0,⟨0,.own,1,Zbw S⟩)],4⟩
abbrev cmP:AV:=.ptr (.bor 0) 0 4 0 0
def cmH(gc gw:Nat)(C:List Ins)(L W:List Nat):Heap:=
 [(.bor 0,⟨0,.str,4,[[.bs (.bor 1) gc 6 0 C.length,.fnp 0 (.bor 2) 2 2 0 0,.bs (.bor 3) 3 1 0 L.length,.bs (.bor 4) gw 1 0 W.length]]⟩),(.bor 1,⟨gc,.own,6,Zcw C⟩),(.bor 2,⟨2,.mp,2,Zil 0 C⟩),(.bor 3,⟨3,.own,1,Zbw L⟩),(.bor 4,⟨gw,.own,1,Zbw W⟩)]
section
variable{T:Tbl}[Z9 T][Zbs T]
def zpg(C:List Ins)(L W:List Nat)(x:Ins)(hC:∀y∈C,MkI y)(hx:MkI x)(hn:x.n.2.1.length<=1000)(i:Nat)(hi:Zjg x 0 C=some i) :
  Z1 T 650 [cmP,.agg (Zdn x)] (cmH 1 4 C L W)=some (.i .i64 (i:Int),cmH 1 4 C L W):=by
 have hf:=zkv x hx C 0 hC;rw[hi]at hf;have hk:=zsk x x;rw[decide_eq_true ⟨rfl,rfl,rfl,rfl⟩]at hk;unfold Zjf at hf hk;unfold cmH;by_cases ho:x.op=1
 ·have c68:Za T 68 [.sl (Zb x.n.2.1) .an]=some (.s (Zan (val x.n.2.1))):=by
   rw[p68];exact zfa x.n.2.1 hn
  have ht:Zho x=Zan (val x.n.2.1):=if_pos ho;rw[ht]at hf hk;obtain⟨op,a,b,⟨n0,n1,n2⟩⟩:=x;dsimp only at *
  subst ho;generalize Zan (val n1)=tx at *
  rw[zad Zbs.h650 rfl,b650];simp -implicitDefEqProofs[hf,hk,c68,Zae,ziy]
 ·have ht:Zho x=[]:=if_neg ho;rw[ht]at hf hk;obtain⟨op,a,b,⟨n0,n1,n2⟩⟩:=x;dsimp only at *
  rw[zad Zbs.h650 rfl,b650];simp -implicitDefEqProofs[hf,hk,ho,Zae,ziy]
def zph(C:List Ins)(L W:List Nat)(x:Ins)(hC:∀y∈C,MkI y)(hx:MkI x)(hn:x.n.2.1.length<=1000)(hi:Zjg x 0 C=none)(hl:C.length<=100000) :
  Z1 T 650 [cmP,.agg (Zdn x)] (cmH 1 4 C L W)=some (.i .i64 (C.length:Int),cmH 7 4 (C++[x]) L W):=by
 have hf:=zkv x hx C 0 hC;rw[hi]at hf;have hk:=zsk x x;rw[decide_eq_true ⟨rfl,rfl,rfl,rfl⟩]at hk;have hms:=zqi x C 0;have hrs:=z13 C x;rw[Yad]at hms;have hwk:=z1t (C++[x]) 0;rw[hms]at hwk;have hw3:IntKind.wrap .i64 (C.length:Int)=(C.length:Int):=zab _ (by omega);have hl2:C.length+1<=4294967296:=by omega
 unfold Zjf at hf hk hms hwk;unfold cmH;by_cases ho:x.op=1
 ·have c68:Za T 68 [.sl (Zb x.n.2.1) .an]=some (.s (Zan (val x.n.2.1))):=by
   rw[p68];exact zfa x.n.2.1 hn
  have ht:Zho x=Zan (val x.n.2.1):=if_pos ho;rw[ht]at hf hk hms hwk;obtain⟨op,a,b,⟨n0,n1,n2⟩⟩:=x;dsimp only at *
  subst ho;generalize Zan (val n1)=tx at *
  rw[zad Zbs.h650 rfl,b650];simp -implicitDefEqProofs[hf,hk,c68,Zae,ziy,hms,hrs,hl2,hw3,hwk]
 ·have ht:Zho x=[]:=if_neg ho;rw[ht]at hf hk hms hwk;obtain⟨op,a,b,⟨n0,n1,n2⟩⟩:=x;dsimp only at *
  rw[zad Zbs.h650 rfl,b650];simp -implicitDefEqProofs[hf,hk,ho,Zae,ziy,hms,hrs,hl2,hw3,hwk]
end
section
variable{T:Tbl}[Z9 T][Zbs T]
def zm4(C:List Ins)(L W:List Nat)(x:Ins)(hC:∀y∈C,MkI y)(hx:MkI x)(hn:x.n.2.1.length<=1000)(hl:C.length<=100000) :
  ∃gc,(gc=1\/gc=7)/\Z1 T 650 [cmP,.agg (Zdn x)] (cmH 1 4 C L W)=some (.i .i64 ((Zb9 C x).2:Int),cmH gc 4 (Zb9 C x).1 L W):=by
 unfold Zb9;cases h:Zjg x 0 C with
 | some i=>exact⟨1,.inl rfl,zpg C L W x hC hx hn i h⟩
 | none=>exact⟨7,.inr rfl,zph C L W x hC hx hn h hl⟩
def z5x(a:List UInt32):(fz ((val a:Nat):Rat)).2.1.length<=a.length:=by
 have:(fz ((val a:Nat):Rat)).2.1=ofN (val a):=by
  unfold fz;simp
 rw[this];exact zac a
def zzu(x:Nd)(hn:x.n.length<=1000):(Zba x).n.2.1.length<=1000:=by
 unfold Zba;split
 ·exact Ye (z5x x.n) hn
 ·split
  all_goals exact Yx _
variable[Z2 T][Zr T][Zv T][Zw T][Zq T][Zo T][Ze T][Zh T][Zs T][Zbv T][Z0 T][Z5 T][Zbk T][Z7 T][Z3 T][Zak T][Zao T][Zax T][Zcs T]
def zzv(x:Nd)(hn:x.n.length<=1000):Za T 651 [.agg (Zdb x)]=some (.agg (Zdn (Zba x))):=by
 have c:=zmd (T:=T) x.n (by omega);obtain⟨op,i,n⟩:=x;dsimp only at *
 unfold Zba;rw[zaa Zbs.h651 rfl,b651];by_cases h1:op=1
 ·subst h1;rw[if_pos rfl];generalize fz ((val n:Nat):Rat)=q at *
  obtain⟨q0,q1,q2⟩:=q;simp -implicitDefEqProofs[c]
 ·rw[if_neg h1];by_cases h2:op=2
  ·subst h2;rw[if_pos rfl];simp -implicitDefEqProofs[blk]
  ·rw[if_neg h2];simp -implicitDefEqProofs[h1,h2,blk]
abbrev bxS(g:Nat)(S:List Nat):BId×Box:=(.bor 5,⟨g,.own,1,Zbw S⟩)
def zm5(C:List Ins)(L W S:List Nat)(x:Nd)(ho:x.op=5)(h0:0<=x.i)(h1:x.i<L.length)(hn:x.n.length<=1000) :
  Z1 T 649 [cmP,.agg (Zdb x),.bs (.bor 5) 5 1 0 S.length] (cmH 1 4 C L W++[bxS 5 S])=some (.i .i64 (((L[x.i.toNat]?).getD 0:Nat):Int),cmH 1 4 C L W++[bxS 5 S]):=by
 obtain⟨op,i,n⟩:=x;dsimp only at *
 subst ho;obtain⟨j,rfl⟩:∃j:Nat,i=(j:Int):=⟨i.toNat,by omega⟩;have hj:j<L.length:=by omega
 obtain⟨v,hv⟩:∃v,L[j]? = some v:=⟨_,Ya hj⟩;obtain⟨_,hg⟩:=Yb.1 hv;unfold cmH;rw[zad Zbs.h649 rfl,b649];simp -implicitDefEqProofs[hj,hv,hg,h1,Zae]
end
section
variable{T:Tbl}[Z9 T][Zbs T][Z2 T][Zr T][Zv T][Zw T][Zq T][Zo T][Ze T][Zh T][Zs T][Zbv T][Z0 T][Z5 T][Zbk T][Z7 T][Z3 T][Zak T][Zao T][Zax T][Zcs T]
def ztw(op a b:Int):Zdn ⟨op,a,b,blk⟩=[.i .i64 op,.i .i64 a,.i .i64 b,.b false,.sl [] .an,.sl [] .an]:=rfl
def zlf(C C1:List Ins)(L W S:List Nat)(x:Nd)(gc:Nat)(p:Nat)(hg:gc=1\/gc=7)(ho:x.op≠5)(ha:arN x.op=0)(hn:x.n.length<=1000)
  (c:Z1 T 650 [cmP,.agg (Zdn (Zba x))] (cmH 1 4 C L W)=some (.i .i64 (p:Int),cmH gc 4 C1 L W)) :
  Z1 T 649 [cmP,.agg (Zdb x),.bs (.bor 5) 5 1 0 S.length] (cmH 1 4 C L W++[bxS 5 S])=some (.i .i64 (p:Int),cmH (if gc=1 then 1 else 8) 4 C1 L W++[bxS 5 S]):=by
 have cl:=zzv (T:=T) x hn;have car:=za2 (T:=T) x.op;rw[ha]at car;generalize Zba x=y at *
 obtain⟨op,i,n⟩:=x;obtain⟨yo,ya,yb,⟨y0,y1,y2⟩⟩:=y;dsimp only at *
 unfold cmH at *
 rw[zad Zbs.h649 rfl,b649];rcases hg with rfl | rfl
 ·simp -implicitDefEqProofs[ho,car,cl,c,Zae]
 ·simp -implicitDefEqProofs[ho,car,cl,c,Zae]
def zpi(C C1:List Ins)(L W S:List Nat)(x:Nd)(gc:Nat)(p a:Nat)(hg:gc=1\/gc=7)(ho:x.op≠5)(ha:arN x.op=1)(hS:S[S.length-1]? = some a)(hl:S.length<=100000)(hn:x.n.length<=1000)
  (c:Z1 T 650 [cmP,.agg (Zdn ⟨x.op,(a:Int),x.i,blk⟩)] (cmH 1 4 C L W)=some (.i .i64 (p:Int),cmH gc 4 C1 L W)) :
  Z1 T 649 [cmP,.agg (Zdb x),.bs (.bor 5) 5 1 0 S.length] (cmH 1 4 C L W++[bxS 5 S])=some (.i .i64 (p:Int),cmH (if gc=1 then 1 else 8) 4 C1 L W++[bxS 5 S]):=by
 have car:=za2 (T:=T) x.op;rw[ha]at car;obtain⟨h1,h2⟩:=Yb.1 hS;have hw1:IntKind.wrap .i64 ((S.length:Int)-1)=((S.length-1:Nat):Int):=by rw[zab _ (by omega)];omega
 have hlt:((S.length-1:Nat):Int)<S.length:=by omega
 obtain⟨op,i,n⟩:=x;dsimp only at *
 rw[ztw]at c;unfold cmH at *
 rw[zad Zbs.h649 rfl,b649];rcases hg with rfl | rfl
 ·simp -implicitDefEqProofs[ho,car,hw1,hlt,h1,h2,hS,c,Zae]
 ·simp -implicitDefEqProofs[ho,car,hw1,hlt,h1,h2,hS,c,Zae]
def zm6(C C1:List Ins)(L W S:List Nat)(x:Nd)(gc:Nat)(p a b:Nat)(hg:gc=1\/gc=7)(ho:x.op≠5)(ha:arN x.op=2)(h2S:2<=S.length)(hS:S[S.length-1]? = some b)(hS2:S[S.length-2]? = some a)(hl:S.length<=100000)(hn:x.n.length<=1000)
  (c:Z1 T 650 [cmP,.agg (Zdn ⟨x.op,(a:Int),(b:Int),blk⟩)] (cmH 1 4 C L W)=some (.i .i64 (p:Int),cmH gc 4 C1 L W)) :
  Z1 T 649 [cmP,.agg (Zdb x),.bs (.bor 5) 5 1 0 S.length] (cmH 1 4 C L W++[bxS 5 S])=some (.i .i64 (p:Int),cmH (if gc=1 then 1 else 8) 4 C1 L W++[bxS 5 S]):=by
 have car:=za2 (T:=T) x.op;rw[ha]at car;obtain⟨h1,h2⟩:=Yb.1 hS;obtain⟨h3,h4⟩:=Yb.1 hS2;have hw1:IntKind.wrap .i64 ((S.length:Int)-1)=((S.length-1:Nat):Int):=by rw[zab _ (by omega)];omega
 have hw2:IntKind.wrap .i64 ((S.length:Int)-2)=((S.length-2:Nat):Int):=by rw[zab _ (by omega)];omega
 have hlt:((S.length-1:Nat):Int)<S.length:=by omega
 have hlt2:((S.length-2:Nat):Int)<S.length:=by omega
 obtain⟨op,i,n⟩:=x;dsimp only at *
 rw[ztw]at c;unfold cmH at *
 rw[zad Zbs.h649 rfl,b649];rcases hg with rfl | rfl
 ·simp -implicitDefEqProofs[ho,car,hw1,hw2,hlt,hlt2,h1,h2,h3,h4,hS,hS2,c,Zae]
 ·simp -implicitDefEqProofs[ho,car,hw1,hw2,hlt,hlt2,h1,h2,h3,h4,hS,hS2,c,Zae]
end
structure NdB (nl:Nat) (n:Nat) (x:Nd):Prop where
 len:x.n.length<=1000
 lt:x.op=5->0<=x.i/\x.i<nl
 ar:0<=arN x.op/\arN x.op<=n
def Zk9(gc gw:Nat)(C:List Ins)(L W S:List Nat)(c:List Nd)(i:Nat):St:=
 ⟨[(0,cmP),(5,.bs (.loc 5) 11 1 0 S.length),(9,.sl (Zl c) .an),(10,.i .i64 c.length),(11,.i .i64 (i:Int))],cmH gc gw C L W++[(.loc 5,⟨11,.own,1,Zbw S⟩)],13⟩
section
variable{T:Tbl}[Z9 T][Zbs T][Z2 T][Zr T][Zv T][Zw T][Zq T][Zo T][Ze T][Zh T][Zs T][Zbv T][Z0 T][Z5 T][Zbk T][Z7 T][Z3 T][Zak T][Zao T][Zax T][Zcs T]
def zzw(C:List Ins)(L W S:List Nat)(x:Nd)(hC:∀y∈C,MkI y)(hx:NdB L.length S.length x)(hl:C.length<=100000)(hs:S.length<=100000) :
  ∃gc,(gc=1\/gc=8)/\Z1 T 649 [cmP,.agg (Zdb x),.bs (.bor 5) 5 1 0 S.length] (cmH 1 4 C L W++[bxS 5 S])=some (.i .i64 ((ndI L C S x).2:Int),cmH gc 4 (ndI L C S x).1 L W++[bxS 5 S]):=by
 obtain⟨h1,h2,h3,h4⟩:=hx;unfold ndI;by_cases ho:x.op=5
 ·obtain⟨a,b⟩:=h2 ho;rw[if_pos ho];exact⟨1,.inl rfl,zm5 C L W S x ho a b h1⟩
 rw[if_neg ho];have g8:∀gc,(gc=1\/gc=7)->((if gc=1 then 1 else 8)=1\/(if gc=1 then 1 else 8)=8):=by
  rintro gc (rfl | rfl)
  ·exact .inl rfl
  ·exact .inr rfl
 rcases zax x.op with ⟨e,_⟩ | ⟨e,_⟩ | ⟨e,_⟩ | ⟨e,_⟩
 ·rw[if_pos e];obtain⟨gc,hg,hc⟩:=zm4 (T:=T) C L W (Zba x) hC (zuh x) (zzu x h1) hl;exact⟨_,g8 gc hg,zlf C _ L W S x gc _ hg ho e h1 hc⟩
 ·have ho1:x.op≠1:=fun h=>by rw[h]at e;revert e;decide
  rw[if_neg (by omega),if_pos e];obtain⟨a,ha⟩:∃a,S[S.length-1]? = some a:=⟨_,Ya (by omega)⟩;rw[ha,Ydl];obtain⟨gc,hg,hc⟩:=zm4 (T:=T) C L W ⟨x.op,(a:Int),x.i,blk⟩ hC ⟨fun h=>absurd h ho1,fun _=>rfl⟩ (Yx _) hl;exact⟨_,g8 gc hg,zpi C _ L W S x gc _ a hg ho e ha hs h1 hc⟩
 ·have ho1:x.op≠1:=fun h=>by rw[h]at e;revert e;decide
  rw[if_neg (by omega),if_neg (by omega)];obtain⟨b,hb⟩:∃b,S[S.length-1]? = some b:=⟨_,Ya (by omega)⟩;obtain⟨a,ha⟩:∃a,S[S.length-2]? = some a:=⟨_,Ya (by omega)⟩;rw[ha,hb,Ydl,Ydl];obtain⟨gc,hg,hc⟩:=zm4 (T:=T) C L W ⟨x.op,(a:Int),(b:Int),blk⟩ hC ⟨fun h=>absurd h ho1,fun _=>rfl⟩ (Yx _) hl;exact⟨_,g8 gc hg,zm6 C _ L W S x gc _ a b hg ho e (by omega) hb ha hs h1 hc⟩
 ·omega
def zvv(gc gw g1:Nat)(C C1:List Ins)(L W S:List Nat)(c:List Nd)(i p ar:Nat)(x:Nd)(hgc:gc=1\/gc=7)(hgw:gw=4\/gw=10)(hg1:g1=1\/g1=8)(hx:c[i]? = some x)(har:arN x.op=(ar:Int))(harS:ar<=S.length)
  (hcl:c.length<=100000) (hWl:W.length<=100000) (hSl:S.length<=100000) (hn:x.n.length<=1000)
  (hc:Z1 T 649 [cmP,.agg (Zdb x),.bs (.bor 5) 5 1 0 S.length] (cmH 1 4 C L W++[bxS 5 S])=some (.i .i64 (p:Int),cmH g1 4 C1 L W++[bxS 5 S])) :
  evX (orc T) T 5 l648_0 (Zk9 gc gw C L W S c i)=some (.n,Zk9 (if g1=1 then gc else 7) 10 C1 L (W++[p]) (S.take (S.length-ar)++[p]) c (i+1)):=by
 have car:=za2 (T:=T) x.op;rw[har]at car;obtain⟨hlt,hge⟩:=Yb.1 hx;have hlt':(i:Int)<c.length:=by omega
 have hws:=zbc hlt (by omega);have hsW:=zkl W p;have hsS:=zkl (S.take (S.length-ar)) p;have hsl:(S.take (S.length-ar)).length=S.length-ar:=by rw[Yae];omega
 have htk:(Zbw S).take (S.length-ar)=Zbw (S.take (S.length-ar)):=by unfold Zbw;rw[List.map_take]
 have hw:IntKind.wrap .i64 ((S.length:Int)-(ar:Int))=((S.length-ar:Nat):Int):=by rw[zab _ (by omega)];omega
 have hle:((S.length-ar:Nat):Int)<=S.length:=by omega
 have h32:W.length+1<=4294967296:=by omega
 have h33:S.length-ar+1<=4294967296:=by omega
 have htkW:(Zbw W).take W.length=Zbw W:=Yc (by rw[zdu];exact Yh _);have hn32:x.n.length<=4294967296:=by omega
 have hlS:S.length-ar<=S.length:=Nat.sub_le _ _;obtain⟨op,xi,n⟩:=x;dsimp only at *
 unfold Zk9 cmH at *
 simp only[bxS,Ybj,Yal]at hc;generalize hS1:S.take (S.length-ar)=S1 at *
 generalize hm:S.length-ar=m at *
 rcases hgc with rfl | rfl<;>rcases hgw with rfl | rfl<;>rcases hg1 with rfl | rfl
 all_goals simp -implicitDefEqProofs[l648_0,hlt,hlt',hx,hge,hws,car,hc,hsW,hsS,hsl,htk,hw,hle,h32,h33,hn32,hlS,htkW,Zae]
end
def z3i(Ls:List Nat)(C:List Ins)(W:List Nat)(c:List Nd)(i:Nat)(x:Nd)(hx:c[i]? = some x):exQ Ls C W (c.take (i+1))=Zaf Ls (exQ Ls C W (c.take i)) x:=by
 rw[Ycd,hx,Yd6,zug]
def zzx(Ls:List Nat)(C:List Ins)(s:List Nat)(x:Nd):(ndI Ls C s x).1.length<=C.length+1:=by
 unfold ndI;split
 ·simp
 ·split
  ·exact(znp C _).2.1
  ·split
   ·exact(znp C _).2.1
   ·exact(znp C _).2.1
section
variable{T:Tbl}[Z9 T][Zbs T][Z2 T][Zr T][Zv T][Zw T][Zq T][Zo T][Ze T][Zh T][Zs T][Zbv T][Z0 T][Z5 T][Zbk T][Z7 T][Z3 T][Zak T][Zao T][Zax T][Zcs T]
def zzy(C:List Ins)(L W:List Nat)(c:List Nd)(hC:∀y∈C,MkI y)(hw:Zcp c=-1)(hlt:∀x∈c,x.op=5->0<=x.i/\x.i<L.length)(hn:thin 1000 c)(hc:c.length<=50000)(hCl:C.length<=50000)(hWl:W.length<=50000) :
  (exQ L C W c).s.length=1/\∃gc,(gc=1\/gc=7)/\Z1 T 648 [cmP,.sl (Zl c) .an] (cmH 1 4 C L W)=some (.i .i64 ((((exQ L C W c).s[0]?).getD 0:Nat):Int),cmH gc 10 (exQ L C W c).C L (exQ L C W c).W):=by
 have hne:0<c.length:=by
  cases c with
  | nil=>exact absurd hw (by decide)
  | cons x r=>simp
 have hloop:∃r,((exQ L C W c).s.length=1/\∃gc,(gc=1\/gc=7)/\r=((.n,⟨[(5,.bs (.loc 5) 11 1 0 (exQ L C W c).s.length)],cmH gc 10 (exQ L C W c).C L (exQ L C W c).W++[(.loc 5,⟨11,.own,1,Zbw (exQ L C W c).s⟩)],13⟩):Ex×St)) /\
   Zx T 5 0 (.norm false [5]) l648_0 (Zk9 1 4 C L W [] c 0)=some r:=by
  refine zay (fun q:Nat×Nat×Nat=>Zk9 q.2.1 q.2.2 (exQ L C W (c.take q.1)).C L (exQ L C W (c.take q.1)).W (exQ L C W (c.take q.1)).s c q.1)
   (fun q=>q.1<=c.length/\(q.2.1=1\/q.2.1=7)/\(q.2.2=4\/q.2.2=10)/\(0<q.1->q.2.2=10)/\(exQ L C W (c.take q.1)).s.length<=q.1/\(exQ L C W (c.take q.1)).C.length<=C.length+q.1/\(exQ L C W (c.take q.1)).W.length=W.length+q.1/\∃j,Zah j (exQ L C W (c.take q.1)).s.length (c.drop q.1)=-1)
   (fun q=>c.length-q.1) _ ?_ (0,1,4) ⟨Yx _,.inl rfl,.inl rfl,fun h=>absurd h (by decide),Yh _,Yh _,rfl,0,hw⟩
  rintro⟨i,gc,gw⟩ ⟨hi,hgc,hgw,hg0,hs,hCi,hWi,j,hwr⟩
  dsimp only at *
  have hmk:∀y∈(exQ L C W (c.take i)).C,MkI y:=z58 L (c.take i) ⟨C,W,[]⟩ hC;by_cases hil:i<c.length
  ·left;obtain⟨x,hx,hmem⟩:∃x,c[i]? = some x/\x∈c:=⟨c[i]'hil,Ya hil,Y7 hil⟩;obtain⟨_,hge⟩:=Yb.1 hx;have hd:c.drop i=x::c.drop (i+1):=by rw[Yo hil,hge]
   have htk:=z3i L C W c i x hx;rw[hd]at hwr;generalize exQ L C W (c.take i)=q at *
   obtain⟨Cq,Wq,Sq⟩:=q;dsimp only at *
   have h1:¬ (arN x.op<0\/(Sq.length:Int)<arN x.op):=by
    intro hh;unfold Zah at hwr;rw[if_pos hh]at hwr;omega
   have hw2:Zah (j+1) (Sq.length+1-arN x.op) (c.drop (i+1))=-1:=by
    unfold Zah at hwr
    rwa [if_neg h1]at hwr
   obtain⟨g1,hg1,hcall⟩:=zzw (T:=T) Cq L Wq Sq x hmk ⟨hn x hmem,hlt x hmem,by omega,by omega⟩ (by omega) (by omega);obtain⟨ar,har⟩:∃ar:Nat,arN x.op=(ar:Int):=⟨(arN x.op).toNat,by omega⟩;have e:=zvv (T:=T) gc gw g1 Cq _ L Wq Sq c i _ ar x hgc hgw hg1 hx har (by omega) (by omega) (by omega) (by omega) (hn x hmem) hcall;have hst:Zaf L ⟨Cq,Wq,Sq⟩ x=⟨(ndI L Cq Sq x).1,Wq++[(ndI L Cq Sq x).2],Sq.take (Sq.length-ar)++[(ndI L Cq Sq x).2]⟩:=by
    unfold Zaf;rw[har,Y0]
   have hnl:=zzx L Cq Sq x;have hsl:(Sq.take (Sq.length-ar)++[(ndI L Cq Sq x).2]).length=Sq.length-ar+1:=by rw[Yp,Yae,Ybq];omega
   rw[hst]at htk;refine⟨(i+1,if g1=1 then gc else 7,10),?_,by dsimp only;omega,?_⟩
   ·dsimp only;rw[htk];dsimp only;refine⟨by omega,?_,.inr rfl,fun _=>rfl,by omega,by omega,by rw[Yp,Ybq];omega,j+1,?_⟩
    ·split
     ·exact hgc
     ·exact .inr rfl
    ·rw[hsl,<-hw2];congr 1;omega
   ·dsimp only;rw[htk];exact e
  ·right;have hic:i=c.length:=by omega
   subst hic;rw[Ydm]at *
   rw[Yaf]at hwr;have h10:=hg0 hne;have hs1:(exQ L C W c).s.length=1:=by
    unfold Zah at hwr;split at hwr
    ·omega
    ·omega
   refine⟨_,⟨hs1,gc,hgc,rfl⟩,?_⟩;subst h10;generalize exQ L C W c=q at *
   obtain⟨Cq,Wq,Sq⟩:=q;dsimp only at *
   unfold Zk9 cmH;rcases hgc with rfl | rfl
   ·constructor<;>simp -implicitDefEqProofs[l648_0,Zae]
   ·constructor<;>simp -implicitDefEqProofs[l648_0,Zae]
 obtain⟨r,⟨hs1,gc,hgc,rfl⟩,hr⟩:=hloop;refine⟨hs1,gc,hgc,?_⟩;generalize exQ L C W c=q at *
 obtain⟨Cq,Wq,Sq⟩:=q;dsimp only at *
 obtain⟨v,rfl⟩:=Yck.1 hs1;unfold Zk9 cmH at hr;unfold cmH;rw[zad Zbs.h648 rfl,b648];simp -implicitDefEqProofs at hr;have hnv:Zbw [v]=[[.i .i64 (v:Int)]]:=rfl;rw[hnv]at hr;rcases hgc with rfl | rfl
 ·simp -implicitDefEqProofs[hr,Zae]
 ·simp -implicitDefEqProofs[hr,Zae]
end
abbrev mkB:BId:=.fld (.loc 25) 3
abbrev Zor(g:Nat)(C:List Ins)(L W:List Nat):Heap:=
 [(mkB,⟨g,.str,4,[[.bs (.fld mkB 0) (g+1) 6 0 C.length,.fnp 0 (.fld (.loc 25) 1) (g+2) 2 0 0,.bs (.fld mkB 2) (g+3) 1 0 L.length,.bs (.fld mkB 3) (g+4) 1 0 W.length]]⟩),
  (.fld mkB 0,⟨g+1,.own,6,Zcw C⟩),(.fld (.loc 25) 1,⟨g+2,.mp,2,Zil 0 C⟩),(.fld mkB 2,⟨g+3,.own,1,Zbw L⟩),(.fld mkB 3,⟨g+4,.own,1,Zbw W⟩)]
abbrev bx4(g:Nat):BId×Box:=(.loc 4,⟨g,.str,4,[[.sl [] .an,.sl [] .an,.i .i64 0,.i .i64 0]]⟩)
abbrev bx6(g:Nat):BId×Box:=(.loc 6,⟨g,.str,4,[[.i .i64 0,.i .i64 0,.i .i64 0,.i .i64 0]]⟩)
def Zr3(f:Fd)(pars:Int)(C:List Ins)(L W:List Nat)(i:Nat):St:=
 ⟨[(1,.i .i64 pars),(2,.ptr (.loc 2) 1 2 0 0),(4,.ptr (.loc 4) 2 4 0 0),(6,.ptr (.loc 6) 3 4 0 0),(8,.ptr mkB 4 4 0 0),(27,.sl (Zf0 f.lets) .an),(28,.i .i64 f.lets.length),(29,.i .i64 (i:Int))],
  [(.loc 2,⟨1,.str,2,[[.sl (Zf0 f.lets) .an,.sl (Za3 f.outs) .an]]⟩),bx4 2,bx6 3]++Zor 4 C L W,10⟩
def Zr4(n:Nat)(Os:List (List Nd))(pars:Int)(C:List Ins)(L W Q:List Nat)(i:Nat):St:=
 ⟨[(4,.ptr (.loc 4) 1 4 0 0),(6,.ptr (.loc 6) 2 4 0 0),(8,.ptr mkB 3 4 0 0),(11,.ptr (.loc 11) 8 4 0 0),(53,.sl (Za3 Os) .an),(54,.i .i64 Os.length),(55,.i .i64 (i:Int))],
  [bx4 1,bx6 2]++Zor 3 C L W++[(.loc 11,⟨8,.str,4,[[.sl [] .an,.bs (.fld (.loc 11) 1) 9 1 0 Q.length,.i .i64 (n:Int),.i .i64 pars]]⟩),(.fld (.loc 11) 1,⟨9,.own,1,Zbw Q⟩)],11⟩
class Zj9 (T:Tbl):Prop where
end Go.Ab
section
namespace Go.Ab
end Go.Ab
end
namespace Go.Ab
abbrev Zof(g:Nat)(f:Fd):Box:=⟨g,.str,2,[[.sl (Zf0 f.lets) .an,.sl (Za3 f.outs) .an]]⟩
def Zry(q:Option (Int×Int×Int)):AV:=match q with
 | some (a,b,c)=>Zjj 2 a b c
 | none=>Zjj 0 0 0 0
def Zrz(a b c:Int):Option (Ex×St):=some (.r,⟨[(6,.ptr (.loc 6) 1 4 0 0)],[(.loc 6,⟨1,.str,4,[[.i .i64 2,.i .i64 a,.i .i64 b,.i .i64 c]]⟩)],3⟩)
section
variable{T:Tbl}[Zax T][Zi6 T][Z9 T][Zcs T][Z2 T][Zr T][Za5 T][Zms T][Zj9 T]
def Zr0(f:Fd)(dim pars:Int)(i:Nat):St:=⟨[(1,.i .i64 dim),(2,.i .i64 pars),(3,.ptr (.loc 3) 1 2 0 0),(6,.ptr (.loc 6) 2 4 0 0),(20,.sl (Zf0 f.lets) .an),(21,.i .i64 f.lets.length),(22,.i .i64 i)],[(.loc 3,Zof 1 f),(.loc 6,⟨2,.str,4,[[.i .i64 0,.i .i64 0,.i .i64 0,.i .i64 0]]⟩)],4⟩
def Zr1(f:Fd)(dim pars:Int)(i:Nat):St:=⟨[(1,.i .i64 dim),(2,.i .i64 pars),(3,.ptr (.loc 3) 1 2 0 0),(6,.ptr (.loc 6) 2 4 0 0),(54,.sl (Za3 f.outs) .an),(55,.i .i64 f.outs.length),(56,.i .i64 i)],[(.loc 3,Zof 1 f),(.loc 6,⟨2,.str,4,[[.i .i64 0,.i .i64 0,.i .i64 0,.i .i64 0]]⟩)],4⟩
end
structure Fq where
 C:List Ins
 W:List Nat
 P:List Nat
def ltQ(q:Fq)(c:List Nd):Fq:=let r:=exQ q.P q.C q.W c;⟨r.C,r.W,q.P++[(r.s[0]?).getD 0]⟩
def Zpr(L:List (List Nd)):Fq:=L.foldl ltQ ⟨[],[],[]⟩
def ouQ(Ls:List Nat)(q:Fq)(c:List Nd):Fq:=let r:=exQ Ls q.C q.W c;⟨r.C,r.W,q.P++[(r.s[0]?).getD 0]⟩
def Zps(q:Fq)(O:List (List Nd)):Fq:=O.foldl (ouQ q.P) ⟨q.C,q.W,[]⟩
def z8g(Ls:List Nat)(C:List Ins)(W:List Nat)(c:List Nd):(exQ Ls C W c).C.length<=C.length+c.length/\(exQ Ls C W c).W.length=W.length+c.length:=by
 induction c using z9x with
 | nil=>exact⟨Yh _,rfl⟩
 | append_singleton c x ih=>
  rw[zug];have:=zzx Ls (exQ Ls C W c).C (exQ Ls C W c).s x;refine⟨?_,?_⟩
  ·show (ndI Ls (exQ Ls C W c).C (exQ Ls C W c).s x).1.length<=_;rw[Yp,Ybq];omega
  ·show ((exQ Ls C W c).W++[_]).length=_;rw[Yp,Yp,Ybq,Ybq,ih.2];omega
def Zos(f:Fd):Fq:=Zps (Zpr (f.lets.map (·.code))) f.outs
def Zr5(f:Fd)(pars:Int):Tp:=⟨(Zos f).C,(Zos f).P.map fun(n:Nat)=>(n:Int),f.outs.length,pars⟩
section
variable{T:Tbl}[Z9 T][Zbs T][Z2 T][Zr T][Zv T][Zw T][Zq T][Zo T][Ze T][Zh T][Zs T][Zbv T][Z0 T][Z5 T][Zbk T][Z7 T][Z3 T][Zak T][Zao T][Zax T][Zcs T]
def zvw:Z1 T 647 [] []=some (.ptr (.loc 3) 1 4 0 0,[(.loc 3,⟨1,.str,4,[[.sl [] .nl,.fnp 0 (.loc 1) 2 2 0 0,.sl [] .nl,.sl [] .nl]]⟩),(.loc 1,⟨2,.mp,2,[]⟩)]):=by
 rw[zad Zbs.h647 rfl,b647];simp -implicitDefEqProofs[Zae]
variable[Zi6 T][Za5 T][Zms T][Zj9 T]
end
end Go.Ab
section
namespace Go.Ab
end Go.Ab
end
namespace Go.Ab
def Zmz(C:List Ins)(N:Nat)(pars:Int)(v i:Nat):St:=
 ⟨[(6,.ptr (.loc 6) 1 4 0 0),(7,.ptr (.loc 7) 2 4 0 0),(10,.i .i64 (v:Int)),(11,.ptr (.loc 11) 3 4 0 0),(53,.i .i64 (N:Int)),(54,.i .i64 (i:Int))],
  [(.loc 6,⟨1,.str,4,[[.sl [] .an,.sl [] .an,.i .i64 0,.i .i64 0]]⟩),(.loc 7,⟨2,.str,4,[[.i .i64 0,.i .i64 0,.i .i64 0,.i .i64 0]]⟩),
   (.loc 11,⟨3,.str,4,[[.bs (.fld (.fld (.loc 42) 3) 0) 4 6 0 C.length,.bs (.fld (.loc 11) 1) 5 1 0 i,.i .i64 (N:Int),.i .i64 pars]]⟩),
   (.fld (.fld (.loc 42) 3) 0,⟨4,.own,6,Zcw C⟩),(.fld (.loc 11) 1,⟨5,.own,1,Zbw (List.replicate i v)⟩)],7⟩
section
variable{T:Tbl}[Z9 T][Zbs T][Z2 T][Zr T][Zv T][Zw T][Zq T][Zo T][Ze T][Zh T][Zs T][Zbv T][Z0 T][Z5 T][Zbk T][Z7 T][Z3 T][Zak T][Zao T][Zax T][Zcs T]
def zle(c:List Nd)(dim pars:Int)(hc:c.length<=300)(hd:¬ (1<=dim/\dim<=6/\0<=pars/\pars<=6)) :
  Za T 646 [.sl (Zl c) .an,.i .i64 dim,.i .i64 pars]=some (.tup [etp ⟨[],[],0,0⟩,Zjj 2 0 0 0]):=by
 rw[zaa Zbs.h646 rfl,b646];have hc':¬ (300:Int)<c.length:=by omega
 by_cases k1:dim<1
 ·simp -implicitDefEqProofs[k1]
 by_cases k2:6<dim
 ·simp -implicitDefEqProofs[k1,k2]
 by_cases k3:pars<0
 ·simp -implicitDefEqProofs[k1,k2,k3]
 by_cases k4:6<pars
 ·simp -implicitDefEqProofs[k1,k2,k3,k4]
 exact absurd ⟨by omega,by omega,by omega,by omega⟩ hd
def zm3(c:List Nd)(dim pars:Int)(hc:c.length<=300)(hn:thin 1000 c)(h1:1<=dim)(h2:dim<=6)(h3:0<=pars)(h4:pars<=6)(hp:0<=Za9 dim pars 0 c) :
  Za T 646 [.sl (Zl c) .an,.i .i64 dim,.i .i64 pars]=some (.tup [etp ⟨[],[],0,0⟩,Zjj 2 0 0 (Za9 dim pars 0 c)]):=by
 have cp:=zdv (T:=T) c dim pars 0 (by omega) (fun x hx=>hn x hx);have hc':¬ (300:Int)<c.length:=by omega
 have k1:¬ dim<1:=by omega
 have k2:¬ 6<dim:=by omega
 have k3:¬ pars<0:=by omega
 have k4:¬ 6<pars:=by omega
 generalize Za9 dim pars 0 c=p at *
 have k5:¬ p<0:=by omega
 rw[zaa Zbs.h646 rfl,b646];simp -implicitDefEqProofs[k1,k2,k3,k4,k5,hp,hc',cp]
def zrt(C:List Ins)(N:Nat)(pars:Int)(v:Nat)(hN:N<=1000) :
  Zx T 0 0 (.norm false [6,7,11]) l646_0 (Zmz C N pars v 0)=some (.n,⟨[(6,.ptr (.loc 6) 1 4 0 0),(7,.ptr (.loc 7) 2 4 0 0),(11,.ptr (.loc 11) 3 4 0 0)],
  [(.loc 6,⟨1,.str,4,[[.sl [] .an,.sl [] .an,.i .i64 0,.i .i64 0]]⟩),(.loc 7,⟨2,.str,4,[[.i .i64 0,.i .i64 0,.i .i64 0,.i .i64 0]]⟩),
   (.loc 11,⟨3,.str,4,[[.bs (.fld (.fld (.loc 42) 3) 0) 4 6 0 C.length,.bs (.fld (.loc 11) 1) 5 1 0 N,.i .i64 (N:Int),.i .i64 pars]]⟩),
   (.fld (.fld (.loc 42) 3) 0,⟨4,.own,6,Zcw C⟩),(.fld (.loc 11) 1,⟨5,.own,1,Zbw (List.replicate N v)⟩)],7⟩):=by
 refine zao (T:=T) (k:=0) (id:=0) (g2:=.norm false [6,7,11]) (c:=l646_0) (fun i=>Zmz C N pars v i) N _ (fun i hi=>?_) ?_
 ·have hlt':(i:Int)<(N:Int):=by omega
  have hws:=zbc hi (by omega);have hsQ:=zkl (List.replicate i v) v;rw[<-Ycw]at hsQ;have htkQ:(Zbw (List.replicate i v)).take i=Zbw (List.replicate i v):=Yc (by rw[zdu,Yak];exact Yh _);have hlQ:(Zbw (List.replicate i v)).length=i:=by rw[zdu,Yak]
  have h32:i+1<=4294967296:=by omega
  have hwk:wkL (Zbw (List.replicate (i+1) v))=Zbw (List.replicate (i+1) v):=by simp
  unfold Zmz;generalize Zbw (List.replicate i v)=Q at *
  generalize Zbw (List.replicate (i+1) v)=Q1 at *
  simp -implicitDefEqProofs[l646_0,hi,hlt',hws,hsQ,htkQ,hlQ,h32,hwk,Zae]
 ·unfold Zmz;constructor<;>simp -implicitDefEqProofs[l646_0,Zae]
def zzt(c:List Nd)(n:Nat)(pars:Int)(hc:c.length<=300)(hn:thin 1000 c)(h2:n+1<=6)(h3:0<=pars)(h4:pars<=6)(hp:Za9 (n+1:Nat) pars 0 c<0) :
  Za T 646 [.sl (Zl c) .an,.i .i64 (n+1:Nat),.i .i64 pars]=some (.tup [etp ⟨(exQ [] [] [] c).C,List.replicate (n+1) ((((exQ [] [] [] c).s[0]?).getD 0:Nat):Int),(n+1:Nat),pars⟩,Zjj 0 0 0 0]):=by
 have cp:=zdv (T:=T) c (n+1:Nat) pars 0 (by omega) (fun x hx=>hn x hx);obtain⟨t,ht,hte,hok⟩:=zcr hp;have hwr:Zcp c=-1:=by rw[<-hte];exact zet ht
 obtain⟨hs1,gc,hgc,ce⟩:=zzy (T:=T) [] [] [] c (fun y hy=>by cases hy) hwr (fun y hy ho=>by
   have:=zsq (hok y hy) ho;exact this) hn (by omega) (by decide) (by decide)
 have hb:=zvw (T:=T);have hc':¬ (300:Int)<c.length:=by omega
 have k1:¬ ((n+1:Nat):Int)<1:=by omega
 have k2:¬ 6<((n+1:Nat):Int):=by omega
 have k3:¬ pars<0:=by omega
 have k4:¬ 6<pars:=by omega
 have k5:¬ 0<=Za9 (n+1:Nat) pars 0 c:=by omega
 unfold cmH at ce;generalize Za9 (n+1:Nat) pars 0 c=p at *
 generalize (((exQ [] [] [] c).s[0]?).getD 0:Nat)=v at *
 generalize (exQ [] [] [] c).C=C at *
 generalize (exQ [] [] [] c).W=W at *
 have lo:=zrt (T:=T) C (n+1) pars v (by omega);have htC:(Zcw C).take C.length=Zcw C:=Yc (by rw[zsu];exact Yh _);have htQ:(Zbw (List.replicate (n+1) v)).take (n+1)=Zbw (List.replicate (n+1) v):=Yc (by rw[zdu,Yak];exact Yh _);have hwk:wkL (Zbw (List.replicate (n+1) v))=Zbw (List.replicate (n+1) v):=by simp
 have hlQ:(Zbw (List.replicate (n+1) v)).length=n+1:=by rw[zdu,Yak]
 have hiQ:ints (List.replicate (n+1) (v:Int))=Zbw (List.replicate (n+1) v):=by simp[ints,Zbw]
 unfold Zmz at lo;rw[Yci,show Zbw []=[] from rfl,show (((0:Nat):Int))=0 from rfl]at lo;dsimp only[etp];rw[hiQ];generalize Zbw (List.replicate (n+1) v)=Q at *
 generalize n+1=N at *
 clear hn hok hwr hs1 hp hiQ;simp -implicitDefEqProofs at ce;rw[zaa Zbs.h646 rfl,b646];rcases hgc with rfl | rfl
 ·simp -implicitDefEqProofs[k1,k2,k3,k4,k5,hc',cp,hb,ce,lo,htC,htQ,hwk,hlQ,Zae]
 ·simp -implicitDefEqProofs[k1,k2,k3,k4,k5,hc',cp,hb,ce,lo,htC,htQ,hwk,hlQ,Zae]
end
def scW:Nat->List Nat->Option Nat
 | n,[]=>some n
 | n,p::r=>if n<p then none else scW (if p=n then n+1 else n) r
structure InvC (dim par:Int) (C:List Ins) (W:List Nat):Prop where
 nd:C.Nodup
 may:∀(k:Nat) (i:Ins),C[k]? = some i->Zcj dim par k i=true
 sc:scW 0 W=some C.length
structure InvF (dim par:Int) (q:Fq):Prop where
 inv:InvC dim par q.C q.W
 pl:∀p∈q.P,p<q.C.length
def Znc(lim:Nat)(P:Po):Nat->List Rat->List (List Nd)->Nat×List Rat×Nat×Nat
 | n,ls,[]=>(n,ls,0,0)
 | n,ls,c::r=>if (Zam lim P ls n [] c).2.1≠0 then (n,ls,(Zam lim P ls n [] c).2.1,(Zam lim P ls n [] c).2.2) else Znc lim P (n+c.length) (ls++[(Zam lim P ls n [] c).1]) r
def Zo6(lim:Nat)(P:Po)(ls:List Rat):Nat->List Rat->List (List Nd)->List Rat×Nat×Nat
 | _,os,[]=>(os,0,0)
 | n,os,c::r=>if (Zam lim P ls n [] c).2.1≠0 then ([],(Zam lim P ls n [] c).2.1,(Zam lim P ls n [] c).2.2) else Zo6 lim P ls (n+c.length) (os++[(Zam lim P ls n [] c).1]) r
def evD(lim:Nat)(P:Po)(f:Fd):List Rat×Nat×Nat:=
 if (Znc lim P 0 [] (f.lets.map (·.code))).2.2.1≠0 then ([],(Znc lim P 0 [] (f.lets.map (·.code))).2.2) else Zo6 lim P (Znc lim P 0 [] (f.lets.map (·.code))).2.1 (Znc lim P 0 [] (f.lets.map (·.code))).1 [] f.outs
abbrev plV(D:List Rat)(p:Nat):Rat:=gI D (p:Int)
def z9y{D:List Rat}{p:Nat}{v:Rat}(h:D[p]? = some v):plV D p=v:=by
 show gI D (p:Int)=v;unfold gI;rw[Y0,Yq,h]
 rfl
theorem zup{lim:Nat}{P:Po}:∀(l:List Ins) (D:List Rat),(Zbb lim P l D).2.1=0->∀(k:Nat) (y:Ins),l[k]? = some y ->
  ∃A v E,(Zbb lim P l D).1=A++v::E/\A.length=D.length+k/\Zg P A y=(v,true)/\Zbl v<=lim
 | [],D,_,k,y,hk=>by cases hk
 | i::r,D,h,k,y,hk=>by
  rw[zb3]at h ⊢;by_cases h1:(Zg P D i).2=false
  ·rw[if_pos h1]at h;exact absurd h (by simp)
  ·rw[if_neg h1]at h ⊢;by_cases h2:lim<Zbl (Zg P D i).1
   ·rw[if_pos h2]at h;exact absurd h (by simp)
   ·rw[if_neg h2]at h ⊢;cases k with
    | zero=>
     obtain⟨_,E,e2,_⟩:=zh9 lim P r _ h;rw[Ybx,Option.some.injEq]at hk;subst hk;refine⟨D,(Zg P D i).1,E,?_,rfl,Prod.ext rfl (by simpa using h1),by omega⟩;rw[e2];simp
    | succ k=>
     rw[Ya7]at hk;obtain⟨A,v,E,a1,a2,a3,a4⟩:=zup r _ h k y hk;refine⟨A,v,E,a1,?_,a3,a4⟩;rw[a2,Yp,Ybq];omega
def z5b{lim:Nat}{P:Po}{C:List Ins}(h:(Zbb lim P C []).2.1=0):(Zbb lim P C []).1.length=C.length:=by
 obtain⟨_,E,e2,e3⟩:=zh9 lim P C [] h;rw[e2,Yal,e3]
def StQ(lim:Nat)(P:Po)(C:List Ins)(W:List Nat)(k n:Nat):Prop:=k≠0/\∃p,W[n]? = some p/\Zbb lim P C []=([],k,p)
def StQ.ext{lim:Nat}{P:Po}{C:List Ins}{W:List Nat}{k n:Nat}(h:StQ lim P C W k n)(E:List Ins)(F:List Nat):StQ lim P (C++E) (W++F) k n:=by
 obtain⟨h0,p,h1,h2⟩:=h;refine⟨h0,p,?_,?_⟩
 ·obtain⟨hl,_⟩:=Yb.1 h1;rw[Yl hl];exact h1
 ·rw[zk4,h2,if_neg h0]
def znv(C:List Ins)(x:Ins):∃E,(Zb9 C x).1=C++E:=by
 unfold Zb9;split
 ·exact⟨[],by simp⟩
 ·exact⟨[x],rfl⟩
def z9z(Ls:List Nat)(C:List Ins)(s:List Nat)(x:Nd):∃E,(ndI Ls C s x).1=C++E:=by
 unfold ndI;split
 ·exact⟨[],by simp⟩
 ·split
  ·exact znv C _
  ·split
   ·exact znv C _
   ·exact znv C _
theorem zi5{Ls:List Nat}:∀(c:List Nd) (q:Mq),∃E F,(c.foldl (Zaf Ls) q).C=q.C++E/\(c.foldl (Zaf Ls) q).W=q.W++F
 | [],q=>⟨[],[],by simp,by simp⟩
 | x::c,q=>by
  obtain⟨E,F,h1,h2⟩:=zi5 c (Zaf Ls q x);obtain⟨E0,h0⟩:=z9z Ls q.C q.s x;refine⟨E0++E,[(ndI Ls q.C q.s x).2]++F,?_,?_⟩
  ·rw[Ybg,h1];show (ndI Ls q.C q.s x).1++E=_;rw[h0,Yz]
  ·rw[Ybg,h2];show (q.W++[_])++F=_;rw[Yz]
class Znm (T:Tbl):Prop where
class Zmu (T:Tbl):Prop where
def lgN(l:List Nd)(many words:Nat):Bool:=decide (many<l.length) || (l.take many).any fun x=>decide (words<x.n.length)
def lgL(nodes words:Nat)(x:Lt):Bool:=decide (100<x.name.length) || lgN x.code nodes words
def lgF(f:Fd)(many nodes words:Nat):Bool:=decide (many<f.lets.length) || decide (many<f.outs.length) || f.lets.any (lgL nodes words) || f.outs.any fun c=>lgN c nodes words
section
variable{T:Tbl}[Zd9 T][Zmu T]
def Zs3(f:Fd)(nodes words i:Nat):St:=⟨[(2,.i .i64 nodes),(3,.i .i64 words),(4,.ptr (.loc 4) 1 2 0 0),(9,.i .i64 i)],[(.loc 4,⟨1,.str,2,[[.sl (Zf0 f.lets) .an,.sl (Za3 f.outs) .an]]⟩)],3⟩
def Zs4(f:Fd)(nodes words i:Nat):St:=⟨[(2,.i .i64 nodes),(3,.i .i64 words),(4,.ptr (.loc 4) 1 2 0 0),(10,.i .i64 i)],[(.loc 4,⟨1,.str,2,[[.sl (Zf0 f.lets) .an,.sl (Za3 f.outs) .an]]⟩)],3⟩
end
section
variable{T:Tbl}[Ze9 T][Zka T]
abbrev hpT(L:List Lt)(O:List (List Nd))(A:List Lt)(B:List (List Nd)):Heap:=
 [(.loc 1,⟨1,.str,2,[[.sl (Zf0 L) .an,.sl (Za3 O) .an]]⟩),(.loc 2,⟨2,.str,2,[[.sl [] .an,.sl [] .an]]⟩),
  (.loc 3,⟨3,.str,2,[[.bs ((BId.loc 3).fld 0) 4 2 0 A.length,.bs ((BId.loc 3).fld 1) 5 1 0 B.length]]⟩),((BId.loc 3).fld 0,⟨4,.own,2,Zf0 A⟩),((BId.loc 3).fld 1,⟨5,.own,1,Za3 B⟩)]
end
abbrev hpB(gk:Nat)(Q:PoF)(LS:List Fz)(s p L seen:Int)(F:List Fz)(m:Nat):Heap:=
 [(.bor 0,⟨0,.str,9,[[.b Q.t.1,.sl (Zb Q.t.2.1) .an,.sl (Zb Q.t.2.2) .an,.sl (Zc Q.y) .an,.sl (Zc Q.p) .an,.bs (.bor 1) 1 3 0 LS.length,.ptr (.bor 2) 2 3 0 0,.i .i64 seen,.bs (.bor 3) gk 3 0 m]]⟩),(.bor 1,⟨1,.own,3,Zc LS⟩),(.bor 2,bxG 2 s p L),(.bor 3,⟨gk,.own,3,Zc F⟩)]
abbrev Zpp(z:Fz):Box:=⟨9,.str,3,[[.b z.1,.sl (Zb z.2.1) .an,.sl (Zb z.2.2) .an]]⟩
abbrev Zpq(a b c d:Int):Box:=⟨10,.str,4,[[.i .i64 a,.i .i64 b,.i .i64 c,.i .i64 d]]⟩
abbrev hqB(gk:Nat)(Q:PoF)(LS:List Fz)(s p L seen:Int)(F:List Fz)(m:Nat)(z:Fz)(a b c d:Int):Heap:=
 [(.bor 0,⟨0,.str,9,[[.b Q.t.1,.sl (Zb Q.t.2.1) .an,.sl (Zb Q.t.2.2) .an,.sl (Zc Q.y) .an,.sl (Zc Q.p) .an,.bs (.bor 1) 1 3 0 LS.length,.ptr (.bor 2) 2 3 0 0,.i .i64 seen,.bs (.bor 3) gk 3 0 m]]⟩),(.bor 1,⟨1,.own,3,Zc LS⟩),(.bor 2,bxG 2 s p L),(.bor 3,⟨gk,.own,3,Zc F⟩),(.loc 4,Zpp z),(.loc 5,Zpq a b c d)]
def Zr2(gk:Nat)(Q:PoF)(LS:List Fz)(s p L seen:Int)(F:List Fz)(m:Nat)(code:List Nd)(i:Nat):St:=
 ⟨[(0,wP),(4,.ptr (.loc 4) 9 3 0 0),(5,.ptr (.loc 5) 10 4 0 0),(18,.sl (Zl code) .an),(19,.i .i64 code.length),(20,.i .i64 i)],hqB gk Q LS s p L seen F m (false,[],[]) 0 0 0 0,12⟩
def Zop(gk:Nat)(Q:PoF)(LS:List Fz)(s p L seen:Int)(F:List Fz)(m:Nat):Ex×St:=
 (.n,⟨[(0,wP),(4,.ptr (.loc 4) 9 3 0 0),(5,.ptr (.loc 5) 10 4 0 0)],hqB gk Q LS s p L seen F m (false,[],[]) 0 0 0 0,12⟩)
def Zoq(gk:Nat)(Q:PoF)(LS:List Fz)(s p L seen:Int)(F:List Fz)(m:Nat)(kind at_:Int):Ex×St:=
 (.r,⟨[(4,.ptr (.loc 4) 9 3 0 0),(5,.ptr (.loc 5) 10 4 0 0)],hqB gk Q LS s p L seen F m (fz 0) kind 0 0 at_,12⟩)
section
variable{T:Tbl}[Z2 T][Zr T][Zv T][Zw T][Zq T][Zo T][Ze T][Zh T][Zs T][Zbv T][Z0 T][Z5 T][Zbk T][Z7 T][Z3 T][Zak T][Zao T][Zax T][Z9 T][Zcs T]
def Zqt(P:Po)(lim:Nat)(ls:List Rat)(n:Nat)(R:Rat×Nat×Nat)(r:Ex×St):Prop:=
 (R.2.1=0/\∃gk s p F,(gk=3\/gk=8)/\F[0]? = some (fz R.1)/\F.length<=5000/\r=Zop gk P.f (fzs ls) s p lim n F 1) \/
 (R.2.1≠0/\∃gk s p seen F m,(gk=3\/gk=8)/\r=Zoq gk P.f (fzs ls) s p lim seen F m R.2.1 R.2.2)
end
end Go.Ab
section
namespace Go.Ab
end Go.Ab
end
namespace Go.Ab
section
variable{T:Tbl}[Z2 T][Zr T][Zv T][Zw T][Zq T][Zo T][Ze T][Zh T][Zs T][Zbv T][Z0 T][Z5 T][Zbk T][Z7 T][Z3 T][Zak T][Zao T][Zax T][Z9 T][Zcs T][Zi6 T][Za5 T][Zms T][Zj9 T]
abbrev hpE(f:Fd)(gk:Nat)(Q:PoF)(LS:List Fz)(s p L seen:Int)(F:List Fz)(m:Nat):Heap:=
 [(.loc 3,Zof 1 f),(.loc 7,⟨2,.str,4,[[.i .i64 0,.i .i64 0,.i .i64 0,.i .i64 0]]⟩),
  (.loc 36,⟨3,.str,9,[[.b Q.t.1,.sl (Zb Q.t.2.1) .an,.sl (Zb Q.t.2.2) .an,.sl (Zc Q.y) .an,.sl (Zc Q.p) .an,.bs ((BId.loc 36).fld 5) 4 3 0 LS.length,.ptr ((BId.loc 34).fld 7) 5 3 0 0,.i .i64 seen,.bs ((BId.loc 36).fld 8) gk 3 0 m]]⟩),
  ((BId.loc 36).fld 5,⟨4,.own,3,Zc LS⟩),((BId.loc 34).fld 7,bxG 5 s p L),((BId.loc 36).fld 8,⟨gk,.own,3,Zc F⟩)]
def Zr7(f:Fd)(Q:PoF)(LS:List Fz)(s p L seen:Int)(F:List Fz)(m i:Nat):St:=
 ⟨[(3,.ptr (.loc 3) 1 2 0 0),(7,.ptr (.loc 7) 2 4 0 0),(9,.ptr (.loc 36) 3 9 0 0),(38,.sl (Zf0 f.lets) .an),(39,.i .i64 f.lets.length),(40,.i .i64 i)],hpE f 6 Q LS s p L seen F m,8⟩
def Zqq(f:Fd)(Q:PoF)(LS:List Fz)(s p L seen:Int)(F:List Fz)(m:Nat):Ex×St:=
 (.n,⟨[(3,.ptr (.loc 3) 1 2 0 0),(7,.ptr (.loc 7) 2 4 0 0),(9,.ptr (.loc 36) 3 9 0 0)],hpE f 6 Q LS s p L seen F m,8⟩)
def Zqr(kind at_:Int):Ex×St:=
 (.r,⟨[(6,.sl [] .an),(7,.ptr (.loc 7) 1 4 0 0)],[(.loc 7,⟨1,.str,4,[[.i .i64 kind,.i .i64 0,.i .i64 0,.i .i64 at_]]⟩)],3⟩)
abbrev hpO(gk:Nat)(Q:PoF)(LS:List Fz)(s p L seen:Int)(F:List Fz)(m:Nat)(OS:List Fz):Heap:=
 [(.loc 7,⟨1,.str,4,[[.i .i64 0,.i .i64 0,.i .i64 0,.i .i64 0]]⟩),
  (.loc 36,⟨2,.str,9,[[.b Q.t.1,.sl (Zb Q.t.2.1) .an,.sl (Zb Q.t.2.2) .an,.sl (Zc Q.y) .an,.sl (Zc Q.p) .an,.bs ((BId.loc 36).fld 5) 3 3 0 LS.length,.ptr ((BId.loc 34).fld 7) 4 3 0 0,.i .i64 seen,.bs ((BId.loc 36).fld 8) gk 3 0 m]]⟩),
  ((BId.loc 36).fld 5,⟨3,.own,3,Zc LS⟩),((BId.loc 34).fld 7,bxG 4 s p L),((BId.loc 36).fld 8,⟨gk,.own,3,Zc F⟩),(.loc 14,⟨6,.own,3,Zc OS⟩)]
def Zr8(O:List (List Nd))(Q:PoF)(LS:List Fz)(s p L seen:Int)(F:List Fz)(m:Nat)(OS:List Fz)(i:Nat):St:=
 ⟨[(7,.ptr (.loc 7) 1 4 0 0),(9,.ptr (.loc 36) 2 9 0 0),(14,.bs (.loc 14) 6 3 0 OS.length),(67,.sl (Za3 O) .an),(68,.i .i64 O.length),(69,.i .i64 i)],hpO 5 Q LS s p L seen F m OS,8⟩
def Zqs(OS:List Fz):Ex×St:=
 (.n,⟨[(7,.ptr (.loc 7) 1 4 0 0),(14,.bs (.loc 14) 2 3 0 OS.length)],[(.loc 7,⟨1,.str,4,[[.i .i64 0,.i .i64 0,.i .i64 0,.i .i64 0]]⟩),(.loc 14,⟨2,.own,3,Zc OS⟩)],4⟩)
end
def Zot(l:List (List Nd)):Nat:=(l.map List.length).sum
@[simp] def zae3(c:List Nd)(l:List (List Nd)):Zot (c::l)=c.length+Zot l:=rfl
end Go.Ab
section
namespace Go.Ab
end Go.Ab
end
namespace Go.Ab
def z0e(x:Nd)(hn:x.n.length<=2):fsz (Zba x).n<=1000:=by
 unfold Zba;split
 ·have h1:=z5x x.n;have h2:(fz ((val x.n:Nat):Rat)).2.2=[1]:=by
   unfold fz;simp
   decide +kernel
  show fsz (fz ((val x.n:Nat):Rat))<=1000;unfold fsz;rw[h2];simp only[Yg,Yab];omega
 ·split
  ·show fsz blk<=1000
   decide
  ·show fsz blk<=1000
   decide
def zr5{C:List Ins}{x:Ins}(hC:∀y∈C,fsz y.n<=1000)(hx:fsz x.n<=1000):∀y∈(Zb9 C x).1,fsz y.n<=1000:=by
 unfold Zb9;split
 ·exact hC
 ·intro y hy;rcases Y6.1 hy with h | h
  ·exact hC y h
  ·rw[Yr]at h;rw[h];exact hx
def zae8{Ls:List Nat}{C:List Ins}{s:List Nat}{x:Nd}(hC:∀y∈C,fsz y.n<=1000)(hn:x.n.length<=2):∀y∈(ndI Ls C s x).1,fsz y.n<=1000:=by
 have hb:fsz blk<=1000:=by decide
 unfold ndI;split
 ·exact hC
 ·split
  ·exact zr5 hC (z0e x hn)
  ·split
   ·exact zr5 hC hb
   ·exact zr5 hC hb
theorem z50{Ls:List Nat}:∀(c:List Nd) (q:Mq),(∀y∈q.C,fsz y.n<=1000)->thin 2 c->∀y∈(c.foldl (Zaf Ls) q).C,fsz y.n<=1000
 | [],q,h,_=>h
 | x::c,q,h,hl=>z50 c (Zaf Ls q x) (zae8 h (hl x Yv)) fun y hy=>hl y (Yk _ hy)
section
variable{T:Tbl}[Z9 T][Zbs T][Z2 T][Zr T][Zv T][Zw T][Zq T][Zo T][Ze T][Zh T][Zs T][Zbv T][Z0 T][Z5 T][Zbk T][Z7 T][Z3 T][Zak T][Zao T][Zax T][Zcs T][Zi6 T][Za5 T][Zms T][Zj9 T][Zd9 T][Zmu T][Ze9 T][Zka T]
 [Zbf T] [Zgd T] [Zaj T] [Zb8 T] [Zb1 T] [Zb2 T] [Zbm T] [Zb3 T] [Zc7 T] [Zdf T] [Zc0 T] [Zc1 T] [Zd6 T] [Zd7 T] [Zd8 T] [Zod T] [Znm T]
end
def dul(P B:Po):Tre->Rat×Rat
 | .leaf x=>(Zca P [] x,Zd B [] [] (Zba x) 0)
 | .un x a=>((unV x (dul P B a).1).1,Zd B [(dul P B a).1] [(dul P B a).2] ⟨x.op,0,x.i,blk⟩ (unV x (dul P B a).1).1)
 | .bin x a b=>((biV x.op (dul P B a).1 (dul P B b).1).1,Zd B [(dul P B a).1,(dul P B b).1] [(dul P B a).2,(dul P B b).2] ⟨x.op,0,1,blk⟩ (biV x.op (dul P B a).1 (dul P B b).1).1)
theorem zfw{P B:Po}:∀{t:Tre} {v:Rat},Ze1 P [] t=some v->(dul P B t).1=v
 | .leaf x,v,h=>Option.some.inj h
 | .un x a,v,h=>by
  simp only[Ze1,Yf]at h;obtain⟨u,h1,h2⟩:=h;have ih:=zfw (B:=B) h1;split at h2
  ·cases h2;show (unV x (dul P B a).1).1=_;rw[ih]
  ·cases h2
 | .bin x a b,v,h=>by
  simp only[Ze1,Yf]at h;obtain⟨u,h1,w,h2,h3⟩:=h;have iha:=zfw (B:=B) h1;have ihb:=zfw (B:=B) h2;split at h3
  ·cases h3;show (biV x.op (dul P B a).1 (dul P B b).1).1=_;rw[iha,ihb]
  ·cases h3
def Zgk(P:Po)(yl pl:Int)(l:List Nd)(w:Rat):Prop:=(l=[]/\w=0)\/∃d,Fine P yl pl d w/\d.flat=l
section
variable{P:Po}{yl pl:Int}
def Zgk.nil{w:Rat}(h:Zgk P yl pl [] w):w=0:=by
 rcases h with h | ⟨d,_,h⟩
 ·exact h.2
 ·exact absurd h d.flat_ne
def Zgk.ne{l:List Nd}{w:Rat}(h:Zgk P yl pl l w)(hl:l≠[]):∃d,Fine P yl pl d w/\d.flat=l:=by
 rcases h with h | h
 ·exact absurd h.1 hl
 ·exact h
def zfx{op:Int}(ho:7<=op/\op<=10){a b:Tre}{u w:Rat}(ha:Fine P yl pl a u)(hb:Fine P yl pl b w)(h10:op=10->w≠0):Zgk P yl pl (Zt op [a.flat,b.flat]) (biV op u w).1:=
 .inr ⟨_,zeo ho ha hb h10,by simp[Tre.flat,Zt]⟩
def zuq{a:Tre}{u:Rat}(ha:Fine P yl pl a u):Zgk P yl pl (Zt 6 [a.flat]) (-u):=
 .inr ⟨_,zui ha,by simp[Tre.flat,Zt]⟩
def zhf{op:Int}(ho:op=7\/op=8){a b:List Nd}{u w:Rat}(ha:Zgk P yl pl a u)(hb:Zgk P yl pl b w):Zgk P yl pl (Zeu op a b) (biV op u w).1:=by
 unfold Zeu;split
 ·next h1=>
  subst h1;rw[hb.nil];have:(biV op u 0).1=u:=by rcases ho with rfl | rfl<;>simp[biV]<;>grind
  rw[this];exact ha
 ·next h1=>
  obtain⟨d,hd,rfl⟩:=hb.ne h1;split
  ·next h2=>
   obtain⟨e,he,rfl⟩:=ha.ne h2;exact zfx (by omega) he hd (by omega)
  ·next h2=>
   have h2:a=[]:=Classical.byContradiction h2;subst h2;rw[ha.nil];split
   ·next h8=>
    subst h8;have:(biV 8 0 w).1=-w:=by simp[biV];grind
    rw[this];exact zuq hd
   ·next h8=>
    have h7:op=7:=by omega
    subst h7;have:(biV 7 0 w).1=w:=by simp[biV];grind
    rw[this];exact hb
def zmm{op:Int}(ho:op=9\/op=10){d:List Nd}{o:Tre}{u w:Rat}(hd:Zgk P yl pl d u)(hw:Fine P yl pl o w)(h10:op=10->w≠0):Zgk P yl pl (Zaa op d o.flat true) (biV op u w).1:=by
 unfold Zaa;split
 ·next h1=>
  subst h1;rw[hd.nil];refine .inl ⟨rfl,?_⟩;rcases ho with rfl | rfl
  ·simp[biV,Ydf]
  ·simp[biV,Ycj,Ydf]
 ·next h1=>
  obtain⟨e,he,rfl⟩:=hd.ne h1;exact zfx (by omega) he hw h10
def zk2{d:List Nd}{o:Tre}{u w:Rat}(hd:Zgk P yl pl d u)(hw:Fine P yl pl o w):Zgk P yl pl (Zaa 9 d o.flat false) (w*u):=by
 unfold Zaa;split
 ·next h1=>
  subst h1;rw[hd.nil,Rat.mul_zero];exact .inl ⟨rfl,rfl⟩
 ·next h1=>
  obtain⟨e,he,rfl⟩:=hd.ne h1;exact zfx (op:=9) (by decide) hw he (fun h=>by cases h)
def znx(k:Nat)(h:k<10):∃t,Fine P yl pl t (k:Rat)/\t.flat=kNd (k:Int):=by
 refine⟨.leaf ⟨1,0,if (k:Int)=0 then [] else [w32 (k:Int).toNat]⟩,⟨rfl,zaoz yl pl k h,?_⟩,rfl⟩;show some (Zca P [] ⟨1,0,if (k:Int)=0 then [] else [w32 (k:Int).toNat]⟩)=some (k:Rat);have:val (if (k:Int)=0 then [] else [w32 (k:Int).toNat])=k:=by
  split
  ·next h0=>rw[zb0];omega
  ·rw[zaq,zb0,zba];omega
 simp only[Zca,if_pos,this]
theorem derW(B:Po)(u:Nd):∀(t:Tre) (v:Rat),Fine P yl pl t v->(∀x∈t.flat,arN x.op=0->Zd B [] [] (Zba x) 0=if x.op=u.op/\x.i=u.i then 1 else 0)->Zgk P yl pl (t.der u) (dul P B t).2
 | .leaf x,v,h,hB=>by
  have e:(dul P B (.leaf x)).2=if x.op=u.op/\x.i=u.i then 1 else 0:=hB x (by simp[Tre.flat]) h.ok
  rw[e];unfold Tre.der;split
  ·obtain⟨t,h1,h2⟩:=znx (P:=P) (yl:=yl) (pl:=pl) 1 (by decide);exact .inr ⟨t,h1,h2⟩
  ·exact .inl ⟨rfl,rfl⟩
 | .un x a,v,h,hB=>by
  have hv:=h.v;simp only[Ze1,Yf]at hv;obtain⟨va,h1,h2⟩:=hv;have hok:(unV x va).2=true:=by
   split at h2
   ·assumption
   ·cases h2
  have ha:Fine P yl pl a va:=⟨h.ok.2,fun y hy=>h.nd y (by simp[Tre.flat,hy]),h1⟩;have ih:=derW B u a va ha fun y hy=>hB y (by simp[Tre.flat,hy]);have hn:=zz0 (h.nd x (by simp[Tre.flat]));have hop:x.op=6\/x.op=11:=by
   have:=h.ok.1;rcases zax x.op with ⟨e,h⟩ | ⟨e,h⟩ | ⟨e,h⟩ | ⟨e,h⟩<;>omega
  have e:(dul P B (.un x a)).2=Zd B [va] [(dul P B a).2] ⟨x.op,0,x.i,blk⟩ (unV x va).1:=by
   show Zd B [(dul P B a).1] [(dul P B a).2] ⟨x.op,0,x.i,blk⟩ (unV x (dul P B a).1).1=_;rw[zfw (B:=B) h1]
  rw[e];clear e;generalize (dul P B a).2=da at *
  show Zgk P yl pl (Zgv x a.flat (a.der u)) _;rcases hop with h6 | h11
  ·have e:Zd B [va] [da] ⟨x.op,0,x.i,blk⟩ (unV x va).1=-da:=by simp[Zd,h6,gI]
   rw[e];unfold Zgv;split
   ·next hc=>
    have hz:a.der u=[]:=by
     rcases hc with hc | hc
     ·exact hc
     ·omega
    rw[hz]at ih;rw[ih.nil];exact .inl ⟨rfl,by grind⟩
   ·next hc=>
    obtain⟨d,hd,hf⟩:=ih.ne fun hh=>hc (.inl hh);rw[<-hf];exact zuq hd
  ·have hu:unV x va=Zeh va x.i:=by unfold unV;rw[if_neg (by omega)]
   have hp:Zeh va x.i=(Zbp va x.i,true):=by
    rw[hu]at hok;unfold Zeh at hok ⊢;split at hok
    ·next h7=>rw[if_pos h7]
    ·cases hok
   have e:Zd B [va] [da] ⟨x.op,0,x.i,blk⟩ (unV x va).1=x.i*(if 0<x.i then Zbp va (x.i-1) else if x.i<0 then Zbp va x.i/va else 0)*da:=by
    rw[hu,hp];simp[Zd,h11,gI,Zd0]
   rw[e];clear e;have hi:=hn.2 h11;unfold Zgv;split
   ·next hc=>
    refine .inl ⟨rfl,?_⟩;rcases hc with hc | hc
    ·rw[hc]at ih;rw[ih.nil,Rat.mul_zero]
    ·rw[hc.2];simp[Ydf]
   ·next hc=>
    obtain⟨d,hd,hf⟩:=ih.ne fun hh=>hc (.inl hh);have hi0:x.i≠0:=fun hh=>hc (.inr ⟨h11,hh⟩);split
    ·next h=>omega
    rw[<-hf];split
    ·next hp=>
     have e1:(x.i.toNat:Int)=x.i:=by omega
     obtain⟨kt,hk,hkf⟩:=znx (P:=P) (yl:=yl) (pl:=pl) x.i.toNat (by omega);have e2:((x.i.toNat:Nat):Rat)=(x.i:Rat):=by
      have:=congrArg (fun z:Int=>(z:Rat)) e1;exact this
     rw[e1]at hkf;rw[e2]at hk;have hpw:=zuj (e:=x.i-1) ha (by omega) (fun hh=>by omega);have h3:=zeo (op:=9) (by decide) hk hpw (fun hh=>by cases hh);have h4:=zeo (op:=9) (by decide) h3 hd (fun hh=>by cases hh);exact .inr ⟨_,h4,by simp[Tre.flat,Zt,hkf,Zc4]⟩
    ·next hp=>
     have e1:((-x.i).toNat:Int)=-x.i:=by omega
     have hva:va≠0:=by
      intro hh;rw[hu]at hok;unfold Zeh at hok;split at hok
      ·next h7=>exact h7.2.2 ⟨by omega,hh⟩
      ·cases hok
     obtain⟨kt,hk,hkf⟩:=znx (P:=P) (yl:=yl) (pl:=pl) (-x.i).toNat (by omega);have e2:(((-x.i).toNat:Nat):Rat)=-(x.i:Rat):=by
      have:=congrArg (fun z:Int=>(z:Rat)) e1;exact this.trans (Rat.intCast_neg _)
     rw[e1]at hkf;rw[e2]at hk;have hpw:=zuj (e:=x.i) ha (by omega) (fun _=>hva);have h3:=zeo (op:=9) (by decide) hk hpw (fun hh=>by cases hh);have h4:=zeo (op:=9) (by decide) h3 hd (fun hh=>by cases hh);have h5:=zui (zeo (op:=10) (by decide) h4 ha (fun _=>hva));have e3:(x.i:Rat)*(if x.i<0 then Zbp va x.i/va else 0)*da=-(biV 10 (biV 9 (biV 9 (-(x.i:Rat)) (Zbp va x.i)).1 da).1 va).1:=by
      rw[if_pos (by omega)];simp only[biV,Ycj,Int.reduceEq,if_false,if_true]
      grind
     rw[e3];exact .inr ⟨_,h5,by simp[Tre.flat,Zt,hkf,Zc4]⟩
 | .bin x a b,v,h,hB=>by
  have hv:=h.v;simp only[Ze1,Yf]at hv;obtain⟨va,h1,vb,h2,h3⟩:=hv;have hok:(biV x.op va vb).2=true:=by
   split at h3
   ·assumption
   ·cases h3
  have ha:Fine P yl pl a va:=⟨h.ok.2.1,fun y hy=>h.nd y (by simp[Tre.flat,hy]),h1⟩;have hb:Fine P yl pl b vb:=⟨h.ok.2.2,fun y hy=>h.nd y (by simp[Tre.flat,hy]),h2⟩;have iha:=derW B u a va ha fun y hy=>hB y (by simp[Tre.flat,hy]);have ihb:=derW B u b vb hb fun y hy=>hB y (by simp[Tre.flat,hy]);have e:(dul P B (.bin x a b)).2=Zd B [va,vb] [(dul P B a).2,(dul P B b).2] ⟨x.op,0,1,blk⟩ (biV x.op va vb).1:=by
   show Zd B [(dul P B a).1,(dul P B b).1] [(dul P B a).2,(dul P B b).2] ⟨x.op,0,1,blk⟩ (biV x.op (dul P B a).1 (dul P B b).1).1=_;rw[zfw (B:=B) h1,zfw (B:=B) h2]
  rw[e];clear e;generalize (dul P B a).2=da at *
  generalize (dul P B b).2=db at *
  show Zgk P yl pl (Zha x.op a.flat (a.der u) b.flat (b.der u)) _;have hop:x.op=7\/x.op=8\/x.op=9\/x.op=10:=by
   have:=h.ok.1;rcases zax x.op with ⟨e,h⟩ | ⟨e,h⟩ | ⟨e,h⟩ | ⟨e,h⟩<;>omega
  unfold Zha;rcases hop with e | e | e | e
  ·rw[if_neg (by omega),if_neg (by omega)];have e2:Zd B [va,vb] [da,db] ⟨x.op,0,1,blk⟩ (biV x.op va vb).1=(biV x.op da db).1:=by simp[Zd,e,gI,biV]
   rw[e2];exact zhf (.inl e) iha ihb
  ·rw[if_neg (by omega),if_neg (by omega)];have e2:Zd B [va,vb] [da,db] ⟨x.op,0,1,blk⟩ (biV x.op va vb).1=(biV x.op da db).1:=by simp[Zd,e,gI,biV]
   rw[e2];exact zhf (.inr e) iha ihb
  ·rw[if_pos e];have e2:Zd B [va,vb] [da,db] ⟨x.op,0,1,blk⟩ (biV x.op va vb).1=(biV 7 (biV 9 da vb).1 (va*db)).1:=by simp[Zd,e,gI,biV]
   rw[e2];exact zhf (.inl rfl) (zmm (.inl rfl) iha hb (fun hh=>by cases hh)) (zk2 ihb ha)
  ·rw[if_neg (by omega),if_pos e];have hvb:vb≠0:=by
    rw[e]at hok;simpa[biV]using hok
   have e2:Zd B [va,vb] [da,db] ⟨x.op,0,1,blk⟩ (biV x.op va vb).1=(biV 8 (biV 10 da vb).1 (biV 10 (va*db) (vb*vb)).1).1:=by
    simp only[Zd,e,gI,biV,Ycj,Int.reduceEq,if_false,if_true,Rat.inv_mul_rev,List.getD_cons_zero,List.getD_cons_succ,Int.toNat_zero,Int.toNat_one]
    grind
   rw[e2];refine zhf (.inr rfl) (zmm (.inr rfl) iha hb (fun _=>hvb)) ?_;unfold Zim;have h5:=zk2 ihb ha;split
   ·next hz=>
    rw[hz]at h5;rw[h5.nil];exact .inl ⟨rfl,by simp[biV,Ycj,Ydf]⟩
   ·next hz=>
    obtain⟨d,hd,hf⟩:=h5.ne hz;have h6:=zeo (op:=9) (by decide) hb hb (fun hh=>by cases hh);have h7:=zfx (op:=10) (by decide) hd h6 (fun _=>by
     show vb*vb≠0;exact fun hh=>by rcases Rat.mul_eq_zero.1 hh with h | h<;>exact hvb h)
    rw[hf]at h7;have e3:(Tre.bin ⟨9,0,[]⟩ b b).flat=Zt 9 [b.flat,b.flat]:=by simp[Tre.flat,Zt]
    rw[e3]at h7;exact h7
end
structure Sol (P B:Po) (C:List Ins) (V S:List Rat):Prop where
 v:∀(k:Nat) (x:Ins),C[k]? = some x->Zg P V x=(gI V (k:Nat),true)
 s:∀(k:Nat) (x:Ins),C[k]? = some x->gI S (k:Nat)=Zd B V S x (gI V (k:Nat))
def zst(C:List Ins)(x:Ins):(Zb9 C x).1[(Zb9 C x).2]? = some x:=by
 unfold Zb9;cases h:Zjg x 0 C with
 | none=>simp
 | some i=>exact(zsl x C 0 i h).2.2
def unI{P:Po}{V:List Rat}{x:Nd}{dim par:Int}{p:Nat}(h0:x.op=6\/x.op=11)(hok:okN dim par 0 x=true):Zg P V ⟨x.op,(p:Int),x.i,blk⟩=unV x (gI V (p:Nat)):=by
 unfold unV;rcases h0 with e | e
 ·simp[Zg,e]
 ·have hi:=(zz0 hok).2 e;unfold Zeh;by_cases hz:x.i<0/\gI V (p:Nat)=0
  ·rw[e,if_neg (by decide),if_neg (fun hh=>hh.2.2 hz)];simp[Zg,hz]
  ·rw[e,if_neg (by decide),if_pos ⟨hi.1,hi.2,hz⟩];simp only[Zg];rw[if_neg (by decide),if_neg (by decide),if_neg (by decide),if_neg (by decide),if_neg (by decide),if_neg (by decide),if_neg (by decide),if_neg (by decide),if_pos trivial,if_neg hz]
def z90{P:Po}{V:List Rat}{x:Nd}(h:1<=x.op/\x.op<=4):Zg P V (Zba x)=(Zca P [] x,true):=by
 unfold Zba Zca;by_cases h1:x.op=1
 ·rw[if_pos h1,if_pos h1];simp[Zg]
 ·rw[if_neg h1,if_neg h1];by_cases h2:x.op=2
  ·rw[if_pos h2];simp[Zg,h2]
  ·rw[if_neg h2];have h34:x.op=3\/x.op=4:=by omega
   rcases h34 with e | e<;>simp[Zg,e]
def z91{B:Po}{V S:List Rat}{x:Nd}(h:1<=x.op/\x.op<=4)(v:Rat):Zd B V S (Zba x) v=Zd B [] [] (Zba x) 0:=by
 unfold Zba;have:x.op=1\/x.op=2\/x.op=3\/x.op=4:=by omega
 rcases this with e | e | e | e<;>simp[Zd,e]
def znw{dim par:Int}{x:Nd}(h:okN dim par 0 x=true)(h0:arN x.op=0):1<=x.op/\x.op<=4:=by
 have h5:x.op≠5:=by
  intro h5;unfold okN at h;simp only[h5,Zgl]at h;revert h;split<;>simp;omega
 rcases zax x.op with ⟨e,h⟩ | ⟨e,h⟩ | ⟨e,h⟩ | ⟨e,h⟩<;>omega
theorem zk1{P B:Po}{Cf:List Ins}{V S:List Rat}(hS:Sol P B Cf V S){dim par:Int}:∀(t:Tre) (q:Mq),t.ok->(∀x∈t.flat,okN dim par 0 x=true)->(∃F,Cf=(t.flat.foldl (Zaf []) q).C++F) ->
  ∃p:Nat,(t.flat.foldl (Zaf []) q).s=q.s++[p]/\Ze1 P [] t=some (gI V (p:Nat))/\dul P B t=(gI V (p:Nat),gI S (p:Nat))
 | .leaf x,q,ht,hok,⟨F,hF⟩=>by
  have hx:=znw (hok x (by simp[Tre.flat])) ht;have e1:([x].foldl (Zaf []) q)=⟨(Zb9 q.C (Zba x)).1,q.W++[(Zb9 q.C (Zba x)).2],q.s++[(Zb9 q.C (Zba x)).2]⟩:=by
   have e2:ndI [] q.C q.s x=Zb9 q.C (Zba x):=by
    unfold ndI;rw[if_neg (by omega),if_pos (show arN x.op=0 from ht)]
   show Zaf [] q x=_;unfold Zaf;rw[e2,show arN x.op=0 from ht];simp
  have hF':Cf=([x].foldl (Zaf []) q).C++F:=hF;show ∃p:Nat,([x].foldl (Zaf []) q).s=_/\_;rw[e1]at hF' ⊢;refine⟨(Zb9 q.C (Zba x)).2,rfl,?_⟩;have hg:Cf[(Zb9 q.C (Zba x)).2]? = some (Zba x):=by
   have:=zst q.C (Zba x);rw[hF',Yl (Yb.1 this).1];exact this
  generalize (Zb9 q.C (Zba x)).2=p at *
  have h1:=hS.v p _ hg;have h2:=hS.s p _ hg;rw[z90 hx]at h1;rw[z91 hx]at h2;have h3:Zca P [] x=gI V (p:Nat):=congrArg Prod.fst h1;refine⟨congrArg some h3,?_⟩;rw[dul,h3,h2]
 | .un x a,q,ht,hok,⟨F,hF⟩=>by
  have e0:(Tre.un x a).flat=a.flat++[x]:=rfl;rw[e0,Ydc]at hF ⊢;have hop:x.op=6\/x.op=11:=by
   have:=ht.1;rcases zax x.op with ⟨e,h⟩ | ⟨e,h⟩ | ⟨e,h⟩ | ⟨e,h⟩<;>omega
  obtain⟨E,_,hE,_⟩:=zi5 (Ls:=[]) [x] (a.flat.foldl (Zaf []) q);obtain⟨pa,a1,a2,a3⟩:=zk1 hS a q ht.2 (fun y hy=>hok y (by simp[Tre.flat,hy])) ⟨E++F,by rw[hF,hE,Yz]⟩;generalize a.flat.foldl (Zaf []) q=qa at *
  have e1:([x].foldl (Zaf []) qa)=⟨(Zb9 qa.C ⟨x.op,(pa:Int),x.i,blk⟩).1,qa.W++[(Zb9 qa.C ⟨x.op,(pa:Int),x.i,blk⟩).2],q.s++[(Zb9 qa.C ⟨x.op,(pa:Int),x.i,blk⟩).2]⟩:=by
   have e2:ndI [] qa.C qa.s x=Zb9 qa.C ⟨x.op,(pa:Int),x.i,blk⟩:=by
    unfold ndI;rw[if_neg (by omega),if_neg (by have:=ht.1;omega),if_pos ht.1,a1];simp
   show Zaf [] qa x=_;unfold Zaf;rw[e2,show arN x.op=1 from ht.1,a1];simp
  rw[e1]at hF ⊢;refine⟨(Zb9 qa.C ⟨x.op,(pa:Int),x.i,blk⟩).2,rfl,?_⟩;have hg:Cf[(Zb9 qa.C ⟨x.op,(pa:Int),x.i,blk⟩).2]? = some ⟨x.op,(pa:Int),x.i,blk⟩:=by
   have:=zst qa.C ⟨x.op,(pa:Int),x.i,blk⟩;rw[hF,Yl (Yb.1 this).1];exact this
  generalize (Zb9 qa.C ⟨x.op,(pa:Int),x.i,blk⟩).2=p at *
  have h1:=hS.v p _ hg;have h2:=hS.s p _ hg;rw[unI hop (hok x (by simp[Tre.flat]))]at h1;have h3:(unV x (gI V (pa:Nat))).1=gI V (p:Nat):=congrArg Prod.fst h1;have h4:(unV x (gI V (pa:Nat))).2=true:=congrArg Prod.snd h1;refine⟨?_,?_⟩
  ·rw[Ze1,a2,Y5,if_pos h4,h3]
  ·rw[dul,a3,h3,h2];refine Prod.ext rfl ?_;dsimp only;rcases hop with e | e<;>simp[Zd,e,Zd0]<;>simp[gI]
 | .bin x a b,q,ht,hok,⟨F,hF⟩=>by
  have e0:(Tre.bin x a b).flat=a.flat++(b.flat++[x]):=rfl;rw[e0,Ydc,Ydc]at hF ⊢;have hop:x.op=7\/x.op=8\/x.op=9\/x.op=10:=by
   have:=ht.1;rcases zax x.op with ⟨e,h⟩ | ⟨e,h⟩ | ⟨e,h⟩ | ⟨e,h⟩<;>omega
  obtain⟨E,_,hE,_⟩:=zi5 (Ls:=[]) [x] (b.flat.foldl (Zaf []) (a.flat.foldl (Zaf []) q));obtain⟨E',_,hE',_⟩:=zi5 (Ls:=[]) b.flat (a.flat.foldl (Zaf []) q);obtain⟨pb,b1,b2,b3⟩:=zk1 hS b (a.flat.foldl (Zaf []) q) ht.2.2 (fun y hy=>hok y (by simp[Tre.flat,hy])) ⟨E++F,by rw[hF,hE,Yz]⟩;obtain⟨pa,a1,a2,a3⟩:=zk1 hS a q ht.2.1 (fun y hy=>hok y (by simp[Tre.flat,hy])) ⟨E'++(E++F),by rw[hF,hE,hE'];simp only[Yz]⟩;generalize a.flat.foldl (Zaf []) q=qa at *
  generalize b.flat.foldl (Zaf []) qa=qb at *
  rw[a1]at b1;have e1:([x].foldl (Zaf []) qb)=⟨(Zb9 qb.C ⟨x.op,(pa:Int),(pb:Int),blk⟩).1,qb.W++[(Zb9 qb.C ⟨x.op,(pa:Int),(pb:Int),blk⟩).2],q.s++[(Zb9 qb.C ⟨x.op,(pa:Int),(pb:Int),blk⟩).2]⟩:=by
   have e2:ndI [] qb.C qb.s x=Zb9 qb.C ⟨x.op,(pa:Int),(pb:Int),blk⟩:=by
    unfold ndI;rw[if_neg (by omega),if_neg (by have:=ht.1;omega),if_neg (by have:=ht.1;omega),b1];simp
   show Zaf [] qb x=_;unfold Zaf;rw[e2,show arN x.op=2 from ht.1,b1];simp
  rw[e1]at hF ⊢;refine⟨(Zb9 qb.C ⟨x.op,(pa:Int),(pb:Int),blk⟩).2,rfl,?_⟩;have hg:Cf[(Zb9 qb.C ⟨x.op,(pa:Int),(pb:Int),blk⟩).2]? = some ⟨x.op,(pa:Int),(pb:Int),blk⟩:=by
   have:=zst qb.C ⟨x.op,(pa:Int),(pb:Int),blk⟩;rw[hF,Yl (Yb.1 this).1];exact this
  generalize (Zb9 qb.C ⟨x.op,(pa:Int),(pb:Int),blk⟩).2=p at *
  have h1:=hS.v p _ hg;have h2:=hS.s p _ hg;have hb:Zg P V ⟨x.op,(pa:Int),(pb:Int),blk⟩=biV x.op (gI V (pa:Nat)) (gI V (pb:Nat)):=by
   rcases hop with e | e | e | e<;>simp[Zg,biV,e]
  rw[hb]at h1;have h3:(biV x.op (gI V (pa:Nat)) (gI V (pb:Nat))).1=gI V (p:Nat):=congrArg Prod.fst h1;have h4:(biV x.op (gI V (pa:Nat)) (gI V (pb:Nat))).2=true:=congrArg Prod.snd h1;refine⟨?_,?_⟩
  ·rw[Ze1,a2,b2,Y5,Y5,if_pos h4,h3]
  ·rw[dul,a3,b3,h3,h2];refine Prod.ext rfl ?_;dsimp only;rcases hop with e | e | e | e<;>simp[Zd,e]<;>simp[gI]
theorem zml(B:Po)(V:List Rat){dim par:Int}:∀(l:List Ins) (S:List Rat),S.length+l.length<=V.length->(∀(k:Nat) (x:Ins),l[k]? = some x->Zcj dim par (S.length+k:Nat) x=true) ->
  ∃S',Zio B V l S=S++S'/\∀(k:Nat) (x:Ins),l[k]? = some x->gI (S++S') (S.length+k:Nat)=Zd B V (S++S') x (gI V (S.length+k:Nat))
 | [],S,_,_=>⟨[],by simp[Zio],fun k x hx=>by simp at hx⟩
 | i::r,S,hl,hm=>by
  rw[Yg]at hl;obtain⟨S',e1,e2⟩:=zml B V r (S++[Zd B V S i (gI V S.length)]) (by simp;omega) (fun k x hx=>by
   have:=hm (k+1) x (by simpa using hx);rw[Yp,Yg,Yab]
   rwa [show S.length+(0+1)+k=S.length+(k+1) by omega])
  have hm0:=hm 0 i rfl;rw[Yaj]at hm0;refine⟨Zd B V S i (gI V S.length)::S',?_,?_⟩
  ·rw[Zio,e1];simp
  ·intro k x hx;have a2:S++Zd B V S i (gI V S.length)::S'=(S++[Zd B V S i (gI V S.length)])++S':=by simp
   cases k with
   | zero=>
    have hx':i=x:=by simpa using hx
    subst hx';have tk:V=V.take S.length++V.drop S.length:=(Yaw _ _).symm;have hlt:(V.take S.length).length=S.length:=by rw[Yae];omega
    have key:∀E,Zd B V (S++E) i (gI V S.length)=Zd B V S i (gI V S.length):=fun E=>by
     have k1:=zh8 hm0 B hlt rfl (C:=V.drop S.length) (E:=E) (gI V S.length);have k2:=zh8 hm0 B hlt rfl (C:=V.drop S.length) (E:=[]) (gI V S.length);rw[<-tk]at k1 k2;rw[Yau]at k2;rw[k1,k2]
    rw[Yaj,key,a2,zqp (by omega) (by simp;omega),zsr]
   | succ k=>
    have:=e2 k x (by simpa using hx);rw[Yp,Yg,Yab,show S.length+(0+1)+k=S.length+(k+1) by omega]at this;rw[a2];exact this
def z6i{lim:Nat}{P:Po}{C:List Ins}{dim par:Int}(hm:∀(k:Nat) (x:Ins),C[k]? = some x->Zcj dim par (k:Nat) x=true)(hr:(Zbb lim P C []).2.1=0)(B:Po):∃S,Sol P B C (Zbb lim P C []).1 S:=by
 have hl:=z5b hr;obtain⟨S',e1,e2⟩:=zml B (Zbb lim P C []).1 (dim:=dim) (par:=par) C [] (by simp[hl]) (fun k x hx=>by
  rw[Yab,Yad];exact hm k x hx)
 rw[Yal]at e2;refine⟨S',fun k x hx=>?_,fun k x hx=>?_⟩
 ·obtain⟨A,v,E,a1,a2,a3,_⟩:=zup C [] hr k x hx;rw[Yab,Yad]at a2;have hg:gI (Zbb lim P C []).1 (k:Nat)=v:=z9y (by
   rw[a1,Yi (by omega),a2];simp)
  rw[hg,a1,z49 (hm k x hx) P a2,a3]
 ·have:=e2 k x hx
  rwa [Yab,Yad]at this
def z5c{lim:Nat}{t:Tp}{P B:Po}{w S:List Rat}(hok:OkTp t)(hy:(B.y.length:Int)=t.dim)(hp:(B.p.length:Int)=t.par)(hS:Sol P B t.code (Za8 lim t P).1 S)(h2:(Zb4 lim t P w).2.1=0):dotW w (t.outs.map (gI S))=meet (Zb4 lim t P w).1 B:=by
 have hw:w.length=t.outs.length/\(Zb4 lim t P w).1=(Zg1 t.code (Za8 lim t P).1 t.code.length (Zds t.outs w (List.replicate t.code.length 0)) (Za7 t.dim.toNat t.par.toNat)).2:=by
  unfold Zb4 at h2 ⊢;by_cases g1:w.length≠t.outs.length
  ·rw[if_pos g1]at h2;cases h2
  ·rw[if_neg g1]at h2 ⊢;by_cases g2:(Za8 lim t P).2.1≠0
   ·rw[if_pos g2]at h2;exact absurd h2 g2
   ·rw[if_neg g2]at h2 ⊢;have hb:=zsj lim t.code (Za8 lim t P).1 t.code.length (Zds t.outs w (List.replicate t.code.length 0)) (Za7 t.dim.toNat t.par.toNat);generalize Zet lim t.code (Za8 lim t P).1 t.code.length (Zds t.outs w (List.replicate t.code.length 0)) (Za7 t.dim.toNat t.par.toNat)=R at *
    obtain⟨s,o⟩:=R;cases o with
    | some i=>cases h2
    | none=>
     dsimp only at h2 hb ⊢;cases hf:Zc2 lim (Zh2 s.2) 0 with
     | some k=>rw[hf]at h2;cases h2
     | none=>exact⟨by omega,by rw[hb rfl]⟩
 rw[hw.2,zqr (dim:=t.dim) (par:=t.par) t.code (Za8 lim t P).1 S B (by omega) (by omega) hok.may hS.s t.code.length _ _ (Yh _) (by simp) (by simp[Za7];omega) (by simp[Za7];omega),
  zqt _ t.code.length _ _ _ (by simp) hw.1.symm hok.outs,zqs]
 have z:∀(m:Nat) (l:List Rat),dotW (List.replicate m 0) l=0:=by
  intro m
  induction m with
  | zero=>intro l;rfl
  | succ m ih=>
   intro l;cases l with
   | nil=>rfl
   | cons a l=>rw[Ya6,dotW,ih l];grind
 simp only[meet,Za7,z]
 grind
def zao1{n m k:Nat}(hn:n<=300)(hm:m<=300)(hk:k<n){x:Nd}(hx:okN (n:Nat) (m:Nat) 0 x=true)(h0:arN x.op=0):Zd (Zea n m (k+1)).v [] [] (Zba x) 0=if x.op=3/\x.i=(k:Nat) then 1 else 0:=by
 have ho:=znw hx h0;have e:(Zea n m (k+1)).v=⟨fv ((false,[],[]):Fz),(List.replicate n 0).set k 1,List.replicate m 0⟩:=by
  unfold Zea PoF.v;rw[if_neg (by omega),if_pos (by omega)];dsimp only;rw[zp7,Ya9,zbi,show (((k+1:Nat):Int)-1)=(k:Nat) by omega,ze9 hk hn]
 rw[e,z4l];unfold Zba;have:x.op=1\/x.op=2\/x.op=3\/x.op=4:=by omega
 rcases this with e | e | e | e
 ·simp[Zd,e]
 ·simp[Zd,e]
 ·have hi:0<=x.i/\x.i<n:=by
   unfold okN at hx;simp[e,Zgl]at hx;omega
  obtain⟨j,hj⟩:∃j:Nat,x.i=j:=⟨x.i.toNat,by omega⟩;have hj2:j<n:=by omega
  simp only[e,hj];simp[Zd,gI,Yce,hk,hj2];by_cases hkj:k=j
  ·subst hkj;simp[hk]
  ·have:¬ j=k:=fun h=>hkj h.symm;simp[hkj,this,Yax,hj2];omega
 ·have hi:0<=x.i/\x.i<m:=by
   unfold okN at hx;simp[e,Zgl]at hx;omega
  obtain⟨j,hj⟩:∃j:Nat,x.i=j:=⟨x.i.toNat,by omega⟩;have hj2:j<m:=by omega
  simp only[e,hj];simp[Zd,gI,Yax,hj2]
def zao2{n m k:Nat}(hn:n<=300)(hm:m<=300)(hk:k<m){x:Nd}(hx:okN (n:Nat) (m:Nat) 0 x=true)(h0:arN x.op=0):Zd (Zea n m (1+n+k)).v [] [] (Zba x) 0=if x.op=4/\x.i=(k:Nat) then 1 else 0:=by
 have ho:=znw hx h0;have e:(Zea n m (1+n+k)).v=⟨fv ((false,[],[]):Fz),List.replicate n 0,(List.replicate m 0).set k 1⟩:=by
  unfold Zea PoF.v;rw[if_neg (by omega),if_neg (by omega)];dsimp only;rw[zp7,Ya9,zbi,show (((1+n+k:Nat):Int)-1-n)=(k:Nat) by omega,ze9 hk hm]
 rw[e,z4l];unfold Zba;have:x.op=1\/x.op=2\/x.op=3\/x.op=4:=by omega
 rcases this with e | e | e | e
 ·simp[Zd,e]
 ·simp[Zd,e]
 ·have hi:0<=x.i/\x.i<n:=by
   unfold okN at hx;simp[e,Zgl]at hx;omega
  obtain⟨j,hj⟩:∃j:Nat,x.i=j:=⟨x.i.toNat,by omega⟩;have hj2:j<n:=by omega
  simp only[e,hj];simp[Zd,gI,Yax,hj2]
 ·have hi:0<=x.i/\x.i<m:=by
   unfold okN at hx;simp[e,Zgl]at hx;omega
  obtain⟨j,hj⟩:∃j:Nat,x.i=j:=⟨x.i.toNat,by omega⟩;have hj2:j<m:=by omega
  simp only[e,hj];simp[Zd,gI,Yce,hk,hj2];by_cases hkj:k=j
  ·subst hkj;simp[hk]
  ·have:¬ j=k:=fun h=>hkj h.symm;simp[hkj,this,Yax,hj2];omega
def zaf9{P:Po}{yl pl:Int}{t:Tre}{u:Nd}{w:Rat}(h:Zgk P yl pl (t.der u) w):∃d,Fine P yl pl d w/\d.flat=Zdx u t:=by
 unfold Zdx;split
 ·next h0=>
  rw[h0]at h;rw[h.nil];obtain⟨d,h1,h2⟩:=znx (P:=P) (yl:=yl) (pl:=pl) 0 (by decide);exact⟨d,h1,h2⟩
 ·next h0=>exact h.ne h0
def tpC(c:List Nd)(n:Nat)(pars:Int):Tp:=⟨(exQ [] [] [] c).C,List.replicate n ((((exQ [] [] [] c).s[0]?).getD 0:Nat):Int),(n:Nat),pars⟩
def z5d{lim:Nat}{t:Tre}{x:PoF}(ht:t.ok)(hok:∀y∈t.flat,okN (x.y.length:Nat) (x.p.length:Nat) 0 y=true)(hk:(Zbz lim (tpC t.flat x.y.length x.p.length) x.v).2.1=0) :
  ∃v gy gp L M,Fine x.v x.y.length x.p.length t v/\(Zfz lim (tpC t.flat x.y.length x.p.length) x.v).y=fzs gy::L/\(Zfz lim (tpC t.flat x.y.length x.p.length) x.v).p=fzs gp::M/\gy.length=x.y.length/\gp.length=x.p.length /\
   (∀k,k<x.y.length->∃d,Fine x.v x.y.length x.p.length d (gI gy (k:Nat))/\d.flat=Zdx ⟨3,(k:Nat),[]⟩ t)/\(∀k,k<x.p.length->∃d,Fine x.v x.y.length x.p.length d (gI gp (k:Nat))/\d.flat=Zdx ⟨4,(k:Nat),[]⟩ t):=by
 obtain⟨r1,_,r3⟩:=zgc _ _ _ _ hk;generalize hT:tpC t.flat x.y.length x.p.length=T at *
 have hM:Zes T=(Zes T-1)+1:=by unfold Zes;omega
 have h0:=r3 0 (by omega);replace h0:(Zb4 lim T x.v (Zbo T.outs.length 0)).2.1=0:=h0;have htr:(Za8 lim T x.v).2.1=0:=by
  refine Classical.byContradiction fun h=>?_;unfold Zb4 at h0;by_cases h1:(Zbo T.outs.length 0).length≠T.outs.length
  ·rw[if_pos h1]at h0;cases h0
  ·rw[if_neg h1,if_pos h]at h0;exact h h0
 have hf:Zfu T x.v.y.length x.v.p.length=true:=by
  cases h:Zfu T x.v.y.length x.v.p.length with
  | true=>rfl
  | false=>
   unfold Za8 at htr;rw[h]at htr;cases htr
 obtain⟨okt,e1,e2⟩:=zc0 hf;have hn:x.v.y.length=x.y.length:=Y3 _;have hm:x.v.p.length=x.p.length:=Y3 _;have d1:=okt.d1;have d2:=okt.d2;have p2:=okt.p2;have ol:=okt.ol;have etp:Za8 lim T x.v=Zbb lim x.v T.code []:=by unfold Za8;rw[if_pos hf]
 have hrr:=htr;rw[etp]at hrr;obtain⟨_,l1,l2,_⟩:=zt0 h0;have hJ:Zfz lim T x.v=Zjl (Zbz lim T x.v).1:=by unfold Zfz;rw[if_pos hk]
 have hR:(Zbz lim T x.v).1=(Zb4 lim T x.v (Zbo T.outs.length 0)).1.f::(List.range (Zes T-1)).map fun k=>(Zfb lim T x.v (k+1)).1:=by
  have:(Zbz lim T x.v).1=[]++(List.range (Zes T)).map (fun k=>(Zfb lim T x.v (0+k)).1):=r1;rw[this,hM,Yej,Yal,Y9,Ybo,Nat.add_sub_cancel];refine congr (congrArg _ rfl) (Yds fun k _=>?_);show (Zfb lim T x.v (0+(k+1))).1=_;rw[Yad]
 have hp1:∀q,Fine x.v x.y.length x.p.length t q->∀(B:Po) (u:Nd),(B.y.length:Int)=T.dim->(B.p.length:Int)=T.par ->
   (∀y∈t.flat,arN y.op=0->Zd B [] [] (Zba y) 0=if y.op=u.op/\y.i=u.i then 1 else 0)->∃d,Fine x.v x.y.length x.p.length d (meet (Zb4 lim T x.v (Zbo T.outs.length 0)).1 B)/\d.flat=Zdx u t:=by
  intro q hq B u hB1 hB2 hB3;obtain⟨S,hS⟩:=z6i (lim:=lim) (P:=x.v) okt.may hrr B;have hS':Sol x.v B T.code (Za8 lim T x.v).1 S:=by rw[etp];exact hS
  have key:=z5c okt hB1 hB2 hS' h0;have hC:T.code=(t.flat.foldl (Zaf []) ⟨[],[],[]⟩).C:=by rw[<-hT];rfl
  obtain⟨p,s1,s2,s3⟩:=zk1 hS (dim:=x.y.length) (par:=x.p.length) t ⟨[],[],[]⟩ ht hok ⟨[],by rw[hC,Yau]⟩;have hO:T.outs=List.replicate x.y.length (p:Int):=by
   rw[<-hT];show List.replicate x.y.length ((((t.flat.foldl (Zaf []) ⟨[],[],[]⟩).s[0]?).getD 0:Nat):Int)=_;rw[s1]
   rfl
  have hol:T.outs.length=x.y.length:=by rw[hO,Yak]
  have hm0:dotW (Zbo T.outs.length 0) (T.outs.map (gI S))=gI S (p:Nat):=by
   have e:Zbo T.outs.length 0=(List.replicate T.outs.length 0).set 0 1:=ze9 (k:=0) (by omega) (by omega);rw[e,zqb,zg6 _ _ _ (Y3 _) (by omega),hO];unfold gI;rw[Ya9,Yq,Yax,if_pos (by show 0<_;omega)]
   rfl
  rw[<-key,hm0];have:=derW B u t q hq hB3;rw[s3]at this;exact zaf9 this
 obtain⟨S0,hS0⟩:=z6i (lim:=lim) (P:=x.v) okt.may hrr x.v;have hC:T.code=(t.flat.foldl (Zaf []) ⟨[],[],[]⟩).C:=by rw[<-hT];rfl
 obtain⟨p0,_,s2,_⟩:=zk1 hS0 (dim:=x.y.length) (par:=x.p.length) t ⟨[],[],[]⟩ ht hok ⟨[],by rw[hC,Yau]⟩;have hq:Fine x.v x.y.length x.p.length t _:=⟨ht,hok,s2⟩;have md:=z4m (Zb4 lim T x.v (Zbo T.outs.length 0)).1 x.y.length x.p.length (by omega) (by omega) (by omega) (by omega);refine⟨_,(Zb4 lim T x.v (Zbo T.outs.length 0)).1.y,(Zb4 lim T x.v (Zbo T.outs.length 0)).1.p,_,_,hq,by rw[hJ,hR];rfl,by rw[hJ,hR];rfl,by omega,by omega,fun k hk'=>?_,fun k hk'=>?_⟩
 ·rw[<-md.2.1 k hk'];have hdl:=znl (n:=x.y.length) (m:=x.p.length) (k+1) (by omega) (by omega);refine hp1 _ hq _ _ ?_ ?_ fun y hy h=>zao1 (by omega) (by omega) hk' (hok y hy) h
  ·show ((List.map fv _).length:Int)=_;rw[Y3,hdl.1];omega
  ·show ((List.map fv _).length:Int)=_;rw[Y3,hdl.2];omega
 ·rw[<-md.2.2 k hk'];have hdl:=znl (n:=x.y.length) (m:=x.p.length) (1+x.y.length+k) (by omega) (by omega);refine hp1 _ hq _ _ ?_ ?_ fun y hy h=>zao2 (by omega) (by omega) hk' (hok y hy) h
  ·show ((List.map fv _).length:Int)=_;rw[Y3,hdl.1];omega
  ·show ((List.map fv _).length:Int)=_;rw[Y3,hdl.2];omega
def Zkc(x:PoF)(J:JcF):List (BId×Box):=
 [(.loc 3,⟨1,.str,5,[Zl1 x]⟩),(.loc 6,⟨2,.str,5,[Zl1 x]⟩),(.loc 9,⟨3,.str,3,[[.sl (Zc J.t) .an,.sl (Z4 J.y) .an,.sl (Z4 J.p) .an]]⟩)]
def Zkv(x:PoF)(J:JcF)(Y Q:List (List Nd))(i:Nat):St:=
 ⟨[(3,.ptr (.loc 3) 1 5 0 0),(6,.ptr (.loc 6) 2 5 0 0),(9,.ptr (.loc 9) 3 3 0 0),(11,.sl [[.sl (Za3 Y) .an]] .an),(13,.sl [[.sl (Za3 Q) .an]] .an),(15,.i .i64 (i:Int))],Zkc x J,5⟩
def Zkw(x:PoF)(J:JcF)(Q:List (List Nd))(i:Nat):St:=
 ⟨[(3,.ptr (.loc 3) 1 5 0 0),(6,.ptr (.loc 6) 2 5 0 0),(9,.ptr (.loc 9) 3 3 0 0),(13,.sl [[.sl (Za3 Q) .an]] .an),(18,.i .i64 (i:Int))],Zkc x J,5⟩
section
variable{T:Tbl}[Z2 T][Zr T][Zv T][Zw T][Zq T][Zo T][Ze T][Zh T][Zs T][Zbv T][Z0 T][Z5 T][Zbk T][Z7 T][Z3 T][Zak T][Zao T][Zax T][Z9 T][Zcs T][Za4 T][Zde T]
def Zm5(T:Tbl)(x:PoF)(c:List Nd)(u:Fz):Prop:=
 ∃(z:Fz) (K A:Int),Za T 462 [.sl (Zl c) .an,ept x,.sl [] .an,.i .i64 3000]=some (.tup [efz z,Zjj K 0 0 A])/\((K=0/\z=u/\Za T 212 [efz u,efz u]=some (.b true))\/K=6)
def zr6(x:PoF)(jt:List Fz)(g:List Fz)(L M:List (List Fz))(Y Q:List (List Nd))(hN:x.y.length<=1000)(hY:Y.length=x.y.length)(hg:g.length=x.y.length)
  (he:∀(k:Nat) (c:List Nd) (u:Fz),Y[k]? = some c->g[k]? = some u->Zm5 T x c u) :
  Zx T 0 0 (.norm false [3,6,9,13]) l699_0 (Zkv x ⟨jt,g::L,M⟩ Y Q 0) =
  some (.n,⟨[(3,.ptr (.loc 3) 1 5 0 0),(6,.ptr (.loc 6) 2 5 0 0),(9,.ptr (.loc 9) 3 3 0 0),(13,.sl [[.sl (Za3 Q) .an]] .an)],Zkc x ⟨jt,g::L,M⟩,5⟩):=by
 refine zao (T:=T) (k:=0) (id:=0) (g2:=.norm false [3,6,9,13]) (c:=l699_0) (fun i=>Zkv x ⟨jt,g::L,M⟩ Y Q i) x.y.length _ (fun i hi=>?_) ?_
 ·have hi1:i<Y.length:=by omega
  have hi2:i<g.length:=by omega
  obtain⟨z,K,A,ev,hz⟩:=he i _ _ (Ya hi1) (Ya hi2);have hgY:Y[i]? = some (Y[i]'hi1):=Ya hi1;have hgg:g[i]? = some (g[i]'hi2):=Ya hi2;have hi':(i:Int)<x.y.length:=by omega
  have hi'':(i:Int)<Y.length:=by omega
  have hi3:(i:Int)<g.length:=by omega
  have hws:=zbc hi (by omega);generalize hc:Y[i]'hi1=c at *
  generalize hu:g[i]'hi2=u at *
  clear he;obtain⟨⟨x0,x1,x2⟩,xy,xp⟩:=x;obtain⟨u0,u1,u2⟩:=u;dsimp only at *
  unfold Zkv Zkc;rcases hz with ⟨rfl,rfl,sm⟩ | rfl
  ·by_cases hA:A=0
   ·subst hA;simp -implicitDefEqProofs[l699_0,hi,hi',hi1,hi2,hi'',hi3,hws,ev,sm,hgY,hgg,hc,hu,Zae]
   ·simp -implicitDefEqProofs[l699_0,hi,hi',hi1,hi2,hi'',hi3,hws,ev,sm,hgY,hgg,hc,hu,hA,Zae]
  ·obtain⟨z0,z1,z2⟩:=z;simp -implicitDefEqProofs[l699_0,hi,hi',hi1,hi2,hi'',hi3,hws,ev,hgY,hgg,hc,hu,Zae]
 ·obtain⟨⟨x0,x1,x2⟩,xy,xp⟩:=x;unfold Zkv Zkc;constructor<;>simp -implicitDefEqProofs[l699_0,Zae]
def zr7(x:PoF)(jt:List Fz)(g:List Fz)(L M:List (List Fz))(Q:List (List Nd))(hN:x.p.length<=1000)(hY:Q.length=x.p.length)(hg:g.length=x.p.length)
  (he:∀(k:Nat) (c:List Nd) (u:Fz),Q[k]? = some c->g[k]? = some u->Zm5 T x c u) :
  Zx T 0 2 (.norm false []) l699_1 (Zkw x ⟨jt,L,g::M⟩ Q 0)=some (.n,⟨[],[],2⟩):=by
 refine zao (T:=T) (k:=0) (id:=2) (g2:=.norm false []) (c:=l699_1) (fun i=>Zkw x ⟨jt,L,g::M⟩ Q i) x.p.length _ (fun i hi=>?_) ?_
 ·have hi1:i<Q.length:=by omega
  have hi2:i<g.length:=by omega
  obtain⟨z,K,A,ev,hz⟩:=he i _ _ (Ya hi1) (Ya hi2);have hgY:Q[i]? = some (Q[i]'hi1):=Ya hi1;have hgg:g[i]? = some (g[i]'hi2):=Ya hi2;have hi':(i:Int)<x.p.length:=by omega
  have hi'':(i:Int)<Q.length:=by omega
  have hi3:(i:Int)<g.length:=by omega
  have hws:=zbc hi (by omega);generalize hc:Q[i]'hi1=c at *
  generalize hu:g[i]'hi2=u at *
  clear he;obtain⟨⟨x0,x1,x2⟩,xy,xp⟩:=x;obtain⟨u0,u1,u2⟩:=u;dsimp only at *
  unfold Zkw Zkc;rcases hz with ⟨rfl,rfl,sm⟩ | rfl
  ·by_cases hA:A=0
   ·subst hA;simp -implicitDefEqProofs[l699_1,hi,hi',hi1,hi2,hi'',hi3,hws,ev,sm,hgY,hgg,hc,hu,Zae]
   ·simp -implicitDefEqProofs[l699_1,hi,hi',hi1,hi2,hi'',hi3,hws,ev,sm,hgY,hgg,hc,hu,hA,Zae]
  ·obtain⟨z0,z1,z2⟩:=z;simp -implicitDefEqProofs[l699_1,hi,hi',hi1,hi2,hi'',hi3,hws,ev,hgY,hgg,hc,hu,Zae]
 ·obtain⟨⟨x0,x1,x2⟩,xy,xp⟩:=x;unfold Zkw Zkc;constructor<;>simp -implicitDefEqProofs[l699_1,Zae]
def znb(t:Tre)(w:Rat)(x:PoF)(bits:Int)(hx:PoS x 1000)(hf:Fine x.v x.y.length x.p.length t w)(hl:t.flat.length<=3000)(hn:thin 1000 t.flat) :
  ∃(z:Fz) (K A:Int),Za T 462 [.sl (Zl t.flat) .an,ept x,.sl [] .an,.i .i64 bits]=some (.tup [efz z,Zjj K 0 0 A])/\((K=0/\z=fz w/\sz w<=129)\/K=6):=by
 have h:=zk8 hf.ok hf.nd;have c:=zpn (T:=T) t.flat x [] bits hx (by decide) (by simp) hl hn (by show Za9 x.y.length x.p.length 0 t.flat<0;rw[h];decide);have hm:([]:List Fz).map fv=[]:=rfl;rw[hm,z10 _ _ _ _ hf.ok]at c;refine⟨_,_,_,c,?_⟩;rcases zi4 (Zgs bits).toNat x.v [] t 0 with hk | hk | hk
 ·left;have hv:=z9o hf.v hk;refine⟨by rw[hk];rfl,by rw[hv],?_⟩;have:=(z6a hk).2;rw[hv]at this;exact z6b (zl4 bits).2 this
 ·exact absurd hk (znq hf.v)
 ·right;rw[hk];rfl
end
def zae9{a b:Nat}{x:Nd}(ha:a<=6)(hb:b<=6)(h:okN (a:Nat) (b:Nat) 0 x=true):okN 6 6 0 x=true:=by
 unfold okN at h ⊢;simp only[Zgl]at h ⊢;revert h
 repeat' split
 all_goals simp
 all_goals omega
section
variable{T:Tbl}[Z2 T][Zr T][Zv T][Zw T][Zq T][Zo T][Ze T][Zh T][Zs T][Zbv T][Z0 T][Z5 T][Zbk T][Z7 T][Z3 T][Zak T][Zao T][Zax T][Z9 T][Zcs T][Za4 T][Zbs T][Zbf T][Zgd T][Zaj T][Za5 T][Zb8 T][Zer T][Zai T][Z6 T][Zfm T][Zdl T][Zal T][Ze7 T][Ze8 T]
 [Zd9 T] [Zb1 T] [Zb2 T] [Zbm T] [Zb3 T] [Zc7 T] [Zdf T] [Zc0 T] [Zc1 T] [Ze9 T] [Zd6 T] [Zd7 T] [Zka T] [Zd8 T] [Zin T] [Zi5 T] [Zde T]
def zhv(c:List Nd)(x:PoF)(t:Tp)(J:JcF)(e1 e4 k s a:Int)(R1 R2:List (List AV))(b1 b2:Bool)
  (cl:Za T 10 [.sl (Zl c) .an,.i .i64 10,.i .i64 1]=some (.b false)) (cl2:Za T 380 [ept x,.i .i64 4,.i .i64 1]=some (.b false))
  (t1:Za T 13 [.sl (Zl c) .an]=some (.sl (Zl c) .an)) (t3:Za T 383 [ept x]=some (ept x))
  (cc:Za T 646 [.sl (Zl c) .an,.i .i64 x.y.length,.i .i64 x.p.length]=some (.tup [etp t,Zjj e1 0 0 e4]))
  (sr:Za T 403 [etp t,ept x,.i .i64 3000]=some (.tup [Zla J,Zdg k 0 s a]))
  (d1:Za T 700 [.sl [[.sl (Zl c) .an]] .an,.i .i64 3,.i .i64 x.y.length]=some (.tup [.sl R1 .an,.b b1]))
  (d2:Za T 700 [.sl [[.sl (Zl c) .an]] .an,.i .i64 4,.i .i64 x.p.length]=some (.tup [.sl R2 .an,.b b2]))
  (h:¬ e1=0\/(e1=0/\e4=0/\¬ k=0)):Za T 699 [.sl (Zl c) .an,ept x]=some (.b true):=by
 have hw:=zgb (T:=T);obtain⟨code,outs,dim,par⟩:=t;obtain⟨⟨x0,x1,x2⟩,xy,xp⟩:=x;obtain⟨jt,jy,jp⟩:=J;dsimp only at *
 rw[zaa Zde.h699 rfl,b699];rcases h with h | ⟨rfl,rfl,h⟩
 ·simp -implicitDefEqProofs[hw,cl,cl2,t1,t3,cc,sr,d1,d2,h,Zae]
 ·simp -implicitDefEqProofs[hw,cl,cl2,t1,t3,cc,sr,d1,d2,h,Zae]
def z3s(c:List Nd)(x:PoF)(t:Tp)(jt gy gp:List Fz)(L M:List (List Fz))(Y Q:List (List Nd))
  (cl:Za T 10 [.sl (Zl c) .an,.i .i64 10,.i .i64 1]=some (.b false)) (cl2:Za T 380 [ept x,.i .i64 4,.i .i64 1]=some (.b false))
  (t1:Za T 13 [.sl (Zl c) .an]=some (.sl (Zl c) .an)) (t3:Za T 383 [ept x]=some (ept x))
  (cc:Za T 646 [.sl (Zl c) .an,.i .i64 x.y.length,.i .i64 x.p.length]=some (.tup [etp t,Zjj 0 0 0 0]))
  (sr:Za T 403 [etp t,ept x,.i .i64 3000]=some (.tup [Zla ⟨jt,gy::L,gp::M⟩,Zdg 0 0 0 0]))
  (d1:Za T 700 [.sl [[.sl (Zl c) .an]] .an,.i .i64 3,.i .i64 x.y.length]=some (.tup [.sl [[.sl (Za3 Y) .an]] .an,.b true]))
  (d2:Za T 700 [.sl [[.sl (Zl c) .an]] .an,.i .i64 4,.i .i64 x.p.length]=some (.tup [.sl [[.sl (Za3 Q) .an]] .an,.b true]))
  (hN:x.y.length<=1000) (hP:x.p.length<=1000) (hY:Y.length=x.y.length) (hQ:Q.length=x.p.length) (hy:gy.length=x.y.length) (hp:gp.length=x.p.length)
  (he:∀(k:Nat) (c:List Nd) (u:Fz),Y[k]? = some c->gy[k]? = some u->Zm5 T x c u) (he2:∀(k:Nat) (c:List Nd) (u:Fz),Q[k]? = some c->gp[k]? = some u->Zm5 T x c u) :
  Za T 699 [.sl (Zl c) .an,ept x]=some (.b true):=by
 have hw:=zgb (T:=T);have l1:=zr6 (T:=T) x jt gy L (gp::M) Y Q hN hY hy he;have l2:=zr7 (T:=T) x jt gp (gy::L) M Q hP hQ hp he2;clear he he2;unfold Zkv Zkc at l1;unfold Zkw Zkc at l2;rw[show (((0:Nat):Int))=0 from rfl]at l1 l2;obtain⟨code,outs,dim,par⟩:=t;obtain⟨⟨x0,x1,x2⟩,xy,xp⟩:=x;dsimp only at *
 rw[zaa Zde.h699 rfl,b699];have hL0:¬ ((L.length:Int)+1=0):=by omega
 have hM0:¬ ((M.length:Int)+1=0):=by omega
 simp -implicitDefEqProofs[hw,cl,cl2,t1,t3,cc,sr,d1,d2,l1,l2,hY,hQ,hy,hp,hL0,hM0,Zae]
def zr8(c:List Nd)(x:PoF):Za T 699 [.sl (Zl c) .an,ept x]=some (.b true):=by
 have hw:=zgb (T:=T);have cl:=zwq (T:=T) c 10 1 (.inr (by decide)) (by decide);have cl2:=zwd (T:=T) x 4 1 (by decide);simp only[Int.cast_ofNat_Int,Yc6]at cl cl2;cases hL:(decide (10<c.length) || (c.take 10).any fun x=>decide (1<x.n.length)) with
 | true=>
  rw[hL]at cl;obtain⟨⟨x0,x1,x2⟩,xy,xp⟩:=x;rw[zaa Zde.h699 rfl,b699];simp -implicitDefEqProofs[hw,cl,Zae]
 | false=>
 rw[hL]at cl;obtain⟨hlen,hth⟩:=zr3 hL;clear hL;have hthin:=zpt (b:=1000) (by decide) hth;cases hP:Zie x 4 1 with
 | true=>
  rw[hP]at cl2;obtain⟨⟨x0,x1,x2⟩,xy,xp⟩:=x;rw[zaa Zde.h699 rfl,b699];simp -implicitDefEqProofs[hw,cl,cl2,Zae]
 | false=>
 rw[hP]at cl2;have hx0:=zr4 hP (by decide);have hx:PoS x 1000:=⟨Ye hx0.t (by decide),fun u hu=>Ye (hx0.y u hu) (by decide),fun u hu=>Ye (hx0.p u hu) (by decide),hx0.yl,hx0.pl⟩;have lens:x.y.length<=4/\x.p.length<=4:=by
  unfold Zie at hP;simp only[Ycx]at hP;obtain⟨m3,_⟩:=zek hP.1.2;obtain⟨m4,_⟩:=zek hP.2;omega
 obtain⟨ly,lp⟩:=lens;clear hP hx0 hw;have t1:=z3q (T:=T) c (by omega);have t3:=z3r (T:=T) x hx.yl hx.pl;have hd:∀op:Int,op=3\/op=4->∀many:Nat,many<=6->∃R b,Za T 700 [.sl [[.sl (Zl c) .an]] .an,.i .i64 op,.i .i64 many]=some (.tup [.sl R .an,.b b]):=by
  intro op ho many hm;by_cases hpl:0<=Za9 6 6 0 c
  ·exact⟨_,_,zru (T:=T) c op many ho hm (by omega) hthin (.inr hpl)⟩
  ·obtain⟨t,ht,rfl,hok⟩:=zcr (show Za9 6 6 0 c<0 by omega);exact⟨_,_,zga (T:=T) t op many ho hm ht hok (by omega) hthin⟩
 have hlim:Zj 3000=3000:=by decide
 have s0:=zh3 (T:=T) ⟨[],[],0,0⟩ x 3000 ⟨⟨by simp,by simp,by simp,by decide,by decide⟩,by simp⟩ hx (by decide) (by decide);by_cases hy0:x.y.length=0
 ·obtain⟨R1,b1,d1⟩:=hd 3 (.inl rfl) x.y.length (by omega);obtain⟨R2,b2,d2⟩:=hd 4 (.inr rfl) x.p.length (by omega);have cc:=zle (T:=T) c x.y.length x.p.length (by omega) (by omega);exact zhv (T:=T) c x _ _ _ _ _ _ _ R1 R2 b1 b2 cl cl2 t1 t3 cc s0 d1 d2 (.inl (by decide))
 obtain⟨n,hn⟩:∃n:Nat,x.y.length=n+1:=⟨x.y.length-1,by omega⟩;by_cases hpl:0<=Za9 (x.y.length:Nat) (x.p.length:Nat) 0 c
 ·obtain⟨R1,b1,d1⟩:=hd 3 (.inl rfl) x.y.length (by omega);obtain⟨R2,b2,d2⟩:=hd 4 (.inr rfl) x.p.length (by omega);have cc:=zm3 (T:=T) c x.y.length x.p.length (by omega) hthin (by omega) (by omega) (by omega) (by omega) hpl;exact zhv (T:=T) c x _ _ _ _ _ _ _ R1 R2 b1 b2 cl cl2 t1 t3 cc s0 d1 d2 (.inl (by decide))
 have hpl':Za9 (x.y.length:Nat) (x.p.length:Nat) 0 c<0:=by omega
 have cc:=zzt (T:=T) c n x.p.length (by omega) hthin (by omega) (by omega) (by omega) (by rw[<-hn];exact hpl');rw[<-hn]at cc
 change Za T 646 _=some (.tup [etp (tpC c x.y.length x.p.length),_]) at cc
 obtain⟨t,ht,rfl,hnd⟩:=zcr hpl';have hok:∀y∈t.flat,okN 6 6 0 y=true:=fun y hy=>zae9 (by omega) (by omega) (hnd y hy);have hCl:=(z8g [] [] [] t.flat).1;rw[Yab,Yad]at hCl;have hfs:∀y∈(tpC t.flat x.y.length x.p.length).code,fsz y.n<=1000:=z50 t.flat ⟨[],[],[]⟩ (fun y hy=>by cases hy) (zpt (by decide) hth);have hT:TpS (tpC t.flat x.y.length x.p.length):=⟨⟨by show (exQ [] [] [] t.flat).C.length<=_;omega,by show (List.replicate _ _).length<=_;rw[Yak];omega,fun y hy=>Ye (hfs y hy) (by decide),by show -9223372036854775808<=((x.y.length:Nat):Int);omega,by show ((x.y.length:Nat):Int)<_;omega⟩,hfs⟩;have sr:=zh3 (T:=T) (tpC t.flat x.y.length x.p.length) x 3000 hT hx (by show (exQ [] [] [] t.flat).C.length<=_;omega) (by show (List.replicate _ _).length<=_;rw[Yak];omega);rw[hlim]at sr;have a1:=zga (T:=T) t 3 x.y.length (.inl rfl) (by omega) ht hok (by omega) hthin;have a2:=zga (T:=T) t 4 x.p.length (.inr rfl) (by omega) ht hok (by omega) hthin;by_cases hk:(Zbz 3000 (tpC t.flat x.y.length x.p.length) x.v).2.1=0
 ·have hk2:(Zbz 3000 (tpC t.flat x.y.length x.p.length) x.v).2.2=(0,0):=(zgc _ _ _ _ hk).2.1;obtain⟨v,gy,gp,L,M,hq,jy,jp,l1,l2,r1,r2⟩:=z5d ht hnd hk;rw[hk,hk2]at sr;have ev:∀(u:Nd) (w:Rat),(∃d,Fine x.v x.y.length x.p.length d w/\d.flat=Zdx u t)->Zm5 T x (Zdx u t) (fz w):=by
   intro u w hdw;obtain⟨d,hfd,hd⟩:=hdw;have ld:(Zdx u t).length<=1001:=by
    unfold Zdx;split
    ·rw[zmj];decide
    ·have h1:=zqj u t;have h2:t.flat.length*t.flat.length<=10*10:=Yby hlen hlen;omega
   obtain⟨z,K,A,ce,hz⟩:=znb (T:=T) d w x 3000 hx hfd (by rw[hd];omega) (by rw[hd];exact z0d hthin);rw[hd]at ce;refine⟨z,K,A,ce,?_⟩;rcases hz with ⟨h1,h2,h3⟩ | h1
   ·refine .inl ⟨h1,h2,?_⟩;have q3:=zpp (T:=T) (fz w) (fz w) (by rw[zar];omega) (by rw[zar];omega);simpa using q3
   ·exact .inr h1
  generalize Zfz 3000 (tpC t.flat x.y.length x.p.length) x.v=J at *
  obtain⟨jt,Jy,Jp⟩:=J;dsimp only at jy jp;subst jy jp;refine z3s (T:=T) t.flat x _ jt _ _ L M _ _ cl cl2 t1 t3 cc sr a1 a2 (by omega) (by omega) (by simp) (by simp) (by rw[zaf,l1]) (by rw[zaf,l2]) (fun k c u hc hu=>?_) (fun k c u hc hu=>?_)
  ·obtain⟨hk',_⟩:=Yb.1 hc;have hk':k<x.y.length:=by simpa using hk'
   rw[Yan,Ydq hk',Ybn,Option.some.injEq]at hc;have hg:(fzs gy)[k]? = some (fz (gI gy (k:Nat))):=by
    have hlt:k<gy.length:=by omega
    rw[zh0 (Ya hlt)];unfold gI;rw[Yq,Y0,Ya hlt]
    rfl
   rw[hg]at hu;cases hu;rw[<-hc];exact ev _ _ (r1 k hk')
  ·obtain⟨hk',_⟩:=Yb.1 hc;have hk':k<x.p.length:=by simpa using hk'
   rw[Yan,Ydq hk',Ybn,Option.some.injEq]at hc;have hg:(fzs gp)[k]? = some (fz (gI gp (k:Nat))):=by
    have hlt:k<gp.length:=by omega
    rw[zh0 (Ya hlt)];unfold gI;rw[Yq,Y0,Ya hlt]
    rfl
   rw[hg]at hu;cases hu;rw[<-hc];exact ev _ _ (r2 k hk')
 ·exact zhv (T:=T) t.flat x _ _ _ _ _ _ _ _ _ _ _ cl cl2 t1 t3 cc sr a1 a2 (.inr ⟨rfl,rfl,by omega⟩)
end
end Go.Ab