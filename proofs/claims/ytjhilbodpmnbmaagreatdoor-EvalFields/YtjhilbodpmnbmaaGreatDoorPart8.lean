/-
  A calculus of values, boxes and code, and what functions of the program compute, proved in it.
  Conditions: none beyond those that the theorems state. (Part 8.)
-/
import Derived.Test.YtjhilbodpmnbmaaGreatDoorPart7

set_option linter.unusedSectionVars false
set_option linter.unusedVariables false
set_option linter.unusedSimpArgs false
set_option linter.unnecessarySimpa false

namespace Go.Ab
def Zj7(q:Option (Int×Int×Int)):AV:=match q with
 | some (a,b,c)=>.tup [.b true,.agg [.i .i64 a,.i .i64 b,.i .i64 c]]
 | none=>.tup [.b false,.agg [.i .i64 0,.i .i64 0,.i .i64 0]]
theorem zzz{f:Fd}{dim pars:Int}{i:Nat}(h:i<f.lets.length) :
  Zf9 f dim pars i=if nameB (f.lets[i]'h).name=false∨twB (f.lets.take i) (f.lets[i]'h).name=true then some ((i:Int)+1,1,0) else if 0≤ptA dim pars i (f.lets[i]'h).code then some ((i:Int)+1,0,ptA dim pars i (f.lets[i]'h).code) else Zf9 f dim pars (i+1):=by
 have hd:f.lets.drop i=f.lets[i]'h::f.lets.drop (i+1):=Yd h;unfold Zf9;rw[if_pos h,hd,Zec];by_cases h1:nameB (f.lets[i]'h).name=false∨twB (f.lets.take i) (f.lets[i]'h).name=true
 ·rw[if_pos h1,if_pos h1]
 ·rw[if_neg h1,if_neg h1];by_cases h2:0≤ptA dim pars i (f.lets[i]'h).code
  ·rw[if_pos h2,if_pos h2]
  ·rw[if_neg h2,if_neg h2];by_cases h3:i+1<f.lets.length
   ·rw[if_pos h3]
   ·have e:i+1=f.lets.length:=by omega
    rw[if_neg h3,e,Y0,Zec,Ybn,Yae]
theorem zz0{f:Fd}{dim pars:Int}{i:Nat}(h:f.lets.length≤i)(h2:i-f.lets.length<f.outs.length) :
  Zf9 f dim pars i=if 0≤ptA dim pars f.lets.length (f.outs[i-f.lets.length]'h2) then some ((i:Int)+1,0,ptA dim pars f.lets.length (f.outs[i-f.lets.length]'h2)) else Zf9 f dim pars (i+1):=by
 have hd:f.outs.drop (i-f.lets.length)=f.outs[i-f.lets.length]'h2::f.outs.drop (i-f.lets.length+1):=Yd h2;unfold Zf9;have n1:¬ i<f.lets.length:=by omega
 have n2:¬ i+1<f.lets.length:=by omega
 rw[if_neg n1,hd,Ze0,if_neg n2];have e:((f.lets.length+(i-f.lets.length):Nat):Int)=i:=by omega
 have e2:i+1-f.lets.length=i-f.lets.length+1:=by omega
 rw[e,e2]
section
variable{T:Tbl}[Zx T][Zab T][Zw T][Z9 T][Zat T][Zah T][Zai T]
theorem zs2(f:Fd)(dim pars:Int)(h1:f.lets.length≤10)(ho:f.outs.length≤10)(hn:Zb4 1000 50000 f)(hs:∀x∈f.lets,x.name.length≤4000) :
  Ze T 0 0 (.norm false [7]) l469_1 (stQ f dim pars 0)=Zfm (Zf9 f dim pars 0):=by
 have hlen:(codesD f).length=f.lets.length+f.outs.length:=by unfold codesD;rw[Yk,Yaz]
 refine za4 (stQ f dim pars) (f.lets.length+f.outs.length) (fun i=>Zfm (Zf9 f dim pars i)) (fun i hi=>?_) ?_
 ·by_cases h:i<f.lets.length
  ·rw[zzz h];rcases zwz (T:=T) f dim pars i h h1 ho hn hs with ⟨g1,g2,g3⟩ | ⟨g1,g2⟩ | ⟨g1,g2,g3⟩
   ·left;rw[if_neg g1,if_neg (by omega)];exact⟨g3,rfl⟩
   ·right;rw[if_pos g1];exact g2
   ·right;rw[if_neg g1,if_pos g2];exact g3
  ·have h2:i-f.lets.length<f.outs.length:=by omega
   rw[zz0 (by omega) h2];rcases zwy (T:=T) f dim pars i (by omega) h2 h1 ho hn with ⟨g1,g2⟩ | ⟨g1,g2⟩
   ·left;rw[if_neg (by omega)];exact⟨g2,rfl⟩
   ·right;rw[if_pos g1];exact g2
 ·have e:Zf9 f dim pars (f.lets.length+f.outs.length)=none:=by
   unfold Zf9;rw[if_neg (by omega),show f.lets.length+f.outs.length-f.lets.length=f.outs.length by omega,Y0,Ze0]
  rw[e];rw[←hlen];unfold stQ hpQ Zfm;generalize codesD f=C at *
  obtain⟨L,O⟩:=f;dsimp only;constructor<;>simp -implicitDefEqProofs[l469_1]
theorem zpa(f:Fd)(dim pars:Int)(h1:f.lets.length≤100000)(h2:f.outs.length≤100000)(hn:Zb4 1000 50000 f)(hz:Zau f≤4294967295)(hs:∀x∈f.lets,x.name.length≤4000) :
  Zb T 469 [efd f,.i .i64 dim,.i .i64 pars]=some (Zj7 (Zet f dim pars)):=by
 have cs:=zs0 (T:=T) f h1 h2 hz;have cc:=ze3 (T:=T) f h1 h2;unfold Zet;cases hW:whB f dim pars with
 | true=>
  rw[if_neg (by decide)];have hW2:(1≤dim∧dim≤6∧0≤pars∧pars≤6∧(f.outs.length:Int)=dim∧f.lets.length≤10∧Zau f≤300):=by simpa[whB]using hW
  obtain⟨g1,g2,g3,g4,g5,g6,g7⟩:=hW2;have hlo:=zs2 (T:=T) f dim pars g6 (by omega) hn hs;have e0:Zf9 f dim pars 0=match Zec dim pars f.lets 0 f.lets with
    | some q=>some q
    | none=>Ze0 dim pars f.lets.length 0 f.outs:=by
   unfold Zf9;by_cases hp:0<f.lets.length
   ·rw[if_pos hp,Yae];cases Zec dim pars f.lets 0 f.lets<;>rfl
   ·have e1:f.lets=[]:=Ybq.1 (by omega);rw[if_neg hp,Nat.zero_sub,Yae,e1,Zec]
  rw[e0]at hlo;obtain⟨X,hX⟩:∃X,X=(match Zec dim pars f.lets 0 f.lets with
    | some q=>some q
    | none=>Ze0 dim pars f.lets.length 0 f.outs):=⟨_,rfl⟩
  rw[←hX]at hlo
  change Zb T 469 _=some (Zj7 (match Zec dim pars f.lets 0 f.lets with
    | some q=>some q
    | none=>Ze0 dim pars f.lets.length 0 f.outs))
  rw[←hX];clear hX e0 hn hs hz hW;unfold stQ hpQ Zfm at hlo;generalize Zau f=S at *
  generalize codesD f=C at *
  obtain⟨L,O⟩:=f;dsimp only at *
  have k1:¬ dim<1:=by omega
  have k2:¬ 6<dim:=by omega
  have k3:¬ pars<0:=by omega
  have k4:¬ 6<pars:=by omega
  have k6:¬ (10:Int)<L.length:=by omega
  have k6':¬ 10<L.length:=by omega
  have k7:¬ (300:Int)<S:=by omega
  have k7':¬ 300<S:=by omega
  simp only[Yr]at hlo;rw[zab Zai.h469 rfl,b469];unfold Zj7;obtain _ | ⟨a,b,c⟩:=X
  ·dsimp only at hlo ⊢;simp -implicitDefEqProofs[k1,k2,k3,k4,g5,k6,k6',k7,k7',cs,cc,hlo]
  ·dsimp only at hlo ⊢;simp -implicitDefEqProofs[k1,k2,k3,k4,g5,k6,k6',k7,k7',cs,cc,hlo]
 | false=>
  rw[if_pos rfl];have hW2:¬ (1≤dim∧dim≤6∧0≤pars∧pars≤6∧(f.outs.length:Int)=dim∧f.lets.length≤10∧Zau f≤300):=by simpa[whB]using hW
  unfold Zj7;clear hn hs hz hW;generalize Zau f=S at *
  obtain⟨L,O⟩:=f;dsimp only at *
  rw[zab Zai.h469 rfl,b469];by_cases k1:dim<1
  ·simp -implicitDefEqProofs[k1]
  by_cases k2:6<dim
  ·simp -implicitDefEqProofs[k1,k2]
  by_cases k3:pars<0
  ·simp -implicitDefEqProofs[k1,k2,k3]
  by_cases k4:6<pars
  ·simp -implicitDefEqProofs[k1,k2,k3,k4]
  by_cases k5:(O.length:Int)=dim
  ·by_cases k6:10<L.length
   ·have k6':(10:Int)<L.length:=by omega
    simp -implicitDefEqProofs[k1,k2,k3,k4,k5,k6,k6']
   ·have k6':¬ (10:Int)<L.length:=by omega
    have k7:300<S:=by omega
    have k7':(300:Int)<S:=by omega
    simp -implicitDefEqProofs[k1,k2,k3,k4,k5,k6,k6',k7,k7',cs]
  ·simp -implicitDefEqProofs[k1,k2,k3,k4,k5]
variable[Zb9 T]
theorem zpb(q:Option (Int×Int×Int)):∃b a0 a1 a2,Zj7 q=.tup [.b b,.agg [.i .i64 a0,.i .i64 a1,.i .i64 a2]]∧b=q.isSome∧Zb T 470 [.b b,.agg [.i .i64 a0,.i .i64 a1,.i .i64 a2]]=some (Zft q):=by
 obtain _ | ⟨a,b,c⟩:=q
 ·refine⟨false,0,0,0,rfl,rfl,?_⟩;rw[zab Zb9.h470 rfl,b470];unfold Zft;simp -implicitDefEqProofs
 ·refine⟨true,a,b,c,rfl,rfl,?_⟩;rw[zab Zb9.h470 rfl,b470];unfold Zft;simp -implicitDefEqProofs
end
theorem zvw(lim:Nat)(P:Po)(ls:List Rat):∀(O:List (List Nd)) (n:Nat) (os:List Rat),(Zc0 lim P ls n os O).2.1=0→(Zc0 lim P ls n os O).2.2=0
 | [],_,_,_=>rfl
 | c::r,n,os,h=>by
  rw[Zc0]at h ⊢;split at h
  ·next h0=>exact absurd h h0
  ·next h0=>rw[if_neg h0];exact zvw lim P ls r _ _ h
theorem z8y(lim:Nat)(P:Po)(f:Fd)(h:(evD lim P f).2.1=0):(evD lim P f).2.2=0:=by
 unfold evD at h ⊢;split at h
 ·next h0=>exact absurd h h0
 ·next h0=>rw[if_neg h0];exact zvw lim P _ f.outs _ _ h
section
variable{T:Tbl}[Zad T][Zp T][Z0 T][Z3 T][Zq T][Zu T][Zl T][Zo T][Zr T][Zbj T][Zam T][Za6 T][Zcz T][Zcd T][Zar T][Zbv T][Zy T][Zaq T][Zay T][Zb7 T][Zbo T][Zcc T][Zcu T][Zbi T][Zdq T][Zb9 T]
 [Zah T] [Zai T] [Zx T] [Zab T] [Zw T] [Z9 T] [Z5 T] [Za1 T] [Zv T] [Zas T] [Zcy T] [Zch T] [Zd2 T] [Zd1 T] [Zd6 T] [Zc9 T] [Zap T] [Zat T]
theorem zms(f:Fd)(x:PoF)(bits:Int):Zb T 459 [efd f,ept x,.i .i64 bits]=some (.b true):=by
 have hw:=zoz (T:=T);have cl:=zo8 (T:=T) f 6 20 4 (by decide) (by decide);have cl2:=zr9 (T:=T) x 6 2 (by decide);simp only[Int.cast_ofNat_Int]at cl cl2;rw[zab Zb9.h459 rfl,b459];cases hL:lgF f 6 20 4 with
 | true=>
  rw[hL]at cl;obtain⟨L,O⟩:=f;obtain⟨⟨x0,x1,x2⟩,xy,xp⟩:=x;simp -implicitDefEqProofs[hw,cl]
 | false=>
 rw[hL]at cl;obtain⟨g1,g2,g3,g4⟩:=zvx hL;clear hL;cases hP:Zh7 x 6 2 with
 | true=>
  rw[hP]at cl2;obtain⟨L,O⟩:=f;obtain⟨⟨x0,x1,x2⟩,xy,xp⟩:=x;simp -implicitDefEqProofs[hw,cl,cl2]
 | false=>
 rw[hP]at cl2;have hx0:=zo0 hP (by decide);have hx:PoS x 1000:=⟨Yf hx0.t (by decide),fun u hu=>Yf (hx0.y u hu) (by decide),fun u hu=>Yf (hx0.p u hu) (by decide),hx0.yl,hx0.pl⟩;clear hP hx0;by_cases k1:600<bits
 ·obtain⟨L,O⟩:=f;obtain⟨⟨x0,x1,x2⟩,xy,xp⟩:=x;simp -implicitDefEqProofs[hw,cl,cl2,k1]
 have hlen:(codesD f).length≤12:=by unfold codesD;rw[Yk,Yaz];omega
 have hz:Zau f≤4294967295:=by
  have:=zr8 (l:=codesD f) (B:=20) fun c hc=>(g4 c hc).1;unfold Zau;have:=Yaf 20 hlen;omega
 have hn:Zb4 1000 50000 f:=fun c hc=>⟨Yf (g4 c hc).1 (by decide),fun u hu=>Yf ((g4 c hc).2 u hu) (by decide)⟩;have hs:∀u∈f.lets,u.name.length≤100000:=fun u hu=>Yf (g3 u hu) (by decide);have hs4:∀u∈f.lets,u.name.length≤4000:=fun u hu=>Yf (g3 u hu) (by decide);have t1:=zkz (T:=T) f (fun c hc=>Yf (g4 c hc).1 (by decide)) (by omega) (by omega);have t3:=zy7 (T:=T) x hx.yl hx.pl;have c0:=zi1 (T:=T) f x bits hx (by omega) (by omega) hn hz hs;have ck:=zpa (T:=T) f x.y.length x.p.length (by omega) (by omega) hn hz hs4;obtain⟨b,a0,a1,a2,hfq,hb,hfa⟩:=zpb (T:=T) (Zet f x.y.length x.p.length);rw[hfq]at ck;rcases c0 with ⟨q,hq,c0⟩ | ⟨hq,c0⟩
 ·rw[hq]at hb hfa;simp only[Option.isSome_some]at hb;subst hb;obtain⟨q0,q1,q2⟩:=q;unfold Zft at hfa;clear hx hn hs hs4 hz g3 g4 hq hfq;obtain⟨L,O⟩:=f;obtain⟨⟨x0,x1,x2⟩,xy,xp⟩:=x;dsimp only at *
  simp -implicitDefEqProofs[hw,cl,cl2,k1,t1,t3,c0,ck,hfa]
 ·rw[hq]at hb;simp only[Ydn]at hb;subst hb;have hF:=znr hq;have hyl:x.v.y.length=x.y.length:=by simp[PoF.v]
  have hpl:x.v.p.length=x.p.length:=by simp[PoF.v]
  rw[←hyl,←hpl]at hF;obtain⟨hl1,hl2⟩:=zf8 bits;have n2:=zs3 (T:=T) x hx;have lm:=zpc (T:=T) bits;obtain⟨at_,rf,ra,rb⟩:=zpd (T:=T) f x.v (Za4 bits) (by omega) (by omega) (zkx hx) hF hn;have e0:=z8z _ hl2 x.v f hF;have ea:=z8y (Za4 bits).toNat x.v f;generalize evD (Za4 bits).toNat x.v f=A at *
  obtain⟨ao,ak,aa⟩:=A;dsimp only at *
  have hat:at_=aa:=by
   by_cases h0:ak=0
   ·rw[ra h0,ea h0];rfl
   ·exact rb h0
  subst hat;have hz2:=z8x (B:=1000) e0.1;have sm:=zy4 (T:=T) (fzs ao) (fzs ao) (by rw[za2];have:=e0.2;omega) (fun u hu=>Yf (hz2 u hu) (by decide));rw[decide_eq_true rfl]at sm;clear hx hn hs hs4 hz g3 g4 hq hfq hF e0 hz2 hyl hpl ra rb ea hl1 hl2;generalize fzs ao=AO at *
  generalize Za4 bits=LI at *
  generalize x.v.f=Q at *
  obtain⟨L,O⟩:=f;obtain⟨⟨x0,x1,x2⟩,xy,xp⟩:=x;obtain⟨⟨q0,q1,q2⟩,qy,qp⟩:=Q;dsimp only at *
  simp -implicitDefEqProofs[hw,cl,cl2,k1,t1,t3,c0,ck,n2,lm,rf,sm]
end
end Go.Ab