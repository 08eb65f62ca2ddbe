/-
  A calculus of values, boxes and code, and what functions of the program compute, proved in it.
  Conditions: none beyond those that the theorems state. (Part 6: AxTop10, RbBase, GpSplit, GpFig, GpFig2, NmTxt, NmSchT, GcStep, GpScheme, GpStep, GpSchP1, GpSchP2, GpSchP3, GpSchP4, GpSchP5, GpSchP6, GpSchC1, GpSchC2, GpSchC3, GpRef10, GcLaw11c, GcLaw11b, GpLaw11b, GpLaw11c, GpRef11b, GpSchC4, GpSchC5, GpSchB1, GpLaw11e, GpSchB2, GpSchC6, GpSchB3, GcSpan2, GcPast2, GcPast, GpPast, GpPast2, GpSpan2, GpSpan3, GpLaw24, GpLong33, GpPow9, GpSchB4.)
-/
import Derived.Test.YtoppjelfghopnaaGreatDoorPart5
import Derived.Test.YtoppjelfghopnaaGreatDoorRows
import Derived.Test.YtoppjelfghopnaaGreatDoorCards
import Derived.Test.YtoppjelfghopnaaGreatDoorTie
import Derived.ProofKit
import Derived.LaidMore
import Derived.OpenShut
import Derived.Stop.Joined
import Derived.SevenTiedAt
import Derived.Lib.LaidU8

set_option linter.unusedSectionVars false
set_option linter.unusedVariables false
set_option linter.unusedSimpArgs false
set_option linter.unnecessarySimpa false

section
namespace Go.Ab
abbrev Zjf:Ty:=.cons .str (.cons (.sl tyF) (.cons (.sl (.sl tyF)) (.cons (.sl tyF) (.cons (.sl tyF) .nil))))
abbrev Zn8:Ty:=.cons tyT (.cons Zjf (.cons (.sl tyF) (.cons (.int .i64) .nil)))
abbrev Zl5:Ty:=.cons tyF (.cons tyF (.cons tyF (.cons tyF (.cons (.sl tyF) (.cons .bool .nil)))))
abbrev Zn9:Ty:=.cons (.sl Zl5) (.cons tyF (.cons (.sl tyF) .nil))
theorem zqm{cs:List AV}(h:Ok (.sl (.sl tyF)) cs):∃m:List (List Fz),wkR cs=[.sl (Zs m) .an]:=by
 obtain⟨els,f,rfl,_,_,he⟩:=h;obtain⟨m,hm⟩:=zlu els he;exact⟨m,by simp[wkR,wkA,hm]⟩
theorem zws{cs:List AV}(h:Ok Zjf cs):∃s:Sm,wkR cs=[.s s.nm,.sl (Zd s.c) .an,.sl (Zs s.a) .an,.sl (Zd s.b) .an,.sl (Zd s.e) .an]:=by
 obtain⟨c1,c1',rfl,⟨nm,rfl,_⟩,c2,c2',rfl,h2,c3,c3',rfl,h3,c4,c4',rfl,h4,c5,c5',rfl,h5,rfl⟩:=h;obtain⟨c,e2⟩:=ze4 h2;obtain⟨a,e3⟩:=zqm h3;obtain⟨b,e4⟩:=ze4 h4;obtain⟨e,e5⟩:=ze4 h5;refine⟨⟨nm,c,a,b,e⟩,?_⟩;simp only[zqo,e2,e3,e4,e5]
 rfl
theorem z0n{x:AV}(h:Zhq (true,Zjf) x):∃s:Sm,wkA x=esm s:=by
 obtain⟨cs,rfl,hc⟩:=h;obtain⟨s,e⟩:=zws hc;exact⟨s,by rw[wkA,e]⟩
end Go.Ab
end
section
namespace Go.Proofs.YtoppjelfghopnaaGreatDoor
open Go Go.Ab Go.ChangeShapes Go.WideShapes Go.ChangeAt Go.RowKit
theorem Tryz.own:ownKnob Tryz.prog.godebug=none:=by kernel_rfl
theorem Tryz.laidOut:laidOutB Tryz.prog=true:=by kernel_rfl
theorem Tryz.mixed:Tryz.prog.follows .mixedOrders=true:=by kernel_rfl
theorem Tryz.rowed:mapsRowed Tryz.prog=true:=by kernel_rfl
theorem Tryz.heard:Tryz.prog.stopsHeard=true:=by kernel_rfl
theorem Tryz.enters:Tryz.prog.mayEnter=true:=by kernel_rfl
theorem Tryz.keys:Tryz.prog.plainKeys=Rows.schemeBackRow.plainKeys:=by kernel_rfl
theorem Tryz.lifts:Tryz.prog.liftsFinal=Rows.schemeBackRow.lifted:=by kernel_rfl
theorem Tryz.makes:Tryz.prog.make=some Rows.schemeBackRow.make:=by kernel_rfl
def laid2:List (String×DataW Unit):=[("unicode/utf8.acceptRanges",Rows.laid_unicode_utf8_acceptRanges),("unicode/utf8.first",Rows.laid_unicode_utf8_first)]
noncomputable def laidWorld(os:Os):World:=
 let put (h:Array Obj) (g:Nat) (cs:Array Value):Array Obj:=h.modify g fun
  | .cells _ t frozen=>.cells cs t frozen
  | o=>o
 let w0:=World.holding Tryz.prog os ⟨#[],#[],[]⟩
 let h1:=put w0.heap 1 (Lib.firstTab.map fun z=>Value.int .u8 z).toArray
 let h2:=put h1 2 ((List.range 16).flatMap fun i=>[Value.int .u8 (Lib.accLo i),Value.int .u8 (Lib.accHi i)]).toArray
 { w0 with heap:=h2 }
theorem laid_met(os:Os)(args:Array Value):laidMetH Tryz.prog laid2 ((laidWorld os).forCall (fun _ _=>0) ⟨#[],args,[]⟩).memory:=
 laidMetH_of_parts3 (fuel:=8) (laidMet_of_run' 8 (by kernel_rfl) (by kernel_rfl)) (by kernel_rfl) (by kernel_rfl)
theorem laid_shaped(os:Os):(laidWorld os).Shaped Tryz.prog:=World.shaped_of_RefB (by kernel_rfl) (by kernel_rfl)
theorem tab_all:TOk Tryz.prog nu (fun u=>lTab.lookup u):=lTab_ok (text_ok Tryz.mixed) (str344_ok) (str194_ok) (str361_ok) (join_ok) (sign_ok) (str184_ok)
end Go.Proofs.YtoppjelfghopnaaGreatDoor
end
section
namespace Go.Ab
def Zx(c:UInt8):List UInt8→List (List UInt8)
 | []=>[[]]
 | b::l=>if b=c then []::Zx c l else match Zx c l with
  | []=>[[b]]
  | p::r=>(b::p)::r
theorem zcj(c:UInt8):∀l:List UInt8,(l.count c=0∧Lib.indexByte l c=-1∧Zx c l=[l]) ∨
  ∃m:Nat,m<l.length∧Lib.indexByte l c=m∧Zx c l=l.take m::Zx c (l.drop (m+1))
 | []=>.inl ⟨rfl,rfl,rfl⟩
 | b::l=>by
  by_cases h:b=c
  ·right;subst h;refine⟨0,by simp,?_,?_⟩
   ·simp[Lib.indexByte]
   ·simp[Zx]
  ·have hb:(b == c)=false:=by simpa using h
   rcases zcj c l with ⟨h1,h2,h3⟩ | ⟨m,h1,h2,h3⟩
   ·left;refine⟨by rw[List.count_cons_of_ne h,h1],by simp[Lib.indexByte,hb,h2],by simp[Zx,h,h3]⟩
   ·right;have hm:((m:Int) == -1)=false:=by simp
    refine⟨m+1,by simpa using h1,by simp[Lib.indexByte,hb,h2,hm],by simp[Zx,h,h3]⟩
theorem zbu(c:UInt8):∀l:List UInt8,(Zx c l).length=l.count c+1
 | []=>rfl
 | b::l=>by
  have ih:=zbu c l;by_cases h:b=c
  ·subst h;simp[Zx,ih]
  ·rw[List.count_cons_of_ne h,←ih];cases hs:Zx c l with
   | nil=>rw[hs]at ih;simp at ih
   | cons p r=>simp[Zx,h,hs]
theorem z1l{T:Tbl}[Zc1 T](s:List UInt8)(c:UInt8):Zb T 194 [.s s,.s [c]]=some (.i .i64 (Lib.indexByte s c)):=by rw[p194];rfl
theorem z1m{T:Tbl}[Zc1 T](s:List UInt8)(c:UInt8):Zb T 361 [.s s,.s [c]]=some (.i .i64 ((s.count c:Nat):Int)):=by rw[p361];rfl
section
variable{T:Tbl}[Zc1 T][Zan T]
theorem zmo(s:List UInt8)(c:UInt8):Zb T 362 [.s s,.s [c]]=some (.i .i64 (Lib.indexByte s c)):=by
 have h:=z1l (T:=T) s c;rw[zab Zan.h362 rfl,b362];simp -implicitDefEqProofs[h]
def Zkd(c:UInt8)(N:Nat)(ps:List (List UInt8))(s:List UInt8):St:=
 ⟨[(0,.s s),(1,.s [c]),(2,.i .i64 0),(3,.i .i64 ((N:Int)-1)),(9,.bs (.loc 31) 1 1 0 N),(10,.i .i64 ps.length)],[(.loc 31,⟨1,.own,1,Zq ps++List.replicate (N-ps.length) [.s []]⟩)],3⟩
theorem zrl(c:UInt8)(all:List (List UInt8))(hN:all.length≤1000001):∀y:List (List UInt8)×List UInt8,(y.1++Zx c y.2=all∧y.2.length≤1000000) →
  Zw T 0 0 (.norm false [0,9,10]) l354_0 (Zkd c all.length y.1 y.2)=some (.n,⟨[(0,.s (all.getLastD [])),(9,.bs (.loc 31) 1 1 0 all.length),(10,.i .i64 ((all.length:Int)-1))],[(.loc 31,⟨1,.own,1,Zq all.dropLast++[[.s []]]⟩)],3⟩):=by
 refine zav (fun y:List (List UInt8)×List UInt8=>Zkd c all.length y.1 y.2) (fun y=>y.1++Zx c y.2=all∧y.2.length≤1000000) (fun y=>y.2.length) (fun _=>_) ?_
 rintro⟨ps,s⟩ ⟨hall,hs⟩
 simp only at hall hs;have hi:=zmo (T:=T) s c;have hlen:=congrArg List.length hall;rw[Yp,zbu]at hlen;unfold Zkd;rcases zcj c s with ⟨h1,h2,h3⟩ | ⟨m,h1,h2,h3⟩
 ·right;rw[h3]at hall;have e1:all.getLastD []=s:=by rw[←hall];simp
  have e2:all.dropLast=ps:=by rw[←hall];simp
  have e3:all.length-ps.length=1:=by omega
  have e4:¬ (ps.length:Int)<(all.length:Int)-1:=by omega
  have e5:(ps.length:Int)=(all.length:Int)-1:=by omega
  rw[e1,e2,e3,e5];have e6:List.replicate 1 [AV.s []]=[[AV.s []]]:=rfl;rw[e6];have hw:wkL (Zq ps++[[AV.s []]])=Zq ps++[[AV.s []]]:=by
   rw[zb4,Yc9,←zb4,zeb]
   rfl
  have hl2:(Zq ps++[[AV.s []]]).length=all.length:=by simp;omega
  clear hall e1 e2 h3;generalize Zq ps++[[AV.s []]]=B at *
  constructor<;>simp -implicitDefEqProofs[l354_0,hw,hl2]
 ·left;rw[h2]at hi;have hpos:0<(Zx c (s.drop (m+1))).length:=by rw[zbu];omega
  have hlen2:=congrArg List.length hall;rw[h3,Yp,Yd]at hlen2;refine⟨(ps++[s.take m],s.drop (m+1)),⟨by rw[←hall,h3];simp,by simp;omega⟩,by simp;omega,?_,rfl⟩;have q1:(ps.length:Int)<(all.length:Int)-1:=by omega
  have q2:¬ (m:Int)<0:=by omega
  have q3:IntKind.wrap .i64 ((m:Int)+0)=m:=by rw[Int.add_zero];exact zac _ (by omega)
  have q3':IntKind.wrap .i64 (m:Int)=m:=zac _ (by omega);have q4:IntKind.wrap .i64 ((m:Int)+1)=((m+1:Nat):Int):=zac _ (by omega);have q5:IntKind.wrap .i64 ((ps.length:Int)+1)=((ps.length+1:Nat):Int):=zac _ (by omega);have q6:(m:Int)≤s.length:=by omega
  have q7:((m+1:Nat):Int)≤s.length:=by omega
  have q7':m+1≤s.length:=by omega
  have q8:(m:Int)+1≤s.length:=by omega
  have e:(Zq ps++List.replicate (all.length-ps.length) [AV.s []]).set ps.length [AV.s (s.take m)]=Zq (ps++[s.take m])++List.replicate (all.length-(ps.length+1)) [AV.s []]:=by
   rw[Yae _ _ (by simp),zar,Ycc,show all.length-ps.length=(all.length-(ps.length+1))+1 by omega,Ybc (n:=all.length-(ps.length+1)),Yck,
    show Zq (ps++[s.take m])=Zq ps++[[AV.s (s.take m)]] by simp[Zq],Y5]
   rfl
  have hl:(Zq ps++List.replicate (all.length-ps.length) [AV.s []]).length=all.length:=by simp;omega
  have hk:wkL ((Zq ps++List.replicate (all.length-ps.length) [AV.s []]).set ps.length [AV.s (s.take m)])=(Zq ps++List.replicate (all.length-ps.length) [AV.s []]).set ps.length [AV.s (s.take m)]:=by
   rw[e,zb4,Yc9,←zb4,zeb];simp[wkR,wkA]
  have hg:(Zq ps++List.replicate (all.length-ps.length) [AV.s []])[ps.length]? = some [AV.s []]:=by
   rw[Yl (by simp),zar,Ycc,Yc3,if_pos (by omega)]
  simp only[Yp,Yd,Y7];rw[←e];have hnl:ps.length<all.length:=by omega
  have hnl':(ps.length:Int)<all.length:=by omega
  clear e hall h3 hpos hlen hlen2;generalize Zq ps++List.replicate (all.length-ps.length) [AV.s []]=B at *
  obtain⟨hb,hgE⟩:=Yag.1 hg;simp -implicitDefEqProofs[l354_0,hi,q1,q2,q3,q3',q4,q5,q6,q7,q7',q8,hl,hk,hg,hgE,hnl,hnl',h1]
theorem zvf(s:List UInt8)(c:UInt8)(hs:s.length≤1000000):Zb T 346 [.s s,.s [c]]=some (.sl (Zq (Zx c s)) .an):=by
 have hc:=z1m (T:=T) s c;have hcl:s.count c≤s.length:=List.count_le_length;have hlen:=zbu c s;have h:=zrl (T:=T) c (Zx c s) (by omega) ([],s) ⟨by simp,hs⟩;unfold Zkd at h;simp only[Y7,Nat.sub_zero,Yac]at h;have e0:Zq []=[]:=rfl;rw[e0,Yax,hlen]at h;have w1:IntKind.wrap .i64 ((s.count c:Int)+1)=((s.count c+1:Nat):Int):=zac _ (by omega);have w2:IntKind.wrap .i64 ((s.length:Int)+1)=((s.length+1:Nat):Int):=zac _ (by omega);have w3:IntKind.wrap .i64 (((s.count c+1:Nat):Int)-1)=((s.count c+1:Nat):Int)-1:=zac _ (by omega);have w4:IntKind.wrap .i64 (((s.count c+1:Nat):Int)-1+1)=((s.count c+1:Nat):Int):=by
  rw[Int.sub_add_cancel];exact zac _ (by omega)
 have mm:min ((s.count c+1:Nat):Int) ((s.length+1:Nat):Int)=((s.count c+1:Nat):Int):=by omega
 have hz:wkL (List.replicate (s.count c+1) [AV.s []])=List.replicate (s.count c+1) [AV.s []]:=by rw[zb4,List.map_replicate];rfl
 obtain⟨L,hL⟩:∃L,L=Zx c s:=⟨_,rfl⟩;rw[←hL]at h ⊢ hlen;have hne:L≠[]:=by intro e;rw[e]at hlen;simp at hlen
 have hset:(Zq L.dropLast++[[AV.s []]]).set (s.count c) [AV.s (L.getLastD [])]=Zq L:=by
  have h1:L.dropLast.length=s.count c:=by rw[Ycx];omega
  rw[Yae _ _ (by simp;omega),zar,h1,Ycc,Yck];have h2:L=L.dropLast++[L.getLastD []]:=by
   rw[List.getLastD_eq_getLast?,List.getLast?_eq_some_getLast hne,Option.getD_some,Ydn]
  conv=>rhs;rw[h2]
  simp[Zq]
 have hl2:(Zq L.dropLast++[[AV.s []]]).length=s.count c+1:=by simp[Ycx];omega
 have hg:(Zq L.dropLast++[[AV.s []]])[s.count c]? = some [AV.s []]:=by
  rw[Yl (by simp[Ycx];omega)];simp[Ycx,hlen]
 have hr:(Zq L).length=s.count c+1:=by simp[hlen]
 have n1:¬ ((s.count c:Int)+1<0):=by omega
 have n2:(s.count c:Int)+1≤4294967296:=by omega
 have hwR:wkL (Zq L)=Zq L:=zeb L;generalize s.count c=k at *
 generalize Zq L.dropLast++[[AV.s []]]=B at *
 obtain⟨hb,hgE⟩:=Yag.1 hg;generalize L.getLastD []=last at *
 generalize Zq L=R at *
 clear hL hne;have hk:(((k+1:Nat):Int)-1)=k:=by omega
 rw[hk]at h w3 w4;have tk:List.take (k+1) R=R:=Yb (by omega);have hnlt:¬ s.length<k:=by omega
 have nn:(0:Int)≤(k:Int)+1:=by omega
 have nt:((k:Int)+1).toNat=k+1:=by omega
 have nk:(k:Int)<(k:Int)+1:=by omega
 have nle:(k:Int)+1≤(R.length:Int):=by omega
 have nle2:(k:Int)≤(B.length:Int):=by omega
 have hg354:Zb T 354 [.s s,.s [c],.i .i64 0,.i .i64 (-1)]=some (.sl R .an):=by
  rw[zab Zan.h354 rfl,b354];simp -implicitDefEqProofs[hc,w1,w2,w3,w4,mm,hz,h,hset,hl2,hg,hgE,hr,n1,n2,tk,hnlt,nn,nt,nk,nle,nle2,hwR,hr]
 rw[zab Zan.h346 rfl,b346];simp -implicitDefEqProofs[hg354,hwR]
end
end Go.Ab
end
section
namespace Go.Ab
abbrev flt(k a:Int):AV:=.agg [.i .i64 k,.i .i64 0,.i .i64 0,.i .i64 a]
def Zfe(c:UInt8):Bool:=c == 47 || c == 46
def Z0:List UInt8→Nat
 | []=>0
 | c::r=>if Zfe c then 0 else Z0 r+1
theorem zj0:∀s,Z0 s≤s.length
 | []=>Yh _
 | c::r=>by
  have:=zj0 r;simp only[Z0];split
  ·omega
  ·simp only[Yd];omega
theorem zo7:∀s:List UInt8,Lib.indexAny s [47,46]=if Z0 s<s.length then (Z0 s:Int) else -1
 | []=>rfl
 | c::r=>by
  have ih:=zo7 r;have hc:([47,46]:List UInt8).contains c=Zfe c:=by
   rw[Yb8];simp only[Ybm,Yj,Yas,or_false,Zfe,Ybg,beq_iff_eq]
  have hle:=zj0 r;simp only[Lib.indexAny,hc,Z0];by_cases hcut:Zfe c=true
  ·simp[hcut]
  ·simp only[hcut,if_false,Yd,Yd5,Y6];rw[ih];by_cases h:Z0 r<r.length
   ·have e:((Z0 r:Int) == -1)=false:=by simp
    simp[h,e]
   ·simp[h]
theorem zo8:∀(s:List UInt8),Z0 s<s.length→∃c,s[Z0 s]? = some c∧(c=47∨c=46)
 | [],h=>by simp at h
 | c::r,h=>by
  simp only[Z0]at h ⊢;cases hc:Zfe c with
  | true=>
   refine⟨c,by simp,?_⟩;simpa[Zfe]using hc
  | false=>
   rw[hc]at h;simp only[Y6,if_false,Yd,Yd5]at h ⊢;obtain⟨d,h1,h2⟩:=zo8 r h;exact⟨d,by simpa using h1,h2⟩
theorem ztt{l:List UInt8}(h0:¬ 0≤Z1 l):l.length≤60∧(ofN (rd l)).length≤60:=by
 have h1:Zcp 0 l<0:=by
  unfold Z1 at h0;split at h0
  ·omega
  ·omega
 obtain⟨h2,h3⟩:=zgl 0 l (Y1 _) h1;refine⟨by omega,zag (k:=60) ?_⟩;have h4:=zvq h3;have h5:10^l.length≤10^60:=Yr (by decide) (by omega);exact Yo h4 (Yc h5 (by decide))
def Ze3(z:Int)(neg:Bool)(s:List UInt8)(c:UInt8)(at_:Nat):Rat×Int×Int:=
 let rest:=s.drop at_
 if 0≤Z1 rest then (0,1,Z1 rest+at_)
 else if c=47 then (if rd rest=0 then (0,2,at_) else (mkRat z (rd rest),0,0))
 else (mkRat (sg neg (z.natAbs*10^rest.length+rd rest)) (10^rest.length),0,0)
def Zab(s:List UInt8):Rat×Int×Int:=
 let first:=s.take (Z0 s)
 if 0≤Zbq first then (0,1,Zbq first+Zcw first)
 else if Z0 s<s.length then Ze3 (Zar first) (s.head? = some 45) s (s.getD (Z0 s) 0) (Z0 s+1)
 else (mkRat (Zar first) 1,0,0)
theorem ztu{n:Nat}(h:n≤60):(ofN (10^n)).length≤60:=by
 refine zag (k:=60) ?_;have h5:10^n≤10^60:=Yr (by decide) h;exact Yda h5 (by decide)
theorem ztv(l:List UInt8):-1≤Zbq l∧Zbq l≤60∧0≤Zcw l∧Zcw l≤1:=by
 have key:∀l',-1≤Z1 l'∧Z1 l'≤60:=by
  intro l';unfold Z1;split
  ·omega
  ·exact⟨zn6 0 l',zh2 0 l' (by decide)⟩
 unfold Zbq Zcw;refine⟨(key _).1,(key _).2,?_,?_⟩<;>split<;>omega
section
variable{T:Tbl}[Zp T][Zu T][Zy T][Zr T][Zt T][Zo T][Ze T][Zj T][Zv T][Zbk T][Zc1 T][Zan T][Zc0 T]
theorem zj1(n:Bool)(a d:List UInt32)(ha:a.length≤10000)(hd:d.length≤10000) :
  Zb T 204 [wh n a,.sl (Za d) .an]=some (.tup (if val d=0 then [efz (fz 0),.b false] else [efz (fz (mkRat (wv n a) (val d))),.b true])):=by
 have c0:=zd5 (T:=T);have c1:=zd6 (T:=T) d (by omega);rw[zab Zbk.h204 rfl,b204];by_cases h:val d=0
 ·rw[if_pos h];rw[decide_eq_true h]at c1;generalize fz 0=Z at *
  simp -implicitDefEqProofs[c0,c1]
 ·rw[if_neg h];rw[decide_eq_false h]at c1;have c2:=znt (T:=T) n a d ha hd h;generalize fz (mkRat (wv n a) (val d))=R at *
  simp -implicitDefEqProofs[c1,c2]
theorem zqq(l:List UInt8):Zb T 345 [.s l,.s [45]]=some (.b (l.head? = some 45)):=by
 have h1:Zb T 123 [.s l,.s [45]]=some (.b (l.head? = some 45)):=by
  rw[zab Zo.h123 rfl,b123];cases l with
  | nil=>simp -implicitDefEqProofs
  | cons c r=>
   have h2:(1:Int)≤(r.length:Int)+1:=by omega
   by_cases hc:c=45<;>simp -implicitDefEqProofs[h2,hc]
 rw[zab Zan.h345 rfl,b345];simp -implicitDefEqProofs[h1]
theorem ziw(s:List UInt8)(k:Nat)(hk:k≤s.length)(hs:s.length≤1000000):Zb T 253 [.s s,.i .i64 k] =
  some (.tup (if 0≤Z1 (s.drop k) then [.sl [] .an,flt 1 (Z1 (s.drop k)+k)] else [.sl (Za (ofN (rd (s.drop k)))) .an,flt 0 0])):=by
 have h1:=zhf (T:=T) (s.drop k) (by rw[Yar];omega);have hk':(k:Int)≤s.length:=by omega
 rw[zab Zc0.h253 rfl,b253];by_cases h0:0≤Z1 (s.drop k)
 ·rw[if_pos h0]at h1 ⊢;have hw:Z1 (s.drop k)≤60:=by
   unfold Z1;split
   ·omega
   ·exact zh2 0 _ (by decide)
  have w1:IntKind.wrap .i64 (Z1 (s.drop k)+(k:Int))=Z1 (s.drop k)+(k:Int):=zac _ (by omega);generalize Z1 (s.drop k)=W at *
  simp -implicitDefEqProofs[hk,hk',h1,w1]
 ·rw[if_neg h0]at h1 ⊢;generalize ofN (rd (s.drop k))=R at *
  simp -implicitDefEqProofs[hk,hk',h1]
theorem zwu(n:Bool)(a:List UInt32)(s:List UInt8)(k:Nat)(ha:a.length≤10000)(hk:k≤s.length)(hs:s.length≤1000000):Zb T 254 [wh n a,.s s,.i .i64 k] =
  some (.tup (if 0≤Z1 (s.drop k) then [efz (fz 0),flt 1 (Z1 (s.drop k)+k)] else if rd (s.drop k)=0 then [efz (fz 0),flt 2 k] else [efz (fz (mkRat (wv n a) (rd (s.drop k)))),flt 0 0])):=by
 have h1:=ziw (T:=T) s k hk hs;have c0:=zd5 (T:=T);rw[zab Zc0.h254 rfl,b254];by_cases h0:0≤Z1 (s.drop k)
 ·rw[if_pos h0]at h1 ⊢;generalize fz 0=Z at *
  generalize Z1 (s.drop k)+(k:Int)=W at *
  simp -implicitDefEqProofs[h1,c0]
 ·rw[if_neg h0]at h1 ⊢;have hl:=(ztt h0).2;have h2:=zj1 (T:=T) n a (ofN (rd (s.drop k))) ha (by omega);rw[zae]at h2;by_cases hz:rd (s.drop k)=0
  ·rw[if_pos hz]at h2 ⊢;clear hl h0;generalize fz 0=Z at *
   generalize ofN (rd (s.drop k))=R at *
   simp -implicitDefEqProofs[h1,h2]
  ·rw[if_neg hz]at h2 ⊢;clear hl h0;generalize fz (mkRat (wv n a) (rd (s.drop k)))=Z at *
   generalize ofN (rd (s.drop k))=R at *
   simp -implicitDefEqProofs[h1,h2]
theorem zqr(ht:∀n:Nat,n≤60→Zb T 252 [.i .i64 n]=some (.sl (Za (ofN (10^n))) .an))(n neg:Bool)(a:List UInt32)(s:List UInt8)(k:Nat)(ha:a.length≤1000)(hk:k≤s.length)(hs:s.length≤1000000) :
  Zb T 255 [wh n a,.b neg,.s s,.i .i64 k] =
  some (.tup (if 0≤Z1 (s.drop k) then [efz (fz 0),flt 1 (Z1 (s.drop k)+k)] else [efz (fz (mkRat (sg neg (val a*10^(s.drop k).length+rd (s.drop k))) (10^(s.drop k).length))),flt 0 0])):=by
 have h1:=ziw (T:=T) s k hk hs;have c0:=zd5 (T:=T);rw[zab Zc0.h255 rfl,b255];by_cases h0:0≤Z1 (s.drop k)
 ·rw[if_pos h0]at h1 ⊢;generalize fz 0=Z at *
  generalize Z1 (s.drop k)+(k:Int)=W at *
  simp -implicitDefEqProofs[h1,c0]
 ·rw[if_neg h0]at h1 ⊢;obtain⟨hl60,hl⟩:=ztt h0;have h2:=ht (s.drop k).length hl60;have ht60:=ztu hl60;have h3:=ze8 (T:=T) a (ofN (10^(s.drop k).length)) (by omega) (by omega);rw[zae]at h3;have hm:(ofN (val a*10^(s.drop k).length)).length≤1060:=by
   have e1:=zad a;have e2:=zbv (x:=val a) (y:=10^(s.drop k).length) (L:=1000) (M:=60) (by omega) ht60;omega
  have h4:=zug (T:=T) [ofN (val a*10^(s.drop k).length),ofN (rd (s.drop k))] (by simp) (by
   intro x hx;simp only[Yj,Yas,or_false]at hx;rcases hx with rfl | rfl<;>omega)
  have e1:lls [ofN (val a*10^(s.drop k).length),ofN (rd (s.drop k))]=[[.sl (Za (ofN (val a*10^(s.drop k).length))) .an],[.sl (Za (ofN (rd (s.drop k)))) .an]]:=rfl;have e2:Zdf [ofN (val a*10^(s.drop k).length),ofN (rd (s.drop k))]=val a*10^(s.drop k).length+rd (s.drop k):=by simp[Zdf,zae]
  rw[e1,e2]at h4;have hsum:(ofN (val a*10^(s.drop k).length+rd (s.drop k))).length≤10000:=by
   have e3:=zce (x:=((val a*10^(s.drop k).length:Nat):Int)) (y:=((rd (s.drop k):Nat):Int)) (L:=1060) (by rw[Ybo];exact hm) (by rw[Ybo];omega);rw[←Ydr,Ybo]at e3;omega
  have h5:=zj1 (T:=T) neg (ofN (val a*10^(s.drop k).length+rd (s.drop k))) (ofN (10^(s.drop k).length)) hsum (by omega);have hne:¬ 10^(s.drop k).length=0:=Nat.ne_of_gt (Ybq (by decide));rw[zae,if_neg hne]at h5;unfold wv at h5;rw[zae]at h5;have hd:(s.drop k).length=s.length-k:=Yar;have w1:IntKind.wrap .i64 ((s.length:Int)-(k:Int))=(((s.drop k).length:Nat):Int):=by
   rw[hd];have:((s.length-k:Nat):Int)=(s.length:Int)-k:=by omega
   rw[this];exact zac _ (by omega)
  clear hl hl60 ht60 hm e1 e2 hsum hne h0 hd ht;generalize 10^(s.drop k).length=TN at *
  generalize (s.drop k).length=dl at *
  generalize fz (mkRat (sg neg (val a*TN+rd (s.drop k))) TN)=R at *
  generalize ofN (val a*TN+rd (s.drop k))=R1 at *
  generalize ofN (val a*TN)=R2 at *
  generalize ofN (rd (s.drop k))=R3 at *
  generalize ofN TN=R4 at *
  simp -implicitDefEqProofs[h1,h2,h3,h4,h5,w1]
theorem zwv(ht:∀n:Nat,n≤60→Zb T 252 [.i .i64 n]=some (.sl (Za (ofN (10^n))) .an))(s:List UInt8)(hs:s.length≤100000) :
  Zb T 256 [.s s]=some (.tup [efz (fz (Zab s).1),flt (Zab s).2.1 (Zab s).2.2]):=by
 have hi:Zb T 344 [.s s,.s [47,46]]=some (.i .i64 (if Z0 s<s.length then (Z0 s:Int) else -1)):=by
  rw[p344,←zo7];simp only[prim344];rw[if_pos (by omega)]
 have hr:=zrr (T:=T) (s.take (Z0 s)) (by rw[Yaq];omega);have hle:=zj0 s;have c0:=zd5 (T:=T);rw[zab Zc0.h256 rfl,b256];by_cases hc:Z0 s<s.length
 ·rw[if_pos hc]at hi;have q1:(0:Int)≤(Z0 s:Int):=by omega
  have q2:(Z0 s:Int)≤s.length:=by omega
  have q3:¬ (Z0 s:Int)<0:=by omega
  by_cases h0:0≤Zbq (s.take (Z0 s))
  ·have eR:Zab s=(0,1,Zbq (s.take (Z0 s))+Zcw (s.take (Z0 s))):=by simp only[Zab,if_pos h0]
   rw[eR];rw[if_pos h0]at hr;clear eR;simp only;generalize fz 0=Z at *
   generalize Zbq (s.take (Z0 s))+Zcw (s.take (Z0 s))=W at *
   simp -implicitDefEqProofs[hi,hr,c0,q1,q2,q3,hle]
  ·rw[if_neg h0]at hr;have hrl:=zkk h0;obtain⟨c,hg,hcc⟩:=zo8 s hc;obtain⟨_,hgE⟩:=Yag.1 hg;have hd:s.getD (Z0 s) 0=c:=by rw[List.getD_eq_getElem?_getD,hg];rfl
   have eR:Zab s=Ze3 (Zar (s.take (Z0 s))) (decide (s.head? = some 45)) s c (Z0 s+1):=by simp only[Zab,if_neg h0,if_pos hc,hd]
   rw[eR];have w1:IntKind.wrap .i64 ((Z0 s:Int)+1)=((Z0 s+1:Nat):Int):=zac _ (by omega);have q4:(Z0 s:Int)<s.length:=by omega
   have px:=zqq (T:=T) s;rcases hcc with rfl | rfl
   ·have ho:=zwu (T:=T) (decide (Zar (s.take (Z0 s))<0)) (ofN (Zar (s.take (Z0 s))).natAbs) s (Z0 s+1) (by omega) (by omega) (by omega);rw[zie]at ho;have ho2:Zb T 254 [ez (Zar (s.take (Z0 s))),.s s,.i .i64 ((Z0 s+1:Nat):Int)]=some (.tup [efz (fz (Ze3 (Zar (s.take (Z0 s))) (decide (s.head? = some 45)) s 47 (Z0 s+1)).1),
      flt (Ze3 (Zar (s.take (Z0 s))) (decide (s.head? = some 45)) s 47 (Z0 s+1)).2.1 (Ze3 (Zar (s.take (Z0 s))) (decide (s.head? = some 45)) s 47 (Z0 s+1)).2.2]):=by
     rw[ho];simp only[Ze3,if_true];split
     ·rfl
     ·split<;>rfl
    clear ho eR hd;generalize Ze3 (Zar (s.take (Z0 s))) (decide (s.head? = some 45)) s 47 (Z0 s+1)=R at *
    generalize fz R.1=Z at *
    have ec:((Z0 s+1:Nat):Int)=(Z0 s:Int)+1:=by omega
    rw[ec]at ho2 w1;clear hrl h0 c0 ht;generalize Zar (s.take (Z0 s))=RZ at *
    simp -implicitDefEqProofs[hi,hr,q1,q2,q3,q4,hle,hc,hg,hgE,w1,ho2]
   ·have ho:=zqr (T:=T) ht (decide (Zar (s.take (Z0 s))<0)) (decide (s.head? = some 45)) (ofN (Zar (s.take (Z0 s))).natAbs) s (Z0 s+1) (by omega) (by omega) (by omega);rw[zae]at ho;have ho2:Zb T 255 [ez (Zar (s.take (Z0 s))),.b (decide (s.head? = some 45)),.s s,.i .i64 ((Z0 s+1:Nat):Int)]=some (.tup [efz (fz (Ze3 (Zar (s.take (Z0 s))) (decide (s.head? = some 45)) s 46 (Z0 s+1)).1),
      flt (Ze3 (Zar (s.take (Z0 s))) (decide (s.head? = some 45)) s 46 (Z0 s+1)).2.1 (Ze3 (Zar (s.take (Z0 s))) (decide (s.head? = some 45)) s 46 (Z0 s+1)).2.2]):=by
     rw[ho];simp only[Ze3,show ¬ ((46:UInt8)=47) by decide,if_false];split<;>rfl
    clear ho eR hd;generalize Ze3 (Zar (s.take (Z0 s))) (decide (s.head? = some 45)) s 46 (Z0 s+1)=R at *
    generalize fz R.1=Z at *
    have ec:((Z0 s+1:Nat):Int)=(Z0 s:Int)+1:=by omega
    rw[ec]at ho2 w1;clear hrl h0 c0 ht;generalize Zar (s.take (Z0 s))=RZ at *
    generalize decide (s.head? = some 45)=hd45 at *
    simp -implicitDefEqProofs[hi,hr,q1,q2,q3,q4,hle,hc,hg,hgE,w1,px,ho2]
 ·rw[if_neg hc]at hi;have hcl:Z0 s=s.length:=by omega
  have htk:s.take (Z0 s)=s:=by rw[hcl];exact Yci
  rw[htk]at hr;by_cases h0:0≤Zbq s
  ·have eR:Zab s=(0,1,Zbq s+Zcw s):=by simp only[Zab,htk,if_pos h0]
   rw[eR];rw[if_pos h0]at hr;clear eR;simp only;generalize fz 0=Z at *
   generalize Zbq s+Zcw s=W at *
   simp -implicitDefEqProofs[hi,hr,c0]
  ·have eR:Zab s=(mkRat (Zar s) 1,0,0):=by simp only[Zab,htk,if_neg h0,if_neg hc]
   rw[eR];rw[if_neg h0]at hr;have hrl:=zkk h0;have h1:=zds (T:=T) 1 (by decide);have h2:=zj1 (T:=T) (decide (Zar s<0)) (ofN (Zar s).natAbs) (ofN 1) (by omega) (by rw[zdw];decide);rw[zae,if_neg (by decide),zie]at h2;clear hrl h0 c0 ht eR;simp only;generalize fz (mkRat (Zar s) 1)=Z at *
   generalize Zar s=RZ at *
   generalize ofN 1=O at *
   simp -implicitDefEqProofs[hi,hr,h1,h2]
end
end Go.Ab
end
section
namespace Go.Ab
def Zaq:List (List UInt8)→Nat→List Rat→List Rat×Int×Int
 | [],_,acc=>(acc,0,0)
 | w::ws,k,acc=>if (Zab w).2.1=0 then Zaq ws (k+w.length+1) (acc++[(Zab w).1]) else ([],(Zab w).2.1,(Zab w).2.2+k)
def Zca(s:List UInt8):List Rat×Int×Int:=if s=[] then ([],0,0) else Zaq (Zx 44 s) 0 []
theorem zfm(w:List UInt8):((Zab w).2.1=0∧(Zab w).2.2=0)∨(((Zab w).2.1=1∨(Zab w).2.1=2)∧0≤(Zab w).2.2∧(Zab w).2.2≤w.length+62):=by
 have hle:=zj0 w;obtain⟨z1,z2,z3,z4⟩:=ztv (w.take (Z0 w));unfold Zab;simp only;split
 ·next h=>refine .inr ⟨.inl rfl,?_,?_⟩<;>simp only<;>omega
 ·split
  ·next h h2=>
   unfold Ze3;simp only;split
   ·next h3=>
    have:Z1 (w.drop (Z0 w+1))≤60:=by
     unfold Z1;split
     ·omega
     ·exact zh2 0 _ (by decide)
    refine .inr ⟨.inl rfl,?_,?_⟩<;>simp only<;>omega
   ·split
    ·split
     ·refine .inr ⟨.inr rfl,?_,?_⟩<;>simp only<;>omega
     ·left;simp
    ·left;simp
  ·left;simp
section
variable{T:Tbl}[Z8 T][Zp T][Zu T][Zy T][Zr T][Zt T][Zo T][Zap T][Ze T][Zj T][Zv T][Zbk T][Zc1 T][Zan T][Zb3 T][Zc0 T][Zak T][Zba T][Zc5 T]
theorem zww(n:Nat)(hn:n≤60):Zb T 252 [.i .i64 n]=some (.sl (Za (ofN (10^n))) .an):=by
 have c1:=zds (T:=T) 10 (by decide);have hb:Z3 10=4:=by decide +kernel
 have c2:=zxl (T:=T) (ofN 10) n (by
  have:=zag (n:=10) (k:=1) (by decide);omega) (by rw[zae,hb];decide) (by rw[zae,hb];omega)
 rw[zae]at c2;rw[zab Zc0.h252 rfl,b252];generalize ofN (10^n)=R at *
 generalize ofN 10=N at *
 simp -implicitDefEqProofs[c1,c2]
theorem zlx(s:List UInt8)(hs:s.length≤100000):Zb T 256 [.s s]=some (.tup [efz (fz (Zab s).1),flt (Zab s).2.1 (Zab s).2.2]):=
 zwv (T:=T) zww s hs
def Zir(ws:List (List UInt8))(y:Nat×Nat×List Rat):St:=
 ⟨[(3,.ptr (.loc 3) 1 4 0 0),(4,.bs (.loc 4) 2 3 0 y.2.2.length),(5,.i .i64 y.2.1),(14,.sl (Zq ws) .an),(15,.i .i64 ws.length),(16,.i .i64 y.1)],
  [(.loc 3,⟨1,.str,4,[[.i .i64 0,.i .i64 0,.i .i64 0,.i .i64 0]]⟩),(.loc 4,⟨2,.own,3,Zd (fzs y.2.2)⟩)],4⟩
def Zht(r:List Rat×Int×Int):Option (Ex×St):=
 if r.2.1=0 then some (.n,⟨[(3,.ptr (.loc 3) 1 4 0 0),(4,.bs (.loc 4) 2 3 0 r.1.length)],[(.loc 3,⟨1,.str,4,[[.i .i64 0,.i .i64 0,.i .i64 0,.i .i64 0]]⟩),(.loc 4,⟨2,.own,3,Zd (fzs r.1)⟩)],4⟩)
 else some (.r,⟨[(2,.sl [] .an),(3,.ptr (.loc 3) 1 4 0 0)],[(.loc 3,⟨1,.str,4,[[.i .i64 r.2.1,.i .i64 0,.i .i64 0,.i .i64 r.2.2]]⟩)],3⟩)
theorem z0s(ws:List (List UInt8))(hl:ws.length≤1000000)(hw:∀w∈ws,w.length≤100000):∀y:Nat×Nat×List Rat,(y.1≤ws.length∧y.2.1≤y.1*100001∧y.2.2.length=y.1) →
  Zw T 0 0 (.norm false [3,4]) l275_0 (Zir ws y)=Zht (Zaq (ws.drop y.1) y.2.1 y.2.2):=by
 refine zav (Zir ws) (fun y=>y.1≤ws.length∧y.2.1≤y.1*100001∧y.2.2.length=y.1) (fun y=>ws.length-y.1) (fun y=>Zht (Zaq (ws.drop y.1) y.2.1 y.2.2)) ?_
 rintro⟨i,k,acc⟩ ⟨hi,hk,ha⟩
 simp only at hi hk ha ⊢;by_cases h0:i<ws.length
 ·have hm:=Yv h0;have hwl:=hw _ hm;have hg:(Zq ws)[i]? = some [.s (ws[i]'h0)]:=by simp[Zq,h0]
  have hil:i<(Zq ws).length:=by simpa using h0
  have hil':(i:Int)<ws.length:=by omega
  obtain⟨_,hgE⟩:=Yag.1 hg;have hwR:=zeb ws;have c:=zlx (T:=T) (ws[i]'h0) hwl;have hf:=zfm (ws[i]'h0);have hdr:ws.drop i=ws[i]'h0::ws.drop (i+1):=Yt h0;have hws:=zcs h0 (by omega);generalize ws[i]'h0=w at *
  have hml:(fzs acc).length=i:=by rw[zct,ha]
  have hb4:i≤4294967295:=by omega
  rcases hf with ⟨f1,f2⟩ | ⟨f1,f2,f3⟩
  ·left;have hp:=zfa hml (fz (Zab w).1);have ef:fzs (acc++[(Zab w).1])=fzs acc++[fz (Zab w).1]:=by simp[fzs]
   have w1:IntKind.wrap .i64 ((w.length:Int)+1)=(w.length:Int)+1:=zac _ (by omega);have w2:IntKind.wrap .i64 ((k:Int)+((w.length:Int)+1))=((k+w.length+1:Nat):Int):=by
    have:((k+w.length+1:Nat):Int)=(k:Int)+((w.length:Int)+1):=by omega
    rw[this];exact zac _ (by omega)
   refine⟨(i+1,k+w.length+1,acc++[(Zab w).1]),⟨by omega,by simp only;omega,by simp[ha]⟩,by simp only;omega,?_,?_⟩
   ·unfold Zir;simp only[Yp,Yd,Y7,ha];rw[ef];rw[f1,f2]at c;clear hdr ef hw f1 f2;generalize fz (Zab w).1=X at *
    generalize fzs acc=M at *
    generalize Zq ws=R at *
    simp -implicitDefEqProofs[l275_0,h0,hil,hil',hg,hgE,c,hws,w1,w2,hml,hb4,hp,hwR]
   ·simp only;rw[hdr,Zaq,if_pos f1]
  ·right;have hne:¬ (Zab w).2.1=0:=by omega
   have er:Zaq (ws.drop i) k acc=([],(Zab w).2.1,(Zab w).2.2+k):=by rw[hdr,Zaq,if_neg hne]
   rw[er];unfold Zht Zir;simp only[ha];rw[if_neg hne];have w1:IntKind.wrap .i64 ((Zab w).2.2+(k:Int))=(Zab w).2.2+(k:Int):=zac _ (by omega);clear hdr er hw;generalize fz (Zab w).1=X at *
   generalize (Zab w).2.1=K at *
   generalize (Zab w).2.2=A at *
   generalize fzs acc=M at *
   generalize Zq ws=R at *
   rcases f1 with rfl | rfl<;>(constructor<;>simp -implicitDefEqProofs[l275_0,h0,hil,hil',hg,hgE,c,w1])
 ·right;have hi2:i=ws.length:=by omega
  subst hi2;rw[Yaf,Zaq];unfold Zht Zir;simp only[if_true,ha];have hn:¬ ws.length<(Zq ws).length:=by simp
  generalize fzs acc=M at *
  generalize Zq ws=R at *
  generalize ws.length=n at *
  constructor<;>simp -implicitDefEqProofs[l275_0]
theorem zly:∀(ws:List (List UInt8)) (k:Nat) (acc:List Rat),(Zaq ws k acc).2.1≠0→(Zaq ws k acc).1=[]
 | [],_,_,h=>by simp[Zaq]at h
 | w::ws,k,acc,h=>by
  unfold Zaq at h ⊢;split at h
  ·next h1=>rw[if_pos h1];exact zly ws _ _ h
  ·next h1=>rw[if_neg h1]
theorem zo9:∀(ws:List (List UInt8)) (k:Nat) (acc:List Rat),(Zaq ws k acc).2.1=0→(Zaq ws k acc).2.2=0
 | [],_,_,h=>rfl
 | w::ws,k,acc,h=>by
  unfold Zaq at h ⊢;split at h
  ·next h1=>rw[if_pos h1];exact zo9 ws _ _ h
  ·next h1=>exact absurd h h1
theorem zpa(s:List UInt8)(hs:s.length≤100000) :
  Zb T 275 [.s s]=some (.tup [.sl (Zd (fzs (Zca s).1)) .an,flt (Zca s).2.1 (Zca s).2.2]):=by
 rw[zab Zc5.h275 rfl,b275];unfold Zca;by_cases h0:s=[]
 ·subst h0;have e0:fzs []=[]:=rfl;simp only[if_true,e0,zfc];simp -implicitDefEqProofs
 ·rw[if_neg h0];have hpl:∀(l:List UInt8) (w:List UInt8),w∈Zx 44 l→w.length≤l.length:=by
   intro l
   induction l with
   | nil=>intro w hw;simp[Zx]at hw;simp[hw]
   | cons b l ih=>
    intro w hw;unfold Zx at hw;split at hw
    ·rcases Yj.1 hw with rfl | hw
     ·simp
     ·have:=ih w hw;simp;omega
    ·cases hsp:Zx 44 l with
     | nil=>rw[hsp]at hw;simp at hw;simp[hw]
     | cons p r=>
      rw[hsp]at hw ih;rcases Yj.1 hw with rfl | hw
      ·have:=ih p Yk;simp;omega
      ·have:=ih w (Yg _ hw);simp;omega
  have hcl:(Zx 44 s).length≤s.length+1:=by
   rw[zbu];have:s.count 44≤s.length:=List.count_le_length;omega
  have c:=zvf (T:=T) s 44 (by omega);have h:=z0s (T:=T) (Zx 44 s) (by omega) (fun w hw=>by have:=hpl s w hw;omega) (0,0,[]) ⟨Y1 _,Y1 _,rfl⟩;have hnil:=zly (Zx 44 s) 0 [];have hat:=zo9 (Zx 44 s) 0 [];simp only[Ya3]at h;unfold Zir at h;have e0:fzs []=[]:=rfl;simp only[e0,zfc,Yac,Y7]at h;generalize Zaq (Zx 44 s) 0 []=r at *
  unfold Zht at h;have hsl:=zar (Zx 44 s);have hwR:=zeb (Zx 44 s);generalize Zq (Zx 44 s)=R at *
  generalize (Zx 44 s).length=n at *
  by_cases hr:r.2.1=0
  ·rw[if_pos hr]at h;have ha:=hat hr;rw[hr,ha];have hml:(fzs r.1).length=r.1.length:=zct r.1;generalize fzs r.1=M at *
   generalize r.1.length=m at *
   have ht:List.take m M=M:=Yb (by omega);simp -implicitDefEqProofs[h0,c,hsl,h,ht,hml,hwR]
  ·rw[if_neg hr]at h;rw[hnil hr];simp only[e0,zfc];simp -implicitDefEqProofs[h0,c,hsl,h,hwR]
end
end Go.Ab
end
section
namespace Go.Ab
def Dig(l:List UInt8):Prop:=∀c∈l,48≤c.toNat∧c.toNat≤57
theorem zgm{n:Nat}(h:n<10):(UInt8.ofNat (48+n)).toNat=48+n:=by
 rw[UInt8.toNat_ofNat'];omega
theorem zbg(n:Nat):Dig (Zz n):=by
 induction n using Nat.strongRecOn with
 | _ n ih=>
  by_cases h:n<10
  ·rw[zbf h];intro c hc;rw[Yaa]at hc;rw[hc,zgm h];omega
  ·rw[zdu h];intro c hc;rcases Yab.1 hc with hc | hc
   ·exact ih (n/10) (by omega) c hc
   ·rw[Yaa]at hc;rw[hc,zgm (by omega)];omega
theorem zgn(n:Nat):Zz n≠[]:=by
 by_cases h:n<10
 ·rw[zbf h];simp
 ·rw[zdu h];simp
theorem zkl(n:Nat):rd (Zz n)=n:=by
 induction n using Nat.strongRecOn with
 | _ n ih=>
  by_cases h:n<10
  ·rw[zbf h];show 0*10+((UInt8.ofNat (48+n)).toNat-48)=n;rw[zgm h];omega
  ·rw[zdu h,zvp,ih (n/10) (by omega),zgm (by omega)];omega
theorem zpw:∀(l:List UInt8) (k:Nat),Dig l→k+l.length≤60→Zcp k l=-1
 | [],_,_,_=>rfl
 | c::r,k,h,hk=>by
  have hc:=h c Yk;simp only[Yd]at hk;rw[Zcp,if_neg (by omega)];exact zpw r (k+1) (fun d hd=>h d (Yg _ hd)) (by omega)
theorem zfz{l:List UInt8}(h:Dig l)(h0:l≠[])(hl:l.length≤60):Z1 l=-1:=by
 unfold Z1;rw[if_neg h0];exact zpw l 0 h (by omega)
theorem zyd{l:List UInt8}(h:Dig l):¬ l.head? = some 45:=by
 cases l with
 | nil=>simp
 | cons c r=>
  intro e;simp only[List.head?_cons,Option.some.injEq]at e;have:=h c Yk;rw[e]at this;have e2:(45:UInt8).toNat=45:=rfl;omega
theorem zjg(z:Int):((Z9 z).head? = some 45)↔z<0:=by
 unfold Z9;split
 ·next h=>simp[h]
 ·next h=>exact⟨fun e=>absurd e (zyd (zbg _)),fun e=>absurd e h⟩
theorem zrw{z:Int}(hl:(Zz z.natAbs).length≤60):Zbq (Z9 z)=-1∧Zar (Z9 z)=z:=by
 unfold Zbq Zar;by_cases hz:z<0
 ·have h1:=(zjg z).2 hz;have h2:(Z9 z).tail=Zz z.natAbs:=by unfold Z9;rw[if_pos hz];rfl
  simp only[h1,if_true,h2,zkl,decide_true];refine⟨zfz (zbg _) (zgn _) hl,?_⟩;simp[sg];omega
 ·have h1:¬ (Z9 z).head? = some 45:=fun e=>hz ((zjg z).1 e);have h2:Z9 z=Zz z.natAbs:=by unfold Z9;rw[if_neg hz]
  simp only[h1,if_false,decide_false];rw[h2,zkl];refine⟨zfz (zbg _) (zgn _) hl,?_⟩;simp[sg];omega
def Zil(l:List UInt8):Prop:=∀c∈l,Zfe c=false
theorem zmv{l:List UInt8}(h:Dig l):Zil l:=by
 intro c hc;have:=h c hc;have e1:¬ c=47:=fun e=>by rw[e]at this;have e2:(47:UInt8).toNat=47:=rfl;omega
 have e2:¬ c=46:=fun e=>by rw[e]at this;have e2:(46:UInt8).toNat=46:=rfl;omega
 simp[Zfe,e1,e2]
theorem zh7(z:Int):Zil (Z9 z):=by
 unfold Z9;split
 ·intro c hc;rcases Yj.1 hc with rfl | hc
  ·rfl
  ·exact zmv (zbg _) c hc
 ·exact zmv (zbg _)
theorem zmw:∀{l:List UInt8},Zil l→Z0 l=l.length
 | [],_=>rfl
 | c::r,h=>by
  have h1:=h c Yk;have h2:=zmw (l:=r) fun d hd=>h d (Yg _ hd);simp[Z0,h1,h2]
theorem zvy:∀{l:List UInt8} (c:UInt8) (r:List UInt8),Zil l→Zfe c=true→Z0 (l++c::r)=l.length
 | [],c,r,_,hc=>by simp[Z0,hc]
 | d::l,c,r,h,hc=>by
  have h1:=h d Yk;have h2:=zvy (l:=l) c r (fun d hd=>h d (Yg _ hd)) hc;simp[Z0,h1,h2]
theorem zmx{q:Rat}(h1:(Zz q.num.natAbs).length≤60)(h2:(Zz q.den).length≤60):Zab (Zaj q)=(q,0,0):=by
 obtain⟨w1,w2⟩:=zrw h1;unfold Zaj;split
 ·next hd=>
  have hc:=zmw (zh7 q.num);have ht:(Z9 q.num).take (Z0 (Z9 q.num))=Z9 q.num:=by rw[hc];exact Yci
  unfold Zab;simp only[hc,Yci,w1,w2,Ybb,if_false,show ¬ ((0:Int)≤-1) by decide];have e:mkRat q.num 1=q:=by
   have:=Yeo q
   rwa [hd]at this
  rw[e]
 ·next hd=>
  have hc:=zvy (l:=Z9 q.num) 47 (Zz q.den) (zh7 q.num) rfl;have ht:(Z9 q.num++47::Zz q.den).take (Z0 (Z9 q.num++47::Zz q.den))=Z9 q.num:=by rw[hc];exact List.take_left
  have hlt:Z0 (Z9 q.num++47::Zz q.den)<(Z9 q.num++47::Zz q.den).length:=by rw[hc];simp
  have hg:(Z9 q.num++47::Zz q.den).getD (Z0 (Z9 q.num++47::Zz q.den)) 0=47:=by rw[hc];simp
  have hdr:(Z9 q.num++47::Zz q.den).drop (Z0 (Z9 q.num++47::Zz q.den)+1)=Zz q.den:=by
   rw[hc,Yeb];simp
  unfold Zab;simp only[ht,w1,w2,hg,if_pos hlt,show ¬ ((0:Int)≤-1) by decide,if_false];unfold Ze3;simp only[hdr,zfz (zbg q.den) (zgn _) h2,show ¬ ((0:Int)≤-1) by decide,if_false,if_true,zkl];rw[if_neg q.den_nz,Yeo]
theorem zoa(q:Rat):∀c∈Zaj q,c≠44:=by
 have hz:∀z:Int,∀c∈Z9 z,c≠44:=by
  intro z;unfold Z9;have hd:∀n,∀c∈Zz n,c≠44:=fun n c hc e=>by
   have:=zbg n c hc;rw[e]at this;have e2:(44:UInt8).toNat=44:=rfl;omega
  split
  ·intro c hc;rcases Yj.1 hc with rfl | hc
   ·decide
   ·exact hd _ c hc
  ·exact hd _
 unfold Zaj;split
 ·exact hz _
 ·intro c hc;rcases Yab.1 hc with hc | hc
  ·exact hz _ c hc
  ·rcases Yj.1 hc with rfl | hc
   ·decide
   ·intro e;have:=zbg _ c hc;rw[e]at this;have e2:(44:UInt8).toNat=44:=rfl;omega
theorem zmy{c:UInt8}:∀{l:List UInt8},(∀b∈l,b≠c)→Zx c l=[l]
 | [],_=>rfl
 | b::l,h=>by
  have h1:=h b Yk;have h2:=zmy (l:=l) fun d hd=>h d (Yg _ hd);simp[Zx,h1,h2]
theorem zjh{c:UInt8}:∀{l:List UInt8} (r:List UInt8),(∀b∈l,b≠c)→Zx c (l++c::r)=l::Zx c r
 | [],r,_=>by simp[Zx]
 | b::l,r,h=>by
  have h1:=h b Yk;have h2:=zjh (l:=l) r fun d hd=>h d (Yg _ hd);simp[Zx,h1,h2]
theorem zf8{c:UInt8}:∀(t:List UInt8) (ts:List (List UInt8)),(∀t'∈t::ts,∀b∈t',b≠c)→Zx c (List.intercalate [c] (t::ts))=t::ts
 | t,[],h=>by
  have e:List.intercalate [c] [t]=t:=by simp[List.intercalate]
  rw[e,zmy (h t Yk)]
 | t,t2::ts,h=>by
  have e:List.intercalate [c] (t::t2::ts)=t++c::List.intercalate [c] (t2::ts):=by simp[List.intercalate]
  rw[e,zjh _ (h t Yk),zf8 t2 ts fun t' ht=>h t' (Yg _ ht)]
theorem zh8:∀(l:List Rat) (k:Nat) (acc:List Rat),(∀q∈l,(Zz q.num.natAbs).length≤60∧(Zz q.den).length≤60)→Zaq (l.map Zaj) k acc=(acc++l,0,0)
 | [],k,acc,_=>by simp[Zaq]
 | q::l,k,acc,h=>by
  obtain⟨h1,h2⟩:=h q Yk;rw[Ys,Zaq,zmx h1 h2,if_pos rfl];have:=zh8 l (k+(Zaj q).length+1) (acc++[q]) fun p hp=>h p (Yg _ hp);rw[this];simp
theorem zye(q:Rat):Zaj q≠[]:=by
 unfold Zaj;have hz:Z9 q.num≠[]:=by
  unfold Z9;split
  ·simp
  ·exact zgn _
 split
 ·exact hz
 ·simp
theorem zrx(l:List Rat)(h:∀q∈l,(Zz q.num.natAbs).length≤60∧(Zz q.den).length≤60):Zca (List.intercalate [44] (l.map Zaj))=(l,0,0):=by
 cases l with
 | nil=>rfl
 | cons q l=>
  have hne:List.intercalate [44] ((q::l).map Zaj)≠[]:=by
   have:=zye q;cases l with
   | nil=>simpa[List.intercalate]using this
   | cons p l=>simp[List.intercalate]
  unfold Zca;rw[if_neg hne,Ys,zf8 _ _ (fun t ht=>by
   rw[←Ys]at ht;obtain⟨p,_,rfl⟩:=Y4.1 ht;exact zoa p),←Ys,zh8 _ _ _ h]
  simp
theorem zdf{n k d:Nat}(h:(ofN n).length≤k)(hk:4294967296^k<10^(d+1)):(Zz n).length≤d+1:=by
 refine zh5 ?_;have h1:=zaw (ofN n);rw[zae]at h1;have h2:4294967296^(ofN n).length≤4294967296^k:=Yr (by decide) h;omega
end Go.Ab
end
section
namespace Go.Ab
def Zcb(c:Fz)(r:List Fz):List UInt8:=Zaj (fv c)++[124]++List.intercalate [44] (Z4 r)
def Zdy(s:Sm):List (List UInt8):=
 [s.nm]++(s.c.zip s.a).map (fun p=>Zcb p.1 p.2)++[[98,32]++List.intercalate [44] (Z4 s.b)]++(if s.e=[] then [] else [[101,32]++List.intercalate [44] (Z4 s.e)])
def textS(s:Sm):List UInt8:=List.intercalate [10] (Zdy s)
structure Rd where
 rest:List UInt8
 at_:Nat
 over:Bool
def hdC(c:UInt8)(l:List UInt8):List UInt8:=l.takeWhile (· != c)
def tlC(c:UInt8)(l:List UInt8):List UInt8:=(l.dropWhile (· != c)).drop 1
def Zi(r:Rd):List UInt8:=if r.over then [] else hdC 10 r.rest
def Z2(r:Rd):Rd:=if r.over then r else ⟨tlC 10 r.rest,r.at_+(hdC 10 r.rest).length+(if r.rest.contains 10 then 1 else 0),!r.rest.contains 10⟩
def shF(f:Int×Int)(b:Int):Int×Int:=if f=(0,0) then f else (f.1,f.2+b)
def Zb7(l:List UInt8)(from_:Int):Rat×List Rat×Int×Int:=
 if (Zab (hdC 124 l)).2≠(0,0) then ((Zab (hdC 124 l)).1,[],shF (Zab (hdC 124 l)).2 from_)
 else ((Zab (hdC 124 l)).1,(Zca (tlC 124 l)).1,shF (Zca (tlC 124 l)).2 (from_+(hdC 124 l).length+1))
def Zdg(c:UInt8)(r:Rd):List Rat×Int×Int:=
 if (Zi r).take 2=[c,32] then ((Zca ((Zi r).drop 2)).1,shF (Zca ((Zi r).drop 2)).2 (r.at_+2)) else ([],1,r.at_)
end Go.Ab
end
section
namespace Go.Ab
class Zk9 (T:Tbl):Prop where
end Go.Ab
end
section
namespace Go.Ab
theorem zvb(l:List Fz)(x:Fz):sumF (l++[x])=sumF l+fv x:=by simp[sumF]
theorem zhz(l:List Fz){i:Nat}(h:i<l.length):sumF (l.take (i+1))=sumF (l.take i)+fv (l[i]'h):=by
 rw[Ya5 h,zvb]
theorem zh0{l:List Fz}{B:Nat}(hw:∀x∈l,fsz x≤B)(hB:1≤B):∀i,i≤l.length→sz (sumF (l.take i))≤i*(B+1)+1
 | 0,_=>by
  grind[sumF,zvu]
 | i+1,hi=>by
  have ih:=zh0 hw hB i (by omega);rw[zhz l hi];have h1:=zvv (sumF (l.take i)) (fv (l[i]'hi));have h3:=zeq (hw _ (Yv hi)) hB
  grind
theorem zkf{x:Fz}(h:Za7 x=true):fsz x≤6:=by
 unfold Za7 at h;simp only[Yn,decide_eq_true_eq]at h;obtain⟨h1,h2⟩:=h;unfold Zcs at h1;have e:x=fz (fv x):=by grind
 rw[e]at h2 ⊢;have:=z1f (q:=fv x) (b:=190) h2;rw[zbk];omega
section
variable{T:Tbl}[Z8 T][Zp T][Zu T][Zy T][Zr T][Zt T][Ze T][Zj T][Zv T][Zaw T][Za3 T][Zb3 T][Zci T][Zb2 T][Zcv T][Ze2 T][Ze0 T][Zaa T]
def Zjy(l:List Fz)(i:Nat):St:=⟨[(2,.ptr (.loc 2) 1 3 0 0),(3,.ptr (.loc 3) 2 3 0 0),(7,.sl (Zd l) .an),(8,.i .i64 l.length),(9,.i .i64 i)],
 [(.loc 2,⟨1,.str,3,[Zec]⟩),(.loc 3,⟨2,.str,3,[Zc2 (fz (sumF (l.take i)))]⟩)],4⟩
theorem zxy(l:List Fz){B:Nat}(hw:∀x∈l,fsz x≤B)(hB:1≤B)(hS:l.length*(B+1)+1≤1000) :
  Zw T 0 0 (.norm false [2,3]) l562_0 (Zjy l 0)=some (.n,⟨[(2,.ptr (.loc 2) 1 3 0 0),(3,.ptr (.loc 3) 2 3 0 0)],[(.loc 2,⟨1,.str,3,[Zec]⟩),(.loc 3,⟨2,.str,3,[Zc2 (fz (sumF l))]⟩)],4⟩):=by
 refine za8 (Zjy l) l.length _ (fun i hi=>?_) ?_
 ·have hlen:l.length*1≤1000:=Yc (Ya1 _ (show 1≤B+1 by omega)) (by omega);have hBB:B+1≤1000:=Yc (Nat.le_mul_of_pos_left _ (show 0<l.length by omega)) (by omega);have hws:=zcs hi (by omega);have ha1:=hw _ (Yv hi);have s1:=zh0 hw hB i (by omega);have s2:i*(B+1)≤l.length*(B+1):=Yw _ (by omega);have c2:=zj2 (T:=T) (fz (sumF (l.take i))) (l[i]'hi) (by rw[zbk];omega) (by omega);rw[zdi,←zhz l hi]at c2;unfold Zjy;simp -implicitDefEqProofs[l562_0,hi,hws,c2]
 ·unfold Zjy;constructor<;>simp -implicitDefEqProofs[l562_0]
theorem zfv(l:List Fz){B:Nat}(hw:∀x∈l,fsz x≤B)(hB:1≤B)(hS:l.length*(B+1)+1≤1000) :
  Zb T 562 [.sl (Zd l) .an]=some (efz (fz (sumF l))):=by
 have h0:=zd5 (T:=T);have h:=zxy (T:=T) l hw hB hS;unfold Zjy at h;have e0:sumF (l.take 0)=0:=rfl;rw[e0]at h;simp only[Yac]at h;rw[zab Zaa.h562 rfl,b562];simp -implicitDefEqProofs[h0,h]
def Zgs(m:List (List Fz))(r:List Fz)(j i:Nat):St:=⟨[(7,.sl (Zs m) .an),(8,.i .i64 m.length),(9,.i .i64 j),(13,.sl (Zd r) .an),(14,.i .i64 r.length),(15,.i .i64 i)],[],2⟩
theorem zvc(m:List (List Fz))(r:List Fz)(j:Nat)(hl:r.length≤1000)(hw:∀x∈r,fsz x≤1000) :
  Zw T 0 2 (.norm false [7,8,9]) l560_0 (Zgs m r j 0)=if (r.drop 0).all Za7=true then some (.n,⟨[(7,.sl (Zs m) .an),(8,.i .i64 m.length),(9,.i .i64 j)],[],2⟩) else some (.r,⟨[(2,.b false)],[],2⟩):=by
 refine zbi (Zgs m r j) r.length (fun i=>if (r.drop i).all Za7=true then some (.n,⟨[(7,.sl (Zs m) .an),(8,.i .i64 m.length),(9,.i .i64 j)],[],2⟩) else some (.r,⟨[(2,.b false)],[],2⟩)) (fun i hi=>?_) ?_
 ·have hws:=zcs hi (by omega);have hx:=hw _ (Yv hi);have c1:=zqw (T:=T) (r[i]'hi) (by omega);have c2:=zqx (T:=T) (r[i]'hi) (by omega);have key:(r.drop i).all Za7=(Za7 (r[i]'hi)&&(r.drop (i+1)).all Za7):=by rw[Yt hi,Ybz]
  have hn:Za7 (r[i]'hi)=(Zcs (r[i]'hi)&&decide (Zed (r[i]'hi)≤190)):=rfl;by_cases h1:Zcs (r[i]'hi)=true
  ·by_cases h2:Zed (r[i]'hi)≤190
   ·left;refine⟨?_,by grind⟩;have h3:¬ (190:Int)<Zed (r[i]'hi):=by omega
    unfold Zgs;simp -implicitDefEqProofs[l560_0,hi,hws,c1,c2,h1,h3]
   ·right;have h3:(190:Int)<Zed (r[i]'hi):=by omega
    rw[if_neg (by grind)];unfold Zgs;constructor<;>simp -implicitDefEqProofs[l560_0,hi,c1,c2,h1,h3]
  ·right;have h1':Zcs (r[i]'hi)=false:=by grind
   rw[if_neg (by grind)];unfold Zgs;constructor<;>simp -implicitDefEqProofs[l560_0,hi,c1,h1']
 ·simp only[Yaf,Yeh,if_true];unfold Zgs;constructor<;>simp -implicitDefEqProofs[l560_0]
def Zhb(m:List (List Fz))(i:Nat):St:=⟨[(7,.sl (Zs m) .an),(8,.i .i64 m.length),(9,.i .i64 i)],[],2⟩
theorem zvd(m:List (List Fz))(hl:m.length≤1000)(hw:∀r∈m,r.length≤1000∧∀x∈r,fsz x≤1000) :
  Zw T 0 0 (.norm false []) l560_1 (Zhb m 0)=if Zda (m.drop 0)=true then some (.n,⟨[],[],2⟩) else some (.r,⟨[(2,.b false)],[],2⟩):=by
 refine zbi (Zhb m) m.length (fun i=>if Zda (m.drop i)=true then some (.n,⟨[],[],2⟩) else some (.r,⟨[(2,.b false)],[],2⟩)) (fun i hi=>?_) ?_
 ·have hws:=zcs hi (by omega);obtain⟨h1,h2⟩:=hw _ (Yv hi);have h:=zvc (T:=T) m (m[i]'hi) i h1 h2;have key:Zda (m.drop i)=((m[i]'hi).all Za7&&Zda (m.drop (i+1))):=by grind[Zda,List.drop_eq_getElem_cons]
  unfold Zgs at h;rw[Ya3]at h;simp only[Yac]at h;by_cases hr:(m[i]'hi).all Za7=true
  ·left;rw[if_pos hr]at h;refine⟨?_,by grind⟩;unfold Zhb;simp -implicitDefEqProofs[l560_1,hi,hws,h]
  ·right;rw[if_neg hr]at h;rw[if_neg (by grind)];unfold Zhb;constructor<;>simp -implicitDefEqProofs[l560_1,hi,h]
 ·have e:Zda []=true:=rfl;simp only[Yaf,e,if_true];unfold Zhb;constructor<;>simp -implicitDefEqProofs[l560_1]
theorem zeh(m:List (List Fz))(hl:m.length≤1000)(hw:∀r∈m,r.length≤1000∧∀x∈r,fsz x≤1000):Zb T 560 [.sl (Zs m) .an]=some (.b (Zda m)):=by
 have h:=zvd (T:=T) m hl hw;unfold Zhb at h;rw[Ya3]at h;simp only[Yac]at h;rw[zab Zaa.h560 rfl,b560];cases hn:Zda m with
 | true=>rw[hn]at h;simp at h;simp -implicitDefEqProofs[h]
 | false=>rw[hn]at h;simp at h;simp -implicitDefEqProofs[h]
def Zhc(a:List (List Fz))(i:Nat):St:=⟨[(43,.sl (Zs a) .an),(44,.i .i64 a.length),(45,.i .i64 i)],[],2⟩
theorem zrk(a:List (List Fz))(hl:a.length≤1000) :
  Zw T 0 0 (.norm false []) l559_0 (Zhc a 0)=if Zb4 (a.drop 0) 0=true then some (.n,⟨[],[],2⟩) else some (.r,⟨[(2,.b false)],[],2⟩):=by
 refine zbi (Zhc a) a.length (fun i=>if Zb4 (a.drop i) i=true then some (.n,⟨[],[],2⟩) else some (.r,⟨[(2,.b false)],[],2⟩)) (fun i hi=>?_) ?_
 ·have hws:=zcs hi (by omega);have key:Zb4 (a.drop i) i=(decide ((a[i]'hi).length=i)&&Zb4 (a.drop (i+1)) (i+1)):=by rw[Yt hi,Zb4]
  by_cases hr:(a[i]'hi).length=i
  ·left;refine⟨?_,by grind⟩;unfold Zhc;simp -implicitDefEqProofs[l559_0,hi,hws,hr]
  ·right;have hr':¬ ((a[i]'hi).length:Int)=i:=by omega
   rw[if_neg (by grind)];unfold Zhc;constructor<;>simp -implicitDefEqProofs[l559_0,hi,hr']
 ·have e:Zb4 [] a.length=true:=rfl;simp only[Yaf,e,if_true];unfold Zhc;constructor<;>simp -implicitDefEqProofs[l559_0]
theorem zmn(s:Sm)(hs:SmS s):Zb T 559 [esm s]=some (.b (Zdx s)):=by
 have h:=zrk (T:=T) s.a hs.al;unfold Zhc at h;rw[Ya3]at h;have l4:=hs.el;rw[zab Zaa.h559 rfl,b559];unfold Zdx;obtain⟨nm,c,a,b,e⟩:=s;by_cases p1:b.length<1
 ·have q2:b=[]:=Yce.1 (by omega);subst q2;simp -implicitDefEqProofs[]
 have p1':1≤b.length:=by omega
 have m2:¬ (b.length:Int)<1:=by omega
 by_cases p2:8<b.length
 ·have q2:¬ b.length≤8:=by omega
  have m3:(8:Int)<b.length:=by omega
  simp -implicitDefEqProofs[p1',q2,m2,m3]
 have p2':b.length≤8:=by omega
 have m3:¬ (8:Int)<b.length:=by omega
 by_cases p3:c.length=b.length
 rotate_left
 ·have q3:¬ (c.length:Int)=b.length:=by omega
  simp -implicitDefEqProofs[p1',p2',m2,m3,p3,q3]
 by_cases p4:a.length=b.length
 rotate_left
 ·have q4:¬ (a.length:Int)=b.length:=by omega
  simp -implicitDefEqProofs[p1',p2',m2,m3,p3,p4,q4]
 rw[p4]at h;by_cases p5:e.length=b.length
 ·cases hsh:Zb4 a 0<;>rw[hsh]at h<;>simp at h<;>simp -implicitDefEqProofs[p1',p2',m2,m3,p3,p4,p5,h]
 have q5:¬ (e.length:Int)=b.length:=by omega
 by_cases p6:e.length=0
 ·have e0:e=[]:=Yce.1 p6;have q7:¬ (0:Int)=b.length:=by omega
  have q8:¬ 0=b.length:=by omega
  subst e0;cases hsh:Zb4 a 0<;>rw[hsh]at h<;>simp at h<;>simp -implicitDefEqProofs[p1',p2',m2,m3,p3,p4,q7,q8,h]
 ·have q7:¬ e=[]:=fun h=>p6 (by grind);simp -implicitDefEqProofs[p1',p2',m2,m3,p3,p4,p5,q5,p6]
def bxS(s:Sm):Box:=⟨1,.str,5,[[.s s.nm,.sl (Zd s.c) .an,.sl (Zs s.a) .an,.sl (Zd s.b) .an,.sl (Zd s.e) .an]]⟩
def Ziw(s:Sm)(i:Nat):St:=⟨[(1,.ptr (.loc 1) 1 5 0 0),(6,.sl (Zs s.a) .an),(7,.i .i64 s.a.length),(8,.i .i64 i)],[(.loc 1,bxS s)],3⟩
theorem zve(s:Sm)(hl:s.a.length≤8)(hc:s.c.length=s.a.length)(h1:∀r∈s.a,r.length≤8∧∀x∈r,fsz x≤6)(h2:∀x∈s.c,fsz x≤6) :
  Zw T 0 0 (.norm false []) l561_0 (Ziw s 0)=if Zcr (s.a.drop 0) (s.c.drop 0)=true then some (.n,⟨[],[],2⟩) else some (.r,⟨[(2,.b false)],[],2⟩):=by
 refine zbi (Ziw s) s.a.length (fun i=>if Zcr (s.a.drop i) (s.c.drop i)=true then some (.n,⟨[],[],2⟩) else some (.r,⟨[(2,.b false)],[],2⟩)) (fun i hi=>?_) ?_
 ·have hic:i<s.c.length:=by omega
  have hws:=zcs hi (by omega);obtain⟨g1,g2⟩:=h1 _ (Yv hi);have g3:=h2 _ (Yv hic);have c1:=zfv (T:=T) (s.a[i]'hi) g2 (by decide) (by omega);have z1:=zh0 g2 (by decide) (s.a[i]'hi).length (Yh _);rw[Yb (Yh _)]at z1;have c2:=ze5 (T:=T) (fz (sumF (s.a[i]'hi))) (s.c[i]'hic) (by rw[zbk];omega) (by omega);rw[zdi]at c2;have key:Zcr (s.a.drop i) (s.c.drop i)=(decide (sumF (s.a[i]'hi)=fv (s.c[i]'hic))&&Zcr (s.a.drop (i+1)) (s.c.drop (i+1))):=by
   grind[Zcr,List.drop_eq_getElem_cons,List.zip_cons_cons]
  have hic':(i:Int)<s.c.length:=by omega
  generalize fz (sumF (s.a[i]'hi))=z at *
  by_cases he:sumF (s.a[i]'hi)=fv (s.c[i]'hic)
  ·left;refine⟨?_,by grind⟩;unfold Ziw bxS;simp -implicitDefEqProofs[l561_0,hi,hws,c1,c2,he,hic,hic']
  ·right;rw[if_neg (by grind)];unfold Ziw bxS;constructor<;>simp -implicitDefEqProofs[l561_0,hi,c1,c2,he,hic,hic']
 ·have e:Zcr [] (s.c.drop s.a.length)=true:=rfl;simp only[Yaf,e,if_true];unfold Ziw bxS;constructor<;>simp -implicitDefEqProofs[l561_0]
theorem zn5(s:Sm)(hl:s.a.length≤8)(hc:s.c.length=s.a.length)(h1:∀r∈s.a,r.length≤8∧∀x∈r,fsz x≤6)(h2:∀x∈s.c,fsz x≤6):Zb T 561 [esm s]=some (.b (Zcr s.a s.c)):=by
 have h:=zve (T:=T) s hl hc h1 h2;unfold Ziw bxS at h;rw[Ya3,Ya3]at h;rw[zab Zaa.h561 rfl,b561];obtain⟨nm,c,a,b,e⟩:=s;cases hr:Zcr a c<;>rw[hr]at h<;>simp at h<;>simp -implicitDefEqProofs[h]
theorem zea:∀(a:List (List Fz)) (i:Nat),Zb4 a i=true→∀r∈a,r.length≤i+a.length
 | [],_,_,r,hr=>by grind
 | x::a,i,h,r,hr=>by
  simp only[Zb4,Yn,decide_eq_true_eq]at h;rcases Yj.1 hr with rfl | hr
  ·omega
  ·have:=zea a (i+1) h.2 r hr
   grind
theorem zi9{s:Sm}(h:Zdx s=true):1≤s.b.length∧s.b.length≤8∧s.c.length=s.b.length∧s.a.length=s.b.length∧(s.e.length=s.b.length∨s.e.length=0)∧Zb4 s.a 0=true:=by
 grind[Zdx]
theorem zkg{m:List (List Fz)}(h:Zda m=true):∀r∈m,∀x∈r,fsz x≤6:=by
 grind[Zda,zkf]
theorem zpr{l:List Fz}(hl:l.length≤8)(hw:∀x∈l,fsz x≤6):sz (sumF l)≤57:=by
 have:=zh0 hw (by decide) l.length (Yh _)
 grind
end
section
variable{T:Tbl}[Z8 T][Zp T][Zu T][Zy T][Zr T][Zt T][Ze T][Zj T][Zv T][Zaw T][Za3 T][Zb3 T][Zci T][Zb2 T][Zcv T][Ze2 T][Ze0 T][Zak T][Zb0 T][Zaa T]
theorem zf5(s:Sm)(hs:SmS s):Zb T 551 [esm s]=some (.i .i64 (Zby s)):=by
 have o1:=zwx (T:=T);have c1:=zl1 (T:=T) 2 0 s.nm (Yc hs.nm (by decide));have c2:=zmn (T:=T) s hs;have c3:=zeh (T:=T) s.a hs.al (fun r hr=>⟨(hs.a r hr).1,fun x hx=>Yc ((hs.a r hr).2 x hx) (by decide)⟩);have c4:=zeh (T:=T) [s.b,s.c,s.e] (by simp) (fun r hr=>by
  simp only[Yj,Yas,or_false]at hr;rcases hr with rfl | rfl | rfl
  ·exact⟨hs.bl,fun x hx=>Yc (hs.b x hx) (by decide)⟩
  ·exact⟨hs.cl,fun x hx=>Yc (hs.c x hx) (by decide)⟩
  ·exact⟨hs.el,fun x hx=>Yc (hs.e x hx) (by decide)⟩)
 replace c4:Zb T 560 [.sl [[.sl (Zd s.b) .an],[.sl (Zd s.c) .an],[.sl (Zd s.e) .an]] .an]=some (.b (Zda [s.b,s.c,s.e])):=c4;have k5:=zn5 (T:=T) s;have k6:=fun(hl:s.b.length≤8) (h:∀x∈s.b,fsz x≤6)=>zfv (T:=T) s.b h (by decide) (by omega);have k7:=fun(hl:s.e.length≤8) (h:∀x∈s.e,fsz x≤6)=>zfv (T:=T) s.e h (by decide) (by omega);rw[zab Zaa.h551 rfl,b551];unfold Zby;cases g1:Zbe 2 s.nm with
 | false=>
  rw[g1]at c1;obtain⟨nm,c,a,b,e⟩:=s;generalize fz 1=z1 at *
  dsimp only at *
  simp -implicitDefEqProofs[o1,c1]
 | true=>
 rw[g1]at c1;cases g2:Zdx s with
 | false=>
  rw[g2]at c2;obtain⟨nm,c,a,b,e⟩:=s;generalize fz 1=z1 at *
  dsimp only at *
  simp -implicitDefEqProofs[o1,c1,c2]
 | true=>
 rw[g2]at c2;obtain⟨s1,s2,s3,s4,s5,s6⟩:=zi9 g2;cases g3:Zda s.a with
 | false=>
  rw[g3]at c3;obtain⟨nm,c,a,b,e⟩:=s;simp -implicitDefEqProofs[o1,c1,c2,c3]
 | true=>
 rw[g3]at c3;cases g4:Zda [s.b,s.c,s.e]with
 | false=>
  rw[g4]at c4;obtain⟨nm,c,a,b,e⟩:=s;simp -implicitDefEqProofs[o1,c1,c2,c3,c4]
 | true=>
 rw[g4]at c4;have n1:=zkg g3;have n2:=zkg g4;have nb:=n2 s.b (by simp);have nc:=n2 s.c (by simp);have ne:=n2 s.e (by simp);have c5:=k5 (by omega) (by omega) (fun r hr=>⟨by have:=zea _ _ s6 r hr;omega,n1 r hr⟩) nc;have c6:=k6 (by omega) nb;have c7:=k7 (by omega) ne;have z6:=zpr (l:=s.b) (by omega) nb;have z7:=zpr (l:=s.e) (by omega) ne;have d6:=ze5 (T:=T) (fz (sumF s.b)) (fz 1) (by rw[zbk];omega) (by rw[zbk,zy9];omega);have d7:=ze5 (T:=T) (fz (sumF s.e)) (fz 1) (by rw[zbk];omega) (by rw[zbk,zy9];omega);rw[zdi,zdi]at d6 d7;cases g5:Zcr s.a s.c with
 | false=>
  rw[g5]at c5;obtain⟨nm,c,a,b,e⟩:=s;simp -implicitDefEqProofs[o1,c1,c2,c3,c4,c5]
 | true=>
 rw[g5]at c5;obtain⟨nm,c,a,b,e⟩:=s;generalize fz (sumF b)=zb at *
 generalize fz (sumF e)=ze at *
 by_cases g6:sumF b=1
 ·by_cases g7:e=[]
  ·subst g7;replace c2:Zb T 559 [.agg [.s nm,.sl (Zd c) .an,.sl (Zs a) .an,.sl (Zd b) .an,.sl [] .an]]=_:=c2;replace c4:Zb T 560 [.sl [[.sl (Zd b) .an],[.sl (Zd c) .an],[.sl [] .an]] .an]=_:=c4;replace c5:Zb T 561 [.agg [.s nm,.sl (Zd c) .an,.sl (Zs a) .an,.sl (Zd b) .an,.sl [] .an]]=_:=c5;simp -implicitDefEqProofs[o1,c1,c2,c3,c4,c5,c6,d6,g6]
  ·have l7:0<e.length:=Ycf.2 g7;by_cases g8:sumF e=1
   ·simp -implicitDefEqProofs[o1,c1,c2,c3,c4,c5,c6,d6,g6,c7,d7,g7,g8,l7]
   ·simp -implicitDefEqProofs[o1,c1,c2,c3,c4,c5,c6,d6,g6,c7,d7,g7,g8,l7]
 ·simp -implicitDefEqProofs[o1,c1,c2,c3,c4,c5,c6,d6,g6]
theorem zf6(s:Sm)(hs:SmS s):Zb T 536 [esm s]=some (.b (okS s)):=by
 have h:=zf5 (T:=T) s hs;rw[zab Zaa.h536 rfl,b536];unfold okS;generalize Zby s=w at *
 by_cases hw:w=0
 ·subst hw;simp -implicitDefEqProofs[h]
 ·simp -implicitDefEqProofs[h,hw]
end
end Go.Ab
end
section
namespace Go.Ab
structure PbS (q:Pb):Prop where
 t:TpS q.t
 s:SmS q.s
 p:∀x∈q.p,fsz x≤1000
 pl:q.p.length≤1000
def Zmw(p:Pb)(t:Fz)(y:List Fz):List Rat×Nat×Nat:=Zkx (Zmr p.bits) p.t ⟨fv t,y.map fv,p.p.map fv⟩
end Go.Ab
end
section
namespace Go.Ab
def bxR(g:Nat)(r:Rd):Box:=⟨g,.str,3,[[.s r.rest,.i .i64 r.at_,.b r.over]]⟩
theorem zu9(c:UInt8):∀l:List UInt8,decide (0≤Lib.indexByte l c)=l.contains c:=by
 intro l;have h:=Lib.indexByte;rcases zcj c l with ⟨h1,h2,_⟩ | ⟨m,h1,h2,h3⟩
 ·rw[h2];have:c∉l:=fun hc=>by have:=List.count_pos_iff.2 hc;omega
  simp[this]
 ·rw[h2];have:c∈l:=by
   have hc:l.count c≠0:=by
    intro h0;rcases zcj c l with ⟨_,k,_⟩ | ⟨k,_,_,h4⟩
    ·rw[k]at h2;omega
    ·have:=zbu c l;rw[h3,Yd,zbu,h0]at this;omega
   exact List.count_pos_iff.1 (by omega)
  simp[this]
section
variable{T:Tbl}[Zo T][Zak T][Zb0 T][Zc1 T][Zan T][Zag T]
theorem zri(l:List UInt8)(c:UInt8)(hl:l.length≤1000000):Zb T 64 [.s l,.s [c,32]]=some (.tup [.s (if l.take 2=[c,32] then l.drop 2 else l),.b (decide (l.take 2=[c,32]))]):=by
 have h1:Zb T 123 [.s l,.s [c,32]]=some (.b (decide (l.take 2=[c,32]))):=by
  rw[zab Zo.h123 rfl,b123]
  match l with
  | []=>simp -implicitDefEqProofs
  | [a]=>simp -implicitDefEqProofs
  | a::b::r=>
   have h2:(2:Int)≤(r.length:Int)+1+1:=by omega
   have h3:2≤r.length+1+1:=by omega
   by_cases ha:a=c
   ·by_cases hb:b=32
    ·simp -implicitDefEqProofs[h2,h3,ha,hb]
    ·simp -implicitDefEqProofs[h2,h3,ha,hb]
   ·simp -implicitDefEqProofs[h2,h3,ha]
 have h3:Zb T 98 [.s l,.s [c,32]]=some (.tup [.s (if l.take 2=[c,32] then l.drop 2 else l),.b (decide (l.take 2=[c,32]))]):=by
  rw[zab Zo.h98 rfl,b98];by_cases h:l.take 2=[c,32]
  ·have hlen:2≤l.length:=by
    have:=congrArg List.length h;rw[Yaq]at this;simp at this;omega
   have hlen':(2:Int)≤l.length:=by omega
   rw[decide_eq_true h]at h1;rw[if_pos h,decide_eq_true h];clear h;simp -implicitDefEqProofs[h1,hlen,hlen']
  ·rw[decide_eq_false h]at h1;rw[if_neg h,decide_eq_false h];clear h;simp -implicitDefEqProofs[h1]
 rw[zab Zo.h64 rfl,b64];generalize decide (l.take 2=[c,32])=B at *
 generalize (if l.take 2=[c,32] then l.drop 2 else l)=M at *
 simp -implicitDefEqProofs[h3]
theorem zn1(l:List UInt8)(c:UInt8):Zb T 618 [.s l,.s [c]]=some (.b (l.contains c)):=by
 have h:=zmo (T:=T) l c;have e:=zu9 c l;rw[zab Zag.h618 rfl,b618,←e];generalize Lib.indexByte l c=n at *
 simp -implicitDefEqProofs[h]
theorem zft(r:Rd)(hr:r.rest.length≤1000000)(ha:r.at_≤1000000) :
  Zch T 614 [.ptr (.bor 0) 0 3 0 0] [(.bor 0,bxR 0 r)]=some (.tup [.s (Zi r),.i .i64 r.at_,.b (!r.over)],[(.bor 0,bxR 0 (Z2 r))]):=by
 have c:=z0w (T:=T) r.rest hr;unfold bxR Zi Z2;obtain⟨l,a,o⟩:=r;dsimp only at *
 have e1:l.takeWhile (· != 10)=hdC 10 l:=rfl;have e2:(l.dropWhile (· != 10)).drop 1=tlC 10 l:=rfl;have hle:(hdC 10 l).length≤l.length:=(Ya7 _).length_le;rw[e1,e2]at c;rw[zbl Zag.h614 rfl,b614];cases o with
 | true=>simp -implicitDefEqProofs[]
 | false=>
  generalize hdC 10 l=H at *
  generalize tlC 10 l=Tl at *
  have w1:IntKind.wrap .i64 ((a:Int)+H.length)=((a+H.length:Nat):Int):=by rw[zac _ (by omega)];omega
  have w2:IntKind.wrap .i64 ((a:Int)+H.length+1)=(a:Int)+H.length+1:=zac _ (by omega);cases hc:l.contains 10 with
  | true=>
   rw[hc]at c;simp -implicitDefEqProofs[c,w1,w2]
  | false=>
   rw[hc]at c;simp -implicitDefEqProofs[c,w1,w2]
theorem z1j(r:Rd)(t:List UInt8)(n:Nat)(hn:n≤t.length)(ht:t.length≤1000000) :
  Zch T 619 [.ptr (.bor 0) 0 3 0 0,.s t,.i .i64 n] [(.bor 0,bxR 0 r)]=some (.tup [],[(.bor 0,bxR 0 ⟨t.drop n,n,false⟩)]):=by
 unfold bxR;obtain⟨l,a,o⟩:=r;dsimp only at *
 have hn':(n:Int)≤t.length:=by omega
 rw[zbl Zag.h619 rfl,b619];simp -implicitDefEqProofs[hn,hn']
theorem zhw(k a b:Int)(h1:-1000000≤a∧a≤1000000)(h2:-2000000≤b∧b≤2000000):Zb T 621 [flt k a,.i .i64 b]=some (flt (shF (k,a) b).1 (shF (k,a) b).2):=by
 have w:IntKind.wrap .i64 (a+b)=a+b:=zac _ (by omega);unfold shF;rw[zab Zag.h621 rfl,b621];by_cases hk:k=0
 ·by_cases ha:a=0
  ·subst hk ha;simp -implicitDefEqProofs[]
  ·simp -implicitDefEqProofs[hk,ha,w]
 ·simp -implicitDefEqProofs[hk,w]
end
end Go.Ab
end
section
namespace Go.Ab
theorem zfu(c:UInt8):∀l:List UInt8,((Zx c l).map fun w=>w.length+1).sum=l.length+1
 | []=>rfl
 | b::l=>by
  have ih:=zfu c l;by_cases h:b=c
  ·subst h;simp[Zx,ih];omega
  ·cases hs:Zx c l with
   | nil=>rw[hs]at ih;simp at ih
   | cons p r=>
    rw[hs]at ih;simp only[Ys,Ycu]at ih;simp[Zx,h,hs];omega
theorem zhx:∀(ws:List (List UInt8)) (k:Nat) (acc:List Rat),((Zaq ws k acc).2.1=0∧(Zaq ws k acc).2.2=0) ∨
  (((Zaq ws k acc).2.1=1∨(Zaq ws k acc).2.1=2)∧0≤(Zaq ws k acc).2.2∧(Zaq ws k acc).2.2≤k+((ws.map fun w=>w.length+1).sum:Nat)+62)
 | [],_,_=>.inl ⟨rfl,rfl⟩
 | w::ws,k,acc=>by
  unfold Zaq;by_cases h1:(Zab w).2.1=0
  ·rw[if_pos h1];rcases zhx ws (k+w.length+1) (acc++[(Zab w).1]) with h | ⟨h2,h3,h4⟩
   ·exact .inl h
   ·refine .inr ⟨h2,h3,?_⟩;simp only[Ys,Ycu];omega
  ·rw[if_neg h1];rcases zfm w with h | ⟨h2,h3,h4⟩
   ·exact absurd h.1 h1
   ·refine .inr ⟨h2,?_,?_⟩
    ·show 0≤(Zab w).2.2+(k:Int);omega
    ·show (Zab w).2.2+(k:Int)≤_;simp only[Ys,Ycu];omega
theorem zi8(s:List UInt8):((Zca s).2.1=0∧(Zca s).2.2=0)∨(((Zca s).2.1=1∨(Zca s).2.1=2)∧0≤(Zca s).2.2∧(Zca s).2.2≤s.length+63):=by
 unfold Zca;by_cases h:s=[]
 ·rw[if_pos h];exact .inl ⟨rfl,rfl⟩
 ·rw[if_neg h];rcases zhx (Zx 44 s) 0 []with h | ⟨h2,h3,h4⟩
  ·exact .inl h
  ·refine .inr ⟨h2,h3,?_⟩;rw[zfu]at h4;omega
theorem zxv{f:Int×Int}(h:(f.1=0∧f.2=0)∨((f.1=1∨f.1=2)∧0≤f.2)):f=(0,0)↔f.1=0:=by
 obtain⟨a,b⟩:=f;simp only[Prod.mk.injEq];omega
section
variable{T:Tbl}[Z8 T][Zp T][Zu T][Zy T][Zr T][Zt T][Zo T][Zap T][Ze T][Zj T][Zv T][Zbk T][Zc1 T][Zan T][Zb3 T][Zc0 T][Zak T][Zba T][Zc5 T][Zb0 T][Zag T]
theorem zmm(hcut:∀l:List UInt8,l.length≤1000000→Zb T 184 [.s l,.s [124]]=some (.tup [.s (hdC 124 l),.s (tlC 124 l),.b (l.contains 124)]))
  (l:List UInt8) (n:Nat) (hl:l.length≤100000) (hn:n≤500000) :
  Zb T 620 [.s l,.i .i64 n]=some (.tup [efz (fz (Zb7 l n).1),.sl (Zd (fzs (Zb7 l n).2.1)) .an,flt (Zb7 l n).2.2.1 (Zb7 l n).2.2.2]):=by
 have c:=hcut l (by omega);have h1:(hdC 124 l).length≤l.length:=(Ya7 _).length_le;have h2:(tlC 124 l).length≤l.length:=by
  unfold tlC;rw[Yar];have:=(Yed (fun x:UInt8=>x != 124) (l:=l)).length_le;omega
 have c1:=zlx (T:=T) (hdC 124 l) (by omega);have c2:=zpa (T:=T) (tlC 124 l) (by omega);have f1:=zfm (hdC 124 l);have f2:=zi8 (tlC 124 l);have w1:IntKind.wrap .i64 ((n:Int)+(hdC 124 l).length)=(n:Int)+(hdC 124 l).length:=zac _ (by omega);have w2:IntKind.wrap .i64 ((n:Int)+(hdC 124 l).length+1)=(n:Int)+(hdC 124 l).length+1:=zac _ (by omega);have s1:=zhw (T:=T) (Zab (hdC 124 l)).2.1 (Zab (hdC 124 l)).2.2 n (by omega) (by omega);have s2:=zhw (T:=T) (Zca (tlC 124 l)).2.1 (Zca (tlC 124 l)).2.2 ((n:Int)+(hdC 124 l).length+1) (by omega) (by omega);have z1:=zxv (f:=(Zab (hdC 124 l)).2) (by omega);unfold Zb7;rw[zab Zag.h620 rfl,b620];generalize hF:Zab (hdC 124 l)=F at *
 generalize Zca (tlC 124 l)=R at *
 obtain⟨q,k,a⟩:=F;obtain⟨L,k2,a2⟩:=R;dsimp only at *
 by_cases hk:k=0
 ·have ha:a=0:=by omega
  subst hk ha;rw[if_neg (by simp)];generalize shF (k2,a2) ((n:Int)+(hdC 124 l).length+1)=S at *
  generalize fz q=Z at *
  generalize fzs L=M at *
  generalize hdC 124 l=H at *
  generalize tlC 124 l=K at *
  obtain⟨g1,g2⟩:=S;obtain⟨y1,y2,y3⟩:=Z;dsimp only at *
  simp -implicitDefEqProofs[c,c1,c2,w1,w2,s2,z0d]
 ·rw[if_pos (fun h=>hk (congrArg Prod.fst h))];generalize shF (k,a) (n:Int)=S at *
  generalize fz q=Z at *
  generalize hdC 124 l=H at *
  generalize tlC 124 l=K at *
  have e0:fzs []=[]:=rfl;obtain⟨g1,g2⟩:=S;obtain⟨y1,y2,y3⟩:=Z;dsimp only at *
  rw[e0];simp -implicitDefEqProofs[c,c1,s1,hk]
theorem zhy(r:Rd)(c:UInt8)(hr:r.rest.length≤100000)(ha:r.at_≤500000) :
  Zch T 616 [.ptr (.bor 0) 0 3 0 0,.s [c]] [(.bor 0,bxR 0 r)]=some (.tup [.sl (Zd (fzs (Zdg c r).1)) .an,flt (Zdg c r).2.1 (Zdg c r).2.2],[(.bor 0,bxR 0 (Z2 r))]):=by
 have c1:=zft (T:=T) r (by omega) (by omega);have hlen:(Zi r).length≤r.rest.length:=by
  unfold Zi;split
  ·simp
  ·exact(Ya7 _).length_le
 have c2:=zri (T:=T) (Zi r) c (by omega);have c3:=zpa (T:=T) ((Zi r).drop 2) (by rw[Yar];omega);have f2:=zi8 ((Zi r).drop 2);rw[Yar]at f2;have w1:IntKind.wrap .i64 ((r.at_:Int)+1)=(r.at_:Int)+1:=zac _ (by omega);have w2:IntKind.wrap .i64 ((r.at_:Int)+1+1)=(r.at_:Int)+2:=by rw[zac _ (by omega)];omega
 have s2:=zhw (T:=T) (Zca ((Zi r).drop 2)).2.1 (Zca ((Zi r).drop 2)).2.2 ((r.at_:Int)+2) (by omega) (by omega);unfold Zdg;unfold bxR at *
 generalize Z2 r=r' at *
 rw[zbl Zag.h616 rfl,b616];by_cases h:(Zi r).take 2=[c,32]
 ·rw[if_pos h,decide_eq_true h]at c2;rw[if_pos h];clear f2 h;generalize (Zi r).drop 2=D at *
  generalize Zi r=L at *
  generalize Zca D=R at *
  obtain⟨M,k2,a2⟩:=R;dsimp only at *
  generalize shF (k2,a2) ((r.at_:Int)+2)=S at *
  obtain⟨g1,g2⟩:=S;generalize fzs M=N at *
  obtain⟨rest,a,o⟩:=r;obtain⟨rest',a',o'⟩:=r';dsimp only at *
  simp -implicitDefEqProofs[c1,c2,c3,w1,w2,s2]
 ·rw[if_neg h,decide_eq_false h]at c2;rw[if_neg h];have e0:fzs []=[]:=rfl;clear f2 h c3 s2;generalize Zi r=L at *
  obtain⟨rest,a,o⟩:=r;obtain⟨rest',a',o'⟩:=r';dsimp only at *
  rw[e0];simp -implicitDefEqProofs[c1,c2]
end
end Go.Ab
end
section
namespace Go.Ab
structure Sg where
 nm:List UInt8
 c:List Fz
 a:List (List Fz)
def hpG(r:Rd)(s:Sg):Heap:=[(.bor 0,bxR 0 r),(.bor 1,⟨1,.str,5,[[.s s.nm,.bs (.fld (.bor 1) 1) 5 3 0 s.c.length,.bs (.fld (.bor 1) 2) 6 1 0 s.a.length,.sl [] .nl,.sl [] .nl]]⟩),
 (.fld (.bor 1) 1,⟨5,.own,3,Zd s.c⟩),(.fld (.bor 1) 2,⟨6,.own,1,Zs s.a⟩)]
def stG(t:List UInt8)(r:Rd)(s:Sg):St:=⟨[(0,.ptr (.bor 0) 0 3 0 0),(1,.s t),(2,.ptr (.bor 1) 1 5 0 0),(6,.ptr (.loc 6) 7 4 0 0)],
 hpG r s++[(.loc 6,⟨7,.str,4,[[.i .i64 0,.i .i64 0,.i .i64 0,.i .i64 0]]⟩)],9⟩
def Zfp(r:Rd)(s:Sg)(k a:Int):Ex×St:=(.r,⟨[(6,.ptr (.loc 6) 7 4 0 0)],hpG r s++[(.loc 6,⟨7,.str,4,[[.i .i64 k,.i .i64 0,.i .i64 0,.i .i64 a]]⟩)],9⟩)
section
variable{T:Tbl}[Z8 T][Zp T][Zu T][Zy T][Zr T][Zt T][Zo T][Zap T][Ze T][Zj T][Zv T][Zbk T][Zc1 T][Zan T][Zb3 T][Zc0 T][Zak T][Zba T][Zc5 T][Zb0 T][Zag T]
theorem z6o(t:List UInt8)(r:Rd)(s:Sg)(ho:r.over=true)(hr:r.rest.length≤1000000)(ha:r.at_≤1000000) :
  evX (orc T) T 2 l615_0 (stG t r s)=some (Zfp r s 0 0):=by
 have c1:=zft (T:=T) r hr ha;have e1:Zi r=[]:=by unfold Zi;rw[ho];rfl
 have e2:Z2 r=r:=by unfold Z2;rw[ho];rfl
 rw[e1,e2,ho]at c1;unfold bxR at c1;unfold stG Zfp hpG bxR;obtain⟨rest,a,o⟩:=r;obtain⟨nm,C,A⟩:=s;dsimp only at *
 simp -implicitDefEqProofs[l615_0,c1]
theorem z6p(t:List UInt8)(r:Rd)(s:Sg)(ho:r.over=false)(hb:(Zi r).contains 124=false)(hr:r.rest.length≤1000000)(ha:r.at_≤t.length)(ht:t.length≤1000000) :
  evX (orc T) T 2 l615_0 (stG t r s)=some (Zfp ⟨t.drop r.at_,r.at_,false⟩ s 0 0):=by
 have c1:=zft (T:=T) r hr (by omega);have c2:=zn1 (T:=T) (Zi r) 124;have c3:=z1j (T:=T) (Z2 r) t r.at_ ha ht;rw[ho]at c1;rw[hb]at c2;unfold bxR at c1 c3;unfold stG Zfp hpG bxR;generalize Z2 r=r' at *
 generalize Zi r=L at *
 obtain⟨rest,a,o⟩:=r;obtain⟨rest',a',o'⟩:=r';obtain⟨nm,C,A⟩:=s;dsimp only at *
 simp -implicitDefEqProofs[l615_0,c1,c2,c3]
theorem zaeu(hcut:∀l:List UInt8,l.length≤1000000→Zb T 184 [.s l,.s [124]]=some (.tup [.s (hdC 124 l),.s (tlC 124 l),.b (l.contains 124)]))
  (t:List UInt8) (r:Rd) (s:Sg) (ho:r.over=false) (hb:(Zi r).contains 124=true) (hr:r.rest.length≤100000) (ha:r.at_≤100000) (hf:(Zb7 (Zi r) r.at_).2.2≠(0,0)) :
  evX (orc T) T 2 l615_0 (stG t r s)=some (Zfp (Z2 r) s (Zb7 (Zi r) r.at_).2.2.1 (Zb7 (Zi r) r.at_).2.2.2):=by
 have c1:=zft (T:=T) r (by omega) (by omega);have c2:=zn1 (T:=T) (Zi r) 124;have hlen:(Zi r).length≤r.rest.length:=by
  unfold Zi;split
  ·simp
  ·exact(Ya7 _).length_le
 have c3:=zmm (T:=T) hcut (Zi r) r.at_ (by omega) (by omega);rw[ho]at c1;rw[hb]at c2;unfold bxR at c1;unfold stG Zfp hpG bxR;generalize Z2 r=r' at *
 generalize Zi r=L at *
 generalize Zb7 L (r.at_:Int)=S at *
 obtain⟨q,M,k,b⟩:=S;generalize fz q=z at *
 generalize fzs M=N at *
 obtain⟨rest,a,o⟩:=r;obtain⟨rest',a',o'⟩:=r';obtain⟨nm,C,A⟩:=s;obtain⟨z1,z2,z3⟩:=z;dsimp only at *
 by_cases hk:k=0
 ·have hb0:¬ b=0:=fun h=>hf (by rw[hk,h]);simp -implicitDefEqProofs[l615_0,c1,c2,c3,hk,hb0]
 ·simp -implicitDefEqProofs[l615_0,c1,c2,c3,hk]
theorem z1k(hcut:∀l:List UInt8,l.length≤1000000→Zb T 184 [.s l,.s [124]]=some (.tup [.s (hdC 124 l),.s (tlC 124 l),.b (l.contains 124)]))
  (t:List UInt8) (r:Rd) (s:Sg) (ho:r.over=false) (hb:(Zi r).contains 124=true) (hr:r.rest.length≤100000) (ha:r.at_≤100000) (hc:s.c.length≤1000000) (hA:s.a.length≤1000000) (hf:(Zb7 (Zi r) r.at_).2.2=(0,0)) :
  evX (orc T) T 2 l615_0 (stG t r s)=some (.n,stG t (Z2 r) ⟨s.nm,s.c++[fz (Zb7 (Zi r) r.at_).1],s.a++[fzs (Zb7 (Zi r) r.at_).2.1]⟩):=by
 have c1:=zft (T:=T) r (by omega) (by omega);have c2:=zn1 (T:=T) (Zi r) 124;have hlen:(Zi r).length≤r.rest.length:=by
  unfold Zi;split
  ·simp
  ·exact(Ya7 _).length_le
 have c3:=zmm (T:=T) hcut (Zi r) r.at_ (by omega) (by omega);rw[ho]at c1;rw[hb]at c2;unfold bxR at c1;unfold stG hpG bxR;generalize Z2 r=r' at *
 generalize Zi r=L at *
 generalize Zb7 L (r.at_:Int)=S at *
 obtain⟨q,M,k,b⟩:=S;generalize fz q=z at *
 generalize fzs M=N at *
 obtain⟨rest,a,o⟩:=r;obtain⟨rest',a',o'⟩:=r';obtain⟨nm,C,A⟩:=s;dsimp only at *
 obtain⟨rfl,rfl⟩:=Prod.mk.inj hf;have p1:=zmu C z;have p2:Zs A++[[.sl (Zd N) .an]]=Zs (A++[N]):=by simp[Zs]
 have t1:List.take C.length C=C:=Yci;have t2:List.take A.length A=A:=Yci;have h1:C.length+1≤4294967296:=by omega
 have h2:A.length+1≤4294967296:=by omega
 obtain⟨z1,z2,z3⟩:=z;rw[Yp,Yp];simp -implicitDefEqProofs[l615_0,c1,c2,c3,p1,p2,t1,t2,h1,h2]
end
end Go.Ab
end
section
namespace Go.Ab
def Zah(t:List UInt8):Nat→Rd→Sg→Rd×Sg×Int×Int
 | 0,r,s=>(r,s,0,0)
 | n+1,r,s=>
  if r.over=true then (r,s,0,0)
  else if (Zi r).contains 124=false then (⟨t.drop r.at_,r.at_,false⟩,s,0,0)
  else if (Zb7 (Zi r) r.at_).2.2≠(0,0) then (Z2 r,s,(Zb7 (Zi r) r.at_).2.2)
  else Zah t n (Z2 r) ⟨s.nm,s.c++[fz (Zb7 (Zi r) r.at_).1],s.a++[fzs (Zb7 (Zi r) r.at_).2.1]⟩
def muR(r:Rd):Nat:=if r.over then 0 else r.rest.length+1
theorem zn2:∀(l:List UInt8) (c:UInt8) (_:l.contains c=true),(hdC c l).length+1+(tlC c l).length=l.length
 | [],c,h=>by simp at h
 | b::l,c,h=>by
  by_cases hb:b=c
  ·subst hb;simp[hdC,tlC];omega
  ·have h2:l.contains c=true:=by
    rw[Ybm]at h ⊢;rcases Yj.1 h with h | h
    ·exact absurd h.symm hb
    ·exact h
   have ih:=zn2 l c h2;unfold hdC tlC at *
   simp only[Ydv,List.dropWhile_cons,bne_iff_ne,ne_eq,hb,not_false_eq_true,if_true,Yd];omega
theorem zxw(c:UInt8)(l:List UInt8):(hdC c l).length≤l.length:=(Ya7 _).length_le
structure RdOk (t:List UInt8) (r:Rd):Prop where
 a:r.at_≤t.length
 l:r.rest.length≤t.length
 s:r.over=false→r.at_+r.rest.length=t.length
theorem z6q(c:UInt8)(l:List UInt8):(tlC c l).length≤l.length:=by
 unfold tlC;rw[Yar];have:=(Yed (fun x:UInt8=>x != c) (l:=l)).length_le;omega
theorem zn3{t:List UInt8}{r:Rd}(h:RdOk t r)(ho:r.over=false):RdOk t (Z2 r)∧muR (Z2 r)<muR r:=by
 have e:Z2 r=⟨tlC 10 r.rest,r.at_+(hdC 10 r.rest).length+(if r.rest.contains 10 then 1 else 0),!r.rest.contains 10⟩:=by unfold Z2;rw[ho];rfl
 have h1:=h.s ho;have h2:=zxw 10 r.rest;have h3:=z6q 10 r.rest;have h4:=h.l;rw[e];unfold muR;rw[ho];cases hc:r.rest.contains 10 with
 | true=>
  have h5:=zn2 r.rest 10 hc;refine⟨⟨?_,?_,fun _=>?_⟩,?_⟩
  ·simp;omega
  ·simp;omega
  ·simp;omega
  ·simp;omega
 | false=>
  refine⟨⟨?_,?_,fun h=>?_⟩,?_⟩
  ·simp;omega
  ·simp;omega
  ·cases h
  ·simp
section
variable{T:Tbl}[Z8 T][Zp T][Zu T][Zy T][Zr T][Zt T][Zo T][Zap T][Ze T][Zj T][Zv T][Zbk T][Zc1 T][Zan T][Zb3 T][Zc0 T][Zak T][Zba T][Zc5 T][Zb0 T][Zag T]
theorem zva(r:Rd)(s:Sg)(k a:Int):Zfm (some (Zfp r s k a))=true∧Zfl 2 0 (.norm true [6]) (some (Zfp r s k a))=some (Zfp r s k a):=by
 unfold Zfp hpG bxR;constructor<;>simp -implicitDefEqProofs
theorem z6r(hcut:∀l:List UInt8,l.length≤1000000→Zb T 184 [.s l,.s [124]]=some (.tup [.s (hdC 124 l),.s (tlC 124 l),.b (l.contains 124)]))
  (t:List UInt8) (ht:t.length≤100000) (n:Nat) (r:Rd) (s:Sg) (hr:RdOk t r) (hn:muR r<n) (hc:s.c.length+n≤1000000) (ha:s.a.length+n≤1000000) :
  Zw T 2 0 (.norm true [6]) l615_0 (stG t r s)=some (Zfp (Zah t n r s).1 (Zah t n r s).2.1 (Zah t n r s).2.2.1 (Zah t n r s).2.2.2):=by
 refine zav (T:=T) (k:=2) (id:=0) (g2:=.norm true [6]) (c:=l615_0) (fun x:Nat×Rd×Sg=>stG t x.2.1 x.2.2)
  (fun x=>RdOk t x.2.1∧muR x.2.1<x.1∧x.2.2.c.length+x.1≤1000000∧x.2.2.a.length+x.1≤1000000) (fun x=>x.1)
  (fun x=>some (Zfp (Zah t x.1 x.2.1 x.2.2).1 (Zah t x.1 x.2.1 x.2.2).2.1 (Zah t x.1 x.2.1 x.2.2).2.2.1 (Zah t x.1 x.2.1 x.2.2).2.2.2)) ?_ (n,r,s) ⟨hr,hn,hc,ha⟩
 rintro⟨n,r,s⟩ ⟨hr,hn,hc,ha⟩
 dsimp only at *
 obtain⟨m,rfl⟩:∃m,n=m+1:=⟨n-1,by omega⟩;have b1:=hr.a;have b2:=hr.l;cases ho:r.over with
 | true=>
  right;have e:Zah t (m+1) r s=(r,s,0,0):=by rw[Zah,if_pos ho]
  rw[e,z6o (T:=T) t r s ho (by omega) (by omega)];exact zva r s 0 0
 | false=>
 cases hb:(Zi r).contains 124 with
 | false=>
  right;have e:Zah t (m+1) r s=(⟨t.drop r.at_,r.at_,false⟩,s,0,0):=by rw[Zah,if_neg (by rw[ho];decide),if_pos hb]
  rw[e,z6p (T:=T) t r s ho hb (by omega) b1 (by omega)];exact zva _ s 0 0
 | true=>
 by_cases hf:(Zb7 (Zi r) r.at_).2.2=(0,0)
 ·left;have e:Zah t (m+1) r s=Zah t m (Z2 r) ⟨s.nm,s.c++[fz (Zb7 (Zi r) r.at_).1],s.a++[fzs (Zb7 (Zi r) r.at_).2.1]⟩:=by
   rw[Zah,if_neg (by rw[ho];decide),if_neg (by rw[hb];decide),if_neg (by simpa using hf)]
  obtain⟨k1,k2⟩:=zn3 hr ho;have e2:=z1k (T:=T) hcut t r s ho hb (by omega) (by omega) (by omega) (by omega) hf;refine⟨(m,Z2 r,⟨s.nm,s.c++[fz (Zb7 (Zi r) r.at_).1],s.a++[fzs (Zb7 (Zi r) r.at_).2.1]⟩),⟨k1,show muR (Z2 r)<m by omega,?_,?_⟩,by show m<m+1;omega,e2,by rw[e]⟩
  ·simp only[Yp,Yd,Y7];omega
  ·simp only[Yp,Yd,Y7];omega
 ·right;have e:Zah t (m+1) r s=(Z2 r,s,(Zb7 (Zi r) r.at_).2.2):=by
   rw[Zah,if_neg (by rw[ho];decide),if_neg (by rw[hb];decide),if_pos hf]
  rw[e,zaeu (T:=T) hcut t r s ho hb (by omega) (by omega) hf];exact zva _ s _ _
def Zjx(nm:List UInt8):Box:=⟨1,.str,5,[[.s nm,.sl [] .nl,.sl [] .nl,.sl [] .nl,.sl [] .nl]]⟩
theorem zrj(hcut:∀l:List UInt8,l.length≤1000000→Zb T 184 [.s l,.s [124]]=some (.tup [.s (hdC 124 l),.s (tlC 124 l),.b (l.contains 124)]))
  (t nm:List UInt8) (ht:t.length≤100000) (n:Nat) (r:Rd) (hr:RdOk t r) (hn:muR r<n) (hc:n≤1000000) :
  Zch T 615 [.ptr (.bor 0) 0 3 0 0,.s t,.ptr (.bor 1) 1 5 0 0] [(.bor 0,bxR 0 r),(.bor 1,Zjx nm)] =
   some (flt (Zah t n r ⟨nm,[],[]⟩).2.2.1 (Zah t n r ⟨nm,[],[]⟩).2.2.2,hpG (Zah t n r ⟨nm,[],[]⟩).1 (Zah t n r ⟨nm,[],[]⟩).2.1):=by
 have hl:=z6r (T:=T) hcut t ht n r ⟨nm,[],[]⟩ hr hn (by simpa using hc) (by simpa using hc);generalize Zah t n r ⟨nm,[],[]⟩=S at *
 obtain⟨r',s',k,a⟩:=S;unfold stG Zfp hpG bxR at hl;unfold hpG bxR Zjx;obtain⟨rest,at_,o⟩:=r;obtain⟨rest',at',o'⟩:=r';obtain⟨nm',C,A⟩:=s';dsimp only at *
 simp only[Y7,zfc,zpv,Ya2,Yax]at hl;rw[zbl Zag.h615 rfl,b615];simp -implicitDefEqProofs[hl]
end
end Go.Ab
end
section
namespace Go.Ab
theorem zd9{t:List UInt8}{r:Rd}(h:RdOk t r):RdOk t (Z2 r):=by
 cases ho:r.over with
 | true=>
  have e:Z2 r=r:=by unfold Z2;rw[ho];rfl
  rw[e];exact h
 | false=>exact(zn3 h ho).1
theorem zn4{t:List UInt8}:∀(n:Nat) (r:Rd) (s:Sg),RdOk t r→RdOk t (Zah t n r s).1
 | 0,_,_,h=>h
 | n+1,r,s,h=>by
  unfold Zah;by_cases h1:r.over=true
  ·rw[if_pos h1];exact h
  rw[if_neg h1];by_cases h2:(Zi r).contains 124=false
  ·rw[if_pos h2];exact⟨h.a,by simp,fun _=>by have:=h.a;simp;omega⟩
  rw[if_neg h2];by_cases h3:(Zb7 (Zi r) r.at_).2.2≠(0,0)
  ·rw[if_pos h3];exact zd9 h
  ·rw[if_neg h3];exact zn4 n _ _ (zd9 h)
def smG(s:Sg)(b e:List Fz):Sm:=⟨s.nm,s.c,s.a,b,e⟩
def Zad(t:List UInt8):Rd×Sg×Int×Int:=Zah t (t.length+2) (Z2 ⟨t,0,false⟩) ⟨Zi ⟨t,0,false⟩,[],[]⟩
def Zaz(t:List UInt8):Sm×Int×Int:=
 if Zbe 2 (Zi ⟨t,0,false⟩)=false then (⟨Zi ⟨t,0,false⟩,[],[],[],[]⟩,1,0)
 else if (Zad t).2.2≠(0,0) then (smG (Zad t).2.1 [] [],(Zad t).2.2)
 else if (Zdg 98 (Zad t).1).2≠(0,0)∨(Z2 (Zad t).1).over=true then (smG (Zad t).2.1 (fzs (Zdg 98 (Zad t).1).1) [],(Zdg 98 (Zad t).1).2)
 else if (Zdg 101 (Z2 (Zad t).1)).2≠(0,0)∨(Z2 (Z2 (Zad t).1)).over=true then
  (smG (Zad t).2.1 (fzs (Zdg 98 (Zad t).1).1) (fzs (Zdg 101 (Z2 (Zad t).1)).1),(Zdg 101 (Z2 (Zad t).1)).2)
 else (smG (Zad t).2.1 (fzs (Zdg 98 (Zad t).1).1) (fzs (Zdg 101 (Z2 (Zad t).1)).1),1,(Z2 (Z2 (Zad t).1)).at_)
section
variable{T:Tbl}[Z8 T][Zp T][Zu T][Zy T][Zr T][Zt T][Zo T][Zap T][Ze T][Zj T][Zv T][Zbk T][Zc1 T][Zan T][Zb3 T][Zc0 T][Zak T][Zba T][Zc5 T][Zb0 T][Zag T]
theorem zxx(hcut:∀l:List UInt8,l.length≤1000000→Zb T 184 [.s l,.s [124]]=some (.tup [.s (hdC 124 l),.s (tlC 124 l),.b (l.contains 124)]))
  (t:List UInt8) (ht:t.length≤50000):Zb T 612 [.s t]=some (.tup [esm (Zaz t).1,flt (Zaz t).2.1 (Zaz t).2.2]):=by
 have h0:RdOk t ⟨t,0,false⟩:=⟨Y1 _,Yh _,fun _=>Yaw _⟩;have c1:=zft (T:=T) ⟨t,0,false⟩ (by show t.length≤_;omega) (Y1 _);obtain⟨k1,k2⟩:=zn3 h0 rfl;have hmu:muR (⟨t,0,false⟩:Rd)=t.length+1:=rfl;have hln:(Zi ⟨t,0,false⟩).length≤t.length:=zxw 10 t;have c2:=zl1 (T:=T) 2 0 (Zi ⟨t,0,false⟩) (by omega);have c3:=zrj (T:=T) hcut t (Zi ⟨t,0,false⟩) (by omega) (t.length+2) (Z2 ⟨t,0,false⟩) k1 (by omega) (by omega);have hS:Zad t=Zah t (t.length+2) (Z2 ⟨t,0,false⟩) ⟨Zi ⟨t,0,false⟩,[],[]⟩:=rfl;rw[←hS]at c3;have o2:RdOk t (Zad t).1:=by rw[hS];exact zn4 _ _ _ k1
 have o3:=zd9 o2;have c4:=zhy (T:=T) (Zad t).1 98 (by have:=o2.l;omega) (by have:=o2.a;omega);have c5:=zhy (T:=T) (Z2 (Zad t).1) 101 (by have:=o3.l;omega) (by have:=o3.a;omega);unfold Zaz;rw[zab Zag.h612 rfl,b612];clear hS o2 o3 h0 k1 k2 hmu hln hcut ht;generalize Zdg 98 (Zad t).1=B at *
 generalize Zdg 101 (Z2 (Zad t).1)=E at *
 generalize Z2 (Z2 (Zad t).1)=r4 at *
 generalize Z2 (Zad t).1=r3 at *
 generalize Zad t=S at *
 obtain⟨r2,s2,kS,aS⟩:=S;generalize Z2 ⟨t,0,false⟩=r1 at *
 generalize Zi ⟨t,0,false⟩=nm at *
 obtain⟨B,kB,aB⟩:=B;obtain⟨E,kE,aE⟩:=E;generalize fzs B=FB at *
 generalize fzs E=FE at *
 unfold hpG Zjx bxR at c3;unfold bxR at c1 c4 c5;simp only[Yac,Bool.not_false]at c1;obtain⟨l1,a1,o1⟩:=r1;obtain⟨l2,a2,o2⟩:=r2;obtain⟨l3,a3,o3⟩:=r3;obtain⟨l4,a4,o4⟩:=r4;obtain⟨nm2,C,A⟩:=s2;unfold smG;dsimp only at *
 cases hR:Zbe 2 nm with
 | false=>
  rw[hR]at c2;simp -implicitDefEqProofs[c1,c2]
 | true=>
 rw[hR]at c2;simp only[Bool.true_eq_false,if_false,ne_eq,Prod.mk.injEq];by_cases hk:kS=0∧aS=0
 rotate_left
 ·rw[if_pos hk];by_cases h1:kS=0
  ·have h2:¬ aS=0:=fun h=>hk ⟨h1,h⟩;simp -implicitDefEqProofs[c1,c2,c3,h1,h2]
  ·simp -implicitDefEqProofs[c1,c2,c3,h1]
 obtain⟨rfl,rfl⟩:=hk;rw[if_neg (by simp)];by_cases hb:(¬ (kB=0∧aB=0))∨o3=true
 ·rw[if_pos hb];by_cases h1:kB=0
  ·by_cases h2:aB=0
   ·subst h1 h2;have h3:o3=true:=by rcases hb with h | h;exact absurd ⟨rfl,rfl⟩ h;exact h
    subst h3;simp -implicitDefEqProofs[c1,c2,c3,c4]
   ·simp -implicitDefEqProofs[c1,c2,c3,c4,h1,h2]
  ·simp -implicitDefEqProofs[c1,c2,c3,c4,h1]
 ·rw[if_neg hb];have h1:kB=0∧aB=0:=Classical.not_not.1 fun h=>hb (.inl h);have h2:o3=false:=by cases o3;rfl;exact absurd (.inr rfl) hb
  obtain⟨rfl,rfl⟩:=h1;subst h2;clear hb;by_cases he:(¬ (kE=0∧aE=0))∨o4=true
  ·rw[if_pos he];by_cases h1:kE=0
   ·by_cases h2:aE=0
    ·subst h1 h2;have h3:o4=true:=by rcases he with h | h;exact absurd ⟨rfl,rfl⟩ h;exact h
     subst h3;simp -implicitDefEqProofs[c1,c2,c3,c4,c5]
    ·simp -implicitDefEqProofs[c1,c2,c3,c4,c5,h1,h2]
   ·simp -implicitDefEqProofs[c1,c2,c3,c4,c5,h1]
  ·rw[if_neg he];have h1:kE=0∧aE=0:=Classical.not_not.1 fun h=>he (.inl h);have h2:o4=false:=by cases o4;rfl;exact absurd (.inr rfl) he
   obtain⟨rfl,rfl⟩:=h1;subst h2;simp -implicitDefEqProofs[c1,c2,c3,c4,c5]
end
end Go.Ab
end
section
namespace Go.Ab
def Zax(t:List UInt8):Sm×Int×Int:=
 if 4000<t.length then (⟨[],[],[],[],[]⟩,1,4000)
 else if (Zaz t).2≠(0,0) then (⟨[],[],[],[],[]⟩,(Zaz t).2)
 else if Zby (Zaz t).1≠0 then (⟨[],[],[],[],[]⟩,2,Zby (Zaz t).1)
 else ((Zaz t).1,0,0)
section
variable{T:Tbl}[Z8 T][Zp T][Zu T][Zy T][Zr T][Zt T][Zo T][Zap T][Ze T][Zj T][Zv T][Zbk T][Zaw T][Za3 T][Zc1 T][Zan T][Zb3 T][Zc0 T][Zci T][Zb2 T][Zcv T][Ze2 T][Ze0 T][Zak T][Zba T][Zc5 T][Zb0 T][Zaa T][Zag T]
theorem zdt(hcut:∀l:List UInt8,l.length≤1000000→Zb T 184 [.s l,.s [124]]=some (.tup [.s (hdC 124 l),.s (tlC 124 l),.b (l.contains 124)]))
  (t:List UInt8) (ht:t.length≤1000000) (hs:t.length≤4000→(Zaz t).2=(0,0)→SmS (Zaz t).1):Zb T 608 [.s t]=some (.tup [esm (Zax t).1,flt (Zax t).2.1 (Zax t).2.2]):=by
 unfold Zax;rw[zab Zag.h608 rfl,b608];by_cases h1:4000<t.length
 ·have h1':(4000:Int)<t.length:=by omega
  rw[if_pos h1];clear hs;simp -implicitDefEqProofs[h1,h1']
 have h1':¬ (4000:Int)<t.length:=by omega
 rw[if_neg h1];have c1:=zxx (T:=T) hcut t (by omega);have c2:(Zaz t).2=(0,0)→Zb T 551 [esm (Zaz t).1]=some (.i .i64 (Zby (Zaz t).1)):=fun h=>zf5 (T:=T) (Zaz t).1 (hs (by omega) h);clear hs hcut ht;generalize Zby (Zaz t).1=W at *
 generalize Zaz t=R at *
 obtain⟨⟨nm,C,A,B,E⟩,k,a⟩:=R;dsimp only at *
 simp only[ne_eq,Prod.mk.injEq];by_cases hk:k=0
 ·by_cases ha:a=0
  ·subst hk ha;have c2:=c2 rfl;rw[if_neg (by simp)];by_cases hw:W=0
   ·subst hw;rw[if_neg (by simp)];simp -implicitDefEqProofs[h1,h1',c1,c2]
   ·rw[if_pos hw];simp -implicitDefEqProofs[h1,h1',c1,c2,hw]
  ·rw[if_pos (fun h=>ha h.2)];simp -implicitDefEqProofs[h1,h1',c1,hk,ha]
 ·rw[if_pos (fun h=>hk h.1)];simp -implicitDefEqProofs[h1,h1',c1,hk]
end
end Go.Ab
end
section
namespace Go.Ab
def Zes(a b:List (List Fz)):Bool:=(a.zip b).all fun p=>decide (p.1.map fv=p.2.map fv)
def Zij(a b:Sm):Bool:=decide (a.nm=b.nm)&&decide (a.a.length=b.a.length)&&decide (a.b.map fv=b.b.map fv)&&decide (a.c.map fv=b.c.map fv)&&decide (a.e.map fv=b.e.map fv)&&Zes a.a b.a
def eqM(a b:List (List Fz)):Bool:=(a.zip b).all fun p=>decide (p.1=p.2)
def eqS(a b:Sm):Bool:=decide (a.nm=b.nm)&&decide (a.a.length=b.a.length)&&decide (a.b=b.b)&&decide (a.c=b.c)&&decide (a.e=b.e)&&eqM a.a b.a
def Zpg(s:Sm):Sm:=⟨s.nm,nrm s.c,s.a.map nrm,nrm s.b,nrm s.e⟩
section
variable{T:Tbl}[Z8 T][Zp T][Zu T][Zy T][Zr T][Zt T][Zap T][Ze T][Zj T][Zv T][Zak T][Zba T][Zag T]
def Zha(a b:Sm)(i:Nat):St:=⟨[(3,.ptr (.loc 3) 1 5 0 0),(46,.sl (Zs a.a) .an),(47,.i .i64 a.a.length),(48,.i .i64 i)],[(.loc 3,bxS b)],3⟩
theorem zre(a b:Sm)(ha:SmS a)(hb:SmS b)(hl:a.a.length=b.a.length) :
  Zw T 0 0 (.norm false []) l598_0 (Zha a b 0)=if Zes (a.a.drop 0) (b.a.drop 0)=true then some (.n,⟨[],[],2⟩) else some (.r,⟨[(4,.b false)],[],2⟩):=by
 have hal:=ha.al;refine zbi (Zha a b) a.a.length (fun i=>if Zes (a.a.drop i) (b.a.drop i)=true then some (.n,⟨[],[],2⟩) else some (.r,⟨[(4,.b false)],[],2⟩)) (fun i hi=>?_) ?_
 ·have hj:i<b.a.length:=by omega
  have hj':(i:Int)<b.a.length:=by omega
  have hga:a.a[i]? = some (a.a[i]'hi):=Ya hi;have hgb:b.a[i]? = some (b.a[i]'hj):=Ya hj;have hws:=zcs hi (by omega);have q1:=ha.a _ (Yv hi);have q2:=hb.a _ (Yv hj);have c:=zgg (T:=T) (a.a[i]'hi) (b.a[i]'hj) q1.1 (fun x hx=>Yc (q1.2 x hx) (by decide)) (fun x hx=>Yc (q2.2 x hx) (by decide));have key:Zes (a.a.drop i) (b.a.drop i)=(decide ((a.a[i]'hi).map fv=(b.a[i]'hj).map fv)&&Zes (a.a.drop (i+1)) (b.a.drop (i+1))):=by
   unfold Zes;rw[Yt hi,Yt hj,List.zip_cons_cons,Ybz]
  clear q1 q2 ha hb;by_cases h:(a.a[i]'hi).map fv=(b.a[i]'hj).map fv
  ·left;rw[decide_eq_true h]at c key;refine⟨?_,by simp only[key,Yeq]⟩;unfold Zha bxS;clear h key;simp -implicitDefEqProofs[l598_0,hi,hga,hj,hj',hgb,hws,c]
  ·right;rw[decide_eq_false h]at c key;rw[if_neg (by simp[key])];unfold Zha bxS;clear h key;constructor<;>simp -implicitDefEqProofs[l598_0,hi,hga,hj,hj',hgb,hws,c]
 ·have e:Zes [] (b.a.drop a.a.length)=true:=rfl;simp only[Yaf,e,if_true];unfold Zha bxS;constructor<;>simp -implicitDefEqProofs[l598_0]
theorem zht(a b:Sm)(ha:SmS a)(hb:SmS b):Zb T 598 [esm a,esm b]=some (.b (Zij a b)):=by
 have le:∀{l:List Fz},(∀x∈l,fsz x≤300)→∀x∈l,fsz x≤1000:=fun h x hx=>Yc (h x hx) (by decide);have c1:=zgg (T:=T) a.b b.b ha.bl (le ha.b) (le hb.b);have c2:=zgg (T:=T) a.c b.c ha.cl (le ha.c) (le hb.c);have c3:=zgg (T:=T) a.e b.e ha.el (le ha.e) (le hb.e);have hlp:=fun hl=>zre (T:=T) a b ha hb hl;unfold Zij;unfold Zha bxS at hlp;simp only[Ya3,Yac]at hlp;rw[zab Zag.h598 rfl,b598];clear ha hb le;generalize decide (a.b.map fv=b.b.map fv)=B1 at *
 generalize decide (a.c.map fv=b.c.map fv)=B2 at *
 generalize decide (a.e.map fv=b.e.map fv)=B3 at *
 generalize Zes a.a b.a=B4 at *
 obtain⟨nm,c,A,B,E⟩:=a;obtain⟨nm',c',A',B',E'⟩:=b;dsimp only at *
 by_cases hn:nm=nm'
 ·by_cases hl:A.length=A'.length
  ·have hl':(A.length:Int)=A'.length:=by omega
   have h:=hlp hl;clear hlp;rw[hl]at h;cases B1 with
   | false=>simp -implicitDefEqProofs[hn,hl,hl',c1]
   | true=>
   cases B2 with
   | false=>simp -implicitDefEqProofs[hn,hl,hl',c1,c2]
   | true=>
   cases B3 with
   | false=>simp -implicitDefEqProofs[hn,hl,hl',c1,c2,c3]
   | true=>
   cases B4 with
   | false=>
    simp only[Y6,if_false]at h;simp -implicitDefEqProofs[hn,hl,hl',c1,c2,c3,h]
   | true=>
    simp only[if_true]at h;simp -implicitDefEqProofs[hn,hl,hl',c1,c2,c3,h]
  ·have hl':¬ (A.length:Int)=A'.length:=by omega
   simp -implicitDefEqProofs[hn,hl,hl']
 ·simp -implicitDefEqProofs[hn]
end
section
variable{T:Tbl}[Za4 T][Za5 T][Zat T][Za6 T][Zbp T][Zbx T][Zbc T][Zbd T][Zfn T][Zfd T][Zdw T]
def Ziu(g:Nat)(s:Sm):Box:=⟨g,.str,5,[[.s s.nm,.sl (Zd s.c) .an,.sl (Zs s.a) .an,.sl (Zd s.b) .an,.sl (Zd s.e) .an]]⟩
def Zph(a b:Sm)(i:Nat):St:=⟨[(2,.ptr (.loc 2) 1 5 0 0),(3,.ptr (.loc 3) 2 5 0 0),(5,.i .i64 i)],[(.loc 2,Ziu 1 a),(.loc 3,Ziu 2 b)],4⟩
end
end Go.Ab
end
section
namespace Go.Ab
def Zgp(a b:List Fz):List Fz:=fzs (Zf0 (a.map fv) (Zc9 ((-1:Int):Rat) (b.map fv)))
def Zgq(s:Sm):List Fz:=if okS s=true∧s.e≠[] then Zgp s.b s.e else []
def Zn1(s:Sm):Bool:=match s.b.getLast?,s.c.getLast?,s.a.getLast? with
 | some b,some c,some a=>decide (fv b=0)&&(decide (fv c=1)&&decide (a.map fv=(s.b.take (s.b.length-1)).map fv))
 | _,_,_=>false
structure OkSm (s:Sm):Prop where
 b1:1≤s.b.length
 b8:s.b.length≤8
 cl:s.c.length=s.b.length
 al:s.a.length=s.b.length
 el:s.e.length=s.b.length∨s.e.length=0
 sh:Zb4 s.a 0=true
 na:Zda s.a=true
 nb:s.b.all Za7=true
 nc:s.c.all Za7=true
 ne:s.e.all Za7=true
theorem z6l(b c e:List Fz):Zda [b,c,e]=(b.all Za7&&c.all Za7&&e.all Za7):=by
 unfold Zda;simp only[Ybz,Yeh,Yep,Bool.and_assoc]
theorem zdd{s:Sm}(h:okS s=true):OkSm s∧Zby s=0:=by
 unfold okS at h;have hw:=of_decide_eq_true h;refine⟨?_,hw⟩;unfold Zby at hw;cases g1:Zbe 2 s.nm with
 | false=>rw[g1]at hw;simp at hw
 | true=>
 cases g2:Zdx s with
 | false=>rw[g1,g2]at hw;simp at hw
 | true=>
 cases g3:Zda s.a with
 | false=>rw[g1,g2,g3]at hw;simp at hw
 | true=>
 cases g4:Zda [s.b,s.c,s.e]with
 | false=>rw[g1,g2,g3,g4]at hw;simp at hw
 | true=>
 obtain⟨s1,s2,s3,s4,s5,s6⟩:=zi9 g2;rw[z6l]at g4;simp only[Yn]at g4;exact⟨s1,s2,s3,s4,s5,s6,g3,g4.1.1,g4.1.2,g4.2⟩
theorem zcd{l:List Fz}(h:l.all Za7=true):∀x∈l,fsz x≤6:=fun x hx=>zkf (Yi.1 h x hx)
section
variable{T:Tbl}[Z8 T][Zp T][Zu T][Zy T][Zr T][Zt T][Zap T][Ze T][Zj T][Zv T][Zbk T][Zaw T][Za3 T][Zb3 T][Zci T][Zb2 T][Zcv T][Ze2 T][Ze0 T][Zak T][Zba T][Zeb T][Zb0 T][Zaa T][Zag T]
theorem zi6(s:Sm)(hs:SmS s):Zb T 555 [esm s]=some (.sl (Zd (Zgq s)) .an):=by
 have c1:=zf6 (T:=T) s hs;unfold Zgq;rw[zab Zag.h555 rfl,b555];cases hk:okS s with
 | false=>
  rw[hk]at c1;rw[if_neg (by simp)];clear hs hk;obtain⟨nm,c,a,b,e⟩:=s;simp -implicitDefEqProofs[c1]
 | true=>
 rw[hk]at c1;obtain⟨H,_⟩:=zdd hk;by_cases h0:s.e=[]
 ·rw[if_neg (fun h=>h.2 h0)];clear hs hk H;obtain⟨nm,c,a,b,e⟩:=s;dsimp only at *
  subst h0;replace c1:Zb T 536 [.agg [.s nm,.sl (Zd c) .an,.sl (Zs a) .an,.sl (Zd b) .an,.sl [] .an]]=_:=c1;simp -implicitDefEqProofs[c1]
 ·rw[if_pos ⟨rfl,h0⟩];have hel:s.e.length=s.b.length:=by
   rcases H.el with h | h
   ·exact h
   ·exact absurd (Yce.1 h) h0
  have hb8:=H.b8;have hpos:¬ (s.e.length:Int)=0:=by have:=Ycf.2 h0;omega
  have c2:=zrc (T:=T) s.b s.e (by omega) hel (B:=6) (by decide) (by decide) (zcd H.nb) (zcd H.ne);have e1:fzs (Zf0 (s.b.map fv) (Zc9 ((-1:Int):Rat) (s.e.map fv)))=Zgp s.b s.e:=rfl;rw[e1]at c2;generalize Zgp s.b s.e=G at *
  clear hs hk H e1;obtain⟨nm,c,a,b,e⟩:=s;dsimp only at *
  simp -implicitDefEqProofs[c1,c2,hpos,h0]
end
end Go.Ab
end
section
namespace Go.Ab
abbrev Zju:List UInt8:=[104,101,117,110,10,48,124,10,49,124,49,10,98,32,49,47,50,44,49,47,50,10,101,32,49,44,48]
abbrev Zky:List UInt8:=[101,117,108,101,114,10,48,124,10,98,32,50]
def Zdp:Sm:=⟨[104,101,117,110],[fz 0,fz 1],[[],[fz 1]],[fz (mkRat 1 2),fz (mkRat 1 2)],[fz 1,fz 0]⟩
def Zjv:Sm:=⟨[101,117,108,101,114],[fz 0],[[]],[fz 2],[]⟩
theorem zmk:Zaz Zju=(Zdp,0,0):=rfl
theorem zpp:Zaz Zky=(Zjv,0,0):=rfl
theorem zcu{q:Rat}(h:sz q≤2):Za7 (fz q)=true:=by
 unfold Za7 Zcs;rw[zdi,decide_eq_true rfl,Yeq,decide_eq_true_eq];have:=z1e (x:=fz q) (k:=2) (by rw[zbk];exact h);omega
theorem zkd:sz (mkRat 1 2)≤1:=zt6 (by decide) (by decide)
theorem sz_0:sz 0≤1:=zt6 (by decide) (by decide)
theorem sz_1:sz 1≤1:=zt6 (by decide) (by decide)
theorem sz_2:sz 2≤1:=zt6 (by decide) (by decide)
theorem zu5:SmS Zdp:=by
 have h0:fsz (fz 0)≤300:=by rw[zbk];have:=sz_0;omega
 have h1:fsz (fz 1)≤300:=by rw[zbk];have:=sz_1;omega
 have h2:fsz (fz (mkRat 1 2))≤300:=by rw[zbk];have:=zkd;omega
 unfold Zdp;constructor
 ·decide
 ·simp
 ·simp
 ·simp
 ·simp
 ·intro x hx;simp only[Yj,Yas,or_false]at hx;rcases hx with rfl | rfl<;>assumption
 ·intro r hr;simp only[Yj,Yas,or_false]at hr;rcases hr with rfl | rfl
  ·exact⟨by simp,by simp⟩
  ·exact⟨by simp,fun x hx=>by simp only[Yj,Yas,or_false]at hx;subst hx;assumption⟩
 ·intro x hx;simp only[Yj,Yas,or_false]at hx;rcases hx with rfl | rfl<;>assumption
 ·intro x hx;simp only[Yj,Yas,or_false]at hx;rcases hx with rfl | rfl<;>assumption
theorem z6m:SmS Zjv:=by
 have h0:fsz (fz 0)≤300:=by rw[zbk];have:=sz_0;omega
 have h2:fsz (fz 2)≤300:=by rw[zbk];have:=sz_2;omega
 unfold Zjv;constructor
 ·decide
 ·simp
 ·simp
 ·simp
 ·simp
 ·intro x hx;simp only[Yj,Yas,or_false]at hx;subst hx;assumption
 ·intro r hr;simp only[Yj,Yas,or_false]at hr;subst hr;exact⟨by simp,by simp⟩
 ·intro x hx;simp only[Yj,Yas,or_false]at hx;subst hx;assumption
 ·simp
theorem zi7:Zby Zdp=0:=by
 have n0:Za7 (fz 0)=true:=zcu (by have:=sz_0;omega);have n1:Za7 (fz 1)=true:=zcu (by have:=sz_1;omega);have n2:Za7 (fz (mkRat 1 2))=true:=zcu (by have:=zkd;omega);have r1:Zbe 2 [104,101,117,110]=true:=rfl;have s1:sumF [fz (mkRat 1 2),fz (mkRat 1 2)]=1:=by unfold sumF;simp only[Yba,Ycy,zdi];decide +kernel
 have s2:sumF [fz 1,fz 0]=1:=by unfold sumF;simp only[Yba,Ycy,zdi];decide +kernel
 have s3:sumF [fz 1]=1:=by unfold sumF;simp only[Yba,Ycy,zdi];decide +kernel
 have s4:sumF []=0:=rfl;unfold Zby Zdp Zdx Zda Zcr;simp[Zb4,n0,n1,n2,r1,s1,s2,s3,s4,zdi]
theorem zml:Zby Zjv=5:=by
 have n0:Za7 (fz 0)=true:=zcu (by have:=sz_0;omega);have n2:Za7 (fz 2)=true:=zcu (by have:=sz_2;omega);have r1:Zbe 2 [101,117,108,101,114]=true:=rfl;have s1:sumF [fz 2]≠1:=by unfold sumF;simp only[Yba,Ycy,zdi];decide +kernel
 have s4:sumF []=0:=rfl;unfold Zby Zjv Zdx Zda Zcr;simp[Zb4,n0,n2,r1,s1,s4,zdi]
theorem zrf:Zax Zju=(Zdp,0,0):=by
 unfold Zax;rw[if_neg (by decide),zmk,if_neg (by simp),if_neg (by simp[zi7])]
theorem zu6:Zax Zky=(⟨[],[],[],[],[]⟩,2,5):=by
 unfold Zax;rw[if_neg (by decide),zpp,if_neg (by simp),if_pos (by simp[zml])];dsimp only;rw[zml]
theorem zxt:Zgq Zdp=[fz (-(mkRat 1 2)),fz (mkRat 1 2)]:=by
 have ho:okS Zdp=true:=by unfold okS;rw[zi7];rfl
 unfold Zgq;rw[if_pos ⟨ho,by unfold Zdp;simp⟩];unfold Zgp Zdp Zf0 Zc9 fzs;simp only[Ys,Yb0,zdi,List.zipWith_cons_cons,List.zipWith_nil_left];have e1:mkRat 1 2+((-1:Int):Rat)*1=-(mkRat 1 2):=by decide +kernel
 have e2:mkRat 1 2+((-1:Int):Rat)*0=mkRat 1 2:=by decide +kernel
 rw[e1,e2]
end Go.Ab
end
section
namespace Go.Ab
end Go.Ab
end
section
namespace Go.Ab
class Zj9 (T:Tbl):Prop where
end Go.Ab
end
section
namespace Go.Ab
class Zj8 (T:Tbl):Prop where
end Go.Ab
end
section
namespace Go.Ab
end Go.Ab
end
section
namespace Go.Ab
theorem zc8{K:Nat}:∀(ts:List (List UInt8)),(∀t∈ts,t.length≤K)→(List.intercalate [44] ts).length≤ts.length*(K+1)
 | [],_=>by simp[List.intercalate]
 | [t],h=>by
  have:=h t Yk;simp[List.intercalate];omega
 | t::t2::ts,h=>by
  have h1:=h t Yk;have h2:=zc8 (t2::ts) fun t ht=>h t (Yg _ ht);have e:List.intercalate [44] (t::t2::ts)=t++44::List.intercalate [44] (t2::ts):=by simp[List.intercalate]
  rw[e,Yp,Yd];simp only[Yd]at h2 ⊢;rw[Ydz];omega
section
variable{T:Tbl}[Z8 T][Zp T][Zu T][Zy T][Zr T][Zt T][Zo T][Zap T][Ze T][Zj T][Zv T][Zbk T][Za3 T][Zc1 T][Zan T][Zb3 T][Zc0 T][Zak T][Zba T][Zc5 T][Zeb T][Za4 T][Za5 T][Zat T][Za6 T][Zbp T][Zbx T][Zbc T][Zbd T][Zg6 T][Zde T][Zc4 T][Zj8 T][Zj9 T]
def Znd(l:List Fz)(i:Nat):St:=⟨[(0,.sl (Zd l) .an),(3,.i .i64 (Zll (l.take i))),(4,.i .i64 i)],[],2⟩
end
end Go.Ab
end
section
namespace Go.Ab
theorem zd7(c:List UInt8):∀(ts:List (List UInt8)) (t:List UInt8),ts≠[]→List.intercalate c (ts++[t])=List.intercalate c ts++(c++t)
 | [],_,h=>absurd rfl h
 | [a],t,_=>by simp[List.intercalate,List.intersperse]
 | a::b::r,t,_=>by
  have ih:=zd7 c (b::r) t (by simp);simp only[List.intercalate,Ya2,List.intersperse,Yd7]at ih ⊢;rw[ih];simp only[Y5]
theorem zfq{q:Rat}(h:sz q≤20):(Zz q.num.natAbs).length≤193∧(Zz q.den).length≤193∧(Z9 q.num).length≤194∧(Zaj q).length≤400:=by
 have h1:=zdf (n:=q.num.natAbs) (k:=20) (d:=192) (Yc (zf7 q) h) (by decide +kernel);have h2:=zdf (n:=q.den) (k:=20) (d:=192) (Yc (zfb q) h) (by decide +kernel);have h3:(Z9 q.num).length≤194:=by
  unfold Z9;split
  ·simp;omega
  ·omega
 refine⟨h1,h2,h3,?_⟩;unfold Zaj;split
 ·omega
 ·simp;omega
section
variable{T:Tbl}[Za4 T][Za5 T][Zat T][Za6 T][Zbp T][Zbx T][Zbc T][Zgl T][Zbd T][Zfc T]
def Znq(s:List UInt8)(y:Nat×Nat×List Rat):St:=
 ⟨[(0,.s s),(5,.bs (.loc 5) 1 3 0 y.2.2.length),(6,.i .i64 y.2.1),(7,.i .i64 y.1)],[(.loc 5,⟨1,.own,3,Zd (fzs y.2.2)⟩)],3⟩
def Zmj(r:List Rat×Int×Int):Option (Ex×St):=
 if r.2.1=0 then some (.n,⟨[(5,.bs (.loc 5) 1 3 0 r.1.length)],[(.loc 5,⟨1,.own,3,Zd (fzs r.1)⟩)],3⟩)
 else some (.r,⟨[(2,.sl [] .an),(3,.i .i64 r.2.1),(4,.i .i64 r.2.2)],[],2⟩)
def Zl2(s:List UInt8)(y:Nat×Nat×List Rat):List Rat×Int×Int:=
 if y.1≤s.length then Zaq (Zx 44 (s.drop y.2.1)) y.2.1 y.2.2 else (y.2.2,0,0)
def piece(s:List UInt8)(i from_:Nat):List UInt8:=(s.drop from_).take (i-from_)
end
end Go.Ab
end
section
namespace Go.Ab
theorem zu7:Zaj (mkRat 1 2)=[49,47,50]:=by
 have e1:(mkRat 1 2).num=1:=by decide
 have e2:(mkRat 1 2).den=2:=by decide
 unfold Zaj Z9;rw[e1,e2];simp[zbf]
theorem zrg:Zaj (-(mkRat 1 2))=[45,49,47,50]:=by
 have e1:(-(mkRat 1 2)).num=-1:=by decide
 have e2:(-(mkRat 1 2)).den=2:=by decide
 unfold Zaj Z9;rw[e1,e2];simp[zbf]
theorem zxu:List.intercalate [44] (Z4 [fz (-(mkRat 1 2)),fz (mkRat 1 2)])=[45,49,47,50,44,49,47,50]:=by
 unfold Z4;simp only[Ys,Yb0,zdi,zu7,zrg]
 rfl
section
variable{T:Tbl}[Z8 T][Zp T][Zu T][Zy T][Zr T][Zt T][Zo T][Zap T][Ze T][Zj T][Zv T][Zbk T][Zaw T][Za3 T][Zc1 T][Zan T][Zb3 T][Zc0 T][Zci T][Zb2 T][Zcv T][Ze2 T][Ze0 T][Zak T][Zba T][Zc5 T][Zeb T][Zb0 T][Zaa T][Zag T][Zfd T][Zdw T]
theorem znz(hcut:∀l:List UInt8,l.length≤1000000→Zb T 184 [.s l,.s [124]]=some (.tup [.s (hdC 124 l),.s (tlC 124 l),.b (l.contains 124)])):Zb T 596 []=some (.b true):=by
 have c1:=zdt (T:=T) hcut Zju (by decide) (fun _ _=>by rw[zmk];exact zu5);have c2:=zdt (T:=T) hcut Zky (by decide) (fun _ _=>by rw[zpp];exact z6m);rw[zrf]at c1;rw[zu6]at c2;have c3:=zi6 (T:=T) Zdp zu5;rw[zxt]at c3;have c4:=zgh (T:=T) [fz (-(mkRat 1 2)),fz (mkRat 1 2)] (by simp) (by
  intro x hx;simp only[Yj,Yas,or_false]at hx;rcases hx with rfl | rfl
  ·rw[zbk,z6z];have:=zkd;omega
  ·rw[zbk];have:=zkd;omega)
 rw[zxu]at c4;have hb:Zdp.b.length=2:=rfl;generalize [fz (-(mkRat 1 2)),fz (mkRat 1 2)]=G at *
 generalize Zdp=S at *
 obtain⟨nm,c,a,b,e⟩:=S;dsimp only at *
 rw[zab Zdw.h596 rfl,b596];simp -implicitDefEqProofs[c1,c2,c3,c4,hb]
def Zgr(s:Sm)(i:Nat):St:=⟨[(1,.ptr (.loc 1) 1 5 0 0),(4,.bs (.loc 33) 2 1 0 (i+1)),(14,.sl (Zs s.a) .an),(15,.i .i64 s.a.length),(16,.i .i64 i)],
 [(.loc 1,bxS s),(.loc 33,⟨2,.own,1,Zq ([s.nm]++((s.c.zip s.a).take i).map fun p=>Zcb p.1 p.2)⟩)],4⟩
def Ziv(s:Sm):Nat→St
 | 0=>⟨[(1,.ptr (.loc 1) 1 5 0 0),(4,.sl (Zq [s.nm]) .fu),(14,.sl (Zs s.a) .an),(15,.i .i64 s.a.length),(16,.i .i64 0)],[(.loc 1,bxS s)],3⟩
 | i+1=>Zgr s (i+1)
theorem zyz(s:Sm):Ziv s 0=⟨[(1,.ptr (.loc 1) 1 5 0 0),(4,.sl [[.s s.nm]] .fu),(14,.sl (Zs s.a) .an),(15,.i .i64 s.a.length),(16,.i .i64 0)],[(.loc 1,bxS s)],3⟩:=rfl
theorem z6n(s:Sm){i:Nat}(h:¬i=0):Ziv s i=Zgr s i:=by cases i with | zero=>omega | succ m=>rfl
theorem zy0(s:Sm)(i:Nat):Ziv s (i+1)=Zgr s (i+1):=rfl
theorem zrh(s:Sm)(hc:s.c.length=s.a.length)(h0:1≤s.a.length)(hl:s.a.length≤8)(h1:∀x∈s.c,fsz x≤6)(h2:∀r∈s.a,r.length≤8∧∀x∈r,fsz x≤6) :
  Zw T 0 0 (.norm false [1,4]) l597_0 (Ziv s 0)=some (.n,⟨[(1,.ptr (.loc 1) 1 5 0 0),(4,.bs (.loc 33) 2 1 0 (s.a.length+1))],[(.loc 1,bxS s),(.loc 33,⟨2,.own,1,Zq ([s.nm]++(s.c.zip s.a).map fun p=>Zcb p.1 p.2)⟩)],4⟩):=by
 refine za8 (Ziv s) s.a.length _ (fun i hi=>?_) ?_
 ·have hj:i<s.c.length:=by omega
  have hj':(i:Int)<s.c.length:=by omega
  have hga:s.a[i]? = some (s.a[i]'hi):=Ya hi;have hgc:s.c[i]? = some (s.c[i]'hj):=Ya hj;have hws:=zcs hi (by omega);have q:=h2 _ (Yv hi);have c1:=zhm (T:=T) (s.c[i]'hj) (by have:=h1 _ (Yv hj);omega);have c2:=zgh (T:=T) (s.a[i]'hi) (by omega) (fun x hx=>by have:=q.2 x hx;omega);have hz:i<(s.c.zip s.a).length:=by rw[Ydb];omega
  have e:((s.c.zip s.a).take (i+1)).map (fun p=>Zcb p.1 p.2)=((s.c.zip s.a).take i).map (fun p=>Zcb p.1 p.2)++[Zcb (s.c[i]'hj) (s.a[i]'hi)]:=by
   rw[Ya5 hz,Yc9];simp
  have hml:([s.nm]++((s.c.zip s.a).take i).map (fun p=>Zcb p.1 p.2)).length=i+1:=by simp;omega
  have hx1:fsz (s.c[i]'hj)≤6:=h1 _ (Yv hj);have u1:=zhn (q:=fv (s.c[i]'hj)) (by have:=zeq (L:=6) hx1 (by decide);omega);have u2:=zc8 (K:=10000) (Z4 (s.a[i]'hi)) (fun t ht=>by
   obtain⟨x,hx,rfl⟩:=Y4.1 ht;have:=zeq (L:=6) (q.2 x hx) (by decide);exact zhn (by omega))
  have u3:(Z4 (s.a[i]'hi)).length≤8:=by unfold Z4;rw[Ya8];exact q.1
  have u4:(Z4 (s.a[i]'hi)).length*(10000+1)≤8*(10000+1):=Yw _ u3;by_cases h0:i=0
  ·subst h0;rw[zyz,zy0];unfold Zgr bxS;rw[e,←Y5];have hst:Zcb (s.c[0]'hj) (s.a[0]'hi)=Zaj (fv (s.c[0]'hj))++([124]:List UInt8)++List.intercalate [44] (Z4 (s.a[0]'hi)):=rfl;rw[hst];clear hst e;simp only[Yb3,Yb0,Yan]at *
   generalize Zaj (fv (s.c[0]'hj))=t1 at *
   generalize List.intercalate [44] (Z4 (s.a[0]'hi))=t2 at *
   have hp:=zcv [s.nm] (t1++([124]:List UInt8)++t2);rw[hml]at hp;have v1:t1.length≤9223372036854775806:=by omega
   have v2:t1.length+1+t2.length≤9223372036854775807:=by omega
   have v3:t1.length+(t2.length+1)≤9223372036854775807:=by omega
   rw[Y5]at hp;simp only[Ya2,Yax]at hp
   skip
   generalize hxc:s.c[0]'hj=xc at *
   obtain⟨nm,C,A,B,E⟩:=s;obtain⟨y1,y2,y3⟩:=xc;dsimp only at *
   clear q h1 h2;simp -implicitDefEqProofs[Zq,l597_0,hi,hga,hj,hj',hgc,hxc,hws,c1,c2,v1,v2,v3]
  ·rw[z6n s h0,zy0];unfold Zgr bxS;rw[e,←Y5];have hst:Zcb (s.c[i]'hj) (s.a[i]'hi)=Zaj (fv (s.c[i]'hj))++[124]++List.intercalate [44] (Z4 (s.a[i]'hi)):=rfl;rw[hst];clear hst e;generalize [s.nm]++((s.c.zip s.a).take i).map (fun p=>Zcb p.1 p.2)=M at *
   generalize Zaj (fv (s.c[i]'hj))=t1 at *
   generalize List.intercalate [44] (Z4 (s.a[i]'hi))=t2 at *
   have hp:=zcv M (t1++[124]++t2);rw[hml]at hp;have v1:t1.length≤9223372036854775806:=by omega
   have v2:t1.length+1+t2.length≤9223372036854775807:=by omega
   have v3:t1.length+(t2.length+1)≤9223372036854775807:=by omega
   rw[Y5]at hp;simp only[Ya2,Yax]at hp;have hb:i≤4294967294:=by omega
   generalize hxc:s.c[i]'hj=xc at *
   obtain⟨nm,C,A,B,E⟩:=s;obtain⟨y1,y2,y3⟩:=xc;dsimp only at *
   clear q h1 h2;simp -implicitDefEqProofs[l597_0,hi,hga,hj,hj',hgc,hxc,hws,c1,c2,hml,hb,hp,v1,v2,v3]
 ·have e:(s.c.zip s.a).take s.a.length=s.c.zip s.a:=Yb (by rw[Ydb];omega);have e2:Ziv s s.a.length=Zgr s s.a.length:=by
   cases h:s.a.length with
   | zero=>omega
   | succ m=>rfl
  rw[e2];unfold Zgr bxS;rw[e];generalize [s.nm]++(s.c.zip s.a).map (fun p=>Zcb p.1 p.2)=M at *
  constructor<;>simp -implicitDefEqProofs[l597_0]
theorem zhu(s:Sm)(hs:SmS s):Zb T 597 [esm s]=some (.tup (if okS s=true then [.s (textS s),.b true] else [.s [],.b false])):=by
 have c1:=zf6 (T:=T) s hs;rw[zab Zfd.h597 rfl,b597];cases hk:okS s with
 | false=>
  rw[hk]at c1;clear hs hk;obtain⟨nm,c,a,b,e⟩:=s;simp -implicitDefEqProofs[c1]
 | true=>
 rw[hk]at c1;unfold esm at c1 ⊢;obtain⟨H,_⟩:=zdd hk;have n1:=H.b1;have n8:=H.b8;have nc:=H.cl;have na:=H.al;have hnm:=hs.nm;have ha:∀r∈s.a,r.length≤8∧∀x∈r,fsz x≤6:=fun r hr=>⟨by have:=zea _ _ H.sh r hr;omega,zkg H.na r hr⟩;have hl:=zrh (T:=T) s (by omega) (by omega) (by omega) (zcd H.nc) ha;have cb:=zgh (T:=T) s.b (by omega) (fun x hx=>by have:=zcd H.nb x hx;omega);have hel:s.e.length≤8:=by rcases H.el with h | h<;>omega
 have ce:=zgh (T:=T) s.e (by omega) (fun x hx=>by have:=zcd H.ne x hx;omega);have lt:∀l:List Fz,l.length≤8→(∀x∈l,fsz x≤6)→(∀t∈Z4 l,t.length≤1000)∧(List.intercalate [44] (Z4 l)).length≤8008:=by
  intro l h8 h6;have hq:∀t∈Z4 l,t.length≤1000:=by
   intro t ht;obtain⟨x,hx,rfl⟩:=Y4.1 ht;have:=(zfq (q:=fv x) (by have:=zeq (L:=6) (h6 x hx) (by decide);omega)).2.2.2;omega
  refine⟨hq,?_⟩;have hb:=zc8 (K:=1000) (Z4 l) hq;have u3:(Z4 l).length≤8:=by unfold Z4;rw[Ya8];exact h8
  have u4:(Z4 l).length*(1000+1)≤8*(1000+1):=Yw _ u3;omega
 have lb:=(lt s.b (by omega) (zcd H.nb)).2;have le:=(lt s.e hel (zcd H.ne)).2;have lst:∀p∈s.c.zip s.a,(Zcb p.1 p.2).length≤10000:=by
  intro p hp;have hm:=Yen hp;have l1:=(lt [p.1] (by simp) (fun x hx=>by rw[Yaa.1 hx];exact zcd H.nc _ hm.1)).1 (Zaj (fv p.1)) (by simp[Z4]);have l2:=(lt p.2 (ha _ hm.2).1 (ha _ hm.2).2).2;unfold Zcb;simp only[Yp,Yd,Y7];omega
 have hz:(s.c.zip s.a).length=s.a.length:=by rw[Ydb];omega
 have hj:Zb T 183 [.sl (Zq (Zdy s)) .an,.s [10]]=some (.s (textS s)):=by
  have g1:∀t∈Zdy s,t.length≤10000:=by
   intro t ht;unfold Zdy at ht;simp only[Yab,Y4,Yaa]at ht;rcases ht with ((h | h) | h) | h
   ·rw[h];omega
   ·obtain⟨p,hp,h⟩:=h;rw[←h];exact lst p hp
   ·rw[h];simp only[Yp,Yd,Y7];omega
   ·by_cases h0:s.e=[]
    ·rw[if_pos h0]at h;cases h
    ·rw[if_neg h0,Yaa]at h;rw[h];simp only[Yp,Yd,Y7];omega
  have g2:(Zdy s).length≤1000:=by
   unfold Zdy;simp only[Yp,Ya8,Yd,Y7,hz];split<;>simp<;>omega
  rw[p183,zjf _ _ g1 g2 (by decide)]
  rfl
 have e3:Zdy s=[s.nm]++(s.c.zip s.a).map (fun p=>Zcb p.1 p.2)++[[98,32]++List.intercalate [44] (Z4 s.b)]++(if s.e=[] then [] else [[101,32]++List.intercalate [44] (Z4 s.e)]):=rfl;rw[e3]at hj;have hml:([s.nm]++(s.c.zip s.a).map (fun p=>Zcb p.1 p.2)).length=s.a.length+1:=by simp[hz]
 have h8:s.a.length≤8:=by omega
 rw[zyz]at hl;unfold bxS at hl;generalize [s.nm]++(s.c.zip s.a).map (fun p=>Zcb p.1 p.2)=M at *
 generalize textS s=X at *
 generalize List.intercalate [44] (Z4 s.b)=tb at *
 generalize List.intercalate [44] (Z4 s.e)=te at *
 clear lst lt ha H hs hk e3 hz nc n1 n8 hel;obtain⟨nm,C,A,B,E⟩:=s;dsimp only at *
 have p1:=zcv M ([98,32]++tb);rw[hml]at p1;have p2:=zcv (M++[[98,32]++tb]) ([101,32]++te);have hm2:(M++[[98,32]++tb]).length=A.length+2:=by simp[hml]
 rw[hm2]at p2;simp only[Ya2,Yax]at p1 p2 hj hm2;have v1:2+tb.length≤9223372036854775807:=by omega
 have v2:2+te.length≤9223372036854775807:=by omega
 have v3:A.length≤4294967294:=by omega
 have v5:A.length≤4294967293:=by omega
 have v4:M.length≤4294967200:=by omega
 clear lb le h8 na;have r1:List.take (A.length+1) (Zq M)=Zq M:=Yb (by rw[zar,hml];omega);have r2:∀x:List AV,List.take (A.length+1+1) (Zq M++[x])=Zq M++[x]:=fun x=>Yb (by simp[zar,hml]);have r3:∀x y:List AV,List.take (A.length+1+1+1) (Zq M++[x,y])=Zq M++[x,y]:=fun x y=>Yb (by simp[zar,hml]);have ra:Zq (M++[98::32::tb])=Zq M++[[.s (98::32::tb)]]:=by simp[Zq]
 rw[r1]at p1;rw[ra,r2,Y5]at p2;simp only[Ya2,Yax]at p2;cases E with
 | nil=>
  rw[show Zd []=[] from rfl]at *
  clear ce p2 hm2;simp only[if_true,Yan]at hj;simp -implicitDefEqProofs[r1,r2,c1,hl,cb,p1,hml,v1,v3,v5,hj]
 | cons x E=>
  simp only[reduceCtorEq,if_false]at hj;rw[Y5]at hj;simp only[Ya2,Yax]at hj;simp -implicitDefEqProofs[r1,r2,r3,c1,hl,cb,ce,p1,p2,hml,hm2,v1,v2,v3,v5,hj]
end
end Go.Ab
end
section
namespace Go.Ab
theorem zf4{K:Nat}(c:UInt8):∀(ts:List (List UInt8)),(∀t∈ts,t.length≤K)→(List.intercalate [c] ts).length≤ts.length*(K+1)
 | [],_=>by simp[List.intercalate]
 | [t],h=>by
  have:=h t Yk;simp[List.intercalate];omega
 | t::t2::ts,h=>by
  have h1:=h t Yk;have h2:=zf4 c (t2::ts) fun t ht=>h t (Yg _ ht);have e:List.intercalate [c] (t::t2::ts)=t++c::List.intercalate [c] (t2::ts):=by simp[List.intercalate]
  rw[e,Yp,Yd];simp only[Yd]at h2 ⊢;rw[Ydz];omega
theorem zpq{x:Fz}(h:Za7 x=true):x=fz (fv x):=by
 unfold Za7 Zcs at h;simp only[Yn,decide_eq_true_eq]at h;exact h.1
theorem zhv{l:List Fz}(h:l.all Za7=true):l=fzs (l.map fv):=by
 unfold fzs;rw[Ycb];exact(List.map_id l).symm.trans (List.map_congr_left fun x hx=>zpq (Yi.1 h x hx))
section
variable{T:Tbl}[Z8 T][Zp T][Zu T][Zy T][Zr T][Zt T][Zo T][Zap T][Ze T][Zj T][Zv T][Zbk T][Zaw T][Za3 T][Za4 T][Za5 T][Zat T][Zbp T][Za6 T][Zbx T][Zbc T][Zgl T][Zbd T][Zfc T][Zc1 T][Zan T][Zb3 T][Zc0 T][Zci T][Zb2 T][Zcv T][Ze2 T][Ze0 T][Zak T][Zba T][Zc5 T][Zeb T][Zb0 T][Zaa T][Zag T][Zfd T][Zdw T]
theorem zke(l:List Fz)(h8:l.length≤8)(h6:l.all Za7=true):(List.intercalate [44] (Z4 l)).length≤8008:=by
 have hq:∀t∈Z4 l,t.length≤1000:=by
  intro t ht;obtain⟨x,hx,rfl⟩:=Y4.1 ht;have:=(zfq (q:=fv x) (by have:=zeq (L:=6) (zcd h6 x hx) (by decide);omega)).2.2.2;omega
 have hb:=zc8 (K:=1000) (Z4 l) hq;have u3:(Z4 l).length≤8:=by unfold Z4;rw[Ya8];exact h8
 have u4:(Z4 l).length*(1000+1)≤8*(1000+1):=Yw _ u3;omega
theorem zn0(x:Fz)(h:Za7 x=true):(Zaj (fv x)).length≤1000:=by
 have:=(zfq (q:=fv x) (by have:=zeq (L:=6) (zkf h) (by decide);omega)).2.2.2;omega
def Zjw(s:Sm)(i:Nat):List UInt8:=List.intercalate [10] ([s.nm]++((s.c.zip s.a).take i).map fun p=>Zcb p.1 p.2)
def Zn2(s:Sm)(i:Nat):St:=⟨[(1,.ptr (.loc 1) 1 5 0 0),(3,.s (Zjw s i)),(4,.i .i64 i)],[(.loc 1,bxS s)],3⟩
theorem zu8(s:Sm)(hc:s.c.length=s.a.length):textS s=Zjw s s.a.length++(10::98::32::List.intercalate [44] (Z4 s.b))++(if s.e=[] then [] else 10::101::32::List.intercalate [44] (Z4 s.e)):=by
 unfold textS Zdy Zjw;have e:(s.c.zip s.a).take s.a.length=s.c.zip s.a:=Yb (by rw[Ydb];omega);rw[e];split
 ·rw[Yan,Yan,zd7 _ _ _ (by simp)]
  rfl
 ·rw[zd7 _ _ _ (by simp),zd7 _ _ _ (by simp)]
  rfl
theorem z1i(s:Sm)(hn:s.nm.length≤1000)(hl:s.a.length≤8)(h1:s.c.all Za7=true)(h2:∀r∈s.a,r.length≤8∧r.all Za7=true)(i:Nat):(Zjw s i).length≤99010:=by
 have hm:∀t∈[s.nm]++((s.c.zip s.a).take i).map (fun p=>Zcb p.1 p.2),t.length≤10000:=by
  intro t ht;simp only[Yab,Yaa,Y4]at ht;rcases ht with h | ⟨p,hp,h⟩
  ·rw[h];omega
  ·rw[←h];have hm:=Yen (Yav hp);have l1:=zn0 p.1 (Yi.1 h1 _ hm.1);have l2:=zke p.2 (h2 _ hm.2).1 (h2 _ hm.2).2;unfold Zcb;simp only[Yp,Yd,Y7];omega
 have b:=zf4 (K:=10000) 10 _ hm;have u:([s.nm]++((s.c.zip s.a).take i).map (fun p=>Zcb p.1 p.2)).length≤9:=by
  simp only[Yp,Ya8,Yaq,Ydb,Yd,Y7];omega
 have u4:=Yw (10000+1) u;unfold Zjw;omega
end
end Go.Ab
end
section
namespace Go.Ab
def Zh8(l:List UInt8):Prop:=∀b∈l,44≤b.toNat∧b.toNat≤57
theorem zka{l:List UInt8}(h:Dig l):Zh8 l:=fun b hb=>by have:=h b hb;omega
theorem zi0(z:Int):Zh8 (Z9 z):=by
 unfold Z9;split
 ·intro b hb;rcases Yj.1 hb with rfl | hb
  ·decide
  ·exact zka (zbg _) b hb
 ·exact zka (zbg _)
theorem zfr(q:Rat):Zh8 (Zaj q):=by
 unfold Zaj;split
 ·exact zi0 _
 ·intro b hb;rcases Yab.1 hb with hb | hb
  ·exact zi0 _ b hb
  ·rcases Yj.1 hb with rfl | hb
   ·decide
   ·exact zka (zbg _) b hb
theorem zd8(c:UInt8)(x:List UInt8)(l:List (List UInt8))(h:l≠[]):List.intercalate [c] (x::l)=x++c::List.intercalate [c] l:=by
 cases l with
 | nil=>exact absurd rfl h
 | cons y l=>simp[List.intercalate]
theorem zi1:∀ts:List (List UInt8),(∀t∈ts,Zh8 t)→Zh8 (List.intercalate [44] ts)
 | [],_=>by intro b hb;simp[List.intercalate]at hb
 | [t],h=>by
  have e:List.intercalate [44] [t]=t:=by simp[List.intercalate]
  rw[e];exact h t Yk
 | t::u::ts,h=>by
  rw[zd8 44 t (u::ts) (by simp)];intro b hb;rcases Yab.1 hb with hb | hb
  ·exact h t Yk b hb
  ·rcases Yj.1 hb with rfl | hb
   ·decide
   ·exact zi1 (u::ts) (fun t' ht=>h t' (Yg _ ht)) b hb
theorem zhp(l:List Fz):Zh8 (List.intercalate [44] (Z4 l)):=zi1 _ fun t ht=>by
 unfold Z4 at ht;obtain⟨x,_,rfl⟩:=Y4.1 ht;exact zfr _
theorem zpi(c:UInt8)(r:List UInt8):∀l:List UInt8,(∀b∈l,b≠c)→hdC c (l++c::r)=l∧tlC c (l++c::r)=r
 | [],_=>by simp[hdC,tlC]
 | b::l,h=>by
  have h1:=h b Yk;obtain⟨e1,e2⟩:=zpi c r l fun d hd=>h d (Yg _ hd);unfold hdC tlC at *
  simp[Ydv,List.dropWhile_cons,h1,e1,e2]
theorem zhq(c:UInt8):∀l:List UInt8,(∀b∈l,b≠c)→hdC c l=l∧l.contains c=false
 | [],_=>by simp[hdC]
 | b::l,h=>by
  have h1:=h b Yk;obtain⟨e1,e2⟩:=zhq c l fun d hd=>h d (Yg _ hd);have h2:¬ c=b:=fun e=>h1 e.symm;unfold hdC at *
  simp at e2;simp[Ydv,h1,h2,e1,e2]
theorem zux(c:UInt8)(l r:List UInt8):(l++c::r).contains c=true:=by simp
theorem zhr{l:List UInt8}(h:Zh8 l){c:UInt8}(hc:c.toNat<44∨57<c.toNat):∀b∈l,b≠c:=fun b hb e=>by
 have:=h b hb;rw[e]at this;omega
theorem zi2{x:Fz}(h:Za7 x=true):(Zz (fv x).num.natAbs).length≤60∧(Zz (fv x).den).length≤60:=by
 have h1:sz (fv x)≤6:=zeq (zkf h) (by decide);unfold sz at h1;have h2:(4294967296:Nat)^6<10^(59+1):=by decide
 exact⟨zdf (Yc (Yc8 _ _) h1) h2,zdf (Yc (Ycz _ _) h1) h2⟩
theorem zmg{l:List Fz}(h:l.all Za7=true):Zca (List.intercalate [44] (Z4 l))=(l.map fv,0,0):=by
 have e:Z4 l=(l.map fv).map Zaj:=by unfold Z4;rw[Ycb];rfl
 rw[e];refine zrx _ fun q hq=>?_;obtain⟨x,hx,rfl⟩:=Y4.1 hq;exact zi2 (Yi.1 h x hx)
theorem zny(c:Fz)(r:List Fz):Zcb c r=Zaj (fv c)++124::List.intercalate [44] (Z4 r):=by
 unfold Zcb;rw[Y5]
 rfl
theorem zxq{c:Fz}{r:List Fz}(hc:Za7 c=true)(hr:r.all Za7=true)(n:Int):Zb7 (Zcb c r) n=(fv c,r.map fv,0,0):=by
 obtain⟨e1,e2⟩:=zpi 124 (List.intercalate [44] (Z4 r)) (Zaj (fv c)) (zhr (zfr _) (by decide));rw[←zny]at e1 e2;obtain⟨a,b⟩:=zi2 hc;unfold Zb7 shF;rw[e1,e2,zmx a b,zmg hr];simp
theorem z1g(c:Fz)(r:List Fz):∀b∈Zcb c r,b≠10:=by
 rw[zny];intro b hb;rcases Yab.1 hb with hb | hb
 ·exact zhr (zfr _) (by decide) b hb
 ·rcases Yj.1 hb with rfl | hb
  ·decide
  ·exact zhr (zhp _) (by decide) b hb
def Zem:List (Fz×List Fz)→List UInt8→List UInt8
 | [],W=>W
 | p::l,W=>Zcb p.1 p.2++10::Zem l W
theorem zpj(W:List UInt8):∀l:List (Fz×List Fz),l.length≤(Zem l W).length
 | []=>Y1 _
 | p::l=>by
  have:=zpj W l;simp only[Zem,Yp,Yd];omega
theorem zmh(x:List UInt8)(rest:List (List UInt8)):∀l:List (Fz×List Fz),List.intercalate [10] (l.map (fun p=>Zcb p.1 p.2)++x::rest)=Zem l (List.intercalate [10] (x::rest))
 | []=>rfl
 | p::l=>by
  rw[Ys,Ya2,zd8 10 _ _ (by simp),zmh x rest l]
  rfl
def Ze5(s:Sm):List UInt8:=98::32::List.intercalate [44] (Z4 s.b)++(if s.e=[] then [] else 10::101::32::List.intercalate [44] (Z4 s.e))
theorem zgj(s:Sm):textS s=s.nm++10::Zem (s.c.zip s.a) (Ze5 s):=by
 unfold textS Zdy;rw[Y5,Y5,Ydg,zd8 10 _ _ (by simp),Ydg,zmh];unfold Ze5;split
 ·simp[List.intercalate]
 ·rw[zd8 10 _ _ (by simp)];simp[List.intercalate]
theorem zkb{c:List UInt8}{r:List UInt8}{n:Nat}(h:∀b∈c,b≠10):Zi ⟨c++10::r,n,false⟩=c∧Z2 ⟨c++10::r,n,false⟩=⟨r,n+c.length+1,false⟩:=by
 obtain⟨e1,e2⟩:=zpi 10 r c h;have e3:=zux 10 c r;unfold Zi Z2;simp only[Y6,if_false];rw[e1,e2,e3];exact⟨rfl,rfl⟩
theorem zpk{c:List UInt8}{n:Nat}(h:∀b∈c,b≠10):Zi ⟨c,n,false⟩=c∧(Z2 ⟨c,n,false⟩).over=true:=by
 obtain⟨e1,e2⟩:=zhq 10 c h;unfold Zi Z2;simp only[Y6,if_false];rw[e1,e2];exact⟨rfl,rfl⟩
theorem zmi(t W:List UInt8)(hW:(hdC 10 W).contains 124=false):∀(l:List (Fz×List Fz)) (n k:Nat) (s:Sg),(∀p∈l,Za7 p.1=true∧p.2.all Za7=true)→l.length<n→t.drop k=Zem l W →
  ∃k',Zah t n ⟨Zem l W,k,false⟩ s=(⟨W,k',false⟩,⟨s.nm,s.c++l.map (·.1),s.a++l.map (·.2)⟩,0,0)
 | [],0,_,_,_,hn,_=>absurd hn (Ybb _)
 | [],n+1,k,s,_,_,ht=>by
  refine⟨k,?_⟩;unfold Zah;have e:Zi ⟨Zem [] W,k,false⟩=hdC 10 W:=rfl;rw[if_neg (by simp),e,if_pos hW];dsimp only;rw[ht];simp[Zem]
 | p::l,0,_,_,_,hn,_=>absurd hn (Nat.not_lt_zero _)
 | p::l,n+1,k,s,hp,hn,ht=>by
  obtain⟨h1,h2⟩:=hp p Yk;obtain⟨e1,e2⟩:=zkb (r:=Zem l W) (n:=k) (z1g p.1 p.2);have e3:(Zcb p.1 p.2).contains 124=true:=by rw[zny];exact zux _ _ _
  have hd:t.drop (k+(Zcb p.1 p.2).length+1)=Zem l W:=by
   rw[Yau,←Yd1,ht];simp[Zem]
  obtain⟨k',ih⟩:=zmi t W hW l n (k+(Zcb p.1 p.2).length+1) ⟨s.nm,s.c++[p.1],s.a++[p.2]⟩ (fun q hq=>hp q (Yg _ hq)) (by simpa using hn) hd;refine⟨k',?_⟩;unfold Zah;have e0:Zem (p::l) W=Zcb p.1 p.2++10::Zem l W:=rfl;rw[e0,if_neg (by simp),e1,if_neg (by rw[e3];simp),zxq h1 h2,if_neg (by simp),e2];dsimp only;rw[←zpq h1,←zhv h2,ih];simp
end Go.Ab
end
section
namespace Go.Ab
theorem zt4(w:List UInt8):sz (Zab w).1≤200:=by
 have z0:sz 0≤200:=by rw[zvu];decide
 unfold Zab;simp only;split
 ·exact z0
 ·next h0=>
  have hl:=zkk h0;split
  ·unfold Ze3;simp only;split
   ·exact z0
   ·next h1=>
    obtain⟨h60,hr⟩:=ztt h1;have ht:=ztu h60;split
    ·split
     ·exact z0
     ·exact zru (by omega) (by omega) (by decide)
    ·refine zru ?_ (by omega) (by decide);rw[zmt];have e2:=zbv (x:=(Zar (w.take (Z0 w))).natAbs) (y:=10^(w.drop (Z0 w+1)).length) (L:=60) (M:=60) hl ht;have e3:=zce (x:=(((Zar (w.take (Z0 w))).natAbs*10^(w.drop (Z0 w+1)).length:Nat):Int)) (y:=((rd (w.drop (Z0 w+1)):Nat):Int)) (L:=120) (by rw[Ybo];exact e2) (by rw[Ybo];omega);rw[←Ydr,Ybo]at e3;omega
  ·exact zru (by omega) (by rw[zdw];decide) (by decide)
theorem zpb:∀(ws:List (List UInt8)) (k:Nat) (acc:List Rat),(∀q∈acc,sz q≤200)→∀q∈(Zaq ws k acc).1,sz q≤200
 | [],_,_,h=>h
 | w::ws,k,acc,h=>by
  unfold Zaq;split
  ·exact zpb ws _ _ fun q hq=>by
    rcases Yab.1 hq with h1 | h1
    ·exact h q h1
    ·rw[Yaa]at h1;rw[h1];exact zt4 w
  ·intro q hq;simp at hq
theorem z0u(s:List UInt8):∀q∈(Zca s).1,sz q≤200:=by
 unfold Zca;split
 ·intro q hq;simp at hq
 ·exact zpb _ _ _ fun q hq=>by simp at hq
end Go.Ab
end
section
namespace Go.Ab
theorem zfs{t:List UInt8}(h:Zbe 2 t=true):(∀b∈t,b≠10)∧t.length≤12:=by
 cases t with
 | nil=>simp[Zbe]at h
 | cons c r=>
  simp only[Zbe,Yn,decide_eq_true_eq]at h;obtain⟨⟨⟨_,h1⟩,h2⟩,h3⟩:=h;have hk:Za9 c=2:=by omega
  rw[hk]at h2 h3;unfold Zcm at h2;have ht:(r.takeWhile (Zd2 2)).length=r.length:=by omega
  have e:r.takeWhile (Zd2 2)=r:=(Ya7 _).eq_of_length ht;have hall:=List.all_takeWhile (p:=Zd2 2) (l:=r);rw[e]at hall;refine⟨fun b hb=>?_,h3⟩;rcases Yj.1 hb with rfl | hb
  ·rintro rfl
   revert hk
   decide
  ·have:=Yi.1 hall b hb
   rintro rfl
   revert this
   decide
theorem zpl{s:Sm}(h:okS s=true):Zbe 2 s.nm=true:=by
 unfold okS at h;have hw:=of_decide_eq_true h;unfold Zby at hw;cases g:Zbe 2 s.nm with
 | true=>rfl
 | false=>rw[g]at hw;simp at hw
theorem zpm{c:UInt8}{l:List Fz}(hc:c≠10):∀b∈c::32::List.intercalate [44] (Z4 l),b≠10:=by
 intro b hb;rcases Yj.1 hb with rfl | hb
 ·exact hc
 ·rcases Yj.1 hb with rfl | hb
  ·decide
  ·exact zhr (zhp _) (by decide) b hb
theorem zpn{c:UInt8}{l:List Fz}(h:l.all Za7=true){r:Rd}(hr:Zi r=c::32::List.intercalate [44] (Z4 l)):Zdg c r=(l.map fv,0,0):=by
 unfold Zdg shF;rw[hr];have e1:(c::32::List.intercalate [44] (Z4 l)).take 2=[c,32]:=rfl;have e2:(c::32::List.intercalate [44] (Z4 l)).drop 2=List.intercalate [44] (Z4 l):=rfl;rw[e1,e2,if_pos rfl,zmg h];simp
theorem zhs(s:Sm)(h:okS s=true):Zaz (textS s)=(s,0,0):=by
 obtain⟨H,_⟩:=zdd h;have hn:=zpl h;obtain⟨n10,_⟩:=zfs hn;obtain⟨l0,r0⟩:=zkb (r:=Zem (s.c.zip s.a) (Ze5 s)) (n:=0) n10;have hcl:s.c.length=s.a.length:=by have:=H.cl;have:=H.al;omega
 have z1:(s.c.zip s.a).map (·.1)=s.c:=List.map_fst_zip (by omega);have z2:(s.c.zip s.a).map (·.2)=s.a:=List.map_snd_zip (by omega);have hz:∀p∈s.c.zip s.a,Za7 p.1=true∧p.2.all Za7=true:=fun p hp=>by
  obtain⟨q1,q2⟩:=Yen hp;exact⟨Yi.1 H.nc _ q1,Yi.1 H.na _ q2⟩
 have lb:=zpm (c:=98) (l:=s.b) (by decide);have le:=zpm (c:=101) (l:=s.e) (by decide);have hb124:(98::32::List.intercalate [44] (Z4 s.b)).contains 124=false:=(zhq 124 _ (fun b hb=>by
  rcases Yj.1 hb with rfl | hb
  ·decide
  ·rcases Yj.1 hb with rfl | hb
   ·decide
   ·exact zhr (zhp _) (by decide) b hb)).2
 have hW:hdC 10 (Ze5 s)=98::32::List.intercalate [44] (Z4 s.b):=by
  unfold Ze5;split
  ·rw[Yan];exact(zhq 10 _ lb).1
  ·exact(zpi 10 _ _ lb).1
 have hlen:(s.c.zip s.a).length<(textS s).length+2:=by
  have:=zpj (Ze5 s) (s.c.zip s.a);rw[zgj];simp only[Yp,Yd];omega
 have hdr:(textS s).drop (0+s.nm.length+1)=Zem (s.c.zip s.a) (Ze5 s):=by
  rw[zgj];simp
 obtain⟨k,hS⟩:=zmi (textS s) (Ze5 s) (by rw[hW];exact hb124) (s.c.zip s.a) ((textS s).length+2) (0+s.nm.length+1) ⟨s.nm,[],[]⟩ hz hlen hdr;rw[z1,z2]at hS;have hS':Zad (textS s)=(⟨Ze5 s,k,false⟩,⟨s.nm,s.c,s.a⟩,0,0):=by
  unfold Zad;rw[zgj]at hS ⊢;rw[l0,r0,hS];simp
 have hl0:Zi ⟨textS s,0,false⟩=s.nm:=by rw[zgj];exact l0
 have wb:Zdg 98 ⟨Ze5 s,k,false⟩=(s.b.map fv,0,0):=zpn H.nb (r:=⟨Ze5 s,k,false⟩) hW;unfold Zaz;rw[hS',hl0,if_neg (by rw[hn];simp)];dsimp only;rw[if_neg (by simp),wb,←zhv H.nb];by_cases he:s.e=[]
 ·have ew:Ze5 s=98::32::List.intercalate [44] (Z4 s.b):=by unfold Ze5;rw[if_pos he,Yan]
  have ho:=(zpk (n:=k) lb).2;rw[←ew]at ho;rw[if_pos (Or.inr ho)];unfold smG;rw[←he]
 ·have ew:Ze5 s=(98::32::List.intercalate [44] (Z4 s.b))++10::(101::32::List.intercalate [44] (Z4 s.e)):=by unfold Ze5;rw[if_neg he]
  obtain⟨_,n1⟩:=zkb (r:=101::32::List.intercalate [44] (Z4 s.e)) (n:=k) lb;rw[←ew]at n1;obtain⟨n2,n3⟩:=zpk (n:=k+(98::32::List.intercalate [44] (Z4 s.b)).length+1) le;rw[n1,if_neg (by simp),zpn H.ne n2,←zhv H.ne,if_pos (Or.inr n3)]
  rfl
theorem zi3(s:Sm)(h:okS s=true)(hl:(textS s).length≤4000):Zax (textS s)=(s,0,0):=by
 obtain⟨_,hw⟩:=zdd h;unfold Zax;rw[if_neg (by omega),zhs s h,if_neg (by simp),if_neg (by simp[hw])]
theorem zxr{t:List UInt8}(h:(Zax t).2=(0,0)):(Zaz t).2=(0,0)∧Zax t=((Zaz t).1,0,0)∧okS (Zaz t).1=true:=by
 unfold Zax at h ⊢;by_cases h1:4000<t.length
 ·rw[if_pos h1]at h;simp at h
 rw[if_neg h1]at h ⊢;by_cases h2:(Zaz t).2≠(0,0)
 ·rw[if_pos h2]at h;exact absurd h h2
 rw[if_neg h2]at h ⊢;by_cases h3:Zby (Zaz t).1≠0
 ·rw[if_pos h3]at h;simp at h
 rw[if_neg h3];refine⟨Classical.not_not.1 h2,rfl,?_⟩;unfold okS;exact decide_eq_true (Classical.not_not.1 h3)
end Go.Ab
end
section
namespace Go.Ab
section
variable{T:Tbl}[Z8 T][Zp T][Zu T][Zy T][Zr T][Zt T][Zo T][Zap T][Ze T][Zj T][Zv T][Zbk T][Zaw T][Za3 T][Za4 T][Za5 T][Zat T][Zbp T][Za6 T][Zbx T][Zbc T][Zgl T][Zbd T][Zfc T][Zc1 T][Zan T][Zb3 T][Zc0 T][Zci T][Zb2 T][Zcv T][Ze2 T][Ze0 T][Zak T][Zba T][Zc5 T][Zeb T][Zg6 T][Zb0 T][Zaa T][Zag T][Zfd T][Zdw T]
def Zms(s:Sm)(m:List UInt8)(G:List Fz):St:=⟨[(2,.ptr (.loc 2) 1 5 0 0),(5,.ptr (.loc 5) 2 5 0 0),(6,.s m),(8,.sl (Zd G) .an),(10,.sl [] .fu),(11,.i .i64 0)],[(.loc 2,Ziu 1 s),(.loc 5,Ziu 2 s)],4⟩
def Zmt(s:Sm)(m:List UInt8)(G:List Fz)(i:Nat):St:=⟨[(2,.ptr (.loc 2) 1 5 0 0),(5,.ptr (.loc 5) 2 5 0 0),(6,.s m),(8,.sl (Zd G) .an),(10,.bs (.loc 106) 3 3 0 i),(11,.i .i64 i)],
 [(.loc 2,Ziu 1 s),(.loc 5,Ziu 2 s),(.loc 106,⟨3,.own,3,Zd ((Zgp s.b s.e).take i)⟩)],5⟩
def stW(s:Sm)(m:List UInt8)(G:List Fz):Nat→St
 | 0=>Zms s m G
 | i+1=>Zmt s m G (i+1)
end
end Go.Ab
end
section
namespace Go.Ab
theorem z1h{w:List UInt8}(h:(Zab w).2.1=0):1≤w.length:=by
 cases w with
 | nil=>exact absurd h (by decide)
 | cons c r=>simp
theorem zi4:∀(ws:List (List UInt8)) (k:Nat) (acc:List Rat),2*(Zaq ws k acc).1.length≤2*acc.length+(ws.map fun w=>w.length+1).sum
 | [],_,acc=>by simp[Zaq]
 | w::ws,k,acc=>by
  unfold Zaq;by_cases h:(Zab w).2.1=0
  ·have h1:=z1h h;have:=zi4 ws (k+w.length+1) (acc++[(Zab w).1]);rw[if_pos h];simp only[Yp,Yd,Y7,Ys,Ycu]at this ⊢;omega
  ·rw[if_neg h];simp
theorem zuy(s:List UInt8):2*(Zca s).1.length≤s.length+1:=by
 unfold Zca;split
 ·simp
 ·have:=zi4 (Zx 44 s) 0 [];rw[zfu]at this;simpa using this
structure SgS (s:Sg):Prop where
 al:s.a.length=s.c.length
 c:∀x∈s.c,fsz x≤300
 a:∀r∈s.a,r.length≤1000∧∀x∈r,fsz x≤300
theorem zuz{l:List UInt8}(hl:l.length≤1900):(fzs (Zca l).1).length≤1000∧∀x∈fzs (Zca l).1,fsz x≤300:=by
 refine⟨?_,fun x hx=>?_⟩
 ·rw[zct];have:=zuy l;omega
 ·unfold fzs at hx;obtain⟨q,hq,rfl⟩:=Y4.1 hx;rw[zbk];have:=z0u l q hq;omega
theorem zu0{r:Rd}(ho:r.over=false):muR r=muR (Z2 r)+(Zi r).length+1:=by
 unfold muR Zi Z2;rw[ho];cases hc:r.rest.contains 10 with
 | true=>
  have h5:=zn2 r.rest 10 hc;simp;omega
 | false=>
  have:=(zhq 10 r.rest (fun b hb e=>by rw[e]at hb;rw[Ybm.2 hb]at hc;cases hc)).1;simp[this]
theorem zu1(t:List UInt8)(ht:t.length≤1500):∀(n:Nat) (r:Rd) (s:Sg),RdOk t r→SgS s→2*s.c.length+muR r≤1501→SgS (Zah t n r s).2.1∧2*(Zah t n r s).2.1.c.length≤1501
 | 0,_,_,_,h,hm=>⟨h,by simp only[Zah];omega⟩
 | n+1,r,s,hr,h,hm=>by
  unfold Zah;by_cases h1:r.over=true
  ·rw[if_pos h1];exact⟨h,by dsimp only;omega⟩
  rw[if_neg h1];by_cases h2:(Zi r).contains 124=false
  ·rw[if_pos h2];exact⟨h,by dsimp only;omega⟩
  rw[if_neg h2];by_cases h3:(Zb7 (Zi r) r.at_).2.2≠(0,0)
  ·rw[if_pos h3];exact⟨h,by dsimp only;omega⟩
  rw[if_neg h3];have ho:r.over=false:=by simpa using h1
  have hmu:=zu0 ho;have hl1:1≤(Zi r).length:=by
   cases hl:Zi r with
   | nil=>rw[hl]at h2;simp at h2
   | cons c q=>simp
  have hl2:(Zi r).length≤1500:=by
   have:=hr.l;have e:Zi r=hdC 10 r.rest:=by unfold Zi;rw[ho];rfl
   rw[e];have:=zxw 10 r.rest;omega
  have k1:fsz (fz (Zb7 (Zi r) r.at_).1)≤300:=by
   rw[zbk];have:=zt4 (hdC 124 (Zi r));unfold Zb7;split
   ·dsimp only;omega
   ·dsimp only;omega
  have k2:(fzs (Zb7 (Zi r) r.at_).2.1).length≤1000∧∀x∈fzs (Zb7 (Zi r) r.at_).2.1,fsz x≤300:=by
   unfold Zb7;split
   ·simp[fzs]
   ·exact zuz (by have:=z6q 124 (Zi r);omega)
  refine zu1 t ht n _ _ (zd9 hr) ⟨?_,?_,?_⟩ ?_
  ·have:=h.al;simp only[Yp,Yd,Y7];omega
  ·intro x hx;rcases Yab.1 hx with hx | hx
   ·exact h.c x hx
   ·rw[Yaa]at hx;rw[hx];exact k1
  ·intro q hq;rcases Yab.1 hq with hq | hq
   ·exact h.a q hq
   ·rw[Yaa]at hq;rw[hq];exact k2
  ·simp only[Yp,Yd,Y7];omega
theorem zyy(c:UInt8){r:Rd}(h:r.rest.length≤1500):(fzs (Zdg c r).1).length≤1000∧∀x∈fzs (Zdg c r).1,fsz x≤300:=by
 unfold Zdg;split
 ·refine zuz ?_;have e:(Zi r).length≤r.rest.length:=by
   unfold Zi;split
   ·simp
   ·exact zxw 10 r.rest
  simp only[Yar];omega
 ·simp[fzs]
theorem zu2(t:List UInt8)(ht:t.length≤1500)(h:(Zaz t).2=(0,0)):SmS (Zaz t).1:=by
 have h0:RdOk t ⟨t,0,false⟩:=⟨Y1 _,Yh _,fun _=>Yaw _⟩;have k1:=zd9 h0;have m0:=zu0 (r:=⟨t,0,false⟩) rfl;have m1:muR ⟨t,0,false⟩=t.length+1:=rfl;obtain⟨S,hc⟩:=zu1 t ht (t.length+2) (Z2 ⟨t,0,false⟩) ⟨Zi ⟨t,0,false⟩,[],[]⟩ k1 ⟨rfl,fun x hx=>by simp at hx,fun x hx=>by simp at hx⟩ (by simp;omega);have o2:=zn4 (t.length+2) (Z2 ⟨t,0,false⟩) ⟨Zi ⟨t,0,false⟩,[],[]⟩ k1;have hS:Zad t=Zah t (t.length+2) (Z2 ⟨t,0,false⟩) ⟨Zi ⟨t,0,false⟩,[],[]⟩:=rfl;rw[←hS]at S hc o2;have o3:=zd9 o2;obtain⟨b1,b2⟩:=zyy 98 (r:=(Zad t).1) (by have:=o2.l;omega);obtain⟨e1,e2⟩:=zyy 101 (r:=Z2 (Zad t).1) (by have:=o3.l;omega);have nmS:∀(n:Nat) (r:Rd) (s:Sg),(Zah t n r s).2.1.nm=s.nm:=by
  intro n
  induction n with
  | zero=>intro r s;rfl
  | succ n ih=>
   intro r s;unfold Zah;split
   ·rfl
   ·split
    ·rfl
    ·split
     ·rfl
     ·rw[ih]
 have hnm:(Zad t).2.1.nm=Zi ⟨t,0,false⟩:=nmS _ _ _;unfold Zaz at h ⊢;by_cases q1:Zbe 2 (Zi ⟨t,0,false⟩)=false
 ·rw[if_pos q1]at h;simp at h
 have hn:=(zfs (t:=Zi ⟨t,0,false⟩) (by simpa using q1)).2;rw[if_neg q1]at h ⊢;by_cases q2:(Zad t).2.2≠(0,0)
 ·rw[if_pos q2]at h;exact absurd h q2
 rw[if_neg q2]at h ⊢;have al:=S.al;have mk:∀b e:List Fz,(b.length≤1000∧∀x∈b,fsz x≤300)→(e.length≤1000∧∀x∈e,fsz x≤300)→SmS (smG (Zad t).2.1 b e):=fun b e hb he=>
  ⟨by show (Zad t).2.1.nm.length≤1000;rw[hnm];omega,by show (Zad t).2.1.c.length≤1000;omega,by show (Zad t).2.1.a.length≤1000;omega,hb.1,he.1,S.c,S.a,hb.2,he.2⟩
 split
 ·exact mk _ _ ⟨b1,b2⟩ ⟨by simp,by simp⟩
 ·split
  ·exact mk _ _ ⟨b1,b2⟩ ⟨e1,e2⟩
  ·exact mk _ _ ⟨b1,b2⟩ ⟨e1,e2⟩
theorem zpo:∀(b e:List Fz) (x y:Rat),e.length=b.length→(Zgp b e).foldl (fun s z=>s+fv z) (x-y)=b.foldl (fun s z=>s+fv z) x-e.foldl (fun s z=>s+fv z) y
 | [],[],_,_,_=>rfl
 | [],_::_,_,_,h=>by simp at h
 | _::_,[],_,_,h=>by simp at h
 | p::b,q::e,x,y,h=>by
  have ih:=zpo b e (x+fv p) (y+fv q) (by simpa using h);have e1:Zgp (p::b) (q::e)=fz (fv p+((-1:Int):Rat)*fv q)::Zgp b e:=by simp[Zgp,Zf0,Zc9,fzs]
  rw[e1,Yba,Yba,Yba,zdi,←ih];have e2:x-y+(fv p+((-1:Int):Rat)*fv q)=x+fv p-(y+fv q):=by
   have e3:((-1:Int):Rat)=-1:=rfl;rw[e3]
   grind
  rw[e2]
theorem zxs(s:Sm):sumF (Zgq s)=0:=by
 unfold Zgq;split
 ·next h=>
  obtain⟨H,hw⟩:=zdd h.1;have hel:s.e.length=s.b.length:=by
   rcases H.el with q | q
   ·exact q
   ·exact absurd (Yal q) h.2
  have k:=zpo s.b s.e 0 0 hel;have h00:(0:Rat)-0=0:=by decide +kernel
  rw[h00]at k;have hb:sumF s.b=1∧sumF s.e=1:=by
   unfold Zby at hw;by_cases q1:sumF s.b=1
   ·by_cases q2:sumF s.e=1
    ·exact⟨q1,q2⟩
    ·exfalso;have:s.e≠[]∧sumF s.e≠1:=⟨h.2,q2⟩;revert hw;simp only[if_pos this]
     repeat' split
     all_goals decide
   ·exfalso;revert hw;simp only[if_pos q1]
    repeat' split
    all_goals decide
  unfold sumF at hb ⊢;rw[k,hb.1,hb.2]
  decide +kernel
 ·rfl
theorem z6k(s:Sm):(Zgq s).length≤8∧∀x∈Zgq s,fsz x≤20:=by
 unfold Zgq;split
 ·next h=>
  obtain⟨H,hw⟩:=zdd h.1;have n8:=H.b8;refine⟨?_,fun x hx=>?_⟩
  ·unfold Zgp fzs Zf0 Zc9;simp;omega
  ·unfold Zgp fzs at hx;obtain⟨q,hq,rfl⟩:=Y4.1 hx;rw[zbk];have hb:∀q∈s.b.map fv,sz q≤6:=fun q hq=>by obtain⟨x,hx,rfl⟩:=Y4.1 hq;exact zeq (zcd H.nb x hx) (by decide)
   have he:∀q∈s.e.map fv,sz q≤6:=fun q hq=>by obtain⟨x,hx,rfl⟩:=Y4.1 hq;exact zeq (zcd H.ne x hx) (by decide)
   have hc:sz ((-1:Int):Rat)≤1:=zt6 (by decide) (by decide);have:=z1z hb (zvx hc he) q hq;omega
 ·simp
theorem zi5:∀a:List (List Fz),Zes a a=true
 | []=>rfl
 | r::a=>by
  have:=zi5 a;unfold Zes at this ⊢;rw[List.zip_cons_cons,Ybz,this,decide_eq_true rfl]
  rfl
theorem zmj(s:Sm):Zij s s=true:=by
 unfold Zij;rw[zi5];simp
end Go.Ab
end
section
namespace Go.Ab
class Zku (T:Tbl):Prop where
end Go.Ab
end
section
namespace Go.Ab
class Zjh (T:Tbl):Prop where
end Go.Ab
end
section
namespace Go.Ab
class Zjg (T:Tbl):Prop where
end Go.Ab
end
section
namespace Go.Ab
section
variable{T:Tbl}[Z8 T][Zp T][Zu T][Zy T][Zr T][Zt T][Ze T][Zj T][Zv T][Zaw T][Za3 T][Zb3 T][Zci T][Zb2 T][Zcv T][Ze2 T][Ze0 T][Zo T][Zap T][Zak T][Zba T][Zjg T]
def Znk(m:List (List Fz))(r:List Fz)(j i:Nat):St:=⟨[(7,.sl (Zs m) .an),(8,.i .i64 m.length),(9,.i .i64 j),(13,.sl (Zd r) .an),(14,.i .i64 r.length),(15,.i .i64 i)],[],2⟩
def Znl(m:List (List Fz))(i:Nat):St:=⟨[(7,.sl (Zs m) .an),(8,.i .i64 m.length),(9,.i .i64 i)],[],2⟩
def bxH(h:Hs):Box:=⟨1,.str,5,[[.sl (Zd1 h.l) .an,.b h.t.1,.sl (Za h.t.2.1) .an,.sl (Za h.t.2.2) .an,.sl (Zd h.y) .an]]⟩
def Znm(h:Hs)(i:Nat):St:=⟨[(1,.ptr (.loc 1) 1 5 0 0),(6,.sl (Zd1 h.l) .an),(7,.i .i64 h.l.length),(8,.i .i64 i)],[(.loc 1,bxH h)],3⟩
def Zol(l:List Tr)(i:Nat):St:=⟨[(6,.sl (Zd1 l) .an),(7,.i .i64 l.length),(8,.i .i64 i)],[],2⟩
def Zom(h:Hs)(i:Nat):St:=⟨[(1,.ptr (.loc 1) 1 5 0 0),(8,.sl (Zd1 h.l) .an),(9,.i .i64 h.l.length),(10,.i .i64 i)],[(.loc 1,bxH h)],3⟩
theorem HsS.mono{h:Hs}{A B:Nat}(hs:HsS h A)(hAB:A≤B):HsS h B:=
 ⟨hs.len,Yc hs.t hAB,fun x hx=>Yc (hs.y x hx) hAB,hs.yl,fun r hr x hx=>Yc (hs.rt r hr x hx) hAB,fun r hr x hx=>Yc (hs.ry r hr x hx) hAB,hs.rl⟩
def Zon(l:List Tr)(i n:Nat):St:=⟨[(3,.bs (.loc 3) 1 14 0 n),(8,.sl (Zd1 l) .an),(9,.i .i64 l.length),(10,.i .i64 i)],[(.loc 3,⟨1,.own,14,Zd1 (Zke (l.take i))⟩)],3⟩
end
end Go.Ab
end
section
namespace Go.Ab
section
variable{T:Tbl}[Z8 T][Zp T][Zu T][Zy T][Zr T][Zt T][Ze T][Zj T][Zv T][Zaw T][Za3 T][Zb3 T][Zci T][Zb2 T][Zcv T][Ze2 T][Ze0 T][Zo T][Zap T][Zak T][Zba T][Zjg T][Zjh T]
def Zoo(A:List Tr)(i:Nat):St:=⟨[(3,.bs (.loc 3) 1 3 0 i),(7,.sl (Zd1 A) .an),(8,.i .i64 A.length),(9,.i .i64 i)],[(.loc 3,⟨1,.own,3,Zd ((A.take i).map (·.h))⟩)],3⟩
def Zop(h:Hs)(A:List Tr)(i:Nat):St:=⟨[(1,.ptr (.loc 1) 1 5 0 0),(4,.bs (.loc 4) 2 3 0 i),(5,.bs (.loc 5) 3 1 0 i),(9,.sl (Zd1 A) .an),(10,.i .i64 A.length),(11,.i .i64 i)],
 [(.loc 1,bxH h),(.loc 4,⟨2,.own,3,Zd ((A.take i).map (·.t))⟩),(.loc 5,⟨3,.own,1,Zs ((A.take i).map (·.y))⟩)],5⟩
end
end Go.Ab
end
section
namespace Go.Ab
def Zpj(t h s:Rat):Rat:=(s-t)/h
def Zpk(h x y:Rat):List Rat:=[y*y*(1+2*x),x*x*(3 + -2*x),h*x*y*y,h*x*x * -y]
def Zpl(h x y:Rat):List Rat:=[-(6*x*y/h),6*x*y/h,y*(1 + -3*x),x*(-2+3*x)]
def Zpm(c:List Rat)(y0 y1 f0 f1:List Fz):List Rat:=Zlj ((fzs c).zip [y0,y1,f0,f1]) (List.replicate y0.length 0)
end Go.Ab
end
section
namespace Go.Ab
def Zlp(s:Rat):List Fz→Nat→Option Nat
 | [],_=>none
 | t::l,i=>if s≤fv t then some i else Zlp s l (i+1)
def Zpn(s:Rat):List Fz→Option Nat
 | []=>none
 | t::l=>if s<fv t then none else Zlp s l 0
def Zmv:Option Nat→AV
 | some i=>.tup [.i .i64 i,.b true]
 | none=>.tup [.i .i64 (-1),.b false]
section
variable{T:Tbl}[Z8 T][Zp T][Zu T][Zy T][Zr T][Zt T][Ze T][Zj T][Zv T][Zaw T][Za3 T][Zb3 T][Zci T][Zb2 T][Zcv T][Ze2 T][Ze0 T][Zo T][Zap T][Zak T][Zba T][Zjg T][Zjh T][Zb0 T][Zaa T][Zk9 T][Zkn T][Zku T]
def Zpo(s:Fz)(l:List Fz)(i:Nat):St:=⟨[(3,.ptr (.loc 3) 1 3 0 0),(25,.sl (Zd l) .an),(26,.i .i64 l.length),(27,.i .i64 i)],[(.loc 3,⟨1,.str,3,[Zc2 s]⟩)],3⟩
def Zn3:Option Nat→Ex×St
 | some i=>(.r,⟨[(4,.i .i64 i),(5,.b true)],[],2⟩)
 | none=>(.n,⟨[],[],2⟩)
end
end Go.Ab
end
section
namespace Go.Ab
def Zlg(t:Tp)(many words:Nat):Bool:=((t.code.take many).any fun i=>decide (words<fsz i.n)) || decide (many<t.code.length) || decide (many<t.outs.length)
def Zne(x:PoF)(many words:Nat):Bool:=decide (words<fsz x.t) || Zbf x.y many words || Zbf x.p many words
section
variable{T:Tbl}[Za4 T][Za5 T][Zat T][Za6 T][Zbp T][Zbx T][Zbc T][Zbd T][Zde T][Zc4 T][Zhm T]
def Zod(t:Tp)(many words i:Nat):St:=⟨[(1,.i .i64 many),(2,.i .i64 words),(3,.ptr (.loc 3) 1 4 0 0),(7,.i .i64 i)],[(.loc 3,bxT t)],3⟩
def Zoe(t:Tp)(many:Nat):Ex×St:=(.n,⟨[(1,.i .i64 many),(3,.ptr (.loc 3) 1 4 0 0)],[(.loc 3,bxT t)],3⟩)
@[simp] theorem zaet(l:List Int):Option.all (fun r=>decide (r.length=1)) (ints l).head? = true:=by cases l<;>rfl
def fC:BId:=.fld (.loc 3) 0
def Zof(t:Tp)(i:Nat):St:=⟨[(1,.ptr (.loc 1) 1 4 0 0),(2,.ptr (.loc 2) 2 4 0 0),(3,.ptr (.loc 3) 3 4 0 0),(4,.i .i64 i)],
 [(.loc 1,bxT t),(.loc 2,⟨2,.str,4,[[.sl [] .an,.sl [] .an,.i .i64 0,.i .i64 0]]⟩),(.loc 3,⟨3,.str,4,[[.bs fC 4 6 0 i,.bs (.loc 13) 5 1 0 t.outs.length,.i .i64 t.dim,.i .i64 t.par]]⟩),(fC,⟨4,.own,6,Zia (t.code.take i)⟩),(.loc 13,⟨5,.own,1,ints t.outs⟩)],7⟩
end
end Go.Ab
end
section
namespace Go.Ab
def Ze4(s:Sm)(many words:Nat):Bool:=decide (50<s.nm.length) || decide (many<s.a.length) || Zbf s.b many words || Zbf s.c many words || Zbf s.e many words || s.a.any fun r=>Zbf r many words
def Zmd(p:Pb)(many stages words:Nat):Bool:=Zlg p.t many words || Ze4 p.s stages 4 || Zbf p.p 6 words
def Zli(r:Tr)(words:Nat):Bool:=Zbf r.nums 4 words || Zbf r.y 8 words
def Zni(h:Hs)(many words:Nat):Bool:=decide (many<h.l.length) || decide (words<fsz h.t) || Zbf h.y 8 words || h.l.any fun r=>Zli r words
theorem zl4{s:Sm}{many words:Nat}(h:Ze4 s many words=false)(hm:many≤1000)(hw:words≤300):SmS s∧(∀x∈s.c,fsz x≤words)∧s.b.length≤many∧s.a.length≤many∧s.c.length≤many∧s.e.length≤many∧(∀r∈s.a,r.length≤many):=by
 unfold Ze4 at h;simp only[Bool.or_eq_false_iff,decide_eq_false_iff_not,List.any_eq_false]at h;obtain⟨⟨⟨⟨⟨h1,h2⟩,h3⟩,h4⟩,h5⟩,h6⟩:=h;obtain⟨b1,b2⟩:=zdb h3;obtain⟨c1,c2⟩:=zdb h4;obtain⟨e1,e2⟩:=zdb h5;have ha:∀r∈s.a,r.length≤many∧∀x∈r,fsz x≤words:=fun r hr=>zdb (by grind);exact⟨⟨by omega,by omega,by omega,by omega,by omega,fun x hx=>Yc (c2 x hx) hw,fun r hr=>⟨Yc (ha r hr).1 hm,fun x hx=>Yc ((ha r hr).2 x hx) hw⟩,fun x hx=>Yc (b2 x hx) hw,fun x hx=>Yc (e2 x hx) hw⟩,c2,b1,by omega,c1,e1,fun r hr=>(ha r hr).1⟩
section
variable{T:Tbl}[Z8 T][Zp T][Zu T][Zy T][Zr T][Zt T][Ze T][Zj T][Zv T][Zaw T][Za3 T][Zb3 T][Zci T][Zb2 T][Zcv T][Ze2 T][Ze0 T][Zo T][Zap T][Zak T][Zba T]
variable[Za4 T][Za5 T][Zat T][Za6 T][Zbp T][Zbx T][Zbc T][Zbd T][Zfn T][Zde T][Zc4 T][Ze1 T][Zg5 T][Zhm T][Zej T][Zg7 T]
def Zjk(s:Sm):Box:=⟨1,.str,5,[[.s s.nm,.sl (Zd s.c) .an,.sl (Zs s.a) .an,.sl (Zd s.b) .an,.sl (Zd s.e) .an]]⟩
def Zg9(s:Sm)(many words i:Nat):St:=⟨[(1,.i .i64 many),(2,.i .i64 words),(3,.ptr (.loc 3) 1 5 0 0),(7,.i .i64 i)],[(.loc 3,Zjk s)],3⟩
theorem zq5(s:Sm)(many words:Nat)(hm:many≤1000):Zb T 515 [esm s,.i .i64 many,.i .i64 words]=some (.b (Ze4 s many words)):=by
 have cb:=zda (T:=T) s.b many words hm;have cc:=zda (T:=T) s.c many words hm;have ce:=zda (T:=T) s.e many words hm;have hlp:s.a.length≤many→Zw T 0 0 (.norm false []) l515_0 (Zg9 s many words 0)=if (s.a.drop 0).any (fun r=>Zbf r many words)=true then some (.r,⟨[(6,.b true)],[],2⟩) else some (.n,⟨[],[],2⟩):=by
  intro hl;refine zbi (Zg9 s many words) s.a.length (fun i=>if (s.a.drop i).any (fun r=>Zbf r many words)=true then some (.r,⟨[(6,.b true)],[],2⟩) else some (.n,⟨[],[],2⟩)) (fun i hi=>?_) ?_
  ·have hi':(i:Int)<s.a.length:=by omega
   have hws:=zcs hi (by omega);have c:=zda (T:=T) (s.a[i]'hi) many words hm;have key:(s.a.drop i).any (fun r=>Zbf r many words)=(Zbf (s.a[i]'hi) many words || (s.a.drop (i+1)).any fun r=>Zbf r many words):=by rw[Yt hi,List.any_cons]
   generalize hq:s.a[i]'hi=q at *
   obtain⟨nm,c',a,b,e⟩:=s;cases hL:Zbf q many words with
   | true=>
    right;rw[hL]at c;rw[if_pos (by rw[key,hL,Bool.true_or])];unfold Zg9 Zjk;constructor<;>simp -implicitDefEqProofs[l515_0,hi,hi',hq,c]
   | false=>
    left;rw[hL]at c;refine⟨?_,by grind⟩;unfold Zg9 Zjk;simp -implicitDefEqProofs[l515_0,hi,hi',hq,hws,c]
  ·simp only[Yaf,List.any_nil,Y6,if_false];unfold Zg9 Zjk;constructor<;>simp -implicitDefEqProofs[l515_0]
 rw[Ya3]at hlp;unfold Zg9 Zjk at hlp;unfold Ze4;rw[zab Zej.h515 rfl,b515];obtain⟨nm,c,a,b,e⟩:=s;dsimp only at *
 by_cases h1:50<nm.length
 ·have h1':(50:Int)<nm.length:=by omega
  simp -implicitDefEqProofs[h1,h1']
 have h1':¬ (50:Int)<nm.length:=by omega
 by_cases h2:many<a.length
 ·have h2':(many:Int)<a.length:=by omega
  simp -implicitDefEqProofs[h1,h1',h2,h2']
 have h2':¬ (many:Int)<a.length:=by omega
 have hl:=hlp (by omega);generalize Zbf b many words=B1 at *
 generalize Zbf c many words=B2 at *
 generalize Zbf e many words=B3 at *
 generalize a.any (fun r=>Zbf r many words)=B4 at *
 cases B1 with
 | true=>simp -implicitDefEqProofs[h1,h1',h2,h2',cb]
 | false=>
 cases B2 with
 | true=>simp -implicitDefEqProofs[h1,h1',h2,h2',cb,cc]
 | false=>
 cases B3 with
 | true=>simp -implicitDefEqProofs[h1,h1',h2,h2',cb,cc,ce]
 | false=>
  cases B4<;>simp at hl<;>simp -implicitDefEqProofs[h1,h1',h2,h2',cb,cc,ce,hl]
def Zme(h:Hs):Box:=⟨1,.str,5,[[.sl (Zd1 h.l) .an,.b h.t.1,.sl (Za h.t.2.1) .an,.sl (Za h.t.2.2) .an,.sl (Zd h.y) .an]]⟩
def Znj(h:Hs)(words i:Nat):St:=⟨[(2,.i .i64 words),(3,.ptr (.loc 3) 1 5 0 0),(7,.i .i64 i)],[(.loc 3,Zme h)],3⟩
theorem zxa(s:Sm)(hs:SmS s):Zb T 527 [esm s]=some (esm s):=by
 have c1:=zge (T:=T) s.c (by have:=hs.cl;omega);have c2:=zw2 (T:=T) s.a (by have:=hs.al;omega) (fun r hr=>by have:=(hs.a r hr).1;omega);have c3:=zge (T:=T) s.b (by have:=hs.bl;omega);have c4:=zge (T:=T) s.e (by have:=hs.el;omega);rw[zab Zg7.h527 rfl,b527];obtain⟨nm,c,a,b,e⟩:=s;simp -implicitDefEqProofs[c1,c2,c3,c4]
def Zoh(h:Hs)(i:Nat):St:=⟨[(1,.ptr (.loc 1) 1 5 0 0),(2,.ptr (.loc 2) 2 5 0 0),(3,.ptr (.loc 3) 3 5 0 0),(4,.i .i64 i)],
 [(.loc 1,bxH h),(.loc 2,⟨2,.str,5,[[.sl [] .an,.b false,.sl [] .an,.sl [] .an,.sl [] .an]]⟩),(.loc 3,⟨3,.str,5,[[.bs fC 4 14 0 i,.b h.t.1,.sl (Za h.t.2.1) .an,.sl (Za h.t.2.2) .an,.sl (Zd h.y) .an]]⟩),(fC,⟨4,.own,14,Zd1 (h.l.take i)⟩)],6⟩
end
end Go.Ab
end
section
namespace Go.Ab
section
variable{T:Tbl}[Za4 T][Za5 T][Zat T][Za6 T][Zbp T][Zbx T][Zbc T][Zbd T][Zg6 T][Zh5 T]
def hpP(q r:Fz):Heap:=[(.loc 2,⟨1,.str,3,[Zc2 q]⟩),(.loc 4,⟨2,.str,3,[[.b false,.sl [] .an,.sl [] .an]]⟩),(.loc 6,⟨3,.str,3,[Zc2 r]⟩)]
def Zor(q r:Fz)(e:Int)(i:Nat):St:=⟨[(1,.i .i64 e),(2,.ptr (.loc 2) 1 3 0 0),(4,.ptr (.loc 4) 2 3 0 0),(6,.ptr (.loc 6) 3 3 0 0),(7,.i .i64 i)],hpP q r,5⟩
def Zos(q r:Fz)(e:Int)(i:Nat):St:=⟨[(1,.i .i64 e),(2,.ptr (.loc 2) 1 3 0 0),(4,.ptr (.loc 4) 2 3 0 0),(6,.ptr (.loc 6) 3 3 0 0),(8,.i .i64 (-(i:Int)))],hpP q r,5⟩
end
end Go.Ab
end
section
namespace Go.Ab
theorem zu3{s:Sm}(h:okS s=true):(textS s).length≤200000:=by
 obtain⟨H,_⟩:=zdd h;have hn:=(zfs (zpl h)).2;have b8:=H.b8;have al:=H.al;have cl:=H.cl;have el:=H.el;have hr:∀r∈s.a,r.length≤8∧r.all Za7=true:=fun r hr=>by
  have q:=zea _ _ H.sh r hr;exact⟨by omega,Yi.1 (show s.a.all (fun r=>r.all Za7)=true from H.na) r hr⟩
 have h1:=z1i s (by omega) (by omega) H.nc hr s.a.length;have h2:=zke s.b b8 H.nb;have h3:=zke s.e (by omega) H.ne;rw[zu8 s (by omega)];split
 ·simp only[Yp,Yd,Y7];omega
 ·simp only[Yp,Yd];omega
section
variable{T:Tbl}[Z8 T][Zp T][Zu T][Zy T][Zr T][Zt T][Zo T][Zap T][Ze T][Zj T][Zv T][Zbk T][Zaw T][Za3 T][Za4 T][Za5 T][Zat T][Zbp T][Za6 T][Zbx T][Zbc T][Zgl T][Zbd T][Zfc T][Zc1 T][Zan T][Zb3 T][Zc0 T][Zci T][Zb2 T][Zcv T][Ze2 T][Ze0 T][Zak T][Zba T][Zc5 T][Zeb T][Zg6 T][Zh5 T][Zfn T][Zde T][Zc4 T][Ze1 T][Zg5 T][Zhm T][Zej T][Zg7 T][Zb0 T][Zaa T][Zag T][Zfd T][Zdw T][Zie T]
def Zjt(t:List UInt8)(G:List Fz)(i:Nat):St:=⟨[(1,.s t),(10,.ptr (.loc 10) 1 3 0 0),(11,.sl (Zd G) .an),(12,.i .i64 i)],[(.loc 10,⟨1,.str,3,[Zc2 (fz (sumF (G.take i)))]⟩)],3⟩
theorem zu4(t:List UInt8)(G:List Fz)(hl:G.length≤8)(hw:∀x∈G,fsz x≤20) :
  Zw T 0 0 (.norm false [1,10]) l624_0 (Zjt t G 0)=some (.n,⟨[(1,.s t),(10,.ptr (.loc 10) 1 3 0 0)],[(.loc 10,⟨1,.str,3,[Zc2 (fz (sumF G))]⟩)],3⟩):=by
 refine za8 (Zjt t G) G.length _ (fun i hi=>?_) ?_
 ·have hi':(i:Int)<G.length:=by omega
  have hg:G[i]? = some (G[i]'hi):=Ya hi;have hws:=zcs hi (by omega);have ha1:=hw _ (Yv hi);have s1:=zh0 hw (by decide) i (by omega);have c2:=zj2 (T:=T) (fz (sumF (G.take i))) (G[i]'hi) (by rw[zbk];omega) (by omega);rw[zdi,←zhz G hi]at c2;unfold Zjt;generalize hq:G[i]'hi=q at *
  obtain⟨q1,q2,q3⟩:=q;clear s1 ha1 hw;simp -implicitDefEqProofs[l624_0,hi,hi',hg,hq,hws,c2]
 ·unfold Zjt;constructor<;>simp -implicitDefEqProofs[l624_0]
theorem zrd(hcut:∀l:List UInt8,l.length≤1000000→Zb T 184 [.s l,.s [124]]=some (.tup [.s (hdC 124 l),.s (tlC 124 l),.b (l.contains 124)]))(s:Sm)(t:List UInt8):Zb T 624 [esm s,.s t]=some (.b true):=by
 have w:=znz (T:=T) hcut;have c1:Zb T 515 [esm s,.i .i64 10,.i .i64 8]=some (.b (Ze4 s 10 8)):=zq5 (T:=T) s 10 8 (by decide);rw[zab Zie.h624 rfl,b624];cases hs:Ze4 s 10 8 with
 | true=>
  rw[hs]at c1;clear hs hcut;obtain⟨nm,c,a,b,e⟩:=s;simp -implicitDefEqProofs[c1,w]
 | false=>
 rw[hs]at c1;by_cases ht:1500<t.length
 ·have ht':(1500:Int)<t.length:=by omega
  clear hs hcut;obtain⟨nm,c,a,b,e⟩:=s;simp -implicitDefEqProofs[c1,w,ht,ht']
 have ht':¬ (1500:Int)<t.length:=by omega
 obtain⟨S,_⟩:=zl4 hs (by decide) (by decide);have t1:=zxa (T:=T) s S;have tx:=zhu (T:=T) s S;have gp:=zi6 (T:=T) s S;obtain⟨g1,g2⟩:=z6k s;have L:=zu4 (T:=T) t (Zgq s) g1 g2;rw[zxs]at L;unfold Zjt at L;simp only[Yb3,Yac]at L;have hs0:sumF []=0:=rfl;rw[hs0]at L;have z0:=zd5 (T:=T);have zs:=ztw (T:=T) (fz 0) (by rw[zbk];have:=sz_0;omega);have hsg:sgQ (fv (fz 0))=0:=by rw[zdi];rfl
 rw[hsg]at zs;have pt:=zdt (T:=T) hcut t (by omega) (fun _ h=>zu2 t (by omega) h);have same1:=zht (T:=T) s s S S;rw[zmj]at same1;have ps:okS s=true→(textS s).length≤4000→Zb T 608 [.s (textS s)]=some (.tup [esm s,flt 0 0]):=fun hk hl=>by
  have q:=zdt (T:=T) hcut (textS s) (by omega) (fun _ _=>by rw[zhs s hk];exact S);rw[zi3 s hk hl]at q;exact q
 -- what is read of the text
 have tail:(∃k a,¬ (k=0∧a=0)∧(Zax t).2=(k,a))∨(∃Z,okS Z=true∧SmS Z∧Zax t=(Z,0,0)):=by
  by_cases h:(Zax t).2=(0,0)
  ·obtain⟨q1,q2,q3⟩:=zxr h;exact .inr ⟨_,q3,zu2 t (by omega) q1,q2⟩
  ·refine .inl ⟨_,_,fun q=>h ?_,rfl⟩;exact Prod.ext q.1 q.2
 clear hs g1 g2 hs0 hsg;generalize hG:Zgq s=G at *
 clear hG;generalize fz 0=F0 at *
 obtain⟨f1,f2,f3⟩:=F0;rcases tail with ⟨k,a,hka,hp⟩ | ⟨Z,hZ,SZ,hp⟩
 ·rw[show (Zax t).2.1=k from congrArg (·.1) hp,show (Zax t).2.2=a from congrArg (·.2) hp]at pt;clear hcut hp;generalize (Zax t).1=Z at *
  have hk':¬ k=0∨(k=0∧¬ a=0):=by
   by_cases q:k=0
   ·exact .inr ⟨q,fun q2=>hka ⟨q,q2⟩⟩
   ·exact .inl q
  clear hka;cases hk:okS s with
  | false=>
   rw[hk]at tx;simp only[Y6,if_false]at tx;clear ps S hk same1;obtain⟨nm,C,A,B,E⟩:=s;obtain⟨nm',C',A',B',E'⟩:=Z;dsimp only at *
   rcases hk' with hk' | ⟨rfl,hk'⟩<;>simp -implicitDefEqProofs[c1,w,ht,ht',t1,tx,gp,L,z0,zs,pt,hk']
  | true=>
   rw[hk]at tx;simp only[if_true]at tx;by_cases hl:(textS s).length≤4000
   ·have hl':((textS s).length:Int)≤4000:=by omega
    have ps:=ps hk hl;clear S hk;generalize textS s=X at *
    obtain⟨nm,C,A,B,E⟩:=s;obtain⟨nm',C',A',B',E'⟩:=Z;dsimp only at *
    rcases hk' with hk' | ⟨rfl,hk'⟩<;>simp -implicitDefEqProofs[c1,w,ht,ht',t1,tx,gp,L,z0,zs,pt,hk',hl,hl',ps,same1]
   ·have hl':¬ ((textS s).length:Int)≤4000:=by omega
    clear ps S hk same1;generalize textS s=X at *
    obtain⟨nm,C,A,B,E⟩:=s;obtain⟨nm',C',A',B',E'⟩:=Z;dsimp only at *
    rcases hk' with hk' | ⟨rfl,hk'⟩<;>simp -implicitDefEqProofs[c1,w,ht,ht',t1,tx,gp,L,z0,zs,pt,hk',hl,hl']
 ·rw[hp]at pt;dsimp only at pt;have txZ:=zhu (T:=T) Z SZ;rw[hZ]at txZ;simp only[if_true]at txZ;have sameZ:=zht (T:=T) Z Z SZ SZ;rw[zmj]at sameZ;have pZ:=zdt (T:=T) hcut (textS Z) (by have:=zu3 hZ;omega) (fun _ _=>by rw[zhs Z hZ];exact SZ);have hPZ:((textS Z).length≤4000∧Zax (textS Z)=(Z,0,0))∨(4000<(textS Z).length∧∃V,Zax (textS Z)=(V,1,4000)):=by
   by_cases q:(textS Z).length≤4000
   ·exact .inl ⟨q,zi3 Z hZ q⟩
   ·exact .inr ⟨by omega,⟨[],[],[],[],[]⟩,by unfold Zax;rw[if_pos (by omega)]⟩
  clear hp hcut;cases hk:okS s with
  | false=>
   rw[hk]at tx;simp only[Y6,if_false]at tx;clear ps S SZ hZ hk same1;rcases hPZ with ⟨hz,hz2⟩ | ⟨hz,V,hz2⟩
   ·rw[hz2]at pZ;have hz':¬ (4000:Int)<(textS Z).length:=by omega
    have hz3:¬ 4000<(textS Z).length:=by omega
    clear hz2;generalize textS Z=Y at *
    obtain⟨nm,C,A,B,E⟩:=s;obtain⟨nm',C',A',B',E'⟩:=Z;dsimp only at *
    simp -implicitDefEqProofs[c1,w,ht,ht',t1,tx,gp,L,z0,zs,pt,txZ,pZ,sameZ,hz',hz3]
   ·rw[hz2]at pZ;have hz':(4000:Int)<(textS Z).length:=by omega
    clear hz2;generalize textS Z=Y at *
    obtain⟨nm,C,A,B,E⟩:=s;obtain⟨nm',C',A',B',E'⟩:=Z;obtain⟨nm2,C2,A2,B2,E2⟩:=V;dsimp only at *
    simp -implicitDefEqProofs[c1,w,ht,ht',t1,tx,gp,L,z0,zs,pt,txZ,pZ,sameZ,hz',hz]
  | true=>
   rw[hk]at tx;simp only[if_true]at tx;by_cases hl:(textS s).length≤4000
   ·have hl':((textS s).length:Int)≤4000:=by omega
    have ps:=ps hk hl;clear S SZ hZ hk;generalize textS s=X at *
    rcases hPZ with ⟨hz,hz2⟩ | ⟨hz,V,hz2⟩
    ·rw[hz2]at pZ;have hz':¬ (4000:Int)<(textS Z).length:=by omega
     have hz3:¬ 4000<(textS Z).length:=by omega
     clear hz2;generalize textS Z=Y at *
     obtain⟨nm,C,A,B,E⟩:=s;obtain⟨nm',C',A',B',E'⟩:=Z;dsimp only at *
     simp -implicitDefEqProofs[c1,w,ht,ht',t1,tx,gp,L,z0,zs,pt,hl,hl',ps,same1,txZ,pZ,sameZ,hz',hz3]
    ·rw[hz2]at pZ;have hz':(4000:Int)<(textS Z).length:=by omega
     clear hz2;generalize textS Z=Y at *
     obtain⟨nm,C,A,B,E⟩:=s;obtain⟨nm',C',A',B',E'⟩:=Z;obtain⟨nm2,C2,A2,B2,E2⟩:=V;dsimp only at *
     simp -implicitDefEqProofs[c1,w,ht,ht',t1,tx,gp,L,z0,zs,pt,hl,hl',ps,same1,txZ,pZ,sameZ,hz',hz]
   ·have hl':¬ ((textS s).length:Int)≤4000:=by omega
    clear ps S SZ hZ hk same1;generalize textS s=X at *
    rcases hPZ with ⟨hz,hz2⟩ | ⟨hz,V,hz2⟩
    ·rw[hz2]at pZ;have hz':¬ (4000:Int)<(textS Z).length:=by omega
     have hz3:¬ 4000<(textS Z).length:=by omega
     clear hz2;generalize textS Z=Y at *
     obtain⟨nm,C,A,B,E⟩:=s;obtain⟨nm',C',A',B',E'⟩:=Z;dsimp only at *
     simp -implicitDefEqProofs[c1,w,ht,ht',t1,tx,gp,L,z0,zs,pt,hl,hl',txZ,pZ,sameZ,hz',hz3]
    ·rw[hz2]at pZ;have hz':(4000:Int)<(textS Z).length:=by omega
     clear hz2;generalize textS Z=Y at *
     obtain⟨nm,C,A,B,E⟩:=s;obtain⟨nm',C',A',B',E'⟩:=Z;obtain⟨nm2,C2,A2,B2,E2⟩:=V;dsimp only at *
     simp -implicitDefEqProofs[c1,w,ht,ht',t1,tx,gp,L,z0,zs,pt,hl,hl',txZ,pZ,sameZ,hz',hz]
theorem zkc(s:Sm)(t:List UInt8):Zb T 624 [esm s,.s t]=some (.b true):=
 zrd (T:=T) (fun l h=>by rw[p184,zjd l h];rfl) s t
end
end Go.Ab
end