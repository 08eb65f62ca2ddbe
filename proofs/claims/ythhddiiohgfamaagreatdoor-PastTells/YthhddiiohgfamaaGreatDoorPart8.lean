/-
  A calculus of values, boxes and code, and what functions of the program compute, proved in it.
  Conditions: none beyond those that the theorems state. (Part 8.)
-/
import Derived.Test.YthhddiiohgfamaaGreatDoorPart7

set_option linter.unusedSectionVars false
set_option linter.unusedVariables false
set_option linter.unusedSimpArgs false
set_option linter.unnecessarySimpa false
set_option linter.defProp false
set_option maxRecDepth 100000

namespace Go.Ab
section
def l224_0:AX:=QZ "KMUnASAE23QHfGz1uFxHRoMJ85k.O_nrxhhGaFIQ"
def b224:AX:=(fun p0=>QY [p0] [] "8f_qzbX5GnRcipLHurDTao5HwkfOR6JgTonLgX") l224_0
def l225_0:AX:=QY [] [(u64 4294967296)] "BKKPDQ9rBgzLBW2u4Tw4OvFTSRN5ProvV62UxjUxgVyUCssWUU11VZzpB4WLbgHEovWzRUpaz3byrI7Z15DdjDCSBtGcRsS522bQ"
def l225_1:AX:=QZ "0qEoxkjqNFu79F7llPWdw07y80egfy33hbumDCO7ZT3L4vxd6LyasDCXcCh4Q_9vS"
def b225:AX:=(fun p0 p1=>QY [p0,p1] [] "6Bf53mOPVK8VBOYKJWOy_X_XWiObRT") l225_0 l225_1
def l226_0:AX:=QZ "v_S8NyulOMVy6ityQ5gxUIJOBUUbW5tAml6zLVrfQU"
def b226:AX:=(fun p0=>QY [p0] [] "6MThKavhZTGGk0uAOFueCcM.jBrLAZNy5NjgQY6sWWG8joR8AA3JJA") l226_0
def b227:AX:=QZ "UoDzI919j_kSV45AAmDK3V0c5LYiygr.Mt3dAOc28zQf93x_pQGYXRV"
def l228_0:AX:=QZ "0Eele58uNvOnAZOBKec7MHYyr4OkoBf2Jw7TuZAqvpQ8RFjYWh6SuzJb8_g6bJnlWDo25tSsHo0hXaZ79JLB.1vW3RhEt7rTnJEjR"
def b228:AX:=(fun p0=>QY [p0] [] "1YwRqfmYitRBjJaISxEoLRcjh9aQIK1ePmYZtPVHHhh_WTESndPsGaoVC3dYIXlS6dAyT2PdzG82rk3VGfC9ZLtyLUZ_xNOllGGSyFpAk2DjaIrjpJuOdT.C6F6orJJ4zaStMZiTl5g13AshYvJ7I") l228_0
def b229:AX:=QZ "HNFwjTpO5Ig6PsTpGDLqrDn48b9j0WF9og0"
def b230:AX:=QZ "BETeAA5ObUomCF2bd7bViGAVMBUA2izz60wPLSFORh4KP5cWoUHd3QpQswyCDpqsl"
def l2097_0:AX:=QY [] [(u64 4294967296)] "07mu71FnvdTf64W7pIwN6XUw_S5WzHgu2PXnTnjkrqrfyfc15MPmEeuSnvwobaBWU2xlgwkN21g8FQr2gzDw5sWWG7S2tZ9.8UxtyXHhkP6P_WfXfV"
def b2097:AX:=(fun p0=>QY [p0] [] "05pwyFm0MrPKL") l2097_0
abbrev row224:AFx:=⟨1,14,[.t 2],b224,none,false⟩
abbrev row225:AFx:=⟨2,56,[.t 4],b225,(some [true,false]),false⟩
abbrev row226:AFx:=⟨1,24,[.t 2,.t 3],b226,(some [true]),false⟩
abbrev row227:AFx:=⟨2,17,[.t 4],b227,none,false⟩
abbrev row228:AFx:=⟨2,56,[.t 4],b228,none,false⟩
abbrev row229:AFx:=⟨1,12,[.t 2],b229,none,false⟩
abbrev row230:AFx:=⟨2,18,[.t 4],b230,none,false⟩
abbrev row2097:AFx:=⟨2,37,[],b2097,(some [true,true]),false⟩
class Z5 (T:Tbl):Prop where
 h224:Tr T 224=some row224
 h225:Tr T 225=some row225
 h226:Tr T 226=some row226
 h227:Tr T 227=some row227
 h228:Tr T 228=some row228
 h229:Tr T 229=some row229
 h230:Tr T 230=some row230
 h2097:Tr T 2097=some row2097
attribute [simp] Z5.h224 Z5.h225 Z5.h226 Z5.h227 Z5.h228 Z5.h229 Z5.h230 Z5.h2097
section
variable{T:Tbl}[Z5 T]{d:Option Nat}{st:St}{xs:List AV}{ps:List Opd}{e:Env}{h:Heap}{ol:List Heap}
theorem f224(xs:List AV)(hn:xs.length=1):Zb T 224 xs=Zgv [.t 2] false (evX (orc T) T 0 b224 ⟨Zbn xs,[],1⟩):=zaa Z5.h224 hn
def f225(xs:List AV)(hb:Heap)(hn:xs.length=2):Zb6 T 225 xs hb=Zih [.t 4] false hb.length (evX (orc T) T hb.length b225 ⟨Zbn xs,hb,hb.length+1⟩):=zbj Z5.h225 hn
def f226(xs:List AV)(hb:Heap)(hn:xs.length=1):Zb6 T 226 xs hb=Zih [.t 2,.t 3] false hb.length (evX (orc T) T hb.length b226 ⟨Zbn xs,hb,hb.length+1⟩):=zbj Z5.h226 hn
def f227(xs:List AV)(hn:xs.length=2):Zb T 227 xs=Zgv [.t 4] false (evX (orc T) T 0 b227 ⟨Zbn xs,[],1⟩):=zaa Z5.h227 hn
def f228(xs:List AV)(hn:xs.length=2):Zb T 228 xs=Zgv [.t 4] false (evX (orc T) T 0 b228 ⟨Zbn xs,[],1⟩):=zaa Z5.h228 hn
end
end
section
def l43_0:AX:=QZ "n69oUhPR1IdQXK7462Ib0g.yNPnni19EGZyB57xWyWIa5XcKzQ"
def b43:AX:=(fun p0=>QY [p0] [] "K8GK4sv4Zen6cV8lxmbTvHi7KLZznGJnRKhherFI") l43_0
def b84:AX:=QZ "2_iJnGj.pfL8aX6N7sK5afc0YHjY_BvLZ4F"
def l52_0:AX:=QY [] [(AV.i .i64 (-1))] "4aideSoiEau8BzCo5sTyOwZ3C7bTovj_rNLeCCUkEHnuNVqqQzTIAy6bgOTHZH87hg9bl6B0CVe27GtcjGY378nMS"
def b52:AX:=(fun p0=>QY [p0] [] "ZkgNQpf47FqfYI4Dd.oCFMdEYdnj5ri7ywc") l52_0
def l54_0:AX:=QZ "0tFrpfMHzJ4xanByvKMpldG34SsjG0wGjZwA0UgAz9iqdilv2I6p_PrS"
def b54:AX:=(fun p0=>QY [p0] [] "qOm2EII9vAJmRHeK_HdvEVhRQzLk3q_wA9w.") l54_0
def l58_0:AX:=QY [] [(u64 4294967296)] "1iq39A2MLGGr3owESuES6jFxyaN8.NarWGvvwe.6C9PoauC0mhVsq9_MGolk15COBwXknJZIFZ1HxyKLKgzjwF0y7oNAR"
def b58:AX:=(fun p0=>QY [p0] [] "0BKrF2KmtbDE502sMacjr2soSs5hZOptdG4u9YidLke.pzeI_RDdLOe659Qcs2ZH") l58_0
def l59_0:AX:=QY [] [(u64 4294967296)] "7Xd4ZOsiwY370QSFJyrI_ANpQmfiuy6pEonBxK1Ez.0NwIN1VysZ1zD.Qhmb9yNQFIhWnc3JBG4QdvDXUClS8arHbMhpLU107qhw3KCvlxSuz1xjnc6U"
def b59:AX:=(fun p0=>QY [p0] [] "DXDuyBLFjYenhB0FCDtu0Aw3gDgIBfBimx5FSzJ0j4c2U9vw7WPmrL8YSGEJN") l59_0
abbrev row43:AFx:=⟨1,23,[.t 2],b43,none,false⟩
abbrev row84:AFx:=⟨2,13,[.t 4],b84,none,false⟩
abbrev row52:AFx:=⟨2,30,[.t 4],b52,none,false⟩
abbrev row54:AFx:=⟨2,26,[.t 4],b54,none,false⟩
abbrev row58:AFx:=⟨2,43,[.t 4],b58,none,false⟩
abbrev row59:AFx:=⟨2,47,[.t 4],b59,none,false⟩
class Z9 (T:Tbl):Prop where
 h43:Tr T 43=some row43
 h84:Tr T 84=some row84
 h52:Tr T 52=some row52
 h54:Tr T 54=some row54
 h58:Tr T 58=some row58
 h59:Tr T 59=some row59
attribute [simp] Z9.h43 Z9.h84 Z9.h52 Z9.h54 Z9.h58 Z9.h59
end
section
variable{T:Tbl}
def zeq(a:List UInt32)(hl:a.length<9223372036854775808){n:Nat}(hn:n<=a.length)(h0:∀(i:Nat) (x:UInt32),n<=i->a[i]? = some x->x.toNat=0)(h1:∀x:UInt32,0<n->a[n-1]? = some x->x.toNat≠0) :
  ∀m:Nat,(n<=m/\m<=a.length)->Zl T 0 0 (.norm false [0,3]) l43_0 ⟨[(0,.sl (Za a) .an),(3,.i .i64 (m:Int))],[],2⟩=some (.n,⟨[(0,.sl (Za a) .an),(3,.i .i64 (n:Int))],[],2⟩):=by
 refine zat (fun m:Nat=>⟨[(0,.sl (Za a) .an),(3,.i .i64 (m:Int))],[],2⟩) _ (fun m=>m) _ ?_
 rintro m ⟨hm,hma⟩
 by_cases h2:m=0
 ·right;subst h2;have:n=0:=by omega
  subst this;constructor<;>simp[l43_0]
 ·have hw:IntKind.wrap .i64 ((m:Int)-1)=((m-1:Nat):Int):=by rw[zab _ (by omega)];omega
  have hm1:m-1<a.length:=by omega
  have hg:a[m-1]? = some (a[m-1]'hm1):=Ya hm1;have hpos:0<m:=by omega
  by_cases h3:m=n
  ·right;subst h3;have hx:=h1 _ hpos hg;constructor<;>simp[l43_0,hpos,hw,hm1,hx]
  ·left;refine⟨m-1,⟨by omega,by omega⟩,by omega,?_,rfl⟩;have hx:=h0 (m-1) _ (by omega) hg;simp[l43_0,hpos,hw,hm1,hx]
end
section
variable{T:Tbl}[Z9 T]
def zbu(a:List UInt32)(hl:a.length<=1000000):Zb T 43 [.sl (Za a) .an]=some (.sl (Za (ofN (val a))) .an):=by
 obtain⟨n,h1,h2,h3,h4⟩:=zgg a;have hr:=zeq (T:=T) a (by omega) h1 h3 h4 a.length ⟨h1,Yd _⟩;have hlen:(ofN (val a)).length=n:=by grind
 have hb:n<=4294967296:=by omega
 rw[zaa Z9.h43 rfl,b43];simp[hr,h1,h2,hlen,hb]
 grind
def atW(a:List UInt32)(i:Nat):Nat:=(a[i]?.map UInt32.toNat).getD 0
def zjb(a:List UInt32)(i:Nat):atW a i<4294967296:=by
 grind[atW,zak]
theorem zbb(a:List UInt32)(i:Nat):val (a.take (i+1))=val (a.take i)+4294967296^i*atW a i:=by
 grind[atW,zae,zbc]
def zdq(a:List UInt32)(i:Nat)(_hl:a.length<=1000000):Zb T 84 [.sl (Za a) .an,.i .i64 i]=some (u32 (atW a i)):=by
 rw[zaa Z9.h84 rfl,b84];unfold atW;by_cases h:i<a.length
 ·simp[h]
 ·simp[h]
def zjx(a b:List UInt32)(hl:a.length<=1000000)(hl2:b.length<=1000000):∀m:Nat,m<=1000000 ->
  Zl T 0 0 (.norm false []) l52_0 ⟨[(0,.sl (Za a) .an),(1,.sl (Za b) .an),(5,.i .i64 ((m:Int)-1))],[],2⟩ =
   if val (a.take m)<val (b.take m) then some (.r,⟨[(4,.i .i64 (-1))],[],2⟩) else if val (b.take m)<val (a.take m) then some (.r,⟨[(4,.i .i64 1)],[],2⟩) else some (.n,⟨[],[],2⟩):=by
 refine zat (fun m:Nat=>⟨[(0,.sl (Za a) .an),(1,.sl (Za b) .an),(5,.i .i64 ((m:Int)-1))],[],2⟩) _ (fun m=>m) _ ?_;intro m hm;cases m with
 | zero=>
  right;constructor<;>simp[l52_0]
 | succ i=>
  have hw:IntKind.wrap .i64 ((i:Int)-1)=(i:Int)-1:=zab _ (by omega);have ca:=zdq (T:=T) a i hl;have cb:=zdq (T:=T) b i hl2;have e1:=zbb a i;have e2:=zbb b i;have b1:=zau (a.take i);have b2:=zau (b.take i);have p1:4294967296^(a.take i).length<=4294967296^i:=Yp (by decide) (by grind);have p2:4294967296^(b.take i).length<=4294967296^i:=Yp (by decide) (by grind);rcases Ya8 (atW a i) (atW b i) with h1 | h1 | h1
  ·right;have h3:=Yat (4294967296^i) (show atW a i+1<=atW b i from h1);rw[Yan]at h3;have h2:val (a.take (i+1))<val (b.take (i+1)):=by omega
   constructor<;>simp[l52_0,ca,cb,h1,h2]
  ·left;refine⟨i,by omega,Y0 i,?_,?_⟩
   ·simp[l52_0,ca,cb,h1,hw]
   grind
  ·right;have h3:=Yat (4294967296^i) (show atW b i+1<=atW a i from h1);rw[Yan]at h3;have h2:val (b.take (i+1))<val (a.take (i+1)):=by omega
   have h4:¬ val (a.take (i+1))<val (b.take (i+1)):=by omega
   have h5:¬ atW a i<atW b i:=by omega
   constructor<;>simp[l52_0,ca,cb,h1,h2,h4,h5]
def zer(a b:List UInt32)(ha:a.length<=1000000)(hb:b.length<=1000000):Zb T 52 [.sl (Za a) .an,.sl (Za b) .an]=some (.i .i64 (Zck (val a) (val b))):=by
 have hc:=zjx (T:=T) a b ha hb (max a.length b.length) (by omega);rw[Yb (by omega),Yb (by omega)]at hc;have e:(if (a.length:Int)<b.length then (b.length:Int) else a.length)=((max a.length b.length:Nat):Int):=by omega
 have hw:IntKind.wrap .i64 (((max a.length b.length:Nat):Int)-1)=((max a.length b.length:Nat):Int)-1:=zab _ (by omega);rw[zaa Z9.h52 rfl,b52];simp at e hw hc;simp[e,hw,hc,Zck]
 grind
end
section
variable{T:Tbl}
def zjc(a b:List UInt32)(hab:a.length=b.length)(hl:a.length<=1000000):∀i:Nat,i<=a.length ->
  Zl T 0 0 (.norm false []) l54_0 ⟨[(0,.sl (Za a) .an),(1,.sl (Za b) .an),(5,.i .i64 i)],[],2⟩=if a.drop i=b.drop i then some (.n,⟨[],[],2⟩) else some (.r,⟨[(4,.b false)],[],2⟩):=by
 refine zat (fun i:Nat=>⟨[(0,.sl (Za a) .an),(1,.sl (Za b) .an),(5,.i .i64 i)],[],2⟩) _ (fun i=>a.length-i) _ ?_;intro i hi;by_cases h0:i<a.length
 ·have h1:i<b.length:=by omega
  have hw:IntKind.wrap .i64 ((i:Int)+1)=((i+1:Nat):Int):=zab _ (by omega);have hda:a.drop i=a[i]'h0::a.drop (i+1):=Yi h0;have hdb:b.drop i=b[i]'h1::b.drop (i+1):=Yi h1;by_cases h2:a[i]'h0=b[i]'h1
  ·left;refine⟨i+1,h0,by omega,?_,?_⟩
   ·simp[l54_0,h0,h1,h2,hw]
   grind
  ·right;have h3:¬ (a[i]'h0).toNat=(b[i]'h1).toNat:=fun h=>h2 (Yef.1 h);have h4:¬ a.drop i=b.drop i:=by grind
   constructor<;>simp[l54_0,h0,h1,h3,h4]
 ·right;have h4:a.drop i=b.drop i:=by grind
  have h5:¬ (i:Int)<a.length:=by omega
  constructor<;>simp[l54_0,h4,h5]
end
section
variable{T:Tbl}[Z9 T]
def zkq(a b:List UInt32)(ha:a.length<=1000000):Zb T 54 [.sl (Za a) .an,.sl (Za b) .an]=some (.b (decide (a=b))):=by
 rw[zaa Z9.h54 rfl,b54];by_cases h:a.length=b.length
 ·have hc:=zjc (T:=T) a b h ha 0 (Yu _);simp at hc;by_cases h3:a=b
  ·subst h3;simp[hc]
  ·simp[h,hc,h3]
 ·have h3:¬ a=b:=fun he=>h (by rw[he]);have h2:¬ (a.length:Int)=b.length:=by omega
  simp[h2,h3]
def Zij(a b:List UInt32)(n:Nat)(y:Nat×Nat×List UInt32):St:=
 ⟨[(0,.sl (Za a) .an),(1,.sl (Za b) .an),(5,.i .i64 n),(6,.bs (.loc 16) 1 1 0 n),(7,u64 y.2.1),(8,.i .i64 y.1)],[(.loc 16,⟨1,.own,1,Za y.2.2⟩)],3⟩
def zjy(a b:List UInt32)(n:Nat)(ha:a.length<=1000000)(hb:b.length<=1000000)(hn:n<=1000001):∀y:Nat×Nat×List UInt32,
  (y.1<=n/\y.2.1<=1/\y.2.2.length=n/\val (y.2.2.take y.1)+4294967296^y.1*y.2.1=val (a.take y.1)+val (b.take y.1)) ->
  ∃r,(∃(c:Nat) (out:List UInt32),r=(Ex.n,(⟨[(6,.bs (.loc 16) 1 1 0 n)],[(.loc 16,⟨1,.own,1,Za out⟩)],3⟩:St)) /\
   out.length=n/\c<=1/\val out+4294967296^n*c=val (a.take n)+val (b.take n))/\Zl T 0 0 (.norm false [6]) l58_0 (Zij a b n y)=some r:=by
 refine zaq _ _ (fun y=>n-y.1) _ ?_
 rintro⟨i,c,out⟩ ⟨hi,hc,ho,hv⟩
 simp only at hi hc ho hv;by_cases h0:i<n
 ·left;have hoi:i<out.length:=by omega
  have hog:out[i]? = some (out[i]'hoi):=Ya hoi;have hw:IntKind.wrap .i64 ((i:Int)+1)=((i+1:Nat):Int):=zab _ (by omega);have ca:=zdq (T:=T) a i ha;have cb:=zdq (T:=T) b i hb;have la:=zjb a i;have lb:=zjb b i;have e1:=zbb a i;have e2:=zbb b i;have m1:atW a i%18446744073709551616=atW a i:=Yf (by omega);have m2:atW b i%18446744073709551616=atW b i:=Yf (by omega);have m3:(c+(atW a i+atW b i))%18446744073709551616=c+(atW a i+atW b i):=Yf (by omega);have m4:(c+(atW a i+atW b i))/4294967296%18446744073709551616=(c+(atW a i+atW b i))/4294967296:=Yf (by omega);refine⟨(i+1,(c+(atW a i+atW b i))/4294967296,out.set i (w32 (c+(atW a i+atW b i)))),⟨h0,by grind,by grind,?_⟩,by omega,?_⟩
  ·grind[zbp,zck,Nat.div_add_mod]
  ·simp[l58_0,Zij,h0,ca,cb,m1,m2,m3,m4,hog,hw]
 ·right;have:i=n:=by omega
  subst this;rw[Yb (by omega)]at hv;refine⟨_,⟨c,out,rfl,ho,hc,hv⟩,?_,?_⟩<;>simp[l58_0,Zij]
def zyc{p q r x y z c:Nat}(h1:x+p*4294967296*c=y+z)(h2:c<=1)(h3:y<q)(h4:z<r)(h5:q<=p)(h6:r<=p):x=y+z:=by
 rcases(show c=0\/c=1 by omega) with h | h
 all_goals grind
def zyd(a b:List UInt32)(ha:a.length<=100000)(hb:b.length<=100000):Zb T 58 [.sl (Za a) .an,.sl (Za b) .an]=some (.sl (Za (ofN (val a+val b))) .an):=by
 obtain⟨n,hn⟩:∃n,n=max a.length b.length:=⟨_,rfl⟩;obtain⟨_,⟨c,out,rfl,ho,hc,hv⟩,hr⟩:=zjy (T:=T) a b (n+1) (by omega) (by omega) (by omega) (0,0,List.replicate (n+1) 0) ⟨Yu _,Yu _,by simp,by simp⟩;unfold Zij at hr;simp at hr;rw[Yb (by omega),Yb (by omega)]at hv;have e:(if a.length<b.length then (b.length:Int) else a.length)=(n:Int):=by omega
 have hw:IntKind.wrap .i64 ((n:Int)+1)=((n:Int)+1):=zab _ (by omega);have hn1:(0:Int)<=(n:Int)+1:=by omega
 have hn2:(n:Int)+1<=4294967296:=by omega
 have hn3:((n:Int)+1).toNat=n+1:=by omega
 have l1:=zau a;have l2:=zau b;have p1:4294967296^a.length<=4294967296^n:=Yp (by decide) (by omega);have p2:4294967296^b.length<=4294967296^n:=Yp (by decide) (by omega);have hval:val out=val a+val b:=by
  exact zyc hv hc l1 l2 p1 p2
 have hnm:=zbu (T:=T) out (by omega);rw[hval]at hnm;have htk:List.take (n+1) out=out:=Yb (by omega);rw[zaa Z9.h58 rfl,b58];simp[e,hw,hn1,hn2,hn3,hr,ho,htk,hnm]
def Zhm(a b:List UInt32)(n:Nat)(y:Nat×Nat×List UInt32):St:=
 ⟨[(0,.sl (Za a) .an),(1,.sl (Za b) .an),(5,.i .i64 n),(6,.bs (.loc 17) 1 1 0 n),(7,u64 y.2.1),(8,.i .i64 y.1)],[(.loc 17,⟨1,.own,1,Za y.2.2⟩)],3⟩
def zjz(a b:List UInt32)(n:Nat)(ha:a.length<=1000000)(hb:b.length<=1000000)(hn:n<=1000001):∀y:Nat×Nat×List UInt32,
  (y.1<=n/\y.2.1<=1/\y.2.2.length=n/\val (y.2.2.take y.1)+val (b.take y.1)=val (a.take y.1)+4294967296^y.1*y.2.1) ->
  ∃r,(∃(c:Nat) (out:List UInt32),r=(Ex.n,(⟨[(6,.bs (.loc 17) 1 1 0 n)],[(.loc 17,⟨1,.own,1,Za out⟩)],3⟩:St)) /\
   out.length=n/\c<=1/\val out+val (b.take n)=val (a.take n)+4294967296^n*c)/\Zl T 0 0 (.norm false [6]) l59_0 (Zhm a b n y)=some r:=by
 refine zaq _ _ (fun y=>n-y.1) _ ?_
 rintro⟨i,c,out⟩ ⟨hi,hc,ho,hv⟩
 simp only at hi hc ho hv;by_cases h0:i<n
 ·left;have hoi:i<out.length:=by omega
  have hog:out[i]? = some (out[i]'hoi):=Ya hoi;have hw:IntKind.wrap .i64 ((i:Int)+1)=((i+1:Nat):Int):=zab _ (by omega);have ca:=zdq (T:=T) a i ha;have cb:=zdq (T:=T) b i hb;have la:=zjb a i;have lb:=zjb b i;have e1:=zbb a i;have e2:=zbb b i;have m1:atW a i%18446744073709551616=atW a i:=Yf (by omega);have m2:atW b i%18446744073709551616=atW b i:=Yf (by omega);have m3:(atW b i+c)%18446744073709551616=atW b i+c:=Yf (by omega);have m4:(atW a i+4294967296)%18446744073709551616=atW a i+4294967296:=Yf (by omega);have fin:∀s d:Nat,d<=1->s<4294967296->s+(atW b i+c)=atW a i+4294967296*d ->
    val ((out.set i (w32 s)).take (i+1))+val (b.take (i+1))=val (a.take (i+1))+4294967296^(i+1)*d:=by
   grind[zbp,zaf]
  by_cases h1:atW a i<atW b i+c
  ·have hs:Zds (atW a i+4294967296) (atW b i+c)=atW a i+4294967296-(atW b i+c):=ze3 (by omega) (by omega);refine⟨(i+1,1,out.set i (w32 (atW a i+4294967296-(atW b i+c)))),⟨h0,Yd _,by grind,fin _ 1 (by omega) (by omega) (by omega)⟩,by omega,?_⟩;simp[l59_0,Zhm,h0,ca,cb,m1,m2,m3,m4,h1,hs,hog,hw]
  ·have hs:Zds (atW a i) (atW b i+c)=atW a i-(atW b i+c):=ze3 (by omega) (by omega);refine⟨(i+1,0,out.set i (w32 (atW a i-(atW b i+c)))),⟨h0,Yu _,by grind,fin _ 0 (by omega) (by omega) (by omega)⟩,by omega,?_⟩;simp[l59_0,Zhm,h0,ca,cb,m1,m2,m3,h1,hs,hog,hw]
 ·right;have:i=n:=by omega
  subst this;rw[Yb (by omega)]at hv;refine⟨_,⟨c,out,rfl,ho,hc,hv⟩,?_,?_⟩<;>simp[l59_0,Zhm]
def zof(a b:List UInt32)(ha:a.length<=100000)(hb:b.length<=100000)(hab:val b<=val a):Zb T 59 [.sl (Za a) .an,.sl (Za b) .an]=some (.sl (Za (ofN (val a-val b))) .an):=by
 obtain⟨n,hn⟩:∃n,n=max a.length b.length:=⟨_,rfl⟩;obtain⟨_,⟨c,out,rfl,ho,hc,hv⟩,hr⟩:=zjz (T:=T) a b n (by omega) (by omega) (by omega) (0,0,List.replicate n 0) ⟨Yu _,Yu _,by simp,by simp⟩;unfold Zhm at hr;simp at hr;rw[Yb (by omega),Yb (by omega)]at hv;have e:(if a.length<b.length then (b.length:Int) else a.length)=(n:Int):=by omega
 have hn2:(n:Int)<=4294967296:=by omega
 have hlo:=zau out;have hval:val out=val a-val b:=by
  rcases Yar c with h1 | h1
  all_goals grind
 have hnm:=zbu (T:=T) out (by omega);rw[hval]at hnm;have htk:List.take n out=out:=Yb (by omega);rw[zaa Z9.h59 rfl,b59];simp[e,hn2,hr,ho,htk,hnm]
end
section
def l61_0:AX:=QY [] [(u64 4294967296)] "RSbrSODywTXdvxejVvc4KqK3S37h4kOO8OWJBRzak6rUuVOFPqrRJ357RMZ.1H2dLkrBsSly0wGx6THI_WTDASyWozVQ5snwbb0CnjnxfBi.bepLEQ"
def l61_1:AX:=(fun p0=>QY [p0] [] "01g7GxpWWnaMSDJa22oxhvN3z3_pqQvGSRNQSW8t2.6cUaZtdUqB5BMCFL5oXjO11Bo7MU") l61_0
def b61:AX:=(fun p0=>QY [p0] [] "0nqwkV_TBivG3kFdwLHTsG5Bpsi.Utn2LR2j6ygG8EZOVFn") l61_1
abbrev row61:AFx:=⟨2,68,[.t 4],b61,none,false⟩
class Zau (T:Tbl):Prop extends Z9 T where
 h61:Tr T 61=some row61
attribute [simp] Zau.h61
end
section
variable{T:Tbl}[Zau T]
def zye{p m w c c' s x y t v:Nat}(h:m+p*c=s+x*t)(e:w+4294967296*c'=x*y+v+c):(m+p*w)+p*4294967296*c'=(s+p*v)+x*(t+p*y):=
 zr0 (k:=0) h e
def Zjw(P S a b:List UInt32)(y:Nat×Nat×List UInt32):St:=
 ⟨[(0,.sl (Za a) .an),(1,.sl (Za b) .an),(5,.bs (.loc 14) 1 1 0 (P.length+S.length)),(6,.i .i64 P.length),(7,u64 y.2.1),(8,.i .i64 y.1)],[(.loc 14,⟨1,.own,1,Za (P++(y.2.2++S.drop y.1))⟩)],3⟩
end
section
variable{T:Tbl}
def z1e(P S a b:List UInt32)(x:UInt32)(hxa:a[P.length]? = some x)(hS:b.length<S.length)(hl:P.length+S.length<=1000000):∀y:Nat×Nat×List UInt32,
  (y.1<=b.length/\y.2.1<4294967296/\y.2.2.length=y.1/\val y.2.2+4294967296^y.1*y.2.1=val (S.take y.1)+x.toNat*val (b.take y.1)) ->
  ∃r,(∃(c:Nat) (m:List UInt32),r=(Ex.n,(⟨[(0,.sl (Za a) .an),(1,.sl (Za b) .an),(5,.bs (.loc 14) 1 1 0 (P.length+S.length)),(6,.i .i64 P.length),(7,u64 c)],[(.loc 14,⟨1,.own,1,Za (P++(m++S.drop b.length))⟩)],3⟩:St)) /\
   m.length=b.length/\c<4294967296/\val m+4294967296^b.length*c=val (S.take b.length)+x.toNat*val b)/\Zl T 0 2 (.norm false [0,1,5,6,7]) l61_0 (Zjw P S a b y)=some r:=by
 refine zaq _ _ (fun y=>b.length-y.1) _ ?_
 rintro⟨i,c,m⟩ ⟨hi,hc,hm,hv⟩
 simp only at hi hc hm hv;have hPa:P.length<a.length:=by
  rcases Yy P.length a.length with h | h
  ·exact h
  ·rw[Yc0 h]at hxa;cases hxa
 obtain rfl:a[P.length]'hPa=x:=by rw[Ya hPa]at hxa;cases hxa;rfl
 generalize hX:a[P.length]'hPa=x at hv ⊢;by_cases h0:i<b.length
 ·left;have hb:b[i]? = some (b[i]'h0):=Ya h0;have hiS:i<S.length:=by omega
  have hs:S[i]? = some (S[i]'hiS):=Ya hiS;have hg:=zdx (P:=P) hm hiS;have hw:IntKind.wrap .i64 ((i:Int)+1)=((i+1:Nat):Int):=zab _ (by omega);have hw2:IntKind.wrap .i64 ((P.length:Int)+i)=((P.length+i:Nat):Int):=zab _ (by omega);have hlb:=zak (b[i]'h0);have hls:=zak (S[i]'hiS);have hmul:=zg5 (zak x) hlb;have hset:=zdj (P:=P) (w32 (c+(x.toNat*(b[i]'h0).toNat+(S[i]'hiS).toNat))) hm hiS;have m1:x.toNat*(b[i]'h0).toNat%18446744073709551616=x.toNat*(b[i]'h0).toNat:=Yf (by omega);have m2:(x.toNat*(b[i]'h0).toNat+(S[i]'hiS).toNat)%18446744073709551616=x.toNat*(b[i]'h0).toNat+(S[i]'hiS).toNat:=Yf (by omega);have m3:(c+(x.toNat*(b[i]'h0).toNat+(S[i]'hiS).toNat))%18446744073709551616=c+(x.toNat*(b[i]'h0).toNat+(S[i]'hiS).toNat):=Yf (by omega);have m4:(c+(x.toNat*(b[i]'h0).toNat+(S[i]'hiS).toNat))/4294967296%18446744073709551616=(c+(x.toNat*(b[i]'h0).toNat+(S[i]'hiS).toNat))/4294967296:=Yf (by omega);refine⟨(i+1,(c+(x.toNat*(b[i]'h0).toNat+(S[i]'hiS).toNat))/4294967296,m++[w32 (c+(x.toNat*(b[i]'h0).toNat+(S[i]'hiS).toNat))]),⟨h0,by simp only;omega,by simp[hm],?_⟩,by simp only;omega,?_⟩
  ·simp only;rw[zag,zae hb,zae hs,Y7,hm];simp only[zaj,za2,Yam,Y6,zck];exact zye hv (by have:=Yb0 (c+(x.toNat*(b[i]'h0).toNat+(S[i]'hiS).toNat)) 4294967296;omega)
  ·simp at hg hset;simp -implicitDefEqProofs[l61_0,Zjw,h0,hw,hw2,hiS,hg,hset,hPa,hX,m1,m2,m3,m4]
 ·right;have hib:i=b.length:=by omega
  have hv':val m+4294967296^b.length*c=val (S.take b.length)+x.toNat*val b:=by
   rw[hib,Yb (Yd b.length)]at hv;exact hv
  refine⟨(Ex.n,⟨[(0,.sl (Za a) .an),(1,.sl (Za b) .an),(5,.bs (.loc 14) 1 1 0 (P.length+S.length)),(6,.i .i64 P.length),(7,u64 c)],[(.loc 14,⟨1,.own,1,Za (P++(m++S.drop i))⟩)],3⟩),⟨c,m,by rw[hib],by rw[hm,hib],hc,hv'⟩,?_,?_⟩<;>simp -implicitDefEqProofs[l61_0,Zjw,h0]
end
section
variable{T:Tbl}[Zau T]
def Zik(a b:List UInt32)(y:Nat×List UInt32):St:=
 ⟨[(0,.sl (Za a) .an),(1,.sl (Za b) .an),(5,.bs (.loc 14) 1 1 0 (a.length+b.length)),(6,.i .i64 y.1)],[(.loc 14,⟨1,.own,1,Za (y.2++List.replicate (a.length-y.1) 0)⟩)],3⟩
end
section
variable{T:Tbl}
def zyf(a b:List UInt32)(ha:a.length<=100000)(hb:b.length<=100000):∀y:Nat×List UInt32,
  (y.1<=a.length/\y.2.length=b.length+y.1/\val y.2=val (a.take y.1)*val b) ->
  ∃r,(∃out:List UInt32,r=(Ex.n,(⟨[(5,.bs (.loc 14) 1 1 0 (a.length+b.length))],[(.loc 14,⟨1,.own,1,Za out⟩)],3⟩:St))/\out.length=a.length+b.length/\val out=val a*val b) /\
   Zl T 0 0 (.norm false [5]) l61_1 (Zik a b y)=some r:=by
 refine zaq _ _ (fun y=>a.length-y.1) _ ?_
 rintro⟨i,X⟩ ⟨hi,hX,hv⟩
 simp only at hi hX hv;by_cases h0:i<a.length
 ·left;have hag:a[i]? = some (a[i]'h0):=Ya h0;have hw:IntKind.wrap .i64 ((i:Int)+1)=((i+1:Nat):Int):=zab _ (by omega);have e2:(X.take i).length=i:=by simp;omega
  have e3:(X.drop i++List.replicate (a.length-i) 0).length=a.length+b.length-i:=by simp;omega
  obtain⟨_,⟨c,m,rfl,hm,hc,hvm⟩,hr⟩:=z1e (T:=T) (X.take i) (X.drop i++List.replicate (a.length-i) 0) a b (a[i]'h0) (by rw[e2];exact hag) (by simp;omega) (by simp;omega) (0,0,[]) ⟨Yu _,Nat.zero_lt_succ _,rfl,by simp⟩;have e1:X.take i++(X.drop i++List.replicate (a.length-i) 0)=X++List.replicate (a.length-i) 0:=by rw[<-Yay,Yau]
  have e4:i+(a.length+b.length-i)=a.length+b.length:=by omega
  have e6:(X.drop i++List.replicate (a.length-i) 0).take b.length=X.drop i:=by
   rw[Ybp (by simp;omega),Yb (by simp;omega)]
  have hSl:b.length<(X.drop i++List.replicate (a.length-i) 0).length:=by simp;omega
  have hg:=zdx (P:=X.take i) (m:=m) hm hSl;have hset:=zdj (P:=X.take i) (m:=m) (w32 c) hm hSl;have e5:(X.drop i++List.replicate (a.length-i) 0).drop (b.length+1)=List.replicate (a.length-(i+1)) 0:=by
   rw[Ydr,Ya1 (by simp;omega),Ydz];simp only[Ya5,Yby];congr 1;omega
  unfold Zjw at hr;simp only[Ya5,Yaj]at hr;rw[e1,e2,e3,e4]at hr;rw[e2]at hg hset;rw[e5]at hset;rw[e6]at hvm;generalize hQ:X.take i++(m++(X.drop i++List.replicate (a.length-i) 0).drop b.length)=Q at hr hg hset;have hw2:IntKind.wrap .i64 ((i:Int)+b.length)=((i+b.length:Nat):Int):=zab _ (by omega);have hlt:((i:Int)+b.length)<(a.length:Int)+b.length:=by omega
  simp at hr hg hset;refine⟨(i+1,X.take i++(m++[w32 c])),⟨h0,by simp only[Yo,e2,hm,List.length_singleton];omega,?_⟩,by simp only;omega,?_⟩
  ·simp only;have e7:=zag (X.take i) (X.drop i);rw[Yau,e2]at e7;rw[zag,e2,zag,hm];simp only[zaj,za2,Yam,Y6,zaf hc];rw[hvm,zae hag,Yb3,<-hv,e7,Yan];rw[Yag];omega
  ·simp -implicitDefEqProofs[l61_1,Zik,h0,hw,hr,hw2,hlt,hg,hset]
 ·right;have:i=a.length:=by omega
  subst this;rw[Yb (Yd _)]at hv;refine⟨_,⟨X++List.replicate (a.length-a.length) 0,rfl,by simp;omega,by simp[hv]⟩,?_,?_⟩<;>simp -implicitDefEqProofs[l61_1,Zik]
end
section
variable{T:Tbl}[Zau T]
def zgd(a b:List UInt32)(ha:a.length<=100000)(hb:b.length<=100000):Zb T 61 [.sl (Za a) .an,.sl (Za b) .an]=some (.sl (Za (ofN (val a*val b))) .an):=by
 obtain⟨_,⟨out,rfl,ho,hv⟩,hr⟩:=zyf (T:=T) a b ha hb (0,List.replicate b.length 0) ⟨Yu _,by simp,by simp[zaw]⟩;unfold Zik at hr;simp at hr;have hw1:IntKind.wrap .i64 ((a.length:Int)+b.length)=(a.length:Int)+b.length:=zab _ (by omega);have hle:(a.length:Int)+b.length<=4294967296:=by omega
 have hn:=zbu (T:=T) out (by omega);rw[hv]at hn;have htk:List.take (a.length+b.length) out=out:=Yb (by omega);have he:b.length+a.length=a.length+b.length:=by omega
 rw[he]at hr;rw[zaa Zau.h61 rfl,b61];simp -implicitDefEqProofs[hw1,hle,hr,ho,htk,hn]
end
section
def l122_0:AX:=QZ "4PnK4tOCqdHZHp5do6vwZuEUZOkPVEb0KN3m1vhNSPaEU"
def b122:AX:=(fun p0=>QY [p0] [] "UOdcInFaYN87v1ShOCfVqIF9EcYcy1t7UD92MskD38Y_zHR2nNB1zN3YEYRfIZuoWSdEZoUfmWQlfuGZjUS7KF") l122_0
def l95_0:AX:=QZ "A7vTg.TmosnE69JIZ7ZocvLpH.sa4zFxLRpY5YHKtGdIjKjS"
def b95:AX:=(fun p0=>QY [p0] [] "p.DulIiyHqeNqUScBW3C.KVFv1Tx2W.FQ") l95_0
def l96_0:AX:=QY [] [(u32 2147483648)] "38lQcVdQVbMkLot2ehYKc_JLfN1kL9rlb4YYzRBL2k4nX3HuItMIWmmLh00mDrxoYrFLDzjfwsSvQU"
def b96:AX:=(fun p0=>QY [p0] [] "RS4zRbu.sTOchoS731NVn") l96_0
def l97_0:AX:=QY [] [(u64 4294967296)] "07mu71FnvdTf64W7pIwN6XUw_S5WzHgu2PXnTnjkrqrfyfc15MPmEeuSnvwobaBWU2xlgwkN21g8FQr2gzDw5sWWG7S2tZ9.8UxtyXHhkP6P_WfXfV"
def b97:AX:=(fun p0=>QY [p0] [] "05pwyFm0MrPKL") l97_0
def l63_0:AX:=QZ "6kw8lXue.erhImysIDi6f3RKafIskEaXieOaStghbU1nMN0BInzQCReSta_AnfEwPeeSAlskfNfiMuClFoFlwSkeSx2FSwx4w43gZGGL9_RFfVoAAAER"
def b63:AX:=(fun p0=>QY [p0] [] "Jqjhf0J77bv4wQK8JUDvHUrAz6Un.SGhWIJYV.Qz2ywR4uc6DrpfROmEuj6IjXDi1Ovh.7DQ0tzlSsre8L") l63_0
abbrev row122:AFx:=⟨2,32,[.t 4],b122,none,false⟩
abbrev row95:AFx:=⟨1,19,[.t 2],b95,none,false⟩
abbrev row96:AFx:=⟨2,30,[],b96,(some [true,false]),false⟩
abbrev row97:AFx:=⟨2,37,[],b97,(some [true,false]),false⟩
abbrev row63:AFx:=⟨2,54,[.t 4,.t 5],b63,none,false⟩
class Zaa (T:Tbl):Prop extends Zau T where
 h122:Tr T 122=some row122
 h95:Tr T 95=some row95
 h96:Tr T 96=some row96
 h97:Tr T 97=some row97
 h63:Tr T 63=some row63
attribute [simp] Zaa.h122 Zaa.h95 Zaa.h96 Zaa.h97 Zaa.h63
end
section
variable{T:Tbl}[Zaa T]
def Zl0(a:List UInt32)(y:Nat×Nat×List UInt32):St:=
 ⟨[(0,.bs (.bor 0) 0 1 0 a.length),(4,u32 y.2.1),(5,.i .i64 y.1)],[(.bor 0,⟨0,.own,1,Za (y.2.2++a.drop y.1)⟩)],4⟩
def z5b{p m c c' w s x k:Nat}(h:m+p*c=2*s+k)(e:w+4294967296*c'=2*x+c):(m+p*w)+p*4294967296*c'=2*(s+p*x)+k:=by
 grind
end
section
variable{T:Tbl}
def z5c(a:List UInt32)(c0:Nat)(hl:a.length<=1000000):∀y:Nat×Nat×List UInt32,
  (y.1<=a.length/\y.2.1<=1/\y.2.2.length=y.1/\val y.2.2+4294967296^y.1*y.2.1=2*val (a.take y.1)+c0) ->
  ∃r,(∃(c:Nat) (m:List UInt32),r=(Ex.n,(⟨[],[(.bor 0,⟨0,.own,1,Za m⟩)],4⟩:St)) /\
   m.length=a.length/\c<=1/\val m+4294967296^a.length*c=2*val a+c0)/\Zl T 1 0 (.norm false []) l96_0 (Zl0 a y)=some r:=by
 refine zaq _ _ (fun y=>a.length-y.1) _ ?_
 rintro⟨i,c,m⟩ ⟨hi,hc,hm,hv⟩
 simp only at hi hc hm hv;by_cases h0:i<a.length
 ·left;have ha:a[i]? = some (a[i]'h0):=Ya h0;have hg:=zdx (P:=[]) hm h0;have hw:IntKind.wrap .i64 ((i:Int)+1)=((i+1:Nat):Int):=zab _ (by omega);have hlx:=zak (a[i]'h0);have hset:=zdj (P:=[]) (w32 ((a[i]'h0).toNat*2%4294967296+c)) hm h0;simp at hg hset;have m1:((a[i]'h0).toNat*2%4294967296+c)%4294967296=(a[i]'h0).toNat*2%4294967296+c:=Yf (by omega);have m2:(a[i]'h0).toNat/2147483648<4294967296:=by omega
  have m3:(a[i]'h0).toNat*2%4294967296+c<4294967296:=by omega
  refine⟨(i+1,(a[i]'h0).toNat/2147483648,m++[w32 ((a[i]'h0).toNat*2%4294967296+c)]),⟨h0,by grind,by grind,?_⟩,by omega,?_⟩
  ·rw[zag,zae ha,Y7,hm];simp only[zaj,za2,Yam,Y6,zck];exact z5b hv (by omega)
  ·simp -implicitDefEqProofs[l96_0,Zl0,h0,hw,hg,hset,m1,m2,zbd _ _ _ m3]
 ·right;have:i=a.length:=by omega
  subst this;rw[Yb (Yd a.length)]at hv;refine⟨_,⟨c,m,rfl,hm,hc,hv⟩,?_,?_⟩<;>simp -implicitDefEqProofs[l96_0,Zl0]
end
section
variable{T:Tbl}[Zaa T]
def zg7(a:List UInt32)(v:Bool)(hl:a.length<=1000000) :
  ∃(c:Nat) (m:List UInt32),m.length=a.length/\c<=1/\val m+4294967296^a.length*c=2*val a+(if v then 1 else 0) /\
   Zb6 T 96 [.bs (.bor 0) 0 1 0 a.length,.b v] [(.bor 0,⟨0,.own,1,Za a⟩)]=some (.tup [],[(.bor 0,⟨0,.own,1,Za m⟩)]):=by
 obtain⟨_,⟨c,m,rfl,hm,hc,hv⟩,hr⟩:=z5c (T:=T) a (if v then 1 else 0) hl (0,(if v then 1 else 0),[]) ⟨Yu _,by grind,rfl,by simp_all⟩;refine⟨c,m,hm,hc,hv,?_⟩;unfold Zl0 at hr;rw[zbj Zaa.h96 rfl,b96];cases v
 ·simp at hr;simp -implicitDefEqProofs[hr]
 ·simp at hr;simp -implicitDefEqProofs[hr]
def Zk3(a b:List UInt32)(y:Nat×Nat×List UInt32):St:=
 ⟨[(0,.bs (.bor 0) 0 1 0 a.length),(1,.sl (Za b) .an),(4,u64 y.2.1),(5,.i .i64 y.1)],[(.bor 0,⟨0,.own,1,Za (y.2.2++a.drop y.1)⟩)],4⟩
def z5d(a b:List UInt32)(hl:a.length<=1000000)(hb:b.length<=1000000):∀y:Nat×Nat×List UInt32,
  (y.1<=a.length/\y.2.1<=1/\y.2.2.length=y.1/\val y.2.2+val (b.take y.1)=val (a.take y.1)+4294967296^y.1*y.2.1) ->
  ∃r,(∃(c:Nat) (m:List UInt32),r=(Ex.n,(⟨[],[(.bor 0,⟨0,.own,1,Za m⟩)],4⟩:St)) /\
   m.length=a.length/\c<=1/\val m+val (b.take a.length)=val a+4294967296^a.length*c)/\Zl T 1 0 (.norm false []) l97_0 (Zk3 a b y)=some r:=by
 refine zaq _ _ (fun y=>a.length-y.1) _ ?_
 rintro⟨i,c,m⟩ ⟨hi,hc,hm,hv⟩
 simp only at hi hc hm hv;by_cases h0:i<a.length
 ·left;have ha:a[i]? = some (a[i]'h0):=Ya h0;have hg:=zdx (P:=[]) hm h0;have hw:IntKind.wrap .i64 ((i:Int)+1)=((i+1:Nat):Int):=zab _ (by omega);have cb:=zdq (T:=T) b i hb;have la:=zak (a[i]'h0);have lb:=zjb b i;have e1:=zae ha;have e2:=zbb b i;simp at hg;have m1:(a[i]'h0).toNat%18446744073709551616=(a[i]'h0).toNat:=Yf (by omega);have m2:atW b i%18446744073709551616=atW b i:=Yf (by omega);have m3:(atW b i+c)%18446744073709551616=atW b i+c:=Yf (by omega);have m4:((a[i]'h0).toNat+4294967296)%18446744073709551616=(a[i]'h0).toNat+4294967296:=Yf (by omega);have fin:∀s d:Nat,d<=1->s<4294967296->s+(atW b i+c)=(a[i]'h0).toNat+4294967296*d ->
    val (m++[w32 s])+val (b.take (i+1))=val (a.take (i+1))+4294967296^(i+1)*d:=by
   grind[zag,zaj,za2,zaf]
  by_cases h1:(a[i]'h0).toNat<atW b i+c
  ·have hs:Zds ((a[i]'h0).toNat+4294967296) (atW b i+c)=(a[i]'h0).toNat+4294967296-(atW b i+c):=ze3 (by omega) (by omega);have hset:=zdj (P:=[]) (w32 ((a[i]'h0).toNat+4294967296-(atW b i+c))) hm h0;simp at hset;refine⟨(i+1,1,m++[w32 ((a[i]'h0).toNat+4294967296-(atW b i+c))]),⟨h0,Yd _,by grind,fin _ 1 (by omega) (by omega) (by omega)⟩,by omega,?_⟩;simp -implicitDefEqProofs[l97_0,Zk3,h0,cb,m1,m2,m3,m4,h1,hs,hg,hw,hset]
  ·have hs:Zds (a[i]'h0).toNat (atW b i+c)=(a[i]'h0).toNat-(atW b i+c):=ze3 (by omega) (by omega);have hset:=zdj (P:=[]) (w32 ((a[i]'h0).toNat-(atW b i+c))) hm h0;simp at hset;refine⟨(i+1,0,m++[w32 ((a[i]'h0).toNat-(atW b i+c))]),⟨h0,Yu _,by grind,fin _ 0 (by omega) (by omega) (by omega)⟩,by omega,?_⟩;simp -implicitDefEqProofs[l97_0,Zk3,h0,cb,m1,m2,m3,h1,hs,hg,hw,hset]
 ·right;have:i=a.length:=by omega
  subst this;rw[Yb (Yd a.length)]at hv;refine⟨_,⟨c,m,rfl,hm,hc,hv⟩,?_,?_⟩<;>simp -implicitDefEqProofs[l97_0,Zk3]
def zt8(a b:List UInt32)(hl:a.length<=1000000)(hb:b.length<=a.length)(hab:val b<=val a) :
  ∃m:List UInt32,m.length=a.length/\val m=val a-val b /\
   Zb6 T 97 [.bs (.bor 0) 0 1 0 a.length,.sl (Za b) .an] [(.bor 0,⟨0,.own,1,Za a⟩)]=some (.tup [],[(.bor 0,⟨0,.own,1,Za m⟩)]):=by
 obtain⟨_,⟨c,m,rfl,hm,hc,hv⟩,hr⟩:=z5d (T:=T) a b hl (by omega) (0,0,[]) ⟨Yu _,Yu _,rfl,by simp⟩;rw[Yb hb]at hv;have hlo:=zau m;have hval:val m=val a-val b:=by
  rcases Yar c with h1 | h1
  all_goals grind
 refine⟨m,hm,hval,?_⟩;unfold Zk3 at hr;rw[zbj Zaa.h97 rfl,b97]
 simp_all
def Zl1(x i:Nat)(y:Nat):St:=⟨[(1,.i .i64 i),(5,u32 (x/2^y)),(6,.i .i64 y)],[],2⟩
end
section
variable{T:Tbl}
def z5e(x i:Nat)(_hi:i<=100000000)(hx:x<4294967296):∀y:Nat,y<=i%32 ->
  ∃r,(r=(Ex.n,(⟨[(5,u32 (x/2^(i%32)))],[],2⟩:St)))/\Zl T 0 0 (.norm false [5]) l122_0 (Zl1 x i y)=some r:=by
 refine zaq _ _ (fun y=>i%32-y) _ ?_;intro j hj;have hm:((i:Int).tmod 32)=((i%32:Nat):Int):=rfl;by_cases h0:j<i%32
 ·left;have hw:IntKind.wrap .i64 ((j:Int)+1)=((j+1:Nat):Int):=zab _ (by omega);have hd:x/2^j/2=x/2^(j+1):=by rw[Ybc,Y7]
  have hd2:x/2^(j+1)%4294967296=x/2^(j+1):=Yf (Ycs (Ybg _ _) hx);refine⟨j+1,h0,by omega,?_⟩;have hj2:(j:Int)<(i:Int)%32:=by omega
  simp -implicitDefEqProofs[l122_0,Zl1,hm,hw,hd,hd2,hj2]
 ·right;have:j=i%32:=by omega
  subst this;refine⟨_,rfl,?_,?_⟩<;>simp -implicitDefEqProofs[l122_0,Zl1,hm]
end
section
variable{T:Tbl}[Zaa T]
def zyg(a:List UInt32)(i:Nat)(hl:a.length<=1000000)(hi:i<32*a.length) :
  Zb T 122 [.sl (Za a) .an,.i .i64 i]=some (.b (decide (val a/2^i%2=1))):=by
 have h1:i/32<a.length:=by omega
 have ha:a[i/32]? = some (a[i/32]'h1):=Ya h1;obtain⟨_,rfl,hr⟩:=z5e (T:=T) (a[i/32]'h1).toNat i (by omega) (zak _) 0 (Yu _);unfold Zl1 at hr;simp at hr;have hq:IntKind.wrap .i64 ((i:Int)/32)=(i:Int)/32:=zab (i/32) (by omega);have hq1:((i:Int)/32).toNat=i/32:=by omega
 have hq2:(0:Int)<=(i:Int)/32:=by omega
 have hq3:(i:Int)/32<(a.length:Int):=by omega
 have hq4:¬ (a.length:Int)<=(i:Int)/32:=by omega
 have hb:=zy4 ha;rw[zaa Zaa.h122 rfl,b122];simp -implicitDefEqProofs[hr,hq,hq1,hq2,hq3,hq4,h1,hb]
def Zk4(a:List UInt32)(y:Nat):St:=⟨[(0,.sl (Za a) .an),(3,.i .i64 y)],[],2⟩
def z5f(a:List UInt32)(hl:a.length<=1000000):∀y:Nat,(y<=32*a.length/\val a<2^y) ->
  ∃r,(∃n:Nat,r=(Ex.n,(⟨[(3,.i .i64 n)],[],2⟩:St))/\n<=32*a.length/\val a<2^n)/\Zl T 0 0 (.norm false [3]) l95_0 (Zk4 a y)=some r:=by
 refine zaq _ _ (fun y=>y) _ ?_
 rintro k ⟨hk,hv⟩
 by_cases h0:k=0
 ·right;subst h0;refine⟨_,⟨0,rfl,Yu _,hv⟩,?_,?_⟩<;>simp -implicitDefEqProofs[l95_0,Zk4]
 ·obtain⟨j,rfl⟩:∃j,k=j+1:=⟨k-1,by omega⟩;have hw:IntKind.wrap .i64 (j:Int)=(j:Int):=zab _ (by omega);have hh:=zyg (T:=T) a j hl (by omega);have hp:(0:Int)<(j:Int)+1:=by omega
  by_cases h1:val a/2^j%2=1
  ·right;refine⟨_,⟨j+1,rfl,hk,hv⟩,?_,?_⟩<;>simp -implicitDefEqProofs[l95_0,Zk4,hw,hh,hp,h1]
  ·left;refine⟨j,⟨by omega,zy5 hv (by omega)⟩,by omega,?_⟩;simp -implicitDefEqProofs[l95_0,Zk4,hw,hh,hp,h1]
def zyh(a:List UInt32)(hl:a.length<=1000000):∃n:Nat,n<=32*a.length/\val a<2^n/\Zb T 95 [.sl (Za a) .an]=some (.i .i64 n):=by
 obtain⟨_,⟨n,rfl,hn,hv⟩,hr⟩:=z5f (T:=T) a hl (32*a.length) ⟨Yd _,by rw[<-zom];exact zau a⟩;refine⟨n,hn,hv,?_⟩;unfold Zk4 at hr;simp at hr;have hw:IntKind.wrap .i64 (32*(a.length:Int))=32*(a.length:Int):=by
  grind[zab]
 rw[zaa Zaa.h95 rfl,b95];simp -implicitDefEqProofs[hr,hw]
end
section
variable{T:Tbl}[Zaa T]
def z1f(n:Nat)(h:n<32):Z7 .shl (u32 1) (.i .i64 (n:Int))=some (u32 (2^n)):=by
 have h1:¬ (n:Int)<0:=by omega
 have h2:2^n<4294967296:=by
  have:2^n<2^32:=Nat.pow_lt_pow_right (by decide) h;simpa using this
 have h3:min n IntKind.u32.bits=n:=by
  have:IntKind.u32.bits=32:=rfl;rw[this];omega
 have h4:((1:Nat):Int)*2^n=((2^n:Nat):Int):=by simp
 unfold u32;simp only[Z7,if_neg h1,Yc1,h3,h4,zdn,Yf h2]
def zaa3{v b Q L:Nat}(hb:0<b)(hq:Q=v/2/b)(hr:L=v/2%b) :
  (b<=2*L+v%2->v/b=2*Q+1/\v%b=2*L+v%2-b)/\(2*L+v%2<b->v/b=2*Q/\v%b=2*L+v%2):=by
 have h1:=Yb0 (v/2) b;have h2:L<b:=by rw[hr];exact Ya0 _ hb
 rw[<-hq,<-hr]at h1;have h3:v=b*(2*Q)+(2*L+v%2):=by
  rw[<-Yag,Yah b 2,Yag];omega
 have ht:v%2<2:=Ya0 _ (by decide);clear h1 hq hr;generalize v%2=t at *
 rw[h3];constructor
 ·intro h;have e:b*(2*Q)+(2*L+t)=(2*L+t-b)+b*(2*Q+1):=by rw[Yan,Ydk];omega
  rw[e,Yb5 _ _ hb,Yc5,Ybi (by omega),Yf (by omega)];omega
 ·intro h;rw[Ybr,Yb5 _ _ hb,Yc5,Ybi h,Yf h];omega
def z5g{a:List UInt32}{x:UInt32}(h:a[0]? = some x)(hx:x.toNat+1<4294967296):val (a.set 0 (w32 (x.toNat+1)))=val a+1:=by
 cases a with
 | nil=>cases h
 | cons y l=>
  cases h;simp only[Ybx,zaj,zaf hx];omega
def Zjc(a b:List UInt32)(y:Nat×List UInt32×List UInt32):St:=
 ⟨[(0,.sl (Za a) .an),(1,.sl (Za b) .an),(6,.bs (.loc 11) 1 1 0 a.length),(7,.bs (.loc 15) 2 1 0 (b.length+1)),(8,.i .i64 ((y.1:Int)-1))],[(.loc 11,⟨1,.own,1,Za y.2.1⟩),(.loc 15,⟨2,.own,1,Za y.2.2⟩)],4⟩
def z5h(a b:List UInt32)(ha:a.length<=100000)(hb:b.length<=100000)(h0b:0<val b):∀y:Nat×List UInt32×List UInt32,
  (y.1<=32*a.length/\y.2.1.length=a.length/\y.2.2.length=b.length+1/\val y.2.1=val a/2^y.1/val b/\val y.2.2=val a/2^y.1%val b) ->
  ∃r,(∃Q L:List UInt32,r=(Ex.n,(⟨[(6,.bs (.loc 11) 1 1 0 a.length),(7,.bs (.loc 15) 2 1 0 (b.length+1))],[(.loc 11,⟨1,.own,1,Za Q⟩),(.loc 15,⟨2,.own,1,Za L⟩)],4⟩:St)) /\
   Q.length=a.length/\L.length=b.length+1/\val Q=val a/val b/\val L=val a%val b)/\Zl T 0 0 (.norm false [6,7]) l63_0 (Zjc a b y)=some r:=by
 refine zaq _ _ (fun y=>y.1) _ ?_
 rintro⟨k,Q,L⟩ ⟨hk,hQ,hL,hq,hr⟩
 simp only at hk hQ hL hq hr;cases k with
 | zero=>
  right;rw[Ydm,Yey]at hq hr;refine⟨_,⟨Q,L,rfl,hQ,hL,hq,hr⟩,?_,?_⟩<;>simp -implicitDefEqProofs[l63_0,Zjc]
 | succ j=>
  left;have h1:j/32<a.length:=by omega
  have hag:a[j/32]? = some (a[j/32]'h1):=Ya h1;have hbit:=zy4 hag;have hw:IntKind.wrap .i64 ((j:Int)-1)=(j:Int)-1:=zab _ (by omega);have hsh:Z7 .shl (u32 1) (.i .i64 ((j:Int)%32))=some (u32 (2^(j%32))):=z1f (j%32) (Ya0 _ (by decide));have hm:((j:Int).tmod 32)=((j%32:Nat):Int):=rfl;have hj0:IntKind.wrap .i64 ((j:Int)/32)=(j:Int)/32:=zab (j/32) (by omega);have hj1:((j:Int)/32).toNat=j/32:=by omega
  have hj2:(0:Int)<=(j:Int)/32:=by omega
  have hj3:(j:Int)/32<(a.length:Int):=by omega
  have hxl:=zak (a[j/32]'h1);obtain⟨cL,L2,hL2,hcL,hvL,hrL⟩:=zg7 (T:=T) L (decide ((a[j/32]'h1).toNat/2^(j%32)%2=1)) (by omega);obtain⟨cQ,Q2,hQ2,hcQ,hvQ,hrQ⟩:=zg7 (T:=T) Q false (by omega);have hcmp:=zer (T:=T) L2 b (by omega) (by omega);have hpq:(2^(j%32))≠0:=Nat.ne_of_gt (Yba (by decide));rw[hL]at hrL;rw[hQ]at hrQ;rw[hL]at hL2;rw[hQ]at hQ2;have htL:List.take (b.length+1) L2=L2:=Yb (by omega);have hres:∃Q3 L3:List UInt32,Q3.length=a.length/\L3.length=b.length+1/\val Q3=val a/2^j/val b/\val L3=val a/2^j%val b /\
    (evX (orc T) T 0 l63_0 (Zjc a b (j+1,Q,L))=some (Ex.n,Zjc a b (j,Q3,L3))):=by
   have hvb:=zau b;have hva:=zau a;have hLb:val L<val b:=by rw[hr];exact Ya0 _ h0b
   have hv2:val a/2^(j+1)=val a/2^j/2:=by rw[Y7,Ybc]
   rw[hv2]at hq hr;have hlaw:=zaa3 h0b hq hr;have hva2:val a/2^j<=val a:=Ybg _ _;have hq2:2*val Q<=val a/2^j:=by
    have h2:val a/2^j/2/val b<=val a/2^j/2:=Ybg _ _;omega
   have hL0:val L2=2*val L+val a/2^j%2:=by
    have hb2:(if decide ((a[j/32]'h1).toNat/2^(j%32)%2=1)=true then 1 else 0)=val a/2^j%2:=by
     rw[hbit];simp only[decide_eq_true_eq];split<;>omega
    rw[hb2,hL,Y7]at hvL;have ht:val a/2^j%2<2:=Ya0 _ (by decide);generalize val a/2^j%2=t at *
    generalize 4294967296^b.length=p at *
    rcases Yar cL with h | h
    ·rw[h,Yam,Y6]at hvL;exact hvL
    ·have:=Yat (p*4294967296) h;generalize p*4294967296*cL=u at *
     omega
   have hQ0:val Q2=2*val Q:=by
    rw[hQ]at hvQ;simp at hvQ;generalize 4294967296^a.length=p at *
    rcases Yar cQ with h | h
    ·rw[h,Yam,Y6]at hvQ;exact hvQ
    ·have:=Yat p h;generalize p*cQ=u at *
     omega
   rw[<-hL0]at hlaw;by_cases hle:val b<=val L2
   ·have hc:(0:Int)<=Zck (val L2) (val b):=by
     unfold Zck;split
     ·omega
     ·split<;>omega
    obtain⟨L3,hL3,hvL3,hrL3⟩:=zt8 (T:=T) L2 b (by omega) (by omega) hle;rw[hL2]at hrL3 hL3;have h0Q:0<Q2.length:=by omega
    have hQg:Q2[0]? = some (Q2[0]'h0Q):=Ya h0Q;have hev:(Q2[0]'h0Q).toNat+1<4294967296:=by
     have:=zak (Q2[0]'h0Q);have hc:val Q2=(Q2[0]'h0Q).toNat+4294967296*val (Q2.drop 1):=by
      conv=>lhs;rw[<-Yaj (l:=Q2),Yi h0Q,zaj]
     omega
    have h0a:0<a.length:=by omega
    have hQg':=hQg;have hev':=hev;generalize hqq:(Q2[0]'h0Q).toNat=qq at hev';refine⟨Q2.set 0 (w32 ((Q2[0]'h0Q).toNat+1)),L3,by simp[hQ2],hL3,by rw[z5g hQg hev,hQ0,(hlaw.1 hle).1],by rw[hvL3,(hlaw.1 hle).2],?_⟩;simp -implicitDefEqProofs[l63_0,Zjc,hw,hsh,hm,hj0,hj1,hj2,hj3,h1,hrL,hrQ,hL2,htL,hcmp,hc,hrL3,hQ2,h0a]
   ·have hc:¬ (0:Int)<=Zck (val L2) (val b):=by unfold Zck;rw[if_pos (by omega)];decide
    have hlt:val L2<val b:=by omega
    refine⟨Q2,L2,hQ2,hL2,by rw[hQ0,(hlaw.2 hlt).1],by rw[(hlaw.2 hlt).2],?_⟩;simp -implicitDefEqProofs[l63_0,Zjc,hw,hsh,hm,hj0,hj1,hj2,hj3,h1,hrL,hrQ,hL2,htL,hcmp,hc]
  obtain⟨Q3,L3,e1,e2,e3,e4,e5⟩:=hres;exact⟨(j,Q3,L3),⟨by simp only;omega,e1,e2,e3,e4⟩,Y0 j,e5⟩
def zyi(a b:List UInt32)(ha:a.length<=100000)(hb:b.length<=100000)(h0b:0<val b) :
  Zb T 63 [.sl (Za a) .an,.sl (Za b) .an]=some (.tup [.sl (Za (ofN (val a/val b))) .an,.sl (Za (ofN (val a%val b))) .an]):=by
 obtain⟨n,hn,hvn,hln⟩:=zyh (T:=T) a (by omega);have hd0:val a/2^n=0:=Ybi hvn;obtain⟨_,⟨Q,L,rfl,hQ,hL,hq,hr⟩,hlp⟩:=z5h (T:=T) a b ha hb h0b (n,List.replicate a.length 0,List.replicate (b.length+1) 0)
  ⟨hn,by simp,by simp,by simp[zaw,hd0],by simp only[hd0,Nat.zero_mod];exact zaw _⟩
 have hw:IntKind.wrap .i64 ((n:Int)-1)=(n:Int)-1:=zab _ (by omega);have hw2:IntKind.wrap .i64 ((b.length:Int)+1)=((b.length+1:Nat):Int):=zab _ (by omega);have h1:(a.length:Int)<=4294967296:=by omega
 have h2:(b.length:Int)+1<=4294967296:=by omega
 have hn1:=zbu (T:=T) Q (by omega);have hn2:=zbu (T:=T) L (by omega);have t1:List.take a.length Q=Q:=Yb (by omega);have t2:List.take (b.length+1) L=L:=Yb (by omega);unfold Zjc at hlp;simp at hlp;rw[zaa Zaa.h63 rfl,b63];simp -implicitDefEqProofs[hln,hw,hw2,h1,h2,hlp,hQ,hL,t1,t2,hn1,hn2,hq,hr]
end
section
def l2043_0:AX:=QZ "n69oUhPR1IdQXK7462Ib0g.yNPnni19EGZyB57xWyWIa5XcKzQ"
def b2043:AX:=(fun p0=>QY [p0] [] "K8GK4sv4Zen6cV8lxmbTvHi7KLZznGJnRKhherFI") l2043_0
def l105_0:AX:=QY [] [(u64 4294967296)] "08wqp3l9Tfb5HNT84qKmzrsYp4xRbnfPPnoHuV5OUS2ukSaV9bStTQja.F_CVyunxpZKD4KG9hHhwSQR"
def b105:AX:=(fun p0=>QY [p0] [] "3NIh7BFkRY7lbZlrVtRadeEDFhcAmm16nkg") l105_0
def l69_0:AX:=QY [] [(AV.s [48,49,50,51,52,53,54,55,56,57])] "1NBIIqgxGWHlrcqXj0Jlud9cyfzB9FCKnqRDe0ieJ0ycw5LvkL5KinWYTlQHlm3tJa7WRKxQS"
def b69:AX:=(fun p0=>QY [p0] [] "K119f45SOXipI_R4JGSwLypSICdudqiVPBq") l69_0
abbrev row2043:AFx:=⟨1,23,[.t 2],b2043,(some [false]),false⟩
abbrev row105:AFx:=⟨1,29,[.t 2],b105,(some [true]),false⟩
abbrev row69:AFx:=⟨1,26,[.t 2],b69,none,false⟩
class Zao (T:Tbl):Prop extends Zaa T where
 h2043:Tr T 2043=some row2043
 h105:Tr T 105=some row105
 h69:Tr T 69=some row69
attribute [simp] Zao.h2043 Zao.h105 Zao.h69
end
def z1i{left w:Nat}(h:left<10)(hw:w<4294967296):(left*4294967296+w)/10<4294967296/\(left*4294967296+w)%10<10:=by omega
section
variable{T:Tbl}[Zao T]
def zcq(a:List UInt32)(hl:a.length<=1000000):Zb6 T 2043 [.sl (Za a) .an] [] =
  some (.bs (.loc 22) 1 1 0 (ofN (val a)).length,[(.loc 22,⟨1,.own,1,Za (ofN (val a))⟩)]):=by
 obtain⟨n,h1,h2,h3,h4⟩:=zgg a;have hr:=zeq (T:=T) a (by omega) h1 h3 h4 a.length ⟨h1,Yd _⟩;rw[show l43_0=l2043_0 from rfl]at hr;have hlen:(ofN (val a)).length=n:=by rw[<-h2];simp;omega
 have hb:n<=4294967296:=by omega
 rw[zbj Zao.h2043 rfl,b2043];simp -implicitDefEqProofs[hr,h1,h2,hb,hlen]
def Zjx(N:Nat)(y:Nat×Nat×List UInt32)(P:List UInt32):St:=
 ⟨[(0,.bs (.bor 0) 0 1 0 N),(3,u64 y.2.1),(4,.i .i64 ((y.1:Int)-1))],[(.bor 0,⟨0,.own,1,Za (P.take y.1++y.2.2)⟩)],4⟩
end
section
variable{T:Tbl}
def z1j(a:List UInt32)(hl:a.length<=1000000):∀y:Nat×Nat×List UInt32,
  (y.1<=a.length/\y.2.1<10/\y.2.2.length=a.length-y.1/\val (a.drop y.1)=10*val y.2.2+y.2.1) ->
  ∃r,(∃(c:Nat) (m:List UInt32),r=(Ex.n,(⟨[(3,u64 c)],[(.bor 0,⟨0,.own,1,Za m⟩)],4⟩:St))/\c<10/\m.length=a.length/\val a=10*val m+c) /\
   Zl T 1 0 (.norm false [3]) l105_0 (Zjx a.length y a)=some r:=by
 refine zaq _ _ (fun y=>y.1) _ ?_
 rintro⟨k,c,m⟩ ⟨hk,hc,hm,hv⟩
 simp only at hk hc hm hv;cases k with
 | zero=>
  right;rw[Yaj]at hv;refine⟨_,⟨c,m,rfl,hc,by omega,hv⟩,?_,?_⟩<;>simp -implicitDefEqProofs[l105_0,Zjx]
 | succ j=>
  left;have hja:j<a.length:=by omega
  have hy:=zak (a[j]'hja);have hd:=Yi hja;have hw:IntKind.wrap .i64 ((j:Int)-1)=(j:Int)-1:=zab _ (by omega);have ht:a.take (j+1)=a.take j++[a[j]'hja]:=Y2 hja;have hg:(a.take (j+1)++m)[j]? = some (a[j]'hja):=by
   rw[ht,Yay,Yg (by simp;omega)];simp[Ycn (Yci hja)]
  have hset:∀w,(a.take (j+1)++m).set j w=a.take j++w::m:=by
   intro w;rw[ht,Yay,Yad _ _ (by simp;omega)];simp[Ycn (Yci hja)]
  have hlen:(a.take (j+1)++m).length=a.length:=by simp;omega
  obtain⟨s1,s2⟩:=z1i hc hy;refine⟨(j,(c*4294967296+(a[j]'hja).toNat)%10,w32 ((c*4294967296+(a[j]'hja).toNat)/10)::m),⟨by simp only;omega,s2,by simp[hm];omega,?_⟩,Y0 j,?_⟩
  ·simp only;rw[hd,zaj,hv,zaj,zaf s1];generalize (a[j]'hja).toNat=w at *
   omega
  ·have m1:c*4294967296%18446744073709551616=c*4294967296:=Yf (by omega);have m2:(a[j]'hja).toNat%18446744073709551616=(a[j]'hja).toNat:=Yf (by omega);have m3:(c*4294967296+(a[j]'hja).toNat)%18446744073709551616=c*4294967296+(a[j]'hja).toNat:=Yf (by omega);have m4:(c*4294967296+(a[j]'hja).toNat)/10%18446744073709551616=(c*4294967296+(a[j]'hja).toNat)/10:=Yf (by omega);have m5:(c*4294967296+(a[j]'hja).toNat)/10%4294967296=(c*4294967296+(a[j]'hja).toNat)/10:=Yf (by omega);simp -implicitDefEqProofs[l105_0,Zjx,hja,hw,hg,hset,m1,m2,m3,m4,m5,zbd _ _ _ s1]
end
section
variable{T:Tbl}[Zao T]
def zyk(a:List UInt32)(hl:a.length<=1000000):∃m:List UInt32,m.length=a.length/\val m=val a/10 /\
  Zb6 T 105 [.bs (.bor 0) 0 1 0 a.length] [(.bor 0,⟨0,.own,1,Za a⟩)]=some (u64 (val a%10),[(.bor 0,⟨0,.own,1,Za m⟩)]):=by
 obtain⟨_,⟨c,m,rfl,hc,hm,hv⟩,hr⟩:=z1j (T:=T) a hl (a.length,0,[]) ⟨Yd _,(by decide:0<10),by simp,by simp⟩;have e1:val a%10=c:=by omega
 have hw:IntKind.wrap .i64 ((a.length:Int)-1)=(a.length:Int)-1:=zab _ (by omega);refine⟨m,hm,by omega,?_⟩;unfold Zjx at hr;simp at hr;rw[e1,zbj Zao.h105 rfl,b105];simp -implicitDefEqProofs[hw,hr]
def Ziw(b:BId)(x:List UInt32)(s:List UInt8):St:=⟨[(3,.bs b 1 1 0 x.length),(4,.s s)],[(b,⟨1,.own,1,Za x⟩)],3⟩
def z5m(K:Nat)(hK:1<=K/\K<=100000)(res:List UInt8):∀y:BId×Nat×List UInt8,((y.1=.fld (.loc 7) 22\/y.1=.fld (.loc 24) 22)/\(ofN y.2.1).length<=1000/\y.2.2.length<=K/\y.2.1<10^(K-y.2.2.length)/\txN y.2.1 y.2.2=res) ->
  Zl T 0 0 (.norm false [4]) l69_0 (Ziw y.1 (ofN y.2.1) y.2.2)=some (.n,⟨[(4,.s res)],[],2⟩):=by
 refine zat (fun y:BId×Nat×List UInt8=>Ziw y.1 (ofN y.2.1) y.2.2) _ (fun y=>y.2.1+if y.2.2=[] then 1 else 0) _ ?_
 rintro⟨b,n,s⟩ ⟨hb,hl,hs,hn,hres⟩
 simp only at hb hl hs hn hres;by_cases h0:n=0/\s≠[]
 ·right;obtain⟨rfl,hs0⟩:=h0;have hr:res=s:=by rw[<-hres];unfold txN;rw[if_pos ⟨rfl,hs0⟩]
  subst hr;constructor<;>simp -implicitDefEqProofs[l69_0,Ziw,hs0]
 ·left;have hor:n=0->s=[]:=fun h=>Classical.byContradiction fun h2=>h0 ⟨h,h2⟩;obtain⟨m,hm,hvm,hten⟩:=zyk (T:=T) (ofN n) (by omega);rw[zad]at hvm hten;have hno:=zcq (T:=T) m (by omega);rw[hvm]at hno;have hd10:n%10<10:=Ya0 _ (by decide);have hdig:=z1u (n%10) hd10;have hstep:=z1t n s ((Yar n).elim (fun h=>.inr (hor h)) (fun h=>.inl (by omega)));have hol:(ofN (n/10)).length<=(ofN n).length:=zap (Ybg _ _);have hk1:s.length<K:=by
   rcases Yy s.length K with h | h
   ·exact h
   ·rw[show K-s.length=0 by omega,Ydm]at hn;rw[hor (by omega)]at h;simp at h;omega
  have hk2:n/10<10^(K-(s.length+1)):=by
   refine Ya9 ?_;rw[Yah,<-Y7,show (K-(s.length+1)).succ=K-s.length by omega];exact hn
  have hgo:¬ 0<(ofN n).length->s=[]:=by
   intro h;exact hor (zan.1 (Yak (by omega)))
  obtain⟨d,hd⟩:∃d,d=n%10:=⟨_,rfl⟩;obtain⟨q,hq⟩:∃q,q=n/10:=⟨_,rfl⟩;rw[<-hd]at hten hd10 hdig hstep;rw[<-hq]at hno hstep hol hk2;refine⟨(.fld (.loc 24) 22,q,UInt8.ofNat (48+d)::s),⟨.inr rfl,by simp only;omega,by simp only[Ye];omega,hk2,hstep.trans hres⟩,?_,?_,rfl⟩
  ·simp only[reduceCtorEq,if_false];rcases Yar n with h1 | h1
   ·rw[if_pos (hor h1)];omega
   ·split<;>omega
  ·have m1:(d+1)%18446744073709551616=d+1:=Yf (by omega);have m2:(d:Int)+1<=10:=by omega
   have m3:1+s.length<=9223372036854775807:=by omega
   have m4:List.take (ofN n).length m=m:=Yb (by omega);simp at hdig;clear hd hq hn hk2 hvm;rcases hb with rfl | rfl<;>by_cases hl0:0<(ofN n).length
   ·simp -implicitDefEqProofs[l69_0,Ziw,hten,hno,hdig,m1,m2,m3,m4,hm,hl0]
   ·have:=hgo hl0;subst this;simp -implicitDefEqProofs[l69_0,Ziw,hten,hno,hdig,m1,m2,m4,hm,hl0]
   ·simp -implicitDefEqProofs[l69_0,Ziw,hten,hno,hdig,m1,m2,m3,m4,hm,hl0]
   ·have:=hgo hl0;subst this;simp -implicitDefEqProofs[l69_0,Ziw,hten,hno,hdig,m1,m2,m4,hm,hl0]
def zks(a:List UInt32)(hl:a.length<=1000):Zb T 69 [.sl (Za a) .an]=some (.s (Zu (val a))):=by
 have hno:=zcq (T:=T) a (by omega);have hla:=zac a;obtain⟨K,hK⟩:∃K,K=10000:=⟨_,rfl⟩;have hv:val a<10^(K-0):=by
  have h1:=zau a;have h2:4294967296^a.length<=(10^10)^a.length:=Yda (by decide) _;rw[<-Yc9]at h2;have h3:10^(10*a.length)<=10^(K-0):=Yp (by decide) (by omega);exact Yq h1 (Yc h2 h3)
 have h:=z5m (T:=T) K ⟨by omega,by omega⟩ (Zu (val a)) (.fld (.loc 7) 22,val a,[]) ⟨.inl rfl,by simp only;omega,Yu _,hv,by unfold txN;simp⟩;unfold Ziw at h;simp at h;rw[zaa Zao.h69 rfl,b69];simp -implicitDefEqProofs[hno,h]
end
section
variable{T:Tbl}
def zt9(m:Nat)(hm:m%2=1)(K:Nat)(hK:2^K*m<4294967296)(hK2:K<=32):∀v:Nat,v<=K ->
  Zl T 0 0 (.norm false [3]) l224_0 ⟨[(0,u32 (2^v*m)),(3,.i .i64 (K-v:Nat))],[],2⟩=some (.n,⟨[(3,.i .i64 K)],[],2⟩):=by
 refine zat (fun v:Nat=>⟨[(0,u32 (2^v*m)),(3,.i .i64 (K-v:Nat))],[],2⟩) _ (fun v=>v) _ ?_;intro v hv;cases v with
 | zero=>
  right;constructor<;>simp -implicitDefEqProofs[l224_0,hm]
 | succ v=>
  left;have hle:2^(v+1)*m<=2^K*m:=Y4 _ (Yp (by decide) hv);have e:2^(v+1)*m=2^v*m*2:=by grind
  have hw:IntKind.wrap .i64 (((K-(v+1):Nat):Int)+1)=((K-v:Nat):Int):=by rw[zab _ (by omega)];omega
  refine⟨v,by omega,Y0 v,?_,rfl⟩;rw[e]at hle ⊢;generalize 2^v*m=x at *
  have e1:x*2%2=0:=by omega
  have e3:x<4294967296:=by omega
  simp -implicitDefEqProofs[l224_0,e1,e3,hw]
end
section
variable{T:Tbl}[Z5 T]
def zp8(m K:Nat)(hm:m%2=1)(hK:2^K*m<4294967296):Zb T 224 [u32 (2^K*m)]=some (.i .i64 K):=by
 have hK2:K<=32:=by
  rcases Yy 32 K with h | h
  ·have h1:2^32<=2^K:=Yp (by decide) (by omega);have h2:2^K<=2^K*m:=Ycp _ (by omega);omega
  omega
 have h:=zt9 (T:=T) m hm K hK hK2 K (Yd _);rw[Ybf]at h;simp only[Yt]at h;have h0:2^K*m≠0:=Ydy (by grind) (by omega);rw[f224 _ rfl,b224];simp -implicitDefEqProofs[h,h0]
end
theorem zp9{P m a S:List UInt32}{i:Nat}(hm:m.length=i)(hi:i<a.length):(P++(m++(a.drop i++S)))[P.length+i]? = some (a[i]'hi):=by
 grind
theorem zqa{P m a S:List UInt32}{i:Nat}(hm:m.length=i)(hi:i<a.length)(w:UInt32):(P++(m++(a.drop i++S))).set (P.length+i) w=P++((m++[w])++(a.drop (i+1)++S)):=by
 rw[Yad _ _ (by omega),Ybw,Yad _ _ (by omega),hm,Ybf,Yi hi,Ycd,Ybx];simp
section
variable{T:Tbl}
def Zhr(Q:List UInt32)(o n s i:Nat):St:=⟨[(0,.bs (.bor 0) 0 1 o n),(1,.i .i64 s),(5,.i .i64 i)],[(.bor 0,⟨0,.own,1,Za Q⟩)],4⟩
theorem z1g(Q:List UInt32)(o n s i:Nat)(x y:UInt32)(hi:i+1<n)(hn:n<=1000000)(hs:s<32)(hx:Q[o+i]? = some x)(hy:Q[o+(i+1)]? = some y) :
  evX (orc T) T 1 l225_0 (Zhr Q o n s i)=some (.n,Zhr (Q.set (o+i) (w32 ((x.toNat+y.toNat*4294967296)/2^s%4294967296))) o n s (i+1)):=by
 have h1:(i:Int)<n:=by omega
 have h2:(i:Int)+1<n:=by omega
 have hw:IntKind.wrap .i64 ((i:Int)+1)=((i+1:Nat):Int):=zab _ (by omega);have lx:=zak x;have ly:=zak y;have m2:y.toNat*4294967296%18446744073709551616=y.toNat*4294967296:=Yf (by omega);have m3:(y.toNat*4294967296+x.toNat)%18446744073709551616=x.toNat+y.toNat*4294967296:=by grind
 have hmin:min s 64=s:=by omega
 obtain⟨b1,hgx⟩:=Ys.1 hx;unfold Zhr;simp -implicitDefEqProofs[l225_0,h1,h2,hw,hy,m2,m3,hmin,b1,hgx,zfb]
theorem z1h(Q:List UInt32)(o n s i:Nat)(x:UInt32)(hi:i+1=n)(hn:n<=1000000)(hs:s<32)(hx:Q[o+i]? = some x) :
  evX (orc T) T 1 l225_0 (Zhr Q o n s i)=some (.n,Zhr (Q.set (o+i) (w32 (x.toNat/2^s%4294967296))) o n s (i+1)):=by
 have h1:(i:Int)<n:=by omega
 have h2:¬ (i:Int)+1<n:=by omega
 have hw:IntKind.wrap .i64 ((i:Int)+1)=((i+1:Nat):Int):=zab _ (by omega);have hmin:min s 64=s:=by omega
 obtain⟨b1,hgx⟩:=Ys.1 hx;unfold Zhr;simp -implicitDefEqProofs[l225_0,h1,h2,hw,hmin,b1,hgx,zfb]
def z5i(P a S:List UInt32)(s:Nat)(hs:s<32)(hl:a.length<=1000000):∀y:Nat×List UInt32,
  (y.1<=a.length/\y.2.length=y.1/\val y.2+4294967296^y.1*(val (a.drop y.1)/2^s)=val a/2^s) ->
  ∃r,(∃m:List UInt32,r=(Ex.n,(⟨[(0,.bs (.bor 0) 0 1 P.length a.length)],[(.bor 0,⟨0,.own,1,Za (P++(m++S))⟩)],4⟩:St))/\m.length=a.length/\val m=val a/2^s) /\
   Zl T 1 0 (.norm false [0]) l225_0 (Zhr (P++(y.2++(a.drop y.1++S))) P.length a.length s y.1)=some r:=by
 refine zaq (fun y:Nat×List UInt32=>Zhr (P++(y.2++(a.drop y.1++S))) P.length a.length s y.1) _ (fun y=>a.length-y.1) _ ?_
 rintro⟨i,m⟩ ⟨hi,hm,hv⟩
 by_cases h0:i<a.length
 ·left;have hx:=zak (a[i]'h0);have hd:=Yi h0;have fin:∀y R:Nat,val (a.drop (i+1))=y+4294967296*R->val (m++[w32 (((a[i]'h0).toNat+y*4294967296)/2^s%4294967296)])+4294967296^(i+1)*(val (a.drop (i+1))/2^s)=val a/2^s:=by
   intro y R hR;have hdw:=zoo (x:=(a[i]'h0).toNat) (y:=y) (R:=R) hs hx
   grind[zaj,zag,za2,zaf]
  by_cases h1:i+1<a.length
  ·have hd1:=Yi h1;refine⟨(i+1,m++[w32 (((a[i]'h0).toNat+(a[i+1]'h1).toNat*4294967296)/2^s%4294967296)]),⟨h0,by grind,fin _ (val (a.drop (i+1+1))) (by rw[hd1,zaj])⟩,by omega,?_⟩
   grind[z1g,zp9,zqa]
  ·have f0:=fin 0 0 (by rw[Ya1 (by omega),za2,Yam]);rw[Ydb,Y6]at f0;refine⟨(i+1,m++[w32 ((a[i]'h0).toNat/2^s%4294967296)]),⟨h0,by grind,f0⟩,by omega,?_⟩
   grind[z1h,zp9,zqa]
 ·right;have:i=a.length:=by omega
  subst this;rw[Y8,za2,Nat.zero_div,Yam,Y6]at hv;refine⟨_,⟨m,rfl,hm,hv⟩,?_,?_⟩<;>simp -implicitDefEqProofs[l225_0,Zhr]
def zua(P a S:List UInt32)(hl:a.length<=1000000){n:Nat}(hn:n<=a.length)(h0:∀(i:Nat) (x:UInt32),n<=i->a[i]? = some x->x.toNat=0)(h1:∀x:UInt32,0<n->a[n-1]? = some x->x.toNat≠0) :
  ∀k:Nat,(n<=k/\k<=a.length)->Zl T 1 2 (.norm false [0]) l225_1 ⟨[(0,.bs (.bor 0) 0 1 P.length k)],[(.bor 0,⟨0,.own,1,Za (P++(a++S))⟩)],4⟩ =
   some (.n,⟨[(0,.bs (.bor 0) 0 1 P.length n)],[(.bor 0,⟨0,.own,1,Za (P++(a++S))⟩)],4⟩):=by
 refine zat (fun k:Nat=>⟨[(0,.bs (.bor 0) 0 1 P.length k)],[(.bor 0,⟨0,.own,1,Za (P++(a++S))⟩)],4⟩) _ (fun k=>k) _ ?_
 rintro k ⟨hk,hka⟩
 have hget:∀j,j<a.length->(P++(a++S))[P.length+j]? = a[j]? := by
  grind
 by_cases h2:k=0
 ·right;have:n=0:=by omega
  subst this;subst h2;constructor<;>simp -implicitDefEqProofs[l225_1]
 ·have hw:IntKind.wrap .i64 ((k:Int)-1)=((k-1:Nat):Int):=by rw[zab _ (by omega)];omega
  have hg:a[k-1]? = some (a[k-1]'(by omega)):=Ya _;have hq:=hget (k-1) (by omega);rw[hg]at hq;have hpos:0<k:=by omega
  have hlt:k-1<k:=by omega
  by_cases h3:k=n
  ·right;subst h3;have hx:=h1 _ hpos hg;constructor<;>simp -implicitDefEqProofs[l225_1,hpos,hw,hq,hx,hlt]
  ·left;have hx:=h0 (k-1) _ (by omega) hg;refine⟨k-1,⟨by omega,by omega⟩,hlt,?_,rfl⟩;simp -implicitDefEqProofs[l225_1,hpos,hw,hq,hx,hlt]
end
section
variable{T:Tbl}[Z5 T]
def zub(P a S:List UInt32)(s:Nat)(hs:s<32)(hl:a.length<=1000000) :
  ∃S',S'.length+(ofN (val a/2^s)).length=a.length+S.length /\
   Zb6 T 225 [.bs (.bor 0) 0 1 P.length a.length,.i .i64 s] [(.bor 0,⟨0,.own,1,Za (P++(a++S))⟩)] =
    some (.bs (.bor 0) 0 1 P.length (ofN (val a/2^s)).length,[(.bor 0,⟨0,.own,1,Za (P++(ofN (val a/2^s)++S'))⟩)]):=by
 obtain⟨_,⟨m,rfl,hm,hv⟩,hr⟩:=z5i (T:=T) P a S s hs hl (0,[]) ⟨Yu _,rfl,by simp⟩;obtain⟨n,h1,h2,h3,h4⟩:=zgg m;have ht:=zua (T:=T) P m S (by omega) h1 h3 h4 m.length ⟨h1,Yd _⟩;have hlen:(ofN (val a/2^s)).length=n:=by grind
 have e:P++(m++S)=P++(ofN (val a/2^s)++(m.drop n++S)):=by grind[List.take_append_drop]
 refine⟨m.drop n++S,by grind,?_⟩;rw[hlen,<-e];rw[hm]at ht;unfold Zhr at hr;simp only[Ya5,Yaj,Yt]at hr;rw[f225 _ _ rfl,b225];simp -implicitDefEqProofs[hr,ht]
def zuc(Q:List UInt32)(o n j0:Nat)(hn:n<=1000000)(hj:j0<n)(hz:∀j,j<j0->∃x:UInt32,Q[o+j]? = some x/\x.toNat=0)(h1:∃x:UInt32,Q[o+j0]? = some x/\x.toNat≠0) :
  ∀j:Nat,j<=j0->Zl T 1 0 (.norm false [0,4]) l226_0 ⟨[(0,.bs (.bor 0) 0 1 (o+j) (n-j)),(4,.i .i64 (32*j:Nat))],[(.bor 0,⟨0,.own,1,Za Q⟩)],4⟩ =
   some (.n,⟨[(0,.bs (.bor 0) 0 1 (o+j0) (n-j0)),(4,.i .i64 (32*j0:Nat))],[(.bor 0,⟨0,.own,1,Za Q⟩)],4⟩):=by
 refine zat (fun j:Nat=>⟨[(0,.bs (.bor 0) 0 1 (o+j) (n-j)),(4,.i .i64 (32*j:Nat))],[(.bor 0,⟨0,.own,1,Za Q⟩)],4⟩) _ (fun j=>j0-j) _ ?_;intro j hj2;have hpos:0<n-j:=by omega
 by_cases h:j=j0
 ·right;subst h;obtain⟨x,hx,hx0⟩:=h1;constructor<;>simp -implicitDefEqProofs[l226_0,hpos,hx,hx0]
 ·left;obtain⟨x,hx,hx0⟩:=hz j (by omega);have hw:IntKind.wrap .i64 (((32*j:Nat):Int)+32)=((32*(j+1):Nat):Int):=by rw[zab _ (by omega)];omega
  have e1:1<n-j:=by omega
  have e2:n-j-1=n-(j+1):=by omega
  have e3:(1:Int)<=((n-j:Nat):Int):=by omega
  refine⟨j+1,by omega,by omega,?_,rfl⟩;generalize 32*j=c at *
  rw[<-Yav,<-e2];generalize n-j=k at *
  simp -implicitDefEqProofs[l226_0,hpos,hx,hx0,hw,e1,e3]
theorem zog:∀(a:List UInt32),val a≠0->∃j,∃h:j<a.length,(∀i (hi:i<j),(a[i]'(by omega)).toNat=0)/\(a[j]'h).toNat≠0/\val a=4294967296^j*val (a.drop j)
 | [],h=>by simp at h
 | x::a,h=>by
  by_cases hx:x.toNat=0
  ·have h2:val a≠0:=by
    intro e;apply h;rw[zaj,hx,e]
   obtain⟨j,hj,h3,h4,h5⟩:=zog a h2;refine⟨j+1,by simpa using hj,?_,by simpa using h4,?_⟩
   ·intro i hi;cases i with
    | zero=>simpa using hx
    | succ i=>simpa using h3 i (by omega)
   ·rw[zaj,hx,h5,List.drop_succ_cons,Y7,Yaw,Yah (4294967296^j) 4294967296,Yag]
  ·exact⟨0,by simp,fun i hi=>by omega,by simpa using hx,by simp⟩
def zge(P a S:List UInt32)(hl:a.length<=100000)(h:val a≠0):∃(P' S':List UInt32) (m k:Nat),val a=2^k*m/\m%2=1/\k<=32*a.length/\(ofN m).length<=a.length/\P'.length+(ofN m).length+S'.length=P.length+a.length+S.length /\
  Zb6 T 226 [.bs (.bor 0) 0 1 P.length a.length] [(.bor 0,⟨0,.own,1,Za (P++(a++S))⟩)] =
   some (.tup [.bs (.bor 0) 0 1 P'.length (ofN m).length,.i .i64 k],[(.bor 0,⟨0,.own,1,Za (P'++(ofN m++S'))⟩)]):=by
 obtain⟨j,hj,hz,hne,hv⟩:=zog a h;obtain⟨s,c,hsc,hc⟩:=z1y hne;have hx:=zak (a[j]'hj);have hs:s<32:=by
  rcases Yy s 32 with h1 | h1
  ·omega
  ·have h2:2^32<=2^s:=Yp (by decide) h1;have h3:2^s<=2^s*c:=Ycp _ (by omega);omega
 have hd:=Yi hj
 -- the rest is odd
 have hm:∃m,val (a.drop j)=2^s*m/\m%2=1:=by
  refine⟨c+2^(32-s)*val (a.drop (j+1)),?_,?_⟩
  ·rw[hd,zaj,hsc,Yan,<-Yag,<-Ybb,show s+(32-s)=32 by omega]
  ·have:2^(32-s)=2*2^(31-s):=by rw[<-Nat.pow_succ'];grind
   rw[this,Yag];omega
 obtain⟨m,hm1,hm2⟩:=hm;have hdiv:val (a.drop j)/2^s=m:=by grind[Nat.mul_div_cancel_left]
 have hlen:(a.drop j).length=a.length-j:=by simp
 obtain⟨S',hS',hdown⟩:=zub (T:=T) (P++a.take j) (a.drop j) S s hs (by omega);rw[hdiv]at hS' hdown;have hPl:(P++a.take j).length=P.length+j:=by grind
 have hbox:(P++a.take j)++(a.drop j++S)=P++(a++S):=by
  grind[List.take_append_drop]
 rw[hPl,hlen,hbox]at hdown;have hml:(ofN m).length<=a.length:=by
  have h1:m<=val (a.drop j):=by rw[hm1];exact Ydj _ (Yba (by decide))
  have h2:=zap h1;have h3:=zac (a.drop j);omega
 refine⟨P++a.take j,S',m,32*j+s,?_,hm2,by omega,hml,by omega,?_⟩
 ·rw[hv,hm1,zom,Ybb,Yag]
 ·have hst:=zuc (T:=T) (P++(a++S)) P.length a.length j (by omega) hj (fun i hi=>⟨_,by grind,hz i hi⟩) ⟨_,by grind,hne⟩ 0 (Yu _);have hzr:=zp8 (T:=T) c s hc (by omega);rw[<-hsc]at hzr;have hg:(P++(a++S))[P.length+j]? = some (a[j]'hj):=by grind
  have hpos:0<a.length-j:=by omega
  have hw:IntKind.wrap .i64 (((32*j:Nat):Int)+s)=((32*j+s:Nat):Int):=by rw[zab _ (by omega)];omega
  simp only[Yam,Y6,Ydc,Yt]at hst;rw[hPl,f226 _ _ rfl,b226];generalize 32*j=c1 at *
  simp -implicitDefEqProofs[hst,hzr,hg,hpos,hw,hdown]
end
def z2r{P m a S b:List UInt32}{i c s d:Nat}(hm:m.length=i)(h0:i<a.length)(hv:val m+val (b.take i)=val (a.take i)+4294967296^i*c)(hs:s<4294967296)(h:s+(atW b i+c)=(a[i]'h0).toNat+4294967296*d) :
  val (m++[w32 s])+val (b.take (i+1))=val (a.take (i+1))+4294967296^(i+1)*d:=by
 grind[zbb,zag,zaj,zaf,atW]
section
variable{T:Tbl}[Z9 T][Zau T][Zaa T][Zao T][Z5 T]
def Zjd(Q R:List UInt32)(o n o2 n2 c i:Nat):St:=⟨[(0,.bs (.bor 0) 0 1 o n),(1,.bs (.bor 1) 1 1 o2 n2),(4,u64 c),(5,.i .i64 i)],[(.bor 0,⟨0,.own,1,Za Q⟩),(.bor 1,⟨1,.own,1,Za R⟩)],6⟩
def z5j(Q R b:List UInt32)(o n o2 n2 c i:Nat)(x:UInt32)(hi:i<n)(hn:n<=1000000)(hb:b.length<=1000000)(hc:c<=1)(hx:Q[o+i]? = some x)(hR:List.take n2 (List.drop o2 R)=b)(hR2:o2+n2<=R.length) :
  evX (orc T) T 2 l2097_0 (Zjd Q R o n o2 n2 c i)=some (.n,Zjd (Q.set (o+i) (w32 (if x.toNat<atW b i+c then x.toNat+4294967296-(atW b i+c) else x.toNat-(atW b i+c)))) R o n o2 n2 (if x.toNat<atW b i+c then 1 else 0) (i+1)):=by
 have h1:(i:Int)<n:=by omega
 have hw:IntKind.wrap .i64 ((i:Int)+1)=((i+1:Nat):Int):=zab _ (by omega);have cb:=zdq (T:=T) b i hb;have lx:=zak x;have lb:=zjb b i;generalize atW b i=y at *
 have m2:y%18446744073709551616=y:=Yf (by omega);have m3:(y+c)%18446744073709551616=y+c:=Yf (by omega);have m4:(x.toNat+4294967296)%18446744073709551616=x.toNat+4294967296:=Yf (by omega);obtain⟨b1,hgx⟩:=Ys.1 hx;unfold Zjd;by_cases hlt:x.toNat<y+c
 ·have hs:Zds (x.toNat+4294967296) (y+c)=x.toNat+4294967296-(y+c):=ze3 (by omega) (by omega);simp -implicitDefEqProofs[l2097_0,h1,hw,cb,m2,m3,m4,b1,hgx,hR,hR2,hlt,hs]
 ·have hs:Zds x.toNat (y+c)=x.toNat-(y+c):=ze3 (by omega) (by omega);simp -implicitDefEqProofs[l2097_0,h1,hw,cb,m2,m3,b1,hgx,hR,hR2,hlt,hs]
def z5k(P a S R b:List UInt32)(o2 n2:Nat)(hl:a.length<=1000000)(hb:b.length<=1000000)(hR:List.take n2 (List.drop o2 R)=b)(hR2:o2+n2<=R.length):∀y:Nat×Nat×List UInt32,
  (y.1<=a.length/\y.2.1<=1/\y.2.2.length=y.1/\val y.2.2+val (b.take y.1)=val (a.take y.1)+4294967296^y.1*y.2.1) ->
  ∃r,(∃(c:Nat) (m:List UInt32),r=(Ex.n,(⟨[],[(.bor 0,⟨0,.own,1,Za (P++(m++S))⟩),(.bor 1,⟨1,.own,1,Za R⟩)],6⟩:St)) /\
   m.length=a.length/\c<=1/\val m+val (b.take a.length)=val a+4294967296^a.length*c) /\
   Zl T 2 0 (.norm false []) l2097_0 (Zjd (P++(y.2.2++(a.drop y.1++S))) R P.length a.length o2 n2 y.2.1 y.1)=some r:=by
 refine zaq (fun y:Nat×Nat×List UInt32=>Zjd (P++(y.2.2++(a.drop y.1++S))) R P.length a.length o2 n2 y.2.1 y.1) _ (fun y=>a.length-y.1) _ ?_
 rintro⟨i,c,m⟩ ⟨hi,hc,hm,hv⟩
 simp only at hi hc hm hv;by_cases h0:i<a.length
 ·left;have lx:=zak (a[i]'h0);have lb:=zjb b i;have hstep:=z5j (T:=T) (P++(m++(a.drop i++S))) R b P.length a.length o2 n2 c i (a[i]'h0) h0 hl hb hc (zp9 hm h0) hR hR2;rw[zqa hm h0]at hstep;by_cases hlt:(a[i]'h0).toNat<atW b i+c
  ·rw[if_pos hlt,if_pos hlt]at hstep;exact⟨(i+1,1,m++[w32 ((a[i]'h0).toNat+4294967296-(atW b i+c))]),⟨h0,Yd _,by grind,by simp only;exact z2r (P:=P) (S:=S) hm h0 hv (by omega) (by omega)⟩,by omega,hstep⟩
  ·rw[if_neg hlt,if_neg hlt]at hstep;exact⟨(i+1,0,m++[w32 ((a[i]'h0).toNat-(atW b i+c))]),⟨h0,Yu _,by grind,by simp only;exact z2r (P:=P) (S:=S) hm h0 hv (by omega) (by omega)⟩,by omega,hstep⟩
 ·right;have:i=a.length:=by omega
  subst this;rw[Yb (Yd a.length)]at hv;refine⟨_,⟨c,m,rfl,hm,hc,hv⟩,?_,?_⟩<;>simp -implicitDefEqProofs[l2097_0,Zjd]
def zjd(P a S P2 b S2:List UInt32)(hl:a.length<=1000000)(hb:b.length<=a.length)(hab:val b<=val a) :
  ∃m:List UInt32,m.length=a.length/\val m=val a-val b /\
   Zb6 T 2097 [.bs (.bor 0) 0 1 P.length a.length,.bs (.bor 1) 1 1 P2.length b.length] [(.bor 0,⟨0,.own,1,Za (P++(a++S))⟩),(.bor 1,⟨1,.own,1,Za (P2++(b++S2))⟩)] =
    some (.tup [],[(.bor 0,⟨0,.own,1,Za (P++(m++S))⟩),(.bor 1,⟨1,.own,1,Za (P2++(b++S2))⟩)]):=by
 obtain⟨_,⟨c,m,rfl,hm,hc,hv⟩,hr⟩:=z5k (T:=T) P a S (P2++(b++S2)) b P2.length b.length hl (by omega) (by simp) (by simp) (0,0,[]) ⟨Yu _,Yu _,rfl,by simp⟩;rw[Yb hb]at hv;have hlo:=zau m;have hval:val m=val a-val b:=by
  rcases Yar c with h1 | h1
  all_goals grind
 refine⟨m,hm,hval,?_⟩;unfold Zjd at hr;simp only[Ya5,Yaj,Yt]at hr;rw[zbj Z5.h2097 rfl,b2097];simp -implicitDefEqProofs[hr]
def zje(a:List UInt32):Zb T 229 [.sl (Za (ofN (val a))) .an]=some (.b (decide (val a=1))):=by
 rw[zaa Z5.h229 rfl,b229];generalize val a=n;by_cases h0:n=0
 ·subst h0;simp -implicitDefEqProofs
 ·rw[zgz h0];by_cases h1:n/4294967296=0
  ·have e:ofN (n/4294967296)=[]:=zan.2 h1;have e2:n%4294967296=n:=Yf (by omega);simp -implicitDefEqProofs[e,Za,zck,e2]
  ·have h2:¬ ofN (n/4294967296)=[]:=fun e=>h1 (zan.1 e);have h3:¬ n=1:=by omega
   have h4:¬ ((ofN (n/4294967296)).length:Int)+1=1:=by
    have:=Ycr.2 h2;omega
   simp -implicitDefEqProofs[Za,h3,h4]
def zkr(a g:List UInt32)(ha:a.length<=10000)(hg:g.length<=10000)(h0:val g≠0):Zb T 230 [.sl (Za a) .an,.sl (Za (ofN (val g))) .an]=some (.sl (Za (ofN (val a/val g))) .an):=by
 have ho:=zje (T:=T) g;have hn:=zbu (T:=T) a (by omega);have hd:=zyi (T:=T) a (ofN (val g)) (by omega) (by have:=zac g;omega) (by rw[zad];omega);rw[zad]at hd;rw[zaa Z5.h230 rfl,b230];by_cases h1:val g=1
 ·rw[h1]at ho hd ⊢;simp -implicitDefEqProofs[ho,hn]
 ·simp -implicitDefEqProofs[ho,h1,hd]
def zoh(a:List UInt32)(k:Nat)(ha:a.length<=10000)(hk:k<=1000000):Zb T 227 [.sl (Za a) .an,.i .i64 k]=some (.sl (Za (ofN (2^k*val a))) .an):=by
 have hq:(k:Int).tdiv 32=(k:Int)/32:=Ycb (by omega);have hm2:(k:Int).tmod 32=(k:Int)%32:=Ycc (by omega);have s0:¬ (k:Int)%32<0:=by omega
 have s1:((k:Int)%32).toNat=k%32:=by omega
 have s2:min (k%32) 32=k%32:=by omega
 have w1:IntKind.wrap .i64 ((k:Int)/32)=((k/32:Nat):Int):=by rw[zab (k/32) (by omega)];omega
 have h2:2^(k%32)<4294967296:=by
  have:=Nat.pow_lt_pow_right (show 1<2 by decide) (Ya0 k (show 0<32 by decide));omega
 have s3:2^(k%32)%4294967296=2^(k%32):=Yf h2;have hmul:=zgd (T:=T) (List.replicate (k/32) 0++a) [w32 (2^(k%32))] (by grind) (by simp);have hv:val (List.replicate (k/32) 0++a)*val [w32 (2^(k%32))]=2^k*val a:=by
  rw[zag,zaw,Ycf,zaj,za2,zaf h2,Yam,Y6,Yaw,zom,Yah,<-Yag,<-Ybb,show k%32+32*(k/32)=k by omega]
 rw[hv]at hmul;have b2:k/32+a.length<=4294967296:=by omega
 have b3:((k/32:Nat):Int)<=4294967296:=by omega
 have hu:Za [w32 (2^(k%32))]=[[u32 (2^(k%32))]]:=by simp[Za,zaf h2]
 rw[hu]at hmul;have ht:List.take (k/32+a.length) (List.replicate (k/32) 0++a)=List.replicate (k/32) 0++a:=Yb (by simp);rw[f227 _ rfl,b227];generalize k/32=q at *
 simp -implicitDefEqProofs[hq,hm2,w1,s0,s1,s2,s3,hmul,b2,b3,ht]
def nmX:BId:=.fld (.loc 12) 22
def nmY:BId:=.fld (.loc 14) 22
def nm2(f:Bool):BId×BId:=if f then (nmX,nmY) else (nmY,nmX)
def Zgw(f:Bool)(P a S P2 b S2:List UInt32)(m n:Nat):St:=
 ⟨[(5,.bs (nm2 f).1 1 1 P.length a.length),(6,.bs (nm2 f).2 2 1 P2.length b.length),(7,.i .i64 m),(8,.i .i64 n)],[((nm2 f).1,⟨1,.own,1,Za (P++(a++S))⟩),((nm2 f).2,⟨2,.own,1,Za (P2++(b++S2))⟩)],4⟩
def zajh(f:Bool)(P S P2 S2:List UInt32)(X Y m n:Nat)(hX:(ofN X).length<=10000)(hY:(ofN Y).length<=10000)(h:Y<X) :
  ∃(P' S':List UInt32) (k x:Nat),X-Y=2^k*x/\x%2=1 /\
   evX (orc T) T 0 l228_0 (Zgw f P (ofN X) S P2 (ofN Y) S2 m n)=some (.n,Zgw f P' (ofN x) S' P2 (ofN Y) S2 m n):=by
 have hc:=zer (T:=T) (ofN X) (ofN Y) (by omega) (by omega);rw[zad,zad,show Zck X Y=1 by unfold Zck;omega]at hc;obtain⟨d,hd,hv,hless⟩:=zjd (T:=T) P (ofN X) S P2 (ofN Y) S2 (by omega) (zap (Yci h)) (by rw[zad,zad];omega);rw[zad,zad]at hv;obtain⟨P',S',x,k,e1,e2,e3,e4,e5,hodd⟩:=zge (T:=T) P d S (by omega) (by omega);refine⟨P',S',k,x,by omega,e2,?_⟩;have t1:List.take (ofN X).length (List.drop P.length (P++(ofN X++S)))=ofN X:=by simp
 have t2:List.take (ofN Y).length (List.drop P2.length (P2++(ofN Y++S2)))=ofN Y:=by simp
 have b1:P.length+(ofN X).length<=(P++(ofN X++S)).length:=by simp
 have b2:P2.length+(ofN Y).length<=(P2++(ofN Y++S2)).length:=by simp
 rw[hd]at hodd;unfold Zgw;cases f<;>simp -implicitDefEqProofs[l228_0,nm2,nmX,nmY,hc,hless,hodd]
def zaji(f:Bool)(P S P2 S2:List UInt32)(X Y m n:Nat)(hX:(ofN X).length<=10000)(hY:(ofN Y).length<=10000)(h:X<Y) :
  ∃(P' S':List UInt32) (k x:Nat),Y-X=2^k*x/\x%2=1 /\
   evX (orc T) T 0 l228_0 (Zgw f P (ofN X) S P2 (ofN Y) S2 m n)=some (.n,Zgw (!f) P' (ofN x) S' P (ofN X) S m n):=by
 have hc:=zer (T:=T) (ofN X) (ofN Y) (by omega) (by omega);rw[zad,zad,show Zck X Y=-1 by unfold Zck;omega]at hc;obtain⟨d,hd,hv,hless⟩:=zjd (T:=T) P2 (ofN Y) S2 P (ofN X) S (by omega) (zap (Yci h)) (by rw[zad,zad];omega);rw[zad,zad]at hv;obtain⟨P',S',x,k,e1,e2,e3,e4,e5,hodd⟩:=zge (T:=T) P2 d S2 (by omega) (by omega);refine⟨P',S',k,x,by omega,e2,?_⟩;have t1:List.take (ofN X).length (List.drop P.length (P++(ofN X++S)))=ofN X:=by simp
 have t2:List.take (ofN Y).length (List.drop P2.length (P2++(ofN Y++S2)))=ofN Y:=by simp
 have b1:P.length+(ofN X).length<=(P++(ofN X++S)).length:=by simp
 have b2:P2.length+(ofN Y).length<=(P2++(ofN Y++S2)).length:=by simp
 rw[hd]at hodd;unfold Zgw;cases f<;>simp -implicitDefEqProofs[l228_0,nm2,nmX,nmY,hc,hless,hodd]
def zajj(f:Bool)(P S P2 S2:List UInt32)(X m n:Nat)(hX:(ofN X).length<=10000){G:Option (Ex×St)}
  (hG:G=some (.n,⟨[(5,.bs (nm2 f).1 1 1 P.length (ofN X).length),(7,.i .i64 m),(8,.i .i64 n)],[((nm2 f).1,⟨1,.own,1,Za (P++(ofN X++S))⟩)],3⟩)) :
  Zfx (evX (orc T) T 0 l228_0 (Zgw f P (ofN X) S P2 (ofN X) S2 m n))=true/\Zfw 0 0 (Gh.norm false [5,7,8]) (evX (orc T) T 0 l228_0 (Zgw f P (ofN X) S P2 (ofN X) S2 m n))=G:=by
 subst hG;have hc:=zer (T:=T) (ofN X) (ofN X) (by omega) (by omega);rw[zad,show Zck X X=0 by grind[Zck]]at hc;have t1:List.take (ofN X).length (List.drop P.length (P++(ofN X++S)))=ofN X:=by simp
 have t2:List.take (ofN X).length (List.drop P2.length (P2++(ofN X++S2)))=ofN X:=by simp
 have b1:P.length+(ofN X).length<=(P++(ofN X++S)).length:=by simp
 have b2:P2.length+(ofN X).length<=(P2++(ofN X++S2)).length:=by simp
 unfold Zgw;generalize P++(ofN X++S)=Q at *
 generalize P2++(ofN X++S2)=R at *
 generalize ofN X=A at *
 cases f<;>constructor<;>simp -implicitDefEqProofs[l228_0,nm2,nmX,nmY,hc,t1,t2,b1,b2]
structure Gc where
 f:Bool
 P:List UInt32
 S:List UInt32
 P2:List UInt32
 S2:List UInt32
 X:Nat
 Y:Nat
def z5l(G m n:Nat):∀y:Gc,((ofN y.X).length<=10000/\(ofN y.Y).length<=10000/\y.X%2=1/\y.Y%2=1/\Nat.gcd y.X y.Y=G) ->
  ∃r,(∃(f:Bool) (P S:List UInt32),r=(Ex.n,(⟨[(5,.bs (nm2 f).1 1 1 P.length (ofN G).length),(7,.i .i64 m),(8,.i .i64 n)],[((nm2 f).1,⟨1,.own,1,Za (P++(ofN G++S))⟩)],3⟩:St))) /\
   Zl T 0 0 (.norm false [5,7,8]) l228_0 (Zgw y.f y.P (ofN y.X) y.S y.P2 (ofN y.Y) y.S2 m n)=some r:=by
 refine zaq (fun y:Gc=>Zgw y.f y.P (ofN y.X) y.S y.P2 (ofN y.Y) y.S2 m n) _ (fun y=>y.X+y.Y) _ ?_
 rintro⟨f,P,S,P2,S2,X,Y⟩ ⟨hX,hY,oX,oY,hG⟩
 rcases Ya8 X Y with h | h | h
 ·left;obtain⟨P',S',k,x,e1,e2,he⟩:=zaji (T:=T) f P S P2 S2 X Y m n hX hY h;have hle:x<=Y-X:=by rw[e1];exact Ydj _ (Yba (by decide))
  refine⟨⟨!f,P',S',P,S,x,X⟩,⟨?_,hX,e2,oX,?_⟩,by grind,he⟩
  ·have:=zap (show x<=Y by omega)
   grind
  grind[zr9,Nat.gcd_comm]
 ·subst h;obtain⟨h1,h2⟩:=zajj (T:=T) f P S P2 S2 X m n hX rfl
  grind
 ·left;obtain⟨P',S',k,x,e1,e2,he⟩:=zajh (T:=T) f P S P2 S2 X Y m n hX hY h;have hle:x<=X-Y:=by rw[e1];exact Ydj _ (Yba (by decide))
  refine⟨⟨f,P',S',P2,S2,x,Y⟩,⟨?_,hY,e2,oY,?_⟩,by grind,he⟩
  ·have:=zap (show x<=X by omega)
   grind
  grind[zr9]
def zyj(a b:List UInt32)(ha:a.length<=10000)(hb:b.length<=10000):Zb T 228 [.sl (Za a) .an,.sl (Za b) .an]=some (.sl (Za (ofN (Nat.gcd (val a) (val b)))) .an):=by
 have n1:=zcq (T:=T) a (by omega);have n2:=zcq (T:=T) b (by omega);have la:=zac a;have lb:=zac b;rw[f228 _ rfl,b228];generalize val a=X at *
 generalize val b=Y at *
 have tY:List.take (ofN Y).length (ofN Y)=ofN Y:=Yb (Yd _);by_cases hX:X=0
 ·subst hX;rw[Nat.gcd_zero_left];simp -implicitDefEqProofs[n1,n2,tY]
 ·have eX:¬ ofN X=[]:=fun e=>hX (zan.1 e);by_cases hY:Y=0
  ·subst hY;rw[Yd4];simp -implicitDefEqProofs[n1,n2,eX]
  ·have eY:¬ ofN Y=[]:=fun e=>hY (zan.1 e);obtain⟨P1,S1,x,m,e1,e2,e3,e4,e5,o1⟩:=zge (T:=T) [] (ofN X) [] (by omega) (by rw[zad];omega);obtain⟨P2,S2,y,n,g1,g2,g3,g4,g5,o2⟩:=zge (T:=T) [] (ofN Y) [] (by omega) (by rw[zad];omega);rw[zad]at e1 g1;obtain⟨_,⟨f,P,S,rfl⟩,hl⟩:=z5l (T:=T) (Nat.gcd x y) m n ⟨true,P1,S1,P2,S2,x,y⟩ ⟨by grind,by grind,e2,g2,rfl⟩;have hG:Nat.gcd X Y=2^(min m n)*Nat.gcd x y:=by rw[e1,g1];exact z55 e2 g2
   have hgl:(ofN (Nat.gcd x y)).length<=10000:=by
    have:=zap (Nat.gcd_le_left y (show 0<x by omega));omega
   have hdb:=zoh (T:=T) (ofN (Nat.gcd x y)) (min m n) hgl (by omega);rw[zad,<-hG]at hdb;simp only[Ya5,Ybn,Yaa]at o1 o2;unfold Zgw at hl;have t1:List.take (ofN (Nat.gcd x y)).length (List.drop P.length (P++(ofN (Nat.gcd x y)++S)))=ofN (Nat.gcd x y):=by simp
   have b1:P.length+(ofN (Nat.gcd x y)).length<=(P++(ofN (Nat.gcd x y)++S)).length:=by simp
   have hmin:(if n<m then (n:Int) else (m:Int))=((min m n:Nat):Int):=by omega
   simp only[nm2,nmX,nmY,if_true]at hl;cases f<;>simp only[Yac,if_false,if_true]at hl<;>simp -implicitDefEqProofs[n1,n2,eX,eY,o1,o2,hl,hdb,hmin,mm2]
end
section
def b39:AX:=QZ "M5RNk1RthU5kNupAe4y6wqJNWdS6xpL5olW8vezDr7Jp70BRoCSVS"
def b30:AX:=QY [] [(AV.i .i64 (-1))] "1lXl41sj0Wmg.WOskXOH6IC8BRBYG4GxgchpMGuDJfw4jqb3I.kXdkgM993S2"
def b24:AX:=QZ "jYWenPtfcSCDu5dvex9CHewtQJBNOspmA.9Ggij5oWk5SZmSdO.yAPixzFhPJfh_rHrvKb3DvjlakDtyHHFQnLw3pg7L.KBY2cToAGeVFb06vbjMAzkuWHQlLDH1mqrKb95NGKpFaJx"
def b35:AX:=QY [] [(AV.s [45])] "0.zJSsPqP23rD4Fi5rwui.haeBeoSETN0jOStc43wkxD5hR1f5NK5"
abbrev row39:AFx:=⟨1,16,[.cell 2 (some 2)],b39,none,false⟩
abbrev row30:AFx:=⟨1,12,[.t 2],b30,none,false⟩
abbrev row24:AFx:=⟨2,43,[.cell 4 (some 2)],b24,none,false⟩
abbrev row35:AFx:=⟨1,13,[.t 2],b35,none,false⟩
class Zab (T:Tbl):Prop extends Zao T where
 h39:Tr T 39=some row39
 h30:Tr T 30=some row30
 h24:Tr T 24=some row24
 h35:Tr T 35=some row35
attribute [simp] Zab.h39 Zab.h30 Zab.h24 Zab.h35
section
variable{T:Tbl}[Zab T]{d:Option Nat}{st:St}
@[simp] def x39(xs:List AV):Zah (orc T) T 39 xs d st=cP T 39 false xs d st:=zaz Zab.h39
@[simp] def x30(xs:List AV):Zah (orc T) T 30 xs d st=cP T 30 false xs d st:=zaz Zab.h30
@[simp] def x24(xs:List AV):Zah (orc T) T 24 xs d st=cP T 24 false xs d st:=zaz Zab.h24
@[simp] def x35(xs:List AV):Zah (orc T) T 35 xs d st=cP T 35 false xs d st:=zaz Zab.h35
end
end
section
variable{T:Tbl}[Zab T]
def zkt(n:Bool)(a:List UInt32)(ha:a.length<=1000000):Zb T 39 [wh n a]=some (ez (wv n a)):=by
 have h:=zbu (T:=T) a ha;have hl:(0<(ofN (val a)).length)=(val a≠0):=by
  rw[eq_iff_iff,Ycr];exact not_congr zan
 rw[zaa Zab.h39 rfl,b39];unfold wv;rw[z53];cases n<;>simp -implicitDefEqProofs[h,hl]
def zud(n:Bool)(a:List UInt32)(ha:a.length<=1000000):Zb T 30 [wh n a]=some (.i .i64 (sgI (wv n a))):=by
 have h:=zkt (T:=T) n a ha;obtain⟨z,hz⟩:∃z,z=wv n a:=⟨_,rfl⟩;rw[<-hz]at h ⊢;rw[zaa Zab.h30 rfl,b30];have hl:((((ofN z.natAbs).length:Int) == 0))=decide (z=0):=by
  rw[Ybo];simp[zan]
 unfold sgI;by_cases h0:z=0
 ·subst h0;simp -implicitDefEqProofs[h]
 ·have h1:ofN z.natAbs≠[]:=fun h=>h0 (by have:=zan.1 h;omega);by_cases h2:z<0
  ·simp -implicitDefEqProofs[h,h1,h2]
  ·simp -implicitDefEqProofs[h,h0,h1,h2]
def zyl(n m:Bool)(a b:List UInt32)(ha:a.length<=10000)(hb:b.length<=10000):Zb T 24 [wh n a,wh m b]=some (ez (wv n a+wv m b)):=by
 have hc:=zer (T:=T) a b (by omega) (by omega);rw[zaa Zab.h24 rfl,b24];have fin:∀(s:Bool) (k:Nat),sg s k=wv n a+wv m b->(ofN k).length<=1000000->Zb T 39 [wh s (ofN k)]=some (ez (wv n a+wv m b)):=by
  intro s k h1 h2;rw[zkt (T:=T) s (ofN k) h2];have:wv s (ofN k)=sg s k:=by unfold wv;rw[zad]
  rw[this,h1]
 have hla:=zac a;have hlb:=zac b;obtain⟨z,hz⟩:∃z,z=wv n a+wv m b:=⟨_,rfl⟩;by_cases h:n=m
 ·subst h;have h1:=zyd (T:=T) a b (by omega) (by omega);have h2:=fin n (val a+val b) (zjk _ _ _) (by
   have:=zcl (x:=(val a:Int)) (y:=val b) (L:=10000) (by simpa using Yc hla ha) (by simpa using Yc hlb hb);have e:((val a:Int)+val b).natAbs=val a+val b:=by omega
   rw[e]at this;omega)
  rw[<-hz]at h2 ⊢;simp -implicitDefEqProofs[h1,h2]
 ·by_cases hlt:val a<val b
  ·have h1:=zof (T:=T) b a (by omega) (by omega) (by omega);have h2:=fin m (val b-val a) (zor h hlt) (by have:=zap (Nat.sub_le (val b) (val a));omega);rw[<-hz]at h2 ⊢;simp -implicitDefEqProofs[h,hc,zdh,hlt,h1,h2]
  ·have h1:=zof (T:=T) a b (by omega) (by omega) (by omega);have h2:=fin n (val a-val b) (zos h hlt) (by have:=zap (Nat.sub_le (val a) (val b));omega);rw[<-hz]at h2 ⊢;simp -implicitDefEqProofs[h,hc,zdh,hlt,h1,h2]
def zue(n:Bool)(a:List UInt32)(ha:a.length<=1000):Zb T 35 [wh n a]=some (.s (Z6 (wv n a))):=by
 have h1:=zks (T:=T) a ha;have h2:=zud (T:=T) n a (by omega);have h3:=zee ha;have h4:1+(Zu (val a)).length<=9223372036854775807:=by omega
 rw[zaa Zab.h35 rfl,b35];unfold Z6;rw[zy9];by_cases h:wv n a<0
 ·have h5:sgI (wv n a)=-1:=by unfold sgI;rw[if_pos h]
  simp -implicitDefEqProofs[h1,h2,h,h5,h4]
 ·have h5:¬ sgI (wv n a)<0:=by unfold sgI;rw[if_neg h];split<;>omega
  simp -implicitDefEqProofs[h1,h2,h,h5]
end
theorem z5n(n:Bool)(x y:Nat):sg n (x*y)=sg n x*(y:Int):=by cases n<;>simp[sg,Int.neg_mul]
def z2s(q:Rat):val (fz q).2.2≠0:=by
 unfold fz;rw[zad];exact q.den_nz
section
variable{T:Tbl}[Z9 T][Zau T][Zaa T][Zao T][Z5 T][Zab T][Z8 T]
def ze7(x:Fz)(hx:fsz x<=10000):Zb T 231 [efz x]=some (efz (fz (fv x))):=by
 obtain⟨n,a,d⟩:=x;have la:=zfp (n,a,d);have ld:=zgh (n,a,d);simp only at la ld;have n1:=zbu (T:=T) a (by omega);have n2:=zbu (T:=T) d (by omega);have la2:=zac a;have ld2:=zac d;have ho:=zje (T:=T) d;have hg:=zyj (T:=T) (ofN (val a)) (ofN (val d)) (by omega) (by omega);rw[zad,zad]at hg;show _=some (efz (fz (mkRat (sg n (val a)) (val d))));by_cases hd:val d=0
 ·rw[hd,Yet,zqj,zaa Z8.h231 rfl,b231];rw[hd]at n2;simp -implicitDefEqProofs[n1,n2,show Za [1]=[[u32 1]] from rfl]
 ·by_cases ha:val a=0
  ·have e0:mkRat (sg n (val a)) (val d)=0:=by rw[Rat.mkRat_eq_zero hd,ha];cases n<;>rfl
   have ed:¬ ofN (val d)=[]:=fun e=>hd (zan.1 e);rw[e0,zqj,zaa Z8.h231 rfl,b231];rw[ha]at n1;simp -implicitDefEqProofs[n1,n2,ed,show Za [1]=[[u32 1]] from rfl]
  ·have ea:¬ ofN (val a)=[]:=fun e=>ha (zan.1 e);have ed:¬ ofN (val d)=[]:=fun e=>hd (zan.1 e);rw[zabc n (val a) hd,show decide (val a≠0)=true by grind,Yec];have gpos:Nat.gcd (val a) (val d)≠0:=by
    grind
   have glen:(ofN (Nat.gcd (val a) (val d))).length<=10000:=by
    have:=zap (Nat.gcd_le_right (val a) (Yap hd));omega
   have o1:=zkr (T:=T) (ofN (val a)) (ofN (Nat.gcd (val a) (val d))) (by omega) glen (by rw[zad];omega);have o2:=zkr (T:=T) (ofN (val d)) (ofN (Nat.gcd (val a) (val d))) (by omega) glen (by rw[zad];omega);rw[zad,zad]at o1 o2;rw[zaa Z8.h231 rfl,b231];by_cases h1:val d=1
   ·rw[h1]at n2 ho ed ⊢;rw[Nat.gcd_one_right,Yey,Yey];simp -implicitDefEqProofs[n1,n2,ho,ea,ed]
   ·generalize ofN (val d/Nat.gcd (val a) (val d))=D' at *
    simp -implicitDefEqProofs[n1,n2,ho,ea,ed,h1,hg,o1,o2]
def ze8(x y:Fz)(hx:fsz x<=10000):Zb T 233 [efz x,efz y]=some (.b (decide (x=y))):=by
 obtain⟨n,a,d⟩:=x;obtain⟨m,b,e⟩:=y;have la:=zfp (n,a,d);have ld:=zgh (n,a,d);simp only at la ld;have c1:=zkq (T:=T) a b (by omega);have c2:=zkq (T:=T) d e (by omega);rw[zaa Z8.h233 rfl,b233];by_cases h1:n=m
 ·subst h1;by_cases h2:a=b
  ·subst h2;by_cases h3:d=e
   ·simp -implicitDefEqProofs[c1,c2]
   ·simp -implicitDefEqProofs[c1,c2,h3]
  ·simp -implicitDefEqProofs[c1,h2]
 ·simp -implicitDefEqProofs[h1]
def zgw(x:Fz)(k:Nat):Zb T 247 [efz x,.i .i64 k]=some (.b (decide (k<fsz x))):=by
 obtain⟨n,a,d⟩:=x;unfold fsz;rw[zaa Z8.h247 rfl,b247];by_cases h1:k<a.length
 ·have h3:k<max a.length d.length:=by omega
  simp -implicitDefEqProofs[h1,h3]
 ·by_cases h2:k<d.length
  ·have h3:k<max a.length d.length:=by omega
   simp -implicitDefEqProofs[h1,h2,h3]
  ·have h3:¬ k<max a.length d.length:=by omega
   simp -implicitDefEqProofs[h1,h2,h3]
def zym(x:Fz)(hx:fsz x<=10000):Zb T 237 [efz x]=some (efz (fz (-fv x))):=by
 obtain⟨n,a,d⟩:=x;have c3:=ze7 (T:=T) (!n,a,d) hx;have e1:fv (!n,a,d)=-fv (n,a,d):=by
  grind[fv,wv,z2z,Rat.neg_mkRat]
 rw[e1]at c3;rw[zaa Z8.h237 rfl,b237];simp -implicitDefEqProofs[c3]
def zyn(x y:Fz)(hx:fsz x<=1000)(hy:fsz y<=1000)(h1:val x.2.2≠0)(h2:val y.2.2≠0):Zb T 239 [efz x,efz y]=some (efz (fz (fv x+fv y))):=by
 obtain⟨n,a,d⟩:=x;obtain⟨m,b,e⟩:=y;have la:=zfp (n,a,d);have ld:=zgh (n,a,d);have lb:=zfp (m,b,e);have le:=zgh (m,b,e);simp only at la ld lb le h1 h2;have c1:=zgd (T:=T) a e (by omega) (by omega);have c2:=zgd (T:=T) b d (by omega) (by omega);have c4:=zgd (T:=T) d e (by omega) (by omega);have l1:(ofN (val a*val e)).length<=2000:=by
  have:=zb5 (x:=val a) (y:=val e) (L:=1000) (M:=1000) (Yc (zac a) (by omega)) (Yc (zac e) (by omega));omega
 have l2:(ofN (val b*val d)).length<=2000:=by
  have:=zb5 (x:=val b) (y:=val d) (L:=1000) (M:=1000) (Yc (zac b) (by omega)) (Yc (zac d) (by omega));omega
 have l4:(ofN (val d*val e)).length<=2000:=by
  have:=zb5 (x:=val d) (y:=val e) (L:=1000) (M:=1000) (Yc (zac d) (by omega)) (Yc (zac e) (by omega));omega
 have c3:=zyl (T:=T) n m (ofN (val a*val e)) (ofN (val b*val d)) (by omega) (by omega);have e3:wv n (ofN (val a*val e))+wv m (ofN (val b*val d))=sg n (val a)*(val e:Int)+sg m (val b)*(val d:Int):=by
  grind[wv,zad,z5n]
 have l3:(ofN (sg n (val a)*(val e:Int)+sg m (val b)*(val d:Int)).natAbs).length<=3000:=by
  rw[<-e3];have:=zcl (x:=wv n (ofN (val a*val e))) (y:=wv m (ofN (val b*val d))) (L:=2000) (Yc (zcv _ _) l1) (Yc (zcv _ _) l2);omega
 rw[e3]at c3;obtain⟨z,hz⟩:∃z,z=sg n (val a)*(val e:Int)+sg m (val b)*(val d:Int):=⟨_,rfl⟩;rw[<-hz]at c3 l3;have c5:=ze7 (T:=T) (decide (z<0),ofN z.natAbs,ofN (val d*val e)) (by unfold fsz;grind);have e1:fv (decide (z<0),ofN z.natAbs,ofN (val d*val e))=fv (n,a,d)+fv (m,b,e):=by
  unfold fv;simp only[zad,zhc];rw[hz];exact(Ydx _ _ h1 h2).symm
 rw[e1]at c5;rw[zaa Z8.h239 rfl,b239];simp -implicitDefEqProofs[c1,c2,c3,c4,c5,ziv]
def zku(p q:Rat)(hp:sz p<=1000)(hq:sz q<=1000):Zb T 239 [efz (fz p),efz (fz q)]=some (efz (fz (p+q))):=by
 have:=zyn (T:=T) (fz p) (fz q) hp hq (z2s p) (z2s q)
 simp_all
end
section
variable{T:Tbl}[Z9 T][Zau T][Zaa T][Zao T][Z5 T][Zab T][Z8 T][Zas T]
def Zpz(n i:Nat):St:=⟨[(0,.i .i64 n),(3,.bs (.loc 3) 1 3 0 i),(4,.i .i64 i)],[(.loc 3,⟨1,.own,3,Zc (List.replicate i (fz 0))⟩)],3⟩
def Zk5(l:List Fz)(i:Nat):St:=⟨[(0,.sl (Zc l) .an),(3,.bs (.loc 3) 1 3 0 i),(4,.i .i64 i)],[(.loc 3,⟨1,.own,3,Zc (nrm (l.take i))⟩)],3⟩
def zuf(l:List Fz)(hl:l.length<=1000)(hw:∀x∈l,fsz x<=1000) :
  Zl T 0 0 (.norm false [3]) l278_0 (Zk5 l 0)=some (.n,⟨[(3,.bs (.loc 3) 1 3 0 l.length)],[(.loc 3,⟨1,.own,3,Zc (nrm l)⟩)],3⟩):=by
 refine zas (Zk5 l) l.length _ (fun i hi=>?_) ?_
 ·have hg:l[i]? = some (l[i]'hi):=Ya hi;have hws:=zbo hi (by omega);have hn:=ze7 (T:=T) (l[i]'hi) (Yc (hw _ (Yx hi)) (by decide));have e:nrm (l.take (i+1))=nrm (l.take i)++[fz (fv (l[i]'hi))]:=zc0 l _ hi;have hml:(nrm (l.take i)).length=i:=by simp[nrm];omega
  have hp:=zbg hml (fz (fv (l[i]'hi)));unfold Zk5;rw[e];clear e;generalize nrm (l.take i)=M at *
  generalize fz (fv (l[i]'hi))=z at *
  have hb:i<=4294967295:=by omega
  simp -implicitDefEqProofs[l278_0,hi,hws,hn,hp,hml,hb]
 ·unfold Zk5;rw[Yb (Yd _)];generalize nrm l=M;constructor<;>simp -implicitDefEqProofs[l278_0]
def zed(l:List Fz)(hl:l.length<=1000)(hw:∀x∈l,fsz x<=1000):Zb T 278 [.sl (Zc l) .an]=some (.sl (Zc (nrm l)) .an):=by
 have h:=zuf (T:=T) l hl hw;unfold Zk5 at h;have e:nrm (l.take 0)=[]:=rfl;rw[e]at h;simp only[zcd,Yt]at h;have hl2:(nrm l).length=l.length:=by simp[nrm]
 have ht:List.take l.length (nrm l)=nrm l:=Yb (by omega);rw[zaa Zas.h278 rfl,b278];simp -implicitDefEqProofs[h,ht,hl2]
def Zj9(a b:List Fz)(i:Nat):St:=⟨[(0,.sl (Zc a) .an),(1,.sl (Zc b) .an),(5,.i .i64 i)],[],2⟩
def zug(a b:List Fz)(hab:a.length=b.length)(hl:a.length<=1000)(ha:∀x∈a,fsz x<=10000) :
  Zl T 0 0 (.norm false []) l279_0 (Zj9 a b 0)=if a.drop 0=b.drop 0 then some (.n,⟨[],[],2⟩) else some (.r,⟨[(4,.b false)],[],2⟩):=by
 refine zay (Zj9 a b) a.length (fun i=>if a.drop i=b.drop i then some (.n,⟨[],[],2⟩) else some (.r,⟨[(4,.b false)],[],2⟩)) (fun i hi=>?_) ?_
 ·have hga:a[i]? = some (a[i]'hi):=Ya hi;have hib:i<b.length:=by omega
  have hgb:b[i]? = some (b[i]'hib):=Ya hib;have hws:=zbo hi (by omega);have c:=ze8 (T:=T) (a[i]'hi) (b[i]'hib) (ha _ (Yx hi));have hib':(i:Int)<b.length:=by omega
  have key:(a.drop i=b.drop i)↔((a[i]'hi)=(b[i]'hib)/\a.drop (i+1)=b.drop (i+1)):=by
   grind[List.drop_eq_getElem_cons]
  by_cases he:(a[i]'hi)=(b[i]'hib)
  ·left;refine⟨?_,by grind⟩;unfold Zj9;rw[decide_eq_true he]at c;clear he;simp -implicitDefEqProofs[l279_0,hi,hws,c,hib,hib']
  ·right;rw[if_neg (fun h=>he (key.1 h).1)];unfold Zj9;rw[decide_eq_false he]at c;clear he;constructor<;>simp -implicitDefEqProofs[l279_0,hi,c,hib,hib']
 ·rw[Y8,if_pos (by rw[hab,Y8])];unfold Zj9;constructor<;>simp -implicitDefEqProofs[l279_0]
def zc5(a b:List Fz)(hl:a.length<=1000)(ha:∀x∈a,fsz x<=10000):Zb T 279 [.sl (Zc a) .an,.sl (Zc b) .an]=some (.b (decide (a=b))):=by
 rw[zaa Zas.h279 rfl,b279];by_cases hab:a.length=b.length
 ·have h:=zug (T:=T) a b hab hl ha;rw[Yaj,Yaj]at h;unfold Zj9 at h;simp only[Yt]at h;have hab':(b.length:Int)=a.length:=by omega
  by_cases he:a=b
  ·subst he;rw[if_pos rfl]at h;simp -implicitDefEqProofs[h]
  ·rw[if_neg he]at h;simp -implicitDefEqProofs[hab',h,he]
 ·have he:¬ a=b:=fun h=>hab (by rw[h]);have hab':¬ (a.length:Int)=b.length:=by omega
  simp -implicitDefEqProofs[hab',he]
def Zp0(p q:List Rat)(i:Nat):St:=⟨[(0,.sl (Zc (fzs p)) .an),(1,.sl (Zc (fzs q)) .an),(5,.bs (.loc 5) 1 3 0 i),(6,.i .i64 i)],[(.loc 5,⟨1,.own,3,Zc (fzs ((Zl2 p (fzs q)).take i))⟩)],3⟩
def Zp1(p q:List Rat)(i:Nat):St:=⟨[(0,.sl (Zc (fzs p)) .an),(1,.sl (Zc (fzs q)) .an),(4,.ptr (.loc 4) 1 3 0 0),(5,.ptr (.loc 5) 2 3 0 0),(6,.i .i64 i)],
 [(.loc 4,⟨1,.str,3,[Zfk]⟩),(.loc 5,⟨2,.str,3,[Zam (fz (Zk9 (fzs p) (fzs q) i))]⟩)],4⟩
def Zbz(l:List Fz)(many words:Nat):Bool:=decide (many<l.length) || l.any fun x=>decide (words<fsz x)
def Zgx(l:List Fz)(many words:Nat)(i:Nat):St:=⟨[(0,.sl (Zc l) .an),(1,.i .i64 many),(2,.i .i64 words),(7,.i .i64 i)],[],2⟩
def zuh(l:List Fz)(many words:Nat)(hl:l.length<=many)(hm:many<=1000) :
  Zl T 0 0 (.norm false [0,1]) l286_0 (Zgx l many words 0)=if (l.drop 0).any (fun x=>decide (words<fsz x))=true then some (.r,⟨[(6,.b true)],[],2⟩) else some (.n,⟨[(0,.sl (Zc l) .an),(1,.i .i64 many)],[],2⟩):=by
 refine zay (Zgx l many words) l.length (fun i=>if (l.drop i).any (fun x=>decide (words<fsz x))=true then some (.r,⟨[(6,.b true)],[],2⟩) else some (.n,⟨[(0,.sl (Zc l) .an),(1,.i .i64 many)],[],2⟩)) (fun i hi=>?_) ?_
 ·have hga:l[i]? = some (l[i]'hi):=Ya hi;have hws:=zbo hi (by omega);have c:=zgw (T:=T) (l[i]'hi) words;have h3:(i:Int)<many:=by omega
  have h4:i<many:=by omega
  have key:(l.drop i).any (fun x=>decide (words<fsz x))=(decide (words<fsz (l[i]'hi)) || (l.drop (i+1)).any fun x=>decide (words<fsz x)):=by
   rw[Yi hi,List.any_cons]
  by_cases he:words<fsz (l[i]'hi)
  ·right;rw[if_pos (by rw[key,decide_eq_true he,Bool.true_or])];rw[decide_eq_true he]at c;unfold Zgx;clear key he;constructor<;>simp -implicitDefEqProofs[l286_0,hi,h3,c]
  ·left;refine⟨?_,by grind⟩;rw[decide_eq_false he]at c;unfold Zgx;clear key he;simp -implicitDefEqProofs[l286_0,hi,h3,hws,c]
 ·rw[Y8,if_neg (by simp)];unfold Zgx;constructor<;>simp -implicitDefEqProofs[l286_0]
theorem zui(l:List Fz)(many words:Nat)(hl:l.length<=many)(hm:many<=1000):Zb T 286 [.sl (Zc l) .an,.i .i64 many,.i .i64 words]=some (.b (Zbz l many words)):=by
 have h:=zuh (T:=T) l many words hl hm;rw[Yaj]at h;unfold Zgx at h;simp only[Yt]at h;have h1:¬ (many:Int)<l.length:=by omega
 have h2:¬ many<l.length:=by omega
 unfold Zbz;rw[zaa Zas.h286 rfl,b286];cases hc:l.any fun x=>decide (words<fsz x) with
 | true=>
  rw[hc,if_pos rfl]at h;simp -implicitDefEqProofs[h,h2]
 | false=>
  rw[hc,if_neg (by decide)]at h;simp -implicitDefEqProofs[h,h1,h2]
def zuj(l:List Fz)(many words:Nat)(hl:many<l.length)(hm:many<=1000) :
  ∃r,(r=some (.r,(⟨[(6,.b true)],[],2⟩:St))\/r=some (.n,⟨[(0,.sl (Zc l) .an),(1,.i .i64 many)],[],2⟩))/\Zl T 0 0 (.norm false [0,1]) l286_0 (Zgx l many words 0)=r:=by
 obtain⟨G,hG⟩:∃G:Nat->Option (Ex×St),G=fun i=>if ((l.take many).drop i).any (fun x=>decide (words<fsz x))=true then some (.r,⟨[(6,.b true)],[],2⟩) else some (.n,⟨[(0,.sl (Zc l) .an),(1,.i .i64 many)],[],2⟩):=⟨_,rfl⟩
 refine⟨G 0,?_,zay (Zgx l many words) many G (fun i hi=>?_) ?_⟩
 ·grind
 ·have hil:i<l.length:=by omega
  have hil':(i:Int)<l.length:=by omega
  have hga:l[i]? = some (l[i]'hil):=Ya hil;have hws:=zbo hi (by omega);have c:=zgw (T:=T) (l[i]'hil) words;have key:((l.take many).drop i).any (fun x=>decide (words<fsz x))=(decide (words<fsz (l[i]'hil)) || ((l.take many).drop (i+1)).any fun x=>decide (words<fsz x)):=by
   grind[List.drop_eq_getElem_cons]
  by_cases he:words<fsz (l[i]'hil)
  ·right;rw[hG];simp only;rw[if_pos (by rw[key,decide_eq_true he,Bool.true_or])];rw[decide_eq_true he]at c;unfold Zgx;clear key he hG;constructor<;>simp -implicitDefEqProofs[l286_0,hi,hil,hil',c]
  ·left;refine⟨?_,by grind⟩;rw[decide_eq_false he]at c;unfold Zgx;clear key he hG;simp -implicitDefEqProofs[l286_0,hi,hil,hil',hws,c]
 ·rw[hG];simp only;rw[Ya1 (by grind),if_neg (by simp)];have h1:(many:Int)<l.length:=by omega
  unfold Zgx;constructor<;>simp -implicitDefEqProofs[l286_0,h1]
theorem zqb(l:List Fz)(many words:Nat)(hl:many<l.length)(hm:many<=1000):Zb T 286 [.sl (Zc l) .an,.i .i64 many,.i .i64 words]=some (.b true):=by
 obtain⟨r,hr,h⟩:=zuj (T:=T) l many words hl hm;unfold Zgx at h;simp only[Yt]at h;have h1:(many:Int)<l.length:=by omega
 rw[zaa Zas.h286 rfl,b286];rcases hr with rfl | rfl
 ·simp -implicitDefEqProofs[h]
 ·simp -implicitDefEqProofs[h,hl]
def zfn(l:List Fz)(many words:Nat)(hm:many<=1000):Zb T 286 [.sl (Zc l) .an,.i .i64 many,.i .i64 words]=some (.b (Zbz l many words)):=by
 grind[zqb,Zbz,zui]
def zdk{l:List Fz}{many words:Nat}(h:Zbz l many words=false):l.length<=many/\∀x∈l,fsz x<=words:=by
 grind[Zbz]
end
def Zjf(n:Int):Nat:=(min (max n 0) 300).toNat
section
variable{T:Tbl}[Zr T][Zx T][Z2 T][Zt T][Zw T][Zbb T][Zi T][Zo T][Z0 T][Zba T][Zb8 T]
def Zpd(n i:Int):List Rat:=if 0<=i/\i<Zjf n then (List.replicate (Zjf n) 0).set i.toNat 1 else List.replicate (Zjf n) 0
end
section
variable{T:Tbl}[Z9 T][Zau T][Zaa T][Zao T][Z5 T][Zab T][Z8 T][Zas T]
def Zpe(n:Int)(i:Nat):St:=⟨[(0,.i .i64 n),(3,.bs (.loc 3) 1 3 0 i),(4,.i .i64 i)],[(.loc 3,⟨1,.own,3,Zc (List.replicate i (fz 0))⟩)],3⟩
end
class Zhg (T:Tbl):Prop where
section
def b248:AX:=QZ "2SUiix474pgT10nkcCVS2V5iviAXY8BL3QiO5"
def b249:AX:=QZ "6lfUt2c5B3qZG9ioLlqdFTiDbr6iTwIH8zsa"
abbrev row248:AFx:=⟨1,11,[.cell 2 (some 3)],b248,none,false⟩
abbrev row249:AFx:=⟨1,12,[.cell 2 (some 3)],b249,none,false⟩
class Zcr (T:Tbl):Prop where
 h248:Tr T 248=some row248
 h249:Tr T 249=some row249
attribute [simp] Zcr.h248 Zcr.h249
end
section
def l287_0:AX:=QZ "CilB4YxMcXgVkHVrbtMnwQ9TvxP7qbUeIoHsiv5N8sqCX.FqiZchvT"
def b287:AX:=(fun p0=>QY [p0] [] "Hvoglwd0NQj5qB6nrPLp5BSDNsq") l287_0
def l288_0:AX:=QZ "CilB4YxMcXgVkHVrbtMnwQ9TvxP7qbUeIoOhaJYreJT4cRZ3xwE4jU"
def b288:AX:=(fun p0=>QY [p0] [] "Hvoglwd0NQj5qB6nrPLp5BSDNsq") l288_0
def b289:AX:=QZ "0PCaSNv50berUzsb8w5tQ7K"
abbrev row287:AFx:=⟨1,20,[.t 2],b287,none,false⟩
abbrev row288:AFx:=⟨1,20,[.t 2],b288,none,false⟩
abbrev row289:AFx:=⟨2,9,[.t 4],b289,none,false⟩
class Zcd (T:Tbl):Prop where
 h287:Tr T 287=some row287
 h288:Tr T 288=some row288
 h289:Tr T 289=some row289
attribute [simp] Zcd.h287 Zcd.h288 Zcd.h289
end
def zf7{m:List (List Fz)}{n:Nat}(h:m.length=n)(r:List Fz):wkL (Zz (List.take n m)++[[.sl (Zc r) .an]])=Zz (m++[r]):=by
 rw[Yb (by omega),zzg,zma]
def zf8{α:Type}(l:List α){i:Nat}(h:i<l.length):l.take (i+1)=l.take i++[l[i]'h]:=Y2 h
section
variable{T:Tbl}[Z9 T][Zau T][Zaa T][Zao T][Z5 T][Zab T][Z8 T][Zas T][Zcr T][Zcd T]
def ze4(x:Fz):Zb T 248 [efz x]=some (efz x):=by
 rw[zaa Zcr.h248 rfl,b248];simp -implicitDefEqProofs
def ze5(x:Fz):Zb T 249 [efz x]=some (efz x):=by
 rw[zaa Zcr.h249 rfl,b249];simp -implicitDefEqProofs
def Zhj(l:List Fz)(i:Nat):St:=⟨[(0,.sl (Zc l) .an),(3,.bs (.loc 3) 1 3 0 i),(4,.i .i64 i)],[((.loc 3),⟨1,.own,3,Zc (l.take i)⟩)],3⟩
def zxm(l:List Fz)(hl:l.length<=4294967296) :
  Zl T 0 0 (.norm false [3]) l287_0 (Zhj l 0)=some (.n,⟨[(3,.bs (.loc 3) 1 3 0 (l.length))],[((.loc 3),⟨1,.own,3,Zc (l.take (l.length))⟩)],3⟩):=by
 refine zas (Zhj l) (l.length) _ (fun i hi=>?_) ?_
 ·have hws:=zbo hi (by omega);have hb:i<=4294967295:=by omega
  have hg:l[i]? = some (l[i]'hi):=Ya hi;have hn:=ze4 (T:=T) (l[i]'hi);have e:=zf8 l hi;have hml:(l.take i).length=i:=by simp;omega
  have hp:=zbg hml (l[i]'hi);unfold Zhj;rw[e];clear e;generalize l.take i=M at *
  simp -implicitDefEqProofs[l287_0,hi,hws,hb,hp,hml,hg,hn]
 ·unfold Zhj;rw[Yb (Yd _)];constructor<;>simp -implicitDefEqProofs[l287_0]
def zro(l:List Fz)(hl:l.length<=4294967296):Zb T 287 [.sl (Zc l) .an]=some (.sl (Zc l) .an):=by
 have h:=zxm (T:=T) l hl;unfold Zhj at h;rw[Yb7,Yb (Yd _)]at h;simp only[zcd,Yt]at h;have ht:List.take l.length l=l:=Yb (Yd _);rw[zaa Zcd.h287 rfl,b287];simp -implicitDefEqProofs[h,ht]
def Zhk(l:List Fz)(i:Nat):St:=⟨[(0,.sl (Zc l) .an),(3,.bs (.loc 3) 1 3 0 i),(4,.i .i64 i)],[((.loc 3),⟨1,.own,3,Zc (l.take i)⟩)],3⟩
def zxn(l:List Fz)(hl:l.length<=4294967296) :
  Zl T 0 0 (.norm false [3]) l288_0 (Zhk l 0)=some (.n,⟨[(3,.bs (.loc 3) 1 3 0 (l.length))],[((.loc 3),⟨1,.own,3,Zc (l.take (l.length))⟩)],3⟩):=by
 refine zas (Zhk l) (l.length) _ (fun i hi=>?_) ?_
 ·have hws:=zbo hi (by omega);have hb:i<=4294967295:=by omega
  have hg:l[i]? = some (l[i]'hi):=Ya hi;have hn:=ze5 (T:=T) (l[i]'hi);have e:=zf8 l hi;have hml:(l.take i).length=i:=by simp;omega
  have hp:=zbg hml (l[i]'hi);unfold Zhk;rw[e];clear e;generalize l.take i=M at *
  simp -implicitDefEqProofs[l288_0,hi,hws,hb,hp,hml,hg,hn]
 ·unfold Zhk;rw[Yb (Yd _)];constructor<;>simp -implicitDefEqProofs[l288_0]
def zlw(l:List Fz)(hl:l.length<=4294967296):Zb T 288 [.sl (Zc l) .an]=some (.sl (Zc l) .an):=by
 have h:=zxn (T:=T) l hl;unfold Zhk at h;rw[Yb7,Yb (Yd _)]at h;simp only[zcd,Yt]at h;have ht:List.take l.length l=l:=Yb (Yd _);rw[zaa Zcd.h288 rfl,b288];simp -implicitDefEqProofs[h,ht]
def zlx(a b:List Fz)(hl:a.length<=1000)(ha:∀x∈a,fsz x<=10000):Zb T 289 [.sl (Zc a) .an,.sl (Zc b) .an]=some (.b (decide (a=b))):=by
 have h1:=zlw (T:=T) a (by omega);have h2:=zc5 (T:=T) a b hl ha;rw[zaa Zcd.h289 rfl,b289];simp -implicitDefEqProofs[h1,h2]
end
def Zml:List (List Fz)->Nat
 | []=>0
 | r::_=>r.length
def Znz(m:List (List Fz)):Bool:=m.all fun r=>decide (r.length=Zml m)
def Zm4(m:List (List Fz))(j:Nat):List Fz:=m.map fun r=>r.getD j (false,[],[])
def Zm5(m:List (List Fz))(k:Nat):List (List Fz):=(List.range k).map fun j=>nrm (Zm4 m j)
def scM(r:List Fz)(m:List (List Fz)):List (List Fz):=List.zipWith (fun x row=>scl (fv x) row) r m
def Zn0:List (List Fz)->List Rat
 | []=>[]
 | r::m=>m.foldl Zl2 (r.map fv)
def Zm6(r:List Fz)(m:List (List Fz)):List Rat:=Zn0 (scM r m)
def Zmm(m:List (List Fz))(c:List Fz):List Rat:=m.map fun r=>Zje r c
section
variable{T:Tbl}[Zr T][Zx T][Z2 T][Zt T][Zw T][Zbb T][Zi T][Zo T][Z0 T][Zba T][Zb8 T][Zhg T]
def Zoq(m:List (List Fz))(i:Nat):St:=⟨[(0,.sl (Zz m) .an),(5,.sl (Zz m) .an),(6,.i .i64 m.length),(7,.i .i64 i)],[],2⟩
def Zor(a b:List (List Fz))(i:Nat):St:=⟨[(1,.sl (Zz b) .an),(12,.sl (Zz a) .an),(13,.i .i64 a.length),(14,.i .i64 i)],[],2⟩
def idQ(k:Nat)(i:Nat):List (List Fz):=(List.range i).map fun j=>fzs ((List.replicate k 0).set j 1)
def Zos(k:Nat)(i:Nat):St:=⟨[(0,.i .i64 k),(3,.bs (.loc 3) 1 1 0 i),(8,.i .i64 k),(9,.i .i64 i)],[((.loc 3),⟨1,.own,1,Zz (idQ k i)⟩)],3⟩
def Zot(m R:List (List Fz))(k j:Nat)(i:Nat):St:=⟨[(0,.sl (Zz m) .an),(3,.bs (.loc 3) 1 1 0 j),(4,.i .i64 j),(5,.bs (.loc 5) 2 3 0 i),(12,.i .i64 k),(13,.i .i64 j),(16,.sl (Zz m) .an),(17,.i .i64 m.length),(18,.i .i64 i)],[(.loc 3,⟨1,.own,1,Zz R⟩),((.loc 5),⟨2,.own,3,Zc (nrm (Zm4 (m.take i) j))⟩)],4⟩
def Zns(m:List (List Fz))(k:Nat)(i:Nat):St:=⟨[(0,.sl (Zz m) .an),(3,.bs (.loc 3) 1 1 0 i),(12,.i .i64 k),(13,.i .i64 i)],[((.loc 3),⟨1,.own,1,Zz (Zm5 m i)⟩)],3⟩
end
section
variable{T:Tbl}[Zr T][Zx T][Z2 T][Zt T][Zw T][Zbb T][Zi T][Zo T][Z0 T][Zba T][Zb8 T][Zhg T]
def Zou(r:List Fz)(m:List (List Fz))(i:Nat):St:=⟨[(0,.sl (Zc r) .an),(6,.bs (.loc 6) 1 1 0 i),(19,.sl (Zz m) .an),(20,.i .i64 m.length),(21,.i .i64 i)],[((.loc 6),⟨1,.own,1,Zz (scM (r.take i) (m.take i))⟩)],3⟩
def Zov(m:List (List Fz))(c:List Fz)(i:Nat):St:=⟨[(1,.sl (Zc c) .an),(6,.bs (.loc 6) 1 3 0 i),(21,.sl (Zz m) .an),(22,.i .i64 m.length),(23,.i .i64 i)],[((.loc 6),⟨1,.own,3,Zc (fzs (Zmm (m.take i) c))⟩)],3⟩
def Zn1(a b:List (List Fz)):List (List Fz):=a.map fun r=>fzs (Zm6 r b)
def Zow(a m:List (List Fz))(i:Nat):St:=⟨[(1,.sl (Zz m) .an),(6,.bs (.loc 6) 1 1 0 i),(26,.sl (Zz a) .an),(27,.i .i64 a.length),(28,.i .i64 i)],[((.loc 6),⟨1,.own,1,Zz (Zn1 (a.take i) m)⟩)],3⟩
def Zn2(a b:List (List Fz)):List (List Fz):=List.zipWith (fun r s=>fzs (Zl2 (r.map fv) s)) a b
def Zox(a m:List (List Fz))(i:Nat):St:=⟨[(1,.sl (Zz m) .an),(6,.bs (.loc 6) 1 1 0 i),(33,.sl (Zz a) .an),(34,.i .i64 a.length),(35,.i .i64 i)],[((.loc 6),⟨1,.own,1,Zz (Zn2 (a.take i) (m.take i))⟩)],3⟩
end
def Znh:List Rat->List Rat->Rat
 | x::a,y::b=>x*y+Znh a b
 | _,_=>0
def Zoj(m:List (List Fz)):List (List Rat):=m.map fun r=>r.map fv
def fzM(L:List (List Rat)):List (List Fz):=L.map fzs
def Zlh:List (List Rat)->Nat
 | []=>0
 | r::_=>r.length
def Zok(L:List (List Rat)):Bool:=L.all fun r=>decide (r.length=Zlh L)
def Zmq(L:List (List Rat))(j:Nat):List Rat:=L.map fun p=>p.getD j 0
def Zni(L:List (List Rat)):List (List Rat):=(List.range (Zlh L)).map (Zmq L)
def Zli(L:List (List Rat))(c:List Rat):List Rat:=L.map fun p=>Znh p c
def Zpl(r:List Rat)(L:List (List Rat)):List Rat:=Zli (Zni L) r
def Zm1(q:Rat):Rat:=if q<0 then -q else q
def Zm9(p:List (Fz×List Fz))(acc:List Rat):List Rat:=p.foldl (fun a q=>Zoa (fv q.1) a q.2) acc
section
variable{T:Tbl}[Zr T][Zx T][Z2 T][Zt T][Zw T][Zbb T][Zi T][Zo T][Z0 T][Zba T][Zb8 T]
def Zpv(C:List Fz)(k j n:Nat)(l:List (List Fz))(r:List Fz)(L acc:List Rat)(i:Nat):St:=
 ⟨[(0,.sl (Zc C) .an),(10,.bs (.fld (.loc 40) 9) 1 3 0 n),(11,.i .i64 k),(41,.sl (Zz l) .an),(42,.i .i64 j),(43,.i .i64 k),(54,.sl (Zc r) .an),(55,.i .i64 n),(56,.i .i64 i)],
  [(.fld (.loc 40) 9,⟨1,.own,3,Zc (fzs (L.take i++acc.drop i))⟩)],3⟩
def Zpw(C:List Fz)(n:Nat)(l:List (List Fz))(acc:List Rat)(k:Nat):St:=
 ⟨[(0,.sl (Zc C) .an),(10,.bs (.fld (.loc 40) 9) 1 3 0 n),(41,.sl (Zz l) .an),(42,.i .i64 l.length),(43,.i .i64 k)],[(.fld (.loc 40) 9,⟨1,.own,3,Zc (fzs (Zm9 ((C.zip l).take k) acc))⟩)],3⟩
def Zpx(C:List Fz)(l:List (List Fz))(n i:Nat):St:=⟨[(0,.sl (Zc C) .an),(1,.sl (Zz l) .an),(2,.i .i64 n),(28,.sl (Zz l) .an),(29,.i .i64 l.length),(30,.i .i64 i)],[],2⟩
end
def Znm(c:Rat)(l:List Rat):List Rat:=l.map fun x=>c*x
def Zol(a b:List Rat):List Rat:=List.zipWith (· + ·) a b
def Zl3(b x:Rat):Rat:=if b<Zm1 x then Zm1 x else b
def Zme(l:List Rat):Rat:=l.foldl Zl3 0
def Zom:List (Rat×List Rat)->List Rat->List Rat
 | [],acc=>acc
 | p::l,acc=>Zom l (Zol acc (Znm p.1 p.2))
def sqC:List UInt32->Nat
 | []=>0
 | x::r=>4294967296*(x.toNat*val r)+4294967296*4294967296*sqC r
def sqD:List UInt32->Nat
 | []=>0
 | x::r=>x.toNat*x.toNat+4294967296*4294967296*sqD r
theorem z2p:∀a:List UInt32,2*sqC a+sqD a=val a*val a
 | []=>rfl
 | x::r=>by
  have ih:=z2p r;simp only[sqC,sqD,zaj]
  grind
def zn9(i:Nat):4294967296^(2*i+2)=4294967296^(2*i)*(4294967296*4294967296):=by
 rw[Ybb]
def zoa{x L:Nat}(h:(ofN x).length<=L):(ofN (x*2^1)).length<=L+1:=by
 refine zal ?_;have h1:=zau (ofN x);rw[zad]at h1;have h2:4294967296^(ofN x).length<=4294967296^L:=Yp (by decide) h;omega
section
variable{T:Tbl}[Zan T][Zr T][Zx T][Z2 T][Zcj T]
def zry(a:List UInt32)(ha:a.length<=1000000):Zb T 356 [.sl (Za a) .an]=some (.i .i64 (Zai (val a))):=by
 have h1:=zbe (T:=T) a (by omega);have hl:=zac a;have hv:val (ofN (val a))=val a:=zad _;rw[zaa Zcj.h356 rfl,b356];by_cases h0:val a=0
 ·have e:ofN (val a)=[]:=zan.2 h0;have eb:Zai (val a)=0:=by rw[h0];rfl
  rw[e]at h1;rw[eb];simp -implicitDefEqProofs[h1]
 ·have hne:ofN (val a)≠[]:=fun h=>h0 (zan.1 h);obtain⟨B,x,hB⟩:∃B x,ofN (val a)=B++[x]:=⟨_,_,(Yct hne).symm⟩;have hx0:x.toNat≠0:=by
   intro hx;have e1:val (ofN (val a))=val B:=by
    rw[hB,zag];simp[hx]
   have e2:ofN (val B)=ofN (val a):=by rw[<-e1,zad]
   have e3:=zac B;rw[e2,hB]at e3;simp at e3;omega
  have hlog:Zai (val a)=32*B.length+Zai x.toNat:=by
   have hdiv:val a/2^(32*B.length)=x.toNat:=by
    have e1:val a=val B+4294967296^B.length*x.toNat:=by
     rw[<-hv,hB,zag];simp
    have e2:2^(32*B.length)=4294967296^B.length:=by
     rw[Yc9]
    have e3:=zau B;rw[e2,e1,Yb5 _ _ (by omega),Ybi e3,Yaw]
   have:=zko (n:=val a) (s:=32*B.length) (by rw[hdiv];exact hx0);rw[hdiv]at this;exact this
  have hbl:B.length+1<=1000000:=by
   have:=congrArg List.length hB;simp at this;omega
  have hL:=zrt (T:=T) x;have hb32:Zai x.toNat<=32:=by
   have hx:=zak x;unfold Zai;split
   ·omega
   ·have:=(Yex (n:=x.toNat) (k:=32) (by assumption)).2 (by omega);omega
  rw[hB]at h1;rw[hlog];have w2:IntKind.wrap .i64 (32*(B.length:Int))=32*(B.length:Int):=zab _ (by omega);have w3:IntKind.wrap .i64 (32*(B.length:Int)+(Zai x.toNat:Int))=32*(B.length:Int)+(Zai x.toNat:Int):=zab _ (by omega);have w4:IntKind.wrap .i64 (B.length:Int)=B.length:=zab _ (by omega);have n1:¬ (B.length:Int)+1=0:=by omega
  have n2:(B.length:Int)<(B.length:Int)+1:=by omega
  simp -implicitDefEqProofs[h1,hL,w2,w3,w4,n1,n2]
def Zjs(a X:List UInt32)(i:Nat):St:=
 ⟨[(0,.sl (Za a) .an),(3,.bs (.loc 14) 1 1 0 (2*a.length+1)),(15,.sl (Za a) .an),(16,.i .i64 a.length),(17,.i .i64 i)],[(.loc 14,⟨1,.own,1,Za (X++List.replicate (a.length+1-i) 0)⟩)],3⟩
def z07(a:List UInt32)(ha:a.length<=100000):∀y:Nat×List UInt32,
  (y.1<=a.length/\y.2.length=a.length+y.1/\val y.2+4294967296^(2*y.1)*sqC (a.drop y.1)=sqC a) ->
  ∃r,(∃out:List UInt32,r=(Ex.n,(⟨[(0,.sl (Za a) .an),(3,.bs (.loc 14) 1 1 0 (2*a.length+1))],[(.loc 14,⟨1,.own,1,Za out⟩)],3⟩:St))/\out.length=2*a.length+1/\val out=sqC a) /\
   Zl T 0 0 (.norm false [0,3]) l357_0 (Zjs a y.2 y.1)=some r:=by
 refine zaq _ _ (fun y=>a.length-y.1) _ ?_
 rintro⟨i,X⟩ ⟨hi,hX,hv⟩
 simp only at hi hX hv;by_cases h0:i<a.length
 ·left;have hw:IntKind.wrap .i64 ((i:Int)+1)=((i+1:Nat):Int):=zab _ (by omega);have hw2:IntKind.wrap .i64 (2*(i:Int))=2*(i:Int):=zab _ (by omega);have hw3:IntKind.wrap .i64 (2*(i:Int)+1)=((2*i+1:Nat):Int):=zab _ (by omega);have hdl:(a.drop (i+1)).length=a.length-(i+1):=Yby;obtain⟨m,hm1,hm2,hc⟩:=zl1 (T:=T) (X.take (2*i+1)) (X.drop (2*i+1)++List.replicate (a.length+1-i) 0) (a.drop (i+1)) (a[i]'h0).toNat 0 (zak _) (by decide) (by simp;omega) (by simp;omega);have e1:X.take (2*i+1)++(X.drop (2*i+1)++List.replicate (a.length+1-i) 0)=X++List.replicate (a.length+1-i) 0:=by rw[<-Yay,Yau]
  have e2:(X.take (2*i+1)).length=2*i+1:=by simp;omega
  have e3:(X.drop (2*i+1)++List.replicate (a.length+1-i) 0).length=2*a.length+1-(2*i+1):=by simp;omega
  have e4:2*i+1+(2*a.length+1-(2*i+1))=2*a.length+1:=by omega
  have e5:(X.drop (2*i+1)++List.replicate (a.length+1-i) 0).drop ((a.drop (i+1)).length+1)=List.replicate (a.length+1-(i+1)) 0:=by
   rw[Ydr,Ya1 (by simp;omega),Ydz];simp only[Ya5,Yby];congr 1;omega
  have e6:(X.drop (2*i+1)++List.replicate (a.length+1-i) 0).take (a.drop (i+1)).length=X.drop (2*i+1):=by
   rw[Ybp (by simp;omega),Yb (by simp;omega)]
  rw[e1,e2,e3,e4,e5]at hc;refine⟨(i+1,X.take (2*i+1)++m),⟨h0,by simp only[Yo,e2,hm1];omega,?_⟩,by omega,?_⟩
  ·simp only;have e7:=zag (X.take (2*i+1)) (X.drop (2*i+1));rw[Yau,e2]at e7;rw[Yi h0]at hv;simp only[sqC]at hv;rw[zag,e2,hm2];have p1:4294967296^(2*i+1)=4294967296^(2*i)*4294967296:=Y7 ..;have p2:4294967296^(2*(i+1))=4294967296^(2*i)*(4294967296*4294967296):=zn9 i;rw[p1]at e7 ⊢;rw[p2,<-hv,e7];generalize 4294967296^(2*i)=q;generalize val (a.drop (i+1))=v;generalize sqC (a.drop (i+1))=w;generalize (4294967296:Nat)=p
   grind
  ·have hle:(i:Int)+1<=a.length:=by omega
   have hm3:((2*i+1:Nat):Int)=2*(i:Int)+1:=by omega
   rw[hm3]at hc hw3;simp -implicitDefEqProofs[l357_0,Zjs,h0,hw,hw2,hw3,hc,hle]
 ·right;have:i=a.length:=by omega
  subst this;refine⟨_,⟨X++List.replicate (a.length+1-a.length) 0,rfl,by simp;omega,by rw[zag,zaw];simp[sqC]at hv;simp[hv]⟩,?_,?_⟩<;>simp -implicitDefEqProofs[l357_0,Zjs]
def Zjt(a X:List UInt32)(U:List (List AV))(i:Nat):St:=
 ⟨[(6,.sl U .an),(7,.bs (.loc 38) 1 1 0 (2*a.length)),(39,.sl (Za a) .an),(40,.i .i64 a.length),(41,.i .i64 i)],[(.loc 38,⟨1,.own,1,Za (X++List.replicate (2*a.length-2*i) 0)⟩)],3⟩
def z08(a:List UInt32)(U:List (List AV))(hU:wkL U=U)(ha:a.length<=100000):∀y:Nat×List UInt32,
  (y.1<=a.length/\y.2.length=2*y.1/\val y.2+4294967296^(2*y.1)*sqD (a.drop y.1)=sqD a) ->
  ∃r,(∃out:List UInt32,r=(Ex.n,(⟨[(6,.sl U .an),(7,.bs (.loc 38) 1 1 0 (2*a.length))],[(.loc 38,⟨1,.own,1,Za out⟩)],3⟩:St))/\out.length=2*a.length/\val out=sqD a) /\
   Zl T 0 2 (.norm false [6,7]) l357_1 (Zjt a y.2 U y.1)=some r:=by
 refine zaq _ _ (fun y=>a.length-y.1) _ ?_
 rintro⟨i,X⟩ ⟨hi,hX,hv⟩
 simp only at hi hX hv;by_cases h0:i<a.length
 ·left;have hm:=zrr (T:=T) (a[i]'h0) (a[i]'h0) 0 0;obtain⟨hi_,hhi⟩:∃h:UInt32,h=w32 (((a[i]'h0).toNat*(a[i]'h0).toNat+(0:UInt32).toNat+(0:UInt32).toNat)/4294967296):=⟨_,rfl⟩;obtain⟨lo_,hlo⟩:∃h:UInt32,h=w32 ((a[i]'h0).toNat*(a[i]'h0).toNat+(0:UInt32).toNat+(0:UInt32).toNat):=⟨_,rfl⟩;rw[<-hhi,<-hlo]at hm;have hx:=zak (a[i]'h0);have hval:lo_.toNat+4294967296*hi_.toNat=(a[i]'h0).toNat*(a[i]'h0).toNat:=by
   have hlt:=zg5 hx hx;have e0:(0:UInt32).toNat=0:=rfl;rw[hlo,hhi,zbf,zbf,e0];omega
  have hw:IntKind.wrap .i64 ((i:Int)+1)=((i+1:Nat):Int):=zab _ (by omega);have hw2:IntKind.wrap .i64 (2*(i:Int))=2*(i:Int):=zab _ (by omega);have hw3:IntKind.wrap .i64 (2*(i:Int)+1)=2*(i:Int)+1:=zab _ (by omega);have e1:(X++List.replicate (2*a.length-2*i) (0:UInt32))=X++0::0::List.replicate (2*a.length-2*(i+1)) 0:=by
   rw[show 2*a.length-2*i=(2*a.length-2*(i+1))+1+1 by omega,Ybq,Ybq]
  have e2:((X++0::0::List.replicate (2*a.length-2*(i+1)) (0:UInt32)).set (2*i+1) hi_).set (2*i) lo_=X++[lo_,hi_]++List.replicate (2*a.length-2*(i+1)) 0:=by
   rw[Yad _ _ (by omega),Yad _ _ (by omega),hX,Ybf,show 2*i+1-2*i=1 by omega];simp
  refine⟨(i+1,X++[lo_,hi_]),⟨h0,by simp;omega,?_⟩,by omega,?_⟩
  ·simp only;rw[Yi h0]at hv;simp only[sqD]at hv;rw[zag,hX];simp only[zaj,za2,Yam,Y6];have p2:4294967296^(2*(i+1))=4294967296^(2*i)*(4294967296*4294967296):=zn9 i;rw[p2,<-hv,<-hval];generalize 4294967296^(2*i)=q;generalize sqD (a.drop (i+1))=w;generalize (4294967296:Nat)=p
   grind
  ·unfold Zjt;rw[e1,<-e2];have hl:(X++0::0::List.replicate (2*a.length-2*(i+1)) (0:UInt32)).length=2*a.length:=by simp;omega
   generalize (X++0::0::List.replicate (2*a.length-2*(i+1)) (0:UInt32))=B at *
   have s1:(Za B).set (2*i+1) [u32 hi_.toNat]=Za (B.set (2*i+1) hi_):=by simp[Za,Yeo]
   have s2:(Za (B.set (2*i+1) hi_)).set (2*i) [u32 lo_.toNat]=Za ((B.set (2*i+1) hi_).set (2*i) lo_):=by simp[Za,Yeo]
   have b1:2*i+1<2*a.length:=by omega
   have b2:2*i<2*a.length:=by omega
   have b3:2*(i:Int)+1<2*(a.length:Int):=by omega
   have b5:(0:Int)<=2*(i:Int)+1:=by omega
   have b6:(0:Int)<=2*(i:Int):=by omega
   have b7:(2*(i:Int)+1).toNat=2*i+1:=by omega
   have b8:(2*(i:Int)).toNat=2*i:=by omega
   have z0:(0:UInt32).toNat=0:=rfl;rw[z0]at hm;have hl2:((B.set (2*i+1) hi_)).length=2*a.length:=by simp[hl]
   simp -implicitDefEqProofs[l357_1,h0,hw,hw2,hw3,hm,hl,s1,s2,b1,b2,b3,b5,b6,b7,b8,hl2,hU]
 ·right;have:i=a.length:=by omega
  subst this;refine⟨_,⟨X++List.replicate (2*a.length-2*a.length) 0,rfl,by simp;omega,by simp[sqD]at hv;simp[hv]⟩,?_,?_⟩<;>simp -implicitDefEqProofs[l357_1,Zjt,hU]
def zp7(a:List UInt32)(ha:a.length<=4000):Zb T 357 [.sl (Za a) .an]=some (.sl (Za (ofN (val a*val a))) .an):=by
 obtain⟨_,⟨out,rfl,ho,hv⟩,hr⟩:=z07 (T:=T) a (by omega) (0,List.replicate a.length 0) ⟨Yu _,by simp,by simp[zaw]⟩;unfold Zjs at hr;have hup:=z5w (T:=T) out 1 (by decide) (by omega);rw[Yeq]at hup;have hupl:(ofN (val out*2^1)).length<=10000:=by
  have h1:=zac out;have h2:=zoa (x:=val out) (L:=out.length) (by omega);omega
 obtain⟨_,⟨dg,rfl,hd,hdv⟩,hr2⟩:=z08 (T:=T) a (Za (ofN (val out*2^1))) (by simp) (by omega) (0,[]) ⟨Yu _,rfl,by simp⟩;unfold Zjt at hr2;have hn:=zxy (T:=T) [ofN (val out*2^1),dg] (by simp) (by
  intro x hx;simp only[Yr,Ya6,or_false]at hx;rcases hx with rfl | rfl<;>omega)
 have e1:lls [ofN (val out*2^1),dg]=[[.sl (Za (ofN (val out*2^1))) .an],[.sl (Za dg) .an]]:=rfl;have e2:Zdx [ofN (val out*2^1),dg]=val a*val a:=by
  simp only[Zdx,Y3,Yb2,zad,Yez,List.sum_nil,hv,hdv];have:=z2p a;omega
 rw[e1,e2]at hn;simp only[Yt,Ya5,Ydc,Yam]at hr hr2;have e3:List.replicate a.length (0:UInt32)++List.replicate (a.length+1) 0=List.replicate (2*a.length+1) 0:=by
  rw[Ycm];congr 1;omega
 rw[e3]at hr;have w1:IntKind.wrap .i64 (2*(a.length:Int))=2*(a.length:Int):=zab _ (by omega);have w2:IntKind.wrap .i64 (2*(a.length:Int)+1)=2*(a.length:Int)+1:=zab _ (by omega);have n1:(0:Int)<=2*(a.length:Int)+1:=by omega
 have n2:2*(a.length:Int)+1<=4294967296:=by omega
 have n3:(0:Int)<=2*(a.length:Int):=by omega
 have n4:2*(a.length:Int)<=4294967296:=by omega
 have n5:(2*(a.length:Int)+1).toNat=2*a.length+1:=by omega
 have n6:(2*(a.length:Int)).toNat=2*a.length:=by omega
 have t1:List.take (2*a.length+1) out=out:=Yb (by omega);have t2:List.take (2*a.length) dg=dg:=Yb (by omega);rw[zaa Zcj.h357 rfl,b357];simp -implicitDefEqProofs[w1,w2,n1,n2,n3,n4,n5,n6,hr,ho,t1,hup,hr2,hd,t2,hn]
end
def z43(e m:Nat)(hm:m<=63):Z7 .shr (.i .i64 (e:Int)) (.i .i64 (m:Int))=some (.i .i64 ((e/2^m:Nat):Int)):=by
 have h1:¬ (m:Int)<0:=by omega
 have h2:min m 64=m:=by omega
 simp only[Z7,IntKind.bits,h1,if_false,Yc1,h2];rw[Int.fdiv_eq_ediv_of_nonneg _ (Int.le_of_lt (Int.pow_pos (by decide)))]
 norm_cast
def z44(k:Nat)(hk:k<9223372036854775808):Z7 .and (.i .i64 (k:Int)) (.i .i64 1)=some (.i .i64 ((k%2:Nat):Int)):=by
 show some (AV.i .i64 (IntKind.wrap .i64 ((BitVec.ofInt 64 (k:Int) &&& BitVec.ofInt 64 1).toNat:Int)))=_;have h1:(BitVec.ofInt 64 (k:Int)).toNat=k:=by
  rw[BitVec.ofInt_natCast,BitVec.toNat_ofNat];omega
 have h2:(BitVec.ofInt 64 1).toNat=1:=rfl;rw[BitVec.toNat_and,h1,h2,Nat.and_one_is_mod,zab _ (by omega)]
def zx6(e m:Nat):e/2^m=2*(e/2^(m+1))+e/2^m%2:=by
 rw[Y7,<-Ybc];omega
def zrz(x e:Nat)(h:e*Zai x<=65536):(ofN (x^e)).length<=2048:=by
 by_cases h1:x^e=0
 ·rw[h1];have:ofN 0=[]:=zan.2 rfl;rw[this]
  decide
 by_cases hx:x=0
 ·subst hx;cases e with
  | zero=>exact Yc (zal (k:=1) (by decide)) (by decide)
  | succ e=>simp at h1
 ·refine zal ?_;generalize hk:(2048:Nat)=k;have h2:x<2^Zai x:=by
   unfold Zai;rw[if_neg hx];exact Yc6
  have h5:∀m,(2:Nat)^(32*m)=4294967296^m:=fun m=>by rw[Yc9]
  cases e with
  | zero=>exact Nat.one_lt_pow (by omega) (by decide)
  | succ e=>
   have h3:x^(e+1)<(2^Zai x)^(e+1):=Nat.pow_lt_pow_left h2 (by omega);rw[<-Yc9,Yah]at h3;refine Yq h3 ?_;rw[<-h5];exact Yp (by decide) (by omega)
def zx7{e:Nat}(h:e<9223372036854775808):Zai e<=63:=by
 unfold Zai;split
 ·omega
 ·next h0=>
  have:=(Yex (n:=e) (k:=63) h0).2 h;omega
def z09(e:Nat):e/2^Zai e=0:=by
 unfold Zai;split
 ·next h=>simp[h]
 ·exact Ybi Yc6
section
variable{T:Tbl}[Zan T][Zr T][Zx T][Z2 T][Zcj T]
def z1a(a:List UInt32)(e:Nat)(ha:a.length<=3000)(he:e<9223372036854775808)(hb:e*Zai (val a)<=65536):∀b:Nat,b<=63 ->
  Zl T 0 0 (.norm false [7]) l258_0 ⟨[(0,.sl (Za a) .an),(1,.i .i64 e),(7,.sl (Za (ofN (val a^(e/2^b)))) .an),(8,.i .i64 ((b:Int)-1))],[],2⟩ =
   some (.n,⟨[(7,.sl (Za (ofN (val a^e))) .an)],[],2⟩):=by
 refine zat (fun b:Nat=>⟨[(0,.sl (Za a) .an),(1,.i .i64 e),(7,.sl (Za (ofN (val a^(e/2^b)))) .an),(8,.i .i64 ((b:Int)-1))],[],2⟩) (fun b=>b<=63) (fun b=>b) (fun _=>_) ?_;intro b hb63;cases b with
 | zero=>
  right;rw[Ydm,Yey];constructor<;>simp -implicitDefEqProofs[l258_0]
 | succ m=>
  left;have hs:=zx6 e m;have hmul:∀k,k<=e->k*Zai (val a)<=65536:=fun k hk=>Yc (Y4 _ hk) hb;have hd0:e/2^m<=e:=Ybg _ _;have l1:=zrz (val a) (e/2^(m+1)) (hmul _ (Ybg _ _));have l2:=zrz (val a) (2*(e/2^(m+1))) (hmul _ (by omega));have c1:=zp7 (T:=T) (ofN (val a^(e/2^(m+1)))) (by omega);rw[zad,<-Ybb,<-Nat.two_mul]at c1;have c2:=zgb (T:=T) (ofN (val a^(2*(e/2^(m+1))))) a (by omega) (by omega);rw[zad,<-Nat.pow_add_one]at c2;have hsh:=z43 e m (by omega);have han:=z44 (e/2^m) (by omega);have w1:IntKind.wrap .i64 ((m:Int)-1)=(m:Int)-1:=zab _ (by omega);have p1:(0:Int)<=m:=by omega
  have e1:((m+1:Nat):Int)-1=m:=by omega
  refine⟨m,by omega,by simp,?_,rfl⟩;rcases Nat.mod_two_eq_zero_or_one (e/2^m) with h0 | h0
  ·rw[h0]at han hs;rw[Y6]at hs;rw[<-hs]at c1;generalize e/2^m=q at *
   simp -implicitDefEqProofs[l258_0,p1,c1,hsh,han,w1]
  ·rw[h0]at han hs;rw[<-hs]at c2;generalize e/2^m=q at *
   simp -implicitDefEqProofs[l258_0,p1,c1,c2,hsh,han,w1]
def z1b(a:List UInt32)(e:Nat)(ha:a.length<=3000)(h2:2<=Zai (val a))(hb:e<=65536/Zai (val a)) :
  Zb T 258 [.sl (Za a) .an,.i .i64 e]=some (.tup [.sl (Za (ofN (val a^e))) .an,.b true]):=by
 have hmul:e*Zai (val a)<=65536:=Yc (Y4 _ hb) (Nat.div_mul_le_self _ _);have he:e<=65536:=Yc hb (Ybg _ _);have c1:=zry (T:=T) a (by omega);have c2:=zep (T:=T) 1 (by decide);have c3:=zep (T:=T) e (by omega);have c4:=zry (T:=T) (ofN e) (by
  have:=zal (n:=e) (k:=1) (by omega);omega)
 rw[zad]at c4;have hl:=z1a (T:=T) a e ha (by omega) hmul (Zai e) (zx7 (by omega));rw[z09,Ydm]at hl;have hbe:=zx7 (e:=e) (by omega);have hq:((65536:Int)).tdiv (Zai (val a):Int)=((65536/Zai (val a):Nat):Int):=by
  rfl
 have hbl:65536/Zai (val a)<=65536:=Ybg _ _;have w0:IntKind.wrap .i64 ((65536/Zai (val a):Nat):Int)=((65536/Zai (val a):Nat):Int):=zab _ (by omega);have w1:IntKind.wrap .i64 ((Zai e:Int)-1)=(Zai e:Int)-1:=zab _ (by omega);have q1:¬ (e:Int)<0:=by omega
 have q2:(1:Int)<(Zai (val a):Int):=by omega
 have q3:¬ ((65536/Zai (val a):Nat):Int)<(e:Int):=by omega
 have q4:¬ (Zai (val a):Int)<2:=by omega
 have q5':¬ Zai (val a)=0:=by omega
 have qm:((e:Int)%18446744073709551616).toNat=e:=by omega
 rw[zaa Zcj.h258 rfl,b258];generalize 65536/Zai (val a)=Q at *
 simp -implicitDefEqProofs[c1,c2,c3,c4,hl,hq,w0,w1,q1,q2,q3,q4,q5',qm]
end
section
def l309_0:AX:=QZ "7Tv4M_YFswDsgZMl6ovFDqL9YkjUVs3H2qOp2woys5aRWuMTHJGItr6d4vS"
def b309:AX:=(fun p0=>QY [p0] [] "qOm2EII9vAJmRHeK_HdvEVhRQzLk3q_wA9w.") l309_0
abbrev row309:AFx:=⟨2,27,[.t 4],b309,none,false⟩
class Zfh (T:Tbl):Prop where
 h309:Tr T 309=some row309
attribute [simp] Zfh.h309
end
class Zge (T:Tbl):Prop where
section
variable{T:Tbl}[Z9 T][Zau T][Zaa T][Zao T][Z5 T][Zab T][Z8 T][Zas T][Zge T]
def Zo6(m:List (List Fz))(i:Nat):St:=⟨[(0,.sl (Zz m) .an),(3,.i .i64 i)],[],2⟩
def Zo7(m:List (List Fz))(i:Nat):St:=⟨[(0,.sl (Zz m) .an),(3,.bs (.loc 3) 1 1 0 i),(4,.i .i64 i)],[((.loc 3),⟨1,.own,1,Zz (fzM (Zoj (m.take i)))⟩)],3⟩
def Zo8(a b:List (List Fz))(i:Nat):St:=⟨[(0,.sl (Zz a) .an),(1,.sl (Zz b) .an),(5,.i .i64 i)],[],2⟩
def Zo9(n:Int)(k:Nat)(i:Nat):St:=⟨[(0,.i .i64 n),(3,.bs (.loc 3) 1 1 0 i),(4,.i .i64 i)],[((.loc 3),⟨1,.own,1,Zz (idQ k i)⟩)],3⟩
def Zn8(L:List (List Rat))(R:List (List Fz))(j:Nat)(i:Nat):St:=⟨[(0,.sl (Zz (fzM L)) .an),(3,.bs (.loc 3) 1 1 0 j),(4,.i .i64 j),(5,.bs (.loc 5) 2 3 0 i),(6,.i .i64 i)],[(.loc 3,⟨1,.own,1,Zz R⟩),((.loc 5),⟨2,.own,3,Zc (fzs (Zmq (L.take i) j))⟩)],4⟩
def Zn9(L:List (List Rat))(i:Nat):St:=⟨[(0,.sl (Zz (fzM L)) .an),(3,.bs (.loc 3) 1 1 0 i),(4,.i .i64 i)],[((.loc 3),⟨1,.own,1,Zz (fzM ((List.range i).map (Zmq L)))⟩)],3⟩
def Zpa(L:List (List Rat))(c:List Rat)(i:Nat):St:=⟨[(0,.sl (Zz (fzM L)) .an),(1,.sl (Zc (fzs c)) .an),(5,.bs (.loc 5) 1 3 0 i),(6,.i .i64 i)],[((.loc 5),⟨1,.own,3,Zc (fzs (Zli (L.take i) c))⟩)],3⟩
def Zpb(m:List (List Fz))(many words:Nat):Bool:=decide (many<m.length) || m.any fun r=>Zbz r many words
def Zpc(m:List (List Fz))(many words:Nat)(i:Nat):St:=⟨[(0,.sl (Zz m) .an),(1,.i .i64 many),(2,.i .i64 words),(7,.i .i64 i)],[],2⟩
end
section
variable{T:Tbl}[Zr T][Zx T][Z2 T][Zt T][Zw T][Zbb T][Zi T][Zo T][Z0 T][Zba T][Zb8 T][Zhg T][Z9 T][Zau T][Zaa T][Zao T][Z5 T][Zab T][Z8 T][Zas T][Zge T][Zcr T][Zcd T][Zfh T]
def Zn3(m:List (List Fz))(i:Nat):St:=⟨[(0,.sl (Zz m) .an),(3,.bs (.loc 3) 1 1 0 i),(4,.i .i64 i)],[((.loc 3),⟨1,.own,1,Zz (m.take i)⟩)],3⟩
def Zgf(a b:List (List Fz))(i:Nat):St:=⟨[(0,.sl (Zz a) .an),(1,.sl (Zz b) .an),(5,.i .i64 i)],[],2⟩
def zxo(a b:List (List Fz))(hab:a.length=b.length)(hl:a.length<=1000)(hw:∀r∈a,r.length<=1000)(ha:∀r∈a,∀x∈r,fsz x<=10000) :
  Zl T 0 0 (.norm false []) l309_0 (Zgf a b 0)=if a.drop 0=b.drop 0 then some (.n,⟨[],[],2⟩) else some (.r,⟨[(4,.b false)],[],2⟩):=by
 refine zay (Zgf a b) a.length (fun i=>if a.drop i=b.drop i then some (.n,⟨[],[],2⟩) else some (.r,⟨[(4,.b false)],[],2⟩)) (fun i hi=>?_) ?_
 ·have hib:i<b.length:=by omega
  have hws:=zbo hi (by omega);have c:=zlx (T:=T) (a[i]'hi) (b[i]'hib) (hw _ (Yx hi)) (ha _ (Yx hi));have hib':(i:Int)<b.length:=by omega
  have key:(a.drop i=b.drop i)↔((a[i]'hi)=(b[i]'hib)/\a.drop (i+1)=b.drop (i+1)):=by
   grind[List.drop_eq_getElem_cons]
  by_cases he:(a[i]'hi)=(b[i]'hib)
  ·left;refine⟨?_,by grind⟩;unfold Zgf;rw[decide_eq_true he]at c;simp -implicitDefEqProofs[l309_0,hi,hws,c,hib,hib']
  ·right;rw[if_neg (fun h=>he (key.1 h).1)];unfold Zgf;rw[decide_eq_false he]at c;constructor<;>simp -implicitDefEqProofs[l309_0,hi,c,hib,hib']
 ·rw[Y8,if_pos (by rw[hab,Y8])];unfold Zgf;constructor<;>simp -implicitDefEqProofs[l309_0]
def z0s(a b:List (List Fz))(hl:a.length<=1000)(hw:∀r∈a,r.length<=1000)(ha:∀r∈a,∀x∈r,fsz x<=10000):Zb T 309 [.sl (Zz a) .an,.sl (Zz b) .an]=some (.b (decide (a=b))):=by
 rw[zaa Zfh.h309 rfl,b309];by_cases hab:a.length=b.length
 ·have h:=zxo (T:=T) a b hab hl hw ha;rw[Yaj,Yaj]at h;unfold Zgf at h;simp only[Yt]at h;have hab':(b.length:Int)=a.length:=by omega
  by_cases he:a=b
  ·subst he;simp -implicitDefEqProofs[h]
  ·simp -implicitDefEqProofs[hab',h,he]
 ·have he:¬ a=b:=fun h=>hab (by rw[h]);have hab':¬ (a.length:Int)=b.length:=by omega
  simp -implicitDefEqProofs[hab',he]
end
class Zmz (T:Tbl):Prop where
def Zna(l:List Rat):Nat->Nat
 | 0=>0
 | n+1=>if l.getD n 0=0 then Zna l n else n+1
def Zo4(l:List Rat):List Rat:=l.take (Zna l l.length)
section
variable{T:Tbl}[Zr T][Zx T][Z2 T][Zt T][Zw T][Zbb T][Zi T][Zo T][Z0 T][Zba T][Zb8 T][Zmz T]
def Zn6:List Rat->Rat->Rat
 | [],_=>0
 | a::l,x=>Zn6 l x*x+a
def dif(l:List Rat):List Rat:=(List.range (l.length-1)).map fun(i:Nat)=>(((i:Int)+1:Int):Rat)*l.getD (i+1) 0
def Zpy(l:List Fz)(i:Nat):St:=⟨[(0,.sl (Zc l) .an),(3,.bs (.loc 3) 1 3 0 i),(4,.i .i64 ((i:Int)+1))],[((.loc 3),⟨1,.own,3,Zc (fzs ((dif (l.map fv)).take i))⟩)],3⟩
end
def Zlb(x:Fz):Nat:=Zai (val x.2.1)+Zai (val x.2.2)
def Znc(l:List Fz):Nat:=l.foldl (fun n x=>max n (Zlb x)) 0
section
variable{T:Tbl}[Zan T][Zr T][Zx T][Z2 T][Zt T][Zw T][Zbb T][Zi T][Zo T][Z0 T][Zc1 T][Zb3 T][Zcj T][Zba T][Zb8 T][Zmb T]
def Znd(b c:Rat)(i:Nat):Rat:=if i=0 then 0 else if i=1 then b else (if b<c then c else b)
def Zp7(b c:Rat)(i:Nat):St:=⟨[(2,.ptr (.loc 2) 1 3 0 0),(3,.ptr (.loc 3) 2 3 0 0),(7,.sl [Zam (fz b),Zam (fz c)] .an),(8,.i .i64 2),(9,.i .i64 i)],
 [(.loc 2,⟨1,.str,3,[Zfk]⟩),(.loc 3,⟨2,.str,3,[Zam (fz (Znd b c i))]⟩)],4⟩
def Zp8(l:List Fz)(i:Nat):St:=⟨[(2,.ptr (.loc 2) 1 3 0 0),(3,.ptr (.loc 3) 2 3 0 0),(7,.sl (Zc l) .an),(8,.i .i64 l.length),(9,.i .i64 i)],
 [(.loc 2,⟨1,.str,3,[Zfk]⟩),(.loc 3,⟨2,.str,3,[Zam (fz (Zme ((l.map fv).take i)))]⟩)],4⟩
def Zp9(l:List Fz)(i:Nat):St:=⟨[(3,.i .i64 (Znc (l.take i))),(6,.sl (Zc l) .an),(7,.i .i64 l.length),(8,.i .i64 i)],[],2⟩
end
section
variable{T:Tbl}[Z9 T][Zau T][Zaa T][Zao T][Z5 T][Zab T][Z8 T][Zas T][Zfz T]
def zajk(p q:Rat)(hp:sz p<=1000)(hq:sz q<=1000):Zb T 240 [efz (fz p),efz (fz q)]=some (efz (fz (p-q))):=by
 have c1:=zym (T:=T) (fz q) (by rw[zr6];omega);rw[zhd]at c1;have c2:=zku (T:=T) p (-q) hp (by rw[zabf];omega);rw[<-Rat.sub_eq_add_neg]at c2;rw[zaa Z8.h240 rfl,b240];simp -implicitDefEqProofs[c1,c2]
def zr1(q:Rat):Zb T 236 [efz (fz q)]=some (.i .i64 (sgQ q)):=by
 have h:((fz q).2.1.length=0)↔q=0:=by
  constructor
  ·intro h;have h1:(ofN q.num.natAbs).length=0:=h;have h2:val (ofN q.num.natAbs)=0:=by simp_all
   rw[zad]at h2
   simp_all
  ·intro h;rw[h,zqj]
   rfl
 have hs:(fz q).1=decide (q.num<0):=rfl;rw[zaa Z8.h236 rfl,b236];by_cases hz:q=0
 ·have h1:=h.2 hz;have h3:sgQ q=0:=zl9.2 hz;rw[h3];simp -implicitDefEqProofs[h1]
 ·have h1:¬ (fz q).2.1.length=0:=fun x=>hz (h.1 x);have h4:q.num≠0:=fun x=>hz (zl9.1 (zr7.2 x));by_cases hn:q.num<0
  ·have h3:sgQ q=-1:=by
    have a1:=zzd.2 hn;have a2:sgI q.num=-1\/sgI q.num=0\/sgI q.num=1:=by unfold sgI;omega
    show sgI q.num=-1;omega
   rw[decide_eq_true hn]at hs;rw[h3];simp -implicitDefEqProofs[h1,hs]
  ·have h3:sgQ q=1:=by
    have a1:=zzc.2 (show 0<q.num by omega);have a2:sgI q.num=-1\/sgI q.num=0\/sgI q.num=1:=by unfold sgI;omega
    show sgI q.num=1;omega
   rw[decide_eq_false hn]at hs;rw[h3];simp -implicitDefEqProofs[h1,hs]
def zur(p q:Rat)(hp:sz p<=1000)(hq:sz q<=1000):Zb T 243 [efz (fz p),efz (fz q)]=some (.i .i64 (sgQ (p-q))):=by
 have c1:=zajk (T:=T) p q hp hq;have c2:=zr1 (T:=T) (p-q);rw[zaa Zfz.h243 rfl,b243];simp -implicitDefEqProofs[c1,c2]
def Zqa(c:Rat)(p:List Rat)(i:Nat):St:=⟨[(1,.sl (Zc (fzs p)) .an),(2,.ptr (.loc 2) 1 3 0 0),(5,.bs (.loc 5) 2 3 0 i),(6,.i .i64 i)],
 [(.loc 2,⟨1,.str,3,[Zam (fz c)]⟩),(.loc 5,⟨2,.own,3,Zc (fzs ((Znm c p).take i))⟩)],4⟩
def Zqb(p:List Rat)(i:Nat):St:=⟨[(0,.sl (Zc (fzs p)) .an),(2,.ptr (.loc 2) 1 3 0 0),(3,.ptr (.loc 3) 2 3 0 0),(4,.i .i64 i)],
 [(.loc 2,⟨1,.str,3,[Zfk]⟩),(.loc 3,⟨2,.str,3,[Zam (fz (Zme (p.take i)))]⟩)],4⟩
end
structure Ins where
 op:Int
 a:Int
 b:Int
 n:Fz
abbrev Zno(i:Ins):List AV:=[.i .i64 i.op,.i .i64 i.a,.i .i64 i.b,.b i.n.1,.sl (Za i.n.2.1) .an,.sl (Za i.n.2.2) .an]
def Zji(l:List Ins):List (List AV):=l.map Zno
structure Tp where
 code:List Ins
 outs:List Int
 dim:Int
 par:Int
abbrev etp(t:Tp):AV:=.agg [.sl (Zji t.code) .an,.sl (ints t.outs) .an,.i .i64 t.dim,.i .i64 t.par]
def Zb9(x:Fz):Bool:=decide (x=fz (fv x))
def Zmu(x:Fz):Bool:=!x.1&&x.2.1.isEmpty&&x.2.2.isEmpty
def Zim(i:Ins):List Int:=if i.op=6\/i.op=11 then [i.a] else if 7<=i.op/\i.op<=10 then [i.a,i.b] else []
def Zgj(i m:Int):Bool:=decide (0<=i)&&decide (i<m)
def Znp(dim par p:Int)(i:Ins):Bool:=
 if i.op=1 then decide (i.a=0)&&decide (i.b=0)&&Zb9 i.n
 else Zmu i.n&&(Zim i).all (fun r=>Zgj r p) &&
  (if i.op=2 then decide (i.a=0)&&decide (i.b=0)
   else if i.op=3 then Zgj i.a dim&&decide (i.b=0)
   else if i.op=4 then Zgj i.a par&&decide (i.b=0)
   else if i.op=6 then decide (i.b=0)
   else if i.op=11 then decide (-8<=i.b)&&decide (i.b<=8)
   else decide ((Zim i).length=2))
def Zjj(dim par:Int):Nat->List Ins->Int
 | _,[]=>-1
 | p,i::r=>if Znp dim par p i then Zjj dim par (p+1) r else p
def Zmv(t:Tp):Bool:=Zgj (t.dim-1) 6&&Zgj t.par 7&&decide ((t.outs.length:Int)=t.dim)&&decide (t.code.length<=300)
def Zmw(t:Tp):Int:=
 if Zmv t=false then -2 else if Zjj t.dim t.par 0 t.code≠-1 then Zjj t.dim t.par 0 t.code
 else if (t.outs.all fun o=>Zgj o t.code.length)=false then t.code.length else -1
def okT(t:Tp):Bool:=decide (Zmw t=-1)
structure OkTp (t:Tp):Prop where
 d1:1<=t.dim
 d2:t.dim<=6
 p1:0<=t.par
 p2:t.par<=6
 ol:(t.outs.length:Int)=t.dim
 cl:t.code.length<=300
 may:∀(k:Nat) (i:Ins),t.code[k]? = some i->Znp t.dim t.par k i=true
 outs:∀o∈t.outs,0<=o/\o<t.code.length
structure Po where
 t:Rat
 y:List Rat
 p:List Rat
structure PoF where
 t:Fz
 y:List Fz
 p:List Fz
def PoF.v(x:PoF):Po:=⟨fv x.t,x.y.map fv,x.p.map fv⟩
def Po.f(x:Po):PoF:=⟨fz x.t,fzs x.y,fzs x.p⟩
abbrev ept(x:PoF):AV:=.agg [.b x.t.1,.sl (Za x.t.2.1) .an,.sl (Za x.t.2.2) .an,.sl (Zc x.y) .an,.sl (Zc x.p) .an]
def gI(l:List Rat)(i:Int):Rat:=l.getD i.toNat 0
def Znq(x:Rat)(e:Int):Rat:=x^e
def Zi3(P:Po)(D:List Rat)(i:Ins):Rat×Bool:=
 if i.op=1 then (fv i.n,true)
 else if i.op=3 then (gI P.y i.a,true)
 else if i.op=4 then (gI P.p i.a,true)
 else if i.op=6 then (-gI D i.a,true)
 else if i.op=7 then (gI D i.a+gI D i.b,true)
 else if i.op=8 then (gI D i.a-gI D i.b,true)
 else if i.op=9 then (gI D i.a*gI D i.b,true)
 else if i.op=10 then (gI D i.a/gI D i.b,decide (gI D i.b≠0))
 else if i.op=11 then (if i.b<0/\gI D i.a=0 then (0,false) else (Znq (gI D i.a) i.b,true))
 else (P.t,true)
def Znr(q:Rat):Nat:=Zlb (fz q)
def Zkb(lim:Nat)(P:Po):List Ins->List Rat->List Rat×Nat×Nat
 | [],D=>(D,0,0)
 | i::r,D=>if (Zi3 P D i).2=false then ([],3,D.length) else if lim<Znr (Zi3 P D i).1 then ([],6,D.length) else Zkb lim P r (D++[(Zi3 P D i).1])
@[simp] def zaen:Zji []=[]:=rfl
structure Trr where
 t:Fz
 w:Fz
 h:Fz
 e:Fz
 y:List Fz
 ok:Bool
abbrev Zd9(r:Trr):List AV:=[.b r.t.1,.sl (Za r.t.2.1) .an,.sl (Za r.t.2.2) .an,.b r.w.1,.sl (Za r.w.2.1) .an,.sl (Za r.w.2.2) .an,.b r.h.1,.sl (Za r.h.2.1) .an,.sl (Za r.h.2.2) .an,.b r.e.1,.sl (Za r.e.2.1) .an,.sl (Za r.e.2.2) .an,.sl (Zc r.y) .an,.b r.ok]
def Zs(l:List Trr):List (List AV):=l.map Zd9
@[simp] def zds(l:List Trr):(Zs l).length=l.length:=by simp[Zs]
@[simp] def zmb(l:List Trr):wkL (Zs l)=Zs l:=by rw[zb3];simp[Zs,wkR,wkA]
@[simp] def rowTr_get?(l:List Trr)(i:Nat):(Zs l)[i]? = (l[i]?).map Zd9:=by simp[Zs]
@[simp] def zabi(l:List Trr)(i:Nat)(h:i<(Zs l).length):(Zs l)[i]=Zd9 (l[i]'(by simpa using h)):=by simp[Zs]
def zk5(l:List Trr)(x:Trr):Zs l++[Zd9 x]=Zs (l++[x]):=by simp[Zs]
@[simp] def z7z(l:List Trr)(n:Nat):(Zs l).take n=Zs (l.take n):=by simp[Zs]
@[simp] def zet:Zs []=[]:=rfl
def zd1{m:List Trr}{n:Nat}(h:m.length=n)(x:Trr):wkL (Zs (List.take n m)++[Zd9 x])=Zs (m++[x]):=by
 rw[Yb (by omega),zk5,zmb]
structure Hs where
 l:List Trr
 t:Fz
 y:List Fz
abbrev ehs(h:Hs):AV:=.agg [.sl (Zs h.l) .an,.b h.t.1,.sl (Za h.t.2.1) .an,.sl (Za h.t.2.2) .an,.sl (Zc h.y) .an]
def Zm(l:List Fz):Bool:=l.all Zb9
def Trr.nums(r:Trr):List Fz:=[r.t,r.w,r.h,r.e]
def Zdk(h:Hs):Bool:=(h.l.all fun r=>Zm r.nums&&Zm r.y)&&(Zb9 h.t&&Zm h.y)
def Zi0(h:Hs):Bool:=(h.l.all fun r=>decide (r.y.length=h.y.length))&&(decide (1<=h.y.length)&&decide (h.y.length<=6))
def Zcn(r:Trr):Bool:=decide (0<fv r.w)&&decide (0<fv r.h)&&decide (fv r.h<=fv r.w)&&decide (0<=fv r.e)
def Zgi(h:Hs):Bool:=h.l.all Zcn
def Zf4(r:Trr)(at_:Fz)(y:List Fz):Bool:=if r.ok then decide (fv at_=fv r.t+fv r.h) else decide (fv at_=fv r.t)&&decide (y.map fv=r.y.map fv)
def Zcx(l:List Trr)(t:Fz)(y:List Fz):Fz×List Fz:=match l with | []=>(t,y) | r::_=>(r.t,r.y)
def Zcs:List Trr->Fz->List Fz->Bool
 | [],_,_=>true
 | r::l,t,y=>Zf4 r (Zcx l t y).1 (Zcx l t y).2&&Zcs l t y
def Zfl(h:Hs):Bool:=Zcs h.l h.t h.y
def Zct(h:Hs):Int:=if !Zdk h then 1 else if !Zi0 h then 2 else if 200<h.l.length then 3 else if !Zgi h then 4 else if !Zfl h then 5 else 0
def Zjh(h:Hs):Bool:=decide (Zct h=0)
def Zac(r:Trr):Trr:=⟨fz (fv r.t),fz (fv r.w),fz (fv r.h),fz (fv r.e),nrm r.y,r.ok⟩
def Zav(l:List Trr):List Trr:=(l.filter (·.ok)).map Zac
def Zdt(h:Hs):List Fz:=(Zav h.l).map (·.t)++[fz (fv h.t)]
def Zdu(h:Hs):List (List Fz):=(Zav h.l).map (·.y)++[nrm h.y]
def Zgy(h:Hs):List Fz:=(Zav h.l).map (·.h)
structure HsS (h:Hs) (B:Nat):Prop where
 len:h.l.length<=1000
 t:fsz h.t<=B
 y:∀x∈h.y,fsz x<=B
 yl:h.y.length<=1000
 rt:∀r∈h.l,∀x∈r.nums,fsz x<=B
 ry:∀r∈h.l,∀x∈r.y,fsz x<=B
 rl:∀r∈h.l,r.y.length<=1000
theorem zot:∀(l:List Trr) (t:Fz) (y:List Fz),Zcs l t y=true↔∀(i:Nat) (r:Trr),l[i]? = some r->Zf4 r (Zcx (l.drop (i+1)) t y).1 (Zcx (l.drop (i+1)) t y).2=true
 | [],t,y=>by simp[Zcs]
 | r::l,t,y=>by
  simp only[Zcs,Ym,zot l t y];refine⟨fun⟨h1,h2⟩ i q hi=>?_,fun h=>⟨h 0 r rfl,fun i q hi=>h (i+1) q hi⟩⟩;cases i with
  | zero=>cases hi;exact h1
  | succ i=>exact h2 i q hi
theorem zp2:∀(a b:List UInt32),a.length=b.length->val a=val b->a=b
 | [],[],_,_=>rfl
 | x::a,y::b,hl,hv=>by
  simp only[zaj]at hv;have hx:=zak x;have hy:=zak y;have h1:x.toNat=y.toNat:=by omega
  have h2:val a=val b:=by omega
  rw[Yef.1 h1,zp2 a b (by simpa using hl) h2]
 | [],_::_,hl,_=>by simp at hl
 | _::_,[],hl,_=>by simp at hl
def zf6{x y:Nat}:Zck x y=0↔x=y:=by
 grind[Zck]
section
variable{T:Tbl}[Zan T][Zr T][Zx T][Z2 T][Zt T][Zw T][Zi T][Zo T][Z0 T][Zbf T]
def ztj(x:Fz)(hx:fsz x<=10000):Zb T 208 [efz x]=some (.b (Zb9 x)):=by
 have hn:=ziz (T:=T) x hx;have hs:=zhe (x:=x) (L:=10000) hx (by decide);have l1:=zg9 (fv x);have l2:=zgi (fv x);unfold Zb9;have e':fz (fv x)=(decide ((fv x).num<0),ofN (fv x).num.natAbs,ofN (fv x).den):=rfl;rw[e']at hn ⊢;obtain⟨n,a,d⟩:=x;have la:=zfp (n,a,d);have ld:=zgh (n,a,d);simp only at la ld;generalize decide ((fv (n,a,d)).num<0)=m at *
 generalize ofN (fv (n,a,d)).num.natAbs=b at *
 generalize ofN (fv (n,a,d)).den=e at *
 have c1:=zgu (T:=T) a b (by omega) (by omega);have c2:=zgu (T:=T) d e (by omega) (by omega);rw[zaa Zbf.h208 rfl,b208];by_cases h1:n=m
 case neg=>
  have hd:decide ((n,a,d)=(m,b,e))=false:=by grind
  have hb:(n == m)=false:=by grind
  rw[hd];simp -implicitDefEqProofs[hn,hb]
 subst h1;by_cases h2:a.length=b.length
 case neg=>
  have hd:decide ((n,a,d)=(n,b,e))=false:=by
   grind
  have hb:((a.length:Int) == b.length)=false:=by grind
  rw[hd];simp -implicitDefEqProofs[hn,hb]
 by_cases h3:d.length=e.length
 case neg=>
  have hd:decide ((n,a,d)=(n,b,e))=false:=by
   grind
  have hb:((d.length:Int) == e.length)=false:=by grind
  rw[hd];simp -implicitDefEqProofs[hn,h2,hb]
 by_cases h4:val a=val b
 case neg=>
  have hd:decide ((n,a,d)=(n,b,e))=false:=by
   grind
  have hc:¬ Zck (val a) (val b)=0:=fun h=>h4 (zf6.1 h);rw[hd];simp -implicitDefEqProofs[hn,h2,h3,c1,hc]
 have hab:=zp2 a b h2 h4;subst hab;have hk:Zck (val a) (val a)=0:=zf6.2 rfl;rw[hk]at c1;by_cases h5:val d=val e
 case neg=>
  have hd:decide ((n,a,d)=(n,a,e))=false:=by
   grind
  have hc:¬ Zck (val d) (val e)=0:=fun h=>h5 (zf6.1 h);rw[hd];simp -implicitDefEqProofs[hn,h3,c1,c2,hc]
 have hde:=zp2 d e h3 h5;subst hde;have hk2:Zck (val d) (val d)=0:=zf6.2 rfl;rw[hk2]at c2;have hd:decide ((n,a,d)=(n,a,d))=true:=by simp
 simp -implicitDefEqProofs[hn,c1,c2]
def Zpo(a:List UInt32)(k i:Nat):St:=⟨[(0,.sl (Za a) .an),(5,.sl (Za (ofN (val a^i))) .an),(7,.i .i64 k),(8,.i .i64 i)],[],2⟩
def Zpp(q:Rat)(e:Int):Rat×Bool:=if -8<=e/\e<=8/\¬ (e<0/\q=0) then (Znq q e,true) else (0,false)
end
@[simp] def zaek:ints []=[]:=rfl
section
variable{T:Tbl}[Zan T][Zr T][Zx T][Z2 T][Zt T][Zw T][Zi T][Zo T][Z0 T][Zbf T][Zcv T]
def Zqm(t:Tp)(p:Nat)(x:Ins)(i:Nat):St:=
 ⟨[(1,.i .i64 p),(2,.ptr (.loc 2) 1 4 0 0),(5,.ptr (.loc 5) 2 6 0 0),(30,.sl (ints (Zim x)) .an),(31,.i .i64 (Zim x).length),(32,.i .i64 i)],
  [(.loc 2,⟨1,.str,4,[[.sl (Zji t.code) .an,.sl (ints t.outs) .an,.i .i64 t.dim,.i .i64 t.par]]⟩),(.loc 5,⟨2,.str,6,[Zno x]⟩)],4⟩
end
section
variable{T:Tbl}[Zan T][Zr T][Zx T][Z2 T][Zt T][Zw T][Zi T][Zo T][Z0 T][Zbf T][Zcv T]
structure Small (t:Tp):Prop where
 code:t.code.length<=4294967296
 outs:t.outs.length<=4294967296
 ns:∀i∈t.code,fsz i.n<=10000
 d1:-9223372036854775808<=t.dim
 d2:t.dim<9223372036854775808
def bxT(t:Tp):Box:=⟨1,.str,4,[[.sl (Zji t.code) .an,.sl (ints t.outs) .an,.i .i64 t.dim,.i .i64 t.par]]⟩
def Zqn(t:Tp)(i:Nat):St:=⟨[(1,.ptr (.loc 1) 1 4 0 0),(11,.i .i64 t.code.length),(12,.i .i64 i)],[(.loc 1,bxT t)],3⟩
def Zqo(t:Tp)(i:Nat):St:=⟨[(1,.ptr (.loc 1) 1 4 0 0),(22,.sl (ints t.outs) .an),(23,.i .i64 t.outs.length),(24,.i .i64 i)],[(.loc 1,bxT t)],3⟩
end
def Zny(n:Int):Int:=if n<0 then 0 else if 4096<n then 4096 else n
abbrev bxG(g:Nat)(s p L:Int):Box:=⟨g,.str,3,[[.i .i64 s,.i .i64 p,.i .i64 L]]⟩
def Zm2(s:Int):Int:=IntKind.wrap .i64 (s+1)
def Zm3(p:Int)(x:Fz):Int:=if p<(Zlb x:Int) then (Zlb x:Int) else p
section
variable{T:Tbl}[Zan T][Zr T][Zx T][Z2 T][Zt T][Zw T][Zi T][Zo T][Z0 T][Zbf T][Zb3 T][Zcj T][Zcv T][Zcc T][Zdi T]
def Zpq(l:List Fz)(i:Nat):St:=⟨[(3,.bs (.loc 3) 1 3 0 i),(6,.sl (Zc l) .an),(7,.i .i64 l.length),(8,.i .i64 i)],[(.loc 3,⟨1,.own,3,Zc (nrm (l.take i))⟩)],3⟩
structure PoS (x:PoF) (B:Nat):Prop where
 t:fsz x.t<=B
 y:∀u∈x.y,fsz u<=B
 p:∀u∈x.p,fsz u<=B
 yl:x.y.length<=1000
 pl:x.p.length<=1000
end
abbrev mD:AV:=.agg [.dead]
structure PvS (P:Po) (B:Nat):Prop where
 t:sz P.t<=B
 y:∀q∈P.y,sz q<=B
 p:∀q∈P.p,sz q<=B
def Zlc(lim:Nat)(P:Po):List Ins->List Rat->Int->Int->Int×Int
 | [],_,s,p=>(s,p)
 | i::r,D,s,p=>if (Zi3 P D i).2=false then (s,p) else if lim<Znr (Zi3 P D i).1 then (Zm2 s,Zm3 p (fz (Zi3 P D i).1)) else Zlc lim P r (D++[(Zi3 P D i).1]) (Zm2 s) (Zm3 p (fz (Zi3 P D i).1))
abbrev bxM:Box:=⟨3,.str,1,[[.ptr (.bor 0) 0 3 0 0]]⟩
abbrev bxP(g:Nat)(x:PoF):Box:=⟨g,.str,5,[[.b x.t.1,.sl (Za x.t.2.1) .an,.sl (Za x.t.2.2) .an,.sl (Zc x.y) .an,.sl (Zc x.p) .an]]⟩
abbrev bxF(g:Nat)(a b c d:Int):Box:=⟨g,.str,4,[[.i .i64 a,.i .i64 b,.i .i64 c,.i .i64 d]]⟩
def Zpf(Q:PoF)(L:Int)(code:List Ins)(i:Nat)(D:List Fz)(s p:Int)(kd:Kind):St:=
 ⟨[(3,.ptr (.loc 3) 3 1 0 0),(5,.ptr (.loc 5) 4 5 0 0),(7,.ptr (.loc 7) 5 4 0 0),(8,.bs (.loc 8) 6 3 0 i),(34,.sl (Zji code) .an),(35,.i .i64 code.length),(36,.i .i64 i)],
  [(.bor 0,bxG 0 s p L),(.loc 3,bxM),(.loc 5,bxP 4 Q),(.loc 7,bxF 5 0 0 0 0),(.loc 8,⟨6,kd,3,Zc D⟩)],8⟩
def Zob(n:Nat)(D:List Fz)(s p L:Int)(kd:Kind):Ex×St:=(.n,⟨[(7,.ptr (.loc 7) 3 4 0 0),(8,.bs (.loc 8) 4 3 0 n)],[(.bor 0,bxG 0 s p L),(.loc 7,bxF 3 0 0 0 0),(.loc 8,⟨4,kd,3,Zc D⟩)],6⟩)
def Zoc(kind at_ s p L:Int):Ex×St:=(.r,⟨[(6,.sl [] .an),(7,.ptr (.loc 7) 3 4 0 0)],[(.bor 0,bxG 0 s p L),(.loc 7,bxF 3 kind 0 0 at_)],5⟩)
section
variable{T:Tbl}[Zan T][Zr T][Zx T][Z2 T][Zt T][Zw T][Zi T][Zo T][Z0 T][Zbf T][Zb3 T][Zcj T][Zcv T][Zcc T][Zdi T][Zf0 T][Zfy T]
def kdE(kd:Kind)(l:List Ins):Kind:=if l=[] then kd else .sh
def Zod(lim:Nat)(P:Po)(code l:List Ins)(D:List Rat)(s p:Int)(kd:Kind):Ex×St:=
 if (Zkb lim P l D).2.1=0 then Zob code.length (fzs (Zkb lim P l D).1) (Zlc lim P l D s p).1 (Zlc lim P l D s p).2 lim (kdE kd l)
 else Zoc (Zkb lim P l D).2.1 (Zkb lim P l D).2.2 (Zlc lim P l D s p).1 (Zlc lim P l D s p).2 lim
end
def Zoe(t:Tp)(y p:Nat):Bool:=okT t&&decide ((y:Int)=t.dim)&&decide ((p:Int)=t.par)
def Zld(lim:Nat)(t:Tp)(P:Po):List Rat×Nat×Nat:=if Zoe t P.y.length P.p.length=true then Zkb lim P t.code [] else ([],2,0)
def Zne(t:Tp)(D:List Rat):List Rat:=t.outs.map (gI D)
def Zmp(lim:Nat)(t:Tp)(P:Po):List Rat×Nat×Nat:=if (Zld lim t P).2.1=0 then (Zne t (Zld lim t P).1,0,0) else ([],(Zld lim t P).2)
structure TpS (t:Tp):Prop where
 small:Small t
 ns:∀i∈t.code,fsz i.n<=1000
abbrev Zqc(k s g a:Int):AV:=.agg [.i .i64 k,.i .i64 s,.i .i64 g,.i .i64 a]
section
variable{T:Tbl}[Zan T][Zr T][Zx T][Z2 T][Zt T][Zw T][Zi T][Zo T][Z0 T][Zbf T][Zb3 T][Zcj T][Zcv T][Zcc T][Zdi T][Zf0 T][Zfy T]
def Zof(n:Int):Nat:=(Zny n).toNat
def Zqd(D:List Fz)(outs:List Int)(E:List Fz)(i:Nat)(kd:Kind):St:=
 ⟨[(1,.sl (Zc D) .an),(5,.bs (.loc 5) 1 3 0 i),(20,.sl (ints outs) .an),(21,.i .i64 outs.length),(22,.i .i64 i)],[(.loc 5,⟨1,.own,3,Zc (E.take i)⟩)],3⟩
end
structure Sm where
 nm:List UInt8
 c:List Fz
 a:List (List Fz)
 b:List Fz
 e:List Fz
abbrev esm(s:Sm):AV:=.agg [.s s.nm,.sl (Zc s.c) .an,.sl (Zz s.a) .an,.sl (Zc s.b) .an,.sl (Zc s.e) .an]
def Zlp:List (List Fz)->Nat->Bool
 | [],_=>true
 | r::l,i=>decide (r.length=i)&&Zlp l (i+1)
def Zmr(s:Sm):Bool:=decide (1<=s.b.length)&&decide (s.b.length<=8)&&decide (s.c.length=s.b.length)&&decide (s.a.length=s.b.length)&&(decide (s.e.length=s.b.length) || decide (s.e.length=0))&&Zlp s.a 0
def Zon(x:Fz):Bool:=Zb9 x&&decide (Zlb x<=190)
def Znn(m:List (List Fz)):Bool:=m.all fun r=>r.all Zon
def sumF(l:List Fz):Rat:=l.foldl (fun s x=>s+fv x) 0
def Zms(a:List (List Fz))(c:List Fz):Bool:=(a.zip c).all fun p=>decide (sumF p.1=fv p.2)
def Zmt(s:Sm):Int:=
 if !Zmn 2 s.nm then 1 else if !Zmr s then 2 else if !(Znn s.a&&Znn [s.b,s.c,s.e]) then 3
 else if !Zms s.a s.c then 4 else if sumF s.b≠1 then 5 else if s.e≠[]/\sumF s.e≠1 then 6 else 0
def okS(s:Sm):Bool:=decide (Zmt s=0)
structure SmS (s:Sm):Prop where
 nm:s.nm.length<=1000
 cl:s.c.length<=1000
 al:s.a.length<=1000
 bl:s.b.length<=1000
 el:s.e.length<=1000
 c:∀x∈s.c,fsz x<=300
 a:∀r∈s.a,r.length<=1000/\∀x∈r,fsz x<=300
 b:∀x∈s.b,fsz x<=300
 e:∀x∈s.e,fsz x<=300
structure Pb where
 t:Tp
 s:Sm
 p:List Fz
 bits:Int
abbrev epb(p:Pb):AV:=.agg [.sl (Zji p.t.code) .an,.sl (ints p.t.outs) .an,.i .i64 p.t.dim,.i .i64 p.t.par,.s p.s.nm,.sl (Zc p.s.c) .an,.sl (Zz p.s.a) .an,.sl (Zc p.s.b) .an,.sl (Zc p.s.e) .an,.sl (Zc p.p) .an,.i .i64 p.bits]
def okP(p:Pb):Bool:=okT p.t&&okS p.s&&decide ((p.p.length:Int)=p.t.par)
section
variable{T:Tbl}[Zan T][Zr T][Zx T][Z2 T][Zt T][Zw T][Zi T][Zo T][Z0 T][Zbf T][Zb3 T][Zcj T][Zcv T][Zcc T][Zdi T][Zf0 T][Zfy T][Zjr T]
def Zqe(l:List Fz)(i:Nat):St:=⟨[(2,.ptr (.loc 2) 1 3 0 0),(3,.ptr (.loc 3) 2 3 0 0),(7,.sl (Zc l) .an),(8,.i .i64 l.length),(9,.i .i64 i)],
 [(.loc 2,⟨1,.str,3,[Zfk]⟩),(.loc 3,⟨2,.str,3,[Zam (fz (sumF (l.take i)))]⟩)],4⟩
def Zpg(m:List (List Fz))(r:List Fz)(j i:Nat):St:=⟨[(7,.sl (Zz m) .an),(8,.i .i64 m.length),(9,.i .i64 j),(13,.sl (Zc r) .an),(14,.i .i64 r.length),(15,.i .i64 i)],[],2⟩
def Zph(m:List (List Fz))(i:Nat):St:=⟨[(7,.sl (Zz m) .an),(8,.i .i64 m.length),(9,.i .i64 i)],[],2⟩
def Zpi(a:List (List Fz))(i:Nat):St:=⟨[(43,.sl (Zz a) .an),(44,.i .i64 a.length),(45,.i .i64 i)],[],2⟩
def bxS(s:Sm):Box:=⟨1,.str,5,[[.s s.nm,.sl (Zc s.c) .an,.sl (Zz s.a) .an,.sl (Zc s.b) .an,.sl (Zc s.e) .an]]⟩
def Zqf(s:Sm)(i:Nat):St:=⟨[(1,.ptr (.loc 1) 1 5 0 0),(6,.sl (Zz s.a) .an),(7,.i .i64 s.a.length),(8,.i .i64 i)],[(.loc 1,bxS s)],3⟩
end
structure PbS (q:Pb):Prop where
 t:TpS q.t
 s:SmS q.s
 p:∀x∈q.p,fsz x<=1000
 pl:q.p.length<=1000
def Zoi(p:Pb)(t:Fz)(y:List Fz):List Rat×Nat×Nat:=Zmp (Zof p.bits) p.t ⟨fv t,y.map fv,p.p.map fv⟩
def z42(l:List Fz):scl 1 l=nrm l:=by
 grind[scl,nrm]
section
variable{T:Tbl}[Zan T][Zr T][Zx T][Z2 T][Zt T][Zw T][Zi T][Zo T][Z0 T][Zbf T][Zb3 T][Zcj T][Zcv T][Zcc T][Zdi T][Zf0 T][Zfy T][Zp T][Zbb T][Zba T][Zb8 T][Za3 T]
def zfm(l:List Fz)(hl:l.length<=1000)(hw:∀x∈l,fsz x<=1000):Zb T 533 [.sl (Zc l) .an]=some (.sl (Zc (nrm l)) .an):=by
 have h0:=z0m (T:=T);have h:=zys (T:=T) (fz 1) (by decide +kernel) l hl hw;rw[zhd,z42]at h;rw[zaa Za3.h533 rfl,b533]
 simp_all
def zdp(r:Trr):Zb T 549 [.agg (Zd9 r)]=some (.sl (Zc r.nums) .an):=by
 have e:Zc r.nums=[Zam r.t,Zam r.w,Zam r.h,Zam r.e]:=rfl;rw[zaa Za3.h549 rfl,b549,e];simp -implicitDefEqProofs[]
def Zh4(m:List (List Fz))(r:List Fz)(j i:Nat):St:=⟨[(7,.sl (Zz m) .an),(8,.i .i64 m.length),(9,.i .i64 j),(13,.sl (Zc r) .an),(14,.i .i64 r.length),(15,.i .i64 i)],[],2⟩
def zn6(m:List (List Fz))(r:List Fz)(j:Nat)(hl:r.length<=1000)(hw:∀x∈r,fsz x<=1000) :
  Zl T 0 2 (.norm false [7,8,9]) l584_0 (Zh4 m r j 0)=if Zm (r.drop 0)=true then some (.n,⟨[(7,.sl (Zz m) .an),(8,.i .i64 m.length),(9,.i .i64 j)],[],2⟩) else some (.r,⟨[(2,.b false)],[],2⟩):=by
 refine zay (Zh4 m r j) r.length (fun i=>if Zm (r.drop i)=true then some (.n,⟨[(7,.sl (Zz m) .an),(8,.i .i64 m.length),(9,.i .i64 j)],[],2⟩) else some (.r,⟨[(2,.b false)],[],2⟩)) (fun i hi=>?_) ?_
 ·have hws:=zbo hi (by omega);have hx:=hw _ (Yx hi);have c1:=ztj (T:=T) (r[i]'hi) (by omega);have key:Zm (r.drop i)=(Zb9 (r[i]'hi)&&Zm (r.drop (i+1))):=by grind[Zm,List.drop_eq_getElem_cons]
  by_cases h1:Zb9 (r[i]'hi)=true
  ·left;refine⟨?_,by grind⟩;unfold Zh4;simp -implicitDefEqProofs[l584_0,hi,hws,c1,h1]
  ·right;have h1':Zb9 (r[i]'hi)=false:=by grind
   rw[if_neg (by grind)];unfold Zh4;constructor<;>simp -implicitDefEqProofs[l584_0,hi,c1,h1']
 ·have e:Zm []=true:=rfl;simp only[Y8,e,if_true];unfold Zh4;constructor<;>simp -implicitDefEqProofs[l584_0]
def Zh5(m:List (List Fz))(i:Nat):St:=⟨[(7,.sl (Zz m) .an),(8,.i .i64 m.length),(9,.i .i64 i)],[],2⟩
def zi7(m:List (List Fz))(hl:m.length<=1000)(hw:∀r∈m,r.length<=1000/\∀x∈r,fsz x<=1000):Zb T 584 [.sl (Zz m) .an]=some (.b (m.all Zm)):=by
 have h:Zl T 0 0 (.norm false []) l584_1 (Zh5 m 0)=if (m.drop 0).all Zm=true then some (.n,⟨[],[],2⟩) else some (.r,⟨[(2,.b false)],[],2⟩):=by
  refine zay (Zh5 m) m.length (fun i=>if (m.drop i).all Zm=true then some (.n,⟨[],[],2⟩) else some (.r,⟨[(2,.b false)],[],2⟩)) (fun i hi=>?_) ?_
  ·have hws:=zbo hi (by omega);obtain⟨h1,h2⟩:=hw _ (Yx hi);have h:=zn6 (T:=T) m (m[i]'hi) i h1 h2;have key:(m.drop i).all Zm=(Zm (m[i]'hi)&&(m.drop (i+1)).all Zm):=by rw[Yi hi,Ybv]
   unfold Zh4 at h;rw[Yaj]at h;simp only[Yt]at h;by_cases hr:Zm (m[i]'hi)=true
   ·left;rw[if_pos hr]at h;refine⟨?_,by grind⟩;unfold Zh5;simp -implicitDefEqProofs[l584_1,hi,hws,h]
   ·right;rw[if_neg hr]at h;rw[if_neg (by grind)];unfold Zh5;constructor<;>simp -implicitDefEqProofs[l584_1,hi,h]
  ·simp only[Y8,Ycx,if_true];unfold Zh5;constructor<;>simp -implicitDefEqProofs[l584_1]
 unfold Zh5 at h;rw[Yaj]at h;rw[zaa Za3.h584 rfl,b584];cases hn:m.all Zm<;>rw[hn]at h<;>simp at h<;>simp -implicitDefEqProofs[h]
def bxH(h:Hs):Box:=⟨1,.str,5,[[.sl (Zs h.l) .an,.b h.t.1,.sl (Za h.t.2.1) .an,.sl (Za h.t.2.2) .an,.sl (Zc h.y) .an]]⟩
def Zep(h:Hs)(i:Nat):St:=⟨[(1,.ptr (.loc 1) 1 5 0 0),(6,.sl (Zs h.l) .an),(7,.i .i64 h.l.length),(8,.i .i64 i)],[(.loc 1,bxH h)],3⟩
def ztx(h:Hs)(hs:HsS h 1000):Zb T 580 [ehs h]=some (.b (Zdk h)):=by
 have hlen:=hs.len;have hlp:Zl T 0 0 (.norm false [1]) l580_0 (Zep h 0)=if ((h.l.drop 0).all fun r=>Zm r.nums&&Zm r.y)=true then some (.n,⟨[(1,.ptr (.loc 1) 1 5 0 0)],[(.loc 1,bxH h)],3⟩) else some (.r,⟨[(2,.b false)],[],2⟩):=by
  refine zay (Zep h) h.l.length (fun i=>if ((h.l.drop i).all fun r=>Zm r.nums&&Zm r.y)=true then some (.n,⟨[(1,.ptr (.loc 1) 1 5 0 0)],[(.loc 1,bxH h)],3⟩) else some (.r,⟨[(2,.b false)],[],2⟩)) (fun i hi=>?_) ?_
  ·have hws:=zbo hi (by omega);have hm:=Yx hi;have c1:=zdp (T:=T) (h.l[i]'hi);have c2:=zi7 (T:=T) [(h.l[i]'hi).nums,(h.l[i]'hi).y] (by simp) (fun r hr=>by
    simp only[Yr,Ya6,or_false]at hr;rcases hr with rfl | rfl
    ·exact⟨by simp[Trr.nums],hs.rt _ hm⟩
    ·exact⟨hs.rl _ hm,hs.ry _ hm⟩)
   have e2:([(h.l[i]'hi).nums,(h.l[i]'hi).y].all Zm)=(Zm (h.l[i]'hi).nums&&Zm (h.l[i]'hi).y):=by simp
   rw[e2]at c2;have key:((h.l.drop i).all fun r=>Zm r.nums&&Zm r.y)=((Zm (h.l[i]'hi).nums&&Zm (h.l[i]'hi).y)&&((h.l.drop (i+1)).all fun r=>Zm r.nums&&Zm r.y)):=by rw[Yi hi,Ybv]
   generalize hB:(Zm (h.l[i]'hi).nums&&Zm (h.l[i]'hi).y)=B at *
   generalize hq:h.l[i]'hi=q at *
   replace c2:Zb T 584 [.sl [[.sl (Zc q.nums) .an],[.sl (Zc q.y) .an]] .an]=some (.b B):=c2;have hnn:wkL (Zc q.nums)=Zc q.nums:=zcu _;obtain⟨q1,q2,q3,q4,q5,q6⟩:=q;cases B with
   | true=>
    left;refine⟨?_,by grind⟩;unfold Zep bxH;simp -implicitDefEqProofs[l580_0,hi,hq,hws,c1,c2,hnn]
   | false=>
    right;rw[if_neg (by grind)];unfold Zep bxH;constructor<;>simp -implicitDefEqProofs[l580_0,hi,hq,c1,c2,hnn]
  ·simp only[Y8,Ycx,if_true];unfold Zep bxH;constructor<;>simp -implicitDefEqProofs[l580_0]
 have c3:=zi7 (T:=T) [[h.t],h.y] (by simp) (fun r hr=>by
  simp only[Yr,Ya6,or_false]at hr;rcases hr with rfl | rfl
  ·exact⟨by simp,fun x hx=>by rw[Yaf.1 hx];exact hs.t⟩
  ·exact⟨hs.yl,hs.y⟩)
 have e3:([[h.t],h.y].all Zm)=(Zb9 h.t&&Zm h.y):=by simp[Zm]
 rw[e3]at c3;unfold Zep bxH at hlp;rw[Yaj]at hlp;unfold Zdk;generalize (Zb9 h.t&&Zm h.y)=R at *
 generalize (h.l.all fun r=>Zm r.nums&&Zm r.y)=A at *
 replace c3:Zb T 584 [.sl [[.sl [Zam h.t] .an],[.sl (Zc h.y) .an]] .an]=some (.b R):=c3;rw[zaa Za3.h580 rfl,b580];obtain⟨L,⟨t1,t2,t3⟩,y⟩:=h;cases A<;>simp at hlp<;>simp -implicitDefEqProofs[hlp,c3]
def zn7(h:Hs)(hl:h.l.length<=1000):Zb T 581 [ehs h]=some (.b (Zi0 h)):=by
 have hlp:Zl T 0 0 (.norm false [1]) l581_0 (Zep h 0)=if ((h.l.drop 0).all fun r=>decide (r.y.length=h.y.length))=true then some (.n,⟨[(1,.ptr (.loc 1) 1 5 0 0)],[(.loc 1,bxH h)],3⟩) else some (.r,⟨[(2,.b false)],[],2⟩):=by
  refine zay (Zep h) h.l.length (fun i=>if ((h.l.drop i).all fun r=>decide (r.y.length=h.y.length))=true then some (.n,⟨[(1,.ptr (.loc 1) 1 5 0 0)],[(.loc 1,bxH h)],3⟩) else some (.r,⟨[(2,.b false)],[],2⟩)) (fun i hi=>?_) ?_
  ·have hga:h.l[i]? = some (h.l[i]'hi):=Ya hi;have hws:=zbo hi (by omega);have key:((h.l.drop i).all fun r=>decide (r.y.length=h.y.length))=(decide ((h.l[i]'hi).y.length=h.y.length)&&((h.l.drop (i+1)).all fun r=>decide (r.y.length=h.y.length))):=by rw[Yi hi,Ybv]
   generalize hq:h.l[i]'hi=q at *
   obtain⟨L,t,y⟩:=h;obtain⟨q1,q2,q3,q4,q5,q6⟩:=q;dsimp only at *
   by_cases he:q5.length=y.length
   ·left;have he':(q5.length:Int)=y.length:=by omega
    refine⟨?_,by grind⟩;unfold Zep bxH;simp -implicitDefEqProofs[l581_0,hi,hq,hws,he]
   ·right;have he':¬ (q5.length:Int)=y.length:=by omega
    rw[if_neg (by grind)];unfold Zep bxH;constructor<;>simp -implicitDefEqProofs[l581_0,hi,hq,he']
  ·simp only[Y8,Ycx,if_true];unfold Zep bxH;constructor<;>simp -implicitDefEqProofs[l581_0]
 unfold Zep bxH at hlp;rw[Yaj]at hlp;simp only[Yt]at hlp;unfold Zi0;generalize (h.l.all fun r=>decide (r.y.length=h.y.length))=A at *
 rw[zaa Za3.h581 rfl,b581];obtain⟨L,t,y⟩:=h;dsimp only at *
 cases A with
 | false=>simp at hlp;simp -implicitDefEqProofs[hlp]
 | true=>
  simp at hlp;by_cases h1:1<=y.length
  ·have h1':(1:Int)<=y.length:=by omega
   by_cases h2:y.length<=6
   ·have h2':(y.length:Int)<=6:=by omega
    simp -implicitDefEqProofs[hlp,h1,h1',h2,h2']
   ·have h2':¬ (y.length:Int)<=6:=by omega
    simp -implicitDefEqProofs[hlp,h1,h1',h2,h2']
  ·have h1':¬ (1:Int)<=y.length:=by omega
   simp -implicitDefEqProofs[hlp,h1,h1']
def Zii(l:List Trr)(i:Nat):St:=⟨[(6,.sl (Zs l) .an),(7,.i .i64 l.length),(8,.i .i64 i)],[],2⟩
def zty(h:Hs)(hs:HsS h 1000):Zb T 582 [ehs h]=some (.b (Zgi h)):=by
 have hlen:=hs.len;have hlp:Zl T 0 0 (.norm false []) l582_0 (Zii h.l 0)=if (h.l.drop 0).all Zcn=true then some (.n,⟨[],[],2⟩) else some (.r,⟨[(2,.b false)],[],2⟩):=by
  refine zay (Zii h.l) h.l.length (fun i=>if (h.l.drop i).all Zcn=true then some (.n,⟨[],[],2⟩) else some (.r,⟨[(2,.b false)],[],2⟩)) (fun i hi=>?_) ?_
  ·have hws:=zbo hi (by omega);have hm:=Yx hi;have key:(h.l.drop i).all Zcn=(Zcn (h.l[i]'hi)&&(h.l.drop (i+1)).all Zcn):=by rw[Yi hi,Ybv]
   have hr:=hs.rt _ hm;have w1:=hr (h.l[i]'hi).w (by simp[Trr.nums]);have w2:=hr (h.l[i]'hi).h (by simp[Trr.nums]);have w3:=hr (h.l[i]'hi).e (by simp[Trr.nums]);generalize hq:h.l[i]'hi=q at *
   have c1:=zi0 (T:=T) q.w (by omega);have c2:=zi0 (T:=T) q.h (by omega);have c3:=z0n (T:=T) q.h q.w w2 w1;have c4:=zi0 (T:=T) q.e (by omega);have e1:(0<fv q.w)↔¬ sgQ (fv q.w)<=0:=by rw[<-zg1];omega
   have e2:(0<fv q.h)↔¬ sgQ (fv q.h)<=0:=by rw[<-zg1];omega
   have e3:(fv q.h<=fv q.w)↔¬ 0<sgQ (fv q.h-fv q.w):=by rw[zg1];grind
   have e4:(0<=fv q.e)↔¬ sgQ (fv q.e)<0:=by rw[zze];grind
   have hz:Zcn q=(!decide (sgQ (fv q.w)<=0)&&!decide (sgQ (fv q.h)<=0)&&!decide (0<sgQ (fv q.h-fv q.w))&&!decide (sgQ (fv q.e)<0)):=by
    grind[Zcn]
   rw[hz]at key;obtain⟨q1,q2,q3,q4,q5,q6⟩:=q;generalize sgQ (fv q2)=g1 at *
   generalize sgQ (fv q3-fv q2)=g3 at *
   generalize sgQ (fv q3)=g2 at *
   generalize sgQ (fv q4)=g4 at *
   by_cases h1:g1<=0
   ·right;rw[if_neg (by grind)];unfold Zii;constructor<;>simp -implicitDefEqProofs[l582_0,hi,hq,c1,h1]
   by_cases h2:g2<=0
   ·right;rw[if_neg (by grind)];unfold Zii;constructor<;>simp -implicitDefEqProofs[l582_0,hi,hq,c1,c2,h1,h2]
   by_cases h3:0<g3
   ·right;rw[if_neg (by grind)];unfold Zii;constructor<;>simp -implicitDefEqProofs[l582_0,hi,hq,c1,c2,c3,h1,h2,h3]
   by_cases h4:g4<0
   ·right;rw[if_neg (by grind)];unfold Zii;constructor<;>simp -implicitDefEqProofs[l582_0,hi,hq,c1,c2,c3,c4,h1,h2,h3,h4]
   ·left;refine⟨?_,by grind⟩;unfold Zii;simp -implicitDefEqProofs[l582_0,hi,hq,hws,c1,c2,c3,c4,h1,h2,h3,h4]
  ·simp only[Y8,Ycx,if_true];unfold Zii;constructor<;>simp -implicitDefEqProofs[l582_0]
 unfold Zii at hlp;rw[Yaj]at hlp;unfold Zgi;rw[zaa Za3.h582 rfl,b582];obtain⟨L,t,y⟩:=h;cases hA:L.all Zcn<;>rw[hA]at hlp<;>simp at hlp<;>simp -implicitDefEqProofs[hlp]
def zg6(r:Trr)(t:Fz)(y:List Fz)(h1:∀x∈r.nums,fsz x<=400)(h2:fsz t<=400)(h3:∀x∈y,fsz x<=1000)(h4:∀x∈r.y,fsz x<=1000)(hl:y.length<=1000):Zb T 585 [.agg (Zd9 r),efz t,.sl (Zc y) .an]=some (.b (Zf4 r t y)):=by
 have w1:=h1 r.t (by simp[Trr.nums]);have w2:=h1 r.h (by simp[Trr.nums]);have c1:=z0o (T:=T) r.t r.h (by omega) (by omega);have z1:=zabe (fv r.t) (fv r.h);have z2:=zhe (L:=400) w1 (by decide);have z3:=zhe (L:=400) w2 (by decide);have c2:=zf5 (T:=T) t (fz (fv r.t+fv r.h)) (by omega) (by rw[zr6];omega);rw[zhd]at c2;have c3:=zf5 (T:=T) t r.t (by omega) (by omega);have c4:=zhm (T:=T) y r.y hl h3 h4;unfold Zf4;rw[zaa Za3.h585 rfl,b585];obtain⟨q1,q2,q3,q4,q5,q6⟩:=r;cases q6 with
 | true=>simp -implicitDefEqProofs[c1,c2]
 | false=>
  by_cases he:fv t=fv q1
  ·simp -implicitDefEqProofs[c3,c4,he]
  ·simp -implicitDefEqProofs[c3,he]
def Ziv(h:Hs)(i:Nat):St:=⟨[(1,.ptr (.loc 1) 1 5 0 0),(8,.sl (Zs h.l) .an),(9,.i .i64 h.l.length),(10,.i .i64 i)],[(.loc 1,bxH h)],3⟩
def ztz(h:Hs)(hs:HsS h 400):Zb T 583 [ehs h]=some (.b (Zfl h)):=by
 have hlen:=hs.len;have hlp:Zl T 0 0 (.norm false []) l583_0 (Ziv h 0)=if Zcs (h.l.drop 0) h.t h.y=true then some (.n,⟨[],[],2⟩) else some (.r,⟨[(2,.b false)],[],2⟩):=by
  refine zay (Ziv h) h.l.length (fun i=>if Zcs (h.l.drop i) h.t h.y=true then some (.n,⟨[],[],2⟩) else some (.r,⟨[(2,.b false)],[],2⟩)) (fun i hi=>?_) ?_
  ·have hws:=zbo hi (by omega);have hm:=Yx hi;have key:Zcs (h.l.drop i) h.t h.y=(Zf4 (h.l[i]'hi) (Zcx (h.l.drop (i+1)) h.t h.y).1 (Zcx (h.l.drop (i+1)) h.t h.y).2&&Zcs (h.l.drop (i+1)) h.t h.y):=by rw[Yi hi,Zcs]
   have f1:=hs.rt _ hm;have f2:=hs.ry _ hm;generalize hq:h.l[i]'hi=q at *
   by_cases hn:i+1<h.l.length
   ·have hn':(i:Int)+1<h.l.length:=by omega
    have hm2:=Yx hn;have en:Zcx (h.l.drop (i+1)) h.t h.y=((h.l[i+1]'hn).t,(h.l[i+1]'hn).y):=by rw[Yi hn];rfl
    rw[en]at key;have c:=zg6 (T:=T) q (h.l[i+1]'hn).t (h.l[i+1]'hn).y f1 (hs.rt _ hm2 _ (by simp[Trr.nums])) (fun x hx=>Yc (hs.ry _ hm2 x hx) (by decide)) (fun x hx=>Yc (f2 x hx) (by decide)) (hs.rl _ hm2);generalize hq2:h.l[i+1]'hn=p at *
    generalize hB:Zf4 q p.t p.y=B at *
    obtain⟨p1,p2,p3,p4,p5,p6⟩:=p;have hci:((i:Int)+1).toNat=i+1:=by omega
    cases B with
    | true=>
     left;refine⟨?_,by grind⟩;unfold Ziv bxH;simp -implicitDefEqProofs[l583_0,hi,hq,hq2,hws,hn,hn',c,hci]
    | false=>
     right;rw[if_neg (by grind)];unfold Ziv bxH;constructor<;>simp -implicitDefEqProofs[l583_0,hi,hq,hq2,hws,hn,hn',c,hci]
   ·have hn':¬ (i:Int)+1<h.l.length:=by omega
    have en:Zcx (h.l.drop (i+1)) h.t h.y=(h.t,h.y):=by rw[Ybz (by omega)];rfl
    rw[en]at key;have c:=zg6 (T:=T) q h.t h.y f1 hs.t (fun x hx=>Yc (hs.y x hx) (by decide)) (fun x hx=>Yc (f2 x hx) (by decide)) hs.yl;generalize hB:Zf4 q h.t h.y=B at *
    obtain⟨q1,q2,q3,q4,q5,q6⟩:=q;cases B with
    | true=>
     left;refine⟨?_,by grind⟩;unfold Ziv bxH;simp -implicitDefEqProofs[l583_0,hi,hq,hws,hn',c]
    | false=>
     right;rw[if_neg (by grind)];unfold Ziv bxH;constructor<;>simp -implicitDefEqProofs[l583_0,hi,hq,hws,hn',c]
  ·have e:Zcs [] h.t h.y=true:=rfl;simp only[Y8,e,if_true];unfold Ziv bxH;constructor<;>simp -implicitDefEqProofs[l583_0]
 unfold Ziv bxH at hlp;rw[Yaj]at hlp;unfold Zfl;rw[zaa Za3.h583 rfl,b583];obtain⟨L,t,y⟩:=h;cases hA:Zcs L t y<;>rw[hA]at hlp<;>simp at hlp<;>simp -implicitDefEqProofs[hlp]
def HsS.mono{h:Hs}{A B:Nat}(hs:HsS h A)(hAB:A<=B):HsS h B:=
 ⟨hs.len,Yc hs.t hAB,fun x hx=>Yc (hs.y x hx) hAB,hs.yl,fun r hr x hx=>Yc (hs.rt r hr x hx) hAB,fun r hr x hx=>Yc (hs.ry r hr x hx) hAB,hs.rl⟩
def zgv(h:Hs)(hs:HsS h 400):Zb T 579 [ehs h]=some (.i .i64 (Zct h)):=by
 have hs2:HsS h 1000:=hs.mono (by decide);have c1:=ztx (T:=T) h hs2;have c2:=zn7 (T:=T) h hs.len;have c3:=zty (T:=T) h hs2;have c4:=ztz (T:=T) h hs;unfold Zct;rw[zaa Za3.h579 rfl,b579];generalize Zdk h=P at *
 generalize Zi0 h=Ln at *
 generalize Zgi h=Sz at *
 generalize Zfl h=Ch at *
 obtain⟨L,t,y⟩:=h;cases P with
 | false=>simp -implicitDefEqProofs[c1]
 | true=>
 cases Ln with
 | false=>simp -implicitDefEqProofs[c1,c2]
 | true=>
 by_cases hl:200<L.length
 ·have hl':(200:Int)<L.length:=by omega
  simp -implicitDefEqProofs[c1,c2,hl,hl']
 have hl':¬ (200:Int)<L.length:=by omega
 cases Sz with
 | false=>simp -implicitDefEqProofs[c1,c2,hl,hl',c3]
 | true=>
 cases Ch<;>simp -implicitDefEqProofs[c1,c2,hl,hl',c3,c4]
def zt0(h:Hs)(hs:HsS h 400):Zb T 576 [ehs h]=some (.b (Zjh h)):=by
 have c:=zgv (T:=T) h hs;unfold Zjh;rw[zaa Za3.h576 rfl,b576];generalize Zct h=w at *
 by_cases hw:w=0
 ·subst hw;simp -implicitDefEqProofs[c]
 ·simp -implicitDefEqProofs[c,hw]
def zx0(l:List Trr)(r:Trr):Zav (l++[r])=if r.ok then Zav l++[Zac r] else Zav l:=by
 grind[Zav]
def Zkx(l:List Trr)(i n:Nat):St:=⟨[(3,.bs (.loc 3) 1 14 0 n),(8,.sl (Zs l) .an),(9,.i .i64 l.length),(10,.i .i64 i)],[(.loc 3,⟨1,.own,14,Zs (Zav (l.take i))⟩)],3⟩
def zec(h:Hs)(hs:HsS h 1000):Zb T 532 [ehs h]=some (.sl (Zs (Zav h.l)) .an):=by
 have hlen:=hs.len;have al:∀i,(Zav (h.l.take i)).length<=i:=by
  grind[Zav]
 have hlp:Zl T 0 0 (.norm false [3]) l532_0 (Zkx h.l 0 (Zav (h.l.take 0)).length)=some (.n,⟨[(3,.bs (.loc 3) 1 14 0 (Zav h.l).length)],[(.loc 3,⟨1,.own,14,Zs (Zav h.l)⟩)],3⟩):=by
  refine zas (fun i=>Zkx h.l i (Zav (h.l.take i)).length) h.l.length _ (fun i hi=>?_) ?_
  ·have hga:h.l[i]? = some (h.l[i]'hi):=Ya hi;have hws:=zbo hi (by omega);have hm:=Yx hi;have key:Zav (h.l.take (i+1))=if (h.l[i]'hi).ok then Zav (h.l.take i)++[Zac (h.l[i]'hi)] else Zav (h.l.take i):=by
    rw[Y2 hi,zx0]
   have hai:=al i;have c1:=zdp (T:=T) (h.l[i]'hi);have c2:=zfm (T:=T) (h.l[i]'hi).nums (by simp[Trr.nums]) (hs.rt _ hm);have c3:=zfm (T:=T) (h.l[i]'hi).y (hs.rl _ hm) (hs.ry _ hm);generalize hq:h.l[i]'hi=q at *
   have hA1:(Zav (h.l.take i)).length+1<=4294967296:=by omega
   clear hs hm al;unfold Zkx;simp only[key];generalize hA:Zav (h.l.take i)=A at *
   clear hA key;have hnn:wkL (Zc q.nums)=Zc q.nums:=zcu _;replace c2:Zb T 533 [.sl (Zc q.nums) .an]=some (.sl [Zam (fz (fv q.t)),Zam (fz (fv q.w)),Zam (fz (fv q.h)),Zam (fz (fv q.e))] .an):=c2;generalize hN:Zc q.nums=NN at *
   clear hN;have hpush:wkL (Zs A++[Zd9 (Zac q)])=Zs (A++[Zac q]):=by rw[zk5,zmb]
   unfold Zac at *
   obtain⟨q1,q2,q3,q4,q5,q6⟩:=q;dsimp only at *
   generalize fz (fv q1)=z1 at *
   generalize fz (fv q2)=z2 at *
   generalize fz (fv q3)=z3 at *
   generalize fz (fv q4)=z4 at *
   generalize nrm q5=z5 at *
   obtain⟨L,t,y⟩:=h;dsimp only at *
   cases q6 with
   | true=>
    simp -implicitDefEqProofs[l532_0,hi,hq,hws,c1,c2,c3,hnn,hA1,hpush]
   | false=>
    simp -implicitDefEqProofs[l532_0,hi,hq,hws]
  ·simp only[Ya7];unfold Zkx;simp only[Ya7];constructor<;>simp -implicitDefEqProofs[l532_0]
 have e0:Zav (h.l.take 0)=[]:=rfl;unfold Zkx at hlp;rw[e0]at hlp;simp only[Yt,Yaa,zet]at hlp;have ht:List.take (Zav h.l).length (Zav h.l)=Zav h.l:=Ya7 ..;rw[zaa Za3.h532 rfl,b532];obtain⟨L,t,y⟩:=h;simp -implicitDefEqProofs[hlp,ht]
end
section
variable{T:Tbl}[Zan T][Zr T][Zx T][Z2 T][Zt T][Zw T][Zi T][Zo T][Z0 T][Zbf T][Zb3 T][Zcj T][Zcv T][Zcc T][Zdi T][Zf0 T][Zfy T][Zp T][Zbb T][Zba T][Zb8 T][Za3 T][Zgb T]
def zrw(l:List Trr):(Zav l).length<=l.length:=by
 unfold Zav;rw[Y1];exact Ybe ..
def Zky(A:List Trr)(i:Nat):St:=⟨[(3,.bs (.loc 3) 1 3 0 i),(7,.sl (Zs A) .an),(8,.i .i64 A.length),(9,.i .i64 i)],[(.loc 3,⟨1,.own,3,Zc ((A.take i).map (·.h))⟩)],3⟩
def z04(h:Hs)(hs:HsS h 1000):Zb T 519 [ehs h]=some (.sl (Zc (Zgy h)) .an):=by
 have c:=zec (T:=T) h hs;have hl:=Yc (zrw h.l) hs.len;unfold Zgy;generalize Zav h.l=A at *
 have hlp:Zl T 0 0 (.norm false [3]) l519_0 (Zky A 0)=some (.n,⟨[(3,.bs (.loc 3) 1 3 0 A.length)],[(.loc 3,⟨1,.own,3,Zc (A.map (·.h))⟩)],3⟩):=by
  refine zas (Zky A) A.length _ (fun i hi=>?_) ?_
  ·have hga:A[i]? = some (A[i]'hi):=Ya hi;have hws:=zbo hi (by omega);have key:(A.take (i+1)).map (·.h)=(A.take i).map (·.h)++[(A[i]'hi).h]:=by rw[Y2 hi,Ya4];rfl
   have hml:((A.take i).map (·.h)).length=i:=by simp;omega
   have hi4:i+1<=4294967296:=by omega
   generalize hq:A[i]'hi=q at *
   unfold Zky;simp only[key];generalize (A.take i).map (·.h)=M at *
   have hpush:=zbg hml q.h;obtain⟨q1,q2,q3,q4,q5,q6⟩:=q;dsimp only at *
   simp -implicitDefEqProofs[l519_0,hi,hga,hq,hws,hml,hi4,hpush]
  ·unfold Zky;rw[Yb (Yd _)];constructor<;>simp -implicitDefEqProofs[l519_0]
 unfold Zky at hlp;simp only[Yt,Yb7,Yb2,zcd]at hlp;have hml:(A.map (·.h)).length=A.length:=by simp
 have ht:List.take A.length (A.map (·.h))=A.map (·.h):=Yb (by simp);rw[zaa Zgb.h519 rfl,b519];clear hs;generalize A.map (·.h)=M at *
 obtain⟨L,t,y⟩:=h;simp -implicitDefEqProofs[c,hlp,ht,hml]
def Zkz(h:Hs)(A:List Trr)(i:Nat):St:=⟨[(1,.ptr (.loc 1) 1 5 0 0),(4,.bs (.loc 4) 2 3 0 i),(5,.bs (.loc 5) 3 1 0 i),(9,.sl (Zs A) .an),(10,.i .i64 A.length),(11,.i .i64 i)],
 [(.loc 1,bxH h),(.loc 4,⟨2,.own,3,Zc ((A.take i).map (·.t))⟩),(.loc 5,⟨3,.own,1,Zz ((A.take i).map (·.y))⟩)],5⟩
def zt1(h:Hs)(A:List Trr)(hl:A.length<=1000):Zl T 0 0 (.norm false [1,4,5]) l513_0 (Zkz h A 0) =
  some (.n,⟨[(1,.ptr (.loc 1) 1 5 0 0),(4,.bs (.loc 4) 2 3 0 A.length),(5,.bs (.loc 5) 3 1 0 A.length)],[(.loc 1,bxH h),(.loc 4,⟨2,.own,3,Zc (A.map (·.t))⟩),(.loc 5,⟨3,.own,1,Zz (A.map (·.y))⟩)],5⟩):=by
 refine zas (Zkz h A) A.length _ (fun i hi=>?_) ?_
 ·have hga:A[i]? = some (A[i]'hi):=Ya hi;have hws:=zbo hi (by omega);have key:(A.take (i+1)).map (·.t)=(A.take i).map (·.t)++[(A[i]'hi).t]:=by rw[Y2 hi,Ya4];rfl
  have key2:(A.take (i+1)).map (·.y)=(A.take i).map (·.y)++[(A[i]'hi).y]:=by rw[Y2 hi,Ya4];rfl
  have hml:((A.take i).map (·.t)).length=i:=by simp;omega
  have hml2:((A.take i).map (·.y)).length=i:=by simp;omega
  have hi4:i+1<=4294967296:=by omega
  generalize hq:A[i]'hi=q at *
  unfold Zkz bxH;simp only[key,key2];generalize (A.take i).map (·.t)=M at *
  generalize (A.take i).map (·.y)=N at *
  have hpush:=zbg hml q.t;have hpush2:=zf7 hml2 q.y;obtain⟨q1,q2,q3,q4,q5,q6⟩:=q;dsimp only at *
  simp -implicitDefEqProofs[l513_0,hi,hga,hq,hws,hml,hml2,hi4,hpush,hpush2]
 ·unfold Zkz bxH;rw[Yb (Yd _)];constructor<;>simp -implicitDefEqProofs[l513_0]
def zt2(h:Hs)(hs:HsS h 1000):Zb T 513 [ehs h]=some (.tup [.sl (Zc (Zdt h)) .an,.sl (Zz (Zdu h)) .an]):=by
 have c:=zec (T:=T) h hs;have hl:=Yc (zrw h.l) hs.len;have c2:=ziz (T:=T) h.t (Yc hs.t (by decide));have c3:=zfm (T:=T) h.y hs.yl hs.y;unfold Zdt Zdu;generalize Zav h.l=A at *
 have hlp:=zt1 (T:=T) h A hl;unfold Zkz bxH at hlp;simp only[Yt,Yb7,Yb2,zcd,zr8]at hlp;have hml:(A.map (·.t)).length=A.length:=by simp
 have hml2:(A.map (·.y)).length=A.length:=by simp
 have hi4:A.length+1<=4294967296:=by omega
 rw[zaa Za3.h513 rfl,b513];clear hs;generalize A.map (·.t)=M at *
 generalize A.map (·.y)=N at *
 generalize hn:A.length=n at *
 have hpush:=zbg hml (fz (fv h.t));have hpush2:=zf7 hml2 (nrm h.y);generalize fz (fv h.t)=z at *
 generalize nrm h.y=Y at *
 have ht1:List.take (n+1) (M++[z])=M++[z]:=Yb (by simp;omega);have ht2:List.take (n+1) (N++[Y])=N++[Y]:=Yb (by simp;omega);obtain⟨L,⟨t1,t2,t3⟩,y⟩:=h;dsimp only at *
 simp -implicitDefEqProofs[c,c2,c3,hlp,hml,hml2,hi4,hpush,hpush2,hn,ht1,ht2]
end
class Zmc (T:Tbl):Prop where
abbrev agS(t h:Fz)(y0 y1 f0 f1:List Fz):AV:=
 .agg [.b t.1,.sl (Za t.2.1) .an,.sl (Za t.2.2) .an,.b h.1,.sl (Za h.2.1) .an,.sl (Za h.2.2) .an,.sl (Zc y0) .an,.sl (Zc y1) .an,.sl (Zc f0) .an,.sl (Zc f1) .an]
def Znf(l:List Fz):Rat:=l.foldl (fun p x=>p*fv x) 1
section
variable{T:Tbl}[Zr T][Zx T][Z2 T][Zt T][Zw T][Zbb T][Zi T][Zo T][Z0 T][Zba T][Zb8 T][Zmc T]
def Zqg(l:List Fz)(i:Nat):St:=⟨[(2,.ptr (.loc 2) 1 3 0 0),(3,.ptr (.loc 3) 2 3 0 0),(7,.sl (Zc l) .an),(8,.i .i64 l.length),(9,.i .i64 i)],[(.loc 2,⟨1,.str,3,[Zfk]⟩),(.loc 3,⟨2,.str,3,[Zam (fz (Znf (l.take i)))]⟩)],4⟩
def Zog(h:Fz)(y0 y1 f0 f1:List Fz):Bool:=decide (0<fv h)&&decide (y0.length<=300)&&decide (y1.length=y0.length)&&decide (f0.length=y0.length)&&decide (f1.length=y0.length)
end
def Zqh(t h s:Rat):Rat:=(s-t)/h
def Zqi(h x y:Rat):List Rat:=[y*y*(1+2*x),x*x*(3 + -2*x),h*x*y*y,h*x*x * -y]
def Zqj(h x y:Rat):List Rat:=[-(6*x*y/h),6*x*y/h,y*(1 + -3*x),x*(-2+3*x)]
def Zqk(c:List Rat)(y0 y1 f0 f1:List Fz):List Rat:=Zm9 ((fzs c).zip [y0,y1,f0,f1]) (List.replicate y0.length 0)
def Zng(s:Rat):List Fz->Nat->Option Nat
 | [],_=>none
 | t::l,i=>if s<=fv t then some i else Zng s l (i+1)
def Zql(s:Rat):List Fz->Option Nat
 | []=>none
 | t::l=>if s<fv t then none else Zng s l 0
def Zoh:Option Nat->AV
 | some i=>.tup [.i .i64 i,.b true]
 | none=>.tup [.i .i64 (-1),.b false]
section
variable{T:Tbl}[Zan T][Zr T][Zx T][Z2 T][Zt T][Zw T][Zi T][Zo T][Z0 T][Zbf T][Zb3 T][Zcj T][Zcv T][Zcc T][Zdi T][Zf0 T][Zfy T][Zp T][Zbb T][Zba T][Zb8 T][Za3 T][Zgb T][Zmy T][Zjr T][Zm0 T][Zmc T][Zmk T]
def Zpj(s:Fz)(l:List Fz)(i:Nat):St:=⟨[(3,.ptr (.loc 3) 1 3 0 0),(25,.sl (Zc l) .an),(26,.i .i64 l.length),(27,.i .i64 i)],[(.loc 3,⟨1,.str,3,[Zam s]⟩)],3⟩
def Zpk:Option Nat->Ex×St
 | some i=>(.r,⟨[(4,.i .i64 i),(5,.b true)],[],2⟩)
 | none=>(.n,⟨[],[],2⟩)
end
class Zhh (T:Tbl):Prop where
class Zlu (T:Tbl):Prop where
def Zv(c:UInt8):List UInt8->List (List UInt8)
 | []=>[[]]
 | b::l=>if b=c then []::Zv c l else match Zv c l with
  | []=>[[b]]
  | p::r=>(b::p)::r
theorem zg8(c:UInt8):∀l:List UInt8,(l.count c=0/\Lib.indexByte l c=-1/\Zv c l=[l]) \/
  ∃m:Nat,m<l.length/\Lib.indexByte l c=m/\Zv c l=l.take m::Zv c (l.drop (m+1))
 | []=>.inl ⟨rfl,rfl,rfl⟩
 | b::l=>by
  by_cases h:b=c
  ·right;subst h;refine⟨0,by simp,?_,?_⟩
   ·simp[Lib.indexByte]
   ·simp[Zv]
  ·have hb:(b == c)=false:=by simpa using h
   rcases zg8 c l with ⟨h1,h2,h3⟩ | ⟨m,h1,h2,h3⟩
   ·left;refine⟨by rw[List.count_cons_of_ne h,h1],by simp[Lib.indexByte,hb,h2],by simp[Zv,h,h3]⟩
   ·right;have hm:((m:Int) == -1)=false:=by simp
    refine⟨m+1,by simpa using h1,by simp[Lib.indexByte,hb,h2,hm],by simp[Zv,h,h3]⟩
theorem zbv(c:UInt8):∀l:List UInt8,(Zv c l).length=l.count c+1
 | []=>rfl
 | b::l=>by
  have ih:=zbv c l;by_cases h:b=c
  ·subst h;simp[Zv,ih]
  ·rw[List.count_cons_of_ne h,<-ih];cases hs:Zv c l with
   | nil=>rw[hs]at ih;simp at ih
   | cons p r=>simp[Zv,h,hs]
def z5v{T:Tbl}[Zdp T](s:List UInt8)(c:UInt8):Zb T 194 [.s s,.s [c]]=some (.i .i64 (Lib.indexByte s c)):=by rw[p194];rfl
def zl5{T:Tbl}[Zdp T](s:List UInt8)(c:UInt8):Zb T 361 [.s s,.s [c]]=some (.i .i64 ((s.count c:Nat):Int)):=by rw[p361];rfl
section
variable{T:Tbl}[Zdp T][Za1 T]
def zyv(s:List UInt8)(c:UInt8):Zb T 362 [.s s,.s [c]]=some (.i .i64 (Lib.indexByte s c)):=by
 have h:=z5v (T:=T) s c;rw[zaa Za1.h362 rfl,b362];simp -implicitDefEqProofs[h]
def Zle(c:UInt8)(N:Nat)(ps:List (List UInt8))(s:List UInt8):St:=
 ⟨[(0,.s s),(1,.s [c]),(2,.i .i64 0),(3,.i .i64 ((N:Int)-1)),(9,.bs (.loc 31) 1 1 0 N),(10,.i .i64 ps.length)],[(.loc 31,⟨1,.own,1,Zg ps++List.replicate (N-ps.length) [.s []]⟩)],3⟩
def zk0(c:UInt8)(all:List (List UInt8))(hN:all.length<=1000001):∀y:List (List UInt8)×List UInt8,(y.1++Zv c y.2=all/\y.2.length<=1000000) ->
  Zl T 0 0 (.norm false [0,9,10]) l354_0 (Zle c all.length y.1 y.2)=some (.n,⟨[(0,.s (all.getLastD [])),(9,.bs (.loc 31) 1 1 0 all.length),(10,.i .i64 ((all.length:Int)-1))],[(.loc 31,⟨1,.own,1,Zg all.dropLast++[[.s []]]⟩)],3⟩):=by
 refine zat (fun y:List (List UInt8)×List UInt8=>Zle c all.length y.1 y.2) (fun y=>y.1++Zv c y.2=all/\y.2.length<=1000000) (fun y=>y.2.length) (fun _=>_) ?_
 rintro⟨ps,s⟩ ⟨hall,hs⟩
 simp only at hall hs;have hi:=zyv (T:=T) s c;have hlen:=congrArg List.length hall;rw[Yo,zbv]at hlen;unfold Zle;rcases zg8 c s with ⟨h1,h2,h3⟩ | ⟨m,h1,h2,h3⟩
 ·right;rw[h3]at hall;have e1:all.getLastD []=s:=by rw[<-hall];simp
  have e2:all.dropLast=ps:=by rw[<-hall];simp
  have e3:all.length-ps.length=1:=by omega
  have e4:¬ (ps.length:Int)<(all.length:Int)-1:=by omega
  have e5:(ps.length:Int)=(all.length:Int)-1:=by omega
  rw[e1,e2,e3,e5];have e6:List.replicate 1 [AV.s []]=[[AV.s []]]:=rfl;rw[e6];have hw:wkL (Zg ps++[[AV.s []]])=Zg ps++[[AV.s []]]:=by
   rw[zb3,Ya4,<-zb3,zbz]
   rfl
  have hl2:(Zg ps++[[AV.s []]]).length=all.length:=by simp;omega
  clear hall e1 e2 h3;generalize Zg ps++[[AV.s []]]=B at *
  constructor<;>simp -implicitDefEqProofs[l354_0,hw,hl2]
 ·left;rw[h2]at hi;have hpos:0<(Zv c (s.drop (m+1))).length:=by rw[zbv];omega
  have hlen2:=congrArg List.length hall;rw[h3,Yo,Ye]at hlen2;refine⟨(ps++[s.take m],s.drop (m+1)),⟨by rw[<-hall,h3];simp,by simp;omega⟩,by simp;omega,?_,rfl⟩;have q1:(ps.length:Int)<(all.length:Int)-1:=by omega
  have q2:¬ (m:Int)<0:=by omega
  have q3:IntKind.wrap .i64 ((m:Int)+0)=m:=by rw[Int.add_zero];exact zab _ (by omega)
  have q3':IntKind.wrap .i64 (m:Int)=m:=zab _ (by omega);have q4:IntKind.wrap .i64 ((m:Int)+1)=((m+1:Nat):Int):=zab _ (by omega);have q5:IntKind.wrap .i64 ((ps.length:Int)+1)=((ps.length+1:Nat):Int):=zab _ (by omega);have q6:(m:Int)<=s.length:=by omega
  have q7:((m+1:Nat):Int)<=s.length:=by omega
  have q7':m+1<=s.length:=by omega
  have q8:(m:Int)+1<=s.length:=by omega
  have e:(Zg ps++List.replicate (all.length-ps.length) [AV.s []]).set ps.length [AV.s (s.take m)]=Zg (ps++[s.take m])++List.replicate (all.length-(ps.length+1)) [AV.s []]:=by
   rw[Yad _ _ (by simp),za7,Ybf,show all.length-ps.length=(all.length-(ps.length+1))+1 by omega,Ybq (n:=all.length-(ps.length+1)),Ybx,
    show Zg (ps++[s.take m])=Zg ps++[[AV.s (s.take m)]] by simp[Zg],Yay]
   rfl
  have hl:(Zg ps++List.replicate (all.length-ps.length) [AV.s []]).length=all.length:=by simp;omega
  have hk:wkL ((Zg ps++List.replicate (all.length-ps.length) [AV.s []]).set ps.length [AV.s (s.take m)])=(Zg ps++List.replicate (all.length-ps.length) [AV.s []]).set ps.length [AV.s (s.take m)]:=by
   rw[e,zb3,Ya4,<-zb3,zbz];simp[wkR,wkA]
  have hg:(Zg ps++List.replicate (all.length-ps.length) [AV.s []])[ps.length]? = some [AV.s []]:=by
   rw[Yg (by simp),za7,Ybf,Ydd,if_pos (by omega)]
  simp only[Yo,Ye,Yaa];rw[<-e];have hnl:ps.length<all.length:=by omega
  have hnl':(ps.length:Int)<all.length:=by omega
  clear e hall h3 hpos hlen hlen2;generalize Zg ps++List.replicate (all.length-ps.length) [AV.s []]=B at *
  obtain⟨hb,hgE⟩:=Ys.1 hg;simp -implicitDefEqProofs[l354_0,hi,q1,q2,q3,q3',q4,q5,q6,q7,q7',q8,hl,hk,hg,hgE,hnl,hnl',h1]
def zok(s:List UInt8)(c:UInt8)(hs:s.length<=1000000):Zb T 346 [.s s,.s [c]]=some (.sl (Zg (Zv c s)) .an):=by
 have hc:=zl5 (T:=T) s c;have hcl:s.count c<=s.length:=Ydt;have hlen:=zbv c s;have h:=zk0 (T:=T) c (Zv c s) (by omega) ([],s) ⟨by simp,hs⟩;unfold Zle at h;simp only[Yaa,Ydc,Yt]at h;have e0:Zg []=[]:=rfl;rw[e0,Ya5,hlen]at h;have w1:IntKind.wrap .i64 ((s.count c:Int)+1)=((s.count c+1:Nat):Int):=zab _ (by omega);have w2:IntKind.wrap .i64 ((s.length:Int)+1)=((s.length+1:Nat):Int):=zab _ (by omega);have w3:IntKind.wrap .i64 (((s.count c+1:Nat):Int)-1)=((s.count c+1:Nat):Int)-1:=zab _ (by omega);have w4:IntKind.wrap .i64 (((s.count c+1:Nat):Int)-1+1)=((s.count c+1:Nat):Int):=by
  rw[Int.sub_add_cancel];exact zab _ (by omega)
 have mm:min ((s.count c+1:Nat):Int) ((s.length+1:Nat):Int)=((s.count c+1:Nat):Int):=by omega
 have hz:wkL (List.replicate (s.count c+1) [AV.s []])=List.replicate (s.count c+1) [AV.s []]:=by rw[zb3,List.map_replicate];rfl
 obtain⟨L,hL⟩:∃L,L=Zv c s:=⟨_,rfl⟩;rw[<-hL]at h ⊢ hlen;have hne:L≠[]:=by intro e;rw[e]at hlen;simp at hlen
 have hset:(Zg L.dropLast++[[AV.s []]]).set (s.count c) [AV.s (L.getLastD [])]=Zg L:=by
  have h1:L.dropLast.length=s.count c:=by rw[Ybm];omega
  rw[Yad _ _ (by simp;omega),za7,h1,Ybf,Ybx];have h2:L=L.dropLast++[L.getLastD []]:=by
   rw[Yd7,Ydq hne,Yce,Yct]
  conv=>rhs;rw[h2]
  simp[Zg]
 have hl2:(Zg L.dropLast++[[AV.s []]]).length=s.count c+1:=by simp[Ybm];omega
 have hg:(Zg L.dropLast++[[AV.s []]])[s.count c]? = some [AV.s []]:=by
  rw[Yg (by simp[Ybm];omega)];simp[Ybm,hlen]
 have hr:(Zg L).length=s.count c+1:=by simp[hlen]
 have n1:¬ ((s.count c:Int)+1<0):=by omega
 have n2:(s.count c:Int)+1<=4294967296:=by omega
 have hwR:wkL (Zg L)=Zg L:=zbz L;generalize s.count c=k at *
 generalize Zg L.dropLast++[[AV.s []]]=B at *
 obtain⟨hb,hgE⟩:=Ys.1 hg;generalize L.getLastD []=last at *
 generalize Zg L=R at *
 clear hL hne;have hk:(((k+1:Nat):Int)-1)=k:=by omega
 rw[hk]at h w3 w4;have tk:List.take (k+1) R=R:=Yb (by omega);have hnlt:¬ s.length<k:=by omega
 have nn:(0:Int)<=(k:Int)+1:=by omega
 have nt:((k:Int)+1).toNat=k+1:=by omega
 have nk:(k:Int)<(k:Int)+1:=by omega
 have nle:(k:Int)+1<=(R.length:Int):=by omega
 have nle2:(k:Int)<=(B.length:Int):=by omega
 have hg354:Zb T 354 [.s s,.s [c],.i .i64 0,.i .i64 (-1)]=some (.sl R .an):=by
  rw[zaa Za1.h354 rfl,b354];simp -implicitDefEqProofs[hc,w1,w2,w3,w4,mm,hz,h,hset,hl2,hg,hgE,hr,n1,n2,tk,hnlt,nn,nt,nk,nle,nle2,hwR,hr]
 rw[zaa Za1.h346 rfl,b346];simp -implicitDefEqProofs[hg354,hwR]
end
abbrev flt(k a:Int):AV:=.agg [.i .i64 k,.i .i64 0,.i .i64 0,.i .i64 a]
def Zf1(c:UInt8):Bool:=c == 47 || c == 46
def Z4:List UInt8->Nat
 | []=>0
 | c::r=>if Zf1 c then 0 else Z4 r+1
theorem zlt:∀s,Z4 s<=s.length
 | []=>Yd _
 | c::r=>by
  have:=zlt r;simp only[Z4];split
  ·omega
  ·simp only[Ye];omega
theorem zrl:∀s:List UInt8,Lib.indexAny s [47,46]=if Z4 s<s.length then (Z4 s:Int) else -1
 | []=>rfl
 | c::r=>by
  have ih:=zrl r;have hc:([47,46]:List UInt8).contains c=Zf1 c:=by
   rw[Ybo];simp only[List.contains_iff_mem,Yr,Ya6,or_false,Zf1,Ycw,beq_iff_eq]
  have hle:=zlt r;simp only[Lib.indexAny,hc,Z4];by_cases hcut:Zf1 c=true
  ·simp[hcut]
  ·simp only[hcut,if_false,Ye,Yd9,Yac];rw[ih];by_cases h:Z4 r<r.length
   ·have e:((Z4 r:Int) == -1)=false:=by simp
    simp[h,e]
   ·simp[h]
theorem zrm:∀(s:List UInt8),Z4 s<s.length->∃c,s[Z4 s]? = some c/\(c=47\/c=46)
 | [],h=>by simp at h
 | c::r,h=>by
  simp only[Z4]at h ⊢;cases hc:Zf1 c with
  | true=>
   refine⟨c,by simp,?_⟩;simpa[Zf1]using hc
  | false=>
   rw[hc]at h;simp only[Yac,if_false,Ye,Yd9]at h ⊢;obtain⟨d,h1,h2⟩:=zrm r h;exact⟨d,by simpa using h1,h2⟩
def z2k{l:List UInt8}(h0:¬ 0<=Z3 l):l.length<=60/\(ofN (rd l)).length<=60:=by
 have h1:Zcw 0 l<0:=by
  unfold Z3 at h0;split at h0
  ·omega
  ·omega
 obtain⟨h2,h3⟩:=zhn 0 l (Yu _) h1;refine⟨by omega,zal (k:=60) ?_⟩;have h4:=zy8 h3;have h5:10^l.length<=10^60:=Yp (by decide) (by omega);exact Yq h4 (Yc h5 (by decide))
def Zf2(z:Int)(neg:Bool)(s:List UInt8)(c:UInt8)(at_:Nat):Rat×Int×Int:=
 let rest:=s.drop at_
 if 0<=Z3 rest then (0,1,Z3 rest+at_)
 else if c=47 then (if rd rest=0 then (0,2,at_) else (mkRat z (rd rest),0,0))
 else (mkRat (sg neg (z.natAbs*10^rest.length+rd rest)) (10^rest.length),0,0)
def Zbg(s:List UInt8):Rat×Int×Int:=
 let first:=s.take (Z4 s)
 if 0<=Zbw first then (0,1,Zbw first+Zc7 first)
 else if Z4 s<s.length then Zf2 (Za6 first) (s.head? = some 45) s (s.getD (Z4 s) 0) (Z4 s+1)
 else (mkRat (Za6 first) 1,0,0)
def z4u{n:Nat}(h:n<=60):(ofN (10^n)).length<=60:=by
 refine zal (k:=60) ?_;have h5:10^n<=10^60:=Yp (by decide) h;exact Ycs h5 (by decide)
def zxg(l:List UInt8):-1<=Zbw l/\Zbw l<=60/\0<=Zc7 l/\Zc7 l<=1:=by
 have key:∀l',-1<=Z3 l'/\Z3 l'<=60:=by
  intro l';unfold Z3;split
  ·omega
  ·exact⟨zqh 0 l',zjh 0 l' (by decide)⟩
 unfold Zbw Zc7;refine⟨(key _).1,(key _).2,?_,?_⟩<;>split<;>omega
section
variable{T:Tbl}[Zr T][Zx T][Z2 T][Zt T][Zw T][Zp T][Zi T][Zo T][Z0 T][Zc1 T][Zdp T][Za1 T][Zeg T]
def zlu(n:Bool)(a d:List UInt32)(ha:a.length<=10000)(hd:d.length<=10000) :
  Zb T 204 [wh n a,.sl (Za d) .an]=some (.tup (if val d=0 then [efz (fz 0),.b false] else [efz (fz (mkRat (wv n a) (val d))),.b true])):=by
 have c0:=zhl (T:=T);have c1:=ze6 (T:=T) d (by omega);rw[zaa Zc1.h204 rfl,b204];by_cases h:val d=0
 ·rw[if_pos h];rw[decide_eq_true h]at c1;generalize fz 0=Z at *
  simp -implicitDefEqProofs[c0,c1]
 ·rw[if_neg h];rw[decide_eq_false h]at c1;have c2:=zp1 (T:=T) n a d ha hd h;generalize fz (mkRat (wv n a) (val d))=R at *
  simp -implicitDefEqProofs[c1,c2]
def ztc(l:List UInt8):Zb T 345 [.s l,.s [45]]=some (.b (l.head? = some 45)):=by
 have h1:Zb T 123 [.s l,.s [45]]=some (.b (l.head? = some 45)):=by
  rw[zaa Zp.h123 rfl,b123];cases l with
  | nil=>simp -implicitDefEqProofs
  | cons c r=>
   have h2:(1:Int)<=(r.length:Int)+1:=by omega
   by_cases hc:c=45<;>simp -implicitDefEqProofs[h2,hc]
 rw[zaa Za1.h345 rfl,b345];simp -implicitDefEqProofs[h1]
def zkn(s:List UInt8)(k:Nat)(hk:k<=s.length)(hs:s.length<=1000000):Zb T 253 [.s s,.i .i64 k] =
  some (.tup (if 0<=Z3 (s.drop k) then [.sl [] .an,flt 1 (Z3 (s.drop k)+k)] else [.sl (Za (ofN (rd (s.drop k)))) .an,flt 0 0])):=by
 have h1:=ziy (T:=T) (s.drop k) (by rw[Yby];omega);have hk':(k:Int)<=s.length:=by omega
 rw[zaa Zeg.h253 rfl,b253];by_cases h0:0<=Z3 (s.drop k)
 ·rw[if_pos h0]at h1 ⊢;have hw:Z3 (s.drop k)<=60:=by
   unfold Z3;split
   ·omega
   ·exact zjh 0 _ (by decide)
  have w1:IntKind.wrap .i64 (Z3 (s.drop k)+(k:Int))=Z3 (s.drop k)+(k:Int):=zab _ (by omega);generalize Z3 (s.drop k)=W at *
  simp -implicitDefEqProofs[hk,hk',h1,w1]
 ·rw[if_neg h0]at h1 ⊢;generalize ofN (rd (s.drop k))=R at *
  simp -implicitDefEqProofs[hk,hk',h1]
def z0i(n:Bool)(a:List UInt32)(s:List UInt8)(k:Nat)(ha:a.length<=10000)(hk:k<=s.length)(hs:s.length<=1000000):Zb T 254 [wh n a,.s s,.i .i64 k] =
  some (.tup (if 0<=Z3 (s.drop k) then [efz (fz 0),flt 1 (Z3 (s.drop k)+k)] else if rd (s.drop k)=0 then [efz (fz 0),flt 2 k] else [efz (fz (mkRat (wv n a) (rd (s.drop k)))),flt 0 0])):=by
 have h1:=zkn (T:=T) s k hk hs;have c0:=zhl (T:=T);rw[zaa Zeg.h254 rfl,b254];by_cases h0:0<=Z3 (s.drop k)
 ·rw[if_pos h0]at h1 ⊢;generalize fz 0=Z at *
  generalize Z3 (s.drop k)+(k:Int)=W at *
  simp -implicitDefEqProofs[h1,c0]
 ·rw[if_neg h0]at h1 ⊢;have hl:=(z2k h0).2;have h2:=zlu (T:=T) n a (ofN (rd (s.drop k))) ha (by omega);rw[zad]at h2;by_cases hz:rd (s.drop k)=0
  ·rw[if_pos hz]at h2 ⊢;clear hl h0;generalize fz 0=Z at *
   generalize ofN (rd (s.drop k))=R at *
   simp -implicitDefEqProofs[h1,h2]
  ·rw[if_neg hz]at h2 ⊢;clear hl h0;generalize fz (mkRat (wv n a) (rd (s.drop k)))=Z at *
   generalize ofN (rd (s.drop k))=R at *
   simp -implicitDefEqProofs[h1,h2]
def ztd(ht:∀n:Nat,n<=60->Zb T 252 [.i .i64 n]=some (.sl (Za (ofN (10^n))) .an))(n neg:Bool)(a:List UInt32)(s:List UInt8)(k:Nat)(ha:a.length<=1000)(hk:k<=s.length)(hs:s.length<=1000000) :
  Zb T 255 [wh n a,.b neg,.s s,.i .i64 k] =
  some (.tup (if 0<=Z3 (s.drop k) then [efz (fz 0),flt 1 (Z3 (s.drop k)+k)] else [efz (fz (mkRat (sg neg (val a*10^(s.drop k).length+rd (s.drop k))) (10^(s.drop k).length))),flt 0 0])):=by
 have h1:=zkn (T:=T) s k hk hs;have c0:=zhl (T:=T);rw[zaa Zeg.h255 rfl,b255];by_cases h0:0<=Z3 (s.drop k)
 ·rw[if_pos h0]at h1 ⊢;generalize fz 0=Z at *
  generalize Z3 (s.drop k)+(k:Int)=W at *
  simp -implicitDefEqProofs[h1,c0]
 ·rw[if_neg h0]at h1 ⊢;obtain⟨hl60,hl⟩:=z2k h0;have h2:=ht (s.drop k).length hl60;have ht60:=z4u hl60;have h3:=zgb (T:=T) a (ofN (10^(s.drop k).length)) (by omega) (by omega);rw[zad]at h3;have hm:(ofN (val a*10^(s.drop k).length)).length<=1060:=by
   have e1:=zac a;have e2:=zb5 (x:=val a) (y:=10^(s.drop k).length) (L:=1000) (M:=60) (by omega) ht60;omega
  have h4:=zxy (T:=T) [ofN (val a*10^(s.drop k).length),ofN (rd (s.drop k))] (by simp) (by
   intro x hx;simp only[Yr,Ya6,or_false]at hx;rcases hx with rfl | rfl<;>omega)
  have e1:lls [ofN (val a*10^(s.drop k).length),ofN (rd (s.drop k))]=[[.sl (Za (ofN (val a*10^(s.drop k).length))) .an],[.sl (Za (ofN (rd (s.drop k)))) .an]]:=rfl;have e2:Zdx [ofN (val a*10^(s.drop k).length),ofN (rd (s.drop k))]=val a*10^(s.drop k).length+rd (s.drop k):=by simp[Zdx,zad]
  rw[e1,e2]at h4;have hsum:(ofN (val a*10^(s.drop k).length+rd (s.drop k))).length<=10000:=by
   have e3:=zcl (x:=((val a*10^(s.drop k).length:Nat):Int)) (y:=((rd (s.drop k):Nat):Int)) (L:=1060) (by rw[Ydg];exact hm) (by rw[Ydg];omega);rw[<-Yen,Ydg]at e3;omega
  have h5:=zlu (T:=T) neg (ofN (val a*10^(s.drop k).length+rd (s.drop k))) (ofN (10^(s.drop k).length)) hsum (by omega);have hne:¬ 10^(s.drop k).length=0:=Nat.ne_of_gt (Yba (by decide));rw[zad,if_neg hne]at h5;unfold wv at h5;rw[zad]at h5;have hd:(s.drop k).length=s.length-k:=Yby;have w1:IntKind.wrap .i64 ((s.length:Int)-(k:Int))=(((s.drop k).length:Nat):Int):=by
   rw[hd];have:((s.length-k:Nat):Int)=(s.length:Int)-k:=by omega
   rw[this];exact zab _ (by omega)
  clear hl hl60 ht60 hm e1 e2 hsum hne h0 hd ht;generalize 10^(s.drop k).length=TN at *
  generalize (s.drop k).length=dl at *
  generalize fz (mkRat (sg neg (val a*TN+rd (s.drop k))) TN)=R at *
  generalize ofN (val a*TN+rd (s.drop k))=R1 at *
  generalize ofN (val a*TN)=R2 at *
  generalize ofN (rd (s.drop k))=R3 at *
  generalize ofN TN=R4 at *
  simp -implicitDefEqProofs[h1,h2,h3,h4,h5,w1]
def z0j(ht:∀n:Nat,n<=60->Zb T 252 [.i .i64 n]=some (.sl (Za (ofN (10^n))) .an))(s:List UInt8)(hs:s.length<=100000) :
  Zb T 256 [.s s]=some (.tup [efz (fz (Zbg s).1),flt (Zbg s).2.1 (Zbg s).2.2]):=by
 have hi:Zb T 344 [.s s,.s [47,46]]=some (.i .i64 (if Z4 s<s.length then (Z4 s:Int) else -1)):=by
  rw[p344,<-zrl];simp only[prim344];rw[if_pos (by omega)]
 have hr:=zux (T:=T) (s.take (Z4 s)) (by rw[Yas];omega);have hle:=zlt s;have c0:=zhl (T:=T);rw[zaa Zeg.h256 rfl,b256];by_cases hc:Z4 s<s.length
 ·rw[if_pos hc]at hi;have q1:(0:Int)<=(Z4 s:Int):=by omega
  have q2:(Z4 s:Int)<=s.length:=by omega
  have q3:¬ (Z4 s:Int)<0:=by omega
  by_cases h0:0<=Zbw (s.take (Z4 s))
  ·have eR:Zbg s=(0,1,Zbw (s.take (Z4 s))+Zc7 (s.take (Z4 s))):=by simp only[Zbg,if_pos h0]
   rw[eR];rw[if_pos h0]at hr;clear eR;simp only;generalize fz 0=Z at *
   generalize Zbw (s.take (Z4 s))+Zc7 (s.take (Z4 s))=W at *
   simp -implicitDefEqProofs[hi,hr,c0,q1,q2,q3,hle]
  ·rw[if_neg h0]at hr;have hrl:=zr5 h0;obtain⟨c,hg,hcc⟩:=zrm s hc;obtain⟨_,hgE⟩:=Ys.1 hg;have hd:s.getD (Z4 s) 0=c:=by rw[List.getD_eq_getElem?_getD,hg];rfl
   have eR:Zbg s=Zf2 (Za6 (s.take (Z4 s))) (decide (s.head? = some 45)) s c (Z4 s+1):=by simp only[Zbg,if_neg h0,if_pos hc,hd]
   rw[eR];have w1:IntKind.wrap .i64 ((Z4 s:Int)+1)=((Z4 s+1:Nat):Int):=zab _ (by omega);have q4:(Z4 s:Int)<s.length:=by omega
   have px:=ztc (T:=T) s;rcases hcc with rfl | rfl
   ·have ho:=z0i (T:=T) (decide (Za6 (s.take (Z4 s))<0)) (ofN (Za6 (s.take (Z4 s))).natAbs) s (Z4 s+1) (by omega) (by omega) (by omega);rw[zhc]at ho;have ho2:Zb T 254 [ez (Za6 (s.take (Z4 s))),.s s,.i .i64 ((Z4 s+1:Nat):Int)]=some (.tup [efz (fz (Zf2 (Za6 (s.take (Z4 s))) (decide (s.head? = some 45)) s 47 (Z4 s+1)).1),
      flt (Zf2 (Za6 (s.take (Z4 s))) (decide (s.head? = some 45)) s 47 (Z4 s+1)).2.1 (Zf2 (Za6 (s.take (Z4 s))) (decide (s.head? = some 45)) s 47 (Z4 s+1)).2.2]):=by
     rw[ho];simp only[Zf2,if_true];split
     ·rfl
     ·split<;>rfl
    clear ho eR hd;generalize Zf2 (Za6 (s.take (Z4 s))) (decide (s.head? = some 45)) s 47 (Z4 s+1)=R at *
    generalize fz R.1=Z at *
    have ec:((Z4 s+1:Nat):Int)=(Z4 s:Int)+1:=by omega
    rw[ec]at ho2 w1;clear hrl h0 c0 ht;generalize Za6 (s.take (Z4 s))=RZ at *
    simp -implicitDefEqProofs[hi,hr,q1,q2,q3,q4,hle,hc,hg,hgE,w1,ho2]
   ·have ho:=ztd (T:=T) ht (decide (Za6 (s.take (Z4 s))<0)) (decide (s.head? = some 45)) (ofN (Za6 (s.take (Z4 s))).natAbs) s (Z4 s+1) (by omega) (by omega) (by omega);rw[zad]at ho;have ho2:Zb T 255 [ez (Za6 (s.take (Z4 s))),.b (decide (s.head? = some 45)),.s s,.i .i64 ((Z4 s+1:Nat):Int)]=some (.tup [efz (fz (Zf2 (Za6 (s.take (Z4 s))) (decide (s.head? = some 45)) s 46 (Z4 s+1)).1),
      flt (Zf2 (Za6 (s.take (Z4 s))) (decide (s.head? = some 45)) s 46 (Z4 s+1)).2.1 (Zf2 (Za6 (s.take (Z4 s))) (decide (s.head? = some 45)) s 46 (Z4 s+1)).2.2]):=by
     rw[ho];simp only[Zf2,show ¬ ((46:UInt8)=47) by decide,if_false];split<;>rfl
    clear ho eR hd;generalize Zf2 (Za6 (s.take (Z4 s))) (decide (s.head? = some 45)) s 46 (Z4 s+1)=R at *
    generalize fz R.1=Z at *
    have ec:((Z4 s+1:Nat):Int)=(Z4 s:Int)+1:=by omega
    rw[ec]at ho2 w1;clear hrl h0 c0 ht;generalize Za6 (s.take (Z4 s))=RZ at *
    generalize decide (s.head? = some 45)=hd45 at *
    simp -implicitDefEqProofs[hi,hr,q1,q2,q3,q4,hle,hc,hg,hgE,w1,px,ho2]
 ·rw[if_neg hc]at hi;have hcl:Z4 s=s.length:=by omega
  have htk:s.take (Z4 s)=s:=by rw[hcl];exact Ya7
  rw[htk]at hr;by_cases h0:0<=Zbw s
  ·have eR:Zbg s=(0,1,Zbw s+Zc7 s):=by simp only[Zbg,htk,if_pos h0]
   rw[eR];rw[if_pos h0]at hr;clear eR;simp only;generalize fz 0=Z at *
   generalize Zbw s+Zc7 s=W at *
   simp -implicitDefEqProofs[hi,hr,c0]
  ·have eR:Zbg s=(mkRat (Za6 s) 1,0,0):=by simp only[Zbg,htk,if_neg h0,if_neg hc]
   rw[eR];rw[if_neg h0]at hr;have hrl:=zr5 h0;have h1:=zep (T:=T) 1 (by decide);have h2:=zlu (T:=T) (decide (Za6 s<0)) (ofN (Za6 s).natAbs) (ofN 1) (by omega) (by rw[zjn];decide);rw[zad,if_neg (by decide),zhc]at h2;clear hrl h0 c0 ht eR;simp only;generalize fz (mkRat (Za6 s) 1)=Z at *
   generalize Za6 s=RZ at *
   generalize ofN 1=O at *
   simp -implicitDefEqProofs[hi,hr,h1,h2]
end
def Zcg:List (List UInt8)->Nat->List Rat->List Rat×Int×Int
 | [],_,acc=>(acc,0,0)
 | w::ws,k,acc=>if (Zbg w).2.1=0 then Zcg ws (k+w.length+1) (acc++[(Zbg w).1]) else ([],(Zbg w).2.1,(Zbg w).2.2+k)
def Zj5(s:List UInt8):List Rat×Int×Int:=if s=[] then ([],0,0) else Zcg (Zv 44 s) 0 []
def zte(w:List UInt8):((Zbg w).2.1=0/\(Zbg w).2.2=0)\/(((Zbg w).2.1=1\/(Zbg w).2.1=2)/\0<=(Zbg w).2.2/\(Zbg w).2.2<=w.length+62):=by
 have hle:=zlt w;obtain⟨z1,z2,z3,z4⟩:=zxg (w.take (Z4 w));unfold Zbg;simp only;split
 ·next h=>refine .inr ⟨.inl rfl,?_,?_⟩<;>simp only<;>omega
 ·split
  ·next h h2=>
   unfold Zf2;simp only;split
   ·next h3=>
    have:Z3 (w.drop (Z4 w+1))<=60:=by
     unfold Z3;split
     ·omega
     ·exact zjh 0 _ (by decide)
    refine .inr ⟨.inl rfl,?_,?_⟩<;>simp only<;>omega
   ·split
    ·split
     ·refine .inr ⟨.inr rfl,?_,?_⟩<;>simp only<;>omega
     ·left;simp
    ·left;simp
  ·left;simp
section
variable{T:Tbl}[Zan T][Zr T][Zx T][Z2 T][Zt T][Zw T][Zp T][Zbb T][Zi T][Zo T][Z0 T][Zc1 T][Zdp T][Za1 T][Zcj T][Zeg T][Zba T][Zb8 T][Zfb T]
def z0k(n:Nat)(hn:n<=60):Zb T 252 [.i .i64 n]=some (.sl (Za (ofN (10^n))) .an):=by
 have c1:=zep (T:=T) 10 (by decide);have hb:Zai 10=4:=by decide +kernel
 have c2:=z1b (T:=T) (ofN 10) n (by
  have:=zal (n:=10) (k:=1) (by decide);omega) (by rw[zad,hb];decide) (by rw[zad,hb];omega)
 rw[zad]at c2;rw[zaa Zeg.h252 rfl,b252];generalize ofN (10^n)=R at *
 generalize ofN 10=N at *
 simp -implicitDefEqProofs[c1,c2]
def znz(s:List UInt8)(hs:s.length<=100000):Zb T 256 [.s s]=some (.tup [efz (fz (Zbg s).1),flt (Zbg s).2.1 (Zbg s).2.2]):=
 z0j (T:=T) z0k s hs
def Zj6(ws:List (List UInt8))(y:Nat×Nat×List Rat):St:=
 ⟨[(3,.ptr (.loc 3) 1 4 0 0),(4,.bs (.loc 4) 2 3 0 y.2.2.length),(5,.i .i64 y.2.1),(14,.sl (Zg ws) .an),(15,.i .i64 ws.length),(16,.i .i64 y.1)],
  [(.loc 3,⟨1,.str,4,[[.i .i64 0,.i .i64 0,.i .i64 0,.i .i64 0]]⟩),(.loc 4,⟨2,.own,3,Zc (fzs y.2.2)⟩)],4⟩
def Zis(r:List Rat×Int×Int):Option (Ex×St):=
 if r.2.1=0 then some (.n,⟨[(3,.ptr (.loc 3) 1 4 0 0),(4,.bs (.loc 4) 2 3 0 r.1.length)],[(.loc 3,⟨1,.str,4,[[.i .i64 0,.i .i64 0,.i .i64 0,.i .i64 0]]⟩),(.loc 4,⟨2,.own,3,Zc (fzs r.1)⟩)],4⟩)
 else some (.r,⟨[(2,.sl [] .an),(3,.ptr (.loc 3) 1 4 0 0)],[(.loc 3,⟨1,.str,4,[[.i .i64 r.2.1,.i .i64 0,.i .i64 0,.i .i64 r.2.2]]⟩)],3⟩)
def z4v(ws:List (List UInt8))(hl:ws.length<=1000000)(hw:∀w∈ws,w.length<=100000):∀y:Nat×Nat×List Rat,(y.1<=ws.length/\y.2.1<=y.1*100001/\y.2.2.length=y.1) ->
  Zl T 0 0 (.norm false [3,4]) l275_0 (Zj6 ws y)=Zis (Zcg (ws.drop y.1) y.2.1 y.2.2):=by
 refine zat (Zj6 ws) (fun y=>y.1<=ws.length/\y.2.1<=y.1*100001/\y.2.2.length=y.1) (fun y=>ws.length-y.1) (fun y=>Zis (Zcg (ws.drop y.1) y.2.1 y.2.2)) ?_
 rintro⟨i,k,acc⟩ ⟨hi,hk,ha⟩
 simp only at hi hk ha ⊢;by_cases h0:i<ws.length
 ·have hm:=Yx h0;have hwl:=hw _ hm;have hg:(Zg ws)[i]? = some [.s (ws[i]'h0)]:=by simp[Zg,h0]
  have hil:i<(Zg ws).length:=by simpa using h0
  have hil':(i:Int)<ws.length:=by omega
  obtain⟨_,hgE⟩:=Ys.1 hg;have hwR:=zbz ws;have c:=znz (T:=T) (ws[i]'h0) hwl;have hf:=zte (ws[i]'h0);have hdr:ws.drop i=ws[i]'h0::ws.drop (i+1):=Yi h0;have hws:=zbo h0 (by omega);generalize ws[i]'h0=w at *
  have hml:(fzs acc).length=i:=by rw[zgx,ha]
  have hb4:i<=4294967295:=by omega
  rcases hf with ⟨f1,f2⟩ | ⟨f1,f2,f3⟩
  ·left;have hp:=zbg hml (fz (Zbg w).1);have ef:fzs (acc++[(Zbg w).1])=fzs acc++[fz (Zbg w).1]:=by simp[fzs]
   have w1:IntKind.wrap .i64 ((w.length:Int)+1)=(w.length:Int)+1:=zab _ (by omega);have w2:IntKind.wrap .i64 ((k:Int)+((w.length:Int)+1))=((k+w.length+1:Nat):Int):=by
    have:((k+w.length+1:Nat):Int)=(k:Int)+((w.length:Int)+1):=by omega
    rw[this];exact zab _ (by omega)
   refine⟨(i+1,k+w.length+1,acc++[(Zbg w).1]),⟨by omega,by simp only;omega,by simp[ha]⟩,by simp only;omega,?_,?_⟩
   ·unfold Zj6;simp only[Yo,Ye,Yaa,ha];rw[ef];rw[f1,f2]at c;clear hdr ef hw f1 f2;generalize fz (Zbg w).1=X at *
    generalize fzs acc=M at *
    generalize Zg ws=R at *
    simp -implicitDefEqProofs[l275_0,h0,hil,hil',hg,hgE,c,hws,w1,w2,hml,hb4,hp,hwR]
   ·simp only;rw[hdr,Zcg,if_pos f1]
  ·right;have hne:¬ (Zbg w).2.1=0:=by omega
   have er:Zcg (ws.drop i) k acc=([],(Zbg w).2.1,(Zbg w).2.2+k):=by rw[hdr,Zcg,if_neg hne]
   rw[er];unfold Zis Zj6;simp only[ha];rw[if_neg hne];have w1:IntKind.wrap .i64 ((Zbg w).2.2+(k:Int))=(Zbg w).2.2+(k:Int):=zab _ (by omega);clear hdr er hw;generalize fz (Zbg w).1=X at *
   generalize (Zbg w).2.1=K at *
   generalize (Zbg w).2.2=A at *
   generalize fzs acc=M at *
   generalize Zg ws=R at *
   rcases f1 with rfl | rfl<;>(constructor<;>simp -implicitDefEqProofs[l275_0,h0,hil,hil',hg,hgE,c,w1])
 ·right;have hi2:i=ws.length:=by omega
  subst hi2;rw[Y8,Zcg];unfold Zis Zj6;simp only[if_true,ha];have hn:¬ ws.length<(Zg ws).length:=by simp
  generalize fzs acc=M at *
  generalize Zg ws=R at *
  generalize ws.length=n at *
  constructor<;>simp -implicitDefEqProofs[l275_0]
theorem zn0:∀(ws:List (List UInt8)) (k:Nat) (acc:List Rat),(Zcg ws k acc).2.1≠0->(Zcg ws k acc).1=[]
 | [],_,_,h=>by simp[Zcg]at h
 | w::ws,k,acc,h=>by
  unfold Zcg at h ⊢;split at h
  ·next h1=>rw[if_pos h1];exact zn0 ws _ _ h
  ·next h1=>rw[if_neg h1]
theorem zrn:∀(ws:List (List UInt8)) (k:Nat) (acc:List Rat),(Zcg ws k acc).2.1=0->(Zcg ws k acc).2.2=0
 | [],_,_,h=>rfl
 | w::ws,k,acc,h=>by
  unfold Zcg at h ⊢;split at h
  ·next h1=>rw[if_pos h1];exact zrn ws _ _ h
  ·next h1=>exact absurd h h1
def z0l(s:List UInt8)(hs:s.length<=100000) :
  Zb T 275 [.s s]=some (.tup [.sl (Zc (fzs (Zj5 s).1)) .an,flt (Zj5 s).2.1 (Zj5 s).2.2]):=by
 rw[zaa Zfb.h275 rfl,b275];unfold Zj5;by_cases h0:s=[]
 ·subst h0;have e0:fzs []=[]:=rfl;simp only[if_true,e0,zcd];simp -implicitDefEqProofs
 ·rw[if_neg h0];have hpl:∀(l:List UInt8) (w:List UInt8),w∈Zv 44 l->w.length<=l.length:=by
   intro l
   induction l with
   | nil=>intro w hw;simp[Zv]at hw;simp[hw]
   | cons b l ih=>
    intro w hw;unfold Zv at hw;split at hw
    ·rcases Yr.1 hw with rfl | hw
     ·simp
     ·have:=ih w hw;simp;omega
    ·cases hsp:Zv 44 l with
     | nil=>rw[hsp]at hw;simp at hw;simp[hw]
     | cons p r=>
      rw[hsp]at hw ih;rcases Yr.1 hw with rfl | hw
      ·have:=ih p Yl;simp;omega
      ·have:=ih w (Yj _ hw);simp;omega
  have hcl:(Zv 44 s).length<=s.length+1:=by
   rw[zbv];have:s.count 44<=s.length:=Ydt;omega
  have c:=zok (T:=T) s 44 (by omega);have h:=z4v (T:=T) (Zv 44 s) (by omega) (fun w hw=>by have:=hpl s w hw;omega) (0,0,[]) ⟨Yu _,Yu _,rfl⟩;have hnil:=zn0 (Zv 44 s) 0 [];have hat:=zrn (Zv 44 s) 0 [];simp only[Yaj]at h;unfold Zj6 at h;have e0:fzs []=[]:=rfl;simp only[e0,zcd,Yt,Yaa]at h;generalize Zcg (Zv 44 s) 0 []=r at *
  unfold Zis at h;have hsl:=za7 (Zv 44 s);have hwR:=zbz (Zv 44 s);generalize Zg (Zv 44 s)=R at *
  generalize (Zv 44 s).length=n at *
  by_cases hr:r.2.1=0
  ·rw[if_pos hr]at h;have ha:=hat hr;rw[hr,ha];have hml:(fzs r.1).length=r.1.length:=zgx r.1;generalize fzs r.1=M at *
   generalize r.1.length=m at *
   have ht:List.take m M=M:=Yb (by omega);simp -implicitDefEqProofs[h0,c,hsl,h,ht,hml,hwR]
  ·rw[if_neg hr]at h;rw[hnil hr];simp only[e0,zcd];simp -implicitDefEqProofs[h0,c,hsl,h,hwR]
end
end Go.Ab
section
namespace Go.Ab
end Go.Ab
end
namespace Go.Ab
def Zm7(t:Tp)(many words:Nat):Bool:=((t.code.take many).any fun i=>decide (words<fsz i.n)) || decide (many<t.code.length) || decide (many<t.outs.length)
def Zoz(x:PoF)(many words:Nat):Bool:=decide (words<fsz x.t) || Zbz x.y many words || Zbz x.p many words
section
variable{T:Tbl}[Z9 T][Zau T][Zaa T][Zao T][Z5 T][Zab T][Z8 T][Zas T][Zcr T][Zcd T][Zhh T]
def Zpr(t:Tp)(many words i:Nat):St:=⟨[(1,.i .i64 many),(2,.i .i64 words),(3,.ptr (.loc 3) 1 4 0 0),(7,.i .i64 i)],[(.loc 3,bxT t)],3⟩
def Zps(t:Tp)(many:Nat):Ex×St:=(.n,⟨[(1,.i .i64 many),(3,.ptr (.loc 3) 1 4 0 0)],[(.loc 3,bxT t)],3⟩)
@[simp] def zajg(l:List Int):Option.all (fun r=>decide (r.length=1)) (ints l).head? = true:=by cases l<;>rfl
def fC:BId:=.fld (.loc 3) 0
def Zpt(t:Tp)(i:Nat):St:=⟨[(1,.ptr (.loc 1) 1 4 0 0),(2,.ptr (.loc 2) 2 4 0 0),(3,.ptr (.loc 3) 3 4 0 0),(4,.i .i64 i)],
 [(.loc 1,bxT t),(.loc 2,⟨2,.str,4,[[.sl [] .an,.sl [] .an,.i .i64 0,.i .i64 0]]⟩),(.loc 3,⟨3,.str,4,[[.bs fC 4 6 0 i,.bs (.loc 13) 5 1 0 t.outs.length,.i .i64 t.dim,.i .i64 t.par]]⟩),(fC,⟨4,.own,6,Zji (t.code.take i)⟩),(.loc 13,⟨5,.own,1,ints t.outs⟩)],7⟩
end
def Zmo(s:Sm)(many words:Nat):Bool:=decide (50<s.nm.length) || decide (many<s.a.length) || Zbz s.b many words || Zbz s.c many words || Zbz s.e many words || s.a.any fun r=>Zbz r many words
def Zn4(p:Pb)(many stages words:Nat):Bool:=Zm7 p.t many words || Zmo p.s stages 4 || Zbz p.p 6 words
def Zf3(r:Trr)(words:Nat):Bool:=Zbz r.nums 4 words || Zbz r.y 8 words
def Zh3(h:Hs)(many words:Nat):Bool:=decide (many<h.l.length) || decide (words<fsz h.t) || Zbz h.y 8 words || h.l.any fun r=>Zf3 r words
def zi6{h:Hs}{many words:Nat}(e:Zh3 h many words=false)(hm:many<=1000):HsS h words/\h.l.length<=many/\h.y.length<=8/\∀r∈h.l,r.y.length<=8:=by
 unfold Zh3 Zf3 at e;simp only[Bool.or_eq_false_iff,decide_eq_false_iff_not,List.any_eq_false]at e;obtain⟨⟨⟨h1,h2⟩,h3⟩,h4⟩:=e;obtain⟨y1,y2⟩:=zdk h3;have hr:∀r∈h.l,(Zbz r.nums 4 words=false)/\Zbz r.y 8 words=false:=fun r hr=>by
  grind
 exact⟨⟨by omega,by omega,y2,by omega,fun r hx=>(zdk (hr r hx).1).2,fun r hx=>(zdk (hr r hx).2).2,fun r hx=>Yc (zdk (hr r hx).2).1 (by decide)⟩,by omega,y1,fun r hx=>(zdk (hr r hx).2).1⟩
section
variable{T:Tbl}[Zan T][Zr T][Zx T][Z2 T][Zt T][Zw T][Zi T][Zo T][Z0 T][Zbf T][Zb3 T][Zcj T][Zcv T][Zcc T][Zdi T][Zf0 T][Zfy T][Zp T][Zbb T][Zba T][Zb8 T]
variable[Z9 T][Zau T][Zaa T][Zao T][Z5 T][Zab T][Z8 T][Zas T][Zge T][Zcr T][Zcd T][Zfh T][Zhg T][Zhh T][Zb4 T][Zh1 T]
def zga(r:Trr):Zb T 516 [.agg (Zd9 r)]=some (.sl (Zc r.nums) .an):=by
 have e:Zc r.nums=[Zam r.t,Zam r.w,Zam r.h,Zam r.e]:=rfl;rw[zaa Zb4.h516 rfl,b516,e];simp -implicitDefEqProofs[]
def Zn5(s:Sm):Box:=⟨1,.str,5,[[.s s.nm,.sl (Zc s.c) .an,.sl (Zz s.a) .an,.sl (Zc s.b) .an,.sl (Zc s.e) .an]]⟩
def Zo3(s:Sm)(many words i:Nat):St:=⟨[(1,.i .i64 many),(2,.i .i64 words),(3,.ptr (.loc 3) 1 5 0 0),(7,.i .i64 i)],[(.loc 3,Zn5 s)],3⟩
def Zj8(h:Hs):Box:=⟨1,.str,5,[[.sl (Zs h.l) .an,.b h.t.1,.sl (Za h.t.2.1) .an,.sl (Za h.t.2.2) .an,.sl (Zc h.y) .an]]⟩
def Zhl(h:Hs)(words i:Nat):St:=⟨[(2,.i .i64 words),(3,.ptr (.loc 3) 1 5 0 0),(7,.i .i64 i)],[(.loc 3,Zj8 h)],3⟩
def zkp(h:Hs)(many words:Nat)(hm:many<=1000):Zb T 497 [ehs h,.i .i64 many,.i .i64 words]=some (.b (Zh3 h many words)):=by
 have c1:=zgw (T:=T) h.t words;have c2:=zfn (T:=T) h.y 8 words (by decide);replace c2:Zb T 286 [.sl (Zc h.y) .an,.i .i64 8,.i .i64 words]=_:=c2;have hlp:h.l.length<=many->Zl T 0 0 (.norm false []) l497_0 (Zhl h words 0)=if (h.l.drop 0).any (fun r=>Zf3 r words)=true then some (.r,⟨[(6,.b true)],[],2⟩) else some (.n,⟨[],[],2⟩):=by
  intro hl;refine zay (Zhl h words) h.l.length (fun i=>if (h.l.drop i).any (fun r=>Zf3 r words)=true then some (.r,⟨[(6,.b true)],[],2⟩) else some (.n,⟨[],[],2⟩)) (fun i hi=>?_) ?_
  ·have hi':(i:Int)<h.l.length:=by omega
   have hws:=zbo hi (by omega);have d1:=zga (T:=T) (h.l[i]'hi);have d2:=zfn (T:=T) (h.l[i]'hi).nums 4 words (by decide);have d3:=zfn (T:=T) (h.l[i]'hi).y 8 words (by decide);replace d2:Zb T 286 [.sl (Zc (h.l[i]'hi).nums) .an,.i .i64 4,.i .i64 words]=_:=d2;replace d3:Zb T 286 [.sl (Zc (h.l[i]'hi).y) .an,.i .i64 8,.i .i64 words]=_:=d3;have key:(h.l.drop i).any (fun r=>Zf3 r words)=(Zf3 (h.l[i]'hi) words || (h.l.drop (i+1)).any fun r=>Zf3 r words):=by rw[Yi hi,List.any_cons]
   generalize hq:h.l[i]'hi=q at *
   have hR:Zf3 q words=(Zbz q.nums 4 words || Zbz q.y 8 words):=rfl;generalize Zbz q.nums 4 words=A at *
   generalize Zbz q.y 8 words=B at *
   have hnn:wkL (Zc q.nums)=Zc q.nums:=zcu _;obtain⟨q1,q2,q3,q4,q5,q6⟩:=q;cases A with
   | true=>
    right;rw[if_pos (by grind)];unfold Zhl Zj8;constructor<;>simp -implicitDefEqProofs[l497_0,hi,hi',hq,d1,d2,hnn]
   | false=>
   cases B with
   | true=>
    right;rw[if_pos (by grind)];unfold Zhl Zj8;constructor<;>simp -implicitDefEqProofs[l497_0,hi,hi',hq,d1,d2,d3,hnn]
   | false=>
    left;refine⟨?_,by grind⟩;unfold Zhl Zj8;simp -implicitDefEqProofs[l497_0,hi,hi',hq,hws,d1,d2,d3,hnn]
  ·simp only[Y8,List.any_nil,Yac,if_false];unfold Zhl Zj8;constructor<;>simp -implicitDefEqProofs[l497_0]
 rw[Yaj]at hlp;unfold Zhl Zj8 at hlp;unfold Zh3;rw[zaa Zb4.h497 rfl,b497];generalize Zbz h.y 8 words=B2 at *
 generalize (h.l.any fun r=>Zf3 r words)=B4 at *
 generalize hft:fsz h.t=ft at *
 obtain⟨L,t,y⟩:=h;dsimp only at *
 by_cases h1:many<L.length
 ·have h1':(many:Int)<L.length:=by omega
  simp -implicitDefEqProofs[h1,h1']
 have h1':¬ (many:Int)<L.length:=by omega
 have hl:=hlp (by omega);by_cases h2:words<ft
 ·simp -implicitDefEqProofs[h1,h1',c1,h2]
 cases B2 with
 | true=>simp -implicitDefEqProofs[h1,h1',c1,h2,c2]
 | false=>
  cases B4<;>simp at hl<;>simp -implicitDefEqProofs[h1,h1',c1,h2,c2,hl]
def Zja(h:Hs)(i:Nat):St:=⟨[(1,.ptr (.loc 1) 1 5 0 0),(2,.ptr (.loc 2) 2 5 0 0),(3,.ptr (.loc 3) 3 5 0 0),(4,.i .i64 i)],
 [(.loc 1,bxH h),(.loc 2,⟨2,.str,5,[[.sl [] .an,.b false,.sl [] .an,.sl [] .an,.sl [] .an]]⟩),(.loc 3,⟨3,.str,5,[[.bs fC 4 14 0 i,.b h.t.1,.sl (Za h.t.2.1) .an,.sl (Za h.t.2.2) .an,.sl (Zc h.y) .an]]⟩),(fC,⟨4,.own,14,Zs (h.l.take i)⟩)],6⟩
def ztu(h:Hs)(i:Nat)(hi:i<h.l.length)(hl:h.l.length<=1000)(hy:∀r∈h.l,r.y.length<=1000):evX (orc T) T 0 l500_0 (Zja h i)=some (.n,Zja h (i+1)):=by
 have hws:=zbo hi (by omega);have hb:i<=4294967295:=by omega
 have c1:=ze4 (T:=T) (h.l[i]'hi).t;have c2:=ze4 (T:=T) (h.l[i]'hi).w;have c3:=ze4 (T:=T) (h.l[i]'hi).h;have c4:=ze4 (T:=T) (h.l[i]'hi).e;have c5:=zro (T:=T) (h.l[i]'hi).y (by grind);have hi':(i:Int)<h.l.length:=by omega
 have hml:(h.l.take i).length=i:=by grind
 have ht:List.take i (h.l.take i)=h.l.take i:=Yb (by omega);have e:=zf8 h.l hi;have hp:=zd1 hml (h.l[i]'hi);rw[ht]at hp;unfold Zja bxH fC;rw[e];generalize hq:h.l[i]'hi=q at *
 obtain⟨L,t,y⟩:=h;simp -implicitDefEqProofs[l500_0,hi,hi',hws,hb,hq,c1,c2,c3,c4,c5,hml,ht,hp]
def zru(h:Hs)(hl:h.l.length<=1000)(hy:∀r∈h.l,r.y.length<=1000)(hyl:h.y.length<=1000):Zb T 500 [ehs h]=some (ehs h):=by
 have hlp:Zl T 0 0 (.norm false [2,3]) l500_0 (Zja h 0)=some (.n,⟨[(2,.ptr (.loc 2) 1 5 0 0),(3,.ptr (.loc 3) 2 5 0 0)],[(.loc 2,⟨1,.str,5,[[.sl [] .an,.b false,.sl [] .an,.sl [] .an,.sl [] .an]]⟩),(.loc 3,⟨2,.str,5,[[.bs fC 3 14 0 h.l.length,.b h.t.1,.sl (Za h.t.2.1) .an,.sl (Za h.t.2.2) .an,.sl (Zc h.y) .an]]⟩),(fC,⟨3,.own,14,Zs h.l⟩)],5⟩):=by
  refine zas (Zja h) h.l.length _ (fun i hi=>ztu h i hi hl hy) ?_;unfold Zja bxH fC;constructor<;>simp -implicitDefEqProofs[l500_0]
 have ht:List.take h.l.length h.l=h.l:=Yb (by omega);have c1:=ze4 (T:=T) h.t;have c2:=zro (T:=T) h.y (by omega);unfold Zja bxH fC at hlp;simp only[Yt,Yb7,zet]at hlp;rw[zaa Zh1.h500 rfl,b500];obtain⟨L,t,y⟩:=h;simp -implicitDefEqProofs[ht,c1,c2,hlp]
end
theorem zul(l:List Fz):decide (nrm l=l)=Zm l:=by
 unfold Zm nrm
 induction l with
 | nil=>rfl
 | cons x l ih=>
  rw[Ybv,<-ih];unfold Zb9
  grind[List.cons.injEq]
def z5o{l:List Fz}{B:Nat}(h:∀x∈l,fsz x<=B)(hB:1<=B):∀x∈nrm l,fsz x<=B:=by
 grind[nrm,zr6,zhe]
def Zk6(h:Hs):List Fz:=(h.l.filter (·.ok)).map (·.t)++[h.t]
def Zk7(h:Hs):List (List Fz):=(h.l.filter (·.ok)).map (·.y)++[h.y]
section
variable{T:Tbl}[Z9 T][Zau T][Zaa T][Zao T][Z5 T][Zab T][Z8 T][Zas T][Zfz T][Zb4 T][Zc2 T]
def zgf(l:List Fz)(hl:l.length<=1000)(hw:∀x∈l,fsz x<=1000):Zb T 578 [.sl (Zc l) .an]=some (.b (!Zm l)):=by
 have c1:=zed (T:=T) l hl hw;have c2:=zc5 (T:=T) (nrm l) l (by unfold nrm;grind) (fun x hx=>Yc (z5o hw (by decide) x hx) (by decide));rw[zul]at c2;rw[zaa Zc2.h578 rfl,b578]
 simp_all
def Zix(h:Hs)(i:Nat)(M:List Fz)(N:List (List Fz)):St:=⟨[(1,.ptr (.loc 1) 1 5 0 0),(4,.bs (.loc 4) 2 3 0 M.length),(5,.bs (.loc 5) 3 1 0 N.length),(6,.i .i64 i)],
 [(.loc 1,bxH h),(.loc 4,⟨2,.own,3,Zc M⟩),(.loc 5,⟨3,.own,1,Zz N⟩)],5⟩
def z1l(h:Hs)(hl:h.l.length<=1000):Zl T 0 0 (.norm false [1,4,5]) l522_0 (Zix h 0 [] []) =
  some (.n,⟨[(1,.ptr (.loc 1) 1 5 0 0),(4,.bs (.loc 4) 2 3 0 ((h.l.filter (·.ok)).map (·.t)).length),(5,.bs (.loc 5) 3 1 0 ((h.l.filter (·.ok)).map (·.y)).length)],[(.loc 1,bxH h),(.loc 4,⟨2,.own,3,Zc ((h.l.filter (·.ok)).map (·.t))⟩),(.loc 5,⟨3,.own,1,Zz ((h.l.filter (·.ok)).map (·.y))⟩)],5⟩):=by
 have key:=zas (T:=T) (k:=0) (id:=0) (g2:=.norm false [1,4,5]) (c:=l522_0) (fun i=>Zix h i (((h.l.take i).filter (·.ok)).map (·.t)) (((h.l.take i).filter (·.ok)).map (·.y))) h.l.length
  (some (.n,⟨[(1,.ptr (.loc 1) 1 5 0 0),(4,.bs (.loc 4) 2 3 0 ((h.l.filter (·.ok)).map (·.t)).length),(5,.bs (.loc 5) 3 1 0 ((h.l.filter (·.ok)).map (·.y)).length)],[(.loc 1,bxH h),(.loc 4,⟨2,.own,3,Zc ((h.l.filter (·.ok)).map (·.t))⟩),(.loc 5,⟨3,.own,1,Zz ((h.l.filter (·.ok)).map (·.y))⟩)],5⟩)) (fun i hi=>?_) ?_
 ·grind
 ·have hi':(i:Int)<h.l.length:=by omega
  have hws:=zbo hi (by omega);have key:(h.l.take (i+1)).filter (·.ok)=if (h.l[i]'hi).ok then (h.l.take i).filter (·.ok)++[h.l[i]'hi] else (h.l.take i).filter (·.ok):=by
   grind[List.take_succ_eq_append_getElem]
  have hAl:((h.l.take i).filter (·.ok)).length<=1000:=Yc (Ybe ..) (by grind);rw[key];generalize (h.l.take i).filter (·.ok)=A at *
  generalize hq:h.l[i]'hi=q at *
  have hml:(A.map (·.t)).length=A.length:=by simp
  have hml2:(A.map (·.y)).length=A.length:=by simp
  have hi4:A.length+1<=4294967296:=by omega
  have hpush:=zbg hml q.t;have hpush2:=zf7 hml2 q.y;have e1:(A++[q]).map (·.t)=A.map (·.t)++[q.t]:=by simp
  have e2:(A++[q]).map (·.y)=A.map (·.y)++[q.y]:=by simp
  have t1:List.take A.length (A.map (·.t))=A.map (·.t):=Yb (by omega);have t2:List.take A.length (A.map (·.y))=A.map (·.y):=Yb (by omega);rw[t1]at hpush;rw[t2]at hpush2;unfold Zix bxH;cases hok:q.ok with
  | true=>
   simp only[if_true,e1,e2,Yo,Ye,Yaa,hml,hml2];obtain⟨q1,q2,q3,q4,q5,q6⟩:=q;subst hok;simp -implicitDefEqProofs[l522_0,hi,hi',hq,hws,hml,hml2,hi4,hpush,hpush2,t1,t2]
  | false=>
   simp only[Yac,if_false,hml,hml2];generalize A.map (·.t)=M at *
   generalize A.map (·.y)=N at *
   obtain⟨q1,q2,q3,q4,q5,q6⟩:=q;dsimp only at *
   subst hok;simp -implicitDefEqProofs[l522_0,hi,hi',hq,hws]
 ·rw[Yb (Yd _)];generalize (h.l.filter (·.ok)).map (·.t)=M at *
  generalize (h.l.filter (·.ok)).map (·.y)=N at *
  unfold Zix bxH;constructor<;>simp -implicitDefEqProofs[l522_0]
def zqc(h:Hs)(hl:h.l.length<=1000):Zb T 522 [ehs h]=some (.tup [.sl (Zc (Zk6 h)) .an,.sl (Zz (Zk7 h)) .an]):=by
 have hlp:=z1l (T:=T) h hl;have hAl:(h.l.filter (·.ok)).length<=1000:=Yc (Ybe ..) hl;unfold Zk6 Zk7;generalize h.l.filter (·.ok)=A at *
 unfold Zix bxH at hlp;simp only[Yt,Yaa,zcd,zr8]at hlp;have hml:(A.map (·.t)).length=A.length:=by simp
 have hml2:(A.map (·.y)).length=A.length:=by simp
 have hi4:A.length+1<=4294967296:=by omega
 rw[zaa Zc2.h522 rfl,b522];generalize A.map (·.t)=M at *
 generalize A.map (·.y)=N at *
 generalize hn:A.length=n at *
 have hpush:=zbg hml h.t;have hpush2:=zf7 hml2 h.y;have ht1:List.take (n+1) (M++[h.t])=M++[h.t]:=Yb (by grind);have ht2:List.take (n+1) (N++[h.y])=N++[h.y]:=Yb (by grind);obtain⟨L,⟨t1,t2,t3⟩,y⟩:=h;simp -implicitDefEqProofs[hlp,hml,hml2,hi4,hpush,hpush2,ht1,ht2,z4g]
end
def Zaw(h:Hs):Hs:=⟨h.l.map Zac,fz (fv h.t),nrm h.y⟩
def zfa(h:Hs):(Zaw h).l.filter (·.ok)=Zav h.l:=by
 unfold Zaw Zav;dsimp only;rw[List.filter_map]
 rfl
def z2t(h:Hs):Zk6 (Zaw h)=Zdt h:=by
 unfold Zk6 Zdt;rw[zfa]
 rfl
def z2u(h:Hs):Zk7 (Zaw h)=Zdu h:=by
 unfold Zk7 Zdu;rw[zfa]
 rfl
abbrev Znb(h:Hs):List AV:=[.sl (Zs h.l) .an,.b h.t.1,.sl (Za h.t.2.1) .an,.sl (Za h.t.2.2) .an,.sl (Zc h.y) .an]
def Zfj(h:Hs)(i:Nat):St:=⟨[(1,.ptr (.loc 1) 1 5 0 0),(2,.ptr (.loc 2) 2 5 0 0),(3,.ptr (.loc 3) 3 5 0 0),(4,.i .i64 i)],
 [(.loc 1,⟨1,.str,5,[Znb h]⟩),(.loc 2,⟨2,.str,5,[[.sl [] .an,.b false,.sl [] .an,.sl [] .an,.sl [] .an]]⟩),(.loc 3,⟨3,.str,5,[[.bs fC 4 14 0 i,.b (fz (fv h.t)).1,.sl (Za (fz (fv h.t)).2.1) .an,.sl (Za (fz (fv h.t)).2.2) .an,.sl (Zc (nrm h.y)) .an]]⟩),(fC,⟨4,.own,14,Zs ((h.l.map Zac).take i)⟩)],6⟩
def Zho(h:Hs)(M:List Fz)(i:Nat):St:=⟨[(1,.ptr (.loc 1) 1 5 0 0),(3,.bs (.loc 3) 2 3 0 M.length),(4,.i .i64 i)],[(.loc 1,⟨1,.str,5,[Znb h]⟩),(.loc 3,⟨2,.own,3,Zc M⟩)],4⟩
section
variable{T:Tbl}[Zan T][Zr T][Zx T][Z2 T][Zt T][Zw T][Zi T][Zo T][Z0 T][Zbf T][Zb3 T][Zcj T][Zcv T][Zcc T][Zdi T][Zf0 T][Zfy T][Zp T][Zbb T][Zba T][Zb8 T][Zge T][Zcr T][Zcd T][Zfh T][Zhg T][Zhh T][Zh1 T][Z9 T][Zau T][Zaa T][Zao T][Z5 T][Zab T][Z8 T][Zas T][Zfz T][Zb4 T][Zc2 T][Zeh T]
def zuo(h:Hs)(i:Nat)(hi:i<h.l.length)(hl:h.l.length<=1000)(c1:Zb T 278 [.sl (Zc (h.l[i]'hi).nums) .an]=some (.sl (Zc (nrm (h.l[i]'hi).nums)) .an))(c2:Zb T 278 [.sl (Zc (h.l[i]'hi).y) .an]=some (.sl (Zc (nrm (h.l[i]'hi).y)) .an)) :
  evX (orc T) T 0 l502_0 (Zfj h i)=some (.n,Zfj h (i+1)):=by
 have hws:=zbo hi (by omega);have hi':(i:Int)<h.l.length:=by omega
 have hb:i<=4294967295:=by omega
 have c0:=zga (T:=T) (h.l[i]'hi);have hml:((h.l.map Zac).take i).length=i:=by rw[Yas,Y1];omega
 have hnext:(h.l.map Zac).take (i+1)=(h.l.map Zac).take i++[Zac (h.l[i]'hi)]:=by
  rw[Y2 (by rw[Y1];exact hi),List.getElem_map]
 have hp:=zd1 hml (Zac (h.l[i]'hi));have ht:List.take i ((h.l.map Zac).take i)=(h.l.map Zac).take i:=Yb (by omega);rw[ht]at hp;have en:nrm (h.l[i]'hi).nums=[(Zac (h.l[i]'hi)).t,(Zac (h.l[i]'hi)).w,(Zac (h.l[i]'hi)).h,(Zac (h.l[i]'hi)).e]:=rfl;have ey:nrm (h.l[i]'hi).y=(Zac (h.l[i]'hi)).y:=rfl;have eo:(Zac (h.l[i]'hi)).ok=(h.l[i]'hi).ok:=rfl;rw[en]at c1;rw[ey]at c2;unfold Zfj fC;rw[hnext];generalize Zac (h.l[i]'hi)=r at *
 generalize (h.l.map Zac).take i=R at *
 generalize nrm h.y=NY at *
 generalize fz (fv h.t)=NT at *
 generalize hq:h.l[i]'hi=q at *
 obtain⟨L,t,y⟩:=h;obtain⟨q1,q2,q3,q4,q5,q6⟩:=q;obtain⟨r1,r2,r3,r4,r5,r6⟩:=r;dsimp only at *
 subst eo;simp only[show Zc [r1,r2,r3,r4]=[Zam r1,Zam r2,Zam r3,Zam r4] from rfl]at c1;simp -implicitDefEqProofs[l502_0,hi,hi',hws,hb,hq,c0,c1,c2,hml,ht,hp]
def zkx(h:Hs)(hs:HsS h 1000):Zb T 502 [ehs h]=some (ehs (Zaw h)):=by
 have hl:=hs.len;have hml:(h.l.map Zac).length=h.l.length:=Y1 ..;have hlp:Zl T 0 0 (.norm false [2,3]) l502_0 (Zfj h 0)=some (.n,⟨[(2,.ptr (.loc 2) 1 5 0 0),(3,.ptr (.loc 3) 2 5 0 0)],[(.loc 2,⟨1,.str,5,[[.sl [] .an,.b false,.sl [] .an,.sl [] .an,.sl [] .an]]⟩),
   (.loc 3,⟨2,.str,5,[[.bs fC 3 14 0 h.l.length,.b (fz (fv h.t)).1,.sl (Za (fz (fv h.t)).2.1) .an,.sl (Za (fz (fv h.t)).2.2) .an,.sl (Zc (nrm h.y)) .an]]⟩),(fC,⟨3,.own,14,Zs (h.l.map Zac)⟩)],5⟩):=by
  refine zas (Zfj h) h.l.length _ (fun i hi=>?_) ?_
  ·have hm:=Yx hi;exact zuo h i hi hl (zed (T:=T) _ (by simp[Trr.nums]) (fun x hx=>hs.rt _ hm x hx)) (zed (T:=T) _ (hs.rl _ hm) (fun x hx=>hs.ry _ hm x hx))
  ·have ht:(h.l.map Zac).take h.l.length=h.l.map Zac:=Yb (by omega);unfold Zfj fC;rw[ht];generalize h.l.map Zac=R at *
   generalize nrm h.y=NY at *
   generalize fz (fv h.t)=NT at *
   constructor<;>simp -implicitDefEqProofs[l502_0]
 have c1:=ze7 (T:=T) h.t (Yc hs.t (by decide));have c2:=zed (T:=T) h.y hs.yl hs.y;have ht:List.take h.l.length (h.l.map Zac)=h.l.map Zac:=Yb (by omega);unfold Zfj fC at hlp;simp only[Yt,Yb7,zet]at hlp;unfold Zaw;generalize h.l.map Zac=R at *
 generalize nrm h.y=NY at *
 generalize fz (fv h.t)=NT at *
 rw[zaa Zeh.h502 rfl,b502];obtain⟨L,⟨t1,t2,t3⟩,y⟩:=h;obtain⟨n1,n2,n3⟩:=NT;dsimp only at *
 simp -implicitDefEqProofs[ht,c1,c2,hlp,hml]
def zqe(h:Hs)(hl:h.l.length<=1000):Zb T 521 [ehs h]=some (.sl (Zc ((h.l.filter (·.ok)).map (·.h))) .an):=by
 have hlp:Zl T 0 0 (.norm false [3]) l521_0 (Zho h [] 0)=some (.n,⟨[(3,.bs (.loc 3) 1 3 0 ((h.l.filter (·.ok)).map (·.h)).length)],[(.loc 3,⟨1,.own,3,Zc ((h.l.filter (·.ok)).map (·.h))⟩)],3⟩):=by
  have key:=zas (T:=T) (k:=0) (id:=0) (g2:=.norm false [3]) (c:=l521_0) (fun i=>Zho h (((h.l.take i).filter (·.ok)).map (·.h)) i) h.l.length
   (some (.n,⟨[(3,.bs (.loc 3) 1 3 0 ((h.l.filter (·.ok)).map (·.h)).length)],[(.loc 3,⟨1,.own,3,Zc ((h.l.filter (·.ok)).map (·.h))⟩)],3⟩)) (fun i hi=>?_) ?_
  ·exact key
  ·have hi':(i:Int)<h.l.length:=by omega
   have hws:=zbo hi (by omega);have key:(h.l.take (i+1)).filter (·.ok)=if (h.l[i]'hi).ok then (h.l.take i).filter (·.ok)++[h.l[i]'hi] else (h.l.take i).filter (·.ok):=by
    grind[List.take_succ_eq_append_getElem]
   have hAl:((h.l.take i).filter (·.ok)).length<=1000:=Yc (Ybe ..) (by rw[Yas];omega);rw[key];generalize (h.l.take i).filter (·.ok)=A at *
   generalize hq:h.l[i]'hi=q at *
   have hml:(A.map (·.h)).length=A.length:=by simp
   have hi4:A.length+1<=4294967296:=by omega
   have hpush:=zbg hml q.h;have e1:(A++[q]).map (·.h)=A.map (·.h)++[q.h]:=by simp
   have t1:List.take A.length (A.map (·.h))=A.map (·.h):=Yb (by omega);rw[t1]at hpush;unfold Zho;cases hok:q.ok with
   | true=>
    simp only[if_true,e1,Yo,Ye,Yaa,hml];obtain⟨q1,q2,q3,q4,q5,q6⟩:=q;subst hok;simp -implicitDefEqProofs[l521_0,hi,hi',hq,hws,hml,hi4,hpush,t1]
   | false=>
    simp only[Yac,if_false,hml];generalize A.map (·.h)=M at *
    obtain⟨q1,q2,q3,q4,q5,q6⟩:=q;dsimp only at *
    subst hok;simp -implicitDefEqProofs[l521_0,hi,hi',hq,hws]
  ·rw[Yb (Yd _)];generalize (h.l.filter (·.ok)).map (·.h)=M at *
   unfold Zho;constructor<;>simp -implicitDefEqProofs[l521_0]
 have ht:List.take ((h.l.filter (·.ok)).map (·.h)).length (Zc ((h.l.filter (·.ok)).map (·.h)))=Zc ((h.l.filter (·.ok)).map (·.h)):=Yb (by rw[zqk];omega);have ht2:List.take ((h.l.filter (·.ok)).map (·.h)).length ((h.l.filter (·.ok)).map (·.h))=((h.l.filter (·.ok)).map (·.h)):=Yb (by omega);generalize (h.l.filter (·.ok)).map (·.h)=M at *
 unfold Zho at hlp;simp only[Yt,Yaa,zcd]at hlp;rw[zaa Zeh.h521 rfl,b521];obtain⟨L,⟨t1,t2,t3⟩,y⟩:=h;dsimp only at *
 simp -implicitDefEqProofs[ht,ht2,hlp]
end
deriving instance DecidableEq for Trr
deriving instance DecidableEq for Hs
theorem zp5:∀a b:List Fz,nrm a=nrm b↔a.map fv=b.map fv
 | [],[]=>by simp[nrm]
 | [],_::_=>by simp[nrm]
 | _::_,[]=>by simp[nrm]
 | x::a,y::b=>by
  have:=zp5 a b;unfold nrm at this ⊢;simp only[Y3,List.cons.injEq,zza,this]
def z05(a b:Trr):decide (Zac a=Zac b)=(decide (a.ok=b.ok)&&(decide (a.nums.map fv=b.nums.map fv)&&decide (a.y.map fv=b.y.map fv))):=by
 rw[Ybo];simp only[Zac,Trr.nums,Trr.mk.injEq,zza,zp5,decide_eq_true_eq,Ym,Y3,Yb2,List.cons.injEq,and_true]
 grind
section
variable{T:Tbl}[Zan T][Zr T][Zx T][Z2 T][Zt T][Zw T][Zi T][Zo T][Z0 T][Zbf T][Zb3 T][Zcj T][Zcv T][Zcc T][Zdi T][Zf0 T][Zfy T][Zp T][Zbb T][Zba T][Zb8 T][Za3 T][Zfi T]
def zt3(a b:Trr)(ha:∀x∈a.nums,fsz x<=1000)(hb:∀x∈b.nums,fsz x<=1000)(hl:a.y.length<=1000)(hay:∀x∈a.y,fsz x<=1000)(hby:∀x∈b.y,fsz x<=1000) :
  Zb T 694 [.agg (Zd9 a),.agg (Zd9 b)]=some (.b (decide (Zac a=Zac b))):=by
 have c1:=zdp (T:=T) a;have c2:=zdp (T:=T) b;have c3:=zhm (T:=T) a.nums b.nums (by simp[Trr.nums]) ha hb;have c4:=zhm (T:=T) a.y b.y hl hay hby;rw[z05];generalize decide (a.nums.map fv=b.nums.map fv)=B at *
 generalize decide (a.y.map fv=b.y.map fv)=C at *
 have hna:wkL (Zc a.nums)=Zc a.nums:=zcu _;have hnb:wkL (Zc b.nums)=Zc b.nums:=zcu _;generalize Zc a.nums=ra at *
 generalize Zc b.nums=rb at *
 rw[zaa Zfi.h694 rfl,b694];obtain⟨a1,a2,a3,a4,a5,a6⟩:=a;obtain⟨b1,b2,b3,b4,b5,b6⟩:=b;dsimp only at *
 by_cases h:a6=b6
 ·subst h;cases B<;>cases C<;>simp -implicitDefEqProofs[c1,c2,c3,c4,hna,hnb]
 ·have h':(a6 == b6)=false:=by simpa using h
  simp -implicitDefEqProofs[h,h']
def Zgh(a b:Hs)(i:Nat):St:=⟨[(3,.ptr (.loc 3) 1 5 0 0),(31,.sl (Zs a.l) .an),(32,.i .i64 a.l.length),(33,.i .i64 i)],[(.loc 3,bxH b)],3⟩
def zx1(a b:Hs)(ha:HsS a 1000)(hb:HsS b 1000):Zb T 687 [ehs a,ehs b]=some (.b (decide (Zaw a=Zaw b))):=by
 have hal:=ha.len;have hlp:a.l.length=b.l.length->Zl T 0 0 (.norm false []) l687_0 (Zgh a b 0)=if (a.l.drop 0).map Zac=(b.l.drop 0).map Zac then some (.n,⟨[],[],2⟩) else some (.r,⟨[(4,.b false)],[],2⟩):=by
  intro hab;refine zay (Zgh a b) a.l.length (fun i=>if (a.l.drop i).map Zac=(b.l.drop i).map Zac then some (.n,⟨[],[],2⟩) else some (.r,⟨[(4,.b false)],[],2⟩)) (fun i hi=>?_) ?_
  ·have hws:=zbo hi (by omega);have hib:i<b.l.length:=by omega
   have hm:=Yx hi;have hmb:=Yx hib;have c1:=zt3 (T:=T) (a.l[i]'hi) (b.l[i]'hib) (ha.rt _ hm) (hb.rt _ hmb) (ha.rl _ hm) (ha.ry _ hm) (hb.ry _ hmb);have hga:b.l[i]? = some (b.l[i]'hib):=Ya hib;have key:((a.l.drop i).map Zac=(b.l.drop i).map Zac)↔(Zac (a.l[i]'hi)=Zac (b.l[i]'hib)/\(a.l.drop (i+1)).map Zac=(b.l.drop (i+1)).map Zac):=by
    rw[Yi hi,Yi hib,Y3,Y3,List.cons.injEq]
   have hib':(i:Int)<b.l.length:=by omega
   generalize hq:a.l[i]'hi=q at *
   generalize hr:b.l[i]'hib=r at *
   obtain⟨L,t,y⟩:=b;dsimp only at *
   by_cases h1:Zac q=Zac r
   ·left;refine⟨?_,by simp only[key,h1,true_and]⟩;rw[decide_eq_true h1]at c1;obtain⟨q1,q2,q3,q4,q5,q6⟩:=q;obtain⟨r1,r2,r3,r4,r5,r6⟩:=r;unfold Zgh bxH;simp -implicitDefEqProofs[l687_0,hi,hq,hws,hib,hib',hr,c1]
   ·right;rw[if_neg (by rw[key];exact fun h=>h1 h.1)];rw[decide_eq_false h1]at c1;obtain⟨q1,q2,q3,q4,q5,q6⟩:=q;obtain⟨r1,r2,r3,r4,r5,r6⟩:=r;unfold Zgh bxH;constructor<;>simp -implicitDefEqProofs[l687_0,hi,hq,hib,hib',hr,c1]
  ·have e:b.l.drop a.l.length=[]:=Ybz (by omega);simp only[Y8,e,if_true,Yb2];unfold Zgh bxH;constructor<;>simp -implicitDefEqProofs[l687_0]
 have c2:=zf5 (T:=T) a.t b.t ha.t hb.t;have c3:=zhm (T:=T) a.y b.y ha.yl ha.y hb.y;have key:decide (Zaw a=Zaw b)=(decide (a.l.map Zac=b.l.map Zac)&&(decide (fv a.t=fv b.t)&&decide (a.y.map fv=b.y.map fv))):=by
  rw[Ybo];simp only[Zaw,Hs.mk.injEq,zza,zp5,decide_eq_true_eq,Ym]
 rw[key];rw[zaa Zfi.h687 rfl,b687];unfold Zgh bxH at hlp;simp only[Yaj,Yt]at hlp;have hne:¬ a.l.length=b.l.length->decide (a.l.map Zac=b.l.map Zac)=false:=fun h=>decide_eq_false fun e=>h (by simpa using congrArg List.length e);have hM:(if a.l.map Zac=b.l.map Zac then some (Ex.n,(⟨[],[],2⟩:St)) else some (.r,⟨[(4,.b false)],[],2⟩))=if decide (a.l.map Zac=b.l.map Zac)=true then some (Ex.n,(⟨[],[],2⟩:St)) else some (.r,⟨[(4,.b false)],[],2⟩):=by simp
 rw[hM]at hlp;generalize decide (fv a.t=fv b.t)=B at *
 generalize decide (a.y.map fv=b.y.map fv)=C at *
 generalize decide (a.l.map Zac=b.l.map Zac)=D at *
 clear hM key;obtain⟨L,⟨t1,t2,t3⟩,y⟩:=a;obtain⟨L',⟨u1,u2,u3⟩,z⟩:=b;dsimp only at *
 by_cases hL:L.length=L'.length
 ·have hL':(L.length:Int)=L'.length:=by omega
  have h:=hlp hL;cases B
  ·simp -implicitDefEqProofs[hL,hL',c2]
  ·cases C
   ·simp -implicitDefEqProofs[hL,hL',c2,c3]
   ·cases D<;>simp at h<;>rw[hL]at h<;>simp -implicitDefEqProofs[hL,hL',c2,c3,h]
 ·have hL':¬ (L.length:Int)=L'.length:=by omega
  rw[hne hL];simp -implicitDefEqProofs[hL,hL']
end
section
def b259:AX:=QY [] [(AV.s [47])] "4ruvKoVS60n0i59XgKQphVwRfxLTodEJIT8Lwnc8koa46Eac_hxxqa2GK4YVRJoJW"
abbrev row259:AFx:=⟨1,18,[.t 2],b259,none,false⟩
class Zgd (T:Tbl):Prop where
 h259:Tr T 259=some row259
attribute [simp] Zgd.h259
end
end Go.Ab
section
namespace Go.Ab
end Go.Ab
end
namespace Go.Ab
class Zgz (T:Tbl):Prop where
class Zlv (T:Tbl):Prop where
def Dig(l:List UInt8):Prop:=∀c∈l,48<=c.toNat/\c.toNat<=57
def zho{n:Nat}(h:n<10):(UInt8.ofNat (48+n)).toNat=48+n:=by
 rw[UInt8.toNat_ofNat'];omega
def zce(n:Nat):Dig (Zu n):=by
 induction n using Nat.strongRecOn with
 | _ n ih=>
  by_cases h:n<10
  ·rw[zb4 h];intro c hc;rw[Yaf]at hc;rw[hc,zho h];omega
  ·rw[zd0 h];intro c hc;rcases Yao.1 hc with hc | hc
   ·exact ih (n/10) (by omega) c hc
   ·rw[Yaf]at hc;rw[hc,zho (by omega)];omega
def zhp(n:Nat):Zu n≠[]:=by
 by_cases h:n<10
 ·rw[zb4 h];simp
 ·rw[zd0 h];simp
def zmh(n:Nat):rd (Zu n)=n:=by
 induction n using Nat.strongRecOn with
 | _ n ih=>
  by_cases h:n<10
  ·rw[zb4 h];show 0*10+((UInt8.ofNat (48+n)).toNat-48)=n;rw[zho h];omega
  ·rw[zd0 h,zy7,ih (n/10) (by omega),zho (by omega)];omega
theorem zse:∀(l:List UInt8) (k:Nat),Dig l->k+l.length<=60->Zcw k l=-1
 | [],_,_,_=>rfl
 | c::r,k,h,hk=>by
  have hc:=h c Yl;simp only[Ye]at hk;rw[Zcw,if_neg (by omega)];exact zse r (k+1) (fun d hd=>h d (Yj _ hd)) (by omega)
def zg2{l:List UInt8}(h:Dig l)(h0:l≠[])(hl:l.length<=60):Z3 l=-1:=by
 unfold Z3;rw[if_neg h0];exact zse l 0 h (by omega)
def z11{l:List UInt8}(h:Dig l):¬ l.head? = some 45:=by
 cases l with
 | nil=>simp
 | cons c r=>
  intro e;simp only[List.head?_cons,Option.some.injEq]at e;have:=h c Yl;rw[e]at this;have e2:(45:UInt8).toNat=45:=rfl;omega
def zlb(z:Int):((Z6 z).head? = some 45)↔z<0:=by
 unfold Z6;split
 ·next h=>simp[h]
 ·next h=>exact⟨fun e=>absurd e (z11 (zce _)),fun e=>absurd e h⟩
def zu6{z:Int}(hl:(Zu z.natAbs).length<=60):Zbw (Z6 z)=-1/\Za6 (Z6 z)=z:=by
 unfold Zbw Za6;by_cases hz:z<0
 ·have h1:=(zlb z).2 hz;have h2:(Z6 z).tail=Zu z.natAbs:=by unfold Z6;rw[if_pos hz];rfl
  simp only[h1,if_true,h2,zmh,decide_true];refine⟨zg2 (zce _) (zhp _) hl,?_⟩;simp[sg];omega
 ·have h1:¬ (Z6 z).head? = some 45:=fun e=>hz ((zlb z).1 e);have h2:Z6 z=Zu z.natAbs:=by unfold Z6;rw[if_neg hz]
  simp only[h1,if_false,decide_false];rw[h2,zmh];refine⟨zg2 (zce _) (zhp _) hl,?_⟩;simp[sg];omega
def Zjz(l:List UInt8):Prop:=∀c∈l,Zf1 c=false
def zoy{l:List UInt8}(h:Dig l):Zjz l:=by
 intro c hc;have:=h c hc;have e1:¬ c=47:=fun e=>by rw[e]at this;have e2:(47:UInt8).toNat=47:=rfl;omega
 have e2:¬ c=46:=fun e=>by rw[e]at this;have e2:(46:UInt8).toNat=46:=rfl;omega
 simp[Zf1,e1,e2]
def zjq(z:Int):Zjz (Z6 z):=by
 unfold Z6;split
 ·intro c hc;rcases Yr.1 hc with rfl | hc
  ·rfl
  ·exact zoy (zce _) c hc
 ·exact zoy (zce _)
theorem zoz:∀{l:List UInt8},Zjz l->Z4 l=l.length
 | [],_=>rfl
 | c::r,h=>by
  have h1:=h c Yl;have h2:=zoz (l:=r) fun d hd=>h d (Yj _ hd);simp[Z4,h1,h2]
theorem zzl:∀{l:List UInt8} (c:UInt8) (r:List UInt8),Zjz l->Zf1 c=true->Z4 (l++c::r)=l.length
 | [],c,r,_,hc=>by simp[Z4,hc]
 | d::l,c,r,h,hc=>by
  have h1:=h d Yl;have h2:=zzl (l:=l) c r (fun d hd=>h d (Yj _ hd)) hc;simp[Z4,h1,h2]
def zo0{q:Rat}(h1:(Zu q.num.natAbs).length<=60)(h2:(Zu q.den).length<=60):Zbg (Zd q)=(q,0,0):=by
 obtain⟨w1,w2⟩:=zu6 h1;unfold Zd;split
 ·next hd=>
  have hc:=zoz (zjq q.num);have ht:(Z6 q.num).take (Z4 (Z6 q.num))=Z6 q.num:=by rw[hc];exact Ya7
  unfold Zbg;simp only[hc,Ya7,w1,w2,Ybj,if_false,show ¬ ((0:Int)<=-1) by decide];have e:mkRat q.num 1=q:=by
   have:=Yeu q
   rwa [hd]at this
  rw[e]
 ·next hd=>
  have hc:=zzl (l:=Z6 q.num) 47 (Zu q.den) (zjq q.num) rfl;have ht:(Z6 q.num++47::Zu q.den).take (Z4 (Z6 q.num++47::Zu q.den))=Z6 q.num:=by rw[hc];exact List.take_left
  have hlt:Z4 (Z6 q.num++47::Zu q.den)<(Z6 q.num++47::Zu q.den).length:=by rw[hc];simp
  have hg:(Z6 q.num++47::Zu q.den).getD (Z4 (Z6 q.num++47::Zu q.den)) 0=47:=by rw[hc];simp
  have hdr:(Z6 q.num++47::Zu q.den).drop (Z4 (Z6 q.num++47::Zu q.den)+1)=Zu q.den:=by
   rw[hc,Ydr];simp
  unfold Zbg;simp only[ht,w1,w2,hg,if_pos hlt,show ¬ ((0:Int)<=-1) by decide,if_false];unfold Zf2;simp only[hdr,zg2 (zce q.den) (zhp _) h2,show ¬ ((0:Int)<=-1) by decide,if_false,if_true,zmh];rw[if_neg q.den_nz,Yeu]
def zqm(q:Rat):∀c∈Zd q,c≠44:=by
 have hz:∀z:Int,∀c∈Z6 z,c≠44:=by
  intro z;unfold Z6;have hd:∀n,∀c∈Zu n,c≠44:=fun n c hc e=>by
   have:=zce n c hc;rw[e]at this;have e2:(44:UInt8).toNat=44:=rfl;omega
  split
  ·intro c hc;rcases Yr.1 hc with rfl | hc
   ·decide
   ·exact hd _ c hc
  ·exact hd _
 unfold Zd;split
 ·exact hz _
 ·intro c hc;rcases Yao.1 hc with hc | hc
  ·exact hz _ c hc
  ·rcases Yr.1 hc with rfl | hc
   ·decide
   ·intro e;have:=zce _ c hc;rw[e]at this;have e2:(44:UInt8).toNat=44:=rfl;omega
theorem zev{c:UInt8}:∀{l:List UInt8},(∀b∈l,b≠c)->Zv c l=[l]
 | [],_=>rfl
 | b::l,h=>by
  have h1:=h b Yl;have h2:=zev (l:=l) fun d hd=>h d (Yj _ hd);simp[Zv,h1,h2]
theorem zb8{c:UInt8}:∀{l:List UInt8} (r:List UInt8),(∀b∈l,b≠c)->Zv c (l++c::r)=l::Zv c r
 | [],r,_=>by simp[Zv]
 | b::l,r,h=>by
  have h1:=h b Yl;have h2:=zb8 (l:=l) r fun d hd=>h d (Yj _ hd);simp[Zv,h1,h2]
theorem zha{c:UInt8}:∀(t:List UInt8) (ts:List (List UInt8)),(∀t'∈t::ts,∀b∈t',b≠c)->Zv c (List.intercalate [c] (t::ts))=t::ts
 | t,[],h=>by
  have e:List.intercalate [c] [t]=t:=by simp[List.intercalate]
  rw[e,zev (h t Yl)]
 | t,t2::ts,h=>by
  have e:List.intercalate [c] (t::t2::ts)=t++c::List.intercalate [c] (t2::ts):=by simp[List.intercalate]
  rw[e,zb8 _ (h t Yl),zha t2 ts fun t' ht=>h t' (Yj _ ht)]
theorem zjr:∀(l:List Rat) (k:Nat) (acc:List Rat),(∀q∈l,(Zu q.num.natAbs).length<=60/\(Zu q.den).length<=60)->Zcg (l.map Zd) k acc=(acc++l,0,0)
 | [],k,acc,_=>by simp[Zcg]
 | q::l,k,acc,h=>by
  obtain⟨h1,h2⟩:=h q Yl;rw[Y3,Zcg,zo0 h1 h2,if_pos rfl];have:=zjr l (k+(Zd q).length+1) (acc++[q]) fun p hp=>h p (Yj _ hp);rw[this];simp
def z12(q:Rat):Zd q≠[]:=by
 unfold Zd;have hz:Z6 q.num≠[]:=by
  unfold Z6;split
  ·simp
  ·exact zhp _
 split
 ·exact hz
 ·simp
def zu7(l:List Rat)(h:∀q∈l,(Zu q.num.natAbs).length<=60/\(Zu q.den).length<=60):Zj5 (List.intercalate [44] (l.map Zd))=(l,0,0):=by
 cases l with
 | nil=>rfl
 | cons q l=>
  have hne:List.intercalate [44] ((q::l).map Zd)≠[]:=by
   have:=z12 q;cases l with
   | nil=>simpa[List.intercalate]using this
   | cons p l=>simp[List.intercalate]
  unfold Zj5;rw[if_neg hne,Y3,zha _ _ (fun t ht=>by
   rw[<-Y3]at ht;obtain⟨p,_,rfl⟩:=Yv.1 ht;exact zqm p),<-Y3,zjr _ _ _ h]
  simp
def zef{n k d:Nat}(h:(ofN n).length<=k)(hk:4294967296^k<10^(d+1)):(Zu n).length<=d+1:=by
 refine zjl ?_;have h1:=zau (ofN n);rw[zad]at h1;have h2:4294967296^(ofN n).length<=4294967296^k:=Yp (by decide) h;omega
theorem zi2{K:Nat}:∀(ts:List (List UInt8)),(∀t∈ts,t.length<=K)->(List.intercalate [44] ts).length<=ts.length*(K+1)
 | [],_=>by simp[List.intercalate]
 | [t],h=>by
  have:=h t Yl;simp[List.intercalate];omega
 | t::t2::ts,h=>by
  have h1:=h t Yl;have h2:=zi2 (t2::ts) fun t ht=>h t (Yj _ ht);have e:List.intercalate [44] (t::t2::ts)=t++44::List.intercalate [44] (t2::ts):=by simp[List.intercalate]
  rw[e,Yo,Ye];simp only[Ye]at h2 ⊢;rw[Nat.succ_mul];omega
section
variable{T:Tbl}[Zan T][Zr T][Zx T][Z2 T][Zt T][Zw T][Zp T][Zbb T][Zi T][Zo T][Z0 T][Zc1 T][Zb3 T][Zdp T][Za1 T][Zcj T][Zeg T][Zba T][Zb8 T][Zfb T][Zmb T][Z9 T][Zau T][Zaa T][Zao T][Z5 T][Zab T][Z8 T][Zas T][Zfz T][Zcr T][Zcd T][Zlu T][Zlv T]
def Zoy(l:List Fz)(i:Nat):St:=⟨[(0,.sl (Zc l) .an),(3,.i .i64 (Znc (l.take i))),(4,.i .i64 i)],[],2⟩
end
theorem zkv(c:List UInt8):∀(ts:List (List UInt8)) (t:List UInt8),ts≠[]->List.intercalate c (ts++[t])=List.intercalate c ts++(c++t)
 | [],_,h=>absurd rfl h
 | [a],t,_=>by simp[List.intercalate,List.intersperse]
 | a::b::r,t,_=>by
  have ih:=zkv c (b::r) t (by simp);simp only[List.intercalate,Ycd,List.intersperse,Yco]at ih ⊢;rw[ih];simp only[Yay]
def ze9{q:Rat}(h:sz q<=20):(Zu q.num.natAbs).length<=193/\(Zu q.den).length<=193/\(Z6 q.num).length<=194/\(Zd q).length<=400:=by
 have h1:=zef (n:=q.num.natAbs) (k:=20) (d:=192) (Yc (zg9 q) h) (by decide +kernel);have h2:=zef (n:=q.den) (k:=20) (d:=192) (Yc (zgi q) h) (by decide +kernel);have h3:(Z6 q.num).length<=194:=by
  unfold Z6;split
  ·simp;omega
  ·omega
 refine⟨h1,h2,h3,?_⟩;unfold Zd;split
 ·omega
 ·simp;omega
section
variable{T:Tbl}[Z9 T][Zau T][Zaa T][Zao T][Z5 T][Zab T][Z8 T][Zgd T][Zas T][Zgz T]
def z1k(n:Bool)(a d:List UInt32):Zb T 234 [efz (n,a,d)]=some (wh n a):=by
 rw[zaa Z8.h234 rfl,b234];simp -implicitDefEqProofs
def zkw(q:Rat)(hq:sz q<=20):Zb T 259 [efz (fz q)]=some (.s (Zd q)):=by
 obtain⟨t1,t2,t3,t4⟩:=ze9 hq;have l1:=zg9 q;have l2:=zgi q;have h1:=z1k (T:=T) (decide (q.num<0)) (ofN q.num.natAbs) (ofN q.den);have h2:=zue (T:=T) (decide (q.num<0)) (ofN q.num.natAbs) (by omega);rw[zhc]at h2;have h3:=zje (T:=T) (ofN q.den);rw[zad]at h3;have h4:=zks (T:=T) (ofN q.den) (by omega);rw[zad]at h4;have e':fz q=(decide (q.num<0),ofN q.num.natAbs,ofN q.den):=rfl;rw[e',zaa Zgd.h259 rfl,b259];unfold Zd;have c1:1+(Zu q.den).length<=9223372036854775807:=by omega
 have c2:(Z6 q.num).length+((Zu q.den).length+1)<=9223372036854775807:=by omega
 clear e' l1 l2 t4;generalize ofN q.den=D at *
 generalize ofN q.num.natAbs=A at *
 by_cases hd:q.den=1
 ·rw[decide_eq_true hd]at h3;simp -implicitDefEqProofs[h1,h2,h3,h4,hd]
 ·rw[decide_eq_false hd]at h3;generalize Zu q.den=TD at *
  generalize Z6 q.num=TZ at *
  generalize decide (q.num<0)=B at *
  simp -implicitDefEqProofs[h1,h2,h3,h4,hd,c1,c2]
def zuk(p:List Rat)(hl:p.length<=1000)(hp:∀q∈p,sz q<=20):Zb T 284 [.sl (Zc (fzs p)) .an]=some (.s (List.intercalate [44] (p.map Zd))):=by
 have hloop:∀i:Nat,i<=p.length->Zl T 0 0 (.norm false [3]) l284_0 ⟨[(0,.sl (Zc (fzs p)) .an),(3,.s (List.intercalate [44] ((p.take i).map Zd))),(4,.i .i64 i)],[],2⟩=some (.n,⟨[(3,.s (List.intercalate [44] (p.map Zd)))],[],2⟩):=by
  refine zat (fun i:Nat=>⟨[(0,.sl (Zc (fzs p)) .an),(3,.s (List.intercalate [44] ((p.take i).map Zd))),(4,.i .i64 i)],[],2⟩) _ (fun i=>p.length-i) _ ?_;intro i hi;by_cases h0:i<p.length
  ·left;have hws:=zbo h0 (by omega);have hg:(fzs p)[i]? = some (fz (p[i]'h0)):=z5u (Ya h0);obtain⟨hil,hgE⟩:=Ys.1 hg;have hil':(i:Int)<(fzs p).length:=by omega
   have cm:=zkw (T:=T) (p[i]'h0) (hp _ (Yx h0));have hd:(p.take (i+1)).map Zd=(p.take i).map Zd++[Zd (p[i]'h0)]:=zc0 p Zd h0;have hb:=zi2 (K:=400) ((p.take i).map Zd) (fun t ht=>by
    obtain⟨q,hq,rfl⟩:=Yv.1 ht;exact(ze9 (hp q (Yax hq))).2.2.2)
   have hlen:((p.take i).map Zd).length=i:=by rw[Y1,Yas];omega
   rw[hlen]at hb;have hb2:i*(400+1)<=1000*401:=Ydl (by omega) (Yd _);have ht4:=(ze9 (hp _ (Yx h0))).2.2.2;have c1:(List.intercalate [44] ((p.take i).map Zd)).length+1<=9223372036854775807:=by omega
   have c2:(List.intercalate [44] ((p.take i).map Zd)).length+((Zd (p[i]'h0)).length+1)<=9223372036854775807:=by omega
   have c3:(List.intercalate [44] ((p.take i).map Zd)).length+1+(Zd (p[i]'h0)).length<=9223372036854775807:=by omega
   have c4:(Zd (p[i]'h0)).length<=9223372036854775807:=by omega
   refine⟨i+1,h0,by show p.length-(i+1)<p.length-i;omega,?_,rfl⟩;by_cases hi0:i=0
   ·subst hi0;have e1:List.intercalate [44] ((p.take 1).map Zd)=Zd (p[0]'h0):=by
     rw[show (1:Nat)=0+1 from rfl,hd];simp[List.intercalate]
    rw[show (0+1:Nat)=1 from rfl,e1];have e2:List.intercalate [44] ((p.take 0).map Zd)=([]:List UInt8):=by simp[List.intercalate]
    rw[e2];clear hd hb hb2 hlen c1 c2 c3 hp e1 e2;generalize Zd (p[0]'h0)=TX at *
    generalize fz (p[0]'h0)=X at *
    generalize fzs p=PP at *
    simp -implicitDefEqProofs[l284_0,hil,hil',hg,hgE,hws,cm,c4]
   ·have hne:(p.take i).map Zd≠[]:=by
     intro h;rw[h]at hlen;exact hi0 (by simpa using hlen.symm)
    have e1:=zkv [44] ((p.take i).map Zd) (Zd (p[i]'h0)) hne;rw[hd,e1];have hip:(0:Int)<i:=by omega
    have hip':0<i:=by omega
    clear hd hb hb2 hlen hp e1 hne;generalize List.intercalate [44] ((p.take i).map Zd)=S at *
    generalize Zd (p[i]'h0)=TX at *
    generalize fz (p[i]'h0)=X at *
    generalize fzs p=PP at *
    simp -implicitDefEqProofs[l284_0,hil,hil',hg,hgE,hws,cm,hip,hip',c1,c2,c3]
  ·right;have:i=p.length:=by omega
   subst this;rw[Ya7];have hlp:(p.length:Int)=(fzs p).length:=by rw[zgx]
   clear hp;rw[hlp];generalize fzs p=PP at *
   generalize List.intercalate [44] (p.map Zd)=S at *
   constructor<;>simp -implicitDefEqProofs[l284_0]
 have h:=hloop 0 (Yu _);have e2:List.intercalate [44] ((p.take 0).map Zd)=([]:List UInt8):=by simp[List.intercalate]
 rw[e2]at h;simp only[Yt]at h;rw[zaa Zas.h284 rfl,b284];clear hp hloop;generalize fzs p=PP at *
 generalize List.intercalate [44] (p.map Zd)=S at *
 simp -implicitDefEqProofs[h]
def Zo5(s:List UInt8)(y:Nat×Nat×List Rat):St:=
 ⟨[(0,.s s),(5,.bs (.loc 5) 1 3 0 y.2.2.length),(6,.i .i64 y.2.1),(7,.i .i64 y.1)],[(.loc 5,⟨1,.own,3,Zc (fzs y.2.2)⟩)],3⟩
def Zn7(r:List Rat×Int×Int):Option (Ex×St):=
 if r.2.1=0 then some (.n,⟨[(5,.bs (.loc 5) 1 3 0 r.1.length)],[(.loc 5,⟨1,.own,3,Zc (fzs r.1)⟩)],3⟩)
 else some (.r,⟨[(2,.sl [] .an),(3,.i .i64 r.2.1),(4,.i .i64 r.2.2)],[],2⟩)
def Znu(s:List UInt8)(y:Nat×Nat×List Rat):List Rat×Int×Int:=
 if y.1<=s.length then Zcg (Zv 44 (s.drop y.2.1)) y.2.1 y.2.2 else (y.2.2,0,0)
def piece(s:List UInt8)(i from_:Nat):List UInt8:=(s.drop from_).take (i-from_)
end
end Go.Ab