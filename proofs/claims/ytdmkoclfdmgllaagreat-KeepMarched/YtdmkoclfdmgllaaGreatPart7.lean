/-
  A calculus of values, boxes and code, and what functions of the program compute, proved in it.
  Conditions: none beyond those that the theorems state. (Part 7.)
-/
import Derived.Test.YtdmkoclfdmgllaaGreatPart6
import Derived.Lib.IndexAny
import Derived.Lib.Bytealg
import Derived.Test.YtdmkoclfdmgllaaGreatRows

set_option linter.unusedSectionVars false
set_option linter.unusedVariables false
set_option linter.unusedSimpArgs false
set_option linter.unnecessarySimpa false

namespace Go.Ab
def fitT(t:Tp)(y p:Nat):Bool:=okT t&&decide ((y:Int)=t.dim)&&decide ((p:Int)=t.par)
def tapeR(lim:Nat)(t:Tp)(P:Po):List Rat×Nat×Nat:=if fitT t P.y.length P.p.length=true then runR lim P t.code [] else ([],2,0)
def outsR(t:Tp)(D:List Rat):List Rat:=t.outs.map (gI D)
def fieldR(lim:Nat)(t:Tp)(P:Po):List Rat×Nat×Nat:=if (tapeR lim t P).2.1=0 then (outsR t (tapeR lim t P).1,0,0) else ([],(tapeR lim t P).2)
structure TpS (t:Tp):Prop where
 small:Small t
 ns:∀i∈t.code,fsz i.n≤1000
abbrev fltA(k s g a:Int):AV:=.agg [.i .i64 k,.i .i64 s,.i .i64 g,.i .i64 a]
theorem zio{t:Tp}{y p:Nat}(h:fitT t y p=true):OkTp t∧(y:Int)=t.dim∧(p:Int)=t.par:=by
 grind[fitT,zcr]
section
variable{T:Tbl}[CLimb T][CNat T][CProd T][CTwos T][CQuot T][CQuotD T][CWhole T][CCommon T][CFrac T][CFrac3 T][CFrac5 T][CPow T][CTape T][CGauge T][CEval T][CRun T][CIfc T]
theorem z30(t:Tp)(Q:PoF)(hs:TpS t)(s p L:Int)(h:fitT t Q.y.length Q.p.length=false) :
  callH T 407 [.agg [.ptr (.bor 0) 0 3 0 0],etp t,ept Q] [(.bor 0,bxG 0 s p L)]=some (.tup [.sl [] .an,fltA 2 0 0 0],[(.bor 0,bxG 0 s p L)]):=by
 have hr:=zdm (T:=T) t hs.small
 unfold fitT at h
 rw[f407 _ _ rfl,b407]
 obtain⟨⟨q0,q1,q2⟩,qy,qp⟩:=Q
 cases hok:okT t with
 | false=>
  rw[hok]at hr
  simp -implicitDefEqProofs[hr]
 | true=>
  rw[hok]at hr h
  obtain⟨code,outs,dim,par⟩:=t
  by_cases h1:(qy.length:Int)=dim
  ·by_cases h2:(qp.length:Int)=par
   ·grind
   ·simp -implicitDefEqProofs[hr,h1,h2]
  ·simp -implicitDefEqProofs[hr,h1]
theorem zwa(t:Tp)(P:Po)(hs:TpS t)(lim:Nat)(hlim:lim≤4096)(s p:Int)(hP:PvS P 1000)(h:fitT t P.y.length P.p.length=true)(hk:(runR lim P t.code []).2.1=0) :
  ∃(s' p':Int) (kd:Kind),(kd=.own∨kd=.sh)∧callH T 407 [.agg [.ptr (.bor 0) 0 3 0 0],etp t,ept P.f] [(.bor 0,bxG 0 s p lim)] =
   some (.tup [.bs (.loc 8) 3 3 0 t.code.length,fltA 0 0 0 0],[(.bor 0,bxG 0 s' p' lim),(.loc 8,⟨3,kd,3,rowF (fzs (runR lim P t.code []).1)⟩)]):=by
 obtain⟨hok,h1,h2⟩:=zio h
 have hr:=zdm (T:=T) t hs.small
 have hl:=zp5 (T:=T) P lim hlim t hok hs.ns h1 h2 hP s p
 rw[(zcr t).2 hok]at hr
 unfold endRun at hl
 rw[if_pos hk]at hl
 unfold stRun endN at hl
 simp only[Int.natCast_zero,zd4]at hl
 have hkd:∃kd:Kind,kdE .own t.code=kd∧(kd=.own∨kd=.sh):=by
  grind[kdE]
 obtain⟨kd,hkd1,hkd2⟩:=hkd
 rw[hkd1]at hl
 have hy:(fzs P.y).length=P.y.length:=zaj _
 have hp':(fzs P.p).length=P.p.length:=zaj _
 unfold Po.f at *
 generalize (runG lim P t.code [] s p).1=s' at *
 generalize (runG lim P t.code [] s p).2=p' at *
 obtain⟨code,outs,dim,par⟩:=t
 rw[f407 _ _ rfl,b407]
 rcases hkd2 with rfl | rfl
 ·simp -implicitDefEqProofs[hr,h1,h2,hy,hp',hl]
 ·simp -implicitDefEqProofs[hr,h1,h2,hy,hp',hl]
theorem zwb(t:Tp)(P:Po)(hs:TpS t)(lim:Nat)(hlim:lim≤4096)(s p:Int)(hP:PvS P 1000)(h:fitT t P.y.length P.p.length=true)(hk:¬ (runR lim P t.code []).2.1=0) :
  ∃(s' p':Int),callH T 407 [.agg [.ptr (.bor 0) 0 3 0 0],etp t,ept P.f] [(.bor 0,bxG 0 s p lim)] =
   some (.tup [.sl [] .an,fltA (runR lim P t.code []).2.1 0 0 (runR lim P t.code []).2.2],[(.bor 0,bxG 0 s' p' lim)]):=by
 obtain⟨hok,h1,h2⟩:=zio h
 have hr:=zdm (T:=T) t hs.small
 have hl:=zp5 (T:=T) P lim hlim t hok hs.ns h1 h2 hP s p
 rw[(zcr t).2 hok]at hr
 unfold endRun at hl
 rw[if_neg hk]at hl
 unfold stRun endR at hl
 simp only[Int.natCast_zero,zd4]at hl
 have hy:(fzs P.y).length=P.y.length:=zaj _
 have hp':(fzs P.p).length=P.p.length:=zaj _
 unfold Po.f at *
 generalize (runG lim P t.code [] s p).1=s' at *
 generalize (runG lim P t.code [] s p).2=p' at *
 obtain⟨code,outs,dim,par⟩:=t
 rw[f407 _ _ rfl,b407]
 simp -implicitDefEqProofs[hr,h1,h2,hy,hp',hl]
theorem zaic{x:PoF}(h:PoS x 1000):PvS x.v 1000:=by
 refine⟨zba h.t (by decide),fun q hq=>?_,fun q hq=>?_⟩
 ·obtain⟨u,hu,rfl⟩:=List.mem_map.1 hq
  exact zba (h.y u hu) (by decide)
 ·obtain⟨u,hu,rfl⟩:=List.mem_map.1 hq
  exact zba (h.p u hu) (by decide)
def limN(n:Int):Nat:=(limI n).toNat
theorem ziq(n:Int):limI n=(limN n:Int)∧limN n≤4096:=by
 grind[limN,limI]
theorem zzo(t:Tp)(x:PoF)(bits:Int)(hs:TpS t)(hx:PoS x 1000) :
  callF T 384 [etp t,ept x,.i .i64 bits]=some (.tup [.sl (rowF (fzs (tapeR (limN bits) t x.v).1)) .an,fltA (tapeR (limN bits) t x.v).2.1 0 0 (tapeR (limN bits) t x.v).2.2]):=by
 have hn:=zuv (T:=T) x hx
 have hg:=zmu (T:=T) bits
 obtain⟨hl1,hl2⟩:=ziq bits
 rw[hl1]at hg
 have hP:=zaic hx
 have hlen:x.v.f.y.length=x.v.y.length∧x.v.f.p.length=x.v.p.length:=⟨zaj _,zaj _⟩
 unfold tapeR
 cases hf:fitT t x.v.y.length x.v.p.length with
 | false=>
  have hm:=z30 (T:=T) t x.v.f hs 0 0 (limN bits) (by grind)
  simp only[Bool.false_eq_true,if_false]
  have e0:fzs []=[]:=rfl
  rw[e0,f384 _ rfl,b384]
  generalize x.v.f=Q at *
  obtain⟨⟨q0,q1,q2⟩,qy,qp⟩:=Q
  simp -implicitDefEqProofs[hn,hg,hm]
 | true=>
  simp only[if_true]
  by_cases hk:(runR (limN bits) x.v t.code []).2.1=0
  ·obtain⟨s',p',kd,hkd,hm⟩:=zwa (T:=T) t x.v hs (limN bits) hl2 0 0 hP hf hk
   have e2:=(zi2 _ _ _ _ hk).1
   have el:(runR (limN bits) x.v t.code []).1.length=t.code.length:=by
    grind[zi2]
   rw[hk,e2]
   have hfl:(fzs (runR (limN bits) x.v t.code []).1).length=t.code.length:=by simp_all
   generalize fzs (runR (limN bits) x.v t.code []).1=D at *
   have ht:List.take t.code.length D=D:=List.take_of_length_le (by omega)
   rw[f384 _ rfl,b384]
   generalize x.v.f=Q at *
   obtain⟨⟨q0,q1,q2⟩,qy,qp⟩:=Q
   rcases hkd with rfl | rfl
   ·simp -implicitDefEqProofs[hn,hg,hm,hfl,ht]
   ·simp -implicitDefEqProofs[hn,hg,hm,hfl,ht]
  ·obtain⟨s',p',hm⟩:=zwb (T:=T) t x.v hs (limN bits) hl2 0 0 hP hf hk
   have e1:=(zw6 _ _ _ _ hk).1
   have e0:fzs []=[]:=rfl
   rw[e1,e0]
   rw[f384 _ rfl,b384]
   generalize x.v.f=Q at *
   obtain⟨⟨q0,q1,q2⟩,qy,qp⟩:=Q
   simp -implicitDefEqProofs[hn,hg,hm]
def stOu(D:List Fz)(outs:List Int)(E:List Fz)(i:Nat)(kd:Kind):St:=
 ⟨[(1,.sl (rowF D) .an),(5,.bs (.loc 5) 1 3 0 i),(20,.sl (ints outs) .an),(21,.i .i64 outs.length),(22,.i .i64 i)],[(.loc 5,⟨1,.own,3,rowF (E.take i)⟩)],3⟩
theorem zzp(t:Tp)(D:List Rat)(hs:TpS t)(hok:okT t=true)(hl:D.length=t.code.length)(hD:∀q∈D,sz q≤1000) :
  callF T 409 [etp t,.sl (rowF (fzs D)) .an]=some (.sl (rowF (fzs (outsR t D))) .an):=by
 have hr:=zdm (T:=T) t hs.small
 rw[hok]at hr
 have hO:=(zcr t).1 hok
 have hcl:=hO.cl
 have hol:t.outs.length≤6:=by have:=hO.ol;have:=hO.d2;omega
 have hel:(outsR t D).length=t.outs.length:=by simp[outsR]
 have hloop:loopN T 0 0 (.norm false [5]) l409_0 (stOu (fzs D) t.outs (fzs (outsR t D)) 0 .own)=some (.n,⟨[(5,.bs (.loc 5) 1 3 0 t.outs.length)],[(.loc 5,⟨1,.own,3,rowF (fzs (outsR t D))⟩)],3⟩):=by
  refine zak (fun i=>stOu (fzs D) t.outs (fzs (outsR t D)) i .own) t.outs.length _ (fun i hi=>?_) ?_
  ·have hg:t.outs[i]? = some (t.outs[i]'hi):=List.getElem?_eq_getElem hi
   have hge:=(List.getElem?_eq_some_iff.1 hg).2
   have hws:=za5 hi (by omega)
   have hmem:=List.getElem_mem hi
   obtain⟨o1,o2⟩:=hO.outs _ hmem
   obtain⟨k,hk1,hk2,hk3,hka⟩:=zv8 (D:=D) (a:=t.outs[i]'hi) ⟨o1,by omega⟩
   have hkae:=(List.getElem?_eq_some_iff.1 hka).2
   have sa:fsz (fz (gI D (t.outs[i]'hi)))≤1000:=znc (by decide) hD
   have cn:=za9 (T:=T) (fz (gI D (t.outs[i]'hi))) (by omega)
   rw[zbt]at cn
   have hx:(fzs (outsR t D))[i]? = some (fz (gI D (t.outs[i]'hi))):=zgg (by simp[outsR,hg])
   have e:(fzs (outsR t D)).take (i+1)=(fzs (outsR t D)).take i++[fz (gI D (t.outs[i]'hi))]:=by
    rw[List.take_add_one,hx]
    rfl
   have hml:((fzs (outsR t D)).take i).length=i:=by grind
   have hp:=zcc (m:=(fzs (outsR t D)).take i) hml (fz (gI D (t.outs[i]'hi)))
   have hfl:(fzs D).length=D.length:=zaj D
   have hi':(i:Int)<t.outs.length:=by omega
   have hb:i≤4294967295:=by omega
   unfold stOu
   rw[e]
   generalize t.outs[i]'hi=o at *
   subst hk1
   simp -implicitDefEqProofs[l409_0,hi,hi',hge,hws,hk2,hk3,hkae,hfl,cn,hp,hml,hb]
  ·have e:(fzs (outsR t D)).take t.outs.length=fzs (outsR t D):=List.take_of_length_le (by simp_all)
   unfold stOu
   rw[e]
   constructor<;>simp -implicitDefEqProofs[l409_0]
 unfold stOu at hloop
 simp only[Int.natCast_zero,List.take_zero,zd4]at hloop
 have hfl:(fzs D).length=t.code.length:=by simp_all
 have hfo:(fzs (outsR t D)).length=t.outs.length:=by simp_all
 generalize fzs (outsR t D)=M at *
 have ht:List.take t.outs.length M=M:=List.take_of_length_le (by omega)
 obtain⟨code,outs,dim,par⟩:=t
 rw[f409 _ rfl,b409]
 simp -implicitDefEqProofs[hr,hfl,hloop,hfo,ht]
theorem zoq{lim:Nat}{P:Po}(hlim:lim≤4096):∀(l:List Ins) (D:List Rat),(∀q∈D,sz q≤129)→∀q∈(runR lim P l D).1,sz q≤129
 | [],D,h=>h
 | i::r,D,h=>by
  rw[zdn]
  split
  ·simp
  ·split
   ·simp
   ·refine zoq hlim r _ fun q hq=>?_
    rcases List.mem_append.1 hq with hq | hq
    ·exact h q hq
    ·rw[List.mem_singleton.1 hq]
     have:=zk4 (q:=(valI P D i).1) (b:=lim) (by omega)
     omega
theorem zwc(t:Tp)(x:PoF)(bits:Int)(hs:TpS t)(hx:PoS x 1000) :
  callF T 389 [etp t,ept x,.i .i64 bits]=some (.tup [.sl (rowF (fzs (fieldR (limN bits) t x.v).1)) .an,fltA (fieldR (limN bits) t x.v).2.1 0 0 (fieldR (limN bits) t x.v).2.2]):=by
 have h:=zzo (T:=T) t x bits hs hx
 have hlim:=(ziq bits).2
 have e0:fzs []=[]:=rfl
 unfold fieldR
 by_cases hk:(tapeR (limN bits) t x.v).2.1=0
 ·rw[if_pos hk]
  have hf:fitT t x.v.y.length x.v.p.length=true:=by
   grind[tapeR]
  have e1:tapeR (limN bits) t x.v=runR (limN bits) x.v t.code []:=by unfold tapeR;grind
  rw[e1]at h hk ⊢
  have e2:=(zi2 _ _ _ _ hk).1
  have el:(runR (limN bits) x.v t.code []).1.length=t.code.length:=by
   grind[zi2]
  have ho:=zzp (T:=T) t (runR (limN bits) x.v t.code []).1 hs ((zcr t).2 (zio hf).1) el (fun q hq=>Nat.le_trans (zoq hlim _ _ (by simp) q hq) (by decide))
  rw[hk,e2]at h
  rw[f389 _ rfl,b389]
  simp -implicitDefEqProofs[h,ho]
 ·rw[if_neg hk,e0]
  have hk':¬ (((tapeR (limN bits) t x.v).2.1:Nat):Int)=0:=by omega
  generalize (((tapeR (limN bits) t x.v).2.1:Nat):Int)=kk at *
  rw[f389 _ rfl,b389]
  simp -implicitDefEqProofs[h,hk']
end
structure Sm where
 nm:List UInt8
 c:List Fz
 a:List (List Fz)
 b:List Fz
 e:List Fz
abbrev esm(s:Sm):AV:=.agg [.s s.nm,.sl (rowF s.c) .an,.sl (matF s.a) .an,.sl (rowF s.b) .an,.sl (rowF s.e) .an]
def shapeL:List (List Fz)→Nat→Bool
 | [],_=>true
 | r::l,i=>decide (r.length=i)&&shapeL l (i+1)
def shapeS(s:Sm):Bool:=decide (1≤s.b.length)&&decide (s.b.length≤8)&&decide (s.c.length=s.b.length)&&decide (s.a.length=s.b.length)&&(decide (s.e.length=s.b.length) || decide (s.e.length=0))&&shapeL s.a 0
def numF(x:Fz):Bool:=rightF x&&decide (sizF x≤190)
def numM(m:List (List Fz)):Bool:=m.all fun r=>r.all numF
def sumF(l:List Fz):Rat:=l.foldl (fun s x=>s+fv x) 0
def rowsSm(a:List (List Fz))(c:List Fz):Bool:=(a.zip c).all fun p=>decide (sumF p.1=fv p.2)
def wrongS(s:Sm):Int:=
 if !rightB 2 s.nm then 1 else if !shapeS s then 2 else if !(numM s.a&&numM [s.b,s.c,s.e]) then 3
 else if !rowsSm s.a s.c then 4 else if sumF s.b≠1 then 5 else if s.e≠[]∧sumF s.e≠1 then 6 else 0
def okS(s:Sm):Bool:=decide (wrongS s=0)
structure SmS (s:Sm):Prop where
 nm:s.nm.length≤1000
 cl:s.c.length≤1000
 al:s.a.length≤1000
 bl:s.b.length≤1000
 el:s.e.length≤1000
 c:∀x∈s.c,fsz x≤300
 a:∀r∈s.a,r.length≤1000∧∀x∈r,fsz x≤300
 b:∀x∈s.b,fsz x≤300
 e:∀x∈s.e,fsz x≤300
structure Pb where
 t:Tp
 s:Sm
 p:List Fz
 bits:Int
abbrev epb(p:Pb):AV:=.agg [.sl (rowI p.t.code) .an,.sl (ints p.t.outs) .an,.i .i64 p.t.dim,.i .i64 p.t.par,.s p.s.nm,.sl (rowF p.s.c) .an,.sl (matF p.s.a) .an,.sl (rowF p.s.b) .an,.sl (rowF p.s.e) .an,.sl (rowF p.p) .an,.i .i64 p.bits]
def okP(p:Pb):Bool:=okT p.t&&okS p.s&&decide ((p.p.length:Int)=p.t.par)
abbrev tySm:Ty:=.cons .str (.cons (.sl tyF) (.cons (.sl (.sl tyF)) (.cons (.sl tyF) (.cons (.sl tyF) .nil))))
abbrev tyPb:Ty:=.cons tyT (.cons tySm (.cons (.sl tyF) (.cons (.int .i64) .nil)))
abbrev tyTr:Ty:=.cons tyF (.cons tyF (.cons tyF (.cons tyF (.cons (.sl tyF) (.cons .bool .nil)))))
abbrev tyHs:Ty:=.cons (.sl tyTr) (.cons tyF (.cons (.sl tyF) .nil))
theorem zrg{cs:List AV}(h:Ok (.sl (.sl tyF)) cs):∃m:List (List Fz),wkR cs=[.sl (matF m) .an]:=by
 obtain⟨els,f,rfl,_,_,he⟩:=h
 obtain⟨m,hm⟩:=zmr els he
 exact⟨m,by simp[wkR,wkA,hm]⟩
theorem zx5{cs:List AV}(h:Ok tySm cs):∃s:Sm,wkR cs=[.s s.nm,.sl (rowF s.c) .an,.sl (matF s.a) .an,.sl (rowF s.b) .an,.sl (rowF s.e) .an]:=by
 obtain⟨c1,c1',rfl,⟨nm,rfl,_⟩,c2,c2',rfl,h2,c3,c3',rfl,h3,c4,c4',rfl,h4,c5,c5',rfl,h5,rfl⟩:=h
 obtain⟨c,e2⟩:=zda h2
 obtain⟨a,e3⟩:=zrg h3
 obtain⟨b,e4⟩:=zda h4
 obtain⟨e,e5⟩:=zda h5
 refine⟨⟨nm,c,a,b,e⟩,?_⟩
 simp only[zer,e2,e3,e4,e5]
 rfl
theorem zx6{cs:List AV}(h:Ok tyT cs):∃t:Tp,wkR cs=[.sl (rowI t.code) .an,.sl (ints t.outs) .an,.i .i64 t.dim,.i .i64 t.par]∧-9223372036854775808≤t.dim∧t.dim<9223372036854775808:=by
 obtain⟨c1,c1',rfl,⟨els,f,rfl,_,_,he⟩,c2,c2',rfl,⟨els2,f2,rfl,_,_,he2⟩,c3,c3',rfl,⟨d,rfl,wd⟩,c4,c4',rfl,⟨p,rfl,wp⟩,rfl⟩:=h
 obtain⟨l,hl⟩:=zpr els he
 obtain⟨m,hm⟩:=zps els2 he2
 refine⟨⟨l,m,d,p⟩,?_,z82 wd⟩
 simp[wkA,wkR,hl,hm]
theorem zx7{x:AV}(h:OkArg (true,tyPb) x):∃p:Pb,wkA x=epb p∧-9223372036854775808≤p.t.dim∧p.t.dim<9223372036854775808:=by
 obtain⟨cs,rfl,c1,c1',rfl,h1,c2,c2',rfl,h2,c3,c3',rfl,h3,c4,c4',rfl,⟨b,rfl,_⟩,rfl⟩:=h
 obtain⟨t,e1,d1,d2⟩:=zx6 h1
 obtain⟨s,e2⟩:=zx5 h2
 obtain⟨q,e3⟩:=zda h3
 refine⟨⟨t,s,q,b⟩,?_,d1,d2⟩
 rw[wkA]
 simp only[zer,e1,e2,e3]
 rfl
class CPlain (T:Tbl):Prop where
class CTree2 (T:Tbl):Prop where
class CTree (T:Tbl):Prop where
class CLenD (T:Tbl):Prop where
structure Nd where
 op:Int
 i:Int
 n:List UInt32
 deriving DecidableEq
abbrev celN(x:Nd):List AV:=[.i .i64 x.op,.i .i64 x.i,.sl (u32s x.n) .an]
def rowN(l:List Nd):List (List AV):=l.map celN
@[simp] theorem zadc:rowN []=[]:=rfl
@[simp] theorem z92(l:List Nd):Option.all (fun r:List AV=>decide (r.length=3)) (rowN l).head? = true:=by cases l<;>rfl
@[simp] theorem z93(l:List Nd):rowZ 3 (rowN l)=true:=by cases l<;>rfl
@[simp] theorem z1f(l:List Nd):(rowN l).isEmpty=l.isEmpty:=by cases l<;>rfl
def rowC(l:List (List Nd)):List (List AV):=l.map fun c=>[.sl (rowN c) .an]
@[simp] theorem zadd:rowC []=[]:=rfl
def arN(op:Int):Int:=if 1≤op∧op≤5 then 0 else if op=6∨op=11 then 1 else if 7≤op∧op≤10 then 2 else -1
def wrongL:Nat→Int→List Nd→Int
 | i,o,[]=>if o=1 then -1 else i
 | i,o,x::r=>if arN x.op<0∨o<arN x.op then i else wrongL (i+1) (o+1-arN x.op) r
def wrongN(l:List Nd):Int:=wrongL 0 0 l
def openN(o:Int)(l:List Nd):Int:=l.foldl (fun o x=>o+1-arN x.op) o
def goL:Nat→Int→List Nd→Option Nat×Int
 | _,o,[]=>(none,o)
 | i,o,x::r=>if arN x.op<0∨o<arN x.op then (some i,o) else goL (i+1) (o+1-arN x.op) r
def wordsB(n:List UInt32):Bool:=decide (n=ofN (val n))&&decide ((textN (val n)).length≤60)
def belB(i m:Int):Bool:=decide (0≤i)&&decide (i<m)
def okN(dim pars lets:Int)(x:Nd):Bool:=
 if x.op=1 then decide (x.i=0)&&wordsB x.n
 else if x.n≠[]∨x.op<1∨11<x.op then false
 else if x.op=3 then belB x.i dim else if x.op=4 then belB x.i pars else if x.op=5 then belB x.i lets
 else if x.op=11 then decide (-8≤x.i)&&decide (x.i≤8)
 else decide (x.i=0)
def placeL(dim pars lets w:Int):Nat→List Nd→Int
 | _,[]=>w
 | i,x::r=>if (i:Int)=w∨okN dim pars lets x=false then i else placeL dim pars lets w (i+1) r
def findL(dim pars lets w:Int):Nat→List Nd→Option Nat
 | _,[]=>none
 | i,x::r=>if (i:Int)=w∨okN dim pars lets x=false then some i else findL dim pars lets w (i+1) r
def placeN(dim pars lets:Int)(l:List Nd):Int:=placeL dim pars lets (wrongN l) 0 l
inductive Tre where
 | leaf (x:Nd)
 | un (x:Nd) (a:Tre)
 | bin (x:Nd) (a b:Tre)
def Tre.flat:Tre→List Nd
 | .leaf x=>[x]
 | .un x a=>a.flat++[x]
 | .bin x a b=>a.flat++(b.flat++[x])
def Tre.ok:Tre→Prop
 | .leaf x=>arN x.op=0
 | .un x a=>arN x.op=1∧a.ok
 | .bin x a b=>arN x.op=2∧a.ok∧b.ok
def Tre.deep:Tre→Nat
 | .leaf _=>1
 | .un _ a=>a.deep+1
 | .bin _ a b=>max a.deep b.deep+1
def flats(s:List Tre):List Nd:=s.flatMap Tre.flat
section
variable{T:Tbl}[CTree T]
def stWr(l:List Nd)(p:Nat×Int):St:=⟨[(0,.sl (rowN l) .an),(3,.i .i64 p.2),(7,.sl (rowN l) .an),(8,.i .i64 l.length),(9,.i .i64 p.1)],[],2⟩
variable[CLimb T][CNat T][CText T][CLenD T]
def stPl(l:List Nd)(dim pars lets w:Int)(i:Nat):St:=⟨[(1,.i .i64 dim),(2,.i .i64 pars),(3,.i .i64 lets),(9,.i .i64 w),(14,.sl (rowN l) .an),(15,.i .i64 l.length),(16,.i .i64 i)],[],2⟩
end
structure Lt where
 name:List UInt8
 code:List Nd
abbrev celLt(x:Lt):List AV:=[.s x.name,.sl (rowN x.code) .an]
def rowLt(l:List Lt):List (List AV):=l.map celLt
@[simp] theorem z9r:rowLt []=[]:=rfl
structure Fd where
 lets:List Lt
 outs:List (List Nd)
abbrev efd(f:Fd):AV:=.agg [.sl (rowLt f.lets) .an,.sl (rowC f.outs) .an]
def codesD(f:Fd):List (List Nd):=f.lets.map (·.code)++f.outs
def joinN(op:Int)(l:List (List Nd)):List Nd:=l.flatten++[⟨op,0,[]⟩]
def kNd(n:Int):List Nd:=[⟨1,0,if n=0 then [] else [w32 n.toNat]⟩]
def powN(a:List Nd)(e:Int):List Nd:=a++[⟨11,e,[]⟩]
def timesN(op:Int)(d o:List Nd)(first:Bool):List Nd:=if d=[] then [] else if first then joinN op [d,o] else joinN op [o,d]
def bothN(op:Int)(a b:List Nd):List Nd:=if b=[] then a else if a≠[] then joinN op [a,b] else if op=8 then joinN 6 [b] else b
def oneN(x:Nd)(a da:List Nd):List Nd:=
 if da=[]∨(x.op=11∧x.i=0) then [] else if x.op=6 then joinN 6 [da]
 else if 0<x.i then joinN 9 [joinN 9 [kNd x.i,powN a (x.i-1)],da]
 else joinN 6 [joinN 10 [joinN 9 [joinN 9 [kNd (-x.i),powN a x.i],da],a]]
def lowN(d b o:List Nd):List Nd:=if timesN 9 d o false=[] then [] else joinN 10 [timesN 9 d o false,joinN 9 [b,b]]
def twoN(op:Int)(a da b db:List Nd):List Nd:=
 if op=9 then bothN 7 (timesN 9 da b true) (timesN 9 db a false)
 else if op=10 then bothN 8 (timesN 10 da b true) (lowN db b a)
 else bothN op da db
def Tre.der(u:Nd):Tre→List Nd
 | .leaf x=>if x.op=u.op∧x.i=u.i then kNd 1 else []
 | .un x a=>oneN x a.flat (a.der u)
 | .bin x a b=>twoN x.op a.flat (a.der u) b.flat (b.der u)
def catN(a b:List Nd)(op i:Int):List Nd:=a++b++[⟨op,i,[]⟩]
def thin(w:Nat)(l:List Nd):Prop:=∀x∈l,x.n.length≤w
def pushT(s:List Tre)(x:Nd):List Tre:=
 if arN x.op=0 then .leaf x::s else
  match s with
  | []=>[]
  | a::s1=>if arN x.op=1 then .un x a::s1 else
   match s1 with
   | []=>[]
   | b::s2=>.bin x b a::s2
abbrev Pc:=List Nd×List Nd
def pcs(u:Nd)(s:List Tre):List Pc:=s.reverse.map fun t=>(t.flat,t.der u)
def lenP(l:List Pc):Nat:=(l.map fun p=>p.1.length).sum
def dps(l:List Nat):List (List AV):=l.map fun n=>[.i .i64 (n:Nat)]
@[simp] theorem zaie:dps []=[]:=rfl
def depE(s:List Nat)(x:Nd):List Nat:=if arN x.op=0 then 1::s else if arN x.op=1 then (s.headD 0+1)::s.tail else (max (s.headD 0) (s.tail.headD 0)+1)::s.tail.tail
def depS:List Nat→List Nd→List Nat
 | s,[]=>s
 | s,x::r=>depS (depE s x) r
def depN(l:List Nd):Nat:=if wrongN l=-1 then (depS [] l).headD 0 else 0
section
variable{T:Tbl}[CTree T][CTree2 T]
def thinD(w n:Nat)(f:Fd):Prop:=∀c∈codesD f,c.length≤n∧thin w c
def sizeD(f:Fd):Nat:=((codesD f).map List.length).sum
def mxT(F:List Nat)(k:Nat):Nat→Nat
 | 0=>0
 | j+1=>max (mxT F k j) (F.getD (k-j-1) 0)
def stDi(l:List Nd)(F:List Nat)(i k a j:Nat):St:=⟨[(3,.bs (.loc 3) 1 1 0 (k-j)),(6,.i .i64 (mxT F k j:Nat)),(10,.sl (rowN l) .an),(11,.i .i64 l.length),(12,.i .i64 i),(18,.i .i64 a),(19,.i .i64 j)],[(.loc 3,⟨1,.own,1,dps F⟩)],3⟩
def stDo(l:List Nd)(F:List Nat)(k i:Nat):St:=⟨[(3,.bs (.loc 3) 1 1 0 k),(10,.sl (rowN l) .an),(11,.i .i64 l.length),(12,.i .i64 i)],[(.loc 3,⟨1,.own,1,dps F⟩)],3⟩
end
def nameB(s:List UInt8):Bool:=rightB 2 s&&decide (s≠[116])&&decide (s≠[121])&&decide (s≠[112])&&decide (s≠[108,101,116])
def twB(l:List Lt)(nm:List UInt8):Bool:=l.any fun x=>decide (x.name=nm)
def ptA(dim pars lets:Int)(c:List Nd):Int:=if placeN dim pars lets c<0∧40<depN c then c.length else placeN dim pars lets c
def chkL(dim pars:Int)(L:List Lt):Nat→List Lt→Option (Int×Int×Int)
 | _,[]=>none
 | i,x::r=>if nameB x.name=false∨twB (L.take i) x.name=true then some ((i:Int)+1,1,0) else if 0≤ptA dim pars i x.code then some ((i:Int)+1,0,ptA dim pars i x.code) else chkL dim pars L (i+1) r
def chkO(dim pars:Int)(n:Nat):Nat→List (List Nd)→Option (Int×Int×Int)
 | _,[]=>none
 | i,c::r=>if 0≤ptA dim pars n c then some (((n+i:Nat):Int)+1,0,ptA dim pars n c) else chkO dim pars n (i+1) r
def whB(f:Fd)(dim pars:Int):Bool:=decide (1≤dim∧dim≤6∧0≤pars∧pars≤6∧(f.outs.length:Int)=dim∧f.lets.length≤10∧sizeD f≤300)
def chkD(f:Fd)(dim pars:Int):Option (Int×Int×Int):=
 if whB f dim pars=false then some (0,0,0) else match chkL dim pars f.lets 0 f.lets with
  | some q=>some q
  | none=>chkO dim pars f.lets.length 0 f.outs
def inE(E:List (List Nd))(c:List Nd):List Nd:=c.flatMap fun x=>if x.op=5 then (E[x.i.toNat]?).getD [] else [x]
def tabE(L:List (List Nd)):List (List Nd):=L.foldl (fun E c=>E++[inE E c]) []
def refB(b:Nat)(c:List Nd):Prop:=∀x∈c,x.op=5→0≤x.i∧x.i<b
theorem refB.mono{b b':Nat}{c:List Nd}(h:refB b c)(hb:b≤b'):refB b' c:=fun x hx ho=>by have:=h x hx ho;omega
def refT(L:List (List Nd)):Prop:=∀(i:Nat) (c:List Nd),L[i]? = some c→refB i c
def noLet(c:List Nd):Prop:=∀x∈c,x.op≠5
def szC(S:List Nat)(c:List Nd):Nat:=c.foldl (fun n x=>min (n+if x.op=5 then (S[x.i.toNat]?).getD 0 else 1) 1201) 0
def szT(L:List (List Nd)):List Nat:=L.foldl (fun S c=>S++[szC S c]) []
def allE(E:List (List Nd))(O:List (List Nd)):Nat:=(O.map fun c=>(inE E c).length).sum
abbrev mkP:AV:=.ptr (.bor 0) 0 2 0 0
def memR(E:List (List Nd))(D:List Nat):List (List AV):=D.map fun(i:Nat)=>[.i .i64 (i:Int),.sl (rowN ((E[i]?).getD [])) .an]
def plH(L:List Lt)(E:List (List Nd))(D:List Nat):Heap:=[(.bor 0,⟨0,.str,2,[[.sl (rowLt L) .an,.fnp 0 (.bor 1) 1 2 0 0]]⟩),(.bor 1,⟨1,.mp,2,memR E D⟩)]
def stPc(L:List Lt)(E:List (List Nd))(D:List Nat)(out c:List Nd)(i:Nat):St:=
 ⟨[(0,mkP),(5,.bs (.loc 5) 5 3 0 out.length),(8,.sl (rowN c) .an),(9,.i .i64 c.length),(10,.i .i64 i)],plH L E D++[(.loc 5,⟨5,.own,3,rowN out⟩)],7⟩
end Go.Ab
section
namespace Go.Ab
end Go.Ab
end
namespace Go.Ab
def natR(S:List Nat):List (List AV):=S.map fun(n:Nat)=>[.i .i64 (n:Int)]
@[simp] theorem zdz(S:List Nat):(natR S).length=S.length:=by simp[natR]
@[simp] theorem zaia(S:List Nat):wkL (natR S)=natR S:=by rw[zbs];simp[natR,wkR,wkA]
@[simp] theorem zac6(S:List Nat)(i:Nat)(h:i<(natR S).length):(natR S)[i]=[.i .i64 ((S[i]'(by simpa using h):Nat):Int)]:=by simp[natR]
@[simp] theorem zg1:natR []=[]:=rfl
theorem zvo(S:List Nat)(n:Nat):natR S++[[.i .i64 (n:Int)]]=natR (S++[n]):=by simp[natR]
def stPs(S:List Nat)(n:Nat)(c:List Nd)(i:Nat):St:=
 ⟨[(1,.bs (.bor 0) 0 1 0 S.length),(5,.i .i64 (n:Int)),(8,.sl (rowN c) .an),(9,.i .i64 c.length),(10,.i .i64 (i:Int))],[(.bor 0,⟨0,.own,1,natR S⟩)],4⟩
def cutK(k:Int):Nat:=(min (max k 1) 200).toNat
theorem zgo(k:Int):min (max k 1) 200=(cutK k:Int)∧1≤cutK k∧cutK k≤200:=by
 unfold cutK
 omega
theorem zyj(k:Int):cutK (cutK k:Int)=cutK k:=by
 unfold cutK
 omega
def mrkN(c n:Nat):Nat:=(n+c-1)/c
def mrkL(c n:Nat):List Nat:=(List.range (mrkN c n)).map (· * c)
theorem zga{c n i:Nat}(hc:1≤c):i<mrkN c n↔i*c<n:=by
 unfold mrkN
 rw[Nat.lt_div_iff_mul_lt (by omega)]
 constructor
 ·intro h;omega
 ·intro h
  omega
theorem zuy{c n i:Nat}(hi:i<mrkN c n):(mrkL c n).take (i+1)=(mrkL c n).take i++[i*c]:=by
 unfold mrkL
 rw[List.take_add_one,←List.map_take,List.getElem?_map,List.getElem?_range hi]
 rfl
def stMk(n:Int)(k:Int)(c m i:Nat)(g:Nat):St:=
 ⟨[(0,.i .i64 n),(1,.i .i64 k),(5,.bs (.loc 5) 1 1 0 i),(6,.i .i64 ((i*c:Nat):Int))],[(.loc 5,⟨1,.own,1,natR ((mrkL c m).take i)⟩)],3⟩
section
variable{T:Tbl}[CKeep T]
theorem zgz(k:Int):callF T 518 [.i .i64 k]=some (.i .i64 (cutK k)):=by
 rw[←(zgo k).1,f518 _ rfl,b518]
 simp -implicitDefEqProofs[mm2]
 try omega
theorem zjz(n k:Int):callF T 517 [.i .i64 n,.i .i64 k]=some (.sl (natR (if n<1∨200<n then [] else mrkL (cutK k) n.toNat)) .an):=by
 have c0:=zgz (T:=T) k
 obtain⟨_,hc1,hc2⟩:=zgo k
 by_cases h1:n<1
 ·rw[if_pos (.inl h1),f517 _ rfl,b517]
  simp -implicitDefEqProofs[h1]
 by_cases h2:200<n
 ·rw[if_pos (.inr h2),f517 _ rfl,b517]
  simp -implicitDefEqProofs[h1,h2]
 rw[if_neg (by omega)]
 obtain⟨m,rfl⟩:∃m:Nat,n=m:=⟨n.toNat,by omega⟩
 rw[Int.toNat_natCast]
 generalize cutK k=c at *
 have hml:(mrkL c m).length=mrkN c m:=by simp[mrkL]
 have hmk:mrkN c m≤200:=by
  unfold mrkN
  exact Nat.le_trans (Nat.div_le_div_left hc1 (by decide)) (by rw[Nat.div_one];omega) |> fun _=>by
   have:(m+c-1)/c≤m:=by
    rw[Nat.div_le_iff_le_mul_add_pred (by omega)]
    have:=Nat.le_mul_of_pos_left m (show 0<c by omega)
    omega
   omega
 have hlo:loopN T 0 0 (.norm false [5]) l517_0 (stMk m k c m 0 0)=some (.n,⟨[(5,.bs (.loc 5) 1 1 0 (mrkN c m))],[(.loc 5,⟨1,.own,1,natR (mrkL c m)⟩)],3⟩):=by
  refine zak (fun i=>stMk m k c m i 0) (mrkN c m) _ (fun i hi=>?_) ?_
  ·have hlt:=(zga (n:=m) hc1).1 hi
   have hlt':((i*c:Nat):Int)<(m:Int):=by omega
   have hw:IntKind.wrap .i64 (((i*c:Nat):Int)+(c:Int))=(((i+1)*c:Nat):Int):=by
    rw[zac _ (by omega),Nat.succ_mul]
    omega
   have e:=zuy hi
   have hs:=zvo ((mrkL c m).take i) (i*c)
   have hl:((mrkL c m).take i).length=i:=by rw[List.length_take];omega
   have hb:i+1≤4294967296:=by omega
   unfold stMk
   rw[e]
   generalize (mrkL c m).take i=M at *
   generalize i*c=ic at *
   generalize (i+1)*c=ic1 at *
   have htk:List.take i (natR M)=natR M:=List.take_of_length_le (by rw[zdz];omega)
   simp -implicitDefEqProofs[l517_0,hlt,hlt',hw,hs,c0,hl,hb,htk]
  ·have hge:¬ ((mrkN c m*c:Nat):Int)<(m:Int):=by
    have:¬ mrkN c m*c<m:=fun h=>by
     have:=(zga (n:=m) (i:=mrkN c m) hc1).2 h
     omega
    omega
   have e:(mrkL c m).take (mrkN c m)=mrkL c m:=List.take_of_length_le (by omega)
   unfold stMk
   rw[e]
   generalize mrkN c m*c=x at *
   constructor<;>simp -implicitDefEqProofs[l517_0,hge]
 unfold stMk at hlo
 rw[Nat.zero_mul,List.take_zero,zg1,show (((0:Nat):Int))=0 from rfl]at hlo
 have h1':¬ m<1:=by omega
 have h2':¬ 200<m:=by omega
 have ht:List.take (mrkN c m) (natR (mrkL c m))=natR (mrkL c m):=List.take_of_length_le (by rw[zdz];omega)
 rw[f517 _ rfl,b517]
 simp -implicitDefEqProofs[h1,h2,h1',h2',hlo,ht,hml,zg1]
end
def rowSg(l:List (Nat×Nat)):List (List AV):=l.map fun s=>[.i .i64 (s.1:Int),.i .i64 (s.2:Int)]
@[simp] theorem zdf(l:List (Nat×Nat)):(rowSg l).length=l.length:=by simp[rowSg]
@[simp] theorem zcb(l:List (Nat×Nat)):wkL (rowSg l)=rowSg l:=by rw[zbs];simp[rowSg,wkR,wkA]
@[simp] theorem z86(l:List (Nat×Nat))(i:Nat)(h:i<(rowSg l).length):(rowSg l)[i]=[.i .i64 ((l[i]'(by simpa using h)).1:Int),.i .i64 ((l[i]'(by simpa using h)).2:Int)]:=by simp[rowSg]
theorem zgb(l:List (Nat×Nat))(s:Nat×Nat):rowSg l++[[.i .i64 (s.1:Int),.i .i64 (s.2:Int)]]=rowSg (l++[s]):=by simp[rowSg]
theorem zuz(l:List (Nat×Nat))(i:Nat)(s:Nat×Nat):(rowSg l).set i [.i .i64 (s.1:Int),.i .i64 (s.2:Int)]=rowSg (l.set i s):=by simp[rowSg,List.map_set]
abbrev plP:AV:=.ptr (.bor 0) 0 1 0 0
def plH2(g n:Nat)(S:List (Nat×Nat)):Heap:=[(.bor 0,⟨0,.str,1,[[.bs (.bor 1) g 2 0 n]]⟩),(.bor 1,⟨g,.own,2,rowSg S⟩)]
section
variable{T:Tbl}[CKeep T]
theorem zu0(S:List (Nat×Nat))(s:Nat×Nat)(hl:S.length≤100000) :
  callH T 534 [plP,.sl [[.i .i64 (s.1:Int),.i .i64 (s.2:Int)]] .an] (plH2 1 S.length S)=some (.tup [],plH2 4 (S.length+1) (S++[s])):=by
 have hs:=zgb S s
 have h1:S.length+1≤4294967296:=by omega
 have ht:List.take S.length (rowSg S)=rowSg S:=List.take_of_length_le (by rw[zdf];exact Nat.le_refl _)
 unfold plH2
 rw[f534 _ _ rfl,b534]
 simp -implicitDefEqProofs[hs,h1,ht]
theorem zyk(n:Nat)(S:List (Nat×Nat))(s:Nat×Nat)(hn:n+1≤100000)(hs:S[n]? = some s) :
  callH T 550 [plP] (plH2 1 (n+1) S)=some (.tup [.agg [.i .i64 (s.1:Int),.i .i64 (s.2:Int)],.b true],plH2 1 (n+1) S):=by
 obtain⟨hlt,hge⟩:=List.getElem?_eq_some_iff.1 hs
 have hw:IntKind.wrap .i64 (((n+1:Nat):Int)-1)=(n:Int):=by rw[zac _ (by omega)];omega
 have h1:¬ ((n+1:Nat):Int)=0:=by omega
 have hlt2:(n:Int)<((n+1:Nat):Int):=by omega
 unfold plH2
 rw[f550 _ _ rfl,b550]
 generalize hn1:n+1=n1 at *
 have hnn:n<n1:=by omega
 have hz:¬ n1=0:=by omega
 simp -implicitDefEqProofs[hs,hge,hlt,hw,h1,hlt2,hnn,hz]
theorem zu1(S:List (Nat×Nat)):callH T 550 [plP] (plH2 1 0 S)=some (.tup [.agg [.i .i64 0,.i .i64 0],.b false],plH2 1 0 S):=by
 unfold plH2
 rw[f550 _ _ rfl,b550]
 simp -implicitDefEqProofs
theorem zpu(n:Nat)(S:List (Nat×Nat))(s:Nat×Nat)(hn:n+1≤100000)(hs:S[n]? = some s) :
  callH T 535 [plP] (plH2 1 (n+1) S)=some (.tup [.agg [.i .i64 (s.1:Int),.i .i64 (s.2:Int)],.b true],plH2 1 n (S.set n (0,0))):=by
 have c1:=zyk (T:=T) n S s hn hs
 obtain⟨hlt,hge⟩:=List.getElem?_eq_some_iff.1 hs
 have hw:IntKind.wrap .i64 (((n+1:Nat):Int)-1)=(n:Int):=by rw[zac _ (by omega)];omega
 have hst:=zuz S n (0,0)
 unfold plH2 at *
 rw[f535 _ _ rfl,b535]
 generalize hn1:n+1=n1 at *
 have hnn:n<n1:=by omega
 have hnn1:(n:Int)<(n1:Int):=by omega
 have hnn2:(n:Int)≤(n1:Int):=by omega
 have hle:n≤n1:=by omega
 simp only[Int.natCast_zero]at hst
 simp -implicitDefEqProofs[c1,hs,hge,hlt,hw,hnn,hnn1,hnn2,hle,hst]
theorem zmv(S:List (Nat×Nat)):callH T 535 [plP] (plH2 1 0 S)=some (.tup [.agg [.i .i64 0,.i .i64 0],.b false],plH2 1 0 S):=by
 have c1:=zu1 (T:=T) S
 unfold plH2 at *
 rw[f535 _ _ rfl,b535]
 simp -implicitDefEqProofs[c1]
end
def segL(c m:Nat):List (Nat×Nat):=(mrkL c m).map fun x=>(x,min (x+c) m)
def stSg0(n k:Int)(M:List Nat)(S:List (Nat×Nat))(i:Nat):St:=
 ⟨[(0,.i .i64 n),(1,.i .i64 k),(5,.ptr (.loc 5) 1 1 0 0),(13,.sl (natR M) .an),(14,.i .i64 M.length),(15,.i .i64 (i:Int))],
  [(.loc 5,⟨1,.str,1,[[.bs (.fld (.loc 5) 0) 2 2 0 i]]⟩),(.fld (.loc 5) 0,⟨2,.own,2,rowSg (S.take i)⟩)],4⟩
def stSg1(b:Bool)(out:List (Nat×Nat))(n:Nat)(Z:List (Nat×Nat))(cur:Nat×Nat):St:=
 ⟨[(5,.ptr (.loc 5) 1 1 0 0),(8,.bs (.loc 8) 3 2 0 out.length),(9,.ptr (.loc 9) 4 2 0 0),(10,.b b)],
  [(.loc 5,⟨1,.str,1,[[.bs (.fld (.loc 5) 0) 2 2 0 n]]⟩),(.fld (.loc 5) 0,⟨2,.own,2,rowSg Z⟩),(.loc 8,⟨3,.own,2,rowSg out⟩),(.loc 9,⟨4,.str,2,[[.i .i64 (cur.1:Int),.i .i64 (cur.2:Int)]]⟩)],6⟩
section
variable{T:Tbl}[CKeep T]
theorem z28(k:Int)(m i x:Nat)(M:List Nat)(S:List (Nat×Nat))(hx:M[i]? = some x)(hxm:x<m)(hm:m≤200)(hM:M.length≤1000)(hS:S[i]? = some (x,min (x+cutK k) m)) :
  evX (orc T) T 0 l514_0 (stSg0 m k M S i)=some (.n,stSg0 m k M S (i+1)):=by
 have c0:=zgz (T:=T) k
 obtain⟨_,hc1,hc2⟩:=zgo k
 generalize cutK k=c at *
 obtain⟨hlt,hge⟩:=List.getElem?_eq_some_iff.1 hx
 have hlt':(i:Int)<(M.length:Int):=by omega
 have hws:=za5 hlt (by omega)
 have hw:IntKind.wrap .i64 ((x:Int)+(c:Int))=(x:Int)+(c:Int):=zac _ (by omega)
 have hSl:i<S.length:=(List.getElem?_eq_some_iff.1 hS).1
 have c1:=zu0 (T:=T) (S.take i) (x,min (x+c) m) (by rw[List.length_take];omega)
 have hl:(S.take i).length=i:=by rw[List.length_take];omega
 have e:S.take (i+1)=S.take i++[(x,min (x+c) m)]:=by rw[List.take_add_one,hS];rfl
 have hmn:(if (m:Int)<(x:Int)+(c:Int) then (m:Int) else (x:Int)+(c:Int))=((min (x+c) m:Nat):Int):=by split<;>omega
 rw[hl]at c1
 unfold plH2 at c1
 dsimp only at c1
 unfold stSg0
 rw[e]
 have wS:=zcb (S.take i)
 have wS1:=zcb (S.take i++[(x,min (x+c) m)])
 generalize rowSg (S.take i++[(x,min (x+c) m)])=R1 at *
 generalize rowSg (S.take i)=R0 at *
 generalize min (x+c) m=y at *
 simp -implicitDefEqProofs[l514_0,hlt,hlt',hx,hge,hws,hw,c0,c1,hmn,mm2,wS,wS1]
theorem z87(out Z:List (Nat×Nat))(n:Nat)(cur s:Nat×Nat)(hn:n+1≤1000)(ho:out.length≤1000)(hs:Z[n]? = some s) :
  evX (orc T) T 0 l514_1 (stSg1 true out (n+1) Z cur)=some (.n,stSg1 true (out++[cur]) n (Z.set n (0,0)) s):=by
 have c1:=zpu (T:=T) n Z s (by omega) hs
 have h1:=zgb out cur
 have h2:out.length+1≤4294967296:=by omega
 have h3:(out++[cur]).length=out.length+1:=by simp
 have ht:List.take out.length (rowSg out)=rowSg out:=List.take_of_length_le (by rw[zdf];exact Nat.le_refl _)
 have w1:=zcb (out++[cur])
 have w2:=zcb (Z.set n (0,0))
 have w3:=zcb Z
 unfold plH2 at c1
 unfold stSg1
 rw[h3]
 generalize rowSg (out++[cur])=R1 at *
 generalize rowSg (Z.set n (0,0))=R2 at *
 generalize rowSg Z=R3 at *
 simp -implicitDefEqProofs[l514_1,c1,h1,h2,ht,w1,w2,w3]
theorem z29(out Z:List (Nat×Nat))(cur:Nat×Nat)(ho:out.length≤1000) :
  evX (orc T) T 0 l514_1 (stSg1 true out 0 Z cur)=some (.n,stSg1 false (out++[cur]) 0 Z (0,0)):=by
 have c1:=zmv (T:=T) Z
 have h1:=zgb out cur
 have h2:out.length+1≤4294967296:=by omega
 have h3:(out++[cur]).length=out.length+1:=by simp
 have ht:List.take out.length (rowSg out)=rowSg out:=List.take_of_length_le (by rw[zdf];exact Nat.le_refl _)
 have w1:=zcb (out++[cur])
 have w3:=zcb Z
 unfold plH2 at c1
 unfold stSg1
 rw[h3]
 generalize rowSg (out++[cur])=R1 at *
 generalize rowSg Z=R3 at *
 simp -implicitDefEqProofs[l514_1,c1,h1,h2,ht,w1,w3]
theorem z0s(out Z:List (Nat×Nat))(n:Nat)(cur:Nat×Nat):isEx (evX (orc T) T 0 l514_1 (stSg1 false out n Z cur))=true ∧
  finX 0 2 (.norm false [8]) (evX (orc T) T 0 l514_1 (stSg1 false out n Z cur))=some (.n,⟨[(8,.bs (.loc 8) 1 2 0 out.length)],[(.loc 8,⟨1,.own,2,rowSg out⟩)],3⟩):=by
 unfold stSg1
 constructor<;>simp -implicitDefEqProofs[l514_1]
theorem zgc(c m:Nat):(segL c m).length=mrkN c m:=by simp[segL,mrkL]
theorem zid{c m:Nat}(hc:1≤c):mrkN c m≤m:=by
 unfold mrkN
 rw[Nat.div_le_iff_le_mul_add_pred (by omega)]
 have:=Nat.le_mul_of_pos_left m (show 0<c by omega)
 omega
theorem zkt{c m i x:Nat}(hc:1≤c)(h:(mrkL c m)[i]? = some x):x=i*c∧x<m∧i<mrkN c m:=by
 unfold mrkL at h
 rw[List.getElem?_map]at h
 obtain⟨j,hj,rfl⟩:=Option.map_eq_some_iff.1 h
 obtain⟨h1,h2⟩:=List.getElem?_eq_some_iff.1 hj
 rw[List.length_range]at h1
 rw[List.getElem_range]at h2
 subst h2
 exact⟨rfl,(zga hc).1 h1,h1⟩
theorem zyl(S:List (Nat×Nat))(hS:S.length≤1000)(n:Nat)(hn:S.length=n+1)(s:Nat×Nat)(hs:S[n]? = some s) :
  ∃N,loopN T 0 2 (.norm false [8]) l514_1 (stSg1 true [] n (S.set n (0,0)) s)=some (.n,⟨[(8,.bs (.loc 8) 1 2 0 N)],[(.loc 8,⟨1,.own,2,rowSg S.reverse⟩)],3⟩)∧N=S.length:=by
 have key:∃r,r=(Ex.n,(⟨[(8,.bs (.loc 8) 1 2 0 S.length)],[(.loc 8,⟨1,.own,2,rowSg S.reverse⟩)],3⟩:St))∧loopN T 0 2 (.norm false [8]) l514_1 (stSg1 true [] n (S.set n (0,0)) s)=some r:=by
  have e0:stSg1 true [] n (S.set n (0,0)) s=(fun q:Bool×Nat×List (Nat×Nat)×(Nat×Nat)=>stSg1 q.1 (S.reverse.take (S.length-(if q.1 then q.2.1+1 else 0))) q.2.1 q.2.2.1 q.2.2.2) (true,n,S.set n (0,0),s):=by
   simp[hn]
  rw[e0]
  refine za1 (fun q:Bool×Nat×List (Nat×Nat)×(Nat×Nat)=>stSg1 q.1 (S.reverse.take (S.length-(if q.1 then q.2.1+1 else 0))) q.2.1 q.2.2.1 q.2.2.2)
   (fun q=>if q.1 then q.2.1<S.length∧S[q.2.1]? = some q.2.2.2∧∀i,i<q.2.1→q.2.2.1[i]? = S[i]? else q.2.1=0)
   (fun q=>if q.1 then q.2.1+1 else 0) (fun r=>r=(Ex.n,(⟨[(8,.bs (.loc 8) 1 2 0 S.length)],[(.loc 8,⟨1,.own,2,rowSg S.reverse⟩)],3⟩:St))) ?_ (true,n,S.set n (0,0),s) ?_
  ·rintro⟨b,j,Z,cur⟩ hq
   cases b with
   | false=>
    right
    simp only[Bool.false_eq_true,if_false]at hq ⊢
    have e:S.reverse.take (S.length-0)=S.reverse:=List.take_of_length_le (by simp)
    rw[e]
    obtain⟨e1,e2⟩:=z0s (T:=T) S.reverse Z j cur
    rw[List.length_reverse]at e2
    exact⟨_,rfl,e1,e2⟩
   | true=>
    left
    simp only[if_true]at hq ⊢
    obtain⟨h1,h2,h3⟩:=hq
    have ho:(S.reverse.take (S.length-(j+1))).length≤1000:=by rw[List.length_take,List.length_reverse];omega
    have hrev:S.reverse[S.length-(j+1)]? = some cur:=by
     rw[List.getElem?_reverse (by omega),show S.length-1-(S.length-(j+1))=j by omega,h2]
    have hsn:S.reverse.take (S.length-j)=S.reverse.take (S.length-(j+1))++[cur]:=by
     rw[show S.length-j=S.length-(j+1)+1 by omega,List.take_add_one,hrev]
     rfl
    cases j with
    | zero=>
     refine⟨(false,0,Z,(0,0)),by simp,by simp,?_⟩
     simp only[Bool.false_eq_true,if_false]
     rw[Nat.sub_zero]at hsn
     rw[Nat.sub_zero,hsn]
     exact z29 (T:=T) _ Z cur ho
    | succ j=>
     obtain⟨s',hs'⟩:∃s',S[j]? = some s':=⟨_,List.getElem?_eq_getElem (by omega)⟩
     refine⟨(true,j,Z.set j (0,0),s'),?_,by simp,?_⟩
     ·simp only[if_true]
      refine⟨by omega,hs',fun i hi=>?_⟩
      rw[List.getElem?_set_ne (by omega)]
      exact h3 i (by omega)
     ·simp only[if_true]
      rw[hsn]
      exact z87 (T:=T) _ Z j cur s' (by omega) ho (by rw[h3 j (by omega)];exact hs')
  ·simp only[if_true]
   refine⟨by omega,hs,fun i hi=>?_⟩
   rw[List.getElem?_set_ne (by omega)]
 obtain⟨r,rfl,hlo⟩:=key
 exact⟨S.length,hlo,rfl⟩
theorem zku(n k:Int):callF T 514 [.i .i64 n,.i .i64 k]=some (.sl (rowSg (if n<1∨200<n then [] else (segL (cutK k) n.toNat).reverse)) .an):=by
 have c0:=zjz (T:=T) n k
 by_cases hb:n<1∨200<n
 ·rw[if_pos hb]at c0 ⊢
  have c1:=zmv (T:=T) []
  have hl0:loopN T 0 0 (.norm false [5]) l514_0 (stSg0 n k [] [] 0)=some (.n,⟨[(5,.ptr (.loc 5) 1 1 0 0)],[(.loc 5,⟨1,.str,1,[[.bs (.fld (.loc 5) 0) 2 2 0 0]]⟩),(.fld (.loc 5) 0,⟨2,.own,2,[]⟩)],4⟩):=by
   refine zak (fun i=>stSg0 n k [] [] i) 0 _ (fun i hi=>by omega) ?_
   unfold stSg0
   constructor<;>simp -implicitDefEqProofs[l514_0,rowSg]
  have hl1:loopN T 0 2 (.norm false [8]) l514_1 (stSg1 false [] 0 [] (0,0))=some (.n,⟨[(8,.bs (.loc 8) 1 2 0 0)],[(.loc 8,⟨1,.own,2,[]⟩)],3⟩):=by
   obtain⟨e1,e2⟩:=z0s (T:=T) [] [] 0 (0,0)
   refine zak (fun _=>stSg1 false [] 0 [] (0,0)) 0 _ (fun i hi=>by omega) ⟨e1,e2⟩
  unfold stSg0 at hl0
  unfold stSg1 at hl1
  unfold plH2 at c1
  rw[zg1]at c0
  simp only[zg1,List.length_nil,List.take_nil,show rowSg []=[] from rfl,show (((0:Nat):Int))=0 from rfl]at hl0 hl1 c1
  rw[f514 _ rfl,b514]
  simp -implicitDefEqProofs[c0,c1,hl0,hl1,show rowSg []=[] from rfl]
 ·rw[if_neg hb]at c0 ⊢
  obtain⟨m,rfl⟩:∃m:Nat,n=m:=⟨n.toNat,by omega⟩
  rw[Int.toNat_natCast]at c0 ⊢
  obtain⟨_,hc1,hc2⟩:=zgo k
  have hsl:=zgc (cutK k) m
  have hml:(mrkL (cutK k) m).length=mrkN (cutK k) m:=by simp[mrkL]
  have hle:=zid (c:=cutK k) (m:=m) hc1
  have hpos:0<mrkN (cutK k) m:=(zga hc1).2 (by omega)
  have hl0:loopN T 0 0 (.norm false [5]) l514_0 (stSg0 m k (mrkL (cutK k) m) (segL (cutK k) m) 0)=some (.n,⟨[(5,.ptr (.loc 5) 1 1 0 0)],[(.loc 5,⟨1,.str,1,[[.bs (.fld (.loc 5) 0) 2 2 0 (mrkN (cutK k) m)]]⟩),(.fld (.loc 5) 0,⟨2,.own,2,rowSg (segL (cutK k) m)⟩)],4⟩):=by
   refine zak (fun i=>stSg0 m k (mrkL (cutK k) m) (segL (cutK k) m) i) (mrkN (cutK k) m) _ (fun i hi=>?_) ?_
   ·obtain⟨x,hx⟩:∃x,(mrkL (cutK k) m)[i]? = some x:=⟨_,List.getElem?_eq_getElem (by omega)⟩
    obtain⟨_,g2,_⟩:=zkt hc1 hx
    refine z28 (T:=T) k m i x _ _ hx g2 (by omega) (by omega) ?_
    unfold segL
    rw[List.getElem?_map,hx]
    rfl
   ·have e:(segL (cutK k) m).take (mrkN (cutK k) m)=segL (cutK k) m:=List.take_of_length_le (by omega)
    unfold stSg0
    rw[e,hml]
    have w:=zcb (segL (cutK k) m)
    generalize rowSg (segL (cutK k) m)=R at *
    generalize mrkN (cutK k) m=N at *
    constructor<;>simp -implicitDefEqProofs[l514_0,w]
  obtain⟨N,hN⟩:∃N,mrkN (cutK k) m=N+1:=⟨mrkN (cutK k) m-1,by omega⟩
  obtain⟨s,hs⟩:∃s,(segL (cutK k) m)[N]? = some s:=⟨_,List.getElem?_eq_getElem (by omega)⟩
  have c1:=zpu (T:=T) N (segL (cutK k) m) s (by omega) hs
  obtain⟨N2,hl1,rfl⟩:=zyl (T:=T) (segL (cutK k) m) (by omega) N (by omega) s hs
  unfold stSg0 at hl0
  unfold stSg1 at hl1
  unfold plH2 at c1
  rw[hN]at hl0
  simp only[List.take_zero,List.length_nil,show rowSg []=[] from rfl,show (((0:Nat):Int))=0 from rfl]at hl0 hl1
  have ht:List.take (segL (cutK k) m).length (rowSg (segL (cutK k) m).reverse)=rowSg (segL (cutK k) m).reverse:=List.take_of_length_le (by simp)
  have hrl:(rowSg (segL (cutK k) m).reverse).length=(segL (cutK k) m).length:=by simp
  have w1:=zcb (segL (cutK k) m).reverse
  have w2:=zcb (segL (cutK k) m)
  have w3:=zcb ((segL (cutK k) m).set N (0,0))
  generalize rowSg ((segL (cutK k) m).set N (0,0))=R3 at *
  generalize rowSg (segL (cutK k) m).reverse=R1 at *
  generalize rowSg (segL (cutK k) m)=R2 at *
  generalize (segL (cutK k) m).length=LL at *
  generalize hM:mrkL (cutK k) m=M at *
  rw[f514 _ rfl,b514]
  simp -implicitDefEqProofs[c0,c1,hl0,hl1,ht,hrl,w1,w2,w3]
end
structure Kp where
 ev:Int
 sz:List Fz
 ts:List Fz
 ys:List (List Fz)
abbrev ekp(c:Kp):AV:=.agg [.i .i64 c.ev,.sl (rowF c.sz) .an,.sl (rowF c.ts) .an,.sl (matF c.ys) .an]
def mrkK(k n:Int):List Nat:=if n<1∨200<n then [] else mrkL (cutK k) n.toNat
def segK(k n:Int):List (Nat×Nat):=if n<1∨200<n then [] else (segL (cutK k) n.toNat).reverse
def posL(l:List Fz):Bool:=l.all fun x=>decide (0<fv x)
def rightK(c:Kp):Bool:=posL c.sz&&(decide (c.ev=cutK c.ev)&&decide (c.sz.length≤200)&&decide (c.ts.length=(mrkK c.ev c.sz.length).length)&&decide (c.ys.length=(mrkK c.ev c.sz.length).length))
def amongK(c:Kp)(f t:Int):Bool:=(segK c.ev c.sz.length).any fun x=>decide ((x.1:Int)=f)&&decide ((x.2:Int)=t)
abbrev bxKp(g:Nat)(c:Kp):Box:=⟨g,.str,4,[[.i .i64 c.ev,.sl (rowF c.sz) .an,.sl (rowF c.ts) .an,.sl (matF c.ys) .an]]⟩
def stRk(c:Kp)(i:Nat):St:=⟨[(1,.ptr (.loc 1) 1 4 0 0),(7,.sl (rowF c.sz) .an),(8,.i .i64 c.sz.length),(9,.i .i64 (i:Int))],[(.loc 1,bxKp 1 c)],3⟩
def stAm(f t:Int)(L:List (Nat×Nat))(i:Nat):St:=⟨[(3,.ptr (.loc 3) 1 2 0 0),(12,.sl (rowSg L) .an),(13,.i .i64 L.length),(14,.i .i64 (i:Int))],[(.loc 3,⟨1,.str,2,[[.i .i64 f,.i .i64 t]]⟩)],3⟩
def stMay(l:List Fz)(i:Nat):St:=⟨[(0,.sl (rowF l) .an),(5,.sl (rowF l) .an),(6,.i .i64 l.length),(7,.i .i64 (i:Int))],[],2⟩
section
variable{T:Tbl}[CLimb T][CNat T][CProd T][CTwos T][CQuot T][CQuotD T][CWhole T][CCommon T][CFrac T][CKeep T]
theorem ze6(n k:Int):callF T 517 [.i .i64 n,.i .i64 k]=some (.sl (natR (mrkK k n)) .an):=zjz (T:=T) n k
theorem zgd(n k:Int):callF T 514 [.i .i64 n,.i .i64 k]=some (.sl (rowSg (segK k n)) .an):=zku (T:=T) n k
theorem zj0(c:Kp)(hl:c.sz.length≤1000)(hw:∀x∈c.sz,fsz x≤10000):callF T 504 [ekp c]=some (.b (rightK c)):=by
 have c1:=ze6 (T:=T) c.sz.length c.ev
 have c2:=zgz (T:=T) c.ev
 have hlp:loopN T 0 0 (.norm false [1]) l504_0 (stRk c 0)=if posL (c.sz.drop 0)=true then some (.n,⟨[(1,.ptr (.loc 1) 1 4 0 0)],[(.loc 1,bxKp 1 c)],3⟩) else some (.r,⟨[(2,.b false)],[],2⟩):=by
  refine zax (stRk c) c.sz.length (fun i=>if posL (c.sz.drop i)=true then some (.n,⟨[(1,.ptr (.loc 1) 1 4 0 0)],[(.loc 1,bxKp 1 c)],3⟩) else some (.r,⟨[(2,.b false)],[],2⟩)) (fun i hi=>?_) ?_
  ·have hws:=za5 hi (by omega)
   have hm:=List.getElem_mem hi
   have cs:=zfp (T:=T) _ (hw _ hm)
   have key:posL (c.sz.drop i)=(decide (0<fv (c.sz[i]'hi))&&posL (c.sz.drop (i+1))):=by unfold posL;rw[List.drop_eq_getElem_cons hi,List.all_cons]
   have e1:(0<fv (c.sz[i]'hi))↔¬ sgQ (fv (c.sz[i]'hi))≤0:=by rw[←zk9];omega
   have hi':(i:Int)<c.sz.length:=by omega
   obtain⟨ev,S,ts,ys⟩:=c
   dsimp only at *
   generalize hq:S[i]'hi=q at *
   obtain⟨q1,q2,q3⟩:=q
   by_cases hp:sgQ (fv (q1,q2,q3))≤0
   ·right
    rw[key,decide_eq_false (by rw[e1];exact fun h=>h hp),Bool.false_and,if_neg (by decide)]
    generalize sgQ (fv (q1,q2,q3))=g at *
    unfold stRk
    constructor<;>simp -implicitDefEqProofs[l504_0,hi,hi',hq,cs,hp]
   ·left
    rw[key,decide_eq_true (e1.2 hp),Bool.true_and]
    refine⟨?_,rfl⟩
    generalize sgQ (fv (q1,q2,q3))=g at *
    unfold stRk
    simp -implicitDefEqProofs[l504_0,hi,hi',hq,hws,cs,hp]
  ·have e:posL (c.sz.drop c.sz.length)=true:=by rw[List.drop_length];rfl
   rw[e,if_pos rfl]
   unfold stRk
   constructor<;>simp -implicitDefEqProofs[l504_0]
 rw[List.drop_zero]at hlp
 unfold stRk at hlp
 rw[show (((0:Nat):Int))=0 from rfl]at hlp
 unfold rightK
 generalize hM:mrkK c.ev c.sz.length=M at *
 have hml:(natR M).length=M.length:=zdz M
 generalize posL c.sz=P at *
 generalize cutK c.ev=cc at *
 obtain⟨ev,S,ts,ys⟩:=c
 dsimp only at *
 rw[f504 _ rfl,b504]
 cases P with
 | false=>
  rw[if_neg (by decide)]at hlp
  simp -implicitDefEqProofs[hlp]
 | true=>
  rw[if_pos rfl]at hlp
  by_cases h1:ev=(cc:Int)
  ·subst h1
   by_cases h2:S.length≤200
   ·have h2I:(S.length:Int)≤200:=by omega
    by_cases h3:ts.length=M.length
    ·have h3I:(ts.length:Int)=M.length:=by omega
     by_cases h4:ys.length=M.length
     ·have h4I:(ys.length:Int)=M.length:=by omega
      simp -implicitDefEqProofs[hlp,c1,c2,h2,h2I,h3,h4,h3I,h4I]
     ·have h4I:¬ (ys.length:Int)=M.length:=by omega
      simp -implicitDefEqProofs[hlp,c1,c2,h2,h2I,h3,h4,h3I,h4I]
    ·have h3I:¬ (ts.length:Int)=M.length:=by omega
     simp -implicitDefEqProofs[hlp,c1,c2,h2,h2I,h3,h3I]
   ·have h2I:¬ (S.length:Int)≤200:=by omega
    simp -implicitDefEqProofs[hlp,c1,c2,h2,h2I]
  ·simp -implicitDefEqProofs[hlp,c1,c2,h1]
theorem zrq(c:Kp)(f t:Int)(hl:c.sz.length≤1000):callF T 525 [ekp c,.agg [.i .i64 f,.i .i64 t]]=some (.b (amongK c f t)):=by
 have c1:=zgd (T:=T) c.sz.length c.ev
 have hsl:(segK c.ev c.sz.length).length≤1000:=by
  unfold segK
  split
  ·simp
  ·next hh=>
   rw[List.length_reverse,zgc]
   have:=zid (c:=cutK c.ev) (m:=(c.sz.length:Int).toNat) (zgo c.ev).2.1
   omega
 unfold amongK
 generalize segK c.ev c.sz.length=L at *
 have hlp:loopN T 0 0 (.norm false []) l525_0 (stAm f t L 0)=if ((L.drop 0).any fun x=>decide ((x.1:Int)=f)&&decide ((x.2:Int)=t))=true then some (.r,⟨[(4,.b true)],[],2⟩) else some (.n,⟨[],[],2⟩):=by
  refine zax (stAm f t L) L.length (fun i=>if ((L.drop i).any fun x=>decide ((x.1:Int)=f)&&decide ((x.2:Int)=t))=true then some (.r,⟨[(4,.b true)],[],2⟩) else some (.n,⟨[],[],2⟩)) (fun i hi=>?_) ?_
  ·have hws:=za5 hi (by omega)
   have key:((L.drop i).any fun x=>decide ((x.1:Int)=f)&&decide ((x.2:Int)=t))=((decide (((L[i]'hi).1:Int)=f)&&decide (((L[i]'hi).2:Int)=t)) || ((L.drop (i+1)).any fun x=>decide ((x.1:Int)=f)&&decide ((x.2:Int)=t))):=by rw[List.drop_eq_getElem_cons hi,List.any_cons]
   have hi':(i:Int)<L.length:=by omega
   generalize hq:L[i]'hi=q at *
   obtain⟨q1,q2⟩:=q
   dsimp only at *
   by_cases h1:(q1:Int)=f
   ·by_cases h2:(q2:Int)=t
    ·right
     rw[key,decide_eq_true h1,decide_eq_true h2]
     simp only[Bool.and_self,Bool.true_or,if_true]
     unfold stAm
     constructor<;>simp -implicitDefEqProofs[l525_0,hi,hi',hq,h1,h2]
    ·left
     rw[key,decide_eq_false h2,Bool.and_false,Bool.false_or]
     refine⟨?_,rfl⟩
     unfold stAm
     simp -implicitDefEqProofs[l525_0,hi,hi',hq,hws,h1,h2]
   ·left
    rw[key,decide_eq_false h1,Bool.false_and,Bool.false_or]
    refine⟨?_,rfl⟩
    unfold stAm
    simp -implicitDefEqProofs[l525_0,hi,hi',hq,hws,h1]
  ·rw[List.drop_length,List.any_nil,if_neg (by decide)]
   unfold stAm
   constructor<;>simp -implicitDefEqProofs[l525_0]
 rw[List.drop_zero]at hlp
 unfold stAm at hlp
 rw[show (((0:Nat):Int))=0 from rfl]at hlp
 obtain⟨ev,S,ts,ys⟩:=c
 dsimp only at *
 rw[f525 _ rfl,b525]
 have hrl:=zdf L
 cases hA:(L.any fun x=>decide ((x.1:Int)=f)&&decide ((x.2:Int)=t)) with
 | true=>
  rw[hA,if_pos rfl]at hlp
  simp -implicitDefEqProofs[c1,hlp]
 | false=>
  rw[hA,if_neg (by decide)]at hlp
  simp -implicitDefEqProofs[c1,hlp]
variable[CMarch T]
theorem zmw(l:List Fz)(hl:l.length≤1000)(hw:∀x∈l,fsz x≤10000):callF T 531 [.sl (rowF l) .an]=some (.b (posL l&&decide (l.length≤200))):=by
 have hlp:loopN T 0 0 (.norm false [0]) l531_0 (stMay l 0)=if posL (l.drop 0)=true then some (.n,⟨[(0,.sl (rowF l) .an)],[],2⟩) else some (.r,⟨[(2,.b false)],[],2⟩):=by
  refine zax (stMay l) l.length (fun i=>if posL (l.drop i)=true then some (.n,⟨[(0,.sl (rowF l) .an)],[],2⟩) else some (.r,⟨[(2,.b false)],[],2⟩)) (fun i hi=>?_) ?_
  ·have hws:=za5 hi (by omega)
   have hm:=List.getElem_mem hi
   have cs:=zfp (T:=T) _ (hw _ hm)
   have key:posL (l.drop i)=(decide (0<fv (l[i]'hi))&&posL (l.drop (i+1))):=by unfold posL;rw[List.drop_eq_getElem_cons hi,List.all_cons]
   have e1:(0<fv (l[i]'hi))↔¬ sgQ (fv (l[i]'hi))≤0:=by rw[←zk9];omega
   have hi':(i:Int)<l.length:=by omega
   generalize hq:l[i]'hi=q at *
   obtain⟨q1,q2,q3⟩:=q
   by_cases hp:sgQ (fv (q1,q2,q3))≤0
   ·right
    rw[key,decide_eq_false (by rw[e1];exact fun h=>h hp),Bool.false_and,if_neg (by decide)]
    generalize sgQ (fv (q1,q2,q3))=g at *
    unfold stMay
    constructor<;>simp -implicitDefEqProofs[l531_0,hi,hi',hq,cs,hp]
   ·left
    rw[key,decide_eq_true (e1.2 hp),Bool.true_and]
    refine⟨?_,rfl⟩
    generalize sgQ (fv (q1,q2,q3))=g at *
    unfold stMay
    simp -implicitDefEqProofs[l531_0,hi,hi',hq,hws,cs,hp]
  ·have e:posL (l.drop l.length)=true:=by rw[List.drop_length];rfl
   rw[e,if_pos rfl]
   unfold stMay
   constructor<;>simp -implicitDefEqProofs[l531_0]
 rw[List.drop_zero]at hlp
 unfold stMay at hlp
 rw[show (((0:Nat):Int))=0 from rfl]at hlp
 rw[f531 _ rfl,b531]
 cases hP:posL l with
 | false=>
  rw[hP,if_neg (by decide)]at hlp
  simp -implicitDefEqProofs[hlp]
 | true=>
  rw[hP,if_pos rfl]at hlp
  by_cases h2:l.length≤200
  ·have h2I:(l.length:Int)≤200:=by omega
   simp -implicitDefEqProofs[hlp,h2,h2I]
  ·have h2I:¬ (l.length:Int)≤200:=by omega
   simp -implicitDefEqProofs[hlp,h2,h2I]
end
theorem z3n(l:List Fz):scl 1 l=nrm l:=by
 grind[scl,nrm]
section
variable{T:Tbl}[CLimb T][CNat T][CProd T][CTwos T][CQuot T][CQuotD T][CWhole T][CCommon T][CFrac T][CFrac3 T][CFrac5 T][CPow T][CTape T][CGauge T][CEval T][CRun T][CIfc T][CDigits T][CText T][CJoin T][CRow T][CPast T]
theorem ze7(l:List Fz)(hl:l.length≤1000)(hw:∀x∈l,fsz x≤1000):callF T 533 [.sl (rowF l) .an]=some (.sl (rowF (nrm l)) .an):=by
 have h0:=zpt (T:=T)
 have h:=zef (T:=T) (fz 1) (by decide +kernel) l hl hw
 rw[zbt,z3n]at h
 rw[f533 _ rfl,b533]
 simp_all
theorem zm4(r:Tr):callF T 549 [.agg (celR r)]=some (.sl (rowF r.nums) .an):=by
 have e:rowF r.nums=[celF r.t,celF r.w,celF r.h,celF r.e]:=rfl
 rw[f549 _ rfl,b549,e]
 simp -implicitDefEqProofs[]
def stRi0(m:List (List Fz))(r:List Fz)(j i:Nat):St:=⟨[(7,.sl (matF m) .an),(8,.i .i64 m.length),(9,.i .i64 j),(13,.sl (rowF r) .an),(14,.i .i64 r.length),(15,.i .i64 i)],[],2⟩
def stRi1(m:List (List Fz))(i:Nat):St:=⟨[(7,.sl (matF m) .an),(8,.i .i64 m.length),(9,.i .i64 i)],[],2⟩
def bxH(h:Hs):Box:=⟨1,.str,5,[[.sl (rowTr h.l) .an,.b h.t.1,.sl (u32s h.t.2.1) .an,.sl (u32s h.t.2.2) .an,.sl (rowF h.y) .an]]⟩
def stPln(h:Hs)(i:Nat):St:=⟨[(1,.ptr (.loc 1) 1 5 0 0),(6,.sl (rowTr h.l) .an),(7,.i .i64 h.l.length),(8,.i .i64 i)],[(.loc 1,bxH h)],3⟩
def stSz(l:List Tr)(i:Nat):St:=⟨[(6,.sl (rowTr l) .an),(7,.i .i64 l.length),(8,.i .i64 i)],[],2⟩
def stCh(h:Hs)(i:Nat):St:=⟨[(1,.ptr (.loc 1) 1 5 0 0),(8,.sl (rowTr h.l) .an),(9,.i .i64 h.l.length),(10,.i .i64 i)],[(.loc 1,bxH h)],3⟩
theorem HsS.mono{h:Hs}{A B:Nat}(hs:HsS h A)(hAB:A≤B):HsS h B:=
 ⟨hs.len,Nat.le_trans hs.t hAB,fun x hx=>Nat.le_trans (hs.y x hx) hAB,hs.yl,fun r hr x hx=>Nat.le_trans (hs.rt r hr x hx) hAB,fun r hr x hx=>Nat.le_trans (hs.ry r hr x hx) hAB,hs.rl⟩
theorem zvn(l:List Tr)(r:Tr):accH (l++[r])=if r.ok then accH l++[nrmR r] else accH l:=by
 grind[accH]
def stAc(l:List Tr)(i n:Nat):St:=⟨[(3,.bs (.loc 3) 1 14 0 n),(8,.sl (rowTr l) .an),(9,.i .i64 l.length),(10,.i .i64 i)],[(.loc 3,⟨1,.own,14,rowTr (accH (l.take i))⟩)],3⟩
theorem zfu(h:Hs)(hs:HsS h 1000):callF T 532 [ehs h]=some (.sl (rowTr (accH h.l)) .an):=by
 have hlen:=hs.len
 have al:∀i,(accH (h.l.take i)).length≤i:=by
  grind[accH]
 have hlp:loopN T 0 0 (.norm false [3]) l532_0 (stAc h.l 0 (accH (h.l.take 0)).length)=some (.n,⟨[(3,.bs (.loc 3) 1 14 0 (accH h.l).length)],[(.loc 3,⟨1,.own,14,rowTr (accH h.l)⟩)],3⟩):=by
  refine zak (fun i=>stAc h.l i (accH (h.l.take i)).length) h.l.length _ (fun i hi=>?_) ?_
  ·have hga:h.l[i]? = some (h.l[i]'hi):=List.getElem?_eq_getElem hi
   have hws:=za5 hi (by omega)
   have hm:=List.getElem_mem hi
   have key:accH (h.l.take (i+1))=if (h.l[i]'hi).ok then accH (h.l.take i)++[nrmR (h.l[i]'hi)] else accH (h.l.take i):=by
    rw[List.take_succ_eq_append_getElem hi,zvn]
   have hai:=al i
   have c1:=zm4 (T:=T) (h.l[i]'hi)
   have c2:=ze7 (T:=T) (h.l[i]'hi).nums (by simp[Tr.nums]) (hs.rt _ hm)
   have c3:=ze7 (T:=T) (h.l[i]'hi).y (hs.rl _ hm) (hs.ry _ hm)
   generalize hq:h.l[i]'hi=q at *
   have hA1:(accH (h.l.take i)).length+1≤4294967296:=by omega
   clear hs hm al
   unfold stAc
   simp only[key]
   generalize hA:accH (h.l.take i)=A at *
   clear hA key
   have hnn:wkL (rowF q.nums)=rowF q.nums:=zla _
   replace c2:callF T 533 [.sl (rowF q.nums) .an]=some (.sl [celF (fz (fv q.t)),celF (fz (fv q.w)),celF (fz (fv q.h)),celF (fz (fv q.e))] .an):=c2
   generalize hN:rowF q.nums=NN at *
   clear hN
   have hpush:wkL (rowTr A++[celR (nrmR q)])=rowTr (A++[nrmR q]):=by rw[zka,zfy]
   unfold nrmR at *
   obtain⟨q1,q2,q3,q4,q5,q6⟩:=q
   dsimp only at *
   generalize fz (fv q1)=z1 at *
   generalize fz (fv q2)=z2 at *
   generalize fz (fv q3)=z3 at *
   generalize fz (fv q4)=z4 at *
   generalize nrm q5=z5 at *
   obtain⟨L,t,y⟩:=h
   dsimp only at *
   cases q6 with
   | true=>
    simp -implicitDefEqProofs[l532_0,hi,hq,hws,c1,c2,c3,hnn,hA1,hpush]
   | false=>
    simp -implicitDefEqProofs[l532_0,hi,hq,hws]
  ·simp only[List.take_length]
   unfold stAc
   simp only[List.take_length]
   constructor<;>simp -implicitDefEqProofs[l532_0]
 have e0:accH (h.l.take 0)=[]:=rfl
 unfold stAc at hlp
 rw[e0]at hlp
 simp only[Int.natCast_zero,List.length_nil,zwx]at hlp
 have ht:List.take (accH h.l).length (accH h.l)=accH h.l:=List.take_length ..
 rw[f532 _ rfl,b532]
 obtain⟨L,t,y⟩:=h
 simp -implicitDefEqProofs[hlp,ht]
end
section
variable{T:Tbl}[CLimb T][CNat T][CProd T][CTwos T][CQuot T][CQuotD T][CWhole T][CCommon T][CFrac T][CFrac3 T][CFrac5 T][CPow T][CTape T][CGauge T][CEval T][CRun T][CIfc T][CDigits T][CText T][CJoin T][CRow T][CPast T][CPast2 T]
theorem zp0(l:List Tr):(accH l).length≤l.length:=by
 unfold accH
 rw[List.length_map]
 exact List.length_filter_le ..
def stSi(A:List Tr)(i:Nat):St:=⟨[(3,.bs (.loc 3) 1 3 0 i),(7,.sl (rowTr A) .an),(8,.i .i64 A.length),(9,.i .i64 i)],[(.loc 3,⟨1,.own,3,rowF ((A.take i).map (·.h))⟩)],3⟩
theorem zzf(h:Hs)(hs:HsS h 1000):callF T 519 [ehs h]=some (.sl (rowF (szsH h)) .an):=by
 have c:=zfu (T:=T) h hs
 have hl:=Nat.le_trans (zp0 h.l) hs.len
 unfold szsH
 generalize accH h.l=A at *
 have hlp:loopN T 0 0 (.norm false [3]) l519_0 (stSi A 0)=some (.n,⟨[(3,.bs (.loc 3) 1 3 0 A.length)],[(.loc 3,⟨1,.own,3,rowF (A.map (·.h))⟩)],3⟩):=by
  refine zak (stSi A) A.length _ (fun i hi=>?_) ?_
  ·have hga:A[i]? = some (A[i]'hi):=List.getElem?_eq_getElem hi
   have hws:=za5 hi (by omega)
   have key:(A.take (i+1)).map (·.h)=(A.take i).map (·.h)++[(A[i]'hi).h]:=by rw[List.take_succ_eq_append_getElem hi,List.map_append];rfl
   have hml:((A.take i).map (·.h)).length=i:=by simp;omega
   have hi4:i+1≤4294967296:=by omega
   generalize hq:A[i]'hi=q at *
   unfold stSi
   simp only[key]
   generalize (A.take i).map (·.h)=M at *
   have hpush:=zcc hml q.h
   obtain⟨q1,q2,q3,q4,q5,q6⟩:=q
   dsimp only at *
   simp -implicitDefEqProofs[l519_0,hi,hga,hq,hws,hml,hi4,hpush]
  ·unfold stSi
   rw[List.take_of_length_le (Nat.le_refl _)]
   constructor<;>simp -implicitDefEqProofs[l519_0]
 unfold stSi at hlp
 simp only[Int.natCast_zero,List.take_zero,List.map_nil,zd4]at hlp
 have hml:(A.map (·.h)).length=A.length:=by simp
 have ht:List.take A.length (A.map (·.h))=A.map (·.h):=List.take_of_length_le (by simp)
 rw[f519 _ rfl,b519]
 clear hs
 generalize A.map (·.h)=M at *
 obtain⟨L,t,y⟩:=h
 simp -implicitDefEqProofs[c,hlp,ht,hml]
def stNo(h:Hs)(A:List Tr)(i:Nat):St:=⟨[(1,.ptr (.loc 1) 1 5 0 0),(4,.bs (.loc 4) 2 3 0 i),(5,.bs (.loc 5) 3 1 0 i),(9,.sl (rowTr A) .an),(10,.i .i64 A.length),(11,.i .i64 i)],
 [(.loc 1,bxH h),(.loc 4,⟨2,.own,3,rowF ((A.take i).map (·.t))⟩),(.loc 5,⟨3,.own,1,matF ((A.take i).map (·.y))⟩)],5⟩
theorem zr4(h:Hs)(A:List Tr)(hl:A.length≤1000):loopN T 0 0 (.norm false [1,4,5]) l513_0 (stNo h A 0) =
  some (.n,⟨[(1,.ptr (.loc 1) 1 5 0 0),(4,.bs (.loc 4) 2 3 0 A.length),(5,.bs (.loc 5) 3 1 0 A.length)],[(.loc 1,bxH h),(.loc 4,⟨2,.own,3,rowF (A.map (·.t))⟩),(.loc 5,⟨3,.own,1,matF (A.map (·.y))⟩)],5⟩):=by
 refine zak (stNo h A) A.length _ (fun i hi=>?_) ?_
 ·have hga:A[i]? = some (A[i]'hi):=List.getElem?_eq_getElem hi
  have hws:=za5 hi (by omega)
  have key:(A.take (i+1)).map (·.t)=(A.take i).map (·.t)++[(A[i]'hi).t]:=by rw[List.take_succ_eq_append_getElem hi,List.map_append];rfl
  have key2:(A.take (i+1)).map (·.y)=(A.take i).map (·.y)++[(A[i]'hi).y]:=by rw[List.take_succ_eq_append_getElem hi,List.map_append];rfl
  have hml:((A.take i).map (·.t)).length=i:=by simp;omega
  have hml2:((A.take i).map (·.y)).length=i:=by simp;omega
  have hi4:i+1≤4294967296:=by omega
  generalize hq:A[i]'hi=q at *
  unfold stNo bxH
  simp only[key,key2]
  generalize (A.take i).map (·.t)=M at *
  generalize (A.take i).map (·.y)=N at *
  have hpush:=zcc hml q.t
  have hpush2:=zfs hml2 q.y
  obtain⟨q1,q2,q3,q4,q5,q6⟩:=q
  dsimp only at *
  simp -implicitDefEqProofs[l513_0,hi,hga,hq,hws,hml,hml2,hi4,hpush,hpush2]
 ·unfold stNo bxH
  rw[List.take_of_length_le (Nat.le_refl _)]
  constructor<;>simp -implicitDefEqProofs[l513_0]
theorem zj4(h:Hs)(hs:HsS h 1000):callF T 513 [ehs h]=some (.tup [.sl (rowF (nodeT h)) .an,.sl (matF (nodeY h)) .an]):=by
 have c:=zfu (T:=T) h hs
 have hl:=Nat.le_trans (zp0 h.l) hs.len
 have c2:=za9 (T:=T) h.t (Nat.le_trans hs.t (by decide))
 have c3:=ze7 (T:=T) h.y hs.yl hs.y
 unfold nodeT nodeY
 generalize accH h.l=A at *
 have hlp:=zr4 (T:=T) h A hl
 unfold stNo bxH at hlp
 simp only[Int.natCast_zero,List.take_zero,List.map_nil,zd4,zqf]at hlp
 have hml:(A.map (·.t)).length=A.length:=by simp
 have hml2:(A.map (·.y)).length=A.length:=by simp
 have hi4:A.length+1≤4294967296:=by omega
 rw[f513 _ rfl,b513]
 clear hs
 generalize A.map (·.t)=M at *
 generalize A.map (·.y)=N at *
 generalize hn:A.length=n at *
 have hpush:=zcc hml (fz (fv h.t))
 have hpush2:=zfs hml2 (nrm h.y)
 generalize fz (fv h.t)=z at *
 generalize nrm h.y=Y at *
 have ht1:List.take (n+1) (M++[z])=M++[z]:=List.take_of_length_le (by simp;omega)
 have ht2:List.take (n+1) (N++[Y])=N++[Y]:=List.take_of_length_le (by simp;omega)
 obtain⟨L,⟨t1,t2,t3⟩,y⟩:=h
 dsimp only at *
 simp -implicitDefEqProofs[c,c2,c3,hlp,hml,hml2,hi4,hpush,hpush2,hn,ht1,ht2]
end
def tsK(h:Hs)(k:Int):List Fz:=(mrkK k (szsH h).length).map fun m=>((nodeT h)[m]?).getD (false,[],[])
def ysK(h:Hs)(k:Int):List (List Fz):=(mrkK k (szsH h).length).map fun m=>((nodeY h)[m]?).getD []
def ofK(h:Hs)(k:Int):Kp:=⟨cutK k,szsH h,tsK h k,ysK h k⟩
def stOf(h:Hs)(k:Int)(i:Nat):St:=
 ⟨[(4,.ptr (.loc 4) 1 4 0 0),(5,.ptr (.loc 5) 2 4 0 0),(6,.sl (rowF (nodeT h)) .an),(7,.sl (matF (nodeY h)) .an),(24,.sl (natR (mrkK k (szsH h).length)) .an),(25,.i .i64 (mrkK k (szsH h).length).length),(26,.i .i64 (i:Int))],
  [(.loc 4,⟨1,.str,4,[[.i .i64 0,.sl [] .an,.sl [] .an,.sl [] .an]]⟩),(.loc 5,⟨2,.str,4,[[.i .i64 (cutK k),.sl (rowF (szsH h)) .an,.bs (.fld (.loc 5) 2) 3 3 0 i,.bs (.fld (.loc 5) 3) 4 1 0 i]]⟩),
   (.fld (.loc 5) 2,⟨3,.own,3,rowF ((tsK h k).take i)⟩),(.fld (.loc 5) 3,⟨4,.own,1,matF ((ysK h k).take i)⟩)],6⟩
theorem z3a{k n:Int}{i m:Nat}(h:(mrkK k n)[i]? = some m):(m:Int)<n:=by
 unfold mrkK at h
 split at h
 ·cases h
 ·next hb=>
  have:=(zkt (zgo k).2.1 h).2.1
  omega
theorem zpv(k n:Int):(mrkK k n).length≤200:=by
 unfold mrkK
 split
 ·simp
 ·next hb=>
  have h1:(mrkL (cutK k) n.toNat).length=mrkN (cutK k) n.toNat:=by simp[mrkL]
  have:=zid (c:=cutK k) (m:=n.toNat) (zgo k).2.1
  omega
section
variable{T:Tbl}[CLimb T][CNat T][CProd T][CTwos T][CQuot T][CQuotD T][CWhole T][CCommon T][CFrac T][CKeep T]
theorem zym(h:Hs)(k:Int)(i m:Nat)(x:Fz)(r:List Fz)(hm:(mrkK k (szsH h).length)[i]? = some m)(hx:(nodeT h)[m]? = some x)(hr:(nodeY h)[m]? = some r) :
  evX (orc T) T 0 l499_0 (stOf h k i)=some (.n,stOf h k (i+1)):=by
 have hlen:=zpv k (szsH h).length
 have et:(tsK h k).take (i+1)=(tsK h k).take i++[x]:=by
  unfold tsK
  rw[List.take_add_one,List.getElem?_map,hm,Option.map_some,hx]
  rfl
 have ey:(ysK h k).take (i+1)=(ysK h k).take i++[r]:=by
  unfold ysK
  rw[List.take_add_one,List.getElem?_map,hm,Option.map_some,hr]
  rfl
 obtain⟨hi,hge⟩:=List.getElem?_eq_some_iff.1 hm
 have hi':(i:Int)<((mrkK k (szsH h).length).length:Int):=by omega
 have hws:=za5 hi (by omega)
 have hl1:(tsK h k).length=(mrkK k (szsH h).length).length:=by simp[tsK]
 have hl2:(ysK h k).length=(mrkK k (szsH h).length).length:=by simp[ysK]
 have l1:((tsK h k).take i).length=i:=by rw[List.length_take];omega
 have l2:((ysK h k).take i).length=i:=by rw[List.length_take];omega
 have p1:=zcc (m:=(tsK h k).take i) l1 x
 have p2:=zfs (m:=(ysK h k).take i) l2 r
 have hb:i≤4294967295:=by omega
 obtain⟨g1,g2⟩:=List.getElem?_eq_some_iff.1 hx
 obtain⟨g3,g4⟩:=List.getElem?_eq_some_iff.1 hr
 have g1':(m:Int)<((nodeT h).length:Int):=by omega
 have g3':(m:Int)<((nodeY h).length:Int):=by omega
 unfold stOf
 rw[et,ey]
 generalize (tsK h k).take i=A at *
 generalize (ysK h k).take i=B at *
 generalize mrkK k (szsH h).length=M at *
 generalize nodeT h=NT at *
 generalize nodeY h=NY at *
 obtain⟨x0,x1,x2⟩:=x
 simp -implicitDefEqProofs[l499_0,hi,hi',hm,hge,hws,hx,g1,g1',g2,hr,g3,g3',g4,l1,l2,p1,p2,hb]
variable[CFrac3 T][CFrac5 T][CPow T][CTape T][CGauge T][CEval T][CRun T][CIfc T][CDigits T][CText T][CJoin T][CRow T][CPast T][CPast2 T]
theorem z3b(h:Hs)(k:Int)(hs:HsS h 1000):callF T 499 [ehs h,.i .i64 k]=some (ekp (ofK h k)):=by
 have c1:=zzf (T:=T) h hs
 have c2:=zj4 (T:=T) h hs
 have c3:=zgz (T:=T) k
 have c4:=ze6 (T:=T) (szsH h).length k
 have hlen:=zpv k (szsH h).length
 have hl1:(tsK h k).length=(mrkK k (szsH h).length).length:=by simp[tsK]
 have hl2:(ysK h k).length=(mrkK k (szsH h).length).length:=by simp[ysK]
 have hlo:loopN T 0 0 (.norm false [4,5]) l499_0 (stOf h k 0)=some (.n,⟨[(4,.ptr (.loc 4) 1 4 0 0),(5,.ptr (.loc 5) 2 4 0 0)],
   [(.loc 4,⟨1,.str,4,[[.i .i64 0,.sl [] .an,.sl [] .an,.sl [] .an]]⟩),(.loc 5,⟨2,.str,4,[[.i .i64 (cutK k),.sl (rowF (szsH h)) .an,.bs (.fld (.loc 5) 2) 3 3 0 (mrkK k (szsH h).length).length,.bs (.fld (.loc 5) 3) 4 1 0 (mrkK k (szsH h).length).length]]⟩),
    (.fld (.loc 5) 2,⟨3,.own,3,rowF (tsK h k)⟩),(.fld (.loc 5) 3,⟨4,.own,1,matF (ysK h k)⟩)],6⟩):=by
  refine zak (stOf h k) (mrkK k (szsH h).length).length _ (fun i hi=>?_) ?_
  ·obtain⟨m,hm⟩:∃m,(mrkK k (szsH h).length)[i]? = some m:=⟨_,List.getElem?_eq_getElem hi⟩
   have hml:=z3a hm
   have n1:(nodeT h).length=(szsH h).length+1:=by simp[nodeT,szsH]
   have n2:(nodeY h).length=(szsH h).length+1:=by simp[nodeY,szsH]
   obtain⟨x,hx⟩:∃x,(nodeT h)[m]? = some x:=⟨_,List.getElem?_eq_getElem (by omega)⟩
   obtain⟨r,hr⟩:∃r,(nodeY h)[m]? = some r:=⟨_,List.getElem?_eq_getElem (by omega)⟩
   exact zym (T:=T) h k i m x r hm hx hr
  ·have e1:(tsK h k).take (mrkK k (szsH h).length).length=tsK h k:=List.take_of_length_le (by omega)
   have e2:(ysK h k).take (mrkK k (szsH h).length).length=ysK h k:=List.take_of_length_le (by omega)
   unfold stOf
   rw[e1,e2]
   generalize (mrkK k (szsH h).length).length=N at *
   generalize mrkK k (szsH h).length=M at *
   generalize nodeT h=NT at *
   generalize nodeY h=NY at *
   generalize tsK h k=A at *
   generalize ysK h k=B at *
   constructor<;>simp -implicitDefEqProofs[l499_0]
 unfold stOf at hlo
 simp only[List.take_zero,show rowF []=[] from rfl,show matF []=[] from rfl,show (((0:Nat):Int))=0 from rfl]at hlo
 have t1:List.take (mrkK k (szsH h).length).length (rowF (tsK h k))=rowF (tsK h k):=List.take_of_length_le (by rw[ziz];omega)
 have t2:List.take (mrkK k (szsH h).length).length (matF (ysK h k))=matF (ysK h k):=List.take_of_length_le (by rw[zdc];omega)
 have n1:(natR (mrkK k (szsH h).length)).length=(mrkK k (szsH h).length).length:=zdz _
 have hzl:(rowF (szsH h)).length=(szsH h).length:=by simp
 unfold ofK
 generalize mrkK k (szsH h).length=M at *
 generalize nodeT h=NT at *
 generalize nodeY h=NY at *
 generalize tsK h k=A at *
 generalize ysK h k=B at *
 generalize szsH h=Z at *
 obtain⟨L,⟨t1',t2',t3'⟩,y⟩:=h
 rw[f499 _ rfl,b499]
 simp -implicitDefEqProofs[c1,c2,c3,c4,hlo,t1,t2,hl1,hl2]
end
def bmp(l:List Rat)(i:Int)(x:Rat):List Rat:=l.set i.toNat (gI l i+x)
def turnW(D:List Rat)(x:Ins)(r:Rat):Rat:=if 0<x.b then powZ (gI D x.a) (x.b-1) else if x.b<0 then r/gI D x.a else 0
def thrC(D:List Rat)(x:Ins)(r c:Rat)(co:List Rat):List Rat:=
 if x.op=6 then bmp co x.a (-c)
 else if x.op=7 then bmp (bmp co x.a c) x.b c
 else if x.op=8 then bmp (bmp co x.a c) x.b (-c)
 else if x.op=9 then bmp (bmp co x.a (c*gI D x.b)) x.b (c*gI D x.a)
 else if x.op=10 then bmp (bmp co x.a (c/gI D x.b)) x.b (-(c/gI D x.b*r))
 else if x.op=11 then bmp co x.a (c*(x.b*turnW D x r))
 else co
def thrG(x:Ins)(c:Rat)(g:Po):Po:=
 if x.op=2 then ⟨g.t+c,g.y,g.p⟩ else if x.op=3 then ⟨g.t,bmp g.y x.a c,g.p⟩ else if x.op=4 then ⟨g.t,g.y,bmp g.p x.a c⟩ else g
def backR(lim:Nat)(code:List Ins)(D:List Rat):Nat→List Rat→Po→(List Rat×Po)×Option Nat
 | 0,co,g=>((co,g),none)
 | n+1,co,g=>
  match code[n]? with
  | none=>((co,g),none)
  | some x=>if lim<sizQ (gI co n) then ((co,g),some n) else backR lim code D n (thrC D x (gI D n) (gI co n) co) (thrG x (gI co n) g)
def backL(code:List Ins)(D:List Rat):Nat→List Rat→Po→List Rat×Po
 | 0,co,g=>(co,g)
 | n+1,co,g=>
  match code[n]? with
  | none=>(co,g)
  | some x=>backL code D n (thrC D x (gI D n) (gI co n) co) (thrG x (gI co n) g)
def sendQ:List Int→List Rat→List Rat→List Rat
 | o::os,w::ws,co=>sendQ os ws (bmp co o w)
 | _,_,co=>co
def firstL(lim:Nat):List Rat→Nat→Option Nat
 | [],_=>none
 | q::l,k=>if lim<sizQ q then some k else firstL lim l (k+1)
def zeroP(d p:Nat):Po:=⟨0,List.replicate d 0,List.replicate p 0⟩
def allP(g:Po):List Rat:=g.t::(g.y++g.p)
def backT(lim:Nat)(t:Tp)(P:Po)(w:List Rat):Po×Nat×Nat×Nat:=
 if w.length≠t.outs.length then (zeroP 0 0,2,0,0)
 else if (tapeR lim t P).2.1≠0 then (zeroP 0 0,(tapeR lim t P).2.1,0,(tapeR lim t P).2.2)
 else
  match backR lim t.code (tapeR lim t P).1 t.code.length (sendQ t.outs w (List.replicate t.code.length 0)) (zeroP t.dim.toNat t.par.toNat) with
  | (_,some i)=>(zeroP 0 0,6,2,i)
  | (s,none)=>match firstL lim (allP s.2) 0 with | some k=>(zeroP 0 0,6,3,k) | none=>(s.2,0,0,0)
def addQL(l m:List Rat):List Rat:=List.zipWith (· + ·) l m
def addPo(g h:Po):Po:=⟨g.t+h.t,addQL g.y h.y,addQL g.p h.p⟩
theorem zwd(l:List Fz)(x:Fz):sumF (l++[x])=sumF l+fv x:=by simp[sumF]
theorem znd(l:List Fz){i:Nat}(h:i<l.length):sumF (l.take (i+1))=sumF (l.take i)+fv (l[i]'h):=by
 rw[List.take_succ_eq_append_getElem h,zwd]
theorem zk5{l:List Fz}{B:Nat}(hw:∀x∈l,fsz x≤B)(hB:1≤B):∀i,i≤l.length→sz (sumF (l.take i))≤i*(B+1)+1
 | 0,_=>by
  grind[sumF,zgl]
 | i+1,hi=>by
  have ih:=zk5 hw hB i (by omega)
  rw[znd l hi]
  have h1:=zei (sumF (l.take i)) (fv (l[i]'hi))
  have h3:=zba (hw _ (List.getElem_mem hi)) hB
  grind
theorem zwe{x:Fz}(h:numF x=true):fsz x≤6:=by
 unfold numF at h
 simp only[Bool.and_eq_true,decide_eq_true_eq]at h
 obtain⟨h1,h2⟩:=h
 unfold rightF at h1
 have e:x=fz (fv x):=by grind
 rw[e]at h2 ⊢
 have:=zk4 (q:=fv x) (b:=190) h2
 rw[zas]
 omega
section
variable{T:Tbl}[CLimb T][CNat T][CProd T][CTwos T][CQuot T][CQuotD T][CWhole T][CCommon T][CFrac T][CFrac3 T][CFrac5 T][CPow T][CTape T][CGauge T][CEval T][CRun T][CIfc T][CScheme T]
def stSu(l:List Fz)(i:Nat):St:=⟨[(2,.ptr (.loc 2) 1 3 0 0),(3,.ptr (.loc 3) 2 3 0 0),(7,.sl (rowF l) .an),(8,.i .i64 l.length),(9,.i .i64 i)],
 [(.loc 2,⟨1,.str,3,[nocell]⟩),(.loc 3,⟨2,.str,3,[celF (fz (sumF (l.take i)))]⟩)],4⟩
theorem zzq(l:List Fz){B:Nat}(hw:∀x∈l,fsz x≤B)(hB:1≤B)(hS:l.length*(B+1)+1≤1000) :
  loopN T 0 0 (.norm false [2,3]) l562_0 (stSu l 0)=some (.n,⟨[(2,.ptr (.loc 2) 1 3 0 0),(3,.ptr (.loc 3) 2 3 0 0)],[(.loc 2,⟨1,.str,3,[nocell]⟩),(.loc 3,⟨2,.str,3,[celF (fz (sumF l))]⟩)],4⟩):=by
 refine zak (stSu l) l.length _ (fun i hi=>?_) ?_
 ·have hlen:l.length*1≤1000:=Nat.le_trans (Nat.mul_le_mul_left _ (show 1≤B+1 by omega)) (by omega)
  have hBB:B+1≤1000:=Nat.le_trans (Nat.le_mul_of_pos_left _ (show 0<l.length by omega)) (by omega)
  have hws:=za5 hi (by omega)
  have ha1:=hw _ (List.getElem_mem hi)
  have s1:=zk5 hw hB i (by omega)
  have s2:i*(B+1)≤l.length*(B+1):=Nat.mul_le_mul_right _ (by omega)
  have c2:=zdw (T:=T) (fz (sumF (l.take i))) (l[i]'hi) (by rw[zas];omega) (by omega)
  rw[zbt,←znd l hi]at c2
  unfold stSu
  simp -implicitDefEqProofs[l562_0,hi,hws,c2]
 ·unfold stSu
  constructor<;>simp -implicitDefEqProofs[l562_0]
theorem zgh(l:List Fz){B:Nat}(hw:∀x∈l,fsz x≤B)(hB:1≤B)(hS:l.length*(B+1)+1≤1000) :
  callF T 562 [.sl (rowF l) .an]=some (efz (fz (sumF l))):=by
 have h0:=zes (T:=T)
 have h:=zzq (T:=T) l hw hB hS
 unfold stSu at h
 have e0:sumF (l.take 0)=0:=rfl
 rw[e0]at h
 simp only[Int.natCast_zero]at h
 rw[f562 _ rfl,b562]
 simp -implicitDefEqProofs[h0,h]
def stNu0(m:List (List Fz))(r:List Fz)(j i:Nat):St:=⟨[(7,.sl (matF m) .an),(8,.i .i64 m.length),(9,.i .i64 j),(13,.sl (rowF r) .an),(14,.i .i64 r.length),(15,.i .i64 i)],[],2⟩
theorem zwf(m:List (List Fz))(r:List Fz)(j:Nat)(hl:r.length≤1000)(hw:∀x∈r,fsz x≤1000) :
  loopN T 0 2 (.norm false [7,8,9]) l560_0 (stNu0 m r j 0)=if (r.drop 0).all numF=true then some (.n,⟨[(7,.sl (matF m) .an),(8,.i .i64 m.length),(9,.i .i64 j)],[],2⟩) else some (.r,⟨[(2,.b false)],[],2⟩):=by
 refine zax (stNu0 m r j) r.length (fun i=>if (r.drop i).all numF=true then some (.n,⟨[(7,.sl (matF m) .an),(8,.i .i64 m.length),(9,.i .i64 j)],[],2⟩) else some (.r,⟨[(2,.b false)],[],2⟩)) (fun i hi=>?_) ?_
 ·have hws:=za5 hi (by omega)
  have hx:=hw _ (List.getElem_mem hi)
  have c1:=zjv (T:=T) (r[i]'hi) (by omega)
  have c2:=zjx (T:=T) (r[i]'hi) (by omega)
  have key:(r.drop i).all numF=(numF (r[i]'hi)&&(r.drop (i+1)).all numF):=by rw[List.drop_eq_getElem_cons hi,List.all_cons]
  have hn:numF (r[i]'hi)=(rightF (r[i]'hi)&&decide (sizF (r[i]'hi)≤190)):=rfl
  by_cases h1:rightF (r[i]'hi)=true
  ·by_cases h2:sizF (r[i]'hi)≤190
   ·left
    refine⟨?_,by grind⟩
    have h3:¬ (190:Int)<sizF (r[i]'hi):=by omega
    unfold stNu0
    simp -implicitDefEqProofs[l560_0,hi,hws,c1,c2,h1,h3]
   ·right
    have h3:(190:Int)<sizF (r[i]'hi):=by omega
    rw[if_neg (by grind)]
    unfold stNu0
    constructor<;>simp -implicitDefEqProofs[l560_0,hi,c1,c2,h1,h3]
  ·right
   have h1':rightF (r[i]'hi)=false:=by grind
   rw[if_neg (by grind)]
   unfold stNu0
   constructor<;>simp -implicitDefEqProofs[l560_0,hi,c1,h1']
 ·simp only[List.drop_length,List.all_nil,if_true]
  unfold stNu0
  constructor<;>simp -implicitDefEqProofs[l560_0]
def stNu1(m:List (List Fz))(i:Nat):St:=⟨[(7,.sl (matF m) .an),(8,.i .i64 m.length),(9,.i .i64 i)],[],2⟩
theorem zwg(m:List (List Fz))(hl:m.length≤1000)(hw:∀r∈m,r.length≤1000∧∀x∈r,fsz x≤1000) :
  loopN T 0 0 (.norm false []) l560_1 (stNu1 m 0)=if numM (m.drop 0)=true then some (.n,⟨[],[],2⟩) else some (.r,⟨[(2,.b false)],[],2⟩):=by
 refine zax (stNu1 m) m.length (fun i=>if numM (m.drop i)=true then some (.n,⟨[],[],2⟩) else some (.r,⟨[(2,.b false)],[],2⟩)) (fun i hi=>?_) ?_
 ·have hws:=za5 hi (by omega)
  obtain⟨h1,h2⟩:=hw _ (List.getElem_mem hi)
  have h:=zwf (T:=T) m (m[i]'hi) i h1 h2
  have key:numM (m.drop i)=((m[i]'hi).all numF&&numM (m.drop (i+1))):=by grind[numM,List.drop_eq_getElem_cons]
  unfold stNu0 at h
  rw[List.drop_zero]at h
  simp only[Int.natCast_zero]at h
  by_cases hr:(m[i]'hi).all numF=true
  ·left
   rw[if_pos hr]at h
   refine⟨?_,by grind⟩
   unfold stNu1
   simp -implicitDefEqProofs[l560_1,hi,hws,h]
  ·right
   rw[if_neg hr]at h
   rw[if_neg (by grind)]
   unfold stNu1
   constructor<;>simp -implicitDefEqProofs[l560_1,hi,h]
 ·have e:numM []=true:=rfl
  simp only[List.drop_length,e,if_true]
  unfold stNu1
  constructor<;>simp -implicitDefEqProofs[l560_1]
theorem ze1(m:List (List Fz))(hl:m.length≤1000)(hw:∀r∈m,r.length≤1000∧∀x∈r,fsz x≤1000):callF T 560 [.sl (matF m) .an]=some (.b (numM m)):=by
 have h:=zwg (T:=T) m hl hw
 unfold stNu1 at h
 rw[List.drop_zero]at h
 simp only[Int.natCast_zero]at h
 rw[f560 _ rfl,b560]
 cases hn:numM m with
 | true=>rw[hn]at h;simp at h;simp -implicitDefEqProofs[h]
 | false=>rw[hn]at h;simp at h;simp -implicitDefEqProofs[h]
def stShp(a:List (List Fz))(i:Nat):St:=⟨[(43,.sl (matF a) .an),(44,.i .i64 a.length),(45,.i .i64 i)],[],2⟩
theorem zsc(a:List (List Fz))(hl:a.length≤1000) :
  loopN T 0 0 (.norm false []) l559_0 (stShp a 0)=if shapeL (a.drop 0) 0=true then some (.n,⟨[],[],2⟩) else some (.r,⟨[(2,.b false)],[],2⟩):=by
 refine zax (stShp a) a.length (fun i=>if shapeL (a.drop i) i=true then some (.n,⟨[],[],2⟩) else some (.r,⟨[(2,.b false)],[],2⟩)) (fun i hi=>?_) ?_
 ·have hws:=za5 hi (by omega)
  have key:shapeL (a.drop i) i=(decide ((a[i]'hi).length=i)&&shapeL (a.drop (i+1)) (i+1)):=by rw[List.drop_eq_getElem_cons hi,shapeL]
  by_cases hr:(a[i]'hi).length=i
  ·left
   refine⟨?_,by grind⟩
   unfold stShp
   simp -implicitDefEqProofs[l559_0,hi,hws,hr]
  ·right
   have hr':¬ ((a[i]'hi).length:Int)=i:=by omega
   rw[if_neg (by grind)]
   unfold stShp
   constructor<;>simp -implicitDefEqProofs[l559_0,hi,hr']
 ·have e:shapeL [] a.length=true:=rfl
  simp only[List.drop_length,e,if_true]
  unfold stShp
  constructor<;>simp -implicitDefEqProofs[l559_0]
theorem zne(s:Sm)(hs:SmS s):callF T 559 [esm s]=some (.b (shapeS s)):=by
 have h:=zsc (T:=T) s.a hs.al
 unfold stShp at h
 rw[List.drop_zero]at h
 have l4:=hs.el
 rw[f559 _ rfl,b559]
 unfold shapeS
 obtain⟨nm,c,a,b,e⟩:=s
 by_cases p1:b.length<1
 ·have q2:b=[]:=List.length_eq_zero_iff.1 (by omega)
  subst q2
  simp -implicitDefEqProofs[]
 have p1':1≤b.length:=by omega
 have m2:¬ (b.length:Int)<1:=by omega
 by_cases p2:8<b.length
 ·have q2:¬ b.length≤8:=by omega
  have m3:(8:Int)<b.length:=by omega
  simp -implicitDefEqProofs[p1',q2,m2,m3]
 have p2':b.length≤8:=by omega
 have m3:¬ (8:Int)<b.length:=by omega
 by_cases p3:c.length=b.length
 rotate_left
 ·have q3:¬ (c.length:Int)=b.length:=by omega
  simp -implicitDefEqProofs[p1',p2',m2,m3,p3,q3]
 by_cases p4:a.length=b.length
 rotate_left
 ·have q4:¬ (a.length:Int)=b.length:=by omega
  simp -implicitDefEqProofs[p1',p2',m2,m3,p3,p4,q4]
 rw[p4]at h
 by_cases p5:e.length=b.length
 ·cases hsh:shapeL a 0<;>rw[hsh]at h<;>simp at h<;>simp -implicitDefEqProofs[p1',p2',m2,m3,p3,p4,p5,h]
 have q5:¬ (e.length:Int)=b.length:=by omega
 by_cases p6:e.length=0
 ·have e0:e=[]:=List.length_eq_zero_iff.1 p6
  have q7:¬ (0:Int)=b.length:=by omega
  have q8:¬ 0=b.length:=by omega
  subst e0
  cases hsh:shapeL a 0<;>rw[hsh]at h<;>simp at h<;>simp -implicitDefEqProofs[p1',p2',m2,m3,p3,p4,q7,q8,h]
 ·have q7:¬ e=[]:=fun h=>p6 (by grind)
  simp -implicitDefEqProofs[p1',p2',m2,m3,p3,p4,p5,q5,p6]
def bxS(s:Sm):Box:=⟨1,.str,5,[[.s s.nm,.sl (rowF s.c) .an,.sl (matF s.a) .an,.sl (rowF s.b) .an,.sl (rowF s.e) .an]]⟩
def stRw(s:Sm)(i:Nat):St:=⟨[(1,.ptr (.loc 1) 1 5 0 0),(6,.sl (matF s.a) .an),(7,.i .i64 s.a.length),(8,.i .i64 i)],[(.loc 1,bxS s)],3⟩
theorem zwh(s:Sm)(hl:s.a.length≤8)(hc:s.c.length=s.a.length)(h1:∀r∈s.a,r.length≤8∧∀x∈r,fsz x≤6)(h2:∀x∈s.c,fsz x≤6) :
  loopN T 0 0 (.norm false []) l561_0 (stRw s 0)=if rowsSm (s.a.drop 0) (s.c.drop 0)=true then some (.n,⟨[],[],2⟩) else some (.r,⟨[(2,.b false)],[],2⟩):=by
 refine zax (stRw s) s.a.length (fun i=>if rowsSm (s.a.drop i) (s.c.drop i)=true then some (.n,⟨[],[],2⟩) else some (.r,⟨[(2,.b false)],[],2⟩)) (fun i hi=>?_) ?_
 ·have hic:i<s.c.length:=by omega
  have hws:=za5 hi (by omega)
  obtain⟨g1,g2⟩:=h1 _ (List.getElem_mem hi)
  have g3:=h2 _ (List.getElem_mem hic)
  have c1:=zgh (T:=T) (s.a[i]'hi) g2 (by decide) (by omega)
  have z1:=zk5 g2 (by decide) (s.a[i]'hi).length (Nat.le_refl _)
  rw[List.take_of_length_le (Nat.le_refl _)]at z1
  have c2:=zfq (T:=T) (fz (sumF (s.a[i]'hi))) (s.c[i]'hic) (by rw[zas];omega) (by omega)
  rw[zbt]at c2
  have key:rowsSm (s.a.drop i) (s.c.drop i)=(decide (sumF (s.a[i]'hi)=fv (s.c[i]'hic))&&rowsSm (s.a.drop (i+1)) (s.c.drop (i+1))):=by
   grind[rowsSm,List.drop_eq_getElem_cons,List.zip_cons_cons]
  have hic':(i:Int)<s.c.length:=by omega
  generalize fz (sumF (s.a[i]'hi))=z at *
  by_cases he:sumF (s.a[i]'hi)=fv (s.c[i]'hic)
  ·left
   refine⟨?_,by grind⟩
   unfold stRw bxS
   simp -implicitDefEqProofs[l561_0,hi,hws,c1,c2,he,hic,hic']
  ·right
   rw[if_neg (by grind)]
   unfold stRw bxS
   constructor<;>simp -implicitDefEqProofs[l561_0,hi,c1,c2,he,hic,hic']
 ·have e:rowsSm [] (s.c.drop s.a.length)=true:=rfl
  simp only[List.drop_length,e,if_true]
  unfold stRw bxS
  constructor<;>simp -implicitDefEqProofs[l561_0]
theorem zor(s:Sm)(hl:s.a.length≤8)(hc:s.c.length=s.a.length)(h1:∀r∈s.a,r.length≤8∧∀x∈r,fsz x≤6)(h2:∀x∈s.c,fsz x≤6):callF T 561 [esm s]=some (.b (rowsSm s.a s.c)):=by
 have h:=zwh (T:=T) s hl hc h1 h2
 unfold stRw bxS at h
 rw[List.drop_zero,List.drop_zero]at h
 rw[f561 _ rfl,b561]
 obtain⟨nm,c,a,b,e⟩:=s
 cases hr:rowsSm a c<;>rw[hr]at h<;>simp at h<;>simp -implicitDefEqProofs[h]
theorem zj5:∀(a:List (List Fz)) (i:Nat),shapeL a i=true→∀r∈a,r.length≤i+a.length
 | [],_,_,r,hr=>by grind
 | x::a,i,h,r,hr=>by
  simp only[shapeL,Bool.and_eq_true,decide_eq_true_eq]at h
  rcases List.mem_cons.1 hr with rfl | hr
  ·omega
  ·have:=zj5 a (i+1) h.2 r hr
   grind
theorem zj6{s:Sm}(h:shapeS s=true):1≤s.b.length∧s.b.length≤8∧s.c.length=s.b.length∧s.a.length=s.b.length∧(s.e.length=s.b.length∨s.e.length=0)∧shapeL s.a 0=true:=by
 grind[shapeS]
theorem zp6{m:List (List Fz)}(h:numM m=true):∀r∈m,∀x∈r,fsz x≤6:=by
 grind[numM,zwe]
theorem zp7{l:List Fz}(hl:l.length≤8)(hw:∀x∈l,fsz x≤6):sz (sumF l)≤57:=by
 have:=zk5 hw (by decide) l.length (Nat.le_refl _)
 grind
end
section
variable{T:Tbl}[CLimb T][CNat T][CProd T][CTwos T][CQuot T][CQuotD T][CWhole T][CCommon T][CFrac T][CFrac3 T][CFrac5 T][CPow T][CTape T][CGauge T][CEval T][CRun T][CIfc T][CJoin T][CLex T][CScheme T]
theorem znf(s:Sm)(hs:SmS s):callF T 551 [esm s]=some (.i .i64 (wrongS s)):=by
 have o1:=zpt (T:=T)
 have c1:=zu8 (T:=T) 2 0 s.nm (Nat.le_trans hs.nm (by decide))
 have c2:=zne (T:=T) s hs
 have c3:=ze1 (T:=T) s.a hs.al (fun r hr=>⟨(hs.a r hr).1,fun x hx=>Nat.le_trans ((hs.a r hr).2 x hx) (by decide)⟩)
 have c4:=ze1 (T:=T) [s.b,s.c,s.e] (by simp) (fun r hr=>by
  simp only[List.mem_cons,List.not_mem_nil,or_false]at hr
  rcases hr with rfl | rfl | rfl
  ·exact⟨hs.bl,fun x hx=>Nat.le_trans (hs.b x hx) (by decide)⟩
  ·exact⟨hs.cl,fun x hx=>Nat.le_trans (hs.c x hx) (by decide)⟩
  ·exact⟨hs.el,fun x hx=>Nat.le_trans (hs.e x hx) (by decide)⟩)
 replace c4:callF T 560 [.sl [[.sl (rowF s.b) .an],[.sl (rowF s.c) .an],[.sl (rowF s.e) .an]] .an]=some (.b (numM [s.b,s.c,s.e])):=c4
 have k5:=zor (T:=T) s
 have k6:=fun(hl:s.b.length≤8) (h:∀x∈s.b,fsz x≤6)=>zgh (T:=T) s.b h (by decide) (by omega)
 have k7:=fun(hl:s.e.length≤8) (h:∀x∈s.e,fsz x≤6)=>zgh (T:=T) s.e h (by decide) (by omega)
 rw[f551 _ rfl,b551]
 unfold wrongS
 cases g1:rightB 2 s.nm with
 | false=>
  rw[g1]at c1
  obtain⟨nm,c,a,b,e⟩:=s
  generalize fz 1=z1 at *
  dsimp only at *
  simp -implicitDefEqProofs[o1,c1]
 | true=>
 rw[g1]at c1
 cases g2:shapeS s with
 | false=>
  rw[g2]at c2
  obtain⟨nm,c,a,b,e⟩:=s
  generalize fz 1=z1 at *
  dsimp only at *
  simp -implicitDefEqProofs[o1,c1,c2]
 | true=>
 rw[g2]at c2
 obtain⟨s1,s2,s3,s4,s5,s6⟩:=zj6 g2
 cases g3:numM s.a with
 | false=>
  rw[g3]at c3
  obtain⟨nm,c,a,b,e⟩:=s
  simp -implicitDefEqProofs[o1,c1,c2,c3]
 | true=>
 rw[g3]at c3
 cases g4:numM [s.b,s.c,s.e]with
 | false=>
  rw[g4]at c4
  obtain⟨nm,c,a,b,e⟩:=s
  simp -implicitDefEqProofs[o1,c1,c2,c3,c4]
 | true=>
 rw[g4]at c4
 have n1:=zp6 g3
 have n2:=zp6 g4
 have nb:=n2 s.b (by simp)
 have nc:=n2 s.c (by simp)
 have ne:=n2 s.e (by simp)
 have c5:=k5 (by omega) (by omega) (fun r hr=>⟨by have:=zj5 _ _ s6 r hr;omega,n1 r hr⟩) nc
 have c6:=k6 (by omega) nb
 have c7:=k7 (by omega) ne
 have z6:=zp7 (l:=s.b) (by omega) nb
 have z7:=zp7 (l:=s.e) (by omega) ne
 have d6:=zfq (T:=T) (fz (sumF s.b)) (fz 1) (by rw[zas];omega) (by rw[zas,z06];omega)
 have d7:=zfq (T:=T) (fz (sumF s.e)) (fz 1) (by rw[zas];omega) (by rw[zas,z06];omega)
 rw[zbt,zbt]at d6 d7
 cases g5:rowsSm s.a s.c with
 | false=>
  rw[g5]at c5
  obtain⟨nm,c,a,b,e⟩:=s
  simp -implicitDefEqProofs[o1,c1,c2,c3,c4,c5]
 | true=>
 rw[g5]at c5
 obtain⟨nm,c,a,b,e⟩:=s
 generalize fz (sumF b)=zb at *
 generalize fz (sumF e)=ze at *
 by_cases g6:sumF b=1
 ·by_cases g7:e=[]
  ·subst g7
   replace c2:callF T 559 [.agg [.s nm,.sl (rowF c) .an,.sl (matF a) .an,.sl (rowF b) .an,.sl [] .an]]=_:=c2
   replace c4:callF T 560 [.sl [[.sl (rowF b) .an],[.sl (rowF c) .an],[.sl [] .an]] .an]=_:=c4
   replace c5:callF T 561 [.agg [.s nm,.sl (rowF c) .an,.sl (matF a) .an,.sl (rowF b) .an,.sl [] .an]]=_:=c5
   simp -implicitDefEqProofs[o1,c1,c2,c3,c4,c5,c6,d6,g6]
  ·have l7:0<e.length:=List.length_pos_iff.2 g7
   by_cases g8:sumF e=1
   ·simp -implicitDefEqProofs[o1,c1,c2,c3,c4,c5,c6,d6,g6,c7,d7,g7,g8,l7]
   ·simp -implicitDefEqProofs[o1,c1,c2,c3,c4,c5,c6,d6,g6,c7,d7,g7,g8,l7]
 ·simp -implicitDefEqProofs[o1,c1,c2,c3,c4,c5,c6,d6,g6]
theorem zgq(s:Sm)(hs:SmS s):callF T 536 [esm s]=some (.b (okS s)):=by
 have h:=znf (T:=T) s hs
 rw[f536 _ rfl,b536]
 unfold okS
 generalize wrongS s=w at *
 by_cases hw:w=0
 ·subst hw
  simp -implicitDefEqProofs[h]
 ·simp -implicitDefEqProofs[h,hw]
end
structure PbS (q:Pb):Prop where
 t:TpS q.t
 s:SmS q.s
 p:∀x∈q.p,fsz x≤1000
 pl:q.p.length≤1000
def slopeP(p:Pb)(t:Fz)(y:List Fz):List Rat×Nat×Nat:=fieldR (limN p.bits) p.t ⟨fv t,y.map fv,p.p.map fv⟩
section
variable{T:Tbl}[CLimb T][CNat T][CProd T][CTwos T][CQuot T][CQuotD T][CWhole T][CCommon T][CFrac T][CFrac3 T][CFrac5 T][CPow T][CTape T][CGauge T][CEval T][CRun T][CIfc T][CJoin T][CLex T][CScheme T][CStep T]
theorem zeu(p:Pb)(hp:PbS p):callF T 524 [epb p]=some (.b (okP p)):=by
 have c1:=zdm (T:=T) p.t hp.t.small
 have c2:=zgq (T:=T) p.s hp.s
 unfold okP
 rw[f524 _ rfl,b524]
 clear hp
 generalize okT p.t=A at *
 generalize okS p.s=B at *
 obtain⟨⟨code,outs,dim,par⟩,⟨nm,c,a,b,e⟩,pp,bits⟩:=p
 dsimp only at *
 cases A with
 | false=>simp -implicitDefEqProofs[c1]
 | true=>
 cases B with
 | false=>simp -implicitDefEqProofs[c1,c2]
 | true=>
  by_cases h:(pp.length:Int)=par
  ·simp -implicitDefEqProofs[c1,c2,h]
  ·simp -implicitDefEqProofs[c1,c2,h]
theorem z32(p:Pb)(t:Fz)(y:List Fz):callF T 563 [epb p,efz t,.sl (rowF y) .an]=some (ept ⟨t,y,p.p⟩):=by
 rw[f563 _ rfl,b563]
 obtain⟨⟨code,outs,dim,par⟩,⟨nm,c,a,b,e⟩,pp,bits⟩:=p
 obtain⟨t1,t2,t3⟩:=t
 simp -implicitDefEqProofs[]
end
theorem zz9{c:Rat}{acc:List Rat}{r:List Fz}{S b1 b2:Nat}(hc:sz c≤b1)(ha:∀q∈acc,sz q≤S)(hr:∀x∈r,fsz x≤b2)(hB:1≤b2):∀q∈mixP c acc r,sz q≤S+(b1+b2+1):=by
 intro q hq
 obtain⟨i,hi,rfl⟩:=List.getElem_of_mem hq
 simp only[mixP,List.length_zipWith]at hi
 simp only[mixP,List.getElem_zipWith]
 have h1:=ha _ (List.getElem_mem (show i<acc.length by omega))
 have h2:=zba (hr _ (List.getElem_mem (show i<r.length by omega))) hB
 have h3:=zei (acc[i]'(by omega)) (c*fv (r[i]'(by omega)))
 have h4:=zfw c (fv (r[i]'(by omega)))
 omega
theorem zqk{b1 b2:Nat}(h1:1≤b1)(h2:1≤b2):∀(p:List (Fz×List Fz)) (acc:List Rat) (S:Nat),(∀q∈acc,sz q≤S)→(∀q∈p,fsz q.1≤b1∧∀x∈q.2,fsz x≤b2)→∀q∈mixF p acc,sz q≤S+p.length*(b1+b2+1)
 | [],acc,S,ha,_=>by simpa[mixF]using ha
 | r::p,acc,S,ha,hw=>by
  intro q hq
  have hr:=hw r List.mem_cons_self
  have:=zqk h1 h2 p (mixP (fv r.1) acc r.2) (S+(b1+b2+1)) (zz9 (zba hr.1 h1) ha hr.2 h2) (fun r hr=>hw r (List.mem_cons_of_mem _ hr)) q hq
  rw[List.length_cons,Nat.succ_mul]
  omega
def mixQ(C:List Fz)(K:List (List Rat))(n:Nat):List Rat:=mixF (C.zip (K.map fzs)) (List.replicate n 0)
def towQ(h:Rat)(C:List Fz)(K:List (List Rat))(n:Nat):List Rat:=(mixQ C K n).map fun q=>h*q
def froQ(y:List Rat)(h:Rat)(C:List Fz)(K:List (List Rat)):List Rat:=addP y (fzs (towQ h C K y.length))
theorem z0a(c:Rat)(l:List Rat):scl c (fzs l)=fzs (l.map fun q=>c*q):=by
 unfold scl fzs
 rw[List.map_map,List.map_map]
 refine List.map_congr_left fun q _=>?_
 show fz (c*fv (fz q))=fz (c*q)
 rw[zbt]
structure KOk (n:Nat) (K:List (List Rat)):Prop where
 len:K.length≤3
 row:∀r∈K,r.length=n
 sz:∀r∈K,∀q∈r,Go.Ab.sz q≤129
theorem zql{C:List Fz}{K:List (List Rat)}{n:Nat}(hK:KOk n K):(mixQ C K n).length=n:=by
 unfold mixQ
 rw[zg0 _ _ fun q hq=>?_,List.length_replicate]
 obtain⟨r,hr,e⟩:=List.mem_map.1 (List.of_mem_zip hq).2
 rw[←e,zaj,List.length_replicate,hK.row r hr]
theorem zw2{C:List Fz}{K:List (List Rat)}{n:Nat}(hK:KOk n K)(hC:∀x∈C,fsz x≤20):∀q∈mixQ C K n,sz q≤451:=by
 intro q hq
 have:=zqk (b1:=20) (b2:=129) (by decide) (by decide) (C.zip (K.map fzs)) (List.replicate n 0) 1 (fun q hq=>by rw[(List.mem_replicate.1 hq).2,zgl];exact Nat.le_refl _) (fun q hq=>by
  obtain⟨h1,h2⟩:=List.of_mem_zip hq
  refine⟨hC _ h1,fun x hx=>?_⟩
  obtain⟨r,hr,e⟩:=List.mem_map.1 h2
  rw[←e]at hx
  obtain⟨v,hv,rfl⟩:=List.mem_map.1 hx
  exact hK.sz r hr v hv) q hq
 have hl:(C.zip (K.map fzs)).length≤3:=by
  rw[List.length_zip,List.length_map]
  have:=hK.len
  omega
 have:=Nat.mul_le_mul_right 150 hl
 omega
theorem zg4{h:Rat}{C:List Fz}{K:List (List Rat)}{n:Nat}(hK:KOk n K):(towQ h C K n).length=n:=by
 unfold towQ
 rw[List.length_map,zql hK]
theorem zox{h:Rat}{C:List Fz}{K:List (List Rat)}{n:Nat}(hK:KOk n K)(hC:∀x∈C,fsz x≤20)(hh:sz h≤20):∀q∈towQ h C K n,sz q≤471:=by
 intro q hq
 obtain⟨v,hv,rfl⟩:=List.mem_map.1 hq
 have h1:=zw2 hK hC v hv
 have h2:=zfw h v
 omega
theorem zg5{y:List Rat}{h:Rat}{C:List Fz}{K:List (List Rat)}(hK:KOk y.length K):(froQ y h C K).length=y.length:=by
 unfold froQ
 exact ze8 (by rw[zaj,zg4 hK])
theorem zoy{y:List Rat}{h:Rat}{C:List Fz}{K:List (List Rat)}(hK:KOk y.length K)(hC:∀x∈C,fsz x≤20)(hh:sz h≤20)(hy:∀q∈y,sz q≤400):∀q∈froQ y h C K,sz q≤900:=by
 intro q hq
 have:=zvz (S:=400) (B:=471) hy (fun x hx=>by
  obtain⟨v,hv,rfl⟩:=List.mem_map.1 hx
  exact zox hK hC hh v hv) (by decide) q hq
 omega
theorem zi1{lim:Nat}:∀{l:List Rat} {k:Nat},firstL lim l k=none→∀q∈l,sizQ q≤lim
 | [],_,_,q,hq=>by cases hq
 | x::l,k,h,q,hq=>by
  unfold firstL at h
  split at h
  ·cases h
  ·rcases List.mem_cons.1 hq with rfl | hq
   ·omega
   ·exact zi1 h q hq
theorem zoz{lim:Nat}(hlim:lim≤4096){l:List Rat}{k:Nat}(h:firstL lim l k=none):∀q∈l,sz q≤129:=fun q hq=>by
 have h1:=zi1 h q hq
 have:=zk4 (q:=q) (b:=lim) h1
 omega
section
variable{T:Tbl}[CLimb T][CNat T][CProd T][CTwos T][CQuot T][CQuotD T][CWhole T][CCommon T][CFrac T][CFrac3 T][CFrac5 T][CPow T][CTape T][CGauge T][CEval T]
def stGwS(F:List Fz)(L:Int)(i:Nat)(s p:Int):St:=⟨[(0,.ptr (.bor 0) 0 3 0 0),(1,.sl (rowF F) .an),(8,.sl (rowF F) .an),(9,.i .i64 F.length),(10,.i .i64 i)],[(.bor 0,bxG 0 s p L)],4⟩
theorem z85(F:List Fz)(L:Int)(i:Nat)(s p:Int)(x:Fz)(hi:i<F.length)(hl:F.length≤1000)(hg:F[i]? = some x)(hx:fsz x≤1000)(hf:(sizF x:Int)≤L) :
  evX (orc T) T 1 l413_0 (stGwS F L i s p)=some (.n,stGwS F L (i+1) (cntS s) (cntP p x)):=by
 have ht:=zf9 (T:=T) s p L x (Nat.le_trans hx (by decide))
 rw[decide_eq_true hf]at ht
 have hws:=za5 hi (by omega)
 have hge:=(List.getElem?_eq_some_iff.1 hg).2
 have hi':(i:Int)<F.length:=by omega
 generalize cntS s=s' at *
 generalize cntP p x=p' at *
 unfold stGwS
 simp -implicitDefEqProofs[l413_0,hi,hi',hg,hge,hws,ht]
theorem z24(F:List Fz)(L:Int)(i:Nat)(s p:Int)(x:Fz)(hi:i<F.length)(hl:F.length≤1000)(hg:F[i]? = some x)(hx:fsz x≤1000)(hf:¬ (sizF x:Int)≤L) :
  evX (orc T) T 1 l413_0 (stGwS F L i s p)=some (.r,⟨[(4,.i .i64 i),(5,.b false)],[(.bor 0,bxG 0 (cntS s) (cntP p x) L)],4⟩):=by
 have ht:=zf9 (T:=T) s p L x (Nat.le_trans hx (by decide))
 rw[decide_eq_false hf]at ht
 have hge:=(List.getElem?_eq_some_iff.1 hg).2
 have hi':(i:Int)<F.length:=by omega
 generalize cntS s=s' at *
 generalize cntP p x=p' at *
 unfold stGwS
 simp -implicitDefEqProofs[l413_0,hi,hi',hg,hge,ht]
theorem z25(F:List Fz)(L s p:Int):isEx (evX (orc T) T 1 l413_0 (stGwS F L F.length s p))=true ∧
  finX 1 0 (.norm false [1]) (evX (orc T) T 1 l413_0 (stGwS F L F.length s p))=some (.n,⟨[(1,.sl (rowF F) .an)],[(.bor 0,bxG 0 s p L)],4⟩):=by
 unfold stGwS
 constructor<;>simp -implicitDefEqProofs[l413_0]
theorem z26(i s p L:Int):finX 1 0 (.norm false [1]) (some (.r,(⟨[(4,.i .i64 i),(5,.b false)],[(.bor 0,bxG 0 s p L)],4⟩:St)))=some (.r,⟨[(4,.i .i64 i),(5,.b false)],[(.bor 0,bxG 0 s p L)],4⟩):=by
 simp -implicitDefEqProofs
theorem zyg(qs:List Rat)(L:Nat)(hl:qs.length≤1000)(hw:∀q∈qs,sz q≤1000)(s p:Int) :
  ∃r,(∃s' p':Int,(firstL L qs 0=none∧r=(Ex.n,(⟨[(1,.sl (rowF (fzs qs)) .an)],[(.bor 0,bxG 0 s' p' L)],4⟩:St)))∨(∃k:Nat,firstL L qs 0=some k∧r=(.r,⟨[(4,.i .i64 k),(5,.b false)],[(.bor 0,bxG 0 s' p' L)],4⟩))) ∧
   loopN T 1 0 (.norm false [1]) l413_0 (stGwS (fzs qs) L 0 s p)=some r:=by
 refine za1 (fun x:Nat×Int×Int=>stGwS (fzs qs) L x.1 x.2.1 x.2.2) (fun x=>x.1≤qs.length∧firstL L (qs.drop x.1) x.1=firstL L qs 0) (fun x=>qs.length-x.1) _ ?_ (0,s,p) ⟨Nat.zero_le _,rfl⟩
 rintro⟨i,s,p⟩ ⟨hi,hf⟩
 dsimp only at *
 have hfl:(fzs qs).length=qs.length:=zaj _
 by_cases hlt:i<qs.length
 ·have hd:qs.drop i=qs[i]::qs.drop (i+1):=List.drop_eq_getElem_cons hlt
  have hg:(fzs qs)[i]? = some (fz qs[i]):=by simp[fzs,hlt]
  have hs:fsz (fz qs[i])≤1000:=hw _ (List.getElem_mem hlt)
  rw[hd,firstL]at hf
  by_cases hb:L<sizQ qs[i]
  ·right
   rw[if_pos hb]at hf
   have e:=z24 (T:=T) (fzs qs) L i s p _ (by omega) (by omega) hg hs (by unfold sizQ at hb;omega)
   refine⟨_,⟨cntS s,cntP p (fz qs[i]),.inr ⟨i,hf.symm,rfl⟩⟩,by rw[e];rfl,by rw[e,z26]⟩
  ·left
   rw[if_neg hb]at hf
   exact⟨(i+1,cntS s,cntP p (fz qs[i])),⟨by dsimp only;omega,hf⟩,by dsimp only;omega,z85 (T:=T) (fzs qs) L i s p _ (by omega) (by omega) hg hs (by unfold sizQ at hb;omega)⟩
 ·right
  have:i=qs.length:=by omega
  subst this
  rw[List.drop_length,firstL]at hf
  have e:=z25 (T:=T) (fzs qs) L s p
  rw[hfl]at e
  exact⟨_,⟨s,p,.inl ⟨hf.symm,rfl⟩⟩,e⟩
theorem zro(qs:List Rat)(L:Nat)(hl:qs.length≤1000)(hw:∀q∈qs,sz q≤1000)(s p:Int) :
  ∃s' p':Int,callH T 413 [.ptr (.bor 0) 0 3 0 0,.sl (rowF (fzs qs)) .an] [(.bor 0,bxG 0 s p L)]=some (.tup [.i .i64 (match firstL L qs 0 with | some k=>(k:Int) | none=>(qs.length:Int)),.b (firstL L qs 0).isNone],[(.bor 0,bxG 0 s' p' L)]):=by
 obtain⟨r,⟨s',p',hr⟩,hloop⟩:=zyg (T:=T) qs L hl hw s p
 refine⟨s',p',?_⟩
 have hfl:(fzs qs).length=qs.length:=zaj _
 rw[f413 _ _ rfl,b413]
 unfold stGwS at hloop
 simp only[Int.natCast_zero]at hloop
 rcases hr with ⟨h,rfl⟩ | ⟨k,h,rfl⟩
 ·rw[h]
  rw[hfl]at hloop
  generalize fzs qs=F at *
  simp -implicitDefEqProofs[hloop,hfl]
 ·rw[h]
  rw[hfl]at hloop
  generalize fzs qs=F at *
  simp -implicitDefEqProofs[hloop,hfl]
end
abbrev mkS:AV:=.ptr (.bor 0) 0 23 0 0
def stpH(gy gk:Nat)(p:Pb)(t h:Fz)(y:List Fz)(s pk L:Int)(Ys Ks:List (List Rat))(nx er:List Fz):Heap:=
 [(.bor 0,⟨0,.str,23,[[.sl (rowI p.t.code) .an,.sl (ints p.t.outs) .an,.i .i64 p.t.dim,.i .i64 p.t.par,.s p.s.nm,.sl (rowF p.s.c) .an,.sl (matF p.s.a) .an,.sl (rowF p.s.b) .an,.sl (rowF p.s.e) .an,.sl (rowF p.p) .an,.i .i64 p.bits,
   .b t.1,.sl (u32s t.2.1) .an,.sl (u32s t.2.2) .an,.b h.1,.sl (u32s h.2.1) .an,.sl (u32s h.2.2) .an,.sl (rowF y) .an,.ptr (.bor 1) 1 3 0 0,.bs (.bor 2) gy 1 0 Ys.length,.bs (.bor 3) gk 1 0 Ks.length,.sl (rowF nx) .an,.sl (rowF er) .an]]⟩),
  (.bor 1,bxG 1 s pk L),(.bor 2,⟨gy,.own,1,matF (Ys.map fzs)⟩),(.bor 3,⟨gk,.sh,1,matF (Ks.map fzs)⟩)]
theorem zdl(K:List (List Rat)):List.take K.length (matF (K.map fzs))=matF (K.map fzs):=List.take_of_length_le (by simp[matF])
section
variable{T:Tbl}[CLimb T][CNat T][CProd T][CTwos T][CQuot T][CQuotD T][CWhole T][CCommon T][CFrac T][CFrac3 T][CFrac5 T][CPow T][CTape T][CGauge T][CEval T][CDigits T][CText T][CJoin T][CRow T][CStepD T]
theorem zir(p:Pb)(t h:Fz)(y:List Fz)(s pk L:Int)(Ys Ks:List (List Rat))(nx er:List Fz)(C:List Fz)(hl:C.length=Ks.length)(hK:KOk y.length Ks)(hC:∀x∈C,fsz x≤20)(hh:fsz h≤20)(hy:y.length≤300) :
  callH T 556 [mkS,.sl (rowF C) .an] (stpH 2 3 p t h y s pk L Ys Ks nx er)=some (.sl (rowF (fzs (towQ (fv h) C Ks y.length))) .an,stpH 2 3 p t h y s pk L Ys Ks nx er):=by
 have c1:=z3l (T:=T) C (Ks.map fzs) y.length (by rw[List.length_map];exact hl) hy (by rw[List.length_map];have:=hK.len;omega) (B:=129) (fun x hx=>Nat.le_trans (hC x hx) (by decide)) (fun r hr x hx=>by
  obtain⟨k,hk,rfl⟩:=List.mem_map.1 hr
  obtain⟨v,hv,rfl⟩:=List.mem_map.1 hx
  exact hK.sz k hk v hv) (by decide) (by
   rw[List.length_map]
   have:=Nat.mul_le_mul_right 259 hK.len
   omega) (fun r hr=>by
  obtain⟨k,hk,rfl⟩:=List.mem_map.1 hr
  rw[zaj,hK.row k hk])
 have c2:=zef (T:=T) h (by omega) (fzs (mixQ C Ks y.length)) (by rw[zaj,zql hK];omega) fun x hx=>by
  obtain⟨v,hv,rfl⟩:=List.mem_map.1 hx
  have:=zw2 hK hC v hv
  rw[zas];omega
 rw[z0a]at c2
 have ht:=zdl Ks
 have hkl:(Ks.map fzs).length=Ks.length:=List.length_map _
 have hcr:∀ys,callR (orc T) T 271 ys=callF T 271 (ys.map (wkIf false)):=fun ys=>zx0 CRow.h271
 unfold towQ
 unfold mixQ at *
 unfold stpH
 obtain⟨⟨code,outs,dim,par⟩,⟨nm,c,a,b,e⟩,pp,bits⟩:=p
 obtain⟨t0,t1,t2⟩:=t
 obtain⟨h0,h1,h2⟩:=h
 dsimp only at *
 generalize (mixF (C.zip (Ks.map fzs)) (List.replicate y.length 0))=M at *
 generalize Ks.map fzs=KF at *
 generalize Ys.map fzs=YF at *
 generalize fzs (M.map fun q=>fv (h0,h1,h2)*q)=R at *
 rw[f556 _ _ rfl,b556]
 simp -implicitDefEqProofs[c1,c2,ht,hcr,hkl,genAt]
end
section
variable{T:Tbl}[CLimb T][CNat T][CProd T][CTwos T][CQuot T][CQuotD T][CWhole T][CCommon T][CFrac T][CFrac3 T][CFrac5 T][CPow T][CTape T][CGauge T][CEval T][CDigits T][CText T][CJoin T][CRow T][CStepD T]
theorem zis(p:Pb)(t h:Fz)(y:List Fz)(s pk L:Int)(Ys Ks:List (List Rat))(nx er:List Fz)(C:List Fz)(hl:C.length=Ks.length)(hK:KOk y.length Ks)(hC:∀x∈C,fsz x≤20)(hh:fsz h≤20)(hy:y.length≤300)(hys:∀x∈y,fsz x≤400) :
  callH T 553 [mkS,.sl (rowF C) .an] (stpH 2 3 p t h y s pk L Ys Ks nx er)=some (.sl (rowF (fzs (froQ (y.map fv) (fv h) C Ks))) .an,stpH 2 3 p t h y s pk L Ys Ks nx er):=by
 have c1:=zir (T:=T) p t h y s pk L Ys Ks nx er C hl hK hC hh hy
 have hsh:sz (fv h)≤20:=zba hh (by decide)
 have c2:=zv4 (T:=T) y [fzs (towQ (fv h) C Ks y.length)] (by omega) (by simp) (B:=499) (fun x hx=>Nat.le_trans (hys x hx) (by decide)) (fun r hr x hx=>by
  rw[List.mem_singleton.1 hr]at hx
  obtain⟨v,hv,rfl⟩:=List.mem_map.1 hx
  have:=zox hK hC hsh v hv
  rw[zas];omega) (by decide) (by simp) (fun r hr=>by
  rw[List.mem_singleton.1 hr,zaj,zg4 hK])
 have e:froQ (y.map fv) (fv h) C Ks=addP (y.map fv) (fzs (towQ (fv h) C Ks y.length)):=by
  unfold froQ
  rw[List.length_map]
 rw[e]
 replace c2:callF T 267 [.sl [[.sl (rowF y) .an],[.sl (rowF (fzs (towQ (fv h) C Ks y.length))) .an]] .an]=some (.tup [.sl (rowF (fzs (addP (y.map fv) (fzs (towQ (fv h) C Ks y.length))))) .an,.b true]):=c2
 generalize fzs (addP (y.map fv) (fzs (towQ (fv h) C Ks y.length)))=R at *
 generalize fzs (towQ (fv h) C Ks y.length)=W at *
 unfold stpH at *
 obtain⟨⟨code,outs,dim,par⟩,⟨nm,c,a,b,e⟩,pp,bits⟩:=p
 obtain⟨t0,t1,t2⟩:=t
 obtain⟨h0,h1,h2⟩:=h
 dsimp only at *
 have wKF:=zar (Ks.map fzs)
 have wYF:=zar (Ys.map fzs)
 generalize matF (Ks.map fzs)=KF at *
 generalize matF (Ys.map fzs)=YF at *
 rw[f553 _ _ rfl,b553]
 simp -implicitDefEqProofs[c1,c2,genAt,wKF,wYF]
theorem zeh(p:Pb)(t h:Fz)(y:List Fz)(s pk:Int)(L:Nat)(Ys Ks:List (List Rat))(nx er:List Fz)(l:List Rat)(i:Int)(hl:l.length≤300)(hw:∀q∈l,sz q≤1000) :
  ∃s' p':Int,callH T 554 [mkS,.sl (rowF (fzs l)) .an,.i .i64 i] (stpH 2 3 p t h y s pk L Ys Ks nx er)=some (match firstL L l 0 with | some k=>fltA 6 0 i (300+(k:Int)) | none=>fltA 0 0 0 0,stpH 2 3 p t h y s' p' L Ys Ks nx er):=by
 obtain⟨s',p',c1⟩:=zro (T:=T) l L (by omega) hw s pk
 refine⟨s',p',?_⟩
 unfold stpH
 obtain⟨⟨code,outs,dim,par⟩,⟨nm,c,a,b,e⟩,pp,bits⟩:=p
 obtain⟨t0,t1,t2⟩:=t
 obtain⟨h0,h1,h2⟩:=h
 dsimp only at *
 have wKF:=zar (Ks.map fzs)
 have wYF:=zar (Ys.map fzs)
 generalize matF (Ks.map fzs)=KF at *
 generalize matF (Ys.map fzs)=YF at *
 cases hf:firstL L l 0 with
 | none=>
  rw[hf]at c1
  generalize fzs l=W at *
  dsimp only at c1 ⊢
  rw[f554 _ _ rfl,b554]
  simp -implicitDefEqProofs[c1,genAt,wKF,wYF]
 | some k=>
  have hk:k<l.length:=by
   have key:∀(l:List Rat) (j k:Nat),firstL L l j=some k→k<j+l.length:=by
    intro l
    induction l with
    | nil=>intro j k h;cases h
    | cons x l ih=>
     intro j k h
     unfold firstL at h
     rw[List.length_cons]
     split at h
     ·cases h;omega
     ·have:=ih _ _ h
      omega
   have:=key l 0 k hf
   omega
  rw[hf]at c1
  have hw:IntKind.wrap .i64 (300+(k:Int))=300+(k:Int):=zac _ (by omega)
  generalize fzs l=W at *
  dsimp only at c1 ⊢
  rw[f554 _ _ rfl,b554]
  simp -implicitDefEqProofs[c1,genAt,wKF,wYF,hw]
theorem zos(p:Pb)(t h:Fz)(i:Nat)(c:Fz)(hi:p.s.c[i]? = some c)(hc:fsz c≤300)(hh:fsz h≤100)(ht:fsz t≤1000) :
  callF T 564 [epb p,efz t,efz h,.i .i64 (i:Int)]=some (efz (fz (fv t+fv h*fv c))):=by
 have c1:=zgy (T:=T) h c (by omega) (by omega)
 have hs:=zfw (fv h) (fv c)
 have s1:=zba (x:=h) (L:=100) hh (by decide)
 have s2:=zba (x:=c) (L:=300) hc (by decide)
 have c2:=zdw (T:=T) t (fz (fv h*fv c)) ht (by rw[zas];omega)
 rw[zbt]at c2
 obtain⟨hlt,hge⟩:=List.getElem?_eq_some_iff.1 hi
 have hlt':¬ ((p.s.c.length:Int)≤(i:Int)):=by omega
 have hlt2:(i:Int)<(p.s.c.length:Int):=by omega
 obtain⟨⟨code,outs,dim,par⟩,⟨nm,cc,a,b,e⟩,pp,bits⟩:=p
 obtain⟨t0,t1,t2⟩:=t
 obtain⟨h0,h1,h2⟩:=h
 obtain⟨c0,c3,c4⟩:=c
 dsimp only at *
 generalize fz (fv (t0,t1,t2)+fv (h0,h1,h2)*fv (c0,c3,c4))=R at *
 generalize fz (fv (h0,h1,h2)*fv (c0,c3,c4))=R1 at *
 rw[f564 _ rfl,b564]
 simp -implicitDefEqProofs[c1,c2,hi,hge,hlt,hlt',hlt2]
end
def stgQ(p:Pb)(h:Rat)(y:List Rat)(i:Nat)(Ks:List (List Rat)):List Rat:=froQ y h ((p.s.a[i]?).getD []) Ks
def slpQ(p:Pb)(t h:Rat)(i:Nat)(x:List Rat):List Rat×Nat×Nat:=fieldR (limN p.bits) p.t ⟨t+h*fv ((p.s.c[i]?).getD (false,[],[])),x,p.p.map fv⟩
structure StS (p:Pb) (t h:Fz) (y:List Fz):Prop where
 pb:PbS p
 t:fsz t≤500
 h:fsz h≤20
 yl:y.length≤300
 y:∀x∈y,fsz x≤400
 c:∀x∈p.s.c,fsz x≤20
 a:∀r∈p.s.a,∀x∈r,fsz x≤20
 b:∀x∈p.s.b,fsz x≤20
 e:∀x∈p.s.e,fsz x≤20
section
variable{T:Tbl}[CLimb T][CNat T][CProd T][CTwos T][CQuot T][CQuotD T][CWhole T][CCommon T][CFrac T][CFrac3 T][CFrac5 T][CPow T][CTape T][CGauge T][CEval T][CRun T][CIfc T][CDigits T][CText T][CJoin T][CRow T][CLex T][CScheme T][CStep T][CStepD T]
theorem zit(p:Pb)(t h:Fz)(y:List Fz)(s pk:Int)(Ys Ks:List (List Rat))(nx er:List Fz)(i:Nat)(hS:StS p t h y)(hK:KOk y.length Ks)(A:List Fz)(hi:p.s.a[i]? = some A)(hA:A.length=Ks.length)(k:Nat)(hf:firstL (limN p.bits) (stgQ p (fv h) (y.map fv) i Ks) 0=some k) :
  ∃s' p':Int,callH T 552 [mkS,.i .i64 (i:Int)] (stpH 2 3 p t h y s pk (limN p.bits) Ys Ks nx er)=some (fltA 6 0 i (300+(k:Int)),stpH 2 3 p t h y s' p' (limN p.bits) Ys Ks nx er):=by
 have hAm:=List.mem_of_getElem? hi
 have c1:=zis (T:=T) p t h y s pk (limN p.bits) Ys Ks nx er A hA hK (hS.a A hAm) hS.h hS.yl hS.y
 have e:stgQ p (fv h) (y.map fv) i Ks=froQ (y.map fv) (fv h) A Ks:=by unfold stgQ;rw[hi];rfl
 rw[e]at hf
 have hKy:KOk (y.map fv).length Ks:=by rw[List.length_map];exact hK
 have hyl:=hS.yl
 obtain⟨s',p',c2⟩:=zeh (T:=T) p t h y s pk (limN p.bits) Ys Ks nx er (froQ (y.map fv) (fv h) A Ks) i (by rw[zg5 hKy,List.length_map];omega) fun q hq=>by
  have:=zoy hKy (hS.a A hAm) (zba hS.h (by decide)) (fun q hq=>by obtain⟨u,hu,rfl⟩:=List.mem_map.1 hq;exact zba (hS.y u hu) (by decide)) q hq
  omega
 rw[hf]at c2
 refine⟨s',p',?_⟩
 obtain⟨hlt,hge⟩:=List.getElem?_eq_some_iff.1 hi
 have hlt':(i:Int)<(p.s.a.length:Int):=by omega
 dsimp only at c2
 unfold stpH at *
 clear hS hK hKy hf e hAm
 generalize fzs (froQ (y.map fv) (fv h) A Ks)=R at *
 obtain⟨⟨code,outs,dim,par⟩,⟨nm,c,a,b,e⟩,pp,bits⟩:=p
 obtain⟨t0,t1,t2⟩:=t
 obtain⟨h0,h1,h2⟩:=h
 dsimp only at *
 have wKF:=zar (Ks.map fzs)
 have wYF:=zar (Ys.map fzs)
 generalize matF (Ks.map fzs)=KF at *
 generalize matF (Ys.map fzs)=YF at *
 rw[f552 _ _ rfl,b552]
 simp -implicitDefEqProofs[c1,c2,hi,hge,hlt,hlt',genAt,wKF,wYF]
theorem zi8(p:Pb)(t h:Fz)(y:List Fz)(s pk:Int)(Ys Ks:List (List Rat))(nx er:List Fz)(i:Nat)(hS:StS p t h y)(hK:KOk y.length Ks)(A:List Fz)(hi:p.s.a[i]? = some A)(hA:A.length=Ks.length)(hic:i<p.s.c.length)(hf:firstL (limN p.bits) (stgQ p (fv h) (y.map fv) i Ks) 0=none)(hYY:Ys.length+1≤4294967296) :
  ∃s' p':Int,callH T 552 [mkS,.i .i64 (i:Int)] (stpH 2 3 p t h y s pk (limN p.bits) Ys Ks nx er)=some (if (slpQ p (fv t) (fv h) i (stgQ p (fv h) (y.map fv) i Ks)).2.1=0 then
   (fltA 0 0 0 0,stpH 7 8 p t h y s' p' (limN p.bits) (Ys++[stgQ p (fv h) (y.map fv) i Ks]) (Ks++[(slpQ p (fv t) (fv h) i (stgQ p (fv h) (y.map fv) i Ks)).1]) nx er)
   else (fltA (slpQ p (fv t) (fv h) i (stgQ p (fv h) (y.map fv) i Ks)).2.1 0 i (slpQ p (fv t) (fv h) i (stgQ p (fv h) (y.map fv) i Ks)).2.2,stpH 2 3 p t h y s' p' (limN p.bits) Ys Ks nx er)):=by
 have hAm:=List.mem_of_getElem? hi
 have c1:=zis (T:=T) p t h y s pk (limN p.bits) Ys Ks nx er A hA hK (hS.a A hAm) hS.h hS.yl hS.y
 have e:stgQ p (fv h) (y.map fv) i Ks=froQ (y.map fv) (fv h) A Ks:=by unfold stgQ;rw[hi];rfl
 rw[e]at hf ⊢
 have hKy:KOk (y.map fv).length Ks:=by rw[List.length_map];exact hK
 have hyl:=hS.yl
 have hxl:(froQ (y.map fv) (fv h) A Ks).length=y.length:=by rw[zg5 hKy,List.length_map]
 obtain⟨s',p',c2⟩:=zeh (T:=T) p t h y s pk (limN p.bits) Ys Ks nx er (froQ (y.map fv) (fv h) A Ks) i (by omega) fun q hq=>by
  have:=zoy hKy (hS.a A hAm) (zba hS.h (by decide)) (fun q hq=>by obtain⟨u,hu,rfl⟩:=List.mem_map.1 hq;exact zba (hS.y u hu) (by decide)) q hq
  omega
 rw[hf]at c2
 refine⟨s',p',?_⟩
 have hxs:=zoz (ziq p.bits).2 hf
 obtain⟨c,hc⟩:∃c,p.s.c[i]? = some c:=⟨_,List.getElem?_eq_getElem hic⟩
 have hcm:=hS.c c (List.mem_of_getElem? hc)
 have s1:=zba hS.t (by decide)
 have s2:=zba hS.h (by decide)
 have s3:=zba hcm (by decide)
 have s4:=zfw (fv h) (fv c)
 have s5:=zei (fv t) (fv h*fv c)
 have hth:=hS.t
 have hhh:=hS.h
 have c3:=zos (T:=T) p t h i c hc (by omega) (by omega) (by omega)
 have c4:=z32 (T:=T) p (fz (fv t+fv h*fv c)) (fzs (froQ (y.map fv) (fv h) A Ks))
 have c5:=zwc (T:=T) p.t ⟨fz (fv t+fv h*fv c),fzs (froQ (y.map fv) (fv h) A Ks),p.p⟩ p.bits hS.pb.t ⟨by rw[zas];omega,fun u hu=>by
  obtain⟨v,hv,rfl⟩:=List.mem_map.1 hu
  have:=hxs v hv
  rw[zas];omega,hS.pb.p,by dsimp only;rw[zaj];omega,hS.pb.pl⟩
 have ev:(⟨fz (fv t+fv h*fv c),fzs (froQ (y.map fv) (fv h) A Ks),p.p⟩:PoF).v=⟨fv t+fv h*fv c,froQ (y.map fv) (fv h) A Ks,p.p.map fv⟩:=by
  unfold PoF.v
  dsimp only
  rw[zbt,zgp]
 rw[ev]at c5
 have es:slpQ p (fv t) (fv h) i (froQ (y.map fv) (fv h) A Ks)=fieldR (limN p.bits) p.t ⟨fv t+fv h*fv c,froQ (y.map fv) (fv h) A Ks,p.p.map fv⟩:=by
  unfold slpQ
  rw[hc]
  rfl
 rw[es]
 have h0:(fieldR (limN p.bits) p.t ⟨fv t+fv h*fv c,froQ (y.map fv) (fv h) A Ks,p.p.map fv⟩).2.1=0→(fieldR (limN p.bits) p.t ⟨fv t+fv h*fv c,froQ (y.map fv) (fv h) A Ks,p.p.map fv⟩).2.2=0:=fun hk=>by
  unfold fieldR at hk ⊢
  split
  ·rfl
  ·next hh=>rw[if_neg hh]at hk;exact absurd hk hh
 obtain⟨hlt,hge⟩:=List.getElem?_eq_some_iff.1 hi
 have hlt':(i:Int)<(p.s.a.length:Int):=by omega
 have hk3:=hK.len
 have hKl:Ks.length+1≤4294967296:=by omega
 dsimp only at c2 c3 c4
 have hsY:∀(Z:List (List Rat)) (r:List Rat),matF (Z.map fzs)++[[.sl (rowF (fzs r)) .an]]=matF ((Z++[r]).map fzs):=fun Z r=>by simp[matF]
 have sY:=hsY Ys (froQ (y.map fv) (fv h) A Ks)
 have sK:=hsY Ks (fieldR (limN p.bits) p.t ⟨fv t+fv h*fv c,froQ (y.map fv) (fv h) A Ks,p.p.map fv⟩).1
 have tY:=zdl Ys
 have tK:=zdl Ks
 have lY:(matF (Ys.map fzs)).length=Ys.length:=by simp[matF]
 have lK:(matF (Ks.map fzs)).length=Ks.length:=by simp[matF]
 have wY:wkL (matF ((Ys++[froQ (y.map fv) (fv h) A Ks]).map fzs))=matF ((Ys++[froQ (y.map fv) (fv h) A Ks]).map fzs):=zar _
 have wK:wkL (matF ((Ks++[(fieldR (limN p.bits) p.t ⟨fv t+fv h*fv c,froQ (y.map fv) (fv h) A Ks,p.p.map fv⟩).1]).map fzs))=matF ((Ks++[(fieldR (limN p.bits) p.t ⟨fv t+fv h*fv c,froQ (y.map fv) (fv h) A Ks,p.p.map fv⟩).1]).map fzs):=zar _
 have aY:(Ys++[froQ (y.map fv) (fv h) A Ks]).length=Ys.length+1:=by simp
 have aK:(Ks++[(fieldR (limN p.bits) p.t ⟨fv t+fv h*fv c,froQ (y.map fv) (fv h) A Ks,p.p.map fv⟩).1]).length=Ks.length+1:=by simp
 have hYl:Ys.length+1≤4294967296:=hYY
 unfold stpH at *
 clear hS hK hKy hf e hAm hxs hxl hsY ev es s1 s2 s3 s4 s5 hth hhh
 generalize fieldR (limN p.bits) p.t ⟨fv t+fv h*fv c,froQ (y.map fv) (fv h) A Ks,p.p.map fv⟩=V at *
 generalize froQ (y.map fv) (fv h) A Ks=X at *
 generalize fz (fv t+fv h*fv c)=TM at *
 obtain⟨V1,V2,V3⟩:=V
 dsimp only at *
 generalize matF ((Ks++[V1]).map fzs)=KF1 at *
 generalize matF ((Ys++[X]).map fzs)=YF1 at *
 have wKF:=zar (Ks.map fzs)
 have wYF:=zar (Ys.map fzs)
 generalize matF (Ks.map fzs)=KF at *
 generalize matF (Ys.map fzs)=YF at *
 generalize (Ks++[V1]).length=nk at *
 generalize (Ys++[X]).length=ny at *
 subst aY aK
 generalize fzs X=RX at *
 generalize fzs V1=RV at *
 obtain⟨⟨code,outs,dim,par⟩,⟨nm,cc,a,b,e⟩,pp,bits⟩:=p
 obtain⟨t0,t1,t2⟩:=t
 obtain⟨h0',h1,h2⟩:=h
 obtain⟨m0,m1,m2⟩:=TM
 dsimp only at *
 by_cases hv:V2=0
 ·have hv3:=h0 hv
  subst hv
  subst hv3
  rw[if_pos rfl]
  rw[f552 _ _ rfl,b552]
  simp -implicitDefEqProofs[c1,c2,c3,c4,c5,hi,hge,hlt,hlt',genAt,wKF,wYF,sY,sK,tY,tK,lY,lK,wY,wK,hKl,hYl]
 ·have hvI:¬ (V2:Int)=0:=by omega
  rw[if_neg hv]
  rw[f552 _ _ rfl,b552]
  simp -implicitDefEqProofs[c1,c2,c3,c4,c5,hi,hge,hlt,hlt',genAt,wKF,wYF,hv,hvI]
end
class CSchT (T:Tbl):Prop where
class CLaw30 (T:Tbl):Prop where
def sameM(a b:List (List Fz)):Bool:=(a.zip b).all fun p=>decide (p.1.map fv=p.2.map fv)
def sameS(a b:Sm):Bool:=decide (a.nm=b.nm)&&decide (a.a.length=b.a.length)&&decide (a.b.map fv=b.b.map fv)&&decide (a.c.map fv=b.c.map fv)&&decide (a.e.map fv=b.e.map fv)&&sameM a.a b.a
def eqM(a b:List (List Fz)):Bool:=(a.zip b).all fun p=>decide (p.1=p.2)
def eqS(a b:Sm):Bool:=decide (a.nm=b.nm)&&decide (a.a.length=b.a.length)&&decide (a.b=b.b)&&decide (a.c=b.c)&&decide (a.e=b.e)&&eqM a.a b.a
def nrmS(s:Sm):Sm:=⟨s.nm,nrm s.c,s.a.map nrm,nrm s.b,nrm s.e⟩
section
variable{T:Tbl}[CLimb T][CNat T][CProd T][CTwos T][CQuot T][CQuotD T][CText T][CWhole T][CCommon T][CFrac T][CJoin T][CRow T][CSchP T]
def stSmS(a b:Sm)(i:Nat):St:=⟨[(3,.ptr (.loc 3) 1 5 0 0),(46,.sl (matF a.a) .an),(47,.i .i64 a.a.length),(48,.i .i64 i)],[(.loc 3,bxS b)],3⟩
end
section
variable{T:Tbl}[CRef02 T][CRef04 T][CRef05 T][CRef07 T][CRef06 T][CRef08 T][CRef09 T][CRef11 T][CRef12 T][CSchT T][CLaw30 T]
def bxS2(g:Nat)(s:Sm):Box:=⟨g,.str,5,[[.s s.nm,.sl (rowF s.c) .an,.sl (matF s.a) .an,.sl (rowF s.b) .an,.sl (rowF s.e) .an]]⟩
def stEq(a b:Sm)(i:Nat):St:=⟨[(2,.ptr (.loc 2) 1 5 0 0),(3,.ptr (.loc 3) 2 5 0 0),(5,.i .i64 i)],[(.loc 2,bxS2 1 a),(.loc 3,bxS2 2 b)],4⟩
end
def subL(a b:List Fz):List Fz:=fzs (addR (a.map fv) (sclR ((-1:Int):Rat) (b.map fv)))
def gapS(s:Sm):List Fz:=if okS s=true∧s.e≠[] then subL s.b s.e else []
def endsS(s:Sm):Bool:=match s.b.getLast?,s.c.getLast?,s.a.getLast? with
 | some b,some c,some a=>decide (fv b=0)&&(decide (fv c=1)&&decide (a.map fv=(s.b.take (s.b.length-1)).map fv))
 | _,_,_=>false
structure OkSm (s:Sm):Prop where
 b1:1≤s.b.length
 b8:s.b.length≤8
 cl:s.c.length=s.b.length
 al:s.a.length=s.b.length
 el:s.e.length=s.b.length∨s.e.length=0
 sh:shapeL s.a 0=true
 na:numM s.a=true
 nb:s.b.all numF=true
 nc:s.c.all numF=true
 ne:s.e.all numF=true
theorem z9n(b c e:List Fz):numM [b,c,e]=(b.all numF&&c.all numF&&e.all numF):=by
 unfold numM
 simp only[List.all_cons,List.all_nil,Bool.and_true,Bool.and_assoc]
theorem zg2{s:Sm}(h:okS s=true):OkSm s∧wrongS s=0:=by
 unfold okS at h
 have hw:=of_decide_eq_true h
 refine⟨?_,hw⟩
 unfold wrongS at hw
 cases g1:rightB 2 s.nm with
 | false=>rw[g1]at hw;simp at hw
 | true=>
 cases g2:shapeS s with
 | false=>rw[g1,g2]at hw;simp at hw
 | true=>
 cases g3:numM s.a with
 | false=>rw[g1,g2,g3]at hw;simp at hw
 | true=>
 cases g4:numM [s.b,s.c,s.e]with
 | false=>rw[g1,g2,g3,g4]at hw;simp at hw
 | true=>
 obtain⟨s1,s2,s3,s4,s5,s6⟩:=zj6 g2
 rw[z9n]at g4
 simp only[Bool.and_eq_true]at g4
 exact⟨s1,s2,s3,s4,s5,s6,g3,g4.1.1,g4.1.2,g4.2⟩
theorem zeg{l:List Fz}(h:l.all numF=true):∀x∈l,fsz x≤6:=fun x hx=>zwe (List.all_eq_true.1 h x hx)
section
variable{T:Tbl}[CLimb T][CNat T][CProd T][CTwos T][CQuot T][CQuotD T][CText T][CWhole T][CCommon T][CFrac T][CFrac2 T][CFrac3 T][CFrac5 T][CPow T][CTape T][CGauge T][CEval T][CRun T][CIfc T][CJoin T][CRow T][CRow5 T][CLex T][CScheme T][CSchP T]
theorem zsb(s:Sm)(hs:SmS s):callF T 555 [esm s]=some (.sl (rowF (gapS s)) .an):=by
 have c1:=zgq (T:=T) s hs
 unfold gapS
 rw[f555 _ rfl,b555]
 cases hk:okS s with
 | false=>
  rw[hk]at c1
  rw[if_neg (by simp)]
  clear hs hk
  obtain⟨nm,c,a,b,e⟩:=s
  simp -implicitDefEqProofs[c1]
 | true=>
 rw[hk]at c1
 obtain⟨H,_⟩:=zg2 hk
 by_cases h0:s.e=[]
 ·rw[if_neg (fun h=>h.2 h0)]
  clear hs hk H
  obtain⟨nm,c,a,b,e⟩:=s
  dsimp only at *
  subst h0
  replace c1:callF T 536 [.agg [.s nm,.sl (rowF c) .an,.sl (matF a) .an,.sl (rowF b) .an,.sl [] .an]]=_:=c1
  simp -implicitDefEqProofs[c1]
 ·rw[if_pos ⟨rfl,h0⟩]
  have hel:s.e.length=s.b.length:=by
   rcases H.el with h | h
   ·exact h
   ·exact absurd (List.length_eq_zero_iff.1 h) h0
  have hb8:=H.b8
  have hpos:¬ (s.e.length:Int)=0:=by have:=List.length_pos_iff.2 h0;omega
  have c2:=zsa (T:=T) s.b s.e (by omega) hel (B:=6) (by decide) (by decide) (zeg H.nb) (zeg H.ne)
  have e1:fzs (addR (s.b.map fv) (sclR ((-1:Int):Rat) (s.e.map fv)))=subL s.b s.e:=rfl
  rw[e1]at c2
  generalize subL s.b s.e=G at *
  clear hs hk H e1
  obtain⟨nm,c,a,b,e⟩:=s
  dsimp only at *
  simp -implicitDefEqProofs[c1,c2,hpos,h0]
end
def stgsQ(p:Pb)(t h:Rat)(y:List Rat):Nat→Nat→List (List Rat)→List (List Rat)→(List (List Rat)×List (List Rat))×Nat×Nat×Nat
 | 0,_,Ys,Ks=>((Ys,Ks),0,0,0)
 | n+1,i,Ys,Ks=>
  match firstL (limN p.bits) (stgQ p h y i Ks) 0 with
  | some k=>((Ys,Ks),6,i,300+k)
  | none=>if (slpQ p t h i (stgQ p h y i Ks)).2.1=0 then stgsQ p t h y n (i+1) (Ys++[stgQ p h y i Ks]) (Ks++[(slpQ p t h i (stgQ p h y i Ks)).1])
   else ((Ys,Ks),(slpQ p t h i (stgQ p h y i Ks)).2.1,i,(slpQ p t h i (stgQ p h y i Ks)).2.2)
abbrev bxF0(g:Nat)(k s a b:Int):Box:=⟨g,.str,4,[[.i .i64 k,.i .i64 s,.i .i64 a,.i .i64 b]]⟩
abbrev bxSm(g:Nat)(s:Sm):Box:=⟨g,.str,5,[[.s s.nm,.sl (rowF s.c) .an,.sl (matF s.a) .an,.sl (rowF s.b) .an,.sl (rowF s.e) .an]]⟩
def stAl(gy gk:Nat)(p:Pb)(t h:Fz)(y:List Fz)(i:Nat)(Ys Ks:List (List Rat))(s pk:Int):St:=
 ⟨[(0,mkS),(2,.ptr (.loc 2) 9 4 0 0),(3,.ptr (.loc 3) 10 5 0 0),(15,.i .i64 p.s.b.length),(16,.i .i64 (i:Int))],
  stpH gy gk p t h y s pk (limN p.bits) Ys Ks [] []++[(.loc 2,bxF0 9 0 0 0 0),(.loc 3,bxSm 10 p.s)],12⟩
def enAl(gy gk:Nat)(p:Pb)(t h:Fz)(y:List Fz)(Ys Ks:List (List Rat))(s pk:Int)(k i a:Int):St:=
 ⟨[(2,.ptr (.loc 2) 9 4 0 0)],stpH gy gk p t h y s pk (limN p.bits) Ys Ks [] []++[(.loc 2,bxF0 9 k 0 i a)],11⟩
section
variable{T:Tbl}[CLimb T][CNat T][CProd T][CTwos T][CQuot T][CQuotD T][CWhole T][CCommon T][CFrac T][CFrac3 T][CFrac5 T][CPow T][CTape T][CGauge T][CEval T][CRun T][CIfc T][CDigits T][CText T][CJoin T][CRow T][CLex T][CScheme T][CStep T][CStepD T]
theorem zwi(gy gk:Nat)(hg:(gy=2∧gk=3)∨(gy=7∧gk=8))(p:Pb)(t h:Fz)(y:List Fz)(s pk s' p':Int)(i:Nat)(Ys Ks Y1 K1:List (List Rat))(hlt:i<p.s.b.length)(hbl:p.s.b.length≤100)
  (c1:callH T 552 [mkS,.i .i64 (i:Int)] (stpH 2 3 p t h y s pk (limN p.bits) Ys Ks [] [])=some (fltA 0 0 0 0,stpH 7 8 p t h y s' p' (limN p.bits) Y1 K1 [] [])) :
  evX (orc T) T 4 l537_0 (stAl gy gk p t h y i Ys Ks s pk)=some (.n,stAl 7 8 p t h y (i+1) Y1 K1 s' p'):=by
 have hlt':(i:Int)<(p.s.b.length:Int):=by omega
 have hws:=za5 hlt (by omega)
 have lY:(matF (Y1.map fzs)).length=Y1.length:=by simp[matF]
 have lK:(matF (K1.map fzs)).length=K1.length:=by simp[matF]
 unfold stAl stpH at *
 simp only[show rowF []=[] from rfl]at c1 ⊢
 obtain⟨⟨code,outs,dim,par⟩,⟨nm,cc,a,b,e⟩,pp,bits⟩:=p
 obtain⟨t0,t1,t2⟩:=t
 obtain⟨h0,h1,h2⟩:=h
 dsimp only at *
 have wKF:=zar (Ks.map fzs)
 have wYF:=zar (Ys.map fzs)
 generalize matF (Ks.map fzs)=KF at *
 generalize matF (Ys.map fzs)=YF at *
 have wKF1:=zar (K1.map fzs)
 have wYF1:=zar (Y1.map fzs)
 generalize matF (K1.map fzs)=KF1 at *
 generalize matF (Y1.map fzs)=YF1 at *
 rcases hg with ⟨rfl,rfl⟩ | ⟨rfl,rfl⟩
 all_goals simp -implicitDefEqProofs[l537_0,hlt,hlt',hws,c1,genAt,wKF,wYF,wKF1,wYF1]
theorem zp8(gy gk:Nat)(hg:(gy=2∧gk=3)∨(gy=7∧gk=8))(p:Pb)(t h:Fz)(y:List Fz)(s pk s' p':Int)(i:Nat)(Ys Ks:List (List Rat))(hlt:i<p.s.b.length)(hbl:p.s.b.length≤100)(k:Int)(a:Int)(hk:k≠0)
  (c1:callH T 552 [mkS,.i .i64 (i:Int)] (stpH 2 3 p t h y s pk (limN p.bits) Ys Ks [] [])=some (fltA k 0 i a,stpH 2 3 p t h y s' p' (limN p.bits) Ys Ks [] [])) :
  evX (orc T) T 4 l537_0 (stAl gy gk p t h y i Ys Ks s pk)=some (.r,enAl gy gk p t h y Ys Ks s' p' k i a):=by
 have hlt':(i:Int)<(p.s.b.length:Int):=by omega
 unfold stAl enAl stpH at *
 simp only[show rowF []=[] from rfl]at c1 ⊢
 obtain⟨⟨code,outs,dim,par⟩,⟨nm,cc,a1,b,e⟩,pp,bits⟩:=p
 obtain⟨t0,t1,t2⟩:=t
 obtain⟨h0,h1,h2⟩:=h
 dsimp only at *
 have wKF:=zar (Ks.map fzs)
 have wYF:=zar (Ys.map fzs)
 generalize matF (Ks.map fzs)=KF at *
 generalize matF (Ys.map fzs)=YF at *
 rcases hg with ⟨rfl,rfl⟩ | ⟨rfl,rfl⟩
 all_goals simp -implicitDefEqProofs[l537_0,hlt,hlt',hk,c1,genAt,wKF,wYF]
end
def errQ(p:Pb)(h:Rat)(y:List Rat)(Ks:List (List Rat)):List Rat:=if gapS p.s=[] then [] else towQ h (gapS p.s) Ks y.length
structure MdQ where
 Ys:List (List Rat)
 Ks:List (List Rat)
 nx:List Rat
 er:List Rat
def nilM:MdQ:=⟨[],[],[],[]⟩
def doQ(p:Pb)(t h:Rat)(y:List Rat):MdQ×Nat×Nat×Nat:=
 if (stgsQ p t h y p.s.b.length 0 [] []).2.1≠0 then (nilM,(stgsQ p t h y p.s.b.length 0 [] []).2) else
 match firstL (limN p.bits) (froQ y h p.s.b (stgsQ p t h y p.s.b.length 0 [] []).1.2) 0 with
 | some k=>(nilM,6,p.s.b.length,300+k)
 | none=>
  match firstL (limN p.bits) (errQ p h y (stgsQ p t h y p.s.b.length 0 [] []).1.2) 0 with
  | some k=>(nilM,6,p.s.b.length+1,300+k)
  | none=>(⟨(stgsQ p t h y p.s.b.length 0 [] []).1.1,(stgsQ p t h y p.s.b.length 0 [] []).1.2,froQ y h p.s.b (stgsQ p t h y p.s.b.length 0 [] []).1.2,errQ p h y (stgsQ p t h y p.s.b.length 0 [] []).1.2⟩,0,0,0)
theorem zkb:∀(l:List (List Fz)) (i j:Nat) (A:List Fz),shapeL l i=true→l[j]? = some A→A.length=i+j
 | [],_,_,_,_,h=>by cases h
 | r::l,i,j,A,hs,h=>by
  unfold shapeL at hs
  rw[Bool.and_eq_true,decide_eq_true_eq]at hs
  cases j with
  | zero=>cases h;omega
  | succ j=>
   have:=zkb l (i+1) j A hs.2 (by rw[List.getElem?_cons_succ]at h;exact h)
   omega
theorem zw3{p:Pb}{t h:Rat}{i:Nat}{x:List Rat}(hk:(slpQ p t h i x).2.1=0):(slpQ p t h i x).2.2=0∧((slpQ p t h i x).1.length=p.t.outs.length∧∀q∈(slpQ p t h i x).1,sz q≤129):=by
 unfold slpQ fieldR at hk ⊢
 split
 ·next h0=>
  have hlim:=(ziq p.bits).2
  refine⟨rfl,by unfold outsR;rw[List.length_map],fun q hq=>?_⟩
  obtain⟨o,_,rfl⟩:=List.mem_map.1 hq
  refine znc (by decide) ?_
  unfold tapeR
  split
  ·exact zoq hlim _ _ (by simp)
  ·simp
 ·next h0=>rw[if_neg h0]at hk;exact absurd hk h0
theorem zg6{p:Pb}{t h:Rat}{y:List Rat}(hn:p.t.outs.length=y.length)(hb:p.s.b.length≤3):∀(n i:Nat) (Ys Ks:List (List Rat)),i+n=p.s.b.length→Ys.length=i→Ks.length=i→KOk y.length Ks→(stgsQ p t h y n i Ys Ks).2.1=0 →
  (stgsQ p t h y n i Ys Ks).1.1.length=p.s.b.length∧(stgsQ p t h y n i Ys Ks).1.2.length=p.s.b.length∧KOk y.length (stgsQ p t h y n i Ys Ks).1.2∧(stgsQ p t h y n i Ys Ks).2.2=(0,0)
 | 0,i,Ys,Ks,hi,h1,h2,hK,_=>⟨by show Ys.length=_;omega,by show Ks.length=_;omega,hK,rfl⟩
 | n+1,i,Ys,Ks,hi,h1,h2,hK,hk=>by
  unfold stgsQ at hk ⊢
  split
  ·next k hf=>rw[hf]at hk;exact absurd hk (by simp)
  ·next hf=>
   rw[hf]at hk
   dsimp only at hk ⊢
   split
   ·next h0=>
    rw[if_pos h0]at hk
    obtain⟨_,s1,s2⟩:=zw3 h0
    refine zg6 hn hb n (i+1) _ _ (by omega) (by simp[h1]) (by simp[h2]) ⟨?_,fun r hr=>?_,fun r hr=>?_⟩ hk
    ·rw[List.length_append,List.length_singleton];omega
    ·rcases List.mem_append.1 hr with hr | hr
     ·exact hK.row r hr
     ·rw[List.mem_singleton.1 hr,s1,hn]
    ·rcases List.mem_append.1 hr with hr | hr
     ·exact hK.sz r hr
     ·rw[List.mem_singleton.1 hr];exact s2
   ·next h0=>
    rw[if_neg h0]at hk
    exact absurd hk h0
def enN(p:Pb)(t h:Fz)(y:List Fz)(Ys Ks:List (List Rat))(s pk:Int):Ex×St:=
 (.n,⟨[(0,mkS),(2,.ptr (.loc 2) 9 4 0 0),(3,.ptr (.loc 3) 10 5 0 0)],stpH 7 8 p t h y s pk (limN p.bits) Ys Ks [] []++[(.loc 2,bxF0 9 0 0 0 0),(.loc 3,bxSm 10 p.s)],12⟩)
section
variable{T:Tbl}[CLimb T][CNat T][CProd T][CTwos T][CQuot T][CQuotD T][CWhole T][CCommon T][CFrac T][CFrac2 T][CFrac3 T][CFrac5 T][CPow T][CTape T][CGauge T][CEval T][CRun T][CIfc T][CDigits T][CText T][CJoin T][CRow T][CRow5 T][CLex T][CScheme T][CSchP T][CStep T][CStepD T]
theorem z33(p:Pb)(t h:Fz)(y:List Fz)(s pk:Int)(Ys Ks:List (List Rat)) :
  isEx (evX (orc T) T 4 l537_0 (stAl 7 8 p t h y p.s.b.length Ys Ks s pk))=true∧finX 4 0 (.norm false [0,2,3]) (evX (orc T) T 4 l537_0 (stAl 7 8 p t h y p.s.b.length Ys Ks s pk))=some (enN p t h y Ys Ks s pk):=by
 unfold stAl enN stpH
 obtain⟨⟨code,outs,dim,par⟩,⟨nm,cc,a,b,e⟩,pp,bits⟩:=p
 obtain⟨t0,t1,t2⟩:=t
 obtain⟨h0,h1,h2⟩:=h
 dsimp only
 have wKF:=zar (Ks.map fzs)
 have wYF:=zar (Ys.map fzs)
 generalize matF (Ks.map fzs)=KF at *
 generalize matF (Ys.map fzs)=YF at *
 constructor<;>simp -implicitDefEqProofs[l537_0,genAt,wKF,wYF]
theorem zp9(st:St):finX 4 0 (.norm false [0,2,3]) (some (Ex.r,st))=some (Ex.r,st):=by
 simp -implicitDefEqProofs
theorem zzr(p:Pb)(t h:Fz)(y:List Fz)(hS:StS p t h y)(hok:okS p.s=true)(hn:p.t.outs.length=y.length)(hb:p.s.b.length≤3)(s pk:Int) :
  ∃r,(((stgsQ p (fv t) (fv h) (y.map fv) p.s.b.length 0 [] []).2.1=0∧∃s' p':Int,r=enN p t h y (stgsQ p (fv t) (fv h) (y.map fv) p.s.b.length 0 [] []).1.1 (stgsQ p (fv t) (fv h) (y.map fv) p.s.b.length 0 [] []).1.2 s' p') ∨
   ((stgsQ p (fv t) (fv h) (y.map fv) p.s.b.length 0 [] []).2.1≠0∧∃gy gk Ys Ks,∃s' p':Int,((gy=2∧gk=3)∨(gy=7∧gk=8))∧r=(.r,enAl gy gk p t h y Ys Ks s' p' (stgsQ p (fv t) (fv h) (y.map fv) p.s.b.length 0 [] []).2.1 (stgsQ p (fv t) (fv h) (y.map fv) p.s.b.length 0 [] []).2.2.1 (stgsQ p (fv t) (fv h) (y.map fv) p.s.b.length 0 [] []).2.2.2))) ∧
   loopN T 4 0 (.norm false [0,2,3]) l537_0 (stAl 2 3 p t h y 0 [] [] s pk)=some r:=by
 obtain⟨H,_⟩:=zg2 hok
 generalize hR:stgsQ p (fv t) (fv h) (y.map fv) p.s.b.length 0 [] []=R
 have hyl:(y.map fv).length=y.length:=List.length_map ..
 refine za1 (fun q:Nat×List (List Rat)×List (List Rat)×Int×Int=>stAl (if q.1=0 then 2 else 7) (if q.1=0 then 3 else 8) p t h y q.1 q.2.1 q.2.2.1 q.2.2.2.1 q.2.2.2.2)
  (fun q=>q.1≤p.s.b.length∧q.2.1.length=q.1∧q.2.2.1.length=q.1∧KOk y.length q.2.2.1∧stgsQ p (fv t) (fv h) (y.map fv) (p.s.b.length-q.1) q.1 q.2.1 q.2.2.1=R)
  (fun q=>p.s.b.length-q.1) _ ?_ (0,[],[],s,pk) ⟨Nat.zero_le _,rfl,rfl,⟨by simp,by simp,by simp⟩,hR⟩
 rintro⟨i,Ys,Ks,s,pk⟩ ⟨hi,hY,hK,hKO,hst⟩
 dsimp only at *
 have hg:((if i=0 then 2 else 7)=2∧(if i=0 then 3 else 8)=3)∨((if i=0 then 2 else 7)=7∧(if i=0 then 3 else 8)=8):=by
  by_cases h0:i=0
  ·left;simp[h0]
  ·right;simp[h0]
 by_cases hlt:i<p.s.b.length
 ·have hal:i<p.s.a.length:=by rw[H.al];exact hlt
  have hcl:i<p.s.c.length:=by rw[H.cl];exact hlt
  have hA:p.s.a[i]? = some (p.s.a[i]'hal):=List.getElem?_eq_getElem hal
  have hAl:(p.s.a[i]'hal).length=Ks.length:=by
   have:=zkb p.s.a 0 i _ H.sh hA
   omega
  obtain⟨n,hn1⟩:∃n,p.s.b.length-i=n+1:=⟨p.s.b.length-i-1,by omega⟩
  rw[hn1]at hst
  unfold stgsQ at hst
  cases hf:firstL (limN p.bits) (stgQ p (fv h) (y.map fv) i Ks) 0 with
  | some k=>
   right
   rw[hf]at hst
   dsimp only at hst
   obtain⟨s',p',c1⟩:=zit (T:=T) p t h y s pk Ys Ks [] [] i hS hKO _ hA hAl k hf
   have e:=zp8 (T:=T) _ _ hg p t h y s pk s' p' i Ys Ks hlt (by omega) 6 _ (by decide) c1
   refine⟨_,.inr ⟨by rw[←hst];simp,(if i=0 then 2 else 7),(if i=0 then 3 else 8),Ys,Ks,s',p',hg,rfl⟩,by rw[e];rfl,?_⟩
   rw[e,zp9,←hst]
   rfl
  | none=>
   rw[hf]at hst
   dsimp only at hst
   obtain⟨s',p',c1⟩:=zi8 (T:=T) p t h y s pk Ys Ks [] [] i hS hKO _ hA hAl hcl hf (by omega)
   by_cases h0:(slpQ p (fv t) (fv h) i (stgQ p (fv h) (y.map fv) i Ks)).2.1=0
   ·left
    rw[if_pos h0]at hst c1
    obtain⟨_,s1,s2⟩:=zw3 h0
    have e:=zwi (T:=T) _ _ hg p t h y s pk s' p' i Ys Ks _ _ hlt (by omega) c1
    refine⟨(i+1,Ys++[stgQ p (fv h) (y.map fv) i Ks],Ks++[(slpQ p (fv t) (fv h) i (stgQ p (fv h) (y.map fv) i Ks)).1],s',p'),⟨by dsimp only;omega,by simp[hY],by simp[hK],⟨by dsimp only;rw[List.length_append,List.length_singleton];omega,fun r hr=>?_,fun r hr=>?_⟩,?_⟩,by dsimp only;omega,?_⟩
    rotate_left 3
    ·rw[e]
     rfl
    ·rcases List.mem_append.1 hr with hr | hr
     ·exact hKO.row r hr
     ·rw[List.mem_singleton.1 hr,s1,hn]
    ·rcases List.mem_append.1 hr with hr | hr
     ·exact hKO.sz r hr
     ·rw[List.mem_singleton.1 hr];exact s2
    ·dsimp only
     rw[show p.s.b.length-(i+1)=n by omega]
     exact hst
   ·right
    rw[if_neg h0]at hst c1
    have e:=zp8 (T:=T) _ _ hg p t h y s pk s' p' i Ys Ks hlt (by omega) _ _ (by omega) c1
    refine⟨_,.inr ⟨by rw[←hst];exact h0,(if i=0 then 2 else 7),(if i=0 then 3 else 8),Ys,Ks,s',p',hg,rfl⟩,by rw[e];rfl,?_⟩
    rw[e,zp9,←hst]
 ·right
  have hil:i=p.s.b.length:=by omega
  subst hil
  rw[Nat.sub_self]at hst
  unfold stgsQ at hst
  have h1:=H.b1
  have hz:¬ p.s.b.length=0:=by omega
  rw[if_neg hz,if_neg hz]
  obtain⟨e1,e2⟩:=z33 (T:=T) p t h y s pk Ys Ks
  exact⟨_,.inl ⟨by rw[←hst],s,pk,by rw[←hst]⟩,e1,e2⟩
theorem zzs(p:Pb)(t h:Fz)(y:List Fz)(s pk s1 p1 s2 p2:Int)(Ys Ks:List (List Rat))(nx:List Rat)(a:Int)
  (hlo:loopN T 4 0 (.norm false [0,2,3]) l537_0 (stAl 2 3 p t h y 0 [] [] s pk)=some (enN p t h y Ys Ks s1 p1))
  (c2:callH T 553 [mkS,.sl (rowF p.s.b) .an] (stpH 2 3 p t h y s1 p1 (limN p.bits) Ys Ks [] [])=some (.sl (rowF (fzs nx)) .an,stpH 2 3 p t h y s1 p1 (limN p.bits) Ys Ks [] []))
  (c3:callH T 554 [mkS,.sl (rowF (fzs nx)) .an,.i .i64 p.s.b.length] (stpH 2 3 p t h y s1 p1 (limN p.bits) Ys Ks (fzs nx) [])=some (fltA 6 0 p.s.b.length a,stpH 2 3 p t h y s2 p2 (limN p.bits) Ys Ks (fzs nx) [])) :
  callH T 537 [mkS] (stpH 2 3 p t h y s pk (limN p.bits) [] [] [] [])=some (fltA 6 0 p.s.b.length a,stpH 7 8 p t h y s2 p2 (limN p.bits) Ys Ks (fzs nx) []):=by
 unfold stAl enN stpH at *
 obtain⟨⟨code,outs,dim,par⟩,⟨nm,cc,a1,b,e⟩,pp,bits⟩:=p
 obtain⟨t0,t1,t2⟩:=t
 obtain⟨h0,h1,h2⟩:=h
 dsimp only at *
 rw[show (((0:Nat):Int))=0 from rfl]at hlo
 simp only[List.cons_append,List.nil_append,List.map_nil,List.length_nil,show matF []=[] from rfl,show rowF []=[] from rfl]at hlo c2 c3 ⊢
 have wKF:=zar (Ks.map fzs)
 have wYF:=zar (Ys.map fzs)
 generalize matF (Ks.map fzs)=KF at *
 generalize matF (Ys.map fzs)=YF at *
 generalize fzs nx=N at *
 rw[f537 _ _ rfl,b537]
 simp -implicitDefEqProofs[hlo,c2,c3,genAt,wKF,wYF]
end
abbrev emd(m:MdQ):AV:=.agg [.sl (matF (m.Ys.map fzs)) .an,.sl (matF (m.Ks.map fzs)) .an,.sl (rowF (fzs m.nx)) .an,.sl (rowF (fzs m.er)) .an]
section
variable{T:Tbl}[CLimb T][CNat T][CProd T][CTwos T][CQuot T][CQuotD T][CWhole T][CCommon T][CFrac T][CFrac2 T][CFrac3 T][CFrac5 T][CPow T][CTape T][CGauge T][CEval T][CRun T][CIfc T][CDigits T][CText T][CJoin T][CRow T][CRow5 T][CLex T][CScheme T][CSchP T][CStep T][CStepD T]
theorem zot(p:Pb)(t h:Fz)(y:List Fz)(s pk s1 p1:Int)(gy gk:Nat)(hg:(gy=2∧gk=3)∨(gy=7∧gk=8))(Ys Ks:List (List Rat))(k i a:Int)
  (hlo:loopN T 4 0 (.norm false [0,2,3]) l537_0 (stAl 2 3 p t h y 0 [] [] s pk)=some (.r,enAl gy gk p t h y Ys Ks s1 p1 k i a)) :
  callH T 537 [mkS] (stpH 2 3 p t h y s pk (limN p.bits) [] [] [] [])=some (fltA k 0 i a,stpH gy gk p t h y s1 p1 (limN p.bits) Ys Ks [] []):=by
 unfold stAl enAl stpH at *
 obtain⟨⟨code,outs,dim,par⟩,⟨nm,cc,a1,b,e⟩,pp,bits⟩:=p
 obtain⟨t0,t1,t2⟩:=t
 obtain⟨h0,h1,h2⟩:=h
 dsimp only at *
 rw[show (((0:Nat):Int))=0 from rfl]at hlo
 simp only[List.cons_append,List.nil_append,List.map_nil,List.length_nil,show matF []=[] from rfl,show rowF []=[] from rfl]at hlo ⊢
 have wKF:=zar (Ks.map fzs)
 have wYF:=zar (Ys.map fzs)
 generalize matF (Ks.map fzs)=KF at *
 generalize matF (Ys.map fzs)=YF at *
 rw[f537 _ _ rfl,b537]
 rcases hg with ⟨rfl,rfl⟩ | ⟨rfl,rfl⟩
 all_goals simp -implicitDefEqProofs[hlo,genAt,wKF,wYF]
theorem zwj(p:Pb)(t h:Fz)(y:List Fz)(s pk s1 p1 s2 p2 s3 p3:Int)(Ys Ks:List (List Rat))(nx:List Rat)(hb:p.s.b.length≤100)
  (hlo:loopN T 4 0 (.norm false [0,2,3]) l537_0 (stAl 2 3 p t h y 0 [] [] s pk)=some (enN p t h y Ys Ks s1 p1))
  (c2:callH T 553 [mkS,.sl (rowF p.s.b) .an] (stpH 2 3 p t h y s1 p1 (limN p.bits) Ys Ks [] [])=some (.sl (rowF (fzs nx)) .an,stpH 2 3 p t h y s1 p1 (limN p.bits) Ys Ks [] []))
  (c3:callH T 554 [mkS,.sl (rowF (fzs nx)) .an,.i .i64 p.s.b.length] (stpH 2 3 p t h y s1 p1 (limN p.bits) Ys Ks (fzs nx) [])=some (fltA 0 0 0 0,stpH 2 3 p t h y s2 p2 (limN p.bits) Ys Ks (fzs nx) []))
  (c4:callF T 555 [esm p.s]=some (.sl [] .an))
  (c5:callH T 554 [mkS,.sl [] .an,.i .i64 ((p.s.b.length:Int)+1)] (stpH 2 3 p t h y s2 p2 (limN p.bits) Ys Ks (fzs nx) [])=some (fltA 0 0 0 0,stpH 2 3 p t h y s3 p3 (limN p.bits) Ys Ks (fzs nx) [])) :
  callH T 537 [mkS] (stpH 2 3 p t h y s pk (limN p.bits) [] [] [] [])=some (fltA 0 0 0 0,stpH 7 8 p t h y s3 p3 (limN p.bits) Ys Ks (fzs nx) []):=by
 have hw:IntKind.wrap .i64 ((p.s.b.length:Int)+1)=(p.s.b.length:Int)+1:=zac _ (by omega)
 unfold stAl enN stpH at *
 obtain⟨⟨code,outs,dim,par⟩,⟨nm,cc,a1,b,e⟩,pp,bits⟩:=p
 obtain⟨t0,t1,t2⟩:=t
 obtain⟨h0,h1,h2⟩:=h
 dsimp only at *
 rw[show (((0:Nat):Int))=0 from rfl]at hlo
 simp only[List.cons_append,List.nil_append,List.map_nil,List.length_nil,show matF []=[] from rfl,show rowF []=[] from rfl]at hlo c2 c3 c5 ⊢
 have wKF:=zar (Ks.map fzs)
 have wYF:=zar (Ys.map fzs)
 generalize matF (Ks.map fzs)=KF at *
 generalize matF (Ys.map fzs)=YF at *
 generalize fzs nx=N at *
 rw[f537 _ _ rfl,b537]
 simp -implicitDefEqProofs[hlo,c2,c3,c4,c5,hw,genAt,wKF,wYF]
theorem zwk(p:Pb)(t h:Fz)(y:List Fz)(s pk s1 p1 s2 p2 s3 p3:Int)(Ys Ks:List (List Rat))(nx er:List Rat)(gp:List Fz)(hb:p.s.b.length≤100)(k i a:Int)(hg:gp≠[])
  (hlo:loopN T 4 0 (.norm false [0,2,3]) l537_0 (stAl 2 3 p t h y 0 [] [] s pk)=some (enN p t h y Ys Ks s1 p1))
  (c2:callH T 553 [mkS,.sl (rowF p.s.b) .an] (stpH 2 3 p t h y s1 p1 (limN p.bits) Ys Ks [] [])=some (.sl (rowF (fzs nx)) .an,stpH 2 3 p t h y s1 p1 (limN p.bits) Ys Ks [] []))
  (c3:callH T 554 [mkS,.sl (rowF (fzs nx)) .an,.i .i64 p.s.b.length] (stpH 2 3 p t h y s1 p1 (limN p.bits) Ys Ks (fzs nx) [])=some (fltA 0 0 0 0,stpH 2 3 p t h y s2 p2 (limN p.bits) Ys Ks (fzs nx) []))
  (c4:callF T 555 [esm p.s]=some (.sl (rowF gp) .an))
  (c6:callH T 556 [mkS,.sl (rowF gp) .an] (stpH 2 3 p t h y s2 p2 (limN p.bits) Ys Ks (fzs nx) [])=some (.sl (rowF (fzs er)) .an,stpH 2 3 p t h y s2 p2 (limN p.bits) Ys Ks (fzs nx) []))
  (c5:callH T 554 [mkS,.sl (rowF (fzs er)) .an,.i .i64 ((p.s.b.length:Int)+1)] (stpH 2 3 p t h y s2 p2 (limN p.bits) Ys Ks (fzs nx) (fzs er))=some (fltA k 0 i a,stpH 2 3 p t h y s3 p3 (limN p.bits) Ys Ks (fzs nx) (fzs er))) :
  callH T 537 [mkS] (stpH 2 3 p t h y s pk (limN p.bits) [] [] [] [])=some (fltA k 0 i a,stpH 7 8 p t h y s3 p3 (limN p.bits) Ys Ks (fzs nx) (fzs er)):=by
 have hw:IntKind.wrap .i64 ((p.s.b.length:Int)+1)=(p.s.b.length:Int)+1:=zac _ (by omega)
 have hgl:0<gp.length:=List.length_pos_iff.2 hg
 have hgI:(0:Int)<(gp.length:Int):=by omega
 unfold stAl enN stpH at *
 obtain⟨⟨code,outs,dim,par⟩,⟨nm,cc,a1,b,e⟩,pp,bits⟩:=p
 obtain⟨t0,t1,t2⟩:=t
 obtain⟨h0,h1,h2⟩:=h
 dsimp only at *
 rw[show (((0:Nat):Int))=0 from rfl]at hlo
 simp only[List.cons_append,List.nil_append,List.map_nil,List.length_nil,show matF []=[] from rfl,show rowF []=[] from rfl]at hlo c2 c3 c5 c6 ⊢
 have wKF:=zar (Ks.map fzs)
 have wYF:=zar (Ys.map fzs)
 generalize matF (Ks.map fzs)=KF at *
 generalize matF (Ys.map fzs)=YF at *
 generalize fzs nx=N at *
 generalize fzs er=ER at *
 rw[f537 _ _ rfl,b537]
 simp -implicitDefEqProofs[hlo,c2,c3,c4,c5,c6,hw,hgl,hgI,hg,genAt,wKF,wYF]
theorem zzt(p:Pb)(t h:Fz)(y:List Fz)(hS:StS p t h y)(hok:okS p.s=true)(hn:p.t.outs.length=y.length)(hb:p.s.b.length≤3)(s pk:Int) :
  ∃gy gk Ys Ks nx er,∃s' p':Int,callH T 537 [mkS] (stpH 2 3 p t h y s pk (limN p.bits) [] [] [] [])=some (fltA (doQ p (fv t) (fv h) (y.map fv)).2.1 0 (doQ p (fv t) (fv h) (y.map fv)).2.2.1 (doQ p (fv t) (fv h) (y.map fv)).2.2.2,stpH gy gk p t h y s' p' (limN p.bits) Ys Ks nx er) ∧
   ((doQ p (fv t) (fv h) (y.map fv)).2.1=0→gy=7∧gk=8∧Ys=(doQ p (fv t) (fv h) (y.map fv)).1.Ys∧Ks=(doQ p (fv t) (fv h) (y.map fv)).1.Ks∧nx=fzs (doQ p (fv t) (fv h) (y.map fv)).1.nx∧er=fzs (doQ p (fv t) (fv h) (y.map fv)).1.er):=by
 obtain⟨H,_⟩:=zg2 hok
 have hyl:(y.map fv).length=y.length:=List.length_map ..
 obtain⟨r,hr,hlo⟩:=zzr (T:=T) p t h y hS hok hn hb s pk
 have hst:=zg6 (p:=p) (t:=fv t) (h:=fv h) (y:=y.map fv) (by rw[hyl];exact hn) hb p.s.b.length 0 [] [] (by omega) rfl rfl ⟨by simp,by simp,by simp⟩
 unfold doQ
 generalize stgsQ p (fv t) (fv h) (y.map fv) p.s.b.length 0 [] []=R at *
 rcases hr with ⟨h0,s1,p1,rfl⟩ | ⟨h0,gy,gk,Ys,Ks,s1,p1,hgk,rfl⟩
 ·rw[if_neg (by simpa using h0)]
  obtain⟨l1,l2,hKO,hz⟩:=hst h0
  rw[hyl]at hKO
  obtain⟨⟨Ys,Ks⟩,k,i,a⟩:=R
  dsimp only at *
  have hyy:∀q∈y.map fv,sz q≤400:=fun q hq=>by obtain⟨u,hu,rfl⟩:=List.mem_map.1 hq;exact zba (hS.y u hu) (by decide)
  have hsh:sz (fv h)≤20:=zba hS.h (by decide)
  have hKy:KOk (y.map fv).length Ks:=by rw[hyl];exact hKO
  have hyl3:=hS.yl
  have c2:=zis (T:=T) p t h y s1 p1 (limN p.bits) Ys Ks [] [] p.s.b (by rw[l2]) hKO hS.b hS.h hS.yl hS.y
  obtain⟨s2,p2,c3⟩:=zeh (T:=T) p t h y s1 p1 (limN p.bits) Ys Ks (fzs (froQ (y.map fv) (fv h) p.s.b Ks)) [] (froQ (y.map fv) (fv h) p.s.b Ks) p.s.b.length (by rw[zg5 hKy,hyl];exact hyl3) fun q hq=>by
   have:=zoy hKy hS.b hsh hyy q hq
   omega
  generalize hnx:froQ (y.map fv) (fv h) p.s.b Ks=nx at *
  cases hf:firstL (limN p.bits) nx 0 with
  | some k1=>
   rw[hf]at c3
   dsimp only at c3 ⊢
   exact⟨7,8,Ys,Ks,fzs nx,[],s2,p2,zzs (T:=T) p t h y s pk s1 p1 s2 p2 Ys Ks nx _ hlo c2 c3,fun hh=>absurd hh (by decide)⟩
  | none=>
   rw[hf]at c3
   dsimp only at c3 ⊢
   have c4:=zsb (T:=T) p.s hS.pb.s
   unfold errQ
   by_cases hg:gapS p.s=[]
   ·rw[if_pos hg]
    rw[hg]at c4
    obtain⟨s3,p3,c5⟩:=zeh (T:=T) p t h y s2 p2 (limN p.bits) Ys Ks (fzs nx) [] [] ((p.s.b.length:Int)+1) (by simp) (by simp)
    refine⟨7,8,Ys,Ks,fzs nx,[],s3,p3,zwj (T:=T) p t h y s pk s1 p1 s2 p2 s3 p3 Ys Ks nx (by omega) hlo c2 c3 c4 c5,fun _=>⟨rfl,rfl,rfl,rfl,rfl,rfl⟩⟩
   ·rw[if_neg hg]
    have hgl:(gapS p.s).length=p.s.b.length∧∀x∈gapS p.s,fsz x≤20:=by
     unfold gapS at hg ⊢
     split
     ·next hh=>
      have hel:p.s.e.length=p.s.b.length:=by
       rcases H.el with h | h
       ·exact h
       ·exact absurd (List.eq_nil_of_length_eq_zero h) hh.2
      have nb:=zeg H.nb
      have ne:=zeg H.ne
      refine⟨?_,fun x hx=>?_⟩
      ·unfold subL addR sclR fzs
       simp[hel]
      ·obtain⟨v,hv,rfl⟩:=List.mem_map.1 hx
       have:=z4f (A:=6) (B:=7) (fun q hq=>by obtain⟨u,hu,rfl⟩:=List.mem_map.1 hq;exact zba (nb u hu) (by decide)) (zw1 (C:=1) (B:=6) (zm5 (by decide) (by decide)) fun q hq=>by obtain⟨u,hu,rfl⟩:=List.mem_map.1 hq;exact zba (ne u hu) (by decide)) v hv
       rw[zas];omega
     ·next hh=>rw[if_neg hh]at hg;exact absurd rfl hg
    have c6:=zir (T:=T) p t h y s2 p2 (limN p.bits) Ys Ks (fzs nx) [] (gapS p.s) (by rw[hgl.1,l2]) hKO hgl.2 hS.h hS.yl
    obtain⟨s3,p3,c5⟩:=zeh (T:=T) p t h y s2 p2 (limN p.bits) Ys Ks (fzs nx) (fzs (towQ (fv h) (gapS p.s) Ks y.length)) (towQ (fv h) (gapS p.s) Ks y.length) ((p.s.b.length:Int)+1) (by rw[zg4 hKO];exact hyl3) fun q hq=>by
     have:=zox hKO hgl.2 hsh q hq
     omega
    rw[hyl]
    generalize towQ (fv h) (gapS p.s) Ks y.length=er at *
    cases hf2:firstL (limN p.bits) er 0 with
    | some k1=>
     rw[hf2]at c5
     dsimp only at c5 ⊢
     refine⟨7,8,Ys,Ks,fzs nx,fzs er,s3,p3,?_,fun hh=>absurd hh (by decide)⟩
     exact zwk (T:=T) p t h y s pk s1 p1 s2 p2 s3 p3 Ys Ks nx er (gapS p.s) (by omega) _ _ _ hg hlo c2 c3 c4 c6 c5
    | none=>
     rw[hf2]at c5
     dsimp only at c5 ⊢
     refine⟨7,8,Ys,Ks,fzs nx,fzs er,s3,p3,zwk (T:=T) p t h y s pk s1 p1 s2 p2 s3 p3 Ys Ks nx er (gapS p.s) (by omega) _ _ _ hg hlo c2 c3 c4 c6 c5,fun _=>⟨rfl,rfl,rfl,rfl,rfl,rfl⟩⟩
 ·rw[if_pos h0]
  exact⟨gy,gk,Ys,Ks,[],[],s1,p1,zot (T:=T) p t h y s pk s1 p1 gy gk hgk Ys Ks _ _ _ hlo,fun hh=>absurd hh h0⟩
end
section
variable{T:Tbl}[CLimb T][CNat T][CProd T][CTwos T][CQuot T][CQuotD T][CWhole T][CCommon T][CFrac T][CFrac2 T][CFrac3 T][CFrac5 T][CPow T][CTape T][CGauge T][CEval T][CRun T][CIfc T][CDigits T][CText T][CJoin T][CRow T][CRow5 T][CLex T][CScheme T][CSchP T][CStep T][CStepD T]
theorem zwl(p:Pb)(t h:Fz)(y:List Fz)(hS:StS p t h y)(hk:okP p=true)(hy:(y.length:Int)=p.t.dim)(hb:p.s.b.length≤3) :
  callF T 526 [epb p,efz t,efz h,.sl (rowF y) .an]=some (.tup [emd (doQ p (fv t) (fv h) (y.map fv)).1,fltA (doQ p (fv t) (fv h) (y.map fv)).2.1 0 (doQ p (fv t) (fv h) (y.map fv)).2.2.1 (doQ p (fv t) (fv h) (y.map fv)).2.2.2]):=by
 have c0:=zeu (T:=T) p hS.pb
 rw[hk]at c0
 unfold okP at hk
 simp only[Bool.and_eq_true,decide_eq_true_eq]at hk
 obtain⟨⟨hokT,hokS⟩,_⟩:=hk
 have hO:=(zcr p.t).1 hokT
 have hn:p.t.outs.length=y.length:=by have:=hO.ol;omega
 have c1:=zmu (T:=T) p.bits
 rw[(ziq p.bits).1]at c1
 obtain⟨gy,gk,Ys,Ks,nx,er,s',p',c2,hE⟩:=zzt (T:=T) p t h y hS hokS hn hb 0 0
 have hz:(doQ p (fv t) (fv h) (y.map fv)).2.1≠0→(doQ p (fv t) (fv h) (y.map fv)).1=nilM:=by
  unfold doQ
  split
  ·intro _;rfl
  ·split
   ·intro _;rfl
   ·split
    ·intro _;rfl
    ·intro h;exact absurd rfl h
 have hz2:(doQ p (fv t) (fv h) (y.map fv)).2.1=0→(doQ p (fv t) (fv h) (y.map fv)).2.2=(0,0):=by
  unfold doQ
  split
  ·next h0=>intro h;exact absurd h h0
  ·split
   ·intro h;exact absurd h (by simp)
   ·split
    ·intro h;exact absurd h (by simp)
    ·intro _;rfl
 generalize doQ p (fv t) (fv h) (y.map fv)=D at *
 obtain⟨M,k,i,a⟩:=D
 dsimp only at *
 clear hS hokT hokS hO hn hb
 unfold stpH at c2
 simp only[List.map_nil,List.length_nil,show matF []=[] from rfl,show rowF []=[] from rfl,Int.natCast_zero]at c2
 by_cases h0:k=0
 ·obtain⟨rfl,rfl,rfl,rfl,rfl,rfl⟩:=hE h0
  have h00:=hz2 h0
  subst h0
  cases h00
  obtain⟨Y,K,n,e⟩:=M
  dsimp only at *
  have wY:=zar (Y.map fzs)
  have wK:=zar (K.map fzs)
  have tY:=zdl Y
  have tK:=zdl K
  have lY:(matF (Y.map fzs)).length=Y.length:=by simp[matF]
  have lK:(matF (K.map fzs)).length=K.length:=by simp[matF]
  dsimp only[emd]
  generalize matF (Y.map fzs)=YF at *
  generalize matF (K.map fzs)=KF at *
  generalize fzs n=N at *
  generalize fzs e=E at *
  obtain⟨⟨code,outs,dim,par⟩,⟨nm,cc,a1,b,e1⟩,pp,bits⟩:=p
  obtain⟨t0,t1,t2⟩:=t
  obtain⟨h0,h1,h2⟩:=h
  dsimp only at *
  rw[f526 _ rfl,b526]
  simp -implicitDefEqProofs[c0,c1,c2,hy,wY,wK,tY,tK,lY,lK,genAt]
 ·have hM:=hz h0
  subst hM
  have hkI:¬ (k:Int)=0:=by omega
  have wY:=zar (Ys.map fzs)
  have wK:=zar (Ks.map fzs)
  generalize matF (Ys.map fzs)=YF at *
  generalize matF (Ks.map fzs)=KF at *
  clear hE hz hz2
  obtain⟨⟨code,outs,dim,par⟩,⟨nm,cc,a1,b,e1⟩,pp,bits⟩:=p
  obtain⟨t0,t1,t2⟩:=t
  obtain⟨h0',h1,h2⟩:=h
  unfold nilM
  dsimp only at *
  rw[f526 _ rfl,b526]
  simp -implicitDefEqProofs[c0,c1,c2,hy,wY,wK,h0,hkI,genAt,show fzs []=[] from rfl]
end
def anQ(p:Pb):List Rat→Nat→Rat→List Rat→List (List Rat)×Nat×Nat×Nat×Nat
 | [],_,_,_=>([],0,0,0,0)
 | h::r,i,t,y=>if (doQ p t h y).2.1≠0 then ([],(doQ p t h y).2.1,i,(doQ p t h y).2.2.1,(doQ p t h y).2.2.2)
   else ((doQ p t h y).1.nx::(anQ p r (i+1) (t+h) (doQ p t h y).1.nx).1,(anQ p r (i+1) (t+h) (doQ p t h y).1.nx).2)
theorem zu2{p:Pb}{t h:Rat}{y:List Rat}(hn:p.t.outs.length=y.length)(hb:p.s.b.length≤3)(hk:(doQ p t h y).2.1=0) :
  (doQ p t h y).2.2=(0,0)∧(doQ p t h y).1.nx.length=y.length∧∀q∈(doQ p t h y).1.nx,sz q≤129:=by
 have hst:=zg6 (p:=p) (t:=t) (h:=h) (y:=y) hn hb p.s.b.length 0 [] [] (by omega) rfl rfl ⟨by simp,by simp,by simp⟩
 unfold doQ at hk ⊢
 split
 ·next h0=>rw[if_pos h0]at hk;exact absurd hk h0
 ·next h0=>
  rw[if_neg h0]at hk
  obtain⟨_,_,hK,_⟩:=hst (by simpa using h0)
  split
  ·next k hf=>rw[hf]at hk;exact absurd hk (by simp)
  ·next hf=>
   rw[hf]at hk
   dsimp only at hk ⊢
   split
   ·next k hg=>rw[hg]at hk;exact absurd hk (by simp)
   ·exact⟨rfl,zg5 hK,zoz (ziq p.bits).2 hf⟩
abbrev celP(p:Pb):List AV:=[.sl (rowI p.t.code) .an,.sl (ints p.t.outs) .an,.i .i64 p.t.dim,.i .i64 p.t.par,.s p.s.nm,.sl (rowF p.s.c) .an,.sl (matF p.s.a) .an,.sl (rowF p.s.b) .an,.sl (rowF p.s.e) .an,.sl (rowF p.p) .an,.i .i64 p.bits]
def hpAn(p:Pb)(f t:Int)(tm:Fz):Heap:=[(.loc 3,⟨1,.str,11,[celP p]⟩),(.loc 5,⟨2,.str,2,[[.i .i64 f,.i .i64 t]]⟩),(.loc 7,bxF0 3 0 0 0 0),(.loc 9,⟨4,.str,3,[celF tm]⟩)]
def stAn0(p:Pb)(f t:Int)(tm:Fz)(y:List Fz)(H:List Fz):St:=
 ⟨[(3,.ptr (.loc 3) 1 11 0 0),(5,.ptr (.loc 5) 2 2 0 0),(7,.ptr (.loc 7) 3 4 0 0),(9,.ptr (.loc 9) 4 3 0 0),(10,.sl (rowF y) .an),(11,.sl [[.sl (rowF y) .an]] .fu),(72,.sl (rowF H) .an),(73,.i .i64 H.length),(74,.i .i64 0)],hpAn p f t tm,6⟩
def stAn(p:Pb)(f t:Int)(tm:Fz)(y:List Fz)(out:List (List Fz))(H:List Fz)(i:Nat):St:=
 ⟨[(3,.ptr (.loc 3) 1 11 0 0),(5,.ptr (.loc 5) 2 2 0 0),(7,.ptr (.loc 7) 3 4 0 0),(9,.ptr (.loc 9) 4 3 0 0),(10,.sl (rowF y) .an),(11,.bs (.loc 105) 5 1 0 out.length),(72,.sl (rowF H) .an),(73,.i .i64 H.length),(74,.i .i64 (i:Int))],hpAn p f t tm++[(.loc 105,⟨5,.own,1,matF out⟩)],7⟩
def enAn(k s i a:Int):Ex×St:=(.r,⟨[(6,.sl [] .an),(7,.ptr (.loc 7) 1 4 0 0)],[(.loc 7,bxF0 1 k s i a)],3⟩)
section
variable{T:Tbl}[CLimb T][CNat T][CProd T][CTwos T][CQuot T][CQuotD T][CWhole T][CCommon T][CFrac T][CKeep T][CStepD T]
theorem zu3(p:Pb)(f t:Int)(tm h t1:Fz)(y nx:List Fz)(H:List Fz)(hH:H[0]? = some h)(hl:H.length≤1000)(e1 e2 e3:List (List AV))
  (c1:callF T 526 [epb p,efz tm,efz h,.sl (rowF y) .an]=some (.tup [.agg [.sl e1 .an,.sl e2 .an,.sl (rowF nx) .an,.sl e3 .an],fltA 0 0 0 0])) (c2:callF T 215 [efz tm,efz h]=some (efz t1)) :
  evX (orc T) T 0 l506_0 (stAn0 p f t tm y H)=some (.n,stAn p f t t1 nx [y,nx] H 1):=by
 obtain⟨hlt,hge⟩:=List.getElem?_eq_some_iff.1 hH
 have hlt':(0:Int)<(H.length:Int):=by omega
 have hm:matF [y,nx]=[[.sl (rowF y) .an],[.sl (rowF nx) .an]]:=rfl
 unfold stAn0 stAn hpAn celP
 rw[hm]
 obtain⟨⟨code,outs,dim,par⟩,⟨nm,cc,a1,b,e⟩,pp,bits⟩:=p
 obtain⟨m0,m1,m2⟩:=tm
 obtain⟨h0,h1,h2⟩:=h
 obtain⟨t0,t2,t3⟩:=t1
 dsimp only at *
 simp -implicitDefEqProofs[l506_0,hH,hlt,hlt',hge,c1,c2]
theorem zyn(p:Pb)(f t:Int)(tm h t1:Fz)(y nx:List Fz)(out:List (List Fz))(H:List Fz)(i:Nat)(hH:H[i]? = some h)(hl:H.length≤1000)(ho:out.length≤2000)(e1 e2 e3:List (List AV))
  (c1:callF T 526 [epb p,efz tm,efz h,.sl (rowF y) .an]=some (.tup [.agg [.sl e1 .an,.sl e2 .an,.sl (rowF nx) .an,.sl e3 .an],fltA 0 0 0 0])) (c2:callF T 215 [efz tm,efz h]=some (efz t1)) :
  evX (orc T) T 0 l506_0 (stAn p f t tm y out H i)=some (.n,stAn p f t t1 nx (out++[nx]) H (i+1)):=by
 obtain⟨hlt,hge⟩:=List.getElem?_eq_some_iff.1 hH
 have hlt':(i:Int)<(H.length:Int):=by omega
 have hws:=za5 hlt (by omega)
 have hm:=znj out nx
 have h3:(out++[nx]).length=out.length+1:=by simp
 have h4:out.length+1≤4294967296:=by omega
 have ht:List.take out.length (matF out)=matF out:=List.take_of_length_le (by rw[zdc];exact Nat.le_refl _)
 have w1:=zar (out++[nx])
 have l1:=zdc out
 unfold stAn hpAn celP
 rw[h3]
 generalize matF (out++[nx])=R1 at *
 generalize matF out=R0 at *
 obtain⟨⟨code,outs,dim,par⟩,⟨nm,cc,a1,b,e⟩,pp,bits⟩:=p
 obtain⟨m0,m1,m2⟩:=tm
 obtain⟨h0,h1,h2⟩:=h
 obtain⟨t0,t2,t3⟩:=t1
 dsimp only at *
 simp -implicitDefEqProofs[l506_0,hH,hlt,hlt',hge,hws,c1,c2,hm,h4,ht,w1,l1]
theorem zyo(p:Pb)(f t:Int)(tm h:Fz)(y:List Fz)(H:List Fz)(hH:H[0]? = some h)(hl:H.length≤1000)(hf:0≤f∧f≤1000)(e1 e2 e3 e4:List (List AV))(k st a:Int)(hk:k≠0)
  (c1:callF T 526 [epb p,efz tm,efz h,.sl (rowF y) .an]=some (.tup [.agg [.sl e1 .an,.sl e2 .an,.sl e4 .an,.sl e3 .an],fltA k 0 st a])) :
  evX (orc T) T 0 l506_0 (stAn0 p f t tm y H)=some (enAn k (f+1) st a):=by
 obtain⟨hlt,hge⟩:=List.getElem?_eq_some_iff.1 hH
 have hlt':(0:Int)<(H.length:Int):=by omega
 have w1:IntKind.wrap .i64 f=f:=zac _ (by omega)
 have w2:IntKind.wrap .i64 (f+1)=f+1:=zac _ (by omega)
 unfold stAn0 hpAn celP enAn
 obtain⟨⟨code,outs,dim,par⟩,⟨nm,cc,a1,b,e⟩,pp,bits⟩:=p
 obtain⟨m0,m1,m2⟩:=tm
 obtain⟨h0,h1,h2⟩:=h
 dsimp only at *
 simp -implicitDefEqProofs[l506_0,hH,hlt,hlt',hge,c1,hk,w1,w2]
theorem z3c(p:Pb)(f t:Int)(tm h:Fz)(y:List Fz)(out:List (List Fz))(H:List Fz)(i:Nat)(hH:H[i]? = some h)(hl:H.length≤1000)(hf:0≤f∧f≤1000)(e1 e2 e3 e4:List (List AV))(k st a:Int)(hk:k≠0)
  (c1:callF T 526 [epb p,efz tm,efz h,.sl (rowF y) .an]=some (.tup [.agg [.sl e1 .an,.sl e2 .an,.sl e4 .an,.sl e3 .an],fltA k 0 st a])) :
  evX (orc T) T 0 l506_0 (stAn p f t tm y out H i)=some (enAn k (f+(i:Int)+1) st a):=by
 obtain⟨hlt,hge⟩:=List.getElem?_eq_some_iff.1 hH
 have hlt':(i:Int)<(H.length:Int):=by omega
 have w1:IntKind.wrap .i64 (f+(i:Int))=f+(i:Int):=zac _ (by omega)
 have w2:IntKind.wrap .i64 (f+(i:Int)+1)=f+(i:Int)+1:=zac _ (by omega)
 have wo:=zar out
 unfold stAn hpAn celP enAn
 generalize matF out=R0 at *
 obtain⟨⟨code,outs,dim,par⟩,⟨nm,cc,a1,b,e⟩,pp,bits⟩:=p
 obtain⟨m0,m1,m2⟩:=tm
 obtain⟨h0,h1,h2⟩:=h
 dsimp only at *
 simp -implicitDefEqProofs[l506_0,hH,hlt,hlt',hge,c1,hk,w1,w2,wo]
theorem z3d(p:Pb)(f t:Int)(tm:Fz)(y:List Fz):isEx (evX (orc T) T 0 l506_0 (stAn0 p f t tm y []))=true ∧
  finX 0 0 (.norm false [7,11]) (evX (orc T) T 0 l506_0 (stAn0 p f t tm y []))=some (.n,⟨[(7,.ptr (.loc 7) 1 4 0 0),(11,.sl [[.sl (rowF y) .an]] .an)],[(.loc 7,bxF0 1 0 0 0 0)],3⟩):=by
 unfold stAn0 hpAn celP
 obtain⟨⟨code,outs,dim,par⟩,⟨nm,cc,a1,b,e⟩,pp,bits⟩:=p
 obtain⟨m0,m1,m2⟩:=tm
 dsimp only
 constructor<;>simp -implicitDefEqProofs[l506_0]
theorem z88(p:Pb)(f t:Int)(tm:Fz)(y:List Fz)(out:List (List Fz))(H:List Fz):isEx (evX (orc T) T 0 l506_0 (stAn p f t tm y out H H.length))=true ∧
  finX 0 0 (.norm false [7,11]) (evX (orc T) T 0 l506_0 (stAn p f t tm y out H H.length))=some (.n,⟨[(7,.ptr (.loc 7) 1 4 0 0),(11,.bs (.loc 105) 2 1 0 out.length)],[(.loc 7,bxF0 1 0 0 0 0),(.loc 105,⟨2,.own,1,matF out⟩)],4⟩):=by
 have wo:=zar out
 unfold stAn hpAn celP
 generalize matF out=R0 at *
 obtain⟨⟨code,outs,dim,par⟩,⟨nm,cc,a1,b,e⟩,pp,bits⟩:=p
 obtain⟨m0,m1,m2⟩:=tm
 dsimp only
 constructor<;>simp -implicitDefEqProofs[l506_0,wo]
end
theorem z0t{p:Pb}{t h:Fz}{y:List Fz}(hp:PbS p)(hok:okS p.s=true)(ht:fsz t≤500)(hh:fsz h≤20)(hyl:y.length≤300)(hy:∀x∈y,fsz x≤400):StS p t h y:=by
 obtain⟨H,_⟩:=zg2 hok
 refine⟨hp,ht,hh,hyl,hy,fun x hx=>?_,fun r hr x hx=>?_,fun x hx=>?_,fun x hx=>?_⟩
 ·have:=zeg H.nc x hx;omega
 ·have h1:=H.na
  unfold numM at h1
  have:=zeg (List.all_eq_true.1 h1 r hr) x hx
  omega
 ·have:=zeg H.nb x hx;omega
 ·have:=zeg H.ne x hx;omega
section
variable{T:Tbl}[CLimb T][CNat T][CProd T][CTwos T][CQuot T][CQuotD T][CWhole T][CCommon T][CFrac T][CFrac2 T][CFrac3 T][CFrac5 T][CPow T][CTape T][CGauge T][CEval T][CRun T][CIfc T][CDigits T][CText T][CJoin T][CRow T][CRow5 T][CLex T][CScheme T][CSchP T][CStep T][CStepD T][CKeep T]
theorem z3e(p:Pb)(f t:Int)(tm0:Fz)(y0:List Fz)(H:List Fz)(hp:PbS p)(hok:okP p=true)(hb:p.s.b.length≤3)(hd:(y0.length:Int)=p.t.dim)(hf:0≤f∧f≤1000)
  (ht:fsz tm0≤200) (hy:∀x∈y0,fsz x≤400) (hH:∀x∈H,fsz x≤12) (hHl:H.length≤20) :
  ∃r,(((anQ p (H.map fv) 0 (fv tm0) (y0.map fv)).2.1≠0∧r=enAn (anQ p (H.map fv) 0 (fv tm0) (y0.map fv)).2.1 (f+((anQ p (H.map fv) 0 (fv tm0) (y0.map fv)).2.2.1:Int)+1) (anQ p (H.map fv) 0 (fv tm0) (y0.map fv)).2.2.2.1 (anQ p (H.map fv) 0 (fv tm0) (y0.map fv)).2.2.2.2) ∨
   ((anQ p (H.map fv) 0 (fv tm0) (y0.map fv)).2.1=0∧H=[]∧r=(.n,⟨[(7,.ptr (.loc 7) 1 4 0 0),(11,.sl [[.sl (rowF y0) .an]] .an)],[(.loc 7,bxF0 1 0 0 0 0)],3⟩)) ∨
   ((anQ p (H.map fv) 0 (fv tm0) (y0.map fv)).2.1=0∧H≠[]∧r=(.n,⟨[(7,.ptr (.loc 7) 1 4 0 0),(11,.bs (.loc 105) 2 1 0 (y0::(anQ p (H.map fv) 0 (fv tm0) (y0.map fv)).1.map fzs).length)],[(.loc 7,bxF0 1 0 0 0 0),(.loc 105,⟨2,.own,1,matF (y0::(anQ p (H.map fv) 0 (fv tm0) (y0.map fv)).1.map fzs)⟩)],4⟩))) ∧
   loopN T 0 0 (.norm false [7,11]) l506_0 (stAn0 p f t tm0 y0 H)=some r:=by
 have hok2:=hok
 unfold okP at hok2
 simp only[Bool.and_eq_true,decide_eq_true_eq]at hok2
 obtain⟨⟨hokT,hokS⟩,_⟩:=hok2
 have hO:=(zcr p.t).1 hokT
 have hdm:=hO.d2
 generalize hR:anQ p (H.map fv) 0 (fv tm0) (y0.map fv)=R
 refine za1 (fun q:Nat×Fz×List Fz×List (List Fz)=>if q.1=0 then stAn0 p f t q.2.1 q.2.2.1 H else stAn p f t q.2.1 q.2.2.1 q.2.2.2 H q.1)
  (fun q=>q.1≤H.length∧(q.1=0→q.2.2.1=y0∧q.2.2.2=[y0])∧fsz q.2.1≤200+13*q.1∧(q.2.2.1.length:Int)=p.t.dim∧(∀x∈q.2.2.1,fsz x≤400)∧q.2.2.2.length=q.1+1 ∧
   (anQ p ((H.drop q.1).map fv) q.1 (fv q.2.1) (q.2.2.1.map fv)).2=R.2∧(R.2.1=0→q.2.2.2++(anQ p ((H.drop q.1).map fv) q.1 (fv q.2.1) (q.2.2.1.map fv)).1.map fzs=y0::R.1.map fzs))
  (fun q=>H.length-q.1) _ ?_ (0,tm0,y0,[y0]) ⟨Nat.zero_le _,fun _=>⟨rfl,rfl⟩,by simpa using ht,hd,hy,rfl,by rw[List.drop_zero,hR],fun _=>by rw[List.drop_zero,hR];rfl⟩
 rintro⟨i,tm,y,out⟩ ⟨hi,h0,htm,hyd,hys,hol,hq2,hq1⟩
 dsimp only at *
 by_cases hlt:i<H.length
 ·obtain⟨h,hh⟩:∃h,H[i]? = some h:=⟨_,List.getElem?_eq_getElem hlt⟩
  have hdr:H.drop i=h::H.drop (i+1):=by
   rw[List.drop_eq_getElem_cons hlt]
   congr 1
   rw[List.getElem?_eq_getElem hlt]at hh
   exact Option.some.inj hh
  have hhs:=hH h (List.mem_of_getElem? hh)
  have hyl:y.length≤300:=by omega
  have hS:StS p tm h y:=z0t hp hokS (by omega) (by omega) hyl hys
  have c1:=zwl (T:=T) p tm h y hS hok hyd hb
  have hn:p.t.outs.length=(y.map fv).length:=by rw[List.length_map];have:=hO.ol;omega
  rw[hdr,List.map_cons]at hq2 hq1
  unfold anQ at hq2 hq1
  by_cases hk:(doQ p (fv tm) (fv h) (y.map fv)).2.1=0
  ·obtain⟨k1,k2,k3⟩:=zu2 hn hb hk
   rw[if_neg (by simpa using hk)]at hq2 hq1
   have s1:=zba (x:=tm) (L:=200+13*i) htm (by omega)
   have s2:=zba (x:=h) (L:=12) hhs (by decide)
   have s3:=zei (fv tm) (fv h)
   have c2:=zdw (T:=T) tm h (by omega) (by omega)
   rw[hk,k1]at c1
   have hfz:(fz (fv tm+fv h))=fz (fv tm+fv h):=rfl
   left
   refine⟨(i+1,fz (fv tm+fv h),fzs (doQ p (fv tm) (fv h) (y.map fv)).1.nx,out++[fzs (doQ p (fv tm) (fv h) (y.map fv)).1.nx]),⟨by dsimp only;omega,fun h=>absurd h (by simp),by dsimp only;rw[zas];omega,by dsimp only;rw[zaj,k2,List.length_map];exact hyd,fun x hx=>?_,by simp[hol],?_,fun hz=>?_⟩,by dsimp only;omega,?_⟩
   ·obtain⟨v,hv,rfl⟩:=List.mem_map.1 hx
    have:=k3 v hv
    rw[zas];omega
   ·dsimp only
    rw[zbt,zgp]
    exact hq2
   ·dsimp only
    rw[zbt,zgp,List.append_assoc]
    exact hq1 hz
   ·dsimp only
    rw[if_neg (show ¬ i+1=0 by omega)]
    by_cases hi0:i=0
    ·subst hi0
     obtain⟨_,e2⟩:=h0 rfl
     rw[if_pos rfl,e2]
     have e1:=(h0 rfl).1
     rw[←e1]
     exact zu3 (T:=T) p f t tm h _ y _ H hh (by omega) _ _ _ c1 c2
    ·rw[if_neg hi0]
     exact zyn (T:=T) p f t tm h _ y _ out H i hh (by omega) (by omega) _ _ _ c1 c2
  ·right
   rw[if_pos hk]at hq2
   refine⟨_,.inl ⟨by rw[←hq2];exact hk,rfl⟩,?_⟩
   have e1:(if i=0 then stAn0 p f t tm y H else stAn p f t tm y out H i)=(if i=0 then stAn0 p f t tm y H else stAn p f t tm y out H i):=rfl
   rw[←hq2]
   dsimp only
   by_cases hi0:i=0
   ·subst hi0
    rw[if_pos rfl]
    have e:=zyo (T:=T) p f t tm h y H hh (by omega) hf _ _ _ _ _ _ _ (by omega) c1
    rw[e]
    simp only[Int.natCast_zero,Int.add_zero]
    exact⟨rfl,by unfold enAn;simp -implicitDefEqProofs⟩
   ·rw[if_neg hi0]
    have e:=z3c (T:=T) p f t tm h y out H i hh (by omega) hf _ _ _ _ _ _ _ (by omega) c1
    rw[e]
    exact⟨rfl,by unfold enAn;simp -implicitDefEqProofs⟩
 ·right
  have hil:i=H.length:=by omega
  subst hil
  rw[List.drop_length,List.map_nil]at hq2 hq1
  unfold anQ at hq2 hq1
  have hz:R.2.1=0:=by rw[←hq2]
  by_cases hi0:H.length=0
  ·have hnil:=List.eq_nil_of_length_eq_zero hi0
   subst hnil
   obtain⟨e1,_⟩:=h0 rfl
   subst e1
   rw[if_pos (show ([]:List Fz).length=0 from rfl)]
   obtain⟨g1,g2⟩:=z3d (T:=T) p f t tm y
   exact⟨_,.inr (.inl ⟨hz,rfl,rfl⟩),g1,g2⟩
  ·rw[if_neg hi0]
   have e1:=hq1 hz
   rw[List.map_nil,List.append_nil]at e1
   obtain⟨g1,g2⟩:=z88 (T:=T) p f t tm y out H
   rw[←e1]
   exact⟨_,.inr (.inr ⟨hz,fun h=>hi0 (by rw[h];rfl),rfl⟩),g1,g2⟩
def anewV(p:Pb)(c:Kp)(j f t:Nat):List (List Rat)×Nat×Nat×Nat×Nat:=
 anQ p (((c.sz.take (t-1)).drop f).map fv) 0 (fv ((c.ts[j]?).getD (false,[],[]))) (((c.ys[j]?).getD []).map fv)
end
section
variable{T:Tbl}[CLimb T][CNat T][CProd T][CTwos T][CQuot T][CQuotD T][CWhole T][CCommon T][CFrac T][CFrac2 T][CFrac3 T][CFrac5 T][CPow T][CTape T][CGauge T][CEval T][CRun T][CIfc T][CDigits T][CText T][CJoin T][CRow T][CRow5 T][CLex T][CScheme T][CSchP T][CStep T][CStepD T][CKeep T]
theorem zmx(p:Pb)(c:Kp)(f t:Int)(hp:PbS p)(hl:c.sz.length≤20)(hw:∀x∈c.sz,fsz x≤12)(hA:okP p=true)(hB:rightK c=true)(hC:amongK c f t=true)(e j F N:Nat)(he:c.ev=e)(he1:1≤e)(hf:f=F)(hFj:F=j*e)(hFl:F<c.sz.length)(ht:t=N)(hFN:F<N)(hNl:N≤c.sz.length)(hj:j<c.ts.length)(hj2:j<c.ys.length)
  (y:List Fz) (hy:c.ys[j]? = some y) (x:Fz) (hx:c.ts[j]? = some x) (hd:(y.length:Int)=p.t.dim) (hb:p.s.b.length≤3) (hxs:fsz x≤200) (hys:∀u∈y,fsz u≤300) :
  callF T 506 [epb p,ekp c,.agg [.i .i64 f,.i .i64 t]]=some (if (anQ p (((c.sz.take (N-1)).drop F).map fv) 0 (fv x) (y.map fv)).2.1=0 then .tup [.sl (matF (fzs (y.map fv)::(anQ p (((c.sz.take (N-1)).drop F).map fv) 0 (fv x) (y.map fv)).1.map fzs)) .an,fltA 0 0 0 0]
   else .tup [.sl [] .an,fltA (anQ p (((c.sz.take (N-1)).drop F).map fv) 0 (fv x) (y.map fv)).2.1 ((F:Int)+((anQ p (((c.sz.take (N-1)).drop F).map fv) 0 (fv x) (y.map fv)).2.2.1:Int)+1) (anQ p (((c.sz.take (N-1)).drop F).map fv) 0 (fv x) (y.map fv)).2.2.2.1 (anQ p (((c.sz.take (N-1)).drop F).map fv) 0 (fv x) (y.map fv)).2.2.2.2]):=by
 have c1:=zeu (T:=T) p hp
 have c2:=zj0 (T:=T) c (by omega) (fun u hu=>Nat.le_trans (hw u hu) (by decide))
 have c3:=zrq (T:=T) c f t (by omega)
 rw[hA]at c1
 rw[hB]at c2
 rw[hC]at c3
 have hok2:=hA
 unfold okP at hok2
 simp only[Bool.and_eq_true,decide_eq_true_eq]at hok2
 have hdm:=((zcr p.t).1 hok2.1.1).d2
 have c4:=zib (T:=T) 1 (by decide) (by decide)
 rw[show ((1:Int):Rat)=1 from rfl]at c4
 have c5:=zef (T:=T) (fz 1) (by decide +kernel) y (by omega) (fun u hu=>Nat.le_trans (hys u hu) (by decide))
 have e5:scl (fv (fz 1)) y=fzs (y.map fv):=by
  unfold scl fzs
  rw[List.map_map]
  refine List.map_congr_left fun u _=>?_
  show fz (fv (fz 1)*fv u)=fz (fv u)
  rw[zbt,Rat.one_mul]
 rw[e5]at c5
 have hyl:(fzs (y.map fv)).length=y.length:=by rw[zaj,List.length_map]
 have hyv:(fzs (y.map fv)).map fv=y.map fv:=zgp _
 obtain⟨r,hr,hlo⟩:=z3e (T:=T) p f t x (fzs (y.map fv)) ((c.sz.take (N-1)).drop F) hp hA hb (by rw[hyl];exact hd) (by omega) hxs (fun u hu=>by
  obtain⟨v,hv,rfl⟩:=List.mem_map.1 hu
  obtain⟨z,hz,rfl⟩:=List.mem_map.1 hv
  have:=zba (hys z hz) (by decide)
  rw[zas];omega) (fun u hu=>hw u (List.mem_of_mem_take (List.mem_of_mem_drop hu))) (by rw[List.length_drop,List.length_take];omega)
 rw[hyv]at hr
 obtain⟨_,g1⟩:=List.getElem?_eq_some_iff.1 hy
 obtain⟨_,g2⟩:=List.getElem?_eq_some_iff.1 hx
 have hq:(F:Int).tdiv (e:Int)=(j:Int):=by
  rw[hFj]
  push_cast
  exact Int.mul_tdiv_cancel _ (by omega)
 have hwj:IntKind.wrap .i64 (j:Int)=(j:Int):=zac _ (by
  have:j≤j*e:=Nat.le_mul_of_pos_right j he1
  omega)
 have he0:¬ (e:Int)=0:=by omega
 have he00:¬ e=0:=by omega
 have hj':(j:Int)<(c.ts.length:Int):=by omega
 have hj2':(j:Int)<(c.ys.length:Int):=by omega
 have hn1:IntKind.wrap .i64 ((N:Int)-1)=((N-1:Nat):Int):=by rw[zac _ (by omega)];omega
 unfold stAn0 hpAn celP at hlo
 have b1:F≤N-1:=by omega
 have b2:N-1≤c.sz.length:=by omega
 have b1':(F:Int)≤((N-1:Nat):Int):=by omega
 have b2':((N-1:Nat):Int)≤(c.sz.length:Int):=by omega
 have hR0:((c.sz.take (N-1)).drop F)=[]→(anQ p (((c.sz.take (N-1)).drop F).map fv) 0 (fv x) (y.map fv)).1=[]:=fun h=>by rw[h];rfl
 rw[f506 _ rfl,b506]
 generalize anQ p (((c.sz.take (N-1)).drop F).map fv) 0 (fv x) (y.map fv)=R at *
 clear hp hl hw hA hB hC hFj
 generalize hH:((c.sz.take (N-1)).drop F)=H at *
 subst hf
 subst ht
 obtain⟨⟨code,outs,dim,par⟩,⟨nm,cc,a1,b,e'⟩,pp,bits⟩:=p
 obtain⟨ev,S,ts,ys⟩:=c
 dsimp only at *
 subst he
 generalize hY:fzs (y.map fv)=Y0 at *
 obtain⟨x0,x1,x2⟩:=x
 obtain⟨R1,k,i,st,a⟩:=R
 dsimp only at *
 have o0:efz (fz 1)=.agg [.b (fz 1).1,.sl (u32s (fz 1).2.1) .an,.sl (u32s (fz 1).2.2) .an]:=rfl
 generalize fz 1=one at *
 obtain⟨o1,o2,o3⟩:=one
 dsimp only at *
 rcases hr with ⟨h0,rfl⟩ | ⟨h0,h1,rfl⟩ | ⟨h0,h1,rfl⟩
 ·have h0I:¬ (k:Int)=0:=by omega
  rw[if_neg h0]
  unfold enAn at hlo
  simp -implicitDefEqProofs[c1,c2,c3,c4,c5,hq,hwj,he0,he00,hj,hj',hj2,hj2',hy,hx,g1,g2,hd,hn1,b1,b2,b1',b2',hH,zij,hlo]
 ·rw[if_pos h0]
  have hR1:=hR0 h1
  subst hR1
  rw[show matF (Y0::([]:List (List Rat)).map fzs)=[[.sl (rowF Y0) .an]] from rfl]
  simp -implicitDefEqProofs[c1,c2,c3,c4,c5,hq,hwj,he0,he00,hj,hj',hj2,hj2',hy,hx,g1,g2,hd,hn1,b1,b2,b1',b2',hH,zij,hlo]
 ·rw[if_pos h0]
  have tk:List.take (Y0::R1.map fzs).length (matF (Y0::R1.map fzs))=matF (Y0::R1.map fzs):=List.take_of_length_le (by rw[zdc];exact Nat.le_refl _)
  have lk:=zdc (Y0::R1.map fzs)
  have wk:=zar (Y0::R1.map fzs)
  generalize matF (Y0::R1.map fzs)=MM at *
  generalize (Y0::R1.map fzs).length=nn at *
  simp -implicitDefEqProofs[c1,c2,c3,c4,c5,hq,hwj,he0,he00,hj,hj',hj2,hj2',hy,hx,g1,g2,hd,hn1,b1,b2,b1',b2',hH,zij,hlo,tk,lk,wk]
end
def mrQ(p:Pb):List Rat→Nat→Rat→List Rat→List Tr×(Rat×List Rat)×Nat×Nat×Nat×Nat
 | [],_,t,y=>([],(t,y),0,0,0,0)
 | h::r,i,t,y=>if (doQ p t h y).2.1≠0 then ([],(t,y),(doQ p t h y).2.1,i,(doQ p t h y).2.2.1,(doQ p t h y).2.2.2)
   else (⟨fz t,fz h,fz h,fz (normR (doQ p t h y).1.er),fzs y,true⟩::(mrQ p r (i+1) (t+h) (doQ p t h y).1.nx).1,(mrQ p r (i+1) (t+h) (doQ p t h y).1.nx).2)
theorem z0v{p:Pb}{t h:Rat}{y:List Rat}(hn:p.t.outs.length=y.length)(hb:p.s.b.length≤3)(hyl:y.length≤300)(hk:(doQ p t h y).2.1=0) :
  (doQ p t h y).1.er.length≤300∧∀q∈(doQ p t h y).1.er,sz q≤129:=by
 have hst:=zg6 (p:=p) (t:=t) (h:=h) (y:=y) hn hb p.s.b.length 0 [] [] (by omega) rfl rfl ⟨by simp,by simp,by simp⟩
 unfold doQ at hk ⊢
 split
 ·next h0=>rw[if_pos h0]at hk;exact absurd hk h0
 ·next h0=>
  rw[if_neg h0]at hk
  obtain⟨_,_,hK,_⟩:=hst (by simpa using h0)
  split
  ·next k hf=>rw[hf]at hk;exact absurd hk (by simp)
  ·next hf=>
   rw[hf]at hk
   dsimp only at hk ⊢
   split
   ·next k hg=>rw[hg]at hk;exact absurd hk (by simp)
   ·next hg=>
    refine⟨?_,zoz (ziq p.bits).2 hg⟩
    show (errQ p h y _).length≤300
    unfold errQ
    split
    ·simp
    ·rw[zg4 hK];exact hyl
abbrev bxH0(g:Nat):Box:=⟨g,.str,5,[[.sl [] .an,.b false,.sl [] .an,.sl [] .an,.sl [] .an]]⟩
def stMr(p:Pb)(tm:Fz)(y:List Fz)(L:List Tr)(H:List Fz)(i:Nat):St:=
 ⟨[(4,.ptr (.loc 4) 1 11 0 0),(8,.ptr (.loc 8) 2 5 0 0),(9,.ptr (.loc 9) 3 4 0 0),(10,.ptr (.loc 10) 4 5 0 0),(39,.sl (rowF H) .an),(40,.i .i64 H.length),(41,.i .i64 (i:Int))],
  [(.loc 4,⟨1,.str,11,[celP p]⟩),(.loc 8,bxH0 2),(.loc 9,bxF0 3 0 0 0 0),(.loc 10,⟨4,.str,5,[[.bs (.fld (.loc 10) 0) 5 14 0 L.length,.b tm.1,.sl (u32s tm.2.1) .an,.sl (u32s tm.2.2) .an,.sl (rowF y) .an]]⟩),(.fld (.loc 10) 0,⟨5,.own,14,rowTr L⟩)],7⟩
def enMr(k i s a:Int):Ex×St:=(.r,⟨[(8,.ptr (.loc 8) 1 5 0 0),(9,.ptr (.loc 9) 2 4 0 0)],[(.loc 8,bxH0 1),(.loc 9,bxF0 2 k i s a)],4⟩)
def enMn(tm:Fz)(y:List Fz)(L:List Tr):Ex×St:=
 (.n,⟨[(8,.ptr (.loc 8) 1 5 0 0),(9,.ptr (.loc 9) 2 4 0 0),(10,.ptr (.loc 10) 3 5 0 0)],
  [(.loc 8,bxH0 1),(.loc 9,bxF0 2 0 0 0 0),(.loc 10,⟨3,.str,5,[[.bs (.fld (.loc 10) 0) 4 14 0 L.length,.b tm.1,.sl (u32s tm.2.1) .an,.sl (u32s tm.2.2) .an,.sl (rowF y) .an]]⟩),(.fld (.loc 10) 0,⟨4,.own,14,rowTr L⟩)],6⟩)
section
variable{T:Tbl}[CLimb T][CNat T][CProd T][CTwos T][CQuot T][CQuotD T][CWhole T][CCommon T][CFrac T][CRow5 T][CStepD T][CMarch T]
theorem zy6(p:Pb)(tm h hn t1 en:Fz)(y nx er:List Fz)(L:List Tr)(H:List Fz)(i:Nat)(hH:H[i]? = some h)(hl:H.length≤1000)(hL:L.length≤1000)(e1 e2:List (List AV))
  (c0:callF T 207 [efz h]=some (efz hn)) (c1:callF T 526 [epb p,efz tm,efz hn,.sl (rowF y) .an]=some (.tup [.agg [.sl e1 .an,.sl e2 .an,.sl (rowF nx) .an,.sl (rowF er) .an],fltA 0 0 0 0]))
  (c3:callF T 272 [.sl (rowF er) .an]=some (efz en)) (c2:callF T 215 [efz tm,efz hn]=some (efz t1)) :
  evX (orc T) T 0 l512_0 (stMr p tm y L H i)=some (.n,stMr p t1 nx (L++[⟨tm,hn,hn,en,y,true⟩]) H (i+1)):=by
 obtain⟨hlt,hge⟩:=List.getElem?_eq_some_iff.1 hH
 have hlt':(i:Int)<(H.length:Int):=by omega
 have hws:=za5 hlt (by omega)
 have h3:(L++[(⟨tm,hn,hn,en,y,true⟩:Tr)]).length=L.length+1:=by simp
 have h4:L.length+1≤4294967296:=by omega
 have hp:wkL (rowTr L++[celR ⟨tm,hn,hn,en,y,true⟩])=rowTr (L++[⟨tm,hn,hn,en,y,true⟩]):=by rw[zka,zfy]
 have l1:=zej L
 unfold stMr celP
 rw[h3]
 obtain⟨⟨code,outs,dim,par⟩,⟨nm,cc,a1,b,e⟩,pp,bits⟩:=p
 obtain⟨m0,m1,m2⟩:=tm
 obtain⟨h0,h1,h2⟩:=h
 obtain⟨n0,n1,n2⟩:=hn
 obtain⟨t0,t2,t3⟩:=t1
 obtain⟨q0,q1,q2⟩:=en
 dsimp only at *
 simp -implicitDefEqProofs[l512_0,hH,hlt,hlt',hge,hws,c0,c1,c2,c3,h4,hp,l1]
theorem z3j(p:Pb)(tm h hn:Fz)(y:List Fz)(L:List Tr)(H:List Fz)(i:Nat)(hH:H[i]? = some h)(hl:H.length≤1000)(e1 e2 e3 e4:List (List AV))(k st a:Int)(hk:k≠0)
  (c0:callF T 207 [efz h]=some (efz hn)) (c1:callF T 526 [epb p,efz tm,efz hn,.sl (rowF y) .an]=some (.tup [.agg [.sl e1 .an,.sl e2 .an,.sl e3 .an,.sl e4 .an],fltA k 0 st a])) :
  evX (orc T) T 0 l512_0 (stMr p tm y L H i)=some (enMr k ((i:Int)+1) st a):=by
 obtain⟨hlt,hge⟩:=List.getElem?_eq_some_iff.1 hH
 have hlt':(i:Int)<(H.length:Int):=by omega
 have hws:IntKind.wrap .i64 ((i:Int)+1)=(i:Int)+1:=zac _ (by omega)
 have wL:=zfy L
 unfold stMr celP enMr
 generalize rowTr L=RL at *
 obtain⟨⟨code,outs,dim,par⟩,⟨nm,cc,a1,b,e⟩,pp,bits⟩:=p
 obtain⟨m0,m1,m2⟩:=tm
 obtain⟨h0,h1,h2⟩:=h
 obtain⟨n0,n1,n2⟩:=hn
 dsimp only at *
 simp -implicitDefEqProofs[l512_0,hH,hlt,hlt',hge,hws,c0,c1,hk,wL]
theorem z9b(p:Pb)(tm:Fz)(y:List Fz)(L:List Tr)(H:List Fz):isEx (evX (orc T) T 0 l512_0 (stMr p tm y L H H.length))=true ∧
  finX 0 0 (.norm false [8,9,10]) (evX (orc T) T 0 l512_0 (stMr p tm y L H H.length))=some (enMn tm y L):=by
 have wL:=zfy L
 unfold stMr celP enMn
 generalize rowTr L=RL at *
 obtain⟨⟨code,outs,dim,par⟩,⟨nm,cc,a1,b,e⟩,pp,bits⟩:=p
 obtain⟨m0,m1,m2⟩:=tm
 dsimp only
 constructor<;>simp -implicitDefEqProofs[l512_0,wL]
variable[CFrac2 T][CFrac3 T][CFrac5 T][CPow T][CTape T][CGauge T][CEval T][CRun T][CIfc T][CDigits T][CText T][CJoin T][CRow T][CLex T][CScheme T][CSchP T][CStep T][CKeep T]
theorem z3k(p:Pb)(t0:Rat)(y0:List Rat)(H:List Fz)(hp:PbS p)(hok:okP p=true)(hb:p.s.b.length≤3)(hd:(y0.length:Int)=p.t.dim)
  (ht:sz t0≤200) (hy:∀q∈y0,sz q≤400) (hH:∀x∈H,fsz x≤12) (hHl:H.length≤20) :
  ∃r,(((mrQ p (H.map fv) 0 t0 y0).2.2.1≠0∧r=enMr (mrQ p (H.map fv) 0 t0 y0).2.2.1 (((mrQ p (H.map fv) 0 t0 y0).2.2.2.1:Int)+1) (mrQ p (H.map fv) 0 t0 y0).2.2.2.2.1 (mrQ p (H.map fv) 0 t0 y0).2.2.2.2.2) ∨
   ((mrQ p (H.map fv) 0 t0 y0).2.2.1=0∧r=enMn (fz (mrQ p (H.map fv) 0 t0 y0).2.1.1) (fzs (mrQ p (H.map fv) 0 t0 y0).2.1.2) (mrQ p (H.map fv) 0 t0 y0).1)) ∧
   loopN T 0 0 (.norm false [8,9,10]) l512_0 (stMr p (fz t0) (fzs y0) [] H 0)=some r:=by
 have hok2:=hok
 unfold okP at hok2
 simp only[Bool.and_eq_true,decide_eq_true_eq]at hok2
 obtain⟨⟨hokT,hokS⟩,_⟩:=hok2
 have hO:=(zcr p.t).1 hokT
 have hdm:=hO.d2
 generalize hR:mrQ p (H.map fv) 0 t0 y0=R
 refine za1 (fun q:Nat×Rat×List Rat×List Tr=>stMr p (fz q.2.1) (fzs q.2.2.1) q.2.2.2 H q.1)
  (fun q=>q.1≤H.length∧sz q.2.1≤200+13*q.1∧(q.2.2.1.length:Int)=p.t.dim∧(∀v∈q.2.2.1,sz v≤400)∧q.2.2.2.length=q.1 ∧
   (mrQ p ((H.drop q.1).map fv) q.1 q.2.1 q.2.2.1).2.2=R.2.2∧(R.2.2.1=0→(mrQ p ((H.drop q.1).map fv) q.1 q.2.1 q.2.2.1).2.1=R.2.1∧q.2.2.2++(mrQ p ((H.drop q.1).map fv) q.1 q.2.1 q.2.2.1).1=R.1))
  (fun q=>H.length-q.1) _ ?_ (0,t0,y0,[]) ⟨Nat.zero_le _,by simpa using ht,hd,hy,rfl,by rw[List.drop_zero,hR],fun _=>by rw[List.drop_zero,hR];exact⟨rfl,rfl⟩⟩
 rintro⟨i,tm,y,L⟩ ⟨hi,htm,hyd,hys,hLl,hq2,hq1⟩
 dsimp only at *
 by_cases hlt:i<H.length
 ·obtain⟨h,hh⟩:∃h,H[i]? = some h:=⟨_,List.getElem?_eq_getElem hlt⟩
  have hdr:H.drop i=h::H.drop (i+1):=by
   rw[List.drop_eq_getElem_cons hlt]
   congr 1
   rw[List.getElem?_eq_getElem hlt]at hh
   exact Option.some.inj hh
  have hhs:=hH h (List.mem_of_getElem? hh)
  have s2:=zba (x:=h) (L:=12) hhs (by decide)
  have hyl:y.length≤300:=by omega
  have hS:StS p (fz tm) (fz (fv h)) (fzs y):=z0t hp hokS (by rw[zas];omega) (by rw[zas];omega) (by rw[zaj];exact hyl) fun u hu=>by
   obtain⟨v,hv,rfl⟩:=List.mem_map.1 hu
   rw[zas];exact hys v hv
  have c0:=za9 (T:=T) h (by omega)
  have c1:=zwl (T:=T) p (fz tm) (fz (fv h)) (fzs y) hS hok (by rw[zaj];exact hyd) hb
  rw[zbt,zbt,zgp]at c1
  have hn:p.t.outs.length=y.length:=by have:=hO.ol;omega
  rw[hdr,List.map_cons]at hq2 hq1
  unfold mrQ at hq2 hq1
  by_cases hk:(doQ p tm (fv h) y).2.1=0
  ·obtain⟨k1,k2,k3⟩:=zu2 hn hb hk
   obtain⟨k4,k5⟩:=z0v hn hb hyl hk
   rw[if_neg (by simpa using hk)]at hq2 hq1
   have s3:=zei tm (fv h)
   have c2:=zdw (T:=T) (fz tm) (fz (fv h)) (by rw[zas];omega) (by rw[zas];omega)
   rw[zbt,zbt]at c2
   have c3:=zv6 (T:=T) (fzs (doQ p tm (fv h) y).1.er) (by rw[zaj];omega) (fun u hu=>by
    obtain⟨v,hv,rfl⟩:=List.mem_map.1 hu
    have:=k5 v hv
    rw[zas];omega)
   rw[zgp]at c3
   rw[hk,k1]at c1
   left
   refine⟨(i+1,tm+fv h,(doQ p tm (fv h) y).1.nx,L++[⟨fz tm,fz (fv h),fz (fv h),fz (normR (doQ p tm (fv h) y).1.er),fzs y,true⟩]),⟨by dsimp only;omega,by dsimp only;omega,by dsimp only;omega,fun v hv=>?_,by simp[hLl],hq2,fun hz=>?_⟩,by dsimp only;omega,?_⟩
   ·have:=k3 v hv
    omega
   ·obtain⟨g1,g2⟩:=hq1 hz
    refine⟨g1,?_⟩
    dsimp only
    rw[List.append_assoc]
    exact g2
   ·exact zy6 (T:=T) p (fz tm) h (fz (fv h)) _ _ (fzs y) _ _ L H i hh (by omega) (by omega) _ _ c0 c1 c3 c2
  ·right
   rw[if_pos hk]at hq2
   have e:=z3j (T:=T) p (fz tm) h (fz (fv h)) (fzs y) L H i hh (by omega) _ _ _ _ _ _ _ (by omega) c0 c1
   refine⟨_,.inl ⟨by rw[←hq2];exact hk,rfl⟩,?_⟩
   rw[e,←hq2]
   exact⟨rfl,by unfold enMr;simp -implicitDefEqProofs⟩
 ·right
  have hil:i=H.length:=by omega
  subst hil
  rw[List.drop_length,List.map_nil]at hq2 hq1
  unfold mrQ at hq2 hq1
  have hz:R.2.2.1=0:=by rw[←hq2]
  obtain⟨g1,g2⟩:=hq1 hz
  rw[List.append_nil]at g2
  obtain⟨e1,e2⟩:=z9b (T:=T) p (fz tm) (fzs y) L H
  refine⟨_,.inr ⟨hz,rfl⟩,e1,?_⟩
  rw[e2,←g1,←g2]
theorem zon(p:Pb)(t:Fz)(y:List Fz)(H:List Fz)(hp:PbS p)(hok:okP p=true)(hb:p.s.b.length≤3)(hd:(y.length:Int)=p.t.dim)(hpos:posL H=true)
  (ht:fsz t≤200) (hy:∀u∈y,fsz u≤400) (hH:∀x∈H,fsz x≤12) (hHl:H.length≤20) :
  callF T 512 [epb p,efz t,.sl (rowF y) .an,.sl (rowF H) .an]=some (if (mrQ p (H.map fv) 0 (fv t) (y.map fv)).2.2.1=0 then .tup [ehs ⟨(mrQ p (H.map fv) 0 (fv t) (y.map fv)).1,fz (mrQ p (H.map fv) 0 (fv t) (y.map fv)).2.1.1,fzs (mrQ p (H.map fv) 0 (fv t) (y.map fv)).2.1.2⟩,fltA 0 0 0 0]
   else .tup [ehs ⟨[],(false,[],[]),[]⟩,fltA (mrQ p (H.map fv) 0 (fv t) (y.map fv)).2.2.1 (((mrQ p (H.map fv) 0 (fv t) (y.map fv)).2.2.2.1:Int)+1) (mrQ p (H.map fv) 0 (fv t) (y.map fv)).2.2.2.2.1 (mrQ p (H.map fv) 0 (fv t) (y.map fv)).2.2.2.2.2]):=by
 have c1:=zeu (T:=T) p hp
 rw[hok]at c1
 have c2:=zmw (T:=T) H (by omega) (fun x hx=>Nat.le_trans (hH x hx) (by decide))
 rw[hpos,decide_eq_true (by omega)]at c2
 have hok2:=hok
 unfold okP at hok2
 simp only[Bool.and_eq_true,decide_eq_true_eq]at hok2
 have hdm:=((zcr p.t).1 hok2.1.1).d2
 have c3:=za9 (T:=T) t (by omega)
 have c4:=zib (T:=T) 1 (by decide) (by decide)
 rw[show ((1:Int):Rat)=1 from rfl]at c4
 have c5:=zef (T:=T) (fz 1) (by decide +kernel) y (by omega) (fun u hu=>Nat.le_trans (hy u hu) (by decide))
 have e5:scl (fv (fz 1)) y=fzs (y.map fv):=by
  unfold scl fzs
  rw[List.map_map]
  refine List.map_congr_left fun u _=>?_
  show fz (fv (fz 1)*fv u)=fz (fv u)
  rw[zbt,Rat.one_mul]
 rw[e5]at c5
 obtain⟨r,hr,hlo⟩:=z3k (T:=T) p (fv t) (y.map fv) H hp hok hb (by rw[List.length_map];exact hd) (zba ht (by decide)) (fun q hq=>by
  obtain⟨u,hu,rfl⟩:=List.mem_map.1 hq
  exact zba (hy u hu) (by decide)) hH hHl
 generalize mrQ p (H.map fv) 0 (fv t) (y.map fv)=R at *
 unfold stMr celP at hlo
 simp only[List.length_nil,show rowTr []=[] from rfl,show (((0:Nat):Int))=0 from rfl]at hlo
 rw[f512 _ rfl,b512]
 clear hp hok hb hpos ht hy hH hHl hok2 e5
 obtain⟨⟨code,outs,dim,par⟩,⟨nm,cc,a1,b,e'⟩,pp,bits⟩:=p
 dsimp only at *
 generalize fz 1=one at *
 generalize fz (fv t)=tn at *
 generalize fzs (y.map fv)=Y0 at *
 obtain⟨o1,o2,o3⟩:=one
 obtain⟨t0,t1,t2⟩:=t
 obtain⟨n0,n1,n2⟩:=tn
 obtain⟨L,⟨te,ye⟩,k,i,s,a⟩:=R
 dsimp only at *
 rcases hr with ⟨h0,rfl⟩ | ⟨h0,rfl⟩
 ·rw[if_neg h0]
  unfold enMr at hlo
  simp -implicitDefEqProofs[c1,c2,c3,c4,c5,hd,hlo]
 ·rw[if_pos h0]
  unfold enMn at hlo
  have tk:List.take L.length (rowTr L)=rowTr L:=List.take_of_length_le (by rw[zej];exact Nat.le_refl _)
  have lk:=zej L
  have wk:=zfy L
  generalize fz te=te1 at *
  generalize fzs ye=ye1 at *
  obtain⟨x0,x1,x2⟩:=te1
  dsimp only[ehs]at *
  generalize rowTr L=RL at *
  simp -implicitDefEqProofs[c1,c2,c3,c4,c5,hd,hlo,tk,lk,wk]
theorem zdb(p:Pb)(t:Fz)(y:List Fz)(H:List Fz)(hp:PbS p)(hHl:H.length≤1000)(hH:∀x∈H,fsz x≤10000)(hb:okP p=false∨(y.length:Int)≠p.t.dim∨(posL H&&decide (H.length≤200))=false) :
  callF T 512 [epb p,efz t,.sl (rowF y) .an,.sl (rowF H) .an]=some (.tup [ehs ⟨[],(false,[],[]),[]⟩,fltA 2 0 0 0]):=by
 have c1:=zeu (T:=T) p hp
 have c2:=zmw (T:=T) H hHl hH
 rw[f512 _ rfl,b512]
 clear hp hH
 generalize okP p=A at *
 generalize (posL H&&decide (H.length≤200))=B at *
 obtain⟨⟨code,outs,dim,par⟩,⟨nm,cc,a1,b,e'⟩,pp,bits⟩:=p
 obtain⟨t0,t1,t2⟩:=t
 dsimp only at *
 cases A with
 | false=>simp -implicitDefEqProofs[c1]
 | true=>
  by_cases hd:(y.length:Int)=dim
  ·have hB:B=false:=by
    rcases hb with h | h | h
    ·cases h
    ·exact absurd hd h
    ·exact h
   subst hB
   simp -implicitDefEqProofs[c1,hd,c2]
  ·simp -implicitDefEqProofs[c1,hd]
end
def trQ(p:Pb):List Rat→Rat→List Rat→List (Rat×List Rat)
 | [],t,y=>[(t,y)]
 | h::r,t,y=>(t,y)::trQ p r (t+h) (doQ p t h y).1.nx
def okQ(p:Pb):List Rat→Rat→List Rat→Prop
 | [],_,_=>True
 | h::r,t,y=>(doQ p t h y).2.1=0∧okQ p r (t+h) (doQ p t h y).1.nx
def trieL(p:Pb):List Rat→Rat→List Rat→List Tr
 | [],_,_=>[]
 | h::r,t,y=>⟨fz t,fz h,fz h,fz (normR (doQ p t h y).1.er),fzs y,true⟩::trieL p r (t+h) (doQ p t h y).1.nx
def endQ(p:Pb):List Rat→Rat→List Rat→Rat×List Rat
 | [],t,y=>(t,y)
 | h::r,t,y=>endQ p r (t+h) (doQ p t h y).1.nx
theorem z09{p:Pb}:∀(hs:List Rat) (i:Nat) (t:Rat) (y:List Rat),(mrQ p hs i t y).2.2.1=0→okQ p hs t y∧(mrQ p hs i t y).1=trieL p hs t y∧(mrQ p hs i t y).2.1=endQ p hs t y
 | [],i,t,y,_=>⟨trivial,rfl,rfl⟩
 | h::r,i,t,y,hk=>by
  unfold mrQ at hk ⊢
  by_cases h0:(doQ p t h y).2.1=0
  ·rw[if_neg (by simpa using h0)]at hk ⊢
   obtain⟨a,b,c⟩:=z09 r (i+1) _ _ hk
   refine⟨⟨h0,a⟩,?_,c⟩
   unfold trieL
   rw[←b]
  ·rw[if_pos h0]at hk
   exact absurd hk h0
theorem z1a{p:Pb}:∀(hs:List Rat) (i:Nat) (t:Rat) (y:List Rat),okQ p hs t y→anQ p hs i t y=((trQ p hs t y).tail.map (·.2),0,0,0,0)
 | [],i,t,y,_=>rfl
 | h::r,i,t,y,⟨h0,h1⟩=>by
  unfold anQ
  rw[if_neg (by simpa using h0),z1a r (i+1) _ _ h1]
  unfold trQ
  cases r with
  | nil=>rfl
  | cons a r=>rfl
theorem zwy{p:Pb}:∀(hs:List Rat) (t:Rat) (y:List Rat),(trQ p hs t y).length=hs.length+1
 | [],t,y=>rfl
 | h::r,t,y=>by unfold trQ;rw[List.length_cons,zwy r,List.length_cons]
theorem zz2{p:Pb}(hs:List Rat)(t:Rat)(y:List Rat):(trQ p hs t y)[0]? = some (t,y):=by
 cases hs<;>rfl
theorem zqg{p:Pb}:∀(hs:List Rat) (t:Rat) (y:List Rat) (F:Nat) (x:Rat×List Rat),okQ p hs t y→(trQ p hs t y)[F]? = some x→okQ p (hs.drop F) x.1 x.2∧(trQ p hs t y).drop F=trQ p (hs.drop F) x.1 x.2
 | hs,t,y,0,x,h,hx=>by
  rw[zz2]at hx
  cases hx
  exact⟨h,rfl⟩
 | [],t,y,F+1,x,h,hx=>by cases hx
 | g::r,t,y,F+1,x,h,hx=>by
  have e:trQ p (g::r) t y=(t,y)::trQ p r (t+g) (doQ p t g y).1.nx:=rfl
  rw[e]at hx ⊢
  rw[List.getElem?_cons_succ]at hx
  rw[List.drop_succ_cons,List.drop_succ_cons]
  exact zqg r _ _ F x h.2 hx
theorem zqh{p:Pb}:∀(hs:List Rat) (t:Rat) (y:List Rat) (m:Nat),okQ p hs t y→okQ p (hs.take m) t y∧trQ p (hs.take m) t y=(trQ p hs t y).take (m+1)
 | hs,t,y,0,h=>by
  refine⟨trivial,?_⟩
  cases hs<;>rfl
 | [],t,y,m+1,h=>⟨trivial,rfl⟩
 | g::r,t,y,m+1,h=>by
  obtain⟨a,b⟩:=zqh r (t+g) (doQ p t g y).1.nx m h.2
  refine⟨⟨h.1,a⟩,?_⟩
  rw[List.take_succ_cons]
  unfold trQ
  rw[b,List.take_succ_cons]
theorem zsk{p:Pb}{hs:List Rat}{t:Rat}{y:List Rat}(h:okQ p hs t y){F N:Nat}(hFN:F<N)(hN:N≤hs.length)(x:Rat×List Rat)(hx:(trQ p hs t y)[F]? = some x)(i:Nat) :
  anQ p ((hs.take (N-1)).drop F) i x.1 x.2=((((trQ p hs t y).drop (F+1)).take (N-1-F)).map (·.2),0,0,0,0):=by
 obtain⟨h1,h2⟩:=zqg hs t y F x h hx
 have e:(hs.take (N-1)).drop F=(hs.drop F).take (N-1-F):=by rw[List.drop_take]
 obtain⟨h3,h4⟩:=zqh (hs.drop F) x.1 x.2 (N-1-F) h1
 rw[e,z1a _ i _ _ h3,h4,←h2]
 congr 2
 rw[←List.drop_one,List.drop_take,List.drop_drop]
 rfl
theorem zwz{p:Pb}(hb:p.s.b.length≤3){n:Nat}(hn:p.t.outs.length=n):∀(hs:List Rat) (t:Rat) (y:List Rat) (B:Nat),okQ p hs t y→(∀h∈hs,sz h≤12)→sz t≤B→y.length=n→(∀q∈y,sz q≤200) →
  ∀x∈trQ p hs t y,sz x.1≤B+13*hs.length∧x.2.length=n∧∀q∈x.2,sz q≤200
 | [],t,y,B,_,_,ht,hy,hq,x,hx=>by
  rw[show trQ p [] t y=[(t,y)] from rfl,List.mem_singleton]at hx
  subst hx
  exact⟨by simpa using ht,hy,hq⟩
 | h::r,t,y,B,ho,hh,ht,hy,hq,x,hx=>by
  unfold trQ at hx
  rcases List.mem_cons.1 hx with rfl | hx
  ·exact⟨by rw[List.length_cons];dsimp only;omega,hy,hq⟩
  ·obtain⟨_,k2,k3⟩:=zu2 (p:=p) (t:=t) (h:=h) (y:=y) (by omega) hb ho.1
   have h1:=hh h List.mem_cons_self
   have h2:=zei t h
   have:=zwz hb hn r (t+h) (doQ p t h y).1.nx (B+13) ho.2 (fun g hg=>hh g (List.mem_cons_of_mem _ hg)) (by omega) (by omega) (fun q hq=>Nat.le_trans (k3 q hq) (by decide)) x hx
   rw[List.length_cons]
   exact⟨by omega,this.2⟩
theorem zqi(l:List Rat):nrm (fzs l)=fzs l:=by
 unfold nrm fzs
 rw[List.map_map]
 exact List.map_congr_left fun q _=>by show fz (fv (fz q))=fz q;rw[zbt]
theorem zz3{p:Pb}:∀(hs:List Rat) (t:Rat) (y:List Rat),accH (trieL p hs t y)=trieL p hs t y
 | [],t,y=>rfl
 | h::r,t,y=>by
  have ih:=zz3 (p:=p) r (t+h) (doQ p t h y).1.nx
  unfold trieL
  unfold accH at ih ⊢
  rw[List.filter_cons,if_pos rfl,List.map_cons,ih]
  congr 1
  unfold nrmR
  simp only[zbt]
  congr 1
  exact zqi y
theorem z1b{p:Pb}:∀(hs:List Rat) (t:Rat) (y:List Rat),(trieL p hs t y).map (·.t)++[fz (endQ p hs t y).1]=(trQ p hs t y).map fun x=>fz x.1
 | [],t,y=>rfl
 | h::r,t,y=>by
  have ih:=z1b (p:=p) r (t+h) (doQ p t h y).1.nx
  unfold trieL endQ trQ
  rw[List.map_cons,List.map_cons,List.cons_append,ih]
theorem z1c{p:Pb}:∀(hs:List Rat) (t:Rat) (y:List Rat),(trieL p hs t y).map (·.y)++[fzs (endQ p hs t y).2]=(trQ p hs t y).map fun x=>fzs x.2
 | [],t,y=>rfl
 | h::r,t,y=>by
  have ih:=z1c (p:=p) r (t+h) (doQ p t h y).1.nx
  unfold trieL endQ trQ
  rw[List.map_cons,List.map_cons,List.cons_append,ih]
theorem z1d{p:Pb}:∀(hs:List Rat) (t:Rat) (y:List Rat),(trieL p hs t y).map (·.h)=hs.map fz
 | [],t,y=>rfl
 | h::r,t,y=>by
  unfold trieL
  rw[List.map_cons,z1d r,List.map_cons]
def mrH(p:Pb)(hs:List Rat)(t:Rat)(y:List Rat):Hs:=⟨trieL p hs t y,fz (endQ p hs t y).1,fzs (endQ p hs t y).2⟩
theorem zz4(p:Pb)(hs:List Rat)(t:Rat)(y:List Rat):nodeT (mrH p hs t y)=(trQ p hs t y).map fun x=>fz x.1:=by
 unfold nodeT mrH
 dsimp only
 rw[zz3,zbt,z1b]
theorem zz5(p:Pb)(hs:List Rat)(t:Rat)(y:List Rat):nodeY (mrH p hs t y)=(trQ p hs t y).map fun x=>fzs x.2:=by
 unfold nodeY mrH
 dsimp only
 rw[zz3,zqi,z1c]
theorem zw0(p:Pb)(hs:List Rat)(t:Rat)(y:List Rat):szsH (mrH p hs t y)=hs.map fz:=by
 unfold szsH mrH
 dsimp only
 rw[zz3,z1d]
theorem znk{p:Pb}:∀(hs:List Rat) (t:Rat) (y:List Rat),(trieL p hs t y).length=hs.length
 | [],t,y=>rfl
 | h::r,t,y=>by unfold trieL;rw[List.length_cons,znk r,List.length_cons]
theorem zqj{p:Pb}:∀(hs:List Rat) (t:Rat) (y:List Rat),endQ p hs t y∈trQ p hs t y
 | [],t,y=>List.mem_singleton.2 rfl
 | h::r,t,y=>by unfold trQ endQ;exact List.mem_cons_of_mem _ (zqj r _ _)
theorem zfz{p:Pb}:∀(hs:List Rat) (t:Rat) (y:List Rat) (r:Tr),okQ p hs t y→r∈trieL p hs t y→∃x∈trQ p hs t y,∃h∈hs,(doQ p x.1 h x.2).2.1=0∧r=⟨fz x.1,fz h,fz h,fz (normR (doQ p x.1 h x.2).1.er),fzs x.2,true⟩
 | [],t,y,r,_,hr=>by cases hr
 | h::l,t,y,r,ho,hr=>by
  unfold trieL at hr
  unfold trQ
  rcases List.mem_cons.1 hr with rfl | hr
  ·exact⟨(t,y),List.mem_cons_self,h,List.mem_cons_self,ho.1,rfl⟩
  ·obtain⟨x,hx,g,hg,h1,h2⟩:=zfz l _ _ r ho.2 hr
   exact⟨x,List.mem_cons_of_mem _ hx,g,List.mem_cons_of_mem _ hg,h1,h2⟩
theorem z9z{p:Pb}(hb:p.s.b.length≤3){n:Nat}(hn:p.t.outs.length=n)(hn6:n≤6){hs:List Rat}{t:Rat}{y:List Rat}(ho:okQ p hs t y)(hh:∀h∈hs,sz h≤12)(hl:hs.length≤20)(ht:sz t≤200)(hy:y.length=n)(hq:∀q∈y,sz q≤200):HsS (mrH p hs t y) 1000:=by
 have hsz:=zwz hb hn hs t y 200 ho hh ht hy hq
 have he:=hsz _ (zqj hs t y)
 refine⟨by unfold mrH;dsimp only;rw[znk];omega,by unfold mrH;dsimp only;rw[zas];omega,fun u hu=>?_,by unfold mrH;dsimp only;rw[zaj];omega,fun r hr u hu=>?_,fun r hr u hu=>?_,fun r hr=>?_⟩
 ·obtain⟨v,hv,rfl⟩:=List.mem_map.1 hu
  rw[zas]
  exact Nat.le_trans (he.2.2 v hv) (by decide)
 ·obtain⟨x,hx,h,hhm,hk,rfl⟩:=zfz hs t y r ho hr
  have h1:=hsz x hx
  have h2:=hh h hhm
  obtain⟨_,k5⟩:=z0v (p:=p) (t:=x.1) (h:=h) (y:=x.2) (by omega) hb (by omega) hk
  have h3:sz (normR (doQ p x.1 h x.2).1.er)≤129:=by
   unfold normR
   exact zlb (by decide) _ _ (by rw[zgl];decide) k5
  simp only[Tr.nums,List.mem_cons,List.not_mem_nil,or_false]at hu
  rcases hu with rfl | rfl | rfl | rfl
  ·rw[zas];omega
  ·rw[zas];omega
  ·rw[zas];omega
  ·rw[zas];omega
 ·obtain⟨x,hx,h,hhm,hk,rfl⟩:=zfz hs t y r ho hr
  obtain⟨v,hv,rfl⟩:=List.mem_map.1 hu
  rw[zas]
  exact Nat.le_trans ((hsz x hx).2.2 v hv) (by decide)
 ·obtain⟨x,hx,h,hhm,hk,rfl⟩:=zfz hs t y r ho hr
  dsimp only
  rw[zaj]
  have:=(hsz x hx).2.1
  omega
class CSpan2 (T:Tbl):Prop where
def prtQ(t h s:Rat):Rat:=(s-t)/h
def facA(h x y:Rat):List Rat:=[y*y*(1+2*x),x*x*(3 + -2*x),h*x*y*y,h*x*x * -y]
def facS(h x y:Rat):List Rat:=[-(6*x*y/h),6*x*y/h,y*(1 + -3*x),x*(-2+3*x)]
def mix4(c:List Rat)(y0 y1 f0 f1:List Fz):List Rat:=mixF ((fzs c).zip [y0,y1,f0,f1]) (List.replicate y0.length 0)
def plcL(s:Rat):List Fz→Nat→Option Nat
 | [],_=>none
 | t::l,i=>if s≤fv t then some i else plcL s l (i+1)
def plcN(s:Rat):List Fz→Option Nat
 | []=>none
 | t::l=>if s<fv t then none else plcL s l 0
def placeV:Option Nat→AV
 | some i=>.tup [.i .i64 i,.b true]
 | none=>.tup [.i .i64 (-1),.b false]
section
variable{T:Tbl}[CLimb T][CNat T][CProd T][CTwos T][CQuot T][CQuotD T][CWhole T][CCommon T][CFrac T][CFrac3 T][CFrac5 T][CPow T][CTape T][CGauge T][CEval T][CRun T][CIfc T][CDigits T][CText T][CJoin T][CRow T][CPast T][CPast2 T][CLex T][CScheme T][CStep T][CSpan T][CSpan2 T]
def stPcT(s:Fz)(l:List Fz)(i:Nat):St:=⟨[(3,.ptr (.loc 3) 1 3 0 0),(25,.sl (rowF l) .an),(26,.i .i64 l.length),(27,.i .i64 i)],[(.loc 3,⟨1,.str,3,[celF s]⟩)],3⟩
def endPc:Option Nat→Ex×St
 | some i=>(.r,⟨[(4,.i .i64 i),(5,.b true)],[],2⟩)
 | none=>(.n,⟨[],[],2⟩)
end
class CLaw11b (T:Tbl):Prop where
class CRow2 (T:Tbl):Prop where
class CFig (T:Tbl):Prop where
def prim344:List AV→Option AV
 | [.s s,.s [47,46]]=>if s.length≤1000000 then some (.i .i64 (Lib.indexAny s [47,46])) else none
 | _=>none
def prim194:List AV→Option AV
 | [.s s,.s [c]]=>some (.i .i64 (Lib.indexByte s c))
 | _=>none
def prim361:List AV→Option AV
 | [.s s,.s [c]]=>some (.i .i64 (Lib.countByte s c))
 | _=>none
def prim343:List AV→Option AV
 | [.s [48],.i .i64 n]=>if 0≤n∧n≤64 then some (.s (List.replicate n.toNat 48)) else none
 | _=>none
class CStr (T:Tbl):Prop where
class CSplit (T:Tbl):Prop where
def splitC(c:UInt8):List UInt8→List (List UInt8)
 | []=>[[]]
 | b::l=>if b=c then []::splitC c l else match splitC c l with
  | []=>[[b]]
  | p::r=>(b::p)::r
section
variable{T:Tbl}[CStr T][CSplit T]
def stSp(c:UInt8)(N:Nat)(ps:List (List UInt8))(s:List UInt8):St:=
 ⟨[(0,.s s),(1,.s [c]),(2,.i .i64 0),(3,.i .i64 ((N:Int)-1)),(9,.bs (.loc 31) 1 1 0 N),(10,.i .i64 ps.length)],[(.loc 31,⟨1,.own,1,rowsT ps++List.replicate (N-ps.length) [.s []]⟩)],3⟩
end
abbrev flt(k a:Int):AV:=.agg [.i .i64 k,.i .i64 0,.i .i64 0,.i .i64 a]
def isCut(c:UInt8):Bool:=c == 47 || c == 46
def cutN:List UInt8→Nat
 | []=>0
 | c::r=>if isCut c then 0 else cutN r+1
def figB(z:Int)(neg:Bool)(s:List UInt8)(c:UInt8)(at_:Nat):Rat×Int×Int:=
 let rest:=s.drop at_
 if 0≤wrongI rest then (0,1,wrongI rest+at_)
 else if c=47 then (if rd rest=0 then (0,2,at_) else (mkRat z (rd rest),0,0))
 else (mkRat (sg neg (z.natAbs*10^rest.length+rd rest)) (10^rest.length),0,0)
def figR(s:List UInt8):Rat×Int×Int:=
 let first:=s.take (cutN s)
 if 0≤wrongZ first then (0,1,wrongZ first+minus first)
 else if cutN s<s.length then figB (readZ first) (s.head? = some 45) s (s.getD (cutN s) 0) (cutN s+1)
 else (mkRat (readZ first) 1,0,0)
def readL:List (List UInt8)→Nat→List Rat→List Rat×Int×Int
 | [],_,acc=>(acc,0,0)
 | w::ws,k,acc=>if (figR w).2.1=0 then readL ws (k+w.length+1) (acc++[(figR w).1]) else ([],(figR w).2.1,(figR w).2.2+k)
def rowR(s:List UInt8):List Rat×Int×Int:=if s=[] then ([],0,0) else readL (splitC 44 s) 0 []
section
variable{T:Tbl}[CLimb T][CNat T][CProd T][CTwos T][CQuot T][CQuotD T][CDigits T][CText T][CWhole T][CCommon T][CFrac T][CFrac2 T][CStr T][CSplit T][CPow T][CFig T][CJoin T][CRow T][CRow2 T]
def stRR(ws:List (List UInt8))(y:Nat×Nat×List Rat):St:=
 ⟨[(3,.ptr (.loc 3) 1 4 0 0),(4,.bs (.loc 4) 2 3 0 y.2.2.length),(5,.i .i64 y.2.1),(14,.sl (rowsT ws) .an),(15,.i .i64 ws.length),(16,.i .i64 y.1)],
  [(.loc 3,⟨1,.str,4,[[.i .i64 0,.i .i64 0,.i .i64 0,.i .i64 0]]⟩),(.loc 4,⟨2,.own,3,rowF (fzs y.2.2)⟩)],4⟩
def resRR(r:List Rat×Int×Int):Option (Ex×St):=
 if r.2.1=0 then some (.n,⟨[(3,.ptr (.loc 3) 1 4 0 0),(4,.bs (.loc 4) 2 3 0 r.1.length)],[(.loc 3,⟨1,.str,4,[[.i .i64 0,.i .i64 0,.i .i64 0,.i .i64 0]]⟩),(.loc 4,⟨2,.own,3,rowF (fzs r.1)⟩)],4⟩)
 else some (.r,⟨[(2,.sl [] .an),(3,.ptr (.loc 3) 1 4 0 0)],[(.loc 3,⟨1,.str,4,[[.i .i64 r.2.1,.i .i64 0,.i .i64 0,.i .i64 r.2.2]]⟩)],3⟩)
end
end Go.Ab
section
namespace Go.Ab
end Go.Ab
end
namespace Go.Ab
def longT(t:Tp)(many words:Nat):Bool:=((t.code.take many).any fun i=>decide (words<fsz i.n)) || decide (many<t.code.length) || decide (many<t.outs.length)
theorem zif{t:Tp}{many words:Nat}(h:longT t many words=false):t.code.length≤many∧t.outs.length≤many∧∀i∈t.code,fsz i.n≤words:=by
 unfold longT at h
 simp only[Bool.or_eq_false_iff,decide_eq_false_iff_not,List.any_eq_false,decide_eq_true_eq]at h
 obtain⟨⟨h1,h2⟩,h3⟩:=h
 rw[List.take_of_length_le (by omega)]at h1
 exact⟨by omega,by omega,fun x hx=>by have:=h1 x hx;omega⟩
def longP(x:PoF)(many words:Nat):Bool:=decide (words<fsz x.t) || longB x.y many words || longB x.p many words
section
variable{T:Tbl}[CRef02 T][CRef04 T][CRef05 T][CRef07 T][CRef06 T][CRef08 T][CRef09 T][CRef11 T][CLaw09 T][CLaw11 T][CLaw24 T]
def stLT(t:Tp)(many words i:Nat):St:=⟨[(1,.i .i64 many),(2,.i .i64 words),(3,.ptr (.loc 3) 1 4 0 0),(7,.i .i64 i)],[(.loc 3,bxT t)],3⟩
def enLT(t:Tp)(many:Nat):Ex×St:=(.n,⟨[(1,.i .i64 many),(3,.ptr (.loc 3) 1 4 0 0)],[(.loc 3,bxT t)],3⟩)
theorem zrr(t:Tp)(many words:Nat)(hm:many≤1000) :
  loopN T 0 0 (.norm false [1,3]) l379_0 (stLT t many words 0)=if (t.code.take many).any (fun i=>decide (words<fsz i.n))=true then some (.r,⟨[(6,.b true)],[],2⟩) else some (enLT t many):=by
 have e0:t.code.take many=(t.code.take many).drop 0:=rfl
 rw[e0]
 obtain⟨n,hn⟩:∃n,n=(t.code.take many).length:=⟨_,rfl⟩
 have hn':n≤many∧n≤t.code.length∧(n=many∨n=t.code.length):=by rw[hn,List.length_take];omega
 refine zax (stLT t many words) n (fun i=>if ((t.code.take many).drop i).any (fun x=>decide (words<fsz x.n))=true then some (.r,⟨[(6,.b true)],[],2⟩) else some (enLT t many)) (fun i hi=>?_) ?_
 ·have h1:i<t.code.length:=by omega
  have h2:(i:Int)<t.code.length:=by omega
  have h3:i<many:=by omega
  have h4:(i:Int)<many:=by omega
  have hg:t.code[i]? = some (t.code[i]'h1):=List.getElem?_eq_getElem h1
  have hws2:=za5 h3 (by omega)
  have c:=zdk (T:=T) (t.code[i]'h1).n words
  have key:((t.code.take many).drop i).any (fun x=>decide (words<fsz x.n))=(decide (words<fsz (t.code[i]'h1).n) || ((t.code.take many).drop (i+1)).any fun x=>decide (words<fsz x.n)):=by
   rw[List.drop_eq_getElem_cons (by rw[←hn];exact hi),List.any_cons,List.getElem_take]
  by_cases he:words<fsz (t.code[i]'h1).n
  ·right
   rw[if_pos (by rw[key,decide_eq_true he,Bool.true_or])]
   rw[decide_eq_true he]at c
   unfold stLT bxT
   clear key he hn hn'
   constructor<;>simp -implicitDefEqProofs[l379_0,h1,h2,h3,h4,hg,c]
  ·left
   refine⟨?_,by simp only[key,decide_eq_false he,Bool.false_or]⟩
   rw[decide_eq_false he]at c
   unfold stLT bxT
   clear key he hn hn'
   simp -implicitDefEqProofs[l379_0,h1,h2,h3,h4,hg,hws2,c]
 ·rw[List.drop_of_length_le (by omega),if_neg (by simp)]
  unfold stLT enLT bxT
  by_cases hc:n<t.code.length
  ·have h5:n=many:=by omega
   have h6:(n:Int)<t.code.length:=by omega
   subst h5
   constructor<;>simp -implicitDefEqProofs[l379_0,hc,h6]
  ·have h5:¬ (n:Int)<t.code.length:=by omega
   constructor<;>simp -implicitDefEqProofs[l379_0,hc,h5]
theorem zrs(t:Tp)(many words:Nat)(hm:many≤1000):callF T 379 [etp t,.i .i64 many,.i .i64 words]=some (.b (longT t many words)):=by
 have h:=zrr (T:=T) t many words hm
 unfold stLT enLT bxT at h
 simp only[Int.natCast_zero]at h
 unfold longT
 generalize ((t.code.take many).any fun i=>decide (words<fsz i.n))=B at *
 obtain⟨code,outs,dim,par⟩:=t
 dsimp only at *
 rw[f379 _ rfl,b379]
 cases B with
 | true=>
  rw[if_pos rfl]at h
  simp -implicitDefEqProofs[h]
 | false=>
  rw[if_neg (by decide)]at h
  by_cases h1:many<code.length
  ·have h2:(many:Int)<code.length:=by omega
   simp -implicitDefEqProofs[h,h1,h2]
  ·have h2:¬ (many:Int)<code.length:=by omega
   have e:decide ((many:Int)<outs.length)=decide (many<outs.length):=by
    by_cases h3:many<outs.length
    ·rw[decide_eq_true h3,decide_eq_true (by omega)]
    ·rw[decide_eq_false h3,decide_eq_false (by omega)]
   simp -implicitDefEqProofs[h,h1,h2,e]
@[simp] theorem zah7(l:List Int):Option.all (fun r=>decide (r.length=1)) (ints l).head? = true:=by cases l<;>rfl
def fC:BId:=.fld (.loc 3) 0
def stTT(t:Tp)(i:Nat):St:=⟨[(1,.ptr (.loc 1) 1 4 0 0),(2,.ptr (.loc 2) 2 4 0 0),(3,.ptr (.loc 3) 3 4 0 0),(4,.i .i64 i)],
 [(.loc 1,bxT t),(.loc 2,⟨2,.str,4,[[.sl [] .an,.sl [] .an,.i .i64 0,.i .i64 0]]⟩),(.loc 3,⟨3,.str,4,[[.bs fC 4 6 0 i,.bs (.loc 13) 5 1 0 t.outs.length,.i .i64 t.dim,.i .i64 t.par]]⟩),(fC,⟨4,.own,6,rowI (t.code.take i)⟩),(.loc 13,⟨5,.own,1,ints t.outs⟩)],7⟩
theorem zu6(t:Tp)(i:Nat)(hi:i<t.code.length)(hl:t.code.length≤1000):evX (orc T) T 0 l382_0 (stTT t i)=some (.n,stTT t (i+1)):=by
 have hws:=za5 hi (by omega)
 have hb:i≤4294967295:=by omega
 have hg:t.code[i]? = some (t.code[i]'hi):=List.getElem?_eq_getElem hi
 have hn:=zkv (T:=T) (t.code[i]'hi).n
 have hi':(i:Int)<t.code.length:=by omega
 have hml:(t.code.take i).length=i:=by simp;omega
 have ht:List.take i (t.code.take i)=t.code.take i:=List.take_of_length_le (by omega)
 have e:=zie t.code hi
 have hp:=zw5 hml (t.code[i]'hi)
 rw[ht]at hp
 unfold stTT bxT fC
 rw[e]
 clear e
 generalize t.code.take i=M at *
 simp -implicitDefEqProofs[l382_0,hi,hi',hws,hb,hg,hn,hml,ht,hp]
theorem zyq(t:Tp)(hl:t.code.length≤1000):loopN T 0 0 (.norm false [2,3]) l382_0 (stTT t 0) =
  some (.n,⟨[(2,.ptr (.loc 2) 1 4 0 0),(3,.ptr (.loc 3) 2 4 0 0)],[(.loc 2,⟨1,.str,4,[[.sl [] .an,.sl [] .an,.i .i64 0,.i .i64 0]]⟩),(.loc 3,⟨2,.str,4,[[.bs fC 3 6 0 t.code.length,.bs (.loc 13) 4 1 0 t.outs.length,.i .i64 t.dim,.i .i64 t.par]]⟩),(fC,⟨3,.own,6,rowI t.code⟩),(.loc 13,⟨4,.own,1,ints t.outs⟩)],6⟩):=by
 refine zak (stTT t) t.code.length _ (fun i hi=>zu6 t i hi hl) ?_
 unfold stTT bxT fC
 rw[List.take_of_length_le (Nat.le_refl _)]
 constructor<;>simp -implicitDefEqProofs[l382_0]
theorem zyr(t:Tp)(hl:t.code.length≤1000)(ho:t.outs.length≤1000):callF T 382 [etp t]=some (etp t):=by
 have ht:List.take t.code.length t.code=t.code:=List.take_of_length_le (by omega)
 have hs:List.take t.outs.length t.outs=t.outs:=List.take_of_length_le (by omega)
 have h:=zyq (T:=T) t hl
 unfold stTT bxT fC at h
 simp only[Int.natCast_zero,List.take_zero,z0b]at h
 obtain⟨code,outs,dim,par⟩:=t
 dsimp only at *
 have ho2:outs.length≤4294967296:=by omega
 rw[f382 _ rfl,b382]
 simp -implicitDefEqProofs[ht,hs,ho2,h]
end
def longSm(s:Sm)(many words:Nat):Bool:=decide (50<s.nm.length) || decide (many<s.a.length) || longB s.b many words || longB s.c many words || longB s.e many words || s.a.any fun r=>longB r many words
def longPb(p:Pb)(many stages words:Nat):Bool:=longT p.t many words || longSm p.s stages 4 || longB p.p 6 words
def longR(r:Tr)(words:Nat):Bool:=longB r.nums 4 words || longB r.y 8 words
def longH(h:Hs)(many words:Nat):Bool:=decide (many<h.l.length) || decide (words<fsz h.t) || longB h.y 8 words || h.l.any fun r=>longR r words
theorem zm1{s:Sm}{many words:Nat}(h:longSm s many words=false)(hm:many≤1000)(hw:words≤300):SmS s∧(∀x∈s.c,fsz x≤words)∧s.b.length≤many∧s.a.length≤many∧s.c.length≤many∧s.e.length≤many∧(∀r∈s.a,r.length≤many):=by
 unfold longSm at h
 simp only[Bool.or_eq_false_iff,decide_eq_false_iff_not,List.any_eq_false]at h
 obtain⟨⟨⟨⟨⟨h1,h2⟩,h3⟩,h4⟩,h5⟩,h6⟩:=h
 obtain⟨b1,b2⟩:=zb2 h3
 obtain⟨c1,c2⟩:=zb2 h4
 obtain⟨e1,e2⟩:=zb2 h5
 have ha:∀r∈s.a,r.length≤many∧∀x∈r,fsz x≤words:=fun r hr=>zb2 (by grind)
 exact⟨⟨by omega,by omega,by omega,by omega,by omega,fun x hx=>Nat.le_trans (c2 x hx) hw,fun r hr=>⟨Nat.le_trans (ha r hr).1 hm,fun x hx=>Nat.le_trans ((ha r hr).2 x hx) hw⟩,fun x hx=>Nat.le_trans (b2 x hx) hw,fun x hx=>Nat.le_trans (e2 x hx) hw⟩,c2,b1,by omega,c1,e1,fun r hr=>(ha r hr).1⟩
section
variable{T:Tbl}[CLimb T][CNat T][CProd T][CTwos T][CQuot T][CQuotD T][CWhole T][CCommon T][CFrac T][CFrac3 T][CFrac5 T][CPow T][CTape T][CGauge T][CEval T][CRun T][CIfc T][CDigits T][CText T][CJoin T][CRow T]
variable[CRef02 T][CRef04 T][CRef05 T][CRef07 T][CRef06 T][CRef08 T][CRef09 T][CRef11 T][CRef12 T][CLaw09 T][CLaw11 T][CLaw12 T][CGrid T][CLaw24 T][CLong33 T][CTo33 T]
def bxS3(s:Sm):Box:=⟨1,.str,5,[[.s s.nm,.sl (rowF s.c) .an,.sl (matF s.a) .an,.sl (rowF s.b) .an,.sl (rowF s.e) .an]]⟩
def stL30(s:Sm)(many words i:Nat):St:=⟨[(1,.i .i64 many),(2,.i .i64 words),(3,.ptr (.loc 3) 1 5 0 0),(7,.i .i64 i)],[(.loc 3,bxS3 s)],3⟩
theorem zr0(s:Sm)(many words:Nat)(hm:many≤1000):callF T 515 [esm s,.i .i64 many,.i .i64 words]=some (.b (longSm s many words)):=by
 have cb:=zb1 (T:=T) s.b many words hm
 have cc:=zb1 (T:=T) s.c many words hm
 have ce:=zb1 (T:=T) s.e many words hm
 have hlp:s.a.length≤many→loopN T 0 0 (.norm false []) l515_0 (stL30 s many words 0)=if (s.a.drop 0).any (fun r=>longB r many words)=true then some (.r,⟨[(6,.b true)],[],2⟩) else some (.n,⟨[],[],2⟩):=by
  intro hl
  refine zax (stL30 s many words) s.a.length (fun i=>if (s.a.drop i).any (fun r=>longB r many words)=true then some (.r,⟨[(6,.b true)],[],2⟩) else some (.n,⟨[],[],2⟩)) (fun i hi=>?_) ?_
  ·have hi':(i:Int)<s.a.length:=by omega
   have hws:=za5 hi (by omega)
   have c:=zb1 (T:=T) (s.a[i]'hi) many words hm
   have key:(s.a.drop i).any (fun r=>longB r many words)=(longB (s.a[i]'hi) many words || (s.a.drop (i+1)).any fun r=>longB r many words):=by rw[List.drop_eq_getElem_cons hi,List.any_cons]
   generalize hq:s.a[i]'hi=q at *
   obtain⟨nm,c',a,b,e⟩:=s
   cases hL:longB q many words with
   | true=>
    right
    rw[hL]at c
    rw[if_pos (by rw[key,hL,Bool.true_or])]
    unfold stL30 bxS3
    constructor<;>simp -implicitDefEqProofs[l515_0,hi,hi',hq,c]
   | false=>
    left
    rw[hL]at c
    refine⟨?_,by grind⟩
    unfold stL30 bxS3
    simp -implicitDefEqProofs[l515_0,hi,hi',hq,hws,c]
  ·simp only[List.drop_length,List.any_nil,Bool.false_eq_true,if_false]
   unfold stL30 bxS3
   constructor<;>simp -implicitDefEqProofs[l515_0]
 rw[List.drop_zero]at hlp
 unfold stL30 bxS3 at hlp
 unfold longSm
 rw[f515 _ rfl,b515]
 obtain⟨nm,c,a,b,e⟩:=s
 dsimp only at *
 by_cases h1:50<nm.length
 ·have h1':(50:Int)<nm.length:=by omega
  simp -implicitDefEqProofs[h1,h1']
 have h1':¬ (50:Int)<nm.length:=by omega
 by_cases h2:many<a.length
 ·have h2':(many:Int)<a.length:=by omega
  simp -implicitDefEqProofs[h1,h1',h2,h2']
 have h2':¬ (many:Int)<a.length:=by omega
 have hl:=hlp (by omega)
 generalize longB b many words=B1 at *
 generalize longB c many words=B2 at *
 generalize longB e many words=B3 at *
 generalize a.any (fun r=>longB r many words)=B4 at *
 cases B1 with
 | true=>simp -implicitDefEqProofs[h1,h1',h2,h2',cb]
 | false=>
 cases B2 with
 | true=>simp -implicitDefEqProofs[h1,h1',h2,h2',cb,cc]
 | false=>
 cases B3 with
 | true=>simp -implicitDefEqProofs[h1,h1',h2,h2',cb,cc,ce]
 | false=>
  cases B4<;>simp at hl<;>simp -implicitDefEqProofs[h1,h1',h2,h2',cb,cc,ce,hl]
theorem zr1(p:Pb)(many stages words:Nat)(hm:many≤1000)(hs:stages≤1000):callF T 496 [epb p,.i .i64 many,.i .i64 stages,.i .i64 words]=some (.b (longPb p many stages words)):=by
 have c1:=zrs (T:=T) p.t many words hm
 have c2:=zr0 (T:=T) p.s stages 4 hs
 have c3:=zb1 (T:=T) p.p 6 words (by decide)
 replace c2:callF T 515 [esm p.s,.i .i64 stages,.i .i64 4]=_:=c2
 replace c3:callF T 286 [.sl (rowF p.p) .an,.i .i64 6,.i .i64 words]=_:=c3
 unfold longPb
 rw[f496 _ rfl,b496]
 generalize longT p.t many words=A at *
 generalize longSm p.s stages 4=B at *
 obtain⟨⟨code,outs,dim,par⟩,⟨nm,c,a,b,e⟩,pp,bits⟩:=p
 cases A with
 | true=>simp -implicitDefEqProofs[c1]
 | false=>
 cases B with
 | true=>simp -implicitDefEqProofs[c1,c2]
 | false=>simp -implicitDefEqProofs[c1,c2,c3]
def bxH3(h:Hs):Box:=⟨1,.str,5,[[.sl (rowTr h.l) .an,.b h.t.1,.sl (u32s h.t.2.1) .an,.sl (u32s h.t.2.2) .an,.sl (rowF h.y) .an]]⟩
def stL37(h:Hs)(words i:Nat):St:=⟨[(2,.i .i64 words),(3,.ptr (.loc 3) 1 5 0 0),(7,.i .i64 i)],[(.loc 3,bxH3 h)],3⟩
theorem zy4(s:Sm)(hs:SmS s):callF T 527 [esm s]=some (esm s):=by
 have c1:=zdx (T:=T) s.c (by have:=hs.cl;omega)
 have c2:=zyp (T:=T) s.a (by have:=hs.al;omega) (fun r hr=>by have:=(hs.a r hr).1;omega)
 have c3:=zdx (T:=T) s.b (by have:=hs.bl;omega)
 have c4:=zdx (T:=T) s.e (by have:=hs.el;omega)
 rw[f527 _ rfl,b527]
 obtain⟨nm,c,a,b,e⟩:=s
 simp -implicitDefEqProofs[c1,c2,c3,c4]
theorem zy5(p:Pb)(hp:PbS p)(hc:p.t.code.length≤1000)(ho:p.t.outs.length≤1000):callF T 507 [epb p]=some (epb p):=by
 have c1:=zyr (T:=T) p.t hc ho
 have c2:=zy4 (T:=T) p.s hp.s
 have c3:=zdx (T:=T) p.p (by have:=hp.pl;omega)
 rw[f507 _ rfl,b507]
 obtain⟨⟨code,outs,dim,par⟩,⟨nm,c,a,b,e⟩,pp,bits⟩:=p
 simp -implicitDefEqProofs[c1,c2,c3]
def stTo(h:Hs)(i:Nat):St:=⟨[(1,.ptr (.loc 1) 1 5 0 0),(2,.ptr (.loc 2) 2 5 0 0),(3,.ptr (.loc 3) 3 5 0 0),(4,.i .i64 i)],
 [(.loc 1,bxH h),(.loc 2,⟨2,.str,5,[[.sl [] .an,.b false,.sl [] .an,.sl [] .an,.sl [] .an]]⟩),(.loc 3,⟨3,.str,5,[[.bs fC 4 14 0 i,.b h.t.1,.sl (u32s h.t.2.1) .an,.sl (u32s h.t.2.2) .an,.sl (rowF h.y) .an]]⟩),(fC,⟨4,.own,14,rowTr (h.l.take i)⟩)],6⟩
end
structure FrV where
 t:Fz
 h:Fz
 y:List Fz
abbrev efr(x:FrV):AV:=.agg [.b x.t.1,.sl (u32s x.t.2.1) .an,.sl (u32s x.t.2.2) .an,.b x.h.1,.sl (u32s x.h.2.1) .an,.sl (u32s x.h.2.2) .an,.sl (rowF x.y) .an]
def longFr(x:FrV):Bool:=decide (2<fsz x.t) || decide (2<fsz x.h) || longB x.y 4 2
def stKm(p:Pb)(c:Kp)(NY:List (List Fz))(L:List (Nat×Nat))(e i:Nat):St:=
 ⟨[(9,.ptr (.loc 9) 1 11 0 0),(12,.ptr (.loc 12) 2 4 0 0),(14,.sl (matF NY) .an),(15,.sl (rowSg L) .an),(16,.i .i64 (e:Int)),(17,.i .i64 (i:Int))],[(.loc 9,⟨1,.str,11,[celP p]⟩),(.loc 12,bxKp 2 c)],4⟩
def stKi(p:Pb)(c:Kp)(NY M:List (List Fz))(L:List (Nat×Nat))(i j:Nat):St:=
 ⟨[(9,.ptr (.loc 9) 1 11 0 0),(12,.ptr (.loc 12) 2 4 0 0),(14,.sl (matF NY) .an),(15,.sl (rowSg L) .an),(17,.i .i64 (i:Int)),(18,.sl (matF M) .an),(20,.i .i64 (j:Int))],[(.loc 9,⟨1,.str,11,[celP p]⟩),(.loc 12,bxKp 2 c)],4⟩
def enKi(p:Pb)(c:Kp)(NY:List (List Fz))(L:List (Nat×Nat))(i:Nat):Ex×St:=
 (.n,⟨[(9,.ptr (.loc 9) 1 11 0 0),(12,.ptr (.loc 12) 2 4 0 0),(14,.sl (matF NY) .an),(15,.sl (rowSg L) .an),(17,.i .i64 (i:Int))],[(.loc 9,⟨1,.str,11,[celP p]⟩),(.loc 12,bxKp 2 c)],4⟩)
section
variable{T:Tbl}[CKeep T][CLaw43 T]
variable[CLimb T][CNat T][CProd T][CTwos T][CQuot T][CQuotD T][CWhole T][CCommon T][CFrac T][CStepD T][CRow T]
theorem zom:callF T 498 []=some (.b true):=by
 have c1:=zgd (T:=T) 5 2
 have c2:=ze6 (T:=T) 5 2
 have e1:segK 2 5=[(4,5),(2,4),(0,2)]:=by decide
 have e2:mrkK 2 5=[0,2,4]:=by decide
 rw[e1]at c1
 rw[e2]at c2
 rw[f498 _ rfl,b498]
 simp -implicitDefEqProofs[c1,c2,rowSg,natR]
theorem zah8(p:Pb)(c:Kp)(NY M:List (List Fz))(L:List (Nat×Nat))(i j:Nat)(s:Nat×Nat)(m r:List Fz)(hs:L[i]? = some s)(hm:M[j]? = some m)(hr:NY[s.1+j]? = some r)(hl:NY.length≤1000)
  (c1:callF T 265 [.sl (rowF m) .an,.sl (rowF r) .an]=some (.b true)) :
  evX (orc T) T 0 l495_0 (stKi p c NY M L i j)=some (.n,stKi p c NY M L i (j+1)):=by
 obtain⟨h1,h2⟩:=List.getElem?_eq_some_iff.1 hs
 obtain⟨h3,h4⟩:=List.getElem?_eq_some_iff.1 hm
 obtain⟨h5,h6⟩:=List.getElem?_eq_some_iff.1 hr
 have h1':(i:Int)<(L.length:Int):=by omega
 have h3':(j:Int)<(M.length:Int):=by omega
 obtain⟨F,N⟩:=s
 dsimp only at *
 have hw:IntKind.wrap .i64 ((F:Int)+(j:Int))=((F+j:Nat):Int):=by rw[zac _ (by omega)];omega
 have hwj:IntKind.wrap .i64 ((j:Int)+1)=((j+1:Nat):Int):=by rw[zac _ (by omega)];omega
 have h5':((F+j:Nat):Int)<(NY.length:Int):=by omega
 have h5n:¬ NY.length≤F+j:=by omega
 unfold stKi celP
 generalize F+j=at_ at *
 obtain⟨⟨code,outs,dim,par⟩,⟨nm,cc,a1,b,e⟩,pp,bits⟩:=p
 obtain⟨ev,S,ts,ys⟩:=c
 dsimp only
 simp -implicitDefEqProofs[l495_0,hs,h1,h1',h2,hm,h3,h3',h4,hr,h5,h5',h5n,h6,hw,hwj,c1]
theorem zys(p:Pb)(c:Kp)(NY M:List (List Fz))(L:List (Nat×Nat))(i:Nat):isEx (evX (orc T) T 0 l495_0 (stKi p c NY M L i M.length))=true ∧
  finX 0 2 (.norm false [9,12,14,15,17]) (evX (orc T) T 0 l495_0 (stKi p c NY M L i M.length))=some (enKi p c NY L i):=by
 unfold stKi enKi celP
 obtain⟨⟨code,outs,dim,par⟩,⟨nm,cc,a1,b,e⟩,pp,bits⟩:=p
 obtain⟨ev,S,ts,ys⟩:=c
 dsimp only
 constructor<;>simp -implicitDefEqProofs[l495_0]
theorem zyt(p:Pb)(c:Kp)(NY M:List (List Fz))(L:List (Nat×Nat))(i F N:Nat)(hs:L[i]? = some (F,N))(hFN:F≤N)(hN:N≤1000)(hL:L.length≤1000)(hM:M.length=N-F)
  (c1:callF T 506 [epb p,ekp c,.agg [.i .i64 (F:Int),.i .i64 (N:Int)]]=some (.tup [.sl (matF M) .an,fltA 0 0 0 0]))
  (hlo:loopN T 0 2 (.norm false [9,12,14,15,17]) l495_0 (stKi p c NY M L i 0)=some (enKi p c NY L i)) :
  evX (orc T) T 0 l495_1 (stKm p c NY L N i)=some (.n,stKm p c NY L F (i+1)):=by
 obtain⟨h1,h2⟩:=List.getElem?_eq_some_iff.1 hs
 have h1':(i:Int)<(L.length:Int):=by omega
 have hws:=za5 h1 (by omega)
 have hw:IntKind.wrap .i64 ((N:Int)-(F:Int))=((N-F:Nat):Int):=by rw[zac _ (by omega)];omega
 unfold stKi enKi celP at hlo
 unfold stKm celP
 rw[show (((0:Nat):Int))=0 from rfl]at hlo
 obtain⟨⟨code,outs,dim,par⟩,⟨nm,cc,a1,b,e⟩,pp,bits⟩:=p
 obtain⟨ev,S,ts,ys⟩:=c
 dsimp only at *
 simp -implicitDefEqProofs[l495_1,hs,h1,h1',h2,hws,hw,c1,hlo,hM]
theorem z9a(p:Pb)(c:Kp)(NY:List (List Fz))(L:List (Nat×Nat))(e:Nat):isEx (evX (orc T) T 0 l495_1 (stKm p c NY L e L.length))=true ∧
  finX 0 0 (.norm false [12,16]) (evX (orc T) T 0 l495_1 (stKm p c NY L e L.length))=some (.n,⟨[(12,.ptr (.loc 12) 1 4 0 0),(16,.i .i64 (e:Int))],[(.loc 12,bxKp 1 c)],3⟩):=by
 unfold stKm celP
 obtain⟨⟨code,outs,dim,par⟩,⟨nm,cc,a1,b,e⟩,pp,bits⟩:=p
 obtain⟨ev,S,ts,ys⟩:=c
 dsimp only
 constructor<;>simp -implicitDefEqProofs[l495_1]
variable[CRef02 T][CRef04 T][CRef05 T][CRef07 T][CRef06 T][CRef08 T][CRef09 T][CRef11 T]
theorem zrt(x:FrV):callF T 511 [efr x]=some (.b (longFr x)):=by
 have c1:=zdk (T:=T) x.t 2
 have c2:=zdk (T:=T) x.h 2
 have c3:=zb1 (T:=T) x.y 4 2 (by decide)
 replace c1:callF T 247 [efz x.t,.i .i64 2]=_:=c1
 replace c2:callF T 247 [efz x.h,.i .i64 2]=_:=c2
 replace c3:callF T 286 [.sl (rowF x.y) .an,.i .i64 4,.i .i64 2]=_:=c3
 unfold longFr
 generalize decide (2<fsz x.t)=A at *
 generalize decide (2<fsz x.h)=B at *
 generalize longB x.y 4 2=C at *
 obtain⟨⟨t0,t1,t2⟩,⟨h0,h1,h2⟩,y⟩:=x
 dsimp only at *
 rw[f511 _ rfl,b511]
 cases A with
 | true=>simp -implicitDefEqProofs[c1]
 | false=>
  cases B with
  | true=>simp -implicitDefEqProofs[c1,c2]
  | false=>simp -implicitDefEqProofs[c1,c2,c3]
end
abbrev tyFr:Ty:=.cons tyF (.cons tyF (.cons (.sl tyF) .nil))
theorem zx8{x:AV}(h:OkArg (true,tyFr) x):∃a:FrV,wkA x=efr a:=by
 obtain⟨cs,rfl,c1,c1',rfl,h1,c2,c2',rfl,h2,c3,c3',rfl,h3,rfl⟩:=h
 obtain⟨t,e1⟩:=zpq h1
 obtain⟨u,e2⟩:=zpq h2
 obtain⟨y,e3⟩:=zda h3
 refine⟨⟨t,u,y⟩,?_⟩
 rw[wkA]
 simp only[zer,e1,e2,e3]
 rfl
end Go.Ab
section
namespace Go.Proofs.YtdmkoclfdmgllaaGreat
open Go Go.Ab Go.ChangeShapes Go.WideShapes Go.ChangeAt Go.RowKit
theorem Tryz.own:ownKnob Tryz.prog.godebug=none:=by kernel_rfl
theorem Tryz.laidOut:laidOutB Tryz.prog=true:=by kernel_rfl
theorem Tryz.mixed:Tryz.prog.follows .mixedOrders=true:=by kernel_rfl
theorem tab_all:TOk Tryz.prog nu (fun u=>lTab.lookup u):=lTab_ok (sign_ok)
end Go.Proofs.YtdmkoclfdmgllaaGreat
end
namespace Go.Ab
theorem zkw{c m j:Nat}{s:Nat×Nat}(hc:1≤c)(h:(segL c m)[j]? = some s):s.1=j*c∧s.2=min (j*c+c) m∧j*c<m∧j<mrkN c m:=by
 unfold segL at h
 rw[List.getElem?_map]at h
 obtain⟨x,hx,rfl⟩:=Option.map_eq_some_iff.1 h
 obtain⟨g1,g2,g3⟩:=zkt hc hx
 subst g1
 exact⟨rfl,rfl,g2,g3⟩
def endS(m:Nat)(L:List (Nat×Nat)):Nat→Nat
 | 0=>m
 | i+1=>((L[i]?).map (·.1)).getD 0
theorem zyu{c m i:Nat}{s:Nat×Nat}(hc:1≤c)(h:(segL c m).reverse[i]? = some s):s.2=endS m (segL c m).reverse i∧endS m (segL c m).reverse (i+1)=s.1:=by
 have hl:=zgc c m
 have hi:i<(segL c m).length:=by
  have:=(List.getElem?_eq_some_iff.1 h).1
  simpa using this
 have h2:=h
 rw[List.getElem?_reverse hi]at h2
 obtain⟨g1,g2,g3,g4⟩:=zkw hc h2
 refine⟨?_,by show (((segL c m).reverse[i]?).map (·.1)).getD 0=s.1;rw[h];rfl⟩
 cases i with
 | zero=>
  show s.2=m
  have hge:¬ (mrkN c m)*c<m:=fun hh=>by
   have:=(zga (n:=m) (i:=mrkN c m) hc).2 hh
   omega
  have e:(segL c m).length-1-0+1=mrkN c m:=by omega
  rw[g2,←Nat.succ_mul,Nat.succ_eq_add_one,e]
  omega
 | succ i=>
  show s.2=(((segL c m).reverse[i]?).map (·.1)).getD 0
  obtain⟨s',hs'⟩:∃s',(segL c m).reverse[i]? = some s':=⟨_,List.getElem?_eq_getElem (by simp;omega)⟩
  rw[hs']
  rw[List.getElem?_reverse (by omega)]at hs'
  obtain⟨k1,k2,k3,k4⟩:=zkw hc hs'
  show s.2=s'.1
  have e:(segL c m).length-1-i=(segL c m).length-1-(i+1)+1:=by omega
  have hh:((segL c m).length-1-i)*c=((segL c m).length-1-(i+1))*c+c:=by
   conv=>lhs;rw[e]
   rw[Nat.add_mul,Nat.one_mul]
  rw[g2,k1,hh]
  rw[hh]at k3
  omega
theorem zyv{c m:Nat}(hc:1≤c):endS m (segL c m).reverse (segL c m).length=0:=by
 have hl:=zgc c m
 cases hn:(segL c m).length with
 | zero=>
  show m=0
  rcases Nat.eq_zero_or_pos m with h | h
  ·exact h
  ·have:=(zga (n:=m) (i:=0) hc).2 (by omega)
   omega
 | succ i=>
  show (((segL c m).reverse[i]?).map (·.1)).getD 0=0
  obtain⟨s',hs'⟩:∃s',(segL c m).reverse[i]? = some s':=⟨_,List.getElem?_eq_getElem (by simp;omega)⟩
  rw[hs']
  rw[List.getElem?_reverse (by omega)]at hs'
  obtain⟨k1,k2,k3,k4⟩:=zkw hc hs'
  show s'.1=0
  rw[k1,show (segL c m).length-1-i=0 by omega,Nat.zero_mul]
section
variable{T:Tbl}[CKeep T][CLaw43 T]
variable[CLimb T][CNat T][CProd T][CTwos T][CQuot T][CQuotD T][CWhole T][CCommon T][CFrac T][CFrac2 T][CFrac3 T][CFrac5 T][CPow T][CTape T][CGauge T][CEval T][CRun T][CIfc T][CDigits T][CText T][CJoin T][CRow T][CRow5 T][CLex T][CScheme T][CSchP T][CStep T][CStepD T][CMarch T][CPast T][CPast2 T]
theorem z3f(p:Pb)(hs:List Rat)(t:Rat)(y:List Rat)(k:Int)(hp:PbS p)(hok:okP p=true)(hb:p.s.b.length≤3)(hd:(y.length:Int)=p.t.dim)(ho:okQ p hs t y)(hpos:∀h∈hs,0<h)(hl:hs.length≤4)
  (hsz:∀h∈hs,sz h≤12) (ht:sz t≤100) (hy:∀q∈y,sz q≤200) :
  loopN T 0 0 (.norm false [12,16]) l495_1 (stKm p (ofK (mrH p hs t y) k) (nodeY (mrH p hs t y)) (segK k hs.length) hs.length 0)=some (.n,⟨[(12,.ptr (.loc 12) 1 4 0 0),(16,.i .i64 0)],[(.loc 12,bxKp 1 (ofK (mrH p hs t y) k))],3⟩)∧rightK (ofK (mrH p hs t y) k)=true:=by
 have hok2:=hok
 unfold okP at hok2
 simp only[Bool.and_eq_true,decide_eq_true_eq]at hok2
 have hO:=(zcr p.t).1 hok2.1.1
 have hdm:=hO.d2
 have hn:p.t.outs.length=y.length:=by have:=hO.ol;omega
 obtain⟨_,hc1,hc2⟩:=zgo k
 have hcc:=zyj k
 have eS:=zw0 p hs t y
 have eT:=zz4 p hs t y
 have eY:=zz5 p hs t y
 have hSl:(szsH (mrH p hs t y)).length=hs.length:=by rw[eS,List.length_map]
 have hzall:=zwz hb hn hs t y 100 ho hsz ht rfl hy
 have hTl:=zwy (p:=p) hs t y
 have mk2:mrkK (cutK k:Int) (szsH (mrH p hs t y)).length=mrkK k (szsH (mrH p hs t y)).length:=by unfold mrkK;rw[hcc]
 have sg2:segK (cutK k:Int) (szsH (mrH p hs t y)).length=segK k hs.length:=by unfold segK;rw[hcc,hSl]
 have hpo:posL (szsH (mrH p hs t y))=true:=by
  rw[eS]
  unfold posL
  rw[List.all_eq_true]
  intro u hu
  obtain⟨h,hh,rfl⟩:=List.mem_map.1 hu
  rw[zbt]
  exact decide_eq_true (hpos h hh)
 have hR:rightK (ofK (mrH p hs t y) k)=true:=by
  unfold rightK ofK
  dsimp only
  rw[hpo,mk2,hcc]
  simp[tsK,ysK]
  omega
 refine⟨?_,hR⟩
 have hL:segK k hs.length=if hs.length=0 then [] else (segL (cutK k) hs.length).reverse:=by
  unfold segK
  by_cases h0:hs.length=0
  ·rw[if_pos (.inl (by omega)),if_pos h0]
  ·rw[if_neg (by omega),if_neg h0,Int.toNat_natCast]
 have hLr:segK k hs.length=(segL (cutK k) hs.length).reverse:=by
  rw[hL]
  split
  ·next h0=>
   rw[h0]
   have:(segL (cutK k) 0).length=0:=by rw[zgc];have:=zid (c:=cutK k) (m:=0) hc1;omega
   rw[List.eq_nil_of_length_eq_zero this]
   rfl
  ·rfl
 have hLl:(segK k hs.length).length=(segL (cutK k) hs.length).length:=by rw[hLr,List.length_reverse]
 have hLs:=zgc (cutK k) hs.length
 have hLn:=zid (c:=cutK k) (m:=hs.length) hc1
 have e0:hs.length=endS hs.length (segK k hs.length) 0:=rfl
 have key:loopN T 0 0 (.norm false [12,16]) l495_1 (stKm p (ofK (mrH p hs t y) k) (nodeY (mrH p hs t y)) (segK k hs.length) (endS hs.length (segK k hs.length) 0) 0)=some (.n,⟨[(12,.ptr (.loc 12) 1 4 0 0),(16,.i .i64 0)],[(.loc 12,bxKp 1 (ofK (mrH p hs t y) k))],3⟩):=by
  refine zak (fun i=>stKm p (ofK (mrH p hs t y) k) (nodeY (mrH p hs t y)) (segK k hs.length) (endS hs.length (segK k hs.length) i) i) (segK k hs.length).length _ (fun i hi=>?_) ?_
  ·obtain⟨⟨F,N⟩,hs1⟩:∃s,(segK k hs.length)[i]? = some s:=⟨_,List.getElem?_eq_getElem hi⟩
   have hs2:=hs1
   rw[hLr]at hs2
   obtain⟨g1,g2⟩:=zyu hc1 hs2
   rw[←hLr]at g1 g2
   dsimp only at g1 g2
   show evX (orc T) T 0 l495_1 (stKm p (ofK (mrH p hs t y) k) (nodeY (mrH p hs t y)) (segK k hs.length) (endS hs.length (segK k hs.length) i) i)=some (.n,stKm p (ofK (mrH p hs t y) k) (nodeY (mrH p hs t y)) (segK k hs.length) (endS hs.length (segK k hs.length) (i+1)) (i+1))
   rw[g2,←g1]
   rw[List.getElem?_reverse (by omega)]at hs2
   generalize hj:(segL (cutK k) hs.length).length-1-i=j at *
   obtain⟨k1,k2,k3,k4⟩:=zkw hc1 hs2
   dsimp only at k1 k2
   have hFN:F<N:=by omega
   have hNl:N≤hs.length:=by omega
   obtain⟨x,hx⟩:∃x,(trQ p hs t y)[F]? = some x:=⟨_,List.getElem?_eq_getElem (by omega)⟩
   have hzx:=hzall x (List.mem_of_getElem? hx)
   have hmk:(mrkK k (szsH (mrH p hs t y)).length)[j]? = some F:=by
    unfold mrkK
    rw[hSl,if_neg (by omega),Int.toNat_natCast]
    unfold mrkL
    rw[List.getElem?_map,List.getElem?_range k4,k1]
    rfl
   have hts:(ofK (mrH p hs t y) k).ts[j]? = some (fz x.1):=by
    show (tsK (mrH p hs t y) k)[j]? = _
    unfold tsK
    rw[List.getElem?_map,hmk,eT,Option.map_some,List.getElem?_map,hx]
    rfl
   have hys:(ofK (mrH p hs t y) k).ys[j]? = some (fzs x.2):=by
    show (ysK (mrH p hs t y) k)[j]? = _
    unfold ysK
    rw[List.getElem?_map,hmk,eY,Option.map_some,List.getElem?_map,hx]
    rfl
   have ham:amongK (ofK (mrH p hs t y) k) F N=true:=by
    unfold amongK
    show ((segK (cutK k:Int) (szsH (mrH p hs t y)).length).any _)=true
    rw[sg2,List.any_eq_true]
    exact⟨(F,N),List.mem_of_getElem? hs1,by simp⟩
   have c1:=zmx (T:=T) p (ofK (mrH p hs t y) k) F N hp (by show (szsH (mrH p hs t y)).length≤20;omega) (fun u hu=>by
    replace hu:u∈szsH (mrH p hs t y):=hu
    rw[eS]at hu
    obtain⟨h,hh,rfl⟩:=List.mem_map.1 hu
    rw[zas];exact hsz h hh) hok hR ham (cutK k) j F N rfl hc1 rfl k1 (by show F<(szsH (mrH p hs t y)).length;omega) rfl hFN (by show N≤(szsH (mrH p hs t y)).length;omega)
    (List.getElem?_eq_some_iff.1 hts).1 (List.getElem?_eq_some_iff.1 hys).1 (fzs x.2) hys (fz x.1) hts (by rw[zaj];omega) hb (by rw[zas];omega) (fun u hu=>by
    obtain⟨v,hv,rfl⟩:=List.mem_map.1 hu
    rw[zas]
    exact Nat.le_trans (hzx.2.2 v hv) (by decide))
   have eH:(((ofK (mrH p hs t y) k).sz.take (N-1)).drop F).map fv=(hs.take (N-1)).drop F:=by
    show (((szsH (mrH p hs t y)).take (N-1)).drop F).map fv=_
    rw[eS,List.map_drop,List.map_take,List.map_map]
    have:hs.map (fv∘fz)=hs:=by
     conv=>rhs;rw[←List.map_id hs]
     exact List.map_congr_left fun h _=>zbt h
    rw[this]
   rw[eH,zbt,zgp,zsk ho hFN hNl x hx 0,if_pos rfl]at c1
   -- the states are the history's
   have eM:fzs x.2::((((trQ p hs t y).drop (F+1)).take (N-1-F)).map (·.2)).map fzs=((nodeY (mrH p hs t y)).drop F).take (N-F):=by
    rw[eY,←List.map_drop,←List.map_take]
    have:(trQ p hs t y).drop F=x::(trQ p hs t y).drop (F+1):=by
     obtain⟨q1,q2⟩:=List.getElem?_eq_some_iff.1 hx
     rw[List.drop_eq_getElem_cons q1,q2]
    rw[this,show N-F=(N-1-F)+1 by omega,List.take_succ_cons,List.map_cons,List.map_map]
    rfl
   rw[eM]at c1
   have hNYl:(nodeY (mrH p hs t y)).length=hs.length+1:=by rw[eY,List.length_map,hTl]
   have hMl:(((nodeY (mrH p hs t y)).drop F).take (N-F)).length=N-F:=by rw[List.length_take,List.length_drop];omega
   have hlo:loopN T 0 2 (.norm false [9,12,14,15,17]) l495_0 (stKi p (ofK (mrH p hs t y) k) (nodeY (mrH p hs t y)) (((nodeY (mrH p hs t y)).drop F).take (N-F)) (segK k hs.length) i 0)=some (enKi p (ofK (mrH p hs t y) k) (nodeY (mrH p hs t y)) (segK k hs.length) i):=by
    refine zak (fun j=>stKi p (ofK (mrH p hs t y) k) (nodeY (mrH p hs t y)) (((nodeY (mrH p hs t y)).drop F).take (N-F)) (segK k hs.length) i j) (((nodeY (mrH p hs t y)).drop F).take (N-F)).length _ (fun j' hj'=>?_) ?_
    ·obtain⟨r,hr⟩:∃r,(nodeY (mrH p hs t y))[F+j']? = some r:=⟨_,List.getElem?_eq_getElem (by omega)⟩
     have hm:(((nodeY (mrH p hs t y)).drop F).take (N-F))[j']? = some r:=by
      rw[List.getElem?_take,if_pos (by omega),List.getElem?_drop,hr]
     have hrm:=List.mem_of_getElem? hr
     rw[eY]at hrm
     obtain⟨z,hz,hzr⟩:=List.mem_map.1 hrm
     have hzz:=hzall z hz
     have hrs:∀u∈r,fsz u≤1000:=fun u hu=>by
      rw[←hzr]at hu
      obtain⟨v,hv,rfl⟩:=List.mem_map.1 hu
      rw[zas]
      exact Nat.le_trans (hzz.2.2 v hv) (by decide)
     have cs:=zzk (T:=T) r r (by rw[←hzr,zaj];omega) hrs hrs
     rw[decide_eq_true rfl]at cs
     exact zah8 (T:=T) p _ _ _ _ i j' (F,N) r r hs1 hm hr (by omega) cs
    ·exact zys (T:=T) p _ _ _ _ i
   exact zyt (T:=T) p _ _ _ _ i F N hs1 (by omega) (by omega) (by omega) hMl c1 hlo
  ·have e1:endS hs.length (segK k hs.length) (segK k hs.length).length=0:=by
    rw[hLr,List.length_reverse]
    exact zyv hc1
   rw[e1]
   exact z9a (T:=T) p _ _ _ 0
 exact key
end
theorem zah9{t:Tp}{many words:Nat}(h:longT t many words=false)(hm:many≤1000)(hw:words≤1000)(d1:-9223372036854775808≤t.dim)(d2:t.dim<9223372036854775808):TpS t:=by
 obtain⟨h1,h2,h3⟩:=zif h
 exact⟨⟨by omega,by omega,fun i hi=>by grind,d1,d2⟩,fun i hi=>by grind⟩
section
variable{T:Tbl}[CKeep T][CLaw43 T]
variable[CLimb T][CNat T][CProd T][CTwos T][CQuot T][CQuotD T][CWhole T][CCommon T][CFrac T][CFrac2 T][CFrac3 T][CFrac5 T][CPow T][CTape T][CGauge T][CEval T][CRun T][CIfc T][CDigits T][CText T][CJoin T][CRow T][CRow5 T][CLex T][CScheme T][CSchP T][CStep T][CStepD T][CMarch T][CPast T][CPast2 T]
variable[CRef02 T][CRef04 T][CRef05 T][CRef07 T][CRef06 T][CRef08 T][CRef09 T][CRef11 T][CLaw09 T][CLaw11 T][CLaw12 T][CGrid T][CRef12 T][CLaw24 T][CLong33 T][CTo33 T]
theorem zkx(p:Pb)(x:FrV)(S:List Fz)(k:Int)(A B C:Bool)(w:callF T 498 []=some (.b true))
  (c1:callF T 496 [epb p,.i .i64 10,.i .i64 4,.i .i64 2]=some (.b A)) (c2:callF T 511 [efr x]=some (.b B)) (c3:callF T 286 [.sl (rowF S) .an,.i .i64 4,.i .i64 2]=some (.b C))
  (h:A=true∨3<p.s.b.length∨B=true∨C=true):callF T 495 [epb p,efr x,.sl (rowF S) .an,.i .i64 k]=some (.b true):=by
 rw[f495 _ rfl,b495]
 obtain⟨⟨code,outs,dim,par⟩,⟨nm,c',a',b,e⟩,pp,bits⟩:=p
 obtain⟨⟨t0,t1,t2⟩,⟨h0,h1,h2⟩,y⟩:=x
 dsimp only at *
 cases A with
 | true=>simp -implicitDefEqProofs[w,c1]
 | false=>
  by_cases hb:3<b.length
  ·have hb':(3:Int)<(b.length:Int):=by omega
   simp -implicitDefEqProofs[w,c1,hb']
  ·have hb':¬ (3:Int)<(b.length:Int):=by omega
   cases B with
   | true=>simp -implicitDefEqProofs[w,c1,c2,hb']
   | false=>
    cases C with
    | true=>simp -implicitDefEqProofs[w,c1,c2,c3,hb']
    | false=>simp[hb]at h
theorem zpw(p:Pb)(x:FrV)(S:List Fz)(k:Int)(w:callF T 498 []=some (.b true))
  (c1:callF T 496 [epb p,.i .i64 10,.i .i64 4,.i .i64 2]=some (.b false)) (hb:¬ 3<p.s.b.length) (c2:callF T 511 [efr x]=some (.b false)) (c3:callF T 286 [.sl (rowF S) .an,.i .i64 4,.i .i64 2]=some (.b false))
  (c4:callF T 507 [epb p]=some (epb p)) (c5:callF T 248 [efz x.t]=some (efz x.t)) (c6:callF T 287 [.sl (rowF x.y) .an]=some (.sl (rowF x.y) .an)) (c7:callF T 287 [.sl (rowF S) .an]=some (.sl (rowF S) .an))
  (H:Hs) (a b c d:Int) (c8:callF T 512 [epb { p with bits:=1500 },efz x.t,.sl (rowF x.y) .an,.sl (rowF S) .an]=some (.tup [ehs H,fltA a b c d])) (ha:a≠0) :
  callF T 495 [epb p,efr x,.sl (rowF S) .an,.i .i64 k]=some (.b true):=by
 rw[f495 _ rfl,b495]
 obtain⟨⟨code,outs,dim,par⟩,⟨nm,cc,a',bb,e⟩,pp,bits⟩:=p
 obtain⟨⟨t0,t1,t2⟩,⟨h0,h1,h2⟩,y⟩:=x
 obtain⟨L,⟨u0,u1,u2⟩,hy⟩:=H
 dsimp only at *
 have hb':¬ (3:Int)<(bb.length:Int):=by omega
 simp -implicitDefEqProofs[w,c1,c2,c3,c4,c5,c6,c7,c8,hb',ha]
theorem z3g(p:Pb)(x:FrV)(S:List Fz)(k:Int)(w:callF T 498 []=some (.b true))
  (c1:callF T 496 [epb p,.i .i64 10,.i .i64 4,.i .i64 2]=some (.b false)) (hb:¬ 3<p.s.b.length) (c2:callF T 511 [efr x]=some (.b false)) (c3:callF T 286 [.sl (rowF S) .an,.i .i64 4,.i .i64 2]=some (.b false))
  (c4:callF T 507 [epb p]=some (epb p)) (c5:callF T 248 [efz x.t]=some (efz x.t)) (c6:callF T 287 [.sl (rowF x.y) .an]=some (.sl (rowF x.y) .an)) (c7:callF T 287 [.sl (rowF S) .an]=some (.sl (rowF S) .an))
  (H:Hs) (c8:callF T 512 [epb { p with bits:=1500 },efz x.t,.sl (rowF x.y) .an,.sl (rowF S) .an]=some (.tup [ehs H,fltA 0 0 0 0]))
  (K:Kp) (c9:callF T 499 [ehs H,.i .i64 k]=some (ekp K)) (NT:List Fz) (NY:List (List Fz)) (c10:callF T 513 [ehs H]=some (.tup [.sl (rowF NT) .an,.sl (matF NY) .an]))
  (L:List (Nat×Nat)) (c11:callF T 514 [.i .i64 (S.length:Int),.i .i64 k]=some (.sl (rowSg L) .an))
  (hl:loopN T 0 0 (.norm false [12,16]) l495_1 (stKm { p with bits:=1500 } K NY L S.length 0)=some (.n,⟨[(12,.ptr (.loc 12) 1 4 0 0),(16,.i .i64 0)],[(.loc 12,bxKp 1 K)],3⟩))
  (c12:callF T 504 [ekp K]=some (.b true)) :
  callF T 495 [epb p,efr x,.sl (rowF S) .an,.i .i64 k]=some (.b true):=by
 unfold stKm celP at hl
 rw[f495 _ rfl,b495]
 obtain⟨⟨code,outs,dim,par⟩,⟨nm,cc,a',bb,e⟩,pp,bits⟩:=p
 obtain⟨⟨t0,t1,t2⟩,⟨h0,h1,h2⟩,y⟩:=x
 obtain⟨HL,⟨u0,u1,u2⟩,hy⟩:=H
 obtain⟨ev,KS,ts,ys⟩:=K
 dsimp only at *
 rw[show (((0:Nat):Int))=0 from rfl]at hl
 have hb':¬ (3:Int)<(bb.length:Int):=by omega
 simp -implicitDefEqProofs[w,c1,c2,c3,c4,c5,c6,c7,c8,c9,c10,c11,hl,c12,hb']
theorem zky(p:Pb)(x:FrV)(S:List Fz)(k:Int)(d1:-9223372036854775808≤p.t.dim)(d2:p.t.dim<9223372036854775808):callF T 495 [epb p,efr x,.sl (rowF S) .an,.i .i64 k]=some (.b true):=by
 have w:=zom (T:=T)
 have c1:=zr1 (T:=T) p 10 4 2 (by decide) (by decide)
 replace c1:callF T 496 [epb p,.i .i64 10,.i .i64 4,.i .i64 2]=some (.b (longPb p 10 4 2)):=c1
 have c2:=zrt (T:=T) x
 have c3:=zb1 (T:=T) S 4 2 (by decide)
 replace c3:callF T 286 [.sl (rowF S) .an,.i .i64 4,.i .i64 2]=some (.b (longB S 4 2)):=c3
 by_cases hA:longPb p 10 4 2=true
 ·exact zkx p x S k _ _ _ w c1 c2 c3 (.inl hA)
 by_cases hb:3<p.s.b.length
 ·exact zkx p x S k _ _ _ w c1 c2 c3 (.inr (.inl hb))
 by_cases hB:longFr x=true
 ·exact zkx p x S k _ _ _ w c1 c2 c3 (.inr (.inr (.inl hB)))
 by_cases hC:longB S 4 2=true
 ·exact zkx p x S k _ _ _ w c1 c2 c3 (.inr (.inr (.inr hC)))
 rw[Bool.not_eq_true]at hA hB hC
 rw[hA]at c1
 rw[hB]at c2
 rw[hC]at c3
 have h1:=hA
 unfold longPb at h1
 simp only[Bool.or_eq_false_iff]at h1
 obtain⟨⟨l1,l2⟩,l3⟩:=h1
 obtain⟨ps,_⟩:=zm1 l2 (by decide) (by decide)
 obtain⟨pl,pw⟩:=zb2 l3
 have ht:=zah9 l1 (by decide) (by decide) d1 d2
 obtain⟨tc,tq,_⟩:=zif l1
 have hp:PbS p:=⟨ht,ps,fun x hx=>Nat.le_trans (pw x hx) (by decide),by omega⟩
 have hp':PbS { p with bits:=1500 }:=⟨hp.t,hp.s,hp.p,hp.pl⟩
 unfold longFr at hB
 simp only[Bool.or_eq_false_iff,decide_eq_false_iff_not]at hB
 obtain⟨⟨x1,x2⟩,x3⟩:=hB
 obtain⟨yl,yw⟩:=zb2 x3
 obtain⟨sl,sw⟩:=zb2 hC
 have c4:=zy5 (T:=T) p hp (by omega) (by omega)
 have c5:=zkv (T:=T) x.t
 have c6:=zdx (T:=T) x.y (by omega)
 have c7:=zdx (T:=T) S (by omega)
 by_cases hok:okP p=true
 case neg=>
  exact zpw p x S k w c1 hb c2 c3 c4 c5 c6 c7 _ _ _ _ _ (zdb (T:=T) { p with bits:=1500 } x.t x.y S hp' (by omega) (fun u hu=>Nat.le_trans (sw u hu) (by decide)) (.inl (by rw[Bool.not_eq_true]at hok;exact hok))) (by decide)
 by_cases hd:(x.y.length:Int)=p.t.dim
 case neg=>
  exact zpw p x S k w c1 hb c2 c3 c4 c5 c6 c7 _ _ _ _ _ (zdb (T:=T) { p with bits:=1500 } x.t x.y S hp' (by omega) (fun u hu=>Nat.le_trans (sw u hu) (by decide)) (.inr (.inl hd))) (by decide)
 by_cases hq:posL S=true
 case neg=>
  exact zpw p x S k w c1 hb c2 c3 c4 c5 c6 c7 _ _ _ _ _ (zdb (T:=T) { p with bits:=1500 } x.t x.y S hp' (by omega) (fun u hu=>Nat.le_trans (sw u hu) (by decide)) (.inr (.inr (by rw[Bool.not_eq_true]at hq;rw[hq];rfl)))) (by decide)
 have c8:=zon (T:=T) { p with bits:=1500 } x.t x.y S hp' hok (by show p.s.b.length≤3;omega) hd hq (by omega) (fun u hu=>Nat.le_trans (yw u hu) (by decide)) (fun u hu=>Nat.le_trans (sw u hu) (by decide)) (by omega)
 by_cases hk:(mrQ { p with bits:=1500 } (S.map fv) 0 (fv x.t) (x.y.map fv)).2.2.1=0
 case neg=>
  rw[if_neg hk]at c8
  exact zpw p x S k w c1 hb c2 c3 c4 c5 c6 c7 _ _ _ _ _ c8 (by simpa using hk)
 rw[if_pos hk]at c8
 obtain⟨ho,e1,e2⟩:=z09 _ _ _ _ hk
 rw[e1,e2]at c8
 have hok2:=hok
 unfold okP at hok2
 simp only[Bool.and_eq_true,decide_eq_true_eq]at hok2
 have hn:p.t.outs.length=x.y.length:=by have:=((zcr p.t).1 hok2.1.1).ol;omega
 have hS12:∀h∈S.map fv,sz h≤12:=fun h hh=>Nat.le_trans (zol (by decide) sw h hh) (by decide)
 have hy200:∀q∈x.y.map fv,sz q≤200:=fun q hq=>Nat.le_trans (zol (by decide) yw q hq) (by decide)
 have ht2:sz (fv x.t)≤2:=zba (by omega) (by decide)
 have hpos:∀h∈S.map fv,0<h:=by
  intro h hh
  obtain⟨u,hu,rfl⟩:=List.mem_map.1 hh
  unfold posL at hq
  rw[List.all_eq_true]at hq
  exact of_decide_eq_true (hq u hu)
 have hH:=z9z (p:={ p with bits:=1500 }) (by show p.s.b.length≤3;omega) (n:=x.y.length) hn (by omega) ho hS12 (by rw[List.length_map];omega) (by omega) (by rw[List.length_map]) hy200
 have c9:=z3b (T:=T) _ k hH
 have c10:=zj4 (T:=T) _ hH
 have c11:=zgd (T:=T) (S.length:Int) k
 obtain⟨hl,hR⟩:=z3f (T:=T) { p with bits:=1500 } (S.map fv) (fv x.t) (x.y.map fv) k hp' hok (by show p.s.b.length≤3;omega) (by rw[List.length_map];exact hd) ho hpos (by rw[List.length_map];omega) hS12 (by omega) hy200
 have c12:=zj0 (T:=T) (ofK (mrH { p with bits:=1500 } (S.map fv) (fv x.t) (x.y.map fv)) k) (by
  show (szsH (mrH { p with bits:=1500 } (S.map fv) (fv x.t) (x.y.map fv))).length≤1000
  rw[zw0,List.length_map,List.length_map];omega) (fun u hu=>by
  replace hu:u∈szsH (mrH { p with bits:=1500 } (S.map fv) (fv x.t) (x.y.map fv)):=hu
  rw[zw0]at hu
  obtain⟨h,hh,rfl⟩:=List.mem_map.1 hu
  rw[zas]
  exact Nat.le_trans (hS12 h hh) (by decide))
 rw[hR]at c12
 rw[List.length_map]at hl
 exact z3g p x S k w c1 hb c2 c3 c4 c5 c6 c7 _ c8 _ c9 _ _ c10 _ c11 hl c12
end
end Go.Ab