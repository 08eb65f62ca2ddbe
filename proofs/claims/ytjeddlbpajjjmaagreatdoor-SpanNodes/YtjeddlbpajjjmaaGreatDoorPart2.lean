/-
  A calculus of values, boxes and code, and what functions of the program compute, proved in it.
  Conditions: none beyond those that the theorems state. (Part 2.)
-/
import Derived.Test.YtjeddlbpajjjmaaGreatDoorPart1
import Derived.Lib.AppendStr
import Derived.Laws.BytesString
import Derived.Tactics
import Derived.Scope

set_option linter.unusedSectionVars false
set_option linter.unusedVariables false
set_option linter.unusedSimpArgs false
set_option linter.unnecessarySimpa false

namespace Go.Ab
section
open Go.RowKit
def boxXV(n:Nat)(x:AV)(d:Option Nat)(h:Heap)(clk:Nat):Option (AV×Heap×Nat):=
 d.bind fun d=>(cellsOf x).bind fun cs=>if cs.length=n then some (.ptr (.loc d) clk n 0 0,(.loc d,⟨clk,.str,n,[cs]⟩)::h,clk+1) else none
def cpyXV(x y:AV)(h:Heap)(clk:Nat):Option (AV×Heap×Nat):=
 match x with
 | .bs id g z off n=>
  (boxAt h id g z).bind fun bx=>(rowOf h 1 y).bind fun ys=>
   if z=1∧bx.kind=.own∧off+n≤bx.els.length then
    some (.i .i64 ((min ys.length n:Nat):Int),(id,⟨g,bx.kind,1,bx.els.take off++(ys.take (min ys.length n)++bx.els.drop (off+min ys.length n))⟩)::h,clk)
   else none
 | _=>none
def byteOfRow:List AV→Option UInt8
 | [AV.i .u8 n]=>some (UInt8.ofNat n.toNat)
 | _=>none
def bstrXV(x:AV)(h:Heap)(clk:Nat):Option (AV×Heap×Nat):=
 (rowOf h 1 x).bind fun els=>(els.mapM byteOfRow).map fun l=>(.s l,h,clk)
def arslXV(n:Nat)(x:AV)(h:Heap)(clk:Nat):Option (AV×Heap×Nat):=
 match x with
 | .ptr id g z 0 0=>
  (boxAt h id g z).bind fun bx=>
   match bx.els with
   | [cs]=>if z=n∧bx.kind=.str∧cs.all pureC=true then some (.bs id clk 1 0 n,(id,⟨clk,.own,1,cs.map fun c=>[c]⟩)::h,clk+1) else none
   | _=>none
 | _=>none
def appsXV(x y:AV)(d:Option Nat)(h:Heap)(clk:Nat):Option (AV×Heap×Nat):=
 match y with
 | .s l=>appR 1 d h clk x (l.map fun b=>[.i .u8 b.toNat])
 | _=>none
def mkfXV(f:Nat)(x:AV)(h:Heap)(clk:Nat):Option (AV×Heap×Nat):=
 match x with
 | .ptr id g z i o=>some (.fnp f id g z i o,h,clk)
 | _=>none
def mkvXV(f:Nat)(x:AV)(h:Heap)(clk:Nat):Option (AV×Heap×Nat):=if noRef x=true then some (.fnv f x,h,clk) else none
def stepXV(k:XOp)(xs:List AV)(d:Option Nat)(h:Heap)(clk:Nat):Option (AV×Heap×Nat):=
 match k,xs with
 | .box n,[x]=>boxXV n x d h clk
 | .mkf f,[x]=>mkfXV f x h clk
 | .mkv f,[x]=>mkvXV f x h clk
 | .cpy,[x,y]=>cpyXV x y h clk
 | .bstr,[x]=>bstrXV x h clk
 | .arsl n,[x]=>arslXV n x h clk
 | .apps,[x,y]=>appsXV x y d h clk
 | _,_=>none
section
variable{P:Program}{cx:Cx}{w w':World}{S S':Nat→Nat→Prop}{M:Map}{clk:Nat}{h:Heap}{ρ:Nat→AV}{a:Act}
def SoundX(P:Program)(cx:Cx)(ρ:Nat→AV)(a:Act)(w:World)(o:Oper)(x:AV)(h':Heap)(clk':Nat):Prop:=
 ∃v w' S' M',((execOp a.eval o).run P w=.ok (.value v) w'∨((execOp a.eval o).run P w=.ok .skip w'∧v=undef))∧RelF cx S' M' clk' h' ρ a w'∧C w' S' M' clk' v x
theorem zjj{s:Sem Value}{v:Value}(hs:s.run P w=.ok v w'):(do pure (Next.value (←s)):Sem Next).run P w=.ok (.value v) w':=by
 simp[hs,Result.andThen]
theorem zsk{t:TypeId}{n:Nat}{d:Option Nat}{v:Value}{x r:AV}{h':Heap}{clk':Nat}(hr:RelF cx S M clk h ρ a w)(hv:C w S M clk v x)(hs:boxXV n x d h clk=some (r,h',clk')) :
  ∃v' w' S' M',(Instr.box t v).run P w=.ok v' w'∧RelF cx S' M' clk' h' ρ a w'∧C w' S' M' clk' v' r:=by
 unfold boxXV at hs
 obtain⟨d,rfl,hs1⟩:=bind_some hs
 obtain⟨cs,hcs,hs2⟩:=bind_some hs1
 split at hs2<;>cases hs2
 rename_i hn
 obtain⟨hus,huo,huc⟩:=ze2 hv hcs
 have hrun:(Instr.box t v).run P w=.ok (.pointer (some ⟨w.heap.size,0,none⟩)) (w.alloc (.cells v.cells t)):=by
  simp only[Instr.box,Sem.run_bind,newVar,newRow,newObj,Sem.run,Sem.run_pure,World.alloc,Result.andThen_ok]
 have hbl:=zep w (.cells v.cells t)
 have hnew:=heap_alloc_new w (.cells v.cells t)
 refine⟨_,_,S,setM M ((.loc d,⟨clk,.str,n,[cs]⟩)::h) clk (some w.heap.size),hrun,?_,?_⟩
 ·have hx:=Ext.set (id:=.loc d) (bx':=⟨clk,.str,n,[cs]⟩) (k':=some w.heap.size) (clk':=clk+1) hr.wr (Nat.le_succ _) (fun hlt=>absurd hlt (Nat.lt_irrefl _)) (Touch.of_below (id:=.loc d) hbl)
  refine hr.set (bx':=⟨clk,.str,n,[cs]⟩) (k':=some w.heap.size) (Nat.le_succ _) (.inl rfl) (fun hlt=>absurd hlt (Nat.lt_irrefl _)) (Touch.of_below hbl) (fun k hk=>?_) ?_
  ·cases hk
   exact .inl ⟨Nat.le_refl _,by simp⟩
  ·refine⟨Nat.lt_succ_self _,fun r hr=>by simp at hr;rw[hr];exact hn,some w.heap.size,zar _ _ _ _,_,t,hnew,by simp;omega,fun i r j c hi hj=>?_,fun _ o hs=>?_,fun o hs=>?_⟩
   ·cases i with
    | succ i=>simp at hi
    | zero=>
     simp at hi
     subst hi
     have hj':=zat hj
     have hv:v.cells[j]? = some (v.cells[j]'(by omega)):=Array.getElem?_eq_getElem _
     refine⟨_,by simp,huo j _ hv,(huc j _ c hv hj).mono hx,fun hne=>absurd rfl hne⟩
   ·have:=hr.wr.Slt _ _ hs;omega
   ·have:=hr.wr.Slt _ _ hs;omega
 ·refine .ptr _ _ _ _ _ _ (Nat.lt_succ_self _) ?_ rfl
  unfold PtrOk
  rw[zar]
  simp
theorem zjk(w:World)(dT sT ty elem:TypeId)(ad:Option Addr)(cap:Nat)(src:Value)(len:Nat)(hu:P.underlying dT=some (.slice elem))(hs:(P.info? elem).map (·.size)=some 1)
  (hsrc:∃b c,src=.slice b len c):(Builtin.copy_ #[dT,sT] ty #[.slice ad 0 cap,src]).run P w=.ok (goInt 0) w:=by
 obtain⟨b,c,rfl⟩:=hsrc
 cases hq:P.info? elem with
 | none=>simp[hq]at hs
 | some i=>
  have hl:∀a,(loadCells a 0).run P w=.ok #[] w:=fun a=>run_loadCells_list (P:=P) w a [] (by simp)
  cases b<;>cases ad<;>simp[Builtin.copy_,run_underlying hu,Builtin.lenOf,Builtin.firstCells,sizeOf,typeInfo,hq,storeCells,hl]
theorem zsl{dT sT ty e:TypeId}{v u:Value}{x y r:AV}{h':Heap}{clk':Nat}(ht:P.underlying dT=some (.slice e))(hz1:sizeT P e=some 1)(hr:RelF cx S M clk h ρ a w)
  (hv:C w S M clk v x) (hu:C w S M clk u y) (hs:cpyXV x y h clk=some (r,h',clk')) :
  ∃v' w' S' M',(Builtin.copy_ #[dT,sT] ty #[v,u]).run P w=.ok v' w'∧RelF cx S' M' clk' h' ρ a w'∧C w' S' M' clk' v' r:=by
 unfold cpyXV at hs
 cases x<;>simp only at hs<;>try (cases hs;done)
 case bs id g z off n=>
  obtain⟨bx,hb,hs1⟩:=bind_some hs
  obtain⟨ys,hys,hs2⟩:=bind_some hs1
  split at hs2<;>cases hs2
  rename_i hc
  obtain⟨rfl,hown,hle⟩:=hc
  obtain⟨hlk,hg,hz⟩:=zay hb
  subst hg
  obtain⟨yb,ycap,news,rfl,hnrw,hnc⟩:=zjg hr.wr.heap hu hys
  have hbox:=hr.wr.heap.box id bx hlk
  obtain⟨hgc,hrows,m,hm,h3⟩:=hbox
  obtain⟨_,hbs,_⟩:=hv.inv_bs
  unfold BsOk at hbs
  rw[hm]at hbs
  have hz1':(P.info? e).map (·.size)=some 1:=hz1
  cases m with
  | none=>
   simp only at hbs h3
   obtain⟨rfl,rfl,b,rfl,_⟩:=hbs
   rw[h3.1]
   simp only[Nat.min_zero,List.take_zero,List.take_nil,List.drop_nil,List.append_nil]
   have hrun:=zjk (P:=P) w dT sT ty e b 0 (.slice yb ys.length ycap) ys.length ht hz1' ⟨_,_,rfl⟩
   refine⟨_,w,S,setM M ((id,⟨bx.gen,bx.kind,1,[]⟩)::h) bx.gen none,hrun,?_,.p (.i .i64 0)⟩
   exact hr.set (bx':=⟨bx.gen,bx.kind,1,[]⟩) (k':=none) (touched:=none) (Nat.le_refl _) (.inr ⟨bx,hlk,rfl⟩) (fun _=>hm) (Touch.of_below (Below.refl _ _)) (fun k hk=>by cases hk)
    ⟨hgc,fun r hr=>by simp at hr,none,zar _ _ _ _,rfl,by rw[hown];simp⟩
  | some k=>
   simp only at hbs h3
   obtain⟨arr,ty0,cap,hblk,rfl,hnc2,hcm,harr⟩:=hbs
   obtain⟨arr',e',hh',hsz,hcells,hS,hlt⟩:=h3
   rw[hblk]at hh'
   cases hh'
   rw[hz]at hsz hcells hlt
   simp only[Nat.mul_one]at hsz harr
   generalize hq:min ys.length n=q
   have hqy:q≤ys.length:=by omega
   have hqn:q≤n:=by omega
   have hnl:news.length=ys.length:=by have:=hnrw.len;omega
   have hoff:off+q≤arr.size:=by omega
   have hcl:(news.take q).length=q:=by simp;omega
   have hrun:(Builtin.copy_ #[dT,sT] ty #[.slice (some ⟨k,off,none⟩) n cap,.slice yb ys.length ycap]).run P w=.ok (goInt q) (w.setRow k (arr.toList.take off++news.take q++arr.toList.drop (off+q)).toArray):=by
    by_cases h0:q=0
    ·subst h0
     have e0:(arr.toList.take off++news.take 0++arr.toList.drop (off+0)).toArray=arr:=by simp
     rw[e0,setRow_self w k arr ty0 (0,0) hblk]
     have hl:∀a,(loadCells a 0).run P w=.ok #[] w:=fun a=>run_loadCells_list (P:=P) w a [] (by simp)
     cases hqi:P.info? e with
     | none=>simp[hqi]at hz1'
     | some i=>
      have hmin:Nat.min ys.length n=0:=hq
      cases yb<;>simp[Builtin.copy_,run_underlying ht,Builtin.lenOf,Builtin.firstCells,sizeOf,typeInfo,hqi,storeCells,hl,hmin]
    ·have h00:0<news.length:=by omega
     obtain⟨ad,rfl,_⟩:=hnc 0 _ (List.getElem?_eq_getElem h00)
     have:=run_copy_row (P:=P) w dT sT ty e k off n cap ad ys.length ycap arr ty0 (news.take q) ht hz1' hblk (by rw[hcl,←hq]) (fun j v hj=>by
      rw[List.getElem?_take]at hj
      split at hj
      ·obtain⟨ad',h5,h6⟩:=hnc j v hj
       cases h5
       exact h6
      ·cases hj) (by rw[hcl];exact hoff) (fun v hv=>hnrw.one v (List.mem_of_mem_take hv))
     rw[hcl]at this
     exact this
   generalize hnew:(arr.toList.take off++news.take q++arr.toList.drop (off+q)).toArray=new at hrun
   have hnsz:new.size=arr.size:=by rw[←hnew];simp;omega
   have hh2:(w.setRow k new).heap[k]? = some (.cells new ty0 (0,0)):=setRow_heap w k arr new ty0 (0,0) hblk
   have hSk:∀q,¬ S k q:=hS (by rw[hown];simp)
   have hcell:∀k' o u,S k' o→w.cell? ⟨k',o,none⟩=some u→(w.setRow k new).cell? ⟨k',o,none⟩=some u:=by
    intro k' o u hs hc
    by_cases hkk:k'=k
    ·subst hkk;exact absurd hs (hSk o)
    ·rw[World.cell?_of_block (w:=w) (a:=⟨k',o,none⟩) (setRow_other w k k' new hkk)];exact hc
   have htc:Touch w (w.setRow k new) S M h id (some k):=
    ⟨rfl,rfl,rfl,by simp,fun k' _ hne=>setRow_other w k k' new (fun e=>hne (by rw[e])),fun k' hk'=>⟨bx,hlk,by cases hk';exact hm⟩,fun k' o u hk' hs hc=>hcell k' o u hs hc,fun k' arr1 e1 hk' hb1=>by
     cases hk'
     rw[hblk]at hb1
     cases hb1
     exact⟨new,hh2,hnsz⟩⟩
   generalize hels:bx.els.take off++(ys.take q++bx.els.drop (off+q))=els'
   have hlen':els'.length=bx.els.length:=by rw[←hels];simp;omega
   have hx:=Ext.set (bx':=⟨bx.gen,bx.kind,1,els'⟩) (k':=some k) (clk':=clk) hr.wr (Nat.le_refl _) (fun _=>hm) htc
   refine⟨_,_,S,setM M ((id,⟨bx.gen,bx.kind,1,els'⟩)::h) bx.gen (some k),by rw[Nat.mul_one];exact hrun,?_,.p (.i .i64 q)⟩
   refine hr.set (bx':=⟨bx.gen,bx.kind,1,els'⟩) (k':=some k) (touched:=some k) (Nat.le_refl _) (.inr ⟨bx,hlk,rfl⟩) (fun _=>hm) htc (fun k' hk'=>.inr hk') ?_
   refine⟨hgc,fun r hr=>?_,some k,zar _ _ _ _,new,ty0,hh2,by simp only[Nat.mul_one];rw[hlen',hnsz];exact hsz,fun i r j c hi hj=>?_,fun _ o hs=>absurd hs (hSk o),fun o hs=>absurd hs (hSk o)⟩
   ·rw[←hels]at hr
    rcases List.mem_append.1 hr with h5 | h5
    ·have:=hrows r (List.mem_of_mem_take h5);rw[hz]at this;exact this
    ·rcases List.mem_append.1 h5 with h5 | h5
     ·exact hnrw.row r (List.mem_of_mem_take h5)
     ·have:=hrows r (List.mem_of_mem_drop h5);rw[hz]at this;exact this
   ·simp only[Nat.mul_one]at hcells
    show ∃u,new[i*1+j]? = some u∧_
    rw[Nat.mul_one]
    rw[←hels]at hi
    have hget:∀p:Nat,new[p]? = (arr.toList.take off++(news.take q++arr.toList.drop (off+q)))[p]? := by
     intro p
     rw[←hnew]
     simp only[List.getElem?_toArray,List.append_assoc]
    have hto:(bx.els.take off).length=off:=by simp;omega
    have hto2:(arr.toList.take off).length=off:=by simp;omega
    have hyq:(ys.take q).length=q:=by simp;omega
    have hj0:j=0∨1≤j:=by omega
    rcases Nat.lt_or_ge i off with h5 | h5
    ·rw[List.getElem?_append_left (by omega),List.getElem?_take,if_pos h5]at hi
     have hrl:=hrows r (List.mem_of_getElem? hi)
     have hjl:=zat hj
     rw[hz]at hrl
     have hj1:j=0:=by omega
     subst hj1
     obtain⟨u,hu1,hu2,hu3,hu4⟩:=hcells i r 0 c hi hj
     refine⟨u,?_,hu2,hu3.mono hx,fun hne=>(hu4 hne).mono hx.hS hx.hcell⟩
     rw[hget,List.getElem?_append_left (by omega),List.getElem?_take,if_pos (by omega)]
     simpa using hu1
    ·rw[List.getElem?_append_right (by omega),hto]at hi
     rcases Nat.lt_or_ge (i-off) q with h6 | h6
     ·rw[List.getElem?_append_left (by omega),List.getElem?_take,if_pos h6]at hi
      have hrl:=hnrw.row r (List.mem_of_getElem? hi)
      have hjl:=zat hj
      have hj1:j=0:=by omega
      subst hj1
      obtain⟨u,hu1,hu2⟩:=hnrw.cell (i-off) r 0 c hi hj
      simp only[Nat.mul_one,Nat.add_zero]at hu1
      have hu3:=hnrw.one u (List.mem_of_getElem? hu1)
      refine⟨u,?_,hu3,(C.p hu2).mono hx,fun _=>hu2.mono hx.hS hx.hcell⟩
      rw[hget,List.getElem?_append_right (by omega),hto2,List.getElem?_append_left (by rw[hcl];omega),List.getElem?_take,if_pos (by omega)]
      rw[show i+0-off=i-off by omega]
      exact hu1
     ·rw[List.getElem?_append_right (by omega),hyq,List.getElem?_drop]at hi
      have hrl:=hrows r (List.mem_of_getElem? hi)
      have hjl:=zat hj
      rw[hz]at hrl
      have hj1:j=0:=by omega
      subst hj1
      have ei:off+q+(i-off-q)=i:=by omega
      rw[ei]at hi
      obtain⟨u,hu1,hu2,hu3,hu4⟩:=hcells i r 0 c hi hj
      refine⟨u,?_,hu2,hu3.mono hx,fun hne=>(hu4 hne).mono hx.hS hx.hcell⟩
      rw[hget,List.getElem?_append_right (by omega),hto2,List.getElem?_append_right (by rw[hcl];omega),hcl,List.getElem?_drop]
      rw[show off+q+(i+0-off-q)=i+0 by omega]
      simpa using hu1
theorem zk2{S:Nat→Nat→Prop}:∀(els:List (List AV)) (vs:List Value) (l:List UInt8),Rw w S 1 vs els→els.mapM byteOfRow=some l→∃ns:List Int,vs=ns.map (Value.int .u8)∧ns.map (fun n=>UInt8.ofNat n.toNat)=l
 | [],vs,l,hr,hm=>by
  have:vs=[]:=List.eq_nil_of_length_eq_zero (by simpa using hr.len)
  subst this
  simp only[List.mapM_nil,Option.pure_def,Option.some.injEq]at hm
  exact⟨[],rfl,by simp[←hm]⟩
 | r::els,vs,l,hr,hm=>by
  simp only[List.mapM_cons,Option.bind_eq_bind]at hm
  obtain⟨b,hb,hm1⟩:=bind_some hm
  obtain⟨l',hl',hm2⟩:=bind_some hm1
  cases hm2
  cases vs with
  | nil=>have:=hr.len;simp at this
  | cons u vs=>
   have hr':Rw w S 1 vs els:=by
    refine⟨by have:=hr.len;simp at this ⊢;omega,fun r hr2=>hr.row r (List.mem_cons_of_mem _ hr2),fun u hu=>hr.one u (List.mem_cons_of_mem _ hu),fun i r' j c hi hj=>?_⟩
    obtain⟨u',h1,h2⟩:=hr.cell (i+1) r' j c (by simpa using hi) hj
    refine⟨u',?_,h2⟩
    rw[show (i+1)*1+j=(i*1+j)+1 by omega]at h1
    simpa using h1
   obtain⟨ns,h1,h2⟩:=zk2 els vs l' hr' hl'
   unfold byteOfRow at hb
   split at hb
   ·rename_i n
    cases hb
    obtain⟨u',h3,h4⟩:=hr.cell 0 [AV.i .u8 n] 0 (.i .u8 n) rfl rfl
    simp only[Nat.zero_mul,Nat.add_zero,List.getElem?_cons_zero,Option.some.injEq]at h3
    subst h3
    cases h4
    exact⟨n::ns,by rw[h1];rfl,by simp[h2]⟩
   ·cases hb
theorem zpm(ns:List Int)(s:ByteArray):(ns.foldl (fun r n=>r.push (UInt8.ofNat n.toNat)) s)=⟨(s.data.toList++ns.map (fun n=>UInt8.ofNat n.toNat)).toArray⟩:=by
 induction ns generalizing s with
 | nil=>simp
 | cons n ns ih=>
  simp only[List.foldl_cons,ih,List.map_cons]
  congr 1
  simp[ByteArray.push]
theorem zpn{src dst e:TypeId}{v:Value}{x r:AV}{h':Heap}{clk':Nat}(hs:P.underlying src=some (.slice e))(he:P.underlying e=some (.int .u8))(hd:P.underlying dst=some .string)(hr:RelF cx S M clk h ρ a w)
  (hv:C w S M clk v x) (hx:bstrXV x h clk=some (r,h',clk')) :
  ∃v' w' S' M',(convert src dst v).run P w=.ok v' w'∧RelF cx S' M' clk' h' ρ a w'∧C w' S' M' clk' v' r:=by
 unfold bstrXV at hx
 obtain⟨els,hels,hx1⟩:=bind_some hx
 obtain⟨l,hl,hx2⟩:=map_some hx1
 cases hx2
 obtain⟨b,cap,vs,rfl,hrw,hc⟩:=zjg hr.wr.heap hv hels
 obtain⟨ns,rfl,rfl⟩:=zk2 els vs l hrw hl
 rw[run_convert_bytes_string (P:=P) w src dst e b els.length cap hs he hd]
 have hlen:ns.length=els.length:=by simpa using hrw.len
 cases b with
 | none=>
  cases ns with
  | nil=>
   refine⟨.string ⟨#[]⟩,w,S,M,?_,hr,.p (.s [])⟩
   simp[Conv.bytesToString]
   rfl
  | cons n ns=>
   obtain⟨ad,h1,_⟩:=hc 0 (.int .u8 n) rfl
   cases h1
 | some ad=>
  have hload:=run_loadCells_list (P:=P) w ad (ns.map (Value.int .u8)) (fun j u hu=>by
   obtain⟨ad',h1,h2⟩:=hc j u hu
   cases h1
   exact h2)
  rw[List.length_map,hlen]at hload
  refine⟨_,w,S,M,run_bytesToString (P:=P) w ad els.length cap ns hload,hr,?_⟩
  rw[zpm]
  simp
  exact .p (.s _)
theorem zjl{t e:TypeId}{n:Nat}(ht:P.underlying t=some (.array n e))(hz:sizeT P e=some 1)(_hn:n≠0)(k:Nat) :
  (Instr.sliceAt t (.pointer (some ⟨k,0,none⟩)) none none none).run P w=.ok (.slice (some ⟨k,0,none⟩) n n) w:=by
 obtain⟨inf,hi,hi1⟩:=map_some hz
 simp[Instr.sliceAt,run_underlying ht,Instr.sureAddr,Instr.sliceBounds,sizeOf,typeInfo,hi,Addr.add]
theorem zpo{t e:TypeId}{n:Nat}{v:Value}{x r:AV}{h':Heap}{clk':Nat}(ht:P.underlying t=some (.array n e))(hz:sizeT P e=some 1)(hn:n≠0)(hnm:n≤maxLen)(hr:RelF cx S M clk h ρ a w)
  (hv:C w S M clk v x) (hs:arslXV n x h clk=some (r,h',clk')) :
  ∃v' w' S' M',(Instr.sliceAt t v none none none).run P w=.ok v' w'∧RelF cx S' M' clk' h' ρ a w'∧C w' S' M' clk' v' r:=by
 unfold arslXV at hs
 split at hs
 ·rename_i id g z
  obtain⟨bx,hb,hs1⟩:=bind_some hs
  obtain⟨hlk,hg,hzz⟩:=zay hb
  subst hg
  split at hs1
  ·rename_i cs hcs
   split at hs1
   ·rename_i hc
    cases hs1
    obtain⟨hzn,hkind,hpure⟩:=hc
    obtain⟨_,hptr,_⟩:=hv.inv_ptr
    obtain⟨hgc,hrows,m,hm,h3⟩:=hr.wr.heap.box id bx hlk
    unfold PtrOk at hptr
    rw[hm]at hptr
    cases m with
    | none=>exact absurd hkind h3.2
    | some k=>
     simp only at hptr h3
     obtain⟨arr0,e0,hblk,hsz,hcells,hS,hlt⟩:=h3
     simp only[Nat.zero_mul,Nat.add_zero]at hptr
     subst hptr
     have hcl:cs.length=n:=by have:=hrows cs (by rw[hcs];simp);omega
     have hsz':n≤arr0.size:=by rw[hcs,hzz,hzn]at hsz;simpa using hsz
     have hSk:∀o,¬ S k o:=hS (by rw[hkind];simp)
     refine⟨_,w,S,setM M ((id,⟨clk,.own,1,cs.map fun c=>[c]⟩)::h) clk (some k),zjl ht hz hn k,?_,?_⟩
     ·refine hr.set (bx':=⟨clk,.own,1,cs.map fun c=>[c]⟩) (k':=some k) (touched:=some k) (Nat.le_succ _) (.inl rfl) (fun hlt=>absurd hlt (Nat.lt_irrefl _))
       ⟨rfl,rfl,rfl,Nat.le_refl _,fun _ _ _=>rfl,fun k' hk'=>⟨bx,hlk,by cases hk';exact hm⟩,fun _ _ _ _ _ hc=>hc,fun _ arr e _ hb=>⟨arr,hb,rfl⟩⟩ (fun k' hk'=>.inr hk') ?_
      refine⟨Nat.lt_succ_self _,fun r hr=>?_,some k,zar _ _ _ _,arr0,e0,hblk,?_,fun i r j c hi hj=>?_,fun _ o hs=>hSk o hs,fun o hs=>absurd hs (hSk o)⟩
      ·simp only[List.mem_map]at hr
       obtain⟨c,_,rfl⟩:=hr
       rfl
      ·simpa[hcl]using hsz'
      ·simp only[List.getElem?_map,Option.map_eq_some_iff]at hi
       obtain⟨c',hc',rfl⟩:=hi
       cases j with
       | succ j=>simp at hj
       | zero=>
        simp at hj
        subst hj
        obtain⟨u,h1,h2,h4,_⟩:=hcells 0 cs i c' (by rw[hcs];rfl) hc'
        have hcp:CP w S u c':=h4.pureC (List.all_eq_true.1 hpure c' (List.mem_of_getElem? hc'))
        exact⟨u,by simpa using h1,h2,.p hcp,fun _=>hcp⟩
     ·refine .bs _ _ _ _ _ _ (Nat.lt_succ_self _) ?_ rfl
      unfold BsOk
      rw[zar]
      exact⟨arr0,e0,n,hblk,by simp,Nat.le_refl _,hnm,by simpa using hsz'⟩
   ·cases hs1
  ·cases hs1
 ·cases hs
theorem zpp{t tu e ty:TypeId}{inf:TypeInfo}{zv:Value}{l:List UInt8}(ht:P.underlying t=some (.slice e))(hu:P.underlying tu=some .string)(hi:P.info? e=some inf)(hz1:inf.size=1)(hzv:inf.zero=some zv) :
  SrcOk P w t tu ty e inf zv (.string ⟨l.toArray⟩) l.length (Lib.strCells ⟨l.toArray⟩):=by
 have hsz:(⟨l.toArray⟩:ByteArray).size=l.length:=by simp[ByteArray.size]
 refine⟨fun h b n cap hn=>?_,fun hm g sLen sCap cur e' hg hroom hfit=>?_,fun hm b sLen sCap olds hlo holds hg h63 hfit=>?_,fun hm h63 hb=>?_⟩
 ·have hl:l=[]:=List.eq_nil_of_length_eq_zero h
  subst hl
  have hf:=Lib.run_firstCells_string (P:=P) w inf.size ⟨#[]⟩
  have hz:(⟨#[]⟩:ByteArray).size=0:=rfl
  rw[hz]at hf
  have hsc:Lib.strCells (⟨#[]⟩:ByteArray)=[]:=rfl
  rw[hsc]at hf
  cases b<;>simp[Builtin.append_,run_underlying ht,run_underlying hu,sizeOf,typeInfo,hi,Builtin.lenOf,hz,hn,hf,storeCells]
 ·have hf:=Lib.run_firstCells_string (P:=P) w inf.size ⟨l.toArray⟩
  have hst:=run_storeCells_at P g (sLen*inf.size) e' (Lib.strCells ⟨l.toArray⟩) 0 cur w hg (by simpa using hfit) (Lib.strCells_oneCell _)
  simp only[Nat.add_zero]at hst
  have e1:(⟨g,0,none⟩:Addr).add (sLen*inf.size)=⟨g,sLen*inf.size,none⟩:=by rw[zbd,Nat.zero_add]
  rw[hsz]at hf
  simp only[hz1,Nat.mul_one]at hst e1 hf ⊢
  simp[Builtin.append_,run_underlying ht,run_underlying hu,sizeOf,typeInfo,hi,hz1,Builtin.lenOf,hsz,hroom,hf,e1,hst]
 ·have:=Lib.run_append_grow_string (P:=P) w t tu ty e inf zv ht hu hi hzv b sLen sCap olds hlo holds ⟨l.toArray⟩ (by rw[hsz];exact hg) (by rw[hsz];exact h63) (by rw[hsz];exact hfit)
  rw[hsz]at this
  exact this
 ·have:=run_append_nil_string (P:=P) w t tu ty e inf zv ht hu hi hzv ⟨l.toArray⟩ (by rw[hsz];omega) (by rw[hsz];exact h63) (by rw[hsz];omega)
  rw[hsz]at this
  rw[this]
  congr 3
  simp[Lib.strCells]
theorem zm2(l:List UInt8):Rw w S 1 (Lib.strCells ⟨l.toArray⟩) (l.map fun b=>[AV.i .u8 b.toNat]):=by
 refine⟨by simp[Lib.strCells],fun r hr=>?_,Lib.strCells_oneCell _,fun i r j c hi hj=>?_⟩
 ·simp only[List.mem_map]at hr
  obtain⟨b,_,rfl⟩:=hr
  rfl
 ·simp only[List.getElem?_map,Option.map_eq_some_iff]at hi
  obtain⟨b,hb,rfl⟩:=hi
  cases j with
  | succ j=>simp at hj
  | zero=>
   simp at hj
   subst hj
   exact⟨.int .u8 b.toNat,by simp[Lib.strCells,hb],.i _ _⟩
theorem zpq{t tu e ty:TypeId}{inf:TypeInfo}{d:Option Nat}{v u:Value}{x y r:AV}{h':Heap}{clk':Nat}{zv:Value}(hr:RelF cx S M clk h ρ a w)(ht:P.underlying t=some (.slice e))(htu:P.underlying tu=some .string)(hi:P.info? e=some inf)
  (hz1:inf.size=1) (hby:inf.bytes≤32768) (hzv:inf.zero=some zv) (hzs:zv.cells.size=inf.size)
  (hv:C w S M clk v x) (hu:C w S M clk u y) (hs:appsXV x y d h clk=some (r,h',clk')) :
  ∃v' w' S' M',(Builtin.append_ #[t,tu] ty #[v,u]).run P w=.ok v' w'∧RelF cx S' M' clk' h' ρ a w'∧C w' S' M' clk' v' r:=by
 unfold appsXV at hs
 split at hs
 ·rename_i l
  have hstr:u=.string ⟨l.toArray⟩:=by
   cases hu with
   | p h=>cases h;rfl
  subst hstr
  have hsrc:=zpp (P:=P) (w:=w) (ty:=ty) (l:=l) ht htu hi hz1 hzv
  have hlen:(l.map fun b=>[AV.i .u8 b.toNat]).length=l.length:=by simp
  rw[←hlen]at hsrc
  exact zid (z:=1) (ys:=l.map fun b=>[AV.i .u8 b.toNat]) hr (by omega) hby hzs hz1 hv hsrc (by rw[hz1];exact zm2 l) hs
 ·cases hs
theorem zm3{o:Oper}{k:XOp}{xs:List Opd}{x:AV}{h':Heap}{clk':Nat}(hx:resX P o.op=some (k,xs))(hr:RelF cx S M clk h ρ a w)(hs:stepXV k (xs.map (ev ρ)) o.dst h clk=some (x,h',clk')) :
  SoundX P cx ρ a w o x h' clk':=by
 obtain⟨dst,oop,type,pos,after,guard⟩:=o
 simp only at hx hs
 cases oop<;>simp only[resX]at hx<;>try (cases hx;done)
 case box t y=>
  obtain⟨n,hn,hx1⟩:=bind_some hx
  obtain⟨p,hp,hx2⟩:=map_some hx1
  cases hx2
  obtain⟨v',w',S',M',h1,h2,h3⟩:=zsk (P:=P) (t:=t) hr (ev_C hr.env hp) hs
  exact⟨v',w',S',M',.inl (zjj h1),h2,h3⟩
 case makeFunc fn first captured=>
  cases fn<;>simp only at hx<;>try (cases hx;done)
  split at hx
  ·rename_i f y h1 h2
   obtain⟨p,hp,hx2⟩:=map_some hx
   cases hx2
   have e1:first=#[]:=by rw[←Array.toArray_toList (xs:=first),h1]
   have e2:captured=#[y]:=by rw[←Array.toArray_toList (xs:=captured),h2]
   subst e1
   subst e2
   have hC:=ev_C hr.env hp
   simp only[List.map_cons,List.map_nil,stepXV]at hs
   unfold mkfXV at hs
   split at hs
   ·rename_i id g z i o hy
    cases hs
    rw[hy]at hC
    obtain⟨c1,c2,c3⟩:=hC.inv_ptr
    exact⟨.func (.func _) #[] #[a.eval y],w,S,M,.inl (by simp[execOp,Instr.makeFunc]),hr,.fnp _ _ _ _ _ _ _ c1 c2 c3⟩
   ·cases hs
  ·rename_i f y h1 h2
   obtain⟨p,hp,hx2⟩:=map_some hx
   cases hx2
   have e1:first=#[y]:=by rw[←Array.toArray_toList (xs:=first),h1]
   have e2:captured=#[]:=by rw[←Array.toArray_toList (xs:=captured),h2]
   subst e1
   subst e2
   have hC:=ev_C hr.env hp
   simp only[List.map_cons,List.map_nil,stepXV]at hs
   unfold mkvXV at hs
   split at hs
   ·rename_i hn
    cases hs
    exact⟨.func (.func _) #[a.eval y] #[],w,S,M,.inl (by simp[execOp,Instr.makeFunc]),hr,.p (.fnv _ _ _ (hC.noRef hn))⟩
   ·cases hs
  ·cases hx
 case convert src dst y=>
  split at hx
  ·rename_i e hs1 hd1
   split at hx
   ·rename_i he
    obtain⟨p,hp,hx2⟩:=map_some hx
    cases hx2
    obtain⟨v',w',S',M',h1,h2,h3⟩:=zpn (P:=P) hs1 he hd1 hr (ev_C hr.env hp) hs
    exact⟨v',w',S',M',.inl (zjj h1),h2,h3⟩
   ·cases hx
  ·cases hx
 case slice t y lo hi mx=>
  split at hx
  ·split at hx
   ·rename_i n e ht
    split at hx
    ·rename_i hc
     obtain⟨p,hp,hx2⟩:=map_some hx
     cases hx2
     obtain⟨v',w',S',M',h1,h2,h3⟩:=zpo (P:=P) ht hc.1 hc.2.1 hc.2.2 hr (ev_C hr.env hp) hs
     exact⟨v',w',S',M',.inl (zjj h1),h2,h3⟩
    ·cases hx
   ·cases hx
  ·cases hx
 case call c=>
  obtain⟨callee,cargs,ats⟩:=c
  cases callee with
  | invoke r m=>cases hx
  | value fv=>cases hx
  | builtin b=>
   simp only at hx
   split at hx
   ·rename_i y1 y2 t u hargs hts
    split at hx
    ·rename_i e ht
     split at hx
     ·rename_i hz1
      obtain⟨p,hp,hx1⟩:=bind_some hx
      obtain⟨q,hq,hx2⟩:=map_some hx1
      cases hx2
      have ha:cargs=#[y1,y2]:=by rw[←Array.toArray_toList (xs:=cargs),hargs]
      have hat:ats=#[t,u]:=by rw[←Array.toArray_toList (xs:=ats),hts]
      subst ha
      subst hat
      obtain⟨v',w',S',M',h1,h2,h3⟩:=zsl (P:=P) (sT:=u) (ty:=type) ht hz1 hr (ev_C hr.env hp) (ev_C hr.env hq) hs
      exact⟨v',w',S',M',.inl (by simp[execOp,resolve,invoke,builtin,h1]),h2,h3⟩
     ·cases hx
    ·cases hx
   ·rename_i y1 y2 t u hargs hts
    split at hx
    ·rename_i e ht hu
     split at hx
     ·rename_i inf hi
      split at hx
      ·rename_i hc
       obtain⟨hz1,hby,hzc⟩:=hc
       obtain⟨p,hp,hx1⟩:=bind_some hx
       obtain⟨q,hq,hx2⟩:=map_some hx1
       cases hx2
       have ha:cargs=#[y1,y2]:=by rw[←Array.toArray_toList (xs:=cargs),hargs]
       have hat:ats=#[t,u]:=by rw[←Array.toArray_toList (xs:=ats),hts]
       subst ha
       subst hat
       cases hzv:inf.zero with
       | none=>rw[hzv]at hzc;simp at hzc
       | some zv=>
        rw[hzv]at hzc
        obtain⟨v',w',S',M',h1,h2,h3⟩:=zpq (P:=P) (ty:=type) hr ht hu hi hz1 hby hzv (by simpa using hzc) (ev_C hr.env hp) (ev_C hr.env hq) hs
        exact⟨v',w',S',M',.inl (by simp[execOp,resolve,invoke,builtin,h1]),h2,h3⟩
      ·cases hx
     ·cases hx
    ·cases hx
   ·cases hx
theorem zb6{x:Operand}{t:Nat}(h:resOpd x=some (.t t)):x=.tmp t:=by
 cases x with
 | tmp u=>simp only[resOpd,Option.some.injEq,Opd.t.injEq]at h;rw[h]
 | const v=>simp only[resOpd]at h;obtain⟨y,_,h2⟩:=map_some h;cases h2
 | func f=>cases h
 | global g=>cases h
theorem zoe{op:Op}{k:XOp}{xs:List Opd}(hx:resX P op=some (k,xs))(t:Nat)(ht:Opd.t t∈xs):Operand.tmp t∈op.operands.toList:=by
 cases op<;>simp only[resX]at hx<;>try (cases hx;done)
 case box ty y=>
  obtain⟨n,hn,hx1⟩:=bind_some hx
  obtain⟨p,hp,hx2⟩:=map_some hx1
  cases hx2
  simp only[List.mem_singleton]at ht
  subst ht
  rw[zb6 hp]
  simp[Op.operands]
 case makeFunc fn first captured=>
  cases fn<;>simp only at hx<;>try (cases hx;done)
  split at hx
  ·rename_i f y h1 h2
   obtain⟨p,hp,hx2⟩:=map_some hx
   cases hx2
   simp only[List.mem_singleton]at ht
   subst ht
   have e:=zb6 hp
   subst e
   simp[Op.operands,h1,h2]
  ·rename_i f y h1 h2
   obtain⟨p,hp,hx2⟩:=map_some hx
   cases hx2
   simp only[List.mem_singleton]at ht
   subst ht
   have e:=zb6 hp
   subst e
   simp[Op.operands,h1,h2]
  ·cases hx
 case convert src dst y=>
  split at hx
  ·split at hx
   ·obtain⟨p,hp,hx2⟩:=map_some hx
    cases hx2
    simp only[List.mem_singleton]at ht
    subst ht
    rw[zb6 hp]
    simp[Op.operands]
   ·cases hx
  ·cases hx
 case slice sty y lo hi mx=>
  split at hx
  ·split at hx
   ·split at hx
    ·obtain⟨p,hp,hx2⟩:=map_some hx
     cases hx2
     simp only[List.mem_singleton]at ht
     subst ht
     rw[zb6 hp]
     simp[Op.operands]
    ·cases hx
   ·cases hx
  ·cases hx
 case call c=>
  obtain⟨callee,cargs,ats⟩:=c
  cases callee with
  | invoke r m=>cases hx
  | value fv=>cases hx
  | builtin b=>
   simp only at hx
   split at hx
   ·rename_i y1 y2 t u hargs hts
    split at hx
    ·split at hx
     ·obtain⟨p,hp,hx1⟩:=bind_some hx
      obtain⟨q,hq,hx2⟩:=map_some hx1
      cases hx2
      simp only[List.mem_cons,List.not_mem_nil,or_false]at ht
      simp only[Op.operands,Call.operands]
      rcases ht with ht | ht
      ·rw[←ht]at hp
       have:=zb6 hp
       subst this
       simp[hargs]
      ·rw[←ht]at hq
       have:=zb6 hq
       subst this
       simp[hargs]
     ·cases hx
    ·cases hx
   ·rename_i y1 y2 t u hargs hts
    split at hx
    ·split at hx
     ·split at hx
      ·obtain⟨p,hp,hx1⟩:=bind_some hx
       obtain⟨q,hq,hx2⟩:=map_some hx1
       cases hx2
       simp only[List.mem_cons,List.not_mem_nil,or_false]at ht
       simp only[Op.operands,Call.operands]
       rcases ht with ht | ht
       ·rw[←ht]at hp
        have:=zb6 hp
        subst this
        simp[hargs]
       ·rw[←ht]at hq
        have:=zb6 hq
        subst this
        simp[hargs]
      ·cases hx
     ·cases hx
    ·cases hx
   ·cases hx
end
end
section
open Go.RowKit
def okK{α:Type}(o:Option α)(K:α→Prop):Prop:=∃x,o=some x∧K x
def putE(e:Env)(d:Option Nat)(x:AV):Env:=
 match d with
 | none=>e
 | some d=>(d,x)::e
theorem zdd(e:Env)(d:Option Nat)(x:AV):(putE e d x).get=upd e.get d x:=by
 cases d with
 | none=>rfl
 | some d=>
  funext t
  simp only[putE,Env.get,upd,List.lookup_cons]
  by_cases h:t=d
  ·subst h;simp
  ·have:(t == d)=false:=by simpa using h
   simp[this,h]
def scalarC:AV→Bool
 | .i .. | .b _ | .s _=>true
 | _=>false
def scalar1:AV→Bool
 | .agg cs=>cs.all scalarC
 | x=>scalarC x
def scalar:AV→Bool
 | .tup vs=>vs.all scalar1
 | x=>scalar1 x
def callP(P:Program)(f:FuncId)(xs:List AV)(h:Heap)(K:AV→Heap→Prop):Prop:=
 ∃ys post,xs.mapM (frz1 h)=some ys∧PCall P f ys post∧∀r,post r→K r (if scalar r then h else shareIds (xs.flatMap refs) h)
def ACall(P:Program)(f:FuncId)(args:List AV)(hb:Heap)(clk:Nat)(post:AV→Heap→Nat→Prop):Prop:=
 Enters P f∧∀(w:World) (S:Nat→Nat→Prop) (M:Map) (cargs:Array Value),cargs.size=args.length →
  (∀(j:Nat) (v:Value) (c:AV),cargs[j]? = some v→args[j]? = some c→C w S M clk v c) →
  HeapRel w S M clk hb→(∀k o,S k o→k<w.heap.size)→(∀g k,M g=some (some k)→k<w.heap.size) →
  Calls P f cargs w fun e w'=>∃v r h' S' M' clk',e=.returned v∧post r h' clk'∧C w' S' M' clk' v r∧∀nt,WRel ⟨P,nt,w,S,M,clk⟩ S' M' clk' h' w'
def refOkC(h:Heap):AV→Bool
 | .bs id g z _ _=>(boxAt h id g z).isSome
 | .ptr id g z _ _=>(boxAt h id g z).isSome
 | .fnp _ id g z _ _=>(boxAt h id g z).isSome
 | .agg _ | .tup _ | .ifc .. => false
 | _=>true
def refOk1(h:Heap):AV→Bool
 | .agg cs=>cs.all (refOkC h)
 | x=>refOkC h x
def refOk(h:Heap):AV→Bool
 | .tup vs=>vs.all (refOk1 h)
 | x=>refOk1 h x
def heapOk(h:Heap):Bool:=h.all fun p=>match p.2.kind with
 | .str=>p.2.els.all fun r=>r.all (refOkC h)
 | _=>true
def callB0(P:Program)(f:FuncId)(xs:List AV)(h:Heap)(clk:Nat)(K:AV→Heap→Nat→Prop):Prop:=
 ∃hb hr post,((∀id bx,hb.lookup id=some bx→h.lookup id=some bx)∧∀id bx,hr.lookup id=some bx→h.lookup id=some bx)∧(∀id,(hb.lookup id).isSome→hr.lookup id=none)∧ACall P f xs hb clk post ∧
  ∀r hb' clk',clk≤clk'→post r hb' clk'→(∀id,(hb'.lookup id).isSome→hr.lookup id=none)∧refOk hb' r=true∧heapOk hb'=true∧K r (hb'++hr) clk'
def frzM(h:Heap):List Bool→List AV→Option (List AV)
 | _,[]=>some []
 | m::ms,x::xs=>(if m then some x else frz1 h x).bind fun y=>(frzM h ms xs).map fun ys=>y::ys
 | [],_::_=>none
def refsM:List Bool→List AV→List BId
 | m::ms,x::xs=>(if m then [] else refs x)++refsM ms xs
 | _,_=>[]
def callB(P:Program)(f:FuncId)(xs:List AV)(h:Heap)(clk:Nat)(K:AV→Heap→Nat→Prop):Prop:=
 ∃ms ys,frzM h ms xs=some ys∧callB0 P f ys (shareIds (refsM ms xs) h) clk K
def stepW(op:AOp)(d:Option Nat)(ρ:Nat→AV)(h:Heap)(clk:Nat):Option (AV×Heap×Nat):=
 match op with
 | .alloc zs=>allocAV zs d h clk
 | .store n x v=>(storeAV n h (ev ρ x) (ev ρ v)).map fun h'=>(.tup [],h',clk)
 | .mks z zs l c=>mksAV z zs d h clk (ev ρ l) (ev ρ c)
 | .app z x y=>appAV z d h clk (ev ρ x) (ev ρ y)
 | .xop k xs=>stepXV k (xs.map (ev ρ)) d h clk
 | _=>none
def opK(P:Program)(op:AOp)(d:Option Nat)(st:St)(K:St→Prop):Prop:=
 match op with
 | .call f args=>
  callP P f (args.map (ev st.env.get)) st.heap (fun r h=>K ⟨putE st.env d r,h,st.clk⟩) ∨
  callB P f (args.map (ev st.env.get)) st.heap st.clk (fun r h c=>K ⟨putE st.env d r,h,c⟩)
 | .inv nm _ u r args=>(u=0∧∃t y f,ev st.env.get r=.ifc t y∧methOf P t nm=some f ∧
  (callP P f (y::args.map (ev st.env.get)) st.heap (fun r h=>K ⟨putE st.env d r,h,st.clk⟩) ∨
  callB P f (y::args.map (ev st.env.get)) st.heap st.clk (fun r h c=>K ⟨putE st.env d r,h,c⟩))) ∨
  (u=1∧∃f x,ev st.env.get r=.fnv f x ∧
  (callP P f (x::args.map (ev st.env.get)) st.heap (fun r h=>K ⟨putE st.env d r,h,st.clk⟩) ∨
  callB P f (x::args.map (ev st.env.get)) st.heap st.clk (fun r h c=>K ⟨putE st.env d r,h,c⟩))) ∨
  (u=1∧∃f id g z i o,ev st.env.get r=.fnp f id g z i o ∧
  (callP P f (args.map (ev st.env.get)++[.ptr id g z i o]) st.heap (fun r h=>K ⟨putE st.env d r,h,st.clk⟩) ∨
  callB P f (args.map (ev st.env.get)++[.ptr id g z i o]) st.heap st.clk (fun r h c=>K ⟨putE st.env d r,h,c⟩)))
 | .alloc .. | .store .. | .mks .. | .app .. | .xop .. => okK (stepW op d st.env.get st.heap st.clk) fun q=>K ⟨putE st.env d q.1,q.2.1,q.2.2⟩
 | .bsl z zs len ps=>okK (bslAV z zs len st.heap (ps.map fun p=>(p.1,ev st.env.get p.2))) fun q=>K ⟨putE st.env d q.1,q.2,st.clk⟩
 | op=>okK (stepQ op st.env.get st.heap) fun x=>K ⟨putE st.env d x,st.heap,st.clk⟩
def stepK(P:Program)(o:AO)(st:St)(K:St→Prop):Prop:=
 match o.guard with
 | none=>opK P o.op o.dst st K
 | some (t,want)=>
  match st.env.get t with
  | .b v=>if v=want then opK P o.op o.dst st K else K ⟨putE st.env o.dst (.tup []),st.heap,st.clk⟩
  | .tup _=>K ⟨putE st.env o.dst (.tup []),st.heap,st.clk⟩
  | _=>False
def runK(P:Program):List AO→St→(St→Prop)→Prop
 | [],st,K=>K st
 | o::r,st,K=>stepK P o st fun st'=>runK P r st' K
section
variable{P:Program}{cx:Cx}{w w':World}{S S':Nat→Nat→Prop}{M:Map}{clk:Nat}{h:Heap}{ρ:Nat→AV}{a:Act}
theorem Rel.put{st:St}{d:Option Nat}{v:Value}{x:AV}{h':Heap}{clk':Nat}(hr:RelF cx S M clk' h' st.env.get a w)(hd:∀e,d=some e→e<cx.nt)(hC:C w S M clk' v x):Rel cx ⟨putE st.env d x,h',clk'⟩ (a.put d v) w:=by
 refine⟨S,M,?_⟩
 show RelF cx S M clk' h' (putE st.env d x).get _ w
 rw[zdd]
 exact hr.put hd hC
theorem zif{v:Value}{x:AV}{S1 S2:Nat→Nat→Prop}(h:CP w S1 v x)(hx:scalarC x=true):CP w S2 v x:=by
 cases h<;>first | (cases hx;done) | exact .i _ _ | exact .b _ | exact .s _
theorem zig{v:Value}{x:AV}{S1 S2:Nat→Nat→Prop}(h:CP w S1 v x)(hx:scalar1 x=true):CP w S2 v x:=by
 cases x
 case agg cs=>
  cases h with
  | agg vs cs hl h1 h=>
   exact .agg vs cs hl h1 fun j v c hv hc=>zif (h j v c hv hc) (List.all_eq_true.1 hx c (List.mem_of_getElem? hc))
 all_goals exact zif h hx
theorem zro{v:Value}{x:AV}{S1 S2:Nat→Nat→Prop}(h:CP w S1 v x)(hx:scalar x=true):CP w S2 v x:=by
 cases x
 case tup cs=>
  cases h with
  | tup vs cs hl h=>
   exact .tup vs cs hl fun j v c hv hc=>zig (h j v c hv hc) (List.all_eq_true.1 hx c (List.mem_of_getElem? hc))
 all_goals exact zig h hx
theorem z28{xs ys:List AV}(hm:xs.mapM (frz1 h)=some ys)(hh:HeapRel w S M clk h){vs:List Value}(hl:vs.length=xs.length)(hc:∀(j:Nat) (v:Value) (c:AV),vs[j]? = some v→xs[j]? = some c→C w S M clk v c) :
  vs.length=ys.length∧∀(j:Nat) (v:Value) (c:AV),vs[j]? = some v→ys[j]? = some c→CP w (cellsS h M (xs.flatMap refs) S) v c:=by
 obtain⟨h1,h2⟩:=zbp _ _ hm
 refine⟨by omega,fun j v y hv hy=>?_⟩
 have hj:j<xs.length:=by have:=zat hv;omega
 have hx:xs[j]? = some (xs[j]'hj):=List.getElem?_eq_getElem hj
 exact zgv hh (hc j v _ hv hx) (h2 j _ _ hx hy) fun id hid=>List.mem_flatMap.2 ⟨_,List.mem_of_getElem? hx,hid⟩
theorem zgy{x y:AV}(hf:frz1 h x=some y):frz h x=some y:=by
 cases x<;>first | exact hf | (simp[frz1,frzC]at hf)
theorem zrp{xs ys:List AV}(hm:xs.mapM (frz1 h)=some ys):∀id bx,id∈xs.flatMap refs→h.lookup id=some bx→bx.kind≠.str:=by
 obtain⟨h1,h2⟩:=zbp _ _ hm
 intro id bx hid hb
 obtain⟨x,hx,hid⟩:=List.mem_flatMap.1 hid
 obtain⟨j,hj⟩:=List.getElem?_of_mem hx
 have hjl:j<ys.length:=by have:=zat hj;omega
 exact ze1 (zgy (h2 j x _ hj (List.getElem?_eq_getElem hjl))) id bx hid hb
theorem znw(ids:List BId):Ext w S M clk w (cellsS h M ids S) M clk:=
 ⟨fun _ _ hs=>.inl hs,fun _ _ _ _ hc=>hc,Nat.le_refl _,fun _ _ _ hm=>hm,fun _ _ arr _ _ _ hb=>⟨arr,hb,rfl⟩⟩
theorem RelF.share(hr:RelF cx S M clk h ρ a w)(ids:List BId)(hk:∀id bx,id∈ids→h.lookup id=some bx→bx.kind≠.str):RelF cx (cellsS h M ids S) M clk (shareIds ids h) ρ a w:=
 ⟨hr.size,hr.defers,fun t=>(hr.env t).mono (znw ids),hr.wr.share ids hk⟩
theorem zde{f:FuncId}{xs:List AV}{cargs:Array Value}{K:AV→Heap→Prop}(hr:RelF cx S M clk h ρ a w)(hc:callP P f xs h K)(hl:cargs.size=xs.length)(hC:∀(j:Nat) (v:Value) (c:AV),cargs[j]? = some v→xs[j]? = some c→C w S M clk v c) :
  Enters P f∧Calls P f cargs w fun e w'=>∃v r h' S' M',e=.returned v∧K r h'∧RelF cx S' M' clk h' ρ a w'∧C w' S' M' clk v r:=by
 obtain⟨ys,post,hm,hp,hK⟩:=hc
 obtain⟨h1,h2⟩:=z28 hm hr.wr.heap (vs:=cargs.toList) (by simpa using hl) (fun j v c hv hx=>hC j v c (by simpa using hv) hx)
 have hr1:=hr.share (xs.flatMap refs) (zrp hm)
 refine⟨hp.1,(hp.2 w _ cargs (by simpa using h1) (fun j v c hv hx=>h2 j v c (by simpa using hv) hx) hr1.wr.Slt).mono fun e w' ⟨v,r,he,hpr,hb,hC⟩=>?_⟩
 have hk:=hK r hpr
 by_cases hsc:scalar r=true
 ·rw[if_pos hsc]at hk
  exact⟨v,r,h,_,M,he,hk,hr.below hb,.p (zro hC hsc)⟩
 ·rw[if_neg hsc]at hk
  exact⟨v,r,_,_,M,he,hk,hr1.below hb,.p hC⟩
theorem zrq{M':Map}{v:Value}{x:AV}(hv:C w S M clk v x)(hx:refOkC h x=true)(ha:∀id g z bx,boxAt h id g z=some bx→M' g=M g):C w S M' clk v x:=by
 cases x<;>simp only[refOkC]at hx<;>try (exact .p (hv.pureC rfl))
 case bs id g z off n=>
  obtain⟨bx,hb⟩:=Option.isSome_iff_exists.1 hx
  obtain⟨h1,h2,h3⟩:=hv.inv_bs
  exact .bs _ _ _ _ _ _ h1 (by rw[ha _ _ _ _ hb];exact h2) h3
 case ptr id g z i o=>
  obtain⟨bx,hb⟩:=Option.isSome_iff_exists.1 hx
  obtain⟨h1,h2,h3⟩:=hv.inv_ptr
  exact .ptr _ _ _ _ _ _ h1 (by rw[ha _ _ _ _ hb];exact h2) h3
 case fnp f id g z i o=>
  obtain⟨bx,hb⟩:=Option.isSome_iff_exists.1 hx
  obtain⟨u,rfl,h1,h2,h3⟩:=hv.inv_fnp
  exact .fnp _ _ _ _ _ _ _ h1 (by rw[ha _ _ _ _ hb];exact h2) h3
 all_goals cases hx
theorem zxv{M':Map}{v:Value}{x:AV}(hv:C w S M clk v x)(hx:refOk1 h x=true)(ha:∀id g z bx,boxAt h id g z=some bx→M' g=M g):C w S M' clk v x:=by
 cases x
 case agg cs=>
  obtain⟨vs,rfl,hl,h1,hc⟩:=hv.inv_agg
  exact .agg vs cs hl h1 fun j v c hv hc'=>zrq (hc j v c hv hc') (List.all_eq_true.1 hx c (List.mem_of_getElem? hc')) ha
 all_goals exact zrq hv hx ha
theorem z9l{M':Map}{v:Value}{x:AV}(hv:C w S M clk v x)(hx:refOk h x=true)(ha:∀id g z bx,boxAt h id g z=some bx→M' g=M g):C w S M' clk v x:=by
 cases x
 case tup cs=>
  obtain⟨vs,rfl,hl,hc⟩:=hv.inv_tup
  exact .tup vs cs hl fun j v c hv hc'=>zxv (hc j v c hv hc') (List.all_eq_true.1 hx c (List.mem_of_getElem? hc')) ha
 all_goals exact zxv hv hx ha
theorem zak(hb hr:Heap)(id:BId):(hb++hr).lookup id=(hb.lookup id).or (hr.lookup id):=by
 induction hb with
 | nil=>simp
 | cons p hb ih=>
  obtain⟨b,bx⟩:=p
  simp only[List.cons_append,List.lookup_cons]
  split
  ·rfl
  ·exact ih
theorem zkg{f:FuncId}{xs:List AV}{cargs:Array Value}{K:AV→Heap→Nat→Prop}(hr:RelF cx S M clk h ρ a w)(hc:callB0 P f xs h clk K)(hl:cargs.size=xs.length)(hC:∀(j:Nat) (v:Value) (c:AV),cargs[j]? = some v→xs[j]? = some c→C w S M clk v c) :
  Enters P f∧Calls P f cargs w fun e w'=>∃v r h' S' M' clk',e=.returned v∧K r h' clk'∧RelF cx S' M' clk' h' ρ a w'∧C w' S' M' clk' v r:=by
 obtain⟨hb,hs,post,hsplit,hdis,hp,hK⟩:=hc
 obtain⟨hlb,hls⟩:=hsplit
 have hno:∀g,Live hb g→Live hs g→False:=by
  intro g ⟨b,bx,h1,h2⟩ ⟨b',bx',h3,h4⟩
  have:=hr.wr.heap.gens _ _ _ _ (hlb _ _ h1) (hls _ _ h3) (h2.trans h4.symm)
  subst this
  have:=hdis b (by rw[h1];rfl)
  rw[h3]at this
  cases this
 classical
 generalize hMb:(fun g=>if Live hb g then M g else none:Map)=Mb
 have hMb1:∀g m,Mb g=some m→Live hb g∧M g=some m:=by
  intro g m hm
  rw[←hMb]at hm
  simp only at hm
  split at hm
  ·exact⟨‹_›,hm⟩
  ·cases hm
 have hMb2:∀g,Live hb g→Mb g=M g:=by intro g hg;rw[←hMb];simp[hg]
 have hxb:Ext w S M clk w S Mb clk:=⟨fun _ _ hs=>hs,fun _ _ _ _ hc=>hc,Nat.le_refl _,fun g m _ hm=>(hMb1 g m hm).2,fun _ _ arr _ _ _ hb=>⟨arr,hb,rfl⟩⟩
 have hheap:HeapRel w S Mb clk hb:=by
  refine⟨fun b bx hx=>?_,fun g m hm=>(hMb1 g m hm).1,fun b bx b' bx' h1 h2 hg=>hr.wr.heap.gens _ _ _ _ (hlb _ _ h1) (hlb _ _ h2) hg,fun g g' k h1 h2=>hr.wr.heap.inj _ _ _ (hMb1 _ _ h1).2 (hMb1 _ _ h2).2⟩
  exact(hr.wr.heap.box b bx (hlb _ _ hx)).mono hxb (hMb2 _ ⟨b,bx,hx,rfl⟩) (fun _ _=>rfl) fun _ _ _ hs=>hs
 refine⟨hp.1,(hp.2 w S Mb cargs hl (fun j v c hv hc=>(hC j v c hv hc).mono hxb) hheap hr.wr.Slt fun g k hm=>(hr.wr.Mnew g k (hMb1 g _ hm).2).1).mono ?_⟩
 intro e w' ⟨v,r,h',S',M',clk',he,hpr,hCr,hw⟩
 have hw:=hw 0
 have hclk:=hw.ext.hclk
 obtain⟨hdis',hro,hho,hk⟩:=hK r h' clk' hclk hpr
 simp only at hclk
 generalize hMM:(fun g=>if Live hs g then M g else M' g:Map)=MM
 have hMM1:∀g,Live hs g→MM g=M g:=by intro g hg;rw[←hMM];simp[hg]
 have hMM2:∀g,¬ Live hs g→MM g=M' g:=by intro g hg;rw[←hMM];simp[hg]
 have hgs:∀g,Live hs g→g<clk:=by intro g ⟨b,bx,h1,h2⟩;rw[←h2];exact(hr.wr.heap.box b bx (hls _ _ h1)).1
 have hM's:∀g m,Live hs g→M' g=some m→False:=by
  intro g m hg hm
  have:=hw.ext.hM g m (hgs g hg) hm
  exact hno g (hMb1 g m this).1 hg
 have hbrw:∀g k,Live hs g→M g=some (some k)→¬ (⟨P,0,w,S,Mb,clk⟩:Cx).brw k:=by
  intro g k hg hm ⟨g2,h2⟩
  obtain⟨h3,h4⟩:=hMb1 _ _ h2
  have:=hr.wr.heap.inj _ _ _ hm h4
  subst this
  exact hno _ h3 hg
 have hsame:∀g k,Live hs g→M g=some (some k)→w'.heap[k]? = w.heap[k]? := fun g k hg hm=>hw.fr.block k (hr.wr.Mnew g k hm).1 (hbrw g k hg hm)
 have hx:Ext w S M clk w' S' MM clk':=by
  refine⟨hw.ext.hS,hw.ext.hcell,hclk,fun g m hg hm=>?_,fun g k arr e hg hm hbk=>?_⟩
  ·by_cases hl:Live hs g
   ·rw[hMM1 g hl]at hm;exact hm
   ·rw[hMM2 g hl]at hm;exact(hMb1 g m (hw.ext.hM g m hg hm)).2
  ·by_cases hl:Live hs g
   ·rw[hMM1 g hl]at hm
    exact⟨arr,by rw[hsame g k hl hm];exact hbk,rfl⟩
   ·rw[hMM2 g hl]at hm
    exact hw.ext.hblk g k arr e hg hm hbk
 have hagree:∀id g z bx,boxAt h' id g z=some bx→MM g=M' g:=by
  intro id g z bx hb
  obtain⟨hlk,hg,_⟩:=zay hb
  obtain⟨_,_,m,hm,_⟩:=hw.heap.box id bx hlk
  rw[hg]at hm
  exact hMM2 g fun hl=>hM's g m hl hm
 have hSs:∀g k o,Live hs g→M g=some (some k)→S' k o→S k o:=by
  intro g k o hl hm hs'
  rcases hw.Snew k o hs' with h1 | h1 | h1
  ·exact h1
  ·have:=(hr.wr.Mnew g k hm).1;simp only at h1;omega
  ·exact absurd h1 (hbrw g k hl hm)
 refine⟨v,r,h'++hs,S',MM,clk',he,hk,⟨hr.size,hr.defers,fun t=>(hr.env t).mono hx,?_⟩,z9l hCr hro hagree⟩
 have hlook:∀id bx,(h'++hs).lookup id=some bx→h'.lookup id=some bx∨(h'.lookup id=none∧hs.lookup id=some bx):=by
  intro id bx hb
  rw[zak]at hb
  cases hq:h'.lookup id with
  | none=>rw[hq]at hb;exact .inr ⟨rfl,by simpa using hb⟩
  | some b=>rw[hq]at hb;exact .inl (by simpa using hb)
 refine⟨⟨fun b bx hb=>?_,fun g m hm=>?_,fun b bx b' bx' h1 h2 hg=>?_,fun g g' k h1 h2=>?_⟩,hr.wr.ext.trans hx,?_,fun k o hs'=>?_,hw.Slt,fun g k hm=>?_⟩
 ·rcases hlook b bx hb with h1 | ⟨_,h1⟩
  ·obtain⟨b1,b2,m,hm,b3⟩:=hw.heap.box b bx h1
   have hba:boxAt h' b bx.gen bx.z=some bx:=by simp[boxAt,h1]
   refine⟨b1,b2,m,by rw[hagree _ _ _ _ hba];exact hm,?_⟩
   cases m with
   | none=>exact b3
   | some k=>
    obtain⟨arr,e,hh,hsz,hc,ho,hl⟩:=b3
    refine⟨arr,e,hh,hsz,fun i r j c hi hj=>?_,ho,hl⟩
    obtain⟨u,hu,hone,hC,hP⟩:=hc i r j c hi hj
    refine⟨u,hu,hone,?_,hP⟩
    by_cases hkd:bx.kind=.str
    ·have hmem:(b,bx)∈h':=by
      clear hk hro hpr hho hagree hdis' hC hP hb hba hlook
      induction h' with
      | nil=>simp at h1
      | cons p l ih=>
       obtain⟨b',bx'⟩:=p
       simp only[List.lookup_cons]at h1
       split at h1
       ·rename_i heq
        have:=eq_of_beq heq
        subst this
        cases h1
        simp
       ·exact List.mem_cons_of_mem _ (by
         have:∀(l:Heap),l.lookup b=some bx→(b,bx)∈l:=by
          intro l
          induction l with
          | nil=>intro h;simp at h
          | cons q l ih2=>
           intro h
           obtain⟨q1,q2⟩:=q
           simp only[List.lookup_cons]at h
           split at h
           ·rename_i heq2;have:=eq_of_beq heq2;subst this;cases h;simp
           ·exact List.mem_cons_of_mem _ (ih2 h)
         exact this l h1)
     have h5:=List.all_eq_true.1 hho _ hmem
     simp only[hkd]at h5
     have h6:=List.all_eq_true.1 (List.all_eq_true.1 h5 r (List.mem_of_getElem? hi)) c (List.mem_of_getElem? hj)
     exact zrq hC h6 hagree
    ·exact .p (hP hkd)
  ·have hl:Live hs bx.gen:=⟨b,bx,h1,rfl⟩
   exact(hr.wr.heap.box b bx (hls _ _ h1)).mono hx (hMM1 _ hl) (fun k hm=>hsame _ k hl hm) fun k o hm hs'=>hSs _ k o hl hm hs'
 ·by_cases hl:Live hs g
  ·obtain⟨b,bx,h1,h2⟩:=hl
   refine⟨b,bx,?_,h2⟩
   rw[zak]
   cases hq:h'.lookup b with
   | none=>simpa using h1
   | some b0=>have:=hdis' b (by rw[hq];rfl);rw[h1]at this;cases this
  ·rw[hMM2 g hl]at hm
   obtain⟨b,bx,h1,h2⟩:=hw.heap.live g m hm
   exact⟨b,bx,by rw[zak,h1];rfl,h2⟩
 ·have mix:∀b bx b' bx',h'.lookup b=some bx→hs.lookup b'=some bx'→bx.gen=bx'.gen→False:=by
   intro b bx b' bx' h1 h2 hg
   obtain⟨_,_,m,hm,_⟩:=hw.heap.box b bx h1
   exact hM's bx'.gen m ⟨b',bx',h2,rfl⟩ (by rw[←hg];exact hm)
  rcases hlook b bx h1 with h1 | ⟨_,h1⟩<;>rcases hlook b' bx' h2 with h2 | ⟨_,h2⟩
  ·exact hw.heap.gens _ _ _ _ h1 h2 hg
  ·exact(mix _ _ _ _ h1 h2 hg).elim
  ·exact(mix _ _ _ _ h2 h1 hg.symm).elim
  ·exact hr.wr.heap.gens _ _ _ _ (hls _ _ h1) (hls _ _ h2) hg
 ·have mix:∀g1 g2,Live hs g1→M g1=some (some k)→M' g2=some (some k)→False:=by
   intro g1 g2 hl hm1 hm2
   rcases(hw.Mnew g2 k hm2).2 with h3 | h3
   ·have:=(hr.wr.Mnew g1 k hm1).1;simp only at h3;omega
   ·exact hbrw g1 k hl hm1 h3
  by_cases l1:Live hs g<;>by_cases l2:Live hs g'
  ·rw[hMM1 _ l1]at h1;rw[hMM1 _ l2]at h2;exact hr.wr.heap.inj _ _ _ h1 h2
  ·rw[hMM1 _ l1]at h1;rw[hMM2 _ l2]at h2;exact(mix _ _ l1 h1 h2).elim
  ·rw[hMM2 _ l1]at h1;rw[hMM1 _ l2]at h2;exact(mix _ _ l2 h2 h1).elim
  ·rw[hMM2 _ l1]at h1;rw[hMM2 _ l2]at h2;exact hw.heap.inj _ _ _ h1 h2
 ·refine⟨hw.fr.os.trans hr.wr.fr.os,hw.fr.tape.trans hr.wr.fr.tape,hw.fr.output.trans hr.wr.fr.output,Nat.le_trans hr.wr.fr.size hw.fr.size,fun k hk hn=>?_⟩
  have:=hr.wr.fr.size
  rw[hw.fr.block k (by simp only;omega) fun⟨g,hm⟩=>?_]
  ·exact hr.wr.fr.block k hk hn
  ·rcases(hr.wr.Mnew g k (hMb1 g _ hm).2).2 with h3 | h3
   ·omega
   ·exact hn h3
 ·have hsz:=hr.wr.fr.size
  rcases hw.Snew k o hs' with h1 | h1 | ⟨g,h1⟩
  ·exact hr.wr.Snew k o h1
  ·simp only at h1;exact .inr (.inl (by omega))
  ·rcases(hr.wr.Mnew g k (hMb1 g _ h1).2).2 with h3 | h3
   ·exact .inr (.inl h3)
   ·exact .inr (.inr h3)
 ·have hsz:=hr.wr.fr.size
  by_cases hl:Live hs g
  ·rw[hMM1 g hl]at hm
   exact⟨Nat.lt_of_lt_of_le (hr.wr.Mnew g k hm).1 hw.fr.size,(hr.wr.Mnew g k hm).2⟩
  ·rw[hMM2 g hl]at hm
   obtain⟨h1,h2⟩:=hw.Mnew g k hm
   refine⟨h1,?_⟩
   rcases h2 with h2 | ⟨g2,h2⟩
   ·simp only at h2;exact .inl (by omega)
   ·exact(hr.wr.Mnew g2 k (hMb1 g2 _ h2).2).2
theorem zrr{x y:AV}(hf:frz1 h x=some y):∀id bx,id∈refs x→h.lookup id=some bx→bx.kind≠.str:=ze1 (zgy hf)
theorem zxw(hh:HeapRel w S M clk h):∀(ms:List Bool) (xs ys:List AV),frzM h ms xs=some ys →
  ys.length=xs.length∧(∀id bx,id∈refsM ms xs→h.lookup id=some bx→bx.kind≠.str) ∧
  ∀(ids:List BId),(∀id,id∈refsM ms xs→id∈ids)→∀(j:Nat) (v:Value) (x y:AV),xs[j]? = some x→ys[j]? = some y→C w S M clk v x→C w (cellsS h M ids S) M clk v y
 | ms,[],ys,hm=>by
  have:ys=[]:=by cases ms<;>(simp[frzM]at hm;exact hm)
  subst this
  exact⟨rfl,fun id bx hid=>by cases ms<;>simp[refsM]at hid,fun ids _ j v x y hx=>by simp at hx⟩
 | [],x::xs,ys,hm=>by simp[frzM]at hm
 | m::ms,x::xs,ys,hm=>by
  simp only[frzM]at hm
  obtain⟨y,hy,hm2⟩:=bind_some hm
  obtain⟨zs,hz,rfl⟩:=map_some hm2
  obtain⟨h1,h2,h3⟩:=zxw hh ms xs zs hz
  refine⟨by simp[h1],fun id bx hid hb=>?_,fun ids hids j v x' y' hx hy' hC=>?_⟩
  ·simp only[refsM,List.mem_append]at hid
   rcases hid with hid | hid
   ·cases m with
    | true=>simp at hid
    | false=>exact zrr (by simpa using hy) id bx (by simpa using hid) hb
   ·exact h2 id bx hid hb
  ·simp only[refsM,List.mem_append]at hids
   cases j with
   | zero=>
    simp at hx hy'
    subst hx
    subst hy'
    cases m with
    | true=>
     simp at hy
     subst hy
     exact hC.mono (znw ids)
    | false=>exact .p (zgv hh hC (by simpa using hy) fun id hid=>hids id (.inl (by simpa using hid)))
   | succ j=>exact h3 ids (fun id hid=>hids id (.inr hid)) j v x' y' (by simpa using hx) (by simpa using hy') hC
theorem zdf{f:FuncId}{xs:List AV}{cargs:Array Value}{K:AV→Heap→Nat→Prop}(hr:RelF cx S M clk h ρ a w)(hc:callB P f xs h clk K)(hl:cargs.size=xs.length)(hC:∀(j:Nat) (v:Value) (c:AV),cargs[j]? = some v→xs[j]? = some c→C w S M clk v c) :
  Enters P f∧Calls P f cargs w fun e w'=>∃v r h' S' M' clk',e=.returned v∧K r h' clk'∧RelF cx S' M' clk' h' ρ a w'∧C w' S' M' clk' v r:=by
 obtain⟨ms,ys,hm,hc0⟩:=hc
 obtain⟨h1,h2,h3⟩:=zxw hr.wr.heap ms xs ys hm
 refine zkg (hr.share (refsM ms xs) h2) hc0 (by omega) fun j v c hv hy=>?_
 have hj:j<xs.length:=by have:=zat hy;omega
 have hx:xs[j]? = some (xs[j]'hj):=List.getElem?_eq_getElem hj
 exact h3 _ (fun _ hid=>hid) j v _ c hx hy (hC j v _ hv hx)
end
end
section
open Go.RowKit
section
variable{P:Program}{cx:Cx}{w w':World}{S S':Nat→Nat→Prop}{M:Map}{clk:Nat}{h:Heap}{ρ:Nat→AV}{a:Act}
theorem zer(he:EnvOk w S M clk ρ a):∀(l:List (Nat×Operand)) (ps:List (Nat×Opd)),resPartsS l=some ps →
  (l.map fun p=>(p.1,a.eval p.2)).map (·.1)=(ps.map fun p=>(p.1,ev ρ p.2)).map (·.1) ∧
  ∀(j:Nat) v x,(l.map fun p=>(p.1,a.eval p.2))[j]? = some v→(ps.map fun p=>(p.1,ev ρ p.2))[j]? = some x→C w S M clk v.2 x.2
 | [],ps,hr=>by simp only[resPartsS,Option.some.injEq]at hr;subst hr;exact⟨rfl,fun j v x hv=>by simp at hv⟩
 | (i,x)::l,ps,hr=>by
  simp only[resPartsS]at hr
  obtain⟨p,hp,hr2⟩:=bind_some hr
  obtain⟨qs,hq,rfl⟩:=map_some hr2
  obtain⟨h1,h2⟩:=zer he l qs hq
  refine⟨by simpa using h1,fun j v y hv hy=>?_⟩
  cases j with
  | zero=>simp at hv hy;subst hv;subst hy;exact ev_C he hp
  | succ j=>exact h2 j v y (by simpa using hv) (by simpa using hy)
theorem zdg{o:Oper}{next:Act→World→Prop}{Q:Exit→Act→World→Prop}{v:Value}(hrun:(execOp a.eval o).run P w=.ok (.value v) w')(hn:next (a.put o.dst v) w'):o.wp P a w next Q:=by
 unfold Oper.wp
 rw[hrun,Oper.upon_value]
 exact hn
theorem zgk{s:Sem Value}{v:Value}(hs:s.run P w=.ok v w'):(do pure (Next.value (←s)):Sem Next).run P w=.ok (.value v) w':=by
 simp[hs,Result.andThen]
def AOp.makes:AOp→Bool
 | .alloc .. | .store .. | .mks .. | .bsl .. => true
 | _=>false
theorem zih{c:Call}{op:AOp}(hop:resOp P (.call c)=some op):op.makes=false:=by
 replace hop:=za2 hop
 rcases hop with hop | ⟨k,xs,rfl,_⟩
 rotate_left
 ·rfl
 obtain⟨callee,args,ats⟩:=c
 cases callee with
 | invoke r m=>
  simp only[resOp0]at hop
  obtain⟨p,hp,hr1⟩:=bind_some hop
  obtain⟨l,hl,rfl⟩:=map_some hr1
  rfl
 | builtin b=>
  simp only[resOp0]at hop
  revert hop
  repeat' split
  all_goals (intro hop;simp[Option.bind_eq_some_iff]at hop)
  all_goals first
   | (obtain⟨_,_,rfl⟩:=hop;rfl)
   | (subst hop;rfl)
   | (obtain⟨_,_,_,rfl⟩:=hop;rfl)
   | (obtain⟨_,_,_,_,rfl⟩:=hop;rfl)
   | (obtain⟨_,_,_,_,_,_,rfl⟩:=hop;rfl)
   | (obtain⟨_,_,_,_,_,rfl⟩:=hop;rfl)
   | (obtain⟨_,_,_,_,_,_,_,rfl⟩:=hop;rfl)
 | value fv=>
  cases fv<;>simp only[resOp0]at hop<;>try (cases hop;done)
  all_goals
   obtain⟨l,hl,rfl⟩:=map_some hop
   rfl
theorem zpb{o:Op}{k:XOp}{xs:List Opd}(hop:resOp0 P o=some (.xop k xs)):False:=by
 cases o<;>simp only[resOp0]at hop<;>try (cases hop;done)
 all_goals
  revert hop
  repeat' split
  all_goals simp[Option.bind_eq_some_iff]
theorem zdh{o:Oper}{op:AOp}{x:AV}{h':Heap}{clk':Nat}(hop:resOp P o.op=some op)(hr:RelF cx S M clk h ρ a w)(hs:stepW op o.dst ρ h clk=some (x,h',clk')) :
  ∃v w' S' M',((execOp a.eval o).run P w=.ok (.value v) w'∨((execOp a.eval o).run P w=.ok .skip w'∧v=undef))∧RelF cx S' M' clk' h' ρ a w'∧C w' S' M' clk' v x:=by
 obtain⟨dst,oop,type,pos,after,guard⟩:=o
 simp only at hop hs
 have hcall:∀c,oop=.call c→op.makes=false:=fun c hc=>zih (by rw[←hc];exact hop)
 have hop':=za2 hop
 clear hop
 rcases hop' with hop | ⟨k,xs,he,hx⟩
 rotate_left
 ·subst he
  rcases hx with hx | ⟨rfl,rfl⟩
  ·exact zm3 (o:=⟨dst,oop,type,pos,after,guard⟩) hx hr hs
  ·simp[stepW,stepXV]at hs
 cases op<;>simp only[stepW]at hs<;>try (cases hs;done)
 case xop k xs=>exact(zpb hop).elim
 case alloc zs=>
  obtain⟨t,hz,rfl⟩:∃t,zeros P t=some zs∧oop=.alloc t:=by
   cases oop<;>(try simp only[resOp0]at hop)
   case alloc t=>
    obtain⟨zs',hz,he⟩:=map_some hop
    cases he
    exact⟨t,hz,rfl⟩
   case call c=>exact absurd (hcall c rfl) (by simp[AOp.makes])
   all_goals
    exfalso
    revert hop
    repeat' split
    all_goals simp[Option.bind_eq_some_iff]
  obtain⟨v',w',S',M',h1,h2,h3⟩:=zmn hr hz hs
  exact⟨v',w',S',M',.inl (zgk h1),h2,h3⟩
 case store n px pv=>
  obtain⟨t,y,v,hsz,hp,hq,rfl⟩:∃t y v,sizeT P t=some n∧resOpd y=some px∧resOpd v=some pv∧oop=.store t y v:=by
   cases oop<;>(try simp only[resOp0]at hop)
   case store t y v=>
    obtain⟨n',hn,hop1⟩:=bind_some hop
    obtain⟨p,hp,hop2⟩:=bind_some hop1
    obtain⟨q,hq,he⟩:=map_some hop2
    cases he
    exact⟨t,y,v,hn,hp,hq,rfl⟩
   case call c=>exact absurd (hcall c rfl) (by simp[AOp.makes])
   all_goals
    exfalso
    revert hop
    repeat' split
    all_goals simp[Option.bind_eq_some_iff]
  obtain⟨h1',hs1,he⟩:=map_some hs
  cases he
  obtain⟨w',S',M',h1,h2⟩:=zmo hr hsz (ev_C hr.env hp) (ev_C hr.env hq) hs1
  refine⟨undef,w',S',M',.inr ⟨?_,rfl⟩,h2,.p (.tup #[] [] rfl fun j v c hv=>by simp at hv)⟩
  simp only[execOp,Sem.run_bind,h1,Result.andThen_ok,Sem.run_pure]
 case mks z zs pl pc=>
  obtain⟨t,l,c,e,inf,ht,hi,hby,hzs,hzl,hp,hq,hz,rfl⟩:∃t l c e inf,P.underlying t=some (.slice e)∧P.info? e=some inf∧inf.bytes≤32768∧zeros P e=some zs∧zs.length=inf.size∧resOpd l=some pl∧resOpd c=some pc∧inf.size=z∧oop=.makeSlice t l c:=by
   cases oop<;>(try simp only[resOp0]at hop)
   case makeSlice t l c=>
    split at hop
    ·rename_i e ht
     split at hop
     ·rename_i inf hi
      split at hop
      ·rename_i hcond
       obtain⟨zs',hzs,hop1⟩:=bind_some hop
       split at hop1
       ·rename_i hzl
        obtain⟨p,hp,hop2⟩:=bind_some hop1
        obtain⟨q,hq,he⟩:=map_some hop2
        cases he
        exact⟨t,l,c,e,inf,ht,hi,hcond.2,hzs,hzl,hp,hq,rfl,rfl⟩
       ·cases hop1
      ·cases hop
     ·cases hop
    ·cases hop
   case call c=>exact absurd (hcall c rfl) (by simp[AOp.makes])
   all_goals
    exfalso
    revert hop
    repeat' split
    all_goals simp[Option.bind_eq_some_iff]
  subst hz
  obtain⟨v',w',S',M',h1,h2,h3⟩:=zrm hr ht hi hby hzs hzl (ev_C hr.env hp) (ev_C hr.env hq) hs
  exact⟨v',w',S',M',.inl (zgk h1),h2,h3⟩
 case app z px py=>
  cases oop<;>simp only[resOp0]at hop
  case call c=>
   obtain⟨callee,cargs,ats⟩:=c
   cases callee with
   | invoke r m=>
    obtain⟨p,hp,hr1⟩:=bind_some hop
    obtain⟨l,hl,he⟩:=map_some hr1
    cases he
   | value fv=>
    cases fv<;>simp only at hop<;>try (cases hop;done)
    all_goals
     obtain⟨l,hl,he⟩:=map_some hop
     cases he
   | builtin b=>
    simp only at hop
    split at hop
    ·exfalso
     revert hop
     repeat' split
     all_goals simp
    ·obtain⟨l,_,hop1⟩:=bind_some hop;split at hop1<;>cases hop1
    ·obtain⟨l,_,hop1⟩:=bind_some hop;split at hop1<;>cases hop1
    ·rename_i y1 y2 t u hargs hts
     split at hop
     ·rename_i htu
      subst htu
      split at hop
      ·rename_i e ht
       split at hop
       ·rename_i inf hi
        split at hop
        ·rename_i hcond
         obtain⟨h0,hby,hzs⟩:=hcond
         obtain⟨p,hp,hop1⟩:=bind_some hop
         obtain⟨q,hq,he⟩:=map_some hop1
         cases he
         obtain⟨zv,hzv,hzc⟩:∃zv,inf.zero=some zv∧zv.cells.size=inf.size:=by
          cases hzz:inf.zero with
          | none=>rw[hzz]at hzs;cases hzs
          | some zv=>rw[hzz]at hzs;exact⟨zv,rfl,by simpa using hzs⟩
         obtain⟨v',w',S',M',h1,h2,h3⟩:=zrk (P:=P) (ty:=type) hr ht hi h0 hby hzv hzc rfl (ev_C hr.env hp) (ev_C hr.env hq) hs
         have ha:cargs=#[y1,y2]:=by rw[←Array.toArray_toList (xs:=cargs),hargs]
         have hat:ats=#[t,t]:=by rw[←Array.toArray_toList (xs:=ats),hts]
         subst ha
         subst hat
         exact⟨v',w',S',M',.inl (by simp[execOp,resolve,invoke,builtin,h1]),h2,h3⟩
        ·cases hop
       ·cases hop
      ·cases hop
     ·cases hop
    ·split at hop
     ·split at hop
      ·obtain⟨z,_,hop0⟩:=bind_some hop
       split at hop0
       ·obtain⟨p,_,hop1⟩:=bind_some hop0
        obtain⟨q,_,he⟩:=map_some hop1
        cases he
       ·cases hop0
      ·cases hop
     ·cases hop
    ·cases hop
  all_goals
   exfalso
   revert hop
   repeat' split
   all_goals simp[Option.bind_eq_some_iff]
theorem zii{dst:Option Nat}{type:TypeId}{pos:_}{after:_}{guard:_}{cargs:Array Operand}{ats:Array TypeId}{rr:Operand}{nm:String}{t f:Nat}{v:Value}(hv:a.eval rr=.iface t v)(hm:methOf P t nm=some f)(hent:Enters P f) :
  (execOp a.eval { dst:=dst,op:=.call { callee:=.invoke rr nm,args:=cargs,argTypes:=ats },type:=type,pos:=pos,after:=after,guard:=guard }).run P w=.ok (.enter f (#[v]++cargs.map a.eval)) w:=by
 have e1:(#[Value.iface t v]++cargs.map a.eval)[0]? = some (.iface t v):=by rw[Array.getElem?_append_left (by simp)];rfl
 have e2:(#[Value.iface t v]++cargs.map a.eval).extract 1 (#[Value.iface t v]++cargs.map a.eval).size=cargs.map a.eval:=by simp
 simp only[execOp,resolve,Sem.run_bind,Sem.run_pure,Result.andThen_ok,invoke,hv,e1,e2]
 rw[zpl hm]
 exact hent _ _
theorem zvf{dst:Option Nat}{type:TypeId}{pos:_}{after:_}{guard:_}{cargs:Array Operand}{ats:Array TypeId}{t f:Nat}{v:Value}(hv:a.tmps.getD t undef=.func (.func f) #[] #[v])(hent:Enters P f) :
  (execOp a.eval { dst:=dst,op:=.call { callee:=.value (.tmp t),args:=cargs,argTypes:=ats },type:=type,pos:=pos,after:=after,guard:=guard }).run P w=.ok (.enter f (cargs.map a.eval ++ #[v])) w:=by
 have hv':a.eval (.tmp t)=.func (.func f) #[] #[v]:=hv
 simp only[execOp,resolve,hv',Deferred.ofValue,Sem.run_bind,Sem.run_pure,Result.andThen_ok,invoke]
 have:=hent (cargs.map a.eval ++ #[v]) w
 simpa using this
theorem zrs{dst:Option Nat}{type:TypeId}{pos:_}{after:_}{guard:_}{cargs:Array Operand}{ats:Array TypeId}{t f:Nat}{v:Value}(hv:a.tmps.getD t undef=.func (.func f) #[v] #[])(hent:Enters P f) :
  (execOp a.eval { dst:=dst,op:=.call { callee:=.value (.tmp t),args:=cargs,argTypes:=ats },type:=type,pos:=pos,after:=after,guard:=guard }).run P w=.ok (.enter f (#[v]++cargs.map a.eval)) w:=by
 have hv':a.eval (.tmp t)=.func (.func f) #[v] #[]:=hv
 simp only[execOp,resolve,hv',Deferred.ofValue,Sem.run_bind,Sem.run_pure,Result.andThen_ok,invoke]
 have:=hent (#[v]++cargs.map a.eval) w
 simpa using this
theorem zkh{st:St}{o:Oper}{op:AOp}{K:St→Prop}{next:Act→World→Prop}{Q:Exit→Act→World→Prop}(hop:resOp P o.op=some op)(hd:∀e,o.dst=some e→e<cx.nt)
  (hr:RelF cx S M st.clk st.heap st.env.get a w) (hk:opK P op o.dst st K) (hn:∀st' a' w',K st'→Rel cx st' a' w'→next a' w'):o.wp P a w next Q:=by
 have quiet:okK (stepQ op st.env.get st.heap) (fun x=>K ⟨putE st.env o.dst x,st.heap,st.clk⟩)→o.wp P a w next Q:=by
  intro ⟨x,hx,hK⟩
  obtain⟨v,hv,hC⟩:=zhb (P:=P) hop hr.env hr.wr.heap hx
  exact zdg hv (hn _ _ _ hK (Rel.put hr hd hC))
 have wr:okK (stepW op o.dst st.env.get st.heap st.clk) (fun q=>K ⟨putE st.env o.dst q.1,q.2.1,q.2.2⟩)→o.wp P a w next Q:=by
  intro ⟨⟨x,h',c'⟩,hs,hK⟩
  obtain⟨v,w',S',M',h1,h2,h3⟩:=zdh hop hr hs
  rcases h1 with h1 | ⟨h1,rfl⟩
  ·exact zdg h1 (hn _ _ _ hK (Rel.put h2 hd h3))
  ·unfold Oper.wp
   rw[h1,Oper.upon_skip]
   exact hn _ _ _ hK (Rel.put h2 hd h3)
 have call:∀f args,op=.call f args→o.wp P a w next Q:=by
  intro f args he
  subst he
  obtain⟨dst,oop,type,pos,after,guard⟩:=o
  simp only at hop hk hd
  obtain⟨cargs,ats,hcall,hl⟩:=zd5 hop
  subst hcall
  obtain⟨h1,h2⟩:=zb9 hr.env _ _ hl
  have hsz:(cargs.map a.eval).size=(args.map (ev st.env.get)).length:=by simpa using h1
  have hC:∀(j:Nat) (v:Value) (c:AV),(cargs.map a.eval)[j]? = some v→(args.map (ev st.env.get))[j]? = some c→C w S M st.clk v c:=
   fun j v c hv hc=>h2 j v c (by simpa using hv) hc
  have hexec:Enters P f→(execOp a.eval { dst:=dst,op:=.call { callee:=.value (.func f),args:=cargs,argTypes:=ats },type:=type,pos:=pos,after:=after,guard:=guard }).run P w=.ok (.enter f (cargs.map a.eval)) w:=by
   intro hent
   simp only[execOp,resolve,Act.eval,Deferred.ofValue,Sem.run_bind,Sem.run_pure,Result.andThen_ok,invoke]
   have:=hent (cargs.map a.eval) w
   simpa using this
  simp only[opK]at hk
  rcases hk with hk | hk
  ·obtain⟨hent,hc⟩:=zde hr hk hsz hC
   unfold Oper.wp
   rw[hexec hent,Oper.upon_enter]
   refine hc.mono fun e w' ⟨v,r,h',S',M',he,hK,hr',hC'⟩=>?_
   subst he
   exact hn _ _ _ hK (Rel.put hr' hd hC')
  ·obtain⟨hent,hc⟩:=zdf hr hk hsz hC
   unfold Oper.wp
   rw[hexec hent,Oper.upon_enter]
   refine hc.mono fun e w' ⟨v,r,h',S',M',clk',he,hK,hr',hC'⟩=>?_
   subst he
   exact hn _ _ _ hK (Rel.put hr' hd hC')
 obtain⟨dst,oop,type,pos,after,guard⟩:=o
 simp only at hop hk hd
 have hop':=za2 hop
 clear hop
 rcases hop' with hop | ⟨k,xs,he,hx⟩
 rotate_left
 ·subst he
  exact wr hk
 cases oop<;>simp only[resOp0]at hop<;>try (cases hop;done)
 case alloc t=>
  obtain⟨zs,hz,rfl⟩:=map_some hop
  exact wr hk
 case makeInterface t y=>
  split at hop
  ·split at hop
   ·cases hop
   ·obtain⟨p,hp,rfl⟩:=map_some hop
    exact quiet hk
  ·cases hop
 case buildSlice t len parts=>
  split at hop
  ·rename_i e ht
   obtain⟨z,hz,hop1⟩:=bind_some hop
   split at hop1
   ·rename_i hlim
    obtain⟨zs,hzs,hop2⟩:=bind_some hop1
    split at hop2
    ·rename_i hzl
     obtain⟨ps,hps,rfl⟩:=map_some hop2
     obtain⟨⟨r,h'⟩,hs,hK⟩:=hk
     obtain⟨h1,h2⟩:=zer hr.env _ _ hps
     have e1:∀ρ:Operand→Value,(Array.map (fun(x:Nat×Operand)=>(x.fst,ρ x.snd)) parts).toList=parts.toList.map fun p=>(p.1,ρ p.2):=by intro ρ;simp
     obtain⟨v',w',S',M',h3,h4,h5⟩:=zkf (parts:=Array.map (fun(x:Nat×Operand)=>(x.fst,a.eval x.snd)) parts) hr ht hz hlim.1 hlim.2 hzs hzl (by rw[e1];exact h1) (fun j v x hv hx=>h2 j v x (by rw[e1]at hv;exact hv) hx) hs
     exact zdg (w':=w') (zgk h3) (hn _ _ _ hK (Rel.put h4 hd h5))
    ·cases hop2
   ·cases hop1
  ·cases hop
 case store t y v=>
  obtain⟨n,hsz,hop1⟩:=bind_some hop
  obtain⟨p,hp,hop2⟩:=bind_some hop1
  obtain⟨q,hq,rfl⟩:=map_some hop2
  exact wr hk
 case makeSlice t l c=>
  split at hop
  ·split at hop
   ·split at hop
    ·obtain⟨zs,hzs,hop1⟩:=bind_some hop
     split at hop1
     ·obtain⟨p,hp,hop2⟩:=bind_some hop1
      obtain⟨q,hq,rfl⟩:=map_some hop2
      exact wr hk
     ·cases hop1
    ·cases hop
   ·cases hop
  ·cases hop
 case call c=>
  obtain⟨callee,cargs,ats⟩:=c
  cases callee with
  | invoke r m=>
   obtain⟨p,hp,hr1⟩:=bind_some hop
   obtain⟨l,hl,rfl⟩:=map_some hr1
   clear call
   simp only[opK]at hk
   rcases hk with ⟨_,hk⟩ | ⟨h0,_⟩ | ⟨h0,_⟩
   rotate_left
   ·cases h0
   ·cases h0
   obtain⟨t,y,f,hy,hm,hk⟩:=hk
   have hCr:=ev_C hr.env hp
   rw[hy]at hCr
   obtain⟨v,hv,hCy⟩:=hCr.inv_ifc
   obtain⟨h1,h2⟩:=zb9 hr.env _ _ hl
   have hsz:(#[v]++cargs.map a.eval).size=(y::l.map (ev st.env.get)).length:=by
    have:cargs.size=l.length:=by simpa using h1
    simp[this,Nat.add_comm]
   have hC:∀(j:Nat) (u:Value) (c:AV),(#[v]++cargs.map a.eval)[j]? = some u→(y::l.map (ev st.env.get))[j]? = some c→C w S M st.clk u c:=by
    intro j u c hu hc
    cases j with
    | zero=>
     rw[Array.getElem?_append_left (by simp)]at hu
     cases hu
     cases hc
     exact hCy
    | succ j=>
     rw[Array.getElem?_append_right (by simp)]at hu
     exact h2 j u c (by simpa using hu) (by simpa using hc)
   have hexec:=zii (P:=P) (w:=w) (dst:=dst) (type:=type) (pos:=pos) (after:=after) (guard:=guard) (ats:=ats) (cargs:=cargs) hv hm
   rcases hk with hk | hk
   ·obtain⟨hent,hc⟩:=zde hr hk hsz hC
    unfold Oper.wp
    rw[hexec hent,Oper.upon_enter]
    refine hc.mono fun e w' ⟨v,r,h',S',M',he,hK,hr',hC'⟩=>?_
    subst he
    exact hn _ _ _ hK (Rel.put hr' hd hC')
   ·obtain⟨hent,hc⟩:=zdf hr hk hsz hC
    unfold Oper.wp
    rw[hexec hent,Oper.upon_enter]
    refine hc.mono fun e w' ⟨v,r,h',S',M',clk',he,hK,hr',hC'⟩=>?_
    subst he
    exact hn _ _ _ hK (Rel.put hr' hd hC')
  | value fv=>
   cases fv<;>simp only at hop<;>try (cases hop;done)
   case func f=>obtain⟨l,hl,rfl⟩:=map_some hop;exact call _ _ rfl
   case tmp tt=>
    obtain⟨l,hl,rfl⟩:=map_some hop
    clear call
    simp only[opK]at hk
    rcases hk with ⟨h0,_⟩ | ⟨_,hk⟩ | ⟨_,hk⟩
    ·cases h0
    ·obtain⟨f,y,hy,hk⟩:=hk
     have hCr:=hr.env tt
     rw[show st.env.get tt=_ from hy]at hCr
     obtain⟨v,hv,hCy⟩:=hCr.inv_fnv
     obtain⟨h1,h2⟩:=zb9 hr.env _ _ hl
     have hsz:(#[v]++cargs.map a.eval).size=(y::l.map (ev st.env.get)).length:=by
      have:cargs.size=l.length:=by simpa using h1
      simp[this,Nat.add_comm]
     have hC:∀(j:Nat) (u:Value) (c:AV),(#[v]++cargs.map a.eval)[j]? = some u→(y::l.map (ev st.env.get))[j]? = some c→C w S M st.clk u c:=by
      intro j u c hu hc
      cases j with
      | zero=>
       rw[Array.getElem?_append_left (by simp)]at hu
       cases hu
       cases hc
       exact .p hCy
      | succ j=>
       rw[Array.getElem?_append_right (by simp)]at hu
       exact h2 j u c (by simpa using hu) (by simpa using hc)
     have hexec:=zrs (P:=P) (a:=a) (w:=w) (dst:=dst) (type:=type) (pos:=pos) (after:=after) (guard:=guard) (ats:=ats) (cargs:=cargs) hv
     rcases hk with hk | hk
     ·obtain⟨hent,hc⟩:=zde hr hk hsz hC
      unfold Oper.wp
      rw[hexec hent,Oper.upon_enter]
      refine hc.mono fun e w' ⟨v,r,h',S',M',he,hK,hr',hC'⟩=>?_
      subst he
      exact hn _ _ _ hK (Rel.put hr' hd hC')
     ·obtain⟨hent,hc⟩:=zdf hr hk hsz hC
      unfold Oper.wp
      rw[hexec hent,Oper.upon_enter]
      refine hc.mono fun e w' ⟨v,r,h',S',M',clk',he,hK,hr',hC'⟩=>?_
      subst he
      exact hn _ _ _ hK (Rel.put hr' hd hC')
    obtain⟨f,id,g,z,i,oo,hy,hk⟩:=hk
    have hCr:=hr.env tt
    rw[show st.env.get tt=_ from hy]at hCr
    obtain⟨v,hv,hg,hpo,h1v⟩:=hCr.inv_fnp
    obtain⟨h1,h2⟩:=zb9 hr.env _ _ hl
    have hsz:(cargs.map a.eval ++ #[v]).size=(l.map (ev st.env.get)++[AV.ptr id g z i oo]).length:=by
     have:cargs.size=l.length:=by simpa using h1
     simp[this]
    have hC:∀(j:Nat) (u:Value) (c:AV),(cargs.map a.eval ++ #[v])[j]? = some u→(l.map (ev st.env.get)++[AV.ptr id g z i oo])[j]? = some c→C w S M st.clk u c:=by
     intro j u c hu hc
     have hs:cargs.size=l.length:=by simpa using h1
     rcases Nat.lt_or_ge j l.length with hj | hj
     ·rw[Array.getElem?_append_left (by simpa[hs]using hj)]at hu
      rw[List.getElem?_append_left (by simpa using hj)]at hc
      exact h2 j u c (by simpa using hu) (by simpa using hc)
     ·rw[Array.getElem?_append_right (by simpa[hs]using hj)]at hu
      rw[List.getElem?_append_right (by simpa using hj)]at hc
      simp only[Array.size_map,List.length_map,hs]at hu hc
      cases hq:j-l.length with
      | succ q=>rw[hq]at hc;simp at hc
      | zero=>
       rw[hq]at hu hc
       simp at hu hc
       subst hu
       subst hc
       exact .ptr _ _ _ _ _ _ hg hpo h1v
    have hexec:=zvf (P:=P) (a:=a) (w:=w) (dst:=dst) (type:=type) (pos:=pos) (after:=after) (guard:=guard) (ats:=ats) (cargs:=cargs) hv
    rcases hk with hk | hk
    ·obtain⟨hent,hc⟩:=zde hr hk hsz hC
     unfold Oper.wp
     rw[hexec hent,Oper.upon_enter]
     refine hc.mono fun e w' ⟨v,r,h',S',M',he,hK,hr',hC'⟩=>?_
     subst he
     exact hn _ _ _ hK (Rel.put hr' hd hC')
    ·obtain⟨hent,hc⟩:=zdf hr hk hsz hC
     unfold Oper.wp
     rw[hexec hent,Oper.upon_enter]
     refine hc.mono fun e w' ⟨v,r,h',S',M',clk',he,hK,hr',hC'⟩=>?_
     subst he
     exact hn _ _ _ hK (Rel.put hr' hd hC')
  | builtin b=>
   simp only at hop
   split at hop
   ·split at hop
    ·obtain⟨p,_,rfl⟩:=map_some hop;exact quiet hk
    ·obtain⟨p,_,rfl⟩:=map_some hop;exact quiet hk
    ·cases hop;exact quiet hk
    ·cases hop
   ·obtain⟨l,_,hop1⟩:=bind_some hop;split at hop1<;>cases hop1;exact quiet hk
   ·obtain⟨l,_,hop1⟩:=bind_some hop;split at hop1<;>cases hop1;exact quiet hk
   ·rename_i y1 y2 t u hargs hts
    split at hop
    ·rename_i htu
     subst htu
     split at hop
     ·rename_i e ht
      split at hop
      ·rename_i inf hi
       split at hop
       ·obtain⟨p,hp,hop1⟩:=bind_some hop
        obtain⟨q,hq,rfl⟩:=map_some hop1
        exact wr hk
       ·cases hop
      ·cases hop
     ·cases hop
    ·cases hop
   ·split at hop
    ·split at hop
     ·obtain⟨z,_,hop0⟩:=bind_some hop
      split at hop0
      ·obtain⟨p,_,hop1⟩:=bind_some hop0
       obtain⟨q,_,rfl⟩:=map_some hop1
       exact quiet hk
      ·cases hop0
     ·cases hop
    ·cases hop
   ·cases hop
 case convert s d y=>
  split at hop
  ·obtain⟨p,hp,rfl⟩:=map_some hop;exact quiet hk
  ·split at hop
   ·obtain⟨p,hp,rfl⟩:=map_some hop;exact quiet hk
   ·cases hop
  ·cases hop
 case move y=>obtain⟨p,hp,rfl⟩:=map_some hop;exact quiet hk
 case assign y=>obtain⟨p,hp,rfl⟩:=map_some hop;exact quiet hk
 case pick c u v=>
  obtain⟨c',hc,hop1⟩:=bind_some hop
  obtain⟨u',hu,hop2⟩:=bind_some hop1
  obtain⟨v',hv,rfl⟩:=map_some hop2
  exact quiet hk
 case build t parts=>
  split at hop
  ·split at hop
   ·obtain⟨zs,hz,hop1⟩:=bind_some hop
    obtain⟨ps,hp,rfl⟩:=map_some hop1
    exact quiet hk
   ·cases hop
  ·obtain⟨n,_,hop0⟩:=bind_some hop
   obtain⟨zs,hz,hop1⟩:=bind_some hop0
   obtain⟨ps,hp,rfl⟩:=map_some hop1
   exact quiet hk
  ·cases hop
 case load t y=>
  obtain⟨n,hn',hop1⟩:=bind_some hop
  obtain⟨p,hp,rfl⟩:=map_some hop1
  exact quiet hk
 case nilCheck y=>obtain⟨p,hp,rfl⟩:=map_some hop;exact quiet hk
 case binOp op' t y z _=>
  obtain⟨p,hp,hop1⟩:=bind_some hop
  obtain⟨q,hq,hop2⟩:=bind_some hop1
  split at hop2
  ·cases hop2;exact quiet hk
  ·cases hop2;exact quiet hk
  ·cases op'<;>cases hop2<;>exact quiet hk
  ·split at hop2
   ·cases op'<;>try cases hop2
    ·obtain⟨ls,hl,rfl⟩:=map_some hop2;exact quiet hk
    ·obtain⟨ls,hl,rfl⟩:=map_some hop2;exact quiet hk
   ·cases hop2
  ·split at hop2
   ·cases op'<;>cases hop2<;>exact quiet hk
   ·cases hop2
  ·cases hop2
 case unOp op' t y=>obtain⟨p,hp,rfl⟩:=map_some hop;exact quiet hk
 case slice t y lo hi mx=>
  split at hop
  ·obtain⟨z,hz,hop1⟩:=bind_some hop
   obtain⟨p,hp,hop2⟩:=bind_some hop1
   obtain⟨lo',hlo,hop3⟩:=bind_some hop2
   obtain⟨hi',hhi,hop4⟩:=bind_some hop3
   obtain⟨mx',hmx,hop5⟩:=bind_some hop4
   split at hop5<;>cases hop5
   exact quiet hk
  ·split at hop
   ·obtain⟨p,hp,hop2⟩:=bind_some hop
    obtain⟨lo',hlo,hop3⟩:=bind_some hop2
    obtain⟨hi',hhi,rfl⟩:=map_some hop3
    exact quiet hk
   ·cases hop
  ·cases hop
 case fieldAddr t y i=>
  split at hop
  ·split at hop
   ·obtain⟨n,hn',hop1⟩:=bind_some hop
    split at hop1
    ·cases hop1
    ·obtain⟨p,hp,rfl⟩:=map_some hop1
     exact quiet hk
   ·cases hop
  ·cases hop
 case field t y i=>
  split at hop
  ·split at hop
   ·obtain⟨n,hn',hop1⟩:=bind_some hop
    obtain⟨p,hp,rfl⟩:=map_some hop1
    exact quiet hk
   ·cases hop
  ·cases hop
 case indexAddr t y i=>
  split at hop
  ·obtain⟨z,hz,hop1⟩:=bind_some hop
   obtain⟨p,hp,hop2⟩:=bind_some hop1
   obtain⟨q,hq,rfl⟩:=map_some hop2
   exact quiet hk
  ·obtain⟨z,hz,hop1⟩:=bind_some hop
   obtain⟨p,hp,hop2⟩:=bind_some hop1
   obtain⟨q,hq,rfl⟩:=map_some hop2
   exact quiet hk
  ·cases hop
 case index t y i=>
  split at hop
  ·obtain⟨p,hp,hop2⟩:=bind_some hop
   obtain⟨q,hq,rfl⟩:=map_some hop2
   exact quiet hk
  ·obtain⟨z,hz,hop1⟩:=bind_some hop
   obtain⟨k,hk',hop3⟩:=bind_some hop1
   obtain⟨p,hp,hop2⟩:=bind_some hop3
   obtain⟨q,hq,rfl⟩:=map_some hop2
   exact quiet hk
  ·cases hop
 case extract y i=>obtain⟨p,hp,rfl⟩:=map_some hop;exact quiet hk
end
end
section
open Go.RowKit
def opQ(P:Program)(op:AOp)(e:Env)(h:Heap)(older:List Heap)(K:AV→Prop):Prop:=
 match op with
 | .call f args=>(args.map (ev e.get)).all noRef=true∧∃r,PCall P f (args.map (ev e.get)) (·=r)∧K r
 | .inv nm _ u r args=>u=0∧∃t y f,ev e.get r=.ifc t y∧methOf P t nm=some f∧((drp1 y::args.map (ev e.get)).all noRef=true)∧∃x,PCall P f (drp1 y::args.map (ev e.get)) (·=x)∧K x
 | .bsl z zs len ps=>((ps.map fun p=>(p.1,ev e.get p.2)).all fun p=>noRef p.2)=true∧okK (bslAV z zs len [] (ps.map fun p=>(p.1,ev e.get p.2))) fun q=>K q.1
 | .app z (.c (.sl [] .nl)) y=>okK (cpnAV z (ev e.get y)) K
 | op=>okK (stepQ op e.get h) fun x=>(match op.free with | true=>True | false=>∀h'∈older,stepQ op e.get h'=some x)∧K x
def qK(P:Program)(o:AO)(e:Env)(h:Heap)(older:List Heap)(K:AV→Prop):Prop:=
 match o.guard with
 | none=>opQ P o.op e h older K
 | some (t,want)=>
  match e.get t with
  | .b v=>if v=want then opQ P o.op e h older K else K (.tup [])
  | .tup []=>K (.tup [])
  | _=>False
abbrev Pend:=List (Nat×(Heap→Prop))
def drawL(P:Program):List DO→Env→Heap→Nat→List Heap→Pend→(St→Prop)→Prop
 | [],e,h,clk,_,_,K=>K ⟨e,h,clk⟩
 | o::r,e,h,clk,older,pend,K=>
  match o.ao.op.writes with
  | true=>o.ao.guard=none∧okK (stepW o.ao.op o.ao.dst e.get h clk) fun q=>(∀p∈pend,0<p.1→p.2 q.2.1)∧drawL P r (putE e o.ao.dst q.1) q.2.1 q.2.2 (h::older) (pend.map fun p=>(p.1-1,p.2)) K
  | false=>qK P o.ao e h (older.take (older.length-o.lo)) fun x=>drawL P r (putE e o.ao.dst x) h clk older ((o.hi-older.length,fun h'=>QF P h' o.ao e.get x)::pend) K
def drawK(P:Program)(l:List DO)(st:St)(K:St→Prop):Prop:=drawL P l st.env st.heap st.clk [] [] K
section
variable{P:Program}{cx:Cx}{w w':World}{S S':Nat→Nat→Prop}{M:Map}{clk:Nat}{h:Heap}{ρ:Nat→AV}{a:Act}
theorem zaw{nt:Nat}{ops:Array Oper}{o:Oper}{ao:AO}(hao:resOper P nt ops o=some ao):∃op g,resOp P o.op=some op∧resGuard ops o.guard=some g∧ao=⟨o.dst,g,op⟩∧∀e,o.dst=some e→e<nt:=by
 unfold resOper at hao
 obtain⟨op,hop,hao1⟩:=bind_some hao
 obtain⟨g,hg,hao2⟩:=bind_some hao1
 refine⟨op,g,hop,hg,?_⟩
 cases hdd:o.dst with
 | none=>rw[hdd]at hao2;simp only[Option.some.injEq]at hao2;exact⟨hao2.symm,fun e he=>by cases he⟩
 | some d=>
  rw[hdd]at hao2
  simp only at hao2
  split at hao2<;>cases hao2
  exact⟨rfl,fun e he=>by cases he;assumption⟩
theorem zci{ops:Array Oper}{o:Oper}(hg:resGuard ops o.guard=some none)(a:Act):Region.wanted o (yielded ops a.tmps)=true:=by
 have hgn:o.guard=none:=by
  unfold resGuard at hg
  split at hg
  ·assumption
  ·obtain⟨d,_,hd⟩:=map_some hg;cases hd
 unfold Region.wanted
 rw[hgn]
theorem zmp{ops:Array Oper}{o:Oper}{t:Nat}{want v:Bool}{x:AV}(hg:resGuard ops o.guard=some (some (t,want)))(hC:C w S M clk (a.tmps.getD t undef) x)(hx:x=.b v):Region.wanted o (yielded ops a.tmps)=(v == want):=by
 obtain⟨j,hgj,hjd⟩:∃j,o.guard=some (j,want)∧(ops[j]?).bind (·.dst)=some t:=by
  unfold resGuard at hg
  split at hg
  ·cases hg
  ·rename_i j w0 hgo
   obtain⟨d,hd,he⟩:=map_some hg
   cases he
   exact⟨j,hgo,hd⟩
 subst hx
 have hv:=hC.inv_b
 unfold Region.wanted
 rw[hgj]
 simp only[yielded,hjd]
 cases hq:a.tmps[t]? with
 | none=>simp[hq,undef]at hv
 | some u=>
  simp[hq]at hv
  subst hv
  simp[hq]
theorem zkj{ops:Array Oper}{o:Oper}{t:Nat}{want:Bool}{x:AV}{vs:List AV}(hg:resGuard ops o.guard=some (some (t,want)))(hC:C w S M clk (a.tmps.getD t undef) x)(hx:x=.tup vs):Region.wanted o (yielded ops a.tmps)=false:=by
 obtain⟨j,hgj,hjd⟩:∃j,o.guard=some (j,want)∧(ops[j]?).bind (·.dst)=some t:=by
  unfold resGuard at hg
  split at hg
  ·cases hg
  ·rename_i j w0 hgo
   obtain⟨d,hd,he⟩:=map_some hg
   cases he
   exact⟨j,hgo,hd⟩
 subst hx
 obtain⟨us,hv,_⟩:=hC.inv_tup
 unfold Region.wanted
 rw[hgj]
 simp only[yielded,hjd]
 cases hq:a.tmps[t]? with
 | none=>simp[hq]
 | some u=>
  simp[hq]at hv
  subst hv
  simp[hq]
theorem zrt:C w S M clk undef (.tup []):=.p (.tup #[] [] rfl fun j v c hv=>by simp at hv)
theorem zc1{nt:Nat}{ops:Array Oper}{Q:Exit→Act→World→Prop}(hnt:nt=cx.nt):∀(l:List Oper) (aos:List AO) (st:St) (K:St→Prop) (a:Act) (w:World),resOpers P nt ops l=some aos→runK P aos st K→Rel cx st a w →
  (∀st' a' w',K st'→Rel cx st' a' w'→Q .normal a' w')→wpList P ops Q l a w
 | [],aos,st,K,a,w,hres,hk,hr,hQ=>by
  simp only[resOpers,Option.some.injEq]at hres
  subst hres
  exact hQ st a w hk hr
 | o::l,aos,st,K,a,w,hres,hk,hr,hQ=>by
  simp only[resOpers]at hres
  obtain⟨ao,hao,hres1⟩:=bind_some hres
  obtain⟨rest,hrest,rfl⟩:=map_some hres1
  obtain⟨op,g,hop,hg,rfl,hd⟩:=zaw hao
  subst hnt
  simp only[runK,stepK]at hk
  refine wpList_step fun N hN=>?_
  have next:∀st' a' w',runK P rest st' K→Rel cx st' a' w'→N a' w':=fun st' a' w' h1 h2=>hN a' w' (zc1 rfl l rest st' K a' w' hrest h1 h2 hQ)
  obtain⟨S,M,hrf⟩:=hr
  have skip:runK P rest ⟨putE st.env o.dst (.tup []),st.heap,st.clk⟩ K→N (a.put o.dst undef) w:=fun h1=>next _ _ _ h1 (Rel.put hrf hd zrt)
  cases g with
  | none=>
   rw[zci hg a]
   simp only[if_true]
   exact zkh hop hd hrf hk next
  | some tw=>
   obtain⟨t,want⟩:=tw
   simp only at hk
   have hC:=hrf.env t
   split at hk
   ·rename_i v hv
    rw[zmp hg hC hv]
    by_cases hvw:v=want
    ·rw[if_pos hvw]at hk
     simp only[hvw,beq_self_eq_true,if_true]
     exact zkh hop hd hrf hk next
    ·rw[if_neg hvw]at hk
     have:(v == want)=false:=by simpa using hvw
     rw[this]
     exact skip hk
   ·rename_i vs hv
    rw[zkj hg hC hv]
    exact skip hk
   ·exact hk.elim
theorem zru{o:Op}{nm:String}{k u:Nat}{r:Opd}{args:List Opd}(hop:resOp P o=some (.inv nm k u r args))(hu:u=0) :
  ∃rr cargs ats,o=.call { callee:=.invoke rr nm,args:=cargs,argTypes:=ats }∧resOpd rr=some r∧resList cargs.toList=some args:=by
 replace hop:=za2 hop
 rcases hop with hop | ⟨k,xs,he,_⟩
 rotate_left
 ·cases he
 cases o<;>simp only[resOp0]at hop
 case call c=>
  obtain⟨callee,cargs,ats⟩:=c
  cases callee with
  | invoke rr m=>
   obtain⟨p,hp,hr1⟩:=bind_some hop
   obtain⟨l,hl,he⟩:=map_some hr1
   injection he with h1 h2 h3 h4 h5
   subst h1 h4 h5
   exact⟨rr,cargs,ats,rfl,hp,hl⟩
  | builtin b=>
   exfalso
   revert hop
   simp only
   repeat' split
   all_goals simp[Option.bind_eq_some_iff]
  | value fv=>
   cases fv<;>simp only at hop<;>try (cases hop;done)
   all_goals
    obtain⟨l,hl,he⟩:=map_some hop
    first
     | (cases he;done)
     | (injection he with h1 h2 h3;omega)
 all_goals
  exfalso
  revert hop
  repeat' split
  all_goals simp[Option.bind_eq_some_iff]
theorem zd7{nt:Nat}{ops:Array Oper}{Q':Exit→Act→World→Prop}{i:Nat}{o:Oper}{ao:AO}{x:AV}{K:Act→World→Prop}(ho:ops[i]? = some o)(hnt:nt=cx.nt)
  (hao:resOper P nt ops o=some ao) (hq:QF P h ao ρ x) (hr:RelR cx clk h ρ a w) (hK:∀a' w',RelR cx clk h (upd ρ o.dst x) a' w'→K a' w'):wpOp P ops Q' i K a w:=by
 subst hnt
 obtain⟨S,M,hr⟩:=hr
 obtain⟨op,g,hop,hg,rfl,hd⟩:=zaw hao
 unfold wpOp
 simp only[ho]
 have skip:x=.tup []→Region.wanted o (yielded ops a.tmps)=false→if Region.wanted o (yielded ops a.tmps)=true then o.wp P a w K Q'∨o.asks P a w∧LetsOut Q' else K (a.put o.dst undef) w:=by
  intro hx hw
  rw[hw]
  simp only[Bool.false_eq_true,if_false]
  subst hx
  exact hK _ _ ⟨S,M,hr.put hd zrt⟩
 have run:Region.wanted o (yielded ops a.tmps)=true→QOp P op ρ h x→if Region.wanted o (yielded ops a.tmps)=true then o.wp P a w K Q'∨o.asks P a w∧LetsOut Q' else K (a.put o.dst undef) w:=by
  intro hw hqo
  rw[hw]
  simp only[if_true]
  refine .inl ?_
  have quiet:stepQ op ρ h=some x→o.wp P a w K Q':=by
   intro hs
   obtain⟨v,hv,hC⟩:=zhb (P:=P) hop hr.env hr.wr.heap hs
   exact zdg hv (hK _ _ ⟨S,M,hr.put hd hC⟩)
  cases op with
  | call f args=>
   obtain⟨hn,hent1,hp⟩:=hqo
   obtain⟨dst,oop,type,pos,after,guard⟩:=o
   simp only at hop hK hd
   obtain⟨cargs,ats,hcall,hl⟩:=zd5 hop
   subst hcall
   obtain⟨h1,h2⟩:=zrg hr.env hl hn
   have hc:=hp w S (cargs.map a.eval) (by simpa using h1) (fun j v c hv hc=>h2 j v c (by simpa using hv) hc) hr.wr.Slt
   unfold Oper.wp
   have hrun:(execOp a.eval { dst:=dst,op:=.call { callee:=.value (.func f),args:=cargs,argTypes:=ats },type:=type,pos:=pos,after:=after,guard:=guard }).run P w=.ok (.enter f (cargs.map a.eval)) w:=by
    simp only[execOp,resolve,Act.eval,Deferred.ofValue,Sem.run_bind,Sem.run_pure,Result.andThen_ok,invoke]
    have:=hent1 (cargs.map a.eval) w
    simpa using this
   rw[hrun,Oper.upon_enter]
   refine hc.mono fun e w' ⟨v,r,he,hpr,hb,hC⟩=>?_
   subst he
   subst hpr
   exact hK _ _ ⟨_,M,(hr.below hb).put hd (.p hC)⟩
  | inv nm k u r args=>
   obtain⟨hu0,t,y,f,hy,hm,hn,hent1,hp⟩:=hqo
   obtain⟨dst,oop,type,pos,after,guard⟩:=o
   simp only at hop hK hd
   obtain⟨rr,cargs,ats,rfl,hrr,hl⟩:=zru hop hu0
   have hCr:=ev_C hr.env hrr
   rw[hy]at hCr
   obtain⟨v,hv,hCy⟩:=hCr.inv_ifc
   obtain⟨h1,h2⟩:=zb9 hr.env _ _ hl
   have hsz:(#[v]++cargs.map a.eval).size=(drp1 y::args.map (ev ρ)).length:=by
    have:cargs.size=args.length:=by simpa using h1
    simp[this,Nat.add_comm]
   have hC:∀(j:Nat) (u:Value) (c:AV),(#[v]++cargs.map a.eval)[j]? = some u→(drp1 y::args.map (ev ρ))[j]? = some c→CP w S u c:=by
    intro j u c hu hc
    have hnr:=List.all_eq_true.1 hn c (List.mem_of_getElem? hc)
    cases j with
    | zero=>
     rw[Array.getElem?_append_left (by simp)]at hu
     cases hu
     cases hc
     exact hCy.drp1.noRef hnr
    | succ j=>
     rw[Array.getElem?_append_right (by simp)]at hu
     exact(h2 j u c (by simpa using hu) (by simpa using hc)).noRef hnr
   have hc:=hp w S (#[v]++cargs.map a.eval) hsz hC hr.wr.Slt
   unfold Oper.wp
   rw[zii hv hm hent1,Oper.upon_enter]
   refine hc.mono fun e w' ⟨v,r,he,hpr,hb,hC⟩=>?_
   subst he
   subst hpr
   exact hK _ _ ⟨_,M,(hr.below hb).put hd (.p hC)⟩
  | bsl z zs len ps=>
   obtain⟨hn,h0,hb⟩:=hqo
   obtain⟨dst,oop,type,pos,after,guard⟩:=o
   simp only at hop hK hd
   obtain⟨t,parts,e,ht,hz,hlim,hzs,hzl,hps,rfl⟩:∃t parts e,P.underlying t=some (.slice e)∧sizeT P e=some z∧(len*z≤16777216∧z≠0)∧zeros P e=some zs∧zs.length=z∧resPartsS parts.toList=some ps∧oop=.buildSlice t len parts:=by
    have hcall:∀c,oop=.call c→(AOp.bsl z zs len ps).makes=false:=fun c hc=>zih (P:=P) (by rw[←hc];exact hop)
    have hop':=za2 hop
    clear hop
    rcases hop' with hop | ⟨k,xs,he,_⟩
    rotate_left
    ·cases he
    cases oop<;>simp only[resOp0]at hop
    case buildSlice t len' parts=>
     split at hop
     ·rename_i e ht
      obtain⟨z',hz,hop1⟩:=bind_some hop
      split at hop1
      ·rename_i hlim
       obtain⟨zs',hzs,hop2⟩:=bind_some hop1
       split at hop2
       ·rename_i hzl
        obtain⟨ps',hps,he⟩:=map_some hop2
        cases he
        exact⟨t,parts,e,ht,hz,hlim,hzs,hzl,hps,rfl⟩
       ·cases hop2
      ·cases hop1
     ·cases hop
    case call c=>exact absurd (hcall c rfl) (by simp[AOp.makes])
    all_goals
     exfalso
     revert hop
     repeat' split
     all_goals simp[Option.bind_eq_some_iff]
   obtain⟨h1,h2⟩:=zer hr.env _ _ hps
   -- parts without boxes are the same,whatever boxes there are
   have pure1:∀x:AV,noRef x=true→frz1 h x=frz1 [] x∧refs x=[]:=by
    intro x hx
    have hc:∀c:AV,pureC c=true→frzC h c=frzC [] c:=by intro c hc;cases c<;>first | rfl | cases hc
    cases x<;>try (exact⟨rfl,rfl⟩)
    case agg cs=>
     simp only[noRef,List.all_eq_true]at hx
     refine⟨?_,?_⟩
     ·simp only[frz1]
      have:cs.mapM (frzC h)=cs.mapM (frzC []):=by
       clear hb h2 h1 hps hn hop hK
       induction cs with
       | nil=>rfl
       | cons c cs ih=>simp only[List.mapM_cons,hc c (hx c (by simp)),ih fun d hd=>hx d (by simp[hd])]
      rw[this]
     ·simp only[refs,List.flatMap_eq_nil_iff]
      intro c hcm
      have:=hx c hcm
      cases c<;>first | rfl | cases this
    all_goals cases hx
   have hq:∀qs:List (Nat×AV),(qs.all fun p=>noRef p.2)=true→frzP h qs=frzP [] qs∧(qs.flatMap fun p=>refs p.2)=[]:=by
    intro qs
    induction qs with
    | nil=>intro _;exact⟨rfl,rfl⟩
    | cons q qs ih=>
     intro hall
     obtain⟨i,y⟩:=q
     simp only[List.all_cons,Bool.and_eq_true]at hall
     obtain⟨e1,e2⟩:=ih hall.2
     obtain⟨e3,e4⟩:=pure1 y hall.1
     exact⟨by simp only[frzP,e1,e3],by simp only[List.flatMap_cons,e4,e2,List.append_nil]⟩
   obtain⟨e1,e2⟩:=hq _ hn
   have hb':bslAV z zs len h (ps.map fun p=>(p.1,ev ρ p.2))=some (x,h):=by
    unfold bslAV at hb ⊢
    rw[e1,e2]
    obtain⟨qs,hqs,hb1⟩:=bind_some hb
    obtain⟨els,hels,he⟩:=map_some hb1
    cases he
    simp only[hqs,Option.bind_some,hels,Option.map_some,shareIds]
   have e3:∀ρ:Operand→Value,(Array.map (fun(x:Nat×Operand)=>(x.fst,ρ x.snd)) parts).toList=parts.toList.map fun p=>(p.1,ρ p.2):=by intro ρ;simp
   obtain⟨v',w',S',M',h3,h4,h5⟩:=zkf (parts:=Array.map (fun(x:Nat×Operand)=>(x.fst,a.eval x.snd)) parts) hr ht hz hlim.1 hlim.2 hzs hzl (by rw[e3];exact h1) (fun j v x hv hx=>h2 j v x (by rw[e3]at hv;exact hv) hx) hb'
   exact zdg (w':=w') (zgk h3) (hK _ _ ⟨S',M',h4.put hd h5⟩)
  | app z px py=>
   by_cases hx:px=.c (.sl [] .nl)
   ·subst hx
    have hs:cpnAV z (ev ρ py)=some x:=hqo
    obtain⟨dst,oop,type,pos,after,guard⟩:=o
    simp only at hop hK hd
    have hop':=za2 hop
    clear hop
    rcases hop' with hop | ⟨k,xs,he,_⟩
    rotate_left
    ·cases he
    cases oop<;>simp only[resOp0]at hop
    case call c=>
     obtain⟨callee,cargs,ats⟩:=c
     cases callee with
     | invoke r m=>
      obtain⟨p,hp,hr1⟩:=bind_some hop
      obtain⟨l,hl,he⟩:=map_some hr1
      cases he
     | value fv=>
      cases fv<;>simp only at hop<;>try (cases hop;done)
      all_goals
       obtain⟨l,hl,he⟩:=map_some hop
       cases he
     | builtin b=>
      simp only at hop
      split at hop
      ·exfalso
       revert hop
       repeat' split
       all_goals simp
      ·obtain⟨l,_,hop1⟩:=bind_some hop;split at hop1<;>cases hop1
      ·obtain⟨l,_,hop1⟩:=bind_some hop;split at hop1<;>cases hop1
      ·rename_i y1 y2 t u hargs hts
       split at hop
       ·rename_i htu
        subst htu
        split at hop
        ·rename_i e ht
         split at hop
         ·rename_i inf hi
          split at hop
          ·rename_i hcond
           obtain⟨h0,hby,hzs⟩:=hcond
           obtain⟨p,hp,hop1⟩:=bind_some hop
           obtain⟨q,hq,he⟩:=map_some hop1
           cases he
           obtain⟨zv,hzv,hzc⟩:∃zv,inf.zero=some zv∧zv.cells.size=inf.size:=by
            cases hzz:inf.zero with
            | none=>rw[hzz]at hzs;cases hzs
            | some zv=>rw[hzz]at hzs;exact⟨zv,rfl,by simpa using hzs⟩
           obtain⟨v',w',S',M',h1,h2,h3⟩:=zrn (P:=P) (ty:=type) hr ht hi h0 hby hzv hzc rfl (ev_C hr.env hp) (ev_C hr.env hq) hs
           have ha:cargs=#[y1,y2]:=by rw[←Array.toArray_toList (xs:=cargs),hargs]
           have hat:ats=#[t,t]:=by rw[←Array.toArray_toList (xs:=ats),hts]
           subst ha
           subst hat
           exact zdg (w':=w') (by simp[execOp,resolve,invoke,builtin,h1]) (hK _ _ ⟨S',M',h2.put hd h3⟩)
          ·cases hop
         ·cases hop
        ·cases hop
       ·cases hop
      ·split at hop
       ·split at hop
        ·obtain⟨z,_,hop0⟩:=bind_some hop
         split at hop0
         ·obtain⟨p,_,hop1⟩:=bind_some hop0
          obtain⟨q,_,he⟩:=map_some hop1
          cases he
         ·cases hop0
        ·cases hop
       ·cases hop
      ·cases hop
    all_goals
     exfalso
     revert hop
     repeat' split
     all_goals simp[Option.bind_eq_some_iff]
   ·exact((zm1 hx).1 hqo).elim
  | _=>exact quiet hqo
 unfold QF at hq
 cases g with
 | none=>exact run (zci hg a) hq
 | some tw=>
  obtain⟨t,want⟩:=tw
  simp only at hq
  rcases hq with ⟨hb,hqo⟩ | ⟨hb,hx⟩
  ·exact run (by rw[zmp hg (hr.env t) hb];simp) hqo
  ·refine skip hx ?_
   rcases hb with hb | hb
   ·rw[zmp hg (hr.env t) hb];cases want<;>rfl
   ·exact zkj hg (hr.env t) hb
end
end
section
open Go.RowKit
section
variable{P:Program}{ops:Array Oper}
theorem zei{md:Region.Mode}:∀(n k:Nat) (listed:Array Bool),Region.lexFrom md ops n k listed=true→(∀i,listed.getD i false=true→i<k)→∀i o,k≤i→i<k+n→ops[i]? = some o→∀e∈o.after,Region.binds md e=true→e.on<i
 | 0,k,listed,_,_,i,o,h1,h2,_,_,_,_=>by omega
 | n+1,k,listed,hB,hl,i,o,h1,h2,ho,e,he,hb=>by
  simp only[Region.lexFrom,Bool.and_eq_true]at hB
  obtain⟨⟨hr,_⟩,hB'⟩:=hB
  by_cases hik:i=k
  ·subst hik
   have hr':i∈Region.ready md ops listed:=by simpa using hr
   obtain⟨_,o',ho',hall⟩:=mem_ready.1 hr'
   rw[ho]at ho'
   cases ho'
   exact hl _ (hall e he hb)
  ·refine zei n (k+1) _ hB' (fun j hj=>?_) i o (by omega) (by omega) ho e he hb
   by_cases hjk:k=j
   ·omega
   ·rw[getD_set_ne false hjk]at hj
    have:=hl j hj
    omega
theorem zrv(hB:Region.lexB .any ops=true):∀(i:Nat) (o:Oper),ops[i]? = some o→∀e∈o.after,Region.binds .any e=true→e.on<i:=by
 simp only[Region.lexB,Bool.and_eq_true]at hB
 intro i o ho
 have hi:i<ops.size:=(Array.getElem?_eq_some_iff.1 ho).1
 exact zei ops.size 0 _ hB.2 (fun j hj=>by rw[getD_replicate_false]at hj;cases hj) i o (Nat.zero_le _) (by omega) ho
theorem zpc{listed:Array Bool}(hB:Region.lexB .any ops=true)(hr:Region.ready .any ops listed=[])(hsz:listed.size=ops.size):∀i,i<ops.size→listed.getD i false=true:=by
 intro i
 induction i using Nat.strongRecOn with
 | _ i ih=>
  intro hi
  cases hl:listed.getD i false with
  | true=>rfl
  | false=>
   have ho:ops[i]? = some (ops[i]'hi):=Array.getElem?_eq_getElem hi
   have:i∈Region.ready .any ops listed:=mem_ready.2 ⟨getD_in (by omega) hl,_,ho,fun e he hb=>by
    have:=zrv hB i _ ho e he hb
    exact ih e.on this (by omega)⟩
   rw[hr]at this
   cases this
theorem zes{listed:Array Bool}(hc:Clo .any ops listed):∀(n v i:Nat),(listed.getD i false=true∨i∈Region.ready .any ops listed)→precedes ops n v i=true→listed.getD v false=true
 | 0,_,_,_,h=>by cases h
 | n+1,v,i,hi,h=>by
  simp only[precedes]at h
  split at h
  ·cases h
  ·rename_i o ho
   obtain⟨e,he,hb⟩:=Array.any_eq_true'.1 h
   simp only[Bool.and_eq_true,Bool.or_eq_true,beq_iff_eq]at hb
   have hl:listed.getD e.on false=true:=by
    rcases hi with hi | hi
    ·exact hc.closed i o ho hi e he hb.1
    ·obtain⟨_,o',ho',hall⟩:=mem_ready.1 hi
     rw[ho]at ho'
     cases ho'
     exact hall e he hb.1
   rcases hb.2 with hb2 | hb2
   ·rw[←hb2];exact hl
   ·exact zes hc n v e.on (.inl hl) hb2
theorem zdx:∀(ws:List Nat) (m a b:Nat),chained ops ws=true→ws[m]? = some a→ws[m+1]? = some b→∃o,ops[b]? = some o∧∃e∈o.after,Region.binds .any e=true∧e.on=a
 | [],_,_,_,_,h,_=>by simp at h
 | [x],m,_,_,_,_,h=>by cases m<;>simp at h
 | x::y::r,m,a,b,hc,h1,h2=>by
  simp only[chained,Bool.and_eq_true]at hc
  cases m with
  | zero=>
   simp at h1 h2
   subst h1
   subst h2
   have h3:=hc.1
   split at h3
   ·rename_i o ho
    obtain⟨e,he,hb⟩:=Array.any_eq_true'.1 h3
    simp only[Bool.and_eq_true,beq_iff_eq]at hb
    exact⟨o,ho,e,he,hb.1,hb.2⟩
   ·cases h3
  | succ m=>exact zdx (y::r) m a b hc.2 (by simpa using h1) (by simpa using h2)
theorem zdy{ws:List Nat}{listed:Array Bool}(hch:chained ops ws=true)(hc:Clo .any ops listed):∀(d p v u:Nat),ws[p]? = some v→ws[p+d]? = some u→listed.getD u false=true→listed.getD v false=true
 | 0,p,v,u,h1,h2,hl=>by rw[Nat.add_zero,h1]at h2;cases h2;exact hl
 | d+1,p,v,u,h1,h2,hl=>by
  have hlt:p+d<ws.length:=by have:=zat h2;omega
  have hx:ws[p+d]? = some (ws[p+d]'hlt):=List.getElem?_eq_getElem hlt
  obtain⟨o,ho,e,he,hb,hon⟩:=zdx ws (p+d) _ u hch hx h2
  have:=hc.closed u o ho hl e he hb
  rw[hon]at this
  exact zdy hch hc d p v _ h1 hx this
theorem zct{ws:List Nat}{f:Nat→Bool}:∀(p:Nat),p≤ws.length→(∀m v,ws[m]? = some v→(f v=true↔m<p))→(ws.filter f).length=p:=by
 induction ws with
 | nil=>intro p hp _;simp at hp;subst hp;rfl
 | cons x ws ih=>
  intro p hp h
  have h0:=h 0 x rfl
  cases p with
  | zero=>
   have hx:f x=false:=by simpa using h0
   simp only[List.filter_cons,hx,Bool.false_eq_true,if_false]
   exact ih 0 (Nat.zero_le _) fun m v hv=>by
    have:=h (m+1) v (by simpa using hv)
    simpa using this
  | succ p=>
   have hx:f x=true:=h0.2 (Nat.succ_pos _)
   simp only[List.filter_cons,hx,if_true,List.length_cons]
   rw[ih p (by simpa using hp) fun m v hv=>by
    have:=h (m+1) v (by simpa using hv)
    simpa using this]
theorem zcl(l:List AO)(k:Nat):k∈writersOf l↔∃ao,l[k]? = some ao∧ao.op.writes=true:=by
 unfold writersOf
 simp only[List.mem_map,List.mem_filter]
 constructor
 ·rintro⟨⟨ao,i⟩,⟨h1,h2⟩,rfl⟩
  rw[List.mem_zipIdx_iff_getElem?]at h1
  exact⟨ao,h1,h2⟩
 ·rintro⟨ao,h1,h2⟩
  exact⟨(ao,k),⟨by rw[List.mem_zipIdx_iff_getElem?];exact h1,h2⟩,rfl⟩
theorem zej(l:List AO):(writersOf l).Pairwise (· < ·):=by
 unfold writersOf
 rw[List.pairwise_map]
 refine List.Pairwise.filter _ ?_
 have key:∀(l:List AO) (k:Nat),(l.zipIdx k).Pairwise (fun a b=>a.2<b.2):=by
  intro l
  induction l with
  | nil=>intro k;simp
  | cons x l ih=>
   intro k
   simp only[List.zipIdx_cons,List.pairwise_cons]
   refine⟨fun p hp=>?_,ih (k+1)⟩
   obtain⟨a,i⟩:=p
   have:=List.le_snd_of_mem_zipIdx hp
   simp only at this ⊢
   omega
 exact key l 0
theorem zd8{ws:List Nat}(hs:ws.Pairwise (· < ·)){p q a b:Nat}(h1:ws[p]? = some a)(h2:ws[q]? = some b)(hpq:p<q):a<b:=by
 rw[List.pairwise_iff_getElem]at hs
 have hp:=zat h1
 have hq:=zat h2
 have:=hs p q hp hq hpq
 rw[List.getElem?_eq_getElem hp]at h1
 rw[List.getElem?_eq_getElem hq]at h2
 cases h1
 cases h2
 exact this
theorem zrw{o:AO}{ρ:Nat→AV}{x:AV}(hf:o.op.free=true)(h1 h2:Heap)(hq:QF P h1 o ρ x):QF P h2 o ρ x:=by
 unfold QF at *
 split at hq
 ·exact(zod hf h1 h2).1 hq
 ·rcases hq with ⟨ha,hb⟩ | hq
  ·exact .inl ⟨ha,(zod hf h1 h2).1 hb⟩
  ·exact .inr hq
theorem zvg{o:AO}{e:Env}{h:Heap}{older:List Heap}{K:AV→Prop}(hw:o.op.writes=false)(hk:qK P o e h older K):∃x,QF P h o e.get x∧(o.op.free=false→∀h'∈older,QF P h' o e.get x)∧K x:=by
 obtain⟨dst,guard,op⟩:=o
 have one:opQ P op e h older K→∃x,QOp P op e.get h x∧(op.free=false→∀h'∈older,QOp P op e.get h' x)∧K x:=by
  intro hk
  by_cases hap:∃z x0 y,op=.app z x0 y
  ·obtain⟨z,x0,y,rfl⟩:=hap
   by_cases hx:x0=.c (.sl [] .nl)
   ·subst hx
    obtain⟨x,h1,h2⟩:=hk
    exact⟨x,h1,fun hf=>(by cases hf),h2⟩
   ·exact absurd (show (AOp.app z x0 y).writes=false from hw) (by rw[zib hx];simp)
  cases op
  case app=>exact absurd ⟨_,_,_,rfl⟩ hap
  all_goals simp only[opQ]at hk
  all_goals first
   | (obtain⟨h1,r,h2,h3⟩:=hk;exact⟨r,⟨h1,h2⟩,fun hf=>(by cases hf),h3⟩)
   | (obtain⟨h0,t,y,f,h1,h2,h3,r,h4,h5⟩:=hk;exact⟨r,⟨h0,t,y,f,h1,h2,h3,h4⟩,fun hf=>(by cases hf),h5⟩)
   | (obtain⟨h1,⟨r,h'⟩,h2,h3⟩:=hk;exact⟨r,⟨h1,h',h2⟩,fun hf=>(by cases hf),h3⟩)
   | (obtain⟨x,hx,h2,hK⟩:=hk;exact⟨x,hx,fun hf=>(by simp only[hf]at h2;exact h2),hK⟩)
 unfold qK at hk
 unfold QF
 cases guard with
 | none=>exact one hk
 | some tw=>
  obtain⟨t,want⟩:=tw
  simp only at hk ⊢
  split at hk
  ·rename_i v hv
   by_cases hvw:v=want
   ·rw[if_pos hvw]at hk
    obtain⟨x,h1,h2,h3⟩:=one hk
    exact⟨x,.inl ⟨by rw[hv,hvw],h1⟩,fun hf h' hh=>.inl ⟨by rw[hv,hvw],h2 hf h' hh⟩,h3⟩
   ·rw[if_neg hvw]at hk
    have:e.get t=.b (!want):=by
     rw[hv]
     congr 1
     cases v<;>cases want<;>simp_all
    exact⟨.tup [],.inr ⟨.inl this,rfl⟩,fun _ _ _=>.inr ⟨.inl this,rfl⟩,hk⟩
  ·rename_i hv
   exact⟨.tup [],.inr ⟨.inr hv,rfl⟩,fun _ _ _=>.inr ⟨.inr hv,rfl⟩,hk⟩
  ·exact hk.elim
def FD(P:Program)(ops:Array Oper)(aos:List AO)(H:Nat→Heap)(C:Nat→Nat)(i:Nat)(ρ:Nat→AV)(x:AV):Prop:=
 ∃ao,aos[i]? = some ao ∧
  match ao.op.writes with
  | true=>ao.guard=none∧∃p,(writersOf aos)[p]? = some i∧stepW ao.op ao.dst ρ (H p) (C p)=some (x,H (p+1),C (p+1))
  | false=>∀j,lowOf ops (writersOf aos) i≤j→j≤highOf ops (writersOf aos) i→QF P (H j) ao ρ x
theorem zmq{aos:List AO}{K:St→Prop}(hok:drawOk ops aos=true)(hdst:∀(i:Nat) (o:Oper),ops[i]? = some o→∃ao:AO,aos[i]? = some ao∧ao.dst=o.dst) :
  ∀(l:List Oper) (k:Nat) (rest:List AO) (e:Env) (h:Heap) (clk:Nat) (older:List Heap) (oc:List Nat) (pend:Pend),(∀i,l[i]? = ops[k+i]?)→(∀i,rest[i]? = aos[k+i]?)→l.length=rest.length→oc.length=older.length →
   older.length≤(writersOf aos).length→(∀m v,(writersOf aos)[m]? = some v→(v<k↔m<older.length)) →
   drawL P ((rest.zipIdx k).map fun p=>⟨p.1,lowOf ops (writersOf aos) p.2,highOf ops (writersOf aos) p.2⟩) e h clk older pend K →
   ∃(H:Nat→Heap) (C:Nat→Nat),(∀m x,older.reverse[m]? = some x→H m=x)∧(∀m x,oc.reverse[m]? = some x→C m=x)∧H older.length=h∧C older.length=clk∧(∀p∈pend,∀j,older.length<j→j≤older.length+p.1→j≤(writersOf aos).length→p.2 (H j)) ∧
    lexE ops (FD P ops aos H C) (fun ρ=>∃e,ρ=Env.get e∧K ⟨e,H (writersOf aos).length,C (writersOf aos).length⟩) l k e.get
 | [],k,rest,e,h,clk,older,oc,pend,hl,hr,hlen,hoc,hle,hws,hk=>by
  have:rest=[]:=by cases rest with | nil=>rfl | cons _ _=>simp at hlen
  subst this
  simp only[List.zipIdx_nil,List.map_nil,drawL]at hk
  have hfull:older.length=(writersOf aos).length:=by
   rcases Nat.lt_or_ge older.length (writersOf aos).length with hlt | hge
   ·exfalso
    have hx:(writersOf aos)[older.length]? = some ((writersOf aos)[older.length]'hlt):=List.getElem?_eq_getElem hlt
    have h1:=(hws _ _ hx)
    have hmem:((writersOf aos)[older.length]'hlt)∈writersOf aos:=List.getElem_mem _
    obtain⟨ao,h2,_⟩:=(zcl aos _).1 hmem
    have h3:¬ ((writersOf aos)[older.length]'hlt)<k:=fun hh=>by have:=h1.1 hh;omega
    have h4:=hr (((writersOf aos)[older.length]'hlt)-k)
    rw[show k+(((writersOf aos)[older.length]'hlt)-k)=((writersOf aos)[older.length]'hlt) by omega,h2]at h4
    simp at h4
   ·omega
  refine⟨fun m=>if m=older.length then h else (older.reverse[m]?).getD [],fun m=>if m=older.length then clk else (oc.reverse[m]?).getD 0,fun m x hx=>?_,fun m x hx=>?_,by simp,by simp,fun p _ j h1 _ h3=>by omega,⟨e,rfl,?_⟩⟩
  ·have:=zat hx
   simp only[List.length_reverse]at this
   have hne:m≠older.length:=by omega
   simp only[hne,if_false,hx];rfl
  ·have:=zat hx
   simp only[List.length_reverse]at this
   have hne:m≠older.length:=by omega
   simp only[hne,if_false,hx];rfl
  ·rw[←hfull];simpa using hk
 | o::l,k,rest,e,h,clk,older,oc,pend,hl,hr,hlen,hoc,hle,hws,hk=>by
  cases rest with
  | nil=>simp at hlen
  | cons ao rest=>
   have ho:ops[k]? = some o:=by simpa using (hl 0).symm
   have hao:aos[k]? = some ao:=by simpa using (hr 0).symm
   obtain⟨ao',h1,hd⟩:=hdst k o ho
   rw[hao]at h1
   cases h1
   have hl':∀i,l[i]? = ops[(k+1)+i]? := fun i=>by have:=hl (i+1);simp only[List.getElem?_cons_succ]at this;rw[this];congr 1;omega
   have hr':∀i,rest[i]? = aos[(k+1)+i]? := fun i=>by have:=hr (i+1);simp only[List.getElem?_cons_succ]at this;rw[this];congr 1;omega
   have hlen':l.length=rest.length:=by simpa using hlen
   simp only[List.zipIdx_cons,List.map_cons,drawL]at hk
   have hsort:=zej aos
   unfold drawOk at hok
   simp only[Bool.and_eq_true,List.all_eq_true]at hok
   cases hwr:ao.op.writes with
   | true=>
    rw[hwr]at hk
    simp only at hk
    obtain⟨hgn,⟨x,h',clk'⟩,hst,hpd,hk2⟩:=hk
    have hkm:k∈writersOf aos:=(zcl aos k).2 ⟨ao,hao,hwr⟩
    obtain⟨m,hm⟩:=List.getElem?_of_mem hkm
    have hmo:m=older.length:=by
     have h1:=hws m k hm
     have h2:¬ m<older.length:=fun hh=>Nat.lt_irrefl k (h1.2 hh)
     rcases Nat.lt_or_ge older.length m with h3 | h3
     ·exfalso
      have hlt:older.length<(writersOf aos).length:=by have:=zat hm;omega
      have hx:(writersOf aos)[older.length]? = some ((writersOf aos)[older.length]'hlt):=List.getElem?_eq_getElem hlt
      have h4:=zd8 hsort hx hm h3
      have:=(hws _ _ hx).1 h4
      omega
     ·omega
    subst hmo
    obtain⟨H,C,hH,hC,hHe,hCe,hPe,hlex⟩:=zmq (K:=K) (by unfold drawOk;simp only[Bool.and_eq_true,List.all_eq_true];exact hok) hdst l (k+1) rest (putE e ao.dst x) h' clk' (h::older) (clk::oc) (pend.map fun p=>(p.1-1,p.2)) hl' hr' hlen' (by simp[hoc]) (by have:=zat hm;simp;omega) (fun m v hv=>by
     have h1:=hws m v hv
     simp only[List.length_cons]
     constructor
     ·intro hlt
      rcases Nat.lt_or_ge v k with h2 | h2
      ·have:=h1.1 h2;omega
      ·have hvk:v=k:=by omega
       subst hvk
       rcases Nat.lt_trichotomy m older.length with h3 | h3 | h3
       ·omega
       ·omega
       ·have:=zd8 hsort hm hv h3;omega
     ·intro hlt
      rcases Nat.lt_or_ge m older.length with h3 | h3
      ·have:=h1.2 h3;omega
      ·have:m=older.length:=by omega
       subst this
       rw[hm]at hv
       cases hv
       omega) hk2
    refine⟨H,C,fun m x hx=>hH m x ?_,fun m x hx=>hC m x ?_,?_,?_,fun p hp j h1 h2 h3=>?_,?_⟩
    ·simp only[List.reverse_cons]
     rw[List.getElem?_append_left (by have:=zat hx;simpa using this)]
     exact hx
    ·simp only[List.reverse_cons]
     rw[List.getElem?_append_left (by have:=zat hx;simpa using this)]
     exact hx
    ·exact hH older.length h (by simp)
    ·refine hC older.length clk ?_
     rw[←hoc];simp
    ·simp only[List.length_cons]at hHe hPe
     rcases Nat.lt_or_ge (older.length+1) j with h4 | h4
     ·exact hPe (p.1-1,p.2) (List.mem_map.2 ⟨p,hp,rfl⟩) j h4 (by simp only;omega) h3
     ·have:j=older.length+1:=by omega
      subst this
      rw[hHe]
      exact hpd p hp (by omega)
    ·refine⟨x,⟨ao,hao,?_⟩,?_⟩
     ·simp only[hwr]
      refine⟨hgn,older.length,hm,?_⟩
      have e1:H older.length=h:=hH older.length h (by simp)
      have e2:C older.length=clk:=by refine hC older.length clk ?_;rw[←hoc];simp
      simp only[List.length_cons]at hHe hCe
      rw[e1,e2,hHe,hCe]
      exact hst
     ·rw[←hd,←zdd]
      exact hlex
   | false=>
    rw[hwr]at hk
    simp only at hk
    obtain⟨x,hq1,hq2,hk2⟩:=zvg hwr hk
    have hkm:k∉writersOf aos:=fun hmem=>by
     obtain⟨ao2,h1,h2⟩:=(zcl aos k).1 hmem
     rw[hao]at h1
     cases h1
     rw[hwr]at h2
     cases h2
    obtain⟨H,C,hH,hC,hHe,hCe,hPe,hlex⟩:=zmq (K:=K) (by unfold drawOk;simp only[Bool.and_eq_true,List.all_eq_true];exact hok) hdst l (k+1) rest (putE e ao.dst x) h clk older oc ((highOf ops (writersOf aos) k-older.length,fun h'=>QF P h' ao e.get x)::pend) hl' hr' hlen' hoc hle (fun m v hv=>by
     have h1:=hws m v hv
     have:v≠k:=fun he=>hkm (by rw[←he];exact List.mem_of_getElem? hv)
     constructor
     ·intro hlt;exact h1.1 (by omega)
     ·intro hlt;have:=h1.2 hlt;omega) hk2
    refine⟨H,C,hH,hC,hHe,hCe,fun p hp=>hPe p (List.mem_cons_of_mem _ hp),x,⟨ao,hao,?_⟩,?_⟩
    ·simp only[hwr]
     intro j hlo hhi
     cases hfr:ao.op.free with
     | true=>exact zrw hfr h _ hq1
     | false=>
      rcases Nat.lt_or_ge j older.length with hj | hj
      ·have hx:older.reverse[j]? = some (older.reverse[j]'(by simpa using hj)):=List.getElem?_eq_getElem _
       rw[hH j _ hx]
       refine hq2 hfr _ ?_
       rw[List.getElem_reverse]
       have hidx:older.length-1-j<older.length-lowOf ops (writersOf aos) k:=by omega
       have hx2:(older.take (older.length-lowOf ops (writersOf aos) k))[older.length-1-j]? = some (older[older.length-1-j]'(by omega)):=by
        rw[List.getElem?_take,if_pos hidx,List.getElem?_eq_getElem]
       exact List.mem_of_getElem? hx2
      ·rcases Nat.lt_or_ge older.length j with hj2 | hj2
       ·have hle2:highOf ops (writersOf aos) k≤(writersOf aos).length:=List.length_filter_le _ _
        exact hPe _ List.mem_cons_self j hj2 (by simp only;omega) (by omega)
       ·have:j=older.length:=by omega
        subst this
        rw[hHe]
        exact hq1
    ·rw[←hd,←zdd]
     exact hlex
end
end
section
open Go.RowKit
section
variable{P:Program}{ops:Array Oper}{cx:Cx}{w:World}{a:Act}
theorem zb7{nt:Nat}{ops:Array Oper}:∀(l:List Oper) (aos:List AO),resOpers P nt ops l=some aos→∀(i:Nat) (o:Oper),l[i]? = some o→∃ao,aos[i]? = some ao∧resOper P nt ops o=some ao
 | [],aos,_,i,o,h=>by simp at h
 | o'::l,aos,hres,i,o,h=>by
  simp only[resOpers]at hres
  obtain⟨ao,hao,hres1⟩:=bind_some hres
  obtain⟨rest,hrest,rfl⟩:=map_some hres1
  cases i with
  | zero=>simp at h;subst h;exact⟨ao,rfl,hao⟩
  | succ i=>exact zb7 l rest hrest i o (by simpa using h)
theorem zb8{nt:Nat}{ops:Array Oper}:∀(l:List Oper) (m:List AO),resOpers P nt ops l=some m→l.length=m.length
 | [],m,h=>by simp only[resOpers,Option.some.injEq]at h;subst h;rfl
 | o::l,m,h=>by
  simp only[resOpers]at h
  obtain⟨ao,_,h1⟩:=bind_some h
  obtain⟨rest,hr,rfl⟩:=map_some h1
  simp[zb8 l rest hr]
theorem zet{o:Oper}{op:AOp}{ρ ρ':Nat→AV}{d:Option Nat}{h:Heap}{clk:Nat}(hop:resOp P o.op=some op)(hρ:∀t,Operand.tmp t∈o.op.operands.toList→ρ t=ρ' t):stepW op d ρ h clk=stepW op d ρ' h clk:=by
 obtain⟨dst,oop,type,pos,after,guard⟩:=o
 simp only at hop hρ
 have hop':=za2 hop
 clear hop
 rcases hop' with hop | ⟨k,xs,he,hx⟩
 rotate_left
 ·subst he
  rcases hx with hx | ⟨rfl,rfl⟩
  ·have e1:xs.map (ev ρ)=xs.map (ev ρ'):=List.map_congr_left fun y hy=>by
    cases y with
    | t t=>exact hρ t (zoe hx t hy)
    | c v=>rfl
   simp only[stepW,e1]
  ·rfl
 cases oop<;>simp only[resOp0]at hop<;>try (cases hop;done)
 case alloc t=>obtain⟨zs,_,rfl⟩:=map_some hop;rfl
 case store t y v=>
  obtain⟨n,hn,hop1⟩:=bind_some hop
  obtain⟨p,hp,hop2⟩:=bind_some hop1
  obtain⟨q,hq,rfl⟩:=map_some hop2
  simp only[stepW,zah hp fun t ht=>hρ t (by simp[Op.operands,ht]),zah hq fun t ht=>hρ t (by simp[Op.operands,ht])]
 case makeSlice t l c=>
  split at hop
  ·split at hop
   ·split at hop
    ·obtain⟨zs,_,hop1⟩:=bind_some hop
     split at hop1
     ·obtain⟨p,hp,hop2⟩:=bind_some hop1
      obtain⟨q,hq,rfl⟩:=map_some hop2
      simp only[stepW,zah hp fun t ht=>hρ t (by simp[Op.operands,ht]),zah hq fun t ht=>hρ t (by simp[Op.operands,ht])]
     ·cases hop1
    ·cases hop
   ·cases hop
  ·cases hop
 case call c=>
  obtain⟨callee,cargs,ats⟩:=c
  cases callee with
  | invoke r m=>
   obtain⟨p,hp,hr1⟩:=bind_some hop
   obtain⟨l,hl,rfl⟩:=map_some hr1
   rfl
  | value fv=>
   cases fv<;>simp only at hop<;>try (cases hop;done)
   all_goals
    obtain⟨l,hl,rfl⟩:=map_some hop
    rfl
  | builtin b=>
   simp only at hop
   split at hop
   ·split at hop
    ·obtain⟨p,_,rfl⟩:=map_some hop;rfl
    ·obtain⟨p,_,rfl⟩:=map_some hop;rfl
    ·cases hop;rfl
    ·cases hop
   ·obtain⟨l,_,hop1⟩:=bind_some hop;split at hop1<;>cases hop1;rfl
   ·obtain⟨l,_,hop1⟩:=bind_some hop;split at hop1<;>cases hop1;rfl
   ·rename_i y1 y2 t u hargs hts
    split at hop
    ·split at hop
     ·split at hop
      ·split at hop
       ·obtain⟨p,hp,hop1⟩:=bind_some hop
        obtain⟨q,hq,rfl⟩:=map_some hop1
        simp only[stepW,zah hp fun t ht=>hρ t (by simp[Op.operands,Call.operands,hargs,ht]),zah hq fun t ht=>hρ t (by simp[Op.operands,Call.operands,hargs,ht])]
       ·cases hop
      ·cases hop
     ·cases hop
    ·cases hop
   ·split at hop
    ·split at hop
     ·obtain⟨z,_,hop0⟩:=bind_some hop
      split at hop0
      ·obtain⟨p,_,hop1⟩:=bind_some hop0
       obtain⟨q,_,rfl⟩:=map_some hop1
       rfl
      ·cases hop0
     ·cases hop
    ·cases hop
   ·cases hop
 all_goals
  have:stepW op d ρ h clk=none∧stepW op d ρ' h clk=none:=by
   revert hop
   repeat' split
   all_goals (intro hop;simp[Option.bind_eq_some_iff]at hop)
   all_goals first
    | (subst hop;exact⟨rfl,rfl⟩)
    | (obtain⟨_,_,rfl⟩:=hop;exact⟨rfl,rfl⟩)
    | (obtain⟨_,_,_,rfl⟩:=hop;exact⟨rfl,rfl⟩)
    | (obtain⟨_,_,_,_,rfl⟩:=hop;exact⟨rfl,rfl⟩)
    | (obtain⟨_,_,_,_,_,rfl⟩:=hop;exact⟨rfl,rfl⟩)
    | (obtain⟨_,_,_,_,_,_,rfl⟩:=hop;exact⟨rfl,rfl⟩)
    | (obtain⟨_,_,_,_,_,_,_,rfl⟩:=hop;exact⟨rfl,rfl⟩)
    | (obtain⟨_,_,_,_,_,_,_,_,rfl⟩:=hop;exact⟨rfl,rfl⟩)
    | (obtain⟨_,_,_,_,_,_,_,_,_,rfl⟩:=hop;exact⟨rfl,rfl⟩)
    | (obtain⟨_,_,_,_,_,_,_,_,_,_,_,rfl⟩:=hop;exact⟨rfl,rfl⟩)
  rw[this.1,this.2]
def cnt(ws:List Nat)(listed:Array Bool):Nat:=(ws.filter fun v=>listed.getD v false).length
theorem zgz{f g:Nat→Bool}:∀(ws:List Nat),(∀v∈ws,f v=true→g v=true)→(ws.filter f).length≤(ws.filter g).length
 | [],_=>Nat.le_refl _
 | x::ws,h=>by
  have ih:=zgz ws fun v hv=>h v (by simp[hv])
  simp only[List.filter_cons]
  by_cases hf:f x=true
  ·rw[if_pos hf,if_pos (h x (by simp) hf)]
   simp only[List.length_cons]
   omega
  ·rw[if_neg hf]
   split
   ·simp only[List.length_cons];omega
   ·exact ih
theorem zmr{nt id:Nat}{aos:List AO}{st:St}{K:St→Prop}{Q:Exit→Act→World→Prop}(hnt:nt=cx.nt)(hm:P.follows .mixedOrders=true)(hB:drawOk ops aos=true)
  (hres:resOpers P nt ops ops.toList=some aos) (hk:drawK P (drawOf ops aos) st K) (hr:Rel cx st a w) (hQ:∀st' a' w',K st'→Rel cx st' a' w'→Q .normal a' w'):(Code.region id ops true).wp P Q a w:=by
 have hget':∀i o,ops[i]? = some o→∃ao,aos[i]? = some ao∧resOper P nt ops o=some ao:=fun i o ho=>zb7 ops.toList aos hres i o (by simpa using ho)
 have hlen:=zb8 ops.toList aos hres
 obtain⟨S,M,hrf⟩:=hr
 have hok:=hB
 unfold drawOk at hB
 simp only[Bool.and_eq_true,List.all_eq_true]at hB
 obtain⟨⟨hlexB,hch⟩,hall⟩:=hB
 have hsort:=zej aos
 obtain⟨H,C,_,_,hH0,hC0,_,hlex⟩:=zmq (P:=P) (ops:=ops) (aos:=aos) (K:=K) hok (fun i o ho=>by
  obtain⟨ao,h1,h2⟩:=hget' i o ho
  obtain⟨op,g,_,_,rfl,_⟩:=zaw h2
  exact⟨_,h1,rfl⟩) ops.toList 0 aos st.env st.heap st.clk [] [] [] (fun i=>by simp) (fun i=>by simp) hlen rfl (Nat.zero_le _) (fun m v _=>by simp) hk
 simp only[List.length_nil]at hH0 hC0
 generalize hws:writersOf aos=ws at *
 -- the writers that are done are the first ones
 have prefixOf:∀(listed:Array Bool),Clo .any ops listed→∀(p i:Nat),ws[p]? = some i→(i∈Region.ready .any ops listed)→∀m v,ws[m]? = some v→(listed.getD v false=true↔m<p):=by
  intro listed hc p i hp hi m v hv
  have hun:=(mem_ready.1 hi).1
  constructor
  ·intro hl
   rcases Nat.lt_or_ge m p with h | h
   ·exact h
   ·exfalso
    have hp':ws[p+(m-p)]? = some v:=by rw[show p+(m-p)=m by omega];exact hv
    have:=zdy hch hc (m-p) p i v hp hp' hl
    rw[getD_both hun]at this
    cases this
  ·intro hmp
   have hp1:ws[(p-1)+1]? = some i:=by rw[show p-1+1=p by omega];exact hp
   have hx:ws[p-1]? = some (ws[p-1]'(by have:=zat hp;omega)):=List.getElem?_eq_getElem _
   obtain⟨o,ho,e,he,hb,hon⟩:=zdx ws (p-1) _ i hch hx hp1
   obtain⟨_,o',ho',hall'⟩:=mem_ready.1 hi
   rw[ho]at ho'
   cases ho'
   have hl:=hall' e he hb
   rw[hon]at hl
   have hx':ws[m+(p-1-m)]? = some (ws[p-1]'(by have:=zat hp;omega)):=by rw[show m+(p-1-m)=p-1 by omega];exact hx
   exact zdy hch hc (p-1-m) m v _ hv hx' hl
 refine zgu (F:=FD P ops aos H C) (R:=fun listed ρ a w=>RelR cx (C (cnt ws listed)) (H (cnt ws listed)) ρ a w) (Q:=fun ρ=>∃e,ρ=Env.get e∧K ⟨e,H ws.length,C ws.length⟩) (ρ:=st.env.get) hm hlexB ?_ ?_ ?_ ?_ hlex
 ·-- each value hangs on what the operation looks at
  intro i o ho ρ ρ' hρ x ⟨ao,hao,hq⟩
  obtain⟨ao',h1,h2⟩:=hget' i o ho
  rw[hao]at h1
  cases h1
  refine⟨ao,hao,?_⟩
  obtain⟨op,g,hop,hg,rfl,_⟩:=zaw h2
  have hops:∀t,Operand.tmp t∈o.op.operands.toList→ρ t=ρ' t:=fun t ht=>hρ t (by
   unfold Oper.looksAt
   exact List.mem_append_left _ (List.mem_filterMap.2 ⟨.tmp t,ht,rfl⟩))
  have quiet:∀h,QF P h ⟨o.dst,g,op⟩ ρ x→QF P h ⟨o.dst,g,op⟩ ρ' x:=by
   intro h hq
   unfold QF at hq ⊢
   cases g with
   | none=>exact(zc5 hop hops).1 hq
   | some tw=>
    obtain⟨t,want⟩:=tw
    have ht:ρ t=ρ' t:=hρ t (by
     unfold resGuard at hg
     split at hg
     ·cases hg
     ·rename_i j w0 hgo
      obtain⟨d,hd,he⟩:=map_some hg
      cases he
      unfold Oper.looksAt
      rw[hgo]
      exact List.mem_append_right _ (by simp[hd]))
    simp only at hq ⊢
    rw[ht,zc5 hop hops]at hq
    exact hq
  cases hwr:op.writes with
  | true=>
   simp only[hwr]at hq ⊢
   obtain⟨h3,p,h4,h5⟩:=hq
   exact⟨h3,p,h4,by rw[←zet hop hops];exact h5⟩
  | false=>
   simp only[hwr]at hq ⊢
   exact fun j h3 h4=>quiet _ (hq j h3 h4)
 ·intro i o ho listed ρ x a w K' hc hi ⟨ao,hao,hq⟩ hr hK'
  obtain⟨ao',h1,h2⟩:=hget' i o ho
  rw[hao]at h1
  cases h1
  have hun:=(mem_ready.1 hi).1
  have hisz:i<listed.size:=by rw[hc.size];exact(Array.getElem?_eq_some_iff.1 ho).1
  cases hwr:ao.op.writes with
  | true=>
   simp only[hwr]at hq
   obtain⟨hgn,p,hp,hst⟩:=hq
   rw[hws]at hp
   have hpre:=prefixOf listed hc p i hp hi
   have hple:=zat hp
   have hcnt:cnt ws listed=p:=zct p (by omega) fun m v hv=>hpre m v hv
   have hcnt':cnt ws (listed.setIfInBounds i true)=p+1:=zct (p+1) (by omega) fun m v hv=>by
    by_cases hvi:i=v
    ·subst hvi
     have hmp:m=p:=by
      rcases Nat.lt_trichotomy m p with h | h | h
      ·have:=zd8 hsort hv hp h;omega
      ·exact h
      ·have:=zd8 hsort hp hv h;omega
     subst hmp
     simp[hisz]
    ·rw[getD_set_ne false hvi,hpre m v hv]
     constructor
     ·intro h;omega
     ·intro h
      have:m≠p:=by intro h';subst h';rw[hp]at hv;cases hv;exact hvi rfl
      omega
   rw[hcnt]at hr
   obtain⟨S,M,hr⟩:=hr
   subst hnt
   obtain⟨op,g,hop,hg,rfl,hd⟩:=zaw h2
   simp only at hgn hst
   subst hgn
   obtain⟨v,w',S',M',h3,h4,h5⟩:=zdh hop hr hst
   have hfin:K' (a.put o.dst v) w':=hK' _ _ (by
    rw[hcnt']
    exact⟨S',M',h4.put hd h5⟩)
   unfold wpOp
   simp only[ho,zci hg a,if_true]
   refine .inl ?_
   rcases h3 with h3 | ⟨h3,rfl⟩
   ·exact zdg h3 hfin
   ·unfold Oper.wp
    rw[h3,Oper.upon_skip]
    exact hfin
  | false=>
   simp only[hwr]at hq
   rw[hws]at hq
   have hnm:i∉ws:=fun hmem=>by
    rw[←hws]at hmem
    obtain⟨ao2,h3,h4⟩:=(zcl aos i).1 hmem
    rw[hao]at h3
    cases h3
    rw[hwr]at h4
    cases h4
   have hlo:lowOf ops ws i≤cnt ws listed:=zgz ws fun v _ hv=>zes hc _ v i (.inr hi) hv
   have hhi:cnt ws listed≤highOf ops ws i:=zgz ws fun v _ hv=>by
    cases hpr:precedes ops ops.size i v with
    | false=>rfl
    | true=>
     have:=zes hc _ i v (.inl hv) hpr
     rw[getD_both hun]at this
     cases this
   have hcnt':cnt ws (listed.setIfInBounds i true)=cnt ws listed:=by
    unfold cnt
    congr 1
    refine List.filter_congr fun v hv=>?_
    have:i≠v:=fun he=>hnm (by rw[he];exact hv)
    rw[getD_set_ne false this]
   refine zd7 ho hnt h2 (hq _ hlo hhi) hr fun a' w' hr'=>hK' a' w' ?_
   rw[hcnt']
   exact hr'
 ·intro listed ρ a w hc hready hr ⟨e,he,hK⟩
  subst he
  have hfull:cnt ws listed=ws.length:=zct ws.length (Nat.le_refl _) fun m v hv=>by
   have hvm:v∈writersOf aos:=by rw[hws];exact List.mem_of_getElem? hv
   obtain⟨ao,h1,_⟩:=(zcl aos v).1 hvm
   have hvl:v<ops.size:=by have:=zat h1;rw[←hlen]at this;simpa using this
   have:=zpc hlexB hready hc.size v hvl
   simp[this,zat hv]
  rw[hfull]at hr
  obtain⟨S,M,hr⟩:=hr
  exact hQ _ a w hK ⟨S,M,hr⟩
 ·have h0:cnt ws (Array.replicate ops.size false)=0:=zct 0 (Nat.zero_le _) fun m v hv=>by
   rw[getD_replicate_false];simp
  rw[h0,hH0,hC0]
  exact RelR.drawn ⟨S,M,hrf⟩
end
end
section
open Go.RowKit
def drawTL(P:Program)(tl:List AO):List AO→Env→Heap→Nat→(St→Prop)→Prop
 | [],e,h,clk,K=>runK P tl ⟨e,h,clk⟩ K
 | o::r,e,h,clk,K=>qK P o e h [] fun x=>drawTL P tl r (putE e o.dst x) h clk K
section
variable{P:Program}{ops:Array Oper}{md:Region.Mode}{F:Nat→(Nat→AV)→AV→Prop}
def anyEL(md:Region.Mode)(ops:Array Oper)(F:Nat→(Nat→AV)→AV→Prop)(n:Nat)(L:Array Bool→(Nat→AV)→Prop):Nat→Array Bool→(Nat→AV)→Prop
 | 0,listed,ρ=>L listed ρ
 | f+1,listed,ρ=>
  Region.ready md ops listed≠[]∧∀i∈Region.ready md ops listed,i<n∧fOp ops F i (anyEL md ops F n L f (listed.setIfInBounds i true)) ρ
theorem zg0(hL:Local ops F){n i:Nat}{oi:Oper}{v:AV}{L:Array Bool→(Nat→AV)→Prop}(hi:ops[i]? = some oi)
  (hs:Region.sinkB md ops n=true) (hc:Region.chainB md ops n=true) (hn:n<ops.size) (hin:i<n)
  (hdone:∀listed ρ,L listed ρ→∀j∈Region.ready md ops listed,n≤j) :
  ∀(f:Nat) (listed:Array Bool) (ρ:Nat→AV),HeadInv md ops n listed →
   (∀j oj,ops[j]? = some oj→j≠i→listed.getD j true=false→(∀e∈oj.after,Region.binds md e=true→e.on≠i)→oi.apart ops oj=true) →
   i∈Region.ready md ops listed→F i ρ v →
   anyEL md ops F n L f (listed.setIfInBounds i true) (upd ρ oi.dst v)→anyEL md ops F n L (f+1) listed ρ:=by
 have take:∀{ρ:Nat→AV} {K:(Nat→AV)→Prop},F i ρ v→K (upd ρ oi.dst v)→fOp ops F i K ρ:=by
  intro ρ K h1 h2
  unfold fOp
  simp only[hi]
  exact⟨v,h1,h2⟩
 intro f
 induction f with
 | zero=>
  intro listed ρ inv _ hr hy H
  have hun:=(mem_ready.1 hr).1
  refine⟨fun h=>(by rw[h]at hr;cases hr),fun j hj=>?_⟩
  have hjn:j<n:=by
   rcases Nat.lt_or_ge j n with h | h
   ·exact h
   ·exact absurd hj (tail_waits hs hc hn inv _ i rfl hin hun j h)
  refine⟨hjn,?_⟩
  by_cases hji:j=i
  ·subst hji;exact take hy H
  ·have:=hdone _ _ H j (ready_mono hj hji)
   omega
 | succ f ih=>
  intro listed ρ inv hfree hr hy H
  have hun:=(mem_ready.1 hr).1
  refine⟨fun h=>(by rw[h]at hr;cases hr),fun j hj=>?_⟩
  have hjn:j<n:=by
   rcases Nat.lt_or_ge j n with h | h
   ·exact h
   ·exact absurd hj (tail_waits hs hc hn inv _ i rfl hin hun j h)
  refine⟨hjn,?_⟩
  by_cases hji:j=i
  ·subst hji;exact take hy H
  ·have h1:=(H.2 j (ready_mono hj hji)).2
   obtain⟨hjun,oj,hoj,hall⟩:=mem_ready.1 hj
   have hnot:∀e∈oj.after,Region.binds md e=true→e.on≠i:=fun e he hb heq=>by
    have h1:=hall e he hb
    rw[heq,getD_both hun]at h1
    cases h1
   have h2:=zrf hL hi hoj (hfree j oj hoj hji hjun hnot) hy h1
   have hfree':∀k ok,ops[k]? = some ok→k≠i→(listed.setIfInBounds j true).getD k true=false →
     (∀e∈ok.after,Region.binds md e=true→e.on≠i)→oi.apart ops ok=true:=fun k ok hk hki hun hno=>by
    refine hfree k ok hk hki ?_ hno
    by_cases hjk:j=k
    ·subst hjk;exact hjun
    ·rw[getD_set_ne true hjk]at hun;exact hun
   refine znt (fun ρ' h3=>ih (listed.setIfInBounds j true) ρ' (inv.set hj hjn) hfree' (ready_mono hr (Ne.symm hji)) h3.1 ?_) h2
   rw[Array.setIfInBounds_comm _ _ hji]
   exact h3.2
theorem zkk(hL:Local ops F){n g:Nat}{Lq:(Nat→AV)→Prop}(hs:Region.sinkB md ops n=true)(hc:Region.chainB md ops n=true)(hn:n<ops.size) :
  ∀(l:List Oper) (k:Nat) (listed:Array Bool) (ρ:Nat→AV),(∀j,j<l.length→l[j]? = ops[k+j]?)→k+l.length=n→HeadInv md ops n listed →
  Region.lexHead md ops g l.length k listed=true→lexE ops F Lq l k ρ →
  anyEL md ops F n (fun listed' ρ'=>Region.seqB md ops g n listed'=true∧Lq ρ') l.length listed ρ
 | [],k,listed,ρ,_,hk,_,hB,h=>by
  have:k=n:=by simpa using hk
  subst this
  exact⟨by simpa[Region.lexHead]using hB,h⟩
 | o::l,k,listed,ρ,hl,hk,inv,hB,h=>by
  have h0:ops[k]? = some o:=by simpa using (hl 0 (by simp)).symm
  simp only[List.length_cons,Region.lexHead,Bool.and_eq_true]at hB
  obtain⟨⟨hr,hf⟩,hB'⟩:=hB
  have hkn:k<n:=by simp only[List.length_cons]at hk;omega
  have hr':k∈Region.ready md ops listed:=by simpa using hr
  obtain⟨v,hy,hK⟩:=h
  exact zg0 hL h0 hs hc hn hkn (fun listed' a' hL=>seqB_ready hL.1) l.length listed ρ inv (Region.free_spec h0 hf) hr' hy
   (zkk hL hs hc hn l (k+1) _ _ (fun j hj=>by have:=hl (j+1) (by simp;omega);simpa[Nat.add_assoc,Nat.add_comm 1 j]using this) (by simp only[List.length_cons]at hk;omega) (inv.set hr' hkn) hB' hK)
theorem zek{n g:Nat}{L:Array Bool→(Nat→AV)→Prop}{R:(Nat→AV)→Act→World→Prop}{Q':Exit→Act→World→Prop}
  (hs:∀i o,i<n→ops[i]? = some o→∀ρ x a w (K:Act→World→Prop),F i ρ x→R ρ a w→(∀a' w',R (upd ρ o.dst x) a' w'→K a' w')→wpOp P ops Q' i K a w)
  (hQ:∀listed ρ a w,L listed ρ→R ρ a w→wpAny P md ops Q' g listed a w):∀(f:Nat) (listed:Array Bool) (ρ:Nat→AV) (a:Act) (w:World),R ρ a w →
  anyEL md ops F n L f listed ρ→wpAny P md ops Q' (f+g) listed a w
 | 0,_,_,_,_,hr,h=>by rw[Nat.zero_add];exact hQ _ _ _ _ h hr
 | f+1,listed,ρ,a,w,hr,h=>by
  rw[show f+1+g=(f+g)+1 by omega]
  refine⟨fun h0=>absurd h0 h.1,fun i hi=>?_⟩
  obtain⟨hin,h2⟩:=h.2 i hi
  obtain⟨_,o,ho,_⟩:=mem_ready.1 hi
  unfold fOp at h2
  simp only[ho]at h2
  obtain⟨x,hx,hK⟩:=h2
  exact hs i o hin ho ρ x a w _ hx hr fun a' w' hr'=>zek hs hQ f _ _ a' w' hr' hK
end
section
variable{P:Program}{ops:Array Oper}{cx:Cx}{w:World}{a:Act}
theorem zms{l:List AO}{n:Nat}(h:tailOf ops l=some n):(∀ao∈l.take n,ao.op.writes=false)∧Region.lexTailB .any ops n=true:=by
 have:=List.find?_some h
 simp only[Bool.and_eq_true,List.all_eq_true,Bool.not_eq_true']at this
 exact this
def FT(P:Program)(aos:List AO)(n:Nat)(h:Heap)(i:Nat)(ρ:Nat→AV)(x:AV):Prop:=
 i<n∧∃ao,aos[i]? = some ao∧QF P h ao ρ x
theorem zkl{aos tl:List AO}{n:Nat}{h:Heap}{clk:Nat}{K:St→Prop}(hw:∀ao∈aos.take n,ao.op.writes=false)(hdst:∀(i:Nat) (o:Oper),ops[i]? = some o→∃ao:AO,aos[i]? = some ao∧ao.dst=o.dst) :
  ∀(l:List Oper) (k:Nat) (rest:List AO) (e:Env),(∀j,j<l.length→l[j]? = ops[k+j]?)→(∀j,j<rest.length→rest[j]? = aos[k+j]?)→l.length=rest.length→k+l.length=n →
   drawTL P tl rest e h clk K→lexE ops (FT P aos n h) (fun ρ=>∃e,ρ=Env.get e∧runK P tl ⟨e,h,clk⟩ K) l k e.get
 | [],k,rest,e,_,_,hlen,_,hk=>by
  have:rest=[]:=List.eq_nil_of_length_eq_zero (by simpa using hlen.symm)
  subst this
  exact⟨e,rfl,hk⟩
 | o::l,k,rest,e,hl,hr,hlen,hkn,hk=>by
  cases rest with
  | nil=>simp at hlen
  | cons ao rest=>
   have h0:ops[k]? = some o:=by simpa using (hl 0 (by simp)).symm
   have h1:aos[k]? = some ao:=by simpa using (hr 0 (by simp)).symm
   obtain⟨ao',h2,hd⟩:=hdst k o h0
   rw[h1]at h2
   cases h2
   simp only[List.length_cons]at hkn
   have hwr:ao.op.writes=false:=hw ao (List.mem_of_getElem? (i:=k) (by rw[List.getElem?_take,if_pos (by omega)];exact h1))
   simp only[drawTL]at hk
   obtain⟨x,hq1,_,hk2⟩:=zvg hwr hk
   refine⟨x,⟨by omega,ao,h1,hq1⟩,?_⟩
   rw[←hd,←zdd]
   exact zkl hw hdst l (k+1) rest _ (fun j hj=>by have:=hl (j+1) (by simp;omega);simpa[Nat.add_assoc,Nat.add_comm 1 j]using this) (fun j hj=>by have:=hr (j+1) (by simp;omega);simpa[Nat.add_assoc,Nat.add_comm 1 j]using this) (by simpa using hlen) (by omega) hk2
theorem zcf{nt:Nat}{ops:Array Oper}:∀(n:Nat) (l:List Oper) (aos:List AO),resOpers P nt ops l=some aos→resOpers P nt ops (l.drop n)=some (aos.drop n)
 | 0,l,aos,h=>h
 | n+1,[],aos,h=>by
  simp only[resOpers,Option.some.injEq]at h
  subst h
  rfl
 | n+1,o::l,aos,h=>by
  simp only[resOpers]at h
  obtain⟨ao,_,h1⟩:=bind_some h
  obtain⟨rest,hr,rfl⟩:=map_some h1
  exact zcf n l rest hr
theorem zmt{nt id n:Nat}{aos:List AO}{st:St}{K:St→Prop}{Q:Exit→Act→World→Prop}(hnt:nt=cx.nt)(hm:P.follows .mixedOrders=true)(hB:tailOf ops aos=some n)
  (hres:resOpers P nt ops ops.toList=some aos) (hk:drawTL P (aos.drop n) (aos.take n) st.env st.heap st.clk K) (hr:Rel cx st a w) (hQ:∀st' a' w',K st'→Rel cx st' a' w'→Q .normal a' w'):(Code.region id ops true).wp P Q a w:=by
 obtain⟨hw,hT⟩:=zms hB
 simp only[Region.lexTailB,Bool.and_eq_true,decide_eq_true_eq]at hT
 obtain⟨⟨⟨⟨_,hn⟩,hs⟩,hc⟩,hlex⟩:=hT
 have hget':∀i o,ops[i]? = some o→∃ao,aos[i]? = some ao∧resOper P nt ops o=some ao:=fun i o ho=>zb7 ops.toList aos hres i o (by simpa using ho)
 have hlen:=zb8 ops.toList aos hres
 have hlen':aos.length=ops.size:=by rw[←hlen];simp
 have htl:(ops.toList.take n).length=n:=by simp;omega
 have hdl:(ops.toList.drop n).length=ops.size-n:=by simp
 have inv0:HeadInv .any ops n (Array.replicate ops.size false):=
  ⟨by simp,fun j oj _ hl=>(by rw[getD_replicate_false]at hl;cases hl),fun t _ ht=>getD_in (by simpa using ht) (getD_replicate_false _ _)⟩
 have hloc:Local ops (FT P aos n st.heap):=by
  intro i o ho ρ ρ' hρ x ⟨hin,ao,hao,hq⟩
  obtain⟨ao',h1,h2⟩:=hget' i o ho
  rw[hao]at h1
  cases h1
  refine⟨hin,ao,hao,?_⟩
  obtain⟨op,g,hop,hg,rfl,_⟩:=zaw h2
  have hops:∀t,Operand.tmp t∈o.op.operands.toList→ρ t=ρ' t:=fun t ht=>hρ t (by
   unfold Oper.looksAt
   exact List.mem_append_left _ (List.mem_filterMap.2 ⟨.tmp t,ht,rfl⟩))
  unfold QF at hq ⊢
  cases g with
  | none=>exact(zc5 hop hops).1 hq
  | some tw=>
   obtain⟨t,want⟩:=tw
   have ht:ρ t=ρ' t:=hρ t (by
    unfold resGuard at hg
    split at hg
    ·cases hg
    ·rename_i j w0 hgo
     obtain⟨d,hd,he⟩:=map_some hg
     cases he
     unfold Oper.looksAt
     rw[hgo]
     exact List.mem_append_right _ (by simp[hd]))
   simp only at hq ⊢
   rw[ht,zc5 hop hops]at hq
   exact hq
 obtain⟨S,M,hrf⟩:=hr
 have hlx:=zkl (P:=P) (ops:=ops) (aos:=aos) (tl:=aos.drop n) (n:=n) (h:=st.heap) (clk:=st.clk) (K:=K) hw (fun i o ho=>by
  obtain⟨ao,h1,h2⟩:=hget' i o ho
  obtain⟨op,g,_,_,rfl,_⟩:=zaw h2
  exact⟨_,h1,rfl⟩) (ops.toList.take n) 0 (aos.take n) st.env (fun j hj=>by
   rw[htl]at hj
   rw[List.getElem?_take,if_pos hj]
   simp) (fun j hj=>by
   have hj':j<n:=by simp at hj;omega
   rw[List.getElem?_take,if_pos hj',Nat.zero_add]) (by rw[htl];simp;omega) (by rw[htl];omega) hk
 have H:=zkk (md:=.any) (g:=ops.size-n) hloc hs hc hn (ops.toList.take n) 0 _ st.env.get (fun j hj=>by
  rw[htl]at hj
  rw[List.getElem?_take,if_pos hj]
  simp) (by rw[htl];omega) inv0 (by rw[htl];exact hlex) hlx
 refine wp_region_any hm ?_
 have:=zek (P:=P) (md:=.any) (Q':=Q) (g:=ops.size-n) (F:=FT P aos n st.heap) (R:=fun ρ a w=>RelR cx st.clk st.heap ρ a w) (fun i o hin ho ρ x a w K' ⟨_,ao,hao,hq⟩ hr hK'=>by
  obtain⟨ao',h1,h2⟩:=hget' i o ho
  rw[hao]at h1
  cases h1
  exact zd7 ho hnt h2 hq hr hK') (fun listed ρ a' w' hL hr'=>by
  obtain⟨hseq,e,rfl,hrun⟩:=hL
  have hwl:wpList P ops Q (ops.toList.drop n) a' w':=zc1 hnt _ _ ⟨e,st.heap,st.clk⟩ K a' w' (zcf n _ _ hres) hrun hr' hQ
  have:=wpAny_of_seq (md:=.any) (Q':=Q) (ops.toList.drop n) n listed a' w' (fun j=>by simp[List.getElem?_drop]) (by rw[hdl];exact hseq) hwl
  rwa [hdl]at this) _ _ _ a { w with drawn:=w.drawn+1 } (RelR.drawn ⟨S,M,hrf⟩) H
 rw[htl,show n+(ops.size-n)=ops.size by omega]at this
 exact this
end
end
section
open Go.RowKit
mutual
def gnA:AV→List Nat
 | .sl _ _=>[]
 | .agg cs=>gnR cs
 | .tup cs=>gnR cs
 | .i _ _=>[]
 | .b _=>[]
 | .s _=>[]
 | .raw _=>[]
 | .ep _ _=>[]
 | .bs _ g _ _ _=>[g]
 | .ptr _ g _ _ _=>[g]
 | .fnp _ _ g _ _ _=>[g]
 | .fnv .. => []
 | .ifc _ x=>gnA x
 | .dead=>[]
def gnR:List AV→List Nat
 | []=>[]
 | c::r=>gnA c++gnR r
end
theorem zg1{g:Nat}:∀(cs:List AV),g∈gnR cs↔∃c∈cs,g∈gnA c
 | []=>by simp[gnR]
 | c::r=>by simp[gnR,zg1 r]
section
variable{w w':World}{S S':Nat→Nat→Prop}{M M':Map}{clk clk':Nat}
theorem zrx{vs:Array Value}{cs:List AV}(hl:vs.size=cs.length){c:AV}(hc:c∈cs):∃(j:Nat) (v:Value),vs[j]? = some v∧cs[j]? = some c:=by
 obtain⟨j,hj⟩:=List.getElem?_of_mem hc
 have hlt:j<vs.size:=by have:=zat hj;omega
 exact⟨j,vs[j],Array.getElem?_eq_getElem hlt,hj⟩
theorem CP.gn{v:Value}{x:AV}(h:CP w S v x):gnA x=[]:=by
 have key:∀(vs:Array Value) (cs:List AV),vs.size=cs.length→(∀(j:Nat) (v:Value) (c:AV),vs[j]? = some v→cs[j]? = some c→gnA c=[])→gnR cs=[]:=by
  intro vs cs hl ih
  rw[List.eq_nil_iff_forall_not_mem]
  intro g hg
  obtain⟨c,hc,hgc⟩:=(zg1 cs).1 hg
  obtain⟨j,v,hv,hj⟩:=zrx hl hc
  rw[ih j v c hv hj]at hgc
  cases hgc
 induction h with
 | agg vs cs hl h1 _ ih=>simp only[gnA];exact key vs cs hl ih
 | tup vs cs hl _ ih=>simp only[gnA];exact key vs cs hl ih
 | _=>simp only[gnA]
theorem C.gn{v:Value}{x:AV}(h:C w S M clk v x):∀g∈gnA x,g<clk:=by
 have key:∀(vs:Array Value) (cs:List AV),vs.size=cs.length→(∀(j:Nat) (v:Value) (c:AV),vs[j]? = some v→cs[j]? = some c→∀g∈gnA c,g<clk)→∀g∈gnR cs,g<clk:=by
  intro vs cs hl ih g hg
  obtain⟨c,hc,hgc⟩:=(zg1 cs).1 hg
  obtain⟨j,v,hv,hj⟩:=zrx hl hc
  exact ih j v c hv hj g hgc
 induction h with
 | p h=>rw[h.gn];intro g hg;cases hg
 | bs id g z off n v hg _ _=>intro g' h';simp only[gnA,List.mem_singleton]at h';omega
 | ptr id g z i o v hg _ _=>intro g' h';simp only[gnA,List.mem_singleton]at h';omega
 | fnp f id g z i o v hg _ _=>intro g' h';simp only[gnA,List.mem_singleton]at h';omega
 | agg vs cs hl h1 _ ih=>simp only[gnA];exact key vs cs hl ih
 | tup vs cs hl _ ih=>simp only[gnA];exact key vs cs hl ih
 | ifc t v x _ ih=>simp only[gnA];exact ih
theorem C.remap{v:Value}{x:AV}(h:C w S M clk v x)(hg:∀g∈gnA x,M' g=M g∧g<clk'):C w S M' clk' v x:=by
 induction h with
 | p h=>exact .p h
 | bs id g z off n v hg' h h1=>
  obtain⟨h2,h3⟩:=hg g (by simp[gnA])
  exact .bs id g z off n v h3 (by rw[h2];exact h) h1
 | ptr id g z i o v hg' h h1=>
  obtain⟨h2,h3⟩:=hg g (by simp[gnA])
  exact .ptr id g z i o v h3 (by rw[h2];exact h) h1
 | fnp f id g z i o v hg' h h1=>
  obtain⟨h2,h3⟩:=hg g (by simp[gnA])
  exact .fnp f id g z i o v h3 (by rw[h2];exact h) h1
 | agg vs cs hl h1 _ ih=>
  refine .agg vs cs hl h1 fun j v c hv hc=>ih j v c hv hc fun g hgc=>hg g ?_
  simp only[gnA]
  exact(zg1 cs).2 ⟨c,List.mem_of_getElem? hc,hgc⟩
 | tup vs cs hl _ ih=>
  refine .tup vs cs hl fun j v c hv hc=>ih j v c hv hc fun g hgc=>hg g ?_
  simp only[gnA]
  exact(zg1 cs).2 ⟨c,List.mem_of_getElem? hc,hgc⟩
 | ifc t v x _ ih=>exact .ifc t v x (ih fun g hgx=>hg g (by simp only[gnA];exact hgx))
inductive MkF (i:BId):(Nat→AV)→Nat→Prop
 | ptr (z:Nat):MkF i (fun g=>.ptr i g z 0 0) z
 | bs (z n:Nat):MkF i (fun g=>.bs i g z 0 n) z
def boxGn(bx:Box)(g:Nat):Prop:=bx.kind=.str∧∃r∈bx.els,∃x∈r,g∈gnA x
theorem BoxOk.remap{bx:Box}(hb:BoxOk w S M clk bx)(h1:M' bx.gen=M bx.gen)(h2:bx.gen<clk')(h3:∀g,boxGn bx g→M' g=M g∧g<clk'):BoxOk w S M' clk' bx:=by
 obtain⟨_,b2,m,hm,b3⟩:=hb
 refine⟨h2,b2,m,by rw[h1];exact hm,?_⟩
 cases m with
 | none=>exact b3
 | some k=>
  obtain⟨arr,e,hh,hsz,hc,ho,hl⟩:=b3
  refine⟨arr,e,hh,hsz,fun i r j c hi hj=>?_,ho,hl⟩
  obtain⟨u,hu,hone,hC,hP⟩:=hc i r j c hi hj
  refine⟨u,hu,hone,?_,hP⟩
  by_cases hk:bx.kind=.str
  ·exact hC.remap fun g hg=>h3 g ⟨hk,r,List.mem_of_getElem? hi,c,List.mem_of_getElem? hj,hg⟩
  ·exact .p (hP hk)
theorem BoxOk.gn{bx:Box}(hb:BoxOk w S M clk bx):bx.gen<clk∧∀g,boxGn bx g→g<clk:=by
 obtain⟨b1,_,m,hm,b3⟩:=hb
 refine⟨b1,fun g ⟨hk,r,hr,x,hx,hg⟩=>?_⟩
 obtain⟨i,hi⟩:=List.getElem?_of_mem hr
 obtain⟨j,hj⟩:=List.getElem?_of_mem hx
 cases m with
 | none=>exact absurd hk b3.2
 | some k=>
  obtain⟨arr,e,hh,hsz,hc,ho,hl⟩:=b3
  obtain⟨u,hu,hone,hC,hP⟩:=hc i r j x hi hj
  exact hC.gn g hg
theorem RelF.regen{cx:Cx}{h:Heap}{ρ:Nat→AV}{a:Act}{w:World}{S:Nat→Nat→Prop}{M:Map}{d c g z:Nat}{k:Kind}{els:List (List AV)}{f:Nat→AV}{i0:BId}(hf:MkF i0 f z)
  (hr:RelF cx S M (c+1) ((i0,⟨c,k,z,els⟩)::h) (upd ρ (some d) (f c)) a w) (hgc:g<c) (hcx:cx.clk0≤g) (hnew:h.lookup i0=none)
  (henv:∀t,∀q∈gnA (ρ t),q≠g∧q<c) (hbox:∀id bx,h.lookup id=some bx→bx.gen≠g∧bx.gen<c∧∀q,boxGn bx q→q≠g∧q<c)
  (hels:∀q,boxGn ⟨c,k,z,els⟩ q→q≠g∧q<c) :
  RelF cx S (fun q=>if q=g then M c else if q=c then none else M q) c ((i0,⟨g,k,z,els⟩)::h) (upd ρ (some d) (f g)) a w:=by
 generalize hM2:(fun q=>if q=g then M c else if q=c then none else M q:Map)=M2
 have m1:M2 g=M c:=by rw[←hM2];simp
 have m2:∀q,q≠g→q<c→M2 q=M q:=by intro q h1 h2;rw[←hM2];simp only[if_neg h1];rw[if_neg (by omega)]
 have m3:∀q m,M2 q=some m→(q=g∧M c=some m)∨(q≠g∧q≠c∧M q=some m):=by
  intro q m hq
  rw[←hM2]at hq
  simp only at hq
  split at hq
  ·exact .inl ⟨‹_›,hq⟩
  ·split at hq
   ·cases hq
   ·exact .inr ⟨‹_›,‹_›,hq⟩
 have look:∀(b:BId) (bx:Box) (x:Box),((i0,x)::h).lookup b=some bx→(b=i0∧bx=x)∨(b≠i0∧h.lookup b=some bx):=by
  intro b bx x hb
  simp only[List.lookup_cons]at hb
  split at hb
  ·rename_i he
   cases hb
   exact .inl ⟨eq_of_beq he,rfl⟩
  ·rename_i he
   exact .inr ⟨fun e=>by subst e;simp at he,hb⟩
 have lookN:∀(b:BId) (x:Box),b≠i0→((i0,x)::h).lookup b=h.lookup b:=by
  intro b x hb
  simp only[List.lookup_cons]
  have:(b == i0)=false:=by simpa using hb
  rw[this]
 have lookS:∀(x:Box),((i0,x)::h).lookup i0=some x:=by intro x;simp[List.lookup_cons]
 have hw:=hr.wr
 refine⟨hr.size,hr.defers,fun t=>?_,⟨⟨fun b bx hb=>?_,fun q m hq=>?_,fun b bx b' bx' hb hb' he=>?_,fun q q' k' h1 h2=>?_⟩,⟨hw.ext.hS,hw.ext.hcell,by omega,fun q m hq hm=>?_,fun q k' arr e hq hm hb=>?_⟩,hw.fr,hw.Snew,hw.Slt,fun q k' hm=>?_⟩⟩
 ·have hC:=hr.env t
  simp only[upd]at hC ⊢
  by_cases ht:t=d
  ·rw[if_pos ht]at hC ⊢
   cases hf with
   | ptr z=>
    obtain⟨_,h2,h3⟩:=hC.inv_ptr
    exact .ptr _ _ _ _ _ _ hgc (by rw[m1];exact h2) h3
   | bs z n=>
    obtain⟨_,h2,h3⟩:=hC.inv_bs
    exact .bs _ _ _ _ _ _ hgc (by rw[m1];exact h2) h3
  ·rw[if_neg ht]at hC ⊢
   exact hC.remap fun q hq=>⟨m2 q (henv t q hq).1 (henv t q hq).2,(henv t q hq).2⟩
 ·rcases look b bx _ hb with ⟨rfl,rfl⟩ | ⟨hne,hl⟩
  ·have h0:=hw.heap.box _ _ (lookS ⟨c,k,z,els⟩)
   obtain⟨_,b2,m,hm,b3⟩:=h0
   refine⟨hgc,b2,m,by rw[m1];exact hm,?_⟩
   cases m with
   | none=>exact b3
   | some kk=>
    obtain⟨arr,e,hh,hsz,hc,ho,hl⟩:=b3
    refine⟨arr,e,hh,hsz,fun i r j x hi hj=>?_,ho,hl⟩
    obtain⟨u,hu,hone,hC,hP⟩:=hc i r j x hi hj
    refine⟨u,hu,hone,?_,hP⟩
    by_cases hk:k=.str
    ·refine hC.remap fun q hq=>?_
     have:=hels q ⟨hk,r,List.mem_of_getElem? hi,x,List.mem_of_getElem? hj,hq⟩
     exact⟨m2 q this.1 this.2,this.2⟩
    ·exact .p (hP hk)
  ·have h0:=hw.heap.box b bx (by rw[lookN b _ hne];exact hl)
   obtain⟨h1,h2,h3⟩:=hbox b bx hl
   exact h0.remap (m2 _ h1 h2) h2 fun q hq=>⟨m2 q (h3 q hq).1 (h3 q hq).2,(h3 q hq).2⟩
 ·rcases m3 q m hq with ⟨rfl,_⟩ | ⟨_,hne,hm⟩
  ·exact⟨i0,_,lookS _,rfl⟩
  ·obtain⟨b,bx,hb,he⟩:=hw.heap.live q m hm
   rcases look b bx _ hb with ⟨rfl,rfl⟩ | ⟨hnd,hl⟩
   ·exact absurd he.symm hne
   ·exact⟨b,bx,by rw[lookN b _ hnd];exact hl,he⟩
 ·rcases look b bx _ hb with ⟨rfl,rfl⟩ | ⟨hne,hl⟩<;>rcases look b' bx' _ hb' with ⟨rfl,rfl⟩ | ⟨hne',hl'⟩
  ·rfl
  ·exact absurd he.symm (hbox _ _ hl').1
  ·exact absurd he (hbox _ _ hl).1
  ·exact hw.heap.gens b bx b' bx' (by rw[lookN b _ hne];exact hl) (by rw[lookN b' _ hne'];exact hl') he
 ·rcases m3 q _ h1 with ⟨rfl,e1⟩ | ⟨n1,n2,e1⟩<;>rcases m3 q' _ h2 with ⟨rfl,e2⟩ | ⟨n1',n2',e2⟩
  ·rfl
  ·exact absurd (hw.heap.inj _ _ _ e1 e2).symm n2'
  ·exact absurd (hw.heap.inj _ _ _ e1 e2) n2
  ·exact hw.heap.inj _ _ _ e1 e2
 ·rcases m3 q m hm with ⟨rfl,_⟩ | ⟨_,_,e1⟩
  ·omega
  ·exact hw.ext.hM q m hq e1
 ·rcases m3 q _ hm with ⟨rfl,_⟩ | ⟨_,_,e1⟩
  ·omega
  ·exact hw.ext.hblk q k' arr e hq e1 hb
 ·rcases m3 q _ hm with ⟨rfl,e1⟩ | ⟨_,_,e1⟩
  ·exact hw.Mnew _ k' e1
  ·exact hw.Mnew q k' e1
theorem RelF.heap_congr{cx:Cx}{h h2:Heap}{ρ:Nat→AV}{a:Act}(he:∀id,h2.lookup id=h.lookup id)(hr:RelF cx S M clk h ρ a w):RelF cx S M clk h2 ρ a w:=
 ⟨hr.size,hr.defers,hr.env,⟨⟨fun b bx hb=>hr.wr.heap.box b bx (by rw[←he];exact hb),fun g m hm=>by
   obtain⟨b,bx,h1,h2⟩:=hr.wr.heap.live g m hm
   exact⟨b,bx,by rw[he];exact h1,h2⟩,fun b bx b' bx' h1 h2 hg=>hr.wr.heap.gens b bx b' bx' (by rw[←he];exact h1) (by rw[←he];exact h2) hg,hr.wr.heap.inj⟩,hr.wr.ext,hr.wr.fr,hr.wr.Snew,hr.wr.Slt,hr.wr.Mnew⟩⟩
theorem RelF.more{cx:Cx}{h:Heap}{ρ:Nat→AV}{a:Act}(hc:clk≤clk')(hr:RelF cx S M clk h ρ a w):RelF cx S M clk' h ρ a w:=by
 have hx:Ext w S M clk w S M clk':=⟨fun _ _ h=>h,fun _ _ _ _ h=>h,hc,fun _ _ _ h=>h,fun _ _ arr _ _ _ h=>⟨arr,h,rfl⟩⟩
 exact⟨hr.size,hr.defers,fun t=>(hr.env t).mono hx,⟨⟨fun b bx hb=>(hr.wr.heap.box b bx hb).mono hx rfl (fun _ _=>rfl) fun _ _ _ h=>h,hr.wr.heap.live,hr.wr.heap.gens,hr.wr.heap.inj⟩,hr.wr.ext.trans hx,hr.wr.fr,hr.wr.Snew,hr.wr.Slt,hr.wr.Mnew⟩⟩
end
def HSub(h h':Heap):Prop:=∀id bx,h.lookup id=some bx→h'.lookup id=some bx
theorem ze3{h h':Heap}(hs:HSub h h'){id:BId}{g z:Nat}{bx:Box}(hb:boxAt h id g z=some bx):boxAt h' id g z=some bx:=by
 unfold boxAt at hb ⊢
 split at hb
 ·rename_i b hl
  rw[hs id b hl]
  exact hb
 ·cases hb
theorem zg2{h h':Heap}(hs:HSub h h'){id:BId}{g z i:Nat}(hb:liveP h id g z i=true):liveP h' id g z i=true:=by
 unfold liveP at hb ⊢
 split at hb
 ·rename_i bx hl
  rw[ze3 hs hl]
  exact hb
 ·cases hb
theorem ze4{α:Type}{h h':Heap}(hs:HSub h h'){id:BId}{g z:Nat}{f:Box→Option α}{x:α}(hb:(boxAt h id g z).bind f=some x):(boxAt h' id g z).bind f=some x:=by
 obtain⟨bx,h1,h2⟩:=bind_some hb
 rw[ze3 hs h1]
 exact h2
theorem zvh{α:Type}{h h':Heap}(hs:HSub h h'){id:BId}{g z:Nat}{f:Box→α}{x:α}(hb:(boxAt h id g z).map f=some x):(boxAt h' id g z).map f=some x:=by
 obtain⟨bx,h1,rfl⟩:=map_some hb
 rw[ze3 hs h1]
 rfl
theorem zry{h h':Heap}(hs:HSub h h'){op:AOp}{ρ:Nat→AV}{x:AV}(hq:stepQ op ρ h=some x):stepQ op ρ h'=some x:=by
 cases op<;>try exact hq
 case load n y=>
  simp only[stepQ]at hq ⊢
  cases hy:ev ρ y<;>rw[hy]at hq<;>simp only[loadAV]at hq ⊢<;>first | exact hq | exact ze4 hs hq
 case slc z y lo hi mx=>
  simp only[stepQ]at hq ⊢
  cases hy:ev ρ y<;>rw[hy]at hq<;>simp only[slcAV]at hq ⊢<;>first | exact hq | exact ze4 hs hq
 case fad o y=>
  simp only[stepQ]at hq ⊢
  cases hy:ev ρ y<;>rw[hy]at hq<;>simp only[fadAV]at hq ⊢<;>try exact hq
  split at hq
  ·rename_i hl;rw[if_pos (zg2 hs hl)];exact hq
  ·cases hq
 case iad z y i=>
  simp only[stepQ]at hq ⊢
  cases hy:ev ρ y<;>rw[hy]at hq<;>cases hi:ev ρ i<;>rw[hi]at hq<;>simp only[iadAV]at hq ⊢<;>first | exact hq | exact ze4 hs hq
 case iaa z len y i=>
  simp only[stepQ]at hq ⊢
  cases hy:ev ρ y<;>rw[hy]at hq<;>cases hi:ev ρ i<;>rw[hi]at hq<;>simp only[iaaAV]at hq ⊢<;>try exact hq
  split at hq
  ·rename_i hl;rw[if_pos ⟨zg2 hs hl.1,hl.2⟩];exact hq
  ·cases hq
 case len y=>
  simp only[stepQ]at hq ⊢
  cases hy:ev ρ y<;>rw[hy]at hq<;>simp only[lenAV]at hq ⊢<;>first | exact hq | exact zvh hs hq
 case nilc y=>
  simp only[stepQ]at hq ⊢
  cases hy:ev ρ y<;>rw[hy]at hq<;>simp only[nilcAV]at hq ⊢<;>try exact hq
  split at hq
  ·rename_i hl;rw[if_pos (zg2 hs hl)];exact hq
  ·cases hq
theorem zxx{P:Program}{h h':Heap}(hs:HSub h h'){o:AO}{ρ:Nat→AV}{x:AV}(hq:QF P h o ρ x):QF P h' o ρ x:=by
 have one:QOp P o.op ρ h x→QOp P o.op ρ h' x:=by
  intro hq
  unfold QOp at hq ⊢
  split at hq<;>first | exact hq | exact zry hs hq
 unfold QF at hq ⊢
 split at hq
 ·exact one hq
 ·rcases hq with ⟨h1,h2⟩ | hq
  ·exact .inl ⟨h1,one h2⟩
  ·exact .inr hq
end
section
open Go.RowKit
def slotOf:Opd→List Nat
 | .t n=>[n]
 | .c _=>[]
def slotsM:AOp→List Nat
 | .mov x=>slotOf x
 | .build _ ps=>ps.flatMap fun p=>slotOf p.2.2
 | .xop (.box _) [x]=>slotOf x
 | _=>[]
def AOp.slotty:AOp→Bool
 | .mov _ | .build .. | .xop .. => true
 | _=>false
theorem zrz{op:AOp}(h:op.slotty=false):slotsM op=[]:=by
 cases op<;>first | rfl | cases h
def contG(c0:Nat)(op:AOp)(ρ:Nat→AV)(g:Nat):Prop:=g<c0∨∃t∈slotsM op,g∈gnA (ρ t)
def CallB(P:Program)(f:FuncId)(xs:List AV)(g0:Nat)(x:AV)(B:Heap)(m:Nat):Prop:=
 xs.all noRef=true∧ACall P f xs [] g0 (fun r h c=>r=x∧h=B∧c=g0+m)∧(B.map (·.1)).Nodup∧(∀g∈gnA x,g0≤g)∧∀p∈B,∀g,boxGn p.2 g→g0≤g
def obH(b:BId)(ob:Option Box):Heap:=match ob with | none=>[] | some o=>[(b,o)]
def drawMG(P:Program)(h0:Heap)(c0:Nat)(X:Heap)(Fin:Env→Heap→Nat→Prop):List AO→Env→Heap→Nat→Prop
 | [],e,h,clk=>Fin e h clk
 | o::r,e,h,clk=>
  match o.op.maker with
  | true=>o.guard=none∧∃d x b bx ob,o.dst=some d∧stepW o.op (some d) e.get (obH b ob) clk=some (x,(b,bx)::obH b ob,clk+1)∧h.lookup b=ob∧X.lookup b=ob∧h0.lookup b=none∧(∀o,ob=some o→o.gen<clk) ∧
    (∀g,boxGn bx g→contG c0 o.op e.get g)∧drawMG P h0 c0 X Fin r (putE e (some d) x) ((b,bx)::h) (clk+1)
  | false=>
   match o.op.isStore with
   | true=>o.guard=none∧o.dst=none∧∃H2,stepW o.op none e.get h clk=some (.tup [],H2,clk)∧HSub h0 H2∧drawMG P h0 c0 X Fin r e H2 clk
   | false=>
    (qK P o e h0 [] fun x=>(∀g∈gnA x,contG c0 o.op e.get g)∧drawMG P h0 c0 X Fin r (putE e o.dst x) h clk) ∨
    (o.guard=none∧∃f args d x B m,o.op=.call f args∧o.dst=some d∧CallB P f (args.map (ev e.get)) clk x B m∧(∀p∈B,h.lookup p.1=none) ∧
     drawMG P h0 c0 X Fin r (putE e (some d) x) (B++h) (clk+m))
def drawML(P:Program)(tl:List AO)(h0:Heap)(c0:Nat)(X:Heap)(hd:List AO)(e:Env)(h:Heap)(clk:Nat)(K:St→Prop):Prop:=
 drawMG P h0 c0 X (fun e h clk=>runK P tl ⟨e,h,clk⟩ K) hd e h clk
section
variable{P:Program}{ops:Array Oper}
theorem zdi{y:Operand}{x:Opd}(h:resOpd y=some x):∀t∈slotOf x,y=.tmp t:=by
 intro t ht
 cases x with
 | t n=>
  simp only[slotOf,List.mem_singleton]at ht
  subst ht
  exact zb6 h
 | c v=>cases ht
theorem ze5{fields:Array Field}:∀{l:List (Nat×Operand)} {ps:List (Nat×Nat×Opd)},resParts P fields l=some ps→∀t,t∈(ps.flatMap fun p=>slotOf p.2.2)→Operand.tmp t∈l.map (·.2)
 | [],ps,hr,t,ht=>by simp only[resParts,Option.some.injEq]at hr;subst hr;cases ht
 | (i,x)::l,ps,hr,t,ht=>by
  simp only[resParts]at hr
  split at hr
  ·cases hr
  obtain⟨n,hn,hr1⟩:=bind_some hr
  obtain⟨p,hp,hr2⟩:=bind_some hr1
  obtain⟨qs,hq,rfl⟩:=map_some hr2
  simp only[List.flatMap_cons,List.mem_append]at ht
  simp only[List.map_cons,List.mem_cons]
  rcases ht with ht | ht
  ·exact .inl (zdi hp t ht).symm
  ·exact .inr (ze5 hq t ht)
theorem zel{n:Nat}:∀{l:List (Nat×Operand)} {ps:List (Nat×Nat×Opd)},resPartsA n l=some ps→∀t,t∈(ps.flatMap fun p=>slotOf p.2.2)→Operand.tmp t∈l.map (·.2)
 | [],ps,hr,t,ht=>by simp only[resPartsA,Option.some.injEq]at hr;subst hr;cases ht
 | (i,x)::l,ps,hr,t,ht=>by
  simp only[resPartsA]at hr
  obtain⟨p,hp,hr2⟩:=bind_some hr
  obtain⟨qs,hq,rfl⟩:=map_some hr2
  simp only[List.flatMap_cons,List.mem_append]at ht
  simp only[List.map_cons,List.mem_cons]
  rcases ht with ht | ht
  ·exact .inl (zdi hp t ht).symm
  ·exact .inr (zel hq t ht)
theorem zpd{o:Op}{op:AOp}(hop:resOp P o=some op):∀t∈slotsM op,Operand.tmp t∈o.operands.toList:=by
 intro t ht
 replace hop:=za2 hop
 rcases hop with hop | ⟨k,xs,rfl,hx⟩
 rotate_left
 ·rcases hx with hx | ⟨rfl,rfl⟩
  ·cases k<;>simp only[slotsM]at ht<;>try (cases ht;done)
   match xs,hx,ht with
   | [],hx,ht=>cases ht
   | [x],hx,ht=>
    cases x with
    | t n=>
     simp only[slotsM,slotOf,List.mem_singleton]at ht
     subst ht
     exact zoe hx t (by simp)
    | c v=>cases ht
   | _::_::_,hx,ht=>cases ht
  ·cases ht
 cases o<;>simp only[resOp0]at hop
 case move y=>
  obtain⟨p,hp,rfl⟩:=map_some hop
  simp[Op.operands,zdi hp t ht]
 case assign y=>
  obtain⟨p,hp,rfl⟩:=map_some hop
  simp[Op.operands,zdi hp t ht]
 case build ty parts=>
  split at hop
  ·split at hop
   ·obtain⟨zs,_,hop1⟩:=bind_some hop
    obtain⟨ps,hp,rfl⟩:=map_some hop1
    have:=ze5 hp t ht
    simpa[Op.operands]using this
   ·cases hop
  ·obtain⟨n,_,hop0⟩:=bind_some hop
   obtain⟨zs,_,hop1⟩:=bind_some hop0
   obtain⟨ps,hp,rfl⟩:=map_some hop1
   have:=zel hp t ht
   simpa[Op.operands]using this
  ·cases hop
 all_goals
  exfalso
  have key:op.slotty=false:=by
   clear ht
   revert hop
   repeat' split
   all_goals (intro hop)
   all_goals try contradiction
   all_goals try (cases hop;rfl;done)
   all_goals try simp only[Option.bind_eq_some_iff,Option.map_eq_some_iff,reduceCtorEq,and_false,exists_false]at hop
   all_goals try (exact hop.elim)
   all_goals first
    | (obtain⟨_,_,rfl⟩:=hop;rfl)
    | (obtain⟨_,_,hop⟩:=hop;split at hop<;>cases hop<;>rfl)
    | (obtain⟨_,_,_,_,rfl⟩:=hop;rfl)
    | (obtain⟨_,_,_,_,hop⟩:=hop;split at hop<;>cases hop<;>rfl)
    | (obtain⟨_,_,_,_,_,_,rfl⟩:=hop;rfl)
    | (obtain⟨_,_,_,_,_,_,_,_,rfl⟩:=hop;rfl)
    | (obtain⟨_,_,_,_,_,_,_,_,_,_,rfl⟩:=hop;rfl)
    | (obtain⟨_,_,_,_,_,_,_,_,hop⟩:=hop;split at hop<;>cases hop<;>rfl)
    | (obtain⟨_,_,_,_,_,_,_,_,_,_,hop⟩:=hop;split at hop<;>cases hop<;>rfl)
    | (obtain⟨_,_,hop⟩:=hop;split at hop<;>first | (cases hop;done) | (simp only[Option.bind_eq_some_iff,Option.map_eq_some_iff]at hop;obtain⟨_,_,hop⟩:=hop;split at hop<;>first | (cases hop;done) | (simp only[Option.bind_eq_some_iff,Option.map_eq_some_iff]at hop;first | (obtain⟨_,_,rfl⟩:=hop;rfl) | (obtain⟨_,_,_,_,rfl⟩:=hop;rfl))))
    | (obtain⟨_,_,hop⟩:=hop;split at hop<;>first | (cases hop;done) | (simp only[Option.bind_eq_some_iff,Option.map_eq_some_iff]at hop;first | (obtain⟨_,_,rfl⟩:=hop;rfl) | (obtain⟨_,_,_,_,rfl⟩:=hop;rfl)))
  rw[zrz key]at ht
  cases ht
theorem zkm{h h':Heap}(hs:HSub h h'){z:Nat}{y:AV}{ys:List (List AV)}(hy:rowOf h z y=some ys):rowOf h' z y=some ys:=by
 cases y<;>simp only[rowOf]at hy ⊢<;>first | exact hy | (cases hy;done) | exact ze4 hs hy
theorem zij{op:AOp}{d g:Nat}{ρ:Nat→AV}{x:AV}{b:BId}{bx:Box}{ob:Option Box}(hm:op.maker=true)(h:stepW op (some d) ρ (obH b ob) g=some (x,(b,bx)::obH b ob,g+1)) :
  ∃f z k els,MkF b f z∧bx=⟨g,k,z,els⟩∧x=f g∧∀(hp:Heap) (c:Nat),HSub (obH b ob) hp→stepW op (some d) ρ hp c=some (f c,(b,⟨c,k,z,els⟩)::hp,c+1):=by
 generalize obH b ob=hb at h ⊢
 cases op<;>simp only[AOp.maker]at hm<;>try (cases hm;done)
 case alloc zs=>
  simp only[stepW,allocAV,Option.map_some,Option.some.injEq,Prod.mk.injEq,List.cons.injEq,and_true,true_and]at h
  obtain⟨rfl,rfl,rfl⟩:=h
  exact⟨_,_,_,_,.ptr zs.length,rfl,rfl,fun hp c _=>rfl⟩
 case mks z zs l c=>
  simp only[stepW,mksAV]at h ⊢
  split at h
  ·rename_i k1 n k2 m _ _
   simp only[Option.bind_some]at h ⊢
   split at h
   ·rename_i hc
    simp only[Option.some.injEq,Prod.mk.injEq,List.cons.injEq,and_true,true_and]at h
    obtain⟨rfl,rfl,rfl⟩:=h
    exact⟨_,_,_,_,.bs z n.toNat,rfl,rfl,fun hp c _=>by rw[if_pos hc]⟩
   ·cases h
  ·cases h
 case app z x' y=>
  simp only[stepW,appAV]at h ⊢
  obtain⟨ys,hy,h1⟩:=bind_some h
  cases hv:ev ρ x'<;>rw[hv]at h1<;>simp only[appR]at h1<;>try (cases h1;done)
  case sl els fl=>
   simp only[Option.bind_some]at h1
   split at h1
   ·rename_i hc
    simp only[Option.some.injEq,Prod.mk.injEq,List.cons.injEq,and_true,true_and]at h1
    obtain⟨rfl,rfl,rfl⟩:=h1
    refine⟨_,_,_,_,.bs z (els.length+ys.length),rfl,rfl,fun hp c hs=>?_⟩
    rw[zkm hs hy,Option.bind_some]
    simp only[appR,Option.bind_some]
    rw[if_pos hc]
   ·cases h1
  case bs id g' z' off n=>
   obtain⟨b0,hb0,h2⟩:=bind_some h1
   split at h2
   ·rename_i hc
    simp only[Option.some.injEq,Prod.mk.injEq,List.cons.injEq,and_true,true_and]at h2
    obtain⟨rfl,rfl,rfl⟩:=h2
    refine⟨_,_,_,_,.bs z (n+ys.length),rfl,rfl,fun hp c hs=>?_⟩
    rw[zkm hs hy,Option.bind_some]
    simp only[appR]
    rw[ze3 hs hb0,Option.bind_some,if_pos hc]
   ·cases h2
 case xop k xs=>
  cases k<;>simp only at hm<;>try (cases hm;done)
  rename_i n
  match xs,h with
  | [],h=>simp[stepW,stepXV]at h
  | [y],h=>
   simp only[stepW,stepXV,List.map_cons,List.map_nil,boxXV,Option.bind_some]at h ⊢
   obtain⟨cs,hcs,h1⟩:=bind_some h
   split at h1
   ·rename_i hc
    simp only[Option.some.injEq,Prod.mk.injEq,List.cons.injEq,and_true,true_and]at h1
    obtain⟨rfl,rfl,rfl⟩:=h1
    refine⟨_,_,_,_,.ptr n,rfl,rfl,fun hp c _=>?_⟩
    rw[hcs,Option.bind_some,if_pos hc]
   ·cases h1
  | _::_::_,h=>simp[stepW,stepXV]at h
theorem zmu{op:AOp}{d g:Nat}{ρ:Nat→AV}{x:AV}{hp:Heap}{c:Nat}(hm:op.maker=true)(h:stepW op (some d) ρ [] g=some (x,hp,c)):∃bx,hp=[(.loc d,bx)]∧c=g+1:=by
 cases op<;>simp only[AOp.maker]at hm<;>try (cases hm;done)
 case alloc zs=>
  simp only[stepW,allocAV,Option.map_some,Option.some.injEq,Prod.mk.injEq]at h
  obtain⟨_,rfl,rfl⟩:=h
  exact⟨_,rfl,rfl⟩
 case mks z zs l c=>
  simp only[stepW,mksAV]at h
  split at h
  ·simp only[Option.bind_some]at h
   split at h
   ·simp only[Option.some.injEq,Prod.mk.injEq]at h
    obtain⟨_,rfl,rfl⟩:=h
    exact⟨_,rfl,rfl⟩
   ·cases h
  ·cases h
 case app z x' y=>
  simp only[stepW,appAV]at h
  obtain⟨ys,hy,h1⟩:=bind_some h
  cases hv:ev ρ x'<;>rw[hv]at h1<;>simp only[appR]at h1<;>try (cases h1;done)
  case sl els fl=>
   simp only[Option.bind_some]at h1
   split at h1
   ·simp only[Option.some.injEq,Prod.mk.injEq]at h1
    obtain⟨_,rfl,rfl⟩:=h1
    exact⟨_,rfl,rfl⟩
   ·cases h1
 case xop k xs=>
  cases k<;>simp only at hm<;>try (cases hm;done)
  match xs,h with
  | [],h=>simp[stepW,stepXV]at h
  | [y],h=>
   simp only[stepW,stepXV,List.map_cons,List.map_nil,boxXV,Option.bind_some]at h
   obtain⟨cs,hcs,h1⟩:=bind_some h
   split at h1
   ·simp only[Option.some.injEq,Prod.mk.injEq]at h1
    obtain⟨_,rfl,rfl⟩:=h1
    exact⟨_,rfl,rfl⟩
   ·cases h1
  | _::_::_,h=>simp[stepW,stepXV]at h
structure Mk where
 i:Nat
 d:Nat
 x:AV
 bs:Heap
 g0:Nat
 n:Nat
 ob:Option Box
def Mk.has(m:Mk)(g:Nat):Prop:=m.g0≤g∧g<m.g0+m.n
def FM(P:Program)(aos:List AO)(n:Nat)(h0:Heap)(c0:Nat)(MK:List Mk)(i:Nat)(ρ:Nat→AV)(x:AV):Prop:=
 i<n∧∃ao,aos[i]? = some ao ∧
  ((ao.guard=none∧∃m∈MK,m.i=i∧ao.dst=some m.d∧m.x=x ∧
    ((ao.op.maker=true∧∃b bx,m.bs=[(b,bx)]∧m.g0=bx.gen∧m.n=1∧stepW ao.op (some m.d) ρ (obH b m.ob) bx.gen=some (x,(b,bx)::obH b m.ob,bx.gen+1)∧∀g,boxGn bx g→contG c0 ao.op ρ g) ∨
     (ao.op.maker=false∧m.ob=none∧∃f args,ao.op=.call f args∧CallB P f (args.map (ev ρ)) m.g0 x m.bs m.n))) ∨
   (ao.op.maker=false∧(∀m∈MK,m.i≠i)∧QF P h0 ao ρ x∧∀g∈gnA x,contG c0 ao.op ρ g))
def mkH(l:List Mk):Heap:=l.reverse.flatMap fun m=>m.bs
def mkN(l:List Mk):Nat:=(l.map fun m=>m.n).sum
theorem zd9{γ:Type}{id:BId}{x:γ}:∀(l:List (BId×γ)),(id,x)∈l→(∀y,(id,y)∈l→y=x)→l.lookup id=some x
 | [],h,_=>by cases h
 | (b,y)::l,h,hu=>by
  simp only[List.lookup_cons]
  by_cases hb:id=b
  ·subst hb
   simp only[beq_self_eq_true]
   rw[hu y (by simp)]
  ·have:(id == b)=false:=by simpa using hb
   rw[this]
   refine zd9 l ?_ fun z hz=>hu z (List.mem_cons_of_mem _ hz)
   rcases List.mem_cons.1 h with h | h
   ·injection h with h1 h2
    exact absurd h1 hb
   ·exact h
theorem zc2{γ:Type}{id:BId}:∀(l:List (BId×γ)),(∀y,(id,y)∉l)→l.lookup id=none
 | [],_=>rfl
 | (b,y)::l,h=>by
  simp only[List.lookup_cons]
  by_cases hb:id=b
  ·subst hb
   exact absurd (by simp) (h y)
  ·have:(id == b)=false:=by simpa using hb
   rw[this]
   exact zc2 l fun z hz=>h z (List.mem_cons_of_mem _ hz)
theorem zmv{l:List Mk}{id:BId}{x:Box}:(id,x)∈mkH l↔∃m∈l,(id,x)∈m.bs:=by
 unfold mkH
 simp only[List.mem_flatMap,List.mem_reverse]
theorem ze6{γ:Type}:∀(l:List (BId×γ)),(l.map (·.1)).Nodup→∀{b:BId} {x y:γ},(b,x)∈l→(b,y)∈l→x=y
 | [],_,_,_,_,h,_=>by cases h
 | (c,z)::l,hn,b,x,y,h1,h2=>by
  simp only[List.map_cons,List.nodup_cons]at hn
  rcases List.mem_cons.1 h1 with h1 | h1<;>rcases List.mem_cons.1 h2 with h2 | h2
  ·rw[Prod.mk.injEq]at h1 h2;rw[h1.2,h2.2]
  ·rw[Prod.mk.injEq]at h1
   exact absurd (List.mem_map.2 ⟨_,h2,h1.1⟩) hn.1
  ·rw[Prod.mk.injEq]at h2
   exact absurd (List.mem_map.2 ⟨_,h1,h2.1⟩) hn.1
  ·exact ze6 l hn.2 h1 h2
theorem zcm{γ:Type}:∀(l:List (BId×γ)) (b:BId) (x:γ),l.lookup b=some x→(b,x)∈l
 | [],b,x,h=>by simp at h
 | (c,y)::l,b,x,h=>by
  simp only[List.lookup_cons]at h
  split at h
  ·rename_i hb
   cases h
   rw[eq_of_beq hb]
   simp
  ·exact List.mem_cons_of_mem _ (zcm l b x h)
theorem zg3{γ:Type}{l:List (BId×γ)}{b:BId}(h:l.lookup b=none):∀x,(b,x)∉l:=by
 intro x hx
 induction l with
 | nil=>cases hx
 | cons p l ih=>
  obtain⟨c,y⟩:=p
  simp only[List.lookup_cons]at h
  split at h
  ·cases h
  ·rename_i hb
   rcases List.mem_cons.1 hx with hx | hx
   ·rw[Prod.mk.injEq]at hx
    rw[hx.1]at hb
    simp at hb
   ·exact ih h hx
theorem znx{aos:List AO}{n:Nat}{h0 X:Heap}{c0:Nat}(hX0:HSub h0 X){Fin:Env→Heap→Nat→Prop}(hw:∀ao∈aos.take n,ao.op.writes=true→ao.op.maker=true)(hdst:∀(i:Nat) (o:Oper),ops[i]? = some o→∃ao:AO,aos[i]? = some ao∧ao.dst=o.dst) :
  ∀(l:List Oper) (k:Nat) (rest:List AO) (e:Env) (h:Heap) (clk:Nat),(∀j,j<l.length→l[j]? = ops[k+j]?)→(∀j,j<rest.length→rest[j]? = aos[k+j]?)→l.length=rest.length→k+l.length=n→(∀id,h.lookup id=none→X.lookup id=none) →
   drawMG P h0 c0 X Fin rest e h clk →
   ∃MKs:List Mk,(∀m∈MKs,k≤m.i∧m.i<n∧clk≤m.g0∧m.g0+m.n≤clk+mkN MKs∧(∀p∈m.bs,h.lookup p.1=m.ob∧X.lookup p.1=m.ob∧h0.lookup p.1=none)∧(m.bs.map (·.1)).Nodup) ∧
    (∀m∈MKs,∀m'∈MKs,(m.i=m'.i∨(∃b x y,(b,x)∈m.bs∧(b,y)∈m'.bs)∨(∃g,m.has g∧m'.has g))→m=m') ∧
    (∀m∈MKs,∃ao,aos[m.i]? = some ao∧ao.op.noisy=true) ∧
    ∀MK:List Mk,(∀m∈MKs,m∈MK)→(∀m∈MK,k≤m.i→m∈MKs)→lexE ops (FM P aos n h0 c0 MK) (fun ρ=>∃e,ρ=Env.get e∧Fin e (mkH MKs++h) (clk+mkN MKs)) l k e.get
 | [],k,rest,e,h,clk,_,_,hlen,_,_,hk=>by
  have:rest=[]:=List.eq_nil_of_length_eq_zero (by simpa using hlen.symm)
  subst this
  exact⟨[],by simp,by simp,by simp,fun MK _ _=>⟨e,rfl,by simpa[mkH,mkN,drawMG]using hk⟩⟩
 | o::l,k,rest,e,h,clk,hl,hr,hlen,hkn,hXh,hk=>by
  cases rest with
  | nil=>simp at hlen
  | cons ao rest=>
   have h0':ops[k]? = some o:=by simpa using (hl 0 (by simp)).symm
   have h1:aos[k]? = some ao:=by simpa using (hr 0 (by simp)).symm
   obtain⟨ao',h2,hd⟩:=hdst k o h0'
   rw[h1]at h2
   cases h2
   simp only[List.length_cons]at hkn
   have hmem:ao∈aos.take n:=List.mem_of_getElem? (i:=k) (by rw[List.getElem?_take,if_pos (by omega)];exact h1)
   have hl':∀j,j<l.length→l[j]? = ops[k+1+j]? := fun j hj=>by have:=hl (j+1) (by simp;omega);simpa[Nat.add_assoc,Nat.add_comm 1 j]using this
   have hr':∀j,j<rest.length→rest[j]? = aos[k+1+j]? := fun j hj=>by have:=hr (j+1) (by simp;omega);simpa[Nat.add_assoc,Nat.add_comm 1 j]using this
   simp only[drawMG]at hk
   -- one that makes boxes
   have make:∀(d:Nat) (x:AV) (B:Heap) (m:Nat) (ob:Option Box),ao.op.noisy=true→ao.dst=some d→(∀p∈B,h.lookup p.1=ob∧X.lookup p.1=ob∧h0.lookup p.1=none)→(∀p∈B,X.lookup p.1≠some p.2)→(B.map (·.1)).Nodup →
     (∀MK:List Mk,(⟨k,d,x,B,clk,m,ob⟩:Mk)∈MK→FM P aos n h0 c0 MK k e.get x)→drawMG P h0 c0 X Fin rest (putE e (some d) x) (B++h) (clk+m)→(∃MKs:List Mk,(∀m∈MKs,k≤m.i∧m.i<n∧clk≤m.g0∧m.g0+m.n≤clk+mkN MKs∧(∀p∈m.bs,h.lookup p.1=m.ob∧X.lookup p.1=m.ob∧h0.lookup p.1=none)∧(m.bs.map (·.1)).Nodup) ∧
      (∀m∈MKs,∀m'∈MKs,(m.i=m'.i∨(∃b x y,(b,x)∈m.bs∧(b,y)∈m'.bs)∨(∃g,m.has g∧m'.has g))→m=m') ∧
      (∀m∈MKs,∃ao,aos[m.i]? = some ao∧ao.op.noisy=true) ∧
    ∀MK:List Mk,(∀m∈MKs,m∈MK)→(∀m∈MK,k≤m.i→m∈MKs)→lexE ops (FM P aos n h0 c0 MK) (fun ρ=>∃e,ρ=Env.get e∧Fin e (mkH MKs++h) (clk+mkN MKs)) (o::l) k e.get):=by
    intro d x B m ob hno hdd hfr hXB hnd hF hk2
    obtain⟨MKs,p1,p2,p4,p3⟩:=znx hX0 (Fin:=Fin) hw hdst l (k+1) rest _ _ _ hl' hr' (by simpa using hlen) (by omega) (fun id hid=>hXh id (by rw[zak]at hid;exact(Option.or_eq_none_iff.1 hid).2)) hk2
    have hsum:mkN (⟨k,d,x,B,clk,m,ob⟩::MKs)=m+mkN MKs:=by simp[mkN]
    refine⟨⟨k,d,x,B,clk,m,ob⟩::MKs,fun q hq=>?_,fun q hq q' hq' he=>?_,fun q hq=>(List.mem_cons.1 hq).elim (fun e=>by subst e;exact⟨ao,h1,hno⟩) (fun hq=>p4 q hq),fun MK hMK hMK2=>?_⟩
    ·rw[hsum]
     rcases List.mem_cons.1 hq with rfl | hq
     ·exact⟨Nat.le_refl _,by show k<n;omega,Nat.le_refl _,by show clk+m≤_;omega,hfr,hnd⟩
     ·obtain⟨q1,q2,q3,q4,q5,q6⟩:=p1 q hq
      refine⟨by omega,q2,by omega,by omega,fun p hp=>?_,q6⟩
      obtain⟨this,hxo,h0o⟩:=q5 p hp
      rw[zak]at this
      cases hBl:B.lookup p.1 with
      | none=>rw[hBl]at this;exact⟨by simpa using this,hxo,h0o⟩
      | some bx=>rw[hBl]at this;exact(hXB (p.1,bx) (zcm _ _ _ hBl) (by rw[hxo,←this];rfl)).elim
    ·have key:∀m'∈MKs,(k=m'.i∨(∃b x y,(b,x)∈B∧(b,y)∈m'.bs)∨(∃g,(clk≤g∧g<clk+m)∧m'.has g))→False:=by
      intro m' hm' he
      obtain⟨q1,q2,q3,q4,q5,_⟩:=p1 m' hm'
      rcases he with he | ⟨b,u,v,hb,hb'⟩ | ⟨g,hg,hg'⟩
      ·omega
      ·obtain⟨this,hxo,h0o⟩:=q5 _ hb'
       rw[zak]at this
       cases hBl:B.lookup b with
       | none=>exact zg3 hBl u hb
       | some bx=>simp only[hBl]at this;exact hXB (b,bx) (zcm _ _ _ hBl) (by rw[hxo,←this];rfl)
      ·have h3:=hg'.1
       omega
     rcases List.mem_cons.1 hq with rfl | hq<;>rcases List.mem_cons.1 hq' with rfl | hq'
     ·rfl
     ·exact(key q' hq' he).elim
     ·refine(key q hq ?_).elim
      rcases he with he | ⟨b,u,v,hb,hb'⟩ | ⟨g,hg,hg'⟩
      ·exact .inl he.symm
      ·exact .inr (.inl ⟨b,v,u,hb',hb⟩)
      ·exact .inr (.inr ⟨g,hg',hg⟩)
     ·exact p2 q hq q' hq' he
    ·refine⟨x,hF MK (hMK _ (by simp)),?_⟩
     have:=p3 MK (fun m hm=>hMK m (by simp[hm])) (fun q hq hqi=>by
      rcases List.mem_cons.1 (hMK2 q hq (by omega)) with rfl | h3
      ·exact absurd hqi (by show ¬ k+1≤k;omega)
      ·exact h3)
     rw[←hd,←zdd,hdd]
     have e1:mkH (⟨k,d,x,B,clk,m,ob⟩::MKs)++h=mkH MKs++(B++h):=by simp[mkH]
     have e2:clk+mkN (⟨k,d,x,B,clk,m,ob⟩::MKs:List Mk)=clk+m+mkN MKs:=by rw[hsum];omega
     rw[e1,e2]
     exact this
   cases hmk:ao.op.maker with
   | true=>
    rw[hmk]at hk
    simp only at hk
    obtain⟨hgn,d,x,b,bx,ob,hdd,hst,hfr,hfx,hf0,hgo,hcont,hk2⟩:=hk
    obtain⟨f,z,kd,els,hf,hbx,hx,_⟩:=zij hmk hst
    have hg0:bx.gen=clk:=by rw[hbx]
    refine make d x [(b,bx)] 1 ob (by cases hop:ao.op<;>rw[hop]at hmk<;>first | rfl | exact hmk | cases hmk) hdd (fun p hp=>by have:p=(b,bx):=(by simpa using hp);subst this;exact⟨hfr,hfx,hf0⟩) (fun p hp he=>?_) (by simp) (fun MK hm=>⟨by omega,ao,h1,.inl ⟨hgn,_,hm,rfl,hdd,rfl,.inl ⟨hmk,b,bx,rfl,hg0.symm,rfl,by rw[hg0];exact hst,hcont⟩⟩⟩) hk2
    have:p=(b,bx):=by simpa using hp
    subst this
    rw[hfx]at he
    have h9:bx.gen<clk:=hgo _ he
    omega
   | false=>
    rw[hmk]at hk
    simp only at hk
    have hns:ao.op.isStore=false:=by
     cases hh:ao.op.isStore with
     | false=>rfl
     | true=>
      have hww:ao.op.writes=true:=by
       cases hop:ao.op<;>rw[hop]at hh<;>first | rfl | cases hh
      rw[hw ao hmem hww]at hmk
      cases hmk
    rw[hns]at hk
    simp only at hk
    rcases hk with hk | ⟨hgn,f,args,d,x,B,m,hop,hdd,hcb,hfr,hk2⟩
    ·have hwr:ao.op.writes=false:=by
      cases hww:ao.op.writes with
      | false=>rfl
      | true=>rw[hw ao hmem hww]at hmk;cases hmk
     obtain⟨x,hq1,_,hcont,hk2⟩:=zvg hwr hk
     obtain⟨MKs,p1,p2,p4,p3⟩:=znx hX0 (Fin:=Fin) hw hdst l (k+1) rest _ _ _ hl' hr' (by simpa using hlen) (by omega) hXh hk2
     refine⟨MKs,fun m hm=>?_,p2,p4,fun MK hMK hMK2=>⟨x,⟨by omega,ao,h1,.inr ⟨hmk,fun m hm he=>?_,hq1,hcont⟩⟩,?_⟩⟩
     ·obtain⟨q1,q2,q3,q4,q5⟩:=p1 m hm
      exact⟨by omega,q2,q3,q4,q5⟩
     ·have:=(p1 m (hMK2 m hm (by omega))).1
      omega
     ·rw[←hd,←zdd]
      exact p3 MK hMK fun q hq hqi=>hMK2 q hq (by omega)
    ·have hfx:∀p∈B,X.lookup p.1=none:=fun p hp=>hXh _ (hfr p hp)
     have hf0:∀p∈B,h0.lookup p.1=none:=fun p hp=>by
      cases hl0:h0.lookup p.1 with
      | none=>rfl
      | some y=>have:=hX0 _ _ hl0;rw[hfx p hp]at this;cases this
     exact make d x B m none (by rw[hop];rfl) hdd (fun p hp=>⟨hfr p hp,hfx p hp,hf0 p hp⟩) (fun p hp he=>by rw[hfx p hp]at he;cases he) hcb.2.2.1 (fun MK hm=>⟨by omega,ao,h1,.inl ⟨hgn,_,hm,rfl,hdd,rfl,.inr ⟨hmk,rfl,f,args,hop,hcb⟩⟩⟩) hk2
theorem ze7{h0 X:Heap}{c0:Nat}{Fin:Env→Heap→Nat→Prop}(s:List AO):∀(l:List AO) (e:Env) (h:Heap) (clk:Nat),drawMG P h0 c0 X Fin (l++s) e h clk=drawMG P h0 c0 X (fun e h clk=>drawMG P h0 c0 X Fin s e h clk) l e h clk
 | [],e,h,clk=>rfl
 | o::l,e,h,clk=>by
  have ih:=ze7 (h0:=h0) (X:=X) (c0:=c0) (Fin:=Fin) s l
  simp only[List.cons_append,drawMG,ih]
end
end
section
open Go.RowKit
section
variable{P:Program}{w w':World}{S S':Nat→Nat→Prop}{M M':Map}
theorem zjh{γ:Type}:∀(l:List (BId×γ)) (b:BId) (x:γ),l.lookup b=some x→(b,x)∈l
 | [],b,x,h=>by simp at h
 | (c,y)::l,b,x,h=>by
  simp only[List.lookup_cons]at h
  split at h
  ·rename_i hb
   cases h
   rw[eq_of_beq hb]
   simp
  ·exact List.mem_cons_of_mem _ (zjh l b x h)
theorem RelF.mk2{cx:Cx}{h B:Heap}{ρ:Nat→AV}{a:Act}{c g0 n nt:Nat}{v:Value}{x:AV}(hr:RelF cx S M c h ρ a w)
  (hw:WRel ⟨P,nt,w,S,fun _=>none,g0⟩ S' M' (g0+n) B w') (hC:C w' S' M' (g0+n) v x) (hc:g0+n≤c) (h0:cx.clk0≤g0) (hfr:∀p∈B,h.lookup p.1=none)
  (henv:∀t,∀q∈gnA (ρ t),¬ (g0≤q∧q<g0+n)) (hbox:∀id bx,h.lookup id=some bx→¬ (g0≤bx.gen∧bx.gen<g0+n)∧∀q,boxGn bx q→¬ (g0≤q∧q<g0+n))
  (hx:∀g∈gnA x,g0≤g) (hB:∀p∈B,∀g,boxGn p.2 g→g0≤g) :
  ∃M2,RelF cx S' M2 c (B++h) ρ a w'∧C w' S' M2 c v x:=by
 have hno:∀k,¬ (⟨P,nt,w,S,fun _=>none,g0⟩:Cx).brw k:=by
  intro k ⟨g,hg⟩
  cases hg
 have hblk:∀k,k<w.heap.size→w'.heap[k]? = w.heap[k]? := fun k hk=>hw.fr.block k hk (hno k)
 have hSo:∀k o,k<w.heap.size→S' k o→S k o:=by
  intro k o hk hs
  rcases hw.Snew k o hs with h1 | h1 | h1
  ·exact h1
  ·simp only at h1;omega
  ·exact absurd h1 (hno k)
 have hsz:w.heap.size≤w'.heap.size:=hw.fr.size
 have hin:∀g m,M' g=some m→g0≤g∧g<g0+n:=by
  intro g m hm
  obtain⟨b,bx,h1,h2⟩:=hw.heap.live g m hm
  refine⟨?_,by rw[←h2];exact(hw.heap.box b bx h1).1⟩
  rcases Nat.lt_or_ge g g0 with hlt | hge
  ·have:=hw.ext.hM g m hlt hm
   cases this
  ·exact hge
 have hMk:∀g k,M' g=some (some k)→k<w'.heap.size∧w.heap.size≤k:=by
  intro g k hm
  obtain⟨h1,h2⟩:=hw.Mnew g k hm
  rcases h2 with h2 | h2
  ·exact⟨h1,h2⟩
  ·exact absurd h2 (hno k)
 have hx1:Ext w S M c w' S' M c:=by
  refine⟨hw.ext.hS,hw.ext.hcell,Nat.le_refl _,fun g m _ hm=>hm,fun g k arr e _ hm hb=>⟨arr,?_,rfl⟩⟩
  rw[hblk k (hr.wr.Mnew g k hm).1]
  exact hb
 generalize hM2:(fun g=>if g0≤g∧g<g0+n then M' g else M g:Map)=M2
 have m1:∀g,g0≤g∧g<g0+n→M2 g=M' g:=by intro g hg;rw[←hM2];simp only;rw[if_pos hg]
 have m2:∀g,¬ (g0≤g∧g<g0+n)→M2 g=M g:=by intro g hg;rw[←hM2];simp only;rw[if_neg hg]
 have m3:∀g m,M2 g=some m→((g0≤g∧g<g0+n)∧M' g=some m)∨(¬ (g0≤g∧g<g0+n)∧M g=some m):=by
  intro g m hm
  by_cases hg:g0≤g∧g<g0+n
  ·rw[m1 g hg]at hm;exact .inl ⟨hg,hm⟩
  ·rw[m2 g hg]at hm;exact .inr ⟨hg,hm⟩
 have hlt:∀q,¬ (g0≤q∧q<g0+n)→q<c→M2 q=M q∧q<c:=fun q h1 h2=>⟨m2 q h1,h2⟩
 have hlook:∀id bx,(B++h).lookup id=some bx→B.lookup id=some bx∨(B.lookup id=none∧h.lookup id=some bx):=by
  intro id bx hb
  rw[zak]at hb
  cases hq:B.lookup id with
  | none=>rw[hq]at hb;exact .inr ⟨rfl,by simpa using hb⟩
  | some b=>rw[hq]at hb;exact .inl (by simpa using hb)
 have hlB:∀id bx,B.lookup id=some bx→(B++h).lookup id=some bx:=by
  intro id bx hb
  rw[zak,hb]
  rfl
 have hlh:∀id bx,h.lookup id=some bx→(B++h).lookup id=some bx:=by
  intro id bx hb
  rw[zak]
  cases hq:B.lookup id with
  | none=>simpa using hb
  | some b=>
   have:=hfr _ (zjh B id b hq)
   simp only at this
   rw[this]at hb
   cases hb
 have hBg:∀id bx,B.lookup id=some bx→g0≤bx.gen∧bx.gen<g0+n:=by
  intro id bx hb
  obtain⟨b1,_,m,hm,_⟩:=hw.heap.box id bx hb
  exact hin _ m hm
 refine⟨M2,⟨hr.size,hr.defers,fun t=>?_,⟨⟨fun b bx hb=>?_,fun g m hm=>?_,fun b bx b' bx' h1 h2 hg=>?_,fun g g' k h1 h2=>?_⟩,⟨?_,?_,?_,fun g m hg hm=>?_,fun g k arr e hg hm hb=>?_⟩,?_,fun k o hs=>?_,hw.Slt,fun g k hm=>?_⟩⟩,?_⟩
 ·exact((hr.env t).mono hx1).remap fun q hq=>hlt q (henv t q hq) ((hr.env t).gn q hq)
 ·rcases hlook b bx hb with h1 | ⟨_,h1⟩
  ·have hbk:=hw.heap.box b bx h1
   have hg:=hBg b bx h1
   refine hbk.remap (m1 _ hg) (by omega) fun q hq=>?_
   have h2:=hB _ (zjh B b bx h1) q hq
   have h3:=hbk.gn.2 q hq
   exact⟨m1 q ⟨h2,h3⟩,by omega⟩
  ·have hbk:=hr.wr.heap.box b bx h1
   obtain⟨e1,e2⟩:=hbox b bx h1
   refine(hbk.mono hx1 rfl (fun k hm=>hblk k (hr.wr.Mnew _ k hm).1) fun k o hm hs=>hSo k o (hr.wr.Mnew _ k hm).1 hs).remap (m2 _ e1) hbk.1 fun q hq=>?_
   exact hlt q (e2 q hq) (hbk.gn.2 q hq)
 ·rcases m3 g m hm with ⟨_,h1⟩ | ⟨_,h1⟩
  ·obtain⟨b,bx,h2,h3⟩:=hw.heap.live g m h1
   exact⟨b,bx,hlB b bx h2,h3⟩
  ·obtain⟨b,bx,h2,h3⟩:=hr.wr.heap.live g m h1
   exact⟨b,bx,hlh b bx h2,h3⟩
 ·rcases hlook b bx h1 with h1 | ⟨_,h1⟩<;>rcases hlook b' bx' h2 with h2 | ⟨_,h2⟩
  ·exact hw.heap.gens b bx b' bx' h1 h2 hg
  ·have:=hBg b bx h1
   rw[hg]at this
   exact absurd this (hbox b' bx' h2).1
  ·have:=hBg b' bx' h2
   rw[←hg]at this
   exact absurd this (hbox b bx h1).1
  ·exact hr.wr.heap.gens b bx b' bx' h1 h2 hg
 ·rcases m3 g _ h1 with ⟨_,e1⟩ | ⟨_,e1⟩<;>rcases m3 g' _ h2 with ⟨_,e2⟩ | ⟨_,e2⟩
  ·exact hw.heap.inj _ _ _ e1 e2
  ·have:=(hMk g k e1).2;have:=(hr.wr.Mnew g' k e2).1;omega
  ·have:=(hMk g' k e2).2;have:=(hr.wr.Mnew g k e1).1;omega
  ·exact hr.wr.heap.inj _ _ _ e1 e2
 ·exact(hr.wr.ext.trans hx1).hS
 ·exact(hr.wr.ext.trans hx1).hcell
 ·exact(hr.wr.ext.trans hx1).hclk
 ·rw[m2 g (by omega)]at hm
  exact(hr.wr.ext.trans hx1).hM g m hg hm
 ·rw[m2 g (by omega)]at hm
  exact(hr.wr.ext.trans hx1).hblk g k arr e hg hm hb
 ·have f1:=hr.wr.fr
  have f2:=hw.fr
  exact⟨f2.os.trans f1.os,f2.tape.trans f1.tape,f2.output.trans f1.output,Nat.le_trans f1.size f2.size,fun k hk hn=>(hblk k (Nat.lt_of_lt_of_le hk f1.size)).trans (f1.block k hk hn)⟩
 ·rcases hw.Snew k o hs with h1 | h1 | h1
  ·exact hr.wr.Snew k o h1
  ·exact .inr (.inl (Nat.le_trans hr.wr.fr.size h1))
  ·exact absurd h1 (hno k)
 ·rcases m3 g _ hm with ⟨_,e1⟩ | ⟨_,e1⟩
  ·obtain⟨h1,h2⟩:=hMk g k e1
   exact⟨h1,.inl (Nat.le_trans hr.wr.fr.size h2)⟩
  ·obtain⟨h1,h2⟩:=hr.wr.Mnew g k e1
   exact⟨by omega,h2⟩
 ·exact hC.remap fun q hq=>by
   have h1:=hx q hq
   have h2:=hC.gn q hq
   exact⟨m1 q ⟨h1,h2⟩,by omega⟩
end
end
section
open Go.RowKit
section
variable{P:Program}{ops:Array Oper}{md:Region.Mode}{F:Nat→(Nat→AV)→AV→Prop}
theorem zft(hL:Local ops F){n g:Nat}{Lq:(Nat→AV)→Prop}(hs:Region.sinkB md ops n=true)(hc:Region.chainB md ops n=true)(hn:n<ops.size) :
  ∀(l:List Oper) (k:Nat) (listed:Array Bool) (ρ:Nat→AV),(∀j,j<l.length→l[j]? = ops[k+j]?)→k+l.length=n→HeadInv md ops n listed→(∀i,i<k→listed.getD i false=true) →
  Region.lexHead md ops g l.length k listed=true→lexE ops F Lq l k ρ →
  anyEL md ops F n (fun listed' ρ'=>Region.seqB md ops g n listed'=true∧(∀i,i<n→listed'.getD i false=true)∧Lq ρ') l.length listed ρ
 | [],k,listed,ρ,_,hk,_,hfull,hB,h=>by
  have:k=n:=by simpa using hk
  subst this
  exact⟨by simpa[Region.lexHead]using hB,hfull,h⟩
 | o::l,k,listed,ρ,hl,hk,inv,hfull,hB,h=>by
  have h0:ops[k]? = some o:=by simpa using (hl 0 (by simp)).symm
  simp only[List.length_cons,Region.lexHead,Bool.and_eq_true]at hB
  obtain⟨⟨hr,hf⟩,hB'⟩:=hB
  have hkn:k<n:=by simp only[List.length_cons]at hk;omega
  have hr':k∈Region.ready md ops listed:=by simpa using hr
  obtain⟨v,hy,hK⟩:=h
  have hksz:k<listed.size:=by rw[inv.size];omega
  exact zg0 hL h0 hs hc hn hkn (fun listed' a' hL=>seqB_ready hL.1) l.length listed ρ inv (Region.free_spec h0 hf) hr' hy
   (zft hL hs hc hn l (k+1) _ _ (fun j hj=>by have:=hl (j+1) (by simp;omega);simpa[Nat.add_assoc,Nat.add_comm 1 j]using this) (by simp only[List.length_cons]at hk;omega) (inv.set hr' hkn) (fun i hi=>by
    by_cases hik:k=i
    ·subst hik
     simp[hksz]
    ·rw[getD_set_ne false hik]
     exact hfull i (by omega)) hB' hK)
theorem zcn{n g:Nat}{L:Array Bool→(Nat→AV)→Prop}{R:Array Bool→(Nat→AV)→Act→World→Prop}{Q':Exit→Act→World→Prop}
  (hs:∀i o listed,i<n→ops[i]? = some o→i∈Region.ready md ops listed→∀ρ x a w (K:Act→World→Prop),F i ρ x→R listed ρ a w→(∀a' w',R (listed.setIfInBounds i true) (upd ρ o.dst x) a' w'→K a' w')→wpOp P ops Q' i K a w)
  (hQ:∀listed ρ a w,L listed ρ→R listed ρ a w→wpAny P md ops Q' g listed a w):∀(f:Nat) (listed:Array Bool) (ρ:Nat→AV) (a:Act) (w:World),R listed ρ a w →
  anyEL md ops F n L f listed ρ→wpAny P md ops Q' (f+g) listed a w
 | 0,_,_,_,_,hr,h=>by rw[Nat.zero_add];exact hQ _ _ _ _ h hr
 | f+1,listed,ρ,a,w,hr,h=>by
  rw[show f+1+g=(f+g)+1 by omega]
  refine⟨fun h0=>absurd h0 h.1,fun i hi=>?_⟩
  obtain⟨hin,h2⟩:=h.2 i hi
  obtain⟨_,o,ho,_⟩:=mem_ready.1 hi
  unfold fOp at h2
  simp only[ho]at h2
  obtain⟨x,hx,hK⟩:=h2
  exact hs i o listed hin ho hi ρ x a w _ hx hr fun a' w' hr'=>zcn hs hQ f _ _ a' w' hr' hK
end
section
variable{P:Program}{ops:Array Oper}{cx:Cx}{w:World}{a:Act}
def Gok(c0:Nat)(MK:List Mk)(listed:Array Bool)(g:Nat):Prop:=g<c0∨∃m∈MK,listed.getD m.i false=true∧m.has g
def RM(cx:Cx)(X:Heap)(c0:Nat)(MK:List Mk)(listed:Array Bool)(ρ:Nat→AV)(a:Act)(w:World):Prop:=
 ∃h',RelR cx (c0+mkN MK) h' ρ a w∧(∀id bx,X.lookup id=some bx→(∀m∈MK,listed.getD m.i false=true→∀y,(id,y)∉m.bs)→h'.lookup id=some bx)∧(∀m∈MK,listed.getD m.i false=true→∀p∈m.bs,h'.lookup p.1=some p.2) ∧
  (∀id bx,h'.lookup id=some bx→X.lookup id=some bx∨∃m∈MK,listed.getD m.i false=true∧(id,bx)∈m.bs) ∧
  (∀t,∀g∈gnA (ρ t),Gok c0 MK listed g)∧(∀id bx,h'.lookup id=some bx→Gok c0 MK listed bx.gen∧∀g,boxGn bx g→Gok c0 MK listed g)
theorem Gok.mono{c0:Nat}{MK:List Mk}{listed:Array Bool}{i g:Nat}(h:Gok c0 MK listed g):Gok c0 MK (listed.setIfInBounds i true) g:=by
 rcases h with h | ⟨m,hm,hl,hg⟩
 ·exact .inl h
 ·refine .inr ⟨m,hm,?_,hg⟩
  by_cases hi:i=m.i
  ·subst hi
   have:m.i<listed.size:=by
    rcases Nat.lt_or_ge m.i listed.size with h' | h'
    ·exact h'
    ·simp[Array.getElem?_eq_none h']at hl
   simp[this]
  ·rw[getD_set_ne false hi]
   exact hl
theorem zny{nt n c0:Nat}{aos:List AO}{h0:Heap}{MK:List Mk}(hget':∀(i:Nat) (o:Oper),ops[i]? = some o→∃ao,aos[i]? = some ao∧resOper P nt ops o=some ao):Local ops (FM P aos n h0 c0 MK):=by
 intro i o ho ρ ρ' hρ x ⟨hin,ao,hao,hq⟩
 obtain⟨ao',h1,h2⟩:=hget' i o ho
 rw[hao]at h1
 cases h1
 refine⟨hin,ao,hao,?_⟩
 obtain⟨op,g,hop,hg,rfl,_⟩:=zaw h2
 have hops:∀t,Operand.tmp t∈o.op.operands.toList→ρ t=ρ' t:=fun t ht=>hρ t (by
  unfold Oper.looksAt
  exact List.mem_append_left _ (List.mem_filterMap.2 ⟨.tmp t,ht,rfl⟩))
 have hct:∀q,contG c0 op ρ q→contG c0 op ρ' q:=by
  intro q hq
  rcases hq with hq | ⟨t,ht,hq⟩
  ·exact .inl hq
  ·exact .inr ⟨t,ht,by rw[←hops t (zpd hop t ht)];exact hq⟩
 simp only at hq ⊢
 rcases hq with ⟨e1,m,e2,e3,e4,e5,hkk⟩ | ⟨hmk,e1,e2,e3⟩
 ·refine .inl ⟨e1,m,e2,e3,e4,e5,?_⟩
  rcases hkk with ⟨k1,b,bx,k2,k3,k4,k5,k6⟩ | ⟨k1,ko,f,args,k2,k3⟩
  ·exact .inl ⟨k1,b,bx,k2,k3,k4,by rw[←zet hop hops];exact k5,fun q hq=>hct q (k6 q hq)⟩
  ·refine .inr ⟨k1,ko,f,args,k2,?_⟩
   subst k2
   obtain⟨cargs,ats,hcall,hl⟩:=zd5 hop
   rw[←zc4 hl fun t ht=>hops t (by rw[hcall];simp[Op.operands,Call.operands,ht])]
   exact k3
 ·refine .inr ⟨hmk,e1,?_,fun q hq'=>hct q (e3 q hq')⟩
  have hq:=e2
  unfold QF at hq ⊢
  cases g with
  | none=>exact(zc5 hop hops).1 hq
  | some tw=>
   obtain⟨t,want⟩:=tw
   have ht:ρ t=ρ' t:=hρ t (by
    unfold resGuard at hg
    split at hg
    ·cases hg
    ·rename_i j w0 hgo
     obtain⟨d,hd,he⟩:=map_some hg
     cases he
     unfold Oper.looksAt
     rw[hgo]
     exact List.mem_append_right _ (by simp[hd]))
   simp only at hq ⊢
   rw[ht,zc5 hop hops]at hq
   exact hq
theorem ze8(b:BId):∀(h:Heap) (id:BId),(h.filter fun p=>!(p.1 == b)).lookup id=if id=b then none else h.lookup id
 | [],id=>by split<;>rfl
 | (c,x)::h,id=>by
  have ih:=ze8 b h id
  rw[List.filter_cons]
  by_cases hc:c=b
  ·subst hc
   simp only[beq_self_eq_true,Bool.not_true,Bool.false_eq_true,if_false]
   rw[ih]
   by_cases hi:id=c
   ·rw[if_pos hi,if_pos hi]
   ·rw[if_neg hi,if_neg hi,List.lookup_cons]
    have:(id == c)=false:=by simpa using hi
    rw[this]
  ·have hcb:(c == b)=false:=by simpa using hc
   simp only[hcb,Bool.not_false,if_true]
   rw[List.lookup_cons,List.lookup_cons,ih]
   by_cases hi:id=b
   ·subst hi
    have:(id == c)=false:=by simpa using fun e=>hc e.symm
    rw[this]
   ·rw[if_neg hi,if_neg hi]
theorem zr0{nt n c0:Nat}{aos:List AO}{h0 X:Heap}(hX0:HSub h0 X){MK:List Mk}{Q:Exit→Act→World→Prop}(hnt:nt=cx.nt)(hget':∀(i:Nat) (o:Oper),ops[i]? = some o→∃ao,aos[i]? = some ao∧resOper P nt ops o=some ao)(hc0:cx.clk0≤c0)
  (p1:(∀m∈MK,0≤m.i∧m.i<n∧c0≤m.g0∧m.g0+m.n≤c0+mkN MK∧(∀p∈m.bs,X.lookup p.1=m.ob∧X.lookup p.1=m.ob∧h0.lookup p.1=none)∧(m.bs.map (·.1)).Nodup)) (p2:(∀m∈MK,∀m'∈MK,(m.i=m'.i∨(∃b x y,(b,x)∈m.bs∧(b,y)∈m'.bs)∨(∃g,m.has g∧m'.has g))→m=m'))
  {i:Nat} {o:Oper} {listed:Array Bool} (ho:ops[i]? = some o) (hrd:i∈Region.ready .any ops listed) {ρ:Nat→AV} {x:AV} {a:Act} {w:World} {K':Act→World→Prop}
  (hF:FM P aos n h0 c0 MK i ρ x) (hr:RM cx X c0 MK listed ρ a w) (hK':∀a' w',RM cx X c0 MK (listed.setIfInBounds i true) (upd ρ o.dst x) a' w'→K' a' w'):wpOp P ops Q i K' a w:=by
 have fresh:∀(listed:Array Bool) (m:Mk),m∈MK→listed.getD m.i false=false→∀g,Gok c0 MK listed g→¬ m.has g∧g<c0+mkN MK:=by
  intro listed m hmM hun g hg
  obtain⟨_,_,q3,q4,_,_⟩:=p1 m hmM
  rcases hg with hg | ⟨m',hm',hl,hh⟩
  ·exact⟨fun h=>by have:=h.1;omega,by omega⟩
  ·obtain⟨_,_,_,r4,_,_⟩:=p1 m' hm'
   refine⟨fun he=>?_,by have:=hh.2;omega⟩
   have:=p2 m' hm' m hmM (.inr (.inr ⟨g,hh,he⟩))
   subst this
   rw[hun]at hl
   cases hl
 obtain⟨_,ao,hao,hq⟩:=hF
 obtain⟨ao',h1,h2⟩:=hget' i o ho
 rw[hao]at h1
 cases h1
 have hun:=(mem_ready.1 hrd).1
 have hisz:i<listed.size:=by
  rcases Nat.lt_or_ge i listed.size with h' | h'
  ·exact h'
  ·simp[Array.getElem?_eq_none h']at hun
 obtain⟨h',hrel,r1,r2,r3,r4,r5⟩:=hr
 have hset:∀k,k≠i→(listed.setIfInBounds i true).getD k false=listed.getD k false:=fun k hk=>getD_set_ne false (Ne.symm hk)
 have hseti:(listed.setIfInBounds i true).getD i false=true:=by simp[hisz]
 obtain⟨op,g,hop,hg,hao',hd⟩:=zaw h2
 have hcok:∀q,contG c0 ao.op ρ q→Gok c0 MK listed q:=by
  intro q hq
  rcases hq with hq | ⟨t,_,hq⟩
  ·exact .inl hq
  ·exact r4 t q hq
 rcases hq with ⟨hgn,m,hmM,hmi,hdst,hmx,hkind⟩ | ⟨hmk,hnm,hqf,hcont⟩
 rotate_left
 ·have hsub:HSub h0 h':=fun id bx hb=>r1 id bx (hX0 _ _ hb) fun m hm' _ y hy=>by
   have:=((p1 m hm').2.2.2.2.1 _ hy).2.2
   rw[hb]at this
   cases this
  refine zd7 ho hnt h2 (zxx hsub hqf) hrel fun a' w' hr'=>hK' a' w' ⟨h',hr',fun id bx hb hno=>r1 id bx hb fun m hm' hl=>hno m hm' (by rw[hset m.i (hnm m hm')];exact hl),fun m hm' hl p hp=>r2 m hm' ?_ p hp,fun id bx hb=>?_,fun t q hq'=>?_,fun id bx hb=>⟨(r5 id bx hb).1.mono,fun q hq'=>((r5 id bx hb).2 q hq').mono⟩⟩
  ·rw[hset m.i (hnm m hm')]at hl
   exact hl
  ·rcases r3 id bx hb with h3 | ⟨m,hm',h4,h5⟩
   ·exact .inl h3
   ·exact .inr ⟨m,hm',by rw[hset m.i (hnm m hm')];exact h4,h5⟩
  ·cases hdd:o.dst with
   | none=>rw[hdd]at hq';exact(r4 t q hq').mono
   | some d=>
    rw[hdd]at hq'
    simp only[upd]at hq'
    split at hq'
    ·exact(hcok q (hcont q hq')).mono
    ·exact(r4 t q hq').mono
 subst hmi
 have hunf:listed.getD m.i false=false:=getD_both hun
 obtain⟨q1,q2,q3,q4,q5,q6⟩:=p1 m hmM
 have hfr:=fresh listed m hmM hunf
 have huse:∀id y,(id,y)∈m.bs→∀m'∈MK,listed.getD m'.i false=true→∀z,(id,z)∉m'.bs:=by
  intro id y hy m' hm' hl z hz
  have:=p2 m hmM m' hm' (.inr (.inl ⟨id,y,z,hy,hz⟩))
  subst this
  rw[hunf]at hl
  cases hl
 have hmono:∀m'∈MK,listed.getD m'.i false=true→(listed.setIfInBounds m.i true).getD m'.i false=true:=by
  intro m' hm' hl
  by_cases e:m'.i=m.i
  ·rw[e];exact hseti
  ·rw[hset _ e];exact hl
 have hodst:o.dst=some m.d:=by rw[hao']at hdst;exact hdst
 have hfin:∀a' w',RelR cx (c0+mkN MK) (m.bs++h') (upd ρ o.dst x) a' w'→(∀q∈gnA x,Gok c0 MK (listed.setIfInBounds m.i true) q) →
   (∀p∈m.bs,m.has p.2.gen∧∀q,boxGn p.2 q→Gok c0 MK (listed.setIfInBounds m.i true) q)→K' a' w':=by
  intro a' w' hre hgx hgb
  have hlk:∀id,m.bs.lookup id=none→(m.bs++h').lookup id=h'.lookup id:=by
   intro id hn
   rw[zak,hn]
   rfl
  have hlm:∀p∈m.bs,(m.bs++h').lookup p.1=some p.2:=by
   intro p hp
   rw[zak,zd9 m.bs (id:=p.1) (x:=p.2) hp fun y hy=>ze6 _ q6 hy hp]
   rfl
  have hcas:∀id bx,(m.bs++h').lookup id=some bx→(id,bx)∈m.bs∨h'.lookup id=some bx:=by
   intro id bx hb
   cases hl:m.bs.lookup id with
   | none=>rw[hlk id hl]at hb;exact .inr hb
   | some y=>
    rw[zak,hl]at hb
    have:y=bx:=by simpa using hb
    subst this
    exact .inl (zcm _ _ _ hl)
  refine hK' _ _ ⟨m.bs++h',hre,fun id bx hb hno=>?_,fun m' hm' hl p hp=>?_,fun id bx hb=>?_,fun t q hq=>?_,fun id bx hb=>?_⟩
  ·rw[hlk id (zc2 _ fun y hy=>hno m hmM hseti y hy)]
   exact r1 id bx hb fun m' hm' hl=>hno m' hm' (hmono m' hm' hl)
  ·by_cases hmm:m'=m
   ·subst hmm;exact hlm p hp
   ·have hne:m'.i≠m.i:=fun e=>hmm (p2 m' hm' m hmM (.inl e))
    rw[hset _ hne]at hl
    rw[hlk p.1 (zc2 _ fun y hy=>hmm (p2 m' hm' m hmM (.inr (.inl ⟨p.1,p.2,y,hp,hy⟩))))]
    exact r2 m' hm' hl p hp
  ·rcases hcas id bx hb with hb | hb
   ·exact .inr ⟨m,hmM,hseti,hb⟩
   ·rcases r3 id bx hb with h6 | ⟨m',hm',h7,h8⟩
    ·exact .inl h6
    ·exact .inr ⟨m',hm',hmono m' hm' h7,h8⟩
  ·rw[hodst]at hq
   simp only[upd]at hq
   split at hq
   ·exact hgx q hq
   ·exact(r4 t q hq).mono
  ·rcases hcas id bx hb with hb | hb
   ·obtain⟨h3,h4⟩:=hgb _ hb
    exact⟨.inr ⟨m,hmM,hseti,h3⟩,h4⟩
   ·exact⟨(r5 id bx hb).1.mono,fun q hq=>((r5 id bx hb).2 q hq).mono⟩
 rcases hkind with ⟨hmk,b0,bx,hbs,hg0,hn1,hst,hbc⟩ | ⟨hmk,hob,f,args,hopc,hnr,hac,hnd,hgx,hgb⟩
 ·obtain⟨f,z,kd,els,hf,hbx,hx,hall⟩:=zij hmk hst
  have hhas:∀q,q=bx.gen→m.has q:=by
   intro q hq
   subst hq
   refine⟨by omega,by omega⟩
  obtain⟨S,M,hrf⟩:=hrel
  subst hnt
  have hmem:(b0,bx)∈m.bs:=by rw[hbs];simp
  have hsubO:HSub (obH b0 m.ob) h':=by
   intro id y hy
   cases hob:m.ob with
   | none=>rw[hob]at hy;cases hy
   | some ob=>
    rw[hob]at hy
    simp only[obH,List.lookup_cons]at hy
    split at hy
    ·rename_i he
     cases hy
     have:id=b0:=eq_of_beq he
     subst this
     exact r1 id _ (by rw[(q5 _ hmem).1,hob]) fun m' hm' hl z=>huse _ _ hmem m' hm' hl z
    ·cases hy
  have hst2:=hall h' (c0+mkN MK) hsubO
  subst hao'
  simp only at hst2 hgn hdst hmk hbc
  subst hgn
  rw[←hdst]at hst2
  obtain⟨v,w',S',M',h3,h4,h5⟩:=zdh hop hrf hst2
  have hput0:=h4.put hd h5
  rw[hdst]at hput0
  have hcg:∀(y:Box) (id:BId),((b0,y)::h'.filter fun p=>!(p.1 == b0)).lookup id=((b0,y)::h').lookup id:=by
   intro y id
   rw[List.lookup_cons,List.lookup_cons,ze8]
   by_cases hi:id=b0
   ·subst hi;simp
   ·rw[if_neg hi]
  have hput:=hput0.heap_congr (hcg _)
  have hnone':(h'.filter fun p=>!(p.1 == b0)).lookup b0=none:=by rw[ze8,if_pos rfl]
  have hdr:∀id y,(h'.filter fun p=>!(p.1 == b0)).lookup id=some y→h'.lookup id=some y:=by
   intro id y hy
   rw[ze8]at hy
   split at hy
   ·cases hy
   ·exact hy
  have hgen:bx.gen<c0+mkN MK:=by omega
  have hfr':∀q,Gok c0 MK listed q→q≠bx.gen∧q<c0+mkN MK:=fun q hq=>⟨fun e=>(hfr q hq).1 (hhas q e),(hfr q hq).2⟩
  have hbx':∀q,boxGn ⟨c0+mkN MK,kd,z,els⟩ q→boxGn bx q:=by
   intro q hq
   rw[hbx]
   exact hq
  have hre:=RelF.regen (g:=bx.gen) hf hput hgen (by omega) hnone' (fun t q hq=>hfr' q (r4 t q hq)) (fun id bx hb=>⟨(hfr' _ (r5 id bx (hdr id bx hb)).1).1,(hfr' _ (r5 id bx (hdr id bx hb)).1).2,fun q hq=>hfr' q ((r5 id bx (hdr id bx hb)).2 q hq)⟩) (fun q hq=>hfr' q (hcok q (hbc q (hbx' q hq))))
  have e1:(⟨bx.gen,kd,z,els⟩:Box)=bx:=by rw[hbx]
  rw[e1,←hx]at hre
  have hfin2:K' (a.put o.dst v) w':=by
   refine hfin _ _ ?_ (fun q hq=>?_) fun p hp=>?_
   ·rw[hdst,hbs]
    exact⟨_,_,hre.heap_congr fun id=>(hcg bx id).symm⟩
   ·have:q=bx.gen:=by
     rw[hx]at hq
     cases hf with
     | ptr=>simpa[gnA]using hq
     | bs=>simpa[gnA]using hq
    exact .inr ⟨m,hmM,hseti,hhas q this⟩
   ·rw[hbs]at hp
    have:p=(b0,bx):=by simpa using hp
    subst this
    exact⟨hhas _ rfl,fun q hq=>(hcok q (hbc q hq)).mono⟩
  unfold wpOp
  simp only[ho,zci hg a,if_true]
  refine .inl ?_
  rcases h3 with h3 | ⟨h3,rfl⟩
  ·exact zdg h3 hfin2
  ·unfold Oper.wp
   rw[h3,Oper.upon_skip]
   exact hfin2
 ·have hnone:∀p∈m.bs,h'.lookup p.1=none:=by
   intro p hp
   cases hl:h'.lookup p.1 with
   | none=>rfl
   | some bx=>
    rcases r3 _ bx hl with h6 | ⟨m',hm',h7,h8⟩
    ·rw[(q5 p hp).1,hob]at h6;cases h6
    ·exact(huse p.1 p.2 hp m' hm' h7 bx h8).elim
  obtain⟨S,M,hrf⟩:=hrel
  subst hnt
  subst hao'
  simp only at hgn hopc hdst
  subst hgn hopc
  have hwant:=zci hg a
  obtain⟨dst,oop,type,pos,after,guard⟩:=o
  simp only at hop hd hodst hfin
  obtain⟨cargs,ats,hcall,hl⟩:=zd5 hop
  subst hcall
  obtain⟨h1,h2⟩:=zrg hrf.env hl hnr
  have hc:=hac.2 w S (fun _=>none) (cargs.map a.eval) (by simpa using h1) (fun j v c hv hc=>.p (h2 j v c (by simpa using hv) hc)) ⟨fun b bx h=>(by simp at h),fun g m h=>(by cases h),fun b bx b' bx' h=>(by simp at h),fun g g' k h=>(by cases h)⟩ hrf.wr.Slt (fun _ _ h=>by cases h)
  unfold wpOp
  simp only[ho,hwant,if_true]
  refine .inl ?_
  unfold Oper.wp
  have hrun:(execOp a.eval { dst:=dst,op:=.call { callee:=.value (.func f),args:=cargs,argTypes:=ats },type:=type,pos:=pos,after:=after,guard:=guard }).run P w=.ok (.enter f (cargs.map a.eval)) w:=by
   simp only[execOp,resolve,Act.eval,Deferred.ofValue,Sem.run_bind,Sem.run_pure,Result.andThen_ok,invoke]
   have:=hac.1 (cargs.map a.eval) w
   simpa using this
  rw[hrun,Oper.upon_enter]
  refine hc.mono fun e w' ⟨v,r,hB,S',M',clk',he,⟨hr1,hr2,hr3⟩,hC,hw⟩=>?_
  subst he hr1 hr2 hr3
  obtain⟨M2,hre,hCx⟩:=hrf.mk2 (hw 0) hC (by omega) (by omega) hnone (fun t q hq=>(hfr q (r4 t q hq)).1) (fun id bx hb=>⟨(hfr _ (r5 id bx hb).1).1,fun q hq=>(hfr q ((r5 id bx hb).2 q hq)).1⟩) hgx hgb
  have hin:∀q,q∈gnA r→m.has q:=fun q hq=>⟨hgx q hq,hC.gn q hq⟩
  refine hfin _ _ ⟨_,M2,hre.put hd hCx⟩ (fun q hq=>.inr ⟨m,hmM,hseti,hin q hq⟩) fun p hp=>?_
  have hlp:m.bs.lookup p.1=some p.2:=zd9 m.bs (id:=p.1) (x:=p.2) hp fun y hy=>ze6 _ q6 hy hp
  have hbk:=(hw 0).heap.box _ _ hlp
  obtain⟨b1,_,mm,hmm,_⟩:=hbk
  refine⟨⟨?_,b1⟩,fun q hq=>.inr ⟨m,hmM,hseti,hgb p hp q hq,((hw 0).heap.box _ _ hlp).gn.2 q hq⟩⟩
  rcases Nat.lt_or_ge p.2.gen m.g0 with hlt | hge
  ·have:=(hw 0).ext.hM _ _ hlt hmm
   cases this
  ·exact hge
theorem zr1{n c0:Nat}{h0 X:Heap}{MK:List Mk}(p1:(∀m∈MK,0≤m.i∧m.i<n∧c0≤m.g0∧m.g0+m.n≤c0+mkN MK∧(∀p∈m.bs,X.lookup p.1=m.ob∧X.lookup p.1=m.ob∧h0.lookup p.1=none)∧(m.bs.map (·.1)).Nodup))(p2:(∀m∈MK,∀m'∈MK,(m.i=m'.i∨(∃b x y,(b,x)∈m.bs∧(b,y)∈m'.bs)∨(∃g,m.has g∧m'.has g))→m=m'))
  {listed:Array Bool} {ρ:Nat→AV} {a:Act} {w:World} (hfull:∀m∈MK,listed.getD m.i false=true) (hr:RM cx X c0 MK listed ρ a w):RelR cx (c0+mkN MK) (mkH MK++X) ρ a w:=by
 obtain⟨h',⟨S,M,hrf⟩,r1,r2,r3,r4,r5⟩:=hr
 have hheap:∀id,(mkH MK++X).lookup id=h'.lookup id:=by
  intro id
  rw[zak]
  by_cases hex:∃m∈MK,∃x,(id,x)∈m.bs
  ·obtain⟨m,hmM,x,hx⟩:=hex
   rw[r2 m hmM (hfull m hmM) (id,x) hx,zd9 (mkH MK) (x:=x) (zmv.2 ⟨m,hmM,hx⟩) fun y hy=>?_]
   ·rfl
   ·obtain⟨m',hm',h6⟩:=zmv.1 hy
    have:=p2 m hmM m' hm' (.inr (.inl ⟨id,x,y,hx,h6⟩))
    subst this
    exact ze6 _ (p1 m hmM).2.2.2.2.2 h6 hx
  ·rw[zc2 (mkH MK) fun y hy=>hex (by
    obtain⟨m,hmM,h6⟩:=zmv.1 hy
    exact⟨m,hmM,y,h6⟩),Option.none_or]
   cases hl:h'.lookup id with
   | none=>
    cases hl2:X.lookup id with
    | none=>rfl
    | some bx=>rw[r1 id bx hl2 fun m hmM _ y hy=>hex ⟨m,hmM,y,hy⟩]at hl;cases hl
   | some bx=>
    rcases r3 id bx hl with h6 | ⟨m,hmM,_,h6⟩
    ·exact h6
    ·exact absurd ⟨m,hmM,bx,h6⟩ hex
 exact⟨S,M,hrf.heap_congr hheap⟩
theorem znz{st:St}{MK:List Mk}{sz:Nat}(hr:Rel cx st a w):RM cx st.heap st.clk MK (Array.replicate sz false) st.env.get a { w with drawn:=w.drawn+1 }:=by
 obtain⟨S,M,hrf⟩:=hr
 refine⟨st.heap,RelR.drawn ⟨S,M,hrf.more (Nat.le_add_right _ _)⟩,fun _ _ h _=>h,fun m _ hl=>?_,fun id bx hb=>.inl hb,fun t g hg=>.inl ((hrf.env t).gn g hg),fun id bx hb=>?_⟩
 ·rw[getD_replicate_false]at hl;cases hl
 ·obtain⟨h1,h2⟩:=(hrf.wr.heap.box id bx hb).gn
  exact⟨.inl h1,fun g hg=>.inl (h2 g hg)⟩
theorem zkn{nt id n:Nat}{aos:List AO}{h0:Heap}{st:St}(hX0:HSub h0 st.heap){K:St→Prop}{Q:Exit→Act→World→Prop}(hnt:nt=cx.nt)(hm:P.follows .mixedOrders=true)
  (hw:∀ao∈aos.take n,ao.op.writes=true→ao.op.maker=true) (hT:Region.lexTailB .any ops n=true)
  (hres:resOpers P nt ops ops.toList=some aos) (hk:drawML P (aos.drop n) h0 st.clk st.heap (aos.take n) st.env st.heap st.clk K) (hr:Rel cx st a w) (hQ:∀st' a' w',K st'→Rel cx st' a' w'→Q .normal a' w'):(Code.region id ops true).wp P Q a w:=by
 simp only[Region.lexTailB,Bool.and_eq_true,decide_eq_true_eq]at hT
 obtain⟨⟨⟨⟨_,hn⟩,hs⟩,hc⟩,hlex⟩:=hT
 have hget':∀i o,ops[i]? = some o→∃ao,aos[i]? = some ao∧resOper P nt ops o=some ao:=fun i o ho=>zb7 ops.toList aos hres i o (by simpa using ho)
 have hlen:=zb8 ops.toList aos hres
 have hlen':aos.length=ops.size:=by rw[←hlen];simp
 have htl:(ops.toList.take n).length=n:=by simp;omega
 have hdl:(ops.toList.drop n).length=ops.size-n:=by simp
 have inv0:HeadInv .any ops n (Array.replicate ops.size false):=
  ⟨by simp,fun j oj _ hl=>(by rw[getD_replicate_false]at hl;cases hl),fun t _ ht=>getD_in (by simpa using ht) (getD_replicate_false _ _)⟩
 obtain⟨MK,p1,p2,_,p3⟩:=znx (P:=P) (ops:=ops) (aos:=aos) (n:=n) (h0:=h0) (X:=st.heap) (c0:=st.clk) hX0 (Fin:=fun e h clk=>runK P (aos.drop n) ⟨e,h,clk⟩ K) hw (fun i o ho=>by
  obtain⟨ao,h1,h2⟩:=hget' i o ho
  obtain⟨op,g,_,_,rfl,_⟩:=zaw h2
  exact⟨_,h1,rfl⟩) (ops.toList.take n) 0 (aos.take n) st.env st.heap st.clk (fun j hj=>by
   rw[htl]at hj
   rw[List.getElem?_take,if_pos hj]
   simp) (fun j hj=>by
   have hj':j<n:=by simp at hj;omega
   rw[List.getElem?_take,if_pos hj',Nat.zero_add]) (by rw[htl];simp;omega) (by rw[htl];omega) (fun _ h=>h) hk
 have hlx:=p3 MK (fun m hm=>hm) fun m hm _=>hm
 have hc0:cx.clk0≤st.clk:=by
  obtain⟨S,M,hrf⟩:=hr
  exact hrf.wr.ext.hclk
 have H:=zft (md:=.any) (g:=ops.size-n) (zny hget') hs hc hn (ops.toList.take n) 0 _ st.env.get (fun j hj=>by
  rw[htl]at hj
  rw[List.getElem?_take,if_pos hj]
  simp) (by rw[htl];omega) inv0 (fun i hi=>by omega) (by rw[htl];exact hlex) hlx
 refine wp_region_any hm ?_
 have:=zcn (P:=P) (md:=.any) (Q':=Q) (g:=ops.size-n) (F:=FM P aos n h0 st.clk MK) (R:=RM cx st.heap st.clk MK) (fun i o listed hin ho hrd ρ x a w K' hF hr hK'=>zr0 hX0 hnt hget' hc0 p1 p2 ho hrd hF hr hK') (fun listed ρ a' w' hL hr'=>by
  obtain⟨hseq,hfull,e,rfl,hrun⟩:=hL
  have hrf:=zr1 p1 p2 (fun m hm=>hfull _ (p1 m hm).2.1) hr'
  have hwl:wpList P ops Q (ops.toList.drop n) a' w':=zc1 hnt _ _ ⟨e,mkH MK++st.heap,st.clk+mkN MK⟩ K a' w' (zcf n _ _ hres) hrun hrf hQ
  have:=wpAny_of_seq (md:=.any) (Q':=Q) (ops.toList.drop n) n listed a' w' (fun j=>by simp[List.getElem?_drop]) (by rw[hdl];exact hseq) hwl
  rwa [hdl]at this) _ _ _ a { w with drawn:=w.drawn+1 } (znz hr) H
 rw[htl,show n+(ops.size-n)=ops.size by omega]at this
 exact this
theorem zn0{F:Nat→(Nat→AV)→AV→Prop}{Q:(Nat→AV)→Prop}:∀(l:List Oper) (k:Nat) (ρ:Nat→AV),lexE ops F Q l k ρ→∃ρ',Q ρ'∧lexE ops F (fun r=>r=ρ') l k ρ
 | [],_,ρ,h=>⟨ρ,h,rfl⟩
 | o::l,k,ρ,⟨x,hx,h⟩=>by
  obtain⟨ρ',h1,h2⟩:=zn0 l (k+1) _ h
  exact⟨ρ',h1,x,hx,h2⟩
theorem zko{F F':Nat→(Nat→AV)→AV→Prop}{Q Q':(Nat→AV)→Prop}{o:Oper}(hF:∀i ρ x,F i ρ x→F' i ρ x):∀(l:List Oper) (k:Nat) (ρ:Nat→AV),(∀ρ,Q ρ→∃x,F' (k+l.length) ρ x∧Q' (upd ρ o.dst x))→lexE ops F Q l k ρ→lexE ops F' Q' (l++[o]) k ρ
 | [],k,ρ,hQ,h=>hQ ρ h
 | y::l,k,ρ,hQ,⟨x,hx,h⟩=>⟨x,hF _ _ _ hx,zko hF l (k+1) _ (fun ρ hq=>by have:=hQ ρ hq;rwa [List.length_cons,show k+(l.length+1)=k+1+l.length by omega]at this) h⟩
def FL(P:Program)(aos:List AO)(n:Nat)(h0 X:Heap)(c0:Nat)(MK:List Mk)(ao:AO)(H2:Heap)(i:Nat)(ρ:Nat→AV)(x:AV):Prop:=
 (i≠n∧FM P aos n h0 c0 MK i ρ x)∨(i=n∧x=.tup []∧stepW ao.op none ρ (mkH MK++X) (c0+mkN MK)=some (.tup [],H2,c0+mkN MK))
def RL(cx:Cx)(ops:Array Oper)(n:Nat)(X:Heap)(c0:Nat)(MK:List Mk)(H2:Heap)(listed:Array Bool)(ρ:Nat→AV)(a:Act)(w:World):Prop:=
 (listed.getD n false=false∧RM cx X c0 MK listed ρ a w) ∨
 (listed.getD n false=true∧(∀i,Region.waitsFor .any ops n i=true→listed.getD i false=true)∧RelR cx (c0+mkN MK) H2 ρ a w)
theorem zkp{nt id n:Nat}{aos:List AO}{h0:Heap}{st:St}(hX0:HSub h0 st.heap){K:St→Prop}{Q:Exit→Act→World→Prop}(hnt:nt=cx.nt)(hm:P.follows .mixedOrders=true)
  (hw:∀ao∈aos.take n,ao.op.writes=true→ao.op.maker=true) (hB:lateB ops aos n=true)
  (hres:resOpers P nt ops ops.toList=some aos) (hk:drawML P (aos.drop (n+1)) h0 st.clk st.heap (aos.take (n+1)) st.env st.heap st.clk K) (hr:Rel cx st a w) (hQ:∀st' a' w',K st'→Rel cx st' a' w'→Q .normal a' w'):(Code.region id ops true).wp P Q a w:=by
 simp only[lateB,Bool.and_eq_true]at hB
 obtain⟨⟨hT,hS⟩,hlate⟩:=hB
 simp only[Region.lexTailB,Bool.and_eq_true,decide_eq_true_eq]at hT
 obtain⟨⟨⟨⟨_,hn⟩,hs⟩,hc⟩,hlex⟩:=hT
 have hget':∀(i:Nat) (o:Oper),ops[i]? = some o→∃ao,aos[i]? = some ao∧resOper P nt ops o=some ao:=fun i o ho=>zb7 ops.toList aos hres i o (by simpa using ho)
 have hlen:=zb8 ops.toList aos hres
 have hlen':aos.length=ops.size:=by rw[←hlen];simp
 have htl:(ops.toList.take n).length=n:=by simp;omega
 have htl1:(ops.toList.take (n+1)).length=n+1:=by simp;omega
 have hdl:(ops.toList.drop (n+1)).length=ops.size-(n+1):=by simp
 split at hS
 rotate_left
 ·cases hS
 rename_i ao hao
 simp only[Bool.and_eq_true,Option.isNone_iff_eq_none]at hS
 obtain⟨⟨hg,hd⟩,hst⟩:=hS
 have inv0:HeadInv .any ops (n+1) (Array.replicate ops.size false):=
  ⟨by simp,fun j oj _ hl=>(by rw[getD_replicate_false]at hl;cases hl),fun t _ ht=>getD_in (by simpa using ht) (getD_replicate_false _ _)⟩
 have htka:aos.take (n+1)=aos.take n++[ao]:=by
  rw[List.take_add_one,hao]
  rfl
 unfold drawML at hk
 rw[htka,ze7]at hk
 obtain⟨MK,p1,p2,p4,p3⟩:=znx (P:=P) (ops:=ops) (aos:=aos) (n:=n) (h0:=h0) (X:=st.heap) (c0:=st.clk) hX0 (Fin:=fun e h clk=>drawMG P h0 st.clk st.heap (fun e h clk=>runK P (aos.drop (n+1)) ⟨e,h,clk⟩ K) [ao] e h clk) hw (fun i o ho=>by
  obtain⟨ao,h1,h2⟩:=hget' i o ho
  obtain⟨op,g,_,_,rfl,_⟩:=zaw h2
  exact⟨_,h1,rfl⟩) (ops.toList.take n) 0 (aos.take n) st.env st.heap st.clk (fun j hj=>by
   rw[htl]at hj
   rw[List.getElem?_take,if_pos hj]
   simp) (fun j hj=>by
   have hj':j<n:=by simp at hj;omega
   rw[List.getElem?_take,if_pos hj',Nat.zero_add]) (by rw[htl];simp;omega) (by rw[htl];omega) (fun _ h=>h) hk
 have hlx:=p3 MK (fun m hm=>hm) fun m hm _=>hm
 have hc0:cx.clk0≤st.clk:=by
  obtain⟨S,M,hrf⟩:=hr
  exact hrf.wr.ext.hclk
 obtain⟨ρe,⟨e,rfl,hrun⟩,hlx1⟩:=zn0 _ _ _ hlx
 have hn':n<ops.size:=by omega
 have hos:ops[n]? = some (ops[n]'hn'):=Array.getElem?_eq_getElem hn'
 generalize ops[n]'hn'=os at hos
 obtain⟨ao',f1,f2⟩:=hget' n os hos
 rw[hao]at f1
 cases f1
 obtain⟨op,g,hop,hgs,hao',hdst⟩:=zaw f2
 subst hao'
 simp only at hg hd hst
 subst hg
 have hnm:op.maker=false:=by
  cases op<;>first | rfl | cases hst
 simp only[drawMG,hnm,hst]at hrun
 obtain⟨_,_,H2,hst2,hsub,hrun2⟩:=hrun
 have htk:ops.toList.take (n+1)=ops.toList.take n++[os]:=by
  rw[List.take_add_one]
  have:ops.toList[n]? = some os:=by simpa using hos
  rw[this]
  rfl
 have hlx2:lexE ops (FL P aos n h0 st.heap st.clk MK ⟨os.dst,none,op⟩ H2) (fun ρ=>∃e,ρ=Env.get e∧runK P (aos.drop (n+1)) ⟨e,H2,st.clk+mkN MK⟩ K) (ops.toList.take (n+1)) 0 st.env.get:=by
  rw[htk]
  refine zko (fun i ρ x h=>.inl ⟨by have:=h.1;omega,h⟩) _ _ _ (fun ρ hρ=>?_) hlx1
  subst hρ
  refine⟨.tup [],.inr ⟨by rw[htl];omega,rfl,hst2⟩,?_⟩
  rw[hd]
  exact⟨e,rfl,hrun2⟩
 have hloc:Local ops (FL P aos n h0 st.heap st.clk MK ⟨os.dst,none,op⟩ H2):=by
  intro i o ho ρ ρ' hρ x hx
  rcases hx with ⟨h1,h2⟩ | ⟨rfl,h2,h3⟩
  ·exact .inl ⟨h1,zny hget' i o ho ρ ρ' hρ x h2⟩
  ·refine .inr ⟨rfl,h2,?_⟩
   rw[hos]at ho
   cases ho
   rw[←zet hop fun t ht=>hρ t (by
    unfold Oper.looksAt
    exact List.mem_append_left _ (List.mem_filterMap.2 ⟨.tmp t,ht,rfl⟩))]
   exact h3
 have H:=zft (md:=.any) (g:=ops.size-(n+1)) hloc hs hc hn (ops.toList.take (n+1)) 0 _ st.env.get (fun j hj=>by
  rw[htl1]at hj
  rw[List.getElem?_take,if_pos hj]
  simp) (by rw[htl1];omega) inv0 (fun i hi=>by omega) (by rw[htl1];exact hlex) hlx2
 refine wp_region_any hm ?_
 have hwait:∀listed:Array Bool,n∈Region.ready .any ops listed→∀i,Region.waitsFor .any ops n i=true→listed.getD i false=true:=by
  intro listed hrd i hi
  obtain⟨_,o,ho,hall⟩:=mem_ready.1 hrd
  obtain⟨oj,hj,ed,hed,hb,he⟩:=Region.waitsFor_spec hi
  rw[ho]at hj
  cases hj
  rw[←he]
  exact hall ed hed hb
 have hnoisy:∀m∈MK,Region.waitsFor .any ops n m.i=true:=by
  intro m hmM
  obtain⟨am,g1,g2⟩:=p4 m hmM
  have:=List.all_eq_true.1 hlate m.i (List.mem_range.2 (p1 m hmM).2.1)
  simp only[Bool.or_eq_true]at this
  rcases this with h | h
  ·exact h
  ·rw[g1]at h
   simp only[Bool.not_eq_true']at h
   rw[g2]at h
   cases h
 have setne:∀(listed:Array Bool) (i j:Nat),j≠i→(listed.setIfInBounds i true).getD j false=listed.getD j false:=fun listed i j hj=>getD_set_ne false (Ne.symm hj)
 have setmono:∀(listed:Array Bool) (i j:Nat),listed.getD j false=true→(listed.setIfInBounds i true).getD j false=true:=by
  intro listed i j hj
  by_cases he:j=i
  ·subst he
   have:j<listed.size:=by
    rcases Nat.lt_or_ge j listed.size with h' | h'
    ·exact h'
    ·simp[Array.getElem?_eq_none h']at hj
   simp[this]
  ·rw[setne _ _ _ he];exact hj
 have:=zcn (P:=P) (md:=.any) (Q':=Q) (g:=ops.size-(n+1)) (F:=FL P aos n h0 st.heap st.clk MK ⟨os.dst,none,op⟩ H2) (R:=RL cx ops n st.heap st.clk MK H2) (fun i o listed hin ho hrd ρ x a w K' hF hr hK'=>by
  have hun:=(mem_ready.1 hrd).1
  rcases hF with ⟨hne,hF⟩ | ⟨rfl,rfl,h3⟩
  ·rcases hr with ⟨hl,hr⟩ | ⟨hl,hcl,hr⟩
   ·exact zr0 hX0 hnt hget' hc0 p1 p2 ho hrd hF hr fun a' w' h=>hK' a' w' (.inl ⟨by rw[setne _ _ _ (Ne.symm hne)];exact hl,h⟩)
   ·obtain⟨hi,ao2,g1,g2⟩:=hF
    have hfree:ao2.op.noisy=false:=by
     have:=List.all_eq_true.1 hlate i (List.mem_range.2 hi)
     simp only[Bool.or_eq_true]at this
     rcases this with h | h
     ·have:=hcl i h
      rw[getD_both hun]at this
      cases this
     ·rw[g1]at h
      simpa only[Bool.not_eq_true']using h
    rcases g2 with ⟨_,m,hmM,hmi,_⟩ | ⟨_,_,hqf,_⟩
    ·have:=hcl _ (hnoisy m hmM)
     rw[hmi,getD_both hun]at this
     cases this
    ·obtain⟨ao3,k1,k2⟩:=hget' i o ho
     rw[g1]at k1
     cases k1
     exact zd7 ho hnt k2 (zxx hsub hqf) hr fun a' w' hr'=>hK' a' w' (.inr ⟨by rw[setne _ _ _ (Ne.symm hne)];exact hl,fun j hj=>setmono _ _ _ (hcl j hj),hr'⟩)
  ·rw[hos]at ho
   cases ho
   rcases hr with ⟨hl,hr⟩ | ⟨hl,_⟩
   rotate_left
   ·rw[getD_both hun]at hl
    cases hl
   have hwt:=hwait listed hrd
   obtain⟨S,M,hrf⟩:=zr1 p1 p2 (fun m hmM=>hwt _ (hnoisy m hmM)) hr
   subst hnt
   simp only at h3 hd
   rw[←hd]at h3
   obtain⟨v,w',S',M',e3,e4,e5⟩:=zdh hop hrf h3
   have hput:=e4.put hdst e5
   have hisz:i<listed.size:=by
    rcases Nat.lt_or_ge i listed.size with h' | h'
    ·exact h'
    ·simp[Array.getElem?_eq_none h']at hun
   have hfin:K' (a.put os.dst v) w':=hK' _ _ (.inr ⟨by simp[hisz],fun j hj=>setmono _ _ _ (hwt j hj),_,_,hput⟩)
   unfold wpOp
   simp only[hos,zci hgs a,if_true]
   refine .inl ?_
   rcases e3 with e3 | ⟨e3,rfl⟩
   ·exact zdg e3 hfin
   ·unfold Oper.wp
    rw[e3,Oper.upon_skip]
    exact hfin) (fun listed ρ a' w' hL hr'=>by
  obtain⟨hseq,hfull,e,rfl,hrun⟩:=hL
  have hrf:RelR cx (st.clk+mkN MK) H2 e.get a' w':=by
   rcases hr' with ⟨hl,_⟩ | ⟨_,_,h⟩
   ·rw[hfull n (by omega)]at hl
    cases hl
   ·exact h
  have hwl:wpList P ops Q (ops.toList.drop (n+1)) a' w':=zc1 hnt _ _ ⟨e,H2,st.clk+mkN MK⟩ K a' w' (zcf (n+1) _ _ hres) hrun hrf hQ
  have:=wpAny_of_seq (md:=.any) (Q':=Q) (ops.toList.drop (n+1)) (n+1) listed a' w' (fun j=>by simp[List.getElem?_drop]) (by rw[hdl];exact hseq) hwl
  rwa [hdl]at this) _ _ _ a { w with drawn:=w.drawn+1 } (.inl ⟨getD_replicate_false _ _,znz hr⟩) H
 rw[htl1,show n+1+(ops.size-(n+1))=ops.size by omega]at this
 exact this
theorem zmw{nt id n:Nat}{aos:List AO}{h0:Heap}{st:St}(hX0:HSub h0 st.heap){K:St→Prop}{Q:Exit→Act→World→Prop}(hnt:nt=cx.nt)(hm:P.follows .mixedOrders=true)(hB:tailM ops aos=some n∨∃k,tailS ops aos=some k∧n=k+1)
  (hres:resOpers P nt ops ops.toList=some aos) (hk:drawML P (aos.drop n) h0 st.clk st.heap (aos.take n) st.env st.heap st.clk K) (hr:Rel cx st a w) (hQ:∀st' a' w',K st'→Rel cx st' a' w'→Q .normal a' w'):(Code.region id ops true).wp P Q a w:=by
 have key:∀k,((aos.take k).all fun a=>!a.op.writes || (a.op.maker&&a.guard.isNone&&a.dst.isSome))=true→∀ao∈aos.take k,ao.op.writes=true→ao.op.maker=true:=by
  intro k hall ao hao hw
  have:=List.all_eq_true.1 hall ao hao
  simp only[Bool.or_eq_true,Bool.not_eq_true',Bool.and_eq_true]at this
  rcases this with h1 | h1
  ·rw[hw]at h1;cases h1
  ·exact h1.1.1
 rcases hB with hB | ⟨k,hB,rfl⟩
 ·have:=List.find?_some hB
  simp only[Bool.and_eq_true]at this
  exact zkn hX0 hnt hm (key n this.1) this.2 hres hk hr hQ
 ·have:=List.find?_some hB
  simp only[Bool.and_eq_true]at this
  exact zkp hX0 hnt hm (key k this.1) this.2 hres hk hr hQ
end
end
section
open Go.RowKit
def AWp(cx:Cx)(c:AC)(Q:Exit→St→Prop)(st:St):Prop:=
 ∀code,resCode cx.P cx.nt code=some c→cx.P.follows .mixedOrders=true→∀a w,Rel cx st a w→code.wp cx.P (fun ex a' w'=>∃st',Q ex st'∧Rel cx st' a' w') a w
section
variable{cx:Cx}{Q:Exit→St→Prop}{st:St}
theorem AWp.mono{c:AC}{Q':Exit→St→Prop}(h:AWp cx c Q st)(hq:∀ex st,Q ex st→Q' ex st):AWp cx c Q' st:=
 fun code hc hm a w hr=>wp_mono (h code hc hm a w hr) fun _ _ _ ⟨st',h1,h2⟩=>⟨st',hq _ _ h1,h2⟩
theorem zvi(h:Q .normal st):AWp cx .skip Q st:=by
 intro code hc hm a w hr
 have hcode:=hc
 cases code<;>simp only[resCode]at hc<;>try cases hc
 case skip=>exact wp_skip ⟨st,h,hr⟩
 case label l=>exact wp_label ⟨st,h,hr⟩
 case region id ops draw=>
  rcases zao hcode with ⟨_,l,_,h1⟩ | ⟨_,l,_,⟨n,_,h1⟩ | ⟨_,h1⟩ | ⟨n,_,h1⟩ | h1⟩<;>cases h1
 all_goals simp[Option.bind_eq_some_iff]at hc
theorem zyt{l:List AO}(h:runK cx.P l st (Q .normal)):AWp cx (.reg l) Q st:=by
 intro code hc hm a w hr
 have hcode:=hc
 cases code<;>simp only[resCode]at hc<;>try cases hc
 case region id ops draw=>
  rcases zao hcode with ⟨hd,l',hl,h1⟩ | ⟨_,l',_,⟨n,_,h1⟩ | ⟨_,h1⟩ | ⟨n,_,h1⟩ | h1⟩<;>cases h1
  subst hd
  exact wp_region_list (zc1 rfl ops.toList l st (Q .normal) a w hl h hr fun st' a' w' h1 h2=>⟨st',h1,h2⟩)
 all_goals simp[Option.bind_eq_some_iff]at hc
theorem zvj{l:List DO}(h:drawK cx.P l st (Q .normal)):AWp cx (.draw l) Q st:=by
 intro code hc hm a w hr
 have hcode:=hc
 cases code<;>simp only[resCode]at hc<;>try cases hc
 case region id ops draw=>
  rcases zao hcode with ⟨_,l',_,h1⟩ | ⟨hd,l',hl,⟨n,_,h1⟩ | ⟨hB,h1⟩ | ⟨n,_,h1⟩ | h1⟩<;>cases h1
  subst hd
  exact zmr rfl hm hB hl h hr fun st' a' w' h1 h2=>⟨st',h1,h2⟩
 all_goals simp[Option.bind_eq_some_iff]at hc
theorem zr2{hd tl:List AO}(h:drawTL cx.P tl hd st.env st.heap st.clk (Q .normal)):AWp cx (.drawT hd tl) Q st:=by
 intro code hc hm a w hr
 have hcode:=hc
 cases code<;>simp only[resCode]at hc<;>try cases hc
 case region id ops draw=>
  rcases zao hcode with ⟨_,l',_,h1⟩ | ⟨hd,l',hl,⟨n,hB,h1⟩ | ⟨_,h1⟩ | ⟨n,_,h1⟩ | h1⟩<;>cases h1
  subst hd
  exact zmt rfl hm hB hl h hr fun st' a' w' h1 h2=>⟨st',h1,h2⟩
 all_goals simp[Option.bind_eq_some_iff]at hc
theorem zr3{hd tl:List AO}{h0:Heap}(hX0:HSub h0 st.heap)(h:drawML cx.P tl h0 st.clk st.heap hd st.env st.heap st.clk (Q .normal)):AWp cx (.drawM hd tl) Q st:=by
 intro code hc hm a w hr
 have hcode:=hc
 cases code<;>simp only[resCode]at hc<;>try cases hc
 case region id ops draw=>
  rcases zao hcode with ⟨_,l',_,h1⟩ | ⟨hd,l',hl,⟨n,_,h1⟩ | ⟨_,h1⟩ | ⟨n,hB,h1⟩ | h1⟩<;>cases h1
  subst hd
  exact zmw hX0 rfl hm hB hl h hr fun st' a' w' h1 h2=>⟨st',h1,h2⟩
 all_goals simp[Option.bind_eq_some_iff]at hc
def thenK(N:St→Prop)(Q:Exit→St→Prop):Exit→St→Prop
 | .normal,st=>N st
 | ex,st=>Q ex st
theorem zyu{x y:AC}(h:AWp cx x (thenK (AWp cx y Q) Q) st):AWp cx (.seq x y) Q st:=by
 intro code hc hm a w hr
 have hcode:=hc
 cases code<;>simp only[resCode]at hc<;>try cases hc
 case seq c1 c2=>
  obtain⟨x',hx,hc1⟩:=bind_some hc
  obtain⟨y',hy,he⟩:=map_some hc1
  cases he
  refine wp_seq (wp_mono (h c1 hx hm a w hr) fun ex a' w' ⟨st',h1,h2⟩=>?_)
  cases ex with
  | normal=>exact h1 c2 hy hm a' w' h2
  | _=>exact⟨st',h1,h2⟩
 case region id ops draw=>
  rcases zao hcode with ⟨_,l,_,h1⟩ | ⟨_,l,_,⟨n,_,h1⟩ | ⟨_,h1⟩ | ⟨n,_,h1⟩ | h1⟩<;>cases h1
 all_goals simp[Option.bind_eq_some_iff]at hc
theorem zvk{c:Opd}{x y:AC}{t:Bool}(hc0:ev st.env.get c=.b t)(ht:t=true→AWp cx x Q st)(hf:t=false→AWp cx y Q st):AWp cx (.cond c x y) Q st:=by
 intro code hc hm a w hr
 have hcode:=hc
 cases code<;>simp only[resCode]at hc<;>try cases hc
 case cond o c1 c2=>
  obtain⟨p,hp,hc1⟩:=bind_some hc
  obtain⟨x',hx,hc2⟩:=bind_some hc1
  obtain⟨y',hy,he⟩:=map_some hc2
  cases he
  obtain⟨S,M,hrf⟩:=hr
  have hC:=ev_C hrf.env hp
  rw[hc0]at hC
  refine wp_cond_split hC.inv_b (fun h1=>ht h1 c1 hx hm a w ⟨S,M,hrf⟩) (fun h1=>hf h1 c2 hy hm a w ⟨S,M,hrf⟩)
 case region id ops draw=>
  rcases zao hcode with ⟨_,l,_,h1⟩ | ⟨_,l,_,⟨n,_,h1⟩ | ⟨_,h1⟩ | ⟨n,_,h1⟩ | h1⟩<;>cases h1
 all_goals simp[Option.bind_eq_some_iff]at hc
def blockK(id:Nat)(Q:Exit→St→Prop):Exit→St→Prop
 | .exit id',st=>if id'=id then Q .normal st else Q (.exit id') st
 | ex,st=>Q ex st
theorem zkq{id:Nat}{c:AC}(h:AWp cx c (blockK id Q) st):AWp cx (.block id c) Q st:=by
 intro code hc hm a w hr
 have hcode:=hc
 cases code<;>simp only[resCode]at hc<;>try cases hc
 case block id' c1=>
  obtain⟨x',hx,he⟩:=map_some hc
  cases he
  refine wp_block (wp_mono (h c1 hx hm a w hr) fun ex a' w' ⟨st',h1,h2⟩=>?_)
  cases ex with
  | exit j=>
   simp only[blockK]at h1
   simp only[Exit.inBlock]
   split at h1
   ·rename_i hj;rw[if_pos hj];exact⟨st',h1,h2⟩
   ·rename_i hj;rw[if_neg hj];exact⟨st',h1,h2⟩
  | _=>exact⟨st',h1,h2⟩
 case region id ops draw=>
  rcases zao hcode with ⟨_,l,_,h1⟩ | ⟨_,l,_,⟨n,_,h1⟩ | ⟨_,h1⟩ | ⟨n,_,h1⟩ | h1⟩<;>cases h1
 all_goals simp[Option.bind_eq_some_iff]at hc
theorem zvl{id:Nat}(h:Q (.exit id) st):AWp cx (.exit id) Q st:=by
 intro code hc hm a w hr
 have hcode:=hc
 cases code<;>simp only[resCode]at hc<;>try cases hc
 case exit=>exact wp_exit ⟨st,h,hr⟩
 case region id ops draw=>
  rcases zao hcode with ⟨_,l,_,h1⟩ | ⟨_,l,_,⟨n,_,h1⟩ | ⟨_,h1⟩ | ⟨n,_,h1⟩ | h1⟩<;>cases h1
 all_goals simp[Option.bind_eq_some_iff]at hc
theorem zyv(h:Q .ret st):AWp cx .ret Q st:=by
 intro code hc hm a w hr
 have hcode:=hc
 cases code<;>simp only[resCode]at hc<;>try cases hc
 case ret=>exact wp_ret ⟨st,h,hr⟩
 case region id ops draw=>
  rcases zao hcode with ⟨_,l,_,h1⟩ | ⟨_,l,_,⟨n,_,h1⟩ | ⟨_,h1⟩ | ⟨n,_,h1⟩ | h1⟩<;>cases h1
 all_goals simp[Option.bind_eq_some_iff]at hc
theorem zr4{c:AC}(h:AWp cx c (fun ex s=>(∀l,ex≠.goto l)∧Q ex s) st):AWp cx (.scope c) Q st:=by
 intro code hc hm a w hr
 have hcode:=hc
 cases code<;>simp only[resCode]at hc<;>try cases hc
 case scope c1=>
  obtain⟨x',hx,he⟩:=map_some hc
  cases he
  refine wp_scope_straight (wp_mono (h c1 hx hm a w hr) fun ex a' w' ⟨st',⟨h0,h1⟩,h2⟩=>?_)
  cases ex with
  | goto l=>exact absurd rfl (h0 l)
  | _=>exact⟨st',h1,h2⟩
 case region id ops draw=>
  rcases zao hcode with ⟨_,l,_,h1⟩ | ⟨_,l,_,⟨n,_,h1⟩ | ⟨_,h1⟩ | ⟨n,_,h1⟩ | h1⟩<;>cases h1
 all_goals simp[Option.bind_eq_some_iff]at hc
structure Sub (st st':St):Prop where
 env:∀t x,st'.env.lookup t=some x→st.env.get t=x
 heap:∀b bx,st'.heap.lookup b=some bx→∃bx0,st.heap.lookup b=some bx0∧(bx=bx0∨(bx0.kind≠.str∧bx={ bx0 with kind:=.sh }))
 clk:st.clk≤st'.clk
theorem Rel.sub{st':St}{a:Act}{w:World}(hs:Sub st st')(hr:Rel cx st a w):Rel cx st' a w:=by
 obtain⟨S,M,hr⟩:=hr
 classical
 generalize hMb:(fun g=>if Live st'.heap g then M g else none:Map)=Mb
 have hMb1:∀g m,Mb g=some m→Live st'.heap g∧M g=some m:=by
  intro g m hm
  rw[←hMb]at hm
  simp only at hm
  split at hm
  ·exact⟨‹_›,hm⟩
  ·cases hm
 have hMb2:∀g,Live st'.heap g→Mb g=M g:=by intro g hg;rw[←hMb];simp[hg]
 have hx:Ext w S M st.clk w S Mb st'.clk:=⟨fun _ _ hs=>hs,fun _ _ _ _ hc=>hc,hs.clk,fun g m _ hm=>(hMb1 g m hm).2,fun _ _ arr _ _ _ hb=>⟨arr,hb,rfl⟩⟩
 refine⟨S,Mb,hr.size,hr.defers,fun t=>?_,⟨fun b bx hb=>?_,fun g m hm=>(hMb1 g m hm).1,fun b bx b' bx' h1 h2 hg=>?_,fun g g' k h1 h2=>hr.wr.heap.inj _ _ _ (hMb1 _ _ h1).2 (hMb1 _ _ h2).2⟩,hr.wr.ext.trans hx,hr.wr.fr,hr.wr.Snew,hr.wr.Slt,fun g k hm=>hr.wr.Mnew g k (hMb1 _ _ hm).2⟩
 ·unfold Env.get
  cases hl:st'.env.lookup t with
  | none=>exact .p (.dead _)
  | some x=>
   have:=hr.env t
   rw[hs.env t x hl]at this
   exact this.mono hx
 ·obtain⟨bx0,h0,h1⟩:=hs.heap b bx hb
  have hl:Live st'.heap bx.gen:=⟨b,bx,hb,rfl⟩
  have hbox:=hr.wr.heap.box b bx0 h0
  rcases h1 with rfl | ⟨hk,rfl⟩
  ·exact hbox.mono hx (hMb2 _ hl) (fun _ _=>rfl) fun _ _ _ hs=>hs
  ·obtain⟨b1,b2,m,hm,b3⟩:=hbox.mono hx (hMb2 bx0.gen hl) (fun _ _=>rfl) fun _ _ _ hs=>hs
   refine⟨b1,b2,m,hm,?_⟩
   cases m with
   | none=>exact⟨b3.1,by simp⟩
   | some k=>
    obtain⟨arr,e,hh,hsz,hc,ho,hlt⟩:=b3
    refine⟨arr,e,hh,hsz,fun i r j c hi hj=>?_,fun hne=>absurd rfl hne,hlt⟩
    obtain⟨u,hu,h1,hC,hP⟩:=hc i r j c hi hj
    exact⟨u,hu,h1,hC,fun _=>hP hk⟩
 ·obtain⟨bx0,h3,h4⟩:=hs.heap b bx h1
  obtain⟨bx0',h5,h6⟩:=hs.heap b' bx' h2
  have e1:bx.gen=bx0.gen:=by rcases h4 with rfl | ⟨_,rfl⟩<;>rfl
  have e2:bx'.gen=bx0'.gen:=by rcases h6 with rfl | ⟨_,rfl⟩<;>rfl
  exact hr.wr.heap.gens _ _ _ _ h3 h5 (by rw[←e1,←e2,hg])
theorem AWp.sub{c:AC}{st':St}(hs:Sub st st')(h:AWp cx c Q st'):AWp cx c Q st:=
 fun code hc hm a w hr=>h code hc hm a w (hr.sub hs)
end
end
section
open Go.RowKit
section
variable{cx:Cx}{Q:Exit→St→Prop}{st:St}{c:AC}
theorem AWp.freeze(t:Nat){y:AV}(hy:frz st.heap (st.env.get t)=some y)
  (h:AWp cx c Q ⟨(t,y)::st.env,shareIds (refs (st.env.get t)) st.heap,st.clk⟩):AWp cx c Q st:=by
 intro code hc hm a w ⟨S,M,hr⟩
 have hk:=ze1 hy
 refine h code hc hm a w ⟨cellsS st.heap M (refs (st.env.get t)) S,M,?_⟩
 have h1:=hr.share (refs (st.env.get t)) hk
 refine⟨h1.size,h1.defers,fun t'=>?_,h1.wr⟩
 have e1:Env.get ((t,y)::st.env)=upd st.env.get (some t) y:=zdd st.env (some t) _
 rw[e1]
 simp only[upd]
 split
 ·rename_i ht
  subst ht
  exact .p (zri hr.wr.heap (hr.env t') hy fun id hid=>hid)
 ·exact h1.env t'
end
def resV(st:St):RV→Option AV
 | .t n=>some (st.env.get n)
 | .cell n k=>loadAV k st.heap (st.env.get n)
def readRV(tmps:Array Value):ResultVar→Sem Value
 | .tmp t=>pure (tmps.getD t undef)
 | .cell q t=>do loadVar t (←asAddr (tmps.getD q undef))
theorem zik(fn:Func)(tmps:Array Value):results fn tmps=(fn.results.mapM (readRV tmps) >>= fun vs=>pure (if h:vs.size=1 then vs[0] else .tuple vs)):=by
 unfold results
 rfl
def resAV(st:St)(rs:List RV):Option AV:=
 match rs with
 | [r]=>resV st r
 | rs=>(rs.mapM (resV st)).map .tup
section
variable{P:Program}{cx:Cx}{w:World}{S:Nat→Nat→Prop}{M:Map}{st:St}{a:Act}
theorem zyw{rs:List ResultVar}{ps:List RV}{xs:List AV}(hres:resRes P rs=some ps)(hr:RelF cx S M st.clk st.heap st.env.get a w)(hx:ps.mapM (resV st)=some xs) :
  ∃vs:List Value,(rs.mapM (readRV a.tmps)).run P w=.ok vs w∧vs.length=xs.length∧∀(j:Nat) (v:Value) (c:AV),vs[j]? = some v→xs[j]? = some c→C w S M st.clk v c:=by
 induction rs generalizing ps xs with
 | nil=>
  simp only[resRes,Option.some.injEq]at hres
  subst hres
  simp at hx
  subst hx
  exact⟨[],rfl,rfl,fun j v c hv=>by simp at hv⟩
 | cons r rs ih=>
  have step:∀(p:RV) (qs:List RV) (s:Sem Value),ps=p::qs→resRes P rs=some qs→(∀x,resV st p=some x→∃v,s.run P w=.ok v w∧C w S M st.clk v x) →
    ∃(x:AV) (ys:List AV) (v:Value) (vs:List Value),xs=x::ys∧s.run P w=.ok v w∧C w S M st.clk v x∧(rs.mapM (readRV a.tmps)).run P w=.ok vs w∧vs.length=ys.length∧∀(j:Nat) (v:Value) (c:AV),vs[j]? = some v→ys[j]? = some c→C w S M st.clk v c:=by
   intro p qs s hp hq hs
   subst hp
   simp only[List.mapM_cons,Option.bind_eq_bind,Option.pure_def]at hx
   obtain⟨x,hx1,hx2⟩:=bind_some hx
   obtain⟨ys,hx3,hx4⟩:=bind_some hx2
   cases hx4
   obtain⟨v,h1,h2⟩:=hs x hx1
   obtain⟨vs,h3,h4,h5⟩:=ih hq hx3
   exact⟨x,ys,v,vs,rfl,h1,h2,h3,h4,h5⟩
  cases r with
  | tmp t=>
   simp only[resRes]at hres
   obtain⟨qs,hq,hp⟩:=map_some hres
   obtain⟨x,ys,v,vs,rfl,h1,h2,h3,h4,h5⟩:=step _ qs (pure (a.tmps.getD t undef)) hp.symm hq (fun x hx=>by
    simp only[resV,Option.some.injEq]at hx
    subst hx
    exact⟨_,rfl,hr.env t⟩)
   refine⟨v::vs,?_,by simp[h4],fun j v' c hv hc=>?_⟩
   ·simp only[List.mapM_cons,readRV,Sem.run_bind,h1,Result.andThen_ok,h3,Sem.run_pure]
   ·cases j with
    | zero=>simp at hv hc;subst hv;subst hc;exact h2
    | succ j=>exact h5 j v' c (by simpa using hv) (by simpa using hc)
  | cell q t=>
   simp only[resRes]at hres
   obtain⟨k,hk,hres1⟩:=bind_some hres
   obtain⟨qs,hq,hp⟩:=map_some hres1
   obtain⟨x,ys,v,vs,rfl,h1,h2,h3,h4,h5⟩:=step _ qs (do loadVar t (←asAddr (a.tmps.getD q undef))) hp.symm hq (fun x hx=>by
    simp only[resV]at hx
    obtain⟨v,h1,h2⟩:=zin (P:=P) hk hr.wr.heap (hr.env q) hx
    refine⟨v,?_,h2⟩
    -- the address is one
    unfold Instr.loadAt at h1
    cases hv:a.tmps.getD q undef<;>rw[hv]at h1<;>try (simp[Instr.sureAddr,stuck]at h1;done)
    rename_i ad
    cases ad with
    | none=>simp[Instr.sureAddr,stuck]at h1
    | some ad=>simpa[Instr.sureAddr,asAddr]using h1)
   refine⟨v::vs,?_,by simp[h4],fun j v' c hv hc=>?_⟩
   ·simp only[Sem.run_bind]at h1
    simp only[List.mapM_cons,readRV,Sem.run_bind,h1,Result.andThen_ok,h3,Sem.run_pure]
   ·cases j with
    | zero=>simp at hv hc;subst hv;subst hc;exact h2
    | succ j=>exact h5 j v' c (by simpa using hv) (by simpa using hc)
theorem zmx{fn:Func}{ps:List RV}{x:AV}(hres:resRes P fn.results.toList=some ps)(hr:RelF cx S M st.clk st.heap st.env.get a w)(hx:resAV st ps=some x):∃v,(results fn a.tmps).run P w=.ok v w∧C w S M st.clk v x:=by
 have main:∀xs,ps.mapM (resV st)=some xs→∃vs:Array Value,(fn.results.mapM (readRV a.tmps)).run P w=.ok vs w∧vs.size=xs.length∧∀(j:Nat) (v:Value) (c:AV),vs[j]? = some v→xs[j]? = some c→C w S M st.clk v c:=by
  intro xs hxs
  obtain⟨vs,h1,h2,h3⟩:=zyw hres hr hxs
  refine⟨vs.toArray,?_,by simpa using h2,fun j v c hv hc=>h3 j v c (by simpa using hv) hc⟩
  rw[Array.mapM_eq_mapM_toList]
  refine(Sem.run_map P w _ _).trans ?_
  rw[h1,Result.andThen_ok]
 unfold resAV at hx
 split at hx
 ·rename_i r
  obtain⟨vs,h1,h2,h3⟩:=main [x] (by simp[hx])
  have hsz:vs.size=1:=by simpa using h2
  have hv:vs[0]? = some (vs[0]'(by omega)):=Array.getElem?_eq_getElem _
  refine⟨vs[0]'(by omega),?_,h3 0 _ x hv rfl⟩
  rw[zik]
  simp only[Sem.run_bind,h1,Result.andThen_ok,Sem.run_pure,hsz,dif_pos]
 ·rename_i hne
  obtain⟨xs,hxs,rfl⟩:=map_some hx
  obtain⟨vs,h1,h2,h3⟩:=main xs hxs
  refine⟨.tuple vs,?_,.tup vs xs h2 h3⟩
  have hsz:vs.size≠1:=by
   intro hs
   obtain⟨hl,_⟩:=zbp _ _ hxs
   rw[h2]at hs
   match ps,hl with
   | [],hl=>simp at hl;omega
   | [p],hl=>exact hne p rfl
   | p::q::r,hl=>simp at hl;omega
  rw[zik]
  simp only[Sem.run_bind,h1,Result.andThen_ok,Sem.run_pure,hsz,dif_neg,not_false_eq_true]
end
def exitB(rs:List RV)(post:AV→Heap→Nat→Prop):Exit→St→Prop:=
 fun ex st=>(ex=.normal∨ex=.ret)∧∃r,resAV st rs=some r∧post r st.heap st.clk
def exitP(rs:List RV)(post:AV→Prop):Exit→St→Prop:=
 fun ex st=>(ex=.normal∨ex=.ret)∧∃r y,resAV st rs=some r∧frz st.heap r=some y∧post y
def argEnv(args:List AV):Env:=args.zipIdx.map fun p=>(p.2,p.1)
theorem zil(args:List AV)(t:Nat):(argEnv args).get t=(args[t]?).getD .dead:=by
 have key:∀(l:List AV) (k t:Nat),((l.zipIdx k).map fun p=>(p.2,p.1)).lookup t=if k≤t then l[t-k]? else none:=by
  intro l
  induction l with
  | nil=>intro k t;simp
  | cons x l ih=>
   intro k t
   simp only[List.zipIdx_cons,List.map_cons,List.lookup_cons]
   by_cases h:t=k
   ·subst h;simp
   ·have h1:(t == k)=false:=by simpa using h
    rw[h1]
    simp only[ih (k+1) t]
    by_cases h2:k≤t
    ·rw[if_pos h2,if_pos (by omega)]
     rw[show t-k=(t-(k+1))+1 by omega]
     simp
    ·rw[if_neg h2,if_neg (by omega)]
 unfold Env.get argEnv
 rw[key args 0 t]
 simp
section
variable{P:Program}{f:FuncId}{af:AF}{args:List AV}
theorem zax(hf:resFn P f=some af):Enters P f:=by
 unfold resFn at hf
 split at hf
 ·rename_i fn hfn
  split at hf
  ·rename_i c hb
   obtain⟨rs,hrs,hf1⟩:=bind_some hf
   obtain⟨c',hc',hf2⟩:=bind_some hf1
   split at hf2
   ·rename_i hcond
    intro cargs w
    unfold callFunc
    simp only[Sem.run_bind,run_program,Result.andThen_ok,hfn,hcond.2,hb]
    simp
   ·cases hf2
  ·cases hf
 ·cases hf
theorem zkr{hb:Heap}{clk:Nat}{post:AV→Heap→Nat→Prop}(hf:resFn P f=some af)(hm:P.follows .mixedOrders=true)(hn:args.length=af.np)
  (h:∀cx:Cx,cx.P=P→cx.nt=af.nt→cx.clk0=clk→AWp cx af.body (exitB af.res post) ⟨argEnv args,hb,clk⟩):ACall P f args hb clk post:=by
 refine⟨zax hf,fun w S M cargs hl hC hh hS hM=>?_⟩
 unfold resFn at hf
 split at hf
 ·rename_i fn hfn
  split at hf
  ·rename_i c hbody
   obtain⟨rs,hrs,hf1⟩:=bind_some hf
   obtain⟨c',hc',hf2⟩:=bind_some hf1
   split at hf2<;>cases hf2
   rename_i hcond
   simp only at h hn
   refine calls_of_wp hfn hbody ?_
   have hwp:=h ⟨P,fn.ntmps,w,S,M,clk⟩ rfl rfl rfl c hc' hm { tmps:=cargs++Array.replicate (fn.ntmps-cargs.size) undef,defers:=[] } w ⟨S,M,?_⟩
   ·refine wp_mono hwp fun ex a' w' ⟨st',⟨hex,r,hres,hpost⟩,hrel⟩=>?_
    obtain⟨S',M',hr⟩:=hrel
    obtain⟨v,hv,hCv⟩:=zmx hrs hr hres
    have hfin:∃v r h' S' M' clk',Ending.returned v=.returned v∧post r h' clk'∧C w' S' M' clk' v r∧∀nt,WRel ⟨P,nt,w,S,M,clk⟩ S' M' clk' h' w':=⟨v,r,st'.heap,S',M',st'.clk,rfl,hpost,hCv,fun nt=>⟨hr.wr.heap,hr.wr.ext,hr.wr.fr,hr.wr.Snew,hr.wr.Slt,hr.wr.Mnew⟩⟩
    have hw:∀nt,WRel ⟨P,nt,w,S,M,clk⟩ S' M' st'.clk st'.heap w':=fun nt=>⟨hr.wr.heap,hr.wr.ext,hr.wr.fr,hr.wr.Snew,hr.wr.Slt,hr.wr.Mnew⟩
    rcases hex with rfl | rfl
    ·exact⟨hr.defers,v,hv,v,r,st'.heap,S',M',st'.clk,rfl,hpost,hCv,hw⟩
    ·exact⟨hr.defers,v,hv,v,r,st'.heap,S',M',st'.clk,rfl,hpost,hCv,hw⟩
   ·refine⟨by simp;omega,rfl,fun t=>?_,⟨hh,Ext.refl _ _ _ _,⟨rfl,rfl,rfl,Nat.le_refl _,fun _ _ _=>rfl⟩,fun k o hs=>.inl hs,hS,fun g k hm=>⟨hM g k hm,.inr ⟨g,hm⟩⟩⟩⟩
    rw[zil]
    cases ha:args[t]? with
    | none=>exact .p (.dead _)
    | some x=>
     have htl:=zat ha
     have hv:cargs[t]? = some (cargs[t]'(by omega)):=Array.getElem?_eq_getElem _
     have e1:(cargs++Array.replicate (fn.ntmps-cargs.size) undef).getD t undef=cargs[t]'(by omega):=by
      simp only[Array.getD_eq_getD_getElem?]
      rw[Array.getElem?_append_left (by omega),hv]
      rfl
     rw[e1]
     exact hC t _ x hv ha
  ·cases hf
 ·cases hf
theorem zr5{post:AV→Prop}(hf:resFn P f=some af)(hm:P.follows .mixedOrders=true)(hn:args.length=af.np)
  (h:∀cx:Cx,cx.P=P→cx.nt=af.nt→cx.clk0=1→AWp cx af.body (exitP af.res post) ⟨argEnv args,[],1⟩):PCall P f args post:=by
 have hA:ACall P f args [] 1 (fun r h _=>∃y,frz h r=some y∧post y):=
  zkr hf hm hn fun cx h1 h2 h0=>(h cx h1 h2 h0).mono fun ex st ⟨h3,r,y,h4,h5,h6⟩=>⟨h3,r,h4,y,h5,h6⟩
 refine⟨hA.1,fun w S cargs hl hC hS=>?_⟩
 refine(hA.2 w S (fun _=>none) cargs hl (fun j v c hv hc=>.p (hC j v c hv hc)) ⟨fun b bx hb=>(by simp at hb),fun g m hm=>(by cases hm),fun b bx b' bx' h1=>(by simp at h1),fun g g' k h1=>(by cases h1)⟩ hS (fun g k hm=>(by cases hm))).mono ?_
 intro e w' ⟨v,r,h',S',M',clk',he,⟨y,hy,hpost⟩,hCr,hw⟩
 have hw:=hw 0
 refine⟨v,y,he,hpost,⟨hw.fr.os,hw.fr.tape,hw.fr.output,hw.fr.size,fun k hk=>hw.fr.block k hk fun⟨g,hg⟩=>(by cases hg)⟩,?_⟩
 refine(zri hw.heap hCr hy fun id hid=>hid).mono (fun k o hs=>?_) fun k o u _ hc=>hc
 rcases hs with hs | ⟨id,bx,_,_,hm,_⟩
 ·rcases hw.Snew k o hs with h1 | h1 | ⟨g,h1⟩
  ·exact .inl h1
  ·exact .inr ⟨h1,hw.Slt k o hs⟩
  ·cases h1
 ·obtain⟨h1,h2⟩:=hw.Mnew _ k hm
  rcases h2 with h2 | ⟨g,h2⟩
  ·exact .inr ⟨h2,h1⟩
  ·cases h2
end
end
section
open Go.RowKit
mutual
def wkA:AV→AV
 | .sl els _=>.sl (wkL els) .an
 | .agg cs=>.agg (wkR cs)
 | .tup cs=>.tup (wkR cs)
 | .i k n=>.i k n
 | .b x=>.b x
 | .s l=>.s l
 | .raw v=>.raw v
 | .ep cs o=>.ep cs o
 | .bs id g z off n=>.bs id g z off n
 | .ptr id g z i o=>.ptr id g z i o
 | .ifc t x=>.ifc t x
 | .fnp f id g z i o=>.fnp f id g z i o
 | .fnv f x=>.fnv f (wkA x)
 | .dead=>.dead
def wkR:List AV→List AV
 | []=>[]
 | c::r=>wkA c::wkR r
def wkL:List (List AV)→List (List AV)
 | []=>[]
 | r::l=>wkR r::wkL l
end
def wkIf(ex:Bool)(x:AV):AV:=if ex then x else wkA x
def rlC(σn:BId→BId)(σg:Nat→Nat):AV→AV
 | .bs id g z off n=>.bs (σn id) (σg g) z off n
 | .ptr id g z i o=>.ptr (σn id) (σg g) z i o
 | .fnp f id g z i o=>.fnp f (σn id) (σg g) z i o
 | .agg _ | .tup _ | .ifc .. => .dead
 | x=>x
def rl1(σn:BId→BId)(σg:Nat→Nat):AV→AV
 | .agg cs=>.agg (cs.map (rlC σn σg))
 | x=>rlC σn σg x
def rlA(σn:BId→BId)(σg:Nat→Nat):AV→AV
 | .tup cs=>.tup (cs.map (rl1 σn σg))
 | x=>rl1 σn σg x
def rfC:AV→List BId
 | .bs id _ _ _ _=>[id]
 | .ptr id _ _ _ _=>[id]
 | .fnp _ id _ _ _ _=>[id]
 | _=>[]
def rf1:AV→List BId
 | .agg cs=>cs.flatMap rfC
 | x=>rfC x
def rfA:AV→List BId
 | .tup cs=>cs.flatMap rf1
 | x=>rf1 x
def rlBox(ex:Bool)(σn:BId→BId)(σg:Nat→Nat)(bx:Box):Box:=
 ⟨σg bx.gen,bx.kind,bx.z,if bx.kind=.str then bx.els.map fun r=>r.map fun c=>rlC σn σg (wkIf ex c) else if ex then bx.els else wkL bx.els⟩
def kids(h:Heap)(b:BId):List BId:=
 match h.lookup b with
 | some bx=>if bx.kind=.str then bx.els.flatMap fun r=>r.flatMap rfC else []
 | none=>[]
def reach(h:Heap):Nat→List BId→List BId→List BId
 | 0,_,acc=>acc
 | _,[],acc=>acc
 | n+1,b::todo,acc=>if acc.contains b then reach h n todo acc else reach h n (kids h b++todo) (acc++[b])
def bors:Nat→List BId
 | 0=>[]
 | k+1=>bors k++[.bor k]
def pickH(h:Heap)(ids:List BId):Heap:=ids.filterMap fun b=>(h.lookup b).map fun bx=>(b,bx)
def genIx:Heap→Nat→Nat→Nat
 | [],_,j=>j
 | p::l,g,j=>if p.2.gen=g then j else genIx l g (j+1)
def sigG(k:Nat)(hp:Heap)(g:Nat):Nat:=if g≤k then g else genIx hp g (k+1)
def normS(ex:Bool)(k:Nat)(live:List Nat)(st:St):St:=
 let env:=live.map fun t=>(t,st.env.get t)
 let hp:=pickH st.heap (reach st.heap 40 (bors k++env.flatMap fun p=>rfA p.2) [])
 ⟨env.map fun p=>(p.1,rlA id (sigG k hp) (wkIf ex p.2)),hp.map fun p=>(p.1,rlBox ex id (sigG k hp) p.2),k+hp.length+2⟩
inductive Gh where
 | nil (t z:Nat)                      -- an empty list,told as a row of the call's own
 | frz (t:Nat)                        -- a row of the call's own,told as a value
 | norm (ex:Bool) (live:List Nat)
 | fld (t:Nat) (i o z:Nat)          -- an empty list in a field of the box that slot t points to
inductive AX where
 | skip
 | reg (ops:List AO)
 | draw (ops:List DO)
 | seq (a b:AX)
 | cond (c:Opd) (x y:AX)
 | block (id:Nat) (c:AX)
 | loop (c:AX)
 | exit (id:Nat)
 | ret
 | note (c:AX) (g:Gh)
 | pre (g:Gh) (c:AX)   -- ahead of c
 | scope (c:AX)
 | lp (id:Nat) (g:Gh) (c:AX) (g2:Gh)   -- a loop in its block: told by g ahead of it,by g2 behind
 | bad
 | drawT (hd tl:List AO)
 | drawM (hd tl:List AO)
 | prim (f:List AV→Option AV)   -- no code: a function known by its contract
def AX.isPrim:AX→Option (List AV→Option AV)
 | .prim f=>some f
 | _=>none
def AX.isBad:AX→Bool
 | .bad=>true
 | _=>false
def mname:Nat→String
 | 1=>"Of"
 | 2=>"Neg"
 | 3=>"Add"
 | 4=>"Sub"
 | 5=>"Mul"
 | 6=>"Quo"
 | 7=>"Pow"
 | 8=>"Fits"
 | _=>""
structure AFx where
 np:Nat
 nt:Nat
 res:List RV
 body:AX
 lent:Option (List Bool)
 exact:Bool
abbrev Tbl:=Nat→Option AFx
def methsA(af:AFx):List (String×Nat):=af.res.filterMap fun r=>match r with | .cell j (some u)=>some (mname j,u) | _=>none
def tyNum(T:Tbl)(k:Nat):Nat:=match T (1000000+k) with | some af=>af.np | none=>0
def methsT(T:Tbl)(k:Nat):List (String×Nat):=match T (1000000+k) with | some af=>if af.body.isBad then methsA af else [] | none=>[]
def funT(T:Tbl)(k:Nat):Option Nat:=match T (1000000+k) with | some af=>if af.body.isBad&&af.res.isEmpty then some af.nt else none | none=>none
inductive Ex where
 | n
 | x (id:Nat)
 | r
def ghS(k:Nat)(g:Gh)(st:St):Option St:=
 match g with
 | .nil t z=>
  match st.env.get t with
  | .sl [] .nl=>some ⟨(t,.bs (.loc t) st.clk z 0 0)::st.env,(.loc t,⟨st.clk,.own,z,[]⟩)::st.heap,st.clk+1⟩
  | _=>none
 | .frz t=>(frz st.heap (st.env.get t)).map fun y=>⟨(t,y)::st.env,shareIds (refs (st.env.get t)) st.heap,st.clk⟩
 | .norm ex live=>some (normS ex k live st)
 | .fld t i o z=>
  match st.env.get t with
  | .ptr b g z0 _ _=>
   match boxAt st.heap b g z0 with
   | some bx=>
    match bx.els[i]? with
    | some r=>
     match r[o]? with
     | some (.sl [] .nl)=>
      if bx.kind=.str∧(st.heap.lookup (.fld b o)).isNone then
       some ⟨st.env,(b,{ bx with els:=bx.els.set i (r.set o (.bs (.fld b o) st.clk z 0 0)) })::(.fld b o,⟨st.clk,.own,z,[]⟩)::st.heap,st.clk+1⟩
      else none
     | _=>none
    | none=>none
   | none=>none
  | _=>none
structure Orc where
 call:Nat→List AV→Heap→Option (AV×Heap)
 loop:Nat→AX→St→Option (Ex×St)
def rootsM:List Bool→List AV→List BId
 | m::ms,x::xs=>(if m then rfA x else [])++rootsM ms xs
 | _,_=>[]
def nameIx:List BId→BId→Nat→Nat
 | [],_,j=>j
 | b::l,x,j=>if b=x then j else nameIx l x (j+1)
def inN(l:List BId)(b:BId):BId:=.bor (nameIx l b 0)
def inG(hp:Heap)(g:Nat):Nat:=genIx hp g 0
def outN(l:List BId)(d:Nat)(b:BId):BId:=
 match b with
 | .bor i=>l.getD i (.fld (.loc d) i)
 | .loc n=>.fld (.loc d) n
 | .fld b o=>.fld (.fld (.loc d) 0) (match b with | .loc n=>1000+1000*n+o | _=>o)
def outG(hp:Heap)(clk:Nat)(g:Nat):Nat:=
 match hp[g]? with
 | some p=>p.2.gen
 | none=>clk+(g-hp.length)
def callX(O:Orc)(T:Tbl)(u:Nat)(xs:List AV)(d:Option Nat)(st:St):Option St:=
 match T u with
 | none=>none
 | some af=>
  match af.lent with
  | none=>
   (xs.mapM (frz1 st.heap)).bind fun ys=>(O.call u (ys.map (wkIf af.exact)) []).bind fun r=>
    some ⟨putE st.env d r.1,if scalar r.1 then st.heap else shareIds (xs.flatMap refs) st.heap,st.clk⟩
  | some ms=>
   (frzM st.heap ms xs).bind fun ys=>
    let h1:=shareIds (refsM ms xs) st.heap
    let l:=reach h1 40 (rootsM ms xs) []
    let hp:=pickH h1 l
    if hp.map (·.1)=l∧l.Nodup then
     (O.call u (ys.map fun y=>rlA (inN l) (inG hp) (wkIf af.exact y)) (hp.map fun p=>(inN l p.1,rlBox af.exact (inN l) (inG hp) p.2))).bind fun r=>
      let hb':=r.2.map fun p=>(outN l (d.getD 0) p.1,rlBox true (outN l (d.getD 0)) (outG hp st.clk) p.2)
      let r':=rlA (outN l (d.getD 0)) (outG hp st.clk) r.1
      if (hb'.map (·.1)).Nodup&&refOk hb' r'&&heapOk hb' then
       some ⟨putE st.env d r',hb'++(h1.filter fun p=>!(l.contains p.1 || (hb'.map (·.1)).contains p.1)),st.clk+r.2.length+2⟩
      else none
    else none
def opX(O:Orc)(T:Tbl)(op:AOp)(d:Option Nat)(st:St):Option St:=
 match op with
 | .call u args=>callX O T u (args.map (ev st.env.get)) d st
 | .ifc k x=>some ⟨putE st.env d (.ifc (tyNum T k) (ev st.env.get x)),st.heap,st.clk⟩
 | .inv nm k u r args=>
  match ev st.env.get r with
  | .ifc t y=>if t=tyNum T k∧(nm,u)∈methsT T k then callX O T u (y::args.map (ev st.env.get)) d st else none
  | .fnv f x=>if nm="()"∧f=tyNum T k∧funT T k=some u then callX O T u (x::args.map (ev st.env.get)) d st else none
  | .fnp f id g z i o=>if nm="()"∧f=tyNum T k∧funT T k=some u then callX O T u (args.map (ev st.env.get)++[.ptr id g z i o]) d st else none
  | _=>none
 | .xop (.mkv k) xs=>(stepW (.xop (.mkv (tyNum T k)) xs) d st.env.get st.heap st.clk).map fun q=>⟨putE st.env d q.1,q.2.1,q.2.2⟩
 | .xop (.mkf k) xs=>(stepW (.xop (.mkf (tyNum T k)) xs) d st.env.get st.heap st.clk).map fun q=>⟨putE st.env d q.1,q.2.1,q.2.2⟩
 | .alloc .. | .store .. | .mks .. | .app .. | .xop .. => (stepW op d st.env.get st.heap st.clk).map fun q=>⟨putE st.env d q.1,q.2.1,q.2.2⟩
 | .bsl z zs len ps=>(bslAV z zs len st.heap (ps.map fun p=>(p.1,ev st.env.get p.2))).map fun q=>⟨putE st.env d q.1,q.2,st.clk⟩
 | op=>(stepQ op st.env.get st.heap).map fun x=>⟨putE st.env d x,st.heap,st.clk⟩
def gX(O:Orc)(T:Tbl)(x:AV)(want:Bool)(op:AOp)(d:Option Nat)(st:St):Option St:=
 match x with
 | .b v=>if v=want then opX O T op d st else some ⟨putE st.env d (.tup []),st.heap,st.clk⟩
 | .tup _=>some ⟨putE st.env d (.tup []),st.heap,st.clk⟩
 | _=>none
def stepX(O:Orc)(T:Tbl)(o:AO)(st:St):Option St:=
 match o.guard with
 | none=>opX O T o.op o.dst st
 | some (t,want)=>gX O T (st.env.get t) want o.op o.dst st
def runX(O:Orc)(T:Tbl):List AO→St→Option St
 | [],st=>some st
 | o::r,st=>(stepX O T o st).bind (runX O T r)
open Classical in
noncomputable def keepD(op:AOp)(e:Env)(older:List Heap)(x:AV):Bool:=op.free || decide (∀h'∈older,stepQ op e.get h'=some x)
theorem zpr{op:AOp}{e:Env}{older:List Heap}{x:AV}(h:keepD op e older x=true):op.free=true∨∀h'∈older,stepQ op e.get h'=some x:=by
 classical
 unfold keepD at h
 rw[Bool.or_eq_true]at h
 rcases h with h | h
 ·exact .inl h
 ·exact .inr (of_decide_eq_true h)
noncomputable def opD(O:Orc)(T:Tbl)(op:AOp)(e:Env)(h:Heap)(older:List Heap):Option AV:=
 match op with
 | .call u args=>
  match T u with
  | none=>none
  | some af=>if af.lent.isNone&&(args.map (ev e.get)).all noRef then (O.call u ((args.map (ev e.get)).map (wkIf af.exact)) []).map (·.1) else none
 | .ifc k x=>some (.ifc (tyNum T k) (ev e.get x))
 | .inv nm k u r args=>
  match ev e.get r with
  | .ifc t y=>
   if t=tyNum T k∧(nm,u)∈methsT T k then
    match T u with
    | none=>none
    | some af=>if af.lent.isNone&&(drp1 y::args.map (ev e.get)).all noRef then (O.call u ((drp1 y::args.map (ev e.get)).map (wkIf af.exact)) []).map (·.1) else none
   else none
  | _=>none
 | .bsl z zs len ps=>
  if (ps.map fun p=>(p.1,ev e.get p.2)).all (fun p=>noRef p.2) then (bslAV z zs len [] (ps.map fun p=>(p.1,ev e.get p.2))).map (·.1) else none
 | .app z (.c (.sl [] .nl)) y=>cpnAV z (ev e.get y)
 | op=>(stepQ op e.get h).bind fun x=>if keepD op e older x then some x else none
theorem zm4{O:Orc}{T:Tbl}{z:Nat}{x0 y:Opd}{e:Env}{h:Heap}{older:List Heap}(hc:x0≠.c (.sl [] .nl)):opD O T (.app z x0 y) e h older=none:=by
 cases x0 with
 | t n=>simp[opD,stepQ]
 | c a=>
  cases a
  case sl els f=>
   cases els with
   | nil=>cases f<;>first | exact absurd rfl hc | simp[opD,stepQ]
   | cons r l=>simp[opD,stepQ]
  all_goals simp[opD,stepQ]
noncomputable def qX(O:Orc)(T:Tbl)(o:AO)(e:Env)(h:Heap)(older:List Heap):Option (AV×Bool):=
 match o.guard with
 | none=>(opD O T o.op e h older).map fun x=>(x,true)
 | some (t,want)=>
  match e.get t with
  | .b v=>if v=want then (opD O T o.op e h older).map fun x=>(x,true) else some (.tup [],false)
  | .tup []=>some (.tup [],false)
  | _=>none
abbrev PendX:=List (Nat×AOp×Env×AV)
open Classical in
noncomputable def pendOk(pend:PendX)(h:Heap):Bool:=decide (∀p∈pend,0<p.1→stepQ p.2.1 p.2.2.1.get h=some p.2.2.2)
def pendAdd(o:DO)(n:Nat)(e:Env)(r:AV×Bool)(pend:PendX):PendX:=
 if r.2&&!o.ao.op.free&&decide (n<o.hi) then (o.hi-n,o.ao.op,e,r.1)::pend else pend
noncomputable def drawX(O:Orc)(T:Tbl):List DO→Env→Heap→Nat→List Heap→PendX→Option St
 | [],e,h,clk,_,_=>some ⟨e,h,clk⟩
 | o::r,e,h,clk,older,pend=>
  match o.ao.op.writes with
  | true=>if o.ao.guard.isNone then (stepW o.ao.op o.ao.dst e.get h clk).bind fun q=>if pendOk pend q.2.1 then drawX O T r (putE e o.ao.dst q.1) q.2.1 q.2.2 (h::older) (pend.map fun p=>(p.1-1,p.2)) else none else none
  | false=>(qX O T o.ao e h (older.take (older.length-o.lo))).bind fun x=>drawX O T r (putE e o.ao.dst x.1) h clk older (pendAdd o older.length e x pend)
noncomputable def headX(O:Orc)(T:Tbl)(tl:List AO):List AO→Env→Heap→Nat→Option St
 | [],e,h,clk=>runX O T tl ⟨e,h,clk⟩
 | o::r,e,h,clk=>(qX O T o e h []).bind fun x=>headX O T tl r (putE e o.dst x.1) h clk
def contB(c0:Nat)(op:AOp)(e:Env)(l:List Nat):Bool:=l.all fun g=>decide (g<c0) || (slotsM op).any fun t=>(gnA (e.get t)).contains g
def boxB(c0:Nat)(op:AOp)(e:Env)(hp:Heap):Bool:=hp.all fun p=>if p.2.kind=.str then p.2.els.all fun r=>r.all fun x=>contB c0 op e (gnA x) else true
def AOp.lentN:AOp→Option (Nat×List Opd)
 | .call u args=>if 2000≤u∧u<3000 then some (u,args) else none
 | _=>none
def geB(clk:Nat)(l:List Nat):Bool:=l.all fun g=>decide (clk≤g)
def geH(clk:Nat)(hp:Heap):Bool:=hp.all fun p=>if p.2.kind=.str then p.2.els.all fun r=>r.all fun x=>geB clk (gnA x) else true
def callM(O:Orc)(T:Tbl)(u:Nat)(xs:List AV)(d clk:Nat):Option (AV×Heap×Nat):=
 match T u with
 | none=>none
 | some af=>
  match af.lent with
  | none=>none
  | some _=>
   if xs.all noRef=true then
    (O.call u (xs.map fun y=>rlA (inN []) (inG []) (wkIf af.exact y)) []).bind fun r=>
     let hb':=r.2.map fun p=>(outN [] d p.1,rlBox true (outN [] d) (outG [] clk) p.2)
     let r':=rlA (outN [] d) (outG [] clk) r.1
     if (hb'.map (·.1)).Nodup∧geB clk (gnA r')=true∧geH clk hb'=true then some (r',hb',clk+(r.2.length+2)) else none
   else none
def freshS(h0:Heap)(op:AOp)(e:Env):Bool:=
 match op with
 | .store _ x _=>match ev e.get x with | .ptr id _ _ _ _=>(h0.lookup id).isNone | _=>false
 | _=>false
def idOf:AV→List BId
 | .bs id .. => [id]
 | _=>[]
def consD:List AO→Env→List BId
 | [],_=>[]
 | o::r,e=>
  match o.op with
  | .mov x=>consD r (putE e o.dst (ev e.get x))
  | .app _ x _=>idOf (ev e.get x)++consD r (putE e o.dst .dead)
  | _=>consD r (putE e o.dst .dead)
def dropIds(ids:List BId)(h:Heap):Heap:=match ids with | []=>h | _=>h.filter fun p=>!ids.contains p.1
def ownL(c0:Nat)(z x:Option Box)(b:BId)(o:Option Box):Option (BId×Box):=
 match z,x,o with
 | none,some _,some o=>if o.gen<c0 then some (b,o) else none
 | _,_,_=>none
def ownA(c0:Nat)(h0 X h:Heap):AV→Option (BId×Box)
 | .bs b _ _ _ _=>ownL c0 (h0.lookup b) (X.lookup b) b (h.lookup b)
 | _=>none
def ownO(c0:Nat)(h0 X h:Heap)(op:AOp)(e:Env):Option (BId×Box):=
 match op with
 | .app _ x _=>ownA c0 h0 X h (ev e.get x)
 | _=>none
noncomputable def headM(O:Orc)(T:Tbl)(tl:List AO)(h0:Heap)(c0:Nat)(X:Heap):List AO→Env→Heap→Nat→Option St
 | [],e,h,clk=>runX O T tl ⟨e,h,clk⟩
 | o::r,e,h,clk=>
  match o.op.maker with
  | true=>
   match o.guard,o.dst with
   | none,some d=>
    match ownO c0 h0 X h o.op e with
    | none=>(stepW o.op (some d) e.get [] clk).bind fun q=>if (h.lookup (.loc d)).isNone&&boxB c0 o.op e q.2.1 then headM O T tl h0 c0 X r (putE e (some d) q.1) (q.2.1++h) q.2.2 else none
    | some p=>(stepW o.op (some d) e.get [p] clk).bind fun q=>if boxB c0 o.op e (q.2.1.take 1) then headM O T tl h0 c0 X r (putE e (some d) q.1) (q.2.1.take 1++h) q.2.2 else none
   | _,_=>none
  | false=>
   match o.op.isStore with
   | true=>
    match o.guard,o.dst with
    | none,none=>(stepW o.op none e.get h clk).bind fun q=>if freshS X o.op e=true then headM O T tl h0 c0 X r e q.2.1 q.2.2 else none
    | _,_=>none
   | false=>
    match o.op.lentN with
    | some ua=>
     match o.guard,o.dst with
     | none,some d=>(callM O T ua.1 (ua.2.map (ev e.get)) d clk).bind fun q=>if q.2.1.all (fun p=>(h.lookup p.1).isNone)=true then headM O T tl h0 c0 X r (putE e (some d) q.1) (q.2.1++h) q.2.2 else none
     | _,_=>none
    | none=>(qX O T o e h0 []).bind fun x=>if contB c0 o.op e (gnA x.1) then headM O T tl h0 c0 X r (putE e o.dst x.1) h clk else none
noncomputable def evX(O:Orc)(T:Tbl)(k:Nat):AX→St→Option (Ex×St)
 | .skip,st=>some (.n,st)
 | .reg l,st=>(runX O T l st).map fun s=>(.n,s)
 | .draw l,st=>(drawX O T l st.env st.heap st.clk [] []).map fun s=>(.n,s)
 | .drawT hd tl,st=>(headX O T tl hd st.env st.heap st.clk).map fun s=>(.n,s)
 | .drawM hd tl,st=>(headM O T tl (dropIds (consD hd st.env) st.heap) st.clk st.heap hd st.env st.heap st.clk).map fun s=>(.n,s)
 | .bad,_=>none
 | .prim _,_=>none
 | .seq a b,st=>(evX O T k a st).bind fun r=>match r.1 with | .n=>evX O T k b r.2 | _=>some r
 | .cond c x y,st=>match ev st.env.get c with | .b t=>if t then evX O T k x st else evX O T k y st | _=>none
 | .block id c,st=>(evX O T k c st).bind fun r=>match r.1 with | .x j=>if j=id then some (.n,r.2) else some r | _=>some r
 | .loop c,st=>O.loop k c st
 | .exit id,st=>some (.x id,st)
 | .ret,st=>some (.r,st)
 | .note c g,st=>(evX O T k c st).bind fun r=>match r.1 with | .n=>(ghS k g r.2).map fun s=>(.n,s) | _=>some r
 | .pre g c,st=>(ghS k g st).bind fun s=>evX O T k c s
 | .scope c,st=>evX O T k c st
 | .lp id g c g2,st=>(ghS k g st).bind fun s=>(O.loop k c s).bind fun r=>match r.1 with | .n=>(ghS k g2 r.2).map fun s=>(.n,s) | .x j=>if j=id then (ghS k g2 r.2).map fun s=>(.n,s) else some r | .r=>some r
def endX(af:AFx)(k:Nat)(r:Ex×St):Option (AV×Heap):=
 match r.1 with
 | .x _=>none
 | _=>
  (resAV r.2 af.res).bind fun x=>
  match af.lent with
  | none=>(frz r.2.heap x).map fun y=>(wkIf af.exact y,[])
  | some _=>let s:=normS af.exact k [0] ⟨[(0,x)],r.2.heap,r.2.clk⟩;some (s.env.get 0,s.heap)
noncomputable def nextO(T:Tbl)(O:Orc):Orc where
 call u xs hb:=
  match T u with
  | none=>none
  | some af=>
   match af.body.isPrim with
   | some f=>if hb=[]∧af.lent=none then (f xs).map fun x=>(x,[]) else none
   | none=>if xs.length=af.np∧(af.lent=none→hb=[]) then (evX O T hb.length af.body ⟨argEnv xs,hb,hb.length+1⟩).bind (endX af hb.length) else none
 loop k c st:=(evX O T k c st).bind fun r=>match r.1 with | .n=>O.loop k c r.2 | _=>some r
noncomputable def orcN(T:Tbl):Nat→Orc
 | 0=>⟨fun _ _ _=>none,fun _ _ _=>none⟩
 | n+1=>nextO T (orcN T n)
end
end Go.Ab