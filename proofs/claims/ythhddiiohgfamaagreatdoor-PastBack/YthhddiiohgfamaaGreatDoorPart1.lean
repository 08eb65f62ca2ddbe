/-
  A calculus of values, boxes and code, and what functions of the program compute, proved in it.
  Conditions: none beyond those that the theorems state. (Part 1.)
-/
import Derived.Below
import Derived.Laws.AppendOwn
import Derived.Laws.CopyRow
import Derived.Still
import Derived.StillTail
import Derived.Laws.StructEq
import Derived.Laws.MakeOwn
import Derived.Lib.AppendStr
import Derived.Laws.BytesString

set_option linter.unusedSectionVars false
set_option linter.unusedVariables false
set_option linter.unusedSimpArgs false
set_option linter.unnecessarySimpa false
set_option linter.defProp false

namespace Go.Ab
section
abbrev Ya:=@List.getElem?_eq_getElem
abbrev Yb:=@List.take_of_length_le
abbrev Yc:=@List.mem_of_getElem?
abbrev Yd:=@Nat.le_trans
abbrev Ye:=@List.getElem?_append_right
abbrev Yf:=@Option.bind_eq_some_iff
abbrev Yg:=@List.length_cons
abbrev Yh:=@List.mem_cons_of_mem
abbrev Yi:=@Nat.le_refl
abbrev Yj:=@List.mem_cons_self
abbrev Yk:=@Bool.and_eq_true
abbrev Yl:=@List.all_eq_true
abbrev Ym:=@Nat.lt_of_lt_of_le
abbrev Yn:=@List.mem_cons
abbrev Yo:=@List.getElem?_append_left
abbrev Yp:=@List.drop_eq_getElem_cons
abbrev Yq:=@List.length_append
abbrev Yr:=@List.getElem?_eq_some_iff
abbrev Ys:=@List.mem_append_right
abbrev Yt:=@Nat.pow_le_pow_right
abbrev Yu:=@Nat.mod_eq_of_lt
abbrev Yv:=@Nat.lt_or_ge
abbrev Yw:=@List.length_map
abbrev Yx:=@List.map_cons
abbrev Yy:=@List.mem_map
abbrev Yz:=@Array.getElem?_eq_getElem
abbrev Y0:=@List.getElem_mem
abbrev Y1:=@Nat.lt_succ_self
abbrev Y2:=@Nat.mul_le_mul_right
abbrev Y3:=@List.mem_append_left
abbrev Y4:=@Nat.zero_le
abbrev Y5:=@List.take_succ_eq_append_getElem
abbrev Y6:=@List.mem_flatMap
abbrev Y7:=@Option.bind_some
abbrev Y8:=@Int.natCast_zero
abbrev Y9:=@Option.map_eq_some_iff
abbrev Yaa:=@Nat.add_zero
abbrev Yab:=@List.mem_singleton
abbrev Yac:=@Nat.pow_succ
abbrev Yad:=@Bool.false_eq_true
abbrev Yae:=@List.getElem?_of_mem
abbrev Yaf:=@Nat.mul_comm
abbrev Yag:=@List.eq_nil_of_length_eq_zero
abbrev Yah:=@List.drop_length
abbrev Yai:=@List.set_append_right
abbrev Yaj:=@List.mem_append
abbrev Yak:=@List.getElem?_take
abbrev Yal:=@Nat.pos_of_ne_zero
abbrev Yam:=@List.length_nil
abbrev Yan:=@List.getElem?_map
abbrev Yao:=@Nat.mul_add
abbrev Yap:=@Nat.add_assoc
abbrev Yaq:=@List.getElem?_drop
abbrev Yar:=@Nat.zero_add
abbrev Yas:=@List.lookup_cons
abbrev Yat:=@List.drop_zero
abbrev Yau:=@List.take_append_drop
abbrev Yav:=@List.getElem?_cons_succ
abbrev Yaw:=@Nat.mul_assoc
abbrev Yax:=@List.map_append
abbrev Yay:=@List.not_mem_nil
abbrev Yaz:=@List.mem_of_mem_take
abbrev Ya0:=@Nat.mul_zero
abbrev Ya1:=@Option.map_some
abbrev Ya2:=@Nat.mul_le_mul_left
abbrev Ya3:=@List.length_take
abbrev Ya4:=@List.mapM_cons
abbrev Ya5:=@List.take_length
abbrev Ya6:=@Nat.lt_irrefl
abbrev Ya7:=@Array.getElem?_eq_some_iff
abbrev Ya8:=@List.length_dropLast
abbrev Ya9:=@List.drop_of_length_le
abbrev Yba:=@List.replicate_succ
abbrev Ybb:=@Nat.div_lt_iff_lt_mul
abbrev Ybc:=@List.append_assoc
abbrev Ybd:=@Nat.lt_trichotomy
abbrev Ybe:=@Nat.sub_self
abbrev Ybf:=@Nat.le_succ
abbrev Ybg:=@List.append_nil
abbrev Ybh:=@Nat.mod_lt
abbrev Ybi:=@Nat.div_lt_of_lt_mul
abbrev Ybj:=@Nat.add_comm
abbrev Ybk:=@List.all_cons
abbrev Ybl:=@List.map_nil
abbrev Ybm:=@List.map_map
abbrev Ybn:=@List.nil_append
abbrev Ybo:=@Nat.eq_zero_or_pos
abbrev Ybp:=@List.length_drop
abbrev Ybq:=@List.filter_cons
abbrev Ybr:=@Nat.pow_pos
abbrev Ybs:=@Nat.div_eq_of_lt
abbrev Ybt:=@List.take_append_of_le_length
abbrev Ybu:=@List.drop_append_of_le_length
abbrev Ybv:=@Nat.add_sub_cancel_left
abbrev Ybw:=@List.getElem?_cons_zero
abbrev Ybx:=@List.size_toArray
abbrev Yby:=@Nat.add_mul
abbrev Ybz:=@Array.getD_eq_getD_getElem?
abbrev Yb0:=@Bool.eq_iff_iff
abbrev Yb1:=@Nat.div_le_self
abbrev Yb2:=@Nat.pow_add
abbrev Yb3:=@Nat.div_div_eq_div_mul
abbrev Yb4:=@Array.getElem?_append_left
abbrev Yb5:=@Option.getD_some
abbrev Yb6:=@Option.isSome_none
abbrev Yb7:=@List.set_cons_zero
abbrev Yb8:=@Nat.le_div_iff_mul_le
abbrev Yb9:=@List.mem_of_mem_drop
abbrev Yca:=@Nat.div_add_mod
abbrev Ycb:=@Option.isSome_iff_exists
abbrev Ycc:=@List.replicate_append_replicate
abbrev Ycd:=@List.all_nil
abbrev Yce:=@Option.bind_eq_bind
abbrev Ycf:=@List.take_zero
abbrev Ycg:=@List.dropLast_concat_getLast
abbrev Ych:=@List.getElem?_toArray
abbrev Yci:=@Array.getElem?_toList
abbrev Ycj:=@List.length_replicate
abbrev Yck:=@Bool.or_eq_true
abbrev Ycl:=@Int.natCast_inj
abbrev Ycm:=@Nat.gcd_comm
abbrev Ycn:=@Nat.two_pow_add_eq_or_of_lt
abbrev Yco:=@List.take_add_one
abbrev Ycp:=@List.flatten_cons
abbrev Ycq:=@List.getD_eq_getElem?_getD
abbrev Ycr:=@Int.tdiv_eq_ediv_of_nonneg
abbrev Ycs:=@Int.tmod_eq_emod_of_nonneg
abbrev Yct:=@List.getElem?_zipIdx
abbrev Ycu:=@Option.isNone_iff_eq_none
abbrev Ycv:=@List.cons_append
abbrev Ycw:=@Nat.lt_log2_self
abbrev Ycx:=@Int.natCast_eq_zero
abbrev Ycy:=@List.getElem?_replicate
abbrev Ycz:=@List.set_eq_take_append_cons_drop
abbrev Yc0:=@Option.pure_def
abbrev Yc1:=@Nat.lt_of_le_of_lt
abbrev Yc2:=@Int.natAbs_natCast
abbrev Yc3:=@Nat.div_lt_self
abbrev Yc4:=@List.getElem?_set_self
abbrev Yc5:=@List.drop_eq_nil_of_le
abbrev Yc6:=@Int.toNat_natCast
abbrev Yc7:=@Nat.pow_mul
abbrev Yc8:=@Nat.mul_le_mul
abbrev Yc9:=@Nat.zero_mul
abbrev Yda:=@List.length_filter_le
abbrev Ydb:=@Nat.le_of_lt
abbrev Ydc:=@Nat.sub_zero
abbrev Ydd:=@List.dropWhile_append
abbrev Yde:=@List.zipIdx_cons
abbrev Ydf:=@List.getLast?_eq_some_getLast
abbrev Ydg:=@List.getElem?_set_ne
abbrev Ydh:=@List.count_le_length
abbrev Ydi:=@Nat.add_mul_div_left
abbrev Ydj:=@Bool.and_true
abbrev Ydk:=@Bool.true_and
abbrev Ydl:=@Array.length_toList
abbrev Ydm:=@List.mem_filter
abbrev Ydn:=@Nat.mul_one
abbrev Ydo:=@Int.toNat_of_nonneg
abbrev Ydp:=@List.length_pos_iff
abbrev Ydq:=@Nat.mul_lt_mul_of_pos_right
abbrev Ydr:=@Nat.pow_le_pow_left
abbrev Yds:=@Nat.min_eq_left
abbrev Ydt:=@Array.any_eq_true'
abbrev Ydu:=@Option.toList_some
abbrev Ydv:=@Option.map_map
abbrev Ydw:=@List.getLastD_eq_getLast?
abbrev Ydx:=@List.ext_getElem?
abbrev Ydy:=@Nat.add_lt_add_iff_right
abbrev Ydz:=@List.getElem_drop
abbrev Yd0:=@Nat.le_mul_of_pos_right
abbrev Yd1:=@Nat.one_mul
abbrev Yd2:=@Array.toList_map
abbrev Yd3:=@List.drop_append
abbrev Yd4:=@List.mem_reverse
abbrev Yd5:=@Array.getElem?_eq_none
abbrev Yd6:=@Int.natCast_mul
abbrev Yd7:=@Array.size_push
abbrev Yd8:=@List.find?_some
abbrev Yd9:=@List.nodup_cons
abbrev Yea:=@Option.map_none
abbrev Yeb:=@Int.natCast_add
abbrev Yec:=@List.map_set
abbrev Yed:=@Nat.mul_ne_zero
abbrev Yee:=@Nat.min_le_left
abbrev Yef:=@Nat.pow_zero
abbrev Yeg:=@Int.natCast_one
abbrev Yeh:=@List.sum_append
abbrev Yei:=@List.drop_drop
abbrev Yej:=@Rat.mkRat_self
abbrev Yek:=@Nat.log2_lt
abbrev Yel:=@List.sum_cons
open Go.RowKit
inductive BId where
 | loc (n:Nat)
 | bor (k:Nat)
 | fld (b:BId) (o:Nat)
 deriving DecidableEq,Repr
inductive Fl where
 | nl | fu | so | an
 deriving DecidableEq,Repr
inductive AV where
 | i (k:IntKind) (n:Int)
 | b (x:Bool)
 | s (l:List UInt8)
 | raw (v:Value)
 | agg (cs:List AV)
 | tup (vs:List AV)
 | sl (els:List (List AV)) (f:Fl)
 | ep (cs:List AV) (o:Nat)
 | bs (id:BId) (g z off n:Nat)
 | ptr (id:BId) (g z i o:Nat)
 | ifc (t:Nat) (x:AV)
 | fnp (f:Nat) (id:BId) (g z i o:Nat)
 | fnv (f:Nat) (x:AV)
 | dead
inductive Kind where
 | str | own | sh | mp
 deriving DecidableEq,Repr
structure Box where
 gen:Nat
 kind:Kind
 z:Nat
 els:List (List AV)
inductive CP (w:World) (S:Nat->Nat->Prop):Value->AV->Prop
 | i (k n):CP w S (.int k n) (.i k n)
 | b (x):CP w S (.bool x) (.b x)
 | s (l:List UInt8):CP w S (.string ⟨l.toArray⟩) (.s l)
 | raw (v):CP w S v (.raw v)
 | dead (v):CP w S v .dead
 | agg (vs:Array Value) (cs:List AV) (hl:vs.size=cs.length)
   (h1:∀(j:Nat) (v:Value),vs[j]? = some v->v.oneCell'=true)
   (h:∀(j:Nat) (v:Value) (c:AV),vs[j]? = some v->cs[j]? = some c->CP w S v c):CP w S (.agg vs) (.agg cs)
 | tup (vs:Array Value) (cs:List AV) (hl:vs.size=cs.length)
   (h:∀(j:Nat) (v:Value) (c:AV),vs[j]? = some v->cs[j]? = some c->CP w S v c):CP w S (.tuple vs) (.tup cs)
 | slnil (f) (hf:f=.nl\/f=.an):CP w S (.slice none 0 0) (.sl [] f)
 | slz (a:Addr) (f) (hf:f=.so\/f=.an):CP w S (.slice (some a) 0 0) (.sl [] f)
 | sl (blk off z cap:Nat) (els:List (List AV)) (f:Fl) (u:Nat->Nat->Value) (hf:f≠.nl) (hfull:f=.fu->cap=els.length)
   (hcap:els.length<=cap) (hmax:cap<=maxLen)
   (hz:∀(i:Nat) (r:List AV),els[i]? = some r->r.length=z)
   (hS:∀i j,i<els.length->j<z->S blk (off+i*z+j)/\w.cell? ⟨blk,off+i*z+j,none⟩=some (u i j)/\(u i j).oneCell'=true)
   (hc:∀(i:Nat) (r:List AV) (j:Nat) (c:AV),els[i]? = some r->r[j]? = some c->CP w S (u i j) c):CP w S (.slice (some ⟨blk,off,none⟩) els.length cap) (.sl els f)
 | ep (blk off:Nat) (cs:List AV) (o:Nat) (u:Nat->Value)
   (hS:∀j,j<cs.length->S blk (off+j)/\w.cell? ⟨blk,off+j,none⟩=some (u j)/\(u j).oneCell'=true)
   (hc:∀(j:Nat) (c:AV),cs[j]? = some c->CP w S (u j) c):CP w S (.pointer (some ⟨blk,off+o,none⟩)) (.ep cs o)
 | fnv (f v x) (h:CP w S v x):CP w S (.func (.func f) #[v] #[]) (.fnv f x)
def CP.mono{w w':World}{S S':Nat->Nat->Prop}{v:Value}{x:AV}(hS:∀k o,S k o->S' k o)
  (hw:∀k o u,S k o->w.cell? ⟨k,o,none⟩=some u->w'.cell? ⟨k,o,none⟩=some u) (h:CP w S v x):CP w' S' v x:=by
 induction h with
 | i k n=>exact .i k n
 | b x=>exact .b x
 | s l=>exact .s l
 | raw v=>exact .raw v
 | dead v=>exact .dead v
 | agg vs cs hl h1 _ ih=>exact .agg vs cs hl h1 ih
 | tup vs cs hl _ ih=>exact .tup vs cs hl ih
 | slnil f hf=>exact .slnil f hf
 | slz a f hf=>exact .slz a f hf
 | sl blk off z cap els f u hf hfull hcap hmax hz hSc _ ih=>
  exact .sl blk off z cap els f u hf hfull hcap hmax hz (fun i j hi hj=>⟨hS _ _ (hSc i j hi hj).1,hw _ _ _ (hSc i j hi hj).1 (hSc i j hi hj).2.1,(hSc i j hi hj).2.2⟩) ih
 | ep blk off cs o u hSc _ ih=>
  exact .ep blk off cs o u (fun j hj=>⟨hS _ _ (hSc j hj).1,hw _ _ _ (hSc j hj).1 (hSc j hj).2.1,(hSc j hj).2.2⟩) ih
 | fnv f v x _ ih=>exact .fnv f v x ih
abbrev Map:=Nat->Option (Option Nat)
def Zfc(w:World)(m:Option (Option Nat))(z off n:Nat)(v:Value):Prop:=
 match m with
 | none=>True
 | some none=>n=0/\off=0/\∃a:Option Addr,v=.slice a 0 0/\∀ad,a=some ad->ad.spot=none
 | some (some k)=>∃arr e cap,w.heap[k]? = some (.cells arr e (0,0))/\v=.slice (some ⟨k,off*z,none⟩) n cap/\n<=cap/\cap<=maxLen/\(off+cap)*z<=arr.size
def fnV(f:Nat)(v:Value):Value:=if f=0 then (match v with | .pointer (some a)=>.map (some a.block) | _=>.map none) else .func (.func f) #[] #[v]
def Zc1(m:Option (Option Nat))(z i o:Nat)(v:Value):Prop:=
 match m with
 | some (some k)=>v=.pointer (some ⟨k,i*z+o,none⟩)
 | _=>True
inductive C (w:World) (S:Nat->Nat->Prop) (M:Map) (clk:Nat):Value->AV->Prop
 | p {v x} (h:CP w S v x):C w S M clk v x
 | bs (id g z off n v) (hg:g<clk) (h:Zfc w (M g) z off n v) (h1:v.oneCell'=true):C w S M clk v (.bs id g z off n)
 | ptr (id g z i o v) (hg:g<clk) (h:Zc1 (M g) z i o v) (h1:v.oneCell'=true):C w S M clk v (.ptr id g z i o)
 | agg (vs:Array Value) (cs:List AV) (hl:vs.size=cs.length)
   (h1:∀(j:Nat) (v:Value),vs[j]? = some v->v.oneCell'=true)
   (h:∀(j:Nat) (v:Value) (c:AV),vs[j]? = some v->cs[j]? = some c->C w S M clk v c):C w S M clk (.agg vs) (.agg cs)
 | tup (vs:Array Value) (cs:List AV) (hl:vs.size=cs.length)
   (h:∀(j:Nat) (v:Value) (c:AV),vs[j]? = some v->cs[j]? = some c->C w S M clk v c):C w S M clk (.tuple vs) (.tup cs)
 | ifc (t v x) (h:C w S M clk v x):C w S M clk (.iface t v) (.ifc t x)
 | fnp (f id g z i o v) (hg:g<clk) (h:Zc1 (M g) z i o v) (h1:v.oneCell'=true):C w S M clk (fnV f v) (.fnp f id g z i o)
structure Ext (w:World) (S:Nat->Nat->Prop) (M:Map) (clk:Nat) (w':World) (S':Nat->Nat->Prop) (M':Map) (clk':Nat):Prop where
 hS:∀k o,S k o->S' k o
 hcell:∀k o u,S k o->w.cell? ⟨k,o,none⟩=some u->w'.cell? ⟨k,o,none⟩=some u
 hclk:clk<=clk'
 hM:∀g m,g<clk->M' g=some m->M g=some m
 hblk:∀g k arr e,g<clk->M' g=some (some k)->w.heap[k]? = some (.cells arr e (0,0))->∃arr',w'.heap[k]? = some (.cells arr' e (0,0))/\arr'.size=arr.size
def Ext.refl(w:World)(S:Nat->Nat->Prop)(M:Map)(clk:Nat):Ext w S M clk w S M clk:=
 ⟨fun _ _ h=>h,fun _ _ _ _ h=>h,Yi _,fun _ _ _ h=>h,fun _ _ arr _ _ _ h=>⟨arr,h,rfl⟩⟩
def Ext.trans{w w1 w2:World}{S S1 S2:Nat->Nat->Prop}{M M1 M2:Map}{c c1 c2:Nat}
  (h:Ext w S M c w1 S1 M1 c1) (h':Ext w1 S1 M1 c1 w2 S2 M2 c2):Ext w S M c w2 S2 M2 c2:=by
 refine⟨fun k o hs=>h'.hS _ _ (h.hS _ _ hs),fun k o u hs hc=>h'.hcell _ _ _ (h.hS _ _ hs) (h.hcell _ _ _ hs hc),Yd h.hclk h'.hclk,
  fun g m hg hm=>h.hM _ _ hg (h'.hM _ _ (Ym hg h.hclk) hm),fun g k arr e hg hm hb=>?_⟩
 have hg1:=Ym hg h.hclk;obtain⟨arr1,h1,e1⟩:=h.hblk g k arr e hg (h'.hM _ _ hg1 hm) hb;obtain⟨arr2,h2,e2⟩:=h'.hblk g k arr1 e hg1 hm h1
 grind
def zzt(f:Nat)(v:Value):(fnV f v).oneCell'=true:=by
 unfold fnV;split
 ·split<;>rfl
 ·rfl
def znd{f:Nat}(hf:f≠0)(v:Value):fnV f v=.func (.func f) #[] #[v]:=if_neg hf
def C.mono{w w':World}{S S':Nat->Nat->Prop}{M M':Map}{clk clk':Nat}{v:Value}{x:AV}
  (hx:Ext w S M clk w' S' M' clk') (h:C w S M clk v x):C w' S' M' clk' v x:=by
 induction h with
 | p h=>exact .p (h.mono hx.hS hx.hcell)
 | bs id g z off n v hg h h1=>
  refine .bs id g z off n v (Ym hg hx.hclk) ?_ h1;unfold Zfc at *
  cases hm:M' g with
  | none=>trivial
  | some m=>
   rw[hx.hM g m hg hm]at h;cases m with
   | none=>exact h
   | some k=>
    obtain⟨arr,e,cap,hb,hv,h1,h2,h3⟩:=h;obtain⟨arr',hb',he⟩:=hx.hblk g k arr e hg hm hb
    grind
 | ptr id g z i o v hg h h1=>
  refine .ptr id g z i o v (Ym hg hx.hclk) ?_ h1;cases hm:M' g with
  | none=>trivial
  | some m=>
   rw[hx.hM g m hg hm]at h;omega
 | agg vs cs hl h1 _ ih=>exact .agg vs cs hl h1 ih
 | tup vs cs hl _ ih=>exact .tup vs cs hl ih
 | ifc t v x _ ih=>exact .ifc t v x ih
 | fnp f id g z i o v hg h h1=>
  refine .fnp f id g z i o v (Ym hg hx.hclk) ?_ h1;cases hm:M' g with
  | none=>trivial
  | some m=>
   rw[hx.hM g m hg hm]at h;omega
def Zix(w:World)(S:Nat->Nat->Prop)(M:Map)(clk:Nat)(bx:Box)(k:Nat):Prop:=
 ∃arr e,w.heap[k]? = some (.cells arr e (0,0))/\bx.els.length*bx.z<=arr.size /\
   (∀(i:Nat) (r:List AV) (j:Nat) (c:AV),bx.els[i]? = some r->r[j]? = some c->∃u,arr[i*bx.z+j]? = some u/\u.oneCell'=true /\
    C w S M clk u c/\(bx.kind≠.str->CP w S u c)) /\
   (bx.kind≠.sh->∀o,¬ S k o)/\(∀o,S k o->o<bx.els.length*bx.z)
def Zd1(w:World)(S:Nat->Nat->Prop):List (List AV)->List MapEntry->Prop
 | [],[]=>True
 | [x,y]::r,e::es=>CP w S e.key x/\CP w S e.val y/\Zd1 w S r es
 | _,_=>False
def Zlr(w:World)(S:Nat->Nat->Prop)(bx:Box)(k:Nat):Prop:=
 ∃es c,w.heap[k]? = some (.map es c)/\Zd1 w S bx.els es.toList/\(∀o,¬ S k o)
theorem Zd1.map{w w':World}{S S':Nat->Nat->Prop}{f:AV->AV}(hf:∀v x,CP w S v x->CP w' S' v (f x)):∀{l:List (List AV)} {es:List MapEntry},Zd1 w S l es->Zd1 w' S' (l.map fun r=>r.map f) es
 | [],[],_=>trivial
 | [x,y]::r,e::es,h=>⟨hf _ _ h.1,hf _ _ h.2.1,Zd1.map hf h.2.2⟩
 | [],_::_,h=>h.elim
 | [_,_]::_,[],h=>h.elim
 | []::_,_,h=>by cases ‹List MapEntry›<;>exact h.elim
 | [_]::_,_,h=>by cases ‹List MapEntry›<;>exact h.elim
 | (_::_::_::_)::_,_,h=>by cases ‹List MapEntry›<;>exact h.elim
def Zd1.mono{w w':World}{S S':Nat->Nat->Prop}{l:List (List AV)}{es:List MapEntry}(hS:∀k o,S k o->S' k o)
  (hw:∀k o u,S k o->w.cell? ⟨k,o,none⟩=some u->w'.cell? ⟨k,o,none⟩=some u) (h:Zd1 w S l es):Zd1 w' S' l es:=by
 have:=Zd1.map (f:=id) (fun v x hv=>(hv.mono hS hw:CP w' S' v x)) h;simpa using this
theorem Zd1.snoc{w:World}{S:Nat->Nat->Prop}{x y:AV}{e:MapEntry}(h1:CP w S e.key x)(h2:CP w S e.val y):∀{l:List (List AV)} {es:List MapEntry},Zd1 w S l es->Zd1 w S (l++[[x,y]]) (es++[e])
 | [],[],_=>⟨h1,h2,trivial⟩
 | [_,_]::r,e::es,h=>⟨h.1,h.2.1,Zd1.snoc h1 h2 h.2.2⟩
 | [],_::_,h=>h.elim
 | [_,_]::_,[],h=>h.elim
 | []::_,_,h=>by cases ‹List MapEntry›<;>exact h.elim
 | [_]::_,_,h=>by cases ‹List MapEntry›<;>exact h.elim
 | (_::_::_::_)::_,_,h=>by cases ‹List MapEntry›<;>exact h.elim
def Zbt(w:World)(S:Nat->Nat->Prop)(M:Map)(clk:Nat)(bx:Box):Prop:=
 bx.gen<clk/\(∀r∈bx.els,r.length=bx.z)/\∃m,M bx.gen=some m /\
 match m with
 | none=>bx.els=[]/\bx.kind≠.str/\bx.kind≠.mp
 | some k=>if bx.kind=.mp then Zlr w S bx k else Zix w S M clk bx k
def ck{p:Prop}[Decidable p]{A B:Prop}(hn:¬ p)(h:B):if p then A else B:=by rwa [if_neg hn]
def ck'{p:Prop}[Decidable p]{A B:Prop}(hn:¬ p)(h:if p then A else B):B:=by rwa [if_neg hn]at h
def ckP{p:Prop}[Decidable p]{A B:Prop}(hn:p)(h:A):if p then A else B:=by rwa [if_pos hn]
def ckP'{p:Prop}[Decidable p]{A B:Prop}(hn:p)(h:if p then A else B):A:=by rwa [if_pos hn]at h
abbrev Heap:=List (BId×Box)
abbrev Env:=List (Nat×AV)
def Heap.get(h:Heap)(b:BId):Option Box:=h.lookup b
def Env.get(e:Env)(t:Nat):AV:=(e.lookup t).getD .dead
structure HeapRel (w:World) (S:Nat->Nat->Prop) (M:Map) (clk:Nat) (h:Heap):Prop where
 box:∀b bx,h.lookup b=some bx->Zbt w S M clk bx
 live:∀g m,M g=some m->∃b bx,h.lookup b=some bx/\bx.gen=g
 gens:∀b bx b' bx',h.lookup b=some bx->h.lookup b'=some bx'->bx.gen=bx'.gen->b=b'
 inj:∀g g' k,M g=some (some k)->M g'=some (some k)->g=g'
def Zey(w:World)(S:Nat->Nat->Prop)(M:Map)(clk:Nat)(e:Nat->AV)(a:Act):Prop:=
 ∀t,C w S M clk (a.tmps.getD t undef) (e t)
structure St where
 env:Env
 heap:Heap
 clk:Nat
structure Cx where
 P:Program
 nt:Nat
 W0:World
 S0:Nat->Nat->Prop
 M0:Map
 clk0:Nat
def Cx.brw(cx:Cx)(k:Nat):Prop:=∃g,cx.M0 g=some (some k)
structure Fr (W0 w:World) (brw:Nat->Prop):Prop where
 os:w.os=W0.os
 tape:w.tape=W0.tape
 output:w.output=W0.output
 size:W0.heap.size<=w.heap.size
 block:∀k,k<W0.heap.size->¬ brw k->w.heap[k]? = W0.heap[k]?
structure WRel (cx:Cx) (S:Nat->Nat->Prop) (M:Map) (clk:Nat) (h:Heap) (w:World):Prop where
 heap:HeapRel w S M clk h
 ext:Ext cx.W0 cx.S0 cx.M0 cx.clk0 w S M clk
 fr:Fr cx.W0 w cx.brw
 Snew:∀k o,S k o->cx.S0 k o\/cx.W0.heap.size<=k\/cx.brw k
 Slt:∀k o,S k o->k<w.heap.size
 Mnew:∀g k,M g=some (some k)->k<w.heap.size/\(cx.W0.heap.size<=k\/cx.brw k)
structure RelF (cx:Cx) (S:Nat->Nat->Prop) (M:Map) (clk:Nat) (h:Heap) (ρ:Nat->AV) (a:Act) (w:World):Prop where
 size:a.tmps.size=cx.nt
 defers:a.defers=[]
 env:Zey w S M clk ρ a
 wr:WRel cx S M clk h w
def Rel(cx:Cx)(st:St)(a:Act)(w:World):Prop:=∃S M,RelF cx S M st.clk st.heap st.env.get a w
end
section
open Go.RowKit
inductive Opd where
 | t (n:Nat)
 | c (x:AV)
inductive Leaf where
 | int | bool | str
 deriving DecidableEq,Repr
inductive KTy where
 | int
 | fs (ls:List (Nat×Leaf))
inductive XOp where
 | mmap
 | mupd (k:KTy)
 | bad
 | mkf (f:Nat)
 | mkv (f:Nat)
 | box (n:Nat)
 | cpy
 | bstr
 | arsl (n:Nat)
 | apps
inductive AOp where
 | mov (x:Opd)
 | pick (c a b:Opd)
 | build (zs:List AV) (parts:List (Nat×Nat×Opd))
 | load (n:Option Nat) (x:Opd)
 | bin (op:BinOp) (x y:Opd)
 | eqs (neq:Bool) (ls:List (Nat×Leaf)) (x y:Opd)
 | eqnil (neq:Bool) (x:Opd)
 | eqb (neq:Bool) (x y:Opd)
 | un (op:UnOp) (x:Opd)
 | conv (k:IntKind) (x:Opd)
 | slc (z:Nat) (x:Opd) (lo hi mx:Option Opd)
 | slstr (x:Opd) (lo hi:Option Opd)
 | fad (off:Nat) (x:Opd)
 | fld (off:Nat) (n:Option Nat) (x:Opd)
 | iad (z:Nat) (x i:Opd)
 | iaa (z len:Nat) (x i:Opd)
 | ixs (x i:Opd)
 | ixa (z len:Nat) (n:Option Nat) (x i:Opd)
 | len (x:Opd)
 | lens (x:Opd)
 | lenc (n:Nat)
 | mm (mx:Bool) (xs:List Opd)
 | ext (x:Opd) (ix:Nat)
 | nilc (x:Opd)
 | alloc (zs:List AV)
 | bsl (z:Nat) (zs:List AV) (len:Nat) (parts:List (Nat×Opd))
 | store (n:Nat) (x v:Opd)
 | mks (z:Nat) (zs:List AV) (len cap:Opd)
 | app (z:Nat) (x y:Opd)
 | cpy (z:Nat) (x y:Opd)
 | bstr (x:Opd)
 | call (f:Nat) (args:List Opd)
 | ifc (t:Nat) (x:Opd)
 | inv (nm:String) (k u:Nat) (r:Opd) (args:List Opd)
 | xop (k:XOp) (xs:List Opd)
 | look (k:KTy) (zv:AV) (ok:Bool) (x i:Opd)
structure AO where
 dst:Option Nat
 guard:Option (Nat×Bool)
 op:AOp
def ev(e:Nat->AV):Opd->AV
 | .t n=>e n
 | .c x=>x
def cellsOf:AV->Option (List AV)
 | .agg cs=>some cs
 | .raw v=>if v.oneCell' then some [.raw v] else none
 | .tup _ | .dead | .ifc .. => none
 | x=>some [x]
def Zej(n:Option Nat)(cs:List AV)(o:Nat):Option AV:=
 match n with
 | none=>cs[o]?
 | some k=>if o+k<=cs.length then some (.agg ((cs.drop o).take k)) else none
def Zf6:List AV->List (Nat×Nat×AV)->Option (List AV)
 | cs,[]=>some cs
 | cs,(off,size,x)::rest=>
  match cellsOf x with
  | none=>none
  | some vs=>if vs.length=size/\off+size<=cs.length then Zf6 (cs.take off++(vs++cs.drop (off+size))) rest else none
def Zac(h:Heap)(id:BId)(g z:Nat):Option Box:=
 match h.lookup id with
 | some bx=>if bx.gen=g/\bx.z=z/\bx.kind≠.mp then some bx else none
 | none=>none
def Zfd(op:BinOp)(k:IntKind)(a b:Int):Option AV:=
 match op with
 | .add=>some (.i k (k.wrap (a+b)))
 | .sub=>some (.i k (k.wrap (a-b)))
 | .mul=>some (.i k (k.wrap (a*b)))
 | .quo=>if b=0 then none else some (.i k (k.wrap (a.tdiv b)))
 | .rem=>if b=0 then none else some (.i k (a.tmod b))
 | .and=>some (.i k (k.wrap (BitVec.ofInt k.bits a &&& BitVec.ofInt k.bits b).toNat))
 | .or=>some (.i k (k.wrap (BitVec.ofInt k.bits a ||| BitVec.ofInt k.bits b).toNat))
 | .xor=>some (.i k (k.wrap (BitVec.ofInt k.bits a ^^^ BitVec.ofInt k.bits b).toNat))
 | .andNot=>some (.i k (k.wrap (BitVec.ofInt k.bits a &&& ~~~ BitVec.ofInt k.bits b).toNat))
 | .eql=>some (.b (a == b))
 | .neq=>some (.b (a != b))
 | .lss=>some (.b (a<b))
 | .leq=>some (.b (a<=b))
 | .gtr=>some (.b (a > b))
 | .geq=>some (.b (a>=b))
 | _=>none
def Zjq(op:BinOp)(a b:List UInt8):Option AV:=
 match op with
 | .add=>if a.length+b.length<=9223372036854775807 then some (.s (a++b)) else none
 | .eql=>some (.b (a == b))
 | .neq=>some (.b (!(a == b)))
 | .lss=>some (.b (Op.bytesLess a b))
 | .leq=>some (.b (Op.bytesLess a b || a == b))
 | .gtr=>some (.b (!(Op.bytesLess a b || a == b)))
 | .geq=>some (.b (!Op.bytesLess a b))
 | _=>none
def Z5(op:BinOp)(x y:AV):Option AV:=
 match op,x,y with
 | .shl,.i k a,.i _ b=>if b<0 then none else some (.i k (k.wrap (a*2^(min b.toNat k.bits))))
 | .shr,.i k a,.i _ b=>if b<0 then none else some (.i k (a.fdiv (2^(min b.toNat k.bits))))
 | op,.i k a,.i k' b=>if k=k' then Zfd op k a b else none
 | op,.s a,.s b=>Zjq op a b
 | _,_,_=>none
def Zdk:Leaf->AV->AV->Option Bool
 | .int,.i k a,.i k' b=>if k=k' then some (a == b) else none
 | .bool,.b a,.b b=>some (a == b)
 | .str,.s a,.s b=>some (a == b)
 | _,_,_=>none
def eqL:List (Nat×Leaf)->List AV->List AV->Option Bool
 | [],_,_=>some true
 | (o,l)::rest,xs,ys=>
  match xs[o]?,ys[o]? with
  | some x,some y=>(Zdk l x y).bind fun t=>(eqL rest xs ys).map fun u=>t&&u
  | _,_=>none
def pureC:AV->Bool
 | .bs .. | .ptr .. | .fnp .. | .agg _ | .tup _ | .ifc .. => false
 | _=>true
def noRef:AV->Bool
 | .bs .. | .ptr .. | .fnp .. | .tup _ | .ifc .. => false
 | .agg cs=>cs.all pureC
 | _=>true
def Zdq:KTy->AV->AV->Option Bool
 | .int,x,y=>Zdk .int x y
 | .fs ls,.agg xs,.agg ys=>eqL ls xs ys
 | _,_,_=>none
def Zfe(k:KTy)(x:AV):List (List AV)->Option (Option AV)
 | []=>some none
 | [y,v]::r=>(Zdq k x y).bind fun b=>if b then some (some v) else Zfe k x r
 | _::_=>none
def Zff(h:Heap)(id:BId)(g:Nat):Option Box:=
 match h.lookup id with
 | some bx=>if bx.gen=g/\bx.z=2/\bx.kind=.mp then some bx else none
 | none=>none
def Zd2(k:KTy)(zv:AV)(ok:Bool)(h:Heap)(x i:AV):Option AV:=
 match x with
 | .fnp 0 id g 2 0 0=>
  (Zff h id g).bind fun bx=>if (Zdq k i i).isSome&&noRef i then (Zfe k i bx.els).map fun r=>
   if ok then .tup [r.getD zv,.b r.isSome] else r.getD zv else none
 | _=>none
def mm2(mx:Bool)(x y:AV):Option AV:=
 match x,y with
 | .i k a,.i k' b=>if k=k' then some (.i k (if mx then (if b > a then b else a) else (if b<a then b else a))) else none
 | _,_=>none
def mmL(mx:Bool):AV->List AV->Option AV
 | x,[]=>some x
 | x,y::r=>(mm2 mx x y).bind fun z=>mmL mx z r
def bnd(x:AV)(y:Int):Option Nat:=
 match x with
 | .i _ n=>if 0<=n/\n<=y then some n.toNat else none
 | _=>none
def Zgl(c a b:AV):Option AV:=
 match c with
 | .b t=>some (if t then a else b)
 | _=>none
def Ze4(n:Option Nat)(h:Heap):AV->Option AV
 | .ep cs o=>Zej n cs o
 | .ptr id g z i o=>(Zac h id g z).bind fun bx=>(bx.els[i]?).bind fun r=>Zej n r o
 | _=>none
def Zg9(neq:Bool)(ls:List (Nat×Leaf))(x y:AV):Option AV:=
 match x,y with
 | .agg xs,.agg ys=>(eqL ls xs ys).map fun t=>.b (if neq then !t else t)
 | _,_=>none
def Zer(neq:Bool):AV->Option AV
 | .sl _ .nl=>some (.b (!neq))
 | .sl _ .fu | .sl _ .so=>some (.b neq)
 | .sl (_::_) .an=>some (.b neq)
 | _=>none
def Zha(neq:Bool)(x y:AV):Option AV:=
 match x,y with
 | .b s,.b t=>some (.b (if neq then s != t else s == t))
 | _,_=>none
def Zgm(op:UnOp)(x:AV):Option AV:=
 match op,x with
 | .neg,.i k n=>some (.i k (k.wrap (0-n)))
 | .not,.b t=>some (.b (!t))
 | _,_=>none
def Zbd(k:IntKind):AV->Option AV
 | .i _ n=>some (.i k (k.wrap n))
 | _=>none
def Zew(x:Option AV)(dflt y:Nat):Option Nat:=
 match x with
 | none=>some dflt
 | some v=>bnd v y
def Zf7(z:Nat)(h:Heap)(x:AV)(lo hi mx:Option AV):Option AV:=
 match x with
 | .sl els f=>
  (Zew hi els.length els.length).bind fun k=>
  (Zew mx k els.length).bind fun m=>
  (Zew lo 0 k).bind fun l=>
   if k<=m/\(els.head?.all fun r=>r.length=z) then some (.sl ((els.take k).drop l) (if f=.nl then .nl else .an)) else none
 | .bs id g z' off n=>
  (Zac h id g z').bind fun _=>
  (Zew hi n n).bind fun k=>
  (Zew lo 0 k).bind fun l=>
   if z'=z/\mx.isNone then
    if l=0 then some (.bs id g z off k)
    else if l<k then some (.bs id g z (off+l) (k-l)) else some (.sl [] .an)
   else none
 | _=>none
def Zes(x:AV)(lo hi:Option AV):Option AV:=
 match x with
 | .s l=>(Zew hi l.length l.length).bind fun h=>(Zew lo 0 h).map fun k=>.s ((l.take h).drop k)
 | _=>none
def Zez(h:Heap)(id:BId)(g z i:Nat):Bool:=
 match Zac h id g z with
 | some bx=>i<bx.els.length
 | none=>false
def Zgn(off:Nat)(h:Heap):AV->Option AV
 | .ep cs o=>some (.ep cs (o+off))
 | .ptr id g z i o=>if Zez h id g z i then some (.ptr id g z i (o+off)) else none
 | _=>none
def Zhb(off:Nat)(n:Option Nat):AV->Option AV
 | .agg cs=>Zej n cs off
 | _=>none
def Zgo(z:Nat)(h:Heap)(x i:AV):Option AV:=
 match x,i with
 | .sl els _,.i _ n=>if 0<=n/\n<els.length then (els[n.toNat]?).bind fun r=>if r.length=z then some (.ep r 0) else none else none
 | .bs id g z' off len,.i _ n=>(Zac h id g z').bind fun _=>if z'=z/\0<=n/\n<len then some (.ptr id g z (off+n.toNat) 0) else none
 | _,_=>none
def Zgp(z len:Nat)(h:Heap)(x i:AV):Option AV:=
 match x,i with
 | .ep cs o,.i _ n=>if 0<=n/\n<len then some (.ep cs (o+n.toNat*z)) else none
 | .ptr id g z' j o,.i _ n=>if Zez h id g z' j/\0<=n/\n<len then some (.ptr id g z' j (o+n.toNat*z)) else none
 | _,_=>none
def Zhc(x i:AV):Option AV:=
 match x,i with
 | .s l,.i _ n=>if 0<=n/\n<l.length then (l[n.toNat]?).map fun b=>.i .u8 b.toNat else none
 | _,_=>none
def Zhd(z len:Nat)(n:Option Nat)(x i:AV):Option AV:=
 match x,i with
 | .agg cs,.i _ j=>if 0<=j/\j<len then Zej n cs (j.toNat*z) else none
 | _,_=>none
def Zgq(h:Heap):AV->Option AV
 | .sl els _=>some (.i .i64 els.length)
 | .bs id g z _ n=>(Zac h id g z).map fun _=>.i .i64 n
 | _=>none
def Zfs:AV->Option AV
 | .s l=>some (.i .i64 l.length)
 | _=>none
def Zjr(mx:Bool):List AV->Option AV
 | []=>none
 | x::r=>mmL mx x r
def Zhe(ix:Nat):AV->Option AV
 | .tup vs=>vs[ix]?
 | _=>none
def Ze5(h:Heap):AV->Option AV
 | .ep cs o=>some (.ep cs o)
 | .ptr id g z i o=>if Zez h id g z i then some (.ptr id g z i o) else none
 | .fnp f id g z i o=>if f≠0 then some (.fnp f id g z i o) else none
 | .fnv f x=>some (.fnv f x)
 | _=>none
def evO(e:Nat->AV):Option Opd->Option AV
 | none=>none
 | some x=>some (ev e x)
def Zi(op:AOp)(e:Nat->AV)(h:Heap):Option AV:=
 match op with
 | .mov x=>some (ev e x)
 | .pick c a b=>Zgl (ev e c) (ev e a) (ev e b)
 | .build zs parts=>(Zf6 zs (parts.map fun p=>(p.1,p.2.1,ev e p.2.2))).map .agg
 | .load n x=>Ze4 n h (ev e x)
 | .bin op x y=>Z5 op (ev e x) (ev e y)
 | .eqs neq ls x y=>Zg9 neq ls (ev e x) (ev e y)
 | .eqnil neq x=>Zer neq (ev e x)
 | .eqb neq x y=>Zha neq (ev e x) (ev e y)
 | .un op x=>Zgm op (ev e x)
 | .conv k x=>Zbd k (ev e x)
 | .slc z x lo hi mx=>Zf7 z h (ev e x) (evO e lo) (evO e hi) (evO e mx)
 | .slstr x lo hi=>Zes (ev e x) (evO e lo) (evO e hi)
 | .fad off x=>Zgn off h (ev e x)
 | .fld off n x=>Zhb off n (ev e x)
 | .iad z x i=>Zgo z h (ev e x) (ev e i)
 | .iaa z len x i=>Zgp z len h (ev e x) (ev e i)
 | .ixs x i=>Zhc (ev e x) (ev e i)
 | .ixa z len n x i=>Zhd z len n (ev e x) (ev e i)
 | .len x=>Zgq h (ev e x)
 | .lens x=>Zfs (ev e x)
 | .lenc n=>some (.i .i64 n)
 | .mm mx xs=>Zjr mx (xs.map (ev e))
 | .ext x ix=>Zhe ix (ev e x)
 | .nilc x=>Ze5 h (ev e x)
 | .ifc t x=>some (.ifc t (ev e x))
 | .look k zv ok x i=>Zd2 k zv ok h (ev e x) (ev e i)
 | _=>none
def Zdi:Value->Option AV
 | .int k n=>some (.i k n)
 | .bool t=>some (.b t)
 | .string s=>some (.s s.data.toList)
 | .slice none 0 0=>some (.sl [] .nl)
 | .agg _ | .tuple _=>none
 | v=>some (.raw v)
def Zj:Operand->Option Opd
 | .tmp t=>some (.t t)
 | .const v=>(Zdi v).map .c
 | .func f=>some (.c (.raw (.func (.func f) #[] #[])))
 | .global _=>none
def Zc2:Option Operand->Option (Option Opd)
 | none=>some none
 | some x=>(Zj x).map some
def Zbu:List Operand->Option (List Opd)
 | []=>some []
 | x::r=>(Zj x).bind fun a=>(Zbu r).map fun b=>a::b
def zeros(P:Program)(t:TypeId):Option (List AV):=
 ((P.info? t).bind (·.zero)).bind fun v=>(v.cells.toList.mapM Zdi)
def Zgr:TypeDesc->Bool
 | .struct _ | .array _ _=>true
 | _=>false
def Zek(P:Program)(t:TypeId):Option (Option Nat):=
 (P.underlying t).bind fun d=>(P.info? t).map fun inf=>if Zgr d then some inf.size else none
def Zaq(P:Program)(t:TypeId):Option Nat:=(P.info? t).map (·.size)
def Zgs(P:Program)(t:TypeId):Option Leaf:=
 match P.underlying t with
 | some (.int _)=>some .int
 | some .bool=>some .bool
 | some .string=>some .str
 | _=>none
def leaves(P:Program):List Field->Option (List (Nat×Leaf))
 | []=>some []
 | f::r=>if f.name="_" then none else (Zgs P f.type).bind fun l=>(leaves P r).map fun b=>(f.offset,l)::b
def Zbw(P:Program)(fields:Array Field):List (Nat×Operand)->Option (List (Nat×Nat×Opd))
 | []=>some []
 | (i,x)::r=>
  match fields[i]? with
  | none=>none
  | some f=>(Zaq P f.type).bind fun n=>(Zj x).bind fun a=>(Zbw P fields r).map fun b=>(f.offset,n,a)::b
def Zb7(n:Nat):List (Nat×Operand)->Option (List (Nat×Nat×Opd))
 | []=>some []
 | (i,x)::r=>(Zj x).bind fun a=>(Zb7 n r).map fun b=>(i*n,n,a)::b
def Zcg:List (Nat×Operand)->Option (List (Nat×Opd))
 | []=>some []
 | (i,x)::r=>(Zj x).bind fun a=>(Zcg r).map fun b=>(i,a)::b
def Zgt:Operand->Bool
 | .const (.slice none 0 0)=>true
 | _=>false
def Zma:TypeDesc->Bool
 | .interface _=>true
 | _=>false
def Zeb(P:Program)(t:TypeId):Option KTy:=
 match P.underlying t with
 | some (.int _)=>some .int
 | some (.struct fs)=>if P.stoodInHeld t then none else (leaves P fs.toList).map .fs
 | _=>none
def Zhl(P:Program)(t:TypeId):Option AV:=
 ((P.info? t).bind (·.zero)).bind Zdi
def Zbe(P:Program)(op:Op):Option AOp:=
 match op with
 | .move x | .assign x=>(Zj x).map .mov
 | .pick c a b=>(Zj c).bind fun c=>(Zj a).bind fun a=>(Zj b).map fun b=>.pick c a b
 | .build t parts=>
  match P.underlying t with
  | some (.struct fields)=>if fields.toList.all fun f=>(Zaq P f.type).isSome then (zeros P t).bind fun zs=>(Zbw P fields parts.toList).map fun ps=>.build zs ps else none
  | some (.array _ e)=>(Zaq P e).bind fun n=>(zeros P t).bind fun zs=>(Zb7 n parts.toList).map fun ps=>.build zs ps
  | _=>none
 | .load t x=>(Zek P t).bind fun n=>(Zj x).map fun x=>.load n x
 | .binOp op t x y _=>
  (Zj x).bind fun a=>(Zj y).bind fun b=>
   match P.underlying t with
   | some (.int _) | some .string=>some (.bin op a b)
   | some .bool=>match op with | .eql=>some (.eqb false a b) | .neq=>some (.eqb true a b) | _=>none
   | some (.struct fs)=>
    if !P.eqGuardType P.depth t&&!P.stoodInHeld t then
     match op with
     | .eql=>(leaves P fs.toList).map fun ls=>.eqs false ls a b
     | .neq=>(leaves P fs.toList).map fun ls=>.eqs true ls a b
     | _=>none
    else none
   | some (.slice _)=>
    if Zgt y then match op with | .eql=>some (.eqnil false a) | .neq=>some (.eqnil true a) | _=>none else none
   | _=>none
 | .unOp op _ x=>(Zj x).map fun a=>.un op a
 | .convert s d x=>
  match P.underlying s,P.underlying d with
  | some (.int _),some (.int k)=>(Zj x).map fun a=>.conv k a
  | some (.slice e),some .string=>match P.underlying e with | some (.int .u8)=>(Zj x).map .bstr | _=>none
  | _,_=>none
 | .slice t x lo hi mx=>
  match P.underlying t with
  | some (.slice e)=>(Zaq P e).bind fun z=>(Zj x).bind fun x=>(Zc2 lo).bind fun lo=>(Zc2 hi).bind fun hi=>(Zc2 mx).bind fun mx=>if hi.isNone&&mx.isSome then none else some (.slc z x lo hi mx)
  | some .string=>if mx.isNone then (Zj x).bind fun x=>(Zc2 lo).bind fun lo=>(Zc2 hi).map fun hi=>.slstr x lo hi else none
  | _=>none
 | .fieldAddr t x i=>
  match P.underlying t with
  | some (.struct fields)=>match fields[i]? with
   | some f=>(Zaq P f.type).bind fun n=>if n=0 then none else (Zj x).map fun x=>.fad f.offset x
   | none=>none
  | _=>none
 | .field t x i=>
  match P.underlying t with
  | some (.struct fields)=>match fields[i]? with
   | some f=>(Zek P f.type).bind fun n=>(Zj x).map fun x=>.fld f.offset n x
   | none=>none
  | _=>none
 | .indexAddr t x i=>
  match P.underlying t with
  | some (.slice e)=>(Zaq P e).bind fun z=>(Zj x).bind fun x=>(Zj i).map fun i=>.iad z x i
  | some (.array n e)=>(Zaq P e).bind fun z=>(Zj x).bind fun x=>(Zj i).map fun i=>.iaa z n x i
  | _=>none
 | .index t x i=>
  match P.underlying t with
  | some .string=>(Zj x).bind fun x=>(Zj i).map fun i=>.ixs x i
  | some (.array n e)=>(Zaq P e).bind fun z=>(Zek P e).bind fun k=>(Zj x).bind fun x=>(Zj i).map fun i=>.ixa z n k x i
  | _=>none
 | .extract x i=>(Zj x).map fun x=>.ext x i
 | .nilCheck x=>(Zj x).map fun x=>.nilc x
 | .alloc t=>(zeros P t).map fun zs=>.alloc zs
 | .buildSlice t len parts=>
  match P.underlying t with
  | some (.slice e)=>(Zaq P e).bind fun z=>if len*z<=16777216/\z≠0 then (zeros P e).bind fun zs=>if zs.length=z then (Zcg parts.toList).map fun ps=>.bsl z zs len ps else none else none
  | _=>none
 | .store t x v=>(Zaq P t).bind fun n=>(Zj x).bind fun x=>(Zj v).map fun v=>.store n x v
 | .makeSlice t l c=>
  match P.underlying t with
  | some (.slice e)=>match P.info? e with
   | some inf=>if inf.size≠0/\inf.bytes<=32768 then (zeros P e).bind fun zs=>if zs.length=inf.size then (Zj l).bind fun l=>(Zj c).map fun c=>.mks inf.size zs l c else none else none
   | none=>none
  | _=>none
 | .call { callee:=.builtin b,args,argTypes }=>
  match b,args.toList,argTypes.toList with
  | .len,[x],[t]=>
   (match P.underlying t with
   | some .string=>(Zj x).map .lens
   | some (.slice _)=>(Zj x).map .len
   | some (.array n _)=>some (.lenc n)
   | _=>none)
  | .min,xs,_=>(Zbu xs).bind fun l=>if l.isEmpty then none else some (.mm false l)
  | .max,xs,_=>(Zbu xs).bind fun l=>if l.isEmpty then none else some (.mm true l)
  | .append,[x,y],[t,u]=>
   if t=u then
    match P.underlying t with
    | some (.slice e)=>match P.info? e with
     | some inf=>if inf.size≠0/\(inf.bytes<=32768/\(inf.size=3->inf.bytes<=56))/\inf.zero.any (·.cells.size=inf.size) then (Zj x).bind fun x=>(Zj y).map fun y=>.app inf.size x y else none
     | none=>none
    | _=>none
   else none
  | .copy,[x,y],[t,u]=>
   if t=u then
    match P.underlying t with
    | some (.slice e)=>(Zaq P e).bind fun z=>if z≠0 then (Zj x).bind fun x=>(Zj y).map fun y=>.cpy z x y else none
    | _=>none
   else none
  | _,_,_=>none
 | .call { callee:=.value (.func f),args,argTypes:=_ }=>(Zbu args.toList).map fun l=>.call f l
 | .call { callee:=.value (.tmp t),args,argTypes:=_ }=>(Zbu args.toList).map fun l=>.inv "()" 0 1 (.t t) l
 | .call { callee:=.invoke r nm,args,argTypes:=_ }=>(Zj r).bind fun r=>(Zbu args.toList).map fun l=>.inv nm 0 0 r l
 | .makeInterface t x=>
  match P.underlying t with
  | some d=>if Zma d then none else (Zj x).map fun x=>.ifc t x
  | none=>none
 | .lookup t x i ok=>
  match P.underlying t with
  | some (.map kt e)=>(Zeb P kt).bind fun k=>(Zhl P e).bind fun zv=>(Zj x).bind fun x=>(Zj i).map fun i=>.look k zv ok x i
  | _=>none
 | _=>none
def Zjg(P:Program)(op:Op):Option (XOp×List Opd):=
 match op with
 | .box t x=>(Zaq P t).bind fun n=>(Zj x).map fun x=>(.box n,[x])
 | .makeMap _ none=>some (.mmap,[])
 | .mapUpdate t m k v | .insert t m k v=>
  match P.underlying t with
  | some (.map kt _)=>(Zeb P kt).bind fun kk=>(Zj m).bind fun m=>(Zj k).bind fun k=>(Zj v).map fun v=>(.mupd kk,[m,k,v])
  | _=>none
 | .makeFunc (.func f) first captured=>match first.toList,captured.toList with | [],[x]=>(Zj x).map fun x=>(.mkf f,[x]) | [x],[]=>(Zj x).map fun x=>(.mkv f,[x]) | _,_=>none
 | .convert s d x=>
  match P.underlying s,P.underlying d with
  | some (.slice e),some .string=>
   match P.underlying e with
   | some (.int .u8)=>(Zj x).map fun x=>(.bstr,[x])
   | _=>none
  | _,_=>none
 | .slice t x lo hi mx=>
  match lo,hi,mx with
  | none,none,none=>
   match P.underlying t with
   | some (.array n e)=>if Zaq P e=some 1/\n≠0/\n<=maxLen then (Zj x).map fun x=>(.arsl n,[x]) else none
   | _=>none
  | _,_,_=>none
 | .call { callee:=.builtin b,args,argTypes }=>
  match b,args.toList,argTypes.toList with
  | .copy,[x,y],[t,_]=>
   match P.underlying t with
   | some (.slice e)=>if Zaq P e=some 1 then (Zj x).bind fun x=>(Zj y).map fun y=>(.cpy,[x,y]) else none
   | _=>none
  | .append,[x,y],[t,u]=>
   match P.underlying t,P.underlying u with
   | some (.slice e),some .string=>
    match P.info? e with
    | some inf=>if inf.size=1/\inf.bytes<=32768/\inf.zero.any (·.cells.size=inf.size) then (Zj x).bind fun x=>(Zj y).map fun y=>(.apps,[x,y]) else none
    | none=>none
   | _,_=>none
  | _,_,_=>none
 | _=>none
def Zdr(P:Program)(op:Op):Option AOp:=
 match Zjg P op with
 | some p=>some (.xop p.1 p.2)
 | none=>match Zbe P op with
  | some a=>some a
  | none=>some (.xop .bad [])
def zar{P:Program}{op:Op}{a:AOp}(h:Zdr P op=some a):Zbe P op=some a\/∃k xs,a=.xop k xs/\(Zjg P op=some (k,xs)\/(k=.bad/\xs=[])):=by
 grind[Zdr]
def Zaz(ops:Array Oper):Option (Nat×Bool)->Option (Option (Nat×Bool))
 | none=>some none
 | some (j,w)=>((ops[j]?).bind (·.dst)).map fun d=>some (d,w)
def Za6(P:Program)(nt:Nat)(ops:Array Oper)(o:Oper):Option AO:=
 (Zdr P o.op).bind fun op=>(Zaz ops o.guard).bind fun g=>
  match o.dst with
  | none=>some ⟨none,g,op⟩
  | some d=>if d<nt then some ⟨some d,g,op⟩ else none
def Z8(P:Program)(nt:Nat)(ops:Array Oper):List Oper->Option (List AO)
 | []=>some []
 | o::r=>(Za6 P nt ops o).bind fun a=>(Z8 P nt ops r).map fun b=>a::b
def AOp.writes:AOp->Bool
 | .app _ (.c (.sl [] .nl)) _=>false
 | .xop (.mkf _) _ | .xop (.mkv _) _=>false
 | .alloc .. | .store .. | .mks .. | .app .. | .cpy .. | .xop .. => true
 | _=>false
def AOp.free:AOp->Bool
 | .app _ (.c (.sl [] .nl)) _=>true
 | .mov .. | .pick .. | .build .. | .bin .. | .eqs .. | .eqnil .. | .eqb .. | .un .. | .conv .. | .slstr .. | .fld .. | .ixs .. | .ixa .. | .lens .. | .lenc .. | .mm .. | .ext .. | .call .. | .bsl .. | .ifc .. | .inv .. => true
 | _=>false
theorem zwr{z:Nat}{x y:Opd}(hx:x≠.c (.sl [] .nl)):(AOp.app z x y).free=false:=by
 cases x with
 | t n=>rfl
 | c a=>
  cases a
  case sl els f=>
   cases els with
   | nil=>cases f<;>first | rfl | grind
   | cons r l=>rfl
  all_goals rfl
theorem zqi{z:Nat}{x y:Opd}(hx:x≠.c (.sl [] .nl)):(AOp.app z x y).writes=true:=by
 cases x with
 | t n=>rfl
 | c a=>
  cases a
  case sl els f=>
   cases els with
   | nil=>cases f<;>first | rfl | grind
   | cons r l=>rfl
  all_goals rfl
def Zad(ops:Array Oper):Nat->Nat->Nat->Bool
 | 0,_,_=>false
 | n+1,i,j=>match ops[j]? with
  | none=>false
  | some o=>o.after.any fun e=>Region.binds .any e&&(e.on == i || Zad ops n i e.on)
structure DO where
 ao:AO
 lo:Nat
 hi:Nat
def Zh(l:List AO):List Nat:=(l.zipIdx.filter fun p=>p.1.op.writes).map (·.2)
def Zec(ops:Array Oper)(ws:List Nat)(i:Nat):Nat:=(ws.filter fun v=>Zad ops ops.size v i).length
def Zbx(ops:Array Oper)(ws:List Nat)(i:Nat):Nat:=(ws.filter fun v=>!Zad ops ops.size i v).length
def chained(ops:Array Oper):List Nat->Bool
 | a::b::r=>(match ops[b]? with | some o=>o.after.any fun e=>Region.binds .any e&&e.on == a | none=>false)&&chained ops (b::r)
 | _=>true
def Zco(ops:Array Oper)(l:List AO):Bool:=
 let ws:=Zh l
 Region.lexB .any ops&&chained ops ws &&
 l.zipIdx.all fun p=>if p.1.op.writes then p.1.guard.isNone else true
def Zcp(ops:Array Oper)(l:List AO):List DO:=l.zipIdx.map fun p=>⟨p.1,Zec ops (Zh l) p.2,Zbx ops (Zh l) p.2⟩
inductive AC where
 | skip
 | reg (ops:List AO)
 | draw (ops:List DO)
 | seq (a b:AC)
 | cond (c:Opd) (x y:AC)
 | block (id:Nat) (c:AC)
 | loop (c:AC)
 | exit (id:Nat)
 | ret
 | scope (c:AC)
 | bad
 | drawT (hd tl:List AO)
 | drawM (hd tl:List AO)
 | label (l:Nat)
 | goto (l:Nat)
 | gsc (l:Nat) (c r:AC)   -- a scope in which one goes to a label;what stands behind that
def Zb9:AC->Nat->Option AC
 | .seq a b,l=>
  match Zb9 a l with
  | some x=>some (.seq x b)
  | none=>Zb9 b l
 | .label l',l=>if l' == l then some .skip else none
 | _,_=>none
def Zdl:AC->Option Nat
 | .goto l=>some l
 | .seq a b=>(Zdl a).or (Zdl b)
 | .cond _ a b=>(Zdl a).or (Zdl b)
 | .block _ c=>Zdl c
 | .loop c=>Zdl c
 | _=>none
def Zij(c:AC):Option AC:=
 match Zdl c with
 | none=>some (.scope c)
 | some l=>(Zb9 c l).map (.gsc l c)
@[simp] def zgr(c x:AC):Zij c=some x↔match x with | .scope d=>d=c/\Zdl c=none | .gsc l d r=>d=c/\Zdl c=some l/\Zb9 c l=some r | _=>False:=by
 unfold Zij;cases Zdl c with
 | none=>cases x<;>simp[eq_comm]
 | some l=>
  simp only[Y9];cases x with
  | gsc l' d r=>
   simp only[AC.gsc.injEq,Option.some.injEq];constructor
   ·rintro⟨a,h,rfl,rfl,rfl⟩;exact⟨rfl,rfl,h⟩
   ·rintro⟨rfl,rfl,h⟩;exact⟨r,h,rfl,rfl,rfl⟩
  | _=>simp
def Zgu(ops:Array Oper)(l:List AO):Option Nat:=
 (List.range ops.size).find? fun n=>(l.take n).all (fun a=>!a.op.writes)&&Region.lexTailB .any ops n
def AOp.maker:AOp->Bool
 | .app _ (.c (.sl [] .nl)) _=>false
 | .alloc _ | .mks .. | .app .. | .xop (.box _) _=>true
 | _=>false
def AOp.noisy:AOp->Bool
 | .call .. => true
 | op=>op.maker
def AOp.isStore:AOp->Bool
 | .store .. => true
 | _=>false
def Zjs(ops:Array Oper)(l:List AO)(n:Nat):Bool:=
 Region.lexTailB .any ops (n+1)&&(match l[n]? with | some a=>a.guard.isNone&&a.dst.isNone&&a.op.isStore | none=>false) &&
 (List.range n).all fun i=>Region.waitsFor .any ops n i || (match l[i]? with | some a=>!a.op.noisy | none=>false)
def Zjt(ops:Array Oper)(l:List AO):Option Nat:=
 (List.range ops.size).find? fun n=>(l.take n).all (fun a=>!a.op.writes || (a.op.maker&&a.guard.isNone&&a.dst.isSome))&&Region.lexTailB .any ops n
def Zju(ops:Array Oper)(l:List AO):Option Nat:=
 (List.range ops.size).find? fun n=>(l.take n).all (fun a=>!a.op.writes || (a.op.maker&&a.guard.isNone&&a.dst.isSome))&&Zjs ops l n
def Zl(P:Program)(nt:Nat):Code->Option AC
 | .skip=>some .skip
 | .region _ ops draw=>(Z8 P nt ops ops.toList).bind fun l=>
  if draw then
   match Zgu ops l with
   | some n=>some (.drawT (l.take n) (l.drop n))
   | none=>if Zco ops l then some (.draw (Zcp ops l)) else
    match Zjt ops l with
    | some n=>some (.drawM (l.take n) (l.drop n))
    | none=>
     match Zju ops l with
     | some n=>some (.drawM (l.take (n+1)) (l.drop (n+1)))
     | none=>some .bad
  else some (.reg l)
 | .seq a b=>(Zl P nt a).bind fun a=>(Zl P nt b).map fun b=>.seq a b
 | .cond c x y=>(Zj c).bind fun c=>(Zl P nt x).bind fun x=>(Zl P nt y).map fun y=>.cond c x y
 | .block id c=>(Zl P nt c).map (.block id)
 | .loop c=>(Zl P nt c).map .loop
 | .scope c=>(Zl P nt c).bind Zij
 | .exit id=>some (.exit id)
 | .label l=>some (.label l)
 | .goto l=>some (.goto l)
 | .ret=>some .ret
 | _=>some .bad
theorem zah{P:Program}{nt id:Nat}{ops:Array Oper}{draw:Bool}{c:AC}(h:Zl P nt (.region id ops draw)=some c) :
  (draw=false/\∃l,Z8 P nt ops ops.toList=some l/\c=.reg l)\/(draw=true/\∃l,Z8 P nt ops ops.toList=some l /\
   ((∃n,Zgu ops l=some n/\c=.drawT (l.take n) (l.drop n))\/(Zco ops l=true/\c=.draw (Zcp ops l))\/(∃n,(Zjt ops l=some n\/∃k,Zju ops l=some k/\n=k+1)/\c=.drawM (l.take n) (l.drop n))\/c=.bad)):=by
 grind[Zl,Option.bind_eq_some_iff]
theorem zfs{P:Program}{nt:Nat}:∀(code:Code) (ac:AC) (l:Nat),Zl P nt code=some ac ->
  match findLabel code l with
  | some rest=>∃r,Zb9 ac l=some r/\Zl P nt rest=some r
  | none=>Zb9 ac l=none
 | .seq a b,ac,l,h=>by
  simp only[Zl,Yf,Y9]at h;obtain⟨a',ha,b',hb,rfl⟩:=h;have h1:=zfs a a' l ha;have h2:=zfs b b' l hb;simp only[findLabel,Zb9];cases h3:findLabel a l with
  | some ra=>
   rw[h3]at h1;obtain⟨r,e1,e2⟩:=h1;rw[e1];exact⟨_,rfl,by simp[Zl,e2,hb]⟩
  | none=>
   rw[h3]at h1;simp only at h1 ⊢;rw[h1];exact h2
 | .label l',ac,l,h=>by
  simp only[Zl,Option.some.injEq]at h;subst h;simp only[findLabel,Zb9];by_cases hl:l' == l
  ·simp[hl,Zl]
  ·simp[hl]
 | .region id ops draw,ac,l,h=>by
  rcases zah h with ⟨_,l,_,h1⟩ | ⟨_,l,_,⟨n,_,h1⟩ | ⟨_,h1⟩ | ⟨n,_,h1⟩ | h1⟩<;>rw[h1]<;>simp[findLabel,Zb9]
 | .skip,ac,l,h=>by simp only[Zl,Option.some.injEq]at h;subst h;simp[findLabel,Zb9]
 | .exit _,ac,l,h=>by simp only[Zl,Option.some.injEq]at h;subst h;simp[findLabel,Zb9]
 | .goto _,ac,l,h=>by simp only[Zl,Option.some.injEq]at h;subst h;simp[findLabel,Zb9]
 | .ret,ac,l,h=>by simp only[Zl,Option.some.injEq]at h;subst h;simp[findLabel,Zb9]
 | .refuse _,ac,l,h=>by simp only[Zl,Option.some.injEq]at h;subst h;simp[findLabel,Zb9]
 | .rangeFunc ..,ac,l,h=>by simp only[Zl,Option.some.injEq]at h;subst h;simp[findLabel,Zb9]
 | .cond ..,ac,l,h=>by
  simp only[Zl,Yf,Y9]at h;obtain⟨_,_,_,_,_,_,rfl⟩:=h;simp[findLabel,Zb9]
 | .block ..,ac,l,h=>by
  simp only[Zl,Y9]at h;obtain⟨_,_,rfl⟩:=h;simp[findLabel,Zb9]
 | .loop _,ac,l,h=>by
  simp only[Zl,Y9]at h;obtain⟨_,_,rfl⟩:=h;simp[findLabel,Zb9]
 | .scope c,ac,l,h=>by
  simp only[Zl,Yf,zgr]at h;obtain⟨d,_,h⟩:=h;cases ac<;>first | exact h.elim | simp[findLabel,Zb9]
inductive RV where
 | t (n:Nat)
 | cell (n:Nat) (k:Option Nat)
structure AF where
 np:Nat
 nt:Nat
 res:List RV
 body:AC
def Zd3(P:Program):List ResultVar->Option (List RV)
 | []=>some []
 | .tmp t::r=>(Zd3 P r).map fun b=>.t t::b
 | .cell a t::r=>(Zek P t).bind fun k=>(Zd3 P r).map fun b=>.cell a k::b
def Z0(P:Program)(f:FuncId):Option AF:=
 match P.funcs[f]? with
 | some fn=>
  match fn.body with
  | some c=>(Zd3 P fn.results.toList).bind fun rs=>(Zl P fn.ntmps c).bind fun c=>if fn.params.size+fn.nfree<=fn.ntmps/\(fn.name == "runtime.NumGoroutine")=false then some ⟨fn.params.size+fn.nfree,fn.ntmps,rs,c⟩ else none
  | none=>none
 | none=>none
def refs:AV->List BId
 | .bs id .. => [id]
 | .agg cs=>cs.flatMap fun c=>match c with | .bs id .. => [id] | _=>[]
 | .tup cs=>cs.flatMap fun c=>match c with | .bs id .. => [id] | .agg ds=>ds.flatMap (fun d=>match d with | .bs id .. => [id] | _=>[]) | _=>[]
 | _=>[]
def Zby(h:Heap):AV->Option AV
 | .bs id g z off n=>(Zac h id g z).bind fun bx=>if bx.kind≠.str/\off+n<=bx.els.length then some (.sl ((bx.els.drop off).take n) .an) else none
 | .ptr .. | .fnp .. => some .dead
 | .agg _ | .tup _ | .ifc .. => none
 | x=>some x
def Zaw(h:Heap):AV->Option AV
 | .agg cs=>(cs.mapM (Zby h)).map .agg
 | x=>Zby h x
def frz(h:Heap):AV->Option AV
 | .tup cs=>(cs.mapM (Zaw h)).map .tup
 | x=>Zaw h x
def Zx(ids:List BId)(h:Heap):Heap:=
 match ids with
 | []=>h
 | _=>h.map fun p=>(p.1,if ids.contains p.1 then { p.2 with kind:=.sh } else p.2)
def Zhf(z:Nat):List (List AV)->List (Nat×AV)->Option (List (List AV))
 | els,[]=>some els
 | els,(i,x)::rest=>
  (cellsOf x).bind fun cs=>if cs.length=z/\cs.all pureC=true/\i<els.length then Zhf z (els.set i cs) rest else none
def Zgv(h:Heap):List (Nat×AV)->Option (List (Nat×AV))
 | []=>some []
 | (i,x)::r=>(Zaw h x).bind fun y=>(Zgv h r).map fun q=>(i,y)::q
def Zf8(z:Nat)(y:AV):Option AV:=
 match y with
 | .sl els _=>if (els.head?.all fun r=>r.length=z)/\els.length<=4294967296 then some (.sl els .an) else none
 | _=>none
def Zds(z:Nat)(zs:List AV)(len:Nat)(h:Heap)(ps:List (Nat×AV)):Option (AV×Heap):=
 (Zgv h ps).bind fun qs=>(Zhf z (List.replicate len zs) qs).map fun els=>(.sl els .fu,Zx (ps.flatMap fun p=>refs p.2) h)
end
section
open Go.RowKit
def bind_some{α β:Type}{o:Option α}{f:α->Option β}{y:β}(h:o.bind f=some y):∃x,o=some x/\f x=some y:=by
 cases o with
 | none=>cases h
 | some x=>grind
theorem map_some{α β:Type}{o:Option α}{f:α->β}{y:β}(h:o.map f=some y):∃x,o=some x/\f x=y:=by
 simp_all
def zgv{w:World}{S:Nat->Nat->Prop}{v:Value}{x:AV}(h:Zdi v=some x):CP w S v x:=by
 unfold Zdi at h;split at h<;>(try cases h)<;>first
  | exact .i _ _ | exact .b _ | exact .raw _ | (exact .slnil _ (.inl rfl))
  | (rename_i s;exact .s _)
section
variable{P:Program}{w:World}{S:Nat->Nat->Prop}{M:Map}{clk:Nat}{e:Nat->AV}{h:Heap}{a:Act}
theorem ev_C{x:Operand}{p:Opd}(he:Zey w S M clk e a)(hr:Zj x=some p):C w S M clk (a.eval x) (ev e p):=by
 cases x with
 | tmp t=>
  simp only[Zj,Option.some.injEq]at hr;subst hr;exact he t
 | const v=>
  obtain⟨y,hy,rfl⟩:=map_some hr;exact .p (zgv hy)
 | global g=>cases hr
 | func f=>
  simp only[Zj,Option.some.injEq]at hr;subst hr;exact .p (.raw _)
def C.inv_i{k n}{v:Value}(h:C w S M clk v (.i k n)):v=.int k n:=by
 cases h with | p h=>cases h;rfl
def C.inv_b{x}{v:Value}(h:C w S M clk v (.b x)):v=.bool x:=by
 cases h with | p h=>cases h;rfl
def C.inv_s{l}{v:Value}(h:C w S M clk v (.s l)):v=.string ⟨l.toArray⟩:=by
 cases h with | p h=>cases h;rfl
def C.inv_agg{cs}{v:Value}(h:C w S M clk v (.agg cs)):∃vs:Array Value,v=.agg vs/\vs.size=cs.length/\(∀(j:Nat) (v:Value),vs[j]? = some v->v.oneCell'=true) /\
  (∀(j:Nat) (v:Value) (c:AV),vs[j]? = some v->cs[j]? = some c->C w S M clk v c):=by
 cases h with
 | p h=>cases h with
  | agg vs cs hl h1 h=>exact⟨vs,rfl,hl,h1,fun j v c a b=>.p (h j v c a b)⟩
 | agg vs cs hl h1 h=>grind
def C.inv_tup{cs}{v:Value}(h:C w S M clk v (.tup cs)):∃vs:Array Value,v=.tuple vs/\vs.size=cs.length /\
  (∀(j:Nat) (v:Value) (c:AV),vs[j]? = some v->cs[j]? = some c->C w S M clk v c):=by
 cases h with
 | p h=>cases h with
  | tup vs cs hl h=>exact⟨vs,rfl,hl,fun j v c a b=>.p (h j v c a b)⟩
 | tup vs cs hl h=>grind
def C.inv_bs{id g z off n}{v:Value}(h:C w S M clk v (.bs id g z off n)):g<clk/\Zfc w (M g) z off n v/\v.oneCell'=true:=by
 cases h with
 | p h=>cases h
 | bs id g z off n v hg h h1=>grind
def C.inv_ptr{id g z i o}{v:Value}(h:C w S M clk v (.ptr id g z i o)):g<clk/\Zc1 (M g) z i o v/\v.oneCell'=true:=by
 cases h with
 | p h=>cases h
 | ptr id g z i o v hg h h1=>grind
def C.inv_fnp{f id g z i o}{v:Value}(h:C w S M clk v (.fnp f id g z i o)):∃u,v=fnV f u/\g<clk/\Zc1 (M g) z i o u/\u.oneCell'=true:=by
 cases h with
 | p h=>cases h
 | fnp f id g z i o u hg h h1=>grind
def C.inv_fnv{f x}{v:Value}(h:C w S M clk v (.fnv f x)):∃u,v=.func (.func f) #[u] #[]/\CP w S u x:=by
 cases h with
 | p h=>cases h with | fnv f u x h=>grind
def C.inv_ifc{t x}{v:Value}(h:C w S M clk v (.ifc t x)):∃u,v=.iface t u/\C w S M clk u x:=by
 cases h with
 | p h=>cases h
 | ifc t v x h=>grind
def C.inv_sl{els f}{v:Value}(h:C w S M clk v (.sl els f)):CP w S v (.sl els f):=by
 cases h with | p h=>exact h
def C.inv_ep{cs o}{v:Value}(h:C w S M clk v (.ep cs o)):CP w S v (.ep cs o):=by
 cases h with | p h=>exact h
def CP.inv_ep{cs o}{v:Value}(h:CP w S v (.ep cs o)):∃(blk off:Nat) (u:Nat->Value),v=.pointer (some ⟨blk,off+o,none⟩) /\
  (∀j,j<cs.length->S blk (off+j)/\w.cell? ⟨blk,off+j,none⟩=some (u j)/\(u j).oneCell'=true)/\(∀(j:Nat) (c:AV),cs[j]? = some c->CP w S (u j) c):=by
 cases h with | ep blk off cs o u hS hc=>exact⟨blk,off,u,rfl,hS,hc⟩
def CP.inv_sl{els f}{v:Value}(h:CP w S v (.sl els f)):(els=[]/\∃b:Option Addr,v=.slice b 0 0/\(b=none->f=.nl\/f=.an)/\(b≠none->f=.so\/f=.an))\/∃(blk off z cap:Nat) (u:Nat->Nat->Value),v=.slice (some ⟨blk,off,none⟩) els.length cap/\f≠.nl/\(f=.fu->cap=els.length)/\els.length<=cap/\cap<=maxLen /\
  (∀(i:Nat) (r:List AV),els[i]? = some r->r.length=z) /\
  (∀i j,i<els.length->j<z->S blk (off+i*z+j)/\w.cell? ⟨blk,off+i*z+j,none⟩=some (u i j)/\(u i j).oneCell'=true) /\
  (∀(i:Nat) (r:List AV) (j:Nat) (c:AV),els[i]? = some r->r[j]? = some c->CP w S (u i j) c):=by
 cases h with
 | slnil f hf=>grind
 | slz a f hf=>grind
 | sl blk off z cap els f u hf hfull hcap hmax hz hS hc=>exact .inr ⟨blk,off,z,cap,u,rfl,hf,hfull,hcap,hmax,hz,hS,hc⟩
def ze5{v:Value}{x:AV}{cs:List AV}(hx:C w S M clk v x)(hc:cellsOf x=some cs):v.cells.size=cs.length /\
  (∀(j:Nat) (u:Value),v.cells[j]? = some u->u.oneCell'=true)/\(∀(j:Nat) (u:Value) (c:AV),v.cells[j]? = some u->cs[j]? = some c->C w S M clk u c):=by
 have one:∀(x:AV),cs=[x]->C w S M clk v x->v.oneCell'=true->v.cells.size=cs.length /\
  (∀(j:Nat) (u:Value),v.cells[j]? = some u->u.oneCell'=true)/\(∀(j:Nat) (u:Value) (c:AV),v.cells[j]? = some u->cs[j]? = some c->C w S M clk u c):=by
  intro x hcs hx h1;have hv:v.cells=#[v]:=by cases v<;>first | rfl | (simp[Value.oneCell']at h1)
  grind
 cases x with
 | agg cs'=>
  simp only[cellsOf,Option.some.injEq]at hc;subst hc;obtain⟨vs,rfl,hl,h1,h2⟩:=hx.inv_agg;exact⟨hl,h1,h2⟩
 | raw u=>
  simp only[cellsOf]at hc;split at hc
  ·cases hc;have hv:v=u:=by cases hx with | p h=>cases h;rfl
   grind
  grind
 | tup vs=>cases hc
 | dead=>cases hc
 | ifc t x=>cases hc
 | i k n=>cases hc;have:=hx.inv_i;subst this;exact one _ rfl hx rfl
 | b t=>cases hc;have:=hx.inv_b;subst this;exact one _ rfl hx rfl
 | s l=>cases hc;have:=hx.inv_s;subst this;exact one _ rfl hx rfl
 | sl els f=>
  cases hc;refine one _ rfl hx ?_;rcases hx.inv_sl.inv_sl with ⟨_,_,rfl,_⟩ | ⟨_,_,_,_,_,rfl,_⟩<;>rfl
 | ep cs' o=>
  cases hc;refine one _ rfl hx ?_;obtain⟨_,_,_,rfl,_⟩:=hx.inv_ep.inv_ep
  rfl
 | bs id g z off n=>cases hc;exact one _ rfl hx hx.inv_bs.2.2
 | ptr id g z i o=>cases hc;exact one _ rfl hx hx.inv_ptr.2.2
 | fnv f x=>cases hc;obtain⟨u,rfl,_⟩:=hx.inv_fnv;exact one _ rfl hx rfl
 | fnp f id g z i o=>cases hc;obtain⟨u,rfl,_⟩:=hx.inv_fnp;exact one _ rfl hx (zzt _ _)
theorem zaq{id:BId}{g z:Nat}{bx:Box}(hb:Zac h id g z=some bx):h.lookup id=some bx/\bx.gen=g/\bx.z=z:=by
 grind[Zac]
theorem zcl{id:BId}{g z:Nat}{bx:Box}(hb:Zac h id g z=some bx):bx.kind≠.mp:=by
 grind[Zac]
end
end
section
open Go.RowKit
section
variable{P:Program}{w:World}{S:Nat->Nat->Prop}{M:Map}{clk:Nat}{e:Nat->AV}{h:Heap}{a:Act}
theorem zfv{t:TypeId}{d:TypeDesc}(hd:P.underlying t=some d):(isAgg t).run P w=.ok (Zgr d) w:=by
 unfold isAgg;simp only[Sem.run_bind,run_underlying hd,Result.andThen_ok];cases d<;>rfl
theorem zet{t:TypeId}(hp:Zek P t=some none):(isAgg t).run P w=.ok false w:=by
 obtain⟨d,hd,hp⟩:=bind_some hp;obtain⟨inf,hi,hp⟩:=map_some hp
 grind[zfv]
def zcd{t:TypeId}{n:Nat}(hp:Zek P t=some (some n)):(isAgg t).run P w=.ok true w/\(sizeOf t).run P w=.ok n w:=by
 obtain⟨d,hd,hp⟩:=bind_some hp;obtain⟨inf,hi,hp⟩:=map_some hp;rw[zfv hd];split at hp
 ·cases hp;refine⟨by grind,by simp[sizeOf,typeInfo,hi,Result.andThen]⟩
 grind
def zpf{t:TypeId}{n:Option Nat}{vs:Array Value}{cs:List AV}{o:Nat}{x:AV}(hp:Zek P t=some n)(hl:vs.size=cs.length)
  (h1:∀(j:Nat) (v:Value),vs[j]? = some v->v.oneCell'=true) (hc:∀(j:Nat) (v:Value) (c:AV),vs[j]? = some v->cs[j]? = some c->C w S M clk v c)
  (hx:Zej n cs o=some x):∃v,(part t vs o).run P w=.ok v w/\C w S M clk v x:=by
 unfold part;cases n with
 | none=>
  simp only[Zej]at hx;have ho:o<cs.length:=by
   grind
  have hv:vs[o]? = some (vs[o]'(by omega)):=Yz (by omega);refine⟨vs[o]'(by omega),?_,hc o _ x hv hx⟩;simp only[Sem.run_bind,zet hp,Result.andThen_ok,hv]
  rfl
 | some k=>
  simp only[Zej]at hx;split at hx<;>cases hx;refine⟨.agg (vs.extract o (o+k)),?_,.agg _ _ ?_ ?_ ?_⟩
  ·simp only[Sem.run_bind,(zcd hp).1,(zcd hp).2,Result.andThen_ok,if_true,Sem.run_ite,Sem.run_pure]
  ·grind
  ·grind[Array.getElem?_extract]
  grind
def zg4{t:TypeId}{n:Option Nat}{blk off o:Nat}{cs:List AV}{x:AV}(hp:Zek P t=some n)
  (hc:∀(j:Nat) (c:AV),cs[j]? = some c->∃u,w.cell? ⟨blk,off+j,none⟩=some u/\u.oneCell'=true/\C w S M clk u c)
  (hx:Zej n cs o=some x):∃v,(loadVar t ⟨blk,off+o,none⟩).run P w=.ok v w/\C w S M clk v x:=by
 unfold loadVar;cases n with
 | none=>
  simp only[Zej]at hx;obtain⟨u,hu,_,hC⟩:=hc o x hx
  grind[Sem.run_bind,zet,Result.andThen_ok,load,Sem.run]
 | some k=>
  simp only[Zej]at hx;split at hx<;>cases hx;have key:∃vs:List Value,vs.length=k/\(∀j v,vs[j]? = some v->w.cell? ((⟨blk,off+o,none⟩:Addr).add j)=some v/\v.oneCell'=true) /\
    ∀(j:Nat) (v:Value) (c:AV),vs[j]? = some v->((cs.drop o).take k)[j]? = some c->C w S M clk v c:=by
   have step:∀k,o+k<=cs.length->∃vs:List Value,vs.length=k/\(∀j v,vs[j]? = some v->w.cell? ((⟨blk,off+o,none⟩:Addr).add j)=some v/\v.oneCell'=true) /\
     ∀(j:Nat) (v:Value) (c:AV),vs[j]? = some v->(cs.drop o)[j]? = some c->C w S M clk v c:=by
    intro k
    induction k with
    | zero=>simp_all
    | succ k ih=>
     intro hk;obtain⟨vs,hl,h1,h2⟩:=ih (by omega);have hok:cs[o+k]? = some (cs[o+k]'(by omega)):=Ya (by omega);obtain⟨u,hu,hone,hC⟩:=hc (o+k) _ hok;refine⟨vs++[u],by grind,fun j v hv=>?_,fun j v c hv hcj=>?_⟩
     ·rcases Ybd j vs.length with hj | hj | hj
      ·grind
      ·subst hj
       grind[Addr.add]
      grind
     grind
   grind
  obtain⟨vs,hl,h1,h2⟩:=key;refine⟨.agg vs.toArray,?_,.agg _ _ ?_ ?_ ?_⟩
  ·have hr:=run_loadCells_list (P:=P) w ⟨blk,off+o,none⟩ vs (fun j v hv=>(h1 j v hv).1);rw[hl]at hr;simp only[Sem.run_bind,(zcd hp).1,(zcd hp).2,Result.andThen_ok,if_true,hr,Sem.run_ite,Sem.run_pure]
  all_goals grind
theorem zbc(k o n:Nat):(⟨k,o,none⟩:Addr).add n=⟨k,o+n,none⟩:=by
 grind[Addr.add]
def ztl{bx:Box}{i:Nat}{r:List AV}(hb:Zbt w S M clk bx)(hkm:bx.kind≠.mp)(hr:bx.els[i]? = some r) :
  ∃k,M bx.gen=some (some k)/\∀(j:Nat) (c:AV),r[j]? = some c->∃u,w.cell? ⟨k,i*bx.z+j,none⟩=some u/\u.oneCell'=true/\C w S M clk u c:=by
 obtain⟨_,_,m,hm,hb⟩:=hb;cases m with
 | none=>grind
 | some k=>
  have hb:=ck' hkm hb;unfold Zix at hb
  grind[cell_of_row]
def zi5{t:TypeId}{n:Option Nat}{v:Value}{x y:AV}(hp:Zek P t=some n)(hh:HeapRel w S M clk h)(hv:C w S M clk v x)
  (hx:Ze4 n h x=some y):∃u,(Instr.loadAt t v).run P w=.ok u w/\C w S M clk u y:=by
 cases x<;>try cases hx
 case ep cs o=>
  obtain⟨blk,off,u,rfl,hS,hc⟩:=hv.inv_ep.inv_ep;have:=zg4 (P:=P) (w:=w) (S:=S) (M:=M) (clk:=clk) (blk:=blk) (off:=off) hp (fun j c hj=>by
   have hjl:j<cs.length:=by
    grind
   exact⟨u j,(hS j hjl).2.1,(hS j hjl).2.2,.p (hc j c hj)⟩) hx
  grind[Instr.loadAt,Instr.sureAddr]
 case ptr id g z i o=>
  obtain⟨bx,hb,hx⟩:=bind_some hx;obtain⟨r,hr,hx⟩:=bind_some hx;obtain⟨hl,hg,hz⟩:=zaq hb;obtain⟨k,hk,hcs⟩:=ztl (hh.box id bx hl) (zcl hb) hr;have hpo:=hv.inv_ptr.2.1;rw[hg]at hk;unfold Zc1 at hpo;rw[hk]at hpo;rw[hz]at hcs;obtain⟨v,h1,h2⟩:=zg4 (P:=P) (w:=w) (S:=S) (M:=M) (clk:=clk) (blk:=k) (off:=i*z) hp hcs hx
  grind[Instr.loadAt,Instr.sureAddr]
end
end
section
open Go.RowKit
section
variable {P : Program} {w : World} {S : Nat -> Nat -> Prop} {M : Map} {clk : Nat} {e : Nat -> AV} {h : Heap} {a : Act}
def zqp        {op : BinOp} {t : TypeId} {k : IntKind} {m n : Int} {z : AV} (hz : Zfd op k m n = some z) :
    ∃ v, (binOp op t (.int k m) (.int k n)).run P w = .ok v w /\ C w S M clk v z := by
  cases op <;> simp only [Zfd, Option.some.injEq] at hz <;> first
    | (cases hz; done)
    | (subst hz; refine ⟨_, ?_, .p (.i _ _)⟩; simp [binOp, Op.intArith, Op.intBits]; done)
    | (subst hz; refine ⟨_, ?_, .p (.b _)⟩; simp [binOp, Op.intCmp]; done)
    | (split at hz
       · grind
       · cases hz
         rename_i h0
         refine ⟨_, ?_, .p (.i _ _)⟩
         simp [binOp, Op.intDiv, h0])
theorem zim            (l : List UInt8) : (⟨l.toArray⟩ : ByteArray).toList = l := by
  rw [ByteArray.toList_eq]
theorem size_toArray (l : List UInt8) : (⟨l.toArray⟩ : ByteArray).size = l.length := by
  simp [ByteArray.size]
def zin            (l m : List UInt8) : (⟨l.toArray⟩ : ByteArray) ++ (⟨m.toArray⟩ : ByteArray) = ⟨(l ++ m).toArray⟩ := by
  apply ByteArray.ext
  simp
def zqq        {op : BinOp} {t : TypeId} {l m : List UInt8} {z : AV} (hz : Zjq op l m = some z) :
    ∃ v, (binOp op t (.string ⟨l.toArray⟩) (.string ⟨m.toArray⟩)).run P w = .ok v w /\ C w S M clk v z := by
  cases op <;> simp only [Zjq, Option.some.injEq] at hz <;> first
    | (cases hz; done)
    | (subst hz; refine ⟨_, ?_, .p (.b _)⟩; simp [binOp, Op.stringOp]; done)
    | (split at hz
       · cases hz
         refine ⟨_, ?_, .p (.s _)⟩
         have : ¬ (((l.length + m.length : Nat) : Int) > IntKind.i64.max) := by
           grind[IntKind.max,IntKind.bits]
         simp only [binOp, Op.stringOp, size_toArray, this, if_false, zin           ]
         rfl
       grind)
theorem zcx             {op : BinOp} {t : TypeId} {x y : Operand} {k k' : IntKind} {m n : Int} : (eqGuard op t x y (.int k m) (.int k' n)).run P w = .ok () w := by
  unfold eqGuard
  simp_all
theorem zg5             {op : BinOp} {t : TypeId} {x y : Operand} {m n : ByteArray} : (eqGuard op t x y (.string m) (.string n)).run P w = .ok () w := by
  unfold eqGuard
  simp_all
theorem zge              {op : BinOp} {t : TypeId} {x y : Operand} {m n : Bool} : (eqGuard op t x y (.bool m) (.bool n)).run P w = .ok () w := by
  unfold eqGuard
  simp_all
theorem zfw               {op : BinOp} {t : TypeId} {x y : Operand} {m n : Option Addr} {l1 c1 l2 c2 : Nat} : (eqGuard op t x y (.slice m l1 c1) (.slice n l2 c2)).run P w = .ok () w := by
  unfold eqGuard
  simp_all
def zlh       {op : BinOp} {t : TypeId} {X Y : Operand} {v u : Value} {x y z : AV} (hv : C w S M clk v x) (hu : C w S M clk u y) (hz : Z5 op x y = some z) :
    ∃ r, (do eqGuard op t X Y v u; binOp op t v u : Sem Value).run P w = .ok r w /\ C w S M clk r z := by
  unfold Z5 at hz
  split at hz
  · rename_i k m k' n
    obtain rfl := hv.inv_i
    obtain rfl := hu.inv_i
    split at hz <;> cases hz
    rename_i h0
    refine ⟨_, ?_, .p (.i _ _)⟩
    have h0' : ¬ n < 0 := h0
    simp only [Sem.run_bind, zcx            , Result.andThen_ok]
    simp [binOp, Op.shift, h0']
  · rename_i k m k' n
    obtain rfl := hv.inv_i
    obtain rfl := hu.inv_i
    split at hz <;> cases hz
    rename_i h0
    refine ⟨_, ?_, .p (.i _ _)⟩
    have h0' : ¬ n < 0 := h0
    simp only [Sem.run_bind, zcx            , Result.andThen_ok]
    simp [binOp, Op.shift, h0']
  · obtain rfl := hv.inv_i
    obtain rfl := hu.inv_i
    split at hz
    · rename_i hk
      obtain ⟨r, h1, h2⟩ := zqp        (P := P) (w := w) (S := S) (M := M) (clk := clk) (t := t) hz
      grind[Sem.run_bind,zcx            ,Result.andThen_ok]
    grind
  · obtain rfl := hv.inv_s
    obtain rfl := hu.inv_s
    obtain ⟨r, h1, h2⟩ := zqq        (P := P) (w := w) (S := S) (M := M) (clk := clk) (t := t) hz
    grind[Sem.run_bind,zg5            ,Result.andThen_ok]
  grind
def zli       {neq : Bool} {t : TypeId} {X Y : Operand} {v u : Value} {x y z : AV} (ht : P.underlying t = some .bool) (hv : C w S M clk v x) (hu : C w S M clk u y) (hz : Zha neq x y = some z) :
    ∃ r, (do eqGuard (if neq then .neq else .eql) t X Y v u; binOp (if neq then .neq else .eql) t v u : Sem Value).run P w = .ok r w /\ C w S M clk r z := by
  unfold Zha at hz
  split at hz <;> cases hz
  obtain rfl := hv.inv_b
  obtain rfl := hu.inv_b
  refine ⟨_, ?_, .p (.b _)⟩
  grind[Sem.run_bind,zge             ,Result.andThen_ok,binOp,Op.equal,Op.maxDepth,run_equalIn_bool,Sem.run_pure]
def zdy          {t : TypeId} {vs : Array Value} {o : Nat} {v : Value} (hp : ∃ d, P.underlying t = some d /\ Zgr d = false) (hv : vs[o]? = some v) : (part t vs o).run P w = .ok v w := by
  obtain ⟨d, hd, ha⟩ := hp
  unfold part
  simp only [Sem.run_bind, zfv        hd, ha, Result.andThen_ok, hv]
  rfl
def zdz          {t : TypeId} {l : Leaf} (hl : Zgs P t = some l) : ∃ d, P.underlying t = some d /\ Zgr d = false /\ (match l with | .int => ∃ k, d = .int k | .bool => d = .bool | .str => d = .string) := by
  unfold Zgs at hl
  split at hl <;> cases hl <;> rename_i hd
  · exact ⟨_, hd, rfl, _, rfl⟩
  · exact ⟨_, hd, rfl, rfl⟩
  · exact ⟨_, hd, rfl, rfl⟩
def zi6        {d : Nat} {t : TypeId} {l : Leaf} {v u : Value} {x y : AV} {b : Bool} (hl : Zgs P t = some l) (hv : C w S M clk v x) (hu : C w S M clk u y) (hb : Zdk l x y = some b) :
    (Op.equalIn (d + 1) t v u).run P w = .ok b w := by
  obtain ⟨de, hd, _, hk⟩ := zdz          hl
  cases l with
  | int =>
    cases x <;> cases y <;> simp only [Zdk] at hb <;> try cases hb
    obtain rfl := hv.inv_i
    obtain rfl := hu.inv_i
    grind[run_equalIn_int]
  | bool =>
    subst hk
    cases x <;> cases y <;> simp only [Zdk] at hb <;> try cases hb
    obtain rfl := hv.inv_b
    obtain rfl := hu.inv_b
    exact run_equalIn_bool w d t _ _ hd
  | str =>
    cases x <;> cases y <;> simp only [Zdk] at hb <;> try cases hb
    obtain rfl := hv.inv_s
    obtain rfl := hu.inv_s
    grind[run_equalIn_string,zim           ]
theorem zg6       {d : Nat} {vs us : Array Value} {xs ys : List AV} (hlv : vs.size = xs.length) (hlu : us.size = ys.length)
    (hv : ∀ (j : Nat) (v : Value) (c : AV), vs[j]? = some v -> xs[j]? = some c -> C w S M clk v c)
    (hu : ∀ (j : Nat) (v : Value) (c : AV), us[j]? = some v -> ys[j]? = some c -> C w S M clk v c) :
    ∀ (fs : List Field) (ls : List (Nat × Leaf)) (t : Bool), leaves P fs = some ls -> eqL ls xs ys = some t -> (Op.eqFields (d + 1) vs us fs).run P w = .ok t w
  | [], ls, t, hl, ht => by
    simp only [leaves, Option.some.injEq] at hl
    subst hl
    simp only [eqL, Option.some.injEq] at ht
    subst ht
    rfl
  | f :: fs, ls, t, hl, ht => by
    simp only [leaves] at hl
    split at hl
    · grind
    rename_i hn
    obtain ⟨l, hl1, hl⟩ := bind_some hl
    obtain ⟨ls', hls, rfl⟩ := map_some hl
    simp only [eqL] at ht
    split at ht
    · rename_i x y hx hy
      obtain ⟨b, hb, ht⟩ := bind_some ht
      obtain ⟨c, hc, rfl⟩ := map_some ht
      have hov : f.offset < vs.size := by
        grind
      have hou : f.offset < us.size := by
        grind
      have hv1 : vs[f.offset]? = some (vs[f.offset]'hov) := Yz hov
      have hu1 : us[f.offset]? = some (us[f.offset]'hou) := Yz hou
      have hCv := hv _ _ _ hv1 hx
      have hCu := hu _ _ _ hu1 hy
      have hd : ∃ d, P.underlying f.type = some d /\ Zgr d = false := let ⟨d, h1, h2, _⟩ := zdz          hl1; ⟨d, h1, h2⟩
      have heq : (Op.equalIn (d + 1) f.type (vs[f.offset]'hov) (us[f.offset]'hou)).run P w = .ok b w := zi6        hl1 hCv hCu hb
      have ih := zg6       (d := d) hlv hlu hv hu fs ls' c hls hc
      have hn' : f.name ≠ "_" := hn
      simp only [Op.eqFields, hn', ne_eq, not_false_eq_true, if_true, Sem.run_bind, zdy          hd hv1, zdy          hd hu1, heq, Result.andThen_ok]
      cases b
      all_goals simp_all
    grind
end
end
section
open Go.RowKit
section
variable{P:Program}{w:World}{S:Nat->Nat->Prop}{M:Map}{clk:Nat}{e:Nat->AV}{h:Heap}{a:Act}
def zlj{neq:Bool}{t:TypeId}{X Y:Operand}{v u:Value}{x y z:AV}{fs:Array Field}{ls:List (Nat×Leaf)}(ht:P.underlying t=some (.struct fs))(hg:P.eqGuardType P.depth t=false)(hs:P.stoodInHeld t=false)
  (hl:leaves P fs.toList=some ls) (hv:C w S M clk v x) (hu:C w S M clk u y) (hz:Zg9 neq ls x y=some z) :
  ∃r,(do eqGuard (if neq then .neq else .eql) t X Y v u;binOp (if neq then .neq else .eql) t v u:Sem Value).run P w=.ok r w/\C w S M clk r z:=by
 unfold Zg9 at hz;split at hz
 ·obtain⟨b,hb,rfl⟩:=map_some hz;obtain⟨vs,rfl,hlv,hv1,hv⟩:=hv.inv_agg;obtain⟨us,rfl,hlu,hu1,hu⟩:=hu.inv_agg;refine⟨_,?_,.p (.b _)⟩;have hfo:P.fieldsOf t=fs:=by simp[Program.fieldsOf,ht]
  have he:=zg6 (P:=P) (d:=9998) hlv hlu hv hu fs.toList ls b hl hb
  grind[run_equalIn_struct,Sem.run_bind,run_eqGuard_agg,Result.andThen_ok,binOp,Op.equal,Op.maxDepth,Sem.run_pure]
 grind
def zg7{d:Nat}{t el:TypeId}{a:Option Addr}{l c:Nat}(ht:P.underlying t=some (.slice el)):(Op.equalIn (d+1) t (.slice a l c) (.slice none 0 0)).run P w=.ok a.isNone w:=by
 cases a<;>simp[Op.equalIn,run_underlying ht]
def zg8{neq:Bool}{t el:TypeId}{X Y:Operand}{v:Value}{x z:AV}(ht:P.underlying t=some (.slice el))(hv:C w S M clk v x)(hz:Zer neq x=some z) :
  ∃r,(do eqGuard (if neq then .neq else .eql) t X Y v (.slice none 0 0);binOp (if neq then .neq else .eql) t v (.slice none 0 0):Sem Value).run P w=.ok r w/\C w S M clk r z:=by
 have key:∀(a:Option Addr) (l c:Nat),v=.slice a l c->z=.b (if neq then !a.isNone else a.isNone)->∃r,(do eqGuard (if neq then .neq else .eql) t X Y v (.slice none 0 0);binOp (if neq then .neq else .eql) t v (.slice none 0 0):Sem Value).run P w=.ok r w/\C w S M clk r z:=by
  intro a l c hv hz;subst hz;have he:(Op.equalIn 10000 t (.slice a l c) (.slice none 0 0)).run P w=.ok a.isNone w:=zg7 (d:=9999) ht;refine⟨.bool (if neq then !a.isNone else a.isNone),?_,.p (.b _)⟩
  grind[Sem.run_bind,zfw,Result.andThen_ok,binOp,Op.equal,Op.maxDepth,Sem.run_pure]
 unfold Zer at hz;split at hz<;>cases hz
 ·rcases hv.inv_sl.inv_sl with ⟨_,b,rfl,_,hb2⟩ | ⟨_,_,_,_,_,rfl,h1,_⟩
  all_goals grind
 ·rcases hv.inv_sl.inv_sl with ⟨_,b,rfl,hb1,hb2⟩ | ⟨_,_,_,_,_,rfl,h1,_⟩
  all_goals grind
 ·rcases hv.inv_sl.inv_sl with ⟨_,b,rfl,hb1,hb2⟩ | ⟨_,_,_,_,_,rfl,h1,_⟩
  ·cases b with
   | none=>grind
   | some a=>grind
  grind
 ·rcases hv.inv_sl.inv_sl with ⟨he,_⟩ | ⟨_,_,_,_,_,rfl,h1,_⟩
  all_goals grind
def zw9{op:UnOp}{v:Value}{x z:AV}(hv:C w S M clk v x)(hz:Zgm op x=some z):∃r,(Op.unary op v).run P w=.ok r w/\C w S M clk r z:=by
 unfold Zgm at hz;split at hz<;>cases hz
 ·obtain rfl:=hv.inv_i;exact⟨_,by simp[Op.unary,Op.intArith],.p (.i _ _)⟩
 ·obtain rfl:=hv.inv_b;exact⟨_,by simp[Op.unary],.p (.b _)⟩
def zqr{s t:TypeId}{k0 k:IntKind}{v:Value}{x z:AV}(hs:P.underlying s=some (.int k0))(ht:P.underlying t=some (.int k))(hv:C w S M clk v x)(hz:Zbd k x=some z):∃r,(convert s t v).run P w=.ok r w/\C w S M clk r z:=by
 unfold Zbd at hz;split at hz<;>cases hz;obtain rfl:=hv.inv_i;exact⟨_,by simp[convert,run_underlying hs,run_underlying ht,Conv.intToInt],.p (.i _ _)⟩
def zdj{v:Value}{x:AV}{y:Int}{n:Nat}(hv:C w S M clk v x)(hb:bnd x y=some n):∃k,v=.int k (n:Int)/\(n:Int)<=y:=by
 unfold bnd at hb;split at hb
 ·obtain rfl:=hv.inv_i
  grind
 grind
def CO(w:World)(S:Nat->Nat->Prop)(M:Map)(clk:Nat):Option Value->Option AV->Prop
 | none,none=>True
 | some v,some x=>C w S M clk v x
 | _,_=>False
def zce{k:IntKind}{n y:Nat}{code:BoundsCode}(hn:n<=y):(Instr.sliceBound (.int k (n:Int)) y code).run P w=.ok n w:=by
 have h1:(0:Int)<=(n:Int)/\(n:Int)<=(y:Int):=by omega
 simp[Instr.sliceBound,asIntOf,h1]
def zbd{b:Bool}{len cap:Nat}{lo hi mx:Option Value}{lo' hi' mx':Option AV}{k m l:Nat}{top:Nat}(hm:hi.isNone->mx.isNone)
  (hlo:CO w S M clk lo lo') (hhi:CO w S M clk hi hi') (hmx:CO w S M clk mx mx')
  (h1:Zew hi' len top=some k) (h2:Zew mx' k top=some m) (h3:Zew lo' 0 k=some l) (htop:top<=cap) (hlen:len<=top) (hkm:k<=m) :
  (Instr.sliceBounds b len cap lo hi mx).run P w=.ok (l,k,if mx.isSome then m else cap) w/\l<=k/\k<=top/\(mx.isSome->m<=top):=by
 have hk:k<=top:=by
  cases hi' with
  | none=>simp only[Zew,Option.some.injEq]at h1;omega
  | some v=>
   cases hi with
   | none=>exact hhi.elim
   | some v'=>obtain⟨_,_,h⟩:=zdj (x:=v) hhi h1;omega
 have hl:l<=k:=by
  cases lo' with
  | none=>simp only[Zew,Option.some.injEq]at h3;omega
  | some v=>
   cases lo with
   | none=>exact hlo.elim
   | some v'=>obtain⟨_,_,h⟩:=zdj (x:=v) hlo h3;omega
 refine⟨?_,hl,hk,?_⟩
 ·have lowb:∀(code:BoundsCode),(match lo with | some v=>Instr.sliceBound v k code | none=>pure 0:Sem Nat).run P w=.ok l w:=by
   intro code;cases lo' with
   | none=>
    cases lo with
    | none=>simp only[Zew,Option.some.injEq]at h3;simp_all
    | some v=>exact hlo.elim
   | some x=>
    cases lo with
    | none=>exact hlo.elim
    | some v=>
     obtain⟨kk,rfl,_⟩:=zdj (x:=x) hlo h3;exact zce hl
  cases mx' with
  | none=>
   cases mx with
   | some v=>exact hmx.elim
   | none=>
    cases hi' with
    | none=>
     cases hi with
     | some v=>exact hhi.elim
     | none=>
      simp only[Zew,Option.some.injEq]at h1;simp only[Instr.sliceBounds,Sem.run_bind,Sem.run_pure,Result.andThen_ok,Yb6,Yad,if_false];cases lo<;>simp_all
    | some x=>
     cases hi with
     | none=>exact hhi.elim
     | some v=>
      obtain⟨kk,rfl,_⟩:=zdj (x:=x) hhi h1;have hr:∀code,(Instr.sliceBound (.int kk (k:Int)) cap code).run P w=.ok k w:=fun code=>zce (by omega);simp only[Instr.sliceBounds,Sem.run_bind,Sem.run_pure,Result.andThen_ok,Yb6,Yad,if_false,hr];cases lo<;>simp_all
  | some xm=>
   cases mx with
   | none=>exact hmx.elim
   | some vm=>
    obtain⟨km,rfl,hmt⟩:=zdj (x:=xm) hmx h2;have hrm:∀code,(Instr.sliceBound (.int km (m:Int)) cap code).run P w=.ok m w:=fun code=>zce (by omega);cases hi' with
    | none=>
     cases hi with
     | some v=>exact hhi.elim
     | none=>grind
    | some x=>
     cases hi with
     | none=>grind
     | some v=>
      obtain⟨kk,rfl,_⟩:=zdj (x:=x) hhi h1;have hr:∀code,(Instr.sliceBound (.int kk (k:Int)) m code).run P w=.ok k w:=fun code=>zce (by omega);simp only[Instr.sliceBounds,Sem.run_bind,Result.andThen_ok,Option.isSome_some,if_true,hr,hrm];cases lo<;>simp_all
 ·cases mx' with
  | none=>cases mx with | none=>grind | some v=>exact hmx.elim
  | some x=>
   cases mx with
   | none=>grind
   | some v=>obtain⟨_,_,h⟩:=zdj (x:=x) hmx h2;omega
def zb4{t:TypeId}{z:Nat}(hz:Zaq P t=some z):(sizeOf t).run P w=.ok z w:=by
 obtain⟨inf,hi,rfl⟩:=map_some hz;simp[sizeOf,typeInfo,hi,Result.andThen]
theorem zj4{f:Fl}{v:Value}{blk off cap:Nat}(hv:v=.slice (some ⟨blk,off,none⟩) 0 cap)(hc:cap<=maxLen)(hf:f≠.nl/\f≠.fu):CP w S v (.sl [] f):=by
 subst hv;refine .sl blk off 0 cap [] f (fun _ _=>undef) hf.1 (fun h=>absurd h hf.2) (Y4 _) hc (fun i r h=>by grind) (fun i j h=>by omega) (fun i r j c h=>by grind)
def ztm{t el:TypeId}{z:Nat}{v:Value}{x y:AV}{lo hi mx:Option Value}{lo' hi' mx':Option AV}(ht:P.underlying t=some (.slice el))(hz:Zaq P el=some z)(hh:HeapRel w S M clk h)
  (hm:hi.isNone->mx.isNone) (hlo:CO w S M clk lo lo') (hhi:CO w S M clk hi hi') (hmx:CO w S M clk mx mx') (hv:C w S M clk v x) (hy:Zf7 z h x lo' hi' mx'=some y) :
  ∃r,(Instr.sliceAt t v lo hi mx).run P w=.ok r w/\C w S M clk r y:=by
 have hrun:∀(a:Option Addr) (len cap l k m:Nat),v=.slice a len cap->(Instr.sliceBounds true len cap lo hi mx).run P w=.ok (l,k,m) w ->
   (Instr.sliceAt t v lo hi mx).run P w=.ok (.slice (if m=l then a else a.map (·.add (l*z))) (k-l) (m-l)) w:=by
  intro a len cap l k m hv hb;subst hv;simp only[Instr.sliceAt,Instr.slice,Sem.run_bind,run_underlying ht,Result.andThen_ok,hb,zb4 hz,Sem.run_pure]
 cases x<;>simp only[Zf7]at hy<;>try cases hy
 case sl els f=>
  obtain⟨k,h1,hy1⟩:=bind_some hy;obtain⟨m,h2,hy2⟩:=bind_some hy1;obtain⟨l,h3,hy3⟩:=bind_some hy2;split at hy3<;>cases hy3;rename_i hc;obtain⟨hkm,hzz⟩:=hc;rcases hv.inv_sl.inv_sl with ⟨rfl,b,rfl,hb1,hb2⟩ | ⟨blk,off,z0,cap,u,rfl,hf,hfull,hcap,hmax,hz0,hS,hcc⟩
  ·obtain⟨hb,hlk,hkt,hmt⟩:=zbd (P:=P) (b:=true) (len:=0) (cap:=0) hm hlo hhi hmx h1 h2 h3 (Yi _) (Yi _) hkm;have hk0:k=0:=by grind
   have hl0:l=0:=by omega
   subst hk0;subst hl0;have hm0:(if mx.isSome=true then m else 0)=0:=by
    grind
   refine⟨_,hrun b 0 0 0 0 _ rfl hb,.p ?_⟩;rw[hm0];cases b with
   | none=>refine .slnil _ ?_;grind
   | some a=>refine .slz a _ ?_;grind
  ·obtain⟨hb,hlk,hkt,hmt⟩:=zbd (P:=P) (b:=true) (len:=els.length) (cap:=cap) hm hlo hhi hmx h1 h2 h3 hcap (Yi _) hkm;refine⟨_,hrun _ _ _ _ _ _ rfl hb,.p ?_⟩;generalize hmm:(if mx.isSome=true then m else cap)=mm;have hmm1:k<=mm/\mm<=maxLen:=by
    grind
   simp only[hf,if_false];by_cases hlk':l=k
   ·subst hlk'
    grind[zj4,zbc]
   ·have hml:mm≠l:=by omega
    have hz1:z0=z:=by
     cases els with
     | nil=>grind
     | cons r els=>
      have h4:=hz0 0 r rfl
      grind
    subst hz1;have hlen:((els.take k).drop l).length=k-l:=by grind
    simp only[hml,if_false,Ya1,zbc];rw[<-hlen];refine .sl blk (off+l*z0) z0 (mm-l) _ .an (fun i j=>u (l+i) j) (by simp) (by simp) (by omega) (by omega) ?_ ?_ ?_
    all_goals grind
 case bs id g z' off n=>
  obtain⟨bx,hb,hy1⟩:=bind_some hy;obtain⟨k,h1,hy2⟩:=bind_some hy1;obtain⟨l,h3,hy3⟩:=bind_some hy2;clear hy hy1 hy2;by_cases hc:z'=z/\mx'.isNone=true
  case neg=>grind
  rw[if_pos hc]at hy3;have hy:=hy3;obtain⟨rfl,hmn⟩:=hc;obtain⟨hlb,hg,hzb⟩:=zaq hb;have hmx0:mx'=none:=by simp_all
  subst hmx0;have hmx1:mx=none:=by cases mx with | none=>rfl | some v=>exact hmx.elim
  subst hmx1;obtain⟨hgl,hbs,_⟩:=hv.inv_bs;obtain⟨_,_,m,hm1,hbox⟩:=hh.box id bx hlb;rw[hg]at hm1;rw[hm1]at hbs;cases m with
  | none=>
   obtain⟨rfl,rfl,ad,rfl,had⟩:=hbs;obtain⟨hb,hlk,hkt,_⟩:=zbd (P:=P) (b:=true) (len:=0) (cap:=0) (m:=k) hm hlo hhi (mx':=none) (mx:=none) trivial h1 rfl h3 (Yi _) (Yi _) (Yi _)
   grind
  | some k0=>
   obtain⟨arr,ty,cap,hblk,rfl,hnc,hcm,harr⟩:=hbs;obtain⟨hb,hlk,hkt,_⟩:=zbd (P:=P) (b:=true) (len:=n) (cap:=cap) (m:=k) hm hlo hhi (mx':=none) (mx:=none) trivial h1 rfl h3 hnc (Yi _) (Yi _);refine⟨_,hrun _ _ _ _ _ _ rfl hb,?_⟩;split at hy
   ·cases hy;rename_i hl0;subst hl0;refine .bs id g z' off k _ hgl ?_ (by split<;>rfl)
    grind[Zfc,Addr.add]
   ·split at hy
    ·cases hy;refine .bs id g z' (off+l) (k-l) _ hgl ?_ (by rfl)
     grind[Zfc,zbc,Nat.add_mul]
    ·rename_i hl0 hlk';have hkl:k-l=0:=by omega
     refine .p ?_
     grind[zj4,zbc]
end
end
section
open Go.RowKit
section
variable{P:Program}{w:World}{S:Nat->Nat->Prop}{M:Map}{clk:Nat}{e:Nat->AV}{h:Heap}{a:Act}
def znq{t:TypeId}{v:Value}{x y:AV}{lo hi:Option Value}{lo' hi':Option AV}(ht:P.underlying t=some .string)
  (hlo:CO w S M clk lo lo') (hhi:CO w S M clk hi hi') (hv:C w S M clk v x) (hy:Zes x lo' hi'=some y) :
  ∃r,(Instr.sliceAt t v lo hi none).run P w=.ok r w/\C w S M clk r y:=by
 unfold Zes at hy;split at hy
 ·rename_i l;obtain⟨k,h1,hy1⟩:=bind_some hy;obtain⟨q,h3,rfl⟩:=map_some hy1;obtain rfl:=hv.inv_s;obtain⟨hb,hqk,hkt,_⟩:=zbd (P:=P) (b:=false) (len:=l.length) (cap:=l.length) (m:=k) (fun _=>rfl) hlo hhi (mx':=none) (mx:=none) trivial h1 rfl h3 (Yi _) (Yi _) (Yi _);refine⟨_,?_,.p (.s _)⟩;simp only[Instr.sliceAt,Instr.slice,Sem.run_bind,run_underlying ht,Result.andThen_ok,size_toArray,hb,Sem.run_pure,Yb6,Yad,if_false];congr 2;apply ByteArray.ext;simp[List.drop_take]
 grind
theorem znr{v:Value}{id:BId}{g z i o:Nat}(hh:HeapRel w S M clk h)(hv:C w S M clk v (.ptr id g z i o))(hl:Zez h id g z i=true) :
  ∃k,M g=some (some k)/\v=.pointer (some ⟨k,i*z+o,none⟩):=by
 unfold Zez at hl;split at hl
 ·rename_i bx hb;obtain⟨hlk,hg,hz⟩:=zaq hb;obtain⟨_,_,m,hm,hbox⟩:=hh.box id bx hlk;have hpo:=hv.inv_ptr.2.1
  grind[Zc1]
 grind
def ztn{t:TypeId}{v:Value}{x y:AV}{fs:Array Field}{f:Field}{i n:Nat}(ht:P.underlying t=some (.struct fs))(hf:fs[i]? = some f)(hn:Zaq P f.type=some n)(h0:n≠0)
  (hh:HeapRel w S M clk h) (hv:C w S M clk v x) (hy:Zgn f.offset h x=some y) :
  ∃r,(Instr.fieldAt t v i).run P w=.ok r w/\C w S M clk r y:=by
 have hrun:∀blk off,(Instr.fieldAt t (.pointer (some ⟨blk,off,none⟩)) i).run P w=.ok (.pointer (some ⟨blk,off+f.offset,none⟩)) w:=by
  intro blk off;simp only[Instr.fieldAt,Sem.run_bind,run_underlying ht,Result.andThen_ok,hf,Instr.sureAddr,Sem.run_pure,fieldPlace,zb4 hn,h0,if_false,Sem.run_ite,zbc]
 cases x<;>simp only[Zgn]at hy<;>try cases hy
 case ep cs o=>
  obtain⟨blk',off',u,rfl,hS,hc⟩:=hv.inv_ep.inv_ep;refine⟨_,hrun _ _,?_⟩;rw[Yap];exact .p (.ep blk' off' cs (o+f.offset) u hS hc)
 case ptr id g z j o=>
  split at hy<;>cases hy;rename_i hl;obtain⟨k,hm,rfl⟩:=znr hh hv hl;refine⟨_,hrun _ _,.ptr _ _ _ _ _ _ hv.inv_ptr.1 ?_ rfl⟩
  grind[Zc1]
def zqs{v:Value}{x y:AV}(hh:HeapRel w S M clk h)(hv:C w S M clk v x)(hy:Ze5 h x=some y):((∃ad,v=.pointer (some ad))\/∃f u1 u2,v=.func (.func f) u1 u2)/\C w S M clk v y:=by
 cases x<;>simp only[Ze5]at hy<;>try cases hy
 case ep cs o=>
  obtain⟨blk',off',u,rfl,hS,hc⟩:=hv.inv_ep.inv_ep
  grind
 case ptr id g z j o=>
  grind[znr]
 case fnp f id g z j o=>
  split at hy<;>cases hy;rename_i hf;obtain⟨u,hu,_⟩:=hv.inv_fnp;rw[znd hf]at hu;exact⟨.inr ⟨_,_,_,hu⟩,hv⟩
 case fnv f x=>
  obtain⟨u,rfl,_⟩:=hv.inv_fnv
  grind
def zto{t:TypeId}{v:Value}{x y:AV}{fs:Array Field}{f:Field}{i:Nat}{n:Option Nat}(ht:P.underlying t=some (.struct fs))(hf:fs[i]? = some f)(hn:Zek P f.type=some n)
  (hv:C w S M clk v x) (hy:Zhb f.offset n x=some y):∃r,(Instr.field t v i).run P w=.ok r w/\C w S M clk r y:=by
 cases x<;>simp only[Zhb]at hy<;>try cases hy
 case agg cs=>
  obtain⟨vs,rfl,hl,h1,hc⟩:=hv.inv_agg;obtain⟨r,hr,hC⟩:=zpf (P:=P) hn hl h1 hc hy;exact⟨r,by simp only[Instr.field,Sem.run_bind,run_underlying ht,Result.andThen_ok,hf,asAgg,Sem.run_pure,hr],hC⟩
def ztp{t el:TypeId}{z:Nat}{v u:Value}{x i y:AV}(ht:P.underlying t=some (.slice el))(hz:Zaq P el=some z)(hh:HeapRel w S M clk h)
  (hv:C w S M clk v x) (hu:C w S M clk u i) (hy:Zgo z h x i=some y):∃r,(Instr.indexAt t v u).run P w=.ok r w/\C w S M clk r y:=by
 have hrun:∀(blk off:Nat) (len cap:Nat) (k:IntKind) (n:Int),v=.slice (some ⟨blk,off,none⟩) len cap->u=.int k n->0<=n/\n<len->(Instr.indexAt t v u).run P w=.ok (.pointer (some ⟨blk,off+n.toNat*z,none⟩)) w:=by
  intro blk off len cap k n hv hu hn;subst hv;subst hu;simp only[Instr.indexAt,asIntOf,Sem.run_bind,run_underlying ht,Result.andThen_ok,Sem.run_pure,hn,and_self,if_true,zb4 hz,zbc,Sem.run_ite]
 cases x<;>simp only[Zgo]at hy<;>try cases hy
 case sl els f=>
  cases i<;>try cases hy
  rename_i k n;obtain rfl:=hu.inv_i;simp only at hy;split at hy<;>try cases hy
  rename_i hn;obtain⟨r,hr,hy1⟩:=bind_some hy;split at hy1<;>cases hy1;rcases hv.inv_sl.inv_sl with ⟨rfl,_,rfl,_⟩ | ⟨blk,off,z0,cap,uu,rfl,hf,hfull,hcap,hmax,hz0,hS,hcc⟩
  ·grind
  ·refine⟨_,hrun _ _ _ _ _ _ rfl rfl hn,.p ?_⟩;have hz1:z0=z:=by grind
   subst hz1;have hlt:n.toNat<els.length:=by omega
   have:=CP.ep (w:=w) (S:=S) blk (off+n.toNat*z0) r 0 (fun j=>uu n.toNat j) (fun j hj=>hS n.toNat j hlt (by omega)) (fun j c hj=>hcc _ _ _ _ hr hj);omega
 case bs id g z' off len=>
  cases i<;>try cases hy
  obtain rfl:=hu.inv_i;obtain⟨bx,hb,hy1⟩:=bind_some hy;split at hy1<;>cases hy1;rename_i hn;obtain⟨rfl,hn⟩:=hn;obtain⟨hlk,hg,hzb⟩:=zaq hb;obtain⟨_,_,m,hm,_⟩:=hh.box id bx hlk;rw[hg]at hm;obtain⟨hgc,hbs,_⟩:=hv.inv_bs;unfold Zfc at hbs;rw[hm]at hbs;cases m with
  | none=>omega
  | some k0=>
   obtain⟨arr,ty,cap,hblk,rfl,hnc,hcm,harr⟩:=hbs;refine⟨_,hrun _ _ _ _ _ _ rfl rfl hn,.ptr _ _ _ _ _ _ hgc ?_ rfl⟩
   grind[Zc1]
def ztq{t el:TypeId}{z len:Nat}{v u:Value}{x i y:AV}(ht:P.underlying t=some (.array len el))(hz:Zaq P el=some z)(hh:HeapRel w S M clk h)
  (hv:C w S M clk v x) (hu:C w S M clk u i) (hy:Zgp z len h x i=some y):∃r,(Instr.indexAt t v u).run P w=.ok r w/\C w S M clk r y:=by
 have hrun:∀(blk off:Nat) (k:IntKind) (n:Int),v=.pointer (some ⟨blk,off,none⟩)->u=.int k n->0<=n/\n<len->(Instr.indexAt t v u).run P w=.ok (.pointer (some ⟨blk,off+n.toNat*z,none⟩)) w:=by
  intro blk off k n hv hu hn;subst hv;subst hu;simp only[Instr.indexAt,asIntOf,Sem.run_bind,run_underlying ht,Result.andThen_ok,Sem.run_pure,hn,and_self,if_true,zb4 hz,zbc,Sem.run_ite,Instr.sureAddr]
 cases x<;>simp only[Zgp]at hy<;>try cases hy
 case ep cs o=>
  cases i<;>try cases hy
  obtain rfl:=hu.inv_i;simp only at hy;split at hy<;>cases hy;rename_i hn;obtain⟨blk',off',uu,rfl,hS,hc⟩:=hv.inv_ep.inv_ep;refine⟨_,hrun _ _ _ _ rfl rfl hn,?_⟩;rw[Yap];exact .p (.ep blk' off' cs _ uu hS hc)
 case ptr id g z' j o=>
  cases i<;>try cases hy
  obtain rfl:=hu.inv_i;simp only at hy;split at hy<;>cases hy;rename_i hn;obtain⟨hl,hn⟩:=hn;obtain⟨k0,hm,rfl⟩:=znr hh hv hl;refine⟨_,hrun _ _ _ _ rfl rfl hn,.ptr _ _ _ _ _ _ hv.inv_ptr.1 ?_ rfl⟩
  grind[Zc1]
theorem getElem?_bytes(l:List UInt8)(i:Nat):(⟨l.toArray⟩:ByteArray)[i]? = l[i]? := by
 rcases Yv i l.length with h | h
 ·rw[getElem?_pos (⟨l.toArray⟩:ByteArray) i (by exact h),Ya h]
  rfl
 grind[size_toArray]
def ztr{t:TypeId}{v u:Value}{x i y:AV}(ht:P.underlying t=some .string)(hv:C w S M clk v x)(hu:C w S M clk u i)(hy:Zhc x i=some y) :
  ∃r,(Instr.index t v u).run P w=.ok r w/\C w S M clk r y:=by
 unfold Zhc at hy;split at hy
 ·obtain rfl:=hv.inv_s;obtain rfl:=hu.inv_i;split at hy<;>try cases hy
  rename_i hn;obtain⟨b,hb,rfl⟩:=map_some hy;refine⟨_,?_,.p (.i _ _)⟩;simp only[Instr.index,asIntOf,Sem.run_bind,run_underlying ht,Result.andThen_ok,Sem.run_pure,hn.1,if_true,getElem?_bytes,hb]
 grind
def zts{t el:TypeId}{z len:Nat}{n:Option Nat}{v u:Value}{x i y:AV}(ht:P.underlying t=some (.array len el))(hz:Zaq P el=some z)(hn:Zek P el=some n)(hv:C w S M clk v x)(hu:C w S M clk u i)(hy:Zhd z len n x i=some y) :
  ∃r,(Instr.index t v u).run P w=.ok r w/\C w S M clk r y:=by
 unfold Zhd at hy;split at hy
 ·obtain⟨vs,rfl,hl,h1,hc⟩:=hv.inv_agg;obtain rfl:=hu.inv_i;split at hy<;>try cases hy
  rename_i hj;obtain⟨r,hr,hC⟩:=zpf (P:=P) hn hl h1 hc hy;refine⟨r,?_,hC⟩;simp only[Instr.index,asIntOf,Sem.run_bind,run_underlying ht,Result.andThen_ok,Sem.run_pure,hj,and_self,if_true,zb4 hz,Sem.run_ite,hr]
 grind
def zqt{t ty:TypeId}{v:Value}{x y:AV}(ht:P.underlying t=some .string)(hv:C w S M clk v x)(hy:Zfs x=some y) :
  ∃r,(Builtin.len_ #[t] ty #[v]).run P w=.ok r w/\C w S M clk r y:=by
 cases x<;>simp only[Zfs]at hy<;>try cases hy
 case s l=>
  obtain rfl:=hv.inv_s;exact⟨_,by simp[Builtin.len_,run_underlying ht,size_toArray,goInt],.p (.i _ _)⟩
def ztt{t ty el:TypeId}{v:Value}{x y:AV}(ht:P.underlying t=some (.slice el))(hh:HeapRel w S M clk h)(hv:C w S M clk v x)(hy:Zgq h x=some y) :
  ∃r,(Builtin.len_ #[t] ty #[v]).run P w=.ok r w/\C w S M clk r y:=by
 have hrun:∀a n c,v=.slice a n c->(Builtin.len_ #[t] ty #[v]).run P w=.ok (.int .i64 n) w:=by
  intro a n c hv;subst hv;simp[Builtin.len_,run_underlying ht,goInt]
 cases x<;>simp only[Zgq]at hy<;>try cases hy
 case sl els f=>
  rcases hv.inv_sl.inv_sl with ⟨rfl,_,rfl,_⟩ | ⟨blk,off,z0,cap,uu,rfl,_⟩
  ·exact⟨_,hrun _ _ _ rfl,.p (.i _ _)⟩
  ·exact⟨_,hrun _ _ _ rfl,.p (.i _ _)⟩
 case bs id g z off n=>
  obtain⟨bx,hb,rfl⟩:=map_some hy;obtain⟨hlk,hg,hzb⟩:=zaq hb;obtain⟨_,_,m,hm,_⟩:=hh.box id bx hlk;rw[hg]at hm;obtain⟨hgc,hbs,_⟩:=hv.inv_bs;rw[hm]at hbs;cases m with
  | none=>
   obtain⟨rfl,rfl,ad,rfl,_⟩:=hbs;exact⟨_,hrun _ _ _ rfl,.p (.i _ _)⟩
  | some k0=>
   obtain⟨arr,ty,cap,hblk,rfl,_⟩:=hbs;exact⟨_,hrun _ _ _ rfl,.p (.i _ _)⟩
def ztu{mx:Bool}{v u:Value}{x y z:AV}(hv:C w S M clk v x)(hu:C w S M clk u y)(hz:mm2 mx x y=some z) :
  ∃r,(if mx then Builtin.max2 v u else Builtin.min2 v u).run P w=.ok r w/\C w S M clk r z:=by
 unfold mm2 at hz;split at hz
 ·obtain rfl:=hv.inv_i;obtain rfl:=hu.inv_i;split at hz<;>cases hz;refine⟨_,?_,.p (.i _ _)⟩;cases mx<;>simp[Builtin.max2,Builtin.min2]
 grind
theorem zlk{mx:Bool}:∀(vs:List Value) (xs:List AV) (v:Value) (x y:AV),vs.length=xs.length->(∀(j:Nat) (u:Value) (c:AV),vs[j]? = some u->xs[j]? = some c->C w S M clk u c)->C w S M clk v x->mmL mx x xs=some y ->
  ∃r,(vs.foldlM (fun a b=>if mx then Builtin.max2 a b else Builtin.min2 a b) v:Sem Value).run P w=.ok r w/\C w S M clk r y
 | [],[],v,x,y,_,_,hv,hy=>by
  simp only[mmL,Option.some.injEq]at hy
  simp_all
 | [],_::_,_,_,_,hl,_,_,_=>by grind
 | _::_,[],_,_,_,hl,_,_,_=>by grind
 | u::vs,c::xs,v,x,y,hl,hc,hv,hy=>by
  obtain⟨z,hz,hy1⟩:=bind_some hy;obtain⟨r,hr,hC⟩:=ztu (P:=P) hv (hc 0 u c rfl rfl) hz;obtain⟨r',hr',hC'⟩:=zlk vs xs r z y (by grind) (fun j u c h1 h2=>hc (j+1) u c (by grind) (by grind)) hC hy1
  simp_all
def ztv{v:Value}{x y:AV}{ix:Nat}(hv:C w S M clk v x)(hy:Zhe ix x=some y):∃r,(Instr.extract v ix).run P w=.ok r w/\C w S M clk r y:=by
 cases x<;>simp only[Zhe]at hy<;>try cases hy
 case tup cs=>
  obtain⟨vs,rfl,hl,hc⟩:=hv.inv_tup;have hlt:ix<cs.length:=by
   grind
  have hv:vs[ix]? = some (vs[ix]'(by omega)):=Yz (by omega);exact⟨_,by simp only[Instr.extract,hv];rfl,hc _ _ _ hv hy⟩
end
end
section
open Go.RowKit
section
variable{P:Program}{w:World}{S:Nat->Nat->Prop}{M:Map}{clk:Nat}{e:Nat->AV}{h:Heap}{a:Act}
theorem zll(off:Nat):∀(vs:List Value) (n:Nat) (cells:Array Value),off+n+vs.length<=cells.size ->
  (((vs.zipIdx n).foldl (fun cs (p:Value×Nat)=>cs.setIfInBounds (off+p.2) p.1) cells).toList=cells.toList.take (off+n)++(vs++cells.toList.drop (off+n+vs.length)))
 | [],n,cells,_=>by simp
 | v::vs,n,cells,hl=>by
  simp only[Yde,List.foldl_cons];rw[zll off vs (n+1) _ (by grind)];simp only[Yg]at hl;have hlt:off+n<cells.toList.length:=by grind
  apply Ydx;intro j;simp only[Array.toList_setIfInBounds];rcases Ybd j (off+n) with hj | hj | hj
  ·rw[Yo (by grind),Yo (by grind),Yak,Yak,if_pos (by omega),if_pos (by omega),Ydg (by omega)]
  ·subst hj;rw[Yo (by grind),Ye (by grind),Yak,if_pos (by omega),Yc4 (by omega)]
   grind
  ·have e1:(List.take (off+(n+1)) (cells.toList.set (off+n) v)).length=off+n+1:=by grind
   have e2:(List.take (off+n) cells.toList).length=off+n:=by grind
   obtain⟨q,rfl⟩:∃q,j=off+n+1+q:=⟨j-(off+n)-1,by omega⟩;rw[Ye (l₁:=List.take (off+(n+1)) (cells.toList.set (off+n) v)) (by omega),Ye (l₁:=List.take (off+n) cells.toList) (by omega),e1,e2,
    show off+n+1+q-(off+n+1)=q by omega,show off+n+1+q-(off+n)=q+1 by omega]
   simp only[Ycv,Yav];rcases Yv q vs.length with h1 | h1
   ·rw[Yo h1,Yo h1]
   ·rw[Ye h1,Ye h1,Yaq,Yaq,Ydg (by omega)];simp only[Yg]
    grind
def zpg(off:Nat)(vs cells:Array Value)(hl:off+vs.size<=cells.size) :
  (vs.zipIdx.foldl (fun cs (p:Value×Nat)=>cs.setIfInBounds (off+p.2) p.1) cells).toList=cells.toList.take off++(vs.toList++cells.toList.drop (off+vs.size)):=by
 rw[<-Array.foldl_toList,Array.toList_zipIdx,zll off vs.toList 0 cells (by omega)];simp
def Pt(w:World)(S:Nat->Nat->Prop)(M:Map)(clk:Nat)(vs:List Value)(cs:List AV):Prop:=
 vs.length=cs.length/\(∀(j:Nat) (v:Value),vs[j]? = some v->v.oneCell'=true)/\(∀(j:Nat) (v:Value) (c:AV),vs[j]? = some v->cs[j]? = some c->C w S M clk v c)
def Pt.append{vs us:List Value}{cs ds:List AV}(h1:Pt w S M clk vs cs)(h2:Pt w S M clk us ds):Pt w S M clk (vs++us) (cs++ds):=by
 refine⟨by simp[h1.1,h2.1],fun j v hv=>?_,fun j v c hv hc=>?_⟩
 ·rcases Yv j vs.length with hj | hj
  ·rw[Yo hj]at hv;exact h1.2.1 _ _ hv
  ·rw[Ye hj]at hv;exact h2.2.1 _ _ hv
 ·rcases Yv j vs.length with hj | hj
  ·rw[Yo hj]at hv;rw[Yo (by rw[<-h1.1];omega)]at hc;exact h1.2.2 _ _ _ hv hc
  ·rw[Ye hj]at hv;rw[Ye (by rw[<-h1.1];omega)]at hc;exact h2.2.2 _ _ _ hv (by rw[h1.1];omega)
def Pt.take{vs:List Value}{cs:List AV}(h1:Pt w S M clk vs cs)(n:Nat):Pt w S M clk (vs.take n) (cs.take n):=by
 refine⟨by simp[h1.1],fun j v hv=>?_,fun j v c hv hc=>?_⟩
 ·rw[Yak]at hv;split at hv
  ·exact h1.2.1 _ _ hv
  grind
 ·rw[Yak]at hv hc;split at hv
  ·rename_i hj;rw[if_pos hj]at hc;exact h1.2.2 _ _ _ hv hc
  grind
def Pt.drop{vs:List Value}{cs:List AV}(h1:Pt w S M clk vs cs)(n:Nat):Pt w S M clk (vs.drop n) (cs.drop n):=by
 refine⟨by simp[h1.1],fun j v hv=>?_,fun j v c hv hc=>?_⟩
 ·rw[Yaq]at hv;exact h1.2.1 _ _ hv
 ·rw[Yaq]at hv hc;exact h1.2.2 _ _ _ hv hc
def Pt.agg{vs:List Value}{cs:List AV}(h1:Pt w S M clk vs cs):C w S M clk (.agg vs.toArray) (.agg cs):=
 .agg _ _ (by simpa using h1.1) (fun j v hv=>h1.2.1 j v (by grind)) (fun j v c hv hc=>h1.2.2 j v c (by grind) hc)
def Pt.of_cells{v:Value}{x:AV}{cs:List AV}(hx:C w S M clk v x)(hc:cellsOf x=some cs):Pt w S M clk v.cells.toList cs:=by
 obtain⟨h1,h2,h3⟩:=ze5 hx hc;exact⟨by omega,fun j u hu=>h2 j u (by grind),fun j u c hu hc=>h3 j u c (by grind) hc⟩
def PtP(w:World)(S:Nat->Nat->Prop)(M:Map)(clk:Nat)(place:Nat->Option (Nat×Nat)):List (Nat×Value)->List (Nat×Nat×AV)->Prop
 | [],[]=>True
 | (i,v)::r,(off,size,x)::s=>place i=some (off,size)/\C w S M clk v x/\PtP w S M clk place r s
 | _,_=>False
theorem zfx{place:Nat->Option (Nat×Nat)}:∀(ps:List (Nat×Value)) (qs:List (Nat×Nat×AV)) (cells:Array Value) (cs ds:List AV),
  Pt w S M clk cells.toList cs->PtP w S M clk place ps qs->Zf6 cs qs=some ds->∃r,Instr.fill place cells ps=some r/\Pt w S M clk r.toList ds
 | [],[],cells,cs,ds,hc,_,hf=>by
  simp only[Zf6,Option.some.injEq]at hf;subst hf;exact⟨cells,rfl,hc⟩
 | [],_::_,_,_,_,_,hp,_=>hp.elim
 | _::_,[],_,_,_,_,hp,_=>hp.elim
 | (i,v)::ps,(off,size,x)::qs,cells,cs,ds,hc,hp,hf=>by
  obtain⟨hpl,hx,hp⟩:=hp;simp only[Zf6]at hf;split at hf
  ·cases hf
  rename_i vs hvs;split at hf
  ·have hpt:=Pt.of_cells hx hvs;have hsz:v.cells.size=size:=by have:=hpt.1;simp at this;omega
   have hcs:cells.size=cs.length:=by have:=hc.1;simpa using this
   have hle:off+v.cells.size<=cells.size:=by omega
   have hone:=zpg off v.cells cells hle;have hpt':Pt w S M clk (v.cells.zipIdx.foldl (fun cs (p:Value×Nat)=>cs.setIfInBounds (off+p.2) p.1) cells).toList (cs.take off++(vs++cs.drop (off+size))):=by
    rw[hone,hsz];exact(hc.take off).append (hpt.append (hc.drop (off+size)))
   obtain⟨r,hr,hC⟩:=zfx ps qs _ _ ds hpt' hp hf;refine⟨r,?_,hC⟩;simp only[Instr.fill,hpl];rw[if_neg (by simp;omega)];exact hr
  ·cases hf
theorem zbe{α β:Type}{f:α->Option β}:∀(l:List α) (m:List β),l.mapM f=some m->l.length=m.length/\∀(j:Nat) (x:α) (y:β),l[j]? = some x->m[j]? = some y->f x=some y
 | [],m,h=>by simp at h;subst h;exact⟨rfl,fun j x y hx=>by simp at hx⟩
 | x::l,m,h=>by
  simp only[Ya4,Yce,Yc0]at h;obtain⟨y,hy,h1⟩:=bind_some h;obtain⟨m',hm,h2⟩:=bind_some h1;cases h2;obtain⟨hl,hg⟩:=zbe l m' hm;refine⟨by simp[hl],fun j a b ha hb=>?_⟩;cases j with
  | zero=>simp at ha hb;subst ha;subst hb;exact hy
  | succ j=>exact hg j a b (by simpa using ha) (by simpa using hb)
def zns{v:Value}{x:AV}(h:Zdi v=some x):v.oneCell'=true:=by
 unfold Zdi at h;cases v<;>first | rfl | grind
def zfa{t:TypeId}{zs:List AV}(hz:zeros P t=some zs):∃z:Value,(zeroValue t).run P w=.ok z w/\(P.info? t).bind (·.zero)=some z/\Pt w S M clk z.cells.toList zs:=by
 obtain⟨z,hz1,hz2⟩:=bind_some hz;obtain⟨inf,hi,hz3⟩:=bind_some hz1;obtain⟨hl,hg⟩:=zbe _ _ hz2;refine⟨z,by simp[zeroValue,typeInfo,hi,hz3,Result.andThen],hz1,hl,fun j v hv=>?_,fun j v c hv hc=>.p (zgv (hg j v c hv hc))⟩;have hj:j<zs.length:=by
  grind
 exact zns (hg j v _ hv (Ya hj))
def zqu(fields:Array Field)(hs:∀f∈fields.toList,∃n,Zaq P f.type=some n) :
  (fields.mapM fun f=>do pure (f.offset,<-sizeOf f.type):Sem (Array (Nat×Nat))).run P w=.ok (fields.map fun f=>(f.offset,(Zaq P f.type).getD 0)) w:=by
 rw[Array.mapM_eq_mapM_toList];have key:∀l:List Field,(∀f∈l,∃n,Zaq P f.type=some n)->(l.mapM fun f=>do pure (f.offset,<-sizeOf f.type):Sem (List (Nat×Nat))).run P w=.ok (l.map fun f=>(f.offset,(Zaq P f.type).getD 0)) w:=by
  intro l
  induction l with
  | nil=>simp_all
  | cons f l ih=>
   intro hl;obtain⟨n,hn⟩:=hl f (by simp);simp only[Ya4,Sem.run_bind,zb4 hn,Result.andThen_ok,Sem.run_pure,ih (fun g hg=>hl g (by grind)),Yx,hn,Yb5]
 refine(Sem.run_map P w _ _).trans ?_;rw[key _ hs,Result.andThen_ok];exact congrArg (fun x=>Result.ok x w) (by rw[<-Yd2])
end
end
section
open Go.RowKit
section
variable{P:Program}{w:World}{S:Nat->Nat->Prop}{M:Map}{clk:Nat}{e:Nat->AV}{h:Heap}{a:Act}
theorem C.pureC{w:World}{S:Nat->Nat->Prop}{M:Map}{clk:Nat}{v:Value}{x:AV}(h:C w S M clk v x)(hp:pureC x=true):CP w S v x:=by
 cases h with
 | p h=>exact h
 | _=>cases hp
theorem C.noRef{w:World}{S:Nat->Nat->Prop}{M:Map}{clk:Nat}{v:Value}{x:AV}(h:C w S M clk v x)(hp:noRef x=true):CP w S v x:=by
 cases h with
 | p h=>exact h
 | agg vs cs hl h1 h=>
  refine .agg vs cs hl h1 fun j v c hv hc=>?_
  grind[Ab.noRef,pureC]
 | _=>cases hp
def znt{kt:TypeId}{k:KTy}{x y:AV}{v u:Value}{b:Bool}(hk:Zeb P kt=some k)(hv:CP w S v x)(hu:CP w S u y)(hb:Zdq k x y=some b):(Op.equal kt v u).run P w=.ok b w:=by
 have hv':C w S (fun _=>none) 0 v x:=.p hv;have hu':C w S (fun _=>none) 0 u y:=.p hu;unfold Zeb at hk;split at hk
 ·rename_i q hl;cases hk;exact zi6 (d:=9999) (l:=.int) (by simp[Zgs,hl]) hv' hu' hb
 ·rename_i fs ht;split at hk
  ·cases hk
  rename_i hs;obtain⟨ls,hl,rfl⟩:=map_some hk;cases x<;>cases y<;>simp only[Zdq]at hb<;>try (cases hb;done)
  obtain⟨vs,rfl,hlv,hv1,hv⟩:=hv'.inv_agg;obtain⟨us,rfl,hlu,hu1,hu⟩:=hu'.inv_agg;have hfo:P.fieldsOf kt=fs:=by simp[Program.fieldsOf,ht]
  have he:=zg6 (P:=P) (d:=9998) hlv hlu hv hu fs.toList ls b hl hb;have:=run_equalIn_struct (P:=P) (w:=w) 9999 kt vs us (by rw[hfo];exact ht) (by simpa using hs);rw[hfo]at this;exact this.trans he
 ·cases hk
def Ziz(w:World)(S:Nat->Nat->Prop):Option AV->Option (Nat×Value)->Prop
 | none,q=>q=none
 | some y,q=>∃j u,q=some (j,u)/\CP w S u y
theorem zi7{kt:TypeId}{k:KTy}{kd:TypeDesc}{x:AV}{v:Value}(hk:Zeb P kt=some k)(hd:P.underlying kt=some kd)(hv:CP w S v x):∀(rows:List (List AV)) (es:List MapEntry) (i:Nat) (r:Option AV),
  Zd1 w S rows es->Zfe k x rows=some r->∃q,(Instr.findAsking kt v es i).run P w=.ok q w/\(Instr.findNow kd v es i=none\/Instr.findNow kd v es i=some q)/\Ziz w S r q
 | [],[],i,r,_,hf=>by
  cases hf;exact⟨none,rfl,.inr rfl,rfl⟩
 | [y,z]::rows,e::es,i,r,he,hf=>by
  obtain⟨h1,h2,h3⟩:=he;obtain⟨b,hb,hf1⟩:=bind_some hf;have heq:=znt hk hv h1 hb;have hnow:Instr.sameNow kd v e.key=none\/Instr.sameNow kd v e.key=some b:=by
   unfold Zeb at hk;rw[hd]at hk;cases kd<;>simp only at hk<;>try (cases hk;done)
   ·cases hk;cases x<;>cases y<;>simp only[Zdq,Zdk]at hb<;>try (cases hb;done)
    generalize e.key=ek at h1 ⊢;cases hv;cases h1;exact .inr hb
   ·exact .inl rfl
  cases b with
  | true=>
   cases hf1;refine⟨some (i,e.val),by simp[Instr.findAsking,heq],?_,i,e.val,rfl,h2⟩;rcases hnow with h | h
   ·exact .inl (by simp[Instr.findNow,h])
   ·exact .inr (by simp[Instr.findNow,h])
  | false=>
   obtain⟨q,q1,q2,q3⟩:=zi7 hk hd hv rows es (i+1) r h3 (by simpa using hf1);refine⟨q,by simp[Instr.findAsking,heq,q1],?_,q3⟩;rcases hnow with h | h
   ·exact .inl (by simp[Instr.findNow,h])
   ·simp only[Instr.findNow,h];exact q2
 | [],_::_,_,_,he,_=>he.elim
 | [_,_]::_,[],_,_,he,_=>he.elim
 | []::_,es,_,_,he,_=>by cases es<;>exact he.elim
 | [_]::_,es,_,_,he,_=>by cases es<;>exact he.elim
 | (_::_::_::_)::_,es,_,_,he,_=>by cases es<;>exact he.elim
def zfc{kt:TypeId}{k:KTy}{x:AV}{v:Value}(hk:Zeb P kt=some k)(hv:CP w S v x){rows:List (List AV)}{es:List MapEntry}{r:Option AV}
  (he:Zd1 w S rows es) (hf:Zfe k x rows=some r):∃q,(Instr.findKey kt v es).run P w=.ok q w/\Ziz w S r q:=by
 cases hd:P.underlying kt with
 | none=>simp[Zeb,hd]at hk
 | some kd=>
  obtain⟨q,q1,q2,q3⟩:=zi7 hk hd hv rows es 0 r he hf;refine⟨q,?_,q3⟩;rcases q2 with h | h<;>simp[Instr.findKey,run_underlying hd,h,q1]
def zeu{kt:TypeId}{k:KTy}{x:AV}{v:Value}(em:Bool)(n:Nat)(hk:Zeb P kt=some k)(hv:CP w S v x)(hx:(Zdq k x x).isSome=true):(Instr.checkKey em (n+2) kt v).run P w=.ok () w:=by
 have hv':C w S (fun _=>none) 0 v x:=.p hv;unfold Zeb at hk;split at hk
 ·rename_i q hl;cases hk;cases x<;>simp only[Zdq,Zdk,Yb6,Yad]at hx;cases hv;simp[Instr.checkKey,run_underlying hl]
 ·rename_i fs ht;split at hk
  ·cases hk
  obtain⟨ls,hl,rfl⟩:=map_some hk;cases x<;>simp only[Zdq,Yb6,Yad]at hx;rename_i xs;obtain⟨vs,rfl,hlv,hv1,hvc⟩:=hv'.inv_agg;rw[show n+2=(n+1)+1 from rfl,Instr.checkKey];simp only[Sem.run_bind,run_underlying ht,Result.andThen_ok];rw[<-Array.forIn_toList];clear hk;generalize fs.toList=l at hl
  induction l generalizing ls with
  | nil=>simp
  | cons f l ih=>
   simp only[leaves]at hl;split at hl
   ·cases hl
   rename_i hn;obtain⟨lf,hl1,hl2⟩:=bind_some hl;obtain⟨ls',hls,rfl⟩:=map_some hl2;simp only[eqL]at hx;cases ho:xs[f.offset]? with
   | none=>simp[ho]at hx
   | some c=>
    simp only[ho]at hx;cases hq:Zdk lf c c with
    | none=>simp[hq]at hx
    | some b=>
     simp only[hq,Y7,Option.isSome_map]at hx;have hlt:f.offset<vs.size:=by have:=Yr.1 ho;obtain⟨h,_⟩:=this;omega
     have hvo:vs[f.offset]? = some (vs[f.offset]'hlt):=Yz hlt;obtain⟨d,hd,hag,hld⟩:=zdz hl1;have hp:=zdy (P:=P) (w:=w) ⟨d,hd,hag⟩ hvo;have hck:(Instr.checkKey em (n+1) f.type (vs[f.offset]'hlt)).run P w=.ok () w:=by
      cases lf with
      | int=>obtain⟨q,rfl⟩:=hld;simp[Instr.checkKey,run_underlying hd]
      | bool=>subst hld;simp[Instr.checkKey,run_underlying hd]
      | str=>subst hld;simp[Instr.checkKey,run_underlying hd]
     have hn':f.name≠"_":=hn;have ih':=ih ls' hx hls;simp only[List.forIn_cons,Sem.run_bind,hn',ne_eq,not_false_eq_true,if_true,hp,Result.andThen_ok,Sem.run_pure];simp only[hck,Result.andThen_ok,Sem.run_pure];exact ih'
 ·cases hk
def zcz{r:Nat}{es:Array MapEntry}{c:Nat}(hb:w.heap[r]? = some (.map es c)):(getObj r).run P w=.ok (.map es c) w:=by
 simp[getObj,Sem.run,hb]
def zph{id:BId}{g:Nat}{bx:Box}{v:Value}(hh:HeapRel w S M clk h)(hb:Zff h id g=some bx)(hv:C w S M clk v (.fnp 0 id g 2 0 0)) :
  ∃k es c,M g=some (some k)/\v=.map (some k)/\w.heap[k]? = some (.map es c)/\Zd1 w S bx.els es.toList/\(∀o,¬ S k o)/\h.lookup id=some bx/\bx.gen=g/\bx.z=2/\bx.kind=.mp:=by
 have h1:h.lookup id=some bx/\bx.gen=g/\bx.z=2/\bx.kind=.mp:=by grind[Zff]
 obtain⟨hl,hg,hz,hk⟩:=h1;obtain⟨u,rfl,_,hpo,_⟩:=hv.inv_fnp;obtain⟨_,_,m,hm,h3⟩:=hh.box id bx hl;rw[hg]at hm;unfold Zc1 at hpo;rw[hm]at hpo;cases m with
 | none=>exact absurd hk h3.2.2
 | some k=>
  obtain⟨es,c,q1,q2,q3⟩:=ckP' hk h3;subst hpo;exact⟨k,es,c,hm,rfl,q1,q2,q3,hl,hg,hz,hk⟩
def zqw{t:TypeId}{c:AV}(hz:Zhl P t=some c):∃z,(zeroValue t).run P w=.ok z w/\CP w S z c:=by
 obtain⟨z,hz1,hz2⟩:=bind_some hz;obtain⟨inf,hi,hz3⟩:=bind_some hz1;exact⟨z,by simp[zeroValue,typeInfo,hi,hz3,Result.andThen],zgv hz2⟩
def zqx{t kt e:TypeId}{k:KTy}{zv:AV}{ok:Bool}{v u:Value}{x i y:AV}(ht:P.underlying t=some (.map kt e))(hk:Zeb P kt=some k)(hz:Zhl P e=some zv)(hh:HeapRel w S M clk h)
  (hv:C w S M clk v x) (hu:C w S M clk u i) (hy:Zd2 k zv ok h x i=some y):∃r,(Instr.lookup t v u ok).run P w=.ok r w/\C w S M clk r y:=by
 unfold Zd2 at hy;split at hy
 ·rename_i id g;obtain⟨bx,hb,hy1⟩:=bind_some hy;split at hy1
  ·rename_i hks;rw[Yk]at hks;obtain⟨r,hr,rfl⟩:=map_some hy1;obtain⟨b,es,c,hm,rfl,hbk,he,_⟩:=zph hh hb hv;have hup:=hu.noRef hks.2;obtain⟨q,hq,hf⟩:=zfc hk hup he hr;have hck:=zeu es.isEmpty 9998 hk hup hks.1;have hck':(Instr.checkKey es.isEmpty 10000 kt u).run P w=.ok () w:=hck;obtain⟨z,hz1,hz2⟩:=zqw (P:=P) (w:=w) (S:=S) hz;have key:∃r1:Value,CP w S r1 (r.getD zv)/\(Instr.lookup t (.map (some b)) u ok).run P w=.ok (if ok then .tuple #[r1,.bool r.isSome] else r1) w:=by
    cases r with
    | none=>
     cases hf;refine⟨z,hz2,?_⟩;simp only[Instr.lookup,Sem.run_bind,run_underlying ht,Result.andThen_ok,zcz hbk,Sem.run_pure,hck',hq,hz1,Yb6]
    | some y=>
     obtain⟨j,u1,rfl,h1⟩:=hf;refine⟨u1,h1,?_⟩;simp only[Instr.lookup,Sem.run_bind,run_underlying ht,Result.andThen_ok,zcz hbk,Sem.run_pure,hck',hq,Option.isSome_some]
   obtain⟨r1,k1,k2⟩:=key;refine⟨_,k2,?_⟩;cases ok with
   | false=>exact .p k1
   | true=>
    refine .p (.tup _ _ rfl fun j v c hv hc=>?_)
    match j with
    | 0=>cases hv;cases hc;exact k1
    | 1=>cases hv;cases hc;exact .b _
    | j+2=>simp at hv
  ·cases hy1
 ·cases hy
end
end
section
open Go.RowKit
section
variable{P:Program}{w:World}{S:Nat->Nat->Prop}{M:Map}{clk:Nat}{e:Nat->AV}{h:Heap}{a:Act}
def zfb{x:Option Operand}{p:Option Opd}(he:Zey w S M clk e a)(hr:Zc2 x=some p):CO w S M clk (x.map a.eval) (evO e p):=by
 cases x with
 | none=>simp only[Zc2,Option.some.injEq]at hr;subst hr;trivial
 | some x=>
  obtain⟨y,hy,rfl⟩:=map_some hr;exact ev_C he hy
def zg9{x:Option Operand}{p:Option Opd}(hr:Zc2 x=some p):(x.map a.eval).isNone=p.isNone:=by
 cases x with
 | none=>grind[Zc2]
 | some x=>
  obtain⟨y,hy,rfl⟩:=map_some hr
  rfl
theorem zbp(he:Zey w S M clk e a):∀(l:List Operand) (ps:List Opd),Zbu l=some ps->l.length=ps.length/\∀(j:Nat) (u:Value) (c:AV),(l.map a.eval)[j]? = some u->(ps.map (ev e))[j]? = some c->C w S M clk u c
 | [],ps,hr=>by simp only[Zbu,Option.some.injEq]at hr;subst hr;exact⟨rfl,fun j u c h=>by simp at h⟩
 | x::l,ps,hr=>by
  obtain⟨p,hp,hr1⟩:=bind_some hr;obtain⟨qs,hq,rfl⟩:=map_some hr1;obtain⟨hl,hc⟩:=zbp he l qs hq;refine⟨by simp[hl],fun j u c hu hc'=>?_⟩;cases j with
  | zero=>simp at hu hc';subst hu;subst hc';exact ev_C he hp
  | succ j=>exact hc j u c (by simpa using hu) (by simpa using hc')
theorem zha{fields:Array Field}(he:Zey w S M clk e a):∀(l:List (Nat×Operand)) (ps:List (Nat×Nat×Opd)),Zbw P fields l=some ps ->
  PtP w S M clk ((fields.map fun f=>(f.offset,(Zaq P f.type).getD 0))[·]?) (l.map fun p=>(p.1,a.eval p.2)) (ps.map fun p=>(p.1,p.2.1,ev e p.2.2))
 | [],ps,hr=>by simp only[Zbw,Option.some.injEq]at hr;subst hr;trivial
 | (i,x)::l,ps,hr=>by
  simp only[Zbw]at hr;split at hr
  ·cases hr
  rename_i f hf;obtain⟨n,hn,hr1⟩:=bind_some hr;obtain⟨p,hp,hr2⟩:=bind_some hr1;obtain⟨qs,hq,rfl⟩:=map_some hr2;exact⟨by simp[hf,hn],ev_C he hp,zha he l qs hq⟩
theorem zf8{n:Nat}(he:Zey w S M clk e a):∀(l:List (Nat×Operand)) (ps:List (Nat×Nat×Opd)),Zb7 n l=some ps ->
  PtP w S M clk (fun i=>some (i*n,n)) (l.map fun p=>(p.1,a.eval p.2)) (ps.map fun p=>(p.1,p.2.1,ev e p.2.2))
 | [],ps,hr=>by simp only[Zb7,Option.some.injEq]at hr;subst hr;trivial
 | (i,x)::l,ps,hr=>by
  obtain⟨p,hp,hr2⟩:=bind_some hr;obtain⟨qs,hq,rfl⟩:=map_some hr2;exact⟨rfl,ev_C he hp,zf8 he l qs hq⟩
def Zbc(P:Program)(w:World)(S:Nat->Nat->Prop)(M:Map)(clk:Nat)(a:Act)(o:Oper)(x:AV):Prop:=
 ∃v,(execOp a.eval o).run P w=.ok (.value v) w/\C w S M clk v x
def Zbc.of{o:Oper}{x:AV}{s:Sem Value}(ho:execOp a.eval o=(do pure (Next.value (<-s))))(h:∃v,s.run P w=.ok v w/\C w S M clk v x):Zbc P w S M clk a o x:=by
 obtain⟨v,h1,h2⟩:=h;exact⟨v,by simp_all,h2⟩
def zy3(why:String){mx:Bool}{xs:List Operand}{l:List Opd}{x:AV}(he:Zey w S M clk e a)(hl:Zbu xs=some l)(hs:Zjr mx (l.map (ev e))=some x) :
  ∃r,(match xs.map a.eval with | []=>stuck why | v::rest=>rest.foldlM (fun a b=>if mx then Builtin.max2 a b else Builtin.min2 a b) v:Sem Value).run P w=.ok r w/\C w S M clk r x:=by
 obtain⟨hlen,hc⟩:=zbp he _ _ hl;cases xs with
 | nil=>
  cases l with
  | nil=>cases hs
  | cons p l=>grind
 | cons y ys=>
  cases l with
  | nil=>grind
  | cons p l=>
   exact zlk (ys.map a.eval) (l.map (ev e)) (a.eval y) (ev e p) x (by grind) (fun j u c h1 h2=>hc (j+1) u c (by grind) (by grind)) (hc 0 _ _ rfl rfl) hs
def zhb{o:Oper}{op:AOp}{x:AV}(hr:Zdr P o.op=some op)(he:Zey w S M clk e a)(hh:HeapRel w S M clk h)(hs:Zi op e h=some x):Zbc P w S M clk a o x:=by
 obtain⟨dst,o,type,pos,after,guard⟩:=o;replace hr:=zar hr;rcases hr with hr | ⟨k,xs,rfl,_⟩
 rotate_left
 ·cases hs
 cases o<;>simp only[Zbe]at hr<;>try (cases hr;done)
 case move y=>
  obtain⟨p,hp,rfl⟩:=map_some hr;simp only[Zi,Option.some.injEq]at hs;subst hs;exact⟨_,rfl,ev_C he hp⟩
 case assign y=>
  obtain⟨p,hp,rfl⟩:=map_some hr;simp only[Zi,Option.some.injEq]at hs;subst hs;exact⟨_,rfl,ev_C he hp⟩
 case pick c u v=>
  obtain⟨c',hc,hr1⟩:=bind_some hr;obtain⟨u',hu,hr2⟩:=bind_some hr1;obtain⟨v',hv,rfl⟩:=map_some hr2;simp only[Zi,Zgl]at hs;split at hs<;>cases hs;rename_i t ht;have hcc:=ev_C he hc;rw[ht]at hcc;have hb:=hcc.inv_b;refine⟨if t then a.eval u else a.eval v,?_,?_⟩
  ·grind[execOp,asBool,Sem.run_pure]
  grind[ev_C]
 case alloc t=>obtain⟨zs,_,rfl⟩:=map_some hr;cases hs
 case build t parts=>
  split at hr
  ·rename_i fields ht;split at hr
   ·rename_i hall;obtain⟨zs,hz,hr1⟩:=bind_some hr;obtain⟨ps,hp,rfl⟩:=map_some hr1;obtain⟨ds,hd,rfl⟩:=map_some hs;obtain⟨z,hz1,hz2,hz3⟩:=zfa (P:=P) (w:=w) (S:=S) (M:=M) (clk:=clk) hz;obtain⟨r,hr,hC⟩:=zfx _ _ z.cells zs ds hz3 (zha he _ _ hp) hd;refine Zbc.of rfl ⟨.agg r,?_,by simpa using hC.agg⟩;have hpl:=zqu (P:=P) (w:=w) fields (fun f hf=>Ycb.1 (Yl.1 hall f hf));simp only[Instr.build,Sem.run_bind,hz1,Result.andThen_ok,run_underlying ht,hpl]
    simp_all
   grind
  ·rename_i k el ht;obtain⟨n,hn,hr0⟩:=bind_some hr;obtain⟨zs,hz,hr1⟩:=bind_some hr0;obtain⟨ps,hp,rfl⟩:=map_some hr1;obtain⟨ds,hd,rfl⟩:=map_some hs;obtain⟨z,hz1,hz2,hz3⟩:=zfa (P:=P) (w:=w) (S:=S) (M:=M) (clk:=clk) hz;obtain⟨r,hr,hC⟩:=zfx _ _ z.cells zs ds hz3 (zf8 he _ _ hp) hd;refine Zbc.of rfl ⟨.agg r,?_,by simpa using hC.agg⟩;simp only[Instr.build,Sem.run_bind,hz1,Result.andThen_ok,run_underlying ht,zb4 hn]
   simp_all
  grind
 case buildSlice t len parts=>
  split at hr
  ·obtain⟨z,_,hr1⟩:=bind_some hr;split at hr1
   ·obtain⟨zs,_,hr2⟩:=bind_some hr1;split at hr2
    ·obtain⟨ps,_,rfl⟩:=map_some hr2;cases hs
    grind
   grind
  grind
 case load t y=>
  obtain⟨n,hn,hr1⟩:=bind_some hr;obtain⟨p,hp,rfl⟩:=map_some hr1;exact Zbc.of rfl (zi5 hn hh (ev_C he hp) hs)
 case store t y v=>
  obtain⟨n,hn,hr1⟩:=bind_some hr;obtain⟨p,hp,hr2⟩:=bind_some hr1;obtain⟨q,hq,rfl⟩:=map_some hr2;cases hs
 case nilCheck y=>
  obtain⟨p,hp,rfl⟩:=map_some hr;obtain⟨ha,hC⟩:=zqs hh (ev_C he hp) hs;refine⟨_,?_,hC⟩;rcases ha with ⟨ad,ha⟩ | ⟨f,u1,u2,ha⟩
  ·simp only[execOp,ha]
   rfl
  ·simp only[execOp,ha]
   rfl
 case binOp op' t y z _=>
  obtain⟨p,hp,hr1⟩:=bind_some hr;obtain⟨q,hq,hr2⟩:=bind_some hr1;have hC1:=ev_C he hp;have hC2:=ev_C he hq;split at hr2
  ·cases hr2;exact Zbc.of rfl (zlh hC1 hC2 hs)
  ·cases hr2;exact Zbc.of rfl (zlh hC1 hC2 hs)
  ·rename_i ht;cases op'<;>cases hr2
   ·exact Zbc.of rfl (zli (neq:=false) ht hC1 hC2 hs)
   ·exact Zbc.of rfl (zli (neq:=true) ht hC1 hC2 hs)
  ·rename_i fs ht;split at hr2
   ·rename_i hg;simp only[Yk,Bool.not_eq_true']at hg;cases op'<;>try cases hr2
    ·obtain⟨ls,hl,rfl⟩:=map_some hr2;exact Zbc.of rfl (zlj (neq:=false) ht hg.1 hg.2 hl hC1 hC2 hs)
    ·obtain⟨ls,hl,rfl⟩:=map_some hr2;exact Zbc.of rfl (zlj (neq:=true) ht hg.1 hg.2 hl hC1 hC2 hs)
   grind
  ·rename_i el ht;split at hr2
   ·rename_i hn;have hz:a.eval z=.slice none 0 0:=by
     unfold Zgt at hn;split at hn
     ·rfl
     grind
    cases op'<;>cases hr2
    ·have:=zg8 (P:=P) (neq:=false) (X:=y) (Y:=z) ht hC1 hs;rw[<-hz]at this;exact Zbc.of rfl this
    ·have:=zg8 (P:=P) (neq:=true) (X:=y) (Y:=z) ht hC1 hs;rw[<-hz]at this;exact Zbc.of rfl this
   grind
  grind
 case unOp op' t y=>
  obtain⟨p,hp,rfl⟩:=map_some hr;exact Zbc.of rfl (zw9 (ev_C he hp) hs)
 case convert s d y=>
  split at hr
  ·rename_i k0 k hs1 hd1;obtain⟨p,hp,rfl⟩:=map_some hr;exact Zbc.of rfl (zqr hs1 hd1 (ev_C he hp) hs)
  ·split at hr
   ·obtain⟨p,hp,rfl⟩:=map_some hr;cases hs
   grind
  grind
 case makeSlice t l c=>
  split at hr
  ·split at hr
   ·split at hr
    ·obtain⟨zs,_,hr1⟩:=bind_some hr;split at hr1
     ·obtain⟨p,hp,hr2⟩:=bind_some hr1;obtain⟨q,hq,rfl⟩:=map_some hr2;cases hs
     grind
    grind
   grind
  grind
 case slice t y lo hi mx=>
  split at hr
  ·rename_i el ht;obtain⟨z,hz,hr1⟩:=bind_some hr;obtain⟨p,hp,hr2⟩:=bind_some hr1;obtain⟨lo',hlo,hr3⟩:=bind_some hr2;obtain⟨hi',hhi,hr4⟩:=bind_some hr3;obtain⟨mx',hmx,hr5⟩:=bind_some hr4;split at hr5<;>cases hr5;refine Zbc.of rfl (ztm ht hz hh (fun h1=>?_) (zfb he hlo) (zfb he hhi) (zfb he hmx) (ev_C he hp) hs);rw[zg9 hhi]at h1;rw[zg9 hmx]
   simp_all
  ·rename_i ht;split at hr
   ·rename_i hm;have hm0:mx=none:=by simp_all
    subst hm0;obtain⟨p,hp,hr2⟩:=bind_some hr;obtain⟨lo',hlo,hr3⟩:=bind_some hr2;obtain⟨hi',hhi,rfl⟩:=map_some hr3;exact Zbc.of rfl (znq ht (zfb he hlo) (zfb he hhi) (ev_C he hp) hs)
   grind
  grind
 case fieldAddr t y i=>
  split at hr
  ·rename_i fs ht;split at hr
   ·rename_i f hf;obtain⟨n,hn,hr1⟩:=bind_some hr;split at hr1
    ·grind
    ·rename_i h0;obtain⟨p,hp,rfl⟩:=map_some hr1;exact Zbc.of rfl (ztn ht hf hn h0 hh (ev_C he hp) hs)
   grind
  grind
 case field t y i=>
  split at hr
  ·rename_i fs ht;split at hr
   ·rename_i f hf;obtain⟨n,hn,hr1⟩:=bind_some hr;obtain⟨p,hp,rfl⟩:=map_some hr1;exact Zbc.of rfl (zto ht hf hn (ev_C he hp) hs)
   grind
  grind
 case indexAddr t y i=>
  split at hr
  ·rename_i el ht;obtain⟨z,hz,hr1⟩:=bind_some hr;obtain⟨p,hp,hr2⟩:=bind_some hr1;obtain⟨q,hq,rfl⟩:=map_some hr2;exact Zbc.of rfl (ztp ht hz hh (ev_C he hp) (ev_C he hq) hs)
  ·rename_i len el ht;obtain⟨z,hz,hr1⟩:=bind_some hr;obtain⟨p,hp,hr2⟩:=bind_some hr1;obtain⟨q,hq,rfl⟩:=map_some hr2;exact Zbc.of rfl (ztq ht hz hh (ev_C he hp) (ev_C he hq) hs)
  grind
 case index t y i=>
  split at hr
  ·rename_i ht;obtain⟨p,hp,hr2⟩:=bind_some hr;obtain⟨q,hq,rfl⟩:=map_some hr2;exact Zbc.of rfl (ztr ht (ev_C he hp) (ev_C he hq) hs)
  ·rename_i len el ht;obtain⟨z,hz,hr1⟩:=bind_some hr;obtain⟨k,hk,hr3⟩:=bind_some hr1;obtain⟨p,hp,hr2⟩:=bind_some hr3;obtain⟨q,hq,rfl⟩:=map_some hr2;exact Zbc.of rfl (zts ht hz hk (ev_C he hp) (ev_C he hq) hs)
  grind
 case extract y i=>
  obtain⟨p,hp,rfl⟩:=map_some hr;exact Zbc.of rfl (ztv (ev_C he hp) hs)
 case lookup t y i ok=>
  split at hr
  ·rename_i kt el ht;obtain⟨k,hk,hr1⟩:=bind_some hr;obtain⟨zv,hz,hr2⟩:=bind_some hr1;obtain⟨p,hp,hr3⟩:=bind_some hr2;obtain⟨q,hq,rfl⟩:=map_some hr3;exact Zbc.of rfl (zqx ht hk hz hh (ev_C he hp) (ev_C he hq) hs)
  ·cases hr
 case makeInterface t y=>
  split at hr
  ·rename_i d hd;split at hr
   ·grind
   ·rename_i hi;obtain⟨p,hp,rfl⟩:=map_some hr;simp only[Zi,Option.some.injEq]at hs;subst hs;refine⟨.iface t (a.eval y),?_,.ifc t _ _ (ev_C he hp)⟩;have:(Instr.makeInterface t (a.eval y)).run P w=.ok (.iface t (a.eval y)) w:=by
     simp only[Instr.makeInterface,Sem.run_bind,run_underlying hd,Result.andThen_ok];cases d<;>first | (exact absurd rfl hi) | rfl
    grind[execOp,Sem.run_bind,Result.andThen_ok,Sem.run_pure]
  grind
 case call c=>
  obtain⟨callee,args,argTypes⟩:=c;cases callee with
  | invoke r m=>
   obtain⟨p,hp,hr1⟩:=bind_some hr;obtain⟨l,hl,rfl⟩:=map_some hr1;cases hs
  | value f=>
   cases f<;>simp only at hr<;>try (cases hr;done)
   all_goals
    obtain⟨l,hl,rfl⟩:=map_some hr;cases hs
  | builtin b=>
   simp only at hr;split at hr
   ·-- len
    rename_i y t hargs hts;have ha:args=#[y]:=by grind
    have hat:argTypes=#[t]:=by grind
    subst ha;subst hat;split at hr
    ·rename_i ht;obtain⟨p,hp,rfl⟩:=map_some hr;obtain⟨r,h1,h2⟩:=zqt (P:=P) (ty:=type) ht (ev_C he hp) hs;exact⟨r,by simp[execOp,resolve,invoke,builtin,h1],h2⟩
    ·rename_i el ht;obtain⟨p,hp,rfl⟩:=map_some hr;obtain⟨r,h1,h2⟩:=ztt (P:=P) (ty:=type) ht hh (ev_C he hp) hs;exact⟨r,by simp[execOp,resolve,invoke,builtin,h1],h2⟩
    ·rename_i n el ht;cases hr;simp only[Zi,Option.some.injEq]at hs;subst hs;refine⟨.int .i64 n,?_,.p (.i _ _)⟩;simp[execOp,resolve,invoke,builtin,Builtin.len_,run_underlying ht,goInt]
    grind
   ·obtain⟨l,hl,hr1⟩:=bind_some hr;split at hr1<;>cases hr1;obtain⟨r,h1,h2⟩:=zy3 (P:=P) "min: at least one argument expected" (mx:=false) he hl hs;refine⟨r,?_,h2⟩;simp only[execOp,resolve,invoke,builtin,Sem.run_bind,Sem.run_pure,Result.andThen_ok,Builtin.min_,Yd2]
    grind[Result.andThen]
   ·obtain⟨l,hl,hr1⟩:=bind_some hr;split at hr1<;>cases hr1;obtain⟨r,h1,h2⟩:=zy3 (P:=P) "max: at least one argument expected" (mx:=true) he hl hs;refine⟨r,?_,h2⟩;simp only[execOp,resolve,invoke,builtin,Sem.run_bind,Sem.run_pure,Result.andThen_ok,Builtin.max_,Yd2]
    grind[Result.andThen]
   ·split at hr
    ·split at hr
     ·split at hr
      ·split at hr
       ·obtain⟨p,_,hr1⟩:=bind_some hr;obtain⟨q,_,rfl⟩:=map_some hr1;cases hs
       grind
      grind
     grind
    grind
   ·split at hr
    ·split at hr
     ·obtain⟨z,_,hr0⟩:=bind_some hr;split at hr0
      ·obtain⟨p,_,hr1⟩:=bind_some hr0;obtain⟨q,_,rfl⟩:=map_some hr1;cases hs
      grind
     grind
    grind
   grind
end
end
section
open Go.RowKit
def upd(ρ:Nat->AV)(d:Option Nat)(x:AV):Nat->AV:=
 match d with
 | none=>ρ
 | some d=>fun t=>if t=d then x else ρ t
def zxa(ρ:Nat->AV){x y:Option Nat}(v u:AV)(h:∀d,x=some d->y≠some d):upd (upd ρ x v) y u=upd (upd ρ y u) x v:=by
 cases x with
 | none=>rfl
 | some d=>
  cases y with
  | none=>rfl
  | some e=>
   grind[upd]
theorem zak{ρ ρ':Nat->AV}{x:Operand}{p:Opd}(hr:Zj x=some p)(h:∀t,x=.tmp t->ρ t=ρ' t):ev ρ p=ev ρ' p:=by
 cases x with
 | tmp t=>simp only[Zj,Option.some.injEq]at hr;subst hr;exact h t rfl
 | const v=>obtain⟨y,_,rfl⟩:=map_some hr;rfl
 | global g=>cases hr
 | func f=>simp only[Zj,Option.some.injEq]at hr;subst hr;rfl
theorem zlm{ρ ρ':Nat->AV}{x:Option Operand}{p:Option Opd}(hr:Zc2 x=some p)(h:∀t,x=some (.tmp t)->ρ t=ρ' t):evO ρ p=evO ρ' p:=by
 cases x with
 | none=>simp only[Zc2,Option.some.injEq]at hr;subst hr;rfl
 | some x=>
  obtain⟨y,hy,rfl⟩:=map_some hr;exact congrArg some (zak hy fun t ht=>h t (by rw[ht]))
theorem zcy{ρ ρ':Nat->AV}:∀{l:List Operand} {ps:List Opd},Zbu l=some ps->(∀t,Operand.tmp t∈l->ρ t=ρ' t)->ps.map (ev ρ)=ps.map (ev ρ')
 | [],ps,hr,_=>by simp only[Zbu,Option.some.injEq]at hr;subst hr;rfl
 | x::l,ps,hr,h=>by
  obtain⟨p,hp,hr1⟩:=bind_some hr;obtain⟨qs,hq,rfl⟩:=map_some hr1;simp only[Yx];rw[zak hp fun t ht=>h t (by simp[ht]),zcy hq fun t ht=>h t (by simp[ht])]
theorem zln{P:Program}{fields:Array Field}{ρ ρ':Nat->AV}:∀{l:List (Nat×Operand)} {ps:List (Nat×Nat×Opd)},Zbw P fields l=some ps->(∀t,Operand.tmp t∈l.map (·.2)->ρ t=ρ' t) ->
  (ps.map fun p=>(p.1,p.2.1,ev ρ p.2.2))=ps.map fun p=>(p.1,p.2.1,ev ρ' p.2.2)
 | [],ps,hr,_=>by grind[Zbw]
 | (i,x)::l,ps,hr,h=>by
  simp only[Zbw]at hr;split at hr
  ·grind
  obtain⟨n,hn,hr1⟩:=bind_some hr;obtain⟨p,hp,hr2⟩:=bind_some hr1;obtain⟨qs,hq,rfl⟩:=map_some hr2;simp only[Yx];rw[zak hp fun t ht=>h t (by grind),zln hq fun t ht=>h t (by grind)]
theorem zlo{n:Nat}{ρ ρ':Nat->AV}:∀{l:List (Nat×Operand)} {ps:List (Nat×Nat×Opd)},Zb7 n l=some ps->(∀t,Operand.tmp t∈l.map (·.2)->ρ t=ρ' t) ->
  (ps.map fun p=>(p.1,p.2.1,ev ρ p.2.2))=ps.map fun p=>(p.1,p.2.1,ev ρ' p.2.2)
 | [],ps,hr,_=>by grind[Zb7]
 | (i,x)::l,ps,hr,h=>by
  obtain⟨p,hp,hr2⟩:=bind_some hr;obtain⟨qs,hq,rfl⟩:=map_some hr2;simp only[Yx];rw[zak hp fun t ht=>h t (by grind),zlo hq fun t ht=>h t (by grind)]
theorem zlp{ρ ρ':Nat->AV}:∀{l:List (Nat×Operand)} {ps:List (Nat×Opd)},Zcg l=some ps->(∀t,Operand.tmp t∈l.map (·.2)->ρ t=ρ' t) ->
  (ps.map fun p=>(p.1,ev ρ p.2))=ps.map fun p=>(p.1,ev ρ' p.2)
 | [],ps,hr,_=>by grind[Zcg]
 | (i,x)::l,ps,hr,h=>by
  obtain⟨p,hp,hr2⟩:=bind_some hr;obtain⟨qs,hq,rfl⟩:=map_some hr2;simp only[Yx];rw[zak hp fun t ht=>h t (by grind),zlp hq fun t ht=>h t (by grind)]
def Enters(P:Program)(f:FuncId):Prop:=∀args w,(callFunc f args).run P w=.ok (.enter f args) w
def Z6(P:Program)(f:FuncId)(args:List AV)(post:AV->Prop):Prop:=
 Enters P f/\∀(w:World) (S:Nat->Nat->Prop) (cargs:Array Value),cargs.size=args.length->(∀(j:Nat) (v:Value) (c:AV),cargs[j]? = some v->args[j]? = some c->CP w S v c) ->
  (∀k o,S k o->k<w.heap.size) ->
  Calls P f cargs w fun e w'=>∃v r,e=.returned v/\post r/\Below w.heap.size w w'/\CP w' (fun k o=>S k o\/(w.heap.size<=k/\k<w'.heap.size)) v r
def drpC:AV->AV
 | .ptr .. | .fnp .. => .dead
 | x=>x
def drp1:AV->AV
 | .agg cs=>.agg (cs.map drpC)
 | x=>drpC x
theorem C.drpC{w:World}{S:Nat->Nat->Prop}{M:Map}{clk:Nat}{v:Value}{x:AV}(h:C w S M clk v x):C w S M clk v (drpC x):=by
 cases x<;>first | exact h | exact .p (.dead _)
def C.drp1{w:World}{S:Nat->Nat->Prop}{M:Map}{clk:Nat}{v:Value}{x:AV}(h:C w S M clk v x):C w S M clk v (drp1 x):=by
 cases x
 case agg cs=>
  obtain⟨vs,rfl,hl,h1,hc⟩:=h.inv_agg;refine .agg vs _ (by grind) h1 fun j v c hv hcj=>?_
  grind[drpC]
 all_goals exact h.drpC
def Zd6(P:Program)(t:Nat)(nm:String):Option Nat:=
 (P.info? t).bind fun inf=>(inf.methods.find? (·.name == nm)).bind fun m=>
  match P.underlying t with
  | some (.pointer _)=>none
  | some _=>if m.path.isEmpty then (match m.func with | some (f,false)=>some f | _=>none) else none
  | none=>none
def zqv{P:Program}{w:World}{t f:Nat}{nm:String}(hm:Zd6 P t nm=some f)(v:Value)(args:Array Value):(callMethod (.iface t v) nm args).run P w=(callFunc f (#[v]++args)).run P w:=by
 obtain⟨inf,hi,hm1⟩:=bind_some hm;obtain⟨m,hf,hm2⟩:=bind_some hm1;cases hu:P.underlying t with
 | none=>grind
 | some d=>
 have hnp:∀e,d≠.pointer e:=by grind
 have hm3:(if m.path.isEmpty then (match m.func with | some (f,false)=>some f | _=>none) else none)=some f:=by
  grind
 ·split at hm3
  ·split at hm3
   ·rename_i g hg;cases hm3;have hp':m.path.toList=[]:=by
     grind
    have hr:(receiverAt t (.val v) false (if m.path.isEmpty=true then some ((nm.splitOn ".").getLastD nm) else none)).run P w=.ok v w:=by
     unfold receiverAt;simp only[Sem.run_bind,run_underlying hu,Result.andThen_ok];cases d<;>first | (exact absurd rfl (hnp _)) | (simp[Place.get])
    unfold callMethod;simp only[Sem.run_bind,run_program,Result.andThen_ok];have hd:∃k,P.types.size+Made.depth=k+1:=⟨P.types.size+(Made.depth-1),by have:Made.depth=100:=rfl;omega⟩;obtain⟨k,hk⟩:=hd;rw[hk];unfold method;simp only[Sem.run_bind,typeInfo,hi,hf,hp',follow,Sem.run_pure,Result.andThen_ok,run_program,hg,hr]
   grind
  grind
def shR(h:Heap)(x:AV):Bool:=(refs x).all fun id=>match h.lookup id with | some bx=>decide (bx.kind=.sh) | none=>true
def Zhq(h:Heap)(x:AV):Option AV:=match noRef x with | true=>some x | false=>if shR h x=true then Zaw h x else none
def Zb0(h:Heap):List AV->Option (List AV)
 | []=>some []
 | x::l=>(Zhq h x).bind fun y=>(Zb0 h l).map fun ys=>y::ys
theorem zdk{h:Heap}:∀{l:List AV},l.all noRef=true->Zb0 h l=some l
 | [],_=>rfl
 | x::l,hn=>by
  simp only[Ybk,Yk]at hn;simp only[Zb0,Zhq,hn.1,zdk hn.2,Y7,Ya1]
def AOp.freeE(ρ:Nat->AV):AOp->Bool
 | .call _ args=>(args.map (ev ρ)).all noRef
 | op=>op.free
def QOp(P:Program)(op:AOp)(ρ:Nat->AV)(h:Heap)(x:AV):Prop:=
 match op with
 | .call f args=>∃ys,Zb0 h (args.map (ev ρ))=some ys/\Z6 P f ys (·=x)
 | .inv nm _ u r args=>u=0/\∃t y f,ev ρ r=.ifc t y/\Zd6 P t nm=some f/\((drp1 y::args.map (ev ρ)).all noRef=true)/\Z6 P f (drp1 y::args.map (ev ρ)) (·=x)
 | .bsl z zs len ps=>((ps.map fun p=>(p.1,ev ρ p.2)).all fun p=>noRef p.2)=true/\∃h',Zds z zs len [] (ps.map fun p=>(p.1,ev ρ p.2))=some (x,h')
 | .app z (.c (.sl [] .nl)) y=>Zf8 z (ev ρ y)=some x
 | op=>Zi op ρ h=some x
def QF(P:Program)(h:Heap)(o:AO)(ρ:Nat->AV)(x:AV):Prop:=
 match o.guard with
 | none=>QOp P o.op ρ h x
 | some (t,want)=>(ρ t=.b want/\QOp P o.op ρ h x)\/((ρ t=.b (!want)\/ρ t=.tup [])/\x=.tup [])
section
variable{P:Program}{h:Heap}
theorem zxb{op:AOp}{ρ:Nat->AV}{x:AV}(hf:op.freeE ρ=true)(h1 h2:Heap):QOp P op ρ h1 x↔QOp P op ρ h2 x:=by
 cases op
 case call f args=>simp only[QOp,zdk (h:=h1) hf,zdk (h:=h2) hf]
 case app z x0 y=>
  by_cases hx:x0=.c (.sl [] .nl)
  ·subst hx;rfl
  grind[AOp.freeE,zwr]
 all_goals first | rfl | (cases hf;done)
theorem ztw{z:Nat}{x0 y:Opd}{ρ:Nat->AV}{x:AV}(hx:x0≠.c (.sl [] .nl)):QOp P (.app z x0 y) ρ h x↔False:=by
 cases x0 with
 | t n=>simp[QOp,Zi]
 | c a=>
  cases a
  case sl els f=>
   cases els with
   | nil=>cases f<;>first | exact absurd rfl hx | simp[QOp,Zi]
   | cons r l=>simp[QOp,Zi]
  all_goals simp[QOp,Zi]
theorem zbq{o:Op}{op:AOp}{ρ ρ':Nat->AV}{x:AV}(hr:Zdr P o=some op)(hρ:∀t,Operand.tmp t∈o.operands.toList->ρ t=ρ' t):QOp P op ρ h x↔QOp P op ρ' h x:=by
 replace hr:=zar hr;rcases hr with hr | ⟨k,xs,rfl,_⟩
 rotate_left
 ·exact Iff.rfl
 cases o<;>simp only[Zbe]at hr<;>try (cases hr;done)
 case move y=>obtain⟨p,hp,rfl⟩:=map_some hr;grind[QOp,Zi,zak,Op.operands]
 case assign y=>obtain⟨p,hp,rfl⟩:=map_some hr;grind[QOp,Zi,zak,Op.operands]
 case pick c u v=>
  obtain⟨c',hc,hr1⟩:=bind_some hr;obtain⟨u',hu,hr2⟩:=bind_some hr1;obtain⟨v',hv,rfl⟩:=map_some hr2
  grind[QOp,Zi,zak,Op.operands]
 case alloc t=>obtain⟨zs,_,rfl⟩:=map_some hr;rfl
 case makeInterface t y=>
  split at hr
  ·split at hr
   ·grind
   ·obtain⟨p,hp,rfl⟩:=map_some hr
    grind[QOp,Zi,zak,Op.operands]
  grind
 case build t parts=>
  split at hr
  ·split at hr
   ·obtain⟨zs,hz,hr1⟩:=bind_some hr;obtain⟨ps,hp,rfl⟩:=map_some hr1;simp only[QOp,Zi,zln hp fun t ht=>hρ t (by simpa[Op.operands]using ht)]
   grind
  ·obtain⟨n,_,hr0⟩:=bind_some hr;obtain⟨zs,hz,hr1⟩:=bind_some hr0;obtain⟨ps,hp,rfl⟩:=map_some hr1;simp only[QOp,Zi,zlo hp fun t ht=>hρ t (by simpa[Op.operands]using ht)]
  grind
 case buildSlice t len parts=>
  split at hr
  ·obtain⟨z,_,hr1⟩:=bind_some hr;split at hr1
   ·obtain⟨zs,_,hr2⟩:=bind_some hr1;split at hr2
    ·obtain⟨ps,hps,rfl⟩:=map_some hr2;simp only[QOp,zlp hps fun t ht=>hρ t (by simpa[Op.operands]using ht)]
    grind
   grind
  grind
 case load t y=>
  obtain⟨n,hn,hr1⟩:=bind_some hr;obtain⟨p,hp,rfl⟩:=map_some hr1
  grind[QOp,Zi,zak,Op.operands]
 case store t y v=>
  obtain⟨n,hn,hr1⟩:=bind_some hr;obtain⟨p,hp,hr2⟩:=bind_some hr1;obtain⟨q,hq,rfl⟩:=map_some hr2
  rfl
 case nilCheck y=>obtain⟨p,hp,rfl⟩:=map_some hr;grind[QOp,Zi,zak,Op.operands]
 case binOp op' t y z _=>
  obtain⟨p,hp,hr1⟩:=bind_some hr;obtain⟨q,hq,hr2⟩:=bind_some hr1;have e1:=zak hp fun t ht=>hρ t (by simp[Op.operands,ht]);have e2:=zak hq fun t ht=>hρ t (by simp[Op.operands,ht]);split at hr2
  ·cases hr2;simp only[QOp,Zi,e1,e2]
  ·cases hr2;simp only[QOp,Zi,e1,e2]
  ·cases op'<;>cases hr2<;>simp only[QOp,Zi,e1,e2]
  ·split at hr2
   ·cases op'<;>try cases hr2
    ·obtain⟨ls,hl,rfl⟩:=map_some hr2;simp only[QOp,Zi,e1,e2]
    ·obtain⟨ls,hl,rfl⟩:=map_some hr2;simp only[QOp,Zi,e1,e2]
   grind
  ·grind[QOp,Zi]
  grind
 case unOp op' t y=>obtain⟨p,hp,rfl⟩:=map_some hr;grind[QOp,Zi,zak,Op.operands]
 case convert s d y=>
  split at hr
  ·obtain⟨p,hp,rfl⟩:=map_some hr;grind[QOp,Zi,zak,Op.operands]
  ·split at hr
   ·obtain⟨p,hp,rfl⟩:=map_some hr;rfl
   grind
  grind
 case makeSlice t l c=>
  split at hr
  ·split at hr
   ·split at hr
    ·obtain⟨zs,_,hr1⟩:=bind_some hr;split at hr1
     ·obtain⟨p,hp,hr2⟩:=bind_some hr1;obtain⟨q,hq,rfl⟩:=map_some hr2
      rfl
     grind
    grind
   grind
  grind
 case slice t y lo hi mx=>
  split at hr
  ·obtain⟨z,hz,hr1⟩:=bind_some hr;obtain⟨p,hp,hr2⟩:=bind_some hr1;obtain⟨lo',hlo,hr3⟩:=bind_some hr2;obtain⟨hi',hhi,hr4⟩:=bind_some hr3;obtain⟨mx',hmx,hr5⟩:=bind_some hr4
   grind[QOp,Zi,zak,Op.operands,zlm]
  ·split at hr
   ·obtain⟨p,hp,hr2⟩:=bind_some hr;obtain⟨lo',hlo,hr3⟩:=bind_some hr2;obtain⟨hi',hhi,rfl⟩:=map_some hr3
    grind[QOp,Zi,zak,Op.operands,zlm]
   grind
  grind
 case fieldAddr t y i=>
  split at hr
  ·split at hr
   ·obtain⟨n,hn,hr1⟩:=bind_some hr;split at hr1
    ·grind
    ·obtain⟨p,hp,rfl⟩:=map_some hr1
     grind[QOp,Zi,zak,Op.operands]
   grind
  grind
 case field t y i=>
  split at hr
  ·split at hr
   ·obtain⟨n,hn,hr1⟩:=bind_some hr;obtain⟨p,hp,rfl⟩:=map_some hr1
    grind[QOp,Zi,zak,Op.operands]
   grind
  grind
 case indexAddr t y i=>
  split at hr
  ·obtain⟨z,hz,hr1⟩:=bind_some hr;obtain⟨p,hp,hr2⟩:=bind_some hr1;obtain⟨q,hq,rfl⟩:=map_some hr2
   grind[QOp,Zi,zak,Op.operands]
  ·obtain⟨z,hz,hr1⟩:=bind_some hr;obtain⟨p,hp,hr2⟩:=bind_some hr1;obtain⟨q,hq,rfl⟩:=map_some hr2
   grind[QOp,Zi,zak,Op.operands]
  grind
 case index t y i=>
  split at hr
  ·obtain⟨p,hp,hr2⟩:=bind_some hr;obtain⟨q,hq,rfl⟩:=map_some hr2
   grind[QOp,Zi,zak,Op.operands]
  ·obtain⟨z,hz,hr1⟩:=bind_some hr;obtain⟨k,hk,hr3⟩:=bind_some hr1;obtain⟨p,hp,hr2⟩:=bind_some hr3;obtain⟨q,hq,rfl⟩:=map_some hr2
   grind[QOp,Zi,zak,Op.operands]
  grind
 case extract y i=>obtain⟨p,hp,rfl⟩:=map_some hr;grind[QOp,Zi,zak,Op.operands]
 case lookup t y i ok=>
  split at hr
  ·obtain⟨k,hk,hr1⟩:=bind_some hr;obtain⟨zv,hz,hr2⟩:=bind_some hr1;obtain⟨p,hp,hr3⟩:=bind_some hr2;obtain⟨q,hq,rfl⟩:=map_some hr3;have e1:=zak hp fun t ht=>hρ t (by simp[Op.operands,ht]);have e2:=zak hq fun t ht=>hρ t (by simp[Op.operands,ht]);simp only[QOp,Zi,e1,e2]
  ·cases hr
 case call c=>
  obtain⟨callee,args,argTypes⟩:=c;cases callee with
  | invoke r m=>
   obtain⟨p,hp,hr1⟩:=bind_some hr;obtain⟨l,hl,rfl⟩:=map_some hr1
   grind[QOp,zak,Op.operands,Call.operands,zcy]
  | value f=>
   cases f<;>simp only at hr<;>try (cases hr;done)
   case tmp t=>
    obtain⟨l,hl,rfl⟩:=map_some hr;exact⟨fun h=>absurd h.1 (by decide),fun h=>absurd h.1 (by decide)⟩
   obtain⟨l,hl,rfl⟩:=map_some hr
   grind[QOp,zcy,Op.operands,Call.operands]
  | builtin b=>
   simp only at hr;split at hr
   ·rename_i y t hargs hts;have hy:∀t,y=.tmp t->ρ t=ρ' t:=fun t ht=>hρ t (by simp[Op.operands,Call.operands,hargs,ht]);split at hr
    ·obtain⟨p,hp,rfl⟩:=map_some hr;simp only[QOp,Zi,zak hp hy]
    ·obtain⟨p,hp,rfl⟩:=map_some hr;simp only[QOp,Zi,zak hp hy]
    ·cases hr;rfl
    grind
   ·obtain⟨l,hl,hr1⟩:=bind_some hr
    grind[QOp,Zi,zcy,Op.operands,Call.operands]
   ·obtain⟨l,hl,hr1⟩:=bind_some hr
    grind[QOp,Zi,zcy,Op.operands,Call.operands]
   ·split at hr
    ·split at hr
     ·split at hr
      ·split at hr
       ·obtain⟨p,_,hr1⟩:=bind_some hr;obtain⟨q,hqq,rfl⟩:=map_some hr1
        grind[QOp,zak,Op.operands,Call.operands,ztw]
       grind
      grind
     grind
    grind
   ·split at hr
    ·split at hr
     ·obtain⟨z,_,hr0⟩:=bind_some hr;split at hr0
      ·obtain⟨p,_,hr1⟩:=bind_some hr0;obtain⟨q,_,rfl⟩:=map_some hr1
       rfl
      grind
     grind
    grind
   grind
end
end
section
open Go.RowKit
section
variable{P:Program}{ops:Array Oper}{md:Region.Mode}{F:Nat->(Nat->AV)->AV->Prop}
def fOp(ops:Array Oper)(F:Nat->(Nat->AV)->AV->Prop)(i:Nat)(K:(Nat->AV)->Prop)(ρ:Nat->AV):Prop:=
 match ops[i]? with
 | none=>K ρ
 | some o=>∃x,F i ρ x/\K (upd ρ o.dst x)
theorem zow{i:Nat}{ρ:Nat->AV}{K K':(Nat->AV)->Prop}(h:∀ρ,K ρ->K' ρ)(hh:fOp ops F i K ρ):fOp ops F i K' ρ:=by
 grind[fOp]
def Zjv(md:Region.Mode)(ops:Array Oper)(F:Nat->(Nat->AV)->AV->Prop)(Q:(Nat->AV)->Prop):Nat->Array Bool->(Nat->AV)->Prop
 | 0,listed,ρ=>Region.ready md ops listed=[]/\Q ρ
 | fuel+1,listed,ρ=>
  (Region.ready md ops listed=[]->Q ρ) /\
  ∀i∈Region.ready md ops listed,fOp ops F i (Zjv md ops F Q fuel (listed.setIfInBounds i true)) ρ
def Zel(ops:Array Oper)(F:Nat->(Nat->AV)->AV->Prop):Prop:=
 ∀i o,ops[i]? = some o->∀ρ ρ':Nat->AV,(∀t,t∈o.looksAt ops->ρ t=ρ' t)->∀x,F i ρ x->F i ρ' x
def zst{ρ:Nat->AV}{d:Option Nat}{v:AV}{l:List Nat}(h:∀e,d=some e->e∉l):∀t,t∈l->upd ρ d v t=ρ t:=by
 intro t ht;cases d with
 | none=>rfl
 | some d=>
  grind[upd]
def zsu(hL:Zel ops F){i j:Nat}{oi oj:Oper}{v:AV}(hi:ops[i]? = some oi)(hj:ops[j]? = some oj)(hap:oi.apart ops oj=true){K:(Nat->AV)->Prop}{ρ:Nat->AV}
  (hy:F i ρ v) (h:fOp ops F j K (upd ρ oi.dst v)):fOp ops F j (fun ρ'=>F i ρ' v/\K (upd ρ' oi.dst v)) ρ:=by
 obtain⟨h1,h2,h3⟩:=Oper.apart_spec hap;unfold fOp at h ⊢;simp only[hj]at h ⊢;obtain⟨x,hx,hK⟩:=h;refine⟨x,hL j oj hj _ _ (zst h1) x hx,hL i oi hi _ _ (fun t ht=>(zst h3 t ht).symm) v hy,?_⟩;rw[<-zxa ρ v x h2];omega
def zqj(hL:Zel ops F){Q:(Nat->AV)->Prop}{i:Nat}{oi:Oper}{v:AV}(hi:ops[i]? = some oi) :
  ∀(fuel:Nat) (listed:Array Bool) (ρ:Nat->AV),
   (∀j oj,ops[j]? = some oj->j≠i->listed.getD j true=false->(∀e∈oj.after,Region.binds md e=true->e.on≠i)->oi.apart ops oj=true) ->
   i∈Region.ready md ops listed->F i ρ v ->
   Zjv md ops F Q fuel (listed.setIfInBounds i true) (upd ρ oi.dst v)->Zjv md ops F Q (fuel+1) listed ρ:=by
 have take:∀{ρ:Nat->AV} {K:(Nat->AV)->Prop},F i ρ v->K (upd ρ oi.dst v)->fOp ops F i K ρ:=by
  grind[fOp]
 intro fuel
 induction fuel with
 | zero=>
  intro listed ρ _ hr hy H;refine⟨fun h=>(by grind),fun j hj=>?_⟩;by_cases hji:j=i
  ·grind
  ·have:=ready_mono hj hji;rw[H.1]at this
   grind
 | succ fuel ih=>
  intro listed ρ hfree hr hy H;refine⟨fun h=>(by grind),fun j hj=>?_⟩;by_cases hji:j=i
  ·grind
  ·have h1:=H.2 j (ready_mono hj hji);obtain⟨hjun,oj,hoj,hall⟩:=mem_ready.1 hj;have hnot:∀e∈oj.after,Region.binds md e=true->e.on≠i:=fun e he hb heq=>by
    grind[mem_ready]
   have h2:=zsu hL hi hoj (hfree j oj hoj hji hjun hnot) hy h1;have hfree':∀k ok,ops[k]? = some ok->k≠i->(listed.setIfInBounds j true).getD k true=false ->
     (∀e∈ok.after,Region.binds md e=true->e.on≠i)->oi.apart ops ok=true:=fun k ok hk hki hun hno=>by
    refine hfree k ok hk hki ?_ hno;by_cases hjk:j=k
    ·grind
    simp_all
   grind[zow,ready_mono,Array.setIfInBounds_comm]
def Zc3(ops:Array Oper)(F:Nat->(Nat->AV)->AV->Prop)(Q:(Nat->AV)->Prop):List Oper->Nat->(Nat->AV)->Prop
 | [],_,ρ=>Q ρ
 | o::l,k,ρ=>∃x,F k ρ x/\Zc3 ops F Q l (k+1) (upd ρ o.dst x)
theorem zox(hL:Zel ops F){Q:(Nat->AV)->Prop}:∀(l:List Oper) (k:Nat) (listed:Array Bool) (ρ:Nat->AV),(∀j,l[j]? = ops[k+j]?) ->
  Region.lexFrom md ops l.length k listed=true->Zc3 ops F Q l k ρ->Zjv md ops F Q l.length listed ρ
 | [],_,_,_,_,hB,h=>⟨by simpa[Region.lexFrom]using hB,h⟩
 | o::l,k,listed,ρ,hl,hB,h=>by
  have h0:ops[k]? = some o:=by simpa using (hl 0).symm
  simp only[Yg,Region.lexFrom,Yk]at hB;obtain⟨⟨hr,hf⟩,hB'⟩:=hB;obtain⟨v,hy,hK⟩:=h;exact zqj hL h0 l.length listed ρ (Region.free_spec h0 hf) (by simpa using hr) hy
   (zox hL l (k+1) _ _ (fun j=>by have:=hl (j+1);simpa[Yap,Ybj 1 j]using this) hB' hK)
structure Clo (md:Region.Mode) (ops:Array Oper) (listed:Array Bool):Prop where
 size:listed.size=ops.size
 closed:∀(j:Nat) (oj:Oper),ops[j]? = some oj->listed.getD j false=true->∀e∈oj.after,Region.binds md e=true->listed.getD e.on false=true
def Clo.set{i:Nat}{listed:Array Bool}(inv:Clo md ops listed)(hi:i∈Region.ready md ops listed):Clo md ops (listed.setIfInBounds i true):=by
 obtain⟨_,oi,hoi,hall⟩:=mem_ready.1 hi;refine⟨by simp[inv.size],fun j oj hj hl e he hb=>?_⟩;by_cases hij:i=j
 ·grind[getD_set_true]
 ·rw[getD_set_ne false hij]at hl;exact getD_set_true (inv.closed j oj hj hl e he hb)
theorem ze4{R:Array Bool->(Nat->AV)->Act->World->Prop}{Q:(Nat->AV)->Prop}{Q':Exit->Act->World->Prop}
  (hs:∀i o,ops[i]? = some o->∀listed ρ x a w (K:Act->World->Prop),Clo md ops listed->i∈Region.ready md ops listed->F i ρ x->R listed ρ a w->(∀a' w',R (listed.setIfInBounds i true) (upd ρ o.dst x) a' w'->K a' w')->wpOp P ops Q' i K a w)
  (hQ:∀listed ρ a w,Clo md ops listed->Region.ready md ops listed=[]->R listed ρ a w->Q ρ->Q' .normal a w):∀(fuel:Nat) (listed:Array Bool) (ρ:Nat->AV) (a:Act) (w:World),Clo md ops listed->R listed ρ a w ->
  Zjv md ops F Q fuel listed ρ->wpAny P md ops Q' fuel listed a w
 | 0,_,_,_,_,hc,hr,h=>⟨h.1,hQ _ _ _ _ hc h.1 hr h.2⟩
 | fuel+1,listed,ρ,a,w,hc,hr,h=>by
  refine⟨fun h0=>hQ _ _ _ _ hc h0 hr (h.1 h0),fun i hi=>?_⟩;have h2:=h.2 i hi;obtain⟨_,o,ho,_⟩:=mem_ready.1 hi;unfold fOp at h2;simp only[ho]at h2;obtain⟨x,hx,hK⟩:=h2;exact hs i o ho listed ρ x a w _ hc hi hx hr fun a' w' hr'=>ze4 hs hQ fuel _ _ a' w' (hc.set hi) hr' hK
def zct{id:Nat}{R:Array Bool->(Nat->AV)->Act->World->Prop}{Q:(Nat->AV)->Prop}{Q':Exit->Act->World->Prop}{ρ:Nat->AV}{a:Act}{w:World}
  (hm:P.follows .mixedOrders=true) (hB:Region.lexB .any ops=true) (hL:Zel ops F)
  (hs:∀i o,ops[i]? = some o->∀listed ρ x a w (K:Act->World->Prop),Clo .any ops listed->i∈Region.ready .any ops listed->F i ρ x->R listed ρ a w->(∀a' w',R (listed.setIfInBounds i true) (upd ρ o.dst x) a' w'->K a' w')->wpOp P ops Q' i K a w)
  (hQ:∀listed ρ a w,Clo .any ops listed->Region.ready .any ops listed=[]->R listed ρ a w->Q ρ->Q' .normal a w) (hr:R (Array.replicate ops.size false) ρ a { w with drawn:=w.drawn+1 }) (h:Zc3 ops F Q ops.toList 0 ρ):(Code.region id ops true).wp P Q' a w:=by
 simp only[Region.lexB,Yk]at hB;refine wp_region_any hm (ze4 hs hQ _ _ _ _ _ ⟨by simp,fun j oj _ hl=>by rw[getD_replicate_false]at hl;grind⟩ hr ?_);have:=zox (md:=.any) hL ops.toList 0 (Array.replicate ops.size false) ρ (by simp) (by grind) h;omega
end
end
section
open Go.RowKit
section
variable{P:Program}{cx:Cx}{w w':World}{S S':Nat->Nat->Prop}{M:Map}{clk:Nat}{h:Heap}{ρ:Nat->AV}{a:Act}
def RelF.put(hr:RelF cx S M clk h ρ a w){d:Option Nat}{v:Value}{x:AV}(hd:∀e,d=some e->e<cx.nt)(hC:C w S M clk v x):RelF cx S M clk h (upd ρ d x) (a.put d v) w:=by
 cases d with
 | none=>exact hr
 | some d=>
  refine⟨by simp only[Act.put,Array.size_setIfInBounds];exact hr.size,hr.defers,fun t=>?_,hr.wr⟩;simp only[Act.put,upd];by_cases ht:t=d
  ·have:t<a.tmps.size:=by rw[hr.size];grind
   simp_all
  ·have:=hr.env t;have h2:(a.tmps.setIfInBounds d v).getD t undef=a.tmps.getD t undef:=by
    simp[Array.getElem?_setIfInBounds_ne (Ne.symm ht)]
   grind
def plus(S:Nat->Nat->Prop)(n m:Nat):Nat->Nat->Prop:=fun k o=>S k o\/(n<=k/\k<m)
def Ext.below(hb:Below w.heap.size w w')(hS:∀k o,S k o->k<w.heap.size)(hM:∀g k,M g=some (some k)->k<w.heap.size):Ext w S M clk w' (plus S w.heap.size w'.heap.size) M clk:=by
 refine⟨fun k o h=>.inl h,fun k o u hs hc=>?_,Yi _,fun g m _ h=>h,fun g k arr e _ hm hh=>⟨arr,?_,rfl⟩⟩
 ·rw[hb.cell (p:=⟨k,o,none⟩) (hS k o hs)];omega
 ·rw[hb.block k (hM g k hm)];omega
def Zbt.mono{M':Map}{clk':Nat}{bx:Box}(hx:Ext w S M clk w' S' M' clk')(hb:Zbt w S M clk bx)(hM:M' bx.gen=M bx.gen)
  (hblk:∀k,M bx.gen=some (some k)->w'.heap[k]? = w.heap[k]?) (hS:∀k o,M bx.gen=some (some k)->S' k o->S k o):Zbt w' S' M' clk' bx:=by
 obtain⟨h1,h2,m,hm,h3⟩:=hb;refine⟨Ym h1 hx.hclk,h2,m,by grind,?_⟩;cases m with
 | none=>omega
 | some k=>
  by_cases hmp:bx.kind=.mp
  ·obtain⟨es,c,hh,hc,ho⟩:=ckP' hmp h3;exact ckP hmp ⟨es,c,by grind,hc.mono hx.hS hx.hcell,fun o hs=>ho o (hS k o hm hs)⟩
  obtain⟨arr,e,hh,hsz,hc,ho,hl⟩:=ck' hmp h3;refine ck hmp ⟨arr,e,by grind,hsz,fun i r j c hi hj=>?_,fun hk o hs=>ho hk o (hS k o hm hs),fun o hs=>hl o (hS k o hm hs)⟩;obtain⟨u,hu,h1,hC,hP⟩:=hc i r j c hi hj;exact⟨u,hu,h1,hC.mono hx,fun hk=>(hP hk).mono hx.hS hx.hcell⟩
def Fr.trans{W0:World}{brw:Nat->Prop}(h1:Fr W0 w brw)(hb:Below w.heap.size w w'):Fr W0 w' brw:=
 ⟨hb.os.trans h1.os,hb.tape.trans h1.tape,hb.output.trans h1.output,Yd h1.size hb.size,fun k hk hn=>(hb.block k (Ym hk h1.size)).trans (h1.block k hk hn)⟩
def WRel.below(hr:WRel cx S M clk h w)(hb:Below w.heap.size w w'):WRel cx (plus S w.heap.size w'.heap.size) M clk h w':=by
 have hx:=Ext.below (clk:=clk) hb hr.Slt fun g k hm=>(hr.Mnew g k hm).1;refine⟨⟨fun b bx hl=>?_,hr.heap.live,hr.heap.gens,hr.heap.inj⟩,hr.ext.trans hx,hr.fr.trans hb,fun k o hs=>?_,fun k o hs=>?_,fun g k hm=>?_⟩
 ·refine(hr.heap.box b bx hl).mono hx rfl (fun k hm=>hb.block k (hr.Mnew _ k hm).1) fun k o hm hs=>?_;rcases hs with hs | ⟨hs,_⟩
  ·omega
  ·have:=(hr.Mnew _ k hm).1;omega
 ·rcases hs with hs | ⟨hs,_⟩
  ·exact hr.Snew k o hs
  ·exact .inr (.inl (Yd hr.fr.size hs))
 ·rcases hs with hs | ⟨_,hs⟩
  ·exact Ym (hr.Slt k o hs) hb.size
  omega
 ·exact⟨Ym (hr.Mnew g k hm).1 hb.size,(hr.Mnew g k hm).2⟩
def RelF.below(hr:RelF cx S M clk h ρ a w)(hb:Below w.heap.size w w'):RelF cx (plus S w.heap.size w'.heap.size) M clk h ρ a w':=
 ⟨hr.size,hr.defers,fun t=>(hr.env t).mono (Ext.below hb hr.wr.Slt fun g k hm=>(hr.wr.Mnew g k hm).1),hr.wr.below hb⟩
def zne(w:World):Below w.heap.size w { w with drawn:=w.drawn+1 }:=⟨rfl,rfl,rfl,Yi _,fun _ _=>rfl⟩
def Zb1(cx:Cx)(clk:Nat)(h:Heap)(ρ:Nat->AV)(a:Act)(w:World):Prop:=∃S M,RelF cx S M clk h ρ a w
def Zb1.drawn(hr:Zb1 cx clk h ρ a w):Zb1 cx clk h ρ a { w with drawn:=w.drawn+1 }:=by
 obtain⟨S,M,hr⟩:=hr;exact⟨_,M,hr.below (zne w)⟩
def zzu{l:List Operand}{ps:List Opd}(he:Zey w S M clk ρ a)(hr:Zbu l=some ps)(hn:(ps.map (ev ρ)).all noRef=true) :
  (l.map a.eval).length=(ps.map (ev ρ)).length/\∀(j:Nat) (v:Value) (c:AV),(l.map a.eval)[j]? = some v->(ps.map (ev ρ))[j]? = some c->CP w S v c:=by
 obtain⟨h1,h2⟩:=zbp he l ps hr;exact⟨by grind,fun j v c hv hc=>(h2 j v c hv hc).noRef (Yl.1 hn c (Yc hc))⟩
theorem zco{o:Op}{f:Nat}{args:List Opd}(hop:Zdr P o=some (.call f args)):∃cargs ats,o=.call { callee:=.value (.func f),args:=cargs,argTypes:=ats }/\Zbu cargs.toList=some args:=by
 replace hop:=zar hop;rcases hop with hop | ⟨k,xs,he,_⟩
 rotate_left
 ·grind
 cases o<;>simp only[Zbe]at hop
 case call c=>
  obtain⟨callee,cargs,ats⟩:=c;cases callee with
  | invoke r m=>
   obtain⟨p,hp,hr1⟩:=bind_some hop
   simp_all
  | builtin b=>
   exfalso;revert hop;simp only
   repeat' split
   all_goals simp[Yf]
  | value fv=>
   cases fv<;>simp only at hop<;>try simp_all
   all_goals simp_all
 all_goals
  exfalso;revert hop
  repeat' split
  all_goals simp[Yf]
end
end
section
open Go.RowKit
def Zbm(h:Heap)(M:Map)(ids:List BId)(S:Nat->Nat->Prop):Nat->Nat->Prop:=
 fun k o=>S k o\/∃id bx,id∈ids/\h.lookup id=some bx/\M bx.gen=some (some k)/\o<bx.els.length*bx.z
theorem zee{α β γ:Type}[BEq α](f:α->β->γ)(k:α)[LawfulBEq α]:∀(l:List (α×β)),(l.map fun p=>(p.1,f p.1 p.2)).lookup k=(l.lookup k).map (f k)
 | []=>rfl
 | (a,b)::l=>by
  simp only[Yx,Yas];by_cases h:k == a
  ·grind
  ·simp only[h];exact zee f k l
instance:LawfulBEq BId:=inferInstance
def zdw(ids:List BId)(h:Heap)(b:BId):(Zx ids h).lookup b=(h.lookup b).map fun bx=>if ids.contains b then { bx with kind:=.sh } else bx:=by
 cases ids with
 | nil=>
  simp only[Zx,List.contains_nil,Yad,if_false]
  simp_all
 | cons i is=>exact zee (fun b bx=>if (i::is).contains b then { bx with kind:=.sh } else bx) b h
section
variable{P:Program}{cx:Cx}{w w':World}{S S':Nat->Nat->Prop}{M:Map}{clk:Nat}{h:Heap}{ρ:Nat->AV}{a:Act}
def WRel.share(hr:WRel cx S M clk h w)(ids:List BId)(hk:∀id bx,id∈ids->h.lookup id=some bx->bx.kind≠.str/\bx.kind≠.mp):WRel cx (Zbm h M ids S) M clk (Zx ids h) w:=by
 have hx:Ext w S M clk w (Zbm h M ids S) M clk:=⟨fun k o hs=>.inl hs,fun k o u _ hc=>hc,Yi _,fun g m _ hm=>hm,fun g k arr e _ _ hb=>⟨arr,hb,rfl⟩⟩;have hlt:∀k o,Zbm h M ids S k o->k<w.heap.size:=by
  intro k o hs;rcases hs with hs | ⟨id,bx,_,_,hm,_⟩
  ·exact hr.Slt k o hs
  ·exact(hr.Mnew _ k hm).1
 have look:∀b bx',(Zx ids h).lookup b=some bx'->∃bx,h.lookup b=some bx/\bx'.gen=bx.gen/\bx'.z=bx.z/\bx'.els=bx.els/\(b∈ids->bx'.kind=.sh)/\(b∉ids->bx'=bx):=by
  intro b bx' hb;rw[zdw]at hb;obtain⟨bx,hbx,rfl⟩:=map_some hb
  grind
 refine⟨⟨fun b bx' hb=>?_,fun g m hm=>?_,fun b bx b' bx' h1 h2 hg=>?_,hr.heap.inj⟩,hr.ext.trans hx,hr.fr,fun k o hs=>?_,hlt,hr.Mnew⟩
 ·obtain⟨bx,hbx,hg,hz,hel,hin,hout⟩:=look b bx' hb;by_cases hm:b∈ids
  ·obtain⟨h1,h2,m,hmm,h3⟩:=hr.heap.box b bx hbx;refine⟨by omega,by grind,m,by grind,?_⟩;have hkk:=hk b bx hm hbx;cases m with
   | none=>grind
   | some k=>
    obtain⟨arr,e,hh,hsz,hc,_,hl⟩:=ck' hkk.2 h3;refine ck (by rw[hin hm];simp) ⟨arr,e,hh,by grind,fun i r j c hi hj=>?_,fun hne=>absurd (hin hm) hne,fun o hs=>?_⟩
    ·rw[hel]at hi;obtain⟨u,hu,h1,hC,hP⟩:=hc i r j c hi hj;exact⟨u,by grind,h1,hC.mono hx,fun _=>(hP hkk.1).mono hx.hS hx.hcell⟩
    ·rcases hs with hs | ⟨id,bx2,hid,hb2,hm2,ho⟩
     ·grind
     ·have:=hr.heap.inj _ _ _ hm2 hmm;have:=hr.heap.gens _ _ _ _ hb2 hbx this
      grind
  ·rw[hout hm];refine(hr.heap.box b bx hbx).mono hx rfl (fun _ _=>rfl) fun k o hmk hs=>?_;rcases hs with hs | ⟨id,bx2,hid,hb2,hm2,ho⟩
   ·omega
   ·have:=hr.heap.inj _ _ _ hm2 hmk;have:=hr.heap.gens _ _ _ _ hb2 hbx this
    grind
 ·obtain⟨b,bx,hb,hg⟩:=hr.heap.live g m hm;refine⟨b,_,by rw[zdw,hb];rfl,?_⟩
  grind
 ·obtain⟨c,hc,hcg,_⟩:=look _ _ h1;obtain⟨c',hc',hcg',_⟩:=look _ _ h2;exact hr.heap.gens _ _ _ _ hc hc' (by rw[<-hcg,<-hcg',hg])
 ·rcases hs with hs | ⟨id,bx,_,_,hm,_⟩
  ·exact hr.Snew k o hs
  ·exact .inr (hr.Mnew _ k hm).2
def zsv{v:Value}{x y:AV}{ids:List BId}(hh:HeapRel w S M clk h)(hv:C w S M clk v x)(hf:Zby h x=some y)(hid:∀id g z off n,x=.bs id g z off n->id∈ids):CP w (Zbm h M ids S) v y:=by
 have up:∀{v y},CP w S v y->CP w (Zbm h M ids S) v y:=fun hp=>hp.mono (fun _ _ hs=>.inl hs) fun _ _ _ _ hc=>hc;cases x<;>simp only[Zby]at hf<;>try cases hf
 case ptr=>exact .dead v
 case fnp=>exact .dead v
 case fnv=>exact up (hv.pureC rfl)
 case bs id g z off n=>
  obtain⟨bx,hb,hf1⟩:=bind_some hf;split at hf1<;>cases hf1;rename_i hc;obtain⟨hlk,hg,hz⟩:=zaq hb;obtain⟨_,hbs,_⟩:=hv.inv_bs;obtain⟨h1,h2,m,hm,h3⟩:=hh.box id bx hlk;rw[hg]at hm;rw[hm]at hbs;cases m with
  | none=>
   obtain⟨rfl,rfl,ad,rfl,had⟩:=hbs;cases ad with
   | none=>exact .slnil _ (.inr rfl)
   | some ad=>
    obtain⟨blk,o,sp⟩:=ad
    grind[zj4]
  | some k=>
   obtain⟨arr,ty,cap,hblk,rfl,hnc,hcm,harr⟩:=hbs;obtain⟨arr',e',hh',hsz,hcc,_,hl⟩:=ck' (zcl hb) h3;rw[hblk]at hh';cases hh';have hlen:((bx.els.drop off).take n).length=n:=by grind
   have hget:∀i,i<n->((bx.els.drop off).take n)[i]? = bx.els[off+i]? := fun i hi=>by rw[Yak,if_pos hi,Yaq]
   have hlt:∀(i:Nat) (r:List AV),((bx.els.drop off).take n)[i]? = some r->i<n:=by
    grind
   have key:∀i j,i<n->j<z->∃r c u,bx.els[off+i]? = some r/\r[j]? = some c/\arr[(off+i)*z+j]? = some u/\u.oneCell'=true/\CP w S u c:=by
    intro i j hi hj;have hr:bx.els[off+i]? = some (bx.els[off+i]'(by omega)):=Ya (by omega);have hrl:=h2 _ (Yc hr);have hc:(bx.els[off+i]'(by omega))[j]? = some ((bx.els[off+i]'(by omega))[j]'(by omega)):=Ya (by omega)
    grind
   have hcp:=CP.sl (w:=w) (S:=Zbm h M ids S) k (off*z) z cap ((bx.els.drop off).take n) .an (fun i j=>(arr[(off+i)*z+j]?).getD undef) (by simp) (by simp) (by omega) hcm ?_ ?_ ?_
   ·grind
   ·grind
   ·intro i j hi hj;rw[hlen]at hi;obtain⟨r,c,u,hr,hc,hu,h1,_⟩:=key i j hi hj;have e1:off*z+i*z+j=(off+i)*z+j:=by grind
    rw[e1];refine⟨.inr ⟨id,bx,hid _ _ _ _ _ rfl,hlk,by grind,?_⟩,?_,?_⟩
    ·rw[hz];have:(off+i)*z+j<(off+i+1)*z:=by grind
     exact Ym this (Y2 _ (by omega))
    ·rw[cell_of_row w k _ arr _ (0,0) hblk,hu];rfl
    grind
   grind
 case i k n=>exact up (hv.pureC rfl)
 case b x=>exact up (hv.pureC rfl)
 case s l=>exact up (hv.pureC rfl)
 case raw v=>exact up (hv.pureC rfl)
 case sl els f=>exact up (hv.pureC rfl)
 case ep cs o=>exact up (hv.pureC rfl)
 case dead=>exact .dead _
theorem zft{v:Value}{x y:AV}{ids:List BId}(hh:HeapRel w S M clk h)(hv:C w S M clk v x)(hf:Zaw h x=some y)(hid:∀id,id∈refs x->id∈ids):CP w (Zbm h M ids S) v y:=by
 cases x
 case agg cs=>
  obtain⟨ds,hd,rfl⟩:=map_some hf;obtain⟨hl,hg⟩:=zbe _ _ hd;obtain⟨vs,rfl,hvl,h1,hc⟩:=hv.inv_agg;refine .agg vs ds (by omega) h1 fun j v d hv hd=>?_;have hj:j<cs.length:=by
   grind
  have hcj:cs[j]? = some (cs[j]'hj):=Ya hj;refine zsv hh (hc j v _ hv hcj) (hg j _ _ hcj hd) fun id g z off n he=>hid id ?_;simp only[refs,Y6];exact⟨_,Yc hcj,by grind⟩
 all_goals exact zsv hh hv hf fun id g z off n he=>hid id (by rw[he];simp[refs])
def zsw{v:Value}{x y:AV}{ids:List BId}(hh:HeapRel w S M clk h)(hv:C w S M clk v x)(hf:frz h x=some y)(hid:∀id,id∈refs x->id∈ids):CP w (Zbm h M ids S) v y:=by
 cases x
 case tup cs=>
  obtain⟨ds,hd,rfl⟩:=map_some hf;obtain⟨hl,hg⟩:=zbe _ _ hd;obtain⟨vs,rfl,hvl,hc⟩:=hv.inv_tup;refine .tup vs ds (by omega) fun j v d hv hd=>?_;have hj:j<cs.length:=by
   grind
  have hcj:cs[j]? = some (cs[j]'hj):=Ya hj;refine zft hh (hc j v _ hv hcj) (hg j _ _ hcj hd) fun id he=>hid id ?_;simp only[refs,Y6];refine⟨_,Yc hcj,?_⟩;have hfj:=hg j _ _ hcj hd;cases hx:cs[j]'hj<;>rw[hx]at he hfj<;>first | (simp[Zaw,Zby]at hfj;done) | exact he
 all_goals exact zft hh hv hf hid
def zc6{x y:AV}(hf:frz h x=some y):∀id bx,id∈refs x->h.lookup id=some bx->bx.kind≠.str/\bx.kind≠.mp:=by
 have hC:∀c d,Zby h c=some d->∀id g z off n,c=.bs id g z off n->∀bx,h.lookup id=some bx->bx.kind≠.str/\bx.kind≠.mp:=by
  intro c d hf id g z off n he bx hb;subst he;obtain⟨bx',hb',hf1⟩:=bind_some hf
  grind[zaq,zcl]
 have h1:∀x y,Zaw h x=some y->(∀cs,x≠.tup cs)->∀id bx,id∈refs x->h.lookup id=some bx->bx.kind≠.str/\bx.kind≠.mp:=by
  intro x y hf hnt id bx hid hb;cases x<;>simp only[refs]at hid<;>try (simp at hid;done)
  case bs id' g z off n=>
   grind[Zaw]
  case agg cs=>
   obtain⟨ds,hd,rfl⟩:=map_some hf;obtain⟨hl,hg⟩:=zbe _ _ hd
   grind[List.getElem?_of_mem]
  grind
 intro id bx hid hb;cases x
 case tup cs=>
  obtain⟨ds,hd,rfl⟩:=map_some hf;obtain⟨hl,hg⟩:=zbe _ _ hd;simp only[refs,Y6]at hid;obtain⟨c,hc,hid⟩:=hid;obtain⟨j,hj⟩:=Yae hc;have hjl:j<ds.length:=by
   grind
  have hdj:ds[j]? = some (ds[j]'hjl):=Ya hjl;have hfj:=hg j _ _ hj hdj;refine h1 _ _ hfj (fun cs he=>?_) id bx ?_ hb
  ·grind
  grind[refs]
 all_goals
  simp only[frz]at hf;exact h1 _ _ hf (by simp) id bx hid hb
end
end
section
open Go.RowKit
def Live(h:Heap)(g:Nat):Prop:=∃b bx,h.lookup b=some bx/\bx.gen=g
open Classical in
noncomputable def Zch(M:Map)(h:Heap)(g':Nat)(k':Option Nat):Map:=fun g=>if g=g' then some k' else if Live h g then M g else none
theorem zam(M:Map)(h:Heap)(g':Nat)(k':Option Nat):Zch M h g' k' g'=some k':=by simp[Zch]
def zsx{M:Map}{h:Heap}{g g':Nat}{k':Option Nat}(hne:g≠g')(hl:Live h g):Zch M h g' k' g=M g:=by simp[Zch,hne,hl]
def zdf{M:Map}{h:Heap}{g g':Nat}{k' m:Option Nat}(hm:Zch M h g' k' g=some m):(g=g'/\m=k')\/(g≠g'/\Live h g/\M g=some m):=by
 grind[Zch]
section
variable{P:Program}{cx:Cx}{w w':World}{S S':Nat->Nat->Prop}{M:Map}{clk:Nat}{h:Heap}{ρ:Nat->AV}{a:Act}
theorem zbr(id:BId)(bx:Box)(h:Heap):List.lookup id ((id,bx)::h)=some bx:=by simp
def zba{id b:BId}(bx:Box)(h:Heap)(hne:b≠id):List.lookup b ((id,bx)::h)=List.lookup b h:=by
 grind
structure Touch (w w':World) (S:Nat->Nat->Prop) (M:Map) (h:Heap) (id:BId) (touched:Option Nat):Prop where
 os:w'.os=w.os
 tape:w'.tape=w.tape
 output:w'.output=w.output
 size:w.heap.size<=w'.heap.size
 block:∀k,k<w.heap.size->some k≠touched->w'.heap[k]? = w.heap[k]?
 own:∀k,touched=some k->∃bx,h.lookup id=some bx/\M bx.gen=some (some k)
 cell:∀k o u,touched=some k->S k o->w.cell? ⟨k,o,none⟩=some u->w'.cell? ⟨k,o,none⟩=some u
 blk:∀k arr e,touched=some k->w.heap[k]? = some (.cells arr e (0,0))->∃arr',w'.heap[k]? = some (.cells arr' e (0,0))/\arr'.size=arr.size
def Ext.set{id:BId}{bx':Box}{k':Option Nat}{clk':Nat}{touched:Option Nat}(hr:WRel cx S M clk h w)(hclk:clk<=clk')(hsame:bx'.gen<clk->M bx'.gen=some k')(ht:Touch w w' S M h id touched) :
  Ext w S M clk w' S (Zch M ((id,bx')::h) bx'.gen k') clk':=by
 refine⟨fun k o hs=>hs,fun k o u hs hc=>?_,hclk,fun g m hg hm=>?_,fun g k arr e hg hm hb=>?_⟩
 ·by_cases hk:some k=touched
  ·exact ht.cell k o u hk.symm hs hc
  ·rw[World.cell?_of_block (w:=w) (ht.block k (hr.Slt k o hs) hk)];omega
 ·rcases zdf hm with ⟨rfl,rfl⟩ | ⟨_,_,hm⟩
  all_goals grind
 ·by_cases hk:some k=touched
  ·exact ht.blk k arr e hk.symm hb
  ·refine⟨arr,?_,rfl⟩;have hmm:M g=some (some k):=by
    rcases zdf hm with ⟨rfl,hk'⟩ | ⟨_,_,hm⟩
    all_goals grind
   rw[ht.block k (hr.Mnew g k hmm).1 hk];omega
def WRel.set{id:BId}{bx':Box}{k':Option Nat}{clk':Nat}{touched:Option Nat}(hr:WRel cx S M clk h w)(hclk:clk<=clk')
  (hnew:bx'.gen=clk\/∃bx,h.lookup id=some bx/\bx.gen=bx'.gen) (hsame:bx'.gen<clk->M bx'.gen=some k') (ht:Touch w w' S M h id touched)
  (hk':∀k,k'=some k->(w.heap.size<=k/\k<w'.heap.size)\/touched=some k)
  (hbox:Zbt w' S (Zch M ((id,bx')::h) bx'.gen k') clk' bx'):WRel cx S (Zch M ((id,bx')::h) bx'.gen k') clk' ((id,bx')::h) w':=by
 have hx:=Ext.set (bx':=bx') hr hclk hsame ht;have hgen:∀b bx,b≠id->h.lookup b=some bx->bx.gen≠bx'.gen:=by
  intro b bx hne hb heq;rcases hnew with hn | ⟨bx0,h0,hg0⟩
  ·have:=(hr.heap.box b bx hb).1;omega
  ·exact hne (hr.heap.gens _ _ _ _ hb h0 (heq.trans hg0.symm))
 have hold:∀b bx,b≠id->h.lookup b=some bx->∀k,M bx.gen=some (some k)->some k≠touched:=by
  intro b bx hne hb k hm hk;obtain⟨bx0,h0,hm0⟩:=ht.own k hk.symm;exact hne (hr.heap.gens _ _ _ _ hb h0 (hr.heap.inj _ _ _ hm hm0))
 refine⟨⟨fun b bx hb=>?_,fun g m hm=>?_,fun b bx b' bx2 h1 h2 hg=>?_,fun g g' k hm hm'=>?_⟩,hr.ext.trans hx,?_,hr.Snew,fun k o hs=>Ym (hr.Slt k o hs) ht.size,fun g k hm=>?_⟩
 ·by_cases hb1:b=id
  ·grind
  ·rw[zba _ _ hb1]at hb;have hl:Live ((id,bx')::h) bx.gen:=⟨b,bx,by grind,rfl⟩;exact(hr.heap.box b bx hb).mono hx (zsx (hgen b bx hb1 hb) hl) (fun k hm=>ht.block k (hr.Mnew _ k hm).1 (hold b bx hb1 hb k hm)) fun k o _ hs=>hs
 ·rcases zdf hm with ⟨rfl,_⟩ | ⟨_,hl,_⟩
  ·exact⟨id,bx',zbr _ _ _,rfl⟩
  ·exact hl
 ·by_cases hb1:b=id<;>by_cases hb2:b'=id
  ·rw[hb1,hb2]
  ·grind
  ·grind
  ·rw[zba _ _ hb1]at h1;rw[zba _ _ hb2]at h2;exact hr.heap.gens _ _ _ _ h1 h2 hg
 ·have key:∀g1 g2,g1=bx'.gen->g2≠bx'.gen->Live ((id,bx')::h) g2->M g2=some (some k)->some (some k)=some k'->False:=by
   intro g1 g2 _ hne hl hm2 hk;cases hk;rcases hk' k rfl with ⟨hk,_⟩ | hk
   ·have:=(hr.Mnew g2 k hm2).1;omega
   ·obtain⟨bx0,h0,hm0⟩:=ht.own k hk;obtain⟨b,bx,hb,hbg⟩:=hl
    grind
  rcases zdf hm with ⟨h1,hk1⟩ | ⟨h1,hl1,hm1⟩<;>rcases zdf hm' with ⟨h2,hk2⟩ | ⟨h2,hl2,hm2⟩
  ·rw[h1,h2]
  ·grind
  ·grind
  ·exact hr.heap.inj _ _ _ hm1 hm2
 ·refine⟨ht.os.trans hr.fr.os,ht.tape.trans hr.fr.tape,ht.output.trans hr.fr.output,Yd hr.fr.size ht.size,fun k hk hn=>?_⟩;rw[ht.block k (Ym hk hr.fr.size) fun he=>?_]
  ·exact hr.fr.block k hk hn
  ·obtain⟨bx0,h0,hm0⟩:=ht.own k he.symm;rcases(hr.Mnew _ k hm0).2 with h1 | h1
   all_goals grind
 ·rcases zdf hm with ⟨_,hk⟩ | ⟨_,_,hm⟩
  ·rcases hk' k hk.symm with ⟨h1,h2⟩ | h1
   ·exact⟨h2,.inl (Yd hr.fr.size h1)⟩
   ·obtain⟨bx0,h0,hm0⟩:=ht.own k h1;exact⟨Ym (hr.Mnew _ k hm0).1 ht.size,(hr.Mnew _ k hm0).2⟩
  ·exact⟨Ym (hr.Mnew g k hm).1 ht.size,(hr.Mnew g k hm).2⟩
def RelF.set{id:BId}{bx':Box}{k':Option Nat}{clk':Nat}{touched:Option Nat}(hr:RelF cx S M clk h ρ a w)(hclk:clk<=clk')
  (hnew:bx'.gen=clk\/∃bx,h.lookup id=some bx/\bx.gen=bx'.gen) (hsame:bx'.gen<clk->M bx'.gen=some k') (ht:Touch w w' S M h id touched)
  (hk':∀k,k'=some k->(w.heap.size<=k/\k<w'.heap.size)\/touched=some k)
  (hbox:Zbt w' S (Zch M ((id,bx')::h) bx'.gen k') clk' bx'):RelF cx S (Zch M ((id,bx')::h) bx'.gen k') clk' ((id,bx')::h) ρ a w':=
 ⟨hr.size,hr.defers,fun t=>(hr.env t).mono (Ext.set hr.wr hclk hsame ht),hr.wr.set hclk hnew hsame ht hk' hbox⟩
def Touch.of_below{id:BId}(hb:Below w.heap.size w w'):Touch w w' S M h id none:=
 ⟨hb.os,hb.tape,hb.output,hb.size,fun k hk _=>hb.block k hk,fun k hk=>(by grind),fun k o u hk=>(by grind),fun k arr e hk=>(by grind)⟩
end
end
section
open Go.RowKit
structure Rw (w:World) (S:Nat->Nat->Prop) (z:Nat) (vs:List Value) (els:List (List AV)):Prop where
 len:vs.length=els.length*z
 row:∀r∈els,r.length=z
 one:∀u∈vs,u.oneCell'=true
 cell:∀(i:Nat) (r:List AV) (j:Nat) (c:AV),els[i]? = some r->r[j]? = some c->∃u,vs[i*z+j]? = some u/\CP w S u c
section
variable{P:Program}{cx:Cx}{w w':World}{S S':Nat->Nat->Prop}{M:Map}{clk:Nat}{h:Heap}{ρ:Nat->AV}{a:Act}
def Rw.mono{z:Nat}{vs:List Value}{els:List (List AV)}(hr:Rw w S z vs els)(hS:∀k o,S k o->S' k o)(hw:∀k o u,S k o->w.cell? ⟨k,o,none⟩=some u->w'.cell? ⟨k,o,none⟩=some u):Rw w' S' z vs els:=
 ⟨hr.len,hr.row,hr.one,fun i r j c hi hj=>let ⟨u,hu,hC⟩:=hr.cell i r j c hi hj;⟨u,hu,hC.mono hS hw⟩⟩
def Rw.nil{z:Nat}:Rw w S z [] []:=⟨by simp,fun r h=>by grind,fun u h=>by grind,fun i r j c h=>by grind⟩
theorem zgs{n z i j:Nat}(hi:i<n)(hj:j<z):i*z+j<n*z:=by
 have:(i+1)*z<=n*z:=Y2 _ hi
 grind
def zb1{α:Type}{l:List α}{i:Nat}{x:α}(h:l[i]? = some x):i<l.length:=by
 grind
def Rw.append{z:Nat}{vs us:List Value}{els fls:List (List AV)}(h1:Rw w S z vs els)(h2:Rw w S z us fls):Rw w S z (vs++us) (els++fls):=by
 refine⟨by simp[h1.len,h2.len,Yby],fun r hr=>?_,fun u hu=>?_,fun i r j c hi hj=>?_⟩
 ·rcases Yaj.1 hr with h | h
  ·exact h1.row r h
  ·exact h2.row r h
 ·rcases Yaj.1 hu with h | h
  ·exact h1.one u h
  ·exact h2.one u h
 ·rcases Yv i els.length with h | h
  ·rw[Yo h]at hi;obtain⟨u,hu,hC⟩:=h1.cell i r j c hi hj
   grind
  ·rw[Ye h]at hi;obtain⟨u,hu,hC⟩:=h2.cell _ r j c hi hj;refine⟨u,?_,hC⟩;have hle:els.length*z<=i*z:=Y2 _ h;rw[Ye (by rw[h1.len];omega),h1.len,<-hu];congr 1;rw[Nat.sub_mul];omega
def Rw.take{z:Nat}{vs:List Value}{els:List (List AV)}(h1:Rw w S z vs els)(n:Nat):Rw w S z (vs.take (n*z)) (els.take n):=by
 refine⟨?_,fun r hr=>h1.row r (Yaz hr),fun u hu=>h1.one u (Yaz hu),fun i r j c hi hj=>?_⟩
 ·rw[Ya3,Ya3,h1.len]
  simp_all
 ·rw[Yak]at hi;split at hi
  ·obtain⟨u,hu,hC⟩:=h1.cell i r j c hi hj;have hjz:j<z:=by have:=h1.row r (Yc hi);grind
   grind[zgs]
  grind
def CP.rows{v:Value}{els:List (List AV)}{f:Fl}{z:Nat}(hv:CP w S v (.sl els f))(hz:∀r∈els.head?,r.length=z) :
  ∃(b:Option Addr) (cap:Nat) (vs:List Value),v=.slice b els.length cap/\(b=none->els=[]/\cap=0)/\els.length<=cap/\cap<=maxLen/\(f=.fu->cap=els.length)/\(f=.nl\/f=.fu->∀ad,b=some ad->ad.spot=none)/\(f=.nl->b=none) /\
   Rw w S z vs els/\(∀j u,vs[j]? = some u->∃ad,b=some ad/\w.cell? (ad.add j)=some u):=by
 rcases hv.inv_sl with ⟨rfl,b,rfl,hb1,hb2⟩ | ⟨blk,off,z0,cap,u,rfl,hf,hfull,hcap,hmax,hz0,hS,hcc⟩
 ·have hbn:(f=.nl\/f=.fu)->b=none:=by
   grind
  exact⟨b,0,[],rfl,fun _=>⟨rfl,rfl⟩,Yi _,Y4 _,fun h=>rfl,fun hf ad h=>(by grind),fun h=>hbn (.inl h),Rw.nil,fun j u hu=>(by grind)⟩
 ·cases hel:els with
  | nil=>exact⟨some ⟨blk,off,none⟩,cap,[],by simp,fun h=>(by cases h),by simp,hmax,fun h=>(by rw[hfull h,hel]),fun _ ad h=>(by grind),fun h=>absurd h hf,Rw.nil,fun j u hu=>(by grind)⟩
  | cons r0 rest=>
   have hzz:z0=z:=by
    have h1:=hz0 0 r0 (by grind)
    grind
   subst hzz;rw[<-hel];refine⟨some ⟨blk,off,none⟩,cap,(List.range (els.length*z0)).map fun q=>u (q/z0) (q%z0),rfl,fun h=>(by cases h),hcap,hmax,hfull,fun _ ad h=>(by grind),fun h=>absurd h hf,⟨by simp,fun r hr=>?_,fun v hv=>?_,fun i r j c hi hj=>?_⟩,fun j v hv=>⟨_,rfl,?_⟩⟩
   ·grind[List.getElem?_of_mem]
   ·grind[Nat.div_lt_iff_lt_mul,Nat.mod_lt]
   ·have hjz:j<z0:=by grind
    have hin:=zb1 hi;refine⟨u i j,?_,hcc i r j c hi hj⟩;rw[Yan,List.getElem?_range (zgs hin hjz)];have e1:(i*z0+j)/z0=i:=by grind[Nat.mul_comm,Nat.mul_add_div,Nat.div_eq_of_lt]
    grind[Nat.mul_comm,Nat.mul_add_mod,Nat.mod_eq_of_lt]
   ·rw[Yan]at hv;obtain⟨q,hq,rfl⟩:=map_some hv
    grind[zbc,Nat.div_lt_iff_lt_mul,Nat.mod_lt,Nat.div_add_mod]
def Zbt.rows{bx:Box}{k:Nat}(hb:Zbt w S M clk bx)(hk:M bx.gen=some (some k))(hkind:bx.kind≠.str)(hkm:bx.kind≠.mp) :
  ∃arr e,w.heap[k]? = some (.cells arr e (0,0))/\bx.els.length*bx.z<=arr.size/\Rw w S bx.z (arr.toList.take (bx.els.length*bx.z)) bx.els:=by
 obtain⟨_,h2,m,hm,h3⟩:=hb;rw[hk]at hm;cases hm;obtain⟨arr,e,hh,hsz,hc,_⟩:=ck' hkm h3;have hzpos:∀q,q<bx.els.length*bx.z->0<bx.z:=by
  grind
 refine⟨arr,e,hh,hsz,by grind,h2,fun u hu=>?_,fun i r j c hi hj=>?_⟩
 ·obtain⟨q,hq⟩:=Yae hu;rw[Yak]at hq;split at hq
  ·rename_i hlt;have hzp:=hzpos q hlt;have hi:q/bx.z<bx.els.length:=by rw[Ybb hzp];omega
   have hr:bx.els[q/bx.z]? = some (bx.els[q/bx.z]'hi):=Ya hi;have hrl:=h2 _ (Yc hr);have hjl:q%bx.z<(bx.els[q/bx.z]'hi).length:=by rw[hrl];exact Ybh _ hzp
   obtain⟨u',hu',h1,_⟩:=hc _ _ _ _ hr (Ya hjl)
   grind[Nat.div_add_mod]
  grind
 grind[zgs]
def Zbt.of_rows{bx:Box}{k:Nat}{arr:Array Value}{e:TypeId}(hg:bx.gen<clk)(hk:M bx.gen=some (some k))(hh:w.heap[k]? = some (.cells arr e (0,0)))
  (hr:Rw w S bx.z (arr.toList.take (bx.els.length*bx.z)) bx.els) (hsz:bx.els.length*bx.z<=arr.size) (hS:∀o,S k o->bx.kind=.sh/\o<bx.els.length*bx.z) (hkm:bx.kind≠.mp):Zbt w S M clk bx:=by
 refine⟨hg,hr.row,some k,hk,ck hkm ⟨arr,e,hh,hsz,fun i r j c hi hj=>?_,fun hne o hs=>hne (hS o hs).1,fun o hs=>(hS o hs).2⟩⟩;obtain⟨u,hu,hC⟩:=hr.cell i r j c hi hj;have h1:=hr.one u (Yc hu);rw[Yak]at hu;split at hu
 ·exact⟨u,by grind,h1,.p hC,fun _=>hC⟩
 grind
def zgt{t ty e:TypeId}{inf:TypeInfo}(ht:P.underlying t=some (.slice e))(hi:P.info? e=some inf){b yb:Option Addr}{n cap c:Nat}(hn:n<=cap) :
  (Builtin.append_ #[t,t] ty #[.slice b n cap,.slice yb 0 c]).run P w=.ok (.slice b n cap) w:=by
 cases b<;>cases yb<;>simp[Builtin.append_,run_underlying ht,sizeOf,typeInfo,hi,Builtin.lenOf,hn,Builtin.firstCells,loadCells,loadCellsFrom,storeCells]
theorem zjz{t ty e e':TypeId}{inf:TypeInfo}(ht:P.underlying t=some (.slice e))(hi:P.info? e=some inf)
  {g sLen sCap:Nat} {cur:Array Value} (hg:w.heap[g]? = some (.cells cur e' (0,0)))
  {ad:Addr} {m c:Nat} {news:List Value} (hl:news.length=m*inf.size) (hnews:∀j u,news[j]? = some u->w.cell? (ad.add j)=some u) (h1:∀u∈news,u.oneCell'=true)
  (hroom:sLen+m<=sCap) (hfit:sLen*inf.size+news.length<=cur.size) :
  (Builtin.append_ #[t,t] ty #[.slice (some ⟨g,0,none⟩) sLen sCap,.slice (some ad) m c]).run P w =
   .ok (.slice (some ⟨g,0,none⟩) (sLen+m) sCap) (w.setRow g (cur.toList.take (sLen*inf.size)++news++cur.toList.drop (sLen*inf.size+news.length)).toArray):=by
 have hf:=run_firstCells_some (P:=P) w inf.size m ad m c news hl hnews;have hst:=run_storeCells_at P g (sLen*inf.size) e' news 0 cur w hg (by omega) h1;have e1:(⟨g,0,none⟩:Addr).add (sLen*inf.size)=⟨g,sLen*inf.size,none⟩:=by rw[zbc,Yar]
 simp[Builtin.append_,run_underlying ht,sizeOf,typeInfo,hi,Builtin.lenOf,hroom,hf,e1,hst]
end
end
section
open Go.RowKit
def Zik(z:Nat)(els:List (List AV)):Bool:=els.head?.all fun r=>r.length=z
def rowOf(h:Heap)(z:Nat):AV->Option (List (List AV))
 | .sl els _=>if Zik z els then some els else none
 | .bs id g z' off n=>(Zac h id g z').bind fun bx=>if z'=z/\bx.kind≠.str/\off+n<=bx.els.length then some ((bx.els.drop off).take n) else none
 | _=>none
def Zhm(z:Nat)(d:Option Nat)(h:Heap)(clk:Nat)(x:AV)(ys:List (List AV)):Option (AV×Heap×Nat):=
 match x with
 | .sl els f=>
  d.bind fun d=>
   if (f=.nl\/f=.fu)/\Zik z els=true/\(els.isEmpty=true\/ys.isEmpty=false)/\(els.length+ys.length<=4294967296\/z=3/\els.length+ys.length<=2513169434916) then
    some (.bs (.loc d) clk z 0 (els.length+ys.length),(.loc d,⟨clk,.own,z,els++ys⟩)::h,clk+1)
   else none
 | .bs id g z' off n=>
  (Zac h id g z').bind fun bx=>
   if z'=z/\off=0/\bx.kind≠.str/\n<=bx.els.length/\(bx.kind=.sh->n=bx.els.length)/\(n+ys.length<=4294967296\/z=3/\n+ys.length<=2513169434916) then
    some (.bs id clk z 0 (n+ys.length),(id,⟨clk,bx.kind,z,bx.els.take n++ys⟩)::h,clk+1)
   else none
 | _=>none
def Zh2(z:Nat)(d:Option Nat)(h:Heap)(clk:Nat)(x y:AV):Option (AV×Heap×Nat):=
 (rowOf h z y).bind fun ys=>Zhm z d h clk x ys
section
variable{P:Program}{cx:Cx}{w w':World}{S S':Nat->Nat->Prop}{M:Map}{clk:Nat}{h:Heap}{ρ:Nat->AV}{a:Act}
def Zna(w:World)(S:Nat->Nat->Prop)(z:Nat)(v:Value)(els:List (List AV)):Prop:=
 ∃(b:Option Addr) (cap:Nat) (vs:List Value),v=.slice b els.length cap/\Rw w S z vs els/\∀j u,vs[j]? = some u->∃ad,b=some ad/\w.cell? (ad.add j)=some u
def Rw.drop{z:Nat}{vs:List Value}{els:List (List AV)}(h1:Rw w S z vs els)(n:Nat):Rw w S z (vs.drop (n*z)) (els.drop n):=by
 refine⟨?_,fun r hr=>h1.row r (Yb9 hr),fun u hu=>h1.one u (Yb9 hu),fun i r j c hi hj=>?_⟩
 ·rw[Ybp,Ybp,h1.len,Nat.sub_mul]
 ·rw[Yaq]at hi;obtain⟨u,hu,hC⟩:=h1.cell _ r j c hi hj
  grind
def zky{z:Nat}{els:List (List AV)}(hz:Zik z els=true):∀r∈els.head?,r.length=z:=by
 intro r hr;unfold Zik at hz
 simp_all
def zj0{v:Value}{x:AV}{z:Nat}{els:List (List AV)}(hh:HeapRel w S M clk h)(hv:C w S M clk v x)(hr:rowOf h z x=some els):Zna w S z v els:=by
 cases x<;>simp only[rowOf]at hr<;>try cases hr
 case sl es f=>
  split at hr<;>cases hr;rename_i hz;obtain⟨b,cap,vs,hv,_,_,_,_,_,_,hrw,hc⟩:=hv.inv_sl.rows (zky hz);exact⟨b,cap,vs,hv,hrw,hc⟩
 case bs id g z' off n=>
  obtain⟨bx,hb,hr1⟩:=bind_some hr;split at hr1<;>cases hr1;rename_i hc;obtain⟨rfl,hk,hle⟩:=hc;obtain⟨hlk,hg,hz⟩:=zaq hb;obtain⟨_,hbs,_⟩:=hv.inv_bs;have hbox:=hh.box id bx hlk;obtain⟨m,hm⟩:∃m,M bx.gen=some m:=let ⟨_,_,m,hm,_⟩:=hbox;⟨m,hm⟩
  rw[hg]at hm;rw[hm]at hbs;have hlen:((bx.els.drop off).take n).length=n:=by grind
  cases m with
  | none=>
   obtain⟨rfl,rfl,ad,rfl,_⟩:=hbs;exact⟨ad,0,[],by simp,by simpa using Rw.nil,fun j u hu=>by grind⟩
  | some k=>
   obtain⟨arr,ty,cap,hblk,rfl,hnc,hcm,harr⟩:=hbs;obtain⟨arr',e',hh',hsz,hrw⟩:=hbox.rows (by rw[hg];exact hm) hk (zcl hb);rw[hblk]at hh';rw[hz]at hrw hsz;refine⟨some ⟨k,off*z',none⟩,cap,_,by rw[hlen],(hrw.drop off).take n,fun j u hu=>⟨_,rfl,?_⟩⟩
   grind[zbc,cell_of_row]
def zao(w:World)(o:Obj):Below w.heap.size w (w.alloc o):=(Below.refl _ _).alloc (Yi _) o
def Znb(P:Program)(cx:Cx)(o:Oper)(ρ:Nat->AV)(a:Act)(w:World)(x:AV)(h':Heap)(clk':Nat):Prop:=
 ∃v w' S' M',((execOp a.eval o).run P w=.ok (.value v) w'\/((execOp a.eval o).run P w=.ok .skip w'/\v=undef))/\RelF cx S' M' clk' h' ρ a w'/\C w' S' M' clk' v x
def zqk{vs us:List Value}{n:Nat}(hl:vs.length=n):((vs++us).take n)=vs:=by
 rw[<-hl,List.take_left]
def znf(hr:RelF cx S M clk h ρ a w){id:BId}{bx:Box}{w1:World}{vs us:List Value}{e:TypeId}{cap:Nat}(hw1:w1.heap=w.heap/\w1.os=w.os/\w1.tape=w.tape/\w1.output=w.output)(hg:bx.gen=clk)
  (hkm:bx.kind≠.mp) (hrw:Rw w S bx.z vs bx.els) (hcap:bx.els.length<=cap) (hmax:cap<=maxLen) (hsz:vs.length+us.length=cap*bx.z) :
  ∃M',RelF cx S M' (clk+1) ((id,bx)::h) ρ a (w1.alloc (.cells (vs++us).toArray e))/\C (w1.alloc (.cells (vs++us).toArray e)) S M' (clk+1) (.slice (some ⟨w.heap.size,0,none⟩) bx.els.length cap) (.bs id clk bx.z 0 bx.els.length):=by
 have hbl:Below w.heap.size w (w1.alloc (.cells (vs++us).toArray e)):=by
  refine⟨hw1.2.1,hw1.2.2.1,hw1.2.2.2,?_,fun k hk=>?_⟩
  ·simp_all
  grind[heap_alloc_old]
 have hnew:(w1.alloc (.cells (vs++us).toArray e)).heap[w.heap.size]? = some (.cells (vs++us).toArray e (0,0)):=by
  grind[heap_alloc_new]
 have hx:∀k o u,S k o->w.cell? ⟨k,o,none⟩=some u->(w1.alloc (.cells (vs++us).toArray e)).cell? ⟨k,o,none⟩=some u:=by
  intro k o u hs hc;rw[hbl.cell (p:=⟨k,o,none⟩) (hr.wr.Slt k o hs)];omega
 have hlen:=hrw.len;refine⟨Zch M ((id,bx)::h) bx.gen (some w.heap.size),hr.set (k':=some w.heap.size) (Ybf _) (.inl hg) (fun hlt=>by omega) (Touch.of_below hbl) (fun k hk=>?_) ?_,?_⟩
 ·grind
 ·refine Zbt.of_rows (by omega) (zam _ _ _ _) hnew ?_ (by grind) (fun o hs=>?_) hkm
  ·have:(vs++us).toArray.toList.take (bx.els.length*bx.z)=vs:=by grind
   rw[this];exact hrw.mono (fun _ _ hs=>hs) hx
  ·have:=hr.wr.Slt _ _ hs;omega
 ·refine .bs _ _ _ _ _ _ (by omega) ?_ rfl
  grind[Zfc,zam]
def zev{n:Nat}{w:World}{old:Nat}{e:TypeId}(hn:n<=2513169434916):n<=grownCap w n old e/\grownCap w n old e<=maxLen:=
 ⟨grownCap_ge w n old e,grownCap_le_maxLen w n old e (by simp only[maxLen];omega)⟩
structure SrcOk (P:Program) (w:World) (t tu ty e:TypeId) (inf:TypeInfo) (zv sv:Value) (m:Nat) (news:List Value):Prop where
 zero:m=0->∀(b:Option Addr) (n cap:Nat),n<=cap->(Builtin.append_ #[t,tu] ty #[.slice b n cap,sv]).run P w=.ok (.slice b n cap) w
 room:m≠0->∀(g sLen sCap:Nat) (cur:Array Value) (e':TypeId),w.heap[g]? = some (.cells cur e' (0,0))->sLen+m<=sCap->sLen*inf.size+news.length<=cur.size ->
  (Builtin.append_ #[t,tu] ty #[.slice (some ⟨g,0,none⟩) sLen sCap,sv]).run P w=.ok (.slice (some ⟨g,0,none⟩) (sLen+m) sCap) (w.setRow g (cur.toList.take (sLen*inf.size)++news++cur.toList.drop (sLen*inf.size+news.length)).toArray)
 grow:m≠0->∀(b:Addr) (sLen sCap:Nat) (olds:List Value),olds.length=sLen*inf.size->(∀j v,olds[j]? = some v->w.cell? (b.add j)=some v)->sCap<sLen+m->((sLen+m:Nat):Int)<=9223372036854775807 ->
  Builtin.nextslicecap (sLen+m) sCap*inf.bytes<=281474976710656 ->
  (Builtin.append_ #[t,tu] ty #[.slice (some b) sLen sCap,sv]).run P w=.ok (.slice (some ⟨w.heap.size,0,none⟩) (sLen+m) (grownCap w (sLen+m) sCap e))
   (w.drew.alloc (.cells (olds.toArray++news.toArray++Builtin.zeroCells zv.cells (grownCap w (sLen+m) sCap e-(sLen+m))) e))
 first:m≠0->(m:Int)<=9223372036854775807->m*inf.bytes<=140737488355328 ->
  (Builtin.append_ #[t,tu] ty #[.slice none 0 0,sv]).run P w=.ok (.slice (some ⟨w.heap.size,0,none⟩) m (grownCap w m 0 e))
   (w.drew.alloc (.cells (news.toArray++Builtin.zeroCells zv.cells (grownCap w m 0 e-m)) e))
theorem ziu{t tu e ty:TypeId}{inf:TypeInfo}{z:Nat}{d:Option Nat}{v sv:Value}{x r:AV}{ys:List (List AV)}{news:List Value}{h':Heap}{clk':Nat}{zv:Value}(hr:RelF cx S M clk h ρ a w)
  (_hz0:inf.size≠0) (hby:inf.bytes<=32768) (hb3:inf.size=3->inf.bytes<=56) (hzs:zv.cells.size=inf.size) (hz:inf.size=z)
  (hv:C w S M clk v x) (src:SrcOk P w t tu ty e inf zv sv ys.length news) (hnrw:Rw w S inf.size news ys) (hs1:Zhm z d h clk x ys=some (r,h',clk')) :
  ∃v' w' S' M',(Builtin.append_ #[t,tu] ty #[v,sv]).run P w=.ok v' w'/\RelF cx S' M' clk' h' ρ a w'/\C w' S' M' clk' v' r:=by
 subst hz;unfold Zhm at hs1;have bytes:∀n,(n<=4294967296\/inf.size=3/\n<=2513169434916)->n*inf.bytes<=140737488355328:=fun n hn=>by
  rcases hn with hn | ⟨h1,hn⟩
  ·have:=Yc8 hn hby;omega
  ·have:=Yc8 hn (hb3 h1);omega
 -- growth: the old cells,the new ones,a new block
 have grow:∀(b:Addr) (n cap:Nat) (olds:List Value) (els:List (List AV)) (id:BId) (kind:Kind),els.length=n->kind≠.str/\kind≠.mp->Rw w S inf.size olds els->(∀j q,olds[j]? = some q->w.cell? (b.add j)=some q)->cap<n+ys.length->(n+ys.length<=4294967296\/inf.size=3/\n+ys.length<=2513169434916)->ys.length≠0 ->
   ∃v' w' S' M',(Builtin.append_ #[t,tu] ty #[.slice (some b) n cap,sv]).run P w=.ok v' w'/\RelF cx S' M' (clk+1) ((id,⟨clk,kind,inf.size,els++ys⟩)::h) ρ a w'/\C w' S' M' (clk+1) v' (.bs id clk inf.size 0 (n+ys.length)):=by
  intro b n cap olds els id kind hn hkind hrw hoc hcap hbd hm;have hrun:=src.grow hm b n cap olds (by rw[hrw.len,hn]) hoc hcap (by omega) (growslice_fits hcap (bytes _ hbd));obtain⟨g1,g2⟩:=zev (n:=n+ys.length) (w:=w) (old:=cap) (e:=e) (by omega);have hz1:(Builtin.zeroCells zv.cells (grownCap w (n+ys.length) cap e-(n+ys.length))).size=(grownCap w (n+ys.length) cap e-(n+ys.length))*inf.size:=by rw[size_zeroCells,hzs]
  obtain⟨M',h1,h2⟩:=znf hr (id:=id) (bx:=⟨clk,kind,inf.size,els++ys⟩) (w1:=w.drew) (vs:=olds++news) (us:=(Builtin.zeroCells zv.cells (grownCap w (n+ys.length) cap e-(n+ys.length))).toList) (e:=e) (cap:=grownCap w (n+ys.length) cap e)
   ⟨rfl,rfl,rfl,rfl⟩ rfl hkind.2 (hrw.append hnrw) (by grind) g2 (by
    have hzl:(Builtin.zeroCells zv.cells (grownCap w (n+ys.length) cap e-(n+ys.length))).toList.length=(grownCap w (n+ys.length) cap e-(n+ys.length))*inf.size:=by omega
    rw[Yq,hrw.len,hnrw.len,hzl,hn,<-Yby,<-Yby]
    grind)
  refine⟨_,_,S,M',hrun,?_,?_⟩
  ·have e1:olds.toArray++news.toArray++Builtin.zeroCells zv.cells (grownCap w (n+ys.length) cap e-(n+ys.length))=((olds++news)++(Builtin.zeroCells zv.cells (grownCap w (n+ys.length) cap e-(n+ys.length))).toList).toArray:=by
    grind
   grind
  ·have e1:olds.toArray++news.toArray++Builtin.zeroCells zv.cells (grownCap w (n+ys.length) cap e-(n+ys.length))=((olds++news)++(Builtin.zeroCells zv.cells (grownCap w (n+ys.length) cap e-(n+ys.length))).toList).toArray:=by
    grind
   grind
 -- the first cells,a new block
 have first:∀(id:BId) (kind:Kind),kind≠.mp->ys.length≠0->(ys.length<=4294967296\/inf.size=3/\ys.length<=2513169434916) ->
   ∃v' w' S' M',(Builtin.append_ #[t,tu] ty #[.slice none 0 0,sv]).run P w=.ok v' w'/\RelF cx S' M' (clk+1) ((id,⟨clk,kind,inf.size,ys⟩)::h) ρ a w'/\C w' S' M' (clk+1) v' (.bs id clk inf.size 0 ys.length):=by
  intro id kind hkm hm hbd;have hrun:=src.first hm (by omega) (bytes _ hbd);obtain⟨g1,g2⟩:=zev (n:=ys.length) (w:=w) (old:=0) (e:=e) (by omega);have hz1:(Builtin.zeroCells zv.cells (grownCap w ys.length 0 e-ys.length)).toList.length=(grownCap w ys.length 0 e-ys.length)*inf.size:=by grind[size_zeroCells]
  obtain⟨M',h1,h2⟩:=znf hr (id:=id) (bx:=⟨clk,kind,inf.size,ys⟩) (w1:=w.drew) (vs:=news) (us:=(Builtin.zeroCells zv.cells (grownCap w ys.length 0 e-ys.length)).toList) (e:=e) (cap:=grownCap w ys.length 0 e)
   ⟨rfl,rfl,rfl,rfl⟩ rfl hkm hnrw g1 g2 (by
    rw[hnrw.len,hz1,<-Yby]
    grind)
  have e1:news.toArray++Builtin.zeroCells zv.cells (grownCap w ys.length 0 e-ys.length)=(news++(Builtin.zeroCells zv.cells (grownCap w ys.length 0 e-ys.length)).toList).toArray:=by
   grind
  grind
 -- nothing,no block yet
 have none0:∀(id:BId) (kind:Kind) (b:Option Addr),kind≠.str/\kind≠.mp->ys=[]->(∀ad,b=some ad->ad.spot=none) ->
   ∃v' w' S' M',(Builtin.append_ #[t,tu] ty #[.slice b 0 0,sv]).run P w=.ok v' w'/\RelF cx S' M' (clk+1) ((id,⟨clk,kind,inf.size,[]⟩)::h) ρ a w'/\C w' S' M' (clk+1) v' (.bs id clk inf.size 0 0):=by
  intro id kind b hkind hy0 hsp;subst hy0;refine⟨.slice b 0 0,w,S,Zch M ((id,⟨clk,kind,inf.size,[]⟩)::h) clk none,src.zero rfl b 0 0 (Yi _),?_,?_⟩
  ·refine hr.set (bx':=⟨clk,kind,inf.size,[]⟩) (k':=none) (Ybf _) (.inl rfl) (fun hlt=>absurd hlt (Ya6 _)) (Touch.of_below (Below.refl _ _)) (fun k hk=>by grind) ?_;exact⟨Y1 _,fun r hr=>by grind,none,zam _ _ _ _,rfl,hkind⟩
  ·refine .bs _ _ _ _ _ _ (Y1 _) ?_ rfl
   grind[Zfc,zam]
 cases x<;>simp only at hs1<;>try (cases hs1;done)
 case sl els f=>
  obtain⟨d',hd,hs2⟩:=bind_some hs1;split at hs2<;>cases hs2;rename_i hc;obtain⟨hf,hz,hempty,hbd⟩:=hc;obtain⟨b,cap,vs,rfl,hbn,hlc,hcm,hfu,hsp,hnl,hrw,hcs⟩:=hv.inv_sl.rows (zky hz);by_cases hy0:ys=[]
  ·have he0:els=[]:=by
    grind
   have hcap0:cap=0:=by
    grind
   simp_all
  ·have hm:ys.length≠0:=by grind
   cases b with
   | none=>
    simp_all
   | some ad=>
    have hfu':cap=els.length:=by
     grind
    exact grow ad els.length cap vs els (.loc d') .own rfl (by simp) hrw (fun j q hq=>by grind) (by omega) hbd hm
 case bs id g z' off n=>
  obtain⟨bx,hb,hs2⟩:=bind_some hs1;split at hs2<;>cases hs2;rename_i hc;obtain⟨rfl,rfl,hkind0,hnle,hsh,hbd⟩:=hc;have hkind:bx.kind≠.str/\bx.kind≠.mp:=⟨hkind0,zcl hb⟩;obtain⟨hlk,hg,hz⟩:=zaq hb;obtain⟨_,hbs,_⟩:=hv.inv_bs;have hbox:=hr.wr.heap.box id bx hlk;obtain⟨m,hm0,hm1⟩:∃m,M bx.gen=some m/\(m=none->bx.els=[]):=by
   obtain⟨_,_,m,hm,h3⟩:=hbox
   grind
  have hm0':=hm0;rw[hg]at hm0;rw[hm0]at hbs;cases m with
  | none=>
   obtain⟨rfl,_,b,rfl,hsp⟩:=hbs;have hel:=hm1 rfl;simp only[Yar];by_cases hy0:ys=[]
   ·have:=none0 id bx.kind b hkind hy0 hsp
    grind
   ·have hm:ys.length≠0:=by grind
    cases b with
    | none=>exact first id bx.kind hkind.2 hm (by omega)
    | some ad=>
     have:=grow ad 0 0 [] [] id bx.kind rfl hkind Rw.nil (fun j q hq=>by grind) (by omega) hbd hm
     grind
  | some k=>
   obtain⟨arr,ty0,cap,hblk,rfl,hnc,hcm,harr⟩:=hbs;obtain⟨arr',e',hh',hsz,hrw⟩:=hbox.rows hm0' hkind0 hkind.2;rw[hblk]at hh';cases hh';rw[hz]at hrw hsz;simp only[Yc9,Yar]at harr ⊢;have htl:(arr.toList.take (bx.els.length*inf.size)).take (n*inf.size)=arr.toList.take (n*inf.size):=by
    grind[Nat.mul_le_mul_right]
   have hrwn:=hrw.take n;rw[htl]at hrwn;have hntl:(bx.els.take n).length=n:=by grind
   have hSk:∀o,S k o->bx.kind=.sh/\o<n*inf.size:=by
    obtain⟨_,_,m,hmm,h3⟩:=hbox;rw[hm0']at hmm;cases hmm;obtain⟨_,_,_,_,_,h4,h5⟩:=ck' hkind.2 h3;intro o hs;have h6:=h5 o hs;have h7:bx.kind=.sh:=Classical.byContradiction fun hne=>h4 hne o hs;exact⟨h7,by rw[hsh h7,<-hz];exact h6⟩
   by_cases hy0:ys=[]
   ·subst hy0;simp only[Yam,Yaa,Ybg];refine⟨_,w,S,Zch M ((id,⟨clk,bx.kind,inf.size,bx.els.take n⟩)::h) clk (some k),src.zero rfl _ _ _ hnc,?_,?_⟩
    ·refine hr.set (bx':=⟨clk,bx.kind,inf.size,bx.els.take n⟩) (k':=some k) (touched:=some k) (Ybf _) (.inl rfl) (fun hlt=>absurd hlt (Ya6 _))
      ⟨rfl,rfl,rfl,Yi _,fun _ _ _=>rfl,fun k' hk'=>⟨bx,hlk,by grind⟩,fun _ _ _ _ _ hc=>hc,fun _ arr e _ hb=>⟨arr,hb,rfl⟩⟩ (fun k' hk'=>.inr hk') ?_
     refine Zbt.of_rows (Y1 _) (zam _ _ _ _) hblk ?_ ?_ (fun o hs=>?_) hkind.2
     all_goals grind[Nat.mul_le_mul_right]
    ·refine .bs _ _ _ _ _ _ (Y1 _) ?_ rfl
     grind[Zfc,zam]
   ·have hm:ys.length≠0:=by grind
    by_cases hroom:n+ys.length<=cap
    ·have hfit:n*inf.size+news.length<=arr.size:=by rw[hnrw.len,<-Yby];exact Yd (Y2 _ hroom) harr
     have hrun:=src.room hm k n cap arr ty0 hblk hroom hfit;have hnl:(arr.toList.take (n*inf.size)).length=n*inf.size:=by grind
     generalize hnew:(arr.toList.take (n*inf.size)++news++arr.toList.drop (n*inf.size+news.length)).toArray=new at hrun;have hnsz:new.size=arr.size:=by grind
     have hh2:(w.setRow k new).heap[k]? = some (.cells new ty0 (0,0)):=setRow_heap w k arr new ty0 (0,0) hblk;have hcell:∀k' o u,S k' o->w.cell? ⟨k',o,none⟩=some u->(w.setRow k new).cell? ⟨k',o,none⟩=some u:=by
      intro k' o u hs hc;by_cases hkk:k'=k
      ·subst hkk;obtain⟨_,ho⟩:=hSk o hs;rw[cell_of_row w k' o arr ty0 (0,0) hblk]at hc;rw[cell_of_row _ k' o new ty0 (0,0) hh2,<-hnew,<-hc]
       grind
      grind[World.cell?_of_block,setRow_other]
     have htk:new.toList.take ((n+ys.length)*inf.size)=arr.toList.take (n*inf.size)++news:=by
      rw[<-hnew];refine zqk ?_;rw[Yq,hnl,hnrw.len,Yby]
     have hbl:(bx.els.take n++ys).length=n+ys.length:=by grind
     refine⟨_,_,S,Zch M ((id,⟨clk,bx.kind,inf.size,bx.els.take n++ys⟩)::h) clk (some k),hrun,?_,?_⟩
     ·refine hr.set (bx':=⟨clk,bx.kind,inf.size,bx.els.take n++ys⟩) (k':=some k) (touched:=some k) (Ybf _) (.inl rfl) (fun hlt=>absurd hlt (Ya6 _))
       ⟨rfl,rfl,rfl,by simp,fun k' _ hne=>setRow_other w k k' new (fun e=>hne (by rw[e])),fun k' hk'=>⟨bx,hlk,by grind⟩,fun k' o u hk' hs hc=>hcell k' o u hs hc,fun k' arr1 e1 hk' hb1=>by
        grind⟩ (fun k' hk'=>.inr hk') ?_
      refine Zbt.of_rows (Y1 _) (zam _ _ _ _) hh2 ?_ ?_ (fun o hs=>?_) hkind.2
      ·simp only[hbl,htk];exact(hrwn.append hnrw).mono (fun _ _ hs=>hs) hcell
      ·simp only[hbl]
       grind[Nat.le_trans,Nat.mul_le_mul_right]
      ·obtain⟨h1,h2⟩:=hSk o hs;refine⟨h1,?_⟩;simp only[hbl]
       grind
     ·refine .bs _ _ _ _ _ _ (Y1 _) ?_ rfl
      grind[Zfc,zam]
    ·exact grow ⟨k,0,none⟩ n cap (arr.toList.take (n*inf.size)) (bx.els.take n) id bx.kind hntl hkind hrwn (fun j q hq=>by
      grind[zbc,cell_of_row]) (by omega) hbd hm
def zkz{t e ty:TypeId}{inf:TypeInfo}{zv:Value}{yb:Option Addr}{m ycap:Nat}{news:List Value}(ht:P.underlying t=some (.slice e))(hi:P.info? e=some inf)(hz0:inf.size≠0)(hzv:inf.zero=some zv)
  (hlen:news.length=m*inf.size) (h1:∀u∈news,u.oneCell'=true) (hnc:∀j u,news[j]? = some u->∃ad,yb=some ad/\w.cell? (ad.add j)=some u) :
  SrcOk P w t t ty e inf zv (.slice yb m ycap) m news:=by
 have hyb:m≠0->∃ad,yb=some ad/\∀j q,news[j]? = some q->w.cell? (ad.add j)=some q:=by
  intro hne;have h0:0<news.length:=by rw[hlen];exact Nat.mul_pos (Yal hne) (Yal hz0)
  obtain⟨ad,had,_⟩:=hnc 0 _ (Ya h0)
  grind
 refine⟨fun h b n cap hn=>?_,fun hm g sLen sCap cur e' hg hroom hfit=>?_,fun hm b sLen sCap olds hlo holds hg h63 hfit=>?_,fun hm h63 hb=>?_⟩
 ·subst h;exact zgt ht hi hn
 ·grind[zjz]
 ·obtain⟨ad,rfl,hnews⟩:=hyb hm;exact run_append_grow (P:=P) w t ty e inf zv ht hi hzv b sLen sCap olds hlo holds ad m ycap news hlen hnews hg h63 hfit
 grind[run_append_nil]
def zsy{t e ty:TypeId}{inf:TypeInfo}{z:Nat}{d:Option Nat}{v u:Value}{x y r:AV}{h':Heap}{clk':Nat}{zv:Value}(hr:RelF cx S M clk h ρ a w)(ht:P.underlying t=some (.slice e))(hi:P.info? e=some inf)
  (hz0:inf.size≠0) (hby:inf.bytes<=32768) (hb3:inf.size=3->inf.bytes<=56) (hzv:inf.zero=some zv) (hzs:zv.cells.size=inf.size) (hz:inf.size=z)
  (hv:C w S M clk v x) (hu:C w S M clk u y) (hs:Zh2 z d h clk x y=some (r,h',clk')) :
  ∃v' w' S' M',(Builtin.append_ #[t,t] ty #[v,u]).run P w=.ok v' w'/\RelF cx S' M' clk' h' ρ a w'/\C w' S' M' clk' v' r:=by
 obtain⟨ys,hys,hs1⟩:=bind_some hs;obtain⟨yb,ycap,news,rfl,hnrw,hnc⟩:=zj0 hr.wr.heap hu hys;subst hz;exact ziu hr hz0 hby hb3 hzs rfl hv (zkz ht hi hz0 hzv hnrw.len hnrw.one hnc) hnrw hs1
end
end
section
open Go.RowKit
def Zet(zs:List AV)(d:Option Nat)(h:Heap)(clk:Nat):Option (AV×Heap×Nat):=
 d.map fun d=>(.ptr (.loc d) clk zs.length 0 0,(.loc d,⟨clk,.str,zs.length,[zs]⟩)::h,clk+1)
def Zbf(n:Nat)(h:Heap)(x v:AV):Option Heap:=
 match x with
 | .ptr id g z i o=>
  (Zac h id g z).bind fun bx=>(bx.els[i]?).bind fun r=>(cellsOf v).bind fun cs=>
   if cs.length=n/\o+n<=r.length/\bx.kind≠.sh/\(bx.kind=.own->cs.all pureC=true) then
    some ((id,⟨g,bx.kind,z,bx.els.set i (r.take o++(cs++r.drop (o+n)))⟩)::h)
   else none
 | _=>none
def Zf9(z:Nat)(zs:List AV)(d:Option Nat)(h:Heap)(clk:Nat)(l c:AV):Option (AV×Heap×Nat):=
 match l,c with
 | .i _ n,.i _ m=>
  d.bind fun d=>
   if 0<=n/\n=m/\n<=4294967296 then some (.bs (.loc d) clk z 0 n.toNat,(.loc d,⟨clk,.own,z,List.replicate n.toNat zs⟩)::h,clk+1) else none
 | _,_=>none
section
variable{P:Program}{cx:Cx}{w w':World}{S S':Nat->Nat->Prop}{M:Map}{clk:Nat}{h:Heap}{ρ:Nat->AV}{a:Act}
def zng{t:TypeId}{zs:List AV}{d:Option Nat}{r:AV}{h':Heap}{clk':Nat}(hr:RelF cx S M clk h ρ a w)(hz:zeros P t=some zs)(hs:Zet zs d h clk=some (r,h',clk')) :
  ∃v' w' S' M',(Instr.alloc t true (.tuple #[])).run P w=.ok v' w'/\RelF cx S' M' clk' h' ρ a w'/\C w' S' M' clk' v' r:=by
 obtain⟨d,rfl,hs1⟩:=map_some hs;cases hs1;obtain⟨z,hz1,_,hz3⟩:=zfa (P:=P) (w:=w) (S:=S) (M:=M) (clk:=clk) hz;have hrun:(Instr.alloc t true (.tuple #[])).run P w=.ok (.pointer (some ⟨w.heap.size,0,none⟩)) (w.alloc (.cells z.cells t)):=by
  simp only[Instr.alloc,Sem.run_bind,hz1,Result.andThen_ok,newVar,newRow,newObj,Sem.run,Sem.run_pure,World.alloc]
 have hbl:=zao w (.cells z.cells t);have hnew:=heap_alloc_new w (.cells z.cells t);have hlen:z.cells.size=zs.length:=by have:=hz3.1;omega
 refine⟨_,_,S,Zch M ((.loc d,⟨clk,.str,zs.length,[zs]⟩)::h) clk (some w.heap.size),hrun,?_,?_⟩
 ·have hx:=Ext.set (id:=.loc d) (bx':=⟨clk,.str,zs.length,[zs]⟩) (k':=some w.heap.size) (clk':=clk+1) hr.wr (Ybf _) (fun hlt=>absurd hlt (Ya6 _)) (Touch.of_below (id:=.loc d) hbl);refine hr.set (bx':=⟨clk,.str,zs.length,[zs]⟩) (k':=some w.heap.size) (Ybf _) (.inl rfl) (fun hlt=>absurd hlt (Ya6 _)) (Touch.of_below hbl) (fun k hk=>?_) ?_
  ·grind
  ·refine⟨Y1 _,fun r hr=>by grind,some w.heap.size,zam _ _ _ _,ck (by simp) ⟨_,t,hnew,by grind,fun i r j c hi hj=>?_,fun _ o hs=>?_,fun o hs=>?_⟩⟩
   ·cases i with
    | succ i=>grind
    | zero=>
     simp at hi;subst hi;have hv:z.cells.toList[j]? = some (z.cells.toList[j]'(by grind)):=Ya _;refine⟨_,by simp,hz3.2.1 j _ hv,(hz3.2.2 j _ c hv hj).mono hx,fun hne=>absurd rfl hne⟩
   ·have:=hr.wr.Slt _ _ hs;omega
   ·have:=hr.wr.Slt _ _ hs;omega
 ·refine .ptr _ _ _ _ _ _ (Y1 _) ?_ rfl;unfold Zc1;rw[zam];simp
def znh{t:TypeId}{n:Nat}{v u:Value}{x y:AV}{h':Heap}(hr:RelF cx S M clk h ρ a w)(hn:Zaq P t=some n)(hv:C w S M clk v x)(hu:C w S M clk u y)(hs:Zbf n h x y=some h') :
  ∃w' S' M',(Instr.storeAt t v u).run P w=.ok () w'/\RelF cx S' M' clk h' ρ a w':=by
 cases x<;>simp only[Zbf]at hs<;>try (cases hs;done)
 case ptr id g z i o=>
  obtain⟨bx,hb,hs1⟩:=bind_some hs;obtain⟨r,hri,hs2⟩:=bind_some hs1;obtain⟨cs,hcs,hs3⟩:=bind_some hs2;split at hs3<;>cases hs3;rename_i hc;obtain⟨hcn,hle,hksh,hpure⟩:=hc;obtain⟨hlk,hg,hz⟩:=zaq hb;subst hg;subst hz;have hbox:=hr.wr.heap.box id bx hlk;have hbox':=hbox;obtain⟨hgc,hrows,m,hm,h3⟩:=hbox';cases m with
  | none=>grind
  | some k=>
   have hkm:=zcl hb;obtain⟨arr,ty,hh,hsz,hcells,hown,hlt⟩:=ck' hkm h3;have hpo:=hv.inv_ptr.2.1;unfold Zc1 at hpo;rw[hm]at hpo;subst hpo;obtain⟨hus,huo,huc⟩:=ze5 hu hcs;have hil:=zb1 hri;have hbase:i*bx.z+bx.z<=arr.size:=by
    have:(i+1)*bx.z<=bx.els.length*bx.z:=Y2 _ hil
    grind
   have hone:∀q∈u.cells.toList,q.oneCell'=true:=by
    grind[List.getElem?_of_mem]
   have hfit:i*bx.z+o+u.cells.toList.length<=arr.size:=by grind
   have hst:=run_storeCells_at P k (i*bx.z+o) ty u.cells.toList 0 arr w hh (by omega) hone;generalize hnew:(arr.toList.take (i*bx.z+o)++u.cells.toList++arr.toList.drop (i*bx.z+o+u.cells.toList.length)).toArray=new at hst;have hrun:(Instr.storeAt t (.pointer (some ⟨k,i*bx.z+o,none⟩)) u).run P w=.ok () (w.setRow k new):=by
    have h1:¬ (u.cells.size≠n):=by omega
    simp only[Instr.storeAt,Instr.sureAddr,Sem.run_bind,Sem.run_pure,Result.andThen_ok,storeVar,zb4 hn,h1,if_false,hst]
   have hh2:(w.setRow k new).heap[k]? = some (.cells new ty (0,0)):=setRow_heap w k arr new ty (0,0) hh;have hS:∀q,¬ S k q:=hown hksh;have hcell:∀k' o u,S k' o->w.cell? ⟨k',o,none⟩=some u->(w.setRow k new).cell? ⟨k',o,none⟩=some u:=by
    grind[World.cell?_of_block,setRow_other]
   have ht:Touch w (w.setRow k new) S M h id (some k):=
    ⟨rfl,rfl,rfl,by simp,fun k' _ hne=>setRow_other w k k' new (fun e=>hne (by rw[e])),fun k' hk'=>⟨bx,hlk,by grind⟩,fun k' o u hk' hs hc=>hcell k' o u hs hc,fun k' arr1 e1 hk' hb1=>by
     grind⟩
   have hx:=Ext.set (bx':=⟨bx.gen,bx.kind,bx.z,bx.els.set i (r.take o++(cs++r.drop (o+n)))⟩) (k':=some k) (clk':=clk) hr.wr (Yi _) (fun _=>hm) ht;refine⟨_,S,Zch M ((id,⟨bx.gen,bx.kind,bx.z,bx.els.set i (r.take o++(cs++r.drop (o+n)))⟩)::h) bx.gen (some k),hrun,?_⟩;refine hr.set (bx':=⟨bx.gen,bx.kind,bx.z,bx.els.set i (r.take o++(cs++r.drop (o+n)))⟩) (k':=some k) (touched:=some k) (Yi _) (.inr ⟨bx,hlk,rfl⟩) (fun _=>hm) ht (fun k' hk'=>.inr hk') ?_;refine⟨hgc,fun q hq=>?_,some k,zam _ _ _ _,ck hkm ⟨new,ty,hh2,by grind,fun i' r' j c hi' hj=>?_,fun _ q hs=>hS q hs,fun q hs=>absurd hs (hS q)⟩⟩
   ·grind
   ·have hnewget:∀q,(q<i*bx.z+o\/i*bx.z+o+n<=q)->new[q]? = arr[q]? := by
     intro q hq;rw[<-hnew];simp only[Ych,Ybc];have hul:u.cells.toList.length=n:=by grind
     have htl:(arr.toList.take (i*bx.z+o)).length=i*bx.z+o:=by grind
     rcases hq with hq | hq
     ·grind
     ·rw[Ye (by omega),Ye (by omega),Yaq,htl,hul];simp only[Yci];congr 1;omega
    have hnewin:∀q,q<n->new[i*bx.z+o+q]? = u.cells[q]? := by
     intro q hq;rw[<-hnew];simp only[Ych,Ybc];have hul:u.cells.toList.length=n:=by grind
     have htl:(arr.toList.take (i*bx.z+o)).length=i*bx.z+o:=by grind
     rw[Ye (by omega),Yo (by omega),htl]
     simp_all
    by_cases hii:i'=i
    ·subst hii;simp only at hi';rw[Yc4 hil]at hi';cases hi';have hjz:j<bx.z:=by grind
     rcases Yv j o with hjo | hjo
     ·rw[Yo (by grind),Yak,if_pos hjo]at hj;obtain⟨q,hq,h1,hC,hP⟩:=hcells i' r j c hri hj;exact⟨q,by grind,h1,hC.mono hx,fun hne=>(hP hne).mono hx.hS hx.hcell⟩
     ·have hto:(r.take o).length=o:=by grind
      rw[Ye (by omega),hto]at hj;rcases Yv (j-o) cs.length with hjn | hjn
      ·rw[Yo hjn]at hj;have hq:u.cells[j-o]? = some (u.cells[j-o]'(by omega)):=Yz _;refine⟨_,?_,huo _ _ hq,(huc _ _ c hq hj).mono hx,fun hne=>?_⟩
       ·have:=hnewin (j-o) (by omega);rw[show i'*bx.z+o+(j-o)=i'*bx.z+j by omega]at this
        grind
       ·have hko:bx.kind=.own:=by cases hk:bx.kind<;>simp_all
        exact(((huc _ _ c hq hj).pureC (Yl.1 (hpure hko) c (Yc hj)))).mono hx.hS hx.hcell
      ·rw[Ye hjn,Yaq]at hj;have:o+n+(j-o-cs.length)=j:=by omega
       rw[this]at hj;obtain⟨q,hq,h1,hC,hP⟩:=hcells i' r j c hri hj;exact⟨q,by grind,h1,hC.mono hx,fun hne=>(hP hne).mono hx.hS hx.hcell⟩
    ·rw[Ydg (Ne.symm hii)]at hi';obtain⟨q,hq,h1,hC,hP⟩:=hcells i' r' j c hi' hj;have hjz:j<bx.z:=by grind
     refine⟨q,?_,h1,hC.mono hx,fun hne=>(hP hne).mono hx.hS hx.hcell⟩;show new[i'*bx.z+j]? = _;rw[hnewget]
     ·omega
     ·rcases Yv i' i with h | h
      ·have:=zgs (n:=i) h hjz;omega
      ·have h4:i<i':=by omega
       have:(i+1)*bx.z<=i'*bx.z:=Y2 _ h4
       grind
end
end
section
open Go.RowKit
section
variable{P:Program}{cx:Cx}{w w':World}{S S':Nat->Nat->Prop}{M:Map}{clk:Nat}{h:Heap}{ρ:Nat->AV}{a:Act}
def ziv{t:TypeId}{zs:List AV}(hz:zeros P t=some zs):∀c∈zs,pureC c=true:=by
 unfold zeros at hz;obtain⟨z,_,hz2⟩:=bind_some hz;obtain⟨hl,hg⟩:=zbe _ _ hz2;intro c hc;obtain⟨j,hj⟩:=Yae hc;have hjl:j<z.cells.toList.length:=by have:=zb1 hj;omega
 have hcc:=hg j _ c (Ya hjl) hj;unfold Zdi at hcc;split at hcc<;>cases hcc<;>rfl
def zsz(zc:Array Value)(n z:Nat)(hz:zc.size=z)(i j:Nat)(hi:i<n)(hj:j<z):((Array.range (n*z)).map (zc[· % zc.size]!))[i*z+j]? = zc[j]? := by
 have hlt:=zgs hi hj;rw[Array.getElem?_map,Array.getElem?_range,if_pos hlt];simp only[Ya1];have e2:(i*z+j)%zc.size=j:=by rw[hz,Yaf,Nat.mul_add_mod,Yu hj]
 rw[e2];rw[getElem!_pos zc j (by omega),Yz (by omega)]
def zk0{zs:List AV}{z:Value}(hz3:Pt w S M clk z.cells.toList zs)(hpure:∀c∈zs,pureC c=true)(n:Nat):Rw w S zs.length ((Array.range (n*zs.length)).map (z.cells[· % z.cells.size]!)).toList (List.replicate n zs):=by
 have hlen:z.cells.size=zs.length:=by have:=hz3.1;simpa using this
 refine⟨by simp,fun r hr=>(List.eq_of_mem_replicate hr)▸rfl,fun u hu=>?_,fun i r j c hi hj=>?_⟩
 ·obtain⟨q,hq⟩:=Yae hu;have hql:=zb1 hq;simp only[Ydl,Array.size_map,Array.size_range]at hql;have hzp:0<zs.length:=by
   rcases Ybo zs.length with h | h
   ·rw[h]at hql;simp at hql
   ·exact h
  have hd:=zsz z.cells n zs.length hlen (q/zs.length) (q%zs.length) (by rw[Ybb hzp];exact hql) (Ybh _ hzp);rw[show q/zs.length*zs.length+q%zs.length=q by have:=Yca q zs.length;rw[Yaf]at this;omega]at hd;rw[Yci,hd]at hq;exact hz3.2.1 _ _ (by simpa using hq)
 ·have hin:=zb1 hi;rw[Ycj]at hin;rw[Ycy,if_pos hin]at hi;cases hi;have hjl:=zb1 hj;have hv:z.cells.toList[j]? = some (z.cells.toList[j]'(by simp;omega)):=Ya _;refine⟨_,?_,(hz3.2.2 j _ c hv hj).pureC (hpure c (Yc hj))⟩;rw[Yci,zsz z.cells n zs.length hlen i j hin hjl];simp
def zs0{t e:TypeId}{inf:TypeInfo}{zs:List AV}{d:Option Nat}{v u:Value}{x y r:AV}{h':Heap}{clk':Nat}(hr:RelF cx S M clk h ρ a w)(ht:P.underlying t=some (.slice e))(hi:P.info? e=some inf)(hby:inf.bytes<=32768)
  (hz:zeros P e=some zs) (hzl:zs.length=inf.size) (hv:C w S M clk v x) (hu:C w S M clk u y) (hs:Zf9 inf.size zs d h clk x y=some (r,h',clk')) :
  ∃v' w' S' M',(Instr.makeSlice t v u).run P w=.ok v' w'/\RelF cx S' M' clk' h' ρ a w'/\C w' S' M' clk' v' r:=by
 unfold Zf9 at hs;split at hs
 ·rename_i k n k' m;obtain rfl:=hv.inv_i;obtain rfl:=hu.inv_i;obtain⟨d,rfl,hs1⟩:=bind_some hs;split at hs1<;>cases hs1;rename_i hc;obtain⟨h0,rfl,hle⟩:=hc;obtain⟨z,hz1,hz2,hz3⟩:=zfa (P:=P) (w:=w) (S:=S) (M:=M) (clk:=clk) hz;have hzz:inf.zero=some z:=by rw[hi]at hz2;simpa using hz2
  obtain⟨q,rfl⟩:=Int.eq_ofNat_of_zero_le h0;have hb1:(inf.bytes:Int)*(q:Int)<=281474976710656:=by
   have h1:inf.bytes*q<=32768*4294967296:=Yc8 hby (by omega);have h2:((inf.bytes*q:Nat):Int)<=281474976710656:=by omega
   rwa [Yd6]at h2
  have hrun:=run_make (P:=P) w t e inf z ht hi hzz k k' q q h0 (Int.le_refl _) hb1 (by omega);simp only[Yc6]at hrun ⊢;have hrw:=zk0 hz3 (ziv hz) q;rw[hzl]at hrw;obtain⟨M',h1,h2⟩:=znf hr (id:=.loc d) (bx:=⟨clk,.own,inf.size,List.replicate q zs⟩) (w1:=w) (vs:=((Array.range (q*inf.size)).map (z.cells[· % z.cells.size]!)).toList) (us:=[]) (e:=e) (cap:=q)
   ⟨rfl,rfl,rfl,rfl⟩ rfl (by simp) hrw (by simp) (by simp only[maxLen];omega) (by simp)
  simp only[Ybg,Array.toArray_toList,Ycj]at h1 h2;exact⟨_,_,S,M',hrun,h1,h2⟩
 ·cases hs
theorem zyy{ids:List BId}(hh:HeapRel w S M clk h):∀(ps qs:List (Nat×AV)) (vs:List (Nat×Value)),Zgv h ps=some qs->vs.map (·.1)=ps.map (·.1)->(∀(j:Nat) v x,vs[j]? = some v->ps[j]? = some x->C w S M clk v.2 x.2)->(∀p∈ps,∀id∈refs p.2,id∈ids) ->
  vs.map (·.1)=qs.map (·.1)/\∀(j:Nat) v y,vs[j]? = some v->qs[j]? = some y->CP w (Zbm h M ids S) v.2 y.2
 | [],qs,vs,hf,hm,_,_=>by
  simp only[Zgv,Option.some.injEq]at hf;subst hf;exact⟨hm,fun j v y _ hy=>by simp at hy⟩
 | (i,x)::ps,qs,vs,hf,hm,hc,hid=>by
  simp only[Zgv]at hf;obtain⟨y,hy,hf1⟩:=bind_some hf;obtain⟨q,hq,rfl⟩:=map_some hf1;cases vs with
  | nil=>simp at hm
  | cons v vs=>
   simp only[Yx,List.cons.injEq]at hm;obtain⟨h1,h2⟩:=zyy hh ps q vs hq hm.2 (fun j v x hv hx=>hc (j+1) v x (by simpa using hv) (by simpa using hx)) (fun p hp=>hid p (by simp[hp]));refine⟨by simp[hm.1,h1],fun j v' y' hv' hy'=>?_⟩;cases j with
   | zero=>
    simp at hv' hy';subst hv';subst hy';exact zft hh (hc 0 v (i,x) rfl rfl) hy (hid (i,x) (by simp))
   | succ j=>exact h2 j v' y' (by simpa using hv') (by simpa using hy')
theorem zoy{z:Nat}:∀(qs:List (Nat×AV)) (vs:List (Nat×Value)) (els out:List (List AV)) (cells:Array Value),Rw w S z cells.toList els->Zhf z els qs=some out->vs.map (·.1)=qs.map (·.1)->(∀(j:Nat) v y,vs[j]? = some v->qs[j]? = some y->CP w S v.2 y.2) ->
  ∃r,Instr.fill (fun i=>some (i*z,z)) cells vs=some r/\Rw w S z r.toList out/\out.length=els.length
 | [],vs,els,out,cells,hr,hf,hm,_=>by
  simp only[Zhf,Option.some.injEq]at hf;subst hf;have:vs=[]:=by simpa using hm
  subst this;exact⟨cells,rfl,hr,rfl⟩
 | (i,x)::qs,vs,els,out,cells,hr,hf,hm,hc=>by
  simp only[Zhf]at hf;obtain⟨cs,hcs,hf1⟩:=bind_some hf;split at hf1
  ·rename_i hcond;obtain⟨hl,hp,hi⟩:=hcond;cases vs with
   | nil=>simp at hm
   | cons v vs=>
    simp only[Yx,List.cons.injEq]at hm;obtain⟨vi,vv⟩:=v;simp only at hm;obtain⟨rfl,hm⟩:=hm;have hC:C w S (fun _=>none) 0 vv x:=.p (hc 0 (vi,vv) (vi,x) rfl rfl);obtain⟨h1,h2,h3⟩:=ze5 hC hcs;have hfit:vi*z+vv.cells.size<=cells.size:=by
     have e1:=hr.len;simp only[Ydl]at e1;have:(vi+1)*z<=els.length*z:=Y2 _ hi;rw[Yby]at this;omega
    have hone:=zpg (vi*z) vv.cells cells hfit;have hrw:Rw w S z (vv.cells.zipIdx.foldl (fun cs (p:Value×Nat)=>cs.setIfInBounds (vi*z+p.2) p.1) cells).toList (els.set vi cs):=by
     rw[hone];have hA:=hr.take vi;have hB:=hr.drop (vi+1);have hmid:Rw w S z vv.cells.toList [cs]:=by
      refine⟨by simp;omega,fun r hr=>by simp at hr;rw[hr];exact hl,fun u hu=>?_,fun i r j c hi hj=>?_⟩
      ·obtain⟨j,hj⟩:=Yae hu;exact h2 j u (by simpa using hj)
      ·cases i with
       | succ i=>simp at hi
       | zero=>
        simp at hi;subst hi;have hjl:=zb1 hj;have hv:vv.cells[j]? = some (vv.cells[j]'(by omega)):=Yz _;exact⟨_,by simp,(h3 j _ c hv hj).pureC (Yl.1 hp c (Yc hj))⟩
     have:=hA.append (hmid.append hB);have e2:vi*z+vv.cells.size=(vi+1)*z:=by rw[Yby];omega
     rw[e2];have e3:els.set vi cs=els.take vi++([cs]++els.drop (vi+1)):=by rw[Ycz,if_pos hi];rfl
     rw[e3];exact this
    obtain⟨r,hr1,hr2,hr3⟩:=zoy qs vs _ out _ hrw hf1 hm (fun j v y hv hy=>hc (j+1) v y (by simpa using hv) (by simpa using hy));refine⟨r,?_,hr2,by simpa using hr3⟩;simp only[Instr.fill];rw[if_neg (by simp;omega)];exact hr1
  ·cases hf1
def zk1{t e:TypeId}{z len:Nat}{zs:List AV}{parts:Array (Nat×Value)}{ps:List (Nat×AV)}{r:AV}{h':Heap}(hr:RelF cx S M clk h ρ a w)(ht:P.underlying t=some (.slice e))(hsz:Zaq P e=some z)(hlim:len*z<=16777216)(hz0:z≠0)
  (hz:zeros P e=some zs) (hzl:zs.length=z) (hm:parts.toList.map (·.1)=ps.map (·.1)) (hc:∀(j:Nat) v x,parts.toList[j]? = some v->ps[j]? = some x->C w S M clk v.2 x.2) (hs:Zds z zs len h ps=some (r,h')) :
  ∃v' w' S' M',(Instr.buildSlice t len parts).run P w=.ok v' w'/\RelF cx S' M' clk h' ρ a w'/\C w' S' M' clk v' r:=by
 unfold Zds at hs;obtain⟨qs,hq,hs1⟩:=bind_some hs;obtain⟨els,hels,he⟩:=map_some hs1;cases he;generalize hids:(ps.flatMap fun p=>refs p.2)=ids;have hmem:∀p∈ps,∀id∈refs p.2,id∈ids:=by
  intro p hp id hid;rw[<-hids];exact Y6.2 ⟨p,hp,hid⟩
 obtain⟨h1,h2⟩:=zyy (ids:=ids) hr.wr.heap ps qs parts.toList hq hm hc hmem;have hkind:∀id bx,id∈ids->h.lookup id=some bx->bx.kind≠.str/\bx.kind≠.mp:=by
  have key:∀(ps qs:List (Nat×AV)),Zgv h ps=some qs->∀p∈ps,∀id bx,id∈refs p.2->h.lookup id=some bx->bx.kind≠.str/\bx.kind≠.mp:=by
   intro ps
   induction ps with
   | nil=>intro qs _ p hp;simp at hp
   | cons p0 ps ih=>
    intro qs hq p hp id bx hid hb;obtain⟨i,x⟩:=p0;simp only[Zgv]at hq;obtain⟨y,hy,hq1⟩:=bind_some hq;obtain⟨q,hq2,_⟩:=map_some hq1;rcases Yn.1 hp with rfl | hp
    ·have hfz:frz h x=some y:=by
      cases x<;>first | exact hy | (simp[Zaw,Zby]at hy)
     exact zc6 hfz id bx hid hb
    ·exact ih q hq2 p hp id bx hid hb
  intro id bx hid hb;rw[<-hids]at hid;obtain⟨p,hp,hid⟩:=Y6.1 hid;exact key ps qs hq p hp id bx hid hb
 have hr1:RelF cx (Zbm h M ids S) M clk (Zx ids h) ρ a w:=
  ⟨hr.size,hr.defers,fun t=>(hr.env t).mono ⟨fun k o hs=>.inl hs,fun k o u _ hc=>hc,Yi _,fun g m _ hm=>hm,fun g k arr e _ _ hb=>⟨arr,hb,rfl⟩⟩,hr.wr.share ids hkind⟩
 obtain⟨zv,hz1,hz2,hz3⟩:=zfa (P:=P) (w:=w) (S:=Zbm h M ids S) (M:=M) (clk:=clk) hz;have hrw:=zk0 hz3 (ziv hz) len;rw[hzl]at hrw;obtain⟨out,ho1,ho2,ho3⟩:=zoy qs parts.toList _ els _ hrw hels h1 h2;have hlen:els.length=len:=by rw[ho3];simp
 have hcs:zv.cells.size=z:=by have:=hz3.1;simp at this;omega
 have hrun:(Instr.buildSlice t len parts).run P w=.ok (.slice (some ⟨w.heap.size,0,none⟩) len len) (w.alloc (.cells out e)):=by
  have hl:¬ (len*z > 2^24):=by simp;omega
  simp only[Instr.buildSlice,Sem.run_bind,run_underlying ht,Result.andThen_ok,zb4 hsz,hl,if_false,Sem.run_ite];by_cases h0:len*z=0
  ·have hl0:len=0:=(Nat.mul_eq_zero.1 h0).resolve_right hz0;subst hl0;simp only[Yc9,if_true,Sem.run_pure,Result.andThen_ok]at ho1 ⊢;have e1:(Array.range 0).map (fun x=>(#[]:Array Value)[x%(#[]:Array Value).size]!)=(Array.range 0).map (fun x=>zv.cells[x%zv.cells.size]!):=by simp
   rw[e1,ho1]
   rfl
  ·simp only[h0,if_false,hz1,Result.andThen_ok,Sem.run_pure];rw[ho1]
   rfl
 have hbl:=zao w (.cells out e);refine⟨_,_,_,M,hrun,hr1.below hbl,.p ?_⟩;have hout:out.size=len*z:=by have:=ho2.len;rw[hlen]at this;simpa using this
 have hnew:=heap_alloc_new w (.cells out e);rw[<-hlen];have hx:=Ext.below (clk:=clk) (M:=M) hbl hr1.wr.Slt fun g k hm=>(hr1.wr.Mnew g k hm).1;refine .sl w.heap.size 0 z els.length els .fu (fun i j=>(out[i*z+j]?).getD undef) (by simp) (fun _=>rfl) (Yi _) (by simp only[maxLen];have:len<=len*z:=Yd0 _ (Yal hz0);omega) (fun i r hi=>ho2.row r (Yc hi)) (fun i j hi hj=>?_) (fun i r j c hi hj=>?_)
 ·have hlt:i*z+j<out.size:=by rw[hout,<-hlen];exact zgs hi hj
  have hg:out[i*z+j]? = some (out[i*z+j]'hlt):=Yz hlt;refine⟨.inr ⟨Yi _,by simp⟩,?_,?_⟩
  ·rw[Yar,cell_of_row _ _ _ out e (0,0) hnew,hg];rfl
  ·rw[hg];exact ho2.one _ (by simp)
 ·obtain⟨u,hu,hC⟩:=ho2.cell i r j c hi hj;rw[Yci]at hu;rw[hu];exact hC.mono hx.hS hx.hcell
def zs1{t e ty:TypeId}{inf:TypeInfo}{z:Nat}{v u:Value}{y r:AV}{zv:Value}(hr:RelF cx S M clk h ρ a w)(ht:P.underlying t=some (.slice e))(hi:P.info? e=some inf)
  (hz0:inf.size≠0) (hby:inf.bytes<=32768) (hzv:inf.zero=some zv) (hzs:zv.cells.size=inf.size) (hz:inf.size=z)
  (hv:C w S M clk v (.sl [] .nl)) (hu:C w S M clk u y) (hs:Zf8 z y=some r) :
  ∃v' w' S' M',(Builtin.append_ #[t,t] ty #[v,u]).run P w=.ok v' w'/\RelF cx S' M' clk h ρ a w'/\C w' S' M' clk v' r:=by
 have hvn:v=.slice none 0 0:=by
  rcases hv.inv_sl.inv_sl with ⟨_,b,rfl,_,hb2⟩ | ⟨_,_,_,_,_,rfl,h1,_⟩
  ·cases b with
   | none=>rfl
   | some a=>rcases hb2 (by simp) with h1 | h1<;>cases h1
  ·exact absurd rfl h1
 subst hvn;unfold Zf8 at hs;split at hs
 ·rename_i els f;split at hs<;>cases hs;rename_i hc;obtain⟨hz',hle⟩:=hc;subst hz;obtain⟨b,cap,vs,rfl,_,_,_,_,_,_,hrw,hcs⟩:=hu.inv_sl.rows (show ∀r∈els.head?,r.length=inf.size from fun r hr=>by rw[hr]at hz';simpa using hz');have src:=zkz (ty:=ty) (ycap:=cap) ht hi hz0 hzv hrw.len hrw.one hcs;by_cases he:els=[]
  ·subst he;exact⟨.slice none 0 0,w,S,M,src.zero rfl none 0 0 (Yi _),hr,.p (.slnil .an (.inr rfl))⟩
  ·have hm:els.length≠0:=by simpa using he
   have hb:els.length*inf.bytes<=140737488355328:=by
    have:=Yc8 hle hby;omega
   have hrun:=src.first hm (by omega) hb;obtain⟨g1,g2⟩:=zev (w:=w) (old:=0) (e:=e) (Yd hle (by decide));generalize hcp:grownCap w els.length 0 e=cp at *
   have hbl:Below w.heap.size w (w.drew.alloc (.cells (vs.toArray++Builtin.zeroCells zv.cells (cp-els.length)) e)):=by
    refine⟨rfl,rfl,rfl,?_,fun k hk=>?_⟩
    ·show w.heap.size<=(w.drew.heap.push _).size;rw[Yd7];exact Ybf _
    ·exact heap_alloc_old w.drew _ k hk
   refine⟨_,_,_,M,hrun,hr.below hbl,.p ?_⟩;have hx:=Ext.below (clk:=clk) (M:=M) hbl hr.wr.Slt fun g k hm=>(hr.wr.Mnew g k hm).1;have hnew:=heap_alloc_new w.drew (.cells (vs.toArray++Builtin.zeroCells zv.cells (cp-els.length)) e);have hlen:vs.length=els.length*inf.size:=hrw.len;have hget:∀k:Nat,k<vs.length->(vs.toArray++Builtin.zeroCells zv.cells (cp-els.length))[k]? = vs[k]? := fun k hk=>by
    rw[Yb4 (by simpa using hk)];simp
   refine .sl w.heap.size 0 inf.size cp els .an (fun i j=>(vs[i*inf.size+j]?).getD undef) (by simp) (fun h=>by cases h) g1 g2 (fun i r hi=>hrw.row r (Yc hi)) (fun i j hi hj=>?_) (fun i r j c hi hj=>?_)
   ·have hlt:i*inf.size+j<vs.length:=by rw[hlen];exact zgs hi hj
    have hg:vs[i*inf.size+j]? = some (vs[i*inf.size+j]'hlt):=Ya hlt;refine⟨.inr ⟨Yi _,by show w.heap.size<(w.drew.heap.push _).size;rw[Yd7];exact Y1 _⟩,?_,?_⟩
    ·rw[Yar,show w.heap.size=w.drew.heap.size from rfl,cell_of_row _ _ _ _ e (0,0) hnew,hget _ hlt,hg];rfl
    ·rw[hg];exact hrw.one _ (by simp)
   ·obtain⟨u,hu,hC⟩:=hrw.cell i r j c hi hj;rw[hu];exact hC.mono hx.hS hx.hcell
 ·cases hs
end
end
section
open Go.RowKit
def Zhr(d:Option Nat)(h:Heap)(clk:Nat):Option (AV×Heap×Nat):=
 d.map fun d=>(.fnp 0 (.loc d) clk 2 0 0,(.loc d,⟨clk,.mp,2,[]⟩)::h,clk+1)
def Zi0:Option (Option AV)->Bool
 | some none=>true
 | _=>false
def Zil(k:KTy)(x i y:AV)(h:Heap)(clk:Nat):Option (AV×Heap×Nat):=
 match x with
 | .fnp 0 id g 2 0 0=>
  (Zff h id g).bind fun bx=>if (Zdq k i i).isSome&&noRef i&&noRef y&&Zi0 (Zfe k i bx.els) then
   some (.dead,(id,⟨g,.mp,2,bx.els++[[i,y]]⟩)::h,clk) else none
 | _=>none
section
variable{P:Program}{cx:Cx}{w w':World}{S S':Nat->Nat->Prop}{M:Map}{clk:Nat}{h:Heap}{ρ:Nat->AV}{a:Act}
def zqy{t:TypeId}{d:Option Nat}{r:AV}{h':Heap}{clk':Nat}(hr:RelF cx S M clk h ρ a w)(hs:Zhr d h clk=some (r,h',clk')) :
  ∃v' w' S' M',(Instr.makeMap t none).run P w=.ok v' w'/\RelF cx S' M' clk' h' ρ a w'/\C w' S' M' clk' v' r:=by
 obtain⟨d,rfl,hs1⟩:=map_some hs;cases hs1;have hrun:(Instr.makeMap t none).run P w=.ok (.map (some w.heap.size)) (w.alloc (.map #[] 0)):=by simp[Instr.makeMap]
 have hbl:=zao w (.map #[] 0);have hnew:=heap_alloc_new w (.map #[] 0);refine⟨_,_,S,Zch M ((.loc d,⟨clk,.mp,2,[]⟩)::h) clk (some w.heap.size),hrun,?_,?_⟩
 ·refine hr.set (bx':=⟨clk,.mp,2,[]⟩) (k':=some w.heap.size) (Ybf _) (.inl rfl) (fun hlt=>absurd hlt (Ya6 _)) (Touch.of_below hbl) (fun k hk=>?_) ?_
  ·grind
  ·refine⟨Y1 _,fun r hr=>by grind,some w.heap.size,zam _ _ _ _,ckP rfl ⟨_,_,hnew,trivial,fun o hs=>?_⟩⟩;have:=hr.wr.Slt _ _ hs;omega
 ·have:=C.fnp (w:=w.alloc (.map #[] 0)) (S:=S) (M:=Zch M ((.loc d,⟨clk,.mp,2,[]⟩)::h) clk (some w.heap.size)) (clk:=clk+1) 0 (.loc d) clk 2 0 0 (.pointer (some ⟨w.heap.size,0,none⟩)) (Y1 _)
   (by unfold Zc1;rw[zam]) rfl
  exact this
def zi8{t kt e:TypeId}{k:KTy}{v u q:Value}{x i y r:AV}{h':Heap}{clk':Nat}(ht:P.underlying t=some (.map kt e))(hk:Zeb P kt=some k)(hr:RelF cx S M clk h ρ a w)
  (hv:C w S M clk v x) (hu:C w S M clk u i) (hq:C w S M clk q y) (hs:Zil k x i y h clk=some (r,h',clk')) :
  ∃w' S' M',(Instr.mapUpdate t v u q).run P w=.ok () w'/\RelF cx S' M' clk' h' ρ a w'/\r=.dead:=by
 unfold Zil at hs;split at hs
 ·rename_i id g;obtain⟨bx,hb,hs1⟩:=bind_some hs;split at hs1
  ·rename_i hc;cases hs1;simp only[Yk]at hc;obtain⟨⟨⟨hc1,hc2⟩,hc3⟩,hc4⟩:=hc;obtain⟨b,es,c,hm,rfl,hbk,he,hS,hl,hg,hz2,hkd⟩:=zph hr.wr.heap hb hv;have hup:=hu.noRef hc2;have hqp:=hq.noRef hc3;have hfn:Zfe k i bx.els=some none:=by
    unfold Zi0 at hc4;split at hc4
    ·assumption
    ·cases hc4
   obtain⟨f,hf1,hf2⟩:=zfc hk hup he hfn;cases hf2;have hck:(Instr.checkKey false 10000 kt u).run P w=.ok () w:=zeu false 9998 hk hup hc1;have hlt:b<w.heap.size:=(Ya7.1 hbk).1;have hrun:(Instr.mapUpdate t (.map (some b)) u q).run P w=.ok () { w with heap:=w.heap.setIfInBounds b (.map (es.push { key:=u,val:=q,born:=c }) (c+1)) }:=by
    simp only[Instr.mapUpdate,Sem.run_bind,run_underlying ht,Result.andThen_ok,zcz hbk,hck,hf1];simp[setObj,Sem.run,hbk]
   obtain⟨w2,hw2⟩:∃w2,w2=({ w with heap:=w.heap.setIfInBounds b (.map (es.push { key:=u,val:=q,born:=c }) (c+1)) }:World):=⟨_,rfl⟩;rw[<-hw2]at hrun;have hb2:w2.heap[b]? = some (.map (es.push { key:=u,val:=q,born:=c }) (c+1)):=by rw[hw2];simp[hlt]
   have ho2:∀k',k'≠b->w2.heap[k']? = w.heap[k']? := by
    intro k' hne;rw[hw2];simp[Ne.symm hne]
   have hcell:∀k' o u,S k' o->w.cell? ⟨k',o,none⟩=some u->w2.cell? ⟨k',o,none⟩=some u:=by
    intro k' o u hs hcl;have hne:k'≠b:=fun h=>hS o (h▸hs);rw[World.cell?_of_block (w:=w) (ho2 k' hne)];exact hcl
   have htc:Touch w w2 S M h id (some b):=
    ⟨by rw[hw2],by rw[hw2],by rw[hw2],by rw[hw2];simp,fun k' _ hne=>ho2 k' (fun h=>hne (by rw[h])),fun k' hk'=>⟨bx,hl,by cases hk';rw[hg];exact hm⟩,
     fun k' o u _ hs hc=>hcell k' o u hs hc,fun k' arr1 e1 hk' hb1=>by cases hk';rw[hbk]at hb1;cases hb1⟩
   refine⟨w2,S,Zch M ((id,⟨g,.mp,2,bx.els++[[i,y]]⟩)::h) g (some b),hrun,?_,rfl⟩;have hx:=Ext.set (bx':=⟨g,.mp,2,bx.els++[[i,y]]⟩) (k':=some b) (clk':=clk) hr.wr (Yi _) (fun _=>hm) htc;refine hr.set (bx':=⟨g,.mp,2,bx.els++[[i,y]]⟩) (k':=some b) (touched:=some b) (Yi _) (.inr ⟨bx,hl,hg⟩) (fun _=>hm) htc (fun k' hk'=>.inr hk') ?_;have hrows:=(hr.wr.heap.box id bx hl).2.1;refine⟨by rw[<-hg];exact(hr.wr.heap.box id bx hl).1,fun r hrm=>?_,some b,zam _ _ _ _,ckP rfl ⟨_,_,hb2,?_,hS⟩⟩
   ·rcases Yaj.1 hrm with h1 | h1
    ·rw[hrows r h1,hz2]
    ·simp at h1;subst h1;rfl
   ·rw[Array.toList_push];exact Zd1.snoc (hup.mono hx.hS hx.hcell) (hqp.mono hx.hS hx.hcell) (he.mono hx.hS hx.hcell)
  ·cases hs1
 ·cases hs
end
end
section
open Go.RowKit
def Zi1(n:Nat)(x:AV)(d:Option Nat)(h:Heap)(clk:Nat):Option (AV×Heap×Nat):=
 d.bind fun d=>(cellsOf x).bind fun cs=>if cs.length=n then some (.ptr (.loc d) clk n 0 0,(.loc d,⟨clk,.str,n,[cs]⟩)::h,clk+1) else none
def Zi2(x y:AV)(h:Heap)(clk:Nat):Option (AV×Heap×Nat):=
 match x with
 | .bs id g z off n=>
  (Zac h id g z).bind fun bx=>(rowOf h 1 y).bind fun ys=>
   if z=1/\bx.kind=.own/\off+n<=bx.els.length then
    some (.i .i64 ((min ys.length n:Nat):Int),(id,⟨g,bx.kind,1,bx.els.take off++(ys.take (min ys.length n)++bx.els.drop (off+min ys.length n))⟩)::h,clk)
   else none
 | _=>none
def Zdw:List AV->Option UInt8
 | [AV.i .u8 n]=>some (UInt8.ofNat n.toNat)
 | _=>none
def Zim(x:AV)(h:Heap)(clk:Nat):Option (AV×Heap×Nat):=
 (rowOf h 1 x).bind fun els=>(els.mapM Zdw).map fun l=>(.s l,h,clk)
def Zhs(n:Nat)(x:AV)(h:Heap)(clk:Nat):Option (AV×Heap×Nat):=
 match x with
 | .ptr id g z 0 0=>
  (Zac h id g z).bind fun bx=>
   match bx.els with
   | [cs]=>if z=n/\bx.kind=.str/\cs.all pureC=true then some (.bs id clk 1 0 n,(id,⟨clk,.own,1,cs.map fun c=>[c]⟩)::h,clk+1) else none
   | _=>none
 | _=>none
def Zht(x y:AV)(d:Option Nat)(h:Heap)(clk:Nat):Option (AV×Heap×Nat):=
 match y with
 | .s l=>Zhm 1 d h clk x (l.map fun b=>[.i .u8 b.toNat])
 | _=>none
def Zll(f:Nat)(x:AV)(h:Heap)(clk:Nat):Option (AV×Heap×Nat):=
 match x with
 | .ptr id g z i o=>if f≠0 then some (.fnp f id g z i o,h,clk) else none
 | _=>none
def Zlm(f:Nat)(x:AV)(h:Heap)(clk:Nat):Option (AV×Heap×Nat):=if noRef x=true then some (.fnv f x,h,clk) else none
def Zao(k:XOp)(xs:List AV)(d:Option Nat)(h:Heap)(clk:Nat):Option (AV×Heap×Nat):=
 match k,xs with
 | .box n,[x]=>Zi1 n x d h clk
 | .mkf f,[x]=>Zll f x h clk
 | .mkv f,[x]=>Zlm f x h clk
 | .cpy,[x,y]=>Zi2 x y h clk
 | .bstr,[x]=>Zim x h clk
 | .arsl n,[x]=>Zhs n x h clk
 | .apps,[x,y]=>Zht x y d h clk
 | .mmap,[]=>Zhr d h clk
 | .mupd k,[x,i,y]=>Zil k x i y h clk
 | _,_=>none
section
variable{P:Program}{cx:Cx}{w w':World}{S S':Nat->Nat->Prop}{M:Map}{clk:Nat}{h:Heap}{ρ:Nat->AV}{a:Act}
def Zls(P:Program)(cx:Cx)(ρ:Nat->AV)(a:Act)(w:World)(o:Oper)(x:AV)(h':Heap)(clk':Nat):Prop:=
 ∃v w' S' M',((execOp a.eval o).run P w=.ok (.value v) w'\/((execOp a.eval o).run P w=.ok .skip w'/\v=undef))/\RelF cx S' M' clk' h' ρ a w'/\C w' S' M' clk' v x
def zgh{s:Sem Value}{v:Value}(hs:s.run P w=.ok v w'):(do pure (Next.value (<-s)):Sem Next).run P w=.ok (.value v) w':=by
 simp_all
def zls{s:Sem Unit}(hs:s.run P w=.ok () w'):(do s;pure Next.skip:Sem Next).run P w=.ok .skip w':=by
 simp_all
def zt5{t:TypeId}{n:Nat}{d:Option Nat}{v:Value}{x r:AV}{h':Heap}{clk':Nat}(hr:RelF cx S M clk h ρ a w)(hv:C w S M clk v x)(hs:Zi1 n x d h clk=some (r,h',clk')) :
  ∃v' w' S' M',(Instr.box t v).run P w=.ok v' w'/\RelF cx S' M' clk' h' ρ a w'/\C w' S' M' clk' v' r:=by
 obtain⟨d,rfl,hs1⟩:=bind_some hs;obtain⟨cs,hcs,hs2⟩:=bind_some hs1;split at hs2<;>cases hs2;obtain⟨hus,huo,huc⟩:=ze5 hv hcs;have hrun:(Instr.box t v).run P w=.ok (.pointer (some ⟨w.heap.size,0,none⟩)) (w.alloc (.cells v.cells t)):=by
  simp only[Instr.box,Sem.run_bind,newVar,newRow,newObj,Sem.run,Sem.run_pure,World.alloc,Result.andThen_ok]
 have hbl:=zao w (.cells v.cells t);have hnew:=heap_alloc_new w (.cells v.cells t);refine⟨_,_,S,Zch M ((.loc d,⟨clk,.str,n,[cs]⟩)::h) clk (some w.heap.size),hrun,?_,?_⟩
 ·have hx:=Ext.set (id:=.loc d) (bx':=⟨clk,.str,n,[cs]⟩) (k':=some w.heap.size) (clk':=clk+1) hr.wr (Ybf _) (fun hlt=>absurd hlt (Ya6 _)) (Touch.of_below (id:=.loc d) hbl);refine hr.set (bx':=⟨clk,.str,n,[cs]⟩) (k':=some w.heap.size) (Ybf _) (.inl rfl) (fun hlt=>absurd hlt (Ya6 _)) (Touch.of_below hbl) (fun k hk=>?_) ?_
  ·grind
  ·refine⟨Y1 _,fun r hr=>by grind,some w.heap.size,zam _ _ _ _,_,t,hnew,by grind,fun i r j c hi hj=>?_,fun _ o hs=>?_,fun o hs=>?_⟩
   ·cases i with
    | succ i=>grind
    | zero=>
     simp at hi;subst hi;have hj':=zb1 hj;have hv:v.cells[j]? = some (v.cells[j]'(by omega)):=Yz _;refine⟨_,by simp,huo j _ hv,(huc j _ c hv hj).mono hx,fun hne=>absurd rfl hne⟩
   ·have:=hr.wr.Slt _ _ hs;omega
   ·have:=hr.wr.Slt _ _ hs;omega
 ·refine .ptr _ _ _ _ _ _ (Y1 _) ?_ rfl;unfold Zc1;rw[zam];simp
def zj6(w:World)(dT sT ty elem:TypeId)(ad:Option Addr)(cap:Nat)(src:Value)(len:Nat)(hu:P.underlying dT=some (.slice elem))(hs:(P.info? elem).map (·.size)=some 1)
  (hsrc:∃b c,src=.slice b len c):(Builtin.copy_ #[dT,sT] ty #[.slice ad 0 cap,src]).run P w=.ok (goInt 0) w:=by
 obtain⟨b,c,rfl⟩:=hsrc;cases hq:P.info? elem with
 | none=>grind
 | some i=>
  have hl:∀a,(loadCells a 0).run P w=.ok #[] w:=fun a=>run_loadCells_list (P:=P) w a [] (by simp);cases b<;>cases ad<;>simp[Builtin.copy_,run_underlying hu,Builtin.lenOf,Builtin.firstCells,sizeOf,typeInfo,hq,storeCells,hl]
def zt6{dT sT ty e:TypeId}{v u:Value}{x y r:AV}{h':Heap}{clk':Nat}(ht:P.underlying dT=some (.slice e))(hz1:Zaq P e=some 1)(hr:RelF cx S M clk h ρ a w)
  (hv:C w S M clk v x) (hu:C w S M clk u y) (hs:Zi2 x y h clk=some (r,h',clk')) :
  ∃v' w' S' M',(Builtin.copy_ #[dT,sT] ty #[v,u]).run P w=.ok v' w'/\RelF cx S' M' clk' h' ρ a w'/\C w' S' M' clk' v' r:=by
 unfold Zi2 at hs;cases x<;>simp only at hs<;>try (cases hs;done)
 case bs id g z off n=>
  obtain⟨bx,hb,hs1⟩:=bind_some hs;obtain⟨ys,hys,hs2⟩:=bind_some hs1;split at hs2<;>cases hs2;rename_i hc;obtain⟨rfl,hown,hle⟩:=hc;obtain⟨hlk,hg,hz⟩:=zaq hb;subst hg;obtain⟨yb,ycap,news,rfl,hnrw,hnc⟩:=zj0 hr.wr.heap hu hys;have hbox:=hr.wr.heap.box id bx hlk;obtain⟨hgc,hrows,m,hm,h3⟩:=hbox;obtain⟨_,hbs,_⟩:=hv.inv_bs;rw[hm]at hbs;have hz1':(P.info? e).map (·.size)=some 1:=hz1;cases m with
  | none=>
   obtain⟨rfl,rfl,b,rfl,_⟩:=hbs;rw[h3.1];simp only[Nat.min_zero,Ycf,List.take_nil,List.drop_nil,Ybg];have hrun:=zj6 (P:=P) w dT sT ty e b 0 (.slice yb ys.length ycap) ys.length ht hz1' ⟨_,_,rfl⟩;refine⟨_,w,S,Zch M ((id,⟨bx.gen,bx.kind,1,[]⟩)::h) bx.gen none,hrun,?_,.p (.i .i64 0)⟩;exact hr.set (bx':=⟨bx.gen,bx.kind,1,[]⟩) (k':=none) (touched:=none) (Yi _) (.inr ⟨bx,hlk,rfl⟩) (fun _=>hm) (Touch.of_below (Below.refl _ _)) (fun k hk=>by grind)
    ⟨hgc,fun r hr=>by grind,none,zam _ _ _ _,rfl,by grind⟩
  | some k=>
   obtain⟨arr,ty0,cap,hblk,rfl,hnc2,hcm,harr⟩:=hbs;have hkm:=zcl hb;obtain⟨arr',e',hh',hsz,hcells,hS,hlt⟩:=ck' hkm h3;generalize hq:min ys.length n=q;have hnl:news.length=ys.length:=by have:=hnrw.len;omega
   have hcl:(news.take q).length=q:=by grind
   have hrun:(Builtin.copy_ #[dT,sT] ty #[.slice (some ⟨k,off,none⟩) n cap,.slice yb ys.length ycap]).run P w=.ok (goInt q) (w.setRow k (arr.toList.take off++news.take q++arr.toList.drop (off+q)).toArray):=by
    by_cases h0:q=0
    ·subst h0;have e0:(arr.toList.take off++news.take 0++arr.toList.drop (off+0)).toArray=arr:=by simp
     rw[e0,setRow_self w k arr ty0 (0,0) hblk];have hl:∀a,(loadCells a 0).run P w=.ok #[] w:=fun a=>run_loadCells_list (P:=P) w a [] (by simp);cases hqi:P.info? e with
     | none=>grind
     | some i=>
      have hmin:Nat.min ys.length n=0:=hq;cases yb<;>simp[Builtin.copy_,run_underlying ht,Builtin.lenOf,Builtin.firstCells,sizeOf,typeInfo,hqi,storeCells,hl,hmin]
    ·have h00:0<news.length:=by omega
     obtain⟨ad,rfl,_⟩:=hnc 0 _ (Ya h00);have:=run_copy_row (P:=P) w dT sT ty e k off n cap ad ys.length ycap arr ty0 (news.take q) ht hz1' hblk (by rw[hcl,<-hq]) (fun j v hj=>by
      grind) (by omega) (fun v hv=>hnrw.one v (Yaz hv))
     grind
   generalize hnew:(arr.toList.take off++news.take q++arr.toList.drop (off+q)).toArray=new at hrun;have hh2:(w.setRow k new).heap[k]? = some (.cells new ty0 (0,0)):=setRow_heap w k arr new ty0 (0,0) hblk;have hSk:∀q,¬ S k q:=hS (by grind);have hcell:∀k' o u,S k' o->w.cell? ⟨k',o,none⟩=some u->(w.setRow k new).cell? ⟨k',o,none⟩=some u:=by
    grind[World.cell?_of_block,setRow_other]
   have htc:Touch w (w.setRow k new) S M h id (some k):=
    ⟨rfl,rfl,rfl,by simp,fun k' _ hne=>setRow_other w k k' new (fun e=>hne (by rw[e])),fun k' hk'=>⟨bx,hlk,by grind⟩,fun k' o u hk' hs hc=>hcell k' o u hs hc,fun k' arr1 e1 hk' hb1=>by
     grind⟩
   generalize hels:bx.els.take off++(ys.take q++bx.els.drop (off+q))=els';have hx:=Ext.set (bx':=⟨bx.gen,bx.kind,1,els'⟩) (k':=some k) (clk':=clk) hr.wr (Yi _) (fun _=>hm) htc;refine⟨_,_,S,Zch M ((id,⟨bx.gen,bx.kind,1,els'⟩)::h) bx.gen (some k),by rw[Ydn];exact hrun,?_,.p (.i .i64 q)⟩;refine hr.set (bx':=⟨bx.gen,bx.kind,1,els'⟩) (k':=some k) (touched:=some k) (Yi _) (.inr ⟨bx,hlk,rfl⟩) (fun _=>hm) htc (fun k' hk'=>.inr hk') ?_;refine⟨hgc,fun r hr=>?_,some k,zam _ _ _ _,ck hkm ⟨new,ty0,hh2,by grind,fun i r j c hi hj=>?_,fun _ o hs=>absurd hs (hSk o),fun o hs=>absurd hs (hSk o)⟩⟩
   ·rw[<-hels]at hr;rcases Yaj.1 hr with h5 | h5
    ·grind
    ·rcases Yaj.1 h5 with h5 | h5
     ·exact hnrw.row r (Yaz h5)
     grind
   ·rw[<-hels]at hi;have hto:(bx.els.take off).length=off:=by grind
    have hyq:(ys.take q).length=q:=by grind
    rcases Yv i off with h5 | h5
    ·rw[Yo (by omega),Yak,if_pos h5]at hi;have hrl:=hrows r (Yc hi);have hjl:=zb1 hj;have hj1:j=0:=by omega
     subst hj1;obtain⟨u,hu1,hu2,hu3,hu4⟩:=hcells i r 0 c hi hj;refine⟨u,?_,hu2,hu3.mono hx,fun hne=>(hu4 hne).mono hx.hS hx.hcell⟩
     grind
    ·rw[Ye (by omega),hto]at hi;rcases Yv (i-off) q with h6 | h6
     ·rw[Yo (by omega),Yak,if_pos h6]at hi;have hrl:=hnrw.row r (Yc hi);have hjl:=zb1 hj;have hj1:j=0:=by omega
      subst hj1;obtain⟨u,hu1,hu2⟩:=hnrw.cell (i-off) r 0 c hi hj;simp only[Ydn,Yaa]at hu1;have hu3:=hnrw.one u (Yc hu1);refine⟨u,?_,hu3,(C.p hu2).mono hx,fun _=>hu2.mono hx.hS hx.hcell⟩
      grind
     ·rw[Ye (by omega),hyq,Yaq]at hi;have hrl:=hrows r (Yc hi);have hjl:=zb1 hj;rw[hz]at hrl;have hj1:j=0:=by omega
      subst hj1;have ei:off+q+(i-off-q)=i:=by omega
      rw[ei]at hi;obtain⟨u,hu1,hu2,hu3,hu4⟩:=hcells i r 0 c hi hj;refine⟨u,?_,hu2,hu3.mono hx,fun hne=>(hu4 hne).mono hx.hS hx.hcell⟩
      grind
theorem zlt{S:Nat->Nat->Prop}:∀(els:List (List AV)) (vs:List Value) (l:List UInt8),Rw w S 1 vs els->els.mapM Zdw=some l->∃ns:List Int,vs=ns.map (Value.int .u8)/\ns.map (fun n=>UInt8.ofNat n.toNat)=l
 | [],vs,l,hr,hm=>by
  have:vs=[]:=Yag (by simpa using hr.len);subst this;simp only[List.mapM_nil,Yc0,Option.some.injEq]at hm;exact⟨[],rfl,by simp[<-hm]⟩
 | r::els,vs,l,hr,hm=>by
  simp only[Ya4,Yce]at hm;obtain⟨b,hb,hm1⟩:=bind_some hm;obtain⟨l',hl',hm2⟩:=bind_some hm1;cases hm2;cases vs with
  | nil=>have:=hr.len;simp at this
  | cons u vs=>
   have hr':Rw w S 1 vs els:=by
    refine⟨by have:=hr.len;simp at this ⊢;omega,fun r hr2=>hr.row r (Yh _ hr2),fun u hu=>hr.one u (Yh _ hu),fun i r' j c hi hj=>?_⟩;obtain⟨u',h1,h2⟩:=hr.cell (i+1) r' j c (by simpa using hi) hj;refine⟨u',?_,h2⟩;rw[show (i+1)*1+j=(i*1+j)+1 by omega]at h1;simpa using h1
   obtain⟨ns,h1,h2⟩:=zlt els vs l' hr' hl';unfold Zdw at hb;split at hb
   ·rename_i n;cases hb;obtain⟨u',h3,h4⟩:=hr.cell 0 [AV.i .u8 n] 0 (.i .u8 n) rfl rfl;simp only[Yc9,Yaa,Ybw,Option.some.injEq]at h3;subst h3;cases h4;exact⟨n::ns,by rw[h1];rfl,by simp[h2]⟩
   ·cases hb
def zqz(ns:List Int)(s:ByteArray):(ns.foldl (fun r n=>r.push (UInt8.ofNat n.toNat)) s)=⟨(s.data.toList++ns.map (fun n=>UInt8.ofNat n.toNat)).toArray⟩:=by
 induction ns generalizing s with
 | nil=>simp
 | cons n ns ih=>
  simp_all
def zq0{src dst e:TypeId}{v:Value}{x r:AV}{h':Heap}{clk':Nat}(hs:P.underlying src=some (.slice e))(he:P.underlying e=some (.int .u8))(hd:P.underlying dst=some .string)(hr:RelF cx S M clk h ρ a w)
  (hv:C w S M clk v x) (hx:Zim x h clk=some (r,h',clk')) :
  ∃v' w' S' M',(convert src dst v).run P w=.ok v' w'/\RelF cx S' M' clk' h' ρ a w'/\C w' S' M' clk' v' r:=by
 obtain⟨els,hels,hx1⟩:=bind_some hx;obtain⟨l,hl,hx2⟩:=map_some hx1;cases hx2;obtain⟨b,cap,vs,rfl,hrw,hc⟩:=zj0 hr.wr.heap hv hels;obtain⟨ns,rfl,rfl⟩:=zlt els vs l hrw hl;rw[run_convert_bytes_string (P:=P) w src dst e b els.length cap hs he hd];have hlen:ns.length=els.length:=by simpa using hrw.len
 cases b with
 | none=>
  cases ns with
  | nil=>
   refine⟨.string ⟨#[]⟩,w,S,M,?_,hr,.p (.s [])⟩
   rfl
  | cons n ns=>
   obtain⟨ad,h1,_⟩:=hc 0 (.int .u8 n) rfl
   grind
 | some ad=>
  have hload:=run_loadCells_list (P:=P) w ad (ns.map (Value.int .u8)) (fun j u hu=>by
   grind)
  rw[Yw,hlen]at hload;refine⟨_,w,S,M,run_bytesToString (P:=P) w ad els.length cap ns hload,hr,?_⟩;rw[zqz];exact .p (.s _)
def zj7{t e:TypeId}{n:Nat}(ht:P.underlying t=some (.array n e))(hz:Zaq P e=some 1)(_hn:n≠0)(k:Nat) :
  (Instr.sliceAt t (.pointer (some ⟨k,0,none⟩)) none none none).run P w=.ok (.slice (some ⟨k,0,none⟩) n n) w:=by
 obtain⟨inf,hi,hi1⟩:=map_some hz;simp[Instr.sliceAt,run_underlying ht,Instr.sureAddr,Instr.sliceBounds,sizeOf,typeInfo,hi,Addr.add]
def zq1{t e:TypeId}{n:Nat}{v:Value}{x r:AV}{h':Heap}{clk':Nat}(ht:P.underlying t=some (.array n e))(hz:Zaq P e=some 1)(hn:n≠0)(hnm:n<=maxLen)(hr:RelF cx S M clk h ρ a w)
  (hv:C w S M clk v x) (hs:Zhs n x h clk=some (r,h',clk')) :
  ∃v' w' S' M',(Instr.sliceAt t v none none none).run P w=.ok v' w'/\RelF cx S' M' clk' h' ρ a w'/\C w' S' M' clk' v' r:=by
 unfold Zhs at hs;split at hs
 ·rename_i id g z;obtain⟨bx,hb,hs1⟩:=bind_some hs;obtain⟨hlk,hg,hzz⟩:=zaq hb;subst hg;split at hs1
  ·rename_i cs hcs;split at hs1
   ·rename_i hc;cases hs1;obtain⟨hzn,hkind,hpure⟩:=hc;obtain⟨_,hptr,_⟩:=hv.inv_ptr;obtain⟨hgc,hrows,m,hm,h3⟩:=hr.wr.heap.box id bx hlk;unfold Zc1 at hptr;rw[hm]at hptr;cases m with
    | none=>grind
    | some k=>
     obtain⟨arr0,e0,hblk,hsz,hcells,hS,hlt⟩:=ck' (zcl hb) h3;simp only[Yc9,Yaa]at hptr;subst hptr;have hSk:∀o,¬ S k o:=hS (by grind);refine⟨_,w,S,Zch M ((id,⟨clk,.own,1,cs.map fun c=>[c]⟩)::h) clk (some k),zj7 ht hz hn k,?_,?_⟩
     ·refine hr.set (bx':=⟨clk,.own,1,cs.map fun c=>[c]⟩) (k':=some k) (touched:=some k) (Ybf _) (.inl rfl) (fun hlt=>absurd hlt (Ya6 _))
       ⟨rfl,rfl,rfl,Yi _,fun _ _ _=>rfl,fun k' hk'=>⟨bx,hlk,by grind⟩,fun _ _ _ _ _ hc=>hc,fun _ arr e _ hb=>⟨arr,hb,rfl⟩⟩ (fun k' hk'=>.inr hk') ?_
      refine⟨Y1 _,fun r hr=>?_,some k,zam _ _ _ _,arr0,e0,hblk,?_,fun i r j c hi hj=>?_,fun _ o hs=>hSk o hs,fun o hs=>absurd hs (hSk o)⟩
      ·grind
      ·grind
      ·simp only[Yan,Y9]at hi;obtain⟨c',hc',rfl⟩:=hi;cases j with
       | succ j=>grind
       | zero=>
        simp at hj;subst hj;obtain⟨u,h1,h2,h4,_⟩:=hcells 0 cs i c' (by grind) hc';have hcp:CP w S u c':=h4.pureC (Yl.1 hpure c' (Yc hc'));exact⟨u,by grind,h2,.p hcp,fun _=>hcp⟩
     ·refine .bs _ _ _ _ _ _ (Y1 _) ?_ rfl
      grind[Zfc,zam]
   grind
  grind
 grind
def zq2{t tu e ty:TypeId}{inf:TypeInfo}{zv:Value}{l:List UInt8}(ht:P.underlying t=some (.slice e))(hu:P.underlying tu=some .string)(hi:P.info? e=some inf)(hz1:inf.size=1)(hzv:inf.zero=some zv) :
  SrcOk P w t tu ty e inf zv (.string ⟨l.toArray⟩) l.length (Lib.strCells ⟨l.toArray⟩):=by
 have hsz:(⟨l.toArray⟩:ByteArray).size=l.length:=by simp[ByteArray.size]
 refine⟨fun h b n cap hn=>?_,fun hm g sLen sCap cur e' hg hroom hfit=>?_,fun hm b sLen sCap olds hlo holds hg h63 hfit=>?_,fun hm h63 hb=>?_⟩
 ·have hl:l=[]:=Yag h;subst hl;have hf:=Lib.run_firstCells_string (P:=P) w inf.size ⟨#[]⟩;have hz:(⟨#[]⟩:ByteArray).size=0:=rfl;rw[hz]at hf;have hsc:Lib.strCells (⟨#[]⟩:ByteArray)=[]:=rfl;rw[hsc]at hf;cases b<;>simp[Builtin.append_,run_underlying ht,run_underlying hu,sizeOf,typeInfo,hi,Builtin.lenOf,hz,hn,hf,storeCells]
 ·have hf:=Lib.run_firstCells_string (P:=P) w inf.size ⟨l.toArray⟩;have hst:=run_storeCells_at P g (sLen*inf.size) e' (Lib.strCells ⟨l.toArray⟩) 0 cur w hg (by omega) (Lib.strCells_oneCell _);have e1:(⟨g,0,none⟩:Addr).add (sLen*inf.size)=⟨g,sLen*inf.size,none⟩:=by rw[zbc,Yar]
  rw[hsz]at hf;simp only[hz1,Ydn]at hst e1 hf ⊢;simp[Builtin.append_,run_underlying ht,run_underlying hu,sizeOf,typeInfo,hi,hz1,Builtin.lenOf,hsz,hroom,hf,e1,hst]
 ·grind[Lib.run_append_grow_string]
 grind[run_append_nil_string,Lib.strCells]
theorem zny(l:List UInt8):Rw w S 1 (Lib.strCells ⟨l.toArray⟩) (l.map fun b=>[AV.i .u8 b.toNat]):=by
 refine⟨by simp[Lib.strCells],fun r hr=>?_,Lib.strCells_oneCell _,fun i r j c hi hj=>?_⟩
 ·grind
 ·simp only[Yan,Y9]at hi;obtain⟨b,hb,rfl⟩:=hi;cases j with
  | succ j=>grind
  | zero=>
   simp at hj;subst hj;exact⟨.int .u8 b.toNat,by simp[Lib.strCells,hb],.i _ _⟩
def zq3{t tu e ty:TypeId}{inf:TypeInfo}{d:Option Nat}{v u:Value}{x y r:AV}{h':Heap}{clk':Nat}{zv:Value}(hr:RelF cx S M clk h ρ a w)(ht:P.underlying t=some (.slice e))(htu:P.underlying tu=some .string)(hi:P.info? e=some inf)
  (hz1:inf.size=1) (hby:inf.bytes<=32768) (hzv:inf.zero=some zv) (hzs:zv.cells.size=inf.size)
  (hv:C w S M clk v x) (hu:C w S M clk u y) (hs:Zht x y d h clk=some (r,h',clk')) :
  ∃v' w' S' M',(Builtin.append_ #[t,tu] ty #[v,u]).run P w=.ok v' w'/\RelF cx S' M' clk' h' ρ a w'/\C w' S' M' clk' v' r:=by
 unfold Zht at hs;split at hs
 ·rename_i l;have hstr:u=.string ⟨l.toArray⟩:=by
   cases hu with
   | p h=>cases h;rfl
  have hsrc:=zq2 (P:=P) (w:=w) (ty:=ty) (l:=l) ht htu hi hz1 hzv;have hlen:(l.map fun b=>[AV.i .u8 b.toNat]).length=l.length:=by simp
  have hb3:inf.size=3->inf.bytes<=56:=fun h=>by omega
  grind[ziu,zny]
 grind
def znz{o:Oper}{k:XOp}{xs:List Opd}{x:AV}{h':Heap}{clk':Nat}(hx:Zjg P o.op=some (k,xs))(hr:RelF cx S M clk h ρ a w)(hs:Zao k (xs.map (ev ρ)) o.dst h clk=some (x,h',clk')) :
  Zls P cx ρ a w o x h' clk':=by
 obtain⟨dst,oop,type,pos,after,guard⟩:=o;cases oop<;>simp only[Zjg]at hx<;>try (cases hx;done)
 case box t y=>
  obtain⟨n,hn,hx1⟩:=bind_some hx;obtain⟨p,hp,hx2⟩:=map_some hx1;cases hx2;obtain⟨v',w',S',M',h1,h2,h3⟩:=zt5 (P:=P) (t:=t) hr (ev_C hr.env hp) hs;exact⟨v',w',S',M',.inl (zgh h1),h2,h3⟩
 case makeMap t rv=>
  cases rv<;>simp only[Option.some.injEq]at hx<;>cases hx;obtain⟨v',w',S',M',h1,h2,h3⟩:=zqy (P:=P) (t:=t) hr hs;exact⟨v',w',S',M',.inl (zgh h1),h2,h3⟩
 case mapUpdate t m i y=>
  split at hx
  ·rename_i kt el ht;obtain⟨k,hk,hx1⟩:=bind_some hx;obtain⟨p,hp,hx2⟩:=bind_some hx1;obtain⟨q,hq,hx3⟩:=bind_some hx2;obtain⟨z,hz,hx4⟩:=map_some hx3;cases hx4;obtain⟨w',S',M',h1,h2,rfl⟩:=zi8 (P:=P) (q:=a.eval y) ht hk hr (ev_C hr.env hp) (ev_C hr.env hq) (ev_C hr.env hz) hs;exact⟨undef,w',S',M',.inr ⟨zls h1,rfl⟩,h2,.p (.dead _)⟩
  ·cases hx
 case insert t m i y=>
  split at hx
  ·rename_i kt el ht;obtain⟨k,hk,hx1⟩:=bind_some hx;obtain⟨p,hp,hx2⟩:=bind_some hx1;obtain⟨q,hq,hx3⟩:=bind_some hx2;obtain⟨z,hz,hx4⟩:=map_some hx3;cases hx4;obtain⟨w',S',M',h1,h2,rfl⟩:=zi8 (P:=P) (q:=a.eval y) ht hk hr (ev_C hr.env hp) (ev_C hr.env hq) (ev_C hr.env hz) hs;exact⟨undef,w',S',M',.inr ⟨zls h1,rfl⟩,h2,.p (.dead _)⟩
  ·cases hx
 case makeFunc fn first captured=>
  cases fn<;>simp only at hx<;>try (cases hx;done)
  split at hx
  ·rename_i f y h1 h2;obtain⟨p,hp,hx2⟩:=map_some hx;cases hx2;have e1:first=#[]:=by grind
   have e2:captured=#[y]:=by grind
   subst e1;subst e2;have hC:=ev_C hr.env hp;simp only[Yx,Ybl,Zao]at hs;unfold Zll at hs;split at hs
   ·rename_i id g z i o hy;split at hs<;>cases hs;rename_i hf0;rw[hy]at hC;obtain⟨c1,c2,c3⟩:=hC.inv_ptr;refine⟨_,w,S,M,.inl ?_,hr,.fnp _ _ _ _ _ _ _ c1 c2 c3⟩;rw[znd hf0];simp[execOp,Instr.makeFunc]
   grind
  ·rename_i f y h1 h2;obtain⟨p,hp,hx2⟩:=map_some hx;cases hx2;have e1:first=#[y]:=by grind
   have e2:captured=#[]:=by grind
   subst e1;subst e2;have hC:=ev_C hr.env hp;simp only[Yx,Ybl,Zao]at hs;unfold Zlm at hs;split at hs
   ·rename_i hn;cases hs;exact⟨.func (.func _) #[a.eval y] #[],w,S,M,.inl (by simp[execOp,Instr.makeFunc]),hr,.p (.fnv _ _ _ (hC.noRef hn))⟩
   grind
  grind
 case convert src dst y=>
  split at hx
  ·rename_i e hs1 hd1;split at hx
   ·rename_i he;obtain⟨p,hp,hx2⟩:=map_some hx;cases hx2;obtain⟨v',w',S',M',h1,h2,h3⟩:=zq0 (P:=P) hs1 he hd1 hr (ev_C hr.env hp) hs;exact⟨v',w',S',M',.inl (zgh h1),h2,h3⟩
   grind
  grind
 case slice t y lo hi mx=>
  split at hx
  ·split at hx
   ·rename_i n e ht;split at hx
    ·rename_i hc;obtain⟨p,hp,hx2⟩:=map_some hx;cases hx2;obtain⟨v',w',S',M',h1,h2,h3⟩:=zq1 (P:=P) ht hc.1 hc.2.1 hc.2.2 hr (ev_C hr.env hp) hs;exact⟨v',w',S',M',.inl (zgh h1),h2,h3⟩
    grind
   grind
  grind
 case call c=>
  obtain⟨callee,cargs,ats⟩:=c;cases callee with
  | invoke r m=>grind
  | value fv=>grind
  | builtin b=>
   simp only at hx;split at hx
   ·rename_i y1 y2 t u hargs hts;split at hx
    ·rename_i e ht;split at hx
     ·rename_i hz1;obtain⟨p,hp,hx1⟩:=bind_some hx;obtain⟨q,hq,hx2⟩:=map_some hx1;cases hx2;have ha:cargs=#[y1,y2]:=by grind
      have hat:ats=#[t,u]:=by grind
      subst ha;subst hat;obtain⟨v',w',S',M',h1,h2,h3⟩:=zt6 (P:=P) (sT:=u) (ty:=type) ht hz1 hr (ev_C hr.env hp) (ev_C hr.env hq) hs;exact⟨v',w',S',M',.inl (by simp[execOp,resolve,invoke,builtin,h1]),h2,h3⟩
     grind
    grind
   ·rename_i y1 y2 t u hargs hts;split at hx
    ·rename_i e ht hu;split at hx
     ·rename_i inf hi;split at hx
      ·rename_i hc;obtain⟨hz1,hby,hzc⟩:=hc;obtain⟨p,hp,hx1⟩:=bind_some hx;obtain⟨q,hq,hx2⟩:=map_some hx1;cases hx2;have ha:cargs=#[y1,y2]:=by grind
       have hat:ats=#[t,u]:=by grind
       subst ha;subst hat;cases hzv:inf.zero with
       | none=>grind
       | some zv=>
        obtain⟨v',w',S',M',h1,h2,h3⟩:=zq3 (P:=P) (ty:=type) hr ht hu hi hz1 hby hzv (by grind) (ev_C hr.env hp) (ev_C hr.env hq) hs;exact⟨v',w',S',M',.inl (by simp[execOp,resolve,invoke,builtin,h1]),h2,h3⟩
      grind
     grind
    grind
   grind
theorem zcf{x:Operand}{t:Nat}(h:Zj x=some (.t t)):x=.tmp t:=by
 cases x with
 | tmp u=>grind[Zj]
 | const v=>simp only[Zj]at h;simp_all
 | func f=>cases h
 | global g=>cases h
theorem zpi{op:Op}{k:XOp}{xs:List Opd}(hx:Zjg P op=some (k,xs))(t:Nat)(ht:Opd.t t∈xs):Operand.tmp t∈op.operands.toList:=by
 cases op<;>simp only[Zjg]at hx<;>try (cases hx;done)
 case box ty y=>
  obtain⟨n,hn,hx1⟩:=bind_some hx;obtain⟨p,hp,hx2⟩:=map_some hx1
  grind[zcf,Op.operands]
 case makeFunc fn first captured=>
  cases fn<;>simp only at hx<;>try (cases hx;done)
  split at hx
  ·obtain⟨p,hp,hx2⟩:=map_some hx
   grind[zcf,Op.operands]
  ·obtain⟨p,hp,hx2⟩:=map_some hx
   grind[zcf,Op.operands]
  grind
 case convert src dst y=>
  split at hx
  ·split at hx
   ·obtain⟨p,hp,hx2⟩:=map_some hx
    grind[zcf,Op.operands]
   grind
  grind
 case makeMap t rv=>
  cases rv<;>simp only[Option.some.injEq]at hx<;>cases hx;cases ht
 case mapUpdate t m i y=>
  split at hx
  ·obtain⟨k,hk,hx1⟩:=bind_some hx;obtain⟨p,hp,hx2⟩:=bind_some hx1;obtain⟨q,hq,hx3⟩:=bind_some hx2;obtain⟨z,hz,hx4⟩:=map_some hx3
   grind[zcf,Op.operands]
  ·cases hx
 case insert t m i y=>
  split at hx
  ·obtain⟨k,hk,hx1⟩:=bind_some hx;obtain⟨p,hp,hx2⟩:=bind_some hx1;obtain⟨q,hq,hx3⟩:=bind_some hx2;obtain⟨z,hz,hx4⟩:=map_some hx3
   grind[zcf,Op.operands]
  ·cases hx
 case slice sty y lo hi mx=>
  split at hx
  ·split at hx
   ·split at hx
    ·obtain⟨p,hp,hx2⟩:=map_some hx
     grind[zcf,Op.operands]
    grind
   grind
  grind
 case call c=>
  obtain⟨callee,cargs,ats⟩:=c;cases callee with
  | invoke r m=>grind
  | value fv=>grind
  | builtin b=>
   simp only at hx;split at hx
   ·split at hx
    ·split at hx
     ·obtain⟨p,hp,hx1⟩:=bind_some hx;obtain⟨q,hq,hx2⟩:=map_some hx1
      grind[Op.operands,Call.operands,zcf]
     grind
    grind
   ·split at hx
    ·split at hx
     ·split at hx
      ·obtain⟨p,hp,hx1⟩:=bind_some hx;obtain⟨q,hq,hx2⟩:=map_some hx1
       grind[Op.operands,Call.operands,zcf]
      grind
     grind
    grind
   grind
end
end
end Go.Ab