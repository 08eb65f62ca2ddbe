/-
  A calculus of values, boxes and code, and what functions of the program compute, proved in it.
  Conditions: none beyond those that the theorems state. (Part 10.)
-/
import Derived.Test.YtmojeopgpabkhaaGreatDoorPart9

set_option linter.unusedSectionVars false
set_option linter.unusedVariables false
set_option linter.unusedSimpArgs false
set_option linter.unnecessarySimpa false
set_option linter.defProp false
set_option maxRecDepth 100000

namespace Go.Ab
section
def l699_0:AX:=QZ "1HWs9ysSB.VTstEFLG1gDgL40jdM6kaLdgfHUIQDZrNrNkCwk4.IsIbUa9MFtkn5N.yazytFjiJ3Bip1GEbDJfpAARsOFA.G.2m6DqVYdrUfmw_8u8r3of8aYrx4AC1d3FV_Jon1whoOwq4ykPL2j._F80yGSHzoqz0egnR5fywJLmbJlxYDGRXxrb"
def l699_1:AX:=QZ "0BEKaTYJx5Jex3BNemjwsV7OfldPMJcDcwNDW.rxFqfJxWaPLhDc_0c4__2Ltox4W4MgrvchgAocE5NFdPxrgN67ooSIxocqSxZ0SKokKg1zM8AKfZJgA6WGPvhjXt6lV55zosSyOSl3FLRsid92S9L3t1UUgxUjCCsHdNrSz_QwDJy.VTvVSu6gI6c"
def b699:AX:=(fun p0=>QY [p0] [] "FjCFuVRLo_XMpsgc.98qGeYDzMX9G8KpmH9B2vw1eS7xrgGKBRqsaLIM9AOoQ1SXD5EnM_ZGY1FlaBq6tSPeeRddfgl.OlXISZY62V2ix8IFeyUAlzhqcDQXtB4qkgYlvd1_UkgOiKZhIfSZU7Bqjrm0wQBlKkzpX4uVT1QxsLvC4n7VkesD") ((fun p0 p1=>QY [p0,p1] [] "4IGw3au8Bou_.eBgEFbIFmzNJtN0g7Jy5YZ6Y7war8mWj4p2OPA8OYloIUMUTrLMuFW5ZmqDJmmUQHy0JQkEVIQQtma2DH4yq3aC9NDnHk9_IkAhTAoDhoX9LTsvHgHQlSMJKGmHekSdYvFN1h5CzkEoItUocDBj9V8HrP3whf5bRR1FMM6FhnPEbPknqW6jgYoqctE8ZKlHOT7Wtq_yPe_7KC6Yd0K6s8hxR75wKkZWw9P4MvQH2p0ERA27n43V7W_KiQR8wX74cAgIwd3rUUzSKtrcqkxO3q..v6T0kGd8DGAZ5.n7WnJr5BofXaJ7j4.BOga88S4jp5.ddT2PAj7xa7.4IltJJ3_hFftO_AgGlajRR.9zW2CFQs07pERhD") l699_0 l699_1)
def l700_0:AX:=QZ "sqh9FsVEmO2NJSg51p21hyqv_oG_3pFjFi.xCcOTCLAWwy8r6Qj8frwNz6b8XGRjD2LExpFhgrUCwI4oxwoJCkvHYCqBhYe"
def l700_1:AX:=(fun p0=>QY [p0] [] "0tD3Po7agxYQq9lT6_irq7DSE3gOOdPenxNqiDeQmAn1e3_iDex4JBhQGnX_5tGP5bfQKeOAGUyUrtEBpe0pxMLVYyn5SH4fcI8_xiYidawsUXe6E6SvCDtEVWghx5RoUhRJORjumY9pvc") l700_0
def b700:AX:=(fun p0=>QY [p0] [] "0Sxq4UrfNVCnG_RyIJJqHp.IJGIlV2TC_gvCUSh5Bp2.rnpxVVmKwmouytbrTZ8cKrh6HBEQSPB7CpvXwZja6WohlmXELxS1") l700_1
abbrev row699:AFx:=⟨2,223,[.t 4],b699,none,false⟩
abbrev row700:AFx:=⟨3,68,[.t 6,.t 7],b700,none,false⟩
class Zde (T:Tbl):Prop where
 h699:Tr T 699=some row699
 h700:Tr T 700=some row700
attribute [simp] Zde.h699 Zde.h700
end
section
open Go.RowKit
def opU:AOp->List Nat
 | .call u _=>[u]
 | .ifc k _=>[1000000+k]
 | .inv _ k u _ _=>[1000000+k,u]
 | .xop (.mkf k) _ | .xop (.mkv k) _=>[1000000+k]
 | _=>[]
def cXs:AX->List Nat
 | .reg l=>l.flatMap fun o=>opU o.op
 | .draw l=>l.flatMap fun o=>opU o.ao.op
 | .drawT hd tl=>(hd.flatMap fun o=>opU o.op)++tl.flatMap fun o=>opU o.op
 | .drawM hd tl=>(hd.flatMap fun o=>opU o.op)++tl.flatMap fun o=>opU o.op
 | .drawC l1 o l2 tl=>(l1.flatMap fun o=>opU o.op)++(opU o.op++((l2.flatMap fun o=>opU o.op)++tl.flatMap fun o=>opU o.op))
 | .drawN l1 o l2=>(l1.flatMap fun o=>opU o.ao.op)++(opU o.op++l2.flatMap fun o=>opU o.ao.op)
 | .drawR hd tl=>(hd.flatMap fun o=>opU o.op)++tl.flatMap fun o=>opU o.op
 | .drawP l1 o l2 _ _ _ _ _=>(l1.flatMap fun o=>opU o.ao.op)++(opU o.op++l2.flatMap fun o=>opU o.ao.op)
 | .seq a b=>cXs a++cXs b
 | .cond _ x y=>cXs x++cXs y
 | .block _ c | .loop c | .note c _ | .pre _ c | .scope c | .lp _ _ c _=>cXs c
 | .gsc _ c r=>cXs c++cXs r
 | _=>[]
structure Agr (R:Nat->Bool) (T T':Tbl) (O O':Orc):Prop where
 tbl:∀u,R u=true->T u=T' u
 call:∀u xs hb,R u=true->O.call u xs hb=O'.call u xs hb
 loop:∀k c st,(∀u∈cXs c,R u=true)->O.loop k c st=O'.loop k c st
section
variable{R:Nat->Bool}{T T':Tbl}{O O':Orc}
theorem zjt(h:Agr R T T' O O'){u:Nat}(hu:R u=true){xs:List AV}{d:Option Nat}{st:St}:Zar O T u xs d st=Zar O' T' u xs d st:=by
 unfold Zar;rw[h.tbl u hu];simp only[h.call u _ _ hu]
def z6u(h:Agr R T T' O O'){op:AOp}(hu:∀u∈opU op,R u=true){d:Option Nat}{st:St}:opX O T op d st=opX O' T' op d st:=by
 cases op<;>simp only[opX]
 case call u args=>exact zjt h (hu _ (by simp[opU]))
 case ifc k x=>unfold Zf;rw[h.tbl _ (hu _ (by simp[opU]))]
 case inv nm k u r args=>
  have e1:Zf T k=Zf T' k:=by unfold Zf;rw[h.tbl _ (hu _ (by simp[opU]))]
  have e2:Zad T k=Zad T' k:=by unfold Zad;rw[h.tbl _ (hu _ (by simp[opU]))]
  have e3:Zft T k=Zft T' k:=by unfold Zft;rw[h.tbl _ (hu _ (by simp[opU]))]
  grind[zjt,opU]
 case xop k xs=>
  cases k<;>simp only
  all_goals rename_i k
  all_goals
   have e1:Zf T k=Zf T' k:=by unfold Zf;rw[h.tbl _ (hu _ (by simp[opU]))]
   rw[e1]
def zyq(h:Agr R T T' O O'){o:AO}(hu:∀u∈opU o.op,R u=true){st:St}:Zh8 O T o st=Zh8 O' T' o st:=by
 unfold Zh8 gX;simp only[z6u h hu]
theorem zfi(h:Agr R T T' O O'):∀(l:List AO),(∀o∈l,∀u∈opU o.op,R u=true)->∀st,Zey O T l st=Zey O' T' l st
 | [],_,st=>rfl
 | o::l,hu,st=>by
  simp only[Zey];rw[zyq h (hu o Yv)];congr 1
  funext s
  exact zfi h l (fun o ho=>hu o (Yk _ ho)) s
def z6v(h:Agr R T T' O O'){op:AOp}(hu:∀u∈opU op,R u=true){e:Env}{hp:Heap}{older:List Heap}:opD O T op e hp older=opD O' T' op e hp older:=by
 by_cases hap:∃z x0 y,op=.app z x0 y
 ·obtain⟨z,x0,y,rfl⟩:=hap;by_cases hc:x0=.c (.sl [] .nl)
  ·subst hc;rfl
  ·rw[zrk hc,zrk hc]
 cases op<;>(try exact absurd ⟨_,_,_,rfl⟩ hap)<;>simp only[opD]
 case call u args=>
  rw[h.tbl _ (hu _ (by simp[opU]))];simp only[h.call _ _ _ (hu _ (show u∈_ by simp[opU]))]
 case ifc k x=>unfold Zf;rw[h.tbl _ (hu _ (by simp[opU]))]
 case inv nm k u r args=>
  have e1:Zf T k=Zf T' k:=by unfold Zf;rw[h.tbl _ (hu _ (by simp[opU]))]
  have e2:Zad T k=Zad T' k:=by unfold Zad;rw[h.tbl _ (hu _ (by simp[opU]))]
  rw[e1,e2,h.tbl u (hu u (by simp[opU]))];simp only[h.call u _ _ (hu u (by simp[opU]))]
def zju(h:Agr R T T' O O'){o:AO}(hu:∀u∈opU o.op,R u=true){e:Env}{hp:Heap}{older:List Heap}:qX O T o e hp older=qX O' T' o e hp older:=by
 unfold qX;simp only[z6v h hu]
def zou(h:Agr R T T' O O'){u:Nat}(hu:R u=true){ys:List AV}:Zfj O T u ys=Zfj O' T' u ys:=by
 unfold Zfj;rw[h.tbl u hu];simp only[h.call u _ _ hu]
theorem zjv(h:Agr R T T' O O'):∀(l:List DO),(∀o∈l,∀u∈opU o.ao.op,R u=true)->∀e hp clk older pend,Zch O T l e hp clk older pend=Zch O' T' l e hp clk older pend
 | [],_,e,hp,clk,older,pend=>rfl
 | o::l,hu,e,hp,clk,older,pend=>by
  have ih:=zjv h l (fun o ho=>hu o (Yk _ ho));simp only[Zch];rw[zju h (hu o Yv)];simp only[ih];cases o.ao.op.writes with
  | true=>rfl
  | false=>
   cases hrow:Zg5 o.ao.guard o.ao.op.callN e hp (older.take (older.length-o.lo)) with
   | none=>rfl
   | some p=>
    obtain⟨_,args,hop,_⟩:=zgs hrow;have hp:R p.1=true:=hu o Yv _ (by rw[hop];simp[opU]);simp only[zou h hp]
theorem zov(h:Agr R T T' O O')(tl:List AO)(ht:∀o∈tl,∀u∈opU o.op,R u=true):∀(l:List AO),(∀o∈l,∀u∈opU o.op,R u=true)->∀e hp clk,Zdp O T tl l e hp clk=Zdp O' T' tl l e hp clk
 | [],_,e,hp,clk=>zfi h tl ht _
 | o::l,hu,e,hp,clk=>by
  have ih:=zov h tl ht l (fun o ho=>hu o (Yk _ ho));simp only[Zdp];rw[zju h (hu o Yv)];simp only[ih];cases hrow:Zg5 o.guard o.op.callN e hp []with
  | none=>rfl
  | some p=>
   obtain⟨_,args,hop,_⟩:=zgs hrow;have hp:R p.1=true:=hu o Yv _ (by rw[hop];simp[opU]);simp only[zou h hp]
theorem zow(h:Agr R T T' O O')(tl:List AO)(ht:∀o∈tl,∀u∈opU o.op,R u=true):∀(l:List AO),(∀o∈l,∀u∈opU o.op,R u=true)->∀e hp clk,Zfk O T tl l e hp clk=Zfk O' T' tl l e hp clk
 | [],_,e,hp,clk=>zfi h tl ht _
 | o::l,hu,e,hp,clk=>by
  have ih:=zow h tl ht l (fun o ho=>hu o (Yk _ ho));simp only[Zfk];rw[zju h (hu o Yv)];simp only[ih]
def zyr(h:Agr R T T' O O'){u:Nat}(hu:R u=true){xs:List AV}{d clk:Nat}:Zfl O T u xs d clk=Zfl O' T' u xs d clk:=by
 unfold Zfl;rw[h.tbl u hu];simp only[h.call u _ _ hu]
theorem zox(h:Agr R T T' O O')(tl:List AO)(ht:∀o∈tl,∀u∈opU o.op,R u=true)(h0:Heap)(c0:Nat)(X:Heap):∀(l:List AO),(∀o∈l,∀u∈opU o.op,R u=true)->∀e hp clk,Zbr O T tl h0 c0 X l e hp clk=Zbr O' T' tl h0 c0 X l e hp clk
 | [],_,e,hp,clk=>zfi h tl ht _
 | o::l,hu,e,hp,clk=>by
  have ih:=zox h tl ht h0 c0 X l (fun o ho=>hu o (Yk _ ho));simp only[Zbr];rw[zju h (hu o Yv)];simp only[ih];cases hm:o.op.maker with
  | true=>rfl
  | false=>
   cases hst:o.op.isStore with
   | true=>rfl
   | false=>
   cases hl:o.op.lentN with
   | none=>rfl
   | some ua=>
    have hua:R ua.1=true:=hu o Yv _ (by rw[zlw hl];simp[opU]);simp only[zyr h hua]
theorem ziq(h:Agr R T T' O O'){K K':Env->Zaw->Option St}(hK:∀e pend,K e pend=K' e pend)(hp:Heap):∀(l:List DO),(∀o∈l,∀u∈opU o.ao.op,R u=true)->∀e pend,Zeo O T K hp l e pend=Zeo O' T' K' hp l e pend
 | [],_,e,pend=>hK e pend
 | o::l,hu,e,pend=>by
  have ih:=ziq h hK hp l (fun o ho=>hu o (Yk _ ho));simp only[Zeo];rw[zju h (hu o Yv)];simp only[ih]
theorem zoy(h:Agr R T T' O O'){K K':Env->Option St}(hK:∀e,K e=K' e)(h0 h1:Heap):∀(l:List AO),(∀o∈l,∀u∈opU o.op,R u=true)->∀e,Zep O T K h0 h1 l e=Zep O' T' K' h0 h1 l e
 | [],_,e=>hK e
 | o::l,hu,e=>by
  have ih:=zoy h hK h0 h1 l (fun o ho=>hu o (Yk _ ho));simp only[Zep];rw[zju h (hu o Yv)];simp only[ih]
def zjw(h:Agr R T T' O O'){o:AO}(hu:∀u∈opU o.op,R u=true){st:St}:Zfy O T o st=Zfy O' T' o st:=by
 obtain⟨d,g,op⟩:=o;cases op
 case call u args=>
  cases g<;>cases d<;>simp only[Zfy];exact zjt h (hu u (by simp[opU]))
 all_goals cases g<;>cases d<;>rfl
def zys(h:Agr R T T' O O')(l1:List AO)(o:AO)(l2 tl:List AO)(hu:∀u∈cXs (.drawC l1 o l2 tl),R u=true)(st:St):Zia O T l1 o l2 tl st=Zia O' T' l1 o l2 tl st:=by
 have u1:∀o∈l1,∀u∈opU o.op,R u=true:=fun o ho u hou=>hu u (Y8 _ (Yac.2 ⟨o,ho,hou⟩));have u2:∀u∈opU o.op,R u=true:=fun u hou=>hu u (Ys _ (Y8 _ hou));have u3:∀o∈l2,∀u∈opU o.op,R u=true:=fun o ho u hou=>hu u (Ys _ (Ys _ (Y8 _ (Yac.2 ⟨o,ho,hou⟩))));have u4:∀o∈tl,∀u∈opU o.op,R u=true:=fun o ho u hou=>hu u (Ys _ (Ys _ (Ys _ (Yac.2 ⟨o,ho,hou⟩))));unfold Zia;refine ziq h (fun e pend=>?_) _ _ (fun o ho=>?_) _ _
 ·rw[zjw h u2];congr 1
  funext s
  rw[zoy h (fun e=>zfi h tl u4 _) _ _ l2 u3]
 ·obtain⟨o',ho',rfl⟩:=Yu.1 ho;exact u1 o' ho'
def zyt(h:Agr R T T' O O')(l1:List DO)(o:AO)(l2:List DO)(hu:∀u∈cXs (.drawN l1 o l2),R u=true)(st:St):Zib O T l1 o l2 st=Zib O' T' l1 o l2 st:=by
 have u1:∀o∈l1,∀u∈opU o.ao.op,R u=true:=fun o ho u hou=>hu u (Y8 _ (Yac.2 ⟨o,ho,hou⟩));have u2:∀u∈opU o.op,R u=true:=fun u hou=>hu u (Ys _ (Y8 _ hou));have u3:∀o∈l2,∀u∈opU o.ao.op,R u=true:=fun o ho u hou=>hu u (Ys _ (Ys _ (Yac.2 ⟨o,ho,hou⟩)));unfold Zib;congr 1;refine ziq h (fun e pend=>?_) _ _ (fun o ho=>?_) _ _
 ·rw[zjw h u2];congr 1
  funext s
  rw[zjv h _ fun o ho=>?_];obtain⟨o',ho',rfl⟩:=Yu.1 ho;exact u3 o' ho'
 ·obtain⟨o',ho',rfl⟩:=Yu.1 ho;exact u1 o' ho'
theorem zoz(h:Agr R T T' O O'){K K':Env->Option St}(hK:∀e,K e=K' e)(hs:List Heap)(h1:Heap):∀(l:List AO),(∀o∈l,∀u∈opU o.op,R u=true)->∀e,Zeq O T K hs h1 l e=Zeq O' T' K' hs h1 l e
 | [],_,e=>hK e
 | o::l,hu,e=>by
  have ih:=zoz h hK hs h1 l (fun o ho=>hu o (Yk _ ho));simp only[Zeq];rw[zju h (hu o Yv)];simp only[ih]
def zyu(h:Agr R T T' O O')(l1:List DO)(o:AO)(l2:List DO)(da:Nat)(cs:List AV)(n:Nat)(xs vs:Opd)(hu:∀u∈cXs (.drawP l1 o l2 da cs n xs vs),R u=true)(st:St):Zg0 O T l1 o l2 da cs n xs vs st=Zg0 O' T' l1 o l2 da cs n xs vs st:=by
 have u1:∀o∈l1,∀u∈opU o.ao.op,R u=true:=fun o ho u hou=>hu u (Y8 _ (Yac.2 ⟨o,ho,hou⟩));have u2:∀u∈opU o.op,R u=true:=fun u hou=>hu u (Ys _ (Y8 _ hou));have u3:∀o∈l2,∀u∈opU o.ao.op,R u=true:=fun o ho u hou=>hu u (Ys _ (Ys _ (Yac.2 ⟨o,ho,hou⟩)));unfold Zg0;congr 1;refine ziq h (fun e pend=>?_) _ _ (fun o ho=>?_) _ _
 ·simp only[zjw h u2];congr 1
  funext s1
  congr 1
  funext s2
  rw[zoz h (fun e=>rfl) _ _ _ fun o ho=>?_];obtain⟨o',ho',rfl⟩:=Yu.1 ho;exact u3 o' ho'
 ·obtain⟨o',ho',rfl⟩:=Yu.1 ho;exact u1 o' ho'
theorem zcn(h:Agr R T T' O O')(k:Nat):∀(c:AX),(∀u∈cXs c,R u=true)->∀st,evX O T k c st=evX O' T' k c st
 | .skip,_,st=>rfl
 | .reg l,hu,st=>by
  simp only[evX];rw[zfi h l fun o ho u hou=>hu u (Yac.2 ⟨o,ho,hou⟩)]
 | .draw l,hu,st=>by
  simp only[evX];rw[zjv h l fun o ho u hou=>hu u (Yac.2 ⟨o,ho,hou⟩)]
 | .drawT hd tl,hu,st=>by
  simp only[evX];rw[zow h tl (fun o ho u hou=>hu u (Ys _ (Yac.2 ⟨o,ho,hou⟩))) hd (fun o ho u hou=>hu u (Y8 _ (Yac.2 ⟨o,ho,hou⟩)))]
 | .drawM hd tl,hu,st=>by
  simp only[evX];rw[zox h tl (fun o ho u hou=>hu u (Ys _ (Yac.2 ⟨o,ho,hou⟩))) _ _ _ hd (fun o ho u hou=>hu u (Y8 _ (Yac.2 ⟨o,ho,hou⟩)))]
 | .drawC l1 o l2 tl,hu,st=>by
  simp only[evX];rw[zys h l1 o l2 tl hu]
 | .drawN l1 o l2,hu,st=>by
  simp only[evX];rw[zyt h l1 o l2 hu]
 | .drawR hd tl,hu,st=>by
  simp only[evX];rw[zov h tl (fun o ho u hou=>hu u (Ys _ (Yac.2 ⟨o,ho,hou⟩))) hd (fun o ho u hou=>hu u (Y8 _ (Yac.2 ⟨o,ho,hou⟩)))]
 | .drawP l1 o l2 da cs n xs vs,hu,st=>by
  simp only[evX];rw[zyu h l1 o l2 da cs n xs vs hu]
 | .bad,_,st=>rfl
 | .prim f,_,st=>rfl
 | .seq a b,hu,st=>by
  simp only[evX];rw[zcn h k a fun u hm=>hu u (Y8 _ hm)];congr 1
  funext r
  rw[zcn h k b fun u hm=>hu u (Ys _ hm)]
 | .cond c x y,hu,st=>by
  simp only[evX];rw[zcn h k x fun u hm=>hu u (Y8 _ hm),zcn h k y fun u hm=>hu u (Ys _ hm)]
 | .block id c,hu,st=>by
  simp only[evX];rw[zcn h k c hu]
 | .loop c,hu,st=>h.loop k c st hu
 | .exit id,_,st=>rfl
 | .ret,_,st=>rfl
 | .note c g,hu,st=>by
  simp only[evX];rw[zcn h k c hu]
 | .pre g c,hu,st=>by
  simp only[evX];congr 1
  funext s
  exact zcn h k c hu s
 | .scope c,hu,st=>by
  simp only[evX];rw[zcn h k c hu]
 | .label _,_,st=>rfl
 | .goto _,_,st=>rfl
 | .gsc l c r,hu,st=>by
  simp only[evX];rw[zcn h k c fun u hm=>hu u (Y8 _ hm)];congr 1
  funext s
  exact zcn h k r (fun u hm=>hu u (Ys _ hm)) s
 | .lp id g c g2,hu,st=>by
  simp only[evX,h.loop k c _ hu]
def zyv(hc:∀u af,R u=true->T u=some af->∀v∈cXs af.body,R v=true)(h:Agr R T T' O O'):Agr R T T' (Zed T O) (Zed T' O') where
 tbl:=h.tbl
 call u xs hb hu:=by
  simp only[Zed];rw[<-h.tbl u hu];cases ht:T u with
  | none=>rfl
  | some af=>
   grind[zcn]
 loop k c st hu:=by
  simp only[Zed];rw[zcn h k c hu];congr 1
  funext r
  rw[h.loop k c _ hu]
theorem zmz(ht:∀u,R u=true->T u=T' u)(hc:∀u af,R u=true->T u=some af->∀v∈cXs af.body,R v=true):∀n,Agr R T T' (orcN T n) (orcN T' n)
 | 0=>⟨ht,fun _ _ _ _=>rfl,fun _ _ _ _=>rfl⟩
 | n+1=>zyv hc (zmz ht hc n)
def z6w(ht:∀u,R u=true->T u=T' u)(hc:∀u af,R u=true->T u=some af->∀v∈cXs af.body,R v=true):Agr R T T' (orc T) (orc T'):=by
 refine⟨ht,fun u xs hb hu=>?_,fun k c st hu=>?_⟩
 ·simp only[orc];congr 1
  funext n
  exact(zmz ht hc n).call u xs hb hu
 ·simp only[orc];congr 1
  funext n
  exact(zmz ht hc n).loop k c st hu
end
def zeg{l:List (Nat×AFx)}{u:Nat}{af:AFx}(h:l.lookup u=some af):(u,af)∈l:=by
 induction l with
 | nil=>cases h
 | cons q l ih=>
  grind
structure Part (l l':List (Nat×AFx)):Prop where
 sub:∀p∈l',l.lookup p.1=some p.2
 clo:(l'.all fun p=>(cXs p.2.body).all fun v=>(l'.lookup v).isSome || (l.lookup v).isNone)=true
def Part.agr{l l':List (Nat×AFx)}(h:Part l l'):Agr (fun u=>(l'.lookup u).isSome || (l.lookup u).isNone) (fun u=>l.lookup u) (fun u=>l'.lookup u) (orc fun u=>l.lookup u) (orc fun u=>l'.lookup u):=by
 refine z6w (fun v hv=>?_) (fun v a hv hva w hw=>?_)
 ·cases hv2:l'.lookup v with
  | none=>
   cases hv3:l.lookup v with
   | none=>rfl
   | some a=>grind
  | some a=>exact h.sub _ (zeg hv2)
 ·cases hv2:l'.lookup v with
  | none=>grind
  | some b=>
   have hb:=zeg hv2;have h1:=h.sub _ hb;rw[hva]at h1;cases h1;exact Yn.1 (Yn.1 h.clo _ hb) w hw
def Part.ev{l l':List (Nat×AFx)}(h:Part l l'){c:AX}(hc:((cXs c).all fun v=>(l'.lookup v).isSome)=true){st:St}{r:Option (Ex×St)}
  (he:evX (orc fun u=>l.lookup u) (fun u=>l.lookup u) 0 c st=r):evX (orc fun u=>l'.lookup u) (fun u=>l'.lookup u) 0 c st=r:=by
 rw[<-zcn h.agr 0 c (fun v hv=>by grind) st];omega
def Part.call{l l':List (Nat×AFx)}(h:Part l l'){u:Nat}(hu:(l'.lookup u).isSome=true){xs:List AV}{r:Option AV}(he:Za (fun u=>l.lookup u) u xs=r):Za (fun u=>l'.lookup u) u xs=r:=by
 rw[<-he];unfold Za;rw[h.agr.call u xs [] (by grind)]
end
end Go.Ab