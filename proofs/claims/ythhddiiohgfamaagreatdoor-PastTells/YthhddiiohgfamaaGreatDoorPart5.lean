/-
  A calculus of values, boxes and code, and what functions of the program compute, proved in it.
  Conditions: none beyond those that the theorems state. (Part 5.)
-/
import Derived.Test.YthhddiiohgfamaaGreatDoorPart4
import Derived.Lib.IndexAny
import Derived.Lib.Bytealg

set_option linter.unusedSectionVars false
set_option linter.unusedVariables false
set_option linter.unusedSimpArgs false
set_option linter.unnecessarySimpa false
set_option linter.defProp false
set_option maxRecDepth 100000

namespace Go.Ab
section
def l198_0:AX:=QZ "1UD5RzHq4aCwPXCCnYPVj4FQOTWhxnQ"
def b198:AX:=(fun p0=>QY [p0] [] "3iPTeuWEQgehqy_JiPOpwL") l198_0
def l199_0:AX:=QZ "7NRdCph5d.Gkk7LU3XxBH5tuFUmdZGc.N07TUvbNJ7_BXtRIsy1mwIyqHh_ejU"
def b199:AX:=(fun p0=>QY [p0] [] "0hzLWKYhiIqLoLfWrsegFyuVG4r58WQb4t3hsrBjULH7q1blg7kWrIjOeyrH13yunfgcmQMuiEujfEvuK2uVvcjLjL4LEqP4zwCGvQo7DPwodMiBIAKnArN2t_AqE3Vptr21SCmZRpY6CNHdmxswev_bo9") l199_0
def b200:AX:=QZ "HNFwjTpO5Ig6PsTpGDLqrDn48b9j0WF9og0"
def b201:AX:=QZ "5iRYrBtVZo1VnIXpI46Dhw1U2scnL_lx59m67oFze6lskknTOykevgP_Eg.IuVJJGZ8jtPaA7qcpzglvjLzggJlKoFjIwq_0GPrQHXqVrwg5pOlg_7cOLzcbqLdULMpDRhK2UAvLGZziN27R_nomhJRt"
abbrev row198:AFx:=⟨2,12,[.t 4],b198,none,false⟩
abbrev row199:AFx:=⟨2,56,[.t 4],b199,none,false⟩
abbrev row200:AFx:=⟨1,12,[.t 2],b200,none,false⟩
abbrev row201:AFx:=⟨2,37,[.t 4,.t 5],b201,none,false⟩
class Zo (T:Tbl):Prop where
 h198:Tr T 198=some row198
 h199:Tr T 199=some row199
 h200:Tr T 200=some row200
 h201:Tr T 201=some row201
attribute [simp] Zo.h198 Zo.h199 Zo.h200 Zo.h201
end
section
def b202:AX:=QZ "5N3cWlKOWmilGkHPYwRqMPDplpOMsoduVnMjkBwaaDtgAooXQnOdCYVFLIawI45gvUi9UsS"
def b203:AX:=QZ "2zuVZpj7SWQ8J.k1ihXAzYg3puRACeJgmDGlQr1.WUFRQwAvsIn5rq2Csuj3qekG"
def b205:AX:=QZ "7MatE9CniUX5gf34F9SXuDP1km58."
def b207:AX:=QZ "5nuMW4HdE_XAWV4qA0wH2mRWwp.l"
def b209:AX:=QZ "LSh7iC9f7Mw3gbeQxSUEMgI3kabc071_uxPEb7B2WYWzdLSikcB"
def b210:AX:=QZ "1I._rDAvzJYbiatcx_Qpto3J.hS9"
def b211:AX:=QZ "safUwhClcYxhhBSAWoF9BQY5uf1bLlk.vpwHgUP5.moP8Py0Ss7fYHRWmwMSZpGoCsy1lMAfA_lcumBs2ij46.piDoqJHhK3WzjPW8"
def b212:AX:=QZ "uv1z.d2FeuJVlufA6iaaRroBr38"
def b215:AX:=QZ "2kUUghenW6_oC49IwfEbRgr6N1T6gvvG5p.tAq2pjBgMauEWt8VIV5ttgPCUXu8h1VSo2SXnIEvpMz8dNuyAk_rbAnpNk1yi_PLZK_T1uGbZDtlBkpg.c"
def b217:AX:=QZ "6slqV5TlEfD9yanxvs9cJ.RhK2eSo3DbPVXkrBwkTPEN9euJ91cx88ufR26jJ73jRwxHOxhL3wCu5.DJh.BvUg9Qh59Yg1PXNOrI_Gsa"
abbrev row202:AFx:=⟨2,21,[.cell 4 (some 3)],b202,none,false⟩
abbrev row203:AFx:=⟨1,13,[.cell 2 (some 2),.t 3],b203,none,false⟩
abbrev row205:AFx:=⟨1,7,[.cell 2 (some 3)],b205,none,false⟩
abbrev row207:AFx:=⟨1,8,[.cell 2 (some 3)],b207,none,false⟩
abbrev row209:AFx:=⟨1,12,[.t 2],b209,none,false⟩
abbrev row210:AFx:=⟨2,9,[.cell 4 (some 2)],b210,none,false⟩
abbrev row211:AFx:=⟨2,26,[.t 4],b211,none,false⟩
abbrev row212:AFx:=⟨2,9,[.t 4],b212,none,false⟩
abbrev row215:AFx:=⟨2,30,[.cell 4 (some 3)],b215,none,false⟩
abbrev row217:AFx:=⟨2,26,[.cell 4 (some 3)],b217,none,false⟩
class Z0 (T:Tbl):Prop where
 h202:Tr T 202=some row202
 h203:Tr T 203=some row203
 h205:Tr T 205=some row205
 h207:Tr T 207=some row207
 h209:Tr T 209=some row209
 h210:Tr T 210=some row210
 h211:Tr T 211=some row211
 h212:Tr T 212=some row212
 h215:Tr T 215=some row215
 h217:Tr T 217=some row217
attribute [simp] Z0.h202 Z0.h203 Z0.h205 Z0.h207 Z0.h209 Z0.h210 Z0.h211 Z0.h212 Z0.h215 Z0.h217
section
variable{T:Tbl}[Z0 T]{d:Option Nat}{st:St}{xs:List AV}{ps:List Opd}{e:Env}{h:Heap}{ol:List Heap}
def f217(xs:List AV)(hn:xs.length=2):Zb T 217 xs=Zgv [.cell 4 (some 3)] false (evX (orc T) T 0 b217 ⟨Zbn xs,[],1⟩):=zaa Z0.h217 hn
end
end
section
def b204:AX:=QZ "1IR__d8RJUpkXFHYMV_DHF4t1B_3t87DiSgjqo4CutUAlBjQBIJ.o2"
abbrev row204:AFx:=⟨2,12,[.cell 4 (some 3),.t 5],b204,none,false⟩
class Zc1 (T:Tbl):Prop where
 h204:Tr T 204=some row204
attribute [simp] Zc1.h204
end
section
def b208:AX:=QZ "JOFGMyklTS9oudtR9rJM2not1gmHbMekJ8q_Ph6RkpGYn1lEf8Qap9u_BSKN6QvdOxB9j2ftEHD.mmhsIxcQie22UU22NBxZp41m588D.wnwU2QQYuCihCdHdJsw.C1chg7lR4wiCbm7VHhdEebhHgwRme896SO22AY.MLtQNgV3H"
abbrev row208:AFx:=⟨1,51,[.t 2],b208,none,false⟩
class Zbf (T:Tbl):Prop where
 h208:Tr T 208=some row208
attribute [simp] Zbf.h208
end
class Zb3 (T:Tbl):Prop where
def prim344:List AV->Option AV
 | [.s s,.s [47,46]]=>if s.length<=1000000 then some (.i .i64 (Lib.indexAny s [47,46])) else none
 | _=>none
def prim194:List AV->Option AV
 | [.s s,.s [c]]=>some (.i .i64 (Lib.indexByte s c))
 | _=>none
def prim361:List AV->Option AV
 | [.s s,.s [c]]=>some (.i .i64 (Lib.countByte s c))
 | _=>none
def prim343:List AV->Option AV
 | [.s [48],.i .i64 n]=>if 0<=n/\n<=64 then some (.s (List.replicate n.toNat 48)) else none
 | _=>none
section
abbrev row344:AFx:=⟨0,0,[],.prim prim344,none,false⟩
abbrev row194:AFx:=⟨0,0,[],.prim prim194,none,false⟩
abbrev row361:AFx:=⟨0,0,[],.prim prim361,none,false⟩
class Zdp (T:Tbl):Prop where
 h344:Tr T 344=some row344
 h194:Tr T 194=some row194
 h361:Tr T 361=some row361
attribute [simp] Zdp.h344 Zdp.h194 Zdp.h361
section
variable{T:Tbl}[Zdp T]{d:Option Nat}{st:St}{xs:List AV}{ps:List Opd}{e:Env}{h:Heap}{ol:List Heap}
def p344(xs:List AV):Zb T 344 xs=prim344 xs:=zc4 Zdp.h344
def p194(xs:List AV):Zb T 194 xs=prim194 xs:=zc4 Zdp.h194
def p361(xs:List AV):Zb T 361 xs=prim361 xs:=zc4 Zdp.h361
end
end
section
def b346:AX:=QY [] [(AV.i .i64 (-1))] "5Juz_BaqZvJgI97zycrZou"
def l354_0:AX:=QZ "EDDCMUa.J6yFhe.fCftXGkQLirw3Dj9v0hMiKAXeWZSloISNjPd86mf3S6e3uVLpG6r51P7NrQZk_Pg7_CkfJWYchHXvQ"
def b354:AX:=(fun p0=>QY [p0] [] "0iBT.YHc1xGQ.Ll0.KBo0neJ6J7T.ZKWAnu7l9h1QAzObT6yQP_1aRqC8ixpogNYGw.BfGLqnQKD9I8djLW0OsryOlTfZo2dyq4w89sTzHbz9ItWVr8aG7j8tYmz8Vp9iJ9zM8Fko3aXZC31F16o9B4NGtbRF") l354_0
def b362:AX:=QZ "Ge2YugJyrxAs5OTYYk2"
def b345:AX:=QZ "A69jBiGSCY6ew7gfL7S"
abbrev row346:AFx:=⟨2,8,[.t 4],b346,none,false⟩
abbrev row354:AFx:=⟨4,66,[.t 8],b354,none,false⟩
abbrev row362:AFx:=⟨2,8,[.t 4],b362,none,false⟩
abbrev row345:AFx:=⟨2,8,[.t 4],b345,none,false⟩
class Za1 (T:Tbl):Prop where
 h346:Tr T 346=some row346
 h354:Tr T 354=some row354
 h362:Tr T 362=some row362
 h345:Tr T 345=some row345
attribute [simp] Za1.h346 Za1.h354 Za1.h362 Za1.h345
end
section
def l258_0:AX:=QZ "EjlFvKDbjy6jhAmacE6a8xlo_fGBkMM8nSCQWCGnr_lV_RSr7FSBSHY.D2Rw6CEPPOvxrT"
def b258:AX:=(fun p0=>QY [p0] [(AV.i .i64 65536)] "mHtOw1XmYXYGFxyHVkF0FfMp.VpuMt_gxmNuinzTFRLTsRsQF9mBqkBmQIkdJ7Y0F0Ua3_RQlHWwfFn1vdoVLtVnZB4zTxeoEvUye99lF31FGLYcmHYck0PoqK8pSjAKO7Z.uxKpWTK54qTpr8VQBn3mokt8HkEFOFK") l258_0
def b356:AX:=QZ "0IaaMvXtvrIaOFzD1QCntXT5K3BB74qdmA2P2mZKxWa8GPrVPBTA0k5IePbWNb1MiLkESA2dci"
def l357_0:AX:=QZ "3jKywp7Z6V_lGvxaRtX7Fde7XFsVhu9Si8s9uULiAdoTos6va__k3iyscn9HSl.SM4YR"
def l357_1:AX:=QZ "Ki9viwDSybT7EYKI4zkWnsPYUf7w9e0sM0svRnLcIsKSTqVtgVLY7hBB7Ce8VqJNWBS6zk0RCTxrMvWAUFiCh9Gv.EIHfIT"
def b357:AX:=(fun p0 p1=>QY [p0,p1] [] "_6L4kAARdQ1_wi6Bn6kn7LRcpoRdNLk0gzVv79A.glDCgj.lpHBcxxsOsyEO.7RfsvsGXs2XJjgFFxRZhJjnhcrBy0Nqz3ommmZyPqXNmiwwmoX") l357_0 l357_1
abbrev row258:AFx:=⟨2,51,[.t 4,.t 5],b258,none,false⟩
abbrev row356:AFx:=⟨1,20,[.t 2],b356,none,false⟩
abbrev row357:AFx:=⟨1,66,[.t 2],b357,none,false⟩
class Zcj (T:Tbl):Prop where
 h258:Tr T 258=some row258
 h356:Tr T 356=some row356
 h357:Tr T 357=some row357
attribute [simp] Zcj.h258 Zcj.h356 Zcj.h357
end
section
def b252:AX:=QZ "BCzaxrKkXoGGQrI2k_yuPLKKwCRd7J1vr_8uwhH5.ESlqVU"
def b253:AX:=QZ "_6Se9yZ9DCcibaOWgifUfXINuSCzXsNqnb_EQn6tnchKt638PH8EoGmL3zzjO1W.6mZAzOZjsM5JFGj448ZJVzLivllqymHIP90B5"
def b254:AX:=QZ "ngeS.pLNHoEt7B26Z1KUq.z.GlbfcRG9r6fou9by8YF7vjoL5hVKaa87ILf9CWnZrbx6suV3.GJPVJ5KJwz9AjOyNbZicOJjxsUitGH3yPKfgG77ZszYXA5YDkDrO3vthaGxTTayF7s5bH3lM_DcZfFF6we9KthhL1ZQPXV4zDHZ3bzYtcP"
def b255:AX:=QZ "VwArwoDVbbHbdrMiBMkbWdWacok_VfwXVKenCqHyEhw8KXk_J_KDIbH_XIdTGnC2F2LYBV7t2PmTZWH2DSaVYOi6gEo9LZAvOZULooH3HadLugczKeFwP__NkXQkq3jLzivoW7l_7kzrD__N1u9PgEw_PQKgQ0jhi4ugR_98Y_AOH9xwM1QSXdQYB9MeTlyfQHR9Voe.L"
def b256:AX:=QY [] [(AV.s [47,46]),(AV.s [45])] "B8bB3.LYtVYxXjgRPw76D8DlxF4hELJDCwqgwpXAZqtAW_WUxsvqwH3nreGfax0n4cXj4VnQkYn1JgYev1ji8yYi6bmHBoe5EvgosAy0iQvO2SYcebAf9HpItNyFWfbTACpHWicLNjyA0xLF_gXMKfJ3gfyUjAoXMeXZPC01NhQXWXTDMd1eXZ4JEIc9S_Lx9YTgjgcAtGMw0QqIHvCG4p1zZTg6DBN0O_TPZy0bNPikCOLKNtTBbF72xdYcf9jtbg9nVu1tsa63FbcHhPTEOITVL_2_NQ03Px4FAPnPEBnP10e7ds8b0K"
abbrev row252:AFx:=⟨1,12,[.t 2],b252,none,false⟩
abbrev row253:AFx:=⟨2,25,[.t 4,.cell 5 (some 4)],b253,none,false⟩
abbrev row254:AFx:=⟨3,36,[.cell 6 (some 3),.cell 7 (some 4)],b254,none,false⟩
abbrev row255:AFx:=⟨4,49,[.cell 8 (some 3),.cell 9 (some 4)],b255,none,false⟩
abbrev row256:AFx:=⟨1,61,[.cell 2 (some 3),.cell 3 (some 4)],b256,none,false⟩
class Zeg (T:Tbl):Prop where
 h252:Tr T 252=some row252
 h253:Tr T 253=some row253
 h254:Tr T 254=some row254
 h255:Tr T 255=some row255
 h256:Tr T 256=some row256
attribute [simp] Zeg.h252 Zeg.h253 Zeg.h254 Zeg.h255 Zeg.h256
end
class Zcv (T:Tbl):Prop where
class Zcc (T:Tbl):Prop where
class Zdi (T:Tbl):Prop where
class Zf0 (T:Tbl):Prop where
def meths1:List RV:=[.cell 1 (some 445),.cell 2 (some 444),.cell 3 (some 441),.cell 4 (some 448),.cell 5 (some 443),.cell 6 (some 447),.cell 7 (some 446),.cell 8 (some 442)]
class Zfy (T:Tbl):Prop where
def isD(c:UInt8):Bool:=decide (48<=c.toNat)&&decide (c.toNat<=57)
def isL(c:UInt8):Bool:=decide (97<=c.toNat)&&decide (c.toNat<=122) || decide (65<=c.toNat)&&decide (c.toNat<=90) || decide (c.toNat=95)
def Znj:List UInt8:=[43,45,42,47,94,40,41,91,93,44,59,61]
def isS(c:UInt8):Bool:=Znj.contains c
def Zdl(c:UInt8):Nat:=if isD c then 1 else if isL c then 2 else if isS c then 3 else 0
def Zlj(k:Nat)(c:UInt8):Bool:=decide (k=1)&&isD c || decide (k=2)&&(isL c || isD c)
def Zjy(k:Nat):Nat:=if k=1 then 60 else if k=2 then 12 else 1
def isB(c:UInt8):Bool:=decide (c=32) || decide (c=9) || decide (c=10) || decide (c=13)
abbrev Wd:=Nat×List UInt8×Nat
def Zi1:Bool->List UInt8->Nat
 | _,[]=>0
 | note,c::r=>
  let note':=if c=35 then true else if c=10 then false else note
  if (note' || isB c)=true then 1+Zi1 note' r else 0
def Zfm(k:Nat)(r:List UInt8):Nat:=1+(r.takeWhile (Zlj k)).length
def Zmd(l:List UInt8)(i:Nat)(acc:List Wd):Except Nat (List Wd):=
 match l with
 | []=>.ok acc
 | c::r=>
  if Zdl c=0 then .error i
  else if Zjy (Zdl c)<Zfm (Zdl c) r then .error (i+Zjy (Zdl c))
  else Zmd ((r.drop (Zfm (Zdl c) r-1)).drop (Zi1 false (r.drop (Zfm (Zdl c) r-1)))) (i+Zfm (Zdl c) r+Zi1 false (r.drop (Zfm (Zdl c) r-1)))
   (acc++[(Zdl c,(c::r).take (Zfm (Zdl c) r),i)])
termination_by l.length
decreasing_by grind
def Zlk(c:UInt8)(i:Nat)(acc:List Wd):List Wd:=
 match acc.getLast? with
 | some (k,t,a)=>if a+t.length=i/\Zlj k c=true then acc.dropLast++[(k,t++[c],a)] else acc++[(Zdl c,[c],i)]
 | none=>acc++[(Zdl c,[c],i)]
def Znk(acc:List Wd):Bool:=
 match acc.getLast? with
 | some (k,t,_)=>decide (k=0) || decide (Zjy k<t.length)
 | none=>false
def Znl:List UInt8->Nat->Bool->List Wd->Except Nat (List Wd)
 | [],_,_,acc=>.ok acc
 | c::r,i,note,acc=>
  let note':=if c=35 then true else if c=10 then false else note
  if (note' || isB c)=true then Znl r (i+1) note' acc
  else if Znk (Zlk c i acc)=true then .error i
  else Znl r (i+1) note' (Zlk c i acc)
def Zpm(acc:List Wd)(i:Nat)(l:List UInt8):Prop:=∀k t a,acc.getLast? = some (k,t,a)->a+t.length=i->∀c r,l=c::r->Zlj k c=false
def prim187:List AV->Option AV
 | [.i .u8 n]=>if 0<=n/\n<256 then some (.b (isS (UInt8.ofNat n.toNat))) else none
 | _=>none
def prim184:List AV->Option AV
 | [.s l,.s [c]]=>if l.length<=1000000 then some (.tup [.s (l.takeWhile (· != c)),.s ((l.dropWhile (· != c)).drop 1),.b (l.contains c)]) else none
 | _=>none
def textOf:List AV->Option (List UInt8)
 | [.s l]=>if l.length<=10000 then some l else none
 | _=>none
def prim183:List AV->Option AV
 | [.sl els .an,.s sep]=>if els.length<=1000/\sep.length<=100 then (els.mapM textOf).map fun ts=>.s (List.intercalate sep ts) else none
 | _=>none
def Zg(l:List (List UInt8)):List (List AV):=l.map fun s=>[.s s]
@[simp] theorem za7(l:List (List UInt8)):(Zg l).length=l.length:=by simp[Zg]
@[simp] def zbz(l:List (List UInt8)):wkL (Zg l)=Zg l:=by
 induction l with
 | nil=>rfl
 | cons x l ih=>simpa[Zg,wkL,wkR]using ih
def zuz(l:List (List UInt8))(s:List UInt8):wkL (List.take l.length (Zg l)++[[AV.s s]])=Zg (l++[s]):=by
 rw[Yb (by simp),show Zg l++[[AV.s s]]=Zg (l++[s]) by simp[Zg],zbz]
theorem zql(l:List (List UInt8))(h:∀s∈l,s.length<=10000):(Zg l).mapM textOf=some l:=by
 induction l with
 | nil=>rfl
 | cons x l ih=>
  grind[textOf,Zg]
theorem zk6:∀{els:List (List AV)} {ts:List (List UInt8)},els.mapM textOf=some ts->els=Zg ts/\∀t∈ts,t.length<=10000
 | [],ts,h=>by cases h;exact⟨rfl,by simp⟩
 | r::els,ts,h=>by
  rw[Ybh]at h;obtain⟨x,hx,h1⟩:=bind_some h;obtain⟨y,hy,h2⟩:=bind_some h1;cases h2;obtain⟨e1,e2⟩:=zk6 hy;unfold textOf at hx;split at hx
  ·split at hx
   ·cases hx;rename_i hl;subst e1;exact⟨rfl,fun t ht=>(Yr.1 ht).elim (fun h=>h▸hl) (e2 t)⟩
   ·cases hx
  ·cases hx
theorem zu0(l:List (List UInt8))(sep:List UInt8)(h:∀s∈l,s.length<=10000)(hl:l.length<=1000)(hs:sep.length<=100):prim183 [.sl (Zg l) .an,.s sep]=some (.s (List.intercalate sep l)):=by
 grind[prim183,za7,zql]
section
abbrev row183:AFx:=⟨0,0,[],.prim prim183,none,false⟩
class Zba (T:Tbl):Prop where
 h183:Tr T 183=some row183
attribute [simp] Zba.h183
section
variable{T:Tbl}[Zba T]{d:Option Nat}{st:St}{xs:List AV}{ps:List Opd}{e:Env}{h:Heap}{ol:List Heap}
theorem p183(xs:List AV):Zb T 183 xs=prim183 xs:=zc4 Zba.h183
end
end
section
def b251:AX:=QY [] [(AV.s [47])] "JMng5KcSFHeXAFwFKI8QzgB_pJeFmu.XiJghcTFezhVGm1aVhvBAeVK15IKeRCMr7Tynixp88vrqBH437"
def l265_0:AX:=QZ "L27lpAkk3YXS1G0y_pgONWFgDOmvLUlvJEHRFsu.jm6MS9GrX5UVcETe4hhvFhjQ"
def b265:AX:=(fun p0=>QY [p0] [] "nwBIwNBqK69OPDy2ww.RaSeGoKVCML60YbLrUMdROC") l265_0
def l269_0:AX:=QZ "OvuKtyzBFeCNa1BnL1JhsLAX_6jcz1cXkrIaI29nWVuFzOO7hHYby4vN5uSA5fSlxfR"
def b269:AX:=(fun p0=>QY [p0] [] "kyi0aSeDBJxu1nbmocJS8h3nYHtYTPa_gl.X") l269_0
def l274_0:AX:=QZ "AtX4cT7tx8iQuJ23JlTTx7f00H0AJTc59OZARcYiWkHuWOsEpKke9TGTdPJcYV"
def b274:AX:=(fun p0=>QY [p0] [(AV.s [44])] "Ul8nuOJxtJZYcJX1oRRqsE5fxySC1V95JBwZv") l274_0
abbrev row251:AFx:=⟨1,21,[.t 2],b251,none,false⟩
abbrev row265:AFx:=⟨2,27,[.t 4],b265,none,false⟩
abbrev row269:AFx:=⟨2,22,[.t 4],b269,none,false⟩
abbrev row274:AFx:=⟨1,20,[.t 2],b274,none,false⟩
class Zb8 (T:Tbl):Prop where
 h251:Tr T 251=some row251
 h265:Tr T 265=some row265
 h269:Tr T 269=some row269
 h274:Tr T 274=some row274
attribute [simp] Zb8.h251 Zb8.h265 Zb8.h269 Zb8.h274
end
end Go.Ab