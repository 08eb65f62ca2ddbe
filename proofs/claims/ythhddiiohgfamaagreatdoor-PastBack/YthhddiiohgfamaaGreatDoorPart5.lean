/-
  A calculus of values, boxes and code, and what functions of the program compute, proved in it.
  Conditions: none beyond those that the theorems state. (Part 5.)
-/
import Derived.Test.YthhddiiohgfamaaGreatDoorPart4
import Derived.Lib.IndexAny
import Derived.Lib.Bytealg

set_option linter.unusedSectionVars false
set_option linter.unusedVariables false
set_option linter.unusedSimpArgs false
set_option linter.unnecessarySimpa false
set_option linter.defProp false
set_option maxRecDepth 100000

namespace Go.Ab
section
def l198_0:AX:=QZ "3.39ALJvON6hVtP6vxlxuc2PLj3FKYX"
def b198:AX:=(fun p0=>QY [p0] [] "FqsjaSf2RhFdooLqEd99B4") l198_0
def l199_0:AX:=QZ "0igxLbg4Nsam7.5M1T1PimaL65FNsHNnSkUYvWBKi8vZVtdgcov02YXF8zGufY"
def b199:AX:=(fun p0=>QY [p0] [] "6emfzGKNLcnMJoucbWozV3UbhFtId43AVe89UAr3k_jV3hG2HorBhWpMdV3FdzqYp6t8tmLERe7bWcwG3AugrtFzcY56qOaHhn0_YqIRwU1vLEHftHzVnnvVDi7EJog2tpgLcn6U5OYOnk3KgUbD_zA7D") l199_0
def b200:AX:=QZ "00knOrHnchmB1oCdoeYxi6xgjWw34FVUg.c4"
def b201:AX:=QZ "31FjD8Fcx52RayurnhMjuSIRawk.Rj4AnYgOF79bDvyuIxuilrDAAlFgKQV9GkoEZzwSdjvdvWBiCm0DPiSLCFCBkTf37Jz8Z8UzsxeTQV974EIlgzE50D8cAQQ1L8PAOWUeudy6o.WFF7p_vw4zjtB"
abbrev row198:AFx:=⟨2,12,[.t 4],b198,none,false⟩
abbrev row199:AFx:=⟨2,56,[.t 4],b199,none,false⟩
abbrev row200:AFx:=⟨1,12,[.t 2],b200,none,false⟩
abbrev row201:AFx:=⟨2,37,[.t 4,.t 5],b201,none,false⟩
class Zm (T:Tbl):Prop where
 h198:Tr T 198=some row198
 h199:Tr T 199=some row199
 h200:Tr T 200=some row200
 h201:Tr T 201=some row201
attribute [simp] Zm.h198 Zm.h199 Zm.h200 Zm.h201
end
section
def b202:AX:=QZ "6TDItjHGK5cNuJq.g51sTsJsMuN7btaH8ypdqXt.iHSy49no1sZX.bF.NKjmBYVCqRMzVFO"
def b203:AX:=QZ "EsjDdX5m7PgBBJMu0N.1uhv1rtToo9ym7NV310dJZ2ZD7sjxWPrJqtD1dBj4wsJz"
def b205:AX:=QZ "N9xroGts9gwypOCacp193k1tsszgB"
def b207:AX:=QZ "40e6P2pVQc2DCwLwruI9YZs3qJS6"
def b209:AX:=QZ "1f4q3IFKzVPlz5viu1DeWX8JSMYrbIAtYG1V2NulcQRaCuMU8RD"
def b210:AX:=QZ "0xuI0vM4B.9zpHn_KnjIZkOles7x"
def b211:AX:=QZ "U7qqpvzqg4n0bSYwmQzJjw4TvYlDtlxkxmfU96mDYYFBYAdQ9SMan.t3cb1QGyzlIMIcIuFGs7M4xKC3w84vMSrVV1Fw9wYXHpBZq"
def b212:AX:=QZ "Oh1vpzTvw.uLsCXp_vOujyjc8cQ"
def b215:AX:=QZ "0wNEKWbMerFwq2.xfx80qkJhydqxoAJrbnkc8eMyDjdRgw3rPToX_UZUpAWc6.0Cz_OdqQArqqnL3R2dB9syEuL6lnqkCFlUk92x9oQGrDn8pJ6hIhpA"
def b217:AX:=QZ "2bwNaA5b4LVAW4m4ye1Ji2MNLS12donc.GUlqBbb2FuTVHa0X6Tm8uSkQkbatNOxA_XtEwvcz8FU0I.sCAmIcZV4Bid.8viXCcNf7Vp"
abbrev row202:AFx:=⟨2,21,[.cell 4 (some 3)],b202,none,false⟩
abbrev row203:AFx:=⟨1,13,[.cell 2 (some 2),.t 3],b203,none,false⟩
abbrev row205:AFx:=⟨1,7,[.cell 2 (some 3)],b205,none,false⟩
abbrev row207:AFx:=⟨1,8,[.cell 2 (some 3)],b207,none,false⟩
abbrev row209:AFx:=⟨1,12,[.t 2],b209,none,false⟩
abbrev row210:AFx:=⟨2,9,[.cell 4 (some 2)],b210,none,false⟩
abbrev row211:AFx:=⟨2,26,[.t 4],b211,none,false⟩
abbrev row212:AFx:=⟨2,9,[.t 4],b212,none,false⟩
abbrev row215:AFx:=⟨2,30,[.cell 4 (some 3)],b215,none,false⟩
abbrev row217:AFx:=⟨2,26,[.cell 4 (some 3)],b217,none,false⟩
class Zy (T:Tbl):Prop where
 h202:Tr T 202=some row202
 h203:Tr T 203=some row203
 h205:Tr T 205=some row205
 h207:Tr T 207=some row207
 h209:Tr T 209=some row209
 h210:Tr T 210=some row210
 h211:Tr T 211=some row211
 h212:Tr T 212=some row212
 h215:Tr T 215=some row215
 h217:Tr T 217=some row217
attribute [simp] Zy.h202 Zy.h203 Zy.h205 Zy.h207 Zy.h209 Zy.h210 Zy.h211 Zy.h212 Zy.h215 Zy.h217
section
variable{T:Tbl}[Zy T]{d:Option Nat}{st:St}{xs:List AV}{ps:List Opd}{e:Env}{h:Heap}{ol:List Heap}
def f217(xs:List AV)(hn:xs.length=2):Zb T 217 xs=Zhw [.cell 4 (some 3)] false (evX (orc T) T 0 b217 ⟨Zca xs,[],1⟩):=zaa Zy.h217 hn
end
end
section
def b204:AX:=QZ "WudhBbO1QsZw_a8VjL2tR4ou_YUHazkgsLN9347GM3mnU3gMBbtxD"
abbrev row204:AFx:=⟨2,12,[.cell 4 (some 3),.t 5],b204,none,false⟩
class Zcr (T:Tbl):Prop where
 h204:Tr T 204=some row204
attribute [simp] Zcr.h204
end
section
def b208:AX:=QZ "DHxlLDS39MuKVzwaGIqr6spnRr5.9E6jsPjkrM.HDATtwbMKVTI1qH03ayLRDoYdYu8pNYe_STEQ8vlFpFEklGSKfxJSzk0uMUbzhUEayT_oOG2vFOHygGpVZX5Fno6oxhYvkTtFxMXyF3BRiUyN4TlKiVU9q9YSpFf28Fq883l6Qg4"
abbrev row208:AFx:=⟨1,51,[.t 2],b208,none,false⟩
class Za1 (T:Tbl):Prop where
 h208:Tr T 208=some row208
attribute [simp] Za1.h208
end
class Zbp (T:Tbl):Prop where
def prim344:List AV->Option AV
 | [.s s,.s [47,46]]=>if s.length<=1000000 then some (.i .i64 (Lib.indexAny s [47,46])) else none
 | _=>none
def prim194:List AV->Option AV
 | [.s s,.s [c]]=>some (.i .i64 (Lib.indexByte s c))
 | _=>none
def prim361:List AV->Option AV
 | [.s s,.s [c]]=>some (.i .i64 (Lib.countByte s c))
 | _=>none
def prim343:List AV->Option AV
 | [.s [48],.i .i64 n]=>if 0<=n/\n<=64 then some (.s (List.replicate n.toNat 48)) else none
 | _=>none
section
abbrev row344:AFx:=⟨0,0,[],.prim prim344,none,false⟩
abbrev row194:AFx:=⟨0,0,[],.prim prim194,none,false⟩
abbrev row361:AFx:=⟨0,0,[],.prim prim361,none,false⟩
class Zdg (T:Tbl):Prop where
 h344:Tr T 344=some row344
 h194:Tr T 194=some row194
 h361:Tr T 361=some row361
attribute [simp] Zdg.h344 Zdg.h194 Zdg.h361
section
variable{T:Tbl}[Zdg T]{d:Option Nat}{st:St}{xs:List AV}{ps:List Opd}{e:Env}{h:Heap}{ol:List Heap}
def p344(xs:List AV):Zb T 344 xs=prim344 xs:=zcs Zdg.h344
def p194(xs:List AV):Zb T 194 xs=prim194 xs:=zcs Zdg.h194
def p361(xs:List AV):Zb T 361 xs=prim361 xs:=zcs Zdg.h361
end
end
section
def b346:AX:=QY [] [(AV.i .i64 (-1))] "3Ow2TMg.hE4FsuyJ6y5xVL"
def l354_0:AX:=QZ "7Id6ntA8NkromeW08bkCUho3rqteREEAOz7wzQhzWfJ6oysOI7z68zCDWEq6p.nRUr6tL_kgc4dRXfmmd6WWaLCCI22IX"
def b354:AX:=(fun p0=>QY [p0] [] "AZ3Dk8Ykektm0O7nVPrhu4rTC.SGiZd2sVbIKTUxuZ091zdpbghl4U1Mv5NSlM62britW4XZU8FvF3.__ZzUaexiybHP4KesP8YEdpak308cjeVXEFglOS63mNU0Qxq_82GOcAW56jaIrFpj7Wz9N6sP8.ol") l354_0
def b362:AX:=QZ "7_5E9pFBWFe.NEKXRZC"
def b345:AX:=QZ "4weA3tNdtc4.zWD_uBE"
abbrev row346:AFx:=⟨2,8,[.t 4],b346,none,false⟩
abbrev row354:AFx:=⟨4,66,[.t 8],b354,none,false⟩
abbrev row362:AFx:=⟨2,8,[.t 4],b362,none,false⟩
abbrev row345:AFx:=⟨2,8,[.t 4],b345,none,false⟩
class Zap (T:Tbl):Prop where
 h346:Tr T 346=some row346
 h354:Tr T 354=some row354
 h362:Tr T 362=some row362
 h345:Tr T 345=some row345
attribute [simp] Zap.h346 Zap.h354 Zap.h362 Zap.h345
end
section
def l258_0:AX:=QZ "66mLI49M7OBv_XkDBTUY1pOdrynX.JgTLwSFhVDHM7ytuTN.4Glw7gtdZf.XrwlgtruNYY"
def b258:AX:=(fun p0=>QY [p0] [(AV.i .i64 65536)] "fHkKsmf4kZUggMdlLDZ7uaScG9_Dcg3D4JOQe9wGaV3b2ljWI6rw8pzpF6AisOl.rf8LaYoPlqC0eDriXWVsJpwA1GJtS97q7tZ7SQ1j7PsyB0P3fgEBkAjNUedC7bV3zWjSyf06cQPJnCpJacoXfQZ8Ooq11RFKFRA") l258_0
def b356:AX:=QZ "08Qrh9gGlfQfUASYnSxlDxQt63haGTZdBA9ggy4JXd2JDWhTDAEC1QJvnuIJcBc0y68gZZ4eNj"
def l357_0:AX:=QZ "5JumCkc2mESfNnpmN_KuVy7G95TnCoMqp2zQRUupRHIWiTTzY5eEx8gn9FAbl7GrcqEV"
def l357_1:AX:=QZ "1pef99TOoKVOSo8UVDfOACHyFisAoOEWrKDO1gwD43FP7rpP7fqS7OMkGXCfSUunevw1B5dyjoD6DN89PtFKn_Oy1zHB26U"
def b357:AX:=(fun p0 p1=>QY [p0,p1] [] "74qlkbRwzASy_U2AssD6pU6wMzfrUWnevzrfSipwpJXX7xjMTQGBQRDtZztFijxbhXtFzabk7Rz0VFy02xjQioSFFaa_jLtpA5zMI940A9dbfGH") l357_0 l357_1
abbrev row258:AFx:=⟨2,51,[.t 4,.t 5],b258,none,false⟩
abbrev row356:AFx:=⟨1,20,[.t 2],b356,none,false⟩
abbrev row357:AFx:=⟨1,66,[.t 2],b357,none,false⟩
class Zcj (T:Tbl):Prop where
 h258:Tr T 258=some row258
 h356:Tr T 356=some row356
 h357:Tr T 357=some row357
attribute [simp] Zcj.h258 Zcj.h356 Zcj.h357
end
section
def b252:AX:=QZ "2XC3K1Shvawjs.9V2nVJ20NNG.nWWImBqflZDRPxfijgxsN"
def b253:AX:=QZ "8fCePCN.OaZlMU7DKrX9oGaNq096k._AT4VDcDHEgI3kDIb4RZfOFaWemH1ba.Y716ZV29ko_BcQmaEJCKZ3eyF2sF7VNglGesgx"
def b254:AX:=QZ "5YAwguHzAkCVDWbcrsM7uLtYp84m.35eK_E3aOr2wOechZPgcz8188FeZ5Hry9jy5CMiOw3Owo9i1xZG8nKyfgW2xZWLcWB93qp1trL9Si_V3BvyNaVKVpF_fIo0Pt3x67GWqC16aJWkFwOJPXBJboxy.WdhCpDrEXpoLc9g8PuPzNVw"
def b255:AX:=QZ "W3RXGe1mSagqhesg6xM7xgNmG3J8ZAaCw1SaBV_zpUsr5F4JS3X3.dER_xigh_S21lEHd2CKiOjgCNDTF64Z23foRJbfjVB0Qz1gWU.td3RFXlR6voTj.zNdARjAMuH7lRePxUsI2.cMZFev_YRt42LP0wPya0hbxNzqwrxdC1L0k6xkTeqrQfwk3f01bdsbl9xWW3"
def b256:AX:=QY [] [(AV.s [47,46]),(AV.s [45])] "6k4Ud1a4TbKbwbG9cUPy6e9y5RRgiBBeX2kOlviQFq9HiTawQHGxDo5z.uVH55IIU.BKD3YhCHnX.dWxiHTf139tdqaON5gKjaACPNactW3267eTWLMMPPBGWu.mB9FkCOvOVdpX.epg7WjqMCo_ubHZ2Pu29m5rP8YNPV9P3kywOYLfwljFOOsxi4co5fsQyeR2DxcNsBs3Qm1nIiiJ968B1mVKjx01ifVyzl427wT_s0xXwPSVYWVCaYCwdoih9lz7g5gSJIifkSz5rjRb1qz99FTp_BzNtXcWqlvZPaAGgP3tRt"
abbrev row252:AFx:=⟨1,12,[.t 2],b252,none,false⟩
abbrev row253:AFx:=⟨2,25,[.t 4,.cell 5 (some 4)],b253,none,false⟩
abbrev row254:AFx:=⟨3,36,[.cell 6 (some 3),.cell 7 (some 4)],b254,none,false⟩
abbrev row255:AFx:=⟨4,49,[.cell 8 (some 3),.cell 9 (some 4)],b255,none,false⟩
abbrev row256:AFx:=⟨1,61,[.cell 2 (some 3),.cell 3 (some 4)],b256,none,false⟩
class Zd7 (T:Tbl):Prop where
 h252:Tr T 252=some row252
 h253:Tr T 253=some row253
 h254:Tr T 254=some row254
 h255:Tr T 255=some row255
 h256:Tr T 256=some row256
attribute [simp] Zd7.h252 Zd7.h253 Zd7.h254 Zd7.h255 Zd7.h256
end
class Zcx (T:Tbl):Prop where
class Zcc (T:Tbl):Prop where
class Zdj (T:Tbl):Prop where
class Zf0 (T:Tbl):Prop where
def meths1:List RV:=[.cell 1 (some 445),.cell 2 (some 444),.cell 3 (some 441),.cell 4 (some 448),.cell 5 (some 443),.cell 6 (some 447),.cell 7 (some 446),.cell 8 (some 442)]
class Zfx (T:Tbl):Prop where
def isD(c:UInt8):Bool:=decide (48<=c.toNat)&&decide (c.toNat<=57)
def isL(c:UInt8):Bool:=decide (97<=c.toNat)&&decide (c.toNat<=122) || decide (65<=c.toNat)&&decide (c.toNat<=90) || decide (c.toNat=95)
def Zmw:List UInt8:=[43,45,42,47,94,40,41,91,93,44,59,61]
def isS(c:UInt8):Bool:=Zmw.contains c
def Zdb(c:UInt8):Nat:=if isD c then 1 else if isL c then 2 else if isS c then 3 else 0
def Zkv(k:Nat)(c:UInt8):Bool:=decide (k=1)&&isD c || decide (k=2)&&(isL c || isD c)
def Zje(k:Nat):Nat:=if k=1 then 60 else if k=2 then 12 else 1
def isB(c:UInt8):Bool:=decide (c=32) || decide (c=9) || decide (c=10) || decide (c=13)
abbrev Wd:=Nat×List UInt8×Nat
def Zif:Bool->List UInt8->Nat
 | _,[]=>0
 | note,c::r=>
  let note':=if c=35 then true else if c=10 then false else note
  if (note' || isB c)=true then 1+Zif note' r else 0
def Zfb(k:Nat)(r:List UInt8):Nat:=1+(r.takeWhile (Zkv k)).length
def Zlp(l:List UInt8)(i:Nat)(acc:List Wd):Except Nat (List Wd):=
 match l with
 | []=>.ok acc
 | c::r=>
  if Zdb c=0 then .error i
  else if Zje (Zdb c)<Zfb (Zdb c) r then .error (i+Zje (Zdb c))
  else Zlp ((r.drop (Zfb (Zdb c) r-1)).drop (Zif false (r.drop (Zfb (Zdb c) r-1)))) (i+Zfb (Zdb c) r+Zif false (r.drop (Zfb (Zdb c) r-1)))
   (acc++[(Zdb c,(c::r).take (Zfb (Zdb c) r),i)])
termination_by l.length
decreasing_by grind
def Zkw(c:UInt8)(i:Nat)(acc:List Wd):List Wd:=
 match acc.getLast? with
 | some (k,t,a)=>if a+t.length=i/\Zkv k c=true then acc.dropLast++[(k,t++[c],a)] else acc++[(Zdb c,[c],i)]
 | none=>acc++[(Zdb c,[c],i)]
def Zmx(acc:List Wd):Bool:=
 match acc.getLast? with
 | some (k,t,_)=>decide (k=0) || decide (Zje k<t.length)
 | none=>false
def Zmy:List UInt8->Nat->Bool->List Wd->Except Nat (List Wd)
 | [],_,_,acc=>.ok acc
 | c::r,i,note,acc=>
  let note':=if c=35 then true else if c=10 then false else note
  if (note' || isB c)=true then Zmy r (i+1) note' acc
  else if Zmx (Zkw c i acc)=true then .error i
  else Zmy r (i+1) note' (Zkw c i acc)
def Zpd(acc:List Wd)(i:Nat)(l:List UInt8):Prop:=∀k t a,acc.getLast? = some (k,t,a)->a+t.length=i->∀c r,l=c::r->Zkv k c=false
def prim187:List AV->Option AV
 | [.i .u8 n]=>if 0<=n/\n<256 then some (.b (isS (UInt8.ofNat n.toNat))) else none
 | _=>none
def prim184:List AV->Option AV
 | [.s l,.s [c]]=>if l.length<=1000000 then some (.tup [.s (l.takeWhile (· != c)),.s ((l.dropWhile (· != c)).drop 1),.b (l.contains c)]) else none
 | _=>none
def textOf:List AV->Option (List UInt8)
 | [.s l]=>if l.length<=10000 then some l else none
 | _=>none
def prim183:List AV->Option AV
 | [.sl els .an,.s sep]=>if els.length<=1000/\sep.length<=100 then (els.mapM textOf).map fun ts=>.s (List.intercalate sep ts) else none
 | _=>none
def Zf(l:List (List UInt8)):List (List AV):=l.map fun s=>[.s s]
@[simp] theorem zaz(l:List (List UInt8)):(Zf l).length=l.length:=by simp[Zf]
@[simp] def zbs(l:List (List UInt8)):wkL (Zf l)=Zf l:=by
 induction l with
 | nil=>rfl
 | cons x l ih=>simpa[Zf,wkL,wkR]using ih
def zsj(l:List (List UInt8))(s:List UInt8):wkL (List.take l.length (Zf l)++[[AV.s s]])=Zf (l++[s]):=by
 rw[Yb (by simp),show Zf l++[[AV.s s]]=Zf (l++[s]) by simp[Zf],zbs]
theorem zor(l:List (List UInt8))(h:∀s∈l,s.length<=10000):(Zf l).mapM textOf=some l:=by
 induction l with
 | nil=>rfl
 | cons x l ih=>
  grind[textOf,Zf]
theorem zjs:∀{els:List (List AV)} {ts:List (List UInt8)},els.mapM textOf=some ts->els=Zf ts/\∀t∈ts,t.length<=10000
 | [],ts,h=>by cases h;exact⟨rfl,by simp⟩
 | r::els,ts,h=>by
  rw[Ya4]at h;obtain⟨x,hx,h1⟩:=bind_some h;obtain⟨y,hy,h2⟩:=bind_some h1;cases h2;obtain⟨e1,e2⟩:=zjs hy;unfold textOf at hx;split at hx
  ·split at hx
   ·cases hx;rename_i hl;subst e1;exact⟨rfl,fun t ht=>(Yn.1 ht).elim (fun h=>h▸hl) (e2 t)⟩
   ·cases hx
  ·cases hx
theorem zsk(l:List (List UInt8))(sep:List UInt8)(h:∀s∈l,s.length<=10000)(hl:l.length<=1000)(hs:sep.length<=100):prim183 [.sl (Zf l) .an,.s sep]=some (.s (List.intercalate sep l)):=by
 grind[prim183,zaz,zor]
section
abbrev row183:AFx:=⟨0,0,[],.prim prim183,none,false⟩
class Za5 (T:Tbl):Prop where
 h183:Tr T 183=some row183
attribute [simp] Za5.h183
section
variable{T:Tbl}[Za5 T]{d:Option Nat}{st:St}{xs:List AV}{ps:List Opd}{e:Env}{h:Heap}{ol:List Heap}
theorem p183(xs:List AV):Zb T 183 xs=prim183 xs:=zcs Za5.h183
end
end
section
def b251:AX:=QY [] [(AV.s [47])] "0YgSP7yAqbyXKoCD112V0eubh3gVUwdEWo0.CXDWw632wSIqgT0b_5epV_P6YY_io9.EAKYmFad7TuG8cI"
def l265_0:AX:=QZ "2USXD.J0IMv.GlTDTxoKJXXFkuA67v8pymPW5wMov9GDNnS0Iuq8nvPAjZ_SgIAY"
def b265:AX:=(fun p0=>QY [p0] [] "jdN08ZbStW3hBWjmznwvylG5v1TCkRE_9.KipO54Bz") l265_0
def l269_0:AX:=QZ "02PZVvzi2c40J284mlrDW2rE6U18MmwUz.OOoAoNTu7sqEA5u6Al7zTPi12tIUpTJ.rW"
def b269:AX:=(fun p0=>QY [p0] [] "2i0nj5heb2qxW_H.82RJgLuqa7t9efDXdNFcY") l269_0
def l274_0:AX:=QZ "HOldPWl74UMgf7XIdR1dwjJOz0tLV0LZO92oA85u9ux8cWWM6IgYZpgEgrqFIY"
def b274:AX:=(fun p0=>QY [p0] [(AV.s [44])] "3AwI.hOFkOoJSuOf_Xt5zQBQcxejcdJ8J.AJdB") l274_0
abbrev row251:AFx:=⟨1,21,[.t 2],b251,none,false⟩
abbrev row265:AFx:=⟨2,27,[.t 4],b265,none,false⟩
abbrev row269:AFx:=⟨2,22,[.t 4],b269,none,false⟩
abbrev row274:AFx:=⟨1,20,[.t 2],b274,none,false⟩
class Zb3 (T:Tbl):Prop where
 h251:Tr T 251=some row251
 h265:Tr T 265=some row265
 h269:Tr T 269=some row269
 h274:Tr T 274=some row274
attribute [simp] Zb3.h251 Zb3.h265 Zb3.h269 Zb3.h274
end
end Go.Ab