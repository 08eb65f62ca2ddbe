/-
  A calculus of values, boxes and code, and what functions of the program compute, proved in it.
  Conditions: none beyond those that the theorems state. (Part 4.)
-/
import Derived.Test.YtajopjoiaogapaaGreatDoorPart3
import Derived.Lib.IndexAny
import Derived.Lib.Bytealg

set_option linter.unusedSectionVars false
set_option linter.unusedVariables false
set_option linter.unusedSimpArgs false
set_option linter.unnecessarySimpa false

namespace Go.Ab
def sg(n:Bool)(k:Nat):Int:=if n then -(k:Int) else k
def wv(n:Bool)(a:List UInt32):Int:=sg n (val a)
abbrev wh(n:Bool)(a:List UInt32):AV:=.agg [.b n,.sl (Zb a) .an]
abbrev ez(z:Int):AV:=wh (decide (z<0)) (ofN z.natAbs)
def sgI(z:Int):Int:=if z<0 then -1 else if z=0 then 0 else 1
theorem zxv(n:Bool)(k:Nat):decide (sg n k<0)=(n&&decide (k≠0)):=by
 cases n
 ·simp[sg]
 ·by_cases h:k=0<;>simp[sg,h];omega
theorem zlq(n:Bool)(k:Nat):(sg n k).natAbs=k:=by cases n<;>simp[sg]
@[simp] theorem zji(z:Int):wv (decide (z<0)) (ofN z.natAbs)=z:=by
 unfold wv;rw[zag];by_cases h:z<0
 ·simp[sg,h];omega
 ·simp[sg,h];omega
theorem z5l(n:Bool)(a:List UInt32):(wv n a).natAbs=val a:=zlq n _
theorem z5m(n:Bool)(k:Nat):ez (sg n k)=wh (n&&decide (k≠0)) (ofN k):=by
 unfold ez;rw[zxv,zlq]
theorem zna(n:Bool)(x y:Nat):sg n (x+y)=sg n x+sg n y:=by cases n<;>simp[sg]<;>omega
theorem zuj{n m:Bool}(h:n≠m){x y:Nat}(hxy:x<y):sg m (y-x)=sg n x+sg m y:=by
 cases n<;>cases m<;>simp[sg]at h ⊢<;>omega
theorem zuk{n m:Bool}(h:n≠m){x y:Nat}(hxy:¬ x<y):sg n (x-y)=sg n x+sg m y:=by
 cases n<;>cases m<;>simp[sg]at h ⊢<;>omega
theorem z5n(n:Bool)(x:Nat):sg (!n) x=- sg n x:=by cases n<;>simp[sg]
theorem z5o(n m:Bool)(x y:Nat):sg (n != m) (x*y)=sg n x*sg m y:=by cases n<;>cases m<;>simp[sg,Int.mul_neg,Int.neg_mul]
theorem z5p(n:Bool)(x:Nat):sgI (sg n x)=if x=0 then 0 else if n then -1 else 1:=by
 unfold sgI;cases n<;>simp[sg]<;>split<;>(try split)<;>omega
def Zlr(z:Int):List UInt8:=if z<0 then 45::Zg7 z.natAbs else Zg7 z.natAbs
theorem zcg{x y:Int}{L:Nat}(hx:(ofN x.natAbs).length≤L)(hy:(ofN y.natAbs).length≤L):(ofN (x+y).natAbs).length≤L+1:=by
 refine zae ?_;have h1:=za5 (ofN x.natAbs);have h2:=za5 (ofN y.natAbs);rw[zag]at h1 h2;have h3:4294967296^(ofN x.natAbs).length≤4294967296^L:=Yn (by decide) hx;have h4:4294967296^(ofN y.natAbs).length≤4294967296^L:=Yn (by decide) hy;rw[Yaa];generalize 4294967296^L=p at *
 omega
theorem zhi(x:Int):ofN (-x).natAbs=ofN x.natAbs:=by rw[Int.natAbs_neg]
theorem za9{x y:Int}{L M:Nat}(hx:(ofN x.natAbs).length≤L)(hy:(ofN y.natAbs).length≤M):(ofN (x*y).natAbs).length≤L+M:=by
 refine zae ?_;have h1:=za5 (ofN x.natAbs);have h2:=za5 (ofN y.natAbs);rw[zag]at h1 h2;rw[Int.natAbs_mul,Ybp];exact Nat.mul_lt_mul'' (Yl h1 (Yn (by decide) hx)) (Yl h2 (Yn (by decide) hy))
theorem zcq(n:Bool)(a:List UInt32):(ofN (wv n a).natAbs).length≤a.length:=by rw[z5l];exact zad a
def Za0(l:List UInt8):Int:=sg (l.head? = some 45) (rd (if l.head? = some 45 then l.tail else l))
def Zb3(l:List UInt8):Int:=Z0 (if l.head? = some 45 then l.tail else l)
def Zc3(l:List UInt8):Int:=if l.head? = some 45 then 1 else 0
theorem zjj{l:List UInt8}(h0:¬ 0≤Zb3 l):(ofN (Za0 l).natAbs).length≤60:=by
 unfold Zb3 at h0;unfold Za0;rw[zlq];generalize (if l.head? = some 45 then l.tail else l)=l' at *
 have h1:Zc7 0 l'<0:=by
  unfold Z0 at h0;split at h0
  ·omega
  ·omega
 obtain⟨h2,h3⟩:=zf8 0 l' (Yu _) h1;refine zae (k:=60) ?_;have h4:=zui h3;have h5:10^l'.length≤10^60:=Yn (by decide) (by omega);exact Yl h4 (Yc h5 (by decide))
def b55:AX:=
 (.seq
 (.reg [rg 4 (.alloc [(.b false),(.sl [] .nl)])])
 (.seq
 (.reg [mv 5 0,mv 6 5,gd 7 6 true (.mov (.t 1)),gd 8 6 true (.len (.t 7)),gd 9 6 true (.bin .gtr (.t 8) (.c (.i .i64 0))),rg 10 (.pick (.t 6) (.t 9) (.c (.b false))),mv 11 1,rg 12 (.build [(.b false),(.sl [] .nl)] [(0,1,(.t 10)),(1,1,(.t 11))]),so (.store 2 (.t 4) (.t 12))])
 (.pre (.norm false [4]) .ret)))
def b38:AX:=
 (.seq
 (.reg [rg 1 (.xop (.box 2) [(.t 0)]),rg 2 (.alloc [(.b false),(.sl [] .nl)])])
 (.seq
 (.drawT [rg 3 (.fad 0 (.t 1)),rg 4 (.load none (.t 3)),rg 5 (.fad 1 (.t 1)),rg 6 (.load none (.t 5)),rg 7 (.call 71 [(.t 6)])]
 [rg 8 (.call 55 [(.t 4),(.t 7)]),so (.store 2 (.t 2) (.t 8))])
 (.pre (.norm false [2]) .ret)))
def b40:AX:=
 (.seq
 (.reg [rg 1 (.xop (.box 2) [(.t 0)]),rg 2 (.alloc [(.b false),(.sl [] .nl)])])
 (.seq
 (.drawT [rg 3 (.fad 0 (.t 1)),rg 4 (.load none (.t 3)),rg 5 (.un .not (.t 4)),rg 6 (.fad 1 (.t 1)),rg 7 (.load none (.t 6)),rg 8 (.call 71 [(.t 7)])]
 [rg 9 (.call 55 [(.t 5),(.t 8)]),so (.store 2 (.t 2) (.t 9))])
 (.pre (.norm false [2]) .ret)))
def b23:AX:=
 (.seq
 (.reg [rg 2 (.xop (.box 2) [(.t 0)]),rg 3 (.xop (.box 2) [(.t 1)]),rg 4 (.alloc [(.b false),(.sl [] .nl)])])
 (.seq
 (.seq
 (.reg [rg 7 (.fad 0 (.t 2)),rg 8 (.load none (.t 7)),rg 9 (.fad 0 (.t 3)),rg 10 (.load none (.t 9)),rg 11 (.eqb false (.t 8) (.t 10))])
 (.cond (.t 11)
 (.seq
 (.drawT [rg 12 (.fad 0 (.t 2)),rg 13 (.load none (.t 12)),rg 14 (.fad 1 (.t 2)),rg 15 (.load none (.t 14)),rg 16 (.fad 1 (.t 3)),rg 17 (.load none (.t 16)),rg 18 (.bsl 1 [(.sl [] .nl)] 2 [(0,(.t 15)),(1,(.t 17))]),rg 19 (.call 56 [(.t 18)])]
 [rg 20 (.call 55 [(.t 13),(.t 19)]),so (.store 2 (.t 4) (.t 20))])
 (.pre (.norm false [4]) .ret))
 .skip))
 (.seq
 (.reg [rg 22 (.fad 1 (.t 2)),rg 23 (.load none (.t 22)),rg 24 (.fad 1 (.t 3)),rg 25 (.load none (.t 24)),rg 26 (.call 57 [(.t 23),(.t 25)]),mv 21 26,rg 27 (.ext (.t 21) 0),rg 28 (.ext (.t 21) 1),mv 5 27,mv 6 28])
 (.seq
 (.seq
 (.reg [mv 29 6,rg 30 (.bin .lss (.t 29) (.c (.i .i64 0)))])
 (.cond (.t 30)
 (.seq
 (.reg [rg 31 (.fad 0 (.t 3)),rg 32 (.load none (.t 31)),mv 33 5,rg 34 (.call 55 [(.t 32),(.t 33)]),so (.store 2 (.t 4) (.t 34))])
 (.pre (.norm false [4]) .ret))
 .skip))
 (.seq
 (.reg [rg 35 (.fad 0 (.t 2)),rg 36 (.load none (.t 35)),mv 37 5,rg 38 (.call 55 [(.t 36),(.t 37)]),so (.store 2 (.t 4) (.t 38))])
 (.pre (.norm false [4]) .ret))))))
def b25:AX:=
 (.seq
 (.reg [rg 2 (.xop (.box 2) [(.t 0)]),rg 3 (.xop (.box 2) [(.t 1)]),rg 4 (.alloc [(.b false),(.sl [] .nl)])])
 (.seq
 (.drawT [rg 5 (.load (some 2) (.t 2)),rg 6 (.load (some 2) (.t 3)),rg 7 (.call 40 [(.t 6)])]
 [rg 8 (.call 23 [(.t 5),(.t 7)]),so (.store 2 (.t 4) (.t 8))])
 (.pre (.norm false [4]) .ret)))
def b27:AX:=
 (.seq
 (.reg [rg 2 (.xop (.box 2) [(.t 0)]),rg 3 (.xop (.box 2) [(.t 1)]),rg 4 (.alloc [(.b false),(.sl [] .nl)])])
 (.seq
 (.drawT [rg 5 (.fad 0 (.t 2)),rg 6 (.load none (.t 5)),rg 7 (.fad 0 (.t 3)),rg 8 (.load none (.t 7)),rg 9 (.eqb true (.t 6) (.t 8)),rg 10 (.fad 1 (.t 2)),rg 11 (.load none (.t 10)),rg 12 (.fad 1 (.t 3)),rg 13 (.load none (.t 12)),rg 14 (.call 60 [(.t 11),(.t 13)])]
 [rg 15 (.call 55 [(.t 9),(.t 14)]),so (.store 2 (.t 4) (.t 15))])
 (.pre (.norm false [4]) .ret)))
def b37:AX:=
 (.seq
 (.reg [rg 1 (.xop (.box 2) [(.t 0)]),rg 2 (.mov (.c (.i .i64 0)))])
 (.seq
 (.block 0
 (.seq
 (.reg [rg 4 (.fad 1 (.t 1)),rg 5 (.load none (.t 4)),rg 6 (.call 70 [(.t 5)]),mv 3 6])
 (.cond (.t 3)
 (.seq
 (.reg [rg 2 (.mov (.c (.i .i64 0)))])
 (.pre (.norm false [2]) .ret))
 (.seq
 (.reg [rg 8 (.fad 0 (.t 1)),rg 9 (.load none (.t 8)),mv 7 9])
 (.cond (.t 7)
 (.seq
 (.reg [rg 2 (.mov (.c (.i .i64 (-1))))])
 (.pre (.norm false [2]) .ret))
 .skip)))))
 (.seq
 (.reg [rg 2 (.mov (.c (.i .i64 1)))])
 (.pre (.norm false [2]) .ret))))
def b41:AX:=
 (.seq
 (.reg [rg 2 (.alloc [(.b false),(.sl [] .nl)])])
 (.seq
 (.seq
 (.reg [mv 3 0,rg 4 (.bin .lss (.t 3) (.c (.i .i64 0)))])
 (.cond (.t 4)
 (.seq
 (.reg [mv 5 0,rg 6 (.conv .u64 (.t 5)),rg 7 (.un .neg (.t 6)),rg 8 (.call 72 [(.t 7)]),rg 9 (.call 55 [(.c (.b true)),(.t 8)]),so (.store 2 (.t 2) (.t 9))])
 (.pre (.norm false [2]) .ret))
 .skip))
 (.seq
 (.reg [mv 10 0,rg 11 (.conv .u64 (.t 10)),rg 12 (.call 72 [(.t 11)]),rg 13 (.call 55 [(.c (.b false)),(.t 12)]),so (.store 2 (.t 2) (.t 13))])
 (.pre (.norm false [2]) .ret))))
def b36:AX:=
 (.seq
 (.reg [rg 2 (.xop (.box 2) [(.t 0)]),rg 3 (.xop (.box 2) [(.t 1)]),rg 4 (.mov (.c (.i .i64 0)))])
 (.seq
 (.reg [rg 5 (.load (some 2) (.t 2)),rg 6 (.load (some 2) (.t 3)),rg 7 (.call 25 [(.t 5),(.t 6)]),rg 8 (.call 37 [(.t 7)]),mv 4 8])
 (.pre (.norm false [4]) .ret)))
def b32:AX:=
 (.seq
 (.reg [rg 2 (.alloc [(.b false),(.sl [] .nl)]),rg 3 (.alloc [(.i .i64 0),(.i .i64 0),(.i .i64 0),(.i .i64 0)])])
 (.seq
 (.reg [mv 9 0,rg 10 (.call 64 [(.t 9),(.c (.s [45]))]),mv 8 10,rg 11 (.ext (.t 8) 0),rg 12 (.ext (.t 8) 1),mv 4 11,mv 5 12])
 (.seq
 (.reg [mv 14 4,rg 15 (.call 65 [(.t 14)]),mv 13 15,rg 16 (.ext (.t 13) 0),rg 17 (.ext (.t 13) 1),rg 7 (.alloc [(.i .i64 0),(.i .i64 0),(.i .i64 0),(.i .i64 0)]),mv 6 16,so (.store 4 (.t 7) (.t 17))])
 (.seq
 (.seq
 (.reg [rg 18 (.load (some 4) (.t 7)),rg 19 (.build [(.i .i64 0),(.i .i64 0),(.i .i64 0),(.i .i64 0)] []),rg 20 (.eqs true [(0,.int),(1,.int),(2,.int),(3,.int)] (.t 18) (.t 19))])
 (.cond (.t 20)
 (.seq
 (.reg [rg 21 (.fad 3 (.t 7)),rg 22 (.load none (.t 21)),mv 23 0,rg 24 (.lens (.t 23)),mv 25 4,rg 26 (.lens (.t 25)),rg 27 (.bin .sub (.t 24) (.t 26)),rg 28 (.bin .add (.t 22) (.t 27)),rg 29 (.fad 3 (.t 7)),so (.store 1 (.t 29) (.t 28))])
 (.seq
 (.draw [⟨rg 30 (.build [(.b false),(.sl [] .nl)] []),0,0⟩,⟨rg 31 (.load (some 4) (.t 7)),0,1⟩,⟨so (.store 2 (.t 2) (.t 30)),0,1⟩,⟨so (.store 4 (.t 3) (.t 31)),1,2⟩])
 (.pre (.norm false [2,3]) .ret)))
 .skip))
 (.seq
 (.reg [mv 32 5,mv 33 6,rg 34 (.call 55 [(.t 32),(.t 33)]),rg 35 (.build [(.i .i64 0),(.i .i64 0),(.i .i64 0),(.i .i64 0)] []),so (.store 2 (.t 2) (.t 34)),so (.store 4 (.t 3) (.t 35))])
 (.pre (.norm false [2,3]) .ret))))))
def row55:AFx:=⟨2,13,[.cell 4 (some 2)],b55,none,false⟩
def row38:AFx:=⟨1,9,[.cell 2 (some 2)],b38,none,false⟩
def row40:AFx:=⟨1,10,[.cell 2 (some 2)],b40,none,false⟩
def row23:AFx:=⟨2,39,[.cell 4 (some 2)],b23,none,false⟩
def row25:AFx:=⟨2,9,[.cell 4 (some 2)],b25,none,false⟩
def row27:AFx:=⟨2,16,[.cell 4 (some 2)],b27,none,false⟩
def row37:AFx:=⟨1,10,[.t 2],b37,none,false⟩
def row41:AFx:=⟨1,14,[.cell 2 (some 2)],b41,none,false⟩
def row36:AFx:=⟨2,9,[.t 4],b36,none,false⟩
def row32:AFx:=⟨1,36,[.cell 2 (some 2),.cell 3 (some 4)],b32,none,false⟩
class Ze (T:Tbl):Prop where
 h55:T 55=some row55
 h38:T 38=some row38
 h40:T 40=some row40
 h23:T 23=some row23
 h25:T 25=some row25
 h27:T 27=some row27
 h37:T 37=some row37
 h41:T 41=some row41
 h36:T 36=some row36
 h32:T 32=some row32
section
variable{T:Tbl}[Ze T]{d:Option Nat}{st:St}
@[simp] theorem x55(xs:List AV):Zd (orc T) T 55 xs d st=cP T 55 false xs d st:=zaa Ze.h55
@[simp] theorem x38(xs:List AV):Zd (orc T) T 38 xs d st=cP T 38 false xs d st:=zaa Ze.h38
@[simp] theorem y40{e:Env}{h:Heap}{older:List Heap}(args:List Opd):opD (orc T) T (.call 40 args) e h older=dR (Za T 40 ((args.map (ev e.get)).map (wkIf false))) (args.map (ev e.get)):=zao Ze.h40
@[simp] theorem x23(xs:List AV):Zd (orc T) T 23 xs d st=cP T 23 false xs d st:=zaa Ze.h23
@[simp] theorem y23{e:Env}{h:Heap}{older:List Heap}(args:List Opd):opD (orc T) T (.call 23 args) e h older=dR (Za T 23 ((args.map (ev e.get)).map (wkIf false))) (args.map (ev e.get)):=zao Ze.h23
@[simp] theorem x25(xs:List AV):Zd (orc T) T 25 xs d st=cP T 25 false xs d st:=zaa Ze.h25
@[simp] theorem x27(xs:List AV):Zd (orc T) T 27 xs d st=cP T 27 false xs d st:=zaa Ze.h27
@[simp] theorem x37(xs:List AV):Zd (orc T) T 37 xs d st=cP T 37 false xs d st:=zaa Ze.h37
@[simp] theorem x41(xs:List AV):Zd (orc T) T 41 xs d st=cP T 41 false xs d st:=zaa Ze.h41
@[simp] theorem x36(xs:List AV):Zd (orc T) T 36 xs d st=cP T 36 false xs d st:=zaa Ze.h36
@[simp] theorem x32(xs:List AV):Zd (orc T) T 32 xs d st=cP T 32 false xs d st:=zaa Ze.h32
end
def l198_0:AX:=
 (.note
 (.seq
 (.seq
 (.reg [mv 5 1,rg 6 (.bin .neq (.t 5) (.c (u64 0)))])
 (.cond (.t 6)
 .skip
 (.exit 0)))
 (.block 1
 (.drawT [mv 7 1,mv 8 0,mv 9 1,rg 10 (.bin .rem (.t 8) (.t 9)),mv 0 7]
 [mv 1 10])))
 (.norm false [0,1]))
def b198:AX:=
 (.seq
 (.reg [rg 4 (.mov (.c (u64 0)))])
 (.seq
 (.lp 0 (.norm false [0,1]) l198_0 (.norm false [0]))
 (.seq
 (.reg [mv 11 0,mv 4 11])
 (.pre (.norm false [4]) .ret))))
def l199_0:AX:=
 (.note
 (.seq
 (.seq
 (.reg [mv 19 1,rg 20 (.len (.t 19)),rg 21 (.bin .gtr (.t 20) (.c (.i .i64 2)))])
 (.cond (.t 21)
 .skip
 (.exit 0)))
 (.block 1
 (.seq
 (.reg [mv 23 0,mv 24 1,rg 25 (.call 62 [(.t 23),(.t 24)]),mv 22 25,rg 26 (.ext (.t 22) 0),rg 27 (.ext (.t 22) 1),rg 28 (.ext (.t 22) 2),mv 5 26,mv 6 27,mv 7 28])
 (.reg [mv 29 1,mv 30 6,mv 0 29,mv 1 30]))))
 (.norm false [0,1]))
def b199:AX:=
 (.seq
 (.reg [rg 4 (.mov (.c (.sl [] .nl)))])
 (.seq
 (.reg [mv 15 0,rg 16 (.call 71 [(.t 15)]),mv 17 1,rg 18 (.call 71 [(.t 17)]),mv 0 16,mv 1 18])
 (.seq
 (.lp 0 (.norm false [0,1]) l199_0 (.norm false [0,1]))
 (.seq
 (.seq
 (.reg [mv 31 1,rg 32 (.len (.t 31)),rg 33 (.bin .eql (.t 32) (.c (.i .i64 0)))])
 (.cond (.t 33)
 (.seq
 (.reg [mv 34 0,mv 4 34])
 (.pre (.norm false [4]) .ret))
 .skip))
 (.seq
 (.reg [mv 36 0,mv 37 1,rg 38 (.call 62 [(.t 36),(.t 37)]),mv 35 38,rg 39 (.ext (.t 35) 0),rg 40 (.ext (.t 35) 1),rg 41 (.ext (.t 35) 2),mv 8 39,mv 9 40,mv 10 41])
 (.seq
 (.reg [mv 43 1,rg 44 (.call 73 [(.t 43)]),mv 42 44,rg 45 (.ext (.t 42) 0),rg 46 (.ext (.t 42) 1),mv 11 45,mv 12 46])
 (.seq
 (.reg [mv 48 9,rg 49 (.call 73 [(.t 48)]),mv 47 49,rg 50 (.ext (.t 47) 0),rg 51 (.ext (.t 47) 1),mv 13 50,mv 14 51])
 (.seq
 (.reg [mv 52 11,mv 53 13,rg 54 (.call 198 [(.t 52),(.t 53)]),rg 55 (.call 72 [(.t 54)]),mv 4 55])
 (.pre (.norm false [4]) .ret)))))))))
def b200:AX:=
 (.seq
 (.reg [rg 2 (.mov (.c (.b false)))])
 (.seq
 (.reg [mv 3 0,rg 4 (.len (.t 3)),rg 5 (.bin .eql (.t 4) (.c (.i .i64 1))),mv 6 5,gd 7 6 true (.mov (.t 0)),gd 8 6 true (.iad 1 (.t 7) (.c (.i .i64 0))),gd 9 6 true (.load none (.t 8)),gd 10 6 true (.bin .eql (.t 9) (.c (u32 1))),rg 11 (.pick (.t 6) (.t 10) (.c (.b false))),mv 2 11])
 (.pre (.norm false [2]) .ret)))
def b201:AX:=
 (.seq
 (.reg [rg 4 (.mov (.c (.sl [] .nl))),rg 5 (.mov (.c (.sl [] .nl)))])
 (.seq
 (.reg [mv 7 0,mv 8 1,rg 9 (.call 199 [(.t 7),(.t 8)]),mv 6 9])
 (.seq
 (.block 0
 (.seq
 (.reg [mv 11 6,rg 12 (.len (.t 11)),rg 13 (.bin .eql (.t 12) (.c (.i .i64 0))),mv 10 13])
 (.cond (.t 10)
 (.seq
 (.reg [rg 4 (.mov (.c (.sl [] .nl))),rg 5 (.mov (.c (.sl [] .nl)))])
 (.pre (.norm false [4,5]) .ret))
 (.seq
 (.reg [mv 15 6,rg 16 (.call 200 [(.t 15)]),mv 14 16])
 (.cond (.t 14)
 (.seq
 (.reg [mv 17 0,rg 18 (.call 71 [(.t 17)]),mv 19 1,rg 20 (.call 71 [(.t 19)]),mv 4 18,mv 5 20])
 (.pre (.norm false [4,5]) .ret))
 .skip)))))
 (.seq
 (.reg [mv 22 0,mv 23 6,rg 24 (.call 62 [(.t 22),(.t 23)]),mv 21 24,rg 25 (.ext (.t 21) 0),rg 26 (.ext (.t 21) 1),rg 27 (.ext (.t 21) 2),mv 4 25])
 (.seq
 (.reg [mv 29 1,mv 30 6,rg 31 (.call 62 [(.t 29),(.t 30)]),mv 28 31,rg 32 (.ext (.t 28) 0),rg 33 (.ext (.t 28) 1),rg 34 (.ext (.t 28) 2),mv 5 32])
 (.seq
 (.reg [mv 35 4,mv 36 5,mv 4 35,mv 5 36])
 (.pre (.norm false [4,5]) .ret)))))))
def row198:AFx:=⟨2,12,[.t 4],b198,none,false⟩
def row199:AFx:=⟨2,56,[.t 4],b199,none,false⟩
def row200:AFx:=⟨1,12,[.t 2],b200,none,false⟩
def row201:AFx:=⟨2,37,[.t 4,.t 5],b201,none,false⟩
class Zf (T:Tbl):Prop where
 h198:T 198=some row198
 h199:T 199=some row199
 h200:T 200=some row200
 h201:T 201=some row201
section
variable{T:Tbl}[Zf T]{d:Option Nat}{st:St}{xs:List AV}{ps:List Opd}{e:Env}{h:Heap}{ol:List Heap}
@[simp] theorem x198:Zd (orc T) T 198 xs d st=cP T 198 false xs d st:=zaa Zf.h198
@[simp] theorem x199:Zd (orc T) T 199 xs d st=cP T 199 false xs d st:=zaa Zf.h199
@[simp] theorem x200:Zd (orc T) T 200 xs d st=cP T 200 false xs d st:=zaa Zf.h200
@[simp] theorem x201:Zd (orc T) T 201 xs d st=cP T 201 false xs d st:=zaa Zf.h201
end
def b202:AX:=
 (.seq
 (.reg [rg 2 (.xop (.box 2) [(.t 0)]),rg 4 (.alloc [(.b false),(.sl [] .nl),(.sl [] .nl)])])
 (.seq
 (.reg [rg 8 (.fad 1 (.t 2)),rg 9 (.load none (.t 8)),mv 10 1,rg 11 (.call 201 [(.t 9),(.t 10)]),mv 7 11,rg 12 (.ext (.t 7) 0),rg 13 (.ext (.t 7) 1),mv 5 12,mv 6 13])
 (.seq
 (.reg [rg 14 (.fad 0 (.t 2)),rg 15 (.load none (.t 14)),mv 16 5,rg 17 (.build [(.b false),(.sl [] .nl)] [(0,1,(.t 15)),(1,1,(.t 16))]),rg 18 (.call 38 [(.t 17)]),mv 19 6,rg 20 (.build [(.b false),(.sl [] .nl),(.sl [] .nl)] [(0,2,(.t 18)),(2,1,(.t 19))]),so (.store 3 (.t 4) (.t 20))])
 (.pre (.norm false [4]) .ret))))
def b203:AX:=
 (.seq
 (.reg [rg 1 (.xop (.box 3) [(.t 0)]),rg 2 (.alloc [(.b false),(.sl [] .nl)]),rg 3 (.mov (.c (.sl [] .nl)))])
 (.seq
 (.seq
 (.reg [rg 4 (.fad 2 (.t 1)),rg 5 (.load none (.t 4)),rg 6 (.call 70 [(.t 5)])])
 (.cond (.t 6)
 (.seq
 (.reg [rg 7 (.build [(.b false),(.sl [] .nl)] []),rg 8 (.call 72 [(.c (u64 1))]),so (.store 2 (.t 2) (.t 7)),mv 3 8])
 (.pre (.norm false [2,3]) .ret))
 .skip))
 (.seq
 (.draw [⟨rg 9 (.fad 0 (.t 1)),0,0⟩,⟨rg 10 (.load (some 2) (.t 9)),0,0⟩,⟨rg 11 (.fad 2 (.t 1)),0,1⟩,⟨rg 12 (.load none (.t 11)),0,1⟩,⟨so (.store 2 (.t 2) (.t 10)),0,1⟩,⟨mv 3 12,1,1⟩])
 (.pre (.norm false [2,3]) .ret))))
def b205:AX:=
 (.seq
 (.reg [rg 2 (.alloc [(.b false),(.sl [] .nl),(.sl [] .nl)])])
 (.seq
 (.reg [mv 3 0,rg 4 (.call 41 [(.t 3)]),rg 5 (.call 72 [(.c (u64 1))]),rg 6 (.build [(.b false),(.sl [] .nl),(.sl [] .nl)] [(0,2,(.t 4)),(2,1,(.t 5))]),so (.store 3 (.t 2) (.t 6))])
 (.pre (.norm false [2]) .ret)))
def b207:AX:=
 (.seq
 (.reg [rg 1 (.xop (.box 3) [(.t 0)]),rg 2 (.alloc [(.b false),(.sl [] .nl),(.sl [] .nl)])])
 (.seq
 (.reg [rg 3 (.load (some 3) (.t 1)),rg 4 (.call 203 [(.t 3)]),rg 5 (.ext (.t 4) 0),rg 6 (.ext (.t 4) 1),rg 7 (.call 202 [(.t 5),(.t 6)]),so (.store 3 (.t 2) (.t 7))])
 (.pre (.norm false [2]) .ret)))
def b210:AX:=
 (.seq
 (.reg [rg 2 (.xop (.box 2) [(.t 0)]),rg 4 (.alloc [(.b false),(.sl [] .nl)])])
 (.seq
 (.reg [rg 5 (.load (some 2) (.t 2)),mv 6 1,rg 7 (.build [(.b false),(.sl [] .nl)] [(1,1,(.t 6))]),rg 8 (.call 27 [(.t 5),(.t 7)]),so (.store 2 (.t 4) (.t 8))])
 (.pre (.norm false [4]) .ret)))
def b211:AX:=
 (.seq
 (.reg [rg 2 (.xop (.box 3) [(.t 0)]),rg 3 (.xop (.box 3) [(.t 1)]),rg 4 (.mov (.c (.i .i64 0)))])
 (.seq
 (.reg [rg 10 (.load (some 3) (.t 2)),rg 11 (.call 203 [(.t 10)]),mv 9 11,rg 12 (.ext (.t 9) 0),rg 13 (.ext (.t 9) 1),rg 5 (.alloc [(.b false),(.sl [] .nl)]),so (.store 2 (.t 5) (.t 12)),mv 6 13])
 (.seq
 (.reg [rg 15 (.load (some 3) (.t 3)),rg 16 (.call 203 [(.t 15)]),mv 14 16,rg 17 (.ext (.t 14) 0),rg 18 (.ext (.t 14) 1),rg 7 (.alloc [(.b false),(.sl [] .nl)]),so (.store 2 (.t 7) (.t 17)),mv 8 18])
 (.seq
 (.drawT [rg 19 (.load (some 2) (.t 5)),mv 20 8,rg 21 (.call 210 [(.t 19),(.t 20)]),rg 22 (.load (some 2) (.t 7)),mv 23 6]
 [rg 24 (.call 210 [(.t 22),(.t 23)]),rg 25 (.call 36 [(.t 21),(.t 24)]),mv 4 25])
 (.pre (.norm false [4]) .ret)))))
def b212:AX:=
 (.seq
 (.reg [rg 2 (.xop (.box 3) [(.t 0)]),rg 3 (.xop (.box 3) [(.t 1)]),rg 4 (.mov (.c (.b false)))])
 (.seq
 (.reg [rg 5 (.load (some 3) (.t 2)),rg 6 (.load (some 3) (.t 3)),rg 7 (.call 211 [(.t 5),(.t 6)]),rg 8 (.bin .eql (.t 7) (.c (.i .i64 0))),mv 4 8])
 (.pre (.norm false [4]) .ret)))
def b215:AX:=
 (.seq
 (.reg [rg 2 (.xop (.box 3) [(.t 0)]),rg 3 (.xop (.box 3) [(.t 1)]),rg 4 (.alloc [(.b false),(.sl [] .nl),(.sl [] .nl)])])
 (.seq
 (.reg [rg 10 (.load (some 3) (.t 2)),rg 11 (.call 203 [(.t 10)]),mv 9 11,rg 12 (.ext (.t 9) 0),rg 13 (.ext (.t 9) 1),rg 5 (.alloc [(.b false),(.sl [] .nl)]),so (.store 2 (.t 5) (.t 12)),mv 6 13])
 (.seq
 (.reg [rg 15 (.load (some 3) (.t 3)),rg 16 (.call 203 [(.t 15)]),mv 14 16,rg 17 (.ext (.t 14) 0),rg 18 (.ext (.t 14) 1),rg 7 (.alloc [(.b false),(.sl [] .nl)]),so (.store 2 (.t 7) (.t 17)),mv 8 18])
 (.seq
 (.drawT [rg 19 (.load (some 2) (.t 5)),mv 20 8,rg 21 (.call 210 [(.t 19),(.t 20)]),rg 22 (.load (some 2) (.t 7)),mv 23 6,rg 24 (.call 210 [(.t 22),(.t 23)]),rg 25 (.call 23 [(.t 21),(.t 24)]),mv 26 6,mv 27 8]
 [rg 28 (.call 60 [(.t 26),(.t 27)]),rg 29 (.call 202 [(.t 25),(.t 28)]),so (.store 3 (.t 4) (.t 29))])
 (.pre (.norm false [4]) .ret)))))
def b217:AX:=
 (.seq
 (.reg [rg 2 (.xop (.box 3) [(.t 0)]),rg 3 (.xop (.box 3) [(.t 1)]),rg 4 (.alloc [(.b false),(.sl [] .nl),(.sl [] .nl)])])
 (.seq
 (.reg [rg 10 (.load (some 3) (.t 2)),rg 11 (.call 203 [(.t 10)]),mv 9 11,rg 12 (.ext (.t 9) 0),rg 13 (.ext (.t 9) 1),rg 5 (.alloc [(.b false),(.sl [] .nl)]),so (.store 2 (.t 5) (.t 12)),mv 6 13])
 (.seq
 (.reg [rg 15 (.load (some 3) (.t 3)),rg 16 (.call 203 [(.t 15)]),mv 14 16,rg 17 (.ext (.t 14) 0),rg 18 (.ext (.t 14) 1),rg 7 (.alloc [(.b false),(.sl [] .nl)]),so (.store 2 (.t 7) (.t 17)),mv 8 18])
 (.seq
 (.reg [rg 19 (.load (some 2) (.t 5)),rg 20 (.load (some 2) (.t 7)),rg 21 (.call 27 [(.t 19),(.t 20)]),mv 22 6,mv 23 8,rg 24 (.call 60 [(.t 22),(.t 23)]),rg 25 (.call 202 [(.t 21),(.t 24)]),so (.store 3 (.t 4) (.t 25))])
 (.pre (.norm false [4]) .ret)))))
def row202:AFx:=⟨2,21,[.cell 4 (some 3)],b202,none,false⟩
def row203:AFx:=⟨1,13,[.cell 2 (some 2),.t 3],b203,none,false⟩
def row205:AFx:=⟨1,7,[.cell 2 (some 3)],b205,none,false⟩
def row207:AFx:=⟨1,8,[.cell 2 (some 3)],b207,none,false⟩
def row210:AFx:=⟨2,9,[.cell 4 (some 2)],b210,none,false⟩
def row211:AFx:=⟨2,26,[.t 4],b211,none,false⟩
def row212:AFx:=⟨2,9,[.t 4],b212,none,false⟩
def row215:AFx:=⟨2,30,[.cell 4 (some 3)],b215,none,false⟩
def row217:AFx:=⟨2,26,[.cell 4 (some 3)],b217,none,false⟩
class Zr (T:Tbl):Prop where
 h202:T 202=some row202
 h203:T 203=some row203
 h205:T 205=some row205
 h207:T 207=some row207
 h210:T 210=some row210
 h211:T 211=some row211
 h212:T 212=some row212
 h215:T 215=some row215
 h217:T 217=some row217
section
variable{T:Tbl}[Zr T]{d:Option Nat}{st:St}{xs:List AV}{ps:List Opd}{e:Env}{h:Heap}{ol:List Heap}
@[simp] theorem x202:Zd (orc T) T 202 xs d st=cP T 202 false xs d st:=zaa Zr.h202
@[simp] theorem x203:Zd (orc T) T 203 xs d st=cP T 203 false xs d st:=zaa Zr.h203
@[simp] theorem x205:Zd (orc T) T 205 xs d st=cP T 205 false xs d st:=zaa Zr.h205
@[simp] theorem y205:opD (orc T) T (.call 205 ps) e h ol=dP T 205 false ps e:=zao Zr.h205
@[simp] theorem x207:Zd (orc T) T 207 xs d st=cP T 207 false xs d st:=zaa Zr.h207
@[simp] theorem x210:Zd (orc T) T 210 xs d st=cP T 210 false xs d st:=zaa Zr.h210
@[simp] theorem y210:opD (orc T) T (.call 210 ps) e h ol=dP T 210 false ps e:=zao Zr.h210
@[simp] theorem x211:Zd (orc T) T 211 xs d st=cP T 211 false xs d st:=zaa Zr.h211
@[simp] theorem x212:Zd (orc T) T 212 xs d st=cP T 212 false xs d st:=zaa Zr.h212
@[simp] theorem y212:opD (orc T) T (.call 212 ps) e h ol=dP T 212 false ps e:=zao Zr.h212
@[simp] theorem x215:Zd (orc T) T 215 xs d st=cP T 215 false xs d st:=zaa Zr.h215
@[simp] theorem y215:opD (orc T) T (.call 215 ps) e h ol=dP T 215 false ps e:=zao Zr.h215
@[simp] theorem x217:Zd (orc T) T 217 xs d st=cP T 217 false xs d st:=zaa Zr.h217
@[simp] theorem y217:opD (orc T) T (.call 217 ps) e h ol=dP T 217 false ps e:=zao Zr.h217
theorem f217(xs:List AV)(hn:xs.length=2):Za T 217 xs=Zgw [.cell 4 (some 3)] false (evX (orc T) T 0 b217 ⟨Zcd xs,[],1⟩):=zab Zr.h217 hn
end
def b204:AX:=
 (.seq
 (.reg [rg 2 (.xop (.box 2) [(.t 0)]),rg 4 (.alloc [(.b false),(.sl [] .nl),(.sl [] .nl)]),rg 5 (.mov (.c (.b false)))])
 (.seq
 (.seq
 (.reg [mv 6 1,rg 7 (.call 70 [(.t 6)])])
 (.cond (.t 7)
 (.seq
 (.reg [rg 8 (.call 205 [(.c (.i .i64 0))]),so (.store 3 (.t 4) (.t 8)),rg 5 (.mov (.c (.b false)))])
 (.pre (.norm false [4,5]) .ret))
 .skip))
 (.seq
 (.reg [rg 9 (.load (some 2) (.t 2)),mv 10 1,rg 11 (.call 202 [(.t 9),(.t 10)]),so (.store 3 (.t 4) (.t 11)),rg 5 (.mov (.c (.b true)))])
 (.pre (.norm false [4,5]) .ret))))
def row204:AFx:=⟨2,12,[.cell 4 (some 3),.t 5],b204,none,false⟩
class Za9 (T:Tbl):Prop where
 h204:T 204=some row204
section
variable{T:Tbl}[Za9 T]{d:Option Nat}{st:St}{xs:List AV}{ps:List Opd}{e:Env}{h:Heap}{ol:List Heap}
@[simp] theorem x204:Zd (orc T) T 204 xs d st=cP T 204 false xs d st:=zaa Za9.h204
@[simp] theorem y204:opD (orc T) T (.call 204 ps) e h ol=dP T 204 false ps e:=zao Za9.h204
end
def b208:AX:=
 (.seq
 (.reg [rg 1 (.xop (.box 3) [(.t 0)]),rg 2 (.mov (.c (.b false)))])
 (.seq
 (.reg [rg 4 (.load (some 3) (.t 1)),rg 5 (.call 207 [(.t 4)]),rg 3 (.alloc [(.b false),(.sl [] .nl),(.sl [] .nl)]),so (.store 3 (.t 3) (.t 5))])
 (.seq
 (.reg [rg 6 (.fad 0 (.t 1)),rg 7 (.fad 0 (.t 6)),rg 8 (.load none (.t 7)),rg 9 (.fad 0 (.t 3)),rg 10 (.fad 0 (.t 9)),rg 11 (.load none (.t 10)),rg 12 (.eqb false (.t 8) (.t 11)),mv 13 12,gd 14 13 true (.fad 0 (.t 1)),gd 15 13 true (.fad 1 (.t 14)),gd 16 13 true (.load none (.t 15)),gd 17 13 true (.len (.t 16)),gd 18 13 true (.fad 0 (.t 3)),gd 19 13 true (.fad 1 (.t 18)),gd 20 13 true (.load none (.t 19)),gd 21 13 true (.len (.t 20)),gd 22 13 true (.bin .eql (.t 17) (.t 21)),rg 23 (.pick (.t 13) (.t 22) (.c (.b false))),mv 24 23,gd 25 24 true (.fad 2 (.t 1)),gd 26 24 true (.load none (.t 25)),gd 27 24 true (.len (.t 26)),gd 28 24 true (.fad 2 (.t 3)),gd 29 24 true (.load none (.t 28)),gd 30 24 true (.len (.t 29)),gd 31 24 true (.bin .eql (.t 27) (.t 30)),rg 32 (.pick (.t 24) (.t 31) (.c (.b false))),mv 33 32,gd 34 33 true (.fad 0 (.t 1)),gd 35 33 true (.fad 1 (.t 34)),gd 36 33 true (.load none (.t 35)),gd 37 33 true (.fad 0 (.t 3)),gd 38 33 true (.fad 1 (.t 37)),gd 39 33 true (.load none (.t 38)),gd 40 33 true (.call 87 [(.t 36),(.t 39)]),gd 41 33 true (.bin .eql (.t 40) (.c (.i .i64 0))),rg 42 (.pick (.t 33) (.t 41) (.c (.b false))),mv 43 42,gd 44 43 true (.fad 2 (.t 1)),gd 45 43 true (.load none (.t 44)),gd 46 43 true (.fad 2 (.t 3)),gd 47 43 true (.load none (.t 46)),gd 48 43 true (.call 87 [(.t 45),(.t 47)]),gd 49 43 true (.bin .eql (.t 48) (.c (.i .i64 0))),rg 50 (.pick (.t 43) (.t 49) (.c (.b false))),mv 2 50])
 (.pre (.norm false [2]) .ret))))
def row208:AFx:=⟨1,51,[.t 2],b208,none,false⟩
class Zaa (T:Tbl):Prop where
 h208:T 208=some row208
section
variable{T:Tbl}[Zaa T]{d:Option Nat}{st:St}{xs:List AV}{ps:List Opd}{e:Env}{h:Heap}{ol:List Heap}
@[simp] theorem x208:Zd (orc T) T 208 xs d st=cP T 208 false xs d st:=zaa Zaa.h208
end
def b223:AX:=
 (.seq
 (.reg [rg 1 (.xop (.box 3) [(.t 0)]),rg 2 (.mov (.c (.i .i64 0)))])
 (.seq
 (.drawT [rg 3 (.fad 0 (.t 1)),rg 4 (.fad 1 (.t 3)),rg 5 (.load none (.t 4)),rg 6 (.call 356 [(.t 5)]),rg 7 (.fad 2 (.t 1)),rg 8 (.load none (.t 7))]
 [rg 9 (.call 356 [(.t 8)]),rg 10 (.bin .add (.t 6) (.t 9)),mv 2 10])
 (.pre (.norm false [2]) .ret)))
def row223:AFx:=⟨1,11,[.t 2],b223,none,false⟩
class Zae (T:Tbl):Prop where
 h223:T 223=some row223
section
variable{T:Tbl}[Zae T]{d:Option Nat}{st:St}{xs:List AV}{ps:List Opd}{e:Env}{h:Heap}{ol:List Heap}
@[simp] theorem x223:Zd (orc T) T 223 xs d st=cP T 223 false xs d st:=zaa Zae.h223
end
def prim344:List AV→Option AV
 | [.s s,.s [47,46]]=>if s.length≤1000000 then some (.i .i64 (Lib.indexAny s [47,46])) else none
 | _=>none
def prim194:List AV→Option AV
 | [.s s,.s [c]]=>some (.i .i64 (Lib.indexByte s c))
 | _=>none
def prim361:List AV→Option AV
 | [.s s,.s [c]]=>some (.i .i64 (Lib.countByte s c))
 | _=>none
def prim343:List AV→Option AV
 | [.s [48],.i .i64 n]=>if 0≤n∧n≤64 then some (.s (List.replicate n.toNat 48)) else none
 | _=>none
def row344:AFx:=⟨0,0,[],.prim prim344,none,false⟩
def row194:AFx:=⟨0,0,[],.prim prim194,none,false⟩
def row361:AFx:=⟨0,0,[],.prim prim361,none,false⟩
class Zcn (T:Tbl):Prop where
 h344:T 344=some row344
 h194:T 194=some row194
 h361:T 361=some row361
section
variable{T:Tbl}[Zcn T]{d:Option Nat}{st:St}{xs:List AV}{ps:List Opd}{e:Env}{h:Heap}{ol:List Heap}
@[simp] theorem x344:Zd (orc T) T 344 xs d st=cP T 344 false xs d st:=zaa Zcn.h344
theorem p344(xs:List AV):Za T 344 xs=prim344 xs:=zcx Zcn.h344
@[simp] theorem x194:Zd (orc T) T 194 xs d st=cP T 194 false xs d st:=zaa Zcn.h194
theorem p194(xs:List AV):Za T 194 xs=prim194 xs:=zcx Zcn.h194
@[simp] theorem x361:Zd (orc T) T 361 xs d st=cP T 361 false xs d st:=zaa Zcn.h361
theorem p361(xs:List AV):Za T 361 xs=prim361 xs:=zcx Zcn.h361
end
def b346:AX:=
 (.seq
 (.reg [rg 4 (.mov (.c (.sl [] .nl)))])
 (.seq
 (.reg [mv 5 0,mv 6 1,rg 7 (.call 354 [(.t 5),(.t 6),(.c (.i .i64 0)),(.c (.i .i64 (-1)))]),mv 4 7])
 (.pre (.norm false [4]) .ret)))
def l354_0:AX:=
 (.note
 (.seq
 (.seq
 (.reg [mv 34 10,mv 35 3,rg 36 (.bin .lss (.t 34) (.t 35))])
 (.cond (.t 36)
 .skip
 (.exit 0)))
 (.block 1
 (.seq
 (.reg [mv 37 0,mv 38 1,rg 39 (.call 362 [(.t 37),(.t 38)]),mv 11 39])
 (.seq
 (.seq
 (.reg [mv 40 11,rg 41 (.bin .lss (.t 40) (.c (.i .i64 0)))])
 (.cond (.t 41)
 (.exit 0)
 .skip))
 (.seq
 (.reg [mv 42 9,mv 43 10,mv 44 0,mv 45 11,mv 46 2,rg 47 (.bin .add (.t 45) (.t 46)),rg 48 (.slstr (.t 44) none (some (.t 47))),rg 49 (.iad 1 (.t 42) (.t 43)),so (.store 1 (.t 49) (.t 48))])
 (.seq
 (.reg [mv 50 0,mv 51 11,mv 52 1,rg 53 (.lens (.t 52)),rg 54 (.bin .add (.t 51) (.t 53)),rg 55 (.slstr (.t 50) (some (.t 54)) none),mv 0 55])
 (.reg [mv 56 10,rg 57 (.bin .add (.t 56) (.c (.i .i64 1))),mv 10 57])))))))
 (.norm false [0,1,2,3,9,10]))
def b354:AX:=
 (.seq
 (.reg [rg 8 (.mov (.c (.sl [] .nl)))])
 (.seq
 (.seq
 (.reg [mv 12 3,rg 13 (.bin .eql (.t 12) (.c (.i .i64 0)))])
 (.cond (.t 13)
 (.seq
 (.reg [rg 8 (.mov (.c (.sl [] .nl)))])
 (.pre (.norm false [8]) .ret))
 .skip))
 (.seq
 (.seq
 (.reg [mv 14 1,rg 15 (.bin .eql (.t 14) (.c (.s [])))])
 (.cond (.t 15)
 (.seq
 (.reg [mv 16 0,mv 17 3,rg 18 (.call 360 [(.t 16),(.t 17)]),mv 8 18])
 (.pre (.norm false [8]) .ret))
 .skip))
 (.seq
 (.seq
 (.reg [mv 19 3,rg 20 (.bin .lss (.t 19) (.c (.i .i64 0)))])
 (.cond (.t 20)
 (.reg [mv 21 0,mv 22 1,rg 23 (.call 361 [(.t 21),(.t 22)]),rg 24 (.bin .add (.t 23) (.c (.i .i64 1))),mv 3 24])
 .skip))
 (.seq
 (.reg [mv 25 3,mv 26 0,rg 27 (.lens (.t 26)),rg 28 (.bin .add (.t 27) (.c (.i .i64 1))),rg 29 (.mm false [(.t 25),(.t 28)]),mv 3 29])
 (.seq
 (.reg [mv 30 3,rg 31 (.mks 1 [(.s [])] (.t 30) (.t 30)),mv 9 31])
 (.seq
 (.reg [mv 32 3,rg 33 (.bin .sub (.t 32) (.c (.i .i64 1))),mv 3 33])
 (.seq
 (.reg [rg 10 (.mov (.c (.i .i64 0)))])
 (.seq
 (.lp 0 (.norm false [0,1,2,3,9,10]) l354_0 (.norm false [0,9,10]))
 (.seq
 (.reg [mv 58 9,mv 59 10,mv 60 0,rg 61 (.iad 1 (.t 58) (.t 59)),so (.store 1 (.t 61) (.t 60))])
 (.seq
 (.reg [mv 62 9,mv 63 10,rg 64 (.bin .add (.t 63) (.c (.i .i64 1))),rg 65 (.slc 1 (.t 62) none (some (.t 64)) none),mv 8 65])
 (.pre (.norm false [8]) .ret))))))))))))
def b362:AX:=
 (.seq
 (.reg [rg 4 (.mov (.c (.i .i64 0)))])
 (.seq
 (.reg [mv 5 0,mv 6 1,rg 7 (.call 194 [(.t 5),(.t 6)]),mv 4 7])
 (.pre (.norm false [4]) .ret)))
def b345:AX:=
 (.seq
 (.reg [rg 4 (.mov (.c (.b false)))])
 (.seq
 (.reg [mv 5 0,mv 6 1,rg 7 (.call 123 [(.t 5),(.t 6)]),mv 4 7])
 (.pre (.norm false [4]) .ret)))
def row346:AFx:=⟨2,8,[.t 4],b346,none,false⟩
def row354:AFx:=⟨4,66,[.t 8],b354,none,false⟩
def row362:AFx:=⟨2,8,[.t 4],b362,none,false⟩
def row345:AFx:=⟨2,8,[.t 4],b345,none,false⟩
class Zaj (T:Tbl):Prop where
 h346:T 346=some row346
 h354:T 354=some row354
 h362:T 362=some row362
 h345:T 345=some row345
section
variable{T:Tbl}[Zaj T]{d:Option Nat}{st:St}{xs:List AV}{ps:List Opd}{e:Env}{h:Heap}{ol:List Heap}
@[simp] theorem x346:Zd (orc T) T 346 xs d st=cP T 346 false xs d st:=zaa Zaj.h346
@[simp] theorem x354:Zd (orc T) T 354 xs d st=cP T 354 false xs d st:=zaa Zaj.h354
@[simp] theorem x362:Zd (orc T) T 362 xs d st=cP T 362 false xs d st:=zaa Zaj.h362
@[simp] theorem y345:opD (orc T) T (.call 345 ps) e h ol=dP T 345 false ps e:=zao Zaj.h345
end
def l258_0:AX:=
 (.note
 (.seq
 (.seq
 (.reg [mv 36 8,rg 37 (.bin .geq (.t 36) (.c (.i .i64 0)))])
 (.cond (.t 37)
 .skip
 (.exit 0)))
 (.seq
 (.block 1
 (.seq
 (.reg [mv 40 7,rg 41 (.call 357 [(.t 40)]),mv 7 41])
 (.seq
 (.reg [mv 42 1,mv 43 8,rg 44 (.bin .shr (.t 42) (.t 43)),rg 45 (.bin .and (.t 44) (.c (.i .i64 1))),rg 46 (.bin .eql (.t 45) (.c (.i .i64 1)))])
 (.cond (.t 46)
 (.reg [mv 47 7,mv 48 0,rg 49 (.call 60 [(.t 47),(.t 48)]),mv 7 49])
 .skip))))
 (.reg [mv 38 8,rg 39 (.bin .sub (.t 38) (.c (.i .i64 1))),mv 8 39])))
 (.norm false [0,1,7,8]))
def b258:AX:=
 (.seq
 (.reg [rg 4 (.mov (.c (.sl [] .nl))),rg 5 (.mov (.c (.b false)))])
 (.seq
 (.reg [mv 9 0,rg 10 (.call 356 [(.t 9)]),mv 6 10])
 (.seq
 (.seq
 (.reg [mv 11 1,rg 12 (.bin .lss (.t 11) (.c (.i .i64 0))),mv 13 12,gd 14 13 false (.mov (.t 6)),gd 15 13 false (.bin .gtr (.t 14) (.c (.i .i64 1))),gd 16 13 false (.mov (.t 15)),gd 17 16 true (.mov (.t 1)),gd 18 16 true (.mov (.t 6)),gd 19 16 true (.bin .quo (.c (.i .i64 65536)) (.t 18)),gd 20 16 true (.bin .gtr (.t 17) (.t 19)),gd 21 13 false (.pick (.t 16) (.t 20) (.c (.b false))),rg 22 (.pick (.t 13) (.c (.b true)) (.t 21))])
 (.cond (.t 22)
 (.seq
 (.reg [rg 4 (.mov (.c (.sl [] .nl))),rg 5 (.mov (.c (.b false)))])
 (.pre (.norm false [4,5]) .ret))
 .skip))
 (.seq
 (.reg [rg 23 (.call 72 [(.c (u64 1))]),mv 7 23])
 (.seq
 (.seq
 (.reg [mv 24 6,rg 25 (.bin .lss (.t 24) (.c (.i .i64 2)))])
 (.cond (.t 25)
 (.seq
 (.seq
 (.reg [mv 26 1,rg 27 (.bin .gtr (.t 26) (.c (.i .i64 0)))])
 (.cond (.t 27)
 (.reg [mv 28 0,rg 29 (.call 71 [(.t 28)]),mv 7 29])
 .skip))
 (.seq
 (.reg [mv 30 7,mv 4 30,rg 5 (.mov (.c (.b true)))])
 (.pre (.norm false [4,5]) .ret)))
 .skip))
 (.seq
 (.seq
 (.reg [mv 31 1,rg 32 (.conv .u64 (.t 31)),rg 33 (.call 72 [(.t 32)]),rg 34 (.call 356 [(.t 33)]),rg 35 (.bin .sub (.t 34) (.c (.i .i64 1))),mv 8 35])
 (.lp 0 (.norm false [0,1,7,8]) l258_0 (.norm false [7])))
 (.seq
 (.reg [mv 50 7,mv 4 50,rg 5 (.mov (.c (.b true)))])
 (.pre (.norm false [4,5]) .ret))))))))
def b356:AX:=
 (.seq
 (.reg [rg 2 (.mov (.c (.i .i64 0)))])
 (.seq
 (.reg [mv 4 0,rg 5 (.call 71 [(.t 4)]),mv 0 5])
 (.seq
 (.reg [mv 6 0,rg 7 (.len (.t 6)),mv 3 7])
 (.seq
 (.seq
 (.reg [mv 8 3,rg 9 (.bin .eql (.t 8) (.c (.i .i64 0)))])
 (.cond (.t 9)
 (.seq
 (.reg [rg 2 (.mov (.c (.i .i64 0)))])
 (.pre (.norm false [2]) .ret))
 .skip))
 (.seq
 (.reg [mv 10 3,rg 11 (.bin .sub (.t 10) (.c (.i .i64 1))),rg 12 (.bin .mul (.c (.i .i64 32)) (.t 11)),mv 13 0,mv 14 3,rg 15 (.bin .sub (.t 14) (.c (.i .i64 1))),rg 16 (.iad 1 (.t 13) (.t 15)),rg 17 (.load none (.t 16)),rg 18 (.call 91 [(.t 17)]),rg 19 (.bin .add (.t 12) (.t 18)),mv 2 19])
 (.pre (.norm false [2]) .ret))))))
def l357_0:AX:=
 (.note
 (.seq
 (.reg [rg 18 (.bin .lss (.t 17) (.t 16))])
 (.seq
 (.cond (.t 18)
 .skip
 (.exit 0))
 (.seq
 (.block 1
 (.seq
 (.reg [mv 19 17,rg 20 (.iad 1 (.t 15) (.t 17)),rg 21 (.load none (.t 20)),mv 4 19,mv 5 21])
 (.reg [mv 22 3,mv 23 4,rg 24 (.bin .mul (.c (.i .i64 2)) (.t 23)),rg 25 (.bin .add (.t 24) (.c (.i .i64 1))),mv 26 0,mv 27 4,rg 28 (.bin .add (.t 27) (.c (.i .i64 1))),rg 29 (.slc 1 (.t 26) (some (.t 28)) none none),mv 30 5,rg 31 (.call 89 [(.t 22),(.t 25),(.t 29),(.t 30),(.c (u32 0))])])))
 (.reg [rg 32 (.bin .add (.t 17) (.c (.i .i64 1))),mv 17 32]))))
 (.norm false [0,3,15,16,17]))
def l357_1:AX:=
 (.note
 (.seq
 (.reg [rg 42 (.bin .lss (.t 41) (.t 40))])
 (.seq
 (.cond (.t 42)
 .skip
 (.exit 2))
 (.seq
 (.block 3
 (.seq
 (.reg [mv 43 41,rg 44 (.iad 1 (.t 39) (.t 41)),rg 45 (.load none (.t 44)),mv 8 43,mv 9 45])
 (.reg [mv 47 7,mv 48 8,rg 49 (.bin .mul (.c (.i .i64 2)) (.t 48)),rg 50 (.bin .add (.t 49) (.c (.i .i64 1))),mv 51 7,mv 52 8,rg 53 (.bin .mul (.c (.i .i64 2)) (.t 52)),mv 54 9,mv 55 9,rg 56 (.call 117 [(.t 54),(.t 55),(.c (u32 0)),(.c (u32 0))]),mv 46 56,rg 57 (.ext (.t 46) 0),rg 58 (.ext (.t 46) 1),rg 59 (.iad 1 (.t 47) (.t 50)),so (.store 1 (.t 59) (.t 57)),rg 60 (.iad 1 (.t 51) (.t 53)),so (.store 1 (.t 60) (.t 58))])))
 (.reg [rg 61 (.bin .add (.t 41) (.c (.i .i64 1))),mv 41 61]))))
 (.norm false [6,7,39,40,41]))
def b357:AX:=
 (.seq
 (.reg [rg 2 (.mov (.c (.sl [] .nl)))])
 (.seq
 (.reg [mv 10 0,rg 11 (.len (.t 10)),rg 12 (.bin .mul (.c (.i .i64 2)) (.t 11)),rg 13 (.bin .add (.t 12) (.c (.i .i64 1))),rg 14 (.mks 1 [(u32 0)] (.t 13) (.t 13)),mv 3 14])
 (.seq
 (.seq
 (.reg [mv 15 0,rg 16 (.len (.t 15)),rg 17 (.mov (.c (.i .i64 0)))])
 (.lp 0 (.norm false [0,3,15,16,17]) l357_0 (.norm false [0,3])))
 (.seq
 (.reg [mv 33 3,rg 34 (.call 92 [(.t 33),(.c (.i .i64 1))]),mv 6 34])
 (.seq
 (.reg [mv 35 0,rg 36 (.len (.t 35)),rg 37 (.bin .mul (.c (.i .i64 2)) (.t 36)),rg 38 (.mks 1 [(u32 0)] (.t 37) (.t 37)),mv 7 38])
 (.seq
 (.seq
 (.reg [mv 39 0,rg 40 (.len (.t 39)),rg 41 (.mov (.c (.i .i64 0)))])
 (.lp 2 (.norm false [6,7,39,40,41]) l357_1 (.norm false [6,7])))
 (.seq
 (.reg [mv 62 6,mv 63 7,rg 64 (.bsl 1 [(.sl [] .nl)] 2 [(0,(.t 62)),(1,(.t 63))]),rg 65 (.call 56 [(.t 64)]),mv 2 65])
 (.pre (.norm false [2]) .ret))))))))
def row258:AFx:=⟨2,51,[.t 4,.t 5],b258,none,false⟩
def row356:AFx:=⟨1,20,[.t 2],b356,none,false⟩
def row357:AFx:=⟨1,66,[.t 2],b357,none,false⟩
class Zbj (T:Tbl):Prop where
 h258:T 258=some row258
 h356:T 356=some row356
 h357:T 357=some row357
section
variable{T:Tbl}[Zbj T]{d:Option Nat}{st:St}{xs:List AV}{ps:List Opd}{e:Env}{h:Heap}{ol:List Heap}
@[simp] theorem x258:Zd (orc T) T 258 xs d st=cP T 258 false xs d st:=zaa Zbj.h258
@[simp] theorem x356:Zd (orc T) T 356 xs d st=cP T 356 false xs d st:=zaa Zbj.h356
@[simp] theorem y356:opD (orc T) T (.call 356 ps) e h ol=dP T 356 false ps e:=zao Zbj.h356
@[simp] theorem x357:Zd (orc T) T 357 xs d st=cP T 357 false xs d st:=zaa Zbj.h357
end
def b252:AX:=
 (.seq
 (.reg [rg 2 (.mov (.c (.sl [] .nl)))])
 (.seq
 (.reg [rg 6 (.call 72 [(.c (u64 10))]),mv 7 0,rg 8 (.call 258 [(.t 6),(.t 7)]),mv 5 8,rg 9 (.ext (.t 5) 0),rg 10 (.ext (.t 5) 1),mv 3 9,mv 4 10])
 (.seq
 (.reg [mv 11 3,mv 2 11])
 (.pre (.norm false [2]) .ret))))
def b253:AX:=
 (.seq
 (.reg [rg 4 (.mov (.c (.sl [] .nl))),rg 5 (.alloc [(.i .i64 0),(.i .i64 0),(.i .i64 0),(.i .i64 0)])])
 (.seq
 (.reg [mv 9 0,mv 10 1,rg 11 (.slstr (.t 9) (some (.t 10)) none),rg 12 (.call 65 [(.t 11)]),mv 8 12,rg 13 (.ext (.t 8) 0),rg 14 (.ext (.t 8) 1),rg 7 (.alloc [(.i .i64 0),(.i .i64 0),(.i .i64 0),(.i .i64 0)]),mv 6 13,so (.store 4 (.t 7) (.t 14))])
 (.seq
 (.seq
 (.reg [rg 15 (.load (some 4) (.t 7)),rg 16 (.build [(.i .i64 0),(.i .i64 0),(.i .i64 0),(.i .i64 0)] []),rg 17 (.eqs true [(0,.int),(1,.int),(2,.int),(3,.int)] (.t 15) (.t 16))])
 (.cond (.t 17)
 (.reg [rg 18 (.fad 3 (.t 7)),rg 19 (.load none (.t 18)),mv 20 1,rg 21 (.bin .add (.t 19) (.t 20)),rg 22 (.fad 3 (.t 7)),so (.store 1 (.t 22) (.t 21))])
 .skip))
 (.seq
 (.drawT [mv 23 6,rg 24 (.load (some 4) (.t 7)),mv 4 23]
 [so (.store 4 (.t 5) (.t 24))])
 (.pre (.norm false [4,5]) .ret)))))
def b254:AX:=
 (.seq
 (.reg [rg 3 (.xop (.box 2) [(.t 0)]),rg 6 (.alloc [(.b false),(.sl [] .nl),(.sl [] .nl)]),rg 7 (.alloc [(.i .i64 0),(.i .i64 0),(.i .i64 0),(.i .i64 0)])])
 (.seq
 (.reg [mv 13 1,mv 14 2,rg 15 (.call 253 [(.t 13),(.t 14)]),mv 12 15,rg 16 (.ext (.t 12) 0),rg 17 (.ext (.t 12) 1),rg 9 (.alloc [(.i .i64 0),(.i .i64 0),(.i .i64 0),(.i .i64 0)]),mv 8 16,so (.store 4 (.t 9) (.t 17))])
 (.seq
 (.seq
 (.reg [rg 18 (.load (some 4) (.t 9)),rg 19 (.build [(.i .i64 0),(.i .i64 0),(.i .i64 0),(.i .i64 0)] []),rg 20 (.eqs true [(0,.int),(1,.int),(2,.int),(3,.int)] (.t 18) (.t 19))])
 (.cond (.t 20)
 (.seq
 (.draw [⟨rg 21 (.call 205 [(.c (.i .i64 0))]),0,0⟩,⟨rg 22 (.load (some 4) (.t 9)),0,1⟩,⟨so (.store 3 (.t 6) (.t 21)),0,1⟩,⟨so (.store 4 (.t 7) (.t 22)),1,2⟩])
 (.pre (.norm false [6,7]) .ret))
 .skip))
 (.seq
 (.reg [rg 24 (.load (some 2) (.t 3)),mv 25 8,rg 26 (.call 204 [(.t 24),(.t 25)]),mv 23 26,rg 27 (.ext (.t 23) 0),rg 28 (.ext (.t 23) 1),rg 10 (.alloc [(.b false),(.sl [] .nl),(.sl [] .nl)]),so (.store 3 (.t 10) (.t 27)),mv 11 28])
 (.seq
 (.seq
 (.reg [mv 29 11,rg 30 (.un .not (.t 29))])
 (.cond (.t 30)
 (.seq
 (.reg [rg 31 (.load (some 3) (.t 10)),mv 32 2,rg 33 (.build [(.i .i64 0),(.i .i64 0),(.i .i64 0),(.i .i64 0)] [(0,1,(.c (.i .i64 2))),(3,1,(.t 32))]),so (.store 3 (.t 6) (.t 31)),so (.store 4 (.t 7) (.t 33))])
 (.pre (.norm false [6,7]) .ret))
 .skip))
 (.seq
 (.reg [rg 34 (.load (some 3) (.t 10)),rg 35 (.build [(.i .i64 0),(.i .i64 0),(.i .i64 0),(.i .i64 0)] []),so (.store 3 (.t 6) (.t 34)),so (.store 4 (.t 7) (.t 35))])
 (.pre (.norm false [6,7]) .ret)))))))
def b255:AX:=
 (.seq
 (.reg [rg 4 (.xop (.box 2) [(.t 0)]),rg 8 (.alloc [(.b false),(.sl [] .nl),(.sl [] .nl)]),rg 9 (.alloc [(.i .i64 0),(.i .i64 0),(.i .i64 0),(.i .i64 0)])])
 (.seq
 (.reg [mv 17 2,mv 18 3,rg 19 (.call 253 [(.t 17),(.t 18)]),mv 16 19,rg 20 (.ext (.t 16) 0),rg 21 (.ext (.t 16) 1),rg 11 (.alloc [(.i .i64 0),(.i .i64 0),(.i .i64 0),(.i .i64 0)]),mv 10 20,so (.store 4 (.t 11) (.t 21))])
 (.seq
 (.seq
 (.reg [rg 22 (.load (some 4) (.t 11)),rg 23 (.build [(.i .i64 0),(.i .i64 0),(.i .i64 0),(.i .i64 0)] []),rg 24 (.eqs true [(0,.int),(1,.int),(2,.int),(3,.int)] (.t 22) (.t 23))])
 (.cond (.t 24)
 (.seq
 (.draw [⟨rg 25 (.call 205 [(.c (.i .i64 0))]),0,0⟩,⟨rg 26 (.load (some 4) (.t 11)),0,1⟩,⟨so (.store 3 (.t 8) (.t 25)),0,1⟩,⟨so (.store 4 (.t 9) (.t 26)),1,2⟩])
 (.pre (.norm false [8,9]) .ret))
 .skip))
 (.seq
 (.reg [mv 27 2,rg 28 (.lens (.t 27)),mv 29 3,rg 30 (.bin .sub (.t 28) (.t 29)),rg 31 (.call 252 [(.t 30)]),mv 12 31])
 (.seq
 (.reg [rg 32 (.fad 1 (.t 4)),rg 33 (.load none (.t 32)),mv 34 12,rg 35 (.call 60 [(.t 33),(.t 34)]),mv 36 10,rg 37 (.bsl 1 [(.sl [] .nl)] 2 [(0,(.t 35)),(1,(.t 36))]),rg 38 (.call 56 [(.t 37)]),mv 13 38])
 (.seq
 (.reg [mv 40 1,mv 41 13,rg 42 (.build [(.b false),(.sl [] .nl)] [(0,1,(.t 40)),(1,1,(.t 41))]),mv 43 12,rg 44 (.call 204 [(.t 42),(.t 43)]),mv 39 44,rg 45 (.ext (.t 39) 0),rg 46 (.ext (.t 39) 1),rg 14 (.alloc [(.b false),(.sl [] .nl),(.sl [] .nl)]),so (.store 3 (.t 14) (.t 45)),mv 15 46])
 (.seq
 (.reg [rg 47 (.load (some 3) (.t 14)),rg 48 (.build [(.i .i64 0),(.i .i64 0),(.i .i64 0),(.i .i64 0)] []),so (.store 3 (.t 8) (.t 47)),so (.store 4 (.t 9) (.t 48))])
 (.pre (.norm false [8,9]) .ret))))))))
def b256:AX:=
 (.seq
 (.reg [rg 2 (.alloc [(.b false),(.sl [] .nl),(.sl [] .nl)]),rg 3 (.alloc [(.i .i64 0),(.i .i64 0),(.i .i64 0),(.i .i64 0)])])
 (.seq
 (.reg [mv 10 0,rg 11 (.call 344 [(.t 10),(.c (.s [47,46]))]),mv 4 11])
 (.seq
 (.reg [mv 12 0,mv 5 12])
 (.seq
 (.seq
 (.reg [mv 13 4,rg 14 (.bin .geq (.t 13) (.c (.i .i64 0)))])
 (.cond (.t 14)
 (.reg [mv 15 0,mv 16 4,rg 17 (.slstr (.t 15) none (some (.t 16))),mv 5 17])
 .skip))
 (.seq
 (.reg [mv 19 5,rg 20 (.call 32 [(.t 19)]),mv 18 20,rg 21 (.ext (.t 18) 0),rg 22 (.ext (.t 18) 1),rg 6 (.alloc [(.b false),(.sl [] .nl)]),rg 7 (.alloc [(.i .i64 0),(.i .i64 0),(.i .i64 0),(.i .i64 0)]),so (.store 2 (.t 6) (.t 21)),so (.store 4 (.t 7) (.t 22))])
 (.seq
 (.block 0
 (.seq
 (.reg [rg 24 (.load (some 4) (.t 7)),rg 25 (.build [(.i .i64 0),(.i .i64 0),(.i .i64 0),(.i .i64 0)] []),rg 26 (.eqs true [(0,.int),(1,.int),(2,.int),(3,.int)] (.t 24) (.t 25)),mv 23 26])
 (.cond (.t 23)
 (.seq
 (.draw [⟨rg 27 (.call 205 [(.c (.i .i64 0))]),0,0⟩,⟨rg 28 (.load (some 4) (.t 7)),0,1⟩,⟨so (.store 3 (.t 2) (.t 27)),0,1⟩,⟨so (.store 4 (.t 3) (.t 28)),1,2⟩])
 (.pre (.norm false [2,3]) .ret))
 (.seq
 (.reg [mv 30 4,rg 31 (.bin .lss (.t 30) (.c (.i .i64 0))),mv 29 31])
 (.cond (.t 29)
 (.seq
 (.draw [⟨rg 33 (.load (some 2) (.t 6)),0,1⟩,⟨rg 34 (.call 72 [(.c (u64 1))]),0,1⟩,⟨rg 35 (.call 204 [(.t 33),(.t 34)]),0,1⟩,⟨mv 32 35,0,1⟩,⟨rg 36 (.ext (.t 32) 0),0,1⟩,⟨rg 37 (.ext (.t 32) 1),0,2⟩,⟨rg 8 (.alloc [(.b false),(.sl [] .nl),(.sl [] .nl)]),0,1⟩,⟨so (.store 3 (.t 8) (.t 36)),1,2⟩,⟨mv 9 37,2,2⟩])
 (.seq
 (.reg [rg 38 (.load (some 3) (.t 8)),rg 39 (.build [(.i .i64 0),(.i .i64 0),(.i .i64 0),(.i .i64 0)] []),so (.store 3 (.t 2) (.t 38)),so (.store 4 (.t 3) (.t 39))])
 (.pre (.norm false [2,3]) .ret)))
 (.seq
 (.reg [mv 41 0,mv 42 4,rg 43 (.ixs (.t 41) (.t 42)),rg 44 (.bin .eql (.t 43) (.c (u8 47))),mv 40 44])
 (.cond (.t 40)
 (.seq
 (.reg [rg 45 (.load (some 2) (.t 6)),mv 46 0,mv 47 4,rg 48 (.bin .add (.t 47) (.c (.i .i64 1))),rg 49 (.call 254 [(.t 45),(.t 46),(.t 48)]),rg 50 (.ext (.t 49) 0),rg 51 (.ext (.t 49) 1),so (.store 3 (.t 2) (.t 50)),so (.store 4 (.t 3) (.t 51))])
 (.pre (.norm false [2,3]) .ret))
 .skip)))))))
 (.seq
 (.drawT [rg 52 (.load (some 2) (.t 6)),mv 53 0,rg 54 (.call 345 [(.t 53),(.c (.s [45]))]),mv 55 0,mv 56 4,rg 57 (.bin .add (.t 56) (.c (.i .i64 1))),rg 58 (.call 255 [(.t 52),(.t 54),(.t 55),(.t 57)]),rg 59 (.ext (.t 58) 0),rg 60 (.ext (.t 58) 1)]
 [so (.store 3 (.t 2) (.t 59)),so (.store 4 (.t 3) (.t 60))])
 (.pre (.norm false [2,3]) .ret))))))))
def row252:AFx:=⟨1,12,[.t 2],b252,none,false⟩
def row253:AFx:=⟨2,25,[.t 4,.cell 5 (some 4)],b253,none,false⟩
def row254:AFx:=⟨3,36,[.cell 6 (some 3),.cell 7 (some 4)],b254,none,false⟩
def row255:AFx:=⟨4,49,[.cell 8 (some 3),.cell 9 (some 4)],b255,none,false⟩
def row256:AFx:=⟨1,61,[.cell 2 (some 3),.cell 3 (some 4)],b256,none,false⟩
class Zcl (T:Tbl):Prop where
 h252:T 252=some row252
 h253:T 253=some row253
 h254:T 254=some row254
 h255:T 255=some row255
 h256:T 256=some row256
section
variable{T:Tbl}[Zcl T]{d:Option Nat}{st:St}{xs:List AV}{ps:List Opd}{e:Env}{h:Heap}{ol:List Heap}
@[simp] theorem x252:Zd (orc T) T 252 xs d st=cP T 252 false xs d st:=zaa Zcl.h252
@[simp] theorem x253:Zd (orc T) T 253 xs d st=cP T 253 false xs d st:=zaa Zcl.h253
@[simp] theorem x254:Zd (orc T) T 254 xs d st=cP T 254 false xs d st:=zaa Zcl.h254
@[simp] theorem y255:opD (orc T) T (.call 255 ps) e h ol=dP T 255 false ps e:=zao Zcl.h255
@[simp] theorem x256:Zd (orc T) T 256 xs d st=cP T 256 false xs d st:=zaa Zcl.h256
end
class Zbq (T:Tbl):Prop where
class Zay (T:Tbl):Prop where
class Zb1 (T:Tbl):Prop where
class Zdg (T:Tbl):Prop where
def meths1:List RV:=[.cell 1 (some 445),.cell 2 (some 444),.cell 3 (some 441),.cell 4 (some 448),.cell 5 (some 443),.cell 6 (some 447),.cell 7 (some 446),.cell 8 (some 442)]
class Zdf (T:Tbl):Prop where
def isD(c:UInt8):Bool:=decide (48≤c.toNat)&&decide (c.toNat≤57)
def isL(c:UInt8):Bool:=decide (97≤c.toNat)&&decide (c.toNat≤122) || decide (65≤c.toNat)&&decide (c.toNat≤90) || decide (c.toNat=95)
def Zjb:List UInt8:=[43,45,42,47,94,40,41,91,93,44,59,61]
def isS(c:UInt8):Bool:=Zjb.contains c
def Zbg(c:UInt8):Nat:=if isD c then 1 else if isL c then 2 else if isS c then 3 else 0
def Zd4(k:Nat)(c:UInt8):Bool:=decide (k=1)&&isD c || decide (k=2)&&(isL c || isD c)
def Zeh(k:Nat):Nat:=if k=1 then 60 else if k=2 then 12 else 1
def isB(c:UInt8):Bool:=decide (c=32) || decide (c=9) || decide (c=10) || decide (c=13)
abbrev Wd:=Nat×List UInt8×Nat
def Zip:Bool→List UInt8→Nat
 | _,[]=>0
 | note,c::r=>
  let note':=if c=35 then true else if c=10 then false else note
  if (note' || isB c)=true then 1+Zip note' r else 0
def Zcy(k:Nat)(r:List UInt8):Nat:=1+(r.takeWhile (Zd4 k)).length
def Zlt(l:List UInt8)(i:Nat)(acc:List Wd):Except Nat (List Wd):=
 match l with
 | []=>.ok acc
 | c::r=>
  if Zbg c=0 then .error i
  else if Zeh (Zbg c)<Zcy (Zbg c) r then .error (i+Zeh (Zbg c))
  else Zlt ((r.drop (Zcy (Zbg c) r-1)).drop (Zip false (r.drop (Zcy (Zbg c) r-1)))) (i+Zcy (Zbg c) r+Zip false (r.drop (Zcy (Zbg c) r-1)))
   (acc++[(Zbg c,(c::r).take (Zcy (Zbg c) r),i)])
termination_by l.length
decreasing_by grind
def Zkx(c:UInt8)(i:Nat)(acc:List Wd):List Wd:=
 match acc.getLast? with
 | some (k,t,a)=>if a+t.length=i∧Zd4 k c=true then acc.dropLast++[(k,t++[c],a)] else acc++[(Zbg c,[c],i)]
 | none=>acc++[(Zbg c,[c],i)]
def Zng(acc:List Wd):Bool:=
 match acc.getLast? with
 | some (k,t,_)=>decide (k=0) || decide (Zeh k<t.length)
 | none=>false
def Znh:List UInt8→Nat→Bool→List Wd→Except Nat (List Wd)
 | [],_,_,acc=>.ok acc
 | c::r,i,note,acc=>
  let note':=if c=35 then true else if c=10 then false else note
  if (note' || isB c)=true then Znh r (i+1) note' acc
  else if Zng (Zkx c i acc)=true then .error i
  else Znh r (i+1) note' (Zkx c i acc)
def Zqo(acc:List Wd)(i:Nat)(l:List UInt8):Prop:=∀k t a,acc.getLast? = some (k,t,a)→a+t.length=i→∀c r,l=c::r→Zd4 k c=false
def prim187:List AV→Option AV
 | [.i .u8 n]=>if 0≤n∧n<256 then some (.b (isS (UInt8.ofNat n.toNat))) else none
 | _=>none
theorem zqj(c:UInt8):prim187 [u8 c.toNat]=some (.b (isS c)):=by
 have:=c.toNat_lt;simp only[prim187,u8];rw[if_pos ⟨by omega,by omega⟩];simp
def prim184:List AV→Option AV
 | [.s l,.s [c]]=>if l.length≤1000000 then some (.tup [.s (l.takeWhile (· != c)),.s ((l.dropWhile (· != c)).drop 1),.b (l.contains c)]) else none
 | _=>none
theorem zik(l:List UInt8)(h:l.length≤1000000){c:UInt8}:prim184 [.s l,.s [c]]=some (.tup [.s (l.takeWhile (· != c)),.s ((l.dropWhile (· != c)).drop 1),.b (l.contains c)]):=by
 simp only[prim184,h,if_true]
def textOf:List AV→Option (List UInt8)
 | [.s l]=>if l.length≤10000 then some l else none
 | _=>none
def prim183:List AV→Option AV
 | [.sl els .an,.s sep]=>if els.length≤1000∧sep.length≤100 then (els.mapM textOf).map fun ts=>.s (List.intercalate sep ts) else none
 | _=>none
def Z4(l:List (List UInt8)):List (List AV):=l.map fun s=>[.s s]
@[simp] theorem zcr(l:List (List UInt8)):(Z4 l).length=l.length:=by simp[Z4]
@[simp] theorem ze5(l:List (List UInt8)):wkL (Z4 l)=Z4 l:=by
 induction l with
 | nil=>rfl
 | cons x l ih=>simpa[Z4,wkL,wkR]using ih
class Zab (T:Tbl):Prop where
def l266_0:AX:=
 (.note
 (.seq
 (.reg [rg 9 (.bin .lss (.t 8) (.t 7))])
 (.seq
 (.cond (.t 9)
 .skip
 (.exit 0))
 (.seq
 (.block 1
 (.seq
 (.reg [rg 10 (.iad 3 (.t 6) (.t 8)),rg 11 (.load (some 3) (.t 10)),rg 5 (.alloc [(.b false),(.sl [] .nl),(.sl [] .nl)]),so (.store 3 (.t 5) (.t 11))])
 (.reg [mv 12 3,rg 13 (.load (some 3) (.t 5)),rg 14 (.call 207 [(.t 13)]),rg 15 (.bsl 3 [(.b false),(.sl [] .nl),(.sl [] .nl)] 1 [(0,(.t 14))]),rg 16 (.app 3 (.t 12) (.t 15)),mv 3 16])))
 (.reg [rg 17 (.bin .add (.t 8) (.c (.i .i64 1))),mv 8 17]))))
 (.norm false [3,6,7,8]))
def b266:AX:=
 (.seq
 (.reg [rg 2 (.mov (.c (.sl [] .nl)))])
 (.seq
 (.note (.reg [rg 3 (.mov (.c (.sl [] .nl)))]) (.nil 3 3))
 (.seq
 (.seq
 (.reg [mv 6 0,rg 7 (.len (.t 6)),rg 8 (.mov (.c (.i .i64 0)))])
 (.lp 0 (.norm false [3,6,7,8]) l266_0 (.norm false [3])))
 (.seq
 (.reg [mv 18 3,mv 2 18])
 (.pre (.norm false [2]) .ret)))))
def l267_0:AX:=
 (.note
 (.seq
 (.reg [rg 31 (.bin .lss (.t 30) (.t 29))])
 (.seq
 (.cond (.t 31)
 .skip
 (.exit 2))
 (.seq
 (.block 3
 (.seq
 (.reg [mv 32 30,rg 33 (.iad 3 (.t 28) (.t 30)),rg 34 (.load (some 3) (.t 33)),rg 8 (.alloc [(.b false),(.sl [] .nl),(.sl [] .nl)]),mv 7 32,so (.store 3 (.t 8) (.t 34))])
 (.drawT [mv 35 4,mv 36 7,mv 37 4,mv 38 7,rg 39 (.iad 3 (.t 37) (.t 38)),rg 40 (.load (some 3) (.t 39)),rg 41 (.load (some 3) (.t 8)),rg 42 (.call 215 [(.t 40),(.t 41)])]
 [rg 43 (.iad 3 (.t 35) (.t 36)),so (.store 3 (.t 43) (.t 42))])))
 (.reg [rg 44 (.bin .add (.t 30) (.c (.i .i64 1))),mv 30 44]))))
 (.norm false [4,17,18,19,28,29,30]))
def l267_1:AX:=
 (.note
 (.seq
 (.reg [rg 20 (.bin .lss (.t 19) (.t 18))])
 (.seq
 (.cond (.t 20)
 .skip
 (.exit 0))
 (.seq
 (.block 1
 (.seq
 (.reg [rg 21 (.iad 1 (.t 17) (.t 19)),rg 22 (.load none (.t 21)),mv 6 22])
 (.seq
 (.seq
 (.reg [mv 23 6,rg 24 (.len (.t 23)),mv 25 4,rg 26 (.len (.t 25)),rg 27 (.bin .neq (.t 24) (.t 26))])
 (.cond (.t 27)
 (.seq
 (.reg [rg 2 (.mov (.c (.sl [] .nl))),rg 3 (.mov (.c (.b false)))])
 (.pre (.norm false [2,3]) .ret))
 .skip))
 (.seq
 (.reg [mv 28 6,rg 29 (.len (.t 28)),rg 30 (.mov (.c (.i .i64 0)))])
 (.lp 2 (.norm false [4,17,18,19,28,29,30]) l267_0 (.norm false [4,17,18,19]))))))
 (.reg [rg 45 (.bin .add (.t 19) (.c (.i .i64 1))),mv 19 45]))))
 (.norm false [4,17,18,19]))
def b267:AX:=
 (.seq
 (.reg [rg 2 (.mov (.c (.sl [] .nl))),rg 3 (.mov (.c (.b false)))])
 (.seq
 (.seq
 (.reg [mv 9 0,rg 10 (.len (.t 9)),rg 11 (.bin .eql (.t 10) (.c (.i .i64 0)))])
 (.cond (.t 11)
 (.seq
 (.reg [rg 2 (.mov (.c (.sl [] .nl))),rg 3 (.mov (.c (.b true)))])
 (.pre (.norm false [2,3]) .ret))
 .skip))
 (.seq
 (.reg [mv 12 0,rg 13 (.iad 1 (.t 12) (.c (.i .i64 0))),rg 14 (.load none (.t 13)),rg 15 (.call 2266 [(.t 14)]),mv 4 15])
 (.seq
 (.seq
 (.reg [mv 16 0,rg 17 (.slc 1 (.t 16) (some (.c (.i .i64 1))) none none),rg 18 (.len (.t 17)),rg 19 (.mov (.c (.i .i64 0)))])
 (.lp 0 (.norm false [4,17,18,19]) l267_1 (.norm false [4])))
 (.seq
 (.reg [mv 46 4,mv 2 46,rg 3 (.mov (.c (.b true)))])
 (.pre (.norm false [2,3]) .ret))))))
def l269_0:AX:=
 (.note
 (.seq
 (.reg [rg 11 (.bin .lss (.t 10) (.t 9))])
 (.seq
 (.cond (.t 11)
 .skip
 (.exit 0))
 (.seq
 (.block 1
 (.seq
 (.reg [rg 12 (.iad 3 (.t 8) (.t 10)),rg 13 (.load (some 3) (.t 12)),rg 7 (.alloc [(.b false),(.sl [] .nl),(.sl [] .nl)]),so (.store 3 (.t 7) (.t 13))])
 (.reg [mv 14 5,rg 15 (.load (some 3) (.t 2)),rg 16 (.load (some 3) (.t 7)),rg 17 (.call 217 [(.t 15),(.t 16)]),rg 18 (.bsl 3 [(.b false),(.sl [] .nl),(.sl [] .nl)] 1 [(0,(.t 17))]),rg 19 (.app 3 (.t 14) (.t 18)),mv 5 19])))
 (.reg [rg 20 (.bin .add (.t 10) (.c (.i .i64 1))),mv 10 20]))))
 (.norm false [2,5,8,9,10]))
def b269:AX:=
 (.seq
 (.reg [rg 2 (.xop (.box 3) [(.t 0)]),rg 4 (.mov (.c (.sl [] .nl)))])
 (.seq
 (.note (.reg [rg 5 (.mov (.c (.sl [] .nl)))]) (.nil 5 3))
 (.seq
 (.seq
 (.reg [mv 8 1,rg 9 (.len (.t 8)),rg 10 (.mov (.c (.i .i64 0)))])
 (.lp 0 (.norm false [2,5,8,9,10]) l269_0 (.norm false [5])))
 (.seq
 (.reg [mv 21 5,mv 4 21])
 (.pre (.norm false [4]) .ret)))))
def l2266_0:AX:=
 (.note
 (.seq
 (.reg [rg 9 (.bin .lss (.t 8) (.t 7))])
 (.seq
 (.cond (.t 9)
 .skip
 (.exit 0))
 (.seq
 (.block 1
 (.seq
 (.reg [rg 10 (.iad 3 (.t 6) (.t 8)),rg 11 (.load (some 3) (.t 10)),rg 5 (.alloc [(.b false),(.sl [] .nl),(.sl [] .nl)]),so (.store 3 (.t 5) (.t 11))])
 (.reg [mv 12 3,rg 13 (.load (some 3) (.t 5)),rg 14 (.call 207 [(.t 13)]),rg 15 (.bsl 3 [(.b false),(.sl [] .nl),(.sl [] .nl)] 1 [(0,(.t 14))]),rg 16 (.app 3 (.t 12) (.t 15)),mv 3 16])))
 (.reg [rg 17 (.bin .add (.t 8) (.c (.i .i64 1))),mv 8 17]))))
 (.norm false [3,6,7,8]))
def b2266:AX:=
 (.seq
 (.reg [rg 2 (.mov (.c (.sl [] .nl)))])
 (.seq
 (.note (.reg [rg 3 (.mov (.c (.sl [] .nl)))]) (.nil 3 3))
 (.seq
 (.seq
 (.reg [mv 6 0,rg 7 (.len (.t 6)),rg 8 (.mov (.c (.i .i64 0)))])
 (.lp 0 (.norm false [3,6,7,8]) l2266_0 (.norm false [3])))
 (.seq
 (.reg [mv 18 3,mv 2 18])
 (.pre (.norm false [2]) .ret)))))
def row266:AFx:=⟨1,19,[.t 2],b266,none,false⟩
def row267:AFx:=⟨1,47,[.t 2,.t 3],b267,none,false⟩
def row269:AFx:=⟨2,22,[.t 4],b269,none,false⟩
def row2266:AFx:=⟨1,19,[.t 2],b2266,(some [false]),false⟩
class Zbn (T:Tbl):Prop where
 h266:T 266=some row266
 h267:T 267=some row267
 h269:T 269=some row269
 h2266:T 2266=some row2266
section
variable{T:Tbl}[Zbn T]{d:Option Nat}{st:St}{xs:List AV}{ps:List Opd}{e:Env}{h:Heap}{ol:List Heap}
theorem f266(xs:List AV)(hn:xs.length=1):Za T 266 xs=Zgw [.t 2] false (evX (orc T) T 0 b266 ⟨Zcd xs,[],1⟩):=zab Zbn.h266 hn
@[simp] theorem x267:Zd (orc T) T 267 xs d st=cP T 267 false xs d st:=zaa Zbn.h267
theorem f267(xs:List AV)(hn:xs.length=1):Za T 267 xs=Zgw [.t 2,.t 3] false (evX (orc T) T 0 b267 ⟨Zcd xs,[],1⟩):=zab Zbn.h267 hn
@[simp] theorem x269:Zd (orc T) T 269 xs d st=cP T 269 false xs d st:=zaa Zbn.h269
@[simp] theorem x2266:Zd (orc T) T 2266 xs d st=cL T 2266 false [false] xs d st:=zay Zbn.h2266
end
def l275_0:AX:=
 (.note
 (.seq
 (.reg [rg 17 (.bin .lss (.t 16) (.t 15))])
 (.seq
 (.cond (.t 17)
 .skip
 (.exit 0))
 (.seq
 (.block 1
 (.seq
 (.reg [rg 18 (.iad 1 (.t 14) (.t 16)),rg 19 (.load none (.t 18)),mv 7 19])
 (.seq
 (.reg [mv 21 7,rg 22 (.call 256 [(.t 21)]),mv 20 22,rg 23 (.ext (.t 20) 0),rg 24 (.ext (.t 20) 1),rg 8 (.alloc [(.b false),(.sl [] .nl),(.sl [] .nl)]),rg 9 (.alloc [(.i .i64 0),(.i .i64 0),(.i .i64 0),(.i .i64 0)]),so (.store 3 (.t 8) (.t 23)),so (.store 4 (.t 9) (.t 24))])
 (.seq
 (.seq
 (.reg [rg 25 (.load (some 4) (.t 9)),rg 26 (.build [(.i .i64 0),(.i .i64 0),(.i .i64 0),(.i .i64 0)] []),rg 27 (.eqs true [(0,.int),(1,.int),(2,.int),(3,.int)] (.t 25) (.t 26))])
 (.cond (.t 27)
 (.seq
 (.reg [rg 28 (.fad 3 (.t 9)),rg 29 (.load none (.t 28)),mv 30 5,rg 31 (.bin .add (.t 29) (.t 30)),rg 32 (.fad 3 (.t 9)),so (.store 1 (.t 32) (.t 31))])
 (.seq
 (.drawT [rg 33 (.load (some 4) (.t 9)),rg 2 (.mov (.c (.sl [] .nl)))]
 [so (.store 4 (.t 3) (.t 33))])
 (.pre (.norm false [2,3]) .ret)))
 .skip))
 (.seq
 (.reg [mv 34 4,rg 35 (.load (some 3) (.t 8)),rg 36 (.bsl 3 [(.b false),(.sl [] .nl),(.sl [] .nl)] 1 [(0,(.t 35))]),rg 37 (.app 3 (.t 34) (.t 36)),mv 4 37])
 (.reg [mv 38 5,mv 39 7,rg 40 (.lens (.t 39)),rg 41 (.bin .add (.t 40) (.c (.i .i64 1))),rg 42 (.bin .add (.t 38) (.t 41)),mv 5 42]))))))
 (.reg [rg 43 (.bin .add (.t 16) (.c (.i .i64 1))),mv 16 43]))))
 (.norm false [3,4,5,14,15,16]))
def b275:AX:=
 (.seq
 (.reg [rg 2 (.mov (.c (.sl [] .nl))),rg 3 (.alloc [(.i .i64 0),(.i .i64 0),(.i .i64 0),(.i .i64 0)])])
 (.seq
 (.seq
 (.reg [mv 10 0,rg 11 (.bin .eql (.t 10) (.c (.s [])))])
 (.cond (.t 11)
 (.seq
 (.reg [rg 12 (.build [(.i .i64 0),(.i .i64 0),(.i .i64 0),(.i .i64 0)] []),rg 2 (.mov (.c (.sl [] .nl))),so (.store 4 (.t 3) (.t 12))])
 (.pre (.norm false [2,3]) .ret))
 .skip))
 (.seq
 (.note (.reg [rg 4 (.mov (.c (.sl [] .nl)))]) (.nil 4 3))
 (.seq
 (.reg [rg 5 (.mov (.c (.i .i64 0)))])
 (.seq
 (.seq
 (.reg [mv 13 0,rg 14 (.call 346 [(.t 13),(.c (.s [44]))]),rg 15 (.len (.t 14)),rg 16 (.mov (.c (.i .i64 0)))])
 (.lp 0 (.norm false [3,4,5,14,15,16]) l275_0 (.norm false [3,4])))
 (.seq
 (.reg [mv 44 4,rg 45 (.build [(.i .i64 0),(.i .i64 0),(.i .i64 0),(.i .i64 0)] []),mv 2 44,so (.store 4 (.t 3) (.t 45))])
 (.pre (.norm false [2,3]) .ret)))))))
def row275:AFx:=⟨1,46,[.t 2,.cell 3 (some 4)],b275,none,false⟩
class Zcg (T:Tbl):Prop where
 h275:T 275=some row275
section
variable{T:Tbl}[Zcg T]{d:Option Nat}{st:St}{xs:List AV}{ps:List Opd}{e:Env}{h:Heap}{ol:List Heap}
@[simp] theorem x275:Zd (orc T) T 275 xs d st=cP T 275 false xs d st:=zaa Zcg.h275
end
class Zex (T:Tbl):Prop where
def b185:AX:=
 (.seq
 (.reg [rg 2 (.mov (.c (.b false)))])
 (.seq
 (.reg [mv 3 0,rg 4 (.bin .geq (.t 3) (.c (u8 48))),mv 5 4,gd 6 5 true (.mov (.t 0)),gd 7 5 true (.bin .leq (.t 6) (.c (u8 57))),rg 8 (.pick (.t 5) (.t 7) (.c (.b false))),mv 2 8])
 (.pre (.norm false [2]) .ret)))
def b186:AX:=
 (.seq
 (.reg [rg 2 (.mov (.c (.b false)))])
 (.seq
 (.reg [mv 3 0,rg 4 (.bin .geq (.t 3) (.c (u8 97))),mv 5 4,gd 6 5 true (.mov (.t 0)),gd 7 5 true (.bin .leq (.t 6) (.c (u8 122))),rg 8 (.pick (.t 5) (.t 7) (.c (.b false))),mv 9 8,gd 10 9 false (.mov (.t 0)),gd 11 9 false (.bin .geq (.t 10) (.c (u8 65))),gd 12 9 false (.mov (.t 11)),gd 13 12 true (.mov (.t 0)),gd 14 12 true (.bin .leq (.t 13) (.c (u8 90))),gd 15 9 false (.pick (.t 12) (.t 14) (.c (.b false))),rg 16 (.pick (.t 9) (.c (.b true)) (.t 15)),mv 17 16,gd 18 17 false (.mov (.t 0)),gd 19 17 false (.bin .eql (.t 18) (.c (u8 95))),rg 20 (.pick (.t 17) (.c (.b true)) (.t 19)),mv 2 20])
 (.pre (.norm false [2]) .ret)))
def b177:AX:=
 (.seq
 (.reg [rg 2 (.mov (.c (.i .i64 0)))])
 (.seq
 (.block 0
 (.seq
 (.reg [mv 4 0,rg 5 (.call 185 [(.t 4)]),mv 3 5])
 (.cond (.t 3)
 (.seq
 (.reg [rg 2 (.mov (.c (.i .i64 1)))])
 (.pre (.norm false [2]) .ret))
 (.seq
 (.reg [mv 7 0,rg 8 (.call 186 [(.t 7)]),mv 6 8])
 (.cond (.t 6)
 (.seq
 (.reg [rg 2 (.mov (.c (.i .i64 2)))])
 (.pre (.norm false [2]) .ret))
 (.seq
 (.reg [mv 10 0,rg 11 (.call 187 [(.t 10)]),mv 9 11])
 (.cond (.t 9)
 (.seq
 (.reg [rg 2 (.mov (.c (.i .i64 3)))])
 (.pre (.norm false [2]) .ret))
 .skip)))))))
 (.seq
 (.reg [rg 2 (.mov (.c (.i .i64 0)))])
 (.pre (.norm false [2]) .ret))))
def b188:AX:=
 (.seq
 (.reg [rg 4 (.mov (.c (.b false)))])
 (.seq
 (.reg [mv 5 0,rg 6 (.bin .eql (.t 5) (.c (.i .i64 1))),mv 7 6,gd 8 7 true (.mov (.t 1)),gd 9 7 true (.call 185 [(.t 8)]),rg 10 (.pick (.t 7) (.t 9) (.c (.b false))),mv 11 10,gd 12 11 false (.mov (.t 0)),gd 13 11 false (.bin .eql (.t 12) (.c (.i .i64 2))),gd 14 11 false (.mov (.t 13)),gd 15 14 true (.mov (.t 1)),gd 16 14 true (.call 186 [(.t 15)]),gd 17 14 true (.mov (.t 16)),gd 18 17 false (.mov (.t 1)),gd 19 17 false (.call 185 [(.t 18)]),gd 20 14 true (.pick (.t 17) (.c (.b true)) (.t 19)),gd 21 11 false (.pick (.t 14) (.t 20) (.c (.b false))),rg 22 (.pick (.t 11) (.c (.b true)) (.t 21)),mv 4 22])
 (.pre (.norm false [4]) .ret)))
def b179:AX:=
 (.seq
 (.reg [rg 2 (.mov (.c (.i .i64 0)))])
 (.seq
 (.seq
 (.reg [mv 3 0])
 (.block 0
 (.seq
 (.reg [rg 5 (.bin .eql (.t 3) (.c (.i .i64 1))),mv 4 5])
 (.cond (.t 4)
 (.seq
 (.reg [rg 2 (.mov (.c (.i .i64 60)))])
 (.pre (.norm false [2]) .ret))
 (.seq
 (.reg [rg 7 (.bin .eql (.t 3) (.c (.i .i64 2))),mv 6 7])
 (.cond (.t 6)
 (.seq
 (.reg [rg 2 (.mov (.c (.i .i64 12)))])
 (.pre (.norm false [2]) .ret))
 .skip))))))
 (.seq
 (.reg [rg 2 (.mov (.c (.i .i64 1)))])
 (.pre (.norm false [2]) .ret))))
def l178_0:AX:=
 (.note
 (.seq
 (.seq
 (.reg [mv 6 5,mv 7 0,rg 8 (.lens (.t 7)),rg 9 (.bin .lss (.t 6) (.t 8)),mv 10 9,gd 11 10 true (.mov (.t 1)),gd 12 10 true (.mov (.t 0)),gd 13 10 true (.mov (.t 5)),gd 14 10 true (.ixs (.t 12) (.t 13)),gd 15 10 true (.call 188 [(.t 11),(.t 14)]),rg 16 (.pick (.t 10) (.t 15) (.c (.b false)))])
 (.cond (.t 16)
 .skip
 (.exit 0)))
 (.block 1
 (.reg [mv 17 5,rg 18 (.bin .add (.t 17) (.c (.i .i64 1))),mv 5 18])))
 (.norm false [0,1,5]))
def b178:AX:=
 (.seq
 (.reg [rg 4 (.mov (.c (.i .i64 0)))])
 (.seq
 (.reg [rg 5 (.mov (.c (.i .i64 1)))])
 (.seq
 (.lp 0 (.norm false [0,1,5]) l178_0 (.norm false [5]))
 (.seq
 (.reg [mv 19 5,mv 4 19])
 (.pre (.norm false [4]) .ret)))))
def b172:AX:=
 (.seq
 (.reg [rg 1 (.xop (.box 3) [(.t 0)]),rg 2 (.mov (.c (.b false)))])
 (.seq
 (.seq
 (.drawT [rg 3 (.fad 1 (.t 1)),rg 4 (.load none (.t 3)),rg 5 (.bin .eql (.t 4) (.c (.s []))),mv 6 5,gd 7 6 false (.fad 0 (.t 1)),gd 8 6 false (.load none (.t 7)),gd 9 6 false (.bin .eql (.t 8) (.c (.i .i64 0))),rg 10 (.pick (.t 6) (.c (.b true)) (.t 9)),mv 11 10,gd 12 11 false (.fad 1 (.t 1)),gd 13 11 false (.load none (.t 12)),gd 14 11 false (.ixs (.t 13) (.c (.i .i64 0))),gd 15 11 false (.call 177 [(.t 14)]),gd 16 11 false (.fad 0 (.t 1)),gd 17 11 false (.load none (.t 16))]
 [gd 18 11 false (.bin .neq (.t 15) (.t 17)),rg 19 (.pick (.t 11) (.c (.b true)) (.t 18))])
 (.cond (.t 19)
 (.seq
 (.reg [rg 2 (.mov (.c (.b false)))])
 (.pre (.norm false [2]) .ret))
 .skip))
 (.seq
 (.drawT [rg 20 (.fad 1 (.t 1)),rg 21 (.load none (.t 20)),rg 22 (.fad 0 (.t 1)),rg 23 (.load none (.t 22)),rg 24 (.call 178 [(.t 21),(.t 23)]),rg 25 (.fad 1 (.t 1)),rg 26 (.load none (.t 25)),rg 27 (.lens (.t 26)),rg 28 (.bin .eql (.t 24) (.t 27)),mv 29 28,gd 30 29 true (.fad 1 (.t 1)),gd 31 29 true (.load none (.t 30)),gd 32 29 true (.lens (.t 31)),gd 33 29 true (.fad 0 (.t 1)),gd 34 29 true (.load none (.t 33)),gd 35 29 true (.call 179 [(.t 34)])]
 [gd 36 29 true (.bin .leq (.t 32) (.t 35)),rg 37 (.pick (.t 29) (.t 36) (.c (.b false))),mv 2 37])
 (.pre (.norm false [2]) .ret))))
def row185:AFx:=⟨1,9,[.t 2],b185,none,false⟩
def row186:AFx:=⟨1,21,[.t 2],b186,none,false⟩
def row187:AFx:=⟨0,0,[],.prim prim187,none,false⟩
def row177:AFx:=⟨1,12,[.t 2],b177,none,false⟩
def row188:AFx:=⟨2,23,[.t 4],b188,none,false⟩
def row179:AFx:=⟨1,8,[.t 2],b179,none,false⟩
def row178:AFx:=⟨2,20,[.t 4],b178,none,false⟩
def row172:AFx:=⟨1,38,[.t 2],b172,none,false⟩
def row184:AFx:=⟨0,0,[],.prim prim184,none,false⟩
class Zbe (T:Tbl):Prop where
 h185:T 185=some row185
 h186:T 186=some row186
 h187:T 187=some row187
 h177:T 177=some row177
 h188:T 188=some row188
 h179:T 179=some row179
 h178:T 178=some row178
 h172:T 172=some row172
 h184:T 184=some row184
section
variable{T:Tbl}[Zbe T]{d:Option Nat}{st:St}{xs:List AV}{ps:List Opd}{e:Env}{h:Heap}{ol:List Heap}
@[simp] theorem x185:Zd (orc T) T 185 xs d st=cP T 185 false xs d st:=zaa Zbe.h185
@[simp] theorem x186:Zd (orc T) T 186 xs d st=cP T 186 false xs d st:=zaa Zbe.h186
@[simp] theorem x187:Zd (orc T) T 187 xs d st=cP T 187 false xs d st:=zaa Zbe.h187
theorem p187(xs:List AV):Za T 187 xs=prim187 xs:=zcx Zbe.h187
@[simp] theorem y177:opD (orc T) T (.call 177 ps) e h ol=dP T 177 false ps e:=zao Zbe.h177
@[simp] theorem x188:Zd (orc T) T 188 xs d st=cP T 188 false xs d st:=zaa Zbe.h188
@[simp] theorem y179:opD (orc T) T (.call 179 ps) e h ol=dP T 179 false ps e:=zao Zbe.h179
@[simp] theorem y178:opD (orc T) T (.call 178 ps) e h ol=dP T 178 false ps e:=zao Zbe.h178
@[simp] theorem x172:Zd (orc T) T 172 xs d st=cP T 172 false xs d st:=zaa Zbe.h172
@[simp] theorem x184:Zd (orc T) T 184 xs d st=cP T 184 false xs d st:=zaa Zbe.h184
theorem p184(xs:List AV):Za T 184 xs=prim184 xs:=zcx Zbe.h184
end
def b536:AX:=
 (.seq
 (.reg [rg 1 (.xop (.box 5) [(.t 0)]),rg 2 (.mov (.c (.b false)))])
 (.seq
 (.reg [rg 3 (.load (some 5) (.t 1)),rg 4 (.call 551 [(.t 3)]),rg 5 (.bin .eql (.t 4) (.c (.i .i64 0))),mv 2 5])
 (.pre (.norm false [2]) .ret)))
def b551:AX:=
 (.seq
 (.reg [rg 1 (.xop (.box 5) [(.t 0)]),rg 2 (.mov (.c (.i .i64 0)))])
 (.seq
 (.reg [rg 4 (.call 205 [(.c (.i .i64 1))]),rg 3 (.alloc [(.b false),(.sl [] .nl),(.sl [] .nl)]),so (.store 3 (.t 3) (.t 4))])
 (.seq
 (.block 0
 (.seq
 (.reg [rg 6 (.fad 0 (.t 1)),rg 7 (.load none (.t 6)),rg 8 (.build [(.i .i64 0),(.s []),(.i .i64 0)] [(0,1,(.c (.i .i64 2))),(1,1,(.t 7))]),rg 9 (.call 172 [(.t 8)]),rg 10 (.un .not (.t 9)),mv 5 10])
 (.cond (.t 5)
 (.seq
 (.reg [rg 2 (.mov (.c (.i .i64 1)))])
 (.pre (.norm false [2]) .ret))
 (.seq
 (.reg [rg 12 (.load (some 5) (.t 1)),rg 13 (.call 559 [(.t 12)]),rg 14 (.un .not (.t 13)),mv 11 14])
 (.cond (.t 11)
 (.seq
 (.reg [rg 2 (.mov (.c (.i .i64 2)))])
 (.pre (.norm false [2]) .ret))
 (.seq
 (.reg [rg 16 (.fad 2 (.t 1)),rg 17 (.load none (.t 16)),rg 18 (.call 560 [(.t 17)]),rg 19 (.un .not (.t 18)),mv 20 19,gd 21 20 false (.fad 3 (.t 1)),gd 22 20 false (.load none (.t 21)),gd 23 20 false (.fad 1 (.t 1)),gd 24 20 false (.load none (.t 23)),gd 25 20 false (.fad 4 (.t 1)),gd 26 20 false (.load none (.t 25)),gd 27 20 false (.bsl 1 [(.sl [] .nl)] 3 [(0,(.t 22)),(1,(.t 24)),(2,(.t 26))]),gd 28 20 false (.call 560 [(.t 27)]),gd 29 20 false (.un .not (.t 28)),rg 30 (.pick (.t 20) (.c (.b true)) (.t 29)),mv 15 30])
 (.cond (.t 15)
 (.seq
 (.reg [rg 2 (.mov (.c (.i .i64 3)))])
 (.pre (.norm false [2]) .ret))
 (.seq
 (.reg [rg 32 (.load (some 5) (.t 1)),rg 33 (.call 561 [(.t 32)]),rg 34 (.un .not (.t 33)),mv 31 34])
 (.cond (.t 31)
 (.seq
 (.reg [rg 2 (.mov (.c (.i .i64 4)))])
 (.pre (.norm false [2]) .ret))
 (.seq
 (.drawT [rg 36 (.fad 3 (.t 1)),rg 37 (.load none (.t 36)),rg 38 (.call 562 [(.t 37)]),rg 39 (.load (some 3) (.t 3))]
 [rg 40 (.call 212 [(.t 38),(.t 39)]),rg 41 (.un .not (.t 40)),mv 35 41])
 (.cond (.t 35)
 (.seq
 (.reg [rg 2 (.mov (.c (.i .i64 5)))])
 (.pre (.norm false [2]) .ret))
 (.seq
 (.drawT [rg 43 (.fad 4 (.t 1)),rg 44 (.load none (.t 43)),rg 45 (.len (.t 44)),rg 46 (.bin .gtr (.t 45) (.c (.i .i64 0))),mv 47 46,gd 48 47 true (.fad 4 (.t 1)),gd 49 47 true (.load none (.t 48)),gd 50 47 true (.call 562 [(.t 49)]),gd 51 47 true (.load (some 3) (.t 3))]
 [gd 52 47 true (.call 212 [(.t 50),(.t 51)]),gd 53 47 true (.un .not (.t 52)),rg 54 (.pick (.t 47) (.t 53) (.c (.b false))),mv 42 54])
 (.cond (.t 42)
 (.seq
 (.reg [rg 2 (.mov (.c (.i .i64 6)))])
 (.pre (.norm false [2]) .ret))
 .skip)))))))))))))
 (.seq
 (.reg [rg 2 (.mov (.c (.i .i64 0)))])
 (.pre (.norm false [2]) .ret)))))
def l559_0:AX:=
 (.note
 (.seq
 (.reg [rg 46 (.bin .lss (.t 45) (.t 44))])
 (.seq
 (.cond (.t 46)
 .skip
 (.exit 0))
 (.seq
 (.block 1
 (.seq
 (.reg [mv 47 45,rg 48 (.iad 1 (.t 43) (.t 45)),rg 49 (.load none (.t 48)),mv 4 47,mv 5 49])
 (.seq
 (.reg [mv 50 5,rg 51 (.len (.t 50)),mv 52 4,rg 53 (.bin .neq (.t 51) (.t 52))])
 (.cond (.t 53)
 (.seq
 (.reg [rg 2 (.mov (.c (.b false)))])
 (.pre (.norm false [2]) .ret))
 .skip))))
 (.reg [rg 54 (.bin .add (.t 45) (.c (.i .i64 1))),mv 45 54]))))
 (.norm false [43,44,45]))
def b559:AX:=
 (.seq
 (.reg [rg 1 (.xop (.box 5) [(.t 0)]),rg 2 (.mov (.c (.b false)))])
 (.seq
 (.reg [rg 6 (.fad 3 (.t 1)),rg 7 (.load none (.t 6)),rg 8 (.len (.t 7)),mv 3 8])
 (.seq
 (.seq
 (.reg [mv 9 3,rg 10 (.bin .lss (.t 9) (.c (.i .i64 1))),mv 11 10,gd 12 11 false (.mov (.t 3)),gd 13 11 false (.bin .gtr (.t 12) (.c (.i .i64 8))),rg 14 (.pick (.t 11) (.c (.b true)) (.t 13)),mv 15 14,gd 16 15 false (.fad 1 (.t 1)),gd 17 15 false (.load none (.t 16)),gd 18 15 false (.len (.t 17)),gd 19 15 false (.mov (.t 3)),gd 20 15 false (.bin .neq (.t 18) (.t 19)),rg 21 (.pick (.t 15) (.c (.b true)) (.t 20)),mv 22 21,gd 23 22 false (.fad 2 (.t 1)),gd 24 22 false (.load none (.t 23)),gd 25 22 false (.len (.t 24)),gd 26 22 false (.mov (.t 3)),gd 27 22 false (.bin .neq (.t 25) (.t 26)),rg 28 (.pick (.t 22) (.c (.b true)) (.t 27)),mv 29 28,gd 30 29 false (.fad 4 (.t 1)),gd 31 29 false (.load none (.t 30)),gd 32 29 false (.len (.t 31)),gd 33 29 false (.mov (.t 3)),gd 34 29 false (.bin .neq (.t 32) (.t 33)),gd 35 29 false (.mov (.t 34)),gd 36 35 true (.fad 4 (.t 1)),gd 37 35 true (.load none (.t 36)),gd 38 35 true (.len (.t 37)),gd 39 35 true (.bin .neq (.t 38) (.c (.i .i64 0))),gd 40 29 false (.pick (.t 35) (.t 39) (.c (.b false))),rg 41 (.pick (.t 29) (.c (.b true)) (.t 40))])
 (.cond (.t 41)
 (.seq
 (.reg [rg 2 (.mov (.c (.b false)))])
 (.pre (.norm false [2]) .ret))
 .skip))
 (.seq
 (.seq
 (.reg [rg 42 (.fad 2 (.t 1)),rg 43 (.load none (.t 42)),rg 44 (.len (.t 43)),rg 45 (.mov (.c (.i .i64 0)))])
 (.lp 0 (.norm false [43,44,45]) l559_0 (.norm false [])))
 (.seq
 (.reg [rg 2 (.mov (.c (.b true)))])
 (.pre (.norm false [2]) .ret))))))
def l560_0:AX:=
 (.note
 (.seq
 (.reg [rg 16 (.bin .lss (.t 15) (.t 14))])
 (.seq
 (.cond (.t 16)
 .skip
 (.exit 2))
 (.seq
 (.block 3
 (.seq
 (.reg [rg 17 (.iad 3 (.t 13) (.t 15)),rg 18 (.load (some 3) (.t 17)),rg 6 (.alloc [(.b false),(.sl [] .nl),(.sl [] .nl)]),so (.store 3 (.t 6) (.t 18))])
 (.seq
 (.reg [rg 19 (.load (some 3) (.t 6)),rg 20 (.call 208 [(.t 19)]),rg 21 (.un .not (.t 20)),mv 22 21,gd 23 22 false (.load (some 3) (.t 6)),gd 24 22 false (.call 223 [(.t 23)]),gd 25 22 false (.bin .gtr (.t 24) (.c (.i .i64 190))),rg 26 (.pick (.t 22) (.c (.b true)) (.t 25))])
 (.cond (.t 26)
 (.seq
 (.reg [rg 2 (.mov (.c (.b false)))])
 (.pre (.norm false [2]) .ret))
 .skip))))
 (.reg [rg 27 (.bin .add (.t 15) (.c (.i .i64 1))),mv 15 27]))))
 (.norm false [7,8,9,13,14,15]))
def l560_1:AX:=
 (.note
 (.seq
 (.reg [rg 10 (.bin .lss (.t 9) (.t 8))])
 (.seq
 (.cond (.t 10)
 .skip
 (.exit 0))
 (.seq
 (.block 1
 (.seq
 (.reg [rg 11 (.iad 1 (.t 7) (.t 9)),rg 12 (.load none (.t 11)),mv 4 12])
 (.seq
 (.reg [mv 13 4,rg 14 (.len (.t 13)),rg 15 (.mov (.c (.i .i64 0)))])
 (.lp 2 (.norm false [7,8,9,13,14,15]) l560_0 (.norm false [7,8,9])))))
 (.reg [rg 28 (.bin .add (.t 9) (.c (.i .i64 1))),mv 9 28]))))
 (.norm false [7,8,9]))
def b560:AX:=
 (.seq
 (.reg [rg 2 (.mov (.c (.b false)))])
 (.seq
 (.seq
 (.reg [mv 7 0,rg 8 (.len (.t 7)),rg 9 (.mov (.c (.i .i64 0)))])
 (.lp 0 (.norm false [7,8,9]) l560_1 (.norm false [])))
 (.seq
 (.reg [rg 2 (.mov (.c (.b true)))])
 (.pre (.norm false [2]) .ret))))
def l561_0:AX:=
 (.note
 (.seq
 (.reg [rg 9 (.bin .lss (.t 8) (.t 7))])
 (.seq
 (.cond (.t 9)
 .skip
 (.exit 0))
 (.seq
 (.block 1
 (.seq
 (.reg [mv 10 8,rg 11 (.iad 1 (.t 6) (.t 8)),rg 12 (.load none (.t 11)),mv 3 10,mv 4 12])
 (.seq
 (.drawT [mv 13 4,rg 14 (.call 562 [(.t 13)]),rg 15 (.fad 1 (.t 1)),rg 16 (.load none (.t 15)),mv 17 3,rg 18 (.iad 3 (.t 16) (.t 17)),rg 19 (.load (some 3) (.t 18))]
 [rg 20 (.call 212 [(.t 14),(.t 19)]),rg 21 (.un .not (.t 20))])
 (.cond (.t 21)
 (.seq
 (.reg [rg 2 (.mov (.c (.b false)))])
 (.pre (.norm false [2]) .ret))
 .skip))))
 (.reg [rg 22 (.bin .add (.t 8) (.c (.i .i64 1))),mv 8 22]))))
 (.norm false [1,6,7,8]))
def b561:AX:=
 (.seq
 (.reg [rg 1 (.xop (.box 5) [(.t 0)]),rg 2 (.mov (.c (.b false)))])
 (.seq
 (.seq
 (.reg [rg 5 (.fad 2 (.t 1)),rg 6 (.load none (.t 5)),rg 7 (.len (.t 6)),rg 8 (.mov (.c (.i .i64 0)))])
 (.lp 0 (.norm false [1,6,7,8]) l561_0 (.norm false [])))
 (.seq
 (.reg [rg 2 (.mov (.c (.b true)))])
 (.pre (.norm false [2]) .ret))))
def l562_0:AX:=
 (.note
 (.seq
 (.reg [rg 10 (.bin .lss (.t 9) (.t 8))])
 (.seq
 (.cond (.t 10)
 .skip
 (.exit 0))
 (.seq
 (.block 1
 (.seq
 (.reg [rg 11 (.iad 3 (.t 7) (.t 9)),rg 12 (.load (some 3) (.t 11)),rg 5 (.alloc [(.b false),(.sl [] .nl),(.sl [] .nl)]),so (.store 3 (.t 5) (.t 12))])
 (.reg [rg 13 (.load (some 3) (.t 3)),rg 14 (.load (some 3) (.t 5)),rg 15 (.call 215 [(.t 13),(.t 14)]),so (.store 3 (.t 3) (.t 15))])))
 (.reg [rg 16 (.bin .add (.t 9) (.c (.i .i64 1))),mv 9 16]))))
 (.norm false [2,3,7,8,9]))
def b562:AX:=
 (.seq
 (.reg [rg 2 (.alloc [(.b false),(.sl [] .nl),(.sl [] .nl)])])
 (.seq
 (.reg [rg 6 (.call 205 [(.c (.i .i64 0))]),rg 3 (.alloc [(.b false),(.sl [] .nl),(.sl [] .nl)]),so (.store 3 (.t 3) (.t 6))])
 (.seq
 (.seq
 (.reg [mv 7 0,rg 8 (.len (.t 7)),rg 9 (.mov (.c (.i .i64 0)))])
 (.lp 0 (.norm false [2,3,7,8,9]) l562_0 (.norm false [2,3])))
 (.seq
 (.reg [rg 17 (.load (some 3) (.t 3)),so (.store 3 (.t 2) (.t 17))])
 (.pre (.norm false [2]) .ret)))))
def row536:AFx:=⟨1,6,[.t 2],b536,none,false⟩
def row551:AFx:=⟨1,55,[.t 2],b551,none,false⟩
def row559:AFx:=⟨1,55,[.t 2],b559,none,false⟩
def row560:AFx:=⟨1,29,[.t 2],b560,none,false⟩
def row561:AFx:=⟨1,23,[.t 2],b561,none,false⟩
def row562:AFx:=⟨1,18,[.cell 2 (some 3)],b562,none,false⟩
class Z1 (T:Tbl):Prop where
 h536:T 536=some row536
 h551:T 551=some row551
 h559:T 559=some row559
 h560:T 560=some row560
 h561:T 561=some row561
 h562:T 562=some row562
section
variable{T:Tbl}[Z1 T]{d:Option Nat}{st:St}{xs:List AV}{ps:List Opd}{e:Env}{h:Heap}{ol:List Heap}
@[simp] theorem x536:Zd (orc T) T 536 xs d st=cP T 536 false xs d st:=zaa Z1.h536
@[simp] theorem x551:Zd (orc T) T 551 xs d st=cP T 551 false xs d st:=zaa Z1.h551
@[simp] theorem x559:Zd (orc T) T 559 xs d st=cP T 559 false xs d st:=zaa Z1.h559
@[simp] theorem x560:Zd (orc T) T 560 xs d st=cP T 560 false xs d st:=zaa Z1.h560
@[simp] theorem x561:Zd (orc T) T 561 xs d st=cP T 561 false xs d st:=zaa Z1.h561
@[simp] theorem y562:opD (orc T) T (.call 562 ps) e h ol=dP T 562 false ps e:=zao Z1.h562
end
def b608:AX:=
 (.seq
 (.reg [rg 2 (.alloc [(.s []),(.sl [] .nl),(.sl [] .nl),(.sl [] .nl),(.sl [] .nl)]),rg 3 (.alloc [(.i .i64 0),(.i .i64 0),(.i .i64 0),(.i .i64 0)])])
 (.seq
 (.seq
 (.reg [mv 7 0,rg 8 (.lens (.t 7)),rg 9 (.bin .gtr (.t 8) (.c (.i .i64 4000)))])
 (.cond (.t 9)
 (.seq
 (.reg [rg 10 (.build [(.s []),(.sl [] .nl),(.sl [] .nl),(.sl [] .nl),(.sl [] .nl)] []),rg 11 (.build [(.i .i64 0),(.i .i64 0),(.i .i64 0),(.i .i64 0)] [(0,1,(.c (.i .i64 1))),(3,1,(.c (.i .i64 4000)))]),so (.store 5 (.t 2) (.t 10)),so (.store 4 (.t 3) (.t 11))])
 (.pre (.norm false [2,3]) .ret))
 .skip))
 (.seq
 (.reg [mv 13 0,rg 14 (.call 612 [(.t 13)]),mv 12 14,rg 15 (.ext (.t 12) 0),rg 16 (.ext (.t 12) 1),rg 4 (.alloc [(.s []),(.sl [] .nl),(.sl [] .nl),(.sl [] .nl),(.sl [] .nl)]),rg 5 (.alloc [(.i .i64 0),(.i .i64 0),(.i .i64 0),(.i .i64 0)]),so (.store 5 (.t 4) (.t 15)),so (.store 4 (.t 5) (.t 16))])
 (.seq
 (.seq
 (.reg [rg 17 (.load (some 4) (.t 5)),rg 18 (.build [(.i .i64 0),(.i .i64 0),(.i .i64 0),(.i .i64 0)] []),rg 19 (.eqs true [(0,.int),(1,.int),(2,.int),(3,.int)] (.t 17) (.t 18))])
 (.cond (.t 19)
 (.seq
 (.draw [⟨rg 20 (.build [(.s []),(.sl [] .nl),(.sl [] .nl),(.sl [] .nl),(.sl [] .nl)] []),0,0⟩,⟨rg 21 (.load (some 4) (.t 5)),0,1⟩,⟨so (.store 5 (.t 2) (.t 20)),0,1⟩,⟨so (.store 4 (.t 3) (.t 21)),1,2⟩])
 (.pre (.norm false [2,3]) .ret))
 .skip))
 (.seq
 (.seq
 (.reg [rg 22 (.load (some 5) (.t 4)),rg 23 (.call 551 [(.t 22)]),mv 6 23])
 (.seq
 (.reg [mv 24 6,rg 25 (.bin .neq (.t 24) (.c (.i .i64 0)))])
 (.cond (.t 25)
 (.seq
 (.reg [rg 26 (.build [(.s []),(.sl [] .nl),(.sl [] .nl),(.sl [] .nl),(.sl [] .nl)] []),mv 27 6,rg 28 (.build [(.i .i64 0),(.i .i64 0),(.i .i64 0),(.i .i64 0)] [(0,1,(.c (.i .i64 2))),(3,1,(.t 27))]),so (.store 5 (.t 2) (.t 26)),so (.store 4 (.t 3) (.t 28))])
 (.pre (.norm false [2,3]) .ret))
 .skip)))
 (.seq
 (.draw [⟨rg 29 (.load (some 5) (.t 4)),0,0⟩,⟨rg 30 (.load (some 4) (.t 5)),0,1⟩,⟨so (.store 5 (.t 2) (.t 29)),0,1⟩,⟨so (.store 4 (.t 3) (.t 30)),1,2⟩])
 (.pre (.norm false [2,3]) .ret)))))))
def b612:AX:=
 (.seq
 (.reg [rg 2 (.alloc [(.s []),(.sl [] .nl),(.sl [] .nl),(.sl [] .nl),(.sl [] .nl)]),rg 3 (.alloc [(.i .i64 0),(.i .i64 0),(.i .i64 0),(.i .i64 0)])])
 (.seq
 (.reg [rg 4 (.alloc [(.s []),(.sl [] .nl),(.sl [] .nl),(.sl [] .nl),(.sl [] .nl)])])
 (.seq
 (.reg [mv 7 0,rg 8 (.build [(.s []),(.i .i64 0),(.b false)] [(0,1,(.t 7))]),rg 9 (.xop (.box 3) [(.t 8)]),mv 5 9])
 (.seq
 (.reg [mv 11 5,rg 12 (.call 614 [(.t 11)]),mv 10 12,rg 13 (.ext (.t 10) 0),rg 14 (.ext (.t 10) 1),rg 15 (.ext (.t 10) 2),rg 16 (.fad 0 (.t 4)),so (.store 1 (.t 16) (.t 13))])
 (.seq
 (.seq
 (.reg [rg 17 (.fad 0 (.t 4)),rg 18 (.load none (.t 17)),rg 19 (.build [(.i .i64 0),(.s []),(.i .i64 0)] [(0,1,(.c (.i .i64 2))),(1,1,(.t 18))]),rg 20 (.call 172 [(.t 19)]),rg 21 (.un .not (.t 20))])
 (.cond (.t 21)
 (.seq
 (.reg [rg 22 (.load (some 5) (.t 4)),rg 23 (.build [(.i .i64 0),(.i .i64 0),(.i .i64 0),(.i .i64 0)] [(0,1,(.c (.i .i64 1)))]),so (.store 5 (.t 2) (.t 22)),so (.store 4 (.t 3) (.t 23))])
 (.pre (.norm false [2,3]) .ret))
 .skip))
 (.seq
 (.reg [mv 24 5,mv 25 0,rg 26 (.call 615 [(.t 24),(.t 25),(.t 4)]),rg 6 (.alloc [(.i .i64 0),(.i .i64 0),(.i .i64 0),(.i .i64 0)]),so (.store 4 (.t 6) (.t 26))])
 (.seq
 (.seq
 (.reg [rg 27 (.load (some 4) (.t 6)),rg 28 (.build [(.i .i64 0),(.i .i64 0),(.i .i64 0),(.i .i64 0)] []),rg 29 (.eqs true [(0,.int),(1,.int),(2,.int),(3,.int)] (.t 27) (.t 28))])
 (.cond (.t 29)
 (.seq
 (.draw [⟨rg 30 (.load (some 5) (.t 4)),0,0⟩,⟨rg 31 (.load (some 4) (.t 6)),0,1⟩,⟨so (.store 5 (.t 2) (.t 30)),0,1⟩,⟨so (.store 4 (.t 3) (.t 31)),1,2⟩])
 (.pre (.norm false [2,3]) .ret))
 .skip))
 (.seq
 (.seq
 (.reg [mv 33 5,rg 34 (.call 616 [(.t 33),(.c (.s [98]))]),mv 32 34,rg 35 (.ext (.t 32) 0),rg 36 (.ext (.t 32) 1),rg 37 (.fad 3 (.t 4)),so (.store 1 (.t 37) (.t 35)),so (.store 4 (.t 6) (.t 36))])
 (.seq
 (.reg [rg 38 (.load (some 4) (.t 6)),rg 39 (.build [(.i .i64 0),(.i .i64 0),(.i .i64 0),(.i .i64 0)] []),rg 40 (.eqs true [(0,.int),(1,.int),(2,.int),(3,.int)] (.t 38) (.t 39)),mv 41 40,gd 42 41 false (.mov (.t 5)),gd 43 41 false (.nilc (.t 42)),gd 44 41 false (.fad 2 (.t 43)),gd 45 41 false (.load none (.t 44)),rg 46 (.pick (.t 41) (.c (.b true)) (.t 45))])
 (.cond (.t 46)
 (.seq
 (.draw [⟨rg 47 (.load (some 5) (.t 4)),0,0⟩,⟨rg 48 (.load (some 4) (.t 6)),0,1⟩,⟨so (.store 5 (.t 2) (.t 47)),0,1⟩,⟨so (.store 4 (.t 3) (.t 48)),1,2⟩])
 (.pre (.norm false [2,3]) .ret))
 .skip)))
 (.seq
 (.seq
 (.reg [mv 50 5,rg 51 (.call 616 [(.t 50),(.c (.s [101]))]),mv 49 51,rg 52 (.ext (.t 49) 0),rg 53 (.ext (.t 49) 1),rg 54 (.fad 4 (.t 4)),so (.store 1 (.t 54) (.t 52)),so (.store 4 (.t 6) (.t 53))])
 (.seq
 (.reg [rg 55 (.load (some 4) (.t 6)),rg 56 (.build [(.i .i64 0),(.i .i64 0),(.i .i64 0),(.i .i64 0)] []),rg 57 (.eqs true [(0,.int),(1,.int),(2,.int),(3,.int)] (.t 55) (.t 56)),mv 58 57,gd 59 58 false (.mov (.t 5)),gd 60 58 false (.nilc (.t 59)),gd 61 58 false (.fad 2 (.t 60)),gd 62 58 false (.load none (.t 61)),rg 63 (.pick (.t 58) (.c (.b true)) (.t 62))])
 (.cond (.t 63)
 (.seq
 (.draw [⟨rg 64 (.load (some 5) (.t 4)),0,0⟩,⟨rg 65 (.load (some 4) (.t 6)),0,1⟩,⟨so (.store 5 (.t 2) (.t 64)),0,1⟩,⟨so (.store 4 (.t 3) (.t 65)),1,2⟩])
 (.pre (.norm false [2,3]) .ret))
 .skip)))
 (.seq
 (.draw [⟨rg 66 (.load (some 5) (.t 4)),0,0⟩,⟨mv 67 5,0,1⟩,⟨rg 68 (.nilc (.t 67)),0,1⟩,⟨rg 69 (.fad 1 (.t 68)),0,1⟩,⟨rg 70 (.load none (.t 69)),0,1⟩,⟨rg 71 (.build [(.i .i64 0),(.i .i64 0),(.i .i64 0),(.i .i64 0)] [(0,1,(.c (.i .i64 1))),(3,1,(.t 70))]),0,1⟩,⟨so (.store 5 (.t 2) (.t 66)),0,1⟩,⟨so (.store 4 (.t 3) (.t 71)),1,2⟩])
 (.pre (.norm false [2,3]) .ret)))))))))))
def b614:AX:=
 (.seq
 (.reg [rg 2 (.mov (.c (.s []))),rg 3 (.mov (.c (.i .i64 0))),rg 4 (.mov (.c (.b false)))])
 (.seq
 (.seq
 (.reg [mv 9 0,rg 10 (.nilc (.t 9)),rg 11 (.fad 2 (.t 10)),rg 12 (.load none (.t 11))])
 (.cond (.t 12)
 (.seq
 (.drawT [mv 13 0,rg 14 (.nilc (.t 13)),rg 15 (.fad 1 (.t 14)),rg 16 (.load none (.t 15)),rg 2 (.mov (.c (.s [])))]
 [mv 3 16,rg 4 (.mov (.c (.b false)))])
 (.pre (.norm false [2,3,4]) .ret))
 .skip))
 (.seq
 (.reg [mv 17 0,rg 18 (.nilc (.t 17)),rg 19 (.fad 1 (.t 18)),rg 20 (.load none (.t 19)),mv 5 20])
 (.seq
 (.reg [mv 22 0,rg 23 (.nilc (.t 22)),rg 24 (.fad 0 (.t 23)),rg 25 (.load none (.t 24)),rg 26 (.call 184 [(.t 25),(.c (.s [10]))]),mv 21 26,rg 27 (.ext (.t 21) 0),rg 28 (.ext (.t 21) 1),rg 29 (.ext (.t 21) 2),mv 6 27,mv 7 28,mv 8 29])
 (.seq
 (.reg [mv 30 0,mv 31 0,mv 32 7,mv 33 8,rg 34 (.un .not (.t 33)),rg 35 (.nilc (.t 30)),rg 36 (.fad 0 (.t 35)),so (.store 1 (.t 36) (.t 32)),rg 37 (.nilc (.t 31)),rg 38 (.fad 2 (.t 37)),so (.store 1 (.t 38) (.t 34))])
 (.seq
 (.reg [mv 39 0,rg 40 (.nilc (.t 39)),rg 41 (.fad 1 (.t 40)),rg 42 (.load none (.t 41)),mv 43 6,rg 44 (.lens (.t 43)),rg 45 (.bin .add (.t 42) (.t 44)),rg 46 (.nilc (.t 39)),rg 47 (.fad 1 (.t 46)),so (.store 1 (.t 47) (.t 45))])
 (.seq
 (.seq
 (.reg [mv 48 8])
 (.cond (.t 48)
 (.reg [mv 49 0,rg 50 (.nilc (.t 49)),rg 51 (.fad 1 (.t 50)),rg 52 (.load none (.t 51)),rg 53 (.bin .add (.t 52) (.c (.i .i64 1))),rg 54 (.nilc (.t 49)),rg 55 (.fad 1 (.t 54)),so (.store 1 (.t 55) (.t 53))])
 .skip))
 (.seq
 (.reg [mv 56 6,mv 57 5,mv 2 56,mv 3 57,rg 4 (.mov (.c (.b true)))])
 (.pre (.norm false [2,3,4]) .ret)))))))))
def l615_0:AX:=
 (.note
 (.block 1
 (.seq
 (.reg [mv 14 0,rg 15 (.call 614 [(.t 14)]),mv 13 15,rg 16 (.ext (.t 13) 0),rg 17 (.ext (.t 13) 1),rg 18 (.ext (.t 13) 2),mv 7 16,mv 8 17,mv 9 18])
 (.seq
 (.seq
 (.reg [mv 19 9,rg 20 (.un .not (.t 19))])
 (.cond (.t 20)
 (.seq
 (.reg [rg 21 (.build [(.i .i64 0),(.i .i64 0),(.i .i64 0),(.i .i64 0)] []),so (.store 4 (.t 6) (.t 21))])
 (.pre (.norm true [6]) .ret))
 .skip))
 (.seq
 (.seq
 (.reg [mv 22 7,rg 23 (.call 618 [(.t 22),(.c (.s [124]))]),rg 24 (.un .not (.t 23))])
 (.cond (.t 24)
 (.seq
 (.reg [mv 25 0,mv 26 1,mv 27 8,rg 28 (.call 619 [(.t 25),(.t 26),(.t 27)])])
 (.seq
 (.reg [rg 29 (.build [(.i .i64 0),(.i .i64 0),(.i .i64 0),(.i .i64 0)] []),so (.store 4 (.t 6) (.t 29))])
 (.pre (.norm true [6]) .ret)))
 .skip))
 (.seq
 (.reg [mv 31 7,mv 32 8,rg 33 (.call 620 [(.t 31),(.t 32)]),mv 30 33,rg 34 (.ext (.t 30) 0),rg 35 (.ext (.t 30) 1),rg 36 (.ext (.t 30) 2),rg 10 (.alloc [(.b false),(.sl [] .nl),(.sl [] .nl)]),rg 12 (.alloc [(.i .i64 0),(.i .i64 0),(.i .i64 0),(.i .i64 0)]),so (.store 3 (.t 10) (.t 34)),mv 11 35,so (.store 4 (.t 12) (.t 36))])
 (.seq
 (.seq
 (.reg [rg 37 (.load (some 4) (.t 12)),rg 38 (.build [(.i .i64 0),(.i .i64 0),(.i .i64 0),(.i .i64 0)] []),rg 39 (.eqs true [(0,.int),(1,.int),(2,.int),(3,.int)] (.t 37) (.t 38))])
 (.cond (.t 39)
 (.seq
 (.reg [rg 40 (.load (some 4) (.t 12)),so (.store 4 (.t 6) (.t 40))])
 (.pre (.norm true [6]) .ret))
 .skip))
 (.seq
 (.draw [⟨mv 41 2,0,1⟩,⟨mv 42 2,0,0⟩,⟨rg 43 (.nilc (.t 42)),0,0⟩,⟨rg 44 (.fad 1 (.t 43)),0,0⟩,⟨rg 45 (.load none (.t 44)),0,0⟩,⟨rg 46 (.load (some 3) (.t 10)),0,0⟩,⟨rg 47 (.bsl 3 [(.b false),(.sl [] .nl),(.sl [] .nl)] 1 [(0,(.t 46))]),0,0⟩,⟨rg 48 (.app 3 (.t 45) (.t 47)),0,1⟩,⟨rg 49 (.nilc (.t 41)),1,1⟩,⟨rg 50 (.fad 1 (.t 49)),1,1⟩,⟨so (.store 1 (.t 50) (.t 48)),1,2⟩])
 (.reg [mv 51 2,mv 52 2,rg 53 (.nilc (.t 52)),rg 54 (.fad 2 (.t 53)),rg 55 (.load none (.t 54)),mv 56 11,rg 57 (.bsl 1 [(.sl [] .nl)] 1 [(0,(.t 56))]),rg 58 (.app 1 (.t 55) (.t 57)),rg 59 (.nilc (.t 51)),rg 60 (.fad 2 (.t 59)),so (.store 1 (.t 60) (.t 58))]))))))))
 (.norm true [0,1,2,6]))
def b615:AX:=
 (.seq
 (.reg [rg 6 (.alloc [(.i .i64 0),(.i .i64 0),(.i .i64 0),(.i .i64 0)])])
 (.pre (.fld 2 0 1 3) (.pre (.fld 2 0 2 1) (.lp 0 (.norm true [0,1,2,6]) l615_0 (.norm true [6])))))
def b616:AX:=
 (.seq
 (.reg [rg 4 (.mov (.c (.sl [] .nl))),rg 5 (.alloc [(.i .i64 0),(.i .i64 0),(.i .i64 0),(.i .i64 0)])])
 (.seq
 (.reg [mv 14 0,rg 15 (.call 614 [(.t 14)]),mv 13 15,rg 16 (.ext (.t 13) 0),rg 17 (.ext (.t 13) 1),rg 18 (.ext (.t 13) 2),mv 6 16,mv 7 17,mv 8 18])
 (.seq
 (.reg [mv 20 6,mv 21 1,rg 22 (.bin .add (.t 21) (.c (.s [32]))),rg 23 (.call 64 [(.t 20),(.t 22)]),mv 19 23,rg 24 (.ext (.t 19) 0),rg 25 (.ext (.t 19) 1),mv 9 24,mv 10 25])
 (.seq
 (.seq
 (.reg [mv 26 10,rg 27 (.un .not (.t 26))])
 (.cond (.t 27)
 (.seq
 (.reg [mv 28 7,rg 29 (.build [(.i .i64 0),(.i .i64 0),(.i .i64 0),(.i .i64 0)] [(0,1,(.c (.i .i64 1))),(3,1,(.t 28))]),rg 4 (.mov (.c (.sl [] .nl))),so (.store 4 (.t 5) (.t 29))])
 (.pre (.norm false [4,5]) .ret))
 .skip))
 (.seq
 (.reg [mv 31 9,rg 32 (.call 275 [(.t 31)]),mv 30 32,rg 33 (.ext (.t 30) 0),rg 34 (.ext (.t 30) 1),rg 12 (.alloc [(.i .i64 0),(.i .i64 0),(.i .i64 0),(.i .i64 0)]),mv 11 33,so (.store 4 (.t 12) (.t 34))])
 (.seq
 (.reg [mv 35 11,rg 36 (.load (some 4) (.t 12)),mv 37 7,mv 38 1,rg 39 (.lens (.t 38)),rg 40 (.bin .add (.t 37) (.t 39)),rg 41 (.bin .add (.t 40) (.c (.i .i64 1))),rg 42 (.call 621 [(.t 36),(.t 41)]),mv 4 35,so (.store 4 (.t 5) (.t 42))])
 (.pre (.norm false [4,5]) .ret)))))))
def b618:AX:=
 (.seq
 (.reg [rg 4 (.mov (.c (.b false)))])
 (.seq
 (.reg [mv 5 0,mv 6 1,rg 7 (.call 362 [(.t 5),(.t 6)]),rg 8 (.bin .geq (.t 7) (.c (.i .i64 0))),mv 4 8])
 (.pre (.norm false [4]) .ret)))
def b619:AX:=
 (.reg [mv 6 0,mv 7 0,mv 8 0,mv 9 1,mv 10 2,rg 11 (.slstr (.t 9) (some (.t 10)) none),mv 12 2,rg 13 (.nilc (.t 6)),rg 14 (.fad 0 (.t 13)),so (.store 1 (.t 14) (.t 11)),rg 15 (.nilc (.t 7)),rg 16 (.fad 1 (.t 15)),so (.store 1 (.t 16) (.t 12)),rg 17 (.nilc (.t 8)),rg 18 (.fad 2 (.t 17)),so (.store 1 (.t 18) (.c (.b false)))])
def b620:AX:=
 (.seq
 (.reg [rg 4 (.alloc [(.b false),(.sl [] .nl),(.sl [] .nl)]),rg 5 (.mov (.c (.sl [] .nl))),rg 6 (.alloc [(.i .i64 0),(.i .i64 0),(.i .i64 0),(.i .i64 0)])])
 (.seq
 (.reg [mv 14 0,rg 15 (.call 184 [(.t 14),(.c (.s [124]))]),mv 13 15,rg 16 (.ext (.t 13) 0),rg 17 (.ext (.t 13) 1),rg 18 (.ext (.t 13) 2),mv 7 16,mv 8 17,mv 9 18])
 (.seq
 (.reg [mv 20 7,rg 21 (.call 256 [(.t 20)]),mv 19 21,rg 22 (.ext (.t 19) 0),rg 23 (.ext (.t 19) 1),rg 10 (.alloc [(.b false),(.sl [] .nl),(.sl [] .nl)]),rg 11 (.alloc [(.i .i64 0),(.i .i64 0),(.i .i64 0),(.i .i64 0)]),so (.store 3 (.t 10) (.t 22)),so (.store 4 (.t 11) (.t 23))])
 (.seq
 (.seq
 (.reg [rg 24 (.load (some 4) (.t 11)),rg 25 (.build [(.i .i64 0),(.i .i64 0),(.i .i64 0),(.i .i64 0)] []),rg 26 (.eqs true [(0,.int),(1,.int),(2,.int),(3,.int)] (.t 24) (.t 25))])
 (.cond (.t 26)
 (.seq
 (.drawT [rg 27 (.load (some 3) (.t 10)),rg 28 (.load (some 4) (.t 11)),mv 29 1,rg 30 (.call 621 [(.t 28),(.t 29)])]
 [so (.store 3 (.t 4) (.t 27)),rg 5 (.mov (.c (.sl [] .nl))),so (.store 4 (.t 6) (.t 30))])
 (.pre (.norm false [4,5,6]) .ret))
 .skip))
 (.seq
 (.reg [mv 32 8,rg 33 (.call 275 [(.t 32)]),mv 31 33,rg 34 (.ext (.t 31) 0),rg 35 (.ext (.t 31) 1),mv 12 34,so (.store 4 (.t 11) (.t 35))])
 (.seq
 (.draw [⟨rg 36 (.load (some 3) (.t 10)),0,0⟩,⟨mv 37 12,0,1⟩,⟨rg 38 (.load (some 4) (.t 11)),0,0⟩,⟨mv 39 1,0,0⟩,⟨mv 40 7,0,0⟩,⟨rg 41 (.lens (.t 40)),0,0⟩,⟨rg 42 (.bin .add (.t 39) (.t 41)),0,0⟩,⟨rg 43 (.bin .add (.t 42) (.c (.i .i64 1))),0,0⟩,⟨rg 44 (.call 621 [(.t 38),(.t 43)]),0,0⟩,⟨so (.store 3 (.t 4) (.t 36)),0,1⟩,⟨mv 5 37,1,1⟩,⟨so (.store 4 (.t 6) (.t 44)),1,2⟩])
 (.pre (.norm false [4,5,6]) .ret)))))))
def b621:AX:=
 (.seq
 (.reg [rg 2 (.xop (.box 4) [(.t 0)]),rg 4 (.alloc [(.i .i64 0),(.i .i64 0),(.i .i64 0),(.i .i64 0)])])
 (.seq
 (.seq
 (.reg [rg 5 (.load (some 4) (.t 2)),rg 6 (.build [(.i .i64 0),(.i .i64 0),(.i .i64 0),(.i .i64 0)] []),rg 7 (.eqs true [(0,.int),(1,.int),(2,.int),(3,.int)] (.t 5) (.t 6))])
 (.cond (.t 7)
 (.reg [rg 8 (.fad 3 (.t 2)),rg 9 (.load none (.t 8)),mv 10 1,rg 11 (.bin .add (.t 9) (.t 10)),rg 12 (.fad 3 (.t 2)),so (.store 1 (.t 12) (.t 11))])
 .skip))
 (.seq
 (.reg [rg 13 (.load (some 4) (.t 2)),so (.store 4 (.t 4) (.t 13))])
 (.pre (.norm false [4]) .ret))))
def row608:AFx:=⟨1,31,[.cell 2 (some 5),.cell 3 (some 4)],b608,none,false⟩
def row612:AFx:=⟨1,72,[.cell 2 (some 5),.cell 3 (some 4)],b612,none,false⟩
def row614:AFx:=⟨1,58,[.t 2,.t 3,.t 4],b614,(some [true]),false⟩
def row615:AFx:=⟨3,61,[.cell 6 (some 4)],b615,(some [true,false,true]),true⟩
def row616:AFx:=⟨2,43,[.t 4,.cell 5 (some 4)],b616,(some [true,false]),false⟩
def row618:AFx:=⟨2,9,[.t 4],b618,none,false⟩
def row619:AFx:=⟨3,19,[],b619,(some [true,false,false]),false⟩
def row620:AFx:=⟨2,45,[.cell 4 (some 3),.t 5,.cell 6 (some 4)],b620,none,false⟩
def row621:AFx:=⟨2,14,[.cell 4 (some 4)],b621,none,false⟩
class Zao (T:Tbl):Prop where
 h608:T 608=some row608
 h612:T 612=some row612
 h614:T 614=some row614
 h615:T 615=some row615
 h616:T 616=some row616
 h618:T 618=some row618
 h619:T 619=some row619
 h620:T 620=some row620
 h621:T 621=some row621
section
variable{T:Tbl}[Zao T]{d:Option Nat}{st:St}{xs:List AV}{ps:List Opd}{e:Env}{h:Heap}{ol:List Heap}
@[simp] theorem x608:Zd (orc T) T 608 xs d st=cP T 608 false xs d st:=zaa Zao.h608
@[simp] theorem x612:Zd (orc T) T 612 xs d st=cP T 612 false xs d st:=zaa Zao.h612
@[simp] theorem x614:Zd (orc T) T 614 xs d st=cL T 614 false [true] xs d st:=zay Zao.h614
@[simp] theorem x615:Zd (orc T) T 615 xs d st=cL T 615 true [true,false,true] xs d st:=zay Zao.h615
@[simp] theorem x616:Zd (orc T) T 616 xs d st=cL T 616 false [true,false] xs d st:=zay Zao.h616
@[simp] theorem x618:Zd (orc T) T 618 xs d st=cP T 618 false xs d st:=zaa Zao.h618
@[simp] theorem x619:Zd (orc T) T 619 xs d st=cL T 619 false [true,false,false] xs d st:=zay Zao.h619
@[simp] theorem x620:Zd (orc T) T 620 xs d st=cP T 620 false xs d st:=zaa Zao.h620
@[simp] theorem x621:Zd (orc T) T 621 xs d st=cP T 621 false xs d st:=zaa Zao.h621
@[simp] theorem y621:opD (orc T) T (.call 621 ps) e h ol=dP T 621 false ps e:=zao Zao.h621
end
class Zf9 (T:Tbl):Prop where
class Zfu (T:Tbl):Prop where
class Zaq (T:Tbl):Prop where
section
variable{T:Tbl}[Zaq T]
def atW(a:List UInt32)(i:Nat):Nat:=(a[i]?.map UInt32.toNat).getD 0
end
section
variable{T:Tbl}[Zaq T]
def Zn8(a b:List UInt32)(n:Nat)(y:Nat×Nat×List UInt32):St:=
 ⟨[(0,.sl (Zb a) .an),(1,.sl (Zb b) .an),(5,.i .i64 n),(6,.bs (.loc 16) 1 1 0 n),(7,u64 y.2.1),(8,.i .i64 y.1)],[(.loc 16,⟨1,.own,1,Zb y.2.2⟩)],3⟩
def Zn9(a b:List UInt32)(n:Nat)(y:Nat×Nat×List UInt32):St:=
 ⟨[(0,.sl (Zb a) .an),(1,.sl (Zb b) .an),(5,.i .i64 n),(6,.bs (.loc 17) 1 1 0 n),(7,u64 y.2.1),(8,.i .i64 y.1)],[(.loc 17,⟨1,.own,1,Zb y.2.2⟩)],3⟩
end
class Zar (T:Tbl):Prop extends Zaq T where
section
variable{T:Tbl}[Zar T]
def Zpn(P S a b:List UInt32)(y:Nat×Nat×List UInt32):St:=
 ⟨[(0,.sl (Zb a) .an),(1,.sl (Zb b) .an),(5,.bs (.loc 14) 1 1 0 (P.length+S.length)),(6,.i .i64 P.length),(7,u64 y.2.1),(8,.i .i64 y.1)],[(.loc 14,⟨1,.own,1,Zb (P++(y.2.2++S.drop y.1))⟩)],3⟩
end
section
variable{T:Tbl}[Zar T]
def Zoa(a b:List UInt32)(y:Nat×List UInt32):St:=
 ⟨[(0,.sl (Zb a) .an),(1,.sl (Zb b) .an),(5,.bs (.loc 14) 1 1 0 (a.length+b.length)),(6,.i .i64 y.1)],[(.loc 14,⟨1,.own,1,Zb (y.2++List.replicate (a.length-y.1) 0)⟩)],3⟩
end
class Zai (T:Tbl):Prop extends Zar T where
section
variable{T:Tbl}[Zai T]
def Zra(a:List UInt32)(y:Nat×Nat×List UInt32):St:=
 ⟨[(0,.bs (.bor 0) 0 1 0 a.length),(4,u32 y.2.1),(5,.i .i64 y.1)],[(.bor 0,⟨0,.own,1,Zb (y.2.2++a.drop y.1)⟩)],4⟩
end
section
variable{T:Tbl}[Zai T]
def Zrb(a b:List UInt32)(y:Nat×Nat×List UInt32):St:=
 ⟨[(0,.bs (.bor 0) 0 1 0 a.length),(1,.sl (Zb b) .an),(4,u64 y.2.1),(5,.i .i64 y.1)],[(.bor 0,⟨0,.own,1,Zb (y.2.2++a.drop y.1)⟩)],4⟩
def Zrc(x i:Nat)(y:Nat):St:=⟨[(1,.i .i64 i),(5,u32 (x/2^y)),(6,.i .i64 y)],[],2⟩
end
section
variable{T:Tbl}[Zai T]
def Zrd(a:List UInt32)(y:Nat):St:=⟨[(0,.sl (Zb a) .an),(3,.i .i64 y)],[],2⟩
end
section
variable{T:Tbl}[Zai T]
def Zre(a b:List UInt32)(y:Nat×List UInt32×List UInt32):St:=
 ⟨[(0,.sl (Zb a) .an),(1,.sl (Zb b) .an),(6,.bs (.loc 11) 1 1 0 a.length),(7,.bs (.loc 15) 2 1 0 (b.length+1)),(8,.i .i64 ((y.1:Int)-1))],[(.loc 11,⟨1,.own,1,Zb y.2.1⟩),(.loc 15,⟨2,.own,1,Zb y.2.2⟩)],4⟩
end
class Zas (T:Tbl):Prop extends Zai T where
class Za3 (T:Tbl):Prop where
section
variable{T:Tbl}[Zas T]
def Zpo(N:Nat)(y:Nat×Nat×List UInt32)(P:List UInt32):St:=
 ⟨[(0,.bs (.bor 0) 0 1 0 N),(3,u64 y.2.1),(4,.i .i64 ((y.1:Int)-1))],[(.bor 0,⟨0,.own,1,Zb (P.take y.1++y.2.2)⟩)],4⟩
end
section
variable{T:Tbl}[Zas T]
def Zri(b:BId)(x:List UInt32)(s:List UInt8):St:=⟨[(3,.bs b 1 1 0 x.length),(4,.s s)],[(b,⟨1,.own,1,Zb x⟩)],3⟩
end
class Zba (T:Tbl):Prop extends Zas T where
def b247:AX:=
 (.seq
 (.reg [rg 2 (.xop (.box 3) [(.t 0)]),rg 4 (.mov (.c (.b false)))])
 (.seq
 (.reg [rg 5 (.fad 1 (.t 2)),rg 6 (.load none (.t 5)),rg 7 (.len (.t 6)),mv 8 1,rg 9 (.bin .gtr (.t 7) (.t 8)),mv 10 9,gd 11 10 false (.fad 2 (.t 2)),gd 12 10 false (.load none (.t 11)),gd 13 10 false (.len (.t 12)),gd 14 10 false (.mov (.t 1)),gd 15 10 false (.bin .gtr (.t 13) (.t 14)),rg 16 (.pick (.t 10) (.c (.b true)) (.t 15)),mv 4 16])
 (.pre (.norm false [4]) .ret)))
def row247:AFx:=⟨2,17,[.t 4],b247,none,false⟩
class Zav (T:Tbl):Prop where
 h247:T 247=some row247
section
variable{T:Tbl}[Zav T]{d:Option Nat}{st:St}{xs:List AV}{ps:List Opd}{e:Env}{h:Heap}{ol:List Heap}
@[simp] theorem x247:Zd (orc T) T 247 xs d st=cP T 247 false xs d st:=zaa Zav.h247
end
def l286_0:AX:=
 (.note
 (.seq
 (.seq
 (.reg [mv 8 7,mv 9 0,rg 10 (.len (.t 9)),rg 11 (.bin .lss (.t 8) (.t 10)),mv 12 11,gd 13 12 true (.mov (.t 7)),gd 14 12 true (.mov (.t 1)),gd 15 12 true (.bin .lss (.t 13) (.t 14)),rg 16 (.pick (.t 12) (.t 15) (.c (.b false)))])
 (.cond (.t 16)
 .skip
 (.exit 0)))
 (.seq
 (.block 1
 (.seq
 (.reg [mv 19 0,mv 20 7,rg 21 (.iad 3 (.t 19) (.t 20)),rg 22 (.load (some 3) (.t 21)),mv 23 2,rg 24 (.call 247 [(.t 22),(.t 23)])])
 (.cond (.t 24)
 (.seq
 (.reg [rg 6 (.mov (.c (.b true)))])
 (.pre (.norm false [6]) .ret))
 .skip)))
 (.reg [mv 17 7,rg 18 (.bin .add (.t 17) (.c (.i .i64 1))),mv 7 18])))
 (.norm false [0,1,2,7]))
def b286:AX:=
 (.seq
 (.reg [rg 6 (.mov (.c (.b false)))])
 (.seq
 (.seq
 (.reg [rg 7 (.mov (.c (.i .i64 0)))])
 (.lp 0 (.norm false [0,1,2,7]) l286_0 (.norm false [0,1])))
 (.seq
 (.reg [mv 25 0,rg 26 (.len (.t 25)),mv 27 1,rg 28 (.bin .gtr (.t 26) (.t 27)),mv 6 28])
 (.pre (.norm false [6]) .ret))))
def row286:AFx:=⟨3,29,[.t 6],b286,none,false⟩
class Zbb (T:Tbl):Prop where
 h286:T 286=some row286
section
variable{T:Tbl}[Zbb T]{d:Option Nat}{st:St}{xs:List AV}{ps:List Opd}{e:Env}{h:Heap}{ol:List Heap}
@[simp] theorem x286:Zd (orc T) T 286 xs d st=cP T 286 false xs d st:=zaa Zbb.h286
end
class Zgx (T:Tbl):Prop where
class Zh4 (T:Tbl):Prop where
class Zfw (T:Tbl):Prop where
def b248:AX:=
 (.seq
 (.reg [rg 1 (.xop (.box 3) [(.t 0)]),rg 2 (.alloc [(.b false),(.sl [] .nl),(.sl [] .nl)])])
 (.seq
 (.reg [rg 3 (.fad 0 (.t 1)),rg 4 (.load none (.t 3)),rg 5 (.fad 1 (.t 1)),rg 6 (.load none (.t 5)),rg 7 (.build [(.b false),(.sl [] .nl)] [(0,1,(.t 4)),(1,1,(.t 6))]),rg 8 (.fad 2 (.t 1)),rg 9 (.load none (.t 8)),rg 10 (.build [(.b false),(.sl [] .nl),(.sl [] .nl)] [(0,2,(.t 7)),(2,1,(.t 9))]),so (.store 3 (.t 2) (.t 10))])
 (.pre (.norm false [2]) .ret)))
def row248:AFx:=⟨1,11,[.cell 2 (some 3)],b248,none,false⟩
class Zdj (T:Tbl):Prop where
 h248:T 248=some row248
section
variable{T:Tbl}[Zdj T]{d:Option Nat}{st:St}{xs:List AV}{ps:List Opd}{e:Env}{h:Heap}{ol:List Heap}
@[simp] theorem x248:Zd (orc T) T 248 xs d st=cP T 248 false xs d st:=zaa Zdj.h248
end
def l287_0:AX:=
 (.note
 (.seq
 (.seq
 (.reg [mv 5 4,mv 6 0,rg 7 (.len (.t 6)),rg 8 (.bin .lss (.t 5) (.t 7))])
 (.cond (.t 8)
 .skip
 (.exit 0)))
 (.seq
 (.block 1
 (.reg [mv 11 3,mv 12 0,mv 13 4,rg 14 (.iad 3 (.t 12) (.t 13)),rg 15 (.load (some 3) (.t 14)),rg 16 (.call 248 [(.t 15)]),rg 17 (.bsl 3 [(.b false),(.sl [] .nl),(.sl [] .nl)] 1 [(0,(.t 16))]),rg 18 (.app 3 (.t 11) (.t 17)),mv 3 18]))
 (.reg [mv 9 4,rg 10 (.bin .add (.t 9) (.c (.i .i64 1))),mv 4 10])))
 (.norm false [0,3,4]))
def b287:AX:=
 (.seq
 (.reg [rg 2 (.mov (.c (.sl [] .nl)))])
 (.seq
 (.note (.reg [rg 3 (.mov (.c (.sl [] .nl)))]) (.nil 3 3))
 (.seq
 (.seq
 (.reg [rg 4 (.mov (.c (.i .i64 0)))])
 (.lp 0 (.norm false [0,3,4]) l287_0 (.norm false [3])))
 (.seq
 (.reg [mv 19 3,mv 2 19])
 (.pre (.norm false [2]) .ret)))))
def row287:AFx:=⟨1,20,[.t 2],b287,none,false⟩
class Zc9 (T:Tbl):Prop where
 h287:T 287=some row287
section
variable{T:Tbl}[Zc9 T]{d:Option Nat}{st:St}{xs:List AV}{ps:List Opd}{e:Env}{h:Heap}{ol:List Heap}
@[simp] theorem x287:Zd (orc T) T 287 xs d st=cP T 287 false xs d st:=zaa Zc9.h287
@[simp] theorem y287:opD (orc T) T (.call 287 ps) e h ol=dP T 287 false ps e:=zao Zc9.h287
end
def l308_0:AX:=
 (.note
 (.seq
 (.seq
 (.reg [mv 5 4,mv 6 0,rg 7 (.len (.t 6)),rg 8 (.bin .lss (.t 5) (.t 7))])
 (.cond (.t 8)
 .skip
 (.exit 0)))
 (.seq
 (.block 1
 (.reg [mv 11 3,mv 12 0,mv 13 4,rg 14 (.iad 1 (.t 12) (.t 13)),rg 15 (.load none (.t 14)),rg 16 (.call 287 [(.t 15)]),rg 17 (.bsl 1 [(.sl [] .nl)] 1 [(0,(.t 16))]),rg 18 (.app 1 (.t 11) (.t 17)),mv 3 18]))
 (.reg [mv 9 4,rg 10 (.bin .add (.t 9) (.c (.i .i64 1))),mv 4 10])))
 (.norm false [0,3,4]))
def b308:AX:=
 (.seq
 (.reg [rg 2 (.mov (.c (.sl [] .nl)))])
 (.seq
 (.note (.reg [rg 3 (.mov (.c (.sl [] .nl)))]) (.nil 3 1))
 (.seq
 (.seq
 (.reg [rg 4 (.mov (.c (.i .i64 0)))])
 (.lp 0 (.norm false [0,3,4]) l308_0 (.norm false [3])))
 (.seq
 (.reg [mv 19 3,mv 2 19])
 (.pre (.norm false [2]) .ret)))))
def row308:AFx:=⟨1,20,[.t 2],b308,none,false⟩
class Ze6 (T:Tbl):Prop where
 h308:T 308=some row308
section
variable{T:Tbl}[Ze6 T]{d:Option Nat}{st:St}{xs:List AV}{ps:List Opd}{e:Env}{h:Heap}{ol:List Heap}
@[simp] theorem y308:opD (orc T) T (.call 308 ps) e h ol=dP T 308 false ps e:=zao Ze6.h308
end
class Zh2 (T:Tbl):Prop where
class Zhl (T:Tbl):Prop where
def l515_0:AX:=
 (.note
 (.seq
 (.seq
 (.reg [mv 40 7,rg 41 (.fad 2 (.t 3)),rg 42 (.load none (.t 41)),rg 43 (.len (.t 42)),rg 44 (.bin .lss (.t 40) (.t 43))])
 (.cond (.t 44)
 .skip
 (.exit 0)))
 (.seq
 (.block 1
 (.seq
 (.reg [rg 47 (.fad 2 (.t 3)),rg 48 (.load none (.t 47)),mv 49 7,rg 50 (.iad 1 (.t 48) (.t 49)),rg 51 (.load none (.t 50)),mv 52 1,mv 53 2,rg 54 (.call 286 [(.t 51),(.t 52),(.t 53)])])
 (.cond (.t 54)
 (.seq
 (.reg [rg 6 (.mov (.c (.b true)))])
 (.pre (.norm false [6]) .ret))
 .skip)))
 (.reg [mv 45 7,rg 46 (.bin .add (.t 45) (.c (.i .i64 1))),mv 7 46])))
 (.norm false [1,2,3,7]))
def b515:AX:=
 (.seq
 (.reg [rg 3 (.xop (.box 5) [(.t 0)]),rg 6 (.mov (.c (.b false)))])
 (.seq
 (.seq
 (.reg [rg 8 (.fad 0 (.t 3)),rg 9 (.load none (.t 8)),rg 10 (.lens (.t 9)),rg 11 (.bin .gtr (.t 10) (.c (.i .i64 50))),mv 12 11,gd 13 12 false (.fad 2 (.t 3)),gd 14 12 false (.load none (.t 13)),gd 15 12 false (.len (.t 14)),gd 16 12 false (.mov (.t 1)),gd 17 12 false (.bin .gtr (.t 15) (.t 16)),rg 18 (.pick (.t 12) (.c (.b true)) (.t 17)),mv 19 18,gd 20 19 false (.fad 3 (.t 3)),gd 21 19 false (.load none (.t 20)),gd 22 19 false (.mov (.t 1)),gd 23 19 false (.mov (.t 2)),gd 24 19 false (.call 286 [(.t 21),(.t 22),(.t 23)]),rg 25 (.pick (.t 19) (.c (.b true)) (.t 24)),mv 26 25,gd 27 26 false (.fad 1 (.t 3)),gd 28 26 false (.load none (.t 27)),gd 29 26 false (.mov (.t 1)),gd 30 26 false (.mov (.t 2)),gd 31 26 false (.call 286 [(.t 28),(.t 29),(.t 30)]),rg 32 (.pick (.t 26) (.c (.b true)) (.t 31)),mv 33 32,gd 34 33 false (.fad 4 (.t 3)),gd 35 33 false (.load none (.t 34)),gd 36 33 false (.mov (.t 1)),gd 37 33 false (.mov (.t 2)),gd 38 33 false (.call 286 [(.t 35),(.t 36),(.t 37)]),rg 39 (.pick (.t 33) (.c (.b true)) (.t 38))])
 (.cond (.t 39)
 (.seq
 (.reg [rg 6 (.mov (.c (.b true)))])
 (.pre (.norm false [6]) .ret))
 .skip))
 (.seq
 (.seq
 (.reg [rg 7 (.mov (.c (.i .i64 0)))])
 (.lp 0 (.norm false [1,2,3,7]) l515_0 (.norm false [])))
 (.seq
 (.reg [rg 6 (.mov (.c (.b false)))])
 (.pre (.norm false [6]) .ret)))))
def row515:AFx:=⟨3,55,[.t 6],b515,none,false⟩
class Zeo (T:Tbl):Prop where
 h515:T 515=some row515
section
variable{T:Tbl}[Zeo T]{d:Option Nat}{st:St}{xs:List AV}{ps:List Opd}{e:Env}{h:Heap}{ol:List Heap}
@[simp] theorem x515:Zd (orc T) T 515 xs d st=cP T 515 false xs d st:=zaa Zeo.h515
end
def b527:AX:=
 (.seq
 (.reg [rg 1 (.xop (.box 5) [(.t 0)]),rg 2 (.alloc [(.s []),(.sl [] .nl),(.sl [] .nl),(.sl [] .nl),(.sl [] .nl)])])
 (.seq
 (.drawT [rg 3 (.fad 0 (.t 1)),rg 4 (.load none (.t 3)),rg 5 (.fad 1 (.t 1)),rg 6 (.load none (.t 5)),rg 7 (.call 287 [(.t 6)]),rg 8 (.fad 2 (.t 1)),rg 9 (.load none (.t 8)),rg 10 (.call 308 [(.t 9)]),rg 11 (.fad 3 (.t 1)),rg 12 (.load none (.t 11)),rg 13 (.call 287 [(.t 12)]),rg 14 (.fad 4 (.t 1)),rg 15 (.load none (.t 14)),rg 16 (.call 287 [(.t 15)])]
 [rg 17 (.build [(.s []),(.sl [] .nl),(.sl [] .nl),(.sl [] .nl),(.sl [] .nl)] [(0,1,(.t 4)),(1,1,(.t 7)),(2,1,(.t 10)),(3,1,(.t 13)),(4,1,(.t 16))]),so (.store 5 (.t 2) (.t 17))])
 (.pre (.norm false [2]) .ret)))
def row527:AFx:=⟨1,18,[.cell 2 (some 5)],b527,none,false⟩
class Zhm (T:Tbl):Prop where
 h527:T 527=some row527
section
variable{T:Tbl}[Zhm T]{d:Option Nat}{st:St}{xs:List AV}{ps:List Opd}{e:Env}{h:Heap}{ol:List Heap}
@[simp] theorem x527:Zd (orc T) T 527 xs d st=cP T 527 false xs d st:=zaa Zhm.h527
end
class Zh5 (T:Tbl):Prop where
def l603_0:AX:=
 (.note
 (.seq
 (.reg [rg 10 (.bin .lss (.t 9) (.c (.i .i64 6)))])
 (.seq
 (.cond (.t 10)
 .skip
 (.exit 0))
 (.seq
 (.block 1
 (.seq
 (.reg [rg 11 (.ixa 1 6 none (.t 8) (.t 9)),mv 5 11])
 (.seq
 (.reg [mv 12 5,rg 13 (.call 610 [(.t 12)]),mv 14 0,rg 15 (.bin .eql (.t 13) (.t 14))])
 (.cond (.t 15)
 (.seq
 (.reg [mv 17 5,rg 18 (.call 608 [(.t 17)]),mv 16 18,rg 19 (.ext (.t 16) 0),rg 20 (.ext (.t 16) 1),rg 6 (.alloc [(.s []),(.sl [] .nl),(.sl [] .nl),(.sl [] .nl),(.sl [] .nl)]),rg 7 (.alloc [(.i .i64 0),(.i .i64 0),(.i .i64 0),(.i .i64 0)]),so (.store 5 (.t 6) (.t 19)),so (.store 4 (.t 7) (.t 20))])
 (.seq
 (.reg [rg 21 (.load (some 5) (.t 6)),so (.store 5 (.t 2) (.t 21)),rg 3 (.mov (.c (.b true)))])
 (.pre (.norm false [2,3]) .ret)))
 .skip))))
 (.reg [rg 22 (.bin .add (.t 9) (.c (.i .i64 1))),mv 9 22]))))
 (.norm false [0,2,8,9]))
def b603:AX:=
 (.seq
 (.reg [rg 2 (.alloc [(.s []),(.sl [] .nl),(.sl [] .nl),(.sl [] .nl),(.sl [] .nl)]),rg 3 (.mov (.c (.b false)))])
 (.seq
 (.seq
 (.reg [rg 8 (.call 609 []),rg 9 (.mov (.c (.i .i64 0)))])
 (.lp 0 (.norm false [0,2,8,9]) l603_0 (.norm false [2])))
 (.seq
 (.reg [rg 23 (.build [(.s []),(.sl [] .nl),(.sl [] .nl),(.sl [] .nl),(.sl [] .nl)] []),so (.store 5 (.t 2) (.t 23)),rg 3 (.mov (.c (.b false)))])
 (.pre (.norm false [2,3]) .ret))))
def b609:AX:=
 (.seq
 (.reg [rg 0 (.alloc [(.s []),(.s []),(.s []),(.s []),(.s []),(.s [])])])
 (.seq
 (.reg [rg 1 (.build [(.s []),(.s []),(.s []),(.s []),(.s []),(.s [])] [(0,1,(.c (.s [101,117,108,101,114,10,48,124,10,98,32,49]))),(1,1,(.c (.s [104,101,117,110,10,48,124,10,49,124,49,10,98,32,49,47,50,44,49,47,50,10,101,32,49,44,48]))),(2,1,(.c (.s [109,105,100,112,111,105,110,116,10,48,124,10,49,47,50,124,49,47,50,10,98,32,48,44,49,10,101,32,49,44,48]))),(3,1,(.c (.s [114,107,52,10,48,124,10,49,47,50,124,49,47,50,10,49,47,50,124,48,44,49,47,50,10,49,124,48,44,48,44,49,10,98,32,49,47,54,44,49,47,51,44,49,47,51,44,49,47,54]))),(4,1,(.c (.s [98,115,50,51,10,48,124,10,49,47,50,124,49,47,50,10,51,47,52,124,48,44,51,47,52,10,49,124,50,47,57,44,49,47,51,44,52,47,57,10,98,32,50,47,57,44,49,47,51,44,52,47,57,44,48,10,101,32,55,47,50,52,44,49,47,52,44,49,47,51,44,49,47,56]))),(5,1,(.c (.s [100,112,52,53,10,48,124,10,49,47,53,124,49,47,53,10,51,47,49,48,124,51,47,52,48,44,57,47,52,48,10,52,47,53,124,52,52,47,52,53,44,45,53,54,47,49,53,44,51,50,47,57,10,56,47,57,124,49,57,51,55,50,47,54,53,54,49,44,45,50,53,51,54,48,47,50,49,56,55,44,54,52,52,52,56,47,54,53,54,49,44,45,50,49,50,47,55,50,57,10,49,124,57,48,49,55,47,51,49,54,56,44,45,51,53,53,47,51,51,44,52,54,55,51,50,47,53,50,52,55,44,52,57,47,49,55,54,44,45,53,49,48,51,47,49,56,54,53,54,10,49,124,51,53,47,51,56,52,44,48,44,53,48,48,47,49,49,49,51,44,49,50,53,47,49,57,50,44,45,50,49,56,55,47,54,55,56,52,44,49,49,47,56,52,10,98,32,51,53,47,51,56,52,44,48,44,53,48,48,47,49,49,49,51,44,49,50,53,47,49,57,50,44,45,50,49,56,55,47,54,55,56,52,44,49,49,47,56,52,44,48,10,101,32,53,49,55,57,47,53,55,54,48,48,44,48,44,55,53,55,49,47,49,54,54,57,53,44,51,57,51,47,54,52,48,44,45,57,50,48,57,55,47,51,51,57,50,48,48,44,49,56,55,47,50,49,48,48,44,49,47,52,48])))]),so (.store 6 (.t 0) (.t 1))])
 (.pre (.norm false [0]) .ret)))
def b610:AX:=
 (.seq
 (.reg [rg 2 (.mov (.c (.s [])))])
 (.seq
 (.reg [mv 7 0,rg 8 (.call 184 [(.t 7),(.c (.s [10]))]),mv 6 8,rg 9 (.ext (.t 6) 0),rg 10 (.ext (.t 6) 1),rg 11 (.ext (.t 6) 2),mv 3 9,mv 4 10,mv 5 11])
 (.seq
 (.reg [mv 12 3,mv 2 12])
 (.pre (.norm false [2]) .ret))))
def row603:AFx:=⟨1,24,[.cell 2 (some 5),.t 3],b603,none,false⟩
def row609:AFx:=⟨0,2,[.cell 0 (some 6)],b609,none,false⟩
def row610:AFx:=⟨1,13,[.t 2],b610,none,false⟩
class Zcx (T:Tbl):Prop where
 h603:T 603=some row603
 h609:T 609=some row609
 h610:T 610=some row610
section
variable{T:Tbl}[Zcx T]{d:Option Nat}{st:St}{xs:List AV}{ps:List Opd}{e:Env}{h:Heap}{ol:List Heap}
@[simp] theorem x603:Zd (orc T) T 603 xs d st=cP T 603 false xs d st:=zaa Zcx.h603
@[simp] theorem x609:Zd (orc T) T 609 xs d st=cP T 609 false xs d st:=zaa Zcx.h609
@[simp] theorem x610:Zd (orc T) T 610 xs d st=cP T 610 false xs d st:=zaa Zcx.h610
end
def l589_0:AX:=
 (.note
 (.seq
 (.reg [rg 17 (.bin .lss (.t 16) (.t 15))])
 (.seq
 (.cond (.t 17)
 .skip
 (.exit 0))
 (.seq
 (.block 1
 (.seq
 (.reg [mv 18 16,mv 5 18])
 (.reg [mv 19 4,mv 20 5,rg 21 (.bsl 1 [(.i .i64 0)] 1 [(0,(.t 20))]),rg 22 (.app 1 (.t 19) (.t 21)),mv 4 22])))
 (.reg [rg 23 (.bin .add (.t 16) (.c (.i .i64 1))),mv 16 23]))))
 (.norm false [0,3,4,15,16]))
def l589_1:AX:=
 (.note
 (.seq
 (.seq
 (.reg [mv 31 6,rg 32 (.bin .gtr (.t 31) (.c (.i .i64 0))),mv 33 32,gd 34 33 true (.mov (.t 4)),gd 35 33 true (.mov (.t 6)),gd 36 33 true (.iad 1 (.t 34) (.t 35)),gd 37 33 true (.load none (.t 36)),gd 38 33 true (.bin .lss (.t 37) (.c (.i .i64 2))),rg 39 (.pick (.t 33) (.t 38) (.c (.b false)))])
 (.cond (.t 39)
 .skip
 (.exit 2)))
 (.seq
 (.block 3
 .skip)
 (.reg [mv 40 6,rg 41 (.bin .sub (.t 40) (.c (.i .i64 1))),mv 6 41])))
 (.norm false [0,3,4,6]))
def l589_2:AX:=
 (.note
 (.seq
 (.seq
 (.reg [mv 49 8,mv 50 0,rg 51 (.bin .lss (.t 49) (.t 50))])
 (.cond (.t 51)
 .skip
 (.exit 4)))
 (.seq
 (.block 5
 (.reg [mv 54 4,mv 55 8,mv 56 4,mv 57 8,mv 58 6,rg 59 (.bin .sub (.t 57) (.t 58)),mv 60 7,rg 61 (.bin .add (.t 59) (.t 60)),rg 62 (.iad 1 (.t 56) (.t 61)),rg 63 (.load none (.t 62)),rg 64 (.iad 1 (.t 54) (.t 55)),so (.store 1 (.t 64) (.t 63))]))
 (.reg [mv 52 8,rg 53 (.bin .add (.t 52) (.c (.i .i64 1))),mv 8 53])))
 (.norm false [0,3,4,6,7,8]))
def Zcm:AX:=
 (.pre (.norm false [0,3,4])
 (.seq
 (.reg [mv 24 3,mv 25 4,rg 26 (.app 1 (.c (.sl [] .nl)) (.t 25)),rg 27 (.bsl 1 [(.sl [] .nl)] 1 [(0,(.t 26))]),rg 28 (.app 1 (.t 24) (.t 27)),mv 3 28])
 (.seq
 (.seq
 (.reg [mv 29 0,rg 30 (.bin .sub (.t 29) (.c (.i .i64 1))),mv 6 30])
 (.lp 2 (.norm false [0,3,4,6]) l589_1 (.norm false [0,3,4,6])))
 (.seq
 (.seq
 (.reg [mv 42 6,rg 43 (.bin .lss (.t 42) (.c (.i .i64 1)))])
 (.cond (.t 43)
 (.seq
 (.reg [mv 44 3,mv 2 44])
 (.pre (.norm false [2]) .ret))
 .skip))
 (.seq
 (.reg [mv 45 4,mv 46 6,rg 47 (.call 605 [(.t 45),(.t 46)]),mv 7 47])
 (.seq
 (.seq
 (.reg [mv 48 6,mv 8 48])
 (.lp 4 (.norm false [0,3,4,6,7,8]) l589_2 (.norm false [0,3,4])))
 (.goto 0)))))))
def b589:AX:=
 (.seq
 (.reg [rg 2 (.mov (.c (.sl [] .nl)))])
 (.gsc 0
 (.seq
 (.seq
 (.reg [mv 9 0,rg 10 (.bin .lss (.t 9) (.c (.i .i64 1))),mv 11 10,gd 12 11 false (.mov (.t 0)),gd 13 11 false (.bin .gtr (.t 12) (.c (.i .i64 5))),rg 14 (.pick (.t 11) (.c (.b true)) (.t 13))])
 (.cond (.t 14)
 (.seq
 (.reg [rg 2 (.mov (.c (.sl [] .nl)))])
 (.pre (.norm false [2]) .ret))
 .skip))
 (.seq
 (.note (.reg [rg 3 (.mov (.c (.sl [] .nl)))]) (.nil 3 1))
 (.seq
 (.note (.reg [rg 4 (.mov (.c (.sl [] .nl)))]) (.nil 4 1))
 (.seq
 (.seq
 (.reg [mv 15 0,rg 16 (.mov (.c (.i .i64 0)))])
 (.lp 0 (.norm false [0,3,4,15,16]) l589_0 (.norm false [0,3,4])))
 (.seq
 (.reg [rg 6 (.mov (.c (.i .i64 0))),rg 7 (.mov (.c (.i .i64 0)))])
 (.seq (.label 0) Zcm))))))
 (.seq .skip Zcm)))
def l594_0:AX:=
 (.note
 (.seq
 (.seq
 (.reg [mv 13 3,mv 14 0,rg 15 (.len (.t 14)),rg 16 (.bin .lss (.t 13) (.t 15))])
 (.cond (.t 16)
 .skip
 (.exit 0)))
 (.seq
 (.block 1
 (.seq
 (.drawT [mv 19 0,mv 20 3,rg 21 (.iad 1 (.t 19) (.t 20)),rg 22 (.load none (.t 21)),rg 23 (.bin .lss (.t 22) (.c (.i .i64 1))),mv 24 23,gd 25 24 false (.mov (.t 0)),gd 26 24 false (.mov (.t 3)),gd 27 24 false (.iad 1 (.t 25) (.t 26)),gd 28 24 false (.load none (.t 27)),gd 29 24 false (.bin .sub (.t 28) (.c (.i .i64 1))),gd 30 24 false (.mov (.t 0)),gd 31 24 false (.mov (.t 3)),gd 32 24 false (.bin .sub (.t 31) (.c (.i .i64 1))),gd 33 24 false (.iad 1 (.t 30) (.t 32)),gd 34 24 false (.load none (.t 33))]
 [gd 35 24 false (.bin .gtr (.t 29) (.t 34)),rg 36 (.pick (.t 24) (.c (.b true)) (.t 35))])
 (.cond (.t 36)
 (.seq
 (.reg [rg 2 (.mov (.c (.b false)))])
 (.pre (.norm false [2]) .ret))
 .skip)))
 (.reg [mv 17 3,rg 18 (.bin .add (.t 17) (.c (.i .i64 1))),mv 3 18])))
 (.norm false [0,3]))
def b594:AX:=
 (.seq
 (.reg [rg 2 (.mov (.c (.b false)))])
 (.seq
 (.seq
 (.reg [mv 4 0,rg 5 (.len (.t 4)),rg 6 (.bin .eql (.t 5) (.c (.i .i64 0))),mv 7 6,gd 8 7 false (.mov (.t 0)),gd 9 7 false (.iad 1 (.t 8) (.c (.i .i64 0))),gd 10 7 false (.load none (.t 9)),gd 11 7 false (.bin .neq (.t 10) (.c (.i .i64 0))),rg 12 (.pick (.t 7) (.c (.b true)) (.t 11))])
 (.cond (.t 12)
 (.seq
 (.reg [rg 2 (.mov (.c (.b false)))])
 (.pre (.norm false [2]) .ret))
 .skip))
 (.seq
 (.seq
 (.reg [rg 3 (.mov (.c (.i .i64 1)))])
 (.lp 0 (.norm false [0,3]) l594_0 (.norm false [])))
 (.seq
 (.reg [rg 2 (.mov (.c (.b true)))])
 (.pre (.norm false [2]) .ret)))))
def l595_0:AX:=
 (.note
 (.seq
 (.seq
 (.reg [mv 15 5,rg 16 (.bin .geq (.t 15) (.c (.i .i64 0)))])
 (.cond (.t 16)
 .skip
 (.exit 0)))
 (.seq
 (.block 1
 (.seq
 (.reg [mv 19 3,mv 20 5,rg 21 (.iad 1 (.t 19) (.t 20)),rg 22 (.load none (.t 21)),rg 23 (.bin .add (.t 22) (.c (.i .i64 1))),rg 24 (.iad 1 (.t 19) (.t 20)),so (.store 1 (.t 24) (.t 23))])
 (.seq
 (.reg [mv 25 4,mv 26 3,mv 27 5,rg 28 (.iad 1 (.t 26) (.t 27)),rg 29 (.load none (.t 28)),rg 30 (.bin .mul (.t 25) (.t 29)),mv 4 30])
 (.seq
 (.reg [mv 31 5,rg 32 (.bin .gtr (.t 31) (.c (.i .i64 0)))])
 (.cond (.t 32)
 (.drawT [mv 33 3,mv 34 0,mv 35 5,rg 36 (.call 605 [(.t 34),(.t 35)]),rg 37 (.iad 1 (.t 33) (.t 36)),rg 38 (.load none (.t 37)),mv 39 3,mv 40 5,rg 41 (.iad 1 (.t 39) (.t 40)),rg 42 (.load none (.t 41))]
 [rg 43 (.bin .add (.t 38) (.t 42)),rg 44 (.iad 1 (.t 33) (.t 36)),so (.store 1 (.t 44) (.t 43))])
 .skip)))))
 (.reg [mv 17 5,rg 18 (.bin .sub (.t 17) (.c (.i .i64 1))),mv 5 18])))
 (.norm false [0,3,4,5]))
def b595:AX:=
 (.seq
 (.reg [rg 2 (.mov (.c (.i .i64 0)))])
 (.seq
 (.seq
 (.reg [mv 6 0,rg 7 (.call 607 [(.t 6)]),rg 8 (.un .not (.t 7))])
 (.cond (.t 8)
 (.seq
 (.reg [rg 2 (.mov (.c (.i .i64 0)))])
 (.pre (.norm false [2]) .ret))
 .skip))
 (.seq
 (.reg [mv 9 0,rg 10 (.len (.t 9)),rg 11 (.mks 1 [(.i .i64 0)] (.t 10) (.t 10)),mv 3 11])
 (.seq
 (.reg [rg 4 (.mov (.c (.i .i64 1)))])
 (.seq
 (.seq
 (.reg [mv 12 0,rg 13 (.len (.t 12)),rg 14 (.bin .sub (.t 13) (.c (.i .i64 1))),mv 5 14])
 (.lp 0 (.norm false [0,3,4,5]) l595_0 (.norm false [4])))
 (.seq
 (.reg [mv 45 4,mv 2 45])
 (.pre (.norm false [2]) .ret)))))))
def l605_0:AX:=
 (.note
 (.seq
 (.seq
 (.drawT [mv 8 0,mv 9 5,rg 10 (.iad 1 (.t 8) (.t 9)),rg 11 (.load none (.t 10)),mv 12 0,mv 13 1,rg 14 (.iad 1 (.t 12) (.t 13)),rg 15 (.load none (.t 14)),rg 16 (.bin .sub (.t 15) (.c (.i .i64 1)))]
 [rg 17 (.bin .neq (.t 11) (.t 16))])
 (.cond (.t 17)
 .skip
 (.exit 0)))
 (.block 1
 (.reg [mv 18 5,rg 19 (.bin .sub (.t 18) (.c (.i .i64 1))),mv 5 19])))
 (.norm false [0,1,5]))
def b605:AX:=
 (.seq
 (.reg [rg 4 (.mov (.c (.i .i64 0)))])
 (.seq
 (.reg [mv 6 1,rg 7 (.bin .sub (.t 6) (.c (.i .i64 1))),mv 5 7])
 (.seq
 (.lp 0 (.norm false [0,1,5]) l605_0 (.norm false [5]))
 (.seq
 (.reg [mv 20 5,mv 4 20])
 (.pre (.norm false [4]) .ret)))))
def b607:AX:=
 (.seq
 (.reg [rg 2 (.mov (.c (.b false)))])
 (.seq
 (.reg [mv 3 0,rg 4 (.len (.t 3)),rg 5 (.bin .leq (.t 4) (.c (.i .i64 8))),mv 6 5,gd 7 6 true (.mov (.t 0)),gd 8 6 true (.call 594 [(.t 7)]),rg 9 (.pick (.t 6) (.t 8) (.c (.b false))),mv 2 9])
 (.pre (.norm false [2]) .ret)))
def row589:AFx:=⟨1,65,[.t 2],b589,none,false⟩
def row594:AFx:=⟨1,37,[.t 2],b594,none,false⟩
def row595:AFx:=⟨1,46,[.t 2],b595,none,false⟩
def row605:AFx:=⟨2,21,[.t 4],b605,none,false⟩
def row607:AFx:=⟨1,10,[.t 2],b607,none,false⟩
class Z9 (T:Tbl):Prop where
 h589:T 589=some row589
 h594:T 594=some row594
 h595:T 595=some row595
 h605:T 605=some row605
 h607:T 607=some row607
section
variable{T:Tbl}[Z9 T]{d:Option Nat}{st:St}{xs:List AV}{ps:List Opd}{e:Env}{h:Heap}{ol:List Heap}
@[simp] theorem x589:Zd (orc T) T 589 xs d st=cP T 589 false xs d st:=zaa Z9.h589
@[simp] theorem x594:Zd (orc T) T 594 xs d st=cP T 594 false xs d st:=zaa Z9.h594
@[simp] theorem x595:Zd (orc T) T 595 xs d st=cP T 595 false xs d st:=zaa Z9.h595
@[simp] theorem y595:opD (orc T) T (.call 595 ps) e h ol=dP T 595 false ps e:=zao Z9.h595
@[simp] theorem x605:Zd (orc T) T 605 xs d st=cP T 605 false xs d st:=zaa Z9.h605
@[simp] theorem y605:opD (orc T) T (.call 605 ps) e h ol=dP T 605 false ps e:=zao Z9.h605
@[simp] theorem x607:Zd (orc T) T 607 xs d st=cP T 607 false xs d st:=zaa Z9.h607
end
def b604:AX:=
 (.seq
 (.reg [rg 1 (.xop (.box 5) [(.t 0)]),rg 2 (.mov (.c (.i .i64 0))),rg 3 (.mov (.c (.i .i64 0)))])
 (.seq
 (.drawT [rg 4 (.load (some 5) (.t 1)),rg 5 (.fad 3 (.t 1)),rg 6 (.load none (.t 5)),rg 7 (.call 611 [(.t 4),(.t 6)]),rg 8 (.load (some 5) (.t 1)),rg 9 (.fad 4 (.t 1)),rg 10 (.load none (.t 9))]
 [rg 11 (.call 611 [(.t 8),(.t 10)]),mv 2 7,mv 3 11])
 (.pre (.norm false [2,3]) .ret)))
def l611_0:AX:=
 (.note
 (.seq
 (.seq
 (.reg [mv 6 5,rg 7 (.bin .lss (.t 6) (.c (.i .i64 5))),mv 8 7,gd 9 8 true (.load (some 5) (.t 2)),gd 10 8 true (.mov (.t 1)),gd 11 8 true (.mov (.t 5)),gd 12 8 true (.bin .add (.t 11) (.c (.i .i64 1))),gd 13 8 true (.call 613 [(.t 9),(.t 10),(.t 12)]),rg 14 (.pick (.t 8) (.t 13) (.c (.b false)))])
 (.cond (.t 14)
 .skip
 (.exit 0)))
 (.block 1
 (.reg [mv 15 5,rg 16 (.bin .add (.t 15) (.c (.i .i64 1))),mv 5 16])))
 (.norm false [1,2,5]))
def b611:AX:=
 (.seq
 (.reg [rg 2 (.xop (.box 5) [(.t 0)]),rg 4 (.mov (.c (.i .i64 0)))])
 (.seq
 (.reg [rg 5 (.mov (.c (.i .i64 0)))])
 (.seq
 (.lp 0 (.norm false [1,2,5]) l611_0 (.norm false [5]))
 (.seq
 (.reg [mv 17 5,mv 4 17])
 (.pre (.norm false [4]) .ret)))))
def l613_0:AX:=
 (.note
 (.seq
 (.reg [rg 15 (.bin .lss (.t 14) (.t 13))])
 (.seq
 (.cond (.t 15)
 .skip
 (.exit 0))
 (.seq
 (.block 1
 (.seq
 (.reg [rg 16 (.iad 1 (.t 12) (.t 14)),rg 17 (.load none (.t 16)),mv 8 17])
 (.seq
 (.reg [rg 19 (.load (some 5) (.t 3)),mv 20 1,mv 21 8,rg 22 (.call 617 [(.t 19),(.t 20),(.t 21)]),mv 18 22,rg 23 (.ext (.t 18) 0),rg 24 (.ext (.t 18) 1),rg 9 (.alloc [(.b false),(.sl [] .nl),(.sl [] .nl)]),so (.store 3 (.t 9) (.t 23)),mv 10 24])
 (.seq
 (.drawT [mv 25 10,rg 26 (.un .not (.t 25)),mv 27 26,gd 28 27 false (.load (some 3) (.t 9)),gd 29 27 false (.mov (.t 8)),gd 30 27 false (.call 595 [(.t 29)]),gd 31 27 false (.call 205 [(.t 30)])]
 [gd 32 27 false (.call 217 [(.t 28),(.t 31)]),gd 33 27 false (.call 205 [(.c (.i .i64 1))]),gd 34 27 false (.call 212 [(.t 32),(.t 33)]),gd 35 27 false (.un .not (.t 34)),rg 36 (.pick (.t 27) (.c (.b true)) (.t 35))])
 (.cond (.t 36)
 (.seq
 (.reg [rg 6 (.mov (.c (.b false)))])
 (.pre (.norm false [6]) .ret))
 .skip)))))
 (.reg [rg 37 (.bin .add (.t 14) (.c (.i .i64 1))),mv 14 37]))))
 (.norm false [1,3,12,13,14]))
def b613:AX:=
 (.seq
 (.reg [rg 3 (.xop (.box 5) [(.t 0)]),rg 6 (.mov (.c (.b false)))])
 (.seq
 (.seq
 (.reg [mv 11 2,rg 12 (.call 589 [(.t 11)]),rg 13 (.len (.t 12)),rg 14 (.mov (.c (.i .i64 0)))])
 (.lp 0 (.norm false [1,3,12,13,14]) l613_0 (.norm false [])))
 (.seq
 (.reg [rg 6 (.mov (.c (.b true)))])
 (.pre (.norm false [6]) .ret))))
def l617_0:AX:=
 (.note
 (.seq
 (.reg [rg 47 (.bin .lss (.t 46) (.t 45))])
 (.seq
 (.cond (.t 47)
 .skip
 (.exit 2))
 (.seq
 (.block 3
 (.draw [⟨mv 48 9,0,1⟩,⟨mv 49 10,0,1⟩,⟨mv 50 9,0,0⟩,⟨mv 51 10,0,0⟩,⟨rg 52 (.iad 1 (.t 50) (.t 51)),0,0⟩,⟨rg 53 (.load none (.t 52)),0,0⟩,⟨rg 54 (.call 205 [(.c (.i .i64 1))]),0,0⟩,⟨rg 55 (.bsl 3 [(.b false),(.sl [] .nl),(.sl [] .nl)] 1 [(0,(.t 54))]),0,0⟩,⟨rg 56 (.app 3 (.t 53) (.t 55)),0,1⟩,⟨rg 57 (.iad 1 (.t 48) (.t 49)),1,1⟩,⟨so (.store 1 (.t 57) (.t 56)),1,2⟩]))
 (.reg [rg 58 (.bin .add (.t 46) (.c (.i .i64 1))),mv 46 58]))))
 (.trm [1,2,3,6,8,9,10,39,40,45,46]))
def l617_1:AX:=
 (.note
 (.seq
 (.reg [rg 41 (.bin .lss (.t 40) (.t 39))])
 (.seq
 (.cond (.t 41)
 .skip
 (.exit 0))
 (.seq
 (.block 1
 (.seq
 (.reg [mv 42 40,mv 10 42])
 (.seq
 (.reg [rg 43 (.fad 3 (.t 3)),rg 44 (.load none (.t 43)),rg 45 (.len (.t 44)),rg 46 (.mov (.c (.i .i64 0)))])
 (.pre (.opn 9 10 3) (.lp 2 (.trm [1,2,3,6,8,9,10,39,40,45,46]) l617_0 (.trm [1,2,3,6,8,9,39,40]))))))
 (.reg [rg 59 (.bin .add (.t 40) (.c (.i .i64 1))),mv 40 59]))))
 (.trm [1,2,3,6,8,9,39,40]))
def l617_2:AX:=
 (.note
 (.seq
 (.reg [rg 81 (.bin .lss (.t 80) (.t 79))])
 (.seq
 (.cond (.t 81)
 .skip
 (.exit 6))
 (.seq
 (.block 7
 (.seq
 (.reg [mv 82 80,rg 83 (.iad 3 (.t 78) (.t 80)),rg 84 (.load (some 3) (.t 83)),rg 14 (.alloc [(.b false),(.sl [] .nl),(.sl [] .nl)]),mv 13 82,so (.store 3 (.t 14) (.t 84))])
 (.drawT [mv 85 12,mv 86 13,mv 87 12,mv 88 13,rg 89 (.iad 3 (.t 87) (.t 88)),rg 90 (.load (some 3) (.t 89)),rg 91 (.load (some 3) (.t 14)),rg 92 (.call 217 [(.t 90),(.t 91)])]
 [rg 93 (.iad 3 (.t 85) (.t 86)),so (.store 3 (.t 93) (.t 92))])))
 (.reg [rg 94 (.bin .add (.t 80) (.c (.i .i64 1))),mv 80 94]))))
 (.trm [1,2,3,6,8,9,11,12,78,79,80]))
def l617_3:AX:=
 (.note
 (.seq
 (.seq
 (.reg [mv 63 11,rg 64 (.bin .gtr (.t 63) (.c (.i .i64 0)))])
 (.cond (.t 64)
 .skip
 (.exit 4)))
 (.seq
 (.block 5
 (.seq
 (.reg [mv 67 9,mv 68 2,mv 69 11,rg 70 (.call 605 [(.t 68),(.t 69)]),rg 71 (.iad 1 (.t 67) (.t 70)),rg 72 (.load none (.t 71)),mv 12 72])
 (.seq
 (.pre (.shi 9 11) (.draw [⟨rg 73 (.load (some 5) (.t 3)),0,0⟩,⟨mv 74 9,0,0⟩,⟨mv 75 11,0,0⟩,⟨rg 76 (.iad 1 (.t 74) (.t 75)),0,0⟩,⟨rg 77 (.load none (.t 76)),0,0⟩,⟨rg 78 (.call 622 [(.t 73),(.t 77)]),0,0⟩,⟨rg 79 (.len (.t 78)),0,0⟩,⟨rg 80 (.mov (.c (.i .i64 0))),0,0⟩]))
 (.lp 6 (.trm [1,2,3,6,8,9,11,12,78,79,80]) l617_2 (.trm [1,2,3,6,8,9,11])))))
 (.reg [mv 65 11,rg 66 (.bin .sub (.t 65) (.c (.i .i64 1))),mv 11 66])))
 (.trm [1,2,3,6,8,9,11]))
def l617_4:AX:=
 (.note
 (.seq
 (.reg [rg 98 (.bin .lss (.t 97) (.t 96))])
 (.seq
 (.cond (.t 98)
 .skip
 (.exit 8))
 (.seq
 (.block 9
 (.seq
 (.reg [mv 99 97,rg 100 (.iad 3 (.t 95) (.t 97)),rg 101 (.load (some 3) (.t 100)),rg 16 (.alloc [(.b false),(.sl [] .nl),(.sl [] .nl)]),mv 15 99,so (.store 3 (.t 16) (.t 101))])
 (.drawT [rg 102 (.load (some 3) (.t 8)),rg 103 (.load (some 3) (.t 16)),mv 104 9,rg 105 (.iad 1 (.t 104) (.c (.i .i64 0))),rg 106 (.load none (.t 105)),mv 107 15,rg 108 (.iad 3 (.t 106) (.t 107)),rg 109 (.load (some 3) (.t 108)),rg 110 (.call 217 [(.t 103),(.t 109)])]
 [rg 111 (.call 215 [(.t 102),(.t 110)]),so (.store 3 (.t 8) (.t 111))])))
 (.reg [rg 112 (.bin .add (.t 97) (.c (.i .i64 1))),mv 97 112]))))
 (.trm [6,8,9,95,96,97]))
def b617:AX:=
 (.seq
 (.reg [rg 3 (.xop (.box 5) [(.t 0)]),rg 6 (.alloc [(.b false),(.sl [] .nl),(.sl [] .nl)]),rg 7 (.mov (.c (.b false)))])
 (.seq
 (.reg [rg 17 (.call 205 [(.c (.i .i64 0))]),rg 8 (.alloc [(.b false),(.sl [] .nl),(.sl [] .nl)]),so (.store 3 (.t 8) (.t 17))])
 (.seq
 (.seq
 (.reg [rg 18 (.load (some 5) (.t 3)),rg 19 (.call 536 [(.t 18)]),rg 20 (.un .not (.t 19)),mv 21 20,gd 22 21 false (.mov (.t 1)),gd 23 21 false (.len (.t 22)),gd 24 21 false (.fad 3 (.t 3)),gd 25 21 false (.load none (.t 24)),gd 26 21 false (.len (.t 25)),gd 27 21 false (.bin .neq (.t 23) (.t 26)),rg 28 (.pick (.t 21) (.c (.b true)) (.t 27)),mv 29 28,gd 30 29 false (.mov (.t 2)),gd 31 29 false (.call 607 [(.t 30)]),gd 32 29 false (.un .not (.t 31)),rg 33 (.pick (.t 29) (.c (.b true)) (.t 32))])
 (.cond (.t 33)
 (.seq
 (.reg [rg 34 (.load (some 3) (.t 8)),so (.store 3 (.t 6) (.t 34)),rg 7 (.mov (.c (.b false)))])
 (.pre (.norm false [6,7]) .ret))
 .skip))
 (.seq
 (.reg [mv 35 2,rg 36 (.len (.t 35)),rg 37 (.mks 1 [(.sl [] .nl)] (.t 36) (.t 36)),mv 9 37])
 (.seq
 (.seq
 (.reg [mv 38 9,rg 39 (.len (.t 38)),rg 40 (.mov (.c (.i .i64 0)))])
 (.lp 0 (.trm [1,2,3,6,8,9,39,40]) l617_1 (.trm [1,2,3,6,8,9])))
 (.seq
 (.seq
 (.reg [mv 60 2,rg 61 (.len (.t 60)),rg 62 (.bin .sub (.t 61) (.c (.i .i64 1))),mv 11 62])
 (.lp 4 (.trm [1,2,3,6,8,9,11]) l617_3 (.trm [1,6,8,9])))
 (.seq
 (.seq
 (.reg [mv 95 1,rg 96 (.len (.t 95)),rg 97 (.mov (.c (.i .i64 0)))])
 (.lp 8 (.trm [6,8,9,95,96,97]) l617_4 (.trm [6,8])))
 (.seq
 (.reg [rg 113 (.load (some 3) (.t 8)),so (.store 3 (.t 6) (.t 113)),rg 7 (.mov (.c (.b true)))])
 (.pre (.norm false [6,7]) .ret)))))))))
def l622_0:AX:=
 (.note
 (.seq
 (.reg [rg 22 (.bin .lss (.t 21) (.t 20))])
 (.seq
 (.cond (.t 22)
 .skip
 (.exit 2))
 (.seq
 (.block 3
 (.seq
 (.reg [mv 23 21,rg 24 (.iad 3 (.t 19) (.t 21)),rg 25 (.load (some 3) (.t 24)),rg 10 (.alloc [(.b false),(.sl [] .nl),(.sl [] .nl)]),mv 9 23,so (.store 3 (.t 10) (.t 25))])
 (.drawT [rg 26 (.load (some 3) (.t 8)),rg 27 (.load (some 3) (.t 10)),mv 28 1,mv 29 9,rg 30 (.iad 3 (.t 28) (.t 29)),rg 31 (.load (some 3) (.t 30)),rg 32 (.call 217 [(.t 27),(.t 31)])]
 [rg 33 (.call 215 [(.t 26),(.t 32)]),so (.store 3 (.t 8) (.t 33))])))
 (.reg [rg 34 (.bin .add (.t 21) (.c (.i .i64 1))),mv 21 34]))))
 (.norm false [1,5,8,12,13,14,19,20,21]))
def l622_1:AX:=
 (.note
 (.seq
 (.reg [rg 15 (.bin .lss (.t 14) (.t 13))])
 (.seq
 (.cond (.t 15)
 .skip
 (.exit 0))
 (.seq
 (.block 1
 (.seq
 (.reg [rg 16 (.iad 1 (.t 12) (.t 14)),rg 17 (.load none (.t 16)),mv 7 17])
 (.seq
 (.reg [rg 18 (.call 205 [(.c (.i .i64 0))]),rg 8 (.alloc [(.b false),(.sl [] .nl),(.sl [] .nl)]),so (.store 3 (.t 8) (.t 18))])
 (.seq
 (.seq
 (.reg [mv 19 7,rg 20 (.len (.t 19)),rg 21 (.mov (.c (.i .i64 0)))])
 (.lp 2 (.norm false [1,5,8,12,13,14,19,20,21]) l622_0 (.norm false [1,5,8,12,13,14])))
 (.reg [mv 35 5,rg 36 (.load (some 3) (.t 8)),rg 37 (.bsl 3 [(.b false),(.sl [] .nl),(.sl [] .nl)] 1 [(0,(.t 36))]),rg 38 (.app 3 (.t 35) (.t 37)),mv 5 38])))))
 (.reg [rg 39 (.bin .add (.t 14) (.c (.i .i64 1))),mv 14 39]))))
 (.norm false [1,5,12,13,14]))
def b622:AX:=
 (.seq
 (.reg [rg 2 (.xop (.box 5) [(.t 0)]),rg 4 (.mov (.c (.sl [] .nl)))])
 (.seq
 (.note (.reg [rg 5 (.mov (.c (.sl [] .nl)))]) (.nil 5 3))
 (.seq
 (.seq
 (.reg [rg 11 (.fad 2 (.t 2)),rg 12 (.load none (.t 11)),rg 13 (.len (.t 12)),rg 14 (.mov (.c (.i .i64 0)))])
 (.lp 0 (.norm false [1,5,12,13,14]) l622_1 (.norm false [5])))
 (.seq
 (.reg [mv 40 5,mv 4 40])
 (.pre (.norm false [4]) .ret)))))
def row604:AFx:=⟨1,12,[.t 2,.t 3],b604,none,false⟩
def row611:AFx:=⟨2,18,[.t 4],b611,none,false⟩
def row613:AFx:=⟨3,38,[.t 6],b613,none,false⟩
def row617:AFx:=⟨3,114,[.cell 6 (some 3),.t 7],b617,none,false⟩
def row622:AFx:=⟨2,41,[.t 4],b622,none,false⟩
class Z7 (T:Tbl):Prop where
 h604:T 604=some row604
 h611:T 611=some row611
 h613:T 613=some row613
 h617:T 617=some row617
 h622:T 622=some row622
section
variable{T:Tbl}[Z7 T]{d:Option Nat}{st:St}{xs:List AV}{ps:List Opd}{e:Env}{h:Heap}{ol:List Heap}
@[simp] theorem x604:Zd (orc T) T 604 xs d st=cP T 604 false xs d st:=zaa Z7.h604
@[simp] theorem x611:Zd (orc T) T 611 xs d st=cP T 611 false xs d st:=zaa Z7.h611
@[simp] theorem y611:opD (orc T) T (.call 611 ps) e h ol=dP T 611 false ps e:=zao Z7.h611
@[simp] theorem x613:Zd (orc T) T 613 xs d st=cP T 613 false xs d st:=zaa Z7.h613
@[simp] theorem x617:Zd (orc T) T 617 xs d st=cP T 617 false xs d st:=zaa Z7.h617
end
class Ze7 (T:Tbl):Prop where
class Zfh (T:Tbl):Prop where
def b588:AX:=
 (.seq
 (.reg [rg 0 (.mov (.c (.b false)))])
 (.seq
 (.reg [rg 6 (.call 603 [(.c (.s [104,101,117,110]))]),mv 5 6,rg 7 (.ext (.t 5) 0),rg 8 (.ext (.t 5) 1),rg 1 (.alloc [(.s []),(.sl [] .nl),(.sl [] .nl),(.sl [] .nl),(.sl [] .nl)]),so (.store 5 (.t 1) (.t 7)),mv 2 8])
 (.seq
 (.reg [rg 10 (.load (some 5) (.t 1)),rg 11 (.call 604 [(.t 10)]),mv 9 11,rg 12 (.ext (.t 9) 0),rg 13 (.ext (.t 9) 1),mv 3 12,mv 4 13])
 (.seq
 (.reg [mv 14 2,mv 15 14,gd 16 15 true (.call 589 [(.c (.i .i64 3))]),gd 17 15 true (.len (.t 16)),gd 18 15 true (.bin .eql (.t 17) (.c (.i .i64 2))),rg 19 (.pick (.t 15) (.t 18) (.c (.b false))),mv 20 19,gd 21 20 true (.bsl 1 [(.i .i64 0)] 3 [(0,(.c (.i .i64 0))),(1,(.c (.i .i64 1))),(2,(.c (.i .i64 2)))]),gd 22 20 true (.call 595 [(.t 21)]),gd 23 20 true (.bin .eql (.t 22) (.c (.i .i64 6))),rg 24 (.pick (.t 20) (.t 23) (.c (.b false))),mv 25 24,gd 26 25 true (.mov (.t 3)),gd 27 25 true (.bin .eql (.t 26) (.c (.i .i64 2))),rg 28 (.pick (.t 25) (.t 27) (.c (.b false))),mv 29 28,gd 30 29 true (.mov (.t 4)),gd 31 29 true (.bin .eql (.t 30) (.c (.i .i64 1))),rg 32 (.pick (.t 29) (.t 31) (.c (.b false))),mv 0 32])
 (.pre (.norm false [0]) .ret)))))
def row588:AFx:=⟨0,33,[.t 0],b588,none,false⟩
class Zfv (T:Tbl):Prop where
 h588:T 588=some row588
section
variable{T:Tbl}[Zfv T]{d:Option Nat}{st:St}{xs:List AV}{ps:List Opd}{e:Env}{h:Heap}{ol:List Heap}
@[simp] theorem x588:Zd (orc T) T 588 xs d st=cP T 588 false xs d st:=zaa Zfv.h588
end
def b640:AX:=
 (.seq
 (.reg [rg 4 (.xop (.box 5) [(.t 0)]),rg 5 (.xop (.box 2) [(.t 1)]),rg 7 (.xop (.box 3) [(.t 3)]),rg 8 (.mov (.c (.b false)))])
 (.seq
 (.seq
 (.reg [rg 23 (.load (some 5) (.t 4)),rg 24 (.call 515 [(.t 23),(.c (.i .i64 4)),(.c (.i .i64 2))]),mv 25 24,gd 26 25 false (.iaa 1 2 (.t 5) (.c (.i .i64 0))),gd 27 25 false (.load none (.t 26)),gd 28 25 false (.call 286 [(.t 27),(.c (.i .i64 6)),(.c (.i .i64 2))]),rg 29 (.pick (.t 25) (.c (.b true)) (.t 28)),mv 30 29,gd 31 30 false (.iaa 1 2 (.t 5) (.c (.i .i64 1))),gd 32 30 false (.load none (.t 31)),gd 33 30 false (.call 286 [(.t 32),(.c (.i .i64 6)),(.c (.i .i64 2))]),rg 34 (.pick (.t 30) (.c (.b true)) (.t 33)),mv 35 34,gd 36 35 false (.mov (.t 2)),gd 37 35 false (.len (.t 36)),gd 38 35 false (.bin .gtr (.t 37) (.c (.i .i64 8))),rg 39 (.pick (.t 35) (.c (.b true)) (.t 38)),mv 40 39,gd 41 40 false (.load (some 3) (.t 7)),gd 42 40 false (.call 247 [(.t 41),(.c (.i .i64 2))]),rg 43 (.pick (.t 40) (.c (.b true)) (.t 42))])
 (.cond (.t 43)
 (.seq
 (.reg [rg 44 (.call 588 []),mv 8 44])
 (.pre (.norm false [8]) .ret))
 .skip))
 (.seq
 (.reg [rg 45 (.load (some 5) (.t 4)),rg 46 (.call 527 [(.t 45)]),rg 9 (.alloc [(.s []),(.sl [] .nl),(.sl [] .nl),(.sl [] .nl),(.sl [] .nl)]),so (.store 5 (.t 9) (.t 46))])
 (.seq
 (.reg [rg 47 (.iaa 1 2 (.t 5) (.c (.i .i64 0))),rg 48 (.load none (.t 47)),rg 49 (.call 287 [(.t 48)]),mv 10 49])
 (.seq
 (.reg [rg 50 (.iaa 1 2 (.t 5) (.c (.i .i64 1))),rg 51 (.load none (.t 50)),rg 52 (.call 287 [(.t 51)]),mv 11 52])
 (.seq
 (.reg [rg 53 (.load (some 3) (.t 7)),rg 54 (.call 248 [(.t 53)]),rg 12 (.alloc [(.b false),(.sl [] .nl),(.sl [] .nl)]),so (.store 3 (.t 12) (.t 54))])
 (.seq
 (.reg [rg 56 (.load (some 3) (.t 12)),mv 57 10,rg 58 (.call 269 [(.t 56),(.t 57)]),mv 59 11,rg 60 (.bsl 1 [(.sl [] .nl)] 2 [(0,(.t 58)),(1,(.t 59))]),rg 61 (.call 267 [(.t 60)]),mv 55 61,rg 62 (.ext (.t 55) 0),rg 63 (.ext (.t 55) 1),mv 13 62,mv 14 63])
 (.seq
 (.reg [rg 65 (.load (some 5) (.t 9)),mv 66 10,mv 67 2,rg 68 (.call 617 [(.t 65),(.t 66),(.t 67)]),mv 64 68,rg 69 (.ext (.t 64) 0),rg 70 (.ext (.t 64) 1),rg 15 (.alloc [(.b false),(.sl [] .nl),(.sl [] .nl)]),so (.store 3 (.t 15) (.t 69)),mv 16 70])
 (.seq
 (.reg [rg 72 (.load (some 5) (.t 9)),mv 73 11,mv 74 2,rg 75 (.call 617 [(.t 72),(.t 73),(.t 74)]),mv 71 75,rg 76 (.ext (.t 71) 0),rg 77 (.ext (.t 71) 1),rg 17 (.alloc [(.b false),(.sl [] .nl),(.sl [] .nl)]),so (.store 3 (.t 17) (.t 76)),mv 18 77])
 (.seq
 (.seq
 (.reg [mv 78 16,rg 79 (.un .not (.t 78)),mv 80 79,gd 81 80 false (.mov (.t 18)),gd 82 80 false (.un .not (.t 81)),rg 83 (.pick (.t 80) (.c (.b true)) (.t 82)),mv 84 83,gd 85 84 false (.mov (.t 14)),gd 86 84 false (.un .not (.t 85)),rg 87 (.pick (.t 84) (.c (.b true)) (.t 86))])
 (.cond (.t 87)
 (.seq
 (.reg [rg 88 (.call 588 []),mv 8 88])
 (.pre (.norm false [8]) .ret))
 .skip))
 (.seq
 (.reg [rg 90 (.load (some 5) (.t 9)),mv 91 13,mv 92 2,rg 93 (.call 617 [(.t 90),(.t 91),(.t 92)]),mv 89 93,rg 94 (.ext (.t 89) 0),rg 95 (.ext (.t 89) 1),rg 19 (.alloc [(.b false),(.sl [] .nl),(.sl [] .nl)]),so (.store 3 (.t 19) (.t 94)),mv 20 95])
 (.seq
 (.reg [rg 97 (.load (some 5) (.t 9)),rg 98 (.fad 3 (.t 9)),rg 99 (.load none (.t 98)),rg 100 (.bsl 1 [(.i .i64 0)] 1 [(0,(.c (.i .i64 0)))]),rg 101 (.call 617 [(.t 97),(.t 99),(.t 100)]),mv 96 101,rg 102 (.ext (.t 96) 0),rg 103 (.ext (.t 96) 1),rg 21 (.alloc [(.b false),(.sl [] .nl),(.sl [] .nl)]),so (.store 3 (.t 21) (.t 102)),mv 22 103])
 (.seq
 (.drawT [mv 104 20,mv 105 104,gd 106 105 true (.mov (.t 22)),rg 107 (.pick (.t 105) (.t 106) (.c (.b false))),mv 108 107,gd 109 108 true (.load (some 3) (.t 19)),gd 110 108 true (.load (some 3) (.t 12)),gd 111 108 true (.load (some 3) (.t 15)),gd 112 108 true (.call 217 [(.t 110),(.t 111)]),gd 113 108 true (.load (some 3) (.t 17)),gd 114 108 true (.call 215 [(.t 112),(.t 113)]),gd 115 108 true (.call 212 [(.t 109),(.t 114)]),rg 116 (.pick (.t 108) (.t 115) (.c (.b false))),mv 117 116,gd 118 117 true (.load (some 3) (.t 21)),gd 119 117 true (.call 205 [(.c (.i .i64 1))])]
 [gd 120 117 true (.call 212 [(.t 118),(.t 119)]),rg 121 (.pick (.t 117) (.t 120) (.c (.b false))),mv 122 121,gd 123 122 true (.call 588 []),rg 124 (.pick (.t 122) (.t 123) (.c (.b false))),mv 8 124])
 (.pre (.norm false [8]) .ret))))))))))))))
def row640:AFx:=⟨4,125,[.t 8],b640,none,false⟩
class Zdy (T:Tbl):Prop where
 h640:T 640=some row640
section
variable{T:Tbl}[Zdy T]{d:Option Nat}{st:St}{xs:List AV}{ps:List Opd}{e:Env}{h:Heap}{ol:List Heap}
end
section
open Go.RowKit
def opU:AOp→List Nat
 | .call u _=>[u]
 | .ifc k _=>[1000000+k]
 | .inv _ k u _ _=>[1000000+k,u]
 | .xop (.mkf k) _ | .xop (.mkv k) _=>[1000000+k]
 | _=>[]
def cXs:AX→List Nat
 | .reg l=>l.flatMap fun o=>opU o.op
 | .draw l=>l.flatMap fun o=>opU o.ao.op
 | .drawT hd tl=>(hd.flatMap fun o=>opU o.op)++tl.flatMap fun o=>opU o.op
 | .drawM hd tl=>(hd.flatMap fun o=>opU o.op)++tl.flatMap fun o=>opU o.op
 | .seq a b=>cXs a++cXs b
 | .cond _ x y=>cXs x++cXs y
 | .block _ c | .loop c | .note c _ | .pre _ c | .scope c | .lp _ _ c _=>cXs c
 | .gsc _ c r=>cXs c++cXs r
 | _=>[]
structure Agr (R:Nat→Bool) (T T':Tbl) (O O':Orc):Prop where
 tbl:∀u,R u=true→T u=T' u
 call:∀u xs hb,R u=true→O.call u xs hb=O'.call u xs hb
 loop:∀k c st,(∀u∈cXs c,R u=true)→O.loop k c st=O'.loop k c st
section
variable{R:Nat→Bool}{T T':Tbl}{O O':Orc}
theorem zke(h:Agr R T T' O O'){u:Nat}(hu:R u=true){xs:List AV}{d:Option Nat}{st:St}:Zd O T u xs d st=Zd O' T' u xs d st:=by
 unfold Zd;rw[h.tbl u hu];simp only[h.call u _ _ hu]
theorem zx8(h:Agr R T T' O O'){op:AOp}(hu:∀u∈opU op,R u=true){d:Option Nat}{st:St}:opX O T op d st=opX O' T' op d st:=by
 cases op<;>simp only[opX]
 case call u args=>exact zke h (hu _ (by simp[opU]))
 case ifc k x=>unfold Zu;rw[h.tbl _ (hu _ (by simp[opU]))]
 case inv nm k u r args=>
  have e1:Zu T k=Zu T' k:=by unfold Zu;rw[h.tbl _ (hu _ (by simp[opU]))]
  have e2:Zb9 T k=Zb9 T' k:=by unfold Zb9;rw[h.tbl _ (hu _ (by simp[opU]))]
  have e3:Zg8 T k=Zg8 T' k:=by unfold Zg8;rw[h.tbl _ (hu _ (by simp[opU]))]
  grind[zke,opU]
 case xop k xs=>
  cases k<;>simp only
  all_goals rename_i k
  all_goals
   have e1:Zu T k=Zu T' k:=by unfold Zu;rw[h.tbl _ (hu _ (by simp[opU]))]
   rw[e1]
theorem zrs(h:Agr R T T' O O'){o:AO}(hu:∀u∈opU o.op,R u=true){st:St}:Zf7 O T o st=Zf7 O' T' o st:=by
 unfold Zf7 gX;simp only[zx8 h hu]
theorem zf1(h:Agr R T T' O O'):∀(l:List AO),(∀o∈l,∀u∈opU o.op,R u=true)→∀st,Zd6 O T l st=Zd6 O' T' l st
 | [],_,st=>rfl
 | o::l,hu,st=>by
  simp only[Zd6];rw[zrs h (hu o Y2)];congr 1
  funext s
  exact zf1 h l (fun o ho=>hu o (Ym _ ho)) s
theorem zx9(h:Agr R T T' O O'){op:AOp}(hu:∀u∈opU op,R u=true){e:Env}{hp:Heap}{older:List Heap}:opD O T op e hp older=opD O' T' op e hp older:=by
 by_cases hap:∃z x0 y,op=.app z x0 y
 ·obtain⟨z,x0,y,rfl⟩:=hap;by_cases hc:x0=.c (.sl [] .nl)
  ·subst hc;rfl
  ·rw[zmd hc,zmd hc]
 cases op<;>(try exact absurd ⟨_,_,_,rfl⟩ hap)<;>simp only[opD]
 case call u args=>
  rw[h.tbl _ (hu _ (by simp[opU]))];simp only[h.call _ _ _ (hu _ (show u∈_ by simp[opU]))]
 case ifc k x=>unfold Zu;rw[h.tbl _ (hu _ (by simp[opU]))]
 case inv nm k u r args=>
  have e1:Zu T k=Zu T' k:=by unfold Zu;rw[h.tbl _ (hu _ (by simp[opU]))]
  have e2:Zb9 T k=Zb9 T' k:=by unfold Zb9;rw[h.tbl _ (hu _ (by simp[opU]))]
  rw[e1,e2,h.tbl u (hu u (by simp[opU]))];simp only[h.call u _ _ (hu u (by simp[opU]))]
theorem zrt(h:Agr R T T' O O'){o:AO}(hu:∀u∈opU o.op,R u=true){e:Env}{hp:Heap}{older:List Heap}:qX O T o e hp older=qX O' T' o e hp older:=by
 unfold qX;simp only[zx9 h hu]
theorem zru(h:Agr R T T' O O'){u:Nat}(hu:R u=true){ys:List AV}:Zed O T u ys=Zed O' T' u ys:=by
 unfold Zed;rw[h.tbl u hu];simp only[h.call u _ _ hu]
theorem zkf(h:Agr R T T' O O'):∀(l:List DO),(∀o∈l,∀u∈opU o.ao.op,R u=true)→∀e hp clk older pend,Zb0 O T l e hp clk older pend=Zb0 O' T' l e hp clk older pend
 | [],_,e,hp,clk,older,pend=>rfl
 | o::l,hu,e,hp,clk,older,pend=>by
  have ih:=zkf h l (fun o ho=>hu o (Ym _ ho));simp only[Zb0];rw[zrt h (hu o Y2)];simp only[ih];cases o.ao.op.writes with
  | true=>rfl
  | false=>
   cases hrow:Zgt o.ao.guard o.ao.op.callN e hp (older.take (older.length-o.lo)) with
   | none=>rfl
   | some p=>
    obtain⟨_,args,hop,_⟩:=zkd hrow;have hp:R p.1=true:=hu o Y2 _ (by rw[hop];simp[opU]);simp only[zru h hp]
theorem zkg(h:Agr R T T' O O')(tl:List AO)(ht:∀o∈tl,∀u∈opU o.op,R u=true):∀(l:List AO),(∀o∈l,∀u∈opU o.op,R u=true)→∀e hp clk,Zds O T tl l e hp clk=Zds O' T' tl l e hp clk
 | [],_,e,hp,clk=>zf1 h tl ht _
 | o::l,hu,e,hp,clk=>by
  have ih:=zkg h tl ht l (fun o ho=>hu o (Ym _ ho));simp only[Zds];rw[zrt h (hu o Y2)];simp only[ih]
theorem zrv(h:Agr R T T' O O'){u:Nat}(hu:R u=true){xs:List AV}{d clk:Nat}:Zew O T u xs d clk=Zew O' T' u xs d clk:=by
 unfold Zew;rw[h.tbl u hu];simp only[h.call u _ _ hu]
theorem zkh(h:Agr R T T' O O')(tl:List AO)(ht:∀o∈tl,∀u∈opU o.op,R u=true)(h0:Heap)(c0:Nat)(X:Heap):∀(l:List AO),(∀o∈l,∀u∈opU o.op,R u=true)→∀e hp clk,Zbc O T tl h0 c0 X l e hp clk=Zbc O' T' tl h0 c0 X l e hp clk
 | [],_,e,hp,clk=>zf1 h tl ht _
 | o::l,hu,e,hp,clk=>by
  have ih:=zkh h tl ht h0 c0 X l (fun o ho=>hu o (Ym _ ho));simp only[Zbc];rw[zrt h (hu o Y2)];simp only[ih];cases hm:o.op.maker with
  | true=>rfl
  | false=>
   cases hst:o.op.isStore with
   | true=>rfl
   | false=>
   cases hl:o.op.lentN with
   | none=>rfl
   | some ua=>
    have hua:R ua.1=true:=hu o Y2 _ (by rw[zh3 hl];simp[opU]);simp only[zrv h hua]
theorem zbs(h:Agr R T T' O O')(k:Nat):∀(c:AX),(∀u∈cXs c,R u=true)→∀st,evX O T k c st=evX O' T' k c st
 | .skip,_,st=>rfl
 | .reg l,hu,st=>by
  simp only[evX];rw[zf1 h l fun o ho u hou=>hu u (Yac.2 ⟨o,ho,hou⟩)]
 | .draw l,hu,st=>by
  simp only[evX];rw[zkf h l fun o ho u hou=>hu u (Yac.2 ⟨o,ho,hou⟩)]
 | .drawT hd tl,hu,st=>by
  simp only[evX];rw[zkg h tl (fun o ho u hou=>hu u (Yau _ (Yac.2 ⟨o,ho,hou⟩))) hd (fun o ho u hou=>hu u (Yap _ (Yac.2 ⟨o,ho,hou⟩)))]
 | .drawM hd tl,hu,st=>by
  simp only[evX];rw[zkh h tl (fun o ho u hou=>hu u (Yau _ (Yac.2 ⟨o,ho,hou⟩))) _ _ _ hd (fun o ho u hou=>hu u (Yap _ (Yac.2 ⟨o,ho,hou⟩)))]
 | .bad,_,st=>rfl
 | .prim f,_,st=>rfl
 | .seq a b,hu,st=>by
  simp only[evX];rw[zbs h k a fun u hm=>hu u (Yap _ hm)];congr 1
  funext r
  rw[zbs h k b fun u hm=>hu u (Yau _ hm)]
 | .cond c x y,hu,st=>by
  simp only[evX];rw[zbs h k x fun u hm=>hu u (Yap _ hm),zbs h k y fun u hm=>hu u (Yau _ hm)]
 | .block id c,hu,st=>by
  simp only[evX];rw[zbs h k c hu]
 | .loop c,hu,st=>h.loop k c st hu
 | .exit id,_,st=>rfl
 | .ret,_,st=>rfl
 | .note c g,hu,st=>by
  simp only[evX];rw[zbs h k c hu]
 | .pre g c,hu,st=>by
  simp only[evX];congr 1
  funext s
  exact zbs h k c hu s
 | .scope c,hu,st=>by
  simp only[evX];rw[zbs h k c hu]
 | .label _,_,st=>rfl
 | .goto _,_,st=>rfl
 | .gsc l c r,hu,st=>by
  simp only[evX];rw[zbs h k c fun u hm=>hu u (Yap _ hm)];congr 1
  funext s
  exact zbs h k r (fun u hm=>hu u (Yau _ hm)) s
 | .lp id g c g2,hu,st=>by
  simp only[evX,h.loop k c _ hu]
theorem zrw(hc:∀u af,R u=true→T u=some af→∀v∈cXs af.body,R v=true)(h:Agr R T T' O O'):Agr R T T' (Zc2 T O) (Zc2 T' O') where
 tbl:=h.tbl
 call u xs hb hu:=by
  simp only[Zc2];rw[←h.tbl u hu];cases ht:T u with
  | none=>rfl
  | some af=>
   grind[zbs]
 loop k c st hu:=by
  simp only[Zc2];rw[zbs h k c hu];congr 1
  funext r
  rw[h.loop k c _ hu]
theorem ziu(ht:∀u,R u=true→T u=T' u)(hc:∀u af,R u=true→T u=some af→∀v∈cXs af.body,R v=true):∀n,Agr R T T' (orcN T n) (orcN T' n)
 | 0=>⟨ht,fun _ _ _ _=>rfl,fun _ _ _ _=>rfl⟩
 | n+1=>zrw hc (ziu ht hc n)
theorem zya(ht:∀u,R u=true→T u=T' u)(hc:∀u af,R u=true→T u=some af→∀v∈cXs af.body,R v=true):Agr R T T' (orc T) (orc T'):=by
 refine⟨ht,fun u xs hb hu=>?_,fun k c st hu=>?_⟩
 ·simp only[orc];congr 1
  funext n
  exact(ziu ht hc n).call u xs hb hu
 ·simp only[orc];congr 1
  funext n
  exact(ziu ht hc n).loop k c st hu
end
theorem zc7{l:List (Nat×AFx)}{u:Nat}{af:AFx}(h:l.lookup u=some af):(u,af)∈l:=by
 induction l with
 | nil=>cases h
 | cons q l ih=>
  grind
structure Part (l l':List (Nat×AFx)):Prop where
 sub:∀p∈l',l.lookup p.1=some p.2
 clo:(l'.all fun p=>(cXs p.2.body).all fun v=>(l'.lookup v).isSome || (l.lookup v).isNone)=true
theorem Part.agr{l l':List (Nat×AFx)}(h:Part l l'):Agr (fun u=>(l'.lookup u).isSome || (l.lookup u).isNone) (fun u=>l.lookup u) (fun u=>l'.lookup u) (orc fun u=>l.lookup u) (orc fun u=>l'.lookup u):=by
 refine zya (fun v hv=>?_) (fun v a hv hva w hw=>?_)
 ·cases hv2:l'.lookup v with
  | none=>
   cases hv3:l.lookup v with
   | none=>rfl
   | some a=>grind
  | some a=>exact h.sub _ (zc7 hv2)
 ·cases hv2:l'.lookup v with
  | none=>grind
  | some b=>
   have hb:=zc7 hv2;have h1:=h.sub _ hb;rw[hva]at h1;cases h1;exact Yh.1 (Yh.1 h.clo _ hb) w hw
theorem Part.ev{l l':List (Nat×AFx)}(h:Part l l'){c:AX}(hc:((cXs c).all fun v=>(l'.lookup v).isSome)=true){st:St}{r:Option (Ex×St)}
  (he:evX (orc fun u=>l.lookup u) (fun u=>l.lookup u) 0 c st=r):evX (orc fun u=>l'.lookup u) (fun u=>l'.lookup u) 0 c st=r:=by
 rw[←zbs h.agr 0 c (fun v hv=>by grind) st];omega
theorem Part.call{l l':List (Nat×AFx)}(h:Part l l'){u:Nat}(hu:(l'.lookup u).isSome=true){xs:List AV}{r:Option AV}(he:Za (fun u=>l.lookup u) u xs=r):Za (fun u=>l'.lookup u) u xs=r:=by
 rw[←he];unfold Za;rw[h.agr.call u xs [] (by grind)]
end
end Go.Ab