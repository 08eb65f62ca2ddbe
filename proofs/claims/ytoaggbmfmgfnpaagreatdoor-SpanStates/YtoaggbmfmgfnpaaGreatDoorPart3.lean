/-
  A calculus of values, boxes and code, and what functions of the program compute, proved in it.
  Conditions: none beyond those that the theorems state. (Part 3: Ax7, Ax8, Ax9, GcLimb, GpLimb, GcNat, Nm1, GpNat, GcProd, GcTwos, GpProd, Nm2, GpTwos, GcQuot, GpQuot, GpGuess, GpGuessTry, GpGuess3, Nm3, GpLong, GcQuotD, GpQuotD, Nm4, GcDigits, GcText, GcTrim, GpDigits, Nm5, GcWhole, GcCommon, GcFrac, GcFrac2, GcFrac3, GcFrac5, GcPow, NmLex, GcJoin, GcLex.)
-/
import Derived.Test.YtoaggbmfmgfnpaaGreatDoorPart2

set_option linter.unusedSectionVars false
set_option linter.unusedVariables false
set_option linter.unusedSimpArgs false
set_option linter.unnecessarySimpa false

section
namespace Go.Ab
open Go.RowKit
def u8(n:Nat):AV:=.i .u8 (n:Int)
def u32(n:Nat):AV:=.i .u32 (n:Int)
def u64(n:Nat):AV:=.i .u64 (n:Int)
@[simp] theorem zami(k:IntKind)(n:Int):wkA (.i k n)=.i k n:=rfl
@[simp] theorem zajs{h:Heap}(k:IntKind)(n:Int):Zbm h (.i k n)=some (.i k n):=rfl
@[simp] theorem zajt{h:Heap}(k:IntKind)(n:Int):Zco h (.i k n)=some (.i k n):=rfl
@[simp] theorem zamj{h:Heap}(k:IntKind)(n:Int):frz h (.i k n)=some (.i k n):=rfl
@[simp] theorem zaac(k:IntKind)(n:Int):Zbn (.i k n)=true:=rfl
@[simp] theorem zaad(k:IntKind)(n:Int):Zbo (.i k n)=true:=rfl
@[simp] theorem zadi(k:IntKind)(n:Int):scalar (.i k n)=true:=rfl
@[simp] theorem zaf0(k:IntKind)(n:Int):pureC (.i k n)=true:=rfl
@[simp] theorem zaf1(k:IntKind)(n:Int):noRef (.i k n)=true:=rfl
@[simp] theorem zaju(k:IntKind)(n:Int):refs (.i k n)=[]:=rfl
@[simp] theorem zamk(k:IntKind)(n:Int):rfC (.i k n)=[]:=rfl
@[simp] theorem zaml(k:IntKind)(n:Int):rf1 (.i k n)=[]:=rfl
@[simp] theorem zamm(k:IntKind)(n:Int):rfA (.i k n)=[]:=rfl
@[simp] theorem zamn{σn:BId→BId}{σg:Nat→Nat}(k:IntKind)(n:Int):rlC σn σg (.i k n)=(.i k n):=rfl
@[simp] theorem zamo{σn:BId→BId}{σg:Nat→Nat}(k:IntKind)(n:Int):rl1 σn σg (.i k n)=(.i k n):=rfl
@[simp] theorem zamp{σn:BId→BId}{σg:Nat→Nat}(k:IntKind)(n:Int):rlA σn σg (.i k n)=(.i k n):=rfl
@[simp] theorem zadj{h:Heap}(k:IntKind)(n:Int):Zby h (.i k n)=true:=rfl
@[simp] theorem zadk{h:Heap}(k:IntKind)(n:Int):Zcm h (.i k n)=true:=rfl
@[simp] theorem zaf2{h:Heap}(k:IntKind)(n:Int):Zdb h (.i k n)=true:=rfl
@[simp] theorem zaae(k:IntKind)(n:Int):cellsOf (.i k n)=some [.i k n]:=rfl
@[simp] theorem zamq(t:Bool):wkA (.b t)=.b t:=rfl
@[simp] theorem zajv{h:Heap}(t:Bool):Zbm h (.b t)=some (.b t):=rfl
@[simp] theorem zajw{h:Heap}(t:Bool):Zco h (.b t)=some (.b t):=rfl
@[simp] theorem zamr{h:Heap}(t:Bool):frz h (.b t)=some (.b t):=rfl
@[simp] theorem zaaf(t:Bool):Zbn (.b t)=true:=rfl
@[simp] theorem zaag(t:Bool):Zbo (.b t)=true:=rfl
@[simp] theorem zadl(t:Bool):scalar (.b t)=true:=rfl
@[simp] theorem zaf3(t:Bool):pureC (.b t)=true:=rfl
@[simp] theorem zaf4(t:Bool):noRef (.b t)=true:=rfl
@[simp] theorem zajx(t:Bool):refs (.b t)=[]:=rfl
@[simp] theorem zams(t:Bool):rfC (.b t)=[]:=rfl
@[simp] theorem zamt(t:Bool):rf1 (.b t)=[]:=rfl
@[simp] theorem zamu(t:Bool):rfA (.b t)=[]:=rfl
@[simp] theorem zamv{σn:BId→BId}{σg:Nat→Nat}(t:Bool):rlC σn σg (.b t)=(.b t):=rfl
@[simp] theorem zamw{σn:BId→BId}{σg:Nat→Nat}(t:Bool):rl1 σn σg (.b t)=(.b t):=rfl
@[simp] theorem zamx{σn:BId→BId}{σg:Nat→Nat}(t:Bool):rlA σn σg (.b t)=(.b t):=rfl
@[simp] theorem zadm{h:Heap}(t:Bool):Zby h (.b t)=true:=rfl
@[simp] theorem zadn{h:Heap}(t:Bool):Zcm h (.b t)=true:=rfl
@[simp] theorem zaf5{h:Heap}(t:Bool):Zdb h (.b t)=true:=rfl
@[simp] theorem zaah(t:Bool):cellsOf (.b t)=some [.b t]:=rfl
@[simp] theorem zamy(l:List UInt8):wkA (.s l)=.s l:=rfl
@[simp] theorem zajy{h:Heap}(l:List UInt8):Zbm h (.s l)=some (.s l):=rfl
@[simp] theorem zajz{h:Heap}(l:List UInt8):Zco h (.s l)=some (.s l):=rfl
@[simp] theorem zamz{h:Heap}(l:List UInt8):frz h (.s l)=some (.s l):=rfl
@[simp] theorem zaai(l:List UInt8):Zbn (.s l)=true:=rfl
@[simp] theorem zaaj(l:List UInt8):Zbo (.s l)=true:=rfl
@[simp] theorem zado(l:List UInt8):scalar (.s l)=true:=rfl
@[simp] theorem zaf6(l:List UInt8):pureC (.s l)=true:=rfl
@[simp] theorem zaf7(l:List UInt8):noRef (.s l)=true:=rfl
@[simp] theorem zaj0(l:List UInt8):refs (.s l)=[]:=rfl
@[simp] theorem zam0(l:List UInt8):rfC (.s l)=[]:=rfl
@[simp] theorem zam1(l:List UInt8):rf1 (.s l)=[]:=rfl
@[simp] theorem zam2(l:List UInt8):rfA (.s l)=[]:=rfl
@[simp] theorem zam3{σn:BId→BId}{σg:Nat→Nat}(l:List UInt8):rlC σn σg (.s l)=(.s l):=rfl
@[simp] theorem zam4{σn:BId→BId}{σg:Nat→Nat}(l:List UInt8):rl1 σn σg (.s l)=(.s l):=rfl
@[simp] theorem zam5{σn:BId→BId}{σg:Nat→Nat}(l:List UInt8):rlA σn σg (.s l)=(.s l):=rfl
@[simp] theorem zadp{h:Heap}(l:List UInt8):Zby h (.s l)=true:=rfl
@[simp] theorem zadq{h:Heap}(l:List UInt8):Zcm h (.s l)=true:=rfl
@[simp] theorem zaf8{h:Heap}(l:List UInt8):Zdb h (.s l)=true:=rfl
@[simp] theorem zaak(l:List UInt8):cellsOf (.s l)=some [.s l]:=rfl
@[simp] theorem zaf9{h:Heap}(els:List (List AV))(f:Fl):Zbm h (.sl els f)=some (.sl els f):=rfl
@[simp] theorem zaga{h:Heap}(els:List (List AV))(f:Fl):Zco h (.sl els f)=some (.sl els f):=rfl
@[simp] theorem zaj1{h:Heap}(els:List (List AV))(f:Fl):frz h (.sl els f)=some (.sl els f):=rfl
@[simp] theorem z8y(els:List (List AV))(f:Fl):Zbn (.sl els f)=false:=rfl
@[simp] theorem z8z(els:List (List AV))(f:Fl):Zbo (.sl els f)=false:=rfl
@[simp] theorem zaal(els:List (List AV))(f:Fl):scalar (.sl els f)=false:=rfl
@[simp] theorem zadr(els:List (List AV))(f:Fl):pureC (.sl els f)=true:=rfl
@[simp] theorem zads(els:List (List AV))(f:Fl):noRef (.sl els f)=true:=rfl
@[simp] theorem zagb(els:List (List AV))(f:Fl):refs (.sl els f)=[]:=rfl
@[simp] theorem zaj2(els:List (List AV))(f:Fl):rfC (.sl els f)=[]:=rfl
@[simp] theorem zaj3(els:List (List AV))(f:Fl):rf1 (.sl els f)=[]:=rfl
@[simp] theorem zaj4(els:List (List AV))(f:Fl):rfA (.sl els f)=[]:=rfl
@[simp] theorem zaj5{σn:BId→BId}{σg:Nat→Nat}(els:List (List AV))(f:Fl):rlC σn σg (.sl els f)=(.sl els f):=rfl
@[simp] theorem zaj6{σn:BId→BId}{σg:Nat→Nat}(els:List (List AV))(f:Fl):rl1 σn σg (.sl els f)=(.sl els f):=rfl
@[simp] theorem zaj7{σn:BId→BId}{σg:Nat→Nat}(els:List (List AV))(f:Fl):rlA σn σg (.sl els f)=(.sl els f):=rfl
@[simp] theorem zaam{h:Heap}(els:List (List AV))(f:Fl):Zby h (.sl els f)=true:=rfl
@[simp] theorem zaan{h:Heap}(els:List (List AV))(f:Fl):Zcm h (.sl els f)=true:=rfl
@[simp] theorem zadt{h:Heap}(els:List (List AV))(f:Fl):Zdb h (.sl els f)=true:=rfl
@[simp] theorem z80(els:List (List AV))(f:Fl):cellsOf (.sl els f)=some [.sl els f]:=rfl
@[simp] theorem zaj8(cs:List AV)(o:Nat):wkA (.ep cs o)=.ep cs o:=rfl
@[simp] theorem zagc{h:Heap}(cs:List AV)(o:Nat):Zbm h (.ep cs o)=some (.ep cs o):=rfl
@[simp] theorem zagd{h:Heap}(cs:List AV)(o:Nat):Zco h (.ep cs o)=some (.ep cs o):=rfl
@[simp] theorem zaj9{h:Heap}(cs:List AV)(o:Nat):frz h (.ep cs o)=some (.ep cs o):=rfl
@[simp] theorem z81(cs:List AV)(o:Nat):Zbn (.ep cs o)=false:=rfl
@[simp] theorem z82(cs:List AV)(o:Nat):Zbo (.ep cs o)=false:=rfl
@[simp] theorem zaao(cs:List AV)(o:Nat):scalar (.ep cs o)=false:=rfl
@[simp] theorem zadu(cs:List AV)(o:Nat):pureC (.ep cs o)=true:=rfl
@[simp] theorem zadv(cs:List AV)(o:Nat):noRef (.ep cs o)=true:=rfl
@[simp] theorem zage(cs:List AV)(o:Nat):refs (.ep cs o)=[]:=rfl
@[simp] theorem zaka(cs:List AV)(o:Nat):rfC (.ep cs o)=[]:=rfl
@[simp] theorem zakb(cs:List AV)(o:Nat):rf1 (.ep cs o)=[]:=rfl
@[simp] theorem zakc(cs:List AV)(o:Nat):rfA (.ep cs o)=[]:=rfl
@[simp] theorem zakd{σn:BId→BId}{σg:Nat→Nat}(cs:List AV)(o:Nat):rlC σn σg (.ep cs o)=(.ep cs o):=rfl
@[simp] theorem zake{σn:BId→BId}{σg:Nat→Nat}(cs:List AV)(o:Nat):rl1 σn σg (.ep cs o)=(.ep cs o):=rfl
@[simp] theorem zakf{σn:BId→BId}{σg:Nat→Nat}(cs:List AV)(o:Nat):rlA σn σg (.ep cs o)=(.ep cs o):=rfl
@[simp] theorem zaap{h:Heap}(cs:List AV)(o:Nat):Zby h (.ep cs o)=true:=rfl
@[simp] theorem zaaq{h:Heap}(cs:List AV)(o:Nat):Zcm h (.ep cs o)=true:=rfl
@[simp] theorem zadw{h:Heap}(cs:List AV)(o:Nat):Zdb h (.ep cs o)=true:=rfl
@[simp] theorem z83(cs:List AV)(o:Nat):cellsOf (.ep cs o)=some [.ep cs o]:=rfl
@[simp] theorem zakg(n:Nat):wkA (u8 n)=u8 n:=rfl
@[simp] theorem zagf{h:Heap}(n:Nat):Zbm h (u8 n)=some (u8 n):=rfl
@[simp] theorem zagg{h:Heap}(n:Nat):Zco h (u8 n)=some (u8 n):=rfl
@[simp] theorem zakh{h:Heap}(n:Nat):frz h (u8 n)=some (u8 n):=rfl
@[simp] theorem z84(n:Nat):Zbn (u8 n)=true:=rfl
@[simp] theorem z85(n:Nat):Zbo (u8 n)=true:=rfl
@[simp] theorem zaar(n:Nat):scalar (u8 n)=true:=rfl
@[simp] theorem zadx(n:Nat):pureC (u8 n)=true:=rfl
@[simp] theorem zady(n:Nat):noRef (u8 n)=true:=rfl
@[simp] theorem zagh(n:Nat):refs (u8 n)=[]:=rfl
@[simp] theorem zaki(n:Nat):rfC (u8 n)=[]:=rfl
@[simp] theorem zakj(n:Nat):rf1 (u8 n)=[]:=rfl
@[simp] theorem zakk(n:Nat):rfA (u8 n)=[]:=rfl
@[simp] theorem zakl{σn:BId→BId}{σg:Nat→Nat}(n:Nat):rlC σn σg (u8 n)=(u8 n):=rfl
@[simp] theorem zakm{σn:BId→BId}{σg:Nat→Nat}(n:Nat):rl1 σn σg (u8 n)=(u8 n):=rfl
@[simp] theorem zakn{σn:BId→BId}{σg:Nat→Nat}(n:Nat):rlA σn σg (u8 n)=(u8 n):=rfl
@[simp] theorem zaas{h:Heap}(n:Nat):Zby h (u8 n)=true:=rfl
@[simp] theorem zaat{h:Heap}(n:Nat):Zcm h (u8 n)=true:=rfl
@[simp] theorem zadz{h:Heap}(n:Nat):Zdb h (u8 n)=true:=rfl
@[simp] theorem z86(n:Nat):cellsOf (u8 n)=some [u8 n]:=rfl
@[simp] theorem zagi(n:Nat):wkA (u32 n)=u32 n:=rfl
@[simp] theorem zad0{h:Heap}(n:Nat):Zbm h (u32 n)=some (u32 n):=rfl
@[simp] theorem zad1{h:Heap}(n:Nat):Zco h (u32 n)=some (u32 n):=rfl
@[simp] theorem zagj{h:Heap}(n:Nat):frz h (u32 n)=some (u32 n):=rfl
@[simp] theorem z55(n:Nat):Zbn (u32 n)=true:=rfl
@[simp] theorem z56(n:Nat):Zbo (u32 n)=true:=rfl
@[simp] theorem z87(n:Nat):scalar (u32 n)=true:=rfl
@[simp] theorem zaau(n:Nat):pureC (u32 n)=true:=rfl
@[simp] theorem zaav(n:Nat):noRef (u32 n)=true:=rfl
@[simp] theorem zad2(n:Nat):refs (u32 n)=[]:=rfl
@[simp] theorem zagk(n:Nat):rfC (u32 n)=[]:=rfl
@[simp] theorem zagl(n:Nat):rf1 (u32 n)=[]:=rfl
@[simp] theorem zagm(n:Nat):rfA (u32 n)=[]:=rfl
@[simp] theorem zagn{σn:BId→BId}{σg:Nat→Nat}(n:Nat):rlC σn σg (u32 n)=(u32 n):=rfl
@[simp] theorem zago{σn:BId→BId}{σg:Nat→Nat}(n:Nat):rl1 σn σg (u32 n)=(u32 n):=rfl
@[simp] theorem zagp{σn:BId→BId}{σg:Nat→Nat}(n:Nat):rlA σn σg (u32 n)=(u32 n):=rfl
@[simp] theorem z88{h:Heap}(n:Nat):Zby h (u32 n)=true:=rfl
@[simp] theorem z89{h:Heap}(n:Nat):Zcm h (u32 n)=true:=rfl
@[simp] theorem zaaw{h:Heap}(n:Nat):Zdb h (u32 n)=true:=rfl
@[simp] theorem z57(n:Nat):cellsOf (u32 n)=some [u32 n]:=rfl
@[simp] theorem zagq(n:Nat):wkA (u64 n)=u64 n:=rfl
@[simp] theorem zad3{h:Heap}(n:Nat):Zbm h (u64 n)=some (u64 n):=rfl
@[simp] theorem zad4{h:Heap}(n:Nat):Zco h (u64 n)=some (u64 n):=rfl
@[simp] theorem zagr{h:Heap}(n:Nat):frz h (u64 n)=some (u64 n):=rfl
@[simp] theorem z58(n:Nat):Zbn (u64 n)=true:=rfl
@[simp] theorem z59(n:Nat):Zbo (u64 n)=true:=rfl
@[simp] theorem z9a(n:Nat):scalar (u64 n)=true:=rfl
@[simp] theorem zaax(n:Nat):pureC (u64 n)=true:=rfl
@[simp] theorem zaay(n:Nat):noRef (u64 n)=true:=rfl
@[simp] theorem zad5(n:Nat):refs (u64 n)=[]:=rfl
@[simp] theorem zags(n:Nat):rfC (u64 n)=[]:=rfl
@[simp] theorem zagt(n:Nat):rf1 (u64 n)=[]:=rfl
@[simp] theorem zagu(n:Nat):rfA (u64 n)=[]:=rfl
@[simp] theorem zagv{σn:BId→BId}{σg:Nat→Nat}(n:Nat):rlC σn σg (u64 n)=(u64 n):=rfl
@[simp] theorem zagw{σn:BId→BId}{σg:Nat→Nat}(n:Nat):rl1 σn σg (u64 n)=(u64 n):=rfl
@[simp] theorem zagx{σn:BId→BId}{σg:Nat→Nat}(n:Nat):rlA σn σg (u64 n)=(u64 n):=rfl
@[simp] theorem z9b{h:Heap}(n:Nat):Zby h (u64 n)=true:=rfl
@[simp] theorem z9c{h:Heap}(n:Nat):Zcm h (u64 n)=true:=rfl
@[simp] theorem zaaz{h:Heap}(n:Nat):Zdb h (u64 n)=true:=rfl
@[simp] theorem z6a(n:Nat):cellsOf (u64 n)=some [u64 n]:=rfl
@[simp] theorem zad6 :wkA .dead=.dead:=rfl
@[simp] theorem zaa0{h:Heap} :Zbm h .dead=some .dead:=rfl
@[simp] theorem zaa1{h:Heap} :Zco h .dead=some .dead:=rfl
@[simp] theorem zad7{h:Heap} :frz h .dead=some .dead:=rfl
@[simp] theorem z4z :Zbn .dead=false:=rfl
@[simp] theorem z40 :Zbo .dead=false:=rfl
@[simp] theorem z6b :scalar .dead=false:=rfl
@[simp] theorem z9d :pureC .dead=true:=rfl
@[simp] theorem z9e :noRef .dead=true:=rfl
@[simp] theorem zaa2 :refs .dead=[]:=rfl
@[simp] theorem zad8 :rfC .dead=[]:=rfl
@[simp] theorem zad9 :rf1 .dead=[]:=rfl
@[simp] theorem zaea :rfA .dead=[]:=rfl
@[simp] theorem zaeb{σn:BId→BId}{σg:Nat→Nat} :rlC σn σg .dead=.dead:=rfl
@[simp] theorem zaec{σn:BId→BId}{σg:Nat→Nat} :rl1 σn σg .dead=.dead:=rfl
@[simp] theorem zaed{σn:BId→BId}{σg:Nat→Nat} :rlA σn σg .dead=.dead:=rfl
@[simp] theorem z6c{h:Heap} :Zby h .dead=true:=rfl
@[simp] theorem z6d{h:Heap} :Zcm h .dead=true:=rfl
@[simp] theorem z9f{h:Heap} :Zdb h .dead=true:=rfl
@[simp] theorem zako(els:List (List AV))(f:Fl):wkA (.sl els f)=.sl (wkL els) .an:=rfl
@[simp] theorem zagy(cs:List AV):wkA (.agg cs)=.agg (wkR cs):=rfl
@[simp] theorem zagz(cs:List AV):wkA (.tup cs)=.tup (wkR cs):=rfl
@[simp] theorem zakp(id:BId)(g z off n:Nat):wkA (.bs id g z off n)=.bs id g z off n:=rfl
@[simp] theorem zag0(id:BId)(g z i o:Nat):wkA (.ptr id g z i o)=.ptr id g z i o:=rfl
@[simp] theorem zag1 :wkR []=[]:=rfl
@[simp] theorem zaee(c:AV)(r:List AV):wkR (c::r)=wkA c::wkR r:=rfl
@[simp] theorem zag2 :wkL []=[]:=rfl
@[simp] theorem zaef(c:List AV)(r:List (List AV)):wkL (c::r)=wkR c::wkL r:=rfl
@[simp] theorem zag3{h:Heap}(id:BId)(g z off n:Nat):Zco h (.bs id g z off n)=(Zai h id g z).bind fun bx=>if bx.kind≠.str∧off+n≤bx.els.length then some (.sl ((bx.els.drop off).take n) .an) else none:=rfl
@[simp] theorem zaeg{h:Heap}(id:BId)(g z i o:Nat):Zco h (.ptr id g z i o)=some .dead:=rfl
@[simp] theorem zag4{h:Heap}(id:BId)(g z off n:Nat):Zbm h (.bs id g z off n)=(Zai h id g z).bind fun bx=>if bx.kind≠.str∧off+n≤bx.els.length then some (.sl ((bx.els.drop off).take n) .an) else none:=rfl
@[simp] theorem zaeh{h:Heap}(id:BId)(g z i o:Nat):Zbm h (.ptr id g z i o)=some .dead:=rfl
@[simp] theorem zakq{h:Heap}(id:BId)(g z off n:Nat):frz h (.bs id g z off n)=(Zai h id g z).bind fun bx=>if bx.kind≠.str∧off+n≤bx.els.length then some (.sl ((bx.els.drop off).take n) .an) else none:=rfl
@[simp] theorem zag5{h:Heap}(id:BId)(g z i o:Nat):frz h (.ptr id g z i o)=some .dead:=rfl
@[simp] theorem zaei{h:Heap}(cs:List AV):Zbm h (.agg cs)=(cs.mapM (Zco h)).map .agg:=rfl
@[simp] theorem zag6{h:Heap}(cs:List AV):frz h (.agg cs)=(cs.mapM (Zco h)).map .agg:=rfl
@[simp] theorem zag7{h:Heap}(cs:List AV):frz h (.tup cs)=(cs.mapM (Zbm h)).map .tup:=rfl
@[simp] theorem z9g(id:BId)(g z off n:Nat):Zbn (.bs id g z off n)=false:=rfl
@[simp] theorem z6e(id:BId)(g z i o:Nat):Zbn (.ptr id g z i o)=false:=rfl
@[simp] theorem z9h(id:BId)(g z off n:Nat):Zbo (.bs id g z off n)=false:=rfl
@[simp] theorem z6f(id:BId)(g z i o:Nat):Zbo (.ptr id g z i o)=false:=rfl
@[simp] theorem zaa3(id:BId)(g z off n:Nat):scalar (.bs id g z off n)=false:=rfl
@[simp] theorem z9i(id:BId)(g z i o:Nat):scalar (.ptr id g z i o)=false:=rfl
@[simp] theorem z6g(cs:List AV):Zbo (.agg cs)=cs.all Zbn:=rfl
@[simp] theorem z9j(cs:List AV):scalar (.agg cs)=cs.all Zbn:=rfl
@[simp] theorem z9k(cs:List AV):scalar (.tup cs)=cs.all Zbo:=rfl
@[simp] theorem zaej(id:BId)(g z off n:Nat):pureC (.bs id g z off n)=false:=rfl
@[simp] theorem zaa4(id:BId)(g z i o:Nat):pureC (.ptr id g z i o)=false:=rfl
@[simp] theorem zaa5(cs:List AV):pureC (.agg cs)=false:=rfl
@[simp] theorem zaa6(cs:List AV):pureC (.tup cs)=false:=rfl
@[simp] theorem zaek(id:BId)(g z off n:Nat):noRef (.bs id g z off n)=false:=rfl
@[simp] theorem zaa7(id:BId)(g z i o:Nat):noRef (.ptr id g z i o)=false:=rfl
@[simp] theorem zaa8(cs:List AV):noRef (.agg cs)=cs.all pureC:=rfl
@[simp] theorem zaa9(cs:List AV):noRef (.tup cs)=false:=rfl
@[simp] theorem zag8(id:BId)(g z off n:Nat):refs (.bs id g z off n)=[id]:=rfl
@[simp] theorem zael(id:BId)(g z i o:Nat):refs (.ptr id g z i o)=[]:=rfl
@[simp] theorem zakr(id:BId)(g z off n:Nat):rfC (.bs id g z off n)=[id]:=rfl
@[simp] theorem zag9(id:BId)(g z i o:Nat):rfC (.ptr id g z i o)=[id]:=rfl
@[simp] theorem zaks(id:BId)(g z off n:Nat):rf1 (.bs id g z off n)=[id]:=rfl
@[simp] theorem zaha(id:BId)(g z i o:Nat):rf1 (.ptr id g z i o)=[id]:=rfl
@[simp] theorem zakt(id:BId)(g z off n:Nat):rfA (.bs id g z off n)=[id]:=rfl
@[simp] theorem zahb(id:BId)(g z i o:Nat):rfA (.ptr id g z i o)=[id]:=rfl
def Zhl:AV→List BId
 | .bs id .. => [id]
 | _=>[]
@[simp] theorem zahc(cs:List AV):rf1 (.agg cs)=cs.flatMap rfC:=rfl
@[simp] theorem zahd(cs:List AV):rfA (.agg cs)=cs.flatMap rfC:=rfl
@[simp] theorem zahe(cs:List AV):rfA (.tup cs)=cs.flatMap rf1:=rfl
@[simp] theorem zaku{σn:BId→BId}{σg:Nat→Nat}(id:BId)(g z off n:Nat):rlC σn σg (.bs id g z off n)=.bs (σn id) (σg g) z off n:=rfl
@[simp] theorem zahf{σn:BId→BId}{σg:Nat→Nat}(id:BId)(g z i o:Nat):rlC σn σg (.ptr id g z i o)=.ptr (σn id) (σg g) z i o:=rfl
@[simp] theorem zakv{σn:BId→BId}{σg:Nat→Nat}(id:BId)(g z off n:Nat):rl1 σn σg (.bs id g z off n)=.bs (σn id) (σg g) z off n:=rfl
@[simp] theorem zahg{σn:BId→BId}{σg:Nat→Nat}(id:BId)(g z i o:Nat):rl1 σn σg (.ptr id g z i o)=.ptr (σn id) (σg g) z i o:=rfl
@[simp] theorem zakw{σn:BId→BId}{σg:Nat→Nat}(id:BId)(g z off n:Nat):rlA σn σg (.bs id g z off n)=.bs (σn id) (σg g) z off n:=rfl
@[simp] theorem zahh{σn:BId→BId}{σg:Nat→Nat}(id:BId)(g z i o:Nat):rlA σn σg (.ptr id g z i o)=.ptr (σn id) (σg g) z i o:=rfl
@[simp] theorem zahi{σn:BId→BId}{σg:Nat→Nat}(cs:List AV):rl1 σn σg (.agg cs)=.agg (cs.map (rlC σn σg)):=rfl
@[simp] theorem zahj{σn:BId→BId}{σg:Nat→Nat}(cs:List AV):rlA σn σg (.agg cs)=.agg (cs.map (rlC σn σg)):=rfl
@[simp] theorem zahk{σn:BId→BId}{σg:Nat→Nat}(cs:List AV):rlA σn σg (.tup cs)=.tup (cs.map (rl1 σn σg)):=rfl
@[simp] theorem zaba{h:Heap}(id:BId)(g z off n:Nat):Zby h (.bs id g z off n)=(Zai h id g z).isSome:=rfl
@[simp] theorem z9l{h:Heap}(id:BId)(g z i o:Nat):Zby h (.ptr id g z i o)=(Zai h id g z).isSome:=rfl
@[simp] theorem zabb{h:Heap}(id:BId)(g z off n:Nat):Zcm h (.bs id g z off n)=(Zai h id g z).isSome:=rfl
@[simp] theorem z9m{h:Heap}(id:BId)(g z i o:Nat):Zcm h (.ptr id g z i o)=(Zai h id g z).isSome:=rfl
@[simp] theorem zaem{h:Heap}(id:BId)(g z off n:Nat):Zdb h (.bs id g z off n)=(Zai h id g z).isSome:=rfl
@[simp] theorem zabc{h:Heap}(id:BId)(g z i o:Nat):Zdb h (.ptr id g z i o)=(Zai h id g z).isSome:=rfl
@[simp] theorem z9n{h:Heap}(cs:List AV):Zcm h (.agg cs)=cs.all (Zby h):=rfl
@[simp] theorem zabd{h:Heap}(cs:List AV):Zdb h (.agg cs)=cs.all (Zby h):=rfl
@[simp] theorem zabe{h:Heap}(cs:List AV):Zdb h (.tup cs)=cs.all (Zcm h):=rfl
@[simp] theorem z9o(id:BId)(g z off n:Nat):cellsOf (.bs id g z off n)=some [.bs id g z off n]:=rfl
@[simp] theorem z6h(id:BId)(g z i o:Nat):cellsOf (.ptr id g z i o)=some [.ptr id g z i o]:=rfl
@[simp] theorem z6i(cs:List AV):cellsOf (.agg cs)=some cs:=rfl
@[simp] theorem zakx(k:IntKind)(n:Int):Zhl (.i k n)=[]:=rfl
@[simp] theorem zaky(t:Bool):Zhl (.b t)=[]:=rfl
@[simp] theorem zakz(l:List UInt8):Zhl (.s l)=[]:=rfl
@[simp] theorem zahl(els:List (List AV))(f:Fl):Zhl (.sl els f)=[]:=rfl
@[simp] theorem zahm(cs:List AV)(o:Nat):Zhl (.ep cs o)=[]:=rfl
@[simp] theorem zahn(n:Nat):Zhl (u8 n)=[]:=rfl
@[simp] theorem zaen(n:Nat):Zhl (u32 n)=[]:=rfl
@[simp] theorem zaeo(n:Nat):Zhl (u64 n)=[]:=rfl
@[simp] theorem zabf :Zhl .dead=[]:=rfl
@[simp] theorem zaho(id:BId)(g z off n:Nat):Zhl (.bs id g z off n)=[id]:=rfl
@[simp] theorem zaep(id:BId)(g z i o:Nat):Zhl (.ptr id g z i o)=[]:=rfl
@[simp] theorem zaeq(cs:List AV):refs (.agg cs)=cs.flatMap Zhl:=rfl
@[simp] theorem z41:refs (.tup [])=[]:=rfl
@[simp] theorem zaer(h:Heap)(id:BId)(g z:Nat):Zai h id g z=(match h.lookup id with | some bx=>if bx.gen=g∧bx.z=z then some bx else none | none=>none):=rfl
@[simp] theorem zabg(x:AV):wkIf true x=x:=rfl
@[simp] theorem z9p(x:AV):wkIf false x=wkA x:=rfl
theorem zek(n:Nat):IntKind.wrap .u32 (n:Int)=((n%4294967296:Nat):Int):=by
 simp[IntKind.wrap,IntKind.signed,IntKind.bits]
theorem zfg(n:Nat):IntKind.wrap .u64 (n:Int)=((n%18446744073709551616:Nat):Int):=by
 simp[IntKind.wrap,IntKind.signed,IntKind.bits]
theorem wrap_u8(n:Nat):IntKind.wrap .u8 (n:Int)=((n%256:Nat):Int):=by
 simp[IntKind.wrap,IntKind.signed,IntKind.bits]
def bX(o:Option (Ex×St))(f:St→Option (Ex×St)):Option (Ex×St):=o.bind fun r=>match r.1 with | .n=>f r.2 | _=>some r
def Zh8(id:Nat)(o:Option (Ex×St)):Option (Ex×St):=o.bind fun r=>match r.1 with | .x j=>if j=id then some (.n,r.2) else some r | _=>some r
def stX(o:Option St):Option (Ex×St):=o.map fun s=>(.n,s)
def bS(o:Option St)(f:St→Option St):Option St:=o.bind f
def cnX(v:AV)(x y:Option (Ex×St)):Option (Ex×St):=match v with | .b t=>if t then x else y | _=>none
def pS(o:Option AV)(d:Option Nat)(st:St):Option St:=o.map fun x=>⟨Z3 st.env d x,st.heap,st.clk⟩
def pW(o:Option (AV×Heap×Nat))(d:Option Nat)(st:St):Option St:=o.map fun q=>⟨Z3 st.env d q.1,q.2.1,q.2.2⟩
def pB(o:Option (AV×Heap))(d:Option Nat)(st:St):Option St:=o.map fun q=>⟨Z3 st.env d q.1,q.2,st.clk⟩
def Zj5(res:List RV)(ex:Bool)(o:Option (Ex×St)):Option AV:=
 o.bind fun r=>match r.1 with | .x _=>none | .g _=>none | _=>(Zdm r.2 res).bind fun x=>(frz r.2.heap x).map (wkIf ex)
def Zkm(res:List RV)(ex:Bool)(k:Nat)(o:Option (Ex×St)):Option (AV×Heap):=
 o.bind fun r=>match r.1 with | .x _=>none | .g _=>none | _=>(Zdm r.2 res).map fun x=>let s:=Zdv ex k [0] ⟨[(0,x)],r.2.heap,r.2.clk⟩;(s.env.get 0,s.heap)
section
variable{o o':Option (Ex×St)}{f:St→Option (Ex×St)}{s:St}
@[congr] theorem zaes(h:o=o'):bX o f=bX o' f:=by rw[h]
@[congr] theorem zaet{o o':Option St}{f:St→Option St}(h:o=o'):bS o f=bS o' f:=by rw[h]
@[congr] theorem zabh{v v':AV}{x y:Option (Ex×St)}(h:v=v'):cnX v x y=cnX v' x y:=by rw[h]
@[simp] theorem bX_n:bX (some (.n,s)) f=f s:=rfl
@[simp] theorem bX_x(id:Nat):bX (some (.x id,s)) f=some (.x id,s):=rfl
@[simp] theorem bX_r:bX (some (.r,s)) f=some (.r,s):=rfl
@[simp] theorem zahp:bX none f=none:=rfl
@[simp] theorem zak0{c:Prop}[Decidable c]{a b:Option (Ex×St)}:bX (if c then a else b) f=if c then bX a f else bX b f:=by split<;>rfl
@[simp] theorem zaeu(id:Nat){c:Prop}[Decidable c]{a b:Option (Ex×St)}:Zh8 id (if c then a else b)=if c then Zh8 id a else Zh8 id b:=by split<;>rfl
@[simp] theorem zaev{res:List RV}{ex:Bool}{c:Prop}[Decidable c]{a b:Option (Ex×St)}:Zj5 res ex (if c then a else b)=if c then Zj5 res ex a else Zj5 res ex b:=by split<;>rfl
@[simp] theorem zaew{res:List RV}{ex:Bool}{k:Nat}{c:Prop}[Decidable c]{a b:Option (Ex×St)}:Zkm res ex k (if c then a else b)=if c then Zkm res ex k a else Zkm res ex k b:=by split<;>rfl
@[simp] theorem zak1(id:Nat):Zh8 id (some (.n,s))=some (.n,s):=rfl
@[simp] theorem zabi(id j:Nat):Zh8 id (some (.x j,s))=if j=id then some (.n,s) else some (.x j,s):=rfl
@[simp] theorem zak2(id:Nat):Zh8 id (some (.r,s))=some (.r,s):=rfl
@[simp] theorem zabj(id:Nat):Zh8 id none=none:=rfl
@[simp] theorem zaex:stX (some s)=some (.n,s):=rfl
@[simp] theorem zaey:stX none=none:=rfl
@[simp] theorem zahq{f:St→Option St}:bS (some s) f=f s:=rfl
@[simp] theorem zahr{f:St→Option St}:bS none f=none:=rfl
@[simp] theorem zam6{t:Bool}{x y:Option (Ex×St)}:cnX (.b t) x y=if t then x else y:=rfl
@[simp] theorem zahs{x:AV}{d:Option Nat}:pS (some x) d s=some ⟨Z3 s.env d x,s.heap,s.clk⟩:=rfl
@[simp] theorem zaht{d:Option Nat}:pS none d s=none:=rfl
@[simp] theorem zahu{x:AV}{h:Heap}{c:Nat}{d:Option Nat}:pW (some (x,h,c)) d s=some ⟨Z3 s.env d x,h,c⟩:=rfl
@[simp] theorem zahv{d:Option Nat}:pW none d s=none:=rfl
@[simp] theorem zahw{x:AV}{h:Heap}{d:Option Nat}:pB (some (x,h)) d s=some ⟨Z3 s.env d x,h,s.clk⟩:=rfl
@[simp] theorem zahx{d:Option Nat}:pB none d s=none:=rfl
@[simp] theorem zak3{res:List RV}{ex:Bool}:Zj5 res ex (some (.r,s))=(Zdm s res).bind fun x=>(frz s.heap x).map (wkIf ex):=rfl
@[simp] theorem zak4{res:List RV}{ex:Bool}:Zj5 res ex (some (.n,s))=(Zdm s res).bind fun x=>(frz s.heap x).map (wkIf ex):=rfl
@[simp] theorem zak5{res:List RV}{ex:Bool}{k:Nat}:Zkm res ex k (some (.r,s))=(Zdm s res).map fun x=>((Zdv ex k [0] ⟨[(0,x)],s.heap,s.clk⟩).env.get 0,(Zdv ex k [0] ⟨[(0,x)],s.heap,s.clk⟩).heap):=rfl
@[simp] theorem zak6{res:List RV}{ex:Bool}{k:Nat}:Zkm res ex k (some (.n,s))=(Zdm s res).map fun x=>((Zdv ex k [0] ⟨[(0,x)],s.heap,s.clk⟩).env.get 0,(Zdv ex k [0] ⟨[(0,x)],s.heap,s.clk⟩).heap):=rfl
end
section
variable{T:Tbl}{k:Nat}{st:St}{d:Option Nat}
noncomputable abbrev X(T:Tbl)(k:Nat)(c:AX)(st:St):Option (Ex×St):=evX (orc T) T k c st
noncomputable abbrev R(T:Tbl)(l:List AO)(st:St):Option St:=Zfh (orc T) T l st
@[congr] theorem zabk{O:Orc}{c:AX}{st st':St}(h:st=st'):evX O T k c st=evX O T k c st':=by rw[h]
@[congr] theorem zabl{O:Orc}{op:AOp}{d:Option Nat}{st st':St}(h:st=st'):opX O T op d st=opX O T op d st':=by rw[h]
@[simp] theorem zak7:evX (orc T) T k .skip st=some (.n,st):=rfl
@[simp] theorem zam7{l:List AO}:evX (orc T) T k (.reg l) st=stX (Zfh (orc T) T l st):=rfl
@[simp] theorem zak8{l:List DO}:evX (orc T) T k (.draw l) st=stX (Zcd (orc T) T l st.env st.heap st.clk [] []):=rfl
@[simp] theorem zam8{a b:AX}:evX (orc T) T k (.seq a b) st=bX (evX (orc T) T k a st) fun s=>evX (orc T) T k b s:=rfl
@[simp] theorem zak9{c:Opd}{x y:AX}:evX (orc T) T k (.cond c x y) st=cnX (ev st.env.get c) (evX (orc T) T k x st) (evX (orc T) T k y st):=rfl
@[simp] theorem zahy{id:Nat}{c:AX}:evX (orc T) T k (.block id c) st=Zh8 id (evX (orc T) T k c st):=rfl
@[simp] theorem zala{c:AX}:evX (orc T) T k (.loop c) st=Zj4 T k c st:=rfl
def scX(o:Option (Ex×St)):Option (Ex×St):=o.bind fun r=>match r.1 with | .g _=>none | _=>some r
@[congr] theorem zabm{o o':Option (Ex×St)}(h:o=o'):scX o=scX o':=by rw[h]
@[simp] theorem zam9{s:St}:scX (some (.n,s))=some (.n,s):=rfl
@[simp] theorem zana{j:Nat}{s:St}:scX (some (.x j,s))=some (.x j,s):=rfl
@[simp] theorem zanb{s:St}:scX (some (.r,s))=some (.r,s):=rfl
@[simp] theorem zahz{c:Prop}[Decidable c]{a b:Option (Ex×St)}:scX (if c then a else b)=if c then scX a else scX b:=by split<;>rfl
@[simp] theorem zah0{c:AX}:evX (orc T) T k (.scope c) st=scX (evX (orc T) T k c st):=rfl
@[simp] theorem zah1{l:Nat}:evX (orc T) T k (.label l) st=some (.n,st):=rfl
@[simp] theorem zalb{l:Nat}:evX (orc T) T k (.goto l) st=some (.g l,st):=rfl
@[simp] theorem bX_g{l:Nat}{s:St}{f:St→Option (Ex×St)}:bX (some (.g l,s)) f=some (.g l,s):=rfl
@[simp] theorem zalc{id l:Nat}{s:St}:Zh8 id (some (.g l,s))=some (.g l,s):=rfl
@[simp] theorem zald{id:Nat}:evX (orc T) T k (.exit id) st=some (.x id,st):=rfl
@[simp] theorem zanc:evX (orc T) T k .ret st=some (.r,st):=rfl
@[simp] theorem zale{c:AX}{g:Gh}:evX (orc T) T k (.note c g) st=bX (evX (orc T) T k c st) fun s=>stX (ghS k g s):=rfl
def prX(o:Option St)(f:St→Option (Ex×St)):Option (Ex×St):=o.bind f
@[simp] theorem zaez{s:St}{f:St→Option (Ex×St)}:prX (some s) f=f s:=rfl
@[simp] theorem zand{c:AX}{g:Gh}:evX (orc T) T k (.pre g c) st=prX (ghS k g st) fun s=>evX (orc T) T k c s:=rfl
noncomputable def Zdg(k id:Nat)(g2:Gh)(o:Option (Ex×St)):Option (Ex×St):=bX (Zh8 id o) fun s=>stX (ghS k g2 s)
noncomputable def Ze(T:Tbl)(k id:Nat)(g2:Gh)(c:AX)(st:St):Option (Ex×St):=Zdg k id g2 (Zj4 T k c st)
@[congr] theorem z6j{id:Nat}{g2:Gh}{c:AX}{st st':St}(h:st=st'):Ze T k id g2 c st=Ze T k id g2 c st':=by rw[h]
@[congr] theorem z9q{id:Nat}{g2:Gh}{o o':Option (Ex×St)}(h:o=o'):Zdg k id g2 o=Zdg k id g2 o':=by rw[h]
@[simp] theorem zalf{id j:Nat}{g2:Gh}{s:St}:Zdg k id g2 (some (.x j,s))=if j=id then stX (ghS k g2 s) else some (.x j,s):=by
 unfold Zdg;rw[zabi];split<;>simp
@[simp] theorem zalg{id:Nat}{g2:Gh}{s:St}:Zdg k id g2 (some (.r,s))=some (.r,s):=rfl
@[simp] theorem X_lp{id:Nat}{g g2:Gh}{c:AX}:evX (orc T) T k (.lp id g c g2) st=prX (ghS k g st) fun s=>Ze T k id g2 c s:=by
 simp only[evX,prX,Ze,Zdg,bX,Zh8,stX,Zj4];cases ghS k g st with
 | none=>rfl
 | some s=>
  simp only[Yak];cases (orc T).loop k c s with
  | none=>rfl
  | some r=>
   obtain⟨e,s'⟩:=r;cases e with
   | n=>rfl
   | r=>rfl
   | g l=>rfl
   | x j=>
    simp only[Yak];split<;>rfl
def Zd4:Option (Ex×St)→Bool
 | some (.x _,_)=>true
 | some (.r,_)=>true
 | _=>false
@[simp] theorem zalh{j:Nat}{s:St}:Zd4 (some (.x j,s))=true:=rfl
@[simp] theorem zali{s:St}:Zd4 (some (.r,s))=true:=rfl
@[congr] theorem z9r{o o':Option (Ex×St)}(h:o=o'):Zd4 o=Zd4 o':=by rw[h]
theorem zsc{c:AX}:Zj4 T k c st=bX (evX (orc T) T k c st) fun s=>Zj4 T k c s:=z2d T k c st
theorem zay{α:Type}{id:Nat}{g2:Gh}{c:AX}(F:α→St)(I:α→Prop)(μ:α→Nat)(Q:Ex×St→Prop)
  (step:∀x,I x→(∃y,I y∧μ y<μ x∧evX (orc T) T k c (F x)=some (.n,F y))∨(∃r,Q r∧Zd4 (evX (orc T) T k c (F x))=true∧Zdg k id g2 (evX (orc T) T k c (F x))=some r)) :
  ∀x,I x→∃r,Q r∧Ze T k id g2 c (F x)=some r:=by
 have key:∀n x,μ x=n→I x→∃r,Q r∧Ze T k id g2 c (F x)=some r:=by
  intro n
  induction n using Nat.strongRecOn with
  | _ n ih=>
   intro x hn hI;unfold Ze;rw[zsc];rcases step x hI with ⟨y,h1,h2,h3⟩ | ⟨r,h1,h2,h3⟩
   ·rw[h3,bX_n];exact ih (μ y) (hn▸h2) y rfl h1
   ·refine⟨r,h1,?_⟩;rw[←h3];generalize evX (orc T) T k c (F x)=o at h2 ⊢;cases o with
    | none=>cases h2
    | some q=>
     obtain⟨e,s⟩:=q;cases e
     ·cases h2
     ·rfl
     ·rfl
     ·cases h2
 exact fun x hI=>key _ x rfl hI
theorem zav{α:Type}{id:Nat}{g2:Gh}{c:AX}(F:α→St)(I:α→Prop)(μ:α→Nat)(G:α→Option (Ex×St))
  (step:∀x,I x→(∃y,I y∧μ y<μ x∧evX (orc T) T k c (F x)=some (.n,F y)∧G y=G x)∨(Zd4 (evX (orc T) T k c (F x))=true∧Zdg k id g2 (evX (orc T) T k c (F x))=G x)) :
  ∀x,I x→Ze T k id g2 c (F x)=G x:=by
 have key:∀n x,μ x=n→I x→Ze T k id g2 c (F x)=G x:=by
  intro n
  induction n using Nat.strongRecOn with
  | _ n ih=>
   intro x hn hI;unfold Ze;rw[zsc];rcases step x hI with ⟨y,h1,h2,h3,h4⟩ | ⟨h2,h3⟩
   ·rw[h3,bX_n,←h4];exact ih (μ y) (hn▸h2) y rfl h1
   ·rw[←h3];generalize evX (orc T) T k c (F x)=o at h2 ⊢;cases o with
    | none=>cases h2
    | some q=>
     obtain⟨e,s⟩:=q;cases e
     ·cases h2
     ·rfl
     ·rfl
     ·cases h2
 exact fun x hI=>key _ x rfl hI
@[simp] theorem zane:Zfh (orc T) T [] st=some st:=rfl
@[simp] theorem zalj{d:Option Nat}{op:AOp}{l:List AO}:Zfh (orc T) T (⟨d,none,op⟩::l) st=bS (opX (orc T) T op d st) fun s=>Zfh (orc T) T l s:=rfl
noncomputable def gS(T:Tbl)(x:AV)(want:Bool)(op:AOp)(d:Option Nat)(st:St):Option St:=gX (orc T) T x want op d st
@[congr] theorem zae0{x x':AV}{want:Bool}{op:AOp}(h:x=x'):gS T x want op d st=gS T x' want op d st:=by rw[h]
@[simp] theorem zah2{d:Option Nat}{op:AOp}{l:List AO}{t:Nat}{w:Bool}:Zfh (orc T) T (⟨d,some (t,w),op⟩::l) st=bS (gS T (st.env.get t) w op d st) fun s=>Zfh (orc T) T l s:=rfl
@[simp] theorem gS_b{v want:Bool}{op:AOp}:gS T (.b v) want op d st=if v=want then opX (orc T) T op d st else some ⟨Z3 st.env d (.tup []),st.heap,st.clk⟩:=rfl
@[simp] theorem zalk{vs:List AV}{want:Bool}{op:AOp}:gS T (.tup vs) want op d st=some ⟨Z3 st.env d (.tup []),st.heap,st.clk⟩:=rfl
@[simp] theorem zanf{x}:opX (orc T) T (.mov x) d st=some ⟨Z3 st.env d (ev st.env.get x),st.heap,st.clk⟩:=rfl
@[simp] theorem zall{c a b}:opX (orc T) T (.pick c a b) d st=pS (Zht (ev st.env.get c) (ev st.env.get a) (ev st.env.get b)) d st:=rfl
@[simp] theorem zah3{zs ps}:opX (orc T) T (.build zs ps) d st=pS ((Zhc zs (ps.map fun p=>(p.1,p.2.1,ev st.env.get p.2.2))).map .agg) d st:=rfl
@[simp] theorem zalm{n x}:opX (orc T) T (.load n x) d st=pS (Zga n st.heap (ev st.env.get x)) d st:=rfl
@[simp] theorem zang{o x y}:opX (orc T) T (.bin o x y) d st=pS (Zad o (ev st.env.get x) (ev st.env.get y)) d st:=rfl
@[simp] theorem zanh{g ls x y}:opX (orc T) T (.eqs g ls x y) d st=pS (Zix g ls (ev st.env.get x) (ev st.env.get y)) d st:=rfl
@[simp] theorem zani{g x y}:opX (orc T) T (.eqb g x y) d st=pS (Ziy g (ev st.env.get x) (ev st.env.get y)) d st:=rfl
@[simp] theorem O_un{o x}:opX (orc T) T (.un o x) d st=pS (Zhu o (ev st.env.get x)) d st:=rfl
@[simp] theorem zaln{n x}:opX (orc T) T (.conv n x) d st=pS (Zca n (ev st.env.get x)) d st:=rfl
@[simp] theorem zanj{z x lo hi mx}:opX (orc T) T (.slc z x lo hi mx) d st=pS (Zhd z st.heap (ev st.env.get x) (evO st.env.get lo) (evO st.env.get hi) (evO st.env.get mx)) d st:=rfl
@[simp] theorem zah4{x lo hi}:opX (orc T) T (.slstr x lo hi) d st=pS (Zfv (ev st.env.get x) (evO st.env.get lo) (evO st.env.get hi)) d st:=rfl
@[simp] theorem zank{o x}:opX (orc T) T (.fad o x) d st=pS (Zhv o st.heap (ev st.env.get x)) d st:=rfl
@[simp] theorem zanl{o n x}:opX (orc T) T (.fld o n x) d st=pS (Ziz o n (ev st.env.get x)) d st:=rfl
@[simp] theorem zanm{z x i}:opX (orc T) T (.iad z x i) d st=pS (Zhw z st.heap (ev st.env.get x) (ev st.env.get i)) d st:=rfl
@[simp] theorem zann{z n x i}:opX (orc T) T (.iaa z n x i) d st=pS (Zhx z n st.heap (ev st.env.get x) (ev st.env.get i)) d st:=rfl
@[simp] theorem zano{x i}:opX (orc T) T (.ixs x i) d st=pS (Zi0 (ev st.env.get x) (ev st.env.get i)) d st:=rfl
@[simp] theorem zanp{x}:opX (orc T) T (.len x) d st=pS (Zhy st.heap (ev st.env.get x)) d st:=rfl
@[simp] theorem zalo{x}:opX (orc T) T (.lens x) d st=pS (Zgy (ev st.env.get x)) d st:=rfl
@[simp] theorem O_mm{m xs}:opX (orc T) T (.mm m xs) d st=pS (Zlo m (xs.map (ev st.env.get))) d st:=rfl
@[simp] theorem zanq{x n}:opX (orc T) T (.ext x n) d st=pS (Zi1 n (ev st.env.get x)) d st:=rfl
@[simp] theorem zalp{x}:opX (orc T) T (.nilc x) d st=pS (Zgb st.heap (ev st.env.get x)) d st:=rfl
@[simp] theorem zah5{zs}:opX (orc T) T (.alloc zs) d st=pW (Zfw zs d st.heap st.clk) d st:=rfl
@[simp] theorem zah6{n x v}:opX (orc T) T (.store n x v) d st=pW ((Zdl n st.heap (ev st.env.get x) (ev st.env.get v)).map fun h'=>(.tup [],h',st.clk)) d st:=rfl
@[simp] theorem zanr{z zs l c}:opX (orc T) T (.mks z zs l c) d st=pW (Zhe z zs d st.heap st.clk (ev st.env.get l) (ev st.env.get c)) d st:=rfl
@[simp] theorem zans{z x y}:opX (orc T) T (.app z x y) d st=pW (Zj3 z d st.heap st.clk (ev st.env.get x) (ev st.env.get y)) d st:=rfl
@[simp] theorem zalq{n xs}:opX (orc T) T (.xop (.box n) xs) d st=pW (Zcq (.box n) (xs.map (ev st.env.get)) d st.heap st.clk) d st:=rfl
@[simp] theorem zalr{xs}:opX (orc T) T (.xop .cpy xs) d st=pW (Zcq .cpy (xs.map (ev st.env.get)) d st.heap st.clk) d st:=rfl
@[simp] theorem zah7{xs}:opX (orc T) T (.xop .bstr xs) d st=pW (Zcq .bstr (xs.map (ev st.env.get)) d st.heap st.clk) d st:=rfl
@[simp] theorem zah8{n xs}:opX (orc T) T (.xop (.arsl n) xs) d st=pW (Zcq (.arsl n) (xs.map (ev st.env.get)) d st.heap st.clk) d st:=rfl
@[simp] theorem zant{z zs n ps}:opX (orc T) T (.bsl z zs n ps) d st=pB (Zfc z zs n st.heap (ps.map fun p=>(p.1,ev st.env.get p.2))) d st:=rfl
@[simp] theorem zals{u args}:opX (orc T) T (.call u args) d st=Zd (orc T) T u (args.map (ev st.env.get)) d st:=rfl
def cR(r:Option AV)(xs:List AV)(d:Option Nat)(st:St):Option St:=
 r.map fun r=>⟨Z3 st.env d r,if scalar r then st.heap else Zh (xs.flatMap refs) st.heap,st.clk⟩
@[congr] theorem zae1{r r':Option AV}{xs:List AV}(h:r=r'):cR r xs d st=cR r' xs d st:=by rw[h]
@[simp] theorem zah9{r:AV}{xs:List AV}:cR (some r) xs d st=some ⟨Z3 st.env d r,if scalar r then st.heap else Zh (xs.flatMap refs) st.heap,st.clk⟩:=rfl
def bL(o:Option (List AV))(f:List AV→Option St):Option St:=o.bind f
@[congr] theorem zae2{o o':Option (List AV)}{f:List AV→Option St}(h:o=o'):bL o f=bL o' f:=by rw[h]
@[simp] theorem zaia{xs:List AV}{f:List AV→Option St}:bL (some xs) f=f xs:=rfl
def Zk8(h:Heap):List AV→Option (List AV)
 | []=>some []
 | x::l=>(Zbm h x).bind fun y=>(Zk8 h l).map fun ys=>y::ys
theorem zxx(h:Heap):∀l:List AV,l.mapM (Zbm h)=Zk8 h l
 | []=>rfl
 | x::l=>by simp only[Ybp,Zk8,zxx h l,Yci,Yc8,Option.map_eq_bind,Function.comp_def]
attribute [simp] Zk8 Ze4 Zaw Zcn
theorem zab{u:Nat}{xs:List AV}{np nt:Nat}{res:List RV}{b:AX}{ex:Bool}(hT:T u=some ⟨np,nt,res,b,none,ex⟩) :
  Zd (orc T) T u xs d st=bL (Zk8 st.heap xs) fun ys=>cR (Za T u (ys.map (wkIf ex))) xs d st:=by
 unfold Zd bL cR Za;rw[hT];simp only[zxx];congr 1
 funext ys
 cases (orc T).call u (ys.map (wkIf ex)) []<;>rfl
theorem zaa{u:Nat}{xs:List AV}{np nt:Nat}{res:List RV}{b:AX}{ex:Bool}(hT:T u=some ⟨np,nt,res,b,none,ex⟩)(hn:xs.length=np)(hp:b.isPrim=none:=by rfl) :
  Za T u xs=Zj5 res ex (evX (orc T) T 0 b ⟨Zdd xs,[],1⟩):=by
 unfold Za Zj5;rw[zmd];simp only[Zdw,hT,hp];rw[if_pos ⟨hn,by simp⟩];simp only[Yav,Yan];cases evX (orc T) T 0 b ⟨Zdd xs,[],1⟩ with
 | none=>rfl
 | some r=>
  obtain⟨e,s⟩:=r;cases e<;>simp only[Yak,Zl2,Yel]<;>(cases Zdm s res<;>simp only[Option.bind_none,Yel,Yak]<;>cases frz s.heap _<;>rfl)
theorem zhe{u:Nat}{xs:List AV}{np nt:Nat}{res:List RV}{f:List AV→Option AV}{ex:Bool}(hT:T u=some ⟨np,nt,res,.prim f,none,ex⟩):Za T u xs=f xs:=by
 unfold Za;rw[zmd];simp only[Zdw,hT,AX.isPrim];cases f xs<;>simp
theorem za3{u:Nat}{xs:List AV}{hb:Heap}{np nt:Nat}{res:List RV}{b:AX}{ms:List Bool}{ex:Bool}(hT:T u=some ⟨np,nt,res,b,some ms,ex⟩)(hn:xs.length=np)(hp:b.isPrim=none:=by rfl) :
  Zbp T u xs hb=Zkm res ex hb.length (evX (orc T) T hb.length b ⟨Zdd xs,hb,hb.length+1⟩):=by
 unfold Zbp Zkm;rw[zmd];simp only[Zdw,hT,hp];rw[if_pos ⟨hn,by simp⟩];cases evX (orc T) T hb.length b ⟨Zdd xs,hb,hb.length+1⟩ with
 | none=>rfl
 | some r=>
  obtain⟨e,s⟩:=r;cases e<;>simp only[Yak,Zl2]<;>(cases Zdm s res<;>rfl)
def Zl4(l:List BId)(hp h1:Heap)(r:Option (AV×Heap))(d:Option Nat)(st:St):Option St:=
 r.bind fun r=>
  let hb':=r.2.map fun p=>(Zb0 l (d.getD 0) p.1,Zay true (Zb0 l (d.getD 0)) (Zb8 hp st.clk) p.2)
  let r':=rlA (Zb0 l (d.getD 0)) (Zb8 hp st.clk) r.1
  if (hb'.map (·.1)).Nodup&&Zdb hb' r'&&Zh2 hb' then
   some ⟨Z3 st.env d r',hb'++(h1.filter fun p=>!(l.contains p.1 || (hb'.map (·.1)).contains p.1)),st.clk+r.2.length+2⟩
  else none
@[congr] theorem z9s{l:List BId}{hp h1:Heap}{r r':Option (AV×Heap)}(h:r=r'):Zl4 l hp h1 r d st=Zl4 l hp h1 r' d st:=by rw[h]
noncomputable def Zed(ys:List AV)(h1:Heap)(l:List BId)(T:Tbl)(u:Nat)(ex:Bool)(d:Option Nat)(st:St):Option St:=
 if (Zeu h1 l).map (·.1)=l∧l.Nodup then
  Zl4 l (Zeu h1 l) h1 (Zbp T u (ys.map fun y=>rlA (inN l) (inG (Zeu h1 l)) (wkIf ex y)) ((Zeu h1 l).map fun p=>(inN l p.1,Zay ex (inN l) (inG (Zeu h1 l)) p.2))) d st
 else none
@[simp] theorem zabn{l:List BId}{hp h1:Heap}{r:AV}{h2:Heap}:Zl4 l hp h1 (some (r,h2)) d st =
  (if ((h2.map fun p=>(Zb0 l (d.getD 0) p.1,Zay true (Zb0 l (d.getD 0)) (Zb8 hp st.clk) p.2)).map (·.1)).Nodup&&Zdb (h2.map fun p=>(Zb0 l (d.getD 0) p.1,Zay true (Zb0 l (d.getD 0)) (Zb8 hp st.clk) p.2)) (rlA (Zb0 l (d.getD 0)) (Zb8 hp st.clk) r)&&Zh2 (h2.map fun p=>(Zb0 l (d.getD 0) p.1,Zay true (Zb0 l (d.getD 0)) (Zb8 hp st.clk) p.2)) then
   some ⟨Z3 st.env d (rlA (Zb0 l (d.getD 0)) (Zb8 hp st.clk) r),(h2.map fun p=>(Zb0 l (d.getD 0) p.1,Zay true (Zb0 l (d.getD 0)) (Zb8 hp st.clk) p.2))++(h1.filter fun p=>!(l.contains p.1 || ((h2.map fun p=>(Zb0 l (d.getD 0) p.1,Zay true (Zb0 l (d.getD 0)) (Zb8 hp st.clk) p.2)).map (·.1)).contains p.1)),st.clk+h2.length+2⟩
  else none):=rfl
attribute [simp] Zed Zb0 Zb8 inN inG Zfn Zh2
theorem zas{u:Nat}{xs:List AV}{np nt:Nat}{res:List RV}{b:AX}{ms:List Bool}{ex:Bool}(hT:T u=some ⟨np,nt,res,b,some ms,ex⟩) :
  Zd (orc T) T u xs d st=bL (Ze4 st.heap ms xs) fun ys=>Zed ys (Zh (Zaw ms xs) st.heap) (Zcz (Zh (Zaw ms xs) st.heap) 40 (Zcn ms xs) []) T u ex d st:=by
 unfold Zd bL Zed Zl4 Zbp;rw[hT]
def bD(o:Option (AV×Bool))(f:AV×Bool→Option St):Option St:=o.bind f
@[congr] theorem zae3{o o':Option (AV×Bool)}{f:AV×Bool→Option St}(h:o=o'):bD o f=bD o' f:=by rw[h]
@[simp] theorem zaib{e:AV×Bool}{f:AV×Bool→Option St}:bD (some e) f=f e:=rfl
def bWr(o:Option (AV×Heap×Nat))(f:AV×Heap×Nat→Option St):Option St:=o.bind f
@[congr] theorem zabo{o o':Option (AV×Heap×Nat)}{f:AV×Heap×Nat→Option St}(h:o=o'):bWr o f=bWr o' f:=by rw[h]
@[simp] theorem zae4{q:AV×Heap×Nat}{f:AV×Heap×Nat→Option St}:bWr (some q) f=f q:=rfl
def iP(b:Bool)(x:Option St):Option St:=if b then x else none
@[congr] theorem zae5{b b':Bool}{x:Option St}(h:b=b'):iP b x=iP b' x:=by rw[h]
@[simp] theorem zaic{x:Option St}:iP true x=x:=rfl
@[simp] theorem z9t{h:Heap}:Zdf [] h=true:=by
 classical
 unfold Zdf;exact decide_eq_true fun p hp=>by cases hp
@[simp] theorem z6k{q:AOp×Env×AV}{l:Zcv}{h:Heap}:Zdf ((0,q)::l) h=Zdf l h:=by
 classical
 unfold Zdf;refine decide_eq_decide.2 ⟨fun h1 p hp=>h1 p (Yq _ hp),fun h1 p hp h0=>?_⟩;rcases Y7.1 hp with rfl | hp
 ·cases h0
 ·exact h1 p hp h0
@[simp] theorem zql{n:Nat}{op:AOp}{e:Env}{x:AV}{l:Zcv}{h:Heap}(hs:Zh7 op e.get h=some x):Zdf ((n,op,e,x)::l) h=Zdf l h:=by
 classical
 unfold Zdf;refine decide_eq_decide.2 ⟨fun h1 p hp=>h1 p (Yq _ hp),fun h1 p hp h0=>?_⟩;rcases Y7.1 hp with rfl | hp
 ·exact hs
 ·exact h1 p hp h0
theorem zt1{op:AOp}{e:Env}{older:List Heap}{x:AV}(hf:op.free=true):Zfd op e older x=true:=by unfold Zfd;rw[hf];rfl
theorem zxy{op:AOp}{e:Env}{x:AV}:Zfd op e [] x=true:=by
 classical
 unfold Zfd;rw[Ycc];exact .inr (decide_eq_true fun h' hh=>by cases hh)
theorem zt2{op:AOp}{e:Env}{h:Heap}{older:List Heap}{x:AV}(h1:Zt op e.get h=some x):Zfd op e (h::older) x=Zfd op e older x:=by
 classical
 unfold Zfd;congr 1;refine decide_eq_decide.2 ?_;simp only[Y7,forall_eq_or_imp,h1,true_and]
noncomputable def rD(T:Tbl)(q:Option (Nat×List AV))(o:DO)(r:List DO)(e:Env)(h:Heap)(clk:Nat)(older:List Heap)(pend:Zcv):Option St:=
 match q with
 | none=>bD (qX (orc T) T o.ao e h (older.take (older.length-o.lo))) fun x=>Zcd (orc T) T r (Z3 e o.ao.dst x.1) h clk older (Zfx o older.length e x pend)
 | some p=>(Zfo (orc T) T p.1 p.2).bind fun x=>Zcd (orc T) T r (Z3 e o.ao.dst x) h clk older (if older.length<o.hi then (o.hi-older.length,o.ao.op,e,.tup p.2)::pend else pend)
@[simp] theorem zaid{o:DO}{r:List DO}{e:Env}{h:Heap}{clk:Nat}{older:List Heap}{pend:Zcv}:rD T none o r e h clk older pend=bD (qX (orc T) T o.ao e h (older.take (older.length-o.lo))) fun x=>Zcd (orc T) T r (Z3 e o.ao.dst x.1) h clk older (Zfx o older.length e x pend):=rfl
noncomputable def bAV(o:Option AV)(f:AV→Option St):Option St:=o.bind f
@[congr] theorem zabp{o o':Option AV}{f:AV→Option St}(h:o=o'):bAV o f=bAV o' f:=by rw[h]
@[simp] theorem zae6{x:AV}{f:AV→Option St}:bAV (some x) f=f x:=rfl
@[simp] theorem zaie{u:Nat}{ys:List AV}{o:DO}{r:List DO}{e:Env}{h:Heap}{clk:Nat}{older:List Heap}{pend:Zcv}:rD T (some (u,ys)) o r e h clk older pend=bAV (Zfo (orc T) T u ys) fun x=>Zcd (orc T) T r (Z3 e o.ao.dst x) h clk older (if older.length<o.hi then (o.hi-older.length,o.ao.op,e,.tup ys)::pend else pend):=rfl
theorem zme{u:Nat}{ys:List AV}{np nt:Nat}{res:List RV}{b:AX}{ex:Bool}(hT:T u=some ⟨np,nt,res,b,none,ex⟩):Zfo (orc T) T u ys=Za T u (ys.map (wkIf ex)):=by
 unfold Zfo Za;rw[hT]
 rfl
open Classical in
noncomputable def rK(u:Nat)(xs ys:List AV)(older:List Heap):Option (Nat×List AV):=if decide (∀h'∈older,Zck h' xs=some ys)=true then some (u,ys) else none
@[simp] theorem zalt{u:Nat}{xs ys:List AV}:rK u xs ys []=some (u,ys):=by
 classical
 unfold rK;rw[if_pos (decide_eq_true fun h' hh=>by cases hh)]
@[simp] theorem zaif{g:Option (Nat×Bool)}{e:Env}{h:Heap}{older:List Heap}:Zh6 g none e h older=none:=by cases g<;>rfl
@[simp] theorem zaig{g:Nat×Bool}{c:Option (Nat×List Opd)}{e:Env}{h:Heap}{older:List Heap}:Zh6 (some g) c e h older=none:=by cases c<;>rfl
noncomputable def rC(c:Bool)(u:Nat)(xs:List AV)(h:Heap)(older:List Heap):Option (Nat×List AV):=
 match c with
 | true=>none
 | false=>(Zck h xs).bind fun ys=>rK u xs ys older
@[congr] theorem zae7{c c':Bool}{u:Nat}{xs:List AV}{h:Heap}{older:List Heap}(h1:c=c'):rC c u xs h older=rC c' u xs h older:=by rw[h1]
@[simp] theorem zaih{u:Nat}{xs:List AV}{h:Heap}{older:List Heap}:rC true u xs h older=none:=rfl
@[simp] theorem zae8{u:Nat}{xs:List AV}{h:Heap}{older:List Heap}:rC false u xs h older=(Zck h xs).bind fun ys=>rK u xs ys older:=rfl
@[simp] theorem zabq{q:Nat×List Opd}{e:Env}{h:Heap}{older:List Heap}:Zh6 none (some q) e h older=rC ((q.2.map (ev e.get)).all noRef) q.1 (q.2.map (ev e.get)) h older:=by
 classical
 unfold Zh6 Zlz rC;cases hc:(q.2.map (ev e.get)).all noRef with
 | true=>simp only[hc,if_true,Yel]
 | false=>
  simp only[hc,Y2,if_false];cases Zck h (q.2.map (ev e.get)) with
  | none=>rfl
  | some ys=>
   simp only[Yak,rK];split<;>rfl
noncomputable def dX(T:Tbl)(wr:Bool)(o:DO)(r:List DO)(e:Env)(h:Heap)(clk:Nat)(older:List Heap)(pend:Zcv):Option St:=
 match wr with
 | true=>if o.ao.guard.isNone then bWr (stepW o.ao.op o.ao.dst e.get h clk) fun q=>iP (Zdf pend q.2.1) (Zcd (orc T) T r (Z3 e o.ao.dst q.1) q.2.1 q.2.2 (h::older) (pend.map fun p=>(p.1-1,p.2))) else none
 | false=>rD T (Zh6 o.ao.guard o.ao.op.callN e h (older.take (older.length-o.lo))) o r e h clk older pend
@[congr] theorem z6l{l:List DO}{e e':Env}{h h':Heap}{clk clk':Nat}{older older':List Heap}{pend pend':Zcv}(h1:e=e')(h2:h=h')(h3:clk=clk')(h4:older=older')(h5:pend=pend'):Zcd (orc T) T l e h clk older pend=Zcd (orc T) T l e' h' clk' older' pend':=by rw[h1,h2,h3,h4,h5]
@[simp] theorem zabr{e:Env}{h:Heap}{clk:Nat}{older:List Heap}{pend:Zcv}:Zcd (orc T) T [] e h clk older pend=some ⟨e,h,clk⟩:=rfl
@[simp] theorem z9u{o:DO}{r:List DO}{e:Env}{h:Heap}{clk:Nat}{older:List Heap}{pend:Zcv}:Zcd (orc T) T (o::r) e h clk older pend=dX T o.ao.op.writes o r e h clk older pend:=by
 unfold dX;rw[Zcd];cases o.ao.op.writes with
 | true=>rfl
 | false=>
  unfold rD;simp only;cases Zh6 o.ao.guard o.ao.op.callN e h (older.take (older.length-o.lo))<;>rfl
@[simp] theorem zaii{o:DO}{r:List DO}{e:Env}{h:Heap}{clk:Nat}{older:List Heap}{pend:Zcv}:dX T true o r e h clk older pend=if o.ao.guard.isNone then bWr (stepW o.ao.op o.ao.dst e.get h clk) fun q=>iP (Zdf pend q.2.1) (Zcd (orc T) T r (Z3 e o.ao.dst q.1) q.2.1 q.2.2 (h::older) (pend.map fun p=>(p.1-1,p.2))) else none:=rfl
@[simp] theorem zae9{o:DO}{r:List DO}{e:Env}{h:Heap}{clk:Nat}{older:List Heap}{pend:Zcv}:dX T false o r e h clk older pend=rD T (Zh6 o.ao.guard o.ao.op.callN e h (older.take (older.length-o.lo))) o r e h clk older pend:=rfl
def dV(o:Option AV):Option (AV×Bool):=o.map fun x=>(x,true)
@[simp] theorem zaij{x:AV}:dV (some x)=some (x,true):=rfl
@[simp] theorem zaik:dV none=none:=rfl
@[simp] theorem zail{op:AOp}{e:Env}{h:Heap}{older:List Heap}:qX (orc T) T ⟨d,none,op⟩ e h older=dV (opD (orc T) T op e h older):=rfl
noncomputable def gD(T:Tbl)(x:AV)(want:Bool)(op:AOp)(e:Env)(h:Heap)(older:List Heap):Option (AV×Bool):=
 match x with
 | .b v=>if v=want then dV (opD (orc T) T op e h older) else some (.tup [],false)
 | .tup []=>some (.tup [],false)
 | _=>none
@[congr] theorem zafa{x x':AV}{want:Bool}{op:AOp}{e:Env}{h:Heap}{older:List Heap}(h1:x=x'):gD T x want op e h older=gD T x' want op e h older:=by rw[h1]
@[simp] theorem zaim{t:Nat}{want:Bool}{op:AOp}{e:Env}{h:Heap}{older:List Heap}:qX (orc T) T ⟨d,some (t,want),op⟩ e h older=gD T (e.get t) want op e h older:=rfl
@[simp] theorem gD_b{v want:Bool}{op:AOp}{e:Env}{h:Heap}{older:List Heap}:gD T (.b v) want op e h older=if v=want then dV (opD (orc T) T op e h older) else some (.tup [],false):=rfl
@[simp] theorem zalu{want:Bool}{op:AOp}{e:Env}{h:Heap}{older:List Heap}:gD T (.tup []) want op e h older=some (.tup [],false):=rfl
noncomputable def dC(o:Option AV)(op:AOp)(older:List Heap)(e:Env):Option AV:=o.bind fun x=>if Zfd op e older x then some x else none
@[congr] theorem zafb{o o':Option AV}{op:AOp}{older:List Heap}{e:Env}(h1:o=o'):dC o op older e=dC o' op older e:=by rw[h1]
@[simp] theorem zalv{x:AV}{op:AOp}{e:Env}:dC (some x) op [] e=some x:=by
 unfold dC;rw[Yak,zxy]
 rfl
theorem z6m{x:AV}{op:AOp}{h:Heap}{older:List Heap}{e:Env}(h1:Zt op e.get h=some x):dC (some x) op (h::older) e=dC (some x) op older e:=by
 unfold dC;rw[Yak,Yak,zt2 h1]
theorem zb6{op:AOp}{h:Heap}{older:List Heap}{e:Env}(hf:op.free=true):((Zt op e.get h).bind fun x=>if Zfd op e older x then some x else none)=Zt op e.get h:=by
 cases Zt op e.get h with
 | none=>rfl
 | some x=>rw[Yak,zt1 hf];rfl
@[simp] theorem zanu{x}{e:Env}{h:Heap}{older:List Heap}:opD (orc T) T (.mov x) e h older=some (ev e.get x):=zb6 (op:=.mov x) (h:=h) (older:=older) (e:=e) rfl
@[simp] theorem z42{z n y}:(AOp.app z (.t n) y).writes=true:=rfl
@[simp] theorem z9v{z n y}:(AOp.app z (.t n) y).free=false:=rfl
@[simp] theorem z6n{z n y}:(AOp.app z (.t n) y).maker=true:=rfl
@[simp] theorem zalw{c a b}{e:Env}{h:Heap}{older:List Heap}:opD (orc T) T (.pick c a b) e h older=Zht (ev e.get c) (ev e.get a) (ev e.get b):=zb6 (op:=.pick c a b) (h:=h) (older:=older) (e:=e) rfl
@[simp] theorem zain{zs ps}{e:Env}{h:Heap}{older:List Heap}:opD (orc T) T (.build zs ps) e h older=(Zhc zs (ps.map fun p=>(p.1,p.2.1,ev e.get p.2.2))).map .agg:=zb6 (op:=.build zs ps) (h:=h) (older:=older) (e:=e) rfl
@[simp] theorem zanv{o x y}{e:Env}{h:Heap}{older:List Heap}:opD (orc T) T (.bin o x y) e h older=Zad o (ev e.get x) (ev e.get y):=zb6 (op:=.bin o x y) (h:=h) (older:=older) (e:=e) rfl
@[simp] theorem zanw{g ls x y}{e:Env}{h:Heap}{older:List Heap}:opD (orc T) T (.eqs g ls x y) e h older=Zix g ls (ev e.get x) (ev e.get y):=zb6 (op:=.eqs g ls x y) (h:=h) (older:=older) (e:=e) rfl
@[simp] theorem zanx{g x y}{e:Env}{h:Heap}{older:List Heap}:opD (orc T) T (.eqb g x y) e h older=Ziy g (ev e.get x) (ev e.get y):=zb6 (op:=.eqb g x y) (h:=h) (older:=older) (e:=e) rfl
@[simp] theorem D_un{o x}{e:Env}{h:Heap}{older:List Heap}:opD (orc T) T (.un o x) e h older=Zhu o (ev e.get x):=zb6 (op:=.un o x) (h:=h) (older:=older) (e:=e) rfl
@[simp] theorem zalx{k x}{e:Env}{h:Heap}{older:List Heap}:opD (orc T) T (.conv k x) e h older=Zca k (ev e.get x):=zb6 (op:=.conv k x) (h:=h) (older:=older) (e:=e) rfl
@[simp] theorem zaio{x lo hi}{e:Env}{h:Heap}{older:List Heap}:opD (orc T) T (.slstr x lo hi) e h older=Zfv (ev e.get x) (evO e.get lo) (evO e.get hi):=zb6 (op:=.slstr x lo hi) (h:=h) (older:=older) (e:=e) rfl
@[simp] theorem zany{o n x}{e:Env}{h:Heap}{older:List Heap}:opD (orc T) T (.fld o n x) e h older=Ziz o n (ev e.get x):=zb6 (op:=.fld o n x) (h:=h) (older:=older) (e:=e) rfl
@[simp] theorem zanz{x i}{e:Env}{h:Heap}{older:List Heap}:opD (orc T) T (.ixs x i) e h older=Zi0 (ev e.get x) (ev e.get i):=zb6 (op:=.ixs x i) (h:=h) (older:=older) (e:=e) rfl
@[simp] theorem zaly{x}{e:Env}{h:Heap}{older:List Heap}:opD (orc T) T (.lens x) e h older=Zgy (ev e.get x):=zb6 (op:=.lens x) (h:=h) (older:=older) (e:=e) rfl
@[simp] theorem D_mm{m xs}{e:Env}{h:Heap}{older:List Heap}:opD (orc T) T (.mm m xs) e h older=Zlo m (xs.map (ev e.get)):=zb6 (op:=.mm m xs) (h:=h) (older:=older) (e:=e) rfl
@[simp] theorem zan0{x n}{e:Env}{h:Heap}{older:List Heap}:opD (orc T) T (.ext x n) e h older=Zi1 n (ev e.get x):=zb6 (op:=.ext x n) (h:=h) (older:=older) (e:=e) rfl
@[simp] theorem zalz{n x}{e:Env}{h:Heap}{older:List Heap}:opD (orc T) T (.load n x) e h older=dC (Zga n h (ev e.get x)) (.load n x) older e:=rfl
@[simp] theorem zan1{z x lo hi mx}{e:Env}{h:Heap}{older:List Heap}:opD (orc T) T (.slc z x lo hi mx) e h older=dC (Zhd z h (ev e.get x) (evO e.get lo) (evO e.get hi) (evO e.get mx)) (.slc z x lo hi mx) older e:=rfl
@[simp] theorem zan2{o x}{e:Env}{h:Heap}{older:List Heap}:opD (orc T) T (.fad o x) e h older=dC (Zhv o h (ev e.get x)) (.fad o x) older e:=rfl
@[simp] theorem zan3{z x i}{e:Env}{h:Heap}{older:List Heap}:opD (orc T) T (.iad z x i) e h older=dC (Zhw z h (ev e.get x) (ev e.get i)) (.iad z x i) older e:=rfl
@[simp] theorem zan4{z n x i}{e:Env}{h:Heap}{older:List Heap}:opD (orc T) T (.iaa z n x i) e h older=dC (Zhx z n h (ev e.get x) (ev e.get i)) (.iaa z n x i) older e:=rfl
@[simp] theorem zan5{x}{e:Env}{h:Heap}{older:List Heap}:opD (orc T) T (.len x) e h older=dC (Zhy h (ev e.get x)) (.len x) older e:=rfl
@[simp] theorem zal0{x}{e:Env}{h:Heap}{older:List Heap}:opD (orc T) T (.nilc x) e h older=dC (Zgb h (ev e.get x)) (.nilc x) older e:=rfl
def dR(r:Option AV)(xs:List AV):Option AV:=if xs.all noRef then r else none
@[congr] theorem zafc{r r':Option AV}{xs:List AV}(h1:r=r'):dR r xs=dR r' xs:=by rw[h1]
@[simp] theorem zaip{r:AV}{xs:List AV}:dR (some r) xs=if xs.all noRef then some r else none:=rfl
theorem zaf{u:Nat}{args:List Opd}{np nt:Nat}{res:List RV}{b:AX}{ex:Bool}{e:Env}{h:Heap}{older:List Heap}(hT:T u=some ⟨np,nt,res,b,none,ex⟩) :
  opD (orc T) T (.call u args) e h older=dR (Za T u ((args.map (ev e.get)).map (wkIf ex))) (args.map (ev e.get)):=by
 unfold dR Za;simp only[opD,hT,Option.isNone_none,Yc9]
@[simp] theorem zan6{z zs n ps}{e:Env}{h:Heap}{older:List Heap}:opD (orc T) T (.bsl z zs n ps) e h older=if (ps.map fun p=>(p.1,ev e.get p.2)).all (fun p=>noRef p.2) then (Zfc z zs n [] (ps.map fun p=>(p.1,ev e.get p.2))).map (·.1) else none:=rfl
@[congr] theorem z6o{tl l:List AO}{e e':Env}{h h':Heap}{clk clk':Nat}(h1:e=e')(h2:h=h')(h3:clk=clk'):Zev (orc T) T tl l e h clk=Zev (orc T) T tl l e' h' clk':=by rw[h1,h2,h3]
@[simp] theorem zabs{tl:List AO}{e:Env}{h:Heap}{clk:Nat}:Zev (orc T) T tl [] e h clk=Zfh (orc T) T tl ⟨e,h,clk⟩:=rfl
@[simp] theorem z9w{tl r:List AO}{o:AO}{e:Env}{h:Heap}{clk:Nat}:Zev (orc T) T tl (o::r) e h clk=bD (qX (orc T) T o e h []) fun x=>Zev (orc T) T tl r (Z3 e o.dst x.1) h clk:=rfl
@[congr] theorem z6p{tl l:List AO}{h0:Heap}{c0:Nat}{X:Heap}{e e':Env}{h h':Heap}{clk clk':Nat}(h1:e=e')(h2:h=h')(h3:clk=clk'):Zbc (orc T) T tl h0 c0 X l e h clk=Zbc (orc T) T tl h0 c0 X l e' h' clk':=by rw[h1,h2,h3]
@[simp] theorem zabt{tl:List AO}{h0:Heap}{c0:Nat}{X:Heap}{e:Env}{h:Heap}{clk:Nat}:Zbc (orc T) T tl h0 c0 X [] e h clk=Zfh (orc T) T tl ⟨e,h,clk⟩:=rfl
noncomputable def kM(T:Tbl)(tl:List AO)(h0:Heap)(c0:Nat)(X:Heap)(op:AOp)(d:Nat)(r:List AO)(e:Env)(h:Heap)(q:Option (AV×Heap×Nat)):Option St:=
 q.bind fun q=>if ((h.lookup (.loc d)).isNone&&Zjp c0 op e q.2.1)=true then Zbc (orc T) T tl h0 c0 X r (Z3 e (some d) q.1) (q.2.1++h) q.2.2 else none
@[simp] theorem zaiq{tl:List AO}{h0:Heap}{c0:Nat}{X:Heap}{op:AOp}{d:Nat}{r:List AO}{e:Env}{h:Heap}{q:AV×Heap×Nat}:kM T tl h0 c0 X op d r e h (some q)=if ((h.lookup (.loc d)).isNone&&Zjp c0 op e q.2.1)=true then Zbc (orc T) T tl h0 c0 X r (Z3 e (some d) q.1) (q.2.1++h) q.2.2 else none:=rfl
noncomputable def kN(T:Tbl)(tl:List AO)(h0:Heap)(c0:Nat)(X:Heap)(op:AOp)(d:Nat)(r:List AO)(e:Env)(h:Heap)(q:Option (AV×Heap×Nat)):Option St:=
 q.bind fun q=>if Zjp c0 op e (q.2.1.take 1)=true then Zbc (orc T) T tl h0 c0 X r (Z3 e (some d) q.1) (q.2.1.take 1++h) q.2.2 else none
@[simp] theorem zair{tl:List AO}{h0:Heap}{c0:Nat}{X:Heap}{op:AOp}{d:Nat}{r:List AO}{e:Env}{h:Heap}{q:AV×Heap×Nat}:kN T tl h0 c0 X op d r e h (some q)=if Zjp c0 op e (q.2.1.take 1)=true then Zbc (orc T) T tl h0 c0 X r (Z3 e (some d) q.1) (q.2.1.take 1++h) q.2.2 else none:=rfl
noncomputable def uX(T:Tbl)(w:Option (BId×Box))(tl:List AO)(h0:Heap)(c0:Nat)(X:Heap)(op:AOp)(d:Nat)(r:List AO)(e:Env)(h:Heap)(clk:Nat):Option St:=
 match w with
 | none=>kM T tl h0 c0 X op d r e h (stepW op (some d) e.get [] clk)
 | some p=>kN T tl h0 c0 X op d r e h (stepW op (some d) e.get [p] clk)
@[congr] theorem zafd{w w':Option (BId×Box)}{tl:List AO}{h0:Heap}{c0:Nat}{X:Heap}{op:AOp}{d:Nat}{r:List AO}{e:Env}{h:Heap}{clk:Nat}(h1:w=w'):uX T w tl h0 c0 X op d r e h clk=uX T w' tl h0 c0 X op d r e h clk:=by rw[h1]
@[simp] theorem zais{tl:List AO}{h0:Heap}{c0:Nat}{X:Heap}{op:AOp}{d:Nat}{r:List AO}{e:Env}{h:Heap}{clk:Nat}:uX T none tl h0 c0 X op d r e h clk=kM T tl h0 c0 X op d r e h (stepW op (some d) e.get [] clk):=rfl
@[simp] theorem zait{tl:List AO}{h0:Heap}{c0:Nat}{X:Heap}{op:AOp}{d:Nat}{r:List AO}{e:Env}{h:Heap}{clk:Nat}{p:BId×Box}:uX T (some p) tl h0 c0 X op d r e h clk=kN T tl h0 c0 X op d r e h (stepW op (some d) e.get [p] clk):=rfl
@[simp] theorem z9x{c0:Nat}{h0 X h:Heap}{zs:List AV}{e:Env}:Zjq c0 h0 X h (.alloc zs) e=none:=rfl
@[simp] theorem zafe{c0:Nat}{h0 X h:Heap}{z:Nat}{zs:List AV}{l c:Opd}{e:Env}:Zjq c0 h0 X h (.mks z zs l c) e=none:=rfl
@[simp] theorem zaff{c0:Nat}{h0 X h:Heap}{k:XOp}{xs:List Opd}{e:Env}:Zjq c0 h0 X h (.xop k xs) e=none:=rfl
@[simp] theorem zafg{c0:Nat}{h0 X h:Heap}{z:Nat}{x y:Opd}{e:Env}:Zjq c0 h0 X h (.app z x y) e=Zk7 c0 h0 X h (ev e.get x):=rfl
@[simp] theorem zaiu{c0:Nat}{h0 X h:Heap}{l:List (List AV)}{f:Fl}:Zk7 c0 h0 X h (.sl l f)=none:=rfl
@[simp] theorem zaiv{c0:Nat}{h0 X h:Heap}{b:BId}{g z o n:Nat}:Zk7 c0 h0 X h (.bs b g z o n)=Zl0 c0 (h0.lookup b) (X.lookup b) b (h.lookup b):=rfl
@[simp] theorem zabu{c0:Nat}{b:BId}{x o:Box}:Zl0 c0 none (some x) b (some o)=if o.gen<c0 then some (b,o) else none:=rfl
attribute [simp] Zn3
@[simp] theorem zabv{e:Env}:Zfp [] e=[]:=rfl
@[simp] theorem z9y{o:AO}{r:List AO}{e:Env}:Zfp (o::r) e=match o.op with | .mov x=>Zfp r (Z3 e o.dst (ev e.get x)) | .app _ x _=>Zn3 (ev e.get x)++Zfp r (Z3 e o.dst .dead) | _=>Zfp r (Z3 e o.dst .dead):=rfl
@[simp] theorem z6q{h:Heap}:Zfy [] h=h:=rfl
@[simp] theorem z43{b:BId}{ids:List BId}{h:Heap}:Zfy (b::ids) h=h.filter fun p=>!(b::ids).contains p.1:=rfl
noncomputable def kB(T:Tbl)(tl:List AO)(h0:Heap)(c0:Nat)(X:Heap)(d:Nat)(r:List AO)(e:Env)(h:Heap)(q:Option (AV×Heap×Nat)):Option St:=
 q.bind fun q=>if q.2.1.all (fun p=>(h.lookup p.1).isNone)=true then Zbc (orc T) T tl h0 c0 X r (Z3 e (some d) q.1) (q.2.1++h) q.2.2 else none
@[simp] theorem zaiw{tl:List AO}{h0:Heap}{c0:Nat}{X:Heap}{d:Nat}{r:List AO}{e:Env}{h:Heap}{q:AV×Heap×Nat}:kB T tl h0 c0 X d r e h (some q)=if q.2.1.all (fun p=>(h.lookup p.1).isNone)=true then Zbc (orc T) T tl h0 c0 X r (Z3 e (some d) q.1) (q.2.1++h) q.2.2 else none:=rfl
noncomputable def lX(T:Tbl)(b:Option (Nat×List Opd))(tl:List AO)(h0:Heap)(c0:Nat)(X:Heap)(o:AO)(r:List AO)(e:Env)(h:Heap)(clk:Nat):Option St:=
 match b with
 | some ua=>
  match o.guard,o.dst with
  | none,some d=>kB T tl h0 c0 X d r e h (Zf7 (orc T) T ua.1 (ua.2.map (ev e.get)) d clk)
  | _,_=>none
 | none=>bD (qX (orc T) T o e h0 []) fun x=>if Zi6 c0 o.op e (gnA x.1)=true then Zbc (orc T) T tl h0 c0 X r (Z3 e o.dst x.1) h clk else none
@[simp] theorem zaix{tl r:List AO}{h0:Heap}{c0:Nat}{X:Heap}{op:AOp}{dd u:Nat}{args:List Opd}{e:Env}{h:Heap}{clk:Nat}:lX T (some (u,args)) tl h0 c0 X ⟨some dd,none,op⟩ r e h clk=kB T tl h0 c0 X dd r e h (Zf7 (orc T) T u (args.map (ev e.get)) dd clk):=rfl
@[simp] theorem zaiy{tl r:List AO}{h0:Heap}{c0:Nat}{X:Heap}{o:AO}{e:Env}{h:Heap}{clk:Nat}:lX T none tl h0 c0 X o r e h clk=bD (qX (orc T) T o e h0 []) fun x=>if Zi6 c0 o.op e (gnA x.1)=true then Zbc (orc T) T tl h0 c0 X r (Z3 e o.dst x.1) h clk else none:=rfl
noncomputable def tX(T:Tbl)(tl:List AO)(h0:Heap)(c0:Nat)(X:Heap)(r:List AO)(b:Bool)(e:Env)(q:Option Heap)(clk:Nat):Option St:=
 q.bind fun h=>if b=true then Zbc (orc T) T tl h0 c0 X r e h clk else none
@[simp] theorem zaiz{tl:List AO}{h0:Heap}{c0:Nat}{X:Heap}{r:List AO}{e:Env}{h:Heap}{clk:Nat}:tX T tl h0 c0 X r true e (some h) clk=Zbc (orc T) T tl h0 c0 X r e h clk:=rfl
noncomputable def sX(T:Tbl)(b:Bool)(tl:List AO)(h0:Heap)(c0:Nat)(X:Heap)(o:AO)(r:List AO)(e:Env)(h:Heap)(clk:Nat):Option St:=
 match b with
 | true=>
  match o.guard,o.dst with
  | none,none=>(stepW o.op none e.get h clk).bind fun q=>if Zg4 X o.op e=true then Zbc (orc T) T tl h0 c0 X r e q.2.1 q.2.2 else none
  | _,_=>none
 | false=>lX T o.op.lentN tl h0 c0 X o r e h clk
@[simp] theorem zai0{tl r:List AO}{h0:Heap}{c0:Nat}{X:Heap}{n:Nat}{x v:Opd}{e:Env}{h:Heap}{clk:Nat}:sX T true tl h0 c0 X ⟨none,none,.store n x v⟩ r e h clk=tX T tl h0 c0 X r (Zg4 X (.store n x v) e) e (Zdl n h (ev e.get x) (ev e.get v)) clk:=by
 unfold sX tX;simp only[stepW];cases Zdl n h (ev e.get x) (ev e.get v)<;>rfl
@[simp] theorem zafh{tl r:List AO}{h0:Heap}{c0:Nat}{X:Heap}{o:AO}{e:Env}{h:Heap}{clk:Nat}:sX T false tl h0 c0 X o r e h clk=lX T o.op.lentN tl h0 c0 X o r e h clk:=rfl
noncomputable def Zpe(r:Option (AV×Heap))(d clk:Nat):Option (AV×Heap×Nat):=
 r.bind fun r=>
  let hb':=r.2.map fun p=>(Zb0 [] d p.1,Zay true (Zb0 [] d) (Zb8 [] clk) p.2)
  let r':=rlA (Zb0 [] d) (Zb8 [] clk) r.1
  if (hb'.map (·.1)).Nodup∧geB clk (gnA r')=true∧geH clk hb'=true then some (r',hb',clk+(r.2.length+2)) else none
noncomputable def mX(T:Tbl)(b:Bool)(tl:List AO)(h0:Heap)(c0:Nat)(X:Heap)(o:AO)(r:List AO)(e:Env)(h:Heap)(clk:Nat):Option St:=
 match b with
 | true=>
  match o.guard,o.dst with
  | none,some d=>uX T (Zjq c0 h0 X h o.op e) tl h0 c0 X o.op d r e h clk
  | _,_=>none
 | false=>sX T o.op.isStore tl h0 c0 X o r e h clk
@[simp] theorem z9z{tl r:List AO}{h0:Heap}{c0:Nat}{X:Heap}{o:AO}{e:Env}{h:Heap}{clk:Nat}:Zbc (orc T) T tl h0 c0 X (o::r) e h clk=mX T (AOp.maker o.op) tl h0 c0 X o r e h clk:=by
 unfold mX;simp only[Zbc];cases AOp.maker o.op with
 | false=>
  unfold sX;simp only;cases AOp.isStore o.op with
  | true=>
   obtain⟨dd,g,op⟩:=o;cases g<;>cases dd<;>rfl
  | false=>
   unfold lX;simp only;cases AOp.lentN o.op with
   | none=>rfl
   | some ua=>
    obtain⟨dd,g,op⟩:=o;cases g<;>cases dd<;>rfl
 | true=>
  obtain⟨dd,g,op⟩:=o;cases g<;>cases dd<;>rfl
@[simp] theorem zai1{tl r:List AO}{h0:Heap}{c0:Nat}{X:Heap}{op:AOp}{dd:Nat}{e:Env}{h:Heap}{clk:Nat}:mX T true tl h0 c0 X ⟨some dd,none,op⟩ r e h clk=uX T (Zjq c0 h0 X h op e) tl h0 c0 X op dd r e h clk:=rfl
@[simp] theorem zafi{tl r:List AO}{h0:Heap}{c0:Nat}{X:Heap}{o:AO}{e:Env}{h:Heap}{clk:Nat}:mX T false tl h0 c0 X o r e h clk=sX T o.op.isStore tl h0 c0 X o r e h clk:=rfl
@[simp] theorem zai2{hd tl:List AO}:evX (orc T) T k (.drawM hd tl) st=stX (Zbc (orc T) T tl (Zfy (Zfp hd st.env) st.heap) st.clk st.heap hd st.env st.heap st.clk):=rfl
@[simp] theorem zan7{n x}:opX (orc T) T (.ifc n x) d st=some ⟨Z3 st.env d (.ifc (Zq T n) (ev st.env.get x)),st.heap,st.clk⟩:=rfl
noncomputable def iS(T:Tbl)(x:AV)(nm:String)(n u:Nat)(args:List AV)(d:Option Nat)(st:St):Option St:=
 match x with
 | .ifc t y=>if t=Zq T n∧(nm,u)∈Zao T n then Zd (orc T) T u (y::args) d st else none
 | .fnv f x=>if nm="()"∧f=Zq T n∧Ziq T n=some u then Zd (orc T) T u (x::args) d st else none
 | .fnp f id g z i o=>if nm="()"∧f=Zq T n∧Ziq T n=some u then Zd (orc T) T u (args++[.ptr id g z i o]) d st else none
 | _=>none
@[congr] theorem zafj{x x':AV}{nm:String}{n u:Nat}{args args':List AV}{d:Option Nat}{st:St}(h1:x=x')(h2:args=args'):iS T x nm n u args d st=iS T x' nm n u args' d st:=by rw[h1,h2]
@[simp] theorem zan8{nm n u r args}:opX (orc T) T (.inv nm n u r args) d st=iS T (ev st.env.get r) nm n u (args.map (ev st.env.get)) d st:=by
 simp only[opX];cases ev st.env.get r<;>rfl
@[simp] theorem zal1{y:AV}{nm:String}{n u:Nat}{args:List AV}{st:St}:iS T (.ifc (Zq T n) y) nm n u args d st=if (nm,u)∈Zao T n then Zd (orc T) T u (y::args) d st else none:=by
 unfold iS;simp only[true_and]
@[simp] theorem zan9{n x}{e:Env}{h:Heap}{older:List Heap}:opD (orc T) T (.ifc n x) e h older=some (.ifc (Zq T n) (ev e.get x)):=rfl
noncomputable def dI(T:Tbl)(u:Nat)(xs:List AV):Option AV:=
 match T u with
 | none=>none
 | some af=>if (af.lent.isNone&&xs.all noRef)=true then ((orc T).call u (xs.map (wkIf af.exact)) []).map (·.1) else none
noncomputable def iD(T:Tbl)(x:AV)(nm:String)(n u:Nat)(args:List AV):Option AV:=
 match x with
 | .ifc t y=>if t=Zq T n∧(nm,u)∈Zao T n then dI T u (drp1 y::args) else none
 | _=>none
@[congr] theorem zafk{x x':AV}{nm:String}{n u:Nat}{args args':List AV}(h1:x=x')(h2:args=args'):iD T x nm n u args=iD T x' nm n u args':=by rw[h1,h2]
@[simp] theorem zaoa{nm n u r args}{e:Env}{h:Heap}{older:List Heap}:opD (orc T) T (.inv nm n u r args) e h older=iD T (ev e.get r) nm n u (args.map (ev e.get)):=by
 simp only[opD];cases ev e.get r<;>rfl
@[simp] theorem zal2{y:AV}{nm:String}{n u:Nat}{args:List AV}:iD T (.ifc (Zq T n) y) nm n u args=if (nm,u)∈Zao T n then dI T u (drp1 y::args) else none:=by
 unfold iD;simp only[true_and]
theorem zabw{u:Nat}{xs:List AV}{np nt:Nat}{res:List RV}{b:AX}{ex:Bool}(hT:T u=some ⟨np,nt,res,b,none,ex⟩):dI T u xs=dR (Za T u (xs.map (wkIf ex))) xs:=by
 unfold dI dR Za;simp only[hT,Option.isNone_none,Yc9]
theorem z2e{n t:Nat}{res:List RV}{x:String×Nat}(hT:T (1000000+n)=some ⟨t,0,res,.bad,none,false⟩):x∈Zao T n↔x∈Zgf ⟨t,0,res,.bad,none,false⟩:=by
 unfold Zao;rw[hT]
 rfl
@[simp] theorem zai3{hd tl:List AO}:evX (orc T) T k (.drawT hd tl) st=stX (Zev (orc T) T tl hd st.env st.heap st.clk):=rfl
attribute [simp] Zfx Zcq Zk0 Zk1 Zkl Zjn Zjo ghS Zdv Zcz Zm9 Zeu Zde Zc0 kids Zay
attribute [simp] gnA gnR Zi6 Zjp Zg1 Ze5 AOp.maker drp1 drpC AOp.lentN AOp.isStore Zg4 geB geH
attribute [simp] AOp.writes AOp.free Zhd Zfz Zf5 Zdl Zfw Zhe
attribute [simp] AOp.callN Zh7 Zck Zjm shR
end
end Go.Ab
end
section
namespace Go.Ab
open Go.RowKit
def Zhh(a b:Nat):Nat:=(((a:Int)-b)%4294967296).toNat
def Zee(a b:Nat):Nat:=(((a:Int)-b)%18446744073709551616).toNat
def Zqz(a b:Nat):Nat:=(((a:Int)-b)%256).toNat
theorem zfh{a b:Nat}(h:b≤a)(h2:a<18446744073709551616):Zee a b=a-b:=by unfold Zee;omega
theorem zxz(n:Int):IntKind.wrap .u32 n=(((n%4294967296).toNat:Nat):Int):=by
 grind[IntKind.wrap,IntKind.signed,IntKind.bits]
theorem zjb(n:Int):IntKind.wrap .u64 n=(((n%18446744073709551616).toNat:Nat):Int):=by
 grind[IntKind.wrap,IntKind.signed,IntKind.bits]
@[simp] theorem zabx(n:Int)(h1:-9223372036854775808≤n)(h2:n<9223372036854775808):IntKind.wrap .i64 n=n:=zac n ⟨h1,h2⟩
@[simp] theorem z90(a b:Nat):((a:Int)+(b:Int)).toNat=a+b:=by omega
@[simp] theorem z6r(a b:Nat):(0:Int)≤(a:Int)+(b:Int):=by omega
@[simp] theorem z6s(a:Nat):(0:Int)≤(a:Int)+1:=by omega
@[simp] theorem z6t(a b:Nat):((a:Int)+(b:Int)+1).toNat=a+b+1:=by omega
@[simp] theorem z44(a b:Nat):(0:Int)≤(a:Int)+(b:Int)+1:=by omega
section
variable(a b:Nat)(k:IntKind)(n:Int)
@[simp] theorem zaob:Zad .add (u32 a) (u32 b)=some (u32 ((a+b)%4294967296)):=by
 simp only[u32,zrw,←Int.natCast_add,zek]
@[simp] theorem zaoc:Zad .add (u64 a) (u64 b)=some (u64 ((a+b)%18446744073709551616)):=by
 simp only[u64,zrw,←Int.natCast_add,zfg]
@[simp] theorem zaod:Zad .mul (u32 a) (u32 b)=some (u32 ((a*b)%4294967296)):=by
 simp only[u32,zry,←Yc6,zek]
@[simp] theorem zaoe:Zad .mul (u64 a) (u64 b)=some (u64 ((a*b)%18446744073709551616)):=by
 simp only[u64,zry,←Yc6,zfg]
@[simp] theorem zal3:Zad .sub (u32 a) (u32 b)=some (u32 (Zhh a b)):=by
 simp only[u32,zrx,zxz,Zhh]
@[simp] theorem zal4:Zad .sub (u64 a) (u64 b)=some (u64 (Zee a b)):=by
 simp only[u64,zrx,zjb,Zee]
theorem zsd:((a:Int).tdiv (b:Int))=((a/b:Nat):Int):=by rw[Int.ofNat_tdiv]
theorem zse:((a:Int).tmod (b:Int))=((a%b:Nat):Int):=by rw[Int.ofNat_tmod]
@[simp] theorem zaof:Zad .quo (u32 a) (u32 b)=if b=0 then none else some (u32 (a/b%4294967296)):=by
 simp only[u32,zrz,zsd,zek,Yc2]
@[simp] theorem zaog:Zad .quo (u64 a) (u64 b)=if b=0 then none else some (u64 (a/b%18446744073709551616)):=by
 simp only[u64,zrz,zsd,zfg,Yc2]
@[simp] theorem zaoh:Zad .rem (u32 a) (u32 b)=if b=0 then none else some (u32 (a%b)):=by
 simp only[u32,zr0,zse,Yc2]
@[simp] theorem zaoi:Zad .rem (u64 a) (u64 b)=if b=0 then none else some (u64 (a%b)):=by
 simp only[u64,zr0,zse,Yc2]
theorem bvn(w:Nat):(BitVec.ofInt w (a:Int)).toNat=a%2^w:=by simp
@[simp] theorem or32:Zad .or (u32 a) (u32 b)=some (u32 ((a ||| b)%4294967296)):=by
 have h:=Nat.or_mod_two_pow (a:=a) (b:=b) (n:=32);have e:((BitVec.ofInt 32 (a:Int) ||| BitVec.ofInt 32 (b:Int)).toNat)=(a ||| b)%2^32:=by rw[BitVec.toNat_or,bvn,bvn,←h]
 show some (AV.i .u32 (IntKind.wrap .u32 (((BitVec.ofInt 32 (a:Int) ||| BitVec.ofInt 32 (b:Int)).toNat:Nat):Int)))=_;rw[e,zek];simp[u32]
@[simp] theorem or64:Zad .or (u64 a) (u64 b)=some (u64 ((a ||| b)%18446744073709551616)):=by
 have h:=Nat.or_mod_two_pow (a:=a) (b:=b) (n:=64);have e:((BitVec.ofInt 64 (a:Int) ||| BitVec.ofInt 64 (b:Int)).toNat)=(a ||| b)%2^64:=by rw[BitVec.toNat_or,bvn,bvn,←h]
 show some (AV.i .u64 (IntKind.wrap .u64 (((BitVec.ofInt 64 (a:Int) ||| BitVec.ofInt 64 (b:Int)).toNat:Nat):Int)))=_;rw[e,zfg];simp[u64]
theorem zoa(m:Nat):((a:Int)*2^m)=((a*2^m:Nat):Int):=by simp
theorem zk6(m:Nat):((a:Int).fdiv (2^m))=((a/2^m:Nat):Int):=by
 grind
@[simp] theorem zaoj:Zad .shl (u32 a) (.i k n)=if n<0 then none else some (u32 (a*2^(min n.toNat 32)%4294967296)):=by
 simp only[u32,Zad,IntKind.bits,zoa,zek]
@[simp] theorem zai4:Zad .shl (u64 a) (.i k n)=if n<0 then none else some (u64 (a*2^(min n.toNat 64)%18446744073709551616)):=by
 simp only[u64,Zad,IntKind.bits,zoa,zfg]
@[simp] theorem zaok:Zad .shr (u32 a) (.i k n)=if n<0 then none else some (u32 (a/2^(min n.toNat 32))):=by
 simp only[u32,Zad,IntKind.bits,zk6]
@[simp] theorem zai5:Zad .shr (u64 a) (.i k n)=if n<0 then none else some (u64 (a/2^(min n.toNat 64))):=by
 simp only[u64,Zad,IntKind.bits,zk6]
@[simp] theorem z45:¬ ((b:Int)<0):=by omega
@[simp] theorem zal5:Zad .shl (u64 a) (u64 b)=some (u64 (a*2^(min b 64)%18446744073709551616)):=by
 rw[show u64 b=.i .u64 (b:Int) from rfl,zai4,if_neg (z45 b),Ycb]
@[simp] theorem zal6:Zad .shr (u64 a) (u64 b)=some (u64 (a/2^(min b 64))):=by
 rw[show u64 b=.i .u64 (b:Int) from rfl,zai5,if_neg (z45 b),Ycb]
@[simp] theorem zaol:Zad .eql (u32 a) (u32 b)=some (.b (decide (a=b))):=by
 simp only[u32,zr1,Option.some.injEq,AV.b.injEq];rw[Ybr];simp[Ycs]
@[simp] theorem zaom:Zad .neq (u32 a) (u32 b)=some (.b (!decide (a=b))):=by
 simp only[u32,zr2,Option.some.injEq,AV.b.injEq];rw[Ybr];simp[Ycs]
@[simp] theorem zaon:Zad .lss (u32 a) (u32 b)=some (.b (decide (a<b))):=by simp[u32,zl2]
@[simp] theorem zaoo:Zad .leq (u32 a) (u32 b)=some (.b (decide (a≤b))):=by simp[u32,zr3]
@[simp] theorem zaop:Zad .gtr (u32 a) (u32 b)=some (.b (decide (b<a))):=by simp[u32,z11]
@[simp] theorem zaoq:Zad .geq (u32 a) (u32 b)=some (.b (decide (b≤a))):=by simp[u32,zr4]
@[simp] theorem zaor:Zad .neq (u64 a) (u64 b)=some (.b (!decide (a=b))):=by
 simp only[u64,zr2,Option.some.injEq,AV.b.injEq];rw[Ybr];simp[Ycs]
@[simp] theorem zaos:Zad .lss (u64 a) (u64 b)=some (.b (decide (a<b))):=by simp[u64,zl2]
@[simp] theorem eql8:Zad .eql (u8 a) (u8 b)=some (.b (decide (a=b))):=by
 simp only[u8,zr1,Option.some.injEq,AV.b.injEq];rw[Ybr];simp[Ycs]
@[simp] theorem lss8:Zad .lss (u8 a) (u8 b)=some (.b (decide (a<b))):=by simp[u8,zl2]
@[simp] theorem leq8:Zad .leq (u8 a) (u8 b)=some (.b (decide (a≤b))):=by simp[u8,zr3]
@[simp] theorem geq8:Zad .geq (u8 a) (u8 b)=some (.b (decide (b≤a))):=by simp[u8,zr4]
@[simp] theorem z91:Zca .u64 (u32 a)=some (u64 (a%18446744073709551616)):=by simp only[u32,u64,Zca,zfg]
@[simp] theorem z92:Zca .u32 (u64 a)=some (u32 (a%4294967296)):=by simp only[u32,u64,Zca,zek]
@[simp] theorem zaby:Zca .u8 (u32 a)=some (u8 (a%256)):=by simp only[u32,u8,Zca,wrap_u8]
@[simp] theorem zabz:Zca .u64 (.i .i64 n)=some (u64 (n%18446744073709551616).toNat):=by simp only[u64,Zca,zjb]
@[simp] theorem zab0:Zca .i64 (u32 a)=some (.i .i64 (IntKind.wrap .i64 a)):=rfl
@[simp] theorem zab1:Zca .i64 (u64 a)=some (.i .i64 (IntKind.wrap .i64 a)):=rfl
@[simp] theorem zafl:Zca .i64 (u8 a)=some (.i .i64 (IntKind.wrap .i64 a)):=rfl
@[simp] theorem zafm:Zca .i64 (.i .i64 n)=some (.i .i64 (IntKind.wrap .i64 n)):=rfl
@[simp] theorem zaot:Zhu .neg (u64 a)=some (u64 (Zee 0 a)):=by simp[u64,Zhu,zjb,Zee]
@[simp] theorem zaou:Zhu .neg (.i .i64 n)=some (.i .i64 (IntKind.wrap .i64 (0-n))):=rfl
@[simp] theorem zaov(t:Bool):Zhu .not (.b t)=some (.b (!t)):=rfl
@[simp] theorem zal7(m:Nat)(y:Int):bnd (u8 m) y=if 0≤(m:Int)∧(m:Int)≤y then some m else none:=rfl
@[simp] theorem zai6(m:Nat)(y:Int):bnd (u32 m) y=if 0≤(m:Int)∧(m:Int)≤y then some m else none:=rfl
@[simp] theorem zai7(m:Nat)(y:Int):bnd (u64 m) y=if 0≤(m:Int)∧(m:Int)≤y then some m else none:=rfl
attribute [simp] Zfv Zhx Zky
@[simp] theorem zal8(l:List UInt8):Zi0 (.s l) (.i k n)=if 0≤n∧n<l.length then (l[n.toNat]?).map fun b=>u8 b.toNat else none:=rfl
@[simp] theorem zafn(k':IntKind)(x y:Int):Zgx .int (.i k x) (.i k' y)=if k=k' then some (x == y) else none:=rfl
end
@[simp] theorem zai8(a b:Nat):u32 a=u32 b↔a=b:=by simp[u32,Ycs]
@[simp] theorem zai9(a b:Nat):u64 a=u64 b↔a=b:=by simp[u64,Ycs]
theorem zam(x:UInt32):x.toNat<4294967296:=x.toNat_lt
@[simp] theorem zaja(x:UInt32):x.toNat<4294967296:=x.toNat_lt
def w32(n:Nat):UInt32:=UInt32.ofNat n
theorem zby(n:Nat):(w32 n).toNat=n%4294967296:=UInt32.toNat_ofNat' ..
theorem zah{n:Nat}(h:n<4294967296):(w32 n).toNat=n:=by rw[zby,Yk h]
@[simp] theorem z93(x:UInt32):w32 x.toNat=x:=UInt32.ofNat_toNat
def Zb(l:List UInt32):List (List AV):=l.map fun x=>[u32 x.toNat]
def ints(l:List Int):List (List AV):=l.map fun x=>[.i .i64 x]
def u8s(l:List UInt8):List (List AV):=l.map fun x=>[u8 x.toNat]
section
variable(l m:List UInt32)(x:UInt32)
@[simp] theorem zafo:Zb []=[]:=rfl
@[simp] theorem zjc:(Zb l).length=l.length:=by simp[Zb]
@[simp] theorem zajb:wkL (Zb l)=Zb l:=by
 rw[zb9];simp[Zb,wkR]
@[simp] theorem zab2(n:Nat):(Zb l).take n=Zb (l.take n):=by simp[Zb]
@[simp] theorem zab3(n:Nat):(Zb l).drop n=Zb (l.drop n):=by simp[Zb]
@[simp] theorem z6u:Zb l++Zb m=Zb (l++m):=by simp[Zb]
@[simp] theorem zab4(n:Nat)(h:n<4294967296):Zb l++[[u32 n]]=Zb (l++[w32 n]):=by simp[Zb,zah h]
@[simp] theorem u32s_getElem?(i:Nat):(Zb l)[i]? = (l[i]?).map fun x=>[u32 x.toNat]:=by simp[Zb]
@[simp] theorem z46(i:Nat)(h:i<(Zb l).length):(Zb l)[i]=[u32 (l[i]'(by simpa using h)).toNat]:=by simp[Zb]
theorem zbj(i:Nat)(n:Nat)(h:n<4294967296):(Zb l).set i [u32 n]=Zb (l.set i (w32 n)):=by simp[Zb,Yem,zah h]
@[simp] theorem zab5(i n:Nat):(Zb l).set i [u32 (n%4294967296)]=Zb (l.set i (w32 n)):=by simp[Zb,Yem,zby]
@[simp] theorem zafp(n:Nat):List.replicate n [u32 0]=Zb (List.replicate n 0):=by simp[Zb]
@[simp] theorem zab6(z:Nat):((Zb l).head?.all fun r=>decide (r.length=z))=(l.isEmpty || decide (z=1)):=by
 cases l<;>simp[Zb,eq_comm]
end
end Go.Ab
end
section
namespace Go.Ab
open Go.RowKit
abbrev mv(d s:Nat):AO:=⟨some d,none,.mov (.t s)⟩
abbrev rg(d:Nat)(op:AOp):AO:=⟨some d,none,op⟩
abbrev gd(d t:Nat)(b:Bool)(op:AOp):AO:=⟨some d,some (t,b),op⟩
abbrev so(op:AOp):AO:=⟨none,none,op⟩
abbrev XF(d a b:Nat):AO:=rg d (.fad a (.t b))
abbrev VF(d t:Nat)(v:Bool)(a b:Nat):AO:=gd d t v (.fad a (.t b))
abbrev XO(d a:Nat):AO:=rg d (.load none (.t a))
abbrev VO(d t:Nat)(v:Bool)(a:Nat):AO:=gd d t v (.load none (.t a))
abbrev XP(d a b:Nat):AO:=rg d (.load (some a) (.t b))
abbrev VP(d t:Nat)(v:Bool)(a b:Nat):AO:=gd d t v (.load (some a) (.t b))
abbrev XN(d a:Nat):AO:=rg d (.len (.t a))
abbrev VN(d t:Nat)(v:Bool)(a:Nat):AO:=gd d t v (.len (.t a))
abbrev XI(d a b c:Nat):AO:=rg d (.iad a (.t b) (.t c))
abbrev VI(d t:Nat)(v:Bool)(a b c:Nat):AO:=gd d t v (.iad a (.t b) (.t c))
abbrev VM(d t:Nat)(v:Bool)(a:Nat):AO:=gd d t v (.mov (.t a))
abbrev XU(d a:Nat):AO:=rg d (.un .not (.t a))
abbrev VU(d t:Nat)(v:Bool)(a:Nat):AO:=gd d t v (.un .not (.t a))
abbrev XE(d a b:Nat):AO:=rg d (.ext (.t a) b)
abbrev XB(d:Nat)(o:BinOp)(a b:Nat):AO:=rg d (.bin o (.t a) (.t b))
abbrev VB(d t:Nat)(v:Bool)(o:BinOp)(a b:Nat):AO:=gd d t v (.bin o (.t a) (.t b))
abbrev XC(d:Nat)(o:BinOp)(a:Nat)(b:Int):AO:=rg d (.bin o (.t a) (.c (.i .i64 b)))
abbrev VC(d t:Nat)(v:Bool)(o:BinOp)(a:Nat)(b:Int):AO:=gd d t v (.bin o (.t a) (.c (.i .i64 b)))
abbrev XK1(d u a:Nat):AO:=rg d (.call u [.t a])
abbrev XK2(d u a b:Nat):AO:=rg d (.call u [.t a,.t b])
abbrev XK3(d u a b c:Nat):AO:=rg d (.call u [.t a,.t b,.t c])
abbrev XK4(d u a b c e:Nat):AO:=rg d (.call u [.t a,.t b,.t c,.t e])
abbrev XD(n:Nat):AX→AX→AX:=.cond (.t n)
abbrev XG:List Nat→Gh:=.norm false
abbrev XrV(n m t:Nat)(b:AX):AFx:=⟨n,m,[.t t],b,none,false⟩
abbrev XrC(n m t k:Nat)(b:AX):AFx:=⟨n,m,[.cell t (some k)],b,none,false⟩
abbrev XS(l:List AO)(r:AX):AX:=.seq (.reg l) r
abbrev XZ(l:List Nat):AX:=.pre (.norm false l) .ret
abbrev XA(d:Nat)(v:AV):AO:=rg d (.mov (.c v))
abbrev XT(z a b:Nat):AO:=so (.store z (.t a) (.t b))
abbrev XW(d a b:Nat):AO:=rg d (.pick (.t a) (.t b) (.c (.b false)))
abbrev XY(d a b:Nat):AO:=rg d (.pick (.t a) (.c (.b true)) (.t b))
abbrev XX(d n a:Nat):AO:=rg d (.xop (.box n) [.t a])
section
variable(T:Tbl)(u:Nat)(ex:Bool)(ms:List Bool)(xs:List AV)(d:Option Nat)(st:St)(ps:List Opd)(e:Env)
@[simp] noncomputable def cP:Option St:=bL (Zk8 st.heap xs) fun ys=>cR (Za T u (ys.map (wkIf ex))) xs d st
@[simp] noncomputable def cL:Option St:=bL (Ze4 st.heap ms xs) fun ys=>Zed ys (Zh (Zaw ms xs) st.heap) (Zcz (Zh (Zaw ms xs) st.heap) 40 (Zcn ms xs) []) T u ex d st
@[simp] noncomputable def dP:Option AV:=dR (Za T u ((ps.map (ev e.get)).map (wkIf ex))) (ps.map (ev e.get))
end
abbrev XJ(d:Nat):AO:=rg d (.mov (.c (.b false)))
abbrev XL(d:Nat)(n:Int):AO:=rg d (.mov (.c (.i .i64 n)))
abbrev XM(d:Nat):AO:=rg d (.alloc [.b false,.sl [] .nl,.sl [] .nl])
abbrev XV(d a:Nat):AO:=rg d (.bsl 3 [.b false,.sl [] .nl,.sl [] .nl] 1 [(0,.t a)])
abbrev XH(a i b:Nat):AX:=.reg [mv a i,rg b (.bin .add (.t a) (.c (.i .i64 1))),mv i b]
abbrev XQ(a i:Nat):AX:=.cond (.t a) .skip (.exit i)
abbrev XRx(T:Tbl)(u:Nat):Prop:=∀{xs:List AV}{d:Option Nat}{st:St},Zd (orc T) T u xs d st=cP T u false xs d st
theorem xrx{T:Tbl}{u:Nat}{n m:Nat}{r:List RV}{b:AX}(h:T u=some ⟨n,m,r,b,none,false⟩):XRx T u:=zab h
abbrev XRy(T:Tbl)(u:Nat):Prop:=∀{ps:List Opd}{e:Env}{h:Heap}{ol:List Heap},opD (orc T) T (.call u ps) e h ol=dP T u false ps e
theorem xry{T:Tbl}{u:Nat}{n m:Nat}{r:List RV}{b:AX}(h:T u=some ⟨n,m,r,b,none,false⟩):XRy T u:=zaf h
section
variable{T:Tbl}{k:Nat}
theorem zai{id:Nat}{g2:Gh}{c:AX}(S:Nat→St)(n:Nat)(G:Option (Ex×St))(step:∀i,i<n→evX (orc T) T k c (S i)=some (.n,S (i+1)))
  (fin:Zd4 (evX (orc T) T k c (S n))=true∧Zdg k id g2 (evX (orc T) T k c (S n))=G):Ze T k id g2 c (S 0)=G:=
 zav S (fun i=>i≤n) (fun i=>n-i) (fun _=>G) (by
  intro i hi;by_cases h:i<n
  ·exact .inl ⟨i+1,h,by show n-(i+1)<n-i;omega,step i h,rfl⟩
  ·have:i=n:=by omega
   subst this;exact .inr fin) 0 (Yv _)
theorem zak{id:Nat}{g2:Gh}{c:AX}(S:Nat→St)(n:Nat)(G:Nat→Option (Ex×St))
  (step:∀i,i<n→(evX (orc T) T k c (S i)=some (.n,S (i+1))∧G (i+1)=G i)∨(Zd4 (evX (orc T) T k c (S i))=true∧Zdg k id g2 (evX (orc T) T k c (S i))=G i))
  (fin:Zd4 (evX (orc T) T k c (S n))=true∧Zdg k id g2 (evX (orc T) T k c (S n))=G n):Ze T k id g2 c (S 0)=G 0:=
 zav S (fun i=>i≤n) (fun i=>n-i) G (by
  intro i hi;by_cases h:i<n
  ·rcases step i h with ⟨h1,h2⟩ | h1
   ·exact .inl ⟨i+1,h,by show n-(i+1)<n-i;omega,h1,h2⟩
   ·exact .inr h1
  ·have:i=n:=by omega
   subst this;exact .inr fin) 0 (Yv _)
end
theorem zaz{i n:Nat}(h:i<n)(hn:n≤4294967296):IntKind.wrap .i64 ((i:Int)+1)=((i+1:Nat):Int):=zac _ (by omega)
end Go.Ab
end
section
namespace Go.Ab
def b115:AX:= (XS [XA 6 (u32 0),XA 7 (u32 0)] (XS [mv 8 0,mv 9 1,XB 10 .add 8 9,mv 6 10] (.seq (XS [mv 11 6,mv 12 0,XB 13 .lss 11 12] (XD 13 (.reg [mv 14 7,rg 15 (.bin .add (.t 14) (.c (u32 1))),mv 7 15]) .skip)) (XS [mv 16 6,mv 17 2,XB 18 .add 16 17,mv 6 18] (.seq (XS [mv 19 6,mv 20 2,XB 21 .lss 19 20] (XD 21 (.reg [mv 22 7,rg 23 (.bin .add (.t 22) (.c (u32 1))),mv 7 23]) .skip)) (XS [mv 24 6,mv 25 7,mv 6 24,mv 7 25] (XZ [6,7])))))))
def b116:AX:= (XS [XA 6 (u32 0),XA 7 (u32 0)] (XS [mv 8 0,mv 9 1,XB 10 .sub 8 9,mv 6 10] (.seq (XS [mv 11 0,mv 12 1,XB 13 .lss 11 12] (XD 13 (.reg [mv 14 7,rg 15 (.bin .add (.t 14) (.c (u32 1))),mv 7 15]) .skip)) (.seq (XS [mv 16 6,mv 17 2,XB 18 .lss 16 17] (XD 18 (.reg [mv 19 7,rg 20 (.bin .add (.t 19) (.c (u32 1))),mv 7 20]) .skip)) (XS [mv 21 6,mv 22 2,XB 23 .sub 21 22,mv 24 7,mv 6 23,mv 7 24] (XZ [6,7]))))))
def b117:AX:= (XS [XA 8 (u32 0),XA 9 (u32 0)] (XS [mv 11 0,rg 12 (.conv .u64 (.t 11)),mv 13 1,rg 14 (.conv .u64 (.t 13)),XB 15 .mul 12 14,mv 16 2,rg 17 (.conv .u64 (.t 16)),XB 18 .add 15 17,mv 19 3,rg 20 (.conv .u64 (.t 19)),XB 21 .add 18 20,mv 10 21] (XS [mv 22 10,rg 23 (.bin .shr (.t 22) (.c (u64 32))),rg 24 (.conv .u32 (.t 23)),mv 25 10,rg 26 (.conv .u32 (.t 25)),mv 8 24,mv 9 26] (XZ [8,9]))))
def b118:AX:= (XS [XA 6 (u32 0),XA 7 (u32 0),XJ 8] (.seq (XS [mv 10 0,mv 11 2,XB 12 .geq 10 11] (XD 12 (XS [XA 6 (u32 0),XA 7 (u32 0),XJ 8] (XZ [6,7,8])) .skip)) (XS [mv 13 0,rg 14 (.conv .u64 (.t 13)),rg 15 (.bin .shl (.t 14) (.c (u64 32))),mv 16 1,rg 17 (.conv .u64 (.t 16)),XB 18 .or 15 17,mv 9 18] (.seq (.drawT [mv 19 9,mv 20 2,rg 21 (.conv .u64 (.t 20)),XB 22 .quo 19 21,rg 23 (.conv .u32 (.t 22)),mv 24 9,mv 25 2,rg 26 (.conv .u64 (.t 25)),XB 27 .rem 24 26,rg 28 (.conv .u32 (.t 27)),mv 6 23] [mv 7 28,XA 8 (.b true)]) (XZ [6,7,8])))))
def l91_0:AX:= (.note (.seq (XS [mv 5 4,XC 6 .gtr 5 0] (XQ 6 0)) (.seq (.block 1 (XS [mv 9 0,mv 10 4,XB 11 .shr 9 10,rg 12 (.bin .neq (.t 11) (.c (u32 0)))] (XD 12 (XS [mv 13 0,mv 14 4,XB 15 .shr 13 14,mv 0 15] (.reg [mv 16 3,mv 17 4,XB 18 .add 16 17,mv 3 18])) .skip))) (.reg [mv 7 4,XC 8 .quo 7 2,mv 4 8]))) (XG [0,3,4]))
def b91:AX:= (XS [XL 2 0] (XS [XL 3 0] (.seq (XS [XL 4 16] (.lp 0 (XG [0,3,4]) l91_0 (XG [0,3]))) (XS [mv 19 3,mv 20 0,rg 21 (.conv .i64 (.t 20)),XB 22 .add 19 21,mv 2 22] (XZ [2])))))
def row115:AFx:=⟨3,26,[.t 6,.t 7],b115,none,false⟩
def row116:AFx:=⟨3,25,[.t 6,.t 7],b116,none,false⟩
def row117:AFx:=⟨4,27,[.t 8,.t 9],b117,none,false⟩
def row118:AFx:=⟨3,29,[.t 6,.t 7,.t 8],b118,none,false⟩
def row91:AFx:=XrV 1 23 2 b91
class Zaj (T:Tbl):Prop where
 h115:T 115=some row115
 h116:T 116=some row116
 h117:T 117=some row117
 h118:T 118=some row118
 h91:T 91=some row91
section
variable{T:Tbl}[Zaj T]{d:Option Nat}{st:St}
@[simp] theorem x115:XRx T 115:=xrx Zaj.h115
@[simp] theorem x116:XRx T 116:=xrx Zaj.h116
@[simp] theorem x117:XRx T 117:=xrx Zaj.h117
@[simp] theorem x118:XRx T 118:=xrx Zaj.h118
@[simp] theorem x91:XRx T 91:=xrx Zaj.h91
end
end Go.Ab
end
section
namespace Go.Ab
section
variable{T:Tbl}[Zaj T]
theorem z21(x y c:UInt32):Za T 115 [u32 x.toNat,u32 y.toNat,u32 c.toNat] =
  some (.tup [u32 (w32 (x.toNat+y.toNat+c.toNat)).toNat,u32 (w32 ((x.toNat+y.toNat+c.toNat)/4294967296)).toNat]):=by
 have hx:=zam x;have hy:=zam y;have hc:=zam c;rw[zaa Zaj.h115 rfl,b115];simp[zby]
 repeat' split
 all_goals simp
 all_goals omega
theorem z22(x y b:UInt32):Za T 116 [u32 x.toNat,u32 y.toNat,u32 b.toNat] =
  some (.tup [u32 (w32 (x.toNat+8589934592-(y.toNat+b.toNat))).toNat,u32 (w32 (2-(x.toNat+8589934592-(y.toNat+b.toNat))/4294967296)).toNat]):=by
 have hx:=zam x;have hy:=zam y;have hb:=zam b;rw[zaa Zaj.h116 rfl,b116];by_cases h1:x.toNat<y.toNat <;>
 by_cases h2:Zhh x.toNat y.toNat<b.toNat <;>
 ·simp[h1,h2,zby];unfold Zhh at *
  omega
theorem zjh{a b:Nat}(ha:a<4294967296)(hb:b<4294967296):a*b≤18446744065119617025:=by
 have:a*b≤4294967295*4294967295:=Ybn (by omega) (by omega);omega
theorem z23(x y c d:UInt32):Za T 117 [u32 x.toNat,u32 y.toNat,u32 c.toNat,u32 d.toNat] =
  some (.tup [u32 (w32 ((x.toNat*y.toNat+c.toNat+d.toNat)/4294967296)).toNat,u32 (w32 (x.toNat*y.toNat+c.toNat+d.toNat)).toNat]):=by
 have hx:=zam x;have hy:=zam y;have hc:=zam c;have hd:=zam d;have hm:=zjh hx hy;rw[zaa Zaj.h117 rfl,b117];simp[zby];generalize x.toNat*y.toNat=m at *
 omega
theorem zsl(hi lo y:UInt32):Za T 118 [u32 hi.toNat,u32 lo.toNat,u32 y.toNat] =
  some (if y.toNat≤hi.toNat then .tup [u32 0,u32 0,.b false]
   else .tup [u32 (w32 ((hi.toNat*4294967296+lo.toNat)/y.toNat)).toNat,u32 (w32 ((hi.toNat*4294967296+lo.toNat)%y.toNat)).toNat,.b true]):=by
 have hx:=zam hi;have hy:=zam y;have hl:=zam lo;rw[zaa Zaj.h118 rfl,b118];by_cases h1:y.toNat≤hi.toNat
 ·simp[h1]
 ·have h2:¬ y.toNat=0:=by omega
  simp[h1,h2,zby];have e:hi.toNat*4294967296%18446744073709551616=hi.toNat*4294967296:=Yk (by omega);have e2:(hi.toNat*4294967296) ||| lo.toNat=hi.toNat*4294967296+lo.toNat:=by
   have:=Ycu (i:=32) hl hi.toNat;rw[Yab hi.toNat,show (4294967296:Nat)=2^32 from rfl,this]
  have h3:(hi.toNat*4294967296+lo.toNat)/y.toNat<4294967296:=by
   rw[Ybj (by omega)];have:=Yac 4294967296 (show hi.toNat+1≤y.toNat by omega);omega
  rw[e,e2,Yk (show hi.toNat*4294967296+lo.toNat<18446744073709551616 by omega)];exact⟨rfl,rfl⟩
theorem ze2(x y c:Nat)(hx:x<4294967296)(hy:y<4294967296)(hc:c<4294967296):Za T 115 [u32 x,u32 y,u32 c]=some (.tup [u32 ((x+y+c)%4294967296),u32 ((x+y+c)/4294967296)]):=by
 have:=z21 (T:=T) (w32 x) (w32 y) (w32 c);rw[zah hx,zah hy,zah hc,zby,zah (by omega)]at this;exact this
theorem zgs(x y b:Nat)(hx:x<4294967296)(hy:y<4294967296)(hb:b<4294967296):Za T 116 [u32 x,u32 y,u32 b] =
  some (.tup [u32 ((x+8589934592-(y+b))%4294967296),u32 (2-(x+8589934592-(y+b))/4294967296)]):=by
 have:=z22 (T:=T) (w32 x) (w32 y) (w32 b);rw[zah hx,zah hy,zah hb,zby,zah (by omega)]at this;exact this
theorem zji(x y c d:Nat)(hx:x<4294967296)(hy:y<4294967296)(hc:c<4294967296)(hd:d<4294967296):Za T 117 [u32 x,u32 y,u32 c,u32 d] =
  some (.tup [u32 ((x*y+c+d)/4294967296),u32 ((x*y+c+d)%4294967296)]):=by
 have:=z23 (T:=T) (w32 x) (w32 y) (w32 c) (w32 d);have hm:=zjh hx hy;rw[zah hx,zah hy,zah hc,zah hd,zby (x*y+c+d),zah (by omega)]at this;exact this
theorem z47{hi lo y:Nat}(h:hi<y)(hl:lo<4294967296):(hi*4294967296+lo)/y<4294967296:=by
 rw[Ybj (by omega)];have:=Yac 4294967296 (show hi+1≤y by omega);omega
theorem zok(hi lo y:Nat)(hx:hi<y)(hl:lo<4294967296)(hy:y<4294967296):Za T 118 [u32 hi,u32 lo,u32 y] =
  some (.tup [u32 ((hi*4294967296+lo)/y),u32 ((hi*4294967296+lo)%y),.b true]):=by
 have:=zsl (T:=T) (w32 hi) (w32 lo) (w32 y);rw[zah (show hi<4294967296 by omega),zah hl,zah hy,zah (z47 hx hl),zah (by have:=Yaz (hi*4294967296+lo) (show 0<y by omega);omega),if_neg (by omega)]at this;exact this
theorem zuh(hi lo y:Nat)(hx:y≤hi)(hh:hi<4294967296)(hl:lo<4294967296):Za T 118 [u32 hi,u32 lo,u32 y]=some (.tup [u32 0,u32 0,.b false]):=by
 have:=zsl (T:=T) (w32 hi) (w32 lo) (w32 y);rw[zah hh,zah hl,zah (show y<4294967296 by omega),if_pos hx]at this;exact this
def Za2(n:Nat):Nat:=if n=0 then 0 else n.log2+1
theorem zld{n s:Nat}(h:n/2^s≠0):Za2 n=s+Za2 (n/2^s):=by
 have hn:n≠0:=by rintro rfl;simp at h
 have hlog:(n/2^s).log2+s=n.log2:=by
  have h1:=Nat.log2_self_le h;have h2:=Yeg (n:=n/2^s);have h3:=Nat.log2_self_le hn;have h4:=Yeg (n:=n);have hp:0<2^s:=Ya2 (by decide);have a1:2^((n/2^s).log2+s)≤n:=by
   rw[Ybh];exact(Yb7 hp).1 h1
  have a2:n<2^((n/2^s).log2+1+s):=by
   rw[Ybh];exact(Ybj hp).1 h2
  have b1:=(Nat.le_log2 hn).2 a1;have b2:=(Yec hn).2 a2;omega
 unfold Za2;rw[if_neg h,if_neg hn];omega
theorem zui{x:Nat}(h:x<2):Za2 x=x:=by
 rcases(show x=0∨x=1 by omega) with rfl | rfl<;>decide
def Zj7(y:Nat×Nat×Nat):St:=⟨[(0,u32 y.1),(3,.i .i64 y.2.1),(4,.i .i64 y.2.2)],[],2⟩
end
section
variable{T:Tbl}
theorem zmo(N:Nat):∀y:Nat×Nat×Nat,((y.2.2=16∨y.2.2=8∨y.2.2=4∨y.2.2=2∨y.2.2=1∨y.2.2=0)∧y.1<2^(2*y.2.2)*(if y.2.2=0 then 2 else 1)∧y.2.1+Za2 y.1=N∧y.2.1+2*y.2.2≤32) →
  ∃r,(∃(x n:Nat),r=(Ex.n,(⟨[(0,u32 x),(3,.i .i64 (n:Int))],[],2⟩:St))∧x<2∧n+Za2 x=N∧n≤32)∧Ze T 0 0 (.norm false [0,3]) l91_0 (Zj7 y)=some r:=by
 refine zay _ _ (fun y=>y.2.2) _ ?_
 rintro⟨x,n,s⟩ ⟨hs,hx,hN,hn⟩
 simp only at hs hx hN hn;by_cases h0:s=0
 ·right;subst h0;refine⟨_,⟨x,n,rfl,by simpa using hx,hN,by omega⟩,?_,?_⟩<;>simp[l91_0,Zj7]
 ·left;by_cases h1:x/2^s=0
  ·refine⟨(x,n,s/2),⟨?_,?_,hN,by simp only;omega⟩,by simp only;omega,?_⟩
   ·rcases hs with rfl | rfl | rfl | rfl | rfl | rfl<;>simp
   ·have h2:x<2^s:=by
     rcases Ys x (2^s) with h | h
     ·exact h
     ·have:=Yez h (Ya2 (by decide));omega
    rcases hs with rfl | rfl | rfl | rfl | rfl | rfl<;>simp at h2 ⊢<;>omega
   ·rcases hs with rfl | rfl | rfl | rfl | rfl | rfl<;>simp at h1<;>simp[l91_0,Zj7,h1]at h0 ⊢
  ·refine⟨(x/2^s,n+s,s/2),⟨?_,?_,?_,by simp only;omega⟩,by simp only;omega,?_⟩
   ·rcases hs with rfl | rfl | rfl | rfl | rfl | rfl<;>simp
   ·rcases hs with rfl | rfl | rfl | rfl | rfl | rfl<;>simp at hx h0 ⊢<;>omega
   ·have:=zld h1;simp only;omega
   ·have hw:IntKind.wrap .i64 ((n:Int)+s)=((n+s:Nat):Int):=zac _ (by omega);rcases hs with rfl | rfl | rfl | rfl | rfl | rfl<;>simp at h1 hw<;>simp[l91_0,Zj7,h1,hw]at h0 ⊢
end
section
variable{T:Tbl}[Zaj T]
theorem zsm(x:UInt32):Za T 91 [u32 x.toNat]=some (.i .i64 (Za2 x.toNat)):=by
 have hx:=zam x;obtain⟨_,⟨y,n,rfl,h1,h2,h3⟩,hl⟩:=zmo (T:=T) (Za2 x.toNat) (x.toNat,0,16) ⟨.inl rfl,by simp,by simp,by simp⟩;have hw:IntKind.wrap .i64 (y:Int)=y:=zac _ (by omega);have hw2:IntKind.wrap .i64 ((n:Int)+y)=((n+y:Nat):Int):=zac _ (by omega);have h4:=zui h1;rw[zaa Zaj.h91 rfl,b91];simp;unfold Zj7 at hl;simp at hl;rw[hl];simp[hw,hw2];omega
end
end Go.Ab
end
section
namespace Go.Ab
def l86_0:AX:= (.note (.seq (XS [mv 6 3,XC 7 .gtr 6 0,mv 8 7,VM 9 8 true 0,VM 10 8 true 3,VC 11 8 true .sub 10 1,VI 12 8 true 1 9 11,VO 13 8 true 12,gd 14 8 true (.bin .eql (.t 13) (.c (u32 0))),XW 15 8 14] (XQ 15 0)) (.block 1 (.reg [mv 16 3,XC 17 .sub 16 1,mv 3 17]))) (XG [0,3]))
def b86:AX:= (XS [XA 2 (.sl [] .nl)] (XS [mv 4 0,XN 5 4,mv 3 5] (.seq (.lp 0 (XG [0,3]) l86_0 (XG [0,3])) (XS [mv 18 0,mv 19 3,rg 20 (.slc 1 (.t 18) none (some (.t 19)) none),mv 2 20] (XZ [2])))))
def b106:AX:= (XS [XA 4 (.sl [] .nl)] (XS [mv 6 0,XN 7 6,mv 8 1,XB 9 .add 7 8,rg 10 (.mks 1 [(u32 0)] (.t 9) (.t 9)),mv 5 10] (XS [mv 11 5,mv 12 0,rg 13 (.xop .cpy [(.t 11),(.t 12)])] (XS [mv 14 5,mv 4 14] (XZ [4])))))
def b71:AX:= (XS [XA 2 (.sl [] .nl)] (XS [mv 3 0,XK1 4 86 3,rg 5 (.call 106 [(.t 4),(.c (.i .i64 0))]),mv 2 5] (XZ [2])))
def b72:AX:= (XS [XA 2 (.sl [] .nl)] (XS [mv 3 0,rg 4 (.conv .u32 (.t 3)),mv 5 0,rg 6 (.bin .shr (.t 5) (.c (u64 32))),rg 7 (.conv .u32 (.t 6)),rg 8 (.bsl 1 [(u32 0)] 2 [(0,(.t 4)),(1,(.t 7))]),XK1 9 86 8,mv 2 9] (XZ [2])))
def l73_0:AX:= (.note (XS [XB 15 .lss 14 13] (.seq (XQ 15 0) (.seq (.block 1 (XS [mv 16 14,XI 17 1 12 14,XO 18 17,mv 5 16,mv 6 18] (.reg [mv 19 4,mv 20 6,rg 21 (.conv .u64 (.t 20)),mv 22 5,rg 23 (.bin .mul (.c (.i .i64 32)) (.t 22)),XB 24 .shl 21 23,XB 25 .or 19 24,mv 4 25]))) (.reg [XC 26 .add 14 1,mv 14 26])))) (XG [4,12,13,14]))
def b73:AX:= (XS [XA 2 (u64 0),XJ 3] (XS [mv 7 0,XK1 8 86 7,mv 0 8] (.seq (XS [mv 9 0,XN 10 9,XC 11 .gtr 10 2] (XD 11 (XS [XA 2 (u64 0),XJ 3] (XZ [2,3])) .skip)) (XS [XA 4 (u64 0)] (.seq (XS [mv 12 0,XN 13 12,XL 14 0] (.lp 0 (XG [4,12,13,14]) l73_0 (XG [4]))) (XS [mv 27 4,mv 2 27,XA 3 (.b true)] (XZ [2,3])))))))
def b70:AX:= (XS [XJ 2] (XS [mv 3 0,XK1 4 86 3,XN 5 4,XC 6 .eql 5 0,mv 2 6] (XZ [2])))
def l87_0:AX:= (.note (.seq (XS [mv 25 5,XC 26 .geq 25 0] (XQ 26 1)) (.seq (.block 2 (.block 3 (.seq (.drawT [mv 30 0,mv 31 5,XI 32 1 30 31,XO 33 32,mv 34 1,mv 35 5,XI 36 1 34 35,XO 37 36] [XB 38 .lss 33 37,mv 29 38]) (XD 29 (XS [XA 4 (.i .i64 (-1))] (XZ [4])) (.seq (.drawT [mv 40 0,mv 41 5,XI 42 1 40 41,XO 43 42,mv 44 1,mv 45 5,XI 46 1 44 45,XO 47 46] [XB 48 .gtr 43 47,mv 39 48]) (XD 39 (XS [XL 4 1] (XZ [4])) .skip)))))) (.reg [mv 27 5,XC 28 .sub 27 1,mv 5 28]))) (XG [0,1,5]))
def b87:AX:= (XS [XL 4 0] (XS [mv 6 0,XK1 7 86 6,mv 8 1,XK1 9 86 8,mv 0 7,mv 1 9] (.seq (.block 0 (XS [mv 11 0,XN 12 11,mv 13 1,XN 14 13,XB 15 .lss 12 14,mv 10 15] (XD 10 (XS [XA 4 (.i .i64 (-1))] (XZ [4])) (XS [mv 17 0,XN 18 17,mv 19 1,XN 20 19,XB 21 .gtr 18 20,mv 16 21] (XD 16 (XS [XL 4 1] (XZ [4])) .skip))))) (.seq (XS [mv 22 0,XN 23 22,XC 24 .sub 23 1,mv 5 24] (.lp 1 (XG [0,1,5]) l87_0 (XG []))) (XS [XL 4 0] (XZ [4]))))))
def l85_0:AX:= (.note (XS [XB 21 .lss 20 19] (.seq (XQ 21 0) (.seq (.block 1 (XS [mv 22 20,mv 7 22] (XS [XA 8 (u32 0)] (.seq (XS [mv 23 7,mv 24 1,XN 25 24,XB 26 .lss 23 25] (XD 26 (.reg [mv 27 1,mv 28 7,XI 29 1 27 28,XO 30 29,mv 8 30]) .skip)) (.reg [mv 32 5,mv 33 7,mv 34 0,mv 35 7,XI 36 1 34 35,XO 37 36,mv 38 8,mv 39 6,XK3 40 115 37 38 39,mv 31 40,XE 41 31 0,XE 42 31 1,XI 43 1 32 33,XT 1 43 41,mv 6 42]))))) (.reg [XC 44 .add 20 1,mv 20 44])))) (XG [0,1,5,6,19,20]))
def b85:AX:= (XS [XA 4 (.sl [] .nl)] (.seq (XS [mv 9 0,XN 10 9,mv 11 1,XN 12 11,XB 13 .lss 10 12] (XD 13 (.reg [mv 14 1,mv 15 0,mv 0 14,mv 1 15]) .skip)) (XS [mv 16 0,rg 17 (.call 2106 [(.t 16),(.c (.i .i64 1))]),mv 5 17] (XS [XA 6 (u32 0)] (.seq (XS [mv 18 0,XN 19 18,XL 20 0] (.lp 0 (XG [0,1,5,6,19,20]) l85_0 (XG [0,5,6]))) (XS [mv 45 5,mv 46 0,XN 47 46,mv 48 6,XI 49 1 45 47,XT 1 49 48] (XS [mv 50 5,XK1 51 86 50,mv 4 51] (XZ [4]))))))))
def l56_0:AX:= (.note (XS [XB 9 .lss 8 7] (.seq (XQ 9 0) (.seq (.block 1 (XS [XI 10 1 6 8,XO 11 10,mv 5 11] (.reg [mv 12 3,mv 13 5,XK1 14 86 13,XK2 15 85 12 14,mv 3 15]))) (.reg [XC 16 .add 8 1,mv 8 16])))) (XG [3,6,7,8]))
def b56:AX:= (XS [XA 2 (.sl [] .nl)] (XS [XA 3 (.sl [] .nl)] (.seq (XS [mv 6 0,XN 7 6,XL 8 0] (.lp 0 (XG [3,6,7,8]) l56_0 (XG [3]))) (XS [mv 17 3,mv 2 17] (XZ [2])))))
def l88_0:AX:= (.note (XS [XB 23 .lss 22 21] (.seq (XQ 23 0) (.seq (.block 1 (XS [mv 24 22,mv 8 24] (XS [XA 9 (u32 0)] (.seq (XS [mv 25 8,mv 26 1,XN 27 26,XB 28 .lss 25 27] (XD 28 (.reg [mv 29 1,mv 30 8,XI 31 1 29 30,XO 32 31,mv 9 32]) .skip)) (.reg [mv 34 6,mv 35 8,mv 36 0,mv 37 8,XI 38 1 36 37,XO 39 38,mv 40 9,mv 41 7,XK3 42 116 39 40 41,mv 33 42,XE 43 33 0,XE 44 33 1,XI 45 1 34 35,XT 1 45 43,mv 7 44]))))) (.reg [XC 46 .add 22 1,mv 22 46])))) (XG [0,1,6,7,21,22]))
def b88:AX:= (XS [XA 4 (.sl [] .nl),XJ 5] (XS [mv 10 0,XK1 11 86 10,mv 12 1,XK1 13 86 12,mv 0 11,mv 1 13] (.seq (XS [mv 14 0,mv 15 1,XK2 16 87 14 15,XC 17 .lss 16 0] (XD 17 (XS [XA 4 (.sl [] .nl),XJ 5] (XZ [4,5])) .skip)) (XS [mv 18 0,rg 19 (.call 2106 [(.t 18),(.c (.i .i64 0))]),mv 6 19] (XS [XA 7 (u32 0)] (.seq (XS [mv 20 0,XN 21 20,XL 22 0] (.lp 0 (XG [0,1,6,7,21,22]) l88_0 (XG [6]))) (XS [mv 47 6,XK1 48 86 47,mv 4 48,XA 5 (.b true)] (XZ [4,5]))))))))
def b57:AX:= (XS [XA 4 (.sl [] .nl),XL 5 0] (XS [mv 9 0,mv 10 1,XK2 11 87 9 10,mv 6 11] (.seq (XS [mv 12 6,XC 13 .lss 12 0] (XD 13 (.reg [mv 14 1,mv 15 0,mv 0 14,mv 1 15]) .skip)) (XS [mv 17 0,mv 18 1,XK2 19 88 17 18,mv 16 19,XE 20 16 0,XE 21 16 1,mv 7 20,mv 8 21] (XS [mv 22 7,mv 23 6,mv 4 22,mv 5 23] (XZ [4,5]))))))
def b2106:AX:= (XS [XA 4 (.sl [] .nl)] (XS [mv 6 0,XN 7 6,mv 8 1,XB 9 .add 7 8,rg 10 (.mks 1 [(u32 0)] (.t 9) (.t 9)),mv 5 10] (XS [mv 11 5,mv 12 0,rg 13 (.xop .cpy [(.t 11),(.t 12)])] (XS [mv 14 5,mv 4 14] (XZ [4])))))
def row86:AFx:=XrV 1 21 2 b86
def row106:AFx:=XrV 2 15 4 b106
def row71:AFx:=XrV 1 6 2 b71
def row72:AFx:=XrV 1 10 2 b72
def row73:AFx:=⟨1,28,[.t 2,.t 3],b73,none,false⟩
def row70:AFx:=XrV 1 7 2 b70
def row87:AFx:=XrV 2 49 4 b87
def row85:AFx:=XrV 2 52 4 b85
def row56:AFx:=XrV 1 18 2 b56
def row88:AFx:=⟨2,49,[.t 4,.t 5],b88,none,false⟩
def row57:AFx:=⟨2,24,[.t 4,.t 5],b57,none,false⟩
def row2106:AFx:=⟨2,15,[.t 4],b2106,(some [false,false]),false⟩
class Zs (T:Tbl):Prop extends Zaj T where
 h86:T 86=some row86
 h106:T 106=some row106
 h71:T 71=some row71
 h72:T 72=some row72
 h73:T 73=some row73
 h70:T 70=some row70
 h87:T 87=some row87
 h85:T 85=some row85
 h56:T 56=some row56
 h88:T 88=some row88
 h57:T 57=some row57
 h2106:T 2106=some row2106
section
variable{T:Tbl}[Zs T]{d:Option Nat}{st:St}
@[simp] theorem x86:XRx T 86:=xrx Zs.h86
@[simp] theorem x106:XRx T 106:=xrx Zs.h106
@[simp] theorem x71:XRx T 71:=xrx Zs.h71
@[simp] theorem y71{e:Env}{h:Heap}{older:List Heap}(args:List Opd):opD (orc T) T (.call 71 args) e h older=dR (Za T 71 ((args.map (ev e.get)).map (wkIf false))) (args.map (ev e.get)):=zaf Zs.h71
@[simp] theorem x72:XRx T 72:=xrx Zs.h72
@[simp] theorem y72{e:Env}{h:Heap}{older:List Heap}(args:List Opd):opD (orc T) T (.call 72 args) e h older=dR (Za T 72 ((args.map (ev e.get)).map (wkIf false))) (args.map (ev e.get)):=zaf Zs.h72
@[simp] theorem x73:XRx T 73:=xrx Zs.h73
@[simp] theorem x70:XRx T 70:=xrx Zs.h70
@[simp] theorem x87:XRx T 87:=xrx Zs.h87
@[simp] theorem x85:XRx T 85:=xrx Zs.h85
@[simp] theorem y56{e:Env}{h:Heap}{older:List Heap}(args:List Opd):opD (orc T) T (.call 56 args) e h older=dR (Za T 56 ((args.map (ev e.get)).map (wkIf false))) (args.map (ev e.get)):=zaf Zs.h56
@[simp] theorem x88:XRx T 88:=xrx Zs.h88
@[simp] theorem x57:XRx T 57:=xrx Zs.h57
@[simp] theorem x2106(xs:List AV):Zd (orc T) T 2106 xs d st=bL (Ze4 st.heap [false,false] xs) fun ys=>Zed ys (Zh (Zaw [false,false] xs) st.heap) (Zcz (Zh (Zaw [false,false] xs) st.heap) 40 (Zcn [false,false] xs) []) T 2106 false d st:=zas Zs.h2106
end
end Go.Ab
end
section
namespace Go.Ab
def val:List UInt32→Nat
 | []=>0
 | x::l=>x.toNat+4294967296*val l
def ofN(n:Nat):List UInt32:=if n=0 then [] else w32 n::ofN (n/4294967296)
termination_by n
decreasing_by omega
def Zkh(l:List UInt32):Prop:=∀x,l.getLast? = some x→x.toNat≠0
@[simp] theorem zbf:val []=0:=rfl
@[simp] theorem zap(x:UInt32)(l:List UInt32):val (x::l)=x.toNat+4294967296*val l:=rfl
@[simp] theorem zm0:ofN 0=[]:=by rw[ofN];rfl
theorem zht{n:Nat}(h:n≠0):ofN n=w32 n::ofN (n/4294967296):=by rw[ofN,if_neg h]
theorem zb7(n:Nat):(w32 n).toNat=n%4294967296:=zby n
theorem z5h{x:UInt32}{n:Nat}(h:n%4294967296=x.toNat):w32 n=x:=by
 rw[←Yef,zb7,h]
theorem zae(n:Nat):val (ofN n)=n:=by
 induction n using Nat.strongRecOn with
 | _ n ih=>
  by_cases h:n=0
  ·subst h;simp
  ·rw[zht h,zap,ih (n/4294967296) (by omega),zb7];omega
theorem zaj(l m:List UInt32):val (l++m)=val l+4294967296^l.length*val m:=by
 induction l with
 | nil=>simp
 | cons x l ih=>
  simp only[Yc1,zap,ih,Yn,Y6,Yae,Ya0];congr 2;rw[←Y9,Yab 4294967296 (4294967296^l.length)]
theorem za0(l:List UInt32):val l<4294967296^l.length:=by
 induction l with
 | nil=>simp
 | cons x l ih=>
  have:=zam x;simp only[zap,Yn,Y6];omega
theorem zlt{x:UInt32}{l:List UInt32}(h:Zkh (x::l)):Zkh l:=by
 intro y hy;apply h;cases l with
 | nil=>simp at hy
 | cons z l=>rw[List.getLast?_cons_cons];exact hy
theorem z4j{l:List UInt32}(h:Zkh l):val l=0↔l=[]:=by
 constructor
 ·intro h0
  induction l with
  | nil=>rfl
  | cons x l ih=>
   exfalso;simp only[zap]at h0;have h1:=ih (zlt h) (by omega);subst h1;exact h x (by simp) (by omega)
 ·rintro rfl;rfl
theorem z8m{l:List UInt32}(h:Zkh l):ofN (val l)=l:=by
 induction l with
 | nil=>simp
 | cons x l ih=>
  have hx:=zam x;have hne:val (x::l)≠0:=fun h0=>by have:=(z4j h).1 h0;cases this
  rw[zht hne];congr 1
  ·exact z5h (by simp only[zap];omega)
  ·rw[show val (x::l)/4294967296=val l by simp only[zap];omega];exact ih (zlt h)
theorem zaw{n:Nat}:ofN n=[]↔n=0:=⟨fun h=>by rw[←zae n,h];rfl,fun h=>by rw[h];simp⟩
theorem zv1{a:List UInt32}{n:Nat}(hn:n≤a.length)(h0:∀(i:Nat) (x:UInt32),n≤i→a[i]? = some x→x.toNat=0)(h1:∀x:UInt32,0<n→a[n-1]? = some x→x.toNat≠0):a.take n=ofN (val a):=by
 have hr:Zkh (a.take n):=by
  intro x hx;have hn0:0<n:=by
   rcases Yar n with h | h
   ·subst h;simp at hx
   ·exact h
  apply h1 x hn0;rw[List.getLast?_eq_getElem?,Yaj,Ybg hn,Yah,if_pos (by omega)]at hx;exact hx
 have hz:∀l:List UInt32,(∀(i:Nat) (x:UInt32),l[i]? = some x→x.toNat=0)→val l=0:=by
  intro l
  induction l with
  | nil=>intro _;rfl
  | cons x l ih=>
   intro h;have h2:=h 0 x rfl;have h3:=ih fun i y hy=>h (i+1) y (by simpa using hy);simp only[zap,h2,h3]
 have hv:val a=val (a.take n):=by
  have e:=zaj (a.take n) (a.drop n);rw[Yay,hz (a.drop n) (fun i x hx=>h0 (n+i) x (by omega) (by rw[Yaq]at hx;exact hx))]at e;omega
 rw[hv,z8m hr]
theorem zg1(a:List UInt32):∃n,n≤a.length∧a.take n=ofN (val a)∧(∀(i:Nat) (x:UInt32),n≤i→a[i]? = some x→x.toNat=0)∧(∀x:UInt32,0<n→a[n-1]? = some x→x.toNat≠0):=by
 have key:∀k,k≤a.length→(∀(i:Nat) (x:UInt32),k≤i→a[i]? = some x→x.toNat=0)→∃n,n≤k∧(∀(i:Nat) (x:UInt32),n≤i→a[i]? = some x→x.toNat=0)∧(∀x:UInt32,0<n→a[n-1]? = some x→x.toNat≠0):=by
  intro k
  induction k with
  | zero=>intro _ h;exact⟨0,Yg _,h,fun x hx=>by omega⟩
  | succ k ih=>
   intro hk h;by_cases hz:(a[k]'(by omega)).toNat=0
   ·obtain⟨n,h1,h2,h3⟩:=ih (by omega) fun i x hi hx=>by
     rcases Ys k i with h4 | h4
     ·exact h i x h4 hx
     ·have:i=k:=by omega
      subst this;rw[Ya (by omega)]at hx;cases hx;exact hz
    exact⟨n,by omega,h2,h3⟩
   ·refine⟨k+1,Yg _,h,fun x _ hx=>?_⟩;rw[Nat.add_sub_cancel,Ya (by omega)]at hx;cases hx;exact hz
 obtain⟨n,h1,h2,h3⟩:=key a.length (Yg _) fun i x hi hx=>by rw[Ybs hi]at hx;cases hx
 exact⟨n,h1,zv1 h1 h2 h3,h2,h3⟩
theorem zad(a:List UInt32):(ofN (val a)).length≤a.length:=by
 obtain⟨n,h1,h2,_⟩:=zg1 a;rw[←h2,Yaj];omega
theorem zan{n k:Nat}(h:n<4294967296^k):(ofN n).length≤k:=by
 induction k generalizing n with
 | zero=>
  have:n=0:=by simp at h;omega
  subst this;simp
 | succ k ih=>
  by_cases h0:n=0
  ·subst h0;simp
  ·rw[zht h0,Yn];have:=ih (n:=n/4294967296) (by rw[Y6]at h;omega);omega
theorem zag{a:List UInt32}{i:Nat}{x:UInt32}(h:a[i]? = some x):val (a.take (i+1))=val (a.take i)+4294967296^i*x.toNat:=by
 have hi:i<a.length:=by
  rcases Ys i a.length with h1 | h1
  ·exact h1
  ·rw[Ybs h1]at h;cases h
 rw[Ydf,h,zaj];simp only[Option.toList_some,zap,zbf,Yal,Y4,Yaj];rw[Ybg (by omega)]
theorem zbs{a:List UInt32}{i:Nat}(x:UInt32)(h:i<a.length):val ((a.set i x).take (i+1))=val (a.take i)+4294967296^i*x.toNat:=by
 rw[zag (x:=x) (by rw[Yde h]),List.take_set_of_le (Yg i)]
theorem zbi{a:List UInt32}{i:Nat}(h:a.length≤i):val (a.take i)=val a:=by rw[Yb h]
theorem zbk(n:Nat):val (List.replicate n 0)=0:=by
 induction n with
 | zero=>rfl
 | succ n ih=>simp[Yck,ih]
theorem zhu{m n:Nat}(h:(ofN m).length<(ofN n).length):m<n:=by
 rcases Ys m n with h1 | h1
 ·exact h1
 ·exfalso;have h2:=za0 (ofN m);rw[zae]at h2;have:=zan (show n<4294967296^(ofN m).length by omega);omega
theorem zat{m n:Nat}(h:m≤n):(ofN m).length≤(ofN n).length:=by
 rcases Ys (ofN n).length (ofN m).length with h1 | h1
 ·have:=zhu h1;omega
 ·exact h1
def Zc8(x y:Nat):Int:=if x<y then -1 else if y<x then 1 else 0
theorem z05{a b:List UInt32}{i:Nat}{x y:UInt32}(hx:a[i]? = some x)(hy:b[i]? = some y)(h:x.toNat<y.toNat):val (a.take (i+1))<val (b.take (i+1)):=by
 rw[zag hx,zag hy];have h1:=za0 (a.take i);have h2:4294967296^(a.take i).length≤4294967296^i:=Yu (by decide) (by simp;omega);have h3:=Yac (4294967296^i) (show x.toNat+1≤y.toNat from h);rw[Yae]at h3;omega
theorem zm1{x y c:Nat}(hx:x<4294967296)(hy:y<4294967296)(hc:c≤1) :
  (x+8589934592-(y+c))%4294967296+(y+c)=x+4294967296*(2-(x+8589934592-(y+c))/4294967296)∧2-(x+8589934592-(y+c))/4294967296≤1:=by omega
def lls(l:List (List UInt32)):List (List AV):=l.map fun a=>[.sl (Zb a) .an]
@[simp] theorem z94(l:List (List UInt32)):(lls l).length=l.length:=by simp[lls]
@[simp] theorem zamf(l:List (List UInt32)):wkL (lls l)=lls l:=by rw[zb9];simp[lls,wkR]
@[simp] theorem z8n(l:List (List UInt32))(i:Nat)(h:i<(lls l).length):(lls l)[i]=[.sl (Zb (l[i]'(by simpa using h))) .an]:=by simp[lls]
end Go.Ab
end
section
namespace Go.Ab
section
variable{T:Tbl}
theorem zyz(a:List UInt32)(hl:a.length<9223372036854775808){n:Nat}(hn:n≤a.length)(h0:∀(i:Nat) (x:UInt32),n≤i→a[i]? = some x→x.toNat=0)(h1:∀x:UInt32,0<n→a[n-1]? = some x→x.toNat≠0) :
  ∀m:Nat,(n≤m∧m≤a.length)→Ze T 0 0 (.norm false [0,3]) l86_0 ⟨[(0,.sl (Zb a) .an),(3,.i .i64 (m:Int))],[],2⟩=some (.n,⟨[(0,.sl (Zb a) .an),(3,.i .i64 (n:Int))],[],2⟩):=by
 refine zav (fun m:Nat=>⟨[(0,.sl (Zb a) .an),(3,.i .i64 (m:Int))],[],2⟩) _ (fun m=>m) _ ?_
 rintro m ⟨hm,hma⟩
 by_cases h2:m=0
 ·right;subst h2;have:n=0:=by omega
  subst this;constructor<;>simp[l86_0]
 ·have hw:IntKind.wrap .i64 ((m:Int)-1)=((m-1:Nat):Int):=by rw[zac _ (by omega)];omega
  have hm1:m-1<a.length:=by omega
  have hg:a[m-1]? = some (a[m-1]'hm1):=Ya hm1;have hpos:0<m:=by omega
  by_cases h3:m=n
  ·right;subst h3;have hx:=h1 _ hpos hg;constructor<;>simp[l86_0,hpos,hw,hm1,hx]
  ·left;refine⟨m-1,⟨by omega,by omega⟩,by show m-1<m;omega,?_,rfl⟩;have hx:=h0 (m-1) _ (by omega) hg;simp[l86_0,hpos,hw,hm1,hx]
end
section
variable{T:Tbl}[Zs T]
theorem zbu(a:List UInt32)(hl:a.length≤4294967296):Za T 86 [.sl (Zb a) .an]=some (.sl (Zb (ofN (val a))) .an):=by
 obtain⟨n,h1,h2,h3,h4⟩:=zg1 a;have hr:=zyz (T:=T) a (by omega) h1 h3 h4 a.length ⟨h1,Yg _⟩;rw[zaa Zs.h86 rfl,b86];simp[hr,h1,h2]
theorem zy0(a:List UInt32)(m:Nat)(hl:a.length+m≤4294967296):Za T 106 [.sl (Zb a) .an,.i .i64 (m:Int)]=some (.sl (Zb (a++List.replicate m 0)) .an):=by
 have hw:IntKind.wrap .i64 ((a.length:Int)+m)=((a.length+m:Nat):Int):=zac _ (by omega);have h0:(0:Int)≤(a.length:Int)+m:=by omega
 have h2:(a.length:Int)+m≤4294967296:=by omega
 have h3:((a.length:Int)+m).toNat=a.length+m:=by omega
 rw[zaa Zs.h106 rfl,b106];simp[hw,h0,h2,h3,Yb]
theorem zcy(a:List UInt32)(m:Nat)(hl:a.length+m≤4294967296):Zbp T 2106 [.sl (Zb a) .an,.i .i64 (m:Int)] [] =
  some (.bs (.loc 10) 1 1 0 (a.length+m),[(.loc 10,⟨1,.own,1,Zb (a++List.replicate m 0)⟩)]):=by
 have hw:IntKind.wrap .i64 ((a.length:Int)+m)=((a.length+m:Nat):Int):=zac _ (by omega);have h0:(0:Int)≤(a.length:Int)+m:=by omega
 have h2:(a.length:Int)+m≤4294967296:=by omega
 have h3:((a.length:Int)+m).toNat=a.length+m:=by omega
 rw[za3 Zs.h2106 rfl,b2106];simp[hw,h0,h2,h3]
theorem zbv(a:List UInt32)(hl:a.length≤4294967296):Za T 71 [.sl (Zb a) .an]=some (.sl (Zb (ofN (val a))) .an):=by
 have h1:=zad a;have h2:=zy0 (T:=T) (ofN (val a)) 0 (by omega);simp only[Yl]at h2;rw[zaa Zs.h71 rfl,b71];simp[zbu a hl,h2]
theorem zh0(n:Nat)(h:n<18446744073709551616):Za T 72 [u64 n]=some (.sl (Zb (ofN n)) .an):=by
 have e2:val [w32 n,w32 (n/4294967296)]=n:=by simp[zb7];omega
 have h2:=zbu (T:=T) [w32 n,w32 (n/4294967296)] (by simp);rw[e2]at h2;have h3:n/4294967296%4294967296=n/4294967296:=Yk (by omega);rw[zaa Zs.h72 rfl,b72];simp[h3,zbj _ _ _ (show n/4294967296<4294967296 by omega),h2]
theorem zgt(a:List UInt32)(hl:a.length≤4294967296):Za T 70 [.sl (Zb a) .an]=some (.b (decide (val a=0))):=by
 rw[zaa Zs.h70 rfl,b70];have:((((ofN (val a)).length:Int) == 0))=decide (val a=0):=by
  rw[Ybr];simp[zaw]
 simp[zbu a hl,this]
def Zg7(a b:List UInt32)(y:Nat×Nat×List UInt32):St:=
 ⟨[(0,.sl (Zb a) .an),(1,.sl (Zb b) .an),(5,.bs (.fld (.loc 17) 10) 1 1 0 (a.length+1)),(6,u32 y.2.1),(19,.i .i64 a.length),(20,.i .i64 y.1)],
  [(.fld (.loc 17) 10,⟨1,.own,1,Zb y.2.2⟩)],3⟩
theorem zon(a b:List UInt32)(hb:b.length≤a.length)(hl:a.length≤1000000):∀y:Nat×Nat×List UInt32,
  (y.1≤a.length∧y.2.1≤1∧y.2.2.length=a.length+1∧val (y.2.2.take y.1)+4294967296^y.1*y.2.1=val (a.take y.1)+val (b.take y.1)) →
  ∃r,(∃(c:Nat) (out:List UInt32),r=(Ex.n,(⟨[(0,.sl (Zb a) .an),(5,.bs (.fld (.loc 17) 10) 1 1 0 (a.length+1)),(6,u32 c)],[(.fld (.loc 17) 10,⟨1,.own,1,Zb out⟩)],3⟩:St)) ∧
   out.length=a.length+1∧c≤1∧val (out.take a.length)+4294967296^a.length*c=val a+val b)∧Ze T 0 0 (.norm false [0,5,6]) l85_0 (Zg7 a b y)=some r:=by
 refine zay _ _ (fun y=>a.length-y.1) _ ?_
 rintro⟨i,c,out⟩ ⟨hi,hc,ho,hv⟩
 simp only at hi hc ho hv;by_cases h0:i<a.length
 ·left;have ha:a[i]? = some (a[i]'h0):=Ya h0;have hoi:i<out.length:=by omega
  have hog:out[i]? = some (out[i]'hoi):=Ya hoi;have hw:IntKind.wrap .i64 ((i:Int)+1)=((i+1:Nat):Int):=zac _ (by omega);have hc2:c<4294967296:=by omega
  have hil:(i:Int)<(a.length:Int)+1:=by omega
  have h1:=zag ha;by_cases h2:i<b.length
  ·have hbg:b[i]? = some (b[i]'h2):=Ya h2;have h3:=zag hbg;refine⟨(i+1,((a[i]'h0).toNat+(b[i]'h2).toNat+c)/4294967296,out.set i (w32 ((a[i]'h0).toNat+(b[i]'h2).toNat+c))),⟨by simp only;omega,?_,by simp[ho],?_⟩,by simp only;omega,?_⟩
   ·have:=zam (a[i]'h0);have:=zam (b[i]'h2);simp only;omega
   ·simp only;rw[zbs _ hoi,h1,h3,zb7,Y6];generalize 4294967296^i=p at *
    generalize (a[i]'h0).toNat=x at *
    generalize (b[i]'h2).toNat=z at *
    have e:=Ybq (x+z+c) 4294967296;have e2:p*((x+z+c)%4294967296)+p*4294967296*((x+z+c)/4294967296)=p*(x+z+c):=by
     conv=>rhs;rw[←e]
     rw[Yae,Y9];omega
    rw[Yae,Yae]at e2;omega
   ·simp[l85_0,Zg7,h0,h2,hog,hw,hil,ze2,hc2]
  ·have h3:val (b.take (i+1))=val (b.take i):=by rw[zbi (by omega),zbi (by omega)]
   refine⟨(i+1,((a[i]'h0).toNat+0+c)/4294967296,out.set i (w32 ((a[i]'h0).toNat+0+c))),⟨by simp only;omega,?_,by simp[ho],?_⟩,by simp only;omega,?_⟩
   ·have:=zam (a[i]'h0);simp only;omega
   ·simp only;rw[zbs _ hoi,h1,h3,zb7,Y6];generalize 4294967296^i=p at *
    generalize (a[i]'h0).toNat=x at *
    have e:=Ybq (x+0+c) 4294967296;have e2:p*((x+0+c)%4294967296)+p*4294967296*((x+0+c)/4294967296)=p*(x+0+c):=by
     conv=>rhs;rw[←e]
     rw[Yae,Y9];omega
    rw[Yae,Yae]at e2;omega
   ·simp[l85_0,Zg7,h0,h2,hog,hw,hil,ze2,hc2]
 ·right;have:i=a.length:=by omega
  subst this;rw[Yb (Yg _),Yb hb]at hv;refine⟨_,⟨c,out,rfl,ho,hc,hv⟩,?_,?_⟩<;>simp[l85_0,Zg7]
theorem zy3(a b:List UInt32)(hb:b.length≤a.length)(hl:a.length≤1000000):Za T 85 [.sl (Zb a) .an,.sl (Zb b) .an]=some (.sl (Zb (ofN (val a+val b))) .an):=by
 have hf:=zcy (T:=T) a 1 (by omega);simp only[Yen]at hf;obtain⟨_,⟨c,out,rfl,ho,hc,hv⟩,hr⟩:=zon (T:=T) a b hb hl (0,0,a++List.replicate 1 0) ⟨Yv _,Yv _,by simp,by simp⟩;unfold Zg7 at hr;simp at hr;have hog:out[a.length]? = some (out[a.length]'(by omega)):=Ya _;have h1:¬ (a.length:Int)<b.length:=by omega
 have h2:¬ a.length<b.length:=by omega
 have h3:(a.length:Int)<(a.length:Int)+1:=by omega
 have hval:val (out.set a.length (w32 c))=val a+val b:=by
  rw[←Yb (l:=out.set a.length (w32 c)) (i:=a.length+1) (by simp;omega),zbs _ (by omega),zah (by omega)];exact hv
 have ht:=zbu (T:=T) (out.set a.length (w32 c)) (by simp;omega);rw[hval]at ht;have htk:List.take (a.length+1) (out.set a.length (w32 c))=out.set a.length (w32 c):=Yb (by simp;omega);rw[zaa Zs.h85 rfl,b85];simp[h1,hf,hr,h3,zbj _ _ _ (show c<4294967296 by omega),htk,ht,ho]
theorem zuq(a b:List UInt32)(hb:a.length<b.length)(hl:b.length≤1000000):Za T 85 [.sl (Zb a) .an,.sl (Zb b) .an]=some (.sl (Zb (ofN (val a+val b))) .an):=by
 have hf:=zcy (T:=T) b 1 (by omega);simp only[Yen]at hf;obtain⟨_,⟨c,out,rfl,ho,hc,hv⟩,hr⟩:=zon (T:=T) b a (by omega) hl (0,0,b++List.replicate 1 0) ⟨Yv _,Yv _,by simp,by simp⟩;unfold Zg7 at hr;simp at hr;have hog:out[b.length]? = some (out[b.length]'(by omega)):=Ya _;have h1:(a.length:Int)<b.length:=by omega
 have h3:(b.length:Int)<(b.length:Int)+1:=by omega
 have hval:val (out.set b.length (w32 c))=val a+val b:=by
  rw[←Yb (l:=out.set b.length (w32 c)) (i:=b.length+1) (by simp;omega),zbs _ (by omega),zah (by omega),hv,Ybi]
 have ht:=zbu (T:=T) (out.set b.length (w32 c)) (by simp;omega);rw[hval]at ht;have htk:List.take (b.length+1) (out.set b.length (w32 c))=out.set b.length (w32 c):=Yb (by simp;omega);rw[zaa Zs.h85 rfl,b85];simp[h1,hf,hr,h3,zbj _ _ _ (show c<4294967296 by omega),htk,ht,ho]
theorem z29(a b:List UInt32)(ha:a.length≤1000000)(hb:b.length≤1000000):Za T 85 [.sl (Zb a) .an,.sl (Zb b) .an]=some (.sl (Zb (ofN (val a+val b))) .an):=by
 rcases Ys a.length b.length with h | h
 ·exact zuq a b h hb
 ·exact zy3 a b h ha
def Zf0(l:List (List UInt32)):Nat:=(l.map val).sum
theorem z3a(K:Nat):∀m:List (List UInt32),m.length≤1000→(∀a∈m,a.length≤K)→(ofN (Zf0 m)).length≤K+1:=by
 intro m hm hw;apply zan;rw[Y6];have hp0:0<4294967296^K:=Ya2 (by decide);have hall:∀a∈m,val a<4294967296^K:=fun a ha=>Yr (za0 a) (Yu (by decide) (hw a ha));generalize 4294967296^K=p at *
 have h1:Zf0 m≤m.length*p:=by
  clear hm hw
  induction m with
  | nil=>simp[Zf0]
  | cons a m ih=>
   have h2:=ih fun a ha=>hall a (Yq _ ha);have h3:=hall a Y8;simp only[Zf0,Yaa,List.sum_cons,Yn,Ybu,Ydt]at h2 ⊢;omega
 have h6:=Yt p hm;omega
theorem z3b(l:List (List UInt32))(hl:l.length≤1000)(hw:∀a∈l,a.length≤90000):∀i:Nat,i≤l.length →
  Ze T 0 0 (.norm false [3]) l56_0 ⟨[(3,.sl (Zb (ofN (Zf0 (l.take i)))) .an),(6,.sl (lls l) .an),(7,.i .i64 l.length),(8,.i .i64 i)],[],2⟩=some (.n,⟨[(3,.sl (Zb (ofN (Zf0 l))) .an)],[],2⟩):=by
 refine zav (fun i:Nat=>⟨[(3,.sl (Zb (ofN (Zf0 (l.take i)))) .an),(6,.sl (lls l) .an),(7,.i .i64 l.length),(8,.i .i64 i)],[],2⟩) _ (fun i=>l.length-i) _ ?_;intro i hi;by_cases h0:i<l.length
 ·left;have hg:l[i]? = some (l[i]'h0):=Ya h0;have hwr:IntKind.wrap .i64 ((i:Int)+1)=((i+1:Nat):Int):=zac _ (by omega);have hw1:=hw _ (Yi h0);have ht:=zbu (T:=T) (l[i]'h0) (by omega);have hs:=z3a 90000 (l.take i) (by simp;omega) fun a ha=>hw a (Ya5 ha);have hp:=z29 (T:=T) (ofN (Zf0 (l.take i))) (ofN (val (l[i]'h0))) (by omega) (by have:=zad (l[i]'h0);omega);rw[zae,zae]at hp;have e:Zf0 (l.take i)+val (l[i]'h0)=Zf0 (l.take (i+1)):=by
   unfold Zf0;rw[Ydf,hg];simp only[Option.toList_some,Yda,Yaa,Ybz,List.sum_append,List.sum_cons,List.sum_nil,Y4]
  rw[e]at hp;have hz:Zj2 1 (lls l)=true:=by cases l<;>simp[lls,Zj2]
  refine⟨i+1,h0,by show l.length-(i+1)<l.length-i;omega,?_,rfl⟩;simp[l56_0,h0,ht,hp,hwr]
 ·right;have:i=l.length:=by omega
  subst this;rw[Yb (Yg _)];constructor<;>simp[l56_0]
theorem z3c(l:List (List UInt32))(hl:l.length≤1000)(hw:∀a∈l,a.length≤90000):Za T 56 [.sl (lls l) .an]=some (.sl (Zb (ofN (Zf0 l))) .an):=by
 have h:=z3b (T:=T) l hl hw 0 (Yv _);simp[Zf0]at h;rw[zaa Zs.h56 rfl,b56];simp[h,Zf0]
end
section
variable{T:Tbl}
theorem z3d(a b:List UInt32)(hab:a.length=b.length)(hl:a.length≤1000000):∀m:Nat,m≤a.length →
  Ze T 0 1 (.norm false []) l87_0 ⟨[(0,.sl (Zb a) .an),(1,.sl (Zb b) .an),(5,.i .i64 ((m:Int)-1))],[],2⟩ =
   if val (a.take m)<val (b.take m) then some (.r,⟨[(4,.i .i64 (-1))],[],2⟩) else if val (b.take m)<val (a.take m) then some (.r,⟨[(4,.i .i64 1)],[],2⟩) else some (.n,⟨[],[],2⟩):=by
 refine zav (fun m:Nat=>⟨[(0,.sl (Zb a) .an),(1,.sl (Zb b) .an),(5,.i .i64 ((m:Int)-1))],[],2⟩) _ (fun m=>m) _ ?_;intro m hm;cases m with
 | zero=>
  right;constructor<;>simp[l87_0]
 | succ i=>
  have ha:a[i]? = some (a[i]'(by omega)):=Ya _;have hb:b[i]? = some (b[i]'(by omega)):=Ya _;have hia:i<a.length:=by omega
  have hib:i<b.length:=by omega
  have hw:IntKind.wrap .i64 ((i:Int)-1)=(i:Int)-1:=zac _ (by omega);rcases Ycd (a[i]'hia).toNat (b[i]'hib).toNat with h1 | h1 | h1
  ·right;have h2:=z05 ha hb h1;constructor<;>simp[l87_0,hia,hib,h1,h2]
  ·left;refine⟨i,by omega,Yy i,?_,?_⟩
   ·simp[l87_0,hia,hib,h1,hw]
   ·have e1:=zag ha;have e2:=zag hb;rw[e1,e2,h1];have e3:(val (a.take i)+4294967296^i*(b[i]'hib).toNat<val (b.take i)+4294967296^i*(b[i]'hib).toNat)=(val (a.take i)<val (b.take i)):=by
     apply propext;omega
    have e4:(val (b.take i)+4294967296^i*(b[i]'hib).toNat<val (a.take i)+4294967296^i*(b[i]'hib).toNat)=(val (b.take i)<val (a.take i)):=by
     apply propext;omega
    simp only[e3,e4]
  ·right;have h2:=z05 hb ha h1;have h3:¬ val (a.take (i+1))<val (b.take (i+1)):=by omega
   have h4:¬ (a[i]'hia).toNat<(b[i]'hib).toNat:=by omega
   constructor<;>simp[l87_0,hia,hib,h1,h2,h3,h4]
end
section
variable{T:Tbl}[Zs T]
theorem zhh(a b:List UInt32)(ha:a.length≤1000000)(hb:b.length≤1000000):Za T 87 [.sl (Zb a) .an,.sl (Zb b) .an]=some (.i .i64 (Zc8 (val a) (val b))):=by
 have hta:=zbu (T:=T) a (by omega);have htb:=zbu (T:=T) b (by omega);have hla:=zad a;have hlb:=zad b;rw[zaa Zs.h87 rfl,b87];rcases Ycd (ofN (val a)).length (ofN (val b)).length with h | h | h
 ·have h1:=zhu h;simp[hta,htb,h,Zc8,h1]
 ·have hc:=z3d (T:=T) (ofN (val a)) (ofN (val b)) h (by omega) (ofN (val a)).length (Yg _);rw[Yb (Yg _),Yb (by omega),zae,zae]at hc;have hw:IntKind.wrap .i64 (((ofN (val a)).length:Int)-1)=((ofN (val a)).length:Int)-1:=zac _ (by omega);have h1:¬ (ofN (val a)).length<(ofN (val b)).length:=by omega
  have h2:¬ (ofN (val b)).length<(ofN (val a)).length:=by omega
  simp[hta,htb,h1,h2,hw,hc,Zc8]
  repeat' split
  all_goals simp
 ·have h1:=zhu h;have h2:¬ val a<val b:=by omega
  have h3:¬ (ofN (val a)).length<(ofN (val b)).length:=by omega
  simp[hta,htb,h,Zc8,h1,h2,h3]
def Zj8(a b:List UInt32)(y:Nat×Nat×List UInt32):St:=
 ⟨[(0,.sl (Zb a) .an),(1,.sl (Zb b) .an),(6,.bs (.fld (.loc 19) 10) 1 1 0 a.length),(7,u32 y.2.1),(21,.i .i64 a.length),(22,.i .i64 y.1)],
  [(.fld (.loc 19) 10,⟨1,.own,1,Zb y.2.2⟩)],3⟩
theorem z3e(a b:List UInt32)(hb:b.length≤a.length)(hl:a.length≤1000000):∀y:Nat×Nat×List UInt32,
  (y.1≤a.length∧y.2.1≤1∧y.2.2.length=a.length∧val (y.2.2.take y.1)+val (b.take y.1)=val (a.take y.1)+4294967296^y.1*y.2.1) →
  ∃r,(∃(c:Nat) (out:List UInt32),r=(Ex.n,(⟨[(6,.bs (.fld (.loc 19) 10) 1 1 0 a.length)],[(.fld (.loc 19) 10,⟨1,.own,1,Zb out⟩)],3⟩:St)) ∧
   out.length=a.length∧c≤1∧val out+val b=val a+4294967296^a.length*c)∧Ze T 0 0 (.norm false [6]) l88_0 (Zj8 a b y)=some r:=by
 refine zay _ _ (fun y=>a.length-y.1) _ ?_
 rintro⟨i,c,out⟩ ⟨hi,hc,ho,hv⟩
 simp only at hi hc ho hv;by_cases h0:i<a.length
 ·left;have ha:a[i]? = some (a[i]'h0):=Ya h0;have hoi:i<out.length:=by omega
  have hog:out[i]? = some (out[i]'hoi):=Ya hoi;have hw:IntKind.wrap .i64 ((i:Int)+1)=((i+1:Nat):Int):=zac _ (by omega);have hc2:c<4294967296:=by omega
  have hx:=zam (a[i]'h0);have h1:=zag ha;have fin:∀z:Nat,z<4294967296→val (b.take (i+1))=val (b.take i)+4294967296^i*z →
    val ((out.set i (w32 ((a[i]'h0).toNat+8589934592-(z+c)))).take (i+1))+val (b.take (i+1))=val (a.take (i+1))+4294967296^(i+1)*(2-((a[i]'h0).toNat+8589934592-(z+c))/4294967296):=by
   intro z hz h3;have hs:=(zm1 hx hz hc).1;rw[zbs _ hoi,h1,h3,zb7,Y6];generalize 4294967296^i=p at *
   generalize (a[i]'h0).toNat=x at *
   generalize (x+8589934592-(z+c))%4294967296=s at *
   generalize 2-(x+8589934592-(z+c))/4294967296=d at *
   have e2:p*s+p*(z+c)=p*x+p*4294967296*d:=by rw[←Yae,hs,Yae,Y9]
   rw[Yae]at e2;omega
  by_cases h2:i<b.length
  ·have hbg:b[i]? = some (b[i]'h2):=Ya h2;have h3:=zag hbg;refine⟨(i+1,2-((a[i]'h0).toNat+8589934592-((b[i]'h2).toNat+c))/4294967296,out.set i (w32 ((a[i]'h0).toNat+8589934592-((b[i]'h2).toNat+c)))),⟨h0,(zm1 hx (zam _) hc).2,by simp[ho],fin _ (zam _) h3⟩,by simp only;omega,?_⟩;simp[l88_0,Zj8,h0,h2,hog,hw,zgs,hc2]
  ·have h3:val (b.take (i+1))=val (b.take i)+4294967296^i*0:=by rw[zbi (by omega),zbi (by omega)];simp
   refine⟨(i+1,2-((a[i]'h0).toNat+8589934592-(0+c))/4294967296,out.set i (w32 ((a[i]'h0).toNat+8589934592-(0+c)))),⟨h0,(zm1 hx (by decide) hc).2,by simp[ho],fin 0 (by decide) h3⟩,by simp only;omega,?_⟩;simp[l88_0,Zj8,h0,h2,hog,hw,zgs,hc2]
 ·right;have:i=a.length:=by omega
  subst this;rw[Yb (Yg _),Yb hb,Yb (by omega)]at hv;refine⟨_,⟨c,out,rfl,ho,hc,hv⟩,?_,?_⟩<;>simp[l88_0,Zj8]
theorem zdc{x y:Nat}:Zc8 x y<0↔x<y:=by
 unfold Zc8;split
 ·simp[*]
 ·split<;>simp[*]
theorem zy4(a b:List UInt32)(ha:a.length≤1000000)(hb:b.length≤1000000):Za T 88 [.sl (Zb a) .an,.sl (Zb b) .an] =
  some (if val a<val b then .tup [.sl [] .an,.b false] else .tup [.sl (Zb (ofN (val a-val b))) .an,.b true]):=by
 have hta:=zbu (T:=T) a (by omega);have htb:=zbu (T:=T) b (by omega);have hla:=zad a;have hlb:=zad b;have hc:=zhh (T:=T) (ofN (val a)) (ofN (val b)) (by omega) (by omega);rw[zae,zae]at hc;rw[zaa Zs.h88 rfl,b88];by_cases h:val a<val b
 ·simp[hta,htb,hc,zdc,h]
 ·have hle:=zat (show val b≤val a by omega);have hf:=zcy (T:=T) (ofN (val a)) 0 (by omega);simp only[Yl,Y4,Ydu,Ya8]at hf;obtain⟨_,⟨c,out,rfl,ho,hc1,hv⟩,hr⟩:=z3e (T:=T) (ofN (val a)) (ofN (val b)) hle (by omega) (0,0,ofN (val a)) ⟨Yv _,Yv _,rfl,by simp⟩;unfold Zj8 at hr;simp at hr;rw[zae,zae]at hv;have hlt:=za0 out;rw[ho]at hlt;have hc0:c=0:=by
   rcases Yar c with h1 | h1
   ·exact h1
   ·have:c=1:=by omega
    subst this;omega
  subst hc0;have hval:val out=val a-val b:=by omega
  have ht:=zbu (T:=T) out (by omega);rw[hval]at ht;have htk:List.take (ofN (val a)).length out=out:=Yb (by omega);simp[hta,htb,hc,zdc,h,hf,hr,ho,htk,ht]
theorem z67(a b:List UInt32)(ha:a.length≤1000000)(hb:b.length≤1000000):Za T 57 [.sl (Zb a) .an,.sl (Zb b) .an] =
  some (.tup [.sl (Zb (ofN (if val a<val b then val b-val a else val a-val b))) .an,.i .i64 (Zc8 (val a) (val b))]):=by
 have hc:=zhh (T:=T) a b ha hb;rw[zaa Zs.h57 rfl,b57];by_cases h:val a<val b
 ·have h2:¬ val b<val a:=by omega
  have hs:=zy4 (T:=T) b a hb ha;rw[if_neg h2]at hs;simp[hc,zdc,h,hs]
 ·have hs:=zy4 (T:=T) a b ha hb;rw[if_neg h]at hs;simp[hc,zdc,h,hs]
theorem z3f{x y:Nat}(hx:x<4294967296):x ||| (y*4294967296)=x+y*4294967296:=by
 have:=Ycu (i:=32) hx y;rw[Nat.or_comm,Yab y,show (4294967296:Nat)=2^32 from rfl,←this];omega
end
section
variable{T:Tbl}
theorem zur(l:List UInt32)(hl:l.length≤2):∀i:Nat,i≤l.length →
  Ze T 0 0 (.norm false [4]) l73_0 ⟨[(4,u64 (val (l.take i))),(12,.sl (Zb l) .an),(13,.i .i64 l.length),(14,.i .i64 i)],[],2⟩=some (.n,⟨[(4,u64 (val l))],[],2⟩):=by
 refine zav (fun i:Nat=>⟨[(4,u64 (val (l.take i))),(12,.sl (Zb l) .an),(13,.i .i64 l.length),(14,.i .i64 i)],[],2⟩) _ (fun i=>l.length-i) _ ?_;intro i hi;by_cases h0:i<l.length
 ·left;have hg:l[i]? = some (l[i]'h0):=Ya h0;have hx:=zam (l[i]'h0);have h1:=zag hg;refine⟨i+1,h0,by show l.length-(i+1)<l.length-i;omega,?_,rfl⟩;rcases(show i=0∨i=1 by omega) with rfl | rfl
  ·simp[l73_0,h0,h1]
  ·have h2:val (l.take 1)<4294967296:=by
    have:=za0 (l.take 1);have h3:(l.take 1).length=1:=by simp;omega
    rw[h3]at this;simpa using this
   have e1:(l[1]'h0).toNat*4294967296%18446744073709551616=(l[1]'h0).toNat*4294967296:=Yk (by omega);have e2:=z3f (y:=(l[1]'h0).toNat) h2;have e3:(val (l.take 1)+(l[1]'h0).toNat*4294967296)%18446744073709551616=val (l.take 1)+(l[1]'h0).toNat*4294967296:=Yk (by omega);have e4:val (l.take 1)+(l[1]'h0).toNat*4294967296=val (l.take (1+1)):=by rw[h1];omega
   simp at e4;have h0':(1:Int)<(l.length:Int):=by omega
   have e5:val (List.take 2 l)<18446744073709551616:=by omega
   simp[l73_0,h0,h0',e1,e2,e4,e5]
 ·right;have:i=l.length:=by omega
  subst this;rw[Yb (Yg _)];constructor<;>simp[l73_0]
end
section
variable{T:Tbl}[Zs T]
theorem zoo(a:List UInt32)(ha:a.length≤1000000):Za T 73 [.sl (Zb a) .an] =
  some (if val a<18446744073709551616 then .tup [u64 (val a),.b true] else .tup [u64 0,.b false]):=by
 have hta:=zbu (T:=T) a (by omega);have hla:=zad a;have hv:=zae (val a);rw[zaa Zs.h73 rfl,b73];generalize hl:ofN (val a)=l at *
 by_cases h:2<l.length
 ·have h2:¬ val a<18446744073709551616:=by
   intro h3;have:=zan (show val a<4294967296^2 from h3);rw[hl]at this;omega
  have h3:(2:Int)<(l.length:Int):=by omega
  simp[hta,h3,h2]
 ·have h2:val a<18446744073709551616:=by
   have:=za0 l;rw[hv]at this;have h3:4294967296^l.length≤4294967296^2:=Yu (by decide) (by omega);omega
  have h3:¬ (2:Int)<(l.length:Int):=by omega
  have hs:=zur (T:=T) l (by omega) 0 (Yv _);simp at hs;simp[hta,h3,h2,hs,hv]
end
end Go.Ab
end
section
namespace Go.Ab
def l89_0:AX:= (.note (XS [XB 15 .lss 14 13] (.seq (XQ 15 0) (.seq (.block 1 (XS [mv 16 14,XI 17 1 12 14,XO 18 17,mv 10 16,mv 11 18] (.reg [mv 20 0,mv 21 1,mv 22 10,XB 23 .add 21 22,mv 24 3,mv 25 11,mv 26 0,mv 27 1,mv 28 10,XB 29 .add 27 28,XI 30 1 26 29,XO 31 30,mv 32 4,XK4 33 117 24 25 31 32,mv 19 33,XE 34 19 0,XE 35 19 1,mv 4 34,XI 36 1 20 23,XT 1 36 35]))) (.reg [XC 37 .add 14 1,mv 14 37])))) (XG [0,1,2,3,4,12,13,14]))
def b89:AX:= (.seq (XS [mv 12 2,XN 13 12,XL 14 0] (.lp 0 (XG [0,1,2,3,4,12,13,14]) l89_0 (XG [0,1,2,4]))) (.reg [mv 38 0,mv 39 1,mv 40 2,XN 41 40,XB 42 .add 39 41,mv 43 4,XI 44 1 38 42,XT 1 44 43]))
def l60_0:AX:= (.note (XS [XB 18 .lss 17 16] (.seq (XQ 18 0) (.seq (.block 1 (XS [mv 19 17,XI 20 1 15 17,XO 21 20,mv 6 19,mv 7 21] (.reg [mv 22 5,mv 23 6,mv 24 0,mv 25 7,rg 26 (.call 89 [(.t 22),(.t 23),(.t 24),(.t 25),(.c (u32 0))])]))) (.reg [XC 27 .add 17 1,mv 17 27])))) (XG [0,5,15,16,17]))
def b60:AX:= (XS [XA 4 (.sl [] .nl)] (XS [mv 8 0,XN 9 8,mv 10 1,XN 11 10,XB 12 .add 9 11,XC 13 .add 12 1,rg 14 (.mks 1 [(u32 0)] (.t 13) (.t 13)),mv 5 14] (.seq (XS [mv 15 1,XN 16 15,XL 17 0] (.lp 0 (XG [0,5,15,16,17]) l60_0 (XG [5]))) (XS [mv 28 5,XK1 29 71 28,mv 4 29] (XZ [4])))))
def row89:AFx:=⟨5,45,[],b89,(some [true,false,false,false,false]),false⟩
def row60:AFx:=XrV 2 30 4 b60
class Z2 (T:Tbl):Prop extends Zs T where
 h89:T 89=some row89
 h60:T 60=some row60
section
variable{T:Tbl}[Z2 T]{d:Option Nat}{st:St}
@[simp] theorem x89(xs:List AV):Zd (orc T) T 89 xs d st=bL (Ze4 st.heap [true,false,false,false,false] xs) fun ys=>Zed ys (Zh (Zaw [true,false,false,false,false] xs) st.heap) (Zcz (Zh (Zaw [true,false,false,false,false] xs) st.heap) 40 (Zcn [true,false,false,false,false] xs) []) T 89 false d st:=zas Z2.h89
@[simp] theorem x60:XRx T 60:=xrx Z2.h60
@[simp] theorem y60{e:Env}{h:Heap}{older:List Heap}(args:List Opd):opD (orc T) T (.call 60 args) e h older=dR (Za T 60 ((args.map (ev e.get)).map (wkIf false))) (args.map (ev e.get)):=zaf Z2.h60
end
end Go.Ab
end
section
namespace Go.Ab
def l92_0:AX:= (.note (XS [XB 27 .lss 26 25] (.seq (XQ 27 0) (.seq (.block 1 (XS [mv 28 26,XI 29 1 24 26,XO 30 29,mv 8 28,mv 9 30] (XS [mv 31 9,rg 32 (.conv .u64 (.t 31)),mv 33 6,XB 34 .shl 32 33,mv 10 34] (XS [mv 35 7,mv 36 5,mv 37 8,XB 38 .add 36 37,XI 39 1 35 38,XO 40 39,mv 41 10,rg 42 (.conv .u32 (.t 41)),XB 43 .or 40 42,XI 44 1 35 38,XT 1 44 43] (.reg [mv 45 7,mv 46 5,mv 47 8,XB 48 .add 46 47,XC 49 .add 48 1,mv 50 10,rg 51 (.bin .shr (.t 50) (.c (u64 32))),rg 52 (.conv .u32 (.t 51)),XI 53 1 45 49,XT 1 53 52]))))) (.reg [XC 54 .add 26 1,mv 26 54])))) (XG [5,6,7,24,25,26]))
def b92:AX:= (XS [XA 4 (.sl [] .nl)] (XS [mv 11 1,rg 12 (.mm true [(.t 11),(.c (.i .i64 0))]),rg 13 (.mm false [(.t 12),(.c (.i .i64 4096))]),mv 1 13] (XS [mv 14 1,XC 15 .quo 14 32,mv 16 1,XC 17 .rem 16 32,mv 5 15,mv 6 17] (XS [mv 18 5,mv 19 0,XN 20 19,XB 21 .add 18 20,XC 22 .add 21 1,rg 23 (.mks 1 [(u32 0)] (.t 22) (.t 22)),mv 7 23] (.seq (XS [mv 24 0,XN 25 24,XL 26 0] (.lp 0 (XG [5,6,7,24,25,26]) l92_0 (XG [7]))) (XS [mv 55 7,XK1 56 71 55,mv 4 56] (XZ [4])))))))
def l94_0:AX:= (.note (XS [XB 28 .lss 27 26] (.seq (XQ 28 0) (.seq (.block 1 (XS [mv 29 27,mv 8 29] (XS [mv 30 0,mv 31 5,mv 32 8,XB 33 .add 31 32,XI 34 1 30 33,XO 35 34,rg 36 (.conv .u64 (.t 35)),mv 9 36] (.seq (XS [mv 37 5,mv 38 8,XB 39 .add 37 38,XC 40 .add 39 1,mv 41 0,XN 42 41,XB 43 .lss 40 42] (XD 43 (.reg [mv 44 9,mv 45 0,mv 46 5,mv 47 8,XB 48 .add 46 47,XC 49 .add 48 1,XI 50 1 45 49,XO 51 50,rg 52 (.conv .u64 (.t 51)),rg 53 (.bin .shl (.t 52) (.c (u64 32))),XB 54 .or 44 53,mv 9 54]) .skip)) (.reg [mv 55 7,mv 56 8,mv 57 9,mv 58 6,XB 59 .shr 57 58,rg 60 (.conv .u32 (.t 59)),XI 61 1 55 56,XT 1 61 60]))))) (.reg [XC 62 .add 27 1,mv 27 62])))) (XG [0,5,6,7,26,27]))
def b94:AX:= (XS [XA 4 (.sl [] .nl)] (XS [mv 10 1,rg 11 (.mm true [(.t 10),(.c (.i .i64 0))]),mv 1 11] (XS [mv 12 1,XC 13 .quo 12 32,mv 14 1,XC 15 .rem 14 32,mv 5 13,mv 6 15] (.seq (XS [mv 16 5,mv 17 0,XN 18 17,XB 19 .geq 16 18] (XD 19 (XS [XA 4 (.sl [] .nl)] (XZ [4])) .skip)) (XS [mv 20 0,XN 21 20,mv 22 5,XB 23 .sub 21 22,rg 24 (.mks 1 [(u32 0)] (.t 23) (.t 23)),mv 7 24] (.seq (XS [mv 25 7,XN 26 25,XL 27 0] (.lp 0 (XG [0,5,6,7,26,27]) l94_0 (XG [7]))) (XS [mv 63 7,XK1 64 71 63,mv 4 64] (XZ [4]))))))))
def row92:AFx:=XrV 2 57 4 b92
def row94:AFx:=XrV 2 65 4 b94
class Z4 (T:Tbl):Prop where
 h92:T 92=some row92
 h94:T 94=some row94
section
variable{T:Tbl}[Z4 T]{d:Option Nat}{st:St}
@[simp] theorem x94:XRx T 94:=xrx Z4.h94
end
end Go.Ab
end
section
namespace Go.Ab
theorem zdv{P m S:List UInt32}{i:Nat}(hm:m.length=i)(hi:i<S.length):(P++(m++S.drop i))[P.length+i]? = some (S[i]'hi):=by
 rw[Yo (by omega),Yby,Yo (by omega),hm,Ycg,Yaq,Y4,Ya hi]
theorem zdd{P m S:List UInt32}{i:Nat}(w:UInt32)(hm:m.length=i)(hi:i<S.length):(P++(m++S.drop i)).set (P.length+i) w=P++((m++[w])++S.drop (i+1)):=by
 rw[Yad (P.length+i) w (by omega),Yby,Yad i w (by omega),hm,Ycg,Ye hi,Yb8];simp
section
variable{T:Tbl}[Z2 T]
def Zk3(P S a:List UInt32)(x:Nat)(y:Nat×Nat×List UInt32):St:=
 ⟨[(0,.bs (.bor 0) 0 1 0 (P.length+S.length)),(1,.i .i64 P.length),(2,.sl (Zb a) .an),(3,u32 x),(4,u32 y.2.1),(12,.sl (Zb a) .an),(13,.i .i64 a.length),(14,.i .i64 y.1)],
  [(.bor 0,⟨0,.own,1,Zb (P++(y.2.2++S.drop y.1))⟩)],4⟩
theorem zsp{p m w c c' s x y t v k:Nat}(h:m+p*c=s+x*t+k)(e:w+4294967296*c'=x*y+v+c):(m+p*w)+p*4294967296*c'=(s+p*v)+x*(t+p*y)+k:=by
 have e2:p*w+p*4294967296*c'=p*(x*y)+p*v+p*c:=by rw[Y9,←Yae,e,Yae,Yae]
 have e3:x*(t+p*y)=x*t+p*(x*y):=by rw[Yae,←Y9,Yab x p,Y9]
 omega
theorem z3g(P S a:List UInt32)(x c0:Nat)(hx:x<4294967296)(hS:a.length<S.length)(hl:P.length+S.length≤1000000):∀y:Nat×Nat×List UInt32,
  (y.1≤a.length∧y.2.1<4294967296∧y.2.2.length=y.1∧val y.2.2+4294967296^y.1*y.2.1=val (S.take y.1)+x*val (a.take y.1)+c0) →
  ∃r,(∃(c:Nat) (m:List UInt32),r=(Ex.n,(⟨[(0,.bs (.bor 0) 0 1 0 (P.length+S.length)),(1,.i .i64 P.length),(2,.sl (Zb a) .an),(4,u32 c)],[(.bor 0,⟨0,.own,1,Zb (P++(m++S.drop a.length))⟩)],4⟩:St)) ∧
   m.length=a.length∧c<4294967296∧val m+4294967296^a.length*c=val (S.take a.length)+x*val a+c0)∧Ze T 1 0 (.norm false [0,1,2,4]) l89_0 (Zk3 P S a x y)=some r:=by
 refine zay _ _ (fun y=>a.length-y.1) _ ?_
 rintro⟨i,c,m⟩ ⟨hi,hc,hm,hv⟩
 simp only at hi hc hm hv;by_cases h0:i<a.length
 ·left;have ha:a[i]? = some (a[i]'h0):=Ya h0;have hiS:i<S.length:=by omega
  have hs:S[i]? = some (S[i]'hiS):=Ya hiS;have hg:=zdv (P:=P) hm hiS;have hw:IntKind.wrap .i64 ((i:Int)+1)=((i+1:Nat):Int):=zac _ (by omega);have hw2:IntKind.wrap .i64 ((P.length:Int)+i)=((P.length+i:Nat):Int):=zac _ (by omega);have hlt:P.length+i<P.length+S.length:=by omega
  have hlt2:((P.length+i:Nat):Int)<(P.length:Int)+S.length:=by omega
  have hla:=zam (a[i]'h0);have hls:=zam (S[i]'hiS);have hmul:=zjh hx hla;have hlen:(P++(m++S.drop i)).length=P.length+S.length:=by simp;omega
  have hcall:=zji (T:=T) x (a[i]'h0).toNat (S[i]'hiS).toNat c hx hla hls hc;have hset:=zdd (P:=P) (w32 (x*(a[i]'h0).toNat+(S[i]'hiS).toNat+c)) hm hiS;refine⟨(i+1,(x*(a[i]'h0).toNat+(S[i]'hiS).toNat+c)/4294967296,m++[w32 (x*(a[i]'h0).toNat+(S[i]'hiS).toNat+c)]),⟨h0,by simp only;omega,by simp[hm],?_⟩,by simp only;omega,?_⟩
  ·simp only;rw[zaj,zag ha,zag hs,Y6,hm];simp only[zap,zbf,Yal,Y4,zb7];exact zsp hv (by have:=Ybq (x*(a[i]'h0).toNat+(S[i]'hiS).toNat+c) 4294967296;omega)
  ·simp[l89_0,Zk3,h0,hw,hw2,hiS,hg,hcall,hset]
 ·right;have:i=a.length:=by omega
  subst this;rw[Yb (Yg a.length)]at hv;refine⟨_,⟨c,m,rfl,hm,hc,hv⟩,?_,?_⟩<;>simp[l89_0,Zk3]
theorem z3h(P S a:List UInt32)(x c0:Nat)(hx:x<4294967296)(hc:c0<4294967296)(hS:a.length<S.length)(hl:P.length+S.length≤1000000) :
  ∃m,m.length=a.length+1∧val m=val (S.take a.length)+x*val a+c0 ∧
   Zbp T 89 [.bs (.bor 0) 0 1 0 (P.length+S.length),.i .i64 P.length,.sl (Zb a) .an,u32 x,u32 c0] [(.bor 0,⟨0,.own,1,Zb (P++S)⟩)] =
    some (.tup [],[(.bor 0,⟨0,.own,1,Zb (P++(m++S.drop (a.length+1)))⟩)]):=by
 obtain⟨_,⟨c,m,rfl,hm,hc1,hv⟩,hr⟩:=z3g (T:=T) P S a x c0 hx hS hl (0,c0,[]) ⟨Yv _,hc,rfl,by simp⟩;unfold Zk3 at hr;simp at hr;refine⟨m++[w32 c],by simp[hm],by rw[zaj,hm];simpa[zah hc1]using hv,?_⟩;have hw2:IntKind.wrap .i64 ((P.length:Int)+a.length)=((P.length+a.length:Nat):Int):=zac _ (by omega);have hlt:P.length+a.length<P.length+S.length:=by omega
 have hlt2:((P.length+a.length:Nat):Int)<(P.length:Int)+S.length:=by omega
 have hg:=zdv (P:=P) hm hS;have hset:=zdd (P:=P) (w32 c) hm hS;rw[za3 Z2.h89 rfl,b89];simp[hr,hw2,hg,hS,zbj _ _ _ hc1,hset]
def Zk4(a b:List UInt32)(y:Nat×List UInt32):St:=
 ⟨[(0,.sl (Zb a) .an),(5,.bs (.loc 14) 1 1 0 (a.length+b.length+1)),(15,.sl (Zb b) .an),(16,.i .i64 b.length),(17,.i .i64 y.1)],[(.loc 14,⟨1,.own,1,Zb (y.2++List.replicate (b.length+1-y.1) 0)⟩)],3⟩
theorem z3i(a b:List UInt32)(ha:a.length≤100000)(hb:b.length≤100000):∀y:Nat×List UInt32,
  (y.1≤b.length∧y.2.length=a.length+y.1∧val y.2=val a*val (b.take y.1)) →
  ∃r,(∃out:List UInt32,r=(Ex.n,(⟨[(5,.bs (.loc 14) 1 1 0 (a.length+b.length+1))],[(.loc 14,⟨1,.own,1,Zb out⟩)],3⟩:St))∧out.length=a.length+b.length+1∧val out=val a*val b) ∧
   Ze T 0 0 (.norm false [5]) l60_0 (Zk4 a b y)=some r:=by
 refine zay _ _ (fun y=>b.length-y.1) _ ?_
 rintro⟨i,X⟩ ⟨hi,hX,hv⟩
 simp only at hi hX hv;by_cases h0:i<b.length
 ·left;have hbg:b[i]? = some (b[i]'h0):=Ya h0;have hw:IntKind.wrap .i64 ((i:Int)+1)=((i+1:Nat):Int):=zac _ (by omega);obtain⟨m,hm1,hm2,hc⟩:=z3h (T:=T) (X.take i) (X.drop i++List.replicate (b.length+1-i) 0) a (b[i]'h0).toNat 0 (zam _) (by decide) (by simp;omega) (by simp;omega);have e1:X.take i++(X.drop i++List.replicate (b.length+1-i) 0)=X++List.replicate (b.length+1-i) 0:=by rw[←Ya3,Yay]
  have e2:(X.take i).length=i:=by simp;omega
  have e3:(X.drop i++List.replicate (b.length+1-i) 0).length=a.length+b.length+1-i:=by simp;omega
  have e4:i+(a.length+b.length+1-i)=a.length+b.length+1:=by omega
  have e5:(X.drop i++List.replicate (b.length+1-i) 0).drop (a.length+1)=List.replicate (b.length+1-(i+1)) 0:=by
   rw[List.drop_append,Yas (by simp;omega),List.drop_replicate];simp only[Yax,Yb4];congr 1;omega
  have e6:(X.drop i++List.replicate (b.length+1-i) 0).take a.length=X.drop i:=by
   rw[Ycn (by simp;omega),Yb (by simp;omega)]
  rw[e1,e2,e3,e4,e5]at hc;rw[e6]at hm2;simp only[←Ya3]at hc;refine⟨(i+1,X.take i++m),⟨h0,by simp only[Ya7,e2,hm1];omega,?_⟩,by simp only;omega,?_⟩
  ·simp only;have e7:=zaj (X.take i) (X.drop i);rw[Yay,e2]at e7;rw[zaj,e2,hm2,zag hbg,Yae (val a),←hv,e7,Yae,Yae];have e8:4294967296^i*((b[i]'h0).toNat*val a)=val a*(4294967296^i*(b[i]'h0).toNat):=by
    rw[Yab (b[i]'h0).toNat,←Y9,Yab (4294967296^i) (val a),Y9]
   rw[e8];omega
  ·simp[l60_0,Zk4,h0,hw,hc]
 ·right;have:i=b.length:=by omega
  subst this;rw[Yb (Yg _)]at hv;refine⟨_,⟨X++List.replicate (b.length+1-b.length) 0,rfl,by simp;omega,by rw[zaj,zbk,hv];simp⟩,?_,?_⟩<;>simp[l60_0,Zk4]
theorem zfi(a b:List UInt32)(ha:a.length≤100000)(hb:b.length≤100000):Za T 60 [.sl (Zb a) .an,.sl (Zb b) .an]=some (.sl (Zb (ofN (val a*val b))) .an):=by
 obtain⟨_,⟨out,rfl,ho,hv⟩,hr⟩:=z3i (T:=T) a b ha hb (0,List.replicate a.length 0) ⟨Yv _,by simp,by simp[zbk]⟩;unfold Zk4 at hr;simp at hr;have hw1:IntKind.wrap .i64 ((a.length:Int)+b.length)=(a.length:Int)+b.length:=zac _ (by omega);have hw:IntKind.wrap .i64 ((a.length:Int)+b.length+1)=(a.length:Int)+b.length+1:=zac _ (by omega);have hle:(a.length:Int)+b.length+1≤4294967296:=by omega
 have hn:=zbv (T:=T) out (by omega);rw[hv]at hn;have htk:List.take (a.length+b.length+1) out=out:=Yb (by omega);have he:a.length+(b.length+1)=a.length+b.length+1:=by omega
 rw[he]at hr;rw[zaa Z2.h60 rfl,b60];simp[hw,hw1,hle,hr,ho,htk,hn]
end
end Go.Ab
end
section
namespace Go.Ab
theorem zpk(w:Nat):4294967296^w=2^(32*w):=by
 rw[Ydh]
theorem zpl(a:List UInt32)(w:Nat)(h:w≤a.length):val a=val (a.take w)+4294967296^w*val (a.drop w):=by
 have:=zaj (a.take w) (a.drop w);rw[Yay,Yaj,Ybg h]at this;exact this
theorem z06(a:List UInt32)(w:Nat)(h:w≤a.length):val a/4294967296^w=val (a.drop w):=by
 have hp:0<4294967296^w:=Ya2 (by decide);have hlt:=za0 (a.take w);rw[Yaj,Ybg h]at hlt;rw[zpl a w h,Ybx _ _ hp,Ybb hlt,Yan]
theorem z07{a:List UInt32}{i:Nat}{x:UInt32}(h:a[i/32]? = some x):val a/2^i%2=x.toNat/2^(i%32)%2:=by
 have hlt:i/32<a.length:=by
  rcases Ys (i/32) a.length with h1 | h1
  ·exact h1
  ·rw[Ybs h1]at h;cases h
 have e:2^i=4294967296^(i/32)*2^(i%32):=by
  rw[zpk,←Ybh];congr 1;omega
 rw[e,←Ybf,z06 a _ (by omega)];have hx:a[i/32]'hlt=x:=by rw[Ya hlt]at h;cases h;rfl
 rw[Ye hlt,hx,zap];generalize val (a.drop (i/32+1))=r;have hb:i%32<32:=Yaz _ (by decide);generalize i%32=b at *
 have e2:4294967296*r=2^b*(2^(32-b-1)*2*r):=by
  rw[←Y6,←Y9,←Ybh,show b+(32-b-1+1)=32 by omega]
 rw[e2,Ybx _ _ (Ya2 (by decide)),Nat.mul_right_comm,Ydy]
theorem zpm{n k:Nat}(h:n<2^(k+1))(hb:n/2^k%2=0):n<2^k:=by
 have hp:0<2^k:=Ya2 (by decide);rw[Y6]at h;have h1:n/2^k<2:=Ybd h;have h2:n/2^k=0:=by
  generalize n/2^k=q at *
  omega
 rcases Ys n (2^k) with h3 | h3
 ·exact h3
 ·have:=Yez h3 hp;omega
theorem z5i{a b n:Nat}(h:a<2^n):a ||| 2^n*b=a+2^n*b:=by
 rw[Nat.or_comm,←Ycu h,Ybi]
theorem z8o{x c n:Nat}(hx:x<4294967296)(hn:n<32)(hc:c<2^n) :
  x*2^n<18446744073709551616∧(c ||| x*2^n%4294967296)=c+x*2^n%4294967296∧c+x*2^n%4294967296<4294967296∧x*2^n/4294967296<2^n∧2^n<4294967296:=by
 have hp:2^(n+(32-n))=4294967296:=by rw[show n+(32-n)=32 by omega]
 rw[Ybh]at hp;have hq:0<2^n:=Ya2 (by decide);have hr:1<2^(32-n):=Nat.one_lt_two_pow (by omega);have e1:x*2^n%4294967296=2^n*(x%2^(32-n)):=by rw[←hp,Yab x,Nat.mul_mod_mul_left]
 have e2:=z5i (b:=x%2^(32-n)) hc;rw[←e1]at e2;have hlt:2^n<4294967296:=by
  have h1:=Yac (2^n) (show 2≤2^(32-n) from hr);rw[hp]at h1;omega
 refine⟨?_,e2,?_,?_,hlt⟩
 ·have:=Nat.mul_lt_mul'' hx hlt;simpa using this
 ·rw[e1];have h1:x%2^(32-n)+1≤2^(32-n):=Yaz _ (by omega);have h2:=Yac (2^n) h1;rw[hp,Yae,Ydg]at h2;omega
 ·exact Ybd (by rw[Yab x];rw[Yab 4294967296];exact Nat.mul_lt_mul_of_pos_left hx hq)
theorem zpn{x y R b:Nat}(hb:b<32)(hx:x<4294967296) :
  (x+4294967296*(y+4294967296*R))/2^b=(x+y*4294967296)/2^b%4294967296+4294967296*((y+4294967296*R)/2^b):=by
 have hq:0<2^b:=Ya2 (by decide);have h1:(x+4294967296*(y+4294967296*R))/4294967296=y+4294967296*R:=by omega
 have h2:(x+4294967296*(y+4294967296*R))/2^b/4294967296=(y+4294967296*R)/2^b:=by
  rw[Ybf,Yab (2^b),←Ybf,h1]
 have hp:2^b*2^(32-b)=4294967296:=by rw[←Ybh,show b+(32-b)=32 by omega]
 have h3:x+4294967296*(y+4294967296*R)=(x+y*4294967296)+2^b*(4294967296*(2^(32-b)*R)):=by
  have:2^b*(4294967296*(2^(32-b)*R))=4294967296*(4294967296*R):=by
   rw[Nat.mul_left_comm,←Y9 (2^b),hp]
  omega
 have h4:(x+4294967296*(y+4294967296*R))/2^b%4294967296=(x+y*4294967296)/2^b%4294967296:=by
  rw[h3,Ybx _ _ hq,Yc0]
 have h5:=Nat.mod_add_div ((x+4294967296*(y+4294967296*R))/2^b) 4294967296;rw[h2,h4]at h5;exact h5.symm
end Go.Ab
end
section
namespace Go.Ab
theorem zs3{P m R:List UInt32}{i:Nat}{c:UInt32}(hm:m.length=i):(P++(m++c::R))[P.length+i]? = some c:=by
 grind
theorem zmz{P m R:List UInt32}{i:Nat}{c:UInt32}(w:UInt32)(hm:m.length=i):(P++(m++c::R)).set (P.length+i) w=P++(m++w::R):=by
 rw[Yad (P.length+i) w (by omega),Yby,Yad i w (by omega),hm,Ycg,Yb8]
theorem z4g{P m R:List UInt32}{i:Nat}{c d:UInt32}(w:UInt32)(hm:m.length=i):(P++(m++c::d::R)).set (P.length+i+1) w=P++(m++c::w::R):=by
 rw[Ya0,Yad (P.length+(i+1)) w (by omega),Yby,Yad (i+1) w (by omega),hm,show i+1-i=1 by omega]
 rfl
theorem z4h{P m R:List UInt32}{i:Nat}{c d:UInt32}(hm:m.length=i):(P++(m++c::d::R))[P.length+i+1]? = some d:=by
 grind
theorem zfr(n:Nat):w32 (n%4294967296)=w32 n:=z5h (by rw[zb7,Nat.mod_mod])
section
variable{T:Tbl}[Zs T][Z4 T]
def Znm(P a:List UInt32)(n:Nat)(y:Nat×Nat×List UInt32):St:=
 ⟨[(5,.i .i64 P.length),(6,.i .i64 n),(7,.bs (.loc 23) 1 1 0 (P.length+a.length+1)),(24,.sl (Zb a) .an),(25,.i .i64 a.length),(26,.i .i64 y.1)],[(.loc 23,⟨1,.own,1,Zb (P++(y.2.2++w32 y.2.1::List.replicate (a.length-y.1) 0))⟩)],3⟩
end
section
variable{T:Tbl}
theorem z8l(P a:List UInt32)(n:Nat)(hn:n<32)(hl:P.length+a.length≤1000000):∀y:Nat×Nat×List UInt32,
  (y.1≤a.length∧y.2.1<2^n∧y.2.2.length=y.1∧val y.2.2+4294967296^y.1*y.2.1=2^n*val (a.take y.1)) →
  ∃r,(∃(c:Nat) (m:List UInt32),r=(Ex.n,(⟨[(7,.bs (.loc 23) 1 1 0 (P.length+a.length+1))],[(.loc 23,⟨1,.own,1,Zb (P++(m++[w32 c]))⟩)],3⟩:St)) ∧
   m.length=a.length∧c<2^n∧val m+4294967296^a.length*c=2^n*val a)∧Ze T 0 0 (.norm false [7]) l92_0 (Znm P a n y)=some r:=by
 refine zay _ _ (fun y=>a.length-y.1) _ ?_
 rintro⟨i,c,m⟩ ⟨hi,hc,hm,hv⟩
 simp only at hi hc hm hv;by_cases h0:i<a.length
 ·left;have ha:a[i]? = some (a[i]'h0):=Ya h0;obtain⟨u1,u2,u3,u4,u5⟩:=z8o (zam (a[i]'h0)) hn hc;have hx:=zam (a[i]'h0);have hrep:List.replicate (a.length-i) (0:UInt32)=0::List.replicate (a.length-(i+1)) 0:=by
   rw[show a.length-i=a.length-(i+1)+1 by omega,Yck]
  have hw:IntKind.wrap .i64 ((i:Int)+1)=((i+1:Nat):Int):=zac _ (by omega);have hw2:IntKind.wrap .i64 ((P.length:Int)+i)=((P.length+i:Nat):Int):=zac _ (by omega);have hw3:IntKind.wrap .i64 ((P.length:Int)+i+1)=((P.length+i+1:Nat):Int):=zac _ (by omega);have hg:=zs3 (P:=P) (c:=w32 c) (R:=0::List.replicate (a.length-(i+1)) 0) hm;have hg3:=z4h (P:=P) (c:=w32 (c+(a[i]'h0).toNat*2^n%4294967296)) (d:=0) (R:=List.replicate (a.length-(i+1)) 0) hm;have hs1:=zmz (P:=P) (c:=w32 c) (R:=0::List.replicate (a.length-(i+1)) 0) (w32 (c+(a[i]'h0).toNat*2^n%4294967296)) hm;have hs2:=z4g (P:=P) (c:=w32 (c+(a[i]'h0).toNat*2^n%4294967296)) (d:=0) (R:=List.replicate (a.length-(i+1)) 0) (w32 ((a[i]'h0).toNat*2^n/4294967296)) hm;have hmin:min n 64=n:=by omega
  have hlt1:(P.length:Int)+i<(P.length:Int)+a.length+1:=by omega
  have hlt2:(P.length:Int)+i<(P.length:Int)+a.length:=by omega
  have m1:(a[i]'h0).toNat%18446744073709551616=(a[i]'h0).toNat:=Yk (by omega);have m2:=Yk u1;have m3:=Yk u3;have hcc:c<4294967296:=by omega
  have m4:(a[i]'h0).toNat*2^n/4294967296%4294967296=(a[i]'h0).toNat*2^n/4294967296:=Yk (by omega);have m5:(a[i]'h0).toNat*2^n/4294967296<4294967296:=by omega
  refine⟨(i+1,(a[i]'h0).toNat*2^n/4294967296,m++[w32 (c+(a[i]'h0).toNat*2^n%4294967296)]),⟨h0,u4,by grind,?_⟩,by omega,?_⟩
  ·grind[zaj,zag,zap,zbf,zah,Nat.div_add_mod]
  ·simp -implicitDefEqProofs[l92_0,Znm,h0,hrep,hw,hw2,hw3,hg,hg3,hs1,hs2,zbj _ _ _ u3,zbj _ _ _ m5,hmin,hlt1,hlt2,m1,m2,m3,m4,u2,zah hcc]
 ·right;have:i=a.length:=by omega
  subst this;rw[Yb (Yg a.length)]at hv;refine⟨_,⟨c,m,rfl,hm,hc,hv⟩,?_,?_⟩<;>simp -implicitDefEqProofs[l92_0,Znm]
end
section
variable{T:Tbl}[Zs T][Z4 T]
def Zmx(a:List UInt32)(W n:Nat)(y:Nat×List UInt32):St:=
 ⟨[(0,.sl (Zb a) .an),(5,.i .i64 W),(6,.i .i64 n),(7,.bs (.loc 24) 1 1 0 (a.length-W)),(26,.i .i64 (a.length-W:Nat)),(27,.i .i64 y.1)],[(.loc 24,⟨1,.own,1,Zb (y.2++List.replicate (a.length-W-y.1) 0)⟩)],3⟩
end
section
variable{T:Tbl}
theorem z02(a:List UInt32)(W n:Nat)(hn:n<32)(hW:W≤a.length)(hl:a.length≤1000000):∀y:Nat×List UInt32,
  (y.1≤a.length-W∧y.2.length=y.1∧val y.2+4294967296^y.1*(val (a.drop (W+y.1))/2^n)=val (a.drop W)/2^n) →
  ∃r,(∃m:List UInt32,r=(Ex.n,(⟨[(7,.bs (.loc 24) 1 1 0 (a.length-W))],[(.loc 24,⟨1,.own,1,Zb m⟩)],3⟩:St)) ∧
   m.length=a.length-W∧val m=val (a.drop W)/2^n)∧Ze T 0 0 (.norm false [7]) l94_0 (Zmx a W n y)=some r:=by
 refine zay _ _ (fun y=>a.length-W-y.1) _ ?_
 rintro⟨i,m⟩ ⟨hi,hm,hv⟩
 by_cases h0:i<a.length-W
 ·left;have hWi:W+i<a.length:=by omega
  have ha:a[W+i]? = some (a[W+i]'hWi):=Ya hWi;have hx:=zam (a[W+i]'hWi);have hd:=Ye hWi;have hrep:List.replicate (a.length-W-i) (0:UInt32)=0::List.replicate (a.length-W-(i+1)) 0:=by
   rw[show a.length-W-i=a.length-W-(i+1)+1 by omega,Yck]
  have hw:IntKind.wrap .i64 ((i:Int)+1)=((i+1:Nat):Int):=zac _ (by omega);have hw2:IntKind.wrap .i64 ((W:Int)+i)=((W+i:Nat):Int):=zac _ (by omega);have hw3:IntKind.wrap .i64 ((W:Int)+i+1)=((W+i+1:Nat):Int):=zac _ (by omega);have hg:=zs3 (P:=[]) (c:=0) (R:=List.replicate (a.length-W-(i+1)) 0) hm;have hmin:min n 64=n:=by omega
  have hlt1:(W:Int)+i<(a.length:Int):=by omega
  have hlt3:((W:Int)+i).toNat=W+i:=by omega
  have m1:(a[W+i]'hWi).toNat%18446744073709551616=(a[W+i]'hWi).toNat:=Yk (by omega);have fin:∀y R:Nat,val (a.drop (W+i+1))=y+4294967296*R→val (m++[w32 (((a[W+i]'hWi).toNat+y*4294967296)/2^n%4294967296)])+4294967296^(i+1)*(val (a.drop (W+(i+1)))/2^n)=val (a.drop W)/2^n:=by
   intro y R hR;have hmod:((a[W+i]'hWi).toNat+y*4294967296)/2^n%4294967296<4294967296:=Yaz _ (by decide);have hdw:=zpn (x:=(a[W+i]'hWi).toNat) (y:=y) (R:=R) hn hx;rw[hd,zap,hR,hdw,←hR]at hv
   grind[zaj,zap,zbf,zah]
  by_cases h1:W+i+1<a.length
  ·have hd1:=Ye h1;have hy:=zam (a[W+i+1]'h1);have m2:(a[W+i+1]'h1).toNat%18446744073709551616=(a[W+i+1]'h1).toNat:=Yk (by omega);have m3:(a[W+i+1]'h1).toNat*4294967296%18446744073709551616=(a[W+i+1]'h1).toNat*4294967296:=Yk (by omega);have hor:(a[W+i]'hWi).toNat ||| (a[W+i+1]'h1).toNat*4294967296=(a[W+i]'hWi).toNat+(a[W+i+1]'h1).toNat*4294967296:=by
    have:=z5i (a:=(a[W+i]'hWi).toNat) (b:=(a[W+i+1]'h1).toNat) (n:=32) (by simp)
    grind
   have m4:((a[W+i]'hWi).toNat+(a[W+i+1]'h1).toNat*4294967296)%18446744073709551616=(a[W+i]'hWi).toNat+(a[W+i+1]'h1).toNat*4294967296:=Yk (by omega);have hs1:=zmz (P:=[]) (c:=0) (R:=List.replicate (a.length-W-(i+1)) 0) (w32 (((a[W+i]'hWi).toNat+(a[W+i+1]'h1).toNat*4294967296)/2^n%4294967296)) hm;have hlt2:(W:Int)+i+1<(a.length:Int):=by omega
   have hlt4:((W:Int)+i+1).toNat=W+i+1:=by omega
   refine⟨(i+1,m++[w32 (((a[W+i]'hWi).toNat+(a[W+i+1]'h1).toNat*4294967296)/2^n%4294967296)]),⟨h0,by grind,fin _ (val (a.drop (W+i+1+1))) (by rw[hd1,zap])⟩,by omega,?_⟩;simp at hg;simp[zfr]at hs1;simp -implicitDefEqProofs[l94_0,Zmx,h0,ha,hrep,hw,hw2,hw3,hg,hs1,zfr,hmin,hlt1,hlt2,hlt3,hlt4,m1,m2,m3,m4,hor,h1]
  ·have hs1:=zmz (P:=[]) (c:=0) (R:=List.replicate (a.length-W-(i+1)) 0) (w32 ((a[W+i]'hWi).toNat/2^n%4294967296)) hm;have hlt2:¬ (W:Int)+i+1<(a.length:Int):=by omega
   have f0:=fin 0 0 (by rw[Yas (by omega),zbf,Yal]);refine⟨(i+1,m++[w32 ((a[W+i]'hWi).toNat/2^n%4294967296)]),⟨h0,by grind,f0⟩,by omega,?_⟩;simp at hg;simp[zfr]at hs1;simp -implicitDefEqProofs[l94_0,Zmx,h0,ha,hrep,hw,hw2,hw3,hg,hs1,zfr,hmin,hlt1,hlt2,hlt3,m1]
 ·right;have:i=a.length-W:=by omega
  subst this;rw[show W+(a.length-W)=a.length by omega,Yp,zbf,Nat.zero_div,Yal,Y4]at hv;refine⟨_,⟨m++List.replicate (a.length-W-(a.length-W)) 0,rfl,by grind,by grind⟩,?_,?_⟩<;>simp -implicitDefEqProofs[l94_0,Zmx]
end
section
variable{T:Tbl}[Zs T][Z4 T]
theorem z03(a:List UInt32)(n:Nat)(h:n/32≤a.length):val (a.drop (n/32))/2^(n%32)=val a/2^n:=by
 rw[←z06 a _ h,Ybf,zpk,←Ybh,show 32*(n/32)+n%32=n by omega]
theorem z04(a:List UInt32)(n:Nat)(hn:n≤100000000)(hl:a.length≤100000):Za T 94 [.sl (Zb a) .an,.i .i64 n]=some (.sl (Zb (ofN (val a/2^n))) .an):=by
 have hn2:¬ (n:Int)<0:=by omega
 have hq:(n:Int).tdiv 32=(n:Int)/32:=Ycx (by omega);have hm2:(n:Int).tmod 32=(n:Int)%32:=Ycy (by omega);have w1:IntKind.wrap .i64 ((n:Int)/32)=(n:Int)/32:=zac (n/32) (by omega);rcases Ys (n/32) a.length with h0 | h0
 ·obtain⟨_,⟨m,rfl,hm,hv⟩,hr⟩:=z02 (T:=T) a (n/32) (n%32) (Yaz _ (by decide)) (by omega) (by omega) (0,[]) ⟨Yv _,rfl,by rw[zbf,Ydi,Ydt,Yan,Y4]⟩;rw[z03 a n (by omega)]at hv;have hnm:=zbv (T:=T) m (by omega);rw[hv]at hnm;unfold Zmx at hr;have hsub:((a.length-n/32:Nat):Int)=(a.length:Int)-(n:Int)/32:=by omega
  simp[hsub]at hr;have p0:¬ (a.length:Int)≤(n:Int)/32:=by omega
  have w2:IntKind.wrap .i64 ((a.length:Int)-(n:Int)/32)=(a.length:Int)-(n:Int)/32:=zac _ (by omega);have p1:(n:Int)/32≤(a.length:Int):=by omega
  have p2:(a.length:Int)-(n:Int)/32≤4294967296:=by omega
  have p3:((a.length:Int)-(n:Int)/32).toNat=a.length-n/32:=by omega
  have htk:List.take (a.length-n/32) m=m:=Yb (by omega);have p5:a.length≤a.length-n/32+n/32:=by omega
  rw[zaa Z4.h94 rfl,b94];simp -implicitDefEqProofs[hn2,hq,hm2,w1,w2,p0,p5,p1,p2,p3,hsub,hr,hnm,htk,hm]
 ·have hz:val a/2^n=0:=by
   refine Ybb (Yr (za0 a) ?_);rw[zpk];exact Yu (by decide) (by omega)
  have p0:(a.length:Int)≤(n:Int)/32:=by omega
  rw[hz,zm0,zaa Z4.h94 rfl,b94];simp -implicitDefEqProofs[hn2,hq,hm2,w1,p0]
end
end Go.Ab
end
section
namespace Go.Ab
def l90_0:AX:= (.note (.seq (XS [mv 16 7,XC 17 .geq 16 0] (XQ 17 0)) (.seq (.block 1 (.reg [mv 21 4,mv 22 7,mv 23 5,mv 24 0,mv 25 7,XI 26 1 24 25,XO 27 26,mv 28 1,XK3 29 118 23 27 28,mv 20 29,XE 30 20 0,XE 31 20 1,XE 32 20 2,XI 33 1 21 22,XT 1 33 30,mv 5 31])) (.reg [mv 18 7,XC 19 .sub 18 1,mv 7 19]))) (XG [0,1,4,5,7]))
def b90:AX:= (XS [XA 4 (.sl [] .nl),XA 5 (u32 0),XJ 6] (.seq (XS [mv 8 1,rg 9 (.bin .eql (.t 8) (.c (u32 0)))] (XD 9 (XS [XA 4 (.sl [] .nl),XA 5 (u32 0),XJ 6] (XZ [4,5,6])) .skip)) (XS [mv 10 0,XN 11 10,rg 12 (.mks 1 [(u32 0)] (.t 11) (.t 11)),mv 4 12] (.seq (XS [mv 13 0,XN 14 13,XC 15 .sub 14 1,mv 7 15] (.lp 0 (XG [0,1,4,5,7]) l90_0 (XG [4,5]))) (XS [mv 34 4,XK1 35 71 34,mv 36 5,mv 4 35,mv 5 36,XA 6 (.b true)] (XZ [4,5,6]))))))
def l119_0:AX:= (.note (.block 1 (XS [mv 46 11,mv 47 4,rg 48 (.call 117 [(.t 46),(.t 47),(.c (u32 0)),(.c (u32 0))]),mv 45 48,XE 49 45 0,XE 50 45 1,mv 16 49,mv 17 50] (.seq (XS [mv 51 16,mv 52 12,XB 53 .lss 51 52,mv 54 53,VM 55 54 false 16,VM 56 54 false 12,VB 57 54 false .eql 55 56,VM 58 54 false 57,VM 59 58 true 17,VM 60 58 true 2,VB 61 58 true .leq 59 60,gd 62 54 false (.pick (.t 58) (.t 61) (.c (.b false))),XY 63 54 62] (XD 63 (.exit 0) .skip)) (XS [mv 64 11,rg 65 (.bin .sub (.t 64) (.c (u32 1))),mv 11 65] (XS [mv 67 12,mv 68 3,rg 69 (.call 115 [(.t 67),(.t 68),(.c (u32 0))]),mv 66 69,XE 70 66 0,XE 71 66 1,mv 18 70,mv 19 71] (.seq (XS [mv 72 19,rg 73 (.bin .gtr (.t 72) (.c (u32 0)))] (XD 73 (.exit 0) .skip)) (.reg [mv 74 18,mv 12 74]))))))) (XG [2,3,4,11,12]))
def b119:AX:= (XS [XA 10 (u32 0)] (.scope (XS [mv 21 0,mv 22 1,mv 23 3,XK3 24 118 21 22 23,mv 20 24,XE 25 20 0,XE 26 20 1,XE 27 20 2,mv 11 25,mv 12 26,mv 13 27] (.seq (XS [mv 28 13,XU 29 28] (XD 29 (XS [XA 11 (u32 4294967295)] (XS [mv 31 1,mv 32 3,rg 33 (.call 115 [(.t 31),(.t 32),(.c (u32 0))]),mv 30 33,XE 34 30 0,XE 35 30 1,mv 14 34,mv 15 35] (.seq (XS [mv 36 0,mv 37 3,XB 38 .gtr 36 37,mv 39 38,VM 40 39 false 15,gd 41 39 false (.bin .gtr (.t 40) (.c (u32 0))),XY 42 39 41] (XD 42 (XS [mv 43 11,mv 10 43] (XZ [10])) .skip)) (.reg [mv 44 14,mv 12 44])))) .skip)) (.seq (.label 0) (.seq (.lp 0 (XG [2,3,4,11,12]) l119_0 (XG [11])) (XS [mv 75 11,mv 10 75] (XZ [10]))))))))
def l120_0:AX:= (.note (XS [XB 18 .lss 17 16] (.seq (XQ 18 0) (.seq (.block 1 (XS [mv 19 17,XI 20 1 15 17,XO 21 20,mv 11 19,mv 12 21] (XS [XA 13 (u32 0)] (XS [mv 23 3,mv 24 12,mv 25 9,rg 26 (.call 117 [(.t 23),(.t 24),(.t 25),(.c (u32 0))]),mv 22 26,XE 27 22 0,XE 28 22 1,mv 9 27,mv 13 28] (.reg [mv 30 0,mv 31 1,mv 32 11,XB 33 .add 31 32,mv 34 0,mv 35 1,mv 36 11,XB 37 .add 35 36,XI 38 1 34 37,XO 39 38,mv 40 13,mv 41 10,XK3 42 116 39 40 41,mv 29 42,XE 43 29 0,XE 44 29 1,XI 45 1 30 33,XT 1 45 43,mv 10 44]))))) (.reg [XC 46 .add 17 1,mv 17 46])))) (XG [0,1,2,3,9,10,15,16,17]))
def b120:AX:= (XS [XJ 8] (XS [XA 9 (u32 0),XA 10 (u32 0)] (.seq (XS [mv 15 2,XN 16 15,XL 17 0] (.lp 0 (XG [0,1,2,3,9,10,15,16,17]) l120_0 (XG [0,1,2,9,10]))) (XS [mv 47 1,mv 48 2,XN 49 48,XB 50 .add 47 49,mv 14 50] (XS [mv 52 0,mv 53 14,mv 54 0,mv 55 14,XI 56 1 54 55,XO 57 56,mv 58 9,mv 59 10,XK3 60 116 57 58 59,mv 51 60,XE 61 51 0,XE 62 51 1,XI 63 1 52 53,XT 1 63 61,mv 10 62] (XS [mv 64 10,rg 65 (.bin .gtr (.t 64) (.c (u32 0))),mv 8 65] (XZ [8])))))))
def l121_0:AX:= (.note (XS [XB 12 .lss 11 10] (.seq (XQ 12 0) (.seq (.block 1 (XS [mv 13 11,XI 14 1 9 11,XO 15 14,mv 7 13,mv 8 15] (.reg [mv 17 0,mv 18 1,mv 19 7,XB 20 .add 18 19,mv 21 0,mv 22 1,mv 23 7,XB 24 .add 22 23,XI 25 1 21 24,XO 26 25,mv 27 8,mv 28 6,XK3 29 115 26 27 28,mv 16 29,XE 30 16 0,XE 31 16 1,XI 32 1 17 20,XT 1 32 30,mv 6 31]))) (.reg [XC 33 .add 11 1,mv 11 33])))) (XG [0,1,2,6,9,10,11]))
def b121:AX:= (XS [XA 6 (u32 0)] (.seq (XS [mv 9 2,XN 10 9,XL 11 0] (.lp 0 (XG [0,1,2,6,9,10,11]) l121_0 (XG [0,1,2,6]))) (.reg [mv 34 0,mv 35 1,mv 36 2,XN 37 36,XB 38 .add 35 37,XI 39 1 34 38,XO 40 39,mv 41 6,XB 42 .add 40 41,XI 43 1 34 38,XT 1 43 42])))
def l93_0:AX:= (.note (.seq (XS [mv 19 7,XC 20 .geq 19 0] (XQ 20 0)) (.seq (.block 1 (.seq (.drawT [mv 23 0,mv 24 7,mv 25 5,XB 26 .add 24 25,XI 27 1 23 26,XO 28 27,mv 29 0,mv 30 7,mv 31 5,XB 32 .add 30 31,XC 33 .sub 32 1,XI 34 1 29 33,XO 35 34,mv 36 0,mv 37 7,mv 38 5,XB 39 .add 37 38,XC 40 .sub 39 2,XI 41 1 36 40,XO 42 41,mv 43 1,mv 44 5,XC 45 .sub 44 1,XI 46 1 43 45,XO 47 46,mv 48 1,mv 49 5,XC 50 .sub 49 2,XI 51 1 48 50,XO 52 51] [rg 53 (.call 119 [(.t 28),(.t 35),(.t 42),(.t 47),(.t 52)]),mv 8 53]) (.seq (XS [mv 54 0,mv 55 7,mv 56 1,mv 57 8,XK4 58 120 54 55 56 57] (XD 58 (XS [mv 59 8,rg 60 (.bin .sub (.t 59) (.c (u32 1))),mv 8 60] (.reg [mv 61 0,mv 62 7,mv 63 1,XK3 64 121 61 62 63])) .skip)) (.reg [mv 65 6,mv 66 7,mv 67 8,XI 68 1 65 66,XT 1 68 67])))) (.reg [mv 21 7,XC 22 .sub 21 1,mv 7 22]))) (XG [0,1,5,6,7]))
def b93:AX:= (XS [XA 4 (.sl [] .nl)] (XS [mv 9 1,XN 10 9,mv 5 10] (XS [mv 11 0,XN 12 11,mv 13 5,XB 14 .sub 12 13,rg 15 (.mks 1 [(u32 0)] (.t 14) (.t 14)),mv 6 15] (.seq (XS [mv 16 6,XN 17 16,XC 18 .sub 17 1,mv 7 18] (.lp 0 (XG [0,1,5,6,7]) l93_0 (XG [6]))) (XS [mv 69 6,mv 4 69] (XZ [4]))))))
def row90:AFx:=⟨2,37,[.t 4,.t 5,.t 6],b90,none,false⟩
def row119:AFx:=XrV 5 76 10 b119
def row120:AFx:=⟨4,66,[.t 8],b120,(some [true,false,false,false]),false⟩
def row121:AFx:=⟨3,44,[],b121,(some [true,false,false]),false⟩
def row93:AFx:=⟨2,70,[.t 4],b93,(some [true,false]),false⟩
class Zu (T:Tbl):Prop where
 h90:T 90=some row90
 h119:T 119=some row119
 h120:T 120=some row120
 h121:T 121=some row121
 h93:T 93=some row93
section
variable{T:Tbl}[Zu T]{d:Option Nat}{st:St}
@[simp] theorem x90:XRx T 90:=xrx Zu.h90
@[simp] theorem x119:XRx T 119:=xrx Zu.h119
@[simp] theorem x120(xs:List AV):Zd (orc T) T 120 xs d st=bL (Ze4 st.heap [true,false,false,false] xs) fun ys=>Zed ys (Zh (Zaw [true,false,false,false] xs) st.heap) (Zcz (Zh (Zaw [true,false,false,false] xs) st.heap) 40 (Zcn [true,false,false,false] xs) []) T 120 false d st:=zas Zu.h120
@[simp] theorem x121(xs:List AV):Zd (orc T) T 121 xs d st=bL (Ze4 st.heap [true,false,false] xs) fun ys=>Zed ys (Zh (Zaw [true,false,false] xs) st.heap) (Zcz (Zh (Zaw [true,false,false] xs) st.heap) 40 (Zcn [true,false,false] xs) []) T 121 false d st:=zas Zu.h121
@[simp] theorem x93(xs:List AV):Zd (orc T) T 93 xs d st=bL (Ze4 st.heap [true,false] xs) fun ys=>Zed ys (Zh (Zaw [true,false] xs) st.heap) (Zcz (Zh (Zaw [true,false] xs) st.heap) 40 (Zcn [true,false] xs) []) T 93 false d st:=zas Zu.h93
end
end Go.Ab
end
section
namespace Go.Ab
theorem zms{m:List UInt32}{j:Nat}(w:UInt32):(List.replicate (j+1) 0++m).set j w=List.replicate j 0++w::m:=by
 rw[List.set_append_left j w (by simp),Ydp,Yad j w (by simp)];simp
theorem zmt{m:List UInt32}{j:Nat}:(List.replicate (j+1) (0:UInt32)++m)[j]? = some 0:=by
 rw[Yw (by simp),Yd9,if_pos (by omega)]
section
variable{T:Tbl}[Zs T][Z4 T][Z2 T][Zu T]
def Znc(a:List UInt32)(x:Nat)(y:Nat×Nat×List UInt32):St:=
 ⟨[(0,.sl (Zb a) .an),(1,u32 x),(4,.bs (.loc 12) 1 1 0 a.length),(5,u32 y.2.1),(7,.i .i64 ((y.1:Int)-1))],[(.loc 12,⟨1,.own,1,Zb (List.replicate y.1 0++y.2.2)⟩)],3⟩
end
section
variable{T:Tbl}[Zs T]
theorem z69(a:List UInt32)(x:Nat)(hx:x<4294967296)(hl:a.length≤1000000):∀y:Nat×Nat×List UInt32,
  (y.1≤a.length∧y.2.1<x∧y.2.2.length=a.length-y.1∧val (a.drop y.1)=x*val y.2.2+y.2.1) →
  ∃r,(∃(c:Nat) (m:List UInt32),r=(Ex.n,(⟨[(4,.bs (.loc 12) 1 1 0 a.length),(5,u32 c)],[(.loc 12,⟨1,.own,1,Zb m⟩)],3⟩:St)) ∧
   m.length=a.length∧c<x∧val a=x*val m+c)∧Ze T 0 0 (.norm false [4,5]) l90_0 (Znc a x y)=some r:=by
 refine zay _ _ (fun y=>y.1) _ ?_
 rintro⟨k,c,m⟩ ⟨hk,hc,hm,hv⟩
 simp only at hk hc hm hv;cases k with
 | zero=>
  right;refine⟨_,⟨c,m,rfl,by omega,hc,hv⟩,?_,?_⟩<;>simp -implicitDefEqProofs[l90_0,Znc]
 | succ j=>
  left;have hja:j<a.length:=by omega
  have hy:=zam (a[j]'hja);have hd:=Ye hja;have hw:IntKind.wrap .i64 ((j:Int)-1)=(j:Int)-1:=zac _ (by omega);have hs:=zms (m:=m) (j:=j) (w32 ((c*4294967296+(a[j]'hja).toNat)/x));have hq:(c*4294967296+(a[j]'hja).toNat)/x<4294967296:=by
   refine Ybd ?_;omega
  have hdv:=zok (T:=T) c (a[j]'hja).toNat x hc hy hx;refine⟨(j,(c*4294967296+(a[j]'hja).toNat)%x,w32 ((c*4294967296+(a[j]'hja).toNat)/x)::m),⟨by omega,Yaz _ (by omega),by grind,?_⟩,Yy j,?_⟩
  ·grind[zap,zah,Nat.div_add_mod]
  ·simp -implicitDefEqProofs[l90_0,Znc,hja,hw,hs,zmt,hdv,zbj _ _ _ hq]
end
section
variable{T:Tbl}[Zs T][Zu T]
theorem zot(a:List UInt32)(x:Nat)(hx:x<4294967296)(h0:0<x)(hl:a.length≤1000000) :
  Za T 90 [.sl (Zb a) .an,u32 x]=some (.tup [.sl (Zb (ofN (val a/x))) .an,u32 (val a%x),.b true]):=by
 obtain⟨_,⟨c,m,rfl,hm,hc,hv⟩,hr⟩:=z69 (T:=T) a x hx hl (a.length,0,[]) ⟨Yg _,h0,by simp,by rw[Yp,zbf,Yal,Yan]⟩;have e1:val a/x=val m:=by grind[Nat.mul_add_div,Nat.div_eq_of_lt]
 have e2:val a%x=c:=by rw[hv,Nat.mul_add_mod,Yk hc]
 have hnm:=zbv (T:=T) m (by omega);unfold Znc at hr;simp at hr;have hx0:x≠0:=by omega
 have w1:IntKind.wrap .i64 ((a.length:Int)-1)=(a.length:Int)-1:=zac _ (by omega);have p1:(a.length:Int)≤4294967296:=by omega
 have htk:List.take a.length m=m:=Yb (by omega);rw[e1,e2,zaa Zu.h90 rfl,b90];simp -implicitDefEqProofs[hr,hx0,w1,p1,htk,hm,hnm]
end
section
variable{T:Tbl}[Zs T][Z4 T][Z2 T][Zu T]
theorem zou{p M w X s t y v D D':Nat}(h:M+X*t=s+p*D)(e:w+X*y+D=v+4294967296*D'):(M+p*w)+X*(t+p*y)=(s+p*v)+p*4294967296*D':=by
 grind
def Znd(P S b:List UInt32)(x:Nat)(y:Nat×(Nat×Nat)×List UInt32):St:=
 ⟨[(0,.bs (.bor 0) 0 1 0 (P.length+S.length)),(1,.i .i64 P.length),(2,.sl (Zb b) .an),(3,u32 x),(9,u32 y.2.1.1),(10,u32 y.2.1.2),(15,.sl (Zb b) .an),(16,.i .i64 b.length),(17,.i .i64 y.1)],
  [(.bor 0,⟨0,.own,1,Zb (P++(y.2.2++S.drop y.1))⟩)],4⟩
end
section
variable{T:Tbl}[Zs T]
theorem z7a(P S b:List UInt32)(x:Nat)(hx:x<4294967296)(hS:b.length<S.length)(hl:P.length+S.length≤1000000):∀y:Nat×(Nat×Nat)×List UInt32,
  (y.1≤b.length∧y.2.1.1<4294967296∧y.2.1.2≤1∧y.2.2.length=y.1∧val y.2.2+x*val (b.take y.1)=val (S.take y.1)+4294967296^y.1*(y.2.1.2+y.2.1.1)) →
  ∃r,(∃(C B:Nat) (m:List UInt32),r=(Ex.n,(⟨[(0,.bs (.bor 0) 0 1 0 (P.length+S.length)),(1,.i .i64 P.length),(2,.sl (Zb b) .an),(9,u32 C),(10,u32 B)],[(.bor 0,⟨0,.own,1,Zb (P++(m++S.drop b.length))⟩)],4⟩:St)) ∧
   C<4294967296∧B≤1∧m.length=b.length∧val m+x*val b=val (S.take b.length)+4294967296^b.length*(B+C))∧Ze T 1 0 (.norm false [0,1,2,9,10]) l120_0 (Znd P S b x y)=some r:=by
 refine zay _ _ (fun y=>b.length-y.1) _ ?_
 rintro⟨i,⟨C,B⟩,m⟩ ⟨hi,hC,hB,hm,hv⟩
 simp only at hi hC hB hm hv;by_cases h0:i<b.length
 ·left;have hb:b[i]? = some (b[i]'h0):=Ya h0;have hiS:i<S.length:=by omega
  have hs:S[i]? = some (S[i]'hiS):=Ya hiS;have hg:=zdv (P:=P) hm hiS;have hw:IntKind.wrap .i64 ((i:Int)+1)=((i+1:Nat):Int):=zac _ (by omega);have hw2:IntKind.wrap .i64 ((P.length:Int)+i)=((P.length+i:Nat):Int):=zac _ (by omega);have hlt2:(P.length:Int)+i<(P.length:Int)+S.length:=by omega
  have hlb:=zam (b[i]'h0);have hls:=zam (S[i]'hiS);have hmul:=zjh hx hlb;have c1:=zji (T:=T) x (b[i]'h0).toNat C 0 hx hlb hC (by decide);rw[Y4]at c1;obtain⟨lo,hlo⟩:∃lo,lo=(x*(b[i]'h0).toNat+C)%4294967296:=⟨_,rfl⟩;obtain⟨C',hC'⟩:∃C',C'=(x*(b[i]'h0).toNat+C)/4294967296:=⟨_,rfl⟩;rw[←hlo,←hC']at c1;have c2:=zgs (T:=T) (S[i]'hiS).toNat lo B hls (by omega) (by omega);obtain⟨w,hwd⟩:∃w,w=((S[i]'hiS).toNat+8589934592-(lo+B))%4294967296:=⟨_,rfl⟩;obtain⟨B',hB'⟩:∃B',B'=2-((S[i]'hiS).toNat+8589934592-(lo+B))/4294967296:=⟨_,rfl⟩;rw[←hwd,←hB']at c2;have hwl:w<4294967296:=by omega
  have hset:=zdd (P:=P) (w32 w) hm hiS;refine⟨(i+1,(C',B'),m++[w32 w]),⟨h0,by grind,by simp only;omega,by grind,?_⟩,by omega,?_⟩
  ·simp only;rw[zaj,zag hb,zag hs,Y6,hm,zap,zbf,Yal,Y4,zah hwl];exact zou hv (by omega)
  ·simp -implicitDefEqProofs[l120_0,Znd,h0,hw,hw2,hlt2,hg,c1,c2,hset,zbj _ _ _ hwl]
 ·right;have:i=b.length:=by omega
  subst this;rw[Yb (Yg b.length)]at hv;refine⟨_,⟨C,B,m,rfl,hC,hB,hm,hv⟩,?_,?_⟩<;>simp -implicitDefEqProofs[l120_0,Znd]
end
section
variable{T:Tbl}[Zs T][Zu T]
theorem zy8(P S b:List UInt32)(x:Nat)(hx:x<4294967296)(hS:b.length<S.length)(hl:P.length+S.length≤1000000) :
  ∃(B:Nat) (m:List UInt32),B≤1∧m.length=b.length+1∧val m+x*val b=val (S.take (b.length+1))+4294967296^(b.length+1)*B ∧
   Zbp T 120 [.bs (.bor 0) 0 1 0 (P.length+S.length),.i .i64 P.length,.sl (Zb b) .an,u32 x] [(.bor 0,⟨0,.own,1,Zb (P++S)⟩)] =
    some (.b (decide (0<B)),[(.bor 0,⟨0,.own,1,Zb (P++(m++S.drop (b.length+1)))⟩)]):=by
 obtain⟨_,⟨C,B,m,rfl,hC,hB,hm,hv⟩,hr⟩:=z7a (T:=T) P S b x hx hS hl (0,(0,0),[]) ⟨Yv _,Nat.zero_lt_succ _,Yv _,rfl,by simp⟩;unfold Znd at hr;simp at hr;have hs:S[b.length]? = some (S[b.length]'hS):=Ya hS;have hls:=zam (S[b.length]'hS);have hg:=zdv (P:=P) hm hS;have hw2:IntKind.wrap .i64 ((P.length:Int)+b.length)=((P.length+b.length:Nat):Int):=zac _ (by omega);have hlt2:(P.length:Int)+b.length<(P.length:Int)+S.length:=by omega
 have c2:=zgs (T:=T) (S[b.length]'hS).toNat C B hls hC (by omega);obtain⟨w,hwd⟩:∃w,w=((S[b.length]'hS).toNat+8589934592-(C+B))%4294967296:=⟨_,rfl⟩;obtain⟨B',hB'⟩:∃B',B'=2-((S[b.length]'hS).toNat+8589934592-(C+B))/4294967296:=⟨_,rfl⟩;rw[←hwd,←hB']at c2;have hwl:w<4294967296:=by omega
 have hset:=zdd (P:=P) (w32 w) hm hS;refine⟨B',m++[w32 w],by omega,by grind,?_,?_⟩
 ·rw[zaj,zag hs,Y6,hm,zap,zbf,Yal,Y4,zah hwl];have:=zou (y:=0) (w:=w) (v:=(S[b.length]'hS).toNat) (D':=B') hv (by omega);omega
 ·rw[za3 Zu.h120 rfl,b120];simp -implicitDefEqProofs[hr,hw2,hlt2,hg,c2,hset,zbj _ _ _ hwl]
end
section
variable{T:Tbl}[Zs T][Z4 T][Z2 T][Zu T]
theorem zov{p M w s t y v D D':Nat}(h:M+p*D=s+t)(e:w+4294967296*D'=v+y+D):(M+p*w)+p*4294967296*D'=(s+p*v)+(t+p*y):=by
 grind
def Zne(P S b:List UInt32)(y:Nat×Nat×List UInt32):St:=
 ⟨[(0,.bs (.bor 0) 0 1 0 (P.length+S.length)),(1,.i .i64 P.length),(2,.sl (Zb b) .an),(6,u32 y.2.1),(9,.sl (Zb b) .an),(10,.i .i64 b.length),(11,.i .i64 y.1)],
  [(.bor 0,⟨0,.own,1,Zb (P++(y.2.2++S.drop y.1))⟩)],4⟩
end
section
variable{T:Tbl}[Zs T]
theorem z7b(P S b:List UInt32)(hS:b.length<S.length)(hl:P.length+S.length≤1000000):∀y:Nat×Nat×List UInt32,
  (y.1≤b.length∧y.2.1≤1∧y.2.2.length=y.1∧val y.2.2+4294967296^y.1*y.2.1=val (S.take y.1)+val (b.take y.1)) →
  ∃r,(∃(C:Nat) (m:List UInt32),r=(Ex.n,(⟨[(0,.bs (.bor 0) 0 1 0 (P.length+S.length)),(1,.i .i64 P.length),(2,.sl (Zb b) .an),(6,u32 C)],[(.bor 0,⟨0,.own,1,Zb (P++(m++S.drop b.length))⟩)],4⟩:St)) ∧
   C≤1∧m.length=b.length∧val m+4294967296^b.length*C=val (S.take b.length)+val b)∧Ze T 1 0 (.norm false [0,1,2,6]) l121_0 (Zne P S b y)=some r:=by
 refine zay _ _ (fun y=>b.length-y.1) _ ?_
 rintro⟨i,C,m⟩ ⟨hi,hC,hm,hv⟩
 simp only at hi hC hm hv;by_cases h0:i<b.length
 ·left;have hb:b[i]? = some (b[i]'h0):=Ya h0;have hiS:i<S.length:=by omega
  have hs:S[i]? = some (S[i]'hiS):=Ya hiS;have hg:=zdv (P:=P) hm hiS;have hw:IntKind.wrap .i64 ((i:Int)+1)=((i+1:Nat):Int):=zac _ (by omega);have hw2:IntKind.wrap .i64 ((P.length:Int)+i)=((P.length+i:Nat):Int):=zac _ (by omega);have hlt2:(P.length:Int)+i<(P.length:Int)+S.length:=by omega
  have hlb:=zam (b[i]'h0);have hls:=zam (S[i]'hiS);have c2:=ze2 (T:=T) (S[i]'hiS).toNat (b[i]'h0).toNat C hls hlb (by omega);obtain⟨w,hwd⟩:∃w,w=((S[i]'hiS).toNat+(b[i]'h0).toNat+C)%4294967296:=⟨_,rfl⟩;obtain⟨C',hC'⟩:∃C',C'=((S[i]'hiS).toNat+(b[i]'h0).toNat+C)/4294967296:=⟨_,rfl⟩;rw[←hwd,←hC']at c2;have hwl:w<4294967296:=by omega
  have hset:=zdd (P:=P) (w32 w) hm hiS;refine⟨(i+1,C',m++[w32 w]),⟨h0,by grind,by grind,?_⟩,by omega,?_⟩
  ·simp only;rw[zaj,zag hb,zag hs,Y6,hm,zap,zbf,Yal,Y4,zah hwl];exact zov hv (by omega)
  ·simp -implicitDefEqProofs[l121_0,Zne,h0,hw,hw2,hlt2,hg,c2,hset,zbj _ _ _ hwl]
 ·right;have:i=b.length:=by omega
  subst this;rw[Yb (Yg b.length)]at hv;refine⟨_,⟨C,m,rfl,hC,hm,hv⟩,?_,?_⟩<;>simp -implicitDefEqProofs[l121_0,Zne]
end
section
variable{T:Tbl}[Zs T][Zu T]
theorem zy9(P S b:List UInt32)(hS:b.length<S.length)(hl:P.length+S.length≤1000000) :
  ∃(D:Nat) (m:List UInt32),D≤1∧m.length=b.length+1∧val m+4294967296^(b.length+1)*D=val (S.take (b.length+1))+val b ∧
   Zbp T 121 [.bs (.bor 0) 0 1 0 (P.length+S.length),.i .i64 P.length,.sl (Zb b) .an] [(.bor 0,⟨0,.own,1,Zb (P++S)⟩)] =
    some (.tup [],[(.bor 0,⟨0,.own,1,Zb (P++(m++S.drop (b.length+1)))⟩)]):=by
 obtain⟨_,⟨C,m,rfl,hC,hm,hv⟩,hr⟩:=z7b (T:=T) P S b hS hl (0,0,[]) ⟨Yv _,Yv _,rfl,by simp⟩;unfold Zne at hr;simp at hr;have hs:S[b.length]? = some (S[b.length]'hS):=Ya hS;have hls:=zam (S[b.length]'hS);have hg:=zdv (P:=P) hm hS;have hw2:IntKind.wrap .i64 ((P.length:Int)+b.length)=((P.length+b.length:Nat):Int):=zac _ (by omega);have hlt2:(P.length:Int)+b.length<(P.length:Int)+S.length:=by omega
 obtain⟨w,hwd⟩:∃w,w=((S[b.length]'hS).toNat+C)%4294967296:=⟨_,rfl⟩;have hwl:w<4294967296:=by omega
 have hset:=zdd (P:=P) (w32 w) hm hS;refine⟨((S[b.length]'hS).toNat+C)/4294967296,m++[w32 w],by omega,by grind,?_,?_⟩
 ·rw[zaj,zag hs,Y6,hm,zap,zbf,Yal,Y4,zah hwl];have:=zov (y:=0) (w:=w) (v:=(S[b.length]'hS).toNat) (D':=((S[b.length]'hS).toNat+C)/4294967296) hv (by omega);omega
 ·rw[za3 Zu.h121 rfl,b121];simp -implicitDefEqProofs[hr,hw2,hlt2,hg,←hwd,hset,zbj _ _ _ hwl]
end
end Go.Ab
end
section
namespace Go.Ab
theorem zjd(q b1 b0:Nat):q*(b1*4294967296+b0)=q*b1*4294967296+q*b0:=by
 rw[Yae q,←Y9 q]
theorem zml{a2 a1 a0 b1 b0 q r:Nat}(h:q*b1+r=a2*4294967296+a1)(hle:q*b0≤r*4294967296+a0) :
  q*(b1*4294967296+b0)≤(a2*4294967296+a1)*4294967296+a0:=by
 refine Yc (Nat.le_of_eq (zjd q b1 b0)) ?_;revert h hle;generalize q*b1=u;generalize q*b0=v;omega
theorem z2o{a2 a1 a0 b1 b0 q r:Nat}(h:q*b1+r=a2*4294967296+a1)(hgt:r*4294967296+a0<q*b0) :
  (a2*4294967296+a1)*4294967296+a0<q*(b1*4294967296+b0):=by
 refine Nat.lt_of_lt_of_eq ?_ (zjd q b1 b0).symm;revert h hgt;generalize q*b1=u;generalize q*b0=v;omega
theorem zyc{q b0 r a0:Nat}(h0:a0<4294967296):(q*b0/4294967296<r∨q*b0/4294967296=r∧q*b0%4294967296≤a0)↔q*b0≤r*4294967296+a0:=by
 generalize q*b0=m;omega
end Go.Ab
end
section
namespace Go.Ab
section
variable{T:Tbl}[Zs T][Z4 T][Z2 T][Zu T]
def Zh9(a0 b1 b0:Nat)(y:Nat×Nat):St:=⟨[(2,u32 a0),(3,u32 b1),(4,u32 b0),(11,u32 y.1),(12,u32 y.2)],[],2⟩
end
section
variable{T:Tbl}[Zs T]
theorem zyd(a2 a1 a0 b1 b0 g:Nat)(h0:a0<4294967296)(hb1:b1<4294967296)(hb0:b0<4294967296)
  (F1:∀q,q<4294967296→g≤q→q*(b1*4294967296+b0)≤(a2*4294967296+a1)*4294967296+a0→q=g)
  (F2:∀q,(a2*4294967296+a1)*4294967296+a0<q*(b1*4294967296+b0)→g<q):∀y:Nat×Nat,
  (y.1<4294967296∧y.2<4294967296∧y.1*b1+y.2=a2*4294967296+a1∧g≤y.1) →
  ∃r,(r=(Ex.n,(⟨[(11,u32 g)],[],2⟩:St)))∧Ze T 0 0 (.norm false [11]) l119_0 (Zh9 a0 b1 b0 y)=some r:=by
 refine zay _ _ (fun y=>y.1) _ ?_
 rintro⟨q,r⟩ ⟨hq,hr,hv,hg⟩
 simp only at hq hr hv hg;have c1:=zji (T:=T) q b0 0 0 hq hb0 (by decide) (by decide);have c2:=ze2 (T:=T) r b1 0 hr hb1 (by decide);rw[Y4]at c1;rw[Y4]at c2;have hcmp:=zyc (q:=q) (b0:=b0) (r:=r) h0;obtain⟨hi,hhi⟩:∃hi,hi=q*b0/4294967296:=⟨_,rfl⟩;obtain⟨lo,hlo⟩:∃lo,lo=q*b0%4294967296:=⟨_,rfl⟩;rw[←hhi,←hlo]at c1 hcmp;have hlol:lo<4294967296:=by omega
 have hhil:hi<4294967296:=by
  have:=zjh hq hb0;omega
 by_cases hle:q*b0≤r*4294967296+a0
 ·right;have hqg:=F1 q hq hg (zml hv hle);subst hqg;have hc:=hcmp.2 hle;clear hhi hlo;rcases hc with hc | ⟨rfl,hc2⟩
  ·refine⟨_,rfl,?_,?_⟩<;>simp -implicitDefEqProofs[l119_0,Zh9,c1,hc]
  ·refine⟨_,rfl,?_,?_⟩<;>simp -implicitDefEqProofs[l119_0,Zh9,c1,hc2]
 ·have hgt:r*4294967296+a0<q*b0:=by omega
  have hlt:=F2 q (z2o hv hgt);have hc:¬ (hi<r∨hi=r∧lo≤a0):=fun h=>hle (hcmp.1 h);have hq1:q-1<4294967296:=by omega
  have hs:Zhh q 1=q-1:=by unfold Zhh;omega
  have hqb:(q-1)*b1+(r+b1)=a2*4294967296+a1:=by
   have:q*b1=(q-1)*b1+b1:=by
    rw[←Ycf];congr 1;omega
   omega
  by_cases hcar:4294967296≤r+b1
  ·right;have hmul:=zjh hq1 hb0;have hqg:=F1 (q-1) hq1 (by omega) (zml hqb (by
    generalize (q-1)*b0=v at *
    omega))
   have m2:0<(r+b1)/4294967296:=Yez hcar (by decide);have m3:(r+b1)/4294967296<4294967296:=by omega
   have hr2:¬ hi<r:=fun h=>hc (.inl h);clear hhi hlo;refine⟨_,rfl,?_,?_⟩<;>by_cases he:hi=r
   ·have hc3:¬ lo≤a0:=fun h=>hc (.inr ⟨he,h⟩);subst he;simp -implicitDefEqProofs[l119_0,Zh9,c1,c2,hs,hc3,m2]
   ·simp -implicitDefEqProofs[l119_0,Zh9,c1,c2,hs,hr2,he,m2]
   ·have hc3:¬ lo≤a0:=fun h=>hc (.inr ⟨he,h⟩);subst he;simp -implicitDefEqProofs[l119_0,Zh9,c1,c2,hs,hc3,m2,hqg]
   ·simp -implicitDefEqProofs[l119_0,Zh9,c1,c2,hs,hr2,he,m2,hqg]
  ·left;refine⟨(q-1,r+b1),⟨hq1,by simp only;omega,hqb,by simp only;omega⟩,by simp only;omega,?_⟩;have m1:(r+b1)%4294967296=r+b1:=Yk (by omega);have m2:(r+b1)/4294967296=0:=Ybb (by omega);rw[m1,m2]at c2;have hr2:¬ hi<r:=fun h=>hc (.inl h);clear hhi hlo;by_cases he:hi=r
   ·have hc3:¬ lo≤a0:=fun h=>hc (.inr ⟨he,h⟩);subst he;simp -implicitDefEqProofs[l119_0,Zh9,c1,c2,hs,hc3]
   ·simp -implicitDefEqProofs[l119_0,Zh9,c1,c2,hs,hr2,he]
end
end Go.Ab
end
section
namespace Go.Ab
section
variable{T:Tbl}[Zs T][Z4 T][Z2 T][Zu T]
theorem z6z{n two:Nat}(h:0<two):(∀q,q<4294967296→min 4294967295 (n/two)≤q→q*two≤n→q=min 4294967295 (n/two))∧(∀q,n<q*two→min 4294967295 (n/two)<q):=by
 constructor
 ·intro q hq hg hle;have:=(Yb7 h).2 hle;omega
 ·intro q hlt;have:=(Ybj h).2 hlt;omega
theorem z2p{A a0 b1 b0:Nat}(h0:a0<4294967296)(hp:0<b1):A*4294967296+a0<(A/b1+1)*(b1*4294967296+b0):=by
 have h1:A<(A/b1+1)*b1:=by rw[Yab];exact Nat.lt_mul_div_succ A hp
 refine Nat.lt_of_lt_of_eq ?_ (zjd (A/b1+1) b1 b0).symm;generalize (A/b1+1)*b1=u at *
 generalize (A/b1+1)*b0=v at *
 omega
end
section
variable{T:Tbl}[Zs T][Zu T]
theorem zuc(a2 a1 a0 b1 b0:Nat)(h2:a2<4294967296)(h1:a1<4294967296)(h0:a0<4294967296)(hb1:b1<4294967296)(hb0:b0<4294967296)(hp:0<b1) :
  Za T 119 [u32 a2,u32 a1,u32 a0,u32 b1,u32 b0]=some (u32 (min 4294967295 (((a2*4294967296+a1)*4294967296+a0)/(b1*4294967296+b0)))):=by
 obtain⟨F1,F2⟩:=z6z (n:=(a2*4294967296+a1)*4294967296+a0) (two:=b1*4294967296+b0) (by omega);have hgle:=Yep 4294967295 (((a2*4294967296+a1)*4294967296+a0)/(b1*4294967296+b0));generalize min 4294967295 (((a2*4294967296+a1)*4294967296+a0)/(b1*4294967296+b0))=g at *
 by_cases hlt:a2<b1
 ·have hd:=zok (T:=T) a2 a1 b1 hlt h1 hb1;have hql:(a2*4294967296+a1)/b1<4294967296:=z47 hlt h1;have hrl:(a2*4294967296+a1)%b1<b1:=Yaz _ hp;have hdm:=Ybq (a2*4294967296+a1) b1;rw[Yab]at hdm;obtain⟨_,rfl,hr⟩:=zyd (T:=T) a2 a1 a0 b1 b0 g h0 hb1 hb0 F1 F2 ((a2*4294967296+a1)/b1,(a2*4294967296+a1)%b1) ⟨hql,by simp only;omega,hdm,by have:=F2 _ (z2p (A:=a2*4294967296+a1) (b0:=b0) h0 hp);simp only;omega⟩;unfold Zh9 at hr;simp at hr;rw[zaa Zu.h119 rfl,b119];simp -implicitDefEqProofs[hd,hr]
 ·have hd:=zuh (T:=T) a2 a1 b1 (by omega) h2 h1;have ha:=ze2 (T:=T) a1 b1 0 h1 hb1 (by decide);rw[Y4]at ha;by_cases hbig:b1<a2∨4294967296≤a1+b1
  ·have hg:4294967295=g:=by
    refine F1 4294967295 (by decide) hgle ?_;refine zml (r:=a2*4294967296+a1-4294967295*b1) (by omega) ?_;omega
   subst hg;rw[zaa Zu.h119 rfl,b119];rcases Ys b1 a2 with hb | hb
   ·simp -implicitDefEqProofs[hd,ha,hb]
   ·have hc:4294967296≤a1+b1:=by omega
    have hb2:¬ b1<a2:=by omega
    have m2:0<(a1+b1)/4294967296:=Yez hc (by decide);simp -implicitDefEqProofs[hd,ha,hb2,m2]
  ·have hb2:¬ b1<a2:=fun h=>hbig (.inl h);have hc:a1+b1<4294967296:=by omega
   have m1:(a1+b1)%4294967296=a1+b1:=Yk hc;have m2:(a1+b1)/4294967296=0:=Ybb hc;rw[m1,m2]at ha;obtain⟨_,rfl,hr⟩:=zyd (T:=T) a2 a1 a0 b1 b0 g h0 hb1 hb0 F1 F2 (4294967295,a1+b1) ⟨Yy 4294967295,hc,by simp only;omega,hgle⟩;unfold Zh9 at hr;simp at hr;have hb3:a2≤b1:=by omega
   rw[zaa Zu.h119 rfl,b119];simp -implicitDefEqProofs[hd,ha,hb2,hr]
end
end Go.Ab
end
section
namespace Go.Ab
theorem z08{V b d three two v0 b0:Nat}(hV:V=three*d+v0)(hv:v0<d)(hb:b=two*d+b0)(hb0:b0<d)(h2:4294967296≤two)(hlt:V<4294967296*b) :
  V/b≤min 4294967295 (three/two)∧min 4294967295 (three/two)≤V/b+1:=by
 have hd:0<d:=by omega
 have htp:0<two:=by omega
 have hbp:0<b:=by
  have:=Nat.mul_pos htp hd;omega
 have hq:V/b<4294967296:=Ybd (by rw[Yab];exact hlt);have hqb:V/b*b≤V:=Nat.div_mul_le_self V b;have hqb2:V<(V/b+1)*b:=by rw[Yab];exact Nat.lt_mul_div_succ V hbp
 generalize V/b=q at *
 constructor
 ·refine Nat.le_min.2 ⟨by omega,(Yb7 htp).2 ?_⟩;have h3:q*two*d<(three+1)*d:=by
   have:q*two*d≤q*b:=by rw[hb,Yae,Y9];omega
   rw[Ybu,Ydt];omega
  have:=Nat.lt_of_mul_lt_mul_right h3;omega
 ·generalize hx:min 4294967295 (three/two)=x;have hx1:x≤three/two:=by rw[←hx];exact Nat.min_le_right _ _
  have hx2:x≤4294967295:=by rw[←hx];exact Yep _ _
  have hx3:x*two≤three:=(Yb7 htp).1 hx1;rcases Ys (q+1) x with h | h
  ·exfalso;have e1:(q+2)*two≤x*two:=Yt _ h;have e2:(q+2)*two*d≤three*d:=Yt _ (Yc e1 hx3);have e3:(q+1)*b=(q+1)*two*d+(q+1)*b0:=by rw[hb,Yae,Y9]
   have e4:(q+1)*b0≤(q+1)*d:=Yac _ (Yc5 hb0);have e5:(q+2)*two*d=(q+1)*two*d+two*d:=by rw[show q+2=(q+1)+1 from rfl,Ybu (q+1) 1 two,Ydt,Ybu]
   have e6:(q+1)*d≤two*d:=Yt _ (by omega);omega
  ·exact h
end Go.Ab
end
section
namespace Go.Ab
theorem z24{vA vA' t p V x r vb vm T:Nat}(h0:vA=t+p*V)(h1:vA'=t+p*r)(hV:V=vb*x+r)(hT:T=vA+p*4294967296*(vm*vb)) :
  T=vA'+p*((x+4294967296*vm)*vb):=by grind
theorem zyo{V b x Bo vm p:Nat}(hb:0<b)(h1:V/b≤x)(h2:x≤V/b+1)(_hp:V<p)(hm:vm<p)(hBo:Bo≤1)(h:vm+x*b=V+p*Bo) :
  (Bo=0→x=V/b∧vm=V%b)∧(Bo=1→x=V/b+1∧vm+b=V%b+p):=by
 have hd:=Ybq V b;constructor
 ·intro h0;subst h0;have hx:x=V/b:=by
   have:x*b≤V:=by omega
   have:=(Yb7 hb).2 this;omega
  grind
 ·intro h0;subst h0;have hx:x=V/b+1:=by
   grind
  grind
theorem zyp{vm b r p D vm':Nat}(_hr:r<p)(h:vm+b=r+p)(hm:vm'<p)(hD:D≤1)(hg:vm'+p*D=vm+b):vm'=r:=by
 rcases Yar D with h0 | h0
 all_goals grind
theorem zol{α:Type}{A:List α}{i k:Nat}(h:i=k)(hi:i<A.length)(hk:k<A.length):A[i]'hi=A[k]'hk:=by grind
theorem zmp(A:List UInt32)(j n:Nat):val (A.drop j)=val ((A.drop j).take n)+4294967296^((A.drop j).take n).length*val (A.drop (j+n)):=by
 grind[List.take_append_drop,zaj,List.drop_drop]
theorem zuj{q x:Nat}(h:x=q+1)(hx:x<4294967296):Zhh x 1=q:=by unfold Zhh;omega
theorem zyq{A m1:List UInt32}{j n:Nat}(hm1:m1.length=n+1)(hj:j+n<A.length) :
  (A.take j++(m1++A.drop (j+(n+1)))).take j=A.take j∧(A.take j++(m1++A.drop (j+(n+1)))).drop (j+(n+1))=A.drop (j+(n+1)) ∧
  ((A.take j++(m1++A.drop (j+(n+1)))).drop j).take (n+1)=m1∧(A.take j++(m1++A.drop (j+(n+1)))).length=A.length:=by
 have htj:(A.take j).length=j:=by grind
 refine⟨?_,?_,?_,?_⟩
 ·rw[Ycn (by omega),Yb (by omega)]
 ·rw[←Yet,Ybw (by omega),Yas (l:=A.take j) (by omega),Yax,Ybw (by omega),Yas (by omega),Yax]
 all_goals grind
theorem zyr{D:List UInt32}{n:Nat}(h:n+2<D.length):val (D.take (n+3))=(((D[n+2]'h).toNat*4294967296+(D[n+1]'(by omega)).toNat)*4294967296+(D[n]'(by omega)).toNat)*4294967296^n+val (D.take n):=by
 grind[zag]
theorem z65{D:List UInt32}{n:Nat}(h:n+1<D.length):val (D.take (n+2))=((D[n+1]'h).toNat*4294967296+(D[n]'(by omega)).toNat)*4294967296^n+val (D.take n):=by
 grind[zag]
section
variable{T:Tbl}[Zs T][Zu T]
theorem zuk(A b:List UInt32)(j x:Nat)(hx:x<4294967296)(hj:j+b.length<A.length)(hl:A.length≤1000000) :
  ∃(B:Nat) (m:List UInt32),B≤1∧m.length=b.length+1∧val m+x*val b=val ((A.drop j).take (b.length+1))+4294967296^(b.length+1)*B ∧
   Zbp T 120 [.bs (.bor 0) 0 1 0 A.length,.i .i64 j,.sl (Zb b) .an,u32 x] [(.bor 0,⟨0,.own,1,Zb A⟩)] =
    some (.b (decide (0<B)),[(.bor 0,⟨0,.own,1,Zb (A.take j++(m++A.drop (j+(b.length+1))))⟩)]):=by
 have h1:(A.take j).length=j:=by grind
 have h2:(A.drop j).length=A.length-j:=by simp
 obtain⟨B,m,hB,hm,hv,hc⟩:=zy8 (T:=T) (A.take j) (A.drop j) b x hx (by omega) (by omega)
 grind[List.take_append_drop,List.drop_drop]
end
section
variable{T:Tbl}[Zs T][Zu T]
theorem zul(A b:List UInt32)(j:Nat)(hj:j+b.length<A.length)(hl:A.length≤1000000) :
  ∃(D:Nat) (m:List UInt32),D≤1∧m.length=b.length+1∧val m+4294967296^(b.length+1)*D=val ((A.drop j).take (b.length+1))+val b ∧
   Zbp T 121 [.bs (.bor 0) 0 1 0 A.length,.i .i64 j,.sl (Zb b) .an] [(.bor 0,⟨0,.own,1,Zb A⟩)] =
    some (.tup [],[(.bor 0,⟨0,.own,1,Zb (A.take j++(m++A.drop (j+(b.length+1))))⟩)]):=by
 have h1:(A.take j).length=j:=by grind
 have h2:(A.drop j).length=A.length-j:=by simp
 obtain⟨D,m,hD,hm,hv,hc⟩:=zy9 (T:=T) (A.take j) (A.drop j) b (by omega) (by omega);rw[h1,h2,show j+(A.length-j)=A.length by omega,Yay,Yet]at hc;exact⟨D,m,hD,hm,hv,hc⟩
end
section
variable{T:Tbl}[Zs T][Z4 T][Z2 T][Zu T]
def Zlb(b:List UInt32)(LA LQ:Nat)(y:Nat×List UInt32×List UInt32):St:=
 ⟨[(0,.bs (.bor 0) 0 1 0 LA),(1,.sl (Zb b) .an),(5,.i .i64 b.length),(6,.bs (.loc 15) 3 1 0 LQ),(7,.i .i64 ((y.1:Int)-1))],
  [(.bor 0,⟨0,.own,1,Zb y.2.1⟩),(.loc 15,⟨3,.own,1,Zb (List.replicate y.1 0++y.2.2)⟩)],5⟩
end
section
variable{T:Tbl}[Zs T][Zu T]
set_option maxHeartbeats 2000000 in
theorem z66(A0 b:List UInt32)(LQ nb:Nat)(hnb:b.length=nb+2)(hb1:0<(b[nb+1]'(by omega)).toNat)(hl:A0.length≤1000000)(hA0:A0.length=LQ+b.length):∀y:Nat×List UInt32×List UInt32,
  (y.1≤LQ∧y.2.1.length=A0.length∧y.2.2.length=LQ-y.1∧val (y.2.1.drop y.1)<val b∧val A0=val y.2.1+4294967296^y.1*(val y.2.2*val b)) →
  ∃r,(∃Q A:List UInt32,r=(Ex.n,(⟨[(6,.bs (.loc 15) 3 1 0 LQ)],[(.bor 0,⟨0,.own,1,Zb A⟩),(.loc 15,⟨3,.own,1,Zb Q⟩)],5⟩:St)) ∧
   Q.length=LQ∧A.length=A0.length∧val Q=val A0/val b∧val A=val A0%val b)∧Ze T 1 0 (.norm false [6]) l93_0 (Zlb b A0.length LQ y)=some r:=by
 refine zay _ _ (fun y=>y.1) _ ?_
 rintro⟨k,A,m⟩ ⟨hk,hA,hm,hlt,hv⟩
 simp only at hk hA hm hlt hv;have hbp:0<val b:=by omega
 cases k with
 | zero=>
  right;rw[Ydi,Ydt]at hv;rw[Y3]at hlt;refine⟨_,⟨m,A,rfl,by omega,hA,?_,?_⟩,?_,?_⟩
  ·rw[hv,Nat.add_mul_div_right _ _ hbp,Ybb hlt,Yan]
  ·rw[hv,Ydy,Yk hlt]
  ·simp -implicitDefEqProofs[l93_0,Zlb]
  ·simp -implicitDefEqProofs[l93_0,Zlb]
 | succ j=>
  left
  -- the window
  have hD:(A.drop j).length=A.length-j:=by simp
  have hDn:nb+2<(A.drop j).length:=by omega
  have hVlt:val (A.drop j)<4294967296*val b:=by
   have:=Ye (show j<A.length by omega);rw[this,zap];have:=zam (A[j]'(by omega));omega
  have hbB:=za0 b;rw[hnb]at hbB;have hsplit:=zmp A j (nb+3);have hlen3:((A.drop j).take (nb+3)).length=nb+3:=by simp;omega
  rw[hlen3]at hsplit;have hz:val (A.drop (j+(nb+3)))=0:=by
   rcases Yar (val (A.drop (j+(nb+3)))) with h | h
   ·exact h
   ·exfalso;have h1:=Yac (4294967296^(nb+3)) h;rw[Y6 4294967296 (nb+2)]at h1 hsplit;generalize 4294967296^(nb+2)=p at *
    generalize p*4294967296*val (A.drop (j+(nb+3)))=u at *
    omega
  rw[hz,Yal,Y4]at hsplit;have h3:=zyr hDn;have h2:=z65 (D:=b) (n:=nb) (by omega);rw[zbi (a:=b) (i:=nb+2) (by omega)]at h2;have hv0:=za0 ((A.drop j).take nb);have hb0:=za0 (b.take nb);rw[show ((A.drop j).take nb).length=nb by simp;omega]at hv0;rw[show (b.take nb).length=nb by simp;omega]at hb0;obtain⟨V,hV⟩:∃V,V=val (A.drop j):=⟨_,rfl⟩;rw[←hV]at hsplit hVlt;rw[←hsplit]at h3;have hg:=z08 (V:=V) (b:=val b) h3 hv0 h2 hb0 (by omega) hVlt;obtain⟨p0,hp0⟩:∃p,p=j+b.length:=⟨_,rfl⟩;obtain⟨p1,hp1⟩:∃p,p=j+(nb+1):=⟨_,rfl⟩;obtain⟨p2,hp2⟩:∃p,p=j+nb:=⟨_,rfl⟩;obtain⟨q1,hq1⟩:∃p,p=nb+1:=⟨_,rfl⟩;have c1:p0<A.length:=by omega
  have c2:p1<A.length:=by omega
  have c3:p2<A.length:=by omega
  have c4:q1<b.length:=by omega
  have c5:nb<b.length:=by omega
  have e1:(A.drop j)[nb+2]'hDn=A[p0]'c1:=Yd8.trans (zol (by omega) _ _);have e2:(A.drop j)[nb+1]'(by omega)=A[p1]'c2:=Yd8.trans (zol (by omega) _ _);have e3:(A.drop j)[nb]'(by omega)=A[p2]'c3:=Yd8.trans (zol (by omega) _ _);have e4:b[nb+1]'(by omega)=b[q1]'c4:=zol (by omega) _ _;rw[e1,e2,e3,e4]at hg;rw[e4]at hb1;have hgs:=zuc (T:=T) (A[p0]'c1).toNat (A[p1]'c2).toNat (A[p2]'c3).toNat (b[q1]'c4).toNat (b[nb]'c5).toNat (zam _) (zam _) (zam _) (zam _) (zam _) hb1;obtain⟨x,hxd⟩:∃x,x=min 4294967295 ((((A[p0]'c1).toNat*4294967296+(A[p1]'c2).toNat)*4294967296+(A[p2]'c3).toNat)/((b[q1]'c4).toNat*4294967296+(b[nb]'c5).toNat)):=⟨_,rfl⟩;rw[←hxd]at hg hgs;have hx:x<4294967296:=by rw[hxd];exact Ydb (Yep _ _) (by decide)
  clear hxd;obtain⟨Bo,m1,hBo,hm1,hvm1,hct⟩:=zuk (T:=T) A b j x hx (by omega) (by omega);rw[hnb,show nb+2+1=nb+3 from rfl,←hsplit]at hvm1;have hm1l:=za0 m1;rw[hm1,hnb,show nb+2+1=nb+3 from rfl]at hm1l;have hVp:V<4294967296^(nb+3):=by
   rw[Y6 4294967296 (nb+2)];generalize 4294967296^(nb+2)=p at *
   omega
  have hpk:=zyo hbp hg.1 hg.2 hVp hm1l hBo hvm1;have hql:V/val b<4294967296:=Ybd (by rw[Yab];exact hVlt);have hzb:val (A.drop (j+(b.length+1)))=0:=by rw[hnb];exact hz
  have htj:(A.take j).length=j:=by simp;omega
  have fin:∀m2:List UInt32,m2.length=b.length+1→val m2=V%val b →
    (A.take j++(m2++A.drop (j+(b.length+1)))).length=A0.length∧val ((A.take j++(m2++A.drop (j+(b.length+1)))).drop j)<val b ∧
    val A0=val (A.take j++(m2++A.drop (j+(b.length+1))))+4294967296^j*(val (w32 (V/val b)::m)*val b):=by
   intro m2 hm2 hvm2;refine⟨by simp[hm2];omega,?_,?_⟩
   ·rw[Ybw (by omega),Yas (by omega),Yax,zaj,hzb,Yal,Y4,hvm2];exact Yaz _ hbp
   ·have t1:val A=val (A.take j)+4294967296^j*V:=by rw[hV];exact zpl A j (by omega)
    have t2:val (A.take j++(m2++A.drop (j+(b.length+1))))=val (A.take j)+4294967296^j*(V%val b):=by
     rw[zaj,zaj,hzb,Yal,Y4,hvm2,htj]
    rw[zap,zah hql];exact z24 t1 t2 (Ybq V (val b)).symm hv
  clear hv hvm1 hsplit h3 h2 hg hbB hVlt hlt hzb hz hv0 hb0 hm1l hVp;have hw1:IntKind.wrap .i64 ((j:Int)-1)=(j:Int)-1:=zac _ (by omega);have hw2:IntKind.wrap .i64 ((j:Int)+b.length)=((p0:Nat):Int):=by rw[zac _ (by omega)];omega
  have hw3:IntKind.wrap .i64 ((p0:Int)-1)=((p1:Nat):Int):=by rw[zac _ (by omega)];omega
  have hw4:IntKind.wrap .i64 ((p0:Int)-2)=((p2:Nat):Int):=by rw[zac _ (by omega)];omega
  have hw5:IntKind.wrap .i64 ((b.length:Int)-1)=((q1:Nat):Int):=by rw[zac _ (by omega)];omega
  have hw6:IntKind.wrap .i64 ((b.length:Int)-2)=((nb:Nat):Int):=by rw[zac _ (by omega)];omega
  have hj1:j<LQ:=by omega
  rw[hA]at hct;have hml:(w32 (V/val b)::m).length=LQ-j:=by simp[hm];omega
  have hjb:j+b.length<A.length:=by omega
  have hnb3:nb+3=b.length+1:=by omega
  have d1:p0<A0.length:=by omega
  have d2:p1<A0.length:=by omega
  have d3:p2<A0.length:=by omega
  rcases Yar Bo with h0 | h0
  ·obtain⟨hxq,hvm⟩:=hpk.1 h0;subst h0;subst hxq;have hset:=zms (m:=m) (j:=j) (w32 (V/val b));obtain⟨f1,f2,f3⟩:=fin m1 hm1 hvm;refine⟨(j,A.take j++(m1++A.drop (j+(b.length+1))),w32 (V/val b)::m),⟨Yc5 hj1,f1,hml,f2,f3⟩,Yy j,?_⟩;simp -implicitDefEqProofs[l93_0,Zlb,hw1,hw2,hw3,hw4,hw5,hw6,c4,c5,d1,d2,d3,hA,hj1,hgs,hct,hset,zmt,zbj _ _ _ hx]
  ·have h1:Bo=1:=by omega
   obtain⟨hxq,hvm⟩:=hpk.2 h1;subst h1;have hset:=zms (m:=m) (j:=j) (w32 (V/val b));obtain⟨t1,t2,t3,t4⟩:=zyq (A:=A) hm1 hjb;rw[hA]at t4;obtain⟨D,m2,hD,hm2,hvm2,hcg⟩:=zul (T:=T) (A.take j++(m1++A.drop (j+(b.length+1)))) b j (by rw[t4,←hA];exact hjb) (by rw[t4];exact hl);rw[t1,t2,t4]at hcg;rw[t3]at hvm2;have hm2l:=za0 m2;rw[hm2]at hm2l;have hVb:=Yaz V hbp;have hbq:val b<4294967296^(b.length+1):=Yr (za0 b) (Yu (by decide) (Ybl _));rw[hnb3]at hvm;have hv2:=zyp (Nat.lt_trans hVb hbq) hvm hm2l hD hvm2;have hsx:=zuj hxq hx;obtain⟨f1,f2,f3⟩:=fin m2 hm2 hv2;refine⟨(j,A.take j++(m2++A.drop (j+(b.length+1))),w32 (V/val b)::m),⟨Yc5 hj1,f1,hml,f2,f3⟩,Yy j,?_⟩;simp -implicitDefEqProofs[l93_0,Zlb,hw1,hw2,hw3,hw4,hw5,hw6,c4,c5,d1,d2,d3,hA,hj1,hgs,hct,hsx,hcg,hset,zmt,zbj _ _ _ hql]
end
section
variable{T:Tbl}[Zs T][Zu T]
theorem zys(A b:List UInt32)(LQ nb:Nat)(hnb:b.length=nb+2)(hb1:0<(b[nb+1]'(by omega)).toNat)(hl:A.length≤1000000)(hA:A.length=LQ+b.length)(hlt:val (A.drop LQ)<val b) :
  ∃Q R:List UInt32,Q.length=LQ∧R.length=A.length∧val Q=val A/val b∧val R=val A%val b ∧
   Zbp T 93 [.bs (.bor 0) 0 1 0 A.length,.sl (Zb b) .an] [(.bor 0,⟨0,.own,1,Zb A⟩)]=some (.bs (.loc 15) 3 1 0 LQ,[(.bor 0,⟨0,.own,1,Zb R⟩),(.loc 15,⟨3,.own,1,Zb Q⟩)]):=by
 obtain⟨_,⟨Q,R,rfl,hQ,hR,hq,hr⟩,hlp⟩:=z66 (T:=T) A b LQ nb hnb hb1 hl hA (LQ,A,[]) ⟨Yg _,rfl,by simp,hlt,by simp⟩;have hw:IntKind.wrap .i64 ((A.length:Int)-b.length)=(LQ:Int):=by rw[zac _ (by omega)];omega
 have hw1:IntKind.wrap .i64 ((LQ:Int)-1)=(LQ:Int)-1:=zac _ (by omega);have h1:(LQ:Int)≤4294967296:=by omega
 refine⟨Q,R,hQ,hR,hq,hr,?_⟩;unfold Zlb at hlp;simp at hlp;rw[za3 Zu.h93 rfl,b93];simp -implicitDefEqProofs[hw,hw1,h1,hlp]
end
end Go.Ab
end
section
namespace Go.Ab
def b2071:AX:= (XS [XA 2 (.sl [] .nl)] (XS [mv 3 0,XK1 4 86 3,rg 5 (.call 2106 [(.t 4),(.c (.i .i64 0))]),mv 2 5] (XZ [2])))
def l2092_0:AX:= (.note (XS [XB 27 .lss 26 25] (.seq (XQ 27 0) (.seq (.block 1 (XS [mv 28 26,XI 29 1 24 26,XO 30 29,mv 8 28,mv 9 30] (XS [mv 31 9,rg 32 (.conv .u64 (.t 31)),mv 33 6,XB 34 .shl 32 33,mv 10 34] (XS [mv 35 7,mv 36 5,mv 37 8,XB 38 .add 36 37,XI 39 1 35 38,XO 40 39,mv 41 10,rg 42 (.conv .u32 (.t 41)),XB 43 .or 40 42,XI 44 1 35 38,XT 1 44 43] (.reg [mv 45 7,mv 46 5,mv 47 8,XB 48 .add 46 47,XC 49 .add 48 1,mv 50 10,rg 51 (.bin .shr (.t 50) (.c (u64 32))),rg 52 (.conv .u32 (.t 51)),XI 53 1 45 49,XT 1 53 52]))))) (.reg [XC 54 .add 26 1,mv 26 54])))) (XG [5,6,7,24,25,26]))
def b2092:AX:= (XS [XA 4 (.sl [] .nl)] (XS [mv 11 1,rg 12 (.mm true [(.t 11),(.c (.i .i64 0))]),rg 13 (.mm false [(.t 12),(.c (.i .i64 4096))]),mv 1 13] (XS [mv 14 1,XC 15 .quo 14 32,mv 16 1,XC 17 .rem 16 32,mv 5 15,mv 6 17] (XS [mv 18 5,mv 19 0,XN 20 19,XB 21 .add 18 20,XC 22 .add 21 1,rg 23 (.mks 1 [(u32 0)] (.t 22) (.t 22)),mv 7 23] (.seq (XS [mv 24 0,XN 25 24,XL 26 0] (.lp 0 (XG [5,6,7,24,25,26]) l2092_0 (XG [7]))) (XS [mv 55 7,XK1 56 2071 55,mv 4 56] (XZ [4])))))))
def b62:AX:= (XS [XA 4 (.sl [] .nl),XA 5 (.sl [] .nl),XJ 6] (XS [mv 12 1,XK1 13 71 12,mv 1 13] (.seq (.block 0 (XS [mv 15 1,XN 16 15,XC 17 .eql 16 0,mv 14 17] (XD 14 (XS [XA 4 (.sl [] .nl),XA 5 (.sl [] .nl),XJ 6] (XZ [4,5,6])) (XS [mv 19 0,mv 20 1,XK2 21 87 19 20,XC 22 .lss 21 0,mv 18 22] (XD 18 (XS [mv 23 0,XK1 24 71 23,XA 4 (.sl [] .nl),mv 5 24,XA 6 (.b true)] (XZ [4,5,6])) (XS [mv 26 1,XN 27 26,XC 28 .eql 27 1,mv 25 28] (XD 25 (XS [mv 30 0,mv 31 1,rg 32 (.iad 1 (.t 31) (.c (.i .i64 0))),XO 33 32,XK2 34 90 30 33,mv 29 34,XE 35 29 0,XE 36 29 1,XE 37 29 2,mv 7 35,mv 8 36,mv 9 37] (XS [mv 38 7,mv 39 8,rg 40 (.conv .u64 (.t 39)),XK1 41 72 40,mv 4 38,mv 5 41,XA 6 (.b true)] (XZ [4,5,6]))) .skip))))))) (XS [mv 42 1,mv 43 1,XN 44 43,XC 45 .sub 44 1,XI 46 1 42 45,XO 47 46,XK1 48 91 47,rg 49 (.bin .sub (.c (.i .i64 32)) (.t 48)),mv 10 49] (XS [mv 50 0,mv 51 10,XK2 52 2092 50 51,rg 53 (.bsl 1 [(u32 0)] 1 [(0,(.c (u32 0)))]),rg 54 (.app 1 (.t 52) (.t 53)),mv 11 54] (XS [mv 55 11,mv 56 1,mv 57 10,XK2 58 2092 56 57,XK2 59 93 55 58,mv 4 59] (XS [mv 60 4,XK1 61 71 60,mv 62 11,mv 63 10,XK2 64 94 62 63,mv 4 61,mv 5 64,XA 6 (.b true)] (XZ [4,5,6]))))))))
def row2071:AFx:=⟨1,6,[.t 2],b2071,(some [false]),false⟩
def row2092:AFx:=⟨2,57,[.t 4],b2092,(some [false,false]),false⟩
def row62:AFx:=⟨2,65,[.t 4,.t 5,.t 6],b62,none,false⟩
class Zw (T:Tbl):Prop where
 h2071:T 2071=some row2071
 h2092:T 2092=some row2092
 h62:T 62=some row62
section
variable{T:Tbl}[Zw T]{d:Option Nat}{st:St}
@[simp] theorem x2071(xs:List AV):Zd (orc T) T 2071 xs d st=bL (Ze4 st.heap [false] xs) fun ys=>Zed ys (Zh (Zaw [false] xs) st.heap) (Zcz (Zh (Zaw [false] xs) st.heap) 40 (Zcn [false] xs) []) T 2071 false d st:=zas Zw.h2071
@[simp] theorem x2092(xs:List AV):Zd (orc T) T 2092 xs d st=bL (Ze4 st.heap [false,false] xs) fun ys=>Zed ys (Zh (Zaw [false,false] xs) st.heap) (Zcz (Zh (Zaw [false,false] xs) st.heap) 40 (Zcn [false,false] xs) []) T 2092 false d st:=zas Zw.h2092
@[simp] theorem x62:XRx T 62:=xrx Zw.h62
end
end Go.Ab
end
section
namespace Go.Ab
theorem z7c(x:Nat):x<2^Za2 x:=by
 unfold Za2;split
 ·subst x;decide
 ·exact Yeg
theorem zza{x:Nat}(h:x<4294967296):Za2 x≤32:=by
 unfold Za2;split
 ·omega
 ·rename_i h0;have:=(Yec h0 (k:=32)).2 (by simpa using h);omega
theorem z48{n k:Nat}(h:(ofN n).length=k+1):4294967296^k≤n:=by
 rcases Ys n (4294967296^k) with h1 | h1
 ·have:=zan h1;omega
 ·exact h1
theorem zace{b:List UInt32}{nb:Nat}(h:b.length=nb+2)(hb:b=ofN (val b)) :
  (ofN (val b*2^(32-Za2 (b[nb+1]'(by omega)).toNat))).length=nb+2:=by
 have hl:=zza (zam (b[nb+1]'(by omega)));have hs:=z7c (b[nb+1]'(by omega)).toNat;have h1:val b=val (b.take (nb+1))+4294967296^(nb+1)*(b[nb+1]'(by omega)).toNat:=by
  have:=zag (Ya (show nb+1<b.length by omega))
  rwa [zbi (by omega)]at this
 have h2:=za0 (b.take (nb+1));rw[show (b.take (nb+1)).length=nb+1 by simp;omega]at h2;generalize (b[nb+1]'(by omega)).toNat=t at *
 refine Nat.le_antisymm (zan ?_) ?_
 ·have h3:val b<4294967296^(nb+1)*2^Za2 t:=by
   have:4294967296^(nb+1)*(t+1)≤4294967296^(nb+1)*2^Za2 t:=Yac _ hs;rw[Yae,Ydg]at this;omega
  have h4:2^Za2 t*2^(32-Za2 t)=4294967296:=by
   rw[←Ybh,show Za2 t+(32-Za2 t)=32 by omega]
  have h5:=Ydv h3 (Ya2 (n:=32-Za2 t) (show 0<2 by decide));rw[Y9,h4,←Y6]at h5;exact h5
 ·have h3:val b≤val b*2^(32-Za2 t):=Ych _ (Ya2 (by decide));have:=zat h3;rw[←hb]at this;omega
theorem z7d{b:List UInt32}{nb:Nat}(h:b.length=nb+2)(hb:b=ofN (val b)):0<(b[nb+1]'(by omega)).toNat:=by
 have h1:val b=val (b.take (nb+1))+4294967296^(nb+1)*(b[nb+1]'(by omega)).toNat:=by
  have:=zag (Ya (show nb+1<b.length by omega))
  rwa [zbi (by omega)]at this
 have h2:=za0 (b.take (nb+1));rw[show (b.take (nb+1)).length=nb+1 by simp;omega]at h2;have h3:4294967296^(nb+1)≤val b:=z48 (by rw[←hb];omega);rcases Yar (b[nb+1]'(by omega)).toNat with h0 | h0
 ·rw[h0,Yal]at h1;omega
 ·exact h0
theorem zjl(l:List UInt32):val (l++[0])=val l:=by rw[zaj];simp
theorem zacf{A b:List UInt32}{nb L:Nat}(hA:(A++[0]).length=L+b.length)(hb:b.length=nb+2)(hbo:b=ofN (val b)):val ((A++[0]).drop L)<val b:=by
 have hl:L≤A.length:=by simp at hA;omega
 rw[Ybw hl,zjl];have h1:=za0 (A.drop L);have h2:(A.drop L).length=nb+1:=by simp at hA ⊢;omega
 rw[h2]at h1;exact Yr h1 (z48 (by rw[←hbo];omega))
section
variable{T:Tbl}[Zs T][Zw T]
theorem zow(a:List UInt32)(hl:a.length≤1000000):Zbp T 2071 [.sl (Zb a) .an] [] =
  some (.bs (.fld (.loc 5) 10) 1 1 0 (ofN (val a)).length,[(.fld (.loc 5) 10,⟨1,.own,1,Zb (ofN (val a))⟩)]):=by
 have h1:=zad a;have h2:=zcy (T:=T) (ofN (val a)) 0 (by omega);simp only[Yl,Y4,Ydu,Ya8]at h2;rw[za3 Zw.h2071 rfl,b2071];simp -implicitDefEqProofs[zbu a (by omega),h2]
end
section
variable{T:Tbl}[Zs T][Zw T]
theorem zjm(a:List UInt32)(n:Nat)(hn:n≤4096)(hl:a.length≤100000):Zbp T 2092 [.sl (Zb a) .an,.i .i64 n] [] =
  some (.bs (.fld (.fld (.loc 56) 0) 6010) 1 1 0 (ofN (val a*2^n)).length,[(.fld (.fld (.loc 56) 0) 6010,⟨1,.own,1,Zb (ofN (val a*2^n))⟩)]):=by
 obtain⟨_,⟨c,m,rfl,hm,hc,hv⟩,hr⟩:=z8l (T:=T) (List.replicate (n/32) 0) a (n%32) (Yaz _ (by decide)) (by simp;omega) (0,0,[]) ⟨Yv _,Ya2 (by decide),rfl,by simp⟩;have hc32:c<4294967296:=Yr hc (by
  have:2^(n%32)≤2^32:=Yu (by decide) (by omega);simpa using this)
 have hval:val (List.replicate (n/32) 0++(m++[w32 c]))=val a*2^n:=by
  rw[zaj,zbk,Ya9,zaj,hm];simp only[zap,zbf,Yal,Y4,zah hc32,Yan];rw[hv,zpk,←Y9,←Ybh,show 32*(n/32)+n%32=n by omega,Yab]
 have hlen:(List.replicate (n/32) 0++(m++[w32 c])).length=n/32+a.length+1:=by simp[hm];omega
 have hnm:=zow (T:=T) (List.replicate (n/32) 0++(m++[w32 c])) (by omega);rw[hval]at hnm;rw[show l92_0=l2092_0 from rfl]at hr;unfold Znm at hr;generalize List.replicate (n/32) 0++(m++[w32 c])=Q at *
 simp at hr;have hz:List.replicate (n/32) (0:UInt32)++w32 0::List.replicate a.length 0=List.replicate (n/32+a.length+1) 0:=by
  have:w32 0=0:=rfl;rw[this,←Yck,List.replicate_append_replicate,Ya0]
 rw[hz]at hr;have hn2:¬ (4096:Int)<(n:Int):=by omega
 have hq:(n:Int).tdiv 32=(n:Int)/32:=Ycx (by omega);have hm2:(n:Int).tmod 32=(n:Int)%32:=Ycy (by omega);have w1:IntKind.wrap .i64 ((n:Int)/32)=(n:Int)/32:=zac (n/32) (by omega);have w2:IntKind.wrap .i64 ((n:Int)/32+a.length)=(n:Int)/32+a.length:=zac _ (by omega);have w3:IntKind.wrap .i64 ((n:Int)/32+a.length+1)=(n:Int)/32+a.length+1:=zac _ (by omega);have p1:(0:Int)≤(n:Int)/32+a.length+1:=by omega
 have p2:(n:Int)/32+a.length+1≤4294967296:=by omega
 have p3:((n:Int)/32+a.length+1).toNat=n/32+a.length+1:=by omega
 have htk:List.take (n/32+a.length+1) Q=Q:=Yb (by omega);rw[za3 Zw.h2092 rfl,b2092];simp -implicitDefEqProofs[hn2,hq,hm2,w1,w2,w3,p1,p2,p3,hr,hnm,htk,hlen]
end
section
variable{T:Tbl}[Zs T][Z4 T][Z2 T][Zu T][Zw T]
theorem zgu(a b:List UInt32)(ha:a.length≤90000)(hb:b.length≤90000):Za T 62 [.sl (Zb a) .an,.sl (Zb b) .an] =
  some (if val b=0 then .tup [.sl [] .an,.sl [] .an,.b false] else .tup [.sl (Zb (ofN (val a/val b))) .an,.sl (Zb (ofN (val a%val b))) .an,.b true]):=by
 have hnb:=zbv (T:=T) b (by omega);have hna:=zbv (T:=T) a (by omega);have hlb:=zad b;have hla:=zad a;have hcmp:=zhh (T:=T) a (ofN (val b)) (by omega) (by omega);rw[zae]at hcmp;rw[zaa Zw.h62 rfl,b62];by_cases h0:val b=0
 ·rw[h0]at hnb;simp -implicitDefEqProofs[hnb,h0]
 ·have h0':ofN (val b)≠[]:=fun h=>h0 (zaw.1 h);have hl0:(ofN (val b)).length≠0:=fun h=>h0' (Yap h);by_cases hlt:val a<val b
  ·have hd:=Ybb hlt;have hm:=Yk hlt;simp -implicitDefEqProofs[hnb,h0,hl0,hcmp,zdc,hlt,hna,hd,hm]
  ·rcases Ys 1 (ofN (val b)).length with h1 | h1
   ·obtain⟨b',hb'⟩:∃b',b'=ofN (val b):=⟨_,rfl⟩;have hvb:val b'=val b:=by rw[hb',zae]
    have hbo:b'=ofN (val b'):=by rw[hvb,hb']
    rw[←hb']at hnb hcmp hl0 h1 hlb;obtain⟨nb,hnbl⟩:∃nb,b'.length=nb+2:=⟨b'.length-2,by omega⟩;have hll:=zsm (T:=T) (b'[nb+1]'(by omega));have hbl:=zza (zam (b'[nb+1]'(by omega)));have hup:=zace hnbl hbo;obtain⟨s,hs⟩:∃s,s=32-Za2 (b'[nb+1]'(by omega)).toNat:=⟨_,rfl⟩;obtain⟨l,hll2⟩:∃l,l=Za2 (b'[nb+1]'(by omega)).toNat:=⟨_,rfl⟩;rw[←hs]at hup;rw[←hll2]at hll hs hbl;obtain⟨B,hB⟩:∃B,B=ofN (val b'*2^s):=⟨_,rfl⟩;obtain⟨A,hA⟩:∃A,A=ofN (val a*2^s):=⟨_,rfl⟩;have hua:=zjm (T:=T) a s (by omega) (by omega);have hub:=zjm (T:=T) b' s (by omega) (by omega);rw[←hA]at hua;rw[←hB]at hub hup;have hBo:B=ofN (val B):=by rw[hB,zae]
    have hvA:val A=val a*2^s:=by rw[hA,zae]
    have hvB:val B=val b'*2^s:=by rw[hB,zae]
    have hAB:B.length≤A.length:=by
     rw[hA,hB];exact zat (Yt _ (by omega))
    have hAl:A.length≤a.length+1:=by
     rw[hA];refine zan ?_;have h2:2^s≤2^32:=Yu (by decide) (by omega);rw[Y6];exact Ydb (Yac _ h2) (Ydv (za0 a) (by decide))
    have hpos:=z7d (hup) hBo;obtain⟨Q,R,hQ,hR,hvQ,hvR,hlong⟩:=zys (T:=T) (A++[0]) B (A.length+1-B.length) nb hup hpos (by simp;omega) (by simp;omega) (zacf (by simp;omega) hup hBo);rw[zjl,hvA,hvB,hvb,Nat.mul_div_mul_right _ _ (Ya2 (by decide))]at hvQ;rw[zjl,hvA,hvB,hvb,Nat.mul_mod_mul_right]at hvR;have hnq:=zbv (T:=T) Q (by omega);have hAl1:(A++[(0:UInt32)]).length=A.length+1:=by simp
    rw[hAl1]at hlong hR;have hdn:=z04 (T:=T) R s (by omega) (by omega);rw[hvR,Nat.mul_div_cancel _ (Ya2 (by decide))]at hdn;rw[hvQ]at hnq;obtain⟨q1,hq1⟩:∃p,p=nb+1:=⟨_,rfl⟩;have c1:q1<b'.length:=by omega
    have hwt:b'[nb+1]'(by omega)=b'[q1]'c1:=zol (by omega) _ _;rw[hwt]at hll;have w1:IntKind.wrap .i64 ((b'.length:Int)-1)=(q1:Int):=by rw[zac _ (by omega)];omega
    have w2:IntKind.wrap .i64 (32-(l:Int))=(s:Int):=by rw[zac _ (by omega)];omega
    have c3:A.length≤4294967295:=by omega
    have c4:w32 0=0:=rfl;have c5:A.length+1≤A.length+1-B.length+B.length:=by omega
    have c2:¬ ((b'.length:Int)=1):=by omega
    have t1:List.take (A.length+1) R=R:=Yb (by omega);have t2:List.take (A.length+1-B.length) Q=Q:=Yb (by omega);simp -implicitDefEqProofs[hnb,h0,hl0,hcmp,zdc,hlt,w1,w2,c1,c2,c3,c4,c5,hll,hua,hub,hlong,hnq,hdn,t1,t2,hQ,hR]
   ·have hl1:(ofN (val b)).length=1:=by omega
    obtain⟨w,hw⟩:=Yco.1 hl1;have hvb:val b=w.toNat:=by
     have:=zae (val b);rw[hw]at this;simp at this;omega
    have hwl:=zam w;have hwd:=zot (T:=T) a (val b) (by omega) (by omega) (by omega);have hof:=zh0 (T:=T) (val a%val b) (by have:=Yaz (val a) (show 0<val b by omega);omega);have m1:val a%val b%18446744073709551616=val a%val b:=Yk (by have:=Yaz (val a) (show 0<val b by omega);omega);rw[hw]at hnb hcmp;rw[←hvb]at hwl;simp -implicitDefEqProofs[hnb,h0,hcmp,zdc,hlt,hwd,←hvb,hof,m1]
end
end Go.Ab
end
section
namespace Go.Ab
def Zkw(n:Nat):List UInt8:=if h:n<10 then [UInt8.ofNat (48+n)] else UInt8.ofNat (48+n%10)::Zkw (n/10)
termination_by n
decreasing_by omega
def Zbb(n:Nat):List UInt8:=(Zkw n).reverse
def Zgi:List AV→Option UInt32
 | [.i .u32 n]=>if 0≤n∧n<4294967296 then some (w32 n.toNat) else none
 | _=>none
def prim68:List AV→Option AV
 | [.sl els .an]=>if els.length≤1000 then (els.mapM Zgi).map fun l=>.s (Zbb (val l)) else none
 | _=>none
theorem zv2(l:List UInt32):(Zb l).mapM Zgi=some l:=by
 induction l with
 | nil=>rfl
 | cons x l ih=>
  have hx:=zam x;have h1:Zgi [u32 x.toNat]=some x:=by
   unfold Zgi u32;simp only;rw[if_pos ⟨by omega,by omega⟩];simp
  have e:Zb (x::l)=[u32 x.toNat]::Zb l:=rfl;rw[e,Ybp,h1,ih]
  rfl
theorem zpo(a:List UInt32)(h:a.length≤1000):prim68 [.sl (Zb a) .an]=some (.s (Zbb (val a))):=by
 unfold prim68;simp only[zjc,h,if_true,zv2,Ycr]
def Zou:Nat→List UInt8→Int
 | _,[]=>-1
 | k,c::r=>if c.toNat<48∨57<c.toNat∨k=60 then k else Zou (k+1) r
def Zkx(l:List UInt8):Int:=if l=[] then 0 else Zou 0 l
def rd(l:List UInt8):Nat:=l.foldl (fun n c=>n*10+(c.toNat-48)) 0
theorem zlu{n:Nat}(h:n<10):Zkw n=[UInt8.ofNat (48+n)]:=by rw[Zkw,dif_pos h]
theorem zs4{n:Nat}(h:¬ n<10):Zkw n=UInt8.ofNat (48+n%10)::Zkw (n/10):=by rw[Zkw,dif_neg h]
theorem zep{n:Nat}(h:n<10):Zbb n=[UInt8.ofNat (48+n)]:=by rw[Zbb,zlu h];rfl
theorem zpp{n:Nat}(h:¬ n<10):Zbb n=Zbb (n/10)++[UInt8.ofNat (48+n%10)]:=by rw[Zbb,zs4 h];simp[Zbb]
def txN(n:Nat)(s:List UInt8):List UInt8:=if n=0∧s≠[] then s else Zbb n++s
def Zec:Nat→Nat→List UInt8
 | 0,_=>[]
 | k+1,x=>Zec k (x/10)++[UInt8.ofNat (48+x%10)]
def u8c(l:List UInt8):List AV:=l.map fun b=>u8 b.toNat
@[simp] theorem z95(l:List UInt8):(u8c l).length=l.length:=by simp[u8c]
@[simp] theorem zamg(l:List UInt8):(u8c l).flatMap rfC=[]:=by induction l with | nil=>rfl | cons x l ih=>simp[u8c]
@[simp] theorem zajo{σn:BId→BId}{σg:Nat→Nat}(l:List UInt8):(u8c l).map (fun c=>rlC σn σg (wkA c))=u8c l:=by induction l with | nil=>rfl | cons x l ih=>simp[u8c]
@[simp] theorem z4k(l:List UInt8):(u8c l).all pureC=true:=by induction l with | nil=>rfl | cons x l ih=>simp[u8c]
@[simp] theorem zacx(l:List UInt8):(∀x,x∈u8c l→pureC x=true)=True:=by
 have:=z4k l;rw[Ym]at this;simpa using this
theorem z8p{l:List UInt8}{j d:Nat}(h:d<256)(hj:j<l.length):(u8c l).take j++u8 d::(u8c l).drop (j+1)=u8c (l.set j (UInt8.ofNat d)):=by
 rw[Yc7,if_pos hj];simp[u8c,List.map_take,List.map_drop,Yk h]
theorem zf8:∀k x,(Zec k x).length=k
 | 0,_=>rfl
 | k+1,x=>by simp[Zec,zf8 k]
theorem zj9(x:Nat):Zec 0 x=[]:=rfl
theorem ze6(k x:Nat):Zec (k+1) x=Zec k (x/10)++[UInt8.ofNat (48+x%10)]:=rfl
theorem z4l{m:List UInt8}{j:Nat}(w:UInt8):(List.replicate (j+1) 0++m).set j w=List.replicate j 0++w::m:=by
 rw[List.set_append_left j w (by simp),Ydp,Yad j w (by simp)];simp
theorem z4m(m:List UInt8):((u8c m).map fun c=>[c]).mapM Zet=some m:=by
 induction m with
 | nil=>rfl
 | cons b m ih=>
  have e:((u8c (b::m)).map fun c=>[c])=[u8 b.toNat]::((u8c m).map fun c=>[c]):=rfl;rw[e,Ybp,ih];simp[Zet,u8]
end Go.Ab
end
section
namespace Go.Ab
def l101_0:AX:= (.note (.seq (XS [mv 5 4,XC 6 .geq 5 0] (XQ 6 0)) (.seq (.block 1 (XS [mv 9 4,mv 10 0,rg 11 (.bin .rem (.t 10) (.c (u32 10))),rg 12 (.bin .add (.c (u32 48)) (.t 11)),rg 13 (.conv .u8 (.t 12)),rg 14 (.iaa 1 9 (.t 3) (.t 9)),XT 1 14 13] (.reg [mv 15 0,rg 16 (.bin .quo (.t 15) (.c (u32 10))),mv 0 16]))) (.reg [mv 7 4,XC 8 .sub 7 1,mv 4 8]))) (XG [0,3,4]))
def b101:AX:= (XS [XA 2 (.s [])] (XS [rg 3 (.alloc [(u8 0),(u8 0),(u8 0),(u8 0),(u8 0),(u8 0),(u8 0),(u8 0),(u8 0)])] (.seq (XS [XL 4 8] (.lp 0 (XG [0,3,4]) l101_0 (XG [3]))) (XS [rg 17 (.xop (.arsl 9) [(.t 3)]),rg 18 (.xop .bstr [(.t 17)]),mv 2 18] (XZ [2])))))
def row101:AFx:=XrV 1 19 2 b101
class Zap (T:Tbl):Prop where
 h101:T 101=some row101
section
variable{T:Tbl}[Zap T]{d:Option Nat}{st:St}
@[simp] theorem x101:XRx T 101:=xrx Zap.h101
end
end Go.Ab
end
section
namespace Go.Ab
def row68:AFx:=⟨0,0,[],.prim prim68,none,false⟩
class Za0 (T:Tbl):Prop where
 h68:T 68=some row68
section
variable{T:Tbl}[Za0 T]{d:Option Nat}{st:St}
@[simp] theorem x68:XRx T 68:=xrx Za0.h68
theorem p68(xs:List AV):Za T 68 xs=prim68 xs:=zhe Za0.h68
end
end Go.Ab
end
section
namespace Go.Ab
def b103:AX:= (XS [XA 4 (.s [])] (.seq (XS [mv 7 0,rg 8 (.bin .eql (.t 7) (.c (.s []))),mv 9 8,VM 10 9 false 1,gd 11 9 false (.bin .eql (.t 10) (.c (.s []))),XY 12 9 11] (XD 12 (XS [mv 13 0,mv 4 13] (XZ [4])) .skip)) (.seq (XS [mv 14 1,rg 15 (.lens (.t 14)),XC 16 .eql 15 1,mv 17 16,VM 18 17 true 1,gd 19 17 true (.ixs (.t 18) (.c (.i .i64 0))),gd 20 17 true (.bin .lss (.t 19) (.c (u8 128))),XW 21 17 20] (XD 21 (XS [mv 22 0,mv 23 1,rg 24 (.ixs (.t 23) (.c (.i .i64 0))),XK2 25 125 22 24,mv 4 25] (XZ [4])) .skip)) (.seq (XS [mv 27 1,XK1 28 126 27,mv 26 28,XE 29 26 0,XE 30 26 1,rg 5 (.alloc [(.b false),(.b false),(.b false),(.b false),(.b false),(.b false),(.b false),(.b false),(.b false),(.b false),(.b false),(.b false),(.b false),(.b false),(.b false),(.b false),(.b false),(.b false),(.b false),(.b false),(.b false),(.b false),(.b false),(.b false),(.b false),(.b false),(.b false),(.b false),(.b false),(.b false),(.b false),(.b false),(.b false),(.b false),(.b false),(.b false),(.b false),(.b false),(.b false),(.b false),(.b false),(.b false),(.b false),(.b false),(.b false),(.b false),(.b false),(.b false),(.b false),(.b false),(.b false),(.b false),(.b false),(.b false),(.b false),(.b false),(.b false),(.b false),(.b false),(.b false),(.b false),(.b false),(.b false),(.b false),(.b false),(.b false),(.b false),(.b false),(.b false),(.b false),(.b false),(.b false),(.b false),(.b false),(.b false),(.b false),(.b false),(.b false),(.b false),(.b false),(.b false),(.b false),(.b false),(.b false),(.b false),(.b false),(.b false),(.b false),(.b false),(.b false),(.b false),(.b false),(.b false),(.b false),(.b false),(.b false),(.b false),(.b false),(.b false),(.b false),(.b false),(.b false),(.b false),(.b false),(.b false),(.b false),(.b false),(.b false),(.b false),(.b false),(.b false),(.b false),(.b false),(.b false),(.b false),(.b false),(.b false),(.b false),(.b false),(.b false),(.b false),(.b false),(.b false),(.b false),(.b false),(.b false),(.b false),(.b false),(.b false),(.b false),(.b false),(.b false),(.b false),(.b false),(.b false),(.b false),(.b false),(.b false),(.b false),(.b false),(.b false),(.b false),(.b false),(.b false),(.b false),(.b false),(.b false),(.b false),(.b false),(.b false),(.b false),(.b false),(.b false),(.b false),(.b false),(.b false),(.b false),(.b false),(.b false),(.b false),(.b false),(.b false),(.b false),(.b false),(.b false),(.b false),(.b false),(.b false),(.b false),(.b false),(.b false),(.b false),(.b false),(.b false),(.b false),(.b false),(.b false),(.b false),(.b false),(.b false),(.b false),(.b false),(.b false),(.b false),(.b false),(.b false),(.b false),(.b false),(.b false),(.b false),(.b false),(.b false),(.b false),(.b false),(.b false),(.b false),(.b false),(.b false),(.b false),(.b false),(.b false),(.b false),(.b false),(.b false),(.b false),(.b false),(.b false),(.b false),(.b false),(.b false),(.b false),(.b false),(.b false),(.b false),(.b false),(.b false),(.b false),(.b false),(.b false),(.b false),(.b false),(.b false),(.b false),(.b false),(.b false),(.b false),(.b false),(.b false),(.b false),(.b false),(.b false),(.b false),(.b false),(.b false),(.b false),(.b false),(.b false),(.b false),(.b false),(.b false),(.b false),(.b false),(.b false),(.b false),(.b false),(.b false),(.b false),(.b false),(.b false),(.b false),(.b false),(.b false),(.b false),(.b false),(.b false),(.b false)]),XT 256 5 29,mv 6 30] (XS [mv 31 6] (XD 31 (XS [mv 32 0,XK2 33 127 32 5,mv 4 33] (XZ [4])) .skip))) (XS [mv 34 0,mv 35 1,XK2 36 128 34 35,mv 4 36] (XZ [4]))))))
def l125_0:AX:= (.note (.seq (XS [mv 5 0,rg 6 (.lens (.t 5)),XC 7 .gtr 6 0,mv 8 7,VM 9 8 true 0,gd 10 8 true (.ixs (.t 9) (.c (.i .i64 0))),VM 11 8 true 1,VB 12 8 true .eql 10 11,XW 13 8 12] (XQ 13 0)) (.block 1 (.reg [mv 14 0,rg 15 (.slstr (.t 14) (some (.c (.i .i64 1))) none),mv 0 15]))) (XG [0,1]))
def b125:AX:= (XS [XA 4 (.s [])] (.seq (.lp 0 (XG [0,1]) l125_0 (XG [0])) (XS [mv 16 0,mv 4 16] (XZ [4]))))
def row103:AFx:=XrV 2 37 4 b103
def row125:AFx:=XrV 2 17 4 b125
class Zi7 (T:Tbl):Prop where
 h103:T 103=some row103
 h125:T 125=some row125
section
variable{T:Tbl}[Zi7 T]{d:Option Nat}{st:St}
@[simp] theorem x125:XRx T 125:=xrx Zi7.h125
end
end Go.Ab
end
section
namespace Go.Ab
section
variable{T:Tbl}
theorem zx3(x0:Nat)(_hx0:x0<4294967296):∀y:Nat×Nat×List UInt8,(y.1≤9∧y.2.1<4294967296∧y.2.2.length=9-y.1∧Zec y.1 y.2.1++y.2.2=Zec 9 x0) →
  Ze T 0 0 (.norm false [3]) l101_0 ⟨[(0,u32 y.2.1),(3,.ptr (.loc 3) 1 9 0 0),(4,.i .i64 ((y.1:Int)-1))],[(.loc 3,⟨1,.str,9,[u8c (List.replicate y.1 0++y.2.2)]⟩)],3⟩ =
   some (.n,⟨[(3,.ptr (.loc 3) 1 9 0 0)],[(.loc 3,⟨1,.str,9,[u8c (Zec 9 x0)]⟩)],3⟩):=by
 refine zav (fun y:Nat×Nat×List UInt8=>⟨[(0,u32 y.2.1),(3,.ptr (.loc 3) 1 9 0 0),(4,.i .i64 ((y.1:Int)-1))],[(.loc 3,⟨1,.str,9,[u8c (List.replicate y.1 0++y.2.2)]⟩)],3⟩) _ (fun y=>y.1) _ ?_
 rintro⟨k,x,m⟩ ⟨hk,hx,hm,hd⟩
 simp only at hk hx hm hd;cases k with
 | zero=>
  right;have hd:m=Zec 9 x0:=by simpa only[zj9,Yax]using hd
  subst hd;generalize Zec 9 x0=m;constructor<;>simp -implicitDefEqProofs[l101_0]
 | succ j=>
  left;have hw:IntKind.wrap .i64 ((j:Int)-1)=(j:Int)-1:=zac _ (by omega);have h1:(j:Int)<9:=by omega
  have h2:j≤8:=by omega
  have hd1:48+x%10<256:=by omega
  have hs:=(z8p (l:=List.replicate (j+1) 0++m) (j:=j) hd1 (by simp;omega)).trans (congrArg u8c (z4l (j:=j) (m:=m) (UInt8.ofNat (48+x%10))));have m1:(48+x%10)%4294967296=48+x%10:=Yk (by omega);have m2:(48+x%10)%256=48+x%10:=Yk (by omega);have m3:x/10%4294967296=x/10:=Yk (by omega);have hlen:j+1+m.length=9:=by omega
  refine⟨(j,x/10,UInt8.ofNat (48+x%10)::m),⟨by simp only;omega,by simp only;omega,by simp;omega,?_⟩,Yy j,?_,rfl⟩
  ·simp only;rw[←hd,ze6,Ya3]
   rfl
  ·simp -implicitDefEqProofs[l101_0,hw,h1,h2,hs,m1,m2,m3,hlen]
end
section
variable{T:Tbl}[Zap T]
theorem zqn(x:Nat)(hx:x<4294967296):Za T 101 [u32 x]=some (.s (Zec 9 x)):=by
 have h:=zx3 (T:=T) x hx (9,x,[]) ⟨Yg _,hx,rfl,by simp⟩;have e:u8c (List.replicate 9 0++[])=[u8 0,u8 0,u8 0,u8 0,u8 0,u8 0,u8 0,u8 0,u8 0]:=rfl;simp only[e]at h;rw[zaa Zap.h101 rfl,b101];have h8:IntKind.wrap .i64 8=8:=by decide
 have hl9:=zf8 9 x;generalize hm:Zec 9 x=m at *
 have t9:List.take 9 ((u8c m).map fun c=>[c])=(u8c m).map fun c=>[c]:=Yb (by simp[hl9]);have hr:=z4m m;simp at h;simp -implicitDefEqProofs[h,hr,hl9,t9]
end
section
variable{T:Tbl}[Zs T][Z2 T][Zap T]
def Zq1(l:List UInt8)(o:List UInt32)(i0 k:Nat):St:=
 ⟨[(0,.s l),(3,.ptr (.loc 3) 1 4 0 0),(5,.sl (Zb o) .an),(6,.i .i64 (i0+k:Nat)),(7,u32 (rd ((l.drop i0).take k))),(8,u32 (10^k)),(9,.i .i64 k)],[(.loc 3,⟨1,.str,4,[[.i .i64 0,.i .i64 0,.i .i64 0,.i .i64 0]]⟩)],3⟩
end
end Go.Ab
end
section
namespace Go.Ab
def sg(n:Bool)(k:Nat):Int:=if n then -(k:Int) else k
def wv(n:Bool)(a:List UInt32):Int:=sg n (val a)
abbrev wh(n:Bool)(a:List UInt32):AV:=.agg [.b n,.sl (Zb a) .an]
abbrev ez(z:Int):AV:=wh (decide (z<0)) (ofN z.natAbs)
def sgI(z:Int):Int:=if z<0 then -1 else if z=0 then 0 else 1
theorem zs5(n:Bool)(k:Nat):decide (sg n k<0)=(n&&decide (k≠0)):=by
 cases n
 ·simp[sg]
 ·by_cases h:k=0<;>simp[sg,h];omega
theorem zs6(n:Bool)(k:Nat):(sg n k).natAbs=k:=by cases n<;>simp[sg]
@[simp] theorem zia(z:Int):wv (decide (z<0)) (ofN z.natAbs)=z:=by
 unfold wv;rw[zae];by_cases h:z<0
 ·simp[sg,h];omega
 ·simp[sg,h];omega
theorem z5j(n:Bool)(a:List UInt32):(wv n a).natAbs=val a:=zs6 n _
theorem z09(n:Bool)(k:Nat):ez (sg n k)=wh (n&&decide (k≠0)) (ofN k):=by
 unfold ez;rw[zs5,zs6]
theorem zka(n:Bool)(x y:Nat):sg n (x+y)=sg n x+sg n y:=by cases n<;>simp[sg]<;>omega
theorem zpq{n m:Bool}(h:n≠m){x y:Nat}(hxy:x<y):sg m (y-x)=sg n x+sg m y:=by
 cases n<;>cases m<;>simp[sg]at h ⊢<;>omega
theorem zpr{n m:Bool}(h:n≠m){x y:Nat}(hxy:¬ x<y):sg n (x-y)=sg n x+sg m y:=by
 cases n<;>cases m<;>simp[sg]at h ⊢<;>omega
theorem z5k(n:Bool)(x:Nat):sg (!n) x=- sg n x:=by cases n<;>simp[sg]
theorem zs7(n m:Bool)(x y:Nat):sg (n != m) (x*y)=sg n x*sg m y:=by cases n<;>cases m<;>simp[sg,Int.mul_neg,Yey]
theorem z5l(n:Bool)(x:Nat):sgI (sg n x)=if x=0 then 0 else if n then -1 else 1:=by
 unfold sgI;cases n<;>simp[sg]<;>split<;>(try split)<;>omega
def Zgu(z:Int):List UInt8:=if z<0 then 45::Zbb z.natAbs else Zbb z.natAbs
theorem zps{n:Nat}:∀{k:Nat},n<10^(k+1)→(Zbb n).length≤k+1:=by
 induction n using Nat.strongRecOn with
 | _ n ih=>
  intro k h;by_cases h0:n<10
  ·rw[zep h0];simp
  ·rw[zpp h0];cases k with
   | zero=>simp at h;omega
   | succ k=>
    have:=ih (n/10) (by omega) (k:=k) (Ybd (by rw[Yab,←Y6];exact h));simp;omega
theorem zf9{a:List UInt32}(h:a.length≤1000):(Zbb (val a)).length≤10000:=by
 obtain⟨K,hK⟩:∃K,K=9999:=⟨_,rfl⟩;have h1:=za0 a;have h2:4294967296^a.length≤(10^10)^a.length:=Ydx (by decide) _;rw[←Ydh]at h2;have h3:10^(10*a.length)≤10^(K+1):=Yu (by decide) (by omega);have h4:=zps (k:=K) (Yr h1 (Yc h2 h3));clear h1 h2 h3;omega
theorem zcg{x y:Int}{L:Nat}(hx:(ofN x.natAbs).length≤L)(hy:(ofN y.natAbs).length≤L):(ofN (x+y).natAbs).length≤L+1:=by
 refine zan ?_;have h1:=za0 (ofN x.natAbs);have h2:=za0 (ofN y.natAbs);rw[zae]at h1 h2;have h3:4294967296^(ofN x.natAbs).length≤4294967296^L:=Yu (by decide) hx;have h4:4294967296^(ofN y.natAbs).length≤4294967296^L:=Yu (by decide) hy;rw[Y6];generalize 4294967296^L=p at *
 omega
theorem zkb(x:Int):ofN (-x).natAbs=ofN x.natAbs:=by rw[Int.natAbs_neg]
theorem za6{x y:Int}{L M:Nat}(hx:(ofN x.natAbs).length≤L)(hy:(ofN y.natAbs).length≤M):(ofN (x*y).natAbs).length≤L+M:=by
 refine zan ?_;have h1:=za0 (ofN x.natAbs);have h2:=za0 (ofN y.natAbs);rw[zae]at h1 h2;rw[Yew,Ybh];exact Nat.mul_lt_mul'' (Yr h1 (Yu (by decide) hx)) (Yr h2 (Yu (by decide) hy))
theorem zbw(n:Bool)(a:List UInt32):(ofN (wv n a).natAbs).length≤a.length:=by rw[z5j];exact zad a
def Zny(l:List UInt8):Int:=sg (l.head? = some 45) (rd (if l.head? = some 45 then l.tail else l))
def Zmy(l:List UInt8):Int:=Zkx (if l.head? = some 45 then l.tail else l)
def Zov(l:List UInt8):Int:=if l.head? = some 45 then 1 else 0
end Go.Ab
end
section
namespace Go.Ab
def b55:AX:= (XS [rg 4 (.alloc [(.b false),(.sl [] .nl)])] (XS [mv 5 0,mv 6 5,VM 7 6 true 1,VN 8 6 true 7,VC 9 6 true .gtr 8 0,XW 10 6 9,mv 11 1,rg 12 (.build [(.b false),(.sl [] .nl)] [(0,1,(.t 10)),(1,1,(.t 11))]),XT 2 4 12] (XZ [4])))
def b38:AX:= (XS [XX 1 2 0,rg 2 (.alloc [(.b false),(.sl [] .nl)])] (.seq (.drawT [XF 3 0 1,XO 4 3,XF 5 1 1,XO 6 5,XK1 7 71 6] [XK2 8 55 4 7,XT 2 2 8]) (XZ [2])))
def b40:AX:= (XS [XX 1 2 0,rg 2 (.alloc [(.b false),(.sl [] .nl)])] (.seq (.drawT [XF 3 0 1,XO 4 3,XU 5 4,XF 6 1 1,XO 7 6,XK1 8 71 7] [XK2 9 55 5 8,XT 2 2 9]) (XZ [2])))
def b23:AX:= (XS [XX 2 2 0,XX 3 2 1,rg 4 (.alloc [(.b false),(.sl [] .nl)])] (.seq (XS [XF 7 0 2,XO 8 7,XF 9 0 3,XO 10 9,rg 11 (.eqb false (.t 8) (.t 10))] (XD 11 (.seq (.drawT [XF 12 0 2,XO 13 12,XF 14 1 2,XO 15 14,XF 16 1 3,XO 17 16,rg 18 (.bsl 1 [(.sl [] .nl)] 2 [(0,(.t 15)),(1,(.t 17))]),XK1 19 56 18] [XK2 20 55 13 19,XT 2 4 20]) (XZ [4])) .skip)) (XS [XF 22 1 2,XO 23 22,XF 24 1 3,XO 25 24,XK2 26 57 23 25,mv 21 26,XE 27 21 0,XE 28 21 1,mv 5 27,mv 6 28] (.seq (XS [mv 29 6,XC 30 .lss 29 0] (XD 30 (XS [XF 31 0 3,XO 32 31,mv 33 5,XK2 34 55 32 33,XT 2 4 34] (XZ [4])) .skip)) (XS [XF 35 0 2,XO 36 35,mv 37 5,XK2 38 55 36 37,XT 2 4 38] (XZ [4]))))))
def b25:AX:= (XS [XX 2 2 0,XX 3 2 1,rg 4 (.alloc [(.b false),(.sl [] .nl)])] (.seq (.drawT [XP 5 2 2,XP 6 2 3,XK1 7 40 6] [XK2 8 23 5 7,XT 2 4 8]) (XZ [4])))
def b27:AX:= (XS [XX 2 2 0,XX 3 2 1,rg 4 (.alloc [(.b false),(.sl [] .nl)])] (.seq (.drawT [XF 5 0 2,XO 6 5,XF 7 0 3,XO 8 7,rg 9 (.eqb true (.t 6) (.t 8)),XF 10 1 2,XO 11 10,XF 12 1 3,XO 13 12,XK2 14 60 11 13] [XK2 15 55 9 14,XT 2 4 15]) (XZ [4])))
def b37:AX:= (XS [XX 1 2 0,XL 2 0] (.seq (.block 0 (XS [XF 4 1 1,XO 5 4,XK1 6 70 5,mv 3 6] (XD 3 (XS [XL 2 0] (XZ [2])) (XS [XF 8 0 1,XO 9 8,mv 7 9] (XD 7 (XS [XA 2 (.i .i64 (-1))] (XZ [2])) .skip))))) (XS [XL 2 1] (XZ [2]))))
def b41:AX:= (XS [rg 2 (.alloc [(.b false),(.sl [] .nl)])] (.seq (XS [mv 3 0,XC 4 .lss 3 0] (XD 4 (XS [mv 5 0,rg 6 (.conv .u64 (.t 5)),rg 7 (.un .neg (.t 6)),XK1 8 72 7,rg 9 (.call 55 [(.c (.b true)),(.t 8)]),XT 2 2 9] (XZ [2])) .skip)) (XS [mv 10 0,rg 11 (.conv .u64 (.t 10)),XK1 12 72 11,rg 13 (.call 55 [(.c (.b false)),(.t 12)]),XT 2 2 13] (XZ [2]))))
def b36:AX:= (XS [XX 2 2 0,XX 3 2 1,XL 4 0] (XS [XP 5 2 2,XP 6 2 3,XK2 7 25 5 6,XK1 8 37 7,mv 4 8] (XZ [4])))
def b34:AX:= (XS [XX 1 2 0,XA 2 (.s [])] (XS [XF 4 1 1,XO 5 4,XK1 6 68 5,mv 3 6] (.seq (XS [XP 7 2 1,XK1 8 37 7,XC 9 .lss 8 0] (XD 9 (XS [mv 10 3,rg 11 (.bin .add (.c (.s [45])) (.t 10)),mv 2 11] (XZ [2])) .skip)) (XS [mv 12 3,mv 2 12] (XZ [2])))))
def row55:AFx:=XrC 2 13 4 2 b55
def row38:AFx:=XrC 1 9 2 2 b38
def row40:AFx:=XrC 1 10 2 2 b40
def row23:AFx:=XrC 2 39 4 2 b23
def row25:AFx:=XrC 2 9 4 2 b25
def row27:AFx:=XrC 2 16 4 2 b27
def row37:AFx:=XrV 1 10 2 b37
def row41:AFx:=XrC 1 14 2 2 b41
def row36:AFx:=XrV 2 9 4 b36
def row34:AFx:=XrV 1 13 2 b34
class Zf (T:Tbl):Prop where
 h55:T 55=some row55
 h38:T 38=some row38
 h40:T 40=some row40
 h23:T 23=some row23
 h25:T 25=some row25
 h27:T 27=some row27
 h37:T 37=some row37
 h41:T 41=some row41
 h36:T 36=some row36
 h34:T 34=some row34
section
variable{T:Tbl}[Zf T]{d:Option Nat}{st:St}
@[simp] theorem x55:XRx T 55:=xrx Zf.h55
@[simp] theorem x38:XRx T 38:=xrx Zf.h38
@[simp] theorem x40:XRx T 40:=xrx Zf.h40
@[simp] theorem y40{e:Env}{h:Heap}{older:List Heap}(args:List Opd):opD (orc T) T (.call 40 args) e h older=dR (Za T 40 ((args.map (ev e.get)).map (wkIf false))) (args.map (ev e.get)):=zaf Zf.h40
@[simp] theorem x23:XRx T 23:=xrx Zf.h23
@[simp] theorem y23{e:Env}{h:Heap}{older:List Heap}(args:List Opd):opD (orc T) T (.call 23 args) e h older=dR (Za T 23 ((args.map (ev e.get)).map (wkIf false))) (args.map (ev e.get)):=zaf Zf.h23
@[simp] theorem x25:XRx T 25:=xrx Zf.h25
@[simp] theorem y25{e:Env}{h:Heap}{older:List Heap}(args:List Opd):opD (orc T) T (.call 25 args) e h older=dR (Za T 25 ((args.map (ev e.get)).map (wkIf false))) (args.map (ev e.get)):=zaf Zf.h25
@[simp] theorem x27:XRx T 27:=xrx Zf.h27
@[simp] theorem x37:XRx T 37:=xrx Zf.h37
@[simp] theorem x41:XRx T 41:=xrx Zf.h41
@[simp] theorem x36:XRx T 36:=xrx Zf.h36
@[simp] theorem x34:XRx T 34:=xrx Zf.h34
end
end Go.Ab
end
section
namespace Go.Ab
def l198_0:AX:= (.note (.seq (XS [mv 5 1,rg 6 (.bin .neq (.t 5) (.c (u64 0)))] (XQ 6 0)) (.block 1 (.drawT [mv 7 1,mv 8 0,mv 9 1,XB 10 .rem 8 9,mv 0 7] [mv 1 10]))) (XG [0,1]))
def b198:AX:= (XS [XA 4 (u64 0)] (.seq (.lp 0 (XG [0,1]) l198_0 (XG [0])) (XS [mv 11 0,mv 4 11] (XZ [4]))))
def l199_0:AX:= (.note (.seq (XS [mv 19 1,XN 20 19,XC 21 .gtr 20 2] (XQ 21 0)) (.block 1 (XS [mv 23 0,mv 24 1,XK2 25 62 23 24,mv 22 25,XE 26 22 0,XE 27 22 1,XE 28 22 2,mv 5 26,mv 6 27,mv 7 28] (.reg [mv 29 1,mv 30 6,mv 0 29,mv 1 30])))) (XG [0,1]))
def b199:AX:= (XS [XA 4 (.sl [] .nl)] (XS [mv 15 0,XK1 16 71 15,mv 17 1,XK1 18 71 17,mv 0 16,mv 1 18] (.seq (.lp 0 (XG [0,1]) l199_0 (XG [0,1])) (.seq (XS [mv 31 1,XN 32 31,XC 33 .eql 32 0] (XD 33 (XS [mv 34 0,mv 4 34] (XZ [4])) .skip)) (XS [mv 36 0,mv 37 1,XK2 38 62 36 37,mv 35 38,XE 39 35 0,XE 40 35 1,XE 41 35 2,mv 8 39,mv 9 40,mv 10 41] (XS [mv 43 1,XK1 44 73 43,mv 42 44,XE 45 42 0,XE 46 42 1,mv 11 45,mv 12 46] (XS [mv 48 9,XK1 49 73 48,mv 47 49,XE 50 47 0,XE 51 47 1,mv 13 50,mv 14 51] (XS [mv 52 11,mv 53 13,XK2 54 198 52 53,XK1 55 72 54,mv 4 55] (XZ [4])))))))))
def b200:AX:= (XS [XJ 2] (XS [mv 3 0,XN 4 3,XC 5 .eql 4 1,mv 6 5,VM 7 6 true 0,gd 8 6 true (.iad 1 (.t 7) (.c (.i .i64 0))),VO 9 6 true 8,gd 10 6 true (.bin .eql (.t 9) (.c (u32 1))),XW 11 6 10,mv 2 11] (XZ [2])))
def b201:AX:= (XS [XA 4 (.sl [] .nl),XA 5 (.sl [] .nl)] (XS [mv 7 0,mv 8 1,XK2 9 199 7 8,mv 6 9] (.seq (.block 0 (XS [mv 11 6,XN 12 11,XC 13 .eql 12 0,mv 10 13] (XD 10 (XS [XA 4 (.sl [] .nl),XA 5 (.sl [] .nl)] (XZ [4,5])) (XS [mv 15 6,XK1 16 200 15,mv 14 16] (XD 14 (XS [mv 17 0,XK1 18 71 17,mv 19 1,XK1 20 71 19,mv 4 18,mv 5 20] (XZ [4,5])) .skip))))) (XS [mv 22 0,mv 23 6,XK2 24 62 22 23,mv 21 24,XE 25 21 0,XE 26 21 1,XE 27 21 2,mv 4 25] (XS [mv 29 1,mv 30 6,XK2 31 62 29 30,mv 28 31,XE 32 28 0,XE 33 28 1,XE 34 28 2,mv 5 32] (XS [mv 35 4,mv 36 5,mv 4 35,mv 5 36] (XZ [4,5])))))))
def row198:AFx:=XrV 2 12 4 b198
def row199:AFx:=XrV 2 56 4 b199
def row200:AFx:=XrV 1 12 2 b200
def row201:AFx:=⟨2,37,[.t 4,.t 5],b201,none,false⟩
class Zl (T:Tbl):Prop where
 h198:T 198=some row198
 h199:T 199=some row199
 h200:T 200=some row200
 h201:T 201=some row201
section
variable{T:Tbl}[Zl T]{d:Option Nat}{st:St}{xs:List AV}{ps:List Opd}{e:Env}{h:Heap}{ol:List Heap}
@[simp] theorem x198:XRx T 198:=xrx Zl.h198
@[simp] theorem x199:XRx T 199:=xrx Zl.h199
@[simp] theorem x200:XRx T 200:=xrx Zl.h200
@[simp] theorem x201:XRx T 201:=xrx Zl.h201
end
end Go.Ab
end
section
namespace Go.Ab
def b202:AX:= (XS [XX 2 2 0,XM 4] (XS [XF 8 1 2,XO 9 8,mv 10 1,XK2 11 201 9 10,mv 7 11,XE 12 7 0,XE 13 7 1,mv 5 12,mv 6 13] (XS [XF 14 0 2,XO 15 14,mv 16 5,rg 17 (.build [(.b false),(.sl [] .nl)] [(0,1,(.t 15)),(1,1,(.t 16))]),XK1 18 38 17,mv 19 6,rg 20 (.build [(.b false),(.sl [] .nl),(.sl [] .nl)] [(0,2,(.t 18)),(2,1,(.t 19))]),XT 3 4 20] (XZ [4]))))
def b203:AX:= (XS [XX 1 3 0,rg 2 (.alloc [(.b false),(.sl [] .nl)]),XA 3 (.sl [] .nl)] (.seq (XS [XF 4 2 1,XO 5 4,XK1 6 70 5] (XD 6 (XS [rg 7 (.build [(.b false),(.sl [] .nl)] []),rg 8 (.call 72 [(.c (u64 1))]),XT 2 2 7,mv 3 8] (XZ [2,3])) .skip)) (.seq (.draw [⟨XF 9 0 1,0,0⟩,⟨XP 10 2 9,0,0⟩,⟨XF 11 2 1,0,1⟩,⟨XO 12 11,0,1⟩,⟨XT 2 2 10,0,1⟩,⟨mv 3 12,1,1⟩]) (XZ [2,3]))))
def b205:AX:= (XS [XM 2] (XS [mv 3 0,XK1 4 41 3,rg 5 (.call 72 [(.c (u64 1))]),rg 6 (.build [(.b false),(.sl [] .nl),(.sl [] .nl)] [(0,2,(.t 4)),(2,1,(.t 5))]),XT 3 2 6] (XZ [2])))
def b207:AX:= (XS [XX 1 3 0,XM 2] (XS [XP 3 3 1,XK1 4 203 3,XE 5 4 0,XE 6 4 1,XK2 7 202 5 6,XT 3 2 7] (XZ [2])))
def b209:AX:= (XS [XX 1 3 0,XL 2 0] (XS [XP 6 3 1,XK1 7 203 6,mv 5 7,XE 8 5 0,XE 9 5 1,rg 3 (.alloc [(.b false),(.sl [] .nl)]),XT 2 3 8,mv 4 9] (XS [XP 10 2 3,XK1 11 37 10,mv 2 11] (XZ [2]))))
def b210:AX:= (XS [XX 2 2 0,rg 4 (.alloc [(.b false),(.sl [] .nl)])] (XS [XP 5 2 2,mv 6 1,rg 7 (.build [(.b false),(.sl [] .nl)] [(1,1,(.t 6))]),XK2 8 27 5 7,XT 2 4 8] (XZ [4])))
def b211:AX:= (XS [XX 2 3 0,XX 3 3 1,XL 4 0] (XS [XP 10 3 2,XK1 11 203 10,mv 9 11,XE 12 9 0,XE 13 9 1,rg 5 (.alloc [(.b false),(.sl [] .nl)]),XT 2 5 12,mv 6 13] (XS [XP 15 3 3,XK1 16 203 15,mv 14 16,XE 17 14 0,XE 18 14 1,rg 7 (.alloc [(.b false),(.sl [] .nl)]),XT 2 7 17,mv 8 18] (.seq (.drawT [XP 19 2 5,mv 20 8,XK2 21 210 19 20,XP 22 2 7,mv 23 6] [XK2 24 210 22 23,XK2 25 36 21 24,mv 4 25]) (XZ [4])))))
def b212:AX:= (XS [XX 2 3 0,XX 3 3 1,XJ 4] (XS [XP 5 3 2,XP 6 3 3,XK2 7 211 5 6,XC 8 .eql 7 0,mv 4 8] (XZ [4])))
def b213:AX:= (XS [XX 1 3 0,XM 2] (XS [XP 4 3 1,XK1 5 207 4,XM 3,XT 3 3 5] (XS [XF 6 0 3,XP 7 2 6,XK1 8 40 7,XF 9 0 3,XT 2 9 8] (XS [XP 10 3 3,XT 3 2 10] (XZ [2])))))
def b215:AX:= (XS [XX 2 3 0,XX 3 3 1,XM 4] (XS [XP 10 3 2,XK1 11 203 10,mv 9 11,XE 12 9 0,XE 13 9 1,rg 5 (.alloc [(.b false),(.sl [] .nl)]),XT 2 5 12,mv 6 13] (XS [XP 15 3 3,XK1 16 203 15,mv 14 16,XE 17 14 0,XE 18 14 1,rg 7 (.alloc [(.b false),(.sl [] .nl)]),XT 2 7 17,mv 8 18] (.seq (.drawT [XP 19 2 5,mv 20 8,XK2 21 210 19 20,XP 22 2 7,mv 23 6,XK2 24 210 22 23,XK2 25 23 21 24,mv 26 6,mv 27 8] [XK2 28 60 26 27,XK2 29 202 25 28,XT 3 4 29]) (XZ [4])))))
def b216:AX:= (XS [XX 2 3 0,XX 3 3 1,XM 4] (XS [XP 10 3 2,XK1 11 203 10,mv 9 11,XE 12 9 0,XE 13 9 1,rg 5 (.alloc [(.b false),(.sl [] .nl)]),XT 2 5 12,mv 6 13] (XS [XP 15 3 3,XK1 16 203 15,mv 14 16,XE 17 14 0,XE 18 14 1,rg 7 (.alloc [(.b false),(.sl [] .nl)]),XT 2 7 17,mv 8 18] (.seq (.drawT [XP 19 2 5,mv 20 8,XK2 21 210 19 20,XP 22 2 7,mv 23 6,XK2 24 210 22 23,XK2 25 25 21 24,mv 26 6,mv 27 8] [XK2 28 60 26 27,XK2 29 202 25 28,XT 3 4 29]) (XZ [4])))))
def b217:AX:= (XS [XX 2 3 0,XX 3 3 1,XM 4] (XS [XP 10 3 2,XK1 11 203 10,mv 9 11,XE 12 9 0,XE 13 9 1,rg 5 (.alloc [(.b false),(.sl [] .nl)]),XT 2 5 12,mv 6 13] (XS [XP 15 3 3,XK1 16 203 15,mv 14 16,XE 17 14 0,XE 18 14 1,rg 7 (.alloc [(.b false),(.sl [] .nl)]),XT 2 7 17,mv 8 18] (XS [XP 19 2 5,XP 20 2 7,XK2 21 27 19 20,mv 22 6,mv 23 8,XK2 24 60 22 23,XK2 25 202 21 24,XT 3 4 25] (XZ [4])))))
def b218:AX:= (XS [XX 2 3 0,XX 3 3 1,XM 4,XJ 5] (XS [XP 12 3 2,XK1 13 203 12,mv 11 13,XE 14 11 0,XE 15 11 1,rg 6 (.alloc [(.b false),(.sl [] .nl)]),XT 2 6 14,mv 7 15] (XS [XP 17 3 3,XK1 18 203 17,mv 16 18,XE 19 16 0,XE 20 16 1,rg 8 (.alloc [(.b false),(.sl [] .nl)]),XT 2 8 19,mv 9 20] (.seq (XS [XP 21 2 8,XK1 22 37 21,XC 23 .eql 22 0] (XD 23 (XS [rg 24 (.call 205 [(.c (.i .i64 0))]),XT 3 4 24,XJ 5] (XZ [4,5])) .skip)) (XS [XP 25 2 6,mv 26 9,XK2 27 210 25 26,rg 10 (.alloc [(.b false),(.sl [] .nl)]),XT 2 10 27] (XS [XF 28 0 10,XO 29 28,XF 30 0 8,XO 31 30,rg 32 (.eqb true (.t 29) (.t 31)),XF 33 0 10,XT 1 33 32] (.seq (.drawT [XP 34 2 10,mv 35 7,XF 36 1 8,XO 37 36,XK2 38 60 35 37] [XK2 39 202 34 38,XT 3 4 39,XA 5 (.b true)]) (XZ [4,5]))))))))
def row202:AFx:=XrC 2 21 4 3 b202
def row203:AFx:=⟨1,13,[.cell 2 (some 2),.t 3],b203,none,false⟩
def row205:AFx:=XrC 1 7 2 3 b205
def row207:AFx:=XrC 1 8 2 3 b207
def row209:AFx:=XrV 1 12 2 b209
def row210:AFx:=XrC 2 9 4 2 b210
def row211:AFx:=XrV 2 26 4 b211
def row212:AFx:=XrV 2 9 4 b212
def row213:AFx:=XrC 1 11 2 3 b213
def row215:AFx:=XrC 2 30 4 3 b215
def row216:AFx:=XrC 2 30 4 3 b216
def row217:AFx:=XrC 2 26 4 3 b217
def row218:AFx:=⟨2,40,[.cell 4 (some 3),.t 5],b218,none,false⟩
class Zp (T:Tbl):Prop where
 h202:T 202=some row202
 h203:T 203=some row203
 h205:T 205=some row205
 h207:T 207=some row207
 h209:T 209=some row209
 h210:T 210=some row210
 h211:T 211=some row211
 h212:T 212=some row212
 h213:T 213=some row213
 h215:T 215=some row215
 h216:T 216=some row216
 h217:T 217=some row217
 h218:T 218=some row218
section
variable{T:Tbl}[Zp T]{d:Option Nat}{st:St}{xs:List AV}{ps:List Opd}{e:Env}{h:Heap}{ol:List Heap}
@[simp] theorem x202:XRx T 202:=xrx Zp.h202
@[simp] theorem x203:XRx T 203:=xrx Zp.h203
@[simp] theorem x205:XRx T 205:=xrx Zp.h205
@[simp] theorem y205:XRy T 205:=xry Zp.h205
@[simp] theorem x207:XRx T 207:=xrx Zp.h207
@[simp] theorem y207:XRy T 207:=xry Zp.h207
@[simp] theorem x209:XRx T 209:=xrx Zp.h209
@[simp] theorem x210:XRx T 210:=xrx Zp.h210
@[simp] theorem y210:XRy T 210:=xry Zp.h210
@[simp] theorem x211:XRx T 211:=xrx Zp.h211
@[simp] theorem x212:XRx T 212:=xrx Zp.h212
@[simp] theorem x213:XRx T 213:=xrx Zp.h213
@[simp] theorem y213:XRy T 213:=xry Zp.h213
@[simp] theorem x215:XRx T 215:=xrx Zp.h215
@[simp] theorem y215:XRy T 215:=xry Zp.h215
@[simp] theorem x216:XRx T 216:=xrx Zp.h216
@[simp] theorem y216:XRy T 216:=xry Zp.h216
@[simp] theorem x217:XRx T 217:=xrx Zp.h217
@[simp] theorem y217:XRy T 217:=xry Zp.h217
@[simp] theorem x218:XRx T 218:=xrx Zp.h218
@[simp] theorem y218:XRy T 218:=xry Zp.h218
end
end Go.Ab
end
section
namespace Go.Ab
class Ze6 (T:Tbl):Prop where
end Go.Ab
end
section
namespace Go.Ab
def b208:AX:= (XS [XX 1 3 0,XJ 2] (XS [XP 4 3 1,XK1 5 207 4,XM 3,XT 3 3 5] (XS [XF 6 0 1,XF 7 0 6,XO 8 7,XF 9 0 3,XF 10 0 9,XO 11 10,rg 12 (.eqb false (.t 8) (.t 11)),mv 13 12,VF 14 13 true 0 1,VF 15 13 true 1 14,VO 16 13 true 15,VN 17 13 true 16,VF 18 13 true 0 3,VF 19 13 true 1 18,VO 20 13 true 19,VN 21 13 true 20,VB 22 13 true .eql 17 21,XW 23 13 22,mv 24 23,VF 25 24 true 2 1,VO 26 24 true 25,VN 27 24 true 26,VF 28 24 true 2 3,VO 29 24 true 28,VN 30 24 true 29,VB 31 24 true .eql 27 30,XW 32 24 31,mv 33 32,VF 34 33 true 0 1,VF 35 33 true 1 34,VO 36 33 true 35,VF 37 33 true 0 3,VF 38 33 true 1 37,VO 39 33 true 38,gd 40 33 true (.call 87 [(.t 36),(.t 39)]),VC 41 33 true .eql 40 0,XW 42 33 41,mv 43 42,VF 44 43 true 2 1,VO 45 43 true 44,VF 46 43 true 2 3,VO 47 43 true 46,gd 48 43 true (.call 87 [(.t 45),(.t 47)]),VC 49 43 true .eql 48 0,XW 50 43 49,mv 2 50] (XZ [2]))))
def l219_0:AX:= (.note (XS [XB 9 .lss 8 7] (.seq (XQ 9 0) (.seq (.block 1 (.reg [mv 10 5,mv 11 0,XK2 12 60 10 11,mv 5 12])) (.reg [XC 13 .add 8 1,mv 8 13])))) (XG [0,5,7,8]))
def b219:AX:= (XS [XA 4 (.sl [] .nl)] (XS [rg 6 (.call 72 [(.c (u64 1))]),mv 5 6] (.seq (XS [mv 7 1,XL 8 0] (.lp 0 (XG [0,5,7,8]) l219_0 (XG [5]))) (XS [mv 14 5,mv 4 14] (XZ [4])))))
def b220:AX:= (XS [XX 2 3 0,XM 4,XJ 5] (.seq (XS [mv 10 1,rg 11 (.bin .lss (.t 10) (.c (.i .i64 (-8)))),mv 12 11,VM 13 12 false 1,VC 14 12 false .gtr 13 8,XY 15 12 14,mv 16 15,VM 17 16 false 1,VC 18 16 false .lss 17 0,VM 19 16 false 18,VP 20 19 true 3 2,gd 21 19 true (.call 209 [(.t 20)]),VC 22 19 true .eql 21 0,gd 23 16 false (.pick (.t 19) (.t 22) (.c (.b false))),XY 24 16 23] (XD 24 (XS [rg 25 (.call 205 [(.c (.i .i64 0))]),XT 3 4 25,XJ 5] (XZ [4,5])) .skip)) (XS [XP 26 3 2,XK1 27 207 26,XM 6,XT 3 6 27] (XS [mv 28 1,mv 29 1,rg 30 (.un .neg (.t 29)),rg 31 (.mm true [(.t 28),(.t 30)]),mv 7 31] (.seq (.drawT [XF 32 0 6,XF 33 1 32,XO 34 33,mv 35 7,XK2 36 219 34 35,XF 37 2 6,XO 38 37,mv 39 7] [XK2 40 219 38 39,mv 8 36,mv 9 40]) (.seq (XS [mv 41 1,XC 42 .lss 41 0] (XD 42 (.reg [mv 43 9,mv 44 8,mv 8 43,mv 9 44]) .skip)) (XS [XF 45 0 6,XF 46 0 45,XO 47 46,mv 48 47,VM 49 48 true 7,VC 50 48 true .rem 49 2,VC 51 48 true .eql 50 1,XW 52 48 51,mv 53 8,rg 54 (.build [(.b false),(.sl [] .nl)] [(0,1,(.t 52)),(1,1,(.t 53))]),XK1 55 38 54,mv 56 9,rg 57 (.build [(.b false),(.sl [] .nl),(.sl [] .nl)] [(0,2,(.t 55)),(2,1,(.t 56))]),XT 3 4 57,XA 5 (.b true)] (XZ [4,5]))))))))
def row208:AFx:=XrV 1 51 2 b208
def row219:AFx:=XrV 2 15 4 b219
def row220:AFx:=⟨2,58,[.cell 4 (some 3),.t 5],b220,none,false⟩
class Zah (T:Tbl):Prop where
 h208:T 208=some row208
 h219:T 219=some row219
 h220:T 220=some row220
section
variable{T:Tbl}[Zah T]{d:Option Nat}{st:St}{xs:List AV}{ps:List Opd}{e:Env}{h:Heap}{ol:List Heap}
@[simp] theorem x208:XRx T 208:=xrx Zah.h208
@[simp] theorem x219:XRx T 219:=xrx Zah.h219
@[simp] theorem y219:XRy T 219:=xry Zah.h219
@[simp] theorem x220:XRx T 220:=xrx Zah.h220
end
end Go.Ab
end
section
namespace Go.Ab
def b223:AX:= (XS [XX 1 3 0,XL 2 0] (.seq (.drawT [XF 3 0 1,XF 4 1 3,XO 5 4,XK1 6 356 5,XF 7 2 1,XO 8 7] [XK1 9 356 8,XB 10 .add 6 9,mv 2 10]) (XZ [2])))
def row223:AFx:=XrV 1 11 2 b223
class Za4 (T:Tbl):Prop where
 h223:T 223=some row223
section
variable{T:Tbl}[Za4 T]{d:Option Nat}{st:St}{xs:List AV}{ps:List Opd}{e:Env}{h:Heap}{ol:List Heap}
@[simp] theorem x223:XRx T 223:=xrx Za4.h223
end
end Go.Ab
end
section
namespace Go.Ab
def b356:AX:= (XS [XL 2 0] (XS [mv 4 0,XK1 5 71 4,mv 0 5] (XS [mv 6 0,XN 7 6,mv 3 7] (.seq (XS [mv 8 3,XC 9 .eql 8 0] (XD 9 (XS [XL 2 0] (XZ [2])) .skip)) (XS [mv 10 3,XC 11 .sub 10 1,rg 12 (.bin .mul (.c (.i .i64 32)) (.t 11)),mv 13 0,mv 14 3,XC 15 .sub 14 1,XI 16 1 13 15,XO 17 16,XK1 18 91 17,XB 19 .add 12 18,mv 2 19] (XZ [2]))))))
def row356:AFx:=XrV 1 20 2 b356
class Zdh (T:Tbl):Prop where
 h356:T 356=some row356
section
variable{T:Tbl}[Zdh T]{d:Option Nat}{st:St}{xs:List AV}{ps:List Opd}{e:Env}{h:Heap}{ol:List Heap}
@[simp] theorem x356:XRx T 356:=xrx Zdh.h356
@[simp] theorem y356:XRy T 356:=xry Zdh.h356
end
end Go.Ab
end
section
namespace Go.Ab
def isD(c:UInt8):Bool:=decide (48≤c.toNat)&&decide (c.toNat≤57)
def isL(c:UInt8):Bool:=decide (97≤c.toNat)&&decide (c.toNat≤122) || decide (65≤c.toNat)&&decide (c.toNat≤90) || decide (c.toNat=95)
def Zio:List UInt8:=[43,45,42,47,94,40,41,91,93,44,59,61]
def isS(c:UInt8):Bool:=Zio.contains c
def Zi(c:UInt8):Nat:=if isD c then 1 else if isL c then 2 else if isS c then 3 else 0
def Zbd(k:Nat)(c:UInt8):Bool:=decide (k=1)&&isD c || decide (k=2)&&(isL c || isD c)
def Zau(k:Nat):Nat:=if k=1 then 60 else if k=2 then 12 else 1
theorem ze8(k:Nat):1≤Zau k:=by
 grind[Zau]
def isB(c:UInt8):Bool:=decide (c=32) || decide (c=9) || decide (c=10) || decide (c=13)
abbrev Wd:=Nat×List UInt8×Nat
def Zbi:Bool→List UInt8→Nat
 | _,[]=>0
 | note,c::r=>
  let note':=if c=35 then true else if c=10 then false else note
  if (note' || isB c)=true then 1+Zbi note' r else 0
theorem ztb:∀(note:Bool) (l:List UInt8),Zbi note l≤l.length
 | _,[]=>Yg _
 | note,c::r=>by
  by_cases h:((if c=35 then true else if c=10 then false else note) || isB c)=true
  ·have:=ztb (if c=35 then true else if c=10 then false else note) r;simp only[Zbi,h,if_true,Yn];omega
  ·simp only[Zbi,h,if_false,Y2,Yv]
def Z8(k:Nat)(r:List UInt8):Nat:=1+(r.takeWhile (Zbd k)).length
def Zdy(l:List UInt8)(i:Nat)(acc:List Wd):Except Nat (List Wd):=
 match l with
 | []=>.ok acc
 | c::r=>
  if Zi c=0 then .error i
  else if Zau (Zi c)<Z8 (Zi c) r then .error (i+Zau (Zi c))
  else Zdy ((r.drop (Z8 (Zi c) r-1)).drop (Zbi false (r.drop (Z8 (Zi c) r-1)))) (i+Z8 (Zi c) r+Zbi false (r.drop (Z8 (Zi c) r-1)))
   (acc++[(Zi c,(c::r).take (Z8 (Zi c) r),i)])
termination_by l.length
decreasing_by grind
theorem zhv(c:UInt8)(r:List UInt8)(i:Nat)(acc:List Wd):Zdy (c::r) i acc =
  if Zi c=0 then .error i
  else if Zau (Zi c)<Z8 (Zi c) r then .error (i+Zau (Zi c))
  else Zdy ((r.drop (Z8 (Zi c) r-1)).drop (Zbi false (r.drop (Z8 (Zi c) r-1)))) (i+Z8 (Zi c) r+Zbi false (r.drop (Z8 (Zi c) r-1)))
   (acc++[(Zi c,(c::r).take (Z8 (Zi c) r),i)]):=by rw[Zdy]
theorem zg4(i:Nat)(acc:List Wd):Zdy [] i acc=.ok acc:=by rw[Zdy]
def Zdj(c:UInt8)(i:Nat)(acc:List Wd):List Wd:=
 match acc.getLast? with
 | some (k,t,a)=>if a+t.length=i∧Zbd k c=true then acc.dropLast++[(k,t++[c],a)] else acc++[(Zi c,[c],i)]
 | none=>acc++[(Zi c,[c],i)]
def Zfg(acc:List Wd):Bool:=
 match acc.getLast? with
 | some (k,t,_)=>decide (k=0) || decide (Zau k<t.length)
 | none=>false
def Zfi:List UInt8→Nat→Bool→List Wd→Except Nat (List Wd)
 | [],_,_,acc=>.ok acc
 | c::r,i,note,acc=>
  let note':=if c=35 then true else if c=10 then false else note
  if (note' || isB c)=true then Zfi r (i+1) note' acc
  else if Zfg (Zdj c i acc)=true then .error i
  else Zfi r (i+1) note' (Zdj c i acc)
theorem zkg:∀(l:List UInt8) (i:Nat) (note:Bool) (acc:List Wd),Zfi l i note acc=Zfi (l.drop (Zbi note l)) (i+Zbi note l) false acc
 | [],_,_,_=>rfl
 | c::r,i,note,acc=>by
  by_cases h:((if c=35 then true else if c=10 then false else note) || isB c)=true
  ·have ih:=zkg r (i+1) (if c=35 then true else if c=10 then false else note) acc;simp only[Zfi,Zbi,h,if_true];rw[ih,Ybi 1,Ydw,Ya0 i 1,Ybi 1]
  ·have h':=h;simp only[Ycc,not_or,Yb5]at h';obtain⟨h1,h2⟩:=h';have h3:note=false:=by
    by_cases h35:c=35
    ·simp[h35]at h1
    ·by_cases h10:c=10
     ·subst h10;simp[isB]at h2
     ·simpa[h35,h10]using h1
   subst h3;simp only[Zbi,h,if_false,Y3,Y4,Y2]
theorem z4p{k:Nat}{c:UInt8}(h:Zbd k c=true):(isL c=true∨isD c=true):=by
 grind[Zbd]
theorem zac5{c:UInt8}{n:Nat}(h:c.toNat≠n)(hn:n<256):c≠UInt8.ofNat n:=fun e=>h (by simp_all)
theorem zv4{c:UInt8}(h:isL c=true∨isD c=true):c≠35∧c≠10∧isB c=false:=by
 have h1:48≤c.toNat:=by
  grind[isL,isD]
 have e (n:Nat) (hn:n<48):c≠UInt8.ofNat n:=zac5 (by omega) (by omega);refine⟨e 35 (by decide),e 10 (by decide),?_⟩;simp only[isB,Yb9,decide_eq_false_iff_not];exact⟨⟨⟨e 32 (by decide),e 9 (by decide)⟩,e 10 (by decide)⟩,e 13 (by decide)⟩
theorem ztc(k a:Nat)(acc:List Wd)(hk:k≠0):∀(r t:List UInt8),t.length≤Zau k →
  Zfi r (a+t.length) false (acc++[(k,t,a)]) =
   if Zau k<t.length+(r.takeWhile (Zbd k)).length then .error (a+Zau k)
   else Zfi (r.drop (r.takeWhile (Zbd k)).length) (a+t.length+(r.takeWhile (Zbd k)).length) false (acc++[(k,t++r.takeWhile (Zbd k),a)])
 | [],t,ht=>by
  rw[if_neg (by simp_all)];simp
 | c::r,t,ht=>by
  by_cases hc:Zbd k c=true
  ·obtain⟨h1,h2,h3⟩:=zv4 (z4p hc);rw[Yb3 hc];have hs:Zdj c (a+t.length) (acc++[(k,t,a)])=acc++[(k,t++[c],a)]:=by
    simp[Zdj,hc]
   have hb:Zfg (acc++[(k,t++[c],a)])=decide (Zau k<t.length+1):=by
    simp[Zfg,hk]
   conv=>lhs;unfold Zfi
   simp only[h1,h2,h3,if_false,Bool.or_self,Y2,hs,hb,decide_eq_true_eq];by_cases hm:Zau k<t.length+1
   ·grind
   ·have ih:=ztc k a acc hk r (t++[c]) (by grind)
    grind
  grind[List.takeWhile_cons_of_neg]
theorem zpv(l:List UInt8):∀c r,l.drop (Zbi false l)=c::r→c≠35∧isB c=false:=by
 have key:∀(l:List UInt8) (note:Bool) c r,l.drop (Zbi note l)=c::r→c≠35∧isB c=false:=by
  intro l
  induction l with
  | nil=>grind
  | cons x l ih=>
   grind[Zbi]
 grind
theorem z1f(p:UInt8→Bool):∀r:List UInt8,r.take (r.takeWhile p).length=r.takeWhile p
 | []=>rfl
 | c::r=>by
  by_cases h:p c=true
  ·rw[Yb3 h,Yn,Ycj,z1f p r]
  ·rw[Ycw h];rfl
theorem z1g(p:UInt8→Bool):∀r:List UInt8,r.drop (r.takeWhile p).length=r.dropWhile p
 | []=>rfl
 | c::r=>by
  by_cases h:p c=true
  ·rw[Yb3 h,Yn,Ydw,z1g p r,Ydz h]
  ·rw[Ycw h,Yd0 h];rfl
def Zo4(acc:List Wd)(i:Nat)(l:List UInt8):Prop:=∀k t a,acc.getLast? = some (k,t,a)→a+t.length=i→∀c r,l=c::r→Zbd k c=false
theorem z1h:∀(n:Nat) (l:List UInt8) (i:Nat) (acc:List Wd),l.length=n→Zo4 acc i l→(∀c r,l=c::r→c≠35∧isB c=false) →
  Zfi l i false acc=Zdy l i acc:=by
 intro n
 induction n using Nat.strongRecOn with
 | _ n ih=>
  intro l i acc hl hf hp;cases l with
  | nil=>unfold Zdy;rfl
  | cons c r=>
   obtain⟨h1,h2⟩:=hp c r rfl;have h3:c≠10:=by intro h;subst h;simp[isB]at h2
   have hs:Zdj c i acc=acc++[(Zi c,[c],i)]:=by
    unfold Zdj;split
    ·rename_i k t a hlast;rw[if_neg]
     rintro⟨h4,h5⟩
     rw[hf k t a hlast h4 c r rfl]at h5
     grind
    ·rfl
   have hb:Zfg (acc++[(Zi c,[c],i)])=decide (Zi c=0):=by
    grind[ze8,Zfg]
   conv=>lhs;unfold Zfi
   conv=>rhs;unfold Zdy
   simp only[h1,h2,h3,if_false,Bool.or_self,Y2,hs,hb,decide_eq_true_eq];by_cases hk:Zi c=0
   ·grind
   ·simp only[hk,if_false];have hmost:=ze8 (Zi c);have hrun:=ztc (Zi c) i acc hk r [c] (by omega);simp only[Yn,Yav,Yan,List.singleton_append]at hrun;rw[hrun];unfold Z8;by_cases hm:Zau (Zi c)<1+(List.takeWhile (Zbd (Zi c)) r).length
    ·rw[if_pos hm,if_pos hm]
    ·rw[if_neg hm,if_neg hm];obtain⟨x,hx⟩:∃x,x=(List.takeWhile (Zbd (Zi c)) r).length:=⟨_,rfl⟩;have htk:r.take x=List.takeWhile (Zbd (Zi c)) r:=by rw[hx,z1f]
     rw[←hx,zkg,Ybi 1 x,Ycj,htk,Ya0 i 1 x,Ybi 1 x];refine ih _ ?_ _ _ _ rfl ?_ ?_
     ·grind
     ·intro k t a hlast hat c' r' hl';simp only[List.getLast?_append,List.getLast?_singleton,Option.some_or,Option.some.injEq,Prod.mk.injEq]at hlast;obtain⟨rfl,rfl,rfl⟩:=hlast;simp only[Yn,←hx]at hat
      grind[z1g,List.head?_dropWhile_not]
     ·exact zpv _
theorem z1i(l:List UInt8):Zfi l 0 false []=Zdy (l.drop (Zbi false l)) (Zbi false l) []:=by
 rw[zkg,Yan];exact z1h _ _ _ _ rfl (fun _ _ _ h=>by cases h) (zpv l)
def prim187:List AV→Option AV
 | [.i .u8 n]=>if 0≤n∧n<256 then some (.b (isS (UInt8.ofNat n.toNat))) else none
 | _=>none
theorem zv5(c:UInt8):prim187 [u8 c.toNat]=some (.b (isS c)):=by
 have:=c.toNat_lt;simp only[prim187,u8];rw[if_pos ⟨by omega,by omega⟩];simp
def prim184:List AV→Option AV
 | [.s l,.s [c]]=>if l.length≤1000000 then some (.tup [.s (l.takeWhile (· != c)),.s ((l.dropWhile (· != c)).drop 1),.b (l.contains c)]) else none
 | _=>none
def textOf:List AV→Option (List UInt8)
 | [.s l]=>if l.length≤10000 then some l else none
 | _=>none
def prim183:List AV→Option AV
 | [.sl els .an,.s sep]=>if els.length≤1000∧sep.length≤100 then (els.mapM textOf).map fun ts=>.s (List.intercalate sep ts) else none
 | _=>none
def Zb7(l:List (List UInt8)):List (List AV):=l.map fun s=>[.s s]
@[simp] theorem zdq(l:List (List UInt8)):(Zb7 l).length=l.length:=by simp[Zb7]
@[simp] theorem z4q(l:List (List UInt8)):wkL (Zb7 l)=Zb7 l:=by
 induction l with
 | nil=>rfl
 | cons x l ih=>simpa[Zb7,wkL,wkR]using ih
theorem zv6(l:List (List UInt8))(s:List UInt8):wkL (List.take l.length (Zb7 l)++[[AV.s s]])=Zb7 (l++[s]):=by
 rw[Yb (by simp),show Zb7 l++[[AV.s s]]=Zb7 (l++[s]) by simp[Zb7],z4q]
theorem zrj(l:List (List UInt8))(h:∀s∈l,s.length≤10000):(Zb7 l).mapM textOf=some l:=by
 induction l with
 | nil=>rfl
 | cons x l ih=>
  grind[textOf,Zb7]
theorem zlw:∀{els:List (List AV)} {ts:List (List UInt8)},els.mapM textOf=some ts→els=Zb7 ts∧∀t∈ts,t.length≤10000
 | [],ts,h=>by cases h;exact⟨rfl,by simp⟩
 | r::els,ts,h=>by
  rw[Ybp]at h;obtain⟨x,hx,h1⟩:=bind_some h;obtain⟨y,hy,h2⟩:=bind_some h1;cases h2;obtain⟨e1,e2⟩:=zlw hy;unfold textOf at hx;split at hx
  ·split at hx
   ·cases hx;rename_i hl;subst e1;exact⟨rfl,fun t ht=>(Y7.1 ht).elim (fun h=>h▸hl) (e2 t)⟩
   ·cases hx
  ·cases hx
theorem zv7(l:List (List UInt8))(sep:List UInt8)(h:∀s∈l,s.length≤10000)(hl:l.length≤1000)(hs:sep.length≤100):prim183 [.sl (Zb7 l) .an,.s sep]=some (.s (List.intercalate sep l)):=by
 grind[prim183,zdq,zrj]
end Go.Ab
end
section
namespace Go.Ab
def row183:AFx:=⟨0,0,[],.prim prim183,none,false⟩
class Zaz (T:Tbl):Prop where
 h183:T 183=some row183
section
variable{T:Tbl}[Zaz T]{d:Option Nat}{st:St}{xs:List AV}{ps:List Opd}{e:Env}{h:Heap}{ol:List Heap}
@[simp] theorem x183:XRx T 183:=xrx Zaz.h183
theorem p183(xs:List AV):Za T 183 xs=prim183 xs:=zhe Zaz.h183
end
end Go.Ab
end
section
namespace Go.Ab
def b185:AX:= (XS [XJ 2] (XS [mv 3 0,rg 4 (.bin .geq (.t 3) (.c (u8 48))),mv 5 4,VM 6 5 true 0,gd 7 5 true (.bin .leq (.t 6) (.c (u8 57))),XW 8 5 7,mv 2 8] (XZ [2])))
def b186:AX:= (XS [XJ 2] (XS [mv 3 0,rg 4 (.bin .geq (.t 3) (.c (u8 97))),mv 5 4,VM 6 5 true 0,gd 7 5 true (.bin .leq (.t 6) (.c (u8 122))),XW 8 5 7,mv 9 8,VM 10 9 false 0,gd 11 9 false (.bin .geq (.t 10) (.c (u8 65))),VM 12 9 false 11,VM 13 12 true 0,gd 14 12 true (.bin .leq (.t 13) (.c (u8 90))),gd 15 9 false (.pick (.t 12) (.t 14) (.c (.b false))),XY 16 9 15,mv 17 16,VM 18 17 false 0,gd 19 17 false (.bin .eql (.t 18) (.c (u8 95))),XY 20 17 19,mv 2 20] (XZ [2])))
def b177:AX:= (XS [XL 2 0] (.seq (.block 0 (XS [mv 4 0,XK1 5 185 4,mv 3 5] (XD 3 (XS [XL 2 1] (XZ [2])) (XS [mv 7 0,XK1 8 186 7,mv 6 8] (XD 6 (XS [XL 2 2] (XZ [2])) (XS [mv 10 0,XK1 11 187 10,mv 9 11] (XD 9 (XS [XL 2 3] (XZ [2])) .skip))))))) (XS [XL 2 0] (XZ [2]))))
def b188:AX:= (XS [XJ 4] (XS [mv 5 0,XC 6 .eql 5 1,mv 7 6,VM 8 7 true 1,gd 9 7 true (.call 185 [(.t 8)]),XW 10 7 9,mv 11 10,VM 12 11 false 0,VC 13 11 false .eql 12 2,VM 14 11 false 13,VM 15 14 true 1,gd 16 14 true (.call 186 [(.t 15)]),VM 17 14 true 16,VM 18 17 false 1,gd 19 17 false (.call 185 [(.t 18)]),gd 20 14 true (.pick (.t 17) (.c (.b true)) (.t 19)),gd 21 11 false (.pick (.t 14) (.t 20) (.c (.b false))),XY 22 11 21,mv 4 22] (XZ [4])))
def b179:AX:= (XS [XL 2 0] (.seq (XS [mv 3 0] (.block 0 (XS [XC 5 .eql 3 1,mv 4 5] (XD 4 (XS [XL 2 60] (XZ [2])) (XS [XC 7 .eql 3 2,mv 6 7] (XD 6 (XS [XL 2 12] (XZ [2])) .skip)))))) (XS [XL 2 1] (XZ [2]))))
def l178_0:AX:= (.note (.seq (XS [mv 6 5,mv 7 0,rg 8 (.lens (.t 7)),XB 9 .lss 6 8,mv 10 9,VM 11 10 true 1,VM 12 10 true 0,VM 13 10 true 5,gd 14 10 true (.ixs (.t 12) (.t 13)),gd 15 10 true (.call 188 [(.t 11),(.t 14)]),XW 16 10 15] (XQ 16 0)) (.block 1 (XH 17 5 18))) (XG [0,1,5]))
def b178:AX:= (XS [XL 4 0] (XS [XL 5 1] (.seq (.lp 0 (XG [0,1,5]) l178_0 (XG [5])) (XS [mv 19 5,mv 4 19] (XZ [4])))))
def b172:AX:= (XS [XX 1 3 0,XJ 2] (.seq (.seq (.drawT [XF 3 1 1,XO 4 3,rg 5 (.bin .eql (.t 4) (.c (.s []))),mv 6 5,VF 7 6 false 0 1,VO 8 6 false 7,VC 9 6 false .eql 8 0,XY 10 6 9,mv 11 10,VF 12 11 false 1 1,VO 13 11 false 12,gd 14 11 false (.ixs (.t 13) (.c (.i .i64 0))),gd 15 11 false (.call 177 [(.t 14)]),VF 16 11 false 0 1,VO 17 11 false 16] [VB 18 11 false .neq 15 17,XY 19 11 18]) (XD 19 (XS [XJ 2] (XZ [2])) .skip)) (.seq (.drawT [XF 20 1 1,XO 21 20,XF 22 0 1,XO 23 22,XK2 24 178 21 23,XF 25 1 1,XO 26 25,rg 27 (.lens (.t 26)),XB 28 .eql 24 27,mv 29 28,VF 30 29 true 1 1,VO 31 29 true 30,gd 32 29 true (.lens (.t 31)),VF 33 29 true 0 1,VO 34 29 true 33,gd 35 29 true (.call 179 [(.t 34)])] [VB 36 29 true .leq 32 35,XW 37 29 36,mv 2 37]) (XZ [2]))))
def row185:AFx:=XrV 1 9 2 b185
def row186:AFx:=XrV 1 21 2 b186
def row187:AFx:=⟨0,0,[],.prim prim187,none,false⟩
def row177:AFx:=XrV 1 12 2 b177
def row188:AFx:=XrV 2 23 4 b188
def row179:AFx:=XrV 1 8 2 b179
def row178:AFx:=XrV 2 20 4 b178
def row172:AFx:=XrV 1 38 2 b172
class Zc1 (T:Tbl):Prop where
 h185:T 185=some row185
 h186:T 186=some row186
 h187:T 187=some row187
 h177:T 177=some row177
 h188:T 188=some row188
 h179:T 179=some row179
 h178:T 178=some row178
 h172:T 172=some row172
section
variable{T:Tbl}[Zc1 T]{d:Option Nat}{st:St}{xs:List AV}{ps:List Opd}{e:Env}{h:Heap}{ol:List Heap}
@[simp] theorem x185:XRx T 185:=xrx Zc1.h185
@[simp] theorem x186:XRx T 186:=xrx Zc1.h186
@[simp] theorem x187:XRx T 187:=xrx Zc1.h187
theorem p187(xs:List AV):Za T 187 xs=prim187 xs:=zhe Zc1.h187
@[simp] theorem y177:XRy T 177:=xry Zc1.h177
@[simp] theorem x188:XRx T 188:=xrx Zc1.h188
@[simp] theorem y179:XRy T 179:=xry Zc1.h179
@[simp] theorem y178:XRy T 178:=xry Zc1.h178
@[simp] theorem x172:XRx T 172:=xrx Zc1.h172
end
end Go.Ab
end