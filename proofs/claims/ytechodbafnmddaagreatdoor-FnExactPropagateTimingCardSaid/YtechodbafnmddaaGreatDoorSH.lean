/- Contracts of the library at this program: laid by program, each one application of a theorem of the guide. -/
import Derived.Shelf.Strings.Trim
import Derived.Shelf.Small.Utf8
import Derived.Shelf.Small.Strs
import Derived.Shelf.Strings.Search1
import Derived.Shelf.Unicode.Decode
import Derived.Shelf.Strings.Runes
import Derived.Shelf.Strings.AsciiSet
import Derived.Shelf.Unicode.DecodeSlow
import Derived.Shelf.Unicode.DecodeAny
import Derived.Shelf.Unicode.DecodeLast
import Derived.Shelf.Slices.Turned
import Derived.Ground.SlgnProg
import Derived.Shelf.SlicesG.Turned
import Derived.Shelf.SlicesG.Reverse
import Derived.Shelf.SlicesG.Clone
import Derived.Shelf.SlicesE.Reverse
import Derived.Shelf.SlicesE.Clone
import Derived.Test.YtechodbafnmddaaGreatDoorProg
section
namespace Go.Proofs
open Go.Shelf
def Tryz.lays160_ren:Go.Shelf.Ren:=⟨fun | 160=>203 | 232=>239 | 231=>238 | 227=>240 | 234=>242 | 233=>241 | 236=>244 | 235=>243 | 228=>262 | 271=>265 | 151=>264 | 197=>263 | 120=>281 | 152=>280 | 260=>279 | 137=>204 | 119=>292 | 224=>293 | 225=>294 | 217=>245 | 266=>266 | n=>n,fun | 9=>9 | 4=>4 | 3=>3 | 5=>5 | 117=>313 | 116=>312 | 0=>0 | 124=>316 | 21=>21 | 105=>336 | 46=>330 | 119=>354 | 139=>357 | 138=>356 | n=>n,fun | 3=>1 | 4=>2 | n=>n⟩
theorem Tryz.lays160:Go.Proofs.Lays.n160 Tryz.prog Tryz.lays160_ren:={
 mixed:=by kernel_rfl
 f119:=Tryz.func292.trans (congrArg some (by kernel_rfl))
 f120:=Tryz.func281.trans (congrArg some (by kernel_rfl))
 f137:=Tryz.func204.trans (congrArg some (by kernel_rfl))
 f151:=Tryz.func264.trans (congrArg some (by kernel_rfl))
 f152:=Tryz.func280.trans (congrArg some (by kernel_rfl))
 f160:=Tryz.func203.trans (congrArg some (by kernel_rfl))
 f197:=Tryz.func263.trans (congrArg some (by kernel_rfl))
 f217:=Tryz.func245.trans (congrArg some (by kernel_rfl))
 f224:=Tryz.func293.trans (congrArg some (by kernel_rfl))
 f225:=Tryz.func294.trans (congrArg some (by kernel_rfl))
 f227:=Tryz.func240.trans (congrArg some (by kernel_rfl))
 f228:=Tryz.func262.trans (congrArg some (by kernel_rfl))
 f231:=Tryz.func238.trans (congrArg some (by kernel_rfl))
 f232:=Tryz.func239.trans (congrArg some (by kernel_rfl))
 f233:=Tryz.func241.trans (congrArg some (by kernel_rfl))
 f234:=Tryz.func242.trans (congrArg some (by kernel_rfl))
 f235:=Tryz.func243.trans (congrArg some (by kernel_rfl))
 f236:=Tryz.func244.trans (congrArg some (by kernel_rfl))
 f260:=Tryz.func279.trans (congrArg some (by kernel_rfl))
 f266:=Tryz.func266.trans (congrArg some (by kernel_rfl))
 f271:=Tryz.func265.trans (congrArg some (by kernel_rfl))
 t0:=Tryz.underlying0
 a0:=Tryz.isAgg0
 z0:=Tryz.sizeOf0
 v0:=Tryz.zeroValue0
 t3:=Tryz.underlying3
 a3:=Tryz.isAgg3
 z3:=Tryz.sizeOf3
 v3:=Tryz.zeroValue3
 t4:=Tryz.underlying4
 a4:=Tryz.isAgg4
 z4:=Tryz.sizeOf4
 v4:=Tryz.zeroValue4
 t5:=Tryz.underlying5
 a5:=Tryz.isAgg5
 z5:=Tryz.sizeOf5
 v5:=Tryz.zeroValue5
 t9:=Tryz.underlying9
 a9:=Tryz.isAgg9
 z9:=Tryz.sizeOf9
 v9:=Tryz.zeroValue9
 t21:=Tryz.underlying21
 a21:=Tryz.isAgg21
 z21:=Tryz.sizeOf21
 v21:=Tryz.zeroValue21
 t46:=Tryz.underlying330
 a46:=Tryz.isAgg330
 z46:=Tryz.sizeOf330
 v46:=Tryz.zeroValue330
 t105:=Tryz.underlying336
 a105:=Tryz.isAgg336
 z105:=Tryz.sizeOf336
 v105:=Tryz.zeroValue336
 t116:=Tryz.underlying312
 a116:=Tryz.isAgg312
 z116:=Tryz.sizeOf312
 t117:=Tryz.underlying313
 a117:=Tryz.isAgg313
 z117:=Tryz.sizeOf313
 v117:=Tryz.zeroValue313
 t119:=Tryz.underlying354
 a119:=Tryz.isAgg354
 z119:=Tryz.sizeOf354
 t124:=Tryz.underlying316
 a124:=Tryz.isAgg316
 z124:=Tryz.sizeOf316
 v124:=Tryz.zeroValue316
 t138:=Tryz.underlying356
 a138:=Tryz.isAgg356
 z138:=Tryz.sizeOf356
 v138:=Tryz.zeroValue356
 t139:=Tryz.underlying357
 a139:=Tryz.isAgg357
 z139:=Tryz.sizeOf357
 v139:=Tryz.zeroValue357
 g3:=by kernel_rfl
 g4:=by kernel_rfl }
def Tryz.lays137_ren:Go.Shelf.Ren:=⟨fun | 137=>204 | 217=>245 | 266=>266 | n=>n,fun | 9=>9 | 5=>5 | 3=>3 | n=>n,fun | n=>n⟩
theorem Tryz.lays137:Go.Proofs.Lays.n137 Tryz.prog Tryz.lays137_ren:={
 mixed:=by kernel_rfl
 f137:=Tryz.func204.trans (congrArg some (by kernel_rfl))
 f217:=Tryz.func245.trans (congrArg some (by kernel_rfl))
 f266:=Tryz.func266.trans (congrArg some (by kernel_rfl))
 t3:=Tryz.underlying3
 a3:=Tryz.isAgg3
 z3:=Tryz.sizeOf3
 v3:=Tryz.zeroValue3
 t5:=Tryz.underlying5
 a5:=Tryz.isAgg5
 z5:=Tryz.sizeOf5
 v5:=Tryz.zeroValue5
 t9:=Tryz.underlying9
 a9:=Tryz.isAgg9
 z9:=Tryz.sizeOf9
 v9:=Tryz.zeroValue9 }
open Go.RowKit in
theorem Tryz.strings_IndexByte(s:ByteArray)(c:Int)(w:World) :
 Calls Tryz.prog 204 #[.string s,.int .u8 c] w fun e w'=>e=.returned (.int .i64 (Lib.indexByte s.data.toList c.toNat.toUInt8))/\w'=w:=Any.strings_IndexByte Tryz.lays137 s c w
def Tryz.laysSlE041_f206_ren:Go.Shelf.Ren:=⟨fun | 41=>206 | n=>n,fun | 22=>35 | 23=>2 | 4=>4 | n=>n,fun | n=>n⟩
theorem Tryz.laysSlE041_f206:Go.Proofs.SlLaysE0.n41 Tryz.prog Tryz.laysSlE041_f206_ren:={
 mixed:=by kernel_rfl
 f41:=⟨Tryz.f206.name,by decide,Tryz.func206.trans (congrArg some (by kernel_rfl))⟩
 t4:=Tryz.underlying4
 a4:=Tryz.isAgg4
 z4:=Tryz.sizeOf4
 v4:=Tryz.zeroValue4
 t22:=Tryz.underlying35
 a22:=Tryz.isAgg35
 z22:=Tryz.sizeOf35
 v22:=Tryz.zeroValue35 }
open Go.RowKit Go.Lib in
theorem Tryz.slices_Clone(g:TypeInfo)(z:Value)(size bytes:Nat)(hi:Tryz.prog.info? 2=some g)(l:g.zero=some z)(i:g.size=size)(h:g.bytes=bytes)(m:z.cells.size=size)(o:0<size)(k:∀w,(Go.sizeOf 2).run Tryz.prog w=.ok size w)(b d n c:Nat)(a:List Value)(w:World)(r:a.length=n*size)(s:n<=maxLen)(f:n*bytes<=140737488355328)(t:∀j u,a[j]?=some u->w.cell? ⟨b,d+j,none⟩=some u)(q:∀u∈a,u.oneCell'=true) :
 Calls Tryz.prog 206 #[.slice (some ⟨b,d,none⟩) n c] w fun e w'=>∃v',e=.returned v'/\w'.ownsRow w.heap.size 2 size v' n a/\v'≠.slice none 0 0/\Below w.heap.size w w':=AnyE.slices_Clone Tryz.laysSlE041_f206 g z size bytes hi l i h m o k b d n c a w r s f t q
def Tryz.laysSlN35_f133_ren:Go.Shelf.Ren:=⟨fun | 35=>133 | n=>n,fun | 22=>35 | 23=>2 | 3=>3 | 4=>4 | 0=>0 | n=>n,fun | n=>n⟩
theorem Tryz.laysSlN35_f133:Go.Proofs.SlLaysN.n35 Tryz.prog Tryz.laysSlN35_f133_ren:={
 mixed:=by kernel_rfl
 f35:=⟨Tryz.f133.name,by decide,Tryz.func133.trans (congrArg some (by kernel_rfl))⟩
 t0:=Tryz.underlying0
 a0:=Tryz.isAgg0
 z0:=Tryz.sizeOf0
 v0:=Tryz.zeroValue0
 t3:=Tryz.underlying3
 a3:=Tryz.isAgg3
 z3:=Tryz.sizeOf3
 v3:=Tryz.zeroValue3
 t4:=Tryz.underlying4
 a4:=Tryz.isAgg4
 z4:=Tryz.sizeOf4
 v4:=Tryz.zeroValue4
 t22:=Tryz.underlying35
 a22:=Tryz.isAgg35
 z22:=Tryz.sizeOf35
 v22:=Tryz.zeroValue35
 t23:=Tryz.underlying2
 a23:=Tryz.isAgg2
 z23:=Tryz.sizeOf2
 v23:=Tryz.zeroValue2 }
open Go.RowKit Go.Lib Go.Sort in
theorem Tryz.slices_Reverse_int(a b c:Nat)(zs:List Int)(w:World)(f:Holds (Value.int .i64) w a b zs.toArray)(d:zs.length<=9223372036854775807) :
 Calls Tryz.prog 133 #[.slice (some ⟨a,b,none⟩) zs.length c] w fun e w'=>e=.returned (.tuple #[])/\∃n,w'=putRow (Value.int .i64) (Sort.ahead w n) a b zs.reverse.toArray:=AnyG.slices_Reverse_int Tryz.laysSlN35_f133 a b c zs w f d
open Go.RowKit Go.Lib Go.Sort in
theorem Tryz.slices_Reverse_int_empty(a:Option Addr)(b:Nat)(w:World) :
 Calls Tryz.prog 133 #[.slice a 0 b] w fun e w'=>e=.returned (.tuple #[])/\w'=w:=AnyG.slices_Reverse_int_empty Tryz.laysSlN35_f133 a b w
end Go.Proofs
end
