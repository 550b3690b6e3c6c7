/- Contracts of the library at this program: laid by program, each one application of a theorem of the guide. -/
import Derived.Shelf.Strings.Trim
import Derived.Shelf.Small.Utf8
import Derived.Shelf.Small.Strs
import Derived.Shelf.Strings.Search1
import Derived.Shelf.Unicode.Decode
import Derived.Shelf.Strings.Runes
import Derived.Shelf.Strings.AsciiSet
import Derived.Shelf.Unicode.DecodeSlow
import Derived.Shelf.Unicode.DecodeAny
import Derived.Shelf.Unicode.DecodeLast
import Derived.Shelf.Slices.Turned
import Derived.Ground.SlgnProg
import Derived.Shelf.SlicesG.Turned
import Derived.Shelf.SlicesG.Reverse
import Derived.Shelf.SlicesG.Clone
import Derived.Shelf.SlicesE.Reverse
import Derived.Shelf.SlicesE.Clone
import Derived.Test.YtdjgagoledoaaaaGreatDoorProg
section
namespace Go.Proofs
open Go.Shelf
def Tryz.lays160_ren:Go.Shelf.Ren:=⟨fun | 160=>156 | 232=>189 | 231=>188 | 227=>190 | 234=>192 | 233=>191 | 236=>194 | 235=>193 | 228=>212 | 271=>215 | 151=>214 | 197=>213 | 120=>230 | 152=>229 | 260=>228 | 137=>157 | 119=>241 | 224=>242 | 225=>243 | 217=>195 | 266=>216 | n=>n,fun | 9=>9 | 4=>4 | 3=>3 | 5=>5 | 117=>244 | 116=>243 | 0=>0 | 124=>247 | 21=>21 | 105=>266 | 46=>110 | 119=>282 | 139=>285 | 138=>284 | n=>n,fun | 3=>1 | 4=>2 | n=>n⟩
theorem Tryz.lays160:Go.Proofs.Lays.n160 Tryz.prog Tryz.lays160_ren:={
 mixed:=by kernel_rfl
 f119:=Tryz.func241.trans (congrArg some (by kernel_rfl))
 f120:=Tryz.func230.trans (congrArg some (by kernel_rfl))
 f137:=Tryz.func157.trans (congrArg some (by kernel_rfl))
 f151:=Tryz.func214.trans (congrArg some (by kernel_rfl))
 f152:=Tryz.func229.trans (congrArg some (by kernel_rfl))
 f160:=Tryz.func156.trans (congrArg some (by kernel_rfl))
 f197:=Tryz.func213.trans (congrArg some (by kernel_rfl))
 f217:=Tryz.func195.trans (congrArg some (by kernel_rfl))
 f224:=Tryz.func242.trans (congrArg some (by kernel_rfl))
 f225:=Tryz.func243.trans (congrArg some (by kernel_rfl))
 f227:=Tryz.func190.trans (congrArg some (by kernel_rfl))
 f228:=Tryz.func212.trans (congrArg some (by kernel_rfl))
 f231:=Tryz.func188.trans (congrArg some (by kernel_rfl))
 f232:=Tryz.func189.trans (congrArg some (by kernel_rfl))
 f233:=Tryz.func191.trans (congrArg some (by kernel_rfl))
 f234:=Tryz.func192.trans (congrArg some (by kernel_rfl))
 f235:=Tryz.func193.trans (congrArg some (by kernel_rfl))
 f236:=Tryz.func194.trans (congrArg some (by kernel_rfl))
 f260:=Tryz.func228.trans (congrArg some (by kernel_rfl))
 f266:=Tryz.func216.trans (congrArg some (by kernel_rfl))
 f271:=Tryz.func215.trans (congrArg some (by kernel_rfl))
 t0:=Tryz.underlying0
 a0:=Tryz.isAgg0
 z0:=Tryz.sizeOf0
 v0:=Tryz.zeroValue0
 t3:=Tryz.underlying3
 a3:=Tryz.isAgg3
 z3:=Tryz.sizeOf3
 v3:=Tryz.zeroValue3
 t4:=Tryz.underlying4
 a4:=Tryz.isAgg4
 z4:=Tryz.sizeOf4
 v4:=Tryz.zeroValue4
 t5:=Tryz.underlying5
 a5:=Tryz.isAgg5
 z5:=Tryz.sizeOf5
 v5:=Tryz.zeroValue5
 t9:=Tryz.underlying9
 a9:=Tryz.isAgg9
 z9:=Tryz.sizeOf9
 v9:=Tryz.zeroValue9
 t21:=Tryz.underlying21
 a21:=Tryz.isAgg21
 z21:=Tryz.sizeOf21
 v21:=Tryz.zeroValue21
 t46:=Tryz.underlying110
 a46:=Tryz.isAgg110
 z46:=Tryz.sizeOf110
 v46:=Tryz.zeroValue110
 t105:=Tryz.underlying266
 a105:=Tryz.isAgg266
 z105:=Tryz.sizeOf266
 v105:=Tryz.zeroValue266
 t116:=Tryz.underlying243
 a116:=Tryz.isAgg243
 z116:=Tryz.sizeOf243
 t117:=Tryz.underlying244
 a117:=Tryz.isAgg244
 z117:=Tryz.sizeOf244
 v117:=Tryz.zeroValue244
 t119:=Tryz.underlying282
 a119:=Tryz.isAgg282
 z119:=Tryz.sizeOf282
 t124:=Tryz.underlying247
 a124:=Tryz.isAgg247
 z124:=Tryz.sizeOf247
 v124:=Tryz.zeroValue247
 t138:=Tryz.underlying284
 a138:=Tryz.isAgg284
 z138:=Tryz.sizeOf284
 v138:=Tryz.zeroValue284
 t139:=Tryz.underlying285
 a139:=Tryz.isAgg285
 z139:=Tryz.sizeOf285
 v139:=Tryz.zeroValue285
 g3:=by kernel_rfl
 g4:=by kernel_rfl }
def Tryz.lays137_ren:Go.Shelf.Ren:=⟨fun | 137=>157 | 217=>195 | 266=>216 | n=>n,fun | 9=>9 | 5=>5 | 3=>3 | n=>n,fun | n=>n⟩
theorem Tryz.lays137:Go.Proofs.Lays.n137 Tryz.prog Tryz.lays137_ren:={
 mixed:=by kernel_rfl
 f137:=Tryz.func157.trans (congrArg some (by kernel_rfl))
 f217:=Tryz.func195.trans (congrArg some (by kernel_rfl))
 f266:=Tryz.func216.trans (congrArg some (by kernel_rfl))
 t3:=Tryz.underlying3
 a3:=Tryz.isAgg3
 z3:=Tryz.sizeOf3
 v3:=Tryz.zeroValue3
 t5:=Tryz.underlying5
 a5:=Tryz.isAgg5
 z5:=Tryz.sizeOf5
 v5:=Tryz.zeroValue5
 t9:=Tryz.underlying9
 a9:=Tryz.isAgg9
 z9:=Tryz.sizeOf9
 v9:=Tryz.zeroValue9 }
open Go.RowKit in
theorem Tryz.strings_IndexByte(s:ByteArray)(c:Int)(w:World) :
 Calls Tryz.prog 157 #[.string s,.int .u8 c] w fun e w'=>e=.returned (.int .i64 (Lib.indexByte s.data.toList c.toNat.toUInt8))/\w'=w:=Any.strings_IndexByte Tryz.lays137 s c w
def Tryz.laysSlE041_f141_ren:Go.Shelf.Ren:=⟨fun | 41=>141 | n=>n,fun | 22=>37 | 23=>2 | 4=>4 | n=>n,fun | n=>n⟩
theorem Tryz.laysSlE041_f141:Go.Proofs.SlLaysE0.n41 Tryz.prog Tryz.laysSlE041_f141_ren:={
 mixed:=by kernel_rfl
 f41:=⟨Tryz.f141.name,by decide,Tryz.func141.trans (congrArg some (by kernel_rfl))⟩
 t4:=Tryz.underlying4
 a4:=Tryz.isAgg4
 z4:=Tryz.sizeOf4
 v4:=Tryz.zeroValue4
 t22:=Tryz.underlying37
 a22:=Tryz.isAgg37
 z22:=Tryz.sizeOf37
 v22:=Tryz.zeroValue37 }
open Go.RowKit Go.Lib in
theorem Tryz.slices_Clone(f:TypeInfo)(z:Value)(size bytes:Nat)(hi:Tryz.prog.info? 2=some f)(h:f.zero=some z)(k:f.size=size)(o:f.bytes=bytes)(i:z.cells.size=size)(m:0<size)(l:∀w,(Go.sizeOf 2).run Tryz.prog w=.ok size w)(b d n c:Nat)(a:List Value)(w:World)(q:a.length=n*size)(r:n<=maxLen)(g:n*bytes<=140737488355328)(s:∀j u,a[j]?=some u->w.cell? ⟨b,d+j,none⟩=some u)(t:∀u∈a,u.oneCell'=true) :
 Calls Tryz.prog 141 #[.slice (some ⟨b,d,none⟩) n c] w fun e w'=>∃v',e=.returned v'/\w'.ownsRow w.heap.size 2 size v' n a/\v'≠.slice none 0 0/\Below w.heap.size w w':=AnyE.slices_Clone Tryz.laysSlE041_f141 f z size bytes hi h k o i m l b d n c a w q r g s t
def Tryz.laysSlN35_f107_ren:Go.Shelf.Ren:=⟨fun | 35=>107 | n=>n,fun | 22=>37 | 23=>2 | 3=>3 | 4=>4 | 0=>0 | n=>n,fun | n=>n⟩
theorem Tryz.laysSlN35_f107:Go.Proofs.SlLaysN.n35 Tryz.prog Tryz.laysSlN35_f107_ren:={
 mixed:=by kernel_rfl
 f35:=⟨Tryz.f107.name,by decide,Tryz.func107.trans (congrArg some (by kernel_rfl))⟩
 t0:=Tryz.underlying0
 a0:=Tryz.isAgg0
 z0:=Tryz.sizeOf0
 v0:=Tryz.zeroValue0
 t3:=Tryz.underlying3
 a3:=Tryz.isAgg3
 z3:=Tryz.sizeOf3
 v3:=Tryz.zeroValue3
 t4:=Tryz.underlying4
 a4:=Tryz.isAgg4
 z4:=Tryz.sizeOf4
 v4:=Tryz.zeroValue4
 t22:=Tryz.underlying37
 a22:=Tryz.isAgg37
 z22:=Tryz.sizeOf37
 v22:=Tryz.zeroValue37
 t23:=Tryz.underlying2
 a23:=Tryz.isAgg2
 z23:=Tryz.sizeOf2
 v23:=Tryz.zeroValue2 }
open Go.RowKit Go.Lib Go.Sort in
theorem Tryz.slices_Reverse_int(b a c:Nat)(zs:List Int)(w:World)(f:Holds (Value.int .i64) w b a zs.toArray)(d:zs.length<=9223372036854775807) :
 Calls Tryz.prog 107 #[.slice (some ⟨b,a,none⟩) zs.length c] w fun e w'=>e=.returned (.tuple #[])/\∃n,w'=putRow (Value.int .i64) (Sort.ahead w n) b a zs.reverse.toArray:=AnyG.slices_Reverse_int Tryz.laysSlN35_f107 b a c zs w f d
open Go.RowKit Go.Lib Go.Sort in
theorem Tryz.slices_Reverse_int_empty(a:Option Addr)(b:Nat)(w:World) :
 Calls Tryz.prog 107 #[.slice a 0 b] w fun e w'=>e=.returned (.tuple #[])/\w'=w:=AnyG.slices_Reverse_int_empty Tryz.laysSlN35_f107 a b w
end Go.Proofs
end
