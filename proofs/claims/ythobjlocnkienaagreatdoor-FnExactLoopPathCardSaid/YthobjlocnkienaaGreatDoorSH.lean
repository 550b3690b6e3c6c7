/- Contracts of the library at this program: laid by program, each one application of a theorem of the guide. -/
import Derived.Shelf.Strings.Trim
import Derived.Shelf.Small.Utf8
import Derived.Shelf.Small.Strs
import Derived.Shelf.Strings.Search1
import Derived.Shelf.Unicode.Decode
import Derived.Shelf.Strings.Runes
import Derived.Shelf.Strings.AsciiSet
import Derived.Shelf.Unicode.DecodeSlow
import Derived.Shelf.Unicode.DecodeAny
import Derived.Shelf.Unicode.DecodeLast
import Derived.Shelf.Slices.Turned
import Derived.Ground.SlgnProg
import Derived.Shelf.SlicesE.Clone
import Derived.Test.YthobjlocnkienaaGreatDoorProg
section
namespace Go.Proofs
open Go.Shelf
def Tryz.lays160_ren:Go.Shelf.Ren:=⟨fun | 160=>227 | 232=>242 | 231=>241 | 227=>243 | 234=>245 | 233=>244 | 236=>247 | 235=>246 | 228=>256 | 271=>259 | 151=>258 | 197=>257 | 120=>270 | 152=>269 | 260=>268 | 137=>228 | 119=>273 | 224=>274 | 225=>275 | 217=>248 | 266=>260 | n=>n,fun | 9=>9 | 4=>4 | 3=>3 | 5=>5 | 117=>298 | 116=>297 | 0=>0 | 124=>301 | 21=>21 | 105=>305 | 46=>220 | 119=>313 | 139=>316 | 138=>315 | n=>n,fun | 3=>1 | 4=>2 | n=>n⟩
theorem Tryz.lays160:Go.Proofs.Lays.n160 Tryz.prog Tryz.lays160_ren:={
 mixed:=by kernel_rfl
 f119:=Tryz.func273.trans (congrArg some (by kernel_rfl))
 f120:=Tryz.func270.trans (congrArg some (by kernel_rfl))
 f137:=Tryz.func228.trans (congrArg some (by kernel_rfl))
 f151:=Tryz.func258.trans (congrArg some (by kernel_rfl))
 f152:=Tryz.func269.trans (congrArg some (by kernel_rfl))
 f160:=Tryz.func227.trans (congrArg some (by kernel_rfl))
 f197:=Tryz.func257.trans (congrArg some (by kernel_rfl))
 f217:=Tryz.func248.trans (congrArg some (by kernel_rfl))
 f224:=Tryz.func274.trans (congrArg some (by kernel_rfl))
 f225:=Tryz.func275.trans (congrArg some (by kernel_rfl))
 f227:=Tryz.func243.trans (congrArg some (by kernel_rfl))
 f228:=Tryz.func256.trans (congrArg some (by kernel_rfl))
 f231:=Tryz.func241.trans (congrArg some (by kernel_rfl))
 f232:=Tryz.func242.trans (congrArg some (by kernel_rfl))
 f233:=Tryz.func244.trans (congrArg some (by kernel_rfl))
 f234:=Tryz.func245.trans (congrArg some (by kernel_rfl))
 f235:=Tryz.func246.trans (congrArg some (by kernel_rfl))
 f236:=Tryz.func247.trans (congrArg some (by kernel_rfl))
 f260:=Tryz.func268.trans (congrArg some (by kernel_rfl))
 f266:=Tryz.func260.trans (congrArg some (by kernel_rfl))
 f271:=Tryz.func259.trans (congrArg some (by kernel_rfl))
 t0:=Tryz.underlying0
 a0:=Tryz.isAgg0
 z0:=Tryz.sizeOf0
 v0:=Tryz.zeroValue0
 t3:=Tryz.underlying3
 a3:=Tryz.isAgg3
 z3:=Tryz.sizeOf3
 v3:=Tryz.zeroValue3
 t4:=Tryz.underlying4
 a4:=Tryz.isAgg4
 z4:=Tryz.sizeOf4
 v4:=Tryz.zeroValue4
 t5:=Tryz.underlying5
 a5:=Tryz.isAgg5
 z5:=Tryz.sizeOf5
 v5:=Tryz.zeroValue5
 t9:=Tryz.underlying9
 a9:=Tryz.isAgg9
 z9:=Tryz.sizeOf9
 v9:=Tryz.zeroValue9
 t21:=Tryz.underlying21
 a21:=Tryz.isAgg21
 z21:=Tryz.sizeOf21
 v21:=Tryz.zeroValue21
 t46:=Tryz.underlying220
 a46:=Tryz.isAgg220
 z46:=Tryz.sizeOf220
 v46:=Tryz.zeroValue220
 t105:=Tryz.underlying305
 a105:=Tryz.isAgg305
 z105:=Tryz.sizeOf305
 v105:=Tryz.zeroValue305
 t116:=Tryz.underlying297
 a116:=Tryz.isAgg297
 z116:=Tryz.sizeOf297
 t117:=Tryz.underlying298
 a117:=Tryz.isAgg298
 z117:=Tryz.sizeOf298
 v117:=Tryz.zeroValue298
 t119:=Tryz.underlying313
 a119:=Tryz.isAgg313
 z119:=Tryz.sizeOf313
 t124:=Tryz.underlying301
 a124:=Tryz.isAgg301
 z124:=Tryz.sizeOf301
 v124:=Tryz.zeroValue301
 t138:=Tryz.underlying315
 a138:=Tryz.isAgg315
 z138:=Tryz.sizeOf315
 v138:=Tryz.zeroValue315
 t139:=Tryz.underlying316
 a139:=Tryz.isAgg316
 z139:=Tryz.sizeOf316
 v139:=Tryz.zeroValue316
 g3:=by kernel_rfl
 g4:=by kernel_rfl }
def Tryz.lays137_ren:Go.Shelf.Ren:=⟨fun | 137=>228 | 217=>248 | 266=>260 | n=>n,fun | 9=>9 | 5=>5 | 3=>3 | n=>n,fun | n=>n⟩
theorem Tryz.lays137:Go.Proofs.Lays.n137 Tryz.prog Tryz.lays137_ren:={
 mixed:=by kernel_rfl
 f137:=Tryz.func228.trans (congrArg some (by kernel_rfl))
 f217:=Tryz.func248.trans (congrArg some (by kernel_rfl))
 f266:=Tryz.func260.trans (congrArg some (by kernel_rfl))
 t3:=Tryz.underlying3
 a3:=Tryz.isAgg3
 z3:=Tryz.sizeOf3
 v3:=Tryz.zeroValue3
 t5:=Tryz.underlying5
 a5:=Tryz.isAgg5
 z5:=Tryz.sizeOf5
 v5:=Tryz.zeroValue5
 t9:=Tryz.underlying9
 a9:=Tryz.isAgg9
 z9:=Tryz.sizeOf9
 v9:=Tryz.zeroValue9 }
open Go.RowKit in
theorem Tryz.strings_IndexByte (s:ByteArray) (c:Int) (w:World) :
 Calls Tryz.prog 228 #[.string s,.int .u8 c] w fun e w'=>e=.returned (.int .i64 (Lib.indexByte s.data.toList c.toNat.toUInt8))/\w'=w:=Any.strings_IndexByte Tryz.lays137 s c w
def Tryz.laysSlE041_f87_ren:Go.Shelf.Ren:=⟨fun | 41=>87 | n=>n,fun | 22=>33 | 23=>2 | 4=>4 | n=>n,fun | n=>n⟩
theorem Tryz.laysSlE041_f87:Go.Proofs.SlLaysE0.n41 Tryz.prog Tryz.laysSlE041_f87_ren:={
 mixed:=by kernel_rfl
 f41:=⟨Tryz.f87.name,by decide,Tryz.func87.trans (congrArg some (by kernel_rfl))⟩
 t4:=Tryz.underlying4
 a4:=Tryz.isAgg4
 z4:=Tryz.sizeOf4
 v4:=Tryz.zeroValue4
 t22:=Tryz.underlying33
 a22:=Tryz.isAgg33
 z22:=Tryz.sizeOf33
 v22:=Tryz.zeroValue33 }
open Go.RowKit Go.Lib in
theorem Tryz.slices_Clone (i0:TypeInfo) (z:Value) (size bytes:Nat) (hi:Tryz.prog.info? 2=some i0) (hz0:i0.zero=some z) (hz1:i0.size=size) (hz2:i0.bytes=bytes) (hzs:z.cells.size=size) (hsz:0 < size) (z23:∀ w,(Go.sizeOf 2).run Tryz.prog w=.ok size w) (b off n c:Nat) (news:List Value) (w:World) (hl:news.length=n*size) (hn:n<=maxLen) (hbig:n*bytes<=140737488355328) (hc:∀ j u,news[j]?=some u->w.cell? ⟨b,off+j,none⟩=some u) (h1:∀ u∈news,u.oneCell'=true) :
 Calls Tryz.prog 87 #[.slice (some ⟨b,off,none⟩) n c] w fun e w'=>∃ v',e=.returned v'/\w'.ownsRow w.heap.size 2 size v' n news/\v'≠.slice none 0 0/\Below w.heap.size w w':=AnyE.slices_Clone Tryz.laysSlE041_f87 i0 z size bytes hi hz0 hz1 hz2 hzs hsz z23 b off n c news w hl hn hbig hc h1
end Go.Proofs
end
