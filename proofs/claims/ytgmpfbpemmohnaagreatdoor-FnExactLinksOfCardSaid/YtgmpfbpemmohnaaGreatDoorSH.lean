/- Contracts of the library at this program: laid by program, each one application of a theorem of the guide. -/
import Derived.Shelf.Strings.Trim
import Derived.Shelf.Small.Utf8
import Derived.Shelf.Small.Strs
import Derived.Shelf.Strings.Search1
import Derived.Shelf.Unicode.Decode
import Derived.Shelf.Strings.Runes
import Derived.Shelf.Strings.AsciiSet
import Derived.Shelf.Unicode.DecodeSlow
import Derived.Shelf.Unicode.DecodeAny
import Derived.Shelf.Unicode.DecodeLast
import Derived.Shelf.Slices.Turned
import Derived.Ground.SlgnProg
import Derived.Shelf.SlicesG.Turned
import Derived.Shelf.SlicesG.Clone
import Derived.Shelf.SlicesE.Clone
import Derived.Test.YtgmpfbpemmohnaaGreatDoorProg
namespace Go.Proofs
open Go.Shelf
def Tryz.lays160_ren:Go.Shelf.Ren:=⟨fun | 160=>182 | 232=>196 | 231=>195 | 227=>197 | 234=>199 | 233=>198 | 236=>201 | 235=>200 | 228=>210 | 271=>213 | 151=>212 | 197=>211 | 120=>224 | 152=>223 | 260=>222 | 137=>183 | 119=>227 | 224=>228 | 225=>229 | 217=>202 | 266=>214 | n=>n,fun | 9=>9 | 4=>4 | 3=>3 | 5=>5 | 117=>253 | 116=>252 | 0=>0 | 124=>256 | 21=>21 | 105=>260 | 46=>228 | 119=>268 | 139=>271 | 138=>270 | n=>n,fun | 3=>1 | 4=>2 | n=>n⟩
theorem Tryz.lays160:Go.Proofs.Lays.n160 Tryz.prog Tryz.lays160_ren:={
 mixed:=by kernel_rfl
 f119:=Tryz.func227.trans (congrArg some (by kernel_rfl))
 f120:=Tryz.func224.trans (congrArg some (by kernel_rfl))
 f137:=Tryz.func183.trans (congrArg some (by kernel_rfl))
 f151:=Tryz.func212.trans (congrArg some (by kernel_rfl))
 f152:=Tryz.func223.trans (congrArg some (by kernel_rfl))
 f160:=Tryz.func182.trans (congrArg some (by kernel_rfl))
 f197:=Tryz.func211.trans (congrArg some (by kernel_rfl))
 f217:=Tryz.func202.trans (congrArg some (by kernel_rfl))
 f224:=Tryz.func228.trans (congrArg some (by kernel_rfl))
 f225:=Tryz.func229.trans (congrArg some (by kernel_rfl))
 f227:=Tryz.func197.trans (congrArg some (by kernel_rfl))
 f228:=Tryz.func210.trans (congrArg some (by kernel_rfl))
 f231:=Tryz.func195.trans (congrArg some (by kernel_rfl))
 f232:=Tryz.func196.trans (congrArg some (by kernel_rfl))
 f233:=Tryz.func198.trans (congrArg some (by kernel_rfl))
 f234:=Tryz.func199.trans (congrArg some (by kernel_rfl))
 f235:=Tryz.func200.trans (congrArg some (by kernel_rfl))
 f236:=Tryz.func201.trans (congrArg some (by kernel_rfl))
 f260:=Tryz.func222.trans (congrArg some (by kernel_rfl))
 f266:=Tryz.func214.trans (congrArg some (by kernel_rfl))
 f271:=Tryz.func213.trans (congrArg some (by kernel_rfl))
 t0:=Tryz.underlying0
 a0:=Tryz.isAgg0
 z0:=Tryz.sizeOf0
 v0:=Tryz.zeroValue0
 t3:=Tryz.underlying3
 a3:=Tryz.isAgg3
 z3:=Tryz.sizeOf3
 v3:=Tryz.zeroValue3
 t4:=Tryz.underlying4
 a4:=Tryz.isAgg4
 z4:=Tryz.sizeOf4
 v4:=Tryz.zeroValue4
 t5:=Tryz.underlying5
 a5:=Tryz.isAgg5
 z5:=Tryz.sizeOf5
 v5:=Tryz.zeroValue5
 t9:=Tryz.underlying9
 a9:=Tryz.isAgg9
 z9:=Tryz.sizeOf9
 v9:=Tryz.zeroValue9
 t21:=Tryz.underlying21
 a21:=Tryz.isAgg21
 z21:=Tryz.sizeOf21
 v21:=Tryz.zeroValue21
 t46:=Tryz.underlying228
 a46:=Tryz.isAgg228
 z46:=Tryz.sizeOf228
 v46:=Tryz.zeroValue228
 t105:=Tryz.underlying260
 a105:=Tryz.isAgg260
 z105:=Tryz.sizeOf260
 v105:=Tryz.zeroValue260
 t116:=Tryz.underlying252
 a116:=Tryz.isAgg252
 z116:=Tryz.sizeOf252
 t117:=Tryz.underlying253
 a117:=Tryz.isAgg253
 z117:=Tryz.sizeOf253
 v117:=Tryz.zeroValue253
 t119:=Tryz.underlying268
 a119:=Tryz.isAgg268
 z119:=Tryz.sizeOf268
 t124:=Tryz.underlying256
 a124:=Tryz.isAgg256
 z124:=Tryz.sizeOf256
 v124:=Tryz.zeroValue256
 t138:=Tryz.underlying270
 a138:=Tryz.isAgg270
 z138:=Tryz.sizeOf270
 v138:=Tryz.zeroValue270
 t139:=Tryz.underlying271
 a139:=Tryz.isAgg271
 z139:=Tryz.sizeOf271
 v139:=Tryz.zeroValue271
 g3:=by kernel_rfl
 g4:=by kernel_rfl }
def Tryz.lays137_ren:Go.Shelf.Ren:=⟨fun | 137=>183 | 217=>202 | 266=>214 | n=>n,fun | 9=>9 | 5=>5 | 3=>3 | n=>n,fun | n=>n⟩
theorem Tryz.lays137:Go.Proofs.Lays.n137 Tryz.prog Tryz.lays137_ren:={
 mixed:=by kernel_rfl
 f137:=Tryz.func183.trans (congrArg some (by kernel_rfl))
 f217:=Tryz.func202.trans (congrArg some (by kernel_rfl))
 f266:=Tryz.func214.trans (congrArg some (by kernel_rfl))
 t3:=Tryz.underlying3
 a3:=Tryz.isAgg3
 z3:=Tryz.sizeOf3
 v3:=Tryz.zeroValue3
 t5:=Tryz.underlying5
 a5:=Tryz.isAgg5
 z5:=Tryz.sizeOf5
 v5:=Tryz.zeroValue5
 t9:=Tryz.underlying9
 a9:=Tryz.isAgg9
 z9:=Tryz.sizeOf9
 v9:=Tryz.zeroValue9 }
open Go.RowKit in
theorem Tryz.strings_IndexByte (s:ByteArray) (c:Int) (w:World) :
 Calls Tryz.prog 183 #[.string s,.int .u8 c] w fun e w'=>e=.returned (.int .i64 (Lib.indexByte s.data.toList c.toNat.toUInt8))∧w'=w:=Any.strings_IndexByte Tryz.lays137 s c w
end Go.Proofs
