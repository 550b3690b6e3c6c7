/- Contracts of the library at this program: laid by program, each one application of a theorem of the guide. -/
import Derived.Shelf.Strings.Trim
import Derived.Shelf.Small.Utf8
import Derived.Shelf.Small.Strs
import Derived.Shelf.Strings.Search1
import Derived.Shelf.Unicode.Decode
import Derived.Shelf.Strings.Runes
import Derived.Shelf.Strings.AsciiSet
import Derived.Shelf.Unicode.DecodeSlow
import Derived.Shelf.Unicode.DecodeAny
import Derived.Shelf.Unicode.DecodeLast
import Derived.Shelf.Slices.Turned
import Derived.Ground.SlgnProg
import Derived.Shelf.SlicesE.Clone
import Derived.Test.YticmgmebjmblgaaGreatDoorProg
namespace Go.Proofs
open Go.Shelf
def Tryz.lays160_ren:Go.Shelf.Ren:=⟨fun | 160=>158 | 232=>187 | 231=>186 | 227=>188 | 234=>190 | 233=>189 | 236=>192 | 235=>191 | 228=>212 | 271=>215 | 151=>214 | 197=>213 | 120=>231 | 152=>230 | 260=>229 | 137=>159 | 119=>242 | 224=>243 | 225=>244 | 217=>193 | 266=>216 | n=>n,fun | 9=>9 | 4=>4 | 3=>3 | 5=>5 | 117=>249 | 116=>248 | 0=>0 | 124=>252 | 21=>21 | 105=>272 | 46=>263 | 119=>290 | 139=>293 | 138=>292 | n=>n,fun | 3=>1 | 4=>2 | n=>n⟩
theorem Tryz.lays160:Go.Proofs.Lays.n160 Tryz.prog Tryz.lays160_ren:={
  mixed:=by kernel_rfl
  f119:=Tryz.func242.trans (congrArg some (by kernel_rfl))
  f120:=Tryz.func231.trans (congrArg some (by kernel_rfl))
  f137:=Tryz.func159.trans (congrArg some (by kernel_rfl))
  f151:=Tryz.func214.trans (congrArg some (by kernel_rfl))
  f152:=Tryz.func230.trans (congrArg some (by kernel_rfl))
  f160:=Tryz.func158.trans (congrArg some (by kernel_rfl))
  f197:=Tryz.func213.trans (congrArg some (by kernel_rfl))
  f217:=Tryz.func193.trans (congrArg some (by kernel_rfl))
  f224:=Tryz.func243.trans (congrArg some (by kernel_rfl))
  f225:=Tryz.func244.trans (congrArg some (by kernel_rfl))
  f227:=Tryz.func188.trans (congrArg some (by kernel_rfl))
  f228:=Tryz.func212.trans (congrArg some (by kernel_rfl))
  f231:=Tryz.func186.trans (congrArg some (by kernel_rfl))
  f232:=Tryz.func187.trans (congrArg some (by kernel_rfl))
  f233:=Tryz.func189.trans (congrArg some (by kernel_rfl))
  f234:=Tryz.func190.trans (congrArg some (by kernel_rfl))
  f235:=Tryz.func191.trans (congrArg some (by kernel_rfl))
  f236:=Tryz.func192.trans (congrArg some (by kernel_rfl))
  f260:=Tryz.func229.trans (congrArg some (by kernel_rfl))
  f266:=Tryz.func216.trans (congrArg some (by kernel_rfl))
  f271:=Tryz.func215.trans (congrArg some (by kernel_rfl))
  t0:=Tryz.underlying0
  a0:=Tryz.isAgg0
  z0:=Tryz.sizeOf0
  v0:=Tryz.zeroValue0
  t3:=Tryz.underlying3
  a3:=Tryz.isAgg3
  z3:=Tryz.sizeOf3
  v3:=Tryz.zeroValue3
  t4:=Tryz.underlying4
  a4:=Tryz.isAgg4
  z4:=Tryz.sizeOf4
  v4:=Tryz.zeroValue4
  t5:=Tryz.underlying5
  a5:=Tryz.isAgg5
  z5:=Tryz.sizeOf5
  v5:=Tryz.zeroValue5
  t9:=Tryz.underlying9
  a9:=Tryz.isAgg9
  z9:=Tryz.sizeOf9
  v9:=Tryz.zeroValue9
  t21:=Tryz.underlying21
  a21:=Tryz.isAgg21
  z21:=Tryz.sizeOf21
  v21:=Tryz.zeroValue21
  t46:=Tryz.underlying263
  a46:=Tryz.isAgg263
  z46:=Tryz.sizeOf263
  v46:=Tryz.zeroValue263
  t105:=Tryz.underlying272
  a105:=Tryz.isAgg272
  z105:=Tryz.sizeOf272
  v105:=Tryz.zeroValue272
  t116:=Tryz.underlying248
  a116:=Tryz.isAgg248
  z116:=Tryz.sizeOf248
  t117:=Tryz.underlying249
  a117:=Tryz.isAgg249
  z117:=Tryz.sizeOf249
  v117:=Tryz.zeroValue249
  t119:=Tryz.underlying290
  a119:=Tryz.isAgg290
  z119:=Tryz.sizeOf290
  t124:=Tryz.underlying252
  a124:=Tryz.isAgg252
  z124:=Tryz.sizeOf252
  v124:=Tryz.zeroValue252
  t138:=Tryz.underlying292
  a138:=Tryz.isAgg292
  z138:=Tryz.sizeOf292
  v138:=Tryz.zeroValue292
  t139:=Tryz.underlying293
  a139:=Tryz.isAgg293
  z139:=Tryz.sizeOf293
  v139:=Tryz.zeroValue293
  g3:=by kernel_rfl
  g4:=by kernel_rfl }
def Tryz.lays137_ren:Go.Shelf.Ren:=⟨fun | 137=>159 | 217=>193 | 266=>216 | n=>n,fun | 9=>9 | 5=>5 | 3=>3 | n=>n,fun | n=>n⟩
theorem Tryz.lays137:Go.Proofs.Lays.n137 Tryz.prog Tryz.lays137_ren:={
  mixed:=by kernel_rfl
  f137:=Tryz.func159.trans (congrArg some (by kernel_rfl))
  f217:=Tryz.func193.trans (congrArg some (by kernel_rfl))
  f266:=Tryz.func216.trans (congrArg some (by kernel_rfl))
  t3:=Tryz.underlying3
  a3:=Tryz.isAgg3
  z3:=Tryz.sizeOf3
  v3:=Tryz.zeroValue3
  t5:=Tryz.underlying5
  a5:=Tryz.isAgg5
  z5:=Tryz.sizeOf5
  v5:=Tryz.zeroValue5
  t9:=Tryz.underlying9
  a9:=Tryz.isAgg9
  z9:=Tryz.sizeOf9
  v9:=Tryz.zeroValue9 }
open Go.RowKit in
theorem Tryz.strings_IndexByte (s:ByteArray) (c:Int) (w:World) :
    Calls Tryz.prog 159 #[.string s,.int .u8 c] w fun e w'=>e=.returned (.int .i64 (Lib.indexByte s.data.toList c.toNat.toUInt8))∧w'=w:=Any.strings_IndexByte Tryz.lays137 s c w
end Go.Proofs
