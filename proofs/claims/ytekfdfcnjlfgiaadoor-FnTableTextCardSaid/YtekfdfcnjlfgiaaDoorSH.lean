/- Contracts of the library at this program: laid by program, each one application of a theorem of the guide. -/
import Derived.Shelf.Strings.Builder1
import Derived.Shelf.Strings.Builder2
import Derived.Shelf.Strings.OnBuilder
import Derived.Shelf.Utf8.RuneCount
import Derived.Shelf.Strconv.Itoa0
import Derived.Shelf.Strconv.Itoa1
import Derived.Shelf.LaysM
import Derived.Shelf.Strconv.Itoa2
import Derived.Shelf.Strconv.Itoa3
import Derived.Shelf.Strconv.Itoa4
import Derived.Shelf.Strconv.ParseIntEmpty
import Derived.Shelf.Strconv.Clone
import Derived.Shelf.Strconv.SyntaxError
import Derived.Shelf.LaysC
import Derived.Shelf.Strconv.ToError
import Derived.Shelf.Strconv.Lower
import Derived.Shelf.Strconv.ParseUint10
import Derived.Shelf.Strconv.ParseUint10Empty
import Derived.Shelf.Strconv.ParseUint10Any
import Derived.Shelf.Strconv.ParseInt10
import Derived.Shelf.Strconv.RangeError
import Derived.Shelf.Strconv.ToErrorRange
import Derived.Shelf.Strconv.ParseUintEmpty
import Derived.Shelf.Strconv.ParseUint10b64
import Derived.Shelf.Strconv.ParseUint10b32
import Derived.Shelf.Strconv.ParseUint10b16
import Derived.Shelf.Strconv.ParseUint10b8
import Derived.Shelf.Strconv.ParseUint10At
import Derived.Shelf.Strconv.ParseInt10At64
import Derived.Shelf.Strconv.ParseInt10At32
import Derived.Shelf.Strconv.ParseInt10At16
import Derived.Shelf.Strconv.ParseInt10At8
import Derived.Shelf.Strconv.ParseInt10All
import Derived.Shelf.Strconv.ParseIntPublic10
import Derived.Shelf.Strings.Search1
import Derived.Shelf.Strings.Search2
import Derived.Shelf.Strings.Search3
import Derived.Shelf.Strings.Count
import Derived.Shelf.Strings.Shaped
import Derived.Shelf.Strings.Split
import Derived.Shelf.Strings.SplitShaped
import Derived.Shelf.Unicode.Decode
import Derived.Shelf.Strings.RuneCount
import Derived.Shelf.Strings.Explode
import Derived.Shelf.Unicode.DecodeSlow
import Derived.Shelf.Unicode.DecodeAny
import Derived.Ground.SlgnProg
import Derived.Shelf.SlicesG.Clone
import Derived.Shelf.SlicesE.Clone
import Derived.Test.YtekfdfcnjlfgiaaDoorProg
section
namespace Go.Proofs
open Go.Shelf
def Tryd.lays156_ren:Go.Shelf.Ren:=⟨fun | 156=>43 | 165=>52 | 166=>53 | 169=>54 | 240=>66 | 241=>67 | 276=>79 | 277=>80 | n=>n,fun | 31=>38 | 9=>9 | 3=>3 | 4=>4 | 0=>0 | 20=>20 | 72=>77 | 76=>79 | 70=>75 | 37=>22 | 75=>63 | 127=>91 | 164=>111 | 5=>5 | 80=>81 | n=>n,fun | n=>n⟩
theorem Tryd.lays156:Go.Proofs.Lays.n156 Tryd.prog Tryd.lays156_ren:={
 mixed:=by kernel_rfl
 f156:=Tryd.func43.trans (congrArg some (by kernel_rfl))
 f165:=Tryd.func52.trans (congrArg some (by kernel_rfl))
 f166:=Tryd.func53.trans (congrArg some (by kernel_rfl))
 f169:=Tryd.func54.trans (congrArg some (by kernel_rfl))
 f240:=Tryd.func66.trans (congrArg some (by kernel_rfl))
 f241:=Tryd.func67.trans (congrArg some (by kernel_rfl))
 f276:=Tryd.func79.trans (congrArg some (by kernel_rfl))
 f277:=Tryd.func80.trans (congrArg some (by kernel_rfl))
 t0:=Tryd.underlying0
 a0:=Tryd.isAgg0
 z0:=Tryd.sizeOf0
 v0:=Tryd.zeroValue0
 t3:=Tryd.underlying3
 a3:=Tryd.isAgg3
 z3:=Tryd.sizeOf3
 v3:=Tryd.zeroValue3
 t4:=Tryd.underlying4
 a4:=Tryd.isAgg4
 z4:=Tryd.sizeOf4
 v4:=Tryd.zeroValue4
 t9:=Tryd.underlying9
 a9:=Tryd.isAgg9
 z9:=Tryd.sizeOf9
 v9:=Tryd.zeroValue9
 t20:=Tryd.underlying20
 a20:=Tryd.isAgg20
 z20:=Tryd.sizeOf20
 v20:=Tryd.zeroValue20
 t31:=Tryd.underlying38
 a31:=Tryd.isAgg38
 z31:=Tryd.sizeOf38
 v31:=Tryd.zeroValue38
 t37:=Tryd.underlying22
 a37:=Tryd.isAgg22
 z37:=Tryd.sizeOf22
 v37:=Tryd.zeroValue22
 t70:=Tryd.underlying75
 a70:=Tryd.isAgg75
 z70:=Tryd.sizeOf75
 v70:=Tryd.zeroValue75
 t72:=Tryd.underlying77
 a72:=Tryd.isAgg77
 z72:=Tryd.sizeOf77
 v72:=Tryd.zeroValue77
 t75:=Tryd.underlying63
 a75:=Tryd.isAgg63
 z75:=Tryd.sizeOf63
 v75:=Tryd.zeroValue63
 t76:=Tryd.underlying79
 a76:=Tryd.isAgg79
 z76:=Tryd.sizeOf79
 v76:=Tryd.zeroValue79
 t127:=Tryd.underlying91
 a127:=Tryd.isAgg91
 z127:=Tryd.sizeOf91
 v127:=Tryd.zeroValue91
 t164:=Tryd.underlying111
 a164:=Tryd.isAgg111
 z164:=Tryd.sizeOf111
 v164:=Tryd.zeroValue111 }
theorem Tryd.Builder_Extra_156:Builder.Extra Tryd.prog Tryd.lays156_ren:={
 sizeBuilder:=by kernel_rfl
 liesBuilder:=by kernel_rfl
 t5:=Tryd.underlying5
 a5:=Tryd.isAgg5
 z5:=Tryd.sizeOf5
 v5:=Tryd.zeroValue5
 infoByte:=by kernel_rfl
 cellsByte:=by kernel_rfl
 sizeByte:=by kernel_rfl
 neB5:=by decide }
open Go.RowKit in
theorem Tryd.strings_Join_none(a:Option Addr)(c:Nat)(sep:ByteArray)(w:World) :
 Calls Tryd.prog 43 #[.slice a 0 c,.string sep] w fun e w'=>e=.returned (.string ⟨#[]⟩)/\w'=w:=Any.strings_Join_none Tryd.lays156 Tryd.Builder_Extra_156 a c sep w
open Go.RowKit in
theorem Tryd.strings_Join(bk o c:Nat)(xs:List ByteArray)(sep:ByteArray)(w:World)(hcells:∀(j:Nat) x,xs[j]?=some x->w.cell? ⟨bk,o+j,none⟩=some (.string x))(hbk:bk<w.heap.size)(hN:xs.length<=140737488355328)(hcap:xs.length<=c)(hlen:(Lib.join (xs.map (·.data.toList)) sep.data.toList).length<=140737488355328) :
 Calls Tryd.prog 43 #[.slice (some ⟨bk,o,none⟩) xs.length c,.string sep] w fun e w'=>e=.returned (.string ⟨(Lib.join (xs.map (·.data.toList)) sep.data.toList).toArray⟩)/\Below w.heap.size w w':=Any.strings_Join Tryd.lays156 Tryd.Builder_Extra_156 bk o c xs sep w hcells hbk hN hcap hlen
def Tryd.laysM173_ren:Go.Shelf.Ren:=⟨fun | 173=>51 | 246=>65 | 283=>75 | 284=>76 | 285=>77 | 286=>78 | 129=>83 | 317=>82 | 318=>84 | 319=>85 | 320=>86 | 337=>87 | 338=>88 | n=>n,fun | 2=>2 | 3=>3 | 9=>9 | 4=>4 | 171=>106 | 0=>0 | 53=>85 | 37=>22 | 5=>5 | 173=>109 | 212=>118 | 51=>96 | 20=>20 | 213=>119 | 46=>83 | 232=>123 | 233=>124 | n=>n,fun | 17=>5 | 18=>6 | 19=>7 | n=>n⟩
theorem Tryd.laysM173:Go.Proofs.LaysM.n173 Tryd.prog Tryd.laysM173_ren:={
 mixed:=by kernel_rfl
 f129:=Tryd.func83.trans (congrArg some (by kernel_rfl))
 f173:=Tryd.func51.trans (congrArg some (by kernel_rfl))
 f246:=Tryd.func65.trans (congrArg some (by kernel_rfl))
 f283:=Tryd.func75.trans (congrArg some (by kernel_rfl))
 f284:=Tryd.func76.trans (congrArg some (by kernel_rfl))
 f285:=Tryd.func77.trans (congrArg some (by kernel_rfl))
 f286:=Tryd.func78.trans (congrArg some (by kernel_rfl))
 f317:=Tryd.func82.trans (congrArg some (by kernel_rfl))
 f318:=Tryd.func84.trans (congrArg some (by kernel_rfl))
 f319:=Tryd.func85.trans (congrArg some (by kernel_rfl))
 f320:=Tryd.func86.trans (congrArg some (by kernel_rfl))
 f337:=Tryd.func87.trans (congrArg some (by kernel_rfl))
 f338:=Tryd.func88.trans (congrArg some (by kernel_rfl))
 t0:=Tryd.underlying0
 a0:=Tryd.isAgg0
 z0:=Tryd.sizeOf0
 v0:=Tryd.zeroValue0
 t2:=Tryd.underlying2
 a2:=Tryd.isAgg2
 z2:=Tryd.sizeOf2
 v2:=Tryd.zeroValue2
 t3:=Tryd.underlying3
 a3:=Tryd.isAgg3
 z3:=Tryd.sizeOf3
 v3:=Tryd.zeroValue3
 t4:=Tryd.underlying4
 a4:=Tryd.isAgg4
 z4:=Tryd.sizeOf4
 v4:=Tryd.zeroValue4
 t5:=Tryd.underlying5
 a5:=Tryd.isAgg5
 z5:=Tryd.sizeOf5
 v5:=Tryd.zeroValue5
 t9:=Tryd.underlying9
 a9:=Tryd.isAgg9
 z9:=Tryd.sizeOf9
 v9:=Tryd.zeroValue9
 t20:=Tryd.underlying20
 a20:=Tryd.isAgg20
 z20:=Tryd.sizeOf20
 v20:=Tryd.zeroValue20
 t37:=Tryd.underlying22
 a37:=Tryd.isAgg22
 z37:=Tryd.sizeOf22
 v37:=Tryd.zeroValue22
 t46:=Tryd.underlying83
 a46:=Tryd.isAgg83
 z46:=Tryd.sizeOf83
 v46:=Tryd.zeroValue83
 t51:=Tryd.underlying96
 a51:=Tryd.isAgg96
 z51:=Tryd.sizeOf96
 v51:=Tryd.zeroValue96
 t53:=Tryd.underlying85
 a53:=Tryd.isAgg85
 z53:=Tryd.sizeOf85
 v53:=Tryd.zeroValue85
 t171:=Tryd.underlying106
 a171:=Tryd.isAgg106
 z171:=Tryd.sizeOf106
 v171:=Tryd.zeroValue106
 t173:=Tryd.underlying109
 a173:=Tryd.isAgg109
 z173:=Tryd.sizeOf109
 v173:=Tryd.zeroValue109
 t212:=Tryd.underlying118
 a212:=Tryd.isAgg118
 z212:=Tryd.sizeOf118
 v212:=Tryd.zeroValue118
 t213:=Tryd.underlying119
 a213:=Tryd.isAgg119
 z213:=Tryd.sizeOf119
 t232:=Tryd.underlying123
 a232:=Tryd.isAgg123
 z232:=Tryd.sizeOf123
 v232:=Tryd.zeroValue123
 t233:=Tryd.underlying124
 a233:=Tryd.isAgg124
 z233:=Tryd.sizeOf124
 v233:=Tryd.zeroValue124
 g17:=by kernel_rfl
 g18:=by kernel_rfl
 g19:=by kernel_rfl
 i0:=by kernel_rfl
 i2:=by kernel_rfl
 i3:=by kernel_rfl
 i4:=by kernel_rfl
 i5:=by kernel_rfl
 i9:=by kernel_rfl
 i20:=by kernel_rfl
 i37:=by kernel_rfl
 i46:=by kernel_rfl
 i51:=by kernel_rfl
 i53:=by kernel_rfl
 i171:=by kernel_rfl
 i173:=by kernel_rfl
 i212:=by kernel_rfl
 i232:=by kernel_rfl
 i233:=by kernel_rfl
 m17:=by kernel_rfl
 m18:=by kernel_rfl
 m19:=by kernel_rfl }
open Go.RowKit Go.Sort Go.Lib in
theorem Tryd.strconv_FormatInt_10 (n : Int) (h0 : -9223372036854775808 ≤ n) (h1 : n ≤ 9223372036854775807) (w : World) (htab : Lib.TabIs Tryd.prog w "internal/strconv.uint64pow10" .u64 Lib.pow10Tab) :
 Calls Tryd.prog 51 #[.int .i64 n,.int .i64 10] w fun e w'=>e=.returned (.string ⟨(Lib.itoa n).toArray⟩)/\∃k os,w'=grow (w.drewN k) os:=Any.strconv_FormatInt_10 Tryd.laysM173 n h0 h1 w htab
def Tryd.laysC174_ren:Go.Shelf.Ren:=⟨fun | 174=>41 | 247=>49 | 245=>50 | 287=>60 | 279=>61 | 280=>62 | 281=>63 | 282=>64 | 321=>70 | 322=>71 | 316=>72 | 171=>74 | 205=>73 | 243=>81 | 246=>65 | 283=>75 | 284=>76 | 285=>77 | 286=>78 | 129=>83 | 317=>82 | 318=>84 | 319=>85 | 320=>86 | 337=>87 | 338=>88 | n=>n,fun | 9=>9 | 3=>3 | 2=>2 | 75=>63 | 85=>64 | 4=>4 | 167=>84 | 5=>5 | 53=>85 | 175=>86 | 46=>83 | 168=>88 | 37=>22 | 0=>0 | 210=>103 | 21=>21 | 127=>91 | 145=>116 | 143=>114 | 171=>106 | 173=>109 | 212=>118 | 51=>96 | 20=>20 | 213=>119 | 232=>123 | 233=>124 | 80=>81 | n=>n,fun | 15=>3 | 16=>4 | 17=>5 | 18=>6 | 19=>7 | n=>n⟩
theorem Tryd.laysC174:Go.Proofs.LaysC.n174 Tryd.prog Tryd.laysC174_ren:={
 mixed:=by kernel_rfl
 f129:=Tryd.func83.trans (congrArg some (by kernel_rfl))
 f171:=Tryd.func74.trans (congrArg some (by kernel_rfl))
 f174:=Tryd.func41.trans (congrArg some (by kernel_rfl))
 f205:=Tryd.func73.trans (congrArg some (by kernel_rfl))
 f243:=Tryd.func81.trans (congrArg some (by kernel_rfl))
 f245:=Tryd.func50.trans (congrArg some (by kernel_rfl))
 f246:=Tryd.func65.trans (congrArg some (by kernel_rfl))
 f247:=Tryd.func49.trans (congrArg some (by kernel_rfl))
 f279:=Tryd.func61.trans (congrArg some (by kernel_rfl))
 f280:=Tryd.func62.trans (congrArg some (by kernel_rfl))
 f281:=Tryd.func63.trans (congrArg some (by kernel_rfl))
 f282:=Tryd.func64.trans (congrArg some (by kernel_rfl))
 f283:=Tryd.func75.trans (congrArg some (by kernel_rfl))
 f284:=Tryd.func76.trans (congrArg some (by kernel_rfl))
 f285:=Tryd.func77.trans (congrArg some (by kernel_rfl))
 f286:=Tryd.func78.trans (congrArg some (by kernel_rfl))
 f287:=Tryd.func60.trans (congrArg some (by kernel_rfl))
 f316:=Tryd.func72.trans (congrArg some (by kernel_rfl))
 f317:=Tryd.func82.trans (congrArg some (by kernel_rfl))
 f318:=Tryd.func84.trans (congrArg some (by kernel_rfl))
 f319:=Tryd.func85.trans (congrArg some (by kernel_rfl))
 f320:=Tryd.func86.trans (congrArg some (by kernel_rfl))
 f321:=Tryd.func70.trans (congrArg some (by kernel_rfl))
 f322:=Tryd.func71.trans (congrArg some (by kernel_rfl))
 f337:=Tryd.func87.trans (congrArg some (by kernel_rfl))
 f338:=Tryd.func88.trans (congrArg some (by kernel_rfl))
 t0:=Tryd.underlying0
 a0:=Tryd.isAgg0
 z0:=Tryd.sizeOf0
 v0:=Tryd.zeroValue0
 t2:=Tryd.underlying2
 a2:=Tryd.isAgg2
 z2:=Tryd.sizeOf2
 v2:=Tryd.zeroValue2
 t3:=Tryd.underlying3
 a3:=Tryd.isAgg3
 z3:=Tryd.sizeOf3
 v3:=Tryd.zeroValue3
 t4:=Tryd.underlying4
 a4:=Tryd.isAgg4
 z4:=Tryd.sizeOf4
 v4:=Tryd.zeroValue4
 t5:=Tryd.underlying5
 a5:=Tryd.isAgg5
 z5:=Tryd.sizeOf5
 v5:=Tryd.zeroValue5
 t9:=Tryd.underlying9
 a9:=Tryd.isAgg9
 z9:=Tryd.sizeOf9
 v9:=Tryd.zeroValue9
 t20:=Tryd.underlying20
 a20:=Tryd.isAgg20
 z20:=Tryd.sizeOf20
 v20:=Tryd.zeroValue20
 t21:=Tryd.underlying21
 a21:=Tryd.isAgg21
 z21:=Tryd.sizeOf21
 v21:=Tryd.zeroValue21
 t37:=Tryd.underlying22
 a37:=Tryd.isAgg22
 z37:=Tryd.sizeOf22
 v37:=Tryd.zeroValue22
 t46:=Tryd.underlying83
 a46:=Tryd.isAgg83
 z46:=Tryd.sizeOf83
 v46:=Tryd.zeroValue83
 t51:=Tryd.underlying96
 a51:=Tryd.isAgg96
 z51:=Tryd.sizeOf96
 v51:=Tryd.zeroValue96
 t53:=Tryd.underlying85
 a53:=Tryd.isAgg85
 z53:=Tryd.sizeOf85
 v53:=Tryd.zeroValue85
 t75:=Tryd.underlying63
 a75:=Tryd.isAgg63
 z75:=Tryd.sizeOf63
 v75:=Tryd.zeroValue63
 t85:=Tryd.underlying64
 a85:=Tryd.isAgg64
 z85:=Tryd.sizeOf64
 v85:=Tryd.zeroValue64
 t127:=Tryd.underlying91
 a127:=Tryd.isAgg91
 z127:=Tryd.sizeOf91
 v127:=Tryd.zeroValue91
 t143:=Tryd.underlying114
 a143:=Tryd.isAgg114
 z143:=Tryd.sizeOf114
 v143:=Tryd.zeroValue114
 t145:=Tryd.underlying116
 a145:=Tryd.isAgg116
 z145:=Tryd.sizeOf116
 v145:=Tryd.zeroValue116
 t167:=Tryd.underlying84
 a167:=Tryd.isAgg84
 z167:=Tryd.sizeOf84
 v167:=Tryd.zeroValue84
 t168:=Tryd.underlying88
 a168:=Tryd.isAgg88
 z168:=Tryd.sizeOf88
 v168:=Tryd.zeroValue88
 t171:=Tryd.underlying106
 a171:=Tryd.isAgg106
 z171:=Tryd.sizeOf106
 v171:=Tryd.zeroValue106
 t173:=Tryd.underlying109
 a173:=Tryd.isAgg109
 z173:=Tryd.sizeOf109
 v173:=Tryd.zeroValue109
 t175:=Tryd.underlying86
 a175:=Tryd.isAgg86
 z175:=Tryd.sizeOf86
 v175:=Tryd.zeroValue86
 t210:=Tryd.underlying103
 a210:=Tryd.isAgg103
 z210:=Tryd.sizeOf103
 v210:=Tryd.zeroValue103
 t212:=Tryd.underlying118
 a212:=Tryd.isAgg118
 z212:=Tryd.sizeOf118
 v212:=Tryd.zeroValue118
 t213:=Tryd.underlying119
 a213:=Tryd.isAgg119
 z213:=Tryd.sizeOf119
 t232:=Tryd.underlying123
 a232:=Tryd.isAgg123
 z232:=Tryd.sizeOf123
 v232:=Tryd.zeroValue123
 t233:=Tryd.underlying124
 a233:=Tryd.isAgg124
 z233:=Tryd.sizeOf124
 v233:=Tryd.zeroValue124
 g15:=by kernel_rfl
 g16:=by kernel_rfl
 g17:=by kernel_rfl
 g18:=by kernel_rfl
 g19:=by kernel_rfl
 t80:=Tryd.underlying81
 a80:=Tryd.isAgg81
 z80:=Tryd.sizeOf81
 v80:=Tryd.zeroValue81
 i0:=by kernel_rfl
 i2:=by kernel_rfl
 i3:=by kernel_rfl
 i4:=by kernel_rfl
 i5:=by kernel_rfl
 i9:=by kernel_rfl
 i20:=by kernel_rfl
 i21:=by kernel_rfl
 i37:=by kernel_rfl
 i46:=by kernel_rfl
 i51:=by kernel_rfl
 i53:=by kernel_rfl
 i75:=by kernel_rfl
 i80:=by kernel_rfl
 i85:=by kernel_rfl
 i127:=by kernel_rfl
 i143:=by kernel_rfl
 i145:=by kernel_rfl
 i167:=by kernel_rfl
 i168:=by kernel_rfl
 i171:=by kernel_rfl
 i173:=by kernel_rfl
 i175:=by kernel_rfl
 i210:=by kernel_rfl
 i212:=by kernel_rfl
 i232:=by kernel_rfl
 i233:=by kernel_rfl
 m15:=by kernel_rfl
 m16:=by kernel_rfl
 m17:=by kernel_rfl
 m18:=by kernel_rfl
 m19:=by kernel_rfl
 c0:=by kernel_rfl
 c2:=by kernel_rfl
 c3:=by kernel_rfl
 c4:=by kernel_rfl
 c5:=by kernel_rfl
 c9:=by kernel_rfl
 c20:=by kernel_rfl
 c21:=by kernel_rfl
 c37:=by kernel_rfl
 c46:=by kernel_rfl
 c51:=by kernel_rfl
 c53:=by kernel_rfl
 c75:=by kernel_rfl
 c80:=by kernel_rfl
 c85:=by kernel_rfl
 c127:=by kernel_rfl
 c143:=by kernel_rfl
 c145:=by kernel_rfl
 c167:=by kernel_rfl
 c168:=by kernel_rfl
 c171:=by kernel_rfl
 c173:=by kernel_rfl
 c175:=by kernel_rfl
 c210:=by kernel_rfl
 c212:=by kernel_rfl
 c213:=by kernel_rfl
 c232:=by kernel_rfl
 c233:=by kernel_rfl }
open Go.RowKit in
theorem Tryd.strconv_ParseInt_10_at64_ok(s:ByteArray)(hmax:s.size<=9223372036854775806)(v:Int)(h:Lib.parseIntB 64 s.data.toList=.ok v)(w:World) :
 Calls Tryd.prog 41 #[.string s,.int .i64 10,.int .i64 64] w fun e w'=>e=.returned (.tuple #[.int .i64 v,.nilIface])/\(w'=w∨∃t,w'=Lib.bytesWorld w 5 t):=Any.strconv_ParseInt_10_at64_ok Tryd.laysC174 s hmax v h w
open Go.RowKit in
theorem Tryd.strconv_ParseInt_10_at64_syntax(s:ByteArray)(hlim:s.size<=281474976710656)(h1:∀v,Lib.parseIntB 64 s.data.toList≠.ok v)(h2:Lib.parseIntB 64 s.data.toList≠.range)(ev:Value)(w:World)(hv:w.cell? ⟨3,0,none⟩=some ev)(hev:ev=.nilIface∨∃te pe,ev=.iface te pe) :
 Calls Tryd.prog 41 #[.string s,.int .i64 10,.int .i64 64] w fun e w'=>∃N,e=.returned (.tuple #[.int .i64 (0),.iface 88 (.pointer (some ⟨N,0,none⟩))])/\w.heap.size<=N/\w'.heap[N]?=some (.cells #[.string ⟨#[80,97,114,115,101,73,110,116]⟩,.string s,ev] 103 (0,0))/\Below w.heap.size w w':=Any.strconv_ParseInt_10_at64_syntax Tryd.laysC174 s hlim (by cases e:Lib.parseIntB 64 s.data.toList with | ok v=>exact absurd e (h1 v) | range=>exact absurd e h2 | _=>rfl) ev w hv hev
open Go.RowKit in
theorem Tryd.strconv_ParseInt_10_at64_range(s:ByteArray)(hlim:s.size<=281474976710656)(h:Lib.parseIntB 64 s.data.toList=.range)(ev:Value)(w:World)(hv:w.cell? ⟨4,0,none⟩=some ev)(hev:ev=.nilIface∨∃te pe,ev=.iface te pe) :
 Calls Tryd.prog 41 #[.string s,.int .i64 10,.int .i64 64] w fun e w'=>∃N,e=.returned (.tuple #[.int .i64 (Lib.intSat 64 s.data.toList),.iface 88 (.pointer (some ⟨N,0,none⟩))])/\w.heap.size<=N/\w'.heap[N]?=some (.cells #[.string ⟨#[80,97,114,115,101,73,110,116]⟩,.string s,ev] 103 (0,0))/\Below w.heap.size w w':=Any.strconv_ParseInt_10_at64_range Tryd.laysC174 s hlim h ev w hv hev
def Tryd.lays146_ren:Go.Shelf.Ren:=⟨fun | 146=>14 | 221=>28 | 268=>38 | 138=>39 | 143=>40 | 195=>45 | 197=>46 | 218=>47 | 219=>48 | 260=>55 | 217=>56 | 225=>57 | 224=>58 | 267=>59 | 266=>68 | 314=>69 | n=>n,fun | 9=>9 | 31=>38 | 3=>3 | 4=>4 | 0=>0 | 105=>70 | 21=>21 | 5=>5 | 46=>83 | 119=>92 | 139=>95 | 138=>94 | 146=>97 | 51=>96 | n=>n,fun | 1=>0 | 3=>1 | 4=>2 | n=>n⟩
theorem Tryd.lays146:Go.Proofs.Lays.n146 Tryd.prog Tryd.lays146_ren:={
 mixed:=by kernel_rfl
 f138:=Tryd.func39.trans (congrArg some (by kernel_rfl))
 f143:=Tryd.func40.trans (congrArg some (by kernel_rfl))
 f146:=Tryd.func14.trans (congrArg some (by kernel_rfl))
 f195:=Tryd.func45.trans (congrArg some (by kernel_rfl))
 f197:=Tryd.func46.trans (congrArg some (by kernel_rfl))
 f217:=Tryd.func56.trans (congrArg some (by kernel_rfl))
 f218:=Tryd.func47.trans (congrArg some (by kernel_rfl))
 f219:=Tryd.func48.trans (congrArg some (by kernel_rfl))
 f221:=Tryd.func28.trans (congrArg some (by kernel_rfl))
 f224:=Tryd.func58.trans (congrArg some (by kernel_rfl))
 f225:=Tryd.func57.trans (congrArg some (by kernel_rfl))
 f260:=Tryd.func55.trans (congrArg some (by kernel_rfl))
 f266:=Tryd.func68.trans (congrArg some (by kernel_rfl))
 f267:=Tryd.func59.trans (congrArg some (by kernel_rfl))
 f268:=Tryd.func38.trans (congrArg some (by kernel_rfl))
 f314:=Tryd.func69.trans (congrArg some (by kernel_rfl))
 t0:=Tryd.underlying0
 a0:=Tryd.isAgg0
 z0:=Tryd.sizeOf0
 v0:=Tryd.zeroValue0
 t3:=Tryd.underlying3
 a3:=Tryd.isAgg3
 z3:=Tryd.sizeOf3
 v3:=Tryd.zeroValue3
 t4:=Tryd.underlying4
 a4:=Tryd.isAgg4
 z4:=Tryd.sizeOf4
 v4:=Tryd.zeroValue4
 t5:=Tryd.underlying5
 a5:=Tryd.isAgg5
 z5:=Tryd.sizeOf5
 v5:=Tryd.zeroValue5
 t9:=Tryd.underlying9
 a9:=Tryd.isAgg9
 z9:=Tryd.sizeOf9
 v9:=Tryd.zeroValue9
 t21:=Tryd.underlying21
 a21:=Tryd.isAgg21
 z21:=Tryd.sizeOf21
 v21:=Tryd.zeroValue21
 t31:=Tryd.underlying38
 a31:=Tryd.isAgg38
 z31:=Tryd.sizeOf38
 v31:=Tryd.zeroValue38
 t46:=Tryd.underlying83
 a46:=Tryd.isAgg83
 z46:=Tryd.sizeOf83
 v46:=Tryd.zeroValue83
 t51:=Tryd.underlying96
 a51:=Tryd.isAgg96
 z51:=Tryd.sizeOf96
 v51:=Tryd.zeroValue96
 t105:=Tryd.underlying70
 a105:=Tryd.isAgg70
 z105:=Tryd.sizeOf70
 v105:=Tryd.zeroValue70
 t119:=Tryd.underlying92
 a119:=Tryd.isAgg92
 z119:=Tryd.sizeOf92
 t138:=Tryd.underlying94
 a138:=Tryd.isAgg94
 z138:=Tryd.sizeOf94
 v138:=Tryd.zeroValue94
 t139:=Tryd.underlying95
 a139:=Tryd.isAgg95
 z139:=Tryd.sizeOf95
 v139:=Tryd.zeroValue95
 t146:=Tryd.underlying97
 a146:=Tryd.isAgg97
 z146:=Tryd.sizeOf97
 v146:=Tryd.zeroValue97
 g1:=by kernel_rfl
 g3:=by kernel_rfl
 g4:=by kernel_rfl }
open Go.RowKit Go.Lib in
theorem Tryd.strings_Split(s sep:ByteArray)(m:Int)(w:World)(hs:s.size<4294967281)(hm:w.cell? ⟨0,0,none⟩=some (.int .i64 m))(h1:1<=sep.size) :
 Calls Tryd.prog 14 #[.string s,.string sep] w fun e w'=>e=.returned (.slice (some ⟨w.heap.size,0,none⟩) (Lib.countB s sep+1) (Lib.countB s sep+1))/\w'=w.alloc (.cells ((Lib.splitB sep 0 (Lib.countB s sep) s).map Value.string).toArray 9):=Any.strings_Split Tryd.lays146 (by kernel_rfl) s sep m w hs hm h1
end Go.Proofs
end
