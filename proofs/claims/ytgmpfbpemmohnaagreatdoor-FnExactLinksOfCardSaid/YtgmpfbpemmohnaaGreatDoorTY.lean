/- The types of this seat's program. -/
import Derived.Test.YtgmpfbpemmohnaaGreatDoorXE
import Derived.Test.YtgmpfbpemmohnaaGreatDoorProg
import Derived.KernelRfl
namespace Go.Proofs.YtgmpfbpemmohnaaGreatDoor
open Go Go.Proofs Go.Proofs.Sv Go.Proofs.Xv
instance:Mixed Tryz.prog:=⟨by kernel_rfl⟩
abbrev y7:Ty:=.pr (.int .i64) (.pr (.int .i64) (.pr .bool ((.int .u8))))
abbrev y8:Ty:=.pr (.int .i64) (.pr (.int .i64) (.pr .bool ((.int .u8))))
abbrev y13:Ty:=.pr .str ((.int .u64))
abbrev y14:Ty:=.pr .str ((.int .u64))
abbrev y213:Ty:=.pr .str (.pr (.int .i64) (.pr (.int .i64) (.bool)))
abbrev Y213:Type:=ByteArray×Int×Int×Bool
abbrev y243:Ty:=.pr (.sl (.int .i64)) (.pr (.sl (.int .i64)) ((.sl (.int .i64))))
abbrev Y243:Type:=List Int×List Int×List Int
abbrev y217:Ty:=.pr (.int .i64) (.pr (.int .i64) (.pr (.int .i64) (.pr (.int .i64) (.pr (.sl y243) ((.sl y243))))))
abbrev Y217:Type:=Int×Int×Int×Int×List Y243×List Y243
abbrev y164:Ty:=.pr .str (.pr (.int .i64) (.pr (.sl y213) (.pr (.sl y217) (.pr (.sl (.int .i64)) (.pr (.int .i64) ((.int .i64)))))))
abbrev Y164:Type:=ByteArray×Int×List Y213×List Y217×List Int×Int×Int
abbrev y166:Ty:=.pr .str (.pr (.int .i64) ((.sl (.int .i64))))
abbrev Y166:Type:=ByteArray×Int×List Int
abbrev y169:Ty:=.pr .str (.pr (.int .i64) ((.int .i64)))
abbrev Y169:Type:=ByteArray×Int×Int
abbrev y28:Ty:=.pr (.sl y166) (.pr (.sl .str) ((.sl y169)))
abbrev y29:Ty:=.pr (.sl y166) (.pr (.sl .str) ((.sl y169)))
abbrev Y29:Type:=List Y166×List ByteArray×List Y169
abbrev y111:Ty:=.pr (.sl (.int .i64)) (.pr (.sl (.int .i64)) (.pr (.sl (.int .i64)) ((.sl (.int .i64)))))
abbrev Y111:Type:=List Int×List Int×List Int×List Int
abbrev y32:Ty:=.pr ((.sl y164)) (.pr y29 ((.sl y111)))
abbrev Y32:Type:=List Y164×Y29×List Y111
abbrev y205:Ty:=.pr .str (.pr (.int .i64) (.pr (.int .i64) (.bool)))
abbrev Y205:Type:=ByteArray×Int×Int×Bool
abbrev y223:Ty:=.pr (.sl (.int .i64)) (.pr (.sl (.int .i64)) ((.sl (.int .i64))))
abbrev Y223:Type:=List Int×List Int×List Int
abbrev y139:Ty:=.pr (.int .i64) (.pr (.int .i64) (.pr (.int .i64) (.pr (.int .i64) (.pr (.sl y223) ((.sl y223))))))
abbrev Y139:Type:=Int×Int×Int×Int×List Y223×List Y223
abbrev y134:Ty:=.pr .str (.pr (.int .i64) (.pr (.sl y205) (.pr (.sl y139) (.pr (.sl (.int .i64)) (.pr (.int .i64) ((.int .i64)))))))
abbrev Y134:Type:=ByteArray×Int×List Y205×List Y139×List Int×Int×Int
abbrev y136:Ty:=.pr .str (.pr (.int .i64) ((.sl (.int .i64))))
abbrev Y136:Type:=ByteArray×Int×List Int
abbrev y172:Ty:=.pr .str (.pr (.int .i64) ((.int .i64)))
abbrev Y172:Type:=ByteArray×Int×Int
abbrev y43:Ty:=.pr (.sl y136) (.pr (.sl .str) ((.sl y172)))
abbrev Y43:Type:=List Y136×List ByteArray×List Y172
abbrev y114:Ty:=.pr (.sl (.int .i64)) (.pr (.sl (.int .i64)) (.pr (.sl (.int .i64)) ((.sl (.int .i64)))))
abbrev Y114:Type:=List Int×List Int×List Int×List Int
abbrev y46:Ty:=.pr ((.sl y134)) (.pr y43 ((.sl y114)))
abbrev Y46:Type:=List Y134×Y43×List Y114
abbrev y91:Ty:=.pr (.int .i64) (.pr (.int .i64) (.pr (.int .i64) ((.int .i64))))
abbrev Y91:Type:=Int×Int×Int×Int
abbrev y146:Ty:=.pr (.int .i64) (.pr (.int .i64) (.pr (.int .i64) (.bool)))
abbrev Y146:Type:=Int×Int×Int×Bool
abbrev y86:Ty:=.pr y46 (.pr (.sl y146) (.pr (.sl y91) (.pr (.sl (.int .i64)) (.pr (.sl (.sl (.int .i64))) ((.sl (.int .i64)))))))
abbrev Y86:Type:=Y46×List Y146×List Y91×List Int×List (List Int)×List Int
abbrev y110:Ty:=.pr (.sl (.int .i64)) (.pr (.sl (.int .i64)) (.pr (.sl (.int .i64)) ((.sl (.int .i64)))))
abbrev y184:Ty:=.pr (.int .i64) (.pr (.int .i64) (.pr (.int .i64) (.bool)))
abbrev Y184:Type:=Int×Int×Int×Bool
abbrev y216:Ty:=.pr (.int .i64) (.pr (.int .i64) (.pr (.int .i64) (.pr (.int .i64) (.pr (.sl y243) ((.sl y243))))))
abbrev y247:Ty:=.pr (.int .i64) ((.int .i64))
abbrev Y247:Type:=Int×Int
def i2:TI:=⟨1,8,.int .i64 0,.int .i64,(.int .i64)⟩
theorem j2:TIok Tryz.prog 2 i2:=⟨by kernel_rfl,by kernel_rfl,by kernel_rfl,by kernel_rfl,⟨by kernel_rfl,by kernel_rfl⟩⟩
def i3:TI:=⟨1,8,.int .i64 0,.int .i64,(.int .i64)⟩
theorem j3:TIok Tryz.prog 3 i3:=⟨by kernel_rfl,by kernel_rfl,by kernel_rfl,by kernel_rfl,⟨by kernel_rfl,by kernel_rfl⟩⟩
def i4:TI:=⟨1,1,.bool false,.bool,.bool⟩
theorem j4:TIok Tryz.prog 4 i4:=⟨by kernel_rfl,by kernel_rfl,by kernel_rfl,by kernel_rfl,⟨by kernel_rfl,by kernel_rfl⟩⟩
def i5:TI:=⟨1,1,.int .u8 0,.int .u8,(.int .u8)⟩
theorem j5:TIok Tryz.prog 5 i5:=⟨by kernel_rfl,by kernel_rfl,by kernel_rfl,by kernel_rfl,⟨by kernel_rfl,by kernel_rfl⟩⟩
def i6:TI:=⟨1,1,.int .u8 0,.int .u8,(.int .u8)⟩
theorem j6:TIok Tryz.prog 6 i6:=⟨by kernel_rfl,by kernel_rfl,by kernel_rfl,by kernel_rfl,⟨by kernel_rfl,by kernel_rfl⟩⟩
def i7:TI:=⟨4,24,.agg #[.int .i64 0,.int .i64 0,.bool false,.int .u8 0],.agg [(0,1),(1,1),(2,1),(3,1)] false [false,false,false,false],y7⟩
def i8:TI:=⟨4,24,.agg #[.int .i64 0,.int .i64 0,.bool false,.int .u8 0],.agg [(0,1),(1,1),(2,1),(3,1)] false [false,false,false,false],y8⟩
theorem j8:TIok Tryz.prog 8 i8:=⟨by kernel_rfl,by kernel_rfl,by kernel_rfl,by kernel_rfl,⟨by kernel_rfl,by kernel_rfl,by kernel_rfl,⟨by kernel_rfl,by kernel_rfl,by kernel_rfl,by kernel_rfl,trivial⟩,(fun h=>by cases h),by kernel_rfl⟩⟩
def i9:TI:=⟨1,16,.string ⟨#[]⟩,.str,.str⟩
theorem j9:TIok Tryz.prog 9 i9:=⟨by kernel_rfl,by kernel_rfl,by kernel_rfl,by kernel_rfl,⟨by kernel_rfl,by kernel_rfl⟩⟩
def i10:TI:=⟨1,16,.string ⟨#[]⟩,.str,.str⟩
theorem j10:TIok Tryz.prog 10 i10:=⟨by kernel_rfl,by kernel_rfl,by kernel_rfl,by kernel_rfl,⟨by kernel_rfl,by kernel_rfl⟩⟩
def i11:TI:=⟨1,16,.string ⟨#[]⟩,.str,.str⟩
def i12:TI:=⟨1,8,.int .u64 0,.int .u64,(.int .u64)⟩
theorem j12:TIok Tryz.prog 12 i12:=⟨by kernel_rfl,by kernel_rfl,by kernel_rfl,by kernel_rfl,⟨by kernel_rfl,by kernel_rfl⟩⟩
def i13:TI:=⟨2,24,.agg #[.string ⟨#[]⟩,.int .u64 0],.agg [(0,1),(1,1)] false [false,false],y13⟩
def i14:TI:=⟨2,24,.agg #[.string ⟨#[]⟩,.int .u64 0],.agg [(0,1),(1,1)] false [false,false],y14⟩
theorem j14:TIok Tryz.prog 14 i14:=⟨by kernel_rfl,by kernel_rfl,by kernel_rfl,by kernel_rfl,⟨by kernel_rfl,by kernel_rfl,by kernel_rfl,⟨by kernel_rfl,by kernel_rfl,trivial⟩,(fun h=>by cases h),by kernel_rfl⟩⟩
def i15:TI:=⟨1,8,.pointer none,.oth,.bool⟩
def i16:TI:=⟨1,8,.pointer none,.oth,.bool⟩
theorem j16:TIok Tryz.prog 16 i16:=⟨by kernel_rfl,by kernel_rfl,by kernel_rfl,by kernel_rfl,(show notAggB Tryz.prog 16=true by kernel_rfl)⟩
def i17:TI:=⟨1,8,.pointer none,.oth,.bool⟩
theorem j17:TIok Tryz.prog 17 i17:=⟨by kernel_rfl,by kernel_rfl,by kernel_rfl,by kernel_rfl,(show notAggB Tryz.prog 17=true by kernel_rfl)⟩
def i18:TI:=⟨1,8,.agg #[.pointer none],.agg [(0,1)] false [false],.bool⟩
theorem j18:TIok Tryz.prog 18 i18:=⟨by kernel_rfl,by kernel_rfl,by kernel_rfl,by kernel_rfl,⟨by kernel_rfl,by kernel_rfl,by kernel_rfl,⟨by kernel_rfl,trivial⟩,(fun h=>by cases h),by kernel_rfl⟩⟩
def i19:TI:=⟨1,8,.agg #[.pointer none],.agg [(0,1)] false [false],.bool⟩
def i22:TI:=⟨1,24,.slice none 0 0,.sl 164,(.sl y164)⟩
theorem j22:TIok Tryz.prog 22 i22:=⟨by kernel_rfl,by kernel_rfl,by kernel_rfl,by kernel_rfl,⟨by kernel_rfl,by kernel_rfl⟩⟩
def i24:TI:=⟨1,24,.agg #[.slice none 0 0],.agg [(0,1)] false [false],((.sl y164))⟩
theorem j24:TIok Tryz.prog 24 i24:=⟨by kernel_rfl,by kernel_rfl,by kernel_rfl,by kernel_rfl,⟨by kernel_rfl,by kernel_rfl,by kernel_rfl,⟨by kernel_rfl,trivial⟩,(fun h=>by cases h),by kernel_rfl⟩⟩
def i25:TI:=⟨1,24,.slice none 0 0,.sl 166,(.sl y166)⟩
theorem j25:TIok Tryz.prog 25 i25:=⟨by kernel_rfl,by kernel_rfl,by kernel_rfl,by kernel_rfl,⟨by kernel_rfl,by kernel_rfl⟩⟩
def i26:TI:=⟨1,24,.slice none 0 0,.sl 9,(.sl .str)⟩
theorem j26:TIok Tryz.prog 26 i26:=⟨by kernel_rfl,by kernel_rfl,by kernel_rfl,by kernel_rfl,⟨by kernel_rfl,by kernel_rfl⟩⟩
def i27:TI:=⟨1,24,.slice none 0 0,.sl 169,(.sl y169)⟩
theorem j27:TIok Tryz.prog 27 i27:=⟨by kernel_rfl,by kernel_rfl,by kernel_rfl,by kernel_rfl,⟨by kernel_rfl,by kernel_rfl⟩⟩
def i28:TI:=⟨3,72,.agg #[.slice none 0 0,.slice none 0 0,.slice none 0 0],.agg [(0,1),(1,1),(2,1)] false [false,false,false],y28⟩
theorem j28:TIok Tryz.prog 28 i28:=⟨by kernel_rfl,by kernel_rfl,by kernel_rfl,by kernel_rfl,⟨by kernel_rfl,by kernel_rfl,by kernel_rfl,⟨by kernel_rfl,by kernel_rfl,by kernel_rfl,trivial⟩,(fun h=>by cases h),by kernel_rfl⟩⟩
def i29:TI:=⟨3,72,.agg #[.slice none 0 0,.slice none 0 0,.slice none 0 0],.agg [(0,1),(1,1),(2,1)] false [false,false,false],y29⟩
theorem j29:TIok Tryz.prog 29 i29:=⟨by kernel_rfl,by kernel_rfl,by kernel_rfl,by kernel_rfl,⟨by kernel_rfl,by kernel_rfl,by kernel_rfl,⟨by kernel_rfl,by kernel_rfl,by kernel_rfl,trivial⟩,(fun h=>by cases h),by kernel_rfl⟩⟩
def i30:TI:=⟨1,24,.slice none 0 0,.sl 111,(.sl y111)⟩
theorem j30:TIok Tryz.prog 30 i30:=⟨by kernel_rfl,by kernel_rfl,by kernel_rfl,by kernel_rfl,⟨by kernel_rfl,by kernel_rfl⟩⟩
def i32:TI:=⟨5,120,.agg #[.slice none 0 0,.slice none 0 0,.slice none 0 0,.slice none 0 0,.slice none 0 0],.agg [(0,1),(1,3),(4,1)] false [true,true,false],y32⟩
theorem j32:TIok Tryz.prog 32 i32:=⟨by kernel_rfl,by kernel_rfl,by kernel_rfl,by kernel_rfl,⟨by kernel_rfl,by kernel_rfl,by kernel_rfl,⟨by kernel_rfl,by kernel_rfl,by kernel_rfl,trivial⟩,(fun h=>by cases h),by kernel_rfl⟩⟩
def i34:TI:=⟨1,24,.slice none 0 0,.sl 2,(.sl (.int .i64))⟩
theorem j34:TIok Tryz.prog 34 i34:=⟨by kernel_rfl,by kernel_rfl,by kernel_rfl,by kernel_rfl,⟨by kernel_rfl,by kernel_rfl⟩⟩
def i37:TI:=⟨1,24,.slice none 0 0,.sl 134,(.sl y134)⟩
theorem j37:TIok Tryz.prog 37 i37:=⟨by kernel_rfl,by kernel_rfl,by kernel_rfl,by kernel_rfl,⟨by kernel_rfl,by kernel_rfl⟩⟩
def i38:TI:=⟨1,24,.agg #[.slice none 0 0],.agg [(0,1)] false [false],((.sl y134))⟩
theorem j38:TIok Tryz.prog 38 i38:=⟨by kernel_rfl,by kernel_rfl,by kernel_rfl,by kernel_rfl,⟨by kernel_rfl,by kernel_rfl,by kernel_rfl,⟨by kernel_rfl,trivial⟩,(fun h=>by cases h),by kernel_rfl⟩⟩
def i39:TI:=⟨1,24,.agg #[.slice none 0 0],.agg [(0,1)] false [false],((.sl y134))⟩
theorem j39:TIok Tryz.prog 39 i39:=⟨by kernel_rfl,by kernel_rfl,by kernel_rfl,by kernel_rfl,⟨by kernel_rfl,by kernel_rfl,by kernel_rfl,⟨by kernel_rfl,trivial⟩,(fun h=>by cases h),by kernel_rfl⟩⟩
def i40:TI:=⟨1,24,.slice none 0 0,.sl 136,(.sl y136)⟩
theorem j40:TIok Tryz.prog 40 i40:=⟨by kernel_rfl,by kernel_rfl,by kernel_rfl,by kernel_rfl,⟨by kernel_rfl,by kernel_rfl⟩⟩
def i41:TI:=⟨1,24,.slice none 0 0,.sl 172,(.sl y172)⟩
theorem j41:TIok Tryz.prog 41 i41:=⟨by kernel_rfl,by kernel_rfl,by kernel_rfl,by kernel_rfl,⟨by kernel_rfl,by kernel_rfl⟩⟩
def i43:TI:=⟨3,72,.agg #[.slice none 0 0,.slice none 0 0,.slice none 0 0],.agg [(0,1),(1,1),(2,1)] false [false,false,false],y43⟩
theorem j43:TIok Tryz.prog 43 i43:=⟨by kernel_rfl,by kernel_rfl,by kernel_rfl,by kernel_rfl,⟨by kernel_rfl,by kernel_rfl,by kernel_rfl,⟨by kernel_rfl,by kernel_rfl,by kernel_rfl,trivial⟩,(fun h=>by cases h),by kernel_rfl⟩⟩
def i44:TI:=⟨1,24,.slice none 0 0,.sl 114,(.sl y114)⟩
theorem j44:TIok Tryz.prog 44 i44:=⟨by kernel_rfl,by kernel_rfl,by kernel_rfl,by kernel_rfl,⟨by kernel_rfl,by kernel_rfl⟩⟩
def i46:TI:=⟨5,120,.agg #[.slice none 0 0,.slice none 0 0,.slice none 0 0,.slice none 0 0,.slice none 0 0],.agg [(0,1),(1,3),(4,1)] false [true,true,false],y46⟩
theorem j46:TIok Tryz.prog 46 i46:=⟨by kernel_rfl,by kernel_rfl,by kernel_rfl,by kernel_rfl,⟨by kernel_rfl,by kernel_rfl,by kernel_rfl,⟨by kernel_rfl,by kernel_rfl,by kernel_rfl,trivial⟩,(fun h=>by cases h),by kernel_rfl⟩⟩
def i53:TI:=⟨1,24,.slice none 0 0,.sl 91,(.sl y91)⟩
theorem j53:TIok Tryz.prog 53 i53:=⟨by kernel_rfl,by kernel_rfl,by kernel_rfl,by kernel_rfl,⟨by kernel_rfl,by kernel_rfl⟩⟩
def i83:TI:=⟨1,24,.slice none 0 0,.sl 146,(.sl y146)⟩
theorem j83:TIok Tryz.prog 83 i83:=⟨by kernel_rfl,by kernel_rfl,by kernel_rfl,by kernel_rfl,⟨by kernel_rfl,by kernel_rfl⟩⟩
def i84:TI:=⟨1,24,.slice none 0 0,.sl 34,(.sl (.sl (.int .i64)))⟩
theorem j84:TIok Tryz.prog 84 i84:=⟨by kernel_rfl,by kernel_rfl,by kernel_rfl,by kernel_rfl,⟨by kernel_rfl,by kernel_rfl⟩⟩
def i86:TI:=⟨10,240,.agg #[.slice none 0 0,.slice none 0 0,.slice none 0 0,.slice none 0 0,.slice none 0 0,.slice none 0 0,.slice none 0 0,.slice none 0 0,.slice none 0 0,.slice none 0 0],.agg [(0,5),(5,1),(6,1),(7,1),(8,1),(9,1)] false [true,false,false,false,false,false],y86⟩
theorem j86:TIok Tryz.prog 86 i86:=⟨by kernel_rfl,by kernel_rfl,by kernel_rfl,by kernel_rfl,⟨by kernel_rfl,by kernel_rfl,by kernel_rfl,⟨by kernel_rfl,by kernel_rfl,by kernel_rfl,by kernel_rfl,by kernel_rfl,by kernel_rfl,trivial⟩,(fun h=>by cases h),by kernel_rfl⟩⟩
def i87:TI:=⟨1,8,.pointer none,.oth,(.pt y86)⟩
theorem j87:TIok Tryz.prog 87 i87:=⟨by kernel_rfl,by kernel_rfl,by kernel_rfl,by kernel_rfl,(show notAggB Tryz.prog 87=true by kernel_rfl)⟩
def i91:TI:=⟨4,32,.agg #[.int .i64 0,.int .i64 0,.int .i64 0,.int .i64 0],.agg [(0,1),(1,1),(2,1),(3,1)] true [false,false,false,false],y91⟩
theorem j91:TIok Tryz.prog 91 i91:=⟨by kernel_rfl,by kernel_rfl,by kernel_rfl,by kernel_rfl,⟨by kernel_rfl,by kernel_rfl,by kernel_rfl,⟨by kernel_rfl,by kernel_rfl,by kernel_rfl,by kernel_rfl,trivial⟩,(fun _=>by kernel_rfl),by kernel_rfl⟩⟩
def i101:TI:=⟨1,24,.slice none 0 0,.sl 4,(.sl .bool)⟩
theorem j101:TIok Tryz.prog 101 i101:=⟨by kernel_rfl,by kernel_rfl,by kernel_rfl,by kernel_rfl,⟨by kernel_rfl,by kernel_rfl⟩⟩
def i110:TI:=⟨4,96,.agg #[.slice none 0 0,.slice none 0 0,.slice none 0 0,.slice none 0 0],.agg [(0,1),(1,1),(2,1),(3,1)] false [false,false,false,false],y110⟩
theorem j110:TIok Tryz.prog 110 i110:=⟨by kernel_rfl,by kernel_rfl,by kernel_rfl,by kernel_rfl,⟨by kernel_rfl,by kernel_rfl,by kernel_rfl,⟨by kernel_rfl,by kernel_rfl,by kernel_rfl,by kernel_rfl,trivial⟩,(fun h=>by cases h),by kernel_rfl⟩⟩
def i111:TI:=⟨4,96,.agg #[.slice none 0 0,.slice none 0 0,.slice none 0 0,.slice none 0 0],.agg [(0,1),(1,1),(2,1),(3,1)] false [false,false,false,false],y111⟩
theorem j111:TIok Tryz.prog 111 i111:=⟨by kernel_rfl,by kernel_rfl,by kernel_rfl,by kernel_rfl,⟨by kernel_rfl,by kernel_rfl,by kernel_rfl,⟨by kernel_rfl,by kernel_rfl,by kernel_rfl,by kernel_rfl,trivial⟩,(fun h=>by cases h),by kernel_rfl⟩⟩
def i114:TI:=⟨4,96,.agg #[.slice none 0 0,.slice none 0 0,.slice none 0 0,.slice none 0 0],.agg [(0,1),(1,1),(2,1),(3,1)] false [false,false,false,false],y114⟩
theorem j114:TIok Tryz.prog 114 i114:=⟨by kernel_rfl,by kernel_rfl,by kernel_rfl,by kernel_rfl,⟨by kernel_rfl,by kernel_rfl,by kernel_rfl,⟨by kernel_rfl,by kernel_rfl,by kernel_rfl,by kernel_rfl,trivial⟩,(fun h=>by cases h),by kernel_rfl⟩⟩
def i131:TI:=⟨1,24,.slice none 0 0,.sl 205,(.sl y205)⟩
theorem j131:TIok Tryz.prog 131 i131:=⟨by kernel_rfl,by kernel_rfl,by kernel_rfl,by kernel_rfl,⟨by kernel_rfl,by kernel_rfl⟩⟩
def i132:TI:=⟨1,24,.slice none 0 0,.sl 139,(.sl y139)⟩
theorem j132:TIok Tryz.prog 132 i132:=⟨by kernel_rfl,by kernel_rfl,by kernel_rfl,by kernel_rfl,⟨by kernel_rfl,by kernel_rfl⟩⟩
def i134:TI:=⟨7,112,.agg #[.string ⟨#[]⟩,.int .i64 0,.slice none 0 0,.slice none 0 0,.slice none 0 0,.int .i64 0,.int .i64 0],.agg [(0,1),(1,1),(2,1),(3,1),(4,1),(5,1),(6,1)] false [false,false,false,false,false,false,false],y134⟩
theorem j134:TIok Tryz.prog 134 i134:=⟨by kernel_rfl,by kernel_rfl,by kernel_rfl,by kernel_rfl,⟨by kernel_rfl,by kernel_rfl,by kernel_rfl,⟨by kernel_rfl,by kernel_rfl,by kernel_rfl,by kernel_rfl,by kernel_rfl,by kernel_rfl,by kernel_rfl,trivial⟩,(fun h=>by cases h),by kernel_rfl⟩⟩
def i136:TI:=⟨3,48,.agg #[.string ⟨#[]⟩,.int .i64 0,.slice none 0 0],.agg [(0,1),(1,1),(2,1)] false [false,false,false],y136⟩
theorem j136:TIok Tryz.prog 136 i136:=⟨by kernel_rfl,by kernel_rfl,by kernel_rfl,by kernel_rfl,⟨by kernel_rfl,by kernel_rfl,by kernel_rfl,⟨by kernel_rfl,by kernel_rfl,by kernel_rfl,trivial⟩,(fun h=>by cases h),by kernel_rfl⟩⟩
def i137:TI:=⟨1,24,.slice none 0 0,.sl 223,(.sl y223)⟩
theorem j137:TIok Tryz.prog 137 i137:=⟨by kernel_rfl,by kernel_rfl,by kernel_rfl,by kernel_rfl,⟨by kernel_rfl,by kernel_rfl⟩⟩
def i139:TI:=⟨6,80,.agg #[.int .i64 0,.int .i64 0,.int .i64 0,.int .i64 0,.slice none 0 0,.slice none 0 0],.agg [(0,1),(1,1),(2,1),(3,1),(4,1),(5,1)] false [false,false,false,false,false,false],y139⟩
theorem j139:TIok Tryz.prog 139 i139:=⟨by kernel_rfl,by kernel_rfl,by kernel_rfl,by kernel_rfl,⟨by kernel_rfl,by kernel_rfl,by kernel_rfl,⟨by kernel_rfl,by kernel_rfl,by kernel_rfl,by kernel_rfl,by kernel_rfl,by kernel_rfl,trivial⟩,(fun h=>by cases h),by kernel_rfl⟩⟩
def i146:TI:=⟨4,32,.agg #[.int .i64 0,.int .i64 0,.int .i64 0,.bool false],.agg [(0,1),(1,1),(2,1),(3,1)] false [false,false,false,false],y146⟩
theorem j146:TIok Tryz.prog 146 i146:=⟨by kernel_rfl,by kernel_rfl,by kernel_rfl,by kernel_rfl,⟨by kernel_rfl,by kernel_rfl,by kernel_rfl,⟨by kernel_rfl,by kernel_rfl,by kernel_rfl,by kernel_rfl,trivial⟩,(fun h=>by cases h),by kernel_rfl⟩⟩
def i153:TI:=⟨1,24,.slice none 0 0,.sl 184,(.sl y184)⟩
theorem j153:TIok Tryz.prog 153 i153:=⟨by kernel_rfl,by kernel_rfl,by kernel_rfl,by kernel_rfl,⟨by kernel_rfl,by kernel_rfl⟩⟩
def i157:TI:=⟨1,24,.slice none 0 0,.sl 3,(.sl (.int .i64))⟩
theorem j157:TIok Tryz.prog 157 i157:=⟨by kernel_rfl,by kernel_rfl,by kernel_rfl,by kernel_rfl,⟨by kernel_rfl,by kernel_rfl⟩⟩
def i161:TI:=⟨1,24,.slice none 0 0,.sl 213,(.sl y213)⟩
theorem j161:TIok Tryz.prog 161 i161:=⟨by kernel_rfl,by kernel_rfl,by kernel_rfl,by kernel_rfl,⟨by kernel_rfl,by kernel_rfl⟩⟩
def i162:TI:=⟨1,24,.slice none 0 0,.sl 217,(.sl y217)⟩
theorem j162:TIok Tryz.prog 162 i162:=⟨by kernel_rfl,by kernel_rfl,by kernel_rfl,by kernel_rfl,⟨by kernel_rfl,by kernel_rfl⟩⟩
def i164:TI:=⟨7,112,.agg #[.string ⟨#[]⟩,.int .i64 0,.slice none 0 0,.slice none 0 0,.slice none 0 0,.int .i64 0,.int .i64 0],.agg [(0,1),(1,1),(2,1),(3,1),(4,1),(5,1),(6,1)] false [false,false,false,false,false,false,false],y164⟩
theorem j164:TIok Tryz.prog 164 i164:=⟨by kernel_rfl,by kernel_rfl,by kernel_rfl,by kernel_rfl,⟨by kernel_rfl,by kernel_rfl,by kernel_rfl,⟨by kernel_rfl,by kernel_rfl,by kernel_rfl,by kernel_rfl,by kernel_rfl,by kernel_rfl,by kernel_rfl,trivial⟩,(fun h=>by cases h),by kernel_rfl⟩⟩
def i166:TI:=⟨3,48,.agg #[.string ⟨#[]⟩,.int .i64 0,.slice none 0 0],.agg [(0,1),(1,1),(2,1)] false [false,false,false],y166⟩
theorem j166:TIok Tryz.prog 166 i166:=⟨by kernel_rfl,by kernel_rfl,by kernel_rfl,by kernel_rfl,⟨by kernel_rfl,by kernel_rfl,by kernel_rfl,⟨by kernel_rfl,by kernel_rfl,by kernel_rfl,trivial⟩,(fun h=>by cases h),by kernel_rfl⟩⟩
def i169:TI:=⟨3,32,.agg #[.string ⟨#[]⟩,.int .i64 0,.int .i64 0],.agg [(0,1),(1,1),(2,1)] false [false,false,false],y169⟩
theorem j169:TIok Tryz.prog 169 i169:=⟨by kernel_rfl,by kernel_rfl,by kernel_rfl,by kernel_rfl,⟨by kernel_rfl,by kernel_rfl,by kernel_rfl,⟨by kernel_rfl,by kernel_rfl,by kernel_rfl,trivial⟩,(fun h=>by cases h),by kernel_rfl⟩⟩
def i172:TI:=⟨3,32,.agg #[.string ⟨#[]⟩,.int .i64 0,.int .i64 0],.agg [(0,1),(1,1),(2,1)] false [false,false,false],y172⟩
theorem j172:TIok Tryz.prog 172 i172:=⟨by kernel_rfl,by kernel_rfl,by kernel_rfl,by kernel_rfl,⟨by kernel_rfl,by kernel_rfl,by kernel_rfl,⟨by kernel_rfl,by kernel_rfl,by kernel_rfl,trivial⟩,(fun h=>by cases h),by kernel_rfl⟩⟩
def i184:TI:=⟨4,32,.agg #[.int .i64 0,.int .i64 0,.int .i64 0,.bool false],.agg [(0,1),(1,1),(2,1),(3,1)] false [false,false,false,false],y184⟩
theorem j184:TIok Tryz.prog 184 i184:=⟨by kernel_rfl,by kernel_rfl,by kernel_rfl,by kernel_rfl,⟨by kernel_rfl,by kernel_rfl,by kernel_rfl,⟨by kernel_rfl,by kernel_rfl,by kernel_rfl,by kernel_rfl,trivial⟩,(fun h=>by cases h),by kernel_rfl⟩⟩
def i190:TI:=⟨1,24,.slice none 0 0,.sl 192,(.sl (.pr (.int .i64) (.int .i64)))⟩
theorem j190:TIok Tryz.prog 190 i190:=⟨by kernel_rfl,by kernel_rfl,by kernel_rfl,by kernel_rfl,⟨by kernel_rfl,by kernel_rfl⟩⟩
def i192:TI:=⟨2,16,.agg #[.int .i64 0,.int .i64 0],.arr 2 2,(.pr (.int .i64) (.int .i64))⟩
theorem j192:TIok Tryz.prog 192 i192:=⟨by kernel_rfl,by kernel_rfl,by kernel_rfl,by kernel_rfl,⟨by kernel_rfl,by kernel_rfl⟩⟩
def i205:TI:=⟨4,40,.agg #[.string ⟨#[]⟩,.int .i64 0,.int .i64 0,.bool false],.agg [(0,1),(1,1),(2,1),(3,1)] false [false,false,false,false],y205⟩
theorem j205:TIok Tryz.prog 205 i205:=⟨by kernel_rfl,by kernel_rfl,by kernel_rfl,by kernel_rfl,⟨by kernel_rfl,by kernel_rfl,by kernel_rfl,⟨by kernel_rfl,by kernel_rfl,by kernel_rfl,by kernel_rfl,trivial⟩,(fun h=>by cases h),by kernel_rfl⟩⟩
def i213:TI:=⟨4,40,.agg #[.string ⟨#[]⟩,.int .i64 0,.int .i64 0,.bool false],.agg [(0,1),(1,1),(2,1),(3,1)] false [false,false,false,false],y213⟩
theorem j213:TIok Tryz.prog 213 i213:=⟨by kernel_rfl,by kernel_rfl,by kernel_rfl,by kernel_rfl,⟨by kernel_rfl,by kernel_rfl,by kernel_rfl,⟨by kernel_rfl,by kernel_rfl,by kernel_rfl,by kernel_rfl,trivial⟩,(fun h=>by cases h),by kernel_rfl⟩⟩
def i215:TI:=⟨1,24,.slice none 0 0,.sl 243,(.sl y243)⟩
theorem j215:TIok Tryz.prog 215 i215:=⟨by kernel_rfl,by kernel_rfl,by kernel_rfl,by kernel_rfl,⟨by kernel_rfl,by kernel_rfl⟩⟩
def i216:TI:=⟨6,80,.agg #[.int .i64 0,.int .i64 0,.int .i64 0,.int .i64 0,.slice none 0 0,.slice none 0 0],.agg [(0,1),(1,1),(2,1),(3,1),(4,1),(5,1)] false [false,false,false,false,false,false],y216⟩
theorem j216:TIok Tryz.prog 216 i216:=⟨by kernel_rfl,by kernel_rfl,by kernel_rfl,by kernel_rfl,⟨by kernel_rfl,by kernel_rfl,by kernel_rfl,⟨by kernel_rfl,by kernel_rfl,by kernel_rfl,by kernel_rfl,by kernel_rfl,by kernel_rfl,trivial⟩,(fun h=>by cases h),by kernel_rfl⟩⟩
def i217:TI:=⟨6,80,.agg #[.int .i64 0,.int .i64 0,.int .i64 0,.int .i64 0,.slice none 0 0,.slice none 0 0],.agg [(0,1),(1,1),(2,1),(3,1),(4,1),(5,1)] false [false,false,false,false,false,false],y217⟩
theorem j217:TIok Tryz.prog 217 i217:=⟨by kernel_rfl,by kernel_rfl,by kernel_rfl,by kernel_rfl,⟨by kernel_rfl,by kernel_rfl,by kernel_rfl,⟨by kernel_rfl,by kernel_rfl,by kernel_rfl,by kernel_rfl,by kernel_rfl,by kernel_rfl,trivial⟩,(fun h=>by cases h),by kernel_rfl⟩⟩
def i223:TI:=⟨3,72,.agg #[.slice none 0 0,.slice none 0 0,.slice none 0 0],.agg [(0,1),(1,1),(2,1)] false [false,false,false],y223⟩
theorem j223:TIok Tryz.prog 223 i223:=⟨by kernel_rfl,by kernel_rfl,by kernel_rfl,by kernel_rfl,⟨by kernel_rfl,by kernel_rfl,by kernel_rfl,⟨by kernel_rfl,by kernel_rfl,by kernel_rfl,trivial⟩,(fun h=>by cases h),by kernel_rfl⟩⟩
def i228:TI:=⟨1,8,.int .u64 0,.int .u64,(.int .u64)⟩
theorem j228:TIok Tryz.prog 228 i228:=⟨by kernel_rfl,by kernel_rfl,by kernel_rfl,by kernel_rfl,⟨by kernel_rfl,by kernel_rfl⟩⟩
def i243:TI:=⟨3,72,.agg #[.slice none 0 0,.slice none 0 0,.slice none 0 0],.agg [(0,1),(1,1),(2,1)] false [false,false,false],y243⟩
theorem j243:TIok Tryz.prog 243 i243:=⟨by kernel_rfl,by kernel_rfl,by kernel_rfl,by kernel_rfl,⟨by kernel_rfl,by kernel_rfl,by kernel_rfl,⟨by kernel_rfl,by kernel_rfl,by kernel_rfl,trivial⟩,(fun h=>by cases h),by kernel_rfl⟩⟩
def i247:TI:=⟨2,16,.agg #[.int .i64 0,.int .i64 0],.agg [(0,1),(1,1)] true [false,false],y247⟩
theorem j247:TIok Tryz.prog 247 i247:=⟨by kernel_rfl,by kernel_rfl,by kernel_rfl,by kernel_rfl,⟨by kernel_rfl,by kernel_rfl,by kernel_rfl,⟨by kernel_rfl,by kernel_rfl,trivial⟩,(fun _=>by kernel_rfl),by kernel_rfl⟩⟩
def Γ:Tab':=[(2,i2),(3,i3),(4,i4),(5,i5),(6,i6),(8,i8),(9,i9),(10,i10),(12,i12),(14,i14),(16,i16),(17,i17),(18,i18),(22,i22),(24,i24),(25,i25),(26,i26),(27,i27),(28,i28),(29,i29),(30,i30),(32,i32),(34,i34),(37,i37),(38,i38),(39,i39),(40,i40),(41,i41),(43,i43),(44,i44),(46,i46),(53,i53),(83,i83),(84,i84),(86,i86),(87,i87),(91,i91),(101,i101),(110,i110),(111,i111),(114,i114),(131,i131),(132,i132),(134,i134),(136,i136),(137,i137),(139,i139),(146,i146),(153,i153),(157,i157),(161,i161),(162,i162),(164,i164),(166,i166),(169,i169),(172,i172),(184,i184),(190,i190),(192,i192),(205,i205),(213,i213),(215,i215),(216,i216),(217,i217),(223,i223),(228,i228),(243,i243),(247,i247)]
theorem tok:TabOk Tryz.prog Γ:=tab_cons j2 (tab_cons j3 (tab_cons j4 (tab_cons j5 (tab_cons j6 (tab_cons j8 (tab_cons j9 (tab_cons j10 (tab_cons j12 (tab_cons j14 (tab_cons j16 (tab_cons j17 (tab_cons j18 (tab_cons j22 (tab_cons j24 (tab_cons j25 (tab_cons j26 (tab_cons j27 (tab_cons j28 (tab_cons j29 (tab_cons j30 (tab_cons j32 (tab_cons j34 (tab_cons j37 (tab_cons j38 (tab_cons j39 (tab_cons j40 (tab_cons j41 (tab_cons j43 (tab_cons j44 (tab_cons j46 (tab_cons j53 (tab_cons j83 (tab_cons j84 (tab_cons j86 (tab_cons j87 (tab_cons j91 (tab_cons j101 (tab_cons j110 (tab_cons j111 (tab_cons j114 (tab_cons j131 (tab_cons j132 (tab_cons j134 (tab_cons j136 (tab_cons j137 (tab_cons j139 (tab_cons j146 (tab_cons j153 (tab_cons j157 (tab_cons j161 (tab_cons j162 (tab_cons j164 (tab_cons j166 (tab_cons j169 (tab_cons j172 (tab_cons j184 (tab_cons j190 (tab_cons j192 (tab_cons j205 (tab_cons j213 (tab_cons j215 (tab_cons j216 (tab_cons j217 (tab_cons j223 (tab_cons j228 (tab_cons j243 (tab_cons j247 tab_nil)))))))))))))))))))))))))))))))))))))))))))))))))))))))))))))))))))
end Go.Proofs.YtgmpfbpemmohnaaGreatDoor
