/- The types of this seat's program. -/
import Derived.Test.YtphnknndgfgepaaGreatDoorXE
import Derived.Test.YtphnknndgfgepaaGreatDoorProg
import Derived.KernelRfl
section
namespace Go.Proofs.YtphnknndgfgepaaGreatDoor
open Go Go.Proofs Go.Proofs.Sv Go.Proofs.Xv
instance:Mixed Tryz.prog:=⟨by kernel_rfl⟩
abbrev y7:Ty:=.pr (.int .i64) (.pr (.int .i64) (.pr .bool ((.int .u8))))
abbrev y8:Ty:=.pr (.int .i64) (.pr (.int .i64) (.pr .bool ((.int .u8))))
abbrev y13:Ty:=.pr .str ((.int .u64))
abbrev y14:Ty:=.pr .str ((.int .u64))
abbrev y217:Ty:=.pr .str (.pr (.int .i64) (.pr (.int .i64) (.bool)))
abbrev Y217:Type:=ByteArray×Int×Int×Bool
abbrev y140:Ty:=.pr (.sl (.int .i64)) (.pr (.sl (.int .i64)) ((.sl (.int .i64))))
abbrev Y140:Type:=List Int×List Int×List Int
abbrev y143:Ty:=.pr (.int .i64) (.pr (.int .i64) (.pr (.int .i64) (.pr (.int .i64) (.pr (.sl y140) ((.sl y140))))))
abbrev Y143:Type:=Int×Int×Int×Int×List Y140×List Y140
abbrev y163:Ty:=.pr .str (.pr (.int .i64) (.pr (.sl y217) (.pr (.sl y143) (.pr (.sl (.int .i64)) (.pr (.int .i64) ((.int .i64)))))))
abbrev Y163:Type:=ByteArray×Int×List Y217×List Y143×List Int×Int×Int
abbrev y165:Ty:=.pr .str (.pr (.int .i64) ((.sl (.int .i64))))
abbrev Y165:Type:=ByteArray×Int×List Int
abbrev y175:Ty:=.pr .str (.pr (.int .i64) ((.int .i64)))
abbrev Y175:Type:=ByteArray×Int×Int
abbrev y31:Ty:=.pr (.sl y165) (.pr (.sl .str) ((.sl y175)))
abbrev Y31:Type:=List Y165×List ByteArray×List Y175
abbrev y110:Ty:=.pr (.sl (.int .i64)) (.pr (.sl (.int .i64)) (.pr (.sl (.int .i64)) ((.sl (.int .i64)))))
abbrev Y110:Type:=List Int×List Int×List Int×List Int
abbrev y33:Ty:=.pr ((.sl y163)) (.pr y31 ((.sl y110)))
abbrev y34:Ty:=.pr ((.sl y163)) (.pr y31 ((.sl y110)))
abbrev Y34:Type:=List Y163×Y31×List Y110
abbrev y48:Ty:=.pr (.int .i64) (.pr (.int .i64) (.pr (.int .i64) ((.int .i64))))
abbrev Y48:Type:=Int×Int×Int×Int
abbrev y115:Ty:=.pr (.sl (.int .u8)) (.pr (.int .i64) ((.int .u64)))
abbrev y75:Ty:=.pr (.int .i64) ((.int .i64))
abbrev Y75:Type:=Int×Int
abbrev y152:Ty:=.pr (.sl (.int .u8)) (.pr (.int .i64) ((.int .i64)))
abbrev Y152:Type:=List Int×Int×Int
abbrev y105:Ty:=.pr (.int .i64) (.pr (.int .i64) (.pr (.int .i64) (.bool)))
abbrev Y105:Type:=Int×Int×Int×Bool
abbrev y100:Ty:=.pr y34 (.pr (.sl y105) (.pr (.sl y48) (.pr (.sl (.int .i64)) (.pr (.sl (.sl (.int .i64))) ((.sl (.int .i64)))))))
abbrev Y100:Type:=Y34×List Y105×List Y48×List Int×List (List Int)×List Int
abbrev y127:Ty:=.pr (.pt y100) ((.sl .bool))
abbrev Y127:Type:=Y100×List Bool
abbrev y99:Ty:=.pr y34 (.pr (.sl y105) (.pr (.sl y48) (.pr (.sl (.int .i64)) (.pr (.sl (.sl (.int .i64))) ((.sl (.int .i64)))))))
abbrev y104:Ty:=.pr (.int .i64) (.pr (.int .i64) (.pr (.int .i64) (.bool)))
abbrev y109:Ty:=.pr (.sl (.int .i64)) (.pr (.sl (.int .i64)) (.pr (.sl (.int .i64)) ((.sl (.int .i64)))))
abbrev y114:Ty:=.pr (.sl (.int .u8)) (.pr (.int .i64) ((.int .u64)))
abbrev y179:Ty:=.pr (.int .i64) (.pr (.int .i64) (.pr (.int .i64) (.bool)))
abbrev Y179:Type:=Int×Int×Int×Bool
def i2:TI:=⟨1,8,.int .i64 0,.int .i64,(.int .i64)⟩
theorem j2:TIok Tryz.prog 2 i2:=⟨by kernel_rfl,by kernel_rfl,by kernel_rfl,by kernel_rfl,⟨by kernel_rfl,by kernel_rfl⟩⟩
def i3:TI:=⟨1,8,.int .i64 0,.int .i64,(.int .i64)⟩
theorem j3:TIok Tryz.prog 3 i3:=⟨by kernel_rfl,by kernel_rfl,by kernel_rfl,by kernel_rfl,⟨by kernel_rfl,by kernel_rfl⟩⟩
def i4:TI:=⟨1,1,.bool false,.bool,.bool⟩
theorem j4:TIok Tryz.prog 4 i4:=⟨by kernel_rfl,by kernel_rfl,by kernel_rfl,by kernel_rfl,⟨by kernel_rfl,by kernel_rfl⟩⟩
def i5:TI:=⟨1,1,.int .u8 0,.int .u8,(.int .u8)⟩
theorem j5:TIok Tryz.prog 5 i5:=⟨by kernel_rfl,by kernel_rfl,by kernel_rfl,by kernel_rfl,⟨by kernel_rfl,by kernel_rfl⟩⟩
def i6:TI:=⟨1,1,.int .u8 0,.int .u8,(.int .u8)⟩
theorem j6:TIok Tryz.prog 6 i6:=⟨by kernel_rfl,by kernel_rfl,by kernel_rfl,by kernel_rfl,⟨by kernel_rfl,by kernel_rfl⟩⟩
def i7:TI:=⟨4,24,.agg #[.int .i64 0,.int .i64 0,.bool false,.int .u8 0],.agg [(0,1),(1,1),(2,1),(3,1)] false [false,false,false,false],y7⟩
theorem j7:TIok Tryz.prog 7 i7:=⟨by kernel_rfl,by kernel_rfl,by kernel_rfl,by kernel_rfl,⟨by kernel_rfl,by kernel_rfl,by kernel_rfl,⟨by kernel_rfl,by kernel_rfl,by kernel_rfl,by kernel_rfl,trivial⟩,(fun h=>by cases h),by kernel_rfl⟩⟩
def i8:TI:=⟨4,24,.agg #[.int .i64 0,.int .i64 0,.bool false,.int .u8 0],.agg [(0,1),(1,1),(2,1),(3,1)] false [false,false,false,false],y8⟩
theorem j8:TIok Tryz.prog 8 i8:=⟨by kernel_rfl,by kernel_rfl,by kernel_rfl,by kernel_rfl,⟨by kernel_rfl,by kernel_rfl,by kernel_rfl,⟨by kernel_rfl,by kernel_rfl,by kernel_rfl,by kernel_rfl,trivial⟩,(fun h=>by cases h),by kernel_rfl⟩⟩
def i9:TI:=⟨1,16,.string ⟨#[]⟩,.str,.str⟩
theorem j9:TIok Tryz.prog 9 i9:=⟨by kernel_rfl,by kernel_rfl,by kernel_rfl,by kernel_rfl,⟨by kernel_rfl,by kernel_rfl⟩⟩
def i10:TI:=⟨1,16,.string ⟨#[]⟩,.str,.str⟩
theorem j10:TIok Tryz.prog 10 i10:=⟨by kernel_rfl,by kernel_rfl,by kernel_rfl,by kernel_rfl,⟨by kernel_rfl,by kernel_rfl⟩⟩
def i11:TI:=⟨1,16,.string ⟨#[]⟩,.str,.str⟩
theorem j11:TIok Tryz.prog 11 i11:=⟨by kernel_rfl,by kernel_rfl,by kernel_rfl,by kernel_rfl,⟨by kernel_rfl,by kernel_rfl⟩⟩
def i12:TI:=⟨1,8,.int .u64 0,.int .u64,(.int .u64)⟩
theorem j12:TIok Tryz.prog 12 i12:=⟨by kernel_rfl,by kernel_rfl,by kernel_rfl,by kernel_rfl,⟨by kernel_rfl,by kernel_rfl⟩⟩
def i13:TI:=⟨2,24,.agg #[.string ⟨#[]⟩,.int .u64 0],.agg [(0,1),(1,1)] false [false,false],y13⟩
theorem j13:TIok Tryz.prog 13 i13:=⟨by kernel_rfl,by kernel_rfl,by kernel_rfl,by kernel_rfl,⟨by kernel_rfl,by kernel_rfl,by kernel_rfl,⟨by kernel_rfl,by kernel_rfl,trivial⟩,(fun h=>by cases h),by kernel_rfl⟩⟩
def i14:TI:=⟨2,24,.agg #[.string ⟨#[]⟩,.int .u64 0],.agg [(0,1),(1,1)] false [false,false],y14⟩
theorem j14:TIok Tryz.prog 14 i14:=⟨by kernel_rfl,by kernel_rfl,by kernel_rfl,by kernel_rfl,⟨by kernel_rfl,by kernel_rfl,by kernel_rfl,⟨by kernel_rfl,by kernel_rfl,trivial⟩,(fun h=>by cases h),by kernel_rfl⟩⟩
def i15:TI:=⟨1,8,.pointer none,.ptr,.bool⟩
theorem j15:TIok Tryz.prog 15 i15:=⟨by kernel_rfl,by kernel_rfl,by kernel_rfl,by kernel_rfl,⟨by kernel_rfl,by kernel_rfl⟩⟩
def i16:TI:=⟨1,8,.pointer none,.ptr,.bool⟩
def i17:TI:=⟨1,8,.pointer none,.ptr,.bool⟩
theorem j17:TIok Tryz.prog 17 i17:=⟨by kernel_rfl,by kernel_rfl,by kernel_rfl,by kernel_rfl,⟨by kernel_rfl,by kernel_rfl⟩⟩
def i18:TI:=⟨1,8,.agg #[.pointer none],.agg [(0,1)] false [false],.bool⟩
theorem j18:TIok Tryz.prog 18 i18:=⟨by kernel_rfl,by kernel_rfl,by kernel_rfl,by kernel_rfl,⟨by kernel_rfl,by kernel_rfl,by kernel_rfl,⟨by kernel_rfl,trivial⟩,(fun h=>by cases h),by kernel_rfl⟩⟩
def i21:TI:=⟨1,4,.int .i32 0,.int .i32,(.int .i32)⟩
theorem j21:TIok Tryz.prog 21 i21:=⟨by kernel_rfl,by kernel_rfl,by kernel_rfl,by kernel_rfl,⟨by kernel_rfl,by kernel_rfl⟩⟩
def i22:TI:=⟨1,24,.slice none 0 0,.sl 5,(.sl (.int .u8))⟩
theorem j22:TIok Tryz.prog 22 i22:=⟨by kernel_rfl,by kernel_rfl,by kernel_rfl,by kernel_rfl,⟨by kernel_rfl,by kernel_rfl⟩⟩
def i24:TI:=⟨1,24,.slice none 0 0,.sl 163,(.sl y163)⟩
theorem j24:TIok Tryz.prog 24 i24:=⟨by kernel_rfl,by kernel_rfl,by kernel_rfl,by kernel_rfl,⟨by kernel_rfl,by kernel_rfl⟩⟩
def i26:TI:=⟨1,24,.agg #[.slice none 0 0],.agg [(0,1)] false [false],((.sl y163))⟩
theorem j26:TIok Tryz.prog 26 i26:=⟨by kernel_rfl,by kernel_rfl,by kernel_rfl,by kernel_rfl,⟨by kernel_rfl,by kernel_rfl,by kernel_rfl,⟨by kernel_rfl,trivial⟩,(fun h=>by cases h),by kernel_rfl⟩⟩
def i27:TI:=⟨1,24,.slice none 0 0,.sl 165,(.sl y165)⟩
theorem j27:TIok Tryz.prog 27 i27:=⟨by kernel_rfl,by kernel_rfl,by kernel_rfl,by kernel_rfl,⟨by kernel_rfl,by kernel_rfl⟩⟩
def i28:TI:=⟨1,24,.slice none 0 0,.sl 9,(.sl .str)⟩
theorem j28:TIok Tryz.prog 28 i28:=⟨by kernel_rfl,by kernel_rfl,by kernel_rfl,by kernel_rfl,⟨by kernel_rfl,by kernel_rfl⟩⟩
def i29:TI:=⟨1,24,.slice none 0 0,.sl 175,(.sl y175)⟩
theorem j29:TIok Tryz.prog 29 i29:=⟨by kernel_rfl,by kernel_rfl,by kernel_rfl,by kernel_rfl,⟨by kernel_rfl,by kernel_rfl⟩⟩
def i31:TI:=⟨3,72,.agg #[.slice none 0 0,.slice none 0 0,.slice none 0 0],.agg [(0,1),(1,1),(2,1)] false [false,false,false],y31⟩
theorem j31:TIok Tryz.prog 31 i31:=⟨by kernel_rfl,by kernel_rfl,by kernel_rfl,by kernel_rfl,⟨by kernel_rfl,by kernel_rfl,by kernel_rfl,⟨by kernel_rfl,by kernel_rfl,by kernel_rfl,trivial⟩,(fun h=>by cases h),by kernel_rfl⟩⟩
def i32:TI:=⟨1,24,.slice none 0 0,.sl 110,(.sl y110)⟩
theorem j32:TIok Tryz.prog 32 i32:=⟨by kernel_rfl,by kernel_rfl,by kernel_rfl,by kernel_rfl,⟨by kernel_rfl,by kernel_rfl⟩⟩
def i33:TI:=⟨5,120,.agg #[.slice none 0 0,.slice none 0 0,.slice none 0 0,.slice none 0 0,.slice none 0 0],.agg [(0,1),(1,3),(4,1)] false [true,true,false],y33⟩
theorem j33:TIok Tryz.prog 33 i33:=⟨by kernel_rfl,by kernel_rfl,by kernel_rfl,by kernel_rfl,⟨by kernel_rfl,by kernel_rfl,by kernel_rfl,⟨by kernel_rfl,by kernel_rfl,by kernel_rfl,trivial⟩,(fun h=>by cases h),by kernel_rfl⟩⟩
def i34:TI:=⟨5,120,.agg #[.slice none 0 0,.slice none 0 0,.slice none 0 0,.slice none 0 0,.slice none 0 0],.agg [(0,1),(1,3),(4,1)] false [true,true,false],y34⟩
theorem j34:TIok Tryz.prog 34 i34:=⟨by kernel_rfl,by kernel_rfl,by kernel_rfl,by kernel_rfl,⟨by kernel_rfl,by kernel_rfl,by kernel_rfl,⟨by kernel_rfl,by kernel_rfl,by kernel_rfl,trivial⟩,(fun h=>by cases h),by kernel_rfl⟩⟩
def i35:TI:=⟨1,24,.slice none 0 0,.sl 2,(.sl (.int .i64))⟩
theorem j35:TIok Tryz.prog 35 i35:=⟨by kernel_rfl,by kernel_rfl,by kernel_rfl,by kernel_rfl,⟨by kernel_rfl,by kernel_rfl⟩⟩
def i44:TI:=⟨1,24,.slice none 0 0,.sl 48,(.sl y48)⟩
theorem j44:TIok Tryz.prog 44 i44:=⟨by kernel_rfl,by kernel_rfl,by kernel_rfl,by kernel_rfl,⟨by kernel_rfl,by kernel_rfl⟩⟩
def i48:TI:=⟨4,32,.agg #[.int .i64 0,.int .i64 0,.int .i64 0,.int .i64 0],.agg [(0,1),(1,1),(2,1),(3,1)] true [false,false,false,false],y48⟩
theorem j48:TIok Tryz.prog 48 i48:=⟨by kernel_rfl,by kernel_rfl,by kernel_rfl,by kernel_rfl,⟨by kernel_rfl,by kernel_rfl,by kernel_rfl,⟨by kernel_rfl,by kernel_rfl,by kernel_rfl,by kernel_rfl,trivial⟩,(fun _=>by kernel_rfl),by kernel_rfl⟩⟩
def i53:TI:=⟨1,8,.pointer none,.ptr,(.pt y115)⟩
theorem j53:TIok Tryz.prog 53 i53:=⟨by kernel_rfl,by kernel_rfl,by kernel_rfl,by kernel_rfl,⟨by kernel_rfl,by kernel_rfl⟩⟩
def i55:TI:=⟨1,8,.int .u64 0,.int .u64,(.int .u64)⟩
theorem j55:TIok Tryz.prog 55 i55:=⟨by kernel_rfl,by kernel_rfl,by kernel_rfl,by kernel_rfl,⟨by kernel_rfl,by kernel_rfl⟩⟩
def i57:TI:=⟨1,24,.slice none 0 0,.sl 35,(.sl (.sl (.int .i64)))⟩
theorem j57:TIok Tryz.prog 57 i57:=⟨by kernel_rfl,by kernel_rfl,by kernel_rfl,by kernel_rfl,⟨by kernel_rfl,by kernel_rfl⟩⟩
def i75:TI:=⟨2,16,.agg #[.int .i64 0,.int .i64 0],.agg [(0,1),(1,1)] true [false,false],y75⟩
theorem j75:TIok Tryz.prog 75 i75:=⟨by kernel_rfl,by kernel_rfl,by kernel_rfl,by kernel_rfl,⟨by kernel_rfl,by kernel_rfl,by kernel_rfl,⟨by kernel_rfl,by kernel_rfl,trivial⟩,(fun _=>by kernel_rfl),by kernel_rfl⟩⟩
def i82:TI:=⟨1,8,.pointer none,.ptr,(.pt y152)⟩
theorem j82:TIok Tryz.prog 82 i82:=⟨by kernel_rfl,by kernel_rfl,by kernel_rfl,by kernel_rfl,⟨by kernel_rfl,by kernel_rfl⟩⟩
def i86:TI:=⟨1,8,.pointer none,.ptr,(.pt y127)⟩
theorem j86:TIok Tryz.prog 86 i86:=⟨by kernel_rfl,by kernel_rfl,by kernel_rfl,by kernel_rfl,⟨by kernel_rfl,by kernel_rfl⟩⟩
def i94:TI:=⟨1,24,.slice none 0 0,.sl 4,(.sl .bool)⟩
theorem j94:TIok Tryz.prog 94 i94:=⟨by kernel_rfl,by kernel_rfl,by kernel_rfl,by kernel_rfl,⟨by kernel_rfl,by kernel_rfl⟩⟩
def i98:TI:=⟨1,24,.slice none 0 0,.sl 105,(.sl y105)⟩
theorem j98:TIok Tryz.prog 98 i98:=⟨by kernel_rfl,by kernel_rfl,by kernel_rfl,by kernel_rfl,⟨by kernel_rfl,by kernel_rfl⟩⟩
def i99:TI:=⟨10,240,.agg #[.slice none 0 0,.slice none 0 0,.slice none 0 0,.slice none 0 0,.slice none 0 0,.slice none 0 0,.slice none 0 0,.slice none 0 0,.slice none 0 0,.slice none 0 0],.agg [(0,5),(5,1),(6,1),(7,1),(8,1),(9,1)] false [true,false,false,false,false,false],y99⟩
theorem j99:TIok Tryz.prog 99 i99:=⟨by kernel_rfl,by kernel_rfl,by kernel_rfl,by kernel_rfl,⟨by kernel_rfl,by kernel_rfl,by kernel_rfl,⟨by kernel_rfl,by kernel_rfl,by kernel_rfl,by kernel_rfl,by kernel_rfl,by kernel_rfl,trivial⟩,(fun h=>by cases h),by kernel_rfl⟩⟩
def i100:TI:=⟨10,240,.agg #[.slice none 0 0,.slice none 0 0,.slice none 0 0,.slice none 0 0,.slice none 0 0,.slice none 0 0,.slice none 0 0,.slice none 0 0,.slice none 0 0,.slice none 0 0],.agg [(0,5),(5,1),(6,1),(7,1),(8,1),(9,1)] false [true,false,false,false,false,false],y100⟩
theorem j100:TIok Tryz.prog 100 i100:=⟨by kernel_rfl,by kernel_rfl,by kernel_rfl,by kernel_rfl,⟨by kernel_rfl,by kernel_rfl,by kernel_rfl,⟨by kernel_rfl,by kernel_rfl,by kernel_rfl,by kernel_rfl,by kernel_rfl,by kernel_rfl,trivial⟩,(fun h=>by cases h),by kernel_rfl⟩⟩
def i101:TI:=⟨1,8,.pointer none,.ptr,(.pt y100)⟩
theorem j101:TIok Tryz.prog 101 i101:=⟨by kernel_rfl,by kernel_rfl,by kernel_rfl,by kernel_rfl,⟨by kernel_rfl,by kernel_rfl⟩⟩
def i104:TI:=⟨4,32,.agg #[.int .i64 0,.int .i64 0,.int .i64 0,.bool false],.agg [(0,1),(1,1),(2,1),(3,1)] false [false,false,false,false],y104⟩
theorem j104:TIok Tryz.prog 104 i104:=⟨by kernel_rfl,by kernel_rfl,by kernel_rfl,by kernel_rfl,⟨by kernel_rfl,by kernel_rfl,by kernel_rfl,⟨by kernel_rfl,by kernel_rfl,by kernel_rfl,by kernel_rfl,trivial⟩,(fun h=>by cases h),by kernel_rfl⟩⟩
def i105:TI:=⟨4,32,.agg #[.int .i64 0,.int .i64 0,.int .i64 0,.bool false],.agg [(0,1),(1,1),(2,1),(3,1)] false [false,false,false,false],y105⟩
theorem j105:TIok Tryz.prog 105 i105:=⟨by kernel_rfl,by kernel_rfl,by kernel_rfl,by kernel_rfl,⟨by kernel_rfl,by kernel_rfl,by kernel_rfl,⟨by kernel_rfl,by kernel_rfl,by kernel_rfl,by kernel_rfl,trivial⟩,(fun h=>by cases h),by kernel_rfl⟩⟩
def i109:TI:=⟨4,96,.agg #[.slice none 0 0,.slice none 0 0,.slice none 0 0,.slice none 0 0],.agg [(0,1),(1,1),(2,1),(3,1)] false [false,false,false,false],y109⟩
theorem j109:TIok Tryz.prog 109 i109:=⟨by kernel_rfl,by kernel_rfl,by kernel_rfl,by kernel_rfl,⟨by kernel_rfl,by kernel_rfl,by kernel_rfl,⟨by kernel_rfl,by kernel_rfl,by kernel_rfl,by kernel_rfl,trivial⟩,(fun h=>by cases h),by kernel_rfl⟩⟩
def i110:TI:=⟨4,96,.agg #[.slice none 0 0,.slice none 0 0,.slice none 0 0,.slice none 0 0],.agg [(0,1),(1,1),(2,1),(3,1)] false [false,false,false,false],y110⟩
theorem j110:TIok Tryz.prog 110 i110:=⟨by kernel_rfl,by kernel_rfl,by kernel_rfl,by kernel_rfl,⟨by kernel_rfl,by kernel_rfl,by kernel_rfl,⟨by kernel_rfl,by kernel_rfl,by kernel_rfl,by kernel_rfl,trivial⟩,(fun h=>by cases h),by kernel_rfl⟩⟩
def i114:TI:=⟨3,40,.agg #[.slice none 0 0,.int .i64 0,.int .u64 0],.agg [(0,1),(1,1),(2,1)] false [false,false,false],y114⟩
theorem j114:TIok Tryz.prog 114 i114:=⟨by kernel_rfl,by kernel_rfl,by kernel_rfl,by kernel_rfl,⟨by kernel_rfl,by kernel_rfl,by kernel_rfl,⟨by kernel_rfl,by kernel_rfl,by kernel_rfl,trivial⟩,(fun h=>by cases h),by kernel_rfl⟩⟩
def i115:TI:=⟨3,40,.agg #[.slice none 0 0,.int .i64 0,.int .u64 0],.agg [(0,1),(1,1),(2,1)] false [false,false,false],y115⟩
theorem j115:TIok Tryz.prog 115 i115:=⟨by kernel_rfl,by kernel_rfl,by kernel_rfl,by kernel_rfl,⟨by kernel_rfl,by kernel_rfl,by kernel_rfl,⟨by kernel_rfl,by kernel_rfl,by kernel_rfl,trivial⟩,(fun h=>by cases h),by kernel_rfl⟩⟩
def i120:TI:=⟨1,8,.int .u64 0,.int .u64,(.int .u64)⟩
theorem j120:TIok Tryz.prog 120 i120:=⟨by kernel_rfl,by kernel_rfl,by kernel_rfl,by kernel_rfl,⟨by kernel_rfl,by kernel_rfl⟩⟩
def i127:TI:=⟨2,32,.agg #[.pointer none,.slice none 0 0],.agg [(0,1),(1,1)] false [false,false],y127⟩
theorem j127:TIok Tryz.prog 127 i127:=⟨by kernel_rfl,by kernel_rfl,by kernel_rfl,by kernel_rfl,⟨by kernel_rfl,by kernel_rfl,by kernel_rfl,⟨by kernel_rfl,by kernel_rfl,trivial⟩,(fun h=>by cases h),by kernel_rfl⟩⟩
def i140:TI:=⟨3,72,.agg #[.slice none 0 0,.slice none 0 0,.slice none 0 0],.agg [(0,1),(1,1),(2,1)] false [false,false,false],y140⟩
theorem j140:TIok Tryz.prog 140 i140:=⟨by kernel_rfl,by kernel_rfl,by kernel_rfl,by kernel_rfl,⟨by kernel_rfl,by kernel_rfl,by kernel_rfl,⟨by kernel_rfl,by kernel_rfl,by kernel_rfl,trivial⟩,(fun h=>by cases h),by kernel_rfl⟩⟩
def i141:TI:=⟨1,24,.slice none 0 0,.sl 140,(.sl y140)⟩
theorem j141:TIok Tryz.prog 141 i141:=⟨by kernel_rfl,by kernel_rfl,by kernel_rfl,by kernel_rfl,⟨by kernel_rfl,by kernel_rfl⟩⟩
def i143:TI:=⟨6,80,.agg #[.int .i64 0,.int .i64 0,.int .i64 0,.int .i64 0,.slice none 0 0,.slice none 0 0],.agg [(0,1),(1,1),(2,1),(3,1),(4,1),(5,1)] false [false,false,false,false,false,false],y143⟩
theorem j143:TIok Tryz.prog 143 i143:=⟨by kernel_rfl,by kernel_rfl,by kernel_rfl,by kernel_rfl,⟨by kernel_rfl,by kernel_rfl,by kernel_rfl,⟨by kernel_rfl,by kernel_rfl,by kernel_rfl,by kernel_rfl,by kernel_rfl,by kernel_rfl,trivial⟩,(fun h=>by cases h),by kernel_rfl⟩⟩
def i152:TI:=⟨3,40,.agg #[.slice none 0 0,.int .i64 0,.int .i64 0],.agg [(0,1),(1,1),(2,1)] false [false,false,false],y152⟩
theorem j152:TIok Tryz.prog 152 i152:=⟨by kernel_rfl,by kernel_rfl,by kernel_rfl,by kernel_rfl,⟨by kernel_rfl,by kernel_rfl,by kernel_rfl,⟨by kernel_rfl,by kernel_rfl,by kernel_rfl,trivial⟩,(fun h=>by cases h),by kernel_rfl⟩⟩
def i155:TI:=⟨1,24,.slice none 0 0,.sl 3,(.sl (.int .i64))⟩
theorem j155:TIok Tryz.prog 155 i155:=⟨by kernel_rfl,by kernel_rfl,by kernel_rfl,by kernel_rfl,⟨by kernel_rfl,by kernel_rfl⟩⟩
def i160:TI:=⟨1,24,.slice none 0 0,.sl 217,(.sl y217)⟩
theorem j160:TIok Tryz.prog 160 i160:=⟨by kernel_rfl,by kernel_rfl,by kernel_rfl,by kernel_rfl,⟨by kernel_rfl,by kernel_rfl⟩⟩
def i161:TI:=⟨1,24,.slice none 0 0,.sl 143,(.sl y143)⟩
theorem j161:TIok Tryz.prog 161 i161:=⟨by kernel_rfl,by kernel_rfl,by kernel_rfl,by kernel_rfl,⟨by kernel_rfl,by kernel_rfl⟩⟩
def i163:TI:=⟨7,112,.agg #[.string ⟨#[]⟩,.int .i64 0,.slice none 0 0,.slice none 0 0,.slice none 0 0,.int .i64 0,.int .i64 0],.agg [(0,1),(1,1),(2,1),(3,1),(4,1),(5,1),(6,1)] false [false,false,false,false,false,false,false],y163⟩
theorem j163:TIok Tryz.prog 163 i163:=⟨by kernel_rfl,by kernel_rfl,by kernel_rfl,by kernel_rfl,⟨by kernel_rfl,by kernel_rfl,by kernel_rfl,⟨by kernel_rfl,by kernel_rfl,by kernel_rfl,by kernel_rfl,by kernel_rfl,by kernel_rfl,by kernel_rfl,trivial⟩,(fun h=>by cases h),by kernel_rfl⟩⟩
def i165:TI:=⟨3,48,.agg #[.string ⟨#[]⟩,.int .i64 0,.slice none 0 0],.agg [(0,1),(1,1),(2,1)] false [false,false,false],y165⟩
theorem j165:TIok Tryz.prog 165 i165:=⟨by kernel_rfl,by kernel_rfl,by kernel_rfl,by kernel_rfl,⟨by kernel_rfl,by kernel_rfl,by kernel_rfl,⟨by kernel_rfl,by kernel_rfl,by kernel_rfl,trivial⟩,(fun h=>by cases h),by kernel_rfl⟩⟩
def i170:TI:=⟨1,24,.slice none 0 0,.sl 179,(.sl y179)⟩
theorem j170:TIok Tryz.prog 170 i170:=⟨by kernel_rfl,by kernel_rfl,by kernel_rfl,by kernel_rfl,⟨by kernel_rfl,by kernel_rfl⟩⟩
def i175:TI:=⟨3,32,.agg #[.string ⟨#[]⟩,.int .i64 0,.int .i64 0],.agg [(0,1),(1,1),(2,1)] false [false,false,false],y175⟩
theorem j175:TIok Tryz.prog 175 i175:=⟨by kernel_rfl,by kernel_rfl,by kernel_rfl,by kernel_rfl,⟨by kernel_rfl,by kernel_rfl,by kernel_rfl,⟨by kernel_rfl,by kernel_rfl,by kernel_rfl,trivial⟩,(fun h=>by cases h),by kernel_rfl⟩⟩
def i179:TI:=⟨4,32,.agg #[.int .i64 0,.int .i64 0,.int .i64 0,.bool false],.agg [(0,1),(1,1),(2,1),(3,1)] false [false,false,false,false],y179⟩
theorem j179:TIok Tryz.prog 179 i179:=⟨by kernel_rfl,by kernel_rfl,by kernel_rfl,by kernel_rfl,⟨by kernel_rfl,by kernel_rfl,by kernel_rfl,⟨by kernel_rfl,by kernel_rfl,by kernel_rfl,by kernel_rfl,trivial⟩,(fun h=>by cases h),by kernel_rfl⟩⟩
def i208:TI:=⟨1,24,.slice none 0 0,.sl 210,(.sl (.pr (.int .i64) (.int .i64)))⟩
theorem j208:TIok Tryz.prog 208 i208:=⟨by kernel_rfl,by kernel_rfl,by kernel_rfl,by kernel_rfl,⟨by kernel_rfl,by kernel_rfl⟩⟩
def i210:TI:=⟨2,16,.agg #[.int .i64 0,.int .i64 0],.arr 2 2,(.pr (.int .i64) (.int .i64))⟩
theorem j210:TIok Tryz.prog 210 i210:=⟨by kernel_rfl,by kernel_rfl,by kernel_rfl,by kernel_rfl,⟨by kernel_rfl,by kernel_rfl⟩⟩
def i217:TI:=⟨4,40,.agg #[.string ⟨#[]⟩,.int .i64 0,.int .i64 0,.bool false],.agg [(0,1),(1,1),(2,1),(3,1)] false [false,false,false,false],y217⟩
theorem j217:TIok Tryz.prog 217 i217:=⟨by kernel_rfl,by kernel_rfl,by kernel_rfl,by kernel_rfl,⟨by kernel_rfl,by kernel_rfl,by kernel_rfl,⟨by kernel_rfl,by kernel_rfl,by kernel_rfl,by kernel_rfl,trivial⟩,(fun h=>by cases h),by kernel_rfl⟩⟩
def Γ:Tab':=[(2,i2),(3,i3),(4,i4),(5,i5),(6,i6),(7,i7),(8,i8),(9,i9),(10,i10),(11,i11),(12,i12),(13,i13),(14,i14),(15,i15),(17,i17),(18,i18),(21,i21),(22,i22),(24,i24),(26,i26),(27,i27),(28,i28),(29,i29),(31,i31),(32,i32),(33,i33),(34,i34),(35,i35),(44,i44),(48,i48),(53,i53),(55,i55),(57,i57),(75,i75),(82,i82),(86,i86),(94,i94),(98,i98),(99,i99),(100,i100),(101,i101),(104,i104),(105,i105),(109,i109),(110,i110),(114,i114),(115,i115),(120,i120),(127,i127),(140,i140),(141,i141),(143,i143),(152,i152),(155,i155),(160,i160),(161,i161),(163,i163),(165,i165),(170,i170),(175,i175),(179,i179),(208,i208),(210,i210),(217,i217)]
theorem tok:TabOk Tryz.prog Γ:=tK j2 (tK j3 (tK j4 (tK j5 (tK j6 (tK j7 (tK j8 (tK j9 (tK j10 (tK j11 (tK j12 (tK j13 (tK j14 (tK j15 (tK j17 (tK j18 (tK j21 (tK j22 (tK j24 (tK j26 (tK j27 (tK j28 (tK j29 (tK j31 (tK j32 (tK j33 (tK j34 (tK j35 (tK j44 (tK j48 (tK j53 (tK j55 (tK j57 (tK j75 (tK j82 (tK j86 (tK j94 (tK j98 (tK j99 (tK j100 (tK j101 (tK j104 (tK j105 (tK j109 (tK j110 (tK j114 (tK j115 (tK j120 (tK j127 (tK j140 (tK j141 (tK j143 (tK j152 (tK j155 (tK j160 (tK j161 (tK j163 (tK j165 (tK j170 (tK j175 (tK j179 (tK j208 (tK j210 (tK j217 tab_nil)))))))))))))))))))))))))))))))))))))))))))))))))))))))))))))))
end Go.Proofs.YtphnknndgfgepaaGreatDoor
end
