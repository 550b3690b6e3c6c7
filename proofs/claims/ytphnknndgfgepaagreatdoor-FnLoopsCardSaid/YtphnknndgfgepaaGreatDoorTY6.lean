/- The types of this seat's program. -/
import Derived.Test.YtphnknndgfgepaaGreatDoorXE6
import Derived.Test.YtphnknndgfgepaaGreatDoorProg
import Derived.KernelRfl
section
namespace Go.Proofs.YtphnknndgfgepaaGreatDoor
open Go Go.Proofs Go.Proofs.Sv Go.Proofs.Xv
instance:K1 Tryz.prog:=⟨by kernel_rfl⟩
abbrev y7:Ty:=.pr (.int .i64) (.pr (.int .i64) (.pr .bool ((.int .u8))))
abbrev y8:Ty:=.pr (.int .i64) (.pr (.int .i64) (.pr .bool ((.int .u8))))
abbrev y13:Ty:=.pr .str ((.int .u64))
abbrev y14:Ty:=.pr .str ((.int .u64))
abbrev y217:Ty:=.pr .str (.pr (.int .i64) (.pr (.int .i64) (.bool)))
abbrev I2:Type:=ByteArray×Int×Int×Bool
abbrev y140:Ty:=.pr (.sl (.int .i64)) (.pr (.sl (.int .i64)) ((.sl (.int .i64))))
abbrev D2:Type:=List Int×List Int×List Int
abbrev y143:Ty:=.pr (.int .i64) (.pr (.int .i64) (.pr (.int .i64) (.pr (.int .i64) (.pr (.sl y140) ((.sl y140))))))
abbrev A5:Type:=Int×Int×Int×Int×List D2×List D2
abbrev y163:Ty:=.pr .str (.pr (.int .i64) (.pr (.sl y217) (.pr (.sl y143) (.pr (.sl (.int .i64)) (.pr (.int .i64) ((.int .i64)))))))
abbrev m4:Type:=ByteArray×Int×List I2×List A5×List Int×Int×Int
abbrev y165:Ty:=.pr .str (.pr (.int .i64) ((.sl (.int .i64))))
abbrev m7:Type:=ByteArray×Int×List Int
abbrev y175:Ty:=.pr .str (.pr (.int .i64) ((.int .i64)))
abbrev r7:Type:=ByteArray×Int×Int
abbrev y30:Ty:=.pr (.sl y165) (.pr (.sl .str) ((.sl y175)))
abbrev y31:Ty:=.pr (.sl y165) (.pr (.sl .str) ((.sl y175)))
abbrev Y31:Type:=List m7×List ByteArray×List r7
abbrev l6:Ty:=.pr (.sl (.int .i64)) (.pr (.sl (.int .i64)) (.pr (.sl (.int .i64)) ((.sl (.int .i64)))))
abbrev x9:Type:=List Int×List Int×List Int×List Int
abbrev y33:Ty:=.pr ((.sl y163)) (.pr y31 ((.sl l6)))
abbrev y34:Ty:=.pr ((.sl y163)) (.pr y31 ((.sl l6)))
abbrev Y34:Type:=List m4×Y31×List x9
abbrev y48:Ty:=.pr (.int .i64) (.pr (.int .i64) (.pr (.int .i64) ((.int .i64))))
abbrev Y48:Type:=Int×Int×Int×Int
abbrev F0j:Ty:=.pr (.sl (.int .u8)) (.pr (.int .i64) ((.int .u64)))
abbrev y65:Ty:=.pr .str (.pr (.int .i64) (.pr (.int .i64) (.pr (.int .i64) ((.int .i64)))))
abbrev y75:Ty:=.pr (.int .i64) ((.int .i64))
abbrev Y75:Type:=Int×Int
abbrev l7:Ty:=.pr (.sl (.int .u8)) (.pr (.int .i64) ((.int .i64)))
abbrev l8:Type:=List Int×Int×Int
abbrev y105:Ty:=.pr (.int .i64) (.pr (.int .i64) (.pr (.int .i64) (.bool)))
abbrev B2:Type:=Int×Int×Int×Bool
abbrev y100:Ty:=.pr y34 (.pr (.sl y105) (.pr (.sl y48) (.pr (.sl (.int .i64)) (.pr (.sl (.sl (.int .i64))) ((.sl (.int .i64)))))))
abbrev y9:Type:=Y34×List B2×List Y48×List Int×List (List Int)×List Int
abbrev y127:Ty:=.pr (.pt y100) ((.sl .bool))
abbrev H2:Type:=y9×List Bool
abbrev y99:Ty:=.pr y34 (.pr (.sl y105) (.pr (.sl y48) (.pr (.sl (.int .i64)) (.pr (.sl (.sl (.int .i64))) ((.sl (.int .i64)))))))
abbrev G0L:Ty:=.pr (.int .i64) (.pr (.int .i64) (.pr (.int .i64) (.bool)))
abbrev G0K:Ty:=.pr (.sl (.int .i64)) (.pr (.sl (.int .i64)) (.pr (.sl (.int .i64)) ((.sl (.int .i64)))))
abbrev G0J:Ty:=.pr (.sl (.int .u8)) (.pr (.int .i64) ((.int .u64)))
abbrev x8:Ty:=.pr (.int .i64) (.pr (.int .i64) (.pr (.int .i64) (.bool)))
abbrev C6:Type:=Int×Int×Int×Bool
def i2:TI:=⟨1,8,.int .i64 0,.int .i64,(.int .i64)⟩
theorem j2:u0 Tryz.prog 2 i2:=⟨by kernel_rfl,by kernel_rfl,by kernel_rfl,by kernel_rfl,⟨by kernel_rfl,by kernel_rfl⟩⟩
def i3:TI:=⟨1,8,.int .i64 0,.int .i64,(.int .i64)⟩
theorem j3:u0 Tryz.prog 3 i3:=⟨by kernel_rfl,by kernel_rfl,by kernel_rfl,by kernel_rfl,⟨by kernel_rfl,by kernel_rfl⟩⟩
def i4:TI:=⟨1,1,.bool false,.bool,.bool⟩
theorem j4:u0 Tryz.prog 4 i4:=⟨by kernel_rfl,by kernel_rfl,by kernel_rfl,by kernel_rfl,⟨by kernel_rfl,by kernel_rfl⟩⟩
def i5:TI:=⟨1,1,.int .u8 0,.int .u8,(.int .u8)⟩
theorem j5:u0 Tryz.prog 5 i5:=⟨by kernel_rfl,by kernel_rfl,by kernel_rfl,by kernel_rfl,⟨by kernel_rfl,by kernel_rfl⟩⟩
def i6:TI:=⟨1,1,.int .u8 0,.int .u8,(.int .u8)⟩
theorem j6:u0 Tryz.prog 6 i6:=⟨by kernel_rfl,by kernel_rfl,by kernel_rfl,by kernel_rfl,⟨by kernel_rfl,by kernel_rfl⟩⟩
def i7:TI:=⟨4,24,.agg #[.int .i64 0,.int .i64 0,.bool false,.int .u8 0],.agg [(0,1),(1,1),(2,1),(3,1)] false [false,false,false,false],y7⟩
theorem j7:u0 Tryz.prog 7 i7:=⟨by kernel_rfl,by kernel_rfl,by kernel_rfl,by kernel_rfl,⟨by kernel_rfl,by kernel_rfl,by kernel_rfl,⟨by kernel_rfl,by kernel_rfl,by kernel_rfl,by kernel_rfl,trivial⟩,(fun h=>by cases h),by kernel_rfl⟩⟩
def i8:TI:=⟨4,24,.agg #[.int .i64 0,.int .i64 0,.bool false,.int .u8 0],.agg [(0,1),(1,1),(2,1),(3,1)] false [false,false,false,false],y8⟩
theorem j8:u0 Tryz.prog 8 i8:=⟨by kernel_rfl,by kernel_rfl,by kernel_rfl,by kernel_rfl,⟨by kernel_rfl,by kernel_rfl,by kernel_rfl,⟨by kernel_rfl,by kernel_rfl,by kernel_rfl,by kernel_rfl,trivial⟩,(fun h=>by cases h),by kernel_rfl⟩⟩
def i9:TI:=⟨1,16,.string ⟨#[]⟩,.str,.str⟩
theorem j9:u0 Tryz.prog 9 i9:=⟨by kernel_rfl,by kernel_rfl,by kernel_rfl,by kernel_rfl,⟨by kernel_rfl,by kernel_rfl⟩⟩
def i10:TI:=⟨1,16,.string ⟨#[]⟩,.str,.str⟩
theorem j10:u0 Tryz.prog 10 i10:=⟨by kernel_rfl,by kernel_rfl,by kernel_rfl,by kernel_rfl,⟨by kernel_rfl,by kernel_rfl⟩⟩
def i11:TI:=⟨1,16,.string ⟨#[]⟩,.str,.str⟩
theorem j11:u0 Tryz.prog 11 i11:=⟨by kernel_rfl,by kernel_rfl,by kernel_rfl,by kernel_rfl,⟨by kernel_rfl,by kernel_rfl⟩⟩
def i12:TI:=⟨1,8,.int .u64 0,.int .u64,(.int .u64)⟩
theorem j12:u0 Tryz.prog 12 i12:=⟨by kernel_rfl,by kernel_rfl,by kernel_rfl,by kernel_rfl,⟨by kernel_rfl,by kernel_rfl⟩⟩
def i13:TI:=⟨2,24,.agg #[.string ⟨#[]⟩,.int .u64 0],.agg [(0,1),(1,1)] false [false,false],y13⟩
theorem j13:u0 Tryz.prog 13 i13:=⟨by kernel_rfl,by kernel_rfl,by kernel_rfl,by kernel_rfl,⟨by kernel_rfl,by kernel_rfl,by kernel_rfl,⟨by kernel_rfl,by kernel_rfl,trivial⟩,(fun h=>by cases h),by kernel_rfl⟩⟩
def i14:TI:=⟨2,24,.agg #[.string ⟨#[]⟩,.int .u64 0],.agg [(0,1),(1,1)] false [false,false],y14⟩
theorem j14:u0 Tryz.prog 14 i14:=⟨by kernel_rfl,by kernel_rfl,by kernel_rfl,by kernel_rfl,⟨by kernel_rfl,by kernel_rfl,by kernel_rfl,⟨by kernel_rfl,by kernel_rfl,trivial⟩,(fun h=>by cases h),by kernel_rfl⟩⟩
def i15:TI:=⟨1,8,.pointer none,.ptr,.bool⟩
theorem j15:u0 Tryz.prog 15 i15:=⟨by kernel_rfl,by kernel_rfl,by kernel_rfl,by kernel_rfl,⟨by kernel_rfl,by kernel_rfl⟩⟩
def i16:TI:=⟨1,8,.pointer none,.ptr,.bool⟩
def i17:TI:=⟨1,8,.pointer none,.ptr,.bool⟩
theorem j17:u0 Tryz.prog 17 i17:=⟨by kernel_rfl,by kernel_rfl,by kernel_rfl,by kernel_rfl,⟨by kernel_rfl,by kernel_rfl⟩⟩
def i18:TI:=⟨1,8,.agg #[.pointer none],.agg [(0,1)] false [false],.bool⟩
theorem j18:u0 Tryz.prog 18 i18:=⟨by kernel_rfl,by kernel_rfl,by kernel_rfl,by kernel_rfl,⟨by kernel_rfl,by kernel_rfl,by kernel_rfl,⟨by kernel_rfl,trivial⟩,(fun h=>by cases h),by kernel_rfl⟩⟩
def i21:TI:=⟨1,4,.int .i32 0,.int .i32,(.int .i32)⟩
theorem j21:u0 Tryz.prog 21 i21:=⟨by kernel_rfl,by kernel_rfl,by kernel_rfl,by kernel_rfl,⟨by kernel_rfl,by kernel_rfl⟩⟩
def i22:TI:=⟨1,24,.slice none 0 0,.sl 5,(.sl (.int .u8))⟩
theorem j22:u0 Tryz.prog 22 i22:=⟨by kernel_rfl,by kernel_rfl,by kernel_rfl,by kernel_rfl,⟨by kernel_rfl,by kernel_rfl⟩⟩
def i24:TI:=⟨1,24,.slice none 0 0,.sl 163,(.sl y163)⟩
theorem j24:u0 Tryz.prog 24 i24:=⟨by kernel_rfl,by kernel_rfl,by kernel_rfl,by kernel_rfl,⟨by kernel_rfl,by kernel_rfl⟩⟩
def i26:TI:=⟨1,24,.agg #[.slice none 0 0],.agg [(0,1)] false [false],((.sl y163))⟩
theorem j26:u0 Tryz.prog 26 i26:=⟨by kernel_rfl,by kernel_rfl,by kernel_rfl,by kernel_rfl,⟨by kernel_rfl,by kernel_rfl,by kernel_rfl,⟨by kernel_rfl,trivial⟩,(fun h=>by cases h),by kernel_rfl⟩⟩
def i27:TI:=⟨1,24,.slice none 0 0,.sl 165,(.sl y165)⟩
theorem j27:u0 Tryz.prog 27 i27:=⟨by kernel_rfl,by kernel_rfl,by kernel_rfl,by kernel_rfl,⟨by kernel_rfl,by kernel_rfl⟩⟩
def i28:TI:=⟨1,24,.slice none 0 0,.sl 9,(.sl .str)⟩
theorem j28:u0 Tryz.prog 28 i28:=⟨by kernel_rfl,by kernel_rfl,by kernel_rfl,by kernel_rfl,⟨by kernel_rfl,by kernel_rfl⟩⟩
def i29:TI:=⟨1,24,.slice none 0 0,.sl 175,(.sl y175)⟩
theorem j29:u0 Tryz.prog 29 i29:=⟨by kernel_rfl,by kernel_rfl,by kernel_rfl,by kernel_rfl,⟨by kernel_rfl,by kernel_rfl⟩⟩
def i30:TI:=⟨3,72,.agg #[.slice none 0 0,.slice none 0 0,.slice none 0 0],.agg [(0,1),(1,1),(2,1)] false [false,false,false],y30⟩
theorem j30:u0 Tryz.prog 30 i30:=⟨by kernel_rfl,by kernel_rfl,by kernel_rfl,by kernel_rfl,⟨by kernel_rfl,by kernel_rfl,by kernel_rfl,⟨by kernel_rfl,by kernel_rfl,by kernel_rfl,trivial⟩,(fun h=>by cases h),by kernel_rfl⟩⟩
def i31:TI:=⟨3,72,.agg #[.slice none 0 0,.slice none 0 0,.slice none 0 0],.agg [(0,1),(1,1),(2,1)] false [false,false,false],y31⟩
theorem j31:u0 Tryz.prog 31 i31:=⟨by kernel_rfl,by kernel_rfl,by kernel_rfl,by kernel_rfl,⟨by kernel_rfl,by kernel_rfl,by kernel_rfl,⟨by kernel_rfl,by kernel_rfl,by kernel_rfl,trivial⟩,(fun h=>by cases h),by kernel_rfl⟩⟩
def i32:TI:=⟨1,24,.slice none 0 0,.sl 110,(.sl l6)⟩
theorem j32:u0 Tryz.prog 32 i32:=⟨by kernel_rfl,by kernel_rfl,by kernel_rfl,by kernel_rfl,⟨by kernel_rfl,by kernel_rfl⟩⟩
def i33:TI:=⟨5,120,.agg #[.slice none 0 0,.slice none 0 0,.slice none 0 0,.slice none 0 0,.slice none 0 0],.agg [(0,1),(1,3),(4,1)] false [true,true,false],y33⟩
theorem j33:u0 Tryz.prog 33 i33:=⟨by kernel_rfl,by kernel_rfl,by kernel_rfl,by kernel_rfl,⟨by kernel_rfl,by kernel_rfl,by kernel_rfl,⟨by kernel_rfl,by kernel_rfl,by kernel_rfl,trivial⟩,(fun h=>by cases h),by kernel_rfl⟩⟩
def i34:TI:=⟨5,120,.agg #[.slice none 0 0,.slice none 0 0,.slice none 0 0,.slice none 0 0,.slice none 0 0],.agg [(0,1),(1,3),(4,1)] false [true,true,false],y34⟩
theorem j34:u0 Tryz.prog 34 i34:=⟨by kernel_rfl,by kernel_rfl,by kernel_rfl,by kernel_rfl,⟨by kernel_rfl,by kernel_rfl,by kernel_rfl,⟨by kernel_rfl,by kernel_rfl,by kernel_rfl,trivial⟩,(fun h=>by cases h),by kernel_rfl⟩⟩
def i35:TI:=⟨1,24,.slice none 0 0,.sl 2,(.sl (.int .i64))⟩
theorem j35:u0 Tryz.prog 35 i35:=⟨by kernel_rfl,by kernel_rfl,by kernel_rfl,by kernel_rfl,⟨by kernel_rfl,by kernel_rfl⟩⟩
def i44:TI:=⟨1,24,.slice none 0 0,.sl 48,(.sl y48)⟩
theorem j44:u0 Tryz.prog 44 i44:=⟨by kernel_rfl,by kernel_rfl,by kernel_rfl,by kernel_rfl,⟨by kernel_rfl,by kernel_rfl⟩⟩
def i48:TI:=⟨4,32,.agg #[.int .i64 0,.int .i64 0,.int .i64 0,.int .i64 0],.agg [(0,1),(1,1),(2,1),(3,1)] true [false,false,false,false],y48⟩
theorem j48:u0 Tryz.prog 48 i48:=⟨by kernel_rfl,by kernel_rfl,by kernel_rfl,by kernel_rfl,⟨by kernel_rfl,by kernel_rfl,by kernel_rfl,⟨by kernel_rfl,by kernel_rfl,by kernel_rfl,by kernel_rfl,trivial⟩,(fun _=>by kernel_rfl),by kernel_rfl⟩⟩
def i53:TI:=⟨1,8,.pointer none,.ptr,(.pt F0j)⟩
theorem j53:u0 Tryz.prog 53 i53:=⟨by kernel_rfl,by kernel_rfl,by kernel_rfl,by kernel_rfl,⟨by kernel_rfl,by kernel_rfl⟩⟩
def i55:TI:=⟨1,8,.int .u64 0,.int .u64,(.int .u64)⟩
theorem j55:u0 Tryz.prog 55 i55:=⟨by kernel_rfl,by kernel_rfl,by kernel_rfl,by kernel_rfl,⟨by kernel_rfl,by kernel_rfl⟩⟩
def i57:TI:=⟨1,24,.slice none 0 0,.sl 35,(.sl (.sl (.int .i64)))⟩
theorem j57:u0 Tryz.prog 57 i57:=⟨by kernel_rfl,by kernel_rfl,by kernel_rfl,by kernel_rfl,⟨by kernel_rfl,by kernel_rfl⟩⟩
def i65:TI:=⟨5,48,.agg #[.string ⟨#[]⟩,.int .i64 0,.int .i64 0,.int .i64 0,.int .i64 0],.agg [(0,1),(1,1),(2,1),(3,1),(4,1)] false [false,false,false,false,false],y65⟩
theorem j65:u0 Tryz.prog 65 i65:=⟨by kernel_rfl,by kernel_rfl,by kernel_rfl,by kernel_rfl,⟨by kernel_rfl,by kernel_rfl,by kernel_rfl,⟨by kernel_rfl,by kernel_rfl,by kernel_rfl,by kernel_rfl,by kernel_rfl,trivial⟩,(fun h=>by cases h),by kernel_rfl⟩⟩
def i75:TI:=⟨2,16,.agg #[.int .i64 0,.int .i64 0],.agg [(0,1),(1,1)] true [false,false],y75⟩
theorem j75:u0 Tryz.prog 75 i75:=⟨by kernel_rfl,by kernel_rfl,by kernel_rfl,by kernel_rfl,⟨by kernel_rfl,by kernel_rfl,by kernel_rfl,⟨by kernel_rfl,by kernel_rfl,trivial⟩,(fun _=>by kernel_rfl),by kernel_rfl⟩⟩
def i82:TI:=⟨1,8,.pointer none,.ptr,(.pt l7)⟩
theorem j82:u0 Tryz.prog 82 i82:=⟨by kernel_rfl,by kernel_rfl,by kernel_rfl,by kernel_rfl,⟨by kernel_rfl,by kernel_rfl⟩⟩
def i86:TI:=⟨1,8,.pointer none,.ptr,(.pt y127)⟩
theorem j86:u0 Tryz.prog 86 i86:=⟨by kernel_rfl,by kernel_rfl,by kernel_rfl,by kernel_rfl,⟨by kernel_rfl,by kernel_rfl⟩⟩
def i94:TI:=⟨1,24,.slice none 0 0,.sl 4,(.sl .bool)⟩
theorem j94:u0 Tryz.prog 94 i94:=⟨by kernel_rfl,by kernel_rfl,by kernel_rfl,by kernel_rfl,⟨by kernel_rfl,by kernel_rfl⟩⟩
def i98:TI:=⟨1,24,.slice none 0 0,.sl 105,(.sl y105)⟩
theorem j98:u0 Tryz.prog 98 i98:=⟨by kernel_rfl,by kernel_rfl,by kernel_rfl,by kernel_rfl,⟨by kernel_rfl,by kernel_rfl⟩⟩
def i99:TI:=⟨10,240,.agg #[.slice none 0 0,.slice none 0 0,.slice none 0 0,.slice none 0 0,.slice none 0 0,.slice none 0 0,.slice none 0 0,.slice none 0 0,.slice none 0 0,.slice none 0 0],.agg [(0,5),(5,1),(6,1),(7,1),(8,1),(9,1)] false [true,false,false,false,false,false],y99⟩
theorem j99:u0 Tryz.prog 99 i99:=⟨by kernel_rfl,by kernel_rfl,by kernel_rfl,by kernel_rfl,⟨by kernel_rfl,by kernel_rfl,by kernel_rfl,⟨by kernel_rfl,by kernel_rfl,by kernel_rfl,by kernel_rfl,by kernel_rfl,by kernel_rfl,trivial⟩,(fun h=>by cases h),by kernel_rfl⟩⟩
def G0u:TI:=⟨10,240,.agg #[.slice none 0 0,.slice none 0 0,.slice none 0 0,.slice none 0 0,.slice none 0 0,.slice none 0 0,.slice none 0 0,.slice none 0 0,.slice none 0 0,.slice none 0 0],.agg [(0,5),(5,1),(6,1),(7,1),(8,1),(9,1)] false [true,false,false,false,false,false],y100⟩
theorem L0p:u0 Tryz.prog 100 G0u:=⟨by kernel_rfl,by kernel_rfl,by kernel_rfl,by kernel_rfl,⟨by kernel_rfl,by kernel_rfl,by kernel_rfl,⟨by kernel_rfl,by kernel_rfl,by kernel_rfl,by kernel_rfl,by kernel_rfl,by kernel_rfl,trivial⟩,(fun h=>by cases h),by kernel_rfl⟩⟩
def G0t:TI:=⟨1,8,.pointer none,.ptr,(.pt y100)⟩
theorem L0o:u0 Tryz.prog 101 G0t:=⟨by kernel_rfl,by kernel_rfl,by kernel_rfl,by kernel_rfl,⟨by kernel_rfl,by kernel_rfl⟩⟩
def G0s:TI:=⟨4,32,.agg #[.int .i64 0,.int .i64 0,.int .i64 0,.bool false],.agg [(0,1),(1,1),(2,1),(3,1)] false [false,false,false,false],G0L⟩
theorem L0n:u0 Tryz.prog 104 G0s:=⟨by kernel_rfl,by kernel_rfl,by kernel_rfl,by kernel_rfl,⟨by kernel_rfl,by kernel_rfl,by kernel_rfl,⟨by kernel_rfl,by kernel_rfl,by kernel_rfl,by kernel_rfl,trivial⟩,(fun h=>by cases h),by kernel_rfl⟩⟩
def G0r:TI:=⟨4,32,.agg #[.int .i64 0,.int .i64 0,.int .i64 0,.bool false],.agg [(0,1),(1,1),(2,1),(3,1)] false [false,false,false,false],y105⟩
theorem L0m:u0 Tryz.prog 105 G0r:=⟨by kernel_rfl,by kernel_rfl,by kernel_rfl,by kernel_rfl,⟨by kernel_rfl,by kernel_rfl,by kernel_rfl,⟨by kernel_rfl,by kernel_rfl,by kernel_rfl,by kernel_rfl,trivial⟩,(fun h=>by cases h),by kernel_rfl⟩⟩
def G0q:TI:=⟨4,96,.agg #[.slice none 0 0,.slice none 0 0,.slice none 0 0,.slice none 0 0],.agg [(0,1),(1,1),(2,1),(3,1)] false [false,false,false,false],G0K⟩
theorem L0l:u0 Tryz.prog 109 G0q:=⟨by kernel_rfl,by kernel_rfl,by kernel_rfl,by kernel_rfl,⟨by kernel_rfl,by kernel_rfl,by kernel_rfl,⟨by kernel_rfl,by kernel_rfl,by kernel_rfl,by kernel_rfl,trivial⟩,(fun h=>by cases h),by kernel_rfl⟩⟩
def G0p:TI:=⟨4,96,.agg #[.slice none 0 0,.slice none 0 0,.slice none 0 0,.slice none 0 0],.agg [(0,1),(1,1),(2,1),(3,1)] false [false,false,false,false],l6⟩
theorem L0k:u0 Tryz.prog 110 G0p:=⟨by kernel_rfl,by kernel_rfl,by kernel_rfl,by kernel_rfl,⟨by kernel_rfl,by kernel_rfl,by kernel_rfl,⟨by kernel_rfl,by kernel_rfl,by kernel_rfl,by kernel_rfl,trivial⟩,(fun h=>by cases h),by kernel_rfl⟩⟩
def G0o:TI:=⟨3,40,.agg #[.slice none 0 0,.int .i64 0,.int .u64 0],.agg [(0,1),(1,1),(2,1)] false [false,false,false],G0J⟩
theorem L0j:u0 Tryz.prog 114 G0o:=⟨by kernel_rfl,by kernel_rfl,by kernel_rfl,by kernel_rfl,⟨by kernel_rfl,by kernel_rfl,by kernel_rfl,⟨by kernel_rfl,by kernel_rfl,by kernel_rfl,trivial⟩,(fun h=>by cases h),by kernel_rfl⟩⟩
def G0n:TI:=⟨3,40,.agg #[.slice none 0 0,.int .i64 0,.int .u64 0],.agg [(0,1),(1,1),(2,1)] false [false,false,false],F0j⟩
theorem L0i:u0 Tryz.prog 115 G0n:=⟨by kernel_rfl,by kernel_rfl,by kernel_rfl,by kernel_rfl,⟨by kernel_rfl,by kernel_rfl,by kernel_rfl,⟨by kernel_rfl,by kernel_rfl,by kernel_rfl,trivial⟩,(fun h=>by cases h),by kernel_rfl⟩⟩
def G0m:TI:=⟨1,8,.int .u64 0,.int .u64,(.int .u64)⟩
theorem L0h:u0 Tryz.prog 120 G0m:=⟨by kernel_rfl,by kernel_rfl,by kernel_rfl,by kernel_rfl,⟨by kernel_rfl,by kernel_rfl⟩⟩
def G0l:TI:=⟨2,32,.agg #[.pointer none,.slice none 0 0],.agg [(0,1),(1,1)] false [false,false],y127⟩
theorem L0g:u0 Tryz.prog 127 G0l:=⟨by kernel_rfl,by kernel_rfl,by kernel_rfl,by kernel_rfl,⟨by kernel_rfl,by kernel_rfl,by kernel_rfl,⟨by kernel_rfl,by kernel_rfl,trivial⟩,(fun h=>by cases h),by kernel_rfl⟩⟩
def G0k:TI:=⟨3,72,.agg #[.slice none 0 0,.slice none 0 0,.slice none 0 0],.agg [(0,1),(1,1),(2,1)] false [false,false,false],y140⟩
theorem L0f:u0 Tryz.prog 140 G0k:=⟨by kernel_rfl,by kernel_rfl,by kernel_rfl,by kernel_rfl,⟨by kernel_rfl,by kernel_rfl,by kernel_rfl,⟨by kernel_rfl,by kernel_rfl,by kernel_rfl,trivial⟩,(fun h=>by cases h),by kernel_rfl⟩⟩
def G0j:TI:=⟨1,24,.slice none 0 0,.sl 140,(.sl y140)⟩
theorem L0e:u0 Tryz.prog 141 G0j:=⟨by kernel_rfl,by kernel_rfl,by kernel_rfl,by kernel_rfl,⟨by kernel_rfl,by kernel_rfl⟩⟩
def G0i:TI:=⟨6,80,.agg #[.int .i64 0,.int .i64 0,.int .i64 0,.int .i64 0,.slice none 0 0,.slice none 0 0],.agg [(0,1),(1,1),(2,1),(3,1),(4,1),(5,1)] false [false,false,false,false,false,false],y143⟩
theorem L0d:u0 Tryz.prog 143 G0i:=⟨by kernel_rfl,by kernel_rfl,by kernel_rfl,by kernel_rfl,⟨by kernel_rfl,by kernel_rfl,by kernel_rfl,⟨by kernel_rfl,by kernel_rfl,by kernel_rfl,by kernel_rfl,by kernel_rfl,by kernel_rfl,trivial⟩,(fun h=>by cases h),by kernel_rfl⟩⟩
def G0h:TI:=⟨3,40,.agg #[.slice none 0 0,.int .i64 0,.int .i64 0],.agg [(0,1),(1,1),(2,1)] false [false,false,false],l7⟩
theorem L0c:u0 Tryz.prog 152 G0h:=⟨by kernel_rfl,by kernel_rfl,by kernel_rfl,by kernel_rfl,⟨by kernel_rfl,by kernel_rfl,by kernel_rfl,⟨by kernel_rfl,by kernel_rfl,by kernel_rfl,trivial⟩,(fun h=>by cases h),by kernel_rfl⟩⟩
def G0g:TI:=⟨1,24,.slice none 0 0,.sl 3,(.sl (.int .i64))⟩
theorem L0b:u0 Tryz.prog 155 G0g:=⟨by kernel_rfl,by kernel_rfl,by kernel_rfl,by kernel_rfl,⟨by kernel_rfl,by kernel_rfl⟩⟩
def G0f:TI:=⟨1,24,.slice none 0 0,.sl 217,(.sl y217)⟩
theorem L0a:u0 Tryz.prog 160 G0f:=⟨by kernel_rfl,by kernel_rfl,by kernel_rfl,by kernel_rfl,⟨by kernel_rfl,by kernel_rfl⟩⟩
def G0e:TI:=⟨1,24,.slice none 0 0,.sl 143,(.sl y143)⟩
theorem K0Z:u0 Tryz.prog 161 G0e:=⟨by kernel_rfl,by kernel_rfl,by kernel_rfl,by kernel_rfl,⟨by kernel_rfl,by kernel_rfl⟩⟩
def G0d:TI:=⟨7,112,.agg #[.string ⟨#[]⟩,.int .i64 0,.slice none 0 0,.slice none 0 0,.slice none 0 0,.int .i64 0,.int .i64 0],.agg [(0,1),(1,1),(2,1),(3,1),(4,1),(5,1),(6,1)] false [false,false,false,false,false,false,false],y163⟩
theorem K0Y:u0 Tryz.prog 163 G0d:=⟨by kernel_rfl,by kernel_rfl,by kernel_rfl,by kernel_rfl,⟨by kernel_rfl,by kernel_rfl,by kernel_rfl,⟨by kernel_rfl,by kernel_rfl,by kernel_rfl,by kernel_rfl,by kernel_rfl,by kernel_rfl,by kernel_rfl,trivial⟩,(fun h=>by cases h),by kernel_rfl⟩⟩
def G0c:TI:=⟨3,48,.agg #[.string ⟨#[]⟩,.int .i64 0,.slice none 0 0],.agg [(0,1),(1,1),(2,1)] false [false,false,false],y165⟩
theorem K0X:u0 Tryz.prog 165 G0c:=⟨by kernel_rfl,by kernel_rfl,by kernel_rfl,by kernel_rfl,⟨by kernel_rfl,by kernel_rfl,by kernel_rfl,⟨by kernel_rfl,by kernel_rfl,by kernel_rfl,trivial⟩,(fun h=>by cases h),by kernel_rfl⟩⟩
def G0b:TI:=⟨1,24,.slice none 0 0,.sl 179,(.sl x8)⟩
theorem K0W:u0 Tryz.prog 170 G0b:=⟨by kernel_rfl,by kernel_rfl,by kernel_rfl,by kernel_rfl,⟨by kernel_rfl,by kernel_rfl⟩⟩
def G0a:TI:=⟨3,32,.agg #[.string ⟨#[]⟩,.int .i64 0,.int .i64 0],.agg [(0,1),(1,1),(2,1)] false [false,false,false],y175⟩
theorem K0V:u0 Tryz.prog 175 G0a:=⟨by kernel_rfl,by kernel_rfl,by kernel_rfl,by kernel_rfl,⟨by kernel_rfl,by kernel_rfl,by kernel_rfl,⟨by kernel_rfl,by kernel_rfl,by kernel_rfl,trivial⟩,(fun h=>by cases h),by kernel_rfl⟩⟩
def F0Z:TI:=⟨4,32,.agg #[.int .i64 0,.int .i64 0,.int .i64 0,.bool false],.agg [(0,1),(1,1),(2,1),(3,1)] false [false,false,false,false],x8⟩
theorem K0U:u0 Tryz.prog 179 F0Z:=⟨by kernel_rfl,by kernel_rfl,by kernel_rfl,by kernel_rfl,⟨by kernel_rfl,by kernel_rfl,by kernel_rfl,⟨by kernel_rfl,by kernel_rfl,by kernel_rfl,by kernel_rfl,trivial⟩,(fun h=>by cases h),by kernel_rfl⟩⟩
def F0Y:TI:=⟨1,24,.slice none 0 0,.sl 94,(.sl (.sl .bool))⟩
theorem K0T:u0 Tryz.prog 183 F0Y:=⟨by kernel_rfl,by kernel_rfl,by kernel_rfl,by kernel_rfl,⟨by kernel_rfl,by kernel_rfl⟩⟩
def F0X:TI:=⟨1,24,.slice none 0 0,.sl 210,(.sl (.pr (.int .i64) (.int .i64)))⟩
theorem K0S:u0 Tryz.prog 208 F0X:=⟨by kernel_rfl,by kernel_rfl,by kernel_rfl,by kernel_rfl,⟨by kernel_rfl,by kernel_rfl⟩⟩
def F0W:TI:=⟨2,16,.agg #[.int .i64 0,.int .i64 0],.arr 2 2,(.pr (.int .i64) (.int .i64))⟩
theorem K0R:u0 Tryz.prog 210 F0W:=⟨by kernel_rfl,by kernel_rfl,by kernel_rfl,by kernel_rfl,⟨by kernel_rfl,by kernel_rfl⟩⟩
def F0V:TI:=⟨4,40,.agg #[.string ⟨#[]⟩,.int .i64 0,.int .i64 0,.bool false],.agg [(0,1),(1,1),(2,1),(3,1)] false [false,false,false,false],y217⟩
theorem K0Q:u0 Tryz.prog 217 F0V:=⟨by kernel_rfl,by kernel_rfl,by kernel_rfl,by kernel_rfl,⟨by kernel_rfl,by kernel_rfl,by kernel_rfl,⟨by kernel_rfl,by kernel_rfl,by kernel_rfl,by kernel_rfl,trivial⟩,(fun h=>by cases h),by kernel_rfl⟩⟩
def Γ:m9:=[(2,i2),(3,i3),(4,i4),(5,i5),(6,i6),(7,i7),(8,i8),(9,i9),(10,i10),(11,i11),(12,i12),(13,i13),(14,i14),(15,i15),(17,i17),(18,i18),(21,i21),(22,i22),(24,i24),(26,i26),(27,i27),(28,i28),(29,i29),(30,i30),(31,i31),(32,i32),(33,i33),(34,i34),(35,i35),(44,i44),(48,i48),(53,i53),(55,i55),(57,i57),(65,i65),(75,i75),(82,i82),(86,i86),(94,i94),(98,i98),(99,i99),(100,G0u),(101,G0t),(104,G0s),(105,G0r),(109,G0q),(110,G0p),(114,G0o),(115,G0n),(120,G0m),(127,G0l),(140,G0k),(141,G0j),(143,G0i),(152,G0h),(155,G0g),(160,G0f),(161,G0e),(163,G0d),(165,G0c),(170,G0b),(175,G0a),(179,F0Z),(183,F0Y),(208,F0X),(210,F0W),(217,F0V)]
theorem tok:x6 Tryz.prog Γ:=tK j2 (tK j3 (tK j4 (tK j5 (tK j6 (tK j7 (tK j8 (tK j9 (tK j10 (tK j11 (tK j12 (tK j13 (tK j14 (tK j15 (tK j17 (tK j18 (tK j21 (tK j22 (tK j24 (tK j26 (tK j27 (tK j28 (tK j29 (tK j30 (tK j31 (tK j32 (tK j33 (tK j34 (tK j35 (tK j44 (tK j48 (tK j53 (tK j55 (tK j57 (tK j65 (tK j75 (tK j82 (tK j86 (tK j94 (tK j98 (tK j99 (tK L0p (tK L0o (tK L0n (tK L0m (tK L0l (tK L0k (tK L0j (tK L0i (tK L0h (tK L0g (tK L0f (tK L0e (tK L0d (tK L0c (tK L0b (tK L0a (tK K0Z (tK K0Y (tK K0X (tK K0W (tK K0V (tK K0U (tK K0T (tK K0S (tK K0R (tK K0Q y0J))))))))))))))))))))))))))))))))))))))))))))))))))))))))))))))))))
end Go.Proofs.YtphnknndgfgepaaGreatDoor
end
