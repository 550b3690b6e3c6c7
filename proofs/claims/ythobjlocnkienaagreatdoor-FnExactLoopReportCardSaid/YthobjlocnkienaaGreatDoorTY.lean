/- The types of this seat's program. -/
import Derived.Test.YthobjlocnkienaaGreatDoorXE
import Derived.Test.YthobjlocnkienaaGreatDoorProg
import Derived.KernelRfl
section
namespace Go.Proofs.YthobjlocnkienaaGreatDoor
open Go Go.Proofs Go.Proofs.Sv Go.Proofs.Xv
instance:Mixed Tryz.prog:=⟨by kernel_rfl⟩
abbrev y7:Ty:=.pr (.int .i64) (.pr (.int .i64) (.pr .bool ((.int .u8))))
abbrev y8:Ty:=.pr (.int .i64) (.pr (.int .i64) (.pr .bool ((.int .u8))))
abbrev y14:Ty:=.pr .str ((.int .u64))
abbrev y251:Ty:=.pr .str (.pr (.int .i64) (.pr (.int .i64) (.bool)))
abbrev Y251:Type:=ByteArray×Int×Int×Bool
abbrev y288:Ty:=.pr (.sl (.int .i64)) (.pr (.sl (.int .i64)) ((.sl (.int .i64))))
abbrev Y288:Type:=List Int×List Int×List Int
abbrev y255:Ty:=.pr (.int .i64) (.pr (.int .i64) (.pr (.int .i64) (.pr (.int .i64) (.pr (.sl y288) ((.sl y288))))))
abbrev Y255:Type:=Int×Int×Int×Int×List Y288×List Y288
abbrev y182:Ty:=.pr .str (.pr (.int .i64) (.pr (.sl y251) (.pr (.sl y255) (.pr (.sl (.int .i64)) (.pr (.int .i64) ((.int .i64)))))))
abbrev Y182:Type:=ByteArray×Int×List Y251×List Y255×List Int×Int×Int
abbrev y184:Ty:=.pr .str (.pr (.int .i64) ((.sl (.int .i64))))
abbrev Y184:Type:=ByteArray×Int×List Int
abbrev y187:Ty:=.pr .str (.pr (.int .i64) ((.int .i64)))
abbrev Y187:Type:=ByteArray×Int×Int
abbrev y28:Ty:=.pr (.sl y184) (.pr (.sl .str) ((.sl y187)))
abbrev y29:Ty:=.pr (.sl y184) (.pr (.sl .str) ((.sl y187)))
abbrev Y29:Type:=List Y184×List ByteArray×List Y187
abbrev y120:Ty:=.pr (.sl (.int .i64)) (.pr (.sl (.int .i64)) (.pr (.sl (.int .i64)) ((.sl (.int .i64)))))
abbrev Y120:Type:=List Int×List Int×List Int×List Int
abbrev y32:Ty:=.pr ((.sl y182)) (.pr y29 ((.sl y120)))
abbrev Y32:Type:=List Y182×Y29×List Y120
abbrev y222:Ty:=.pr .str (.pr (.int .i64) (.pr (.int .i64) (.bool)))
abbrev Y222:Type:=ByteArray×Int×Int×Bool
abbrev y261:Ty:=.pr (.sl (.int .i64)) (.pr (.sl (.int .i64)) ((.sl (.int .i64))))
abbrev Y261:Type:=List Int×List Int×List Int
abbrev y153:Ty:=.pr (.int .i64) (.pr (.int .i64) (.pr (.int .i64) (.pr (.int .i64) (.pr (.sl y261) ((.sl y261))))))
abbrev Y153:Type:=Int×Int×Int×Int×List Y261×List Y261
abbrev y148:Ty:=.pr .str (.pr (.int .i64) (.pr (.sl y222) (.pr (.sl y153) (.pr (.sl (.int .i64)) (.pr (.int .i64) ((.int .i64)))))))
abbrev Y148:Type:=ByteArray×Int×List Y222×List Y153×List Int×Int×Int
abbrev y150:Ty:=.pr .str (.pr (.int .i64) ((.sl (.int .i64))))
abbrev Y150:Type:=ByteArray×Int×List Int
abbrev y190:Ty:=.pr .str (.pr (.int .i64) ((.int .i64)))
abbrev Y190:Type:=ByteArray×Int×Int
abbrev y43:Ty:=.pr (.sl y150) (.pr (.sl .str) ((.sl y190)))
abbrev Y43:Type:=List Y150×List ByteArray×List Y190
abbrev y126:Ty:=.pr (.sl (.int .i64)) (.pr (.sl (.int .i64)) (.pr (.sl (.int .i64)) ((.sl (.int .i64)))))
abbrev Y126:Type:=List Int×List Int×List Int×List Int
abbrev y46:Ty:=.pr ((.sl y148)) (.pr y43 ((.sl y126)))
abbrev Y46:Type:=List Y148×Y43×List Y126
abbrev y171:Ty:=.pr (.int .i64) (.pr (.int .i64) (.pr (.int .i64) (.bool)))
abbrev Y171:Type:=Int×Int×Int×Bool
abbrev y107:Ty:=.pr (.int .i64) (.pr (.int .i64) (.pr (.int .i64) ((.int .i64))))
abbrev Y107:Type:=Int×Int×Int×Int
abbrev y113:Ty:=.pr y46 (.pr (.sl y171) (.pr (.sl y107) (.pr (.sl (.int .i64)) (.pr (.sl (.sl (.int .i64))) ((.sl (.int .i64)))))))
abbrev Y113:Type:=Y46×List Y171×List Y107×List Int×List (List Int)×List Int
abbrev y92:Ty:=.pr (.pt y113) ((.sl .bool))
abbrev Y92:Type:=Y113×List Bool
abbrev y106:Ty:=.pr (.int .i64) (.pr (.int .i64) (.pr (.int .i64) ((.int .i64))))
abbrev y112:Ty:=.pr y46 (.pr (.sl y171) (.pr (.sl y107) (.pr (.sl (.int .i64)) (.pr (.sl (.sl (.int .i64))) ((.sl (.int .i64)))))))
abbrev y119:Ty:=.pr (.sl (.int .i64)) (.pr (.sl (.int .i64)) (.pr (.sl (.int .i64)) ((.sl (.int .i64)))))
abbrev y152:Ty:=.pr (.int .i64) (.pr (.int .i64) (.pr (.int .i64) (.pr (.int .i64) (.pr (.sl y261) ((.sl y261))))))
abbrev y204:Ty:=.pr (.int .i64) (.pr (.int .i64) (.pr (.int .i64) (.bool)))
abbrev Y204:Type:=Int×Int×Int×Bool
abbrev y181:Ty:=.pr .str (.pr (.int .i64) (.pr (.sl y251) (.pr (.sl y255) (.pr (.sl (.int .i64)) (.pr (.int .i64) ((.int .i64)))))))
abbrev y254:Ty:=.pr (.int .i64) (.pr (.int .i64) (.pr (.int .i64) (.pr (.int .i64) (.pr (.sl y288) ((.sl y288))))))
abbrev y292:Ty:=.pr (.int .i64) ((.int .i64))
abbrev Y292:Type:=Int×Int
def i2:TI:=⟨1,8,.int .i64 0,.int .i64,(.int .i64)⟩
theorem j2:TIok Tryz.prog 2 i2:=⟨by kernel_rfl,by kernel_rfl,by kernel_rfl,by kernel_rfl,⟨by kernel_rfl,by kernel_rfl⟩⟩
def i3:TI:=⟨1,8,.int .i64 0,.int .i64,(.int .i64)⟩
theorem j3:TIok Tryz.prog 3 i3:=⟨by kernel_rfl,by kernel_rfl,by kernel_rfl,by kernel_rfl,⟨by kernel_rfl,by kernel_rfl⟩⟩
def i4:TI:=⟨1,1,.bool false,.bool,.bool⟩
theorem j4:TIok Tryz.prog 4 i4:=⟨by kernel_rfl,by kernel_rfl,by kernel_rfl,by kernel_rfl,⟨by kernel_rfl,by kernel_rfl⟩⟩
def i5:TI:=⟨1,1,.int .u8 0,.int .u8,(.int .u8)⟩
theorem j5:TIok Tryz.prog 5 i5:=⟨by kernel_rfl,by kernel_rfl,by kernel_rfl,by kernel_rfl,⟨by kernel_rfl,by kernel_rfl⟩⟩
def i6:TI:=⟨1,1,.int .u8 0,.int .u8,(.int .u8)⟩
theorem j6:TIok Tryz.prog 6 i6:=⟨by kernel_rfl,by kernel_rfl,by kernel_rfl,by kernel_rfl,⟨by kernel_rfl,by kernel_rfl⟩⟩
def i7:TI:=⟨4,24,.agg #[.int .i64 0,.int .i64 0,.bool false,.int .u8 0],.agg [(0,1),(1,1),(2,1),(3,1)] false [false,false,false,false],y7⟩
theorem j7:TIok Tryz.prog 7 i7:=⟨by kernel_rfl,by kernel_rfl,by kernel_rfl,by kernel_rfl,⟨by kernel_rfl,by kernel_rfl,by kernel_rfl,⟨by kernel_rfl,by kernel_rfl,by kernel_rfl,by kernel_rfl,trivial⟩,(fun h=>by cases h),by kernel_rfl⟩⟩
def i8:TI:=⟨4,24,.agg #[.int .i64 0,.int .i64 0,.bool false,.int .u8 0],.agg [(0,1),(1,1),(2,1),(3,1)] false [false,false,false,false],y8⟩
theorem j8:TIok Tryz.prog 8 i8:=⟨by kernel_rfl,by kernel_rfl,by kernel_rfl,by kernel_rfl,⟨by kernel_rfl,by kernel_rfl,by kernel_rfl,⟨by kernel_rfl,by kernel_rfl,by kernel_rfl,by kernel_rfl,trivial⟩,(fun h=>by cases h),by kernel_rfl⟩⟩
def i9:TI:=⟨1,16,.string ⟨#[]⟩,.str,.str⟩
theorem j9:TIok Tryz.prog 9 i9:=⟨by kernel_rfl,by kernel_rfl,by kernel_rfl,by kernel_rfl,⟨by kernel_rfl,by kernel_rfl⟩⟩
def i10:TI:=⟨1,16,.string ⟨#[]⟩,.str,.str⟩
theorem j10:TIok Tryz.prog 10 i10:=⟨by kernel_rfl,by kernel_rfl,by kernel_rfl,by kernel_rfl,⟨by kernel_rfl,by kernel_rfl⟩⟩
def i12:TI:=⟨1,8,.int .u64 0,.int .u64,(.int .u64)⟩
theorem j12:TIok Tryz.prog 12 i12:=⟨by kernel_rfl,by kernel_rfl,by kernel_rfl,by kernel_rfl,⟨by kernel_rfl,by kernel_rfl⟩⟩
def i14:TI:=⟨2,24,.agg #[.string ⟨#[]⟩,.int .u64 0],.agg [(0,1),(1,1)] false [false,false],y14⟩
theorem j14:TIok Tryz.prog 14 i14:=⟨by kernel_rfl,by kernel_rfl,by kernel_rfl,by kernel_rfl,⟨by kernel_rfl,by kernel_rfl,by kernel_rfl,⟨by kernel_rfl,by kernel_rfl,trivial⟩,(fun h=>by cases h),by kernel_rfl⟩⟩
def i15:TI:=⟨1,8,.pointer none,.ptr,.bool⟩
theorem j15:TIok Tryz.prog 15 i15:=⟨by kernel_rfl,by kernel_rfl,by kernel_rfl,by kernel_rfl,⟨by kernel_rfl,by kernel_rfl⟩⟩
def i16:TI:=⟨1,8,.pointer none,.ptr,.bool⟩
theorem j16:TIok Tryz.prog 16 i16:=⟨by kernel_rfl,by kernel_rfl,by kernel_rfl,by kernel_rfl,⟨by kernel_rfl,by kernel_rfl⟩⟩
def i17:TI:=⟨1,8,.pointer none,.ptr,.bool⟩
theorem j17:TIok Tryz.prog 17 i17:=⟨by kernel_rfl,by kernel_rfl,by kernel_rfl,by kernel_rfl,⟨by kernel_rfl,by kernel_rfl⟩⟩
def i18:TI:=⟨1,8,.agg #[.pointer none],.agg [(0,1)] false [false],.bool⟩
theorem j18:TIok Tryz.prog 18 i18:=⟨by kernel_rfl,by kernel_rfl,by kernel_rfl,by kernel_rfl,⟨by kernel_rfl,by kernel_rfl,by kernel_rfl,⟨by kernel_rfl,trivial⟩,(fun h=>by cases h),by kernel_rfl⟩⟩
def i21:TI:=⟨1,4,.int .i32 0,.int .i32,(.int .i32)⟩
theorem j21:TIok Tryz.prog 21 i21:=⟨by kernel_rfl,by kernel_rfl,by kernel_rfl,by kernel_rfl,⟨by kernel_rfl,by kernel_rfl⟩⟩
def i22:TI:=⟨1,24,.slice none 0 0,.sl 182,(.sl y182)⟩
theorem j22:TIok Tryz.prog 22 i22:=⟨by kernel_rfl,by kernel_rfl,by kernel_rfl,by kernel_rfl,⟨by kernel_rfl,by kernel_rfl⟩⟩
def i24:TI:=⟨1,24,.agg #[.slice none 0 0],.agg [(0,1)] false [false],((.sl y182))⟩
theorem j24:TIok Tryz.prog 24 i24:=⟨by kernel_rfl,by kernel_rfl,by kernel_rfl,by kernel_rfl,⟨by kernel_rfl,by kernel_rfl,by kernel_rfl,⟨by kernel_rfl,trivial⟩,(fun h=>by cases h),by kernel_rfl⟩⟩
def i25:TI:=⟨1,24,.slice none 0 0,.sl 184,(.sl y184)⟩
theorem j25:TIok Tryz.prog 25 i25:=⟨by kernel_rfl,by kernel_rfl,by kernel_rfl,by kernel_rfl,⟨by kernel_rfl,by kernel_rfl⟩⟩
def i26:TI:=⟨1,24,.slice none 0 0,.sl 9,(.sl .str)⟩
theorem j26:TIok Tryz.prog 26 i26:=⟨by kernel_rfl,by kernel_rfl,by kernel_rfl,by kernel_rfl,⟨by kernel_rfl,by kernel_rfl⟩⟩
def i27:TI:=⟨1,24,.slice none 0 0,.sl 187,(.sl y187)⟩
theorem j27:TIok Tryz.prog 27 i27:=⟨by kernel_rfl,by kernel_rfl,by kernel_rfl,by kernel_rfl,⟨by kernel_rfl,by kernel_rfl⟩⟩
def i28:TI:=⟨3,72,.agg #[.slice none 0 0,.slice none 0 0,.slice none 0 0],.agg [(0,1),(1,1),(2,1)] false [false,false,false],y28⟩
theorem j28:TIok Tryz.prog 28 i28:=⟨by kernel_rfl,by kernel_rfl,by kernel_rfl,by kernel_rfl,⟨by kernel_rfl,by kernel_rfl,by kernel_rfl,⟨by kernel_rfl,by kernel_rfl,by kernel_rfl,trivial⟩,(fun h=>by cases h),by kernel_rfl⟩⟩
def i29:TI:=⟨3,72,.agg #[.slice none 0 0,.slice none 0 0,.slice none 0 0],.agg [(0,1),(1,1),(2,1)] false [false,false,false],y29⟩
theorem j29:TIok Tryz.prog 29 i29:=⟨by kernel_rfl,by kernel_rfl,by kernel_rfl,by kernel_rfl,⟨by kernel_rfl,by kernel_rfl,by kernel_rfl,⟨by kernel_rfl,by kernel_rfl,by kernel_rfl,trivial⟩,(fun h=>by cases h),by kernel_rfl⟩⟩
def i30:TI:=⟨1,24,.slice none 0 0,.sl 120,(.sl y120)⟩
theorem j30:TIok Tryz.prog 30 i30:=⟨by kernel_rfl,by kernel_rfl,by kernel_rfl,by kernel_rfl,⟨by kernel_rfl,by kernel_rfl⟩⟩
def i32:TI:=⟨5,120,.agg #[.slice none 0 0,.slice none 0 0,.slice none 0 0,.slice none 0 0,.slice none 0 0],.agg [(0,1),(1,3),(4,1)] false [true,true,false],y32⟩
theorem j32:TIok Tryz.prog 32 i32:=⟨by kernel_rfl,by kernel_rfl,by kernel_rfl,by kernel_rfl,⟨by kernel_rfl,by kernel_rfl,by kernel_rfl,⟨by kernel_rfl,by kernel_rfl,by kernel_rfl,trivial⟩,(fun h=>by cases h),by kernel_rfl⟩⟩
def i33:TI:=⟨1,24,.slice none 0 0,.sl 2,(.sl (.int .i64))⟩
theorem j33:TIok Tryz.prog 33 i33:=⟨by kernel_rfl,by kernel_rfl,by kernel_rfl,by kernel_rfl,⟨by kernel_rfl,by kernel_rfl⟩⟩
def i37:TI:=⟨1,24,.slice none 0 0,.sl 148,(.sl y148)⟩
theorem j37:TIok Tryz.prog 37 i37:=⟨by kernel_rfl,by kernel_rfl,by kernel_rfl,by kernel_rfl,⟨by kernel_rfl,by kernel_rfl⟩⟩
def i38:TI:=⟨1,24,.agg #[.slice none 0 0],.agg [(0,1)] false [false],((.sl y148))⟩
theorem j38:TIok Tryz.prog 38 i38:=⟨by kernel_rfl,by kernel_rfl,by kernel_rfl,by kernel_rfl,⟨by kernel_rfl,by kernel_rfl,by kernel_rfl,⟨by kernel_rfl,trivial⟩,(fun h=>by cases h),by kernel_rfl⟩⟩
def i39:TI:=⟨1,24,.agg #[.slice none 0 0],.agg [(0,1)] false [false],((.sl y148))⟩
theorem j39:TIok Tryz.prog 39 i39:=⟨by kernel_rfl,by kernel_rfl,by kernel_rfl,by kernel_rfl,⟨by kernel_rfl,by kernel_rfl,by kernel_rfl,⟨by kernel_rfl,trivial⟩,(fun h=>by cases h),by kernel_rfl⟩⟩
def i40:TI:=⟨1,24,.slice none 0 0,.sl 150,(.sl y150)⟩
theorem j40:TIok Tryz.prog 40 i40:=⟨by kernel_rfl,by kernel_rfl,by kernel_rfl,by kernel_rfl,⟨by kernel_rfl,by kernel_rfl⟩⟩
def i41:TI:=⟨1,24,.slice none 0 0,.sl 190,(.sl y190)⟩
theorem j41:TIok Tryz.prog 41 i41:=⟨by kernel_rfl,by kernel_rfl,by kernel_rfl,by kernel_rfl,⟨by kernel_rfl,by kernel_rfl⟩⟩
def i43:TI:=⟨3,72,.agg #[.slice none 0 0,.slice none 0 0,.slice none 0 0],.agg [(0,1),(1,1),(2,1)] false [false,false,false],y43⟩
theorem j43:TIok Tryz.prog 43 i43:=⟨by kernel_rfl,by kernel_rfl,by kernel_rfl,by kernel_rfl,⟨by kernel_rfl,by kernel_rfl,by kernel_rfl,⟨by kernel_rfl,by kernel_rfl,by kernel_rfl,trivial⟩,(fun h=>by cases h),by kernel_rfl⟩⟩
def i44:TI:=⟨1,24,.slice none 0 0,.sl 126,(.sl y126)⟩
theorem j44:TIok Tryz.prog 44 i44:=⟨by kernel_rfl,by kernel_rfl,by kernel_rfl,by kernel_rfl,⟨by kernel_rfl,by kernel_rfl⟩⟩
def i46:TI:=⟨5,120,.agg #[.slice none 0 0,.slice none 0 0,.slice none 0 0,.slice none 0 0,.slice none 0 0],.agg [(0,1),(1,3),(4,1)] false [true,true,false],y46⟩
theorem j46:TIok Tryz.prog 46 i46:=⟨by kernel_rfl,by kernel_rfl,by kernel_rfl,by kernel_rfl,⟨by kernel_rfl,by kernel_rfl,by kernel_rfl,⟨by kernel_rfl,by kernel_rfl,by kernel_rfl,trivial⟩,(fun h=>by cases h),by kernel_rfl⟩⟩
def i56:TI:=⟨1,24,.slice none 0 0,.sl 33,(.sl (.sl (.int .i64)))⟩
theorem j56:TIok Tryz.prog 56 i56:=⟨by kernel_rfl,by kernel_rfl,by kernel_rfl,by kernel_rfl,⟨by kernel_rfl,by kernel_rfl⟩⟩
def i72:TI:=⟨1,8,.pointer none,.ptr,(.pt y92)⟩
theorem j72:TIok Tryz.prog 72 i72:=⟨by kernel_rfl,by kernel_rfl,by kernel_rfl,by kernel_rfl,⟨by kernel_rfl,by kernel_rfl⟩⟩
def i76:TI:=⟨1,24,.slice none 0 0,.sl 4,(.sl .bool)⟩
theorem j76:TIok Tryz.prog 76 i76:=⟨by kernel_rfl,by kernel_rfl,by kernel_rfl,by kernel_rfl,⟨by kernel_rfl,by kernel_rfl⟩⟩
def i90:TI:=⟨1,8,.pointer none,.ptr,(.pt y113)⟩
theorem j90:TIok Tryz.prog 90 i90:=⟨by kernel_rfl,by kernel_rfl,by kernel_rfl,by kernel_rfl,⟨by kernel_rfl,by kernel_rfl⟩⟩
def i92:TI:=⟨2,32,.agg #[.pointer none,.slice none 0 0],.agg [(0,1),(1,1)] false [false,false],y92⟩
theorem j92:TIok Tryz.prog 92 i92:=⟨by kernel_rfl,by kernel_rfl,by kernel_rfl,by kernel_rfl,⟨by kernel_rfl,by kernel_rfl,by kernel_rfl,⟨by kernel_rfl,by kernel_rfl,trivial⟩,(fun h=>by cases h),by kernel_rfl⟩⟩
def i94:TI:=⟨1,24,.slice none 0 0,.sl 107,(.sl y107)⟩
theorem j94:TIok Tryz.prog 94 i94:=⟨by kernel_rfl,by kernel_rfl,by kernel_rfl,by kernel_rfl,⟨by kernel_rfl,by kernel_rfl⟩⟩
def i106:TI:=⟨4,32,.agg #[.int .i64 0,.int .i64 0,.int .i64 0,.int .i64 0],.agg [(0,1),(1,1),(2,1),(3,1)] true [false,false,false,false],y106⟩
theorem j106:TIok Tryz.prog 106 i106:=⟨by kernel_rfl,by kernel_rfl,by kernel_rfl,by kernel_rfl,⟨by kernel_rfl,by kernel_rfl,by kernel_rfl,⟨by kernel_rfl,by kernel_rfl,by kernel_rfl,by kernel_rfl,trivial⟩,(fun _=>by kernel_rfl),by kernel_rfl⟩⟩
def i107:TI:=⟨4,32,.agg #[.int .i64 0,.int .i64 0,.int .i64 0,.int .i64 0],.agg [(0,1),(1,1),(2,1),(3,1)] true [false,false,false,false],y107⟩
theorem j107:TIok Tryz.prog 107 i107:=⟨by kernel_rfl,by kernel_rfl,by kernel_rfl,by kernel_rfl,⟨by kernel_rfl,by kernel_rfl,by kernel_rfl,⟨by kernel_rfl,by kernel_rfl,by kernel_rfl,by kernel_rfl,trivial⟩,(fun _=>by kernel_rfl),by kernel_rfl⟩⟩
def i111:TI:=⟨1,24,.slice none 0 0,.sl 171,(.sl y171)⟩
theorem j111:TIok Tryz.prog 111 i111:=⟨by kernel_rfl,by kernel_rfl,by kernel_rfl,by kernel_rfl,⟨by kernel_rfl,by kernel_rfl⟩⟩
def i112:TI:=⟨10,240,.agg #[.slice none 0 0,.slice none 0 0,.slice none 0 0,.slice none 0 0,.slice none 0 0,.slice none 0 0,.slice none 0 0,.slice none 0 0,.slice none 0 0,.slice none 0 0],.agg [(0,5),(5,1),(6,1),(7,1),(8,1),(9,1)] false [true,false,false,false,false,false],y112⟩
theorem j112:TIok Tryz.prog 112 i112:=⟨by kernel_rfl,by kernel_rfl,by kernel_rfl,by kernel_rfl,⟨by kernel_rfl,by kernel_rfl,by kernel_rfl,⟨by kernel_rfl,by kernel_rfl,by kernel_rfl,by kernel_rfl,by kernel_rfl,by kernel_rfl,trivial⟩,(fun h=>by cases h),by kernel_rfl⟩⟩
def i113:TI:=⟨10,240,.agg #[.slice none 0 0,.slice none 0 0,.slice none 0 0,.slice none 0 0,.slice none 0 0,.slice none 0 0,.slice none 0 0,.slice none 0 0,.slice none 0 0,.slice none 0 0],.agg [(0,5),(5,1),(6,1),(7,1),(8,1),(9,1)] false [true,false,false,false,false,false],y113⟩
theorem j113:TIok Tryz.prog 113 i113:=⟨by kernel_rfl,by kernel_rfl,by kernel_rfl,by kernel_rfl,⟨by kernel_rfl,by kernel_rfl,by kernel_rfl,⟨by kernel_rfl,by kernel_rfl,by kernel_rfl,by kernel_rfl,by kernel_rfl,by kernel_rfl,trivial⟩,(fun h=>by cases h),by kernel_rfl⟩⟩
def i119:TI:=⟨4,96,.agg #[.slice none 0 0,.slice none 0 0,.slice none 0 0,.slice none 0 0],.agg [(0,1),(1,1),(2,1),(3,1)] false [false,false,false,false],y119⟩
theorem j119:TIok Tryz.prog 119 i119:=⟨by kernel_rfl,by kernel_rfl,by kernel_rfl,by kernel_rfl,⟨by kernel_rfl,by kernel_rfl,by kernel_rfl,⟨by kernel_rfl,by kernel_rfl,by kernel_rfl,by kernel_rfl,trivial⟩,(fun h=>by cases h),by kernel_rfl⟩⟩
def i120:TI:=⟨4,96,.agg #[.slice none 0 0,.slice none 0 0,.slice none 0 0,.slice none 0 0],.agg [(0,1),(1,1),(2,1),(3,1)] false [false,false,false,false],y120⟩
theorem j120:TIok Tryz.prog 120 i120:=⟨by kernel_rfl,by kernel_rfl,by kernel_rfl,by kernel_rfl,⟨by kernel_rfl,by kernel_rfl,by kernel_rfl,⟨by kernel_rfl,by kernel_rfl,by kernel_rfl,by kernel_rfl,trivial⟩,(fun h=>by cases h),by kernel_rfl⟩⟩
def i126:TI:=⟨4,96,.agg #[.slice none 0 0,.slice none 0 0,.slice none 0 0,.slice none 0 0],.agg [(0,1),(1,1),(2,1),(3,1)] false [false,false,false,false],y126⟩
theorem j126:TIok Tryz.prog 126 i126:=⟨by kernel_rfl,by kernel_rfl,by kernel_rfl,by kernel_rfl,⟨by kernel_rfl,by kernel_rfl,by kernel_rfl,⟨by kernel_rfl,by kernel_rfl,by kernel_rfl,by kernel_rfl,trivial⟩,(fun h=>by cases h),by kernel_rfl⟩⟩
def i145:TI:=⟨1,24,.slice none 0 0,.sl 222,(.sl y222)⟩
theorem j145:TIok Tryz.prog 145 i145:=⟨by kernel_rfl,by kernel_rfl,by kernel_rfl,by kernel_rfl,⟨by kernel_rfl,by kernel_rfl⟩⟩
def i146:TI:=⟨1,24,.slice none 0 0,.sl 153,(.sl y153)⟩
theorem j146:TIok Tryz.prog 146 i146:=⟨by kernel_rfl,by kernel_rfl,by kernel_rfl,by kernel_rfl,⟨by kernel_rfl,by kernel_rfl⟩⟩
def i148:TI:=⟨7,112,.agg #[.string ⟨#[]⟩,.int .i64 0,.slice none 0 0,.slice none 0 0,.slice none 0 0,.int .i64 0,.int .i64 0],.agg [(0,1),(1,1),(2,1),(3,1),(4,1),(5,1),(6,1)] false [false,false,false,false,false,false,false],y148⟩
theorem j148:TIok Tryz.prog 148 i148:=⟨by kernel_rfl,by kernel_rfl,by kernel_rfl,by kernel_rfl,⟨by kernel_rfl,by kernel_rfl,by kernel_rfl,⟨by kernel_rfl,by kernel_rfl,by kernel_rfl,by kernel_rfl,by kernel_rfl,by kernel_rfl,by kernel_rfl,trivial⟩,(fun h=>by cases h),by kernel_rfl⟩⟩
def i150:TI:=⟨3,48,.agg #[.string ⟨#[]⟩,.int .i64 0,.slice none 0 0],.agg [(0,1),(1,1),(2,1)] false [false,false,false],y150⟩
theorem j150:TIok Tryz.prog 150 i150:=⟨by kernel_rfl,by kernel_rfl,by kernel_rfl,by kernel_rfl,⟨by kernel_rfl,by kernel_rfl,by kernel_rfl,⟨by kernel_rfl,by kernel_rfl,by kernel_rfl,trivial⟩,(fun h=>by cases h),by kernel_rfl⟩⟩
def i151:TI:=⟨1,24,.slice none 0 0,.sl 261,(.sl y261)⟩
theorem j151:TIok Tryz.prog 151 i151:=⟨by kernel_rfl,by kernel_rfl,by kernel_rfl,by kernel_rfl,⟨by kernel_rfl,by kernel_rfl⟩⟩
def i152:TI:=⟨6,80,.agg #[.int .i64 0,.int .i64 0,.int .i64 0,.int .i64 0,.slice none 0 0,.slice none 0 0],.agg [(0,1),(1,1),(2,1),(3,1),(4,1),(5,1)] false [false,false,false,false,false,false],y152⟩
theorem j152:TIok Tryz.prog 152 i152:=⟨by kernel_rfl,by kernel_rfl,by kernel_rfl,by kernel_rfl,⟨by kernel_rfl,by kernel_rfl,by kernel_rfl,⟨by kernel_rfl,by kernel_rfl,by kernel_rfl,by kernel_rfl,by kernel_rfl,by kernel_rfl,trivial⟩,(fun h=>by cases h),by kernel_rfl⟩⟩
def i153:TI:=⟨6,80,.agg #[.int .i64 0,.int .i64 0,.int .i64 0,.int .i64 0,.slice none 0 0,.slice none 0 0],.agg [(0,1),(1,1),(2,1),(3,1),(4,1),(5,1)] false [false,false,false,false,false,false],y153⟩
theorem j153:TIok Tryz.prog 153 i153:=⟨by kernel_rfl,by kernel_rfl,by kernel_rfl,by kernel_rfl,⟨by kernel_rfl,by kernel_rfl,by kernel_rfl,⟨by kernel_rfl,by kernel_rfl,by kernel_rfl,by kernel_rfl,by kernel_rfl,by kernel_rfl,trivial⟩,(fun h=>by cases h),by kernel_rfl⟩⟩
def i160:TI:=⟨1,24,.slice none 0 0,.sl 204,(.sl y204)⟩
theorem j160:TIok Tryz.prog 160 i160:=⟨by kernel_rfl,by kernel_rfl,by kernel_rfl,by kernel_rfl,⟨by kernel_rfl,by kernel_rfl⟩⟩
def i165:TI:=⟨1,24,.slice none 0 0,.sl 76,(.sl (.sl .bool))⟩
theorem j165:TIok Tryz.prog 165 i165:=⟨by kernel_rfl,by kernel_rfl,by kernel_rfl,by kernel_rfl,⟨by kernel_rfl,by kernel_rfl⟩⟩
def i171:TI:=⟨4,32,.agg #[.int .i64 0,.int .i64 0,.int .i64 0,.bool false],.agg [(0,1),(1,1),(2,1),(3,1)] false [false,false,false,false],y171⟩
theorem j171:TIok Tryz.prog 171 i171:=⟨by kernel_rfl,by kernel_rfl,by kernel_rfl,by kernel_rfl,⟨by kernel_rfl,by kernel_rfl,by kernel_rfl,⟨by kernel_rfl,by kernel_rfl,by kernel_rfl,by kernel_rfl,trivial⟩,(fun h=>by cases h),by kernel_rfl⟩⟩
def i179:TI:=⟨1,24,.slice none 0 0,.sl 251,(.sl y251)⟩
theorem j179:TIok Tryz.prog 179 i179:=⟨by kernel_rfl,by kernel_rfl,by kernel_rfl,by kernel_rfl,⟨by kernel_rfl,by kernel_rfl⟩⟩
def i180:TI:=⟨1,24,.slice none 0 0,.sl 255,(.sl y255)⟩
theorem j180:TIok Tryz.prog 180 i180:=⟨by kernel_rfl,by kernel_rfl,by kernel_rfl,by kernel_rfl,⟨by kernel_rfl,by kernel_rfl⟩⟩
def i181:TI:=⟨7,112,.agg #[.string ⟨#[]⟩,.int .i64 0,.slice none 0 0,.slice none 0 0,.slice none 0 0,.int .i64 0,.int .i64 0],.agg [(0,1),(1,1),(2,1),(3,1),(4,1),(5,1),(6,1)] false [false,false,false,false,false,false,false],y181⟩
theorem j181:TIok Tryz.prog 181 i181:=⟨by kernel_rfl,by kernel_rfl,by kernel_rfl,by kernel_rfl,⟨by kernel_rfl,by kernel_rfl,by kernel_rfl,⟨by kernel_rfl,by kernel_rfl,by kernel_rfl,by kernel_rfl,by kernel_rfl,by kernel_rfl,by kernel_rfl,trivial⟩,(fun h=>by cases h),by kernel_rfl⟩⟩
def i182:TI:=⟨7,112,.agg #[.string ⟨#[]⟩,.int .i64 0,.slice none 0 0,.slice none 0 0,.slice none 0 0,.int .i64 0,.int .i64 0],.agg [(0,1),(1,1),(2,1),(3,1),(4,1),(5,1),(6,1)] false [false,false,false,false,false,false,false],y182⟩
theorem j182:TIok Tryz.prog 182 i182:=⟨by kernel_rfl,by kernel_rfl,by kernel_rfl,by kernel_rfl,⟨by kernel_rfl,by kernel_rfl,by kernel_rfl,⟨by kernel_rfl,by kernel_rfl,by kernel_rfl,by kernel_rfl,by kernel_rfl,by kernel_rfl,by kernel_rfl,trivial⟩,(fun h=>by cases h),by kernel_rfl⟩⟩
def i184:TI:=⟨3,48,.agg #[.string ⟨#[]⟩,.int .i64 0,.slice none 0 0],.agg [(0,1),(1,1),(2,1)] false [false,false,false],y184⟩
theorem j184:TIok Tryz.prog 184 i184:=⟨by kernel_rfl,by kernel_rfl,by kernel_rfl,by kernel_rfl,⟨by kernel_rfl,by kernel_rfl,by kernel_rfl,⟨by kernel_rfl,by kernel_rfl,by kernel_rfl,trivial⟩,(fun h=>by cases h),by kernel_rfl⟩⟩
def i187:TI:=⟨3,32,.agg #[.string ⟨#[]⟩,.int .i64 0,.int .i64 0],.agg [(0,1),(1,1),(2,1)] false [false,false,false],y187⟩
theorem j187:TIok Tryz.prog 187 i187:=⟨by kernel_rfl,by kernel_rfl,by kernel_rfl,by kernel_rfl,⟨by kernel_rfl,by kernel_rfl,by kernel_rfl,⟨by kernel_rfl,by kernel_rfl,by kernel_rfl,trivial⟩,(fun h=>by cases h),by kernel_rfl⟩⟩
def i190:TI:=⟨3,32,.agg #[.string ⟨#[]⟩,.int .i64 0,.int .i64 0],.agg [(0,1),(1,1),(2,1)] false [false,false,false],y190⟩
theorem j190:TIok Tryz.prog 190 i190:=⟨by kernel_rfl,by kernel_rfl,by kernel_rfl,by kernel_rfl,⟨by kernel_rfl,by kernel_rfl,by kernel_rfl,⟨by kernel_rfl,by kernel_rfl,by kernel_rfl,trivial⟩,(fun h=>by cases h),by kernel_rfl⟩⟩
def i201:TI:=⟨1,24,.slice none 0 0,.sl 3,(.sl (.int .i64))⟩
theorem j201:TIok Tryz.prog 201 i201:=⟨by kernel_rfl,by kernel_rfl,by kernel_rfl,by kernel_rfl,⟨by kernel_rfl,by kernel_rfl⟩⟩
def i204:TI:=⟨4,32,.agg #[.int .i64 0,.int .i64 0,.int .i64 0,.bool false],.agg [(0,1),(1,1),(2,1),(3,1)] false [false,false,false,false],y204⟩
theorem j204:TIok Tryz.prog 204 i204:=⟨by kernel_rfl,by kernel_rfl,by kernel_rfl,by kernel_rfl,⟨by kernel_rfl,by kernel_rfl,by kernel_rfl,⟨by kernel_rfl,by kernel_rfl,by kernel_rfl,by kernel_rfl,trivial⟩,(fun h=>by cases h),by kernel_rfl⟩⟩
def i213:TI:=⟨1,24,.slice none 0 0,.sl 215,(.sl (.pr (.int .i64) (.int .i64)))⟩
theorem j213:TIok Tryz.prog 213 i213:=⟨by kernel_rfl,by kernel_rfl,by kernel_rfl,by kernel_rfl,⟨by kernel_rfl,by kernel_rfl⟩⟩
def i215:TI:=⟨2,16,.agg #[.int .i64 0,.int .i64 0],.arr 2 2,(.pr (.int .i64) (.int .i64))⟩
theorem j215:TIok Tryz.prog 215 i215:=⟨by kernel_rfl,by kernel_rfl,by kernel_rfl,by kernel_rfl,⟨by kernel_rfl,by kernel_rfl⟩⟩
def i220:TI:=⟨1,8,.int .u64 0,.int .u64,(.int .u64)⟩
theorem j220:TIok Tryz.prog 220 i220:=⟨by kernel_rfl,by kernel_rfl,by kernel_rfl,by kernel_rfl,⟨by kernel_rfl,by kernel_rfl⟩⟩
def i222:TI:=⟨4,40,.agg #[.string ⟨#[]⟩,.int .i64 0,.int .i64 0,.bool false],.agg [(0,1),(1,1),(2,1),(3,1)] false [false,false,false,false],y222⟩
theorem j222:TIok Tryz.prog 222 i222:=⟨by kernel_rfl,by kernel_rfl,by kernel_rfl,by kernel_rfl,⟨by kernel_rfl,by kernel_rfl,by kernel_rfl,⟨by kernel_rfl,by kernel_rfl,by kernel_rfl,by kernel_rfl,trivial⟩,(fun h=>by cases h),by kernel_rfl⟩⟩
def i251:TI:=⟨4,40,.agg #[.string ⟨#[]⟩,.int .i64 0,.int .i64 0,.bool false],.agg [(0,1),(1,1),(2,1),(3,1)] false [false,false,false,false],y251⟩
theorem j251:TIok Tryz.prog 251 i251:=⟨by kernel_rfl,by kernel_rfl,by kernel_rfl,by kernel_rfl,⟨by kernel_rfl,by kernel_rfl,by kernel_rfl,⟨by kernel_rfl,by kernel_rfl,by kernel_rfl,by kernel_rfl,trivial⟩,(fun h=>by cases h),by kernel_rfl⟩⟩
def i253:TI:=⟨1,24,.slice none 0 0,.sl 288,(.sl y288)⟩
theorem j253:TIok Tryz.prog 253 i253:=⟨by kernel_rfl,by kernel_rfl,by kernel_rfl,by kernel_rfl,⟨by kernel_rfl,by kernel_rfl⟩⟩
def i254:TI:=⟨6,80,.agg #[.int .i64 0,.int .i64 0,.int .i64 0,.int .i64 0,.slice none 0 0,.slice none 0 0],.agg [(0,1),(1,1),(2,1),(3,1),(4,1),(5,1)] false [false,false,false,false,false,false],y254⟩
theorem j254:TIok Tryz.prog 254 i254:=⟨by kernel_rfl,by kernel_rfl,by kernel_rfl,by kernel_rfl,⟨by kernel_rfl,by kernel_rfl,by kernel_rfl,⟨by kernel_rfl,by kernel_rfl,by kernel_rfl,by kernel_rfl,by kernel_rfl,by kernel_rfl,trivial⟩,(fun h=>by cases h),by kernel_rfl⟩⟩
def i255:TI:=⟨6,80,.agg #[.int .i64 0,.int .i64 0,.int .i64 0,.int .i64 0,.slice none 0 0,.slice none 0 0],.agg [(0,1),(1,1),(2,1),(3,1),(4,1),(5,1)] false [false,false,false,false,false,false],y255⟩
theorem j255:TIok Tryz.prog 255 i255:=⟨by kernel_rfl,by kernel_rfl,by kernel_rfl,by kernel_rfl,⟨by kernel_rfl,by kernel_rfl,by kernel_rfl,⟨by kernel_rfl,by kernel_rfl,by kernel_rfl,by kernel_rfl,by kernel_rfl,by kernel_rfl,trivial⟩,(fun h=>by cases h),by kernel_rfl⟩⟩
def i261:TI:=⟨3,72,.agg #[.slice none 0 0,.slice none 0 0,.slice none 0 0],.agg [(0,1),(1,1),(2,1)] false [false,false,false],y261⟩
theorem j261:TIok Tryz.prog 261 i261:=⟨by kernel_rfl,by kernel_rfl,by kernel_rfl,by kernel_rfl,⟨by kernel_rfl,by kernel_rfl,by kernel_rfl,⟨by kernel_rfl,by kernel_rfl,by kernel_rfl,trivial⟩,(fun h=>by cases h),by kernel_rfl⟩⟩
def i288:TI:=⟨3,72,.agg #[.slice none 0 0,.slice none 0 0,.slice none 0 0],.agg [(0,1),(1,1),(2,1)] false [false,false,false],y288⟩
theorem j288:TIok Tryz.prog 288 i288:=⟨by kernel_rfl,by kernel_rfl,by kernel_rfl,by kernel_rfl,⟨by kernel_rfl,by kernel_rfl,by kernel_rfl,⟨by kernel_rfl,by kernel_rfl,by kernel_rfl,trivial⟩,(fun h=>by cases h),by kernel_rfl⟩⟩
def i292:TI:=⟨2,16,.agg #[.int .i64 0,.int .i64 0],.agg [(0,1),(1,1)] true [false,false],y292⟩
theorem j292:TIok Tryz.prog 292 i292:=⟨by kernel_rfl,by kernel_rfl,by kernel_rfl,by kernel_rfl,⟨by kernel_rfl,by kernel_rfl,by kernel_rfl,⟨by kernel_rfl,by kernel_rfl,trivial⟩,(fun _=>by kernel_rfl),by kernel_rfl⟩⟩
def Γ:Tab':=[(2,i2),(3,i3),(4,i4),(5,i5),(6,i6),(7,i7),(8,i8),(9,i9),(10,i10),(12,i12),(14,i14),(15,i15),(16,i16),(17,i17),(18,i18),(21,i21),(22,i22),(24,i24),(25,i25),(26,i26),(27,i27),(28,i28),(29,i29),(30,i30),(32,i32),(33,i33),(37,i37),(38,i38),(39,i39),(40,i40),(41,i41),(43,i43),(44,i44),(46,i46),(56,i56),(72,i72),(76,i76),(90,i90),(92,i92),(94,i94),(106,i106),(107,i107),(111,i111),(112,i112),(113,i113),(119,i119),(120,i120),(126,i126),(145,i145),(146,i146),(148,i148),(150,i150),(151,i151),(152,i152),(153,i153),(160,i160),(165,i165),(171,i171),(179,i179),(180,i180),(181,i181),(182,i182),(184,i184),(187,i187),(190,i190),(201,i201),(204,i204),(213,i213),(215,i215),(220,i220),(222,i222),(251,i251),(253,i253),(254,i254),(255,i255),(261,i261),(288,i288),(292,i292)]
theorem tok:TabOk Tryz.prog Γ:=tK j2 (tK j3 (tK j4 (tK j5 (tK j6 (tK j7 (tK j8 (tK j9 (tK j10 (tK j12 (tK j14 (tK j15 (tK j16 (tK j17 (tK j18 (tK j21 (tK j22 (tK j24 (tK j25 (tK j26 (tK j27 (tK j28 (tK j29 (tK j30 (tK j32 (tK j33 (tK j37 (tK j38 (tK j39 (tK j40 (tK j41 (tK j43 (tK j44 (tK j46 (tK j56 (tK j72 (tK j76 (tK j90 (tK j92 (tK j94 (tK j106 (tK j107 (tK j111 (tK j112 (tK j113 (tK j119 (tK j120 (tK j126 (tK j145 (tK j146 (tK j148 (tK j150 (tK j151 (tK j152 (tK j153 (tK j160 (tK j165 (tK j171 (tK j179 (tK j180 (tK j181 (tK j182 (tK j184 (tK j187 (tK j190 (tK j201 (tK j204 (tK j213 (tK j215 (tK j220 (tK j222 (tK j251 (tK j253 (tK j254 (tK j255 (tK j261 (tK j288 (tK j292 tab_nil)))))))))))))))))))))))))))))))))))))))))))))))))))))))))))))))))))))))))))))
end Go.Proofs.YthobjlocnkienaaGreatDoor
end
