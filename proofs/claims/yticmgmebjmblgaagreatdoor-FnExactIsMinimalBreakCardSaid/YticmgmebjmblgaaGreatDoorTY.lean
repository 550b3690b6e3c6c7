/- The types of this seat's program. -/
import Derived.Test.YticmgmebjmblgaaGreatDoorXE
import Derived.Test.YticmgmebjmblgaaGreatDoorProg
import Derived.KernelRfl
namespace Go.Proofs.YticmgmebjmblgaaGreatDoor
open Go Go.Proofs Go.Proofs.Sv Go.Proofs.Xv
instance:Mixed Tryz.prog:=⟨by kernel_rfl⟩
abbrev y7:Ty:=.pr (.int .i64) (.pr (.int .i64) (.pr .bool ((.int .u8))))
abbrev y8:Ty:=.pr (.int .i64) (.pr (.int .i64) (.pr .bool ((.int .u8))))
abbrev y13:Ty:=.pr .str ((.int .u64))
abbrev y14:Ty:=.pr .str ((.int .u64))
abbrev y255:Ty:=.pr .str (.pr (.int .i64) (.pr (.int .i64) (.bool)))
abbrev Y255:Type:=ByteArray×Int×Int×Bool
abbrev y285:Ty:=.pr (.sl (.int .i64)) (.pr (.sl (.int .i64)) ((.sl (.int .i64))))
abbrev Y285:Type:=List Int×List Int×List Int
abbrev y259:Ty:=.pr (.int .i64) (.pr (.int .i64) (.pr (.int .i64) (.pr (.int .i64) (.pr (.sl y285) ((.sl y285))))))
abbrev Y259:Type:=Int×Int×Int×Int×List Y285×List Y285
abbrev y191:Ty:=.pr .str (.pr (.int .i64) (.pr (.sl y255) (.pr (.sl y259) (.pr (.sl (.int .i64)) (.pr (.int .i64) ((.int .i64)))))))
abbrev Y191:Type:=ByteArray×Int×List Y255×List Y259×List Int×Int×Int
abbrev y193:Ty:=.pr .str (.pr (.int .i64) ((.sl (.int .i64))))
abbrev Y193:Type:=ByteArray×Int×List Int
abbrev y196:Ty:=.pr .str (.pr (.int .i64) ((.int .i64)))
abbrev Y196:Type:=ByteArray×Int×Int
abbrev y28:Ty:=.pr (.sl y193) (.pr (.sl .str) ((.sl y196)))
abbrev y29:Ty:=.pr (.sl y193) (.pr (.sl .str) ((.sl y196)))
abbrev Y29:Type:=List Y193×List ByteArray×List Y196
abbrev y134:Ty:=.pr (.sl (.int .i64)) (.pr (.sl (.int .i64)) (.pr (.sl (.int .i64)) ((.sl (.int .i64)))))
abbrev Y134:Type:=List Int×List Int×List Int×List Int
abbrev y32:Ty:=.pr ((.sl y191)) (.pr y29 ((.sl y134)))
abbrev Y32:Type:=List Y191×Y29×List Y134
abbrev y241:Ty:=.pr .str (.pr (.int .i64) (.pr (.int .i64) (.bool)))
abbrev Y241:Type:=ByteArray×Int×Int×Bool
abbrev y106:Ty:=.pr (.sl (.int .i64)) (.pr (.sl (.int .i64)) ((.sl (.int .i64))))
abbrev Y106:Type:=List Int×List Int×List Int
abbrev y102:Ty:=.pr (.int .i64) (.pr (.int .i64) (.pr (.int .i64) (.pr (.int .i64) (.pr (.sl y106) ((.sl y106))))))
abbrev Y102:Type:=Int×Int×Int×Int×List Y106×List Y106
abbrev y145:Ty:=.pr .str (.pr (.int .i64) (.pr (.sl y241) (.pr (.sl y102) (.pr (.sl (.int .i64)) (.pr (.int .i64) ((.int .i64)))))))
abbrev Y145:Type:=ByteArray×Int×List Y241×List Y102×List Int×Int×Int
abbrev y147:Ty:=.pr .str (.pr (.int .i64) ((.sl (.int .i64))))
abbrev Y147:Type:=ByteArray×Int×List Int
abbrev y199:Ty:=.pr .str (.pr (.int .i64) ((.int .i64)))
abbrev Y199:Type:=ByteArray×Int×Int
abbrev y41:Ty:=.pr (.sl y147) (.pr (.sl .str) ((.sl y199)))
abbrev y42:Ty:=.pr (.sl y147) (.pr (.sl .str) ((.sl y199)))
abbrev Y42:Type:=List Y147×List ByteArray×List Y199
abbrev y137:Ty:=.pr (.sl (.int .i64)) (.pr (.sl (.int .i64)) (.pr (.sl (.int .i64)) ((.sl (.int .i64)))))
abbrev Y137:Type:=List Int×List Int×List Int×List Int
abbrev y45:Ty:=.pr ((.sl y145)) (.pr y42 ((.sl y137)))
abbrev Y45:Type:=List Y145×Y42×List Y137
abbrev y49:Ty:=.pr .str (.pr (.int .i64) (.pr (.int .i64) (.pr (.int .i64) ((.int .i64)))))
abbrev y50:Ty:=.pr .str (.pr (.int .i64) (.pr (.int .i64) (.pr (.int .i64) ((.int .i64)))))
abbrev Y50:Type:=ByteArray×Int×Int×Int×Int
abbrev y53:Ty:=.pr .str (.pr (.int .i64) (.pr (.int .i64) (.pr (.int .i64) ((.int .i64)))))
abbrev Y53:Type:=ByteArray×Int×Int×Int×Int
abbrev y56:Ty:=.pr (.int .i64) ((.int .i64))
abbrev y57:Ty:=.pr (.int .i64) ((.int .i64))
abbrev Y57:Type:=Int×Int
abbrev y68:Ty:=.pr (.int .i64) ((.int .i64))
abbrev Y68:Type:=Int×Int
abbrev y83:Ty:=.pr (.int .i64) (.pr (.int .i64) (.pr (.int .i64) ((.int .i64))))
abbrev Y83:Type:=Int×Int×Int×Int
abbrev y159:Ty:=.pr (.int .i64) (.pr (.int .i64) (.pr (.int .i64) (.bool)))
abbrev Y159:Type:=Int×Int×Int×Bool
abbrev y110:Ty:=.pr y45 (.pr (.sl y159) (.pr (.sl y83) (.pr (.sl (.int .i64)) (.pr (.sl (.sl (.int .i64))) ((.sl (.int .i64)))))))
abbrev Y110:Type:=Y45×List Y159×List Y83×List Int×List (List Int)×List Int
abbrev y101:Ty:=.pr (.int .i64) (.pr (.int .i64) (.pr (.int .i64) (.pr (.int .i64) (.pr (.sl y106) ((.sl y106))))))
abbrev y105:Ty:=.pr (.sl (.int .i64)) (.pr (.sl (.int .i64)) ((.sl (.int .i64))))
abbrev y109:Ty:=.pr y45 (.pr (.sl y159) (.pr (.sl y83) (.pr (.sl (.int .i64)) (.pr (.sl (.sl (.int .i64))) ((.sl (.int .i64)))))))
abbrev y127:Ty:=.pr (.pt y110) ((.sl .bool))
abbrev Y127:Type:=Y110×List Bool
abbrev y176:Ty:=.pr (.int .i64) (.pr (.int .i64) (.pr (.int .i64) (.bool)))
abbrev Y176:Type:=Int×Int×Int×Bool
abbrev y195:Ty:=.pr .str (.pr (.int .i64) ((.int .i64)))
abbrev y219:Ty:=.pr (.int .i64) ((.int .i64))
abbrev Y219:Type:=Int×Int
abbrev y240:Ty:=.pr .str (.pr (.int .i64) (.pr (.int .i64) (.bool)))
def i2:TI:=⟨1,8,.int .i64 0,.int .i64,(.int .i64)⟩
theorem j2:TIok Tryz.prog 2 i2:=⟨by kernel_rfl,by kernel_rfl,by kernel_rfl,by kernel_rfl,⟨by kernel_rfl,by kernel_rfl⟩⟩
def i3:TI:=⟨1,8,.int .i64 0,.int .i64,(.int .i64)⟩
theorem j3:TIok Tryz.prog 3 i3:=⟨by kernel_rfl,by kernel_rfl,by kernel_rfl,by kernel_rfl,⟨by kernel_rfl,by kernel_rfl⟩⟩
def i4:TI:=⟨1,1,.bool false,.bool,.bool⟩
theorem j4:TIok Tryz.prog 4 i4:=⟨by kernel_rfl,by kernel_rfl,by kernel_rfl,by kernel_rfl,⟨by kernel_rfl,by kernel_rfl⟩⟩
def i5:TI:=⟨1,1,.int .u8 0,.int .u8,(.int .u8)⟩
theorem j5:TIok Tryz.prog 5 i5:=⟨by kernel_rfl,by kernel_rfl,by kernel_rfl,by kernel_rfl,⟨by kernel_rfl,by kernel_rfl⟩⟩
def i6:TI:=⟨1,1,.int .u8 0,.int .u8,(.int .u8)⟩
theorem j6:TIok Tryz.prog 6 i6:=⟨by kernel_rfl,by kernel_rfl,by kernel_rfl,by kernel_rfl,⟨by kernel_rfl,by kernel_rfl⟩⟩
def i7:TI:=⟨4,24,.agg #[.int .i64 0,.int .i64 0,.bool false,.int .u8 0],.agg [(0,1),(1,1),(2,1),(3,1)] false [false,false,false,false],y7⟩
theorem j7:TIok Tryz.prog 7 i7:=⟨by kernel_rfl,by kernel_rfl,by kernel_rfl,by kernel_rfl,⟨by kernel_rfl,by kernel_rfl,by kernel_rfl,⟨by kernel_rfl,by kernel_rfl,by kernel_rfl,by kernel_rfl,trivial⟩,(fun h=>by cases h),by kernel_rfl⟩⟩
def i8:TI:=⟨4,24,.agg #[.int .i64 0,.int .i64 0,.bool false,.int .u8 0],.agg [(0,1),(1,1),(2,1),(3,1)] false [false,false,false,false],y8⟩
theorem j8:TIok Tryz.prog 8 i8:=⟨by kernel_rfl,by kernel_rfl,by kernel_rfl,by kernel_rfl,⟨by kernel_rfl,by kernel_rfl,by kernel_rfl,⟨by kernel_rfl,by kernel_rfl,by kernel_rfl,by kernel_rfl,trivial⟩,(fun h=>by cases h),by kernel_rfl⟩⟩
def i9:TI:=⟨1,16,.string ⟨#[]⟩,.str,.str⟩
theorem j9:TIok Tryz.prog 9 i9:=⟨by kernel_rfl,by kernel_rfl,by kernel_rfl,by kernel_rfl,⟨by kernel_rfl,by kernel_rfl⟩⟩
def i10:TI:=⟨1,16,.string ⟨#[]⟩,.str,.str⟩
theorem j10:TIok Tryz.prog 10 i10:=⟨by kernel_rfl,by kernel_rfl,by kernel_rfl,by kernel_rfl,⟨by kernel_rfl,by kernel_rfl⟩⟩
def i12:TI:=⟨1,8,.int .u64 0,.int .u64,(.int .u64)⟩
theorem j12:TIok Tryz.prog 12 i12:=⟨by kernel_rfl,by kernel_rfl,by kernel_rfl,by kernel_rfl,⟨by kernel_rfl,by kernel_rfl⟩⟩
def i13:TI:=⟨2,24,.agg #[.string ⟨#[]⟩,.int .u64 0],.agg [(0,1),(1,1)] false [false,false],y13⟩
theorem j13:TIok Tryz.prog 13 i13:=⟨by kernel_rfl,by kernel_rfl,by kernel_rfl,by kernel_rfl,⟨by kernel_rfl,by kernel_rfl,by kernel_rfl,⟨by kernel_rfl,by kernel_rfl,trivial⟩,(fun h=>by cases h),by kernel_rfl⟩⟩
def i14:TI:=⟨2,24,.agg #[.string ⟨#[]⟩,.int .u64 0],.agg [(0,1),(1,1)] false [false,false],y14⟩
theorem j14:TIok Tryz.prog 14 i14:=⟨by kernel_rfl,by kernel_rfl,by kernel_rfl,by kernel_rfl,⟨by kernel_rfl,by kernel_rfl,by kernel_rfl,⟨by kernel_rfl,by kernel_rfl,trivial⟩,(fun h=>by cases h),by kernel_rfl⟩⟩
def i15:TI:=⟨1,8,.pointer none,.oth,.bool⟩
theorem j15:TIok Tryz.prog 15 i15:=⟨by kernel_rfl,by kernel_rfl,by kernel_rfl,by kernel_rfl,(show notAggB Tryz.prog 15=true by kernel_rfl)⟩
def i16:TI:=⟨1,8,.pointer none,.oth,.bool⟩
theorem j16:TIok Tryz.prog 16 i16:=⟨by kernel_rfl,by kernel_rfl,by kernel_rfl,by kernel_rfl,(show notAggB Tryz.prog 16=true by kernel_rfl)⟩
def i17:TI:=⟨1,8,.pointer none,.oth,.bool⟩
theorem j17:TIok Tryz.prog 17 i17:=⟨by kernel_rfl,by kernel_rfl,by kernel_rfl,by kernel_rfl,(show notAggB Tryz.prog 17=true by kernel_rfl)⟩
def i18:TI:=⟨1,8,.agg #[.pointer none],.agg [(0,1)] false [false],.bool⟩
theorem j18:TIok Tryz.prog 18 i18:=⟨by kernel_rfl,by kernel_rfl,by kernel_rfl,by kernel_rfl,⟨by kernel_rfl,by kernel_rfl,by kernel_rfl,⟨by kernel_rfl,trivial⟩,(fun h=>by cases h),by kernel_rfl⟩⟩
def i22:TI:=⟨1,24,.slice none 0 0,.sl 191,(.sl y191)⟩
theorem j22:TIok Tryz.prog 22 i22:=⟨by kernel_rfl,by kernel_rfl,by kernel_rfl,by kernel_rfl,⟨by kernel_rfl,by kernel_rfl⟩⟩
def i24:TI:=⟨1,24,.agg #[.slice none 0 0],.agg [(0,1)] false [false],((.sl y191))⟩
theorem j24:TIok Tryz.prog 24 i24:=⟨by kernel_rfl,by kernel_rfl,by kernel_rfl,by kernel_rfl,⟨by kernel_rfl,by kernel_rfl,by kernel_rfl,⟨by kernel_rfl,trivial⟩,(fun h=>by cases h),by kernel_rfl⟩⟩
def i25:TI:=⟨1,24,.slice none 0 0,.sl 193,(.sl y193)⟩
theorem j25:TIok Tryz.prog 25 i25:=⟨by kernel_rfl,by kernel_rfl,by kernel_rfl,by kernel_rfl,⟨by kernel_rfl,by kernel_rfl⟩⟩
def i26:TI:=⟨1,24,.slice none 0 0,.sl 9,(.sl .str)⟩
theorem j26:TIok Tryz.prog 26 i26:=⟨by kernel_rfl,by kernel_rfl,by kernel_rfl,by kernel_rfl,⟨by kernel_rfl,by kernel_rfl⟩⟩
def i27:TI:=⟨1,24,.slice none 0 0,.sl 196,(.sl y196)⟩
theorem j27:TIok Tryz.prog 27 i27:=⟨by kernel_rfl,by kernel_rfl,by kernel_rfl,by kernel_rfl,⟨by kernel_rfl,by kernel_rfl⟩⟩
def i28:TI:=⟨3,72,.agg #[.slice none 0 0,.slice none 0 0,.slice none 0 0],.agg [(0,1),(1,1),(2,1)] false [false,false,false],y28⟩
theorem j28:TIok Tryz.prog 28 i28:=⟨by kernel_rfl,by kernel_rfl,by kernel_rfl,by kernel_rfl,⟨by kernel_rfl,by kernel_rfl,by kernel_rfl,⟨by kernel_rfl,by kernel_rfl,by kernel_rfl,trivial⟩,(fun h=>by cases h),by kernel_rfl⟩⟩
def i29:TI:=⟨3,72,.agg #[.slice none 0 0,.slice none 0 0,.slice none 0 0],.agg [(0,1),(1,1),(2,1)] false [false,false,false],y29⟩
theorem j29:TIok Tryz.prog 29 i29:=⟨by kernel_rfl,by kernel_rfl,by kernel_rfl,by kernel_rfl,⟨by kernel_rfl,by kernel_rfl,by kernel_rfl,⟨by kernel_rfl,by kernel_rfl,by kernel_rfl,trivial⟩,(fun h=>by cases h),by kernel_rfl⟩⟩
def i30:TI:=⟨1,24,.slice none 0 0,.sl 134,(.sl y134)⟩
theorem j30:TIok Tryz.prog 30 i30:=⟨by kernel_rfl,by kernel_rfl,by kernel_rfl,by kernel_rfl,⟨by kernel_rfl,by kernel_rfl⟩⟩
def i32:TI:=⟨5,120,.agg #[.slice none 0 0,.slice none 0 0,.slice none 0 0,.slice none 0 0,.slice none 0 0],.agg [(0,1),(1,3),(4,1)] false [true,true,false],y32⟩
theorem j32:TIok Tryz.prog 32 i32:=⟨by kernel_rfl,by kernel_rfl,by kernel_rfl,by kernel_rfl,⟨by kernel_rfl,by kernel_rfl,by kernel_rfl,⟨by kernel_rfl,by kernel_rfl,by kernel_rfl,trivial⟩,(fun h=>by cases h),by kernel_rfl⟩⟩
def i36:TI:=⟨1,24,.slice none 0 0,.sl 145,(.sl y145)⟩
theorem j36:TIok Tryz.prog 36 i36:=⟨by kernel_rfl,by kernel_rfl,by kernel_rfl,by kernel_rfl,⟨by kernel_rfl,by kernel_rfl⟩⟩
def i38:TI:=⟨1,24,.agg #[.slice none 0 0],.agg [(0,1)] false [false],((.sl y145))⟩
theorem j38:TIok Tryz.prog 38 i38:=⟨by kernel_rfl,by kernel_rfl,by kernel_rfl,by kernel_rfl,⟨by kernel_rfl,by kernel_rfl,by kernel_rfl,⟨by kernel_rfl,trivial⟩,(fun h=>by cases h),by kernel_rfl⟩⟩
def i39:TI:=⟨1,24,.slice none 0 0,.sl 147,(.sl y147)⟩
theorem j39:TIok Tryz.prog 39 i39:=⟨by kernel_rfl,by kernel_rfl,by kernel_rfl,by kernel_rfl,⟨by kernel_rfl,by kernel_rfl⟩⟩
def i40:TI:=⟨1,24,.slice none 0 0,.sl 199,(.sl y199)⟩
theorem j40:TIok Tryz.prog 40 i40:=⟨by kernel_rfl,by kernel_rfl,by kernel_rfl,by kernel_rfl,⟨by kernel_rfl,by kernel_rfl⟩⟩
def i41:TI:=⟨3,72,.agg #[.slice none 0 0,.slice none 0 0,.slice none 0 0],.agg [(0,1),(1,1),(2,1)] false [false,false,false],y41⟩
theorem j41:TIok Tryz.prog 41 i41:=⟨by kernel_rfl,by kernel_rfl,by kernel_rfl,by kernel_rfl,⟨by kernel_rfl,by kernel_rfl,by kernel_rfl,⟨by kernel_rfl,by kernel_rfl,by kernel_rfl,trivial⟩,(fun h=>by cases h),by kernel_rfl⟩⟩
def i42:TI:=⟨3,72,.agg #[.slice none 0 0,.slice none 0 0,.slice none 0 0],.agg [(0,1),(1,1),(2,1)] false [false,false,false],y42⟩
theorem j42:TIok Tryz.prog 42 i42:=⟨by kernel_rfl,by kernel_rfl,by kernel_rfl,by kernel_rfl,⟨by kernel_rfl,by kernel_rfl,by kernel_rfl,⟨by kernel_rfl,by kernel_rfl,by kernel_rfl,trivial⟩,(fun h=>by cases h),by kernel_rfl⟩⟩
def i43:TI:=⟨1,24,.slice none 0 0,.sl 137,(.sl y137)⟩
theorem j43:TIok Tryz.prog 43 i43:=⟨by kernel_rfl,by kernel_rfl,by kernel_rfl,by kernel_rfl,⟨by kernel_rfl,by kernel_rfl⟩⟩
def i45:TI:=⟨5,120,.agg #[.slice none 0 0,.slice none 0 0,.slice none 0 0,.slice none 0 0,.slice none 0 0],.agg [(0,1),(1,3),(4,1)] false [true,true,false],y45⟩
theorem j45:TIok Tryz.prog 45 i45:=⟨by kernel_rfl,by kernel_rfl,by kernel_rfl,by kernel_rfl,⟨by kernel_rfl,by kernel_rfl,by kernel_rfl,⟨by kernel_rfl,by kernel_rfl,by kernel_rfl,trivial⟩,(fun h=>by cases h),by kernel_rfl⟩⟩
def i49:TI:=⟨5,48,.agg #[.string ⟨#[]⟩,.int .i64 0,.int .i64 0,.int .i64 0,.int .i64 0],.agg [(0,1),(1,1),(2,1),(3,1),(4,1)] false [false,false,false,false,false],y49⟩
theorem j49:TIok Tryz.prog 49 i49:=⟨by kernel_rfl,by kernel_rfl,by kernel_rfl,by kernel_rfl,⟨by kernel_rfl,by kernel_rfl,by kernel_rfl,⟨by kernel_rfl,by kernel_rfl,by kernel_rfl,by kernel_rfl,by kernel_rfl,trivial⟩,(fun h=>by cases h),by kernel_rfl⟩⟩
def i50:TI:=⟨5,48,.agg #[.string ⟨#[]⟩,.int .i64 0,.int .i64 0,.int .i64 0,.int .i64 0],.agg [(0,1),(1,1),(2,1),(3,1),(4,1)] false [false,false,false,false,false],y50⟩
theorem j50:TIok Tryz.prog 50 i50:=⟨by kernel_rfl,by kernel_rfl,by kernel_rfl,by kernel_rfl,⟨by kernel_rfl,by kernel_rfl,by kernel_rfl,⟨by kernel_rfl,by kernel_rfl,by kernel_rfl,by kernel_rfl,by kernel_rfl,trivial⟩,(fun h=>by cases h),by kernel_rfl⟩⟩
def i53:TI:=⟨5,48,.agg #[.string ⟨#[]⟩,.int .i64 0,.int .i64 0,.int .i64 0,.int .i64 0],.agg [(0,1),(1,1),(2,1),(3,1),(4,1)] false [false,false,false,false,false],y53⟩
theorem j53:TIok Tryz.prog 53 i53:=⟨by kernel_rfl,by kernel_rfl,by kernel_rfl,by kernel_rfl,⟨by kernel_rfl,by kernel_rfl,by kernel_rfl,⟨by kernel_rfl,by kernel_rfl,by kernel_rfl,by kernel_rfl,by kernel_rfl,trivial⟩,(fun h=>by cases h),by kernel_rfl⟩⟩
def i56:TI:=⟨2,16,.agg #[.int .i64 0,.int .i64 0],.agg [(0,1),(1,1)] true [false,false],y56⟩
theorem j56:TIok Tryz.prog 56 i56:=⟨by kernel_rfl,by kernel_rfl,by kernel_rfl,by kernel_rfl,⟨by kernel_rfl,by kernel_rfl,by kernel_rfl,⟨by kernel_rfl,by kernel_rfl,trivial⟩,(fun _=>by kernel_rfl),by kernel_rfl⟩⟩
def i57:TI:=⟨2,16,.agg #[.int .i64 0,.int .i64 0],.agg [(0,1),(1,1)] true [false,false],y57⟩
theorem j57:TIok Tryz.prog 57 i57:=⟨by kernel_rfl,by kernel_rfl,by kernel_rfl,by kernel_rfl,⟨by kernel_rfl,by kernel_rfl,by kernel_rfl,⟨by kernel_rfl,by kernel_rfl,trivial⟩,(fun _=>by kernel_rfl),by kernel_rfl⟩⟩
def i62:TI:=⟨1,24,.slice none 0 0,.sl 2,(.sl (.int .i64))⟩
theorem j62:TIok Tryz.prog 62 i62:=⟨by kernel_rfl,by kernel_rfl,by kernel_rfl,by kernel_rfl,⟨by kernel_rfl,by kernel_rfl⟩⟩
def i83:TI:=⟨4,32,.agg #[.int .i64 0,.int .i64 0,.int .i64 0,.int .i64 0],.agg [(0,1),(1,1),(2,1),(3,1)] true [false,false,false,false],y83⟩
theorem j83:TIok Tryz.prog 83 i83:=⟨by kernel_rfl,by kernel_rfl,by kernel_rfl,by kernel_rfl,⟨by kernel_rfl,by kernel_rfl,by kernel_rfl,⟨by kernel_rfl,by kernel_rfl,by kernel_rfl,by kernel_rfl,trivial⟩,(fun _=>by kernel_rfl),by kernel_rfl⟩⟩
def i84:TI:=⟨1,24,.slice none 0 0,.sl 83,(.sl y83)⟩
theorem j84:TIok Tryz.prog 84 i84:=⟨by kernel_rfl,by kernel_rfl,by kernel_rfl,by kernel_rfl,⟨by kernel_rfl,by kernel_rfl⟩⟩
def i89:TI:=⟨1,8,.pointer none,.oth,(.pt y110)⟩
theorem j89:TIok Tryz.prog 89 i89:=⟨by kernel_rfl,by kernel_rfl,by kernel_rfl,by kernel_rfl,(show notAggB Tryz.prog 89=true by kernel_rfl)⟩
def i100:TI:=⟨1,24,.slice none 0 0,.sl 106,(.sl y106)⟩
theorem j100:TIok Tryz.prog 100 i100:=⟨by kernel_rfl,by kernel_rfl,by kernel_rfl,by kernel_rfl,⟨by kernel_rfl,by kernel_rfl⟩⟩
def i101:TI:=⟨6,80,.agg #[.int .i64 0,.int .i64 0,.int .i64 0,.int .i64 0,.slice none 0 0,.slice none 0 0],.agg [(0,1),(1,1),(2,1),(3,1),(4,1),(5,1)] false [false,false,false,false,false,false],y101⟩
theorem j101:TIok Tryz.prog 101 i101:=⟨by kernel_rfl,by kernel_rfl,by kernel_rfl,by kernel_rfl,⟨by kernel_rfl,by kernel_rfl,by kernel_rfl,⟨by kernel_rfl,by kernel_rfl,by kernel_rfl,by kernel_rfl,by kernel_rfl,by kernel_rfl,trivial⟩,(fun h=>by cases h),by kernel_rfl⟩⟩
def i102:TI:=⟨6,80,.agg #[.int .i64 0,.int .i64 0,.int .i64 0,.int .i64 0,.slice none 0 0,.slice none 0 0],.agg [(0,1),(1,1),(2,1),(3,1),(4,1),(5,1)] false [false,false,false,false,false,false],y102⟩
theorem j102:TIok Tryz.prog 102 i102:=⟨by kernel_rfl,by kernel_rfl,by kernel_rfl,by kernel_rfl,⟨by kernel_rfl,by kernel_rfl,by kernel_rfl,⟨by kernel_rfl,by kernel_rfl,by kernel_rfl,by kernel_rfl,by kernel_rfl,by kernel_rfl,trivial⟩,(fun h=>by cases h),by kernel_rfl⟩⟩
def i105:TI:=⟨3,72,.agg #[.slice none 0 0,.slice none 0 0,.slice none 0 0],.agg [(0,1),(1,1),(2,1)] false [false,false,false],y105⟩
theorem j105:TIok Tryz.prog 105 i105:=⟨by kernel_rfl,by kernel_rfl,by kernel_rfl,by kernel_rfl,⟨by kernel_rfl,by kernel_rfl,by kernel_rfl,⟨by kernel_rfl,by kernel_rfl,by kernel_rfl,trivial⟩,(fun h=>by cases h),by kernel_rfl⟩⟩
def i106:TI:=⟨3,72,.agg #[.slice none 0 0,.slice none 0 0,.slice none 0 0],.agg [(0,1),(1,1),(2,1)] false [false,false,false],y106⟩
theorem j106:TIok Tryz.prog 106 i106:=⟨by kernel_rfl,by kernel_rfl,by kernel_rfl,by kernel_rfl,⟨by kernel_rfl,by kernel_rfl,by kernel_rfl,⟨by kernel_rfl,by kernel_rfl,by kernel_rfl,trivial⟩,(fun h=>by cases h),by kernel_rfl⟩⟩
def i107:TI:=⟨1,24,.slice none 0 0,.sl 159,(.sl y159)⟩
theorem j107:TIok Tryz.prog 107 i107:=⟨by kernel_rfl,by kernel_rfl,by kernel_rfl,by kernel_rfl,⟨by kernel_rfl,by kernel_rfl⟩⟩
def i108:TI:=⟨1,24,.slice none 0 0,.sl 62,(.sl (.sl (.int .i64)))⟩
theorem j108:TIok Tryz.prog 108 i108:=⟨by kernel_rfl,by kernel_rfl,by kernel_rfl,by kernel_rfl,⟨by kernel_rfl,by kernel_rfl⟩⟩
def i109:TI:=⟨10,240,.agg #[.slice none 0 0,.slice none 0 0,.slice none 0 0,.slice none 0 0,.slice none 0 0,.slice none 0 0,.slice none 0 0,.slice none 0 0,.slice none 0 0,.slice none 0 0],.agg [(0,5),(5,1),(6,1),(7,1),(8,1),(9,1)] false [true,false,false,false,false,false],y109⟩
theorem j109:TIok Tryz.prog 109 i109:=⟨by kernel_rfl,by kernel_rfl,by kernel_rfl,by kernel_rfl,⟨by kernel_rfl,by kernel_rfl,by kernel_rfl,⟨by kernel_rfl,by kernel_rfl,by kernel_rfl,by kernel_rfl,by kernel_rfl,by kernel_rfl,trivial⟩,(fun h=>by cases h),by kernel_rfl⟩⟩
def i110:TI:=⟨10,240,.agg #[.slice none 0 0,.slice none 0 0,.slice none 0 0,.slice none 0 0,.slice none 0 0,.slice none 0 0,.slice none 0 0,.slice none 0 0,.slice none 0 0,.slice none 0 0],.agg [(0,5),(5,1),(6,1),(7,1),(8,1),(9,1)] false [true,false,false,false,false,false],y110⟩
theorem j110:TIok Tryz.prog 110 i110:=⟨by kernel_rfl,by kernel_rfl,by kernel_rfl,by kernel_rfl,⟨by kernel_rfl,by kernel_rfl,by kernel_rfl,⟨by kernel_rfl,by kernel_rfl,by kernel_rfl,by kernel_rfl,by kernel_rfl,by kernel_rfl,trivial⟩,(fun h=>by cases h),by kernel_rfl⟩⟩
def i120:TI:=⟨1,8,.pointer none,.oth,(.pt y127)⟩
theorem j120:TIok Tryz.prog 120 i120:=⟨by kernel_rfl,by kernel_rfl,by kernel_rfl,by kernel_rfl,(show notAggB Tryz.prog 120=true by kernel_rfl)⟩
def i125:TI:=⟨1,24,.slice none 0 0,.sl 4,(.sl .bool)⟩
theorem j125:TIok Tryz.prog 125 i125:=⟨by kernel_rfl,by kernel_rfl,by kernel_rfl,by kernel_rfl,⟨by kernel_rfl,by kernel_rfl⟩⟩
def i127:TI:=⟨2,32,.agg #[.pointer none,.slice none 0 0],.agg [(0,1),(1,1)] false [false,false],y127⟩
theorem j127:TIok Tryz.prog 127 i127:=⟨by kernel_rfl,by kernel_rfl,by kernel_rfl,by kernel_rfl,⟨by kernel_rfl,by kernel_rfl,by kernel_rfl,⟨by kernel_rfl,by kernel_rfl,trivial⟩,(fun h=>by cases h),by kernel_rfl⟩⟩
def i134:TI:=⟨4,96,.agg #[.slice none 0 0,.slice none 0 0,.slice none 0 0,.slice none 0 0],.agg [(0,1),(1,1),(2,1),(3,1)] false [false,false,false,false],y134⟩
theorem j134:TIok Tryz.prog 134 i134:=⟨by kernel_rfl,by kernel_rfl,by kernel_rfl,by kernel_rfl,⟨by kernel_rfl,by kernel_rfl,by kernel_rfl,⟨by kernel_rfl,by kernel_rfl,by kernel_rfl,by kernel_rfl,trivial⟩,(fun h=>by cases h),by kernel_rfl⟩⟩
def i137:TI:=⟨4,96,.agg #[.slice none 0 0,.slice none 0 0,.slice none 0 0,.slice none 0 0],.agg [(0,1),(1,1),(2,1),(3,1)] false [false,false,false,false],y137⟩
theorem j137:TIok Tryz.prog 137 i137:=⟨by kernel_rfl,by kernel_rfl,by kernel_rfl,by kernel_rfl,⟨by kernel_rfl,by kernel_rfl,by kernel_rfl,⟨by kernel_rfl,by kernel_rfl,by kernel_rfl,by kernel_rfl,trivial⟩,(fun h=>by cases h),by kernel_rfl⟩⟩
def i142:TI:=⟨1,24,.slice none 0 0,.sl 241,(.sl y241)⟩
theorem j142:TIok Tryz.prog 142 i142:=⟨by kernel_rfl,by kernel_rfl,by kernel_rfl,by kernel_rfl,⟨by kernel_rfl,by kernel_rfl⟩⟩
def i143:TI:=⟨1,24,.slice none 0 0,.sl 102,(.sl y102)⟩
theorem j143:TIok Tryz.prog 143 i143:=⟨by kernel_rfl,by kernel_rfl,by kernel_rfl,by kernel_rfl,⟨by kernel_rfl,by kernel_rfl⟩⟩
def i145:TI:=⟨7,112,.agg #[.string ⟨#[]⟩,.int .i64 0,.slice none 0 0,.slice none 0 0,.slice none 0 0,.int .i64 0,.int .i64 0],.agg [(0,1),(1,1),(2,1),(3,1),(4,1),(5,1),(6,1)] false [false,false,false,false,false,false,false],y145⟩
theorem j145:TIok Tryz.prog 145 i145:=⟨by kernel_rfl,by kernel_rfl,by kernel_rfl,by kernel_rfl,⟨by kernel_rfl,by kernel_rfl,by kernel_rfl,⟨by kernel_rfl,by kernel_rfl,by kernel_rfl,by kernel_rfl,by kernel_rfl,by kernel_rfl,by kernel_rfl,trivial⟩,(fun h=>by cases h),by kernel_rfl⟩⟩
def i147:TI:=⟨3,48,.agg #[.string ⟨#[]⟩,.int .i64 0,.slice none 0 0],.agg [(0,1),(1,1),(2,1)] false [false,false,false],y147⟩
theorem j147:TIok Tryz.prog 147 i147:=⟨by kernel_rfl,by kernel_rfl,by kernel_rfl,by kernel_rfl,⟨by kernel_rfl,by kernel_rfl,by kernel_rfl,⟨by kernel_rfl,by kernel_rfl,by kernel_rfl,trivial⟩,(fun h=>by cases h),by kernel_rfl⟩⟩
def i159:TI:=⟨4,32,.agg #[.int .i64 0,.int .i64 0,.int .i64 0,.bool false],.agg [(0,1),(1,1),(2,1),(3,1)] false [false,false,false,false],y159⟩
theorem j159:TIok Tryz.prog 159 i159:=⟨by kernel_rfl,by kernel_rfl,by kernel_rfl,by kernel_rfl,⟨by kernel_rfl,by kernel_rfl,by kernel_rfl,⟨by kernel_rfl,by kernel_rfl,by kernel_rfl,by kernel_rfl,trivial⟩,(fun h=>by cases h),by kernel_rfl⟩⟩
def i176:TI:=⟨4,32,.agg #[.int .i64 0,.int .i64 0,.int .i64 0,.bool false],.agg [(0,1),(1,1),(2,1),(3,1)] false [false,false,false,false],y176⟩
theorem j176:TIok Tryz.prog 176 i176:=⟨by kernel_rfl,by kernel_rfl,by kernel_rfl,by kernel_rfl,⟨by kernel_rfl,by kernel_rfl,by kernel_rfl,⟨by kernel_rfl,by kernel_rfl,by kernel_rfl,by kernel_rfl,trivial⟩,(fun h=>by cases h),by kernel_rfl⟩⟩
def i177:TI:=⟨1,24,.slice none 0 0,.sl 176,(.sl y176)⟩
theorem j177:TIok Tryz.prog 177 i177:=⟨by kernel_rfl,by kernel_rfl,by kernel_rfl,by kernel_rfl,⟨by kernel_rfl,by kernel_rfl⟩⟩
def i188:TI:=⟨1,24,.slice none 0 0,.sl 255,(.sl y255)⟩
theorem j188:TIok Tryz.prog 188 i188:=⟨by kernel_rfl,by kernel_rfl,by kernel_rfl,by kernel_rfl,⟨by kernel_rfl,by kernel_rfl⟩⟩
def i189:TI:=⟨1,24,.slice none 0 0,.sl 259,(.sl y259)⟩
theorem j189:TIok Tryz.prog 189 i189:=⟨by kernel_rfl,by kernel_rfl,by kernel_rfl,by kernel_rfl,⟨by kernel_rfl,by kernel_rfl⟩⟩
def i191:TI:=⟨7,112,.agg #[.string ⟨#[]⟩,.int .i64 0,.slice none 0 0,.slice none 0 0,.slice none 0 0,.int .i64 0,.int .i64 0],.agg [(0,1),(1,1),(2,1),(3,1),(4,1),(5,1),(6,1)] false [false,false,false,false,false,false,false],y191⟩
theorem j191:TIok Tryz.prog 191 i191:=⟨by kernel_rfl,by kernel_rfl,by kernel_rfl,by kernel_rfl,⟨by kernel_rfl,by kernel_rfl,by kernel_rfl,⟨by kernel_rfl,by kernel_rfl,by kernel_rfl,by kernel_rfl,by kernel_rfl,by kernel_rfl,by kernel_rfl,trivial⟩,(fun h=>by cases h),by kernel_rfl⟩⟩
def i193:TI:=⟨3,48,.agg #[.string ⟨#[]⟩,.int .i64 0,.slice none 0 0],.agg [(0,1),(1,1),(2,1)] false [false,false,false],y193⟩
theorem j193:TIok Tryz.prog 193 i193:=⟨by kernel_rfl,by kernel_rfl,by kernel_rfl,by kernel_rfl,⟨by kernel_rfl,by kernel_rfl,by kernel_rfl,⟨by kernel_rfl,by kernel_rfl,by kernel_rfl,trivial⟩,(fun h=>by cases h),by kernel_rfl⟩⟩
def i195:TI:=⟨3,32,.agg #[.string ⟨#[]⟩,.int .i64 0,.int .i64 0],.agg [(0,1),(1,1),(2,1)] false [false,false,false],y195⟩
theorem j195:TIok Tryz.prog 195 i195:=⟨by kernel_rfl,by kernel_rfl,by kernel_rfl,by kernel_rfl,⟨by kernel_rfl,by kernel_rfl,by kernel_rfl,⟨by kernel_rfl,by kernel_rfl,by kernel_rfl,trivial⟩,(fun h=>by cases h),by kernel_rfl⟩⟩
def i196:TI:=⟨3,32,.agg #[.string ⟨#[]⟩,.int .i64 0,.int .i64 0],.agg [(0,1),(1,1),(2,1)] false [false,false,false],y196⟩
theorem j196:TIok Tryz.prog 196 i196:=⟨by kernel_rfl,by kernel_rfl,by kernel_rfl,by kernel_rfl,⟨by kernel_rfl,by kernel_rfl,by kernel_rfl,⟨by kernel_rfl,by kernel_rfl,by kernel_rfl,trivial⟩,(fun h=>by cases h),by kernel_rfl⟩⟩
def i199:TI:=⟨3,32,.agg #[.string ⟨#[]⟩,.int .i64 0,.int .i64 0],.agg [(0,1),(1,1),(2,1)] false [false,false,false],y199⟩
theorem j199:TIok Tryz.prog 199 i199:=⟨by kernel_rfl,by kernel_rfl,by kernel_rfl,by kernel_rfl,⟨by kernel_rfl,by kernel_rfl,by kernel_rfl,⟨by kernel_rfl,by kernel_rfl,by kernel_rfl,trivial⟩,(fun h=>by cases h),by kernel_rfl⟩⟩
def i206:TI:=⟨1,24,.slice none 0 0,.sl 3,(.sl (.int .i64))⟩
theorem j206:TIok Tryz.prog 206 i206:=⟨by kernel_rfl,by kernel_rfl,by kernel_rfl,by kernel_rfl,⟨by kernel_rfl,by kernel_rfl⟩⟩
def i211:TI:=⟨1,24,.slice none 0 0,.sl 213,(.sl (.pr (.int .i64) (.int .i64)))⟩
theorem j211:TIok Tryz.prog 211 i211:=⟨by kernel_rfl,by kernel_rfl,by kernel_rfl,by kernel_rfl,⟨by kernel_rfl,by kernel_rfl⟩⟩
def i213:TI:=⟨2,16,.agg #[.int .i64 0,.int .i64 0],.arr 2 2,(.pr (.int .i64) (.int .i64))⟩
theorem j213:TIok Tryz.prog 213 i213:=⟨by kernel_rfl,by kernel_rfl,by kernel_rfl,by kernel_rfl,⟨by kernel_rfl,by kernel_rfl⟩⟩
def i240:TI:=⟨4,40,.agg #[.string ⟨#[]⟩,.int .i64 0,.int .i64 0,.bool false],.agg [(0,1),(1,1),(2,1),(3,1)] false [false,false,false,false],y240⟩
theorem j240:TIok Tryz.prog 240 i240:=⟨by kernel_rfl,by kernel_rfl,by kernel_rfl,by kernel_rfl,⟨by kernel_rfl,by kernel_rfl,by kernel_rfl,⟨by kernel_rfl,by kernel_rfl,by kernel_rfl,by kernel_rfl,trivial⟩,(fun h=>by cases h),by kernel_rfl⟩⟩
def i241:TI:=⟨4,40,.agg #[.string ⟨#[]⟩,.int .i64 0,.int .i64 0,.bool false],.agg [(0,1),(1,1),(2,1),(3,1)] false [false,false,false,false],y241⟩
theorem j241:TIok Tryz.prog 241 i241:=⟨by kernel_rfl,by kernel_rfl,by kernel_rfl,by kernel_rfl,⟨by kernel_rfl,by kernel_rfl,by kernel_rfl,⟨by kernel_rfl,by kernel_rfl,by kernel_rfl,by kernel_rfl,trivial⟩,(fun h=>by cases h),by kernel_rfl⟩⟩
def i247:TI:=⟨256,256,.agg #[.bool false,.bool false,.bool false,.bool false,.bool false,.bool false,.bool false,.bool false,.bool false,.bool false,.bool false,.bool false,.bool false,.bool false,.bool false,.bool false,.bool false,.bool false,.bool false,.bool false,.bool false,.bool false,.bool false,.bool false,.bool false,.bool false,.bool false,.bool false,.bool false,.bool false,.bool false,.bool false,.bool false,.bool false,.bool false,.bool false,.bool false,.bool false,.bool false,.bool false,.bool false,.bool false,.bool false,.bool false,.bool false,.bool false,.bool false,.bool false,.bool false,.bool false,.bool false,.bool false,.bool false,.bool false,.bool false,.bool false,.bool false,.bool false,.bool false,.bool false,.bool false,.bool false,.bool false,.bool false,.bool false,.bool false,.bool false,.bool false,.bool false,.bool false,.bool false,.bool false,.bool false,.bool false,.bool false,.bool false,.bool false,.bool false,.bool false,.bool false,.bool false,.bool false,.bool false,.bool false,.bool false,.bool false,.bool false,.bool false,.bool false,.bool false,.bool false,.bool false,.bool false,.bool false,.bool false,.bool false,.bool false,.bool false,.bool false,.bool false,.bool false,.bool false,.bool false,.bool false,.bool false,.bool false,.bool false,.bool false,.bool false,.bool false,.bool false,.bool false,.bool false,.bool false,.bool false,.bool false,.bool false,.bool false,.bool false,.bool false,.bool false,.bool false,.bool false,.bool false,.bool false,.bool false,.bool false,.bool false,.bool false,.bool false,.bool false,.bool false,.bool false,.bool false,.bool false,.bool false,.bool false,.bool false,.bool false,.bool false,.bool false,.bool false,.bool false,.bool false,.bool false,.bool false,.bool false,.bool false,.bool false,.bool false,.bool false,.bool false,.bool false,.bool false,.bool false,.bool false,.bool false,.bool false,.bool false,.bool false,.bool false,.bool false,.bool false,.bool false,.bool false,.bool false,.bool false,.bool false,.bool false,.bool false,.bool false,.bool false,.bool false,.bool false,.bool false,.bool false,.bool false,.bool false,.bool false,.bool false,.bool false,.bool false,.bool false,.bool false,.bool false,.bool false,.bool false,.bool false,.bool false,.bool false,.bool false,.bool false,.bool false,.bool false,.bool false,.bool false,.bool false,.bool false,.bool false,.bool false,.bool false,.bool false,.bool false,.bool false,.bool false,.bool false,.bool false,.bool false,.bool false,.bool false,.bool false,.bool false,.bool false,.bool false,.bool false,.bool false,.bool false,.bool false,.bool false,.bool false,.bool false,.bool false,.bool false,.bool false,.bool false,.bool false,.bool false,.bool false,.bool false,.bool false,.bool false,.bool false,.bool false,.bool false,.bool false,.bool false,.bool false,.bool false,.bool false,.bool false,.bool false,.bool false,.bool false,.bool false,.bool false,.bool false,.bool false,.bool false,.bool false,.bool false,.bool false,.bool false,.bool false,.bool false,.bool false,.bool false],.arr 256 4,.bool⟩
theorem j247:TIok Tryz.prog 247 i247:=⟨by kernel_rfl,by kernel_rfl,by kernel_rfl,by kernel_rfl,⟨by kernel_rfl,by kernel_rfl⟩⟩
def i255:TI:=⟨4,40,.agg #[.string ⟨#[]⟩,.int .i64 0,.int .i64 0,.bool false],.agg [(0,1),(1,1),(2,1),(3,1)] false [false,false,false,false],y255⟩
theorem j255:TIok Tryz.prog 255 i255:=⟨by kernel_rfl,by kernel_rfl,by kernel_rfl,by kernel_rfl,⟨by kernel_rfl,by kernel_rfl,by kernel_rfl,⟨by kernel_rfl,by kernel_rfl,by kernel_rfl,by kernel_rfl,trivial⟩,(fun h=>by cases h),by kernel_rfl⟩⟩
def i257:TI:=⟨1,24,.slice none 0 0,.sl 285,(.sl y285)⟩
theorem j257:TIok Tryz.prog 257 i257:=⟨by kernel_rfl,by kernel_rfl,by kernel_rfl,by kernel_rfl,⟨by kernel_rfl,by kernel_rfl⟩⟩
def i259:TI:=⟨6,80,.agg #[.int .i64 0,.int .i64 0,.int .i64 0,.int .i64 0,.slice none 0 0,.slice none 0 0],.agg [(0,1),(1,1),(2,1),(3,1),(4,1),(5,1)] false [false,false,false,false,false,false],y259⟩
theorem j259:TIok Tryz.prog 259 i259:=⟨by kernel_rfl,by kernel_rfl,by kernel_rfl,by kernel_rfl,⟨by kernel_rfl,by kernel_rfl,by kernel_rfl,⟨by kernel_rfl,by kernel_rfl,by kernel_rfl,by kernel_rfl,by kernel_rfl,by kernel_rfl,trivial⟩,(fun h=>by cases h),by kernel_rfl⟩⟩
def i263:TI:=⟨1,8,.int .u64 0,.int .u64,(.int .u64)⟩
theorem j263:TIok Tryz.prog 263 i263:=⟨by kernel_rfl,by kernel_rfl,by kernel_rfl,by kernel_rfl,⟨by kernel_rfl,by kernel_rfl⟩⟩
def i285:TI:=⟨3,72,.agg #[.slice none 0 0,.slice none 0 0,.slice none 0 0],.agg [(0,1),(1,1),(2,1)] false [false,false,false],y285⟩
theorem j285:TIok Tryz.prog 285 i285:=⟨by kernel_rfl,by kernel_rfl,by kernel_rfl,by kernel_rfl,⟨by kernel_rfl,by kernel_rfl,by kernel_rfl,⟨by kernel_rfl,by kernel_rfl,by kernel_rfl,trivial⟩,(fun h=>by cases h),by kernel_rfl⟩⟩
def Γ:Tab':=[(2,i2),(3,i3),(4,i4),(5,i5),(6,i6),(7,i7),(8,i8),(9,i9),(10,i10),(12,i12),(13,i13),(14,i14),(15,i15),(16,i16),(17,i17),(18,i18),(22,i22),(24,i24),(25,i25),(26,i26),(27,i27),(28,i28),(29,i29),(30,i30),(32,i32),(36,i36),(38,i38),(39,i39),(40,i40),(41,i41),(42,i42),(43,i43),(45,i45),(49,i49),(50,i50),(53,i53),(56,i56),(57,i57),(62,i62),(83,i83),(84,i84),(89,i89),(100,i100),(101,i101),(102,i102),(105,i105),(106,i106),(107,i107),(108,i108),(109,i109),(110,i110),(120,i120),(125,i125),(127,i127),(134,i134),(137,i137),(142,i142),(143,i143),(145,i145),(147,i147),(159,i159),(176,i176),(177,i177),(188,i188),(189,i189),(191,i191),(193,i193),(195,i195),(196,i196),(199,i199),(206,i206),(211,i211),(213,i213),(240,i240),(241,i241),(247,i247),(255,i255),(257,i257),(259,i259),(263,i263),(285,i285)]
theorem tok:TabOk Tryz.prog Γ:=tab_cons j2 (tab_cons j3 (tab_cons j4 (tab_cons j5 (tab_cons j6 (tab_cons j7 (tab_cons j8 (tab_cons j9 (tab_cons j10 (tab_cons j12 (tab_cons j13 (tab_cons j14 (tab_cons j15 (tab_cons j16 (tab_cons j17 (tab_cons j18 (tab_cons j22 (tab_cons j24 (tab_cons j25 (tab_cons j26 (tab_cons j27 (tab_cons j28 (tab_cons j29 (tab_cons j30 (tab_cons j32 (tab_cons j36 (tab_cons j38 (tab_cons j39 (tab_cons j40 (tab_cons j41 (tab_cons j42 (tab_cons j43 (tab_cons j45 (tab_cons j49 (tab_cons j50 (tab_cons j53 (tab_cons j56 (tab_cons j57 (tab_cons j62 (tab_cons j83 (tab_cons j84 (tab_cons j89 (tab_cons j100 (tab_cons j101 (tab_cons j102 (tab_cons j105 (tab_cons j106 (tab_cons j107 (tab_cons j108 (tab_cons j109 (tab_cons j110 (tab_cons j120 (tab_cons j125 (tab_cons j127 (tab_cons j134 (tab_cons j137 (tab_cons j142 (tab_cons j143 (tab_cons j145 (tab_cons j147 (tab_cons j159 (tab_cons j176 (tab_cons j177 (tab_cons j188 (tab_cons j189 (tab_cons j191 (tab_cons j193 (tab_cons j195 (tab_cons j196 (tab_cons j199 (tab_cons j206 (tab_cons j211 (tab_cons j213 (tab_cons j240 (tab_cons j241 (tab_cons j247 (tab_cons j255 (tab_cons j257 (tab_cons j259 (tab_cons j263 (tab_cons j285 tab_nil))))))))))))))))))))))))))))))))))))))))))))))))))))))))))))))))))))))))))))))))
end Go.Proofs.YticmgmebjmblgaaGreatDoor
