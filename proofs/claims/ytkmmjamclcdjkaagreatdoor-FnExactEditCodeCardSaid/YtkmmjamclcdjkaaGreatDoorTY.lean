/- The types of this seat's program. -/
import Derived.Test.YtkmmjamclcdjkaaGreatDoorXE
import Derived.Test.YtkmmjamclcdjkaaGreatDoorProg
import Derived.KernelRfl
namespace Go.Proofs.YtkmmjamclcdjkaaGreatDoor
open Go Go.Proofs Go.Proofs.Sv Go.Proofs.Xv
instance : Mixed Tryz.prog := ⟨by kernel_rfl⟩
abbrev y7 : Ty := .pr (.int .i64) (.pr (.int .i64) (.pr .bool ((.int .u8))))
abbrev Y7 : Type := Int × Int × Bool × Int
abbrev y8 : Ty := .pr (.int .i64) (.pr (.int .i64) (.pr .bool ((.int .u8))))
abbrev Y8 : Type := Int × Int × Bool × Int
abbrev y13 : Ty := .pr .str ((.int .u64))
abbrev Y13 : Type := ByteArray × Int
abbrev y14 : Ty := .pr .str ((.int .u64))
abbrev Y14 : Type := ByteArray × Int
abbrev y208 : Ty := .pr .str (.pr (.int .i64) (.pr (.int .i64) (.bool)))
abbrev Y208 : Type := ByteArray × Int × Int × Bool
abbrev y251 : Ty := .pr (.sl (.int .i64)) (.pr (.sl (.int .i64)) ((.sl (.int .i64))))
abbrev Y251 : Type := List Int × List Int × List Int
abbrev y212 : Ty := .pr (.int .i64) (.pr (.int .i64) (.pr (.int .i64) (.pr (.int .i64) (.pr (.sl y251) ((.sl y251))))))
abbrev Y212 : Type := Int × Int × Int × Int × List Y251 × List Y251
abbrev y137 : Ty := .pr .str (.pr (.int .i64) (.pr (.sl y208) (.pr (.sl y212) (.pr (.sl (.int .i64)) (.pr (.int .i64) ((.int .i64)))))))
abbrev Y137 : Type := ByteArray × Int × List Y208 × List Y212 × List Int × Int × Int
abbrev y139 : Ty := .pr .str (.pr (.int .i64) ((.sl (.int .i64))))
abbrev Y139 : Type := ByteArray × Int × List Int
abbrev y142 : Ty := .pr .str (.pr (.int .i64) ((.int .i64)))
abbrev Y142 : Type := ByteArray × Int × Int
abbrev y28 : Ty := .pr (.sl y139) (.pr (.sl .str) ((.sl y142)))
abbrev Y28 : Type := List Y139 × List ByteArray × List Y142
abbrev y29 : Ty := .pr (.sl y139) (.pr (.sl .str) ((.sl y142)))
abbrev Y29 : Type := List Y139 × List ByteArray × List Y142
abbrev y35 : Ty := .pr (.sl (.int .i64)) (.pr (.sl (.int .i64)) (.pr (.sl (.int .i64)) ((.sl (.int .i64)))))
abbrev Y35 : Type := List Int × List Int × List Int × List Int
abbrev y31 : Ty := .pr ((.sl y137)) (.pr y29 ((.sl y35)))
abbrev Y31 : Type := List Y137 × Y29 × List Y35
abbrev y32 : Ty := .pr ((.sl y137)) (.pr y29 ((.sl y35)))
abbrev Y32 : Type := List Y137 × Y29 × List Y35
abbrev y34 : Ty := .pr (.sl (.int .i64)) (.pr (.sl (.int .i64)) (.pr (.sl (.int .i64)) ((.sl (.int .i64)))))
abbrev Y34 : Type := List Int × List Int × List Int × List Int
abbrev y36 : Ty := .pr (.int .i64) (.pr (.int .i64) (.pr (.int .i64) (.pr (.int .i64) (.pr (.int .i64) (.pr .str y35)))))
abbrev Y36 : Type := Int × Int × Int × Int × Int × ByteArray × Y35
abbrev y37 : Ty := .pr (.int .i64) (.pr (.int .i64) (.pr (.int .i64) (.pr (.int .i64) (.pr (.int .i64) (.pr .str y35)))))
abbrev Y37 : Type := Int × Int × Int × Int × Int × ByteArray × Y35
abbrev y147 : Ty := .pr .str (.pr (.int .i64) (.pr (.int .i64) (.bool)))
abbrev Y147 : Type := ByteArray × Int × Int × Bool
abbrev y232 : Ty := .pr (.sl (.int .i64)) (.pr (.sl (.int .i64)) ((.sl (.int .i64))))
abbrev Y232 : Type := List Int × List Int × List Int
abbrev y195 : Ty := .pr (.int .i64) (.pr (.int .i64) (.pr (.int .i64) (.pr (.int .i64) (.pr (.sl y232) ((.sl y232))))))
abbrev Y195 : Type := Int × Int × Int × Int × List Y232 × List Y232
abbrev y107 : Ty := .pr .str (.pr (.int .i64) (.pr (.sl y147) (.pr (.sl y195) (.pr (.sl (.int .i64)) (.pr (.int .i64) ((.int .i64)))))))
abbrev Y107 : Type := ByteArray × Int × List Y147 × List Y195 × List Int × Int × Int
abbrev y109 : Ty := .pr .str (.pr (.int .i64) ((.sl (.int .i64))))
abbrev Y109 : Type := ByteArray × Int × List Int
abbrev y144 : Ty := .pr .str (.pr (.int .i64) ((.int .i64)))
abbrev Y144 : Type := ByteArray × Int × Int
abbrev y46 : Ty := .pr (.sl y109) (.pr (.sl .str) ((.sl y144)))
abbrev Y46 : Type := List Y109 × List ByteArray × List Y144
abbrev y47 : Ty := .pr (.sl y109) (.pr (.sl .str) ((.sl y144)))
abbrev Y47 : Type := List Y109 × List ByteArray × List Y144
abbrev y52 : Ty := .pr (.sl (.int .i64)) (.pr (.sl (.int .i64)) (.pr (.sl (.int .i64)) ((.sl (.int .i64)))))
abbrev Y52 : Type := List Int × List Int × List Int × List Int
abbrev y49 : Ty := .pr ((.sl y107)) (.pr y47 ((.sl y52)))
abbrev Y49 : Type := List Y107 × Y47 × List Y52
abbrev y50 : Ty := .pr ((.sl y107)) (.pr y47 ((.sl y52)))
abbrev Y50 : Type := List Y107 × Y47 × List Y52
abbrev y53 : Ty := .pr (.int .i64) (.pr (.int .i64) (.pr (.int .i64) (.pr (.int .i64) (.pr (.int .i64) (.pr .str y52)))))
abbrev Y53 : Type := Int × Int × Int × Int × Int × ByteArray × Y52
abbrev y54 : Ty := .pr (.int .i64) (.pr (.int .i64) (.pr (.int .i64) (.pr (.int .i64) (.pr (.int .i64) (.pr .str y52)))))
abbrev Y54 : Type := Int × Int × Int × Int × Int × ByteArray × Y52
abbrev y102 : Ty := .pr (.int .i64) (.pr (.int .i64) (.pr (.int .i64) (.bool)))
abbrev Y102 : Type := Int × Int × Int × Bool
abbrev y101 : Ty := .pr (.int .i64) (.pr (.int .i64) (.pr (.int .i64) (.bool)))
abbrev Y101 : Type := Int × Int × Int × Bool
abbrev y106 : Ty := .pr .str (.pr (.int .i64) (.pr (.sl y147) (.pr (.sl y195) (.pr (.sl (.int .i64)) (.pr (.int .i64) ((.int .i64)))))))
abbrev Y106 : Type := ByteArray × Int × List Y147 × List Y195 × List Int × Int × Int
abbrev y108 : Ty := .pr .str (.pr (.int .i64) ((.sl (.int .i64))))
abbrev Y108 : Type := ByteArray × Int × List Int
abbrev y121 : Ty := .pr (.int .i64) (.pr (.int .i64) (.pr (.int .i64) (.bool)))
abbrev Y121 : Type := Int × Int × Int × Bool
abbrev y120 : Ty := .pr (.int .i64) (.pr (.int .i64) (.pr (.int .i64) (.bool)))
abbrev Y120 : Type := Int × Int × Int × Bool
abbrev y136 : Ty := .pr .str (.pr (.int .i64) (.pr (.sl y208) (.pr (.sl y212) (.pr (.sl (.int .i64)) (.pr (.int .i64) ((.int .i64)))))))
abbrev Y136 : Type := ByteArray × Int × List Y208 × List Y212 × List Int × Int × Int
abbrev y141 : Ty := .pr .str (.pr (.int .i64) ((.int .i64)))
abbrev Y141 : Type := ByteArray × Int × Int
abbrev y146 : Ty := .pr .str (.pr (.int .i64) (.pr (.int .i64) (.bool)))
abbrev Y146 : Type := ByteArray × Int × Int × Bool
abbrev y194 : Ty := .pr (.int .i64) (.pr (.int .i64) (.pr (.int .i64) (.pr (.int .i64) (.pr (.sl y232) ((.sl y232))))))
abbrev Y194 : Type := Int × Int × Int × Int × List Y232 × List Y232
abbrev y211 : Ty := .pr (.int .i64) (.pr (.int .i64) (.pr (.int .i64) (.pr (.int .i64) (.pr (.sl y251) ((.sl y251))))))
abbrev Y211 : Type := Int × Int × Int × Int × List Y251 × List Y251
abbrev y231 : Ty := .pr (.sl (.int .i64)) (.pr (.sl (.int .i64)) ((.sl (.int .i64))))
abbrev Y231 : Type := List Int × List Int × List Int
abbrev y252 : Ty := .pr (.int .i64) ((.int .i64))
abbrev Y252 : Type := Int × Int
abbrev y253 : Ty := .pr (.int .i64) ((.int .i64))
abbrev Y253 : Type := Int × Int
abbrev y271 : Ty := .pr (.int .u8) ((.int .u8))
abbrev Y271 : Type := Int × Int
abbrev y272 : Ty := .pr (.int .u8) ((.int .u8))
abbrev Y272 : Type := Int × Int
def i2 : TI := ⟨1, 8, .int .i64 0, .int .i64, (.int .i64)⟩
theorem j2 : TIok Tryz.prog 2 i2 := ⟨by kernel_rfl, by kernel_rfl, by kernel_rfl, by kernel_rfl, ⟨by kernel_rfl, by kernel_rfl⟩⟩
def i3 : TI := ⟨1, 8, .int .i64 0, .int .i64, (.int .i64)⟩
theorem j3 : TIok Tryz.prog 3 i3 := ⟨by kernel_rfl, by kernel_rfl, by kernel_rfl, by kernel_rfl, ⟨by kernel_rfl, by kernel_rfl⟩⟩
def i4 : TI := ⟨1, 1, .bool false, .bool, .bool⟩
theorem j4 : TIok Tryz.prog 4 i4 := ⟨by kernel_rfl, by kernel_rfl, by kernel_rfl, by kernel_rfl, ⟨by kernel_rfl, by kernel_rfl⟩⟩
def i5 : TI := ⟨1, 1, .int .u8 0, .int .u8, (.int .u8)⟩
theorem j5 : TIok Tryz.prog 5 i5 := ⟨by kernel_rfl, by kernel_rfl, by kernel_rfl, by kernel_rfl, ⟨by kernel_rfl, by kernel_rfl⟩⟩
def i6 : TI := ⟨1, 1, .int .u8 0, .int .u8, (.int .u8)⟩
theorem j6 : TIok Tryz.prog 6 i6 := ⟨by kernel_rfl, by kernel_rfl, by kernel_rfl, by kernel_rfl, ⟨by kernel_rfl, by kernel_rfl⟩⟩
def i7 : TI := ⟨4, 24, .agg #[.int .i64 0, .int .i64 0, .bool false, .int .u8 0], .agg [(0, 1), (1, 1), (2, 1), (3, 1)] false [false, false, false, false], y7⟩
theorem j7 : TIok Tryz.prog 7 i7 := ⟨by kernel_rfl, by kernel_rfl, by kernel_rfl, by kernel_rfl, ⟨by kernel_rfl, by kernel_rfl, by kernel_rfl, ⟨by kernel_rfl, by kernel_rfl, by kernel_rfl, by kernel_rfl, trivial⟩, (fun h => by cases h), by kernel_rfl⟩⟩
def i8 : TI := ⟨4, 24, .agg #[.int .i64 0, .int .i64 0, .bool false, .int .u8 0], .agg [(0, 1), (1, 1), (2, 1), (3, 1)] false [false, false, false, false], y8⟩
theorem j8 : TIok Tryz.prog 8 i8 := ⟨by kernel_rfl, by kernel_rfl, by kernel_rfl, by kernel_rfl, ⟨by kernel_rfl, by kernel_rfl, by kernel_rfl, ⟨by kernel_rfl, by kernel_rfl, by kernel_rfl, by kernel_rfl, trivial⟩, (fun h => by cases h), by kernel_rfl⟩⟩
def i9 : TI := ⟨1, 16, .string ⟨#[]⟩, .str, .str⟩
theorem j9 : TIok Tryz.prog 9 i9 := ⟨by kernel_rfl, by kernel_rfl, by kernel_rfl, by kernel_rfl, ⟨by kernel_rfl, by kernel_rfl⟩⟩
def i10 : TI := ⟨1, 16, .string ⟨#[]⟩, .str, .str⟩
theorem j10 : TIok Tryz.prog 10 i10 := ⟨by kernel_rfl, by kernel_rfl, by kernel_rfl, by kernel_rfl, ⟨by kernel_rfl, by kernel_rfl⟩⟩
def i11 : TI := ⟨1, 16, .string ⟨#[]⟩, .str, .str⟩
theorem j11 : TIok Tryz.prog 11 i11 := ⟨by kernel_rfl, by kernel_rfl, by kernel_rfl, by kernel_rfl, ⟨by kernel_rfl, by kernel_rfl⟩⟩
def i12 : TI := ⟨1, 8, .int .u64 0, .int .u64, (.int .u64)⟩
theorem j12 : TIok Tryz.prog 12 i12 := ⟨by kernel_rfl, by kernel_rfl, by kernel_rfl, by kernel_rfl, ⟨by kernel_rfl, by kernel_rfl⟩⟩
def i13 : TI := ⟨2, 24, .agg #[.string ⟨#[]⟩, .int .u64 0], .agg [(0, 1), (1, 1)] false [false, false], y13⟩
theorem j13 : TIok Tryz.prog 13 i13 := ⟨by kernel_rfl, by kernel_rfl, by kernel_rfl, by kernel_rfl, ⟨by kernel_rfl, by kernel_rfl, by kernel_rfl, ⟨by kernel_rfl, by kernel_rfl, trivial⟩, (fun h => by cases h), by kernel_rfl⟩⟩
def i14 : TI := ⟨2, 24, .agg #[.string ⟨#[]⟩, .int .u64 0], .agg [(0, 1), (1, 1)] false [false, false], y14⟩
theorem j14 : TIok Tryz.prog 14 i14 := ⟨by kernel_rfl, by kernel_rfl, by kernel_rfl, by kernel_rfl, ⟨by kernel_rfl, by kernel_rfl, by kernel_rfl, ⟨by kernel_rfl, by kernel_rfl, trivial⟩, (fun h => by cases h), by kernel_rfl⟩⟩
def i15 : TI := ⟨1, 8, .pointer none, .oth, .bool⟩
theorem j15 : TIok Tryz.prog 15 i15 := ⟨by kernel_rfl, by kernel_rfl, by kernel_rfl, by kernel_rfl, (show notAggB Tryz.prog 15 = true by kernel_rfl)⟩
def i16 : TI := ⟨1, 8, .pointer none, .oth, .bool⟩
theorem j16 : TIok Tryz.prog 16 i16 := ⟨by kernel_rfl, by kernel_rfl, by kernel_rfl, by kernel_rfl, (show notAggB Tryz.prog 16 = true by kernel_rfl)⟩
def i17 : TI := ⟨1, 8, .pointer none, .oth, .bool⟩
theorem j17 : TIok Tryz.prog 17 i17 := ⟨by kernel_rfl, by kernel_rfl, by kernel_rfl, by kernel_rfl, (show notAggB Tryz.prog 17 = true by kernel_rfl)⟩
def i18 : TI := ⟨1, 8, .agg #[.pointer none], .agg [(0, 1)] false [false], .bool⟩
theorem j18 : TIok Tryz.prog 18 i18 := ⟨by kernel_rfl, by kernel_rfl, by kernel_rfl, by kernel_rfl, ⟨by kernel_rfl, by kernel_rfl, by kernel_rfl, ⟨by kernel_rfl, trivial⟩, (fun h => by cases h), by kernel_rfl⟩⟩
def i19 : TI := ⟨1, 8, .agg #[.pointer none], .agg [(0, 1)] false [false], .bool⟩
theorem j19 : TIok Tryz.prog 19 i19 := ⟨by kernel_rfl, by kernel_rfl, by kernel_rfl, by kernel_rfl, ⟨by kernel_rfl, by kernel_rfl, by kernel_rfl, ⟨by kernel_rfl, trivial⟩, (fun h => by cases h), by kernel_rfl⟩⟩
def i21 : TI := ⟨1, 4, .int .i32 0, .int .i32, (.int .i32)⟩
theorem j21 : TIok Tryz.prog 21 i21 := ⟨by kernel_rfl, by kernel_rfl, by kernel_rfl, by kernel_rfl, ⟨by kernel_rfl, by kernel_rfl⟩⟩
def i22 : TI := ⟨1, 24, .slice none 0 0, .sl 137, (.sl y137)⟩
theorem j22 : TIok Tryz.prog 22 i22 := ⟨by kernel_rfl, by kernel_rfl, by kernel_rfl, by kernel_rfl, ⟨by kernel_rfl, by kernel_rfl⟩⟩
def i23 : TI := ⟨1, 24, .agg #[.slice none 0 0], .agg [(0, 1)] false [false], ((.sl y137))⟩
theorem j23 : TIok Tryz.prog 23 i23 := ⟨by kernel_rfl, by kernel_rfl, by kernel_rfl, by kernel_rfl, ⟨by kernel_rfl, by kernel_rfl, by kernel_rfl, ⟨by kernel_rfl, trivial⟩, (fun h => by cases h), by kernel_rfl⟩⟩
def i24 : TI := ⟨1, 24, .agg #[.slice none 0 0], .agg [(0, 1)] false [false], ((.sl y137))⟩
theorem j24 : TIok Tryz.prog 24 i24 := ⟨by kernel_rfl, by kernel_rfl, by kernel_rfl, by kernel_rfl, ⟨by kernel_rfl, by kernel_rfl, by kernel_rfl, ⟨by kernel_rfl, trivial⟩, (fun h => by cases h), by kernel_rfl⟩⟩
def i25 : TI := ⟨1, 24, .slice none 0 0, .sl 139, (.sl y139)⟩
theorem j25 : TIok Tryz.prog 25 i25 := ⟨by kernel_rfl, by kernel_rfl, by kernel_rfl, by kernel_rfl, ⟨by kernel_rfl, by kernel_rfl⟩⟩
def i26 : TI := ⟨1, 24, .slice none 0 0, .sl 9, (.sl .str)⟩
theorem j26 : TIok Tryz.prog 26 i26 := ⟨by kernel_rfl, by kernel_rfl, by kernel_rfl, by kernel_rfl, ⟨by kernel_rfl, by kernel_rfl⟩⟩
def i27 : TI := ⟨1, 24, .slice none 0 0, .sl 142, (.sl y142)⟩
theorem j27 : TIok Tryz.prog 27 i27 := ⟨by kernel_rfl, by kernel_rfl, by kernel_rfl, by kernel_rfl, ⟨by kernel_rfl, by kernel_rfl⟩⟩
def i28 : TI := ⟨3, 72, .agg #[.slice none 0 0, .slice none 0 0, .slice none 0 0], .agg [(0, 1), (1, 1), (2, 1)] false [false, false, false], y28⟩
theorem j28 : TIok Tryz.prog 28 i28 := ⟨by kernel_rfl, by kernel_rfl, by kernel_rfl, by kernel_rfl, ⟨by kernel_rfl, by kernel_rfl, by kernel_rfl, ⟨by kernel_rfl, by kernel_rfl, by kernel_rfl, trivial⟩, (fun h => by cases h), by kernel_rfl⟩⟩
def i29 : TI := ⟨3, 72, .agg #[.slice none 0 0, .slice none 0 0, .slice none 0 0], .agg [(0, 1), (1, 1), (2, 1)] false [false, false, false], y29⟩
theorem j29 : TIok Tryz.prog 29 i29 := ⟨by kernel_rfl, by kernel_rfl, by kernel_rfl, by kernel_rfl, ⟨by kernel_rfl, by kernel_rfl, by kernel_rfl, ⟨by kernel_rfl, by kernel_rfl, by kernel_rfl, trivial⟩, (fun h => by cases h), by kernel_rfl⟩⟩
def i30 : TI := ⟨1, 24, .slice none 0 0, .sl 35, (.sl y35)⟩
theorem j30 : TIok Tryz.prog 30 i30 := ⟨by kernel_rfl, by kernel_rfl, by kernel_rfl, by kernel_rfl, ⟨by kernel_rfl, by kernel_rfl⟩⟩
def i31 : TI := ⟨5, 120, .agg #[.slice none 0 0, .slice none 0 0, .slice none 0 0, .slice none 0 0, .slice none 0 0], .agg [(0, 1), (1, 3), (4, 1)] false [true, true, false], y31⟩
theorem j31 : TIok Tryz.prog 31 i31 := ⟨by kernel_rfl, by kernel_rfl, by kernel_rfl, by kernel_rfl, ⟨by kernel_rfl, by kernel_rfl, by kernel_rfl, ⟨by kernel_rfl, by kernel_rfl, by kernel_rfl, trivial⟩, (fun h => by cases h), by kernel_rfl⟩⟩
def i32 : TI := ⟨5, 120, .agg #[.slice none 0 0, .slice none 0 0, .slice none 0 0, .slice none 0 0, .slice none 0 0], .agg [(0, 1), (1, 3), (4, 1)] false [true, true, false], y32⟩
theorem j32 : TIok Tryz.prog 32 i32 := ⟨by kernel_rfl, by kernel_rfl, by kernel_rfl, by kernel_rfl, ⟨by kernel_rfl, by kernel_rfl, by kernel_rfl, ⟨by kernel_rfl, by kernel_rfl, by kernel_rfl, trivial⟩, (fun h => by cases h), by kernel_rfl⟩⟩
def i33 : TI := ⟨1, 24, .slice none 0 0, .sl 2, (.sl (.int .i64))⟩
theorem j33 : TIok Tryz.prog 33 i33 := ⟨by kernel_rfl, by kernel_rfl, by kernel_rfl, by kernel_rfl, ⟨by kernel_rfl, by kernel_rfl⟩⟩
def i34 : TI := ⟨4, 96, .agg #[.slice none 0 0, .slice none 0 0, .slice none 0 0, .slice none 0 0], .agg [(0, 1), (1, 1), (2, 1), (3, 1)] false [false, false, false, false], y34⟩
theorem j34 : TIok Tryz.prog 34 i34 := ⟨by kernel_rfl, by kernel_rfl, by kernel_rfl, by kernel_rfl, ⟨by kernel_rfl, by kernel_rfl, by kernel_rfl, ⟨by kernel_rfl, by kernel_rfl, by kernel_rfl, by kernel_rfl, trivial⟩, (fun h => by cases h), by kernel_rfl⟩⟩
def i35 : TI := ⟨4, 96, .agg #[.slice none 0 0, .slice none 0 0, .slice none 0 0, .slice none 0 0], .agg [(0, 1), (1, 1), (2, 1), (3, 1)] false [false, false, false, false], y35⟩
theorem j35 : TIok Tryz.prog 35 i35 := ⟨by kernel_rfl, by kernel_rfl, by kernel_rfl, by kernel_rfl, ⟨by kernel_rfl, by kernel_rfl, by kernel_rfl, ⟨by kernel_rfl, by kernel_rfl, by kernel_rfl, by kernel_rfl, trivial⟩, (fun h => by cases h), by kernel_rfl⟩⟩
def i36 : TI := ⟨10, 152, .agg #[.int .i64 0, .int .i64 0, .int .i64 0, .int .i64 0, .int .i64 0, .string ⟨#[]⟩, .slice none 0 0, .slice none 0 0, .slice none 0 0, .slice none 0 0], .agg [(0, 1), (1, 1), (2, 1), (3, 1), (4, 1), (5, 1), (6, 4)] false [false, false, false, false, false, false, true], y36⟩
theorem j36 : TIok Tryz.prog 36 i36 := ⟨by kernel_rfl, by kernel_rfl, by kernel_rfl, by kernel_rfl, ⟨by kernel_rfl, by kernel_rfl, by kernel_rfl, ⟨by kernel_rfl, by kernel_rfl, by kernel_rfl, by kernel_rfl, by kernel_rfl, by kernel_rfl, by kernel_rfl, trivial⟩, (fun h => by cases h), by kernel_rfl⟩⟩
def i37 : TI := ⟨10, 152, .agg #[.int .i64 0, .int .i64 0, .int .i64 0, .int .i64 0, .int .i64 0, .string ⟨#[]⟩, .slice none 0 0, .slice none 0 0, .slice none 0 0, .slice none 0 0], .agg [(0, 1), (1, 1), (2, 1), (3, 1), (4, 1), (5, 1), (6, 4)] false [false, false, false, false, false, false, true], y37⟩
theorem j37 : TIok Tryz.prog 37 i37 := ⟨by kernel_rfl, by kernel_rfl, by kernel_rfl, by kernel_rfl, ⟨by kernel_rfl, by kernel_rfl, by kernel_rfl, ⟨by kernel_rfl, by kernel_rfl, by kernel_rfl, by kernel_rfl, by kernel_rfl, by kernel_rfl, by kernel_rfl, trivial⟩, (fun h => by cases h), by kernel_rfl⟩⟩
def i41 : TI := ⟨1, 24, .slice none 0 0, .sl 107, (.sl y107)⟩
theorem j41 : TIok Tryz.prog 41 i41 := ⟨by kernel_rfl, by kernel_rfl, by kernel_rfl, by kernel_rfl, ⟨by kernel_rfl, by kernel_rfl⟩⟩
def i42 : TI := ⟨1, 24, .agg #[.slice none 0 0], .agg [(0, 1)] false [false], ((.sl y107))⟩
theorem j42 : TIok Tryz.prog 42 i42 := ⟨by kernel_rfl, by kernel_rfl, by kernel_rfl, by kernel_rfl, ⟨by kernel_rfl, by kernel_rfl, by kernel_rfl, ⟨by kernel_rfl, trivial⟩, (fun h => by cases h), by kernel_rfl⟩⟩
def i43 : TI := ⟨1, 24, .agg #[.slice none 0 0], .agg [(0, 1)] false [false], ((.sl y107))⟩
theorem j43 : TIok Tryz.prog 43 i43 := ⟨by kernel_rfl, by kernel_rfl, by kernel_rfl, by kernel_rfl, ⟨by kernel_rfl, by kernel_rfl, by kernel_rfl, ⟨by kernel_rfl, trivial⟩, (fun h => by cases h), by kernel_rfl⟩⟩
def i44 : TI := ⟨1, 24, .slice none 0 0, .sl 109, (.sl y109)⟩
theorem j44 : TIok Tryz.prog 44 i44 := ⟨by kernel_rfl, by kernel_rfl, by kernel_rfl, by kernel_rfl, ⟨by kernel_rfl, by kernel_rfl⟩⟩
def i45 : TI := ⟨1, 24, .slice none 0 0, .sl 144, (.sl y144)⟩
theorem j45 : TIok Tryz.prog 45 i45 := ⟨by kernel_rfl, by kernel_rfl, by kernel_rfl, by kernel_rfl, ⟨by kernel_rfl, by kernel_rfl⟩⟩
def i46 : TI := ⟨3, 72, .agg #[.slice none 0 0, .slice none 0 0, .slice none 0 0], .agg [(0, 1), (1, 1), (2, 1)] false [false, false, false], y46⟩
theorem j46 : TIok Tryz.prog 46 i46 := ⟨by kernel_rfl, by kernel_rfl, by kernel_rfl, by kernel_rfl, ⟨by kernel_rfl, by kernel_rfl, by kernel_rfl, ⟨by kernel_rfl, by kernel_rfl, by kernel_rfl, trivial⟩, (fun h => by cases h), by kernel_rfl⟩⟩
def i47 : TI := ⟨3, 72, .agg #[.slice none 0 0, .slice none 0 0, .slice none 0 0], .agg [(0, 1), (1, 1), (2, 1)] false [false, false, false], y47⟩
theorem j47 : TIok Tryz.prog 47 i47 := ⟨by kernel_rfl, by kernel_rfl, by kernel_rfl, by kernel_rfl, ⟨by kernel_rfl, by kernel_rfl, by kernel_rfl, ⟨by kernel_rfl, by kernel_rfl, by kernel_rfl, trivial⟩, (fun h => by cases h), by kernel_rfl⟩⟩
def i48 : TI := ⟨1, 24, .slice none 0 0, .sl 52, (.sl y52)⟩
theorem j48 : TIok Tryz.prog 48 i48 := ⟨by kernel_rfl, by kernel_rfl, by kernel_rfl, by kernel_rfl, ⟨by kernel_rfl, by kernel_rfl⟩⟩
def i49 : TI := ⟨5, 120, .agg #[.slice none 0 0, .slice none 0 0, .slice none 0 0, .slice none 0 0, .slice none 0 0], .agg [(0, 1), (1, 3), (4, 1)] false [true, true, false], y49⟩
theorem j49 : TIok Tryz.prog 49 i49 := ⟨by kernel_rfl, by kernel_rfl, by kernel_rfl, by kernel_rfl, ⟨by kernel_rfl, by kernel_rfl, by kernel_rfl, ⟨by kernel_rfl, by kernel_rfl, by kernel_rfl, trivial⟩, (fun h => by cases h), by kernel_rfl⟩⟩
def i50 : TI := ⟨5, 120, .agg #[.slice none 0 0, .slice none 0 0, .slice none 0 0, .slice none 0 0, .slice none 0 0], .agg [(0, 1), (1, 3), (4, 1)] false [true, true, false], y50⟩
theorem j50 : TIok Tryz.prog 50 i50 := ⟨by kernel_rfl, by kernel_rfl, by kernel_rfl, by kernel_rfl, ⟨by kernel_rfl, by kernel_rfl, by kernel_rfl, ⟨by kernel_rfl, by kernel_rfl, by kernel_rfl, trivial⟩, (fun h => by cases h), by kernel_rfl⟩⟩
def i52 : TI := ⟨4, 96, .agg #[.slice none 0 0, .slice none 0 0, .slice none 0 0, .slice none 0 0], .agg [(0, 1), (1, 1), (2, 1), (3, 1)] false [false, false, false, false], y52⟩
theorem j52 : TIok Tryz.prog 52 i52 := ⟨by kernel_rfl, by kernel_rfl, by kernel_rfl, by kernel_rfl, ⟨by kernel_rfl, by kernel_rfl, by kernel_rfl, ⟨by kernel_rfl, by kernel_rfl, by kernel_rfl, by kernel_rfl, trivial⟩, (fun h => by cases h), by kernel_rfl⟩⟩
def i53 : TI := ⟨10, 152, .agg #[.int .i64 0, .int .i64 0, .int .i64 0, .int .i64 0, .int .i64 0, .string ⟨#[]⟩, .slice none 0 0, .slice none 0 0, .slice none 0 0, .slice none 0 0], .agg [(0, 1), (1, 1), (2, 1), (3, 1), (4, 1), (5, 1), (6, 4)] false [false, false, false, false, false, false, true], y53⟩
theorem j53 : TIok Tryz.prog 53 i53 := ⟨by kernel_rfl, by kernel_rfl, by kernel_rfl, by kernel_rfl, ⟨by kernel_rfl, by kernel_rfl, by kernel_rfl, ⟨by kernel_rfl, by kernel_rfl, by kernel_rfl, by kernel_rfl, by kernel_rfl, by kernel_rfl, by kernel_rfl, trivial⟩, (fun h => by cases h), by kernel_rfl⟩⟩
def i54 : TI := ⟨10, 152, .agg #[.int .i64 0, .int .i64 0, .int .i64 0, .int .i64 0, .int .i64 0, .string ⟨#[]⟩, .slice none 0 0, .slice none 0 0, .slice none 0 0, .slice none 0 0], .agg [(0, 1), (1, 1), (2, 1), (3, 1), (4, 1), (5, 1), (6, 4)] false [false, false, false, false, false, false, true], y54⟩
theorem j54 : TIok Tryz.prog 54 i54 := ⟨by kernel_rfl, by kernel_rfl, by kernel_rfl, by kernel_rfl, ⟨by kernel_rfl, by kernel_rfl, by kernel_rfl, ⟨by kernel_rfl, by kernel_rfl, by kernel_rfl, by kernel_rfl, by kernel_rfl, by kernel_rfl, by kernel_rfl, trivial⟩, (fun h => by cases h), by kernel_rfl⟩⟩
def i98 : TI := ⟨1, 24, .slice none 0 0, .sl 102, (.sl y102)⟩
theorem j98 : TIok Tryz.prog 98 i98 := ⟨by kernel_rfl, by kernel_rfl, by kernel_rfl, by kernel_rfl, ⟨by kernel_rfl, by kernel_rfl⟩⟩
def i101 : TI := ⟨4, 32, .agg #[.int .i64 0, .int .i64 0, .int .i64 0, .bool false], .agg [(0, 1), (1, 1), (2, 1), (3, 1)] false [false, false, false, false], y101⟩
theorem j101 : TIok Tryz.prog 101 i101 := ⟨by kernel_rfl, by kernel_rfl, by kernel_rfl, by kernel_rfl, ⟨by kernel_rfl, by kernel_rfl, by kernel_rfl, ⟨by kernel_rfl, by kernel_rfl, by kernel_rfl, by kernel_rfl, trivial⟩, (fun h => by cases h), by kernel_rfl⟩⟩
def i102 : TI := ⟨4, 32, .agg #[.int .i64 0, .int .i64 0, .int .i64 0, .bool false], .agg [(0, 1), (1, 1), (2, 1), (3, 1)] false [false, false, false, false], y102⟩
theorem j102 : TIok Tryz.prog 102 i102 := ⟨by kernel_rfl, by kernel_rfl, by kernel_rfl, by kernel_rfl, ⟨by kernel_rfl, by kernel_rfl, by kernel_rfl, ⟨by kernel_rfl, by kernel_rfl, by kernel_rfl, by kernel_rfl, trivial⟩, (fun h => by cases h), by kernel_rfl⟩⟩
def i104 : TI := ⟨1, 24, .slice none 0 0, .sl 147, (.sl y147)⟩
theorem j104 : TIok Tryz.prog 104 i104 := ⟨by kernel_rfl, by kernel_rfl, by kernel_rfl, by kernel_rfl, ⟨by kernel_rfl, by kernel_rfl⟩⟩
def i105 : TI := ⟨1, 24, .slice none 0 0, .sl 195, (.sl y195)⟩
theorem j105 : TIok Tryz.prog 105 i105 := ⟨by kernel_rfl, by kernel_rfl, by kernel_rfl, by kernel_rfl, ⟨by kernel_rfl, by kernel_rfl⟩⟩
def i106 : TI := ⟨7, 112, .agg #[.string ⟨#[]⟩, .int .i64 0, .slice none 0 0, .slice none 0 0, .slice none 0 0, .int .i64 0, .int .i64 0], .agg [(0, 1), (1, 1), (2, 1), (3, 1), (4, 1), (5, 1), (6, 1)] false [false, false, false, false, false, false, false], y106⟩
theorem j106 : TIok Tryz.prog 106 i106 := ⟨by kernel_rfl, by kernel_rfl, by kernel_rfl, by kernel_rfl, ⟨by kernel_rfl, by kernel_rfl, by kernel_rfl, ⟨by kernel_rfl, by kernel_rfl, by kernel_rfl, by kernel_rfl, by kernel_rfl, by kernel_rfl, by kernel_rfl, trivial⟩, (fun h => by cases h), by kernel_rfl⟩⟩
def i107 : TI := ⟨7, 112, .agg #[.string ⟨#[]⟩, .int .i64 0, .slice none 0 0, .slice none 0 0, .slice none 0 0, .int .i64 0, .int .i64 0], .agg [(0, 1), (1, 1), (2, 1), (3, 1), (4, 1), (5, 1), (6, 1)] false [false, false, false, false, false, false, false], y107⟩
theorem j107 : TIok Tryz.prog 107 i107 := ⟨by kernel_rfl, by kernel_rfl, by kernel_rfl, by kernel_rfl, ⟨by kernel_rfl, by kernel_rfl, by kernel_rfl, ⟨by kernel_rfl, by kernel_rfl, by kernel_rfl, by kernel_rfl, by kernel_rfl, by kernel_rfl, by kernel_rfl, trivial⟩, (fun h => by cases h), by kernel_rfl⟩⟩
def i108 : TI := ⟨3, 48, .agg #[.string ⟨#[]⟩, .int .i64 0, .slice none 0 0], .agg [(0, 1), (1, 1), (2, 1)] false [false, false, false], y108⟩
theorem j108 : TIok Tryz.prog 108 i108 := ⟨by kernel_rfl, by kernel_rfl, by kernel_rfl, by kernel_rfl, ⟨by kernel_rfl, by kernel_rfl, by kernel_rfl, ⟨by kernel_rfl, by kernel_rfl, by kernel_rfl, trivial⟩, (fun h => by cases h), by kernel_rfl⟩⟩
def i109 : TI := ⟨3, 48, .agg #[.string ⟨#[]⟩, .int .i64 0, .slice none 0 0], .agg [(0, 1), (1, 1), (2, 1)] false [false, false, false], y109⟩
theorem j109 : TIok Tryz.prog 109 i109 := ⟨by kernel_rfl, by kernel_rfl, by kernel_rfl, by kernel_rfl, ⟨by kernel_rfl, by kernel_rfl, by kernel_rfl, ⟨by kernel_rfl, by kernel_rfl, by kernel_rfl, trivial⟩, (fun h => by cases h), by kernel_rfl⟩⟩
def i118 : TI := ⟨1, 24, .slice none 0 0, .sl 121, (.sl y121)⟩
theorem j118 : TIok Tryz.prog 118 i118 := ⟨by kernel_rfl, by kernel_rfl, by kernel_rfl, by kernel_rfl, ⟨by kernel_rfl, by kernel_rfl⟩⟩
def i120 : TI := ⟨4, 32, .agg #[.int .i64 0, .int .i64 0, .int .i64 0, .bool false], .agg [(0, 1), (1, 1), (2, 1), (3, 1)] false [false, false, false, false], y120⟩
theorem j120 : TIok Tryz.prog 120 i120 := ⟨by kernel_rfl, by kernel_rfl, by kernel_rfl, by kernel_rfl, ⟨by kernel_rfl, by kernel_rfl, by kernel_rfl, ⟨by kernel_rfl, by kernel_rfl, by kernel_rfl, by kernel_rfl, trivial⟩, (fun h => by cases h), by kernel_rfl⟩⟩
def i121 : TI := ⟨4, 32, .agg #[.int .i64 0, .int .i64 0, .int .i64 0, .bool false], .agg [(0, 1), (1, 1), (2, 1), (3, 1)] false [false, false, false, false], y121⟩
theorem j121 : TIok Tryz.prog 121 i121 := ⟨by kernel_rfl, by kernel_rfl, by kernel_rfl, by kernel_rfl, ⟨by kernel_rfl, by kernel_rfl, by kernel_rfl, ⟨by kernel_rfl, by kernel_rfl, by kernel_rfl, by kernel_rfl, trivial⟩, (fun h => by cases h), by kernel_rfl⟩⟩
def i134 : TI := ⟨1, 24, .slice none 0 0, .sl 208, (.sl y208)⟩
theorem j134 : TIok Tryz.prog 134 i134 := ⟨by kernel_rfl, by kernel_rfl, by kernel_rfl, by kernel_rfl, ⟨by kernel_rfl, by kernel_rfl⟩⟩
def i135 : TI := ⟨1, 24, .slice none 0 0, .sl 212, (.sl y212)⟩
theorem j135 : TIok Tryz.prog 135 i135 := ⟨by kernel_rfl, by kernel_rfl, by kernel_rfl, by kernel_rfl, ⟨by kernel_rfl, by kernel_rfl⟩⟩
def i136 : TI := ⟨7, 112, .agg #[.string ⟨#[]⟩, .int .i64 0, .slice none 0 0, .slice none 0 0, .slice none 0 0, .int .i64 0, .int .i64 0], .agg [(0, 1), (1, 1), (2, 1), (3, 1), (4, 1), (5, 1), (6, 1)] false [false, false, false, false, false, false, false], y136⟩
theorem j136 : TIok Tryz.prog 136 i136 := ⟨by kernel_rfl, by kernel_rfl, by kernel_rfl, by kernel_rfl, ⟨by kernel_rfl, by kernel_rfl, by kernel_rfl, ⟨by kernel_rfl, by kernel_rfl, by kernel_rfl, by kernel_rfl, by kernel_rfl, by kernel_rfl, by kernel_rfl, trivial⟩, (fun h => by cases h), by kernel_rfl⟩⟩
def i137 : TI := ⟨7, 112, .agg #[.string ⟨#[]⟩, .int .i64 0, .slice none 0 0, .slice none 0 0, .slice none 0 0, .int .i64 0, .int .i64 0], .agg [(0, 1), (1, 1), (2, 1), (3, 1), (4, 1), (5, 1), (6, 1)] false [false, false, false, false, false, false, false], y137⟩
theorem j137 : TIok Tryz.prog 137 i137 := ⟨by kernel_rfl, by kernel_rfl, by kernel_rfl, by kernel_rfl, ⟨by kernel_rfl, by kernel_rfl, by kernel_rfl, ⟨by kernel_rfl, by kernel_rfl, by kernel_rfl, by kernel_rfl, by kernel_rfl, by kernel_rfl, by kernel_rfl, trivial⟩, (fun h => by cases h), by kernel_rfl⟩⟩
def i139 : TI := ⟨3, 48, .agg #[.string ⟨#[]⟩, .int .i64 0, .slice none 0 0], .agg [(0, 1), (1, 1), (2, 1)] false [false, false, false], y139⟩
theorem j139 : TIok Tryz.prog 139 i139 := ⟨by kernel_rfl, by kernel_rfl, by kernel_rfl, by kernel_rfl, ⟨by kernel_rfl, by kernel_rfl, by kernel_rfl, ⟨by kernel_rfl, by kernel_rfl, by kernel_rfl, trivial⟩, (fun h => by cases h), by kernel_rfl⟩⟩
def i141 : TI := ⟨3, 32, .agg #[.string ⟨#[]⟩, .int .i64 0, .int .i64 0], .agg [(0, 1), (1, 1), (2, 1)] false [false, false, false], y141⟩
theorem j141 : TIok Tryz.prog 141 i141 := ⟨by kernel_rfl, by kernel_rfl, by kernel_rfl, by kernel_rfl, ⟨by kernel_rfl, by kernel_rfl, by kernel_rfl, ⟨by kernel_rfl, by kernel_rfl, by kernel_rfl, trivial⟩, (fun h => by cases h), by kernel_rfl⟩⟩
def i142 : TI := ⟨3, 32, .agg #[.string ⟨#[]⟩, .int .i64 0, .int .i64 0], .agg [(0, 1), (1, 1), (2, 1)] false [false, false, false], y142⟩
theorem j142 : TIok Tryz.prog 142 i142 := ⟨by kernel_rfl, by kernel_rfl, by kernel_rfl, by kernel_rfl, ⟨by kernel_rfl, by kernel_rfl, by kernel_rfl, ⟨by kernel_rfl, by kernel_rfl, by kernel_rfl, trivial⟩, (fun h => by cases h), by kernel_rfl⟩⟩
def i144 : TI := ⟨3, 32, .agg #[.string ⟨#[]⟩, .int .i64 0, .int .i64 0], .agg [(0, 1), (1, 1), (2, 1)] false [false, false, false], y144⟩
theorem j144 : TIok Tryz.prog 144 i144 := ⟨by kernel_rfl, by kernel_rfl, by kernel_rfl, by kernel_rfl, ⟨by kernel_rfl, by kernel_rfl, by kernel_rfl, ⟨by kernel_rfl, by kernel_rfl, by kernel_rfl, trivial⟩, (fun h => by cases h), by kernel_rfl⟩⟩
def i146 : TI := ⟨4, 40, .agg #[.string ⟨#[]⟩, .int .i64 0, .int .i64 0, .bool false], .agg [(0, 1), (1, 1), (2, 1), (3, 1)] false [false, false, false, false], y146⟩
theorem j146 : TIok Tryz.prog 146 i146 := ⟨by kernel_rfl, by kernel_rfl, by kernel_rfl, by kernel_rfl, ⟨by kernel_rfl, by kernel_rfl, by kernel_rfl, ⟨by kernel_rfl, by kernel_rfl, by kernel_rfl, by kernel_rfl, trivial⟩, (fun h => by cases h), by kernel_rfl⟩⟩
def i147 : TI := ⟨4, 40, .agg #[.string ⟨#[]⟩, .int .i64 0, .int .i64 0, .bool false], .agg [(0, 1), (1, 1), (2, 1), (3, 1)] false [false, false, false, false], y147⟩
theorem j147 : TIok Tryz.prog 147 i147 := ⟨by kernel_rfl, by kernel_rfl, by kernel_rfl, by kernel_rfl, ⟨by kernel_rfl, by kernel_rfl, by kernel_rfl, ⟨by kernel_rfl, by kernel_rfl, by kernel_rfl, by kernel_rfl, trivial⟩, (fun h => by cases h), by kernel_rfl⟩⟩
def i154 : TI := ⟨1, 24, .slice none 0 0, .sl 3, (.sl (.int .i64))⟩
theorem j154 : TIok Tryz.prog 154 i154 := ⟨by kernel_rfl, by kernel_rfl, by kernel_rfl, by kernel_rfl, ⟨by kernel_rfl, by kernel_rfl⟩⟩
def i192 : TI := ⟨1, 24, .slice none 0 0, .sl 5, (.sl (.int .u8))⟩
theorem j192 : TIok Tryz.prog 192 i192 := ⟨by kernel_rfl, by kernel_rfl, by kernel_rfl, by kernel_rfl, ⟨by kernel_rfl, by kernel_rfl⟩⟩
def i193 : TI := ⟨1, 24, .slice none 0 0, .sl 232, (.sl y232)⟩
theorem j193 : TIok Tryz.prog 193 i193 := ⟨by kernel_rfl, by kernel_rfl, by kernel_rfl, by kernel_rfl, ⟨by kernel_rfl, by kernel_rfl⟩⟩
def i194 : TI := ⟨6, 80, .agg #[.int .i64 0, .int .i64 0, .int .i64 0, .int .i64 0, .slice none 0 0, .slice none 0 0], .agg [(0, 1), (1, 1), (2, 1), (3, 1), (4, 1), (5, 1)] false [false, false, false, false, false, false], y194⟩
theorem j194 : TIok Tryz.prog 194 i194 := ⟨by kernel_rfl, by kernel_rfl, by kernel_rfl, by kernel_rfl, ⟨by kernel_rfl, by kernel_rfl, by kernel_rfl, ⟨by kernel_rfl, by kernel_rfl, by kernel_rfl, by kernel_rfl, by kernel_rfl, by kernel_rfl, trivial⟩, (fun h => by cases h), by kernel_rfl⟩⟩
def i195 : TI := ⟨6, 80, .agg #[.int .i64 0, .int .i64 0, .int .i64 0, .int .i64 0, .slice none 0 0, .slice none 0 0], .agg [(0, 1), (1, 1), (2, 1), (3, 1), (4, 1), (5, 1)] false [false, false, false, false, false, false], y195⟩
theorem j195 : TIok Tryz.prog 195 i195 := ⟨by kernel_rfl, by kernel_rfl, by kernel_rfl, by kernel_rfl, ⟨by kernel_rfl, by kernel_rfl, by kernel_rfl, ⟨by kernel_rfl, by kernel_rfl, by kernel_rfl, by kernel_rfl, by kernel_rfl, by kernel_rfl, trivial⟩, (fun h => by cases h), by kernel_rfl⟩⟩
def i198 : TI := ⟨1, 8, .pointer none, .oth, .bool⟩
theorem j198 : TIok Tryz.prog 198 i198 := ⟨by kernel_rfl, by kernel_rfl, by kernel_rfl, by kernel_rfl, (show notAggB Tryz.prog 198 = true by kernel_rfl)⟩
def i199 : TI := ⟨2, 32, .agg #[.pointer none, .slice none 0 0], .agg [(0, 1), (1, 1)] false [false, false], .bool⟩
theorem j199 : TIok Tryz.prog 199 i199 := ⟨by kernel_rfl, by kernel_rfl, by kernel_rfl, by kernel_rfl, ⟨by kernel_rfl, by kernel_rfl, by kernel_rfl, ⟨by kernel_rfl, by kernel_rfl, trivial⟩, (fun h => by cases h), by kernel_rfl⟩⟩
def i200 : TI := ⟨2, 32, .agg #[.pointer none, .slice none 0 0], .agg [(0, 1), (1, 1)] false [false, false], .bool⟩
theorem j200 : TIok Tryz.prog 200 i200 := ⟨by kernel_rfl, by kernel_rfl, by kernel_rfl, by kernel_rfl, ⟨by kernel_rfl, by kernel_rfl, by kernel_rfl, ⟨by kernel_rfl, by kernel_rfl, trivial⟩, (fun h => by cases h), by kernel_rfl⟩⟩
def i203 : TI := ⟨1, 16, .nilIface, .oth, .bool⟩
theorem j203 : TIok Tryz.prog 203 i203 := ⟨by kernel_rfl, by kernel_rfl, by kernel_rfl, by kernel_rfl, (show notAggB Tryz.prog 203 = true by kernel_rfl)⟩
def i208 : TI := ⟨4, 40, .agg #[.string ⟨#[]⟩, .int .i64 0, .int .i64 0, .bool false], .agg [(0, 1), (1, 1), (2, 1), (3, 1)] false [false, false, false, false], y208⟩
theorem j208 : TIok Tryz.prog 208 i208 := ⟨by kernel_rfl, by kernel_rfl, by kernel_rfl, by kernel_rfl, ⟨by kernel_rfl, by kernel_rfl, by kernel_rfl, ⟨by kernel_rfl, by kernel_rfl, by kernel_rfl, by kernel_rfl, trivial⟩, (fun h => by cases h), by kernel_rfl⟩⟩
def i210 : TI := ⟨1, 24, .slice none 0 0, .sl 251, (.sl y251)⟩
theorem j210 : TIok Tryz.prog 210 i210 := ⟨by kernel_rfl, by kernel_rfl, by kernel_rfl, by kernel_rfl, ⟨by kernel_rfl, by kernel_rfl⟩⟩
def i211 : TI := ⟨6, 80, .agg #[.int .i64 0, .int .i64 0, .int .i64 0, .int .i64 0, .slice none 0 0, .slice none 0 0], .agg [(0, 1), (1, 1), (2, 1), (3, 1), (4, 1), (5, 1)] false [false, false, false, false, false, false], y211⟩
theorem j211 : TIok Tryz.prog 211 i211 := ⟨by kernel_rfl, by kernel_rfl, by kernel_rfl, by kernel_rfl, ⟨by kernel_rfl, by kernel_rfl, by kernel_rfl, ⟨by kernel_rfl, by kernel_rfl, by kernel_rfl, by kernel_rfl, by kernel_rfl, by kernel_rfl, trivial⟩, (fun h => by cases h), by kernel_rfl⟩⟩
def i212 : TI := ⟨6, 80, .agg #[.int .i64 0, .int .i64 0, .int .i64 0, .int .i64 0, .slice none 0 0, .slice none 0 0], .agg [(0, 1), (1, 1), (2, 1), (3, 1), (4, 1), (5, 1)] false [false, false, false, false, false, false], y212⟩
theorem j212 : TIok Tryz.prog 212 i212 := ⟨by kernel_rfl, by kernel_rfl, by kernel_rfl, by kernel_rfl, ⟨by kernel_rfl, by kernel_rfl, by kernel_rfl, ⟨by kernel_rfl, by kernel_rfl, by kernel_rfl, by kernel_rfl, by kernel_rfl, by kernel_rfl, trivial⟩, (fun h => by cases h), by kernel_rfl⟩⟩
def i217 : TI := ⟨1, 8, .int .u64 0, .int .u64, (.int .u64)⟩
theorem j217 : TIok Tryz.prog 217 i217 := ⟨by kernel_rfl, by kernel_rfl, by kernel_rfl, by kernel_rfl, ⟨by kernel_rfl, by kernel_rfl⟩⟩
def i224 : TI := ⟨256, 256, .agg #[.bool false, .bool false, .bool false, .bool false, .bool false, .bool false, .bool false, .bool false, .bool false, .bool false, .bool false, .bool false, .bool false, .bool false, .bool false, .bool false, .bool false, .bool false, .bool false, .bool false, .bool false, .bool false, .bool false, .bool false, .bool false, .bool false, .bool false, .bool false, .bool false, .bool false, .bool false, .bool false, .bool false, .bool false, .bool false, .bool false, .bool false, .bool false, .bool false, .bool false, .bool false, .bool false, .bool false, .bool false, .bool false, .bool false, .bool false, .bool false, .bool false, .bool false, .bool false, .bool false, .bool false, .bool false, .bool false, .bool false, .bool false, .bool false, .bool false, .bool false, .bool false, .bool false, .bool false, .bool false, .bool false, .bool false, .bool false, .bool false, .bool false, .bool false, .bool false, .bool false, .bool false, .bool false, .bool false, .bool false, .bool false, .bool false, .bool false, .bool false, .bool false, .bool false, .bool false, .bool false, .bool false, .bool false, .bool false, .bool false, .bool false, .bool false, .bool false, .bool false, .bool false, .bool false, .bool false, .bool false, .bool false, .bool false, .bool false, .bool false, .bool false, .bool false, .bool false, .bool false, .bool false, .bool false, .bool false, .bool false, .bool false, .bool false, .bool false, .bool false, .bool false, .bool false, .bool false, .bool false, .bool false, .bool false, .bool false, .bool false, .bool false, .bool false, .bool false, .bool false, .bool false, .bool false, .bool false, .bool false, .bool false, .bool false, .bool false, .bool false, .bool false, .bool false, .bool false, .bool false, .bool false, .bool false, .bool false, .bool false, .bool false, .bool false, .bool false, .bool false, .bool false, .bool false, .bool false, .bool false, .bool false, .bool false, .bool false, .bool false, .bool false, .bool false, .bool false, .bool false, .bool false, .bool false, .bool false, .bool false, .bool false, .bool false, .bool false, .bool false, .bool false, .bool false, .bool false, .bool false, .bool false, .bool false, .bool false, .bool false, .bool false, .bool false, .bool false, .bool false, .bool false, .bool false, .bool false, .bool false, .bool false, .bool false, .bool false, .bool false, .bool false, .bool false, .bool false, .bool false, .bool false, .bool false, .bool false, .bool false, .bool false, .bool false, .bool false, .bool false, .bool false, .bool false, .bool false, .bool false, .bool false, .bool false, .bool false, .bool false, .bool false, .bool false, .bool false, .bool false, .bool false, .bool false, .bool false, .bool false, .bool false, .bool false, .bool false, .bool false, .bool false, .bool false, .bool false, .bool false, .bool false, .bool false, .bool false, .bool false, .bool false, .bool false, .bool false, .bool false, .bool false, .bool false, .bool false, .bool false, .bool false, .bool false, .bool false, .bool false, .bool false, .bool false, .bool false, .bool false, .bool false, .bool false, .bool false, .bool false, .bool false, .bool false, .bool false, .bool false, .bool false, .bool false, .bool false, .bool false, .bool false, .bool false, .bool false, .bool false], .arr 256 4, .bool⟩
theorem j224 : TIok Tryz.prog 224 i224 := ⟨by kernel_rfl, by kernel_rfl, by kernel_rfl, by kernel_rfl, ⟨by kernel_rfl, by kernel_rfl⟩⟩
def i225 : TI := ⟨256, 256, .agg #[.bool false, .bool false, .bool false, .bool false, .bool false, .bool false, .bool false, .bool false, .bool false, .bool false, .bool false, .bool false, .bool false, .bool false, .bool false, .bool false, .bool false, .bool false, .bool false, .bool false, .bool false, .bool false, .bool false, .bool false, .bool false, .bool false, .bool false, .bool false, .bool false, .bool false, .bool false, .bool false, .bool false, .bool false, .bool false, .bool false, .bool false, .bool false, .bool false, .bool false, .bool false, .bool false, .bool false, .bool false, .bool false, .bool false, .bool false, .bool false, .bool false, .bool false, .bool false, .bool false, .bool false, .bool false, .bool false, .bool false, .bool false, .bool false, .bool false, .bool false, .bool false, .bool false, .bool false, .bool false, .bool false, .bool false, .bool false, .bool false, .bool false, .bool false, .bool false, .bool false, .bool false, .bool false, .bool false, .bool false, .bool false, .bool false, .bool false, .bool false, .bool false, .bool false, .bool false, .bool false, .bool false, .bool false, .bool false, .bool false, .bool false, .bool false, .bool false, .bool false, .bool false, .bool false, .bool false, .bool false, .bool false, .bool false, .bool false, .bool false, .bool false, .bool false, .bool false, .bool false, .bool false, .bool false, .bool false, .bool false, .bool false, .bool false, .bool false, .bool false, .bool false, .bool false, .bool false, .bool false, .bool false, .bool false, .bool false, .bool false, .bool false, .bool false, .bool false, .bool false, .bool false, .bool false, .bool false, .bool false, .bool false, .bool false, .bool false, .bool false, .bool false, .bool false, .bool false, .bool false, .bool false, .bool false, .bool false, .bool false, .bool false, .bool false, .bool false, .bool false, .bool false, .bool false, .bool false, .bool false, .bool false, .bool false, .bool false, .bool false, .bool false, .bool false, .bool false, .bool false, .bool false, .bool false, .bool false, .bool false, .bool false, .bool false, .bool false, .bool false, .bool false, .bool false, .bool false, .bool false, .bool false, .bool false, .bool false, .bool false, .bool false, .bool false, .bool false, .bool false, .bool false, .bool false, .bool false, .bool false, .bool false, .bool false, .bool false, .bool false, .bool false, .bool false, .bool false, .bool false, .bool false, .bool false, .bool false, .bool false, .bool false, .bool false, .bool false, .bool false, .bool false, .bool false, .bool false, .bool false, .bool false, .bool false, .bool false, .bool false, .bool false, .bool false, .bool false, .bool false, .bool false, .bool false, .bool false, .bool false, .bool false, .bool false, .bool false, .bool false, .bool false, .bool false, .bool false, .bool false, .bool false, .bool false, .bool false, .bool false, .bool false, .bool false, .bool false, .bool false, .bool false, .bool false, .bool false, .bool false, .bool false, .bool false, .bool false, .bool false, .bool false, .bool false, .bool false, .bool false, .bool false, .bool false, .bool false, .bool false, .bool false, .bool false, .bool false, .bool false, .bool false, .bool false, .bool false, .bool false, .bool false, .bool false, .bool false, .bool false], .arr 256 4, .bool⟩
theorem j225 : TIok Tryz.prog 225 i225 := ⟨by kernel_rfl, by kernel_rfl, by kernel_rfl, by kernel_rfl, ⟨by kernel_rfl, by kernel_rfl⟩⟩
def i229 : TI := ⟨1, 8, .pointer none, .oth, .bool⟩
theorem j229 : TIok Tryz.prog 229 i229 := ⟨by kernel_rfl, by kernel_rfl, by kernel_rfl, by kernel_rfl, (show notAggB Tryz.prog 229 = true by kernel_rfl)⟩
def i231 : TI := ⟨3, 72, .agg #[.slice none 0 0, .slice none 0 0, .slice none 0 0], .agg [(0, 1), (1, 1), (2, 1)] false [false, false, false], y231⟩
theorem j231 : TIok Tryz.prog 231 i231 := ⟨by kernel_rfl, by kernel_rfl, by kernel_rfl, by kernel_rfl, ⟨by kernel_rfl, by kernel_rfl, by kernel_rfl, ⟨by kernel_rfl, by kernel_rfl, by kernel_rfl, trivial⟩, (fun h => by cases h), by kernel_rfl⟩⟩
def i232 : TI := ⟨3, 72, .agg #[.slice none 0 0, .slice none 0 0, .slice none 0 0], .agg [(0, 1), (1, 1), (2, 1)] false [false, false, false], y232⟩
theorem j232 : TIok Tryz.prog 232 i232 := ⟨by kernel_rfl, by kernel_rfl, by kernel_rfl, by kernel_rfl, ⟨by kernel_rfl, by kernel_rfl, by kernel_rfl, ⟨by kernel_rfl, by kernel_rfl, by kernel_rfl, trivial⟩, (fun h => by cases h), by kernel_rfl⟩⟩
def i233 : TI := ⟨1, 8, .pointer none, .oth, (.pt (.int .u8))⟩
theorem j233 : TIok Tryz.prog 233 i233 := ⟨by kernel_rfl, by kernel_rfl, by kernel_rfl, by kernel_rfl, (show notAggB Tryz.prog 233 = true by kernel_rfl)⟩
def i251 : TI := ⟨3, 72, .agg #[.slice none 0 0, .slice none 0 0, .slice none 0 0], .agg [(0, 1), (1, 1), (2, 1)] false [false, false, false], y251⟩
theorem j251 : TIok Tryz.prog 251 i251 := ⟨by kernel_rfl, by kernel_rfl, by kernel_rfl, by kernel_rfl, ⟨by kernel_rfl, by kernel_rfl, by kernel_rfl, ⟨by kernel_rfl, by kernel_rfl, by kernel_rfl, trivial⟩, (fun h => by cases h), by kernel_rfl⟩⟩
def i252 : TI := ⟨2, 16, .agg #[.int .i64 0, .int .i64 0], .agg [(0, 1), (1, 1)] true [false, false], y252⟩
theorem j252 : TIok Tryz.prog 252 i252 := ⟨by kernel_rfl, by kernel_rfl, by kernel_rfl, by kernel_rfl, ⟨by kernel_rfl, by kernel_rfl, by kernel_rfl, ⟨by kernel_rfl, by kernel_rfl, trivial⟩, (fun _ => by kernel_rfl), by kernel_rfl⟩⟩
def i253 : TI := ⟨2, 16, .agg #[.int .i64 0, .int .i64 0], .agg [(0, 1), (1, 1)] true [false, false], y253⟩
theorem j253 : TIok Tryz.prog 253 i253 := ⟨by kernel_rfl, by kernel_rfl, by kernel_rfl, by kernel_rfl, ⟨by kernel_rfl, by kernel_rfl, by kernel_rfl, ⟨by kernel_rfl, by kernel_rfl, trivial⟩, (fun _ => by kernel_rfl), by kernel_rfl⟩⟩
def i260 : TI := ⟨24, 24, .agg #[.int .u8 0, .int .u8 0, .int .u8 0, .int .u8 0, .int .u8 0, .int .u8 0, .int .u8 0, .int .u8 0, .int .u8 0, .int .u8 0, .int .u8 0, .int .u8 0, .int .u8 0, .int .u8 0, .int .u8 0, .int .u8 0, .int .u8 0, .int .u8 0, .int .u8 0, .int .u8 0, .int .u8 0, .int .u8 0, .int .u8 0, .int .u8 0], .arr 24 5, .bool⟩
theorem j260 : TIok Tryz.prog 260 i260 := ⟨by kernel_rfl, by kernel_rfl, by kernel_rfl, by kernel_rfl, ⟨by kernel_rfl, by kernel_rfl⟩⟩
def i261 : TI := ⟨1, 8, .int .u64 0, .int .u64, (.int .u64)⟩
theorem j261 : TIok Tryz.prog 261 i261 := ⟨by kernel_rfl, by kernel_rfl, by kernel_rfl, by kernel_rfl, ⟨by kernel_rfl, by kernel_rfl⟩⟩
def i270 : TI := ⟨256, 256, .agg #[.int .u8 0, .int .u8 0, .int .u8 0, .int .u8 0, .int .u8 0, .int .u8 0, .int .u8 0, .int .u8 0, .int .u8 0, .int .u8 0, .int .u8 0, .int .u8 0, .int .u8 0, .int .u8 0, .int .u8 0, .int .u8 0, .int .u8 0, .int .u8 0, .int .u8 0, .int .u8 0, .int .u8 0, .int .u8 0, .int .u8 0, .int .u8 0, .int .u8 0, .int .u8 0, .int .u8 0, .int .u8 0, .int .u8 0, .int .u8 0, .int .u8 0, .int .u8 0, .int .u8 0, .int .u8 0, .int .u8 0, .int .u8 0, .int .u8 0, .int .u8 0, .int .u8 0, .int .u8 0, .int .u8 0, .int .u8 0, .int .u8 0, .int .u8 0, .int .u8 0, .int .u8 0, .int .u8 0, .int .u8 0, .int .u8 0, .int .u8 0, .int .u8 0, .int .u8 0, .int .u8 0, .int .u8 0, .int .u8 0, .int .u8 0, .int .u8 0, .int .u8 0, .int .u8 0, .int .u8 0, .int .u8 0, .int .u8 0, .int .u8 0, .int .u8 0, .int .u8 0, .int .u8 0, .int .u8 0, .int .u8 0, .int .u8 0, .int .u8 0, .int .u8 0, .int .u8 0, .int .u8 0, .int .u8 0, .int .u8 0, .int .u8 0, .int .u8 0, .int .u8 0, .int .u8 0, .int .u8 0, .int .u8 0, .int .u8 0, .int .u8 0, .int .u8 0, .int .u8 0, .int .u8 0, .int .u8 0, .int .u8 0, .int .u8 0, .int .u8 0, .int .u8 0, .int .u8 0, .int .u8 0, .int .u8 0, .int .u8 0, .int .u8 0, .int .u8 0, .int .u8 0, .int .u8 0, .int .u8 0, .int .u8 0, .int .u8 0, .int .u8 0, .int .u8 0, .int .u8 0, .int .u8 0, .int .u8 0, .int .u8 0, .int .u8 0, .int .u8 0, .int .u8 0, .int .u8 0, .int .u8 0, .int .u8 0, .int .u8 0, .int .u8 0, .int .u8 0, .int .u8 0, .int .u8 0, .int .u8 0, .int .u8 0, .int .u8 0, .int .u8 0, .int .u8 0, .int .u8 0, .int .u8 0, .int .u8 0, .int .u8 0, .int .u8 0, .int .u8 0, .int .u8 0, .int .u8 0, .int .u8 0, .int .u8 0, .int .u8 0, .int .u8 0, .int .u8 0, .int .u8 0, .int .u8 0, .int .u8 0, .int .u8 0, .int .u8 0, .int .u8 0, .int .u8 0, .int .u8 0, .int .u8 0, .int .u8 0, .int .u8 0, .int .u8 0, .int .u8 0, .int .u8 0, .int .u8 0, .int .u8 0, .int .u8 0, .int .u8 0, .int .u8 0, .int .u8 0, .int .u8 0, .int .u8 0, .int .u8 0, .int .u8 0, .int .u8 0, .int .u8 0, .int .u8 0, .int .u8 0, .int .u8 0, .int .u8 0, .int .u8 0, .int .u8 0, .int .u8 0, .int .u8 0, .int .u8 0, .int .u8 0, .int .u8 0, .int .u8 0, .int .u8 0, .int .u8 0, .int .u8 0, .int .u8 0, .int .u8 0, .int .u8 0, .int .u8 0, .int .u8 0, .int .u8 0, .int .u8 0, .int .u8 0, .int .u8 0, .int .u8 0, .int .u8 0, .int .u8 0, .int .u8 0, .int .u8 0, .int .u8 0, .int .u8 0, .int .u8 0, .int .u8 0, .int .u8 0, .int .u8 0, .int .u8 0, .int .u8 0, .int .u8 0, .int .u8 0, .int .u8 0, .int .u8 0, .int .u8 0, .int .u8 0, .int .u8 0, .int .u8 0, .int .u8 0, .int .u8 0, .int .u8 0, .int .u8 0, .int .u8 0, .int .u8 0, .int .u8 0, .int .u8 0, .int .u8 0, .int .u8 0, .int .u8 0, .int .u8 0, .int .u8 0, .int .u8 0, .int .u8 0, .int .u8 0, .int .u8 0, .int .u8 0, .int .u8 0, .int .u8 0, .int .u8 0, .int .u8 0, .int .u8 0, .int .u8 0, .int .u8 0, .int .u8 0, .int .u8 0, .int .u8 0, .int .u8 0, .int .u8 0, .int .u8 0, .int .u8 0, .int .u8 0, .int .u8 0, .int .u8 0, .int .u8 0, .int .u8 0, .int .u8 0, .int .u8 0, .int .u8 0, .int .u8 0, .int .u8 0, .int .u8 0, .int .u8 0, .int .u8 0, .int .u8 0, .int .u8 0, .int .u8 0], .arr 256 5, .bool⟩
theorem j270 : TIok Tryz.prog 270 i270 := ⟨by kernel_rfl, by kernel_rfl, by kernel_rfl, by kernel_rfl, ⟨by kernel_rfl, by kernel_rfl⟩⟩
def i271 : TI := ⟨2, 2, .agg #[.int .u8 0, .int .u8 0], .agg [(0, 1), (1, 1)] true [false, false], y271⟩
theorem j271 : TIok Tryz.prog 271 i271 := ⟨by kernel_rfl, by kernel_rfl, by kernel_rfl, by kernel_rfl, ⟨by kernel_rfl, by kernel_rfl, by kernel_rfl, ⟨by kernel_rfl, by kernel_rfl, trivial⟩, (fun _ => by kernel_rfl), by kernel_rfl⟩⟩
def i272 : TI := ⟨2, 2, .agg #[.int .u8 0, .int .u8 0], .agg [(0, 1), (1, 1)] true [false, false], y272⟩
theorem j272 : TIok Tryz.prog 272 i272 := ⟨by kernel_rfl, by kernel_rfl, by kernel_rfl, by kernel_rfl, ⟨by kernel_rfl, by kernel_rfl, by kernel_rfl, ⟨by kernel_rfl, by kernel_rfl, trivial⟩, (fun _ => by kernel_rfl), by kernel_rfl⟩⟩
def i273 : TI := ⟨32, 32, .agg #[.int .u8 0, .int .u8 0, .int .u8 0, .int .u8 0, .int .u8 0, .int .u8 0, .int .u8 0, .int .u8 0, .int .u8 0, .int .u8 0, .int .u8 0, .int .u8 0, .int .u8 0, .int .u8 0, .int .u8 0, .int .u8 0, .int .u8 0, .int .u8 0, .int .u8 0, .int .u8 0, .int .u8 0, .int .u8 0, .int .u8 0, .int .u8 0, .int .u8 0, .int .u8 0, .int .u8 0, .int .u8 0, .int .u8 0, .int .u8 0, .int .u8 0, .int .u8 0], .arr 16 272, (.pr y272 (.pr y272 (.pr y272 (.pr y272 (.pr y272 (.pr y272 (.pr y272 (.pr y272 (.pr y272 (.pr y272 (.pr y272 (.pr y272 (.pr y272 (.pr y272 (.pr y272 y272)))))))))))))))⟩
theorem j273 : TIok Tryz.prog 273 i273 := ⟨by kernel_rfl, by kernel_rfl, by kernel_rfl, by kernel_rfl, ⟨by kernel_rfl, by kernel_rfl⟩⟩
def i278 : TI := ⟨20, 160, .agg #[.int .u64 0, .int .u64 0, .int .u64 0, .int .u64 0, .int .u64 0, .int .u64 0, .int .u64 0, .int .u64 0, .int .u64 0, .int .u64 0, .int .u64 0, .int .u64 0, .int .u64 0, .int .u64 0, .int .u64 0, .int .u64 0, .int .u64 0, .int .u64 0, .int .u64 0, .int .u64 0], .arr 20 261, .bool⟩
theorem j278 : TIok Tryz.prog 278 i278 := ⟨by kernel_rfl, by kernel_rfl, by kernel_rfl, by kernel_rfl, ⟨by kernel_rfl, by kernel_rfl⟩⟩
def i279 : TI := ⟨1, 4, .int .u32 0, .int .u32, (.int .u32)⟩
theorem j279 : TIok Tryz.prog 279 i279 := ⟨by kernel_rfl, by kernel_rfl, by kernel_rfl, by kernel_rfl, ⟨by kernel_rfl, by kernel_rfl⟩⟩
def i280 : TI := ⟨65, 65, .agg #[.int .u8 0, .int .u8 0, .int .u8 0, .int .u8 0, .int .u8 0, .int .u8 0, .int .u8 0, .int .u8 0, .int .u8 0, .int .u8 0, .int .u8 0, .int .u8 0, .int .u8 0, .int .u8 0, .int .u8 0, .int .u8 0, .int .u8 0, .int .u8 0, .int .u8 0, .int .u8 0, .int .u8 0, .int .u8 0, .int .u8 0, .int .u8 0, .int .u8 0, .int .u8 0, .int .u8 0, .int .u8 0, .int .u8 0, .int .u8 0, .int .u8 0, .int .u8 0, .int .u8 0, .int .u8 0, .int .u8 0, .int .u8 0, .int .u8 0, .int .u8 0, .int .u8 0, .int .u8 0, .int .u8 0, .int .u8 0, .int .u8 0, .int .u8 0, .int .u8 0, .int .u8 0, .int .u8 0, .int .u8 0, .int .u8 0, .int .u8 0, .int .u8 0, .int .u8 0, .int .u8 0, .int .u8 0, .int .u8 0, .int .u8 0, .int .u8 0, .int .u8 0, .int .u8 0, .int .u8 0, .int .u8 0, .int .u8 0, .int .u8 0, .int .u8 0, .int .u8 0], .arr 65 5, .bool⟩
theorem j280 : TIok Tryz.prog 280 i280 := ⟨by kernel_rfl, by kernel_rfl, by kernel_rfl, by kernel_rfl, ⟨by kernel_rfl, by kernel_rfl⟩⟩
def i285 : TI := ⟨32, 32, .agg #[.int .u8 0, .int .u8 0, .int .u8 0, .int .u8 0, .int .u8 0, .int .u8 0, .int .u8 0, .int .u8 0, .int .u8 0, .int .u8 0, .int .u8 0, .int .u8 0, .int .u8 0, .int .u8 0, .int .u8 0, .int .u8 0, .int .u8 0, .int .u8 0, .int .u8 0, .int .u8 0, .int .u8 0, .int .u8 0, .int .u8 0, .int .u8 0, .int .u8 0, .int .u8 0, .int .u8 0, .int .u8 0, .int .u8 0, .int .u8 0, .int .u8 0, .int .u8 0], .arr 32 5, .bool⟩
theorem j285 : TIok Tryz.prog 285 i285 := ⟨by kernel_rfl, by kernel_rfl, by kernel_rfl, by kernel_rfl, ⟨by kernel_rfl, by kernel_rfl⟩⟩
def i286 : TI := ⟨64, 64, .agg #[.int .u8 0, .int .u8 0, .int .u8 0, .int .u8 0, .int .u8 0, .int .u8 0, .int .u8 0, .int .u8 0, .int .u8 0, .int .u8 0, .int .u8 0, .int .u8 0, .int .u8 0, .int .u8 0, .int .u8 0, .int .u8 0, .int .u8 0, .int .u8 0, .int .u8 0, .int .u8 0, .int .u8 0, .int .u8 0, .int .u8 0, .int .u8 0, .int .u8 0, .int .u8 0, .int .u8 0, .int .u8 0, .int .u8 0, .int .u8 0, .int .u8 0, .int .u8 0, .int .u8 0, .int .u8 0, .int .u8 0, .int .u8 0, .int .u8 0, .int .u8 0, .int .u8 0, .int .u8 0, .int .u8 0, .int .u8 0, .int .u8 0, .int .u8 0, .int .u8 0, .int .u8 0, .int .u8 0, .int .u8 0, .int .u8 0, .int .u8 0, .int .u8 0, .int .u8 0, .int .u8 0, .int .u8 0, .int .u8 0, .int .u8 0, .int .u8 0, .int .u8 0, .int .u8 0, .int .u8 0, .int .u8 0, .int .u8 0, .int .u8 0, .int .u8 0], .arr 64 5, .bool⟩
theorem j286 : TIok Tryz.prog 286 i286 := ⟨by kernel_rfl, by kernel_rfl, by kernel_rfl, by kernel_rfl, ⟨by kernel_rfl, by kernel_rfl⟩⟩
def i287 : TI := ⟨4, 40, .agg #[.pointer none, .pointer none, .pointer none, .string ⟨#[]⟩], .agg [(0, 1), (1, 1), (2, 1), (3, 1)] false [false, false, false, false], .bool⟩
theorem j287 : TIok Tryz.prog 287 i287 := ⟨by kernel_rfl, by kernel_rfl, by kernel_rfl, by kernel_rfl, ⟨by kernel_rfl, by kernel_rfl, by kernel_rfl, ⟨by kernel_rfl, by kernel_rfl, by kernel_rfl, by kernel_rfl, trivial⟩, (fun h => by cases h), by kernel_rfl⟩⟩
def i288 : TI := ⟨4, 40, .agg #[.pointer none, .pointer none, .pointer none, .string ⟨#[]⟩], .agg [(0, 1), (1, 1), (2, 1), (3, 1)] false [false, false, false, false], .bool⟩
theorem j288 : TIok Tryz.prog 288 i288 := ⟨by kernel_rfl, by kernel_rfl, by kernel_rfl, by kernel_rfl, ⟨by kernel_rfl, by kernel_rfl, by kernel_rfl, ⟨by kernel_rfl, by kernel_rfl, by kernel_rfl, by kernel_rfl, trivial⟩, (fun h => by cases h), by kernel_rfl⟩⟩
def i293 : TI := ⟨1, 1, .int .u8 0, .int .u8, (.int .u8)⟩
theorem j293 : TIok Tryz.prog 293 i293 := ⟨by kernel_rfl, by kernel_rfl, by kernel_rfl, by kernel_rfl, ⟨by kernel_rfl, by kernel_rfl⟩⟩
def i294 : TI := ⟨1, 1, .int .u8 0, .int .u8, (.int .u8)⟩
theorem j294 : TIok Tryz.prog 294 i294 := ⟨by kernel_rfl, by kernel_rfl, by kernel_rfl, by kernel_rfl, ⟨by kernel_rfl, by kernel_rfl⟩⟩
def i296 : TI := ⟨1, 4, .int .i32 0, .int .i32, (.int .i32)⟩
theorem j296 : TIok Tryz.prog 296 i296 := ⟨by kernel_rfl, by kernel_rfl, by kernel_rfl, by kernel_rfl, ⟨by kernel_rfl, by kernel_rfl⟩⟩
def i297 : TI := ⟨1, 4, .int .i32 0, .int .i32, (.int .i32)⟩
theorem j297 : TIok Tryz.prog 297 i297 := ⟨by kernel_rfl, by kernel_rfl, by kernel_rfl, by kernel_rfl, ⟨by kernel_rfl, by kernel_rfl⟩⟩
def i302 : TI := ⟨1, 24, .slice none 0 0, .sl 303, (.sl (.pr (.int .i64) (.int .i64)))⟩
theorem j302 : TIok Tryz.prog 302 i302 := ⟨by kernel_rfl, by kernel_rfl, by kernel_rfl, by kernel_rfl, ⟨by kernel_rfl, by kernel_rfl⟩⟩
def i303 : TI := ⟨2, 16, .agg #[.int .i64 0, .int .i64 0], .arr 2 2, (.pr (.int .i64) (.int .i64))⟩
theorem j303 : TIok Tryz.prog 303 i303 := ⟨by kernel_rfl, by kernel_rfl, by kernel_rfl, by kernel_rfl, ⟨by kernel_rfl, by kernel_rfl⟩⟩
def Γ : Tab' := [(2, i2), (3, i3), (4, i4), (5, i5), (6, i6), (7, i7), (8, i8), (9, i9), (10, i10), (11, i11), (12, i12), (13, i13), (14, i14), (15, i15), (16, i16), (17, i17), (18, i18), (19, i19), (21, i21), (22, i22), (23, i23), (24, i24), (25, i25), (26, i26), (27, i27), (28, i28), (29, i29), (30, i30), (31, i31), (32, i32), (33, i33), (34, i34), (35, i35), (36, i36), (37, i37), (41, i41), (42, i42), (43, i43), (44, i44), (45, i45), (46, i46), (47, i47), (48, i48), (49, i49), (50, i50), (52, i52), (53, i53), (54, i54), (98, i98), (101, i101), (102, i102), (104, i104), (105, i105), (106, i106), (107, i107), (108, i108), (109, i109), (118, i118), (120, i120), (121, i121), (134, i134), (135, i135), (136, i136), (137, i137), (139, i139), (141, i141), (142, i142), (144, i144), (146, i146), (147, i147), (154, i154), (192, i192), (193, i193), (194, i194), (195, i195), (198, i198), (199, i199), (200, i200), (203, i203), (208, i208), (210, i210), (211, i211), (212, i212), (217, i217), (224, i224), (225, i225), (229, i229), (231, i231), (232, i232), (233, i233), (251, i251), (252, i252), (253, i253), (260, i260), (261, i261), (270, i270), (271, i271), (272, i272), (273, i273), (278, i278), (279, i279), (280, i280), (285, i285), (286, i286), (287, i287), (288, i288), (293, i293), (294, i294), (296, i296), (297, i297), (302, i302), (303, i303)]
theorem tok : TabOk Tryz.prog Γ := tab_cons j2 (tab_cons j3 (tab_cons j4 (tab_cons j5 (tab_cons j6 (tab_cons j7 (tab_cons j8 (tab_cons j9 (tab_cons j10 (tab_cons j11 (tab_cons j12 (tab_cons j13 (tab_cons j14 (tab_cons j15 (tab_cons j16 (tab_cons j17 (tab_cons j18 (tab_cons j19 (tab_cons j21 (tab_cons j22 (tab_cons j23 (tab_cons j24 (tab_cons j25 (tab_cons j26 (tab_cons j27 (tab_cons j28 (tab_cons j29 (tab_cons j30 (tab_cons j31 (tab_cons j32 (tab_cons j33 (tab_cons j34 (tab_cons j35 (tab_cons j36 (tab_cons j37 (tab_cons j41 (tab_cons j42 (tab_cons j43 (tab_cons j44 (tab_cons j45 (tab_cons j46 (tab_cons j47 (tab_cons j48 (tab_cons j49 (tab_cons j50 (tab_cons j52 (tab_cons j53 (tab_cons j54 (tab_cons j98 (tab_cons j101 (tab_cons j102 (tab_cons j104 (tab_cons j105 (tab_cons j106 (tab_cons j107 (tab_cons j108 (tab_cons j109 (tab_cons j118 (tab_cons j120 (tab_cons j121 (tab_cons j134 (tab_cons j135 (tab_cons j136 (tab_cons j137 (tab_cons j139 (tab_cons j141 (tab_cons j142 (tab_cons j144 (tab_cons j146 (tab_cons j147 (tab_cons j154 (tab_cons j192 (tab_cons j193 (tab_cons j194 (tab_cons j195 (tab_cons j198 (tab_cons j199 (tab_cons j200 (tab_cons j203 (tab_cons j208 (tab_cons j210 (tab_cons j211 (tab_cons j212 (tab_cons j217 (tab_cons j224 (tab_cons j225 (tab_cons j229 (tab_cons j231 (tab_cons j232 (tab_cons j233 (tab_cons j251 (tab_cons j252 (tab_cons j253 (tab_cons j260 (tab_cons j261 (tab_cons j270 (tab_cons j271 (tab_cons j272 (tab_cons j273 (tab_cons j278 (tab_cons j279 (tab_cons j280 (tab_cons j285 (tab_cons j286 (tab_cons j287 (tab_cons j288 (tab_cons j293 (tab_cons j294 (tab_cons j296 (tab_cons j297 (tab_cons j302 (tab_cons j303 (tab_nil))))))))))))))))))))))))))))))))))))))))))))))))))))))))))))))))))))))))))))))))))))))))))))))))))))))))))))))))
end Go.Proofs.YtkmmjamclcdjkaaGreatDoor
