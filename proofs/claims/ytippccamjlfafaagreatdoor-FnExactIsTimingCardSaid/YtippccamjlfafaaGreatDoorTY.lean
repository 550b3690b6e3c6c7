/- The types of this seat's program. -/
import Derived.Test.YtippccamjlfafaaGreatDoorXE
import Derived.Test.YtippccamjlfafaaGreatDoorProg
import Derived.KernelRfl
namespace Go.Proofs.YtippccamjlfafaaGreatDoor
open Go Go.Proofs Go.Proofs.Sv Go.Proofs.Xv
instance : Mixed Tryz.prog := ⟨by kernel_rfl⟩
abbrev y7 : Ty := .pr (.int .i64) (.pr (.int .i64) (.pr .bool ((.int .u8))))
abbrev Y7 : Type := Int × Int × Bool × Int
abbrev y8 : Ty := .pr (.int .i64) (.pr (.int .i64) (.pr .bool ((.int .u8))))
abbrev Y8 : Type := Int × Int × Bool × Int
abbrev y13 : Ty := .pr .str ((.int .u64))
abbrev Y13 : Type := ByteArray × Int
abbrev y14 : Ty := .pr .str ((.int .u64))
abbrev Y14 : Type := ByteArray × Int
abbrev y232 : Ty := .pr .str (.pr (.int .i64) (.pr (.int .i64) (.bool)))
abbrev Y232 : Type := ByteArray × Int × Int × Bool
abbrev y258 : Ty := .pr (.sl (.int .i64)) (.pr (.sl (.int .i64)) ((.sl (.int .i64))))
abbrev Y258 : Type := List Int × List Int × List Int
abbrev y236 : Ty := .pr (.int .i64) (.pr (.int .i64) (.pr (.int .i64) (.pr (.int .i64) (.pr (.sl y258) ((.sl y258))))))
abbrev Y236 : Type := Int × Int × Int × Int × List Y258 × List Y258
abbrev y187 : Ty := .pr .str (.pr (.int .i64) (.pr (.sl y232) (.pr (.sl y236) (.pr (.sl (.int .i64)) (.pr (.int .i64) ((.int .i64)))))))
abbrev Y187 : Type := ByteArray × Int × List Y232 × List Y236 × List Int × Int × Int
abbrev y189 : Ty := .pr .str (.pr (.int .i64) ((.sl (.int .i64))))
abbrev Y189 : Type := ByteArray × Int × List Int
abbrev y191 : Ty := .pr .str (.pr (.int .i64) ((.int .i64)))
abbrev Y191 : Type := ByteArray × Int × Int
abbrev y28 : Ty := .pr (.sl y189) (.pr (.sl .str) ((.sl y191)))
abbrev Y28 : Type := List Y189 × List ByteArray × List Y191
abbrev y29 : Ty := .pr (.sl y189) (.pr (.sl .str) ((.sl y191)))
abbrev Y29 : Type := List Y189 × List ByteArray × List Y191
abbrev y128 : Ty := .pr (.sl (.int .i64)) (.pr (.sl (.int .i64)) (.pr (.sl (.int .i64)) ((.sl (.int .i64)))))
abbrev Y128 : Type := List Int × List Int × List Int × List Int
abbrev y31 : Ty := .pr ((.sl y187)) (.pr y29 ((.sl y128)))
abbrev Y31 : Type := List Y187 × Y29 × List Y128
abbrev y32 : Ty := .pr ((.sl y187)) (.pr y29 ((.sl y128)))
abbrev Y32 : Type := List Y187 × Y29 × List Y128
abbrev y212 : Ty := .pr .str (.pr (.int .i64) (.pr (.int .i64) (.bool)))
abbrev Y212 : Type := ByteArray × Int × Int × Bool
abbrev y96 : Ty := .pr (.sl (.int .i64)) (.pr (.sl (.int .i64)) ((.sl (.int .i64))))
abbrev Y96 : Type := List Int × List Int × List Int
abbrev y89 : Ty := .pr (.int .i64) (.pr (.int .i64) (.pr (.int .i64) (.pr (.int .i64) (.pr (.sl y96) ((.sl y96))))))
abbrev Y89 : Type := Int × Int × Int × Int × List Y96 × List Y96
abbrev y152 : Ty := .pr .str (.pr (.int .i64) (.pr (.sl y212) (.pr (.sl y89) (.pr (.sl (.int .i64)) (.pr (.int .i64) ((.int .i64)))))))
abbrev Y152 : Type := ByteArray × Int × List Y212 × List Y89 × List Int × Int × Int
abbrev y141 : Ty := .pr .str (.pr (.int .i64) ((.sl (.int .i64))))
abbrev Y141 : Type := ByteArray × Int × List Int
abbrev y143 : Ty := .pr .str (.pr (.int .i64) ((.int .i64)))
abbrev Y143 : Type := ByteArray × Int × Int
abbrev y40 : Ty := .pr (.sl y141) (.pr (.sl .str) ((.sl y143)))
abbrev Y40 : Type := List Y141 × List ByteArray × List Y143
abbrev y41 : Ty := .pr (.sl y141) (.pr (.sl .str) ((.sl y143)))
abbrev Y41 : Type := List Y141 × List ByteArray × List Y143
abbrev y131 : Ty := .pr (.sl (.int .i64)) (.pr (.sl (.int .i64)) (.pr (.sl (.int .i64)) ((.sl (.int .i64)))))
abbrev Y131 : Type := List Int × List Int × List Int × List Int
abbrev y43 : Ty := .pr ((.sl y152)) (.pr y41 ((.sl y131)))
abbrev Y43 : Type := List Y152 × Y41 × List Y131
abbrev y44 : Ty := .pr ((.sl y152)) (.pr y41 ((.sl y131)))
abbrev Y44 : Type := List Y152 × Y41 × List Y131
abbrev y109 : Ty := .pr (.int .i64) ((.int .i64))
abbrev Y109 : Type := Int × Int
abbrev y111 : Ty := .pr (.int .i64) (.pr y109 y109)
abbrev Y111 : Type := Int × Y109 × Y109
abbrev y105 : Ty := .pr (.int .i64) ((.int .i64))
abbrev Y105 : Type := Int × Int
abbrev y107 : Ty := .pr (.int .i64) (.pr y105 y105)
abbrev Y107 : Type := Int × Y105 × Y105
abbrev y62 : Ty := .pr (.sl .bool) (.pr (.sl y109) ((.sl y109)))
abbrev Y62 : Type := List Bool × List Y109 × List Y109
abbrev y63 : Ty := .pr (.sl .bool) (.pr (.sl y109) ((.sl y109)))
abbrev Y63 : Type := List Bool × List Y109 × List Y109
abbrev y67 : Ty := .pr (.sl .bool) (.pr (.sl y105) ((.sl y105)))
abbrev Y67 : Type := List Bool × List Y105 × List Y105
abbrev y68 : Ty := .pr (.sl .bool) (.pr (.sl y105) ((.sl y105)))
abbrev Y68 : Type := List Bool × List Y105 × List Y105
abbrev y80 : Ty := .pr (.int .i64) (.pr (.int .i64) (.pr (.int .i64) (.bool)))
abbrev Y80 : Type := Int × Int × Int × Bool
abbrev y81 : Ty := .pr (.int .i64) (.pr (.int .i64) (.pr (.int .i64) (.bool)))
abbrev Y81 : Type := Int × Int × Int × Bool
abbrev y88 : Ty := .pr (.int .i64) (.pr (.int .i64) (.pr (.int .i64) (.pr (.int .i64) (.pr (.sl y96) ((.sl y96))))))
abbrev Y88 : Type := Int × Int × Int × Int × List Y96 × List Y96
abbrev y95 : Ty := .pr (.sl (.int .i64)) (.pr (.sl (.int .i64)) ((.sl (.int .i64))))
abbrev Y95 : Type := List Int × List Int × List Int
abbrev y175 : Ty := .pr (.int .i64) (.pr (.int .i64) (.pr (.int .i64) ((.int .i64))))
abbrev Y175 : Type := Int × Int × Int × Int
abbrev y170 : Ty := .pr y44 (.pr (.sl y81) (.pr (.sl y175) (.pr (.sl (.int .i64)) (.pr (.sl (.sl (.int .i64))) ((.sl (.int .i64)))))))
abbrev Y170 : Type := Y44 × List Y81 × List Y175 × List Int × List (List Int) × List Int
abbrev y104 : Ty := .pr (.int .i64) ((.int .i64))
abbrev Y104 : Type := Int × Int
abbrev y106 : Ty := .pr (.int .i64) (.pr y105 y105)
abbrev Y106 : Type := Int × Y105 × Y105
abbrev y110 : Ty := .pr (.int .i64) (.pr y109 y109)
abbrev Y110 : Type := Int × Y109 × Y109
abbrev y127 : Ty := .pr (.sl (.int .i64)) (.pr (.sl (.int .i64)) (.pr (.sl (.int .i64)) ((.sl (.int .i64)))))
abbrev Y127 : Type := List Int × List Int × List Int × List Int
abbrev y163 : Ty := .pr (.int .i64) (.pr (.int .i64) (.pr (.int .i64) (.bool)))
abbrev Y163 : Type := Int × Int × Int × Bool
abbrev y140 : Ty := .pr .str (.pr (.int .i64) ((.sl (.int .i64))))
abbrev Y140 : Type := ByteArray × Int × List Int
abbrev y142 : Ty := .pr .str (.pr (.int .i64) ((.int .i64)))
abbrev Y142 : Type := ByteArray × Int × Int
abbrev y151 : Ty := .pr .str (.pr (.int .i64) (.pr (.sl y212) (.pr (.sl y89) (.pr (.sl (.int .i64)) (.pr (.int .i64) ((.int .i64)))))))
abbrev Y151 : Type := ByteArray × Int × List Y212 × List Y89 × List Int × Int × Int
abbrev y161 : Ty := .pr (.int .i64) ((.int .i64))
abbrev Y161 : Type := Int × Int
abbrev y160 : Ty := .pr (.int .i64) ((.int .i64))
abbrev Y160 : Type := Int × Int
abbrev y162 : Ty := .pr (.int .i64) (.pr (.int .i64) (.pr (.int .i64) (.bool)))
abbrev Y162 : Type := Int × Int × Int × Bool
abbrev y169 : Ty := .pr y44 (.pr (.sl y81) (.pr (.sl y175) (.pr (.sl (.int .i64)) (.pr (.sl (.sl (.int .i64))) ((.sl (.int .i64)))))))
abbrev Y169 : Type := Y44 × List Y81 × List Y175 × List Int × List (List Int) × List Int
abbrev y174 : Ty := .pr (.int .i64) (.pr (.int .i64) (.pr (.int .i64) ((.int .i64))))
abbrev Y174 : Type := Int × Int × Int × Int
abbrev y186 : Ty := .pr .str (.pr (.int .i64) (.pr (.sl y232) (.pr (.sl y236) (.pr (.sl (.int .i64)) (.pr (.int .i64) ((.int .i64)))))))
abbrev Y186 : Type := ByteArray × Int × List Y232 × List Y236 × List Int × Int × Int
abbrev y211 : Ty := .pr .str (.pr (.int .i64) (.pr (.int .i64) (.bool)))
abbrev Y211 : Type := ByteArray × Int × Int × Bool
abbrev y235 : Ty := .pr (.int .i64) (.pr (.int .i64) (.pr (.int .i64) (.pr (.int .i64) (.pr (.sl y258) ((.sl y258))))))
abbrev Y235 : Type := Int × Int × Int × Int × List Y258 × List Y258
abbrev y283 : Ty := .pr (.int .u8) ((.int .u8))
abbrev Y283 : Type := Int × Int
abbrev y284 : Ty := .pr (.int .u8) ((.int .u8))
abbrev Y284 : Type := Int × Int
def i2 : TI := ⟨1, 8, .int .i64 0, .int .i64, (.int .i64)⟩
theorem j2 : TIok Tryz.prog 2 i2 := ⟨by kernel_rfl, by kernel_rfl, by kernel_rfl, by kernel_rfl, ⟨by kernel_rfl, by kernel_rfl⟩⟩
def i3 : TI := ⟨1, 8, .int .i64 0, .int .i64, (.int .i64)⟩
theorem j3 : TIok Tryz.prog 3 i3 := ⟨by kernel_rfl, by kernel_rfl, by kernel_rfl, by kernel_rfl, ⟨by kernel_rfl, by kernel_rfl⟩⟩
def i4 : TI := ⟨1, 1, .bool false, .bool, .bool⟩
theorem j4 : TIok Tryz.prog 4 i4 := ⟨by kernel_rfl, by kernel_rfl, by kernel_rfl, by kernel_rfl, ⟨by kernel_rfl, by kernel_rfl⟩⟩
def i5 : TI := ⟨1, 1, .int .u8 0, .int .u8, (.int .u8)⟩
theorem j5 : TIok Tryz.prog 5 i5 := ⟨by kernel_rfl, by kernel_rfl, by kernel_rfl, by kernel_rfl, ⟨by kernel_rfl, by kernel_rfl⟩⟩
def i6 : TI := ⟨1, 1, .int .u8 0, .int .u8, (.int .u8)⟩
theorem j6 : TIok Tryz.prog 6 i6 := ⟨by kernel_rfl, by kernel_rfl, by kernel_rfl, by kernel_rfl, ⟨by kernel_rfl, by kernel_rfl⟩⟩
def i7 : TI := ⟨4, 24, .agg #[.int .i64 0, .int .i64 0, .bool false, .int .u8 0], .agg [(0, 1), (1, 1), (2, 1), (3, 1)] false [false, false, false, false], y7⟩
theorem j7 : TIok Tryz.prog 7 i7 := ⟨by kernel_rfl, by kernel_rfl, by kernel_rfl, by kernel_rfl, ⟨by kernel_rfl, by kernel_rfl, by kernel_rfl, ⟨by kernel_rfl, by kernel_rfl, by kernel_rfl, by kernel_rfl, trivial⟩, (fun h => by cases h), by kernel_rfl⟩⟩
def i8 : TI := ⟨4, 24, .agg #[.int .i64 0, .int .i64 0, .bool false, .int .u8 0], .agg [(0, 1), (1, 1), (2, 1), (3, 1)] false [false, false, false, false], y8⟩
theorem j8 : TIok Tryz.prog 8 i8 := ⟨by kernel_rfl, by kernel_rfl, by kernel_rfl, by kernel_rfl, ⟨by kernel_rfl, by kernel_rfl, by kernel_rfl, ⟨by kernel_rfl, by kernel_rfl, by kernel_rfl, by kernel_rfl, trivial⟩, (fun h => by cases h), by kernel_rfl⟩⟩
def i9 : TI := ⟨1, 16, .string ⟨#[]⟩, .str, .str⟩
theorem j9 : TIok Tryz.prog 9 i9 := ⟨by kernel_rfl, by kernel_rfl, by kernel_rfl, by kernel_rfl, ⟨by kernel_rfl, by kernel_rfl⟩⟩
def i10 : TI := ⟨1, 16, .string ⟨#[]⟩, .str, .str⟩
theorem j10 : TIok Tryz.prog 10 i10 := ⟨by kernel_rfl, by kernel_rfl, by kernel_rfl, by kernel_rfl, ⟨by kernel_rfl, by kernel_rfl⟩⟩
def i11 : TI := ⟨1, 16, .string ⟨#[]⟩, .str, .str⟩
theorem j11 : TIok Tryz.prog 11 i11 := ⟨by kernel_rfl, by kernel_rfl, by kernel_rfl, by kernel_rfl, ⟨by kernel_rfl, by kernel_rfl⟩⟩
def i12 : TI := ⟨1, 8, .int .u64 0, .int .u64, (.int .u64)⟩
theorem j12 : TIok Tryz.prog 12 i12 := ⟨by kernel_rfl, by kernel_rfl, by kernel_rfl, by kernel_rfl, ⟨by kernel_rfl, by kernel_rfl⟩⟩
def i13 : TI := ⟨2, 24, .agg #[.string ⟨#[]⟩, .int .u64 0], .agg [(0, 1), (1, 1)] false [false, false], y13⟩
theorem j13 : TIok Tryz.prog 13 i13 := ⟨by kernel_rfl, by kernel_rfl, by kernel_rfl, by kernel_rfl, ⟨by kernel_rfl, by kernel_rfl, by kernel_rfl, ⟨by kernel_rfl, by kernel_rfl, trivial⟩, (fun h => by cases h), by kernel_rfl⟩⟩
def i14 : TI := ⟨2, 24, .agg #[.string ⟨#[]⟩, .int .u64 0], .agg [(0, 1), (1, 1)] false [false, false], y14⟩
theorem j14 : TIok Tryz.prog 14 i14 := ⟨by kernel_rfl, by kernel_rfl, by kernel_rfl, by kernel_rfl, ⟨by kernel_rfl, by kernel_rfl, by kernel_rfl, ⟨by kernel_rfl, by kernel_rfl, trivial⟩, (fun h => by cases h), by kernel_rfl⟩⟩
def i15 : TI := ⟨1, 8, .pointer none, .oth, .bool⟩
theorem j15 : TIok Tryz.prog 15 i15 := ⟨by kernel_rfl, by kernel_rfl, by kernel_rfl, by kernel_rfl, (show notAggB Tryz.prog 15 = true by kernel_rfl)⟩
def i16 : TI := ⟨1, 8, .pointer none, .oth, .bool⟩
theorem j16 : TIok Tryz.prog 16 i16 := ⟨by kernel_rfl, by kernel_rfl, by kernel_rfl, by kernel_rfl, (show notAggB Tryz.prog 16 = true by kernel_rfl)⟩
def i17 : TI := ⟨1, 8, .pointer none, .oth, .bool⟩
theorem j17 : TIok Tryz.prog 17 i17 := ⟨by kernel_rfl, by kernel_rfl, by kernel_rfl, by kernel_rfl, (show notAggB Tryz.prog 17 = true by kernel_rfl)⟩
def i18 : TI := ⟨1, 8, .agg #[.pointer none], .agg [(0, 1)] false [false], .bool⟩
theorem j18 : TIok Tryz.prog 18 i18 := ⟨by kernel_rfl, by kernel_rfl, by kernel_rfl, by kernel_rfl, ⟨by kernel_rfl, by kernel_rfl, by kernel_rfl, ⟨by kernel_rfl, trivial⟩, (fun h => by cases h), by kernel_rfl⟩⟩
def i19 : TI := ⟨1, 8, .agg #[.pointer none], .agg [(0, 1)] false [false], .bool⟩
theorem j19 : TIok Tryz.prog 19 i19 := ⟨by kernel_rfl, by kernel_rfl, by kernel_rfl, by kernel_rfl, ⟨by kernel_rfl, by kernel_rfl, by kernel_rfl, ⟨by kernel_rfl, trivial⟩, (fun h => by cases h), by kernel_rfl⟩⟩
def i21 : TI := ⟨1, 4, .int .i32 0, .int .i32, (.int .i32)⟩
theorem j21 : TIok Tryz.prog 21 i21 := ⟨by kernel_rfl, by kernel_rfl, by kernel_rfl, by kernel_rfl, ⟨by kernel_rfl, by kernel_rfl⟩⟩
def i22 : TI := ⟨1, 24, .slice none 0 0, .sl 187, (.sl y187)⟩
theorem j22 : TIok Tryz.prog 22 i22 := ⟨by kernel_rfl, by kernel_rfl, by kernel_rfl, by kernel_rfl, ⟨by kernel_rfl, by kernel_rfl⟩⟩
def i23 : TI := ⟨1, 24, .agg #[.slice none 0 0], .agg [(0, 1)] false [false], ((.sl y187))⟩
theorem j23 : TIok Tryz.prog 23 i23 := ⟨by kernel_rfl, by kernel_rfl, by kernel_rfl, by kernel_rfl, ⟨by kernel_rfl, by kernel_rfl, by kernel_rfl, ⟨by kernel_rfl, trivial⟩, (fun h => by cases h), by kernel_rfl⟩⟩
def i24 : TI := ⟨1, 24, .agg #[.slice none 0 0], .agg [(0, 1)] false [false], ((.sl y187))⟩
theorem j24 : TIok Tryz.prog 24 i24 := ⟨by kernel_rfl, by kernel_rfl, by kernel_rfl, by kernel_rfl, ⟨by kernel_rfl, by kernel_rfl, by kernel_rfl, ⟨by kernel_rfl, trivial⟩, (fun h => by cases h), by kernel_rfl⟩⟩
def i25 : TI := ⟨1, 24, .slice none 0 0, .sl 189, (.sl y189)⟩
theorem j25 : TIok Tryz.prog 25 i25 := ⟨by kernel_rfl, by kernel_rfl, by kernel_rfl, by kernel_rfl, ⟨by kernel_rfl, by kernel_rfl⟩⟩
def i26 : TI := ⟨1, 24, .slice none 0 0, .sl 9, (.sl .str)⟩
theorem j26 : TIok Tryz.prog 26 i26 := ⟨by kernel_rfl, by kernel_rfl, by kernel_rfl, by kernel_rfl, ⟨by kernel_rfl, by kernel_rfl⟩⟩
def i27 : TI := ⟨1, 24, .slice none 0 0, .sl 191, (.sl y191)⟩
theorem j27 : TIok Tryz.prog 27 i27 := ⟨by kernel_rfl, by kernel_rfl, by kernel_rfl, by kernel_rfl, ⟨by kernel_rfl, by kernel_rfl⟩⟩
def i28 : TI := ⟨3, 72, .agg #[.slice none 0 0, .slice none 0 0, .slice none 0 0], .agg [(0, 1), (1, 1), (2, 1)] false [false, false, false], y28⟩
theorem j28 : TIok Tryz.prog 28 i28 := ⟨by kernel_rfl, by kernel_rfl, by kernel_rfl, by kernel_rfl, ⟨by kernel_rfl, by kernel_rfl, by kernel_rfl, ⟨by kernel_rfl, by kernel_rfl, by kernel_rfl, trivial⟩, (fun h => by cases h), by kernel_rfl⟩⟩
def i29 : TI := ⟨3, 72, .agg #[.slice none 0 0, .slice none 0 0, .slice none 0 0], .agg [(0, 1), (1, 1), (2, 1)] false [false, false, false], y29⟩
theorem j29 : TIok Tryz.prog 29 i29 := ⟨by kernel_rfl, by kernel_rfl, by kernel_rfl, by kernel_rfl, ⟨by kernel_rfl, by kernel_rfl, by kernel_rfl, ⟨by kernel_rfl, by kernel_rfl, by kernel_rfl, trivial⟩, (fun h => by cases h), by kernel_rfl⟩⟩
def i30 : TI := ⟨1, 24, .slice none 0 0, .sl 128, (.sl y128)⟩
theorem j30 : TIok Tryz.prog 30 i30 := ⟨by kernel_rfl, by kernel_rfl, by kernel_rfl, by kernel_rfl, ⟨by kernel_rfl, by kernel_rfl⟩⟩
def i31 : TI := ⟨5, 120, .agg #[.slice none 0 0, .slice none 0 0, .slice none 0 0, .slice none 0 0, .slice none 0 0], .agg [(0, 1), (1, 3), (4, 1)] false [true, true, false], y31⟩
theorem j31 : TIok Tryz.prog 31 i31 := ⟨by kernel_rfl, by kernel_rfl, by kernel_rfl, by kernel_rfl, ⟨by kernel_rfl, by kernel_rfl, by kernel_rfl, ⟨by kernel_rfl, by kernel_rfl, by kernel_rfl, trivial⟩, (fun h => by cases h), by kernel_rfl⟩⟩
def i32 : TI := ⟨5, 120, .agg #[.slice none 0 0, .slice none 0 0, .slice none 0 0, .slice none 0 0, .slice none 0 0], .agg [(0, 1), (1, 3), (4, 1)] false [true, true, false], y32⟩
theorem j32 : TIok Tryz.prog 32 i32 := ⟨by kernel_rfl, by kernel_rfl, by kernel_rfl, by kernel_rfl, ⟨by kernel_rfl, by kernel_rfl, by kernel_rfl, ⟨by kernel_rfl, by kernel_rfl, by kernel_rfl, trivial⟩, (fun h => by cases h), by kernel_rfl⟩⟩
def i35 : TI := ⟨1, 24, .slice none 0 0, .sl 152, (.sl y152)⟩
theorem j35 : TIok Tryz.prog 35 i35 := ⟨by kernel_rfl, by kernel_rfl, by kernel_rfl, by kernel_rfl, ⟨by kernel_rfl, by kernel_rfl⟩⟩
def i36 : TI := ⟨1, 24, .agg #[.slice none 0 0], .agg [(0, 1)] false [false], ((.sl y152))⟩
theorem j36 : TIok Tryz.prog 36 i36 := ⟨by kernel_rfl, by kernel_rfl, by kernel_rfl, by kernel_rfl, ⟨by kernel_rfl, by kernel_rfl, by kernel_rfl, ⟨by kernel_rfl, trivial⟩, (fun h => by cases h), by kernel_rfl⟩⟩
def i37 : TI := ⟨1, 24, .agg #[.slice none 0 0], .agg [(0, 1)] false [false], ((.sl y152))⟩
theorem j37 : TIok Tryz.prog 37 i37 := ⟨by kernel_rfl, by kernel_rfl, by kernel_rfl, by kernel_rfl, ⟨by kernel_rfl, by kernel_rfl, by kernel_rfl, ⟨by kernel_rfl, trivial⟩, (fun h => by cases h), by kernel_rfl⟩⟩
def i38 : TI := ⟨1, 24, .slice none 0 0, .sl 141, (.sl y141)⟩
theorem j38 : TIok Tryz.prog 38 i38 := ⟨by kernel_rfl, by kernel_rfl, by kernel_rfl, by kernel_rfl, ⟨by kernel_rfl, by kernel_rfl⟩⟩
def i39 : TI := ⟨1, 24, .slice none 0 0, .sl 143, (.sl y143)⟩
theorem j39 : TIok Tryz.prog 39 i39 := ⟨by kernel_rfl, by kernel_rfl, by kernel_rfl, by kernel_rfl, ⟨by kernel_rfl, by kernel_rfl⟩⟩
def i40 : TI := ⟨3, 72, .agg #[.slice none 0 0, .slice none 0 0, .slice none 0 0], .agg [(0, 1), (1, 1), (2, 1)] false [false, false, false], y40⟩
theorem j40 : TIok Tryz.prog 40 i40 := ⟨by kernel_rfl, by kernel_rfl, by kernel_rfl, by kernel_rfl, ⟨by kernel_rfl, by kernel_rfl, by kernel_rfl, ⟨by kernel_rfl, by kernel_rfl, by kernel_rfl, trivial⟩, (fun h => by cases h), by kernel_rfl⟩⟩
def i41 : TI := ⟨3, 72, .agg #[.slice none 0 0, .slice none 0 0, .slice none 0 0], .agg [(0, 1), (1, 1), (2, 1)] false [false, false, false], y41⟩
theorem j41 : TIok Tryz.prog 41 i41 := ⟨by kernel_rfl, by kernel_rfl, by kernel_rfl, by kernel_rfl, ⟨by kernel_rfl, by kernel_rfl, by kernel_rfl, ⟨by kernel_rfl, by kernel_rfl, by kernel_rfl, trivial⟩, (fun h => by cases h), by kernel_rfl⟩⟩
def i42 : TI := ⟨1, 24, .slice none 0 0, .sl 131, (.sl y131)⟩
theorem j42 : TIok Tryz.prog 42 i42 := ⟨by kernel_rfl, by kernel_rfl, by kernel_rfl, by kernel_rfl, ⟨by kernel_rfl, by kernel_rfl⟩⟩
def i43 : TI := ⟨5, 120, .agg #[.slice none 0 0, .slice none 0 0, .slice none 0 0, .slice none 0 0, .slice none 0 0], .agg [(0, 1), (1, 3), (4, 1)] false [true, true, false], y43⟩
theorem j43 : TIok Tryz.prog 43 i43 := ⟨by kernel_rfl, by kernel_rfl, by kernel_rfl, by kernel_rfl, ⟨by kernel_rfl, by kernel_rfl, by kernel_rfl, ⟨by kernel_rfl, by kernel_rfl, by kernel_rfl, trivial⟩, (fun h => by cases h), by kernel_rfl⟩⟩
def i44 : TI := ⟨5, 120, .agg #[.slice none 0 0, .slice none 0 0, .slice none 0 0, .slice none 0 0, .slice none 0 0], .agg [(0, 1), (1, 3), (4, 1)] false [true, true, false], y44⟩
theorem j44 : TIok Tryz.prog 44 i44 := ⟨by kernel_rfl, by kernel_rfl, by kernel_rfl, by kernel_rfl, ⟨by kernel_rfl, by kernel_rfl, by kernel_rfl, ⟨by kernel_rfl, by kernel_rfl, by kernel_rfl, trivial⟩, (fun h => by cases h), by kernel_rfl⟩⟩
def i53 : TI := ⟨1, 24, .slice none 0 0, .sl 111, (.sl y111)⟩
theorem j53 : TIok Tryz.prog 53 i53 := ⟨by kernel_rfl, by kernel_rfl, by kernel_rfl, by kernel_rfl, ⟨by kernel_rfl, by kernel_rfl⟩⟩
def i56 : TI := ⟨1, 24, .slice none 0 0, .sl 107, (.sl y107)⟩
theorem j56 : TIok Tryz.prog 56 i56 := ⟨by kernel_rfl, by kernel_rfl, by kernel_rfl, by kernel_rfl, ⟨by kernel_rfl, by kernel_rfl⟩⟩
def i60 : TI := ⟨1, 24, .slice none 0 0, .sl 4, (.sl .bool)⟩
theorem j60 : TIok Tryz.prog 60 i60 := ⟨by kernel_rfl, by kernel_rfl, by kernel_rfl, by kernel_rfl, ⟨by kernel_rfl, by kernel_rfl⟩⟩
def i61 : TI := ⟨1, 24, .slice none 0 0, .sl 109, (.sl y109)⟩
theorem j61 : TIok Tryz.prog 61 i61 := ⟨by kernel_rfl, by kernel_rfl, by kernel_rfl, by kernel_rfl, ⟨by kernel_rfl, by kernel_rfl⟩⟩
def i62 : TI := ⟨3, 72, .agg #[.slice none 0 0, .slice none 0 0, .slice none 0 0], .agg [(0, 1), (1, 1), (2, 1)] false [false, false, false], y62⟩
theorem j62 : TIok Tryz.prog 62 i62 := ⟨by kernel_rfl, by kernel_rfl, by kernel_rfl, by kernel_rfl, ⟨by kernel_rfl, by kernel_rfl, by kernel_rfl, ⟨by kernel_rfl, by kernel_rfl, by kernel_rfl, trivial⟩, (fun h => by cases h), by kernel_rfl⟩⟩
def i63 : TI := ⟨3, 72, .agg #[.slice none 0 0, .slice none 0 0, .slice none 0 0], .agg [(0, 1), (1, 1), (2, 1)] false [false, false, false], y63⟩
theorem j63 : TIok Tryz.prog 63 i63 := ⟨by kernel_rfl, by kernel_rfl, by kernel_rfl, by kernel_rfl, ⟨by kernel_rfl, by kernel_rfl, by kernel_rfl, ⟨by kernel_rfl, by kernel_rfl, by kernel_rfl, trivial⟩, (fun h => by cases h), by kernel_rfl⟩⟩
def i66 : TI := ⟨1, 24, .slice none 0 0, .sl 105, (.sl y105)⟩
theorem j66 : TIok Tryz.prog 66 i66 := ⟨by kernel_rfl, by kernel_rfl, by kernel_rfl, by kernel_rfl, ⟨by kernel_rfl, by kernel_rfl⟩⟩
def i67 : TI := ⟨3, 72, .agg #[.slice none 0 0, .slice none 0 0, .slice none 0 0], .agg [(0, 1), (1, 1), (2, 1)] false [false, false, false], y67⟩
theorem j67 : TIok Tryz.prog 67 i67 := ⟨by kernel_rfl, by kernel_rfl, by kernel_rfl, by kernel_rfl, ⟨by kernel_rfl, by kernel_rfl, by kernel_rfl, ⟨by kernel_rfl, by kernel_rfl, by kernel_rfl, trivial⟩, (fun h => by cases h), by kernel_rfl⟩⟩
def i68 : TI := ⟨3, 72, .agg #[.slice none 0 0, .slice none 0 0, .slice none 0 0], .agg [(0, 1), (1, 1), (2, 1)] false [false, false, false], y68⟩
theorem j68 : TIok Tryz.prog 68 i68 := ⟨by kernel_rfl, by kernel_rfl, by kernel_rfl, by kernel_rfl, ⟨by kernel_rfl, by kernel_rfl, by kernel_rfl, ⟨by kernel_rfl, by kernel_rfl, by kernel_rfl, trivial⟩, (fun h => by cases h), by kernel_rfl⟩⟩
def i80 : TI := ⟨4, 32, .agg #[.int .i64 0, .int .i64 0, .int .i64 0, .bool false], .agg [(0, 1), (1, 1), (2, 1), (3, 1)] false [false, false, false, false], y80⟩
theorem j80 : TIok Tryz.prog 80 i80 := ⟨by kernel_rfl, by kernel_rfl, by kernel_rfl, by kernel_rfl, ⟨by kernel_rfl, by kernel_rfl, by kernel_rfl, ⟨by kernel_rfl, by kernel_rfl, by kernel_rfl, by kernel_rfl, trivial⟩, (fun h => by cases h), by kernel_rfl⟩⟩
def i81 : TI := ⟨4, 32, .agg #[.int .i64 0, .int .i64 0, .int .i64 0, .bool false], .agg [(0, 1), (1, 1), (2, 1), (3, 1)] false [false, false, false, false], y81⟩
theorem j81 : TIok Tryz.prog 81 i81 := ⟨by kernel_rfl, by kernel_rfl, by kernel_rfl, by kernel_rfl, ⟨by kernel_rfl, by kernel_rfl, by kernel_rfl, ⟨by kernel_rfl, by kernel_rfl, by kernel_rfl, by kernel_rfl, trivial⟩, (fun h => by cases h), by kernel_rfl⟩⟩
def i82 : TI := ⟨1, 24, .slice none 0 0, .sl 81, (.sl y81)⟩
theorem j82 : TIok Tryz.prog 82 i82 := ⟨by kernel_rfl, by kernel_rfl, by kernel_rfl, by kernel_rfl, ⟨by kernel_rfl, by kernel_rfl⟩⟩
def i87 : TI := ⟨1, 24, .slice none 0 0, .sl 96, (.sl y96)⟩
theorem j87 : TIok Tryz.prog 87 i87 := ⟨by kernel_rfl, by kernel_rfl, by kernel_rfl, by kernel_rfl, ⟨by kernel_rfl, by kernel_rfl⟩⟩
def i88 : TI := ⟨6, 80, .agg #[.int .i64 0, .int .i64 0, .int .i64 0, .int .i64 0, .slice none 0 0, .slice none 0 0], .agg [(0, 1), (1, 1), (2, 1), (3, 1), (4, 1), (5, 1)] false [false, false, false, false, false, false], y88⟩
theorem j88 : TIok Tryz.prog 88 i88 := ⟨by kernel_rfl, by kernel_rfl, by kernel_rfl, by kernel_rfl, ⟨by kernel_rfl, by kernel_rfl, by kernel_rfl, ⟨by kernel_rfl, by kernel_rfl, by kernel_rfl, by kernel_rfl, by kernel_rfl, by kernel_rfl, trivial⟩, (fun h => by cases h), by kernel_rfl⟩⟩
def i89 : TI := ⟨6, 80, .agg #[.int .i64 0, .int .i64 0, .int .i64 0, .int .i64 0, .slice none 0 0, .slice none 0 0], .agg [(0, 1), (1, 1), (2, 1), (3, 1), (4, 1), (5, 1)] false [false, false, false, false, false, false], y89⟩
theorem j89 : TIok Tryz.prog 89 i89 := ⟨by kernel_rfl, by kernel_rfl, by kernel_rfl, by kernel_rfl, ⟨by kernel_rfl, by kernel_rfl, by kernel_rfl, ⟨by kernel_rfl, by kernel_rfl, by kernel_rfl, by kernel_rfl, by kernel_rfl, by kernel_rfl, trivial⟩, (fun h => by cases h), by kernel_rfl⟩⟩
def i94 : TI := ⟨1, 24, .slice none 0 0, .sl 2, (.sl (.int .i64))⟩
theorem j94 : TIok Tryz.prog 94 i94 := ⟨by kernel_rfl, by kernel_rfl, by kernel_rfl, by kernel_rfl, ⟨by kernel_rfl, by kernel_rfl⟩⟩
def i95 : TI := ⟨3, 72, .agg #[.slice none 0 0, .slice none 0 0, .slice none 0 0], .agg [(0, 1), (1, 1), (2, 1)] false [false, false, false], y95⟩
theorem j95 : TIok Tryz.prog 95 i95 := ⟨by kernel_rfl, by kernel_rfl, by kernel_rfl, by kernel_rfl, ⟨by kernel_rfl, by kernel_rfl, by kernel_rfl, ⟨by kernel_rfl, by kernel_rfl, by kernel_rfl, trivial⟩, (fun h => by cases h), by kernel_rfl⟩⟩
def i96 : TI := ⟨3, 72, .agg #[.slice none 0 0, .slice none 0 0, .slice none 0 0], .agg [(0, 1), (1, 1), (2, 1)] false [false, false, false], y96⟩
theorem j96 : TIok Tryz.prog 96 i96 := ⟨by kernel_rfl, by kernel_rfl, by kernel_rfl, by kernel_rfl, ⟨by kernel_rfl, by kernel_rfl, by kernel_rfl, ⟨by kernel_rfl, by kernel_rfl, by kernel_rfl, trivial⟩, (fun h => by cases h), by kernel_rfl⟩⟩
def i101 : TI := ⟨1, 8, .pointer none, .oth, (.pt y170)⟩
theorem j101 : TIok Tryz.prog 101 i101 := ⟨by kernel_rfl, by kernel_rfl, by kernel_rfl, by kernel_rfl, (show notAggB Tryz.prog 101 = true by kernel_rfl)⟩
def i104 : TI := ⟨2, 16, .agg #[.int .i64 0, .int .i64 0], .agg [(0, 1), (1, 1)] true [false, false], y104⟩
theorem j104 : TIok Tryz.prog 104 i104 := ⟨by kernel_rfl, by kernel_rfl, by kernel_rfl, by kernel_rfl, ⟨by kernel_rfl, by kernel_rfl, by kernel_rfl, ⟨by kernel_rfl, by kernel_rfl, trivial⟩, (fun _ => by kernel_rfl), by kernel_rfl⟩⟩
def i105 : TI := ⟨2, 16, .agg #[.int .i64 0, .int .i64 0], .agg [(0, 1), (1, 1)] true [false, false], y105⟩
theorem j105 : TIok Tryz.prog 105 i105 := ⟨by kernel_rfl, by kernel_rfl, by kernel_rfl, by kernel_rfl, ⟨by kernel_rfl, by kernel_rfl, by kernel_rfl, ⟨by kernel_rfl, by kernel_rfl, trivial⟩, (fun _ => by kernel_rfl), by kernel_rfl⟩⟩
def i106 : TI := ⟨5, 40, .agg #[.int .i64 0, .int .i64 0, .int .i64 0, .int .i64 0, .int .i64 0], .agg [(0, 1), (1, 2), (3, 2)] false [false, true, true], y106⟩
theorem j106 : TIok Tryz.prog 106 i106 := ⟨by kernel_rfl, by kernel_rfl, by kernel_rfl, by kernel_rfl, ⟨by kernel_rfl, by kernel_rfl, by kernel_rfl, ⟨by kernel_rfl, by kernel_rfl, by kernel_rfl, trivial⟩, (fun h => by cases h), by kernel_rfl⟩⟩
def i107 : TI := ⟨5, 40, .agg #[.int .i64 0, .int .i64 0, .int .i64 0, .int .i64 0, .int .i64 0], .agg [(0, 1), (1, 2), (3, 2)] false [false, true, true], y107⟩
theorem j107 : TIok Tryz.prog 107 i107 := ⟨by kernel_rfl, by kernel_rfl, by kernel_rfl, by kernel_rfl, ⟨by kernel_rfl, by kernel_rfl, by kernel_rfl, ⟨by kernel_rfl, by kernel_rfl, by kernel_rfl, trivial⟩, (fun h => by cases h), by kernel_rfl⟩⟩
def i109 : TI := ⟨2, 16, .agg #[.int .i64 0, .int .i64 0], .agg [(0, 1), (1, 1)] true [false, false], y109⟩
theorem j109 : TIok Tryz.prog 109 i109 := ⟨by kernel_rfl, by kernel_rfl, by kernel_rfl, by kernel_rfl, ⟨by kernel_rfl, by kernel_rfl, by kernel_rfl, ⟨by kernel_rfl, by kernel_rfl, trivial⟩, (fun _ => by kernel_rfl), by kernel_rfl⟩⟩
def i110 : TI := ⟨5, 40, .agg #[.int .i64 0, .int .i64 0, .int .i64 0, .int .i64 0, .int .i64 0], .agg [(0, 1), (1, 2), (3, 2)] false [false, true, true], y110⟩
theorem j110 : TIok Tryz.prog 110 i110 := ⟨by kernel_rfl, by kernel_rfl, by kernel_rfl, by kernel_rfl, ⟨by kernel_rfl, by kernel_rfl, by kernel_rfl, ⟨by kernel_rfl, by kernel_rfl, by kernel_rfl, trivial⟩, (fun h => by cases h), by kernel_rfl⟩⟩
def i111 : TI := ⟨5, 40, .agg #[.int .i64 0, .int .i64 0, .int .i64 0, .int .i64 0, .int .i64 0], .agg [(0, 1), (1, 2), (3, 2)] false [false, true, true], y111⟩
theorem j111 : TIok Tryz.prog 111 i111 := ⟨by kernel_rfl, by kernel_rfl, by kernel_rfl, by kernel_rfl, ⟨by kernel_rfl, by kernel_rfl, by kernel_rfl, ⟨by kernel_rfl, by kernel_rfl, by kernel_rfl, trivial⟩, (fun h => by cases h), by kernel_rfl⟩⟩
def i127 : TI := ⟨4, 96, .agg #[.slice none 0 0, .slice none 0 0, .slice none 0 0, .slice none 0 0], .agg [(0, 1), (1, 1), (2, 1), (3, 1)] false [false, false, false, false], y127⟩
theorem j127 : TIok Tryz.prog 127 i127 := ⟨by kernel_rfl, by kernel_rfl, by kernel_rfl, by kernel_rfl, ⟨by kernel_rfl, by kernel_rfl, by kernel_rfl, ⟨by kernel_rfl, by kernel_rfl, by kernel_rfl, by kernel_rfl, trivial⟩, (fun h => by cases h), by kernel_rfl⟩⟩
def i128 : TI := ⟨4, 96, .agg #[.slice none 0 0, .slice none 0 0, .slice none 0 0, .slice none 0 0], .agg [(0, 1), (1, 1), (2, 1), (3, 1)] false [false, false, false, false], y128⟩
theorem j128 : TIok Tryz.prog 128 i128 := ⟨by kernel_rfl, by kernel_rfl, by kernel_rfl, by kernel_rfl, ⟨by kernel_rfl, by kernel_rfl, by kernel_rfl, ⟨by kernel_rfl, by kernel_rfl, by kernel_rfl, by kernel_rfl, trivial⟩, (fun h => by cases h), by kernel_rfl⟩⟩
def i131 : TI := ⟨4, 96, .agg #[.slice none 0 0, .slice none 0 0, .slice none 0 0, .slice none 0 0], .agg [(0, 1), (1, 1), (2, 1), (3, 1)] false [false, false, false, false], y131⟩
theorem j131 : TIok Tryz.prog 131 i131 := ⟨by kernel_rfl, by kernel_rfl, by kernel_rfl, by kernel_rfl, ⟨by kernel_rfl, by kernel_rfl, by kernel_rfl, ⟨by kernel_rfl, by kernel_rfl, by kernel_rfl, by kernel_rfl, trivial⟩, (fun h => by cases h), by kernel_rfl⟩⟩
def i133 : TI := ⟨1, 24, .slice none 0 0, .sl 163, (.sl y163)⟩
theorem j133 : TIok Tryz.prog 133 i133 := ⟨by kernel_rfl, by kernel_rfl, by kernel_rfl, by kernel_rfl, ⟨by kernel_rfl, by kernel_rfl⟩⟩
def i140 : TI := ⟨3, 48, .agg #[.string ⟨#[]⟩, .int .i64 0, .slice none 0 0], .agg [(0, 1), (1, 1), (2, 1)] false [false, false, false], y140⟩
theorem j140 : TIok Tryz.prog 140 i140 := ⟨by kernel_rfl, by kernel_rfl, by kernel_rfl, by kernel_rfl, ⟨by kernel_rfl, by kernel_rfl, by kernel_rfl, ⟨by kernel_rfl, by kernel_rfl, by kernel_rfl, trivial⟩, (fun h => by cases h), by kernel_rfl⟩⟩
def i141 : TI := ⟨3, 48, .agg #[.string ⟨#[]⟩, .int .i64 0, .slice none 0 0], .agg [(0, 1), (1, 1), (2, 1)] false [false, false, false], y141⟩
theorem j141 : TIok Tryz.prog 141 i141 := ⟨by kernel_rfl, by kernel_rfl, by kernel_rfl, by kernel_rfl, ⟨by kernel_rfl, by kernel_rfl, by kernel_rfl, ⟨by kernel_rfl, by kernel_rfl, by kernel_rfl, trivial⟩, (fun h => by cases h), by kernel_rfl⟩⟩
def i142 : TI := ⟨3, 32, .agg #[.string ⟨#[]⟩, .int .i64 0, .int .i64 0], .agg [(0, 1), (1, 1), (2, 1)] false [false, false, false], y142⟩
theorem j142 : TIok Tryz.prog 142 i142 := ⟨by kernel_rfl, by kernel_rfl, by kernel_rfl, by kernel_rfl, ⟨by kernel_rfl, by kernel_rfl, by kernel_rfl, ⟨by kernel_rfl, by kernel_rfl, by kernel_rfl, trivial⟩, (fun h => by cases h), by kernel_rfl⟩⟩
def i143 : TI := ⟨3, 32, .agg #[.string ⟨#[]⟩, .int .i64 0, .int .i64 0], .agg [(0, 1), (1, 1), (2, 1)] false [false, false, false], y143⟩
theorem j143 : TIok Tryz.prog 143 i143 := ⟨by kernel_rfl, by kernel_rfl, by kernel_rfl, by kernel_rfl, ⟨by kernel_rfl, by kernel_rfl, by kernel_rfl, ⟨by kernel_rfl, by kernel_rfl, by kernel_rfl, trivial⟩, (fun h => by cases h), by kernel_rfl⟩⟩
def i149 : TI := ⟨1, 24, .slice none 0 0, .sl 212, (.sl y212)⟩
theorem j149 : TIok Tryz.prog 149 i149 := ⟨by kernel_rfl, by kernel_rfl, by kernel_rfl, by kernel_rfl, ⟨by kernel_rfl, by kernel_rfl⟩⟩
def i150 : TI := ⟨1, 24, .slice none 0 0, .sl 89, (.sl y89)⟩
theorem j150 : TIok Tryz.prog 150 i150 := ⟨by kernel_rfl, by kernel_rfl, by kernel_rfl, by kernel_rfl, ⟨by kernel_rfl, by kernel_rfl⟩⟩
def i151 : TI := ⟨7, 112, .agg #[.string ⟨#[]⟩, .int .i64 0, .slice none 0 0, .slice none 0 0, .slice none 0 0, .int .i64 0, .int .i64 0], .agg [(0, 1), (1, 1), (2, 1), (3, 1), (4, 1), (5, 1), (6, 1)] false [false, false, false, false, false, false, false], y151⟩
theorem j151 : TIok Tryz.prog 151 i151 := ⟨by kernel_rfl, by kernel_rfl, by kernel_rfl, by kernel_rfl, ⟨by kernel_rfl, by kernel_rfl, by kernel_rfl, ⟨by kernel_rfl, by kernel_rfl, by kernel_rfl, by kernel_rfl, by kernel_rfl, by kernel_rfl, by kernel_rfl, trivial⟩, (fun h => by cases h), by kernel_rfl⟩⟩
def i152 : TI := ⟨7, 112, .agg #[.string ⟨#[]⟩, .int .i64 0, .slice none 0 0, .slice none 0 0, .slice none 0 0, .int .i64 0, .int .i64 0], .agg [(0, 1), (1, 1), (2, 1), (3, 1), (4, 1), (5, 1), (6, 1)] false [false, false, false, false, false, false, false], y152⟩
theorem j152 : TIok Tryz.prog 152 i152 := ⟨by kernel_rfl, by kernel_rfl, by kernel_rfl, by kernel_rfl, ⟨by kernel_rfl, by kernel_rfl, by kernel_rfl, ⟨by kernel_rfl, by kernel_rfl, by kernel_rfl, by kernel_rfl, by kernel_rfl, by kernel_rfl, by kernel_rfl, trivial⟩, (fun h => by cases h), by kernel_rfl⟩⟩
def i157 : TI := ⟨1, 24, .slice none 0 0, .sl 161, (.sl y161)⟩
theorem j157 : TIok Tryz.prog 157 i157 := ⟨by kernel_rfl, by kernel_rfl, by kernel_rfl, by kernel_rfl, ⟨by kernel_rfl, by kernel_rfl⟩⟩
def i160 : TI := ⟨2, 16, .agg #[.int .i64 0, .int .i64 0], .agg [(0, 1), (1, 1)] true [false, false], y160⟩
theorem j160 : TIok Tryz.prog 160 i160 := ⟨by kernel_rfl, by kernel_rfl, by kernel_rfl, by kernel_rfl, ⟨by kernel_rfl, by kernel_rfl, by kernel_rfl, ⟨by kernel_rfl, by kernel_rfl, trivial⟩, (fun _ => by kernel_rfl), by kernel_rfl⟩⟩
def i161 : TI := ⟨2, 16, .agg #[.int .i64 0, .int .i64 0], .agg [(0, 1), (1, 1)] true [false, false], y161⟩
theorem j161 : TIok Tryz.prog 161 i161 := ⟨by kernel_rfl, by kernel_rfl, by kernel_rfl, by kernel_rfl, ⟨by kernel_rfl, by kernel_rfl, by kernel_rfl, ⟨by kernel_rfl, by kernel_rfl, trivial⟩, (fun _ => by kernel_rfl), by kernel_rfl⟩⟩
def i162 : TI := ⟨4, 32, .agg #[.int .i64 0, .int .i64 0, .int .i64 0, .bool false], .agg [(0, 1), (1, 1), (2, 1), (3, 1)] false [false, false, false, false], y162⟩
theorem j162 : TIok Tryz.prog 162 i162 := ⟨by kernel_rfl, by kernel_rfl, by kernel_rfl, by kernel_rfl, ⟨by kernel_rfl, by kernel_rfl, by kernel_rfl, ⟨by kernel_rfl, by kernel_rfl, by kernel_rfl, by kernel_rfl, trivial⟩, (fun h => by cases h), by kernel_rfl⟩⟩
def i163 : TI := ⟨4, 32, .agg #[.int .i64 0, .int .i64 0, .int .i64 0, .bool false], .agg [(0, 1), (1, 1), (2, 1), (3, 1)] false [false, false, false, false], y163⟩
theorem j163 : TIok Tryz.prog 163 i163 := ⟨by kernel_rfl, by kernel_rfl, by kernel_rfl, by kernel_rfl, ⟨by kernel_rfl, by kernel_rfl, by kernel_rfl, ⟨by kernel_rfl, by kernel_rfl, by kernel_rfl, by kernel_rfl, trivial⟩, (fun h => by cases h), by kernel_rfl⟩⟩
def i167 : TI := ⟨1, 24, .slice none 0 0, .sl 175, (.sl y175)⟩
theorem j167 : TIok Tryz.prog 167 i167 := ⟨by kernel_rfl, by kernel_rfl, by kernel_rfl, by kernel_rfl, ⟨by kernel_rfl, by kernel_rfl⟩⟩
def i168 : TI := ⟨1, 24, .slice none 0 0, .sl 94, (.sl (.sl (.int .i64)))⟩
theorem j168 : TIok Tryz.prog 168 i168 := ⟨by kernel_rfl, by kernel_rfl, by kernel_rfl, by kernel_rfl, ⟨by kernel_rfl, by kernel_rfl⟩⟩
def i169 : TI := ⟨10, 240, .agg #[.slice none 0 0, .slice none 0 0, .slice none 0 0, .slice none 0 0, .slice none 0 0, .slice none 0 0, .slice none 0 0, .slice none 0 0, .slice none 0 0, .slice none 0 0], .agg [(0, 5), (5, 1), (6, 1), (7, 1), (8, 1), (9, 1)] false [true, false, false, false, false, false], y169⟩
theorem j169 : TIok Tryz.prog 169 i169 := ⟨by kernel_rfl, by kernel_rfl, by kernel_rfl, by kernel_rfl, ⟨by kernel_rfl, by kernel_rfl, by kernel_rfl, ⟨by kernel_rfl, by kernel_rfl, by kernel_rfl, by kernel_rfl, by kernel_rfl, by kernel_rfl, trivial⟩, (fun h => by cases h), by kernel_rfl⟩⟩
def i170 : TI := ⟨10, 240, .agg #[.slice none 0 0, .slice none 0 0, .slice none 0 0, .slice none 0 0, .slice none 0 0, .slice none 0 0, .slice none 0 0, .slice none 0 0, .slice none 0 0, .slice none 0 0], .agg [(0, 5), (5, 1), (6, 1), (7, 1), (8, 1), (9, 1)] false [true, false, false, false, false, false], y170⟩
theorem j170 : TIok Tryz.prog 170 i170 := ⟨by kernel_rfl, by kernel_rfl, by kernel_rfl, by kernel_rfl, ⟨by kernel_rfl, by kernel_rfl, by kernel_rfl, ⟨by kernel_rfl, by kernel_rfl, by kernel_rfl, by kernel_rfl, by kernel_rfl, by kernel_rfl, trivial⟩, (fun h => by cases h), by kernel_rfl⟩⟩
def i174 : TI := ⟨4, 32, .agg #[.int .i64 0, .int .i64 0, .int .i64 0, .int .i64 0], .agg [(0, 1), (1, 1), (2, 1), (3, 1)] true [false, false, false, false], y174⟩
theorem j174 : TIok Tryz.prog 174 i174 := ⟨by kernel_rfl, by kernel_rfl, by kernel_rfl, by kernel_rfl, ⟨by kernel_rfl, by kernel_rfl, by kernel_rfl, ⟨by kernel_rfl, by kernel_rfl, by kernel_rfl, by kernel_rfl, trivial⟩, (fun _ => by kernel_rfl), by kernel_rfl⟩⟩
def i175 : TI := ⟨4, 32, .agg #[.int .i64 0, .int .i64 0, .int .i64 0, .int .i64 0], .agg [(0, 1), (1, 1), (2, 1), (3, 1)] true [false, false, false, false], y175⟩
theorem j175 : TIok Tryz.prog 175 i175 := ⟨by kernel_rfl, by kernel_rfl, by kernel_rfl, by kernel_rfl, ⟨by kernel_rfl, by kernel_rfl, by kernel_rfl, ⟨by kernel_rfl, by kernel_rfl, by kernel_rfl, by kernel_rfl, trivial⟩, (fun _ => by kernel_rfl), by kernel_rfl⟩⟩
def i184 : TI := ⟨1, 24, .slice none 0 0, .sl 232, (.sl y232)⟩
theorem j184 : TIok Tryz.prog 184 i184 := ⟨by kernel_rfl, by kernel_rfl, by kernel_rfl, by kernel_rfl, ⟨by kernel_rfl, by kernel_rfl⟩⟩
def i185 : TI := ⟨1, 24, .slice none 0 0, .sl 236, (.sl y236)⟩
theorem j185 : TIok Tryz.prog 185 i185 := ⟨by kernel_rfl, by kernel_rfl, by kernel_rfl, by kernel_rfl, ⟨by kernel_rfl, by kernel_rfl⟩⟩
def i186 : TI := ⟨7, 112, .agg #[.string ⟨#[]⟩, .int .i64 0, .slice none 0 0, .slice none 0 0, .slice none 0 0, .int .i64 0, .int .i64 0], .agg [(0, 1), (1, 1), (2, 1), (3, 1), (4, 1), (5, 1), (6, 1)] false [false, false, false, false, false, false, false], y186⟩
theorem j186 : TIok Tryz.prog 186 i186 := ⟨by kernel_rfl, by kernel_rfl, by kernel_rfl, by kernel_rfl, ⟨by kernel_rfl, by kernel_rfl, by kernel_rfl, ⟨by kernel_rfl, by kernel_rfl, by kernel_rfl, by kernel_rfl, by kernel_rfl, by kernel_rfl, by kernel_rfl, trivial⟩, (fun h => by cases h), by kernel_rfl⟩⟩
def i187 : TI := ⟨7, 112, .agg #[.string ⟨#[]⟩, .int .i64 0, .slice none 0 0, .slice none 0 0, .slice none 0 0, .int .i64 0, .int .i64 0], .agg [(0, 1), (1, 1), (2, 1), (3, 1), (4, 1), (5, 1), (6, 1)] false [false, false, false, false, false, false, false], y187⟩
theorem j187 : TIok Tryz.prog 187 i187 := ⟨by kernel_rfl, by kernel_rfl, by kernel_rfl, by kernel_rfl, ⟨by kernel_rfl, by kernel_rfl, by kernel_rfl, ⟨by kernel_rfl, by kernel_rfl, by kernel_rfl, by kernel_rfl, by kernel_rfl, by kernel_rfl, by kernel_rfl, trivial⟩, (fun h => by cases h), by kernel_rfl⟩⟩
def i189 : TI := ⟨3, 48, .agg #[.string ⟨#[]⟩, .int .i64 0, .slice none 0 0], .agg [(0, 1), (1, 1), (2, 1)] false [false, false, false], y189⟩
theorem j189 : TIok Tryz.prog 189 i189 := ⟨by kernel_rfl, by kernel_rfl, by kernel_rfl, by kernel_rfl, ⟨by kernel_rfl, by kernel_rfl, by kernel_rfl, ⟨by kernel_rfl, by kernel_rfl, by kernel_rfl, trivial⟩, (fun h => by cases h), by kernel_rfl⟩⟩
def i191 : TI := ⟨3, 32, .agg #[.string ⟨#[]⟩, .int .i64 0, .int .i64 0], .agg [(0, 1), (1, 1), (2, 1)] false [false, false, false], y191⟩
theorem j191 : TIok Tryz.prog 191 i191 := ⟨by kernel_rfl, by kernel_rfl, by kernel_rfl, by kernel_rfl, ⟨by kernel_rfl, by kernel_rfl, by kernel_rfl, ⟨by kernel_rfl, by kernel_rfl, by kernel_rfl, trivial⟩, (fun h => by cases h), by kernel_rfl⟩⟩
def i200 : TI := ⟨1, 24, .slice none 0 0, .sl 3, (.sl (.int .i64))⟩
theorem j200 : TIok Tryz.prog 200 i200 := ⟨by kernel_rfl, by kernel_rfl, by kernel_rfl, by kernel_rfl, ⟨by kernel_rfl, by kernel_rfl⟩⟩
def i211 : TI := ⟨4, 40, .agg #[.string ⟨#[]⟩, .int .i64 0, .int .i64 0, .bool false], .agg [(0, 1), (1, 1), (2, 1), (3, 1)] false [false, false, false, false], y211⟩
theorem j211 : TIok Tryz.prog 211 i211 := ⟨by kernel_rfl, by kernel_rfl, by kernel_rfl, by kernel_rfl, ⟨by kernel_rfl, by kernel_rfl, by kernel_rfl, ⟨by kernel_rfl, by kernel_rfl, by kernel_rfl, by kernel_rfl, trivial⟩, (fun h => by cases h), by kernel_rfl⟩⟩
def i212 : TI := ⟨4, 40, .agg #[.string ⟨#[]⟩, .int .i64 0, .int .i64 0, .bool false], .agg [(0, 1), (1, 1), (2, 1), (3, 1)] false [false, false, false, false], y212⟩
theorem j212 : TIok Tryz.prog 212 i212 := ⟨by kernel_rfl, by kernel_rfl, by kernel_rfl, by kernel_rfl, ⟨by kernel_rfl, by kernel_rfl, by kernel_rfl, ⟨by kernel_rfl, by kernel_rfl, by kernel_rfl, by kernel_rfl, trivial⟩, (fun h => by cases h), by kernel_rfl⟩⟩
def i213 : TI := ⟨1, 24, .slice none 0 0, .sl 215, (.sl (.pr (.int .i64) (.int .i64)))⟩
theorem j213 : TIok Tryz.prog 213 i213 := ⟨by kernel_rfl, by kernel_rfl, by kernel_rfl, by kernel_rfl, ⟨by kernel_rfl, by kernel_rfl⟩⟩
def i215 : TI := ⟨2, 16, .agg #[.int .i64 0, .int .i64 0], .arr 2 2, (.pr (.int .i64) (.int .i64))⟩
theorem j215 : TIok Tryz.prog 215 i215 := ⟨by kernel_rfl, by kernel_rfl, by kernel_rfl, by kernel_rfl, ⟨by kernel_rfl, by kernel_rfl⟩⟩
def i229 : TI := ⟨1, 8, .int .u64 0, .int .u64, (.int .u64)⟩
theorem j229 : TIok Tryz.prog 229 i229 := ⟨by kernel_rfl, by kernel_rfl, by kernel_rfl, by kernel_rfl, ⟨by kernel_rfl, by kernel_rfl⟩⟩
def i232 : TI := ⟨4, 40, .agg #[.string ⟨#[]⟩, .int .i64 0, .int .i64 0, .bool false], .agg [(0, 1), (1, 1), (2, 1), (3, 1)] false [false, false, false, false], y232⟩
theorem j232 : TIok Tryz.prog 232 i232 := ⟨by kernel_rfl, by kernel_rfl, by kernel_rfl, by kernel_rfl, ⟨by kernel_rfl, by kernel_rfl, by kernel_rfl, ⟨by kernel_rfl, by kernel_rfl, by kernel_rfl, by kernel_rfl, trivial⟩, (fun h => by cases h), by kernel_rfl⟩⟩
def i234 : TI := ⟨1, 24, .slice none 0 0, .sl 258, (.sl y258)⟩
theorem j234 : TIok Tryz.prog 234 i234 := ⟨by kernel_rfl, by kernel_rfl, by kernel_rfl, by kernel_rfl, ⟨by kernel_rfl, by kernel_rfl⟩⟩
def i235 : TI := ⟨6, 80, .agg #[.int .i64 0, .int .i64 0, .int .i64 0, .int .i64 0, .slice none 0 0, .slice none 0 0], .agg [(0, 1), (1, 1), (2, 1), (3, 1), (4, 1), (5, 1)] false [false, false, false, false, false, false], y235⟩
theorem j235 : TIok Tryz.prog 235 i235 := ⟨by kernel_rfl, by kernel_rfl, by kernel_rfl, by kernel_rfl, ⟨by kernel_rfl, by kernel_rfl, by kernel_rfl, ⟨by kernel_rfl, by kernel_rfl, by kernel_rfl, by kernel_rfl, by kernel_rfl, by kernel_rfl, trivial⟩, (fun h => by cases h), by kernel_rfl⟩⟩
def i236 : TI := ⟨6, 80, .agg #[.int .i64 0, .int .i64 0, .int .i64 0, .int .i64 0, .slice none 0 0, .slice none 0 0], .agg [(0, 1), (1, 1), (2, 1), (3, 1), (4, 1), (5, 1)] false [false, false, false, false, false, false], y236⟩
theorem j236 : TIok Tryz.prog 236 i236 := ⟨by kernel_rfl, by kernel_rfl, by kernel_rfl, by kernel_rfl, ⟨by kernel_rfl, by kernel_rfl, by kernel_rfl, ⟨by kernel_rfl, by kernel_rfl, by kernel_rfl, by kernel_rfl, by kernel_rfl, by kernel_rfl, trivial⟩, (fun h => by cases h), by kernel_rfl⟩⟩
def i258 : TI := ⟨3, 72, .agg #[.slice none 0 0, .slice none 0 0, .slice none 0 0], .agg [(0, 1), (1, 1), (2, 1)] false [false, false, false], y258⟩
theorem j258 : TIok Tryz.prog 258 i258 := ⟨by kernel_rfl, by kernel_rfl, by kernel_rfl, by kernel_rfl, ⟨by kernel_rfl, by kernel_rfl, by kernel_rfl, ⟨by kernel_rfl, by kernel_rfl, by kernel_rfl, trivial⟩, (fun h => by cases h), by kernel_rfl⟩⟩
def i263 : TI := ⟨256, 256, .agg #[.bool false, .bool false, .bool false, .bool false, .bool false, .bool false, .bool false, .bool false, .bool false, .bool false, .bool false, .bool false, .bool false, .bool false, .bool false, .bool false, .bool false, .bool false, .bool false, .bool false, .bool false, .bool false, .bool false, .bool false, .bool false, .bool false, .bool false, .bool false, .bool false, .bool false, .bool false, .bool false, .bool false, .bool false, .bool false, .bool false, .bool false, .bool false, .bool false, .bool false, .bool false, .bool false, .bool false, .bool false, .bool false, .bool false, .bool false, .bool false, .bool false, .bool false, .bool false, .bool false, .bool false, .bool false, .bool false, .bool false, .bool false, .bool false, .bool false, .bool false, .bool false, .bool false, .bool false, .bool false, .bool false, .bool false, .bool false, .bool false, .bool false, .bool false, .bool false, .bool false, .bool false, .bool false, .bool false, .bool false, .bool false, .bool false, .bool false, .bool false, .bool false, .bool false, .bool false, .bool false, .bool false, .bool false, .bool false, .bool false, .bool false, .bool false, .bool false, .bool false, .bool false, .bool false, .bool false, .bool false, .bool false, .bool false, .bool false, .bool false, .bool false, .bool false, .bool false, .bool false, .bool false, .bool false, .bool false, .bool false, .bool false, .bool false, .bool false, .bool false, .bool false, .bool false, .bool false, .bool false, .bool false, .bool false, .bool false, .bool false, .bool false, .bool false, .bool false, .bool false, .bool false, .bool false, .bool false, .bool false, .bool false, .bool false, .bool false, .bool false, .bool false, .bool false, .bool false, .bool false, .bool false, .bool false, .bool false, .bool false, .bool false, .bool false, .bool false, .bool false, .bool false, .bool false, .bool false, .bool false, .bool false, .bool false, .bool false, .bool false, .bool false, .bool false, .bool false, .bool false, .bool false, .bool false, .bool false, .bool false, .bool false, .bool false, .bool false, .bool false, .bool false, .bool false, .bool false, .bool false, .bool false, .bool false, .bool false, .bool false, .bool false, .bool false, .bool false, .bool false, .bool false, .bool false, .bool false, .bool false, .bool false, .bool false, .bool false, .bool false, .bool false, .bool false, .bool false, .bool false, .bool false, .bool false, .bool false, .bool false, .bool false, .bool false, .bool false, .bool false, .bool false, .bool false, .bool false, .bool false, .bool false, .bool false, .bool false, .bool false, .bool false, .bool false, .bool false, .bool false, .bool false, .bool false, .bool false, .bool false, .bool false, .bool false, .bool false, .bool false, .bool false, .bool false, .bool false, .bool false, .bool false, .bool false, .bool false, .bool false, .bool false, .bool false, .bool false, .bool false, .bool false, .bool false, .bool false, .bool false, .bool false, .bool false, .bool false, .bool false, .bool false, .bool false, .bool false, .bool false, .bool false, .bool false, .bool false, .bool false, .bool false, .bool false, .bool false, .bool false, .bool false, .bool false, .bool false, .bool false, .bool false, .bool false, .bool false, .bool false], .arr 256 4, .bool⟩
theorem j263 : TIok Tryz.prog 263 i263 := ⟨by kernel_rfl, by kernel_rfl, by kernel_rfl, by kernel_rfl, ⟨by kernel_rfl, by kernel_rfl⟩⟩
def i264 : TI := ⟨256, 256, .agg #[.bool false, .bool false, .bool false, .bool false, .bool false, .bool false, .bool false, .bool false, .bool false, .bool false, .bool false, .bool false, .bool false, .bool false, .bool false, .bool false, .bool false, .bool false, .bool false, .bool false, .bool false, .bool false, .bool false, .bool false, .bool false, .bool false, .bool false, .bool false, .bool false, .bool false, .bool false, .bool false, .bool false, .bool false, .bool false, .bool false, .bool false, .bool false, .bool false, .bool false, .bool false, .bool false, .bool false, .bool false, .bool false, .bool false, .bool false, .bool false, .bool false, .bool false, .bool false, .bool false, .bool false, .bool false, .bool false, .bool false, .bool false, .bool false, .bool false, .bool false, .bool false, .bool false, .bool false, .bool false, .bool false, .bool false, .bool false, .bool false, .bool false, .bool false, .bool false, .bool false, .bool false, .bool false, .bool false, .bool false, .bool false, .bool false, .bool false, .bool false, .bool false, .bool false, .bool false, .bool false, .bool false, .bool false, .bool false, .bool false, .bool false, .bool false, .bool false, .bool false, .bool false, .bool false, .bool false, .bool false, .bool false, .bool false, .bool false, .bool false, .bool false, .bool false, .bool false, .bool false, .bool false, .bool false, .bool false, .bool false, .bool false, .bool false, .bool false, .bool false, .bool false, .bool false, .bool false, .bool false, .bool false, .bool false, .bool false, .bool false, .bool false, .bool false, .bool false, .bool false, .bool false, .bool false, .bool false, .bool false, .bool false, .bool false, .bool false, .bool false, .bool false, .bool false, .bool false, .bool false, .bool false, .bool false, .bool false, .bool false, .bool false, .bool false, .bool false, .bool false, .bool false, .bool false, .bool false, .bool false, .bool false, .bool false, .bool false, .bool false, .bool false, .bool false, .bool false, .bool false, .bool false, .bool false, .bool false, .bool false, .bool false, .bool false, .bool false, .bool false, .bool false, .bool false, .bool false, .bool false, .bool false, .bool false, .bool false, .bool false, .bool false, .bool false, .bool false, .bool false, .bool false, .bool false, .bool false, .bool false, .bool false, .bool false, .bool false, .bool false, .bool false, .bool false, .bool false, .bool false, .bool false, .bool false, .bool false, .bool false, .bool false, .bool false, .bool false, .bool false, .bool false, .bool false, .bool false, .bool false, .bool false, .bool false, .bool false, .bool false, .bool false, .bool false, .bool false, .bool false, .bool false, .bool false, .bool false, .bool false, .bool false, .bool false, .bool false, .bool false, .bool false, .bool false, .bool false, .bool false, .bool false, .bool false, .bool false, .bool false, .bool false, .bool false, .bool false, .bool false, .bool false, .bool false, .bool false, .bool false, .bool false, .bool false, .bool false, .bool false, .bool false, .bool false, .bool false, .bool false, .bool false, .bool false, .bool false, .bool false, .bool false, .bool false, .bool false, .bool false, .bool false, .bool false, .bool false, .bool false, .bool false, .bool false, .bool false, .bool false], .arr 256 4, .bool⟩
theorem j264 : TIok Tryz.prog 264 i264 := ⟨by kernel_rfl, by kernel_rfl, by kernel_rfl, by kernel_rfl, ⟨by kernel_rfl, by kernel_rfl⟩⟩
def i268 : TI := ⟨1, 8, .pointer none, .oth, .bool⟩
theorem j268 : TIok Tryz.prog 268 i268 := ⟨by kernel_rfl, by kernel_rfl, by kernel_rfl, by kernel_rfl, (show notAggB Tryz.prog 268 = true by kernel_rfl)⟩
def i282 : TI := ⟨256, 256, .agg #[.int .u8 0, .int .u8 0, .int .u8 0, .int .u8 0, .int .u8 0, .int .u8 0, .int .u8 0, .int .u8 0, .int .u8 0, .int .u8 0, .int .u8 0, .int .u8 0, .int .u8 0, .int .u8 0, .int .u8 0, .int .u8 0, .int .u8 0, .int .u8 0, .int .u8 0, .int .u8 0, .int .u8 0, .int .u8 0, .int .u8 0, .int .u8 0, .int .u8 0, .int .u8 0, .int .u8 0, .int .u8 0, .int .u8 0, .int .u8 0, .int .u8 0, .int .u8 0, .int .u8 0, .int .u8 0, .int .u8 0, .int .u8 0, .int .u8 0, .int .u8 0, .int .u8 0, .int .u8 0, .int .u8 0, .int .u8 0, .int .u8 0, .int .u8 0, .int .u8 0, .int .u8 0, .int .u8 0, .int .u8 0, .int .u8 0, .int .u8 0, .int .u8 0, .int .u8 0, .int .u8 0, .int .u8 0, .int .u8 0, .int .u8 0, .int .u8 0, .int .u8 0, .int .u8 0, .int .u8 0, .int .u8 0, .int .u8 0, .int .u8 0, .int .u8 0, .int .u8 0, .int .u8 0, .int .u8 0, .int .u8 0, .int .u8 0, .int .u8 0, .int .u8 0, .int .u8 0, .int .u8 0, .int .u8 0, .int .u8 0, .int .u8 0, .int .u8 0, .int .u8 0, .int .u8 0, .int .u8 0, .int .u8 0, .int .u8 0, .int .u8 0, .int .u8 0, .int .u8 0, .int .u8 0, .int .u8 0, .int .u8 0, .int .u8 0, .int .u8 0, .int .u8 0, .int .u8 0, .int .u8 0, .int .u8 0, .int .u8 0, .int .u8 0, .int .u8 0, .int .u8 0, .int .u8 0, .int .u8 0, .int .u8 0, .int .u8 0, .int .u8 0, .int .u8 0, .int .u8 0, .int .u8 0, .int .u8 0, .int .u8 0, .int .u8 0, .int .u8 0, .int .u8 0, .int .u8 0, .int .u8 0, .int .u8 0, .int .u8 0, .int .u8 0, .int .u8 0, .int .u8 0, .int .u8 0, .int .u8 0, .int .u8 0, .int .u8 0, .int .u8 0, .int .u8 0, .int .u8 0, .int .u8 0, .int .u8 0, .int .u8 0, .int .u8 0, .int .u8 0, .int .u8 0, .int .u8 0, .int .u8 0, .int .u8 0, .int .u8 0, .int .u8 0, .int .u8 0, .int .u8 0, .int .u8 0, .int .u8 0, .int .u8 0, .int .u8 0, .int .u8 0, .int .u8 0, .int .u8 0, .int .u8 0, .int .u8 0, .int .u8 0, .int .u8 0, .int .u8 0, .int .u8 0, .int .u8 0, .int .u8 0, .int .u8 0, .int .u8 0, .int .u8 0, .int .u8 0, .int .u8 0, .int .u8 0, .int .u8 0, .int .u8 0, .int .u8 0, .int .u8 0, .int .u8 0, .int .u8 0, .int .u8 0, .int .u8 0, .int .u8 0, .int .u8 0, .int .u8 0, .int .u8 0, .int .u8 0, .int .u8 0, .int .u8 0, .int .u8 0, .int .u8 0, .int .u8 0, .int .u8 0, .int .u8 0, .int .u8 0, .int .u8 0, .int .u8 0, .int .u8 0, .int .u8 0, .int .u8 0, .int .u8 0, .int .u8 0, .int .u8 0, .int .u8 0, .int .u8 0, .int .u8 0, .int .u8 0, .int .u8 0, .int .u8 0, .int .u8 0, .int .u8 0, .int .u8 0, .int .u8 0, .int .u8 0, .int .u8 0, .int .u8 0, .int .u8 0, .int .u8 0, .int .u8 0, .int .u8 0, .int .u8 0, .int .u8 0, .int .u8 0, .int .u8 0, .int .u8 0, .int .u8 0, .int .u8 0, .int .u8 0, .int .u8 0, .int .u8 0, .int .u8 0, .int .u8 0, .int .u8 0, .int .u8 0, .int .u8 0, .int .u8 0, .int .u8 0, .int .u8 0, .int .u8 0, .int .u8 0, .int .u8 0, .int .u8 0, .int .u8 0, .int .u8 0, .int .u8 0, .int .u8 0, .int .u8 0, .int .u8 0, .int .u8 0, .int .u8 0, .int .u8 0, .int .u8 0, .int .u8 0, .int .u8 0, .int .u8 0, .int .u8 0, .int .u8 0, .int .u8 0, .int .u8 0, .int .u8 0, .int .u8 0, .int .u8 0, .int .u8 0, .int .u8 0, .int .u8 0, .int .u8 0, .int .u8 0, .int .u8 0, .int .u8 0, .int .u8 0, .int .u8 0], .arr 256 5, .bool⟩
theorem j282 : TIok Tryz.prog 282 i282 := ⟨by kernel_rfl, by kernel_rfl, by kernel_rfl, by kernel_rfl, ⟨by kernel_rfl, by kernel_rfl⟩⟩
def i283 : TI := ⟨2, 2, .agg #[.int .u8 0, .int .u8 0], .agg [(0, 1), (1, 1)] true [false, false], y283⟩
theorem j283 : TIok Tryz.prog 283 i283 := ⟨by kernel_rfl, by kernel_rfl, by kernel_rfl, by kernel_rfl, ⟨by kernel_rfl, by kernel_rfl, by kernel_rfl, ⟨by kernel_rfl, by kernel_rfl, trivial⟩, (fun _ => by kernel_rfl), by kernel_rfl⟩⟩
def i284 : TI := ⟨2, 2, .agg #[.int .u8 0, .int .u8 0], .agg [(0, 1), (1, 1)] true [false, false], y284⟩
theorem j284 : TIok Tryz.prog 284 i284 := ⟨by kernel_rfl, by kernel_rfl, by kernel_rfl, by kernel_rfl, ⟨by kernel_rfl, by kernel_rfl, by kernel_rfl, ⟨by kernel_rfl, by kernel_rfl, trivial⟩, (fun _ => by kernel_rfl), by kernel_rfl⟩⟩
def i285 : TI := ⟨32, 32, .agg #[.int .u8 0, .int .u8 0, .int .u8 0, .int .u8 0, .int .u8 0, .int .u8 0, .int .u8 0, .int .u8 0, .int .u8 0, .int .u8 0, .int .u8 0, .int .u8 0, .int .u8 0, .int .u8 0, .int .u8 0, .int .u8 0, .int .u8 0, .int .u8 0, .int .u8 0, .int .u8 0, .int .u8 0, .int .u8 0, .int .u8 0, .int .u8 0, .int .u8 0, .int .u8 0, .int .u8 0, .int .u8 0, .int .u8 0, .int .u8 0, .int .u8 0, .int .u8 0], .arr 16 284, (.pr y284 (.pr y284 (.pr y284 (.pr y284 (.pr y284 (.pr y284 (.pr y284 (.pr y284 (.pr y284 (.pr y284 (.pr y284 (.pr y284 (.pr y284 (.pr y284 (.pr y284 y284)))))))))))))))⟩
theorem j285 : TIok Tryz.prog 285 i285 := ⟨by kernel_rfl, by kernel_rfl, by kernel_rfl, by kernel_rfl, ⟨by kernel_rfl, by kernel_rfl⟩⟩
def i290 : TI := ⟨4, 40, .agg #[.pointer none, .pointer none, .pointer none, .string ⟨#[]⟩], .agg [(0, 1), (1, 1), (2, 1), (3, 1)] false [false, false, false, false], .bool⟩
theorem j290 : TIok Tryz.prog 290 i290 := ⟨by kernel_rfl, by kernel_rfl, by kernel_rfl, by kernel_rfl, ⟨by kernel_rfl, by kernel_rfl, by kernel_rfl, ⟨by kernel_rfl, by kernel_rfl, by kernel_rfl, by kernel_rfl, trivial⟩, (fun h => by cases h), by kernel_rfl⟩⟩
def i291 : TI := ⟨4, 40, .agg #[.pointer none, .pointer none, .pointer none, .string ⟨#[]⟩], .agg [(0, 1), (1, 1), (2, 1), (3, 1)] false [false, false, false, false], .bool⟩
theorem j291 : TIok Tryz.prog 291 i291 := ⟨by kernel_rfl, by kernel_rfl, by kernel_rfl, by kernel_rfl, ⟨by kernel_rfl, by kernel_rfl, by kernel_rfl, ⟨by kernel_rfl, by kernel_rfl, by kernel_rfl, by kernel_rfl, trivial⟩, (fun h => by cases h), by kernel_rfl⟩⟩
def i296 : TI := ⟨1, 4, .int .u32 0, .int .u32, (.int .u32)⟩
theorem j296 : TIok Tryz.prog 296 i296 := ⟨by kernel_rfl, by kernel_rfl, by kernel_rfl, by kernel_rfl, ⟨by kernel_rfl, by kernel_rfl⟩⟩
def i297 : TI := ⟨1, 1, .int .u8 0, .int .u8, (.int .u8)⟩
theorem j297 : TIok Tryz.prog 297 i297 := ⟨by kernel_rfl, by kernel_rfl, by kernel_rfl, by kernel_rfl, ⟨by kernel_rfl, by kernel_rfl⟩⟩
def i298 : TI := ⟨1, 1, .int .u8 0, .int .u8, (.int .u8)⟩
theorem j298 : TIok Tryz.prog 298 i298 := ⟨by kernel_rfl, by kernel_rfl, by kernel_rfl, by kernel_rfl, ⟨by kernel_rfl, by kernel_rfl⟩⟩
def i300 : TI := ⟨1, 8, .pointer none, .oth, (.pt (.int .u8))⟩
theorem j300 : TIok Tryz.prog 300 i300 := ⟨by kernel_rfl, by kernel_rfl, by kernel_rfl, by kernel_rfl, (show notAggB Tryz.prog 300 = true by kernel_rfl)⟩
def i301 : TI := ⟨1, 4, .int .i32 0, .int .i32, (.int .i32)⟩
theorem j301 : TIok Tryz.prog 301 i301 := ⟨by kernel_rfl, by kernel_rfl, by kernel_rfl, by kernel_rfl, ⟨by kernel_rfl, by kernel_rfl⟩⟩
def i302 : TI := ⟨1, 4, .int .i32 0, .int .i32, (.int .i32)⟩
theorem j302 : TIok Tryz.prog 302 i302 := ⟨by kernel_rfl, by kernel_rfl, by kernel_rfl, by kernel_rfl, ⟨by kernel_rfl, by kernel_rfl⟩⟩
def Γ : Tab' := [(2, i2), (3, i3), (4, i4), (5, i5), (6, i6), (7, i7), (8, i8), (9, i9), (10, i10), (11, i11), (12, i12), (13, i13), (14, i14), (15, i15), (16, i16), (17, i17), (18, i18), (19, i19), (21, i21), (22, i22), (23, i23), (24, i24), (25, i25), (26, i26), (27, i27), (28, i28), (29, i29), (30, i30), (31, i31), (32, i32), (35, i35), (36, i36), (37, i37), (38, i38), (39, i39), (40, i40), (41, i41), (42, i42), (43, i43), (44, i44), (53, i53), (56, i56), (60, i60), (61, i61), (62, i62), (63, i63), (66, i66), (67, i67), (68, i68), (80, i80), (81, i81), (82, i82), (87, i87), (88, i88), (89, i89), (94, i94), (95, i95), (96, i96), (101, i101), (104, i104), (105, i105), (106, i106), (107, i107), (109, i109), (110, i110), (111, i111), (127, i127), (128, i128), (131, i131), (133, i133), (140, i140), (141, i141), (142, i142), (143, i143), (149, i149), (150, i150), (151, i151), (152, i152), (157, i157), (160, i160), (161, i161), (162, i162), (163, i163), (167, i167), (168, i168), (169, i169), (170, i170), (174, i174), (175, i175), (184, i184), (185, i185), (186, i186), (187, i187), (189, i189), (191, i191), (200, i200), (211, i211), (212, i212), (213, i213), (215, i215), (229, i229), (232, i232), (234, i234), (235, i235), (236, i236), (258, i258), (263, i263), (264, i264), (268, i268), (282, i282), (283, i283), (284, i284), (285, i285), (290, i290), (291, i291), (296, i296), (297, i297), (298, i298), (300, i300), (301, i301), (302, i302)]
theorem tok : TabOk Tryz.prog Γ := tab_cons j2 (tab_cons j3 (tab_cons j4 (tab_cons j5 (tab_cons j6 (tab_cons j7 (tab_cons j8 (tab_cons j9 (tab_cons j10 (tab_cons j11 (tab_cons j12 (tab_cons j13 (tab_cons j14 (tab_cons j15 (tab_cons j16 (tab_cons j17 (tab_cons j18 (tab_cons j19 (tab_cons j21 (tab_cons j22 (tab_cons j23 (tab_cons j24 (tab_cons j25 (tab_cons j26 (tab_cons j27 (tab_cons j28 (tab_cons j29 (tab_cons j30 (tab_cons j31 (tab_cons j32 (tab_cons j35 (tab_cons j36 (tab_cons j37 (tab_cons j38 (tab_cons j39 (tab_cons j40 (tab_cons j41 (tab_cons j42 (tab_cons j43 (tab_cons j44 (tab_cons j53 (tab_cons j56 (tab_cons j60 (tab_cons j61 (tab_cons j62 (tab_cons j63 (tab_cons j66 (tab_cons j67 (tab_cons j68 (tab_cons j80 (tab_cons j81 (tab_cons j82 (tab_cons j87 (tab_cons j88 (tab_cons j89 (tab_cons j94 (tab_cons j95 (tab_cons j96 (tab_cons j101 (tab_cons j104 (tab_cons j105 (tab_cons j106 (tab_cons j107 (tab_cons j109 (tab_cons j110 (tab_cons j111 (tab_cons j127 (tab_cons j128 (tab_cons j131 (tab_cons j133 (tab_cons j140 (tab_cons j141 (tab_cons j142 (tab_cons j143 (tab_cons j149 (tab_cons j150 (tab_cons j151 (tab_cons j152 (tab_cons j157 (tab_cons j160 (tab_cons j161 (tab_cons j162 (tab_cons j163 (tab_cons j167 (tab_cons j168 (tab_cons j169 (tab_cons j170 (tab_cons j174 (tab_cons j175 (tab_cons j184 (tab_cons j185 (tab_cons j186 (tab_cons j187 (tab_cons j189 (tab_cons j191 (tab_cons j200 (tab_cons j211 (tab_cons j212 (tab_cons j213 (tab_cons j215 (tab_cons j229 (tab_cons j232 (tab_cons j234 (tab_cons j235 (tab_cons j236 (tab_cons j258 (tab_cons j263 (tab_cons j264 (tab_cons j268 (tab_cons j282 (tab_cons j283 (tab_cons j284 (tab_cons j285 (tab_cons j290 (tab_cons j291 (tab_cons j296 (tab_cons j297 (tab_cons j298 (tab_cons j300 (tab_cons j301 (tab_cons j302 (tab_nil)))))))))))))))))))))))))))))))))))))))))))))))))))))))))))))))))))))))))))))))))))))))))))))))))))))))))))))))))))))))))
end Go.Proofs.YtippccamjlfafaaGreatDoor
