/- The types of this seat's program. -/
import Derived.Test.YtlfeppknkfknhaaGreatDoorXD
import Derived.Test.YtlfeppknkfknhaaGreatDoorProg
import Derived.KernelRfl
section
namespace Go.Proofs.YtlfeppknkfknhaaGreatDoor
open Go Go.Proofs Go.Proofs.Sv Go.Proofs.Xv
instance:Mixed Tryz.prog:=⟨by kernel_rfl⟩
abbrev y7:Ty:=.pr (.int .i64) (.pr (.int .i64) (.pr .bool ((.int .u8))))
abbrev y8:Ty:=.pr (.int .i64) (.pr (.int .i64) (.pr .bool ((.int .u8))))
abbrev y13:Ty:=.pr .str ((.int .u64))
abbrev y14:Ty:=.pr .str ((.int .u64))
abbrev y197:Ty:=.pr .str (.pr (.int .i64) (.pr (.int .i64) (.bool)))
abbrev Y197:Type:=ByteArray×Int×Int×Bool
abbrev y225:Ty:=.pr (.sl (.int .i64)) (.pr (.sl (.int .i64)) ((.sl (.int .i64))))
abbrev Y225:Type:=List Int×List Int×List Int
abbrev y201:Ty:=.pr (.int .i64) (.pr (.int .i64) (.pr (.int .i64) (.pr (.int .i64) (.pr (.sl y225) ((.sl y225))))))
abbrev Y201:Type:=Int×Int×Int×Int×List Y225×List Y225
abbrev y136:Ty:=.pr .str (.pr (.int .i64) (.pr (.sl y197) (.pr (.sl y201) (.pr (.sl (.int .i64)) (.pr (.int .i64) ((.int .i64)))))))
abbrev Y136:Type:=ByteArray×Int×List Y197×List Y201×List Int×Int×Int
abbrev y138:Ty:=.pr .str (.pr (.int .i64) ((.sl (.int .i64))))
abbrev Y138:Type:=ByteArray×Int×List Int
abbrev y141:Ty:=.pr .str (.pr (.int .i64) ((.int .i64)))
abbrev Y141:Type:=ByteArray×Int×Int
abbrev y29:Ty:=.pr (.sl y138) (.pr (.sl .str) ((.sl y141)))
abbrev Y29:Type:=List Y138×List ByteArray×List Y141
abbrev y86:Ty:=.pr (.sl (.int .i64)) (.pr (.sl (.int .i64)) (.pr (.sl (.int .i64)) ((.sl (.int .i64)))))
abbrev Y86:Type:=List Int×List Int×List Int×List Int
abbrev y32:Ty:=.pr ((.sl y136)) (.pr y29 ((.sl y86)))
abbrev Y32:Type:=List Y136×Y29×List Y86
abbrev y194:Ty:=.pr .str (.pr (.int .i64) (.pr (.int .i64) (.bool)))
abbrev Y194:Type:=ByteArray×Int×Int×Bool
abbrev y213:Ty:=.pr (.sl (.int .i64)) (.pr (.sl (.int .i64)) ((.sl (.int .i64))))
abbrev Y213:Type:=List Int×List Int×List Int
abbrev y97:Ty:=.pr (.int .i64) (.pr (.int .i64) (.pr (.int .i64) (.pr (.int .i64) (.pr (.sl y213) ((.sl y213))))))
abbrev Y97:Type:=Int×Int×Int×Int×List Y213×List Y213
abbrev y92:Ty:=.pr .str (.pr (.int .i64) (.pr (.sl y194) (.pr (.sl y97) (.pr (.sl (.int .i64)) (.pr (.int .i64) ((.int .i64)))))))
abbrev Y92:Type:=ByteArray×Int×List Y194×List Y97×List Int×Int×Int
abbrev y94:Ty:=.pr .str (.pr (.int .i64) ((.sl (.int .i64))))
abbrev Y94:Type:=ByteArray×Int×List Int
abbrev y149:Ty:=.pr .str (.pr (.int .i64) ((.int .i64)))
abbrev Y149:Type:=ByteArray×Int×Int
abbrev y44:Ty:=.pr (.sl y94) (.pr (.sl .str) ((.sl y149)))
abbrev Y44:Type:=List Y94×List ByteArray×List Y149
abbrev y111:Ty:=.pr (.sl (.int .i64)) (.pr (.sl (.int .i64)) (.pr (.sl (.int .i64)) ((.sl (.int .i64)))))
abbrev Y111:Type:=List Int×List Int×List Int×List Int
abbrev y46:Ty:=.pr ((.sl y92)) (.pr y44 ((.sl y111)))
abbrev y47:Ty:=.pr ((.sl y92)) (.pr y44 ((.sl y111)))
abbrev Y47:Type:=List Y92×Y44×List Y111
abbrev y148:Ty:=.pr (.int .i64) (.pr (.int .i64) (.pr (.int .i64) ((.int .i64))))
abbrev Y148:Type:=Int×Int×Int×Int
abbrev y156:Ty:=.pr (.int .i64) (.pr (.int .i64) (.pr (.int .i64) (.bool)))
abbrev Y156:Type:=Int×Int×Int×Bool
abbrev y158:Ty:=.pr y47 (.pr (.sl y156) (.pr (.sl y148) (.pr (.sl (.int .i64)) (.pr (.sl (.sl (.int .i64))) ((.sl (.int .i64)))))))
abbrev Y158:Type:=Y47×List Y156×List Y148×List Int×List (List Int)×List Int
abbrev y119:Ty:=.pr (.pt y158) ((.sl .bool))
abbrev Y119:Type:=Y158×List Bool
abbrev y146:Ty:=.pr (.int .i64) (.pr (.int .i64) (.pr (.int .i64) (.bool)))
abbrev Y146:Type:=Int×Int×Int×Bool
abbrev y118:Ty:=.pr (.pt y158) ((.sl .bool))
abbrev y236:Ty:=.pr (.int .i64) ((.int .i64))
abbrev Y236:Type:=Int×Int
def i2:TI:=⟨1,8,.int .i64 0,.int .i64,(.int .i64)⟩
def i3:TI:=⟨1,8,.int .i64 0,.int .i64,(.int .i64)⟩
def i4:TI:=⟨1,1,.bool false,.bool,.bool⟩
def i5:TI:=⟨1,1,.int .u8 0,.int .u8,(.int .u8)⟩
def i6:TI:=⟨1,1,.int .u8 0,.int .u8,(.int .u8)⟩
def i7:TI:=⟨4,24,.agg #[.int .i64 0,.int .i64 0,.bool false,.int .u8 0],.agg [(0,1),(1,1),(2,1),(3,1)] false [false,false,false,false],y7⟩
def i8:TI:=⟨4,24,.agg #[.int .i64 0,.int .i64 0,.bool false,.int .u8 0],.agg [(0,1),(1,1),(2,1),(3,1)] false [false,false,false,false],y8⟩
def i9:TI:=⟨1,16,.string ⟨#[]⟩,.str,.str⟩
def i10:TI:=⟨1,16,.string ⟨#[]⟩,.str,.str⟩
def i11:TI:=⟨1,16,.string ⟨#[]⟩,.str,.str⟩
def i12:TI:=⟨1,8,.int .u64 0,.int .u64,(.int .u64)⟩
def i13:TI:=⟨2,24,.agg #[.string ⟨#[]⟩,.int .u64 0],.agg [(0,1),(1,1)] false [false,false],y13⟩
def i14:TI:=⟨2,24,.agg #[.string ⟨#[]⟩,.int .u64 0],.agg [(0,1),(1,1)] false [false,false],y14⟩
def i15:TI:=⟨1,8,.pointer none,.ptr,.bool⟩
def i16:TI:=⟨1,8,.pointer none,.ptr,.bool⟩
def i17:TI:=⟨1,8,.pointer none,.ptr,.bool⟩
def i18:TI:=⟨1,8,.agg #[.pointer none],.agg [(0,1)] false [false],.bool⟩
def i19:TI:=⟨1,8,.agg #[.pointer none],.agg [(0,1)] false [false],.bool⟩
def i21:TI:=⟨1,4,.int .i32 0,.int .i32,(.int .i32)⟩
def i22:TI:=⟨1,24,.slice none 0 0,.sl 136,(.sl y136)⟩
def i23:TI:=⟨1,24,.agg #[.slice none 0 0],.agg [(0,1)] false [false],((.sl y136))⟩
def i24:TI:=⟨1,24,.agg #[.slice none 0 0],.agg [(0,1)] false [false],((.sl y136))⟩
def i25:TI:=⟨1,24,.slice none 0 0,.sl 138,(.sl y138)⟩
def i26:TI:=⟨1,24,.slice none 0 0,.sl 9,(.sl .str)⟩
def i32:TI:=⟨5,120,.agg #[.slice none 0 0,.slice none 0 0,.slice none 0 0,.slice none 0 0,.slice none 0 0],.agg [(0,1),(1,3),(4,1)] false [true,true,false],y32⟩
def i33:TI:=⟨1,24,.slice none 0 0,.sl 2,(.sl (.int .i64))⟩
def Γ:Tab':=[(2,⟨1,8,.int .i64 0,.int .i64,(.int .i64)⟩),(3,⟨1,8,.int .i64 0,.int .i64,(.int .i64)⟩),(4,⟨1,1,.bool false,.bool,.bool⟩),(5,⟨1,1,.int .u8 0,.int .u8,(.int .u8)⟩),(6,⟨1,1,.int .u8 0,.int .u8,(.int .u8)⟩),(8,⟨4,24,.agg #[.int .i64 0,.int .i64 0,.bool false,.int .u8 0],.agg [(0,1),(1,1),(2,1),(3,1)] false [false,false,false,false],y8⟩),(9,⟨1,16,.string ⟨#[]⟩,.str,.str⟩),(15,⟨1,8,.pointer none,.ptr,.bool⟩),(18,⟨1,8,.agg #[.pointer none],.agg [(0,1)] false [false],.bool⟩),(22,⟨1,24,.slice none 0 0,.sl 136,(.sl y136)⟩),(24,⟨1,24,.agg #[.slice none 0 0],.agg [(0,1)] false [false],((.sl y136))⟩),(25,⟨1,24,.slice none 0 0,.sl 138,(.sl y138)⟩),(26,⟨1,24,.slice none 0 0,.sl 9,(.sl .str)⟩),(27,⟨1,24,.slice none 0 0,.sl 141,(.sl y141)⟩),(29,⟨3,72,.agg #[.slice none 0 0,.slice none 0 0,.slice none 0 0],.agg [(0,1),(1,1),(2,1)] false [false,false,false],y29⟩),(30,⟨1,24,.slice none 0 0,.sl 86,(.sl y86)⟩),(32,⟨5,120,.agg #[.slice none 0 0,.slice none 0 0,.slice none 0 0,.slice none 0 0,.slice none 0 0],.agg [(0,1),(1,3),(4,1)] false [true,true,false],y32⟩),(33,⟨1,24,.slice none 0 0,.sl 2,(.sl (.int .i64))⟩),(35,⟨1,24,.slice none 0 0,.sl 33,(.sl (.sl (.int .i64)))⟩),(38,⟨1,24,.slice none 0 0,.sl 92,(.sl y92)⟩),(40,⟨1,24,.agg #[.slice none 0 0],.agg [(0,1)] false [false],((.sl y92))⟩),(41,⟨1,24,.slice none 0 0,.sl 94,(.sl y94)⟩),(42,⟨1,24,.slice none 0 0,.sl 149,(.sl y149)⟩),(44,⟨3,72,.agg #[.slice none 0 0,.slice none 0 0,.slice none 0 0],.agg [(0,1),(1,1),(2,1)] false [false,false,false],y44⟩),(45,⟨1,24,.slice none 0 0,.sl 111,(.sl y111)⟩),(46,⟨5,120,.agg #[.slice none 0 0,.slice none 0 0,.slice none 0 0,.slice none 0 0,.slice none 0 0],.agg [(0,1),(1,3),(4,1)] false [true,true,false],y46⟩),(47,⟨5,120,.agg #[.slice none 0 0,.slice none 0 0,.slice none 0 0,.slice none 0 0,.slice none 0 0],.agg [(0,1),(1,3),(4,1)] false [true,true,false],y47⟩),(61,⟨1,24,.slice none 0 0,.sl 148,(.sl y148)⟩),(65,⟨1,24,.slice none 0 0,.sl 4,(.sl .bool)⟩),(70,⟨1,8,.pointer none,.ptr,(.pt y119)⟩),(86,⟨4,96,.agg #[.slice none 0 0,.slice none 0 0,.slice none 0 0,.slice none 0 0],.agg [(0,1),(1,1),(2,1),(3,1)] false [false,false,false,false],y86⟩),(89,⟨1,24,.slice none 0 0,.sl 194,(.sl y194)⟩),(90,⟨1,24,.slice none 0 0,.sl 97,(.sl y97)⟩),(92,⟨7,112,.agg #[.string ⟨#[]⟩,.int .i64 0,.slice none 0 0,.slice none 0 0,.slice none 0 0,.int .i64 0,.int .i64 0],.agg [(0,1),(1,1),(2,1),(3,1),(4,1),(5,1),(6,1)] false [false,false,false,false,false,false,false],y92⟩),(94,⟨3,48,.agg #[.string ⟨#[]⟩,.int .i64 0,.slice none 0 0],.agg [(0,1),(1,1),(2,1)] false [false,false,false],y94⟩),(95,⟨1,24,.slice none 0 0,.sl 213,(.sl y213)⟩),(97,⟨6,80,.agg #[.int .i64 0,.int .i64 0,.int .i64 0,.int .i64 0,.slice none 0 0,.slice none 0 0],.agg [(0,1),(1,1),(2,1),(3,1),(4,1),(5,1)] false [false,false,false,false,false,false],y97⟩),(105,⟨1,24,.slice none 0 0,.sl 146,(.sl y146)⟩),(111,⟨4,96,.agg #[.slice none 0 0,.slice none 0 0,.slice none 0 0,.slice none 0 0],.agg [(0,1),(1,1),(2,1),(3,1)] false [false,false,false,false],y111⟩),(113,⟨1,8,.pointer none,.ptr,(.pt y158)⟩),(118,⟨2,32,.agg #[.pointer none,.slice none 0 0],.agg [(0,1),(1,1)] false [false,false],y118⟩),(119,⟨2,32,.agg #[.pointer none,.slice none 0 0],.agg [(0,1),(1,1)] false [false,false],y119⟩),(120,⟨1,24,.slice none 0 0,.sl 65,(.sl (.sl .bool))⟩),(133,⟨1,24,.slice none 0 0,.sl 197,(.sl y197)⟩),(134,⟨1,24,.slice none 0 0,.sl 201,(.sl y201)⟩),(136,⟨7,112,.agg #[.string ⟨#[]⟩,.int .i64 0,.slice none 0 0,.slice none 0 0,.slice none 0 0,.int .i64 0,.int .i64 0],.agg [(0,1),(1,1),(2,1),(3,1),(4,1),(5,1),(6,1)] false [false,false,false,false,false,false,false],y136⟩),(138,⟨3,48,.agg #[.string ⟨#[]⟩,.int .i64 0,.slice none 0 0],.agg [(0,1),(1,1),(2,1)] false [false,false,false],y138⟩),(141,⟨3,32,.agg #[.string ⟨#[]⟩,.int .i64 0,.int .i64 0],.agg [(0,1),(1,1),(2,1)] false [false,false,false],y141⟩),(146,⟨4,32,.agg #[.int .i64 0,.int .i64 0,.int .i64 0,.bool false],.agg [(0,1),(1,1),(2,1),(3,1)] false [false,false,false,false],y146⟩),(148,⟨4,32,.agg #[.int .i64 0,.int .i64 0,.int .i64 0,.int .i64 0],.agg [(0,1),(1,1),(2,1),(3,1)] true [false,false,false,false],y148⟩),(149,⟨3,32,.agg #[.string ⟨#[]⟩,.int .i64 0,.int .i64 0],.agg [(0,1),(1,1),(2,1)] false [false,false,false],y149⟩),(153,⟨1,24,.slice none 0 0,.sl 156,(.sl y156)⟩),(156,⟨4,32,.agg #[.int .i64 0,.int .i64 0,.int .i64 0,.bool false],.agg [(0,1),(1,1),(2,1),(3,1)] false [false,false,false,false],y156⟩),(158,⟨10,240,.agg #[.slice none 0 0,.slice none 0 0,.slice none 0 0,.slice none 0 0,.slice none 0 0,.slice none 0 0,.slice none 0 0,.slice none 0 0,.slice none 0 0,.slice none 0 0],.agg [(0,5),(5,1),(6,1),(7,1),(8,1),(9,1)] false [true,false,false,false,false,false],y158⟩),(181,⟨1,24,.slice none 0 0,.sl 3,(.sl (.int .i64))⟩),(185,⟨1,24,.slice none 0 0,.sl 187,(.sl (.pr (.int .i64) (.int .i64)))⟩),(187,⟨2,16,.agg #[.int .i64 0,.int .i64 0],.arr 2 2,(.pr (.int .i64) (.int .i64))⟩),(194,⟨4,40,.agg #[.string ⟨#[]⟩,.int .i64 0,.int .i64 0,.bool false],.agg [(0,1),(1,1),(2,1),(3,1)] false [false,false,false,false],y194⟩),(197,⟨4,40,.agg #[.string ⟨#[]⟩,.int .i64 0,.int .i64 0,.bool false],.agg [(0,1),(1,1),(2,1),(3,1)] false [false,false,false,false],y197⟩),(199,⟨1,24,.slice none 0 0,.sl 225,(.sl y225)⟩),(201,⟨6,80,.agg #[.int .i64 0,.int .i64 0,.int .i64 0,.int .i64 0,.slice none 0 0,.slice none 0 0],.agg [(0,1),(1,1),(2,1),(3,1),(4,1),(5,1)] false [false,false,false,false,false,false],y201⟩),(213,⟨3,72,.agg #[.slice none 0 0,.slice none 0 0,.slice none 0 0],.agg [(0,1),(1,1),(2,1)] false [false,false,false],y213⟩),(219,⟨1,8,.int .u64 0,.int .u64,(.int .u64)⟩),(225,⟨3,72,.agg #[.slice none 0 0,.slice none 0 0,.slice none 0 0],.agg [(0,1),(1,1),(2,1)] false [false,false,false],y225⟩),(236,⟨2,16,.agg #[.int .i64 0,.int .i64 0],.agg [(0,1),(1,1)] true [false,false],y236⟩)]
theorem tok:TabOk Tryz.prog Γ:=tab_ok (by kernel_rfl)
end Go.Proofs.YtlfeppknkfknhaaGreatDoor
end
