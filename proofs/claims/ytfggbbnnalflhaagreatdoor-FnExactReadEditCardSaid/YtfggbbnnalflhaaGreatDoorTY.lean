/- The types of this seat's program. -/
import Derived.Test.YtfggbbnnalflhaaGreatDoorXD
import Derived.Test.YtfggbbnnalflhaaGreatDoorProg
import Derived.KernelRfl
section
namespace Go.Proofs.YtfggbbnnalflhaaGreatDoor
open Go Go.Proofs Go.Proofs.Sv Go.Proofs.Xv
instance:Mixed Tryz.prog:=⟨by kernel_rfl⟩
abbrev y7:Ty:=.pr (.int .i64) (.pr (.int .i64) (.pr .bool ((.int .u8))))
abbrev y8:Ty:=.pr (.int .i64) (.pr (.int .i64) (.pr .bool ((.int .u8))))
abbrev y13:Ty:=.pr .str ((.int .u64))
abbrev y14:Ty:=.pr .str ((.int .u64))
abbrev y253:Ty:=.pr .str (.pr (.int .i64) (.pr (.int .i64) (.bool)))
abbrev Y253:Type:=ByteArray×Int×Int×Bool
abbrev y331:Ty:=.pr (.sl (.int .i64)) (.pr (.sl (.int .i64)) ((.sl (.int .i64))))
abbrev Y331:Type:=List Int×List Int×List Int
abbrev y257:Ty:=.pr (.int .i64) (.pr (.int .i64) (.pr (.int .i64) (.pr (.int .i64) (.pr (.sl y331) ((.sl y331))))))
abbrev Y257:Type:=Int×Int×Int×Int×List Y331×List Y331
abbrev y159:Ty:=.pr .str (.pr (.int .i64) (.pr (.sl y253) (.pr (.sl y257) (.pr (.sl (.int .i64)) (.pr (.int .i64) ((.int .i64)))))))
abbrev Y159:Type:=ByteArray×Int×List Y253×List Y257×List Int×Int×Int
abbrev y161:Ty:=.pr .str (.pr (.int .i64) ((.sl (.int .i64))))
abbrev Y161:Type:=ByteArray×Int×List Int
abbrev y164:Ty:=.pr .str (.pr (.int .i64) ((.int .i64)))
abbrev Y164:Type:=ByteArray×Int×Int
abbrev y29:Ty:=.pr (.sl y161) (.pr (.sl .str) ((.sl y164)))
abbrev Y29:Type:=List Y161×List ByteArray×List Y164
abbrev y94:Ty:=.pr (.sl (.int .i64)) (.pr (.sl (.int .i64)) (.pr (.sl (.int .i64)) ((.sl (.int .i64)))))
abbrev Y94:Type:=List Int×List Int×List Int×List Int
abbrev y32:Ty:=.pr ((.sl y159)) (.pr y29 ((.sl y94)))
abbrev Y32:Type:=List Y159×Y29×List Y94
abbrev y36:Ty:=.pr (.sl (.int .i64)) (.pr (.sl (.int .i64)) (.pr (.sl (.int .i64)) ((.sl (.int .i64)))))
abbrev Y36:Type:=List Int×List Int×List Int×List Int
abbrev y37:Ty:=.pr (.int .i64) (.pr (.int .i64) (.pr (.int .i64) (.pr (.int .i64) (.pr (.int .i64) (.pr .str y36)))))
abbrev y38:Ty:=.pr (.int .i64) (.pr (.int .i64) (.pr (.int .i64) (.pr (.int .i64) (.pr (.int .i64) (.pr .str y36)))))
abbrev Y38:Type:=Int×Int×Int×Int×Int×ByteArray×Y36
abbrev y170:Ty:=.pr .str (.pr (.int .i64) (.pr (.int .i64) (.bool)))
abbrev Y170:Type:=ByteArray×Int×Int×Bool
abbrev y291:Ty:=.pr (.sl (.int .i64)) (.pr (.sl (.int .i64)) ((.sl (.int .i64))))
abbrev Y291:Type:=List Int×List Int×List Int
abbrev y243:Ty:=.pr (.int .i64) (.pr (.int .i64) (.pr (.int .i64) (.pr (.int .i64) (.pr (.sl y291) ((.sl y291))))))
abbrev Y243:Type:=Int×Int×Int×Int×List Y291×List Y291
abbrev y115:Ty:=.pr .str (.pr (.int .i64) (.pr (.sl y170) (.pr (.sl y243) (.pr (.sl (.int .i64)) (.pr (.int .i64) ((.int .i64)))))))
abbrev Y115:Type:=ByteArray×Int×List Y170×List Y243×List Int×Int×Int
abbrev y152:Ty:=.pr .str (.pr (.int .i64) ((.sl (.int .i64))))
abbrev Y152:Type:=ByteArray×Int×List Int
abbrev y166:Ty:=.pr .str (.pr (.int .i64) ((.int .i64)))
abbrev Y166:Type:=ByteArray×Int×Int
abbrev y46:Ty:=.pr (.sl y152) (.pr (.sl .str) ((.sl y166)))
abbrev y47:Ty:=.pr (.sl y152) (.pr (.sl .str) ((.sl y166)))
abbrev Y47:Type:=List Y152×List ByteArray×List Y166
abbrev y49:Ty:=.pr ((.sl y115)) (.pr y47 ((.sl y36)))
abbrev y50:Ty:=.pr ((.sl y115)) (.pr y47 ((.sl y36)))
abbrev Y50:Type:=List Y115×Y47×List Y36
abbrev y111:Ty:=.pr (.int .i64) (.pr (.int .i64) (.pr (.int .i64) (.bool)))
abbrev Y111:Type:=Int×Int×Int×Bool
abbrev y110:Ty:=.pr (.int .i64) (.pr (.int .i64) (.pr (.int .i64) (.bool)))
abbrev y114:Ty:=.pr .str (.pr (.int .i64) (.pr (.sl y170) (.pr (.sl y243) (.pr (.sl (.int .i64)) (.pr (.int .i64) ((.int .i64)))))))
abbrev y126:Ty:=.pr (.int .i64) (.pr (.int .i64) (.pr (.int .i64) (.bool)))
abbrev Y126:Type:=Int×Int×Int×Bool
abbrev y333:Ty:=.pr (.int .i64) ((.int .i64))
abbrev Y333:Type:=Int×Int
def i2:TI:=⟨1,8,.int .i64 0,.int .i64,(.int .i64)⟩
def i3:TI:=⟨1,8,.int .i64 0,.int .i64,(.int .i64)⟩
def i4:TI:=⟨1,1,.bool false,.bool,.bool⟩
def i5:TI:=⟨1,1,.int .u8 0,.int .u8,(.int .u8)⟩
def i6:TI:=⟨1,1,.int .u8 0,.int .u8,(.int .u8)⟩
def i7:TI:=⟨4,24,.agg #[.int .i64 0,.int .i64 0,.bool false,.int .u8 0],.agg [(0,1),(1,1),(2,1),(3,1)] false [false,false,false,false],y7⟩
def i8:TI:=⟨4,24,.agg #[.int .i64 0,.int .i64 0,.bool false,.int .u8 0],.agg [(0,1),(1,1),(2,1),(3,1)] false [false,false,false,false],y8⟩
def i9:TI:=⟨1,16,.string ⟨#[]⟩,.str,.str⟩
def i10:TI:=⟨1,16,.string ⟨#[]⟩,.str,.str⟩
def i11:TI:=⟨1,16,.string ⟨#[]⟩,.str,.str⟩
def i12:TI:=⟨1,8,.int .u64 0,.int .u64,(.int .u64)⟩
def i13:TI:=⟨2,24,.agg #[.string ⟨#[]⟩,.int .u64 0],.agg [(0,1),(1,1)] false [false,false],y13⟩
def i14:TI:=⟨2,24,.agg #[.string ⟨#[]⟩,.int .u64 0],.agg [(0,1),(1,1)] false [false,false],y14⟩
def i15:TI:=⟨1,8,.pointer none,.ptr,.bool⟩
def i16:TI:=⟨1,8,.pointer none,.ptr,.bool⟩
def i17:TI:=⟨1,8,.pointer none,.ptr,.bool⟩
def i18:TI:=⟨1,8,.agg #[.pointer none],.agg [(0,1)] false [false],.bool⟩
def i19:TI:=⟨1,8,.agg #[.pointer none],.agg [(0,1)] false [false],.bool⟩
def i21:TI:=⟨1,4,.int .i32 0,.int .i32,(.int .i32)⟩
def i22:TI:=⟨1,24,.slice none 0 0,.sl 159,(.sl y159)⟩
def i23:TI:=⟨1,24,.agg #[.slice none 0 0],.agg [(0,1)] false [false],((.sl y159))⟩
def i24:TI:=⟨1,24,.agg #[.slice none 0 0],.agg [(0,1)] false [false],((.sl y159))⟩
def i25:TI:=⟨1,24,.slice none 0 0,.sl 161,(.sl y161)⟩
def i26:TI:=⟨1,24,.slice none 0 0,.sl 9,(.sl .str)⟩
def i32:TI:=⟨5,120,.agg #[.slice none 0 0,.slice none 0 0,.slice none 0 0,.slice none 0 0,.slice none 0 0],.agg [(0,1),(1,3),(4,1)] false [true,true,false],y32⟩
def i37:TI:=⟨10,152,.agg #[.int .i64 0,.int .i64 0,.int .i64 0,.int .i64 0,.int .i64 0,.string ⟨#[]⟩,.slice none 0 0,.slice none 0 0,.slice none 0 0,.slice none 0 0],.agg [(0,1),(1,1),(2,1),(3,1),(4,1),(5,1),(6,4)] false [false,false,false,false,false,false,true],y37⟩
def i46:TI:=⟨3,72,.agg #[.slice none 0 0,.slice none 0 0,.slice none 0 0],.agg [(0,1),(1,1),(2,1)] false [false,false,false],y46⟩
def i233:TI:=⟨1,8,.pointer none,.ptr,.bool⟩
def Γ:Tab':=[(2,⟨1,8,.int .i64 0,.int .i64,(.int .i64)⟩),(3,⟨1,8,.int .i64 0,.int .i64,(.int .i64)⟩),(4,⟨1,1,.bool false,.bool,.bool⟩),(5,⟨1,1,.int .u8 0,.int .u8,(.int .u8)⟩),(6,⟨1,1,.int .u8 0,.int .u8,(.int .u8)⟩),(8,⟨4,24,.agg #[.int .i64 0,.int .i64 0,.bool false,.int .u8 0],.agg [(0,1),(1,1),(2,1),(3,1)] false [false,false,false,false],y8⟩),(9,⟨1,16,.string ⟨#[]⟩,.str,.str⟩),(13,⟨2,24,.agg #[.string ⟨#[]⟩,.int .u64 0],.agg [(0,1),(1,1)] false [false,false],y13⟩),(14,⟨2,24,.agg #[.string ⟨#[]⟩,.int .u64 0],.agg [(0,1),(1,1)] false [false,false],y14⟩),(17,⟨1,8,.pointer none,.ptr,.bool⟩),(21,⟨1,4,.int .i32 0,.int .i32,(.int .i32)⟩),(22,⟨1,24,.slice none 0 0,.sl 159,(.sl y159)⟩),(24,⟨1,24,.agg #[.slice none 0 0],.agg [(0,1)] false [false],((.sl y159))⟩),(25,⟨1,24,.slice none 0 0,.sl 161,(.sl y161)⟩),(26,⟨1,24,.slice none 0 0,.sl 9,(.sl .str)⟩),(27,⟨1,24,.slice none 0 0,.sl 164,(.sl y164)⟩),(29,⟨3,72,.agg #[.slice none 0 0,.slice none 0 0,.slice none 0 0],.agg [(0,1),(1,1),(2,1)] false [false,false,false],y29⟩),(30,⟨1,24,.slice none 0 0,.sl 94,(.sl y94)⟩),(32,⟨5,120,.agg #[.slice none 0 0,.slice none 0 0,.slice none 0 0,.slice none 0 0,.slice none 0 0],.agg [(0,1),(1,3),(4,1)] false [true,true,false],y32⟩),(34,⟨1,24,.slice none 0 0,.sl 2,(.sl (.int .i64))⟩),(36,⟨4,96,.agg #[.slice none 0 0,.slice none 0 0,.slice none 0 0,.slice none 0 0],.agg [(0,1),(1,1),(2,1),(3,1)] false [false,false,false,false],y36⟩),(38,⟨10,152,.agg #[.int .i64 0,.int .i64 0,.int .i64 0,.int .i64 0,.int .i64 0,.string ⟨#[]⟩,.slice none 0 0,.slice none 0 0,.slice none 0 0,.slice none 0 0],.agg [(0,1),(1,1),(2,1),(3,1),(4,1),(5,1),(6,4)] false [false,false,false,false,false,false,true],y38⟩),(41,⟨1,24,.slice none 0 0,.sl 115,(.sl y115)⟩),(43,⟨1,24,.agg #[.slice none 0 0],.agg [(0,1)] false [false],((.sl y115))⟩),(44,⟨1,24,.slice none 0 0,.sl 152,(.sl y152)⟩),(45,⟨1,24,.slice none 0 0,.sl 166,(.sl y166)⟩),(46,⟨3,72,.agg #[.slice none 0 0,.slice none 0 0,.slice none 0 0],.agg [(0,1),(1,1),(2,1)] false [false,false,false],y46⟩),(47,⟨3,72,.agg #[.slice none 0 0,.slice none 0 0,.slice none 0 0],.agg [(0,1),(1,1),(2,1)] false [false,false,false],y47⟩),(48,⟨1,24,.slice none 0 0,.sl 36,(.sl y36)⟩),(49,⟨5,120,.agg #[.slice none 0 0,.slice none 0 0,.slice none 0 0,.slice none 0 0,.slice none 0 0],.agg [(0,1),(1,3),(4,1)] false [true,true,false],y49⟩),(50,⟨5,120,.agg #[.slice none 0 0,.slice none 0 0,.slice none 0 0,.slice none 0 0,.slice none 0 0],.agg [(0,1),(1,3),(4,1)] false [true,true,false],y50⟩),(57,⟨1,24,.slice none 0 0,.sl 5,(.sl (.int .u8))⟩),(94,⟨4,96,.agg #[.slice none 0 0,.slice none 0 0,.slice none 0 0,.slice none 0 0],.agg [(0,1),(1,1),(2,1),(3,1)] false [false,false,false,false],y94⟩),(107,⟨1,24,.slice none 0 0,.sl 111,(.sl y111)⟩),(110,⟨4,32,.agg #[.int .i64 0,.int .i64 0,.int .i64 0,.bool false],.agg [(0,1),(1,1),(2,1),(3,1)] false [false,false,false,false],y110⟩),(111,⟨4,32,.agg #[.int .i64 0,.int .i64 0,.int .i64 0,.bool false],.agg [(0,1),(1,1),(2,1),(3,1)] false [false,false,false,false],y111⟩),(112,⟨1,24,.slice none 0 0,.sl 170,(.sl y170)⟩),(113,⟨1,24,.slice none 0 0,.sl 243,(.sl y243)⟩),(114,⟨7,112,.agg #[.string ⟨#[]⟩,.int .i64 0,.slice none 0 0,.slice none 0 0,.slice none 0 0,.int .i64 0,.int .i64 0],.agg [(0,1),(1,1),(2,1),(3,1),(4,1),(5,1),(6,1)] false [false,false,false,false,false,false,false],y114⟩),(115,⟨7,112,.agg #[.string ⟨#[]⟩,.int .i64 0,.slice none 0 0,.slice none 0 0,.slice none 0 0,.int .i64 0,.int .i64 0],.agg [(0,1),(1,1),(2,1),(3,1),(4,1),(5,1),(6,1)] false [false,false,false,false,false,false,false],y115⟩),(123,⟨1,24,.slice none 0 0,.sl 126,(.sl y126)⟩),(126,⟨4,32,.agg #[.int .i64 0,.int .i64 0,.int .i64 0,.bool false],.agg [(0,1),(1,1),(2,1),(3,1)] false [false,false,false,false],y126⟩),(152,⟨3,48,.agg #[.string ⟨#[]⟩,.int .i64 0,.slice none 0 0],.agg [(0,1),(1,1),(2,1)] false [false,false,false],y152⟩),(156,⟨1,24,.slice none 0 0,.sl 253,(.sl y253)⟩),(157,⟨1,24,.slice none 0 0,.sl 257,(.sl y257)⟩),(159,⟨7,112,.agg #[.string ⟨#[]⟩,.int .i64 0,.slice none 0 0,.slice none 0 0,.slice none 0 0,.int .i64 0,.int .i64 0],.agg [(0,1),(1,1),(2,1),(3,1),(4,1),(5,1),(6,1)] false [false,false,false,false,false,false,false],y159⟩),(161,⟨3,48,.agg #[.string ⟨#[]⟩,.int .i64 0,.slice none 0 0],.agg [(0,1),(1,1),(2,1)] false [false,false,false],y161⟩),(164,⟨3,32,.agg #[.string ⟨#[]⟩,.int .i64 0,.int .i64 0],.agg [(0,1),(1,1),(2,1)] false [false,false,false],y164⟩),(166,⟨3,32,.agg #[.string ⟨#[]⟩,.int .i64 0,.int .i64 0],.agg [(0,1),(1,1),(2,1)] false [false,false,false],y166⟩),(170,⟨4,40,.agg #[.string ⟨#[]⟩,.int .i64 0,.int .i64 0,.bool false],.agg [(0,1),(1,1),(2,1),(3,1)] false [false,false,false,false],y170⟩),(177,⟨1,24,.slice none 0 0,.sl 3,(.sl (.int .i64))⟩),(241,⟨1,24,.slice none 0 0,.sl 291,(.sl y291)⟩),(243,⟨6,80,.agg #[.int .i64 0,.int .i64 0,.int .i64 0,.int .i64 0,.slice none 0 0,.slice none 0 0],.agg [(0,1),(1,1),(2,1),(3,1),(4,1),(5,1)] false [false,false,false,false,false,false],y243⟩),(253,⟨4,40,.agg #[.string ⟨#[]⟩,.int .i64 0,.int .i64 0,.bool false],.agg [(0,1),(1,1),(2,1),(3,1)] false [false,false,false,false],y253⟩),(255,⟨1,24,.slice none 0 0,.sl 331,(.sl y331)⟩),(257,⟨6,80,.agg #[.int .i64 0,.int .i64 0,.int .i64 0,.int .i64 0,.slice none 0 0,.slice none 0 0],.agg [(0,1),(1,1),(2,1),(3,1),(4,1),(5,1)] false [false,false,false,false,false,false],y257⟩),(262,⟨1,8,.int .u64 0,.int .u64,(.int .u64)⟩),(291,⟨3,72,.agg #[.slice none 0 0,.slice none 0 0,.slice none 0 0],.agg [(0,1),(1,1),(2,1)] false [false,false,false],y291⟩),(331,⟨3,72,.agg #[.slice none 0 0,.slice none 0 0,.slice none 0 0],.agg [(0,1),(1,1),(2,1)] false [false,false,false],y331⟩),(333,⟨2,16,.agg #[.int .i64 0,.int .i64 0],.agg [(0,1),(1,1)] true [false,false],y333⟩)]
theorem tok:TabOk Tryz.prog Γ:=tab_ok (by kernel_rfl)
end Go.Proofs.YtfggbbnnalflhaaGreatDoor
end
