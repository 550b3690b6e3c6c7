/- The types of this seat's program. -/
import Derived.Test.YtdjgagoledoaaaaGreatDoorXD
import Derived.Test.YtdjgagoledoaaaaGreatDoorProg
import Derived.KernelRfl
section
namespace Go.Proofs.YtdjgagoledoaaaaGreatDoor
open Go Go.Proofs Go.Proofs.Sv Go.Proofs.Xv
instance:K1 Tryz.prog:=⟨by kernel_rfl⟩
abbrev y7:Ty:=.pr (.int .i64) (.pr (.int .i64) (.pr .bool ((.int .u8))))
abbrev y8:Ty:=.pr (.int .i64) (.pr (.int .i64) (.pr .bool ((.int .u8))))
abbrev y13:Ty:=.pr .str ((.int .u64))
abbrev y233:Ty:=.pr .str (.pr (.int .i64) (.pr (.int .i64) (.bool)))
abbrev H9:Type:=ByteArray×Int×Int×Bool
abbrev y70:Ty:=.pr (.sl (.int .i64)) (.pr (.sl (.int .i64)) ((.sl (.int .i64))))
abbrev u1:Type:=List Int×List Int×List Int
abbrev y67:Ty:=.pr (.int .i64) (.pr (.int .i64) (.pr (.int .i64) (.pr (.int .i64) (.pr (.sl y70) ((.sl y70))))))
abbrev A9:Type:=Int×Int×Int×Int×List u1×List u1
abbrev y64:Ty:=.pr .str (.pr (.int .i64) (.pr (.sl y233) (.pr (.sl y67) (.pr (.sl (.int .i64)) (.pr (.int .i64) ((.int .i64)))))))
abbrev m6:Type:=ByteArray×Int×List H9×List A9×List Int×Int×Int
abbrev y139:Ty:=.pr .str (.pr (.int .i64) ((.sl (.int .i64))))
abbrev o4:Type:=ByteArray×Int×List Int
abbrev y202:Ty:=.pr .str (.pr (.int .i64) ((.int .i64)))
abbrev r8:Type:=ByteArray×Int×Int
abbrev y31:Ty:=.pr (.sl y139) (.pr (.sl .str) ((.sl y202)))
abbrev r6:Type:=List o4×List ByteArray×List r8
abbrev l9:Ty:=.pr (.sl (.int .i64)) (.pr (.sl (.int .i64)) (.pr (.sl (.int .i64)) ((.sl (.int .i64)))))
abbrev x9:Type:=List Int×List Int×List Int×List Int
abbrev l6:Ty:=.pr ((.sl y64)) (.pr y31 ((.sl l9)))
abbrev j6:Type:=List m6×r6×List x9
abbrev o8:Ty:=.pr .str (.pr (.int .i64) (.pr (.int .i64) (.pr (.int .i64) ((.int .i64)))))
abbrev o5:Type:=ByteArray×Int×Int×Int×Int
abbrev y51:Ty:=.pr (.int .i64) ((.int .i64))
abbrev w7:Type:=Int×Int
abbrev y53:Ty:=.pr (.int .i64) (.pr y51 y51)
abbrev m8:Type:=Int×w7×w7
abbrev y44:Ty:=.pr (.sl .bool) (.pr (.sl y51) ((.sl y51)))
abbrev u3:Type:=List Bool×List w7×List w7
abbrev y50:Ty:=.pr (.int .i64) ((.int .i64))
abbrev y52:Ty:=.pr (.int .i64) (.pr y51 y51)
abbrev M0d:Ty:=.pr (.sl (.int .u8)) (.pr (.int .i64) ((.int .u64)))
abbrev y80:Ty:=.pr (.int .i64) (.pr (.int .i64) (.pr (.int .i64) ((.int .i64))))
abbrev l8:Type:=Int×Int×Int×Int
abbrev m4:Ty:=.pr (.sl (.int .u8)) (.pr (.int .i64) ((.int .i64)))
abbrev l5:Type:=List Int×Int×Int
abbrev y151:Ty:=.pr (.int .i64) (.pr (.int .i64) (.pr (.int .i64) (.bool)))
abbrev B6:Type:=Int×Int×Int×Bool
abbrev y157:Ty:=.pr l6 (.pr (.sl y151) (.pr (.sl y80) (.pr (.sl (.int .i64)) (.pr (.sl (.sl (.int .i64))) ((.sl (.int .i64)))))))
abbrev C3:Type:=j6×List B6×List l8×List Int×List (List Int)×List Int
abbrev y104:Ty:=.pr (.pt y157) ((.sl .bool))
abbrev I1:Type:=C3×List Bool
abbrev N0D:Ty:=.pr (.pt y157) ((.sl .bool))
abbrev N0C:Ty:=.pr (.sl (.int .u8)) (.pr (.int .i64) ((.int .u64)))
abbrev N0B:Ty:=.pr (.sl (.int .u8)) (.pr (.int .i64) ((.int .i64)))
abbrev N0A:Ty:=.pr (.int .i64) (.pr (.int .i64) (.pr (.int .i64) (.bool)))
abbrev N0z:Ty:=.pr (.sl (.int .i64)) (.pr (.sl (.int .i64)) (.pr (.sl (.int .i64)) ((.sl (.int .i64)))))
abbrev r7:Ty:=.pr (.int .i64) (.pr (.int .i64) (.pr (.int .i64) (.bool)))
abbrev D0:Type:=Int×Int×Int×Bool
abbrev S6:Ty:=.pr (.int .i64) ((.int .i64))
abbrev BG:Type:=Int×Int
def i2:TI:=⟨1,8,.int .i64 0,.int .i64,(.int .i64)⟩
def i3:TI:=⟨1,8,.int .i64 0,.int .i64,(.int .i64)⟩
def i4:TI:=⟨1,1,.bool false,.bool,.bool⟩
def i5:TI:=⟨1,1,.int .u8 0,.int .u8,(.int .u8)⟩
def i6:TI:=⟨1,1,.int .u8 0,.int .u8,(.int .u8)⟩
def i7:TI:=⟨4,24,.agg #[.int .i64 0,.int .i64 0,.bool false,.int .u8 0],.agg [(0,1),(1,1),(2,1),(3,1)] false [false,false,false,false],y7⟩
def i8:TI:=⟨4,24,.agg #[.int .i64 0,.int .i64 0,.bool false,.int .u8 0],.agg [(0,1),(1,1),(2,1),(3,1)] false [false,false,false,false],y8⟩
def i16:TI:=⟨1,8,.pointer none,.ptr,.bool⟩
def i32:TI:=⟨1,24,.slice none 0 0,.sl 153,(.sl l9)⟩
def i37:TI:=⟨1,24,.slice none 0 0,.sl 2,(.sl (.int .i64))⟩
def Γ:p5:=[(2,⟨1,8,.int .i64 0,.int .i64,(.int .i64)⟩),(3,⟨1,8,.int .i64 0,.int .i64,(.int .i64)⟩),(4,⟨1,1,.bool false,.bool,.bool⟩),(5,⟨1,1,.int .u8 0,.int .u8,(.int .u8)⟩),(6,⟨1,1,.int .u8 0,.int .u8,(.int .u8)⟩),(7,⟨4,24,.agg #[.int .i64 0,.int .i64 0,.bool false,.int .u8 0],.agg [(0,1),(1,1),(2,1),(3,1)] false [false,false,false,false],y7⟩),(8,⟨4,24,.agg #[.int .i64 0,.int .i64 0,.bool false,.int .u8 0],.agg [(0,1),(1,1),(2,1),(3,1)] false [false,false,false,false],y8⟩),(9,⟨1,16,.string ⟨#[]⟩,.str,.str⟩),(10,⟨1,16,.string ⟨#[]⟩,.str,.str⟩),(11,⟨1,16,.string ⟨#[]⟩,.str,.str⟩),(12,⟨1,8,.int .u64 0,.int .u64,(.int .u64)⟩),(13,⟨2,24,.agg #[.string ⟨#[]⟩,.int .u64 0],.agg [(0,1),(1,1)] false [false,false],y13⟩),(15,⟨1,8,.pointer none,.ptr,.bool⟩),(17,⟨1,8,.pointer none,.ptr,.bool⟩),(18,⟨1,8,.agg #[.pointer none],.agg [(0,1)] false [false],.bool⟩),(21,⟨1,4,.int .i32 0,.int .i32,(.int .i32)⟩),(22,⟨1,24,.slice none 0 0,.sl 5,(.sl (.int .u8))⟩),(24,⟨1,24,.slice none 0 0,.sl 64,(.sl y64)⟩),(26,⟨1,24,.agg #[.slice none 0 0],.agg [(0,1)] false [false],((.sl y64))⟩),(27,⟨1,24,.slice none 0 0,.sl 139,(.sl y139)⟩),(28,⟨1,24,.slice none 0 0,.sl 9,(.sl .str)⟩),(29,⟨1,24,.slice none 0 0,.sl 202,(.sl y202)⟩),(31,⟨3,72,.agg #[.slice none 0 0,.slice none 0 0,.slice none 0 0],.agg [(0,1),(1,1),(2,1)] false [false,false,false],y31⟩),(32,⟨1,24,.slice none 0 0,.sl 153,(.sl l9)⟩),(34,⟨5,120,.agg #[.slice none 0 0,.slice none 0 0,.slice none 0 0,.slice none 0 0,.slice none 0 0],.agg [(0,1),(1,3),(4,1)] false [true,true,false],l6⟩),(36,⟨5,48,.agg #[.string ⟨#[]⟩,.int .i64 0,.int .i64 0,.int .i64 0,.int .i64 0],.agg [(0,1),(1,1),(2,1),(3,1),(4,1)] false [false,false,false,false,false],o8⟩),(37,⟨1,24,.slice none 0 0,.sl 2,(.sl (.int .i64))⟩),(38,⟨1,24,.slice none 0 0,.sl 53,(.sl y53)⟩),(41,⟨1,24,.slice none 0 0,.sl 4,(.sl .bool)⟩),(42,⟨1,24,.slice none 0 0,.sl 51,(.sl y51)⟩),(44,⟨3,72,.agg #[.slice none 0 0,.slice none 0 0,.slice none 0 0],.agg [(0,1),(1,1),(2,1)] false [false,false,false],y44⟩),(50,⟨2,16,.agg #[.int .i64 0,.int .i64 0],.agg [(0,1),(1,1)] true [false,false],y50⟩),(51,⟨2,16,.agg #[.int .i64 0,.int .i64 0],.agg [(0,1),(1,1)] true [false,false],y51⟩),(52,⟨5,40,.agg #[.int .i64 0,.int .i64 0,.int .i64 0,.int .i64 0,.int .i64 0],.agg [(0,1),(1,2),(3,2)] false [false,true,true],y52⟩),(53,⟨5,40,.agg #[.int .i64 0,.int .i64 0,.int .i64 0,.int .i64 0,.int .i64 0],.agg [(0,1),(1,2),(3,2)] false [false,true,true],y53⟩),(56,⟨1,8,.pointer none,.ptr,(.pt M0d)⟩),(58,⟨1,8,.int .u64 0,.int .u64,(.int .u64)⟩),(61,⟨1,24,.slice none 0 0,.sl 233,(.sl y233)⟩),(62,⟨1,24,.slice none 0 0,.sl 67,(.sl y67)⟩),(64,⟨7,112,.agg #[.string ⟨#[]⟩,.int .i64 0,.slice none 0 0,.slice none 0 0,.slice none 0 0,.int .i64 0,.int .i64 0],.agg [(0,1),(1,1),(2,1),(3,1),(4,1),(5,1),(6,1)] false [false,false,false,false,false,false,false],y64⟩),(65,⟨1,24,.slice none 0 0,.sl 70,(.sl y70)⟩),(67,⟨6,80,.agg #[.int .i64 0,.int .i64 0,.int .i64 0,.int .i64 0,.slice none 0 0,.slice none 0 0],.agg [(0,1),(1,1),(2,1),(3,1),(4,1),(5,1)] false [false,false,false,false,false,false],y67⟩),(70,⟨3,72,.agg #[.slice none 0 0,.slice none 0 0,.slice none 0 0],.agg [(0,1),(1,1),(2,1)] false [false,false,false],y70⟩),(76,⟨1,24,.slice none 0 0,.sl 80,(.sl y80)⟩),(80,⟨4,32,.agg #[.int .i64 0,.int .i64 0,.int .i64 0,.int .i64 0],.agg [(0,1),(1,1),(2,1),(3,1)] true [false,false,false,false],y80⟩),(84,⟨1,8,.pointer none,.ptr,(.pt m4)⟩),(87,⟨1,8,.pointer none,.ptr,(.pt y104)⟩),(98,⟨1,8,.pointer none,.ptr,(.pt y157)⟩),(101,⟨1,8,.pointer none,.ptr,(.pt y44)⟩),(103,⟨2,32,.agg #[.pointer none,.slice none 0 0],.agg [(0,1),(1,1)] false [false,false],N0D⟩),(104,⟨2,32,.agg #[.pointer none,.slice none 0 0],.agg [(0,1),(1,1)] false [false,false],y104⟩),(108,⟨3,40,.agg #[.slice none 0 0,.int .i64 0,.int .u64 0],.agg [(0,1),(1,1),(2,1)] false [false,false,false],N0C⟩),(109,⟨3,40,.agg #[.slice none 0 0,.int .i64 0,.int .u64 0],.agg [(0,1),(1,1),(2,1)] false [false,false,false],M0d⟩),(110,⟨1,8,.int .u64 0,.int .u64,(.int .u64)⟩),(121,⟨3,40,.agg #[.slice none 0 0,.int .i64 0,.int .i64 0],.agg [(0,1),(1,1),(2,1)] false [false,false,false],N0B⟩),(122,⟨3,40,.agg #[.slice none 0 0,.int .i64 0,.int .i64 0],.agg [(0,1),(1,1),(2,1)] false [false,false,false],m4⟩),(139,⟨3,48,.agg #[.string ⟨#[]⟩,.int .i64 0,.slice none 0 0],.agg [(0,1),(1,1),(2,1)] false [false,false,false],y139⟩),(148,⟨1,24,.slice none 0 0,.sl 151,(.sl y151)⟩),(150,⟨4,32,.agg #[.int .i64 0,.int .i64 0,.int .i64 0,.bool false],.agg [(0,1),(1,1),(2,1),(3,1)] false [false,false,false,false],N0A⟩),(151,⟨4,32,.agg #[.int .i64 0,.int .i64 0,.int .i64 0,.bool false],.agg [(0,1),(1,1),(2,1),(3,1)] false [false,false,false,false],y151⟩),(152,⟨4,96,.agg #[.slice none 0 0,.slice none 0 0,.slice none 0 0,.slice none 0 0],.agg [(0,1),(1,1),(2,1),(3,1)] false [false,false,false,false],N0z⟩),(153,⟨4,96,.agg #[.slice none 0 0,.slice none 0 0,.slice none 0 0,.slice none 0 0],.agg [(0,1),(1,1),(2,1),(3,1)] false [false,false,false,false],l9⟩),(155,⟨1,24,.slice none 0 0,.sl 37,(.sl (.sl (.int .i64)))⟩),(157,⟨10,240,.agg #[.slice none 0 0,.slice none 0 0,.slice none 0 0,.slice none 0 0,.slice none 0 0,.slice none 0 0,.slice none 0 0,.slice none 0 0,.slice none 0 0,.slice none 0 0],.agg [(0,5),(5,1),(6,1),(7,1),(8,1),(9,1)] false [true,false,false,false,false,false],y157⟩),(164,⟨1,24,.slice none 0 0,.sl 190,(.sl r7)⟩),(190,⟨4,32,.agg #[.int .i64 0,.int .i64 0,.int .i64 0,.bool false],.agg [(0,1),(1,1),(2,1),(3,1)] false [false,false,false,false],r7⟩),(192,⟨1,24,.slice none 0 0,.sl 3,(.sl (.int .i64))⟩),(202,⟨3,32,.agg #[.string ⟨#[]⟩,.int .i64 0,.int .i64 0],.agg [(0,1),(1,1),(2,1)] false [false,false,false],y202⟩),(205,⟨1,24,.slice none 0 0,.sl 207,(.sl (.pr (.int .i64) (.int .i64)))⟩),(207,⟨2,16,.agg #[.int .i64 0,.int .i64 0],.arr 2 2,(.pr (.int .i64) (.int .i64))⟩),(233,⟨4,40,.agg #[.string ⟨#[]⟩,.int .i64 0,.int .i64 0,.bool false],.agg [(0,1),(1,1),(2,1),(3,1)] false [false,false,false,false],y233⟩),(247,⟨1,8,.pointer none,.ptr,.bool⟩),(248,⟨1,24,.slice none 0 0,.sl 252,(.sl S6)⟩),(252,⟨2,16,.agg #[.int .i64 0,.int .i64 0],.agg [(0,1),(1,1)] true [false,false],S6⟩)]
theorem L9:x7 Tryz.prog Γ:=Ra (by kernel_rfl)
end Go.Proofs.YtdjgagoledoaaaaGreatDoor
end
