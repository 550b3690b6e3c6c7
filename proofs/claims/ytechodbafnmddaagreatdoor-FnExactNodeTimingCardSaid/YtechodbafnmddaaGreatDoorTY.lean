/- The types of this seat's program. -/
import Derived.Test.YtechodbafnmddaaGreatDoorXD
import Derived.Test.YtechodbafnmddaaGreatDoorProg
import Derived.KernelRfl
section
namespace Go.Proofs.YtechodbafnmddaaGreatDoor
open Go Go.Proofs Go.Proofs.Sv Go.Proofs.Xv
instance:H7 Tryz.prog:=⟨by kernel_rfl⟩
abbrev y7:Ty:=.pr (.int .i64) (.pr (.int .i64) (.pr .bool ((.int .u8))))
abbrev y8:Ty:=.pr (.int .i64) (.pr (.int .i64) (.pr .bool ((.int .u8))))
abbrev y296:Ty:=.pr .str (.pr (.int .i64) (.pr (.int .i64) (.bool)))
abbrev Av:Type:=ByteArray×Int×Int×Bool
abbrev y342:Ty:=.pr (.sl (.int .i64)) (.pr (.sl (.int .i64)) ((.sl (.int .i64))))
abbrev Y2:Type:=List Int×List Int×List Int
abbrev y300:Ty:=.pr (.int .i64) (.pr (.int .i64) (.pr (.int .i64) (.pr (.int .i64) (.pr (.sl y342) ((.sl y342))))))
abbrev Au:Type:=Int×Int×Int×Int×List Y2×List Y2
abbrev y216:Ty:=.pr .str (.pr (.int .i64) (.pr (.sl y296) (.pr (.sl y300) (.pr (.sl (.int .i64)) (.pr (.int .i64) ((.int .i64)))))))
abbrev Q3:Type:=ByteArray×Int×List Av×List Au×List Int×Int×Int
abbrev y218:Ty:=.pr .str (.pr (.int .i64) ((.sl (.int .i64))))
abbrev As:Type:=ByteArray×Int×List Int
abbrev y221:Ty:=.pr .str (.pr (.int .i64) ((.int .i64)))
abbrev Ar:Type:=ByteArray×Int×Int
abbrev BU:Ty:=.pr (.sl y218) (.pr (.sl .str) ((.sl y221)))
abbrev IK:Type:=List As×List ByteArray×List Ar
abbrev y146:Ty:=.pr (.sl (.int .i64)) (.pr (.sl (.int .i64)) (.pr (.sl (.int .i64)) ((.sl (.int .i64)))))
abbrev Aq:Type:=List Int×List Int×List Int×List Int
abbrev T7:Ty:=.pr ((.sl y216)) (.pr BU ((.sl y146)))
abbrev Gy:Type:=List Q3×IK×List Aq
abbrev V5:Ty:=.pr .str (.pr (.int .i64) (.pr (.int .i64) (.pr (.int .i64) ((.int .i64)))))
abbrev Gz:Type:=ByteArray×Int×Int×Int×Int
abbrev y104:Ty:=.pr (.int .i64) ((.int .i64))
abbrev Aw:Type:=Int×Int
abbrev y106:Ty:=.pr (.int .i64) (.pr y104 y104)
abbrev BV:Type:=Int×Aw×Aw
abbrev Y3:Ty:=.pr (.sl .bool) (.pr (.sl y104) ((.sl y104)))
abbrev GA:Type:=List Bool×List Aw×List Aw
abbrev y293:Ty:=.pr .str (.pr (.int .i64) (.pr (.int .i64) (.bool)))
abbrev A6:Type:=ByteArray×Int×Int×Bool
abbrev y269:Ty:=.pr (.sl (.int .i64)) (.pr (.sl (.int .i64)) ((.sl (.int .i64))))
abbrev m4:Type:=List Int×List Int×List Int
abbrev y158:Ty:=.pr (.int .i64) (.pr (.int .i64) (.pr (.int .i64) (.pr (.int .i64) (.pr (.sl y269) ((.sl y269))))))
abbrev r7:Type:=Int×Int×Int×Int×List m4×List m4
abbrev y153:Ty:=.pr .str (.pr (.int .i64) (.pr (.sl y293) (.pr (.sl y158) (.pr (.sl (.int .i64)) (.pr (.int .i64) ((.int .i64)))))))
abbrev k6:Type:=ByteArray×Int×List A6×List r7×List Int×Int×Int
abbrev y155:Ty:=.pr .str (.pr (.int .i64) ((.sl (.int .i64))))
abbrev A9:Type:=ByteArray×Int×List Int
abbrev y231:Ty:=.pr .str (.pr (.int .i64) ((.int .i64)))
abbrev D3:Type:=ByteArray×Int×Int
abbrev y52:Ty:=.pr (.sl y155) (.pr (.sl .str) ((.sl y231)))
abbrev y53:Ty:=.pr (.sl y155) (.pr (.sl .str) ((.sl y231)))
abbrev m6:Type:=List A9×List ByteArray×List D3
abbrev y172:Ty:=.pr (.sl (.int .i64)) (.pr (.sl (.int .i64)) (.pr (.sl (.int .i64)) ((.sl (.int .i64)))))
abbrev w9:Type:=List Int×List Int×List Int×List Int
abbrev y55:Ty:=.pr ((.sl y153)) (.pr y53 ((.sl y172)))
abbrev j7:Ty:=.pr ((.sl y153)) (.pr y53 ((.sl y172)))
abbrev j0:Type:=List k6×m6×List w9
abbrev u5:Ty:=.pr .str (.pr (.int .i64) (.pr (.int .i64) (.pr (.int .i64) ((.int .i64)))))
abbrev p7:Type:=ByteArray×Int×Int×Int×Int
abbrev y73:Ty:=.pr (.int .i64) ((.int .i64))
abbrev q7:Type:=Int×Int
abbrev y75:Ty:=.pr (.int .i64) (.pr y73 y73)
abbrev l6:Type:=Int×q7×q7
abbrev y65:Ty:=.pr (.sl .bool) (.pr (.sl y73) ((.sl y73)))
abbrev A0:Type:=List Bool×List q7×List q7
abbrev y138:Ty:=.pr (.int .i64) (.pr (.int .i64) (.pr (.int .i64) ((.int .i64))))
abbrev j2:Type:=Int×Int×Int×Int
abbrev L0c:Ty:=.pr (.int .i64) (.pr y104 y104)
abbrev y235:Ty:=.pr (.int .i64) (.pr (.int .i64) (.pr (.int .i64) (.bool)))
abbrev w4:Type:=Int×Int×Int×Bool
abbrev y189:Ty:=.pr j7 (.pr (.sl y235) (.pr (.sl y138) (.pr (.sl (.int .i64)) (.pr (.sl (.sl (.int .i64))) ((.sl (.int .i64)))))))
abbrev x5:Type:=j0×List w4×List j2×List Int×List (List Int)×List Int
abbrev y126:Ty:=.pr (.pt y189) ((.sl .bool))
abbrev D4:Type:=x5×List Bool
abbrev w8:Ty:=.pr (.int .i64) (.pr (.int .i64) (.pr (.int .i64) (.bool)))
abbrev z6:Type:=Int×Int×Int×Bool
abbrev M8:Ty:=.pr (.int .i64) ((.int .i64))
abbrev AB:Type:=Int×Int
def i2:TI:=⟨1,8,.int .i64 0,.int .i64,(.int .i64)⟩
def i3:TI:=⟨1,8,.int .i64 0,.int .i64,(.int .i64)⟩
def i4:TI:=⟨1,1,.bool false,.bool,.bool⟩
def i5:TI:=⟨1,1,.int .u8 0,.int .u8,(.int .u8)⟩
def i8:TI:=⟨4,24,.agg #[.int .i64 0,.int .i64 0,.bool false,.int .u8 0],.agg [(0,1),(1,1),(2,1),(3,1)] false [false,false,false,false],y8⟩
def i16:TI:=⟨1,8,.pointer none,.ptr,.bool⟩
def i32:TI:=⟨5,120,.agg #[.slice none 0 0,.slice none 0 0,.slice none 0 0,.slice none 0 0,.slice none 0 0],.agg [(0,1),(1,3),(4,1)] false [true,true,false],T7⟩
def i35:TI:=⟨1,24,.slice none 0 0,.sl 2,(.sl (.int .i64))⟩
def Γ:m3:=[(2,⟨1,8,.int .i64 0,.int .i64,(.int .i64)⟩),(3,⟨1,8,.int .i64 0,.int .i64,(.int .i64)⟩),(4,⟨1,1,.bool false,.bool,.bool⟩),(5,⟨1,1,.int .u8 0,.int .u8,(.int .u8)⟩),(6,⟨1,1,.int .u8 0,.int .u8,(.int .u8)⟩),(8,⟨4,24,.agg #[.int .i64 0,.int .i64 0,.bool false,.int .u8 0],.agg [(0,1),(1,1),(2,1),(3,1)] false [false,false,false,false],y8⟩),(9,⟨1,16,.string ⟨#[]⟩,.str,.str⟩),(15,⟨1,8,.pointer none,.ptr,.bool⟩),(17,⟨1,8,.pointer none,.ptr,.bool⟩),(18,⟨1,8,.agg #[.pointer none],.agg [(0,1)] false [false],.bool⟩),(22,⟨1,24,.slice none 0 0,.sl 216,(.sl y216)⟩),(24,⟨1,24,.agg #[.slice none 0 0],.agg [(0,1)] false [false],((.sl y216))⟩),(25,⟨1,24,.slice none 0 0,.sl 218,(.sl y218)⟩),(26,⟨1,24,.slice none 0 0,.sl 9,(.sl .str)⟩),(27,⟨1,24,.slice none 0 0,.sl 221,(.sl y221)⟩),(29,⟨3,72,.agg #[.slice none 0 0,.slice none 0 0,.slice none 0 0],.agg [(0,1),(1,1),(2,1)] false [false,false,false],BU⟩),(30,⟨1,24,.slice none 0 0,.sl 146,(.sl y146)⟩),(32,⟨5,120,.agg #[.slice none 0 0,.slice none 0 0,.slice none 0 0,.slice none 0 0,.slice none 0 0],.agg [(0,1),(1,3),(4,1)] false [true,true,false],T7⟩),(34,⟨5,48,.agg #[.string ⟨#[]⟩,.int .i64 0,.int .i64 0,.int .i64 0,.int .i64 0],.agg [(0,1),(1,1),(2,1),(3,1),(4,1)] false [false,false,false,false,false],V5⟩),(35,⟨1,24,.slice none 0 0,.sl 2,(.sl (.int .i64))⟩),(36,⟨1,24,.slice none 0 0,.sl 106,(.sl y106)⟩),(37,⟨1,24,.slice none 0 0,.sl 4,(.sl .bool)⟩),(38,⟨1,24,.slice none 0 0,.sl 104,(.sl y104)⟩),(40,⟨3,72,.agg #[.slice none 0 0,.slice none 0 0,.slice none 0 0],.agg [(0,1),(1,1),(2,1)] false [false,false,false],Y3⟩),(47,⟨1,24,.slice none 0 0,.sl 153,(.sl y153)⟩),(48,⟨1,24,.agg #[.slice none 0 0],.agg [(0,1)] false [false],((.sl y153))⟩),(49,⟨1,24,.agg #[.slice none 0 0],.agg [(0,1)] false [false],((.sl y153))⟩),(50,⟨1,24,.slice none 0 0,.sl 155,(.sl y155)⟩),(51,⟨1,24,.slice none 0 0,.sl 231,(.sl y231)⟩),(52,⟨3,72,.agg #[.slice none 0 0,.slice none 0 0,.slice none 0 0],.agg [(0,1),(1,1),(2,1)] false [false,false,false],y52⟩),(53,⟨3,72,.agg #[.slice none 0 0,.slice none 0 0,.slice none 0 0],.agg [(0,1),(1,1),(2,1)] false [false,false,false],y53⟩),(54,⟨1,24,.slice none 0 0,.sl 172,(.sl y172)⟩),(55,⟨5,120,.agg #[.slice none 0 0,.slice none 0 0,.slice none 0 0,.slice none 0 0,.slice none 0 0],.agg [(0,1),(1,3),(4,1)] false [true,true,false],y55⟩),(56,⟨5,120,.agg #[.slice none 0 0,.slice none 0 0,.slice none 0 0,.slice none 0 0,.slice none 0 0],.agg [(0,1),(1,3),(4,1)] false [true,true,false],j7⟩),(58,⟨5,48,.agg #[.string ⟨#[]⟩,.int .i64 0,.int .i64 0,.int .i64 0,.int .i64 0],.agg [(0,1),(1,1),(2,1),(3,1),(4,1)] false [false,false,false,false,false],u5⟩),(61,⟨1,24,.slice none 0 0,.sl 75,(.sl y75)⟩),(63,⟨1,24,.slice none 0 0,.sl 73,(.sl y73)⟩),(65,⟨3,72,.agg #[.slice none 0 0,.slice none 0 0,.slice none 0 0],.agg [(0,1),(1,1),(2,1)] false [false,false,false],y65⟩),(73,⟨2,16,.agg #[.int .i64 0,.int .i64 0],.agg [(0,1),(1,1)] true [false,false],y73⟩),(75,⟨5,40,.agg #[.int .i64 0,.int .i64 0,.int .i64 0,.int .i64 0,.int .i64 0],.agg [(0,1),(1,2),(3,2)] false [false,true,true],y75⟩),(96,⟨1,24,.slice none 0 0,.sl 138,(.sl y138)⟩),(104,⟨2,16,.agg #[.int .i64 0,.int .i64 0],.agg [(0,1),(1,1)] true [false,false],y104⟩),(105,⟨5,40,.agg #[.int .i64 0,.int .i64 0,.int .i64 0,.int .i64 0,.int .i64 0],.agg [(0,1),(1,2),(3,2)] false [false,true,true],L0c⟩),(106,⟨5,40,.agg #[.int .i64 0,.int .i64 0,.int .i64 0,.int .i64 0,.int .i64 0],.agg [(0,1),(1,2),(3,2)] false [false,true,true],y106⟩),(109,⟨1,8,.pointer none,.ptr,(.pt y126)⟩),(112,⟨1,8,.pointer none,.ptr,(.pt y65)⟩),(124,⟨1,8,.pointer none,.ptr,(.pt y189)⟩),(126,⟨2,32,.agg #[.pointer none,.slice none 0 0],.agg [(0,1),(1,1)] false [false,false],y126⟩),(138,⟨4,32,.agg #[.int .i64 0,.int .i64 0,.int .i64 0,.int .i64 0],.agg [(0,1),(1,1),(2,1),(3,1)] true [false,false,false,false],y138⟩),(146,⟨4,96,.agg #[.slice none 0 0,.slice none 0 0,.slice none 0 0,.slice none 0 0],.agg [(0,1),(1,1),(2,1),(3,1)] false [false,false,false,false],y146⟩),(150,⟨1,24,.slice none 0 0,.sl 293,(.sl y293)⟩),(151,⟨1,24,.slice none 0 0,.sl 158,(.sl y158)⟩),(153,⟨7,112,.agg #[.string ⟨#[]⟩,.int .i64 0,.slice none 0 0,.slice none 0 0,.slice none 0 0,.int .i64 0,.int .i64 0],.agg [(0,1),(1,1),(2,1),(3,1),(4,1),(5,1),(6,1)] false [false,false,false,false,false,false,false],y153⟩),(155,⟨3,48,.agg #[.string ⟨#[]⟩,.int .i64 0,.slice none 0 0],.agg [(0,1),(1,1),(2,1)] false [false,false,false],y155⟩),(156,⟨1,24,.slice none 0 0,.sl 269,(.sl y269)⟩),(158,⟨6,80,.agg #[.int .i64 0,.int .i64 0,.int .i64 0,.int .i64 0,.slice none 0 0,.slice none 0 0],.agg [(0,1),(1,1),(2,1),(3,1),(4,1),(5,1)] false [false,false,false,false,false,false],y158⟩),(172,⟨4,96,.agg #[.slice none 0 0,.slice none 0 0,.slice none 0 0,.slice none 0 0],.agg [(0,1),(1,1),(2,1),(3,1)] false [false,false,false,false],y172⟩),(186,⟨1,24,.slice none 0 0,.sl 235,(.sl y235)⟩),(187,⟨1,24,.slice none 0 0,.sl 35,(.sl (.sl (.int .i64)))⟩),(189,⟨10,240,.agg #[.slice none 0 0,.slice none 0 0,.slice none 0 0,.slice none 0 0,.slice none 0 0,.slice none 0 0,.slice none 0 0,.slice none 0 0,.slice none 0 0,.slice none 0 0],.agg [(0,5),(5,1),(6,1),(7,1),(8,1),(9,1)] false [true,false,false,false,false,false],y189⟩),(197,⟨1,24,.slice none 0 0,.sl 226,(.sl w8)⟩),(202,⟨1,8,.pointer none,.ptr,(.pt .bool)⟩),(213,⟨1,24,.slice none 0 0,.sl 296,(.sl y296)⟩),(214,⟨1,24,.slice none 0 0,.sl 300,(.sl y300)⟩),(216,⟨7,112,.agg #[.string ⟨#[]⟩,.int .i64 0,.slice none 0 0,.slice none 0 0,.slice none 0 0,.int .i64 0,.int .i64 0],.agg [(0,1),(1,1),(2,1),(3,1),(4,1),(5,1),(6,1)] false [false,false,false,false,false,false,false],y216⟩),(218,⟨3,48,.agg #[.string ⟨#[]⟩,.int .i64 0,.slice none 0 0],.agg [(0,1),(1,1),(2,1)] false [false,false,false],y218⟩),(221,⟨3,32,.agg #[.string ⟨#[]⟩,.int .i64 0,.int .i64 0],.agg [(0,1),(1,1),(2,1)] false [false,false,false],y221⟩),(226,⟨4,32,.agg #[.int .i64 0,.int .i64 0,.int .i64 0,.bool false],.agg [(0,1),(1,1),(2,1),(3,1)] false [false,false,false,false],w8⟩),(231,⟨3,32,.agg #[.string ⟨#[]⟩,.int .i64 0,.int .i64 0],.agg [(0,1),(1,1),(2,1)] false [false,false,false],y231⟩),(235,⟨4,32,.agg #[.int .i64 0,.int .i64 0,.int .i64 0,.bool false],.agg [(0,1),(1,1),(2,1),(3,1)] false [false,false,false,false],y235⟩),(243,⟨1,24,.slice none 0 0,.sl 3,(.sl (.int .i64))⟩),(269,⟨3,72,.agg #[.slice none 0 0,.slice none 0 0,.slice none 0 0],.agg [(0,1),(1,1),(2,1)] false [false,false,false],y269⟩),(282,⟨1,24,.slice none 0 0,.sl 284,(.sl (.pr (.int .i64) (.int .i64)))⟩),(284,⟨2,16,.agg #[.int .i64 0,.int .i64 0],.arr 2 2,(.pr (.int .i64) (.int .i64))⟩),(291,⟨1,24,.slice none 0 0,.sl 5,(.sl (.int .u8))⟩),(293,⟨4,40,.agg #[.string ⟨#[]⟩,.int .i64 0,.int .i64 0,.bool false],.agg [(0,1),(1,1),(2,1),(3,1)] false [false,false,false,false],y293⟩),(296,⟨4,40,.agg #[.string ⟨#[]⟩,.int .i64 0,.int .i64 0,.bool false],.agg [(0,1),(1,1),(2,1),(3,1)] false [false,false,false,false],y296⟩),(298,⟨1,24,.slice none 0 0,.sl 342,(.sl y342)⟩),(300,⟨6,80,.agg #[.int .i64 0,.int .i64 0,.int .i64 0,.int .i64 0,.slice none 0 0,.slice none 0 0],.agg [(0,1),(1,1),(2,1),(3,1),(4,1),(5,1)] false [false,false,false,false,false,false],y300⟩),(318,⟨1,24,.slice none 0 0,.sl 322,(.sl M8)⟩),(322,⟨2,16,.agg #[.int .i64 0,.int .i64 0],.agg [(0,1),(1,1)] true [false,false],M8⟩),(330,⟨1,8,.int .u64 0,.int .u64,(.int .u64)⟩),(342,⟨3,72,.agg #[.slice none 0 0,.slice none 0 0,.slice none 0 0],.agg [(0,1),(1,1),(2,1)] false [false,false,false],y342⟩)]
theorem Bh:s6 Tryz.prog Γ:=F0f (by kernel_rfl)
end Go.Proofs.YtechodbafnmddaaGreatDoor
end
