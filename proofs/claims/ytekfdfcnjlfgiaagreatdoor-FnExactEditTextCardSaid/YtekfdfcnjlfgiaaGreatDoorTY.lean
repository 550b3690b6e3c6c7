/- The types of this seat's program. -/
import Derived.Test.YtekfdfcnjlfgiaaGreatDoorXD
import Derived.Test.YtekfdfcnjlfgiaaGreatDoorProg
import Derived.KernelRfl
section
namespace Go.Proofs.YtekfdfcnjlfgiaaGreatDoor
open Go Go.Proofs Go.Proofs.Sv Go.Proofs.Xv
instance:Mixed Tryz.prog:=⟨by kernel_rfl⟩
abbrev y8:Ty:=.pr (.int .i64) (.pr (.int .i64) (.pr .bool ((.int .u8))))
abbrev y182:Ty:=.pr .str (.pr (.int .i64) (.pr (.int .i64) (.bool)))
abbrev Y182:Type:=ByteArray×Int×Int×Bool
abbrev y242:Ty:=.pr (.sl (.int .i64)) (.pr (.sl (.int .i64)) ((.sl (.int .i64))))
abbrev Y242:Type:=List Int×List Int×List Int
abbrev y186:Ty:=.pr (.int .i64) (.pr (.int .i64) (.pr (.int .i64) (.pr (.int .i64) (.pr (.sl y242) ((.sl y242))))))
abbrev Y186:Type:=Int×Int×Int×Int×List Y242×List Y242
abbrev y128:Ty:=.pr .str (.pr (.int .i64) (.pr (.sl y182) (.pr (.sl y186) (.pr (.sl (.int .i64)) (.pr (.int .i64) ((.int .i64)))))))
abbrev Y128:Type:=ByteArray×Int×List Y182×List Y186×List Int×Int×Int
abbrev y130:Ty:=.pr .str (.pr (.int .i64) ((.sl (.int .i64))))
abbrev Y130:Type:=ByteArray×Int×List Int
abbrev y132:Ty:=.pr .str (.pr (.int .i64) ((.int .i64)))
abbrev Y132:Type:=ByteArray×Int×Int
abbrev y29:Ty:=.pr (.sl y130) (.pr (.sl .str) ((.sl y132)))
abbrev Y29:Type:=List Y130×List ByteArray×List Y132
abbrev y50:Ty:=.pr (.sl (.int .i64)) (.pr (.sl (.int .i64)) (.pr (.sl (.int .i64)) ((.sl (.int .i64)))))
abbrev Y50:Type:=List Int×List Int×List Int×List Int
abbrev y32:Ty:=.pr ((.sl y128)) (.pr y29 ((.sl y50)))
abbrev Y32:Type:=List Y128×Y29×List Y50
abbrev y116:Ty:=.pr .str (.pr (.int .i64) (.pr (.int .i64) (.bool)))
abbrev Y116:Type:=ByteArray×Int×Int×Bool
abbrev y247:Ty:=.pr (.sl (.int .i64)) (.pr (.sl (.int .i64)) ((.sl (.int .i64))))
abbrev Y247:Type:=List Int×List Int×List Int
abbrev y191:Ty:=.pr (.int .i64) (.pr (.int .i64) (.pr (.int .i64) (.pr (.int .i64) (.pr (.sl y247) ((.sl y247))))))
abbrev Y191:Type:=Int×Int×Int×Int×List Y247×List Y247
abbrev y82:Ty:=.pr .str (.pr (.int .i64) (.pr (.sl y116) (.pr (.sl y191) (.pr (.sl (.int .i64)) (.pr (.int .i64) ((.int .i64)))))))
abbrev Y82:Type:=ByteArray×Int×List Y116×List Y191×List Int×Int×Int
abbrev y112:Ty:=.pr .str (.pr (.int .i64) ((.sl (.int .i64))))
abbrev Y112:Type:=ByteArray×Int×List Int
abbrev y114:Ty:=.pr .str (.pr (.int .i64) ((.int .i64)))
abbrev Y114:Type:=ByteArray×Int×Int
abbrev y41:Ty:=.pr (.sl y112) (.pr (.sl .str) ((.sl y114)))
abbrev Y41:Type:=List Y112×List ByteArray×List Y114
abbrev y55:Ty:=.pr (.sl (.int .i64)) (.pr (.sl (.int .i64)) (.pr (.sl (.int .i64)) ((.sl (.int .i64)))))
abbrev Y55:Type:=List Int×List Int×List Int×List Int
abbrev y44:Ty:=.pr ((.sl y82)) (.pr y41 ((.sl y55)))
abbrev Y44:Type:=List Y82×Y41×List Y55
abbrev y49:Ty:=.pr (.sl (.int .i64)) (.pr (.sl (.int .i64)) (.pr (.sl (.int .i64)) ((.sl (.int .i64)))))
abbrev y51:Ty:=.pr (.int .i64) (.pr (.int .i64) (.pr (.int .i64) (.pr (.int .i64) (.pr (.int .i64) (.pr .str y50)))))
abbrev y52:Ty:=.pr (.int .i64) (.pr (.int .i64) (.pr (.int .i64) (.pr (.int .i64) (.pr (.int .i64) (.pr .str y50)))))
abbrev Y52:Type:=Int×Int×Int×Int×Int×ByteArray×Y50
abbrev y56:Ty:=.pr (.int .i64) (.pr (.int .i64) (.pr (.int .i64) (.pr (.int .i64) (.pr (.int .i64) (.pr .str y55)))))
abbrev y57:Ty:=.pr (.int .i64) (.pr (.int .i64) (.pr (.int .i64) (.pr (.int .i64) (.pr (.int .i64) (.pr .str y55)))))
abbrev Y57:Type:=Int×Int×Int×Int×Int×ByteArray×Y55
abbrev y78:Ty:=.pr (.int .i64) (.pr (.int .i64) (.pr (.int .i64) (.bool)))
abbrev Y78:Type:=Int×Int×Int×Bool
abbrev y77:Ty:=.pr (.int .i64) (.pr (.int .i64) (.pr (.int .i64) (.bool)))
abbrev y102:Ty:=.pr (.int .i64) (.pr (.int .i64) (.pr (.int .i64) (.bool)))
abbrev Y102:Type:=Int×Int×Int×Bool
abbrev y101:Ty:=.pr (.int .i64) (.pr (.int .i64) (.pr (.int .i64) (.bool)))
abbrev y111:Ty:=.pr .str (.pr (.int .i64) ((.sl (.int .i64))))
abbrev y113:Ty:=.pr .str (.pr (.int .i64) ((.int .i64)))
abbrev y115:Ty:=.pr .str (.pr (.int .i64) (.pr (.int .i64) (.bool)))
abbrev y244:Ty:=.pr (.int .i64) ((.int .i64))
abbrev Y244:Type:=Int×Int
def i2:TI:=⟨1,8,.int .i64 0,.int .i64,(.int .i64)⟩
def i3:TI:=⟨1,8,.int .i64 0,.int .i64,(.int .i64)⟩
def i4:TI:=⟨1,1,.bool false,.bool,.bool⟩
def i5:TI:=⟨1,1,.int .u8 0,.int .u8,(.int .u8)⟩
def i8:TI:=⟨4,24,.agg #[.int .i64 0,.int .i64 0,.bool false,.int .u8 0],.agg [(0,1),(1,1),(2,1),(3,1)] false [false,false,false,false],y8⟩
def i9:TI:=⟨1,16,.string ⟨#[]⟩,.str,.str⟩
def i16:TI:=⟨1,8,.pointer none,.ptr,.bool⟩
def i32:TI:=⟨5,120,.agg #[.slice none 0 0,.slice none 0 0,.slice none 0 0,.slice none 0 0,.slice none 0 0],.agg [(0,1),(1,3),(4,1)] false [true,true,false],y32⟩
def i37:TI:=⟨1,24,.agg #[.slice none 0 0],.agg [(0,1)] false [false],((.sl y82))⟩
def i51:TI:=⟨10,152,.agg #[.int .i64 0,.int .i64 0,.int .i64 0,.int .i64 0,.int .i64 0,.string ⟨#[]⟩,.slice none 0 0,.slice none 0 0,.slice none 0 0,.slice none 0 0],.agg [(0,1),(1,1),(2,1),(3,1),(4,1),(5,1),(6,4)] false [false,false,false,false,false,false,true],y51⟩
def i171:TI:=⟨1,16,.nilIface,.oth,.bool⟩
def i233:TI:=⟨1,8,.pointer none,.ptr,.bool⟩
def Γ:Tab':=[(2,⟨1,8,.int .i64 0,.int .i64,(.int .i64)⟩),(3,⟨1,8,.int .i64 0,.int .i64,(.int .i64)⟩),(4,⟨1,1,.bool false,.bool,.bool⟩),(5,⟨1,1,.int .u8 0,.int .u8,(.int .u8)⟩),(6,⟨1,1,.int .u8 0,.int .u8,(.int .u8)⟩),(8,⟨4,24,.agg #[.int .i64 0,.int .i64 0,.bool false,.int .u8 0],.agg [(0,1),(1,1),(2,1),(3,1)] false [false,false,false,false],y8⟩),(9,⟨1,16,.string ⟨#[]⟩,.str,.str⟩),(22,⟨1,24,.slice none 0 0,.sl 128,(.sl y128)⟩),(24,⟨1,24,.agg #[.slice none 0 0],.agg [(0,1)] false [false],((.sl y128))⟩),(25,⟨1,24,.slice none 0 0,.sl 130,(.sl y130)⟩),(26,⟨1,24,.slice none 0 0,.sl 9,(.sl .str)⟩),(27,⟨1,24,.slice none 0 0,.sl 132,(.sl y132)⟩),(29,⟨3,72,.agg #[.slice none 0 0,.slice none 0 0,.slice none 0 0],.agg [(0,1),(1,1),(2,1)] false [false,false,false],y29⟩),(30,⟨1,24,.slice none 0 0,.sl 50,(.sl y50)⟩),(32,⟨5,120,.agg #[.slice none 0 0,.slice none 0 0,.slice none 0 0,.slice none 0 0,.slice none 0 0],.agg [(0,1),(1,3),(4,1)] false [true,true,false],y32⟩),(35,⟨1,24,.slice none 0 0,.sl 82,(.sl y82)⟩),(37,⟨1,24,.agg #[.slice none 0 0],.agg [(0,1)] false [false],((.sl y82))⟩),(38,⟨1,24,.slice none 0 0,.sl 112,(.sl y112)⟩),(39,⟨1,24,.slice none 0 0,.sl 114,(.sl y114)⟩),(41,⟨3,72,.agg #[.slice none 0 0,.slice none 0 0,.slice none 0 0],.agg [(0,1),(1,1),(2,1)] false [false,false,false],y41⟩),(42,⟨1,24,.slice none 0 0,.sl 55,(.sl y55)⟩),(44,⟨5,120,.agg #[.slice none 0 0,.slice none 0 0,.slice none 0 0,.slice none 0 0,.slice none 0 0],.agg [(0,1),(1,3),(4,1)] false [true,true,false],y44⟩),(48,⟨1,24,.slice none 0 0,.sl 2,(.sl (.int .i64))⟩),(49,⟨4,96,.agg #[.slice none 0 0,.slice none 0 0,.slice none 0 0,.slice none 0 0],.agg [(0,1),(1,1),(2,1),(3,1)] false [false,false,false,false],y49⟩),(50,⟨4,96,.agg #[.slice none 0 0,.slice none 0 0,.slice none 0 0,.slice none 0 0],.agg [(0,1),(1,1),(2,1),(3,1)] false [false,false,false,false],y50⟩),(51,⟨10,152,.agg #[.int .i64 0,.int .i64 0,.int .i64 0,.int .i64 0,.int .i64 0,.string ⟨#[]⟩,.slice none 0 0,.slice none 0 0,.slice none 0 0,.slice none 0 0],.agg [(0,1),(1,1),(2,1),(3,1),(4,1),(5,1),(6,4)] false [false,false,false,false,false,false,true],y51⟩),(52,⟨10,152,.agg #[.int .i64 0,.int .i64 0,.int .i64 0,.int .i64 0,.int .i64 0,.string ⟨#[]⟩,.slice none 0 0,.slice none 0 0,.slice none 0 0,.slice none 0 0],.agg [(0,1),(1,1),(2,1),(3,1),(4,1),(5,1),(6,4)] false [false,false,false,false,false,false,true],y52⟩),(55,⟨4,96,.agg #[.slice none 0 0,.slice none 0 0,.slice none 0 0,.slice none 0 0],.agg [(0,1),(1,1),(2,1),(3,1)] false [false,false,false,false],y55⟩),(56,⟨10,152,.agg #[.int .i64 0,.int .i64 0,.int .i64 0,.int .i64 0,.int .i64 0,.string ⟨#[]⟩,.slice none 0 0,.slice none 0 0,.slice none 0 0,.slice none 0 0],.agg [(0,1),(1,1),(2,1),(3,1),(4,1),(5,1),(6,4)] false [false,false,false,false,false,false,true],y56⟩),(57,⟨10,152,.agg #[.int .i64 0,.int .i64 0,.int .i64 0,.int .i64 0,.int .i64 0,.string ⟨#[]⟩,.slice none 0 0,.slice none 0 0,.slice none 0 0,.slice none 0 0],.agg [(0,1),(1,1),(2,1),(3,1),(4,1),(5,1),(6,4)] false [false,false,false,false,false,false,true],y57⟩),(73,⟨1,24,.slice none 0 0,.sl 78,(.sl y78)⟩),(77,⟨4,32,.agg #[.int .i64 0,.int .i64 0,.int .i64 0,.bool false],.agg [(0,1),(1,1),(2,1),(3,1)] false [false,false,false,false],y77⟩),(78,⟨4,32,.agg #[.int .i64 0,.int .i64 0,.int .i64 0,.bool false],.agg [(0,1),(1,1),(2,1),(3,1)] false [false,false,false,false],y78⟩),(79,⟨1,24,.slice none 0 0,.sl 116,(.sl y116)⟩),(80,⟨1,24,.slice none 0 0,.sl 191,(.sl y191)⟩),(82,⟨7,112,.agg #[.string ⟨#[]⟩,.int .i64 0,.slice none 0 0,.slice none 0 0,.slice none 0 0,.int .i64 0,.int .i64 0],.agg [(0,1),(1,1),(2,1),(3,1),(4,1),(5,1),(6,1)] false [false,false,false,false,false,false,false],y82⟩),(99,⟨1,24,.slice none 0 0,.sl 102,(.sl y102)⟩),(101,⟨4,32,.agg #[.int .i64 0,.int .i64 0,.int .i64 0,.bool false],.agg [(0,1),(1,1),(2,1),(3,1)] false [false,false,false,false],y101⟩),(102,⟨4,32,.agg #[.int .i64 0,.int .i64 0,.int .i64 0,.bool false],.agg [(0,1),(1,1),(2,1),(3,1)] false [false,false,false,false],y102⟩),(111,⟨3,48,.agg #[.string ⟨#[]⟩,.int .i64 0,.slice none 0 0],.agg [(0,1),(1,1),(2,1)] false [false,false,false],y111⟩),(112,⟨3,48,.agg #[.string ⟨#[]⟩,.int .i64 0,.slice none 0 0],.agg [(0,1),(1,1),(2,1)] false [false,false,false],y112⟩),(113,⟨3,32,.agg #[.string ⟨#[]⟩,.int .i64 0,.int .i64 0],.agg [(0,1),(1,1),(2,1)] false [false,false,false],y113⟩),(114,⟨3,32,.agg #[.string ⟨#[]⟩,.int .i64 0,.int .i64 0],.agg [(0,1),(1,1),(2,1)] false [false,false,false],y114⟩),(115,⟨4,40,.agg #[.string ⟨#[]⟩,.int .i64 0,.int .i64 0,.bool false],.agg [(0,1),(1,1),(2,1),(3,1)] false [false,false,false,false],y115⟩),(116,⟨4,40,.agg #[.string ⟨#[]⟩,.int .i64 0,.int .i64 0,.bool false],.agg [(0,1),(1,1),(2,1),(3,1)] false [false,false,false,false],y116⟩),(117,⟨1,24,.slice none 0 0,.sl 5,(.sl (.int .u8))⟩),(125,⟨1,24,.slice none 0 0,.sl 182,(.sl y182)⟩),(126,⟨1,24,.slice none 0 0,.sl 186,(.sl y186)⟩),(128,⟨7,112,.agg #[.string ⟨#[]⟩,.int .i64 0,.slice none 0 0,.slice none 0 0,.slice none 0 0,.int .i64 0,.int .i64 0],.agg [(0,1),(1,1),(2,1),(3,1),(4,1),(5,1),(6,1)] false [false,false,false,false,false,false,false],y128⟩),(130,⟨3,48,.agg #[.string ⟨#[]⟩,.int .i64 0,.slice none 0 0],.agg [(0,1),(1,1),(2,1)] false [false,false,false],y130⟩),(132,⟨3,32,.agg #[.string ⟨#[]⟩,.int .i64 0,.int .i64 0],.agg [(0,1),(1,1),(2,1)] false [false,false,false],y132⟩),(141,⟨1,24,.slice none 0 0,.sl 3,(.sl (.int .i64))⟩),(171,⟨1,16,.nilIface,.oth,.bool⟩),(182,⟨4,40,.agg #[.string ⟨#[]⟩,.int .i64 0,.int .i64 0,.bool false],.agg [(0,1),(1,1),(2,1),(3,1)] false [false,false,false,false],y182⟩),(184,⟨1,24,.slice none 0 0,.sl 242,(.sl y242)⟩),(186,⟨6,80,.agg #[.int .i64 0,.int .i64 0,.int .i64 0,.int .i64 0,.slice none 0 0,.slice none 0 0],.agg [(0,1),(1,1),(2,1),(3,1),(4,1),(5,1)] false [false,false,false,false,false,false],y186⟩),(189,⟨1,24,.slice none 0 0,.sl 247,(.sl y247)⟩),(191,⟨6,80,.agg #[.int .i64 0,.int .i64 0,.int .i64 0,.int .i64 0,.slice none 0 0,.slice none 0 0],.agg [(0,1),(1,1),(2,1),(3,1),(4,1),(5,1)] false [false,false,false,false,false,false],y191⟩),(194,⟨1,8,.int .u64 0,.int .u64,(.int .u64)⟩),(210,⟨24,24,.agg #[.int .u8 0,.int .u8 0,.int .u8 0,.int .u8 0,.int .u8 0,.int .u8 0,.int .u8 0,.int .u8 0,.int .u8 0,.int .u8 0,.int .u8 0,.int .u8 0,.int .u8 0,.int .u8 0,.int .u8 0,.int .u8 0,.int .u8 0,.int .u8 0,.int .u8 0,.int .u8 0,.int .u8 0,.int .u8 0,.int .u8 0,.int .u8 0],.arr 24 5,.bool⟩),(242,⟨3,72,.agg #[.slice none 0 0,.slice none 0 0,.slice none 0 0],.agg [(0,1),(1,1),(2,1)] false [false,false,false],y242⟩),(244,⟨2,16,.agg #[.int .i64 0,.int .i64 0],.agg [(0,1),(1,1)] true [false,false],y244⟩),(247,⟨3,72,.agg #[.slice none 0 0,.slice none 0 0,.slice none 0 0],.agg [(0,1),(1,1),(2,1)] false [false,false,false],y247⟩)]
theorem tok:TabOk Tryz.prog Γ:=tab_ok (by kernel_rfl)
end Go.Proofs.YtekfdfcnjlfgiaaGreatDoor
end
