/- The types of this seat's program. -/
import Derived.Test.YtekfdfcnjlfgiaaDoorXD
import Derived.Test.YtekfdfcnjlfgiaaDoorProg
import Derived.KernelRfl
section
namespace Go.Proofs.YtekfdfcnjlfgiaaDoor
open Go Go.Proofs Go.Proofs.Sv Go.Proofs.Xv
instance:Mixed Tryd.prog:=⟨by kernel_rfl⟩
abbrev y7:Ty:=.pr (.int .i64) (.pr (.int .i64) (.pr .bool ((.int .u8))))
abbrev y8:Ty:=.pr (.int .i64) (.pr (.int .i64) (.pr .bool ((.int .u8))))
abbrev y26:Ty:=.pr (.sl (.int .i64)) (.pr (.sl (.int .i64)) ((.sl (.int .i64))))
abbrev Y26:Type:=List Int×List Int×List Int
abbrev y52:Ty:=.pr (.sl (.int .u8)) (.pr (.int .i64) ((.int .i64)))
abbrev Y52:Type:=List Int×Int×Int
abbrev y51:Ty:=.pr (.sl (.int .u8)) (.pr (.int .i64) ((.int .i64)))
def i2:TI:=⟨1,8,.int .i64 0,.int .i64,(.int .i64)⟩
def i3:TI:=⟨1,8,.int .i64 0,.int .i64,(.int .i64)⟩
def i4:TI:=⟨1,1,.bool false,.bool,.bool⟩
def i5:TI:=⟨1,1,.int .u8 0,.int .u8,(.int .u8)⟩
def i6:TI:=⟨1,1,.int .u8 0,.int .u8,(.int .u8)⟩
def i7:TI:=⟨4,24,.agg #[.int .i64 0,.int .i64 0,.bool false,.int .u8 0],.agg [(0,1),(1,1),(2,1),(3,1)] false [false,false,false,false],y7⟩
def i8:TI:=⟨4,24,.agg #[.int .i64 0,.int .i64 0,.bool false,.int .u8 0],.agg [(0,1),(1,1),(2,1),(3,1)] false [false,false,false,false],y8⟩
def i9:TI:=⟨1,16,.string ⟨#[]⟩,.str,.str⟩
def i16:TI:=⟨1,8,.pointer none,.ptr,.bool⟩
def i21:TI:=⟨1,4,.int .i32 0,.int .i32,(.int .i32)⟩
def i24:TI:=⟨1,24,.slice none 0 0,.sl 2,(.sl (.int .i64))⟩
def i51:TI:=⟨3,40,.agg #[.slice none 0 0,.int .i64 0,.int .i64 0],.agg [(0,1),(1,1),(2,1)] false [false,false,false],y51⟩
def i75:TI:=⟨1,8,.pointer none,.ptr,.bool⟩
def i85:TI:=⟨1,8,.int .u64 0,.int .u64,(.int .u64)⟩
def Γ:Tab':=[(2,⟨1,8,.int .i64 0,.int .i64,(.int .i64)⟩),(3,⟨1,8,.int .i64 0,.int .i64,(.int .i64)⟩),(4,⟨1,1,.bool false,.bool,.bool⟩),(5,⟨1,1,.int .u8 0,.int .u8,(.int .u8)⟩),(9,⟨1,16,.string ⟨#[]⟩,.str,.str⟩),(22,⟨1,24,.slice none 0 0,.sl 5,(.sl (.int .u8))⟩),(24,⟨1,24,.slice none 0 0,.sl 2,(.sl (.int .i64))⟩),(26,⟨3,72,.agg #[.slice none 0 0,.slice none 0 0,.slice none 0 0],.agg [(0,1),(1,1),(2,1)] false [false,false,false],y26⟩),(36,⟨1,8,.pointer none,.ptr,(.pt y52)⟩),(38,⟨1,24,.slice none 0 0,.sl 9,(.sl .str)⟩),(52,⟨3,40,.agg #[.slice none 0 0,.int .i64 0,.int .i64 0],.agg [(0,1),(1,1),(2,1)] false [false,false,false],y52⟩),(124,⟨64,64,.agg #[.int .u8 0,.int .u8 0,.int .u8 0,.int .u8 0,.int .u8 0,.int .u8 0,.int .u8 0,.int .u8 0,.int .u8 0,.int .u8 0,.int .u8 0,.int .u8 0,.int .u8 0,.int .u8 0,.int .u8 0,.int .u8 0,.int .u8 0,.int .u8 0,.int .u8 0,.int .u8 0,.int .u8 0,.int .u8 0,.int .u8 0,.int .u8 0,.int .u8 0,.int .u8 0,.int .u8 0,.int .u8 0,.int .u8 0,.int .u8 0,.int .u8 0,.int .u8 0,.int .u8 0,.int .u8 0,.int .u8 0,.int .u8 0,.int .u8 0,.int .u8 0,.int .u8 0,.int .u8 0,.int .u8 0,.int .u8 0,.int .u8 0,.int .u8 0,.int .u8 0,.int .u8 0,.int .u8 0,.int .u8 0,.int .u8 0,.int .u8 0,.int .u8 0,.int .u8 0,.int .u8 0,.int .u8 0,.int .u8 0,.int .u8 0,.int .u8 0,.int .u8 0,.int .u8 0,.int .u8 0,.int .u8 0,.int .u8 0,.int .u8 0,.int .u8 0],.arr 64 5,.bool⟩)]
theorem tok:TabOk Tryd.prog Γ:=tab_ok (by kernel_rfl)
end Go.Proofs.YtekfdfcnjlfgiaaDoor
end
