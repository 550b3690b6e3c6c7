/- No more laws of sizes here. -/
import Derived.Test.YtdjgagoledoaaaaGreatDoorF86c
import Derived.Test.YtdjgagoledoaaaaGreatDoorXF
section
namespace Go.Proofs.YtdjgagoledoaaaaGreatDoor
end Go.Proofs.YtdjgagoledoaaaaGreatDoor
end
