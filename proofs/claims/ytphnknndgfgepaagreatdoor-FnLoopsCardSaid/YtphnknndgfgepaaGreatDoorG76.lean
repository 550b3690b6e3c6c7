/- No more laws of sizes here. -/
import Derived.Test.YtphnknndgfgepaaGreatDoorF76d
import Derived.Test.YtphnknndgfgepaaGreatDoorXF6
section
namespace Go.Proofs.YtphnknndgfgepaaGreatDoor
end Go.Proofs.YtphnknndgfgepaaGreatDoor
end
