/- No more laws of sizes here. -/
import Derived.Test.YtphnknndgfgepaaGreatDoorF77d
import Derived.Test.YtphnknndgfgepaaGreatDoorXF
section
namespace Go.Proofs.YtphnknndgfgepaaGreatDoor
end Go.Proofs.YtphnknndgfgepaaGreatDoor
end
