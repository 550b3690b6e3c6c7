/- A fact of the row of 'FnLoopReport', looked at by the kernel. Nothing is asked. -/
import Derived.Test.YtphnknndgfgepaaGreatDoorCards
import Derived.Test.YtphnknndgfgepaaGreatDoorTie
import Derived.ProofKit
import Derived.Lay
import Derived.LaidMore
import Derived.Stop.Joined
import Derived.SevenTiedAt
import Derived.Stop.LaidErr
namespace Go.Proofs.YtphnknndgfgepaaGreatDoor
namespace fnLoopReport
theorem C0L{a b:Bool}(ha:a=true)(hb:b=true):(a&&b)=true:=by rw[ha,hb]; rfl
set_option maxHeartbeats 0 in
theorem C0K:joinedFacts Tryz.pinned.checked.prog 7 Tryz.f7 Rows.fnLoopReportSpec Rows.fnLoopReportRow=true:=by
 unfold joinedFacts
 iterate 31 refine C0L ?_ (by as_aux_lemma=>kernel_rfl)
 as_aux_lemma=>kernel_rfl
end fnLoopReport
end Go.Proofs.YtphnknndgfgepaaGreatDoor
