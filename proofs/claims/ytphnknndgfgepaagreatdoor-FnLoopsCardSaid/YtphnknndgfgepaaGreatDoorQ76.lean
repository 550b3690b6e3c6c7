/- A fact of the row of 'FnLoops', looked at by the kernel. Nothing is asked. -/
import Derived.Test.YtphnknndgfgepaaGreatDoorCards
import Derived.Test.YtphnknndgfgepaaGreatDoorTie
import Derived.ProofKit
import Derived.Lay
import Derived.LaidMore
import Derived.Stop.Joined
import Derived.SevenTiedAt
import Derived.Stop.LaidErr
namespace Go.Proofs.YtphnknndgfgepaaGreatDoor
namespace fnLoops
theorem C0M{a b:Bool}(ha:a=true)(hb:b=true):(a&&b)=true:=by rw[ha,hb]; rfl
set_option maxHeartbeats 0 in
theorem x0Y:joinedFacts Tryz.pinned.checked.prog 6 Tryz.f6 Rows.fnLoopsSpec Rows.fnLoopsRow=true:=by
 unfold joinedFacts
 iterate 31 refine C0M ?_ (by as_aux_lemma=>kernel_rfl)
 as_aux_lemma=>kernel_rfl
end fnLoops
end Go.Proofs.YtphnknndgfgepaaGreatDoor
