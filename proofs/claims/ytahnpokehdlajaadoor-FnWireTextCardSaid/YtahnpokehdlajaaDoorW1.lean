/- The smallest functions. -/
import Derived.Test.YtahnpokehdlajaaDoorFacts
namespace Go.Proofs.YtahnpokehdlajaaDoor
open Go Go.Proofs Go.Proofs.Sv Go.RowKit
attribute [local irreducible] VS VO VQ FinS seqQ blkQ loopQ RunsOp RunsU
attribute [local simp] spl reps Value.cells

theorem c40 {x lo hi : Int} {w : World} : Calls Tryd.prog 40 #[.int .i64 x, .int .i64 lo, .int .i64 hi] w fun en w' => en = .returned (.bool (decide (x ≥ lo) && decide (x ≤ hi))) ∧ w = w' := by
  refine calls_vs Tryd.func40 Tryd.ntmps40 rfl rfl ?_
  (repeat (first | refine vo_pure rfl rfl ?_ | refine vs_seq ?_ | refine vs_region ?_ | refine vo_nil ?_ | refine fin_seq ?_))
  (first | refine vo_split (fun hc => ?_) (fun hc => ?_) | refine vq_split (fun hc => ?_) (fun hc => ?_))
  all_goals ((repeat (first | refine vo_pure rfl rfl ?_ | refine vo_guard_take rfl rfl ?_ | refine vo_guard_skip rfl rfl rfl rfl ?_ | refine vo_nil ?_ | refine fin_seq ?_ | refine vs_ret ?_)); (first | refine fin_ret1 Tryd.results40 rfl ?_ | refine fin_end1 Tryd.results40 rfl ?_ | refine fin_ret2 Tryd.results40 rfl rfl ?_ | refine fin_retC1 Tryd.results40 rfl (by assumption) rfl rfl ?_ | refine fin_retC Tryd.results40 rfl (by assumption) rfl ?_); simp_all <;> omega)
theorem c52 {x lo hi : Int} {w : World} : Calls Tryd.prog 52 #[.int .i64 x, .int .i64 lo, .int .i64 hi] w fun en w' => en = .returned (.bool (decide (x ≥ lo) && decide (x ≤ hi))) ∧ w = w' := by
  refine calls_vs Tryd.func52 Tryd.ntmps52 rfl rfl ?_
  (repeat (first | refine vo_pure rfl rfl ?_ | refine vs_seq ?_ | refine vs_region ?_ | refine vo_nil ?_ | refine fin_seq ?_))
  (first | refine vo_split (fun hc => ?_) (fun hc => ?_) | refine vq_split (fun hc => ?_) (fun hc => ?_))
  all_goals ((repeat (first | refine vo_pure rfl rfl ?_ | refine vo_guard_take rfl rfl ?_ | refine vo_guard_skip rfl rfl rfl rfl ?_ | refine vo_nil ?_ | refine fin_seq ?_ | refine vs_ret ?_)); (first | refine fin_ret1 Tryd.results52 rfl ?_ | refine fin_end1 Tryd.results52 rfl ?_ | refine fin_ret2 Tryd.results52 rfl rfl ?_ | refine fin_retC1 Tryd.results52 rfl (by assumption) rfl rfl ?_ | refine fin_retC Tryd.results52 rfl (by assumption) rfl ?_); simp_all <;> omega)
theorem c41 {x lo : Int} {w : World} : Calls Tryd.prog 41 #[.int .i64 x, .int .i64 lo] w fun en w' => en = .returned (.bool (decide (x ≥ 100) && decide (x ≤ lo) && decide (lo ≤ 5000))) ∧ w = w' := by
  refine calls_vs Tryd.func41 Tryd.ntmps41 rfl rfl ?_
  (repeat (first | refine vo_pure rfl rfl ?_ | refine vs_seq ?_ | refine vs_region ?_ | refine vo_nil ?_ | refine fin_seq ?_))
  (first | refine vo_split (fun hc => ?_) (fun hc => ?_) | refine vq_split (fun hc => ?_) (fun hc => ?_))
  all_goals (repeat (first | refine vo_pure rfl rfl ?_ | refine vo_guard_take rfl rfl ?_ | refine vo_guard_skip rfl rfl rfl rfl ?_ | refine vo_nil ?_ | refine fin_seq ?_ | refine vs_ret ?_))
  all_goals (try (first | refine vo_split (fun hc => ?_) (fun hc => ?_) | refine vq_split (fun hc => ?_) (fun hc => ?_)))
  all_goals ((repeat (first | refine vo_pure rfl rfl ?_ | refine vo_guard_take rfl rfl ?_ | refine vo_guard_skip rfl rfl rfl rfl ?_ | refine vo_nil ?_ | refine fin_seq ?_ | refine vs_ret ?_)); (first | refine fin_ret1 Tryd.results41 rfl ?_ | refine fin_end1 Tryd.results41 rfl ?_ | refine fin_ret2 Tryd.results41 rfl rfl ?_ | refine fin_retC1 Tryd.results41 rfl (by assumption) rfl rfl ?_ | refine fin_retC Tryd.results41 rfl (by assumption) rfl ?_); simp_all <;> omega)
end Go.Proofs.YtahnpokehdlajaaDoor
