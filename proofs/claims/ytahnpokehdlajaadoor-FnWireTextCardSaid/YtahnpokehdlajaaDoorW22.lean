/- Reading a wire. -/
-- NAMES O1
import Derived.Test.YtahnpokehdlajaaDoorW21
import Derived.Test.YtahnpokehdlajaaDoorW14
namespace Go.Proofs.Sv
open Go Go.RowKit
class ArrayOf (P : Program) (T : TypeId) (n : outParam Nat) (E : outParam TypeId) : Prop where h : P.underlying T = some (.array n E)
section
variable {P : Program} {n : Nat} {e : Env} {w : World} {Q : Exit → Act → World → Prop} {ops : Array Oper} {rest : List Oper}
  {d : Nat} {ty : TypeId} {pos : String} {after : Array Edge}
theorem runs_idxA {T E s y m k b o : Nat} {z : Value} {x ix : Operand} {kk : IntKind} [h : ArrayOf P T m E] [i : Info P E s y z] (hx : ev e x = some (.pointer (some ⟨b, o, none⟩))) (hi : ev e ix = some (.int kk (k : Int))) (hk : k < m) :
    RunsOp P n e (.indexAddr T x ix) ty w (.pointer (some ⟨b, o + k * s, none⟩)) w := by
  intro a dst pos after g ha
  obtain ⟨inf, hinfo, h1, h2, h3⟩ := i.get
  have hadd : (Addr.mk b o none).add (k * s) = ⟨b, o + k * s, none⟩ := by
    unfold Addr.add
    split
    · rename_i h0; rw [h0]; rfl
    · rfl
  have hin : 0 ≤ (k : Int) ∧ (k : Int) < (m : Int) := ⟨by omega, by omega⟩
  simp only [execOp, ha.ev hx, ha.ev hi]
  simp only [Instr.indexAt, asIntOf, Sem.run_bind, run_underlying h.h, Instr.sureAddr, Result.andThen, Sem.run_pure, hin, and_self, if_true, run_sizeOf' w hinfo, h1, Int.toNat_natCast, hadd]
end
end Go.Proofs.Sv
namespace Go.Proofs.YtahnpokehdlajaaDoor
open Go Go.Proofs Go.Proofs.Sv Go.RowKit
attribute [local irreducible] VS VO VQ VH FinS seqQ blkQ loopQ RunsOp RunsU
attribute [local simp] spl reps Value.cells
instance : ArrayOf Tryd.prog 72 4 33 := ⟨Tryd.underlying72⟩

theorem c50e {w : World} (kE : ErrV w) (kM : MaxL w) : Calls Tryd.prog 50 #[.string ⟨#[]⟩, .string ⟨#[44]⟩] w fun en w' => en = .returned (.tuple #[.slice none 0 0, .bool false]) ∧ Ext w w' := by
  have hb : Below w.heap.size w w := Below.refl _ _
  refine calls_vs Tryd.func50 Tryd.ntmps50 rfl rfl ?_
  (repeat (first | refine vo_pure rfl rfl ?_ | refine vs_seq ?_ | refine vs_region ?_ | refine vo_nil ?_ | refine fin_seq ?_))
  refine vo_call rfl rfl ?_
  refine Calls.mono (splits (ls := [[]]) (by simp) (by simp) (by decide) kM) ?_
  rintro _ w2 ⟨b, rfl, B1, hN⟩
  refine ⟨_, rfl, ?_⟩
  have hbe := hN.eq
  have hE := hN.ext
  replace hb := hb.trans (hE.mono hb.size)
  clear hE
  (repeat (first | refine vo_pure rfl rfl ?_ | refine vo_nil ?_ | refine fin_seq ?_ | refine vs_block ?_ | refine vo_val _ (runs_lenL rfl) rfl ?_))
  refine vs_loop (fun _ : Nat => (15, .int .i64 0) :: (14, .int .i64 1) :: (13, .slice (some ⟨b, 0, none⟩) 1 1) :: []) (fun _ w' => w' = w2) (fun _ => 0) 0 rfl (by ((repeat (refine sub_cons rfl ?_)); exact sub_nil)) ?_
  rintro _ _ rfl
  (repeat (first | refine vo_pure rfl rfl ?_ | refine vs_seq ?_ | refine vs_region ?_ | refine vo_nil ?_ | refine fin_seq ?_ | refine vs_skip ?_ | refine vs_block ?_ | refine vs_cond_true rfl ?_))
  refine vo_idxB (k := 0) rfl rfl (by omega) rfl ?_
  refine vo_load rfl (B1.at 0 (.string ⟨#[]⟩) rfl) rfl ?_
  (repeat (first | refine vo_pure rfl rfl ?_ | refine vs_seq ?_ | refine vs_region ?_ | refine vo_nil ?_ | refine fin_seq ?_))
  refine vo_call rfl rfl ?_
  refine Calls.mono (c72e (kE.up hb)) ?_
  rintro _ w4 ⟨rfl, hE⟩
  refine ⟨_, rfl, ?_⟩
  replace hb := hb.trans (hE.mono hb.size)
  (repeat (first | refine vo_pure rfl rfl ?_ | refine vs_seq ?_ | refine vs_region ?_ | refine vo_nil ?_ | refine fin_seq ?_ | refine vs_ret ?_ | refine fin_seq_ret ?_ | refine fin_blk_ret ?_ | refine fin_loop_ret ?_ | refine vs_cond_true rfl ?_))
  (first | refine fin_ret1 Tryd.results50 rfl ?_ | refine fin_end1 Tryd.results50 rfl ?_ | refine fin_ret2 Tryd.results50 rfl rfl ?_ | refine fin_retC1 Tryd.results50 rfl (by assumption) rfl rfl ?_ | refine fin_retC Tryd.results50 rfl (by assumption) rfl ?_)
  exact ⟨rfl, hb⟩
end Go.Proofs.YtahnpokehdlajaaDoor
