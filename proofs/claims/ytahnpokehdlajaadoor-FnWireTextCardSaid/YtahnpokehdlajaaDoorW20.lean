/- Reading one number. -/
import Derived.Test.YtahnpokehdlajaaDoorM4
import Derived.Test.YtahnpokehdlajaaDoorShelf3
import Derived.Test.YtahnpokehdlajaaDoorW9
namespace Go.Proofs.Sv
open Go Go.RowKit
class IfaceT (P : Program) (T : TypeId) : Prop where h : ∃ m, P.underlying T = some (.interface m)
section
variable {P : Program} {n : Nat} {e : Env} {w : World} {ty : TypeId}
theorem eqIn_nil (dd : Nat) {T : TypeId} {m : _} (hm : P.underlying T = some (.interface m)) : (Op.equalIn (dd + 1) T .nilIface .nilIface).run P w = .ok true w := by simp [Op.equalIn, run_underlying hm]
theorem eqIn_err (dd : Nat) {T tx : TypeId} {vx : Value} {m : _} (hm : P.underlying T = some (.interface m)) : (Op.equalIn (dd + 1) T (.iface tx vx) .nilIface).run P w = .ok false w := by simp [Op.equalIn, run_underlying hm]
theorem runs_eqNil {T T' : TypeId} {x : Operand} [h : IfaceT P T] (hx : ev e x = some .nilIface) : RunsOp P n e (.binOp .eql T x (.const .nilIface) T') ty w (.bool true) w := by
  obtain ⟨m, hm⟩ := h.h
  intro ac dst pos after g ha
  have he : (Op.equal T .nilIface .nilIface).run P w = .ok true w := eqIn_nil 9999 hm
  simp only [execOp, ha.ev hx]
  simp [eqGuard, binOp, Act.eval, he, Result.andThen]
theorem runs_eqErr {T T' tx : TypeId} {x : Operand} {vx : Value} [h : IfaceT P T] (hx : ev e x = some (.iface tx vx)) : RunsOp P n e (.binOp .eql T x (.const .nilIface) T') ty w (.bool false) w := by
  obtain ⟨m, hm⟩ := h.h
  intro ac dst pos after g ha
  have he : (Op.equal T (.iface tx vx) .nilIface).run P w = .ok false w := eqIn_err 9999 hm
  simp only [execOp, ha.ev hx]
  simp [eqGuard, binOp, Act.eval, he, Result.andThen]
end
end Go.Proofs.Sv
namespace Go.Proofs.YtahnpokehdlajaaDoor
open Go Go.Proofs Go.Proofs.Sv Go.RowKit
attribute [local irreducible] VS VO VQ VH FinS seqQ blkQ loopQ RunsOp RunsU
attribute [local simp] spl reps Value.cells
instance : IfaceT Tryd.prog 110 := ⟨⟨_, Tryd.underlying110⟩⟩

def ErrV (w : World) : Prop := ∃ ev, w.cell? ⟨3, 0, none⟩ = some ev ∧ (ev = .nilIface ∨ ∃ te pe, ev = .iface te pe)
theorem ErrV.up {w w' : World} (h : ErrV w) (k : Ext w w') : ErrV w' := by
  obtain ⟨ev, h1, h2⟩ := h
  refine ⟨ev, ?_, h2⟩
  rw [← h1]
  have hlt : 3 < w.heap.size := World.block_lt_of_cell? w _ h1
  exact World.cell?_of_block (w := w) (k.block 3 hlt)
theorem c72 {x : Int} {w : World} (hI : InI x) (kT : Tab w) : Calls Tryd.prog 72 #[.string ⟨(Lib.itoa x).toArray⟩] w fun en w' => en = .returned (.tuple #[.int .i64 x, .bool true]) ∧ Ext w w' := by
  have hb : Below w.heap.size w w := Below.refl _ _
  have hl := itoa_len hI
  refine calls_vs Tryd.func72 Tryd.ntmps72 rfl rfl ?_
  (repeat (first | refine vo_pure rfl rfl ?_ | refine vs_seq ?_ | refine vs_region ?_ | refine vo_nil ?_ | refine fin_seq ?_))
  refine vo_call rfl rfl ?_
  refine Calls.mono (Tryd.strconv_ParseInt_10_at64_ok ⟨(Lib.itoa x).toArray⟩ (by rw [ba_size]; omega) x (by simpa using parse_itoa hI) _) ?_
  rintro _ w2 ⟨rfl, hw⟩
  refine ⟨_, rfl, ?_⟩
  have hE : Ext w w2 := by
    rcases hw with rfl | ⟨t, rfl⟩
    · exact Ext.refl _
    · exact Lib.bytesWorld_below _ _ _
  replace hb := hb.trans (hE.mono hb.size)
  (repeat (first | refine vo_pure rfl rfl ?_ | refine vs_seq ?_ | refine vs_region ?_ | refine vo_nil ?_ | refine fin_seq ?_))
  refine vo_val _ (runs_eqNil rfl) rfl ?_
  (repeat (first | refine vo_pure rfl rfl ?_ | refine vo_guard_take rfl rfl ?_))
  (refine vo_call rfl rfl ?_; refine Calls.mono (c86 hI (kT.up hb)) ?_; rintro _ w1 ⟨rfl, hE⟩; refine ⟨_, rfl, ?_⟩; have zz := hE.size; (first | replace hb := hb.trans (hE.mono hb.size) | replace hb := hb.trans (WE.of_ext hE)); (try replace h1 := h1.up hE); (try replace h2 := h2.up hE); (try replace h3 := h3.up hE); (try replace h4 := h4.up hE); (try replace h5 := h5.up hE); (try replace h6 := h6.up hE); (try replace h7 := h7.up hE); (try replace h8 := h8.up hE); (try replace h9 := h9.up hE); (try replace B1 := B1.up hE); (try replace B2 := B2.up hE); (try replace B3 := B3.up hE); (try replace B4 := B4.up hE); (try replace B5 := B5.up hE); (try replace B6 := B6.up hE))
  (repeat (first | refine vo_pure rfl rfl ?_ | refine vo_guard_take rfl rfl ?_ | refine vo_nil ?_ | refine fin_seq ?_ | refine vs_ret ?_))
  (first | refine fin_ret1 Tryd.results72 rfl ?_ | refine fin_end1 Tryd.results72 rfl ?_ | refine fin_ret2 Tryd.results72 rfl rfl ?_ | refine fin_retC1 Tryd.results72 rfl (by assumption) rfl rfl ?_ | refine fin_retC Tryd.results72 rfl (by assumption) rfl ?_)
  exact ⟨by simp, hb⟩
theorem c72e {w : World} (kE : ErrV w) : Calls Tryd.prog 72 #[.string ⟨#[]⟩] w fun en w' => en = .returned (.tuple #[.int .i64 0, .bool false]) ∧ Ext w w' := by
  have hb : Below w.heap.size w w := Below.refl _ _
  obtain ⟨ev, hv, hev⟩ := kE
  refine calls_vs Tryd.func72 Tryd.ntmps72 rfl rfl ?_
  (repeat (first | refine vo_pure rfl rfl ?_ | refine vs_seq ?_ | refine vs_region ?_ | refine vo_nil ?_ | refine fin_seq ?_))
  refine vo_call rfl rfl ?_
  refine Calls.mono (Tryd.parse_empty ev _ hv hev) ?_
  rintro _ w2 ⟨N, rfl, hE⟩
  refine ⟨_, rfl, ?_⟩
  (repeat (first | refine vo_pure rfl rfl ?_ | refine vs_seq ?_ | refine vs_region ?_ | refine vo_nil ?_ | refine fin_seq ?_))
  refine vo_val _ (runs_eqErr rfl) rfl ?_
  (repeat (first | refine vo_pure rfl rfl ?_ | refine vo_guard_skip rfl rfl rfl rfl ?_ | refine vo_nil ?_ | refine fin_seq ?_ | refine vs_ret ?_))
  (first | refine fin_ret1 Tryd.results72 rfl ?_ | refine fin_end1 Tryd.results72 rfl ?_ | refine fin_ret2 Tryd.results72 rfl rfl ?_ | refine fin_retC1 Tryd.results72 rfl (by assumption) rfl rfl ?_ | refine fin_retC Tryd.results72 rfl (by assumption) rfl ?_)
  exact ⟨rfl, hE⟩
end Go.Proofs.YtahnpokehdlajaaDoor
