/- Wires that were drawn; likeness. -/
-- NAMES O1 O2 O3 O4 KS
import Derived.Test.YtahnpokehdlajaaDoorW18
namespace Go.Proofs.YtahnpokehdlajaaDoor
open Go Go.Proofs Go.Proofs.Sv Go.RowKit
attribute [local irreducible] VS VO VQ VH VP VPo VT VTo FinS seqQ blkQ loopQ RunsOp RunsU
attribute [local simp] spl reps Value.cells

theorem c27 {v : Value} {code : List UInt8} {w : World} (k1 : SlR 0 w.heap.size w v code) (hlc : code.length ≤ 4096) : Calls Tryd.prog 27 #[v] w fun en w' => ∃ v1 v2 v3 v4, ∃ x : WireD, ∃ n : Int, en = .returned (.tuple #[.agg #[v1, v2, v3, v4], .int .i64 n]) ∧ Rep.rep w.heap.size w'.heap.size w' [v1, v2, v3, v4] x ∧ x.parent.length + x.res.length + x.cap.length + x.sink.length ≤ 1000 ∧ (0 ≤ n ∧ n ≤ 1000) ∧ Ext w w' := by
  have hb : Below w.heap.size w w := Below.refl _ _
  refine calls_vs Tryd.func27 Tryd.ntmps27 rfl rfl ?_
  (repeat (first | refine vs_seq ?_ | refine vs_region ?_))
  (refine vo_alloc rfl rfl ?_; intro b1 w1 hN B1; have zz := hN.eq; have zz := hN.size; have hE := hN.ext; have g1 : w.heap.size ≤ b1 := (by rw [← hN.eq]; exact hb.size); skip; have zz := hE.size; (first | replace hb := hb.trans (hE.mono hb.size) | replace hb := hb.trans (WE.of_ext hE)); (try replace h1 := h1.up hE); (try replace h2 := h2.up hE); (try replace h3 := h3.up hE); (try replace h4 := h4.up hE); (try replace h5 := h5.up hE); (try replace h6 := h6.up hE); (try replace h7 := h7.up hE); (try replace h8 := h8.up hE); (try replace h9 := h9.up hE); (try replace B2 := B2.up hE); (try replace B3 := B3.up hE); (try replace B4 := B4.up hE); (try replace B5 := B5.up hE); (try replace B6 := B6.up hE); (try replace O1 := O1.up hE); (try replace O2 := O2.up hE); (try replace O3 := O3.up hE); (try replace O4 := O4.up hE); (try replace KS := KS.up hE); (try clear hN hE); (try dsimp at B1))
  (repeat (first | refine vo_pure rfl rfl ?_ | refine vs_seq ?_ | refine vs_region ?_ | refine vo_nil ?_ | refine fin_seq ?_))
  have h1 := (k1.up hb).wide (Nat.le_refl 0) zz
  refine vo_call rfl rfl ?_
  refine Calls.mono (c48 h1 hlc) ?_
  rintro _ w2 ⟨v1, v2, v3, v4, x, n, rfl, h2, hs, hn, hE⟩
  refine ⟨_, rfl, ?_⟩
  have zz := hE.size
  (try replace h1 := h1.up hE); (try replace h2 := h2.up hE); (try replace h3 := h3.up hE); (try replace h4 := h4.up hE); (try replace h5 := h5.up hE); (try replace h6 := h6.up hE); (try replace h7 := h7.up hE); (try replace h8 := h8.up hE); (try replace h9 := h9.up hE); (try replace B1 := B1.up hE); (try replace B2 := B2.up hE); (try replace B3 := B3.up hE); (try replace B4 := B4.up hE); (try replace B5 := B5.up hE); (try replace B6 := B6.up hE); (try replace O1 := O1.up hE); (try replace O2 := O2.up hE); (try replace O3 := O3.up hE); (try replace O4 := O4.up hE); (try replace KS := KS.up hE)
  replace hb := hb.trans (hE.mono hb.size)
  obtain ⟨_, _, _, _, e, ⟨u1, rfl, h3⟩, ⟨u2, rfl, h4⟩, ⟨u3, rfl, h5⟩, ⟨u4, rfl, h6⟩⟩ := h2
  simp only [List.cons_append, List.nil_append, List.cons.injEq, and_true] at e
  obtain ⟨rfl, rfl, rfl, rfl⟩ := e
  obtain ⟨p1, k1, rfl⟩ := h3.len
  obtain ⟨p2, k2, rfl⟩ := h4.len
  obtain ⟨p3, k3, rfl⟩ := h5.len
  obtain ⟨p4, k4, rfl⟩ := h6.len
  (repeat (first | refine vo_pure rfl rfl ?_))
  (refine vo_store rfl rfl B1 rfl rfl rfl rfl ?_; intro w1 hW hN; have zz := hW.size; (first | replace hb := hb.trans (hW.below (by assumption)) | replace hb := hb.trans (WE.of_wr hW) | replace hb := hb.thenWr hW (by omega)); (try replace h1 := h1.wr hW (by omega)); (try replace h2 := h2.wr hW (by omega)); (try replace h3 := h3.wr hW (by omega)); (try replace h4 := h4.wr hW (by omega)); (try replace h5 := h5.wr hW (by omega)); (try replace h6 := h6.wr hW (by omega)); (try replace h7 := h7.wr hW (by omega)); (try replace h8 := h8.wr hW (by omega)); (try replace h9 := h9.wr hW (by omega)); (try replace B2 := B2.wr hW (by omega)); (try replace B3 := B3.wr hW (by omega)); (try replace B4 := B4.wr hW (by omega)); (try replace B5 := B5.wr hW (by omega)); (try replace B6 := B6.wr hW (by omega)); (try replace O1 := O1.wr hW (by intro e2; cases e2; omega)); (try replace O2 := O2.wr hW (by intro e2; cases e2; omega)); (try replace O3 := O3.wr hW (by intro e2; cases e2; omega)); (try replace O4 := O4.wr hW (by intro e2; cases e2; omega)); (try replace KS := KS.wr hW (by omega)); clear B1; have B1 := hN; clear hN hW; (try dsimp at B1))
  (repeat (first | refine vo_pure rfl rfl ?_ | refine vo_nil ?_ | refine fin_seq ?_ | refine vs_ret ?_))
  (first | refine fin_ret1 Tryd.results27 rfl ?_ | refine fin_end1 Tryd.results27 rfl ?_ | refine fin_ret2 Tryd.results27 rfl rfl ?_ | refine fin_retC1 Tryd.results27 rfl (by assumption) rfl rfl ?_ | refine fin_retC Tryd.results27 rfl (by assumption) rfl ?_)
  exact ⟨_, _, _, _, x, n, rfl, mkWire (h3.wide (by omega) (by omega)) (h4.wide (by omega) (by omega)) (h5.wide (by omega) (by omega)) (h6.wide (by omega) (by omega)), hs, hn, hb⟩
theorem c55 {lo hi lo' hi' : Nat} {v v' : Value} {xs : List Int} {w : World} (k1 : SlR lo hi w v xs) (k2 : SlR lo' hi' w v' xs) : Calls Tryd.prog 55 #[v, v'] w fun en w' => en = .returned (.bool true) ∧ Ext w w' := by
  have hle := k1.le
  obtain ⟨p, cap, rfl⟩ := k1.len
  obtain ⟨p', cap', rfl⟩ := k2.len
  have hb : Below w.heap.size w w := Below.refl _ _
  refine calls_vs Tryd.func55 Tryd.ntmps55 rfl rfl ?_
  (repeat (first | refine vo_pure rfl rfl ?_ | refine vs_seq ?_ | refine vs_region ?_ | refine vo_nil ?_ | refine fin_seq ?_ | refine vo_val _ (runs_lenL rfl) rfl ?_))
  refine vs_cond rfl (fun hc => ?_) (fun hc => ?_)
  · simp at hc
  · (repeat (first | refine vo_pure rfl rfl ?_ | refine vs_seq ?_ | refine vs_region ?_ | refine vo_nil ?_ | refine fin_seq ?_ | refine vs_skip ?_ | refine vs_block ?_))
    refine vs_loop (fun k : Nat => (5, .int .i64 (k : Int)) :: (0, .slice p xs.length cap) :: (1, .slice p' xs.length cap') :: []) (fun k w' => k ≤ xs.length ∧ Below w.heap.size w w') (fun k => xs.length - k) 0 ⟨Nat.zero_le _, hb⟩ (by ((repeat (refine sub_cons rfl ?_)); exact sub_nil)) ?_
    clear hb
    rintro k w2 ⟨hk, hb⟩
    have h1 := k1.up hb
    have h2 := k2.up hb
    (repeat (first | refine vo_pure rfl rfl ?_ | refine vs_seq ?_ | refine vs_region ?_ | refine vo_nil ?_ | refine fin_seq ?_ | refine vo_val _ (runs_lenL rfl) rfl ?_))
    refine vs_cond rfl (fun hc => ?_) (fun hc => ?_)
    · have hlt : k < xs.length := by simpa using hc
      (repeat (first | refine vs_seq ?_ | refine fin_seq ?_ | refine vs_skip ?_ | refine vs_block ?_ | refine vs_drawn (by kernel_rfl) ?_ | refine vq_pure rfl rfl ?_))
      (first | refine vo_idxI rfl rfl h1 rfl (by exact hlt) ?_ | refine vq_idxI rfl rfl h1 rfl (by exact hlt) ?_)
      intro b o hcell hI
      (repeat (first | refine vq_pure rfl rfl ?_ | refine vq_load rfl (by assumption) rfl rfl ?_))
      (first | refine vo_idxI rfl rfl h2 rfl (by exact hlt) ?_ | refine vq_idxI rfl rfl h2 rfl (by exact hlt) ?_)
      intro b' o' hcell' hI'
      (repeat (first | refine vq_pure rfl rfl ?_ | refine vq_load rfl (by assumption) rfl rfl ?_))
      (refine vq_nil ?_; intro w1 hE; (try replace h1 := h1.up hE); (try replace h2 := h2.up hE); (try replace h3 := h3.up hE); (try replace h4 := h4.up hE); (try replace h5 := h5.up hE); (try replace h6 := h6.up hE); (try replace h7 := h7.up hE); (try replace h8 := h8.up hE); (try replace h9 := h9.up hE); (try replace B1 := B1.up hE); (try replace B2 := B2.up hE); (try replace B3 := B3.up hE); (try replace B4 := B4.up hE); (try replace B5 := B5.up hE); (try replace B6 := B6.up hE); (try replace O1 := O1.up hE); (try replace O2 := O2.up hE); (try replace O3 := O3.up hE); (try replace O4 := O4.up hE); (try replace KS := KS.up hE); have zz := hE.size; (first | replace hb := hb.trans (hE.mono hb.size) | replace hb := hb.trans (WE.of_ext hE)); (try clear hE))
      (repeat (first | refine fin_seq ?_))
      refine vs_cond rfl (fun hc => ?_) (fun hc => ?_)
      · simp at hc
      · (repeat (first | refine vo_pure rfl rfl ?_ | refine vs_region ?_ | refine vo_nil ?_ | refine fin_seq ?_ | refine vs_skip ?_ | refine fin_blk ?_ | refine vo_val _ (runs_add rfl rfl (by omega)) rfl ?_))
        refine fin_loop (k + 1) ⟨by omega, hb⟩ (by omega) (by ((repeat (refine sub_cons rfl ?_)); exact sub_nil))
    · (repeat (first | refine vo_pure rfl rfl ?_ | refine vs_seq ?_ | refine vs_region ?_ | refine vo_nil ?_ | refine fin_seq ?_ | refine vs_ret ?_ | refine vs_exit ?_ | refine fin_seq_exit ?_ | refine fin_loop_exit ?_ | refine fin_blk_exit rfl ?_))
      (first | refine fin_ret1 Tryd.results55 rfl ?_ | refine fin_end1 Tryd.results55 rfl ?_ | refine fin_ret2 Tryd.results55 rfl rfl ?_ | refine fin_retC1 Tryd.results55 rfl (by assumption) rfl rfl ?_ | refine fin_retC Tryd.results55 rfl (by assumption) rfl ?_)
      exact ⟨rfl, hb⟩
theorem c31 {lo hi lo' hi' : Nat} {cs cs' : List Value} {x : WireD} {w : World} (k1 : Rep.rep lo hi w cs x) (k2 : Rep.rep lo' hi' w cs' x) : Calls Tryd.prog 31 #[.agg cs.toArray, .agg cs'.toArray] w fun en w' => en = .returned (.bool true) ∧ Ext w w' := by
  obtain ⟨_, _, _, _, rfl, ⟨v1, rfl, h1⟩, ⟨v2, rfl, h2⟩, ⟨v3, rfl, h3⟩, ⟨v4, rfl, h4⟩⟩ := k1
  obtain ⟨_, _, _, _, rfl, ⟨v5, rfl, h5⟩, ⟨v6, rfl, h6⟩, ⟨v7, rfl, h7⟩, ⟨v8, rfl, h8⟩⟩ := k2
  have hb : Below w.heap.size w w := Below.refl _ _
  refine calls_vs Tryd.func31 Tryd.ntmps31 rfl rfl ?_
  (repeat (first | refine vs_seq ?_ | refine vs_region ?_))
  (refine vo_box rfl rfl rfl ?_; intro b1 w1 hN B1; have zz := hN.eq; have zz := hN.size; have hE := hN.ext; have g1 : w.heap.size ≤ b1 := (by rw [← hN.eq]; exact hb.size); skip; have zz := hE.size; (first | replace hb := hb.trans (hE.mono hb.size) | replace hb := hb.trans (WE.of_ext hE)); (try replace h1 := h1.up hE); (try replace h2 := h2.up hE); (try replace h3 := h3.up hE); (try replace h4 := h4.up hE); (try replace h5 := h5.up hE); (try replace h6 := h6.up hE); (try replace h7 := h7.up hE); (try replace h8 := h8.up hE); (try replace h9 := h9.up hE); (try replace B2 := B2.up hE); (try replace B3 := B3.up hE); (try replace B4 := B4.up hE); (try replace B5 := B5.up hE); (try replace B6 := B6.up hE); (try replace O1 := O1.up hE); (try replace O2 := O2.up hE); (try replace O3 := O3.up hE); (try replace O4 := O4.up hE); (try replace KS := KS.up hE); (try clear hN hE); (try dsimp at B1))
  skip
  (refine vo_box rfl rfl rfl ?_; intro b2 w1 hN B2; have zz := hN.eq; have zz := hN.size; have hE := hN.ext; have g2 : w.heap.size ≤ b2 := (by rw [← hN.eq]; exact hb.size); (try have l1_2 : b1 < b2 := (by rw [← hN.eq]; exact B1.lt)); have zz := hE.size; (first | replace hb := hb.trans (hE.mono hb.size) | replace hb := hb.trans (WE.of_ext hE)); (try replace h1 := h1.up hE); (try replace h2 := h2.up hE); (try replace h3 := h3.up hE); (try replace h4 := h4.up hE); (try replace h5 := h5.up hE); (try replace h6 := h6.up hE); (try replace h7 := h7.up hE); (try replace h8 := h8.up hE); (try replace h9 := h9.up hE); (try replace B1 := B1.up hE); (try replace B3 := B3.up hE); (try replace B4 := B4.up hE); (try replace B5 := B5.up hE); (try replace B6 := B6.up hE); (try replace O1 := O1.up hE); (try replace O2 := O2.up hE); (try replace O3 := O3.up hE); (try replace O4 := O4.up hE); (try replace KS := KS.up hE); (try clear hN hE); (try dsimp at B2))
  (repeat (first | refine vo_pure rfl rfl ?_ | refine vs_seq ?_ | refine vs_region ?_ | refine vo_nil ?_ | refine fin_seq ?_ | refine vo_fieldAddr rfl rfl ?_ | refine vo_loadB rfl (by assumption) rfl rfl ?_))
  (refine vo_call rfl rfl ?_; refine Calls.mono (c55 h1 h5) ?_; rintro _ w1 ⟨rfl, hE⟩; refine ⟨_, rfl, ?_⟩; have zz := hE.size; (first | replace hb := hb.trans (hE.mono hb.size) | replace hb := hb.trans (WE.of_ext hE)); (try replace h1 := h1.up hE); (try replace h2 := h2.up hE); (try replace h3 := h3.up hE); (try replace h4 := h4.up hE); (try replace h5 := h5.up hE); (try replace h6 := h6.up hE); (try replace h7 := h7.up hE); (try replace h8 := h8.up hE); (try replace h9 := h9.up hE); (try replace B1 := B1.up hE); (try replace B2 := B2.up hE); (try replace B3 := B3.up hE); (try replace B4 := B4.up hE); (try replace B5 := B5.up hE); (try replace B6 := B6.up hE); (try replace O1 := O1.up hE); (try replace O2 := O2.up hE); (try replace O3 := O3.up hE); (try replace O4 := O4.up hE); (try replace KS := KS.up hE))
  (repeat (first | refine vo_pure rfl rfl ?_ | refine vo_guard_take rfl rfl ?_ | refine vo_fieldAddr rfl rfl ?_ | refine vo_loadB rfl (by assumption) rfl rfl ?_))
  (refine vo_call rfl rfl ?_; refine Calls.mono (c55 h2 h6) ?_; rintro _ w1 ⟨rfl, hE⟩; refine ⟨_, rfl, ?_⟩; have zz := hE.size; (first | replace hb := hb.trans (hE.mono hb.size) | replace hb := hb.trans (WE.of_ext hE)); (try replace h1 := h1.up hE); (try replace h2 := h2.up hE); (try replace h3 := h3.up hE); (try replace h4 := h4.up hE); (try replace h5 := h5.up hE); (try replace h6 := h6.up hE); (try replace h7 := h7.up hE); (try replace h8 := h8.up hE); (try replace h9 := h9.up hE); (try replace B1 := B1.up hE); (try replace B2 := B2.up hE); (try replace B3 := B3.up hE); (try replace B4 := B4.up hE); (try replace B5 := B5.up hE); (try replace B6 := B6.up hE); (try replace O1 := O1.up hE); (try replace O2 := O2.up hE); (try replace O3 := O3.up hE); (try replace O4 := O4.up hE); (try replace KS := KS.up hE))
  (repeat (first | refine vo_pure rfl rfl ?_ | refine vo_guard_take rfl rfl ?_ | refine vo_fieldAddr rfl rfl ?_ | refine vo_loadB rfl (by assumption) rfl rfl ?_))
  (refine vo_call rfl rfl ?_; refine Calls.mono (c55 h3 h7) ?_; rintro _ w1 ⟨rfl, hE⟩; refine ⟨_, rfl, ?_⟩; have zz := hE.size; (first | replace hb := hb.trans (hE.mono hb.size) | replace hb := hb.trans (WE.of_ext hE)); (try replace h1 := h1.up hE); (try replace h2 := h2.up hE); (try replace h3 := h3.up hE); (try replace h4 := h4.up hE); (try replace h5 := h5.up hE); (try replace h6 := h6.up hE); (try replace h7 := h7.up hE); (try replace h8 := h8.up hE); (try replace h9 := h9.up hE); (try replace B1 := B1.up hE); (try replace B2 := B2.up hE); (try replace B3 := B3.up hE); (try replace B4 := B4.up hE); (try replace B5 := B5.up hE); (try replace B6 := B6.up hE); (try replace O1 := O1.up hE); (try replace O2 := O2.up hE); (try replace O3 := O3.up hE); (try replace O4 := O4.up hE); (try replace KS := KS.up hE))
  (repeat (first | refine vo_pure rfl rfl ?_ | refine vo_guard_take rfl rfl ?_ | refine vo_fieldAddr rfl rfl ?_ | refine vo_loadB rfl (by assumption) rfl rfl ?_))
  (refine vo_call rfl rfl ?_; refine Calls.mono (c55 h4 h8) ?_; rintro _ w1 ⟨rfl, hE⟩; refine ⟨_, rfl, ?_⟩; have zz := hE.size; (first | replace hb := hb.trans (hE.mono hb.size) | replace hb := hb.trans (WE.of_ext hE)); (try replace h1 := h1.up hE); (try replace h2 := h2.up hE); (try replace h3 := h3.up hE); (try replace h4 := h4.up hE); (try replace h5 := h5.up hE); (try replace h6 := h6.up hE); (try replace h7 := h7.up hE); (try replace h8 := h8.up hE); (try replace h9 := h9.up hE); (try replace B1 := B1.up hE); (try replace B2 := B2.up hE); (try replace B3 := B3.up hE); (try replace B4 := B4.up hE); (try replace B5 := B5.up hE); (try replace B6 := B6.up hE); (try replace O1 := O1.up hE); (try replace O2 := O2.up hE); (try replace O3 := O3.up hE); (try replace O4 := O4.up hE); (try replace KS := KS.up hE))
  (repeat (first | refine vo_pure rfl rfl ?_ | refine vo_nil ?_ | refine fin_seq ?_ | refine vs_ret ?_))
  (first | refine fin_ret1 Tryd.results31 rfl ?_ | refine fin_end1 Tryd.results31 rfl ?_ | refine fin_ret2 Tryd.results31 rfl rfl ?_ | refine fin_retC1 Tryd.results31 rfl (by assumption) rfl rfl ?_ | refine fin_retC Tryd.results31 rfl (by assumption) rfl ?_)
  exact ⟨rfl, hb⟩
end Go.Proofs.YtahnpokehdlajaaDoor
