/- Drawn wires, rarely not valid. -/
-- NAMES O1 O2 O3 O4 O5 O6 O7 KS
import Derived.Test.YtahnpokehdlajaaDoorW17
import Derived.Test.YtahnpokehdlajaaDoorBase15
import Derived.Test.YtahnpokehdlajaaDoorW11
namespace Go.Proofs.YtahnpokehdlajaaDoor
open Go Go.Proofs Go.Proofs.Sv Go.RowKit
attribute [local irreducible] VS VO VQ VH VP VPo VT VTo FinS seqQ blkQ loopQ RunsOp RunsU
attribute [local simp] spl reps Value.cells

set_option maxHeartbeats 4000000 in
theorem c48 {v : Value} {code : List UInt8} {w : World} (k1 : SlR 0 w.heap.size w v code) (hlc : code.length ≤ 4096) : Calls Tryd.prog 48 #[v] w fun en w' => ∃ v1 v2 v3 v4, ∃ x : WireD, ∃ n : Int, en = .returned (.tuple #[.agg #[v1, v2, v3, v4], .int .i64 n]) ∧ Rep.rep w.heap.size w'.heap.size w' [v1, v2, v3, v4] x ∧ x.parent.length + x.res.length + x.cap.length + x.sink.length ≤ 1000 ∧ (0 ≤ n ∧ n ≤ 1000) ∧ Ext w w' := by
  have hb : Below w.heap.size w w := Below.refl _ _
  refine calls_vs Tryd.func48 Tryd.ntmps48 rfl rfl ?_
  (repeat (first | refine vs_seq ?_ | refine vs_region ?_))
  (refine vo_alloc rfl rfl ?_; intro b1 w1 hN B1; have zz := hN.eq; have zz := hN.size; have hE := hN.ext; have g1 : w.heap.size ≤ b1 := (by rw [← hN.eq]; exact hb.size); skip; have zz := hE.size; (first | replace hb := hb.trans (hE.mono hb.size) | replace hb := hb.trans (WE.of_ext hE)); (try replace h1 := h1.up hE); (try replace h2 := h2.up hE); (try replace h3 := h3.up hE); (try replace h4 := h4.up hE); (try replace h5 := h5.up hE); (try replace h6 := h6.up hE); (try replace h7 := h7.up hE); (try replace h8 := h8.up hE); (try replace h9 := h9.up hE); (try replace B2 := B2.up hE); (try replace B3 := B3.up hE); (try replace B4 := B4.up hE); (try replace B5 := B5.up hE); (try replace B6 := B6.up hE); (try replace O1 := O1.up hE); (try replace O2 := O2.up hE); (try replace O3 := O3.up hE); (try replace O4 := O4.up hE); (try replace O5 := O5.up hE); (try replace O6 := O6.up hE); (try replace O7 := O7.up hE); (try replace KS := KS.up hE); (try clear hN hE); (try dsimp at B1))
  (repeat (first | refine vo_pure rfl rfl ?_ | refine vs_seq ?_ | refine vs_region ?_ | refine vo_nil ?_ | refine fin_seq ?_))
  have h1 := k1.up hb
  refine vo_call rfl rfl ?_
  refine Calls.mono (c57 (h1.wide (Nat.le_refl 0) zz) hlc) ?_
  rintro _ w2 ⟨b, rfl, KS, hE⟩
  refine ⟨_, rfl, ?_⟩
  have zz := hE.size
  have hle := KS.le
  have hlt := KS.lt
  (try replace h1 := h1.up hE); (try replace h2 := h2.up hE); (try replace h3 := h3.up hE); (try replace h4 := h4.up hE); (try replace h5 := h5.up hE); (try replace h6 := h6.up hE); (try replace h7 := h7.up hE); (try replace h8 := h8.up hE); (try replace h9 := h9.up hE); (try replace B1 := B1.up hE); (try replace B2 := B2.up hE); (try replace B3 := B3.up hE); (try replace B4 := B4.up hE); (try replace B5 := B5.up hE); (try replace B6 := B6.up hE); (try replace O1 := O1.up hE); (try replace O2 := O2.up hE); (try replace O3 := O3.up hE); (try replace O4 := O4.up hE); (try replace O5 := O5.up hE); (try replace O6 := O6.up hE); (try replace O7 := O7.up hE); (try replace KS := KS.up hE)
  replace hb := hb.trans (hE.mono hb.size)
  clear hE h1
  (repeat (first | refine vo_pure rfl rfl ?_ | refine vs_seq ?_ | refine vs_region ?_ | refine vo_nil ?_ | refine fin_seq ?_))
  refine vo_call rfl rfl ?_
  refine Calls.mono (c69 KS (by omega)) ?_
  rintro _ w3 ⟨n, rfl, hn, KS, hE⟩
  refine ⟨_, rfl, ?_⟩
  have zz := hE.size
  ((try replace h1 := h1.we hE (fun i e => by cases e; omega)); (try replace h2 := h2.we hE (fun i e => by cases e; omega)); (try replace h3 := h3.we hE (fun i e => by cases e; omega)); (try replace h4 := h4.we hE (fun i e => by cases e; omega)); (try replace h5 := h5.we hE (fun i e => by cases e; omega)); (try replace h6 := h6.we hE (fun i e => by cases e; omega)); (try replace h7 := h7.we hE (fun i e => by cases e; omega)); (try replace h8 := h8.we hE (fun i e => by cases e; omega)); (try replace h9 := h9.we hE (fun i e => by cases e; omega)); (try replace B1 := B1.we hE (fun i e => by cases e; omega)); (try replace B2 := B2.we hE (fun i e => by cases e; omega)); (try replace B3 := B3.we hE (fun i e => by cases e; omega)); (try replace B4 := B4.we hE (fun i e => by cases e; omega)); (try replace B5 := B5.we hE (fun i e => by cases e; omega)); (try replace B6 := B6.we hE (fun i e => by cases e; omega)); (try replace O1 := O1.we hE (fun i e => by cases e; (try intro e2; cases e2); omega)); (try replace O2 := O2.we hE (fun i e => by cases e; (try intro e2; cases e2); omega)); (try replace O3 := O3.we hE (fun i e => by cases e; (try intro e2; cases e2); omega)); (try replace O4 := O4.we hE (fun i e => by cases e; (try intro e2; cases e2); omega)); (try replace O5 := O5.we hE (fun i e => by cases e; (try intro e2; cases e2); omega)); (try replace O6 := O6.we hE (fun i e => by cases e; (try intro e2; cases e2); omega)); (try replace O7 := O7.we hE (fun i e => by cases e; (try intro e2; cases e2); omega)); (try replace KS := KS.we hE (fun i e => by cases e; (try intro e2; cases e2); omega)))
  replace hb := hb.trans (hE.below (fun k e => by cases e; omega) hb.size)
  clear hE
  obtain ⟨n, rfl⟩ := Int.eq_ofNat_of_zero_le hn.1
  (repeat (first | refine vo_pure rfl rfl ?_ | refine vs_seq ?_ | refine vs_region ?_ | refine vo_nil ?_ | refine fin_seq ?_))
  refine vo_call rfl rfl ?_
  refine Calls.mono (c70 KS (by omega)) ?_
  rintro _ w4 ⟨v1, v2, v3, v4, m, rfl, ⟨i1, i2, i3, i4, p, r, c, s, O1, O2, O3, O4, hl, hF, hd⟩, hm, KS, hE⟩
  refine ⟨_, rfl, ?_⟩
  have zz := hE.size
  ((try replace h1 := h1.we hE (fun i e => by cases e; omega)); (try replace h2 := h2.we hE (fun i e => by cases e; omega)); (try replace h3 := h3.we hE (fun i e => by cases e; omega)); (try replace h4 := h4.we hE (fun i e => by cases e; omega)); (try replace h5 := h5.we hE (fun i e => by cases e; omega)); (try replace h6 := h6.we hE (fun i e => by cases e; omega)); (try replace h7 := h7.we hE (fun i e => by cases e; omega)); (try replace h8 := h8.we hE (fun i e => by cases e; omega)); (try replace h9 := h9.we hE (fun i e => by cases e; omega)); (try replace B1 := B1.we hE (fun i e => by cases e; omega)); (try replace B2 := B2.we hE (fun i e => by cases e; omega)); (try replace B3 := B3.we hE (fun i e => by cases e; omega)); (try replace B4 := B4.we hE (fun i e => by cases e; omega)); (try replace B5 := B5.we hE (fun i e => by cases e; omega)); (try replace B6 := B6.we hE (fun i e => by cases e; omega)); (try replace O1 := O1.we hE (fun i e => by cases e; (try intro e2; cases e2); omega)); (try replace O2 := O2.we hE (fun i e => by cases e; (try intro e2; cases e2); omega)); (try replace O3 := O3.we hE (fun i e => by cases e; (try intro e2; cases e2); omega)); (try replace O4 := O4.we hE (fun i e => by cases e; (try intro e2; cases e2); omega)); (try replace O5 := O5.we hE (fun i e => by cases e; (try intro e2; cases e2); omega)); (try replace O6 := O6.we hE (fun i e => by cases e; (try intro e2; cases e2); omega)); (try replace O7 := O7.we hE (fun i e => by cases e; (try intro e2; cases e2); omega)); (try replace KS := KS.we hE (fun i e => by cases e; (try intro e2; cases e2); omega)))
  replace hb := hb.trans (hE.below (fun k e => by cases e; omega) hb.size)
  clear hE
  simp only [Nat.not_lt] at hF
  have y1 := O1.lt _ rfl
  have y2 := O2.lt _ rfl
  have y3 := O3.lt _ rfl
  have y4 := O4.lt _ rfl
  obtain ⟨p1, k1', rfl⟩ := O1.len
  obtain ⟨p2, k2, rfl⟩ := O2.len
  obtain ⟨p3, k3, rfl⟩ := O3.len
  obtain ⟨p4, k4, rfl⟩ := O4.len
  skip
  (refine vo_alloc rfl rfl ?_; intro b2 w1 hN B2; have zz := hN.eq; have zz := hN.size; have hE := hN.ext; have g2 : w.heap.size ≤ b2 := (by rw [← hN.eq]; exact hb.size); (try have l1_2 : b1 < b2 := (by rw [← hN.eq]; exact B1.lt)); have zz := hE.size; (first | replace hb := hb.trans (hE.mono hb.size) | replace hb := hb.trans (WE.of_ext hE)); (try replace h1 := h1.up hE); (try replace h2 := h2.up hE); (try replace h3 := h3.up hE); (try replace h4 := h4.up hE); (try replace h5 := h5.up hE); (try replace h6 := h6.up hE); (try replace h7 := h7.up hE); (try replace h8 := h8.up hE); (try replace h9 := h9.up hE); (try replace B1 := B1.up hE); (try replace B3 := B3.up hE); (try replace B4 := B4.up hE); (try replace B5 := B5.up hE); (try replace B6 := B6.up hE); (try replace O1 := O1.up hE); (try replace O2 := O2.up hE); (try replace O3 := O3.up hE); (try replace O4 := O4.up hE); (try replace O5 := O5.up hE); (try replace O6 := O6.up hE); (try replace O7 := O7.up hE); (try replace KS := KS.up hE); (try clear hN hE); (try dsimp at B2))
  skip
  (refine vo_store rfl rfl B2 rfl rfl rfl rfl ?_; intro w1 hW hN; have zz := hW.size; (first | replace hb := hb.trans (hW.below (by assumption)) | replace hb := hb.trans (WE.of_wr hW) | replace hb := hb.thenWr hW (by omega)); (try replace h1 := h1.wr hW (by omega)); (try replace h2 := h2.wr hW (by omega)); (try replace h3 := h3.wr hW (by omega)); (try replace h4 := h4.wr hW (by omega)); (try replace h5 := h5.wr hW (by omega)); (try replace h6 := h6.wr hW (by omega)); (try replace h7 := h7.wr hW (by omega)); (try replace h8 := h8.wr hW (by omega)); (try replace h9 := h9.wr hW (by omega)); (try replace B1 := B1.wr hW (by omega)); (try replace B3 := B3.wr hW (by omega)); (try replace B4 := B4.wr hW (by omega)); (try replace B5 := B5.wr hW (by omega)); (try replace B6 := B6.wr hW (by omega)); (try replace O1 := O1.wr hW (by intro e2; cases e2; omega)); (try replace O2 := O2.wr hW (by intro e2; cases e2; omega)); (try replace O3 := O3.wr hW (by intro e2; cases e2; omega)); (try replace O4 := O4.wr hW (by intro e2; cases e2; omega)); (try replace O5 := O5.wr hW (by intro e2; cases e2; omega)); (try replace O6 := O6.wr hW (by intro e2; cases e2; omega)); (try replace O7 := O7.wr hW (by intro e2; cases e2; omega)); (try replace KS := KS.wr hW (by omega)); clear B2; have B2 := hN; clear hN hW; (try dsimp at B2))
  (repeat (first | refine vo_pure rfl rfl ?_ | refine vs_seq ?_ | refine vs_region ?_ | refine vo_nil ?_ | refine fin_seq ?_ | refine vo_fieldAddr rfl rfl ?_ | refine vo_loadB rfl (by assumption) rfl rfl ?_ | refine vo_val _ (runs_lenL rfl) rfl ?_))
  refine vo_call rfl rfl ?_
  refine Calls.mono (c69 KS (by omega)) ?_
  rintro _ w5 ⟨kk, rfl, hkk, KS, hE⟩
  refine ⟨_, rfl, ?_⟩
  have zz := hE.size
  ((try replace h1 := h1.we hE (fun i e => by cases e; omega)); (try replace h2 := h2.we hE (fun i e => by cases e; omega)); (try replace h3 := h3.we hE (fun i e => by cases e; omega)); (try replace h4 := h4.we hE (fun i e => by cases e; omega)); (try replace h5 := h5.we hE (fun i e => by cases e; omega)); (try replace h6 := h6.we hE (fun i e => by cases e; omega)); (try replace h7 := h7.we hE (fun i e => by cases e; omega)); (try replace h8 := h8.we hE (fun i e => by cases e; omega)); (try replace h9 := h9.we hE (fun i e => by cases e; omega)); (try replace B1 := B1.we hE (fun i e => by cases e; omega)); (try replace B2 := B2.we hE (fun i e => by cases e; omega)); (try replace B3 := B3.we hE (fun i e => by cases e; omega)); (try replace B4 := B4.we hE (fun i e => by cases e; omega)); (try replace B5 := B5.we hE (fun i e => by cases e; omega)); (try replace B6 := B6.we hE (fun i e => by cases e; omega)); (try replace O1 := O1.we hE (fun i e => by cases e; (try intro e2; cases e2); omega)); (try replace O2 := O2.we hE (fun i e => by cases e; (try intro e2; cases e2); omega)); (try replace O3 := O3.we hE (fun i e => by cases e; (try intro e2; cases e2); omega)); (try replace O4 := O4.we hE (fun i e => by cases e; (try intro e2; cases e2); omega)); (try replace O5 := O5.we hE (fun i e => by cases e; (try intro e2; cases e2); omega)); (try replace O6 := O6.we hE (fun i e => by cases e; (try intro e2; cases e2); omega)); (try replace O7 := O7.we hE (fun i e => by cases e; (try intro e2; cases e2); omega)); (try replace KS := KS.we hE (fun i e => by cases e; (try intro e2; cases e2); omega)))
  replace hb := hb.trans (hE.below (fun k e => by cases e; omega) hb.size)
  clear hE
  (repeat (first | refine vo_pure rfl rfl ?_ | refine vs_seq ?_ | refine vs_region ?_ | refine vo_nil ?_ | refine fin_seq ?_))
  refine vo_call rfl rfl ?_
  refine Calls.mono (c69 KS (by omega)) ?_
  rintro _ w6 ⟨sw, rfl, hsw, KS, hE⟩
  refine ⟨_, rfl, ?_⟩
  have zz := hE.size
  ((try replace h1 := h1.we hE (fun i e => by cases e; omega)); (try replace h2 := h2.we hE (fun i e => by cases e; omega)); (try replace h3 := h3.we hE (fun i e => by cases e; omega)); (try replace h4 := h4.we hE (fun i e => by cases e; omega)); (try replace h5 := h5.we hE (fun i e => by cases e; omega)); (try replace h6 := h6.we hE (fun i e => by cases e; omega)); (try replace h7 := h7.we hE (fun i e => by cases e; omega)); (try replace h8 := h8.we hE (fun i e => by cases e; omega)); (try replace h9 := h9.we hE (fun i e => by cases e; omega)); (try replace B1 := B1.we hE (fun i e => by cases e; omega)); (try replace B2 := B2.we hE (fun i e => by cases e; omega)); (try replace B3 := B3.we hE (fun i e => by cases e; omega)); (try replace B4 := B4.we hE (fun i e => by cases e; omega)); (try replace B5 := B5.we hE (fun i e => by cases e; omega)); (try replace B6 := B6.we hE (fun i e => by cases e; omega)); (try replace O1 := O1.we hE (fun i e => by cases e; (try intro e2; cases e2); omega)); (try replace O2 := O2.we hE (fun i e => by cases e; (try intro e2; cases e2); omega)); (try replace O3 := O3.we hE (fun i e => by cases e; (try intro e2; cases e2); omega)); (try replace O4 := O4.we hE (fun i e => by cases e; (try intro e2; cases e2); omega)); (try replace O5 := O5.we hE (fun i e => by cases e; (try intro e2; cases e2); omega)); (try replace O6 := O6.we hE (fun i e => by cases e; (try intro e2; cases e2); omega)); (try replace O7 := O7.we hE (fun i e => by cases e; (try intro e2; cases e2); omega)); (try replace KS := KS.we hE (fun i e => by cases e; (try intro e2; cases e2); omega)))
  replace hb := hb.trans (hE.below (fun k e => by cases e; omega) hb.size)
  clear hE
  obtain ⟨kk, rfl⟩ := Int.eq_ofNat_of_zero_le hkk.1
  obtain ⟨hl1, hl2, hl3, hl4⟩ := hl
  have hkp : kk < p.length := by omega
  have B2' : Blk w6 b2 [.slice p1 p.length k1', .slice p2 r.length k2, .slice p3 c.length k3, .slice p4 s.length k4] 46 := B2
  clear B2
  have B2 := B2'
  clear B2'
  (repeat (first | refine vo_pure rfl rfl ?_ | refine vs_seq ?_ | refine vs_region ?_ | refine vo_nil ?_ | refine fin_seq ?_ | refine vs_block ?_))
  refine vs_cond rfl (fun hc => ?_) (fun hc => ?_)
  · (repeat (first | refine vo_pure rfl rfl ?_ | refine vs_seq ?_ | refine vs_region ?_ | refine vo_nil ?_ | refine fin_seq ?_ | refine fin_blk ?_ | refine vo_loadA rfl (by assumption) rfl rfl ?_ | refine vo_val _ (runs_add rfl rfl (by omega)) rfl ?_))
    (refine vo_store rfl rfl B1 rfl rfl rfl rfl ?_; intro w1 hW hN; have zz := hW.size; (first | replace hb := hb.trans (hW.below (by assumption)) | replace hb := hb.trans (WE.of_wr hW) | replace hb := hb.thenWr hW (by omega)); (try replace h1 := h1.wr hW (by omega)); (try replace h2 := h2.wr hW (by omega)); (try replace h3 := h3.wr hW (by omega)); (try replace h4 := h4.wr hW (by omega)); (try replace h5 := h5.wr hW (by omega)); (try replace h6 := h6.wr hW (by omega)); (try replace h7 := h7.wr hW (by omega)); (try replace h8 := h8.wr hW (by omega)); (try replace h9 := h9.wr hW (by omega)); (try replace B2 := B2.wr hW (by omega)); (try replace B3 := B3.wr hW (by omega)); (try replace B4 := B4.wr hW (by omega)); (try replace B5 := B5.wr hW (by omega)); (try replace B6 := B6.wr hW (by omega)); (try replace O1 := O1.wr hW (by intro e2; cases e2; omega)); (try replace O2 := O2.wr hW (by intro e2; cases e2; omega)); (try replace O3 := O3.wr hW (by intro e2; cases e2; omega)); (try replace O4 := O4.wr hW (by intro e2; cases e2; omega)); (try replace O5 := O5.wr hW (by intro e2; cases e2; omega)); (try replace O6 := O6.wr hW (by intro e2; cases e2; omega)); (try replace O7 := O7.wr hW (by intro e2; cases e2; omega)); (try replace KS := KS.wr hW (by omega)); clear B1; have B1 := hN; clear hN hW; (try dsimp at B1))
    (repeat (first | refine vo_pure rfl rfl ?_ | refine vo_nil ?_ | refine fin_seq ?_ | refine vs_ret ?_))
    (first | refine fin_ret1 Tryd.results48 rfl ?_ | refine fin_end1 Tryd.results48 rfl ?_ | refine fin_ret2 Tryd.results48 rfl rfl ?_ | refine fin_retC1 Tryd.results48 rfl (by assumption) rfl rfl ?_ | refine fin_retC Tryd.results48 rfl (by assumption) rfl ?_)
    exact ⟨_, _, _, _, ⟨p, r, c, s⟩, _, rfl, mkWire (O1.slR (fun i e => by cases e; omega)) (O2.slR (fun i e => by cases e; omega)) (O3.slR (fun i e => by cases e; omega)) (O4.slR (fun i e => by cases e; omega)), by (show p.length + r.length + c.length + s.length ≤ 1000; omega), by omega, hb⟩
  (repeat (first | refine vo_pure rfl rfl ?_ | refine vs_seq ?_ | refine vs_region ?_ | refine vo_nil ?_ | refine fin_seq ?_))
  refine vs_cond rfl (fun hc => ?_) (fun hc => ?_)
  · obtain ⟨i1', n1, e1, e1'⟩ := O1.has (by omega)
    cases e1
    cases e1'
    skip
    refine vs_drawnT (fun w' => Blk w' b2 [.slice (some ⟨i1, 0, none⟩) p.length k1', .slice p2 r.length k2, .slice p3 c.length k3, .slice p4 s.length k4] 46) 7 ?_
    intro w1 hE _
    have zz := hE.size
    (try replace h1 := h1.up hE); (try replace h2 := h2.up hE); (try replace h3 := h3.up hE); (try replace h4 := h4.up hE); (try replace h5 := h5.up hE); (try replace h6 := h6.up hE); (try replace h7 := h7.up hE); (try replace h8 := h8.up hE); (try replace h9 := h9.up hE); (try replace B1 := B1.up hE); (try replace B2 := B2.up hE); (try replace B3 := B3.up hE); (try replace B4 := B4.up hE); (try replace B5 := B5.up hE); (try replace B6 := B6.up hE); (try replace O1 := O1.up hE); (try replace O2 := O2.up hE); (try replace O3 := O3.up hE); (try replace O4 := O4.up hE); (try replace O5 := O5.up hE); (try replace O6 := O6.up hE); (try replace O7 := O7.up hE); (try replace KS := KS.up hE)
    replace hb := hb.trans (hE.mono hb.size)
    have hS := B2
    refine vt_take 0 rfl (fun _ hX => runs_fieldAddr rfl) rfl (by kernel_rfl) (by kernel_rfl) (by kernel_rfl) (by kernel_rfl) hS ?_
    refine vt_take 1 rfl (fun _ hX => runs_load rfl (hX.at 0 _ rfl)) rfl (by kernel_rfl) (by kernel_rfl) (by kernel_rfl) (by kernel_rfl) hS ?_
    refine vt_take 2 rfl (fun _ hX => runs_pure rfl) rfl (by kernel_rfl) (by kernel_rfl) (by kernel_rfl) (by kernel_rfl) hS ?_
    refine vt_take 3 rfl (fun _ hX => runs_pure rfl) rfl (by kernel_rfl) (by kernel_rfl) (by kernel_rfl) (by kernel_rfl) hS ?_
    clear hS
    (refine vt_one 4 (by kernel_rfl) (vto_call rfl rfl rfl (Calls.mono (c69 KS (by omega)) ?_)); rintro _ w1 ⟨x5, rfl, hx5, KS, hE⟩; have zz := hE.size; ((try replace h1 := h1.we hE (fun i e => by cases e; omega)); (try replace h2 := h2.we hE (fun i e => by cases e; omega)); (try replace h3 := h3.we hE (fun i e => by cases e; omega)); (try replace h4 := h4.we hE (fun i e => by cases e; omega)); (try replace h5 := h5.we hE (fun i e => by cases e; omega)); (try replace h6 := h6.we hE (fun i e => by cases e; omega)); (try replace h7 := h7.we hE (fun i e => by cases e; omega)); (try replace h8 := h8.we hE (fun i e => by cases e; omega)); (try replace h9 := h9.we hE (fun i e => by cases e; omega)); (try replace B1 := B1.we hE (fun i e => by cases e; omega)); (try replace B2 := B2.we hE (fun i e => by cases e; omega)); (try replace B3 := B3.we hE (fun i e => by cases e; omega)); (try replace B4 := B4.we hE (fun i e => by cases e; omega)); (try replace B5 := B5.we hE (fun i e => by cases e; omega)); (try replace B6 := B6.we hE (fun i e => by cases e; omega)); (try replace O1 := O1.we hE (fun i e => by cases e; (try intro e2; cases e2); omega)); (try replace O2 := O2.we hE (fun i e => by cases e; (try intro e2; cases e2); omega)); (try replace O3 := O3.we hE (fun i e => by cases e; (try intro e2; cases e2); omega)); (try replace O4 := O4.we hE (fun i e => by cases e; (try intro e2; cases e2); omega)); (try replace O5 := O5.we hE (fun i e => by cases e; (try intro e2; cases e2); omega)); (try replace O6 := O6.we hE (fun i e => by cases e; (try intro e2; cases e2); omega)); (try replace O7 := O7.we hE (fun i e => by cases e; (try intro e2; cases e2); omega)); (try replace KS := KS.we hE (fun i e => by cases e; (try intro e2; cases e2); omega))); refine ⟨_, rfl, B2, ?_⟩)
    replace hb := hb.trans (hE.below (fun k e => by cases e; omega) hb.size)
    have hS := B2
    refine vt_take 5 rfl (fun _ hX => runs_sub rfl rfl (by omega)) rfl (by kernel_rfl) (by kernel_rfl) (by kernel_rfl) (by kernel_rfl) hS ?_
    refine vt_one 6 (by kernel_rfl) (vto_val rfl (runs_idx rfl rfl hkp) rfl B2 ?_)
    refine vt_one 7 (by kernel_rfl) (vto_storeI (k := kk) rfl rfl (by omega) rfl O1 hkp ⟨by omega, by omega⟩ ?_)
    intro w2 hW hO
    have zz := hW.size
    clear O1
    have O1 := hO
    clear hO
    replace O2 := O2.wr hW (by intro e2; cases e2; omega)
    replace O3 := O3.wr hW (by intro e2; cases e2; omega)
    replace O4 := O4.wr hW (by intro e2; cases e2; omega)
    replace B1 := B1.wr hW (by omega)
    replace B2 := B2.wr hW (by omega)
    replace hb := hb.trans (hW.below (by omega))
    refine ⟨fun h => (h rfl).elim, ?_⟩
    refine vt_done (by kernel_rfl) ?_
    (repeat (first | refine vo_pure rfl rfl ?_ | refine vs_seq ?_ | refine vs_region ?_ | refine fin_seq ?_ | refine fin_blk ?_ | refine vo_loadA rfl (by assumption) rfl rfl ?_))
    (refine vo_store rfl rfl B1 rfl rfl rfl rfl ?_; intro w1 hW hN; have zz := hW.size; (first | replace hb := hb.trans (hW.below (by assumption)) | replace hb := hb.trans (WE.of_wr hW) | replace hb := hb.thenWr hW (by omega)); (try replace h1 := h1.wr hW (by omega)); (try replace h2 := h2.wr hW (by omega)); (try replace h3 := h3.wr hW (by omega)); (try replace h4 := h4.wr hW (by omega)); (try replace h5 := h5.wr hW (by omega)); (try replace h6 := h6.wr hW (by omega)); (try replace h7 := h7.wr hW (by omega)); (try replace h8 := h8.wr hW (by omega)); (try replace h9 := h9.wr hW (by omega)); (try replace B2 := B2.wr hW (by omega)); (try replace B3 := B3.wr hW (by omega)); (try replace B4 := B4.wr hW (by omega)); (try replace B5 := B5.wr hW (by omega)); (try replace B6 := B6.wr hW (by omega)); (try replace O1 := O1.wr hW (by intro e2; cases e2; omega)); (try replace O2 := O2.wr hW (by intro e2; cases e2; omega)); (try replace O3 := O3.wr hW (by intro e2; cases e2; omega)); (try replace O4 := O4.wr hW (by intro e2; cases e2; omega)); (try replace O5 := O5.wr hW (by intro e2; cases e2; omega)); (try replace O6 := O6.wr hW (by intro e2; cases e2; omega)); (try replace O7 := O7.wr hW (by intro e2; cases e2; omega)); (try replace KS := KS.wr hW (by omega)); clear B1; have B1 := hN; clear hN hW; (try dsimp at B1))
    (repeat (first | refine vo_pure rfl rfl ?_ | refine vo_nil ?_ | refine fin_seq ?_ | refine vs_ret ?_))
    (first | refine fin_ret1 Tryd.results48 rfl ?_ | refine fin_end1 Tryd.results48 rfl ?_ | refine fin_ret2 Tryd.results48 rfl rfl ?_ | refine fin_retC1 Tryd.results48 rfl (by assumption) rfl rfl ?_ | refine fin_retC Tryd.results48 rfl (by assumption) rfl ?_)
    exact ⟨_, _, _, _, ⟨p.set kk (x5 - 2), r, c, s⟩, _, rfl, mkWire (O1.slR (fun i e => by cases e; omega)) (O2.slR (fun i e => by cases e; omega)) (O3.slR (fun i e => by cases e; omega)) (O4.slR (fun i e => by cases e; omega)), by (simp only [List.length_set, List.length_tail]; omega), by omega, hb⟩
  (repeat (first | refine vo_pure rfl rfl ?_ | refine vs_seq ?_ | refine vs_region ?_ | refine vo_nil ?_ | refine fin_seq ?_))
  refine vs_cond rfl (fun hc => ?_) (fun hc => ?_)
  · obtain ⟨i2', n2, e2, e2'⟩ := O2.has (by omega)
    cases e2
    cases e2'
    skip
    refine vs_drawnT (fun w' => Blk w' b2 [.slice p1 p.length k1', .slice (some ⟨i2, 0, none⟩) r.length k2, .slice p3 c.length k3, .slice p4 s.length k4] 46) 9 ?_
    intro w1 hE _
    have zz := hE.size
    (try replace h1 := h1.up hE); (try replace h2 := h2.up hE); (try replace h3 := h3.up hE); (try replace h4 := h4.up hE); (try replace h5 := h5.up hE); (try replace h6 := h6.up hE); (try replace h7 := h7.up hE); (try replace h8 := h8.up hE); (try replace h9 := h9.up hE); (try replace B1 := B1.up hE); (try replace B2 := B2.up hE); (try replace B3 := B3.up hE); (try replace B4 := B4.up hE); (try replace B5 := B5.up hE); (try replace B6 := B6.up hE); (try replace O1 := O1.up hE); (try replace O2 := O2.up hE); (try replace O3 := O3.up hE); (try replace O4 := O4.up hE); (try replace O5 := O5.up hE); (try replace O6 := O6.up hE); (try replace O7 := O7.up hE); (try replace KS := KS.up hE)
    replace hb := hb.trans (hE.mono hb.size)
    have hS := B2
    refine vt_take 0 rfl (fun _ hX => runs_fieldAddr rfl) rfl (by kernel_rfl) (by kernel_rfl) (by kernel_rfl) (by kernel_rfl) hS ?_
    refine vt_take 1 rfl (fun _ hX => runs_load rfl (hX.at 1 _ rfl)) rfl (by kernel_rfl) (by kernel_rfl) (by kernel_rfl) (by kernel_rfl) hS ?_
    refine vt_take 2 rfl (fun _ hX => runs_pure rfl) rfl (by kernel_rfl) (by kernel_rfl) (by kernel_rfl) (by kernel_rfl) hS ?_
    refine vt_take 4 rfl (fun _ hX => runs_pure rfl) rfl (by kernel_rfl) (by kernel_rfl) (by kernel_rfl) (by kernel_rfl) hS ?_
    clear hS
    have hkr : kk < r.length := by omega
    refine vt_two 3 5 (by kernel_rfl) ?_ ?_
    · refine vto_buildSlice rfl rfl rfl rfl rfl rfl rfl ?_
      intro b3 w1 hN B3
      have zz := hN.eq
      have zz := hN.size
      have hE := hN.ext
      (try replace h1 := h1.up hE); (try replace h2 := h2.up hE); (try replace h3 := h3.up hE); (try replace h4 := h4.up hE); (try replace h5 := h5.up hE); (try replace h6 := h6.up hE); (try replace h7 := h7.up hE); (try replace h8 := h8.up hE); (try replace h9 := h9.up hE); (try replace B1 := B1.up hE); (try replace B2 := B2.up hE); (try replace B3 := B3.up hE); (try replace B4 := B4.up hE); (try replace B5 := B5.up hE); (try replace B6 := B6.up hE); (try replace O1 := O1.up hE); (try replace O2 := O2.up hE); (try replace O3 := O3.up hE); (try replace O4 := O4.up hE); (try replace O5 := O5.up hE); (try replace O6 := O6.up hE); (try replace O7 := O7.up hE); (try replace KS := KS.up hE)
      replace hb := hb.trans (hE.mono hb.size)
      refine ⟨B2, ?_⟩
      dsimp at B3
      clear hE hN
      (refine vt_one 5 (by kernel_rfl) (vto_call rfl rfl rfl (Calls.mono (c69 KS (by omega)) ?_)); rintro _ w1 ⟨x5, rfl, hx5, KS, hE⟩; have zz := hE.size; ((try replace h1 := h1.we hE (fun i e => by cases e; omega)); (try replace h2 := h2.we hE (fun i e => by cases e; omega)); (try replace h3 := h3.we hE (fun i e => by cases e; omega)); (try replace h4 := h4.we hE (fun i e => by cases e; omega)); (try replace h5 := h5.we hE (fun i e => by cases e; omega)); (try replace h6 := h6.we hE (fun i e => by cases e; omega)); (try replace h7 := h7.we hE (fun i e => by cases e; omega)); (try replace h8 := h8.we hE (fun i e => by cases e; omega)); (try replace h9 := h9.we hE (fun i e => by cases e; omega)); (try replace B1 := B1.we hE (fun i e => by cases e; omega)); (try replace B2 := B2.we hE (fun i e => by cases e; omega)); (try replace B3 := B3.we hE (fun i e => by cases e; omega)); (try replace B4 := B4.we hE (fun i e => by cases e; omega)); (try replace B5 := B5.we hE (fun i e => by cases e; omega)); (try replace B6 := B6.we hE (fun i e => by cases e; omega)); (try replace O1 := O1.we hE (fun i e => by cases e; (try intro e2; cases e2); omega)); (try replace O2 := O2.we hE (fun i e => by cases e; (try intro e2; cases e2); omega)); (try replace O3 := O3.we hE (fun i e => by cases e; (try intro e2; cases e2); omega)); (try replace O4 := O4.we hE (fun i e => by cases e; (try intro e2; cases e2); omega)); (try replace O5 := O5.we hE (fun i e => by cases e; (try intro e2; cases e2); omega)); (try replace O6 := O6.we hE (fun i e => by cases e; (try intro e2; cases e2); omega)); (try replace O7 := O7.we hE (fun i e => by cases e; (try intro e2; cases e2); omega)); (try replace KS := KS.we hE (fun i e => by cases e; (try intro e2; cases e2); omega))); refine ⟨_, rfl, B2, ?_⟩)
      replace hb := hb.trans (hE.below (fun k e => by cases e; omega) hb.size)
      obtain ⟨r5, rfl⟩ := Int.eq_ofNat_of_zero_le hx5.1
      have hr5 : r5 < 3 := by omega
      obtain ⟨z, hz, hzI⟩ : ∃ z : Int, ([.int .i64 (-1), .int .i64 1000, .int .i64 1001] : List Value)[r5]? = some (.int .i64 z) ∧ InI z := by
        match r5, hr5 with
        | 0, _ => exact ⟨-1, rfl, by decide, by decide⟩
        | 1, _ => exact ⟨1000, rfl, by decide, by decide⟩
        | 2, _ => exact ⟨1001, rfl, by decide, by decide⟩
      refine vt_one 6 (by kernel_rfl) (vto_val rfl (runs_idx rfl rfl hr5) rfl B2 ?_)
      refine vt_one 7 (by kernel_rfl) (vto_val rfl (runs_load rfl (by rw [Nat.mul_one]; exact B3.at r5 _ hz)) rfl B2 ?_)
      refine vt_one 8 (by kernel_rfl) (vto_val rfl (runs_idx rfl rfl hkr) rfl B2 ?_)
      refine vt_one 9 (by kernel_rfl) (vto_storeI (k := kk) rfl rfl (by omega) rfl O2 hkr hzI ?_)
      intro w2 hW hO
      have zz := hW.size
      clear O2 B3
      have O2 := hO
      clear hO
      replace O1 := O1.wr hW (by intro e2; cases e2; omega)
      replace O3 := O3.wr hW (by intro e2; cases e2; omega)
      replace O4 := O4.wr hW (by intro e2; cases e2; omega)
      replace B1 := B1.wr hW (by omega)
      replace B2 := B2.wr hW (by omega)
      replace hb := hb.trans (hW.below (by omega))
      refine ⟨fun h => (h rfl).elim, ?_⟩
      refine vt_done (by kernel_rfl) ?_
      (repeat (first | refine vo_pure rfl rfl ?_ | refine vs_seq ?_ | refine vs_region ?_ | refine fin_seq ?_ | refine fin_blk ?_ | refine vo_loadA rfl (by assumption) rfl rfl ?_))
      (refine vo_store rfl rfl B1 rfl rfl rfl rfl ?_; intro w1 hW hN; have zz := hW.size; (first | replace hb := hb.trans (hW.below (by assumption)) | replace hb := hb.trans (WE.of_wr hW) | replace hb := hb.thenWr hW (by omega)); (try replace h1 := h1.wr hW (by omega)); (try replace h2 := h2.wr hW (by omega)); (try replace h3 := h3.wr hW (by omega)); (try replace h4 := h4.wr hW (by omega)); (try replace h5 := h5.wr hW (by omega)); (try replace h6 := h6.wr hW (by omega)); (try replace h7 := h7.wr hW (by omega)); (try replace h8 := h8.wr hW (by omega)); (try replace h9 := h9.wr hW (by omega)); (try replace B2 := B2.wr hW (by omega)); (try replace B3 := B3.wr hW (by omega)); (try replace B4 := B4.wr hW (by omega)); (try replace B5 := B5.wr hW (by omega)); (try replace B6 := B6.wr hW (by omega)); (try replace O1 := O1.wr hW (by intro e2; cases e2; omega)); (try replace O2 := O2.wr hW (by intro e2; cases e2; omega)); (try replace O3 := O3.wr hW (by intro e2; cases e2; omega)); (try replace O4 := O4.wr hW (by intro e2; cases e2; omega)); (try replace O5 := O5.wr hW (by intro e2; cases e2; omega)); (try replace O6 := O6.wr hW (by intro e2; cases e2; omega)); (try replace O7 := O7.wr hW (by intro e2; cases e2; omega)); (try replace KS := KS.wr hW (by omega)); clear B1; have B1 := hN; clear hN hW; (try dsimp at B1))
      (repeat (first | refine vo_pure rfl rfl ?_ | refine vo_nil ?_ | refine fin_seq ?_ | refine vs_ret ?_))
      (first | refine fin_ret1 Tryd.results48 rfl ?_ | refine fin_end1 Tryd.results48 rfl ?_ | refine fin_ret2 Tryd.results48 rfl rfl ?_ | refine fin_retC1 Tryd.results48 rfl (by assumption) rfl rfl ?_ | refine fin_retC Tryd.results48 rfl (by assumption) rfl ?_)
      exact ⟨_, _, _, _, ⟨p, r.set kk z, c, s⟩, _, rfl, mkWire (O1.slR (fun i e => by cases e; omega)) (O2.slR (fun i e => by cases e; omega)) (O3.slR (fun i e => by cases e; omega)) (O4.slR (fun i e => by cases e; omega)), by (simp only [List.length_set, List.length_tail]; omega), by omega, hb⟩
    · refine vto_call rfl rfl rfl (Calls.mono (c69 KS (by omega)) ?_)
      rintro _ w1 ⟨x5, rfl, hx5, KS, hE⟩
      have zz := hE.size
      ((try replace h1 := h1.we hE (fun i e => by cases e; omega)); (try replace h2 := h2.we hE (fun i e => by cases e; omega)); (try replace h3 := h3.we hE (fun i e => by cases e; omega)); (try replace h4 := h4.we hE (fun i e => by cases e; omega)); (try replace h5 := h5.we hE (fun i e => by cases e; omega)); (try replace h6 := h6.we hE (fun i e => by cases e; omega)); (try replace h7 := h7.we hE (fun i e => by cases e; omega)); (try replace h8 := h8.we hE (fun i e => by cases e; omega)); (try replace h9 := h9.we hE (fun i e => by cases e; omega)); (try replace B1 := B1.we hE (fun i e => by cases e; omega)); (try replace B2 := B2.we hE (fun i e => by cases e; omega)); (try replace B3 := B3.we hE (fun i e => by cases e; omega)); (try replace B4 := B4.we hE (fun i e => by cases e; omega)); (try replace B5 := B5.we hE (fun i e => by cases e; omega)); (try replace B6 := B6.we hE (fun i e => by cases e; omega)); (try replace O1 := O1.we hE (fun i e => by cases e; (try intro e2; cases e2); omega)); (try replace O2 := O2.we hE (fun i e => by cases e; (try intro e2; cases e2); omega)); (try replace O3 := O3.we hE (fun i e => by cases e; (try intro e2; cases e2); omega)); (try replace O4 := O4.we hE (fun i e => by cases e; (try intro e2; cases e2); omega)); (try replace O5 := O5.we hE (fun i e => by cases e; (try intro e2; cases e2); omega)); (try replace O6 := O6.we hE (fun i e => by cases e; (try intro e2; cases e2); omega)); (try replace O7 := O7.we hE (fun i e => by cases e; (try intro e2; cases e2); omega)); (try replace KS := KS.we hE (fun i e => by cases e; (try intro e2; cases e2); omega)))
      replace hb := hb.trans (hE.below (fun k e => by cases e; omega) hb.size)
      refine ⟨_, rfl, B2, ?_⟩
      clear hE
      refine vt_one 3 (by kernel_rfl) (vto_buildSlice rfl rfl rfl rfl rfl rfl rfl ?_)
      intro b3 w1 hN B3
      have zz := hN.eq
      have zz := hN.size
      have hE := hN.ext
      (try replace h1 := h1.up hE); (try replace h2 := h2.up hE); (try replace h3 := h3.up hE); (try replace h4 := h4.up hE); (try replace h5 := h5.up hE); (try replace h6 := h6.up hE); (try replace h7 := h7.up hE); (try replace h8 := h8.up hE); (try replace h9 := h9.up hE); (try replace B1 := B1.up hE); (try replace B2 := B2.up hE); (try replace B3 := B3.up hE); (try replace B4 := B4.up hE); (try replace B5 := B5.up hE); (try replace B6 := B6.up hE); (try replace O1 := O1.up hE); (try replace O2 := O2.up hE); (try replace O3 := O3.up hE); (try replace O4 := O4.up hE); (try replace O5 := O5.up hE); (try replace O6 := O6.up hE); (try replace O7 := O7.up hE); (try replace KS := KS.up hE)
      replace hb := hb.trans (hE.mono hb.size)
      refine ⟨B2, ?_⟩
      dsimp at B3
      clear hE hN
      obtain ⟨r5, rfl⟩ := Int.eq_ofNat_of_zero_le hx5.1
      have hr5 : r5 < 3 := by omega
      obtain ⟨z, hz, hzI⟩ : ∃ z : Int, ([.int .i64 (-1), .int .i64 1000, .int .i64 1001] : List Value)[r5]? = some (.int .i64 z) ∧ InI z := by
        match r5, hr5 with
        | 0, _ => exact ⟨-1, rfl, by decide, by decide⟩
        | 1, _ => exact ⟨1000, rfl, by decide, by decide⟩
        | 2, _ => exact ⟨1001, rfl, by decide, by decide⟩
      refine vt_one 6 (by kernel_rfl) (vto_val rfl (runs_idx rfl rfl hr5) rfl B2 ?_)
      refine vt_one 7 (by kernel_rfl) (vto_val rfl (runs_load rfl (by rw [Nat.mul_one]; exact B3.at r5 _ hz)) rfl B2 ?_)
      refine vt_one 8 (by kernel_rfl) (vto_val rfl (runs_idx rfl rfl hkr) rfl B2 ?_)
      refine vt_one 9 (by kernel_rfl) (vto_storeI (k := kk) rfl rfl (by omega) rfl O2 hkr hzI ?_)
      intro w2 hW hO
      have zz := hW.size
      clear O2 B3
      have O2 := hO
      clear hO
      replace O1 := O1.wr hW (by intro e2; cases e2; omega)
      replace O3 := O3.wr hW (by intro e2; cases e2; omega)
      replace O4 := O4.wr hW (by intro e2; cases e2; omega)
      replace B1 := B1.wr hW (by omega)
      replace B2 := B2.wr hW (by omega)
      replace hb := hb.trans (hW.below (by omega))
      refine ⟨fun h => (h rfl).elim, ?_⟩
      refine vt_done (by kernel_rfl) ?_
      (repeat (first | refine vo_pure rfl rfl ?_ | refine vs_seq ?_ | refine vs_region ?_ | refine fin_seq ?_ | refine fin_blk ?_ | refine vo_loadA rfl (by assumption) rfl rfl ?_))
      (refine vo_store rfl rfl B1 rfl rfl rfl rfl ?_; intro w1 hW hN; have zz := hW.size; (first | replace hb := hb.trans (hW.below (by assumption)) | replace hb := hb.trans (WE.of_wr hW) | replace hb := hb.thenWr hW (by omega)); (try replace h1 := h1.wr hW (by omega)); (try replace h2 := h2.wr hW (by omega)); (try replace h3 := h3.wr hW (by omega)); (try replace h4 := h4.wr hW (by omega)); (try replace h5 := h5.wr hW (by omega)); (try replace h6 := h6.wr hW (by omega)); (try replace h7 := h7.wr hW (by omega)); (try replace h8 := h8.wr hW (by omega)); (try replace h9 := h9.wr hW (by omega)); (try replace B2 := B2.wr hW (by omega)); (try replace B3 := B3.wr hW (by omega)); (try replace B4 := B4.wr hW (by omega)); (try replace B5 := B5.wr hW (by omega)); (try replace B6 := B6.wr hW (by omega)); (try replace O1 := O1.wr hW (by intro e2; cases e2; omega)); (try replace O2 := O2.wr hW (by intro e2; cases e2; omega)); (try replace O3 := O3.wr hW (by intro e2; cases e2; omega)); (try replace O4 := O4.wr hW (by intro e2; cases e2; omega)); (try replace O5 := O5.wr hW (by intro e2; cases e2; omega)); (try replace O6 := O6.wr hW (by intro e2; cases e2; omega)); (try replace O7 := O7.wr hW (by intro e2; cases e2; omega)); (try replace KS := KS.wr hW (by omega)); clear B1; have B1 := hN; clear hN hW; (try dsimp at B1))
      (repeat (first | refine vo_pure rfl rfl ?_ | refine vo_nil ?_ | refine fin_seq ?_ | refine vs_ret ?_))
      (first | refine fin_ret1 Tryd.results48 rfl ?_ | refine fin_end1 Tryd.results48 rfl ?_ | refine fin_ret2 Tryd.results48 rfl rfl ?_ | refine fin_retC1 Tryd.results48 rfl (by assumption) rfl rfl ?_ | refine fin_retC Tryd.results48 rfl (by assumption) rfl ?_)
      exact ⟨_, _, _, _, ⟨p, r.set kk z, c, s⟩, _, rfl, mkWire (O1.slR (fun i e => by cases e; omega)) (O2.slR (fun i e => by cases e; omega)) (O3.slR (fun i e => by cases e; omega)) (O4.slR (fun i e => by cases e; omega)), by (simp only [List.length_set, List.length_tail]; omega), by omega, hb⟩
  (repeat (first | refine vo_pure rfl rfl ?_ | refine vs_seq ?_ | refine vs_region ?_ | refine vo_nil ?_ | refine fin_seq ?_))
  refine vs_cond rfl (fun hc => ?_) (fun hc => ?_)
  · (repeat (first | refine vs_region ?_ | refine vo_fieldAddr rfl rfl ?_ | refine vo_loadB rfl (by assumption) rfl rfl ?_))
    refine vo_val _ (runs_tail rfl (by omega)) rfl ?_
    (repeat (first | refine vo_fieldAddr rfl rfl ?_))
    (refine vo_store rfl rfl B2 rfl rfl rfl rfl ?_; intro w1 hW hN; have zz := hW.size; (first | replace hb := hb.trans (hW.below (by assumption)) | replace hb := hb.trans (WE.of_wr hW) | replace hb := hb.thenWr hW (by omega)); (try replace h1 := h1.wr hW (by omega)); (try replace h2 := h2.wr hW (by omega)); (try replace h3 := h3.wr hW (by omega)); (try replace h4 := h4.wr hW (by omega)); (try replace h5 := h5.wr hW (by omega)); (try replace h6 := h6.wr hW (by omega)); (try replace h7 := h7.wr hW (by omega)); (try replace h8 := h8.wr hW (by omega)); (try replace h9 := h9.wr hW (by omega)); (try replace B1 := B1.wr hW (by omega)); (try replace B3 := B3.wr hW (by omega)); (try replace B4 := B4.wr hW (by omega)); (try replace B5 := B5.wr hW (by omega)); (try replace B6 := B6.wr hW (by omega)); (try replace O1 := O1.wr hW (by intro e2; cases e2; omega)); (try replace O2 := O2.wr hW (by intro e2; cases e2; omega)); (try replace O3 := O3.wr hW (by intro e2; cases e2; omega)); (try replace O4 := O4.wr hW (by intro e2; cases e2; omega)); (try replace O5 := O5.wr hW (by intro e2; cases e2; omega)); (try replace O6 := O6.wr hW (by intro e2; cases e2; omega)); (try replace O7 := O7.wr hW (by intro e2; cases e2; omega)); (try replace KS := KS.wr hW (by omega)); clear B2; have B2 := hN; clear hN hW; (try dsimp at B2))
    (repeat (first | refine vo_pure rfl rfl ?_ | refine vs_seq ?_ | refine vs_region ?_ | refine vo_nil ?_ | refine fin_seq ?_ | refine fin_blk ?_ | refine vo_loadA rfl (by assumption) rfl rfl ?_))
    have h3 := (O3.slR (lo := i3) (fun i e => by cases e; omega)).tail (by omega)
    skip
    (refine vo_store rfl rfl B1 rfl rfl rfl rfl ?_; intro w1 hW hN; have zz := hW.size; (first | replace hb := hb.trans (hW.below (by assumption)) | replace hb := hb.trans (WE.of_wr hW) | replace hb := hb.thenWr hW (by omega)); (try replace h1 := h1.wr hW (by omega)); (try replace h2 := h2.wr hW (by omega)); (try replace h3 := h3.wr hW (by omega)); (try replace h4 := h4.wr hW (by omega)); (try replace h5 := h5.wr hW (by omega)); (try replace h6 := h6.wr hW (by omega)); (try replace h7 := h7.wr hW (by omega)); (try replace h8 := h8.wr hW (by omega)); (try replace h9 := h9.wr hW (by omega)); (try replace B2 := B2.wr hW (by omega)); (try replace B3 := B3.wr hW (by omega)); (try replace B4 := B4.wr hW (by omega)); (try replace B5 := B5.wr hW (by omega)); (try replace B6 := B6.wr hW (by omega)); (try replace O1 := O1.wr hW (by intro e2; cases e2; omega)); (try replace O2 := O2.wr hW (by intro e2; cases e2; omega)); (try replace O3 := O3.wr hW (by intro e2; cases e2; omega)); (try replace O4 := O4.wr hW (by intro e2; cases e2; omega)); (try replace O5 := O5.wr hW (by intro e2; cases e2; omega)); (try replace O6 := O6.wr hW (by intro e2; cases e2; omega)); (try replace O7 := O7.wr hW (by intro e2; cases e2; omega)); (try replace KS := KS.wr hW (by omega)); clear B1; have B1 := hN; clear hN hW; (try dsimp at B1))
    (repeat (first | refine vo_pure rfl rfl ?_ | refine vo_nil ?_ | refine fin_seq ?_ | refine vs_ret ?_))
    (first | refine fin_ret1 Tryd.results48 rfl ?_ | refine fin_end1 Tryd.results48 rfl ?_ | refine fin_ret2 Tryd.results48 rfl rfl ?_ | refine fin_retC1 Tryd.results48 rfl (by assumption) rfl rfl ?_ | refine fin_retC Tryd.results48 rfl (by assumption) rfl ?_)
    exact ⟨_, _, _, _, ⟨p, r, c.tail, s⟩, _, rfl, mkWire (O1.slR (fun i e => by cases e; omega)) (O2.slR (fun i e => by cases e; omega)) (h3.wide (by omega) (by omega)) (O4.slR (fun i e => by cases e; omega)), by (simp only [List.length_set, List.length_tail]; omega), by omega, hb⟩
  (repeat (first | refine vo_pure rfl rfl ?_ | refine vs_seq ?_ | refine vs_region ?_ | refine vo_nil ?_ | refine fin_seq ?_))
  refine vs_cond rfl (fun hc => ?_) (fun hc => ?_)
  · (repeat (first | refine vo_pure rfl rfl ?_ | refine vs_seq ?_ | refine vs_region ?_ | refine vo_nil ?_ | refine fin_seq ?_))
    refine vs_cond rfl (fun hc => ?_) (fun hc => ?_)
    · have hn0 : 0 < n := by simpa using hc
      obtain ⟨i4', n4, e4, e4'⟩ := O4.has (by omega)
      cases e4
      cases e4'
      (repeat (first | refine vs_region ?_ | refine vo_fieldAddr rfl rfl ?_ | refine vo_loadB rfl (by assumption) rfl rfl ?_ | refine vo_val _ (runs_lenL rfl) rfl ?_))
      refine vo_idxB (k := 0) rfl rfl (by omega) rfl ?_
      skip
      refine vo_storeI (k := 0) rfl (by omega) rfl O4 (by omega) ⟨by omega, by omega⟩ ?_
      intro w2 hW hO
      have zz := hW.size
      clear O4
      have O4 := hO
      clear hO
      replace O1 := O1.wr hW (by intro e2; cases e2; omega)
      replace O2 := O2.wr hW (by intro e2; cases e2; omega)
      replace O3 := O3.wr hW (by intro e2; cases e2; omega)
      replace B1 := B1.wr hW (by omega)
      replace B2 := B2.wr hW (by omega)
      replace hb := hb.trans (hW.below (by omega))
      (repeat (first | refine vo_pure rfl rfl ?_ | refine vs_seq ?_ | refine vs_region ?_ | refine vo_nil ?_ | refine fin_seq ?_ | refine fin_blk ?_ | refine vo_loadA rfl (by assumption) rfl rfl ?_))
      (refine vo_store rfl rfl B1 rfl rfl rfl rfl ?_; intro w1 hW hN; have zz := hW.size; (first | replace hb := hb.trans (hW.below (by assumption)) | replace hb := hb.trans (WE.of_wr hW) | replace hb := hb.thenWr hW (by omega)); (try replace h1 := h1.wr hW (by omega)); (try replace h2 := h2.wr hW (by omega)); (try replace h3 := h3.wr hW (by omega)); (try replace h4 := h4.wr hW (by omega)); (try replace h5 := h5.wr hW (by omega)); (try replace h6 := h6.wr hW (by omega)); (try replace h7 := h7.wr hW (by omega)); (try replace h8 := h8.wr hW (by omega)); (try replace h9 := h9.wr hW (by omega)); (try replace B2 := B2.wr hW (by omega)); (try replace B3 := B3.wr hW (by omega)); (try replace B4 := B4.wr hW (by omega)); (try replace B5 := B5.wr hW (by omega)); (try replace B6 := B6.wr hW (by omega)); (try replace O1 := O1.wr hW (by intro e2; cases e2; omega)); (try replace O2 := O2.wr hW (by intro e2; cases e2; omega)); (try replace O3 := O3.wr hW (by intro e2; cases e2; omega)); (try replace O4 := O4.wr hW (by intro e2; cases e2; omega)); (try replace O5 := O5.wr hW (by intro e2; cases e2; omega)); (try replace O6 := O6.wr hW (by intro e2; cases e2; omega)); (try replace O7 := O7.wr hW (by intro e2; cases e2; omega)); (try replace KS := KS.wr hW (by omega)); clear B1; have B1 := hN; clear hN hW; (try dsimp at B1))
      (repeat (first | refine vo_pure rfl rfl ?_ | refine vo_nil ?_ | refine fin_seq ?_ | refine vs_ret ?_))
      (first | refine fin_ret1 Tryd.results48 rfl ?_ | refine fin_end1 Tryd.results48 rfl ?_ | refine fin_ret2 Tryd.results48 rfl rfl ?_ | refine fin_retC1 Tryd.results48 rfl (by assumption) rfl rfl ?_ | refine fin_retC Tryd.results48 rfl (by assumption) rfl ?_)
      exact ⟨_, _, _, _, ⟨p, r, c, s.set 0 (p.length : Int)⟩, _, rfl, mkWire (O1.slR (fun i e => by cases e; omega)) (O2.slR (fun i e => by cases e; omega)) (O3.slR (fun i e => by cases e; omega)) (O4.slR (fun i e => by cases e; omega)), by (simp only [List.length_set, List.length_tail]; omega), by omega, hb⟩
    · (repeat (first | refine vo_pure rfl rfl ?_ | refine vs_seq ?_ | refine vs_region ?_ | refine fin_seq ?_ | refine vs_skip ?_ | refine fin_blk ?_ | refine vo_loadA rfl (by assumption) rfl rfl ?_))
      (refine vo_store rfl rfl B1 rfl rfl rfl rfl ?_; intro w1 hW hN; have zz := hW.size; (first | replace hb := hb.trans (hW.below (by assumption)) | replace hb := hb.trans (WE.of_wr hW) | replace hb := hb.thenWr hW (by omega)); (try replace h1 := h1.wr hW (by omega)); (try replace h2 := h2.wr hW (by omega)); (try replace h3 := h3.wr hW (by omega)); (try replace h4 := h4.wr hW (by omega)); (try replace h5 := h5.wr hW (by omega)); (try replace h6 := h6.wr hW (by omega)); (try replace h7 := h7.wr hW (by omega)); (try replace h8 := h8.wr hW (by omega)); (try replace h9 := h9.wr hW (by omega)); (try replace B2 := B2.wr hW (by omega)); (try replace B3 := B3.wr hW (by omega)); (try replace B4 := B4.wr hW (by omega)); (try replace B5 := B5.wr hW (by omega)); (try replace B6 := B6.wr hW (by omega)); (try replace O1 := O1.wr hW (by intro e2; cases e2; omega)); (try replace O2 := O2.wr hW (by intro e2; cases e2; omega)); (try replace O3 := O3.wr hW (by intro e2; cases e2; omega)); (try replace O4 := O4.wr hW (by intro e2; cases e2; omega)); (try replace O5 := O5.wr hW (by intro e2; cases e2; omega)); (try replace O6 := O6.wr hW (by intro e2; cases e2; omega)); (try replace O7 := O7.wr hW (by intro e2; cases e2; omega)); (try replace KS := KS.wr hW (by omega)); clear B1; have B1 := hN; clear hN hW; (try dsimp at B1))
      (repeat (first | refine vo_pure rfl rfl ?_ | refine vo_nil ?_ | refine fin_seq ?_ | refine vs_ret ?_))
      (first | refine fin_ret1 Tryd.results48 rfl ?_ | refine fin_end1 Tryd.results48 rfl ?_ | refine fin_ret2 Tryd.results48 rfl rfl ?_ | refine fin_retC1 Tryd.results48 rfl (by assumption) rfl rfl ?_ | refine fin_retC Tryd.results48 rfl (by assumption) rfl ?_)
      exact ⟨_, _, _, _, ⟨p, r, c, s⟩, _, rfl, mkWire (O1.slR (fun i e => by cases e; omega)) (O2.slR (fun i e => by cases e; omega)) (O3.slR (fun i e => by cases e; omega)) (O4.slR (fun i e => by cases e; omega)), by (show p.length + r.length + c.length + s.length ≤ 1000; omega), by omega, hb⟩
  · (repeat (first | refine vo_pure rfl rfl ?_ | refine vs_seq ?_ | refine vs_region ?_ | refine fin_seq ?_ | refine vs_skip ?_ | refine fin_blk ?_ | refine vo_loadA rfl (by assumption) rfl rfl ?_))
    (refine vo_store rfl rfl B1 rfl rfl rfl rfl ?_; intro w1 hW hN; have zz := hW.size; (first | replace hb := hb.trans (hW.below (by assumption)) | replace hb := hb.trans (WE.of_wr hW) | replace hb := hb.thenWr hW (by omega)); (try replace h1 := h1.wr hW (by omega)); (try replace h2 := h2.wr hW (by omega)); (try replace h3 := h3.wr hW (by omega)); (try replace h4 := h4.wr hW (by omega)); (try replace h5 := h5.wr hW (by omega)); (try replace h6 := h6.wr hW (by omega)); (try replace h7 := h7.wr hW (by omega)); (try replace h8 := h8.wr hW (by omega)); (try replace h9 := h9.wr hW (by omega)); (try replace B2 := B2.wr hW (by omega)); (try replace B3 := B3.wr hW (by omega)); (try replace B4 := B4.wr hW (by omega)); (try replace B5 := B5.wr hW (by omega)); (try replace B6 := B6.wr hW (by omega)); (try replace O1 := O1.wr hW (by intro e2; cases e2; omega)); (try replace O2 := O2.wr hW (by intro e2; cases e2; omega)); (try replace O3 := O3.wr hW (by intro e2; cases e2; omega)); (try replace O4 := O4.wr hW (by intro e2; cases e2; omega)); (try replace O5 := O5.wr hW (by intro e2; cases e2; omega)); (try replace O6 := O6.wr hW (by intro e2; cases e2; omega)); (try replace O7 := O7.wr hW (by intro e2; cases e2; omega)); (try replace KS := KS.wr hW (by omega)); clear B1; have B1 := hN; clear hN hW; (try dsimp at B1))
    (repeat (first | refine vo_pure rfl rfl ?_ | refine vo_nil ?_ | refine fin_seq ?_ | refine vs_ret ?_))
    (first | refine fin_ret1 Tryd.results48 rfl ?_ | refine fin_end1 Tryd.results48 rfl ?_ | refine fin_ret2 Tryd.results48 rfl rfl ?_ | refine fin_retC1 Tryd.results48 rfl (by assumption) rfl rfl ?_ | refine fin_retC Tryd.results48 rfl (by assumption) rfl ?_)
    exact ⟨_, _, _, _, ⟨p, r, c, s⟩, _, rfl, mkWire (O1.slR (fun i e => by cases e; omega)) (O2.slR (fun i e => by cases e; omega)) (O3.slR (fun i e => by cases e; omega)) (O4.slR (fun i e => by cases e; omega)), by (show p.length + r.length + c.length + s.length ≤ 1000; omega), by omega, hb⟩
end Go.Proofs.YtahnpokehdlajaaDoor
