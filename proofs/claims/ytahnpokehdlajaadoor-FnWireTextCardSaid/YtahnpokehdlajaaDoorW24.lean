/- The law on wires and their texts. -/
import Derived.Test.YtahnpokehdlajaaDoorW23
import Derived.Test.YtahnpokehdlajaaDoorW19
namespace Go.Proofs.YtahnpokehdlajaaDoor
open Go Go.Proofs Go.Proofs.Sv Go.RowKit
attribute [local irreducible] VS VO VQ VH FinS seqQ blkQ loopQ RunsOp RunsU
attribute [local simp] spl reps Value.cells

theorem c28e {n : Int} {w : World} (kM : MaxL w) : Calls Tryd.prog 28 #[.string ⟨#[]⟩, .int .i64 n] w fun en w' => en = .returned (.tuple #[.agg #[.slice none 0 0, .slice none 0 0, .slice none 0 0, .slice none 0 0], .bool false]) ∧ Ext w w' := by
  have hb : Below w.heap.size w w := Below.refl _ _
  refine calls_vs Tryd.func28 Tryd.ntmps28 rfl rfl ?_
  (repeat (first | refine vs_seq ?_ | refine vs_region ?_))
  (refine vo_alloc rfl rfl ?_; intro b1 w1 hN B1; have zz := hN.eq; have zz := hN.size; have hE := hN.ext; have g1 : w.heap.size ≤ b1 := (by rw [← hN.eq]; exact hb.size); skip; have zz := hE.size; (first | replace hb := hb.trans (hE.mono hb.size) | replace hb := hb.trans (WE.of_ext hE)); (try replace h1 := h1.up hE); (try replace h2 := h2.up hE); (try replace h3 := h3.up hE); (try replace h4 := h4.up hE); (try replace h5 := h5.up hE); (try replace h6 := h6.up hE); (try replace h7 := h7.up hE); (try replace h8 := h8.up hE); (try replace h9 := h9.up hE); (try replace B2 := B2.up hE); (try replace B3 := B3.up hE); (try replace B4 := B4.up hE); (try replace B5 := B5.up hE); (try replace B6 := B6.up hE); (try clear hN hE); (try dsimp at B1))
  (repeat (first | refine vo_pure rfl rfl ?_ | refine vs_seq ?_ | refine vs_region ?_ | refine vo_nil ?_ | refine fin_seq ?_))
  refine vo_call rfl rfl ?_
  refine Calls.mono (splits (ls := [[]]) (by simp) (by simp) (by decide) (kM.up hb)) ?_
  rintro _ w2 ⟨b, rfl, B3, hN⟩
  refine ⟨_, rfl, ?_⟩
  have hE := hN.ext
  replace B1 := B1.up hE
  replace hb := hb.trans (hE.mono hb.size)
  clear hE
  (repeat (first | refine vo_pure rfl rfl ?_ | refine vs_seq ?_ | refine vs_region ?_ | refine vo_nil ?_ | refine fin_seq ?_ | refine vs_cond_true rfl ?_ | refine vo_val _ (runs_lenL rfl) rfl ?_ | refine vo_build rfl rfl rfl ?_))
  (refine vo_store rfl rfl B1 rfl rfl rfl rfl ?_; intro w1 hW hN; have zz := hW.size; (first | replace hb := hb.trans (hW.below (by assumption)) | replace hb := hb.trans (WE.of_wr hW) | replace hb := hb.thenWr hW (by omega)); (try replace h1 := h1.wr hW (by omega)); (try replace h2 := h2.wr hW (by omega)); (try replace h3 := h3.wr hW (by omega)); (try replace h4 := h4.wr hW (by omega)); (try replace h5 := h5.wr hW (by omega)); (try replace h6 := h6.wr hW (by omega)); (try replace h7 := h7.wr hW (by omega)); (try replace h8 := h8.wr hW (by omega)); (try replace h9 := h9.wr hW (by omega)); (try replace B2 := B2.wr hW (by omega)); (try replace B3 := B3.wr hW (by omega)); (try replace B4 := B4.wr hW (by omega)); (try replace B5 := B5.wr hW (by omega)); (try replace B6 := B6.wr hW (by omega)); clear B1; have B1 := hN; clear hN hW; (try dsimp at B1))
  (repeat (first | refine vo_pure rfl rfl ?_ | refine vo_nil ?_ | refine fin_seq ?_ | refine vs_ret ?_ | refine fin_seq_ret ?_))
  (first | refine fin_ret1 Tryd.results28 rfl ?_ | refine fin_end1 Tryd.results28 rfl ?_ | refine fin_ret2 Tryd.results28 rfl rfl ?_ | refine fin_retC1 Tryd.results28 rfl (by assumption) rfl rfl ?_ | refine fin_retC Tryd.results28 rfl (by assumption) rfl ?_)
  exact ⟨rfl, hb⟩
theorem law7 {v : Value} {code : List UInt8} {w : World} (k1 : SlR 0 w.heap.size w v code) (kT : Tab w) (kE : ErrV w) (kM : MaxL w) : Calls Tryd.prog 7 #[v] w fun en w' => en = .returned (.bool true) ∧ Ext w w' := by
  have hb : Below w.heap.size w w := Below.refl _ _
  refine calls_vs Tryd.func7 Tryd.ntmps7 rfl rfl ?_
  (repeat (first | refine vo_pure rfl rfl ?_ | refine vs_seq ?_ | refine vs_region ?_ | refine vo_nil ?_ | refine fin_seq ?_))
  (refine vo_call rfl rfl ?_; refine Calls.mono (c26 k1) ?_; rintro _ _ ⟨rfl, rfl⟩; refine ⟨_, rfl, ?_⟩)
  (repeat (first | refine vo_nil ?_ | refine fin_seq ?_))
  refine vs_cond rfl (fun hc => ?_) (fun hc => ?_)
  · (repeat (first | refine vo_pure rfl rfl ?_ | refine vs_seq ?_ | refine vs_region ?_ | refine vo_nil ?_ | refine fin_seq ?_ | refine vs_ret ?_ | refine fin_seq_ret ?_))
    (first | refine fin_ret1 Tryd.results7 rfl ?_ | refine fin_end1 Tryd.results7 rfl ?_ | refine fin_ret2 Tryd.results7 rfl rfl ?_ | refine fin_retC1 Tryd.results7 rfl (by assumption) rfl rfl ?_ | refine fin_retC Tryd.results7 rfl (by assumption) rfl ?_)
    exact ⟨rfl, hb⟩
  have hlc : code.length ≤ 4096 := by simp at hc; omega
  (repeat (first | refine vo_pure rfl rfl ?_ | refine vs_seq ?_ | refine vs_region ?_ | refine fin_seq ?_ | refine vs_skip ?_))
  refine vo_call rfl rfl ?_
  refine Calls.mono (c27 k1 hlc) ?_
  rintro _ w2 ⟨v1, v2, v3, v4, x, n, rfl, h1, hs, hn, hE⟩
  refine ⟨_, rfl, ?_⟩
  have zz := hE.size
  replace hb := hb.trans (hE.mono hb.size)
  clear hE
  obtain ⟨_, _, _, _, e, ⟨u1, rfl, h3⟩, ⟨u2, rfl, h4⟩, ⟨u3, rfl, h5⟩, ⟨u4, rfl, h6⟩⟩ := h1
  simp only [List.cons_append, List.nil_append, List.cons.injEq, and_true] at e
  obtain ⟨rfl, rfl, rfl, rfl⟩ := e
  obtain ⟨p1, k1', rfl⟩ := h3.len
  obtain ⟨p2, k2, rfl⟩ := h4.len
  obtain ⟨p3, k3, rfl⟩ := h5.len
  obtain ⟨p4, k4, rfl⟩ := h6.len
  (repeat (first | refine vo_pure rfl rfl ?_))
  (refine vo_alloc rfl rfl ?_; intro b1 w1 hN B1; have zz := hN.eq; have zz := hN.size; have hE := hN.ext; have g1 : w.heap.size ≤ b1 := (by rw [← hN.eq]; exact hb.size); skip; have zz := hE.size; (first | replace hb := hb.trans (hE.mono hb.size) | replace hb := hb.trans (WE.of_ext hE)); (try replace h1 := h1.up hE); (try replace h2 := h2.up hE); (try replace h3 := h3.up hE); (try replace h4 := h4.up hE); (try replace h5 := h5.up hE); (try replace h6 := h6.up hE); (try replace h7 := h7.up hE); (try replace h8 := h8.up hE); (try replace h9 := h9.up hE); (try replace B2 := B2.up hE); (try replace B3 := B3.up hE); (try replace B4 := B4.up hE); (try replace B5 := B5.up hE); (try replace B6 := B6.up hE); (try clear hN hE); (try dsimp at B1))
  skip
  (refine vo_store rfl rfl B1 rfl rfl rfl rfl ?_; intro w1 hW hN; have zz := hW.size; (first | replace hb := hb.trans (hW.below (by assumption)) | replace hb := hb.trans (WE.of_wr hW) | replace hb := hb.thenWr hW (by omega)); (try replace h1 := h1.wr hW (by omega)); (try replace h2 := h2.wr hW (by omega)); (try replace h3 := h3.wr hW (by omega)); (try replace h4 := h4.wr hW (by omega)); (try replace h5 := h5.wr hW (by omega)); (try replace h6 := h6.wr hW (by omega)); (try replace h7 := h7.wr hW (by omega)); (try replace h8 := h8.wr hW (by omega)); (try replace h9 := h9.wr hW (by omega)); (try replace B2 := B2.wr hW (by omega)); (try replace B3 := B3.wr hW (by omega)); (try replace B4 := B4.wr hW (by omega)); (try replace B5 := B5.wr hW (by omega)); (try replace B6 := B6.wr hW (by omega)); clear B1; have B1 := hN; clear hN hW; (try dsimp at B1))
  (repeat (first | refine vo_pure rfl rfl ?_ | refine vs_seq ?_ | refine vs_region ?_ | refine vo_nil ?_ | refine fin_seq ?_ | refine vo_loadA rfl (by assumption) rfl rfl ?_))
  (refine vo_call rfl rfl ?_; refine Calls.mono (c24 (n := n) (mkWire h3 h4 h5 h6) (by omega) (kT.up hb)) ?_; rintro _ w1 ⟨rfl, hE⟩; refine ⟨_, rfl, ?_⟩; have zz := hE.size; (first | replace hb := hb.trans (hE.mono hb.size) | replace hb := hb.trans (WE.of_ext hE)); (try replace h1 := h1.up hE); (try replace h2 := h2.up hE); (try replace h3 := h3.up hE); (try replace h4 := h4.up hE); (try replace h5 := h5.up hE); (try replace h6 := h6.up hE); (try replace h7 := h7.up hE); (try replace h8 := h8.up hE); (try replace h9 := h9.up hE); (try replace B1 := B1.up hE); (try replace B2 := B2.up hE); (try replace B3 := B3.up hE); (try replace B4 := B4.up hE); (try replace B5 := B5.up hE); (try replace B6 := B6.up hE))
  by_cases hp : WireP x n
  · rw [tf_t hp]
    simp only [if_true]
    (repeat (first | refine vo_pure rfl rfl ?_))
    refine vo_call rfl rfl ?_
    refine Calls.mono (c28 hp hs (kT.up hb) (kE.up hb) (kM.up hb)) ?_
    rintro _ w2 ⟨y1, y2, y3, y4, rfl, h2, hE⟩
    refine ⟨_, rfl, ?_⟩
    have zz := hE.size
    (try replace h1 := h1.up hE); (try replace h2 := h2.up hE); (try replace h3 := h3.up hE); (try replace h4 := h4.up hE); (try replace h5 := h5.up hE); (try replace h6 := h6.up hE); (try replace h7 := h7.up hE); (try replace h8 := h8.up hE); (try replace h9 := h9.up hE); (try replace B1 := B1.up hE); (try replace B2 := B2.up hE); (try replace B3 := B3.up hE); (try replace B4 := B4.up hE); (try replace B5 := B5.up hE); (try replace B6 := B6.up hE)
    replace hb := hb.trans (hE.mono hb.size)
    clear hE
    obtain ⟨_, _, _, _, e, ⟨u1, rfl, h1⟩, ⟨u2, rfl, h7⟩, ⟨u3, rfl, h8⟩, ⟨u4, rfl, h9⟩⟩ := h2
    simp only [List.cons_append, List.nil_append, List.cons.injEq, and_true] at e
    obtain ⟨rfl, rfl, rfl, rfl⟩ := e
    obtain ⟨q1, j1, rfl⟩ := h1.len
    obtain ⟨q2, j2, rfl⟩ := h7.len
    obtain ⟨q3, j3, rfl⟩ := h8.len
    obtain ⟨q4, j4, rfl⟩ := h9.len
    (repeat (first | refine vo_pure rfl rfl ?_))
    (refine vo_alloc rfl rfl ?_; intro b2 w1 hN B2; have zz := hN.eq; have zz := hN.size; have hE := hN.ext; have g2 : w.heap.size ≤ b2 := (by rw [← hN.eq]; exact hb.size); (try have l1_2 : b1 < b2 := (by rw [← hN.eq]; exact B1.lt)); have zz := hE.size; (first | replace hb := hb.trans (hE.mono hb.size) | replace hb := hb.trans (WE.of_ext hE)); (try replace h1 := h1.up hE); (try replace h2 := h2.up hE); (try replace h3 := h3.up hE); (try replace h4 := h4.up hE); (try replace h5 := h5.up hE); (try replace h6 := h6.up hE); (try replace h7 := h7.up hE); (try replace h8 := h8.up hE); (try replace h9 := h9.up hE); (try replace B1 := B1.up hE); (try replace B3 := B3.up hE); (try replace B4 := B4.up hE); (try replace B5 := B5.up hE); (try replace B6 := B6.up hE); (try clear hN hE); (try dsimp at B2))
    skip
    have zz := B2.lt
    (refine vo_store rfl rfl B2 rfl rfl rfl rfl ?_; intro w1 hW hN; have zz := hW.size; (first | replace hb := hb.trans (hW.below (by assumption)) | replace hb := hb.trans (WE.of_wr hW) | replace hb := hb.thenWr hW (by omega)); (try replace h1 := h1.wr hW (by omega)); (try replace h2 := h2.wr hW (by omega)); (try replace h3 := h3.wr hW (by omega)); (try replace h4 := h4.wr hW (by omega)); (try replace h5 := h5.wr hW (by omega)); (try replace h6 := h6.wr hW (by omega)); (try replace h7 := h7.wr hW (by omega)); (try replace h8 := h8.wr hW (by omega)); (try replace h9 := h9.wr hW (by omega)); (try replace B1 := B1.wr hW (by omega)); (try replace B3 := B3.wr hW (by omega)); (try replace B4 := B4.wr hW (by omega)); (try replace B5 := B5.wr hW (by omega)); (try replace B6 := B6.wr hW (by omega)); clear B2; have B2 := hN; clear hN hW; (try dsimp at B2))
    (repeat (first | refine vo_pure rfl rfl ?_ | refine vs_seq ?_ | refine vs_region ?_ | refine vo_nil ?_ | refine fin_seq ?_ | refine vo_loadA rfl (by assumption) rfl rfl ?_))
    (refine vo_call rfl rfl ?_; refine Calls.mono (c29 (n := n) (mkWire h3 h4 h5 h6) (by omega)) ?_; rintro _ w1 ⟨rfl, hE⟩; refine ⟨_, rfl, ?_⟩; have zz := hE.size; (first | replace hb := hb.trans (hE.mono hb.size) | replace hb := hb.trans (WE.of_ext hE)); (try replace h1 := h1.up hE); (try replace h2 := h2.up hE); (try replace h3 := h3.up hE); (try replace h4 := h4.up hE); (try replace h5 := h5.up hE); (try replace h6 := h6.up hE); (try replace h7 := h7.up hE); (try replace h8 := h8.up hE); (try replace h9 := h9.up hE); (try replace B1 := B1.up hE); (try replace B2 := B2.up hE); (try replace B3 := B3.up hE); (try replace B4 := B4.up hE); (try replace B5 := B5.up hE); (try replace B6 := B6.up hE))
    rw [tf_t hp]
    (repeat (first | refine vo_pure rfl rfl ?_ | refine vo_guard_take rfl rfl ?_ | refine vs_seq ?_ | refine vs_region ?_ | refine vo_nil ?_ | refine fin_seq ?_ | refine vs_skip ?_ | refine vs_cond_false rfl ?_ | refine vo_loadA rfl (by assumption) rfl rfl ?_))
    (refine vo_call rfl rfl ?_; refine Calls.mono (c31 (mkWire h1 h7 h8 h9) (mkWire h3 h4 h5 h6)) ?_; rintro _ w1 ⟨rfl, hE⟩; refine ⟨_, rfl, ?_⟩; have zz := hE.size; (first | replace hb := hb.trans (hE.mono hb.size) | replace hb := hb.trans (WE.of_ext hE)); (try replace h1 := h1.up hE); (try replace h2 := h2.up hE); (try replace h3 := h3.up hE); (try replace h4 := h4.up hE); (try replace h5 := h5.up hE); (try replace h6 := h6.up hE); (try replace h7 := h7.up hE); (try replace h8 := h8.up hE); (try replace h9 := h9.up hE); (try replace B1 := B1.up hE); (try replace B2 := B2.up hE); (try replace B3 := B3.up hE); (try replace B4 := B4.up hE); (try replace B5 := B5.up hE); (try replace B6 := B6.up hE))
    (repeat (first | refine vo_pure rfl rfl ?_ | refine vo_nil ?_ | refine fin_seq ?_ | refine vs_ret ?_))
    (first | refine fin_ret1 Tryd.results7 rfl ?_ | refine fin_end1 Tryd.results7 rfl ?_ | refine fin_ret2 Tryd.results7 rfl rfl ?_ | refine fin_retC1 Tryd.results7 rfl (by assumption) rfl rfl ?_ | refine fin_retC Tryd.results7 rfl (by assumption) rfl ?_)
    exact ⟨rfl, hb⟩
  · rw [tf_f hp]
    (repeat (first | refine vo_pure rfl rfl ?_))
    refine vo_call rfl rfl ?_
    refine Calls.mono (c28e (kM.up hb)) ?_
    rintro _ w2 ⟨rfl, hE⟩
    refine ⟨_, rfl, ?_⟩
    have zz := hE.size
    (try replace h1 := h1.up hE); (try replace h2 := h2.up hE); (try replace h3 := h3.up hE); (try replace h4 := h4.up hE); (try replace h5 := h5.up hE); (try replace h6 := h6.up hE); (try replace h7 := h7.up hE); (try replace h8 := h8.up hE); (try replace h9 := h9.up hE); (try replace B1 := B1.up hE); (try replace B2 := B2.up hE); (try replace B3 := B3.up hE); (try replace B4 := B4.up hE); (try replace B5 := B5.up hE); (try replace B6 := B6.up hE)
    replace hb := hb.trans (hE.mono hb.size)
    clear hE
    (repeat (first | refine vo_pure rfl rfl ?_))
    (refine vo_alloc rfl rfl ?_; intro b2 w1 hN B2; have zz := hN.eq; have zz := hN.size; have hE := hN.ext; have g2 : w.heap.size ≤ b2 := (by rw [← hN.eq]; exact hb.size); (try have l1_2 : b1 < b2 := (by rw [← hN.eq]; exact B1.lt)); have zz := hE.size; (first | replace hb := hb.trans (hE.mono hb.size) | replace hb := hb.trans (WE.of_ext hE)); (try replace h1 := h1.up hE); (try replace h2 := h2.up hE); (try replace h3 := h3.up hE); (try replace h4 := h4.up hE); (try replace h5 := h5.up hE); (try replace h6 := h6.up hE); (try replace h7 := h7.up hE); (try replace h8 := h8.up hE); (try replace h9 := h9.up hE); (try replace B1 := B1.up hE); (try replace B3 := B3.up hE); (try replace B4 := B4.up hE); (try replace B5 := B5.up hE); (try replace B6 := B6.up hE); (try clear hN hE); (try dsimp at B2))
    skip
    have zz := B2.lt
    (refine vo_store rfl rfl B2 rfl rfl rfl rfl ?_; intro w1 hW hN; have zz := hW.size; (first | replace hb := hb.trans (hW.below (by assumption)) | replace hb := hb.trans (WE.of_wr hW) | replace hb := hb.thenWr hW (by omega)); (try replace h1 := h1.wr hW (by omega)); (try replace h2 := h2.wr hW (by omega)); (try replace h3 := h3.wr hW (by omega)); (try replace h4 := h4.wr hW (by omega)); (try replace h5 := h5.wr hW (by omega)); (try replace h6 := h6.wr hW (by omega)); (try replace h7 := h7.wr hW (by omega)); (try replace h8 := h8.wr hW (by omega)); (try replace h9 := h9.wr hW (by omega)); (try replace B1 := B1.wr hW (by omega)); (try replace B3 := B3.wr hW (by omega)); (try replace B4 := B4.wr hW (by omega)); (try replace B5 := B5.wr hW (by omega)); (try replace B6 := B6.wr hW (by omega)); clear B2; have B2 := hN; clear hN hW; (try dsimp at B2))
    (repeat (first | refine vo_pure rfl rfl ?_ | refine vs_seq ?_ | refine vs_region ?_ | refine vo_nil ?_ | refine fin_seq ?_ | refine vo_loadA rfl (by assumption) rfl rfl ?_))
    (refine vo_call rfl rfl ?_; refine Calls.mono (c29 (n := n) (mkWire h3 h4 h5 h6) (by omega)) ?_; rintro _ w1 ⟨rfl, hE⟩; refine ⟨_, rfl, ?_⟩; have zz := hE.size; (first | replace hb := hb.trans (hE.mono hb.size) | replace hb := hb.trans (WE.of_ext hE)); (try replace h1 := h1.up hE); (try replace h2 := h2.up hE); (try replace h3 := h3.up hE); (try replace h4 := h4.up hE); (try replace h5 := h5.up hE); (try replace h6 := h6.up hE); (try replace h7 := h7.up hE); (try replace h8 := h8.up hE); (try replace h9 := h9.up hE); (try replace B1 := B1.up hE); (try replace B2 := B2.up hE); (try replace B3 := B3.up hE); (try replace B4 := B4.up hE); (try replace B5 := B5.up hE); (try replace B6 := B6.up hE))
    rw [tf_f hp]
    (repeat (first | refine vo_pure rfl rfl ?_ | refine vo_guard_take rfl rfl ?_ | refine vs_seq ?_ | refine vs_region ?_ | refine vo_nil ?_ | refine fin_seq ?_ | refine vs_cond_true rfl ?_ | refine vo_loadA rfl (by assumption) rfl rfl ?_))
    (refine vo_call rfl rfl ?_; refine Calls.mono (c30 (n := n) (mkWire h3 h4 h5 h6) (by omega)) ?_; rintro _ w1 ⟨rfl, hE⟩; refine ⟨_, rfl, ?_⟩; have zz := hE.size; (first | replace hb := hb.trans (hE.mono hb.size) | replace hb := hb.trans (WE.of_ext hE)); (try replace h1 := h1.up hE); (try replace h2 := h2.up hE); (try replace h3 := h3.up hE); (try replace h4 := h4.up hE); (try replace h5 := h5.up hE); (try replace h6 := h6.up hE); (try replace h7 := h7.up hE); (try replace h8 := h8.up hE); (try replace h9 := h9.up hE); (try replace B1 := B1.up hE); (try replace B2 := B2.up hE); (try replace B3 := B3.up hE); (try replace B4 := B4.up hE); (try replace B5 := B5.up hE); (try replace B6 := B6.up hE))
    rw [tf_f hp]
    (repeat (first | refine vo_pure rfl rfl ?_ | refine vo_guard_take rfl rfl ?_ | refine vo_nil ?_ | refine fin_seq ?_ | refine vs_ret ?_ | refine fin_seq_ret ?_))
    (first | refine fin_ret1 Tryd.results7 rfl ?_ | refine fin_end1 Tryd.results7 rfl ?_ | refine fin_ret2 Tryd.results7 rfl rfl ?_ | refine fin_retC1 Tryd.results7 rfl (by assumption) rfl rfl ?_ | refine fin_retC Tryd.results7 rfl (by assumption) rfl ?_)
    exact ⟨rfl, hb⟩
end Go.Proofs.YtahnpokehdlajaaDoor
