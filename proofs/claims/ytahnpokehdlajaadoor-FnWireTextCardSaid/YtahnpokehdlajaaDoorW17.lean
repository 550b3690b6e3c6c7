/- Drawn wires: the walk. -/
-- NAMES O1 O2 O3 O4 O5 O6 O7 KS
import Derived.Test.YtahnpokehdlajaaDoorW16
namespace Go.Proofs.YtahnpokehdlajaaDoor
open Go Go.Proofs Go.Proofs.Sv Go.RowKit
attribute [local irreducible] VS VO VQ VH VP VPo VT VTo FinS seqQ blkQ loopQ RunsOp RunsU
attribute [local simp] spl reps Value.cells

theorem Src.up {B b : Nat} {w w' : World} (h : Src B w b) (k : Ext w w') : Src B w' b := by
  obtain ⟨p, cap, j, code, seed, B1, h1, r⟩ := h
  exact ⟨p, cap, j, code, seed, B1.up k, h1.up k, r⟩
theorem Src.we {B b : Nat} {g : Option Nat} {w w' : World} (h : Src B w b) (k : WE g w w') (hg : ∀ i, g = some i → B ≤ i ∧ b ≠ i) : Src B w' b := by
  obtain ⟨p, cap, j, code, seed, B1, h1, r⟩ := h
  exact ⟨p, cap, j, code, seed, B1.we k (fun i e => (hg i e).2), h1.we k (fun i e => .inr (hg i e).1), r⟩
theorem Src.wr {B b b' : Nat} {w w' : World} (h : Src B w b) (k : Wr b' w w') (hg : B ≤ b' ∧ b ≠ b') : Src B w' b := h.we (WE.of_wr k) (fun i e => by cases e; exact hg)
theorem Src.lt {B b : Nat} {w : World} (h : Src B w b) : b < w.heap.size := by
  obtain ⟨p, cap, j, code, seed, B1, _⟩ := h
  exact B1.lt
theorem Src.le {B b : Nat} {w : World} (h : Src B w b) : B ≤ b := by
  obtain ⟨p, cap, j, code, seed, _, _, _, _, h⟩ := h
  exact h
/-- A wire of m nodes and n sinks, its four slices in blocks of their own, none of them in F. -/
def WO (F : Nat → Prop) (w : World) (v1 v2 v3 v4 : Value) (m n : Nat) : Prop := ∃ (g1 g2 g3 g4 : Nat) (p r c s : List Int), OwnI w 2 (some g1) v1 p ∧ OwnI w 2 (some g2) v2 r ∧ OwnI w 2 (some g3) v3 c ∧ OwnI w 2 (some g4) v4 s ∧ (p.length = m ∧ r.length = m ∧ c.length = m ∧ s.length = n) ∧ (¬ F g1 ∧ ¬ F g2 ∧ ¬ F g3 ∧ ¬ F g4) ∧ (g1 ≠ g2 ∧ g1 ≠ g3 ∧ g1 ≠ g4 ∧ g2 ≠ g3 ∧ g2 ≠ g4 ∧ g3 ≠ g4)
theorem WO.we {F : Nat → Prop} {g : Option Nat} {w w' : World} {v1 v2 v3 v4 : Value} {m n : Nat} (h : WO F w v1 v2 v3 v4 m n) (k : WE g w w') (hg : ∀ i, g = some i → F i) : WO F w' v1 v2 v3 v4 m n := by
  obtain ⟨g1, g2, g3, g4, p, r, c, s, h1, h2, h3, h4, hl, hF, hd⟩ := h
  have key : ∀ g', ¬ F g' → ∀ i, g = some i → some g' ≠ some i := fun g' hn i e e' => by cases e'; exact hn (hg _ e)
  exact ⟨g1, g2, g3, g4, p, r, c, s, h1.we k (key _ hF.1), h2.we k (key _ hF.2.1), h3.we k (key _ hF.2.2.1), h4.we k (key _ hF.2.2.2), hl, hF, hd⟩
theorem WO.up {F : Nat → Prop} {w w' : World} {v1 v2 v3 v4 : Value} {m n : Nat} (h : WO F w v1 v2 v3 v4 m n) (k : Ext w w') : WO F w' v1 v2 v3 v4 m n := h.we (g := none) (WE.of_ext k) (fun i e => by cases e)

set_option maxHeartbeats 4000000 in
theorem c70 {B b n : Nat} {w : World} (KS : Src B w b) (hn : n ≤ 1000) : Calls Tryd.prog 70 #[.pointer (some ⟨b, 0, none⟩), .int .i64 (n : Int)] w fun en w' => ∃ v1 v2 v3 v4 m, en = .returned (.agg #[v1, v2, v3, v4]) ∧ WO (fun k => k < w.heap.size) w' v1 v2 v3 v4 m n ∧ (1 ≤ m ∧ m ≤ 4) ∧ Src B w' b ∧ WE (some b) w w' := by
  have hb : WE (some b) w w := WE.refl _
  have hlt := KS.lt
  have hle := KS.le
  refine calls_vs Tryd.func70 Tryd.ntmps70 rfl rfl ?_
  (repeat (first | refine vs_seq ?_ | refine vs_region ?_))
  (refine vo_alloc rfl rfl ?_; intro b1 w1 hN B1; have zz := hN.eq; have zz := hN.size; have hE := hN.ext; have g1 : w.heap.size ≤ b1 := (by rw [← hN.eq]; exact hb.size); skip; have zz := hE.size; (first | replace hb := hb.trans (hE.mono hb.size) | replace hb := hb.trans (WE.of_ext hE)); (try replace h1 := h1.up hE); (try replace h2 := h2.up hE); (try replace h3 := h3.up hE); (try replace h4 := h4.up hE); (try replace h5 := h5.up hE); (try replace h6 := h6.up hE); (try replace h7 := h7.up hE); (try replace h8 := h8.up hE); (try replace h9 := h9.up hE); (try replace B2 := B2.up hE); (try replace B3 := B3.up hE); (try replace B4 := B4.up hE); (try replace B5 := B5.up hE); (try replace B6 := B6.up hE); (try replace O1 := O1.up hE); (try replace O2 := O2.up hE); (try replace O3 := O3.up hE); (try replace O4 := O4.up hE); (try replace O5 := O5.up hE); (try replace O6 := O6.up hE); (try replace O7 := O7.up hE); (try replace KS := KS.up hE); (try clear hN hE); (try dsimp at B1))
  (repeat (first | refine vo_pure rfl rfl ?_ | refine vs_seq ?_ | refine vs_region ?_ | refine vo_nil ?_ | refine fin_seq ?_))
  refine vo_call rfl rfl ?_
  refine Calls.mono (c69 KS (by omega)) ?_
  rintro _ w2 ⟨x, rfl, hx, KS, hE⟩
  refine ⟨_, rfl, ?_⟩
  have zz := hE.size
  ((try replace h1 := h1.we hE (fun i e => by cases e; omega)); (try replace h2 := h2.we hE (fun i e => by cases e; omega)); (try replace h3 := h3.we hE (fun i e => by cases e; omega)); (try replace h4 := h4.we hE (fun i e => by cases e; omega)); (try replace h5 := h5.we hE (fun i e => by cases e; omega)); (try replace h6 := h6.we hE (fun i e => by cases e; omega)); (try replace h7 := h7.we hE (fun i e => by cases e; omega)); (try replace h8 := h8.we hE (fun i e => by cases e; omega)); (try replace h9 := h9.we hE (fun i e => by cases e; omega)); (try replace B1 := B1.we hE (fun i e => by cases e; omega)); (try replace B2 := B2.we hE (fun i e => by cases e; omega)); (try replace B3 := B3.we hE (fun i e => by cases e; omega)); (try replace B4 := B4.we hE (fun i e => by cases e; omega)); (try replace B5 := B5.we hE (fun i e => by cases e; omega)); (try replace B6 := B6.we hE (fun i e => by cases e; omega)); (try replace O1 := O1.we hE (fun i e => by cases e; (try intro e2; cases e2); omega)); (try replace O2 := O2.we hE (fun i e => by cases e; (try intro e2; cases e2); omega)); (try replace O3 := O3.we hE (fun i e => by cases e; (try intro e2; cases e2); omega)); (try replace O4 := O4.we hE (fun i e => by cases e; (try intro e2; cases e2); omega)); (try replace O5 := O5.we hE (fun i e => by cases e; (try intro e2; cases e2); omega)); (try replace O6 := O6.we hE (fun i e => by cases e; (try intro e2; cases e2); omega)); (try replace O7 := O7.we hE (fun i e => by cases e; (try intro e2; cases e2); omega)); (try replace KS := KS.we hE (fun i e => by cases e; (try intro e2; cases e2); omega)))
  replace hb := hb.trans hE
  clear hE
  skip
  refine vo_call rfl rfl ?_
  refine Calls.mono (c90 ⟨by omega, by omega⟩ ⟨by omega, by omega⟩) ?_
  rintro _ w3 ⟨v1, v2, v3, v4, i1, i2, i3, i4, rfl, O1, O2, O3, O4, hi, hE⟩
  refine ⟨_, rfl, ?_⟩
  have zz := hE.size
  (try replace h1 := h1.up hE); (try replace h2 := h2.up hE); (try replace h3 := h3.up hE); (try replace h4 := h4.up hE); (try replace h5 := h5.up hE); (try replace h6 := h6.up hE); (try replace h7 := h7.up hE); (try replace h8 := h8.up hE); (try replace h9 := h9.up hE); (try replace B1 := B1.up hE); (try replace B2 := B2.up hE); (try replace B3 := B3.up hE); (try replace B4 := B4.up hE); (try replace B5 := B5.up hE); (try replace B6 := B6.up hE); (try replace O1 := O1.up hE); (try replace O2 := O2.up hE); (try replace O3 := O3.up hE); (try replace O4 := O4.up hE); (try replace O5 := O5.up hE); (try replace O6 := O6.up hE); (try replace O7 := O7.up hE); (try replace KS := KS.up hE)
  replace hb := hb.trans (WE.of_ext hE)
  clear hE
  have q4 := O4.lt _ rfl
  rw [Int.toNat_natCast] at O4
  obtain ⟨p1, k1, rfl⟩ := O1.len
  obtain ⟨p2, k2, rfl⟩ := O2.len
  obtain ⟨p3, k3, rfl⟩ := O3.len
  obtain ⟨p4, k4, rfl⟩ := O4.len
  skip
  (refine vo_alloc rfl rfl ?_; intro b2 w1 hN B2; have zz := hN.eq; have zz := hN.size; have hE := hN.ext; have g2 : w.heap.size ≤ b2 := (by rw [← hN.eq]; exact hb.size); (try have l1_2 : b1 < b2 := (by rw [← hN.eq]; exact B1.lt)); have zz := hE.size; (first | replace hb := hb.trans (hE.mono hb.size) | replace hb := hb.trans (WE.of_ext hE)); (try replace h1 := h1.up hE); (try replace h2 := h2.up hE); (try replace h3 := h3.up hE); (try replace h4 := h4.up hE); (try replace h5 := h5.up hE); (try replace h6 := h6.up hE); (try replace h7 := h7.up hE); (try replace h8 := h8.up hE); (try replace h9 := h9.up hE); (try replace B1 := B1.up hE); (try replace B3 := B3.up hE); (try replace B4 := B4.up hE); (try replace B5 := B5.up hE); (try replace B6 := B6.up hE); (try replace O1 := O1.up hE); (try replace O2 := O2.up hE); (try replace O3 := O3.up hE); (try replace O4 := O4.up hE); (try replace O5 := O5.up hE); (try replace O6 := O6.up hE); (try replace O7 := O7.up hE); (try replace KS := KS.up hE); (try clear hN hE); (try dsimp at B2))
  skip
  (refine vo_store rfl rfl B2 rfl rfl rfl rfl ?_; intro w1 hW hN; have zz := hW.size; (first | replace hb := hb.trans (hW.below (by assumption)) | replace hb := hb.trans (WE.of_wr hW) | replace hb := hb.thenWr hW (by omega)); (try replace h1 := h1.wr hW (by omega)); (try replace h2 := h2.wr hW (by omega)); (try replace h3 := h3.wr hW (by omega)); (try replace h4 := h4.wr hW (by omega)); (try replace h5 := h5.wr hW (by omega)); (try replace h6 := h6.wr hW (by omega)); (try replace h7 := h7.wr hW (by omega)); (try replace h8 := h8.wr hW (by omega)); (try replace h9 := h9.wr hW (by omega)); (try replace B1 := B1.wr hW (by omega)); (try replace B3 := B3.wr hW (by omega)); (try replace B4 := B4.wr hW (by omega)); (try replace B5 := B5.wr hW (by omega)); (try replace B6 := B6.wr hW (by omega)); (try replace O1 := O1.wr hW (by intro e2; cases e2; omega)); (try replace O2 := O2.wr hW (by intro e2; cases e2; omega)); (try replace O3 := O3.wr hW (by intro e2; cases e2; omega)); (try replace O4 := O4.wr hW (by intro e2; cases e2; omega)); (try replace O5 := O5.wr hW (by intro e2; cases e2; omega)); (try replace O6 := O6.wr hW (by intro e2; cases e2; omega)); (try replace O7 := O7.wr hW (by intro e2; cases e2; omega)); (try replace KS := KS.wr hW (by omega)); clear B2; have B2 := hN; clear hN hW; (try dsimp at B2))
  (repeat (first | refine vo_pure rfl rfl ?_ | refine vs_seq ?_ | refine vs_region ?_ | refine vo_nil ?_ | refine fin_seq ?_))
  refine vo_call rfl rfl ?_
  refine Calls.mono (c69 KS (by omega)) ?_
  rintro _ w4 ⟨j, rfl, hj, KS, hE⟩
  refine ⟨_, rfl, ?_⟩
  have zz := hE.size
  ((try replace h1 := h1.we hE (fun i e => by cases e; omega)); (try replace h2 := h2.we hE (fun i e => by cases e; omega)); (try replace h3 := h3.we hE (fun i e => by cases e; omega)); (try replace h4 := h4.we hE (fun i e => by cases e; omega)); (try replace h5 := h5.we hE (fun i e => by cases e; omega)); (try replace h6 := h6.we hE (fun i e => by cases e; omega)); (try replace h7 := h7.we hE (fun i e => by cases e; omega)); (try replace h8 := h8.we hE (fun i e => by cases e; omega)); (try replace h9 := h9.we hE (fun i e => by cases e; omega)); (try replace B1 := B1.we hE (fun i e => by cases e; omega)); (try replace B2 := B2.we hE (fun i e => by cases e; omega)); (try replace B3 := B3.we hE (fun i e => by cases e; omega)); (try replace B4 := B4.we hE (fun i e => by cases e; omega)); (try replace B5 := B5.we hE (fun i e => by cases e; omega)); (try replace B6 := B6.we hE (fun i e => by cases e; omega)); (try replace O1 := O1.we hE (fun i e => by cases e; (try intro e2; cases e2); omega)); (try replace O2 := O2.we hE (fun i e => by cases e; (try intro e2; cases e2); omega)); (try replace O3 := O3.we hE (fun i e => by cases e; (try intro e2; cases e2); omega)); (try replace O4 := O4.we hE (fun i e => by cases e; (try intro e2; cases e2); omega)); (try replace O5 := O5.we hE (fun i e => by cases e; (try intro e2; cases e2); omega)); (try replace O6 := O6.we hE (fun i e => by cases e; (try intro e2; cases e2); omega)); (try replace O7 := O7.we hE (fun i e => by cases e; (try intro e2; cases e2); omega)); (try replace KS := KS.we hE (fun i e => by cases e; (try intro e2; cases e2); omega)))
  replace hb := hb.trans hE
  clear hE
  obtain ⟨j, rfl⟩ := Int.eq_ofNat_of_zero_le hj.1
  (repeat (first | refine vo_pure rfl rfl ?_ | refine vo_nil ?_ | refine fin_seq ?_ | refine vs_block ?_))
  refine vs_loop (fun j : Nat => (6, .int .i64 (j : Int)) :: (5, .pointer (some ⟨b2, 0, none⟩)) :: (4, .pointer (some ⟨b1, 0, none⟩)) :: (0, .pointer (some ⟨b, 0, none⟩)) :: [])
    (fun j w' => ∃ v1 v2 v3 v4 m, Blk w' b2 [v1, v2, v3, v4] 46 ∧ WO (fun k => k < w.heap.size ∨ k = b1 ∨ k = b2) w' v1 v2 v3 v4 m n ∧ 1 ≤ m ∧ m + j ≤ 4 ∧ Src B w' b ∧ Blk w' b1 [.slice none 0 0, .slice none 0 0, .slice none 0 0, .slice none 0 0] 46 ∧ WE (some b) w w')
    (fun j => j) j ⟨_, _, _, _, 1, B2, ⟨i1, i2, i3, i4, _, _, _, _, O1, O2, O3, O4, ⟨rfl, rfl, rfl, by simp⟩, ⟨by omega, by omega, by omega, by omega⟩, ⟨by omega, by omega, by omega, by omega, by omega, by omega⟩⟩, Nat.le_refl _, by omega, KS, B1, hb⟩ (by ((repeat (refine sub_cons rfl ?_)); exact sub_nil)) ?_
  clear B1 B2 O1 O2 O3 O4 KS hb hj q4 hi
  rintro j w5 ⟨v1, v2, v3, v4, m, B2, ⟨i1, i2, i3, i4, p, r, c, s, O1, O2, O3, O4, hl, hF, hd⟩, hm, hmj, KS, B1, hb⟩
  obtain ⟨p1, k1, rfl⟩ := O1.len
  obtain ⟨p2, k2, rfl⟩ := O2.len
  obtain ⟨p3, k3, rfl⟩ := O3.len
  obtain ⟨p4, k4, rfl⟩ := O4.len
  simp only [not_or, Nat.not_lt] at hF
  (repeat (first | refine vo_pure rfl rfl ?_ | refine vs_seq ?_ | refine vs_region ?_ | refine vo_nil ?_ | refine fin_seq ?_))
  refine vs_cond rfl (fun hc => ?_) (fun hc => ?_)
  · have hj0 : 0 < j := by simpa using hc
    (repeat (first | refine vo_pure rfl rfl ?_ | refine vs_seq ?_ | refine vs_region ?_ | refine vo_nil ?_ | refine fin_seq ?_ | refine vs_skip ?_ | refine vs_block ?_ | refine vo_fieldAddr rfl rfl ?_ | refine vo_loadB rfl (by assumption) rfl rfl ?_ | refine vo_val _ (runs_lenL rfl) rfl ?_))
    refine vs_drawnT (fun w' => Blk w' b2 [.slice p1 p.length k1, .slice p2 r.length k2, .slice p3 c.length k3, .slice p4 s.length k4] 46) 25 ?_
    intro w1 hE _
    have zz := hE.size
    (try replace h1 := h1.up hE); (try replace h2 := h2.up hE); (try replace h3 := h3.up hE); (try replace h4 := h4.up hE); (try replace h5 := h5.up hE); (try replace h6 := h6.up hE); (try replace h7 := h7.up hE); (try replace h8 := h8.up hE); (try replace h9 := h9.up hE); (try replace B1 := B1.up hE); (try replace B2 := B2.up hE); (try replace B3 := B3.up hE); (try replace B4 := B4.up hE); (try replace B5 := B5.up hE); (try replace B6 := B6.up hE); (try replace O1 := O1.up hE); (try replace O2 := O2.up hE); (try replace O3 := O3.up hE); (try replace O4 := O4.up hE); (try replace O5 := O5.up hE); (try replace O6 := O6.up hE); (try replace O7 := O7.up hE); (try replace KS := KS.up hE)
    replace hb := hb.trans (WE.of_ext hE)
    have hS := B2
    refine vt_take 0 rfl (fun _ hX => runs_fieldAddr rfl) rfl (by kernel_rfl) (by kernel_rfl) (by kernel_rfl) (by kernel_rfl) hS ?_
    refine vt_take 1 rfl (fun _ hX => runs_load rfl (hX.at 0 _ rfl)) rfl (by kernel_rfl) (by kernel_rfl) (by kernel_rfl) (by kernel_rfl) hS ?_
    refine vt_take 3 rfl (fun _ hX => runs_pure rfl) rfl (by kernel_rfl) (by kernel_rfl) (by kernel_rfl) (by kernel_rfl) hS ?_
    refine vt_take 4 rfl (fun _ hX => runs_pure rfl) rfl (by kernel_rfl) (by kernel_rfl) (by kernel_rfl) (by kernel_rfl) hS ?_
    refine vt_take 8 rfl (fun _ hX => runs_fieldAddr rfl) rfl (by kernel_rfl) (by kernel_rfl) (by kernel_rfl) (by kernel_rfl) hS ?_
    refine vt_take 9 rfl (fun _ hX => runs_load rfl (hX.at 1 _ rfl)) rfl (by kernel_rfl) (by kernel_rfl) (by kernel_rfl) (by kernel_rfl) hS ?_
    refine vt_take 11 rfl (fun _ hX => runs_pure rfl) rfl (by kernel_rfl) (by kernel_rfl) (by kernel_rfl) (by kernel_rfl) hS ?_
    refine vt_take 15 rfl (fun _ hX => runs_fieldAddr rfl) rfl (by kernel_rfl) (by kernel_rfl) (by kernel_rfl) (by kernel_rfl) hS ?_
    refine vt_take 16 rfl (fun _ hX => runs_load rfl (hX.at 2 _ rfl)) rfl (by kernel_rfl) (by kernel_rfl) (by kernel_rfl) (by kernel_rfl) hS ?_
    refine vt_take 18 rfl (fun _ hX => runs_pure rfl) rfl (by kernel_rfl) (by kernel_rfl) (by kernel_rfl) (by kernel_rfl) hS ?_
    refine vt_take 22 rfl (fun _ hX => runs_fieldAddr rfl) rfl (by kernel_rfl) (by kernel_rfl) (by kernel_rfl) (by kernel_rfl) hS ?_
    refine vt_take 23 rfl (fun _ hX => runs_load rfl (hX.at 3 _ rfl)) rfl (by kernel_rfl) (by kernel_rfl) (by kernel_rfl) (by kernel_rfl) hS ?_
    clear hS
    have y1 := O1.lt _ rfl
    have y2 := O2.lt _ rfl
    have y3 := O3.lt _ rfl
    have y4 := O4.lt _ rfl
    have y5 := B1.lt
    have y6 := B2.lt
    (refine vt_one 2 (by kernel_rfl) (vto_call rfl rfl rfl (Calls.mono (c91 (O1.slR (lo := 0) (fun _ _ => Nat.zero_le _)) (by omega)) ?_)); rintro _ w1 ⟨v5, g5, rfl, O5, hg5, hE⟩; have zz := hE.size; (try replace h1 := h1.up hE); (try replace h2 := h2.up hE); (try replace h3 := h3.up hE); (try replace h4 := h4.up hE); (try replace h5 := h5.up hE); (try replace h6 := h6.up hE); (try replace h7 := h7.up hE); (try replace h8 := h8.up hE); (try replace h9 := h9.up hE); (try replace B1 := B1.up hE); (try replace B2 := B2.up hE); (try replace B3 := B3.up hE); (try replace B4 := B4.up hE); (try replace B5 := B5.up hE); (try replace B6 := B6.up hE); (try replace O1 := O1.up hE); (try replace O2 := O2.up hE); (try replace O3 := O3.up hE); (try replace O4 := O4.up hE); (try replace O5 := O5.up hE); (try replace O6 := O6.up hE); (try replace O7 := O7.up hE); (try replace KS := KS.up hE); refine ⟨_, rfl, B2, ?_⟩)
    obtain ⟨i5, c5, rfl, rfl⟩ := O5.has (by omega)
    have q5 := hg5 i5 rfl
    have z5 : w.heap.size ≤ i5 := by have := hb.size; omega
    have y5 := O5.lt _ rfl
    replace hb := hb.trans (WE.of_ext hE)
    clear hE hg5
    (refine vt_one 5 (by kernel_rfl) (vto_call rfl rfl rfl (Calls.mono (c69 KS (by omega)) ?_)); rintro _ w1 ⟨x5, rfl, hx5, KS, hE⟩; have zz := hE.size; ((try replace h1 := h1.we hE (fun i e => by cases e; omega)); (try replace h2 := h2.we hE (fun i e => by cases e; omega)); (try replace h3 := h3.we hE (fun i e => by cases e; omega)); (try replace h4 := h4.we hE (fun i e => by cases e; omega)); (try replace h5 := h5.we hE (fun i e => by cases e; omega)); (try replace h6 := h6.we hE (fun i e => by cases e; omega)); (try replace h7 := h7.we hE (fun i e => by cases e; omega)); (try replace h8 := h8.we hE (fun i e => by cases e; omega)); (try replace h9 := h9.we hE (fun i e => by cases e; omega)); (try replace B1 := B1.we hE (fun i e => by cases e; omega)); (try replace B2 := B2.we hE (fun i e => by cases e; omega)); (try replace B3 := B3.we hE (fun i e => by cases e; omega)); (try replace B4 := B4.we hE (fun i e => by cases e; omega)); (try replace B5 := B5.we hE (fun i e => by cases e; omega)); (try replace B6 := B6.we hE (fun i e => by cases e; omega)); (try replace O1 := O1.we hE (fun i e => by cases e; (try intro e2; cases e2); omega)); (try replace O2 := O2.we hE (fun i e => by cases e; (try intro e2; cases e2); omega)); (try replace O3 := O3.we hE (fun i e => by cases e; (try intro e2; cases e2); omega)); (try replace O4 := O4.we hE (fun i e => by cases e; (try intro e2; cases e2); omega)); (try replace O5 := O5.we hE (fun i e => by cases e; (try intro e2; cases e2); omega)); (try replace O6 := O6.we hE (fun i e => by cases e; (try intro e2; cases e2); omega)); (try replace O7 := O7.we hE (fun i e => by cases e; (try intro e2; cases e2); omega)); (try replace KS := KS.we hE (fun i e => by cases e; (try intro e2; cases e2); omega))); refine ⟨_, rfl, B2, ?_⟩)
    replace hb := hb.trans hE
    clear hE
    refine vt_one 6 (by kernel_rfl) (vto_buildSlice rfl rfl rfl rfl rfl rfl rfl ?_)
    intro b15 w1 hN B3
    have zz := hN.eq
    have zz := hN.size
    have hE := hN.ext
    (try replace h1 := h1.up hE); (try replace h2 := h2.up hE); (try replace h3 := h3.up hE); (try replace h4 := h4.up hE); (try replace h5 := h5.up hE); (try replace h6 := h6.up hE); (try replace h7 := h7.up hE); (try replace h8 := h8.up hE); (try replace h9 := h9.up hE); (try replace B1 := B1.up hE); (try replace B2 := B2.up hE); (try replace B3 := B3.up hE); (try replace B4 := B4.up hE); (try replace B5 := B5.up hE); (try replace B6 := B6.up hE); (try replace O1 := O1.up hE); (try replace O2 := O2.up hE); (try replace O3 := O3.up hE); (try replace O4 := O4.up hE); (try replace O5 := O5.up hE); (try replace O6 := O6.up hE); (try replace O7 := O7.up hE); (try replace KS := KS.up hE)
    replace hb := hb.trans (WE.of_ext hE)
    refine ⟨B2, ?_⟩
    dsimp at B3
    clear hE hN
    refine vt_one 7 (by kernel_rfl) (vto_appendI rfl rfl rfl rfl rfl O5 B3 ⟨by omega, by omega⟩ (by omega) (by omega) ?_)
    intro v5 w1 i5' O5' hE hi5
    have zz := hE.size
    have e5 : w.heap.size ≤ i5' ∧ i1 < i5' ∧ i2 < i5' ∧ i3 < i5' ∧ i4 < i5' ∧ b1 < i5' ∧ b2 < i5' := by
      rcases hi5 with h' | h'
      · cases h'; omega
      · omega
    have f5 := O5'.lt _ rfl
    clear B3
    ((try replace h1 := h1.we hE (fun i e => by cases e; omega)); (try replace h2 := h2.we hE (fun i e => by cases e; omega)); (try replace h3 := h3.we hE (fun i e => by cases e; omega)); (try replace h4 := h4.we hE (fun i e => by cases e; omega)); (try replace h5 := h5.we hE (fun i e => by cases e; omega)); (try replace h6 := h6.we hE (fun i e => by cases e; omega)); (try replace h7 := h7.we hE (fun i e => by cases e; omega)); (try replace h8 := h8.we hE (fun i e => by cases e; omega)); (try replace h9 := h9.we hE (fun i e => by cases e; omega)); (try replace B1 := B1.we hE (fun i e => by cases e; omega)); (try replace B2 := B2.we hE (fun i e => by cases e; omega)); (try replace B3 := B3.we hE (fun i e => by cases e; omega)); (try replace B4 := B4.we hE (fun i e => by cases e; omega)); (try replace B5 := B5.we hE (fun i e => by cases e; omega)); (try replace B6 := B6.we hE (fun i e => by cases e; omega)); (try replace O1 := O1.we hE (fun i e => by cases e; (try intro e2; cases e2); omega)); (try replace O2 := O2.we hE (fun i e => by cases e; (try intro e2; cases e2); omega)); (try replace O3 := O3.we hE (fun i e => by cases e; (try intro e2; cases e2); omega)); (try replace O4 := O4.we hE (fun i e => by cases e; (try intro e2; cases e2); omega)); (try replace O5 := O5.we hE (fun i e => by cases e; (try intro e2; cases e2); omega)); (try replace O6 := O6.we hE (fun i e => by cases e; (try intro e2; cases e2); omega)); (try replace O7 := O7.we hE (fun i e => by cases e; (try intro e2; cases e2); omega)); (try replace KS := KS.we hE (fun i e => by cases e; (try intro e2; cases e2); omega)))
    clear O5
    have O5 := O5'
    replace hb := hb.then hE (fun i e => by cases e; exact .inl z5)
    refine ⟨B2, ?_⟩
    clear hE
    (refine vt_one 10 (by kernel_rfl) (vto_call rfl rfl rfl (Calls.mono (c91 (O2.slR (lo := 0) (fun _ _ => Nat.zero_le _)) (by omega)) ?_)); rintro _ w1 ⟨v6, g6, rfl, O6, hg6, hE⟩; have zz := hE.size; (try replace h1 := h1.up hE); (try replace h2 := h2.up hE); (try replace h3 := h3.up hE); (try replace h4 := h4.up hE); (try replace h5 := h5.up hE); (try replace h6 := h6.up hE); (try replace h7 := h7.up hE); (try replace h8 := h8.up hE); (try replace h9 := h9.up hE); (try replace B1 := B1.up hE); (try replace B2 := B2.up hE); (try replace B3 := B3.up hE); (try replace B4 := B4.up hE); (try replace B5 := B5.up hE); (try replace B6 := B6.up hE); (try replace O1 := O1.up hE); (try replace O2 := O2.up hE); (try replace O3 := O3.up hE); (try replace O4 := O4.up hE); (try replace O5 := O5.up hE); (try replace O6 := O6.up hE); (try replace O7 := O7.up hE); (try replace KS := KS.up hE); refine ⟨_, rfl, B2, ?_⟩)
    obtain ⟨i6, c6, rfl, rfl⟩ := O6.has (by omega)
    have q6 := hg6 i6 rfl
    have z6 : w.heap.size ≤ i6 := by have := hb.size; omega
    have y6 := O6.lt _ rfl
    replace hb := hb.trans (WE.of_ext hE)
    clear hE hg6
    (refine vt_one 12 (by kernel_rfl) (vto_call rfl rfl rfl (Calls.mono (c69 KS (by omega)) ?_)); rintro _ w1 ⟨x6, rfl, hx6, KS, hE⟩; have zz := hE.size; ((try replace h1 := h1.we hE (fun i e => by cases e; omega)); (try replace h2 := h2.we hE (fun i e => by cases e; omega)); (try replace h3 := h3.we hE (fun i e => by cases e; omega)); (try replace h4 := h4.we hE (fun i e => by cases e; omega)); (try replace h5 := h5.we hE (fun i e => by cases e; omega)); (try replace h6 := h6.we hE (fun i e => by cases e; omega)); (try replace h7 := h7.we hE (fun i e => by cases e; omega)); (try replace h8 := h8.we hE (fun i e => by cases e; omega)); (try replace h9 := h9.we hE (fun i e => by cases e; omega)); (try replace B1 := B1.we hE (fun i e => by cases e; omega)); (try replace B2 := B2.we hE (fun i e => by cases e; omega)); (try replace B3 := B3.we hE (fun i e => by cases e; omega)); (try replace B4 := B4.we hE (fun i e => by cases e; omega)); (try replace B5 := B5.we hE (fun i e => by cases e; omega)); (try replace B6 := B6.we hE (fun i e => by cases e; omega)); (try replace O1 := O1.we hE (fun i e => by cases e; (try intro e2; cases e2); omega)); (try replace O2 := O2.we hE (fun i e => by cases e; (try intro e2; cases e2); omega)); (try replace O3 := O3.we hE (fun i e => by cases e; (try intro e2; cases e2); omega)); (try replace O4 := O4.we hE (fun i e => by cases e; (try intro e2; cases e2); omega)); (try replace O5 := O5.we hE (fun i e => by cases e; (try intro e2; cases e2); omega)); (try replace O6 := O6.we hE (fun i e => by cases e; (try intro e2; cases e2); omega)); (try replace O7 := O7.we hE (fun i e => by cases e; (try intro e2; cases e2); omega)); (try replace KS := KS.we hE (fun i e => by cases e; (try intro e2; cases e2); omega))); refine ⟨_, rfl, B2, ?_⟩)
    replace hb := hb.trans hE
    clear hE
    refine vt_one 13 (by kernel_rfl) (vto_buildSlice rfl rfl rfl rfl rfl rfl rfl ?_)
    intro b16 w1 hN B3
    have zz := hN.eq
    have zz := hN.size
    have hE := hN.ext
    (try replace h1 := h1.up hE); (try replace h2 := h2.up hE); (try replace h3 := h3.up hE); (try replace h4 := h4.up hE); (try replace h5 := h5.up hE); (try replace h6 := h6.up hE); (try replace h7 := h7.up hE); (try replace h8 := h8.up hE); (try replace h9 := h9.up hE); (try replace B1 := B1.up hE); (try replace B2 := B2.up hE); (try replace B3 := B3.up hE); (try replace B4 := B4.up hE); (try replace B5 := B5.up hE); (try replace B6 := B6.up hE); (try replace O1 := O1.up hE); (try replace O2 := O2.up hE); (try replace O3 := O3.up hE); (try replace O4 := O4.up hE); (try replace O5 := O5.up hE); (try replace O6 := O6.up hE); (try replace O7 := O7.up hE); (try replace KS := KS.up hE)
    replace hb := hb.trans (WE.of_ext hE)
    refine ⟨B2, ?_⟩
    dsimp at B3
    clear hE hN
    refine vt_one 14 (by kernel_rfl) (vto_appendI rfl rfl rfl rfl rfl O6 B3 ⟨by omega, by omega⟩ (by omega) (by omega) ?_)
    intro v6 w1 i6' O6' hE hi6
    have zz := hE.size
    have e6 : w.heap.size ≤ i6' ∧ i1 < i6' ∧ i2 < i6' ∧ i3 < i6' ∧ i4 < i6' ∧ b1 < i6' ∧ b2 < i6' ∧ i5' < i6' := by
      rcases hi6 with h' | h'
      · cases h'; omega
      · omega
    have f6 := O6'.lt _ rfl
    clear B3
    ((try replace h1 := h1.we hE (fun i e => by cases e; omega)); (try replace h2 := h2.we hE (fun i e => by cases e; omega)); (try replace h3 := h3.we hE (fun i e => by cases e; omega)); (try replace h4 := h4.we hE (fun i e => by cases e; omega)); (try replace h5 := h5.we hE (fun i e => by cases e; omega)); (try replace h6 := h6.we hE (fun i e => by cases e; omega)); (try replace h7 := h7.we hE (fun i e => by cases e; omega)); (try replace h8 := h8.we hE (fun i e => by cases e; omega)); (try replace h9 := h9.we hE (fun i e => by cases e; omega)); (try replace B1 := B1.we hE (fun i e => by cases e; omega)); (try replace B2 := B2.we hE (fun i e => by cases e; omega)); (try replace B3 := B3.we hE (fun i e => by cases e; omega)); (try replace B4 := B4.we hE (fun i e => by cases e; omega)); (try replace B5 := B5.we hE (fun i e => by cases e; omega)); (try replace B6 := B6.we hE (fun i e => by cases e; omega)); (try replace O1 := O1.we hE (fun i e => by cases e; (try intro e2; cases e2); omega)); (try replace O2 := O2.we hE (fun i e => by cases e; (try intro e2; cases e2); omega)); (try replace O3 := O3.we hE (fun i e => by cases e; (try intro e2; cases e2); omega)); (try replace O4 := O4.we hE (fun i e => by cases e; (try intro e2; cases e2); omega)); (try replace O5 := O5.we hE (fun i e => by cases e; (try intro e2; cases e2); omega)); (try replace O6 := O6.we hE (fun i e => by cases e; (try intro e2; cases e2); omega)); (try replace O7 := O7.we hE (fun i e => by cases e; (try intro e2; cases e2); omega)); (try replace KS := KS.we hE (fun i e => by cases e; (try intro e2; cases e2); omega)))
    clear O6
    have O6 := O6'
    replace hb := hb.then hE (fun i e => by cases e; exact .inl z6)
    refine ⟨B2, ?_⟩
    clear hE
    (refine vt_one 17 (by kernel_rfl) (vto_call rfl rfl rfl (Calls.mono (c91 (O3.slR (lo := 0) (fun _ _ => Nat.zero_le _)) (by omega)) ?_)); rintro _ w1 ⟨v7, g7, rfl, O7, hg7, hE⟩; have zz := hE.size; (try replace h1 := h1.up hE); (try replace h2 := h2.up hE); (try replace h3 := h3.up hE); (try replace h4 := h4.up hE); (try replace h5 := h5.up hE); (try replace h6 := h6.up hE); (try replace h7 := h7.up hE); (try replace h8 := h8.up hE); (try replace h9 := h9.up hE); (try replace B1 := B1.up hE); (try replace B2 := B2.up hE); (try replace B3 := B3.up hE); (try replace B4 := B4.up hE); (try replace B5 := B5.up hE); (try replace B6 := B6.up hE); (try replace O1 := O1.up hE); (try replace O2 := O2.up hE); (try replace O3 := O3.up hE); (try replace O4 := O4.up hE); (try replace O5 := O5.up hE); (try replace O6 := O6.up hE); (try replace O7 := O7.up hE); (try replace KS := KS.up hE); refine ⟨_, rfl, B2, ?_⟩)
    obtain ⟨i7, c7, rfl, rfl⟩ := O7.has (by omega)
    have q7 := hg7 i7 rfl
    have z7 : w.heap.size ≤ i7 := by have := hb.size; omega
    have y7 := O7.lt _ rfl
    replace hb := hb.trans (WE.of_ext hE)
    clear hE hg7
    (refine vt_one 19 (by kernel_rfl) (vto_call rfl rfl rfl (Calls.mono (c69 KS (by omega)) ?_)); rintro _ w1 ⟨x7, rfl, hx7, KS, hE⟩; have zz := hE.size; ((try replace h1 := h1.we hE (fun i e => by cases e; omega)); (try replace h2 := h2.we hE (fun i e => by cases e; omega)); (try replace h3 := h3.we hE (fun i e => by cases e; omega)); (try replace h4 := h4.we hE (fun i e => by cases e; omega)); (try replace h5 := h5.we hE (fun i e => by cases e; omega)); (try replace h6 := h6.we hE (fun i e => by cases e; omega)); (try replace h7 := h7.we hE (fun i e => by cases e; omega)); (try replace h8 := h8.we hE (fun i e => by cases e; omega)); (try replace h9 := h9.we hE (fun i e => by cases e; omega)); (try replace B1 := B1.we hE (fun i e => by cases e; omega)); (try replace B2 := B2.we hE (fun i e => by cases e; omega)); (try replace B3 := B3.we hE (fun i e => by cases e; omega)); (try replace B4 := B4.we hE (fun i e => by cases e; omega)); (try replace B5 := B5.we hE (fun i e => by cases e; omega)); (try replace B6 := B6.we hE (fun i e => by cases e; omega)); (try replace O1 := O1.we hE (fun i e => by cases e; (try intro e2; cases e2); omega)); (try replace O2 := O2.we hE (fun i e => by cases e; (try intro e2; cases e2); omega)); (try replace O3 := O3.we hE (fun i e => by cases e; (try intro e2; cases e2); omega)); (try replace O4 := O4.we hE (fun i e => by cases e; (try intro e2; cases e2); omega)); (try replace O5 := O5.we hE (fun i e => by cases e; (try intro e2; cases e2); omega)); (try replace O6 := O6.we hE (fun i e => by cases e; (try intro e2; cases e2); omega)); (try replace O7 := O7.we hE (fun i e => by cases e; (try intro e2; cases e2); omega)); (try replace KS := KS.we hE (fun i e => by cases e; (try intro e2; cases e2); omega))); refine ⟨_, rfl, B2, ?_⟩)
    replace hb := hb.trans hE
    clear hE
    refine vt_one 20 (by kernel_rfl) (vto_buildSlice rfl rfl rfl rfl rfl rfl rfl ?_)
    intro b17 w1 hN B3
    have zz := hN.eq
    have zz := hN.size
    have hE := hN.ext
    (try replace h1 := h1.up hE); (try replace h2 := h2.up hE); (try replace h3 := h3.up hE); (try replace h4 := h4.up hE); (try replace h5 := h5.up hE); (try replace h6 := h6.up hE); (try replace h7 := h7.up hE); (try replace h8 := h8.up hE); (try replace h9 := h9.up hE); (try replace B1 := B1.up hE); (try replace B2 := B2.up hE); (try replace B3 := B3.up hE); (try replace B4 := B4.up hE); (try replace B5 := B5.up hE); (try replace B6 := B6.up hE); (try replace O1 := O1.up hE); (try replace O2 := O2.up hE); (try replace O3 := O3.up hE); (try replace O4 := O4.up hE); (try replace O5 := O5.up hE); (try replace O6 := O6.up hE); (try replace O7 := O7.up hE); (try replace KS := KS.up hE)
    replace hb := hb.trans (WE.of_ext hE)
    refine ⟨B2, ?_⟩
    dsimp at B3
    clear hE hN
    refine vt_one 21 (by kernel_rfl) (vto_appendI rfl rfl rfl rfl rfl O7 B3 ⟨by omega, by omega⟩ (by omega) (by omega) ?_)
    intro v7 w1 i7' O7' hE hi7
    have zz := hE.size
    have e7 : w.heap.size ≤ i7' ∧ i1 < i7' ∧ i2 < i7' ∧ i3 < i7' ∧ i4 < i7' ∧ b1 < i7' ∧ b2 < i7' ∧ i5' < i7' ∧ i6' < i7' := by
      rcases hi7 with h' | h'
      · cases h'; omega
      · omega
    have f7 := O7'.lt _ rfl
    clear B3
    ((try replace h1 := h1.we hE (fun i e => by cases e; omega)); (try replace h2 := h2.we hE (fun i e => by cases e; omega)); (try replace h3 := h3.we hE (fun i e => by cases e; omega)); (try replace h4 := h4.we hE (fun i e => by cases e; omega)); (try replace h5 := h5.we hE (fun i e => by cases e; omega)); (try replace h6 := h6.we hE (fun i e => by cases e; omega)); (try replace h7 := h7.we hE (fun i e => by cases e; omega)); (try replace h8 := h8.we hE (fun i e => by cases e; omega)); (try replace h9 := h9.we hE (fun i e => by cases e; omega)); (try replace B1 := B1.we hE (fun i e => by cases e; omega)); (try replace B2 := B2.we hE (fun i e => by cases e; omega)); (try replace B3 := B3.we hE (fun i e => by cases e; omega)); (try replace B4 := B4.we hE (fun i e => by cases e; omega)); (try replace B5 := B5.we hE (fun i e => by cases e; omega)); (try replace B6 := B6.we hE (fun i e => by cases e; omega)); (try replace O1 := O1.we hE (fun i e => by cases e; (try intro e2; cases e2); omega)); (try replace O2 := O2.we hE (fun i e => by cases e; (try intro e2; cases e2); omega)); (try replace O3 := O3.we hE (fun i e => by cases e; (try intro e2; cases e2); omega)); (try replace O4 := O4.we hE (fun i e => by cases e; (try intro e2; cases e2); omega)); (try replace O5 := O5.we hE (fun i e => by cases e; (try intro e2; cases e2); omega)); (try replace O6 := O6.we hE (fun i e => by cases e; (try intro e2; cases e2); omega)); (try replace O7 := O7.we hE (fun i e => by cases e; (try intro e2; cases e2); omega)); (try replace KS := KS.we hE (fun i e => by cases e; (try intro e2; cases e2); omega)))
    clear O7
    have O7 := O7'
    replace hb := hb.then hE (fun i e => by cases e; exact .inl z7)
    refine ⟨B2, ?_⟩
    clear hE
    obtain ⟨j, rfl⟩ : ∃ j', j = j' + 1 := ⟨j - 1, by omega⟩
    obtain ⟨p5, c5', rfl⟩ := O5.len
    obtain ⟨p6, c6', rfl⟩ := O6.len
    obtain ⟨p7, c7', rfl⟩ := O7.len
    refine vt_one 24 (by kernel_rfl) (vto_val rfl (runs_build rfl rfl) rfl B2 ?_)
    refine vt_one 25 (by kernel_rfl) (vto_store rfl rfl rfl B2 rfl rfl rfl (by simp) ?_)
    intro w1 hW hB
    dsimp at hB
    refine ⟨fun h => (h rfl).elim, ?_⟩
    clear B2
    replace O4 := O4.wr hW (by intro e2; cases e2; omega)
    replace O5 := O5.wr hW (by intro e2; cases e2; omega)
    replace O6 := O6.wr hW (by intro e2; cases e2; omega)
    replace O7 := O7.wr hW (by intro e2; cases e2; omega)
    replace B1 := B1.wr hW (by omega)
    replace KS := KS.wr hW (by omega)
    replace hb := hb.thenWr hW (by omega)
    refine vt_done (by kernel_rfl) ?_
    (repeat (first | refine vo_pure rfl rfl ?_ | refine vs_region ?_ | refine vo_nil ?_ | refine fin_seq ?_ | refine fin_blk ?_ | refine vo_val _ (runs_sub rfl rfl (by omega)) rfl ?_))
    refine fin_loop j ⟨_, _, _, _, m + 1, hB, ⟨i5', i6', i7', i4, _, _, _, _, O5, O6, O7, O4, ⟨by simp; omega, by simp; omega, by simp; omega, hl.2.2.2⟩, ⟨by omega, by omega, by omega, by omega⟩, ⟨by omega, by omega, by omega, by omega, by omega, by omega⟩⟩, by omega, by omega, KS, B1, hb⟩ (by omega) (sub_cons (congrArg (fun t => some (Value.int .i64 t)) (by omega)) (by ((repeat (refine sub_cons rfl ?_)); exact sub_nil)))
  have hj0 : j = 0 := by simp at hc; omega
  subst hj0
  (repeat (first | refine vo_pure rfl rfl ?_ | refine vs_seq ?_ | refine vs_region ?_ | refine vo_nil ?_ | refine fin_seq ?_ | refine vs_block ?_ | refine vs_exit ?_ | refine fin_seq_exit ?_ | refine fin_loop_exit ?_ | refine fin_blk_exit rfl ?_))
  refine vs_loop (fun k : Nat => (8, .int .i64 (k : Int)) :: (5, .pointer (some ⟨b2, 0, none⟩)) :: (4, .pointer (some ⟨b1, 0, none⟩)) :: (0, .pointer (some ⟨b, 0, none⟩)) :: [])
    (fun k w' => k ≤ n ∧ ∃ s : List Int, s.length = n ∧ Blk w' b2 [.slice p1 p.length k1, .slice p2 r.length k2, .slice p3 c.length k3, .slice p4 s.length k4] 46 ∧ OwnI w' 2 (some i1) (.slice p1 p.length k1) p ∧ OwnI w' 2 (some i2) (.slice p2 r.length k2) r ∧ OwnI w' 2 (some i3) (.slice p3 c.length k3) c ∧ OwnI w' 2 (some i4) (.slice p4 s.length k4) s ∧ Src B w' b ∧ Blk w' b1 [.slice none 0 0, .slice none 0 0, .slice none 0 0, .slice none 0 0] 46 ∧ WE (some b) w w')
    (fun k => n - k) 0 ⟨Nat.zero_le _, s, hl.2.2.2, B2, O1, O2, O3, O4, KS, B1, hb⟩ (by ((repeat (refine sub_cons rfl ?_)); exact sub_nil)) ?_
  obtain ⟨hl1, hl2, hl3, hl4⟩ := hl
  clear B1 B2 O1 O2 O3 O4 KS hb
  rintro k w6 ⟨hk, s, hs, B2, O1, O2, O3, O4, KS, B1, hb⟩
  clear hl4
  (repeat (first | refine vo_pure rfl rfl ?_ | refine vs_seq ?_ | refine vs_region ?_ | refine vo_nil ?_ | refine fin_seq ?_ | refine vo_fieldAddr rfl rfl ?_ | refine vo_loadB rfl (by assumption) rfl rfl ?_ | refine vo_val _ (runs_lenL rfl) rfl ?_))
  refine vs_cond rfl (fun hc => ?_) (fun hc => ?_)
  · have hlt : k < s.length := by simpa using hc
    obtain ⟨i4', n4, e4, e4'⟩ := O4.has (by omega)
    cases e4
    cases e4'
    (repeat (first | refine vs_seq ?_ | refine fin_seq ?_ | refine vs_skip ?_ | refine vs_block ?_))
    refine vs_drawnT (fun w' => Blk w' b2 [.slice p1 p.length k1, .slice p2 r.length k2, .slice p3 c.length k3, .slice (some ⟨i4, 0, none⟩) s.length k4] 46) 9 ?_
    intro w1 hE _
    have zz := hE.size
    (try replace h1 := h1.up hE); (try replace h2 := h2.up hE); (try replace h3 := h3.up hE); (try replace h4 := h4.up hE); (try replace h5 := h5.up hE); (try replace h6 := h6.up hE); (try replace h7 := h7.up hE); (try replace h8 := h8.up hE); (try replace h9 := h9.up hE); (try replace B1 := B1.up hE); (try replace B2 := B2.up hE); (try replace B3 := B3.up hE); (try replace B4 := B4.up hE); (try replace B5 := B5.up hE); (try replace B6 := B6.up hE); (try replace O1 := O1.up hE); (try replace O2 := O2.up hE); (try replace O3 := O3.up hE); (try replace O4 := O4.up hE); (try replace O5 := O5.up hE); (try replace O6 := O6.up hE); (try replace O7 := O7.up hE); (try replace KS := KS.up hE)
    replace hb := hb.trans (WE.of_ext hE)
    have hS := B2
    refine vt_take 0 rfl (fun _ hX => runs_fieldAddr rfl) rfl (by kernel_rfl) (by kernel_rfl) (by kernel_rfl) (by kernel_rfl) hS ?_
    refine vt_take 1 rfl (fun _ hX => runs_load rfl (hX.at 3 _ rfl)) rfl (by kernel_rfl) (by kernel_rfl) (by kernel_rfl) (by kernel_rfl) hS ?_
    refine vt_take 2 rfl (fun _ hX => runs_pure rfl) rfl (by kernel_rfl) (by kernel_rfl) (by kernel_rfl) (by kernel_rfl) hS ?_
    refine vt_take 3 rfl (fun _ hX => runs_pure rfl) rfl (by kernel_rfl) (by kernel_rfl) (by kernel_rfl) (by kernel_rfl) hS ?_
    refine vt_take 4 rfl (fun _ hX => runs_fieldAddr rfl) rfl (by kernel_rfl) (by kernel_rfl) (by kernel_rfl) (by kernel_rfl) hS ?_
    refine vt_take 5 rfl (fun _ hX => runs_load rfl (hX.at 0 _ rfl)) rfl (by kernel_rfl) (by kernel_rfl) (by kernel_rfl) (by kernel_rfl) hS ?_
    refine vt_take 6 rfl (fun _ hX => runs_lenL rfl) rfl (by kernel_rfl) (by kernel_rfl) (by kernel_rfl) (by kernel_rfl) hS ?_
    clear hS
    (refine vt_one 7 (by kernel_rfl) (vto_call rfl rfl rfl (Calls.mono (c69 KS (by omega)) ?_)); rintro _ w1 ⟨x5, rfl, hx5, KS, hE⟩; have zz := hE.size; ((try replace h1 := h1.we hE (fun i e => by cases e; omega)); (try replace h2 := h2.we hE (fun i e => by cases e; omega)); (try replace h3 := h3.we hE (fun i e => by cases e; omega)); (try replace h4 := h4.we hE (fun i e => by cases e; omega)); (try replace h5 := h5.we hE (fun i e => by cases e; omega)); (try replace h6 := h6.we hE (fun i e => by cases e; omega)); (try replace h7 := h7.we hE (fun i e => by cases e; omega)); (try replace h8 := h8.we hE (fun i e => by cases e; omega)); (try replace h9 := h9.we hE (fun i e => by cases e; omega)); (try replace B1 := B1.we hE (fun i e => by cases e; omega)); (try replace B2 := B2.we hE (fun i e => by cases e; omega)); (try replace B3 := B3.we hE (fun i e => by cases e; omega)); (try replace B4 := B4.we hE (fun i e => by cases e; omega)); (try replace B5 := B5.we hE (fun i e => by cases e; omega)); (try replace B6 := B6.we hE (fun i e => by cases e; omega)); (try replace O1 := O1.we hE (fun i e => by cases e; (try intro e2; cases e2); omega)); (try replace O2 := O2.we hE (fun i e => by cases e; (try intro e2; cases e2); omega)); (try replace O3 := O3.we hE (fun i e => by cases e; (try intro e2; cases e2); omega)); (try replace O4 := O4.we hE (fun i e => by cases e; (try intro e2; cases e2); omega)); (try replace O5 := O5.we hE (fun i e => by cases e; (try intro e2; cases e2); omega)); (try replace O6 := O6.we hE (fun i e => by cases e; (try intro e2; cases e2); omega)); (try replace O7 := O7.we hE (fun i e => by cases e; (try intro e2; cases e2); omega)); (try replace KS := KS.we hE (fun i e => by cases e; (try intro e2; cases e2); omega))); refine ⟨_, rfl, B2, ?_⟩)
    replace hb := hb.trans hE
    refine vt_one 8 (by kernel_rfl) (vto_val rfl (runs_idx rfl rfl hlt) rfl B2 ?_)
    refine vt_one 9 (by kernel_rfl) (vto_storeI (k := k) rfl rfl (by omega) rfl O4 hlt ⟨by omega, by omega⟩ ?_)
    intro w2 hW hO
    clear O4
    replace O1 := O1.wr hW (by intro e2; cases e2; omega)
    replace O2 := O2.wr hW (by intro e2; cases e2; omega)
    replace O3 := O3.wr hW (by intro e2; cases e2; omega)
    replace B1 := B1.wr hW (by omega)
    replace B2 := B2.wr hW (by omega)
    replace KS := KS.wr hW (by omega)
    replace hb := hb.thenWr hW (by omega)
    refine ⟨fun h => (h rfl).elim, ?_⟩
    refine vt_done (by kernel_rfl) ?_
    (repeat (first | refine vo_pure rfl rfl ?_ | refine vs_region ?_ | refine vo_nil ?_ | refine fin_seq ?_ | refine fin_blk ?_ | refine vo_val _ (runs_add rfl rfl (by omega)) rfl ?_))
    refine fin_loop (k + 1) ⟨by omega, s.set k x5, by simpa using hs, by rw [List.length_set]; exact B2, O1, O2, O3, by rw [List.length_set]; exact hO, KS, B1, hb⟩ (by omega) (by ((repeat (refine sub_cons rfl ?_)); exact sub_nil))
  · (repeat (first | refine vs_seq ?_ | refine vs_region ?_ | refine fin_seq ?_ | refine vs_exit ?_ | refine fin_seq_exit ?_ | refine fin_loop_exit ?_ | refine fin_blk_exit rfl ?_ | refine vo_loadA rfl (by assumption) rfl rfl ?_))
    (refine vo_store rfl rfl B1 rfl rfl rfl rfl ?_; intro w1 hW hN; have zz := hW.size; (first | replace hb := hb.trans (hW.below (by assumption)) | replace hb := hb.trans (WE.of_wr hW) | replace hb := hb.thenWr hW (by omega)); (try replace h1 := h1.wr hW (by omega)); (try replace h2 := h2.wr hW (by omega)); (try replace h3 := h3.wr hW (by omega)); (try replace h4 := h4.wr hW (by omega)); (try replace h5 := h5.wr hW (by omega)); (try replace h6 := h6.wr hW (by omega)); (try replace h7 := h7.wr hW (by omega)); (try replace h8 := h8.wr hW (by omega)); (try replace h9 := h9.wr hW (by omega)); (try replace B2 := B2.wr hW (by omega)); (try replace B3 := B3.wr hW (by omega)); (try replace B4 := B4.wr hW (by omega)); (try replace B5 := B5.wr hW (by omega)); (try replace B6 := B6.wr hW (by omega)); (try replace O1 := O1.wr hW (by intro e2; cases e2; omega)); (try replace O2 := O2.wr hW (by intro e2; cases e2; omega)); (try replace O3 := O3.wr hW (by intro e2; cases e2; omega)); (try replace O4 := O4.wr hW (by intro e2; cases e2; omega)); (try replace O5 := O5.wr hW (by intro e2; cases e2; omega)); (try replace O6 := O6.wr hW (by intro e2; cases e2; omega)); (try replace O7 := O7.wr hW (by intro e2; cases e2; omega)); (try replace KS := KS.wr hW (by omega)); clear B1; have B1 := hN; clear hN hW; (try dsimp at B1))
    (repeat (first | refine vo_nil ?_ | refine fin_seq ?_ | refine vs_ret ?_))
    (first | refine fin_ret1 Tryd.results70 rfl ?_ | refine fin_end1 Tryd.results70 rfl ?_ | refine fin_ret2 Tryd.results70 rfl rfl ?_ | refine fin_retC1 Tryd.results70 rfl (by assumption) rfl rfl ?_ | refine fin_retC Tryd.results70 rfl (by assumption) rfl ?_)
    exact ⟨_, _, _, _, m, rfl, ⟨i1, i2, i3, i4, _, _, _, _, O1, O2, O3, O4, ⟨hl1, hl2, hl3, hs⟩, ⟨by omega, by omega, by omega, by omega⟩, hd⟩, ⟨by omega, by omega⟩, KS, hb⟩
end Go.Proofs.YtahnpokehdlajaaDoor
