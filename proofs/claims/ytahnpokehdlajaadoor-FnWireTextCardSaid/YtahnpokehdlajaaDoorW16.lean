/- Drawn wires. -/
import Derived.Test.YtahnpokehdlajaaDoorW15
import Derived.Test.YtahnpokehdlajaaDoorBase14
namespace Go.Proofs.YtahnpokehdlajaaDoor
open Go Go.Proofs Go.Proofs.Sv Go.RowKit
attribute [local irreducible] VS VO VQ VH VP VPo VT VTo FinS seqQ blkQ loopQ RunsOp RunsU
attribute [local simp] spl reps Value.cells

theorem c91 {lo hi : Nat} {v : Value} {xs : List Int} {w : World} (h1 : SlR lo hi w v xs) (hl : xs.length ≤ 1000000) : Calls Tryd.prog 91 #[v] w fun en w' => ∃ v' g', en = .returned v' ∧ OwnI w' 2 g' v' xs ∧ (∀ k, g' = some k → w.heap.size ≤ k) ∧ Ext w w' := by
  have hb : Below w.heap.size w w := Below.refl _ _
  have hi := h1.ins
  obtain ⟨p, cap, rfl⟩ := h1.len
  refine calls_vs Tryd.func91 Tryd.ntmps91 rfl rfl ?_
  (repeat (first | refine vo_pure rfl rfl ?_ | refine vs_seq ?_ | refine vs_region ?_ | refine vo_nil ?_ | refine fin_seq ?_))
  (refine vo_buildSlice rfl rfl rfl rfl rfl ?_; intro b1 w1 hN B1; have zz := hN.eq; have zz := hN.size; have hE := hN.ext; have g1 : w.heap.size ≤ b1 := (by rw [← hN.eq]; exact hb.size); skip; have zz := hE.size; (first | replace hb := hb.trans (hE.mono hb.size) | replace hb := hb.trans (WE.of_ext hE)); (try replace h1 := h1.up hE); (try replace h2 := h2.up hE); (try replace h3 := h3.up hE); (try replace h4 := h4.up hE); (try replace h5 := h5.up hE); (try replace h6 := h6.up hE); (try replace h7 := h7.up hE); (try replace h8 := h8.up hE); (try replace h9 := h9.up hE); (try replace B2 := B2.up hE); (try replace B3 := B3.up hE); (try replace B4 := B4.up hE); (try replace B5 := B5.up hE); (try replace B6 := B6.up hE); (try clear hN hE); (try dsimp at B1))
  (repeat (first | refine vo_pure rfl rfl ?_))
  obtain ⟨p2, cap2, b2, o2, hv, hp, hA⟩ := h1.src
  cases hv
  refine vo_append rfl rfl rfl rfl rfl Own.nil hp (by simp) hA (ones_ints xs) (by omega) (by omega) ?_
  intro v' w2 g' hO hW hg
  rw [Nat.zero_add, List.nil_append] at hO
  have hE := hW.ext
  (repeat (first | refine vo_pure rfl rfl ?_ | refine vo_nil ?_ | refine fin_seq ?_ | refine vs_ret ?_))
  (first | refine fin_ret1 Tryd.results91 rfl ?_ | refine fin_end1 Tryd.results91 rfl ?_ | refine fin_ret2 Tryd.results91 rfl rfl ?_ | refine fin_retC1 Tryd.results91 rfl (by assumption) rfl rfl ?_ | refine fin_retC Tryd.results91 rfl (by assumption) rfl ?_)
  refine ⟨_, g', rfl, ⟨hO, hi⟩, fun k hk => ?_, hb.trans (hE.mono hb.size)⟩
  have := hb.size
  rcases hg with rfl | rfl <;> cases hk
  exact this
theorem c90 {n x : Int} {w : World} (hn : 0 ≤ n ∧ n ≤ 1000000) (hx : InI x) : Calls Tryd.prog 90 #[.int .i64 n, .int .i64 x] w fun en w' => ∃ v1 v2 v3 v4 g1 g2 g3 g4, en = .returned (.agg #[v1, v2, v3, v4]) ∧ OwnI w' 2 (some g1) v1 [-1] ∧ OwnI w' 2 (some g2) v2 [0] ∧ OwnI w' 2 (some g3) v3 [x] ∧ OwnI w' 2 (some g4) v4 (List.replicate n.toNat 0) ∧ (w.heap.size ≤ g1 ∧ g1 < g2 ∧ g2 < g3 ∧ g3 < g4) ∧ Ext w w' := by
  have hb : Below w.heap.size w w := Below.refl _ _
  obtain ⟨m, rfl⟩ := Int.eq_ofNat_of_zero_le hn.1
  refine calls_vs Tryd.func90 Tryd.ntmps90 rfl rfl ?_
  (repeat (first | refine vs_seq ?_ | refine vs_region ?_))
  (refine vo_alloc rfl rfl ?_; intro b1 w1 hN B1; have zz := hN.eq; have zz := hN.size; have hE := hN.ext; have g1 : w.heap.size ≤ b1 := (by rw [← hN.eq]; exact hb.size); skip; have zz := hE.size; (first | replace hb := hb.trans (hE.mono hb.size) | replace hb := hb.trans (WE.of_ext hE)); (try replace h1 := h1.up hE); (try replace h2 := h2.up hE); (try replace h3 := h3.up hE); (try replace h4 := h4.up hE); (try replace h5 := h5.up hE); (try replace h6 := h6.up hE); (try replace h7 := h7.up hE); (try replace h8 := h8.up hE); (try replace h9 := h9.up hE); (try replace B2 := B2.up hE); (try replace B3 := B3.up hE); (try replace B4 := B4.up hE); (try replace B5 := B5.up hE); (try replace B6 := B6.up hE); (try clear hN hE); (try dsimp at B1))
  (repeat (first | refine vs_seq ?_ | refine vs_region ?_ | refine vo_nil ?_ | refine fin_seq ?_))
  (refine vo_buildSlice rfl rfl rfl rfl rfl ?_; intro b2 w1 hN B2; have zz := hN.eq; have zz := hN.size; have hE := hN.ext; have g2 : w.heap.size ≤ b2 := (by rw [← hN.eq]; exact hb.size); (try have l1_2 : b1 < b2 := (by rw [← hN.eq]; exact B1.lt)); have zz := hE.size; (first | replace hb := hb.trans (hE.mono hb.size) | replace hb := hb.trans (WE.of_ext hE)); (try replace h1 := h1.up hE); (try replace h2 := h2.up hE); (try replace h3 := h3.up hE); (try replace h4 := h4.up hE); (try replace h5 := h5.up hE); (try replace h6 := h6.up hE); (try replace h7 := h7.up hE); (try replace h8 := h8.up hE); (try replace h9 := h9.up hE); (try replace B1 := B1.up hE); (try replace B3 := B3.up hE); (try replace B4 := B4.up hE); (try replace B5 := B5.up hE); (try replace B6 := B6.up hE); (try clear hN hE); (try dsimp at B2))
  skip
  (refine vo_buildSlice rfl rfl rfl rfl rfl ?_; intro b3 w1 hN B3; have zz := hN.eq; have zz := hN.size; have hE := hN.ext; have g3 : w.heap.size ≤ b3 := (by rw [← hN.eq]; exact hb.size); (try have l1_3 : b1 < b3 := (by rw [← hN.eq]; exact B1.lt)); (try have l2_3 : b2 < b3 := (by rw [← hN.eq]; exact B2.lt)); have zz := hE.size; (first | replace hb := hb.trans (hE.mono hb.size) | replace hb := hb.trans (WE.of_ext hE)); (try replace h1 := h1.up hE); (try replace h2 := h2.up hE); (try replace h3 := h3.up hE); (try replace h4 := h4.up hE); (try replace h5 := h5.up hE); (try replace h6 := h6.up hE); (try replace h7 := h7.up hE); (try replace h8 := h8.up hE); (try replace h9 := h9.up hE); (try replace B1 := B1.up hE); (try replace B2 := B2.up hE); (try replace B4 := B4.up hE); (try replace B5 := B5.up hE); (try replace B6 := B6.up hE); (try clear hN hE); (try dsimp at B3))
  (repeat (first | refine vo_pure rfl rfl ?_))
  (refine vo_buildSlice rfl rfl rfl rfl rfl ?_; intro b4 w1 hN B4; have zz := hN.eq; have zz := hN.size; have hE := hN.ext; have g4 : w.heap.size ≤ b4 := (by rw [← hN.eq]; exact hb.size); (try have l1_4 : b1 < b4 := (by rw [← hN.eq]; exact B1.lt)); (try have l2_4 : b2 < b4 := (by rw [← hN.eq]; exact B2.lt)); (try have l3_4 : b3 < b4 := (by rw [← hN.eq]; exact B3.lt)); have zz := hE.size; (first | replace hb := hb.trans (hE.mono hb.size) | replace hb := hb.trans (WE.of_ext hE)); (try replace h1 := h1.up hE); (try replace h2 := h2.up hE); (try replace h3 := h3.up hE); (try replace h4 := h4.up hE); (try replace h5 := h5.up hE); (try replace h6 := h6.up hE); (try replace h7 := h7.up hE); (try replace h8 := h8.up hE); (try replace h9 := h9.up hE); (try replace B1 := B1.up hE); (try replace B2 := B2.up hE); (try replace B3 := B3.up hE); (try replace B5 := B5.up hE); (try replace B6 := B6.up hE); (try clear hN hE); (try dsimp at B4))
  (repeat (first | refine vo_pure rfl rfl ?_))
  (refine vo_make rfl rfl rfl rfl rfl (by omega) (by omega) rfl ?_; intro b5 w1 hN B5; have zz := hN.eq; have zz := hN.size; have hE := hN.ext; have g5 : w.heap.size ≤ b5 := (by rw [← hN.eq]; exact hb.size); (try replace h1 := h1.up hE); (try replace h2 := h2.up hE); (try replace h3 := h3.up hE); (try replace h4 := h4.up hE); (try replace h5 := h5.up hE); (try replace h6 := h6.up hE); (try replace h7 := h7.up hE); (try replace h8 := h8.up hE); (try replace h9 := h9.up hE); (try replace B1 := B1.up hE); (try replace B2 := B2.up hE); (try replace B3 := B3.up hE); (try replace B4 := B4.up hE); (try replace B6 := B6.up hE); have zz := hE.size; (first | replace hb := hb.trans (hE.mono hb.size) | replace hb := hb.trans (WE.of_ext hE)); (try clear hE))
  (repeat (first | refine vo_build rfl rfl rfl ?_))
  (refine vo_store rfl rfl B1 rfl rfl rfl rfl ?_; intro w1 hW hN; have zz := hW.size; (first | replace hb := hb.trans (hW.below (by assumption)) | replace hb := hb.trans (WE.of_wr hW) | replace hb := hb.thenWr hW (by omega)); (try replace h1 := h1.wr hW (by omega)); (try replace h2 := h2.wr hW (by omega)); (try replace h3 := h3.wr hW (by omega)); (try replace h4 := h4.wr hW (by omega)); (try replace h5 := h5.wr hW (by omega)); (try replace h6 := h6.wr hW (by omega)); (try replace h7 := h7.wr hW (by omega)); (try replace h8 := h8.wr hW (by omega)); (try replace h9 := h9.wr hW (by omega)); (try replace B2 := B2.wr hW (by omega)); (try replace B3 := B3.wr hW (by omega)); (try replace B4 := B4.wr hW (by omega)); (try replace B5 := B5.wr hW (by omega)); (try replace B6 := B6.wr hW (by omega)); clear B1; have B1 := hN; clear hN hW; (try dsimp at B1))
  (repeat (first | refine vo_nil ?_ | refine fin_seq ?_ | refine vs_ret ?_))
  (first | refine fin_ret1 Tryd.results90 rfl ?_ | refine fin_end1 Tryd.results90 rfl ?_ | refine fin_ret2 Tryd.results90 rfl rfl ?_ | refine fin_retC1 Tryd.results90 rfl (by assumption) rfl rfl ?_ | refine fin_retC Tryd.results90 rfl (by assumption) rfl ?_)
  have B5' : Blk w1 b5 ((List.replicate m (0 : Int)).map (Value.int .i64)) 2 := by rw [List.map_replicate, ← reps_one]; exact B5
  have h5 := OwnI.of_blk B5' (fun y hy => by rw [List.eq_of_mem_replicate hy]; exact ⟨by decide, by decide⟩) (by simp; omega)
  rw [List.length_replicate] at h5
  exact ⟨_, _, _, _, b2, b3, b4, b5, rfl, OwnI.of_blk (xs := [-1]) B2 (by simp [InI]) (by simp), OwnI.of_blk (xs := [0]) B3 (by simp [InI]) (by simp), OwnI.of_blk (xs := [x]) B4 (by simpa using hx) (by simp), h5, ⟨g2, by omega, by omega, by omega⟩, hb⟩
end Go.Proofs.YtahnpokehdlajaaDoor
