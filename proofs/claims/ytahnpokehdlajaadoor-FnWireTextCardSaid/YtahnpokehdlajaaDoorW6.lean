/- Tables: sizes, copies, equality. -/
import Derived.Test.YtahnpokehdlajaaDoorM2
import Derived.Test.YtahnpokehdlajaaDoorW1
import Derived.Test.YtahnpokehdlajaaDoorOpens
namespace Go.Proofs.YtahnpokehdlajaaDoor
open Go Go.Proofs Go.Proofs.Sv Go.RowKit
attribute [local irreducible] VS VO VQ FinS seqQ blkQ loopQ RunsOp RunsU
attribute [local simp] spl reps Value.cells

theorem c51 {lo hi : Nat} {v : Value} {xs : List Int} {w : World} (h1 : SlR lo hi w v xs) : Calls Tryd.prog 51 #[v] w fun en w' => en = .returned (.int .i64 (xs.length : Int)) ∧ w = w' := by
  obtain ⟨p, cap, rfl⟩ := h1.len
  refine calls_vs Tryd.func51 Tryd.ntmps51 rfl rfl ?_
  (repeat (first | refine vo_pure rfl rfl ?_ | refine vs_seq ?_ | refine vs_region ?_ | refine vo_nil ?_ | refine fin_seq ?_ | refine vs_ret ?_ | refine vo_val _ (runs_lenL rfl) rfl ?_))
  (first | refine fin_ret1 Tryd.results51 rfl ?_ | refine fin_end1 Tryd.results51 rfl ?_ | refine fin_ret2 Tryd.results51 rfl rfl ?_ | refine fin_retC1 Tryd.results51 rfl (by assumption) rfl rfl ?_ | refine fin_retC Tryd.results51 rfl (by assumption) rfl ?_)
  exact ⟨rfl, rfl⟩
theorem c42 {lo hi : Nat} {v : Value} {xs : List Int} {l : Int} {w : World} (h1 : SlR lo hi w v xs) (hl : 0 ≤ l ∧ l ≤ 1048576) : Calls Tryd.prog 42 #[v, .int .i64 l] w fun en w' => ∃ r : Int, en = .returned (.int .i64 r) ∧ ((r < 0 ∧ -1 ≤ r) ∨ (0 ≤ r ∧ r = l - xs.length)) ∧ w = w' := by
  have hle := h1.le
  obtain ⟨p, cap, rfl⟩ := h1.len
  refine calls_vs Tryd.func42 Tryd.ntmps42 rfl rfl ?_
  (repeat (first | refine vo_pure rfl rfl ?_ | refine vs_seq ?_ | refine vs_region ?_ | refine vo_nil ?_ | refine fin_seq ?_ | refine vo_val _ (runs_lenL rfl) rfl ?_ | refine vo_val _ (runs_sub rfl rfl (by omega)) rfl ?_))
  refine vs_cond rfl (fun hc => ?_) (fun hc => ?_)
  · (repeat (first | refine vo_pure rfl rfl ?_ | refine vs_seq ?_ | refine vs_region ?_ | refine vo_nil ?_ | refine fin_seq ?_ | refine vs_ret ?_ | refine fin_seq_ret ?_))
    (first | refine fin_ret1 Tryd.results42 rfl ?_ | refine fin_end1 Tryd.results42 rfl ?_ | refine fin_ret2 Tryd.results42 rfl rfl ?_ | refine fin_retC1 Tryd.results42 rfl (by assumption) rfl rfl ?_ | refine fin_retC Tryd.results42 rfl (by assumption) rfl ?_)
    exact ⟨_, rfl, .inl (by omega), rfl⟩
  · (repeat (first | refine vo_pure rfl rfl ?_ | refine vs_seq ?_ | refine vs_region ?_ | refine vo_nil ?_ | refine fin_seq ?_ | refine vs_skip ?_ | refine vs_ret ?_))
    (first | refine fin_ret1 Tryd.results42 rfl ?_ | refine fin_end1 Tryd.results42 rfl ?_ | refine fin_ret2 Tryd.results42 rfl rfl ?_ | refine fin_retC1 Tryd.results42 rfl (by assumption) rfl rfl ?_ | refine fin_retC Tryd.results42 rfl (by assumption) rfl ?_)
    exact ⟨_, rfl, .inr (by simp at hc; omega), rfl⟩
theorem c44 {lo hi : Nat} {v : Value} {xs : List Int} {w : World} (k1 : SlR lo hi w v xs) (hx : xs.length ≤ 1048576) : Calls Tryd.prog 44 #[v] w fun en w' => ∃ v', en = .returned v' ∧ SlR w.heap.size w'.heap.size w' v' xs ∧ Ext w w' := by
  have hb : Below w.heap.size w w := Below.refl _ _
  obtain ⟨p, cap, rfl⟩ := k1.len
  refine calls_vs Tryd.func44 Tryd.ntmps44 rfl rfl ?_
  (repeat (first | refine vo_pure rfl rfl ?_ | refine vs_seq ?_ | refine vs_region ?_ | refine vo_nil ?_ | refine fin_seq ?_ | refine vo_val _ (runs_lenL rfl) rfl ?_))
  (refine vo_make rfl rfl rfl rfl rfl (by omega) (by omega) rfl ?_; intro b1 w1 hN B1; have zz := hN.eq; have zz := hN.size; have hE := hN.ext; have g1 : w.heap.size ≤ b1 := (by rw [← hN.eq]; exact hb.size); (try replace h1 := h1.up hE); (try replace h2 := h2.up hE); (try replace h3 := h3.up hE); (try replace h4 := h4.up hE); (try replace h5 := h5.up hE); (try replace h6 := h6.up hE); (try replace h7 := h7.up hE); (try replace h8 := h8.up hE); (try replace h9 := h9.up hE); (try replace B2 := B2.up hE); (try replace B3 := B3.up hE); (try replace B4 := B4.up hE); (try replace B5 := B5.up hE); (try replace B6 := B6.up hE); have zz := hE.size; (first | replace hb := hb.trans (hE.mono hb.size) | replace hb := hb.trans (WE.of_ext hE)); (try clear hE))
  (repeat (first | refine vo_pure rfl rfl ?_ | refine vs_seq ?_ | refine vs_region ?_ | refine vo_nil ?_ | refine fin_seq ?_ | refine vs_block ?_))
  refine vs_loop (fun k : Nat => (4, .int .i64 (k : Int)) :: (3, .slice (some ⟨b1, 0, none⟩) xs.length xs.length) :: (0, .slice p xs.length cap) :: []) (fun k w' => k ≤ xs.length ∧ Below w.heap.size w w' ∧ Blk w' b1 ((xs.take k).map (Value.int .i64) ++ reps (xs.length - k) [.int .i64 0]) 2) (fun k => xs.length - k) 0 ⟨Nat.zero_le _, hb, by simpa using B1⟩ (by ((repeat (refine sub_cons rfl ?_)); exact sub_nil)) ?_
  clear B1 hb
  rintro k w2 ⟨hk, hb, B1⟩
  have h1 := k1.up hb
  (repeat (first | refine vo_pure rfl rfl ?_ | refine vs_seq ?_ | refine vs_region ?_ | refine vo_nil ?_ | refine fin_seq ?_ | refine vo_val _ (runs_lenL rfl) rfl ?_))
  refine vs_cond rfl (fun hc => ?_) (fun hc => ?_)
  · have hlt : k < xs.length := by simpa using hc
    have e1 : xs.length - k = (xs.length - (k + 1)) + 1 := by omega
    rw [e1] at B1
    have B2 : Blk w2 b1 ((xs.take k).map (Value.int .i64) ++ ([.int .i64 0] ++ reps (xs.length - (k + 1)) [.int .i64 0])) 2 := B1
    (repeat (first | refine vo_pure rfl rfl ?_ | refine vs_seq ?_ | refine vs_region ?_ | refine fin_seq ?_ | refine vs_skip ?_ | refine vs_block ?_))
    (first | refine vo_idxI rfl rfl h1 rfl (by exact hlt) ?_ | refine vq_idxI rfl rfl h1 rfl (by exact hlt) ?_)
    intro ad hcell hI
    (repeat (first | refine vo_load rfl (by assumption) rfl ?_))
    refine vo_idxB rfl rfl hlt rfl ?_
    skip
    refine vo_storeAt rfl rfl B2 (by simp; omega) rfl rfl rfl rfl ?_
    intro w3 hW hN
    (repeat (first | refine vo_pure rfl rfl ?_ | refine vs_region ?_ | refine vo_nil ?_ | refine fin_seq ?_ | refine fin_blk ?_ | refine vo_val _ (runs_add rfl rfl (by omega)) rfl ?_))
    refine fin_loop (k + 1) ⟨by omega, hb.trans (hW.below g1), ?_⟩ (by omega) (by ((repeat (refine sub_cons rfl ?_)); exact sub_nil))
    rw [take_map_succ _ xs k hlt, List.append_assoc]
    exact hN
  · have hge : k = xs.length := by simp at hc; omega
    subst hge
    (repeat (first | refine vo_pure rfl rfl ?_ | refine vs_seq ?_ | refine vs_region ?_ | refine vo_nil ?_ | refine fin_seq ?_ | refine vs_ret ?_ | refine vs_exit ?_ | refine fin_seq_exit ?_ | refine fin_loop_exit ?_ | refine fin_blk_exit rfl ?_))
    (first | refine fin_ret1 Tryd.results44 rfl ?_ | refine fin_end1 Tryd.results44 rfl ?_ | refine fin_ret2 Tryd.results44 rfl rfl ?_ | refine fin_retC1 Tryd.results44 rfl (by assumption) rfl rfl ?_ | refine fin_retC Tryd.results44 rfl (by assumption) rfl ?_)
    rw [Nat.sub_self, List.take_length] at B1
    have B2 : Blk w2 b1 (xs.map (Value.int .i64)) 2 := by simpa using B1
    exact ⟨_, rfl, (slI_of_blk B2 k1.ins (by omega)).wide g1 B2.lt, hb⟩
theorem c46 {lo hi lo' hi' : Nat} {v v' : Value} {xs : List Int} {w : World} (k1 : SlR lo hi w v xs) (k2 : SlR lo' hi' w v' xs) : Calls Tryd.prog 46 #[v, v'] w fun en w' => en = .returned (.bool true) ∧ Ext w w' := by
  have hle := k1.le
  obtain ⟨p, cap, rfl⟩ := k1.len
  obtain ⟨p', cap', rfl⟩ := k2.len
  have hb : Below w.heap.size w w := Below.refl _ _
  refine calls_vs Tryd.func46 Tryd.ntmps46 rfl rfl ?_
  (repeat (first | refine vo_pure rfl rfl ?_ | refine vs_seq ?_ | refine vs_region ?_ | refine vo_nil ?_ | refine fin_seq ?_ | refine vo_val _ (runs_lenL rfl) rfl ?_))
  refine vs_cond rfl (fun hc => ?_) (fun hc => ?_)
  · simp at hc
  · (repeat (first | refine vo_pure rfl rfl ?_ | refine vs_seq ?_ | refine vs_region ?_ | refine vo_nil ?_ | refine fin_seq ?_ | refine vs_skip ?_ | refine vs_block ?_))
    refine vs_loop (fun k : Nat => (5, .int .i64 (k : Int)) :: (0, .slice p xs.length cap) :: (1, .slice p' xs.length cap') :: []) (fun k w' => k ≤ xs.length ∧ Below w.heap.size w w') (fun k => xs.length - k) 0 ⟨Nat.zero_le _, hb⟩ (by ((repeat (refine sub_cons rfl ?_)); exact sub_nil)) ?_
    clear hb
    rintro k w2 ⟨hk, hb⟩
    have h1 := k1.up hb
    have h2 := k2.up hb
    (repeat (first | refine vo_pure rfl rfl ?_ | refine vs_seq ?_ | refine vs_region ?_ | refine vo_nil ?_ | refine fin_seq ?_ | refine vo_val _ (runs_lenL rfl) rfl ?_))
    refine vs_cond rfl (fun hc => ?_) (fun hc => ?_)
    · have hlt : k < xs.length := by simpa using hc
      (repeat (first | refine vs_seq ?_ | refine fin_seq ?_ | refine vs_skip ?_ | refine vs_block ?_ | refine vs_drawn (by kernel_rfl) ?_ | refine vq_pure rfl rfl ?_))
      (first | refine vo_idxI rfl rfl h1 rfl (by exact hlt) ?_ | refine vq_idxI rfl rfl h1 rfl (by exact hlt) ?_)
      intro b o hcell hI
      (repeat (first | refine vq_pure rfl rfl ?_ | refine vq_load rfl (by assumption) rfl rfl ?_))
      (first | refine vo_idxI rfl rfl h2 rfl (by exact hlt) ?_ | refine vq_idxI rfl rfl h2 rfl (by exact hlt) ?_)
      intro b' o' hcell' hI'
      (repeat (first | refine vq_pure rfl rfl ?_ | refine vq_load rfl (by assumption) rfl rfl ?_))
      (refine vq_nil ?_; intro w1 hE; (try replace h1 := h1.up hE); (try replace h2 := h2.up hE); (try replace h3 := h3.up hE); (try replace h4 := h4.up hE); (try replace h5 := h5.up hE); (try replace h6 := h6.up hE); (try replace h7 := h7.up hE); (try replace h8 := h8.up hE); (try replace h9 := h9.up hE); (try replace B1 := B1.up hE); (try replace B2 := B2.up hE); (try replace B3 := B3.up hE); (try replace B4 := B4.up hE); (try replace B5 := B5.up hE); (try replace B6 := B6.up hE); have zz := hE.size; (first | replace hb := hb.trans (hE.mono hb.size) | replace hb := hb.trans (WE.of_ext hE)); (try clear hE))
      (repeat (first | refine fin_seq ?_))
      refine vs_cond rfl (fun hc => ?_) (fun hc => ?_)
      · simp at hc
      · (repeat (first | refine vo_pure rfl rfl ?_ | refine vs_region ?_ | refine vo_nil ?_ | refine fin_seq ?_ | refine vs_skip ?_ | refine fin_blk ?_ | refine vo_val _ (runs_add rfl rfl (by omega)) rfl ?_))
        refine fin_loop (k + 1) ⟨by omega, hb⟩ (by omega) (by ((repeat (refine sub_cons rfl ?_)); exact sub_nil))
    · (repeat (first | refine vo_pure rfl rfl ?_ | refine vs_seq ?_ | refine vs_region ?_ | refine vo_nil ?_ | refine fin_seq ?_ | refine vs_ret ?_ | refine vs_exit ?_ | refine fin_seq_exit ?_ | refine fin_loop_exit ?_ | refine fin_blk_exit rfl ?_))
      (first | refine fin_ret1 Tryd.results46 rfl ?_ | refine fin_end1 Tryd.results46 rfl ?_ | refine fin_ret2 Tryd.results46 rfl rfl ?_ | refine fin_retC1 Tryd.results46 rfl (by assumption) rfl rfl ?_ | refine fin_retC Tryd.results46 rfl (by assumption) rfl ?_)
      exact ⟨rfl, hb⟩
theorem c20 {lo hi lo' hi' : Nat} {cs cs' : List Value} {x : TableD} {w : World} (k1 : Rep.rep lo hi w cs x) (k2 : Rep.rep lo' hi' w cs' x) : Calls Tryd.prog 20 #[.agg cs.toArray, .agg cs'.toArray] w fun en w' => en = .returned (.bool true) ∧ Ext w w' := by
  obtain ⟨_, _, _, rfl, ⟨v1, rfl, h1⟩, ⟨v2, rfl, h2⟩, ⟨v3, rfl, h3⟩⟩ := k1
  obtain ⟨_, _, _, rfl, ⟨v4, rfl, h4⟩, ⟨_, rfl, h5⟩, ⟨_, rfl, h6⟩⟩ := k2
  have hb : Below w.heap.size w w := Below.refl _ _
  refine calls_vs Tryd.func20 Tryd.ntmps20 rfl rfl ?_
  (repeat (first | refine vs_seq ?_ | refine vs_region ?_))
  (refine vo_box rfl rfl rfl ?_; intro b1 w1 hN B1; have zz := hN.eq; have zz := hN.size; have hE := hN.ext; have g1 : w.heap.size ≤ b1 := (by rw [← hN.eq]; exact hb.size); skip; have zz := hE.size; (first | replace hb := hb.trans (hE.mono hb.size) | replace hb := hb.trans (WE.of_ext hE)); (try replace h1 := h1.up hE); (try replace h2 := h2.up hE); (try replace h3 := h3.up hE); (try replace h4 := h4.up hE); (try replace h5 := h5.up hE); (try replace h6 := h6.up hE); (try replace h7 := h7.up hE); (try replace h8 := h8.up hE); (try replace h9 := h9.up hE); (try replace B2 := B2.up hE); (try replace B3 := B3.up hE); (try replace B4 := B4.up hE); (try replace B5 := B5.up hE); (try replace B6 := B6.up hE); (try clear hN hE); (try dsimp at B1))
  skip
  (refine vo_box rfl rfl rfl ?_; intro b2 w1 hN B2; have zz := hN.eq; have zz := hN.size; have hE := hN.ext; have g2 : w.heap.size ≤ b2 := (by rw [← hN.eq]; exact hb.size); (try have l1_2 : b1 < b2 := (by rw [← hN.eq]; exact B1.lt)); have zz := hE.size; (first | replace hb := hb.trans (hE.mono hb.size) | replace hb := hb.trans (WE.of_ext hE)); (try replace h1 := h1.up hE); (try replace h2 := h2.up hE); (try replace h3 := h3.up hE); (try replace h4 := h4.up hE); (try replace h5 := h5.up hE); (try replace h6 := h6.up hE); (try replace h7 := h7.up hE); (try replace h8 := h8.up hE); (try replace h9 := h9.up hE); (try replace B1 := B1.up hE); (try replace B3 := B3.up hE); (try replace B4 := B4.up hE); (try replace B5 := B5.up hE); (try replace B6 := B6.up hE); (try clear hN hE); (try dsimp at B2))
  (repeat (first | refine vo_pure rfl rfl ?_ | refine vs_seq ?_ | refine vs_region ?_ | refine vo_nil ?_ | refine fin_seq ?_ | refine vo_fieldAddr rfl rfl ?_ | refine vo_loadB rfl (by assumption) rfl rfl ?_))
  (refine vo_call rfl rfl ?_; refine Calls.mono (c46 h1 h4) ?_; rintro _ w1 ⟨rfl, hE⟩; refine ⟨_, rfl, ?_⟩; have zz := hE.size; (first | replace hb := hb.trans (hE.mono hb.size) | replace hb := hb.trans (WE.of_ext hE)); (try replace h1 := h1.up hE); (try replace h2 := h2.up hE); (try replace h3 := h3.up hE); (try replace h4 := h4.up hE); (try replace h5 := h5.up hE); (try replace h6 := h6.up hE); (try replace h7 := h7.up hE); (try replace h8 := h8.up hE); (try replace h9 := h9.up hE); (try replace B1 := B1.up hE); (try replace B2 := B2.up hE); (try replace B3 := B3.up hE); (try replace B4 := B4.up hE); (try replace B5 := B5.up hE); (try replace B6 := B6.up hE))
  (repeat (first | refine vo_pure rfl rfl ?_ | refine vs_seq ?_ | refine vs_region ?_ | refine vo_nil ?_ | refine fin_seq ?_ | refine vs_skip ?_ | refine vs_cond_false rfl ?_ | refine vo_fieldAddr rfl rfl ?_ | refine vo_loadB rfl (by assumption) rfl rfl ?_))
  (refine vo_call rfl rfl ?_; refine Calls.mono (c46 h2 h5) ?_; rintro _ w1 ⟨rfl, hE⟩; refine ⟨_, rfl, ?_⟩; have zz := hE.size; (first | replace hb := hb.trans (hE.mono hb.size) | replace hb := hb.trans (WE.of_ext hE)); (try replace h1 := h1.up hE); (try replace h2 := h2.up hE); (try replace h3 := h3.up hE); (try replace h4 := h4.up hE); (try replace h5 := h5.up hE); (try replace h6 := h6.up hE); (try replace h7 := h7.up hE); (try replace h8 := h8.up hE); (try replace h9 := h9.up hE); (try replace B1 := B1.up hE); (try replace B2 := B2.up hE); (try replace B3 := B3.up hE); (try replace B4 := B4.up hE); (try replace B5 := B5.up hE); (try replace B6 := B6.up hE))
  (repeat (first | refine vo_pure rfl rfl ?_ | refine vs_seq ?_ | refine vs_region ?_ | refine vo_nil ?_ | refine fin_seq ?_ | refine vs_skip ?_ | refine vs_cond_false rfl ?_ | refine vo_fieldAddr rfl rfl ?_ | refine vo_loadB rfl (by assumption) rfl rfl ?_))
  (refine vo_call rfl rfl ?_; refine Calls.mono (c46 h3 h6) ?_; rintro _ w1 ⟨rfl, hE⟩; refine ⟨_, rfl, ?_⟩; have zz := hE.size; (first | replace hb := hb.trans (hE.mono hb.size) | replace hb := hb.trans (WE.of_ext hE)); (try replace h1 := h1.up hE); (try replace h2 := h2.up hE); (try replace h3 := h3.up hE); (try replace h4 := h4.up hE); (try replace h5 := h5.up hE); (try replace h6 := h6.up hE); (try replace h7 := h7.up hE); (try replace h8 := h8.up hE); (try replace h9 := h9.up hE); (try replace B1 := B1.up hE); (try replace B2 := B2.up hE); (try replace B3 := B3.up hE); (try replace B4 := B4.up hE); (try replace B5 := B5.up hE); (try replace B6 := B6.up hE))
  (repeat (first | refine vo_pure rfl rfl ?_ | refine vs_seq ?_ | refine vs_region ?_ | refine vo_nil ?_ | refine fin_seq ?_ | refine vs_skip ?_ | refine vs_ret ?_ | refine vs_cond_false rfl ?_))
  (first | refine fin_ret1 Tryd.results20 rfl ?_ | refine fin_end1 Tryd.results20 rfl ?_ | refine fin_ret2 Tryd.results20 rfl rfl ?_ | refine fin_retC1 Tryd.results20 rfl (by assumption) rfl rfl ?_ | refine fin_retC Tryd.results20 rfl (by assumption) rfl ?_)
  exact ⟨rfl, hb⟩
theorem c16 {lo hi : Nat} {cs : List Value} {x : TableD} {l : Int} {w : World} (k1 : Rep.rep lo hi w cs x) (hl : 0 ≤ l ∧ l ≤ 1048576) : Calls Tryd.prog 16 #[.agg cs.toArray, .int .i64 l] w fun en w' => ∃ r : Int, en = .returned (.int .i64 r) ∧ ((r < 0 ∧ -1 ≤ r) ∨ (0 ≤ r ∧ r = l - x.slews.length - x.loads.length - x.values.length)) ∧ Ext w w' := by
  obtain ⟨_, _, _, rfl, ⟨v1, rfl, h1⟩, ⟨v2, rfl, h2⟩, ⟨v3, rfl, h3⟩⟩ := k1
  have hb : Below w.heap.size w w := Below.refl _ _
  refine calls_vs Tryd.func16 Tryd.ntmps16 rfl rfl ?_
  (repeat (first | refine vs_seq ?_ | refine vs_region ?_))
  (refine vo_box rfl rfl rfl ?_; intro b1 w1 hN B1; have zz := hN.eq; have zz := hN.size; have hE := hN.ext; have g1 : w.heap.size ≤ b1 := (by rw [← hN.eq]; exact hb.size); skip; have zz := hE.size; (first | replace hb := hb.trans (hE.mono hb.size) | replace hb := hb.trans (WE.of_ext hE)); (try replace h1 := h1.up hE); (try replace h2 := h2.up hE); (try replace h3 := h3.up hE); (try replace h4 := h4.up hE); (try replace h5 := h5.up hE); (try replace h6 := h6.up hE); (try replace h7 := h7.up hE); (try replace h8 := h8.up hE); (try replace h9 := h9.up hE); (try replace B2 := B2.up hE); (try replace B3 := B3.up hE); (try replace B4 := B4.up hE); (try replace B5 := B5.up hE); (try replace B6 := B6.up hE); (try clear hN hE); (try dsimp at B1))
  (repeat (first | refine vo_pure rfl rfl ?_ | refine vs_seq ?_ | refine vs_region ?_ | refine vo_nil ?_ | refine fin_seq ?_ | refine vo_fieldAddr rfl rfl ?_ | refine vo_loadB rfl (by assumption) rfl rfl ?_))
  refine vo_call rfl rfl ?_
  refine Calls.mono (c42 h1 hl) ?_
  rintro _ _ ⟨r1, rfl, q1, rfl⟩
  refine ⟨_, rfl, ?_⟩
  (repeat (first | refine vo_pure rfl rfl ?_ | refine vs_seq ?_ | refine vs_region ?_ | refine vo_nil ?_ | refine fin_seq ?_))
  refine vs_cond rfl (fun hc => ?_) (fun hc => ?_)
  · (repeat (first | refine vo_pure rfl rfl ?_ | refine vs_seq ?_ | refine vs_region ?_ | refine vo_nil ?_ | refine fin_seq ?_ | refine vs_ret ?_ | refine fin_seq_ret ?_))
    (first | refine fin_ret1 Tryd.results16 rfl ?_ | refine fin_end1 Tryd.results16 rfl ?_ | refine fin_ret2 Tryd.results16 rfl rfl ?_ | refine fin_retC1 Tryd.results16 rfl (by assumption) rfl rfl ?_ | refine fin_retC Tryd.results16 rfl (by assumption) rfl ?_)
    exact ⟨_, rfl, .inl (by omega), hb⟩
  have p1 : 0 ≤ r1 := (by simpa using hc)
  (repeat (first | refine vo_pure rfl rfl ?_ | refine vs_seq ?_ | refine vs_region ?_ | refine fin_seq ?_ | refine vs_skip ?_ | refine vo_fieldAddr rfl rfl ?_ | refine vo_loadB rfl (by assumption) rfl rfl ?_))
  refine vo_call rfl rfl ?_
  refine Calls.mono (c42 h2 ⟨p1, by omega⟩) ?_
  rintro _ _ ⟨r2, rfl, q2, rfl⟩
  refine ⟨_, rfl, ?_⟩
  (repeat (first | refine vo_pure rfl rfl ?_ | refine vs_seq ?_ | refine vs_region ?_ | refine vo_nil ?_ | refine fin_seq ?_))
  refine vs_cond rfl (fun hc => ?_) (fun hc => ?_)
  · (repeat (first | refine vo_pure rfl rfl ?_ | refine vs_seq ?_ | refine vs_region ?_ | refine vo_nil ?_ | refine fin_seq ?_ | refine vs_ret ?_ | refine fin_seq_ret ?_))
    (first | refine fin_ret1 Tryd.results16 rfl ?_ | refine fin_end1 Tryd.results16 rfl ?_ | refine fin_ret2 Tryd.results16 rfl rfl ?_ | refine fin_retC1 Tryd.results16 rfl (by assumption) rfl rfl ?_ | refine fin_retC Tryd.results16 rfl (by assumption) rfl ?_)
    exact ⟨_, rfl, .inl (by omega), hb⟩
  have p2 : 0 ≤ r2 := (by simpa using hc)
  (repeat (first | refine vo_pure rfl rfl ?_ | refine vs_seq ?_ | refine vs_region ?_ | refine fin_seq ?_ | refine vs_skip ?_ | refine vo_fieldAddr rfl rfl ?_ | refine vo_loadB rfl (by assumption) rfl rfl ?_))
  refine vo_call rfl rfl ?_
  refine Calls.mono (c42 h3 ⟨p2, by omega⟩) ?_
  rintro _ _ ⟨r3, rfl, q3, rfl⟩
  refine ⟨_, rfl, ?_⟩
  (repeat (first | refine vo_pure rfl rfl ?_ | refine vs_seq ?_ | refine vs_region ?_ | refine vo_nil ?_ | refine fin_seq ?_))
  refine vs_cond rfl (fun hc => ?_) (fun hc => ?_)
  · (repeat (first | refine vo_pure rfl rfl ?_ | refine vs_seq ?_ | refine vs_region ?_ | refine vo_nil ?_ | refine fin_seq ?_ | refine vs_ret ?_ | refine fin_seq_ret ?_))
    (first | refine fin_ret1 Tryd.results16 rfl ?_ | refine fin_end1 Tryd.results16 rfl ?_ | refine fin_ret2 Tryd.results16 rfl rfl ?_ | refine fin_retC1 Tryd.results16 rfl (by assumption) rfl rfl ?_ | refine fin_retC Tryd.results16 rfl (by assumption) rfl ?_)
    exact ⟨_, rfl, .inl (by omega), hb⟩
  have p3 : 0 ≤ r3 := (by simpa using hc)
  (repeat (first | refine vo_pure rfl rfl ?_ | refine vs_seq ?_ | refine vs_region ?_ | refine vo_nil ?_ | refine fin_seq ?_ | refine vs_skip ?_ | refine vs_ret ?_))
  (first | refine fin_ret1 Tryd.results16 rfl ?_ | refine fin_end1 Tryd.results16 rfl ?_ | refine fin_ret2 Tryd.results16 rfl rfl ?_ | refine fin_retC1 Tryd.results16 rfl (by assumption) rfl rfl ?_ | refine fin_retC Tryd.results16 rfl (by assumption) rfl ?_)
  exact ⟨_, rfl, by omega, hb⟩
theorem c18 {lo hi : Nat} {cs : List Value} {x : TableD} {w : World} (k1 : Rep.rep lo hi w cs x) (hh : hi ≤ w.heap.size) (hs : x.slews.length + x.loads.length + x.values.length ≤ 1048576) : Calls Tryd.prog 18 #[.agg cs.toArray] w fun en w' => ∃ cs', en = .returned (.agg cs'.toArray) ∧ Rep.rep w.heap.size w'.heap.size w' cs' x ∧ Ext w w' := by
  obtain ⟨_, _, _, rfl, ⟨v1, rfl, h1⟩, ⟨v2, rfl, h2⟩, ⟨v3, rfl, h3⟩⟩ := k1
  have hb : Below w.heap.size w w := Below.refl _ _
  refine calls_vs Tryd.func18 Tryd.ntmps18 rfl rfl ?_
  (repeat (first | refine vs_seq ?_ | refine vs_region ?_))
  (refine vo_box rfl rfl rfl ?_; intro b1 w1 hN B1; have zz := hN.eq; have zz := hN.size; have hE := hN.ext; have g1 : w.heap.size ≤ b1 := (by rw [← hN.eq]; exact hb.size); skip; have zz := hE.size; (first | replace hb := hb.trans (hE.mono hb.size) | replace hb := hb.trans (WE.of_ext hE)); (try replace h1 := h1.up hE); (try replace h2 := h2.up hE); (try replace h3 := h3.up hE); (try replace h4 := h4.up hE); (try replace h5 := h5.up hE); (try replace h6 := h6.up hE); (try replace h7 := h7.up hE); (try replace h8 := h8.up hE); (try replace h9 := h9.up hE); (try replace B2 := B2.up hE); (try replace B3 := B3.up hE); (try replace B4 := B4.up hE); (try replace B5 := B5.up hE); (try replace B6 := B6.up hE); (try clear hN hE); (try dsimp at B1))
  skip
  (refine vo_alloc rfl rfl ?_; intro b2 w1 hN B2; have zz := hN.eq; have zz := hN.size; have hE := hN.ext; have g2 : w.heap.size ≤ b2 := (by rw [← hN.eq]; exact hb.size); (try have l1_2 : b1 < b2 := (by rw [← hN.eq]; exact B1.lt)); have zz := hE.size; (first | replace hb := hb.trans (hE.mono hb.size) | replace hb := hb.trans (WE.of_ext hE)); (try replace h1 := h1.up hE); (try replace h2 := h2.up hE); (try replace h3 := h3.up hE); (try replace h4 := h4.up hE); (try replace h5 := h5.up hE); (try replace h6 := h6.up hE); (try replace h7 := h7.up hE); (try replace h8 := h8.up hE); (try replace h9 := h9.up hE); (try replace B1 := B1.up hE); (try replace B3 := B3.up hE); (try replace B4 := B4.up hE); (try replace B5 := B5.up hE); (try replace B6 := B6.up hE); (try clear hN hE); (try dsimp at B2))
  (repeat (first | refine vs_seq ?_ | refine vs_region ?_ | refine vo_nil ?_ | refine fin_seq ?_))
  (refine vo_alloc rfl rfl ?_; intro b3 w1 hN B3; have zz := hN.eq; have zz := hN.size; have hE := hN.ext; have g3 : w.heap.size ≤ b3 := (by rw [← hN.eq]; exact hb.size); (try have l1_3 : b1 < b3 := (by rw [← hN.eq]; exact B1.lt)); (try have l2_3 : b2 < b3 := (by rw [← hN.eq]; exact B2.lt)); have zz := hE.size; (first | replace hb := hb.trans (hE.mono hb.size) | replace hb := hb.trans (WE.of_ext hE)); (try replace h1 := h1.up hE); (try replace h2 := h2.up hE); (try replace h3 := h3.up hE); (try replace h4 := h4.up hE); (try replace h5 := h5.up hE); (try replace h6 := h6.up hE); (try replace h7 := h7.up hE); (try replace h8 := h8.up hE); (try replace h9 := h9.up hE); (try replace B1 := B1.up hE); (try replace B2 := B2.up hE); (try replace B4 := B4.up hE); (try replace B5 := B5.up hE); (try replace B6 := B6.up hE); (try clear hN hE); (try dsimp at B3))
  (repeat (first | refine vs_seq ?_ | refine vs_region ?_ | refine vo_nil ?_ | refine fin_seq ?_ | refine vo_fieldAddr rfl rfl ?_ | refine vo_loadB rfl (by assumption) rfl rfl ?_))
  have q4 := B3.lt
  (refine vo_call rfl rfl ?_; refine Calls.mono (c44 h1 (by omega)) ?_; rintro _ _ ⟨v4, rfl, h4, hE⟩; refine ⟨_, rfl, ?_⟩; have zz := hE.size; (first | replace hb := hb.trans (hE.mono hb.size) | replace hb := hb.trans (WE.of_ext hE)); (try replace h1 := h1.up hE); (try replace h2 := h2.up hE); (try replace h3 := h3.up hE); (try replace h4 := h4.up hE); (try replace h5 := h5.up hE); (try replace h6 := h6.up hE); (try replace h7 := h7.up hE); (try replace h8 := h8.up hE); (try replace h9 := h9.up hE); (try replace B1 := B1.up hE); (try replace B2 := B2.up hE); (try replace B3 := B3.up hE); (try replace B4 := B4.up hE); (try replace B5 := B5.up hE); (try replace B6 := B6.up hE))
  obtain ⟨p4, n4, rfl⟩ := h4.len
  (repeat (first | refine vo_fieldAddr rfl rfl ?_))
  (refine vo_store rfl rfl B3 rfl rfl rfl rfl ?_; intro w1 hW hN; have zz := hW.size; (first | replace hb := hb.trans (hW.below (by assumption)) | replace hb := hb.trans (WE.of_wr hW) | replace hb := hb.thenWr hW (by omega)); (try replace h1 := h1.wr hW (by omega)); (try replace h2 := h2.wr hW (by omega)); (try replace h3 := h3.wr hW (by omega)); (try replace h4 := h4.wr hW (by omega)); (try replace h5 := h5.wr hW (by omega)); (try replace h6 := h6.wr hW (by omega)); (try replace h7 := h7.wr hW (by omega)); (try replace h8 := h8.wr hW (by omega)); (try replace h9 := h9.wr hW (by omega)); (try replace B1 := B1.wr hW (by omega)); (try replace B2 := B2.wr hW (by omega)); (try replace B4 := B4.wr hW (by omega)); (try replace B5 := B5.wr hW (by omega)); (try replace B6 := B6.wr hW (by omega)); clear B3; have B3 := hN; clear hN hW; (try dsimp at B3))
  (repeat (first | refine vs_seq ?_ | refine vs_region ?_ | refine vo_nil ?_ | refine fin_seq ?_ | refine vo_fieldAddr rfl rfl ?_ | refine vo_loadB rfl (by assumption) rfl rfl ?_))
  have q5 := B3.lt
  (refine vo_call rfl rfl ?_; refine Calls.mono (c44 h2 (by omega)) ?_; rintro _ _ ⟨v5, rfl, h5, hE⟩; refine ⟨_, rfl, ?_⟩; have zz := hE.size; (first | replace hb := hb.trans (hE.mono hb.size) | replace hb := hb.trans (WE.of_ext hE)); (try replace h1 := h1.up hE); (try replace h2 := h2.up hE); (try replace h3 := h3.up hE); (try replace h4 := h4.up hE); (try replace h5 := h5.up hE); (try replace h6 := h6.up hE); (try replace h7 := h7.up hE); (try replace h8 := h8.up hE); (try replace h9 := h9.up hE); (try replace B1 := B1.up hE); (try replace B2 := B2.up hE); (try replace B3 := B3.up hE); (try replace B4 := B4.up hE); (try replace B5 := B5.up hE); (try replace B6 := B6.up hE))
  obtain ⟨p5, n5, rfl⟩ := h5.len
  (repeat (first | refine vo_fieldAddr rfl rfl ?_))
  (refine vo_store rfl rfl B3 rfl rfl rfl rfl ?_; intro w1 hW hN; have zz := hW.size; (first | replace hb := hb.trans (hW.below (by assumption)) | replace hb := hb.trans (WE.of_wr hW) | replace hb := hb.thenWr hW (by omega)); (try replace h1 := h1.wr hW (by omega)); (try replace h2 := h2.wr hW (by omega)); (try replace h3 := h3.wr hW (by omega)); (try replace h4 := h4.wr hW (by omega)); (try replace h5 := h5.wr hW (by omega)); (try replace h6 := h6.wr hW (by omega)); (try replace h7 := h7.wr hW (by omega)); (try replace h8 := h8.wr hW (by omega)); (try replace h9 := h9.wr hW (by omega)); (try replace B1 := B1.wr hW (by omega)); (try replace B2 := B2.wr hW (by omega)); (try replace B4 := B4.wr hW (by omega)); (try replace B5 := B5.wr hW (by omega)); (try replace B6 := B6.wr hW (by omega)); clear B3; have B3 := hN; clear hN hW; (try dsimp at B3))
  (repeat (first | refine vs_seq ?_ | refine vs_region ?_ | refine vo_nil ?_ | refine fin_seq ?_ | refine vo_fieldAddr rfl rfl ?_ | refine vo_loadB rfl (by assumption) rfl rfl ?_))
  have q6 := B3.lt
  (refine vo_call rfl rfl ?_; refine Calls.mono (c44 h3 (by omega)) ?_; rintro _ _ ⟨v6, rfl, h6, hE⟩; refine ⟨_, rfl, ?_⟩; have zz := hE.size; (first | replace hb := hb.trans (hE.mono hb.size) | replace hb := hb.trans (WE.of_ext hE)); (try replace h1 := h1.up hE); (try replace h2 := h2.up hE); (try replace h3 := h3.up hE); (try replace h4 := h4.up hE); (try replace h5 := h5.up hE); (try replace h6 := h6.up hE); (try replace h7 := h7.up hE); (try replace h8 := h8.up hE); (try replace h9 := h9.up hE); (try replace B1 := B1.up hE); (try replace B2 := B2.up hE); (try replace B3 := B3.up hE); (try replace B4 := B4.up hE); (try replace B5 := B5.up hE); (try replace B6 := B6.up hE))
  obtain ⟨p6, n6, rfl⟩ := h6.len
  (repeat (first | refine vo_fieldAddr rfl rfl ?_))
  (refine vo_store rfl rfl B3 rfl rfl rfl rfl ?_; intro w1 hW hN; have zz := hW.size; (first | replace hb := hb.trans (hW.below (by assumption)) | replace hb := hb.trans (WE.of_wr hW) | replace hb := hb.thenWr hW (by omega)); (try replace h1 := h1.wr hW (by omega)); (try replace h2 := h2.wr hW (by omega)); (try replace h3 := h3.wr hW (by omega)); (try replace h4 := h4.wr hW (by omega)); (try replace h5 := h5.wr hW (by omega)); (try replace h6 := h6.wr hW (by omega)); (try replace h7 := h7.wr hW (by omega)); (try replace h8 := h8.wr hW (by omega)); (try replace h9 := h9.wr hW (by omega)); (try replace B1 := B1.wr hW (by omega)); (try replace B2 := B2.wr hW (by omega)); (try replace B4 := B4.wr hW (by omega)); (try replace B5 := B5.wr hW (by omega)); (try replace B6 := B6.wr hW (by omega)); clear B3; have B3 := hN; clear hN hW; (try dsimp at B3))
  (repeat (first | refine vs_seq ?_ | refine vs_region ?_ | refine vo_nil ?_ | refine fin_seq ?_ | refine vo_loadA rfl (by assumption) rfl rfl ?_))
  (refine vo_store rfl rfl B2 rfl rfl rfl rfl ?_; intro w1 hW hN; have zz := hW.size; (first | replace hb := hb.trans (hW.below (by assumption)) | replace hb := hb.trans (WE.of_wr hW) | replace hb := hb.thenWr hW (by omega)); (try replace h1 := h1.wr hW (by omega)); (try replace h2 := h2.wr hW (by omega)); (try replace h3 := h3.wr hW (by omega)); (try replace h4 := h4.wr hW (by omega)); (try replace h5 := h5.wr hW (by omega)); (try replace h6 := h6.wr hW (by omega)); (try replace h7 := h7.wr hW (by omega)); (try replace h8 := h8.wr hW (by omega)); (try replace h9 := h9.wr hW (by omega)); (try replace B1 := B1.wr hW (by omega)); (try replace B3 := B3.wr hW (by omega)); (try replace B4 := B4.wr hW (by omega)); (try replace B5 := B5.wr hW (by omega)); (try replace B6 := B6.wr hW (by omega)); clear B2; have B2 := hN; clear hN hW; (try dsimp at B2))
  (repeat (first | refine vo_nil ?_ | refine fin_seq ?_ | refine vs_ret ?_))
  (first | refine fin_ret1 Tryd.results18 rfl ?_ | refine fin_end1 Tryd.results18 rfl ?_ | refine fin_ret2 Tryd.results18 rfl rfl ?_ | refine fin_retC1 Tryd.results18 rfl (by assumption) rfl rfl ?_ | refine fin_retC Tryd.results18 rfl (by assumption) rfl ?_)
  exact ⟨_, rfl, ⟨_, _, _, rfl, ⟨_, rfl, h4.wide (by omega) (by omega)⟩, ⟨_, rfl, h5.wide (by omega) (by omega)⟩, ⟨_, rfl, h6.wide (by omega) (by omega)⟩⟩, hb⟩
end Go.Proofs.YtahnpokehdlajaaDoor
