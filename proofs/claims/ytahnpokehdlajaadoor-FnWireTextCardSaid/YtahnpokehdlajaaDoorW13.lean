/- Wires: which are valid, by the reference. -/
import Derived.Test.YtahnpokehdlajaaDoorW12
namespace Go.Proofs.YtahnpokehdlajaaDoor
open Go Go.Proofs Go.Proofs.Sv Go.RowKit
attribute [local irreducible] VS VO VQ VH FinS seqQ blkQ loopQ RunsOp RunsU
attribute [local simp] spl reps Value.cells

set_option maxHeartbeats 2000000 in
theorem c29 {lo hi : Nat} {cs : List Value} {x : WireD} {n : Int} {w : World} (k1 : Rep.rep lo hi w cs x) (hs : x.parent.length + x.res.length + x.cap.length + x.sink.length ≤ 1048576) : Calls Tryd.prog 29 #[.agg cs.toArray, .int .i64 n] w fun en w' => en = .returned (.bool (tf (WireP x n))) ∧ Ext w w' := by
  obtain ⟨_, _, _, _, rfl, ⟨v1, rfl, h1⟩, ⟨v2, rfl, h2⟩, ⟨v3, rfl, h3⟩, ⟨v4, rfl, h4⟩⟩ := k1
  obtain ⟨p1, n1, rfl⟩ := h1.len
  obtain ⟨p2, n2, rfl⟩ := h2.len
  obtain ⟨p3, n3, rfl⟩ := h3.len
  obtain ⟨p4, n4, rfl⟩ := h4.len
  have hb : Below w.heap.size w w := Below.refl _ _
  refine calls_vs Tryd.func29 Tryd.ntmps29 rfl rfl ?_
  (repeat (first | refine vs_seq ?_ | refine vs_region ?_))
  (refine vo_box rfl rfl rfl ?_; intro b1 w1 hN B1; have zz := hN.eq; have zz := hN.size; have hE := hN.ext; have g1 : w.heap.size ≤ b1 := (by rw [← hN.eq]; exact hb.size); skip; have zz := hE.size; (first | replace hb := hb.trans (hE.mono hb.size) | replace hb := hb.trans (WE.of_ext hE)); (try replace h1 := h1.up hE); (try replace h2 := h2.up hE); (try replace h3 := h3.up hE); (try replace h4 := h4.up hE); (try replace h5 := h5.up hE); (try replace h6 := h6.up hE); (try replace h7 := h7.up hE); (try replace h8 := h8.up hE); (try replace h9 := h9.up hE); (try replace B2 := B2.up hE); (try replace B3 := B3.up hE); (try replace B4 := B4.up hE); (try replace B5 := B5.up hE); (try replace B6 := B6.up hE); (try clear hN hE); (try dsimp at B1))
  (repeat (first | refine vo_pure rfl rfl ?_ | refine vs_seq ?_ | refine vs_region ?_ | refine vo_nil ?_ | refine fin_seq ?_ | refine vo_fieldAddr rfl rfl ?_ | refine vo_loadB rfl (by assumption) rfl rfl ?_ | refine vo_val _ (runs_lenL rfl) rfl ?_))
  (first | refine vo_split (fun hc => ?_) (fun hc => ?_) | refine vq_split (fun hc => ?_) (fun hc => ?_))
  case refine_1 =>
    (repeat (first | refine vo_pure rfl rfl ?_ | refine vo_guard_skip rfl rfl rfl rfl ?_ | refine vs_seq ?_ | refine vs_region ?_ | refine vo_nil ?_ | refine fin_seq ?_ | refine vs_ret ?_ | refine fin_seq_ret ?_ | refine vs_cond_true rfl ?_))
    (first | refine fin_ret1 Tryd.results29 rfl ?_ | refine fin_end1 Tryd.results29 rfl ?_ | refine fin_ret2 Tryd.results29 rfl rfl ?_ | refine fin_retC1 Tryd.results29 rfl (by assumption) rfl rfl ?_ | refine fin_retC Tryd.results29 rfl (by assumption) rfl ?_)
    refine ⟨?_, hb⟩
    rw [tf_f]
    intro hp
    have := hp.1
    simp at hc
    omega
  have a0 : 1 ≤ x.parent.length := by simp at hc; omega
  (repeat (first | refine vo_pure rfl rfl ?_ | refine vo_guard_take rfl rfl ?_))
  (first | refine vo_split (fun hc => ?_) (fun hc => ?_) | refine vq_split (fun hc => ?_) (fun hc => ?_))
  case refine_1 =>
    (repeat (first | refine vo_pure rfl rfl ?_ | refine vo_guard_skip rfl rfl rfl rfl ?_ | refine vs_seq ?_ | refine vs_region ?_ | refine vo_nil ?_ | refine fin_seq ?_ | refine vs_ret ?_ | refine fin_seq_ret ?_ | refine vs_cond_true rfl ?_))
    (first | refine fin_ret1 Tryd.results29 rfl ?_ | refine fin_end1 Tryd.results29 rfl ?_ | refine fin_ret2 Tryd.results29 rfl rfl ?_ | refine fin_retC1 Tryd.results29 rfl (by assumption) rfl rfl ?_ | refine fin_retC Tryd.results29 rfl (by assumption) rfl ?_)
    refine ⟨?_, hb⟩
    rw [tf_f]
    intro hp
    have := hp.1
    simp at hc
    omega
  have a1 : 1 ≤ x.parent.length ∧ x.parent.length ≤ 8 := by simp at hc; omega
  (repeat (first | refine vo_pure rfl rfl ?_ | refine vo_guard_take rfl rfl ?_ | refine vo_fieldAddr rfl rfl ?_ | refine vo_loadB rfl (by assumption) rfl rfl ?_ | refine vo_val _ (runs_lenL rfl) rfl ?_))
  (first | refine vo_split (fun hc => ?_) (fun hc => ?_) | refine vq_split (fun hc => ?_) (fun hc => ?_))
  case refine_1 =>
    (repeat (first | refine vo_pure rfl rfl ?_ | refine vo_guard_skip rfl rfl rfl rfl ?_ | refine vs_seq ?_ | refine vs_region ?_ | refine vo_nil ?_ | refine fin_seq ?_ | refine vs_ret ?_ | refine fin_seq_ret ?_ | refine vs_cond_true rfl ?_))
    (first | refine fin_ret1 Tryd.results29 rfl ?_ | refine fin_end1 Tryd.results29 rfl ?_ | refine fin_ret2 Tryd.results29 rfl rfl ?_ | refine fin_retC1 Tryd.results29 rfl (by assumption) rfl rfl ?_ | refine fin_retC Tryd.results29 rfl (by assumption) rfl ?_)
    refine ⟨?_, hb⟩
    rw [tf_f]
    intro hp
    have := hp.2.1
    simp at hc
    omega
  have a2 : x.res.length = x.parent.length := by simp at hc; omega
  (repeat (first | refine vo_pure rfl rfl ?_ | refine vo_guard_take rfl rfl ?_ | refine vo_fieldAddr rfl rfl ?_ | refine vo_loadB rfl (by assumption) rfl rfl ?_ | refine vo_val _ (runs_lenL rfl) rfl ?_))
  (first | refine vo_split (fun hc => ?_) (fun hc => ?_) | refine vq_split (fun hc => ?_) (fun hc => ?_))
  case refine_1 =>
    (repeat (first | refine vo_pure rfl rfl ?_ | refine vo_guard_skip rfl rfl rfl rfl ?_ | refine vs_seq ?_ | refine vs_region ?_ | refine vo_nil ?_ | refine fin_seq ?_ | refine vs_ret ?_ | refine fin_seq_ret ?_ | refine vs_cond_true rfl ?_))
    (first | refine fin_ret1 Tryd.results29 rfl ?_ | refine fin_end1 Tryd.results29 rfl ?_ | refine fin_ret2 Tryd.results29 rfl rfl ?_ | refine fin_retC1 Tryd.results29 rfl (by assumption) rfl rfl ?_ | refine fin_retC Tryd.results29 rfl (by assumption) rfl ?_)
    refine ⟨?_, hb⟩
    rw [tf_f]
    intro hp
    have := hp.2.2.1
    simp at hc
    omega
  have a3 : x.cap.length = x.parent.length := by simp at hc; omega
  (repeat (first | refine vo_pure rfl rfl ?_ | refine vo_guard_take rfl rfl ?_ | refine vo_nil ?_ | refine fin_seq ?_ | refine vo_fieldAddr rfl rfl ?_ | refine vo_loadB rfl (by assumption) rfl rfl ?_ | refine vo_val _ (runs_lenL rfl) rfl ?_))
  refine vs_cond rfl (fun hc => ?_) (fun hc => ?_)
  case refine_1 =>
    (repeat (first | refine vo_pure rfl rfl ?_ | refine vs_seq ?_ | refine vs_region ?_ | refine vo_nil ?_ | refine fin_seq ?_ | refine vs_ret ?_ | refine fin_seq_ret ?_))
    (first | refine fin_ret1 Tryd.results29 rfl ?_ | refine fin_end1 Tryd.results29 rfl ?_ | refine fin_ret2 Tryd.results29 rfl rfl ?_ | refine fin_retC1 Tryd.results29 rfl (by assumption) rfl rfl ?_ | refine fin_retC Tryd.results29 rfl (by assumption) rfl ?_)
    refine ⟨?_, hb⟩
    rw [tf_f]
    intro hp
    have := hp.2.2.2.1
    simp at hc
    exact hc this
  have a7 : (x.sink.length : Int) = n := by simpa using hc
  (repeat (first | refine vo_pure rfl rfl ?_ | refine vs_seq ?_ | refine vs_region ?_ | refine vo_nil ?_ | refine fin_seq ?_ | refine vs_skip ?_ | refine vs_block ?_))
  refine vs_loop (fun k : Nat => (6, .int .i64 (k : Int)) :: (5, .int .i64 (x.parent.length : Int)) :: (2, .pointer (some ⟨b1, 0, none⟩)) :: []) (fun k w' => k ≤ x.parent.length ∧ (∀ i : Nat, i < k → TreeAt x.parent x.res i) ∧ (∀ i : Nat, i < k → (hi' : i < x.res.length) → 0 ≤ x.res[i] ∧ x.res[i] ≤ 1000) ∧ (∀ i : Nat, i < k → (hi' : i < x.cap.length) → 0 ≤ x.cap[i] ∧ x.cap[i] ≤ 500) ∧ w' = w1) (fun k => x.parent.length - k) 0 ⟨Nat.zero_le _, fun i hi => by omega, fun i hi => by omega, fun i hi => by omega, rfl⟩ (by ((repeat (refine sub_cons rfl ?_)); exact sub_nil)) ?_
  rintro k w2 ⟨hk, hn, hr, hq, rfl⟩
  (repeat (first | refine vo_pure rfl rfl ?_ | refine vs_seq ?_ | refine vs_region ?_ | refine vo_nil ?_ | refine fin_seq ?_))
  refine vs_cond rfl (fun hc => ?_) (fun hc => ?_)
  · have hlt : k < x.parent.length := by simpa using hc
    (repeat (first | refine vo_pure rfl rfl ?_ | refine vs_seq ?_ | refine vs_region ?_ | refine fin_seq ?_ | refine vs_skip ?_ | refine vs_block ?_ | refine vo_fieldAddr rfl rfl ?_ | refine vo_loadB rfl (by assumption) rfl rfl ?_))
    (first | refine vo_idxI rfl rfl h3 rfl (by omega) ?_ | refine vq_idxI rfl rfl h3 rfl (by omega) ?_)
    intro ad hcell hI
    (repeat (first | refine vo_load rfl (by assumption) rfl ?_))
    (refine vo_call rfl rfl ?_; refine Calls.mono (c40) ?_; rintro _ _ ⟨rfl, rfl⟩; refine ⟨_, rfl, ?_⟩)
    (repeat (first | refine vo_pure rfl rfl ?_))
    (first | refine vo_split (fun hc => ?_) (fun hc => ?_) | refine vq_split (fun hc => ?_) (fun hc => ?_))
    · (repeat (first | refine vo_pure rfl rfl ?_ | refine vo_guard_skip rfl rfl rfl rfl ?_ | refine vs_seq ?_ | refine vs_region ?_ | refine vo_nil ?_ | refine fin_seq ?_ | refine vs_ret ?_ | refine fin_seq_ret ?_ | refine fin_blk_ret ?_ | refine fin_loop_ret ?_ | refine vs_cond_true rfl ?_))
      (first | refine fin_ret1 Tryd.results29 rfl ?_ | refine fin_end1 Tryd.results29 rfl ?_ | refine fin_ret2 Tryd.results29 rfl rfl ?_ | refine fin_retC1 Tryd.results29 rfl (by assumption) rfl rfl ?_ | refine fin_retC Tryd.results29 rfl (by assumption) rfl ?_)
      refine ⟨?_, hb⟩
      rw [tf_f]
      intro hp
      have := inR_get hp.2.2.2.2.2.2.1 k (by omega)
      simp at hc
      omega
    have b3 : 0 ≤ x.cap[k] ∧ x.cap[k] ≤ 500 := by simpa using hc
    (repeat (first | refine vo_pure rfl rfl ?_ | refine vo_guard_take rfl rfl ?_ | refine vo_fieldAddr rfl rfl ?_ | refine vo_loadB rfl (by assumption) rfl rfl ?_))
    (first | refine vo_idxI rfl rfl h2 rfl (by omega) ?_ | refine vq_idxI rfl rfl h2 rfl (by omega) ?_)
    intro ad' hcell' hI'
    (repeat (first | refine vo_guard_take rfl rfl ?_ | refine vo_load rfl (by assumption) rfl ?_))
    (refine vo_call rfl rfl ?_; refine Calls.mono (c40) ?_; rintro _ _ ⟨rfl, rfl⟩; refine ⟨_, rfl, ?_⟩)
    (repeat (first | refine vo_pure rfl rfl ?_ | refine vo_guard_take rfl rfl ?_ | refine vo_nil ?_ | refine fin_seq ?_))
    refine vs_cond rfl (fun hc => ?_) (fun hc => ?_)
    · (repeat (first | refine vo_pure rfl rfl ?_ | refine vs_seq ?_ | refine vs_region ?_ | refine vo_nil ?_ | refine fin_seq ?_ | refine vs_ret ?_ | refine fin_seq_ret ?_ | refine fin_blk_ret ?_ | refine fin_loop_ret ?_))
      (first | refine fin_ret1 Tryd.results29 rfl ?_ | refine fin_end1 Tryd.results29 rfl ?_ | refine fin_ret2 Tryd.results29 rfl rfl ?_ | refine fin_retC1 Tryd.results29 rfl (by assumption) rfl rfl ?_ | refine fin_retC Tryd.results29 rfl (by assumption) rfl ?_)
      refine ⟨?_, hb⟩
      rw [tf_f]
      intro hp
      have := inR_get hp.2.2.2.2.2.1 k (by omega)
      simp at hc
      omega
    have b2 : 0 ≤ x.res[k] ∧ x.res[k] ≤ 1000 := by simpa using hc
    have next : TreeAt x.parent x.res k → (∀ i : Nat, i < k + 1 → TreeAt x.parent x.res i) ∧ (∀ i : Nat, i < k + 1 → (hi' : i < x.res.length) → 0 ≤ x.res[i] ∧ x.res[i] ≤ 1000) ∧ (∀ i : Nat, i < k + 1 → (hi' : i < x.cap.length) → 0 ≤ x.cap[i] ∧ x.cap[i] ≤ 500) := fun ht => by
      refine ⟨fun i hi => ?_, fun i hi hi' => ?_, fun i hi hi' => ?_⟩
      all_goals
        rcases Nat.lt_or_ge i k with h' | h'
        · first | exact hn i h' | exact hr i h' hi' | exact hq i h' hi'
        · obtain rfl : i = k := by omega
          first | exact ht | exact b2 | exact b3
    (repeat (first | refine vo_pure rfl rfl ?_ | refine vs_seq ?_ | refine vs_region ?_ | refine fin_seq ?_ | refine vs_skip ?_))
    (first | refine vo_split (fun hc => ?_) (fun hc => ?_) | refine vq_split (fun hc => ?_) (fun hc => ?_))
    · have h0 : k = 0 := by simpa using hc
      (repeat (first | refine vo_pure rfl rfl ?_ | refine vo_guard_take rfl rfl ?_ | refine vo_fieldAddr rfl rfl ?_ | refine vo_loadB rfl (by assumption) rfl rfl ?_))
      (first | refine vo_idxI rfl rfl h1 rfl (by exact hlt) ?_ | refine vq_idxI rfl rfl h1 rfl (by exact hlt) ?_)
      intro ad'' hcell'' hI''
      (repeat (first | refine vo_pure rfl rfl ?_ | refine vo_guard_take rfl rfl ?_ | refine vo_load rfl (by assumption) rfl ?_))
      (first | refine vo_split (fun hc => ?_) (fun hc => ?_) | refine vq_split (fun hc => ?_) (fun hc => ?_))
      · (repeat (first | refine vo_pure rfl rfl ?_ | refine vo_guard_take rfl rfl ?_ | refine vo_guard_skip rfl rfl rfl rfl ?_ | refine vo_guard_undef rfl rfl rfl ?_ | refine vs_seq ?_ | refine vs_region ?_ | refine vo_nil ?_ | refine fin_seq ?_ | refine vs_ret ?_ | refine fin_seq_ret ?_ | refine fin_blk_ret ?_ | refine fin_loop_ret ?_ | refine vs_cond_true rfl ?_))
        (first | refine fin_ret1 Tryd.results29 rfl ?_ | refine fin_end1 Tryd.results29 rfl ?_ | refine fin_ret2 Tryd.results29 rfl rfl ?_ | refine fin_retC1 Tryd.results29 rfl (by assumption) rfl rfl ?_ | refine fin_retC Tryd.results29 rfl (by assumption) rfl ?_)
        refine ⟨?_, hb⟩
        rw [tf_f]
        intro hp
        have := ((hp.2.2.2.2.1 k hlt).1 hlt).1 h0
        simp at hc
        exact hc this
      · have hp : x.parent[k] = -1 := by simpa using hc
        (repeat (first | refine vo_pure rfl rfl ?_ | refine vo_guard_take rfl rfl ?_ | refine vo_fieldAddr rfl rfl ?_ | refine vo_loadB rfl (by assumption) rfl rfl ?_))
        (first | refine vo_idxI rfl rfl h2 rfl (by omega) ?_ | refine vq_idxI rfl rfl h2 rfl (by omega) ?_)
        intro ad2 hcell2 hI2
        (repeat (first | refine vo_pure rfl rfl ?_ | refine vo_guard_take rfl rfl ?_ | refine vo_load rfl (by assumption) rfl ?_))
        (first | refine vo_split (fun hc => ?_) (fun hc => ?_) | refine vq_split (fun hc => ?_) (fun hc => ?_))
        · (repeat (first | refine vo_pure rfl rfl ?_ | refine vo_guard_skip rfl rfl rfl rfl ?_ | refine vo_guard_undef rfl rfl rfl ?_ | refine vs_seq ?_ | refine vs_region ?_ | refine vo_nil ?_ | refine fin_seq ?_ | refine vs_ret ?_ | refine fin_seq_ret ?_ | refine fin_blk_ret ?_ | refine fin_loop_ret ?_ | refine vs_cond_true rfl ?_))
          (first | refine fin_ret1 Tryd.results29 rfl ?_ | refine fin_end1 Tryd.results29 rfl ?_ | refine fin_ret2 Tryd.results29 rfl rfl ?_ | refine fin_retC1 Tryd.results29 rfl (by assumption) rfl rfl ?_ | refine fin_retC Tryd.results29 rfl (by assumption) rfl ?_)
          refine ⟨?_, hb⟩
          rw [tf_f]
          intro hp
          have := (hp.2.2.2.2.1 k hlt).2 (by omega) h0
          subst h0
          simp at hc
          exact hc this
        · have hz : x.res[0] = 0 := by subst h0; simpa using hc
          (repeat (first | refine vo_pure rfl rfl ?_ | refine vo_guard_take rfl rfl ?_))
          (first | refine vo_split (fun hc => ?_) (fun hc => ?_) | refine vq_split (fun hc => ?_) (fun hc => ?_))
          · simp at hc
            omega
          · have hnx := next ⟨fun _ => ⟨fun _ => hp, fun h => by omega⟩, fun _ _ => hz⟩
            (repeat (first | refine vo_pure rfl rfl ?_ | refine vo_guard_take rfl rfl ?_ | refine vo_guard_skip rfl rfl rfl rfl ?_ | refine vs_region ?_ | refine vo_nil ?_ | refine fin_seq ?_ | refine vs_skip ?_ | refine vs_cond_false rfl ?_ | refine fin_blk ?_ | refine vo_val _ (runs_add rfl rfl (by omega)) rfl ?_))
            refine fin_loop (k + 1) ⟨by omega, hnx.1, hnx.2.1, hnx.2.2, rfl⟩ (by omega) (by ((repeat (refine sub_cons rfl ?_)); exact sub_nil))
    · have h0 : ¬ k = 0 := by simpa using hc
      (repeat (first | refine vo_pure rfl rfl ?_ | refine vo_guard_take rfl rfl ?_ | refine vo_guard_skip rfl rfl rfl rfl ?_ | refine vo_guard_undef rfl rfl rfl ?_))
      (first | refine vo_split (fun hc => ?_) (fun hc => ?_) | refine vq_split (fun hc => ?_) (fun hc => ?_))
      · (repeat (first | refine vo_pure rfl rfl ?_ | refine vo_guard_take rfl rfl ?_ | refine vo_fieldAddr rfl rfl ?_ | refine vo_loadB rfl (by assumption) rfl rfl ?_))
        (first | refine vo_idxI rfl rfl h1 rfl (by exact hlt) ?_ | refine vq_idxI rfl rfl h1 rfl (by exact hlt) ?_)
        intro ad'' hcell'' hI''
        (repeat (first | refine vo_pure rfl rfl ?_ | refine vo_guard_take rfl rfl ?_ | refine vo_load rfl (by assumption) rfl ?_ | refine vo_val _ (runs_sub rfl rfl (by omega)) rfl ?_))
        (refine vo_call rfl rfl ?_; refine Calls.mono (c40) ?_; rintro _ _ ⟨rfl, rfl⟩; refine ⟨_, rfl, ?_⟩)
        (repeat (first | refine vo_pure rfl rfl ?_ | refine vo_guard_take rfl rfl ?_ | refine vo_nil ?_ | refine fin_seq ?_))
        refine vs_cond rfl (fun hc => ?_) (fun hc => ?_)
        · (repeat (first | refine vo_pure rfl rfl ?_ | refine vs_seq ?_ | refine vs_region ?_ | refine vo_nil ?_ | refine fin_seq ?_ | refine vs_ret ?_ | refine fin_seq_ret ?_ | refine fin_blk_ret ?_ | refine fin_loop_ret ?_))
          (first | refine fin_ret1 Tryd.results29 rfl ?_ | refine fin_end1 Tryd.results29 rfl ?_ | refine fin_ret2 Tryd.results29 rfl rfl ?_ | refine fin_retC1 Tryd.results29 rfl (by assumption) rfl rfl ?_ | refine fin_retC Tryd.results29 rfl (by assumption) rfl ?_)
          refine ⟨?_, hb⟩
          rw [tf_f]
          intro hp
          have := ((hp.2.2.2.2.1 k hlt).1 hlt).2 (by omega)
          simp at hc
          omega
        · simp at hc
          have hnx := next ⟨fun _ => ⟨fun h => (h0 h).elim, fun _ => by omega⟩, fun _ h => (h0 h).elim⟩
          (repeat (first | refine vo_pure rfl rfl ?_ | refine vs_region ?_ | refine vo_nil ?_ | refine fin_seq ?_ | refine vs_skip ?_ | refine fin_blk ?_ | refine vo_val _ (runs_add rfl rfl (by omega)) rfl ?_))
          refine fin_loop (k + 1) ⟨by omega, hnx.1, hnx.2.1, hnx.2.2, rfl⟩ (by omega) (by ((repeat (refine sub_cons rfl ?_)); exact sub_nil))
      · simp at hc
        omega
  have hge : k = x.parent.length := by simp at hc; omega
  subst hge
  have a4 : TreeP x.parent x.res := hn
  have a5 : InR x.res 0 1000 := inR_at fun i hi' => hr i (by omega) hi'
  have a6 : InR x.cap 0 500 := inR_at fun i hi' => hq i (by omega) hi'
  (repeat (first | refine vo_pure rfl rfl ?_ | refine vs_seq ?_ | refine vs_region ?_ | refine vo_nil ?_ | refine fin_seq ?_ | refine vs_block ?_ | refine vs_exit ?_ | refine fin_seq_exit ?_ | refine fin_loop_exit ?_ | refine fin_blk_exit rfl ?_))
  refine vs_loop (fun k : Nat => (7, .int .i64 (k : Int)) :: (5, .int .i64 (x.parent.length : Int)) :: (2, .pointer (some ⟨b1, 0, none⟩)) :: []) (fun k w' => k ≤ x.sink.length ∧ (∀ i : Nat, i < k → (hi' : i < x.sink.length) → 0 ≤ x.sink[i] ∧ x.sink[i] ≤ (x.parent.length : Int) - 1) ∧ w' = w2) (fun k => x.sink.length - k) 0 ⟨Nat.zero_le _, fun i hi => by omega, rfl⟩ (by ((repeat (refine sub_cons rfl ?_)); exact sub_nil)) ?_
  clear hn hr hq hk
  rintro k w3 ⟨hk, hr, rfl⟩
  (repeat (first | refine vo_pure rfl rfl ?_ | refine vs_seq ?_ | refine vs_region ?_ | refine vo_nil ?_ | refine fin_seq ?_ | refine vo_fieldAddr rfl rfl ?_ | refine vo_loadB rfl (by assumption) rfl rfl ?_ | refine vo_val _ (runs_lenL rfl) rfl ?_))
  refine vs_cond rfl (fun hc => ?_) (fun hc => ?_)
  · have hlt : k < x.sink.length := by simpa using hc
    (repeat (first | refine vo_pure rfl rfl ?_ | refine vs_seq ?_ | refine vs_region ?_ | refine fin_seq ?_ | refine vs_skip ?_ | refine vs_block ?_ | refine vo_fieldAddr rfl rfl ?_ | refine vo_loadB rfl (by assumption) rfl rfl ?_))
    (first | refine vo_idxI rfl rfl h4 rfl (by exact hlt) ?_ | refine vq_idxI rfl rfl h4 rfl (by exact hlt) ?_)
    intro ad hcell hI
    (repeat (first | refine vo_pure rfl rfl ?_ | refine vo_load rfl (by assumption) rfl ?_ | refine vo_val _ (runs_sub rfl rfl (by omega)) rfl ?_))
    (refine vo_call rfl rfl ?_; refine Calls.mono (c40) ?_; rintro _ _ ⟨rfl, rfl⟩; refine ⟨_, rfl, ?_⟩)
    (repeat (first | refine vo_pure rfl rfl ?_ | refine vo_nil ?_ | refine fin_seq ?_))
    refine vs_cond rfl (fun hc => ?_) (fun hc => ?_)
    · (repeat (first | refine vo_pure rfl rfl ?_ | refine vs_seq ?_ | refine vs_region ?_ | refine vo_nil ?_ | refine fin_seq ?_ | refine vs_ret ?_ | refine fin_seq_ret ?_ | refine fin_blk_ret ?_ | refine fin_loop_ret ?_))
      (first | refine fin_ret1 Tryd.results29 rfl ?_ | refine fin_end1 Tryd.results29 rfl ?_ | refine fin_ret2 Tryd.results29 rfl rfl ?_ | refine fin_retC1 Tryd.results29 rfl (by assumption) rfl rfl ?_ | refine fin_retC Tryd.results29 rfl (by assumption) rfl ?_)
      refine ⟨?_, hb⟩
      rw [tf_f]
      intro hp
      have := inR_get hp.2.2.2.2.2.2.2 k hlt
      simp at hc
      omega
    · (repeat (first | refine vo_pure rfl rfl ?_ | refine vs_region ?_ | refine vo_nil ?_ | refine fin_seq ?_ | refine vs_skip ?_ | refine fin_blk ?_ | refine vo_val _ (runs_add rfl rfl (by omega)) rfl ?_))
      refine fin_loop (k + 1) ⟨by omega, ?_, rfl⟩ (by omega) (by ((repeat (refine sub_cons rfl ?_)); exact sub_nil))
      intro i hi' hi''
      rcases Nat.lt_or_ge i k with h' | h'
      · exact hr i h' hi''
      · obtain rfl : k = i := by omega
        simp at hc
        omega
  · have hge : k = x.sink.length := by simp at hc; omega
    have a8 : InR x.sink 0 ((x.parent.length : Int) - 1) := inR_at fun i hi' => hr i (by omega) hi'
    (repeat (first | refine vo_pure rfl rfl ?_ | refine vs_seq ?_ | refine vs_region ?_ | refine vo_nil ?_ | refine fin_seq ?_ | refine vs_ret ?_ | refine vs_exit ?_ | refine fin_seq_exit ?_ | refine fin_loop_exit ?_ | refine fin_blk_exit rfl ?_))
    (first | refine fin_ret1 Tryd.results29 rfl ?_ | refine fin_end1 Tryd.results29 rfl ?_ | refine fin_ret2 Tryd.results29 rfl rfl ?_ | refine fin_retC1 Tryd.results29 rfl (by assumption) rfl rfl ?_ | refine fin_retC Tryd.results29 rfl (by assumption) rfl ?_)
    exact ⟨by rw [tf_t (show WireP x n from ⟨a1, a2, a3, a7, a4, a5, a6, a8⟩)], hb⟩
end Go.Proofs.YtahnpokehdlajaaDoor
