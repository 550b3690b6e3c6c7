/- Wires: which are valid. -/
import Derived.Test.YtahnpokehdlajaaDoorW11
namespace Go.Proofs.YtahnpokehdlajaaDoor
open Go Go.Proofs Go.Proofs.Sv Go.RowKit
attribute [local irreducible] VS VO VQ VH FinS seqQ blkQ loopQ RunsOp RunsU
attribute [local simp] spl reps Value.cells

def TreeAt (p r : List Int) (i : Nat) : Prop := (∀ h : i < p.length, (i = 0 → p[i] = -1) ∧ (0 < i → 0 ≤ p[i] ∧ p[i] ≤ (i : Int) - 1)) ∧ ∀ h : 0 < r.length, i = 0 → r[0] = 0
def TreeP (p r : List Int) : Prop := ∀ i : Nat, i < p.length → TreeAt p r i
def WireP (x : WireD) (n : Int) : Prop := (1 ≤ x.parent.length ∧ x.parent.length ≤ 8) ∧ x.res.length = x.parent.length ∧ x.cap.length = x.parent.length ∧ (x.sink.length : Int) = n ∧ TreeP x.parent x.res ∧ InR x.res 0 1000 ∧ InR x.cap 0 500 ∧ InR x.sink 0 ((x.parent.length : Int) - 1)
theorem c53 {lo hi : Nat} {cs : List Value} {x : WireD} {w : World} (k1 : Rep.rep lo hi w cs x) (hr : x.res.length = x.parent.length) : Calls Tryd.prog 53 #[.agg cs.toArray] w fun en w' => en = .returned (.bool (tf (TreeP x.parent x.res))) ∧ Ext w w' := by
  obtain ⟨_, _, _, _, rfl, ⟨v1, rfl, h1⟩, ⟨v2, rfl, h2⟩, ⟨v3, rfl, h3⟩, ⟨v4, rfl, h4⟩⟩ := k1
  have hle := h1.le
  obtain ⟨p1, n1, rfl⟩ := h1.len
  have hb : Below w.heap.size w w := Below.refl _ _
  refine calls_vs Tryd.func53 Tryd.ntmps53 rfl rfl ?_
  (repeat (first | refine vs_seq ?_ | refine vs_region ?_))
  (refine vo_box rfl rfl rfl ?_; intro b1 w1 hN B1; have zz := hN.eq; have zz := hN.size; have hE := hN.ext; have g1 : w.heap.size ≤ b1 := (by rw [← hN.eq]; exact hb.size); skip; have zz := hE.size; (first | replace hb := hb.trans (hE.mono hb.size) | replace hb := hb.trans (WE.of_ext hE)); (try replace h1 := h1.up hE); (try replace h2 := h2.up hE); (try replace h3 := h3.up hE); (try replace h4 := h4.up hE); (try replace h5 := h5.up hE); (try replace h6 := h6.up hE); (try replace h7 := h7.up hE); (try replace h8 := h8.up hE); (try replace h9 := h9.up hE); (try replace B2 := B2.up hE); (try replace B3 := B3.up hE); (try replace B4 := B4.up hE); (try replace B5 := B5.up hE); (try replace B6 := B6.up hE); (try clear hN hE); (try dsimp at B1))
  (repeat (first | refine vo_pure rfl rfl ?_ | refine vs_seq ?_ | refine vs_region ?_ | refine vo_nil ?_ | refine fin_seq ?_ | refine vs_block ?_ | refine vo_fieldAddr rfl rfl ?_ | refine vo_loadB rfl (by assumption) rfl rfl ?_ | refine vo_val _ (runs_lenL rfl) rfl ?_))
  refine vs_loop (fun k : Nat => (8, .int .i64 (k : Int)) :: (7, .int .i64 (x.parent.length : Int)) :: (6, .slice p1 x.parent.length n1) :: (1, .pointer (some ⟨b1, 0, none⟩)) :: []) (fun k w' => k ≤ x.parent.length ∧ (∀ i : Nat, i < k → TreeAt x.parent x.res i) ∧ w' = w1) (fun k => x.parent.length - k) 0 ⟨Nat.zero_le _, fun i hi => by omega, rfl⟩ (by ((repeat (refine sub_cons rfl ?_)); exact sub_nil)) ?_
  rintro k w2 ⟨hk, hn, rfl⟩
  (repeat (first | refine vo_pure rfl rfl ?_ | refine vs_seq ?_ | refine vs_region ?_ | refine vo_nil ?_ | refine fin_seq ?_))
  refine vs_cond rfl (fun hc => ?_) (fun hc => ?_)
  · have hlt : k < x.parent.length := by simpa using hc
    have next : TreeAt x.parent x.res k → ∀ i : Nat, i < k + 1 → TreeAt x.parent x.res i := fun ht i hi => by
      rcases Nat.lt_or_ge i k with h' | h'
      · exact hn i h'
      · obtain rfl : i = k := by omega
        exact ht
    (repeat (first | refine vo_pure rfl rfl ?_ | refine vs_seq ?_ | refine vs_region ?_ | refine fin_seq ?_ | refine vs_skip ?_ | refine vs_block ?_))
    (first | refine vo_idxI rfl rfl h1 rfl (by exact hlt) ?_ | refine vq_idxI rfl rfl h1 rfl (by exact hlt) ?_)
    intro ad hcell hI
    (repeat (first | refine vo_pure rfl rfl ?_ | refine vs_seq ?_ | refine vs_region ?_ | refine vo_nil ?_ | refine fin_seq ?_ | refine vo_load rfl (by assumption) rfl ?_))
    (first | refine vo_split (fun hc => ?_) (fun hc => ?_) | refine vq_split (fun hc => ?_) (fun hc => ?_))
    · have h0 : k = 0 := by simpa using hc
      (repeat (first | refine vo_pure rfl rfl ?_ | refine vo_guard_take rfl rfl ?_))
      (first | refine vo_split (fun hc => ?_) (fun hc => ?_) | refine vq_split (fun hc => ?_) (fun hc => ?_))
      · (repeat (first | refine vo_pure rfl rfl ?_ | refine vo_guard_take rfl rfl ?_ | refine vo_guard_skip rfl rfl rfl rfl ?_ | refine vo_guard_undef rfl rfl rfl ?_ | refine vs_seq ?_ | refine vs_region ?_ | refine vo_nil ?_ | refine fin_seq ?_ | refine vs_ret ?_ | refine fin_seq_ret ?_ | refine fin_blk_ret ?_ | refine fin_loop_ret ?_ | refine vs_cond_true rfl ?_))
        (first | refine fin_ret1 Tryd.results53 rfl ?_ | refine fin_end1 Tryd.results53 rfl ?_ | refine fin_ret2 Tryd.results53 rfl rfl ?_ | refine fin_retC1 Tryd.results53 rfl (by assumption) rfl rfl ?_ | refine fin_retC Tryd.results53 rfl (by assumption) rfl ?_)
        refine ⟨?_, hb⟩
        rw [tf_f]
        intro ht
        have := ((ht k hlt).1 hlt).1 h0
        simp at hc
        exact hc this
      · have hp : x.parent[k] = -1 := by simpa using hc
        (repeat (first | refine vo_guard_take rfl rfl ?_ | refine vo_fieldAddr rfl rfl ?_ | refine vo_loadB rfl (by assumption) rfl rfl ?_))
        (first | refine vo_idxJ (0) rfl rfl (by omega) h2 rfl (by omega) ?_ | refine vq_idxJ (0) rfl rfl (by omega) h2 rfl (by omega) ?_)
        intro ad' hcell' hI'
        (repeat (first | refine vo_pure rfl rfl ?_ | refine vo_guard_take rfl rfl ?_ | refine vo_load rfl (by assumption) rfl ?_))
        (first | refine vo_split (fun hc => ?_) (fun hc => ?_) | refine vq_split (fun hc => ?_) (fun hc => ?_))
        · (repeat (first | refine vo_pure rfl rfl ?_ | refine vo_guard_skip rfl rfl rfl rfl ?_ | refine vo_guard_undef rfl rfl rfl ?_ | refine vs_seq ?_ | refine vs_region ?_ | refine vo_nil ?_ | refine fin_seq ?_ | refine vs_ret ?_ | refine fin_seq_ret ?_ | refine fin_blk_ret ?_ | refine fin_loop_ret ?_ | refine vs_cond_true rfl ?_))
          (first | refine fin_ret1 Tryd.results53 rfl ?_ | refine fin_end1 Tryd.results53 rfl ?_ | refine fin_ret2 Tryd.results53 rfl rfl ?_ | refine fin_retC1 Tryd.results53 rfl (by assumption) rfl rfl ?_ | refine fin_retC Tryd.results53 rfl (by assumption) rfl ?_)
          refine ⟨?_, hb⟩
          rw [tf_f]
          intro ht
          have := (ht k hlt).2 (by omega) h0
          simp at hc
          exact hc this
        · have hz : x.res[0] = 0 := by simpa using hc
          (repeat (first | refine vo_pure rfl rfl ?_ | refine vo_guard_take rfl rfl ?_))
          (first | refine vo_split (fun hc => ?_) (fun hc => ?_) | refine vq_split (fun hc => ?_) (fun hc => ?_))
          · simp at hc
            omega
          · (repeat (first | refine vo_pure rfl rfl ?_ | refine vo_guard_take rfl rfl ?_ | refine vo_guard_skip rfl rfl rfl rfl ?_ | refine vs_region ?_ | refine vo_nil ?_ | refine fin_seq ?_ | refine vs_skip ?_ | refine vs_cond_false rfl ?_ | refine fin_blk ?_ | refine vo_val _ (runs_add rfl rfl (by omega)) rfl ?_))
            refine fin_loop (k + 1) ⟨by omega, next ⟨fun _ => ⟨fun _ => hp, fun h => by omega⟩, fun _ _ => hz⟩, rfl⟩ (by omega) (by ((repeat (refine sub_cons rfl ?_)); exact sub_nil))
    · have h0 : ¬ k = 0 := by simpa using hc
      (repeat (first | refine vo_pure rfl rfl ?_ | refine vo_guard_take rfl rfl ?_ | refine vo_guard_skip rfl rfl rfl rfl ?_ | refine vo_guard_undef rfl rfl rfl ?_))
      (first | refine vo_split (fun hc => ?_) (fun hc => ?_) | refine vq_split (fun hc => ?_) (fun hc => ?_))
      · (repeat (first | refine vo_pure rfl rfl ?_ | refine vo_guard_take rfl rfl ?_ | refine vo_val _ (runs_sub rfl rfl (by omega)) rfl ?_))
        (refine vo_call rfl rfl ?_; refine Calls.mono (c52) ?_; rintro _ _ ⟨rfl, rfl⟩; refine ⟨_, rfl, ?_⟩)
        (repeat (first | refine vo_pure rfl rfl ?_ | refine vo_guard_take rfl rfl ?_ | refine vo_nil ?_ | refine fin_seq ?_))
        refine vs_cond rfl (fun hc => ?_) (fun hc => ?_)
        · (repeat (first | refine vo_pure rfl rfl ?_ | refine vs_seq ?_ | refine vs_region ?_ | refine vo_nil ?_ | refine fin_seq ?_ | refine vs_ret ?_ | refine fin_seq_ret ?_ | refine fin_blk_ret ?_ | refine fin_loop_ret ?_))
          (first | refine fin_ret1 Tryd.results53 rfl ?_ | refine fin_end1 Tryd.results53 rfl ?_ | refine fin_ret2 Tryd.results53 rfl rfl ?_ | refine fin_retC1 Tryd.results53 rfl (by assumption) rfl rfl ?_ | refine fin_retC Tryd.results53 rfl (by assumption) rfl ?_)
          refine ⟨?_, hb⟩
          rw [tf_f]
          intro ht
          have := ((ht k hlt).1 hlt).2 (by omega)
          simp at hc
          omega
        · (repeat (first | refine vo_pure rfl rfl ?_ | refine vs_region ?_ | refine vo_nil ?_ | refine fin_seq ?_ | refine vs_skip ?_ | refine fin_blk ?_ | refine vo_val _ (runs_add rfl rfl (by omega)) rfl ?_))
          simp at hc
          refine fin_loop (k + 1) ⟨by omega, next ⟨fun _ => ⟨fun h => (h0 h).elim, fun _ => by omega⟩, fun _ h => (h0 h).elim⟩, rfl⟩ (by omega) (by ((repeat (refine sub_cons rfl ?_)); exact sub_nil))
      · simp at hc
        omega
  · (repeat (first | refine vo_pure rfl rfl ?_ | refine vs_seq ?_ | refine vs_region ?_ | refine vo_nil ?_ | refine fin_seq ?_ | refine vs_ret ?_ | refine vs_exit ?_ | refine fin_seq_exit ?_ | refine fin_loop_exit ?_ | refine fin_blk_exit rfl ?_))
    (first | refine fin_ret1 Tryd.results53 rfl ?_ | refine fin_end1 Tryd.results53 rfl ?_ | refine fin_ret2 Tryd.results53 rfl rfl ?_ | refine fin_retC1 Tryd.results53 rfl (by assumption) rfl rfl ?_ | refine fin_retC Tryd.results53 rfl (by assumption) rfl ?_)
    have hge : k = x.parent.length := by simp at hc; omega
    exact ⟨by rw [tf_t (show TreeP x.parent x.res from fun i hi => hn i (by omega))], hb⟩
theorem c30 {lo hi : Nat} {cs : List Value} {x : WireD} {n : Int} {w : World} (k1 : Rep.rep lo hi w cs x) (hs : x.parent.length + x.res.length + x.cap.length + x.sink.length ≤ 1048576) : Calls Tryd.prog 30 #[.agg cs.toArray, .int .i64 n] w fun en w' => en = .returned (.bool (tf (WireP x n))) ∧ Ext w w' := by
  obtain ⟨_, _, _, _, rfl, ⟨v1, rfl, h1⟩, ⟨v2, rfl, h2⟩, ⟨v3, rfl, h3⟩, ⟨v4, rfl, h4⟩⟩ := k1
  have hb : Below w.heap.size w w := Below.refl _ _
  refine calls_vs Tryd.func30 Tryd.ntmps30 rfl rfl ?_
  (repeat (first | refine vs_seq ?_ | refine vs_region ?_))
  (refine vo_box rfl rfl rfl ?_; intro b1 w1 hN B1; have zz := hN.eq; have zz := hN.size; have hE := hN.ext; have g1 : w.heap.size ≤ b1 := (by rw [← hN.eq]; exact hb.size); skip; have zz := hE.size; (first | replace hb := hb.trans (hE.mono hb.size) | replace hb := hb.trans (WE.of_ext hE)); (try replace h1 := h1.up hE); (try replace h2 := h2.up hE); (try replace h3 := h3.up hE); (try replace h4 := h4.up hE); (try replace h5 := h5.up hE); (try replace h6 := h6.up hE); (try replace h7 := h7.up hE); (try replace h8 := h8.up hE); (try replace h9 := h9.up hE); (try replace B2 := B2.up hE); (try replace B3 := B3.up hE); (try replace B4 := B4.up hE); (try replace B5 := B5.up hE); (try replace B6 := B6.up hE); (try clear hN hE); (try dsimp at B1))
  (repeat (first | refine vo_pure rfl rfl ?_ | refine vs_seq ?_ | refine vs_region ?_ | refine vo_nil ?_ | refine fin_seq ?_ | refine vo_fieldAddr rfl rfl ?_ | refine vo_loadB rfl (by assumption) rfl rfl ?_))
  (refine vo_call rfl rfl ?_; refine Calls.mono (c51 h1) ?_; rintro _ _ ⟨rfl, rfl⟩; refine ⟨_, rfl, ?_⟩)
  (repeat (first | refine vo_pure rfl rfl ?_ | refine vs_seq ?_ | refine vs_region ?_ | refine vo_nil ?_ | refine fin_seq ?_))
  (refine vo_call rfl rfl ?_; refine Calls.mono (c52) ?_; rintro _ _ ⟨rfl, rfl⟩; refine ⟨_, rfl, ?_⟩)
  (repeat (first | refine vo_pure rfl rfl ?_))
  (first | refine vo_split (fun hc => ?_) (fun hc => ?_) | refine vq_split (fun hc => ?_) (fun hc => ?_))
  case refine_2 =>
    (repeat (first | refine vo_pure rfl rfl ?_ | refine vo_guard_skip rfl rfl rfl rfl ?_ | refine vo_nil ?_ | refine fin_seq ?_ | refine vs_ret ?_))
    (first | refine fin_ret1 Tryd.results30 rfl ?_ | refine fin_end1 Tryd.results30 rfl ?_ | refine fin_ret2 Tryd.results30 rfl rfl ?_ | refine fin_retC1 Tryd.results30 rfl (by assumption) rfl rfl ?_ | refine fin_retC Tryd.results30 rfl (by assumption) rfl ?_)
    refine ⟨?_, hb⟩
    rw [tf_f]
    intro hp
    have := hp.1
    simp at hc
    omega
  have a1 : 1 ≤ x.parent.length ∧ x.parent.length ≤ 8 := by simp at hc; omega
  (repeat (first | refine vo_guard_take rfl rfl ?_ | refine vo_fieldAddr rfl rfl ?_ | refine vo_loadB rfl (by assumption) rfl rfl ?_))
  (refine vo_call rfl rfl ?_; refine Calls.mono (c51 h2) ?_; rintro _ _ ⟨rfl, rfl⟩; refine ⟨_, rfl, ?_⟩)
  (repeat (first | refine vo_pure rfl rfl ?_ | refine vo_guard_take rfl rfl ?_))
  (first | refine vo_split (fun hc => ?_) (fun hc => ?_) | refine vq_split (fun hc => ?_) (fun hc => ?_))
  case refine_2 =>
    (repeat (first | refine vo_pure rfl rfl ?_ | refine vo_guard_skip rfl rfl rfl rfl ?_ | refine vo_nil ?_ | refine fin_seq ?_ | refine vs_ret ?_))
    (first | refine fin_ret1 Tryd.results30 rfl ?_ | refine fin_end1 Tryd.results30 rfl ?_ | refine fin_ret2 Tryd.results30 rfl rfl ?_ | refine fin_retC1 Tryd.results30 rfl (by assumption) rfl rfl ?_ | refine fin_retC Tryd.results30 rfl (by assumption) rfl ?_)
    refine ⟨?_, hb⟩
    rw [tf_f]
    intro hp
    have := hp.2.1
    simp at hc
    omega
  have a2 : x.res.length = x.parent.length := by simp at hc; omega
  (repeat (first | refine vo_guard_take rfl rfl ?_ | refine vo_fieldAddr rfl rfl ?_ | refine vo_loadB rfl (by assumption) rfl rfl ?_))
  (refine vo_call rfl rfl ?_; refine Calls.mono (c51 h3) ?_; rintro _ _ ⟨rfl, rfl⟩; refine ⟨_, rfl, ?_⟩)
  (repeat (first | refine vo_pure rfl rfl ?_ | refine vo_guard_take rfl rfl ?_))
  (first | refine vo_split (fun hc => ?_) (fun hc => ?_) | refine vq_split (fun hc => ?_) (fun hc => ?_))
  case refine_2 =>
    (repeat (first | refine vo_pure rfl rfl ?_ | refine vo_guard_skip rfl rfl rfl rfl ?_ | refine vo_nil ?_ | refine fin_seq ?_ | refine vs_ret ?_))
    (first | refine fin_ret1 Tryd.results30 rfl ?_ | refine fin_end1 Tryd.results30 rfl ?_ | refine fin_ret2 Tryd.results30 rfl rfl ?_ | refine fin_retC1 Tryd.results30 rfl (by assumption) rfl rfl ?_ | refine fin_retC Tryd.results30 rfl (by assumption) rfl ?_)
    refine ⟨?_, hb⟩
    rw [tf_f]
    intro hp
    have := hp.2.2.1
    simp at hc
    omega
  have a3 : x.cap.length = x.parent.length := by simp at hc; omega
  (repeat (first | refine vo_guard_take rfl rfl ?_ | refine vo_loadA rfl (by assumption) rfl rfl ?_))
  (refine vo_call rfl rfl ?_; refine Calls.mono (c53 (mkWire h1 h2 h3 h4) a2) ?_; rintro _ w1 ⟨rfl, hE⟩; refine ⟨_, rfl, ?_⟩; have zz := hE.size; (first | replace hb := hb.trans (hE.mono hb.size) | replace hb := hb.trans (WE.of_ext hE)); (try replace h1 := h1.up hE); (try replace h2 := h2.up hE); (try replace h3 := h3.up hE); (try replace h4 := h4.up hE); (try replace h5 := h5.up hE); (try replace h6 := h6.up hE); (try replace h7 := h7.up hE); (try replace h8 := h8.up hE); (try replace h9 := h9.up hE); (try replace B1 := B1.up hE); (try replace B2 := B2.up hE); (try replace B3 := B3.up hE); (try replace B4 := B4.up hE); (try replace B5 := B5.up hE); (try replace B6 := B6.up hE))
  (repeat (first | refine vo_pure rfl rfl ?_))
  (first | refine vo_split (fun hc => ?_) (fun hc => ?_) | refine vq_split (fun hc => ?_) (fun hc => ?_))
  case refine_2 =>
    (repeat (first | refine vo_pure rfl rfl ?_ | refine vo_guard_skip rfl rfl rfl rfl ?_ | refine vo_nil ?_ | refine fin_seq ?_ | refine vs_ret ?_))
    (first | refine fin_ret1 Tryd.results30 rfl ?_ | refine fin_end1 Tryd.results30 rfl ?_ | refine fin_ret2 Tryd.results30 rfl rfl ?_ | refine fin_retC1 Tryd.results30 rfl (by assumption) rfl rfl ?_ | refine fin_retC Tryd.results30 rfl (by assumption) rfl ?_)
    refine ⟨?_, hb⟩
    rw [tf_f fun hp => tf_not hc hp.2.2.2.2.1]
  have a4 := tf_iff.1 hc
  (repeat (first | refine vo_guard_take rfl rfl ?_ | refine vo_fieldAddr rfl rfl ?_ | refine vo_loadB rfl (by assumption) rfl rfl ?_))
  (refine vo_call rfl rfl ?_; refine Calls.mono (c54 h2) ?_; rintro _ w1 ⟨rfl, hE⟩; refine ⟨_, rfl, ?_⟩; have zz := hE.size; (first | replace hb := hb.trans (hE.mono hb.size) | replace hb := hb.trans (WE.of_ext hE)); (try replace h1 := h1.up hE); (try replace h2 := h2.up hE); (try replace h3 := h3.up hE); (try replace h4 := h4.up hE); (try replace h5 := h5.up hE); (try replace h6 := h6.up hE); (try replace h7 := h7.up hE); (try replace h8 := h8.up hE); (try replace h9 := h9.up hE); (try replace B1 := B1.up hE); (try replace B2 := B2.up hE); (try replace B3 := B3.up hE); (try replace B4 := B4.up hE); (try replace B5 := B5.up hE); (try replace B6 := B6.up hE))
  (repeat (first | refine vo_pure rfl rfl ?_))
  (first | refine vo_split (fun hc => ?_) (fun hc => ?_) | refine vq_split (fun hc => ?_) (fun hc => ?_))
  case refine_2 =>
    (repeat (first | refine vo_pure rfl rfl ?_ | refine vo_guard_skip rfl rfl rfl rfl ?_ | refine vo_nil ?_ | refine fin_seq ?_ | refine vs_ret ?_))
    (first | refine fin_ret1 Tryd.results30 rfl ?_ | refine fin_end1 Tryd.results30 rfl ?_ | refine fin_ret2 Tryd.results30 rfl rfl ?_ | refine fin_retC1 Tryd.results30 rfl (by assumption) rfl rfl ?_ | refine fin_retC Tryd.results30 rfl (by assumption) rfl ?_)
    refine ⟨?_, hb⟩
    rw [tf_f fun hp => tf_not hc hp.2.2.2.2.2.1]
  have a5 := tf_iff.1 hc
  (repeat (first | refine vo_guard_take rfl rfl ?_ | refine vo_fieldAddr rfl rfl ?_ | refine vo_loadB rfl (by assumption) rfl rfl ?_))
  (refine vo_call rfl rfl ?_; refine Calls.mono (c54 h3) ?_; rintro _ w1 ⟨rfl, hE⟩; refine ⟨_, rfl, ?_⟩; have zz := hE.size; (first | replace hb := hb.trans (hE.mono hb.size) | replace hb := hb.trans (WE.of_ext hE)); (try replace h1 := h1.up hE); (try replace h2 := h2.up hE); (try replace h3 := h3.up hE); (try replace h4 := h4.up hE); (try replace h5 := h5.up hE); (try replace h6 := h6.up hE); (try replace h7 := h7.up hE); (try replace h8 := h8.up hE); (try replace h9 := h9.up hE); (try replace B1 := B1.up hE); (try replace B2 := B2.up hE); (try replace B3 := B3.up hE); (try replace B4 := B4.up hE); (try replace B5 := B5.up hE); (try replace B6 := B6.up hE))
  (repeat (first | refine vo_pure rfl rfl ?_))
  (first | refine vo_split (fun hc => ?_) (fun hc => ?_) | refine vq_split (fun hc => ?_) (fun hc => ?_))
  case refine_2 =>
    (repeat (first | refine vo_pure rfl rfl ?_ | refine vo_guard_skip rfl rfl rfl rfl ?_ | refine vo_nil ?_ | refine fin_seq ?_ | refine vs_ret ?_))
    (first | refine fin_ret1 Tryd.results30 rfl ?_ | refine fin_end1 Tryd.results30 rfl ?_ | refine fin_ret2 Tryd.results30 rfl rfl ?_ | refine fin_retC1 Tryd.results30 rfl (by assumption) rfl rfl ?_ | refine fin_retC Tryd.results30 rfl (by assumption) rfl ?_)
    refine ⟨?_, hb⟩
    rw [tf_f fun hp => tf_not hc hp.2.2.2.2.2.2.1]
  have a6 := tf_iff.1 hc
  (repeat (first | refine vo_guard_take rfl rfl ?_ | refine vo_fieldAddr rfl rfl ?_ | refine vo_loadB rfl (by assumption) rfl rfl ?_))
  (refine vo_call rfl rfl ?_; refine Calls.mono (c51 h4) ?_; rintro _ _ ⟨rfl, rfl⟩; refine ⟨_, rfl, ?_⟩)
  (repeat (first | refine vo_pure rfl rfl ?_ | refine vo_guard_take rfl rfl ?_))
  (first | refine vo_split (fun hc => ?_) (fun hc => ?_) | refine vq_split (fun hc => ?_) (fun hc => ?_))
  case refine_2 =>
    (repeat (first | refine vo_pure rfl rfl ?_ | refine vo_guard_skip rfl rfl rfl rfl ?_ | refine vo_nil ?_ | refine fin_seq ?_ | refine vs_ret ?_))
    (first | refine fin_ret1 Tryd.results30 rfl ?_ | refine fin_end1 Tryd.results30 rfl ?_ | refine fin_ret2 Tryd.results30 rfl rfl ?_ | refine fin_retC1 Tryd.results30 rfl (by assumption) rfl rfl ?_ | refine fin_retC Tryd.results30 rfl (by assumption) rfl ?_)
    refine ⟨?_, hb⟩
    rw [tf_f]
    intro hp
    have := hp.2.2.2.1
    simp at hc
    exact hc this
  have a7 : (x.sink.length : Int) = n := by simpa using hc
  (repeat (first | refine vo_pure rfl rfl ?_ | refine vo_guard_take rfl rfl ?_ | refine vo_fieldAddr rfl rfl ?_ | refine vo_loadB rfl (by assumption) rfl rfl ?_ | refine vo_val _ (runs_sub rfl rfl (by omega)) rfl ?_))
  (refine vo_call rfl rfl ?_; refine Calls.mono (c54 h4) ?_; rintro _ w1 ⟨rfl, hE⟩; refine ⟨_, rfl, ?_⟩; have zz := hE.size; (first | replace hb := hb.trans (hE.mono hb.size) | replace hb := hb.trans (WE.of_ext hE)); (try replace h1 := h1.up hE); (try replace h2 := h2.up hE); (try replace h3 := h3.up hE); (try replace h4 := h4.up hE); (try replace h5 := h5.up hE); (try replace h6 := h6.up hE); (try replace h7 := h7.up hE); (try replace h8 := h8.up hE); (try replace h9 := h9.up hE); (try replace B1 := B1.up hE); (try replace B2 := B2.up hE); (try replace B3 := B3.up hE); (try replace B4 := B4.up hE); (try replace B5 := B5.up hE); (try replace B6 := B6.up hE))
  (repeat (first | refine vo_pure rfl rfl ?_ | refine vo_nil ?_ | refine fin_seq ?_ | refine vs_ret ?_))
  (first | refine fin_ret1 Tryd.results30 rfl ?_ | refine fin_end1 Tryd.results30 rfl ?_ | refine fin_ret2 Tryd.results30 rfl rfl ?_ | refine fin_retC1 Tryd.results30 rfl (by assumption) rfl rfl ?_ | refine fin_retC Tryd.results30 rfl (by assumption) rfl ?_)
  refine ⟨?_, hb⟩
  rw [tf_congr (show InR x.sink 0 ((x.parent.length : Int) - 1) ↔ WireP x n from ⟨fun h => ⟨a1, a2, a3, a7, a4, a5, a6, h⟩, fun h => h.2.2.2.2.2.2.2⟩)]
end Go.Proofs.YtahnpokehdlajaaDoor
