/- Tables: which are valid. -/
import Derived.Test.YtahnpokehdlajaaDoorW6
namespace Go.Proofs.YtahnpokehdlajaaDoor
open Go Go.Proofs Go.Proofs.Sv Go.RowKit
attribute [local irreducible] VS VO VQ FinS seqQ blkQ loopQ RunsOp RunsU
attribute [local simp] spl reps Value.cells

theorem c74 {x lo hi : Int} {b1 b2 : Nat} {w : World} (B1 : Blk w b1 [.int .i64 lo] 2) (B2 : Blk w b2 [.int .i64 hi] 2) : Calls Tryd.prog 74 #[.int .i64 x, .pointer (some ⟨b1, 0, none⟩), .pointer (some ⟨b2, 0, none⟩)] w fun en w' => en = .returned (.bool (!(decide (x ≥ lo) && decide (x ≤ hi)))) ∧ w = w' := by
  refine calls_vs Tryd.func74 Tryd.ntmps74 rfl rfl ?_
  (repeat (first | refine vo_pure rfl rfl ?_ | refine vs_seq ?_ | refine vs_region ?_ | refine vo_nil ?_ | refine fin_seq ?_ | refine vo_loadB rfl (by assumption) rfl rfl ?_))
  (refine vo_call rfl rfl ?_; refine Calls.mono (c52) ?_; rintro _ _ ⟨rfl, rfl⟩; refine ⟨_, rfl, ?_⟩)
  (repeat (first | refine vo_pure rfl rfl ?_ | refine vo_nil ?_ | refine fin_seq ?_ | refine vs_ret ?_))
  (first | refine fin_ret1 Tryd.results74 rfl ?_ | refine fin_end1 Tryd.results74 rfl ?_ | refine fin_ret2 Tryd.results74 rfl rfl ?_ | refine fin_retC1 Tryd.results74 rfl (by assumption) rfl rfl ?_ | refine fin_retC Tryd.results74 rfl (by assumption) rfl ?_)
  exact ⟨rfl, rfl⟩
theorem c96 {lo hi : Int} {b1 b2 l h : Nat} {v : Value} {xs : List Int} {w : World} (h1 : SlR l h w v xs) (B1 : Blk w b1 [.int .i64 lo] 2) (B2 : Blk w b2 [.int .i64 hi] 2) : Calls Tryd.prog 96 #[v, .func (.func 74) #[] #[.pointer (some ⟨b1, 0, none⟩), .pointer (some ⟨b2, 0, none⟩)]] w fun en w' => ∃ r : Int, en = .returned (.int .i64 r) ∧ (r ≥ 0 ↔ ¬ InR xs lo hi) ∧ w = w' := by
  have hle := h1.le
  obtain ⟨p, cap, rfl⟩ := h1.len
  refine calls_vs Tryd.func96 Tryd.ntmps96 rfl rfl ?_
  (repeat (first | refine vo_pure rfl rfl ?_ | refine vs_seq ?_ | refine vs_region ?_ | refine vo_nil ?_ | refine fin_seq ?_ | refine vs_block ?_ | refine vo_val _ (runs_lenL rfl) rfl ?_))
  refine vs_loop (fun k : Nat => (8, .int .i64 (k : Int)) :: (7, .int .i64 (xs.length : Int)) :: (0, .slice p xs.length cap) :: (1, .func (.func 74) #[] #[.pointer (some ⟨b1, 0, none⟩), .pointer (some ⟨b2, 0, none⟩)]) :: []) (fun k w' => k ≤ xs.length ∧ (∀ i : Nat, i < k → (hi' : i < xs.length) → lo ≤ xs[i] ∧ xs[i] ≤ hi) ∧ w' = w) (fun k => xs.length - k) 0 ⟨Nat.zero_le _, fun i hi => by omega, rfl⟩ (by ((repeat (refine sub_cons rfl ?_)); exact sub_nil)) ?_
  rintro k w1 ⟨hk, hn, rfl⟩
  (repeat (first | refine vo_pure rfl rfl ?_ | refine vs_seq ?_ | refine vs_region ?_ | refine vo_nil ?_ | refine fin_seq ?_))
  refine vs_cond rfl (fun hc => ?_) (fun hc => ?_)
  · have hlt : k < xs.length := by simpa using hc
    (repeat (first | refine vo_pure rfl rfl ?_ | refine vs_seq ?_ | refine vs_region ?_ | refine vo_nil ?_ | refine fin_seq ?_ | refine vs_skip ?_ | refine vs_block ?_))
    (first | refine vo_idxI rfl rfl h1 rfl (by exact hlt) ?_ | refine vq_idxI rfl rfl h1 rfl (by exact hlt) ?_)
    intro ad hcell hI
    (repeat (first | refine vo_load rfl (by assumption) rfl ?_))
    refine vo_callv rfl rfl rfl ?_
    refine Calls.mono (c74 B1 B2) ?_
    rintro _ _ ⟨rfl, rfl⟩
    refine ⟨_, rfl, ?_⟩
    (repeat (first | refine vo_nil ?_ | refine fin_seq ?_))
    refine vs_cond rfl (fun hc => ?_) (fun hc => ?_)
    · (repeat (first | refine vo_pure rfl rfl ?_ | refine vs_seq ?_ | refine vs_region ?_ | refine vo_nil ?_ | refine fin_seq ?_ | refine vs_ret ?_ | refine fin_seq_ret ?_ | refine fin_blk_ret ?_ | refine fin_loop_ret ?_))
      (first | refine fin_ret1 Tryd.results96 rfl ?_ | refine fin_end1 Tryd.results96 rfl ?_ | refine fin_ret2 Tryd.results96 rfl rfl ?_ | refine fin_retC1 Tryd.results96 rfl (by assumption) rfl rfl ?_ | refine fin_retC Tryd.results96 rfl (by assumption) rfl ?_)
      refine ⟨_, rfl, ⟨fun _ hr => ?_, fun _ => by omega⟩, rfl⟩
      have := inR_get hr k hlt
      simp at hc
      omega
    · (repeat (first | refine vo_pure rfl rfl ?_ | refine vs_region ?_ | refine vo_nil ?_ | refine fin_seq ?_ | refine vs_skip ?_ | refine fin_blk ?_ | refine vo_val _ (runs_add rfl rfl (by omega)) rfl ?_))
      refine fin_loop (k + 1) ⟨by omega, ?_, rfl⟩ (by omega) (by ((repeat (refine sub_cons rfl ?_)); exact sub_nil))
      intro i hi' hi''
      rcases Nat.lt_or_ge i k with h' | h'
      · exact hn i h' hi''
      · obtain rfl : i = k := by omega
        simp at hc
        omega
  · (repeat (first | refine vo_pure rfl rfl ?_ | refine vs_seq ?_ | refine vs_region ?_ | refine vo_nil ?_ | refine fin_seq ?_ | refine vs_ret ?_ | refine vs_exit ?_ | refine fin_seq_exit ?_ | refine fin_loop_exit ?_ | refine fin_blk_exit rfl ?_))
    (first | refine fin_ret1 Tryd.results96 rfl ?_ | refine fin_end1 Tryd.results96 rfl ?_ | refine fin_ret2 Tryd.results96 rfl rfl ?_ | refine fin_retC1 Tryd.results96 rfl (by assumption) rfl rfl ?_ | refine fin_retC Tryd.results96 rfl (by assumption) rfl ?_)
    have hge : k = xs.length := by simp at hc; omega
    refine ⟨_, rfl, ⟨fun h => by omega, fun h => (h (inR_at fun i hi' => hn i (by omega) hi')).elim⟩, rfl⟩
theorem c73 {lo hi : Int} {b1 b2 l h : Nat} {v : Value} {xs : List Int} {w : World} (h1 : SlR l h w v xs) (B1 : Blk w b1 [.int .i64 lo] 2) (B2 : Blk w b2 [.int .i64 hi] 2) : Calls Tryd.prog 73 #[v, .func (.func 74) #[] #[.pointer (some ⟨b1, 0, none⟩), .pointer (some ⟨b2, 0, none⟩)]] w fun en w' => en = .returned (.bool (tf (¬ InR xs lo hi))) ∧ w = w' := by
  refine calls_vs Tryd.func73 Tryd.ntmps73 rfl rfl ?_
  (repeat (first | refine vo_pure rfl rfl ?_ | refine vs_seq ?_ | refine vs_region ?_ | refine vo_nil ?_ | refine fin_seq ?_))
  refine vo_call rfl rfl ?_
  refine Calls.mono (c96 h1 B1 B2) ?_
  rintro _ _ ⟨r, rfl, q, rfl⟩
  refine ⟨_, rfl, ?_⟩
  (repeat (first | refine vo_pure rfl rfl ?_ | refine vo_nil ?_ | refine fin_seq ?_ | refine vs_ret ?_))
  (first | refine fin_ret1 Tryd.results73 rfl ?_ | refine fin_end1 Tryd.results73 rfl ?_ | refine fin_ret2 Tryd.results73 rfl rfl ?_ | refine fin_retC1 Tryd.results73 rfl (by assumption) rfl rfl ?_ | refine fin_retC Tryd.results73 rfl (by assumption) rfl ?_)
  refine ⟨?_, rfl⟩
  have : decide (r ≥ 0) = tf (¬ InR xs lo hi) := by
    by_cases hr : InR xs lo hi
    · rw [tf_f (fun h => h hr)]; simpa using fun h => q.1 h hr
    · rw [tf_t hr]; simpa using q.2 hr
  rw [this]
theorem c54 {lo hi : Int} {l h : Nat} {v : Value} {xs : List Int} {w : World} (h1 : SlR l h w v xs) : Calls Tryd.prog 54 #[v, .int .i64 lo, .int .i64 hi] w fun en w' => en = .returned (.bool (tf (InR xs lo hi))) ∧ Ext w w' := by
  have hb : Below w.heap.size w w := Below.refl _ _
  refine calls_vs Tryd.func54 Tryd.ntmps54 rfl rfl ?_
  (repeat (first | refine vs_seq ?_ | refine vs_region ?_))
  (refine vo_box rfl rfl rfl ?_; intro b1 w1 hN B1; have zz := hN.eq; have zz := hN.size; have hE := hN.ext; have g1 : w.heap.size ≤ b1 := (by rw [← hN.eq]; exact hb.size); skip; have zz := hE.size; (first | replace hb := hb.trans (hE.mono hb.size) | replace hb := hb.trans (WE.of_ext hE)); (try replace h1 := h1.up hE); (try replace h2 := h2.up hE); (try replace h3 := h3.up hE); (try replace h4 := h4.up hE); (try replace h5 := h5.up hE); (try replace h6 := h6.up hE); (try replace h7 := h7.up hE); (try replace h8 := h8.up hE); (try replace h9 := h9.up hE); (try replace B2 := B2.up hE); (try replace B3 := B3.up hE); (try replace B4 := B4.up hE); (try replace B5 := B5.up hE); (try replace B6 := B6.up hE); (try clear hN hE); (try dsimp at B1))
  skip
  (refine vo_box rfl rfl rfl ?_; intro b2 w1 hN B2; have zz := hN.eq; have zz := hN.size; have hE := hN.ext; have g2 : w.heap.size ≤ b2 := (by rw [← hN.eq]; exact hb.size); (try have l1_2 : b1 < b2 := (by rw [← hN.eq]; exact B1.lt)); have zz := hE.size; (first | replace hb := hb.trans (hE.mono hb.size) | replace hb := hb.trans (WE.of_ext hE)); (try replace h1 := h1.up hE); (try replace h2 := h2.up hE); (try replace h3 := h3.up hE); (try replace h4 := h4.up hE); (try replace h5 := h5.up hE); (try replace h6 := h6.up hE); (try replace h7 := h7.up hE); (try replace h8 := h8.up hE); (try replace h9 := h9.up hE); (try replace B1 := B1.up hE); (try replace B3 := B3.up hE); (try replace B4 := B4.up hE); (try replace B5 := B5.up hE); (try replace B6 := B6.up hE); (try clear hN hE); (try dsimp at B2))
  (repeat (first | refine vo_pure rfl rfl ?_ | refine vs_seq ?_ | refine vs_region ?_ | refine vo_nil ?_ | refine fin_seq ?_))
  (refine vo_call rfl rfl ?_; refine Calls.mono (c73 h1 B1 B2) ?_; rintro _ _ ⟨rfl, rfl⟩; refine ⟨_, rfl, ?_⟩)
  (repeat (first | refine vo_pure rfl rfl ?_ | refine vo_nil ?_ | refine fin_seq ?_ | refine vs_ret ?_))
  (first | refine fin_ret1 Tryd.results54 rfl ?_ | refine fin_end1 Tryd.results54 rfl ?_ | refine fin_ret2 Tryd.results54 rfl rfl ?_ | refine fin_retC1 Tryd.results54 rfl (by assumption) rfl rfl ?_ | refine fin_retC Tryd.results54 rfl (by assumption) rfl ?_)
  refine ⟨?_, hb⟩
  rw [tf_neg, tf_congr Classical.not_not]
theorem c76 {l h : Nat} {v : Value} {xs : List Int} {w : World} (k1 : SlR l h w v xs) : Calls Tryd.prog 76 #[v] w fun en w' => en = .returned (.bool (tf (Inc xs))) ∧ Ext w w' := by
  have hb : Below w.heap.size w w := Below.refl _ _
  have hle := k1.le
  obtain ⟨p, cap, rfl⟩ := k1.len
  refine calls_vs Tryd.func76 Tryd.ntmps76 rfl rfl ?_
  (repeat (first | refine vo_pure rfl rfl ?_ | refine vs_seq ?_ | refine vs_region ?_ | refine vo_nil ?_ | refine fin_seq ?_ | refine vs_block ?_))
  refine vs_loop (fun k : Nat => (3, .int .i64 (k : Int)) :: (0, .slice p xs.length cap) :: []) (fun k w' => 1 ≤ k ∧ (k ≤ xs.length ∨ k = 1) ∧ (∀ i : Nat, i + 1 < k → (hi' : i + 1 < xs.length) → xs[i] < xs[i + 1]) ∧ Below w.heap.size w w') (fun k => xs.length - k) 1 ⟨Nat.le_refl _, .inr rfl, fun i hi => by omega, hb⟩ (by ((repeat (refine sub_cons rfl ?_)); exact sub_nil)) ?_
  clear hb
  rintro k w2 ⟨hk, hk', hn, hb⟩
  have h1 := k1.up hb
  (repeat (first | refine vo_pure rfl rfl ?_ | refine vs_seq ?_ | refine vs_region ?_ | refine vo_nil ?_ | refine fin_seq ?_ | refine vo_val _ (runs_lenL rfl) rfl ?_))
  refine vs_cond rfl (fun hc => ?_) (fun hc => ?_)
  · have hlt : k < xs.length := by simpa using hc
    (repeat (first | refine vs_seq ?_ | refine fin_seq ?_ | refine vs_skip ?_ | refine vs_block ?_ | refine vs_drawn (by kernel_rfl) ?_ | refine vq_pure rfl rfl ?_ | refine vq_val _ (fun _ _ => runs_sub rfl rfl (by omega)) rfl ?_))
    (first | refine vo_idxJ (k - 1) rfl rfl (by omega) h1 rfl (by omega) ?_ | refine vq_idxJ (k - 1) rfl rfl (by omega) h1 rfl (by omega) ?_)
    intro b o hcell hI
    (repeat (first | refine vq_pure rfl rfl ?_ | refine vq_load rfl (by assumption) rfl rfl ?_))
    (first | refine vo_idxI rfl rfl h1 rfl (by exact hlt) ?_ | refine vq_idxI rfl rfl h1 rfl (by exact hlt) ?_)
    intro b' o' hcell' hI'
    (repeat (first | refine vq_pure rfl rfl ?_ | refine vq_load rfl (by assumption) rfl rfl ?_))
    (refine vq_nil ?_; intro w1 hE; (try replace h1 := h1.up hE); (try replace h2 := h2.up hE); (try replace h3 := h3.up hE); (try replace h4 := h4.up hE); (try replace h5 := h5.up hE); (try replace h6 := h6.up hE); (try replace h7 := h7.up hE); (try replace h8 := h8.up hE); (try replace h9 := h9.up hE); (try replace B1 := B1.up hE); (try replace B2 := B2.up hE); (try replace B3 := B3.up hE); (try replace B4 := B4.up hE); (try replace B5 := B5.up hE); (try replace B6 := B6.up hE); have zz := hE.size; (first | replace hb := hb.trans (hE.mono hb.size) | replace hb := hb.trans (WE.of_ext hE)); (try clear hE))
    (repeat (first | refine fin_seq ?_))
    refine vs_cond rfl (fun hc => ?_) (fun hc => ?_)
    · (repeat (first | refine vo_pure rfl rfl ?_ | refine vs_seq ?_ | refine vs_region ?_ | refine vo_nil ?_ | refine fin_seq ?_ | refine vs_ret ?_ | refine fin_seq_ret ?_ | refine fin_blk_ret ?_ | refine fin_loop_ret ?_))
      (first | refine fin_ret1 Tryd.results76 rfl ?_ | refine fin_end1 Tryd.results76 rfl ?_ | refine fin_ret2 Tryd.results76 rfl rfl ?_ | refine fin_retC1 Tryd.results76 rfl (by assumption) rfl rfl ?_ | refine fin_retC Tryd.results76 rfl (by assumption) rfl ?_)
      refine ⟨?_, hb⟩
      rw [tf_f]
      intro hinc
      have := hinc (k - 1) (by omega)
      simp only [show k - 1 + 1 = k by omega] at this
      simp at hc
      omega
    · (repeat (first | refine vo_pure rfl rfl ?_ | refine vs_region ?_ | refine vo_nil ?_ | refine fin_seq ?_ | refine vs_skip ?_ | refine fin_blk ?_ | refine vo_val _ (runs_add rfl rfl (by omega)) rfl ?_))
      refine fin_loop (k + 1) ⟨by omega, by omega, ?_, hb⟩ (by omega) (by ((repeat (refine sub_cons rfl ?_)); exact sub_nil))
      intro i hi' hi''
      rcases Nat.lt_or_ge (i + 1) k with h' | h'
      · exact hn i h' hi''
      · obtain rfl : k = i + 1 := by omega
        simp at hc
        simpa using hc
  · (repeat (first | refine vo_pure rfl rfl ?_ | refine vs_seq ?_ | refine vs_region ?_ | refine vo_nil ?_ | refine fin_seq ?_ | refine vs_ret ?_ | refine vs_exit ?_ | refine fin_seq_exit ?_ | refine fin_loop_exit ?_ | refine fin_blk_exit rfl ?_))
    (first | refine fin_ret1 Tryd.results76 rfl ?_ | refine fin_end1 Tryd.results76 rfl ?_ | refine fin_ret2 Tryd.results76 rfl rfl ?_ | refine fin_retC1 Tryd.results76 rfl (by assumption) rfl rfl ?_ | refine fin_retC Tryd.results76 rfl (by assumption) rfl ?_)
    refine ⟨?_, hb⟩
    rw [tf_t]
    intro i hi'
    simp at hc
    exact hn i (by omega) hi'
theorem c59 {l h : Nat} {v : Value} {xs : List Int} {w : World} (h1 : SlR l h w v xs) : Calls Tryd.prog 59 #[v] w fun en w' => en = .returned (.bool (tf (AxisP xs))) ∧ Ext w w' := by
  have hb : Below w.heap.size w w := Below.refl _ _
  refine calls_vs Tryd.func59 Tryd.ntmps59 rfl rfl ?_
  (repeat (first | refine vo_pure rfl rfl ?_ | refine vs_seq ?_ | refine vs_region ?_ | refine vo_nil ?_ | refine fin_seq ?_))
  (refine vo_call rfl rfl ?_; refine Calls.mono (c51 h1) ?_; rintro _ _ ⟨rfl, rfl⟩; refine ⟨_, rfl, ?_⟩)
  skip
  (refine vo_call rfl rfl ?_; refine Calls.mono (c52) ?_; rintro _ _ ⟨rfl, rfl⟩; refine ⟨_, rfl, ?_⟩)
  (repeat (first | refine vo_pure rfl rfl ?_))
  (first | refine vo_split (fun hc => ?_) (fun hc => ?_) | refine vq_split (fun hc => ?_) (fun hc => ?_))
  · have hc1 := hc
    simp only [Bool.and_eq_true, decide_eq_true_eq] at hc1
    (repeat (first | refine vo_pure rfl rfl ?_ | refine vo_guard_take rfl rfl ?_))
    (refine vo_call rfl rfl ?_; refine Calls.mono (c54 h1) ?_; rintro _ w1 ⟨rfl, hE⟩; refine ⟨_, rfl, ?_⟩; have zz := hE.size; (first | replace hb := hb.trans (hE.mono hb.size) | replace hb := hb.trans (WE.of_ext hE)); (try replace h1 := h1.up hE); (try replace h2 := h2.up hE); (try replace h3 := h3.up hE); (try replace h4 := h4.up hE); (try replace h5 := h5.up hE); (try replace h6 := h6.up hE); (try replace h7 := h7.up hE); (try replace h8 := h8.up hE); (try replace h9 := h9.up hE); (try replace B1 := B1.up hE); (try replace B2 := B2.up hE); (try replace B3 := B3.up hE); (try replace B4 := B4.up hE); (try replace B5 := B5.up hE); (try replace B6 := B6.up hE))
    (repeat (first | refine vo_pure rfl rfl ?_))
    (first | refine vo_split (fun hc => ?_) (fun hc => ?_) | refine vq_split (fun hc => ?_) (fun hc => ?_))
    · (repeat (first | refine vo_pure rfl rfl ?_ | refine vo_guard_take rfl rfl ?_))
      (refine vo_call rfl rfl ?_; refine Calls.mono (c76 h1) ?_; rintro _ w1 ⟨rfl, hE⟩; refine ⟨_, rfl, ?_⟩; have zz := hE.size; (first | replace hb := hb.trans (hE.mono hb.size) | replace hb := hb.trans (WE.of_ext hE)); (try replace h1 := h1.up hE); (try replace h2 := h2.up hE); (try replace h3 := h3.up hE); (try replace h4 := h4.up hE); (try replace h5 := h5.up hE); (try replace h6 := h6.up hE); (try replace h7 := h7.up hE); (try replace h8 := h8.up hE); (try replace h9 := h9.up hE); (try replace B1 := B1.up hE); (try replace B2 := B2.up hE); (try replace B3 := B3.up hE); (try replace B4 := B4.up hE); (try replace B5 := B5.up hE); (try replace B6 := B6.up hE))
      (repeat (first | refine vo_pure rfl rfl ?_ | refine vo_nil ?_ | refine fin_seq ?_ | refine vs_ret ?_))
      (first | refine fin_ret1 Tryd.results59 rfl ?_ | refine fin_end1 Tryd.results59 rfl ?_ | refine fin_ret2 Tryd.results59 rfl rfl ?_ | refine fin_retC1 Tryd.results59 rfl (by assumption) rfl rfl ?_ | refine fin_retC Tryd.results59 rfl (by assumption) rfl ?_)
      refine ⟨?_, hb⟩
      have : Inc xs ↔ AxisP xs := ⟨fun h => ⟨by omega, tf_iff.1 hc, h⟩, fun h => h.2.2⟩
      rw [tf_congr this]
    · (repeat (first | refine vo_pure rfl rfl ?_ | refine vo_guard_skip rfl rfl rfl rfl ?_ | refine vo_nil ?_ | refine fin_seq ?_ | refine vs_ret ?_))
      (first | refine fin_ret1 Tryd.results59 rfl ?_ | refine fin_end1 Tryd.results59 rfl ?_ | refine fin_ret2 Tryd.results59 rfl rfl ?_ | refine fin_retC1 Tryd.results59 rfl (by assumption) rfl rfl ?_ | refine fin_retC Tryd.results59 rfl (by assumption) rfl ?_)
      refine ⟨?_, hb⟩
      rw [tf_f fun h => tf_not hc h.2.1]
  · (repeat (first | refine vo_pure rfl rfl ?_ | refine vo_guard_skip rfl rfl rfl rfl ?_ | refine vo_nil ?_ | refine fin_seq ?_ | refine vs_ret ?_))
    (first | refine fin_ret1 Tryd.results59 rfl ?_ | refine fin_end1 Tryd.results59 rfl ?_ | refine fin_ret2 Tryd.results59 rfl rfl ?_ | refine fin_retC1 Tryd.results59 rfl (by assumption) rfl rfl ?_ | refine fin_retC Tryd.results59 rfl (by assumption) rfl ?_)
    refine ⟨?_, hb⟩
    rw [tf_f]
    rintro ⟨h, _⟩
    simp at hc
    omega
theorem c35 {lo hi : Nat} {cs : List Value} {x : TableD} {w : World} (k1 : Rep.rep lo hi w cs x) (hs : x.slews.length + x.loads.length + x.values.length ≤ 1048576) : Calls Tryd.prog 35 #[.agg cs.toArray] w fun en w' => en = .returned (.bool (tf (TableP x.slews x.loads x.values))) ∧ Ext w w' := by
  obtain ⟨_, _, _, rfl, ⟨v1, rfl, h1⟩, ⟨v2, rfl, h2⟩, ⟨v3, rfl, h3⟩⟩ := k1
  obtain ⟨p1, n1, rfl⟩ := h1.len
  obtain ⟨p2, n2, rfl⟩ := h2.len
  obtain ⟨p3, n3, rfl⟩ := h3.len
  have hb : Below w.heap.size w w := Below.refl _ _
  refine calls_vs Tryd.func35 Tryd.ntmps35 rfl rfl ?_
  (repeat (first | refine vs_seq ?_ | refine vs_region ?_))
  (refine vo_box rfl rfl rfl ?_; intro b1 w1 hN B1; have zz := hN.eq; have zz := hN.size; have hE := hN.ext; have g1 : w.heap.size ≤ b1 := (by rw [← hN.eq]; exact hb.size); skip; have zz := hE.size; (first | replace hb := hb.trans (hE.mono hb.size) | replace hb := hb.trans (WE.of_ext hE)); (try replace h1 := h1.up hE); (try replace h2 := h2.up hE); (try replace h3 := h3.up hE); (try replace h4 := h4.up hE); (try replace h5 := h5.up hE); (try replace h6 := h6.up hE); (try replace h7 := h7.up hE); (try replace h8 := h8.up hE); (try replace h9 := h9.up hE); (try replace B2 := B2.up hE); (try replace B3 := B3.up hE); (try replace B4 := B4.up hE); (try replace B5 := B5.up hE); (try replace B6 := B6.up hE); (try clear hN hE); (try dsimp at B1))
  (repeat (first | refine vo_pure rfl rfl ?_ | refine vs_seq ?_ | refine vs_region ?_ | refine vo_nil ?_ | refine fin_seq ?_ | refine vo_fieldAddr rfl rfl ?_ | refine vo_loadB rfl (by assumption) rfl rfl ?_))
  (refine vo_call rfl rfl ?_; refine Calls.mono (c59 h1) ?_; rintro _ w1 ⟨rfl, hE⟩; refine ⟨_, rfl, ?_⟩; have zz := hE.size; (first | replace hb := hb.trans (hE.mono hb.size) | replace hb := hb.trans (WE.of_ext hE)); (try replace h1 := h1.up hE); (try replace h2 := h2.up hE); (try replace h3 := h3.up hE); (try replace h4 := h4.up hE); (try replace h5 := h5.up hE); (try replace h6 := h6.up hE); (try replace h7 := h7.up hE); (try replace h8 := h8.up hE); (try replace h9 := h9.up hE); (try replace B1 := B1.up hE); (try replace B2 := B2.up hE); (try replace B3 := B3.up hE); (try replace B4 := B4.up hE); (try replace B5 := B5.up hE); (try replace B6 := B6.up hE))
  (repeat (first | refine vo_pure rfl rfl ?_))
  (first | refine vo_split (fun hc => ?_) (fun hc => ?_) | refine vq_split (fun hc => ?_) (fun hc => ?_))
  · have hc1 := tf_iff.1 hc
    (repeat (first | refine vo_guard_take rfl rfl ?_ | refine vo_fieldAddr rfl rfl ?_ | refine vo_loadB rfl (by assumption) rfl rfl ?_))
    (refine vo_call rfl rfl ?_; refine Calls.mono (c59 h2) ?_; rintro _ w1 ⟨rfl, hE⟩; refine ⟨_, rfl, ?_⟩; have zz := hE.size; (first | replace hb := hb.trans (hE.mono hb.size) | replace hb := hb.trans (WE.of_ext hE)); (try replace h1 := h1.up hE); (try replace h2 := h2.up hE); (try replace h3 := h3.up hE); (try replace h4 := h4.up hE); (try replace h5 := h5.up hE); (try replace h6 := h6.up hE); (try replace h7 := h7.up hE); (try replace h8 := h8.up hE); (try replace h9 := h9.up hE); (try replace B1 := B1.up hE); (try replace B2 := B2.up hE); (try replace B3 := B3.up hE); (try replace B4 := B4.up hE); (try replace B5 := B5.up hE); (try replace B6 := B6.up hE))
    (repeat (first | refine vo_pure rfl rfl ?_))
    (first | refine vo_split (fun hc => ?_) (fun hc => ?_) | refine vq_split (fun hc => ?_) (fun hc => ?_))
    · have hc2 := tf_iff.1 hc
      have hm : x.slews.length * x.loads.length ≤ 4 * 4 := Nat.mul_le_mul hc1.1.2 hc2.1.2
      rw [← Int.ofNat_le] at hm
      simp only [Int.natCast_mul] at hm
      (repeat (first | refine vo_guard_take rfl rfl ?_ | refine vo_fieldAddr rfl rfl ?_ | refine vo_loadB rfl (by assumption) rfl rfl ?_ | refine vo_val _ (runs_lenL rfl) rfl ?_))
      refine vo_val _ (runs_mul rfl rfl ⟨?_, ?_⟩) rfl ?_
      · have : (0 : Int) ≤ (x.slews.length : Int) * (x.loads.length : Int) := Int.mul_nonneg (by omega) (by omega)
        omega
      · omega
      (repeat (first | refine vo_pure rfl rfl ?_ | refine vo_guard_take rfl rfl ?_))
      (first | refine vo_split (fun hc => ?_) (fun hc => ?_) | refine vq_split (fun hc => ?_) (fun hc => ?_))
      · (repeat (first | refine vo_guard_take rfl rfl ?_ | refine vo_fieldAddr rfl rfl ?_ | refine vo_loadB rfl (by assumption) rfl rfl ?_))
        (refine vo_call rfl rfl ?_; refine Calls.mono (c54 h3) ?_; rintro _ w1 ⟨rfl, hE⟩; refine ⟨_, rfl, ?_⟩; have zz := hE.size; (first | replace hb := hb.trans (hE.mono hb.size) | replace hb := hb.trans (WE.of_ext hE)); (try replace h1 := h1.up hE); (try replace h2 := h2.up hE); (try replace h3 := h3.up hE); (try replace h4 := h4.up hE); (try replace h5 := h5.up hE); (try replace h6 := h6.up hE); (try replace h7 := h7.up hE); (try replace h8 := h8.up hE); (try replace h9 := h9.up hE); (try replace B1 := B1.up hE); (try replace B2 := B2.up hE); (try replace B3 := B3.up hE); (try replace B4 := B4.up hE); (try replace B5 := B5.up hE); (try replace B6 := B6.up hE))
        (repeat (first | refine vo_pure rfl rfl ?_ | refine vo_nil ?_ | refine fin_seq ?_ | refine vs_ret ?_))
        (first | refine fin_ret1 Tryd.results35 rfl ?_ | refine fin_end1 Tryd.results35 rfl ?_ | refine fin_ret2 Tryd.results35 rfl rfl ?_ | refine fin_retC1 Tryd.results35 rfl (by assumption) rfl rfl ?_ | refine fin_retC Tryd.results35 rfl (by assumption) rfl ?_)
        refine ⟨?_, hb⟩
        have : InR x.values (-1000000) 1000000 ↔ TableP x.slews x.loads x.values := ⟨fun h => ⟨hc1, hc2, by simp at hc; exact_mod_cast hc, h⟩, fun h => h.2.2.2⟩
        rw [tf_congr this]
      · (repeat (first | refine vo_pure rfl rfl ?_ | refine vo_guard_skip rfl rfl rfl rfl ?_ | refine vo_nil ?_ | refine fin_seq ?_ | refine vs_ret ?_))
        (first | refine fin_ret1 Tryd.results35 rfl ?_ | refine fin_end1 Tryd.results35 rfl ?_ | refine fin_ret2 Tryd.results35 rfl rfl ?_ | refine fin_retC1 Tryd.results35 rfl (by assumption) rfl rfl ?_ | refine fin_retC Tryd.results35 rfl (by assumption) rfl ?_)
        refine ⟨?_, hb⟩
        rw [tf_f]
        rintro ⟨_, _, h, _⟩
        simp at hc
        exact hc (by exact_mod_cast h)
    · (repeat (first | refine vo_pure rfl rfl ?_ | refine vo_guard_skip rfl rfl rfl rfl ?_ | refine vo_nil ?_ | refine fin_seq ?_ | refine vs_ret ?_))
      (first | refine fin_ret1 Tryd.results35 rfl ?_ | refine fin_end1 Tryd.results35 rfl ?_ | refine fin_ret2 Tryd.results35 rfl rfl ?_ | refine fin_retC1 Tryd.results35 rfl (by assumption) rfl rfl ?_ | refine fin_retC Tryd.results35 rfl (by assumption) rfl ?_)
      exact ⟨by rw [tf_f fun h => tf_not hc h.2.1], hb⟩
  · (repeat (first | refine vo_pure rfl rfl ?_ | refine vo_guard_skip rfl rfl rfl rfl ?_ | refine vo_nil ?_ | refine fin_seq ?_ | refine vs_ret ?_))
    (first | refine fin_ret1 Tryd.results35 rfl ?_ | refine fin_end1 Tryd.results35 rfl ?_ | refine fin_ret2 Tryd.results35 rfl rfl ?_ | refine fin_retC1 Tryd.results35 rfl (by assumption) rfl rfl ?_ | refine fin_retC Tryd.results35 rfl (by assumption) rfl ?_)
    exact ⟨by rw [tf_f fun h => tf_not hc h.1], hb⟩
theorem c58 {l h : Nat} {v : Value} {xs : List Int} {w : World} (k1 : SlR l h w v xs) : Calls Tryd.prog 58 #[v] w fun en w' => en = .returned (.bool (tf (AxisP xs))) ∧ Ext w w' := by
  have hb : Below w.heap.size w w := Below.refl _ _
  have hle := k1.le
  obtain ⟨p, cap, rfl⟩ := k1.len
  refine calls_vs Tryd.func58 Tryd.ntmps58 rfl rfl ?_
  (repeat (first | refine vo_pure rfl rfl ?_ | refine vs_seq ?_ | refine vs_region ?_ | refine vo_nil ?_ | refine fin_seq ?_ | refine vs_block ?_))
  refine vs_loop (fun k : Nat => (3, .int .i64 (k : Int)) :: (0, .slice p xs.length cap) :: []) (fun k w' => k ≤ xs.length ∧ (∀ i : Nat, i < k → (hi' : i < xs.length) → 0 ≤ xs[i] ∧ xs[i] ≤ 100000) ∧ (∀ i : Nat, i + 1 < k → (hi' : i + 1 < xs.length) → xs[i] < xs[i + 1]) ∧ Below w.heap.size w w') (fun k => xs.length - k) 0 ⟨Nat.zero_le _, fun i hi => by omega, fun i hi => by omega, hb⟩ (by ((repeat (refine sub_cons rfl ?_)); exact sub_nil)) ?_
  clear hb
  rintro k w2 ⟨hk, hr, hn, hb⟩
  have h1 := k1.up hb
  (repeat (first | refine vo_pure rfl rfl ?_ | refine vs_seq ?_ | refine vs_region ?_ | refine vo_nil ?_ | refine fin_seq ?_ | refine vo_val _ (runs_lenL rfl) rfl ?_))
  refine vs_cond rfl (fun hc => ?_) (fun hc => ?_)
  · have hlt : k < xs.length := by simpa using hc
    (repeat (first | refine vs_seq ?_ | refine fin_seq ?_ | refine vs_skip ?_ | refine vs_block ?_ | refine vs_drawn (by kernel_rfl) ?_ | refine vq_pure rfl rfl ?_))
    (first | refine vo_idxI rfl rfl h1 rfl (by exact hlt) ?_ | refine vq_idxI rfl rfl h1 rfl (by exact hlt) ?_)
    intro b' o' hcell' hI'
    (repeat (first | refine vq_load rfl (by assumption) rfl rfl ?_))
    refine vq_call rfl _ rfl (fun _ hX => Calls.mono c40 (by rintro _ _ ⟨rfl, rfl⟩; exact ⟨rfl, Ext.refl _⟩)) ?_
    (repeat (first | refine vq_pure rfl rfl ?_))
    (first | refine vo_split (fun hc => ?_) (fun hc => ?_) | refine vq_split (fun hc => ?_) (fun hc => ?_))
    · (repeat (first | refine vq_pure rfl rfl ?_ | refine vq_guard_skip rfl rfl rfl rfl ?_ | refine vq_guard_undef rfl rfl rfl ?_))
      (refine vq_nil ?_; intro w1 hE; (try replace h1 := h1.up hE); (try replace h2 := h2.up hE); (try replace h3 := h3.up hE); (try replace h4 := h4.up hE); (try replace h5 := h5.up hE); (try replace h6 := h6.up hE); (try replace h7 := h7.up hE); (try replace h8 := h8.up hE); (try replace h9 := h9.up hE); (try replace B1 := B1.up hE); (try replace B2 := B2.up hE); (try replace B3 := B3.up hE); (try replace B4 := B4.up hE); (try replace B5 := B5.up hE); (try replace B6 := B6.up hE); have zz := hE.size; (first | replace hb := hb.trans (hE.mono hb.size) | replace hb := hb.trans (WE.of_ext hE)); (try clear hE))
      (repeat (first | refine vo_pure rfl rfl ?_ | refine vs_seq ?_ | refine vs_region ?_ | refine vo_nil ?_ | refine fin_seq ?_ | refine vs_ret ?_ | refine fin_seq_ret ?_ | refine fin_blk_ret ?_ | refine fin_loop_ret ?_ | refine vs_cond_true rfl ?_))
      (first | refine fin_ret1 Tryd.results58 rfl ?_ | refine fin_end1 Tryd.results58 rfl ?_ | refine fin_ret2 Tryd.results58 rfl rfl ?_ | refine fin_retC1 Tryd.results58 rfl (by assumption) rfl rfl ?_ | refine fin_retC Tryd.results58 rfl (by assumption) rfl ?_)
      refine ⟨?_, hb⟩
      rw [tf_f]
      intro hp
      have := inR_get hp.2.1 k hlt
      simp at hc
      omega
    · have hc1 : 0 ≤ xs[k] ∧ xs[k] ≤ 100000 := by simpa using hc
      (repeat (first | refine vq_pure rfl rfl ?_ | refine vq_guard_take rfl rfl ?_))
      (first | refine vo_split (fun hc => ?_) (fun hc => ?_) | refine vq_split (fun hc => ?_) (fun hc => ?_))
      · have hc2 : 0 < k := by simpa using hc
        (repeat (first | refine vq_pure rfl rfl ?_ | refine vq_guard_take rfl rfl ?_ | refine vq_val _ (fun _ _ => runs_sub rfl rfl (by omega)) rfl ?_))
        (first | refine vo_idxJ (k - 1) rfl rfl (by omega) h1 rfl (by omega) ?_ | refine vq_idxJ (k - 1) rfl rfl (by omega) h1 rfl (by omega) ?_)
        intro b o hcell hI
        (repeat (first | refine vq_pure rfl rfl ?_ | refine vq_guard_take rfl rfl ?_ | refine vq_load rfl (by assumption) rfl rfl ?_))
        (first | refine vo_idxI rfl rfl h1 rfl (by exact hlt) ?_ | refine vq_idxI rfl rfl h1 rfl (by exact hlt) ?_)
        intro b'' o'' hcell'' hI''
        (repeat (first | refine vq_pure rfl rfl ?_ | refine vq_guard_take rfl rfl ?_ | refine vq_load rfl (by assumption) rfl rfl ?_))
        (refine vq_nil ?_; intro w1 hE; (try replace h1 := h1.up hE); (try replace h2 := h2.up hE); (try replace h3 := h3.up hE); (try replace h4 := h4.up hE); (try replace h5 := h5.up hE); (try replace h6 := h6.up hE); (try replace h7 := h7.up hE); (try replace h8 := h8.up hE); (try replace h9 := h9.up hE); (try replace B1 := B1.up hE); (try replace B2 := B2.up hE); (try replace B3 := B3.up hE); (try replace B4 := B4.up hE); (try replace B5 := B5.up hE); (try replace B6 := B6.up hE); have zz := hE.size; (first | replace hb := hb.trans (hE.mono hb.size) | replace hb := hb.trans (WE.of_ext hE)); (try clear hE))
        (repeat (first | refine fin_seq ?_))
        refine vs_cond rfl (fun hc => ?_) (fun hc => ?_)
        · (repeat (first | refine vo_pure rfl rfl ?_ | refine vs_seq ?_ | refine vs_region ?_ | refine vo_nil ?_ | refine fin_seq ?_ | refine vs_ret ?_ | refine fin_seq_ret ?_ | refine fin_blk_ret ?_ | refine fin_loop_ret ?_))
          (first | refine fin_ret1 Tryd.results58 rfl ?_ | refine fin_end1 Tryd.results58 rfl ?_ | refine fin_ret2 Tryd.results58 rfl rfl ?_ | refine fin_retC1 Tryd.results58 rfl (by assumption) rfl rfl ?_ | refine fin_retC Tryd.results58 rfl (by assumption) rfl ?_)
          refine ⟨?_, hb⟩
          rw [tf_f]
          intro hp
          have := hp.2.2 (k - 1) (by omega)
          simp only [show k - 1 + 1 = k by omega] at this
          simp at hc
          omega
        · (repeat (first | refine vo_pure rfl rfl ?_ | refine vs_region ?_ | refine vo_nil ?_ | refine fin_seq ?_ | refine vs_skip ?_ | refine fin_blk ?_ | refine vo_val _ (runs_add rfl rfl (by omega)) rfl ?_))
          refine fin_loop (k + 1) ⟨by omega, ?_, ?_, hb⟩ (by omega) (by ((repeat (refine sub_cons rfl ?_)); exact sub_nil))
          · intro i hi' hi''
            rcases Nat.lt_or_ge i k with h' | h'
            · exact hr i h' hi''
            · obtain rfl : k = i := by omega
              exact hc1
          · intro i hi' hi''
            rcases Nat.lt_or_ge (i + 1) k with h' | h'
            · exact hn i h' hi''
            · obtain rfl : k = i + 1 := by omega
              simp at hc
              simpa using hc
      · have hc2 : k = 0 := by simpa using hc
        (repeat (first | refine vq_pure rfl rfl ?_ | refine vq_guard_take rfl rfl ?_ | refine vq_guard_skip rfl rfl rfl rfl ?_))
        (refine vq_nil ?_; intro w1 hE; (try replace h1 := h1.up hE); (try replace h2 := h2.up hE); (try replace h3 := h3.up hE); (try replace h4 := h4.up hE); (try replace h5 := h5.up hE); (try replace h6 := h6.up hE); (try replace h7 := h7.up hE); (try replace h8 := h8.up hE); (try replace h9 := h9.up hE); (try replace B1 := B1.up hE); (try replace B2 := B2.up hE); (try replace B3 := B3.up hE); (try replace B4 := B4.up hE); (try replace B5 := B5.up hE); (try replace B6 := B6.up hE); have zz := hE.size; (first | replace hb := hb.trans (hE.mono hb.size) | replace hb := hb.trans (WE.of_ext hE)); (try clear hE))
        (repeat (first | refine vo_pure rfl rfl ?_ | refine vs_region ?_ | refine vo_nil ?_ | refine fin_seq ?_ | refine vs_skip ?_ | refine vs_cond_false rfl ?_ | refine fin_blk ?_ | refine vo_val _ (runs_add rfl rfl (by omega)) rfl ?_))
        refine fin_loop (k + 1) ⟨by omega, ?_, fun i hi' => by omega, hb⟩ (by omega) (by ((repeat (refine sub_cons rfl ?_)); exact sub_nil))
        intro i hi' hi''
        obtain rfl : k = i := by omega
        exact hc1
  · have hge : k = xs.length := by simp at hc; omega
    have hax : (1 ≤ xs.length ∧ xs.length ≤ 4) ↔ AxisP xs := ⟨fun h => ⟨h, inR_at fun i hi' => hr i (by omega) hi', fun i hi' => hn i (by omega) hi'⟩, fun h => h.1⟩
    (repeat (first | refine vo_pure rfl rfl ?_ | refine vs_seq ?_ | refine vs_region ?_ | refine fin_seq ?_ | refine vs_exit ?_ | refine fin_seq_exit ?_ | refine fin_loop_exit ?_ | refine fin_blk_exit rfl ?_ | refine vo_val _ (runs_lenL rfl) rfl ?_))
    (first | refine vo_split (fun hc => ?_) (fun hc => ?_) | refine vq_split (fun hc => ?_) (fun hc => ?_))
    all_goals
      (repeat (first | refine vo_pure rfl rfl ?_ | refine vo_guard_take rfl rfl ?_ | refine vo_guard_skip rfl rfl rfl rfl ?_ | refine vo_nil ?_ | refine fin_seq ?_ | refine vs_ret ?_ | refine vo_val _ (runs_lenL rfl) rfl ?_))
      (first | refine fin_ret1 Tryd.results58 rfl ?_ | refine fin_end1 Tryd.results58 rfl ?_ | refine fin_ret2 Tryd.results58 rfl rfl ?_ | refine fin_retC1 Tryd.results58 rfl (by assumption) rfl rfl ?_ | refine fin_retC Tryd.results58 rfl (by assumption) rfl ?_)
      refine ⟨?_, hb⟩
      rw [← tf_congr hax]
      simp at hc
    · by_cases h4 : xs.length ≤ 4
      · rw [tf_t ⟨by omega, h4⟩]; simp; omega
      · rw [tf_f fun h => h4 h.2]; simp; omega
    · rw [tf_f]
      rintro ⟨h, _⟩
      omega
theorem c34 {lo hi : Nat} {cs : List Value} {x : TableD} {w : World} (k1 : Rep.rep lo hi w cs x) (hs : x.slews.length + x.loads.length + x.values.length ≤ 1048576) : Calls Tryd.prog 34 #[.agg cs.toArray] w fun en w' => en = .returned (.bool (tf (TableP x.slews x.loads x.values))) ∧ Ext w w' := by
  obtain ⟨_, _, _, rfl, ⟨v1, rfl, h1⟩, ⟨v2, rfl, h2⟩, ⟨v3, rfl, h3⟩⟩ := k1
  obtain ⟨p1, n1, rfl⟩ := h1.len
  obtain ⟨p2, n2, rfl⟩ := h2.len
  obtain ⟨p3, n3, rfl⟩ := h3.len
  have hb : Below w.heap.size w w := Below.refl _ _
  refine calls_vs Tryd.func34 Tryd.ntmps34 rfl rfl ?_
  (repeat (first | refine vs_seq ?_ | refine vs_region ?_))
  (refine vo_box rfl rfl rfl ?_; intro b1 w1 hN B1; have zz := hN.eq; have zz := hN.size; have hE := hN.ext; have g1 : w.heap.size ≤ b1 := (by rw [← hN.eq]; exact hb.size); skip; have zz := hE.size; (first | replace hb := hb.trans (hE.mono hb.size) | replace hb := hb.trans (WE.of_ext hE)); (try replace h1 := h1.up hE); (try replace h2 := h2.up hE); (try replace h3 := h3.up hE); (try replace h4 := h4.up hE); (try replace h5 := h5.up hE); (try replace h6 := h6.up hE); (try replace h7 := h7.up hE); (try replace h8 := h8.up hE); (try replace h9 := h9.up hE); (try replace B2 := B2.up hE); (try replace B3 := B3.up hE); (try replace B4 := B4.up hE); (try replace B5 := B5.up hE); (try replace B6 := B6.up hE); (try clear hN hE); (try dsimp at B1))
  (repeat (first | refine vo_pure rfl rfl ?_ | refine vs_seq ?_ | refine vs_region ?_ | refine vo_nil ?_ | refine fin_seq ?_ | refine vo_fieldAddr rfl rfl ?_ | refine vo_loadB rfl (by assumption) rfl rfl ?_))
  (refine vo_call rfl rfl ?_; refine Calls.mono (c58 h1) ?_; rintro _ w1 ⟨rfl, hE⟩; refine ⟨_, rfl, ?_⟩; have zz := hE.size; (first | replace hb := hb.trans (hE.mono hb.size) | replace hb := hb.trans (WE.of_ext hE)); (try replace h1 := h1.up hE); (try replace h2 := h2.up hE); (try replace h3 := h3.up hE); (try replace h4 := h4.up hE); (try replace h5 := h5.up hE); (try replace h6 := h6.up hE); (try replace h7 := h7.up hE); (try replace h8 := h8.up hE); (try replace h9 := h9.up hE); (try replace B1 := B1.up hE); (try replace B2 := B2.up hE); (try replace B3 := B3.up hE); (try replace B4 := B4.up hE); (try replace B5 := B5.up hE); (try replace B6 := B6.up hE))
  (repeat (first | refine vo_pure rfl rfl ?_))
  (first | refine vo_split (fun hc => ?_) (fun hc => ?_) | refine vq_split (fun hc => ?_) (fun hc => ?_))
  · (repeat (first | refine vo_pure rfl rfl ?_ | refine vo_guard_skip rfl rfl rfl rfl ?_ | refine vs_seq ?_ | refine vs_region ?_ | refine vo_nil ?_ | refine fin_seq ?_ | refine vs_ret ?_ | refine fin_seq_ret ?_ | refine vs_cond_true rfl ?_))
    (first | refine fin_ret1 Tryd.results34 rfl ?_ | refine fin_end1 Tryd.results34 rfl ?_ | refine fin_ret2 Tryd.results34 rfl rfl ?_ | refine fin_retC1 Tryd.results34 rfl (by assumption) rfl rfl ?_ | refine fin_retC Tryd.results34 rfl (by assumption) rfl ?_)
    exact ⟨by rw [tf_f fun h => tf_not (by simpa using hc) h.1], hb⟩
  have hc1 : AxisP x.slews := tf_iff.1 (by simpa using hc)
  (repeat (first | refine vo_guard_take rfl rfl ?_ | refine vo_fieldAddr rfl rfl ?_ | refine vo_loadB rfl (by assumption) rfl rfl ?_))
  (refine vo_call rfl rfl ?_; refine Calls.mono (c58 h2) ?_; rintro _ w1 ⟨rfl, hE⟩; refine ⟨_, rfl, ?_⟩; have zz := hE.size; (first | replace hb := hb.trans (hE.mono hb.size) | replace hb := hb.trans (WE.of_ext hE)); (try replace h1 := h1.up hE); (try replace h2 := h2.up hE); (try replace h3 := h3.up hE); (try replace h4 := h4.up hE); (try replace h5 := h5.up hE); (try replace h6 := h6.up hE); (try replace h7 := h7.up hE); (try replace h8 := h8.up hE); (try replace h9 := h9.up hE); (try replace B1 := B1.up hE); (try replace B2 := B2.up hE); (try replace B3 := B3.up hE); (try replace B4 := B4.up hE); (try replace B5 := B5.up hE); (try replace B6 := B6.up hE))
  (repeat (first | refine vo_pure rfl rfl ?_ | refine vo_guard_take rfl rfl ?_))
  (first | refine vo_split (fun hc => ?_) (fun hc => ?_) | refine vq_split (fun hc => ?_) (fun hc => ?_))
  · (repeat (first | refine vo_pure rfl rfl ?_ | refine vo_guard_skip rfl rfl rfl rfl ?_ | refine vs_seq ?_ | refine vs_region ?_ | refine vo_nil ?_ | refine fin_seq ?_ | refine vs_ret ?_ | refine fin_seq_ret ?_ | refine vs_cond_true rfl ?_))
    (first | refine fin_ret1 Tryd.results34 rfl ?_ | refine fin_end1 Tryd.results34 rfl ?_ | refine fin_ret2 Tryd.results34 rfl rfl ?_ | refine fin_retC1 Tryd.results34 rfl (by assumption) rfl rfl ?_ | refine fin_retC Tryd.results34 rfl (by assumption) rfl ?_)
    exact ⟨by rw [tf_f fun h => tf_not (by simpa using hc) h.2.1], hb⟩
  have hc2 : AxisP x.loads := tf_iff.1 (by simpa using hc)
  have hm : x.slews.length * x.loads.length ≤ 4 * 4 := Nat.mul_le_mul hc1.1.2 hc2.1.2
  rw [← Int.ofNat_le] at hm
  simp only [Int.natCast_mul] at hm
  (repeat (first | refine vo_guard_take rfl rfl ?_ | refine vo_fieldAddr rfl rfl ?_ | refine vo_loadB rfl (by assumption) rfl rfl ?_ | refine vo_val _ (runs_lenL rfl) rfl ?_))
  refine vo_val _ (runs_mul rfl rfl ⟨?_, ?_⟩) rfl ?_
  · have : (0 : Int) ≤ (x.slews.length : Int) * (x.loads.length : Int) := Int.mul_nonneg (by omega) (by omega)
    omega
  · omega
  (repeat (first | refine vo_pure rfl rfl ?_ | refine vo_guard_take rfl rfl ?_ | refine vo_nil ?_ | refine fin_seq ?_))
  refine vs_cond rfl (fun hc => ?_) (fun hc => ?_)
  · (repeat (first | refine vo_pure rfl rfl ?_ | refine vs_seq ?_ | refine vs_region ?_ | refine vo_nil ?_ | refine fin_seq ?_ | refine vs_ret ?_ | refine fin_seq_ret ?_))
    (first | refine fin_ret1 Tryd.results34 rfl ?_ | refine fin_end1 Tryd.results34 rfl ?_ | refine fin_ret2 Tryd.results34 rfl rfl ?_ | refine fin_retC1 Tryd.results34 rfl (by assumption) rfl rfl ?_ | refine fin_retC Tryd.results34 rfl (by assumption) rfl ?_)
    refine ⟨?_, hb⟩
    rw [tf_f]
    rintro ⟨_, _, h, _⟩
    simp at hc
    exact hc (by exact_mod_cast h)
  have hc3 : x.values.length = x.slews.length * x.loads.length := by simp at hc; exact_mod_cast hc
  have hle := h3.le
  (repeat (first | refine vo_pure rfl rfl ?_ | refine vs_seq ?_ | refine vs_region ?_ | refine vo_nil ?_ | refine fin_seq ?_ | refine vs_skip ?_ | refine vs_block ?_))
  refine vs_loop (fun k : Nat => (3, .int .i64 (k : Int)) :: (1, .pointer (some ⟨b1, 0, none⟩)) :: []) (fun k w' => k ≤ x.values.length ∧ (∀ i : Nat, i < k → (hi' : i < x.values.length) → -1000000 ≤ x.values[i] ∧ x.values[i] ≤ 1000000) ∧ w' = w1) (fun k => x.values.length - k) 0 ⟨Nat.zero_le _, fun i hi => by omega, rfl⟩ (by ((repeat (refine sub_cons rfl ?_)); exact sub_nil)) ?_
  rintro k w2 ⟨hk, hr, rfl⟩
  (repeat (first | refine vo_pure rfl rfl ?_ | refine vs_seq ?_ | refine vs_region ?_ | refine vo_nil ?_ | refine fin_seq ?_ | refine vo_fieldAddr rfl rfl ?_ | refine vo_loadB rfl (by assumption) rfl rfl ?_ | refine vo_val _ (runs_lenL rfl) rfl ?_))
  refine vs_cond rfl (fun hc => ?_) (fun hc => ?_)
  · have hlt : k < x.values.length := by simpa using hc
    (repeat (first | refine vo_pure rfl rfl ?_ | refine vs_seq ?_ | refine vs_region ?_ | refine fin_seq ?_ | refine vs_skip ?_ | refine vs_block ?_ | refine vo_fieldAddr rfl rfl ?_ | refine vo_loadB rfl (by assumption) rfl rfl ?_))
    (first | refine vo_idxI rfl rfl h3 rfl (by exact hlt) ?_ | refine vq_idxI rfl rfl h3 rfl (by exact hlt) ?_)
    intro ad hcell hI
    (repeat (first | refine vo_load rfl (by assumption) rfl ?_))
    (refine vo_call rfl rfl ?_; refine Calls.mono (c40) ?_; rintro _ _ ⟨rfl, rfl⟩; refine ⟨_, rfl, ?_⟩)
    (repeat (first | refine vo_pure rfl rfl ?_ | refine vo_nil ?_ | refine fin_seq ?_))
    refine vs_cond rfl (fun hc => ?_) (fun hc => ?_)
    · (repeat (first | refine vo_pure rfl rfl ?_ | refine vs_seq ?_ | refine vs_region ?_ | refine vo_nil ?_ | refine fin_seq ?_ | refine vs_ret ?_ | refine fin_seq_ret ?_ | refine fin_blk_ret ?_ | refine fin_loop_ret ?_))
      (first | refine fin_ret1 Tryd.results34 rfl ?_ | refine fin_end1 Tryd.results34 rfl ?_ | refine fin_ret2 Tryd.results34 rfl rfl ?_ | refine fin_retC1 Tryd.results34 rfl (by assumption) rfl rfl ?_ | refine fin_retC Tryd.results34 rfl (by assumption) rfl ?_)
      refine ⟨?_, hb⟩
      rw [tf_f]
      rintro ⟨_, _, _, h⟩
      have := inR_get h k hlt
      simp at hc
      omega
    · (repeat (first | refine vo_pure rfl rfl ?_ | refine vs_region ?_ | refine vo_nil ?_ | refine fin_seq ?_ | refine vs_skip ?_ | refine fin_blk ?_ | refine vo_val _ (runs_add rfl rfl (by omega)) rfl ?_))
      refine fin_loop (k + 1) ⟨by omega, ?_, rfl⟩ (by omega) (by ((repeat (refine sub_cons rfl ?_)); exact sub_nil))
      intro i hi' hi''
      rcases Nat.lt_or_ge i k with h' | h'
      · exact hr i h' hi''
      · obtain rfl : k = i := by omega
        simp at hc
        omega
  · have hge : k = x.values.length := by simp at hc; omega
    (repeat (first | refine vo_pure rfl rfl ?_ | refine vs_seq ?_ | refine vs_region ?_ | refine vo_nil ?_ | refine fin_seq ?_ | refine vs_ret ?_ | refine vs_exit ?_ | refine fin_seq_exit ?_ | refine fin_loop_exit ?_ | refine fin_blk_exit rfl ?_))
    (first | refine fin_ret1 Tryd.results34 rfl ?_ | refine fin_end1 Tryd.results34 rfl ?_ | refine fin_ret2 Tryd.results34 rfl rfl ?_ | refine fin_retC1 Tryd.results34 rfl (by assumption) rfl rfl ?_ | refine fin_retC Tryd.results34 rfl (by assumption) rfl ?_)
    exact ⟨by rw [tf_t ⟨hc1, hc2, hc3, inR_at fun i hi' => hr i (by omega) hi'⟩], hb⟩
end Go.Proofs.YtahnpokehdlajaaDoor
