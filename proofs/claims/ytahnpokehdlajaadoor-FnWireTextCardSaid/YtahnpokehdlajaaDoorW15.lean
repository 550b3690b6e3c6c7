/- The reference's source of numbers. -/
import Derived.Test.YtahnpokehdlajaaDoorM3
import Derived.Test.YtahnpokehdlajaaDoorBase12
import Derived.Test.YtahnpokehdlajaaDoorOpens
namespace Go.Proofs.YtahnpokehdlajaaDoor
open Go Go.Proofs Go.Proofs.Sv Go.RowKit
attribute [local irreducible] VS VO VQ VH VP VPo FinS seqQ blkQ loopQ RunsOp RunsU
attribute [local simp] spl reps Value.cells

/-- A source of numbers in block b; its code lies below B. -/
def Src (B : Nat) (w : World) (b : Nat) : Prop := ∃ (p : Option Addr) (cap k : Nat) (code : List UInt8) (seed : Int), Blk w b [.slice p code.length cap, .int .i64 (k : Int), .int .i64 seed] 97 ∧ SlR 0 B w (.slice p code.length cap) code ∧ (k ≤ code.length ∧ code.length ≤ 4096) ∧ (0 ≤ seed ∧ seed < 2147483647) ∧ B ≤ b
theorem tmod_in {a m : Int} (ha : 0 ≤ a) (hm : 0 < m) : 0 ≤ a.tmod m ∧ a.tmod m < m := ⟨Int.tmod_nonneg _ ha, Int.tmod_lt_of_pos _ hm⟩
theorem byte_in (x : UInt8) : (0 : Int) ≤ (x.toNat : Int) ∧ (x.toNat : Int) ≤ 255 := ⟨by omega, by have := x.toNat_lt; omega⟩

theorem c26 {lo hi : Nat} {v : Value} {code : List UInt8} {w : World} (h1 : SlR lo hi w v code) : Calls Tryd.prog 26 #[v] w fun en w' => en = .returned (.bool (decide ((code.length : Int) > 4096))) ∧ w = w' := by
  obtain ⟨p, cap, rfl⟩ := h1.len
  refine calls_vs Tryd.func26 Tryd.ntmps26 rfl rfl ?_
  (repeat (first | refine vo_pure rfl rfl ?_ | refine vs_seq ?_ | refine vs_region ?_ | refine vo_nil ?_ | refine fin_seq ?_ | refine vs_ret ?_ | refine vo_val _ (runs_lenL rfl) rfl ?_))
  (first | refine fin_ret1 Tryd.results26 rfl ?_ | refine fin_end1 Tryd.results26 rfl ?_ | refine fin_ret2 Tryd.results26 rfl rfl ?_ | refine fin_retC1 Tryd.results26 rfl (by assumption) rfl rfl ?_ | refine fin_retC Tryd.results26 rfl (by assumption) rfl ?_)
  exact ⟨rfl, rfl⟩
theorem c57 {v : Value} {code : List UInt8} {w : World} (k1 : SlR 0 w.heap.size w v code) (hl : code.length ≤ 4096) : Calls Tryd.prog 57 #[v] w fun en w' => ∃ b, en = .returned (.pointer (some ⟨b, 0, none⟩)) ∧ Src w.heap.size w' b ∧ Ext w w' := by
  have hb : Below w.heap.size w w := Below.refl _ _
  obtain ⟨p, cap, rfl⟩ := k1.len
  refine calls_vs Tryd.func57 Tryd.ntmps57 rfl rfl ?_
  (repeat (first | refine vo_pure rfl rfl ?_ | refine vs_seq ?_ | refine vs_region ?_ | refine vo_nil ?_ | refine fin_seq ?_ | refine vo_build rfl rfl rfl ?_))
  (refine vo_box rfl rfl rfl ?_; intro b1 w1 hN B1; have zz := hN.eq; have zz := hN.size; have hE := hN.ext; have g1 : w.heap.size ≤ b1 := (by rw [← hN.eq]; exact hb.size); skip; have zz := hE.size; (first | replace hb := hb.trans (hE.mono hb.size) | replace hb := hb.trans (WE.of_ext hE)); (try replace h1 := h1.up hE); (try replace h2 := h2.up hE); (try replace h3 := h3.up hE); (try replace h4 := h4.up hE); (try replace h5 := h5.up hE); (try replace h6 := h6.up hE); (try replace h7 := h7.up hE); (try replace h8 := h8.up hE); (try replace h9 := h9.up hE); (try replace B2 := B2.up hE); (try replace B3 := B3.up hE); (try replace B4 := B4.up hE); (try replace B5 := B5.up hE); (try replace B6 := B6.up hE); (try clear hN hE); (try dsimp at B1))
  (repeat (first | refine vo_pure rfl rfl ?_ | refine vs_seq ?_ | refine vs_region ?_ | refine vo_nil ?_ | refine fin_seq ?_ | refine vs_block ?_))
  refine vs_loop (fun k : Nat => (4, .int .i64 (k : Int)) :: (3, .pointer (some ⟨b1, 0, none⟩)) :: (0, .slice p code.length cap) :: []) (fun k w' => k ≤ code.length ∧ Below w.heap.size w w' ∧ ∃ seed : Int, Blk w' b1 [.slice p code.length cap, .int .i64 0, .int .i64 seed] 97 ∧ 0 ≤ seed ∧ seed < 2147483647) (fun k => code.length - k) 0 ⟨Nat.zero_le _, hb, _, B1, by decide, by decide⟩ (by ((repeat (refine sub_cons rfl ?_)); exact sub_nil)) ?_
  clear B1 hb
  rintro k w2 ⟨hk, hb, seed, B1, hs⟩
  (repeat (first | refine vo_pure rfl rfl ?_ | refine vs_seq ?_ | refine vs_region ?_ | refine vo_val _ (runs_lenL rfl) rfl ?_))
  (first | refine vo_split (fun hc => ?_) (fun hc => ?_) | refine vq_split (fun hc => ?_) (fun hc => ?_))
  · have hlt : k < code.length := by simpa using hc
    (repeat (first | refine vo_pure rfl rfl ?_ | refine vo_guard_take rfl rfl ?_ | refine vo_nil ?_ | refine fin_seq ?_))
    refine vs_cond rfl (fun hc => ?_) (fun hc => ?_)
    · obtain ⟨bc, oc, cap2, hv, _, hlt2, hat⟩ := k1.byte hlt
      cases hv
      have hy := byte_in code[k]
      refine vs_skip ?_
      refine fin_seq ?_
      refine vs_seq ?_
      refine vs_block ?_
      refine vs_heldP (Below w.heap.size w) ?_
      intro w3 hE _
      have hS : Below w.heap.size w w3 := hb.trans (hE.mono hb.size)
      replace B1 := B1.up hE
      refine vp_take 0 rfl (fun _ hX => runs_pure rfl) rfl (by kernel_rfl) (by kernel_rfl) (by kernel_rfl) ?_
      refine vp_take 1 rfl (fun _ hX => runs_pure rfl) rfl (by kernel_rfl) (by kernel_rfl) (by kernel_rfl) ?_
      refine vp_take 2 rfl (fun _ hX => runs_nilCheck rfl) rfl (by kernel_rfl) (by kernel_rfl) (by kernel_rfl) ?_
      refine vp_take 3 rfl (fun _ hX => runs_fieldAddr rfl) rfl (by kernel_rfl) (by kernel_rfl) (by kernel_rfl) ?_
      refine vp_take 6 rfl (fun _ hX => runs_pure rfl) rfl (by kernel_rfl) (by kernel_rfl) (by kernel_rfl) ?_
      refine vp_take 7 rfl (fun _ hX => runs_pure rfl) rfl (by kernel_rfl) (by kernel_rfl) (by kernel_rfl) ?_
      refine vp_take 8 rfl (fun _ hX => runs_idx rfl rfl hlt) rfl (by kernel_rfl) (by kernel_rfl) (by kernel_rfl) ?_
      refine vp_take 9 rfl (fun _ hX => runs_load rfl ((hat.same (fun _ => hX.block bc hlt2)) 0 _ rfl)) rfl (by kernel_rfl) (by kernel_rfl) (by kernel_rfl) ?_
      refine vp_take 10 rfl (fun _ hX => runs_toInt rfl (by omega)) rfl (by kernel_rfl) (by kernel_rfl) (by kernel_rfl) ?_
      refine vp_only 4 rfl (by kernel_rfl) (runs_load rfl (B1.at 2 _ rfl)) rfl ?_
      refine vp_only 5 rfl (by kernel_rfl) (runs_mul rfl rfl (by omega)) rfl ?_
      refine vp_only 11 rfl (by kernel_rfl) (runs_add rfl rfl (by omega)) rfl ?_
      refine vp_only 12 rfl (by kernel_rfl) (runs_rem rfl rfl (show (2147483647 : Int) ≠ 0 by decide)) rfl ?_
      refine vp_only 13 rfl (by kernel_rfl) (runs_nilCheck rfl) rfl ?_
      refine vp_only 14 rfl (by kernel_rfl) (runs_fieldAddr rfl) rfl ?_
      have ht := tmod_in (a := seed * 31 + (code[k].toNat : Int)) (m := 2147483647) (by omega) (by decide)
      generalize (seed * 31 + (code[k].toNat : Int)).tmod 2147483647 = seed2 at ht
      refine vp_one 15 (by kernel_rfl) hS (vpo_store rfl rfl rfl B1 rfl rfl rfl (by simp) ?_)
      intro w4 hW B2
      dsimp at B2
      have hS2 := hS.trans (hW.below g1)
      refine vp_done (by kernel_rfl) hS2 ?_
      (repeat (first | refine vo_pure rfl rfl ?_ | refine vs_region ?_ | refine vo_nil ?_ | refine fin_seq ?_ | refine fin_blk ?_ | refine vo_val _ (runs_add rfl rfl (by omega)) rfl ?_))
      refine fin_loop (k + 1) ⟨by omega, hS2, seed2, B2, ht⟩ (by omega) (by ((repeat (refine sub_cons rfl ?_)); exact sub_nil))
    · (repeat (first | refine vo_pure rfl rfl ?_ | refine vs_seq ?_ | refine vs_region ?_ | refine vo_nil ?_ | refine fin_seq ?_ | refine vs_ret ?_ | refine vs_exit ?_ | refine fin_seq_exit ?_ | refine fin_loop_exit ?_ | refine fin_blk_exit rfl ?_))
      (first | refine fin_ret1 Tryd.results57 rfl ?_ | refine fin_end1 Tryd.results57 rfl ?_ | refine fin_ret2 Tryd.results57 rfl rfl ?_ | refine fin_retC1 Tryd.results57 rfl (by assumption) rfl rfl ?_ | refine fin_retC Tryd.results57 rfl (by assumption) rfl ?_)
      exact ⟨_, rfl, ⟨p, cap, 0, code, seed, B1, k1.up hb, ⟨Nat.zero_le _, hl⟩, hs, g1⟩, hb⟩
  · (repeat (first | refine vo_pure rfl rfl ?_ | refine vo_guard_skip rfl rfl rfl rfl ?_ | refine vs_seq ?_ | refine vs_region ?_ | refine vo_nil ?_ | refine fin_seq ?_ | refine vs_ret ?_ | refine vs_cond_false rfl ?_ | refine vs_exit ?_ | refine fin_seq_exit ?_ | refine fin_loop_exit ?_ | refine fin_blk_exit rfl ?_))
    (first | refine fin_ret1 Tryd.results57 rfl ?_ | refine fin_end1 Tryd.results57 rfl ?_ | refine fin_ret2 Tryd.results57 rfl rfl ?_ | refine fin_retC1 Tryd.results57 rfl (by assumption) rfl rfl ?_ | refine fin_retC Tryd.results57 rfl (by assumption) rfl ?_)
    exact ⟨_, rfl, ⟨p, cap, 0, code, seed, B1, k1.up hb, ⟨Nat.zero_le _, hl⟩, hs, g1⟩, hb⟩
theorem c69 {B b : Nat} {n : Int} {w : World} (hS : Src B w b) (hn : n ≤ 9223372036854775807) : Calls Tryd.prog 69 #[.pointer (some ⟨b, 0, none⟩), .int .i64 n] w fun en w' => ∃ r : Int, en = .returned (.int .i64 r) ∧ (0 ≤ r ∧ (r < n ∨ r = 0)) ∧ Src B w' b ∧ WE (some b) w w' := by
  obtain ⟨p, cap, k, code, seed, B1, h1, hk, hs, hBb⟩ := hS
  have hb : WE (some b) w w := WE.refl _
  refine calls_vs Tryd.func69 Tryd.ntmps69 rfl rfl ?_
  (repeat (first | refine vo_pure rfl rfl ?_ | refine vs_seq ?_ | refine vs_region ?_ | refine vo_nil ?_ | refine fin_seq ?_))
  refine vs_cond rfl (fun hc => ?_) (fun hc => ?_)
  · (repeat (first | refine vo_pure rfl rfl ?_ | refine vs_seq ?_ | refine vs_region ?_ | refine vo_nil ?_ | refine fin_seq ?_ | refine vs_ret ?_ | refine fin_seq_ret ?_))
    (first | refine fin_ret1 Tryd.results69 rfl ?_ | refine fin_end1 Tryd.results69 rfl ?_ | refine fin_ret2 Tryd.results69 rfl rfl ?_ | refine fin_retC1 Tryd.results69 rfl (by assumption) rfl rfl ?_ | refine fin_retC Tryd.results69 rfl (by assumption) rfl ?_)
    exact ⟨0, rfl, by omega, ⟨p, cap, k, code, seed, B1, h1, hk, hs, hBb⟩, hb⟩
  have hn1 : 1 < n := by simpa using hc
  (repeat (first | refine vs_seq ?_ | refine fin_seq ?_ | refine vs_skip ?_ | refine vs_drawn (by kernel_rfl) ?_ | refine vq_pure rfl rfl ?_ | refine vq_val _ (fun _ _ => runs_nilCheck rfl) rfl ?_ | refine vq_fieldAddr rfl rfl ?_ | refine vq_loadB rfl (by assumption) rfl rfl ?_ | refine vq_val _ (fun _ _ => runs_lenL rfl) rfl ?_))
  (refine vq_nil ?_; intro w1 hE; (try replace h1 := h1.up hE); (try replace h2 := h2.up hE); (try replace h3 := h3.up hE); (try replace h4 := h4.up hE); (try replace h5 := h5.up hE); (try replace h6 := h6.up hE); (try replace h7 := h7.up hE); (try replace h8 := h8.up hE); (try replace h9 := h9.up hE); (try replace B1 := B1.up hE); (try replace B2 := B2.up hE); (try replace B3 := B3.up hE); (try replace B4 := B4.up hE); (try replace B5 := B5.up hE); (try replace B6 := B6.up hE); have zz := hE.size; (first | replace hb := hb.trans (hE.mono hb.size) | replace hb := hb.trans (WE.of_ext hE)); (try clear hE))
  (repeat (first | refine fin_seq ?_))
  refine vs_cond rfl (fun hc => ?_) (fun hc => ?_)
  · have hlt : k < code.length := by simpa using hc
    obtain ⟨bc, oc, cap2, hv, _, hlt2, hat⟩ := h1.byte hlt
    cases hv
    have hy := byte_in code[k]
    (repeat (first | refine vs_seq ?_ | refine vs_drawn (by kernel_rfl) ?_ | refine vq_pure rfl rfl ?_ | refine vq_val _ (fun _ _ => runs_nilCheck rfl) rfl ?_ | refine vq_fieldAddr rfl rfl ?_ | refine vq_loadB rfl (by assumption) rfl rfl ?_))
    refine vq_val _ (fun _ _ => runs_idx rfl rfl hlt) rfl ?_
    refine vq_load rfl hat rfl rfl ?_
    refine vq_val _ (fun _ _ => runs_toInt rfl (by omega)) rfl ?_
    (repeat (first | refine vq_pure rfl rfl ?_))
    (refine vq_nil ?_; intro w1 hE; (try replace h1 := h1.up hE); (try replace h2 := h2.up hE); (try replace h3 := h3.up hE); (try replace h4 := h4.up hE); (try replace h5 := h5.up hE); (try replace h6 := h6.up hE); (try replace h7 := h7.up hE); (try replace h8 := h8.up hE); (try replace h9 := h9.up hE); (try replace B1 := B1.up hE); (try replace B2 := B2.up hE); (try replace B3 := B3.up hE); (try replace B4 := B4.up hE); (try replace B5 := B5.up hE); (try replace B6 := B6.up hE); have zz := hE.size; (first | replace hb := hb.trans (hE.mono hb.size) | replace hb := hb.trans (WE.of_ext hE)); (try clear hE))
    (repeat (first | refine vo_pure rfl rfl ?_ | refine vs_seq ?_ | refine vs_region ?_ | refine fin_seq ?_ | refine vo_fieldAddr rfl rfl ?_ | refine vo_loadB rfl (by assumption) rfl rfl ?_ | refine vo_val _ (runs_add rfl rfl (by omega)) rfl ?_ | refine vo_val _ (runs_nilCheck rfl) rfl ?_))
    (refine vo_store rfl rfl B1 rfl rfl rfl rfl ?_; intro w1 hW hN; have zz := hW.size; (first | replace hb := hb.trans (hW.below (by assumption)) | replace hb := hb.trans (WE.of_wr hW) | replace hb := hb.thenWr hW (by omega)); (try replace h1 := h1.wr hW (by omega)); (try replace h2 := h2.wr hW (by omega)); (try replace h3 := h3.wr hW (by omega)); (try replace h4 := h4.wr hW (by omega)); (try replace h5 := h5.wr hW (by omega)); (try replace h6 := h6.wr hW (by omega)); (try replace h7 := h7.wr hW (by omega)); (try replace h8 := h8.wr hW (by omega)); (try replace h9 := h9.wr hW (by omega)); (try replace B2 := B2.wr hW (by omega)); (try replace B3 := B3.wr hW (by omega)); (try replace B4 := B4.wr hW (by omega)); (try replace B5 := B5.wr hW (by omega)); (try replace B6 := B6.wr hW (by omega)); clear B1; have B1 := hN; clear hN hW; (try dsimp at B1))
    (repeat (first | refine vo_pure rfl rfl ?_ | refine vs_seq ?_ | refine vs_region ?_ | refine vo_nil ?_ | refine fin_seq ?_))
    refine vs_cond rfl (fun hc => ?_) (fun hc => ?_)
    · (repeat (first | refine vo_pure rfl rfl ?_ | refine vs_seq ?_ | refine vs_region ?_))
      refine vo_val _ (runs_rem rfl rfl (show n ≠ 0 by omega)) rfl ?_
      (repeat (first | refine vo_pure rfl rfl ?_ | refine vo_nil ?_ | refine fin_seq ?_ | refine vs_ret ?_ | refine fin_seq_ret ?_))
      (first | refine fin_ret1 Tryd.results69 rfl ?_ | refine fin_end1 Tryd.results69 rfl ?_ | refine fin_ret2 Tryd.results69 rfl rfl ?_ | refine fin_retC1 Tryd.results69 rfl (by assumption) rfl rfl ?_ | refine fin_retC Tryd.results69 rfl (by assumption) rfl ?_)
      have ht := tmod_in hy.1 (show 0 < n by omega)
      exact ⟨_, rfl, ⟨ht.1, .inl ht.2⟩, ⟨_, cap, k + 1, code, seed, B1, h1, ⟨hlt, hk.2⟩, hs, hBb⟩, hb⟩
    · (repeat (first | refine vo_pure rfl rfl ?_ | refine vs_seq ?_ | refine vs_region ?_ | refine fin_seq ?_ | refine vs_skip ?_ | refine vo_fieldAddr rfl rfl ?_ | refine vo_loadB rfl (by assumption) rfl rfl ?_ | refine vo_val _ (runs_nilCheck rfl) rfl ?_))
      refine vo_val _ (runs_mul rfl rfl (by omega)) rfl ?_
      (repeat (first | refine vo_pure rfl rfl ?_ | refine vo_val _ (runs_add rfl rfl (by omega)) rfl ?_))
      refine vo_val _ (runs_rem rfl rfl (show (2147483647 : Int) ≠ 0 by decide)) rfl ?_
      have ht := tmod_in (a := seed * 48271 + (code[k].toNat : Int) + 1) (m := 2147483647) (by omega) (by decide)
      generalize (seed * 48271 + (code[k].toNat : Int) + 1).tmod 2147483647 = seed2 at ht
      (repeat (first | refine vo_fieldAddr rfl rfl ?_ | refine vo_val _ (runs_nilCheck rfl) rfl ?_))
      (refine vo_store rfl rfl B1 rfl rfl rfl rfl ?_; intro w1 hW hN; have zz := hW.size; (first | replace hb := hb.trans (hW.below (by assumption)) | replace hb := hb.trans (WE.of_wr hW) | replace hb := hb.thenWr hW (by omega)); (try replace h1 := h1.wr hW (by omega)); (try replace h2 := h2.wr hW (by omega)); (try replace h3 := h3.wr hW (by omega)); (try replace h4 := h4.wr hW (by omega)); (try replace h5 := h5.wr hW (by omega)); (try replace h6 := h6.wr hW (by omega)); (try replace h7 := h7.wr hW (by omega)); (try replace h8 := h8.wr hW (by omega)); (try replace h9 := h9.wr hW (by omega)); (try replace B2 := B2.wr hW (by omega)); (try replace B3 := B3.wr hW (by omega)); (try replace B4 := B4.wr hW (by omega)); (try replace B5 := B5.wr hW (by omega)); (try replace B6 := B6.wr hW (by omega)); clear B1; have B1 := hN; clear hN hW; (try dsimp at B1))
      (repeat (first | refine vo_pure rfl rfl ?_ | refine vs_seq ?_ | refine vs_region ?_ | refine vo_nil ?_ | refine fin_seq ?_ | refine vo_fieldAddr rfl rfl ?_ | refine vo_loadB rfl (by assumption) rfl rfl ?_ | refine vo_val _ (runs_nilCheck rfl) rfl ?_))
      refine vo_val _ (runs_rem rfl rfl (show n ≠ 0 by omega)) rfl ?_
      (repeat (first | refine vo_pure rfl rfl ?_ | refine vo_nil ?_ | refine fin_seq ?_ | refine vs_ret ?_ | refine fin_seq_ret ?_))
      (first | refine fin_ret1 Tryd.results69 rfl ?_ | refine fin_end1 Tryd.results69 rfl ?_ | refine fin_ret2 Tryd.results69 rfl rfl ?_ | refine fin_retC1 Tryd.results69 rfl (by assumption) rfl rfl ?_ | refine fin_retC Tryd.results69 rfl (by assumption) rfl ?_)
      have ht2 := tmod_in ht.1 (show 0 < n by omega)
      exact ⟨_, rfl, ⟨ht2.1, .inl ht2.2⟩, ⟨_, cap, k + 1, code, seed2, B1, h1, ⟨hlt, hk.2⟩, ht, hBb⟩, hb⟩
  · (repeat (first | refine vo_pure rfl rfl ?_ | refine vs_seq ?_ | refine vs_region ?_ | refine fin_seq ?_ | refine vs_skip ?_ | refine vo_fieldAddr rfl rfl ?_ | refine vo_loadB rfl (by assumption) rfl rfl ?_ | refine vo_val _ (runs_nilCheck rfl) rfl ?_))
    refine vo_val _ (runs_mul rfl rfl (by omega)) rfl ?_
    (repeat (first | refine vo_val _ (runs_add rfl rfl (by omega)) rfl ?_))
    refine vo_val _ (runs_rem rfl rfl (show (2147483647 : Int) ≠ 0 by decide)) rfl ?_
    have ht := tmod_in (a := seed * 48271 + 11) (m := 2147483647) (by omega) (by decide)
    generalize (seed * 48271 + 11).tmod 2147483647 = seed2 at ht
    (repeat (first | refine vo_fieldAddr rfl rfl ?_ | refine vo_val _ (runs_nilCheck rfl) rfl ?_))
    (refine vo_store rfl rfl B1 rfl rfl rfl rfl ?_; intro w1 hW hN; have zz := hW.size; (first | replace hb := hb.trans (hW.below (by assumption)) | replace hb := hb.trans (WE.of_wr hW) | replace hb := hb.thenWr hW (by omega)); (try replace h1 := h1.wr hW (by omega)); (try replace h2 := h2.wr hW (by omega)); (try replace h3 := h3.wr hW (by omega)); (try replace h4 := h4.wr hW (by omega)); (try replace h5 := h5.wr hW (by omega)); (try replace h6 := h6.wr hW (by omega)); (try replace h7 := h7.wr hW (by omega)); (try replace h8 := h8.wr hW (by omega)); (try replace h9 := h9.wr hW (by omega)); (try replace B2 := B2.wr hW (by omega)); (try replace B3 := B3.wr hW (by omega)); (try replace B4 := B4.wr hW (by omega)); (try replace B5 := B5.wr hW (by omega)); (try replace B6 := B6.wr hW (by omega)); clear B1; have B1 := hN; clear hN hW; (try dsimp at B1))
    (repeat (first | refine vo_pure rfl rfl ?_ | refine vs_seq ?_ | refine vs_region ?_ | refine vo_nil ?_ | refine fin_seq ?_ | refine vo_fieldAddr rfl rfl ?_ | refine vo_loadB rfl (by assumption) rfl rfl ?_ | refine vo_val _ (runs_nilCheck rfl) rfl ?_))
    refine vo_val _ (runs_quo rfl rfl ⟨by omega, by omega⟩ (show (0 : Int) < 7 by decide)) rfl ?_
    have hq := Int.tdiv_nonneg ht.1 (show (0 : Int) ≤ 7 by decide)
    refine vo_pure rfl rfl ?_
    refine vo_val _ (runs_rem rfl rfl (show n ≠ 0 by omega)) rfl ?_
    (repeat (first | refine vo_pure rfl rfl ?_ | refine vo_nil ?_ | refine fin_seq ?_ | refine vs_ret ?_))
    (first | refine fin_ret1 Tryd.results69 rfl ?_ | refine fin_end1 Tryd.results69 rfl ?_ | refine fin_ret2 Tryd.results69 rfl rfl ?_ | refine fin_retC1 Tryd.results69 rfl (by assumption) rfl rfl ?_ | refine fin_retC Tryd.results69 rfl (by assumption) rfl ?_)
    have ht2 := tmod_in hq (show 0 < n by omega)
    exact ⟨_, rfl, ⟨ht2.1, .inl ht2.2⟩, ⟨_, cap, k, code, seed2, B1, h1, hk, ht, hBb⟩, hb⟩
end Go.Proofs.YtahnpokehdlajaaDoor
