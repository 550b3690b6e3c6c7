/- Texts of lists of numbers. -/
import Derived.Test.YtahnpokehdlajaaDoorW8
namespace Go.Proofs.YtahnpokehdlajaaDoor
open Go Go.Proofs Go.Proofs.Sv Go.RowKit
attribute [local irreducible] VS VO VQ VH FinS seqQ blkQ loopQ RunsOp RunsU
attribute [local simp] spl reps Value.cells

theorem c66 {x : Int} {w : World} (hx : -9223372036854775807 ≤ x ∧ x ≤ 9223372036854775807) : Calls Tryd.prog 66 #[.int .i64 x] w fun en w' => en = .returned (.string ⟨(Lib.itoa x).toArray⟩) ∧ Ext w w' := by
  rcases Int.le_total 0 x with h0 | h0
  · obtain ⟨m, rfl⟩ := Int.eq_ofNat_of_zero_le h0
    rw [itoa_nat]
    exact c66p m w hx.2
  by_cases h0' : x = 0
  · subst h0'
    rw [show (0 : Int) = ((0 : Nat) : Int) from rfl, itoa_nat]; exact c66p 0 w (by omega)
  replace h0 : x < 0 := by omega
  clear h0'
  have hb : Below w.heap.size w w := Below.refl _ _
  obtain ⟨m, hm⟩ := Int.eq_ofNat_of_zero_le (show 0 ≤ -x by omega)
  have e1 := decDigits_len (m := m) (by omega)
  refine calls_vs Tryd.func66 Tryd.ntmps66 rfl rfl ?_
  (repeat (first | refine vo_pure rfl rfl ?_ | refine vs_seq ?_ | refine vs_region ?_ | refine vo_nil ?_ | refine fin_seq ?_))
  refine vs_cond rfl (fun hc => ?_) (fun hc => ?_)
  · (repeat (first | refine vo_pure rfl rfl ?_ | refine vs_seq ?_ | refine vs_region ?_))
    refine vo_val _ (runs_neg' rfl hm (by omega)) rfl ?_
    skip
    (refine vo_call rfl rfl ?_; refine Calls.mono (c66p m _ (by omega)) ?_; rintro _ w1 ⟨rfl, hE⟩; refine ⟨_, rfl, ?_⟩; have zz := hE.size; (first | replace hb := hb.trans (hE.mono hb.size) | replace hb := hb.trans (WE.of_ext hE)); (try replace h1 := h1.up hE); (try replace h2 := h2.up hE); (try replace h3 := h3.up hE); (try replace h4 := h4.up hE); (try replace h5 := h5.up hE); (try replace h6 := h6.up hE); (try replace h7 := h7.up hE); (try replace h8 := h8.up hE); (try replace h9 := h9.up hE); (try replace B1 := B1.up hE); (try replace B2 := B2.up hE); (try replace B3 := B3.up hE); (try replace B4 := B4.up hE); (try replace B5 := B5.up hE); (try replace B6 := B6.up hE))
    (repeat (first | refine vo_pure rfl rfl ?_ | refine vo_nil ?_ | refine fin_seq ?_ | refine vs_ret ?_ | refine fin_seq_ret ?_ | refine vo_val _ (runs_catL rfl rfl (by ((try simp only [List.length_append, List.length_cons, List.length_nil]); omega))) rfl ?_))
    (first | refine fin_ret1 Tryd.results66 rfl ?_ | refine fin_end1 Tryd.results66 rfl ?_ | refine fin_ret2 Tryd.results66 rfl rfl ?_ | refine fin_retC1 Tryd.results66 rfl (by assumption) rfl rfl ?_ | refine fin_retC Tryd.results66 rfl (by assumption) rfl ?_)
    refine ⟨?_, hb⟩
    rw [itoa_neg' h0, hm]
    rfl
  · simp at hc
    omega
theorem c43 {l h : Nat} {v : Value} {xs : List Int} {w : World} (k1 : SlR l h w v xs) (hs : xs.length ≤ 1048576) (hr : ∀ x ∈ xs, -9223372036854775807 ≤ x) : Calls Tryd.prog 43 #[v] w fun en w' => en = .returned (.string ⟨(listB xs).toArray⟩) ∧ Ext w w' := by
  have hb : Below w.heap.size w w := Below.refl _ _
  have hi := k1.ins
  obtain ⟨p, cap, rfl⟩ := k1.len
  refine calls_vs Tryd.func43 Tryd.ntmps43 rfl rfl ?_
  (repeat (first | refine vo_pure rfl rfl ?_ | refine vs_seq ?_ | refine vs_region ?_ | refine vo_nil ?_ | refine fin_seq ?_ | refine vs_block ?_))
  refine vs_loop (fun k : Nat => (4, .int .i64 (k : Int)) :: (3, .string ⟨(listB (xs.take k)).toArray⟩) :: (0, .slice p xs.length cap) :: []) (fun k w' => k ≤ xs.length ∧ Below w.heap.size w w') (fun k => xs.length - k) 0 ⟨Nat.zero_le _, hb⟩ (by ((repeat (refine sub_cons rfl ?_)); exact sub_nil)) ?_
  clear hb
  rintro k w2 ⟨hk, hb⟩
  have h1 := k1.up hb
  have hl := listB_len (xs.take k) (fun x hx => hi x (List.mem_of_mem_take hx))
  rw [List.length_take] at hl
  (repeat (first | refine vo_pure rfl rfl ?_ | refine vs_seq ?_ | refine vs_region ?_ | refine vo_nil ?_ | refine fin_seq ?_ | refine vo_val _ (runs_lenL rfl) rfl ?_))
  refine vs_cond rfl (fun hc => ?_) (fun hc => ?_)
  · have hlt : k < xs.length := by simpa using hc
    have hx := hr _ (List.getElem_mem hlt)
    have hm := listB_succ xs k hlt
    have hl2 := itoa_len (hi _ (List.getElem_mem hlt))
    (repeat (first | refine vo_pure rfl rfl ?_ | refine vs_seq ?_ | refine vs_region ?_ | refine vo_nil ?_ | refine fin_seq ?_ | refine vs_skip ?_ | refine vs_block ?_))
    refine vs_cond rfl (fun hc => ?_) (fun hc => ?_)
    · have h0 : ¬ k = 0 := by simp at hc; omega
      rw [if_neg h0] at hm
      (repeat (first | refine vo_pure rfl rfl ?_ | refine vs_region ?_ | refine vo_nil ?_ | refine fin_seq ?_ | refine vo_val _ (runs_catL rfl rfl (by ((try simp only [List.length_append, List.length_cons, List.length_nil]); omega))) rfl ?_))
      (first | refine vo_idxI rfl rfl h1 rfl (by exact hlt) ?_ | refine vq_idxI rfl rfl h1 rfl (by exact hlt) ?_)
      intro ad hcell hI
      (repeat (first | refine vo_load rfl (by assumption) rfl ?_))
      (refine vo_call rfl rfl ?_; refine Calls.mono (c66 ⟨hx, hI.2⟩) ?_; rintro _ w1 ⟨rfl, hE⟩; refine ⟨_, rfl, ?_⟩; have zz := hE.size; (first | replace hb := hb.trans (hE.mono hb.size) | replace hb := hb.trans (WE.of_ext hE)); (try replace h1 := h1.up hE); (try replace h2 := h2.up hE); (try replace h3 := h3.up hE); (try replace h4 := h4.up hE); (try replace h5 := h5.up hE); (try replace h6 := h6.up hE); (try replace h7 := h7.up hE); (try replace h8 := h8.up hE); (try replace h9 := h9.up hE); (try replace B1 := B1.up hE); (try replace B2 := B2.up hE); (try replace B3 := B3.up hE); (try replace B4 := B4.up hE); (try replace B5 := B5.up hE); (try replace B6 := B6.up hE))
      (repeat (first | refine vo_pure rfl rfl ?_ | refine vs_region ?_ | refine vo_nil ?_ | refine fin_seq ?_ | refine fin_blk ?_ | refine vo_val _ (runs_add rfl rfl (by omega)) rfl ?_ | refine vo_val _ (runs_catL rfl rfl (by ((try simp only [List.length_append, List.length_cons, List.length_nil]); omega))) rfl ?_))
      refine fin_loop (k + 1) ⟨by omega, hb⟩ (by omega) (sub_cons rfl (sub_cons (congrArg (fun s : List UInt8 => some (Value.string ⟨s.toArray⟩)) hm.symm) (by ((repeat (refine sub_cons rfl ?_)); exact sub_nil))))
    · have h0 : k = 0 := by simp at hc; omega
      have hm' : listB (xs.take k) ++ Lib.itoa xs[k] = listB (xs.take (k + 1)) := by rw [hm, if_pos h0]; subst h0; rfl
      (repeat (first | refine vo_pure rfl rfl ?_ | refine vs_region ?_ | refine fin_seq ?_ | refine vs_skip ?_))
      (first | refine vo_idxI rfl rfl h1 rfl (by exact hlt) ?_ | refine vq_idxI rfl rfl h1 rfl (by exact hlt) ?_)
      intro ad hcell hI
      (repeat (first | refine vo_load rfl (by assumption) rfl ?_))
      (refine vo_call rfl rfl ?_; refine Calls.mono (c66 ⟨hx, hI.2⟩) ?_; rintro _ w1 ⟨rfl, hE⟩; refine ⟨_, rfl, ?_⟩; have zz := hE.size; (first | replace hb := hb.trans (hE.mono hb.size) | replace hb := hb.trans (WE.of_ext hE)); (try replace h1 := h1.up hE); (try replace h2 := h2.up hE); (try replace h3 := h3.up hE); (try replace h4 := h4.up hE); (try replace h5 := h5.up hE); (try replace h6 := h6.up hE); (try replace h7 := h7.up hE); (try replace h8 := h8.up hE); (try replace h9 := h9.up hE); (try replace B1 := B1.up hE); (try replace B2 := B2.up hE); (try replace B3 := B3.up hE); (try replace B4 := B4.up hE); (try replace B5 := B5.up hE); (try replace B6 := B6.up hE))
      (repeat (first | refine vo_pure rfl rfl ?_ | refine vs_region ?_ | refine vo_nil ?_ | refine fin_seq ?_ | refine fin_blk ?_ | refine vo_val _ (runs_add rfl rfl (by omega)) rfl ?_ | refine vo_val _ (runs_catL rfl rfl (by ((try simp only [List.length_append, List.length_cons, List.length_nil]); omega))) rfl ?_))
      refine fin_loop (k + 1) ⟨by omega, hb⟩ (by omega) (sub_cons rfl (sub_cons (congrArg (fun s : List UInt8 => some (Value.string ⟨s.toArray⟩)) hm') (by ((repeat (refine sub_cons rfl ?_)); exact sub_nil))))
  · have hge : k = xs.length := by simp at hc; omega
    subst hge
    rw [List.take_length]
    (repeat (first | refine vo_pure rfl rfl ?_ | refine vs_seq ?_ | refine vs_region ?_ | refine vo_nil ?_ | refine fin_seq ?_ | refine vs_ret ?_ | refine vs_exit ?_ | refine fin_seq_exit ?_ | refine fin_loop_exit ?_ | refine fin_blk_exit rfl ?_))
    (first | refine fin_ret1 Tryd.results43 rfl ?_ | refine fin_end1 Tryd.results43 rfl ?_ | refine fin_ret2 Tryd.results43 rfl rfl ?_ | refine fin_retC1 Tryd.results43 rfl (by assumption) rfl rfl ?_ | refine fin_retC Tryd.results43 rfl (by assumption) rfl ?_)
    exact ⟨rfl, hb⟩
theorem c86 {x : Int} {w : World} (hI : InI x) (hT : Tab w) : Calls Tryd.prog 86 #[.int .i64 x] w fun en w' => en = .returned (.string ⟨(Lib.itoa x).toArray⟩) ∧ Ext w w' := by
  have hb : Below w.heap.size w w := Below.refl _ _
  refine calls_vs Tryd.func86 Tryd.ntmps86 rfl rfl ?_
  (repeat (first | refine vo_pure rfl rfl ?_ | refine vs_seq ?_ | refine vs_region ?_ | refine vo_nil ?_ | refine fin_seq ?_))
  refine vo_call rfl rfl ?_
  refine Calls.mono (Tryd.strconv_FormatInt_10 x hI.1 hI.2 _ hT) ?_
  rintro _ _ ⟨rfl, k, os, rfl⟩
  refine ⟨_, rfl, ?_⟩
  (repeat (first | refine vo_pure rfl rfl ?_ | refine vo_nil ?_ | refine fin_seq ?_ | refine vs_ret ?_))
  (first | refine fin_ret1 Tryd.results86 rfl ?_ | refine fin_end1 Tryd.results86 rfl ?_ | refine fin_ret2 Tryd.results86 rfl rfl ?_ | refine fin_retC1 Tryd.results86 rfl (by assumption) rfl rfl ?_ | refine fin_retC Tryd.results86 rfl (by assumption) rfl ?_)
  exact ⟨rfl, Lib.below_grow _ _ (Nat.le_refl _) _ _⟩
theorem c67 {l h : Nat} {v : Value} {xs : List Int} {w : World} (k1 : SlR l h w v xs) (hs : xs.length ≤ 1048576) (kT : Tab w) : Calls Tryd.prog 67 #[v, .string ⟨#[44]⟩] w fun en w' => en = .returned (.string ⟨(listB xs).toArray⟩) ∧ Ext w w' := by
  have hb : Below w.heap.size w w := Below.refl _ _
  have hi := k1.ins
  obtain ⟨p, cap, rfl⟩ := k1.len
  refine calls_vs Tryd.func67 Tryd.ntmps67 rfl rfl ?_
  (repeat (first | refine vo_pure rfl rfl ?_ | refine vs_seq ?_ | refine vs_region ?_ | refine vo_nil ?_ | refine fin_seq ?_ | refine vo_val _ (runs_lenL rfl) rfl ?_))
  (refine vo_make rfl rfl rfl rfl rfl (by omega) (by omega) rfl ?_; intro b1 w1 hN B1; have zz := hN.eq; have zz := hN.size; have hE := hN.ext; have g1 : w.heap.size ≤ b1 := (by rw [← hN.eq]; exact hb.size); (try replace h1 := h1.up hE); (try replace h2 := h2.up hE); (try replace h3 := h3.up hE); (try replace h4 := h4.up hE); (try replace h5 := h5.up hE); (try replace h6 := h6.up hE); (try replace h7 := h7.up hE); (try replace h8 := h8.up hE); (try replace h9 := h9.up hE); (try replace B2 := B2.up hE); (try replace B3 := B3.up hE); (try replace B4 := B4.up hE); (try replace B5 := B5.up hE); (try replace B6 := B6.up hE); have zz := hE.size; (first | replace hb := hb.trans (hE.mono hb.size) | replace hb := hb.trans (WE.of_ext hE)); (try clear hE))
  (repeat (first | refine vo_pure rfl rfl ?_ | refine vs_seq ?_ | refine vs_region ?_ | refine vo_nil ?_ | refine fin_seq ?_ | refine vs_block ?_ | refine vo_val _ (runs_lenL rfl) rfl ?_))
  refine vs_loop (fun k : Nat => (13, .int .i64 (k : Int)) :: (12, .int .i64 (xs.length : Int)) :: (11, .slice p xs.length cap) :: (5, .slice (some ⟨b1, 0, none⟩) xs.length xs.length) :: (1, .string ⟨#[44]⟩) :: []) (fun k w' => k ≤ xs.length ∧ Below w.heap.size w w' ∧ Blk w' b1 ((xs.take k).map (fun x => Value.string (numS x)) ++ reps (xs.length - k) [.string ⟨#[]⟩]) 9) (fun k => xs.length - k) 0 ⟨Nat.zero_le _, hb, by simpa using B1⟩ (by ((repeat (refine sub_cons rfl ?_)); exact sub_nil)) ?_
  clear B1 hb
  rintro k w2 ⟨hk, hb, B1⟩
  have h1 := k1.up hb
  have h9 := kT.up hb
  (repeat (first | refine vo_pure rfl rfl ?_ | refine vs_seq ?_ | refine vs_region ?_ | refine vo_nil ?_ | refine fin_seq ?_))
  refine vs_cond rfl (fun hc => ?_) (fun hc => ?_)
  · have hlt : k < xs.length := by simpa using hc
    have e1 : xs.length - k = (xs.length - (k + 1)) + 1 := by omega
    rw [e1] at B1
    (repeat (first | refine vo_pure rfl rfl ?_ | refine vs_seq ?_ | refine vs_region ?_ | refine fin_seq ?_ | refine vs_skip ?_ | refine vs_block ?_))
    (first | refine vo_idxI rfl rfl h1 rfl (by exact hlt) ?_ | refine vq_idxI rfl rfl h1 rfl (by exact hlt) ?_)
    intro ad hcell hI
    (repeat (first | refine vo_pure rfl rfl ?_ | refine vs_region ?_ | refine vo_nil ?_ | refine fin_seq ?_ | refine vo_load rfl (by assumption) rfl ?_))
    (refine vo_call rfl rfl ?_; refine Calls.mono (c86 hI h9) ?_; rintro _ w1 ⟨rfl, hE⟩; refine ⟨_, rfl, ?_⟩; have zz := hE.size; (first | replace hb := hb.trans (hE.mono hb.size) | replace hb := hb.trans (WE.of_ext hE)); (try replace h1 := h1.up hE); (try replace h2 := h2.up hE); (try replace h3 := h3.up hE); (try replace h4 := h4.up hE); (try replace h5 := h5.up hE); (try replace h6 := h6.up hE); (try replace h7 := h7.up hE); (try replace h8 := h8.up hE); (try replace h9 := h9.up hE); (try replace B1 := B1.up hE); (try replace B2 := B2.up hE); (try replace B3 := B3.up hE); (try replace B4 := B4.up hE); (try replace B5 := B5.up hE); (try replace B6 := B6.up hE))
    have B2 : Blk w1 b1 ((xs.take k).map (fun x => Value.string (numS x)) ++ ([.string ⟨#[]⟩] ++ reps (xs.length - (k + 1)) [.string ⟨#[]⟩])) 9 := B1
    skip
    refine vo_idxB rfl rfl hlt rfl ?_
    skip
    refine vo_storeAt rfl rfl B2 (by simp; omega) rfl rfl rfl rfl ?_
    intro w3 hW hN
    (repeat (first | refine vo_pure rfl rfl ?_ | refine vs_region ?_ | refine vo_nil ?_ | refine fin_seq ?_ | refine fin_blk ?_ | refine vo_val _ (runs_add rfl rfl (by omega)) rfl ?_))
    refine fin_loop (k + 1) ⟨by omega, hb.trans (hW.below g1), ?_⟩ (by omega) (by ((repeat (refine sub_cons rfl ?_)); exact sub_nil))
    rw [take_map_succ _ xs k hlt, List.append_assoc]
    exact hN
  · have hge : k = xs.length := by simp at hc; omega
    subst hge
    rw [Nat.sub_self, List.take_length] at B1
    have B2 : Blk w2 b1 (xs.map (fun x => Value.string (numS x))) 9 := by simpa [reps] using B1
    have hl := listB_len xs hi
    have hj : Lib.join ((xs.map numS).map (·.data.toList)) (⟨#[44]⟩ : ByteArray).data.toList = listB xs := by
      unfold listB; rw [List.map_map]; rfl
    (repeat (first | refine vo_pure rfl rfl ?_ | refine vs_seq ?_ | refine vs_region ?_ | refine fin_seq ?_ | refine vs_exit ?_ | refine fin_seq_exit ?_ | refine fin_loop_exit ?_ | refine fin_blk_exit rfl ?_))
    refine vo_call rfl rfl ?_
    have hjoin := Tryd.strings_Join b1 0 xs.length (xs.map numS) ⟨#[44]⟩ w2 (fun j x hj' => B2.at j _ (by
      rw [List.getElem?_map] at hj' ⊢
      obtain ⟨y, hy, rfl⟩ := Option.map_eq_some_iff.1 hj'
      rw [hy]; rfl)) B2.lt (by rw [List.length_map]; omega) (by rw [List.length_map]; omega) (by rw [hj]; omega)
    rw [hj, List.length_map] at hjoin
    refine Calls.mono hjoin ?_
    rintro _ w3 ⟨rfl, hE⟩
    refine ⟨_, rfl, ?_⟩
    (repeat (first | refine vo_pure rfl rfl ?_ | refine vo_nil ?_ | refine fin_seq ?_ | refine vs_ret ?_))
    (first | refine fin_ret1 Tryd.results67 rfl ?_ | refine fin_end1 Tryd.results67 rfl ?_ | refine fin_ret2 Tryd.results67 rfl rfl ?_ | refine fin_retC1 Tryd.results67 rfl (by assumption) rfl rfl ?_ | refine fin_retC Tryd.results67 rfl (by assumption) rfl ?_)
    exact ⟨rfl, hb.trans (hE.mono hb.size)⟩
end Go.Proofs.YtahnpokehdlajaaDoor
