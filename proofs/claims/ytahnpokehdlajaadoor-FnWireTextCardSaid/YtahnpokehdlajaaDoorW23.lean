/- Reading a wire. -/
import Derived.Test.YtahnpokehdlajaaDoorW22
namespace Go.Proofs.YtahnpokehdlajaaDoor
open Go Go.Proofs Go.Proofs.Sv Go.RowKit
attribute [local irreducible] VS VO VQ VH FinS seqQ blkQ loopQ RunsOp RunsU
attribute [local simp] spl reps Value.cells

theorem listB_ne {xs : List Int} (h : xs ≠ []) : listB xs ≠ [] := by
  cases xs with
  | nil => exact (h rfl).elim
  | cons x r =>
    intro e
    have : Lib.itoa x = [] := by
      unfold listB at e
      rw [List.map_cons, Lib.join_cons] at e
      exact (List.append_eq_nil_iff.1 e).1
    unfold Lib.itoa at this
    split at this
    · cases this
    · exact dec_ne _ this
theorem list_bar (xs : List Int) : (124 : UInt8) ∉ listB xs := by
  have hi : ∀ x : Int, (124 : UInt8) ∉ Lib.itoa x := fun x => by
    unfold Lib.itoa
    split
    · intro h
      rcases List.mem_cons.1 h with h | h
      · exact absurd h (by decide)
      · have := dec_digits _ _ h; simp at this
    · intro h
      have := dec_digits _ _ h; simp at this
  intro h
  unfold listB at h
  cases xs with
  | nil => simp [Lib.join, List.intercalate] at h
  | cons x r =>
    rw [List.map_cons, Lib.join_cons, List.mem_append] at h
    rcases h with h | h
    · exact hi x h
    · unfold Lib.joinTail at h
      obtain ⟨l, hl, hm⟩ := List.mem_flatten.1 h
      obtain ⟨y, hy, rfl⟩ := List.mem_map.1 hl
      obtain ⟨z, _, rfl⟩ := List.mem_map.1 hy
      rcases List.mem_append.1 hm with hm | hm
      · exact absurd hm (by decide)
      · exact hi z hm
theorem All.up {α : Type} [Rep α] {lo hi : Nat} {w w' : World} {cs : List Value} {xs : List α} (h : All lo hi w cs xs) (k : Ext w w') : All lo hi w' cs xs := h.same (fun i _ _ h3 => k.block i h3)
theorem All.wr {α : Type} [Rep α] {lo hi b : Nat} {w w' : World} {cs : List Value} {xs : List α} (h : All lo hi w cs xs) (k : Wr b w w') (hb : b < lo ∨ hi ≤ b) : All lo hi w' cs xs := h.same (fun i h1 h2 _ => k.block i (by omega))

set_option maxHeartbeats 2000000 in
theorem c28 {x : WireD} {n : Int} {w : World} (hp : WireP x n) (hl : x.parent.length + x.res.length + x.cap.length + x.sink.length ≤ 1000) (kT : Tab w) (kE : ErrV w) (kM : MaxL w) : Calls Tryd.prog 28 #[.string ⟨(wireB x).toArray⟩, .int .i64 n] w fun en w' => ∃ v1 v2 v3 v4, en = .returned (.tuple #[.agg #[v1, v2, v3, v4], .bool true]) ∧ Rep.rep w.heap.size w'.heap.size w' [v1, v2, v3, v4] x ∧ Ext w w' := by
  have hb : Below w.heap.size w w := Below.refl _ _
  have hsmall : ∀ ps ∈ [x.parent, x.res, x.cap, x.sink], (∀ y ∈ ps, InI y) ∧ ps.length ≤ 1000 := by
    obtain ⟨a1, a2, a3, a7, a4, a5, a6, a8⟩ := hp
    intro ps hps
    simp only [List.mem_cons, List.not_mem_nil, or_false] at hps
    rcases hps with rfl | rfl | rfl | rfl
    · refine ⟨fun y hy => ?_, by omega⟩
      obtain ⟨i, hi, rfl⟩ := List.getElem_of_mem hy
      have := (a4 i hi).1 hi
      unfold InI
      by_cases h0 : i = 0
      · have := this.1 h0; omega
      · have := this.2 (by omega); omega
    · exact ⟨fun y hy => by have := a5 y hy; unfold InI; omega, by omega⟩
    · exact ⟨fun y hy => by have := a6 y hy; unfold InI; omega, by omega⟩
    · exact ⟨fun y hy => by have := a8 y hy; unfold InI; omega, by omega⟩
  have hw : wireB x = Lib.join ([x.parent, x.res, x.cap, x.sink].map listB) [124] := (join4 _ _ _ _).symm
  have hlen : (wireB x).length ≤ 100000 := by
    have e1 := listB_len _ (hsmall x.parent (by simp)).1
    have e2 := listB_len _ (hsmall x.res (by simp)).1
    have e3 := listB_len _ (hsmall x.cap (by simp)).1
    have e4 := listB_len _ (hsmall x.sink (by simp)).1
    simp only [wireB, List.length_append, List.length_cons, List.length_nil]; omega
  rw [hw] at hlen ⊢
  generalize hps : [x.parent, x.res, x.cap, x.sink] = ps at *
  have hpl : ps.length = 4 := by rw [← hps]; rfl
  refine calls_vs Tryd.func28 Tryd.ntmps28 rfl rfl ?_
  (repeat (first | refine vs_seq ?_ | refine vs_region ?_))
  (refine vo_alloc rfl rfl ?_; intro b1 w1 hN B1; have zz := hN.eq; have zz := hN.size; have hE := hN.ext; have g1 : w.heap.size ≤ b1 := (by rw [← hN.eq]; exact hb.size); skip; have zz := hE.size; (first | replace hb := hb.trans (hE.mono hb.size) | replace hb := hb.trans (WE.of_ext hE)); (try replace h1 := h1.up hE); (try replace h2 := h2.up hE); (try replace h3 := h3.up hE); (try replace h4 := h4.up hE); (try replace h5 := h5.up hE); (try replace h6 := h6.up hE); (try replace h7 := h7.up hE); (try replace h8 := h8.up hE); (try replace h9 := h9.up hE); (try replace B2 := B2.up hE); (try replace B3 := B3.up hE); (try replace B4 := B4.up hE); (try replace B5 := B5.up hE); (try replace B6 := B6.up hE); (try clear hN hE); (try dsimp at B1))
  (repeat (first | refine vo_pure rfl rfl ?_ | refine vs_seq ?_ | refine vs_region ?_ | refine vo_nil ?_ | refine fin_seq ?_))
  refine vo_call rfl rfl ?_
  refine Calls.mono (splits (ls := ps.map listB) (by intro e; have := congrArg List.length e; simp [hpl] at this) (fun y hy => by obtain ⟨z, _, rfl⟩ := List.mem_map.1 hy; exact list_bar z) (by omega) (kM.up hb)) ?_
  rintro _ w2 ⟨b, rfl, B3, hN⟩
  refine ⟨_, rfl, ?_⟩
  rw [List.length_map, hpl]
  have hbe := hN.eq
  have hbs := hN.size
  have hE := hN.ext
  replace B1 := B1.up hE
  replace hb := hb.trans (hE.mono hb.size)
  have gb : w.heap.size ≤ b := by omega
  clear hE
  (repeat (first | refine vo_pure rfl rfl ?_ | refine vs_seq ?_ | refine vs_region ?_ | refine vo_nil ?_ | refine fin_seq ?_ | refine vs_skip ?_ | refine vs_cond_false rfl ?_ | refine vo_val _ (runs_lenL rfl) rfl ?_))
  (refine vo_alloc rfl rfl ?_; intro b2 w1 hN B2; have zz := hN.eq; have zz := hN.size; have hE := hN.ext; have g2 : w.heap.size ≤ b2 := (by rw [← hN.eq]; exact hb.size); (try have l1_2 : b1 < b2 := (by rw [← hN.eq]; exact B1.lt)); have zz := hE.size; (first | replace hb := hb.trans (hE.mono hb.size) | replace hb := hb.trans (WE.of_ext hE)); (try replace h1 := h1.up hE); (try replace h2 := h2.up hE); (try replace h3 := h3.up hE); (try replace h4 := h4.up hE); (try replace h5 := h5.up hE); (try replace h6 := h6.up hE); (try replace h7 := h7.up hE); (try replace h8 := h8.up hE); (try replace h9 := h9.up hE); (try replace B1 := B1.up hE); (try replace B3 := B3.up hE); (try replace B4 := B4.up hE); (try replace B5 := B5.up hE); (try replace B6 := B6.up hE); (try clear hN hE); (try dsimp at B2))
  (repeat (first | refine vo_pure rfl rfl ?_ | refine vs_seq ?_ | refine vs_region ?_ | refine vo_nil ?_ | refine fin_seq ?_ | refine vs_block ?_ | refine vo_val _ (runs_lenL rfl) rfl ?_))
  refine vs_loop (fun k : Nat => (21, .int .i64 (k : Int)) :: (20, .int .i64 4) :: (19, .slice (some ⟨b, 0, none⟩) 4 4) :: (7, .pointer (some ⟨b2, 0, none⟩)) :: (4, .pointer (some ⟨b1, 0, none⟩)) :: (1, .int .i64 n) :: []) (fun k w' => k ≤ 4 ∧ ∃ cs : List Value, cs.length = k ∧ Blk w' b2 (cs ++ reps (4 - k) [.slice none 0 0]) 72 ∧ All (b2 + 1) w'.heap.size w' cs (ps.take k) ∧ Blk w' b ((ps.map listB).map fun l => Value.string ⟨l.toArray⟩) 9 ∧ Blk w' b1 [.slice none 0 0, .slice none 0 0, .slice none 0 0, .slice none 0 0] 46 ∧ Below w.heap.size w w') (fun k => 4 - k) 0 ⟨Nat.zero_le _, [], rfl, B2, rfl, B3, B1, hb⟩ (by ((repeat (refine sub_cons rfl ?_)); exact sub_nil)) ?_
  clear B1 B2 B3 hb
  rintro k w3 ⟨hk, cs, hcs, B2, hA, B3, B1, hb⟩
  (repeat (first | refine vo_pure rfl rfl ?_ | refine vs_seq ?_ | refine vs_region ?_ | refine vo_nil ?_ | refine fin_seq ?_))
  refine vs_cond rfl (fun hc => ?_) (fun hc => ?_)
  · have hlt : k < 4 := by simp at hc; omega
    have hkp : k < ps.length := by omega
    have e1 : 4 - k = (4 - (k + 1)) + 1 := by omega
    rw [e1] at B2
    have hso := hsmall ps[k] (List.getElem_mem hkp)
    have b2lt := B2.lt
    by_cases h0 : ps[k] = []
    · have hcell : w3.cell? ⟨b, k * 1, none⟩ = some (.string ⟨#[]⟩) := by
        have := B3.at k (.string ⟨#[]⟩) (by simp [hkp, h0]; rfl)
        rw [Nat.mul_one]; simpa using this
      (repeat (first | refine vo_pure rfl rfl ?_ | refine vs_seq ?_ | refine vs_region ?_ | refine fin_seq ?_ | refine vs_skip ?_ | refine vs_block ?_))
      refine vo_idxB rfl rfl hlt rfl ?_
      refine vo_load rfl hcell rfl ?_
      (repeat (first | refine vo_pure rfl rfl ?_ | refine vs_seq ?_ | refine vs_region ?_ | refine vo_nil ?_ | refine fin_seq ?_))
      refine vo_call rfl rfl ?_
      refine Calls.mono (c50e (kE.up hb) (kM.up hb)) ?_
      rintro _ w4 ⟨rfl, hE⟩
      refine ⟨_, rfl, ?_⟩
      have zz := hE.size
      replace B1 := B1.up hE
      replace B2 := B2.up hE
      replace B3 := B3.up hE
      replace hA := (All.up hA hE)
      replace hb := hb.trans (hE.mono hb.size)
      clear hE
      have B4 : Blk w4 b2 (cs ++ ([.slice none 0 0] ++ reps (4 - (k + 1)) [.slice none 0 0])) 72 := B2
      (repeat (first | refine vo_pure rfl rfl ?_ | refine vs_seq ?_ | refine vs_region ?_ | refine vo_nil ?_ | refine fin_seq ?_ | refine vs_skip ?_ | refine vs_cond_true rfl ?_ | refine vs_cond_false rfl ?_))
      refine vo_val _ (runs_idxA rfl rfl hlt) rfl ?_
      skip
      refine vo_storeAt rfl rfl B4 (by omega) rfl rfl rfl rfl ?_
      intro w5 hW hN5
      have hsz := hW.size
      replace hA := All.wr hA hW (by omega)
      replace B3 := B3.wr hW (by omega)
      replace B1 := B1.wr hW (by omega)
      replace hb := hb.trans (hW.below (by omega))
      (repeat (first | refine vo_pure rfl rfl ?_ | refine vs_region ?_ | refine vo_nil ?_ | refine fin_seq ?_ | refine fin_blk ?_ | refine vo_val _ (runs_add rfl rfl (by omega)) rfl ?_))
      refine fin_loop (k + 1) ⟨hlt, cs ++ [.slice none 0 0], by simp; omega, by rw [List.append_assoc]; exact hN5, ?_, B3, B1, hb⟩ (by omega) (by ((repeat (refine sub_cons rfl ?_)); exact sub_nil))
      rw [List.take_succ_eq_append_getElem hkp]
      have hE1 : Rep.rep (b2 + 1) w5.heap.size w5 [.slice none 0 0] ps[k] := ⟨_, rfl, by rw [h0]; exact SlR.nil⟩
      exact All.app (All.one hE1) (hA.wide (Nat.le_refl _) (by omega))
    · have hcell : w3.cell? ⟨b, k * 1, none⟩ = some (.string ⟨(listB ps[k]).toArray⟩) := by
        have := B3.at k (.string ⟨(listB ps[k]).toArray⟩) (by simp [hkp])
        rw [Nat.mul_one]; simpa using this
      (repeat (first | refine vo_pure rfl rfl ?_ | refine vs_seq ?_ | refine vs_region ?_ | refine fin_seq ?_ | refine vs_skip ?_ | refine vs_block ?_))
      refine vo_idxB rfl rfl hlt rfl ?_
      refine vo_load rfl hcell rfl ?_
      (repeat (first | refine vo_pure rfl rfl ?_ | refine vs_seq ?_ | refine vs_region ?_ | refine vo_nil ?_ | refine fin_seq ?_))
      refine vo_call rfl rfl ?_
      refine Calls.mono (c50 h0 hso.1 hso.2 (kT.up hb) (kM.up hb)) ?_
      rintro _ w4 ⟨v, rfl, hS, hE⟩
      obtain ⟨pv, cv, rfl⟩ := hS.len
      refine ⟨_, rfl, ?_⟩
      have zz := hE.size
      replace B1 := B1.up hE
      replace B2 := B2.up hE
      replace B3 := B3.up hE
      replace hA := (All.up hA hE)
      replace hb := hb.trans (hE.mono hb.size)
      clear hE
      have B4 : Blk w4 b2 (cs ++ ([.slice none 0 0] ++ reps (4 - (k + 1)) [.slice none 0 0])) 72 := B2
      (repeat (first | refine vo_pure rfl rfl ?_ | refine vs_seq ?_ | refine vs_region ?_ | refine vo_nil ?_ | refine fin_seq ?_))
      refine vs_cond rfl (fun hc => ?_) (fun hc => ?_)
      · exfalso
        have := of_decide_eq_true hc
        have h2 := congrArg (fun s : ByteArray => s.data.toList) this
        exact listB_ne h0 h2
      (repeat (first | refine vo_pure rfl rfl ?_ | refine vs_seq ?_ | refine vs_region ?_ | refine vo_nil ?_ | refine fin_seq ?_ | refine vs_skip ?_ | refine vs_cond_false rfl ?_))
      refine vo_val _ (runs_idxA rfl rfl hlt) rfl ?_
      skip
      refine vo_storeAt rfl rfl B4 (by omega) rfl rfl rfl rfl ?_
      intro w5 hW hN5
      have hsz := hW.size
      replace hA := All.wr hA hW (by omega)
      replace B3 := B3.wr hW (by omega)
      replace B1 := B1.wr hW (by omega)
      replace hb := hb.trans (hW.below (by omega))
      (repeat (first | refine vo_pure rfl rfl ?_ | refine vs_region ?_ | refine vo_nil ?_ | refine fin_seq ?_ | refine fin_blk ?_ | refine vo_val _ (runs_add rfl rfl (by omega)) rfl ?_))
      refine fin_loop (k + 1) ⟨hlt, cs ++ [_], by simp; omega, by rw [List.append_assoc]; exact hN5, ?_, B3, B1, hb⟩ (by omega) (by ((repeat (refine sub_cons rfl ?_)); exact sub_nil))
      rw [List.take_succ_eq_append_getElem hkp]
      have hE1 : Rep.rep (b2 + 1) w5.heap.size w5 [.slice pv ps[k].length cv] ps[k] := ⟨_, rfl, (hS.wr hW (by omega)).wide (by omega) (by omega)⟩
      exact All.app (All.one hE1) (hA.wide (Nat.le_refl _) (by omega))
  have hk4 : k = 4 := by simp at hc; omega
  clear hk hc
  subst hk4
  rw [List.take_of_length_le (by omega), ← hps] at hA
  obtain ⟨_, _, rfl, ⟨v1, rfl, h1⟩, _, _, rfl, ⟨v2, rfl, h2⟩, _, _, rfl, ⟨v3, rfl, h3⟩, _, _, rfl, ⟨v4, rfl, h4⟩, rfl⟩ := hA
  clear hcs
  obtain ⟨p1, n1, rfl⟩ := h1.len
  obtain ⟨p2, n2, rfl⟩ := h2.len
  obtain ⟨p3, n3, rfl⟩ := h3.len
  obtain ⟨p4, n4, rfl⟩ := h4.len
  have B2' : Blk w3 b2 [.slice p1 x.parent.length n1, .slice p2 x.res.length n2, .slice p3 x.cap.length n3, .slice p4 x.sink.length n4] 72 := B2
  clear B2 B3
  have B2 := B2'
  clear B2'
  have zz := B2.lt
  (repeat (first | refine vs_seq ?_ | refine vs_region ?_ | refine fin_seq ?_ | refine vs_exit ?_ | refine fin_seq_exit ?_ | refine fin_loop_exit ?_ | refine fin_blk_exit rfl ?_))
  refine vo_val _ (runs_idxA (k := 0) rfl rfl (by omega)) rfl ?_
  refine vo_loadB rfl B2 rfl rfl ?_
  refine vo_val _ (runs_idxA (k := 1) rfl rfl (by omega)) rfl ?_
  refine vo_loadB rfl B2 rfl rfl ?_
  refine vo_val _ (runs_idxA (k := 2) rfl rfl (by omega)) rfl ?_
  refine vo_loadB rfl B2 rfl rfl ?_
  refine vo_val _ (runs_idxA (k := 3) rfl rfl (by omega)) rfl ?_
  refine vo_loadB rfl B2 rfl rfl ?_
  (repeat (first | refine vo_build rfl rfl rfl ?_))
  (refine vo_alloc rfl rfl ?_; intro b4 w1 hN B4; have zz := hN.eq; have zz := hN.size; have hE := hN.ext; have g4 : w.heap.size ≤ b4 := (by rw [← hN.eq]; exact hb.size); (try have l1_4 : b1 < b4 := (by rw [← hN.eq]; exact B1.lt)); (try have l2_4 : b2 < b4 := (by rw [← hN.eq]; exact B2.lt)); (try have l3_4 : b3 < b4 := (by rw [← hN.eq]; exact B3.lt)); have zz := hE.size; (first | replace hb := hb.trans (hE.mono hb.size) | replace hb := hb.trans (WE.of_ext hE)); (try replace h1 := h1.up hE); (try replace h2 := h2.up hE); (try replace h3 := h3.up hE); (try replace h4 := h4.up hE); (try replace h5 := h5.up hE); (try replace h6 := h6.up hE); (try replace h7 := h7.up hE); (try replace h8 := h8.up hE); (try replace h9 := h9.up hE); (try replace B1 := B1.up hE); (try replace B2 := B2.up hE); (try replace B3 := B3.up hE); (try replace B5 := B5.up hE); (try replace B6 := B6.up hE); (try clear hN hE); (try dsimp at B4))
  skip
  (refine vo_store rfl rfl B4 rfl rfl rfl rfl ?_; intro w1 hW hN; have zz := hW.size; (first | replace hb := hb.trans (hW.below (by assumption)) | replace hb := hb.trans (WE.of_wr hW) | replace hb := hb.thenWr hW (by omega)); (try replace h1 := h1.wr hW (by omega)); (try replace h2 := h2.wr hW (by omega)); (try replace h3 := h3.wr hW (by omega)); (try replace h4 := h4.wr hW (by omega)); (try replace h5 := h5.wr hW (by omega)); (try replace h6 := h6.wr hW (by omega)); (try replace h7 := h7.wr hW (by omega)); (try replace h8 := h8.wr hW (by omega)); (try replace h9 := h9.wr hW (by omega)); (try replace B1 := B1.wr hW (by omega)); (try replace B2 := B2.wr hW (by omega)); (try replace B3 := B3.wr hW (by omega)); (try replace B5 := B5.wr hW (by omega)); (try replace B6 := B6.wr hW (by omega)); clear B4; have B4 := hN; clear hN hW; (try dsimp at B4))
  (repeat (first | refine vo_pure rfl rfl ?_ | refine vs_seq ?_ | refine vs_region ?_ | refine vo_nil ?_ | refine fin_seq ?_ | refine vo_loadA rfl (by assumption) rfl rfl ?_))
  (refine vo_call rfl rfl ?_; refine Calls.mono (c30 (mkWire h1 h2 h3 h4) (by omega)) ?_; rintro _ w1 ⟨rfl, hE⟩; refine ⟨_, rfl, ?_⟩; have zz := hE.size; (first | replace hb := hb.trans (hE.mono hb.size) | replace hb := hb.trans (WE.of_ext hE)); (try replace h1 := h1.up hE); (try replace h2 := h2.up hE); (try replace h3 := h3.up hE); (try replace h4 := h4.up hE); (try replace h5 := h5.up hE); (try replace h6 := h6.up hE); (try replace h7 := h7.up hE); (try replace h8 := h8.up hE); (try replace h9 := h9.up hE); (try replace B1 := B1.up hE); (try replace B2 := B2.up hE); (try replace B3 := B3.up hE); (try replace B4 := B4.up hE); (try replace B5 := B5.up hE); (try replace B6 := B6.up hE))
  rw [tf_t hp]
  (repeat (first | refine vo_pure rfl rfl ?_ | refine vs_seq ?_ | refine vs_region ?_ | refine vo_nil ?_ | refine fin_seq ?_ | refine vs_skip ?_ | refine vs_cond_false rfl ?_ | refine vo_loadA rfl (by assumption) rfl rfl ?_))
  (refine vo_store rfl rfl B1 rfl rfl rfl rfl ?_; intro w1 hW hN; have zz := hW.size; (first | replace hb := hb.trans (hW.below (by assumption)) | replace hb := hb.trans (WE.of_wr hW) | replace hb := hb.thenWr hW (by omega)); (try replace h1 := h1.wr hW (by omega)); (try replace h2 := h2.wr hW (by omega)); (try replace h3 := h3.wr hW (by omega)); (try replace h4 := h4.wr hW (by omega)); (try replace h5 := h5.wr hW (by omega)); (try replace h6 := h6.wr hW (by omega)); (try replace h7 := h7.wr hW (by omega)); (try replace h8 := h8.wr hW (by omega)); (try replace h9 := h9.wr hW (by omega)); (try replace B2 := B2.wr hW (by omega)); (try replace B3 := B3.wr hW (by omega)); (try replace B4 := B4.wr hW (by omega)); (try replace B5 := B5.wr hW (by omega)); (try replace B6 := B6.wr hW (by omega)); clear B1; have B1 := hN; clear hN hW; (try dsimp at B1))
  (repeat (first | refine vo_pure rfl rfl ?_ | refine vo_nil ?_ | refine fin_seq ?_ | refine vs_ret ?_))
  (first | refine fin_ret1 Tryd.results28 rfl ?_ | refine fin_end1 Tryd.results28 rfl ?_ | refine fin_ret2 Tryd.results28 rfl rfl ?_ | refine fin_retC1 Tryd.results28 rfl (by assumption) rfl rfl ?_ | refine fin_retC Tryd.results28 rfl (by assumption) rfl ?_)
  exact ⟨_, _, _, _, rfl, mkWire (h1.wide (by omega) (by omega)) (h2.wide (by omega) (by omega)) (h3.wide (by omega) (by omega)) (h4.wide (by omega) (by omega)), hb⟩
end Go.Proofs.YtahnpokehdlajaaDoor
