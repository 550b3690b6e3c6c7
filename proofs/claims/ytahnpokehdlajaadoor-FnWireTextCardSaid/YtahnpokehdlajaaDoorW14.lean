/- Wires: their texts, the law. -/
import Derived.Test.YtahnpokehdlajaaDoorW13
namespace Go.Proofs.YtahnpokehdlajaaDoor
open Go Go.Proofs Go.Proofs.Sv Go.RowKit
attribute [local irreducible] VS VO VQ VH FinS seqQ blkQ loopQ RunsOp RunsU
attribute [local simp] spl reps Value.cells

def wireB (x : WireD) : List UInt8 := listB x.parent ++ [124] ++ listB x.res ++ [124] ++ listB x.cap ++ [124] ++ listB x.sink
theorem inR_low {xs : List Int} {lo hi : Int} (h : InR xs lo hi) (hl : -9223372036854775807 ≤ lo) : ∀ x ∈ xs, -9223372036854775807 ≤ x := fun x hx => by have := (h x hx).1; omega
theorem join4 (a b c d : List UInt8) : Lib.join [a, b, c, d] [124] = a ++ [124] ++ b ++ [124] ++ c ++ [124] ++ d := by
  simp [Lib.join_cons, Lib.joinTail]
theorem tree_lo {p r : List Int} (h : TreeP p r) : ∀ x ∈ p, -9223372036854775807 ≤ x := by
  intro x hx
  obtain ⟨i, hi', rfl⟩ := List.getElem_of_mem hx
  have := (h i hi').1 hi'
  by_cases h0 : i = 0
  · have := this.1 h0; omega
  · have := this.2 (by omega); omega
theorem c47 {lo hi : Nat} {cs : List Value} {x : WireD} {w : World} (k1 : Rep.rep lo hi w cs x) (hs : x.parent.length + x.res.length + x.cap.length + x.sink.length ≤ 1048576) (h9 : Tab w) : Calls Tryd.prog 47 #[.agg cs.toArray] w fun en w' => en = .returned (.string ⟨(wireB x).toArray⟩) ∧ Ext w w' := by
  obtain ⟨_, _, _, _, rfl, ⟨v1, rfl, h1⟩, ⟨v2, rfl, h2⟩, ⟨v3, rfl, h3⟩, ⟨v4, rfl, h4⟩⟩ := k1
  have hb : Below w.heap.size w w := Below.refl _ _
  have l1 := listB_len _ h1.ins
  have l2 := listB_len _ h2.ins
  have l3 := listB_len _ h3.ins
  have l4 := listB_len _ h4.ins
  refine calls_vs Tryd.func47 Tryd.ntmps47 rfl rfl ?_
  (repeat (first | refine vs_seq ?_ | refine vs_region ?_))
  (refine vo_box rfl rfl rfl ?_; intro b1 w1 hN B1; have zz := hN.eq; have zz := hN.size; have hE := hN.ext; have g1 : w.heap.size ≤ b1 := (by rw [← hN.eq]; exact hb.size); skip; have zz := hE.size; (first | replace hb := hb.trans (hE.mono hb.size) | replace hb := hb.trans (WE.of_ext hE)); (try replace h1 := h1.up hE); (try replace h2 := h2.up hE); (try replace h3 := h3.up hE); (try replace h4 := h4.up hE); (try replace h5 := h5.up hE); (try replace h6 := h6.up hE); (try replace h7 := h7.up hE); (try replace h8 := h8.up hE); (try replace h9 := h9.up hE); (try replace B2 := B2.up hE); (try replace B3 := B3.up hE); (try replace B4 := B4.up hE); (try replace B5 := B5.up hE); (try replace B6 := B6.up hE); (try clear hN hE); (try dsimp at B1))
  (repeat (first | refine vo_pure rfl rfl ?_ | refine vs_seq ?_ | refine vo_nil ?_ | refine fin_seq ?_))
  (refine vs_held ?_; intro w1 hE; (try replace h1 := h1.up hE); (try replace h2 := h2.up hE); (try replace h3 := h3.up hE); (try replace h4 := h4.up hE); (try replace h5 := h5.up hE); (try replace h6 := h6.up hE); (try replace h7 := h7.up hE); (try replace h8 := h8.up hE); (try replace h9 := h9.up hE); (try replace B1 := B1.up hE); (try replace B2 := B2.up hE); (try replace B3 := B3.up hE); (try replace B4 := B4.up hE); (try replace B5 := B5.up hE); (try replace B6 := B6.up hE); have zz := hE.size; (first | replace hb := hb.trans (hE.mono hb.size) | replace hb := hb.trans (WE.of_ext hE)); have hS := Ext.refl w1; (try clear hE))
  refine vh_take 0 rfl (fun _ hX => runs_fieldAddr rfl) rfl (by kernel_rfl) (by kernel_rfl) (by kernel_rfl) ?_
  refine vh_take 1 rfl (fun _ hX => runs_load rfl ((B1.up hX).at 0 _ rfl)) rfl (by kernel_rfl) (by kernel_rfl) (by kernel_rfl) ?_
  refine vh_take 3 rfl (fun _ hX => runs_fieldAddr rfl) rfl (by kernel_rfl) (by kernel_rfl) (by kernel_rfl) ?_
  refine vh_take 4 rfl (fun _ hX => runs_load rfl ((B1.up hX).at 1 _ rfl)) rfl (by kernel_rfl) (by kernel_rfl) (by kernel_rfl) ?_
  refine vh_take 6 rfl (fun _ hX => runs_fieldAddr rfl) rfl (by kernel_rfl) (by kernel_rfl) (by kernel_rfl) ?_
  refine vh_take 7 rfl (fun _ hX => runs_load rfl ((B1.up hX).at 2 _ rfl)) rfl (by kernel_rfl) (by kernel_rfl) (by kernel_rfl) ?_
  refine vh_take 9 rfl (fun _ hX => runs_fieldAddr rfl) rfl (by kernel_rfl) (by kernel_rfl) (by kernel_rfl) ?_
  refine vh_take 10 rfl (fun _ hX => runs_load rfl ((B1.up hX).at 3 _ rfl)) rfl (by kernel_rfl) (by kernel_rfl) (by kernel_rfl) ?_
  (refine vh_one 2 (by kernel_rfl) (vho_call rfl rfl rfl (Calls.mono (c67 h1 (by omega) h9) ?_)) hS; rintro _ w1 ⟨rfl, hE⟩; refine ⟨_, rfl, ?_⟩; have zz := hE.size; (first | replace hb := hb.trans (hE.mono hb.size) | replace hb := hb.trans (WE.of_ext hE)); replace hS := hS.trans hE; (try replace h1 := h1.up hE); (try replace h2 := h2.up hE); (try replace h3 := h3.up hE); (try replace h4 := h4.up hE); (try replace h5 := h5.up hE); (try replace h6 := h6.up hE); (try replace h7 := h7.up hE); (try replace h8 := h8.up hE); (try replace h9 := h9.up hE); (try replace B1 := B1.up hE); (try replace B2 := B2.up hE); (try replace B3 := B3.up hE); (try replace B4 := B4.up hE); (try replace B5 := B5.up hE); (try replace B6 := B6.up hE))
  (refine vh_one 5 (by kernel_rfl) (vho_call rfl rfl rfl (Calls.mono (c67 h2 (by omega) h9) ?_)) hS; rintro _ w1 ⟨rfl, hE⟩; refine ⟨_, rfl, ?_⟩; have zz := hE.size; (first | replace hb := hb.trans (hE.mono hb.size) | replace hb := hb.trans (WE.of_ext hE)); replace hS := hS.trans hE; (try replace h1 := h1.up hE); (try replace h2 := h2.up hE); (try replace h3 := h3.up hE); (try replace h4 := h4.up hE); (try replace h5 := h5.up hE); (try replace h6 := h6.up hE); (try replace h7 := h7.up hE); (try replace h8 := h8.up hE); (try replace h9 := h9.up hE); (try replace B1 := B1.up hE); (try replace B2 := B2.up hE); (try replace B3 := B3.up hE); (try replace B4 := B4.up hE); (try replace B5 := B5.up hE); (try replace B6 := B6.up hE))
  (refine vh_one 8 (by kernel_rfl) (vho_call rfl rfl rfl (Calls.mono (c67 h3 (by omega) h9) ?_)) hS; rintro _ w1 ⟨rfl, hE⟩; refine ⟨_, rfl, ?_⟩; have zz := hE.size; (first | replace hb := hb.trans (hE.mono hb.size) | replace hb := hb.trans (WE.of_ext hE)); replace hS := hS.trans hE; (try replace h1 := h1.up hE); (try replace h2 := h2.up hE); (try replace h3 := h3.up hE); (try replace h4 := h4.up hE); (try replace h5 := h5.up hE); (try replace h6 := h6.up hE); (try replace h7 := h7.up hE); (try replace h8 := h8.up hE); (try replace h9 := h9.up hE); (try replace B1 := B1.up hE); (try replace B2 := B2.up hE); (try replace B3 := B3.up hE); (try replace B4 := B4.up hE); (try replace B5 := B5.up hE); (try replace B6 := B6.up hE))
  (refine vh_one 11 (by kernel_rfl) (vho_call rfl rfl rfl (Calls.mono (c67 h4 (by omega) h9) ?_)) hS; rintro _ w1 ⟨rfl, hE⟩; refine ⟨_, rfl, ?_⟩; have zz := hE.size; (first | replace hb := hb.trans (hE.mono hb.size) | replace hb := hb.trans (WE.of_ext hE)); replace hS := hS.trans hE; (try replace h1 := h1.up hE); (try replace h2 := h2.up hE); (try replace h3 := h3.up hE); (try replace h4 := h4.up hE); (try replace h5 := h5.up hE); (try replace h6 := h6.up hE); (try replace h7 := h7.up hE); (try replace h8 := h8.up hE); (try replace h9 := h9.up hE); (try replace B1 := B1.up hE); (try replace B2 := B2.up hE); (try replace B3 := B3.up hE); (try replace B4 := B4.up hE); (try replace B5 := B5.up hE); (try replace B6 := B6.up hE))
  refine vh_one 12 (by kernel_rfl) (vho_buildSlice rfl rfl rfl rfl rfl rfl rfl ?_) hS
  intro b2 w2 hN B2
  dsimp at B2
  have hS2 := hS.trans hN.ext
  have hj := join4 (listB x.parent) (listB x.res) (listB x.cap) (listB x.sink)
  have hjoin := Tryd.strings_Join b2 0 4 [⟨(listB x.parent).toArray⟩, ⟨(listB x.res).toArray⟩, ⟨(listB x.cap).toArray⟩, ⟨(listB x.sink).toArray⟩] ⟨#[124]⟩ w2 (fun j x hj' => B2.at j _ (by
      match j, hj' with
      | 0, h => cases h; rfl
      | 1, h => cases h; rfl
      | 2, h => cases h; rfl
      | 3, h => cases h; rfl
      | k + 4, h => cases h)) B2.lt (show (4 : Nat) ≤ 140737488355328 by omega) (Nat.le_refl 4) (by
        have : (List.map (fun x : ByteArray => x.data.toList) [⟨(listB x.parent).toArray⟩, ⟨(listB x.res).toArray⟩, ⟨(listB x.cap).toArray⟩, ⟨(listB x.sink).toArray⟩]) = [listB x.parent, listB x.res, listB x.cap, listB x.sink] := rfl
        rw [this, show (⟨#[124]⟩ : ByteArray).data.toList = [124] from rfl, hj]
        simp only [List.length_append, List.length_cons, List.length_nil]; omega)
  refine vh_one 13 (by kernel_rfl) (vho_call rfl rfl rfl (Calls.mono hjoin ?_)) hS2
  rintro _ w3 ⟨rfl, hE⟩
  refine ⟨_, rfl, ?_⟩
  have hS3 := hS2.trans hE
  refine vh_only 14 rfl (by kernel_rfl) (runs_pure rfl) rfl ?_
  refine vh_done (by kernel_rfl) ?_ hS3
  (repeat (first | refine fin_seq ?_ | refine vs_ret ?_))
  (first | refine fin_ret1 Tryd.results47 rfl ?_ | refine fin_end1 Tryd.results47 rfl ?_ | refine fin_ret2 Tryd.results47 rfl rfl ?_ | refine fin_retC1 Tryd.results47 rfl (by assumption) rfl rfl ?_ | refine fin_retC Tryd.results47 rfl (by assumption) rfl ?_)
  refine ⟨?_, hb.trans ((hN.ext.trans hE).mono hb.size)⟩
  rw [show (List.map (fun x : ByteArray => x.data.toList) [⟨(listB x.parent).toArray⟩, ⟨(listB x.res).toArray⟩, ⟨(listB x.cap).toArray⟩, ⟨(listB x.sink).toArray⟩]) = [listB x.parent, listB x.res, listB x.cap, listB x.sink] from rfl, show (⟨#[124]⟩ : ByteArray).data.toList = [124] from rfl, hj]
  rfl
theorem c24 {lo hi : Nat} {cs : List Value} {x : WireD} {n : Int} {w : World} (k1 : Rep.rep lo hi w cs x) (hs : x.parent.length + x.res.length + x.cap.length + x.sink.length ≤ 1048576) (h9 : Tab w) : Calls Tryd.prog 24 #[.agg cs.toArray, .int .i64 n] w fun en w' => en = .returned (.string (if tf (WireP x n) then ⟨(wireB x).toArray⟩ else ⟨#[]⟩)) ∧ Ext w w' := by
  obtain ⟨_, _, _, _, rfl, ⟨v1, rfl, h1⟩, ⟨v2, rfl, h2⟩, ⟨v3, rfl, h3⟩, ⟨v4, rfl, h4⟩⟩ := k1
  have hb : Below w.heap.size w w := Below.refl _ _
  refine calls_vs Tryd.func24 Tryd.ntmps24 rfl rfl ?_
  (repeat (first | refine vs_seq ?_ | refine vs_region ?_))
  (refine vo_box rfl rfl rfl ?_; intro b1 w1 hN B1; have zz := hN.eq; have zz := hN.size; have hE := hN.ext; have g1 : w.heap.size ≤ b1 := (by rw [← hN.eq]; exact hb.size); skip; have zz := hE.size; (first | replace hb := hb.trans (hE.mono hb.size) | replace hb := hb.trans (WE.of_ext hE)); (try replace h1 := h1.up hE); (try replace h2 := h2.up hE); (try replace h3 := h3.up hE); (try replace h4 := h4.up hE); (try replace h5 := h5.up hE); (try replace h6 := h6.up hE); (try replace h7 := h7.up hE); (try replace h8 := h8.up hE); (try replace h9 := h9.up hE); (try replace B2 := B2.up hE); (try replace B3 := B3.up hE); (try replace B4 := B4.up hE); (try replace B5 := B5.up hE); (try replace B6 := B6.up hE); (try clear hN hE); (try dsimp at B1))
  (repeat (first | refine vo_pure rfl rfl ?_ | refine vs_seq ?_ | refine vs_region ?_ | refine vo_nil ?_ | refine fin_seq ?_ | refine vo_loadA rfl (by assumption) rfl rfl ?_))
  (refine vo_call rfl rfl ?_; refine Calls.mono (c30 (mkWire h1 h2 h3 h4) hs) ?_; rintro _ w1 ⟨rfl, hE⟩; refine ⟨_, rfl, ?_⟩; have zz := hE.size; (first | replace hb := hb.trans (hE.mono hb.size) | replace hb := hb.trans (WE.of_ext hE)); (try replace h1 := h1.up hE); (try replace h2 := h2.up hE); (try replace h3 := h3.up hE); (try replace h4 := h4.up hE); (try replace h5 := h5.up hE); (try replace h6 := h6.up hE); (try replace h7 := h7.up hE); (try replace h8 := h8.up hE); (try replace h9 := h9.up hE); (try replace B1 := B1.up hE); (try replace B2 := B2.up hE); (try replace B3 := B3.up hE); (try replace B4 := B4.up hE); (try replace B5 := B5.up hE); (try replace B6 := B6.up hE))
  (repeat (first | refine vo_pure rfl rfl ?_ | refine vo_nil ?_ | refine fin_seq ?_))
  refine vs_cond rfl (fun hc => ?_) (fun hc => ?_)
  · (repeat (first | refine vo_pure rfl rfl ?_ | refine vs_seq ?_ | refine vs_region ?_ | refine vo_nil ?_ | refine fin_seq ?_ | refine vs_ret ?_ | refine fin_seq_ret ?_))
    (first | refine fin_ret1 Tryd.results24 rfl ?_ | refine fin_end1 Tryd.results24 rfl ?_ | refine fin_ret2 Tryd.results24 rfl rfl ?_ | refine fin_retC1 Tryd.results24 rfl (by assumption) rfl rfl ?_ | refine fin_retC Tryd.results24 rfl (by assumption) rfl ?_)
    have : tf (WireP x n) = false := by simpa using hc
    exact ⟨by rw [this]; rfl, hb⟩
  · (repeat (first | refine vs_seq ?_ | refine vs_region ?_ | refine fin_seq ?_ | refine vs_skip ?_ | refine vo_loadA rfl (by assumption) rfl rfl ?_))
    (refine vo_call rfl rfl ?_; refine Calls.mono (c47 (mkWire h1 h2 h3 h4) hs h9) ?_; rintro _ w1 ⟨rfl, hE⟩; refine ⟨_, rfl, ?_⟩; have zz := hE.size; (first | replace hb := hb.trans (hE.mono hb.size) | replace hb := hb.trans (WE.of_ext hE)); (try replace h1 := h1.up hE); (try replace h2 := h2.up hE); (try replace h3 := h3.up hE); (try replace h4 := h4.up hE); (try replace h5 := h5.up hE); (try replace h6 := h6.up hE); (try replace h7 := h7.up hE); (try replace h8 := h8.up hE); (try replace h9 := h9.up hE); (try replace B1 := B1.up hE); (try replace B2 := B2.up hE); (try replace B3 := B3.up hE); (try replace B4 := B4.up hE); (try replace B5 := B5.up hE); (try replace B6 := B6.up hE))
    (repeat (first | refine vo_pure rfl rfl ?_ | refine vo_nil ?_ | refine fin_seq ?_ | refine vs_ret ?_))
    (first | refine fin_ret1 Tryd.results24 rfl ?_ | refine fin_end1 Tryd.results24 rfl ?_ | refine fin_ret2 Tryd.results24 rfl rfl ?_ | refine fin_retC1 Tryd.results24 rfl (by assumption) rfl rfl ?_ | refine fin_retC Tryd.results24 rfl (by assumption) rfl ?_)
    have : tf (WireP x n) = true := by simpa using hc
    exact ⟨by rw [this]; rfl, hb⟩
theorem c22 {lo hi : Nat} {cs : List Value} {x : WireD} {n : Int} {w : World} (k1 : Rep.rep lo hi w cs x) (hs : x.parent.length + x.res.length + x.cap.length + x.sink.length ≤ 1048576) : Calls Tryd.prog 22 #[.agg cs.toArray, .int .i64 n] w fun en w' => en = .returned (.string (if tf (WireP x n) then ⟨(wireB x).toArray⟩ else ⟨#[]⟩)) ∧ Ext w w' := by
  obtain ⟨_, _, _, _, rfl, ⟨v1, rfl, h1⟩, ⟨v2, rfl, h2⟩, ⟨v3, rfl, h3⟩, ⟨v4, rfl, h4⟩⟩ := k1
  have hb : Below w.heap.size w w := Below.refl _ _
  have l1 := listB_len _ h1.ins
  have l2 := listB_len _ h2.ins
  have l3 := listB_len _ h3.ins
  have l4 := listB_len _ h4.ins
  refine calls_vs Tryd.func22 Tryd.ntmps22 rfl rfl ?_
  (repeat (first | refine vs_seq ?_ | refine vs_region ?_))
  (refine vo_box rfl rfl rfl ?_; intro b1 w1 hN B1; have zz := hN.eq; have zz := hN.size; have hE := hN.ext; have g1 : w.heap.size ≤ b1 := (by rw [← hN.eq]; exact hb.size); skip; have zz := hE.size; (first | replace hb := hb.trans (hE.mono hb.size) | replace hb := hb.trans (WE.of_ext hE)); (try replace h1 := h1.up hE); (try replace h2 := h2.up hE); (try replace h3 := h3.up hE); (try replace h4 := h4.up hE); (try replace h5 := h5.up hE); (try replace h6 := h6.up hE); (try replace h7 := h7.up hE); (try replace h8 := h8.up hE); (try replace h9 := h9.up hE); (try replace B2 := B2.up hE); (try replace B3 := B3.up hE); (try replace B4 := B4.up hE); (try replace B5 := B5.up hE); (try replace B6 := B6.up hE); (try clear hN hE); (try dsimp at B1))
  (repeat (first | refine vo_pure rfl rfl ?_ | refine vs_seq ?_ | refine vs_region ?_ | refine vo_nil ?_ | refine fin_seq ?_ | refine vo_loadA rfl (by assumption) rfl rfl ?_))
  (refine vo_call rfl rfl ?_; refine Calls.mono (c29 (mkWire h1 h2 h3 h4) hs) ?_; rintro _ w1 ⟨rfl, hE⟩; refine ⟨_, rfl, ?_⟩; have zz := hE.size; (first | replace hb := hb.trans (hE.mono hb.size) | replace hb := hb.trans (WE.of_ext hE)); (try replace h1 := h1.up hE); (try replace h2 := h2.up hE); (try replace h3 := h3.up hE); (try replace h4 := h4.up hE); (try replace h5 := h5.up hE); (try replace h6 := h6.up hE); (try replace h7 := h7.up hE); (try replace h8 := h8.up hE); (try replace h9 := h9.up hE); (try replace B1 := B1.up hE); (try replace B2 := B2.up hE); (try replace B3 := B3.up hE); (try replace B4 := B4.up hE); (try replace B5 := B5.up hE); (try replace B6 := B6.up hE))
  (repeat (first | refine vo_pure rfl rfl ?_ | refine vo_nil ?_ | refine fin_seq ?_))
  refine vs_cond rfl (fun hc => ?_) (fun hc => ?_)
  · (repeat (first | refine vo_pure rfl rfl ?_ | refine vs_seq ?_ | refine vs_region ?_ | refine vo_nil ?_ | refine fin_seq ?_ | refine vs_ret ?_ | refine fin_seq_ret ?_))
    (first | refine fin_ret1 Tryd.results22 rfl ?_ | refine fin_end1 Tryd.results22 rfl ?_ | refine fin_ret2 Tryd.results22 rfl rfl ?_ | refine fin_retC1 Tryd.results22 rfl (by assumption) rfl rfl ?_ | refine fin_retC Tryd.results22 rfl (by assumption) rfl ?_)
    have : tf (WireP x n) = false := by simpa using hc
    exact ⟨by rw [this]; rfl, hb⟩
  · have ht : tf (WireP x n) = true := by simpa using hc
    have hp := tf_iff.1 ht
    have r1 := tree_lo hp.2.2.2.2.1
    have r2 := inR_low hp.2.2.2.2.2.1 (by decide)
    have r3 := inR_low hp.2.2.2.2.2.2.1 (by decide)
    have r4 := inR_low hp.2.2.2.2.2.2.2 (by decide)
    (repeat (first | refine vs_seq ?_ | refine fin_seq ?_ | refine vs_skip ?_ | refine vs_drawn (by kernel_rfl) ?_ | refine vq_fieldAddr rfl rfl ?_ | refine vq_loadB rfl (by assumption) rfl rfl ?_))
    (refine vq_call rfl _ rfl (fun _ hX => c43 (h1.up hX) (by omega) r1) ?_)
    (repeat (first | refine vq_val _ (fun _ _ => runs_catL rfl rfl (by ((try simp only [List.length_append, List.length_cons, List.length_nil]); omega))) rfl ?_ | refine vq_fieldAddr rfl rfl ?_ | refine vq_loadB rfl (by assumption) rfl rfl ?_))
    (refine vq_call rfl _ rfl (fun _ hX => c43 (h2.up hX) (by omega) r2) ?_)
    (repeat (first | refine vq_val _ (fun _ _ => runs_catL rfl rfl (by ((try simp only [List.length_append, List.length_cons, List.length_nil]); omega))) rfl ?_ | refine vq_fieldAddr rfl rfl ?_ | refine vq_loadB rfl (by assumption) rfl rfl ?_))
    (refine vq_call rfl _ rfl (fun _ hX => c43 (h3.up hX) (by omega) r3) ?_)
    (repeat (first | refine vq_val _ (fun _ _ => runs_catL rfl rfl (by ((try simp only [List.length_append, List.length_cons, List.length_nil]); omega))) rfl ?_ | refine vq_fieldAddr rfl rfl ?_ | refine vq_loadB rfl (by assumption) rfl rfl ?_))
    (refine vq_call rfl _ rfl (fun _ hX => c43 (h4.up hX) (by omega) r4) ?_)
    (repeat (first | refine vq_val _ (fun _ _ => runs_catL rfl rfl (by ((try simp only [List.length_append, List.length_cons, List.length_nil]); omega))) rfl ?_ | refine vq_pure rfl rfl ?_))
    (refine vq_nil ?_; intro w1 hE; (try replace h1 := h1.up hE); (try replace h2 := h2.up hE); (try replace h3 := h3.up hE); (try replace h4 := h4.up hE); (try replace h5 := h5.up hE); (try replace h6 := h6.up hE); (try replace h7 := h7.up hE); (try replace h8 := h8.up hE); (try replace h9 := h9.up hE); (try replace B1 := B1.up hE); (try replace B2 := B2.up hE); (try replace B3 := B3.up hE); (try replace B4 := B4.up hE); (try replace B5 := B5.up hE); (try replace B6 := B6.up hE); have zz := hE.size; (first | replace hb := hb.trans (hE.mono hb.size) | replace hb := hb.trans (WE.of_ext hE)); (try clear hE))
    (repeat (first | refine fin_seq ?_ | refine vs_ret ?_))
    (first | refine fin_ret1 Tryd.results22 rfl ?_ | refine fin_end1 Tryd.results22 rfl ?_ | refine fin_ret2 Tryd.results22 rfl rfl ?_ | refine fin_retC1 Tryd.results22 rfl (by assumption) rfl rfl ?_ | refine fin_retC Tryd.results22 rfl (by assumption) rfl ?_)
    exact ⟨by rw [ht]; rfl, hb⟩
theorem law6 {cs : List Value} {x : WireD} {n : Int} {w : World} (k1 : Rep.rep 0 w.heap.size w cs x) (_ : InI n) (kT : Tab w) : Calls Tryd.prog 6 #[.agg cs.toArray, .int .i64 n] w fun en w' => en = .returned (.bool true) ∧ Ext w w' := by
  obtain ⟨_, _, _, _, rfl, ⟨v1, rfl, h1⟩, ⟨v2, rfl, h2⟩, ⟨v3, rfl, h3⟩, ⟨v4, rfl, h4⟩⟩ := k1
  have hb : Below w.heap.size w w := Below.refl _ _
  refine calls_vs Tryd.func6 Tryd.ntmps6 rfl rfl ?_
  (repeat (first | refine vs_seq ?_ | refine vs_region ?_))
  (refine vo_box rfl rfl rfl ?_; intro b1 w1 hN B1; have zz := hN.eq; have zz := hN.size; have hE := hN.ext; have g1 : w.heap.size ≤ b1 := (by rw [← hN.eq]; exact hb.size); skip; have zz := hE.size; (first | replace hb := hb.trans (hE.mono hb.size) | replace hb := hb.trans (WE.of_ext hE)); (try replace h1 := h1.up hE); (try replace h2 := h2.up hE); (try replace h3 := h3.up hE); (try replace h4 := h4.up hE); (try replace h5 := h5.up hE); (try replace h6 := h6.up hE); (try replace h7 := h7.up hE); (try replace h8 := h8.up hE); (try replace h9 := h9.up hE); (try replace B2 := B2.up hE); (try replace B3 := B3.up hE); (try replace B4 := B4.up hE); (try replace B5 := B5.up hE); (try replace B6 := B6.up hE); (try clear hN hE); (try dsimp at B1))
  (repeat (first | refine vo_pure rfl rfl ?_ | refine vs_seq ?_ | refine vs_region ?_ | refine vo_nil ?_ | refine fin_seq ?_ | refine vo_loadA rfl (by assumption) rfl rfl ?_))
  (refine vo_call rfl rfl ?_; refine Calls.mono (c21 (mkWire h1 h2 h3 h4) ⟨by omega, by omega⟩) ?_; rintro _ _ ⟨r, rfl, q, hE⟩; refine ⟨_, rfl, ?_⟩; have zz := hE.size; (first | replace hb := hb.trans (hE.mono hb.size) | replace hb := hb.trans (WE.of_ext hE)); (try replace h1 := h1.up hE); (try replace h2 := h2.up hE); (try replace h3 := h3.up hE); (try replace h4 := h4.up hE); (try replace h5 := h5.up hE); (try replace h6 := h6.up hE); (try replace h7 := h7.up hE); (try replace h8 := h8.up hE); (try replace h9 := h9.up hE); (try replace B1 := B1.up hE); (try replace B2 := B2.up hE); (try replace B3 := B3.up hE); (try replace B4 := B4.up hE); (try replace B5 := B5.up hE); (try replace B6 := B6.up hE))
  (repeat (first | refine vo_pure rfl rfl ?_ | refine vs_seq ?_ | refine vs_region ?_ | refine vo_nil ?_ | refine fin_seq ?_))
  refine vs_cond rfl (fun hc => ?_) (fun hc => ?_)
  · (repeat (first | refine vo_pure rfl rfl ?_ | refine vs_seq ?_ | refine vs_region ?_ | refine vo_nil ?_ | refine fin_seq ?_ | refine vs_ret ?_ | refine fin_seq_ret ?_))
    (first | refine fin_ret1 Tryd.results6 rfl ?_ | refine fin_end1 Tryd.results6 rfl ?_ | refine fin_ret2 Tryd.results6 rfl rfl ?_ | refine fin_retC1 Tryd.results6 rfl (by assumption) rfl rfl ?_ | refine fin_retC Tryd.results6 rfl (by assumption) rfl ?_)
    exact ⟨rfl, hb⟩
  have hr : 0 ≤ r := by simpa using hc
  have hs : x.parent.length + x.res.length + x.cap.length + x.sink.length ≤ 1048576 := by omega
  (repeat (first | refine vs_seq ?_ | refine vs_region ?_ | refine fin_seq ?_ | refine vs_skip ?_ | refine vo_loadA rfl (by assumption) rfl rfl ?_))
  (refine vo_call rfl rfl ?_; refine Calls.mono (c23 (mkWire h1 h2 h3 h4) (by omega) hs) ?_; rintro _ _ ⟨cs2, rfl, k4, hE⟩; refine ⟨_, rfl, ?_⟩; have zz := hE.size; (first | replace hb := hb.trans (hE.mono hb.size) | replace hb := hb.trans (WE.of_ext hE)); (try replace h1 := h1.up hE); (try replace h2 := h2.up hE); (try replace h3 := h3.up hE); (try replace h4 := h4.up hE); (try replace h5 := h5.up hE); (try replace h6 := h6.up hE); (try replace h7 := h7.up hE); (try replace h8 := h8.up hE); (try replace h9 := h9.up hE); (try replace B1 := B1.up hE); (try replace B2 := B2.up hE); (try replace B3 := B3.up hE); (try replace B4 := B4.up hE); (try replace B5 := B5.up hE); (try replace B6 := B6.up hE))
  (repeat (first | refine vo_pure rfl rfl ?_))
  (refine vo_call rfl rfl ?_; refine Calls.mono (c22 k4 hs) ?_; rintro _ w1 ⟨rfl, hE⟩; refine ⟨_, rfl, ?_⟩; have zz := hE.size; (first | replace hb := hb.trans (hE.mono hb.size) | replace hb := hb.trans (WE.of_ext hE)); (try replace h1 := h1.up hE); (try replace h2 := h2.up hE); (try replace h3 := h3.up hE); (try replace h4 := h4.up hE); (try replace h5 := h5.up hE); (try replace h6 := h6.up hE); (try replace h7 := h7.up hE); (try replace h8 := h8.up hE); (try replace h9 := h9.up hE); (try replace B1 := B1.up hE); (try replace B2 := B2.up hE); (try replace B3 := B3.up hE); (try replace B4 := B4.up hE); (try replace B5 := B5.up hE); (try replace B6 := B6.up hE))
  (repeat (first | refine vo_pure rfl rfl ?_ | refine vs_seq ?_ | refine vs_region ?_ | refine vo_nil ?_ | refine fin_seq ?_ | refine vo_loadA rfl (by assumption) rfl rfl ?_))
  (refine vo_call rfl rfl ?_; refine Calls.mono (c23 (mkWire h1 h2 h3 h4) (by omega) hs) ?_; rintro _ _ ⟨cs3, rfl, h5, hE⟩; refine ⟨_, rfl, ?_⟩; have zz := hE.size; (first | replace hb := hb.trans (hE.mono hb.size) | replace hb := hb.trans (WE.of_ext hE)); (try replace h1 := h1.up hE); (try replace h2 := h2.up hE); (try replace h3 := h3.up hE); (try replace h4 := h4.up hE); (try replace h5 := h5.up hE); (try replace h6 := h6.up hE); (try replace h7 := h7.up hE); (try replace h8 := h8.up hE); (try replace h9 := h9.up hE); (try replace B1 := B1.up hE); (try replace B2 := B2.up hE); (try replace B3 := B3.up hE); (try replace B4 := B4.up hE); (try replace B5 := B5.up hE); (try replace B6 := B6.up hE))
  obtain ⟨_, _, _, _, rfl, ⟨v5, rfl, h5⟩, ⟨v6, rfl, h6⟩, ⟨v7, rfl, h7⟩, ⟨v8, rfl, h8⟩⟩ := h5
  obtain ⟨p5, n5, rfl⟩ := h5.len
  obtain ⟨p6, n6, rfl⟩ := h6.len
  obtain ⟨p7, n7, rfl⟩ := h7.len
  obtain ⟨p8, n8, rfl⟩ := h8.len
  skip
  (refine vo_alloc rfl rfl ?_; intro b2 w1 hN B2; have zz := hN.eq; have zz := hN.size; have hE := hN.ext; have g2 : w.heap.size ≤ b2 := (by rw [← hN.eq]; exact hb.size); (try have l1_2 : b1 < b2 := (by rw [← hN.eq]; exact B1.lt)); have zz := hE.size; (first | replace hb := hb.trans (hE.mono hb.size) | replace hb := hb.trans (WE.of_ext hE)); (try replace h1 := h1.up hE); (try replace h2 := h2.up hE); (try replace h3 := h3.up hE); (try replace h4 := h4.up hE); (try replace h5 := h5.up hE); (try replace h6 := h6.up hE); (try replace h7 := h7.up hE); (try replace h8 := h8.up hE); (try replace h9 := h9.up hE); (try replace B1 := B1.up hE); (try replace B3 := B3.up hE); (try replace B4 := B4.up hE); (try replace B5 := B5.up hE); (try replace B6 := B6.up hE); (try clear hN hE); (try dsimp at B2))
  skip
  have zz := B2.lt
  (refine vo_store rfl rfl B2 rfl rfl rfl rfl ?_; intro w1 hW hN; have zz := hW.size; (first | replace hb := hb.trans (hW.below (by assumption)) | replace hb := hb.trans (WE.of_wr hW) | replace hb := hb.thenWr hW (by omega)); (try replace h1 := h1.wr hW (by omega)); (try replace h2 := h2.wr hW (by omega)); (try replace h3 := h3.wr hW (by omega)); (try replace h4 := h4.wr hW (by omega)); (try replace h5 := h5.wr hW (by omega)); (try replace h6 := h6.wr hW (by omega)); (try replace h7 := h7.wr hW (by omega)); (try replace h8 := h8.wr hW (by omega)); (try replace h9 := h9.wr hW (by omega)); (try replace B1 := B1.wr hW (by omega)); (try replace B3 := B3.wr hW (by omega)); (try replace B4 := B4.wr hW (by omega)); (try replace B5 := B5.wr hW (by omega)); (try replace B6 := B6.wr hW (by omega)); clear B2; have B2 := hN; clear hN hW; (try dsimp at B2))
  (repeat (first | refine vo_pure rfl rfl ?_ | refine vs_seq ?_ | refine vs_region ?_ | refine vo_nil ?_ | refine fin_seq ?_ | refine vo_loadA rfl (by assumption) rfl rfl ?_))
  (refine vo_call rfl rfl ?_; refine Calls.mono (c24 (mkWire h5 h6 h7 h8) hs (kT.up hb)) ?_; rintro _ w1 ⟨rfl, hE⟩; refine ⟨_, rfl, ?_⟩; have zz := hE.size; (first | replace hb := hb.trans (hE.mono hb.size) | replace hb := hb.trans (WE.of_ext hE)); (try replace h1 := h1.up hE); (try replace h2 := h2.up hE); (try replace h3 := h3.up hE); (try replace h4 := h4.up hE); (try replace h5 := h5.up hE); (try replace h6 := h6.up hE); (try replace h7 := h7.up hE); (try replace h8 := h8.up hE); (try replace h9 := h9.up hE); (try replace B1 := B1.up hE); (try replace B2 := B2.up hE); (try replace B3 := B3.up hE); (try replace B4 := B4.up hE); (try replace B5 := B5.up hE); (try replace B6 := B6.up hE))
  (repeat (first | refine vo_pure rfl rfl ?_ | refine vs_seq ?_ | refine vs_region ?_ | refine vo_nil ?_ | refine fin_seq ?_))
  refine vs_cond rfl (fun hc => ?_) (fun hc => ?_)
  · simp at hc
  (repeat (first | refine vs_seq ?_ | refine fin_seq ?_ | refine vs_skip ?_))
  (refine vs_held ?_; intro w1 hE; (try replace h1 := h1.up hE); (try replace h2 := h2.up hE); (try replace h3 := h3.up hE); (try replace h4 := h4.up hE); (try replace h5 := h5.up hE); (try replace h6 := h6.up hE); (try replace h7 := h7.up hE); (try replace h8 := h8.up hE); (try replace h9 := h9.up hE); (try replace B1 := B1.up hE); (try replace B2 := B2.up hE); (try replace B3 := B3.up hE); (try replace B4 := B4.up hE); (try replace B5 := B5.up hE); (try replace B6 := B6.up hE); have zz := hE.size; (first | replace hb := hb.trans (hE.mono hb.size) | replace hb := hb.trans (WE.of_ext hE)); have hS := Ext.refl w1; (try clear hE))
  refine vh_take 0 rfl (fun _ hX => runs_loadA rfl rfl (B2.up hX).at) rfl (by kernel_rfl) (by kernel_rfl) (by kernel_rfl) ?_
  refine vh_take 1 rfl (fun _ hX => runs_loadA rfl rfl (B1.up hX).at) rfl (by kernel_rfl) (by kernel_rfl) (by kernel_rfl) ?_
  (refine vh_one 2 (by kernel_rfl) (vho_call rfl rfl rfl (Calls.mono (c23 (mkWire h1 h2 h3 h4) (by omega) hs) ?_)) hS; rintro _ w1 ⟨cs5, rfl, h9, hE⟩; refine ⟨_, rfl, ?_⟩; have zz := hE.size; (first | replace hb := hb.trans (hE.mono hb.size) | replace hb := hb.trans (WE.of_ext hE)); replace hS := hS.trans hE; (try replace h1 := h1.up hE); (try replace h2 := h2.up hE); (try replace h3 := h3.up hE); (try replace h4 := h4.up hE); (try replace h5 := h5.up hE); (try replace h6 := h6.up hE); (try replace h7 := h7.up hE); (try replace h8 := h8.up hE); (try replace h9 := h9.up hE); (try replace B1 := B1.up hE); (try replace B2 := B2.up hE); (try replace B3 := B3.up hE); (try replace B4 := B4.up hE); (try replace B5 := B5.up hE); (try replace B6 := B6.up hE))
  (refine vh_one 3 (by kernel_rfl) (vho_call rfl rfl rfl (Calls.mono (c25 (mkWire h5 h6 h7 h8) h9) ?_)) hS; rintro _ w1 ⟨rfl, hE⟩; refine ⟨_, rfl, ?_⟩; have zz := hE.size; (first | replace hb := hb.trans (hE.mono hb.size) | replace hb := hb.trans (WE.of_ext hE)); replace hS := hS.trans hE; (try replace h1 := h1.up hE); (try replace h2 := h2.up hE); (try replace h3 := h3.up hE); (try replace h4 := h4.up hE); (try replace h5 := h5.up hE); (try replace h6 := h6.up hE); (try replace h7 := h7.up hE); (try replace h8 := h8.up hE); (try replace h9 := h9.up hE); (try replace B1 := B1.up hE); (try replace B2 := B2.up hE); (try replace B3 := B3.up hE); (try replace B4 := B4.up hE); (try replace B5 := B5.up hE); (try replace B6 := B6.up hE))
  refine vh_only 4 rfl (by kernel_rfl) (runs_pure rfl) rfl ?_
  refine vh_done (by kernel_rfl) ?_ hS
  (repeat (first | refine vo_pure rfl rfl ?_ | refine vs_seq ?_ | refine vs_region ?_ | refine vo_nil ?_ | refine fin_seq ?_ | refine vs_skip ?_ | refine vs_ret ?_ | refine vs_cond_false rfl ?_))
  (first | refine fin_ret1 Tryd.results6 rfl ?_ | refine fin_end1 Tryd.results6 rfl ?_ | refine fin_ret2 Tryd.results6 rfl rfl ?_ | refine fin_retC1 Tryd.results6 rfl (by assumption) rfl rfl ?_ | refine fin_retC Tryd.results6 rfl (by assumption) rfl ?_)
  exact ⟨rfl, hb⟩
end Go.Proofs.YtahnpokehdlajaaDoor
