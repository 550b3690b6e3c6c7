/- Numerals and their lists. -/
import Derived.Test.YtahnpokehdlajaaDoorM3
import Derived.Test.YtahnpokehdlajaaDoorW7
namespace Go.Proofs.YtahnpokehdlajaaDoor
open Go Go.Proofs Go.Proofs.Sv Go.RowKit
attribute [local irreducible] VS VO VQ VH FinS seqQ blkQ loopQ RunsOp RunsU
attribute [local simp] spl reps Value.cells

theorem c66p : ∀ (m : Nat) (w : World), (m : Int) ≤ 9223372036854775807 → Calls Tryd.prog 66 #[.int .i64 (m : Int)] w fun en w' => en = .returned (.string ⟨(Lib.decDigits m).toArray⟩) ∧ Ext w w' := by
  intro m
  induction m using Nat.strongRecOn with | ind m ih => ?_
  intro w hm
  have hb : Below w.heap.size w w := Below.refl _ _
  refine calls_vs Tryd.func66 Tryd.ntmps66 rfl rfl ?_
  (repeat (first | refine vo_pure rfl rfl ?_ | refine vs_seq ?_ | refine vs_region ?_ | refine vo_nil ?_ | refine fin_seq ?_ | refine vs_skip ?_ | refine vs_cond_false rfl ?_))
  refine vs_cond rfl (fun hc => ?_) (fun hc => ?_)
  · have h10 : m < 10 := by (simp at hc; omega)
    clear ih
    (repeat (first | refine vo_pure rfl rfl ?_ | refine vs_seq ?_ | refine vs_region ?_ | refine vo_val _ (runs_add rfl rfl (by omega)) rfl ?_))
    refine vo_val _ (runs_toByte rfl) rfl ?_
    skip
    (refine vo_buildSlice rfl rfl rfl rfl rfl ?_; intro b1 w1 hN B1; have zz := hN.eq; have zz := hN.size; have hE := hN.ext; have g1 : w.heap.size ≤ b1 := (by rw [← hN.eq]; exact hb.size); skip; have zz := hE.size; (first | replace hb := hb.trans (hE.mono hb.size) | replace hb := hb.trans (WE.of_ext hE)); (try replace h1 := h1.up hE); (try replace h2 := h2.up hE); (try replace h3 := h3.up hE); (try replace h4 := h4.up hE); (try replace h5 := h5.up hE); (try replace h6 := h6.up hE); (try replace h7 := h7.up hE); (try replace h8 := h8.up hE); (try replace h9 := h9.up hE); (try replace B2 := B2.up hE); (try replace B3 := B3.up hE); (try replace B4 := B4.up hE); (try replace B5 := B5.up hE); (try replace B6 := B6.up hE); (try clear hN hE); (try dsimp at B1))
    refine vo_val _ (runs_toStr (ms := [((48 : Int) + (m : Int)) % 256]) rfl rfl B1.at) rfl ?_
    (repeat (first | refine vo_pure rfl rfl ?_ | refine vo_nil ?_ | refine fin_seq ?_ | refine vs_ret ?_ | refine fin_seq_ret ?_))
    (first | refine fin_ret1 Tryd.results66 rfl ?_ | refine fin_end1 Tryd.results66 rfl ?_ | refine fin_ret2 Tryd.results66 rfl rfl ?_ | refine fin_retC1 Tryd.results66 rfl (by assumption) rfl rfl ?_ | refine fin_retC Tryd.results66 rfl (by assumption) rfl ?_)
    refine ⟨?_, hb⟩
    rw [strOfNums_one m h10, decDigits_small h10]
  · have h10 : ¬ m < 10 := by (simp at hc; omega)
    have hI : InI (m : Int) := ⟨by omega, hm⟩
    refine vs_skip ?_
    refine fin_seq ?_
    refine vs_seq ?_
    refine vs_held ?_
    intro w1 hS
    refine vh_take 0 rfl (fun _ _ => runs_pure rfl) rfl (by kernel_rfl) (by kernel_rfl) (by kernel_rfl) ?_
    have e1 : (m : Int).tdiv 10 = ((m / 10 : Nat) : Int) := rfl
    have e2 : (m : Int).tmod 10 = ((m % 10 : Nat) : Int) := rfl
    have e3 : m % 10 < 10 := Nat.mod_lt _ (by omega)
    have e4 : ((m / 10 : Nat) : Int) ≤ 9223372036854775807 := by omega
    refine vh_take 1 (v := .int .i64 ((m / 10 : Nat) : Int)) rfl (fun _ _ => runs_quo rfl rfl hI (show (0 : Int) < 10 by decide)) rfl (by kernel_rfl) (by kernel_rfl) (by kernel_rfl) ?_
    refine vh_take 3 rfl (fun _ _ => runs_pure rfl) rfl (by kernel_rfl) (by kernel_rfl) (by kernel_rfl) ?_
    refine vh_take 4 (v := .int .i64 ((m % 10 : Nat) : Int)) rfl (fun _ _ => runs_rem (a := (m : Int)) rfl rfl (show (10 : Int) ≠ 0 by decide)) rfl (by kernel_rfl) (by kernel_rfl) (by kernel_rfl) ?_
    refine vh_take 5 rfl (fun _ _ => runs_add rfl rfl (by omega)) rfl (by kernel_rfl) (by kernel_rfl) (by kernel_rfl) ?_
    refine vh_take 6 rfl (fun _ _ => runs_toByte rfl) rfl (by kernel_rfl) (by kernel_rfl) (by kernel_rfl) ?_
    have hS2 : Ext w1 w1 := Ext.refl _
    have e5 := decDigits_len e4
    clear hc
    refine vh_two 2 7 (by kernel_rfl) ?_ ?_ hS2
    · refine vho_call rfl rfl rfl ?_
      refine Calls.mono (ih (m / 10) (by omega) _ e4) ?_
      rintro _ w3 ⟨rfl, hE⟩
      refine ⟨_, rfl, ?_⟩
      have hS3 := hS2.trans hE
      refine vh_one 7 (by kernel_rfl) ?_ hS3
      refine vho_buildSlice rfl rfl rfl rfl rfl rfl rfl ?_
      intro b w4 hN B1
      dsimp at B1
      have hS4 := hS3.trans hN.ext
      refine vh_only 8 rfl (by kernel_rfl) (runs_toStr (ms := [((48 : Int) + ((m % 10 : Nat) : Int)) % 256]) rfl rfl B1.at) rfl ?_
      rw [strOfNums_one _ e3]
      refine vh_only 9 rfl (by kernel_rfl) (runs_catL rfl rfl (by (simp only [List.length_cons, List.length_nil]; omega))) rfl ?_
      refine vh_only 10 rfl (by kernel_rfl) (runs_pure rfl) rfl ?_
      refine vh_done (by kernel_rfl) ?_ hS4
      (repeat (first | refine fin_seq ?_ | refine vs_ret ?_))
      (first | refine fin_ret1 Tryd.results66 rfl ?_ | refine fin_end1 Tryd.results66 rfl ?_ | refine fin_ret2 Tryd.results66 rfl rfl ?_ | refine fin_retC1 Tryd.results66 rfl (by assumption) rfl rfl ?_ | refine fin_retC Tryd.results66 rfl (by assumption) rfl ?_)
      refine ⟨?_, hb.trans (hS.trans hS4)⟩
      rw [decDigits_big h10]
    · refine vho_buildSlice rfl rfl rfl rfl rfl rfl rfl ?_
      intro b w3 hN B1
      dsimp at B1
      have hS3 := hS2.trans hN.ext
      refine vh_two 2 8 (by kernel_rfl) ?_ ?_ hS3
      · refine vho_call rfl rfl rfl ?_
        refine Calls.mono (ih (m / 10) (by omega) _ e4) ?_
        rintro _ w4 ⟨rfl, hE⟩
        refine ⟨_, rfl, ?_⟩
        have hS4 := hS3.trans hE
        replace B1 := B1.up hE
        refine vh_only 8 rfl (by kernel_rfl) (runs_toStr (ms := [((48 : Int) + ((m % 10 : Nat) : Int)) % 256]) rfl rfl B1.at) rfl ?_
        rw [strOfNums_one _ e3]
        refine vh_only 9 rfl (by kernel_rfl) (runs_catL rfl rfl (by (simp only [List.length_cons, List.length_nil]; omega))) rfl ?_
        refine vh_only 10 rfl (by kernel_rfl) (runs_pure rfl) rfl ?_
        refine vh_done (by kernel_rfl) ?_ hS4
        (repeat (first | refine fin_seq ?_ | refine vs_ret ?_))
        (first | refine fin_ret1 Tryd.results66 rfl ?_ | refine fin_end1 Tryd.results66 rfl ?_ | refine fin_ret2 Tryd.results66 rfl rfl ?_ | refine fin_retC1 Tryd.results66 rfl (by assumption) rfl rfl ?_ | refine fin_retC Tryd.results66 rfl (by assumption) rfl ?_)
        refine ⟨?_, hb.trans (hS.trans hS4)⟩
        rw [decDigits_big h10]

      · refine vho_val rfl (runs_toStr (ms := [((48 : Int) + ((m % 10 : Nat) : Int)) % 256]) rfl rfl B1.at) rfl ?_
        rw [strOfNums_one _ e3]
        refine vh_one 2 (by kernel_rfl) ?_ hS3
        refine vho_call rfl rfl rfl ?_
        refine Calls.mono (ih (m / 10) (by omega) _ e4) ?_
        rintro _ w4 ⟨rfl, hE⟩
        refine ⟨_, rfl, ?_⟩
        have hS4 := hS3.trans hE
        refine vh_only 9 rfl (by kernel_rfl) (runs_catL rfl rfl (by (simp only [List.length_cons, List.length_nil]; omega))) rfl ?_
        refine vh_only 10 rfl (by kernel_rfl) (runs_pure rfl) rfl ?_
        refine vh_done (by kernel_rfl) ?_ hS4
        (repeat (first | refine fin_seq ?_ | refine vs_ret ?_))
        (first | refine fin_ret1 Tryd.results66 rfl ?_ | refine fin_end1 Tryd.results66 rfl ?_ | refine fin_ret2 Tryd.results66 rfl rfl ?_ | refine fin_retC1 Tryd.results66 rfl (by assumption) rfl rfl ?_ | refine fin_retC Tryd.results66 rfl (by assumption) rfl ?_)
        refine ⟨?_, hb.trans (hS.trans hS4)⟩
        rw [decDigits_big h10]

end Go.Proofs.YtahnpokehdlajaaDoor
