/- Reading a list of numbers. -/
-- NAMES O1
import Derived.Test.YtahnpokehdlajaaDoorM5
import Derived.Test.YtahnpokehdlajaaDoorW20
import Derived.Test.YtahnpokehdlajaaDoorBase15
namespace Go.Proofs.Sv
open Go Go.RowKit
section
variable {P : Program} {n : Nat} {e : Env} {w : World} {Q : Exit → Act → World → Prop} {ops : Array Oper} {rest : List Oper}
  {d : Nat} {ty : TypeId} {pos : String} {after : Array Edge}
theorem vo_appendI {T E y : Nat} {z : Value} {x x2 : Operand} [SliceOf P T E] [Info P E 1 y z] {g : Option Nat} {v : Value} {xs : List Int} {r : Int} {b2 c : Nat} {T2 : TypeId}
    (hx : ev e x = some v) (hx2 : ev e x2 = some (.slice (some ⟨b2, 0, none⟩) 1 c)) (hd : Nat.blt d n = true) (hz : Nat.beq z.cells.size 1 = true)
    (h : OwnI w E g v xs) (hB : Blk w b2 [.int .i64 r] T2) (hr : InI r) (h63 : xs.length + 1 ≤ 9223372036854775807) (hb : (xs.length + 1) * y ≤ 140737488355328)
    (k : ∀ v' w' g', OwnI w' E (some g') v' (xs ++ [r]) → WE g w w' → (g = some g' ∨ g' = w.heap.size) → VO P n ops rest ((d, v') :: e) w' Q) :
    VO P n ops (⟨some d, .call ⟨.builtin .append, [x, x2].toArray, #[T, T]⟩, ty, pos, after, none⟩ :: rest) e w Q := by
  refine vo_append hx hx2 hd rfl hz h.1 (.inr rfl) rfl hB.at rfl h63 hb ?_
  intro v' w' g' hO hW hg
  have hO' : OwnI w' E g' v' (xs ++ [r]) := ⟨by rw [List.length_append, List.map_append]; exact hO, fun y hy => by
    rcases List.mem_append.1 hy with hy | hy
    · exact h.2 y hy
    · rw [List.mem_singleton.1 hy]; exact hr⟩
  obtain ⟨b', c', rfl, rfl⟩ := hO'.has (by simp)
  exact k _ w' b' hO' hW (hg.imp (fun e => e.symm) (fun e => by cases e; rfl))
end
end Go.Proofs.Sv
namespace Go.Proofs.YtahnpokehdlajaaDoor
open Go Go.Proofs Go.Proofs.Sv Go.RowKit
attribute [local irreducible] VS VO VQ VH FinS seqQ blkQ loopQ RunsOp RunsU
attribute [local simp] spl reps Value.cells

def MaxL (w : World) : Prop := ∃ m, w.cell? ⟨0, 0, none⟩ = some (.int .i64 m)
theorem MaxL.up {w w' : World} (h : MaxL w) (k : Ext w w') : MaxL w' := by
  obtain ⟨m, h1⟩ := h
  exact ⟨m, by rw [← h1]; exact World.cell?_of_block (w := w) (k.block 0 (World.block_lt_of_cell? w _ h1))⟩
theorem dig_ne (c : UInt8) (hc : c.toNat < 45) (x : Int) : c ∉ Lib.itoa x := by
  unfold Lib.itoa
  split
  · intro h
    rcases List.mem_cons.1 h with h | h
    · subst h; simp at hc
    · have := dec_digits _ c h; omega
  · intro h
    have := dec_digits _ c h; omega
theorem splits {ls : List (List UInt8)} {c : UInt8} {w : World} (hne : ls ≠ []) (hc : ∀ x ∈ ls, c ∉ x) (hs : (Lib.join ls [c]).length < 4294967281) (hM : MaxL w) : Calls Tryd.prog 49 #[.string ⟨(Lib.join ls [c]).toArray⟩, .string ⟨#[c]⟩] w fun en w' => ∃ b, en = .returned (.slice (some ⟨b, 0, none⟩) ls.length ls.length) ∧ Blk w' b (ls.map fun l => Value.string ⟨l.toArray⟩) 9 ∧ NewB w b w' := by
  obtain ⟨m, hm⟩ := hM
  have h := Tryd.strings_Split ⟨(Lib.join ls [c]).toArray⟩ ⟨#[c]⟩ m w (by rw [ba_size]; exact hs) hm (Nat.le_refl 1)
  obtain ⟨h1, h2⟩ := splitB_join c ls hne hc
  rw [h1, h2] at h
  refine Calls.mono h ?_
  rintro _ _ ⟨rfl, rfl⟩
  refine ⟨_, rfl, ?_, newB_alloc _ _⟩
  have := blk_alloc w ((ls.map (fun l => (⟨l.toArray⟩ : ByteArray))).map Value.string).toArray 9
  simpa [List.map_map, Function.comp_def] using this
set_option maxHeartbeats 1000000 in
theorem c50 {xs : List Int} {w : World} (hne : xs ≠ []) (hI : ∀ x ∈ xs, InI x) (hl : xs.length ≤ 1000) (kT : Tab w) (kM : MaxL w) : Calls Tryd.prog 50 #[.string ⟨(listB xs).toArray⟩, .string ⟨#[44]⟩] w fun en w' => ∃ v, en = .returned (.tuple #[v, .bool true]) ∧ SlR w.heap.size w'.heap.size w' v xs ∧ Ext w w' := by
  have hb : Below w.heap.size w w := Below.refl _ _
  have hll := listB_len xs hI
  refine calls_vs Tryd.func50 Tryd.ntmps50 rfl rfl ?_
  (repeat (first | refine vo_pure rfl rfl ?_ | refine vs_seq ?_ | refine vs_region ?_ | refine vo_nil ?_ | refine fin_seq ?_))
  refine vo_call rfl rfl ?_
  refine Calls.mono (splits (ls := xs.map Lib.itoa) (by simpa using hne) (fun y hy => by obtain ⟨x, _, rfl⟩ := List.mem_map.1 hy; exact dig_ne 44 (by decide) x) (show (listB xs).length < _ by omega) kM) ?_
  rintro _ w2 ⟨b, rfl, B1, hN⟩
  refine ⟨_, rfl, ?_⟩
  rw [List.length_map]
  have hbe := hN.eq
  have hE := hN.ext
  replace hb := hb.trans (hE.mono hb.size)
  (repeat (first | refine vo_pure rfl rfl ?_ | refine vo_nil ?_ | refine fin_seq ?_ | refine vs_block ?_ | refine vo_val _ (runs_lenL rfl) rfl ?_))
  refine vs_loop (fun s : Nat × Value => (15, .int .i64 (s.1 : Int)) :: (14, .int .i64 (xs.length : Int)) :: (13, .slice (some ⟨b, 0, none⟩) xs.length xs.length) :: (6, s.2) :: []) (fun s w' => s.1 ≤ xs.length ∧ ∃ g, OwnI w' 2 g s.2 (xs.take s.1) ∧ (∀ i, g = some i → b < i) ∧ Blk w' b ((xs.map Lib.itoa).map fun l => Value.string ⟨l.toArray⟩) 9 ∧ Below w.heap.size w w') (fun s => xs.length - s.1) (0, .slice none 0 0) ⟨Nat.zero_le _, none, ⟨Own.nil, by simp⟩, by simp, B1, hb⟩ (by ((repeat (refine sub_cons rfl ?_)); exact sub_nil)) ?_
  clear hb B1
  rintro ⟨k, v⟩ w3 ⟨hk, g, O1, hg, B1, hb⟩
  dsimp only at hk O1 ⊢
  obtain ⟨pv, cv, rfl⟩ := O1.len
  (repeat (first | refine vo_pure rfl rfl ?_ | refine vs_seq ?_ | refine vs_region ?_ | refine vo_nil ?_ | refine fin_seq ?_))
  refine vs_cond rfl (fun hc => ?_) (fun hc => ?_)
  · have hlt : k < xs.length := by simpa using hc
    have hxI := hI _ (List.getElem_mem hlt)
    have hcell : w3.cell? ⟨b, k * 1, none⟩ = some (.string ⟨(Lib.itoa xs[k]).toArray⟩) := by
      have := B1.at k (.string ⟨(Lib.itoa xs[k]).toArray⟩) (by simp [hlt])
      rw [Nat.mul_one]; simpa using this
    (repeat (first | refine vs_seq ?_ | refine vs_region ?_ | refine fin_seq ?_ | refine vs_skip ?_ | refine vs_block ?_))
    refine vo_idxB rfl rfl hlt rfl ?_
    refine vo_load rfl hcell rfl ?_
    (repeat (first | refine vo_pure rfl rfl ?_ | refine vs_seq ?_ | refine vs_region ?_ | refine vo_nil ?_ | refine fin_seq ?_))
    refine vo_call rfl rfl ?_
    refine Calls.mono (c72 hxI (kT.up hb)) ?_
    rintro _ w4 ⟨rfl, hE⟩
    refine ⟨_, rfl, ?_⟩
    have zz := hE.size
    replace hb := hb.trans (hE.mono hb.size)
    replace O1 := O1.up hE
    replace B1 := B1.up hE
    clear hE
    (repeat (first | refine vo_pure rfl rfl ?_ | refine vs_seq ?_ | refine vs_region ?_ | refine vo_nil ?_ | refine fin_seq ?_ | refine vs_skip ?_ | refine vs_cond_false rfl ?_))
    (refine vo_buildSlice rfl rfl rfl rfl rfl ?_; intro b2 w1 hN B2; have zz := hN.eq; have zz := hN.size; have hE := hN.ext; have g2 : w.heap.size ≤ b2 := (by rw [← hN.eq]; exact hb.size); (try have l1_2 : b1 < b2 := (by rw [← hN.eq]; exact B1.lt)); have zz := hE.size; (first | replace hb := hb.trans (hE.mono hb.size) | replace hb := hb.trans (WE.of_ext hE)); (try replace h1 := h1.up hE); (try replace h2 := h2.up hE); (try replace h3 := h3.up hE); (try replace h4 := h4.up hE); (try replace h5 := h5.up hE); (try replace h6 := h6.up hE); (try replace h7 := h7.up hE); (try replace h8 := h8.up hE); (try replace h9 := h9.up hE); (try replace B1 := B1.up hE); (try replace B3 := B3.up hE); (try replace B4 := B4.up hE); (try replace B5 := B5.up hE); (try replace B6 := B6.up hE); (try replace O1 := O1.up hE); (try clear hN hE); (try dsimp at B2))
    have hle : (xs.take k).length = k := by rw [List.length_take]; omega
    have hgl := O1.lt
    refine vo_appendI rfl rfl rfl rfl O1 B2 hxI (by omega) (by omega) ?_
    intro v' w5 g' O2 hW hg'
    have hg2 : b < g' := by
      rcases hg' with rfl | rfl
      · exact hg _ rfl
      · have := B1.lt; omega
    have B3 := B1.we hW (fun i e => by have := hg i e; omega)
    replace hb := hb.trans (hW.below (fun i e => by have := hg i e; omega) hb.size)
    obtain ⟨pv', cv', rfl⟩ := O2.len
    (repeat (first | refine vo_pure rfl rfl ?_ | refine vs_region ?_ | refine vo_nil ?_ | refine fin_seq ?_ | refine fin_blk ?_ | refine vo_val _ (runs_add rfl rfl (by omega)) rfl ?_))
    refine fin_loop (k + 1, _) ⟨hlt, some g', by rw [List.take_succ_eq_append_getElem hlt]; exact O2, fun i e => by cases e; exact hg2, B3, hb⟩ (by show xs.length - (k + 1) < xs.length - k; omega) (by ((repeat (refine sub_cons rfl ?_)); exact sub_nil))
  · (repeat (first | refine vo_pure rfl rfl ?_ | refine vs_seq ?_ | refine vs_region ?_ | refine vo_nil ?_ | refine fin_seq ?_ | refine vs_ret ?_ | refine vs_exit ?_ | refine fin_seq_exit ?_ | refine fin_loop_exit ?_ | refine fin_blk_exit rfl ?_))
    (first | refine fin_ret1 Tryd.results50 rfl ?_ | refine fin_end1 Tryd.results50 rfl ?_ | refine fin_ret2 Tryd.results50 rfl rfl ?_ | refine fin_retC1 Tryd.results50 rfl (by assumption) rfl rfl ?_ | refine fin_retC Tryd.results50 rfl (by assumption) rfl ?_)
    have hge : k = xs.length := by simp at hc; omega
    subst hge
    simp only [List.take_length] at O1 ⊢
    exact ⟨_, rfl, O1.slR (lo := w.heap.size) (fun i e => by have := hg i e; omega), hb⟩
end Go.Proofs.YtahnpokehdlajaaDoor
