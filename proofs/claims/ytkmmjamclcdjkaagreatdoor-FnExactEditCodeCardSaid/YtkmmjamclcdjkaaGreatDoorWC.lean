/- Wires and places: what the program's functions and the reference's say of them. -/
import Derived.Test.YtkmmjamclcdjkaaGreatDoorWB
import Derived.Test.YtkmmjamclcdjkaaGreatDoorGn8
section
/- Wires and places: what the program's functions and the reference's say of them. -/
namespace Go.Proofs.YtkmmjamclcdjkaaGreatDoor
open Go Go.Proofs Go.Proofs.Sv Go.Proofs.Xv Go.Proofs.Xl Go.Proofs.Xd
abbrev treeBad (w : Y52) (i : Nat) : Bool := (i == 0 && (w.1.getD i 0 != -1 || w.2.1.getD 0 0 != 0)) || (decide (0 < i) && !inB (w.1.getD i 0) 0 ((i : Int) - 1))
theorem r112 (w : Y52) (hw : wf y52 w) (hl : w.2.1.length = w.1.length) : u112 w = some (!(List.range w.1.length).any (treeBad w)) := by
  have h := hw.1.1
  have key := lp_all (n := w.1.length) h (treeBad w) (some false) (e := some true) (F := u112L1 w) (fun g i hi => by
    have e3 : ((i : Int)).toNat = i := rfl
    have e0 : ((i : Int) == 0) = (i == 0) := by rw [Bool.eq_iff_iff, beq_iff_eq, beq_iff_eq]; omega
    have e2 : decide ((0 : Int) < (i : Int)) = decide (0 < i) := by rw [decide_eq_decide]; omega
    refine (if_pos (by simpa using hi)).trans ?_
    rw [e3, e0, e2, r111, vl_some, gd_pos ⟨⟨by omega, by omega⟩, trivial⟩, gd_pos ⟨fun _ => ⟨by omega, by omega⟩, fun _ => ⟨by omega, by omega⟩, fun _ => rfl, trivial⟩, gd_pos ⟨⟨by omega, by omega⟩, trivial⟩]
    rfl) (fun g => all_end)
  refine key.trans ?_
  cases (List.range w.1.length).any (treeBad w) <;> rfl
theorem r75 (w : Y52) (n : Int) (hw : wf y52 w) : u75 w n = some (wireB w n) := by
  obtain ⟨⟨h1, _⟩, ⟨h2, _⟩, ⟨h3, _⟩, h4, _⟩ := id hw
  have e : ∀ xs : List Int, u110 xs = some (xs.length : Int) := fun _ => rfl
  unfold u75
  rw [e, e, e, e]
  repeat rw [vl_some]
  rw [gd_pos ⟨rfl, trivial⟩, lt_eq, r111, r113 _ _ _ h2, r113 _ _ _ h3, r113 _ _ _ h4]
  repeat rw [vl_some]
  by_cases hgo : (inB (w.1.length : Int) 1 8 && (w.2.1.length : Int) == (w.1.length : Int) && (w.2.2.1.length : Int) == (w.1.length : Int)) = true
  · have hg := hgo
    simp only [Bool.and_eq_true, beq_iff_eq, inB_iff] at hg
    rw [r112 w hw (by omega), vl_some, gd_pos ⟨rfl, fun _ => rfl, fun _ => rfl, fun _ => rfl, fun _ => rfl, fun _ => rfl, fun _ => rfl, fun _ => ⟨by omega, by omega⟩, fun _ => rfl, trivial⟩, lt_eq]
    refine congrArg some ?_
    rw [hgo]
    unfold wireB
    rw [decide_eq_true (show 1 ≤ w.1.length by omega), decide_eq_true (show w.1.length ≤ 8 by omega), decide_eq_true (show w.2.1.length = w.1.length by omega), decide_eq_true (show w.2.2.1.length = w.1.length by omega)]
    cases (List.range w.1.length).any (treeBad w) <;> cases w.2.1.all (inB · 0 1000) <;> cases w.2.2.1.all (inB · 0 500) <;> cases (w.2.2.2.length : Int) == n <;> cases w.2.2.2.all (inB · 0 ((w.1.length : Int) - 1)) <;> rfl
  · have hg : (inB (w.1.length : Int) 1 8 && (w.2.1.length : Int) == (w.1.length : Int) && (w.2.2.1.length : Int) == (w.1.length : Int)) = false := by simpa using hgo
    rw [hg, gd_pos ⟨rfl, fun _ => rfl, fun _ => rfl, fun hc => by simp at hc, fun hc => by simp at hc, fun hc => by simp at hc, fun hc => by simp at hc, fun hc => by simp at hc, fun hc => by simp at hc, trivial⟩, lt_eq]
    refine congrArg some ?_
    rw [hg]
    simp only [Bool.false_and]
    symm
    rw [← Bool.not_eq_true]
    intro hc
    unfold wireB at hc
    simp only [Bool.and_eq_true, decide_eq_true_eq] at hc
    refine hgo ?_
    simp only [Bool.and_eq_true, beq_iff_eq, inB_iff]
    omega
theorem r58 (w : Y52) (n : Int) (hw : wf y52 w) : u58 w n = some (wireB w n) := by
  obtain ⟨⟨h1, _⟩, ⟨h2, _⟩, ⟨h3, _⟩, h4, _⟩ := id hw
  unfold u58
  by_cases hgo : 1 ≤ w.1.length ∧ w.1.length ≤ 8 ∧ w.2.1.length = w.1.length ∧ w.2.2.1.length = w.1.length ∧ (w.2.2.2.length : Int) = n
  · obtain ⟨g1, g2, g3, g4, g5⟩ := hgo
    have e0 : (decide ((w.1.length : Int) < 1) || decide (8 < (w.1.length : Int)) || (w.2.1.length : Int) != (w.1.length : Int) || (w.2.2.1.length : Int) != (w.1.length : Int) || (w.2.2.2.length : Int) != n) = false := by
      rw [← Bool.not_eq_true]; simp; omega
    refine (if_neg (by rw [e0]; simp)).trans ?_
    have k3 := lp_all (n := w.2.2.2.length) h4 (fun i => !inB (w.2.2.2.getD i 0) 0 ((w.1.length : Int) - 1)) (some false) (e := some true) (F := u58L3 w) (fun g i hi => all_el hi h4 ⟨⟨by omega, by omega⟩, ⟨by omega, by omega⟩, rfl, trivial⟩) (fun g => all_end)
    rw [any_getD w.2.2.2 0 (fun x => !inB x 0 ((w.1.length : Int) - 1))] at k3
    have k1 := lp_all (n := w.1.length) h1 (fun i => (!inB (w.2.2.1.getD i 0) 0 500 || !inB (w.2.1.getD i 0) 0 1000) || treeBad w i) (some false) (e := u58J0 w ()) (F := u58L1 w) (fun g i hi => by
      have e3 : ((i : Int)).toNat = i := rfl
      have e0 : ((i : Int) == 0) = (i == 0) := by rw [Bool.eq_iff_iff, beq_iff_eq, beq_iff_eq]; omega
      have e2 : decide ((0 : Int) < (i : Int)) = decide (0 < i) := by rw [decide_eq_decide]; omega
      refine (if_pos (by simpa using hi)).trans ?_
      rw [e3, e0, e2, r61, r61, r61]
      repeat rw [vl_some]
      rw [gd_pos ⟨⟨by omega, by omega⟩, rfl, fun _ => ⟨by omega, by omega⟩, fun _ => rfl, trivial⟩, gd_pos ⟨fun _ => ⟨by omega, by omega⟩, fun _ => ⟨by omega, by omega⟩, fun _ => ⟨by omega, by omega⟩, fun _ => ⟨by omega, by omega⟩, fun _ => rfl, trivial⟩, gd_pos ⟨⟨by omega, by omega⟩, trivial⟩]
      have e4 : (i == 0 && (w.1.getD i 0 != -1 || w.2.1.getD i 0 != 0) || decide (0 < i) && !inB (w.1.getD i 0) 0 ((i : Int) - 1)) = treeBad w i := by
        unfold treeBad
        cases i with
        | zero => rfl
        | succ i => rfl
      rw [e4]
      cases (!inB (w.2.2.1.getD i 0) 0 500 || !inB (w.2.1.getD i 0) 0 1000) <;> rfl) (fun g => all_end)
    refine k1.trans ?_
    rw [any_or, any_or]
    have a1 := any_getD w.2.2.1 0 (fun x => !inB x 0 500)
    have a2 := any_getD w.2.1 0 (fun x => !inB x 0 1000)
    rw [g4] at a1
    rw [g3] at a2
    rw [a1, a2]
    unfold u58J0
    rw [k3]
    unfold wireB
    rw [decide_eq_true g1, decide_eq_true g2, decide_eq_true g3, decide_eq_true g4, beq_iff_eq.2 g5, ← all_any, ← all_any, ← all_any]
    cases (List.range w.1.length).any (treeBad w) <;> cases w.2.1.any (fun x => !inB x 0 1000) <;> cases w.2.2.1.any (fun x => !inB x 0 500) <;> cases w.2.2.2.any (fun x => !inB x 0 ((w.1.length : Int) - 1)) <;> rfl
  · have e0 : (decide ((w.1.length : Int) < 1) || decide (8 < (w.1.length : Int)) || (w.2.1.length : Int) != (w.1.length : Int) || (w.2.2.1.length : Int) != (w.1.length : Int) || (w.2.2.2.length : Int) != n) = true := by
      rw [← Bool.not_eq_false]
      intro hc
      simp only [Bool.or_eq_false_iff, decide_eq_false_iff_not, bne_eq_false_iff_eq] at hc
      exact hgo ⟨by omega, by omega, by omega, by omega, hc.2⟩
    refine (if_pos e0).trans ?_
    refine congrArg some ?_
    symm
    rw [← Bool.not_eq_true]
    intro hc
    unfold wireB at hc
    simp only [Bool.and_eq_true, decide_eq_true_eq, beq_iff_eq] at hc
    exact hgo ⟨by omega, by omega, by omega, by omega, hc.1.1.1.1.2⟩
/-! ### Places -/
theorem r74 (d : Y47) (hd : wf y47 d) (h14 : d.1.length ≤ 14) (h8 : d.2.2.length ≤ 8) (h5 : ∀ i, i < d.1.length → 1 ≤ (insOf d i).2.2.length ∧ (insOf d i).2.2.length ≤ 5) : u74 d = some (placesN d.1.length d.2.2.length (insOf d) (prtOf d)) := by
  have hi0 := hd.1.1
  have hp0 := hd.2.2.1
  unfold u74
  have k5 : ∀ s : List Y121, s.length ≤ 70 → u74J0 d s = some (foldN (portP (prtOf d)) d.2.2.length s) := fun s0 hs => by
    rw [u74J0]
    exact lp_fold (n := d.2.2.length) hp0 (fun i (s : List Y121) => ((i : Int), s)) (portP (prtOf d)) (fun i s => s.length = s0.length + i) (J := fun s => some s) (F := u74L5 d) (fun g i s hi hI => by
      have e3 : ((i : Int)).toNat = i := rfl
      refine (if_pos (by simpa using hi)).trans ?_
      rw [e3, gd_pos ⟨⟨by omega, by omega⟩, trivial⟩, lt_eq, gd_pos ⟨⟨by show s.length + 1 ≤ _; omega, by show (s.length + 1) * 32 ≤ _; omega⟩, trivial⟩, gd_pos ⟨⟨by omega, by omega⟩, trivial⟩]
      rfl) (fun i s hi hI => by unfold portP; rw [List.length_append, hI]; rfl) (fun g s _ => all_end) s0 rfl
  have key := lp_fold (n := d.1.length) hi0 (fun i (s : List Y121) => (s, (i : Int))) (placesF (insOf d)) (fun i s => s.length ≤ 5 * i) (J := u74J0 d) (F := u74L1 d) (fun g i s hi hI => by
    have e3 : ((i : Int)).toNat = i := rfl
    have hx := (h5 i hi).2
    have hn : (insOf d i).2.2.length ≤ 9223372036854775807 := by omega
    refine (if_pos (by simpa using hi)).trans ?_
    rw [e3, gd_pos ⟨⟨by omega, by omega⟩, trivial⟩, lt_eq]
    have inner := lp_fold (n := (insOf d i).2.2.length) hn (fun k (s : List Y121) => ((k : Int), s)) (instP (insOf d i) i) (fun k z => z.length = s.length + k) (J := u74J2 (i : Int) g) (F := u74L3 (i : Int) (insOf d i) g) (fun g3 k z hk hz => by
      have e4 : ((k : Int)).toNat = k := rfl
      refine (if_pos (by simpa using hk)).trans ?_
      rw [e4, gd_pos ⟨⟨by omega, by omega⟩, trivial⟩, gd_pos ⟨⟨by omega, by omega⟩, ⟨by show z.length + 1 ≤ _; omega, by show (z.length + 1) * 32 ≤ _; omega⟩, trivial⟩, lt_eq]
      exact gd_pos ⟨⟨by omega, by omega⟩, trivial⟩) (fun k z hk hz => by unfold instP; rw [List.length_append, hz]; rfl) (fun g3 z _ => all_end) s rfl
    refine inner.trans ?_
    exact gd_pos ⟨⟨by omega, by omega⟩, trivial⟩) (fun i s hi hI => by
    have hx := (h5 i hi).2
    unfold placesF
    rw [instP_len]
    have hI' : s.length ≤ 5 * i := hI
    omega) (fun g s _ => all_end) [] (Nat.zero_le _)
  refine key.trans (k5 _ ?_)
  have := placesF_len (x := insOf d) (ni := d.1.length) (fun i hi => (h5 i hi).2) d.1.length (Nat.le_refl _)
  omega
theorem r60 (d : Y47) (hd : wf y47 d) (h14 : d.1.length ≤ 14) (h8 : d.2.2.length ≤ 8) (h5 : ∀ i, i < d.1.length → 1 ≤ (insOf d i).2.2.length ∧ (insOf d i).2.2.length ≤ 5) : u60 d = some (placesN d.1.length d.2.2.length (insOf d) (prtOf d)) := by
  have hi0 := hd.1.1
  have hp0 := hd.2.2.1
  unfold u60
  have k5 : ∀ s : List Y102, s.length ≤ 70 → u60J0 d s = some (foldN (portP (prtOf d)) d.2.2.length s) := fun s0 hs => by
    rw [u60J0]
    exact lp_fold (n := d.2.2.length) hp0 (fun i (s : List Y102) => ((i : Int), s)) (portP (prtOf d)) (fun i s => s.length = s0.length + i) (J := fun s => some s) (F := u60L5 d) (fun g i s hi hI => by
      have e3 : ((i : Int)).toNat = i := rfl
      refine (if_pos (by simpa using hi)).trans ?_
      rw [e3, gd_pos ⟨⟨by omega, by omega⟩, ⟨by omega, by omega⟩, ⟨by show s.length + 1 ≤ _; omega, by show (s.length + 1) * 32 ≤ _; omega⟩, trivial⟩, lt_eq]
      exact gd_pos ⟨⟨by omega, by omega⟩, trivial⟩) (fun i s hi hI => by unfold portP; rw [List.length_append, hI]; rfl) (fun g s _ => all_end) s0 rfl
  have key := lp_fold (n := d.1.length) hi0 (fun i (s : List Y102) => ((i : Int), s)) (placesF (insOf d)) (fun i s => s.length ≤ 5 * i) (J := u60J0 d) (F := u60L1 d) (fun g i s hi hI => by
    have e3 : ((i : Int)).toNat = i := rfl
    have hx := (h5 i hi).2
    have hn : (insOf d i).2.2.length ≤ 9223372036854775807 := by omega
    refine (if_pos (by simpa using hi)).trans ?_
    rw [e3, gd_pos ⟨⟨by omega, by omega⟩, trivial⟩, lt_eq]
    have inner := lp_fold (n := (insOf d i).2.2.length) hn (fun k (s : List Y102) => ((k : Int), s)) (instP (insOf d i) i) (fun k z => z.length = s.length + k) (J := u60J2 (i : Int) g) (F := u60L3 (i : Int) (insOf d i) g) (fun g3 k z hk hz => by
      have e4 : ((k : Int)).toNat = k := rfl
      refine (if_pos (by simpa using hk)).trans ?_
      rw [e4, gd_pos ⟨⟨by omega, by omega⟩, ⟨by omega, by omega⟩, ⟨by show z.length + 1 ≤ _; omega, by show (z.length + 1) * 32 ≤ _; omega⟩, trivial⟩, lt_eq]
      exact gd_pos ⟨⟨by omega, by omega⟩, trivial⟩) (fun k z hk hz => by unfold instP; rw [List.length_append, hz]; rfl) (fun g3 z _ => all_end) s rfl
    refine inner.trans ?_
    exact gd_pos ⟨⟨by omega, by omega⟩, trivial⟩) (fun i s hi hI => by
    have hx := (h5 i hi).2
    unfold placesF
    rw [instP_len]
    have hI' : s.length ≤ 5 * i := hI
    omega) (fun g s _ => all_end) [] (Nat.zero_le _)
  refine key.trans (k5 _ ?_)
  have := placesF_len (x := insOf d) (ni := d.1.length) (fun i hi => (h5 i hi).2) d.1.length (Nat.le_refl _)
  omega
end Go.Proofs.YtkmmjamclcdjkaaGreatDoor
end
section
/- Blocks: what the program's functions and the reference's say of them. -/
namespace Go.Proofs.YtkmmjamclcdjkaaGreatDoor
open Go Go.Proofs Go.Proofs.Sv Go.Proofs.Xv Go.Proofs.Xl Go.Proofs.Xd
abbrev plcs (d : Y47) : List DPlace := placesN d.1.length d.2.2.length (insOf d) (prtOf d)
abbrev plcOf (d : Y47) (i : Nat) : DPlace := (plcs d).getD i (dflt y121)
abbrev wirOf (b : Y50) (i : Nat) : Y52 := b.2.2.getD i (dflt y52)
def blockOk (b : Y50) : Bool := designOk b.1 b.2.1 && decide (b.2.2.length = b.2.1.2.1.length) && !(List.range b.2.2.length).any fun i => !wireB (wirOf b i) (cntP (plcOf b.2.1) i (plcs b.2.1).length)
structure DF (l : List Y107) (d : Y47) : Prop where
  lib : libOk l = true
  fac : DesignFacts l.length (pinsAt l) d.1.length d.2.2.length d.2.1.length (insOf d) (prtOf d)
  pin : ∀ i, i < d.1.length → 1 ≤ (insOf d i).2.2.length ∧ (insOf d i).2.2.length ≤ 5
  plc : netsIn d.2.1.length (plcs d)
  len : (plcs d).length ≤ 78
theorem df_of {l : List Y107} {d : Y47} (h : designOk l d = true) : DF l d := by
  obtain ⟨h1, h2⟩ := design_facts h
  have hp : ∀ i, i < d.1.length → 1 ≤ (insOf d i).2.2.length ∧ (insOf d i).2.2.length ≤ 5 := fun i hi => by
    have hin := h2.inst i hi
    have g1 := (inst_nets hin (fun y hy => (lib_pins h1 hy).1)).1
    unfold instB at hin
    simp only [Bool.and_eq_true, beq_iff_eq] at hin
    have := (lib_pins h1 hin.1.1).2
    exact ⟨g1, by omega⟩
  have hn := h2.net
  refine ⟨h1, h2, hp, portP_in hn.2 (placesF_in hn.1 d.1.length (Nat.le_refl _)) d.2.2.length (Nat.le_refl _), ?_⟩
  have := placesF_len (x := insOf d) (ni := d.1.length) (fun i hi => (hp i hi).2) d.1.length (Nat.le_refl _)
  have h14 := h2.ni14
  have h8 := h2.np8
  unfold plcs placesN
  rw [portP_len]
  omega
theorem r34 (b : Y50) (hw : wf y50 b) (hm : cnt y50 b ≤ 1048576) : u34 b = some (blockOk b) := by
  have hl := hw.1
  have hd := hw.2.1
  have h0 := hw.2.2.1
  have mw : b.2.2.length ≤ 1048576 := cnt_len (cnt_snd (cnt_snd hm))
  unfold u34 blockOk
  rw [r73 b.1 b.2.1 hl hd (cnt_fst hm) (cnt_fst (cnt_snd hm)), vl_some, gd_pos ⟨rfl, trivial⟩]
  cases hdo : designOk b.1 b.2.1 with
  | false => exact if_pos rfl
  | true =>
    have df := df_of hdo
    by_cases hlen : b.2.2.length = b.2.1.2.1.length
    · have e0 : ((b.2.2.length : Int) != (b.2.1.2.1.length : Int)) = false := by rw [hlen]; simp
      rw [e0, decide_eq_true hlen]
      refine (if_neg (by simp)).trans ?_
      rw [gd_pos (rep_ok mw (by decide)), Int.toNat_natCast, r74 b.2.1 hd df.fac.ni14 df.fac.np8 df.pin, vl_some, gd_pos ⟨rfl, trivial⟩, lt_eq]
      have hpl : (plcs b.2.1).length ≤ 9223372036854775807 := by have := df.len; omega
      have hin : ∀ i, i < (plcs b.2.1).length → inB (plcOf b.2.1 i).2.2.1 0 ((b.2.2.length : Int) - 1) = true := fun i hi => by
        rw [hlen]; exact df.plc _ (getD_mem hi)
      have key := lp_fold (n := (plcs b.2.1).length) hpl (fun i (v : List Int) => ((i : Int), v)) (sinkF (plcOf b.2.1)) (fun i v => i ≤ (plcs b.2.1).length ∧ lowAt v b.2.2.length i) (J := u34J0 b) (F := u34L1 (plcs b.2.1) b) (fun g i v hi hI => by
        have e3 : ((i : Int)).toNat = i := rfl
        have j2 : ∀ v', u34J2 (i : Int) g v' = g (((i + 1 : Nat) : Int), v') := fun v' => gd_pos ⟨⟨by omega, by omega⟩, trivial⟩
        refine (if_pos (by simpa using hi)).trans ?_
        rw [e3, gd_pos ⟨⟨by omega, by omega⟩, hi, trivial⟩, lt_eq, j2]
        show (if (!(plcOf b.2.1 i).2.2.2) = true then _ else _) = g (_, sinkF (plcOf b.2.1) i v)
        unfold sinkF
        cases hdr : (plcOf b.2.1 i).2.2.2 with
        | true => rfl
        | false =>
          refine (if_pos rfl).trans ?_
          refine (gd_pos (inc_ok hI.2 (by have := df.len; omega) (hin i hi))).trans ?_
          rw [lt_eq]
          exact j2 _) (fun i v hi hI => ⟨by omega, by
        unfold sinkF
        split
        · exact lowAt_inc hI.2 _
        · exact lowAt_up hI.2 (by omega)⟩) (fun g v _ => all_end) (List.replicate b.2.2.length 0) ⟨by omega, lowAt_rep _ _⟩
      refine key.trans ?_
      obtain ⟨s1, s2⟩ := sink_fold (plcOf b.2.1) b.2.2.length (plcs b.2.1).length hin
      generalize foldN (sinkF (plcOf b.2.1)) (plcs b.2.1).length (List.replicate b.2.2.length 0) = v at *
      rw [u34J0]
      have key2 := lp_all (n := b.2.2.length) h0 (fun i => !wireB (wirOf b i) (cntP (plcOf b.2.1) i (plcs b.2.1).length)) (some false) (e := some true) (F := u34L4 v b) (fun g i hi => by
        have e3 : ((i : Int)).toNat = i := rfl
        refine (if_pos (by simpa using hi)).trans ?_
        rw [e3, gd_pos ⟨⟨by omega, by omega⟩, trivial⟩, lt_eq, s2 i hi, r75 _ _ (wf_el hi hw.2.2), vl_some, gd_pos ⟨⟨by omega, by omega⟩, by omega, rfl, trivial⟩, gd_pos ⟨⟨by omega, by omega⟩, trivial⟩]) (fun g => all_end)
      refine key2.trans ?_
      cases (List.range b.2.2.length).any fun i => !wireB (wirOf b i) (cntP (plcOf b.2.1) i (plcs b.2.1).length) <;> rfl
    · have e0 : ((b.2.2.length : Int) != (b.2.1.2.1.length : Int)) = true := by simp; omega
      rw [e0, decide_eq_false hlen]
      exact if_pos rfl
theorem r59 (d : Y47) (hd : wf y47 d) {l : List Y107} (df : DF l d) (t : Int) : u59 d t = some (foldN (sinkL (plcOf d) t) (plcs d).length []) := by
  have hl := df.len
  unfold u59
  rw [r60 d hd df.fac.ni14 df.fac.np8 df.pin, vl_some, gd_pos ⟨rfl, trivial⟩, lt_eq]
  exact lp_fold (n := (plcs d).length) (by omega) (fun i (s : List Int) => ((i : Int), s)) (sinkL (plcOf d) t) (fun i s => s.length ≤ i) (J := fun s => some s) (F := u59L1 (plcs d) t) (fun g i s hi hI => by
    have e3 : ((i : Int)).toNat = i := rfl
    have j2 : ∀ s', u59J2 (i : Int) g s' = g (((i + 1 : Nat) : Int), s') := fun v' => gd_pos ⟨⟨by omega, by omega⟩, trivial⟩
    refine (if_pos (by simpa using hi)).trans ?_
    have hI' : s.length ≤ i := hI
    rw [e3, gd_pos ⟨⟨by omega, by omega⟩, hi, fun _ => ⟨by omega, by omega⟩, fun _ => hi, trivial⟩, gd_pos ⟨⟨by show s.length + 1 ≤ _; omega, by show (s.length + 1) * 8 ≤ _; omega⟩, trivial⟩, j2, j2]
    show _ = g (_, sinkL (plcOf d) t i s)
    unfold sinkL
    show (if ((plcOf d i).2.2.1 == t && !(plcOf d i).2.2.2) = true then _ else _) = _
    split <;> rfl) (fun i s hi hI => by
    have hI' : s.length ≤ i := hI
    unfold sinkL
    split
    · rw [List.length_append]; show s.length + 1 ≤ i + 1; omega
    · omega) (fun g s _ => all_end) [] (Nat.le_refl _)
theorem r26 (b : Y50) (hw : wf y50 b) (hm : cnt y50 b ≤ 1048576) : u26 b = some (blockOk b) := by
  have hl := hw.1
  have hd := hw.2.1
  have h0 := hw.2.2.1
  unfold u26 blockOk
  rw [r57 b.1 b.2.1 hl hd (cnt_fst (cnt_snd hm)), vl_some, gd_pos ⟨rfl, trivial⟩]
  cases hdo : designOk b.1 b.2.1 with
  | false => exact if_pos rfl
  | true =>
    have df := df_of hdo
    by_cases hlen : b.2.2.length = b.2.1.2.1.length
    · have e0 : ((b.2.2.length : Int) != (b.2.1.2.1.length : Int)) = false := by rw [hlen]; simp
      rw [e0, decide_eq_true hlen]
      refine (if_neg (by simp)).trans ?_
      have key2 := lp_all (n := b.2.2.length) h0 (fun i => !wireB (wirOf b i) (cntP (plcOf b.2.1) i (plcs b.2.1).length)) (some false) (e := some true) (F := u26L1 b) (fun g i hi => by
        have e3 : ((i : Int)).toNat = i := rfl
        refine (if_pos (by simpa using hi)).trans ?_
        rw [e3, r59 b.2.1 hd df, vl_some, sinkL_len, r58 _ _ (wf_el hi hw.2.2), gd_pos ⟨⟨by omega, by omega⟩, rfl, rfl, trivial⟩, lt_eq, sinkL_len, r58 _ _ (wf_el hi hw.2.2), vl_some, gd_pos ⟨⟨by omega, by omega⟩, trivial⟩]) (fun g => all_end)
      refine key2.trans ?_
      cases (List.range b.2.2.length).any fun i => !wireB (wirOf b i) (cntP (plcOf b.2.1) i (plcs b.2.1).length) <;> rfl
    · have e0 : ((b.2.2.length : Int) != (b.2.1.2.1.length : Int)) = true := by simp; omega
      rw [e0, decide_eq_false hlen]
      exact if_pos rfl
theorem block_design {b : Y50} (h : blockOk b = true) : designOk b.1 b.2.1 = true ∧ b.2.2.length = b.2.1.2.1.length ∧ ∀ i, i < b.2.2.length → wireB (wirOf b i) (cntP (plcOf b.2.1) i (plcs b.2.1).length) = true := by
  unfold blockOk at h
  rw [Bool.and_eq_true, Bool.and_eq_true, decide_eq_true_eq] at h
  refine ⟨h.1.1, h.1.2, fun i hi => ?_⟩
  have := not_any.1 h.2 i hi
  rwa [Bool.not_eq_false'] at this
end Go.Proofs.YtkmmjamclcdjkaaGreatDoor
end
section
/- Loads and delays of trees: what the sums come to. Plain facts. -/
namespace Go.Proofs.Xd
open Go Go.Proofs Go.Proofs.Xl
def addAt (v : List Int) (i : Nat) (x : Int) : List Int := v.set i (v.getD i 0 + x)
theorem addAt_len {v : List Int} {i : Nat} {x : Int} : (addAt v i x).length = v.length := by unfold addAt; simp
theorem addAt_get {v : List Int} {i j : Nat} {x : Int} (hi : i < v.length) : (addAt v i x).getD j 0 = if j = i then v.getD i 0 + x else v.getD j 0 := by
  unfold addAt
  by_cases h : j = i
  · subst h; simp [hi]
  · rw [if_neg h]; simp [List.getD_eq_getElem?_getD, List.getElem?_set_ne (Ne.symm h)]
def sumTo (v : List Int) (k : Nat) : Int := foldN (fun i s => s + v.getD i 0) k 0
theorem sumTo_succ (v : List Int) (k : Nat) : sumTo v (k + 1) = sumTo v k + v.getD k 0 := rfl
theorem sumTo_addAt {v : List Int} {i : Nat} {x : Int} (hi : i < v.length) : ∀ k, sumTo (addAt v i x) k = sumTo v k + if i < k then x else 0
  | 0 => by simp [sumTo, foldN]
  | k + 1 => by
    rw [sumTo_succ, sumTo_succ, sumTo_addAt hi k, addAt_get hi]
    by_cases h : k = i
    · subst h; simp; omega
    · rw [if_neg h]
      by_cases h2 : i < k
      · rw [if_pos h2, if_pos (by omega)]; omega
      · rw [if_neg h2, if_neg (by omega)]; omega
theorem sumTo_pos {v : List Int} (hp : ∀ j, 0 ≤ v.getD j 0) : ∀ k, 0 ≤ sumTo v k
  | 0 => by simp [sumTo, foldN]
  | k + 1 => by have := sumTo_pos hp k; have := hp k; rw [sumTo_succ]; omega
theorem le_sumTo {v : List Int} (hp : ∀ j, 0 ≤ v.getD j 0) : ∀ {k j : Nat}, j < k → v.getD j 0 ≤ sumTo v k
  | k + 1, j, h => by
    rw [sumTo_succ]
    have h1 := sumTo_pos hp k
    have h2 := hp k
    by_cases e : j = k
    · subst e; omega
    · have := le_sumTo hp (k := k) (j := j) (by omega); omega
structure Low (v : List Int) (n : Nat) (S : Int) : Prop where
  len : v.length = n
  pos : ∀ j, 0 ≤ v.getD j 0
  sum : sumTo v n ≤ S
theorem Low.bd {v : List Int} {n : Nat} {S : Int} (h : Low v n S) (hS : 0 ≤ S) (j : Nat) : 0 ≤ v.getD j 0 ∧ v.getD j 0 ≤ S := by
  refine ⟨h.pos j, ?_⟩
  rcases Nat.lt_or_ge j n with hj | hj
  · exact Int.le_trans (le_sumTo h.pos hj) h.sum
  · rw [List.getD_eq_getElem?_getD, List.getElem?_eq_none (by rw [h.len]; exact hj)]; exact hS
theorem Low.add {v : List Int} {n : Nat} {S : Int} (h : Low v n S) {i : Nat} (hi : i < n) {x : Int} (hx : 0 ≤ x) : Low (addAt v i x) n (S + x) := by
  have hi' : i < v.length := by rw [h.len]; exact hi
  refine ⟨by rw [addAt_len]; exact h.len, fun j => ?_, ?_⟩
  · rw [addAt_get hi']
    have := h.pos i
    have := h.pos j
    split <;> omega
  · rw [sumTo_addAt hi', if_pos hi]; have := h.sum; omega
structure Pull (v : List Int) (n k : Nat) (S : Int) : Prop where
  len : v.length = n
  pos : ∀ j, 0 ≤ v.getD j 0
  bd : ∀ j, v.getD j 0 ≤ S
  sum : sumTo v (n - k) ≤ S
def plcIn (ni np : Nat) (x : Nat → DInst) (p : DPlace) : Prop := (p.1 = -1 ∧ 0 ≤ p.2.1 ∧ p.2.1.toNat < np) ∨ (0 ≤ p.1 ∧ p.1.toNat < ni ∧ 0 ≤ p.2.1 ∧ p.2.1.toNat < (x p.1.toNat).2.2.length)
theorem instP_kind {ni np : Nat} {x : Nat → DInst} {i : Nat} (hi : i < ni) {s : List DPlace} (hs : ∀ p ∈ s, plcIn ni np x p) : ∀ k, k ≤ (x i).2.2.length → ∀ p ∈ foldN (instP (x i) i) k s, plcIn ni np x p
  | 0, _ => hs
  | k + 1, hk => fun p hp => by
    have hp : p ∈ instP (x i) i k (foldN (instP (x i) i) k s) := hp
    unfold instP at hp
    rcases List.mem_append.1 hp with hp | hp
    · exact instP_kind hi hs k (by omega) p hp
    · cases List.mem_singleton.1 hp
      exact .inr ⟨Int.natCast_nonneg _, by simpa using hi, Int.natCast_nonneg _, by simp; omega⟩
theorem placesF_kind {ni np : Nat} {x : Nat → DInst} : ∀ i, i ≤ ni → ∀ p ∈ foldN (placesF x) i [], plcIn ni np x p
  | 0, _ => fun p hp => by cases hp
  | i + 1, hi => instP_kind (by omega) (placesF_kind i (by omega)) _ (Nat.le_refl _)
theorem portP_kind {ni np : Nat} {x : Nat → DInst} {y : Nat → DPort} {s : List DPlace} (hs : ∀ p ∈ s, plcIn ni np x p) : ∀ k, k ≤ np → ∀ p ∈ foldN (portP y) k s, plcIn ni np x p
  | 0, _ => hs
  | k + 1, hk => fun p hp => by
    have hp : p ∈ portP y k (foldN (portP y) k s) := hp
    unfold portP at hp
    rcases List.mem_append.1 hp with hp | hp
    · exact portP_kind hs k (by omega) p hp
    · cases List.mem_singleton.1 hp
      exact .inl ⟨rfl, Int.natCast_nonneg _, by simp; omega⟩
theorem places_kind (ni np : Nat) (x : Nat → DInst) (y : Nat → DPort) : ∀ p ∈ placesN ni np x y, plcIn ni np x p := portP_kind (placesF_kind ni (Nat.le_refl _)) np (Nat.le_refl _)
end Go.Proofs.Xd
end
section
/- What a valid wire tells; what a net's sinks are. Plain facts. -/
namespace Go.Proofs.Xd
open Go Go.Proofs Go.Proofs.Xl
structure WireFacts (w : DWire) (n : Int) : Prop where
  n1 : 1 ≤ w.1.length
  n8 : w.1.length ≤ 8
  res : w.2.1.length = w.1.length
  cap : w.2.2.1.length = w.1.length
  snk : (w.2.2.2.length : Int) = n
  resIn : ∀ i, i < w.1.length → 0 ≤ w.2.1.getD i 0 ∧ w.2.1.getD i 0 ≤ 1000
  capOk : w.2.2.1.all (inB · 0 500) = true
  snkIn : ∀ i, i < w.2.2.2.length → 0 ≤ w.2.2.2.getD i 0 ∧ (w.2.2.2.getD i 0).toNat < w.1.length
  par : ∀ i, 0 < i → i < w.1.length → 0 ≤ w.1.getD i 0 ∧ (w.1.getD i 0).toNat < i
theorem wire_facts {w : DWire} {n : Int} (h : wireB w n = true) : WireFacts w n := by
  unfold wireB at h
  simp only [Bool.and_eq_true, decide_eq_true_eq, beq_iff_eq] at h
  obtain ⟨⟨⟨⟨⟨⟨⟨⟨c1, c2⟩, c3⟩, c4⟩, c5⟩, c6⟩, c7⟩, c8⟩, c9⟩ := h
  refine ⟨c1, c2, c3, c4, c5, fun i hi => ?_, c7, fun i hi => ?_, fun i h0 hi => ?_⟩
  · exact inB_iff.1 (all_getD (p := fun x => inB x 0 1000) c6 (by omega))
  · have := inB_iff.1 (all_getD (p := fun x => inB x 0 ((w.1.length : Int) - 1)) c8 hi)
    omega
  · have := not_any.1 c9 i hi
    rw [Bool.or_eq_false_iff] at this
    have h2 := this.2
    rw [Bool.and_eq_false_iff, decide_eq_false_iff_not, Bool.not_eq_false', inB_iff] at h2
    rcases h2 with h | h
    · omega
    · omega
end Go.Proofs.Xd
end
section
/- The nets of a valid block, its cells and places: plain facts. -/
namespace Go.Proofs.YtkmmjamclcdjkaaGreatDoor
open Go Go.Proofs Go.Proofs.Sv Go.Proofs.Xv Go.Proofs.Xl Go.Proofs.Xd
abbrev sinksV (d : Y47) (t : Int) : List Int := foldN (sinkL (plcOf d) t) (plcs d).length []
theorem plc_mem {d : Y47} {i : Nat} (h : i < (plcs d).length) : plcOf d i ∈ plcs d := getD_mem h
theorem lib_cell' {l : List Y107} (h : libOk l = true) {i : Nat} (hi : i < l.length) : cellOk isArcS (celOf l i) = true := by
  have h : libB _ _ _ = true := h
  unfold libB at h
  rw [Bool.and_eq_true] at h
  have := not_any.1 h.1 i hi
  rw [Bool.or_eq_false_iff, Bool.not_eq_false'] at this
  exact this.1
theorem plc_pin {l : List Y107} {d : Y47} (df : DF l d) {p : DPlace} (hp : p ∈ plcs d) : (p.1 = -1 ∧ 0 ≤ p.2.1 ∧ p.2.1.toNat < d.2.2.length) ∨
    (0 ≤ p.1 ∧ p.1.toNat < d.1.length ∧ 0 ≤ (insOf d p.1.toNat).2.1 ∧ (insOf d p.1.toNat).2.1.toNat < l.length ∧ 0 ≤ p.2.1 ∧ p.2.1.toNat < (l.getD (insOf d p.1.toNat).2.1.toNat (dflt y107)).2.2.1.length) := by
  rcases places_kind d.1.length d.2.2.length (insOf d) (prtOf d) p hp with h | ⟨h1, h2, h3, h4⟩
  · exact .inl h
  · have hin := df.fac.inst p.1.toNat h2
    unfold instB at hin
    simp only [Bool.and_eq_true, beq_iff_eq] at hin
    have h5 := inB_iff.1 hin.1.1
    have h6 := hin.1.2
    refine .inr ⟨h1, h2, h5.1, by omega, h3, ?_⟩
    have h6 : ((insOf d p.1.toNat).2.2.length : Int) = ((l.getD (insOf d p.1.toNat).2.1.toNat (dflt y107)).2.2.1.length : Int) := h6
    omega
structure NetOk (b : Y50) (i : Nat) : Prop where
  df : DF b.1 b.2.1
  lt : i < b.2.2.length
  wf : WireFacts (wirOf b i) ((sinksV b.2.1 i).length : Int)
theorem net_ok {b : Y50} (h : blockOk b = true) {i : Nat} (hi : i < b.2.2.length) : NetOk b i := by
  obtain ⟨h1, h2, h3⟩ := block_design h
  refine ⟨df_of h1, hi, ?_⟩
  rw [sinkL_len]
  exact wire_facts (h3 i hi)
theorem NetOk.sn {b : Y50} {i : Nat} (h : NetOk b i) : (wirOf b i).2.2.2.length = (sinksV b.2.1 i).length := by have := h.wf.snk; omega
abbrev celI (b : Y50) (i : Nat) : Y107 := b.1.getD (insOf b.2.1 i).2.1.toNat (dflt y107)
theorem inst_cell' {b : Y50} (df : DF b.1 b.2.1) {i : Nat} (hi : i < b.2.1.1.length) : ix (insOf b.2.1 i).2.1 b.1.length ∧ cellOk isArcS (celI b i) = true ∧ (insOf b.2.1 i).2.2.length = (celI b i).2.2.1.length := by
  have := df.fac.inst i hi
  unfold instB at this
  rw [Bool.and_eq_true, Bool.and_eq_true, beq_iff_eq] at this
  have h1 := inB_iff.1 this.1.1
  have h2 := this.1.2
  have h3 : ((insOf b.2.1 i).2.2.length : Int) = ((celI b i).2.2.1.length : Int) := h2
  exact ⟨⟨h1.1, by omega⟩, lib_cell' df.lib (by omega), by omega⟩
theorem cell_arcs {c : Y107} (h : cellOk isArcS c = true) : 2 ≤ c.2.2.1.length ∧ c.2.2.1.length ≤ 5 ∧ c.2.2.2.1.length ≤ 8 ∧ ∀ j, j < c.2.2.2.1.length → 0 ≤ (arcOf c j).2.1 ∧ (arcOf c j).2.1 < (c.2.2.1.length : Int) - 1 ∧ 0 ≤ (arcOf c j).2.2.1 ∧ (arcOf c j).2.2.1 < (c.2.2.1.length : Int) := by
  have h : cellB isArcS _ _ _ _ _ _ _ _ _ = true := h
  unfold cellB arcsB at h
  simp only [Bool.and_eq_true, decide_eq_true_eq] at h
  have hp := pins_last h.1.1.1.1.2
  refine ⟨hp.1, hp.2.1, h.1.1.1.2.1, fun j hj => ?_⟩
  have := not_any.1 h.1.1.1.2.2 j hj
  rw [Bool.or_eq_false_iff, Bool.not_eq_false'] at this
  have ha := this.1
  unfold isArcS at ha
  rw [Bool.and_eq_true, Bool.and_eq_true] at ha
  have h1 := inB_iff.1 ha.1.1
  have h2 := inB_iff.1 ha.1.2
  omega
end Go.Proofs.YtkmmjamclcdjkaaGreatDoor
end
section
/- Edits: blank fields, ranges, states; the program's way and the reference's way. -/
namespace Go.Proofs.YtkmmjamclcdjkaaGreatDoor
open Go Go.Proofs Go.Proofs.Sv Go.Proofs.Xv Go.Proofs.Xl Go.Proofs.Xd
theorem eq_any {xs ys : List Int} (h : xs.length = ys.length) : (!(List.range xs.length).any fun i => xs.getD i 0 != ys.getD i 0) = decide (xs = ys) := by
  rw [Bool.eq_iff_iff, decide_eq_true_eq]
  constructor
  · intro hn
    have hn := not_any.1 hn
    exact list_eq 0 h (fun i hi => by simpa using hn i hi)
  · rintro rfl
    exact not_any.2 (fun i _ => by simp)
theorem r182 (xs ys : List Int) (h : xs.length ≤ 9223372036854775807) : u182 xs ys = some (decide (xs = ys)) := by
  unfold u182
  by_cases hl : xs.length = ys.length
  · have key := lp_all (n := xs.length) h (fun i => xs.getD i 0 != ys.getD i 0) (some false) (e := some true) (F := u182L1 xs ys) (fun g i hi => by
      have e3 : ((i : Int)).toNat = i := rfl
      refine (if_pos (by simpa using hi)).trans ?_
      rw [e3, gd_pos ⟨⟨by omega, by omega⟩, ⟨by omega, by omega⟩, trivial⟩, gd_pos ⟨⟨by omega, by omega⟩, trivial⟩]) (fun g => all_end)
    refine (if_neg (by simp [hl])).trans (key.trans ?_)
    rw [← eq_any hl]
    cases (List.range xs.length).any fun i => xs.getD i 0 != ys.getD i 0 <;> rfl
  · rw [decide_eq_false (fun e => hl (by rw [e]))]
    exact if_pos (by simp; omega)
def sameW (w v : Y52) : Bool := decide (w.1 = v.1) && decide (w.2.1 = v.2.1) && decide (w.2.2.1 = v.2.2.1) && decide (w.2.2.2 = v.2.2.2)
theorem r149 (w v : Y52) (hw : wf y52 w) : u149 w v = some (sameW w v) := by
  unfold u149
  rw [r182 _ _ hw.1.1, r182 _ _ hw.2.1.1, r182 _ _ hw.2.2.1.1, r182 _ _ hw.2.2.2.1]
  repeat rw [vl_some]
  exact gd_pos ⟨rfl, fun _ => rfl, fun _ => rfl, fun _ => rfl, trivial⟩
def sameE (e f : Y54) : Bool := e.1 == f.1 && e.2.1 == f.2.1 && e.2.2.1 == f.2.2.1 && e.2.2.2.1 == f.2.2.2.1 && e.2.2.2.2.1 == f.2.2.2.2.1 && decide (e.2.2.2.2.2.1 = f.2.2.2.2.2.1) && sameW e.2.2.2.2.2.2 f.2.2.2.2.2.2
theorem r114 (e f : Y54) (hw : wf y54 e) : u114 e f = some (sameE e f) := by
  unfold u114
  rw [r149 _ _ hw.2.2.2.2.2.2, vl_some, gd_pos ⟨fun _ => rfl, trivial⟩, lt_eq]
  rfl
def noW (w : Y52) : Bool := (w.1.length : Int) + (w.2.1.length : Int) + (w.2.2.1.length : Int) + (w.2.2.2.length : Int) == 0
def blankV (e : Y54) : Bool :=
  if (e.1 == 1) = true then e.2.2.2.1 == 0 && e.2.2.2.2.1 == 0 && decide (e.2.2.2.2.2.1 = ByteArray.mk #[]) && noW e.2.2.2.2.2.2
  else if (e.1 == 2) = true then e.2.2.2.1 == 0 && e.2.2.2.2.1 == 0 && noW e.2.2.2.2.2.2
  else if (e.1 == 3) = true then e.2.1 == 0 && e.2.2.1 == 0 && e.2.2.2.1 == 0 && e.2.2.2.2.1 == 0 && decide (e.2.2.2.2.2.1 = ByteArray.mk #[]) && noW e.2.2.2.2.2.2
  else if (e.1 == 4) = true then e.2.2.1 == 0 && decide (e.2.2.2.2.2.1 = ByteArray.mk #[]) && noW e.2.2.2.2.2.2
  else if (e.1 == 5) = true then e.2.1 == 0 && e.2.2.1 == 0 && e.2.2.2.2.1 == 0 && decide (e.2.2.2.2.2.1 = ByteArray.mk #[])
  else false
theorem wire_cnt {w : Y52} (h : cnt y52 w ≤ 1048576) : w.1.length ≤ 1048576 ∧ w.2.1.length ≤ 1048576 ∧ w.2.2.1.length ≤ 1048576 ∧ w.2.2.2.length ≤ 1048576 :=
  ⟨cnt_len (cnt_fst h), cnt_len (cnt_fst (cnt_snd h)), cnt_len (cnt_fst (cnt_snd (cnt_snd h))), cnt_len (cnt_snd (cnt_snd (cnt_snd h)))⟩
theorem r27 (e : Y54) (hm : cnt y54 e ≤ 1048576) : u27 e = some (blankV e) := by
  obtain ⟨c1, c2, c3, c4⟩ := wire_cnt (cnt_snd (cnt_snd (cnt_snd (cnt_snd (cnt_snd (cnt_snd hm))))))
  unfold u27 blankV
  rw [gd_pos ⟨⟨by omega, by omega⟩, ⟨by omega, by omega⟩, ⟨by omega, by omega⟩, trivial⟩]
  by_cases h1 : (e.1 == 1) = true
  · rw [if_pos h1, if_pos h1]; rfl
  rw [if_neg h1, if_neg h1]
  by_cases h2 : (e.1 == 2) = true
  · rw [if_pos h2, if_pos h2]; rfl
  rw [if_neg h2, if_neg h2]
  by_cases h3 : (e.1 == 3) = true
  · rw [if_pos h3, if_pos h3]; rfl
  rw [if_neg h3, if_neg h3]
  by_cases h4 : (e.1 == 4) = true
  · rw [if_pos h4, if_pos h4]; rfl
  rw [if_neg h4, if_neg h4]
  by_cases h5 : (e.1 == 5) = true
  · rw [if_pos h5, if_pos h5]
  rw [if_neg h5, if_neg h5]
def ownV (e : Y54) : Y54 :=
  if (e.1 == 1) = true then (e.1, e.2.1, e.2.2.1, 0, 0, ByteArray.mk #[], [], [], [], [])
  else if (e.1 == 2) = true then (e.1, e.2.1, e.2.2.1, 0, 0, e.2.2.2.2.2.1, [], [], [], [])
  else if (e.1 == 4) = true then (e.1, e.2.1, 0, e.2.2.2.1, e.2.2.2.2.1, ByteArray.mk #[], [], [], [], [])
  else if (e.1 == 5) = true then (e.1, 0, 0, e.2.2.2.1, 0, ByteArray.mk #[], e.2.2.2.2.2.2)
  else (e.1, 0, 0, 0, 0, ByteArray.mk #[], [], [], [], [])
theorem r115 (e : Y54) : u115 e = some (ownV e) := by
  unfold u115 ownV
  by_cases h1 : (e.1 == 1) = true
  · rw [if_pos h1, if_pos h1]
  rw [if_neg h1, if_neg h1]
  by_cases h2 : (e.1 == 2) = true
  · rw [if_pos h2, if_pos h2]
  rw [if_neg h2, if_neg h2]
  by_cases h4 : (e.1 == 4) = true
  · rw [if_pos h4, if_pos h4]
  rw [if_neg h4, if_neg h4]
  by_cases h5 : (e.1 == 5) = true
  · rw [if_pos h5, if_pos h5]
  rw [if_neg h5, if_neg h5]
theorem noW_eq (a b c d : List Int) : noW (a, b, c, d) = (decide (a = []) && decide (b = []) && decide (c = []) && decide (d = [])) := by
  rw [Bool.eq_iff_iff]
  unfold noW
  simp only [beq_iff_eq, Bool.and_eq_true, decide_eq_true_eq]
  rw [← List.length_eq_zero_iff, ← List.length_eq_zero_iff, ← List.length_eq_zero_iff, ← List.length_eq_zero_iff]
  omega
theorem blank_own (e : Y54) : (inB e.1 1 5 && sameE e (ownV e)) = blankV e := by
  obtain ⟨k, p, c, n, d, nm, a1, a2, a3, a4⟩ := e
  unfold blankV ownV sameE sameW
  rw [noW_eq]
  show (inB k 1 5 && _) = _
  by_cases h1 : k = 1
  · subst h1; simp [inB, Bool.and_assoc]
  by_cases h2 : k = 2
  · subst h2; simp [inB, Bool.and_assoc]
  by_cases h3 : k = 3
  · subst h3; simp [inB, Bool.and_assoc]
  by_cases h4 : k = 4
  · subst h4; simp [inB, Bool.and_assoc]
  by_cases h5 : k = 5
  · subst h5; simp [inB, Bool.and_assoc]
  have : inB k 1 5 = false := by
    rw [← Bool.not_eq_true]
    intro h
    have := inB_iff.1 h
    omega
  rw [this]
  simp [h1, h2, h3, h4, h5]
/-! ### Cells -/
def alikeV (c d : Y107) : Bool := !(c.2.1 != d.2.1 || (c.2.2.1.length : Int) != (d.2.2.1.length : Int)) && !(List.range c.2.2.1.length).any fun i => !((pinOf c i).2.2.2 == (pinOf d i).2.2.2)
theorem r62 (c d : Y107) (h : c.2.2.1.length ≤ 9223372036854775807) : u62 c d = some (alikeV c d) := by
  unfold u62 alikeV
  cases hc : (c.2.1 != d.2.1 || (c.2.2.1.length : Int) != (d.2.2.1.length : Int)) with
  | true => rfl
  | false =>
    have hl : c.2.2.1.length = d.2.2.1.length := by
      simp only [Bool.or_eq_false_iff, bne_eq_false_iff_eq] at hc
      omega
    have key := lp_all (n := c.2.2.1.length) h (fun i => !((pinOf c i).2.2.2 == (pinOf d i).2.2.2)) (some false) (e := some true) (F := u62L1 c d) (fun g i hi => by
      have e3 : ((i : Int)).toNat = i := rfl
      refine (if_pos (by simpa using hi)).trans ?_
      rw [e3, gd_pos ⟨⟨by omega, by omega⟩, ⟨by omega, by omega⟩, trivial⟩, gd_pos ⟨⟨by omega, by omega⟩, trivial⟩]) (fun g => all_end)
    refine (if_neg (by simp)).trans (key.trans ?_)
    cases (List.range c.2.2.1.length).any fun i => !((pinOf c i).2.2.2 == (pinOf d i).2.2.2) <;> rfl
theorem r118 (c d : Y107) (h : c.2.2.1.length ≤ 9223372036854775807) : u118 c d = some (alikeV c d) := by
  have e : u150c151 c.2.2.1 d.2.2.1 = some (!((c.2.2.1.length : Int) != (d.2.2.1.length : Int)) && !(List.range c.2.2.1.length).any fun i => !((pinOf c i).2.2.2 == (pinOf d i).2.2.2)) := by
    unfold u150c151
    cases hc : ((c.2.2.1.length : Int) != (d.2.2.1.length : Int)) with
    | true => rfl
    | false =>
      have hl : c.2.2.1.length = d.2.2.1.length := by
        simp only [bne_eq_false_iff_eq] at hc
        omega
      have ef : ∀ p q : Y147, u151 p q = some (p.2.2.2 == q.2.2.2) := fun _ _ => rfl
      have key := lp_all (n := c.2.2.1.length) h (fun i => !((pinOf c i).2.2.2 == (pinOf d i).2.2.2)) (some false) (e := some true) (F := u150c151L1 d.2.2.1 c.2.2.1) (fun g i hi => by
        have e3 : ((i : Int)).toNat = i := rfl
        refine (if_pos (by simpa using hi)).trans ?_
        rw [e3, gd_pos ⟨⟨by omega, by omega⟩, trivial⟩, lt_eq, gd_pos ⟨⟨by omega, by omega⟩, trivial⟩, lt_eq, ef, gd_pos ⟨rfl, trivial⟩, gd_pos ⟨⟨by omega, by omega⟩, trivial⟩]
        rfl) (fun g => all_end)
      refine (if_neg (by simp)).trans (key.trans ?_)
      cases (List.range c.2.2.1.length).any fun i => !((pinOf c i).2.2.2 == (pinOf d i).2.2.2) <;> rfl
  unfold u118 alikeV
  rw [e, vl_some, gd_pos ⟨fun _ => rfl, trivial⟩]
  unfold bne
  cases (c.2.1 == d.2.1) <;> cases ((c.2.2.1.length : Int) == (d.2.2.1.length : Int)) <;> rfl
def bufV (c : Y107) : Bool := c.2.1 == 1 && (c.2.2.1.length : Int) == 2
theorem r63 (c : Y107) : u63 c = some (bufV c) := rfl
theorem r119 (c : Y107) : u119 c = some (bufV c) := rfl
/-! ### Names -/
def fiV (n : Nat) (P : Nat → Bool) : Int := match (List.range n).find? P with | some i => (i : Int) | none => -1
def insN (d : Y47) (s : ByteArray) : Int := fiV d.1.length (fun i => decide ((insOf d i).1 = s))
def netN (d : Y47) (s : ByteArray) : Int := fiV d.2.1.length (fun i => decide (d.2.1.getD i (dflt .str) = s))
theorem r65 (d : Y47) (s : ByteArray) (h : d.1.length ≤ 9223372036854775807) : u65 d s = some (insN d s) :=
  idx_some h (fun i => decide ((insOf d i).1 = s)) (fun g i hi => by
    refine (if_pos (by simpa using hi)).trans ?_
    rw [gd_pos ⟨⟨by omega, by omega⟩, trivial⟩, gd_pos ⟨⟨by omega, by omega⟩, trivial⟩]
    rfl) (fun g => all_end)
theorem r121 (d : Y47) (s : ByteArray) (h : d.1.length ≤ 9223372036854775807) : u121 d s = some (insN d s) := by
  have h1 : u154c155 d.1 s = some (insN d s) := idx_some h (fun i => decide ((insOf d i).1 = s)) (fun g i hi => idx_el hi h rfl) (fun g => all_end)
  unfold u121
  rw [h1, vl_some, gd_pos ⟨rfl, trivial⟩, lt_eq]
theorem r66 (d : Y47) (s : ByteArray) (h : d.2.1.length ≤ 9223372036854775807) : u66 d s = some (netN d s) := by
  have h1 : u100 d.2.1 s = some (netN d s) := idx_some h (fun i => decide (d.2.1.getD i (dflt .str) = s)) (fun g i hi => by
    refine (if_pos (by simpa using hi)).trans ?_
    rw [gd_pos ⟨⟨by omega, by omega⟩, trivial⟩, gd_pos ⟨⟨by omega, by omega⟩, trivial⟩]
    rfl) (fun g => all_end)
  unfold u66
  rw [h1, vl_some, gd_pos ⟨rfl, trivial⟩, lt_eq]
theorem r122 (d : Y47) (s : ByteArray) (h : d.2.1.length ≤ 9223372036854775807) : u122 d s = some (netN d s) := by
  have h1 : u156 d.2.1 s = some (netN d s) := idx_some h (fun i => decide (d.2.1.getD i (dflt .str) = s)) (fun g i hi => by
    refine (if_pos (by simpa using hi)).trans ?_
    rw [gd_pos ⟨⟨by omega, by omega⟩, trivial⟩, gd_pos ⟨⟨by omega, by omega⟩, trivial⟩]
    have : decide (s = d.2.1.getD i (dflt .str)) = decide (d.2.1.getD i (dflt .str) = s) := by rw [decide_eq_decide]; exact eq_comm
    rw [← this]
    rfl) (fun g => all_end)
  unfold u122
  rw [h1, vl_some, gd_pos ⟨rfl, trivial⟩, lt_eq]
end Go.Proofs.YtkmmjamclcdjkaaGreatDoor
end
section
/- Edits: the program's EditCode returns what the reference's returns; the law as a plain function gives true for all data. -/
namespace Go.Proofs.YtkmmjamclcdjkaaGreatDoor
open Go Go.Proofs Go.Proofs.Sv Go.Proofs.Xv Go.Proofs.Xl Go.Proofs.Xd
def plN (b : Y50) : Int := (plcs b.2.1).length
def rangeV (b : Y50) (e : Y54) : Bool :=
  if (e.1 == 1 || e.1 == 2) = true then inB e.2.1 0 (plN b - 1) && inB e.2.2.1 0 ((b.1.length : Int) - 1)
  else if (e.1 == 4) = true then inB e.2.1 0 (plN b - 1) && inB e.2.2.2.1 0 ((b.2.2.length : Int) - 1) && inB e.2.2.2.2.1 0 (((wirOf b e.2.2.2.1.toNat).1.length : Int) - 1)
  else if (e.1 == 5) = true then inB e.2.2.2.1 0 ((b.2.2.length : Int) - 1)
  else true
structure BOk (b : Y50) : Prop where
  df : DF b.1 b.2.1
  nets : b.2.2.length = b.2.1.2.1.length
  n30 : b.2.2.length ≤ 30
  c8 : b.1.length ≤ 8
  p78 : plN b ≤ 78
  wire : ∀ i, i < b.2.2.length → NetOk b i
theorem b_ok {b : Y50} (h : blockOk b = true) : BOk b := by
  obtain ⟨h1, h2, _⟩ := block_design h
  have df := df_of h1
  have hl := df.len
  have h30 := df.fac.nn30
  have h8 : b.1.length ≤ 8 := by
    have hl := df.lib
    have hl : libB _ _ _ = true := hl
    unfold libB at hl
    simp only [Bool.and_eq_true, decide_eq_true_eq] at hl
    exact hl.2
  exact ⟨df, h2, by omega, h8, by unfold plN; omega, fun i hi => net_ok h hi⟩
theorem r28 (b : Y50) (hw : wf y50 b) (o : BOk b) (e : Y54) : u28 b e = some (rangeV b e) := by
  have hp := o.p78
  have h30 := o.n30
  have h8 := o.c8
  have hpn : 0 ≤ plN b := Int.natCast_nonneg _
  have key : ∀ v, (e.1 == 1) = true ∧ v = true ∨ (e.1 == 1) = false ∧ v = (e.1 == 2) → u28J0 e (plcs b.2.1) b v = some (rangeV b e) := fun v hv => by
    have hv' : v = (e.1 == 1 || e.1 == 2) := by
      rcases hv with ⟨h1, h2⟩ | ⟨h1, h2⟩
      · rw [h1, h2]; rfl
      · rw [h1, h2]; rfl
    unfold rangeV
    rw [← hv', u28J0, r61, r61, r61, r61]
    repeat rw [vl_some]
    cases v with
    | true => exact gd_pos ⟨⟨by show _ ≤ plN b - 1; omega, by show plN b - 1 ≤ _; omega⟩, rfl, (fun _ => ⟨by omega, by omega⟩), (fun _ => rfl), trivial⟩
    | false =>
      refine (if_neg (by simp)).trans ?_
      rw [if_neg (show ¬ (false = true) by simp)]
      by_cases h4 : (e.1 == 4) = true
      · rw [if_pos h4, if_pos h4]
        have key2 : (inB e.2.1 0 (plN b - 1) && inB e.2.2.2.1 0 ((b.2.2.length : Int) - 1)) = true → ix e.2.2.2.1 b.2.2.length ∧ in64 (((wirOf b e.2.2.2.1.toNat).1.length : Int) - 1) := fun h => by
          have h2 := inB_iff.1 (Bool.and_eq_true _ _ ▸ h).2
          have hw := (o.wire e.2.2.2.1.toNat (by omega)).wf.n8
          exact ⟨⟨h2.1, by omega⟩, ⟨by omega, by omega⟩⟩
        exact gd_pos ⟨⟨by show _ ≤ plN b - 1; omega, by show plN b - 1 ≤ _; omega⟩, rfl, (fun _ => ⟨by omega, by omega⟩), (fun _ => rfl), (fun h => (key2 h.1).1), (fun h => (key2 h.1).2), (fun _ => rfl), trivial⟩
      · rw [if_neg h4, if_neg h4]
        by_cases h5 : (e.1 == 5) = true
        · rw [if_pos h5, if_pos h5]
          exact gd_pos ⟨⟨by omega, by omega⟩, rfl, trivial⟩
        · rw [if_neg h5, if_neg h5]
  unfold u28
  rw [r60 b.2.1 hw.2.1 o.df.fac.ni14 o.df.fac.np8 o.df.pin, vl_some, gd_pos ⟨rfl, trivial⟩, lt_eq]
  cases h1 : (e.1 == 1) with
  | true => exact (if_pos rfl).trans (key _ (.inl ⟨h1, rfl⟩))
  | false => exact (if_neg (by simp)).trans (key _ (.inr ⟨h1, rfl⟩))
theorem r76 (b : Y50) (hw : wf y50 b) (o : BOk b) (e : Y54) (he : wf y54 e) : u76 e b = some (blankV e && rangeV b e) := by
  have hp := o.p78
  have h30 := o.n30
  have h8 := o.c8
  have hn := o.nets
  have hpn : 0 ≤ plN b := Int.natCast_nonneg _
  have ePl : u116 (plcs b.2.1) = some (plN b) := rfl
  have eC : u117 b.1 = some (b.1.length : Int) := rfl
  have eI : ∀ xs : List Int, u110 xs = some (xs.length : Int) := fun _ => rfl
  have key : ∀ v, (e.1 == 1) = true ∧ v = true ∨ (e.1 == 1) = false ∧ v = (e.1 == 2) → u76J0 e (plcs b.2.1) b v = some (rangeV b e) := fun v hv => by
    have hv' : v = (e.1 == 1 || e.1 == 2) := by
      rcases hv with ⟨h1, h2⟩ | ⟨h1, h2⟩
      · rw [h1, h2]; rfl
      · rw [h1, h2]; rfl
    unfold rangeV
    rw [← hv', u76J0, ePl, vl_some, r111, vl_some, eC, vl_some, r111, vl_some, r84 _ hw.2.1, vl_some, eI, vl_some, r111, vl_some, ← hn]
    cases v with
    | true => exact gd_pos ⟨(fun _ => rfl), (fun _ => ⟨by omega, by omega⟩), (fun _ => rfl), trivial⟩
    | false =>
      refine (if_neg (by simp)).trans ?_
      rw [if_neg (show ¬ (false = true) by simp)]
      by_cases h4 : (e.1 == 4) = true
      · rw [if_pos h4, if_pos h4]
        have key2 : (inB e.2.1 0 (plN b - 1) && inB e.2.2.2.1 0 ((b.2.2.length : Int) - 1)) = true → ix e.2.2.2.1 b.2.2.length ∧ in64 (((wirOf b e.2.2.2.1.toNat).1.length : Int) - 1) := fun h => by
          have h2 := inB_iff.1 (Bool.and_eq_true _ _ ▸ h).2
          have hw := (o.wire e.2.2.2.1.toNat (by omega)).wf.n8
          exact ⟨⟨h2.1, by omega⟩, ⟨by omega, by omega⟩⟩
        exact gd_pos ⟨(fun _ => rfl), (fun h => (key2 h.1).1), (fun _ => rfl), (fun h => (key2 h.1).2), (fun _ => rfl), trivial⟩
      · rw [if_neg h4, if_neg h4]
        by_cases h5 : (e.1 == 5) = true
        · rw [if_pos h5, if_pos h5]
          exact gd_pos ⟨rfl, trivial⟩
        · rw [if_neg h5, if_neg h5]
  unfold u76
  rw [r111, vl_some, r115, vl_some, r114 e _ he, vl_some, gd_pos ⟨rfl, (fun _ => rfl), (fun _ => rfl), trivial⟩]
  have hb := blank_own e
  cases hbl : blankV e with
  | false =>
    rw [hbl] at hb
    refine (if_pos ?_).trans rfl
    cases h1 : inB e.1 1 5 with
    | false => rfl
    | true => rw [h1, Bool.true_and] at hb; rw [hb]; rfl
  | true =>
    rw [hbl, Bool.and_eq_true] at hb
    refine (if_neg (by rw [hb.1, hb.2]; simp)).trans ?_
    rw [r74 b.2.1 hw.2.1 o.df.fac.ni14 o.df.fac.np8 o.df.pin, vl_some, ePl, vl_some, r111, gd_pos ⟨rfl, rfl, ⟨by omega, by omega⟩, rfl, trivial⟩, lt_eq]
    cases h1 : (e.1 == 1) with
    | true => exact (if_pos rfl).trans (key _ (.inl ⟨h1, rfl⟩))
    | false => exact (if_neg (by simp)).trans (key _ (.inr ⟨h1, rfl⟩))
end Go.Proofs.YtkmmjamclcdjkaaGreatDoor
end
