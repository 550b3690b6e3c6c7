/- Designs: what the reference's functions say of them. -/
import Derived.Test.YtippccamjlfafaaGreatDoorLB
section
/- Designs: what the reference's functions say of them. -/
namespace Go.Proofs.YtippccamjlfafaaGreatDoor
open Go Go.Proofs Go.Proofs.Sv Go.Proofs.Xv Go.Proofs.Xl Go.Proofs.Xd
theorem app1_ok {i : Nat} (h : i ≤ 30) : (i + 1 ≤ 9223372036854775807 ∧ (i + 1) * 16 ≤ 140737488355328) ∧ True := ⟨⟨by omega, by omega⟩, trivial⟩
theorem r69 (l : List Y152) (d : Y41) (hl : wf (.sl y152) l) (hd : wf y41 d) (md : cnt y41 d ≤ 1048576) : u69 l d = some (designOk l d) := by
  have hi0 := hd.1.1
  have hp0 := hd.2.2.1
  have mi : d.1.length ≤ 1048576 := cnt_len (cnt_fst md)
  have mn : d.2.1.length ≤ 1048576 := cnt_len (cnt_fst (cnt_snd md))
  have mp : d.2.2.length ≤ 1048576 := cnt_len (cnt_snd (cnt_snd md))
  show _ = some (designB _ _ _ _ _ _ _ _ _)
  unfold u69
  rw [r113 l hl, r114 l d hl hd, vl_some, vl_some, gd_pos ⟨rfl, fun _ => rfl, trivial⟩]
  by_cases hgo : libOk l = true ∧ d.1.length ≤ 14 ∧ d.2.1.length ≤ 30 ∧ d.2.2.length ≤ 8 ∧ ((List.range d.1.length).any fun i => !instB l.length (pinsAt l) d.2.1.length (insOf d i)) = false ∧ ((List.range d.2.2.length).any fun i => !portB d.2.1.length (prtOf d i)) = false
  · obtain ⟨hlo, h14, h30, h8, hia, hpa⟩ := hgo
    have a1 : decide (14 < (d.1.length : Int)) = false := decide_eq_false (by omega)
    have a2 : decide (30 < (d.2.1.length : Int)) = false := decide_eq_false (by omega)
    have a3 : decide (8 < (d.2.2.length : Int)) = false := decide_eq_false (by omega)
    rw [hlo, a1, a2, a3, hia, hpa]
    refine (if_neg (by simp)).trans ?_
    have hpin : ∀ y, inB y 0 ((l.length : Int) - 1) = true → 2 ≤ pinsAt l y := fun y hy => (lib_pins hlo hy).1
    have hall : ∀ i, i < d.1.length → instB l.length (pinsAt l) d.2.1.length (insOf d i) = true := fun i hi => by
      have := (not_any (n := d.1.length) (c := fun i => !instB l.length (pinsAt l) d.2.1.length (insOf d i))).1 (by rw [hia]; rfl) i hi
      rwa [Bool.not_eq_false'] at this
    have hpall : ∀ i, i < d.2.2.length → portB d.2.1.length (prtOf d i) = true := fun i hi => by
      have := (not_any (n := d.2.2.length) (c := fun i => !portB d.2.1.length (prtOf d i))).1 (by rw [hpa]; rfl) i hi
      rwa [Bool.not_eq_false'] at this
    have k10 : ∀ v : List Int, v.length ≤ 9223372036854775807 → u69J6 v = some (v.all (· == 1)) := fun v hv => by
      rw [u69J6]
      have key := lp_all (n := v.length) hv (fun i => v.getD i 0 != 1) (some false) (e := some true) (F := u69L10 v) (fun g i hi => by
        refine (all_el hi hv ⟨⟨by omega, by omega⟩, by rw [Int.toNat_natCast]; exact hi, trivial⟩).trans ?_
        rfl) (fun g => all_end)
      refine key.trans ?_
      rw [any_getD v 0 (fun x => x != 1), ← ones_any]
      cases v.any fun x => x != 1 <;> rfl
    have k7 : ∀ v : List Int, lowAt v d.2.1.length d.1.length → u69J4 d v = some ((foldN (portF (prtOf d)) d.2.2.length v).all (· == 1)) := fun v0 hlow => by
      rw [u69J4]
      have key := lp_fold (n := d.2.2.length) hp0 (fun i (v : List Int) => ((i : Int), v)) (portF (prtOf d)) (fun i v => i ≤ d.2.2.length ∧ lowAt v d.2.1.length (d.1.length + i)) (J := u69J6) (F := u69L7 d) (fun g i v hi hI => by
        have e3 : ((i : Int)).toNat = i := rfl
        have j8 : ∀ v', u69J8 (i : Int) g v' = g (((i + 1 : Nat) : Int), v') := fun v' => gd_pos ⟨⟨by omega, by omega⟩, trivial⟩
        have hnet : inB (prtOf d i).2.2 0 ((d.2.1.length : Int) - 1) = true := by
          have := hpall i hi
          unfold portB at this
          rw [Bool.and_eq_true] at this
          exact this.2
        refine (if_pos (by simpa using hi)).trans ?_
        rw [e3, gd_pos ⟨⟨by omega, by omega⟩, trivial⟩, j8]
        show (if ((prtOf d i).2.1 == 1) = true then _ else _) = g (_, portF (prtOf d) i v)
        unfold portF
        by_cases k1 : (prtOf d i).2.1 = 1
        · rw [if_pos (beq_iff_eq.2 k1), if_pos k1]
          refine (gd_pos ⟨⟨by omega, by omega⟩, inc_ok hI.2 (by omega) hnet⟩).trans ?_
          rw [lt_eq]
          exact j8 _
        · rw [if_neg (by simpa using k1), if_neg k1]) (fun i v hi hI => ⟨by omega, by
        unfold portF
        split
        · exact lowAt_inc hI.2 _
        · exact lowAt_up hI.2 (by omega)⟩) (fun g v _ => all_end) v0 ⟨by omega, hlow⟩
      refine key.trans (k10 _ ?_)
      have : ∀ n, (foldN (portF (prtOf d)) n v0).length = v0.length := by
        intro n
        induction n with
        | zero => rfl
        | succ n ih =>
          rw [foldN]
          unfold portF
          split
          · unfold incAt; rw [List.length_set]; exact ih
          · exact ih
      rw [this, hlow.1]; omega
    have k5 : lp (u69L5 d) ((0 : Int), List.replicate d.2.1.length 0) = some ((driveN d.1.length d.2.2.length d.2.1.length (insOf d) (prtOf d)).all (· == 1)) := by
      have key := lp_fold (n := d.1.length) hi0 (fun i (v : List Int) => ((i : Int), v)) (instF (insOf d)) (fun i v => i ≤ d.1.length ∧ lowAt v d.2.1.length i) (J := u69J4 d) (F := u69L5 d) (fun g i v hi hI => by
        have e3 : ((i : Int)).toNat = i := rfl
        have hx := wf_el (d := dflt y141) hi hd.1
        obtain ⟨g1, g2⟩ := inst_nets (hall i hi) hpin
        have hlen : (insOf d i).2.2.length ≤ 9223372036854775807 := hx.2.2.1
        refine (if_pos (by simpa using hi)).trans ?_
        rw [e3, gd_pos ⟨⟨by omega, by omega⟩, trivial⟩, lt_eq, toNat_pred g1, gd_pos ⟨(pred_ok g1 hlen).1, (pred_ok g1 hlen).2, inc_ok hI.2 (by omega) g2⟩, lt_eq, gd_pos ⟨⟨by omega, by omega⟩, trivial⟩]
        rfl) (fun i v hi hI => ⟨by omega, lowAt_inc hI.2 _⟩) (fun g v _ => all_end) (List.replicate d.2.1.length 0) ⟨by omega, lowAt_rep _ _⟩
      refine key.trans (k7 _ (instF_low _ _ _))
    have hn1 : wf (.sl .str) (d.1.map fun c : Y141 => c.1) := wf_map hi0 fun x hx => (hd.1.2 x hx).1
    have hn2 : wf (.sl .str) (d.2.2.map fun c : Y143 => c.1) := wf_map hp0 fun x hx => (hd.2.2.2 x hx).1
    have k2 : ∀ v z : List ByteArray, wf (.sl .str) v → wf (.sl .str) z → u69J2 d v z = some ((namesB v.length fun i => v.getD i (dflt .str)) && (namesB z.length fun i => z.getD i (dflt .str)) && namesB d.2.1.length (fun i => d.2.1.getD i (dflt .str)) && (driveN d.1.length d.2.2.length d.2.1.length (insOf d) (prtOf d)).all (· == 1)) := fun v z hv hz => by
      rw [u69J2, r115 _ hv, r115 _ hz, r115 _ hd.2.1, vl_some, vl_some, vl_some, gd_pos ⟨rfl, fun _ => rfl, fun _ => rfl, trivial⟩, gd_pos (rep_ok mn (by decide)), Int.toNat_natCast, k5]
      cases (namesB v.length fun i => v.getD i (dflt .str)) <;> cases (namesB z.length fun i => z.getD i (dflt .str)) <;> cases namesB d.2.1.length (fun i => d.2.1.getD i (dflt .str)) <;> rfl
    have k3 : ∀ v : List ByteArray, wf (.sl .str) v → u69J0 d v = some ((namesB v.length fun i => v.getD i (dflt .str)) && namesB d.2.2.length (fun i => (prtOf d i).1) && namesB d.2.1.length (fun i => d.2.1.getD i (dflt .str)) && (driveN d.1.length d.2.2.length d.2.1.length (insOf d) (prtOf d)).all (· == 1)) := fun v hv => by
      rw [u69J0]
      have key := lp_fold (n := d.2.2.length) hp0 (fun i (s : List ByteArray) => ((i : Int), s)) (gath fun i => (prtOf d i).1) (fun i s => s.length = i) (J := u69J2 d v) (F := u69L3 d v) (fun g i s hi hI => by
        have e3 : ((i : Int)).toNat = i := rfl
        refine (if_pos (by simpa using hi)).trans ?_
        rw [e3, gd_pos ⟨⟨by omega, by omega⟩, ⟨by show s.length + 1 ≤ _; omega, by show (s.length + 1) * 16 ≤ _; omega⟩, trivial⟩, gd_pos ⟨⟨by omega, by omega⟩, trivial⟩]
        rfl) (fun i s hi hI => by unfold gath; rw [List.length_append, hI]; rfl) (fun g s _ => all_end) [] rfl
      refine key.trans ?_
      rw [gath_row d.2.2 (dflt y143) (fun c : Y143 => c.1), k2 _ _ hv hn2, names_map d.2.2 (fun c : Y143 => c.1) (dflt y143)]
    have key := lp_fold (n := d.1.length) hi0 (fun i (s : List ByteArray) => ((i : Int), s)) (gath fun i => (insOf d i).1) (fun i s => s.length = i) (J := u69J0 d) (F := u69L1 d) (fun g i s hi hI => by
      have e3 : ((i : Int)).toNat = i := rfl
      refine (if_pos (by simpa using hi)).trans ?_
      rw [e3, gd_pos ⟨⟨by omega, by omega⟩, ⟨by show s.length + 1 ≤ _; omega, by show (s.length + 1) * 16 ≤ _; omega⟩, trivial⟩, gd_pos ⟨⟨by omega, by omega⟩, trivial⟩]
      rfl) (fun i s hi hI => by unfold gath; rw [List.length_append, hI]; rfl) (fun g s _ => all_end) [] rfl
    refine key.trans ?_
    rw [gath_row d.1 (dflt y141) (fun c : Y141 => c.1), k3 _ hn1, names_map d.1 (fun c : Y141 => c.1) (dflt y141)]
    unfold designB
    rw [hia, hpa, decide_eq_true h14, decide_eq_true h30, decide_eq_true h8]
    cases namesB d.1.length (fun i => (insOf d i).1) <;> cases namesB d.2.1.length (fun i => d.2.1.getD i (dflt .str)) <;> cases namesB d.2.2.length (fun i => (prtOf d i).1) <;> rfl
  · have e0 : (!libOk l || decide (14 < (d.1.length : Int)) || decide (30 < (d.2.1.length : Int)) || decide (8 < (d.2.2.length : Int)) || !(!((List.range d.1.length).any fun i => !instB l.length (pinsAt l) d.2.1.length (insOf d i)) && !((List.range d.2.2.length).any fun i => !portB d.2.1.length (prtOf d i)))) = true := by
      rw [← Bool.not_eq_false]
      intro hc
      simp only [Bool.or_eq_false_iff, Bool.not_eq_false', decide_eq_false_iff_not, Bool.and_eq_true, Bool.not_eq_true'] at hc
      exact hgo ⟨hc.1.1.1.1, by omega, by omega, by omega, hc.2.1, hc.2.2⟩
    refine (if_pos e0).trans ?_
    refine congrArg some ?_
    symm
    rw [← Bool.not_eq_true]
    intro hc
    unfold designB at hc
    simp only [Bool.and_eq_true, decide_eq_true_eq, Bool.not_eq_true'] at hc
    obtain ⟨⟨⟨⟨⟨⟨⟨⟨⟨c1, c2⟩, c3⟩, c4⟩, _⟩, _⟩, _⟩, c5⟩, c6⟩, _⟩ := hc
    exact hgo ⟨c1, c2, c3, c4, c5, c6⟩
end Go.Proofs.YtippccamjlfafaaGreatDoor
end
section
/- Places and sinks. -/
namespace Go.Proofs.Xd
open Go Go.Proofs.Sv Go.Proofs.Xv Go.Proofs.Xl
def sinkF (pl : Nat → DPlace) (i : Nat) (v : List Int) : List Int := if (pl i).2.2.2 = false then incAt v (pl i).2.2.1 else v
def cntP (pl : Nat → DPlace) (t : Int) (m : Nat) : Int := foldN (fun i s => if ((pl i).2.2.1 == t && !(pl i).2.2.2) = true then s + 1 else s) m 0
theorem cntP_le (pl : Nat → DPlace) (t : Int) : ∀ m, 0 ≤ cntP pl t m ∧ cntP pl t m ≤ m
  | 0 => ⟨Int.le_refl _, Int.le_refl _⟩
  | m + 1 => by
    have := cntP_le pl t m
    unfold cntP at *
    rw [foldN]
    split <;> omega
theorem sink_fold (pl : Nat → DPlace) (n : Nat) : ∀ m, (∀ i, i < m → inB (pl i).2.2.1 0 ((n : Int) - 1) = true) → (foldN (sinkF pl) m (List.replicate n 0)).length = n ∧ ∀ k : Nat, k < n → (foldN (sinkF pl) m (List.replicate n 0)).getD k 0 = cntP pl k m
  | 0, _ => ⟨by simp [foldN], fun k hk => by
    show (List.replicate n (0 : Int)).getD k 0 = 0
    rw [List.getD_eq_getElem?_getD, List.getElem?_replicate, if_pos hk]; rfl⟩
  | m + 1, h => by
    obtain ⟨h1, h2⟩ := sink_fold pl n m (fun i hi => h i (by omega))
    have h3 := inB_iff.1 (h m (by omega))
    rw [foldN]
    generalize foldN (sinkF pl) m (List.replicate n 0) = v at *
    unfold sinkF
    have e : ∀ k : Nat, cntP pl k (m + 1) = if ((pl m).2.2.1 == (k : Int) && !(pl m).2.2.2) = true then cntP pl k m + 1 else cntP pl k m := fun k => by unfold cntP; rw [foldN]
    cases hd : (pl m).2.2.2 with
    | true =>
      refine ⟨by rw [if_neg (by simp)]; exact h1, fun k hk => ?_⟩
      rw [if_neg (by simp), h2 k hk, e, hd, if_neg (by simp)]
    | false =>
      rw [if_pos rfl]
      unfold incAt
      refine ⟨by rw [List.length_set]; exact h1, fun k hk => ?_⟩
      rw [e, hd, List.getD_eq_getElem?_getD, List.getElem?_set]
      by_cases hk' : (pl m).2.2.1.toNat = k
      · rw [if_pos hk', if_pos (by rw [h1]; omega), if_pos (by simp; omega), Option.getD_some, hk', h2 k hk]
      · rw [if_neg hk', if_neg (by simp; omega), ← List.getD_eq_getElem?_getD, h2 k hk]
def sinkL (pl : Nat → DPlace) (t : Int) (i : Nat) (s : List Int) : List Int := if ((pl i).2.2.1 == t && !(pl i).2.2.2) = true then s ++ [(i : Int)] else s
theorem sinkL_len (pl : Nat → DPlace) (t : Int) : ∀ m, ((foldN (sinkL pl t) m []).length : Int) = cntP pl t m
  | 0 => rfl
  | m + 1 => by
    have := sinkL_len pl t m
    rw [foldN]
    unfold cntP at *
    rw [foldN]
    unfold sinkL at *
    split
    · rw [List.length_append]
      show ((_ + 1 : Nat) : Int) = _
      omega
    · exact this
def netsIn (n : Nat) (s : List DPlace) : Prop := ∀ p ∈ s, inB p.2.2.1 0 ((n : Int) - 1) = true
theorem instP_in {n : Nat} {x : DInst} {i : Int} (hx : ∀ k, k < x.2.2.length → inB (x.2.2.getD k 0) 0 ((n : Int) - 1) = true) {s : List DPlace} (hs : netsIn n s) : ∀ k, k ≤ x.2.2.length → netsIn n (foldN (instP x i) k s)
  | 0, _ => hs
  | k + 1, hk => by
    rw [foldN, instP]
    intro p hp
    rcases List.mem_append.1 hp with h | h
    · exact instP_in hx hs k (by omega) p h
    · cases List.mem_singleton.1 h
      exact hx k (by omega)
theorem placesF_in {n : Nat} {x : Nat → DInst} {ni : Nat} (hx : ∀ i, i < ni → ∀ k, k < (x i).2.2.length → inB ((x i).2.2.getD k 0) 0 ((n : Int) - 1) = true) : ∀ i, i ≤ ni → netsIn n (foldN (placesF x) i [])
  | 0, _ => fun p hp => by cases hp
  | i + 1, hi => by
    rw [foldN, placesF]
    exact instP_in (hx i (by omega)) (placesF_in hx i (by omega)) _ (Nat.le_refl _)
theorem portP_in {n : Nat} {y : Nat → DPort} {np : Nat} (hy : ∀ i, i < np → inB (y i).2.2 0 ((n : Int) - 1) = true) {s : List DPlace} (hs : netsIn n s) : ∀ k, k ≤ np → netsIn n (foldN (portP y) k s)
  | 0, _ => hs
  | k + 1, hk => by
    rw [foldN, portP]
    intro p hp
    rcases List.mem_append.1 hp with h | h
    · exact portP_in hy hs k (by omega) p h
    · cases List.mem_singleton.1 h
      exact hy k (by omega)
theorem placesF_len {x : Nat → DInst} {ni : Nat} (hx : ∀ i, i < ni → (x i).2.2.length ≤ 5) : ∀ i, i ≤ ni → (foldN (placesF x) i []).length ≤ 5 * i
  | 0, _ => Nat.le_refl _
  | i + 1, hi => by
    rw [foldN, placesF, instP_len]
    have := placesF_len hx i (by omega)
    have := hx i (by omega)
    omega
theorem getD_mem {α : Type} {l : List α} {i : Nat} {d : α} (h : i < l.length) : l.getD i d ∈ l := by
  rw [List.getD_eq_getElem?_getD, List.getElem?_eq_getElem h]
  exact List.getElem_mem h
theorem all_getD {l : List Int} {p : Int → Bool} (h : l.all p = true) {i : Nat} (hi : i < l.length) : p (l.getD i 0) = true := List.all_eq_true.1 h _ (getD_mem hi)
/-- What a valid design tells. -/
structure DesignFacts (nc : Nat) (pins : Int → Nat) (ni np nn : Nat) (x : Nat → DInst) (y : Nat → DPort) : Prop where
  ni14 : ni ≤ 14
  np8 : np ≤ 8
  nn30 : nn ≤ 30
  inst : ∀ i, i < ni → instB nc pins nn (x i) = true
  port : ∀ i, i < np → portB nn (y i) = true
theorem design_facts {lib : Bool} {nc : Nat} {pins : Int → Nat} {ni np nn : Nat} {x : Nat → DInst} {y : Nat → DPort} {nets : Nat → ByteArray} (h : designB lib nc pins ni np nn x y nets = true) : lib = true ∧ DesignFacts nc pins ni np nn x y := by
  unfold designB at h
  simp only [Bool.and_eq_true, decide_eq_true_eq] at h
  obtain ⟨⟨⟨⟨⟨⟨⟨⟨⟨c1, c2⟩, c3⟩, c4⟩, _⟩, _⟩, _⟩, c5⟩, c6⟩, _⟩ := h
  refine ⟨c1, c2, c4, c3, fun i hi => ?_, fun i hi => ?_⟩
  · have := not_any.1 c5 i hi
    rwa [Bool.not_eq_false'] at this
  · have := not_any.1 c6 i hi
    rwa [Bool.not_eq_false'] at this
theorem DesignFacts.net {nc : Nat} {pins : Int → Nat} {ni np nn : Nat} {x : Nat → DInst} {y : Nat → DPort} (h : DesignFacts nc pins ni np nn x y) : (∀ i, i < ni → ∀ k, k < (x i).2.2.length → inB ((x i).2.2.getD k 0) 0 ((nn : Int) - 1) = true) ∧ ∀ i, i < np → inB (y i).2.2 0 ((nn : Int) - 1) = true := by
  refine ⟨fun i hi k hk => ?_, fun i hi => ?_⟩
  · have := h.inst i hi
    unfold instB at this
    rw [Bool.and_eq_true] at this
    exact all_getD (p := fun y => inB y 0 ((nn : Int) - 1)) this.2 hk
  · have := h.port i hi
    unfold portB at this
    rw [Bool.and_eq_true] at this
    exact this.2
end Go.Proofs.Xd
end
section
/- Wires and places: what the program's functions and the reference's say of them. -/
namespace Go.Proofs.YtippccamjlfafaaGreatDoor
open Go Go.Proofs Go.Proofs.Sv Go.Proofs.Xv Go.Proofs.Xl Go.Proofs.Xd
abbrev treeBad (w : Y131) (i : Nat) : Bool := (i == 0 && (w.1.getD i 0 != -1 || w.2.1.getD 0 0 != 0)) || (decide (0 < i) && !inB (w.1.getD i 0) 0 ((i : Int) - 1))
theorem r126 (w : Y131) (hw : wf y131 w) (hl : w.2.1.length = w.1.length) : u126 w = some (!(List.range w.1.length).any (treeBad w)) := by
  have h := hw.1.1
  have key := lp_all (n := w.1.length) h (treeBad w) (some false) (e := some true) (F := u126L1 w) (fun g i hi => by
    have e3 : ((i : Int)).toNat = i := rfl
    have e0 : ((i : Int) == 0) = (i == 0) := by rw [Bool.eq_iff_iff, beq_iff_eq, beq_iff_eq]; omega
    have e2 : decide ((0 : Int) < (i : Int)) = decide (0 < i) := by rw [decide_eq_decide]; omega
    refine (if_pos (by simpa using hi)).trans ?_
    rw [e3, e0, e2, r87, vl_some, gd_pos ⟨⟨by omega, by omega⟩, trivial⟩, gd_pos ⟨fun _ => ⟨by omega, by omega⟩, fun _ => ⟨by omega, by omega⟩, fun _ => rfl, trivial⟩, gd_pos ⟨⟨by omega, by omega⟩, trivial⟩]
    rfl) (fun g => all_end)
  refine key.trans ?_
  cases (List.range w.1.length).any (treeBad w) <;> rfl
theorem r79 (w : Y131) (n : Int) (hw : wf y131 w) : u79 w n = some (wireB w n) := by
  obtain ⟨⟨h1, _⟩, ⟨h2, _⟩, ⟨h3, _⟩, h4, _⟩ := id hw
  have e : ∀ xs : List Int, u96 xs = some (xs.length : Int) := fun _ => rfl
  unfold u79
  rw [e, e, e, e]
  repeat rw [vl_some]
  rw [gd_pos ⟨rfl, trivial⟩, lt_eq, r87, r127 _ _ _ h2, r127 _ _ _ h3, r127 _ _ _ h4]
  repeat rw [vl_some]
  by_cases hgo : (inB (w.1.length : Int) 1 8 && (w.2.1.length : Int) == (w.1.length : Int) && (w.2.2.1.length : Int) == (w.1.length : Int)) = true
  · have hg := hgo
    simp only [Bool.and_eq_true, beq_iff_eq, inB_iff] at hg
    rw [r126 w hw (by omega), vl_some, gd_pos ⟨rfl, fun _ => rfl, fun _ => rfl, fun _ => rfl, fun _ => rfl, fun _ => rfl, fun _ => rfl, fun _ => ⟨by omega, by omega⟩, fun _ => rfl, trivial⟩, lt_eq]
    refine congrArg some ?_
    rw [hgo]
    unfold wireB
    rw [decide_eq_true (show 1 ≤ w.1.length by omega), decide_eq_true (show w.1.length ≤ 8 by omega), decide_eq_true (show w.2.1.length = w.1.length by omega), decide_eq_true (show w.2.2.1.length = w.1.length by omega)]
    cases (List.range w.1.length).any (treeBad w) <;> cases w.2.1.all (inB · 0 1000) <;> cases w.2.2.1.all (inB · 0 500) <;> cases (w.2.2.2.length : Int) == n <;> cases w.2.2.2.all (inB · 0 ((w.1.length : Int) - 1)) <;> rfl
  · have hg : (inB (w.1.length : Int) 1 8 && (w.2.1.length : Int) == (w.1.length : Int) && (w.2.2.1.length : Int) == (w.1.length : Int)) = false := by simpa using hgo
    rw [hg, gd_pos ⟨rfl, fun _ => rfl, fun _ => rfl, fun hc => by simp at hc, fun hc => by simp at hc, fun hc => by simp at hc, fun hc => by simp at hc, fun hc => by simp at hc, fun hc => by simp at hc, trivial⟩, lt_eq]
    refine congrArg some ?_
    rw [hg]
    simp only [Bool.false_and]
    symm
    rw [← Bool.not_eq_true]
    intro hc
    unfold wireB at hc
    simp only [Bool.and_eq_true, decide_eq_true_eq] at hc
    refine hgo ?_
    simp only [Bool.and_eq_true, beq_iff_eq, inB_iff]
    omega
theorem r70 (w : Y131) (n : Int) (hw : wf y131 w) : u70 w n = some (wireB w n) := by
  obtain ⟨⟨h1, _⟩, ⟨h2, _⟩, ⟨h3, _⟩, h4, _⟩ := id hw
  unfold u70
  by_cases hgo : 1 ≤ w.1.length ∧ w.1.length ≤ 8 ∧ w.2.1.length = w.1.length ∧ w.2.2.1.length = w.1.length ∧ (w.2.2.2.length : Int) = n
  · obtain ⟨g1, g2, g3, g4, g5⟩ := hgo
    have e0 : (decide ((w.1.length : Int) < 1) || decide (8 < (w.1.length : Int)) || (w.2.1.length : Int) != (w.1.length : Int) || (w.2.2.1.length : Int) != (w.1.length : Int) || (w.2.2.2.length : Int) != n) = false := by
      rw [← Bool.not_eq_true]; simp; omega
    refine (if_neg (by rw [e0]; simp)).trans ?_
    have k3 := lp_all (n := w.2.2.2.length) h4 (fun i => !inB (w.2.2.2.getD i 0) 0 ((w.1.length : Int) - 1)) (some false) (e := some true) (F := u70L3 w) (fun g i hi => all_el hi h4 ⟨⟨by omega, by omega⟩, ⟨by omega, by omega⟩, rfl, trivial⟩) (fun g => all_end)
    rw [any_getD w.2.2.2 0 (fun x => !inB x 0 ((w.1.length : Int) - 1))] at k3
    have k1 := lp_all (n := w.1.length) h1 (fun i => (!inB (w.2.2.1.getD i 0) 0 500 || !inB (w.2.1.getD i 0) 0 1000) || treeBad w i) (some false) (e := u70J0 w ()) (F := u70L1 w) (fun g i hi => by
      have e3 : ((i : Int)).toNat = i := rfl
      have e0 : ((i : Int) == 0) = (i == 0) := by rw [Bool.eq_iff_iff, beq_iff_eq, beq_iff_eq]; omega
      have e2 : decide ((0 : Int) < (i : Int)) = decide (0 < i) := by rw [decide_eq_decide]; omega
      refine (if_pos (by simpa using hi)).trans ?_
      rw [e3, e0, e2, r42, r42, r42]
      repeat rw [vl_some]
      rw [gd_pos ⟨⟨by omega, by omega⟩, rfl, fun _ => ⟨by omega, by omega⟩, fun _ => rfl, trivial⟩, gd_pos ⟨fun _ => ⟨by omega, by omega⟩, fun _ => ⟨by omega, by omega⟩, fun _ => ⟨by omega, by omega⟩, fun _ => ⟨by omega, by omega⟩, fun _ => rfl, trivial⟩, gd_pos ⟨⟨by omega, by omega⟩, trivial⟩]
      have e4 : (i == 0 && (w.1.getD i 0 != -1 || w.2.1.getD i 0 != 0) || decide (0 < i) && !inB (w.1.getD i 0) 0 ((i : Int) - 1)) = treeBad w i := by
        unfold treeBad
        cases i with
        | zero => rfl
        | succ i => rfl
      rw [e4]
      cases (!inB (w.2.2.1.getD i 0) 0 500 || !inB (w.2.1.getD i 0) 0 1000) <;> rfl) (fun g => all_end)
    refine k1.trans ?_
    rw [any_or, any_or]
    have a1 := any_getD w.2.2.1 0 (fun x => !inB x 0 500)
    have a2 := any_getD w.2.1 0 (fun x => !inB x 0 1000)
    rw [g4] at a1
    rw [g3] at a2
    rw [a1, a2]
    unfold u70J0
    rw [k3]
    unfold wireB
    rw [decide_eq_true g1, decide_eq_true g2, decide_eq_true g3, decide_eq_true g4, beq_iff_eq.2 g5, ← all_any, ← all_any, ← all_any]
    cases (List.range w.1.length).any (treeBad w) <;> cases w.2.1.any (fun x => !inB x 0 1000) <;> cases w.2.2.1.any (fun x => !inB x 0 500) <;> cases w.2.2.2.any (fun x => !inB x 0 ((w.1.length : Int) - 1)) <;> rfl
  · have e0 : (decide ((w.1.length : Int) < 1) || decide (8 < (w.1.length : Int)) || (w.2.1.length : Int) != (w.1.length : Int) || (w.2.2.1.length : Int) != (w.1.length : Int) || (w.2.2.2.length : Int) != n) = true := by
      rw [← Bool.not_eq_false]
      intro hc
      simp only [Bool.or_eq_false_iff, decide_eq_false_iff_not, bne_eq_false_iff_eq] at hc
      exact hgo ⟨by omega, by omega, by omega, by omega, hc.2⟩
    refine (if_pos e0).trans ?_
    refine congrArg some ?_
    symm
    rw [← Bool.not_eq_true]
    intro hc
    unfold wireB at hc
    simp only [Bool.and_eq_true, decide_eq_true_eq, beq_iff_eq] at hc
    exact hgo ⟨by omega, by omega, by omega, by omega, hc.1.1.1.1.2⟩
/-! ### Places -/
abbrev insOf' (d : Y41) (i : Nat) : Y141 := d.1.getD i (dflt y141)
abbrev prtOf' (d : Y41) (i : Nat) : Y143 := d.2.2.getD i (dflt y143)
theorem plc_ok {k : Nat} (h : k ≤ 78) : (k + 1 ≤ 9223372036854775807 ∧ (k + 1) * 32 ≤ 140737488355328) := ⟨by omega, by omega⟩
theorem r37 (d : Y41) (hd : wf y41 d) (h14 : d.1.length ≤ 14) (h8 : d.2.2.length ≤ 8) (h5 : ∀ i, i < d.1.length → 1 ≤ (insOf d i).2.2.length ∧ (insOf d i).2.2.length ≤ 5) : u37 d = some (placesN d.1.length d.2.2.length (insOf d) (prtOf d)) := by
  have hi0 := hd.1.1
  have hp0 := hd.2.2.1
  unfold u37
  have k5 : ∀ s : List Y81, s.length ≤ 70 → u37J0 d s = some (foldN (portP (prtOf d)) d.2.2.length s) := fun s0 hs => by
    rw [u37J0]
    exact lp_fold (n := d.2.2.length) hp0 (fun i (s : List Y81) => ((i : Int), s)) (portP (prtOf d)) (fun i s => s.length = s0.length + i) (J := fun s => some s) (F := u37L5 d) (fun g i s hi hI => by
      have e3 : ((i : Int)).toNat = i := rfl
      refine (if_pos (by simpa using hi)).trans ?_
      rw [e3, gd_pos ⟨⟨by omega, by omega⟩, trivial⟩, lt_eq, gd_pos ⟨⟨by show s.length + 1 ≤ _; omega, by show (s.length + 1) * 32 ≤ _; omega⟩, trivial⟩, gd_pos ⟨⟨by omega, by omega⟩, trivial⟩]
      rfl) (fun i s hi hI => by unfold portP; rw [List.length_append, hI]; rfl) (fun g s _ => all_end) s0 rfl
  have key := lp_fold (n := d.1.length) hi0 (fun i (s : List Y81) => (s, (i : Int))) (placesF (insOf d)) (fun i s => s.length ≤ 5 * i) (J := u37J0 d) (F := u37L1 d) (fun g i s hi hI => by
    have e3 : ((i : Int)).toNat = i := rfl
    have hx := (h5 i hi).2
    have hn : (insOf d i).2.2.length ≤ 9223372036854775807 := by omega
    refine (if_pos (by simpa using hi)).trans ?_
    rw [e3, gd_pos ⟨⟨by omega, by omega⟩, trivial⟩, lt_eq]
    have inner := lp_fold (n := (insOf d i).2.2.length) hn (fun k (s : List Y81) => ((k : Int), s)) (instP (insOf d i) i) (fun k z => z.length = s.length + k) (J := u37J2 (i : Int) g) (F := u37L3 (i : Int) (insOf d i) g) (fun g3 k z hk hz => by
      have e4 : ((k : Int)).toNat = k := rfl
      refine (if_pos (by simpa using hk)).trans ?_
      rw [e4, gd_pos ⟨⟨by omega, by omega⟩, trivial⟩, gd_pos ⟨⟨by omega, by omega⟩, ⟨by show z.length + 1 ≤ _; omega, by show (z.length + 1) * 32 ≤ _; omega⟩, trivial⟩, lt_eq]
      exact gd_pos ⟨⟨by omega, by omega⟩, trivial⟩) (fun k z hk hz => by unfold instP; rw [List.length_append, hz]; rfl) (fun g3 z _ => all_end) s rfl
    refine inner.trans ?_
    exact gd_pos ⟨⟨by omega, by omega⟩, trivial⟩) (fun i s hi hI => by
    have hx := (h5 i hi).2
    unfold placesF
    rw [instP_len]
    have hI' : s.length ≤ 5 * i := hI
    omega) (fun g s _ => all_end) [] (Nat.zero_le _)
  refine key.trans (k5 _ ?_)
  have := placesF_len (x := insOf d) (ni := d.1.length) (fun i hi => (h5 i hi).2) d.1.length (Nat.le_refl _)
  omega
theorem r72 (d : Y41) (hd : wf y41 d) (h14 : d.1.length ≤ 14) (h8 : d.2.2.length ≤ 8) (h5 : ∀ i, i < d.1.length → 1 ≤ (insOf d i).2.2.length ∧ (insOf d i).2.2.length ≤ 5) : u72 d = some (placesN d.1.length d.2.2.length (insOf d) (prtOf d)) := by
  have hi0 := hd.1.1
  have hp0 := hd.2.2.1
  unfold u72
  have k5 : ∀ s : List Y163, s.length ≤ 70 → u72J0 d s = some (foldN (portP (prtOf d)) d.2.2.length s) := fun s0 hs => by
    rw [u72J0]
    exact lp_fold (n := d.2.2.length) hp0 (fun i (s : List Y163) => ((i : Int), s)) (portP (prtOf d)) (fun i s => s.length = s0.length + i) (J := fun s => some s) (F := u72L5 d) (fun g i s hi hI => by
      have e3 : ((i : Int)).toNat = i := rfl
      refine (if_pos (by simpa using hi)).trans ?_
      rw [e3, gd_pos ⟨⟨by omega, by omega⟩, ⟨by omega, by omega⟩, ⟨by show s.length + 1 ≤ _; omega, by show (s.length + 1) * 32 ≤ _; omega⟩, trivial⟩, lt_eq]
      exact gd_pos ⟨⟨by omega, by omega⟩, trivial⟩) (fun i s hi hI => by unfold portP; rw [List.length_append, hI]; rfl) (fun g s _ => all_end) s0 rfl
  have key := lp_fold (n := d.1.length) hi0 (fun i (s : List Y163) => ((i : Int), s)) (placesF (insOf d)) (fun i s => s.length ≤ 5 * i) (J := u72J0 d) (F := u72L1 d) (fun g i s hi hI => by
    have e3 : ((i : Int)).toNat = i := rfl
    have hx := (h5 i hi).2
    have hn : (insOf d i).2.2.length ≤ 9223372036854775807 := by omega
    refine (if_pos (by simpa using hi)).trans ?_
    rw [e3, gd_pos ⟨⟨by omega, by omega⟩, trivial⟩, lt_eq]
    have inner := lp_fold (n := (insOf d i).2.2.length) hn (fun k (s : List Y163) => ((k : Int), s)) (instP (insOf d i) i) (fun k z => z.length = s.length + k) (J := u72J2 (i : Int) g) (F := u72L3 (i : Int) (insOf d i) g) (fun g3 k z hk hz => by
      have e4 : ((k : Int)).toNat = k := rfl
      refine (if_pos (by simpa using hk)).trans ?_
      rw [e4, gd_pos ⟨⟨by omega, by omega⟩, ⟨by omega, by omega⟩, ⟨by show z.length + 1 ≤ _; omega, by show (z.length + 1) * 32 ≤ _; omega⟩, trivial⟩, lt_eq]
      exact gd_pos ⟨⟨by omega, by omega⟩, trivial⟩) (fun k z hk hz => by unfold instP; rw [List.length_append, hz]; rfl) (fun g3 z _ => all_end) s rfl
    refine inner.trans ?_
    exact gd_pos ⟨⟨by omega, by omega⟩, trivial⟩) (fun i s hi hI => by
    have hx := (h5 i hi).2
    unfold placesF
    rw [instP_len]
    have hI' : s.length ≤ 5 * i := hI
    omega) (fun g s _ => all_end) [] (Nat.zero_le _)
  refine key.trans (k5 _ ?_)
  have := placesF_len (x := insOf d) (ni := d.1.length) (fun i hi => (h5 i hi).2) d.1.length (Nat.le_refl _)
  omega
end Go.Proofs.YtippccamjlfafaaGreatDoor
end
section
/- Blocks: what the program's functions and the reference's say of them. -/
namespace Go.Proofs.YtippccamjlfafaaGreatDoor
open Go Go.Proofs Go.Proofs.Sv Go.Proofs.Xv Go.Proofs.Xl Go.Proofs.Xd
abbrev plcs (d : Y41) : List DPlace := placesN d.1.length d.2.2.length (insOf d) (prtOf d)
abbrev plcOf (d : Y41) (i : Nat) : DPlace := (plcs d).getD i (dflt y81)
abbrev wirOf (b : Y44) (i : Nat) : Y131 := b.2.2.getD i (dflt y131)
def blockOk (b : Y44) : Bool := designOk b.1 b.2.1 && decide (b.2.2.length = b.2.1.2.1.length) && !(List.range b.2.2.length).any fun i => !wireB (wirOf b i) (cntP (plcOf b.2.1) i (plcs b.2.1).length)
structure DF (l : List Y152) (d : Y41) : Prop where
  lib : libOk l = true
  fac : DesignFacts l.length (pinsAt l) d.1.length d.2.2.length d.2.1.length (insOf d) (prtOf d)
  pin : ∀ i, i < d.1.length → 1 ≤ (insOf d i).2.2.length ∧ (insOf d i).2.2.length ≤ 5
  plc : netsIn d.2.1.length (plcs d)
  len : (plcs d).length ≤ 78
theorem df_of {l : List Y152} {d : Y41} (h : designOk l d = true) : DF l d := by
  obtain ⟨h1, h2⟩ := design_facts h
  have hp : ∀ i, i < d.1.length → 1 ≤ (insOf d i).2.2.length ∧ (insOf d i).2.2.length ≤ 5 := fun i hi => by
    have hin := h2.inst i hi
    have g1 := (inst_nets hin (fun y hy => (lib_pins h1 hy).1)).1
    unfold instB at hin
    simp only [Bool.and_eq_true, beq_iff_eq] at hin
    have := (lib_pins h1 hin.1.1).2
    exact ⟨g1, by omega⟩
  have hn := h2.net
  refine ⟨h1, h2, hp, portP_in hn.2 (placesF_in hn.1 d.1.length (Nat.le_refl _)) d.2.2.length (Nat.le_refl _), ?_⟩
  have := placesF_len (x := insOf d) (ni := d.1.length) (fun i hi => (hp i hi).2) d.1.length (Nat.le_refl _)
  have h14 := h2.ni14
  have h8 := h2.np8
  unfold plcs placesN
  rw [portP_len]
  omega
theorem r35 (b : Y44) (hw : wf y44 b) (hm : cnt y44 b ≤ 1048576) : u35 b = some (blockOk b) := by
  have hl := hw.1
  have hd := hw.2.1
  have h0 := hw.2.2.1
  have mw : b.2.2.length ≤ 1048576 := cnt_len (cnt_snd (cnt_snd hm))
  unfold u35 blockOk
  rw [r78 b.1 b.2.1 hl hd (cnt_fst hm) (cnt_fst (cnt_snd hm)), vl_some, gd_pos ⟨rfl, trivial⟩]
  cases hdo : designOk b.1 b.2.1 with
  | false => exact if_pos rfl
  | true =>
    have df := df_of hdo
    by_cases hlen : b.2.2.length = b.2.1.2.1.length
    · have e0 : ((b.2.2.length : Int) != (b.2.1.2.1.length : Int)) = false := by rw [hlen]; simp
      rw [e0, decide_eq_true hlen]
      refine (if_neg (by simp)).trans ?_
      rw [gd_pos (rep_ok mw (by decide)), Int.toNat_natCast, r37 b.2.1 hd df.fac.ni14 df.fac.np8 df.pin, vl_some, gd_pos ⟨rfl, trivial⟩, lt_eq]
      have hpl : (plcs b.2.1).length ≤ 9223372036854775807 := by have := df.len; omega
      have hin : ∀ i, i < (plcs b.2.1).length → inB (plcOf b.2.1 i).2.2.1 0 ((b.2.2.length : Int) - 1) = true := fun i hi => by
        rw [hlen]; exact df.plc _ (getD_mem hi)
      have key := lp_fold (n := (plcs b.2.1).length) hpl (fun i (v : List Int) => ((i : Int), v)) (sinkF (plcOf b.2.1)) (fun i v => i ≤ (plcs b.2.1).length ∧ lowAt v b.2.2.length i) (J := u35J0 b) (F := u35L1 (plcs b.2.1) b) (fun g i v hi hI => by
        have e3 : ((i : Int)).toNat = i := rfl
        have j2 : ∀ v', u35J2 (i : Int) g v' = g (((i + 1 : Nat) : Int), v') := fun v' => gd_pos ⟨⟨by omega, by omega⟩, trivial⟩
        refine (if_pos (by simpa using hi)).trans ?_
        rw [e3, gd_pos ⟨⟨by omega, by omega⟩, hi, trivial⟩, lt_eq, j2]
        show (if (!(plcOf b.2.1 i).2.2.2) = true then _ else _) = g (_, sinkF (plcOf b.2.1) i v)
        unfold sinkF
        cases hdr : (plcOf b.2.1 i).2.2.2 with
        | true => rfl
        | false =>
          refine (if_pos rfl).trans ?_
          refine (gd_pos (inc_ok hI.2 (by have := df.len; omega) (hin i hi))).trans ?_
          rw [lt_eq]
          exact j2 _) (fun i v hi hI => ⟨by omega, by
        unfold sinkF
        split
        · exact lowAt_inc hI.2 _
        · exact lowAt_up hI.2 (by omega)⟩) (fun g v _ => all_end) (List.replicate b.2.2.length 0) ⟨by omega, lowAt_rep _ _⟩
      refine key.trans ?_
      obtain ⟨s1, s2⟩ := sink_fold (plcOf b.2.1) b.2.2.length (plcs b.2.1).length hin
      generalize foldN (sinkF (plcOf b.2.1)) (plcs b.2.1).length (List.replicate b.2.2.length 0) = v at *
      rw [u35J0]
      have key2 := lp_all (n := b.2.2.length) h0 (fun i => !wireB (wirOf b i) (cntP (plcOf b.2.1) i (plcs b.2.1).length)) (some false) (e := some true) (F := u35L4 v b) (fun g i hi => by
        have e3 : ((i : Int)).toNat = i := rfl
        refine (if_pos (by simpa using hi)).trans ?_
        rw [e3, gd_pos ⟨⟨by omega, by omega⟩, trivial⟩, lt_eq, s2 i hi, r79 _ _ (wf_el hi hw.2.2), vl_some, gd_pos ⟨⟨by omega, by omega⟩, by omega, rfl, trivial⟩, gd_pos ⟨⟨by omega, by omega⟩, trivial⟩]) (fun g => all_end)
      refine key2.trans ?_
      cases (List.range b.2.2.length).any fun i => !wireB (wirOf b i) (cntP (plcOf b.2.1) i (plcs b.2.1).length) <;> rfl
    · have e0 : ((b.2.2.length : Int) != (b.2.1.2.1.length : Int)) = true := by simp; omega
      rw [e0, decide_eq_false hlen]
      exact if_pos rfl
theorem r71 (d : Y41) (hd : wf y41 d) {l : List Y152} (df : DF l d) (t : Int) : u71 d t = some (foldN (sinkL (plcOf d) t) (plcs d).length []) := by
  have hl := df.len
  unfold u71
  rw [r72 d hd df.fac.ni14 df.fac.np8 df.pin, vl_some, gd_pos ⟨rfl, trivial⟩, lt_eq]
  exact lp_fold (n := (plcs d).length) (by omega) (fun i (s : List Int) => ((i : Int), s)) (sinkL (plcOf d) t) (fun i s => s.length ≤ i) (J := fun s => some s) (F := u71L1 (plcs d) t) (fun g i s hi hI => by
    have e3 : ((i : Int)).toNat = i := rfl
    have j2 : ∀ s', u71J2 (i : Int) g s' = g (((i + 1 : Nat) : Int), s') := fun v' => gd_pos ⟨⟨by omega, by omega⟩, trivial⟩
    refine (if_pos (by simpa using hi)).trans ?_
    have hI' : s.length ≤ i := hI
    rw [e3, gd_pos ⟨⟨by omega, by omega⟩, hi, fun _ => ⟨by omega, by omega⟩, fun _ => hi, trivial⟩, gd_pos ⟨⟨by show s.length + 1 ≤ _; omega, by show (s.length + 1) * 8 ≤ _; omega⟩, trivial⟩, j2, j2]
    show _ = g (_, sinkL (plcOf d) t i s)
    unfold sinkL
    show (if ((plcOf d i).2.2.1 == t && !(plcOf d i).2.2.2) = true then _ else _) = _
    split <;> rfl) (fun i s hi hI => by
    have hI' : s.length ≤ i := hI
    unfold sinkL
    split
    · rw [List.length_append]; show s.length + 1 ≤ i + 1; omega
    · omega) (fun g s _ => all_end) [] (Nat.le_refl _)
theorem r30 (b : Y44) (hw : wf y44 b) (hm : cnt y44 b ≤ 1048576) : u30 b = some (blockOk b) := by
  have hl := hw.1
  have hd := hw.2.1
  have h0 := hw.2.2.1
  unfold u30 blockOk
  rw [r69 b.1 b.2.1 hl hd (cnt_fst (cnt_snd hm)), vl_some, gd_pos ⟨rfl, trivial⟩]
  cases hdo : designOk b.1 b.2.1 with
  | false => exact if_pos rfl
  | true =>
    have df := df_of hdo
    by_cases hlen : b.2.2.length = b.2.1.2.1.length
    · have e0 : ((b.2.2.length : Int) != (b.2.1.2.1.length : Int)) = false := by rw [hlen]; simp
      rw [e0, decide_eq_true hlen]
      refine (if_neg (by simp)).trans ?_
      have key2 := lp_all (n := b.2.2.length) h0 (fun i => !wireB (wirOf b i) (cntP (plcOf b.2.1) i (plcs b.2.1).length)) (some false) (e := some true) (F := u30L1 b) (fun g i hi => by
        have e3 : ((i : Int)).toNat = i := rfl
        refine (if_pos (by simpa using hi)).trans ?_
        rw [e3, r71 b.2.1 hd df, vl_some, sinkL_len, r70 _ _ (wf_el hi hw.2.2), gd_pos ⟨⟨by omega, by omega⟩, rfl, rfl, trivial⟩, lt_eq, sinkL_len, r70 _ _ (wf_el hi hw.2.2), vl_some, gd_pos ⟨⟨by omega, by omega⟩, trivial⟩]) (fun g => all_end)
      refine key2.trans ?_
      cases (List.range b.2.2.length).any fun i => !wireB (wirOf b i) (cntP (plcOf b.2.1) i (plcs b.2.1).length) <;> rfl
    · have e0 : ((b.2.2.length : Int) != (b.2.1.2.1.length : Int)) = true := by simp; omega
      rw [e0, decide_eq_false hlen]
      exact if_pos rfl
theorem block_design {b : Y44} (h : blockOk b = true) : designOk b.1 b.2.1 = true ∧ b.2.2.length = b.2.1.2.1.length ∧ ∀ i, i < b.2.2.length → wireB (wirOf b i) (cntP (plcOf b.2.1) i (plcs b.2.1).length) = true := by
  unfold blockOk at h
  rw [Bool.and_eq_true, Bool.and_eq_true, decide_eq_true_eq] at h
  refine ⟨h.1.1, h.1.2, fun i hi => ?_⟩
  have := not_any.1 h.2 i hi
  rwa [Bool.not_eq_false'] at this
end Go.Proofs.YtippccamjlfafaaGreatDoor
end
