/- Edits: the states, the codes, the law. -/
import Derived.Test.YtkmmjamclcdjkaaGreatDoorWC
namespace Go.Proofs.YtkmmjamclcdjkaaGreatDoor
open Go Go.Proofs Go.Proofs.Sv Go.Proofs.Xv Go.Proofs.Xl Go.Proofs.Xd
def lastX (b : Y50) : Y109 := insOf b.2.1 (b.2.1.1.length - 1)
def lastW (b : Y50) : Y52 := wirOf b (b.2.2.length - 1)
def lastQ (b : Y50) : Bool := bufV (celI b (b.2.1.1.length - 1)) && (lastX b).2.2.getD 1 0 == (b.2.2.length : Int) - 1 && decide (b.2.1.2.1.getD (b.2.2.length - 1) (dflt .str) = (lastX b).1) && !((lastX b).2.2.getD 0 0 == (b.2.2.length : Int) - 1)
def lastV (b : Y50) : Bool := if b.2.1.1.length = 0 then false else if lastQ b = true then ((lastW b).2.2.2.length : Int) == 1 && ((lastW b).1.length : Int) == 1 && (lastW b).2.2.1.getD 0 0 == 0 else false
theorem last_facts {b : Y50} (o : BOk b) (h0 : ¬ b.2.1.1.length = 0) : ix (lastX b).2.1 b.1.length ∧ (bufV (celI b (b.2.1.1.length - 1)) = true → (lastX b).2.2.length = 2 ∧ 0 ≤ (lastX b).2.2.getD 1 0) := by
  obtain ⟨x1, x2, x3⟩ := inst_cell' o.df (i := b.2.1.1.length - 1) (by omega)
  refine ⟨x1, fun hb => ?_⟩
  have h2 : (celI b (b.2.1.1.length - 1)).2.2.1.length = 2 := by
    unfold bufV at hb
    rw [Bool.and_eq_true, beq_iff_eq, beq_iff_eq] at hb
    have := hb.2
    omega
  have h3 : (lastX b).2.2.length = 2 := x3.trans h2
  exact ⟨h3, (inB_iff.1 (o.df.fac.net.1 (b.2.1.1.length - 1) (by omega) 1 (by show 1 < (lastX b).2.2.length; omega))).1⟩
theorem r101 (w : Y52) (h : w.2.2.1.length = w.1.length) : u101 w = some ((w.1.length : Int) == 1 && w.2.2.1.getD 0 0 == 0) := by
  unfold u101
  exact gd_pos ⟨(fun h1 => ⟨by omega, by have := beq_iff_eq.1 h1.1; omega⟩), trivial⟩
theorem bool_or4 (a b c d : Bool) : (!a || !b || !c || d) = !(a && b && c && !d) := by cases a <;> cases b <;> cases c <;> cases d <;> rfl
theorem bool_or4' (a b c d : Bool) : (!a || !b || d || !c) = !(a && b && c && !d) := by cases a <;> cases b <;> cases c <;> cases d <;> rfl
theorem r67 (b : Y50) (hw : wf y50 b) (o : BOk b) : u67 b = some (lastV b) := by
  have h30 := o.n30
  have h14 := o.df.fac.ni14
  have hn := o.nets
  unfold u67 lastV
  rw [gd_pos ⟨⟨by omega, by omega⟩, trivial⟩, gd_pos ⟨⟨by omega, by omega⟩, trivial⟩]
  by_cases h0 : b.2.1.1.length = 0
  · rw [if_pos h0]
    exact if_pos (decide_eq_true (by omega))
  · rw [if_neg h0]
    obtain ⟨x1, x2⟩ := last_facts o h0
    refine (if_neg (by simp; omega)).trans ?_
    have e1 : ((b.2.1.1.length : Int) - 1).toNat = b.2.1.1.length - 1 := by omega
    have e2 : ((b.2.2.length : Int) - 1).toNat = b.2.2.length - 1 := by omega
    rw [gd_pos ⟨⟨by omega, by omega⟩, trivial⟩, lt_eq, e1, e2]
    show gd (ix (lastX b).2.1 b.1.length ∧ (u63 (celI b (b.2.1.1.length - 1))).isSome = true ∧ ((!vl (u63 (celI b (b.2.1.1.length - 1)))) = false ∧ True → ix 1 (lastX b).2.2.length) ∧ ((!vl (u63 (celI b (b.2.1.1.length - 1))) || (lastX b).2.2.getD 1 0 != (b.2.2.length : Int) - 1) = false ∧ True → ix ((b.2.2.length : Int) - 1) b.2.1.2.1.length) ∧ ((!vl (u63 (celI b (b.2.1.1.length - 1))) || (lastX b).2.2.getD 1 0 != (b.2.2.length : Int) - 1 || !decide (b.2.1.2.1.getD (b.2.2.length - 1) (dflt .str) = (lastX b).1)) = false ∧ True → ix 0 (lastX b).2.2.length) ∧ True) (lt (!vl (u63 (celI b (b.2.1.1.length - 1))) || (lastX b).2.2.getD 1 0 != (b.2.2.length : Int) - 1 || !decide (b.2.1.2.1.getD (b.2.2.length - 1) (dflt .str) = (lastX b).1) || (lastX b).2.2.getD 0 0 == (b.2.2.length : Int) - 1) fun v1 => _) = _
    rw [r63, vl_some]
    have k1 : (!bufV (celI b (b.2.1.1.length - 1))) = false → (lastX b).2.2.length = 2 ∧ 0 ≤ (lastX b).2.2.getD 1 0 := fun h => x2 (by simpa using h)
    rw [gd_pos ⟨x1, rfl, (fun h => ⟨by omega, by have := (k1 h.1).1; omega⟩), (fun h => by
      have h2 := (Bool.or_eq_false_iff.1 h.1)
      have h3 := k1 h2.1
      have h4 := bne_eq_false_iff_eq.1 h2.2
      exact ⟨by omega, by omega⟩), (fun h => ⟨by omega, by have := (k1 (Bool.or_eq_false_iff.1 (Bool.or_eq_false_iff.1 h.1).1).1).1; omega⟩), trivial⟩, lt_eq]
    unfold bne
    rw [bool_or4]
    show (if (!lastQ b) = true then some false else _) = _
    cases hq : lastQ b with
    | false => rfl
    | true =>
      refine (if_neg (by simp)).trans ?_
      rw [if_pos rfl]
      have hq' := hq
      unfold lastQ at hq'
      simp only [Bool.and_eq_true, beq_iff_eq] at hq'
      have h3 := x2 hq'.1.1.1
      have h4 := hq'.1.1.2
      have no := o.wire (b.2.2.length - 1) (by omega)
      have hsn := no.sn
      have e5 : (((b.2.2.length - 1 : Nat)) : Int) = (b.2.2.length : Int) - 1 := by omega
      rw [e5] at hsn
      have es : u59 b.2.1 ((b.2.2.length : Int) - 1) = some (sinksV b.2.1 ((b.2.2.length : Int) - 1)) := r59 b.2.1 hw.2.1 o.df _
      rw [es, vl_some]
      rw [r101 (wirOf b (b.2.2.length - 1)) no.wf.cap, vl_some, gd_pos ⟨rfl, (fun _ => ⟨by omega, by omega⟩), (fun _ => rfl), trivial⟩, lt_eq, ← hsn]
      show some (((lastW b).2.2.2.length : Int) == 1 && (((lastW b).1.length : Int) == 1 && (lastW b).2.2.1.getD 0 0 == 0)) = _
      rw [Bool.and_assoc]
theorem r123 (b : Y50) (o : BOk b) : u123 b = some (lastV b) := by
  have h30 := o.n30
  have h14 := o.df.fac.ni14
  have hn := o.nets
  have eS : u128 b.2.1.2.1 = some (b.2.2.length : Int) := by rw [hn]; rfl
  unfold u123 lastV
  by_cases h0 : b.2.1.1.length = 0
  · rw [if_pos h0]
    exact if_pos (by simp [h0])
  · rw [if_neg h0]
    obtain ⟨x1, x2⟩ := last_facts o h0
    refine (if_neg (by rw [beq_iff_eq]; omega)).trans ?_
    have e1 : ((b.2.1.1.length : Int) - 1).toNat = b.2.1.1.length - 1 := by omega
    have e2 : ((b.2.2.length : Int) - 1).toNat = b.2.2.length - 1 := by omega
    rw [gd_pos ⟨⟨by omega, by omega⟩, ⟨by omega, by omega⟩, trivial⟩, lt_eq, e1, eS, vl_some, gd_pos ⟨rfl, ⟨by omega, by omega⟩, trivial⟩, lt_eq, e2]
    show gd (ix (lastX b).2.1 b.1.length ∧ (u119 (celI b (b.2.1.1.length - 1))).isSome = true ∧ ((!vl (u119 (celI b (b.2.1.1.length - 1)))) = false ∧ True → ix 1 (lastX b).2.2.length) ∧ ((!vl (u119 (celI b (b.2.1.1.length - 1))) || (lastX b).2.2.getD 1 0 != (b.2.2.length : Int) - 1) = false ∧ True → ix 0 (lastX b).2.2.length) ∧ ((!vl (u119 (celI b (b.2.1.1.length - 1))) || (lastX b).2.2.getD 1 0 != (b.2.2.length : Int) - 1 || (lastX b).2.2.getD 0 0 == (b.2.2.length : Int) - 1) = false ∧ True → ix ((b.2.2.length : Int) - 1) b.2.1.2.1.length) ∧ True) (if (!vl (u119 (celI b (b.2.1.1.length - 1))) || (lastX b).2.2.getD 1 0 != (b.2.2.length : Int) - 1 || (lastX b).2.2.getD 0 0 == (b.2.2.length : Int) - 1 || !decide (b.2.1.2.1.getD (b.2.2.length - 1) (dflt .str) = (lastX b).1)) = true then some false else _) = _
    rw [r119, vl_some]
    have k1 : (!bufV (celI b (b.2.1.1.length - 1))) = false → (lastX b).2.2.length = 2 ∧ 0 ≤ (lastX b).2.2.getD 1 0 := fun h => x2 (by simpa using h)
    rw [gd_pos ⟨x1, rfl, (fun h => ⟨by omega, by have := (k1 h.1).1; omega⟩), (fun h => ⟨by omega, by have := (k1 (Bool.or_eq_false_iff.1 h.1).1).1; omega⟩), (fun h => by
      have h2 := (Bool.or_eq_false_iff.1 (Bool.or_eq_false_iff.1 h.1).1)
      have h3 := k1 h2.1
      have h4 := bne_eq_false_iff_eq.1 h2.2
      exact ⟨by omega, by omega⟩), trivial⟩]
    unfold bne
    rw [bool_or4']
    show (if (!lastQ b) = true then some false else _) = _
    cases hq : lastQ b with
    | false => rfl
    | true =>
      refine (if_neg (by simp)).trans ?_
      rw [if_pos rfl]
      have hq' := hq
      unfold lastQ at hq'
      simp only [Bool.and_eq_true, beq_iff_eq] at hq'
      have h3 := x2 hq'.1.1.1
      have h4 := hq'.1.1.2
      have no := o.wire (b.2.2.length - 1) (by omega)
      have hc := no.wf.cap
      have hc : (lastW b).2.2.1.length = (lastW b).1.length := hc
      rw [gd_pos ⟨⟨by omega, by omega⟩, trivial⟩, lt_eq]
      show gd (((((lastW b).2.2.2.length : Int) == 1 && ((lastW b).1.length : Int) == 1) = true ∧ True → ix 0 (lastW b).2.2.1.length) ∧ True) (some (((lastW b).2.2.2.length : Int) == 1 && ((lastW b).1.length : Int) == 1 && (lastW b).2.2.1.getD 0 0 == 0)) = _
      exact gd_pos ⟨(fun h => ⟨by omega, by have := beq_iff_eq.1 (Bool.and_eq_true _ _ ▸ h.1).2; omega⟩), trivial⟩
/-! ### States -/
def plE (b : Y50) (e : Y54) : DPlace := plcOf b.2.1 e.2.1.toNat
def stateV (b : Y50) (e : Y54) : Bool :=
  if (e.1 == 1) = true then decide (0 ≤ (plE b e).1) && (plE b e).2.2.2 && alikeV (b.1.getD (insOf b.2.1 (plE b e).1.toNat).2.1.toNat (dflt y107)) (b.1.getD e.2.2.1.toNat (dflt y107))
  else if (e.1 == 2) = true then !(plE b e).2.2.2 && bufV (b.1.getD e.2.2.1.toNat (dflt y107)) && nmB e.2.2.2.2.2.1 && decide (insN b.2.1 e.2.2.2.2.2.1 < 0) && decide (netN b.2.1 e.2.2.2.2.2.1 < 0)
  else if (e.1 == 3) = true then lastV b
  else if (e.1 == 4) = true then !(plE b e).2.2.2 && (plE b e).2.2.1 != e.2.2.2.1
  else wireB e.2.2.2.2.2.2 ((sinksV b.2.1 e.2.2.2.1).length : Int)
theorem pl_ix {b : Y50} {e : Y54} (h : inB e.2.1 0 (plN b - 1) = true) : ix e.2.1 (plcs b.2.1).length ∧ e.2.1.toNat < (plcs b.2.1).length := by
  have := inB_iff.1 h
  unfold plN at this
  exact ⟨⟨by omega, by omega⟩, by omega⟩
theorem ce_ix {b : Y50} {x : Int} (h : inB x 0 ((b.1.length : Int) - 1) = true) : ix x b.1.length := by
  have := inB_iff.1 h
  exact ⟨by omega, by omega⟩
theorem ce_pin {b : Y50} (o : BOk b) {x : Int} (h : ix x b.1.length) : (b.1.getD x.toNat (dflt y107)).2.2.1.length ≤ 9223372036854775807 := by
  have h1 : x.toNat < b.1.length := by have := h.1; have := h.2; omega
  have := (cell_arcs (lib_cell' o.df.lib h1)).2.1
  have : (b.1.getD x.toNat (dflt y107)).2.2.1.length ≤ 5 := this
  omega
theorem pl_inst {b : Y50} (o : BOk b) {e : Y54} (h : e.2.1.toNat < (plcs b.2.1).length) (h0 : 0 ≤ (plE b e).1) : ix (plE b e).1 b.2.1.1.length ∧ ix (insOf b.2.1 (plE b e).1.toNat).2.1 b.1.length := by
  rcases plc_pin o.df (plc_mem h) with h1 | ⟨h1, h2, h3, h4, _⟩
  · have h1 : (plE b e).1 = -1 := h1.1
    omega
  · have h1 : 0 ≤ (plE b e).1 := h1
    have h2 : (plE b e).1.toNat < b.2.1.1.length := h2
    have h3 : 0 ≤ (insOf b.2.1 (plE b e).1.toNat).2.1 := h3
    have h4 : (insOf b.2.1 (plE b e).1.toNat).2.1.toNat < b.1.length := h4
    exact ⟨⟨h1, by omega⟩, ⟨h3, by omega⟩⟩
theorem range_1 {b : Y50} {e : Y54} (hr : rangeV b e = true) (h : (e.1 == 1 || e.1 == 2) = true) : inB e.2.1 0 (plN b - 1) = true ∧ inB e.2.2.1 0 ((b.1.length : Int) - 1) = true := by
  unfold rangeV at hr
  rw [if_pos h, Bool.and_eq_true] at hr
  exact hr
theorem range_4 {b : Y50} {e : Y54} (hr : rangeV b e = true) (h : e.1 = 4) : inB e.2.1 0 (plN b - 1) = true := by
  unfold rangeV at hr
  rw [if_neg (by rw [h]; decide), if_pos (by rw [h]; decide), Bool.and_eq_true, Bool.and_eq_true] at hr
  exact hr.1.1
theorem range_5 {b : Y50} {e : Y54} (hr : rangeV b e = true) (h : e.1 = 5) : inB e.2.2.2.1 0 ((b.2.2.length : Int) - 1) = true := by
  unfold rangeV at hr
  rw [if_neg (by rw [h]; decide), if_neg (by rw [h]; decide), if_pos (by rw [h]; decide)] at hr
  exact hr
theorem r29 (b : Y50) (hw : wf y50 b) (o : BOk b) (e : Y54) (he : wf y54 e) (hr : rangeV b e = true) (hk : inB e.1 1 5 = true) : u29 b e = some (stateV b e) := by
  have hk := inB_iff.1 hk
  unfold u29 stateV
  rw [r60 b.2.1 hw.2.1 o.df.fac.ni14 o.df.fac.np8 o.df.pin, vl_some, gd_pos ⟨rfl, trivial⟩, lt_eq]
  by_cases h1 : (e.1 == 1) = true
  · rw [if_pos h1, if_pos h1]
    obtain ⟨r1, r2⟩ := range_1 hr (by rw [h1]; rfl)
    have p1 := pl_ix r1
    have c1 := ce_ix r2
    rw [gd_pos ⟨p1.1, p1.2, trivial⟩, lt_eq]
    show gd (((decide (0 ≤ (plE b e).1) && (plE b e).2.2.2) = true ∧ True → ix (plE b e).1 b.2.1.1.length) ∧ ((decide (0 ≤ (plE b e).1) && (plE b e).2.2.2) = true ∧ True → ix (insOf b.2.1 (plE b e).1.toNat).2.1 b.1.length) ∧ ((decide (0 ≤ (plE b e).1) && (plE b e).2.2.2) = true ∧ True → ix e.2.2.1 b.1.length) ∧ ((decide (0 ≤ (plE b e).1) && (plE b e).2.2.2) = true ∧ True → (u62 (b.1.getD (insOf b.2.1 (plE b e).1.toNat).2.1.toNat (dflt y107)) (b.1.getD e.2.2.1.toNat (dflt y107))).isSome = true) ∧ True) (some (decide (0 ≤ (plE b e).1) && (plE b e).2.2.2 && vl (u62 (b.1.getD (insOf b.2.1 (plE b e).1.toNat).2.1.toNat (dflt y107)) (b.1.getD e.2.2.1.toNat (dflt y107))))) = _
    cases hc : (decide (0 ≤ (plE b e).1) && (plE b e).2.2.2) with
    | false => exact gd_pos ⟨(fun h => by cases h.1), (fun h => by cases h.1), (fun h => by cases h.1), (fun h => by cases h.1), trivial⟩
    | true =>
      rw [Bool.and_eq_true, decide_eq_true_eq] at hc
      have q := pl_inst o p1.2 hc.1
      rw [r62 _ _ (ce_pin o q.2), vl_some]
      exact gd_pos ⟨(fun _ => q.1), (fun _ => q.2), (fun _ => c1), (fun _ => rfl), trivial⟩
  rw [if_neg h1, if_neg h1]
  by_cases h2 : (e.1 == 2) = true
  · rw [if_pos h2, if_pos h2]
    obtain ⟨r1, r2⟩ := range_1 hr (by rw [h2]; simp)
    have p1 := pl_ix r1
    have c1 := ce_ix r2
    have h14 := o.df.fac.ni14
    have h30 := o.df.fac.nn30
    rw [r63, vl_some, r64 _ he.2.2.2.2.2.1, vl_some, r65 _ _ (by omega), vl_some, r66 _ _ (by omega), vl_some, gd_pos ⟨p1.1, p1.2, (fun _ => c1), (fun _ => rfl), (fun _ => rfl), (fun _ => rfl), (fun _ => rfl), trivial⟩, lt_eq]
    rfl
  rw [if_neg h2, if_neg h2]
  by_cases h3 : (e.1 == 3) = true
  · rw [if_pos h3, if_pos h3, r67 b hw o, vl_some]
    exact gd_pos ⟨rfl, trivial⟩
  rw [if_neg h3, if_neg h3]
  by_cases h4 : (e.1 == 4) = true
  · rw [if_pos h4, if_pos h4]
    have p1 := pl_ix (range_4 hr (beq_iff_eq.1 h4))
    exact gd_pos ⟨p1.1, p1.2, (fun _ => p1.1), (fun _ => p1.2), trivial⟩
  rw [if_neg h4, if_neg h4]
  have es : u59 b.2.1 e.2.2.2.1 = some (sinksV b.2.1 e.2.2.2.1) := r59 b.2.1 hw.2.1 o.df _
  rw [es, vl_some, r58 _ _ he.2.2.2.2.2.2, gd_pos ⟨rfl, rfl, trivial⟩, lt_eq, r58 _ _ he.2.2.2.2.2.2, vl_some]
theorem r77 (b : Y50) (hw : wf y50 b) (o : BOk b) (e : Y54) (he : wf y54 e) (hr : rangeV b e = true) (hk : inB e.1 1 5 = true) : u77 e b = some (stateV b e) := by
  have hk := inB_iff.1 hk
  unfold u77 stateV
  rw [r74 b.2.1 hw.2.1 o.df.fac.ni14 o.df.fac.np8 o.df.pin, vl_some, gd_pos ⟨rfl, trivial⟩, lt_eq]
  by_cases h1 : (e.1 == 1) = true
  · rw [if_pos h1, if_pos h1]
    obtain ⟨r1, r2⟩ := range_1 hr (by rw [h1]; rfl)
    have p1 := pl_ix r1
    have c1 := ce_ix r2
    rw [gd_pos ⟨p1.1, p1.2, trivial⟩, lt_eq]
    show gd (((decide (0 ≤ (plE b e).1) && (plE b e).2.2.2) = true ∧ True → ix (plE b e).1 b.2.1.1.length) ∧ ((decide (0 ≤ (plE b e).1) && (plE b e).2.2.2) = true ∧ True → ix (insOf b.2.1 (plE b e).1.toNat).2.1 b.1.length) ∧ ((decide (0 ≤ (plE b e).1) && (plE b e).2.2.2) = true ∧ True → ix e.2.2.1 b.1.length) ∧ ((decide (0 ≤ (plE b e).1) && (plE b e).2.2.2) = true ∧ True → (u118 (b.1.getD (insOf b.2.1 (plE b e).1.toNat).2.1.toNat (dflt y107)) (b.1.getD e.2.2.1.toNat (dflt y107))).isSome = true) ∧ True) (some (decide (0 ≤ (plE b e).1) && (plE b e).2.2.2 && vl (u118 (b.1.getD (insOf b.2.1 (plE b e).1.toNat).2.1.toNat (dflt y107)) (b.1.getD e.2.2.1.toNat (dflt y107))))) = _
    cases hc : (decide (0 ≤ (plE b e).1) && (plE b e).2.2.2) with
    | false => exact gd_pos ⟨(fun h => by cases h.1), (fun h => by cases h.1), (fun h => by cases h.1), (fun h => by cases h.1), trivial⟩
    | true =>
      rw [Bool.and_eq_true, decide_eq_true_eq] at hc
      have q := pl_inst o p1.2 hc.1
      rw [r118 _ _ (ce_pin o q.2), vl_some]
      exact gd_pos ⟨(fun _ => q.1), (fun _ => q.2), (fun _ => c1), (fun _ => rfl), trivial⟩
  rw [if_neg h1, if_neg h1]
  by_cases h2 : (e.1 == 2) = true
  · rw [if_pos h2, if_pos h2]
    obtain ⟨r1, r2⟩ := range_1 hr (by rw [h2]; simp)
    have p1 := pl_ix r1
    have c1 := ce_ix r2
    have h14 := o.df.fac.ni14
    have h30 := o.df.fac.nn30
    rw [r119, vl_some, r120 _ he.2.2.2.2.2.1, vl_some, r121 _ _ (by omega), vl_some, r122 _ _ (by omega), vl_some, gd_pos ⟨p1.1, p1.2, (fun _ => c1), (fun _ => rfl), (fun _ => rfl), (fun _ => rfl), (fun _ => rfl), trivial⟩, lt_eq]
    rfl
  rw [if_neg h2, if_neg h2]
  by_cases h3 : (e.1 == 3) = true
  · rw [if_pos h3, if_pos h3, r123 b o, vl_some]
    exact gd_pos ⟨rfl, trivial⟩
  rw [if_neg h3, if_neg h3]
  by_cases h4 : (e.1 == 4) = true
  · rw [if_pos h4, if_pos h4]
    have p1 := pl_ix (range_4 hr (beq_iff_eq.1 h4))
    exact gd_pos ⟨p1.1, p1.2, (fun _ => p1.1), (fun _ => p1.2), trivial⟩
  rw [if_neg h4, if_neg h4]
  have h5 : e.1 = 5 := by
    simp only [beq_iff_eq] at h1 h2 h3 h4
    omega
  have hn := inB_iff.1 (range_5 hr h5)
  have no := o.wire e.2.2.2.1.toNat (by omega)
  have hsn := no.sn
  have e6 : ((e.2.2.2.1.toNat : Nat) : Int) = e.2.2.2.1 := by omega
  rw [e6] at hsn
  have eI : u110 (wirOf b e.2.2.2.1.toNat).2.2.2 = some ((sinksV b.2.1 e.2.2.2.1).length : Int) := by rw [← hsn]; rfl
  rw [eI, vl_some, r75 _ _ he.2.2.2.2.2.2, vl_some]
  exact gd_pos ⟨⟨by omega, by omega⟩, rfl, rfl, trivial⟩
/-! ### Codes -/
def codeV (b : Y50) (e : Y54) : Int :=
  if blockOk b = true then (if (blankV e && rangeV b e) = true then (if stateV b e = true then (if (e.1 == 2 && ((b.2.1.1.length : Int) == 14 || (b.2.2.length : Int) == 30)) = true then 3 else 0) else 5) else 2) else 1
theorem blank_in {e : Y54} (h : blankV e = true) : inB e.1 1 5 = true := by
  rw [← blank_own, Bool.and_eq_true] at h
  exact h.1
theorem r8 (b : Y50) (hw : wf y50 b) (hm : cnt y50 b ≤ 1048576) (e : Y54) (he : wf y54 e) (hme : cnt y54 e ≤ 1048576) : u8 b e = some (codeV b e) := by
  unfold u8 codeV
  rw [r26 b hw hm, vl_some, gd_pos ⟨rfl, trivial⟩]
  cases hb : blockOk b with
  | false => rfl
  | true =>
    have o := b_ok hb
    refine (if_neg (by simp)).trans ?_
    rw [if_pos rfl, r27 e hme, vl_some, r28 b hw o e, vl_some, gd_pos ⟨rfl, (fun _ => rfl), trivial⟩]
    cases h1 : blankV e with
    | false => rfl
    | true =>
      cases h2 : rangeV b e with
      | false => rfl
      | true =>
        refine (if_neg (by simp)).trans ?_
        rw [if_pos (show (true && true) = true from rfl), r29 b hw o e he h2 (blank_in h1), vl_some, gd_pos ⟨rfl, trivial⟩]
        cases h3 : stateV b e with
        | false => rfl
        | true =>
          refine (if_neg (by simp)).trans ?_
          rw [if_pos rfl]
          split <;> rfl
theorem r11 (b : Y50) (hw : wf y50 b) (hm : cnt y50 b ≤ 1048576) (e : Y54) (he : wf y54 e) : u11 b e = some (codeV b e) := by
  unfold u11 codeV
  rw [r34 b hw hm, vl_some, gd_pos ⟨rfl, trivial⟩]
  cases hb : blockOk b with
  | false => rfl
  | true =>
    have o := b_ok hb
    have hn := o.nets
    have key : u35 e b = some (if (blankV e && rangeV b e) = true then (if stateV b e = true then (if (e.1 == 2 && ((b.2.1.1.length : Int) == 14 || (b.2.2.length : Int) == 30)) = true then 3 else 0) else 5) else 2) := by
      unfold u35
      rw [r76 b hw o e he, vl_some, gd_pos ⟨rfl, trivial⟩]
      cases h1 : blankV e with
      | false => rfl
      | true =>
        cases h2 : rangeV b e with
        | false => rfl
        | true =>
          refine (if_neg (by simp)).trans ?_
          rw [if_pos (show (true && true) = true from rfl), r77 b hw o e he h2 (blank_in h1), vl_some, gd_pos ⟨rfl, trivial⟩]
          cases h3 : stateV b e with
          | false => rfl
          | true =>
            refine (if_neg (by simp)).trans ?_
            rw [if_pos rfl, hn]
            split <;> rfl
    refine (if_neg (by simp)).trans ?_
    rw [if_pos rfl, key, vl_some, gd_pos ⟨rfl, trivial⟩, lt_eq]
theorem r3 (b : Y32) (e : Y37) (hw : wf y32 b) (he : wf y37 e) : u3 b e = some true := by
  unfold u3
  rw [z6 b 1048576 hw (by decide) (by decide), vl_some, gd_pos ⟨rfl, trivial⟩, lt_eq]
  by_cases hc : szN (cnt y32 b) 1048576 < 0
  · exact if_pos (by simpa using hc)
  · refine (if_neg (by simpa using hc)).trans ?_
    have hm : cnt y32 b ≤ 1048576 := by
      unfold szN at hc
      split at hc <;> omega
    have hv : szN (cnt y32 b) 1048576 ≤ 1048576 := by
      unfold szN
      split <;> omega
    generalize szN (cnt y32 b) 1048576 = v at hc hv
    rw [z7 e v he (by omega) (by omega), vl_some, gd_pos ⟨rfl, trivial⟩, lt_eq]
    by_cases hc2 : szN (cnt y37 e) v < 0
    · exact if_pos (by simpa using hc2)
    · refine (if_neg (by simpa using hc2)).trans ?_
      have hm2 : cnt y37 e ≤ 1048576 := by
        unfold szN at hc2
        split at hc2 <;> omega
      rw [w9 b hm, vl_some, w10 e hm2, vl_some, r8 b hw hm e he hm2, gd_pos ⟨rfl, rfl, rfl, trivial⟩, lt_eq]
      show gd _ (lt b fun v5 => gd _ (lt e fun v6 => gd _ _)) = _
      rw [gd_pos ⟨rfl, trivial⟩, lt_eq, gd_pos ⟨rfl, trivial⟩, lt_eq, r11 b hw hm e he, vl_some, gd_pos ⟨rfl, trivial⟩, lt_eq]
      refine (if_neg (by simp)).trans ?_
      rw [e12 b hm, gd_pos ⟨rfl, rfl, trivial⟩, lt_eq, e12 b hm]
      refine (if_neg (by simp [vl_some])).trans ?_
      rw [e13 e hm2, gd_pos ⟨rfl, rfl, trivial⟩, lt_eq, e13 e hm2]
      rfl
end Go.Proofs.YtkmmjamclcdjkaaGreatDoor
