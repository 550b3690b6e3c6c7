/- The links of a block. Plain facts. -/
import Derived.Test.YtippccamjlfafaaGreatDoorWC
section
/- The links of a block. Plain facts. -/
namespace Go.Proofs.Xd
open Go Go.Proofs Go.Proofs.Xl
abbrev DLink := Int × Int × Int × Int
def transV (k s : Int) : List (Int × Int) := if (k == 2) = true then [(0, 0), (0, 1)] else if (k == 3) = true then [(1, 0), (1, 1)] else if (k != 1) = true then [] else if (s == 1) = true then [(0, 0), (1, 1)] else if (s == 2) = true then [(0, 1), (1, 0)] else [(0, 0), (0, 1), (1, 0), (1, 1)]
theorem transV_ok (k s : Int) : (transV k s).length ≤ 4 ∧ ∀ t ∈ transV k s, 0 ≤ t.1 ∧ t.1 ≤ 1 ∧ 0 ≤ t.2 ∧ t.2 ≤ 1 := by
  unfold transV
  split
  · exact ⟨by decide, by decide⟩
  split
  · exact ⟨by decide, by decide⟩
  split
  · exact ⟨by decide, by decide⟩
  split
  · exact ⟨by decide, by decide⟩
  split
  · exact ⟨by decide, by decide⟩
  · exact ⟨by decide, by decide⟩
def clinkF (f a b x : Int) (tr : List (Int × Int)) (k : Nat) (s : List DLink) : List DLink := s ++ [(2 * (f + a) + (tr.getD k (0, 0)).1, 2 * (f + b) + (tr.getD k (0, 0)).2, 1, x)]
theorem clinkF_len (f a b x : Int) (tr : List (Int × Int)) (s : List DLink) : ∀ k, (foldN (clinkF f a b x tr) k s).length = s.length + k
  | 0 => rfl
  | k + 1 => by
    have := clinkF_len f a b x tr s k
    show (clinkF f a b x tr k (foldN (clinkF f a b x tr) k s)).length = _
    generalize foldN (clinkF f a b x tr) k s = z at this
    unfold clinkF
    rw [List.length_append, this]; rfl
def carcF (f : Int) (arcs : Nat → DArc) (j : Nat) (s : List DLink) : List DLink := foldN (clinkF f (arcs j).2.1 (arcs j).2.2.1 (j : Int) (transV (arcs j).1 (arcs j).2.2.2.1)) (transV (arcs j).1 (arcs j).2.2.2.1).length s
theorem carcF_len (f : Int) (arcs : Nat → DArc) (j : Nat) (s : List DLink) : (carcF f arcs j s).length ≤ s.length + 4 := by
  unfold carcF
  rw [clinkF_len]
  have := (transV_ok (arcs j).1 (arcs j).2.2.2.1).1
  omega
def cellLinksD (f : Int) (arcs : Nat → DArc) (m : Nat) : List DLink := foldN (carcF f arcs) m []
theorem cellLinksD_len (f : Int) (arcs : Nat → DArc) : ∀ m, (cellLinksD f arcs m).length ≤ 4 * m
  | 0 => Nat.le_refl _
  | m + 1 => by
    have h1 := cellLinksD_len f arcs m
    have h2 := carcF_len f arcs m (cellLinksD f arcs m)
    show (carcF f arcs m (cellLinksD f arcs m)).length ≤ _
    omega
def instLF (nets : Nat → Nat) (arcs : Nat → Nat → DArc) (ms : Nat → Nat) (i : Nat) (s : Int × List DLink) : Int × List DLink := (s.1 + (nets i : Int), s.2 ++ cellLinksD s.1 (arcs i) (ms i))
theorem instLF_in {nets : Nat → Nat} {arcs : Nat → Nat → DArc} {ms : Nat → Nat} {n : Nat} (h : ∀ i, i < n → nets i ≤ 5 ∧ ms i ≤ 8) : ∀ m, m ≤ n → 0 ≤ (foldN (instLF nets arcs ms) m (0, [])).1 ∧ (foldN (instLF nets arcs ms) m (0, [])).1 ≤ 5 * (m : Int) ∧ (foldN (instLF nets arcs ms) m (0, [])).2.length ≤ 32 * m
  | 0, _ => ⟨Int.le_refl _, Int.le_refl _, Nat.le_refl _⟩
  | m + 1, hm => by
    obtain ⟨h1, h2, h3⟩ := instLF_in h m (by omega)
    obtain ⟨h4, h5⟩ := h m (by omega)
    show 0 ≤ (instLF nets arcs ms m (foldN (instLF nets arcs ms) m (0, []))).1 ∧ (instLF nets arcs ms m (foldN (instLF nets arcs ms) m (0, []))).1 ≤ _ ∧ (instLF nets arcs ms m (foldN (instLF nets arcs ms) m (0, []))).2.length ≤ _
    generalize foldN (instLF nets arcs ms) m (0, []) = z at h1 h2 h3
    unfold instLF
    have := cellLinksD_len z.1 (arcs m) (ms m)
    refine ⟨by show 0 ≤ z.1 + (nets m : Int); omega, by show z.1 + (nets m : Int) ≤ _; omega, ?_⟩
    show (z.2 ++ cellLinksD z.1 (arcs m) (ms m)).length ≤ _
    rw [List.length_append]; omega
def gridF (pl : Nat → DPlace) (i : Nat) (s : List (List Int) × List Int) : List (List Int) × List Int := if (pl i).2.2.2 = true then (s.1, s.2.set (pl i).2.2.1.toNat (i : Int)) else (s.1.set (pl i).2.2.1.toNat (s.1.getD (pl i).2.2.1.toNat [] ++ [(i : Int)]), s.2)
def drvN (pl : Nat → DPlace) (t : Int) (m : Nat) : Int := foldN (fun i s => if ((pl i).2.2.1 == t && (pl i).2.2.2) = true then (i : Int) else s) m 0
theorem drvN_in (pl : Nat → DPlace) (t : Int) : ∀ m, 0 ≤ drvN pl t m ∧ drvN pl t m ≤ m
  | 0 => ⟨Int.le_refl _, Int.le_refl _⟩
  | m + 1 => by
    have := drvN_in pl t m
    have e : drvN pl t (m + 1) = if ((pl m).2.2.1 == t && (pl m).2.2.2) = true then (m : Int) else drvN pl t m := rfl
    rw [e]
    split <;> omega
theorem sinkL_succ (pl : Nat → DPlace) (t : Int) (m : Nat) : foldN (sinkL pl t) (m + 1) [] = if ((pl m).2.2.1 == t && !(pl m).2.2.2) = true then foldN (sinkL pl t) m [] ++ [(m : Int)] else foldN (sinkL pl t) m [] := rfl
theorem getD_set {α : Type} {l : List α} {i j : Nat} {x d : α} (hi : i < l.length) : (l.set i x).getD j d = if j = i then x else l.getD j d := by
  by_cases h : j = i
  · subst h; simp [hi]
  · rw [if_neg h]; simp [List.getD_eq_getElem?_getD, List.getElem?_set_ne (Ne.symm h)]
theorem grid_fold (pl : Nat → DPlace) (n : Nat) : ∀ m, (∀ i, i < m → inB (pl i).2.2.1 0 ((n : Int) - 1) = true) → (foldN (gridF pl) m (List.replicate n [], List.replicate n 0)).1.length = n ∧ (foldN (gridF pl) m (List.replicate n [], List.replicate n 0)).2.length = n ∧
    ∀ k : Nat, k < n → (foldN (gridF pl) m (List.replicate n [], List.replicate n 0)).1.getD k [] = foldN (sinkL pl k) m [] ∧ (foldN (gridF pl) m (List.replicate n [], List.replicate n 0)).2.getD k 0 = drvN pl k m
  | 0, _ => ⟨List.length_replicate, List.length_replicate, fun k hk => by
    constructor
    · show (List.replicate n ([] : List Int)).getD k [] = []
      rw [List.getD_eq_getElem?_getD, List.getElem?_replicate, if_pos hk]; rfl
    · show (List.replicate n (0 : Int)).getD k 0 = 0
      rw [List.getD_eq_getElem?_getD, List.getElem?_replicate, if_pos hk]; rfl⟩
  | m + 1, h => by
    obtain ⟨h1, h2, h3⟩ := grid_fold pl n m (fun i hi => h i (by omega))
    have hm := inB_iff.1 (h m (by omega))
    have e : foldN (gridF pl) (m + 1) (List.replicate n [], List.replicate n 0) = gridF pl m (foldN (gridF pl) m (List.replicate n [], List.replicate n 0)) := rfl
    rw [e]
    generalize foldN (gridF pl) m (List.replicate n [], List.replicate n 0) = z at h1 h2 h3
    have hlt : (pl m).2.2.1.toNat < n := by omega
    have ed : ∀ k : Nat, drvN pl k (m + 1) = if ((pl m).2.2.1 == (k : Int) && (pl m).2.2.2) = true then (m : Int) else drvN pl k m := fun _ => rfl
    have eq : ∀ k : Nat, ((pl m).2.2.1 == (k : Int)) = decide (k = (pl m).2.2.1.toNat) := fun k => by
      rw [Bool.eq_iff_iff, beq_iff_eq, decide_eq_true_eq]
      omega
    unfold gridF
    cases hd : (pl m).2.2.2 with
    | true =>
      rw [if_pos rfl]
      refine ⟨h1, by rw [List.length_set]; exact h2, fun k hk => ?_⟩
      rw [sinkL_succ, ed k, eq, hd]
      refine ⟨by simpa using (h3 k hk).1, ?_⟩
      show (z.2.set (pl m).2.2.1.toNat (m : Int)).getD k 0 = _
      rw [getD_set (by omega)]
      by_cases hkk : k = (pl m).2.2.1.toNat
      · simp [hkk]
      · rw [if_neg hkk, (h3 k hk).2]; simp [hkk]
    | false =>
      rw [if_neg (by simp)]
      refine ⟨by rw [List.length_set]; exact h1, h2, fun k hk => ?_⟩
      rw [sinkL_succ, ed k, eq, hd]
      refine ⟨?_, by simpa using (h3 k hk).2⟩
      show (z.1.set (pl m).2.2.1.toNat (z.1.getD (pl m).2.2.1.toNat [] ++ [(m : Int)])).getD k [] = _
      rw [getD_set (by omega)]
      by_cases hkk : k = (pl m).2.2.1.toNat
      · rw [if_pos hkk, ← hkk, (h3 k hk).1]; simp
      · rw [if_neg hkk, (h3 k hk).1]; simp [hkk]
def wlinkF (d s x : Int) (t : Nat) (z : List DLink) : List DLink := z ++ [(2 * d + (t : Int), 2 * s + (t : Int), 2, x)]
def wsinkF (d : Int) (sn : List Int) (k : Nat) (z : List DLink) : List DLink := foldN (wlinkF d (sn.getD k 0) (k : Int)) 2 z
theorem wsinkF_len (d : Int) (sn : List Int) (k : Nat) (z : List DLink) : (wsinkF d sn k z).length = z.length + 2 := by
  show ((z ++ _) ++ _).length = _
  rw [List.length_append, List.length_append]; rfl
def netLF (d : Nat → Int) (sn : Nat → List Int) (i : Nat) (z : List DLink) : List DLink := foldN (wsinkF (d i) (sn i)) (sn i).length z
theorem wsink_len (d : Int) (sn : List Int) (z : List DLink) : ∀ k, (foldN (wsinkF d sn) k z).length = z.length + 2 * k
  | 0 => rfl
  | k + 1 => by
    have := wsink_len d sn z k
    show (wsinkF d sn k (foldN (wsinkF d sn) k z)).length = _
    rw [wsinkF_len, this]; omega
def appF {α : Type} (f : Nat → α) (i : Nat) (s : List α) : List α := s ++ [f i]
end Go.Proofs.Xd
end
section
/- The links of a cell: the program's way. -/
namespace Go.Proofs.YtippccamjlfafaaGreatDoor
open Go Go.Proofs Go.Proofs.Sv Go.Proofs.Xv Go.Proofs.Xl Go.Proofs.Xd
theorem r133 (a : Y89) : u133 a = some (transV a.1 a.2.2.2.1) := by
  unfold u133 transV
  split
  · rfl
  split
  · rfl
  split
  · rfl
  split
  · rfl
  split
  · rfl
  · rfl
abbrev celI (b : Y44) (i : Nat) : Y152 := b.1.getD (insOf b.2.1 i).2.1.toNat (dflt y152)
theorem inst_cell' {b : Y44} (df : DF b.1 b.2.1) {i : Nat} (hi : i < b.2.1.1.length) : ix (insOf b.2.1 i).2.1 b.1.length ∧ cellOk isArcS (celI b i) = true ∧ (insOf b.2.1 i).2.2.length = (celI b i).2.2.1.length := by
  have := df.fac.inst i hi
  unfold instB at this
  rw [Bool.and_eq_true, Bool.and_eq_true, beq_iff_eq] at this
  have h1 := inB_iff.1 this.1.1
  have h2 := this.1.2
  have h3 : ((insOf b.2.1 i).2.2.length : Int) = ((celI b i).2.2.1.length : Int) := h2
  exact ⟨⟨h1.1, by omega⟩, lib_cell' df.lib (by omega), by omega⟩
theorem cell_arcs {c : Y152} (h : cellOk isArcS c = true) : 2 ≤ c.2.2.1.length ∧ c.2.2.1.length ≤ 5 ∧ c.2.2.2.1.length ≤ 8 ∧ ∀ j, j < c.2.2.2.1.length → 0 ≤ (arcOf c j).2.1 ∧ (arcOf c j).2.1 < (c.2.2.1.length : Int) - 1 ∧ 0 ≤ (arcOf c j).2.2.1 ∧ (arcOf c j).2.2.1 < (c.2.2.1.length : Int) := by
  have h : cellB isArcS _ _ _ _ _ _ _ _ _ = true := h
  unfold cellB arcsB at h
  simp only [Bool.and_eq_true, decide_eq_true_eq] at h
  have hp := pins_last h.1.1.1.1.2
  refine ⟨hp.1, hp.2.1, h.1.1.1.2.1, fun j hj => ?_⟩
  have := not_any.1 h.1.1.1.2.2 j hj
  rw [Bool.or_eq_false_iff, Bool.not_eq_false'] at this
  have ha := this.1
  unfold isArcS at ha
  rw [Bool.and_eq_true, Bool.and_eq_true] at ha
  have h1 := inB_iff.1 ha.1.1
  have h2 := inB_iff.1 ha.1.2
  omega
theorem r95 (b : Y44) (df : DF b.1 b.2.1) {i : Nat} (hi : i < b.2.1.1.length) (f : Int) (h0 : 0 ≤ f) (h1 : f ≤ 1000) : u95 b (insOf b.2.1 i) f = some (cellLinksD f (arcOf (celI b i)) (celI b i).2.2.2.1.length) := by
  obtain ⟨x1, x2, x3⟩ := inst_cell' df hi
  obtain ⟨c1, c2, c3, c4⟩ := cell_arcs x2
  unfold u95
  rw [gd_pos ⟨x1, trivial⟩, lt_eq]
  show lp (u95L1 f (celI b i)) ([], 0) = _
  generalize celI b i = c at c1 c2 c3 c4
  refine lp_fold (n := c.2.2.2.1.length) (by omega) (fun (j : Nat) (s : List DLink) => (s, (j : Int))) (carcF f (arcOf c)) (fun j s => s.length ≤ 4 * j) (J := fun s => some s) (F := u95L1 f c) (fun g j s hj hI => ?_) (fun j s hj hI => ?_) (fun g s _ => all_end) [] (Nat.le_refl _)
  · have e4 : ((j : Int)).toNat = j := rfl
    obtain ⟨a1, a2, a3, a4⟩ := c4 j hj
    have hI : s.length ≤ 4 * j := hI
    refine (if_pos (by simpa using hj)).trans ?_
    rw [e4, gd_pos ⟨⟨by omega, by omega⟩, trivial⟩, lt_eq, r133, vl_some, gd_pos ⟨rfl, trivial⟩, lt_eq]
    show lp (u95L3 f (arcOf c j) (j : Int) (transV (arcOf c j).1 (arcOf c j).2.2.2.1) g) (0, s) = g (carcF f (arcOf c) j s, _)
    obtain ⟨t1, t2⟩ := transV_ok (arcOf c j).1 (arcOf c j).2.2.2.1
    have ec : carcF f (arcOf c) j s = foldN (clinkF f (arcOf c j).2.1 (arcOf c j).2.2.1 (j : Int) (transV (arcOf c j).1 (arcOf c j).2.2.2.1)) (transV (arcOf c j).1 (arcOf c j).2.2.2.1).length s := rfl
    rw [ec]
    generalize transV (arcOf c j).1 (arcOf c j).2.2.2.1 = tr at t1 t2
    generalize arcOf c j = a at a1 a2 a3 a4
    refine (lp_fold (n := tr.length) (by omega) (fun (k : Nat) (s : List DLink) => ((k : Int), s)) (clinkF f a.2.1 a.2.2.1 (j : Int) tr) (fun k z => z.length = s.length + k) (J := fun z => u95J2 (j : Int) g z) (F := u95L3 f a (j : Int) tr g) (fun g3 k z hk hz => ?_) (fun k z hk hz => ?_) (fun g3 z _ => all_end) s rfl).trans ?_
    · have e5 : ((k : Int)).toNat = k := rfl
      have ht := t2 _ (getD_mem (d := ((0, 0) : Int × Int)) hk)
      have hz : z.length = s.length + k := hz
      refine (if_pos (by simpa using hk)).trans ?_
      rw [e5, gd_pos ⟨⟨by omega, by omega⟩, hk, trivial⟩, lt_eq]
      show gd _ _ = _
      rw [gd_pos ⟨⟨by omega, by omega⟩, ⟨by omega, by omega⟩, ⟨by omega, by omega⟩, ⟨by show _ ≤ 2 * (f + a.2.1) + (tr.getD k (0, 0)).1; omega, by show 2 * (f + a.2.1) + (tr.getD k (0, 0)).1 ≤ _; omega⟩, ⟨by omega, by omega⟩, ⟨by omega, by omega⟩, ⟨by omega, by omega⟩, ⟨by show _ ≤ 2 * (f + a.2.2.1) + (tr.getD k (0, 0)).2; omega, by show 2 * (f + a.2.2.1) + (tr.getD k (0, 0)).2 ≤ _; omega⟩, ⟨by show z.length + 1 ≤ _; omega, by show (z.length + 1) * 32 ≤ _; omega⟩, trivial⟩, lt_eq]
      exact gd_pos ⟨⟨by omega, by omega⟩, trivial⟩
    · have hz : z.length = s.length + k := hz
      unfold clinkF
      rw [List.length_append, hz]; rfl
    · exact gd_pos ⟨⟨by omega, by omega⟩, trivial⟩
  · have hI : s.length ≤ 4 * j := hI
    have := carcF_len f (arcOf c) j s
    show _ ≤ 4 * (j + 1)
    omega
end Go.Proofs.YtippccamjlfafaaGreatDoor
end
section
/- The view of a block: the program's way. -/
namespace Go.Proofs.YtippccamjlfafaaGreatDoor
open Go Go.Proofs Go.Proofs.Sv Go.Proofs.Xv Go.Proofs.Xl Go.Proofs.Xd
def instLV (b : Y44) (i : Nat) (s : Int × List DLink) : Int × List DLink := instLF (fun i => (insOf b.2.1 i).2.2.length) (fun i => arcOf (celI b i)) (fun i => (celI b i).2.2.2.1.length) i s
def drvV (b : Y44) (i : Nat) : Int := drvN (plcOf b.2.1) i (plcs b.2.1).length
def clinksV (b : Y44) : List DLink := (foldN (instLV b) b.2.1.1.length (0, [])).2
def linksV (b : Y44) : List DLink := foldN (netLF (drvV b) (fun i => sinksV b.2.1 i)) b.2.2.length (clinksV b)
def loadsL (b : Y44) : List Int := foldN (appF fun i => (loadsV b i).getD 0 0) b.2.2.length []
def delaysL (b : Y44) : List (List Int) := foldN (appF fun i => exactV b i) b.2.2.length []
def viewV (b : Y44) : Y170 := (b, plcs b.2.1, linksV b, loadsL b, delaysL b, [])
theorem instLV_in {b : Y44} (df : DF b.1 b.2.1) (m : Nat) (hm : m ≤ b.2.1.1.length) : 0 ≤ (foldN (instLV b) m (0, [])).1 ∧ (foldN (instLV b) m (0, [])).1 ≤ 5 * (m : Int) ∧ (foldN (instLV b) m (0, [])).2.length ≤ 32 * m :=
  instLF_in (n := b.2.1.1.length) (fun i hi => ⟨(df.pin i hi).2, (cell_arcs (inst_cell' df hi).2.1).2.2.1⟩) m hm
def stepV (b : Y44) (i : Nat) (s : List Int × List (List Int) × List DLink) : List Int × List (List Int) × List DLink := (s.1 ++ [(loadsV b i).getD 0 0], s.2.1 ++ [exactV b i], netLF (drvV b) (fun i => sinksV b.2.1 i) i s.2.2)
theorem stepV_fold (b : Y44) (z : List DLink) : ∀ m, foldN (stepV b) m ([], [], z) = (foldN (appF fun i => (loadsV b i).getD 0 0) m [], foldN (appF fun i => exactV b i) m [], foldN (netLF (drvV b) (fun i => sinksV b.2.1 i)) m z)
  | 0 => rfl
  | m + 1 => by
    show stepV b m (foldN (stepV b) m ([], [], z)) = _
    rw [stepV_fold b z m]; rfl
theorem r49 (b : Y44) (hw : wf y44 b) (hb : blockOk b = true) : u49 b = some (viewV b) := by
  obtain ⟨hd0, hlen, hwire⟩ := block_design hb
  have df := df_of hd0
  have hd := hw.2.1
  have h14 := df.fac.ni14
  have h30 := df.fac.nn30
  have hpl := df.len
  have hin : b.2.1.1.length ≤ 9223372036854775807 := by omega
  have eN : ∀ l, u96 l = some (l.length : Int) := fun _ => rfl
  unfold u49
  rw [r37 b.2.1 hd df.fac.ni14 df.fac.np8 df.pin, vl_some, gd_pos ⟨rfl, trivial⟩, lt_eq]
  refine (lp_fold (n := b.2.1.1.length) hin (fun (i : Nat) (s : Int × List DLink) => (s.1, (i : Int), s.2)) (instLV b) (fun i s => 0 ≤ s.1 ∧ s.1 ≤ 5 * (i : Int) ∧ s.2.length ≤ 32 * i) (J := fun s => u49J0 (plcs b.2.1) b s.2) (F := u49L1 b (plcs b.2.1)) (fun g i s hi hI => ?_) (fun i s hi hI => ?_) (fun g s _ => all_end) (0, []) ⟨Int.le_refl _, Int.le_refl _, Nat.le_refl _⟩).trans ?_
  · have e3 : ((i : Int)).toNat = i := rfl
    obtain ⟨f, z⟩ := s
    obtain ⟨i1, i2, i3⟩ := hI
    have i1 : 0 ≤ f := i1
    have i2 : f ≤ 5 * (i : Int) := i2
    have i3 : z.length ≤ 32 * i := i3
    have hp := df.pin i hi
    have hcl := cellLinksD_len f (arcOf (celI b i)) (celI b i).2.2.2.1.length
    have hc8 := (cell_arcs (inst_cell' df hi).2.1).2.2.1
    refine (if_pos (by simpa using hi)).trans ?_
    rw [e3, gd_pos ⟨⟨by omega, by omega⟩, trivial⟩, lt_eq]
    show gd ((u95 b (insOf b.2.1 i) f).isSome = true ∧ _ ∧ True) _ = _
    rw [r95 b df hi f i1 (by omega), vl_some, gd_pos ⟨rfl, ⟨by omega, by omega⟩, trivial⟩, lt_eq]
    show gd ((u96 (insOf b.2.1 i).2.2).isSome = true ∧ in64 (f + vl (u96 (insOf b.2.1 i).2.2)) ∧ True) _ = _
    rw [eN, vl_some, gd_pos ⟨rfl, ⟨by omega, by omega⟩, trivial⟩, lt_eq]
    exact gd_pos ⟨⟨by omega, by omega⟩, trivial⟩
  · obtain ⟨f, z⟩ := s
    obtain ⟨i1, i2, i3⟩ := hI
    have i1 : 0 ≤ f := i1
    have i2 : f ≤ 5 * (i : Int) := i2
    have i3 : z.length ≤ 32 * i := i3
    have hp := df.pin i hi
    have hcl := cellLinksD_len f (arcOf (celI b i)) (celI b i).2.2.2.1.length
    have hc8 := (cell_arcs (inst_cell' df hi).2.1).2.2.1
    refine ⟨by show 0 ≤ f + ((insOf b.2.1 i).2.2.length : Int); omega, by show f + ((insOf b.2.1 i).2.2.length : Int) ≤ _; omega, ?_⟩
    show (z ++ cellLinksD f (arcOf (celI b i)) (celI b i).2.2.2.1.length).length ≤ _
    rw [List.length_append]; omega
  have hz := (instLV_in df _ (Nat.le_refl _)).2.2
  have ecl : clinksV b = (foldN (instLV b) b.2.1.1.length (0, [])).2 := rfl
  unfold viewV linksV loadsL delaysL
  rw [ecl]
  generalize (foldN (instLV b) b.2.1.1.length (0, [])).2 = z at hz
  show u49J0 (plcs b.2.1) b z = _
  have hn30 : b.2.2.length ≤ 30 := by omega
  rw [u49J0, gd_pos ⟨⟨by omega, rfl, by omega, by omega⟩, trivial⟩, gd_pos ⟨⟨by omega, rfl, by omega, by omega⟩, trivial⟩]
  show lp (u49L3 (plcs b.2.1) b z) (0, List.replicate b.2.2.length [], List.replicate b.2.2.length 0) = _
  have hnet : ∀ i, i < (plcs b.2.1).length → inB (plcOf b.2.1 i).2.2.1 0 ((b.2.2.length : Int) - 1) = true := fun i hi => by rw [hlen]; exact df.plc _ (plc_mem hi)
  have gf := grid_fold (plcOf b.2.1) b.2.2.length
  refine (lp_fold (n := (plcs b.2.1).length) (by omega) (fun (i : Nat) (s : List (List Int) × List Int) => ((i : Int), s.1, s.2)) (gridF (plcOf b.2.1)) (fun i s => s.1.length = b.2.2.length ∧ s.2.length = b.2.2.length ∧ ∀ k : Nat, (s.1.getD k []).length ≤ i) (J := fun s => u49J2 b (plcs b.2.1) z s) (F := u49L3 (plcs b.2.1) b z) (fun g i s hi hI => ?_) (fun i s hi hI => ?_) (fun g s _ => all_end) (List.replicate b.2.2.length [], List.replicate b.2.2.length 0) ⟨List.length_replicate, List.length_replicate, fun k => ?_⟩).trans ?_
  · obtain ⟨gr, dr⟩ := s
    obtain ⟨g1, g2, g3⟩ := hI
    have g1 : gr.length = b.2.2.length := g1
    have g2 : dr.length = b.2.2.length := g2
    have g3 : ∀ k : Nat, (gr.getD k []).length ≤ i := g3
    have hp := inB_iff.1 (hnet i hi)
    have e3 : ((i : Int)).toNat = i := rfl
    have j4 : ∀ x y, u49J4 (i : Int) g (x, y) = g (((i + 1 : Nat) : Int), y, x) := fun x y => gd_pos ⟨⟨by omega, by omega⟩, trivial⟩
    have g4 := g3 (plcOf b.2.1 i).2.2.1.toNat
    refine (if_pos (by simpa using hi)).trans ?_
    rw [e3, gd_pos ⟨⟨by omega, by omega⟩, hi, trivial⟩, lt_eq]
    show (if (plcOf b.2.1 i).2.2.2 = true then _ else _) = g (_, (gridF (plcOf b.2.1) i (gr, dr)).1, (gridF (plcOf b.2.1) i (gr, dr)).2)
    unfold gridF
    cases (plcOf b.2.1 i).2.2.2 with
    | true =>
      rw [if_pos rfl, if_pos rfl]
      show gd (ix (plcOf b.2.1 i).2.2.1 dr.length ∧ _ ∧ True) _ = _
      rw [gd_pos ⟨⟨by omega, by omega⟩, by show (plcOf b.2.1 i).2.2.1.toNat < _; omega, trivial⟩, j4]
    | false =>
      rw [if_neg (by simp), if_neg (by simp)]
      show gd (ix (plcOf b.2.1 i).2.2.1 gr.length ∧ _) _ = _
      rw [gd_pos ⟨⟨by omega, by omega⟩, by show (plcOf b.2.1 i).2.2.1.toNat < _; omega, ⟨by show (gr.getD (plcOf b.2.1 i).2.2.1.toNat []).length + 1 ≤ _; omega, by show ((gr.getD (plcOf b.2.1 i).2.2.1.toNat []).length + 1) * 8 ≤ _; omega⟩, ⟨by show 0 ≤ (plcOf b.2.1 i).2.2.1; omega, by show (plcOf b.2.1 i).2.2.1 < _; omega⟩, ⟨by show (plcOf b.2.1 i).2.2.1.toNat < _; omega, rfl⟩, trivial⟩, lt_eq, j4]
  · obtain ⟨gr, dr⟩ := s
    obtain ⟨g1, g2, g3⟩ := hI
    have g1 : gr.length = b.2.2.length := g1
    have g2 : dr.length = b.2.2.length := g2
    have g3 : ∀ k : Nat, (gr.getD k []).length ≤ i := g3
    have hp := inB_iff.1 (hnet i hi)
    unfold gridF
    split
    · exact ⟨g1, by show (dr.set _ _).length = _; rw [List.length_set]; exact g2, fun k => by have := g3 k; show (gr.getD k []).length ≤ _; omega⟩
    · refine ⟨by show (gr.set _ _).length = _; rw [List.length_set]; exact g1, g2, fun k => ?_⟩
      show ((gr.set (plcOf b.2.1 i).2.2.1.toNat (gr.getD (plcOf b.2.1 i).2.2.1.toNat [] ++ [(i : Int)])).getD k []).length ≤ _
      rw [getD_set (by omega)]
      have := g3 k
      have := g3 (plcOf b.2.1 i).2.2.1.toNat
      split
      · rw [List.length_append]; show _ + 1 ≤ _; omega
      · omega
  · show ((List.replicate b.2.2.length ([] : List Int)).getD k []).length ≤ 0
    rw [List.getD_eq_getElem?_getD, List.getElem?_replicate]
    split <;> exact Nat.le_refl _
  obtain ⟨gl, dl, gd'⟩ := gf (plcs b.2.1).length hnet
  generalize foldN (gridF (plcOf b.2.1)) (plcs b.2.1).length (List.replicate b.2.2.length [], List.replicate b.2.2.length 0) = s at gl dl gd'
  obtain ⟨gr, dr⟩ := s
  have gl : gr.length = b.2.2.length := gl
  have dl : dr.length = b.2.2.length := dl
  have hgr : ∀ k : Nat, k < b.2.2.length → gr.getD k [] = sinksV b.2.1 k := fun k hk => (gd' k hk).1
  have hdr : ∀ k : Nat, k < b.2.2.length → dr.getD k 0 = drvV b k := fun k hk => (gd' k hk).2
  show lp (u49L6 dr gr b (plcs b.2.1)) (0, [], [], z) = _
  refine (lp_fold (n := b.2.2.length) (by omega) (fun (i : Nat) (s : List Int × List (List Int) × List DLink) => ((i : Int), s.1, s.2.1, s.2.2)) (stepV b) (fun i s => s.1.length = i ∧ s.2.1.length = i ∧ s.2.2.length ≤ 500 + 160 * i) (J := fun s => some (b, plcs b.2.1, s.2.2, s.1, s.2.1, [])) (F := u49L6 dr gr b (plcs b.2.1)) (fun g i s hi hI => ?_) (fun i s hi hI => ?_) (fun g s _ => all_end) ([], [], z) ⟨rfl, rfl, by show z.length ≤ _; omega⟩).trans ?_
  · obtain ⟨s1, s2, s3⟩ := s
    obtain ⟨i1, i2, i3⟩ := hI
    have i1 : s1.length = i := i1
    have i2 : s2.length = i := i2
    have i3 : s3.length ≤ 500 + 160 * i := i3
    have hno := net_ok hb hi
    have n1 := hno.wf.n1
    have hs78 := hno.s78
    have hll := hno.loads.1
    have e3 : ((i : Int)).toNat = i := rfl
    refine (if_pos (by simpa using hi)).trans ?_
    rw [r97 b hw hno, vl_some, gd_pos ⟨rfl, ⟨by omega, by omega⟩, by show 0 < _; omega, ⟨by show s1.length + 1 ≤ _; omega, by show (s1.length + 1) * 8 ≤ _; omega⟩, trivial⟩, lt_eq, r98 b hw hno, vl_some, gd_pos ⟨rfl, ⟨by show s2.length + 1 ≤ _; omega, by show (s2.length + 1) * 24 ≤ _; omega⟩, trivial⟩, lt_eq, gd_pos ⟨⟨by omega, by omega⟩, trivial⟩]
    have hsn := hgr i hi
    have hdn := hdr i hi
    have hdv := drvN_in (plcOf b.2.1) i (plcs b.2.1).length
    have hdv : 0 ≤ drvV b i ∧ drvV b i ≤ ((plcs b.2.1).length : Int) := hdv
    show lp (u49L8 dr (i : Int) gr s2 (exactV b i) s1 (loadsV b i) g) (0, s3) = g (_, s1 ++ [(loadsV b i).getD 0 0], s2 ++ [exactV b i], netLF (drvV b) (fun i => sinksV b.2.1 i) i s3)
    refine (lp_fold (n := (sinksV b.2.1 i).length) (by omega) (fun (k : Nat) (s : List DLink) => ((k : Int), s)) (wsinkF (drvV b i) (sinksV b.2.1 i)) (fun k y => y.length = s3.length + 2 * k) (J := fun y => u49J7 (i : Int) g (s2 ++ [exactV b i], s1 ++ [(loadsV b i).getD 0 0], y)) (F := u49L8 dr (i : Int) gr s2 (exactV b i) s1 (loadsV b i) g) (fun g8 k y hk hy => ?_) (fun k y hk hy => ?_) (fun g8 y _ => ?_) s3 rfl).trans ?_
    · have hy : y.length = s3.length + 2 * k := hy
      obtain ⟨k1, k2⟩ := sinksV_at hk
      have e4 : ((k : Int)).toNat = k := rfl
      show u49L8 dr (i : Int) gr s2 (exactV b i) s1 (loadsV b i) g g8 ((k : Int), y) = _
      rw [u49L8, e3, hsn, if_pos (by simpa using hk), gd_pos ⟨⟨by omega, by omega⟩, trivial⟩]
      show _ = g8 (_, wsinkF (drvV b i) (sinksV b.2.1 i) k y)
      refine (lp_fold (n := 2) (by decide) (fun (t : Nat) (x : List DLink) => ((t : Int), x)) (wlinkF (drvV b i) ((sinksV b.2.1 i).getD k 0) (k : Int)) (fun t x => x.length = y.length + t) (J := fun x => u49J9 (k : Int) g8 x) (F := u49L10 dr (i : Int) gr (k : Int) g8) (fun g10 t x ht hx => ?_) (fun t x ht hx => ?_) (fun g10 x _ => ?_) y rfl).trans ?_
      · have hx : x.length = y.length + t := hx
        show u49L10 dr (i : Int) gr (k : Int) g8 g10 ((t : Int), x) = _
        rw [u49L10, e3, e4, hsn, hdn, if_pos (decide_eq_true (by omega)), gd_pos ⟨⟨by omega, by omega⟩, by omega, ⟨by omega, by omega⟩, ⟨by omega, by omega⟩, ⟨by omega, by omega⟩, ⟨by omega, by omega⟩, ⟨by show x.length + 1 ≤ _; omega, by show (x.length + 1) * 32 ≤ _; omega⟩, trivial⟩, lt_eq]
        exact gd_pos ⟨⟨by omega, by omega⟩, trivial⟩
      · have hx : x.length = y.length + t := hx
        unfold wlinkF
        rw [List.length_append, hx]; rfl
      · show u49L10 dr (i : Int) gr (k : Int) g8 g10 (((2 : Nat) : Int), x) = _
        rw [u49L10]
        exact if_neg (by decide)
      · exact gd_pos ⟨⟨by omega, by omega⟩, trivial⟩
    · have hy : y.length = s3.length + 2 * k := hy
      rw [wsinkF_len, hy]; omega
    · show u49L8 dr (i : Int) gr s2 (exactV b i) s1 (loadsV b i) g g8 (((sinksV b.2.1 i).length : Int), y) = _
      rw [u49L8, e3, hsn]
      exact if_neg (by simp)
    · exact gd_pos ⟨⟨by omega, by omega⟩, trivial⟩
  · obtain ⟨s1, s2, s3⟩ := s
    obtain ⟨i1, i2, i3⟩ := hI
    have i1 : s1.length = i := i1
    have i2 : s2.length = i := i2
    have i3 : s3.length ≤ 500 + 160 * i := i3
    have hs78 := (net_ok hb hi).s78
    refine ⟨by show (s1 ++ _).length = _; rw [List.length_append, i1]; rfl, by show (s2 ++ _).length = _; rw [List.length_append, i2]; rfl, ?_⟩
    show (netLF (drvV b) (fun i => sinksV b.2.1 i) i s3).length ≤ _
    unfold netLF
    rw [wsink_len]
    show s3.length + 2 * (sinksV b.2.1 i).length ≤ 500 + 160 * (i + 1)
    omega
  · rw [stepV_fold]
end Go.Proofs.YtippccamjlfafaaGreatDoor
end
section
/- The program's IsTiming returns what the reference's returns: the law as a plain function gives true for all data. -/
namespace Go.Proofs.YtippccamjlfafaaGreatDoor
open Go Go.Proofs Go.Proofs.Sv Go.Proofs.Xv Go.Proofs.Xl Go.Proofs.Xd
def spanB (s : Int × Int) : Bool := inB s.1 (-1000000000) 1000000000 && inB s.2 (-1000000000) 1000000000 && decide (s.1 ≤ s.2)
def slewB (s : Int × Int) : Bool := spanB s && inB s.1 0 1000000 && inB s.2 0 1000000
theorem r104 (s : Int × Int) : u104 s = some (spanB s) ∧ u101 s = some (spanB s) := by
  have e : ∀ x, u138 x = some (inB x (-1000000000) 1000000000) := fun _ => rfl
  refine ⟨?_, ?_⟩
  · unfold u104
    rw [e, e, vl_some, vl_some]
    exact gd_pos ⟨rfl, fun _ => rfl, trivial⟩
  · unfold u101
    rw [r42, r42, vl_some, vl_some]
    exact gd_pos ⟨rfl, fun _ => rfl, trivial⟩
theorem r105 (s : Int × Int) : u105 s = some (slewB s) ∧ u102 s = some (slewB s) := by
  have e : ∀ x, u46 x = some (inB x 0 1000000) := fun _ => rfl
  refine ⟨?_, ?_⟩
  · unfold u105
    rw [(r104 s).1, vl_some, e, e, vl_some, vl_some]
    exact gd_pos ⟨rfl, fun _ => rfl, fun _ => rfl, trivial⟩
  · unfold u102
    refine congrArg some ?_
    unfold slewB spanB inB
    rw [Bool.eq_iff_iff]
    simp only [Bool.and_eq_true, decide_eq_true_eq]
    omega
def nodesV (b : Y44) : Int := 2 * ((plcs b.2.1).length : Int)
def zs (s : Int × Int) : Bool := s.1 == 0 && (s.2 == 0 && true)
def timBad (t : Y68) (i : Nat) : Bool := !spanB (t.2.1.getD i (dflt y105)) || !slewB (t.2.2.getD i (dflt y105)) || !t.1.getD i false && (!zs (t.2.1.getD i (dflt y105)) || !zs (t.2.2.getD i (dflt y105)))
def timLen (n : Int) (t : Y68) : Bool := (t.1.length : Int) != n || (t.2.1.length : Int) != n || (t.2.2.length : Int) != n
def timOk (n : Int) (t : Y68) : Bool := !timLen n t && !(List.range t.1.length).any (timBad t)
theorem timLen_eq {n : Int} {t : Y68} (h : timLen n t = false) : t.2.1.length = t.1.length ∧ t.2.2.length = t.1.length := by
  unfold timLen at h
  simp only [Bool.or_eq_false_iff, bne_eq_false_iff_eq] at h
  omega
theorem r61 (b : Y44) (hb : blockOk b = true) (t : Y68) (hw : wf y68 t) : u61 (viewV b) t = some (timOk (nodesV b) t) := by
  have hl := (df_of (block_design hb).1).len
  have e : ∀ s : List Y81, u36 s = some (s.length : Int) := fun _ => rfl
  have eB : ∀ s : List Bool, u107 s = some (s.length : Int) := fun _ => rfl
  have eS : ∀ s : List Y105, u108 s = some (s.length : Int) := fun _ => rfl
  have en : u99 (viewV b) = some (nodesV b) := by
    unfold u99
    rw [e, vl_some, gd_pos ⟨rfl, ⟨by show _ ≤ 2 * ((plcs b.2.1).length : Int); omega, by show 2 * ((plcs b.2.1).length : Int) ≤ _; omega⟩, trivial⟩, lt_eq]
    rfl
  have hlen : t.1.length ≤ 9223372036854775807 := hw.1.1
  unfold u61
  rw [en, vl_some, gd_pos ⟨rfl, trivial⟩, lt_eq, eB, eS, eS, vl_some, vl_some, vl_some, gd_pos ⟨rfl, (fun _ => rfl), (fun _ => rfl), trivial⟩, lt_eq]
  show (if timLen (nodesV b) t = true then some false else _) = _
  unfold timOk
  cases hc : timLen (nodesV b) t with
  | true => rfl
  | false =>
    obtain ⟨h1, h2⟩ := timLen_eq hc
    have key := lp_all (n := t.1.length) hlen (timBad t) (some false) (e := some true) (F := u61L1 t) (fun g i hi => by
      have e3 : ((i : Int)).toNat = i := rfl
      refine (if_pos (by simpa using hi)).trans ?_
      rw [e3, gd_pos ⟨⟨by omega, by omega⟩, trivial⟩, (r104 _).1, vl_some, (r105 _).1, vl_some, gd_pos ⟨⟨by omega, by omega⟩, rfl, (fun _ => ⟨by omega, by omega⟩), (fun _ => rfl), (fun _ => ⟨by omega, by omega⟩), (fun _ => ⟨by omega, by omega⟩), trivial⟩, lt_eq, gd_pos ⟨⟨by omega, by omega⟩, trivial⟩]
      rfl) (fun g => all_end)
    refine (if_neg (by simp)).trans (key.trans ?_)
    cases (List.range t.1.length).any (timBad t) <;> rfl
theorem r58 (n : Int) (t : Y68) (hw : wf y68 t) : u58 n t = some (timOk n t) := by
  have hlen : t.1.length ≤ 9223372036854775807 := hw.1.1
  unfold u58
  show (if timLen n t = true then some false else _) = _
  unfold timOk
  cases hc : timLen n t with
  | true => rfl
  | false =>
    obtain ⟨h1, h2⟩ := timLen_eq hc
    have key := lp_all (n := t.1.length) hlen (timBad t) (some false) (e := some true) (F := u58L1 t) (fun g i hi => by
      have e3 : ((i : Int)).toNat = i := rfl
      refine (if_pos (by simpa using hi)).trans ?_
      rw [e3, (r104 _).2, vl_some, (r105 _).2, vl_some, gd_pos ⟨⟨by omega, by omega⟩, rfl, (fun _ => ⟨by omega, by omega⟩), (fun _ => rfl), (fun _ => ⟨by omega, by omega⟩), (fun _ => ⟨by omega, by omega⟩), (fun _ => ⟨by omega, by omega⟩), trivial⟩, lt_eq, gd_pos ⟨⟨by omega, by omega⟩, trivial⟩]
      rfl) (fun g => all_end)
    refine (if_neg (by simp)).trans (key.trans ?_)
    cases (List.range t.1.length).any (timBad t) <;> rfl
def istV (b : Y44) (t : Y68) : Bool := blockOk b && timOk (nodesV b) t
theorem r25 (b : Y44) (hw : wf y44 b) (hm : cnt y44 b ≤ 1048576) (t : Y68) (ht : wf y68 t) : u25 b t = some (istV b t) := by
  unfold u25 istV
  rw [r35 b hw hm, vl_some]
  cases hb : blockOk b with
  | false => exact gd_pos ⟨rfl, (fun h => by cases h.1), (fun h => by cases h.1), trivial⟩
  | true =>
    rw [r49 b hw hb, vl_some, r61 b hb t ht, vl_some]
    exact gd_pos ⟨rfl, (fun _ => rfl), (fun _ => rfl), trivial⟩
theorem r23 (b : Y44) (hw : wf y44 b) (hm : cnt y44 b ≤ 1048576) (t : Y68) (ht : wf y68 t) : u23 b t = some (istV b t) := by
  unfold u23 istV
  rw [r30 b hw hm, vl_some]
  cases hb : blockOk b with
  | false => exact gd_pos ⟨rfl, (fun h => by cases h.1), (fun h => by cases h.1), trivial⟩
  | true =>
    have df := df_of (block_design hb).1
    have hp : (placesN b.2.1.1.length b.2.1.2.2.length (insOf b.2.1) (prtOf b.2.1)).length ≤ 78 := df.len
    have e : u31 b = some (nodesV b) := by
      unfold u31
      rw [r72 b.2.1 hw.2.1 df.fac.ni14 df.fac.np8 df.pin, vl_some, gd_pos ⟨rfl, ⟨by omega, by omega⟩, trivial⟩, lt_eq]
      rfl
    rw [e, vl_some, r58 (nodesV b) t ht, vl_some]
    exact gd_pos ⟨rfl, (fun _ => rfl), (fun _ => rfl), trivial⟩
theorem r7 (b : Y32) (t : Y63) (hw : wf y32 b) (ht : wf y63 t) : u7 b t = some true := by
  unfold u7
  rw [z8 b 1048576 hw (by decide) (by decide), vl_some, gd_pos ⟨rfl, trivial⟩, lt_eq]
  by_cases hc : szN (cnt y32 b) 1048576 < 0
  · exact if_pos (by simpa using hc)
  · refine (if_neg (by simpa using hc)).trans ?_
    have hm : cnt y32 b ≤ 1048576 := by
      unfold szN at hc
      split at hc <;> omega
    have hv : szN (cnt y32 b) 1048576 ≤ 1048576 := by
      unfold szN
      split <;> omega
    generalize szN (cnt y32 b) 1048576 = v at hc hv
    rw [z22 t v ht (by omega) (by omega), vl_some, gd_pos ⟨rfl, trivial⟩, lt_eq]
    by_cases hc2 : szN (cnt y63 t) v < 0
    · exact if_pos (by simpa using hc2)
    · refine (if_neg (by simpa using hc2)).trans ?_
      have hm2 : cnt y63 t ≤ 1048576 := by
        unfold szN at hc2
        split at hc2 <;> omega
      rw [w10 b hm, vl_some, w24 t hm2, vl_some, r23 b hw hm t ht, gd_pos ⟨rfl, rfl, rfl, trivial⟩, lt_eq]
      show gd _ (lt b fun v4 => gd _ (lt t fun v5 => gd _ _)) = _
      rw [gd_pos ⟨rfl, trivial⟩, lt_eq, gd_pos ⟨rfl, trivial⟩, lt_eq, r25 b hw hm t ht, vl_some, gd_pos ⟨rfl, trivial⟩]
      refine (if_neg (by rw [r23 b hw hm t ht, vl_some]; cases istV b t <;> simp)).trans ?_
      rw [e12 b hm, gd_pos ⟨rfl, rfl, trivial⟩, lt_eq, e12 b hm]
      refine (if_neg (by simp [vl_some])).trans ?_
      rw [e26 t hm2, gd_pos ⟨rfl, rfl, trivial⟩, lt_eq, e26 t hm2]
      rfl
end Go.Proofs.YtippccamjlfafaaGreatDoor
end
