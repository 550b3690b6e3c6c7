/- Axes of tables: rising; the place of a number between the elements. -/
import Derived.Test.YtippccamjlfafaaGreatDoorLA
import Derived.Test.YtippccamjlfafaaGreatDoorLC
import Derived.Test.YtippccamjlfafaaGreatDoorG2
section
/- Axes of tables: rising; the place of a number between the elements. -/
namespace Go.Proofs.Xd
open Go Go.Proofs.Xv Go.Proofs.Xl
theorem axis_inc {xs : List Int} (h : isAxis xs = true) : ∀ i, 0 < i → i < xs.length → xs.getD (i - 1) 0 < xs.getD i 0 := by
  simp only [isAxis, Bool.and_eq_true, decide_eq_true_eq] at h
  intro i h0 hi
  have := not_any.1 h.2 i hi
  simp only [Bool.and_eq_false_iff, decide_eq_false_iff_not] at this
  omega
theorem axis_mono {xs : List Int} (h : isAxis xs = true) : ∀ k i, i + k < xs.length → 0 < k → xs.getD i 0 < xs.getD (i + k) 0 := by
  intro k
  induction k with
  | zero => intro i _ h0; omega
  | succ k ih =>
    intro i hi _
    have h1 := axis_inc h (i + (k + 1)) (by omega) hi
    have e : i + (k + 1) - 1 = i + k := by omega
    rw [e] at h1
    by_cases hk : k = 0
    · subst hk; exact h1
    · have := ih i (by omega) (by omega); omega
theorem axis_lt {xs : List Int} (h : isAxis xs = true) {i j : Nat} (hij : i < j) (hj : j < xs.length) : xs.getD i 0 < xs.getD j 0 := by
  have := axis_mono h (j - i) i (by omega) (by omega)
  have e : i + (j - i) = j := by omega
  rwa [e] at this
theorem axis_in {xs : List Int} (h : isAxis xs = true) {i : Nat} (hi : i < xs.length) : 0 ≤ xs.getD i 0 ∧ xs.getD i 0 ≤ 100000 := by
  simp only [isAxis, Bool.and_eq_true, decide_eq_true_eq] at h
  have h1 := h.1.2
  rw [List.all_eq_true] at h1
  have e : xs.getD i 0 = xs[i] := by rw [List.getD_eq_getElem?_getD, List.getElem?_eq_getElem hi]; rfl
  rw [e]
  exact inB_iff.1 (h1 _ (List.getElem_mem hi))
theorem table_in {t : DTbl} (h : isTable t = true) {i : Nat} (hi : i < t.2.2.length) : -1000000 ≤ t.2.2.getD i 0 ∧ t.2.2.getD i 0 ≤ 1000000 := by
  simp only [isTable, Bool.and_eq_true, decide_eq_true_eq] at h
  have h1 := h.2
  rw [List.all_eq_true] at h1
  have e : t.2.2.getD i 0 = t.2.2[i] := by rw [List.getD_eq_getElem?_getD, List.getElem?_eq_getElem hi]; rfl
  rw [e]
  exact inB_iff.1 (h1 _ (List.getElem_mem hi))
/-- A number within an axis: at an element, or between two. -/
theorem axis_at {xs : List Int} (h : isAxis xs = true) {x : Int} (h0 : xs.getD 0 0 ≤ x) (h1 : x ≤ xs.getD (xs.length - 1) 0) : ∃ p, p < xs.length ∧ (∀ i, i < p → xs.getD i 0 < x) ∧ (∀ i, p ≤ i → i < xs.length → x ≤ xs.getD i 0) := by
  have key : ∀ m, m ≤ xs.length → (∃ p, p < m ∧ (∀ i, i < p → xs.getD i 0 < x) ∧ x ≤ xs.getD p 0) ∨ ∀ i, i < m → xs.getD i 0 < x := by
    intro m
    induction m with
    | zero => exact fun _ => .inr fun i hi => by omega
    | succ m ih =>
      intro hm
      rcases ih (by omega) with ⟨p, hp, h2, h3⟩ | h2
      · exact .inl ⟨p, by omega, h2, h3⟩
      · by_cases hx : x ≤ xs.getD m 0
        · exact .inl ⟨m, by omega, h2, hx⟩
        · exact .inr fun i hi => by
            by_cases him : i = m
            · subst him; omega
            · exact h2 i (by omega)
  have hl := axis_len h
  rcases key xs.length (Nat.le_refl _) with ⟨p, hp, h2, h3⟩ | h2
  · refine ⟨p, hp, h2, fun i hpi hi => ?_⟩
    by_cases he : p = i
    · subst he; exact h3
    · have := axis_lt h (by omega : p < i) hi; omega
  · have := h2 (xs.length - 1) (by omega); omega
theorem lp_of {σ ρ : Type} {F : (σ → Option ρ) → σ → Option ρ} {s : σ} {r : Option ρ} (k : Nat) (hk : k ≤ 9223372036854775807) (h : ∀ n, itF F (n + k) s = r) : lp F s = r := by
  have e : big = (big - k) + k := by have := big_gt hk; omega
  unfold lp
  rw [e]
  exact h _
theorem mid_nat (i j : Nat) : ((i : Int) + (j : Int)).fdiv ((2 : Int) ^ Int.toNat (1 : Int)) = ((((i + j) / 2 : Nat)) : Int) := by
  have e : (2 : Int) ^ Int.toNat (1 : Int) = 2 := by decide
  rw [e, Int.fdiv_eq_ediv_of_nonneg _ (by omega)]
  omega
theorem mul_bd {x y A B : Int} (h1 : -A ≤ x) (h2 : x ≤ A) (h3 : 0 ≤ y) (h4 : y ≤ B) (hA : 0 ≤ A) : -(A * B) ≤ x * y ∧ x * y ≤ A * B := by
  have a1 : x * y ≤ A * y := Int.mul_le_mul_of_nonneg_right h2 h3
  have a2 : A * y ≤ A * B := Int.mul_le_mul_of_nonneg_left h4 hA
  have a3 : -A * y ≤ x * y := Int.mul_le_mul_of_nonneg_right h1 h3
  rw [Int.neg_mul] at a3
  omega
theorem row_ix {p q n1 n2 : Nat} (hp : p < n1) (hq : q < n2) : p * n2 + q < n1 * n2 := by
  have h1 : (p + 1) * n2 ≤ n1 * n2 := Nat.mul_le_mul_right _ hp
  rw [Nat.add_mul, Nat.one_mul] at h1
  omega
end Go.Proofs.Xd
end
section
/- Division that rounds, and what a table says at a place: the program's functions and the reference's. -/
namespace Go.Proofs.YtippccamjlfafaaGreatDoor
open Go Go.Proofs Go.Proofs.Xv Go.Proofs.Xl Go.Proofs.Xd
theorem r92 (a b m : Int) (h : -1000000000000000000 ≤ a) (h' : a ≤ 1000000000000000000) (hb : 0 < b) : ∃ r, u92 a b m = some r ∧ u86 a b m = some r := by
  have t1 : a.tdiv b ≤ 1000000000000000000 ∧ -1000000000000000000 ≤ a.tdiv b := by
    have h1 : (a.tdiv b).natAbs ≤ a.natAbs := by
      rw [Int.natAbs_tdiv]
      exact Nat.div_le_self _ _
    omega
  have g1 : in64 (a.tdiv b - 1) ∧ True := ⟨⟨by omega, by omega⟩, trivial⟩
  have g2 : in64 (a.tdiv b + 1) ∧ True := ⟨⟨by omega, by omega⟩, trivial⟩
  unfold u92 u86
  rw [gd_pos (V := 0 < b ∧ 0 < b ∧ True) ⟨hb, hb, trivial⟩, gd_pos (V := 0 < b ∧ True) ⟨hb, trivial⟩, gd_pos (V := 0 < b ∧ True) ⟨hb, trivial⟩, gd_pos g1, gd_pos g2, Bool.and_comm (m == 0), Bool.and_comm (m == 1)]
  by_cases c1 : (decide (a.tmod b < 0) && m == 0) = true
  · exact ⟨_, if_pos c1, if_pos c1⟩
  · by_cases c2 : (decide (0 < a.tmod b) && m == 1) = true
    · exact ⟨_, (if_neg c1).trans (if_pos c2), (if_neg c1).trans (if_pos c2)⟩
    · exact ⟨_, (if_neg c1).trans (if_neg c2), (if_neg c1).trans (if_neg c2)⟩
theorem r155 (a b : Int) : u155 a b = some (decide (a < b)) := by
  unfold u155
  have e : ∀ a, u172 a = some (a != a) := fun _ => rfl
  rw [e, e, gd_pos ⟨rfl, fun _ => rfl, trivial⟩, vl_some, vl_some]
  simp
theorem r132 {xs : List Int} {x : Int} (hn : xs.length ≤ 4611686018427387903) {p : Nat} (hp : p < xs.length) (h1 : ∀ i, i < p → xs.getD i 0 < x) (h2 : ∀ i, p ≤ i → i < xs.length → x ≤ xs.getD i 0) : u132 xs x = some ((p : Int), xs.getD p 0 == x) := by
  have key : ∀ (m i j : Nat), i ≤ p → p ≤ j → j ≤ xs.length → j - i < m → itF (u132L1 xs x) m ((i : Int), (j : Int)) = some ((p : Int), xs.getD p 0 == x) := by
    intro m
    induction m with
    | zero => intro i j _ _ _ h; omega
    | succ m ih =>
      intro i j hi hj hjn hm
      show u132L1 xs x (itF (u132L1 xs x) m) ((i : Int), (j : Int)) = _
      rw [u132L1]
      by_cases hij : i < j
      · have hmid : (i + j) / 2 < xs.length := by omega
        have e3 : ((((i + j) / 2 : Nat)) : Int).toNat = (i + j) / 2 := rfl
        rw [if_pos (by simpa using hij), mid_nat, gd_pos ⟨⟨by omega, by omega⟩, ⟨by omega, by omega⟩, ⟨⟨by decide, by decide⟩, by omega, by omega⟩, ⟨by omega, by omega⟩, trivial⟩, e3, r155, gd_pos ⟨⟨by omega, by omega⟩, rfl, trivial⟩, vl_some]
        by_cases hc : xs.getD ((i + j) / 2) 0 < x
        · rw [if_pos (by simpa using hc), gd_pos ⟨⟨by omega, by omega⟩, trivial⟩]
          have hpm : (i + j) / 2 < p := by
            apply Nat.lt_of_not_le
            intro hle
            have := h2 _ hle hmid; omega
          have := ih ((i + j) / 2 + 1) j (by omega) hj hjn (by omega)
          simpa using this
        · rw [if_neg (by simpa using hc)]
          have hpm : p ≤ (i + j) / 2 := by
            apply Nat.le_of_not_lt
            intro hle
            have := h1 _ hle; omega
          exact ih i ((i + j) / 2) hi hpm (by omega) (by omega)
      · have e : i = p := by omega
        subst e
        rw [if_neg (by simpa using hij), u132J0]
        have e3 : ((i : Int)).toNat = i := rfl
        have e4 : decide ((i : Int) < (xs.length : Int)) = true := by simpa using hp
        have e5 : ∀ a, u156 a = some (a != a) := fun _ => rfl
        rw [e3, e4, e5, e5, gd_pos ⟨fun _ => ⟨by omega, by omega⟩, fun _ => ⟨by omega, by omega⟩, fun _ => rfl, fun _ => rfl, trivial⟩, vl_some, vl_some]
        simp
  unfold u132
  have := key big 0 xs.length (by omega) (by omega) (Nat.le_refl _) (by simp only [big]; omega)
  exact this
def clampI (xs : List Int) (x : Int) : Int := min (max x (xs.getD 0 0)) (xs.getD (xs.length - 1) 0)
/-- The element below a number, with the weights of it and of the next one. -/
theorem r91 {xs : List Int} (x : Int) (h : isAxis xs = true) : ∃ (p : Nat) (a b : Int), p < xs.length ∧ u85 xs x = some ((p : Int), a, b) ∧
    ((a = 1 ∧ b = 0 ∧ u91 xs x = some ([((p : Int), 1)], 1)) ∨
      (p + 1 < xs.length ∧ 0 < a ∧ 0 < b ∧ a + b ≤ 100000 ∧ u91 xs x = some ([((p : Int), a), ((p : Int) + 1, b)], a + b))) := by
  obtain ⟨l1, l4⟩ := axis_len h
  have e1 : ((xs.length : Int) - 1).toNat = xs.length - 1 := by omega
  have c0 : xs.getD 0 0 ≤ clampI xs x := by
    have : xs.getD 0 0 ≤ xs.getD (xs.length - 1) 0 := by
      by_cases hl : xs.length = 1
      · rw [hl]; exact Int.le_refl _
      · have := axis_lt h (by omega : 0 < xs.length - 1) (by omega); omega
    unfold clampI; omega
  have c1 : clampI xs x ≤ xs.getD (xs.length - 1) 0 := by unfold clampI; omega
  obtain ⟨p, hp, h1, h2⟩ := axis_at h c0 c1
  have down : ∀ (q : Nat) (r : Option (Int × Int × Int)), (∀ g, u85L1 xs (clampI xs x) g (q : Int) = r) → (∀ i, q < i → i < xs.length → clampI xs x < xs.getD i 0) → q < xs.length → lp (u85L1 xs (clampI xs x)) ((xs.length : Int) - 1) = r := by
    intro q r hq hgt hlt
    have key : ∀ (m k : Nat), q + k < xs.length → k < m → itF (u85L1 xs (clampI xs x)) m ((q + k : Nat) : Int) = r := by
      intro m
      induction m with
      | zero => intro k _ h; omega
      | succ m ih =>
        intro k hk hm
        show u85L1 xs (clampI xs x) (itF (u85L1 xs (clampI xs x)) m) ((q + k : Nat) : Int) = r
        by_cases h0 : k = 0
        · subst h0; exact hq _
        · have hg := hgt (q + k) (by omega) hk
          have e3 : (((q + k : Nat) : Int)).toNat = q + k := rfl
          have n1 : ¬ (clampI xs x = xs.getD (q + k) 0) := by omega
          have n2 : ¬ (xs.getD (q + k) 0 < clampI xs x) := by omega
          rw [u85L1, if_pos (by simp; omega), gd_pos ⟨⟨by omega, by omega⟩, trivial⟩, e3, if_neg (by simpa using n1), gd_pos ⟨⟨by omega, by omega⟩, trivial⟩, if_neg (by simpa using n2), gd_pos ⟨⟨by omega, by omega⟩, trivial⟩]
          have e4 : (((q + k : Nat) : Int)) - 1 = ((q + (k - 1) : Nat) : Int) := by omega
          rw [e4]
          exact ih (k - 1) (by omega) (by omega)
    have := key big (xs.length - 1 - q) (by omega) (by simp only [big]; omega)
    have e5 : ((q + (xs.length - 1 - q) : Nat) : Int) = (xs.length : Int) - 1 := by omega
    rw [e5] at this
    exact this
  have e3 : ∀ n : Nat, ((n : Int)).toNat = n := fun _ => rfl
  by_cases hf : xs.getD p 0 = clampI xs x
  · refine ⟨p, 1, 0, hp, ?_, .inl ⟨rfl, rfl, ?_⟩⟩
    · unfold u85
      rw [gd_pos ⟨⟨by omega, by omega⟩, trivial⟩, gd_pos ⟨⟨by omega, by omega⟩, ⟨by omega, by omega⟩, trivial⟩, e1]
      change lt (clampI xs x) _ = _
      rw [lt_eq, gd_pos ⟨⟨by omega, by omega⟩, trivial⟩]
      refine down p _ (fun g => ?_) (fun i hi hl => ?_) hp
      · rw [u85L1, if_pos (by simp), gd_pos ⟨⟨by omega, by omega⟩, trivial⟩, e3, if_pos (by simpa using hf.symm)]
      · have := axis_lt h hi hl; omega
    · unfold u91
      rw [gd_pos ⟨⟨by omega, by omega⟩, ⟨by omega, by omega⟩, ⟨by omega, by omega⟩, trivial⟩, e1]
      change lt (clampI xs x) _ = _
      rw [lt_eq, r132 (by omega) hp h1 h2, gd_pos ⟨rfl, trivial⟩, vl_some, lt_eq, if_pos (by simpa using hf)]
  · have hgt : clampI xs x < xs.getD p 0 := by have := h2 p (Nat.le_refl _) hp; omega
    have hp0 : 0 < p := by
      apply Nat.pos_of_ne_zero
      intro h0; subst h0; omega
    obtain ⟨q, rfl⟩ : ∃ q, p = q + 1 := ⟨p - 1, by omega⟩
    have hlt := h1 q (by omega)
    have b1 := axis_in h hp
    have b2 := axis_in h (by omega : q < xs.length)
    refine ⟨q, xs.getD (q + 1) 0 - clampI xs x, clampI xs x - xs.getD q 0, by omega, ?_, .inr ⟨hp, by omega, by omega, by omega, ?_⟩⟩
    · unfold u85
      rw [gd_pos ⟨⟨by omega, by omega⟩, trivial⟩, gd_pos ⟨⟨by omega, by omega⟩, ⟨by omega, by omega⟩, trivial⟩, e1]
      change lt (clampI xs x) _ = _
      rw [lt_eq, gd_pos ⟨⟨by omega, by omega⟩, trivial⟩]
      refine down q _ (fun g => ?_) (fun i hi hl => ?_) (by omega)
      · have e6 : ((q : Int) + 1).toNat = q + 1 := by omega
        have n1 : ¬ (clampI xs x = xs.getD q 0) := by omega
        rw [u85L1, if_pos (by simp), gd_pos ⟨⟨by omega, by omega⟩, trivial⟩, e3, if_neg (by simpa using n1), gd_pos ⟨⟨by omega, by omega⟩, trivial⟩, if_pos (by simpa using hlt), e6, gd_pos ⟨⟨by omega, by omega⟩, ⟨by omega, by omega⟩, ⟨by omega, by omega⟩, ⟨by omega, by omega⟩, ⟨by omega, by omega⟩, trivial⟩]
      · by_cases hq : i = q + 1
        · subst hq; exact hgt
        · have := axis_lt h (by omega : q + 1 < i) hl; omega
    · have e6 : (((q + 1 : Nat) : Int) - 1).toNat = q := by omega
      have e7 : ((q + 1 : Nat) : Int) - 1 = (q : Int) := by omega
      unfold u91
      rw [gd_pos ⟨⟨by omega, by omega⟩, ⟨by omega, by omega⟩, ⟨by omega, by omega⟩, trivial⟩, e1]
      change lt (clampI xs x) _ = _
      rw [lt_eq, r132 (by omega) hp h1 h2, gd_pos ⟨rfl, trivial⟩, vl_some, lt_eq, if_neg (by simpa using hf), e6, e3, gd_pos ⟨⟨by omega, by omega⟩, ⟨by omega, by omega⟩, ⟨by omega, by omega⟩, ⟨by omega, by omega⟩, ⟨by omega, by omega⟩, ⟨by omega, by omega⟩, ⟨by omega, by omega⟩, ⟨by omega, by omega⟩, ⟨by omega, by omega⟩, ⟨by omega, by omega⟩, trivial⟩, lt_eq, e7]
      congr 2
      omega
end Go.Proofs.YtippccamjlfafaaGreatDoor
end
section
/- What a table says at a place: the program's function and the reference's agree. -/
namespace Go.Proofs.YtippccamjlfafaaGreatDoor
open Go Go.Proofs Go.Proofs.Xv Go.Proofs.Xl Go.Proofs.Xd
def celV (t : Y96) (r q : Nat) : Int := t.2.2.getD (r * t.2.1.length + q) 0
def rowX (t : Y96) (r q : Nat) (w c d : Int) : Int := celV t r q * w * c + celV t r (q + 1) * w * d
theorem cel_bd {t : Y96} (ht : isTable t = true) {r q : Nat} (hr : r < t.1.length) (hq : q < t.2.1.length) {w c : Int} (w0 : 0 ≤ w) (w1 : w ≤ 100000) (c0 : 0 ≤ c) (c1 : c ≤ 100000) :
    (-100000000000 ≤ celV t r q * w ∧ celV t r q * w ≤ 100000000000) ∧ -10000000000000000 ≤ celV t r q * w * c ∧ celV t r q * w * c ≤ 10000000000000000 := by
  obtain ⟨_, _, _, _, hl, _, _⟩ := table_len ht
  have h := table_in ht (i := r * t.2.1.length + q) (by have := row_ix hr hq; omega)
  have h1 := mul_bd (A := 1000000) h.1 h.2 w0 w1 (by decide)
  have h2 := mul_bd (A := 100000000000) (B := 100000) (x := celV t r q * w) (by unfold celV; omega) (by unfold celV; omega) c0 c1 (by decide)
  unfold celV at *
  omega
/-- The elements of an axis with their weights. -/
def Sh (n q : Nat) (c d : Int) (M : List (Int × Int)) : Prop := (c = 1 ∧ d = 0 ∧ M = [((q : Int), 1)]) ∨ (q + 1 < n ∧ 0 < c ∧ 0 < d ∧ c + d ≤ 100000 ∧ M = [((q : Int), c), ((q : Int) + 1, d)])
theorem rowX_bd {t : Y96} (ht : isTable t = true) {r q : Nat} (hr : r < t.1.length) (hq : q < t.2.1.length) {w c d : Int} {M : List (Int × Int)} (hM : Sh t.2.1.length q c d M) (w0 : 0 ≤ w) (w1 : w ≤ 100000) : -20000000000000000 ≤ rowX t r q w c d ∧ rowX t r q w c d ≤ 20000000000000000 := by
  unfold rowX
  rcases hM with ⟨rfl, rfl, _⟩ | ⟨hq1, c0, d0, hcd, _⟩
  · have h1 := (cel_bd ht hr hq w0 w1 (c := 1) (by decide) (by decide)).2
    rw [Int.mul_zero]; omega
  · have h1 := (cel_bd ht hr hq w0 w1 (c := c) (by omega) (by omega)).2
    have h2 := (cel_bd ht hr hq1 w0 w1 (c := d) (by omega) (by omega)).2
    omega
theorem look3 {t : Y96} (ht : isTable t = true) {r q : Nat} (hr : r < t.1.length) (hq : q < t.2.1.length) {w c : Int} (w0 : 0 ≤ w) (w1 : w ≤ 100000) (c0 : 0 ≤ c) (c1 : c ≤ 100000) {R : Int} (hR : R = (r : Int)) {v1 : List Y161 × Int} {v11 : Int} {g1 g3 : Int × Int → Option Int} {s : Int} (s0 : -100000000000000000 ≤ s) (s1 : s ≤ 100000000000000000) {i : Nat} (hi : i < v1.1.length) (hn : v1.1.length ≤ 2)
    {Q : Int} (hQ : Q = (q : Int)) (he : v1.1.getD i (dflt y161) = (Q, c)) : u47L3 t (R, w) v1 v11 g1 g3 (s, (i : Int)) = g3 (s + celV t r q * w * c, (i : Int) + 1) := by
  subst hR; subst hQ
  obtain ⟨_, a4, _, b4, hl, _, h16⟩ := table_len ht
  have hix := row_ix hr hq
  have hb := cel_bd ht hr hq w0 w1 c0 c1
  have e3 : ((i : Int)).toNat = i := rfl
  have em : (r : Int) * (t.2.1.length : Int) = ((r * t.2.1.length : Nat) : Int) := by simp
  have ek : (((r * t.2.1.length : Nat) : Int) + (q : Int)).toNat = r * t.2.1.length + q := by omega
  rw [u47L3, if_pos (by simpa using hi), e3, gd_pos ⟨⟨by omega, by omega⟩, hi, trivial⟩, lt_eq, he]
  unfold celV at hb ⊢
  show gd (in64 ((r : Int) * (t.2.1.length : Int)) ∧ in64 ((r : Int) * (t.2.1.length : Int) + (q : Int)) ∧ ix ((r : Int) * (t.2.1.length : Int) + (q : Int)) t.2.2.length ∧ in64 (t.2.2.getD ((r : Int) * (t.2.1.length : Int) + (q : Int)).toNat 0 * w) ∧ in64 (t.2.2.getD ((r : Int) * (t.2.1.length : Int) + (q : Int)).toNat 0 * w * c) ∧ in64 (s + t.2.2.getD ((r : Int) * (t.2.1.length : Int) + (q : Int)).toNat 0 * w * c) ∧ True) (lt (s + t.2.2.getD ((r : Int) * (t.2.1.length : Int) + (q : Int)).toNat 0 * w * c) fun v18 => gd _ (g3 (v18, (i : Int) + 1))) = _
  rw [em, ek, gd_pos ⟨⟨by omega, by omega⟩, ⟨by omega, by omega⟩, ⟨by omega, by omega⟩, ⟨by omega, by omega⟩, ⟨by omega, by omega⟩, ⟨by omega, by omega⟩, trivial⟩, lt_eq, gd_pos ⟨⟨by omega, by omega⟩, trivial⟩]
theorem lookE {t : Y96} {v12 : Y161} {v1 : List Y161 × Int} {v11 : Nat} (hv : v11 ≤ 2) {g1 g3 : Int × Int → Option Int} {s : Int} : u47L3 t v12 v1 (v11 : Int) g1 g3 (s, (v1.1.length : Int)) = g1 (s, (v11 : Int) + 1) := by
  rw [u47L3, if_neg (by simp), u47J2, gd_pos ⟨⟨by omega, by omega⟩, trivial⟩]
theorem itF_s {σ ρ : Type} {F : (σ → Option ρ) → σ → Option ρ} {n : Nat} {s : σ} : itF F (n + 1) s = F (itF F n) s := rfl
theorem nat01 : ((0 : Nat) : Int) + 1 = ((1 : Nat) : Int) := rfl
theorem nat12 : ((1 : Nat) : Int) + 1 = ((2 : Nat) : Int) := rfl
/-- A row of the sum. -/
theorem lookR {t : Y96} (ht : isTable t = true) {r q : Nat} (hr : r < t.1.length) (hq : q < t.2.1.length) {w c d : Int} {M : List (Int × Int)} (hM : Sh t.2.1.length q c d M) (w0 : 0 ≤ w) (w1 : w ≤ 100000) {R T : Int} (hR : R = (r : Int)) {v11 : Nat} (hv : v11 ≤ 2) {g1 : Int × Int → Option Int} {s : Int} (s0 : -50000000000000000 ≤ s) (s1 : s ≤ 50000000000000000) :
    lp (u47L3 t (R, w) (M, T) (v11 : Int) g1) (s, 0) = g1 (s + rowX t r q w c d, (v11 : Int) + 1) := by
  unfold rowX
  rcases hM with ⟨rfl, rfl, rfl⟩ | ⟨hq1, c0, d0, hcd, rfl⟩
  · refine lp_of 2 (by decide) fun n => ?_
    rw [itF_s]
    refine (look3 (v1 := ([((q : Int), 1)], T)) (i := 0) (s := s) (c := 1) ht hr hq w0 w1 (by decide) (by decide) hR (by omega) (by omega) (Nat.le_refl 1) (Nat.le_succ 1) rfl rfl).trans ?_
    rw [Int.mul_zero, Int.add_zero, itF_s, nat01]
    exact lookE (v1 := ([((q : Int), 1)], T)) hv
  · have hb := (cel_bd ht hr hq w0 w1 (c := c) (by omega) (by omega)).2
    refine lp_of 3 (by decide) fun n => ?_
    rw [itF_s]
    refine (look3 (v1 := ([((q : Int), c), ((q : Int) + 1, d)], T)) (i := 0) (s := s) (c := c) ht hr hq w0 w1 (by omega) (by omega) hR (by omega) (by omega) (Nat.le_succ 1) (Nat.le_refl 2) rfl rfl).trans ?_
    rw [itF_s, nat01]
    refine (look3 (v1 := ([((q : Int), c), ((q : Int) + 1, d)], T)) (i := 1) (s := s + celV t r q * w * c) (c := d) (q := q + 1) ht hr hq1 w0 w1 (by omega) (by omega) hR (by omega) (by omega) (Nat.le_refl 2) (Nat.le_refl 2) (Int.natCast_succ q).symm rfl).trans ?_
    rw [← Int.add_assoc, itF_s, nat12]
    exact lookE (v1 := ([((q : Int), c), ((q : Int) + 1, d)], T)) hv
theorem slook6 {t : Y96} (ht : isTable t = true) {p u r q k : Nat} (hpu : r = p + u) (hr : r < t.1.length) (hq : q < t.2.1.length) {w c W : Int} (w0 : 0 ≤ w) (w1 : w ≤ 100000) (c0 : 0 ≤ c) (c1 : c ≤ 100000) (hW : W = w * c) {v0 v1 : Int × Int × Int} (h0 : v0.1 = (p : Int)) {q0 : Nat} (h1 : v1.1 = (q0 : Int)) (hk : q = q0 + k) (hk2 : k ≤ 1) (hu : u ≤ 1) {g3 : Int × Int → Option Int} {s : Int} (s0 : -100000000000000000 ≤ s) (s1 : s ≤ 100000000000000000) :
    u43J6 (k : Int) s t v0 (u : Int) v1 g3 W = g3 (s + celV t r q * w * c, (k : Int) + 1) := by
  obtain ⟨_, a4, _, b4, hl, _, h16⟩ := table_len ht
  have hix := row_ix hr hq
  have hb := cel_bd ht hr hq w0 w1 c0 c1
  subst hpu; subst hk
  have em : ((p : Int) + (u : Int)) * (t.2.1.length : Int) = (((p + u) * t.2.1.length : Nat) : Int) := by simp
  have ek : ((((p + u) * t.2.1.length : Nat) : Int) + (q0 : Int) + (k : Int)).toNat = (p + u) * t.2.1.length + (q0 + k) := by omega
  have hW2 : W * celV t (p + u) (q0 + k) = celV t (p + u) (q0 + k) * w * c := by rw [hW, Int.mul_comm, ← Int.mul_assoc]
  rw [u43J6]
  by_cases hp : 0 < W
  · unfold celV at hb hW2 ⊢
    rw [if_pos (by simpa using hp), h0, h1, em, ek, hW2, gd_pos ⟨⟨by omega, by omega⟩, ⟨by omega, by omega⟩, ⟨by omega, by omega⟩, ⟨by omega, by omega⟩, ⟨by omega, by omega⟩, ⟨by omega, by omega⟩, ⟨by omega, by omega⟩, trivial⟩, lt_eq, u43J4, gd_pos ⟨⟨by omega, by omega⟩, trivial⟩]
  · have hW0 : W = 0 := by
      have : 0 ≤ w * c := Int.mul_nonneg w0 c0
      omega
    have e0 : celV t (p + u) (q0 + k) * w * c = 0 := by rw [← hW2, hW0, Int.zero_mul]
    rw [if_neg (by simpa using hp), u43J4, gd_pos ⟨⟨by omega, by omega⟩, trivial⟩, e0, Int.add_zero]
theorem slook6z {t : Y96} {u k : Nat} {v0 v1 : Int × Int × Int} (hk2 : k ≤ 1) {g3 : Int × Int → Option Int} {s W : Int} (hW : W = 0) : u43J6 (k : Int) s t v0 (u : Int) v1 g3 W = g3 (s, (k : Int) + 1) := by
  subst hW
  rw [u43J6, if_neg (by simp), u43J4, gd_pos ⟨⟨by omega, by omega⟩, trivial⟩]
theorem in_mul {w c : Int} (w0 : 0 ≤ w) (w1 : w ≤ 100000) (c0 : 0 ≤ c) (c1 : c ≤ 100000) : in64 (w * c) ∧ True := by
  have := mul_bd (A := 100000) (B := 100000) (x := w) (y := c) (by omega) w1 c0 c1 (by decide)
  exact ⟨⟨by omega, by omega⟩, trivial⟩
/-- The rows of one round. -/
theorem slook3 {t : Y96} {u k : Nat} (hk : k ≤ 1) {v0 v1 : Int × Int × Int} {g1 g3 : Int × Int → Option Int} {s w e : Int} (hw : (if (u : Int) = 1 then v0.2.2 else v0.2.1) = w) (he : (if k = 0 then v1.2.1 else v1.2.2) = e) (w0 : 0 ≤ w) (w1 : w ≤ 100000) (e0 : 0 ≤ e) (e1 : e ≤ 100000) :
    u43L3 t v0 (u : Int) v1 g1 g3 (s, (k : Int)) = u43J6 (k : Int) s t v0 (u : Int) v1 g3 (w * e) := by
  have key : ∀ W, W = w → u43J5 (k : Int) s t v0 (u : Int) v1 g3 W = u43J6 (k : Int) s t v0 (u : Int) v1 g3 (w * e) := by
    intro W hW
    subst hW
    rw [u43J5]
    by_cases h0 : k = 0
    · subst h0
      have he' : v1.2.1 = e := he
      rw [if_pos (by rfl), he', gd_pos (in_mul w0 w1 e0 e1)]
    · rw [if_neg h0] at he
      rw [if_neg (by simpa using h0), he, gd_pos (in_mul w0 w1 e0 e1)]
  rw [u43L3, if_pos (by simp; omega)]
  by_cases hu : (u : Int) = 1
  · rw [if_pos hu] at hw
    rw [if_pos (by simpa using hu)]
    exact key _ hw
  · rw [if_neg hu] at hw
    rw [if_neg (by simpa using hu)]
    exact key _ hw
theorem slookE {t : Y96} {u : Nat} (hu : u ≤ 1) {v0 v1 : Int × Int × Int} {g1 g3 : Int × Int → Option Int} {s : Int} : u43L3 t v0 (u : Int) v1 g1 g3 (s, ((2 : Nat) : Int)) = g1 (s, (u : Int) + 1) := by
  rw [u43L3, if_neg (by simp), u43J2, gd_pos ⟨⟨by omega, by omega⟩, trivial⟩]
theorem slookR {t : Y96} (ht : isTable t = true) {p u r q : Nat} (hpu : r = p + u) (hu : u ≤ 1) (hr : r < t.1.length) (hq : q < t.2.1.length) {a b w c d : Int} {M : List (Int × Int)} (hM : Sh t.2.1.length q c d M) (hw : (if (u : Int) = 1 then b else a) = w) (w0 : 0 ≤ w) (w1 : w ≤ 100000) {g1 : Int × Int → Option Int} {s : Int} (s0 : -50000000000000000 ≤ s) (s1 : s ≤ 50000000000000000) :
    lp (u43L3 t ((p : Int), a, b) (u : Int) ((q : Int), c, d) g1) (s, 0) = g1 (s + rowX t r q w c d, (u : Int) + 1) := by
  have hcd : 0 ≤ c ∧ c ≤ 100000 ∧ 0 ≤ d ∧ d ≤ 100000 := by
    rcases hM with ⟨rfl, rfl, _⟩ | ⟨_, _, _, _, _⟩ <;> omega
  obtain ⟨c0, c1, d0, d1⟩ := hcd
  have hb := (cel_bd ht hr hq w0 w1 c0 c1).2
  refine lp_of 3 (by decide) fun n => ?_
  rw [itF_s]
  refine (slook3 (k := 0) (e := c) (by decide) hw rfl w0 w1 c0 c1).trans ?_
  refine (slook6 ht hpu hr hq w0 w1 c0 c1 rfl rfl (q0 := q) rfl (k := 0) rfl (by decide) hu (by omega) (by omega)).trans ?_
  rw [itF_s, nat01]
  refine (slook3 (k := 1) (e := d) (by decide) hw rfl w0 w1 d0 d1).trans ?_
  unfold rowX
  rcases hM with ⟨rfl, rfl, _⟩ | ⟨hq1, _, _, _, _⟩
  · refine (slook6z (by decide) (Int.mul_zero w)).trans ?_
    rw [itF_s, nat12, slookE hu, Int.mul_zero, Int.add_zero]
  · refine (slook6 ht hpu hr hq1 w0 w1 d0 d1 rfl rfl (q0 := q) rfl (k := 1) rfl (by decide) hu (by omega) (by omega)).trans ?_
    rw [itF_s, nat12, slookE hu, Int.add_assoc]
theorem slookZ {t : Y96} {p u q : Nat} (hu : u ≤ 1) {a b c d : Int} (hw : (if (u : Int) = 1 then b else a) = 0) (c0 : 0 ≤ c) (c1 : c ≤ 100000) (d0 : 0 ≤ d) (d1 : d ≤ 100000) {g1 : Int × Int → Option Int} {s : Int} :
    lp (u43L3 t ((p : Int), a, b) (u : Int) ((q : Int), c, d) g1) (s, 0) = g1 (s, (u : Int) + 1) := by
  refine lp_of 3 (by decide) fun n => ?_
  rw [itF_s]
  refine (slook3 (k := 0) (e := c) (by decide) hw rfl (by decide) (by decide) c0 c1).trans ?_
  refine (slook6z (by decide) (Int.zero_mul _)).trans ?_
  rw [itF_s, nat01]
  refine (slook3 (k := 1) (e := d) (by decide) hw rfl (by decide) (by decide) d0 d1).trans ?_
  refine (slook6z (by decide) (Int.zero_mul _)).trans ?_
  rw [itF_s, nat12, slookE hu]
theorem shape {xs : List Int} (x : Int) (h : isAxis xs = true) : ∃ (p : Nat) (a b : Int) (L : List (Int × Int)), p < xs.length ∧ Sh xs.length p a b L ∧ u85 xs x = some ((p : Int), a, b) ∧ u91 xs x = some (L, a + b) := by
  obtain ⟨p, a, b, hp, h1, h2⟩ := r91 x h
  rcases h2 with ⟨rfl, rfl, h3⟩ | ⟨h3, h4, h5, h6, h7⟩
  · exact ⟨p, 1, 0, _, hp, .inl ⟨rfl, rfl, rfl⟩, h1, h3⟩
  · exact ⟨p, a, b, _, hp, .inr ⟨h3, h4, h5, h6, rfl⟩, h1, h7⟩
theorem look1 {t : Y96} (ht : isTable t = true) {p q : Nat} (hp : p < t.1.length) (hq : q < t.2.1.length) {a b c d : Int} {L M : List (Int × Int)} (hL : Sh t.1.length p a b L) (hM : Sh t.2.1.length q c d M) (T U m : Int) :
    lp (u47L1 t (M, U) (L, T) m) (0, 0) = u47J0 (L, T) (M, U) m (rowX t p q a c d + (if b = 0 then 0 else rowX t (p + 1) q b c d)) := by
  have e3 : ∀ n : Nat, ((n : Int)).toNat = n := fun _ => rfl
  rcases hL with ⟨rfl, rfl, rfl⟩ | ⟨hp1, a0, b0, hab, rfl⟩
  · refine lp_of 2 (by decide) fun n => ?_
    rw [itF_s, u47L1, if_pos (by simp), gd_pos ⟨⟨by decide, by simp⟩, by simp, trivial⟩, lt_eq]
    refine (lookR (v11 := 0) ht hp hq hM (w := 1) (by decide) (by decide) rfl (by decide) (by decide) (by decide)).trans ?_
    rw [itF_s, nat01, u47L1, if_neg (by simp), if_pos rfl, Int.zero_add, Int.add_zero]
  · have hb := rowX_bd ht hp hq hM (w := a) (by omega) (by omega)
    refine lp_of 3 (by decide) fun n => ?_
    rw [itF_s, u47L1, if_pos (by simp), gd_pos ⟨⟨by decide, by simp⟩, by simp, trivial⟩, lt_eq]
    refine (lookR (v11 := 0) ht hp hq hM (w := a) (by omega) (by omega) rfl (by decide) (by decide) (by decide)).trans ?_
    rw [itF_s, nat01, u47L1, if_pos (by simp), gd_pos ⟨⟨by decide, by simp⟩, by simp, trivial⟩, lt_eq]
    refine (lookR (v11 := 1) ht hp1 hq hM (w := b) (by omega) (by omega) (Int.natCast_succ p).symm (by decide) (by omega) (by omega)).trans ?_
    rw [itF_s, nat12, u47L1, if_neg (by simp), if_neg (by omega), Int.zero_add]
theorem slook1 {t : Y96} (ht : isTable t = true) {p q : Nat} (hp : p < t.1.length) (hq : q < t.2.1.length) {a b c d : Int} {L M : List (Int × Int)} (hL : Sh t.1.length p a b L) (hM : Sh t.2.1.length q c d M) (m : Int) :
    lp (u43L1 t ((p : Int), a, b) ((q : Int), c, d) m) (0, 0) = u43J0 ((p : Int), a, b) ((q : Int), c, d) m (rowX t p q a c d + (if b = 0 then 0 else rowX t (p + 1) q b c d)) := by
  have hab : 0 ≤ a ∧ a ≤ 100000 ∧ 0 ≤ b ∧ b ≤ 100000 ∧ (b ≠ 0 → p + 1 < t.1.length) := by
    rcases hL with ⟨rfl, rfl, _⟩ | ⟨_, _, _, _, _⟩ <;> omega
  obtain ⟨a0, a1, b0, b1, hp1⟩ := hab
  have hcd : 0 ≤ c ∧ c ≤ 100000 ∧ 0 ≤ d ∧ d ≤ 100000 := by
    rcases hM with ⟨rfl, rfl, _⟩ | ⟨_, _, _, _, _⟩ <;> omega
  obtain ⟨c0, c1, d0, d1⟩ := hcd
  have hb := rowX_bd ht hp hq hM a0 a1
  refine lp_of 3 (by decide) fun n => ?_
  rw [itF_s, u43L1, if_pos (by simp)]
  refine (slookR (u := 0) (p := p) (r := p) (w := a) ht rfl (by decide) hp hq hM rfl a0 a1 (by decide) (by decide)).trans ?_
  rw [itF_s, nat01, u43L1, if_pos (by simp)]
  by_cases hz : b = 0
  · subst hz
    refine (slookZ (u := 1) (by decide) rfl c0 c1 d0 d1).trans ?_
    rw [itF_s, nat12, u43L1, if_neg (by simp), if_pos rfl, Int.zero_add, Int.add_zero]
  · refine (slookR (u := 1) (p := p) (r := p + 1) (w := b) ht rfl (by decide) (hp1 hz) hq hM rfl b0 b1 (by omega) (by omega)).trans ?_
    rw [itF_s, nat12, u43L1, if_neg (by simp), if_neg hz, Int.zero_add]
/-- Both functions say the same of a valid table. -/
theorem r47 {t : Y96} (ht : isTable t = true) (s l m : Int) : ∃ r, u47 t s l m = some r ∧ u43 t s l m = some r := by
  have hax : isAxis t.1 = true ∧ isAxis t.2.1 = true := by
    simp only [isTable, Bool.and_eq_true] at ht
    exact ⟨ht.1.1.1, ht.1.1.2⟩
  obtain ⟨p, a, b, L, hp, hL, h1, h2⟩ := shape s hax.1
  obtain ⟨q, c, d, M, hq, hM, h3, h4⟩ := shape l hax.2
  have hab : 0 ≤ a ∧ 0 ≤ b ∧ 1 ≤ a + b ∧ a + b ≤ 100000 ∧ a ≤ 100000 ∧ b ≤ 100000 ∧ (b ≠ 0 → p + 1 < t.1.length) := by
    rcases hL with ⟨rfl, rfl, _⟩ | ⟨_, _, _, _, _⟩ <;> omega
  have hcd : 1 ≤ c + d ∧ c + d ≤ 100000 := by
    rcases hM with ⟨rfl, rfl, _⟩ | ⟨_, _, _, _, _⟩ <;> omega
  have hm := mul_bd (A := 100000) (B := 100000) (x := a + b) (y := c + d) (by omega) (by omega) (by omega) (by omega) (by decide)
  have hpos : 0 < (a + b) * (c + d) := Int.mul_pos (by omega) (by omega)
  have x1 := rowX_bd ht hp hq hM (w := a) (by omega) (by omega)
  have x2 : -20000000000000000 ≤ (if b = 0 then 0 else rowX t (p + 1) q b c d) ∧ (if b = 0 then 0 else rowX t (p + 1) q b c d) ≤ 20000000000000000 := by
    by_cases hz : b = 0
    · rw [if_pos hz]; decide
    · rw [if_neg hz]; exact rowX_bd ht (hab.2.2.2.2.2.2 hz) hq hM (by omega) (by omega)
  obtain ⟨r, hr1, hr2⟩ := r92 (rowX t p q a c d + (if b = 0 then 0 else rowX t (p + 1) q b c d)) ((a + b) * (c + d)) m (by omega) (by omega) hpos
  have i1 : in64 ((a + b) * (c + d)) := ⟨by omega, by omega⟩
  have i2 : in64 (a + b) := ⟨by omega, by omega⟩
  have i3 : in64 (c + d) := ⟨by omega, by omega⟩
  refine ⟨r, ?_, ?_⟩
  · unfold u47
    rw [h2, gd_pos ⟨rfl, trivial⟩, vl_some, lt_eq, h4, gd_pos ⟨rfl, trivial⟩, vl_some, lt_eq, look1 ht hp hq hL hM, u47J0, hr1, gd_pos ⟨i1, rfl, trivial⟩, vl_some, lt_eq]
  · unfold u43
    rw [h1, gd_pos ⟨rfl, trivial⟩, vl_some, lt_eq, h3, gd_pos ⟨rfl, trivial⟩, vl_some, lt_eq, slook1 ht hp hq hL hM, u43J0, hr2, gd_pos ⟨i2, i3, i1, rfl, trivial⟩, vl_some, lt_eq]
end Go.Proofs.YtippccamjlfafaaGreatDoor
end
section
/- The program's CheckTime returns what the reference's returns: the law as a plain function gives true for all data. -/
namespace Go.Proofs.YtippccamjlfafaaGreatDoor
open Go Go.Proofs Go.Proofs.Sv Go.Proofs.Xv Go.Proofs.Xl Go.Proofs.Xd
theorem lib_cell {l : List Y152} (h : libOk l = true) {i : Nat} (hi : i < l.length) : cellOk isArcS (celOf l i) = true := by
  have h : libB _ _ _ = true := h
  unfold libB at h
  rw [Bool.and_eq_true] at h
  have := not_any.1 h.1 i hi
  rw [Bool.or_eq_false_iff, Bool.not_eq_false'] at this
  exact this.1
theorem cell_arc {c : Y152} (h : cellOk isArcS c = true) {j : Nat} (hj : j < c.2.2.2.1.length) : isArcS c.2.2.1.length (pinOf c) (arcOf c j) = true := by
  have h : cellB isArcS _ _ _ _ _ _ _ _ _ = true := h
  unfold cellB arcsB at h
  simp only [Bool.and_eq_true] at h
  have := not_any.1 h.1.1.1.2.2 j hj
  rw [Bool.or_eq_false_iff, Bool.not_eq_false'] at this
  exact this.1
theorem arc_chk {n : Nat} {p : Nat → DPin} {a : DArc} (h : isArcS n p a = true) (hk : a.1 = 4 ∨ a.1 = 5) : areTables a.2.2.2.2.1 false = true := by
  unfold isArcS at h
  rw [if_neg (by omega), if_neg (by omega), if_pos hk] at h
  simp only [Bool.and_eq_true] at h
  exact h.2.1.2
theorem tables_at {l : List Y96} {p : Bool} (h : areTables l p = true) : l.length = 2 ∧ ∀ i, i < 2 → isTable (l.getD i (dflt y96)) = true := by
  unfold areTables at h
  rw [Bool.and_eq_true, decide_eq_true_eq] at h
  refine ⟨h.1, fun i hi => ?_⟩
  have := List.all_eq_true.1 h.2 _ (getD_mem (d := dflt y96) (by rw [h.1]; exact hi))
  rw [Bool.and_eq_true] at this
  exact this.1
def chkN (b : Y44) (i a : Int) : Y89 × Bool :=
  if inB i 0 ((b.2.1.1.length : Int) - 1) = true then
    let c : Y152 := b.1.getD (b.2.1.1.getD i.toNat (dflt y141)).2.1.toNat (dflt y152)
    if (inB a 0 ((c.2.2.2.1.length : Int) - 1) && ((c.2.2.2.1.getD a.toNat (dflt y89)).1 == 4 || (c.2.2.2.1.getD a.toNat (dflt y89)).1 == 5)) = true then (c.2.2.2.1.getD a.toNat (dflt y89), true) else ((0, 0, 0, 0, [], []), false)
  else ((0, 0, 0, 0, [], []), false)
theorem inst_cell {b : Y44} (df : DF b.1 b.2.1) {i : Int} (hi : inB i 0 ((b.2.1.1.length : Int) - 1) = true) : ix i b.2.1.1.length ∧ ix (b.2.1.1.getD i.toNat (dflt y141)).2.1 b.1.length := by
  rw [inB_iff] at hi
  refine ⟨⟨by omega, by omega⟩, ?_⟩
  have := df.fac.inst i.toNat (by omega)
  unfold instB at this
  rw [Bool.and_eq_true, Bool.and_eq_true, inB_iff] at this
  exact ⟨this.1.1.1, by have := this.1.1.2; show (b.2.1.1.getD i.toNat (dflt y141)).2.1 < _; unfold insOf at this; omega⟩
theorem r44 (b : Y44) (hw : wf y44 b) (df : DF b.1 b.2.1) (i a : Int) : u44 b i a = some (chkN b i a) := by
  have hn := hw.2.1.1.1
  have e1 : ∀ l, u88 l = some (l.length : Int) := fun _ => rfl
  have e2 : ∀ l, u89 l = some (l.length : Int) := fun _ => rfl
  have e3 : ∀ k, u90 k = some (k == 4 || k == 5) := fun _ => rfl
  unfold u44 chkN
  rw [e1, vl_some, r87, vl_some, gd_pos ⟨rfl, ⟨by omega, by omega⟩, rfl, trivial⟩]
  cases hi : inB i 0 ((b.2.1.1.length : Int) - 1) with
  | false => rfl
  | true =>
    obtain ⟨x1, x2⟩ := inst_cell df hi
    have hc : wf y152 (b.1.getD (b.2.1.1.getD i.toNat (dflt y141)).2.1.toNat (dflt y152)) := wf_el (by have := x2.1; have := x2.2; omega) hw.1
    have ha := hc.2.2.2.1.1
    refine (if_neg (by simp)).trans ?_
    rw [gd_pos ⟨x1, x2, trivial⟩, lt_eq, e2, vl_some, r87, vl_some]
    generalize b.1.getD (b.2.1.1.getD i.toNat (dflt y141)).2.1.toNat (dflt y152) = c at hc ha ⊢
    have e4 : ∀ x, vl (u90 x) = (x == 4 || x == 5) := fun _ => rfl
    rw [e4]
    refine Eq.trans ?_ (congrArg some (if_pos rfl).symm)
    have hg : (some (c.2.2.2.1.length : Int)).isSome = true ∧ in64 ((c.2.2.2.1.length : Int) - 1) ∧ (some (inB a 0 ((c.2.2.2.1.length : Int) - 1))).isSome = true ∧ ((!inB a 0 ((c.2.2.2.1.length : Int) - 1)) = false ∧ True → ix a c.2.2.2.1.length) ∧ ((!inB a 0 ((c.2.2.2.1.length : Int) - 1)) = false ∧ True → (u90 (c.2.2.2.1.getD a.toNat (dflt y89)).1).isSome = true) ∧ True := by
      refine ⟨rfl, ⟨by omega, by omega⟩, rfl, fun h => ?_, fun _ => rfl, trivial⟩
      have := h.1
      rw [Bool.not_eq_false', inB_iff] at this
      exact ⟨by omega, by omega⟩
    rw [gd_pos hg]
    show _ = some (if _ then _ else _)
    cases ha2 : inB a 0 ((c.2.2.2.1.length : Int) - 1) with
    | false => rfl
    | true =>
      rw [inB_iff] at ha2
      cases (c.2.2.2.1.getD a.toNat (dflt y89)).1 == 4 || (c.2.2.2.1.getD a.toNat (dflt y89)).1 == 5 with
      | false => rfl
      | true =>
        refine (if_neg (by simp)).trans ?_
        rw [gd_pos ⟨⟨by omega, by omega⟩, trivial⟩]
        rfl
theorem r41 (b : Y44) (hw : wf y44 b) (df : DF b.1 b.2.1) (i a : Int) : u41 b i a = some (chkN b i a) := by
  have hn := hw.2.1.1.1
  unfold u41 chkN
  rw [r42, vl_some, gd_pos ⟨⟨by omega, by omega⟩, rfl, trivial⟩]
  cases hi : inB i 0 ((b.2.1.1.length : Int) - 1) with
  | false => rfl
  | true =>
    obtain ⟨x1, x2⟩ := inst_cell df hi
    have hc : wf y152 (b.1.getD (b.2.1.1.getD i.toNat (dflt y141)).2.1.toNat (dflt y152)) := wf_el (by have := x2.1; have := x2.2; omega) hw.1
    have ha := hc.2.2.2.1.1
    refine (if_neg (by simp)).trans ?_
    rw [gd_pos ⟨x1, x2, trivial⟩, lt_eq, r42, vl_some]
    generalize b.1.getD (b.2.1.1.getD i.toNat (dflt y141)).2.1.toNat (dflt y152) = c at hc ha ⊢
    refine Eq.trans ?_ (congrArg some (if_pos rfl).symm)
    have hx : (!inB a 0 ((c.2.2.2.1.length : Int) - 1)) = false → ix a c.2.2.2.1.length := fun this => by
      rw [Bool.not_eq_false', inB_iff] at this
      exact ⟨by omega, by omega⟩
    rw [gd_pos ⟨⟨by omega, by omega⟩, rfl, fun h => hx h.1, fun h => hx h.2.1, trivial⟩]
    show _ = some (if _ then _ else _)
    cases ha2 : inB a 0 ((c.2.2.2.1.length : Int) - 1) with
    | false => rfl
    | true =>
      rw [inB_iff] at ha2
      have e4 : ∀ x : Int, (x != 4 && x != 5) = !(x == 4 || x == 5) := fun x => by simp [bne]
      rw [e4]
      cases (c.2.2.2.1.getD a.toNat (dflt y89)).1 == 4 || (c.2.2.2.1.getD a.toNat (dflt y89)).1 == 5 with
      | false => rfl
      | true =>
        refine (if_neg (by simp)).trans ?_
        rw [gd_pos ⟨⟨by omega, by omega⟩, trivial⟩]
        rfl
theorem chkN_ok {b : Y44} (df : DF b.1 b.2.1) {i a : Int} (h : (chkN b i a).2 = true) : areTables (chkN b i a).1.2.2.2.2.1 false = true := by
  unfold chkN at h ⊢
  cases hi : inB i 0 ((b.2.1.1.length : Int) - 1) with
  | false => rw [hi] at h; cases h
  | true =>
    obtain ⟨x1, x2⟩ := inst_cell df hi
    rw [hi, if_pos rfl] at h
    rw [if_pos rfl]
    have hc := lib_cell df.lib (i := (b.2.1.1.getD i.toNat (dflt y141)).2.1.toNat) (by have := x2.1; have := x2.2; omega)
    unfold celOf at hc
    generalize b.1.getD (b.2.1.1.getD i.toNat (dflt y141)).2.1.toNat (dflt y152) = c at hc h ⊢
    by_cases hk : (inB a 0 ((c.2.2.2.1.length : Int) - 1) && ((c.2.2.2.1.getD a.toNat (dflt y89)).1 == 4 || (c.2.2.2.1.getD a.toNat (dflt y89)).1 == 5)) = true
    · show areTables (if _ then _ else _ : Y89 × Bool).1.2.2.2.2.1 false = true
      rw [if_pos hk]
      rw [Bool.and_eq_true, inB_iff, Bool.or_eq_true, beq_iff_eq, beq_iff_eq] at hk
      exact arc_chk (cell_arc hc (j := a.toNat) (by omega)) hk.2
    · have h : (if _ then _ else _ : Y89 × Bool).2 = true := h
      rw [if_neg hk] at h
      cases h
def ctOf (b : Y44) (i a t d c : Int) : Int × Int :=
  if blockOk b = true then
    if (chkN b i a).2 = true then
      if (inB t 0 1 && inB d 0 1000000 && inB c 0 1000000) = true then (vl (u43 ((chkN b i a).1.2.2.2.2.1.getD t.toNat (dflt y96)) d c 1), 0) else (0, 2)
    else (0, 4)
  else (0, 1)
theorem r14 (b : Y44) (hw : wf y44 b) (hm : cnt y44 b ≤ 1048576) (i a t d c : Int) : u14 b i a t d c = some (ctOf b i a t d c) := by
  unfold u14 ctOf
  rw [r35 b hw hm, vl_some, gd_pos ⟨rfl, trivial⟩]
  cases hb : blockOk b with
  | false => rfl
  | true =>
    have df := df_of (block_design hb).1
    refine (if_neg (by simp)).trans ?_
    rw [r44 b hw df, vl_some, gd_pos ⟨rfl, trivial⟩, lt_eq]
    refine Eq.trans ?_ (congrArg some (if_pos rfl).symm)
    cases hk : (chkN b i a).2 with
    | false => rfl
    | true =>
      refine (if_neg (by simp)).trans ?_
      have e1 : u45 t = some (inB t 0 1) := by
        have : (t == 0 || t == 1) = inB t 0 1 := by
          rw [Bool.eq_iff_iff, inB_iff, Bool.or_eq_true, beq_iff_eq, beq_iff_eq]; omega
        rw [← this]; rfl
      have e2 : ∀ x, u46 x = some (inB x 0 1000000) := fun x => rfl
      rw [e1, e2, e2, vl_some, vl_some, vl_some, gd_pos ⟨rfl, fun _ => rfl, fun _ => rfl, trivial⟩]
      refine Eq.trans ?_ (congrArg some (if_pos rfl).symm)
      cases ht : inB t 0 1 with
      | false => rfl
      | true =>
        cases inB d 0 1000000 with
        | false => rfl
        | true =>
          cases inB c 0 1000000 with
          | false => rfl
          | true =>
            refine (if_neg (by simp)).trans ?_
            rw [inB_iff] at ht
            have htb := tables_at (chkN_ok df hk)
            have hix : ix t (chkN b i a).1.2.2.2.2.1.length := ⟨ht.1, by rw [htb.1]; omega⟩
            obtain ⟨r, h1, h2⟩ := r47 (htb.2 t.toNat (by omega)) d c 1
            rw [h1, gd_pos ⟨hix, rfl, trivial⟩, lt_eq, h2]
            rfl
theorem r13 (b : Y44) (hw : wf y44 b) (hm : cnt y44 b ≤ 1048576) (i a t d c : Int) : u13 b i a t d c = some (ctOf b i a t d c) := by
  unfold u13 ctOf
  rw [r30 b hw hm, vl_some, gd_pos ⟨rfl, trivial⟩]
  cases hb : blockOk b with
  | false => rfl
  | true =>
    have df := df_of (block_design hb).1
    refine (if_neg (by simp)).trans ?_
    rw [r41 b hw df, vl_some, gd_pos ⟨rfl, trivial⟩, lt_eq]
    refine Eq.trans ?_ (congrArg some (if_pos rfl).symm)
    cases hk : (chkN b i a).2 with
    | false => rfl
    | true =>
      refine (if_neg (by simp)).trans ?_
      rw [r42, r42, r42, vl_some, vl_some, vl_some, gd_pos ⟨rfl, fun _ => rfl, fun _ => rfl, trivial⟩]
      refine Eq.trans ?_ (congrArg some (if_pos rfl).symm)
      cases ht : inB t 0 1 with
      | false => rfl
      | true =>
        cases inB d 0 1000000 with
        | false => rfl
        | true =>
          cases inB c 0 1000000 with
          | false => rfl
          | true =>
            refine (if_neg (by simp)).trans ?_
            rw [inB_iff] at ht
            have htb := tables_at (chkN_ok df hk)
            have hix : ix t (chkN b i a).1.2.2.2.2.1.length := ⟨ht.1, by rw [htb.1]; omega⟩
            obtain ⟨r, h1, h2⟩ := r47 (htb.2 t.toNat (by omega)) d c 1
            rw [h2, gd_pos ⟨hix, rfl, trivial⟩, lt_eq]
            rfl
theorem r4 (b : Y32) (i a t d c : Int) (hw : wf y32 b) (_ : InI i) (_ : InI a) (_ : InI t) (_ : InI d) (_ : InI c) : u4 b i a t d c = some true := by
  unfold u4
  rw [z8 b 1048576 hw (by decide) (by decide), vl_some, gd_pos ⟨rfl, trivial⟩, lt_eq]
  by_cases hc : szN (cnt y32 b) 1048576 < 0
  · exact if_pos (by simpa using hc)
  · refine (if_neg (by simpa using hc)).trans ?_
    have hm : cnt y32 b ≤ 1048576 := by
      unfold szN at hc
      split at hc <;> omega
    rw [w10 b hm, vl_some, r13 b hw hm, vl_some, gd_pos ⟨rfl, rfl, trivial⟩, lt_eq]
    show gd _ (lt b fun v3 => gd _ (lt _ _)) = _
    rw [gd_pos ⟨rfl, trivial⟩, lt_eq, r14 b hw hm, vl_some, gd_pos ⟨rfl, trivial⟩, lt_eq]
    refine (if_neg (by simp)).trans ?_
    rw [e12 b hm, gd_pos ⟨rfl, rfl, trivial⟩, lt_eq, e12 b hm]
    rfl
end Go.Proofs.YtippccamjlfafaaGreatDoor
end
