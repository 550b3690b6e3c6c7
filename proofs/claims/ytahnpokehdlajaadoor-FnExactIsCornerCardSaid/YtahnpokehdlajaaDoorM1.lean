/- Plain words on names: no program in sight. -/
import Derived.Test.YtahnpokehdlajaaDoorBase6
import Derived.Lib.SlTrimSet
import Derived.Lib.Bytealg
namespace Go.Proofs.Sv
open Go

def lowB (c : Int) : Bool := decide (c ≥ 97) && decide (c ≤ 122)
def digB (c : Int) : Bool := decide (c ≥ 48) && decide (c ≤ 57)
/-- The byte at place i may stand there in a name. -/
def chB (c : Int) (i : Nat) : Bool := lowB c || (digB c && decide (0 < i))
/-- Every byte before k may stand where it stands. -/
def nmTo (s : ByteArray) : Nat → Bool
  | 0 => true
  | k + 1 => nmTo s k && chB (byteAt s k) k
def nmB (s : ByteArray) : Bool := nmTo s s.size && decide ((s.size : Int) ≥ 1) && decide ((s.size : Int) ≤ 8)
theorem nmTo_mono (s : ByteArray) (k : Nat) : ∀ j, k ≤ j → nmTo s j = true → nmTo s k = true := by
  intro j hj h
  induction j with
  | zero => have : k = 0 := by omega
            subst this; rfl
  | succ j ih =>
    by_cases hk : k = j + 1
    · subst hk; exact h
    · simp only [nmTo, Bool.and_eq_true] at h
      exact ih (by omega) h.1
theorem nmB_false (s : ByteArray) (k : Nat) (hk : k < s.size) (h : chB (byteAt s k) k = false) : nmB s = false := by
  cases hn : nmB s with
  | false => rfl
  | true =>
    simp only [nmB, Bool.and_eq_true] at hn
    have := nmTo_mono s (k + 1) s.size hk hn.1.1
    simp only [nmTo, Bool.and_eq_true, h] at this
    exact absurd this.2 (by simp)

/-! ### The same by strings.Trim and strings.IndexByte -/
def low26 : List UInt8 := [97, 98, 99, 100, 101, 102, 103, 104, 105, 106, 107, 108, 109, 110, 111, 112, 113, 114, 115, 116, 117, 118, 119, 120, 121, 122]
def low36 : List UInt8 := [97, 98, 99, 100, 101, 102, 103, 104, 105, 106, 107, 108, 109, 110, 111, 112, 113, 114, 115, 116, 117, 118, 119, 120, 121, 122, 48, 49, 50, 51, 52, 53, 54, 55, 56, 57]
theorem low26_fin : ∀ n : Fin 256, low26.contains (UInt8.ofNat n.val) = lowB (n.val : Int) := by decide +kernel
theorem low36_fin : ∀ n : Fin 256, low36.contains (UInt8.ofNat n.val) = (lowB (n.val : Int) || digB (n.val : Int)) := by decide +kernel
theorem low26_mem (b : UInt8) : low26.contains b = lowB (b.toNat : Int) := by
  have := low26_fin ⟨b.toNat, b.toNat_lt⟩
  simpa using this
theorem low36_mem (b : UInt8) : low36.contains b = (lowB (b.toNat : Int) || digB (b.toNat : Int)) := by
  have := low36_fin ⟨b.toNat, b.toNat_lt⟩
  simpa using this
theorem indexByte_mem (c : UInt8) : ∀ l : List UInt8, decide (0 ≤ Lib.indexByte l c) = l.contains c
  | [] => by simp [Lib.indexByte]
  | b :: l => by
    have ih := indexByte_mem c l
    have hg := Lib.indexByte_ge l c
    unfold Lib.indexByte
    by_cases hb : b = c
    · subst hb; simp
    · have hb' : ¬ c = b := fun h => hb h.symm
      have e1 : (b == c) = false := by simpa using hb
      rw [e1, List.contains_cons, show (c == b) = false by simpa using hb', ← ih]
      by_cases h1 : Lib.indexByte l c = -1
      · simp [h1]
      · have : (Lib.indexByte l c == -1) = false := by simpa using h1
        rw [this]
        simp only [Bool.false_eq_true, if_false, Bool.false_or]
        rw [Bool.eq_iff_iff]; simp only [decide_eq_true_eq]; omega
theorem dropWhile_nil {α : Type} (p : α → Bool) : ∀ l : List α, l.dropWhile p = [] ↔ ∀ x ∈ l, p x = true
  | [] => by simp
  | x :: r => by
    rw [List.dropWhile_cons]
    by_cases h : p x = true
    · simp [h, dropWhile_nil p r]
    · simp [h]
theorem mem_takeWhile {α : Type} (p : α → Bool) (x : α) : ∀ l : List α, x ∈ l.takeWhile p → p x = true
  | [], h => by cases h
  | y :: r, h => by
    rw [List.takeWhile_cons] at h
    by_cases hy : p y = true
    · rw [if_pos hy] at h
      rcases List.mem_cons.1 h with rfl | h
      · exact hy
      · exact mem_takeWhile p x r h
    · rw [if_neg hy] at h; cases h
theorem trimS_nil (l cs : List UInt8) : Lib.trimS l cs = [] ↔ ∀ b ∈ l, cs.contains b = true := by
  unfold Lib.trimS Lib.trimLeftS Lib.trimRightS
  rw [dropWhile_nil]
  constructor
  · intro h b hb
    have e : l = (l.reverse.dropWhile (cs.contains ·)).reverse ++ (l.reverse.takeWhile (cs.contains ·)).reverse := by
      rw [← List.reverse_append, List.takeWhile_append_dropWhile, List.reverse_reverse]
    rw [e] at hb
    rcases List.mem_append.1 hb with hb | hb
    · exact h b hb
    · have := List.mem_reverse.1 hb
      exact mem_takeWhile (cs.contains ·) b _ this
  · intro h b hb
    exact h b (by have := (List.dropWhile_sublist _).mem (List.mem_reverse.1 hb); exact List.mem_reverse.1 this)
theorem nmTo_all (s : ByteArray) (h0 : lowB (byteAt s 0) = true) : ∀ k, k ≤ s.size → (nmTo s k = true ↔ ∀ i, i < k → (lowB (byteAt s i) || digB (byteAt s i)) = true)
  | 0, _ => by simp [nmTo]
  | k + 1, hk => by
    have ih := nmTo_all s h0 k (by omega)
    simp only [nmTo, Bool.and_eq_true, ih]
    constructor
    · rintro ⟨h1, h2⟩ i hi
      by_cases hik : i = k
      · subst hik
        unfold chB at h2
        cases hl : lowB (byteAt s i) with
        | true => simp
        | false => rw [hl] at h2; simp only [Bool.false_or, Bool.and_eq_true] at h2; simp [h2.1]
      · exact h1 i (by omega)
    · intro h
      refine ⟨fun i hi => h i (by omega), ?_⟩
      have := h k (by omega)
      unfold chB
      by_cases hk0 : k = 0
      · subst hk0; simp [h0]
      · have hp : decide (0 < k) = true := by simp; omega
        rw [hp]; simpa using this
theorem trim_all (s : ByteArray) : Lib.trimS s.data.toList low36 = [] ↔ ∀ i, i < s.size → (lowB (byteAt s i) || digB (byteAt s i)) = true := by
  rw [trimS_nil]
  have hl : s.data.toList.length = s.size := by simp
  constructor
  · intro h i hi
    have hi' : i < s.data.toList.length := by rw [hl]; exact hi
    have := h s.data.toList[i] (List.getElem_mem hi')
    rw [low36_mem] at this
    unfold byteAt
    rw [List.getD_eq_getElem?_getD, List.getElem?_eq_getElem hi']
    exact this
  · intro h b hb
    obtain ⟨i, hi, rfl⟩ := List.getElem_of_mem hb
    have := h i (by rw [← hl]; exact hi)
    unfold byteAt at this
    rw [List.getD_eq_getElem?_getD, List.getElem?_eq_getElem hi] at this
    rw [low36_mem]; exact this
theorem nmB_trim (s : ByteArray) (h1 : 1 ≤ s.size) (h8 : s.size ≤ 8) : nmB s = ((Lib.trimS s.data.toList low36 == []) && decide (0 ≤ Lib.indexByte low26 (byteAt s 0).toNat.toUInt8)) := by
  have e0 : (byteAt s 0).toNat.toUInt8 = s.data.toList.getD 0 0 := by unfold byteAt; simp
  rw [e0, indexByte_mem, low26_mem]
  show nmB s = (_ && lowB (byteAt s 0))
  have g1 : decide ((s.size : Int) ≥ 1) = true := by simp; omega
  have g2 : decide ((s.size : Int) ≤ 8) = true := by simp; omega
  unfold nmB
  rw [g1, g2, Bool.and_true, Bool.and_true]
  cases h0 : lowB (byteAt s 0) with
  | false =>
    rw [Bool.and_false]
    cases hn : nmTo s s.size with
    | false => rfl
    | true =>
      have := nmTo_mono s 1 s.size h1 hn
      simp [nmTo, chB, h0] at this
  | true =>
    rw [Bool.and_true, Bool.eq_iff_iff, nmTo_all s h0 s.size (Nat.le_refl _), beq_iff_eq, trim_all]
end Go.Proofs.Sv
