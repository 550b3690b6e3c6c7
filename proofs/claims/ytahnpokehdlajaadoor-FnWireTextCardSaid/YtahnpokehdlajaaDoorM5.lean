/- A text that was joined with one byte between its words, split again. No program in sight. -/
import Derived.Test.YtahnpokehdlajaaDoorM4
import Derived.Lib.SplitLaws
namespace Go.Proofs.Sv
open Go

theorem index_none (c : UInt8) : ∀ x : List UInt8, c ∉ x → Lib.index x [c] = -1
  | [], _ => rfl
  | b :: l, h => by
    have hb : ¬ c = b := fun e => h (by simp [e])
    have ih := index_none c l (fun e => h (by simp [e]))
    unfold Lib.index
    have hp : List.isPrefixOf [c] (b :: l) = false := by simp [List.isPrefixOf, hb]
    rw [hp, ih]; rfl
theorem index_word (c : UInt8) (r : List UInt8) : ∀ x : List UInt8, c ∉ x → Lib.index (x ++ c :: r) [c] = (x.length : Int)
  | [], _ => by simp [Lib.index, List.isPrefixOf]
  | b :: l, h => by
    have hb : ¬ c = b := fun e => h (by simp [e])
    have ih := index_word c r l (fun e => h (by simp [e]))
    have hp : List.isPrefixOf [c] (b :: (l ++ c :: r)) = false := by simp [List.isPrefixOf, hb]
    rw [List.cons_append]
    unfold Lib.index
    rw [hp, ih]
    have : ((l.length : Int) == -1) = false := by rw [beq_eq_false_iff_ne]; omega
    simp [this]
theorem join_cons2 (c : UInt8) (x y : List UInt8) (r : List (List UInt8)) : Lib.join (x :: y :: r) [c] = x ++ c :: Lib.join (y :: r) [c] := by
  rw [Lib.join_cons, Lib.join_cons]; simp [Lib.joinTail]
theorem splitK_join (c : UInt8) : ∀ (xs : List (List UInt8)), xs ≠ [] → (∀ x ∈ xs, c ∉ x) → ∀ k, xs.length ≤ k + 1 → Lib.splitK [c] 0 k (Lib.join xs [c]) = xs
  | [], h, _, _, _ => (h rfl).elim
  | [x], _, hc, k, _ => by
    rw [Lib.join_one]
    cases k with
    | zero => rfl
    | succ k => unfold Lib.splitK; rw [index_none c x (hc x (by simp))]; rfl
  | x :: y :: r, _, hc, k, hk => by
    cases k with
    | zero => simp at hk
    | succ k =>
      rw [join_cons2]
      have ih := splitK_join c (y :: r) (by simp) (fun z hz => hc z (by simp at hz ⊢; right; exact hz)) k (by simp at hk ⊢; omega)
      unfold Lib.splitK
      rw [index_word c _ x (hc x (by simp))]
      have : ((x.length : Int) == -1) = false := by rw [beq_eq_false_iff_ne]; omega
      rw [this]
      have e1 : List.drop (x.length + 1) (x ++ c :: Lib.join (y :: r) [c]) = Lib.join (y :: r) [c] := by
        rw [List.drop_append]; simp
      simp [e1, ih]
theorem count_join (c : UInt8) : ∀ (xs : List (List UInt8)), xs ≠ [] → (∀ x ∈ xs, c ∉ x) → (Lib.join xs [c]).count c + 1 = xs.length
  | [], h, _ => (h rfl).elim
  | [x], _, hc => by rw [Lib.join_one, List.count_eq_zero_of_not_mem (hc x (by simp))]; rfl
  | x :: y :: r, _, hc => by
    have ih := count_join c (y :: r) (by simp) (fun z hz => hc z (by simp at hz ⊢; right; exact hz))
    rw [join_cons2, List.count_append, List.count_cons_self, List.count_eq_zero_of_not_mem (hc x (by simp))]
    simp at ih ⊢; omega
/-- strings.Split of what strings.Join made. -/
theorem splitB_join (c : UInt8) (xs : List (List UInt8)) (hx : xs ≠ []) (hc : ∀ x ∈ xs, c ∉ x) :
    Lib.countB ⟨(Lib.join xs [c]).toArray⟩ ⟨#[c]⟩ + 1 = xs.length ∧ Lib.splitB ⟨#[c]⟩ 0 (Lib.countB ⟨(Lib.join xs [c]).toArray⟩ ⟨#[c]⟩) ⟨(Lib.join xs [c]).toArray⟩ = xs.map (fun l => (⟨l.toArray⟩ : ByteArray)) := by
  have h1 : Lib.countB ⟨(Lib.join xs [c]).toArray⟩ ⟨#[c]⟩ = (Lib.join xs [c]).count c := Lib.count_one c _
  have h2 := count_join c xs hx hc
  refine ⟨by rw [h1]; exact h2, ?_⟩
  have h3 := Lib.splitB_data ⟨#[c]⟩ 0 (Lib.countB ⟨(Lib.join xs [c]).toArray⟩ ⟨#[c]⟩) ⟨(Lib.join xs [c]).toArray⟩
  have h4 : Lib.splitK [c] 0 (Lib.countB ⟨(Lib.join xs [c]).toArray⟩ ⟨#[c]⟩) (Lib.join xs [c]) = xs := splitK_join c xs hx hc _ (by rw [h1]; omega)
  have h5 : (Lib.splitB ⟨#[c]⟩ 0 (Lib.countB ⟨(Lib.join xs [c]).toArray⟩ ⟨#[c]⟩) ⟨(Lib.join xs [c]).toArray⟩).map (·.data.toList) = xs := h3.trans h4
  generalize Lib.splitB ⟨#[c]⟩ 0 (Lib.countB ⟨(Lib.join xs [c]).toArray⟩ ⟨#[c]⟩) ⟨(Lib.join xs [c]).toArray⟩ = ys at h5
  rw [← h5, List.map_map]
  have : ((fun l : List UInt8 => (⟨l.toArray⟩ : ByteArray)) ∘ fun b : ByteArray => b.data.toList) = id := by funext b; cases b; simp
  rw [this]; simp
end Go.Proofs.Sv
