/- Plain words on tables and numerals: no program in sight. -/
import Derived.Test.YtahnpokehdlajaaDoorBase10
import Derived.Lib.Join
import Derived.Lib.ItoaLen
namespace Go.Proofs.Sv
open Go

noncomputable def tf (p : Prop) : Bool := @decide p (Classical.propDecidable p)
theorem tf_iff {p : Prop} : tf p = true ↔ p := by unfold tf; exact @decide_eq_true_iff p (Classical.propDecidable p)
theorem tf_t {p : Prop} (h : p) : tf p = true := tf_iff.2 h
theorem tf_f {p : Prop} (h : ¬ p) : tf p = false := by
  cases hb : tf p with
  | false => rfl
  | true => exact absurd (tf_iff.1 hb) h
theorem tf_not {p : Prop} (h : tf p = false) : ¬ p := fun hp => by rw [tf_t hp] at h; cases h
theorem tf_congr {p q : Prop} (h : p ↔ q) : tf p = tf q := by
  by_cases hp : p
  · rw [tf_t hp, tf_t (h.1 hp)]
  · rw [tf_f hp, tf_f (fun hq => hp (h.2 hq))]
theorem tf_neg {p : Prop} : (!tf p) = tf (¬ p) := by
  by_cases hp : p
  · rw [tf_t hp, tf_f (fun h => h hp)]; rfl
  · rw [tf_f hp, tf_t hp]; rfl

def InR (xs : List Int) (lo hi : Int) : Prop := ∀ x ∈ xs, lo ≤ x ∧ x ≤ hi
def Inc (xs : List Int) : Prop := ∀ i : Nat, (h : i + 1 < xs.length) → xs[i] < xs[i + 1]
def AxisP (xs : List Int) : Prop := (1 ≤ xs.length ∧ xs.length ≤ 4) ∧ InR xs 0 100000 ∧ Inc xs
def TableP (a b c : List Int) : Prop := AxisP a ∧ AxisP b ∧ c.length = a.length * b.length ∧ InR c (-1000000) 1000000
theorem inR_at {xs : List Int} {lo hi : Int} (h : ∀ i : Nat, (hi' : i < xs.length) → lo ≤ xs[i] ∧ xs[i] ≤ hi) : InR xs lo hi := by
  intro x hx
  obtain ⟨i, hi', rfl⟩ := List.getElem_of_mem hx
  exact h i hi'
theorem inR_get {xs : List Int} {lo hi : Int} (h : InR xs lo hi) (i : Nat) (hi' : i < xs.length) : lo ≤ xs[i] ∧ xs[i] ≤ hi := h _ (List.getElem_mem hi')

theorem take_map_succ {α β : Type} (f : α → β) (xs : List α) (k : Nat) (h : k < xs.length) : (xs.take (k + 1)).map f = (xs.take k).map f ++ [f xs[k]] := by
  rw [List.take_succ_eq_append_getElem h, List.map_append, List.map_singleton]

/-! ### Numerals and lists of them -/
def numS (n : Int) : ByteArray := ⟨(Lib.itoa n).toArray⟩
def listB (xs : List Int) : List UInt8 := Lib.join (xs.map Lib.itoa) [44]
def listS (xs : List Int) : ByteArray := ⟨(listB xs).toArray⟩
theorem ba_app (a b : List UInt8) : (⟨a.toArray⟩ : ByteArray) ++ ⟨b.toArray⟩ = ⟨(a ++ b).toArray⟩ := by
  apply ByteArray.ext; simp
theorem ba_size (a : List UInt8) : (⟨a.toArray⟩ : ByteArray).size = a.length := by simp [ByteArray.size]
theorem join_snoc (sep x : List UInt8) : ∀ l : List (List UInt8), Lib.join (l ++ [x]) sep = (if l.length = 0 then x else Lib.join l sep ++ sep ++ x)
  | [] => by simp [Lib.join_one]
  | y :: r => by
    rw [List.cons_append, Lib.join_cons, Lib.join_cons]
    simp [Lib.joinTail, List.append_assoc]
theorem listB_nil : listB [] = [] := rfl
theorem listB_succ (xs : List Int) (k : Nat) (h : k < xs.length) : listB (xs.take (k + 1)) = (if k = 0 then [] else listB (xs.take k) ++ [44]) ++ Lib.itoa xs[k] := by
  unfold listB
  rw [take_map_succ Lib.itoa xs k h, join_snoc]
  have : (List.map Lib.itoa (List.take k xs)).length = k := by simp; omega
  rw [this]
  split <;> simp
theorem listB_len : ∀ (xs : List Int), (∀ x ∈ xs, InI x) → (listB xs).length ≤ 22 * xs.length := by
  intro xs
  suffices ∀ k, k ≤ xs.length → (∀ x ∈ xs, InI x) → (listB (xs.take k)).length ≤ 22 * k by
    intro h
    have := this xs.length (Nat.le_refl _) h
    rwa [List.take_length] at this
  intro k
  induction k with
  | zero => intro _ _; simp [listB_nil]
  | succ k ih =>
    intro hk h
    have h1 := ih (by omega) h
    have hx := h _ (List.getElem_mem (show k < xs.length by omega))
    have h2 := Lib.itoa_length_le xs[k] hx.1 hx.2
    rw [listB_succ xs k (by omega), List.length_append]
    split
    · simp; omega
    · rw [List.length_append, List.length_singleton]; omega
theorem itoa_len {x : Int} (h : InI x) : (Lib.itoa x).length ≤ 21 := Lib.itoa_length_le x h.1 h.2
theorem decDigits_small {m : Nat} (h : m < 10) : Lib.decDigits m = [UInt8.ofNat (48 + m)] := by rw [Lib.decDigits, dif_pos h]
theorem decDigits_big {m : Nat} (h : ¬ m < 10) : Lib.decDigits m = Lib.decDigits (m / 10) ++ [UInt8.ofNat (48 + m % 10)] := by rw [Lib.decDigits, dif_neg h]
theorem itoa_nat (m : Nat) : Lib.itoa (m : Int) = Lib.decDigits m := by unfold Lib.itoa; rw [if_neg (by omega)]; simp
theorem itoa_neg' {n : Int} (h : n < 0) : Lib.itoa n = 45 :: Lib.decDigits (-n).toNat := by
  unfold Lib.itoa; rw [if_pos h]; congr 2; omega
theorem strOfNums_one (m : Nat) (h : m < 10) : strOfNums [((48 : Int) + (m : Int)) % 256] = ⟨#[UInt8.ofNat (48 + m)]⟩ := by
  have : ((48 : Int) + (m : Int)) % 256 = ((48 + m : Nat) : Int) := by omega
  simp only [strOfNums, this, List.map_cons, List.map_nil, Int.toNat_natCast]
theorem SlR.ins {lo hi : Nat} {w : World} {v : Value} {xs : List Int} (h : SlR lo hi w v xs) : ∀ x ∈ xs, InI x := by
  intro x hx
  obtain ⟨i, hi', rfl⟩ := List.getElem_of_mem hx
  obtain ⟨p, cap, rfl⟩ := h.len
  obtain ⟨_, _, _, _, _, _, _, _, hr⟩ := h.get hi'
  exact hr.2

section
open Go.RowKit
variable {P : Program} {n : Nat} {e : Env} {w : World} {Q : Exit → Act → World → Prop} {ops : Array Oper} {rest : List Oper}
  {d : Nat} {ty : TypeId} {pos : String} {after : Array Edge}
/-- An element at an index that is reckoned. -/
theorem vo_idxJ (k : Nat) {T E y : Nat} {z : Value} {x ix : Operand} {v : Value} {xs : List Int} {lo hi : Nat} {j : Int} {kk : IntKind} [SliceOf P T E] [Info P E 1 y z] (hx : ev e x = some v) (hi' : ev e ix = some (.int kk j)) (hj : j = (k : Int)) (hs : SlR lo hi w v xs)
    (hd : Nat.blt d n = true) (hk : k < xs.length) (h : ∀ ad, w.cell? ad = some (.int .i64 xs[k]) → InI xs[k] → VO P n ops rest ((d, .pointer (some ad)) :: e) w Q) :
    VO P n ops (⟨some d, .indexAddr T x ix, ty, pos, after, none⟩ :: rest) e w Q := by
  subst hj; exact vo_idxI hx hi' hs hd hk h
theorem vq_idxJ (k : Nat) {T E y : Nat} {z : Value} {x ix : Operand} {v : Value} {xs : List Int} {lo hi : Nat} {j : Int} {kk : IntKind} [SliceOf P T E] [Info P E 1 y z] (hx : ev e x = some v) (hi' : ev e ix = some (.int kk j)) (hj : j = (k : Int)) (hs : SlR lo hi w v xs)
    (hd : Nat.blt d n = true) (hk : k < xs.length) (h : ∀ b o, At w b o [.int .i64 xs[k]] → InI xs[k] → VQ P n ops w rest ((d, .pointer (some ⟨b, o, none⟩)) :: e) Q) :
    VQ P n ops w (⟨some d, .indexAddr T x ix, ty, pos, after, none⟩ :: rest) e Q := by
  subst hj; exact vq_idxI hx hi' hs hd hk h
end
end Go.Proofs.Sv
