/- What a numeral reads as: no program in sight. -/
import Derived.Test.YtahnpokehdlajaaDoorM3
import Derived.Lib.ParseIntB
namespace Go.Proofs.Sv
open Go

theorem pum_app (M : Nat) (m : List UInt8) : ∀ (l : List UInt8) (acc : Nat), Lib.parseUintM M acc (l ++ m) = match Lib.parseUintM M acc l with | .ok a => Lib.parseUintM M a m | e => e
  | [], acc => rfl
  | c :: r, acc => by
    simp only [List.cons_append, Lib.parseUintM]
    split
    · split
      · rfl
      · split
        · rfl
        · exact pum_app M m r _
    · rfl
theorem dig_nat (d : Nat) (h : d < 10) : (UInt8.ofNat (48 + d)).toNat = 48 + d := by
  rw [UInt8.toNat_ofNat']; omega
theorem pum_dec (u : Nat) : u ≤ 9223372036854775808 → Lib.parseUintM (2 ^ 64 - 1) 0 (Lib.decDigits u) = .ok u := by
  induction u using Nat.strongRecOn with | ind u ih => ?_
  intro h
  by_cases h10 : u < 10
  · rw [decDigits_small h10]
    simp only [Lib.parseUintM, dig_nat u h10]
    rw [if_pos (by omega), if_neg (by omega), if_neg (by omega)]
    congr 1; omega
  · rw [decDigits_big h10, pum_app, ih (u / 10) (by omega) (by omega)]
    have hd : u % 10 < 10 := Nat.mod_lt _ (by omega)
    simp only [Lib.parseUintM, dig_nat _ hd]
    rw [if_pos (by omega), if_neg (by omega), if_neg (by omega)]
    congr 1; omega
theorem dec_digits (u : Nat) : ∀ c ∈ Lib.decDigits u, 48 ≤ c.toNat ∧ c.toNat ≤ 57 := by
  induction u using Nat.strongRecOn with | ind u ih => ?_
  intro c hc
  by_cases h10 : u < 10
  · rw [decDigits_small h10, List.mem_singleton] at hc
    rw [hc, dig_nat u h10]; omega
  · rw [decDigits_big h10, List.mem_append, List.mem_singleton] at hc
    rcases hc with hc | hc
    · exact ih (u / 10) (by omega) c hc
    · rw [hc, dig_nat _ (Nat.mod_lt _ (by omega))]; have := Nat.mod_lt u (show 0 < 10 by omega); omega
theorem dec_ne (u : Nat) : Lib.decDigits u ≠ [] := by
  by_cases h10 : u < 10
  · rw [decDigits_small h10]; simp
  · rw [decDigits_big h10]; simp
theorem parse_itoa {x : Int} (h : InI x) : Lib.parseIntB 64 (Lib.itoa x) = .ok x := by
  obtain ⟨h0, h1⟩ := h
  rcases Int.lt_or_le x 0 with hx | hx
  · rw [itoa_neg' hx]
    obtain ⟨u, hu⟩ := Int.eq_ofNat_of_zero_le (show 0 ≤ -x by omega)
    rw [hu, Int.toNat_natCast]
    have hp := pum_dec u (by omega)
    have e : Lib.parseUintB 64 (Lib.decDigits u) = .ok u := by unfold Lib.parseUintB; rw [if_neg (dec_ne u)]; exact hp
    have e45 : (45 : UInt8).toNat = 45 := rfl
    simp only [Lib.parseIntB, e45, or_true, if_true, e]
    rw [if_neg (by simp), if_neg (by simp; omega)]
    congr 1; omega
  · obtain ⟨u, rfl⟩ := Int.eq_ofNat_of_zero_le hx
    rw [itoa_nat]
    have hp := pum_dec u (by omega)
    have e : Lib.parseUintB 64 (Lib.decDigits u) = .ok u := by unfold Lib.parseUintB; rw [if_neg (dec_ne u)]; exact hp
    cases hd : Lib.decDigits u with
    | nil => exact (dec_ne u hd).elim
    | cons c r =>
      have hc := dec_digits u c (by rw [hd]; simp)
      rw [hd] at e
      have n1 : ¬ c.toNat = 43 := by omega
      have n2 : ¬ c.toNat = 45 := by omega
      simp only [Lib.parseIntB, n1, n2, or_self, if_false, e]
      rw [if_neg (by simp; omega), if_neg (by simp)]
end Go.Proofs.Sv
