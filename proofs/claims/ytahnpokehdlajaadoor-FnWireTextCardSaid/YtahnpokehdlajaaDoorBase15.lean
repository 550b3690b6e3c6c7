/- The tail of a slice. Over any program. -/
import Derived.Test.YtahnpokehdlajaaDoorBase14
import Derived.Laws.Slices
namespace Go.Proofs.Sv
open Go Go.RowKit
section
variable {P : Program} {n : Nat} {e : Env} {w : World} {ty : TypeId}
theorem runs_tail {T E s y : Nat} {z : Value} {x : Operand} {p : Option Addr} {len cap : Nat} [hT : SliceOf P T E] [i : Info P E s y z] (hx : ev e x = some (.slice p len cap)) (h1 : 1 ≤ len) :
    RunsOp P n e (.slice T x (some (.const (.int .i64 1))) none none) ty w (.slice (if cap = 1 then p else p.map (·.add (1 * s))) (len - 1) (cap - 1)) w := by
  intro a dst pos after g ha
  obtain ⟨inf, hinfo, h2, h3, h4⟩ := i.get
  have hb := run_sliceBound (P := P) (w := w) .i64 1 len .sliceB (by omega) (by omega)
  simp only [execOp, ha.ev hx]
  simp [Instr.sliceAt, Instr.slice, Instr.sliceBounds, run_underlying hT.h, Result.andThen, run_sizeOf' w hinfo, h2, Act.eval, hb]
end
theorem At.tail {w : World} {b o : Nat} {c : Value} {cs : List Value} (h : At w b o (c :: cs)) : At w b (o + 1) cs := by
  intro i u hu
  have := h (i + 1) u (by simpa using hu)
  rwa [show o + 1 + i = o + (i + 1) by omega]
theorem SlR.tail {lo hi : Nat} {w : World} {p : Option Addr} {len cap : Nat} {xs : List Int} (h : SlR lo hi w (.slice p len cap) xs) (h1 : 1 ≤ len) : SlR lo hi w (.slice (if cap = 1 then p else p.map (·.add (1 * 1))) (len - 1) (cap - 1)) xs.tail := by
  obtain ⟨p', cap', hv, hle, hmax, h4⟩ := h
  cases hv
  cases xs with
  | nil => simp at h1
  | cons x r =>
    refine ⟨if cap = 1 then p else p.map (·.add (1 * 1)), cap - 1, rfl, by simp at hle ⊢; omega, by omega, ?_⟩
    by_cases hc : cap = 1
    · left
      have hr : r.length = 0 := by simp only [List.length_cons] at hle; omega
      exact List.eq_nil_of_length_eq_zero hr
    · right
      rcases h4 with h4 | ⟨b, o, cs, rfl, hlo, hhi, hat, hall⟩
      · cases h4
      · obtain ⟨c, d, rfl, hc1, hd⟩ := hall
        have hc2 := hc1.1
        subst hc2
        refine ⟨b, o + 1, d, ?_, hlo, hhi, hat.tail, hd⟩
        simp [hc, Addr.add]
end Go.Proofs.Sv
