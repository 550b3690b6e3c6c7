/- What a row's arguments read as behind a call that leaves all old memory alone. Over any program. -/
import Derived.Test.YtahnpokehdlajaaDoorBase7
namespace Go.Proofs.Sv
open Go Go.RowKit

theorem trodAll_below {H : Type} {enc : TypeId × Value → H} {P : Program} (hl : laidOutB P = true) {W W' : World} (hb : Below W.heap.size W W') :
    ∀ {ts : List TypeId} {vs : List Value} {ds : List (DataW H)} {ps : List MemPlace}, (ts.all fun t => P.readableRec t && decide (t < P.types.size)) = true →
      DataW.TrodAll enc P W 0 (fun _ => true) true ts vs ds ps → DataW.TrodAll enc P W' 0 (fun b => decide (b < W.heap.size)) true ts vs ds ps
  | [], [], [], _, _, h => h
  | t :: ts, v :: vs, d :: ds, ps, hr, h => by
    obtain ⟨p, q, h1, h2, rfl⟩ := h
    simp only [List.all_cons, Bool.and_eq_true, decide_eq_true_eq] at hr
    have hlt : ∀ x ∈ p, x.block < W.heap.size := by
      obtain ⟨f, hf⟩ := h1
      exact DataW.trod_lt f t _ _ hf
    exact ⟨p, q, Below.trod hl hr.1.1 hr.1.2 h1 hb hlt, trodAll_below hl hb (by simpa using hr.2) h2, rfl⟩
  | [], [], _ :: _, _, _, h => h.elim
  | [], _ :: _, _, _, _, h => h.elim
  | _ :: _, [], _, _, _, h => h.elim
  | _ :: _, _ :: _, [], _, _, h => h.elim

/-- A struct by value. -/
theorem arg_struct {H : Type} {enc : TypeId × Value → H} {P : Program} {T : TypeId} {α : Type} [Rep α] [hO : Opens P T α] {fs : Array Field} (hT : P.underlying T = some (.struct fs)) {W : World} {r : Reach} {base : Nat} {v : Value} {d : DataW H} {p : List MemPlace}
    (hv : Value.okWide P W r base T v) (h : DataW.Trod enc P W 0 (fun _ => true) true T v d p) : ∃ (cs : List Value) (x : α), v = .agg cs.toArray ∧ Rep.rep 0 W.heap.size W cs x := by
  obtain ⟨cs, rfl, _⟩ := WideShapes.okWide_struct hT hv
  obtain ⟨f, hf⟩ := h
  obtain ⟨x, hx⟩ := hO.op hf
  exact ⟨cs.toList, x, by simp, hx⟩
/-- A slice. -/
theorem arg_slice {H : Type} {enc : TypeId × Value → H} {P : Program} {T E : TypeId} {α : Type} [Rep α] [hT : SliceOf P T E] [hO : Opens P T (List α)] {W : World} {r : Reach} {base : Nat} {v : Value} {d : DataW H} {p : List MemPlace}
    (hv : Value.okWide P W r base T v) (h : DataW.Trod enc P W 0 (fun _ => true) true T v d p) : ∃ x : List α, SlR 0 W.heap.size W v x := by
  obtain ⟨a, len, cap, rfl⟩ := WideShapes.okWide_slice hT.h hv
  obtain ⟨f, hf⟩ := h
  obtain ⟨x, v', hv', hx⟩ := hO.op hf
  simp only [Value.cells, List.cons.injEq, and_true] at hv'
  subst hv'
  exact ⟨x, hx⟩
end Go.Proofs.Sv
