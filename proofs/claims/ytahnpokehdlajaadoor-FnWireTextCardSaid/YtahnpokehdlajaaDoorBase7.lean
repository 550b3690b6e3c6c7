/- From the reading of a row's arguments to the readings of these texts. Over any program. -/
import Derived.Test.YtahnpokehdlajaaDoorBase6
import Derived.ProofKit
import Derived.ChangeArms
import Derived.Carry
namespace Go.Proofs.Sv
open Go Go.RowKit

/-- Whatever the form reads at type T reads as an α. -/
class Opens (P : Program) (T : TypeId) (α : Type) [Rep α] : Prop where
  op : ∀ {H : Type} {enc : TypeId × Value → H} {w : World} {sp : Nat → Bool} {hl : Bool} {fuel : Nat} {cs : List Value} {x : DataW H × List MemPlace},
    DataW.trod enc P w 0 sp hl fuel T cs = some x → ∃ y : α, Rep.rep 0 w.heap.size w cs y

class IntT (P : Program) (T : TypeId) : Prop where h : P.underlying T = some (.int .i64)
class ByteT (P : Program) (T : TypeId) : Prop where h : P.underlying T = some (.int .u8)

/-- A byte in a cell. -/
instance : Rep UInt8 where
  sz := 1
  pos := Nat.one_pos
  rep _ _ _ cs x := cs = [.int .u8 (x.toNat : Int)]
  len h := by rw [h]; rfl
  same h _ := h
  wide h _ _ := h

instance {P : Program} {T : TypeId} [hT : IntT P T] : Opens P T Int where
  op := by
    intro H enc w sp hl fuel cs x h
    obtain ⟨n, rfl, _, hw⟩ := DataW.trod_int hT.h h
    refine ⟨n, rfl, ?_⟩
    simp only [Lit.wf, Bool.and_eq_true, decide_eq_true_eq] at hw
    have h1 : IntKind.i64.min = -9223372036854775808 := rfl
    have h2 : IntKind.i64.max = 9223372036854775807 := rfl
    rw [h1, h2] at hw
    exact hw
instance {P : Program} {T : TypeId} [hT : ByteT P T] : Opens P T UInt8 where
  op := by
    intro H enc w sp hl fuel cs x h
    obtain ⟨n, rfl, _, hw⟩ := DataW.trod_int hT.h h
    simp only [Lit.wf, Bool.and_eq_true, decide_eq_true_eq] at hw
    have h1 : IntKind.u8.min = 0 := rfl
    have h2 : IntKind.u8.max = 255 := rfl
    rw [h1, h2] at hw
    refine ⟨UInt8.ofNat n.toNat, ?_⟩
    show [Value.int .u8 n] = [Value.int .u8 _]
    have : (UInt8.ofNat n.toNat).toNat = n.toNat := by simp; omega
    rw [this, Int.toNat_of_nonneg hw.1]
instance {P : Program} {T : TypeId} [hT : BoolT P T] : Opens P T Bool where
  op := by
    intro H enc w sp hl fuel cs x h
    obtain ⟨b, rfl, _⟩ := DataW.trod_bool hT.h h
    exact ⟨b, rfl⟩
instance {P : Program} {T : TypeId} [hT : StringT P T] : Opens P T ByteArray where
  op := by
    intro H enc w sp hl fuel cs x h
    obtain ⟨s, rfl, _, hs⟩ := DataW.trod_string hT.h h
    exact ⟨s, rfl, by unfold maxLen at hs; omega⟩

theorem cells_at {w : World} {base : Nat} {a : Addr} {n : Nat} {cs : List Value} (hn : 0 < n) (h : w.cells? base a n = some cs) : a = ⟨a.block, a.off, none⟩ ∧ cs.length = n ∧ At w a.block a.off cs := by
  obtain ⟨_, hl, hc⟩ := World.cells?_some h
  obtain ⟨b, o, sp⟩ := a
  have hsp : sp = none := by
    have h0 := hc 0 hn
    have e0 : (Addr.mk b o sp).add 0 = ⟨b, o, sp⟩ := by simp [Addr.add]
    rw [e0, List.getElem?_eq_getElem (by omega)] at h0
    cases sp with
    | none => rfl
    | some q =>
      unfold World.cell? at h0
      split at h0
      · simp at h0
      · cases h0
  subst hsp
  refine ⟨rfl, hl, fun i u hu => ?_⟩
  have hi : i < n := by rcases Nat.lt_or_ge i cs.length with h' | h'; omega; rw [List.getElem?_eq_none h'] at hu; cases hu
  have := hc i hi
  rw [hu] at this
  rw [← this]
  congr 1
  unfold Addr.add
  split
  · rename_i h0; subst h0; rfl
  · rfl
theorem At.app {w : World} {b o : Nat} {cs ds : List Value} (h : At w b o cs) (k : At w b (o + cs.length) ds) : At w b o (cs ++ ds) := by
  intro i u hu
  rcases Nat.lt_or_ge i cs.length with hi | hi
  · rw [List.getElem?_append_left hi] at hu; exact h i u hu
  · rw [List.getElem?_append_right hi] at hu
    have := k (i - cs.length) u hu
    rw [← this]; congr 2; omega
theorem at_nil {w : World} {b o : Nat} : At w b o [] := fun i u hu => by simp at hu

instance {P : Program} {T E : TypeId} {α : Type} [Rep α] [hT : SliceOf P T E] [hE : Opens P E α] : Opens P T (List α) where
  op := by
    intro H enc w sp hl fuel cs x h
    rcases DataW.trod_slice hT.h h with ⟨rfl, _⟩ | ⟨a, len, cap, elems, rest, n, rfl, rfl, _, _, hlc, hcm, hel, hat, _, _⟩
    · exact ⟨[], _, rfl, SlR.nil⟩
    · have hcap : cap ≤ 9223372036854775807 := by unfold maxLen at hcm; omega
      -- each element's cells and what they read as
      have each : ∀ i, i < len → ∃ c : List Value, w.cells? 0 (a.add (i * P.cellsOf E)) (P.cellsOf E) = some c ∧ ∃ y : α, Rep.rep 0 w.heap.size w c y := by
        intro i hi
        have hi' := hat i hi
        rw [List.getElem?_eq_getElem (by omega)] at hi'
        cases hc : w.cells? 0 (a.add (i * P.cellsOf E)) (P.cellsOf E) with
        | none => rw [hc] at hi'; cases hi'
        | some c =>
          rw [hc] at hi'
          simp only [Option.bind_some] at hi'
          exact ⟨c, rfl, hE.op hi'⟩
      by_cases h0 : len = 0
      · subst h0
        exact ⟨[], _, rfl, some a, cap, rfl, Nat.zero_le _, hcap, .inl rfl⟩
      · have hs : P.cellsOf E = Rep.sz α := by
          obtain ⟨c, hc, y, hy⟩ := each 0 (by omega)
          have := (World.cells?_some hc).2.1
          rw [← this]; exact Rep.len hy
        have hsp : 0 < P.cellsOf E := by rw [hs]; exact Rep.pos
        obtain ⟨b, o, rfl⟩ : ∃ b o, a = ⟨b, o, none⟩ := by
          obtain ⟨c, hc, _⟩ := each 0 (by omega)
          have e0 : a.add (0 * P.cellsOf E) = a := by simp [Addr.add]
          rw [e0] at hc
          exact ⟨a.block, a.off, (cells_at hsp hc).1⟩
        have hb : b < w.heap.size := by
          obtain ⟨c, hc, _⟩ := each 0 (by omega)
          have e0 : (Addr.mk b o none).add (0 * P.cellsOf E) = ⟨b, o, none⟩ := by simp [Addr.add]
          rw [e0] at hc
          have h1 := cells_at hsp hc
          exact h1.2.2.lt (by rw [h1.2.1]; exact hsp)
        have build : ∀ k, k ≤ len → ∃ (cs : List Value) (xs : List α), xs.length = k ∧ At w b o cs ∧ All 0 w.heap.size w cs xs := by
          intro k
          induction k with
          | zero => exact fun _ => ⟨[], [], rfl, at_nil, rfl⟩
          | succ k ih =>
            intro hk
            obtain ⟨cs, xs, h1, h2, h3⟩ := ih (by omega)
            obtain ⟨c, hc, y, hy⟩ := each k (by omega)
            have hadd : (Addr.mk b o none).add (k * P.cellsOf E) = ⟨b, o + k * P.cellsOf E, none⟩ := by
              unfold Addr.add
              split
              · rename_i h0; rw [h0]; rfl
              · rfl
            rw [hadd] at hc
            have h4 := (cells_at hsp hc).2.2
            refine ⟨cs ++ c, xs ++ [y], by simp [h1], h2.app ?_, All.app (All.one hy) h3⟩
            have : cs.length = k * P.cellsOf E := by rw [h3.len, h1, hs]
            rw [this]; exact h4
        obtain ⟨cs, xs, h1, h2, h3⟩ := build len (Nat.le_refl _)
        subst h1
        exact ⟨xs, _, rfl, some ⟨b, o, none⟩, cap, rfl, hlc, hcap, .inr ⟨b, o, cs, rfl, Nat.zero_le _, hb, h2, h3⟩⟩

theorem len_succ {cs : List Value} {k : Nat} (h : cs.length = k + 1) : ∃ v r, cs = v :: r ∧ r.length = k := by
  cases cs with
  | nil => simp at h
  | cons v r => exact ⟨v, r, rfl, by simpa using h⟩
theorem len_zero {cs : List Value} (h : cs.length = 0) : cs = [] := List.length_eq_zero_iff.1 h

/-- The fields of a struct, one by one. -/
theorem opens_fields {P : Program} {T : TypeId} {H : Type} {enc : TypeId × Value → H} {w : World} {sp : Nat → Bool} {hl : Bool} {fuel : Nat} {cs : List Value} {x : DataW H × List MemPlace} {fs : Array Field}
    (hT : P.underlying T = some (.struct fs)) (h : DataW.trod enc P w 0 sp hl fuel T cs = some x) :
    cs.length = P.cellsOf T ∧ ∀ (i : Nat) (f : Field), fs[i]? = some f → ∃ n y, DataW.trod enc P w 0 sp hl n f.type ((cs.drop f.offset).take (P.cellsOf f.type)) = some y := by
  obtain ⟨xs, n, _, _, h1, h2, h3⟩ := DataW.trod_struct hT h
  refine ⟨h1, fun i f hf => ⟨n, ?_⟩⟩
  have := h3 i f hf
  have hi : i < fs.size := (Array.getElem?_eq_some_iff.1 hf).1
  rw [List.getElem?_eq_getElem (by omega)] at this
  exact ⟨_, this⟩
end Go.Proofs.Sv
