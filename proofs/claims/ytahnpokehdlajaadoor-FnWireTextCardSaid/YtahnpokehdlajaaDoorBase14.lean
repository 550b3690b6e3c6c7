/- Slices of numbers that the code owns: reading, storing. Over any program. -/
import Derived.Test.YtahnpokehdlajaaDoorBase13
import Derived.Test.YtahnpokehdlajaaDoorM2
namespace Go.Proofs.Sv
open Go Go.RowKit

theorem spl_map_set {α : Type} (f : α → Value) (xs : List α) (k : Nat) (r : α) (hk : k < xs.length) : spl (xs.map f) (k * 1) [f r] = (xs.set k r).map f := by
  rw [Nat.mul_one, List.map_set]
  have e := spl_cons (f r) [] (xs.map f) k (by simp; omega)
  rw [e]
  simp [spl]
/-- v is a slice of its own, in block g, that holds these numbers. -/
def OwnI (w : World) (E : TypeId) (g : Option Nat) (v : Value) (xs : List Int) : Prop := Own w E 1 g v xs.length (xs.map (Value.int .i64)) ∧ ∀ x ∈ xs, InI x
theorem OwnI.up {w w' : World} {E : TypeId} {g : Option Nat} {v : Value} {xs : List Int} (h : OwnI w E g v xs) (k : Ext w w') : OwnI w' E g v xs := ⟨h.1.up k, h.2⟩
theorem OwnI.we {g' : Option Nat} {w w' : World} {E : TypeId} {g : Option Nat} {v : Value} {xs : List Int} (h : OwnI w E g v xs) (k : WE g' w w') (hg : ∀ i, g' = some i → g ≠ some i) : OwnI w' E g v xs := ⟨h.1.we k hg, h.2⟩
theorem OwnI.wr {b : Nat} {w w' : World} {E : TypeId} {g : Option Nat} {v : Value} {xs : List Int} (h : OwnI w E g v xs) (k : Wr b w w') (hb : g ≠ some b) : OwnI w' E g v xs := ⟨h.1.wr k hb, h.2⟩
theorem OwnI.lt {w : World} {E : TypeId} {g : Option Nat} {v : Value} {xs : List Int} (h : OwnI w E g v xs) : ∀ k, g = some k → k < w.heap.size := h.1.lt
theorem OwnI.len {w : World} {E : TypeId} {g : Option Nat} {v : Value} {xs : List Int} (h : OwnI w E g v xs) : ∃ p c, v = .slice p xs.length c := h.1.len
theorem OwnI.slR {w : World} {E : TypeId} {g : Option Nat} {v : Value} {xs : List Int} {lo : Nat} (h : OwnI w E g v xs) (hg : ∀ k, g = some k → lo ≤ k) : SlR lo w.heap.size w v xs :=
  Own.slR (α := Int) h.1 (all_ints _ _ _ xs h.2) (fun k hk => ⟨hg k hk, h.lt k hk⟩)
/-- A slice that holds something has a block. -/
theorem OwnI.has {w : World} {E : TypeId} {g : Option Nat} {v : Value} {xs : List Int} (h : OwnI w E g v xs) (hl : 0 < xs.length) : ∃ b c, g = some b ∧ v = .slice (some ⟨b, 0, none⟩) xs.length c := by
  rcases h.1 with ⟨_, hn, _⟩ | ⟨b, cap, cur, rfl, rfl, _⟩
  · omega
  · exact ⟨b, cap, rfl, rfl⟩
theorem OwnI.of_blk {w : World} {b : Nat} {xs : List Int} {E : TypeId} (h : Blk w b (xs.map (Value.int .i64)) E) (hx : ∀ x ∈ xs, InI x) (hl : xs.length ≤ 9223372036854775807) : OwnI w E (some b) (.slice (some ⟨b, 0, none⟩) xs.length xs.length) xs :=
  ⟨.inr ⟨b, xs.length, _, rfl, rfl, h, Nat.le_refl _, (by simp only [maxLen]; omega), (by simp), (by simp [List.take_of_length_le])⟩, hx⟩
theorem Own.blk {w : World} {E s g n : Nat} {v : Value} {cs : List Value} (h : Own w E s (some g) v n cs) : ∃ cur : List Value, Blk w g cur E ∧ cs = cur.take (n * s) ∧ n * s ≤ cur.length := by
  rcases h with ⟨h, _⟩ | ⟨b, cap, cur, hb, rfl, h1, h2, h3, h4, rfl⟩
  · cases h
  · cases hb
    exact ⟨cur.toList, by simpa [Blk] using h1, rfl, by have := Nat.mul_le_mul_right s h2; simp [h4]; omega⟩
/-- The store itself, whatever the room behind. -/
theorem OwnI.store {w : World} {E g k : Nat} {v : Value} {xs : List Int} {r : Int} (h : OwnI w E (some g) v xs) (hk : k < xs.length) (hr : InI r) :
    ∃ cur, Blk w g cur E ∧ k + 1 ≤ cur.length ∧ ∀ w', Blk w' g (spl cur k [.int .i64 r]) E → OwnI w' E (some g) v (xs.set k r) := by
  obtain ⟨h1, h2⟩ := h
  obtain ⟨cur, hB, hcs, hle⟩ := h1.blk
  refine ⟨cur, hB, by omega, fun w' hB' => ⟨?_, ?_⟩⟩
  · have := h1.set (w' := w') (k := k) (vs := [.int .i64 r]) hk rfl (fun cur' hc' => by
      have : cur' = cur.toArray := by
        have e := hc'.symm.trans hB
        simpa using e
      subst this
      simpa [Blk] using hB')
    rw [spl_map_set _ _ _ _ hk] at this
    rw [List.length_set]
    exact this
  · intro x hx
    rcases List.mem_or_eq_of_mem_set hx with hx | rfl
    · exact h2 x hx
    · exact hr
theorem All.ints {lo hi : Nat} {w : World} : ∀ {cs : List Value} {xs : List Int}, All lo hi w cs xs → cs = xs.map (Value.int .i64)
  | _, [], h => h
  | _, x :: r, h => by
    obtain ⟨c, d, rfl, h1, h2⟩ := h
    rw [h1.1, All.ints h2]; rfl
theorem SlR.src {lo hi : Nat} {w : World} {v : Value} {xs : List Int} (h : SlR lo hi w v xs) : ∃ p cap b o, v = .slice p xs.length cap ∧ (xs.length = 0 ∨ p = some ⟨b, o, none⟩) ∧ At w b o (xs.map (Value.int .i64)) := by
  obtain ⟨p, cap, rfl, _, _, h4⟩ := h
  rcases h4 with rfl | ⟨b, o, cs, rfl, _, _, hat, hall⟩
  · exact ⟨p, cap, 0, 0, rfl, .inl rfl, fun i u hu => by simp at hu⟩
  · rw [hall.ints] at hat
    exact ⟨_, cap, b, o, rfl, .inr rfl, hat⟩
theorem ones_ints : ∀ xs : List Int, ones (xs.map (Value.int .i64)) = true
  | [] => rfl
  | x :: r => by simp only [List.map_cons, ones, ones_ints r]; rfl
theorem WE.thenWr {g : Option Nat} {b : Nat} {w a a' : World} (h : WE g w a) (k : Wr b a a') (hb : w.heap.size ≤ b) : WE g w a' :=
  ⟨k.os.trans h.os, k.tape.trans h.tape, k.output.trans h.output, by have := k.size; have := h.size; omega, fun i hi hg => (k.block i (by omega)).trans (h.block i hi hg)⟩
theorem WE.then {g g' : Option Nat} {w a a' : World} (h : WE g w a) (k : WE g' a a') (hb : ∀ i, g' = some i → w.heap.size ≤ i ∨ g = some i) : WE g w a' :=
  ⟨k.os.trans h.os, k.tape.trans h.tape, k.output.trans h.output, Nat.le_trans h.size k.size, fun i hi hg => (k.block i (Nat.lt_of_lt_of_le hi h.size) (fun e => by
    rcases hb i e with h' | h'
    · omega
    · exact hg h')).trans (h.block i hi hg)⟩
section
variable {P : Program} {n : Nat} {e : Env} {w : World} {Q : Exit → Act → World → Prop} {ops : Array Oper} {rest : List Oper}
  {d : Nat} {ty : TypeId} {pos : String} {after : Array Edge}
theorem vo_storeI {T E y k g o : Nat} {z : Value} {x v : Operand} {u : Value} {xs : List Int} {r : Int} [Info P T 1 y z] (hx : ev e x = some (.pointer (some ⟨g, o, none⟩))) (ho : o = k) (hv : ev e v = some (.int .i64 r)) (h : OwnI w E (some g) u xs) (hk : k < xs.length) (hr : InI r)
    (K : ∀ w', Wr g w w' → OwnI w' E (some g) u (xs.set k r) → VO P n ops rest e w' Q) :
    VO P n ops (⟨none, .store T x v, ty, pos, after, none⟩ :: rest) e w Q := by
  subst ho
  obtain ⟨cur, hB, hle, hK⟩ := h.store hk hr
  have hst := run_storeVar (P := P) (T := T) (o := o) (v := .int .i64 r) (vs := [.int .i64 r]) rfl rfl rfl hB hle
  refine vo_unit (w' := w.setRow g (spl cur o [.int .i64 r]).toArray) ?_ (K _ (wr_setRow _ _ _) (hK _ (setRow_heap w g cur.toArray _ E (0, 0) hB)))
  intro a dst pos after gd ha
  simp only [execOp, ha.ev hx, ha.ev hv]
  simp [Instr.storeAt, Instr.sureAddr, hst, Result.andThen]
variable {l : List Oper} {fuel : Nat} {listed : Array Bool} {S : World → Prop} {st : Nat}
theorem vto_storeI {i T E y k g o : Nat} {z : Value} {x v : Operand} {u : Value} {xs : List Int} {r : Int} [Info P T 1 y z] (hi : nthO l i = some ⟨none, .store T x v, ty, pos, after, none⟩) (hx : ev e x = some (.pointer (some ⟨g, o, none⟩))) (ho : o = k) (hv : ev e v = some (.int .i64 r)) (h : OwnI w E (some g) u xs) (hk : k < xs.length) (hr : InI r)
    (K : ∀ w', Wr g w w' → OwnI w' E (some g) u (xs.set k r) → (i ≠ st → S w') ∧ VT P n l S st fuel (listed.setIfInBounds i true) e w' Q) : VTo P n l S st fuel listed e w Q i := by
  subst ho
  obtain ⟨cur, hB, hle, hK⟩ := h.store hk hr
  refine vto_store (vs := [.int .i64 r]) hi hx hv hB rfl rfl rfl hle ?_
  intro w' hW hB'
  exact K w' hW (hK w' hB')
/-- append(v, r). -/
theorem vto_appendI {i T E y : Nat} {z : Value} {x x2 : Operand} [SliceOf P T E] [Info P E 1 y z] {g : Option Nat} {v : Value} {xs : List Int} {r : Int} {b2 c : Nat} {T2 : TypeId}
    (hi : nthO l i = some ⟨some d, .call ⟨.builtin .append, [x, x2].toArray, #[T, T]⟩, ty, pos, after, none⟩) (hx : ev e x = some v) (hx2 : ev e x2 = some (.slice (some ⟨b2, 0, none⟩) 1 c)) (hd : Nat.blt d n = true) (hz : Nat.beq z.cells.size 1 = true)
    (h : OwnI w E g v xs) (hB : Blk w b2 [.int .i64 r] T2) (hr : InI r) (h63 : xs.length + 1 ≤ 9223372036854775807) (hb : (xs.length + 1) * y ≤ 140737488355328)
    (k : ∀ v' w' g', OwnI w' E (some g') v' (xs ++ [r]) → WE g w w' → (g = some g' ∨ g' = w.heap.size) → S w' ∧ VT P n l S st fuel (listed.setIfInBounds i true) ((d, v') :: e) w' Q) : VTo P n l S st fuel listed e w Q i := by
  refine vto_append hi hx hx2 hd rfl hz h.1 (.inr rfl) rfl hB.at rfl h63 hb ?_
  intro v' w' g' hO hW hg
  have hO' : OwnI w' E g' v' (xs ++ [r]) := ⟨by rw [List.length_append, List.map_append]; exact hO, fun y hy => by
    rcases List.mem_append.1 hy with hy | hy
    · exact h.2 y hy
    · rw [List.mem_singleton.1 hy]; exact hr⟩
  obtain ⟨b', c', rfl, rfl⟩ := hO'.has (by simp)
  exact k _ w' b' hO' hW (hg.imp (fun e => e.symm) (fun e => by cases e; rfl))
end
end Go.Proofs.Sv
