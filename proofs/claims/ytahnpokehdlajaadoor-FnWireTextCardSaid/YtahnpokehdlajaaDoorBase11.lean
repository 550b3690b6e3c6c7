/- Calls that may change one block; append; arrays; slices of slices. Over any program. -/
import Derived.Test.YtahnpokehdlajaaDoorBase10
import Derived.Maps.AppendAt
import Derived.Deep.Upon
namespace Go.Proofs.Sv
open Go Go.RowKit

/-- All that was there is as it was, but for block g. -/
structure WE (g : Option Nat) (w w' : World) : Prop where
  os : w'.os = w.os
  tape : w'.tape = w.tape
  output : w'.output = w.output
  size : w.heap.size ≤ w'.heap.size
  block : ∀ k, k < w.heap.size → g ≠ some k → w'.heap[k]? = w.heap[k]?
theorem WE.of_ext {g : Option Nat} {w w' : World} (h : Ext w w') : WE g w w' := ⟨h.os, h.tape, h.output, h.size, fun k hk _ => h.block k hk⟩
theorem WE.of_wr {b : Nat} {w w' : World} (h : Wr b w w') : WE (some b) w w' := ⟨h.os, h.tape, h.output, by rw [h.size]; exact Nat.le_refl _, fun k _ hg => h.block k (fun h' => hg (by rw [h']))⟩
theorem WE.refl {g : Option Nat} (w : World) : WE g w w := ⟨rfl, rfl, rfl, Nat.le_refl _, fun _ _ _ => rfl⟩
theorem WE.trans {g : Option Nat} {a b c : World} (h : WE g a b) (k : WE g b c) : WE g a c :=
  ⟨k.os.trans h.os, k.tape.trans h.tape, k.output.trans h.output, Nat.le_trans h.size k.size, fun i hi hg => (k.block i (Nat.lt_of_lt_of_le hi h.size) hg).trans (h.block i hi hg)⟩
theorem WE.below {g : Option Nat} {w w' : World} {B : Nat} (h : WE g w w') (hg : ∀ k, g = some k → B ≤ k) (hB : B ≤ w.heap.size) : Below B w w' :=
  ⟨h.os, h.tape, h.output, h.size, fun k hk => h.block k (by omega) (fun e => by have := hg k e; omega)⟩
theorem WE.ext {w w' : World} (h : WE none w w') : Ext w w' := h.below (fun _ e => by cases e) (Nat.le_refl _)

theorem Blk.we {g : Option Nat} {w w' : World} {b : Nat} {cs : List Value} {T : TypeId} (h : Blk w b cs T) (k : WE g w w') (hg : ∀ i, g = some i → b ≠ i) : Blk w' b cs T := by
  unfold Blk; rw [k.block b h.lt (fun e => hg b e rfl)]; exact h
theorem At.we {g : Option Nat} {w w' : World} {b o : Nat} {cs : List Value} (h : At w b o cs) (k : WE g w w') (hg : ∀ i, g = some i → b ≠ i) : At w' b o cs := h.same (fun hb => k.block b hb (fun e => hg b e rfl))
theorem SlR.we {α : Type} [Rep α] {g : Option Nat} {lo hi : Nat} {w w' : World} {v : Value} {xs : List α} (h : SlR lo hi w v xs) (k : WE g w w') (hg : ∀ i, g = some i → i < lo ∨ hi ≤ i) : SlR lo hi w' v xs :=
  h.same (fun i h1 h2 h3 => k.block i h3 (fun e => by have := hg i e; omega))
theorem Rep.rep.we {α : Type} [Rep α] {g : Option Nat} {lo hi : Nat} {w w' : World} {cs : List Value} {x : α} (h : Rep.rep lo hi w cs x) (k : WE g w w') (hg : ∀ i, g = some i → i < lo ∨ hi ≤ i) : Rep.rep lo hi w' cs x :=
  Rep.same h (fun i h1 h2 h3 => k.block i h3 (fun e => by have := hg i e; omega))
theorem Rep.rep.up {α : Type} [Rep α] {lo hi : Nat} {w w' : World} {cs : List Value} {x : α} (h : Rep.rep lo hi w cs x) (k : Ext w w') : Rep.rep lo hi w' cs x := Rep.up h k
theorem Rep.rep.wr {α : Type} [Rep α] {lo hi b : Nat} {w w' : World} {cs : List Value} {x : α} (h : Rep.rep lo hi w cs x) (k : Wr b w w') (hb : b < lo ∨ hi ≤ b) : Rep.rep lo hi w' cs x := Rep.wr h k hb
theorem Rep.rep.wide {α : Type} [Rep α] {lo hi lo' hi' : Nat} {w : World} {cs : List Value} {x : α} (h : Rep.rep lo hi w cs x) (h1 : lo' ≤ lo) (h2 : hi ≤ hi') : Rep.rep lo' hi' w cs x := Rep.wide h h1 h2

/-! ### A slice that the code at hand owns, to append to -/
/-- v holds n elements of s cells each, these cells, in block g of its own (none: it has no room). -/
def Own (w : World) (E : TypeId) (s : Nat) (g : Option Nat) (v : Value) (n : Nat) (cs : List Value) : Prop :=
  (g = none ∧ n = 0 ∧ cs = [] ∧ ∃ p, v = .slice p 0 0) ∨
  ∃ b cap cur, g = some b ∧ v = .slice (some ⟨b, 0, none⟩) n cap ∧ w.heap[b]? = some (.cells cur E (0, 0)) ∧ n ≤ cap ∧ cap ≤ maxLen ∧ cur.size = cap * s ∧ cur.toList.take (n * s) = cs
theorem Own.nil {w : World} {E s : Nat} {p : Option Addr} : Own w E s none (.slice p 0 0) 0 [] := .inl ⟨rfl, rfl, rfl, p, rfl⟩
theorem Own.len {w : World} {E : TypeId} {s : Nat} {g : Option Nat} {v : Value} {n : Nat} {cs : List Value} (h : Own w E s g v n cs) : ∃ p c, v = .slice p n c := by
  rcases h with ⟨_, rfl, _, p, rfl⟩ | ⟨b, cap, cur, _, rfl, _⟩
  · exact ⟨_, _, rfl⟩
  · exact ⟨_, _, rfl⟩
theorem Own.clen {w : World} {E : TypeId} {s : Nat} {g : Option Nat} {v : Value} {n : Nat} {cs : List Value} (h : Own w E s g v n cs) : cs.length = n * s := by
  rcases h with ⟨_, rfl, rfl, _⟩ | ⟨b, cap, cur, _, rfl, _, h2, _, h4, rfl⟩
  · simp
  · have := Nat.mul_le_mul_right s h2
    rw [List.length_take, Array.length_toList, h4]; omega
theorem Own.lt {w : World} {E : TypeId} {s : Nat} {g : Option Nat} {v : Value} {n : Nat} {cs : List Value} (h : Own w E s g v n cs) : ∀ k, g = some k → k < w.heap.size := by
  intro k hk
  rcases h with ⟨rfl, _⟩ | ⟨b, cap, cur, rfl, rfl, h1, _⟩
  · cases hk
  · cases hk
    rcases Nat.lt_or_ge k w.heap.size with h' | h'
    · exact h'
    · rw [Array.getElem?_eq_none h'] at h1; cases h1
theorem Own.we {g' : Option Nat} {w w' : World} {E : TypeId} {s : Nat} {g : Option Nat} {v : Value} {n : Nat} {cs : List Value} (h : Own w E s g v n cs) (k : WE g' w w') (hg : ∀ i, g' = some i → g ≠ some i) : Own w' E s g v n cs := by
  have hlt := h.lt
  rcases h with h | ⟨b, cap, cur, rfl, rfl, h1, h2⟩
  · exact .inl h
  · refine .inr ⟨b, cap, cur, rfl, rfl, ?_, h2⟩
    rw [k.block b (hlt b rfl) (fun e => hg b e rfl)]; exact h1
theorem Own.up {w w' : World} {E : TypeId} {s : Nat} {g : Option Nat} {v : Value} {n : Nat} {cs : List Value} (h : Own w E s g v n cs) (k : Ext w w') : Own w' E s g v n cs := h.we (g' := none) (WE.of_ext k) (fun _ e => by cases e)
theorem Own.wr {b : Nat} {w w' : World} {E : TypeId} {s : Nat} {g : Option Nat} {v : Value} {n : Nat} {cs : List Value} (h : Own w E s g v n cs) (k : Wr b w w') (hb : g ≠ some b) : Own w' E s g v n cs := h.we (WE.of_wr k) (fun i e => by cases e; exact hb)
theorem Own.at {w : World} {E : TypeId} {s : Nat} {b n : Nat} {v : Value} {cs : List Value} (h : Own w E s (some b) v n cs) : At w b 0 cs := by
  rcases h with ⟨h, _⟩ | ⟨b', cap, cur, hb, rfl, h1, h2, h3, h4, rfl⟩
  · cases h
  · cases hb
    intro i u hu
    unfold World.cell?
    rw [show (⟨b, 0 + i, none⟩ : Addr).block = b from rfl, h1]
    have hl : i < n * s := by
      rcases Nat.lt_or_ge i (n * s) with h' | h'
      · exact h'
      · rw [List.getElem?_eq_none (by rw [List.length_take]; omega)] at hu; cases hu
    rw [List.getElem?_take_of_lt hl] at hu
    simpa using hu
/-- It reads as the list its cells read as. -/
theorem Own.slR {α : Type} [Rep α] {w : World} {E : TypeId} {lo hi : Nat} {g : Option Nat} {v : Value} {cs : List Value} {xs : List α} (h : Own w E (Rep.sz α) g v xs.length cs) (hA : All lo hi w cs xs) (hg : ∀ k, g = some k → lo ≤ k ∧ k < hi) : SlR lo hi w v xs := by
  cases g with
  | none =>
    rcases h with ⟨_, hn, _, p, rfl⟩ | ⟨b, _, _, hb, _⟩
    · have : xs = [] := List.eq_nil_of_length_eq_zero hn
      subst this
      exact ⟨p, 0, rfl, Nat.le_refl _, by omega, .inl rfl⟩
    · cases hb
  | some b =>
    have hat := h.at
    rcases h with ⟨h, _⟩ | ⟨b', cap, cur, hb, rfl, h1, h2, h3, h4, h5⟩
    · cases h
    · cases hb
      have := hg b rfl
      exact ⟨_, cap, rfl, h2, (by have := h3; simp only [maxLen] at this; omega), .inr ⟨b, 0, cs, rfl, this.1, this.2, hat, hA⟩⟩

section
variable {P : Program} {n : Nat} {e : Env} {w : World} {Q : Exit → Act → World → Prop} {ops : Array Oper} {rest : List Oper}
  {d : Nat} {ty : TypeId} {pos : String} {after : Array Edge}

theorem run_app {T E s y : Nat} {z : Value} [hT : SliceOf P T E] [i : Info P E s y z] (hs : 0 < s) (hz : z.cells.size = s) {g : Option Nat} {v : Value} {len m c b2 o2 : Nat} {p2 : Option Addr} {cs news : List Value} (h : Own w E s g v len cs)
    (hp : m = 0 ∨ p2 = some ⟨b2, o2, none⟩) (hl : news.length = m * s) (hA : At w b2 o2 news) (h1 : ∀ u ∈ news, u.oneCell' = true) (h63 : len + m ≤ 9223372036854775807) (hb : (len + m) * y ≤ 140737488355328) :
    ∃ v' w' g', (Builtin.append_ #[T, T] ty #[v, .slice p2 m c]).run P w = .ok v' w' ∧ Own w' E s g' v' (len + m) (cs ++ news) ∧ WE g w w' ∧ (g' = g ∨ g' = some w.heap.size) := by
  obtain ⟨inf, hinfo, h2, h3, h4⟩ := i.get
  by_cases hm : m = 0
  · subst hm
    have hn : news = [] := List.eq_nil_of_length_eq_zero (by simpa using hl)
    subst hn
    have hcap : ∃ p cap, v = .slice p len cap ∧ len ≤ cap := by
      rcases h with ⟨_, rfl, _, p, rfl⟩ | ⟨b, cap, cur, _, rfl, _, h2, _⟩
      · exact ⟨_, _, rfl, Nat.le_refl _⟩
      · exact ⟨_, _, rfl, h2⟩
    obtain ⟨p, cap, rfl, hle⟩ := hcap
    refine ⟨_, w, g, ?_, by simpa using h, WE.refl _, .inl rfl⟩
    cases p <;> cases p2 <;> simp [Builtin.append_, run_underlying hT.h, sizeOf, typeInfo, hinfo, Builtin.lenOf, Builtin.firstCells, loadCells, loadCellsFrom, storeCells, hle]
  · rcases hp with hp | rfl
    · exact (hm hp).elim
    have hcell : ∀ j u, news[j]? = some u → w.cell? ((⟨b2, o2, none⟩ : Addr).add j) = some u := fun j u hj => by
      have hadd : (Addr.mk b2 o2 none).add j = ⟨b2, o2 + j, none⟩ := by unfold Addr.add; split <;> simp_all
      rw [hadd]; exact hA j u hj
    rcases h with ⟨rfl, rfl, rfl, p, rfl⟩ | ⟨b, cap, cur, rfl, rfl, g1, g2, g3, g4, g5⟩
    · have hfresh : Own (w.drew.alloc (.cells (news.toArray ++ Builtin.zeroCells z.cells (grownCap w m 0 E - m)) E)) E s (some w.heap.size) (.slice (some ⟨w.heap.size, 0, none⟩) m (grownCap w m 0 E)) m news := by
        have hge := grownCap_ge w m 0 E
        refine .inr ⟨w.heap.size, _, _, rfl, rfl, _root_.Go.heap_alloc_new w.drew _, hge, grownCap_le_maxLen w m 0 E (by simp only [maxLen]; omega), ?_, ?_⟩
        · simp only [Array.size_append, List.size_toArray, size_zeroCells, hz, hl, ← Nat.add_mul]
          congr 1
          omega
        · simp only [Array.toList_append]
          rw [← hl]
          exact List.take_left
      have hwe : WE none w (w.drew.alloc (.cells (news.toArray ++ Builtin.zeroCells z.cells (grownCap w m 0 E - m)) E)) := ⟨rfl, rfl, rfl, by simp, fun k hk _ => _root_.Go.heap_alloc_old w.drew _ hk⟩
      have hbytes : m * inf.bytes ≤ 140737488355328 := by rw [h3]; simpa using hb
      cases p with
      | none =>
        have hr := run_append_nil (P := P) w T ty E inf z hT.h hinfo h4 ⟨b2, o2, none⟩ m c news (by rw [h2]; exact hl) hcell (by omega) (by omega) (by omega)
        exact ⟨_, _, _, hr, by simpa using hfresh, hwe, .inr rfl⟩
      | some a0 =>
        have hr := run_append_grow (P := P) w T ty E inf z hT.h hinfo h4 a0 0 0 [] (by simp) (fun j v hj => by simp at hj) ⟨b2, o2, none⟩ m c news (by rw [h2]; exact hl) hcell (by omega) (by omega) (growslice_fits (by omega) (by simpa using hbytes))
        simp only [Nat.zero_add, Array.empty_append] at hr
        exact ⟨_, _, _, hr, by simpa using hfresh, hwe, .inr rfl⟩
    · have hown : w.ownsRow 0 E s (.slice (some ⟨b, 0, none⟩) len cap) len cs := by
        refine ⟨?_, .inr ⟨b, cap, cur, rfl, Nat.zero_le _, g1, g2, g3, g4, g5⟩⟩
        rw [← g5]
        have := Nat.mul_le_mul_right s g2
        rw [List.length_take, Array.length_toList, g4]; omega
      obtain ⟨v', w', hr, ho, hgrow, hnil, hat⟩ := run_append_own_at (P := P) w 0 T ty E inf z s y hT.h hinfo h4 h2 h3 hz hs _ len cs hown ⟨b2, o2, none⟩ m c news hl hcell h1 (by simp only [maxLen]; omega) hb (Nat.zero_le _)
      obtain ⟨_, hv | ⟨b', cap', cur', rfl, _, k1, k2, k3, k4, k5⟩⟩ := ho
      · exact (hm (by omega)).elim
      · refine ⟨_, w', some b', hr, .inr ⟨b', cap', cur', rfl, rfl, k1, k2, k3, k4, k5⟩, ⟨hgrow.os, hgrow.tape, hgrow.output, hgrow.size, fun k hk hg => hgrow.block k hk (fun e => hg (by simpa [Value.ownBlock] using e.symm))⟩, ?_⟩
        simpa [Value.ownBlock] using hat
theorem vo_append {T E s y : Nat} {z : Value} {x x2 : Operand} [SliceOf P T E] [Info P E s y z] {g : Option Nat} {v : Value} {len m c b2 o2 : Nat} {p2 : Option Addr} {cs news : List Value} (hx : ev e x = some v) (hx2 : ev e x2 = some (.slice p2 m c)) (hd : Nat.blt d n = true) (hs : Nat.blt 0 s = true) (hz : Nat.beq z.cells.size s = true)
    (h : Own w E s g v len cs) (hp : m = 0 ∨ p2 = some ⟨b2, o2, none⟩) (hl : news.length = m * s) (hA : At w b2 o2 news) (h1 : ones news = true) (h63 : len + m ≤ 9223372036854775807) (hb : (len + m) * y ≤ 140737488355328)
    (k : ∀ v' w' g', Own w' E s g' v' (len + m) (cs ++ news) → WE g w w' → (g' = g ∨ g' = some w.heap.size) → VO P n ops rest ((d, v') :: e) w' Q) :
    VO P n ops (⟨some d, .call ⟨.builtin .append, [x, x2].toArray, #[T, T]⟩, ty, pos, after, none⟩ :: rest) e w Q := by
  obtain ⟨v', w', g', hr, ho, hw, hg⟩ := run_app (P := P) (ty := ty) (T := T) (E := E) (c := c) (w := w) (by simpa using hs) (Nat.eq_of_beq_eq_true hz) h hp hl hA (ones_mem h1) h63 hb
  refine vo_val v' ?_ hd (k v' w' g' ho hw hg)
  intro a dst pos after gd ha
  have e1 : ([x, x2].toArray.map a.eval) = #[v, .slice p2 m c] := by simp [ha.ev hx, ha.ev hx2]
  simp only [execOp, resolve, e1]
  simp [invoke, builtin, hr, Result.andThen]

/-! ### A method's receiver, an array's element, a slice's tail -/
theorem runs_nilCheck {x : Operand} {ad : Addr} (hx : ev e x = some (.pointer (some ad))) : RunsOp P n e (.nilCheck x) ty w (.pointer (some ad)) w := by
  intro a dst pos after g ha
  simp only [execOp, ha.ev hx]
  simp
end
end Go.Proofs.Sv
