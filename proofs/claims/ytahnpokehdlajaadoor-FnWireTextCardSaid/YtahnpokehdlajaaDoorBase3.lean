/- Operations that look at memory, arithmetic within bounds, calls, over the short frames. Over any program. -/
import Derived.Test.YtahnpokehdlajaaDoorBase2
import Derived.IntWalk
namespace Go.Proofs.Sv
open Go Go.RowKit

/-! ### Facts on a program's tables, found by their numbers -/
def notAggB (P : Program) (T : TypeId) : Bool := match P.underlying T with
  | some (.struct _) | some (.array ..) | none => false
  | _ => true
class NotAgg (P : Program) (T : TypeId) : Prop where h : notAggB P T = true
class SliceOf (P : Program) (T : TypeId) (E : outParam TypeId) : Prop where h : P.underlying T = some (.slice E)
class StringT (P : Program) (T : TypeId) : Prop where h : P.underlying T = some .string
def infoB (P : Program) (T : TypeId) : Option (Nat × Nat × Option Value) := (P.info? T).map fun i => (i.size, i.bytes, i.zero)
class Info (P : Program) (T : TypeId) (size bytes : outParam Nat) (z : outParam Value) : Prop where h : infoB P T = some (size, bytes, some z)
def aggB (P : Program) (T : TypeId) : Bool := match P.underlying T with
  | some (.struct _) | some (.array ..) => true
  | _ => false
class AggT (P : Program) (T : TypeId) : Prop where h : aggB P T = true
/-- Field number k of the struct type lies at this offset; its type has at least one cell. -/
def fieldB (P : Program) (T : TypeId) (k : Nat) : Option (Nat × Bool) := match P.underlying T with
  | some (.struct fs) => match fs[k]? with
    | some f => some (f.offset, match P.info? f.type with | some i => !(i.size == 0) | none => false)
    | none => none
  | _ => none
class FieldAt (P : Program) (T : TypeId) (k : Nat) (off : outParam Nat) : Prop where h : fieldB P T k = some (off, true)
def enterB (P : Program) (f : Nat) : Bool := match P.funcs[f]? with
  | some fn => !(fn.name == "runtime.NumGoroutine") && fn.body.isSome
  | none => false
class HasBody (P : Program) (f : Nat) : Prop where h : enterB P f = true

theorem run_typeInfo {P : Program} {T : TypeId} {i : TypeInfo} (w : World) (h : P.info? T = some i) : (typeInfo T).run P w = .ok i w := by
  have hp : (program).run P w = .ok P w := rfl
  unfold typeInfo
  rw [Sem.run_bind, hp]
  simp only [Result.andThen, h]
  rfl
theorem run_sizeOf' {P : Program} {T : TypeId} {i : TypeInfo} (w : World) (h : P.info? T = some i) : (sizeOf T).run P w = .ok i.size w := by
  unfold sizeOf; rw [Sem.run_bind, run_typeInfo w h]; rfl
theorem run_zeroValue' {P : Program} {T : TypeId} {i : TypeInfo} {z : Value} (w : World) (h : P.info? T = some i) (hz : i.zero = some z) : (zeroValue T).run P w = .ok z w := by
  unfold zeroValue; rw [Sem.run_bind, run_typeInfo w h]; simp only [Result.andThen, hz]; rfl
theorem Info.get {P : Program} {T s y : Nat} {z : Value} (h : Info P T s y z) : ∃ i, P.info? T = some i ∧ i.size = s ∧ i.bytes = y ∧ i.zero = some z := by
  have hi := h.h
  unfold infoB at hi
  cases hinfo : P.info? T with
  | none => rw [hinfo] at hi; cases hi
  | some inf =>
    rw [hinfo] at hi
    simp only [Option.map_some, Option.some.injEq, Prod.mk.injEq] at hi
    exact ⟨inf, rfl, hi.1, hi.2.1, hi.2.2⟩

/-! ### Memory -/
/-- Block b holds just these cells, none of them frozen. -/
def Blk (w : World) (b : Nat) (cs : List Value) (T : TypeId) : Prop := w.heap[b]? = some (.cells cs.toArray T (0, 0))
/-- From that place on these cells lie. -/
def At (w : World) (b o : Nat) (cs : List Value) : Prop := ∀ i u, cs[i]? = some u → w.cell? ⟨b, o + i, none⟩ = some u
/-- All that was there is as it was. -/
abbrev Ext (w w' : World) : Prop := Below w.heap.size w w'
theorem Ext.refl (w : World) : Ext w w := Below.refl _ _
theorem Ext.trans {a b c : World} (h : Ext a b) (k : Ext b c) : Ext a c := Below.trans h (Below.mono k h.size)

theorem Blk.lt {w : World} {b : Nat} {cs : List Value} {T : TypeId} (h : Blk w b cs T) : b < w.heap.size := by
  rcases Nat.lt_or_ge b w.heap.size with h' | h'
  · exact h'
  · unfold Blk at h; rw [Array.getElem?_eq_none h'] at h; cases h
theorem Blk.ext {w w' : World} {b : Nat} {cs : List Value} {T : TypeId} (h : Blk w b cs T) (k : Ext w w') : Blk w' b cs T := by
  unfold Blk; rw [k.block b h.lt]; exact h
theorem Blk.up {w w' : World} {b : Nat} {cs : List Value} {T : TypeId} (h : Blk w b cs T) (k : Ext w w') : Blk w' b cs T := h.ext k
theorem Blk.at {w : World} {b : Nat} {cs : List Value} {T : TypeId} (h : Blk w b cs T) : At w b 0 cs := by
  intro i u hu
  unfold World.cell?
  rw [show (⟨b, 0 + i, none⟩ : Addr).block = b from rfl, h]
  simpa using hu
theorem At.lt {w : World} {b o : Nat} {cs : List Value} (h : At w b o cs) (hc : 0 < cs.length) : b < w.heap.size := by
  have h0 := h 0 cs[0] (by simp [hc])
  rcases Nat.lt_or_ge b w.heap.size with h' | h'
  · exact h'
  · unfold World.cell? at h0; rw [show (⟨b, o + 0, none⟩ : Addr).block = b from rfl, Array.getElem?_eq_none h'] at h0; cases h0
/-- What lies in a block that has not turned lies there still. -/
theorem At.same {w w' : World} {b o : Nat} {cs : List Value} (h : At w b o cs) (k : b < w.heap.size → w'.heap[b]? = w.heap[b]?) : At w' b o cs := by
  intro i u hu
  have hl : 0 < cs.length := by rcases Nat.lt_or_ge i cs.length with h' | h'; omega; rw [List.getElem?_eq_none h'] at hu; cases hu
  have := h i u hu
  rw [← this]
  exact World.cell?_of_block (w := w) (k (h.lt hl))
theorem At.ext {w w' : World} {b o : Nat} {cs : List Value} (h : At w b o cs) (k : Ext w w') : At w' b o cs := h.same (fun hb => k.block b hb)
theorem At.up {w w' : World} {b o : Nat} {cs : List Value} (h : At w b o cs) (k : Ext w w') : At w' b o cs := h.ext k
theorem At.mid {w : World} {b o : Nat} {pre c post : List Value} (h : At w b o (pre ++ c ++ post)) : At w b (o + pre.length) c := by
  intro i u hu
  have hl : i < c.length := by rcases Nat.lt_or_ge i c.length with h' | h'; exact h'; rw [List.getElem?_eq_none h'] at hu; cases hu
  have := h (pre.length + i) u (by rw [List.append_assoc, List.getElem?_append_right (by omega), List.getElem?_append_left (by omega)]; rw [← hu]; congr 1; omega)
  rw [← this, Nat.add_assoc]

/-- A new block. -/
structure NewB (w : World) (b : Nat) (w' : World) : Prop where
  eq : w.heap.size = b
  ext : Ext w w'
  size : w'.heap.size = b + 1
/-- Only block b may have turned. -/
structure Wr (b : Nat) (w w' : World) : Prop where
  os : w'.os = w.os
  tape : w'.tape = w.tape
  output : w'.output = w.output
  size : w'.heap.size = w.heap.size
  block : ∀ k, k ≠ b → w'.heap[k]? = w.heap[k]?
theorem Wr.below {b B : Nat} {w w' : World} (h : Wr b w w') (hb : B ≤ b) : Below B w w' := ⟨h.os, h.tape, h.output, by rw [h.size]; exact Nat.le_refl _, fun k hk => h.block k (by omega)⟩
theorem Blk.wr {w w' : World} {b b' : Nat} {cs : List Value} {T : TypeId} (h : Blk w b cs T) (k : Wr b' w w') (hb : b ≠ b') : Blk w' b cs T := by
  unfold Blk; rw [k.block b hb]; exact h
theorem At.wr {w w' : World} {b o b' : Nat} {cs : List Value} (h : At w b o cs) (k : Wr b' w w') (hb : b ≠ b') : At w' b o cs := h.same (fun _ => k.block b hb)

theorem newB_alloc (w : World) (o : Obj) : NewB w w.heap.size (w.alloc o) := ⟨rfl, (Below.refl _ _).alloc (Nat.le_refl _) _, by simp⟩
theorem blk_alloc (w : World) (cs : Array Value) (T : TypeId) : Blk (w.alloc (.cells cs T)) w.heap.size cs.toList T := by
  unfold Blk World.alloc; simp

section
variable {P : Program} {n : Nat} {e : Env} {w : World} {Q : Exit → Act → World → Prop} {ops : Array Oper} {rest : List Oper}
  {d : Nat} {ty : TypeId} {pos : String} {after : Array Edge}

/-! ### New boxes -/
theorem vo_box {T : TypeId} {x : Operand} {v : Value} {cs : List Value} (hx : ev e x = some v) (hv : v.cells.toList = cs) (hd : Nat.blt d n = true)
    (k : ∀ b w', NewB w b w' → Blk w' b cs T → VO P n ops rest ((d, .pointer (some ⟨b, 0, none⟩)) :: e) w' Q) :
    VO P n ops (⟨some d, .box T x, ty, pos, after, none⟩ :: rest) e w Q := by
  subst hv
  refine vo_val (.pointer (some ⟨w.heap.size, 0, none⟩)) (w' := w.alloc (.cells v.cells T)) ?_ hd (k _ _ (newB_alloc _ _) (blk_alloc _ _ _))
  intro a dst pos after g ha
  simp only [execOp, ha.ev hx]; rfl
theorem vo_alloc {T : TypeId} {s y : Nat} {z : Value} {cs : List Value} [i : Info P T s y z] (hv : z.cells.toList = cs) (hd : Nat.blt d n = true)
    (k : ∀ b w', NewB w b w' → Blk w' b cs T → VO P n ops rest ((d, .pointer (some ⟨b, 0, none⟩)) :: e) w' Q) :
    VO P n ops (⟨some d, .alloc T, ty, pos, after, none⟩ :: rest) e w Q := by
  subst hv
  obtain ⟨inf, hinfo, h1, h2, h3⟩ := i.get
  refine vo_val (.pointer (some ⟨w.heap.size, 0, none⟩)) (w' := w.alloc (.cells z.cells T)) ?_ hd (k _ _ (newB_alloc _ _) (blk_alloc _ _ _))
  intro a dst pos after g ha
  have hz := run_zeroValue' w hinfo h3
  simp only [execOp, Instr.alloc, Sem.run_bind, hz, Result.andThen]
  rfl

/-! ### Field by field -/
theorem runs_fieldAddr {T : TypeId} {x : Operand} {b o f off : Nat} [hf : FieldAt P T f off] (hx : ev e x = some (.pointer (some ⟨b, o, none⟩))) :
    RunsOp P n e (.fieldAddr T x f) ty w (.pointer (some ⟨b, o + off, none⟩)) w := by
  intro a dst pos after g ha
  have h := hf.h
  unfold fieldB at h
  split at h
  · rename_i fs hfs
    split at h
    · rename_i fl hfl
      simp only [Option.some.injEq, Prod.mk.injEq] at h
      obtain ⟨h1, h2⟩ := h
      split at h2
      · rename_i i hi
        have hs : ¬ i.size = 0 := by simpa using h2
        have ha0 : (Addr.mk b o none).add fl.offset = ⟨b, o + off, none⟩ := by
          unfold Addr.add
          rw [h1]
          split
          · rename_i h0; subst h0; rfl
          · rfl
        simp only [execOp, ha.ev hx]
        simp [Instr.fieldAt, run_underlying hfs, hfl, Instr.sureAddr, fieldPlace, run_sizeOf' w hi, hs, Result.andThen, ha0]
      · cases h2
    · cases h
  · cases h
theorem loadVar_one {T : TypeId} {ad : Addr} {v : Value} [hT : NotAgg P T] (h : w.cell? ad = some v) : (loadVar T ad).run P w = .ok v w := by
  have hn := hT.h
  unfold notAggB at hn
  split at hn
  · cases hn
  · cases hn
  · cases hn
  · rename_i h1 h2 h3
    cases hu : P.underlying T with
    | none => exact (h3 hu).elim
    | some dsc =>
      have : (isAgg T).run P w = .ok false w := by
        unfold isAgg
        simp only [Sem.run_bind, run_underlying hu, Result.andThen]
        cases dsc with
        | struct fs => exact (h1 _ hu).elim
        | array a b => exact (h2 _ _ hu).elim
        | _ => rfl
      simp [loadVar, this, h, load, Sem.run, Result.andThen]
theorem runs_load {T : TypeId} {x : Operand} {ad : Addr} {v : Value} [NotAgg P T] (hx : ev e x = some (.pointer (some ad))) (h : w.cell? ad = some v) : RunsOp P n e (.load T x) ty w v w := by
  intro a dst pos after g ha
  simp only [execOp, ha.ev hx]
  simp [Instr.loadAt, Instr.sureAddr, loadVar_one h, Result.andThen]
theorem loadVar_agg {T : TypeId} {b o s y : Nat} {z : Value} {cs : List Value} [hT : AggT P T] [i : Info P T s y z] (hl : cs.length = s) (h : At w b o cs) : (loadVar T ⟨b, o, none⟩).run P w = .ok (.agg cs.toArray) w := by
  have hn := hT.h
  unfold aggB at hn
  obtain ⟨inf, hinfo, h1, h2, h3⟩ := i.get
  have hg : (isAgg T).run P w = .ok true w := by
    split at hn
    · rename_i fs hfs; unfold isAgg; simp [run_underlying hfs, Result.andThen]
    · rename_i a b hfs; unfold isAgg; simp [run_underlying hfs, Result.andThen]
    · cases hn
  have hc := run_loadCells_list (P := P) w ⟨b, o, none⟩ cs (fun j v hv => by
    have := h j v hv
    rw [← this]
    congr 1
    unfold Addr.add
    split
    · rename_i h0; subst h0; rfl
    · rfl)
  rw [hl, ← h1] at hc
  simp [loadVar, hg, run_sizeOf' w hinfo, Result.andThen, hc]
theorem runs_loadA {T : TypeId} {x : Operand} {b o s y : Nat} {z : Value} {cs : List Value} [AggT P T] [Info P T s y z] (hx : ev e x = some (.pointer (some ⟨b, o, none⟩))) (hl : cs.length = s) (h : At w b o cs) : RunsOp P n e (.load T x) ty w (.agg cs.toArray) w := by
  intro a dst pos after g ha
  simp only [execOp, ha.ev hx]
  simp [Instr.loadAt, Instr.sureAddr, loadVar_agg hl h, Result.andThen]

/-! ### Arithmetic within bounds -/
theorem runs_add {T T' : TypeId} {x y : Operand} {a b : Int} (hx : ev e x = some (.int .i64 a)) (hy : ev e y = some (.int .i64 b)) (hr : -9223372036854775808 ≤ a + b ∧ a + b ≤ 9223372036854775807) :
    RunsOp P n e (.binOp .add T x y T') ty w (.int .i64 (a + b)) w := by
  intro ac dst pos after g ha
  simp only [execOp, ha.ev hx, ha.ev hy]
  simp [eqGuard, binOp, Op.intArith, IntWalk.i64_in _ hr]
theorem runs_sub {T T' : TypeId} {x y : Operand} {a b : Int} (hx : ev e x = some (.int .i64 a)) (hy : ev e y = some (.int .i64 b)) (hr : -9223372036854775808 ≤ a - b ∧ a - b ≤ 9223372036854775807) :
    RunsOp P n e (.binOp .sub T x y T') ty w (.int .i64 (a - b)) w := by
  intro ac dst pos after g ha
  simp only [execOp, ha.ev hx, ha.ev hy]
  simp [eqGuard, binOp, Op.intArith, IntWalk.i64_in _ hr]
theorem runs_mul {T T' : TypeId} {x y : Operand} {a b : Int} (hx : ev e x = some (.int .i64 a)) (hy : ev e y = some (.int .i64 b)) (hr : -9223372036854775808 ≤ a * b ∧ a * b ≤ 9223372036854775807) :
    RunsOp P n e (.binOp .mul T x y T') ty w (.int .i64 (a * b)) w := by
  intro ac dst pos after g ha
  simp only [execOp, ha.ev hx, ha.ev hy]
  simp [eqGuard, binOp, Op.intArith, IntWalk.i64_in _ hr]
theorem runs_cat {T T' : TypeId} {x y : Operand} {s t : ByteArray} (hx : ev e x = some (.string s)) (hy : ev e y = some (.string t)) (hr : s.size + t.size ≤ 9223372036854775807) :
    RunsOp P n e (.binOp .add T x y T') ty w (.string (s ++ t)) w := by
  intro ac dst pos after g ha
  have hm' : ¬ (9223372036854775807 : Int) < (s.size : Int) + (t.size : Int) := by omega
  simp only [execOp, ha.ev hx, ha.ev hy]
  simp [eqGuard, binOp, Op.stringOp, hm']

/-! ### len -/
theorem runs_lenS {T : TypeId} {x : Operand} {s : ByteArray} [h : StringT P T] (hx : ev e x = some (.string s)) :
    RunsOp P n e (.call ⟨.builtin .len, [x].toArray, #[T]⟩) ty w (.int .i64 (s.size : Int)) w := by
  intro a dst pos after g ha
  have : ([x].toArray.map a.eval) = #[.string s] := by simp [ha.ev hx]
  simp only [execOp, resolve, this]
  simp [invoke, builtin, Builtin.len_, run_underlying h.h, goInt, Result.andThen]
theorem runs_lenL {T E : TypeId} {x : Operand} {p : Option Addr} {len cap : Nat} [h : SliceOf P T E] (hx : ev e x = some (.slice p len cap)) :
    RunsOp P n e (.call ⟨.builtin .len, [x].toArray, #[T]⟩) ty w (.int .i64 (len : Int)) w := by
  intro a dst pos after g ha
  have : ([x].toArray.map a.eval) = #[.slice p len cap] := by simp [ha.ev hx]
  simp only [execOp, resolve, this]
  simp [invoke, builtin, Builtin.len_, run_underlying h.h, goInt, Result.andThen]

/-! ### Calls -/
theorem run_callFunc {f : Nat} [h : HasBody P f] (args : Array Value) : (callFunc f args).run P w = .ok (.enter f args) w := by
  have hb := h.h
  unfold enterB at hb
  split at hb
  · rename_i fn hfn
    simp only [Bool.and_eq_true, Bool.not_eq_true', Option.isSome_iff_exists] at hb
    obtain ⟨h1, c, hc⟩ := hb
    have hp : (program).run P w = .ok P w := rfl
    unfold callFunc
    rw [Sem.run_bind, hp]
    simp only [Result.andThen, hfn, h1, hc, Option.isNone_some, Bool.false_eq_true, if_false]
    rfl
  · cases hb
theorem vo_call {f : Nat} {xs : List Operand} {vs : List Value} {tys : Array TypeId} [HasBody P f] (hx : evl e xs = some vs) (hd : Nat.blt d n = true)
    (h : Calls P f vs.toArray w (fun en w' => ∃ v, en = .returned v ∧ VO P n ops rest ((d, v) :: e) w' Q)) :
    VO P n ops (⟨some d, .call ⟨.value (.func f), xs.toArray, tys⟩, ty, pos, after, none⟩ :: rest) e w Q := by
  intro a ha
  refine wpList_plain rfl fun K hK => ?_
  unfold Oper.wp
  have e1 : xs.toArray.map a.eval = vs.toArray := by rw [← ha.evl hx]; simp
  have : (execOp a.eval ⟨some d, .call ⟨.value (.func f), xs.toArray, tys⟩, ty, pos, after, none⟩).run P w = .ok (.enter f vs.toArray) w := by
    simp only [execOp, resolve, e1]
    simp [Act.eval, Deferred.ofValue, invoke, run_callFunc]
  rw [this]
  refine Calls.mono h ?_
  rintro en w' ⟨v, rfl, hv⟩
  exact hK _ _ (hv _ (ha.put d hd v))
/-- A call through a function value that is known. -/
theorem vo_callv {f : Nat} {x : Operand} {xs : List Operand} {vs caps : List Value} {tys : Array TypeId} [HasBody P f] (hf : ev e x = some (.func (.func f) #[] caps.toArray)) (hx : evl e xs = some vs) (hd : Nat.blt d n = true)
    (h : Calls P f (vs ++ caps).toArray w (fun en w' => ∃ v, en = .returned v ∧ VO P n ops rest ((d, v) :: e) w' Q)) :
    VO P n ops (⟨some d, .call ⟨.value x, xs.toArray, tys⟩, ty, pos, after, none⟩ :: rest) e w Q := by
  intro a ha
  refine wpList_plain rfl fun K hK => ?_
  unfold Oper.wp
  have e1 : xs.toArray.map a.eval = vs.toArray := by rw [← ha.evl hx]; simp
  have e2 : a.eval x = .func (.func f) #[] caps.toArray := ha.ev hf
  have : (execOp a.eval ⟨some d, .call ⟨.value x, xs.toArray, tys⟩, ty, pos, after, none⟩).run P w = .ok (.enter f (vs ++ caps).toArray) w := by
    simp only [execOp, resolve, e1, e2]
    simp [Deferred.ofValue, invoke, run_callFunc]
  rw [this]
  refine Calls.mono h ?_
  rintro en w' ⟨v, rfl, hv⟩
  exact hK _ _ (hv _ (ha.put d hd v))
end
end Go.Proofs.Sv
