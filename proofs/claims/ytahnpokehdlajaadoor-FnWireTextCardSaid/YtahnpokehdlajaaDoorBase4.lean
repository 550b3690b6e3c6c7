/- Regions whose order the tape picks, where each operation only looks at memory or makes new memory: one walk in the order of the text serves every order. Over any program. -/
import Derived.Test.YtahnpokehdlajaaDoorBase3
import Derived.Deep.Quiet
namespace Go.Proofs.Sv
open Go Go.RowKit

class Mixed (P : Program) : Prop where h : P.follows .mixedOrders = true

/-- The walk of such a region: C is the class of worlds that grew out of w0. -/
def VQ (P : Program) (n : Nat) (ops : Array Oper) (w0 : World) (l : List Oper) (e : Env) (Q : Exit → Act → World → Prop) : Prop :=
  ∀ a, Agree n e a → wpQuiet P ops (Ext w0) (fun a' => ∀ w', Ext w0 w' → Q .normal a' w') l a

section
variable {P : Program} {n : Nat} {e : Env} {w : World} {Q : Exit → Act → World → Prop} {ops : Array Oper} {rest : List Oper}
  {d : Nat} {ty : TypeId} {pos : String} {after : Array Edge}

theorem vs_drawn {id : Nat} {l : List Oper} [hm : Mixed P] (hB : Region.lexB .any l.toArray = true) (h : VQ P n l.toArray w l e Q) : VS P n (.region id l.toArray true) e w Q :=
  fun a ha => wp_region_quiet (C := Ext w) hm.h hB ((Below.refl _ _).drew) (by simpa using h a ha)

theorem vq_nil (h : ∀ w', Ext w w' → FinS n .normal e w' Q) : VQ P n ops w [] e Q := fun a ha => wpQuiet_nil (fun w' hw' => h w' hw' a ha)

theorem vq_val {op : Op} (v : Value) (hr : ∀ w', Ext w w' → RunsOp P n e op ty w' v w') (hd : Nat.blt d n = true)
    (h : VQ P n ops w rest ((d, v) :: e) Q) : VQ P n ops w (⟨some d, op, ty, pos, after, none⟩ :: rest) e Q := by
  intro a ha
  unfold wpQuiet
  simp only [Region.wanted, if_true]
  refine ⟨v, fun w' hw' => ?_, h _ (ha.put d hd v)⟩
  unfold Oper.quietAt
  rw [hr w' hw' a (some d) pos after none ha]
  exact ⟨rfl, rfl⟩
theorem vq_pure {op : Op} {v : Value} (h : pureV e op = some v) (hd : Nat.blt d n = true)
    (k : VQ P n ops w rest ((d, v) :: e) Q) : VQ P n ops w (⟨some d, op, ty, pos, after, none⟩ :: rest) e Q := vq_val v (fun _ _ => runs_pure h) hd k
theorem vq_call {f : Nat} {xs : List Operand} {vs : List Value} {tys : Array TypeId} [HasBody P f] (hx : evl e xs = some vs) (v : Value) (hd : Nat.blt d n = true)
    (hc : ∀ w', Ext w w' → Calls P f vs.toArray w' (fun en w'' => en = .returned v ∧ Ext w' w''))
    (h : VQ P n ops w rest ((d, v) :: e) Q) : VQ P n ops w (⟨some d, .call ⟨.value (.func f), xs.toArray, tys⟩, ty, pos, after, none⟩ :: rest) e Q := by
  intro a ha
  unfold wpQuiet
  simp only [Region.wanted, if_true]
  refine ⟨v, fun w' hw' => ?_, h _ (ha.put d hd v)⟩
  have e1 : xs.toArray.map a.eval = vs.toArray := by rw [← ha.evl hx]; simp
  have : (execOp a.eval ⟨some d, .call ⟨.value (.func f), xs.toArray, tys⟩, ty, pos, after, none⟩).run P w' = .ok (.enter f vs.toArray) w' := by
    simp only [execOp, resolve, e1]
    simp [Act.eval, Deferred.ofValue, invoke, run_callFunc]
  unfold Oper.quietAt
  rw [this]
  exact ⟨rfl, Calls.mono (hc w' hw') fun en w'' ⟨h1, h2⟩ => ⟨h1, Ext.trans hw' h2⟩⟩
theorem vq_callv {f : Nat} {x : Operand} {xs : List Operand} {vs caps : List Value} {tys : Array TypeId} [HasBody P f] (hf : ev e x = some (.func (.func f) #[] caps.toArray)) (hx : evl e xs = some vs) (v : Value) (hd : Nat.blt d n = true)
    (hc : ∀ w', Ext w w' → Calls P f (vs ++ caps).toArray w' (fun en w'' => en = .returned v ∧ Ext w' w''))
    (h : VQ P n ops w rest ((d, v) :: e) Q) : VQ P n ops w (⟨some d, .call ⟨.value x, xs.toArray, tys⟩, ty, pos, after, none⟩ :: rest) e Q := by
  intro a ha
  unfold wpQuiet
  simp only [Region.wanted, if_true]
  refine ⟨v, fun w' hw' => ?_, h _ (ha.put d hd v)⟩
  have e1 : xs.toArray.map a.eval = vs.toArray := by rw [← ha.evl hx]; simp
  have e2 : a.eval x = .func (.func f) #[] caps.toArray := ha.ev hf
  have : (execOp a.eval ⟨some d, .call ⟨.value x, xs.toArray, tys⟩, ty, pos, after, none⟩).run P w' = .ok (.enter f (vs ++ caps).toArray) w' := by
    simp only [execOp, resolve, e1, e2]
    simp [Deferred.ofValue, invoke, run_callFunc]
  unfold Oper.quietAt
  rw [this]
  exact ⟨rfl, Calls.mono (hc w' hw') fun en w'' ⟨h1, h2⟩ => ⟨h1, Ext.trans hw' h2⟩⟩

theorem vq_guard_take {dst : Option Nat} {op : Op} {j s : Nat} {b : Bool} (hj : gslot ops j = some s) (hb : lk e s = some (.bool b))
    (h : VQ P n ops w (⟨dst, op, ty, pos, after, none⟩ :: rest) e Q) : VQ P n ops w (⟨dst, op, ty, pos, after, some (j, b)⟩ :: rest) e Q := by
  intro a ha
  have h' := h a ha
  unfold wpQuiet at h' ⊢
  simpa only [Region.wanted, yielded_of ha hj hb, BEq.rfl, if_true, Oper.quiet, Oper.quietAt, execOp] using h'
theorem vq_guard_skip {op : Op} {j s : Nat} {b b' : Bool} (hj : gslot ops j = some s) (hb : lk e s = some (.bool b)) (hne : (b == b') = false) (hd : Nat.blt d n = true)
    (h : VQ P n ops w rest ((d, undef) :: e) Q) : VQ P n ops w (⟨some d, op, ty, pos, after, some (j, b')⟩ :: rest) e Q := by
  intro a ha
  unfold wpQuiet
  have : Region.wanted ⟨some d, op, ty, pos, after, some (j, b')⟩ (yielded ops a.tmps) = false := by
    simp only [Region.wanted, yielded_of ha hj hb]; simpa using hne
  rw [this]
  exact h _ (ha.put d hd undef)
theorem yielded_undef {a : Act} (ha : Agree n e a) {j s : Nat} (hj : gslot ops j = some s) (hb : lk e s = some undef) : yielded ops a.tmps j = none := by
  have h := ha.2.2 s _ hb
  have e1 : ((ops[j]?).bind (·.dst)) = some s := by rw [← gslot_eq]; exact hj
  unfold yielded
  rw [e1]
  simp only [Option.bind_some]
  rw [Array.getD_eq_getD_getElem?] at h
  cases h2 : a.tmps[s]? with
  | none => rfl
  | some x => rw [h2] at h; simp at h; subst h; rfl
theorem vq_guard_undef {op : Op} {j s : Nat} {b' : Bool} (hj : gslot ops j = some s) (hb : lk e s = some undef) (hd : Nat.blt d n = true)
    (h : VQ P n ops w rest ((d, undef) :: e) Q) : VQ P n ops w (⟨some d, op, ty, pos, after, some (j, b')⟩ :: rest) e Q := by
  intro a ha
  unfold wpQuiet
  have : Region.wanted ⟨some d, op, ty, pos, after, some (j, b')⟩ (yielded ops a.tmps) = false := by
    simp [Region.wanted, yielded_undef ha hj hb]
  rw [this]
  exact h _ (ha.put d hd undef)
theorem vq_split {l : List Oper} {b : Bool} (ht : b = true → VQ P n ops w l ((d, .bool true) :: e) Q) (hf : b = false → VQ P n ops w l ((d, .bool false) :: e) Q) : VQ P n ops w l ((d, .bool b) :: e) Q := by
  cases b
  · exact hf rfl
  · exact ht rfl
end
end Go.Proofs.Sv
