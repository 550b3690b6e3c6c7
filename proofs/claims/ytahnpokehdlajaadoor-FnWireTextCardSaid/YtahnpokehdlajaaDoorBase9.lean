/- Regions whose order the tape picks and that hold calls which make memory: what only looks is taken first; the rest comes one by one. Over any program. -/
import Derived.Test.YtahnpokehdlajaaDoorBase8
import Derived.Deep.RegionHeld3
namespace Go.Proofs.Sv
open Go Go.RowKit

def VH (P : Program) (n : Nat) (ops : Array Oper) (w0 : World) (fuel : Nat) (listed : Array Bool) (e : Env) (w : World) (Q : Exit → Act → World → Prop) : Prop :=
  Ext w0 w ∧ ∀ a, Agree n e a → wpAnyH P .any ops (NoPanic Q) (Ext w0) fuel listed a w
def nthO : List Oper → Nat → Option Oper
  | [], _ => none
  | o :: _, 0 => some o
  | _ :: r, i + 1 => nthO r i
theorem nthO_eq : ∀ (l : List Oper) (i : Nat), nthO l i = l[i]?
  | [], _ => by simp [nthO]
  | _ :: _, 0 => by simp [nthO]
  | _ :: r, i + 1 => by simp [nthO, nthO_eq r i]
theorem nthO_arr {l : List Oper} {i : Nat} {o : Oper} (h : nthO l i = some o) : l.toArray[i]? = some o := by rw [nthO_eq] at h; simpa using h

theorem wpAnyH_mono {P : Program} {md : Region.Mode} {ops : Array Oper} {Q : Exit → Act → World → Prop} {S S' : World → Prop} (hS : ∀ w, S' w → S w) :
    ∀ (fuel : Nat) (listed : Array Bool) (a : Act) (w : World), wpAnyH P md ops Q S' fuel listed a w → wpAnyH P md ops Q S fuel listed a w
  | 0, _, _, _, h => h
  | fuel + 1, _, _, _, h => ⟨h.1, fun i hi => wpOp_mono (fun a' w' h' => ⟨hS _ h'.1, wpAnyH_mono hS fuel _ a' w' h'.2⟩) (h.2 i hi)⟩

section
variable {P : Program} {n : Nat} {e : Env} {w w0 : World} {Q : Exit → Act → World → Prop} {l : List Oper} {fuel : Nat} {listed : Array Bool}
  {d : Nat} {op : Op} {ty : TypeId} {pos : String} {after : Array Edge}

theorem vs_held {id : Nat} [hm : Mixed P] (h : ∀ w', Ext w w' → VH P n l.toArray w' l.length (Array.replicate l.length false) e w' Q) : VS P n (.region id l.toArray true) e w Q := by
  intro a ha
  refine wp_region_noPanic (wp_region_held (S := Ext w.drew) hm.h ?_)
  have := (h w.drew ((Below.refl _ _).drew)).2 a ha
  simpa using this
/-- The class of worlds is narrowed to what grows out of the world at hand. -/
theorem vh_shift {ops : Array Oper} (hw : Ext w0 w) (h : VH P n ops w fuel listed e w Q) : VH P n ops w0 fuel listed e w Q :=
  ⟨hw, fun a ha => wpAnyH_mono (fun _ h' => Ext.trans hw h') _ _ _ _ (h.2 a ha)⟩
theorem vh_ext {ops : Array Oper} (h : Ext w0 w → VH P n ops w0 fuel listed e w Q) (hw : Ext w0 w) : VH P n ops w0 fuel listed e w Q := h hw
/-- An operation that yields one value in every such world is taken first. -/
theorem vh_take (i : Nat) {v : Value} (hi : nthO l i = some ⟨some d, op, ty, pos, after, none⟩) (hr : ∀ w', Ext w0 w' → RunsOp P n e op ty w' v w') (hd : Nat.blt d n = true)
    (hs : Region.noSelect l.toArray = true) (hf : Region.free .any l.toArray listed i = true) (hc : (Region.ready .any l.toArray listed).contains i = true)
    (h : VH P n l.toArray w0 fuel (listed.setIfInBounds i true) ((d, v) :: e) w Q) : VH P n l.toArray w0 (fuel + 1) listed e w Q := by
  refine ⟨h.1, fun a ha => wpAnyH_take (v := v) (nthO_arr hi) hs hf hc (fun _ _ _ hq => hq) (.inl ⟨by simp [Region.wanted], fun w' hw' => hr w' hw' a _ _ _ _ ha⟩) h.1 (h.2 _ (ha.put d hd v))⟩
/-- One operation alone may come up: one that only yields a value. -/
theorem vh_only (i : Nat) {v : Value} (hi : nthO l i = some ⟨some d, op, ty, pos, after, none⟩) (hc : Region.ready .any l.toArray listed = [i]) (hr : RunsOp P n e op ty w v w) (hd : Nat.blt d n = true)
    (h : VH P n l.toArray w0 fuel (listed.setIfInBounds i true) ((d, v) :: e) w Q) : VH P n l.toArray w0 (fuel + 1) listed e w Q := by
  refine ⟨h.1, fun a ha => wpAnyH_all hc (by simp) fun j hj => ?_⟩
  obtain rfl : j = i := by simpa using hj
  unfold wpOp
  simp only [nthO_arr hi, Region.wanted, if_true, Oper.wp]
  rw [hr a _ _ _ _ ha]
  exact .inl ⟨h.1, h.2 _ (ha.put d hd v)⟩
/-- One operation alone may come up: a call. -/
theorem vh_call (i : Nat) {f : Nat} {xs : List Operand} {vs : List Value} {tys : Array TypeId} [HasBody P f] (hi : nthO l i = some ⟨some d, .call ⟨.value (.func f), xs.toArray, tys⟩, ty, pos, after, none⟩) (hc : Region.ready .any l.toArray listed = [i])
    (hx : evl e xs = some vs) (hd : Nat.blt d n = true)
    (h : Calls P f vs.toArray w (fun en w' => ∃ v, en = .returned v ∧ VH P n l.toArray w0 fuel (listed.setIfInBounds i true) ((d, v) :: e) w' Q)) (hw : Ext w0 w) : VH P n l.toArray w0 (fuel + 1) listed e w Q := by
  refine ⟨hw, fun a ha => wpAnyH_all hc (by simp) fun j hj => ?_⟩
  obtain rfl : j = i := by simpa using hj
  unfold wpOp
  simp only [nthO_arr hi, Region.wanted, if_true, Oper.wp]
  have e1 : xs.toArray.map a.eval = vs.toArray := by rw [← ha.evl hx]; simp
  have : (execOp a.eval ⟨some d, .call ⟨.value (.func f), xs.toArray, tys⟩, ty, pos, after, none⟩).run P w = .ok (.enter f vs.toArray) w := by
    simp only [execOp, resolve, e1]
    simp [Act.eval, Deferred.ofValue, invoke, run_callFunc]
  rw [this]
  refine .inl (Calls.mono h ?_)
  rintro en w' ⟨v, rfl, hv⟩
  exact ⟨hv.1, hv.2 _ (ha.put d hd v)⟩
theorem vh_done (hc : Region.ready .any l.toArray listed = []) (h : FinS n .normal e w Q) (hw : Ext w0 w) : VH P n l.toArray w0 fuel listed e w Q :=
  ⟨hw, fun a ha => wpAnyH_done hc (NoPanic.normal (h a ha)) fuel⟩
end
end Go.Proofs.Sv
