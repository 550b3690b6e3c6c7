/- The operations of a function's code, each by one lemma over the short frames of the first text. Over any program. -/
import Derived.Test.YtahnpokehdlajaaDoorBase1
namespace Go.Proofs.Sv
open Go Go.RowKit

/-- The operation yields this value and this world, from every full frame that fits the short one. -/
def RunsOp (P : Program) (n : Nat) (e : Env) (op : Op) (ty : TypeId) (w : World) (v : Value) (w' : World) : Prop :=
  ∀ a dst pos after g, Agree n e a → (execOp a.eval ⟨dst, op, ty, pos, after, g⟩).run P w = .ok (.value v) w'
def RunsU (P : Program) (n : Nat) (e : Env) (op : Op) (ty : TypeId) (w : World) (w' : World) : Prop :=
  ∀ a dst pos after g, Agree n e a → (execOp a.eval ⟨dst, op, ty, pos, after, g⟩).run P w = .ok .skip w'

section
variable {P : Program} {n : Nat} {e : Env} {w : World} {Q : Exit → Act → World → Prop} {ops : Array Oper} {rest : List Oper}

theorem vo_nil (h : FinS n .normal e w Q) : VO P n ops [] e w Q := fun a ha => wpList_nil (h a ha)

theorem vo_val {d : Nat} {op : Op} {ty : TypeId} {pos : String} {after : Array Edge} {w' : World} (v : Value) (hr : RunsOp P n e op ty w v w') (hd : Nat.blt d n = true)
    (h : VO P n ops rest ((d, v) :: e) w' Q) : VO P n ops (⟨some d, op, ty, pos, after, none⟩ :: rest) e w Q := by
  intro a ha
  refine wpList_plain rfl fun K hK => ?_
  unfold Oper.wp
  rw [hr a (some d) pos after none ha]
  exact hK _ _ (h _ (ha.put d hd v))
/-- Its value is not wanted. -/
theorem vo_drop {d : Nat} {op : Op} {ty : TypeId} {pos : String} {after : Array Edge} {w' : World} (v : Value) (hr : RunsOp P n e op ty w v w') (hd : lk e d = none)
    (h : VO P n ops rest e w' Q) (hdn : Nat.blt d n = true) : VO P n ops (⟨some d, op, ty, pos, after, none⟩ :: rest) e w Q :=
  vo_val v hr hdn (fun a ha => h a (ha.sub (fun t u ht => by
    rw [lk_cons]
    by_cases hdt : d = t
    · subst hdt; rw [hd] at ht; cases ht
    · rw [if_neg hdt]; exact ht)))
theorem vo_unit {op : Op} {ty : TypeId} {pos : String} {after : Array Edge} {w' : World} (hr : RunsU P n e op ty w w')
    (h : VO P n ops rest e w' Q) : VO P n ops (⟨none, op, ty, pos, after, none⟩ :: rest) e w Q := by
  intro a ha
  refine wpList_plain rfl fun K hK => ?_
  unfold Oper.wp
  rw [hr a none pos after none ha]
  exact hK _ _ (h _ ha)

/-! ### Guards -/
def dstOf : List Oper → Nat → Option Nat
  | [], _ => none
  | o :: _, 0 => o.dst
  | _ :: r, j + 1 => dstOf r j
def gslot (ops : Array Oper) (j : Nat) : Option Nat := dstOf ops.toList j
theorem dstOf_eq : ∀ (l : List Oper) (j : Nat), dstOf l j = (l[j]?).bind (·.dst)
  | [], _ => by simp [dstOf]
  | _ :: _, 0 => by simp [dstOf]
  | _ :: r, j + 1 => by simp [dstOf, dstOf_eq r j]
theorem gslot_eq (ops : Array Oper) (j : Nat) : gslot ops j = (ops[j]?).bind (·.dst) := by unfold gslot; rw [dstOf_eq]; simp
theorem yielded_of {a : Act} (ha : Agree n e a) {j d : Nat} {b : Bool} (hj : gslot ops j = some d) (hb : lk e d = some (.bool b)) : yielded ops a.tmps j = some b := by
  have h := ha.2.2 d _ hb
  unfold yielded
  have e1 : ((ops[j]?).bind (·.dst)) = some d := by rw [← gslot_eq]; exact hj
  rw [e1]
  have hd : d < a.tmps.size := by
    rcases Nat.lt_or_ge d a.tmps.size with h' | h'
    · exact h'
    · rw [Array.getD_eq_getD_getElem?, Array.getElem?_eq_none h'] at h; cases h
  have : a.tmps[d]? = some (.bool b) := by
    rw [Array.getD_eq_getD_getElem?, Array.getElem?_eq_getElem hd] at h
    rw [Array.getElem?_eq_getElem hd]; exact congrArg some h
  simp [this]
theorem vo_guard_take {dst : Option Nat} {op : Op} {ty : TypeId} {pos : String} {after : Array Edge} {j d : Nat} {b : Bool} (hj : gslot ops j = some d) (hb : lk e d = some (.bool b))
    (h : VO P n ops (⟨dst, op, ty, pos, after, none⟩ :: rest) e w Q) : VO P n ops (⟨dst, op, ty, pos, after, some (j, b)⟩ :: rest) e w Q := by
  intro a ha
  have h' := h a ha
  unfold wpList at h' ⊢
  simpa only [Region.wanted, yielded_of ha hj hb, BEq.rfl, if_true, Oper.wp, Oper.asks, execOp, Oper.upon] using h'
theorem vo_guard_skip {d' : Nat} {op : Op} {ty : TypeId} {pos : String} {after : Array Edge} {j d : Nat} {b b' : Bool} (hj : gslot ops j = some d) (hb : lk e d = some (.bool b)) (hne : (b == b') = false) (hd : Nat.blt d' n = true)
    (h : VO P n ops rest ((d', undef) :: e) w Q) : VO P n ops (⟨some d', op, ty, pos, after, some (j, b')⟩ :: rest) e w Q := by
  intro a ha
  refine wpList_skip ?_ (h _ (ha.put d' hd undef))
  simp only [Region.wanted, yielded_of ha hj hb]
  simpa using hne
theorem vo_guard_undef {d' : Nat} {op : Op} {ty : TypeId} {pos : String} {after : Array Edge} {j d : Nat} {b' : Bool} (hj : gslot ops j = some d) (hb : lk e d = some undef) (hd : Nat.blt d' n = true)
    (h : VO P n ops rest ((d', undef) :: e) w Q) : VO P n ops (⟨some d', op, ty, pos, after, some (j, b')⟩ :: rest) e w Q := by
  intro a ha
  refine wpList_skip ?_ (h _ (ha.put d' hd undef))
  have h := ha.2.2 d _ hb
  have e1 : ((ops[j]?).bind (·.dst)) = some d := by rw [← gslot_eq]; exact hj
  have : yielded ops a.tmps j = none := by
    unfold yielded
    rw [e1]
    simp only [Option.bind_some]
    rw [Array.getD_eq_getD_getElem?] at h
    cases h2 : a.tmps[d]? with
    | none => rfl
    | some x => rw [h2] at h; simp at h; subst h; rfl
  simp [Region.wanted, this]
/-- The last slot written holds an undecided bool: two ways. -/
theorem vo_split {l : List Oper} {d : Nat} {b : Bool} (ht : b = true → VO P n ops l ((d, .bool true) :: e) w Q) (hf : b = false → VO P n ops l ((d, .bool false) :: e) w Q) : VO P n ops l ((d, .bool b) :: e) w Q := by
  cases b
  · exact hf rfl
  · exact ht rfl

/-! ### Operations that only compute -/
def cmpI : BinOp → Int → Int → Option Bool
  | .eql, a, b => some (a == b)
  | .neq, a, b => some (a != b)
  | .lss, a, b => some (decide (a < b))
  | .leq, a, b => some (decide (a ≤ b))
  | .gtr, a, b => some (decide (a > b))
  | .geq, a, b => some (decide (a ≥ b))
  | _, _, _ => none
def cmpS : BinOp → ByteArray → ByteArray → Option Bool
  | .eql, a, b => some (decide (a = b))
  | .neq, a, b => some (!decide (a = b))
  | _, _, _ => none
def cmpB : BinOp → Bool → Bool → Option Bool
  | .eql, a, b => some (a == b)
  | .neq, a, b => some (!(a == b))
  | _, _, _ => none
def binV : BinOp → Value → Value → Option Value
  | op, .int k a, .int k' b => if k = k' then (match cmpI op a b with | some r => some (.bool r) | none => none) else none
  | op, .string a, .string b => match cmpS op a b with | some r => some (.bool r) | none => none
  | _, _, _ => none
def pureV (e : Env) : Op → Option Value
  | .move x => ev e x
  | .assign x => ev e x
  | .pick c a b => match ev e c with
    | some (.bool true) => ev e a
    | some (.bool false) => ev e b
    | _ => none
  | .unOp .not _ x => match ev e x with
    | some (.bool b) => some (.bool (!b))
    | _ => none
  | .extract x i => match ev e x with
    | some (.tuple vs) => vs.toList[i]?
    | _ => none
  | .binOp op _ x y _ => match ev e x, ev e y with
    | some u, some v => binV op u v
    | _, _ => none
  | .makeFunc fn first cap => match evl e first.toList, evl e cap.toList with
    | some fs, some cs => some (.func fn fs.toArray cs.toArray)
    | _, _ => none
  | _ => none

theorem eq_bytes (a b : ByteArray) : (a.toList == b.toList) = decide (a = b) := by
  rw [Bool.eq_iff_iff, beq_iff_eq, decide_eq_true_eq, ByteArray.toList_eq, ByteArray.toList_eq]
  constructor
  · intro h; cases a; cases b; simp only [ByteArray.mk.injEq]; exact Array.toList_inj.1 h
  · rintro rfl; rfl
theorem runs_pure {op : Op} {ty : TypeId} {v : Value} (h : pureV e op = some v) : RunsOp P n e op ty w v w := by
  intro a dst pos after g ha
  unfold pureV at h
  split at h
  · simp only [execOp, ha.ev h]; rfl
  · simp only [execOp, ha.ev h]; rfl
  · rename_i c x y
    split at h
    · rename_i hc; simp only [execOp, ha.ev hc, ← ha.ev h]; rfl
    · rename_i hc; simp only [execOp, ha.ev hc, ← ha.ev h]; rfl
    · cases h
  · split at h
    · rename_i hc; simp only [Option.some.injEq] at h; subst h; simp only [execOp, ha.ev hc]; rfl
    · cases h
  · split at h
    · rename_i vs hc; rw [Array.getElem?_toList] at h; simp only [execOp, ha.ev hc, Instr.extract, h]; rfl
    · cases h
  · rename_i op T x y T'
    split at h
    · rename_i u v' hu hv
      unfold binV at h
      split at h
      · rename_i k p k' q
        split at h
        · rename_i hk; subst hk
          split at h
          · rename_i r hr
            simp only [Option.some.injEq] at h; subst h
            unfold cmpI at hr
            split at hr <;> simp only [Option.some.injEq, reduceCtorEq] at hr <;> subst hr <;> simp [execOp, ha.ev hu, ha.ev hv, eqGuard, binOp, Op.intCmp]
          · cases h
        · cases h
      · rename_i p q
        split at h
        · rename_i r hr
          simp only [Option.some.injEq] at h; subst h
          unfold cmpS at hr
          split at hr <;> simp only [Option.some.injEq, reduceCtorEq] at hr <;> subst hr <;> simp [execOp, ha.ev hu, ha.ev hv, eqGuard, binOp, Op.stringOp, eq_bytes]
        · cases h
      · cases h
    · cases h
  · split at h
    · rename_i fs cs hfs hcs
      simp only [Option.some.injEq] at h; subst h
      have h1 := ha.evl hfs
      have h2 := ha.evl hcs
      have e1 : ∀ (x : Array Operand), x.map a.eval = (x.toList.map a.eval).toArray := fun x => by rw [← Array.toList_map]
      simp only [execOp, Instr.makeFunc, e1, h1, h2]
      rfl
    · cases h
  · cases h

theorem vo_pure {d : Nat} {op : Op} {ty : TypeId} {pos : String} {after : Array Edge} {v : Value} (h : pureV e op = some v) (hd : Nat.blt d n = true)
    (k : VO P n ops rest ((d, v) :: e) w Q) : VO P n ops (⟨some d, op, ty, pos, after, none⟩ :: rest) e w Q := vo_val v (runs_pure h) hd k
end
end Go.Proofs.Sv
