/- A logic of symbolic frames: each step of a function's code is taken by one lemma, the frame is a short list of the slots that are known. Over any program. -/
import Derived.WalkKit
import Derived.Deep.LoopGhost
namespace Go.Proofs.Sv
open Go Go.RowKit

/-! ### Frames as lists -/
abbrev Env := List (Nat × Value)
def lk : Env → Nat → Option Value
  | [], _ => none
  | (d, v) :: e, t => cond (Nat.beq d t) (some v) (lk e t)
def ev (e : Env) : Operand → Option Value
  | .tmp t => lk e t
  | .const v => some v
  | .global g => some (.pointer (some ⟨g, 0, none⟩))
  | .func f => some (.func (.func f) #[] #[])
def evl (e : Env) : List Operand → Option (List Value)
  | [] => some []
  | x :: r => match ev e x, evl e r with | some v, some vs => some (v :: vs) | _, _ => none

def Agree (n : Nat) (e : Env) (a : Act) : Prop := a.defers = [] ∧ a.tmps.size = n ∧ ∀ t v, lk e t = some v → a.tmps.getD t undef = v

theorem lk_cons (d : Nat) (v : Value) (e : Env) (t : Nat) : lk ((d, v) :: e) t = if d = t then some v else lk e t := by
  show cond (Nat.beq d t) (some v) (lk e t) = _
  by_cases h : d = t
  · subst h; simp
  · have : Nat.beq d t = false := Bool.eq_false_iff.2 (fun hb => h (Nat.eq_of_beq_eq_true hb))
    rw [this]; simp [h]

theorem Agree.ev {n : Nat} {e : Env} {a : Act} (h : Agree n e a) {x : Operand} {v : Value} (hx : ev e x = some v) : a.eval x = v := by
  cases x with
  | tmp t => exact h.2.2 t v hx
  | const u => simp [Sv.ev] at hx; simp [Act.eval, hx]
  | global g => simp [Sv.ev] at hx; simp [Act.eval, hx]
  | func f => simp [Sv.ev] at hx; simp [Act.eval, hx]

theorem Agree.evl {n : Nat} {e : Env} {a : Act} (h : Agree n e a) : ∀ {xs : List Operand} {vs : List Value}, evl e xs = some vs → xs.map a.eval = vs
  | [], vs, hx => by simp [Sv.evl] at hx; simp [hx]
  | x :: r, vs, hx => by
    unfold Sv.evl at hx
    split at hx
    · rename_i v ws hv hws
      simp at hx; subst hx
      simp [h.ev hv, h.evl hws]
    · cases hx

theorem Agree.put {n : Nat} {e : Env} {a : Act} (h : Agree n e a) (d : Nat) (hd : Nat.blt d n = true) (v : Value) : Agree n ((d, v) :: e) (a.put (some d) v) := by
  have hd' : d < a.tmps.size := by rw [h.2.1]; simpa using hd
  refine ⟨h.1, ?_, fun t u ht => ?_⟩
  · simp [Act.put, h.2.1]
  · rw [lk_cons] at ht
    by_cases hdt : d = t
    · subst hdt
      simp only [if_true, Option.some.injEq] at ht
      subst ht
      simp [Act.put, hd']
    · simp only [hdt, if_false] at ht
      have := h.2.2 t u ht
      simp only [Act.put]
      rw [← this]
      simp [Array.getD_eq_getD_getElem?, hdt]

theorem Agree.put_none {n : Nat} {e : Env} {a : Act} (h : Agree n e a) (v : Value) : Agree n e (a.put none v) := h

/-- Every binding of the first list is what the second one gives. -/
def Sub (e' e : Env) : Prop := ∀ t v, lk e' t = some v → lk e t = some v
theorem Agree.sub {n : Nat} {e e' : Env} {a : Act} (h : Agree n e a) (hs : Sub e' e) : Agree n e' a := ⟨h.1, h.2.1, fun t v ht => h.2.2 t v (hs t v ht)⟩

/-! ### Code, operations, ends -/
def VS (P : Program) (n : Nat) (c : Code) (e : Env) (w : World) (Q : Exit → Act → World → Prop) : Prop := ∀ a, Agree n e a → c.wp P Q a w
def VO (P : Program) (n : Nat) (ops : Array Oper) (l : List Oper) (e : Env) (w : World) (Q : Exit → Act → World → Prop) : Prop := ∀ a, Agree n e a → wpList P ops Q l a w
def FinS (n : Nat) (x : Exit) (e : Env) (w : World) (Q : Exit → Act → World → Prop) : Prop := ∀ a, Agree n e a → Q x a w

def seqQ (P : Program) (y : Code) (Q : Exit → Act → World → Prop) : Exit → Act → World → Prop := Exit.then (y.wp P Q) Q
def blkQ (id : Nat) (Q : Exit → Act → World → Prop) : Exit → Act → World → Prop := Exit.inBlock id Q

section
variable {P : Program} {n : Nat} {e : Env} {w : World} {Q : Exit → Act → World → Prop}

theorem vs_seq {x y : Code} (h : VS P n x e w (seqQ P y Q)) : VS P n (.seq x y) e w Q := fun a ha => wp_seq (h a ha)
theorem vs_block {id : Nat} {c : Code} (h : VS P n c e w (blkQ id Q)) : VS P n (.block id c) e w Q := fun a ha => wp_block (h a ha)
theorem vs_skip (h : FinS n .normal e w Q) : VS P n .skip e w Q := fun a ha => wp_skip (h a ha)
theorem vs_label {l : Nat} (h : FinS n .normal e w Q) : VS P n (.label l) e w Q := fun a ha => wp_label (h a ha)
theorem vs_ret (h : FinS n .ret e w Q) : VS P n .ret e w Q := fun a ha => wp_ret (h a ha)
theorem vs_exit {id : Nat} (h : FinS n (.exit id) e w Q) : VS P n (.exit id) e w Q := fun a ha => wp_exit (h a ha)
theorem vs_cond_true {c : Operand} {x y : Code} (hc : ev e c = some (.bool true)) (h : VS P n x e w Q) : VS P n (.cond c x y) e w Q :=
  fun a ha => wp_cond_true (ha.ev hc) (h a ha)
theorem vs_cond_false {c : Operand} {x y : Code} (hc : ev e c = some (.bool false)) (h : VS P n y e w Q) : VS P n (.cond c x y) e w Q :=
  fun a ha => wp_cond_false (ha.ev hc) (h a ha)
theorem vs_cond {c : Operand} {x y : Code} {b : Bool} (hc : ev e c = some (.bool b)) (ht : b = true → VS P n x e w Q) (hf : b = false → VS P n y e w Q) : VS P n (.cond c x y) e w Q :=
  fun a ha => wp_cond_split (ha.ev hc) (fun h => ht h a ha) (fun h => hf h a ha)
theorem vs_region {id : Nat} {l : List Oper} (h : VO P n l.toArray l e w Q) : VS P n (.region id l.toArray false) e w Q := fun a ha => wp_region_lit (h a ha)
theorem vs_sub {c : Code} {e' : Env} (hs : Sub e' e) (h : VS P n c e' w Q) : VS P n c e w Q := fun a ha => h a (ha.sub hs)
theorem fin_sub {x : Exit} {e' : Env} (hs : Sub e' e) (h : FinS n x e' w Q) : FinS n x e w Q := fun a ha => h a (ha.sub hs)

theorem fin_seq {y : Code} (h : VS P n y e w Q) : FinS n .normal e w (seqQ P y Q) := fun a ha => h a ha
theorem fin_seq_exit {y : Code} {id : Nat} (h : FinS n (.exit id) e w Q) : FinS n (.exit id) e w (seqQ P y Q) := fun a ha => h a ha
theorem fin_seq_ret {y : Code} (h : FinS n .ret e w Q) : FinS n .ret e w (seqQ P y Q) := fun a ha => h a ha
theorem fin_blk {id : Nat} (h : FinS n .normal e w Q) : FinS n .normal e w (blkQ id Q) := fun a ha => h a ha
theorem fin_blk_ret {id : Nat} (h : FinS n .ret e w Q) : FinS n .ret e w (blkQ id Q) := fun a ha => h a ha
theorem fin_blk_exit {id id' : Nat} (hid : Nat.beq id' id = true) (h : FinS n .normal e w Q) : FinS n (.exit id') e w (blkQ id Q) := by
  intro a ha
  have : id' = id := by simpa using hid
  show (if id' = id then Q .normal a w else Q (.exit id') a w)
  rw [if_pos this]; exact h a ha
theorem fin_blk_other {id id' : Nat} (hid : Nat.beq id' id = false) (h : FinS n (.exit id') e w Q) : FinS n (.exit id') e w (blkQ id Q) := by
  intro a ha
  have : ¬ id' = id := fun h => by subst h; simp at hid
  show (if id' = id then Q .normal a w else Q (.exit id') a w)
  rw [if_neg this]; exact h a ha

/-! ### Loops -/
/-- Behind a round: the relation again at a later state, a smaller measure, the known slots; every other way out goes on to Q. -/
def loopQ (n : Nat) {σ : Type} (E : σ → Env) (J : σ → World → Prop) (μ : σ → Nat) (s : σ) (Q : Exit → Act → World → Prop) : Exit → Act → World → Prop
  | .normal, a, w => ∃ s', J s' w ∧ μ s' < μ s ∧ Agree n (E s') a
  | x, a, w => Q x a w

theorem vs_loop {body : Code} {σ : Type} (E : σ → Env) (J : σ → World → Prop) (μ : σ → Nat) (s0 : σ) (h0 : J s0 w) (hs0 : Sub (E s0) e)
    (round : ∀ s w, J s w → VS P n body (E s) w (loopQ n E J μ s Q)) : VS P n (.loop body) e w Q := by
  intro a ha
  refine wp_loop_ghost (fun m a w => ∃ s, μ s = m ∧ J s w ∧ Agree n (E s) a) (μ s0) ⟨s0, rfl, h0, ha.sub hs0⟩ ?_
  rintro m a w ⟨s, rfl, hJ, hA⟩
  refine wp_mono (round s w hJ a hA) ?_
  intro x a' w' hq
  cases x with
  | normal =>
    obtain ⟨s', h1, h2, h3⟩ := hq
    exact ⟨μ s', h2, s', rfl, h1, h3⟩
  | _ => exact hq
theorem fin_loop {σ : Type} {E : σ → Env} {J : σ → World → Prop} {μ : σ → Nat} {s : σ} (s' : σ) (hJ : J s' w) (hμ : μ s' < μ s) (hs : Sub (E s') e) : FinS n .normal e w (loopQ n E J μ s Q) :=
  fun _ ha => ⟨s', hJ, hμ, ha.sub hs⟩
theorem fin_loop_exit {σ : Type} {E : σ → Env} {J : σ → World → Prop} {μ : σ → Nat} {s : σ} {id : Nat} (h : FinS n (.exit id) e w Q) : FinS n (.exit id) e w (loopQ n E J μ s Q) := fun a ha => h a ha
theorem fin_loop_ret {σ : Type} {E : σ → Env} {J : σ → World → Prop} {μ : σ → Nat} {s : σ} (h : FinS n .ret e w Q) : FinS n .ret e w (loopQ n E J μ s Q) := fun a ha => h a ha

/-! ### A short list of slots in a longer one: by looking each one up -/
theorem sub_nil : Sub [] e := fun _ _ h => by cases h
theorem sub_cons {d : Nat} {v : Value} {e' : Env} (h : lk e d = some v) (hr : Sub e' e) : Sub ((d, v) :: e') e := by
  intro t u ht
  rw [lk_cons] at ht
  by_cases hdt : d = t
  · subst hdt; simp only [if_true] at ht; rw [h]; exact ht
  · rw [if_neg hdt] at ht; exact hr t u ht

/-! ### A function's body -/
def argEnv : Nat → List Value → Env
  | _, [] => []
  | k, v :: r => (k, v) :: argEnv (k + 1) r
theorem lk_argEnv (t : Nat) (v : Value) : ∀ (k : Nat) (vs : List Value), lk (argEnv k vs) t = some v → k ≤ t ∧ vs[t - k]? = some v
  | k, [], h => by cases h
  | k, u :: r, h => by
    rw [argEnv, lk_cons] at h
    by_cases hk : k = t
    · subst hk; simpa using h
    · rw [if_neg hk] at h
      have ⟨h1, h2⟩ := lk_argEnv t v (k + 1) r h
      refine ⟨by omega, ?_⟩
      rw [show t - k = (t - (k + 1)) + 1 by omega, List.getElem?_cons_succ]; exact h2
theorem calls_vs {f : FuncId} {fn : Func} {c : Code} {vs : List Value} {R : Ending → World → Prop}
    (hf : P.funcs[f]? = some fn) (hn : fn.ntmps = n) (hb : fn.body = some c) (hsz : Nat.ble vs.length n = true)
    (h : VS P n c (argEnv 0 vs) w (bodyPost P fn R)) : Calls P f vs.toArray w R := by
  have hle : vs.length ≤ n := Nat.le_of_ble_eq_true hsz
  refine calls_of_wp hf hb (h _ ⟨rfl, ?_, ?_⟩)
  · simp [hn]; omega
  · intro t v ht
    have ⟨_, h2⟩ := lk_argEnv t v 0 vs ht
    have hlt : t < vs.length := by rcases Nat.lt_or_ge t vs.length with h' | h'; exact h'; rw [List.getElem?_eq_none (by omega)] at h2; cases h2
    rw [Array.getD_eq_getD_getElem?, Array.getElem?_append_left (by simpa using hlt)]
    simp only [Nat.sub_zero] at h2
    simp [h2]
theorem fin_end1 {fn : Func} {R : Ending → World → Prop} {t : Nat} {v : Value} (hr : fn.results = #[.tmp t]) (hl : lk e t = some v) (h : R (.returned v) w) : FinS n .normal e w (bodyPost P fn R) :=
  fun a ha => ⟨ha.1, v, by rw [results_tmp hr]; rw [ha.2.2 t v hl], h⟩
theorem fin_ret1 {fn : Func} {R : Ending → World → Prop} {t : Nat} {v : Value} (hr : fn.results = #[.tmp t]) (hl : lk e t = some v) (h : R (.returned v) w) : FinS n .ret e w (bodyPost P fn R) :=
  fun a ha => ⟨ha.1, v, by rw [results_tmp hr]; rw [ha.2.2 t v hl], h⟩
theorem fin_ret2 {fn : Func} {R : Ending → World → Prop} {t t' : Nat} {v v' : Value} (hr : fn.results = #[.tmp t, .tmp t']) (hl : lk e t = some v) (hl' : lk e t' = some v') (h : R (.returned (.tuple #[v, v'])) w) : FinS n .ret e w (bodyPost P fn R) :=
  fun a ha => ⟨ha.1, _, by rw [results_tmp2 hr]; rw [ha.2.2 t v hl, ha.2.2 t' v' hl'], h⟩
theorem fin_end0 {fn : Func} {R : Ending → World → Prop} (hr : fn.results = #[]) (h : R (.returned (.tuple #[])) w) : FinS n .normal e w (bodyPost P fn R) :=
  fun _ ha => ⟨ha.1, _, results_none hr _ _ _, h⟩
theorem fin_ret0 {fn : Func} {R : Ending → World → Prop} (hr : fn.results = #[]) (h : R (.returned (.tuple #[])) w) : FinS n .ret e w (bodyPost P fn R) :=
  fun _ ha => ⟨ha.1, _, results_none hr _ _ _, h⟩
end
end Go.Proofs.Sv
