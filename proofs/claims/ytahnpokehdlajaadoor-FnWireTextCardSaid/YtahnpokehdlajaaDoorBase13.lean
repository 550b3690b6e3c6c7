/- Drawn regions that end in one store: a condition on the world that holds behind each operation but that store. Over any program. -/
import Derived.Test.YtahnpokehdlajaaDoorBase12
namespace Go.Proofs.Sv
open Go Go.RowKit

/-- Whatever order is picked; S holds behind every operation but st. -/
def wpAnyS (P : Program) (ops : Array Oper) (Q : Exit → Act → World → Prop) (S : World → Prop) (st : Nat) : Nat → Array Bool → Act → World → Prop
  | 0, listed, a, w => Region.ready .any ops listed = [] ∧ Q .normal a w
  | fuel + 1, listed, a, w =>
    (Region.ready .any ops listed = [] → Q .normal a w) ∧
    ∀ i ∈ Region.ready .any ops listed, wpOp P ops Q i (fun a' w' => (i ≠ st → S w') ∧ wpAnyS P ops Q S st fuel (listed.setIfInBounds i true) a' w') a w

section
variable {P : Program} {ops : Array Oper} {Q : Exit → Act → World → Prop} {S : World → Prop} {st : Nat}
theorem wpAny_of_S : ∀ (fuel : Nat) (listed : Array Bool) (a : Act) (w : World), wpAnyS P ops Q S st fuel listed a w → wpAny P .any ops Q fuel listed a w
  | 0, _, _, _, h => h
  | fuel + 1, _, _, _, h => ⟨h.1, fun i hi => wpOp_mono (fun a' w' h' => wpAny_of_S fuel _ a' w' h'.2) (h.2 i hi)⟩

/-- The store st waits for operation i. -/
def waitsFor (ops : Array Oper) (st i : Nat) : Bool := match ops[st]? with
  | some o => o.after.any fun e => Region.binds .any e && Nat.beq e.on i
  | none => true

theorem wpAnyS_first {i : Nat} {oi : Oper} {v : Value} (hi : ops[i]? = some oi) (hsel : ∀ (j : Nat) (o : Oper) cs b, ops[j]? = some o → o.op ≠ .select cs b) (hst : waitsFor ops st i = true) (hne : i ≠ st)
    (hQ : ∀ c a w, Q (.panic c) (a.put oi.dst v) w → Q (.panic c) a w) :
    ∀ (fuel : Nat) (listed : Array Bool) (a : Act) (w : World),
      (∀ j oj, ops[j]? = some oj → j ≠ i → listed.getD j true = false → (∀ e ∈ oj.after, Region.binds .any e = true → e.on ≠ i) → oi.apart ops oj = true) →
      i ∈ Region.ready .any ops listed → YieldsIf P ops S oi v a → S w →
      wpAnyS P ops Q S st fuel (listed.setIfInBounds i true) (a.put oi.dst v) w → wpAnyS P ops Q S st (fuel + 1) listed a w := by
  intro fuel
  induction fuel with
  | zero =>
    intro listed a w _ hr hy hS H
    refine ⟨fun h => (by rw [h] at hr; cases hr), fun j hj => ?_⟩
    by_cases hji : j = i
    · subst hji; exact hy.wpOp hi hS ⟨fun _ => hS, H⟩
    · have := ready_mono hj hji
      rw [H.1] at this
      cases this
  | succ fuel ih =>
    intro listed a w hfree hr hy hS H
    refine ⟨fun h => (by rw [h] at hr; cases hr), fun j hj => ?_⟩
    by_cases hji : j = i
    · subst hji; exact hy.wpOp hi hS ⟨fun _ => hS, H⟩
    · have h1 := H.2 j (ready_mono hj hji)
      obtain ⟨hjun, oj, hoj, hall⟩ := mem_ready.1 hj
      have hnot : ∀ e ∈ oj.after, Region.binds .any e = true → e.on ≠ i := fun e he hb heq => by
        have h1 := hall e he hb
        have h0 := (mem_ready.1 hr).1
        rw [heq] at h1
        rcases Nat.lt_or_ge i listed.size with h' | h'
        · simp [h'] at h0 h1; rw [h0] at h1; cases h1
        · simp [Array.getElem?_eq_none h'] at h1
      have hjst : j ≠ st := fun h => by
        subst h
        unfold waitsFor at hst
        rw [hoj] at hst
        simp only [Array.any_eq_true, Bool.and_eq_true] at hst
        obtain ⟨k, hk, hb, he⟩ := hst
        exact hnot _ (Array.getElem_mem hk) hb (Nat.eq_of_beq_eq_true he)
      have h2 := wpOp_putIf hoj (hfree j oj hoj hji hjun hnot) (fun cs b => hsel i oi cs b hi) (fun cs b => hsel j oj cs b hoj) hQ hy h1
      have hfree' : ∀ k ok, ops[k]? = some ok → k ≠ i → (listed.setIfInBounds j true).getD k true = false →
          (∀ e ∈ ok.after, Region.binds .any e = true → e.on ≠ i) → oi.apart ops ok = true := fun k ok hk hki hun hno => by
        refine hfree k ok hk hki ?_ hno
        by_cases hjk : j = k
        · subst hjk; exact hjun
        · rw [getD_set_ne true hjk] at hun; exact hun
      refine wpOp_mono (fun a' w' h3 => ⟨h3.2.1, ih (listed.setIfInBounds j true) a' w' hfree' (ready_mono hr (Ne.symm hji)) h3.1 (h3.2.1 hjst) ?_⟩) h2
      rw [Array.setIfInBounds_comm _ _ hji]
      exact h3.2.2
end

def VT (P : Program) (n : Nat) (l : List Oper) (S : World → Prop) (st : Nat) (fuel : Nat) (listed : Array Bool) (e : Env) (w : World) (Q : Exit → Act → World → Prop) : Prop :=
  ∀ a, Agree n e a → wpAnyS P l.toArray (NoPanic Q) S st fuel listed a w
def VTo (P : Program) (n : Nat) (l : List Oper) (S : World → Prop) (st : Nat) (fuel : Nat) (listed : Array Bool) (e : Env) (w : World) (Q : Exit → Act → World → Prop) (i : Nat) : Prop :=
  ∀ a, Agree n e a → wpOp P l.toArray (NoPanic Q) i (fun a' w' => (i ≠ st → S w') ∧ wpAnyS P l.toArray (NoPanic Q) S st fuel (listed.setIfInBounds i true) a' w') a w

section
variable {P : Program} {n : Nat} {e : Env} {w : World} {Q : Exit → Act → World → Prop} {l : List Oper} {fuel : Nat} {listed : Array Bool} {S : World → Prop} {st : Nat}
  {d : Nat} {op : Op} {ty : TypeId} {pos : String} {after : Array Edge}

theorem vs_drawnT {id : Nat} [hm : Mixed P] (S : World → Prop) (st : Nat) (h : ∀ w', Ext w w' → w'.heap = w.heap → VT P n l S st l.length (Array.replicate l.length false) e w' Q) : VS P n (.region id l.toArray true) e w Q := by
  intro a ha
  refine wp_region_noPanic (wp_region_any hm.h (wpAny_of_S (S := S) (st := st) _ _ _ _ ?_))
  have := (h w.drew ((Below.refl _ _).drew) rfl) a ha
  simpa using this
theorem vt_take (i : Nat) {v : Value} (hi : nthO l i = some ⟨some d, op, ty, pos, after, none⟩) (hr : ∀ w', S w' → RunsOp P n e op ty w' v w') (hd : Nat.blt d n = true)
    (hs : Region.noSelect l.toArray = true) (hf : Region.free .any l.toArray listed i = true) (hc : (Region.ready .any l.toArray listed).contains i = true) (hst : (waitsFor l.toArray st i && !Nat.beq i st) = true) (hS : S w)
    (h : VT P n l S st fuel (listed.setIfInBounds i true) ((d, v) :: e) w Q) : VT P n l S st (fuel + 1) listed e w Q := fun a ha => by
  simp only [Bool.and_eq_true, Bool.not_eq_true'] at hst
  exact wpAnyS_first (v := v) (nthO_arr hi) (Region.noSelect_spec hs) hst.1 (fun h' => by subst h'; simp at hst) (fun _ _ _ hq => hq) fuel listed a w (Region.free_spec (nthO_arr hi) hf) (by simpa using hc)
    (.inl ⟨by simp [Region.wanted], fun w' hw' => hr w' hw' a _ _ _ _ ha⟩) hS (h _ (ha.put d hd v))
theorem vt_all {rs : List Nat} (hr : Region.ready .any l.toArray listed = rs) (hne : rs ≠ []) (h : ∀ i ∈ rs, VTo P n l S st fuel listed e w Q i) : VT P n l S st (fuel + 1) listed e w Q :=
  fun a ha => ⟨fun h0 => absurd (hr ▸ h0) hne, fun i hi => h i (hr ▸ hi) a ha⟩
theorem vt_one (i : Nat) (hc : Region.ready .any l.toArray listed = [i]) (hi : VTo P n l S st fuel listed e w Q i) : VT P n l S st (fuel + 1) listed e w Q :=
  vt_all hc (by simp) fun k hk => by
    rcases List.mem_cons.1 hk with rfl | hk
    · exact hi
    · cases hk
theorem vt_two (i j : Nat) (hc : Region.ready .any l.toArray listed = [i, j]) (hi : VTo P n l S st fuel listed e w Q i) (hj : VTo P n l S st fuel listed e w Q j) : VT P n l S st (fuel + 1) listed e w Q :=
  vt_all hc (by simp) fun k hk => by
    rcases List.mem_cons.1 hk with rfl | hk
    · exact hi
    · rcases List.mem_cons.1 hk with rfl | hk
      · exact hj
      · cases hk
theorem vto_val {i : Nat} {v : Value} {w' : World} (hi : nthO l i = some ⟨some d, op, ty, pos, after, none⟩) (hr : RunsOp P n e op ty w v w') (hd : Nat.blt d n = true) (hS : S w')
    (h : VT P n l S st fuel (listed.setIfInBounds i true) ((d, v) :: e) w' Q) : VTo P n l S st fuel listed e w Q i := by
  intro a ha
  unfold wpOp
  simp only [nthO_arr hi, Region.wanted, if_true, Oper.wp]
  rw [hr a _ _ _ _ ha]
  exact .inl ⟨fun _ => hS, h _ (ha.put d hd v)⟩
theorem vt_only (i : Nat) {v : Value} (hi : nthO l i = some ⟨some d, op, ty, pos, after, none⟩) (hc : Region.ready .any l.toArray listed = [i]) (hr : RunsOp P n e op ty w v w) (hd : Nat.blt d n = true) (hS : S w)
    (h : VT P n l S st fuel (listed.setIfInBounds i true) ((d, v) :: e) w Q) : VT P n l S st (fuel + 1) listed e w Q := vt_one i hc (vto_val hi hr hd hS h)
theorem vto_call {i f : Nat} {xs : List Operand} {vs : List Value} {tys : Array TypeId} [HasBody P f] (hi : nthO l i = some ⟨some d, .call ⟨.value (.func f), xs.toArray, tys⟩, ty, pos, after, none⟩)
    (hx : evl e xs = some vs) (hd : Nat.blt d n = true)
    (h : Calls P f vs.toArray w (fun en w' => ∃ v, en = .returned v ∧ S w' ∧ VT P n l S st fuel (listed.setIfInBounds i true) ((d, v) :: e) w' Q)) : VTo P n l S st fuel listed e w Q i := by
  intro a ha
  unfold wpOp
  simp only [nthO_arr hi, Region.wanted, if_true, Oper.wp]
  have e1 : xs.toArray.map a.eval = vs.toArray := by rw [← ha.evl hx]; simp
  have : (execOp a.eval ⟨some d, .call ⟨.value (.func f), xs.toArray, tys⟩, ty, pos, after, none⟩).run P w = .ok (.enter f vs.toArray) w := by
    simp only [execOp, resolve, e1]
    simp [Act.eval, Deferred.ofValue, invoke, run_callFunc]
  rw [this]
  refine .inl (Calls.mono h ?_)
  rintro en w' ⟨v, rfl, hS, hv⟩
  exact ⟨fun _ => hS, hv _ (ha.put d hd v)⟩
theorem vto_buildSlice {i T E y len : Nat} {z : Value} {parts : List (Nat × Operand)} {vs : List (Nat × Value)} {cs : List Value} [SliceOf P T E] [Info P E 1 y z] (hi : nthO l i = some ⟨some d, .buildSlice T len parts.toArray, ty, pos, after, none⟩) (hz : z.cells = #[z]) (hx : evp e parts = some vs)
    (hl : Nat.ble len 16777216 = true) (h0 : Nat.blt 0 len = true) (hf : fillL (places1 1 len 0) (reps len [z]) vs = some cs) (hd : Nat.blt d n = true)
    (k : ∀ b w', NewB w b w' → Blk w' b cs E → S w' ∧ VT P n l S st fuel (listed.setIfInBounds i true) ((d, .slice (some ⟨b, 0, none⟩) len len) :: e) w' Q) : VTo P n l S st fuel listed e w Q i := by
  have h := k _ _ (newB_alloc w (.cells cs.toArray E)) (by simpa using blk_alloc w cs.toArray E)
  exact vto_val hi (runs_buildSlice hz hx hl h0 hf) hd h.1 h.2
theorem runs_append {T E s y : Nat} {z : Value} {x x2 : Operand} [SliceOf P T E] [Info P E s y z] {g : Option Nat} {v : Value} {len m c b2 o2 : Nat} {p2 : Option Addr} {cs news : List Value} (hx : ev e x = some v) (hx2 : ev e x2 = some (.slice p2 m c)) (hs : Nat.blt 0 s = true) (hz : Nat.beq z.cells.size s = true)
    (h : Own w E s g v len cs) (hp : m = 0 ∨ p2 = some ⟨b2, o2, none⟩) (hl : news.length = m * s) (hA : At w b2 o2 news) (h1 : ones news = true) (h63 : len + m ≤ 9223372036854775807) (hb : (len + m) * y ≤ 140737488355328) :
    ∃ v' w' g', RunsOp P n e (.call ⟨.builtin .append, [x, x2].toArray, #[T, T]⟩) ty w v' w' ∧ Own w' E s g' v' (len + m) (cs ++ news) ∧ WE g w w' ∧ (g' = g ∨ g' = some w.heap.size) := by
  obtain ⟨v', w', g', hr, ho, hw, hg⟩ := run_app (P := P) (ty := ty) (T := T) (E := E) (c := c) (w := w) (by simpa using hs) (Nat.eq_of_beq_eq_true hz) h hp hl hA (ones_mem h1) h63 hb
  refine ⟨v', w', g', ?_, ho, hw, hg⟩
  intro a dst pos after gd ha
  have e1 : ([x, x2].toArray.map a.eval) = #[v, .slice p2 m c] := by simp [ha.ev hx, ha.ev hx2]
  simp only [execOp, resolve, e1]
  simp [invoke, builtin, hr, Result.andThen]
theorem vto_append {i T E s y : Nat} {z : Value} {x x2 : Operand} [SliceOf P T E] [Info P E s y z] {g : Option Nat} {v : Value} {len m c b2 o2 : Nat} {p2 : Option Addr} {cs news : List Value}
    (hi : nthO l i = some ⟨some d, .call ⟨.builtin .append, [x, x2].toArray, #[T, T]⟩, ty, pos, after, none⟩) (hx : ev e x = some v) (hx2 : ev e x2 = some (.slice p2 m c)) (hd : Nat.blt d n = true) (hs : Nat.blt 0 s = true) (hz : Nat.beq z.cells.size s = true)
    (h : Own w E s g v len cs) (hp : m = 0 ∨ p2 = some ⟨b2, o2, none⟩) (hl : news.length = m * s) (hA : At w b2 o2 news) (h1 : ones news = true) (h63 : len + m ≤ 9223372036854775807) (hb : (len + m) * y ≤ 140737488355328)
    (k : ∀ v' w' g', Own w' E s g' v' (len + m) (cs ++ news) → WE g w w' → (g' = g ∨ g' = some w.heap.size) → S w' ∧ VT P n l S st fuel (listed.setIfInBounds i true) ((d, v') :: e) w' Q) : VTo P n l S st fuel listed e w Q i := by
  obtain ⟨v', w', g', hr, ho, hw, hg⟩ := runs_append (P := P) (n := n) (e := e) (ty := ty) (c := c) (T := T) (E := E) hx hx2 hs hz h hp hl hA h1 h63 hb
  have hk := k v' w' g' ho hw hg
  exact vto_val hi hr hd hk.1 hk.2
theorem vto_store {i T T' s y : Nat} {z : Value} {x v : Operand} {b o : Nat} {cs vs : List Value} {u : Value} [Info P T s y z] (hi : nthO l i = some ⟨none, .store T x v, ty, pos, after, none⟩) (hx : ev e x = some (.pointer (some ⟨b, o, none⟩))) (hv : ev e v = some u) (hB : Blk w b cs T')
    (hc : u.cells.toList = vs) (hl : lenIs vs s = true) (h1 : ones vs = true) (ho : o + s ≤ cs.length)
    (k : ∀ w', Wr b w w' → Blk w' b (spl cs o vs) T' → (i ≠ st → S w') ∧ VT P n l S st fuel (listed.setIfInBounds i true) e w' Q) : VTo P n l S st fuel listed e w Q i := by
  have hl' := lenIs_eq hl
  intro a ha
  unfold wpOp
  simp only [nthO_arr hi, Region.wanted, if_true, Oper.wp]
  have hst := run_storeVar (P := P) (T := T) (o := o) hc hl' h1 hB (by rw [hl']; exact ho)
  have : (execOp a.eval ⟨none, .store T x v, ty, pos, after, none⟩).run P w = .ok .skip (w.setRow b (spl cs o vs).toArray) := by
    simp only [execOp, ha.ev hx, ha.ev hv]
    simp [Instr.storeAt, Instr.sureAddr, hst, Result.andThen]
  have h := k _ (wr_setRow w b _) (setRow_heap w b cs.toArray _ T' (0, 0) hB)
  rw [this]
  exact .inl ⟨h.1, h.2 _ (ha.put_none _)⟩
theorem vt_done (hc : Region.ready .any l.toArray listed = []) (h : FinS n .normal e w Q) : VT P n l S st fuel listed e w Q := fun a ha => by
  cases fuel with
  | zero => exact ⟨hc, NoPanic.normal (h a ha)⟩
  | succ f => exact ⟨fun _ => NoPanic.normal (h a ha), by rw [hc]; simp⟩
end

/-! ### A store into a slice that the code owns -/
theorem Own.set {w w' : World} {E s : Nat} {g n k : Nat} {v : Value} {cs vs : List Value} (h : Own w E s (some g) v n cs) (hk : k < n) (hv : vs.length = s) (hB : ∀ cur : Array Value, w.heap[g]? = some (.cells cur E (0, 0)) → w'.heap[g]? = some (.cells (spl cur.toList (k * s) vs).toArray E (0, 0))) :
    Own w' E s (some g) v n (spl cs (k * s) vs) := by
  rcases h with ⟨h, _⟩ | ⟨b, cap, cur, hb, rfl, h1, h2, h3, h4, rfl⟩
  · cases h
  · cases hb
    refine .inr ⟨g, cap, _, rfl, rfl, hB cur h1, h2, h3, ?_, ?_⟩
    · have hle : (k + 1) * s ≤ cap * s := Nat.mul_le_mul_right s (by omega)
      rw [Nat.add_mul] at hle
      simp only [spl, List.size_toArray, List.length_append, List.length_take, List.length_drop, Array.length_toList]
      omega
    · have hle : (k + 1) * s ≤ n * s := Nat.mul_le_mul_right s (by omega)
      have hle2 : n * s ≤ cap * s := Nat.mul_le_mul_right s h2
      rw [Nat.add_mul] at hle
      simp only [spl]
      have e1 : (List.take (k * s) cur.toList).length = k * s := by rw [List.length_take, Array.length_toList]; omega
      rw [List.append_assoc, List.take_append, List.take_append, e1, hv, List.append_assoc]
      congr 1
      · rw [List.take_of_length_le (by rw [e1]; omega), List.take_take]; congr 1; omega
      · congr 1
        · rw [List.take_of_length_le (by omega)]
        · rw [List.drop_take]; congr 1; omega
end Go.Proofs.Sv
