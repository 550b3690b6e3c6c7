/- Drawn regions under a condition on the world that the prover picks; bytes out of slices. Over any program. -/
import Derived.Test.YtahnpokehdlajaaDoorBase11
import Derived.Test.YtahnpokehdlajaaDoorBase7
namespace Go.Proofs.Sv
open Go Go.RowKit

def VP (P : Program) (n : Nat) (l : List Oper) (S : World → Prop) (fuel : Nat) (listed : Array Bool) (e : Env) (w : World) (Q : Exit → Act → World → Prop) : Prop :=
  S w ∧ ∀ a, Agree n e a → wpAnyH P .any l.toArray (NoPanic Q) S fuel listed a w
def VPo (P : Program) (n : Nat) (l : List Oper) (S : World → Prop) (fuel : Nat) (listed : Array Bool) (e : Env) (w : World) (Q : Exit → Act → World → Prop) (i : Nat) : Prop :=
  ∀ a, Agree n e a → wpOp P l.toArray (NoPanic Q) i (fun a' w' => S w' ∧ wpAnyH P .any l.toArray (NoPanic Q) S fuel (listed.setIfInBounds i true) a' w') a w

section
variable {P : Program} {n : Nat} {e : Env} {w : World} {Q : Exit → Act → World → Prop} {l : List Oper} {fuel : Nat} {listed : Array Bool} {S : World → Prop} {ops : Array Oper} {rest : List Oper}
  {d : Nat} {op : Op} {ty : TypeId} {pos : String} {after : Array Edge}

theorem vs_heldP {id : Nat} [hm : Mixed P] (S : World → Prop) (h : ∀ w', Ext w w' → w'.heap = w.heap → VP P n l S l.length (Array.replicate l.length false) e w' Q) : VS P n (.region id l.toArray true) e w Q := by
  intro a ha
  refine wp_region_noPanic (wp_region_held (S := S) hm.h ?_)
  have := (h w.drew ((Below.refl _ _).drew) rfl).2 a ha
  simpa using this
theorem vp_take (i : Nat) {v : Value} (hi : nthO l i = some ⟨some d, op, ty, pos, after, none⟩) (hr : ∀ w', S w' → RunsOp P n e op ty w' v w') (hd : Nat.blt d n = true)
    (hs : Region.noSelect l.toArray = true) (hf : Region.free .any l.toArray listed i = true) (hc : (Region.ready .any l.toArray listed).contains i = true)
    (h : VP P n l S fuel (listed.setIfInBounds i true) ((d, v) :: e) w Q) : VP P n l S (fuel + 1) listed e w Q :=
  ⟨h.1, fun a ha => wpAnyH_take (v := v) (nthO_arr hi) hs hf hc (fun _ _ _ hq => hq) (.inl ⟨by simp [Region.wanted], fun w' hw' => hr w' hw' a _ _ _ _ ha⟩) h.1 (h.2 _ (ha.put d hd v))⟩
theorem vp_one (i : Nat) (hc : Region.ready .any l.toArray listed = [i]) (hw : S w) (hi : VPo P n l S fuel listed e w Q i) : VP P n l S (fuel + 1) listed e w Q :=
  ⟨hw, fun a ha => wpAnyH_all hc (by simp) fun k hk => by
    rcases List.mem_cons.1 hk with rfl | hk
    · exact hi a ha
    · cases hk⟩
theorem vp_two (i j : Nat) (hc : Region.ready .any l.toArray listed = [i, j]) (hw : S w) (hi : VPo P n l S fuel listed e w Q i) (hj : VPo P n l S fuel listed e w Q j) : VP P n l S (fuel + 1) listed e w Q :=
  ⟨hw, fun a ha => wpAnyH_all hc (by simp) fun k hk => by
    rcases List.mem_cons.1 hk with rfl | hk
    · exact hi a ha
    · rcases List.mem_cons.1 hk with rfl | hk
      · exact hj a ha
      · cases hk⟩
theorem vpo_val {i : Nat} {v : Value} {w' : World} (hi : nthO l i = some ⟨some d, op, ty, pos, after, none⟩) (hr : RunsOp P n e op ty w v w') (hd : Nat.blt d n = true)
    (h : VP P n l S fuel (listed.setIfInBounds i true) ((d, v) :: e) w' Q) : VPo P n l S fuel listed e w Q i := by
  intro a ha
  unfold wpOp
  simp only [nthO_arr hi, Region.wanted, if_true, Oper.wp]
  rw [hr a _ _ _ _ ha]
  exact .inl ⟨h.1, h.2 _ (ha.put d hd v)⟩
theorem vp_only (i : Nat) {v : Value} (hi : nthO l i = some ⟨some d, op, ty, pos, after, none⟩) (hc : Region.ready .any l.toArray listed = [i]) (hr : RunsOp P n e op ty w v w) (hd : Nat.blt d n = true)
    (h : VP P n l S fuel (listed.setIfInBounds i true) ((d, v) :: e) w Q) : VP P n l S (fuel + 1) listed e w Q := vp_one i hc h.1 (vpo_val hi hr hd h)
theorem vpo_call {i f : Nat} {xs : List Operand} {vs : List Value} {tys : Array TypeId} [HasBody P f] (hi : nthO l i = some ⟨some d, .call ⟨.value (.func f), xs.toArray, tys⟩, ty, pos, after, none⟩)
    (hx : evl e xs = some vs) (hd : Nat.blt d n = true)
    (h : Calls P f vs.toArray w (fun en w' => ∃ v, en = .returned v ∧ VP P n l S fuel (listed.setIfInBounds i true) ((d, v) :: e) w' Q)) : VPo P n l S fuel listed e w Q i := by
  intro a ha
  unfold wpOp
  simp only [nthO_arr hi, Region.wanted, if_true, Oper.wp]
  have e1 : xs.toArray.map a.eval = vs.toArray := by rw [← ha.evl hx]; simp
  have : (execOp a.eval ⟨some d, .call ⟨.value (.func f), xs.toArray, tys⟩, ty, pos, after, none⟩).run P w = .ok (.enter f vs.toArray) w := by
    simp only [execOp, resolve, e1]
    simp [Act.eval, Deferred.ofValue, invoke, run_callFunc]
  rw [this]
  refine .inl (Calls.mono h ?_)
  rintro en w' ⟨v, rfl, hv⟩
  exact ⟨hv.1, hv.2 _ (ha.put d hd v)⟩
theorem vpo_store {i T T' s y : Nat} {z : Value} {x v : Operand} {b o : Nat} {cs vs : List Value} {u : Value} [Info P T s y z] (hi : nthO l i = some ⟨none, .store T x v, ty, pos, after, none⟩) (hx : ev e x = some (.pointer (some ⟨b, o, none⟩))) (hv : ev e v = some u) (hB : Blk w b cs T')
    (hc : u.cells.toList = vs) (hl : lenIs vs s = true) (h1 : ones vs = true) (ho : o + s ≤ cs.length)
    (k : ∀ w', Wr b w w' → Blk w' b (spl cs o vs) T' → VP P n l S fuel (listed.setIfInBounds i true) e w' Q) : VPo P n l S fuel listed e w Q i := by
  have hl' := lenIs_eq hl
  intro a ha
  unfold wpOp
  simp only [nthO_arr hi, Region.wanted, if_true, Oper.wp]
  have hst := run_storeVar (P := P) (T := T) (o := o) hc hl' h1 hB (by rw [hl']; exact ho)
  have : (execOp a.eval ⟨none, .store T x v, ty, pos, after, none⟩).run P w = .ok .skip (w.setRow b (spl cs o vs).toArray) := by
    simp only [execOp, ha.ev hx, ha.ev hv]
    simp [Instr.storeAt, Instr.sureAddr, hst, Result.andThen]
  have h := k _ (wr_setRow w b _) (setRow_heap w b cs.toArray _ T' (0, 0) hB)
  rw [this]
  exact .inl ⟨h.1, h.2 _ (ha.put_none _)⟩
theorem vp_done (hc : Region.ready .any l.toArray listed = []) (hw : S w) (h : FinS n .normal e w Q) : VP P n l S fuel listed e w Q :=
  ⟨hw, fun a ha => wpAnyH_done hc (NoPanic.normal (h a ha)) fuel⟩

/-! ### A byte of a slice of bytes -/
theorem runs_idxY {T E s y : Nat} {z : Value} {x ix : Operand} {b o len cap k : Nat} {kk : IntKind} [SliceOf P T E] [Info P E s y z] (hx : ev e x = some (.slice (some ⟨b, o, none⟩) len cap)) (hi : ev e ix = some (.int kk (k : Int))) (hk : k < len) :
    RunsOp P n e (.indexAddr T x ix) ty w (.pointer (some ⟨b, o + k * s, none⟩)) w := runs_idx hx hi hk
/-- Where a byte lies, and what it is. -/
theorem SlR.byte {lo hi : Nat} {v : Value} {xs : List UInt8} {k : Nat} (hs : SlR lo hi w v xs) (hk : k < xs.length) : ∃ b o cap, v = .slice (some ⟨b, o, none⟩) xs.length cap ∧ lo ≤ b ∧ b < hi ∧ At w b (o + k * 1) [.int .u8 (xs[k].toNat : Int)] := by
  obtain ⟨p, cap, rfl⟩ := hs.len
  obtain ⟨_, b, o, c, rfl, h1, h2, hat, hr⟩ := hs.get hk
  have hc : c = [.int .u8 (xs[k].toNat : Int)] := hr
  subst hc
  exact ⟨b, o, cap, rfl, h1, h2, hat⟩
end
end Go.Proofs.Sv
