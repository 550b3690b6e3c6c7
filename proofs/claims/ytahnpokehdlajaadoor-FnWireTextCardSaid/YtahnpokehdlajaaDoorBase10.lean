/- Division, conversions, make, stores by index, drawn regions in which more than one operation may come up. Over any program. -/
import Derived.Test.YtahnpokehdlajaaDoorBase9
import Derived.Laws.MakeOwn
import Derived.Laws.BytesArg
namespace Go.Proofs.Sv
open Go Go.RowKit

section
variable {P : Program} {n : Nat} {e : Env} {w : World} {Q : Exit → Act → World → Prop} {ops : Array Oper} {rest : List Oper}
  {d : Nat} {ty : TypeId} {pos : String} {after : Array Edge}

/-! ### Arithmetic -/
theorem tdiv_in {a b : Int} (ha : InI a) (hb : 0 < b) : -9223372036854775808 ≤ a.tdiv b ∧ a.tdiv b ≤ 9223372036854775807 := by
  unfold InI at ha
  rcases Int.le_total 0 a with h0 | h0
  · have h3 := Int.tdiv_nonneg h0 (Int.le_of_lt hb)
    have h : (a.tdiv b).natAbs = a.natAbs / b.natAbs := Int.natAbs_tdiv a b
    have h2 := Nat.div_le_self a.natAbs b.natAbs
    generalize a.tdiv b = q at *
    generalize a.natAbs / b.natAbs = r at *
    omega
  · have h3 := Int.tdiv_nonneg (show 0 ≤ -a by omega) (Int.le_of_lt hb)
    rw [Int.neg_tdiv] at h3
    have h : (a.tdiv b).natAbs = a.natAbs / b.natAbs := Int.natAbs_tdiv a b
    have h2 := Nat.div_le_self a.natAbs b.natAbs
    generalize a.tdiv b = q at *
    generalize a.natAbs / b.natAbs = r at *
    omega
theorem runs_quo {T T' : TypeId} {x y : Operand} {a b : Int} (hx : ev e x = some (.int .i64 a)) (hy : ev e y = some (.int .i64 b)) (ha' : InI a) (hb : 0 < b) :
    RunsOp P n e (.binOp .quo T x y T') ty w (.int .i64 (a.tdiv b)) w := by
  intro ac dst pos after g ha
  have h0 : ¬ b = 0 := by omega
  simp only [execOp, ha.ev hx, ha.ev hy]
  simp [eqGuard, binOp, Op.intDiv, h0, IntWalk.i64_in _ (tdiv_in ha' hb)]
theorem runs_rem {T T' : TypeId} {x y : Operand} {a b : Int} (hx : ev e x = some (.int .i64 a)) (hy : ev e y = some (.int .i64 b)) (hb : b ≠ 0) :
    RunsOp P n e (.binOp .rem T x y T') ty w (.int .i64 (a.tmod b)) w := by
  intro ac dst pos after g ha
  simp only [execOp, ha.ev hx, ha.ev hy]
  simp [eqGuard, binOp, Op.intDiv, hb]
theorem runs_neg {T : TypeId} {x : Operand} {a : Int} (hx : ev e x = some (.int .i64 a)) (hr : -9223372036854775808 ≤ -a ∧ -a ≤ 9223372036854775807) :
    RunsOp P n e (.unOp .neg T x) ty w (.int .i64 (-a)) w := by
  intro ac dst pos after g ha
  simp only [execOp, ha.ev hx]
  simp [Op.unary, Op.intArith, IntWalk.i64_in _ hr]

/-! ### Conversions -/
theorem runs_toByte {T T' : TypeId} {x : Operand} {k : IntKind} {a : Int} [ht : ByteT P T'] [hi : IntT P T] (hx : ev e x = some (.int k a)) :
    RunsOp P n e (.convert T T' x) ty w (.int .u8 (a % 256)) w := by
  intro ac dst pos after g ha
  simp only [execOp, ha.ev hx]
  simp [convert, run_underlying ht.h, run_underlying hi.h, Conv.intToInt, IntKind.wrap_u8, Result.andThen]
theorem runs_toInt {T T' : TypeId} {x : Operand} {k : IntKind} {a : Int} [ht : IntT P T'] [hi : ByteT P T] (hx : ev e x = some (.int k a)) (hr : -9223372036854775808 ≤ a ∧ a ≤ 9223372036854775807) :
    RunsOp P n e (.convert T T' x) ty w (.int .i64 a) w := by
  intro ac dst pos after g ha
  simp only [execOp, ha.ev hx]
  simp [convert, run_underlying ht.h, run_underlying hi.h, Conv.intToInt, IntWalk.i64_in _ hr, Result.andThen]
/-- string(b), b a row of bytes. -/
theorem runs_toStr {T T' E : TypeId} {x : Operand} {b o cap m : Nat} {ms : List Int} [hs : SliceOf P T E] [hb : ByteT P E] [ht : StringT P T'] (hx : ev e x = some (.slice (some ⟨b, o, none⟩) m cap)) (hm : ms.length = m) (hA : At w b o (ms.map (Value.int .u8))) :
    RunsOp P n e (.convert T T' x) ty w (.string (strOfNums ms)) w := by
  intro ac dst pos after g ha
  have h := run_convert_bytes_arg (P := P) w T E hs.h hb.h b o m cap ms hm (fun i hi => hA i _ (by simp [List.getD, List.getElem?_eq_getElem (show i < ms.length by omega)])) T' ht.h
  simp only [execOp, ha.ev hx]
  simp [h, Result.andThen]

/-! ### make -/
theorem reps_len (z : List Value) : ∀ k, (reps k z).length = k * z.length
  | 0 => by simp [reps]
  | k + 1 => by rw [reps, List.length_append, reps_len z k, Nat.add_mul]; omega
theorem reps_get (z : List Value) : ∀ (k j : Nat), j < k * z.length → (reps k z)[j]? = z[j % z.length]?
  | 0, j, h => by omega
  | k + 1, j, h => by
    have h' : j < k * z.length + z.length := by rwa [Nat.add_mul, Nat.one_mul] at h
    rw [reps]
    rcases Nat.lt_or_ge j z.length with hj | hj
    · rw [List.getElem?_append_left hj, Nat.mod_eq_of_lt hj]
    · rw [List.getElem?_append_right hj, reps_get z k (j - z.length) (by omega)]
      congr 1
      rw [Nat.mod_eq_sub_mod hj]
theorem madeCells_reps (z : Array Value) (k : Nat) (hz : 0 < z.size) : madeCells z (k * z.size) = (reps k z.toList).toArray := by
  apply Array.ext'
  apply List.ext_getElem?
  intro j
  unfold madeCells
  by_cases hj : j < k * z.size
  · have hlt : j % z.size < z.size := Nat.mod_lt _ hz
    rw [show (reps k z.toList).toArray.toList = reps k z.toList by simp, reps_get z.toList k j (by simpa using hj)]
    simp [hj]
    rw [Array.getElem!_eq_getD, Array.getD, dif_pos hlt]
    rw [Array.getElem?_eq_getElem hlt]; rfl
  · rw [List.getElem?_eq_none (by simp; omega), List.getElem?_eq_none (by simp [reps_len]; omega)]
theorem runs_make {T E s y : Nat} {z : Value} {x x' : Operand} {m : Nat} {zs : List Value} [hT : SliceOf P T E] [i : Info P E s y z] (hx : ev e x = some (.int .i64 (m : Int))) (hx' : ev e x' = some (.int .i64 (m : Int))) (hz : z.cells.toList = zs) (hl : lenIs zs s = true) (hs : Nat.blt 0 s = true)
    (hm : m * y ≤ 281474976710656) (hm' : m ≤ 9223372036854775807) :
    RunsOp P n e (.makeSlice T x x') ty w (.slice (some ⟨w.heap.size, 0, none⟩) m m) (w.alloc (.cells (reps m zs).toArray E)) := by
  intro a dst pos after g ha
  obtain ⟨inf, hinfo, h2, h3, h4⟩ := i.get
  subst hz
  have hl' := lenIs_eq hl
  have hsz : z.cells.size = s := by simpa using hl'
  have hb : (inf.bytes : Int) * (m : Int) ≤ 281474976710656 := by
    have h : ((inf.bytes * m : Nat) : Int) ≤ 281474976710656 := by rw [h3, Nat.mul_comm]; omega
    rwa [Int.natCast_mul] at h
  have h := run_make (P := P) w T E inf z hT.h hinfo h4 .i64 .i64 m m (by omega) (Int.le_refl _) hb (by omega)
  simp only [Int.toNat_natCast] at h
  have hpos : 0 < z.cells.size := by rw [hsz]; simpa using hs
  have hc := madeCells_reps z.cells m hpos
  rw [h2] at h
  rw [hsz] at hc
  rw [hc] at h
  simp only [execOp, ha.ev hx, ha.ev hx']
  simp [h, Result.andThen]
theorem vo_make {T E s y : Nat} {z : Value} {x x' : Operand} {m : Nat} {zs : List Value} [SliceOf P T E] [Info P E s y z] (hx : ev e x = some (.int .i64 (m : Int))) (hx' : ev e x' = some (.int .i64 (m : Int))) (hz : z.cells.toList = zs) (hl : lenIs zs s = true) (hs : Nat.blt 0 s = true)
    (hm : m * y ≤ 281474976710656) (hm' : m ≤ 9223372036854775807) (hd : Nat.blt d n = true)
    (k : ∀ b w', NewB w b w' → Blk w' b (reps m zs) E → VO P n ops rest ((d, .slice (some ⟨b, 0, none⟩) m m) :: e) w' Q) :
    VO P n ops (⟨some d, .makeSlice T x x', ty, pos, after, none⟩ :: rest) e w Q :=
  vo_val _ (runs_make hx hx' hz hl hs hm hm') hd (k _ _ (newB_alloc _ _) (by simpa using blk_alloc w (reps m zs).toArray E))

/-! ### A store at an index of a row that is known in three parts -/
theorem spl_mid (A c C vs : List Value) (h : c.length = vs.length) : spl (A ++ (c ++ C)) A.length vs = A ++ (vs ++ C) := by
  unfold spl
  rw [List.take_left, ← List.append_assoc A c C, ← h, ← List.length_append, List.drop_left, List.append_assoc]
theorem vo_storeAt {T T' s y : Nat} {z : Value} {x v : Operand} {b o : Nat} {A c C vs : List Value} {u : Value} [Info P T s y z] (hx : ev e x = some (.pointer (some ⟨b, o, none⟩))) (hv : ev e v = some u) (hB : Blk w b (A ++ (c ++ C)) T') (ho : A.length = o) (hc : c.length = s) (hu : u.cells.toList = vs)
    (hl : vs.length = s) (h1 : ones vs = true)
    (k : ∀ w', Wr b w w' → Blk w' b (A ++ (vs ++ C)) T' → VO P n ops rest e w' Q) :
    VO P n ops (⟨none, .store T x v, ty, pos, after, none⟩ :: rest) e w Q := by
  subst ho
  have hm := spl_mid A c C vs (by omega)
  refine vo_unit (w' := w.setRow b (A ++ (vs ++ C)).toArray) ?_ (k _ (wr_setRow _ _ _) ?_)
  · intro a dst pos after g ha
    have hst := run_storeVar (P := P) (T := T) (o := A.length) hu hl h1 hB (by simp only [List.length_append]; omega)
    rw [hm] at hst
    simp only [execOp, ha.ev hx, ha.ev hv]
    simp [Instr.storeAt, Instr.sureAddr, hst, Result.andThen]
  · exact setRow_heap w b _ _ T' (0, 0) hB
/-- The address of element k of a row of a known block. -/
theorem vo_idxB {T E s y : Nat} {z : Value} {x ix : Operand} {b len cap k : Nat} {kk : IntKind} [SliceOf P T E] [Info P E s y z] (hx : ev e x = some (.slice (some ⟨b, 0, none⟩) len cap)) (hi : ev e ix = some (.int kk (k : Int))) (hk : k < len) (hd : Nat.blt d n = true)
    (h : VO P n ops rest ((d, .pointer (some ⟨b, k * s, none⟩)) :: e) w Q) : VO P n ops (⟨some d, .indexAddr T x ix, ty, pos, after, none⟩ :: rest) e w Q :=
  vo_val _ (runs_idx hx hi hk) hd (by rwa [Nat.zero_add])

/-! ### Drawn regions: more than one operation may come up -/
variable {w0 : World} {l : List Oper} {fuel : Nat} {listed : Array Bool}

/-- Operation i comes up. -/
def VHo (P : Program) (n : Nat) (l : List Oper) (w0 : World) (fuel : Nat) (listed : Array Bool) (e : Env) (w : World) (Q : Exit → Act → World → Prop) (i : Nat) : Prop :=
  ∀ a, Agree n e a → wpOp P l.toArray (NoPanic Q) i (fun a' w' => Ext w0 w' ∧ wpAnyH P .any l.toArray (NoPanic Q) (Ext w0) fuel (listed.setIfInBounds i true) a' w') a w
theorem vh_two (i j : Nat) (hc : Region.ready .any l.toArray listed = [i, j]) (hi : VHo P n l w0 fuel listed e w Q i) (hj : VHo P n l w0 fuel listed e w Q j) (hw : Ext w0 w) : VH P n l.toArray w0 (fuel + 1) listed e w Q :=
  ⟨hw, fun a ha => wpAnyH_all hc (by simp) fun k hk => by
    rcases List.mem_cons.1 hk with rfl | hk
    · exact hi a ha
    · rcases List.mem_cons.1 hk with rfl | hk
      · exact hj a ha
      · cases hk⟩
theorem vh_one (i : Nat) (hc : Region.ready .any l.toArray listed = [i]) (hi : VHo P n l w0 fuel listed e w Q i) (hw : Ext w0 w) : VH P n l.toArray w0 (fuel + 1) listed e w Q :=
  ⟨hw, fun a ha => wpAnyH_all hc (by simp) fun k hk => by
    rcases List.mem_cons.1 hk with rfl | hk
    · exact hi a ha
    · cases hk⟩
theorem vho_val {i : Nat} {op : Op} {v : Value} {w' : World} (hi : nthO l i = some ⟨some d, op, ty, pos, after, none⟩) (hr : RunsOp P n e op ty w v w') (hd : Nat.blt d n = true)
    (h : VH P n l.toArray w0 fuel (listed.setIfInBounds i true) ((d, v) :: e) w' Q) : VHo P n l w0 fuel listed e w Q i := by
  intro a ha
  unfold wpOp
  simp only [nthO_arr hi, Region.wanted, if_true, Oper.wp]
  rw [hr a _ _ _ _ ha]
  exact .inl ⟨h.1, h.2 _ (ha.put d hd v)⟩
theorem vho_call {i f : Nat} {xs : List Operand} {vs : List Value} {tys : Array TypeId} [HasBody P f] (hi : nthO l i = some ⟨some d, .call ⟨.value (.func f), xs.toArray, tys⟩, ty, pos, after, none⟩)
    (hx : evl e xs = some vs) (hd : Nat.blt d n = true)
    (h : Calls P f vs.toArray w (fun en w' => ∃ v, en = .returned v ∧ VH P n l.toArray w0 fuel (listed.setIfInBounds i true) ((d, v) :: e) w' Q)) : VHo P n l w0 fuel listed e w Q i := by
  intro a ha
  unfold wpOp
  simp only [nthO_arr hi, Region.wanted, if_true, Oper.wp]
  have e1 : xs.toArray.map a.eval = vs.toArray := by rw [← ha.evl hx]; simp
  have : (execOp a.eval ⟨some d, .call ⟨.value (.func f), xs.toArray, tys⟩, ty, pos, after, none⟩).run P w = .ok (.enter f vs.toArray) w := by
    simp only [execOp, resolve, e1]
    simp [Act.eval, Deferred.ofValue, invoke, run_callFunc]
  rw [this]
  refine .inl (Calls.mono h ?_)
  rintro en w' ⟨v, rfl, hv⟩
  exact ⟨hv.1, hv.2 _ (ha.put d hd v)⟩
theorem runs_buildSlice {T E y len : Nat} {z : Value} {parts : List (Nat × Operand)} {vs : List (Nat × Value)} {cs : List Value} [hT : SliceOf P T E] [i : Info P E 1 y z] (hz : z.cells = #[z]) (hx : evp e parts = some vs) (hl : Nat.ble len 16777216 = true) (h0 : Nat.blt 0 len = true)
    (hf : fillL (places1 1 len 0) (reps len [z]) vs = some cs) :
    RunsOp P n e (.buildSlice T len parts.toArray) ty w (.slice (some ⟨w.heap.size, 0, none⟩) len len) (w.alloc (.cells cs.toArray E)) := by
  obtain ⟨inf, hinfo, h2, h3, h4⟩ := i.get
  intro a dst pos after g ha
  have hle := Nat.le_of_ble_eq_true hl
  have e1 : parts.toArray.map (fun (i, x) => (i, a.eval x)) = vs.toArray := by rw [← Agree.evp ha hx]; simp
  have hfill := fill_eq (places1 1 len 0) vs (reps len [z]) cs hf
  have hfill' := fill_mono (fun i : Nat => (places1 1 len 0)[i]?) (fun i : Nat => some (i * 1, 1)) vs _ _ (fun i p hp => by
    by_cases hi : i < len
    · rw [places1_get 1 len 0 i hi] at hp; simpa using hp
    · rw [List.getElem?_eq_none (by
        have : ∀ k j, (places1 1 k j).length = k := fun k => by induction k with
          | zero => intro j; rfl
          | succ k ih => intro j; simp [places1, ih]
        rw [this]; omega)] at hp
      cases hp) hfill
  have hnot : ¬ len > 2 ^ 24 := by omega
  have hfill2 : Instr.fill (fun i => some (i, 1)) (reps len [z]).toArray vs = some cs.toArray := by simpa using hfill'
  have hnew : ∀ w : World, (newRow E cs.toArray).run P w = .ok ⟨w.heap.size, 0, none⟩ (w.alloc (.cells cs.toArray E)) := fun _ => rfl
  have h0' : ¬ len = 0 := by intro h; subst h; cases h0
  simp only [execOp, e1]
  simp only [Instr.buildSlice, Sem.run_bind, run_underlying hT.h, Result.andThen, run_sizeOf' w hinfo, h2, Nat.mul_one, hnot, if_false]
  simp only [h0', if_false, Sem.run_bind, Sem.run_pure, Result.andThen, run_zeroValue' w hinfo h4, hz, zeros_one z len, hfill2, hnew]
theorem vho_buildSlice {i T E y len : Nat} {z : Value} {parts : List (Nat × Operand)} {vs : List (Nat × Value)} {cs : List Value} [SliceOf P T E] [Info P E 1 y z] (hi : nthO l i = some ⟨some d, .buildSlice T len parts.toArray, ty, pos, after, none⟩) (hz : z.cells = #[z]) (hx : evp e parts = some vs)
    (hl : Nat.ble len 16777216 = true) (h0 : Nat.blt 0 len = true) (hf : fillL (places1 1 len 0) (reps len [z]) vs = some cs) (hd : Nat.blt d n = true)
    (k : ∀ b w', NewB w b w' → Blk w' b cs E → VH P n l.toArray w0 fuel (listed.setIfInBounds i true) ((d, .slice (some ⟨b, 0, none⟩) len len) :: e) w' Q) : VHo P n l w0 fuel listed e w Q i :=
  vho_val hi (runs_buildSlice hz hx hl h0 hf) hd (k _ _ (newB_alloc _ _) (by simpa using blk_alloc w cs.toArray E))
end
end Go.Proofs.Sv
