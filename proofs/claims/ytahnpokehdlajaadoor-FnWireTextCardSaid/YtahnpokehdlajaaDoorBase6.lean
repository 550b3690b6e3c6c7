/- Operations that write: stores into blocks that are known whole, literals of structs and slices, results that lie in variables; bytes of strings. Over any program. -/
import Derived.Test.YtahnpokehdlajaaDoorBase5
import Derived.Laws.CopyRow
namespace Go.Proofs.Sv
open Go Go.RowKit

def spl (cs : List Value) (o : Nat) (vs : List Value) : List Value := cs.take o ++ vs ++ cs.drop (o + vs.length)
def ones : List Value → Bool
  | [] => true
  | v :: r => v.oneCell' && ones r
theorem ones_mem : ∀ {vs : List Value}, ones vs = true → ∀ v ∈ vs, v.oneCell' = true
  | [], _, _, h => by cases h
  | u :: r, h, v, hv => by
    simp only [ones, Bool.and_eq_true] at h
    rcases List.mem_cons.1 hv with rfl | hv
    · exact h.1
    · exact ones_mem h.2 v hv

theorem heap_setRow_other (w : World) (g k : Nat) (cs : Array Value) (h : k ≠ g) : (w.setRow g cs).heap[k]? = w.heap[k]? := by
  simp only [World.setRow, Array.getElem?_modify]
  rw [if_neg (by omega)]
theorem wr_setRow (w : World) (g : Nat) (cs : Array Value) : Wr g w (w.setRow g cs) :=
  ⟨rfl, rfl, rfl, by simp [World.setRow], fun k hk => heap_setRow_other w g k cs hk⟩

/-- The length of a list, at a numeral, without a look at its elements. -/
def lenIs : List Value → Nat → Bool
  | [], 0 => true
  | _ :: r, k + 1 => lenIs r k
  | _, _ => false
theorem lenIs_eq : ∀ {vs : List Value} {k : Nat}, lenIs vs k = true → vs.length = k
  | [], 0, _ => rfl
  | _ :: r, k + 1, h => by simp [lenIs_eq (vs := r) (k := k) h]
  | [], _ + 1, h => by cases h
  | _ :: _, 0, h => by cases h

section
variable {P : Program} {n : Nat} {e : Env} {w : World} {Q : Exit → Act → World → Prop} {ops : Array Oper} {rest : List Oper}
  {d : Nat} {ty : TypeId} {pos : String} {after : Array Edge}

theorem run_storeVar {T T' s y : Nat} {z : Value} {b o : Nat} {cs vs : List Value} {v : Value} [i : Info P T s y z] (hv : v.cells.toList = vs) (hl : vs.length = s) (h1 : ones vs = true) (hB : Blk w b cs T') (ho : o + vs.length ≤ cs.length) :
    (storeVar T ⟨b, o, none⟩ v).run P w = .ok () (w.setRow b (spl cs o vs).toArray) := by
  obtain ⟨inf, hinfo, h2, h3, h4⟩ := i.get
  have hsz : v.cells.size = inf.size := by rw [h2, ← hl, ← hv]; simp
  have hst := run_storeCells_at (P := P) b o T' vs 0 cs.toArray w hB (by simpa using ho) (ones_mem h1)
  unfold storeVar
  simp only [Sem.run_bind, run_sizeOf' w hinfo, Result.andThen, hsz, ne_eq, not_true_eq_false, if_false, hv]
  simpa [spl] using hst
/-- A store into a block that is known whole. -/
theorem vo_store {T T' s y : Nat} {z : Value} {x v : Operand} {b o : Nat} {cs vs : List Value} {u : Value} [Info P T s y z] (hx : ev e x = some (.pointer (some ⟨b, o, none⟩))) (hv : ev e v = some u) (hB : Blk w b cs T') (hc : u.cells.toList = vs)
    (hl : lenIs vs s = true) (h1 : ones vs = true) (ho : Nat.ble (o + s) cs.length = true)
    (k : ∀ w', Wr b w w' → Blk w' b (spl cs o vs) T' → VO P n ops rest e w' Q) :
    VO P n ops (⟨none, .store T x v, ty, pos, after, none⟩ :: rest) e w Q := by
  have hl' := lenIs_eq hl
  have ho' : o + vs.length ≤ cs.length := by rw [hl']; exact Nat.le_of_ble_eq_true ho
  refine vo_unit (w' := w.setRow b (spl cs o vs).toArray) ?_ (k _ (wr_setRow _ _ _) ?_)
  · intro a dst pos after g ha
    simp only [execOp, ha.ev hx, ha.ev hv]
    simp [Instr.storeAt, Instr.sureAddr, run_storeVar hc hl' h1 hB ho', Result.andThen]
  · exact setRow_heap w b cs.toArray _ T' (0, 0) hB

/-! ### Literals -/
def fillL (place : List (Nat × Nat)) : List Value → List (Nat × Value) → Option (List Value)
  | cs, [] => some cs
  | cs, (i, v) :: r => match place[i]? with
    | none => none
    | some p => bif lenIs v.cells.toList p.2 && Nat.ble (p.1 + p.2) cs.length then fillL place (spl cs p.1 v.cells.toList) r else none
theorem spl_cons (v : Value) (r cs : List Value) (o : Nat) (h : o + (r.length + 1) ≤ cs.length) : spl cs o (v :: r) = spl (cs.set o v) (o + 1) r := by
  obtain ⟨A, C, hA, rfl⟩ : ∃ A C : List Value, A.length = o ∧ cs = A ++ C := ⟨cs.take o, cs.drop o, by simp; omega, by simp⟩
  subst hA
  cases C with
  | nil => simp only [List.append_nil] at h; omega
  | cons x C =>
    simp only [spl, List.length_cons, List.set_append_right _ _ (Nat.le_refl _), Nat.sub_self, List.set_cons_zero]
    have e1 : List.take A.length (A ++ x :: C) = A := by simp
    have e2 : List.take (A.length + 1) (A ++ v :: C) = A ++ [v] := by
      rw [List.take_append, List.take_of_length_le (by omega)]; simp
    have e3 : List.drop (A.length + (r.length + 1)) (A ++ x :: C) = List.drop r.length C := by
      rw [List.drop_append, List.drop_eq_nil_of_le (by omega)]; simp
    have e4 : List.drop (A.length + 1 + r.length) (A ++ v :: C) = List.drop r.length C := by
      rw [show A.length + 1 + r.length = A.length + (r.length + 1) by omega, List.drop_append, List.drop_eq_nil_of_le (by omega)]; simp
    rw [e1, e2, e3, e4]; simp
theorem foldl_spl (off : Nat) : ∀ (vs : List Value) (j : Nat) (cs : Array Value), off + j + vs.length ≤ cs.size →
    ((vs.zipIdx j).foldl (fun cs (c, j) => cs.setIfInBounds (off + j) c) cs).toList = spl cs.toList (off + j) vs
  | [], j, cs, h => by simp [spl]
  | v :: r, j, cs, h => by
    simp only [List.zipIdx_cons, List.foldl_cons]
    rw [foldl_spl off r (j + 1) _ (by simp at h ⊢; omega), spl_cons v r _ _ (by simp at h ⊢; omega)]
    simp [Nat.add_assoc]
theorem fill_eq (place : List (Nat × Nat)) : ∀ (parts : List (Nat × Value)) (cs ds : List Value), fillL place cs parts = some ds → Instr.fill (fun i => place[i]?) cs.toArray parts = some ds.toArray
  | [], cs, ds, h => by simp only [fillL, Option.some.injEq] at h; subst h; rfl
  | (i, v) :: r, cs, ds, h => by
    unfold fillL at h
    split at h
    · cases h
    · rename_i p hp
      cases hb : (lenIs v.cells.toList p.2 && Nat.ble (p.1 + p.2) cs.length) with
      | false => rw [hb] at h; cases h
      | true =>
        rw [hb] at h
        simp only [cond_true] at h
        simp only [Bool.and_eq_true] at hb
        have h1 := lenIs_eq hb.1
        have h2 := Nat.le_of_ble_eq_true hb.2
        have hs : v.cells.size = p.2 := by rw [← h1]; simp
        have ih := fill_eq place r _ _ h
        unfold Instr.fill
        simp only [hp]
        rw [if_neg (by simp [hs, h2])]
        have hf := foldl_spl p.1 v.cells.toList 0 cs.toArray (by simp [hs, h2])
        have e1 : Array.foldl (fun cs (x : Value × Nat) => cs.setIfInBounds (p.1 + x.2) x.1) cs.toArray v.cells.zipIdx = (spl cs p.1 v.cells.toList).toArray := by
          rw [← Array.foldl_toList]
          apply Array.ext'
          simpa using hf
        exact (congrArg (fun q => Instr.fill (fun i => place[i]?) q r) e1).trans ih

/-- The places of a struct type's fields (offset, cells), and its zero value's cells. -/
def placesB (P : Program) (T : TypeId) : Option (List (Nat × Nat)) := match P.underlying T with
  | some (.struct fs) => some (fs.toList.map fun f => (f.offset, match P.info? f.type with | some i => i.size | none => 0))
  | _ => none
def fieldsOk (P : Program) (T : TypeId) : Bool := match P.underlying T with
  | some (.struct fs) => fs.toList.all fun f => (P.info? f.type).isSome
  | _ => false
class PlacesOf (P : Program) (T : TypeId) (pl : outParam (List (Nat × Nat))) : Prop where
  h : placesB P T = some pl
  ok : fieldsOk P T = true
def evp (e : Env) : List (Nat × Operand) → Option (List (Nat × Value))
  | [] => some []
  | (i, x) :: r => match ev e x, evp e r with | some v, some vs => some ((i, v) :: vs) | _, _ => none
theorem Agree.evp {a : Act} (h : Agree n e a) : ∀ {xs : List (Nat × Operand)} {vs : List (Nat × Value)}, evp e xs = some vs → xs.map (fun (i, x) => (i, a.eval x)) = vs
  | [], vs, hx => by simp [Sv.evp] at hx; simp [hx]
  | (i, x) :: r, vs, hx => by
    unfold Sv.evp at hx
    split at hx
    · rename_i v ws hv hws
      simp at hx; subst hx
      simp [h.ev hv, Agree.evp h hws]
    · cases hx
theorem run_sizes (w : World) : ∀ (fs : List Field), (fs.all fun f => (P.info? f.type).isSome) = true →
    (fs.mapM (fun f => do Pure.pure (f.offset, ← sizeOf f.type) : Field → Sem (Nat × Nat))).run P w = .ok (fs.map fun f => (f.offset, match P.info? f.type with | some i => i.size | none => 0)) w
  | [], _ => rfl
  | f :: r, h => by
    simp only [List.all_cons, Bool.and_eq_true, Option.isSome_iff_exists] at h
    obtain ⟨⟨i, hi⟩, h2⟩ := h
    rw [List.mapM_cons]
    simp only [Sem.run_bind, run_sizeOf' w hi, Result.andThen, Sem.run_pure, run_sizes w r h2, List.map_cons, hi]
theorem runs_build {T s y : Nat} {z : Value} {pl : List (Nat × Nat)} {parts : List (Nat × Operand)} {vs : List (Nat × Value)} {cs : List Value} [i : Info P T s y z] [p : PlacesOf P T pl] (hx : evp e parts = some vs) (hf : fillL pl z.cells.toList vs = some cs) :
    RunsOp P n e (.build T parts.toArray) ty w (.agg cs.toArray) w := by
  intro a dst pos after g ha
  obtain ⟨inf, hinfo, h2, h3, h4⟩ := i.get
  have hp := p.h
  have hk := p.ok
  unfold placesB at hp
  unfold fieldsOk at hk
  split at hp
  · rename_i fs hfs
    rw [hfs] at hk
    simp only [Option.some.injEq] at hp
    have hm := run_sizes (P := P) w fs.toList hk
    rw [hp] at hm
    have hfill := fill_eq pl vs z.cells.toList cs hf
    have e1 : parts.toArray.map (fun (i, x) => (i, a.eval x)) = vs.toArray := by rw [← Agree.evp ha hx]; simp
    have hm' : (fs.mapM (fun f => do Pure.pure (f.offset, ← sizeOf f.type) : Field → Sem (Nat × Nat))).run P w = .ok pl.toArray w := by
      rw [Array.mapM_eq_mapM_toList]
      show (Functor.map List.toArray (List.mapM _ fs.toList) : Sem _).run P w = _
      rw [map_eq_pure_bind, Sem.run_bind, hm]
      rfl
    have e2 : (fun i : Nat => pl.toArray[i]?) = (fun i : Nat => pl[i]?) := by funext i; simp
    simp only [execOp, e1]
    simp only [Instr.build, Sem.run_bind, run_zeroValue' w hinfo h4, Result.andThen, run_underlying hfs, hm', e2]
    rw [show z.cells = z.cells.toList.toArray by simp]
    simp only [hfill]
    rfl
  · cases hp
theorem vo_build {T s y : Nat} {z : Value} {pl : List (Nat × Nat)} {parts : List (Nat × Operand)} {vs : List (Nat × Value)} {cs : List Value} [Info P T s y z] [PlacesOf P T pl] (hx : evp e parts = some vs) (hf : fillL pl z.cells.toList vs = some cs) (hd : Nat.blt d n = true)
    (h : VO P n ops rest ((d, .agg cs.toArray) :: e) w Q) : VO P n ops (⟨some d, .build T parts.toArray, ty, pos, after, none⟩ :: rest) e w Q := vo_val _ (runs_build hx hf) hd h
theorem vq_build {T s y : Nat} {z : Value} {pl : List (Nat × Nat)} {parts : List (Nat × Operand)} {vs : List (Nat × Value)} {cs : List Value} [Info P T s y z] [PlacesOf P T pl] (hx : evp e parts = some vs) (hf : fillL pl z.cells.toList vs = some cs) (hd : Nat.blt d n = true)
    (h : VQ P n ops w rest ((d, .agg cs.toArray) :: e) Q) : VQ P n ops w (⟨some d, .build T parts.toArray, ty, pos, after, none⟩ :: rest) e Q := vq_val _ (fun _ _ => runs_build hx hf) hd h

/-! ### Equality of bools -/
class BoolT (P : Program) (T : TypeId) : Prop where h : P.underlying T = some .bool
theorem eqIn_bool (dd : Nat) {T : TypeId} {a b : Bool} [h : BoolT P T] : (Op.equalIn (dd + 1) T (.bool a) (.bool b)).run P w = .ok (a == b) w := by simp [Op.equalIn, run_underlying h.h]
theorem runs_eqB {T T' : TypeId} {x y : Operand} {a b : Bool} [h : BoolT P T] (hx : ev e x = some (.bool a)) (hy : ev e y = some (.bool b)) : RunsOp P n e (.binOp .eql T x y T') ty w (.bool (a == b)) w := by
  intro ac dst pos after g ha
  have he : (Op.equal T (.bool a) (.bool b)).run P w = .ok (a == b) w := eqIn_bool 9999
  simp only [execOp, ha.ev hx, ha.ev hy]
  simp [eqGuard, binOp, he, Result.andThen]
theorem runs_neB {T T' : TypeId} {x y : Operand} {a b : Bool} [h : BoolT P T] (hx : ev e x = some (.bool a)) (hy : ev e y = some (.bool b)) : RunsOp P n e (.binOp .neq T x y T') ty w (.bool (!(a == b))) w := by
  intro ac dst pos after g ha
  have he : (Op.equal T (.bool a) (.bool b)).run P w = .ok (a == b) w := eqIn_bool 9999
  simp only [execOp, ha.ev hx, ha.ev hy]
  simp [eqGuard, binOp, he, Result.andThen]

/-! ### A whole struct out of memory -/
theorem vo_loadA {T T' s y b : Nat} {z : Value} {x : Operand} {cs : List Value} [AggT P T] [Info P T s y z] (hx : ev e x = some (.pointer (some ⟨b, 0, none⟩))) (hB : Blk w b cs T') (hs : lenIs cs s = true) (hd : Nat.blt d n = true)
    (h : VO P n ops rest ((d, .agg cs.toArray) :: e) w Q) : VO P n ops (⟨some d, .load T x, ty, pos, after, none⟩ :: rest) e w Q := vo_val _ (runs_loadA hx (lenIs_eq hs) hB.at) hd h
theorem vq_loadA {T T' s y b : Nat} {z : Value} {x : Operand} {cs : List Value} [AggT P T] [Info P T s y z] (hx : ev e x = some (.pointer (some ⟨b, 0, none⟩))) (hB : Blk w b cs T') (hs : lenIs cs s = true) (hd : Nat.blt d n = true)
    (h : VQ P n ops w rest ((d, .agg cs.toArray) :: e) Q) : VQ P n ops w (⟨some d, .load T x, ty, pos, after, none⟩ :: rest) e Q := vq_val _ (fun _ hw => runs_loadA hx (lenIs_eq hs) (hB.ext hw).at) hd h
theorem vo_loadAt {T s y b o : Nat} {z : Value} {x : Operand} {cs : List Value} [AggT P T] [Info P T s y z] (hx : ev e x = some (.pointer (some ⟨b, o, none⟩))) (hA : At w b o cs) (hs : lenIs cs s = true) (hd : Nat.blt d n = true)
    (h : VO P n ops rest ((d, .agg cs.toArray) :: e) w Q) : VO P n ops (⟨some d, .load T x, ty, pos, after, none⟩ :: rest) e w Q := vo_val _ (runs_loadA hx (lenIs_eq hs) hA) hd h
theorem vq_loadAt {T s y b o : Nat} {z : Value} {x : Operand} {cs : List Value} [AggT P T] [Info P T s y z] (hx : ev e x = some (.pointer (some ⟨b, o, none⟩))) (hA : At w b o cs) (hs : lenIs cs s = true) (hd : Nat.blt d n = true)
    (h : VQ P n ops w rest ((d, .agg cs.toArray) :: e) Q) : VQ P n ops w (⟨some d, .load T x, ty, pos, after, none⟩ :: rest) e Q := vq_val _ (fun _ hw => runs_loadA hx (lenIs_eq hs) (hA.ext hw)) hd h

/-! ### A slice literal -/
def places1 (s : Nat) : Nat → Nat → List (Nat × Nat)
  | 0, _ => []
  | k + 1, i => (i * s, s) :: places1 s k (i + 1)
theorem places1_get (s : Nat) : ∀ (k i j : Nat), j < k → (places1 s k i)[j]? = some ((i + j) * s, s)
  | 0, _, _, h => by omega
  | k + 1, i, 0, _ => by simp [places1]
  | k + 1, i, j + 1, h => by
    rw [places1, List.getElem?_cons_succ, places1_get s k (i + 1) j (by omega)]
    congr 2; rw [show i + 1 + j = i + (j + 1) by omega]
theorem fill_mono (f g : Nat → Option (Nat × Nat)) : ∀ (parts : List (Nat × Value)) (cs ds : Array Value), (∀ i p, f i = some p → g i = some p) → Instr.fill f cs parts = some ds → Instr.fill g cs parts = some ds
  | [], _, _, _, h => h
  | (i, v) :: r, cs, ds, hfg, h => by
    unfold Instr.fill at h ⊢
    cases hf : f i with
    | none => rw [hf] at h; cases h
    | some p =>
      rw [hf] at h
      rw [hfg i p hf]
      obtain ⟨off, size⟩ := p
      simp only at h ⊢
      split at h
      · cases h
      · rename_i hc; rw [if_neg hc]; exact fill_mono f g r _ _ hfg h
def reps : Nat → List Value → List Value
  | 0, _ => []
  | k + 1, z => z ++ reps k z
theorem reps_one (z : Value) : ∀ k, reps k [z] = List.replicate k z
  | 0 => rfl
  | k + 1 => by rw [reps, reps_one z k]; rfl
theorem zeros_one (z : Value) (k : Nat) : (Array.range k).map (fun i => #[z][i % #[z].size]!) = (reps k [z]).toArray := by
  rw [reps_one]
  apply Array.ext'
  simp only [Array.toList_map, Array.toList_range]
  apply List.ext_getElem?
  intro j
  by_cases hj : j < k
  · simp [hj, Nat.mod_one]
  · simp [hj]
/-- A slice literal of elements of one cell. -/
theorem vo_buildSlice {T E y len : Nat} {z : Value} {parts : List (Nat × Operand)} {vs : List (Nat × Value)} {cs : List Value} [hT : SliceOf P T E] [i : Info P E 1 y z] (hz : z.cells = #[z]) (hx : evp e parts = some vs) (hl : Nat.ble len 16777216 = true)
    (hf : fillL (places1 1 len 0) (reps len [z]) vs = some cs) (hd : Nat.blt d n = true)
    (k : ∀ b w', NewB w b w' → Blk w' b cs E → VO P n ops rest ((d, .slice (some ⟨b, 0, none⟩) len len) :: e) w' Q) :
    VO P n ops (⟨some d, .buildSlice T len parts.toArray, ty, pos, after, none⟩ :: rest) e w Q := by
  obtain ⟨inf, hinfo, h2, h3, h4⟩ := i.get
  refine vo_val (.slice (some ⟨w.heap.size, 0, none⟩) len len) (w' := w.alloc (.cells cs.toArray E)) ?_ hd (k _ _ (newB_alloc _ _) (by simpa using blk_alloc w cs.toArray E))
  intro a dst pos after g ha
  have hle := Nat.le_of_ble_eq_true hl
  have e1 : parts.toArray.map (fun (i, x) => (i, a.eval x)) = vs.toArray := by rw [← Agree.evp ha hx]; simp
  have hfill := fill_eq (places1 1 len 0) vs (reps len [z]) cs hf
  have hfill' := fill_mono (fun i : Nat => (places1 1 len 0)[i]?) (fun i : Nat => some (i * 1, 1)) vs _ _ (fun i p hp => by
    by_cases hi : i < len
    · rw [places1_get 1 len 0 i hi] at hp; simpa using hp
    · rw [List.getElem?_eq_none (by
        have : ∀ k j, (places1 1 k j).length = k := fun k => by induction k with
          | zero => intro j; rfl
          | succ k ih => intro j; simp [places1, ih]
        rw [this]; omega)] at hp
      cases hp) hfill
  have hnot : ¬ len > 2 ^ 24 := by omega
  have hfill2 : Instr.fill (fun i => some (i, 1)) (reps len [z]).toArray vs = some cs.toArray := by simpa using hfill'
  have hnew : ∀ w : World, (newRow E cs.toArray).run P w = .ok ⟨w.heap.size, 0, none⟩ (w.alloc (.cells cs.toArray E)) := fun _ => rfl
  simp only [execOp, e1]
  simp only [Instr.buildSlice, Sem.run_bind, run_underlying hT.h, Result.andThen, run_sizeOf' w hinfo, h2, Nat.mul_one, hnot, if_false]
  by_cases h0 : len = 0
  · subst h0
    have e2 : Array.map (fun x => (#[] : Array Value)[x % (#[] : Array Value).size]!) (Array.range 0) = (reps 0 [z]).toArray := by simp [reps]
    simp only [if_true, Sem.run_bind, Sem.run_pure, Result.andThen, e2, hfill2, hnew]
  · simp only [h0, if_false, Sem.run_bind, Sem.run_pure, Result.andThen, run_zeroValue' w hinfo h4, hz, zeros_one z len, hfill2, hnew]

/-! ### A byte of a string -/
def byteAt (s : ByteArray) (k : Nat) : Int := ((s.data.toList.getD k 0).toNat : Int)
theorem byteAt_lo (s : ByteArray) (k : Nat) : 0 ≤ byteAt s k := by unfold byteAt; omega
theorem byteAt_hi (s : ByteArray) (k : Nat) : byteAt s k ≤ 255 := by unfold byteAt; have := (s.data.toList.getD k 0).toNat_lt; omega
theorem runs_index {T : TypeId} {x ix : Operand} {s : ByteArray} {k : Nat} {kk : IntKind} [h : StringT P T] (hx : ev e x = some (.string s)) (hi : ev e ix = some (.int kk (k : Int))) (hk : k < s.size) :
    RunsOp P n e (.index T x ix) ty w (.int .u8 (byteAt s k)) w := by
  intro a dst pos after g ha
  have h0 : 0 ≤ (k : Int) := by omega
  have hb : s[k]? = some s[k] := by simp [hk]
  simp only [execOp, ha.ev hx, ha.ev hi]
  simp only [Instr.index, asIntOf, Sem.run_bind, Sem.run_pure, Result.andThen, run_underlying h.h, h0, if_true, Int.toNat_natCast, hb]
  congr 3
  have hk' : k < s.data.toList.length := by simpa using hk
  have : s[k] = s.data.toList[k] := rfl
  rw [this]
  unfold byteAt
  rw [List.getD_eq_getElem?_getD, List.getElem?_eq_getElem hk']; rfl
theorem runs_index0 {T : TypeId} {x : Operand} {s : ByteArray} {kk : IntKind} [h : StringT P T] (hx : ev e x = some (.string s)) (hk : 0 < s.size) :
    RunsOp P n e (.index T x (.const (.int kk 0))) ty w (.int .u8 (byteAt s 0)) w := runs_index (k := 0) hx rfl hk

/-! ### Results in variables -/
theorem run_asAddr (w : World) (ad : Addr) : (asAddr (.pointer (some ad))).run P w = .ok ad w := rfl
theorem fin_retC {fn : Func} {R : Ending → World → Prop} {t T T' s y b : Nat} {z : Value} {cs : List Value} [AggT P T] [Info P T s y z] (hr : fn.results = #[.cell t T]) (hl : lk e t = some (.pointer (some ⟨b, 0, none⟩))) (hB : Blk w b cs T') (hs : lenIs cs s = true)
    (h : R (.returned (.agg cs.toArray)) w) : FinS n .ret e w (bodyPost P fn R) := by
  intro a ha
  refine ⟨ha.1, .agg cs.toArray, ?_, h⟩
  have h1 := loadVar_agg (P := P) (T := T) (lenIs_eq hs) hB.at
  have g0 := ha.2.2 _ _ hl
  simp only [Array.getD_eq_getD_getElem?] at g0
  simp [results, hr, g0, run_asAddr, h1, Result.andThen]
theorem fin_retC1 {fn : Func} {R : Ending → World → Prop} {t t1 T T' s y b : Nat} {z v1 : Value} {cs : List Value} [AggT P T] [Info P T s y z] (hr : fn.results = #[.cell t T, .tmp t1]) (hl : lk e t = some (.pointer (some ⟨b, 0, none⟩))) (hB : Blk w b cs T') (hs : lenIs cs s = true)
    (hl1 : lk e t1 = some v1) (h : R (.returned (.tuple #[.agg cs.toArray, v1])) w) : FinS n .ret e w (bodyPost P fn R) := by
  intro a ha
  refine ⟨ha.1, .tuple #[.agg cs.toArray, v1], ?_, h⟩
  have h1 := loadVar_agg (P := P) (T := T) (lenIs_eq hs) hB.at
  have g0 := ha.2.2 _ _ hl
  have g1 := ha.2.2 _ _ hl1
  simp only [Array.getD_eq_getD_getElem?] at g0 g1
  simp [results, hr, g0, g1, run_asAddr, h1, Result.andThen]
end
end Go.Proofs.Sv
