/- How Go's data lie in memory: a class of readings, closed under whatever leaves their blocks alone; slices of such data; steps that read a slice. Over any program. -/
import Derived.Test.YtahnpokehdlajaaDoorBase4
namespace Go.Proofs.Sv
open Go Go.RowKit

/-- The cells cs read as the datum x; every block that the reading meets lies from lo on and below hi. -/
class Rep (α : Type) where
  sz : Nat
  pos : 0 < sz
  rep : Nat → Nat → World → List Value → α → Prop
  len : ∀ {lo hi w cs x}, rep lo hi w cs x → cs.length = sz
  same : ∀ {lo hi w w' cs x}, rep lo hi w cs x → (∀ k, lo ≤ k → k < hi → k < w.heap.size → w'.heap[k]? = w.heap[k]?) → rep lo hi w' cs x
  wide : ∀ {lo hi lo' hi' w cs x}, rep lo hi w cs x → lo' ≤ lo → hi ≤ hi' → rep lo' hi' w cs x

def InI (x : Int) : Prop := -9223372036854775808 ≤ x ∧ x ≤ 9223372036854775807

instance : Rep Int where
  sz := 1
  pos := Nat.one_pos
  rep _ _ _ cs x := cs = [.int .i64 x] ∧ InI x
  len h := by rw [h.1]; rfl
  same h _ := h
  wide h _ _ := h
instance : Rep Bool where
  sz := 1
  pos := Nat.one_pos
  rep _ _ _ cs x := cs = [.bool x]
  len h := by rw [h]; rfl
  same h _ := h
  wide h _ _ := h
instance : Rep ByteArray where
  sz := 1
  pos := Nat.one_pos
  rep _ _ _ cs x := cs = [.string x] ∧ x.size ≤ 9223372036854775807
  len h := by rw [h.1]; rfl
  same h _ := h
  wide h _ _ := h

section
variable {α : Type} [Rep α]

/-- The cells cs, cut into pieces, read as the data of the list. -/
def All (lo hi : Nat) (w : World) : List Value → List α → Prop
  | cs, [] => cs = []
  | cs, x :: r => ∃ c d, cs = c ++ d ∧ Rep.rep lo hi w c x ∧ All lo hi w d r

theorem All.len {lo hi : Nat} {w : World} : ∀ {cs : List Value} {xs : List α}, All lo hi w cs xs → cs.length = xs.length * Rep.sz α
  | cs, [], h => by rw [show cs = [] from h]; simp
  | cs, x :: r, h => by
    obtain ⟨c, d, rfl, h1, h2⟩ := h
    rw [List.length_append, Rep.len h1, All.len h2, List.length_cons, Nat.add_mul]; omega
theorem All.same {lo hi : Nat} {w w' : World} (k : ∀ k, lo ≤ k → k < hi → k < w.heap.size → w'.heap[k]? = w.heap[k]?) : ∀ {cs : List Value} {xs : List α}, All lo hi w cs xs → All lo hi w' cs xs
  | _, [], h => h
  | _, _ :: _, h => by
    obtain ⟨c, d, rfl, h1, h2⟩ := h
    exact ⟨c, d, rfl, Rep.same h1 k, All.same k h2⟩
theorem All.wide {lo hi lo' hi' : Nat} {w : World} (hl : lo' ≤ lo) (hh : hi ≤ hi') : ∀ {cs : List Value} {xs : List α}, All lo hi w cs xs → All lo' hi' w cs xs
  | _, [], h => h
  | _, _ :: _, h => by
    obtain ⟨c, d, rfl, h1, h2⟩ := h
    exact ⟨c, d, rfl, Rep.wide h1 hl hh, All.wide hl hh h2⟩
theorem All.app {lo hi : Nat} {w : World} {ds : List Value} {ys : List α} (k : All lo hi w ds ys) : ∀ {cs : List Value} {xs : List α}, All lo hi w cs xs → All lo hi w (cs ++ ds) (xs ++ ys)
  | cs, [], h => by rw [show cs = [] from h]; exact k
  | _, _ :: _, h => by
    obtain ⟨c, d, rfl, h1, h2⟩ := h
    exact ⟨c, d ++ ds, by simp, h1, All.app k h2⟩
theorem All.one {lo hi : Nat} {w : World} {c : List Value} {x : α} (h : Rep.rep lo hi w c x) : All lo hi w c [x] := ⟨c, [], by simp, h, rfl⟩
/-- The i-th piece. -/
theorem All.get {lo hi : Nat} {w : World} : ∀ {cs : List Value} {xs : List α} {i : Nat} (_ : All lo hi w cs xs) (hi' : i < xs.length),
    ∃ pre c post, cs = pre ++ c ++ post ∧ pre.length = i * Rep.sz α ∧ Rep.rep lo hi w c xs[i]
  | _, x :: r, 0, h, _ => by
    obtain ⟨c, d, rfl, h1, h2⟩ := h
    exact ⟨[], c, d, by simp, by simp, h1⟩
  | _, x :: r, i + 1, h, hi' => by
    obtain ⟨c, d, rfl, h1, h2⟩ := h
    obtain ⟨pre, c', post, rfl, h3, h4⟩ := All.get h2 (i := i) (by simpa using hi')
    refine ⟨c ++ pre, c', post, by simp, ?_, h4⟩
    rw [List.length_append, Rep.len h1, h3, Nat.add_mul]; omega

/-- A slice value that reads as the list. -/
def SlR (lo hi : Nat) (w : World) (v : Value) (xs : List α) : Prop :=
  ∃ p cap, v = .slice p xs.length cap ∧ xs.length ≤ cap ∧ cap ≤ 9223372036854775807 ∧
    (xs = [] ∨ ∃ b o cs, p = some ⟨b, o, none⟩ ∧ lo ≤ b ∧ b < hi ∧ At w b o cs ∧ All lo hi w cs xs)
theorem SlR.same {lo hi : Nat} {w w' : World} {v : Value} {xs : List α} (h : SlR lo hi w v xs) (k : ∀ k, lo ≤ k → k < hi → k < w.heap.size → w'.heap[k]? = w.heap[k]?) : SlR lo hi w' v xs := by
  obtain ⟨p, cap, h1, h2, h3, h4⟩ := h
  refine ⟨p, cap, h1, h2, h3, ?_⟩
  rcases h4 with h4 | ⟨b, o, cs, hp, hlo, hhi, hat, hall⟩
  · exact .inl h4
  · exact .inr ⟨b, o, cs, hp, hlo, hhi, hat.same (k b hlo hhi), hall.same k⟩
theorem SlR.wide {lo hi lo' hi' : Nat} {w : World} {v : Value} {xs : List α} (h : SlR lo hi w v xs) (hl : lo' ≤ lo) (hh : hi ≤ hi') : SlR lo' hi' w v xs := by
  obtain ⟨p, cap, h1, h2, h3, h4⟩ := h
  refine ⟨p, cap, h1, h2, h3, ?_⟩
  rcases h4 with h4 | ⟨b, o, cs, hp, hlo, hhi, hat, hall⟩
  · exact .inl h4
  · exact .inr ⟨b, o, cs, hp, by omega, by omega, hat, hall.wide hl hh⟩
instance : Rep (List α) where
  sz := 1
  pos := Nat.one_pos
  rep lo hi w cs xs := ∃ v, cs = [v] ∧ SlR lo hi w v xs
  len := by rintro lo hi w cs x ⟨v, rfl, _⟩; rfl
  same := by rintro lo hi w w' cs x ⟨v, rfl, h⟩ k; exact ⟨v, rfl, h.same k⟩
  wide := by rintro lo hi lo' hi' w cs x ⟨v, rfl, h⟩ h1 h2; exact ⟨v, rfl, h.wide h1 h2⟩

/-! ### What a step of the world does to a reading -/
theorem Rep.up {lo hi : Nat} {w w' : World} {cs : List Value} {x : α} (h : Rep.rep lo hi w cs x) (k : Ext w w') : Rep.rep lo hi w' cs x := Rep.same h (fun i _ _ h3 => k.block i h3)
theorem Rep.wr {lo hi b : Nat} {w w' : World} {cs : List Value} {x : α} (h : Rep.rep lo hi w cs x) (k : Wr b w w') (hb : b < lo ∨ hi ≤ b) : Rep.rep lo hi w' cs x := Rep.same h (fun i h1 h2 _ => k.block i (by omega))
theorem Rep.below {lo hi B : Nat} {w w' : World} {cs : List Value} {x : α} (h : Rep.rep lo hi w cs x) (k : Below B w w') (hB : hi ≤ B) : Rep.rep lo hi w' cs x := Rep.same h (fun i _ h2 _ => k.block i (by omega))
theorem SlR.up {lo hi : Nat} {w w' : World} {v : Value} {xs : List α} (h : SlR lo hi w v xs) (k : Ext w w') : SlR lo hi w' v xs := h.same (fun i _ _ h3 => k.block i h3)
theorem SlR.wr {lo hi b : Nat} {w w' : World} {v : Value} {xs : List α} (h : SlR lo hi w v xs) (k : Wr b w w') (hb : b < lo ∨ hi ≤ b) : SlR lo hi w' v xs := h.same (fun i h1 h2 _ => k.block i (by omega))
theorem SlR.below {lo hi B : Nat} {w w' : World} {v : Value} {xs : List α} (h : SlR lo hi w v xs) (k : Below B w w') (hB : hi ≤ B) : SlR lo hi w' v xs := h.same (fun i _ h2 _ => k.block i (by omega))
theorem SlR.len {lo hi : Nat} {w : World} {v : Value} {xs : List α} (h : SlR lo hi w v xs) : ∃ p cap, v = .slice p xs.length cap := by obtain ⟨p, cap, h1, _⟩ := h; exact ⟨p, cap, h1⟩
theorem SlR.le {lo hi : Nat} {w : World} {v : Value} {xs : List α} (h : SlR lo hi w v xs) : xs.length ≤ 9223372036854775807 := by obtain ⟨p, cap, h1, h2, h3, _⟩ := h; omega
theorem SlR.nil {lo hi : Nat} {w : World} : SlR lo hi w (.slice none 0 0) ([] : List α) := ⟨none, 0, rfl, Nat.le_refl _, by omega, .inl rfl⟩
/-- The i-th element's cells. -/
theorem SlR.get {lo hi : Nat} {w : World} {p : Option Addr} {len cap : Nat} {xs : List α} (h : SlR lo hi w (.slice p len cap) xs) {i : Nat} (hi' : i < xs.length) :
    len = xs.length ∧ ∃ b o c, p = some ⟨b, o, none⟩ ∧ lo ≤ b ∧ b < hi ∧ At w b (o + i * Rep.sz α) c ∧ Rep.rep lo hi w c xs[i] := by
  obtain ⟨p', cap', h1, h2, h3, h4⟩ := h
  simp only [Value.slice.injEq] at h1
  obtain ⟨rfl, rfl, rfl⟩ := h1
  refine ⟨rfl, ?_⟩
  rcases h4 with h4 | ⟨b, o, cs, hp, hlo, hhi, hat, hall⟩
  · subst h4; simp at hi'
  · obtain ⟨pre, c, post, rfl, h5, h6⟩ := hall.get hi'
    refine ⟨b, o, c, hp, hlo, hhi, ?_, h6⟩
    rw [← h5]; exact hat.mid
end

theorem all_ints (lo hi : Nat) (w : World) : ∀ xs : List Int, (∀ x ∈ xs, InI x) → All lo hi w (xs.map (Value.int .i64)) xs
  | [], _ => rfl
  | x :: r, h => ⟨[.int .i64 x], r.map (Value.int .i64), rfl, ⟨rfl, h x (by simp)⟩, all_ints lo hi w r (fun y hy => h y (by simp [hy]))⟩
theorem slI_of_blk {w : World} {b : Nat} {xs : List Int} {E : TypeId} (h : Blk w b (xs.map (Value.int .i64)) E) (hx : ∀ x ∈ xs, InI x) (hl : xs.length ≤ 9223372036854775807) : SlR b (b + 1) w (.slice (some ⟨b, 0, none⟩) xs.length xs.length) xs :=
  ⟨_, _, rfl, Nat.le_refl _, hl, .inr ⟨b, 0, _, rfl, Nat.le_refl _, by omega, h.at, all_ints _ _ _ xs hx⟩⟩

section
variable {P : Program} {n : Nat} {e : Env} {w : World} {Q : Exit → Act → World → Prop} {ops : Array Oper} {rest : List Oper}
  {d : Nat} {ty : TypeId} {pos : String} {after : Array Edge}

theorem runs_idx {T E s y : Nat} {z : Value} {x ix : Operand} {b o len cap k : Nat} {kk : IntKind} [h : SliceOf P T E] [i : Info P E s y z] (hx : ev e x = some (.slice (some ⟨b, o, none⟩) len cap)) (hi : ev e ix = some (.int kk (k : Int))) (hk : k < len) :
    RunsOp P n e (.indexAddr T x ix) ty w (.pointer (some ⟨b, o + k * s, none⟩)) w := by
  intro a dst pos after g ha
  obtain ⟨inf, hinfo, h1, h2, h3⟩ := i.get
  have hadd : (Addr.mk b o none).add (k * s) = ⟨b, o + k * s, none⟩ := by
    unfold Addr.add
    split
    · rename_i h0; rw [h0]; rfl
    · rfl
  have hin : 0 ≤ (k : Int) ∧ (k : Int) < (len : Int) := ⟨by omega, by omega⟩
  simp only [execOp, ha.ev hx, ha.ev hi]
  simp only [Instr.indexAt, asIntOf, Sem.run_bind, run_underlying h.h, Result.andThen, Sem.run_pure, hin, and_self, if_true, run_sizeOf' w hinfo, h1, Int.toNat_natCast, hadd]

variable {α : Type} [Rep α]
/-- xs[k]: its place, and what lies there. -/
theorem vo_idx {T E s y : Nat} {z : Value} {x ix : Operand} {v : Value} {xs : List α} {lo hi k : Nat} {kk : IntKind} [SliceOf P T E] [Info P E s y z] (hx : ev e x = some v) (hi' : ev e ix = some (.int kk (k : Int))) (hs : SlR lo hi w v xs)
    (hsz : s = Rep.sz α) (hd : Nat.blt d n = true) (hk : k < xs.length) (h : ∀ b o c, At w b o c → Rep.rep lo hi w c xs[k] → VO P n ops rest ((d, .pointer (some ⟨b, o, none⟩)) :: e) w Q) :
    VO P n ops (⟨some d, .indexAddr T x ix, ty, pos, after, none⟩ :: rest) e w Q := by
  obtain ⟨p, cap, rfl⟩ := hs.len
  obtain ⟨_, b, o, c, rfl, _, _, hat, hr⟩ := hs.get hk
  rw [← hsz] at hat
  exact vo_val _ (runs_idx hx hi' hk) hd (h _ _ c hat hr)
theorem vo_idxI {T E y : Nat} {z : Value} {x ix : Operand} {v : Value} {xs : List Int} {lo hi k : Nat} {kk : IntKind} [SliceOf P T E] [Info P E 1 y z] (hx : ev e x = some v) (hi' : ev e ix = some (.int kk (k : Int))) (hs : SlR lo hi w v xs)
    (hd : Nat.blt d n = true) (hk : k < xs.length) (h : ∀ ad, w.cell? ad = some (.int .i64 xs[k]) → InI xs[k] → VO P n ops rest ((d, .pointer (some ad)) :: e) w Q) :
    VO P n ops (⟨some d, .indexAddr T x ix, ty, pos, after, none⟩ :: rest) e w Q :=
  vo_idx hx hi' hs rfl hd hk fun b o c hat hr => h ⟨b, o, none⟩ (hat 0 _ (by rw [hr.1]; rfl)) hr.2
theorem vo_idxS {T E y : Nat} {z : Value} {x ix : Operand} {v : Value} {xs : List ByteArray} {lo hi k : Nat} {kk : IntKind} [SliceOf P T E] [Info P E 1 y z] (hx : ev e x = some v) (hi' : ev e ix = some (.int kk (k : Int))) (hs : SlR lo hi w v xs)
    (hd : Nat.blt d n = true) (hk : k < xs.length) (h : ∀ ad, w.cell? ad = some (.string xs[k]) → VO P n ops rest ((d, .pointer (some ad)) :: e) w Q) :
    VO P n ops (⟨some d, .indexAddr T x ix, ty, pos, after, none⟩ :: rest) e w Q :=
  vo_idx hx hi' hs rfl hd hk fun b o c hat hr => h ⟨b, o, none⟩ (hat 0 _ (by rw [hr.1]; rfl))

/-- The same inside a region whose order the tape picks. -/
theorem vq_idx {T E s y : Nat} {z : Value} {x ix : Operand} {v : Value} {xs : List α} {lo hi k : Nat} {kk : IntKind} [SliceOf P T E] [Info P E s y z] (hx : ev e x = some v) (hi' : ev e ix = some (.int kk (k : Int))) (hs : SlR lo hi w v xs)
    (hsz : s = Rep.sz α) (hd : Nat.blt d n = true) (hk : k < xs.length) (h : ∀ b o c, At w b o c → Rep.rep lo hi w c xs[k] → VQ P n ops w rest ((d, .pointer (some ⟨b, o, none⟩)) :: e) Q) :
    VQ P n ops w (⟨some d, .indexAddr T x ix, ty, pos, after, none⟩ :: rest) e Q := by
  obtain ⟨p, cap, rfl⟩ := hs.len
  obtain ⟨_, b, o, c, rfl, _, _, hat, hr⟩ := hs.get hk
  rw [← hsz] at hat
  exact vq_val _ (fun _ _ => runs_idx hx hi' hk) hd (h _ _ c hat hr)
theorem vq_idxI {T E y : Nat} {z : Value} {x ix : Operand} {v : Value} {xs : List Int} {lo hi k : Nat} {kk : IntKind} [SliceOf P T E] [Info P E 1 y z] (hx : ev e x = some v) (hi' : ev e ix = some (.int kk (k : Int))) (hs : SlR lo hi w v xs)
    (hd : Nat.blt d n = true) (hk : k < xs.length) (h : ∀ b o, At w b o [.int .i64 xs[k]] → InI xs[k] → VQ P n ops w rest ((d, .pointer (some ⟨b, o, none⟩)) :: e) Q) :
    VQ P n ops w (⟨some d, .indexAddr T x ix, ty, pos, after, none⟩ :: rest) e Q :=
  vq_idx hx hi' hs rfl hd hk fun b o c hat hr => by have h1 := hr.1; subst h1; exact h b o hat hr.2
theorem vq_load {T : TypeId} {x : Operand} {b o : Nat} {v : Value} {cs : List Value} [NotAgg P T] (hx : ev e x = some (.pointer (some ⟨b, o, none⟩))) (hc : At w b o cs) (hv : cs[0]? = some v) (hd : Nat.blt d n = true)
    (h : VQ P n ops w rest ((d, v) :: e) Q) : VQ P n ops w (⟨some d, .load T x, ty, pos, after, none⟩ :: rest) e Q :=
  vq_val _ (fun _ hw => runs_load hx ((hc.ext hw) 0 v hv)) hd h
/-- A field of a block that is known whole. -/
theorem vo_loadB {T T' : TypeId} {x : Operand} {b i : Nat} {v : Value} {cs : List Value} [NotAgg P T] (hx : ev e x = some (.pointer (some ⟨b, i, none⟩))) (hB : Blk w b cs T') (hv : cs[i]? = some v) (hd : Nat.blt d n = true)
    (h : VO P n ops rest ((d, v) :: e) w Q) : VO P n ops (⟨some d, .load T x, ty, pos, after, none⟩ :: rest) e w Q :=
  vo_val _ (runs_load hx (by have := hB.at i v hv; simpa using this)) hd h
theorem vq_loadB {T T' : TypeId} {x : Operand} {b i : Nat} {v : Value} {cs : List Value} [NotAgg P T] (hx : ev e x = some (.pointer (some ⟨b, i, none⟩))) (hB : Blk w b cs T') (hv : cs[i]? = some v) (hd : Nat.blt d n = true)
    (h : VQ P n ops w rest ((d, v) :: e) Q) : VQ P n ops w (⟨some d, .load T x, ty, pos, after, none⟩ :: rest) e Q :=
  vq_val _ (fun w' hw' => runs_load hx (by have := (hB.ext hw').at i v hv; simpa using this)) hd h
theorem vo_load {T : TypeId} {x : Operand} {ad : Addr} {v : Value} [NotAgg P T] (hx : ev e x = some (.pointer (some ad))) (hc : w.cell? ad = some v) (hd : Nat.blt d n = true)
    (h : VO P n ops rest ((d, v) :: e) w Q) : VO P n ops (⟨some d, .load T x, ty, pos, after, none⟩ :: rest) e w Q := vo_val _ (runs_load hx hc) hd h
theorem vo_fieldAddr {T : TypeId} {x : Operand} {b o f off : Nat} [FieldAt P T f off] (hx : ev e x = some (.pointer (some ⟨b, o, none⟩))) (hd : Nat.blt d n = true)
    (h : VO P n ops rest ((d, .pointer (some ⟨b, o + off, none⟩)) :: e) w Q) : VO P n ops (⟨some d, .fieldAddr T x f, ty, pos, after, none⟩ :: rest) e w Q := vo_val _ (runs_fieldAddr hx) hd h
theorem vq_fieldAddr {T : TypeId} {x : Operand} {b o f off : Nat} [FieldAt P T f off] (hx : ev e x = some (.pointer (some ⟨b, o, none⟩))) (hd : Nat.blt d n = true)
    (h : VQ P n ops w rest ((d, .pointer (some ⟨b, o + off, none⟩)) :: e) Q) : VQ P n ops w (⟨some d, .fieldAddr T x f, ty, pos, after, none⟩ :: rest) e Q := vq_val _ (fun _ _ => runs_fieldAddr hx) hd h
end
end Go.Proofs.Sv
