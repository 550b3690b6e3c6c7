/- Steps on strings that are known as rows of bytes; the table of powers of ten. -/
import Derived.Test.YtahnpokehdlajaaDoorM2
import Derived.Test.YtahnpokehdlajaaDoorShelf2
import Derived.Test.YtahnpokehdlajaaDoorW1
import Derived.Lib.AppendIntMem
namespace Go.Proofs.Sv
open Go Go.RowKit
theorem Rep.rep.up {α : Type} [Rep α] {lo hi : Nat} {w w' : World} {cs : List Value} {x : α} (h : Rep.rep lo hi w cs x) (k : Ext w w') : Rep.rep lo hi w' cs x := Rep.up h k
theorem Rep.rep.wr {α : Type} [Rep α] {lo hi b : Nat} {w w' : World} {cs : List Value} {x : α} (h : Rep.rep lo hi w cs x) (k : Wr b w w') (hb : b < lo ∨ hi ≤ b) : Rep.rep lo hi w' cs x := Rep.wr h k hb
theorem Rep.rep.wide {α : Type} [Rep α] {lo hi lo' hi' : Nat} {w : World} {cs : List Value} {x : α} (h : Rep.rep lo hi w cs x) (h1 : lo' ≤ lo) (h2 : hi ≤ hi') : Rep.rep lo' hi' w cs x := Rep.wide h h1 h2
section
variable {P : Program} {n : Nat} {e : Env} {w : World}
  {d : Nat} {ty : TypeId}
theorem runs_neg' {T : TypeId} {x : Operand} {a b : Int} (hx : ev e x = some (.int .i64 a)) (hb : -a = b) (hr : -9223372036854775808 ≤ b ∧ b ≤ 9223372036854775807) :
    RunsOp P n e (.unOp .neg T x) ty w (.int .i64 b) w := by
  subst hb; exact runs_neg hx hr
theorem runs_catL {T T' : TypeId} {x y : Operand} {s t : List UInt8} (hx : ev e x = some (.string ⟨s.toArray⟩)) (hy : ev e y = some (.string ⟨t.toArray⟩)) (hr : s.length + t.length ≤ 9223372036854775807) :
    RunsOp P n e (.binOp .add T x y T') ty w (.string ⟨(s ++ t).toArray⟩) w := by
  rw [← ba_app]
  exact runs_cat hx hy (by rw [ba_size, ba_size]; exact hr)
theorem decDigits_len {m : Nat} (h : (m : Int) ≤ 9223372036854775807) : (Lib.decDigits m).length ≤ 21 := by
  rw [← itoa_nat]; exact itoa_len ⟨by omega, h⟩
end
end Go.Proofs.Sv
namespace Go.Proofs.YtahnpokehdlajaaDoor
open Go Go.Proofs Go.Proofs.Sv
def Tab (w : World) : Prop := Lib.TabIs Tryd.prog w "internal/strconv.uint64pow10" .u64 Lib.pow10Tab
theorem Tab.up {w w' : World} (h : Tab w) (k : Ext w w') : Tab w' := Lib.tabBelow_of_tabIs h w' k
end Go.Proofs.YtahnpokehdlajaaDoor
