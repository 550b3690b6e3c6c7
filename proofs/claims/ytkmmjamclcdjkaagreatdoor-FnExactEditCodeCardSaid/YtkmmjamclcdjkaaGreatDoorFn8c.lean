/- Functions of this program as plain functions of data, and that they are so: printed by program. -/
import Derived.Test.YtkmmjamclcdjkaaGreatDoorFn8b
import Derived.Test.YtkmmjamclcdjkaaGreatDoorXE
import Derived.Test.YtkmmjamclcdjkaaGreatDoorTY
import Derived.Test.YtkmmjamclcdjkaaGreatDoorLB
namespace Go.Proofs.YtkmmjamclcdjkaaGreatDoor
open Go Go.Proofs Go.Proofs.Sv Go.Proofs.Xv Go.Proofs.Xl Go.RowKit
def u55J0 : Int → Option (Int)
 | v4 =>
 some v4
def u55L1 (a0 : List Y142) (g1 : Int × Int → Option (Int)) : Int × Int → Option (Int)
 | (v1, v2) =>
 if (decide (v2 < (↑a0.length : Int))) = true then
  gd (ix v2 a0.length ∧ (u96 (a0.getD v2.toNat (dflt y142)) v1).isSome = true ∧ True) <| lt (vl (u96 (a0.getD v2.toNat (dflt y142)) v1)) fun v3 =>
  if (decide (v3 < 0)) = true then
   some (-1)
  else
   gd (in64 (v2 + 1) ∧ True) <| 
   g1 (v3, v2 + 1)
 else
  u55J0 v1
def u55 (a0 : List Y142) (a1 : Int) : Option (Int) :=
 gd (in64 (a1 - (↑a0.length : Int)) ∧ True) <| 
 if (decide (a1 - (↑a0.length : Int) < 0)) = true then
  some (-1)
 else
  lp (u55L1 a0) ((a1 - (↑a0.length : Int), 0))
def k55 : Ct := lct 55 [.dat y142.sl, .dat i64] (fun x => u55 x.1 x.2.1) (fun r : Int => I r) (fun _ => ())
theorem o55 : Ok Tryz.prog k55 := by
 refine okl tok [.tmp 4] Tryz.func55 Tryz.ntmps55 rfl Tryz.results55 (by kernel_rfl) rfl ?_
 intro y ⟨a0, a1, _⟩ r H Q hn hr
 have hT := tc o96 tn
 refine qa tok hT [0, 1] (St.mk [p 0 (L y142 a0), p 1 (J a1)] []) (by kernel_rfl) ?_
 refine qb tok hT [0, 1] (St.mk [p 0 (L y142 a0), p 1 (I (a1 - (↑a0.length : Int)))] []) H (by kernel_rfl) fun H => ?_
 refine vx_seq <| ?_
 refine qa tok hT [0, 1, 11] (St.mk [p 0 (L y142 a0), p 1 (I (a1 - (↑a0.length : Int))), p 11 (B (decide (a1 - (↑a0.length : Int) < 0)))] []) (by kernel_rfl) ?_
 refine cd H (by kernel_rfl) (fun H => ?_) (fun H => ?_)
 ·refine qa tok hT [4] (St.mk [p 4 (I (-1))] []) (by kernel_rfl) ?_
  exact vx_ret <| fx_seq_ret <| hr H (by kernel_rfl)
 refine vx_skip <| fx_seq <| ?_
 refine jn r (fun (v4 : Int) => St.mk [p 1 (I v4)] []) (u55J0) (fun v4 H => ?_) (fun _ n0 e0 t0 => ?_)
 ·refine qa tok hT [4] (St.mk [p 4 (I v4)] []) (by kernel_rfl) ?_
  exact vx_ret <| hr H (by kernel_rfl)
 refine qa tok hT [0, 1, 5] (St.mk [p 0 (L y142 a0), p 1 (I (a1 - (↑a0.length : Int))), p 5 (I 0)] []) (by kernel_rfl) ?_
 refine vx_block <| ?_
 refine lx (fun ((v1, v2) : Int × Int) => St.mk [p 0 (L y142 a0), p 1 (I v1), p 5 (I v2)] []) ((a1 - (↑a0.length : Int), 0)) H (by kernel_rfl) fun _ g1 b1 e1 t1 ⟨v1, v2⟩ H => ?_
 refine vx_seq <| ?_
 refine qa tok hT [0, 1, 5, 15] (St.mk [p 0 (L y142 a0), p 1 (I v1), p 5 (I v2), p 15 (B (decide (v2 < (↑a0.length : Int))))] []) (by kernel_rfl) ?_
 refine cd H (by kernel_rfl) (fun H => ?_) (fun H => ?_)
 ·refine vx_skip <| fx_seq <| vx_seq <| vx_block <| ?_
  refine qd tok hT [0, 1, 5] (fun v3 => St.mk [p 0 (L y142 a0), p 1 (I v3), p 5 (I v2)] []) H (by kernel_rfl) fun v3 H => ?_
  refine qa tok hT [0, 1, 5, 25] (St.mk [p 0 (L y142 a0), p 1 (I v3), p 5 (I v2), p 25 (B (decide (v3 < 0)))] []) (by kernel_rfl) ?_
  refine cd H (by kernel_rfl) (fun H => ?_) (fun H => ?_)
  ·refine qa tok hT [4] (St.mk [p 4 (I (-1))] []) (by kernel_rfl) ?_
   exact vx_ret <| fx_blk_ret <| fx_seq_ret <| t1 <| fx_blk_ret <| t0 <| hr H (by kernel_rfl)
  refine vx_skip <| fx_blk <| fx_seq <| ?_
  refine zb tok hT [0, 1, 5] (St.mk [p 0 (L y142 a0), p 1 (I v3), p 5 (I (v2 + 1))] []) H (by kernel_rfl) fun H => ?_
  exact b1 H (by kernel_rfl)
 exact vx_exit <| fx_seq_exit <| e1 <| fx_blk_exit rfl <| n0 H (by kernel_rfl)
def u54J0 : Int → Option (Int)
 | v4 =>
 some v4
def u54L1 (a0 : List ByteArray) (g1 : Int × Int → Option (Int)) : Int × Int → Option (Int)
 | (v1, v2) =>
 if (decide (v2 < (↑a0.length : Int))) = true then
  gd (ix v2 a0.length ∧ in64 (v1 - (↑(ByteArray.size (a0.getD v2.toNat (dflt Ty.str))) : Int)) ∧ True) <| lt (v1 - (↑(ByteArray.size (a0.getD v2.toNat (dflt Ty.str))) : Int)) fun v3 =>
  if (decide (v3 < 0)) = true then
   some (-1)
  else
   gd (in64 (v2 + 1) ∧ True) <| 
   g1 (v3, v2 + 1)
 else
  u54J0 v1
def u54 (a0 : List ByteArray) (a1 : Int) : Option (Int) :=
 gd (in64 (a1 - (↑a0.length : Int)) ∧ True) <| 
 if (decide (a1 - (↑a0.length : Int) < 0)) = true then
  some (-1)
 else
  lp (u54L1 a0) ((a1 - (↑a0.length : Int), 0))
def k54 : Ct := lct 54 [.dat Ty.str.sl, .dat i64] (fun x => u54 x.1 x.2.1) (fun r : Int => I r) (fun _ => ())
theorem o54 : Ok Tryz.prog k54 := by
 refine okl tok [.tmp 4] Tryz.func54 Tryz.ntmps54 rfl Tryz.results54 (by kernel_rfl) rfl ?_
 intro y ⟨a0, a1, _⟩ r H Q hn hr
 have hT := @tn Tryz.prog
 refine qa tok hT [0, 1] (St.mk [p 0 (L Ty.str a0), p 1 (J a1)] []) (by kernel_rfl) ?_
 refine qb tok hT [0, 1] (St.mk [p 0 (L Ty.str a0), p 1 (I (a1 - (↑a0.length : Int)))] []) H (by kernel_rfl) fun H => ?_
 refine vx_seq <| ?_
 refine qa tok hT [0, 1, 11] (St.mk [p 0 (L Ty.str a0), p 1 (I (a1 - (↑a0.length : Int))), p 11 (B (decide (a1 - (↑a0.length : Int) < 0)))] []) (by kernel_rfl) ?_
 refine cd H (by kernel_rfl) (fun H => ?_) (fun H => ?_)
 ·refine qa tok hT [4] (St.mk [p 4 (I (-1))] []) (by kernel_rfl) ?_
  exact vx_ret <| fx_seq_ret <| hr H (by kernel_rfl)
 refine vx_skip <| fx_seq <| ?_
 refine jn r (fun (v4 : Int) => St.mk [p 1 (I v4)] []) (u54J0) (fun v4 H => ?_) (fun _ n0 e0 t0 => ?_)
 ·refine qa tok hT [4] (St.mk [p 4 (I v4)] []) (by kernel_rfl) ?_
  exact vx_ret <| hr H (by kernel_rfl)
 refine qa tok hT [0, 1, 5] (St.mk [p 0 (L Ty.str a0), p 1 (I (a1 - (↑a0.length : Int))), p 5 (I 0)] []) (by kernel_rfl) ?_
 refine vx_block <| ?_
 refine lx (fun ((v1, v2) : Int × Int) => St.mk [p 0 (L Ty.str a0), p 1 (I v1), p 5 (I v2)] []) ((a1 - (↑a0.length : Int), 0)) H (by kernel_rfl) fun _ g1 b1 e1 t1 ⟨v1, v2⟩ H => ?_
 refine vx_seq <| ?_
 refine qa tok hT [0, 1, 5, 15] (St.mk [p 0 (L Ty.str a0), p 1 (I v1), p 5 (I v2), p 15 (B (decide (v2 < (↑a0.length : Int))))] []) (by kernel_rfl) ?_
 refine cd H (by kernel_rfl) (fun H => ?_) (fun H => ?_)
 ·refine vx_skip <| fx_seq <| vx_seq <| vx_block <| ?_
  refine qd tok hT [0, 1, 5] (fun v3 => St.mk [p 0 (L Ty.str a0), p 1 (I v3), p 5 (I v2)] []) H (by kernel_rfl) fun v3 H => ?_
  refine qa tok hT [0, 1, 5, 26] (St.mk [p 0 (L Ty.str a0), p 1 (I v3), p 5 (I v2), p 26 (B (decide (v3 < 0)))] []) (by kernel_rfl) ?_
  refine cd H (by kernel_rfl) (fun H => ?_) (fun H => ?_)
  ·refine qa tok hT [4] (St.mk [p 4 (I (-1))] []) (by kernel_rfl) ?_
   exact vx_ret <| fx_blk_ret <| fx_seq_ret <| t1 <| fx_blk_ret <| t0 <| hr H (by kernel_rfl)
  refine vx_skip <| fx_blk <| fx_seq <| ?_
  refine zb tok hT [0, 1, 5] (St.mk [p 0 (L Ty.str a0), p 1 (I v3), p 5 (I (v2 + 1))] []) H (by kernel_rfl) fun H => ?_
  exact b1 H (by kernel_rfl)
 exact vx_exit <| fx_seq_exit <| e1 <| fx_blk_exit rfl <| n0 H (by kernel_rfl)
def u95 (a0 : Y139) (a1 : Int) : Option (Int) :=
 gd (in64 (a1 - (↑a0.1.size : Int)) ∧ True) <| 
 if (decide (a1 - (↑a0.1.size : Int) < 0)) = true then
  some (-1)
 else
  gd ((u56 a0.2.2 (a1 - (↑a0.1.size : Int))).isSome = true ∧ True) <| lt (vl (u56 a0.2.2 (a1 - (↑a0.1.size : Int)))) fun v0 =>
  if (decide (v0 < 0)) = true then
   some (-1)
  else
   some v0
def k95 : Ct := lct 95 [.agg y139, .dat i64] (fun x => u95 x.1 x.2.1) (fun r : Int => I r) (fun _ => ())
theorem o95 : Ok Tryz.prog k95 := by
 refine okl tok [.tmp 4] Tryz.func95 Tryz.ntmps95 rfl Tryz.results95 (by kernel_rfl) rfl ?_
 intro y ⟨a0, a1, _⟩ r H Q hn hr
 have hT := tc o56 tn
 refine qa tok hT [1, 2] (St.mk [p 1 (J a1), p 2 (AV.ptr 2 0)] [(2, Ob.box 139 (cellsD false y139 a0))]) (by kernel_rfl) ?_
 refine qb tok hT [1, 2] (St.mk [p 1 (I (a1 - (↑a0.1.size : Int))), p 2 (AV.ptr 2 0)] [(2, Ob.box 139 (cellsD false y139 a0))]) H (by kernel_rfl) fun H => ?_
 refine vx_seq <| ?_
 refine qa tok hT [1, 2, 11] (St.mk [p 1 (I (a1 - (↑a0.1.size : Int))), p 2 (AV.ptr 2 0), p 11 (B (decide (a1 - (↑a0.1.size : Int) < 0)))] [(2, Ob.box 139 (cellsD false y139 a0))]) (by kernel_rfl) ?_
 refine cd H (by kernel_rfl) (fun H => ?_) (fun H => ?_)
 ·refine qa tok hT [4] (St.mk [p 4 (I (-1))] [(2, Ob.box 139 (cellsD false y139 a0))]) (by kernel_rfl) ?_
  exact vx_ret <| fx_seq_ret <| hr H (by kernel_rfl)
 refine vx_skip <| fx_seq <| ?_
 refine qd tok hT [1] (fun v0 => St.mk [p 1 (I v0)] [(2, Ob.box 139 (cellsD false y139 a0))]) H (by kernel_rfl) fun v0 H => ?_
 refine vx_seq <| ?_
 refine qa tok hT [1, 17] (St.mk [p 1 (I v0), p 17 (B (decide (v0 < 0)))] [(2, Ob.box 139 (cellsD false y139 a0))]) (by kernel_rfl) ?_
 refine cd H (by kernel_rfl) (fun H => ?_) (fun H => ?_)
 ·refine qa tok hT [4] (St.mk [p 4 (I (-1))] [(2, Ob.box 139 (cellsD false y139 a0))]) (by kernel_rfl) ?_
  exact vx_ret <| fx_seq_ret <| hr H (by kernel_rfl)
 refine vx_skip <| fx_seq <| ?_
 refine qa tok hT [4] (St.mk [p 4 (I v0)] [(2, Ob.box 139 (cellsD false y139 a0))]) (by kernel_rfl) ?_
 exact vx_ret <| hr H (by kernel_rfl)
def u53J0 : Int → Option (Int)
 | v4 =>
 some v4
def u53L1 (a0 : List Y139) (g1 : Int × Int → Option (Int)) : Int × Int → Option (Int)
 | (v1, v2) =>
 if (decide (v2 < (↑a0.length : Int))) = true then
  gd (ix v2 a0.length ∧ (u95 (a0.getD v2.toNat (dflt y139)) v1).isSome = true ∧ True) <| lt (vl (u95 (a0.getD v2.toNat (dflt y139)) v1)) fun v3 =>
  if (decide (v3 < 0)) = true then
   some (-1)
  else
   gd (in64 (v2 + 1) ∧ True) <| 
   g1 (v3, v2 + 1)
 else
  u53J0 v1
def u53 (a0 : List Y139) (a1 : Int) : Option (Int) :=
 gd (in64 (a1 - (↑a0.length : Int)) ∧ True) <| 
 if (decide (a1 - (↑a0.length : Int) < 0)) = true then
  some (-1)
 else
  lp (u53L1 a0) ((a1 - (↑a0.length : Int), 0))
def k53 : Ct := lct 53 [.dat y139.sl, .dat i64] (fun x => u53 x.1 x.2.1) (fun r : Int => I r) (fun _ => ())
theorem o53 : Ok Tryz.prog k53 := by
 refine okl tok [.tmp 4] Tryz.func53 Tryz.ntmps53 rfl Tryz.results53 (by kernel_rfl) rfl ?_
 intro y ⟨a0, a1, _⟩ r H Q hn hr
 have hT := tc o95 tn
 refine qa tok hT [0, 1] (St.mk [p 0 (L y139 a0), p 1 (J a1)] []) (by kernel_rfl) ?_
 refine qb tok hT [0, 1] (St.mk [p 0 (L y139 a0), p 1 (I (a1 - (↑a0.length : Int)))] []) H (by kernel_rfl) fun H => ?_
 refine vx_seq <| ?_
 refine qa tok hT [0, 1, 11] (St.mk [p 0 (L y139 a0), p 1 (I (a1 - (↑a0.length : Int))), p 11 (B (decide (a1 - (↑a0.length : Int) < 0)))] []) (by kernel_rfl) ?_
 refine cd H (by kernel_rfl) (fun H => ?_) (fun H => ?_)
 ·refine qa tok hT [4] (St.mk [p 4 (I (-1))] []) (by kernel_rfl) ?_
  exact vx_ret <| fx_seq_ret <| hr H (by kernel_rfl)
 refine vx_skip <| fx_seq <| ?_
 refine jn r (fun (v4 : Int) => St.mk [p 1 (I v4)] []) (u53J0) (fun v4 H => ?_) (fun _ n0 e0 t0 => ?_)
 ·refine qa tok hT [4] (St.mk [p 4 (I v4)] []) (by kernel_rfl) ?_
  exact vx_ret <| hr H (by kernel_rfl)
 refine qa tok hT [0, 1, 5] (St.mk [p 0 (L y139 a0), p 1 (I (a1 - (↑a0.length : Int))), p 5 (I 0)] []) (by kernel_rfl) ?_
 refine vx_block <| ?_
 refine lx (fun ((v1, v2) : Int × Int) => St.mk [p 0 (L y139 a0), p 1 (I v1), p 5 (I v2)] []) ((a1 - (↑a0.length : Int), 0)) H (by kernel_rfl) fun _ g1 b1 e1 t1 ⟨v1, v2⟩ H => ?_
 refine vx_seq <| ?_
 refine qa tok hT [0, 1, 5, 15] (St.mk [p 0 (L y139 a0), p 1 (I v1), p 5 (I v2), p 15 (B (decide (v2 < (↑a0.length : Int))))] []) (by kernel_rfl) ?_
 refine cd H (by kernel_rfl) (fun H => ?_) (fun H => ?_)
 ·refine vx_skip <| fx_seq <| vx_seq <| vx_block <| ?_
  refine qd tok hT [0, 1, 5] (fun v3 => St.mk [p 0 (L y139 a0), p 1 (I v3), p 5 (I v2)] []) H (by kernel_rfl) fun v3 H => ?_
  refine qa tok hT [0, 1, 5, 25] (St.mk [p 0 (L y139 a0), p 1 (I v3), p 5 (I v2), p 25 (B (decide (v3 < 0)))] []) (by kernel_rfl) ?_
  refine cd H (by kernel_rfl) (fun H => ?_) (fun H => ?_)
  ·refine qa tok hT [4] (St.mk [p 4 (I (-1))] []) (by kernel_rfl) ?_
   exact vx_ret <| fx_blk_ret <| fx_seq_ret <| t1 <| fx_blk_ret <| t0 <| hr H (by kernel_rfl)
  refine vx_skip <| fx_blk <| fx_seq <| ?_
  refine zb tok hT [0, 1, 5] (St.mk [p 0 (L y139 a0), p 1 (I v3), p 5 (I (v2 + 1))] []) H (by kernel_rfl) fun H => ?_
  exact b1 H (by kernel_rfl)
 exact vx_exit <| fx_seq_exit <| e1 <| fx_blk_exit rfl <| n0 H (by kernel_rfl)
def u23 (a0 : Y29) (a1 : Int) : Option (Int) :=
 gd ((u53 a0.1 a1).isSome = true ∧ True) <| lt (vl (u53 a0.1 a1)) fun v0 =>
 if (decide (v0 < 0)) = true then
  some (-1)
 else
  gd ((u54 a0.2.1 v0).isSome = true ∧ True) <| lt (vl (u54 a0.2.1 v0)) fun v1 =>
  if (decide (v1 < 0)) = true then
   some (-1)
  else
   gd ((u55 a0.2.2 v1).isSome = true ∧ True) <| lt (vl (u55 a0.2.2 v1)) fun v2 =>
   if (decide (v2 < 0)) = true then
    some (-1)
   else
    some v2
def k23 : Ct := lct 23 [.agg y29, .dat i64] (fun x => u23 x.1 x.2.1) (fun r : Int => I r) (fun _ => ())
theorem o23 : Ok Tryz.prog k23 := by
 refine okl tok [.tmp 4] Tryz.func23 Tryz.ntmps23 rfl Tryz.results23 (by kernel_rfl) rfl ?_
 intro y ⟨a0, a1, _⟩ r H Q hn hr
 have hT := tc o55 (tc o54 (tc o53 tn))
 refine qa tok hT [1, 2] (St.mk [p 1 (J a1), p 2 (AV.ptr 2 0)] [(2, Ob.box 29 (cellsD false y29 a0))]) (by kernel_rfl) ?_
 refine qd tok hT [1, 2] (fun v0 => St.mk [p 1 (I v0), p 2 (AV.ptr 2 0)] [(2, Ob.box 29 (cellsD false y29 a0))]) H (by kernel_rfl) fun v0 H => ?_
 refine vx_seq <| ?_
 refine qa tok hT [1, 2, 10] (St.mk [p 1 (I v0), p 2 (AV.ptr 2 0), p 10 (B (decide (v0 < 0)))] [(2, Ob.box 29 (cellsD false y29 a0))]) (by kernel_rfl) ?_
 refine cd H (by kernel_rfl) (fun H => ?_) (fun H => ?_)
 ·refine qa tok hT [4] (St.mk [p 4 (I (-1))] [(2, Ob.box 29 (cellsD false y29 a0))]) (by kernel_rfl) ?_
  exact vx_ret <| fx_seq_ret <| hr H (by kernel_rfl)
 refine vx_skip <| fx_seq <| ?_
 refine qd tok hT [1, 2] (fun v1 => St.mk [p 1 (I v1), p 2 (AV.ptr 2 0)] [(2, Ob.box 29 (cellsD false y29 a0))]) H (by kernel_rfl) fun v1 H => ?_
 refine vx_seq <| ?_
 refine qa tok hT [1, 2, 16] (St.mk [p 1 (I v1), p 2 (AV.ptr 2 0), p 16 (B (decide (v1 < 0)))] [(2, Ob.box 29 (cellsD false y29 a0))]) (by kernel_rfl) ?_
 refine cd H (by kernel_rfl) (fun H => ?_) (fun H => ?_)
 ·refine qa tok hT [4] (St.mk [p 4 (I (-1))] [(2, Ob.box 29 (cellsD false y29 a0))]) (by kernel_rfl) ?_
  exact vx_ret <| fx_seq_ret <| hr H (by kernel_rfl)
 refine vx_skip <| fx_seq <| ?_
 refine qd tok hT [1] (fun v2 => St.mk [p 1 (I v2)] [(2, Ob.box 29 (cellsD false y29 a0))]) H (by kernel_rfl) fun v2 H => ?_
 refine vx_seq <| ?_
 refine qa tok hT [1, 22] (St.mk [p 1 (I v2), p 22 (B (decide (v2 < 0)))] [(2, Ob.box 29 (cellsD false y29 a0))]) (by kernel_rfl) ?_
 refine cd H (by kernel_rfl) (fun H => ?_) (fun H => ?_)
 ·refine qa tok hT [4] (St.mk [p 4 (I (-1))] [(2, Ob.box 29 (cellsD false y29 a0))]) (by kernel_rfl) ?_
  exact vx_ret <| fx_seq_ret <| hr H (by kernel_rfl)
 refine vx_skip <| fx_seq <| ?_
 refine qa tok hT [4] (St.mk [p 4 (I v2)] [(2, Ob.box 29 (cellsD false y29 a0))]) (by kernel_rfl) ?_
 exact vx_ret <| hr H (by kernel_rfl)
def u214 (a0 : Y251) (a1 : Int) : Option (Int) :=
 gd ((u56 a0.1 a1).isSome = true ∧ True) <| lt (vl (u56 a0.1 a1)) fun v0 =>
 if (decide (v0 < 0)) = true then
  some (-1)
 else
  gd ((u56 a0.2.1 v0).isSome = true ∧ True) <| lt (vl (u56 a0.2.1 v0)) fun v1 =>
  if (decide (v1 < 0)) = true then
   some (-1)
  else
   gd ((u56 a0.2.2 v1).isSome = true ∧ True) <| lt (vl (u56 a0.2.2 v1)) fun v2 =>
   if (decide (v2 < 0)) = true then
    some (-1)
   else
    some v2
def k214 : Ct := lct 214 [.agg y251, .dat i64] (fun x => u214 x.1 x.2.1) (fun r : Int => I r) (fun _ => ())
theorem o214 : Ok Tryz.prog k214 := by
 refine okl tok [.tmp 4] Tryz.func214 Tryz.ntmps214 rfl Tryz.results214 (by kernel_rfl) rfl ?_
 intro y ⟨a0, a1, _⟩ r H Q hn hr
 have hT := tc o56 tn
 refine qa tok hT [1, 2] (St.mk [p 1 (J a1), p 2 (AV.ptr 2 0)] [(2, Ob.box 251 (cellsD false y251 a0))]) (by kernel_rfl) ?_
 refine qd tok hT [1, 2] (fun v0 => St.mk [p 1 (I v0), p 2 (AV.ptr 2 0)] [(2, Ob.box 251 (cellsD false y251 a0))]) H (by kernel_rfl) fun v0 H => ?_
 refine vx_seq <| ?_
 refine qa tok hT [1, 2, 10] (St.mk [p 1 (I v0), p 2 (AV.ptr 2 0), p 10 (B (decide (v0 < 0)))] [(2, Ob.box 251 (cellsD false y251 a0))]) (by kernel_rfl) ?_
 refine cd H (by kernel_rfl) (fun H => ?_) (fun H => ?_)
 ·refine qa tok hT [4] (St.mk [p 4 (I (-1))] [(2, Ob.box 251 (cellsD false y251 a0))]) (by kernel_rfl) ?_
  exact vx_ret <| fx_seq_ret <| hr H (by kernel_rfl)
 refine vx_skip <| fx_seq <| ?_
 refine qd tok hT [1, 2] (fun v1 => St.mk [p 1 (I v1), p 2 (AV.ptr 2 0)] [(2, Ob.box 251 (cellsD false y251 a0))]) H (by kernel_rfl) fun v1 H => ?_
 refine vx_seq <| ?_
 refine qa tok hT [1, 2, 16] (St.mk [p 1 (I v1), p 2 (AV.ptr 2 0), p 16 (B (decide (v1 < 0)))] [(2, Ob.box 251 (cellsD false y251 a0))]) (by kernel_rfl) ?_
 refine cd H (by kernel_rfl) (fun H => ?_) (fun H => ?_)
 ·refine qa tok hT [4] (St.mk [p 4 (I (-1))] [(2, Ob.box 251 (cellsD false y251 a0))]) (by kernel_rfl) ?_
  exact vx_ret <| fx_seq_ret <| hr H (by kernel_rfl)
 refine vx_skip <| fx_seq <| ?_
 refine qd tok hT [1] (fun v2 => St.mk [p 1 (I v2)] [(2, Ob.box 251 (cellsD false y251 a0))]) H (by kernel_rfl) fun v2 H => ?_
 refine vx_seq <| ?_
 refine qa tok hT [1, 22] (St.mk [p 1 (I v2), p 22 (B (decide (v2 < 0)))] [(2, Ob.box 251 (cellsD false y251 a0))]) (by kernel_rfl) ?_
 refine cd H (by kernel_rfl) (fun H => ?_) (fun H => ?_)
 ·refine qa tok hT [4] (St.mk [p 4 (I (-1))] [(2, Ob.box 251 (cellsD false y251 a0))]) (by kernel_rfl) ?_
  exact vx_ret <| fx_seq_ret <| hr H (by kernel_rfl)
 refine vx_skip <| fx_seq <| ?_
 refine qa tok hT [4] (St.mk [p 4 (I v2)] [(2, Ob.box 251 (cellsD false y251 a0))]) (by kernel_rfl) ?_
 exact vx_ret <| hr H (by kernel_rfl)
def u196J0 : Int → Option (Int)
 | v4 =>
 some v4
def u196L1 (a0 : List Y251) (g1 : Int × Int → Option (Int)) : Int × Int → Option (Int)
 | (v1, v2) =>
 if (decide (v2 < (↑a0.length : Int))) = true then
  gd (ix v2 a0.length ∧ (u214 (a0.getD v2.toNat (dflt y251)) v1).isSome = true ∧ True) <| lt (vl (u214 (a0.getD v2.toNat (dflt y251)) v1)) fun v3 =>
  if (decide (v3 < 0)) = true then
   some (-1)
  else
   gd (in64 (v2 + 1) ∧ True) <| 
   g1 (v3, v2 + 1)
 else
  u196J0 v1
def u196 (a0 : List Y251) (a1 : Int) : Option (Int) :=
 gd (in64 (a1 - (↑a0.length : Int)) ∧ True) <| 
 if (decide (a1 - (↑a0.length : Int) < 0)) = true then
  some (-1)
 else
  lp (u196L1 a0) ((a1 - (↑a0.length : Int), 0))
def k196 : Ct := lct 196 [.dat y251.sl, .dat i64] (fun x => u196 x.1 x.2.1) (fun r : Int => I r) (fun _ => ())
theorem o196 : Ok Tryz.prog k196 := by
 refine okl tok [.tmp 4] Tryz.func196 Tryz.ntmps196 rfl Tryz.results196 (by kernel_rfl) rfl ?_
 intro y ⟨a0, a1, _⟩ r H Q hn hr
 have hT := tc o214 tn
 refine qa tok hT [0, 1] (St.mk [p 0 (L y251 a0), p 1 (J a1)] []) (by kernel_rfl) ?_
 refine qb tok hT [0, 1] (St.mk [p 0 (L y251 a0), p 1 (I (a1 - (↑a0.length : Int)))] []) H (by kernel_rfl) fun H => ?_
 refine vx_seq <| ?_
 refine qa tok hT [0, 1, 11] (St.mk [p 0 (L y251 a0), p 1 (I (a1 - (↑a0.length : Int))), p 11 (B (decide (a1 - (↑a0.length : Int) < 0)))] []) (by kernel_rfl) ?_
 refine cd H (by kernel_rfl) (fun H => ?_) (fun H => ?_)
 ·refine qa tok hT [4] (St.mk [p 4 (I (-1))] []) (by kernel_rfl) ?_
  exact vx_ret <| fx_seq_ret <| hr H (by kernel_rfl)
 refine vx_skip <| fx_seq <| ?_
 refine jn r (fun (v4 : Int) => St.mk [p 1 (I v4)] []) (u196J0) (fun v4 H => ?_) (fun _ n0 e0 t0 => ?_)
 ·refine qa tok hT [4] (St.mk [p 4 (I v4)] []) (by kernel_rfl) ?_
  exact vx_ret <| hr H (by kernel_rfl)
 refine qa tok hT [0, 1, 5] (St.mk [p 0 (L y251 a0), p 1 (I (a1 - (↑a0.length : Int))), p 5 (I 0)] []) (by kernel_rfl) ?_
 refine vx_block <| ?_
 refine lx (fun ((v1, v2) : Int × Int) => St.mk [p 0 (L y251 a0), p 1 (I v1), p 5 (I v2)] []) ((a1 - (↑a0.length : Int), 0)) H (by kernel_rfl) fun _ g1 b1 e1 t1 ⟨v1, v2⟩ H => ?_
 refine vx_seq <| ?_
 refine qa tok hT [0, 1, 5, 15] (St.mk [p 0 (L y251 a0), p 1 (I v1), p 5 (I v2), p 15 (B (decide (v2 < (↑a0.length : Int))))] []) (by kernel_rfl) ?_
 refine cd H (by kernel_rfl) (fun H => ?_) (fun H => ?_)
 ·refine vx_skip <| fx_seq <| vx_seq <| vx_block <| ?_
  refine qd tok hT [0, 1, 5] (fun v3 => St.mk [p 0 (L y251 a0), p 1 (I v3), p 5 (I v2)] []) H (by kernel_rfl) fun v3 H => ?_
  refine qa tok hT [0, 1, 5, 25] (St.mk [p 0 (L y251 a0), p 1 (I v3), p 5 (I v2), p 25 (B (decide (v3 < 0)))] []) (by kernel_rfl) ?_
  refine cd H (by kernel_rfl) (fun H => ?_) (fun H => ?_)
  ·refine qa tok hT [4] (St.mk [p 4 (I (-1))] []) (by kernel_rfl) ?_
   exact vx_ret <| fx_blk_ret <| fx_seq_ret <| t1 <| fx_blk_ret <| t0 <| hr H (by kernel_rfl)
  refine vx_skip <| fx_blk <| fx_seq <| ?_
  refine zb tok hT [0, 1, 5] (St.mk [p 0 (L y251 a0), p 1 (I v3), p 5 (I (v2 + 1))] []) H (by kernel_rfl) fun H => ?_
  exact b1 H (by kernel_rfl)
 exact vx_exit <| fx_seq_exit <| e1 <| fx_blk_exit rfl <| n0 H (by kernel_rfl)
def u171 (a0 : Y212) (a1 : Int) : Option (Int) :=
 gd ((u196 a0.2.2.2.2.1 a1).isSome = true ∧ True) <| lt (vl (u196 a0.2.2.2.2.1 a1)) fun v0 =>
 if (decide (v0 < 0)) = true then
  some (-1)
 else
  gd ((u196 a0.2.2.2.2.2 v0).isSome = true ∧ True) <| lt (vl (u196 a0.2.2.2.2.2 v0)) fun v1 =>
  if (decide (v1 < 0)) = true then
   some (-1)
  else
   some v1
def k171 : Ct := lct 171 [.agg y212, .dat i64] (fun x => u171 x.1 x.2.1) (fun r : Int => I r) (fun _ => ())
theorem o171 : Ok Tryz.prog k171 := by
 refine okl tok [.tmp 4] Tryz.func171 Tryz.ntmps171 rfl Tryz.results171 (by kernel_rfl) rfl ?_
 intro y ⟨a0, a1, _⟩ r H Q hn hr
 have hT := tc o196 tn
 refine qa tok hT [1, 2] (St.mk [p 1 (J a1), p 2 (AV.ptr 2 0)] [(2, Ob.box 212 (cellsD false y212 a0))]) (by kernel_rfl) ?_
 refine qd tok hT [1, 2] (fun v0 => St.mk [p 1 (I v0), p 2 (AV.ptr 2 0)] [(2, Ob.box 212 (cellsD false y212 a0))]) H (by kernel_rfl) fun v0 H => ?_
 refine vx_seq <| ?_
 refine qa tok hT [1, 2, 10] (St.mk [p 1 (I v0), p 2 (AV.ptr 2 0), p 10 (B (decide (v0 < 0)))] [(2, Ob.box 212 (cellsD false y212 a0))]) (by kernel_rfl) ?_
 refine cd H (by kernel_rfl) (fun H => ?_) (fun H => ?_)
 ·refine qa tok hT [4] (St.mk [p 4 (I (-1))] [(2, Ob.box 212 (cellsD false y212 a0))]) (by kernel_rfl) ?_
  exact vx_ret <| fx_seq_ret <| hr H (by kernel_rfl)
 refine vx_skip <| fx_seq <| ?_
 refine qd tok hT [1] (fun v1 => St.mk [p 1 (I v1)] [(2, Ob.box 212 (cellsD false y212 a0))]) H (by kernel_rfl) fun v1 H => ?_
 refine vx_seq <| ?_
 refine qa tok hT [1, 16] (St.mk [p 1 (I v1), p 16 (B (decide (v1 < 0)))] [(2, Ob.box 212 (cellsD false y212 a0))]) (by kernel_rfl) ?_
 refine cd H (by kernel_rfl) (fun H => ?_) (fun H => ?_)
 ·refine qa tok hT [4] (St.mk [p 4 (I (-1))] [(2, Ob.box 212 (cellsD false y212 a0))]) (by kernel_rfl) ?_
  exact vx_ret <| fx_seq_ret <| hr H (by kernel_rfl)
 refine vx_skip <| fx_seq <| ?_
 refine qa tok hT [4] (St.mk [p 4 (I v1)] [(2, Ob.box 212 (cellsD false y212 a0))]) (by kernel_rfl) ?_
 exact vx_ret <| hr H (by kernel_rfl)
def u139J0 : Int → Option (Int)
 | v4 =>
 some v4
def u139L1 (a0 : List Y212) (g1 : Int × Int → Option (Int)) : Int × Int → Option (Int)
 | (v1, v2) =>
 if (decide (v2 < (↑a0.length : Int))) = true then
  gd (ix v2 a0.length ∧ (u171 (a0.getD v2.toNat (dflt y212)) v1).isSome = true ∧ True) <| lt (vl (u171 (a0.getD v2.toNat (dflt y212)) v1)) fun v3 =>
  if (decide (v3 < 0)) = true then
   some (-1)
  else
   gd (in64 (v2 + 1) ∧ True) <| 
   g1 (v3, v2 + 1)
 else
  u139J0 v1
def u139 (a0 : List Y212) (a1 : Int) : Option (Int) :=
 gd (in64 (a1 - (↑a0.length : Int)) ∧ True) <| 
 if (decide (a1 - (↑a0.length : Int) < 0)) = true then
  some (-1)
 else
  lp (u139L1 a0) ((a1 - (↑a0.length : Int), 0))
def k139 : Ct := lct 139 [.dat y212.sl, .dat i64] (fun x => u139 x.1 x.2.1) (fun r : Int => I r) (fun _ => ())
theorem o139 : Ok Tryz.prog k139 := by
 refine okl tok [.tmp 4] Tryz.func139 Tryz.ntmps139 rfl Tryz.results139 (by kernel_rfl) rfl ?_
 intro y ⟨a0, a1, _⟩ r H Q hn hr
 have hT := tc o171 tn
 refine qa tok hT [0, 1] (St.mk [p 0 (L y212 a0), p 1 (J a1)] []) (by kernel_rfl) ?_
 refine qb tok hT [0, 1] (St.mk [p 0 (L y212 a0), p 1 (I (a1 - (↑a0.length : Int)))] []) H (by kernel_rfl) fun H => ?_
 refine vx_seq <| ?_
 refine qa tok hT [0, 1, 11] (St.mk [p 0 (L y212 a0), p 1 (I (a1 - (↑a0.length : Int))), p 11 (B (decide (a1 - (↑a0.length : Int) < 0)))] []) (by kernel_rfl) ?_
 refine cd H (by kernel_rfl) (fun H => ?_) (fun H => ?_)
 ·refine qa tok hT [4] (St.mk [p 4 (I (-1))] []) (by kernel_rfl) ?_
  exact vx_ret <| fx_seq_ret <| hr H (by kernel_rfl)
 refine vx_skip <| fx_seq <| ?_
 refine jn r (fun (v4 : Int) => St.mk [p 1 (I v4)] []) (u139J0) (fun v4 H => ?_) (fun _ n0 e0 t0 => ?_)
 ·refine qa tok hT [4] (St.mk [p 4 (I v4)] []) (by kernel_rfl) ?_
  exact vx_ret <| hr H (by kernel_rfl)
 refine qa tok hT [0, 1, 5] (St.mk [p 0 (L y212 a0), p 1 (I (a1 - (↑a0.length : Int))), p 5 (I 0)] []) (by kernel_rfl) ?_
 refine vx_block <| ?_
 refine lx (fun ((v1, v2) : Int × Int) => St.mk [p 0 (L y212 a0), p 1 (I v1), p 5 (I v2)] []) ((a1 - (↑a0.length : Int), 0)) H (by kernel_rfl) fun _ g1 b1 e1 t1 ⟨v1, v2⟩ H => ?_
 refine vx_seq <| ?_
 refine qa tok hT [0, 1, 5, 15] (St.mk [p 0 (L y212 a0), p 1 (I v1), p 5 (I v2), p 15 (B (decide (v2 < (↑a0.length : Int))))] []) (by kernel_rfl) ?_
 refine cd H (by kernel_rfl) (fun H => ?_) (fun H => ?_)
 ·refine vx_skip <| fx_seq <| vx_seq <| vx_block <| ?_
  refine qd tok hT [0, 1, 5] (fun v3 => St.mk [p 0 (L y212 a0), p 1 (I v3), p 5 (I v2)] []) H (by kernel_rfl) fun v3 H => ?_
  refine qa tok hT [0, 1, 5, 25] (St.mk [p 0 (L y212 a0), p 1 (I v3), p 5 (I v2), p 25 (B (decide (v3 < 0)))] []) (by kernel_rfl) ?_
  refine cd H (by kernel_rfl) (fun H => ?_) (fun H => ?_)
  ·refine qa tok hT [4] (St.mk [p 4 (I (-1))] []) (by kernel_rfl) ?_
   exact vx_ret <| fx_blk_ret <| fx_seq_ret <| t1 <| fx_blk_ret <| t0 <| hr H (by kernel_rfl)
  refine vx_skip <| fx_blk <| fx_seq <| ?_
  refine zb tok hT [0, 1, 5] (St.mk [p 0 (L y212 a0), p 1 (I v3), p 5 (I (v2 + 1))] []) H (by kernel_rfl) fun H => ?_
  exact b1 H (by kernel_rfl)
 exact vx_exit <| fx_seq_exit <| e1 <| fx_blk_exit rfl <| n0 H (by kernel_rfl)
def u170 (a0 : Y208) (a1 : Int) : Option (Int) :=
 gd (in64 (a1 - (↑a0.1.size : Int)) ∧ True) <| 
 if (decide (a1 - (↑a0.1.size : Int) < 0)) = true then
  some (-1)
 else
  some (a1 - (↑a0.1.size : Int))
def k170 : Ct := lct 170 [.agg y208, .dat i64] (fun x => u170 x.1 x.2.1) (fun r : Int => I r) (fun _ => ())
theorem o170 : Ok Tryz.prog k170 := by
 refine okl tok [.tmp 4] Tryz.func170 Tryz.ntmps170 rfl Tryz.results170 (by kernel_rfl) rfl ?_
 intro y ⟨a0, a1, _⟩ r H Q hn hr
 have hT := @tn Tryz.prog
 refine qa tok hT [1, 2] (St.mk [p 1 (J a1), p 2 (AV.ptr 2 0)] [(2, Ob.box 208 (cellsD false y208 a0))]) (by kernel_rfl) ?_
 refine qb tok hT [1] (St.mk [p 1 (I (a1 - (↑a0.1.size : Int)))] [(2, Ob.box 208 (cellsD false y208 a0))]) H (by kernel_rfl) fun H => ?_
 refine vx_seq <| ?_
 refine qa tok hT [1, 11] (St.mk [p 1 (I (a1 - (↑a0.1.size : Int))), p 11 (B (decide (a1 - (↑a0.1.size : Int) < 0)))] [(2, Ob.box 208 (cellsD false y208 a0))]) (by kernel_rfl) ?_
 refine cd H (by kernel_rfl) (fun H => ?_) (fun H => ?_)
 ·refine qa tok hT [4] (St.mk [p 4 (I (-1))] [(2, Ob.box 208 (cellsD false y208 a0))]) (by kernel_rfl) ?_
  exact vx_ret <| fx_seq_ret <| hr H (by kernel_rfl)
 refine vx_skip <| fx_seq <| ?_
 refine qa tok hT [4] (St.mk [p 4 (I (a1 - (↑a0.1.size : Int)))] [(2, Ob.box 208 (cellsD false y208 a0))]) (by kernel_rfl) ?_
 exact vx_ret <| hr H (by kernel_rfl)
def u138J0 : Int → Option (Int)
 | v4 =>
 some v4
def u138L1 (a0 : List Y208) (g1 : Int × Int → Option (Int)) : Int × Int → Option (Int)
 | (v1, v2) =>
 if (decide (v2 < (↑a0.length : Int))) = true then
  gd (ix v2 a0.length ∧ (u170 (a0.getD v2.toNat (dflt y208)) v1).isSome = true ∧ True) <| lt (vl (u170 (a0.getD v2.toNat (dflt y208)) v1)) fun v3 =>
  if (decide (v3 < 0)) = true then
   some (-1)
  else
   gd (in64 (v2 + 1) ∧ True) <| 
   g1 (v3, v2 + 1)
 else
  u138J0 v1
def u138 (a0 : List Y208) (a1 : Int) : Option (Int) :=
 gd (in64 (a1 - (↑a0.length : Int)) ∧ True) <| 
 if (decide (a1 - (↑a0.length : Int) < 0)) = true then
  some (-1)
 else
  lp (u138L1 a0) ((a1 - (↑a0.length : Int), 0))
def k138 : Ct := lct 138 [.dat y208.sl, .dat i64] (fun x => u138 x.1 x.2.1) (fun r : Int => I r) (fun _ => ())
theorem o138 : Ok Tryz.prog k138 := by
 refine okl tok [.tmp 4] Tryz.func138 Tryz.ntmps138 rfl Tryz.results138 (by kernel_rfl) rfl ?_
 intro y ⟨a0, a1, _⟩ r H Q hn hr
 have hT := tc o170 tn
 refine qa tok hT [0, 1] (St.mk [p 0 (L y208 a0), p 1 (J a1)] []) (by kernel_rfl) ?_
 refine qb tok hT [0, 1] (St.mk [p 0 (L y208 a0), p 1 (I (a1 - (↑a0.length : Int)))] []) H (by kernel_rfl) fun H => ?_
 refine vx_seq <| ?_
 refine qa tok hT [0, 1, 11] (St.mk [p 0 (L y208 a0), p 1 (I (a1 - (↑a0.length : Int))), p 11 (B (decide (a1 - (↑a0.length : Int) < 0)))] []) (by kernel_rfl) ?_
 refine cd H (by kernel_rfl) (fun H => ?_) (fun H => ?_)
 ·refine qa tok hT [4] (St.mk [p 4 (I (-1))] []) (by kernel_rfl) ?_
  exact vx_ret <| fx_seq_ret <| hr H (by kernel_rfl)
 refine vx_skip <| fx_seq <| ?_
 refine jn r (fun (v4 : Int) => St.mk [p 1 (I v4)] []) (u138J0) (fun v4 H => ?_) (fun _ n0 e0 t0 => ?_)
 ·refine qa tok hT [4] (St.mk [p 4 (I v4)] []) (by kernel_rfl) ?_
  exact vx_ret <| hr H (by kernel_rfl)
 refine qa tok hT [0, 1, 5] (St.mk [p 0 (L y208 a0), p 1 (I (a1 - (↑a0.length : Int))), p 5 (I 0)] []) (by kernel_rfl) ?_
 refine vx_block <| ?_
 refine lx (fun ((v1, v2) : Int × Int) => St.mk [p 0 (L y208 a0), p 1 (I v1), p 5 (I v2)] []) ((a1 - (↑a0.length : Int), 0)) H (by kernel_rfl) fun _ g1 b1 e1 t1 ⟨v1, v2⟩ H => ?_
 refine vx_seq <| ?_
 refine qa tok hT [0, 1, 5, 15] (St.mk [p 0 (L y208 a0), p 1 (I v1), p 5 (I v2), p 15 (B (decide (v2 < (↑a0.length : Int))))] []) (by kernel_rfl) ?_
 refine cd H (by kernel_rfl) (fun H => ?_) (fun H => ?_)
 ·refine vx_skip <| fx_seq <| vx_seq <| vx_block <| ?_
  refine qd tok hT [0, 1, 5] (fun v3 => St.mk [p 0 (L y208 a0), p 1 (I v3), p 5 (I v2)] []) H (by kernel_rfl) fun v3 H => ?_
  refine qa tok hT [0, 1, 5, 25] (St.mk [p 0 (L y208 a0), p 1 (I v3), p 5 (I v2), p 25 (B (decide (v3 < 0)))] []) (by kernel_rfl) ?_
  refine cd H (by kernel_rfl) (fun H => ?_) (fun H => ?_)
  ·refine qa tok hT [4] (St.mk [p 4 (I (-1))] []) (by kernel_rfl) ?_
   exact vx_ret <| fx_blk_ret <| fx_seq_ret <| t1 <| fx_blk_ret <| t0 <| hr H (by kernel_rfl)
  refine vx_skip <| fx_blk <| fx_seq <| ?_
  refine zb tok hT [0, 1, 5] (St.mk [p 0 (L y208 a0), p 1 (I v3), p 5 (I (v2 + 1))] []) H (by kernel_rfl) fun H => ?_
  exact b1 H (by kernel_rfl)
 exact vx_exit <| fx_seq_exit <| e1 <| fx_blk_exit rfl <| n0 H (by kernel_rfl)
def u94 (a0 : Y137) (a1 : Int) : Option (Int) :=
 gd (in64 (a1 - (↑a0.1.size : Int)) ∧ True) <| 
 if (decide (a1 - (↑a0.1.size : Int) < 0)) = true then
  some (-1)
 else
  gd ((u138 a0.2.2.1 (a1 - (↑a0.1.size : Int))).isSome = true ∧ True) <| lt (vl (u138 a0.2.2.1 (a1 - (↑a0.1.size : Int)))) fun v0 =>
  if (decide (v0 < 0)) = true then
   some (-1)
  else
   gd ((u139 a0.2.2.2.1 v0).isSome = true ∧ True) <| lt (vl (u139 a0.2.2.2.1 v0)) fun v1 =>
   if (decide (v1 < 0)) = true then
    some (-1)
   else
    gd ((u56 a0.2.2.2.2.1 v1).isSome = true ∧ True) <| lt (vl (u56 a0.2.2.2.2.1 v1)) fun v2 =>
    if (decide (v2 < 0)) = true then
     some (-1)
    else
     some v2
def k94 : Ct := lct 94 [.agg y137, .dat i64] (fun x => u94 x.1 x.2.1) (fun r : Int => I r) (fun _ => ())
theorem o94 : Ok Tryz.prog k94 := by
 refine okl tok [.tmp 4] Tryz.func94 Tryz.ntmps94 rfl Tryz.results94 (by kernel_rfl) rfl ?_
 intro y ⟨a0, a1, _⟩ r H Q hn hr
 have hT := tc o56 (tc o139 (tc o138 tn))
 refine qa tok hT [1, 2] (St.mk [p 1 (J a1), p 2 (AV.ptr 2 0)] [(2, Ob.box 137 (cellsD false y137 a0))]) (by kernel_rfl) ?_
 refine qb tok hT [1, 2] (St.mk [p 1 (I (a1 - (↑a0.1.size : Int))), p 2 (AV.ptr 2 0)] [(2, Ob.box 137 (cellsD false y137 a0))]) H (by kernel_rfl) fun H => ?_
 refine vx_seq <| ?_
 refine qa tok hT [1, 2, 11] (St.mk [p 1 (I (a1 - (↑a0.1.size : Int))), p 2 (AV.ptr 2 0), p 11 (B (decide (a1 - (↑a0.1.size : Int) < 0)))] [(2, Ob.box 137 (cellsD false y137 a0))]) (by kernel_rfl) ?_
 refine cd H (by kernel_rfl) (fun H => ?_) (fun H => ?_)
 ·refine qa tok hT [4] (St.mk [p 4 (I (-1))] [(2, Ob.box 137 (cellsD false y137 a0))]) (by kernel_rfl) ?_
  exact vx_ret <| fx_seq_ret <| hr H (by kernel_rfl)
 refine vx_skip <| fx_seq <| ?_
 refine qd tok hT [1, 2] (fun v0 => St.mk [p 1 (I v0), p 2 (AV.ptr 2 0)] [(2, Ob.box 137 (cellsD false y137 a0))]) H (by kernel_rfl) fun v0 H => ?_
 refine vx_seq <| ?_
 refine qa tok hT [1, 2, 17] (St.mk [p 1 (I v0), p 2 (AV.ptr 2 0), p 17 (B (decide (v0 < 0)))] [(2, Ob.box 137 (cellsD false y137 a0))]) (by kernel_rfl) ?_
 refine cd H (by kernel_rfl) (fun H => ?_) (fun H => ?_)
 ·refine qa tok hT [4] (St.mk [p 4 (I (-1))] [(2, Ob.box 137 (cellsD false y137 a0))]) (by kernel_rfl) ?_
  exact vx_ret <| fx_seq_ret <| hr H (by kernel_rfl)
 refine vx_skip <| fx_seq <| ?_
 refine qd tok hT [1, 2] (fun v1 => St.mk [p 1 (I v1), p 2 (AV.ptr 2 0)] [(2, Ob.box 137 (cellsD false y137 a0))]) H (by kernel_rfl) fun v1 H => ?_
 refine vx_seq <| ?_
 refine qa tok hT [1, 2, 23] (St.mk [p 1 (I v1), p 2 (AV.ptr 2 0), p 23 (B (decide (v1 < 0)))] [(2, Ob.box 137 (cellsD false y137 a0))]) (by kernel_rfl) ?_
 refine cd H (by kernel_rfl) (fun H => ?_) (fun H => ?_)
 ·refine qa tok hT [4] (St.mk [p 4 (I (-1))] [(2, Ob.box 137 (cellsD false y137 a0))]) (by kernel_rfl) ?_
  exact vx_ret <| fx_seq_ret <| hr H (by kernel_rfl)
 refine vx_skip <| fx_seq <| ?_
 refine qd tok hT [1] (fun v2 => St.mk [p 1 (I v2)] [(2, Ob.box 137 (cellsD false y137 a0))]) H (by kernel_rfl) fun v2 H => ?_
 refine vx_seq <| ?_
 refine qa tok hT [1, 29] (St.mk [p 1 (I v2), p 29 (B (decide (v2 < 0)))] [(2, Ob.box 137 (cellsD false y137 a0))]) (by kernel_rfl) ?_
 refine cd H (by kernel_rfl) (fun H => ?_) (fun H => ?_)
 ·refine qa tok hT [4] (St.mk [p 4 (I (-1))] [(2, Ob.box 137 (cellsD false y137 a0))]) (by kernel_rfl) ?_
  exact vx_ret <| fx_seq_ret <| hr H (by kernel_rfl)
 refine vx_skip <| fx_seq <| ?_
 refine qa tok hT [4] (St.mk [p 4 (I v2)] [(2, Ob.box 137 (cellsD false y137 a0))]) (by kernel_rfl) ?_
 exact vx_ret <| hr H (by kernel_rfl)
def u52J0 : Int → Option (Int)
 | v4 =>
 some v4
def u52L1 (a0 : List Y137) (g1 : Int × Int → Option (Int)) : Int × Int → Option (Int)
 | (v1, v2) =>
 if (decide (v2 < (↑a0.length : Int))) = true then
  gd (ix v2 a0.length ∧ (u94 (a0.getD v2.toNat (dflt y137)) v1).isSome = true ∧ True) <| lt (vl (u94 (a0.getD v2.toNat (dflt y137)) v1)) fun v3 =>
  if (decide (v3 < 0)) = true then
   some (-1)
  else
   gd (in64 (v2 + 1) ∧ True) <| 
   g1 (v3, v2 + 1)
 else
  u52J0 v1
def u52 (a0 : List Y137) (a1 : Int) : Option (Int) :=
 gd (in64 (a1 - (↑a0.length : Int)) ∧ True) <| 
 if (decide (a1 - (↑a0.length : Int) < 0)) = true then
  some (-1)
 else
  lp (u52L1 a0) ((a1 - (↑a0.length : Int), 0))
def k52 : Ct := lct 52 [.dat y137.sl, .dat i64] (fun x => u52 x.1 x.2.1) (fun r : Int => I r) (fun _ => ())
theorem o52 : Ok Tryz.prog k52 := by
 refine okl tok [.tmp 4] Tryz.func52 Tryz.ntmps52 rfl Tryz.results52 (by kernel_rfl) rfl ?_
 intro y ⟨a0, a1, _⟩ r H Q hn hr
 have hT := tc o94 tn
 refine qa tok hT [0, 1] (St.mk [p 0 (L y137 a0), p 1 (J a1)] []) (by kernel_rfl) ?_
 refine qb tok hT [0, 1] (St.mk [p 0 (L y137 a0), p 1 (I (a1 - (↑a0.length : Int)))] []) H (by kernel_rfl) fun H => ?_
 refine vx_seq <| ?_
 refine qa tok hT [0, 1, 11] (St.mk [p 0 (L y137 a0), p 1 (I (a1 - (↑a0.length : Int))), p 11 (B (decide (a1 - (↑a0.length : Int) < 0)))] []) (by kernel_rfl) ?_
 refine cd H (by kernel_rfl) (fun H => ?_) (fun H => ?_)
 ·refine qa tok hT [4] (St.mk [p 4 (I (-1))] []) (by kernel_rfl) ?_
  exact vx_ret <| fx_seq_ret <| hr H (by kernel_rfl)
 refine vx_skip <| fx_seq <| ?_
 refine jn r (fun (v4 : Int) => St.mk [p 1 (I v4)] []) (u52J0) (fun v4 H => ?_) (fun _ n0 e0 t0 => ?_)
 ·refine qa tok hT [4] (St.mk [p 4 (I v4)] []) (by kernel_rfl) ?_
  exact vx_ret <| hr H (by kernel_rfl)
 refine qa tok hT [0, 1, 5] (St.mk [p 0 (L y137 a0), p 1 (I (a1 - (↑a0.length : Int))), p 5 (I 0)] []) (by kernel_rfl) ?_
 refine vx_block <| ?_
 refine lx (fun ((v1, v2) : Int × Int) => St.mk [p 0 (L y137 a0), p 1 (I v1), p 5 (I v2)] []) ((a1 - (↑a0.length : Int), 0)) H (by kernel_rfl) fun _ g1 b1 e1 t1 ⟨v1, v2⟩ H => ?_
 refine vx_seq <| ?_
 refine qa tok hT [0, 1, 5, 15] (St.mk [p 0 (L y137 a0), p 1 (I v1), p 5 (I v2), p 15 (B (decide (v2 < (↑a0.length : Int))))] []) (by kernel_rfl) ?_
 refine cd H (by kernel_rfl) (fun H => ?_) (fun H => ?_)
 ·refine vx_skip <| fx_seq <| vx_seq <| vx_block <| ?_
  refine qd tok hT [0, 1, 5] (fun v3 => St.mk [p 0 (L y137 a0), p 1 (I v3), p 5 (I v2)] []) H (by kernel_rfl) fun v3 H => ?_
  refine qa tok hT [0, 1, 5, 25] (St.mk [p 0 (L y137 a0), p 1 (I v3), p 5 (I v2), p 25 (B (decide (v3 < 0)))] []) (by kernel_rfl) ?_
  refine cd H (by kernel_rfl) (fun H => ?_) (fun H => ?_)
  ·refine qa tok hT [4] (St.mk [p 4 (I (-1))] []) (by kernel_rfl) ?_
   exact vx_ret <| fx_blk_ret <| fx_seq_ret <| t1 <| fx_blk_ret <| t0 <| hr H (by kernel_rfl)
  refine vx_skip <| fx_blk <| fx_seq <| ?_
  refine zb tok hT [0, 1, 5] (St.mk [p 0 (L y137 a0), p 1 (I v3), p 5 (I (v2 + 1))] []) H (by kernel_rfl) fun H => ?_
  exact b1 H (by kernel_rfl)
 exact vx_exit <| fx_seq_exit <| e1 <| fx_blk_exit rfl <| n0 H (by kernel_rfl)
def u22 (a0 : List Y137) (a1 : Int) : Option (Int) :=
 gd ((u52 a0 a1).isSome = true ∧ True) <| lt (vl (u52 a0 a1)) fun v0 =>
 if (decide (v0 < 0)) = true then
  some (-1)
 else
  some v0
def k22 : Ct := lct 22 [.agg y137.sl, .dat i64] (fun x => u22 x.1 x.2.1) (fun r : Int => I r) (fun _ => ())
theorem o22 : Ok Tryz.prog k22 := by
 refine okl tok [.tmp 4] Tryz.func22 Tryz.ntmps22 rfl Tryz.results22 (by kernel_rfl) rfl ?_
 intro y ⟨a0, a1, _⟩ r H Q hn hr
 have hT := tc o52 tn
 refine qa tok hT [1, 2] (St.mk [p 1 (J a1), p 2 (AV.ptr 2 0)] [(2, Ob.box 24 [L y137 a0])]) (by kernel_rfl) ?_
 refine qd tok hT [1] (fun v0 => St.mk [p 1 (I v0)] [(2, Ob.box 24 [L y137 a0])]) H (by kernel_rfl) fun v0 H => ?_
 refine vx_seq <| ?_
 refine qa tok hT [1, 10] (St.mk [p 1 (I v0), p 10 (B (decide (v0 < 0)))] [(2, Ob.box 24 [L y137 a0])]) (by kernel_rfl) ?_
 refine cd H (by kernel_rfl) (fun H => ?_) (fun H => ?_)
 ·refine qa tok hT [4] (St.mk [p 4 (I (-1))] [(2, Ob.box 24 [L y137 a0])]) (by kernel_rfl) ?_
  exact vx_ret <| fx_seq_ret <| hr H (by kernel_rfl)
 refine vx_skip <| fx_seq <| ?_
 refine qa tok hT [4] (St.mk [p 4 (I v0)] [(2, Ob.box 24 [L y137 a0])]) (by kernel_rfl) ?_
 exact vx_ret <| hr H (by kernel_rfl)
def u6 (a0 : Y32) (a1 : Int) : Option (Int) :=
 gd ((u22 a0.1 a1).isSome = true ∧ True) <| lt (vl (u22 a0.1 a1)) fun v0 =>
 if (decide (v0 < 0)) = true then
  some (-1)
 else
  gd ((u23 a0.2.1 v0).isSome = true ∧ True) <| lt (vl (u23 a0.2.1 v0)) fun v1 =>
  if (decide (v1 < 0)) = true then
   some (-1)
  else
   gd ((u24 a0.2.2 v1).isSome = true ∧ True) <| lt (vl (u24 a0.2.2 v1)) fun v2 =>
   if (decide (v2 < 0)) = true then
    some (-1)
   else
    some v2
def k6 : Ct := lct 6 [.agg y32, .dat i64] (fun x => u6 x.1 x.2.1) (fun r : Int => I r) (fun _ => ())
theorem o6 : Ok Tryz.prog k6 := by
 refine okl tok [.tmp 4] Tryz.func6 Tryz.ntmps6 rfl Tryz.results6 (by kernel_rfl) rfl ?_
 intro y ⟨a0, a1, _⟩ r H Q hn hr
 have hT := tc o24 (tc o23 (tc o22 tn))
 refine qa tok hT [1, 2] (St.mk [p 1 (J a1), p 2 (AV.ptr 2 0)] [(2, Ob.box 32 (cellsD false y32 a0))]) (by kernel_rfl) ?_
 refine qd tok hT [1, 2] (fun v0 => St.mk [p 1 (I v0), p 2 (AV.ptr 2 0)] [(2, Ob.box 32 (cellsD false y32 a0))]) H (by kernel_rfl) fun v0 H => ?_
 refine vx_seq <| ?_
 refine qa tok hT [1, 2, 10] (St.mk [p 1 (I v0), p 2 (AV.ptr 2 0), p 10 (B (decide (v0 < 0)))] [(2, Ob.box 32 (cellsD false y32 a0))]) (by kernel_rfl) ?_
 refine cd H (by kernel_rfl) (fun H => ?_) (fun H => ?_)
 ·refine qa tok hT [4] (St.mk [p 4 (I (-1))] [(2, Ob.box 32 (cellsD false y32 a0))]) (by kernel_rfl) ?_
  exact vx_ret <| fx_seq_ret <| hr H (by kernel_rfl)
 refine vx_skip <| fx_seq <| ?_
 refine qd tok hT [1, 2] (fun v1 => St.mk [p 1 (I v1), p 2 (AV.ptr 2 0)] [(2, Ob.box 32 (cellsD false y32 a0))]) H (by kernel_rfl) fun v1 H => ?_
 refine vx_seq <| ?_
 refine qa tok hT [1, 2, 16] (St.mk [p 1 (I v1), p 2 (AV.ptr 2 0), p 16 (B (decide (v1 < 0)))] [(2, Ob.box 32 (cellsD false y32 a0))]) (by kernel_rfl) ?_
 refine cd H (by kernel_rfl) (fun H => ?_) (fun H => ?_)
 ·refine qa tok hT [4] (St.mk [p 4 (I (-1))] [(2, Ob.box 32 (cellsD false y32 a0))]) (by kernel_rfl) ?_
  exact vx_ret <| fx_seq_ret <| hr H (by kernel_rfl)
 refine vx_skip <| fx_seq <| ?_
 refine qd tok hT [1] (fun v2 => St.mk [p 1 (I v2)] [(2, Ob.box 32 (cellsD false y32 a0))]) H (by kernel_rfl) fun v2 H => ?_
 refine vx_seq <| ?_
 refine qa tok hT [1, 22] (St.mk [p 1 (I v2), p 22 (B (decide (v2 < 0)))] [(2, Ob.box 32 (cellsD false y32 a0))]) (by kernel_rfl) ?_
 refine cd H (by kernel_rfl) (fun H => ?_) (fun H => ?_)
 ·refine qa tok hT [4] (St.mk [p 4 (I (-1))] [(2, Ob.box 32 (cellsD false y32 a0))]) (by kernel_rfl) ?_
  exact vx_ret <| fx_seq_ret <| hr H (by kernel_rfl)
 refine vx_skip <| fx_seq <| ?_
 refine qa tok hT [4] (St.mk [p 4 (I v2)] [(2, Ob.box 32 (cellsD false y32 a0))]) (by kernel_rfl) ?_
 exact vx_ret <| hr H (by kernel_rfl)
def u3 (a0 : Y32) (a1 : Y37) : Option (Bool) :=
 gd ((u6 a0 1048576).isSome = true ∧ True) <| lt (vl (u6 a0 1048576)) fun v0 =>
 if (decide (v0 < 0)) = true then
  some true
 else
  gd ((u7 a1 v0).isSome = true ∧ True) <| lt (vl (u7 a1 v0)) fun v1 =>
  if (decide (v1 < 0)) = true then
   some true
  else
   gd ((u9 a0).isSome = true ∧ (u10 a1).isSome = true ∧ (u8 (vl (u9 a0)) (vl (u10 a1))).isSome = true ∧ True) <| lt ((vl (u8 (vl (u9 a0)) (vl (u10 a1))), vl (u10 a1), vl (u9 a0))) fun (v2, v3, v4) =>
   gd ((u9 a0).isSome = true ∧ True) <| lt (vl (u9 a0)) fun v5 =>
   gd ((u10 a1).isSome = true ∧ True) <| lt (vl (u10 a1)) fun v6 =>
   gd ((u11 v5 v6).isSome = true ∧ True) <| lt (vl (u11 v5 v6)) fun v7 =>
   if (v7 != v2) = true then
    some false
   else
    gd ((u9 a0).isSome = true ∧ (u12 v5 (vl (u9 a0))).isSome = true ∧ True) <| lt (vl (u9 a0)) fun v8 =>
    if (!vl (u12 v5 v8)) = true then
     some false
    else
     gd ((u10 a1).isSome = true ∧ (u13 v6 (vl (u10 a1))).isSome = true ∧ True) <| lt (vl (u10 a1)) fun v9 =>
     if (!vl (u13 v6 v9)) = true then
      some false
     else
      some true
def k3 : Ct := lct 3 [.agg y32, .agg y37] (fun x => u3 x.1 x.2.1) (fun r : Bool => B r) (fun _ => ())
theorem o3 : Ok Tryz.prog k3 := by
 refine okl tok [.tmp 4] Tryz.func3 Tryz.ntmps3 rfl Tryz.results3 (by kernel_rfl) rfl ?_
 intro y ⟨a0, a1, _⟩ r H Q hn hr
 have hT := tc o13 (tc o10 (tc o12 (tc o9 (tc o11 (tc o8 (tc o7 (tc o6 tn)))))))
 refine qa tok hT [2, 3] (St.mk [p 2 (AV.ptr 2 0), p 3 (AV.ptr 3 0)] [(3, Ob.box 37 (cellsD false y37 a1)), (2, Ob.box 32 (cellsD false y32 a0))]) (by kernel_rfl) ?_
 refine qa tok hT [2, 3, 5] (St.mk [p 2 (AV.ptr 2 0), p 3 (AV.ptr 3 0), p 5 (I 1048576)] [(3, Ob.box 37 (cellsD false y37 a1)), (2, Ob.box 32 (cellsD false y32 a0))]) (by kernel_rfl) ?_
 refine qd tok hT [2, 3, 5] (fun v0 => St.mk [p 2 (AV.ptr 2 0), p 3 (AV.ptr 3 0), p 5 (I v0)] [(3, Ob.box 37 (cellsD false y37 a1)), (2, Ob.box 32 (cellsD false y32 a0))]) H (by kernel_rfl) fun v0 H => ?_
 refine vx_seq <| ?_
 refine qa tok hT [2, 3, 5, 14] (St.mk [p 2 (AV.ptr 2 0), p 3 (AV.ptr 3 0), p 5 (I v0), p 14 (B (decide (v0 < 0)))] [(3, Ob.box 37 (cellsD false y37 a1)), (2, Ob.box 32 (cellsD false y32 a0))]) (by kernel_rfl) ?_
 refine cd H (by kernel_rfl) (fun H => ?_) (fun H => ?_)
 ·refine qa tok hT [4] (St.mk [p 4 (B true)] [(3, Ob.box 37 (cellsD false y37 a1)), (2, Ob.box 32 (cellsD false y32 a0))]) (by kernel_rfl) ?_
  exact vx_ret <| fx_seq_ret <| hr H (by kernel_rfl)
 refine vx_skip <| fx_seq <| ?_
 refine qd tok hT [2, 3, 5] (fun v1 => St.mk [p 2 (AV.ptr 2 0), p 3 (AV.ptr 3 0), p 5 (I v1)] [(3, Ob.box 37 (cellsD false y37 a1)), (2, Ob.box 32 (cellsD false y32 a0))]) H (by kernel_rfl) fun v1 H => ?_
 refine vx_seq <| ?_
 refine qa tok hT [2, 3, 19] (St.mk [p 2 (AV.ptr 2 0), p 3 (AV.ptr 3 0), p 19 (B (decide (v1 < 0)))] [(3, Ob.box 37 (cellsD false y37 a1)), (2, Ob.box 32 (cellsD false y32 a0))]) (by kernel_rfl) ?_
 refine cd H (by kernel_rfl) (fun H => ?_) (fun H => ?_)
 ·refine qa tok hT [4] (St.mk [p 4 (B true)] [(3, Ob.box 37 (cellsD false y37 a1)), (2, Ob.box 32 (cellsD false y32 a0))]) (by kernel_rfl) ?_
  exact vx_ret <| fx_seq_ret <| hr H (by kernel_rfl)
 refine vx_skip <| fx_seq <| ?_
 refine qd tok hT [2, 3, 6] (fun (v2, v3, v4) => St.mk [p 2 (AV.ptr 2 0), p 3 (AV.ptr 3 0), p 6 (I v2)] [(3023, Ob.arr 2 true i64 v3.2.2.2.2.2.2.2.2.2 0), (2023, Ob.arr 2 true i64 v3.2.2.2.2.2.2.2.2.1 0), (1023, Ob.arr 2 true i64 v3.2.2.2.2.2.2.2.1 0), (23, Ob.arr 2 true i64 v3.2.2.2.2.2.2.1 0), (4021, Ob.arr 52 true y52 v4.2.2 0), (3021, Ob.arr 144 true y144 v4.2.1.2.2 0), (2021, Ob.arr 9 true Ty.str v4.2.1.2.1 0), (1021, Ob.arr 109 true y109 v4.2.1.1 0), (21, Ob.arr 107 true y107 v4.1 0), (3, Ob.box 37 (cellsD false y37 a1)), (2, Ob.box 32 (cellsD false y32 a0))]) H (by kernel_rfl) fun ⟨v2, v3, v4⟩ H => ?_
 refine qd tok hT [2, 3, 6, 7] (fun v5 => St.mk [p 2 (AV.ptr 2 0), p 3 (AV.ptr 3 0), p 6 (I v2), p 7 (AV.ptr 7 0)] [(7, Ob.box 50 [AV.os 26 0, AV.os 1026 0, AV.os 2026 0, AV.os 3026 0, AV.os 4026 0]), (4026, Ob.arr 52 true y52 v5.2.2 0), (3026, Ob.arr 144 true y144 v5.2.1.2.2 0), (2026, Ob.arr 9 true Ty.str v5.2.1.2.1 0), (1026, Ob.arr 109 true y109 v5.2.1.1 0), (26, Ob.arr 107 true y107 v5.1 0), (3023, Ob.arr 2 true i64 v3.2.2.2.2.2.2.2.2.2 0), (2023, Ob.arr 2 true i64 v3.2.2.2.2.2.2.2.2.1 0), (1023, Ob.arr 2 true i64 v3.2.2.2.2.2.2.2.1 0), (23, Ob.arr 2 true i64 v3.2.2.2.2.2.2.1 0), (4021, Ob.arr 52 true y52 v4.2.2 0), (3021, Ob.arr 144 true y144 v4.2.1.2.2 0), (2021, Ob.arr 9 true Ty.str v4.2.1.2.1 0), (1021, Ob.arr 109 true y109 v4.2.1.1 0), (21, Ob.arr 107 true y107 v4.1 0), (3, Ob.box 37 (cellsD false y37 a1)), (2, Ob.box 32 (cellsD false y32 a0))]) H (by kernel_rfl) fun v5 H => ?_
 refine qd tok hT [2, 3, 6, 7, 8] (fun v6 => St.mk [p 2 (AV.ptr 2 0), p 3 (AV.ptr 3 0), p 6 (I v2), p 7 (AV.ptr 7 0), p 8 (AV.ptr 8 0)] [(8, Ob.box 54 [I v6.1, I v6.2.1, I v6.2.2.1, I v6.2.2.2.1, I v6.2.2.2.2.1, S v6.2.2.2.2.2.1, AV.os 28 0, AV.os 1028 0, AV.os 2028 0, AV.os 3028 0]), (3028, Ob.arr 2 true i64 v6.2.2.2.2.2.2.2.2.2 0), (2028, Ob.arr 2 true i64 v6.2.2.2.2.2.2.2.2.1 0), (1028, Ob.arr 2 true i64 v6.2.2.2.2.2.2.2.1 0), (28, Ob.arr 2 true i64 v6.2.2.2.2.2.2.1 0), (7, Ob.box 50 [AV.os 26 0, AV.os 1026 0, AV.os 2026 0, AV.os 3026 0, AV.os 4026 0]), (4026, Ob.arr 52 true y52 v5.2.2 0), (3026, Ob.arr 144 true y144 v5.2.1.2.2 0), (2026, Ob.arr 9 true Ty.str v5.2.1.2.1 0), (1026, Ob.arr 109 true y109 v5.2.1.1 0), (26, Ob.arr 107 true y107 v5.1 0), (3023, Ob.arr 2 true i64 v3.2.2.2.2.2.2.2.2.2 0), (2023, Ob.arr 2 true i64 v3.2.2.2.2.2.2.2.2.1 0), (1023, Ob.arr 2 true i64 v3.2.2.2.2.2.2.2.1 0), (23, Ob.arr 2 true i64 v3.2.2.2.2.2.2.1 0), (4021, Ob.arr 52 true y52 v4.2.2 0), (3021, Ob.arr 144 true y144 v4.2.1.2.2 0), (2021, Ob.arr 9 true Ty.str v4.2.1.2.1 0), (1021, Ob.arr 109 true y109 v4.2.1.1 0), (21, Ob.arr 107 true y107 v4.1 0), (3, Ob.box 37 (cellsD false y37 a1)), (2, Ob.box 32 (cellsD false y32 a0))]) H (by kernel_rfl) fun v6 H => ?_
 refine qd tok hT [2, 3, 6, 7, 8, 9] (fun v7 => St.mk [p 2 (AV.ptr 2 0), p 3 (AV.ptr 3 0), p 6 (I v2), p 7 (AV.ptr 7 0), p 8 (AV.ptr 8 0), p 9 (I v7)] [(8, Ob.box 54 [I v6.1, I v6.2.1, I v6.2.2.1, I v6.2.2.2.1, I v6.2.2.2.2.1, S v6.2.2.2.2.2.1, AV.os 28 0, AV.os 1028 0, AV.os 2028 0, AV.os 3028 0]), (3028, Ob.arr 2 true i64 v6.2.2.2.2.2.2.2.2.2 0), (2028, Ob.arr 2 true i64 v6.2.2.2.2.2.2.2.2.1 0), (1028, Ob.arr 2 true i64 v6.2.2.2.2.2.2.2.1 0), (28, Ob.arr 2 true i64 v6.2.2.2.2.2.2.1 0), (7, Ob.box 50 [AV.os 26 0, AV.os 1026 0, AV.os 2026 0, AV.os 3026 0, AV.os 4026 0]), (4026, Ob.arr 52 true y52 v5.2.2 0), (3026, Ob.arr 144 true y144 v5.2.1.2.2 0), (2026, Ob.arr 9 true Ty.str v5.2.1.2.1 0), (1026, Ob.arr 109 true y109 v5.2.1.1 0), (26, Ob.arr 107 true y107 v5.1 0), (3023, Ob.arr 2 true i64 v3.2.2.2.2.2.2.2.2.2 0), (2023, Ob.arr 2 true i64 v3.2.2.2.2.2.2.2.2.1 0), (1023, Ob.arr 2 true i64 v3.2.2.2.2.2.2.2.1 0), (23, Ob.arr 2 true i64 v3.2.2.2.2.2.2.1 0), (4021, Ob.arr 52 true y52 v4.2.2 0), (3021, Ob.arr 144 true y144 v4.2.1.2.2 0), (2021, Ob.arr 9 true Ty.str v4.2.1.2.1 0), (1021, Ob.arr 109 true y109 v4.2.1.1 0), (21, Ob.arr 107 true y107 v4.1 0), (3, Ob.box 37 (cellsD false y37 a1)), (2, Ob.box 32 (cellsD false y32 a0))]) H (by kernel_rfl) fun v7 H => ?_
 refine vx_seq <| ?_
 refine qa tok hT [2, 3, 7, 8, 34] (St.mk [p 2 (AV.ptr 2 0), p 3 (AV.ptr 3 0), p 7 (AV.ptr 7 0), p 8 (AV.ptr 8 0), p 34 (B (v7 != v2))] [(8, Ob.box 54 [I v6.1, I v6.2.1, I v6.2.2.1, I v6.2.2.2.1, I v6.2.2.2.2.1, S v6.2.2.2.2.2.1, AV.os 28 0, AV.os 1028 0, AV.os 2028 0, AV.os 3028 0]), (3028, Ob.arr 2 true i64 v6.2.2.2.2.2.2.2.2.2 0), (2028, Ob.arr 2 true i64 v6.2.2.2.2.2.2.2.2.1 0), (1028, Ob.arr 2 true i64 v6.2.2.2.2.2.2.2.1 0), (28, Ob.arr 2 true i64 v6.2.2.2.2.2.2.1 0), (7, Ob.box 50 [AV.os 26 0, AV.os 1026 0, AV.os 2026 0, AV.os 3026 0, AV.os 4026 0]), (4026, Ob.arr 52 true y52 v5.2.2 0), (3026, Ob.arr 144 true y144 v5.2.1.2.2 0), (2026, Ob.arr 9 true Ty.str v5.2.1.2.1 0), (1026, Ob.arr 109 true y109 v5.2.1.1 0), (26, Ob.arr 107 true y107 v5.1 0), (3023, Ob.arr 2 true i64 v3.2.2.2.2.2.2.2.2.2 0), (2023, Ob.arr 2 true i64 v3.2.2.2.2.2.2.2.2.1 0), (1023, Ob.arr 2 true i64 v3.2.2.2.2.2.2.2.1 0), (23, Ob.arr 2 true i64 v3.2.2.2.2.2.2.1 0), (4021, Ob.arr 52 true y52 v4.2.2 0), (3021, Ob.arr 144 true y144 v4.2.1.2.2 0), (2021, Ob.arr 9 true Ty.str v4.2.1.2.1 0), (1021, Ob.arr 109 true y109 v4.2.1.1 0), (21, Ob.arr 107 true y107 v4.1 0), (3, Ob.box 37 (cellsD false y37 a1)), (2, Ob.box 32 (cellsD false y32 a0))]) (by kernel_rfl) ?_
 refine cd H (by kernel_rfl) (fun H => ?_) (fun H => ?_)
 ·refine qa tok hT [4] (St.mk [p 4 (B false)] [(8, Ob.box 54 [I v6.1, I v6.2.1, I v6.2.2.1, I v6.2.2.2.1, I v6.2.2.2.2.1, S v6.2.2.2.2.2.1, AV.os 28 0, AV.os 1028 0, AV.os 2028 0, AV.os 3028 0]), (3028, Ob.arr 2 true i64 v6.2.2.2.2.2.2.2.2.2 0), (2028, Ob.arr 2 true i64 v6.2.2.2.2.2.2.2.2.1 0), (1028, Ob.arr 2 true i64 v6.2.2.2.2.2.2.2.1 0), (28, Ob.arr 2 true i64 v6.2.2.2.2.2.2.1 0), (7, Ob.box 50 [AV.os 26 0, AV.os 1026 0, AV.os 2026 0, AV.os 3026 0, AV.os 4026 0]), (4026, Ob.arr 52 true y52 v5.2.2 0), (3026, Ob.arr 144 true y144 v5.2.1.2.2 0), (2026, Ob.arr 9 true Ty.str v5.2.1.2.1 0), (1026, Ob.arr 109 true y109 v5.2.1.1 0), (26, Ob.arr 107 true y107 v5.1 0), (3023, Ob.arr 2 true i64 v3.2.2.2.2.2.2.2.2.2 0), (2023, Ob.arr 2 true i64 v3.2.2.2.2.2.2.2.2.1 0), (1023, Ob.arr 2 true i64 v3.2.2.2.2.2.2.2.1 0), (23, Ob.arr 2 true i64 v3.2.2.2.2.2.2.1 0), (4021, Ob.arr 52 true y52 v4.2.2 0), (3021, Ob.arr 144 true y144 v4.2.1.2.2 0), (2021, Ob.arr 9 true Ty.str v4.2.1.2.1 0), (1021, Ob.arr 109 true y109 v4.2.1.1 0), (21, Ob.arr 107 true y107 v4.1 0), (3, Ob.box 37 (cellsD false y37 a1)), (2, Ob.box 32 (cellsD false y32 a0))]) (by kernel_rfl) ?_
  exact vx_ret <| fx_seq_ret <| hr H (by kernel_rfl)
 refine vx_skip <| fx_seq <| vx_seq <| ?_
 refine qd tok hT [3, 8, 39] (fun v8 => St.mk [p 3 (AV.ptr 3 0), p 8 (AV.ptr 8 0), p 39 (B !vl (u12 v5 v8))] [(4037, Ob.arr 52 true y52 v8.2.2 0), (3037, Ob.arr 144 true y144 v8.2.1.2.2 0), (2037, Ob.arr 9 true Ty.str v8.2.1.2.1 0), (1037, Ob.arr 109 true y109 v8.2.1.1 0), (37, Ob.arr 107 true y107 v8.1 0), (8, Ob.box 54 [I v6.1, I v6.2.1, I v6.2.2.1, I v6.2.2.2.1, I v6.2.2.2.2.1, S v6.2.2.2.2.2.1, AV.os 28 0, AV.os 1028 0, AV.os 2028 0, AV.os 3028 0]), (3028, Ob.arr 2 true i64 v6.2.2.2.2.2.2.2.2.2 0), (2028, Ob.arr 2 true i64 v6.2.2.2.2.2.2.2.2.1 0), (1028, Ob.arr 2 true i64 v6.2.2.2.2.2.2.2.1 0), (28, Ob.arr 2 true i64 v6.2.2.2.2.2.2.1 0), (7, Ob.box 50 [AV.os 26 0, AV.os 1026 0, AV.os 2026 0, AV.os 3026 0, AV.os 4026 0]), (4026, Ob.arr 52 true y52 v5.2.2 0), (3026, Ob.arr 144 true y144 v5.2.1.2.2 0), (2026, Ob.arr 9 true Ty.str v5.2.1.2.1 0), (1026, Ob.arr 109 true y109 v5.2.1.1 0), (26, Ob.arr 107 true y107 v5.1 0), (3023, Ob.arr 2 true i64 v3.2.2.2.2.2.2.2.2.2 0), (2023, Ob.arr 2 true i64 v3.2.2.2.2.2.2.2.2.1 0), (1023, Ob.arr 2 true i64 v3.2.2.2.2.2.2.2.1 0), (23, Ob.arr 2 true i64 v3.2.2.2.2.2.2.1 0), (4021, Ob.arr 52 true y52 v4.2.2 0), (3021, Ob.arr 144 true y144 v4.2.1.2.2 0), (2021, Ob.arr 9 true Ty.str v4.2.1.2.1 0), (1021, Ob.arr 109 true y109 v4.2.1.1 0), (21, Ob.arr 107 true y107 v4.1 0), (3, Ob.box 37 (cellsD false y37 a1)), (2, Ob.box 32 (cellsD false y32 a0))]) H (by kernel_rfl) fun v8 H => ?_
 refine cd H (by kernel_rfl) (fun H => ?_) (fun H => ?_)
 ·refine qa tok hT [4] (St.mk [p 4 (B false)] [(4037, Ob.arr 52 true y52 v8.2.2 0), (3037, Ob.arr 144 true y144 v8.2.1.2.2 0), (2037, Ob.arr 9 true Ty.str v8.2.1.2.1 0), (1037, Ob.arr 109 true y109 v8.2.1.1 0), (37, Ob.arr 107 true y107 v8.1 0), (8, Ob.box 54 [I v6.1, I v6.2.1, I v6.2.2.1, I v6.2.2.2.1, I v6.2.2.2.2.1, S v6.2.2.2.2.2.1, AV.os 28 0, AV.os 1028 0, AV.os 2028 0, AV.os 3028 0]), (3028, Ob.arr 2 true i64 v6.2.2.2.2.2.2.2.2.2 0), (2028, Ob.arr 2 true i64 v6.2.2.2.2.2.2.2.2.1 0), (1028, Ob.arr 2 true i64 v6.2.2.2.2.2.2.2.1 0), (28, Ob.arr 2 true i64 v6.2.2.2.2.2.2.1 0), (7, Ob.box 50 [AV.os 26 0, AV.os 1026 0, AV.os 2026 0, AV.os 3026 0, AV.os 4026 0]), (4026, Ob.arr 52 true y52 v5.2.2 0), (3026, Ob.arr 144 true y144 v5.2.1.2.2 0), (2026, Ob.arr 9 true Ty.str v5.2.1.2.1 0), (1026, Ob.arr 109 true y109 v5.2.1.1 0), (26, Ob.arr 107 true y107 v5.1 0), (3023, Ob.arr 2 true i64 v3.2.2.2.2.2.2.2.2.2 0), (2023, Ob.arr 2 true i64 v3.2.2.2.2.2.2.2.2.1 0), (1023, Ob.arr 2 true i64 v3.2.2.2.2.2.2.2.1 0), (23, Ob.arr 2 true i64 v3.2.2.2.2.2.2.1 0), (4021, Ob.arr 52 true y52 v4.2.2 0), (3021, Ob.arr 144 true y144 v4.2.1.2.2 0), (2021, Ob.arr 9 true Ty.str v4.2.1.2.1 0), (1021, Ob.arr 109 true y109 v4.2.1.1 0), (21, Ob.arr 107 true y107 v4.1 0), (3, Ob.box 37 (cellsD false y37 a1)), (2, Ob.box 32 (cellsD false y32 a0))]) (by kernel_rfl) ?_
  exact vx_ret <| fx_seq_ret <| hr H (by kernel_rfl)
 refine vx_skip <| fx_seq <| vx_seq <| ?_
 refine qd tok hT [44] (fun v9 => St.mk [p 44 (B !vl (u13 v6 v9))] [(3042, Ob.arr 2 true i64 v9.2.2.2.2.2.2.2.2.2 0), (2042, Ob.arr 2 true i64 v9.2.2.2.2.2.2.2.2.1 0), (1042, Ob.arr 2 true i64 v9.2.2.2.2.2.2.2.1 0), (42, Ob.arr 2 true i64 v9.2.2.2.2.2.2.1 0), (4037, Ob.arr 52 true y52 v8.2.2 0), (3037, Ob.arr 144 true y144 v8.2.1.2.2 0), (2037, Ob.arr 9 true Ty.str v8.2.1.2.1 0), (1037, Ob.arr 109 true y109 v8.2.1.1 0), (37, Ob.arr 107 true y107 v8.1 0), (8, Ob.box 54 [I v6.1, I v6.2.1, I v6.2.2.1, I v6.2.2.2.1, I v6.2.2.2.2.1, S v6.2.2.2.2.2.1, AV.os 28 0, AV.os 1028 0, AV.os 2028 0, AV.os 3028 0]), (3028, Ob.arr 2 true i64 v6.2.2.2.2.2.2.2.2.2 0), (2028, Ob.arr 2 true i64 v6.2.2.2.2.2.2.2.2.1 0), (1028, Ob.arr 2 true i64 v6.2.2.2.2.2.2.2.1 0), (28, Ob.arr 2 true i64 v6.2.2.2.2.2.2.1 0), (7, Ob.box 50 [AV.os 26 0, AV.os 1026 0, AV.os 2026 0, AV.os 3026 0, AV.os 4026 0]), (4026, Ob.arr 52 true y52 v5.2.2 0), (3026, Ob.arr 144 true y144 v5.2.1.2.2 0), (2026, Ob.arr 9 true Ty.str v5.2.1.2.1 0), (1026, Ob.arr 109 true y109 v5.2.1.1 0), (26, Ob.arr 107 true y107 v5.1 0), (3023, Ob.arr 2 true i64 v3.2.2.2.2.2.2.2.2.2 0), (2023, Ob.arr 2 true i64 v3.2.2.2.2.2.2.2.2.1 0), (1023, Ob.arr 2 true i64 v3.2.2.2.2.2.2.2.1 0), (23, Ob.arr 2 true i64 v3.2.2.2.2.2.2.1 0), (4021, Ob.arr 52 true y52 v4.2.2 0), (3021, Ob.arr 144 true y144 v4.2.1.2.2 0), (2021, Ob.arr 9 true Ty.str v4.2.1.2.1 0), (1021, Ob.arr 109 true y109 v4.2.1.1 0), (21, Ob.arr 107 true y107 v4.1 0), (3, Ob.box 37 (cellsD false y37 a1)), (2, Ob.box 32 (cellsD false y32 a0))]) H (by kernel_rfl) fun v9 H => ?_
 refine cd H (by kernel_rfl) (fun H => ?_) (fun H => ?_)
 ·refine qa tok hT [4] (St.mk [p 4 (B false)] [(3042, Ob.arr 2 true i64 v9.2.2.2.2.2.2.2.2.2 0), (2042, Ob.arr 2 true i64 v9.2.2.2.2.2.2.2.2.1 0), (1042, Ob.arr 2 true i64 v9.2.2.2.2.2.2.2.1 0), (42, Ob.arr 2 true i64 v9.2.2.2.2.2.2.1 0), (4037, Ob.arr 52 true y52 v8.2.2 0), (3037, Ob.arr 144 true y144 v8.2.1.2.2 0), (2037, Ob.arr 9 true Ty.str v8.2.1.2.1 0), (1037, Ob.arr 109 true y109 v8.2.1.1 0), (37, Ob.arr 107 true y107 v8.1 0), (8, Ob.box 54 [I v6.1, I v6.2.1, I v6.2.2.1, I v6.2.2.2.1, I v6.2.2.2.2.1, S v6.2.2.2.2.2.1, AV.os 28 0, AV.os 1028 0, AV.os 2028 0, AV.os 3028 0]), (3028, Ob.arr 2 true i64 v6.2.2.2.2.2.2.2.2.2 0), (2028, Ob.arr 2 true i64 v6.2.2.2.2.2.2.2.2.1 0), (1028, Ob.arr 2 true i64 v6.2.2.2.2.2.2.2.1 0), (28, Ob.arr 2 true i64 v6.2.2.2.2.2.2.1 0), (7, Ob.box 50 [AV.os 26 0, AV.os 1026 0, AV.os 2026 0, AV.os 3026 0, AV.os 4026 0]), (4026, Ob.arr 52 true y52 v5.2.2 0), (3026, Ob.arr 144 true y144 v5.2.1.2.2 0), (2026, Ob.arr 9 true Ty.str v5.2.1.2.1 0), (1026, Ob.arr 109 true y109 v5.2.1.1 0), (26, Ob.arr 107 true y107 v5.1 0), (3023, Ob.arr 2 true i64 v3.2.2.2.2.2.2.2.2.2 0), (2023, Ob.arr 2 true i64 v3.2.2.2.2.2.2.2.2.1 0), (1023, Ob.arr 2 true i64 v3.2.2.2.2.2.2.2.1 0), (23, Ob.arr 2 true i64 v3.2.2.2.2.2.2.1 0), (4021, Ob.arr 52 true y52 v4.2.2 0), (3021, Ob.arr 144 true y144 v4.2.1.2.2 0), (2021, Ob.arr 9 true Ty.str v4.2.1.2.1 0), (1021, Ob.arr 109 true y109 v4.2.1.1 0), (21, Ob.arr 107 true y107 v4.1 0), (3, Ob.box 37 (cellsD false y37 a1)), (2, Ob.box 32 (cellsD false y32 a0))]) (by kernel_rfl) ?_
  exact vx_ret <| fx_seq_ret <| hr H (by kernel_rfl)
 refine vx_skip <| fx_seq <| ?_
 refine qa tok hT [4] (St.mk [p 4 (B true)] [(3042, Ob.arr 2 true i64 v9.2.2.2.2.2.2.2.2.2 0), (2042, Ob.arr 2 true i64 v9.2.2.2.2.2.2.2.2.1 0), (1042, Ob.arr 2 true i64 v9.2.2.2.2.2.2.2.1 0), (42, Ob.arr 2 true i64 v9.2.2.2.2.2.2.1 0), (4037, Ob.arr 52 true y52 v8.2.2 0), (3037, Ob.arr 144 true y144 v8.2.1.2.2 0), (2037, Ob.arr 9 true Ty.str v8.2.1.2.1 0), (1037, Ob.arr 109 true y109 v8.2.1.1 0), (37, Ob.arr 107 true y107 v8.1 0), (8, Ob.box 54 [I v6.1, I v6.2.1, I v6.2.2.1, I v6.2.2.2.1, I v6.2.2.2.2.1, S v6.2.2.2.2.2.1, AV.os 28 0, AV.os 1028 0, AV.os 2028 0, AV.os 3028 0]), (3028, Ob.arr 2 true i64 v6.2.2.2.2.2.2.2.2.2 0), (2028, Ob.arr 2 true i64 v6.2.2.2.2.2.2.2.2.1 0), (1028, Ob.arr 2 true i64 v6.2.2.2.2.2.2.2.1 0), (28, Ob.arr 2 true i64 v6.2.2.2.2.2.2.1 0), (7, Ob.box 50 [AV.os 26 0, AV.os 1026 0, AV.os 2026 0, AV.os 3026 0, AV.os 4026 0]), (4026, Ob.arr 52 true y52 v5.2.2 0), (3026, Ob.arr 144 true y144 v5.2.1.2.2 0), (2026, Ob.arr 9 true Ty.str v5.2.1.2.1 0), (1026, Ob.arr 109 true y109 v5.2.1.1 0), (26, Ob.arr 107 true y107 v5.1 0), (3023, Ob.arr 2 true i64 v3.2.2.2.2.2.2.2.2.2 0), (2023, Ob.arr 2 true i64 v3.2.2.2.2.2.2.2.2.1 0), (1023, Ob.arr 2 true i64 v3.2.2.2.2.2.2.2.1 0), (23, Ob.arr 2 true i64 v3.2.2.2.2.2.2.1 0), (4021, Ob.arr 52 true y52 v4.2.2 0), (3021, Ob.arr 144 true y144 v4.2.1.2.2 0), (2021, Ob.arr 9 true Ty.str v4.2.1.2.1 0), (1021, Ob.arr 109 true y109 v4.2.1.1 0), (21, Ob.arr 107 true y107 v4.1 0), (3, Ob.box 37 (cellsD false y37 a1)), (2, Ob.box 32 (cellsD false y32 a0))]) (by kernel_rfl) ?_
 exact vx_ret <| hr H (by kernel_rfl)
end Go.Proofs.YtkmmjamclcdjkaaGreatDoor
