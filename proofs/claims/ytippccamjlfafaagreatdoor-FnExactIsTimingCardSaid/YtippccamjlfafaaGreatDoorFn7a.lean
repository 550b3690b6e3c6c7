/- Functions of this program as plain functions of data, and that they are so: printed by program. -/
import Derived.Test.YtippccamjlfafaaGreatDoorXE
import Derived.Test.YtippccamjlfafaaGreatDoorTY
import Derived.Test.YtippccamjlfafaaGreatDoorLB
namespace Go.Proofs.YtippccamjlfafaaGreatDoor
open Go Go.Proofs Go.Proofs.Sv Go.Proofs.Xv Go.Proofs.Xl Go.RowKit
def u106 (a0 : Y105) (a1 : Y105) : Option (Bool) :=
 if (a0.1 != a1.1) = true then
  some false
 else
  if (a0.2 != a1.2) = true then
   some false
  else
   some true
def k106 : Ct := lct 106 [.agg y105, .agg y105] (fun x => u106 x.1 x.2.1) (fun r : Bool => B r) (fun _ => ())
theorem o106 : Ok Tryz.prog k106 := by
 refine okl tok [.tmp 4] Tryz.func106 Tryz.ntmps106 rfl Tryz.results106 (by kernel_rfl) rfl ?_
 intro y ⟨a0, a1, _⟩ r H Q hn hr
 have hT := @tn Tryz.prog
 refine qa tok hT [2, 3] (St.mk [p 2 (AV.ptr 2 0), p 3 (AV.ptr 3 0)] [(3, Ob.box 105 (cellsD false y105 a1)), (2, Ob.box 105 (cellsD false y105 a0))]) (by kernel_rfl) ?_
 refine vx_seq <| ?_
 refine qa tok hT [2, 3, 9] (St.mk [p 2 (AV.ptr 2 0), p 3 (AV.ptr 3 0), p 9 (B (a0.1 != a1.1))] [(3, Ob.box 105 (cellsD false y105 a1)), (2, Ob.box 105 (cellsD false y105 a0))]) (by kernel_rfl) ?_
 refine cd H (by kernel_rfl) (fun H => ?_) (fun H => ?_)
 ·refine qa tok hT [4] (St.mk [p 4 (B false)] [(3, Ob.box 105 (cellsD false y105 a1)), (2, Ob.box 105 (cellsD false y105 a0))]) (by kernel_rfl) ?_
  exact vx_ret <| fx_seq_ret <| hr H (by kernel_rfl)
 refine vx_skip <| fx_seq <| vx_seq <| ?_
 refine qa tok hT [14] (St.mk [p 14 (B (a0.2 != a1.2))] [(3, Ob.box 105 (cellsD false y105 a1)), (2, Ob.box 105 (cellsD false y105 a0))]) (by kernel_rfl) ?_
 refine cd H (by kernel_rfl) (fun H => ?_) (fun H => ?_)
 ·refine qa tok hT [4] (St.mk [p 4 (B false)] [(3, Ob.box 105 (cellsD false y105 a1)), (2, Ob.box 105 (cellsD false y105 a0))]) (by kernel_rfl) ?_
  exact vx_ret <| fx_seq_ret <| hr H (by kernel_rfl)
 refine vx_skip <| fx_seq <| ?_
 refine qa tok hT [4] (St.mk [p 4 (B true)] [(3, Ob.box 105 (cellsD false y105 a1)), (2, Ob.box 105 (cellsD false y105 a0))]) (by kernel_rfl) ?_
 exact vx_ret <| hr H (by kernel_rfl)
def u63J0 : Unit → Option (Bool)
 | _ =>
 some true
def u63L1 (a0 : List Y105) (a1 : List Y105) (g1 : Int → Option (Bool)) : Int → Option (Bool)
 | v0 =>
 if (decide (v0 < (↑a0.length : Int))) = true then
  gd (ix v0 a0.length ∧ ix v0 a1.length ∧ (u106 (a0.getD v0.toNat (dflt y105)) (a1.getD v0.toNat (dflt y105))).isSome = true ∧ True) <| 
  if (!vl (u106 (a0.getD v0.toNat (dflt y105)) (a1.getD v0.toNat (dflt y105)))) = true then
   some false
  else
   gd (in64 (v0 + 1) ∧ True) <| 
   g1 (v0 + 1)
 else
  u63J0 ()
def u63 (a0 : List Y105) (a1 : List Y105) : Option (Bool) :=
 if ((↑a0.length : Int) != (↑a1.length : Int)) = true then
  some false
 else
  lp (u63L1 a0 a1) 0
def k63 : Ct := lct 63 [.dat y105.sl, .dat y105.sl] (fun x => u63 x.1 x.2.1) (fun r : Bool => B r) (fun _ => ())
theorem o63 : Ok Tryz.prog k63 := by
 refine okl tok [.tmp 4] Tryz.func63 Tryz.ntmps63 rfl Tryz.results63 (by kernel_rfl) rfl ?_
 intro y ⟨a0, a1, _⟩ r H Q hn hr
 have hT := tc o106 tn
 refine qa tok hT [0, 1] (St.mk [p 0 (L y105 a0), p 1 (L y105 a1)] []) (by kernel_rfl) ?_
 refine vx_seq <| ?_
 refine qa tok hT [0, 1, 10] (St.mk [p 0 (L y105 a0), p 1 (L y105 a1), p 10 (B ((↑a0.length : Int) != (↑a1.length : Int)))] []) (by kernel_rfl) ?_
 refine cd H (by kernel_rfl) (fun H => ?_) (fun H => ?_)
 ·refine qa tok hT [4] (St.mk [p 4 (B false)] []) (by kernel_rfl) ?_
  exact vx_ret <| fx_seq_ret <| hr H (by kernel_rfl)
 refine vx_skip <| fx_seq <| ?_
 refine jn r (fun (_ : Unit) => St.mk [] []) (u63J0) (fun _ H => ?_) (fun _ n0 e0 t0 => ?_)
 ·refine qa tok hT [4] (St.mk [p 4 (B true)] []) (by kernel_rfl) ?_
  exact vx_ret <| hr H (by kernel_rfl)
 refine qa tok hT [0, 1, 5] (St.mk [p 0 (L y105 a0), p 1 (L y105 a1), p 5 (I 0)] []) (by kernel_rfl) ?_
 refine vx_block <| ?_
 refine lx (fun (v0 : Int) => St.mk [p 0 (L y105 a0), p 1 (L y105 a1), p 5 (I v0)] []) 0 H (by kernel_rfl) fun _ g1 b1 e1 t1 v0 H => ?_
 refine vx_seq <| ?_
 refine qa tok hT [0, 1, 5, 14] (St.mk [p 0 (L y105 a0), p 1 (L y105 a1), p 5 (I v0), p 14 (B (decide (v0 < (↑a0.length : Int))))] []) (by kernel_rfl) ?_
 refine cd H (by kernel_rfl) (fun H => ?_) (fun H => ?_)
 ·refine vx_skip <| fx_seq <| vx_seq <| vx_block <| ?_
  refine qb tok hT [0, 1, 5, 26] (St.mk [p 0 (L y105 a0), p 1 (L y105 a1), p 5 (I v0), p 26 (B !vl (u106 (a0.getD v0.toNat (dflt y105)) (a1.getD v0.toNat (dflt y105))))] []) H (by kernel_rfl) fun H => ?_
  refine cd H (by kernel_rfl) (fun H => ?_) (fun H => ?_)
  ·refine qa tok hT [4] (St.mk [p 4 (B false)] []) (by kernel_rfl) ?_
   exact vx_ret <| fx_blk_ret <| fx_seq_ret <| t1 <| fx_blk_ret <| t0 <| hr H (by kernel_rfl)
  refine vx_skip <| fx_blk <| fx_seq <| ?_
  refine zb tok hT [0, 1, 5] (St.mk [p 0 (L y105 a0), p 1 (L y105 a1), p 5 (I (v0 + 1))] []) H (by kernel_rfl) fun H => ?_
  exact b1 H (by kernel_rfl)
 exact vx_exit <| fx_seq_exit <| e1 <| fx_blk_exit rfl <| n0 H (by kernel_rfl)
def u62J0 : Unit → Option (Bool)
 | _ =>
 some true
def u62L1 (a0 : List Bool) (a1 : List Bool) (g1 : Int → Option (Bool)) : Int → Option (Bool)
 | v0 =>
 if (decide (v0 < (↑a0.length : Int))) = true then
  gd (ix v0 a0.length ∧ ix v0 a1.length ∧ True) <| 
  if (!a0.getD v0.toNat false == a1.getD v0.toNat false) = true then
   some false
  else
   gd (in64 (v0 + 1) ∧ True) <| 
   g1 (v0 + 1)
 else
  u62J0 ()
def u62 (a0 : List Bool) (a1 : List Bool) : Option (Bool) :=
 if ((↑a0.length : Int) != (↑a1.length : Int)) = true then
  some false
 else
  lp (u62L1 a0 a1) 0
def k62 : Ct := lct 62 [.dat Ty.bool.sl, .dat Ty.bool.sl] (fun x => u62 x.1 x.2.1) (fun r : Bool => B r) (fun _ => ())
theorem o62 : Ok Tryz.prog k62 := by
 refine okl tok [.tmp 4] Tryz.func62 Tryz.ntmps62 rfl Tryz.results62 (by kernel_rfl) rfl ?_
 intro y ⟨a0, a1, _⟩ r H Q hn hr
 have hT := @tn Tryz.prog
 refine qa tok hT [0, 1] (St.mk [p 0 (L Ty.bool a0), p 1 (L Ty.bool a1)] []) (by kernel_rfl) ?_
 refine vx_seq <| ?_
 refine qa tok hT [0, 1, 10] (St.mk [p 0 (L Ty.bool a0), p 1 (L Ty.bool a1), p 10 (B ((↑a0.length : Int) != (↑a1.length : Int)))] []) (by kernel_rfl) ?_
 refine cd H (by kernel_rfl) (fun H => ?_) (fun H => ?_)
 ·refine qa tok hT [4] (St.mk [p 4 (B false)] []) (by kernel_rfl) ?_
  exact vx_ret <| fx_seq_ret <| hr H (by kernel_rfl)
 refine vx_skip <| fx_seq <| ?_
 refine jn r (fun (_ : Unit) => St.mk [] []) (u62J0) (fun _ H => ?_) (fun _ n0 e0 t0 => ?_)
 ·refine qa tok hT [4] (St.mk [p 4 (B true)] []) (by kernel_rfl) ?_
  exact vx_ret <| hr H (by kernel_rfl)
 refine qa tok hT [0, 1, 5] (St.mk [p 0 (L Ty.bool a0), p 1 (L Ty.bool a1), p 5 (I 0)] []) (by kernel_rfl) ?_
 refine vx_block <| ?_
 refine lx (fun (v0 : Int) => St.mk [p 0 (L Ty.bool a0), p 1 (L Ty.bool a1), p 5 (I v0)] []) 0 H (by kernel_rfl) fun _ g1 b1 e1 t1 v0 H => ?_
 refine vx_seq <| ?_
 refine qa tok hT [0, 1, 5, 14] (St.mk [p 0 (L Ty.bool a0), p 1 (L Ty.bool a1), p 5 (I v0), p 14 (B (decide (v0 < (↑a0.length : Int))))] []) (by kernel_rfl) ?_
 refine cd H (by kernel_rfl) (fun H => ?_) (fun H => ?_)
 ·refine vx_skip <| fx_seq <| vx_seq <| vx_block <| ?_
  refine qb tok hT [0, 1, 5, 25] (St.mk [p 0 (L Ty.bool a0), p 1 (L Ty.bool a1), p 5 (I v0), p 25 (B !a0.getD v0.toNat false == a1.getD v0.toNat false)] []) H (by kernel_rfl) fun H => ?_
  refine cd H (by kernel_rfl) (fun H => ?_) (fun H => ?_)
  ·refine qa tok hT [4] (St.mk [p 4 (B false)] []) (by kernel_rfl) ?_
   exact vx_ret <| fx_blk_ret <| fx_seq_ret <| t1 <| fx_blk_ret <| t0 <| hr H (by kernel_rfl)
  refine vx_skip <| fx_blk <| fx_seq <| ?_
  refine zb tok hT [0, 1, 5] (St.mk [p 0 (L Ty.bool a0), p 1 (L Ty.bool a1), p 5 (I (v0 + 1))] []) H (by kernel_rfl) fun H => ?_
  exact b1 H (by kernel_rfl)
 exact vx_exit <| fx_seq_exit <| e1 <| fx_blk_exit rfl <| n0 H (by kernel_rfl)
def u26 (a0 : Y68) (a1 : Y68) : Option (Bool) :=
 gd ((u62 a0.1 a1.1).isSome = true ∧ True) <| 
 if (!vl (u62 a0.1 a1.1)) = true then
  some false
 else
  gd ((u63 a0.2.1 a1.2.1).isSome = true ∧ True) <| 
  if (!vl (u63 a0.2.1 a1.2.1)) = true then
   some false
  else
   gd ((u63 a0.2.2 a1.2.2).isSome = true ∧ True) <| 
   if (!vl (u63 a0.2.2 a1.2.2)) = true then
    some false
   else
    some true
def k26 : Ct := lct 26 [.agg y68, .agg y68] (fun x => u26 x.1 x.2.1) (fun r : Bool => B r) (fun _ => ())
theorem o26 : Ok Tryz.prog k26 := by
 refine okl tok [.tmp 4] Tryz.func26 Tryz.ntmps26 rfl Tryz.results26 (by kernel_rfl) rfl ?_
 intro y ⟨a0, a1, _⟩ r H Q hn hr
 have hT := tc o63 (tc o62 tn)
 refine qa tok hT [2, 3] (St.mk [p 2 (AV.ptr 2 0), p 3 (AV.ptr 3 0)] [(3, Ob.box 68 (cellsD false y68 a1)), (2, Ob.box 68 (cellsD false y68 a0))]) (by kernel_rfl) ?_
 refine vx_seq <| ?_
 refine qb tok hT [2, 3, 10] (St.mk [p 2 (AV.ptr 2 0), p 3 (AV.ptr 3 0), p 10 (B !vl (u62 a0.1 a1.1))] [(3, Ob.box 68 (cellsD false y68 a1)), (2, Ob.box 68 (cellsD false y68 a0))]) H (by kernel_rfl) fun H => ?_
 refine cd H (by kernel_rfl) (fun H => ?_) (fun H => ?_)
 ·refine qa tok hT [4] (St.mk [p 4 (B false)] [(3, Ob.box 68 (cellsD false y68 a1)), (2, Ob.box 68 (cellsD false y68 a0))]) (by kernel_rfl) ?_
  exact vx_ret <| fx_seq_ret <| hr H (by kernel_rfl)
 refine vx_skip <| fx_seq <| vx_seq <| ?_
 refine qb tok hT [2, 3, 16] (St.mk [p 2 (AV.ptr 2 0), p 3 (AV.ptr 3 0), p 16 (B !vl (u63 a0.2.1 a1.2.1))] [(3, Ob.box 68 (cellsD false y68 a1)), (2, Ob.box 68 (cellsD false y68 a0))]) H (by kernel_rfl) fun H => ?_
 refine cd H (by kernel_rfl) (fun H => ?_) (fun H => ?_)
 ·refine qa tok hT [4] (St.mk [p 4 (B false)] [(3, Ob.box 68 (cellsD false y68 a1)), (2, Ob.box 68 (cellsD false y68 a0))]) (by kernel_rfl) ?_
  exact vx_ret <| fx_seq_ret <| hr H (by kernel_rfl)
 refine vx_skip <| fx_seq <| vx_seq <| ?_
 refine qb tok hT [22] (St.mk [p 22 (B !vl (u63 a0.2.2 a1.2.2))] [(3, Ob.box 68 (cellsD false y68 a1)), (2, Ob.box 68 (cellsD false y68 a0))]) H (by kernel_rfl) fun H => ?_
 refine cd H (by kernel_rfl) (fun H => ?_) (fun H => ?_)
 ·refine qa tok hT [4] (St.mk [p 4 (B false)] [(3, Ob.box 68 (cellsD false y68 a1)), (2, Ob.box 68 (cellsD false y68 a0))]) (by kernel_rfl) ?_
  exact vx_ret <| fx_seq_ret <| hr H (by kernel_rfl)
 refine vx_skip <| fx_seq <| ?_
 refine qa tok hT [4] (St.mk [p 4 (B true)] [(3, Ob.box 68 (cellsD false y68 a1)), (2, Ob.box 68 (cellsD false y68 a0))]) (by kernel_rfl) ?_
 exact vx_ret <| hr H (by kernel_rfl)
def u103 (a0 : Y109) : Option (Y105) :=
 some a0
def k103 : Ct := lct 103 [.agg y109] (fun x => u103 x.1) (fun r : Y105 => AV.agg [I r.1, I r.2]) (fun _ => ())
theorem o103 : Ok Tryz.prog k103 := by
 refine okl tok [.cell 2 105] Tryz.func103 Tryz.ntmps103 rfl Tryz.results103 (by kernel_rfl) rfl ?_
 intro y ⟨a0, _⟩ r H Q hn hr
 have hT := @tn Tryz.prog
 refine qa tok hT [1, 2] (St.mk [p 1 (AV.ptr 1 0), p 2 (AV.ptr 2 0)] [(2, Ob.box 105 [I 0, I 0]), (1, Ob.box 109 (cellsD false y109 a0))]) (by kernel_rfl) ?_
 refine qa tok hT [1, 2, 3] (St.mk [p 1 (AV.ptr 1 0), p 2 (AV.ptr 2 0), p 3 (AV.ptr 3 0)] [(3, Ob.box 105 [I 0, I 0]), (2, Ob.box 105 [I 0, I 0]), (1, Ob.box 109 (cellsD false y109 a0))]) (by kernel_rfl) ?_
 refine qa tok hT [1, 2, 3] (St.mk [p 1 (AV.ptr 1 0), p 2 (AV.ptr 2 0), p 3 (AV.ptr 3 0)] [(3, Ob.box 105 [J a0.1, I 0]), (2, Ob.box 105 [I 0, I 0]), (1, Ob.box 109 (cellsD false y109 a0))]) (by kernel_rfl) ?_
 refine qa tok hT [2, 3] (St.mk [p 2 (AV.ptr 2 0), p 3 (AV.ptr 3 0)] [(3, Ob.box 105 (cellsD false y105 a0)), (2, Ob.box 105 [I 0, I 0]), (1, Ob.box 109 (cellsD false y109 a0))]) (by kernel_rfl) ?_
 refine qa tok hT [2] (St.mk [p 2 (AV.ptr 2 0)] [(2, Ob.box 105 (cellsD false y105 a0)), (3, Ob.box 105 (cellsD false y105 a0)), (1, Ob.box 109 (cellsD false y109 a0))]) (by kernel_rfl) ?_
 exact vx_ret <| hr H (by kernel_rfl)
def u60J0 : List Y105 → Option (List Y105)
 | v5 =>
 some v5
def u60L1 (a0 : List Y109) (g1 : Int × List Y105 → Option (List Y105)) : Int × List Y105 → Option (List Y105)
 | (v2, v3) =>
 if (decide (v2 < (↑a0.length : Int))) = true then
  gd (ix v2 a0.length ∧ (u103 (a0.getD v2.toNat (dflt y109))).isSome = true ∧ ix v2 v3.length ∧ v2.toNat < v3.length ∧ True) <| lt (vl (u103 (a0.getD v2.toNat (dflt y109)))) fun v4 =>
  gd (in64 (v2 + 1) ∧ True) <| 
  g1 (v2 + 1, v3.set v2.toNat v4)
 else
  u60J0 v3
def u60 (a0 : List Y109) : Option (List Y105) :=
 gd ((0 ≤ (↑a0.length : Int) ∧ (↑a0.length : Int) = (↑a0.length : Int) ∧ (↑a0.length : Int).toNat * 16 ≤ 281474976710656 ∧ (↑a0.length : Int) ≤ 9223372036854775807) ∧ True) <| lt (List.replicate (↑a0.length : Int).toNat ((0 : Int), (0 : Int))) fun v0 =>
 lp (u60L1 a0) (0, v0)
def k60 : Ct := lct 60 [.dat y109.sl] (fun x => u60 x.1) (fun r : List Y105 => AV.ow 105 true y105 r) (fun _ => ())
theorem o60 : Ok Tryz.prog k60 := by
 refine okl tok [.tmp 2] Tryz.func60 Tryz.ntmps60 rfl Tryz.results60 (by kernel_rfl) rfl ?_
 intro y ⟨a0, _⟩ r H Q hn hr
 have hT := tc o103 tn
 refine qa tok hT [0] (St.mk [p 0 (L y109 a0)] []) (by kernel_rfl) ?_
 refine qd tok hT [0, 3] (fun v0 => St.mk [p 0 (L y109 a0), p 3 (AV.os 7 0)] [(7, Ob.arr 105 true y105 v0 0)]) H (by kernel_rfl) fun v0 H => ?_
 refine jn r (fun (v5 : List Y105) => St.mk [p 3 (AV.os 7 0)] [(7, Ob.arr 105 true y105 v5 0)]) (u60J0) (fun v5 H => ?_) (fun _ n0 e0 t0 => ?_)
 ·refine qa tok hT [2] (St.mk [p 2 (AV.os 7 0)] [(7, Ob.arr 105 true y105 v5 0)]) (by kernel_rfl) ?_
  exact vx_ret <| hr H (by kernel_rfl)
 refine qa tok hT [0, 3, 4] (St.mk [p 0 (L y109 a0), p 3 (AV.os 7 0), p 4 (I 0)] [(7, Ob.arr 105 true y105 v0 0)]) (by kernel_rfl) ?_
 refine vx_block <| ?_
 refine lx (fun ((v2, v3) : Int × List Y105) => St.mk [p 0 (L y109 a0), p 3 (AV.os 7 0), p 4 (I v2)] [(7, Ob.arr 105 true y105 v3 0)]) (0, v0) H (by kernel_rfl) fun _ g1 b1 e1 t1 ⟨v2, v3⟩ H => ?_
 refine vx_seq <| ?_
 refine qa tok hT [0, 3, 4, 11] (St.mk [p 0 (L y109 a0), p 3 (AV.os 7 0), p 4 (I v2), p 11 (B (decide (v2 < (↑a0.length : Int))))] [(7, Ob.arr 105 true y105 v3 0)]) (by kernel_rfl) ?_
 refine cd H (by kernel_rfl) (fun H => ?_) (fun H => ?_)
 ·refine vx_skip <| fx_seq <| vx_seq <| vx_block <| ?_
  refine zd tok hT [0, 3, 4] (fun v4 => St.mk [p 0 (L y109 a0), p 3 (AV.os 7 0), p 4 (I v2)] [(7, Ob.arr 105 true y105 (v3.set v2.toNat v4) 0)]) H (by kernel_rfl) fun v4 H => ?_
  refine fx_blk <| fx_seq <| ?_
  refine zb tok hT [0, 3, 4] (St.mk [p 0 (L y109 a0), p 3 (AV.os 7 0), p 4 (I (v2 + 1))] [(7, Ob.arr 105 true y105 (v3.set v2.toNat v4) 0)]) H (by kernel_rfl) fun H => ?_
  exact b1 H (by kernel_rfl)
 exact vx_exit <| fx_seq_exit <| e1 <| fx_blk_exit rfl <| n0 H (by kernel_rfl)
def u59J0 : List Bool → Option (List Bool)
 | v3 =>
 some v3
def u59L1 (a0 : List Bool) (g1 : Int × List Bool → Option (List Bool)) : Int × List Bool → Option (List Bool)
 | (v1, v2) =>
 if (decide (v1 < (↑a0.length : Int))) = true then
  gd (ix v1 a0.length ∧ ix v1 v2.length ∧ v1.toNat < v2.length ∧ True) <| 
  gd (in64 (v1 + 1) ∧ True) <| 
  g1 ((v1 + 1, v2.set v1.toNat (a0.getD v1.toNat false)))
 else
  u59J0 v2
def u59 (a0 : List Bool) : Option (List Bool) :=
 gd ((0 ≤ (↑a0.length : Int) ∧ (↑a0.length : Int) = (↑a0.length : Int) ∧ (↑a0.length : Int).toNat * 1 ≤ 281474976710656 ∧ (↑a0.length : Int) ≤ 9223372036854775807) ∧ True) <| 
 lp (u59L1 a0) ((0, List.replicate (↑a0.length : Int).toNat false))
def k59 : Ct := lct 59 [.dat Ty.bool.sl] (fun x => u59 x.1) (fun r : List Bool => AV.ow 4 true Ty.bool r) (fun _ => ())
theorem o59 : Ok Tryz.prog k59 := by
 refine okl tok [.tmp 2] Tryz.func59 Tryz.ntmps59 rfl Tryz.results59 (by kernel_rfl) rfl ?_
 intro y ⟨a0, _⟩ r H Q hn hr
 have hT := @tn Tryz.prog
 refine qa tok hT [0] (St.mk [p 0 (L Ty.bool a0)] []) (by kernel_rfl) ?_
 refine qb tok hT [0, 3] (St.mk [p 0 (L Ty.bool a0), p 3 (AV.os 7 0)] [(7, Ob.arr 4 true Ty.bool (List.replicate (↑a0.length : Int).toNat false) 0)]) H (by kernel_rfl) fun H => ?_
 refine jn r (fun (v3 : List Bool) => St.mk [p 3 (AV.os 7 0)] [(7, Ob.arr 4 true Ty.bool v3 0)]) (u59J0) (fun v3 H => ?_) (fun _ n0 e0 t0 => ?_)
 ·refine qa tok hT [2] (St.mk [p 2 (AV.os 7 0)] [(7, Ob.arr 4 true Ty.bool v3 0)]) (by kernel_rfl) ?_
  exact vx_ret <| hr H (by kernel_rfl)
 refine qa tok hT [0, 3, 4] (St.mk [p 0 (L Ty.bool a0), p 3 (AV.os 7 0), p 4 (I 0)] [(7, Ob.arr 4 true Ty.bool (List.replicate (↑a0.length : Int).toNat false) 0)]) (by kernel_rfl) ?_
 refine vx_block <| ?_
 refine lx (fun ((v1, v2) : Int × List Bool) => St.mk [p 0 (L Ty.bool a0), p 3 (AV.os 7 0), p 4 (I v1)] [(7, Ob.arr 4 true Ty.bool v2 0)]) ((0, List.replicate (↑a0.length : Int).toNat false)) H (by kernel_rfl) fun _ g1 b1 e1 t1 ⟨v1, v2⟩ H => ?_
 refine vx_seq <| ?_
 refine qa tok hT [0, 3, 4, 11] (St.mk [p 0 (L Ty.bool a0), p 3 (AV.os 7 0), p 4 (I v1), p 11 (B (decide (v1 < (↑a0.length : Int))))] [(7, Ob.arr 4 true Ty.bool v2 0)]) (by kernel_rfl) ?_
 refine cd H (by kernel_rfl) (fun H => ?_) (fun H => ?_)
 ·refine vx_skip <| fx_seq <| vx_seq <| vx_block <| ?_
  refine zb tok hT [0, 3, 4] (St.mk [p 0 (L Ty.bool a0), p 3 (AV.os 7 0), p 4 (I v1)] [(7, Ob.arr 4 true Ty.bool (v2.set v1.toNat (a0.getD v1.toNat false)) 0)]) H (by kernel_rfl) fun H => ?_
  refine fx_blk <| fx_seq <| ?_
  refine zb tok hT [0, 3, 4] (St.mk [p 0 (L Ty.bool a0), p 3 (AV.os 7 0), p 4 (I (v1 + 1))] [(7, Ob.arr 4 true Ty.bool (v2.set v1.toNat (a0.getD v1.toNat false)) 0)]) H (by kernel_rfl) fun H => ?_
  exact b1 H (by kernel_rfl)
 exact vx_exit <| fx_seq_exit <| e1 <| fx_blk_exit rfl <| n0 H (by kernel_rfl)
def u24 (a0 : Y63) : Option (Y68) :=
 gd ((u59 a0.1).isSome = true ∧ True) <| lt (vl (u59 a0.1)) fun v0 =>
 gd ((u60 a0.2.1).isSome = true ∧ True) <| lt (vl (u60 a0.2.1)) fun v1 =>
 gd ((u60 a0.2.2).isSome = true ∧ True) <| lt (vl (u60 a0.2.2)) fun v2 =>
 some (v0, v1, v2)
def k24 : Ct := lct 24 [.agg y63] (fun x => u24 x.1) (fun r : Y68 => AV.agg [AV.ow 4 true Ty.bool r.1, AV.ow 105 true y105 r.2.1, AV.ow 105 true y105 r.2.2]) (fun _ => ())
theorem o24 : Ok Tryz.prog k24 := by
 refine okl tok [.cell 2 68] Tryz.func24 Tryz.ntmps24 rfl Tryz.results24 (by kernel_rfl) rfl ?_
 intro y ⟨a0, _⟩ r H Q hn hr
 have hT := tc o60 (tc o59 tn)
 refine qa tok hT [1, 2] (St.mk [p 1 (AV.ptr 1 0), p 2 (AV.ptr 2 0)] [(2, Ob.box 68 [AV.v (Value.slice none 0 0), AV.v (Value.slice none 0 0), AV.v (Value.slice none 0 0)]), (1, Ob.box 63 (cellsD false y63 a0))]) (by kernel_rfl) ?_
 refine qa tok hT [1, 2, 3] (St.mk [p 1 (AV.ptr 1 0), p 2 (AV.ptr 2 0), p 3 (AV.ptr 3 0)] [(3, Ob.box 68 [AV.v (Value.slice none 0 0), AV.v (Value.slice none 0 0), AV.v (Value.slice none 0 0)]), (2, Ob.box 68 [AV.v (Value.slice none 0 0), AV.v (Value.slice none 0 0), AV.v (Value.slice none 0 0)]), (1, Ob.box 63 (cellsD false y63 a0))]) (by kernel_rfl) ?_
 refine qd tok hT [1, 2, 3] (fun v0 => St.mk [p 1 (AV.ptr 1 0), p 2 (AV.ptr 2 0), p 3 (AV.ptr 3 0)] [(3, Ob.box 68 [AV.os 6 0, AV.v (Value.slice none 0 0), AV.v (Value.slice none 0 0)]), (6, Ob.arr 4 true Ty.bool v0 0), (2, Ob.box 68 [AV.v (Value.slice none 0 0), AV.v (Value.slice none 0 0), AV.v (Value.slice none 0 0)]), (1, Ob.box 63 (cellsD false y63 a0))]) H (by kernel_rfl) fun v0 H => ?_
 refine qd tok hT [1, 2, 3] (fun v1 => St.mk [p 1 (AV.ptr 1 0), p 2 (AV.ptr 2 0), p 3 (AV.ptr 3 0)] [(3, Ob.box 68 [AV.os 6 0, AV.os 10 0, AV.v (Value.slice none 0 0)]), (10, Ob.arr 105 true y105 v1 0), (6, Ob.arr 4 true Ty.bool v0 0), (2, Ob.box 68 [AV.v (Value.slice none 0 0), AV.v (Value.slice none 0 0), AV.v (Value.slice none 0 0)]), (1, Ob.box 63 (cellsD false y63 a0))]) H (by kernel_rfl) fun v1 H => ?_
 refine qd tok hT [2, 3] (fun v2 => St.mk [p 2 (AV.ptr 2 0), p 3 (AV.ptr 3 0)] [(3, Ob.box 68 [AV.os 6 0, AV.os 10 0, AV.os 14 0]), (14, Ob.arr 105 true y105 v2 0), (10, Ob.arr 105 true y105 v1 0), (6, Ob.arr 4 true Ty.bool v0 0), (2, Ob.box 68 [AV.v (Value.slice none 0 0), AV.v (Value.slice none 0 0), AV.v (Value.slice none 0 0)]), (1, Ob.box 63 (cellsD false y63 a0))]) H (by kernel_rfl) fun v2 H => ?_
 refine qa tok hT [2] (St.mk [p 2 (AV.ptr 2 0)] [(2, Ob.box 68 [AV.os 6 0, AV.os 10 0, AV.os 14 0]), (3, Ob.box 68 [AV.os 6 0, AV.os 10 0, AV.os 14 0]), (14, Ob.arr 105 true y105 v2 0), (10, Ob.arr 105 true y105 v1 0), (6, Ob.arr 4 true Ty.bool v0 0), (1, Ob.box 63 (cellsD false y63 a0))]) (by kernel_rfl) ?_
 exact vx_ret <| hr H (by kernel_rfl)
def u131J0 : Unit → Option (Bool)
 | _ =>
 some true
def u131L1 (a0 : List Int) (a1 : List Int) (g1 : Int → Option (Bool)) : Int → Option (Bool)
 | v0 =>
 if (decide (v0 < (↑a0.length : Int))) = true then
  gd (ix v0 a0.length ∧ ix v0 a1.length ∧ True) <| 
  if (a0.getD v0.toNat 0 != a1.getD v0.toNat 0) = true then
   some false
  else
   gd (in64 (v0 + 1) ∧ True) <| 
   g1 (v0 + 1)
 else
  u131J0 ()
def u131 (a0 : List Int) (a1 : List Int) : Option (Bool) :=
 if ((↑a0.length : Int) != (↑a1.length : Int)) = true then
  some false
 else
  lp (u131L1 a0 a1) 0
def k131 : Ct := lct 131 [.dat i64.sl, .dat i64.sl] (fun x => u131 x.1 x.2.1) (fun r : Bool => B r) (fun _ => ())
theorem o131 : Ok Tryz.prog k131 := by
 refine okl tok [.tmp 4] Tryz.func131 Tryz.ntmps131 rfl Tryz.results131 (by kernel_rfl) rfl ?_
 intro y ⟨a0, a1, _⟩ r H Q hn hr
 have hT := @tn Tryz.prog
 refine qa tok hT [0, 1] (St.mk [p 0 (L i64 a0), p 1 (L i64 a1)] []) (by kernel_rfl) ?_
 refine vx_seq <| ?_
 refine qa tok hT [0, 1, 10] (St.mk [p 0 (L i64 a0), p 1 (L i64 a1), p 10 (B ((↑a0.length : Int) != (↑a1.length : Int)))] []) (by kernel_rfl) ?_
 refine cd H (by kernel_rfl) (fun H => ?_) (fun H => ?_)
 ·refine qa tok hT [4] (St.mk [p 4 (B false)] []) (by kernel_rfl) ?_
  exact vx_ret <| fx_seq_ret <| hr H (by kernel_rfl)
 refine vx_skip <| fx_seq <| ?_
 refine jn r (fun (_ : Unit) => St.mk [] []) (u131J0) (fun _ H => ?_) (fun _ n0 e0 t0 => ?_)
 ·refine qa tok hT [4] (St.mk [p 4 (B true)] []) (by kernel_rfl) ?_
  exact vx_ret <| hr H (by kernel_rfl)
 refine qa tok hT [0, 1, 5] (St.mk [p 0 (L i64 a0), p 1 (L i64 a1), p 5 (I 0)] []) (by kernel_rfl) ?_
 refine vx_block <| ?_
 refine lx (fun (v0 : Int) => St.mk [p 0 (L i64 a0), p 1 (L i64 a1), p 5 (I v0)] []) 0 H (by kernel_rfl) fun _ g1 b1 e1 t1 v0 H => ?_
 refine vx_seq <| ?_
 refine qa tok hT [0, 1, 5, 14] (St.mk [p 0 (L i64 a0), p 1 (L i64 a1), p 5 (I v0), p 14 (B (decide (v0 < (↑a0.length : Int))))] []) (by kernel_rfl) ?_
 refine cd H (by kernel_rfl) (fun H => ?_) (fun H => ?_)
 ·refine vx_skip <| fx_seq <| vx_seq <| vx_block <| ?_
  refine qb tok hT [0, 1, 5, 25] (St.mk [p 0 (L i64 a0), p 1 (L i64 a1), p 5 (I v0), p 25 (B (a0.getD v0.toNat 0 != a1.getD v0.toNat 0))] []) H (by kernel_rfl) fun H => ?_
  refine cd H (by kernel_rfl) (fun H => ?_) (fun H => ?_)
  ·refine qa tok hT [4] (St.mk [p 4 (B false)] []) (by kernel_rfl) ?_
   exact vx_ret <| fx_blk_ret <| fx_seq_ret <| t1 <| fx_blk_ret <| t0 <| hr H (by kernel_rfl)
  refine vx_skip <| fx_blk <| fx_seq <| ?_
  refine zb tok hT [0, 1, 5] (St.mk [p 0 (L i64 a0), p 1 (L i64 a1), p 5 (I (v0 + 1))] []) H (by kernel_rfl) fun H => ?_
  exact b1 H (by kernel_rfl)
 exact vx_exit <| fx_seq_exit <| e1 <| fx_blk_exit rfl <| n0 H (by kernel_rfl)
def u84 (a0 : Y131) (a1 : Y131) : Option (Bool) :=
 gd ((u131 a0.1 a1.1).isSome = true ∧ True) <| 
 if (!vl (u131 a0.1 a1.1)) = true then
  some false
 else
  gd ((u131 a0.2.1 a1.2.1).isSome = true ∧ True) <| 
  if (!vl (u131 a0.2.1 a1.2.1)) = true then
   some false
  else
   gd ((u131 a0.2.2.1 a1.2.2.1).isSome = true ∧ True) <| 
   if (!vl (u131 a0.2.2.1 a1.2.2.1)) = true then
    some false
   else
    gd ((u131 a0.2.2.2 a1.2.2.2).isSome = true ∧ True) <| 
    if (!vl (u131 a0.2.2.2 a1.2.2.2)) = true then
     some false
    else
     some true
def k84 : Ct := lct 84 [.agg y131, .agg y131] (fun x => u84 x.1 x.2.1) (fun r : Bool => B r) (fun _ => ())
theorem o84 : Ok Tryz.prog k84 := by
 refine okl tok [.tmp 4] Tryz.func84 Tryz.ntmps84 rfl Tryz.results84 (by kernel_rfl) rfl ?_
 intro y ⟨a0, a1, _⟩ r H Q hn hr
 have hT := tc o131 tn
 refine qa tok hT [2, 3] (St.mk [p 2 (AV.ptr 2 0), p 3 (AV.ptr 3 0)] [(3, Ob.box 131 (cellsD false y131 a1)), (2, Ob.box 131 (cellsD false y131 a0))]) (by kernel_rfl) ?_
 refine vx_seq <| ?_
 refine qb tok hT [2, 3, 10] (St.mk [p 2 (AV.ptr 2 0), p 3 (AV.ptr 3 0), p 10 (B !vl (u131 a0.1 a1.1))] [(3, Ob.box 131 (cellsD false y131 a1)), (2, Ob.box 131 (cellsD false y131 a0))]) H (by kernel_rfl) fun H => ?_
 refine cd H (by kernel_rfl) (fun H => ?_) (fun H => ?_)
 ·refine qa tok hT [4] (St.mk [p 4 (B false)] [(3, Ob.box 131 (cellsD false y131 a1)), (2, Ob.box 131 (cellsD false y131 a0))]) (by kernel_rfl) ?_
  exact vx_ret <| fx_seq_ret <| hr H (by kernel_rfl)
 refine vx_skip <| fx_seq <| vx_seq <| ?_
 refine qb tok hT [2, 3, 16] (St.mk [p 2 (AV.ptr 2 0), p 3 (AV.ptr 3 0), p 16 (B !vl (u131 a0.2.1 a1.2.1))] [(3, Ob.box 131 (cellsD false y131 a1)), (2, Ob.box 131 (cellsD false y131 a0))]) H (by kernel_rfl) fun H => ?_
 refine cd H (by kernel_rfl) (fun H => ?_) (fun H => ?_)
 ·refine qa tok hT [4] (St.mk [p 4 (B false)] [(3, Ob.box 131 (cellsD false y131 a1)), (2, Ob.box 131 (cellsD false y131 a0))]) (by kernel_rfl) ?_
  exact vx_ret <| fx_seq_ret <| hr H (by kernel_rfl)
 refine vx_skip <| fx_seq <| vx_seq <| ?_
 refine qb tok hT [2, 3, 22] (St.mk [p 2 (AV.ptr 2 0), p 3 (AV.ptr 3 0), p 22 (B !vl (u131 a0.2.2.1 a1.2.2.1))] [(3, Ob.box 131 (cellsD false y131 a1)), (2, Ob.box 131 (cellsD false y131 a0))]) H (by kernel_rfl) fun H => ?_
 refine cd H (by kernel_rfl) (fun H => ?_) (fun H => ?_)
 ·refine qa tok hT [4] (St.mk [p 4 (B false)] [(3, Ob.box 131 (cellsD false y131 a1)), (2, Ob.box 131 (cellsD false y131 a0))]) (by kernel_rfl) ?_
  exact vx_ret <| fx_seq_ret <| hr H (by kernel_rfl)
 refine vx_skip <| fx_seq <| vx_seq <| ?_
 refine qb tok hT [28] (St.mk [p 28 (B !vl (u131 a0.2.2.2 a1.2.2.2))] [(3, Ob.box 131 (cellsD false y131 a1)), (2, Ob.box 131 (cellsD false y131 a0))]) H (by kernel_rfl) fun H => ?_
 refine cd H (by kernel_rfl) (fun H => ?_) (fun H => ?_)
 ·refine qa tok hT [4] (St.mk [p 4 (B false)] [(3, Ob.box 131 (cellsD false y131 a1)), (2, Ob.box 131 (cellsD false y131 a0))]) (by kernel_rfl) ?_
  exact vx_ret <| fx_seq_ret <| hr H (by kernel_rfl)
 refine vx_skip <| fx_seq <| ?_
 refine qa tok hT [4] (St.mk [p 4 (B true)] [(3, Ob.box 131 (cellsD false y131 a1)), (2, Ob.box 131 (cellsD false y131 a0))]) (by kernel_rfl) ?_
 exact vx_ret <| hr H (by kernel_rfl)
def u40J0 : Unit → Option (Bool)
 | _ =>
 some true
def u40L1 (a0 : List Y131) (a1 : List Y131) (g1 : Int → Option (Bool)) : Int → Option (Bool)
 | v0 =>
 if (decide (v0 < (↑a0.length : Int))) = true then
  gd (ix v0 a0.length ∧ ix v0 a1.length ∧ (u84 (a0.getD v0.toNat (dflt y131)) (a1.getD v0.toNat (dflt y131))).isSome = true ∧ True) <| 
  if (!vl (u84 (a0.getD v0.toNat (dflt y131)) (a1.getD v0.toNat (dflt y131)))) = true then
   some false
  else
   gd (in64 (v0 + 1) ∧ True) <| 
   g1 (v0 + 1)
 else
  u40J0 ()
def u40 (a0 : List Y131) (a1 : List Y131) : Option (Bool) :=
 if ((↑a0.length : Int) != (↑a1.length : Int)) = true then
  some false
 else
  lp (u40L1 a0 a1) 0
def k40 : Ct := lct 40 [.dat y131.sl, .dat y131.sl] (fun x => u40 x.1 x.2.1) (fun r : Bool => B r) (fun _ => ())
theorem o40 : Ok Tryz.prog k40 := by
 refine okl tok [.tmp 4] Tryz.func40 Tryz.ntmps40 rfl Tryz.results40 (by kernel_rfl) rfl ?_
 intro y ⟨a0, a1, _⟩ r H Q hn hr
 have hT := tc o84 tn
 refine qa tok hT [0, 1] (St.mk [p 0 (L y131 a0), p 1 (L y131 a1)] []) (by kernel_rfl) ?_
 refine vx_seq <| ?_
 refine qa tok hT [0, 1, 10] (St.mk [p 0 (L y131 a0), p 1 (L y131 a1), p 10 (B ((↑a0.length : Int) != (↑a1.length : Int)))] []) (by kernel_rfl) ?_
 refine cd H (by kernel_rfl) (fun H => ?_) (fun H => ?_)
 ·refine qa tok hT [4] (St.mk [p 4 (B false)] []) (by kernel_rfl) ?_
  exact vx_ret <| fx_seq_ret <| hr H (by kernel_rfl)
 refine vx_skip <| fx_seq <| ?_
 refine jn r (fun (_ : Unit) => St.mk [] []) (u40J0) (fun _ H => ?_) (fun _ n0 e0 t0 => ?_)
 ·refine qa tok hT [4] (St.mk [p 4 (B true)] []) (by kernel_rfl) ?_
  exact vx_ret <| hr H (by kernel_rfl)
 refine qa tok hT [0, 1, 5] (St.mk [p 0 (L y131 a0), p 1 (L y131 a1), p 5 (I 0)] []) (by kernel_rfl) ?_
 refine vx_block <| ?_
 refine lx (fun (v0 : Int) => St.mk [p 0 (L y131 a0), p 1 (L y131 a1), p 5 (I v0)] []) 0 H (by kernel_rfl) fun _ g1 b1 e1 t1 v0 H => ?_
 refine vx_seq <| ?_
 refine qa tok hT [0, 1, 5, 14] (St.mk [p 0 (L y131 a0), p 1 (L y131 a1), p 5 (I v0), p 14 (B (decide (v0 < (↑a0.length : Int))))] []) (by kernel_rfl) ?_
 refine cd H (by kernel_rfl) (fun H => ?_) (fun H => ?_)
 ·refine vx_skip <| fx_seq <| vx_seq <| vx_block <| ?_
  refine qb tok hT [0, 1, 5, 26] (St.mk [p 0 (L y131 a0), p 1 (L y131 a1), p 5 (I v0), p 26 (B !vl (u84 (a0.getD v0.toNat (dflt y131)) (a1.getD v0.toNat (dflt y131))))] []) H (by kernel_rfl) fun H => ?_
  refine cd H (by kernel_rfl) (fun H => ?_) (fun H => ?_)
  ·refine qa tok hT [4] (St.mk [p 4 (B false)] []) (by kernel_rfl) ?_
   exact vx_ret <| fx_blk_ret <| fx_seq_ret <| t1 <| fx_blk_ret <| t0 <| hr H (by kernel_rfl)
  refine vx_skip <| fx_blk <| fx_seq <| ?_
  refine zb tok hT [0, 1, 5] (St.mk [p 0 (L y131 a0), p 1 (L y131 a1), p 5 (I (v0 + 1))] []) H (by kernel_rfl) fun H => ?_
  exact b1 H (by kernel_rfl)
 exact vx_exit <| fx_seq_exit <| e1 <| fx_blk_exit rfl <| n0 H (by kernel_rfl)
def u130 (a0 : Y143) (a1 : Y143) : Option (Bool) :=
 if (!decide (a0.1 = a1.1)) = true then
  some false
 else
  if (a0.2.1 != a1.2.1) = true then
   some false
  else
   if (a0.2.2 != a1.2.2) = true then
    some false
   else
    some true
def k130 : Ct := lct 130 [.agg y143, .agg y143] (fun x => u130 x.1 x.2.1) (fun r : Bool => B r) (fun _ => ())
theorem o130 : Ok Tryz.prog k130 := by
 refine okl tok [.tmp 4] Tryz.func130 Tryz.ntmps130 rfl Tryz.results130 (by kernel_rfl) rfl ?_
 intro y ⟨a0, a1, _⟩ r H Q hn hr
 have hT := @tn Tryz.prog
 refine qa tok hT [2, 3] (St.mk [p 2 (AV.ptr 2 0), p 3 (AV.ptr 3 0)] [(3, Ob.box 143 (cellsD false y143 a1)), (2, Ob.box 143 (cellsD false y143 a0))]) (by kernel_rfl) ?_
 refine vx_seq <| ?_
 refine qa tok hT [2, 3, 9] (St.mk [p 2 (AV.ptr 2 0), p 3 (AV.ptr 3 0), p 9 (B !decide (a0.1 = a1.1))] [(3, Ob.box 143 (cellsD false y143 a1)), (2, Ob.box 143 (cellsD false y143 a0))]) (by kernel_rfl) ?_
 refine cd H (by kernel_rfl) (fun H => ?_) (fun H => ?_)
 ·refine qa tok hT [4] (St.mk [p 4 (B false)] [(3, Ob.box 143 (cellsD false y143 a1)), (2, Ob.box 143 (cellsD false y143 a0))]) (by kernel_rfl) ?_
  exact vx_ret <| fx_seq_ret <| hr H (by kernel_rfl)
 refine vx_skip <| fx_seq <| vx_seq <| ?_
 refine qa tok hT [2, 3, 14] (St.mk [p 2 (AV.ptr 2 0), p 3 (AV.ptr 3 0), p 14 (B (a0.2.1 != a1.2.1))] [(3, Ob.box 143 (cellsD false y143 a1)), (2, Ob.box 143 (cellsD false y143 a0))]) (by kernel_rfl) ?_
 refine cd H (by kernel_rfl) (fun H => ?_) (fun H => ?_)
 ·refine qa tok hT [4] (St.mk [p 4 (B false)] [(3, Ob.box 143 (cellsD false y143 a1)), (2, Ob.box 143 (cellsD false y143 a0))]) (by kernel_rfl) ?_
  exact vx_ret <| fx_seq_ret <| hr H (by kernel_rfl)
 refine vx_skip <| fx_seq <| vx_seq <| ?_
 refine qa tok hT [19] (St.mk [p 19 (B (a0.2.2 != a1.2.2))] [(3, Ob.box 143 (cellsD false y143 a1)), (2, Ob.box 143 (cellsD false y143 a0))]) (by kernel_rfl) ?_
 refine cd H (by kernel_rfl) (fun H => ?_) (fun H => ?_)
 ·refine qa tok hT [4] (St.mk [p 4 (B false)] [(3, Ob.box 143 (cellsD false y143 a1)), (2, Ob.box 143 (cellsD false y143 a0))]) (by kernel_rfl) ?_
  exact vx_ret <| fx_seq_ret <| hr H (by kernel_rfl)
 refine vx_skip <| fx_seq <| ?_
 refine qa tok hT [4] (St.mk [p 4 (B true)] [(3, Ob.box 143 (cellsD false y143 a1)), (2, Ob.box 143 (cellsD false y143 a0))]) (by kernel_rfl) ?_
 exact vx_ret <| hr H (by kernel_rfl)
def u83J0 : Unit → Option (Bool)
 | _ =>
 some true
def u83L1 (a0 : List Y143) (a1 : List Y143) (g1 : Int → Option (Bool)) : Int → Option (Bool)
 | v0 =>
 if (decide (v0 < (↑a0.length : Int))) = true then
  gd (ix v0 a0.length ∧ ix v0 a1.length ∧ (u130 (a0.getD v0.toNat (dflt y143)) (a1.getD v0.toNat (dflt y143))).isSome = true ∧ True) <| 
  if (!vl (u130 (a0.getD v0.toNat (dflt y143)) (a1.getD v0.toNat (dflt y143)))) = true then
   some false
  else
   gd (in64 (v0 + 1) ∧ True) <| 
   g1 (v0 + 1)
 else
  u83J0 ()
def u83 (a0 : List Y143) (a1 : List Y143) : Option (Bool) :=
 if ((↑a0.length : Int) != (↑a1.length : Int)) = true then
  some false
 else
  lp (u83L1 a0 a1) 0
def k83 : Ct := lct 83 [.dat y143.sl, .dat y143.sl] (fun x => u83 x.1 x.2.1) (fun r : Bool => B r) (fun _ => ())
theorem o83 : Ok Tryz.prog k83 := by
 refine okl tok [.tmp 4] Tryz.func83 Tryz.ntmps83 rfl Tryz.results83 (by kernel_rfl) rfl ?_
 intro y ⟨a0, a1, _⟩ r H Q hn hr
 have hT := tc o130 tn
 refine qa tok hT [0, 1] (St.mk [p 0 (L y143 a0), p 1 (L y143 a1)] []) (by kernel_rfl) ?_
 refine vx_seq <| ?_
 refine qa tok hT [0, 1, 10] (St.mk [p 0 (L y143 a0), p 1 (L y143 a1), p 10 (B ((↑a0.length : Int) != (↑a1.length : Int)))] []) (by kernel_rfl) ?_
 refine cd H (by kernel_rfl) (fun H => ?_) (fun H => ?_)
 ·refine qa tok hT [4] (St.mk [p 4 (B false)] []) (by kernel_rfl) ?_
  exact vx_ret <| fx_seq_ret <| hr H (by kernel_rfl)
 refine vx_skip <| fx_seq <| ?_
 refine jn r (fun (_ : Unit) => St.mk [] []) (u83J0) (fun _ H => ?_) (fun _ n0 e0 t0 => ?_)
 ·refine qa tok hT [4] (St.mk [p 4 (B true)] []) (by kernel_rfl) ?_
  exact vx_ret <| hr H (by kernel_rfl)
 refine qa tok hT [0, 1, 5] (St.mk [p 0 (L y143 a0), p 1 (L y143 a1), p 5 (I 0)] []) (by kernel_rfl) ?_
 refine vx_block <| ?_
 refine lx (fun (v0 : Int) => St.mk [p 0 (L y143 a0), p 1 (L y143 a1), p 5 (I v0)] []) 0 H (by kernel_rfl) fun _ g1 b1 e1 t1 v0 H => ?_
 refine vx_seq <| ?_
 refine qa tok hT [0, 1, 5, 14] (St.mk [p 0 (L y143 a0), p 1 (L y143 a1), p 5 (I v0), p 14 (B (decide (v0 < (↑a0.length : Int))))] []) (by kernel_rfl) ?_
 refine cd H (by kernel_rfl) (fun H => ?_) (fun H => ?_)
 ·refine vx_skip <| fx_seq <| vx_seq <| vx_block <| ?_
  refine qb tok hT [0, 1, 5, 26] (St.mk [p 0 (L y143 a0), p 1 (L y143 a1), p 5 (I v0), p 26 (B !vl (u130 (a0.getD v0.toNat (dflt y143)) (a1.getD v0.toNat (dflt y143))))] []) H (by kernel_rfl) fun H => ?_
  refine cd H (by kernel_rfl) (fun H => ?_) (fun H => ?_)
  ·refine qa tok hT [4] (St.mk [p 4 (B false)] []) (by kernel_rfl) ?_
   exact vx_ret <| fx_blk_ret <| fx_seq_ret <| t1 <| fx_blk_ret <| t0 <| hr H (by kernel_rfl)
  refine vx_skip <| fx_blk <| fx_seq <| ?_
  refine zb tok hT [0, 1, 5] (St.mk [p 0 (L y143 a0), p 1 (L y143 a1), p 5 (I (v0 + 1))] []) H (by kernel_rfl) fun H => ?_
  exact b1 H (by kernel_rfl)
 exact vx_exit <| fx_seq_exit <| e1 <| fx_blk_exit rfl <| n0 H (by kernel_rfl)
def u82J0 : Unit → Option (Bool)
 | _ =>
 some true
def u82L1 (a0 : List ByteArray) (a1 : List ByteArray) (g1 : Int → Option (Bool)) : Int → Option (Bool)
 | v0 =>
 if (decide (v0 < (↑a0.length : Int))) = true then
  gd (ix v0 a0.length ∧ ix v0 a1.length ∧ True) <| 
  if (!decide (a0.getD v0.toNat (dflt Ty.str) = a1.getD v0.toNat (dflt Ty.str))) = true then
   some false
  else
   gd (in64 (v0 + 1) ∧ True) <| 
   g1 (v0 + 1)
 else
  u82J0 ()
def u82 (a0 : List ByteArray) (a1 : List ByteArray) : Option (Bool) :=
 if ((↑a0.length : Int) != (↑a1.length : Int)) = true then
  some false
 else
  lp (u82L1 a0 a1) 0
def k82 : Ct := lct 82 [.dat Ty.str.sl, .dat Ty.str.sl] (fun x => u82 x.1 x.2.1) (fun r : Bool => B r) (fun _ => ())
theorem o82 : Ok Tryz.prog k82 := by
 refine okl tok [.tmp 4] Tryz.func82 Tryz.ntmps82 rfl Tryz.results82 (by kernel_rfl) rfl ?_
 intro y ⟨a0, a1, _⟩ r H Q hn hr
 have hT := @tn Tryz.prog
 refine qa tok hT [0, 1] (St.mk [p 0 (L Ty.str a0), p 1 (L Ty.str a1)] []) (by kernel_rfl) ?_
 refine vx_seq <| ?_
 refine qa tok hT [0, 1, 10] (St.mk [p 0 (L Ty.str a0), p 1 (L Ty.str a1), p 10 (B ((↑a0.length : Int) != (↑a1.length : Int)))] []) (by kernel_rfl) ?_
 refine cd H (by kernel_rfl) (fun H => ?_) (fun H => ?_)
 ·refine qa tok hT [4] (St.mk [p 4 (B false)] []) (by kernel_rfl) ?_
  exact vx_ret <| fx_seq_ret <| hr H (by kernel_rfl)
 refine vx_skip <| fx_seq <| ?_
 refine jn r (fun (_ : Unit) => St.mk [] []) (u82J0) (fun _ H => ?_) (fun _ n0 e0 t0 => ?_)
 ·refine qa tok hT [4] (St.mk [p 4 (B true)] []) (by kernel_rfl) ?_
  exact vx_ret <| hr H (by kernel_rfl)
 refine qa tok hT [0, 1, 5] (St.mk [p 0 (L Ty.str a0), p 1 (L Ty.str a1), p 5 (I 0)] []) (by kernel_rfl) ?_
 refine vx_block <| ?_
 refine lx (fun (v0 : Int) => St.mk [p 0 (L Ty.str a0), p 1 (L Ty.str a1), p 5 (I v0)] []) 0 H (by kernel_rfl) fun _ g1 b1 e1 t1 v0 H => ?_
 refine vx_seq <| ?_
 refine qa tok hT [0, 1, 5, 14] (St.mk [p 0 (L Ty.str a0), p 1 (L Ty.str a1), p 5 (I v0), p 14 (B (decide (v0 < (↑a0.length : Int))))] []) (by kernel_rfl) ?_
 refine cd H (by kernel_rfl) (fun H => ?_) (fun H => ?_)
 ·refine vx_skip <| fx_seq <| vx_seq <| vx_block <| ?_
  refine qb tok hT [0, 1, 5, 25] (St.mk [p 0 (L Ty.str a0), p 1 (L Ty.str a1), p 5 (I v0), p 25 (B !decide (a0.getD v0.toNat (dflt Ty.str) = a1.getD v0.toNat (dflt Ty.str)))] []) H (by kernel_rfl) fun H => ?_
  refine cd H (by kernel_rfl) (fun H => ?_) (fun H => ?_)
  ·refine qa tok hT [4] (St.mk [p 4 (B false)] []) (by kernel_rfl) ?_
   exact vx_ret <| fx_blk_ret <| fx_seq_ret <| t1 <| fx_blk_ret <| t0 <| hr H (by kernel_rfl)
  refine vx_skip <| fx_blk <| fx_seq <| ?_
  refine zb tok hT [0, 1, 5] (St.mk [p 0 (L Ty.str a0), p 1 (L Ty.str a1), p 5 (I (v0 + 1))] []) H (by kernel_rfl) fun H => ?_
  exact b1 H (by kernel_rfl)
 exact vx_exit <| fx_seq_exit <| e1 <| fx_blk_exit rfl <| n0 H (by kernel_rfl)
def u129 (a0 : Y141) (a1 : Y141) : Option (Bool) :=
 if (!decide (a0.1 = a1.1)) = true then
  some false
 else
  if (a0.2.1 != a1.2.1) = true then
   some false
  else
   gd ((u131 a0.2.2 a1.2.2).isSome = true ∧ True) <| 
   if (!vl (u131 a0.2.2 a1.2.2)) = true then
    some false
   else
    some true
def k129 : Ct := lct 129 [.agg y141, .agg y141] (fun x => u129 x.1 x.2.1) (fun r : Bool => B r) (fun _ => ())
theorem o129 : Ok Tryz.prog k129 := by
 refine okl tok [.tmp 4] Tryz.func129 Tryz.ntmps129 rfl Tryz.results129 (by kernel_rfl) rfl ?_
 intro y ⟨a0, a1, _⟩ r H Q hn hr
 have hT := tc o131 tn
 refine qa tok hT [2, 3] (St.mk [p 2 (AV.ptr 2 0), p 3 (AV.ptr 3 0)] [(3, Ob.box 141 (cellsD false y141 a1)), (2, Ob.box 141 (cellsD false y141 a0))]) (by kernel_rfl) ?_
 refine vx_seq <| ?_
 refine qa tok hT [2, 3, 9] (St.mk [p 2 (AV.ptr 2 0), p 3 (AV.ptr 3 0), p 9 (B !decide (a0.1 = a1.1))] [(3, Ob.box 141 (cellsD false y141 a1)), (2, Ob.box 141 (cellsD false y141 a0))]) (by kernel_rfl) ?_
 refine cd H (by kernel_rfl) (fun H => ?_) (fun H => ?_)
 ·refine qa tok hT [4] (St.mk [p 4 (B false)] [(3, Ob.box 141 (cellsD false y141 a1)), (2, Ob.box 141 (cellsD false y141 a0))]) (by kernel_rfl) ?_
  exact vx_ret <| fx_seq_ret <| hr H (by kernel_rfl)
 refine vx_skip <| fx_seq <| vx_seq <| ?_
 refine qa tok hT [2, 3, 14] (St.mk [p 2 (AV.ptr 2 0), p 3 (AV.ptr 3 0), p 14 (B (a0.2.1 != a1.2.1))] [(3, Ob.box 141 (cellsD false y141 a1)), (2, Ob.box 141 (cellsD false y141 a0))]) (by kernel_rfl) ?_
 refine cd H (by kernel_rfl) (fun H => ?_) (fun H => ?_)
 ·refine qa tok hT [4] (St.mk [p 4 (B false)] [(3, Ob.box 141 (cellsD false y141 a1)), (2, Ob.box 141 (cellsD false y141 a0))]) (by kernel_rfl) ?_
  exact vx_ret <| fx_seq_ret <| hr H (by kernel_rfl)
 refine vx_skip <| fx_seq <| vx_seq <| ?_
 refine qb tok hT [20] (St.mk [p 20 (B !vl (u131 a0.2.2 a1.2.2))] [(3, Ob.box 141 (cellsD false y141 a1)), (2, Ob.box 141 (cellsD false y141 a0))]) H (by kernel_rfl) fun H => ?_
 refine cd H (by kernel_rfl) (fun H => ?_) (fun H => ?_)
 ·refine qa tok hT [4] (St.mk [p 4 (B false)] [(3, Ob.box 141 (cellsD false y141 a1)), (2, Ob.box 141 (cellsD false y141 a0))]) (by kernel_rfl) ?_
  exact vx_ret <| fx_seq_ret <| hr H (by kernel_rfl)
 refine vx_skip <| fx_seq <| ?_
 refine qa tok hT [4] (St.mk [p 4 (B true)] [(3, Ob.box 141 (cellsD false y141 a1)), (2, Ob.box 141 (cellsD false y141 a0))]) (by kernel_rfl) ?_
 exact vx_ret <| hr H (by kernel_rfl)
def u81J0 : Unit → Option (Bool)
 | _ =>
 some true
def u81L1 (a0 : List Y141) (a1 : List Y141) (g1 : Int → Option (Bool)) : Int → Option (Bool)
 | v0 =>
 if (decide (v0 < (↑a0.length : Int))) = true then
  gd (ix v0 a0.length ∧ ix v0 a1.length ∧ (u129 (a0.getD v0.toNat (dflt y141)) (a1.getD v0.toNat (dflt y141))).isSome = true ∧ True) <| 
  if (!vl (u129 (a0.getD v0.toNat (dflt y141)) (a1.getD v0.toNat (dflt y141)))) = true then
   some false
  else
   gd (in64 (v0 + 1) ∧ True) <| 
   g1 (v0 + 1)
 else
  u81J0 ()
def u81 (a0 : List Y141) (a1 : List Y141) : Option (Bool) :=
 if ((↑a0.length : Int) != (↑a1.length : Int)) = true then
  some false
 else
  lp (u81L1 a0 a1) 0
def k81 : Ct := lct 81 [.dat y141.sl, .dat y141.sl] (fun x => u81 x.1 x.2.1) (fun r : Bool => B r) (fun _ => ())
theorem o81 : Ok Tryz.prog k81 := by
 refine okl tok [.tmp 4] Tryz.func81 Tryz.ntmps81 rfl Tryz.results81 (by kernel_rfl) rfl ?_
 intro y ⟨a0, a1, _⟩ r H Q hn hr
 have hT := tc o129 tn
 refine qa tok hT [0, 1] (St.mk [p 0 (L y141 a0), p 1 (L y141 a1)] []) (by kernel_rfl) ?_
 refine vx_seq <| ?_
 refine qa tok hT [0, 1, 10] (St.mk [p 0 (L y141 a0), p 1 (L y141 a1), p 10 (B ((↑a0.length : Int) != (↑a1.length : Int)))] []) (by kernel_rfl) ?_
 refine cd H (by kernel_rfl) (fun H => ?_) (fun H => ?_)
 ·refine qa tok hT [4] (St.mk [p 4 (B false)] []) (by kernel_rfl) ?_
  exact vx_ret <| fx_seq_ret <| hr H (by kernel_rfl)
 refine vx_skip <| fx_seq <| ?_
 refine jn r (fun (_ : Unit) => St.mk [] []) (u81J0) (fun _ H => ?_) (fun _ n0 e0 t0 => ?_)
 ·refine qa tok hT [4] (St.mk [p 4 (B true)] []) (by kernel_rfl) ?_
  exact vx_ret <| hr H (by kernel_rfl)
 refine qa tok hT [0, 1, 5] (St.mk [p 0 (L y141 a0), p 1 (L y141 a1), p 5 (I 0)] []) (by kernel_rfl) ?_
 refine vx_block <| ?_
 refine lx (fun (v0 : Int) => St.mk [p 0 (L y141 a0), p 1 (L y141 a1), p 5 (I v0)] []) 0 H (by kernel_rfl) fun _ g1 b1 e1 t1 v0 H => ?_
 refine vx_seq <| ?_
 refine qa tok hT [0, 1, 5, 14] (St.mk [p 0 (L y141 a0), p 1 (L y141 a1), p 5 (I v0), p 14 (B (decide (v0 < (↑a0.length : Int))))] []) (by kernel_rfl) ?_
 refine cd H (by kernel_rfl) (fun H => ?_) (fun H => ?_)
 ·refine vx_skip <| fx_seq <| vx_seq <| vx_block <| ?_
  refine qb tok hT [0, 1, 5, 26] (St.mk [p 0 (L y141 a0), p 1 (L y141 a1), p 5 (I v0), p 26 (B !vl (u129 (a0.getD v0.toNat (dflt y141)) (a1.getD v0.toNat (dflt y141))))] []) H (by kernel_rfl) fun H => ?_
  refine cd H (by kernel_rfl) (fun H => ?_) (fun H => ?_)
  ·refine qa tok hT [4] (St.mk [p 4 (B false)] []) (by kernel_rfl) ?_
   exact vx_ret <| fx_blk_ret <| fx_seq_ret <| t1 <| fx_blk_ret <| t0 <| hr H (by kernel_rfl)
  refine vx_skip <| fx_blk <| fx_seq <| ?_
  refine zb tok hT [0, 1, 5] (St.mk [p 0 (L y141 a0), p 1 (L y141 a1), p 5 (I (v0 + 1))] []) H (by kernel_rfl) fun H => ?_
  exact b1 H (by kernel_rfl)
 exact vx_exit <| fx_seq_exit <| e1 <| fx_blk_exit rfl <| n0 H (by kernel_rfl)
def u39 (a0 : Y41) (a1 : Y41) : Option (Bool) :=
 gd ((u81 a0.1 a1.1).isSome = true ∧ True) <| 
 if (!vl (u81 a0.1 a1.1)) = true then
  some false
 else
  gd ((u82 a0.2.1 a1.2.1).isSome = true ∧ True) <| 
  if (!vl (u82 a0.2.1 a1.2.1)) = true then
   some false
  else
   gd ((u83 a0.2.2 a1.2.2).isSome = true ∧ True) <| 
   if (!vl (u83 a0.2.2 a1.2.2)) = true then
    some false
   else
    some true
def k39 : Ct := lct 39 [.agg y41, .agg y41] (fun x => u39 x.1 x.2.1) (fun r : Bool => B r) (fun _ => ())
theorem o39 : Ok Tryz.prog k39 := by
 refine okl tok [.tmp 4] Tryz.func39 Tryz.ntmps39 rfl Tryz.results39 (by kernel_rfl) rfl ?_
 intro y ⟨a0, a1, _⟩ r H Q hn hr
 have hT := tc o83 (tc o82 (tc o81 tn))
 refine qa tok hT [2, 3] (St.mk [p 2 (AV.ptr 2 0), p 3 (AV.ptr 3 0)] [(3, Ob.box 41 (cellsD false y41 a1)), (2, Ob.box 41 (cellsD false y41 a0))]) (by kernel_rfl) ?_
 refine vx_seq <| ?_
 refine qb tok hT [2, 3, 10] (St.mk [p 2 (AV.ptr 2 0), p 3 (AV.ptr 3 0), p 10 (B !vl (u81 a0.1 a1.1))] [(3, Ob.box 41 (cellsD false y41 a1)), (2, Ob.box 41 (cellsD false y41 a0))]) H (by kernel_rfl) fun H => ?_
 refine cd H (by kernel_rfl) (fun H => ?_) (fun H => ?_)
 ·refine qa tok hT [4] (St.mk [p 4 (B false)] [(3, Ob.box 41 (cellsD false y41 a1)), (2, Ob.box 41 (cellsD false y41 a0))]) (by kernel_rfl) ?_
  exact vx_ret <| fx_seq_ret <| hr H (by kernel_rfl)
 refine vx_skip <| fx_seq <| vx_seq <| ?_
 refine qb tok hT [2, 3, 16] (St.mk [p 2 (AV.ptr 2 0), p 3 (AV.ptr 3 0), p 16 (B !vl (u82 a0.2.1 a1.2.1))] [(3, Ob.box 41 (cellsD false y41 a1)), (2, Ob.box 41 (cellsD false y41 a0))]) H (by kernel_rfl) fun H => ?_
 refine cd H (by kernel_rfl) (fun H => ?_) (fun H => ?_)
 ·refine qa tok hT [4] (St.mk [p 4 (B false)] [(3, Ob.box 41 (cellsD false y41 a1)), (2, Ob.box 41 (cellsD false y41 a0))]) (by kernel_rfl) ?_
  exact vx_ret <| fx_seq_ret <| hr H (by kernel_rfl)
 refine vx_skip <| fx_seq <| vx_seq <| ?_
 refine qb tok hT [22] (St.mk [p 22 (B !vl (u83 a0.2.2 a1.2.2))] [(3, Ob.box 41 (cellsD false y41 a1)), (2, Ob.box 41 (cellsD false y41 a0))]) H (by kernel_rfl) fun H => ?_
 refine cd H (by kernel_rfl) (fun H => ?_) (fun H => ?_)
 ·refine qa tok hT [4] (St.mk [p 4 (B false)] [(3, Ob.box 41 (cellsD false y41 a1)), (2, Ob.box 41 (cellsD false y41 a0))]) (by kernel_rfl) ?_
  exact vx_ret <| fx_seq_ret <| hr H (by kernel_rfl)
 refine vx_skip <| fx_seq <| ?_
 refine qa tok hT [4] (St.mk [p 4 (B true)] [(3, Ob.box 41 (cellsD false y41 a1)), (2, Ob.box 41 (cellsD false y41 a0))]) (by kernel_rfl) ?_
 exact vx_ret <| hr H (by kernel_rfl)
def u202 (a0 : Y96) (a1 : Y96) : Option (Bool) :=
 gd ((u131 a0.1 a1.1).isSome = true ∧ True) <| 
 if (!vl (u131 a0.1 a1.1)) = true then
  some false
 else
  gd ((u131 a0.2.1 a1.2.1).isSome = true ∧ True) <| 
  if (!vl (u131 a0.2.1 a1.2.1)) = true then
   some false
  else
   gd ((u131 a0.2.2 a1.2.2).isSome = true ∧ True) <| 
   if (!vl (u131 a0.2.2 a1.2.2)) = true then
    some false
   else
    some true
def k202 : Ct := lct 202 [.agg y96, .agg y96] (fun x => u202 x.1 x.2.1) (fun r : Bool => B r) (fun _ => ())
theorem o202 : Ok Tryz.prog k202 := by
 refine okl tok [.tmp 4] Tryz.func202 Tryz.ntmps202 rfl Tryz.results202 (by kernel_rfl) rfl ?_
 intro y ⟨a0, a1, _⟩ r H Q hn hr
 have hT := tc o131 tn
 refine qa tok hT [2, 3] (St.mk [p 2 (AV.ptr 2 0), p 3 (AV.ptr 3 0)] [(3, Ob.box 96 (cellsD false y96 a1)), (2, Ob.box 96 (cellsD false y96 a0))]) (by kernel_rfl) ?_
 refine vx_seq <| ?_
 refine qb tok hT [2, 3, 10] (St.mk [p 2 (AV.ptr 2 0), p 3 (AV.ptr 3 0), p 10 (B !vl (u131 a0.1 a1.1))] [(3, Ob.box 96 (cellsD false y96 a1)), (2, Ob.box 96 (cellsD false y96 a0))]) H (by kernel_rfl) fun H => ?_
 refine cd H (by kernel_rfl) (fun H => ?_) (fun H => ?_)
 ·refine qa tok hT [4] (St.mk [p 4 (B false)] [(3, Ob.box 96 (cellsD false y96 a1)), (2, Ob.box 96 (cellsD false y96 a0))]) (by kernel_rfl) ?_
  exact vx_ret <| fx_seq_ret <| hr H (by kernel_rfl)
 refine vx_skip <| fx_seq <| vx_seq <| ?_
 refine qb tok hT [2, 3, 16] (St.mk [p 2 (AV.ptr 2 0), p 3 (AV.ptr 3 0), p 16 (B !vl (u131 a0.2.1 a1.2.1))] [(3, Ob.box 96 (cellsD false y96 a1)), (2, Ob.box 96 (cellsD false y96 a0))]) H (by kernel_rfl) fun H => ?_
 refine cd H (by kernel_rfl) (fun H => ?_) (fun H => ?_)
 ·refine qa tok hT [4] (St.mk [p 4 (B false)] [(3, Ob.box 96 (cellsD false y96 a1)), (2, Ob.box 96 (cellsD false y96 a0))]) (by kernel_rfl) ?_
  exact vx_ret <| fx_seq_ret <| hr H (by kernel_rfl)
 refine vx_skip <| fx_seq <| vx_seq <| ?_
 refine qb tok hT [22] (St.mk [p 22 (B !vl (u131 a0.2.2 a1.2.2))] [(3, Ob.box 96 (cellsD false y96 a1)), (2, Ob.box 96 (cellsD false y96 a0))]) H (by kernel_rfl) fun H => ?_
 refine cd H (by kernel_rfl) (fun H => ?_) (fun H => ?_)
 ·refine qa tok hT [4] (St.mk [p 4 (B false)] [(3, Ob.box 96 (cellsD false y96 a1)), (2, Ob.box 96 (cellsD false y96 a0))]) (by kernel_rfl) ?_
  exact vx_ret <| fx_seq_ret <| hr H (by kernel_rfl)
 refine vx_skip <| fx_seq <| ?_
 refine qa tok hT [4] (St.mk [p 4 (B true)] [(3, Ob.box 96 (cellsD false y96 a1)), (2, Ob.box 96 (cellsD false y96 a0))]) (by kernel_rfl) ?_
 exact vx_ret <| hr H (by kernel_rfl)
def u185J0 : Unit → Option (Bool)
 | _ =>
 some true
def u185L1 (a0 : List Y96) (a1 : List Y96) (g1 : Int → Option (Bool)) : Int → Option (Bool)
 | v0 =>
 if (decide (v0 < (↑a0.length : Int))) = true then
  gd (ix v0 a0.length ∧ ix v0 a1.length ∧ (u202 (a0.getD v0.toNat (dflt y96)) (a1.getD v0.toNat (dflt y96))).isSome = true ∧ True) <| 
  if (!vl (u202 (a0.getD v0.toNat (dflt y96)) (a1.getD v0.toNat (dflt y96)))) = true then
   some false
  else
   gd (in64 (v0 + 1) ∧ True) <| 
   g1 (v0 + 1)
 else
  u185J0 ()
def u185 (a0 : List Y96) (a1 : List Y96) : Option (Bool) :=
 if ((↑a0.length : Int) != (↑a1.length : Int)) = true then
  some false
 else
  lp (u185L1 a0 a1) 0
def k185 : Ct := lct 185 [.dat y96.sl, .dat y96.sl] (fun x => u185 x.1 x.2.1) (fun r : Bool => B r) (fun _ => ())
theorem o185 : Ok Tryz.prog k185 := by
 refine okl tok [.tmp 4] Tryz.func185 Tryz.ntmps185 rfl Tryz.results185 (by kernel_rfl) rfl ?_
 intro y ⟨a0, a1, _⟩ r H Q hn hr
 have hT := tc o202 tn
 refine qa tok hT [0, 1] (St.mk [p 0 (L y96 a0), p 1 (L y96 a1)] []) (by kernel_rfl) ?_
 refine vx_seq <| ?_
 refine qa tok hT [0, 1, 10] (St.mk [p 0 (L y96 a0), p 1 (L y96 a1), p 10 (B ((↑a0.length : Int) != (↑a1.length : Int)))] []) (by kernel_rfl) ?_
 refine cd H (by kernel_rfl) (fun H => ?_) (fun H => ?_)
 ·refine qa tok hT [4] (St.mk [p 4 (B false)] []) (by kernel_rfl) ?_
  exact vx_ret <| fx_seq_ret <| hr H (by kernel_rfl)
 refine vx_skip <| fx_seq <| ?_
 refine jn r (fun (_ : Unit) => St.mk [] []) (u185J0) (fun _ H => ?_) (fun _ n0 e0 t0 => ?_)
 ·refine qa tok hT [4] (St.mk [p 4 (B true)] []) (by kernel_rfl) ?_
  exact vx_ret <| hr H (by kernel_rfl)
 refine qa tok hT [0, 1, 5] (St.mk [p 0 (L y96 a0), p 1 (L y96 a1), p 5 (I 0)] []) (by kernel_rfl) ?_
 refine vx_block <| ?_
 refine lx (fun (v0 : Int) => St.mk [p 0 (L y96 a0), p 1 (L y96 a1), p 5 (I v0)] []) 0 H (by kernel_rfl) fun _ g1 b1 e1 t1 v0 H => ?_
 refine vx_seq <| ?_
 refine qa tok hT [0, 1, 5, 14] (St.mk [p 0 (L y96 a0), p 1 (L y96 a1), p 5 (I v0), p 14 (B (decide (v0 < (↑a0.length : Int))))] []) (by kernel_rfl) ?_
 refine cd H (by kernel_rfl) (fun H => ?_) (fun H => ?_)
 ·refine vx_skip <| fx_seq <| vx_seq <| vx_block <| ?_
  refine qb tok hT [0, 1, 5, 26] (St.mk [p 0 (L y96 a0), p 1 (L y96 a1), p 5 (I v0), p 26 (B !vl (u202 (a0.getD v0.toNat (dflt y96)) (a1.getD v0.toNat (dflt y96))))] []) H (by kernel_rfl) fun H => ?_
  refine cd H (by kernel_rfl) (fun H => ?_) (fun H => ?_)
  ·refine qa tok hT [4] (St.mk [p 4 (B false)] []) (by kernel_rfl) ?_
   exact vx_ret <| fx_blk_ret <| fx_seq_ret <| t1 <| fx_blk_ret <| t0 <| hr H (by kernel_rfl)
  refine vx_skip <| fx_blk <| fx_seq <| ?_
  refine zb tok hT [0, 1, 5] (St.mk [p 0 (L y96 a0), p 1 (L y96 a1), p 5 (I (v0 + 1))] []) H (by kernel_rfl) fun H => ?_
  exact b1 H (by kernel_rfl)
 exact vx_exit <| fx_seq_exit <| e1 <| fx_blk_exit rfl <| n0 H (by kernel_rfl)
def u171 (a0 : Y89) (a1 : Y89) : Option (Bool) :=
 if (a0.1 != a1.1) = true then
  some false
 else
  if (a0.2.1 != a1.2.1) = true then
   some false
  else
   if (a0.2.2.1 != a1.2.2.1) = true then
    some false
   else
    if (a0.2.2.2.1 != a1.2.2.2.1) = true then
     some false
    else
     gd ((u185 a0.2.2.2.2.1 a1.2.2.2.2.1).isSome = true ∧ True) <| 
     if (!vl (u185 a0.2.2.2.2.1 a1.2.2.2.2.1)) = true then
      some false
     else
      gd ((u185 a0.2.2.2.2.2 a1.2.2.2.2.2).isSome = true ∧ True) <| 
      if (!vl (u185 a0.2.2.2.2.2 a1.2.2.2.2.2)) = true then
       some false
      else
       some true
def k171 : Ct := lct 171 [.agg y89, .agg y89] (fun x => u171 x.1 x.2.1) (fun r : Bool => B r) (fun _ => ())
theorem o171 : Ok Tryz.prog k171 := by
 refine okl tok [.tmp 4] Tryz.func171 Tryz.ntmps171 rfl Tryz.results171 (by kernel_rfl) rfl ?_
 intro y ⟨a0, a1, _⟩ r H Q hn hr
 have hT := tc o185 tn
 refine qa tok hT [2, 3] (St.mk [p 2 (AV.ptr 2 0), p 3 (AV.ptr 3 0)] [(3, Ob.box 89 (cellsD false y89 a1)), (2, Ob.box 89 (cellsD false y89 a0))]) (by kernel_rfl) ?_
 refine vx_seq <| ?_
 refine qa tok hT [2, 3, 9] (St.mk [p 2 (AV.ptr 2 0), p 3 (AV.ptr 3 0), p 9 (B (a0.1 != a1.1))] [(3, Ob.box 89 (cellsD false y89 a1)), (2, Ob.box 89 (cellsD false y89 a0))]) (by kernel_rfl) ?_
 refine cd H (by kernel_rfl) (fun H => ?_) (fun H => ?_)
 ·refine qa tok hT [4] (St.mk [p 4 (B false)] [(3, Ob.box 89 (cellsD false y89 a1)), (2, Ob.box 89 (cellsD false y89 a0))]) (by kernel_rfl) ?_
  exact vx_ret <| fx_seq_ret <| hr H (by kernel_rfl)
 refine vx_skip <| fx_seq <| vx_seq <| ?_
 refine qa tok hT [2, 3, 14] (St.mk [p 2 (AV.ptr 2 0), p 3 (AV.ptr 3 0), p 14 (B (a0.2.1 != a1.2.1))] [(3, Ob.box 89 (cellsD false y89 a1)), (2, Ob.box 89 (cellsD false y89 a0))]) (by kernel_rfl) ?_
 refine cd H (by kernel_rfl) (fun H => ?_) (fun H => ?_)
 ·refine qa tok hT [4] (St.mk [p 4 (B false)] [(3, Ob.box 89 (cellsD false y89 a1)), (2, Ob.box 89 (cellsD false y89 a0))]) (by kernel_rfl) ?_
  exact vx_ret <| fx_seq_ret <| hr H (by kernel_rfl)
 refine vx_skip <| fx_seq <| vx_seq <| ?_
 refine qa tok hT [2, 3, 19] (St.mk [p 2 (AV.ptr 2 0), p 3 (AV.ptr 3 0), p 19 (B (a0.2.2.1 != a1.2.2.1))] [(3, Ob.box 89 (cellsD false y89 a1)), (2, Ob.box 89 (cellsD false y89 a0))]) (by kernel_rfl) ?_
 refine cd H (by kernel_rfl) (fun H => ?_) (fun H => ?_)
 ·refine qa tok hT [4] (St.mk [p 4 (B false)] [(3, Ob.box 89 (cellsD false y89 a1)), (2, Ob.box 89 (cellsD false y89 a0))]) (by kernel_rfl) ?_
  exact vx_ret <| fx_seq_ret <| hr H (by kernel_rfl)
 refine vx_skip <| fx_seq <| vx_seq <| ?_
 refine qa tok hT [2, 3, 24] (St.mk [p 2 (AV.ptr 2 0), p 3 (AV.ptr 3 0), p 24 (B (a0.2.2.2.1 != a1.2.2.2.1))] [(3, Ob.box 89 (cellsD false y89 a1)), (2, Ob.box 89 (cellsD false y89 a0))]) (by kernel_rfl) ?_
 refine cd H (by kernel_rfl) (fun H => ?_) (fun H => ?_)
 ·refine qa tok hT [4] (St.mk [p 4 (B false)] [(3, Ob.box 89 (cellsD false y89 a1)), (2, Ob.box 89 (cellsD false y89 a0))]) (by kernel_rfl) ?_
  exact vx_ret <| fx_seq_ret <| hr H (by kernel_rfl)
 refine vx_skip <| fx_seq <| vx_seq <| ?_
 refine qb tok hT [2, 3, 30] (St.mk [p 2 (AV.ptr 2 0), p 3 (AV.ptr 3 0), p 30 (B !vl (u185 a0.2.2.2.2.1 a1.2.2.2.2.1))] [(3, Ob.box 89 (cellsD false y89 a1)), (2, Ob.box 89 (cellsD false y89 a0))]) H (by kernel_rfl) fun H => ?_
 refine cd H (by kernel_rfl) (fun H => ?_) (fun H => ?_)
 ·refine qa tok hT [4] (St.mk [p 4 (B false)] [(3, Ob.box 89 (cellsD false y89 a1)), (2, Ob.box 89 (cellsD false y89 a0))]) (by kernel_rfl) ?_
  exact vx_ret <| fx_seq_ret <| hr H (by kernel_rfl)
 refine vx_skip <| fx_seq <| vx_seq <| ?_
 refine qb tok hT [36] (St.mk [p 36 (B !vl (u185 a0.2.2.2.2.2 a1.2.2.2.2.2))] [(3, Ob.box 89 (cellsD false y89 a1)), (2, Ob.box 89 (cellsD false y89 a0))]) H (by kernel_rfl) fun H => ?_
 refine cd H (by kernel_rfl) (fun H => ?_) (fun H => ?_)
 ·refine qa tok hT [4] (St.mk [p 4 (B false)] [(3, Ob.box 89 (cellsD false y89 a1)), (2, Ob.box 89 (cellsD false y89 a0))]) (by kernel_rfl) ?_
  exact vx_ret <| fx_seq_ret <| hr H (by kernel_rfl)
 refine vx_skip <| fx_seq <| ?_
 refine qa tok hT [4] (St.mk [p 4 (B true)] [(3, Ob.box 89 (cellsD false y89 a1)), (2, Ob.box 89 (cellsD false y89 a0))]) (by kernel_rfl) ?_
 exact vx_ret <| hr H (by kernel_rfl)
def u154J0 : Unit → Option (Bool)
 | _ =>
 some true
def u154L1 (a0 : List Y89) (a1 : List Y89) (g1 : Int → Option (Bool)) : Int → Option (Bool)
 | v0 =>
 if (decide (v0 < (↑a0.length : Int))) = true then
  gd (ix v0 a0.length ∧ ix v0 a1.length ∧ (u171 (a0.getD v0.toNat (dflt y89)) (a1.getD v0.toNat (dflt y89))).isSome = true ∧ True) <| 
  if (!vl (u171 (a0.getD v0.toNat (dflt y89)) (a1.getD v0.toNat (dflt y89)))) = true then
   some false
  else
   gd (in64 (v0 + 1) ∧ True) <| 
   g1 (v0 + 1)
 else
  u154J0 ()
def u154 (a0 : List Y89) (a1 : List Y89) : Option (Bool) :=
 if ((↑a0.length : Int) != (↑a1.length : Int)) = true then
  some false
 else
  lp (u154L1 a0 a1) 0
def k154 : Ct := lct 154 [.dat y89.sl, .dat y89.sl] (fun x => u154 x.1 x.2.1) (fun r : Bool => B r) (fun _ => ())
theorem o154 : Ok Tryz.prog k154 := by
 refine okl tok [.tmp 4] Tryz.func154 Tryz.ntmps154 rfl Tryz.results154 (by kernel_rfl) rfl ?_
 intro y ⟨a0, a1, _⟩ r H Q hn hr
 have hT := tc o171 tn
 refine qa tok hT [0, 1] (St.mk [p 0 (L y89 a0), p 1 (L y89 a1)] []) (by kernel_rfl) ?_
 refine vx_seq <| ?_
 refine qa tok hT [0, 1, 10] (St.mk [p 0 (L y89 a0), p 1 (L y89 a1), p 10 (B ((↑a0.length : Int) != (↑a1.length : Int)))] []) (by kernel_rfl) ?_
 refine cd H (by kernel_rfl) (fun H => ?_) (fun H => ?_)
 ·refine qa tok hT [4] (St.mk [p 4 (B false)] []) (by kernel_rfl) ?_
  exact vx_ret <| fx_seq_ret <| hr H (by kernel_rfl)
 refine vx_skip <| fx_seq <| ?_
 refine jn r (fun (_ : Unit) => St.mk [] []) (u154J0) (fun _ H => ?_) (fun _ n0 e0 t0 => ?_)
 ·refine qa tok hT [4] (St.mk [p 4 (B true)] []) (by kernel_rfl) ?_
  exact vx_ret <| hr H (by kernel_rfl)
 refine qa tok hT [0, 1, 5] (St.mk [p 0 (L y89 a0), p 1 (L y89 a1), p 5 (I 0)] []) (by kernel_rfl) ?_
 refine vx_block <| ?_
 refine lx (fun (v0 : Int) => St.mk [p 0 (L y89 a0), p 1 (L y89 a1), p 5 (I v0)] []) 0 H (by kernel_rfl) fun _ g1 b1 e1 t1 v0 H => ?_
 refine vx_seq <| ?_
 refine qa tok hT [0, 1, 5, 14] (St.mk [p 0 (L y89 a0), p 1 (L y89 a1), p 5 (I v0), p 14 (B (decide (v0 < (↑a0.length : Int))))] []) (by kernel_rfl) ?_
 refine cd H (by kernel_rfl) (fun H => ?_) (fun H => ?_)
 ·refine vx_skip <| fx_seq <| vx_seq <| vx_block <| ?_
  refine qb tok hT [0, 1, 5, 26] (St.mk [p 0 (L y89 a0), p 1 (L y89 a1), p 5 (I v0), p 26 (B !vl (u171 (a0.getD v0.toNat (dflt y89)) (a1.getD v0.toNat (dflt y89))))] []) H (by kernel_rfl) fun H => ?_
  refine cd H (by kernel_rfl) (fun H => ?_) (fun H => ?_)
  ·refine qa tok hT [4] (St.mk [p 4 (B false)] []) (by kernel_rfl) ?_
   exact vx_ret <| fx_blk_ret <| fx_seq_ret <| t1 <| fx_blk_ret <| t0 <| hr H (by kernel_rfl)
  refine vx_skip <| fx_blk <| fx_seq <| ?_
  refine zb tok hT [0, 1, 5] (St.mk [p 0 (L y89 a0), p 1 (L y89 a1), p 5 (I (v0 + 1))] []) H (by kernel_rfl) fun H => ?_
  exact b1 H (by kernel_rfl)
 exact vx_exit <| fx_seq_exit <| e1 <| fx_blk_exit rfl <| n0 H (by kernel_rfl)
def u170 (a0 : Y212) (a1 : Y212) : Option (Bool) :=
 if (!decide (a0.1 = a1.1)) = true then
  some false
 else
  if (a0.2.1 != a1.2.1) = true then
   some false
  else
   if (a0.2.2.1 != a1.2.2.1) = true then
    some false
   else
    if (!a0.2.2.2 == a1.2.2.2) = true then
     some false
    else
     some true
def k170 : Ct := lct 170 [.agg y212, .agg y212] (fun x => u170 x.1 x.2.1) (fun r : Bool => B r) (fun _ => ())
theorem o170 : Ok Tryz.prog k170 := by
 refine okl tok [.tmp 4] Tryz.func170 Tryz.ntmps170 rfl Tryz.results170 (by kernel_rfl) rfl ?_
 intro y ⟨a0, a1, _⟩ r H Q hn hr
 have hT := @tn Tryz.prog
 refine qa tok hT [2, 3] (St.mk [p 2 (AV.ptr 2 0), p 3 (AV.ptr 3 0)] [(3, Ob.box 212 (cellsD false y212 a1)), (2, Ob.box 212 (cellsD false y212 a0))]) (by kernel_rfl) ?_
 refine vx_seq <| ?_
 refine qa tok hT [2, 3, 9] (St.mk [p 2 (AV.ptr 2 0), p 3 (AV.ptr 3 0), p 9 (B !decide (a0.1 = a1.1))] [(3, Ob.box 212 (cellsD false y212 a1)), (2, Ob.box 212 (cellsD false y212 a0))]) (by kernel_rfl) ?_
 refine cd H (by kernel_rfl) (fun H => ?_) (fun H => ?_)
 ·refine qa tok hT [4] (St.mk [p 4 (B false)] [(3, Ob.box 212 (cellsD false y212 a1)), (2, Ob.box 212 (cellsD false y212 a0))]) (by kernel_rfl) ?_
  exact vx_ret <| fx_seq_ret <| hr H (by kernel_rfl)
 refine vx_skip <| fx_seq <| vx_seq <| ?_
 refine qa tok hT [2, 3, 14] (St.mk [p 2 (AV.ptr 2 0), p 3 (AV.ptr 3 0), p 14 (B (a0.2.1 != a1.2.1))] [(3, Ob.box 212 (cellsD false y212 a1)), (2, Ob.box 212 (cellsD false y212 a0))]) (by kernel_rfl) ?_
 refine cd H (by kernel_rfl) (fun H => ?_) (fun H => ?_)
 ·refine qa tok hT [4] (St.mk [p 4 (B false)] [(3, Ob.box 212 (cellsD false y212 a1)), (2, Ob.box 212 (cellsD false y212 a0))]) (by kernel_rfl) ?_
  exact vx_ret <| fx_seq_ret <| hr H (by kernel_rfl)
 refine vx_skip <| fx_seq <| vx_seq <| ?_
 refine qa tok hT [2, 3, 19] (St.mk [p 2 (AV.ptr 2 0), p 3 (AV.ptr 3 0), p 19 (B (a0.2.2.1 != a1.2.2.1))] [(3, Ob.box 212 (cellsD false y212 a1)), (2, Ob.box 212 (cellsD false y212 a0))]) (by kernel_rfl) ?_
 refine cd H (by kernel_rfl) (fun H => ?_) (fun H => ?_)
 ·refine qa tok hT [4] (St.mk [p 4 (B false)] [(3, Ob.box 212 (cellsD false y212 a1)), (2, Ob.box 212 (cellsD false y212 a0))]) (by kernel_rfl) ?_
  exact vx_ret <| fx_seq_ret <| hr H (by kernel_rfl)
 refine vx_skip <| fx_seq <| vx_seq <| ?_
 refine qa tok hT [24] (St.mk [p 24 (B !a0.2.2.2 == a1.2.2.2)] [(3, Ob.box 212 (cellsD false y212 a1)), (2, Ob.box 212 (cellsD false y212 a0))]) (by kernel_rfl) ?_
 refine cd H (by kernel_rfl) (fun H => ?_) (fun H => ?_)
 ·refine qa tok hT [4] (St.mk [p 4 (B false)] [(3, Ob.box 212 (cellsD false y212 a1)), (2, Ob.box 212 (cellsD false y212 a0))]) (by kernel_rfl) ?_
  exact vx_ret <| fx_seq_ret <| hr H (by kernel_rfl)
 refine vx_skip <| fx_seq <| ?_
 refine qa tok hT [4] (St.mk [p 4 (B true)] [(3, Ob.box 212 (cellsD false y212 a1)), (2, Ob.box 212 (cellsD false y212 a0))]) (by kernel_rfl) ?_
 exact vx_ret <| hr H (by kernel_rfl)
def u153J0 : Unit → Option (Bool)
 | _ =>
 some true
def u153L1 (a0 : List Y212) (a1 : List Y212) (g1 : Int → Option (Bool)) : Int → Option (Bool)
 | v0 =>
 if (decide (v0 < (↑a0.length : Int))) = true then
  gd (ix v0 a0.length ∧ ix v0 a1.length ∧ (u170 (a0.getD v0.toNat (dflt y212)) (a1.getD v0.toNat (dflt y212))).isSome = true ∧ True) <| 
  if (!vl (u170 (a0.getD v0.toNat (dflt y212)) (a1.getD v0.toNat (dflt y212)))) = true then
   some false
  else
   gd (in64 (v0 + 1) ∧ True) <| 
   g1 (v0 + 1)
 else
  u153J0 ()
def u153 (a0 : List Y212) (a1 : List Y212) : Option (Bool) :=
 if ((↑a0.length : Int) != (↑a1.length : Int)) = true then
  some false
 else
  lp (u153L1 a0 a1) 0
def k153 : Ct := lct 153 [.dat y212.sl, .dat y212.sl] (fun x => u153 x.1 x.2.1) (fun r : Bool => B r) (fun _ => ())
theorem o153 : Ok Tryz.prog k153 := by
 refine okl tok [.tmp 4] Tryz.func153 Tryz.ntmps153 rfl Tryz.results153 (by kernel_rfl) rfl ?_
 intro y ⟨a0, a1, _⟩ r H Q hn hr
 have hT := tc o170 tn
 refine qa tok hT [0, 1] (St.mk [p 0 (L y212 a0), p 1 (L y212 a1)] []) (by kernel_rfl) ?_
 refine vx_seq <| ?_
 refine qa tok hT [0, 1, 10] (St.mk [p 0 (L y212 a0), p 1 (L y212 a1), p 10 (B ((↑a0.length : Int) != (↑a1.length : Int)))] []) (by kernel_rfl) ?_
 refine cd H (by kernel_rfl) (fun H => ?_) (fun H => ?_)
 ·refine qa tok hT [4] (St.mk [p 4 (B false)] []) (by kernel_rfl) ?_
  exact vx_ret <| fx_seq_ret <| hr H (by kernel_rfl)
 refine vx_skip <| fx_seq <| ?_
 refine jn r (fun (_ : Unit) => St.mk [] []) (u153J0) (fun _ H => ?_) (fun _ n0 e0 t0 => ?_)
 ·refine qa tok hT [4] (St.mk [p 4 (B true)] []) (by kernel_rfl) ?_
  exact vx_ret <| hr H (by kernel_rfl)
 refine qa tok hT [0, 1, 5] (St.mk [p 0 (L y212 a0), p 1 (L y212 a1), p 5 (I 0)] []) (by kernel_rfl) ?_
 refine vx_block <| ?_
 refine lx (fun (v0 : Int) => St.mk [p 0 (L y212 a0), p 1 (L y212 a1), p 5 (I v0)] []) 0 H (by kernel_rfl) fun _ g1 b1 e1 t1 v0 H => ?_
 refine vx_seq <| ?_
 refine qa tok hT [0, 1, 5, 14] (St.mk [p 0 (L y212 a0), p 1 (L y212 a1), p 5 (I v0), p 14 (B (decide (v0 < (↑a0.length : Int))))] []) (by kernel_rfl) ?_
 refine cd H (by kernel_rfl) (fun H => ?_) (fun H => ?_)
 ·refine vx_skip <| fx_seq <| vx_seq <| vx_block <| ?_
  refine qb tok hT [0, 1, 5, 26] (St.mk [p 0 (L y212 a0), p 1 (L y212 a1), p 5 (I v0), p 26 (B !vl (u170 (a0.getD v0.toNat (dflt y212)) (a1.getD v0.toNat (dflt y212))))] []) H (by kernel_rfl) fun H => ?_
  refine cd H (by kernel_rfl) (fun H => ?_) (fun H => ?_)
  ·refine qa tok hT [4] (St.mk [p 4 (B false)] []) (by kernel_rfl) ?_
   exact vx_ret <| fx_blk_ret <| fx_seq_ret <| t1 <| fx_blk_ret <| t0 <| hr H (by kernel_rfl)
  refine vx_skip <| fx_blk <| fx_seq <| ?_
  refine zb tok hT [0, 1, 5] (St.mk [p 0 (L y212 a0), p 1 (L y212 a1), p 5 (I (v0 + 1))] []) H (by kernel_rfl) fun H => ?_
  exact b1 H (by kernel_rfl)
 exact vx_exit <| fx_seq_exit <| e1 <| fx_blk_exit rfl <| n0 H (by kernel_rfl)
def u128 (a0 : Y152) (a1 : Y152) : Option (Bool) :=
 if (!decide (a0.1 = a1.1)) = true then
  some false
 else
  if (a0.2.1 != a1.2.1) = true then
   some false
  else
   gd ((u153 a0.2.2.1 a1.2.2.1).isSome = true ∧ True) <| 
   if (!vl (u153 a0.2.2.1 a1.2.2.1)) = true then
    some false
   else
    gd ((u154 a0.2.2.2.1 a1.2.2.2.1).isSome = true ∧ True) <| 
    if (!vl (u154 a0.2.2.2.1 a1.2.2.2.1)) = true then
     some false
    else
     gd ((u131 a0.2.2.2.2.1 a1.2.2.2.2.1).isSome = true ∧ True) <| 
     if (!vl (u131 a0.2.2.2.2.1 a1.2.2.2.2.1)) = true then
      some false
     else
      if (a0.2.2.2.2.2.1 != a1.2.2.2.2.2.1) = true then
       some false
      else
       if (a0.2.2.2.2.2.2 != a1.2.2.2.2.2.2) = true then
        some false
       else
        some true
def k128 : Ct := lct 128 [.agg y152, .agg y152] (fun x => u128 x.1 x.2.1) (fun r : Bool => B r) (fun _ => ())
theorem o128 : Ok Tryz.prog k128 := by
 refine okl tok [.tmp 4] Tryz.func128 Tryz.ntmps128 rfl Tryz.results128 (by kernel_rfl) rfl ?_
 intro y ⟨a0, a1, _⟩ r H Q hn hr
 have hT := tc o131 (tc o154 (tc o153 tn))
 refine qa tok hT [2, 3] (St.mk [p 2 (AV.ptr 2 0), p 3 (AV.ptr 3 0)] [(3, Ob.box 152 (cellsD false y152 a1)), (2, Ob.box 152 (cellsD false y152 a0))]) (by kernel_rfl) ?_
 refine vx_seq <| ?_
 refine qa tok hT [2, 3, 9] (St.mk [p 2 (AV.ptr 2 0), p 3 (AV.ptr 3 0), p 9 (B !decide (a0.1 = a1.1))] [(3, Ob.box 152 (cellsD false y152 a1)), (2, Ob.box 152 (cellsD false y152 a0))]) (by kernel_rfl) ?_
 refine cd H (by kernel_rfl) (fun H => ?_) (fun H => ?_)
 ·refine qa tok hT [4] (St.mk [p 4 (B false)] [(3, Ob.box 152 (cellsD false y152 a1)), (2, Ob.box 152 (cellsD false y152 a0))]) (by kernel_rfl) ?_
  exact vx_ret <| fx_seq_ret <| hr H (by kernel_rfl)
 refine vx_skip <| fx_seq <| vx_seq <| ?_
 refine qa tok hT [2, 3, 14] (St.mk [p 2 (AV.ptr 2 0), p 3 (AV.ptr 3 0), p 14 (B (a0.2.1 != a1.2.1))] [(3, Ob.box 152 (cellsD false y152 a1)), (2, Ob.box 152 (cellsD false y152 a0))]) (by kernel_rfl) ?_
 refine cd H (by kernel_rfl) (fun H => ?_) (fun H => ?_)
 ·refine qa tok hT [4] (St.mk [p 4 (B false)] [(3, Ob.box 152 (cellsD false y152 a1)), (2, Ob.box 152 (cellsD false y152 a0))]) (by kernel_rfl) ?_
  exact vx_ret <| fx_seq_ret <| hr H (by kernel_rfl)
 refine vx_skip <| fx_seq <| vx_seq <| ?_
 refine qb tok hT [2, 3, 20] (St.mk [p 2 (AV.ptr 2 0), p 3 (AV.ptr 3 0), p 20 (B !vl (u153 a0.2.2.1 a1.2.2.1))] [(3, Ob.box 152 (cellsD false y152 a1)), (2, Ob.box 152 (cellsD false y152 a0))]) H (by kernel_rfl) fun H => ?_
 refine cd H (by kernel_rfl) (fun H => ?_) (fun H => ?_)
 ·refine qa tok hT [4] (St.mk [p 4 (B false)] [(3, Ob.box 152 (cellsD false y152 a1)), (2, Ob.box 152 (cellsD false y152 a0))]) (by kernel_rfl) ?_
  exact vx_ret <| fx_seq_ret <| hr H (by kernel_rfl)
 refine vx_skip <| fx_seq <| vx_seq <| ?_
 refine qb tok hT [2, 3, 26] (St.mk [p 2 (AV.ptr 2 0), p 3 (AV.ptr 3 0), p 26 (B !vl (u154 a0.2.2.2.1 a1.2.2.2.1))] [(3, Ob.box 152 (cellsD false y152 a1)), (2, Ob.box 152 (cellsD false y152 a0))]) H (by kernel_rfl) fun H => ?_
 refine cd H (by kernel_rfl) (fun H => ?_) (fun H => ?_)
 ·refine qa tok hT [4] (St.mk [p 4 (B false)] [(3, Ob.box 152 (cellsD false y152 a1)), (2, Ob.box 152 (cellsD false y152 a0))]) (by kernel_rfl) ?_
  exact vx_ret <| fx_seq_ret <| hr H (by kernel_rfl)
 refine vx_skip <| fx_seq <| vx_seq <| ?_
 refine qb tok hT [2, 3, 32] (St.mk [p 2 (AV.ptr 2 0), p 3 (AV.ptr 3 0), p 32 (B !vl (u131 a0.2.2.2.2.1 a1.2.2.2.2.1))] [(3, Ob.box 152 (cellsD false y152 a1)), (2, Ob.box 152 (cellsD false y152 a0))]) H (by kernel_rfl) fun H => ?_
 refine cd H (by kernel_rfl) (fun H => ?_) (fun H => ?_)
 ·refine qa tok hT [4] (St.mk [p 4 (B false)] [(3, Ob.box 152 (cellsD false y152 a1)), (2, Ob.box 152 (cellsD false y152 a0))]) (by kernel_rfl) ?_
  exact vx_ret <| fx_seq_ret <| hr H (by kernel_rfl)
 refine vx_skip <| fx_seq <| vx_seq <| ?_
 refine qa tok hT [2, 3, 37] (St.mk [p 2 (AV.ptr 2 0), p 3 (AV.ptr 3 0), p 37 (B (a0.2.2.2.2.2.1 != a1.2.2.2.2.2.1))] [(3, Ob.box 152 (cellsD false y152 a1)), (2, Ob.box 152 (cellsD false y152 a0))]) (by kernel_rfl) ?_
 refine cd H (by kernel_rfl) (fun H => ?_) (fun H => ?_)
 ·refine qa tok hT [4] (St.mk [p 4 (B false)] [(3, Ob.box 152 (cellsD false y152 a1)), (2, Ob.box 152 (cellsD false y152 a0))]) (by kernel_rfl) ?_
  exact vx_ret <| fx_seq_ret <| hr H (by kernel_rfl)
 refine vx_skip <| fx_seq <| vx_seq <| ?_
 refine qa tok hT [42] (St.mk [p 42 (B (a0.2.2.2.2.2.2 != a1.2.2.2.2.2.2))] [(3, Ob.box 152 (cellsD false y152 a1)), (2, Ob.box 152 (cellsD false y152 a0))]) (by kernel_rfl) ?_
 refine cd H (by kernel_rfl) (fun H => ?_) (fun H => ?_)
 ·refine qa tok hT [4] (St.mk [p 4 (B false)] [(3, Ob.box 152 (cellsD false y152 a1)), (2, Ob.box 152 (cellsD false y152 a0))]) (by kernel_rfl) ?_
  exact vx_ret <| fx_seq_ret <| hr H (by kernel_rfl)
 refine vx_skip <| fx_seq <| ?_
 refine qa tok hT [4] (St.mk [p 4 (B true)] [(3, Ob.box 152 (cellsD false y152 a1)), (2, Ob.box 152 (cellsD false y152 a0))]) (by kernel_rfl) ?_
 exact vx_ret <| hr H (by kernel_rfl)
def u80J0 : Unit → Option (Bool)
 | _ =>
 some true
def u80L1 (a0 : List Y152) (a1 : List Y152) (g1 : Int → Option (Bool)) : Int → Option (Bool)
 | v0 =>
 if (decide (v0 < (↑a0.length : Int))) = true then
  gd (ix v0 a0.length ∧ ix v0 a1.length ∧ (u128 (a0.getD v0.toNat (dflt y152)) (a1.getD v0.toNat (dflt y152))).isSome = true ∧ True) <| 
  if (!vl (u128 (a0.getD v0.toNat (dflt y152)) (a1.getD v0.toNat (dflt y152)))) = true then
   some false
  else
   gd (in64 (v0 + 1) ∧ True) <| 
   g1 (v0 + 1)
 else
  u80J0 ()
def u80 (a0 : List Y152) (a1 : List Y152) : Option (Bool) :=
 if ((↑a0.length : Int) != (↑a1.length : Int)) = true then
  some false
 else
  lp (u80L1 a0 a1) 0
def k80 : Ct := lct 80 [.dat y152.sl, .dat y152.sl] (fun x => u80 x.1 x.2.1) (fun r : Bool => B r) (fun _ => ())
theorem o80 : Ok Tryz.prog k80 := by
 refine okl tok [.tmp 4] Tryz.func80 Tryz.ntmps80 rfl Tryz.results80 (by kernel_rfl) rfl ?_
 intro y ⟨a0, a1, _⟩ r H Q hn hr
 have hT := tc o128 tn
 refine qa tok hT [0, 1] (St.mk [p 0 (L y152 a0), p 1 (L y152 a1)] []) (by kernel_rfl) ?_
 refine vx_seq <| ?_
 refine qa tok hT [0, 1, 10] (St.mk [p 0 (L y152 a0), p 1 (L y152 a1), p 10 (B ((↑a0.length : Int) != (↑a1.length : Int)))] []) (by kernel_rfl) ?_
 refine cd H (by kernel_rfl) (fun H => ?_) (fun H => ?_)
 ·refine qa tok hT [4] (St.mk [p 4 (B false)] []) (by kernel_rfl) ?_
  exact vx_ret <| fx_seq_ret <| hr H (by kernel_rfl)
 refine vx_skip <| fx_seq <| ?_
 refine jn r (fun (_ : Unit) => St.mk [] []) (u80J0) (fun _ H => ?_) (fun _ n0 e0 t0 => ?_)
 ·refine qa tok hT [4] (St.mk [p 4 (B true)] []) (by kernel_rfl) ?_
  exact vx_ret <| hr H (by kernel_rfl)
 refine qa tok hT [0, 1, 5] (St.mk [p 0 (L y152 a0), p 1 (L y152 a1), p 5 (I 0)] []) (by kernel_rfl) ?_
 refine vx_block <| ?_
 refine lx (fun (v0 : Int) => St.mk [p 0 (L y152 a0), p 1 (L y152 a1), p 5 (I v0)] []) 0 H (by kernel_rfl) fun _ g1 b1 e1 t1 v0 H => ?_
 refine vx_seq <| ?_
 refine qa tok hT [0, 1, 5, 14] (St.mk [p 0 (L y152 a0), p 1 (L y152 a1), p 5 (I v0), p 14 (B (decide (v0 < (↑a0.length : Int))))] []) (by kernel_rfl) ?_
 refine cd H (by kernel_rfl) (fun H => ?_) (fun H => ?_)
 ·refine vx_skip <| fx_seq <| vx_seq <| vx_block <| ?_
  refine qb tok hT [0, 1, 5, 26] (St.mk [p 0 (L y152 a0), p 1 (L y152 a1), p 5 (I v0), p 26 (B !vl (u128 (a0.getD v0.toNat (dflt y152)) (a1.getD v0.toNat (dflt y152))))] []) H (by kernel_rfl) fun H => ?_
  refine cd H (by kernel_rfl) (fun H => ?_) (fun H => ?_)
  ·refine qa tok hT [4] (St.mk [p 4 (B false)] []) (by kernel_rfl) ?_
   exact vx_ret <| fx_blk_ret <| fx_seq_ret <| t1 <| fx_blk_ret <| t0 <| hr H (by kernel_rfl)
  refine vx_skip <| fx_blk <| fx_seq <| ?_
  refine zb tok hT [0, 1, 5] (St.mk [p 0 (L y152 a0), p 1 (L y152 a1), p 5 (I (v0 + 1))] []) H (by kernel_rfl) fun H => ?_
  exact b1 H (by kernel_rfl)
 exact vx_exit <| fx_seq_exit <| e1 <| fx_blk_exit rfl <| n0 H (by kernel_rfl)
def u38 (a0 : List Y152) (a1 : List Y152) : Option (Bool) :=
 gd ((u80 a0 a1).isSome = true ∧ True) <| 
 if (!vl (u80 a0 a1)) = true then
  some false
 else
  some true
def k38 : Ct := lct 38 [.agg y152.sl, .agg y152.sl] (fun x => u38 x.1 x.2.1) (fun r : Bool => B r) (fun _ => ())
theorem o38 : Ok Tryz.prog k38 := by
 refine okl tok [.tmp 4] Tryz.func38 Tryz.ntmps38 rfl Tryz.results38 (by kernel_rfl) rfl ?_
 intro y ⟨a0, a1, _⟩ r H Q hn hr
 have hT := tc o80 tn
 refine qa tok hT [2, 3] (St.mk [p 2 (AV.ptr 2 0), p 3 (AV.ptr 3 0)] [(3, Ob.box 37 [L y152 a1]), (2, Ob.box 37 [L y152 a0])]) (by kernel_rfl) ?_
 refine vx_seq <| ?_
 refine qb tok hT [10] (St.mk [p 10 (B !vl (u80 a0 a1))] [(3, Ob.box 37 [L y152 a1]), (2, Ob.box 37 [L y152 a0])]) H (by kernel_rfl) fun H => ?_
 refine cd H (by kernel_rfl) (fun H => ?_) (fun H => ?_)
 ·refine qa tok hT [4] (St.mk [p 4 (B false)] [(3, Ob.box 37 [L y152 a1]), (2, Ob.box 37 [L y152 a0])]) (by kernel_rfl) ?_
  exact vx_ret <| fx_seq_ret <| hr H (by kernel_rfl)
 refine vx_skip <| fx_seq <| ?_
 refine qa tok hT [4] (St.mk [p 4 (B true)] [(3, Ob.box 37 [L y152 a1]), (2, Ob.box 37 [L y152 a0])]) (by kernel_rfl) ?_
 exact vx_ret <| hr H (by kernel_rfl)
def u12 (a0 : Y44) (a1 : Y44) : Option (Bool) :=
 gd ((u38 a0.1 a1.1).isSome = true ∧ True) <| 
 if (!vl (u38 a0.1 a1.1)) = true then
  some false
 else
  gd ((u39 a0.2.1 a1.2.1).isSome = true ∧ True) <| 
  if (!vl (u39 a0.2.1 a1.2.1)) = true then
   some false
  else
   gd ((u40 a0.2.2 a1.2.2).isSome = true ∧ True) <| 
   if (!vl (u40 a0.2.2 a1.2.2)) = true then
    some false
   else
    some true
def k12 : Ct := lct 12 [.agg y44, .agg y44] (fun x => u12 x.1 x.2.1) (fun r : Bool => B r) (fun _ => ())
theorem o12 : Ok Tryz.prog k12 := by
 refine okl tok [.tmp 4] Tryz.func12 Tryz.ntmps12 rfl Tryz.results12 (by kernel_rfl) rfl ?_
 intro y ⟨a0, a1, _⟩ r H Q hn hr
 have hT := tc o40 (tc o39 (tc o38 tn))
 refine qa tok hT [2, 3] (St.mk [p 2 (AV.ptr 2 0), p 3 (AV.ptr 3 0)] [(3, Ob.box 44 (cellsD false y44 a1)), (2, Ob.box 44 (cellsD false y44 a0))]) (by kernel_rfl) ?_
 refine vx_seq <| ?_
 refine qb tok hT [2, 3, 10] (St.mk [p 2 (AV.ptr 2 0), p 3 (AV.ptr 3 0), p 10 (B !vl (u38 a0.1 a1.1))] [(3, Ob.box 44 (cellsD false y44 a1)), (2, Ob.box 44 (cellsD false y44 a0))]) H (by kernel_rfl) fun H => ?_
 refine cd H (by kernel_rfl) (fun H => ?_) (fun H => ?_)
 ·refine qa tok hT [4] (St.mk [p 4 (B false)] [(3, Ob.box 44 (cellsD false y44 a1)), (2, Ob.box 44 (cellsD false y44 a0))]) (by kernel_rfl) ?_
  exact vx_ret <| fx_seq_ret <| hr H (by kernel_rfl)
 refine vx_skip <| fx_seq <| vx_seq <| ?_
 refine qb tok hT [2, 3, 16] (St.mk [p 2 (AV.ptr 2 0), p 3 (AV.ptr 3 0), p 16 (B !vl (u39 a0.2.1 a1.2.1))] [(3, Ob.box 44 (cellsD false y44 a1)), (2, Ob.box 44 (cellsD false y44 a0))]) H (by kernel_rfl) fun H => ?_
 refine cd H (by kernel_rfl) (fun H => ?_) (fun H => ?_)
 ·refine qa tok hT [4] (St.mk [p 4 (B false)] [(3, Ob.box 44 (cellsD false y44 a1)), (2, Ob.box 44 (cellsD false y44 a0))]) (by kernel_rfl) ?_
  exact vx_ret <| fx_seq_ret <| hr H (by kernel_rfl)
 refine vx_skip <| fx_seq <| vx_seq <| ?_
 refine qb tok hT [22] (St.mk [p 22 (B !vl (u40 a0.2.2 a1.2.2))] [(3, Ob.box 44 (cellsD false y44 a1)), (2, Ob.box 44 (cellsD false y44 a0))]) H (by kernel_rfl) fun H => ?_
 refine cd H (by kernel_rfl) (fun H => ?_) (fun H => ?_)
 ·refine qa tok hT [4] (St.mk [p 4 (B false)] [(3, Ob.box 44 (cellsD false y44 a1)), (2, Ob.box 44 (cellsD false y44 a0))]) (by kernel_rfl) ?_
  exact vx_ret <| fx_seq_ret <| hr H (by kernel_rfl)
 refine vx_skip <| fx_seq <| ?_
 refine qa tok hT [4] (St.mk [p 4 (B true)] [(3, Ob.box 44 (cellsD false y44 a1)), (2, Ob.box 44 (cellsD false y44 a0))]) (by kernel_rfl) ?_
 exact vx_ret <| hr H (by kernel_rfl)
def u119J0 : List Int → Option (List Int)
 | v3 =>
 some v3
def u119L1 (a0 : List Int) (g1 : Int × List Int → Option (List Int)) : Int × List Int → Option (List Int)
 | (v1, v2) =>
 if (decide (v1 < (↑a0.length : Int))) = true then
  gd (ix v1 a0.length ∧ ix v1 v2.length ∧ v1.toNat < v2.length ∧ True) <| 
  gd (in64 (v1 + 1) ∧ True) <| 
  g1 ((v1 + 1, v2.set v1.toNat (a0.getD v1.toNat 0)))
 else
  u119J0 v2
def u119 (a0 : List Int) : Option (List Int) :=
 gd ((0 ≤ (↑a0.length : Int) ∧ (↑a0.length : Int) = (↑a0.length : Int) ∧ (↑a0.length : Int).toNat * 8 ≤ 281474976710656 ∧ (↑a0.length : Int) ≤ 9223372036854775807) ∧ True) <| 
 lp (u119L1 a0) ((0, List.replicate (↑a0.length : Int).toNat 0))
def k119 : Ct := lct 119 [.dat i64.sl] (fun x => u119 x.1) (fun r : List Int => AV.ow 2 true i64 r) (fun _ => ())
theorem o119 : Ok Tryz.prog k119 := by
 refine okl tok [.tmp 2] Tryz.func119 Tryz.ntmps119 rfl Tryz.results119 (by kernel_rfl) rfl ?_
 intro y ⟨a0, _⟩ r H Q hn hr
 have hT := @tn Tryz.prog
 refine qa tok hT [0] (St.mk [p 0 (L i64 a0)] []) (by kernel_rfl) ?_
 refine qb tok hT [0, 3] (St.mk [p 0 (L i64 a0), p 3 (AV.os 7 0)] [(7, Ob.arr 2 true i64 (List.replicate (↑a0.length : Int).toNat 0) 0)]) H (by kernel_rfl) fun H => ?_
 refine jn r (fun (v3 : List Int) => St.mk [p 3 (AV.os 7 0)] [(7, Ob.arr 2 true i64 v3 0)]) (u119J0) (fun v3 H => ?_) (fun _ n0 e0 t0 => ?_)
 ·refine qa tok hT [2] (St.mk [p 2 (AV.os 7 0)] [(7, Ob.arr 2 true i64 v3 0)]) (by kernel_rfl) ?_
  exact vx_ret <| hr H (by kernel_rfl)
 refine qa tok hT [0, 3, 4] (St.mk [p 0 (L i64 a0), p 3 (AV.os 7 0), p 4 (I 0)] [(7, Ob.arr 2 true i64 (List.replicate (↑a0.length : Int).toNat 0) 0)]) (by kernel_rfl) ?_
 refine vx_block <| ?_
 refine lx (fun ((v1, v2) : Int × List Int) => St.mk [p 0 (L i64 a0), p 3 (AV.os 7 0), p 4 (I v1)] [(7, Ob.arr 2 true i64 v2 0)]) ((0, List.replicate (↑a0.length : Int).toNat 0)) H (by kernel_rfl) fun _ g1 b1 e1 t1 ⟨v1, v2⟩ H => ?_
 refine vx_seq <| ?_
 refine qa tok hT [0, 3, 4, 11] (St.mk [p 0 (L i64 a0), p 3 (AV.os 7 0), p 4 (I v1), p 11 (B (decide (v1 < (↑a0.length : Int))))] [(7, Ob.arr 2 true i64 v2 0)]) (by kernel_rfl) ?_
 refine cd H (by kernel_rfl) (fun H => ?_) (fun H => ?_)
 ·refine vx_skip <| fx_seq <| vx_seq <| vx_block <| ?_
  refine zb tok hT [0, 3, 4] (St.mk [p 0 (L i64 a0), p 3 (AV.os 7 0), p 4 (I v1)] [(7, Ob.arr 2 true i64 (v2.set v1.toNat (a0.getD v1.toNat 0)) 0)]) H (by kernel_rfl) fun H => ?_
  refine fx_blk <| fx_seq <| ?_
  refine zb tok hT [0, 3, 4] (St.mk [p 0 (L i64 a0), p 3 (AV.os 7 0), p 4 (I (v1 + 1))] [(7, Ob.arr 2 true i64 (v2.set v1.toNat (a0.getD v1.toNat 0)) 0)]) H (by kernel_rfl) fun H => ?_
  exact b1 H (by kernel_rfl)
 exact vx_exit <| fx_seq_exit <| e1 <| fx_blk_exit rfl <| n0 H (by kernel_rfl)
def u77 (a0 : Y128) : Option (Y131) :=
 gd ((u119 a0.1).isSome = true ∧ True) <| lt (vl (u119 a0.1)) fun v0 =>
 gd ((u119 a0.2.1).isSome = true ∧ True) <| lt (vl (u119 a0.2.1)) fun v1 =>
 gd ((u119 a0.2.2.1).isSome = true ∧ True) <| lt (vl (u119 a0.2.2.1)) fun v2 =>
 gd ((u119 a0.2.2.2).isSome = true ∧ True) <| lt (vl (u119 a0.2.2.2)) fun v3 =>
 some (v0, v1, v2, v3)
def k77 : Ct := lct 77 [.agg y128] (fun x => u77 x.1) (fun r : Y131 => AV.agg [AV.ow 2 true i64 r.1, AV.ow 2 true i64 r.2.1, AV.ow 2 true i64 r.2.2.1, AV.ow 2 true i64 r.2.2.2]) (fun _ => ())
theorem o77 : Ok Tryz.prog k77 := by
 refine okl tok [.cell 2 131] Tryz.func77 Tryz.ntmps77 rfl Tryz.results77 (by kernel_rfl) rfl ?_
 intro y ⟨a0, _⟩ r H Q hn hr
 have hT := tc o119 tn
 refine qa tok hT [1, 2] (St.mk [p 1 (AV.ptr 1 0), p 2 (AV.ptr 2 0)] [(2, Ob.box 131 [AV.v (Value.slice none 0 0), AV.v (Value.slice none 0 0), AV.v (Value.slice none 0 0), AV.v (Value.slice none 0 0)]), (1, Ob.box 128 (cellsD false y128 a0))]) (by kernel_rfl) ?_
 refine qa tok hT [1, 2, 3] (St.mk [p 1 (AV.ptr 1 0), p 2 (AV.ptr 2 0), p 3 (AV.ptr 3 0)] [(3, Ob.box 131 [AV.v (Value.slice none 0 0), AV.v (Value.slice none 0 0), AV.v (Value.slice none 0 0), AV.v (Value.slice none 0 0)]), (2, Ob.box 131 [AV.v (Value.slice none 0 0), AV.v (Value.slice none 0 0), AV.v (Value.slice none 0 0), AV.v (Value.slice none 0 0)]), (1, Ob.box 128 (cellsD false y128 a0))]) (by kernel_rfl) ?_
 refine qd tok hT [1, 2, 3] (fun v0 => St.mk [p 1 (AV.ptr 1 0), p 2 (AV.ptr 2 0), p 3 (AV.ptr 3 0)] [(3, Ob.box 131 [AV.os 6 0, AV.v (Value.slice none 0 0), AV.v (Value.slice none 0 0), AV.v (Value.slice none 0 0)]), (6, Ob.arr 2 true i64 v0 0), (2, Ob.box 131 [AV.v (Value.slice none 0 0), AV.v (Value.slice none 0 0), AV.v (Value.slice none 0 0), AV.v (Value.slice none 0 0)]), (1, Ob.box 128 (cellsD false y128 a0))]) H (by kernel_rfl) fun v0 H => ?_
 refine qd tok hT [1, 2, 3] (fun v1 => St.mk [p 1 (AV.ptr 1 0), p 2 (AV.ptr 2 0), p 3 (AV.ptr 3 0)] [(3, Ob.box 131 [AV.os 6 0, AV.os 10 0, AV.v (Value.slice none 0 0), AV.v (Value.slice none 0 0)]), (10, Ob.arr 2 true i64 v1 0), (6, Ob.arr 2 true i64 v0 0), (2, Ob.box 131 [AV.v (Value.slice none 0 0), AV.v (Value.slice none 0 0), AV.v (Value.slice none 0 0), AV.v (Value.slice none 0 0)]), (1, Ob.box 128 (cellsD false y128 a0))]) H (by kernel_rfl) fun v1 H => ?_
 refine qd tok hT [1, 2, 3] (fun v2 => St.mk [p 1 (AV.ptr 1 0), p 2 (AV.ptr 2 0), p 3 (AV.ptr 3 0)] [(3, Ob.box 131 [AV.os 6 0, AV.os 10 0, AV.os 14 0, AV.v (Value.slice none 0 0)]), (14, Ob.arr 2 true i64 v2 0), (10, Ob.arr 2 true i64 v1 0), (6, Ob.arr 2 true i64 v0 0), (2, Ob.box 131 [AV.v (Value.slice none 0 0), AV.v (Value.slice none 0 0), AV.v (Value.slice none 0 0), AV.v (Value.slice none 0 0)]), (1, Ob.box 128 (cellsD false y128 a0))]) H (by kernel_rfl) fun v2 H => ?_
 refine qd tok hT [2, 3] (fun v3 => St.mk [p 2 (AV.ptr 2 0), p 3 (AV.ptr 3 0)] [(3, Ob.box 131 [AV.os 6 0, AV.os 10 0, AV.os 14 0, AV.os 18 0]), (18, Ob.arr 2 true i64 v3 0), (14, Ob.arr 2 true i64 v2 0), (10, Ob.arr 2 true i64 v1 0), (6, Ob.arr 2 true i64 v0 0), (2, Ob.box 131 [AV.v (Value.slice none 0 0), AV.v (Value.slice none 0 0), AV.v (Value.slice none 0 0), AV.v (Value.slice none 0 0)]), (1, Ob.box 128 (cellsD false y128 a0))]) H (by kernel_rfl) fun v3 H => ?_
 refine qa tok hT [2] (St.mk [p 2 (AV.ptr 2 0)] [(2, Ob.box 131 [AV.os 6 0, AV.os 10 0, AV.os 14 0, AV.os 18 0]), (3, Ob.box 131 [AV.os 6 0, AV.os 10 0, AV.os 14 0, AV.os 18 0]), (18, Ob.arr 2 true i64 v3 0), (14, Ob.arr 2 true i64 v2 0), (10, Ob.arr 2 true i64 v1 0), (6, Ob.arr 2 true i64 v0 0), (1, Ob.box 128 (cellsD false y128 a0))]) (by kernel_rfl) ?_
 exact vx_ret <| hr H (by kernel_rfl)
def k77d : Ct := lct 77 [.agg y128] (fun x => u77 x.1) (fun r => frz ((fun r : Y131 => AV.agg [AV.ow 2 true i64 r.1, AV.ow 2 true i64 r.2.1, AV.ow 2 true i64 r.2.2.1, AV.ow 2 true i64 r.2.2.2]) r)) (fun _ => ())
theorem o77d : Ok Tryz.prog k77d := ok_frz o77
def u34J0 : List Y131 → Option (List Y131)
 | v5 =>
 some v5
def u34L1 (a0 : List Y128) (g1 : Int × List Y131 → Option (List Y131)) : Int × List Y131 → Option (List Y131)
 | (v2, v3) =>
 if (decide (v2 < (↑a0.length : Int))) = true then
  gd (ix v2 a0.length ∧ (u77 (a0.getD v2.toNat (dflt y128))).isSome = true ∧ ix v2 v3.length ∧ v2.toNat < v3.length ∧ True) <| lt (vl (u77 (a0.getD v2.toNat (dflt y128)))) fun v4 =>
  gd (in64 (v2 + 1) ∧ True) <| 
  g1 (v2 + 1, v3.set v2.toNat v4)
 else
  u34J0 v3
def u34 (a0 : List Y128) : Option (List Y131) :=
 gd ((0 ≤ (↑a0.length : Int) ∧ (↑a0.length : Int) = (↑a0.length : Int) ∧ (↑a0.length : Int).toNat * 96 ≤ 281474976710656 ∧ (↑a0.length : Int) ≤ 9223372036854775807) ∧ True) <| 
 lp (u34L1 a0) ((0, List.replicate (↑a0.length : Int).toNat ([], [], [], [])))
def k34 : Ct := lct 34 [.dat y128.sl] (fun x => u34 x.1) (fun r : List Y131 => AV.ow 131 true y131 r) (fun _ => ())
theorem o34 : Ok Tryz.prog k34 := by
 refine okl tok [.tmp 2] Tryz.func34 Tryz.ntmps34 rfl Tryz.results34 (by kernel_rfl) rfl ?_
 intro y ⟨a0, _⟩ r H Q hn hr
 have hT := tc o77d tn
 refine qa tok hT [0] (St.mk [p 0 (L y128 a0)] []) (by kernel_rfl) ?_
 refine qb tok hT [0, 3] (St.mk [p 0 (L y128 a0), p 3 (AV.os 7 0)] [(7, Ob.arr 131 true y131 (List.replicate (↑a0.length : Int).toNat ([], [], [], [])) 0)]) H (by kernel_rfl) fun H => ?_
 refine jn r (fun (v5 : List Y131) => St.mk [p 3 (AV.os 7 0)] [(7, Ob.arr 131 true y131 v5 0)]) (u34J0) (fun v5 H => ?_) (fun _ n0 e0 t0 => ?_)
 ·refine qa tok hT [2] (St.mk [p 2 (AV.os 7 0)] [(7, Ob.arr 131 true y131 v5 0)]) (by kernel_rfl) ?_
  exact vx_ret <| hr H (by kernel_rfl)
 refine qa tok hT [0, 3, 4] (St.mk [p 0 (L y128 a0), p 3 (AV.os 7 0), p 4 (I 0)] [(7, Ob.arr 131 true y131 (List.replicate (↑a0.length : Int).toNat ([], [], [], [])) 0)]) (by kernel_rfl) ?_
 refine vx_block <| ?_
 refine lx (fun ((v2, v3) : Int × List Y131) => St.mk [p 0 (L y128 a0), p 3 (AV.os 7 0), p 4 (I v2)] [(7, Ob.arr 131 true y131 v3 0)]) ((0, List.replicate (↑a0.length : Int).toNat ([], [], [], []))) H (by kernel_rfl) fun _ g1 b1 e1 t1 ⟨v2, v3⟩ H => ?_
 refine vx_seq <| ?_
 refine qa tok hT [0, 3, 4, 11] (St.mk [p 0 (L y128 a0), p 3 (AV.os 7 0), p 4 (I v2), p 11 (B (decide (v2 < (↑a0.length : Int))))] [(7, Ob.arr 131 true y131 v3 0)]) (by kernel_rfl) ?_
 refine cd H (by kernel_rfl) (fun H => ?_) (fun H => ?_)
 ·refine vx_skip <| fx_seq <| vx_seq <| vx_block <| ?_
  refine zd tok hT [0, 3, 4] (fun v4 => St.mk [p 0 (L y128 a0), p 3 (AV.os 7 0), p 4 (I v2)] [(7, Ob.arr 131 true y131 (v3.set v2.toNat v4) 0)]) H (by kernel_rfl) fun v4 H => ?_
  refine fx_blk <| fx_seq <| ?_
  refine zb tok hT [0, 3, 4] (St.mk [p 0 (L y128 a0), p 3 (AV.os 7 0), p 4 (I (v2 + 1))] [(7, Ob.arr 131 true y131 (v3.set v2.toNat v4) 0)]) H (by kernel_rfl) fun H => ?_
  exact b1 H (by kernel_rfl)
 exact vx_exit <| fx_seq_exit <| e1 <| fx_blk_exit rfl <| n0 H (by kernel_rfl)
def u118 (a0 : Y191) : Option (Y143) :=
 some a0
def k118 : Ct := lct 118 [.agg y191] (fun x => u118 x.1) (fun r : Y143 => AV.agg [S r.1, I r.2.1, I r.2.2]) (fun _ => ())
theorem o118 : Ok Tryz.prog k118 := by
 refine okl tok [.cell 2 143] Tryz.func118 Tryz.ntmps118 rfl Tryz.results118 (by kernel_rfl) rfl ?_
 intro y ⟨a0, _⟩ r H Q hn hr
 have hT := @tn Tryz.prog
 refine qa tok hT [1, 2] (St.mk [p 1 (AV.ptr 1 0), p 2 (AV.ptr 2 0)] [(2, Ob.box 143 [S (ByteArray.mk #[]), I 0, I 0]), (1, Ob.box 191 (cellsD false y191 a0))]) (by kernel_rfl) ?_
 refine qa tok hT [1, 2, 3] (St.mk [p 1 (AV.ptr 1 0), p 2 (AV.ptr 2 0), p 3 (AV.ptr 3 0)] [(3, Ob.box 143 [S (ByteArray.mk #[]), I 0, I 0]), (2, Ob.box 143 [S (ByteArray.mk #[]), I 0, I 0]), (1, Ob.box 191 (cellsD false y191 a0))]) (by kernel_rfl) ?_
 refine qa tok hT [1, 2, 3] (St.mk [p 1 (AV.ptr 1 0), p 2 (AV.ptr 2 0), p 3 (AV.ptr 3 0)] [(3, Ob.box 143 [U a0.1, I 0, I 0]), (2, Ob.box 143 [S (ByteArray.mk #[]), I 0, I 0]), (1, Ob.box 191 (cellsD false y191 a0))]) (by kernel_rfl) ?_
 refine qa tok hT [1, 2, 3] (St.mk [p 1 (AV.ptr 1 0), p 2 (AV.ptr 2 0), p 3 (AV.ptr 3 0)] [(3, Ob.box 143 [U a0.1, J a0.2.1, I 0]), (2, Ob.box 143 [S (ByteArray.mk #[]), I 0, I 0]), (1, Ob.box 191 (cellsD false y191 a0))]) (by kernel_rfl) ?_
 refine qa tok hT [2, 3] (St.mk [p 2 (AV.ptr 2 0), p 3 (AV.ptr 3 0)] [(3, Ob.box 143 (cellsD false y143 a0)), (2, Ob.box 143 [S (ByteArray.mk #[]), I 0, I 0]), (1, Ob.box 191 (cellsD false y191 a0))]) (by kernel_rfl) ?_
 refine qa tok hT [2] (St.mk [p 2 (AV.ptr 2 0)] [(2, Ob.box 143 (cellsD false y143 a0)), (3, Ob.box 143 (cellsD false y143 a0)), (1, Ob.box 191 (cellsD false y191 a0))]) (by kernel_rfl) ?_
 exact vx_ret <| hr H (by kernel_rfl)
def u76J0 : List Y143 → Option (List Y143)
 | v5 =>
 some v5
def u76L1 (a0 : List Y191) (g1 : Int × List Y143 → Option (List Y143)) : Int × List Y143 → Option (List Y143)
 | (v2, v3) =>
 if (decide (v2 < (↑a0.length : Int))) = true then
  gd (ix v2 a0.length ∧ (u118 (a0.getD v2.toNat (dflt y191))).isSome = true ∧ ix v2 v3.length ∧ v2.toNat < v3.length ∧ True) <| lt (vl (u118 (a0.getD v2.toNat (dflt y191)))) fun v4 =>
  gd (in64 (v2 + 1) ∧ True) <| 
  g1 (v2 + 1, v3.set v2.toNat v4)
 else
  u76J0 v3
def u76 (a0 : List Y191) : Option (List Y143) :=
 gd ((0 ≤ (↑a0.length : Int) ∧ (↑a0.length : Int) = (↑a0.length : Int) ∧ (↑a0.length : Int).toNat * 32 ≤ 281474976710656 ∧ (↑a0.length : Int) ≤ 9223372036854775807) ∧ True) <| lt (List.replicate (↑a0.length : Int).toNat (ByteArray.mk #[], (0 : Int), (0 : Int))) fun v0 =>
 lp (u76L1 a0) (0, v0)
def k76 : Ct := lct 76 [.dat y191.sl] (fun x => u76 x.1) (fun r : List Y143 => AV.ow 143 true y143 r) (fun _ => ())
theorem o76 : Ok Tryz.prog k76 := by
 refine okl tok [.tmp 2] Tryz.func76 Tryz.ntmps76 rfl Tryz.results76 (by kernel_rfl) rfl ?_
 intro y ⟨a0, _⟩ r H Q hn hr
 have hT := tc o118 tn
 refine qa tok hT [0] (St.mk [p 0 (L y191 a0)] []) (by kernel_rfl) ?_
 refine qd tok hT [0, 3] (fun v0 => St.mk [p 0 (L y191 a0), p 3 (AV.os 7 0)] [(7, Ob.arr 143 true y143 v0 0)]) H (by kernel_rfl) fun v0 H => ?_
 refine jn r (fun (v5 : List Y143) => St.mk [p 3 (AV.os 7 0)] [(7, Ob.arr 143 true y143 v5 0)]) (u76J0) (fun v5 H => ?_) (fun _ n0 e0 t0 => ?_)
 ·refine qa tok hT [2] (St.mk [p 2 (AV.os 7 0)] [(7, Ob.arr 143 true y143 v5 0)]) (by kernel_rfl) ?_
  exact vx_ret <| hr H (by kernel_rfl)
 refine qa tok hT [0, 3, 4] (St.mk [p 0 (L y191 a0), p 3 (AV.os 7 0), p 4 (I 0)] [(7, Ob.arr 143 true y143 v0 0)]) (by kernel_rfl) ?_
 refine vx_block <| ?_
 refine lx (fun ((v2, v3) : Int × List Y143) => St.mk [p 0 (L y191 a0), p 3 (AV.os 7 0), p 4 (I v2)] [(7, Ob.arr 143 true y143 v3 0)]) (0, v0) H (by kernel_rfl) fun _ g1 b1 e1 t1 ⟨v2, v3⟩ H => ?_
 refine vx_seq <| ?_
 refine qa tok hT [0, 3, 4, 11] (St.mk [p 0 (L y191 a0), p 3 (AV.os 7 0), p 4 (I v2), p 11 (B (decide (v2 < (↑a0.length : Int))))] [(7, Ob.arr 143 true y143 v3 0)]) (by kernel_rfl) ?_
 refine cd H (by kernel_rfl) (fun H => ?_) (fun H => ?_)
 ·refine vx_skip <| fx_seq <| vx_seq <| vx_block <| ?_
  refine zd tok hT [0, 3, 4] (fun v4 => St.mk [p 0 (L y191 a0), p 3 (AV.os 7 0), p 4 (I v2)] [(7, Ob.arr 143 true y143 (v3.set v2.toNat v4) 0)]) H (by kernel_rfl) fun v4 H => ?_
  refine fx_blk <| fx_seq <| ?_
  refine zb tok hT [0, 3, 4] (St.mk [p 0 (L y191 a0), p 3 (AV.os 7 0), p 4 (I (v2 + 1))] [(7, Ob.arr 143 true y143 (v3.set v2.toNat v4) 0)]) H (by kernel_rfl) fun H => ?_
  exact b1 H (by kernel_rfl)
 exact vx_exit <| fx_seq_exit <| e1 <| fx_blk_exit rfl <| n0 H (by kernel_rfl)
def u75J0 : List ByteArray → Option (List ByteArray)
 | v3 =>
 some v3
def u75L1 (a0 : List ByteArray) (g1 : Int × List ByteArray → Option (List ByteArray)) : Int × List ByteArray → Option (List ByteArray)
 | (v1, v2) =>
 if (decide (v1 < (↑a0.length : Int))) = true then
  gd (ix v1 a0.length ∧ ix v1 v2.length ∧ v1.toNat < v2.length ∧ True) <| 
  gd (in64 (v1 + 1) ∧ True) <| 
  g1 ((v1 + 1, v2.set v1.toNat (a0.getD v1.toNat (dflt Ty.str))))
 else
  u75J0 v2
def u75 (a0 : List ByteArray) : Option (List ByteArray) :=
 gd ((0 ≤ (↑a0.length : Int) ∧ (↑a0.length : Int) = (↑a0.length : Int) ∧ (↑a0.length : Int).toNat * 16 ≤ 281474976710656 ∧ (↑a0.length : Int) ≤ 9223372036854775807) ∧ True) <| 
 lp (u75L1 a0) ((0, List.replicate (↑a0.length : Int).toNat (ByteArray.mk #[])))
def k75 : Ct := lct 75 [.dat Ty.str.sl] (fun x => u75 x.1) (fun r : List ByteArray => AV.ow 9 true Ty.str r) (fun _ => ())
theorem o75 : Ok Tryz.prog k75 := by
 refine okl tok [.tmp 2] Tryz.func75 Tryz.ntmps75 rfl Tryz.results75 (by kernel_rfl) rfl ?_
 intro y ⟨a0, _⟩ r H Q hn hr
 have hT := @tn Tryz.prog
 refine qa tok hT [0] (St.mk [p 0 (L Ty.str a0)] []) (by kernel_rfl) ?_
 refine qb tok hT [0, 3] (St.mk [p 0 (L Ty.str a0), p 3 (AV.os 7 0)] [(7, Ob.arr 9 true Ty.str (List.replicate (↑a0.length : Int).toNat (ByteArray.mk #[])) 0)]) H (by kernel_rfl) fun H => ?_
 refine jn r (fun (v3 : List ByteArray) => St.mk [p 3 (AV.os 7 0)] [(7, Ob.arr 9 true Ty.str v3 0)]) (u75J0) (fun v3 H => ?_) (fun _ n0 e0 t0 => ?_)
 ·refine qa tok hT [2] (St.mk [p 2 (AV.os 7 0)] [(7, Ob.arr 9 true Ty.str v3 0)]) (by kernel_rfl) ?_
  exact vx_ret <| hr H (by kernel_rfl)
 refine qa tok hT [0, 3, 4] (St.mk [p 0 (L Ty.str a0), p 3 (AV.os 7 0), p 4 (I 0)] [(7, Ob.arr 9 true Ty.str (List.replicate (↑a0.length : Int).toNat (ByteArray.mk #[])) 0)]) (by kernel_rfl) ?_
 refine vx_block <| ?_
 refine lx (fun ((v1, v2) : Int × List ByteArray) => St.mk [p 0 (L Ty.str a0), p 3 (AV.os 7 0), p 4 (I v1)] [(7, Ob.arr 9 true Ty.str v2 0)]) ((0, List.replicate (↑a0.length : Int).toNat (ByteArray.mk #[]))) H (by kernel_rfl) fun _ g1 b1 e1 t1 ⟨v1, v2⟩ H => ?_
 refine vx_seq <| ?_
 refine qa tok hT [0, 3, 4, 11] (St.mk [p 0 (L Ty.str a0), p 3 (AV.os 7 0), p 4 (I v1), p 11 (B (decide (v1 < (↑a0.length : Int))))] [(7, Ob.arr 9 true Ty.str v2 0)]) (by kernel_rfl) ?_
 refine cd H (by kernel_rfl) (fun H => ?_) (fun H => ?_)
 ·refine vx_skip <| fx_seq <| vx_seq <| vx_block <| ?_
  refine zb tok hT [0, 3, 4] (St.mk [p 0 (L Ty.str a0), p 3 (AV.os 7 0), p 4 (I v1)] [(7, Ob.arr 9 true Ty.str (v2.set v1.toNat (a0.getD v1.toNat (dflt Ty.str))) 0)]) H (by kernel_rfl) fun H => ?_
  refine fx_blk <| fx_seq <| ?_
  refine zb tok hT [0, 3, 4] (St.mk [p 0 (L Ty.str a0), p 3 (AV.os 7 0), p 4 (I (v1 + 1))] [(7, Ob.arr 9 true Ty.str (v2.set v1.toNat (a0.getD v1.toNat (dflt Ty.str))) 0)]) H (by kernel_rfl) fun H => ?_
  exact b1 H (by kernel_rfl)
 exact vx_exit <| fx_seq_exit <| e1 <| fx_blk_exit rfl <| n0 H (by kernel_rfl)
def u117 (a0 : Y189) : Option (Y141) :=
 gd ((u119 a0.2.2).isSome = true ∧ True) <| lt (vl (u119 a0.2.2)) fun v0 =>
 some (a0.1, a0.2.1, v0)
def k117 : Ct := lct 117 [.agg y189] (fun x => u117 x.1) (fun r : Y141 => AV.agg [S r.1, I r.2.1, AV.ow 2 true i64 r.2.2]) (fun _ => ())
theorem o117 : Ok Tryz.prog k117 := by
 refine okl tok [.cell 2 141] Tryz.func117 Tryz.ntmps117 rfl Tryz.results117 (by kernel_rfl) rfl ?_
 intro y ⟨a0, _⟩ r H Q hn hr
 have hT := tc o119 tn
 refine qa tok hT [1, 2] (St.mk [p 1 (AV.ptr 1 0), p 2 (AV.ptr 2 0)] [(2, Ob.box 141 [S (ByteArray.mk #[]), I 0, AV.v (Value.slice none 0 0)]), (1, Ob.box 189 (cellsD false y189 a0))]) (by kernel_rfl) ?_
 refine qa tok hT [1, 2, 3] (St.mk [p 1 (AV.ptr 1 0), p 2 (AV.ptr 2 0), p 3 (AV.ptr 3 0)] [(3, Ob.box 141 [S (ByteArray.mk #[]), I 0, AV.v (Value.slice none 0 0)]), (2, Ob.box 141 [S (ByteArray.mk #[]), I 0, AV.v (Value.slice none 0 0)]), (1, Ob.box 189 (cellsD false y189 a0))]) (by kernel_rfl) ?_
 refine qa tok hT [1, 2, 3] (St.mk [p 1 (AV.ptr 1 0), p 2 (AV.ptr 2 0), p 3 (AV.ptr 3 0)] [(3, Ob.box 141 [U a0.1, I 0, AV.v (Value.slice none 0 0)]), (2, Ob.box 141 [S (ByteArray.mk #[]), I 0, AV.v (Value.slice none 0 0)]), (1, Ob.box 189 (cellsD false y189 a0))]) (by kernel_rfl) ?_
 refine qa tok hT [1, 2, 3] (St.mk [p 1 (AV.ptr 1 0), p 2 (AV.ptr 2 0), p 3 (AV.ptr 3 0)] [(3, Ob.box 141 [U a0.1, J a0.2.1, AV.v (Value.slice none 0 0)]), (2, Ob.box 141 [S (ByteArray.mk #[]), I 0, AV.v (Value.slice none 0 0)]), (1, Ob.box 189 (cellsD false y189 a0))]) (by kernel_rfl) ?_
 refine qd tok hT [2, 3] (fun v0 => St.mk [p 2 (AV.ptr 2 0), p 3 (AV.ptr 3 0)] [(3, Ob.box 141 [U a0.1, J a0.2.1, AV.os 12 0]), (12, Ob.arr 2 true i64 v0 0), (2, Ob.box 141 [S (ByteArray.mk #[]), I 0, AV.v (Value.slice none 0 0)]), (1, Ob.box 189 (cellsD false y189 a0))]) H (by kernel_rfl) fun v0 H => ?_
 refine qa tok hT [2] (St.mk [p 2 (AV.ptr 2 0)] [(2, Ob.box 141 [U a0.1, J a0.2.1, AV.os 12 0]), (3, Ob.box 141 [U a0.1, J a0.2.1, AV.os 12 0]), (12, Ob.arr 2 true i64 v0 0), (1, Ob.box 189 (cellsD false y189 a0))]) (by kernel_rfl) ?_
 exact vx_ret <| hr H (by kernel_rfl)
def k117d : Ct := lct 117 [.agg y189] (fun x => u117 x.1) (fun r => frz ((fun r : Y141 => AV.agg [S r.1, I r.2.1, AV.ow 2 true i64 r.2.2]) r)) (fun _ => ())
theorem o117d : Ok Tryz.prog k117d := ok_frz o117
def u74J0 : List Y141 → Option (List Y141)
 | v5 =>
 some v5
def u74L1 (a0 : List Y189) (g1 : Int × List Y141 → Option (List Y141)) : Int × List Y141 → Option (List Y141)
 | (v2, v3) =>
 if (decide (v2 < (↑a0.length : Int))) = true then
  gd (ix v2 a0.length ∧ (u117 (a0.getD v2.toNat (dflt y189))).isSome = true ∧ ix v2 v3.length ∧ v2.toNat < v3.length ∧ True) <| lt (vl (u117 (a0.getD v2.toNat (dflt y189)))) fun v4 =>
  gd (in64 (v2 + 1) ∧ True) <| 
  g1 (v2 + 1, v3.set v2.toNat v4)
 else
  u74J0 v3
def u74 (a0 : List Y189) : Option (List Y141) :=
 gd ((0 ≤ (↑a0.length : Int) ∧ (↑a0.length : Int) = (↑a0.length : Int) ∧ (↑a0.length : Int).toNat * 48 ≤ 281474976710656 ∧ (↑a0.length : Int) ≤ 9223372036854775807) ∧ True) <| lt (List.replicate (↑a0.length : Int).toNat (ByteArray.mk #[], (0 : Int), [])) fun v0 =>
 lp (u74L1 a0) (0, v0)
def k74 : Ct := lct 74 [.dat y189.sl] (fun x => u74 x.1) (fun r : List Y141 => AV.ow 141 true y141 r) (fun _ => ())
theorem o74 : Ok Tryz.prog k74 := by
 refine okl tok [.tmp 2] Tryz.func74 Tryz.ntmps74 rfl Tryz.results74 (by kernel_rfl) rfl ?_
 intro y ⟨a0, _⟩ r H Q hn hr
 have hT := tc o117d tn
 refine qa tok hT [0] (St.mk [p 0 (L y189 a0)] []) (by kernel_rfl) ?_
 refine qd tok hT [0, 3] (fun v0 => St.mk [p 0 (L y189 a0), p 3 (AV.os 7 0)] [(7, Ob.arr 141 true y141 v0 0)]) H (by kernel_rfl) fun v0 H => ?_
 refine jn r (fun (v5 : List Y141) => St.mk [p 3 (AV.os 7 0)] [(7, Ob.arr 141 true y141 v5 0)]) (u74J0) (fun v5 H => ?_) (fun _ n0 e0 t0 => ?_)
 ·refine qa tok hT [2] (St.mk [p 2 (AV.os 7 0)] [(7, Ob.arr 141 true y141 v5 0)]) (by kernel_rfl) ?_
  exact vx_ret <| hr H (by kernel_rfl)
 refine qa tok hT [0, 3, 4] (St.mk [p 0 (L y189 a0), p 3 (AV.os 7 0), p 4 (I 0)] [(7, Ob.arr 141 true y141 v0 0)]) (by kernel_rfl) ?_
 refine vx_block <| ?_
 refine lx (fun ((v2, v3) : Int × List Y141) => St.mk [p 0 (L y189 a0), p 3 (AV.os 7 0), p 4 (I v2)] [(7, Ob.arr 141 true y141 v3 0)]) (0, v0) H (by kernel_rfl) fun _ g1 b1 e1 t1 ⟨v2, v3⟩ H => ?_
 refine vx_seq <| ?_
 refine qa tok hT [0, 3, 4, 11] (St.mk [p 0 (L y189 a0), p 3 (AV.os 7 0), p 4 (I v2), p 11 (B (decide (v2 < (↑a0.length : Int))))] [(7, Ob.arr 141 true y141 v3 0)]) (by kernel_rfl) ?_
 refine cd H (by kernel_rfl) (fun H => ?_) (fun H => ?_)
 ·refine vx_skip <| fx_seq <| vx_seq <| vx_block <| ?_
  refine zd tok hT [0, 3, 4] (fun v4 => St.mk [p 0 (L y189 a0), p 3 (AV.os 7 0), p 4 (I v2)] [(7, Ob.arr 141 true y141 (v3.set v2.toNat v4) 0)]) H (by kernel_rfl) fun v4 H => ?_
  refine fx_blk <| fx_seq <| ?_
  refine zb tok hT [0, 3, 4] (St.mk [p 0 (L y189 a0), p 3 (AV.os 7 0), p 4 (I (v2 + 1))] [(7, Ob.arr 141 true y141 (v3.set v2.toNat v4) 0)]) H (by kernel_rfl) fun H => ?_
  exact b1 H (by kernel_rfl)
 exact vx_exit <| fx_seq_exit <| e1 <| fx_blk_exit rfl <| n0 H (by kernel_rfl)
def u33 (a0 : Y29) : Option (Y41) :=
 gd ((u74 a0.1).isSome = true ∧ True) <| lt (vl (u74 a0.1)) fun v0 =>
 gd ((u75 a0.2.1).isSome = true ∧ True) <| lt (vl (u75 a0.2.1)) fun v1 =>
 gd ((u76 a0.2.2).isSome = true ∧ True) <| lt (vl (u76 a0.2.2)) fun v2 =>
 some (v0, v1, v2)
def k33 : Ct := lct 33 [.agg y29] (fun x => u33 x.1) (fun r : Y41 => AV.agg [AV.ow 141 true y141 r.1, AV.ow 9 true Ty.str r.2.1, AV.ow 143 true y143 r.2.2]) (fun _ => ())
theorem o33 : Ok Tryz.prog k33 := by
 refine okl tok [.cell 2 41] Tryz.func33 Tryz.ntmps33 rfl Tryz.results33 (by kernel_rfl) rfl ?_
 intro y ⟨a0, _⟩ r H Q hn hr
 have hT := tc o76 (tc o75 (tc o74 tn))
 refine qa tok hT [1, 2] (St.mk [p 1 (AV.ptr 1 0), p 2 (AV.ptr 2 0)] [(2, Ob.box 41 [AV.v (Value.slice none 0 0), AV.v (Value.slice none 0 0), AV.v (Value.slice none 0 0)]), (1, Ob.box 29 (cellsD false y29 a0))]) (by kernel_rfl) ?_
 refine qa tok hT [1, 2, 3] (St.mk [p 1 (AV.ptr 1 0), p 2 (AV.ptr 2 0), p 3 (AV.ptr 3 0)] [(3, Ob.box 41 [AV.v (Value.slice none 0 0), AV.v (Value.slice none 0 0), AV.v (Value.slice none 0 0)]), (2, Ob.box 41 [AV.v (Value.slice none 0 0), AV.v (Value.slice none 0 0), AV.v (Value.slice none 0 0)]), (1, Ob.box 29 (cellsD false y29 a0))]) (by kernel_rfl) ?_
 refine qd tok hT [1, 2, 3] (fun v0 => St.mk [p 1 (AV.ptr 1 0), p 2 (AV.ptr 2 0), p 3 (AV.ptr 3 0)] [(3, Ob.box 41 [AV.os 6 0, AV.v (Value.slice none 0 0), AV.v (Value.slice none 0 0)]), (6, Ob.arr 141 true y141 v0 0), (2, Ob.box 41 [AV.v (Value.slice none 0 0), AV.v (Value.slice none 0 0), AV.v (Value.slice none 0 0)]), (1, Ob.box 29 (cellsD false y29 a0))]) H (by kernel_rfl) fun v0 H => ?_
 refine qd tok hT [1, 2, 3] (fun v1 => St.mk [p 1 (AV.ptr 1 0), p 2 (AV.ptr 2 0), p 3 (AV.ptr 3 0)] [(3, Ob.box 41 [AV.os 6 0, AV.os 10 0, AV.v (Value.slice none 0 0)]), (10, Ob.arr 9 true Ty.str v1 0), (6, Ob.arr 141 true y141 v0 0), (2, Ob.box 41 [AV.v (Value.slice none 0 0), AV.v (Value.slice none 0 0), AV.v (Value.slice none 0 0)]), (1, Ob.box 29 (cellsD false y29 a0))]) H (by kernel_rfl) fun v1 H => ?_
 refine qd tok hT [2, 3] (fun v2 => St.mk [p 2 (AV.ptr 2 0), p 3 (AV.ptr 3 0)] [(3, Ob.box 41 [AV.os 6 0, AV.os 10 0, AV.os 14 0]), (14, Ob.arr 143 true y143 v2 0), (10, Ob.arr 9 true Ty.str v1 0), (6, Ob.arr 141 true y141 v0 0), (2, Ob.box 41 [AV.v (Value.slice none 0 0), AV.v (Value.slice none 0 0), AV.v (Value.slice none 0 0)]), (1, Ob.box 29 (cellsD false y29 a0))]) H (by kernel_rfl) fun v2 H => ?_
 refine qa tok hT [2] (St.mk [p 2 (AV.ptr 2 0)] [(2, Ob.box 41 [AV.os 6 0, AV.os 10 0, AV.os 14 0]), (3, Ob.box 41 [AV.os 6 0, AV.os 10 0, AV.os 14 0]), (14, Ob.arr 143 true y143 v2 0), (10, Ob.arr 9 true Ty.str v1 0), (6, Ob.arr 141 true y141 v0 0), (1, Ob.box 29 (cellsD false y29 a0))]) (by kernel_rfl) ?_
 exact vx_ret <| hr H (by kernel_rfl)
def u188 (a0 : Y258) : Option (Y96) :=
 gd ((u119 a0.1).isSome = true ∧ True) <| lt (vl (u119 a0.1)) fun v0 =>
 gd ((u119 a0.2.1).isSome = true ∧ True) <| lt (vl (u119 a0.2.1)) fun v1 =>
 gd ((u119 a0.2.2).isSome = true ∧ True) <| lt (vl (u119 a0.2.2)) fun v2 =>
 some (v0, v1, v2)
def k188 : Ct := lct 188 [.agg y258] (fun x => u188 x.1) (fun r : Y96 => AV.agg [AV.ow 2 true i64 r.1, AV.ow 2 true i64 r.2.1, AV.ow 2 true i64 r.2.2]) (fun _ => ())
theorem o188 : Ok Tryz.prog k188 := by
 refine okl tok [.cell 2 96] Tryz.func188 Tryz.ntmps188 rfl Tryz.results188 (by kernel_rfl) rfl ?_
 intro y ⟨a0, _⟩ r H Q hn hr
 have hT := tc o119 tn
 refine qa tok hT [1, 2] (St.mk [p 1 (AV.ptr 1 0), p 2 (AV.ptr 2 0)] [(2, Ob.box 96 [AV.v (Value.slice none 0 0), AV.v (Value.slice none 0 0), AV.v (Value.slice none 0 0)]), (1, Ob.box 258 (cellsD false y258 a0))]) (by kernel_rfl) ?_
 refine qa tok hT [1, 2, 3] (St.mk [p 1 (AV.ptr 1 0), p 2 (AV.ptr 2 0), p 3 (AV.ptr 3 0)] [(3, Ob.box 96 [AV.v (Value.slice none 0 0), AV.v (Value.slice none 0 0), AV.v (Value.slice none 0 0)]), (2, Ob.box 96 [AV.v (Value.slice none 0 0), AV.v (Value.slice none 0 0), AV.v (Value.slice none 0 0)]), (1, Ob.box 258 (cellsD false y258 a0))]) (by kernel_rfl) ?_
 refine qd tok hT [1, 2, 3] (fun v0 => St.mk [p 1 (AV.ptr 1 0), p 2 (AV.ptr 2 0), p 3 (AV.ptr 3 0)] [(3, Ob.box 96 [AV.os 6 0, AV.v (Value.slice none 0 0), AV.v (Value.slice none 0 0)]), (6, Ob.arr 2 true i64 v0 0), (2, Ob.box 96 [AV.v (Value.slice none 0 0), AV.v (Value.slice none 0 0), AV.v (Value.slice none 0 0)]), (1, Ob.box 258 (cellsD false y258 a0))]) H (by kernel_rfl) fun v0 H => ?_
 refine qd tok hT [1, 2, 3] (fun v1 => St.mk [p 1 (AV.ptr 1 0), p 2 (AV.ptr 2 0), p 3 (AV.ptr 3 0)] [(3, Ob.box 96 [AV.os 6 0, AV.os 10 0, AV.v (Value.slice none 0 0)]), (10, Ob.arr 2 true i64 v1 0), (6, Ob.arr 2 true i64 v0 0), (2, Ob.box 96 [AV.v (Value.slice none 0 0), AV.v (Value.slice none 0 0), AV.v (Value.slice none 0 0)]), (1, Ob.box 258 (cellsD false y258 a0))]) H (by kernel_rfl) fun v1 H => ?_
 refine qd tok hT [2, 3] (fun v2 => St.mk [p 2 (AV.ptr 2 0), p 3 (AV.ptr 3 0)] [(3, Ob.box 96 [AV.os 6 0, AV.os 10 0, AV.os 14 0]), (14, Ob.arr 2 true i64 v2 0), (10, Ob.arr 2 true i64 v1 0), (6, Ob.arr 2 true i64 v0 0), (2, Ob.box 96 [AV.v (Value.slice none 0 0), AV.v (Value.slice none 0 0), AV.v (Value.slice none 0 0)]), (1, Ob.box 258 (cellsD false y258 a0))]) H (by kernel_rfl) fun v2 H => ?_
 refine qa tok hT [2] (St.mk [p 2 (AV.ptr 2 0)] [(2, Ob.box 96 [AV.os 6 0, AV.os 10 0, AV.os 14 0]), (3, Ob.box 96 [AV.os 6 0, AV.os 10 0, AV.os 14 0]), (14, Ob.arr 2 true i64 v2 0), (10, Ob.arr 2 true i64 v1 0), (6, Ob.arr 2 true i64 v0 0), (1, Ob.box 258 (cellsD false y258 a0))]) (by kernel_rfl) ?_
 exact vx_ret <| hr H (by kernel_rfl)
def k188d : Ct := lct 188 [.agg y258] (fun x => u188 x.1) (fun r => frz ((fun r : Y96 => AV.agg [AV.ow 2 true i64 r.1, AV.ow 2 true i64 r.2.1, AV.ow 2 true i64 r.2.2]) r)) (fun _ => ())
theorem o188d : Ok Tryz.prog k188d := ok_frz o188
def u175J0 : List Y96 → Option (List Y96)
 | v5 =>
 some v5
def u175L1 (a0 : List Y258) (g1 : Int × List Y96 → Option (List Y96)) : Int × List Y96 → Option (List Y96)
 | (v2, v3) =>
 if (decide (v2 < (↑a0.length : Int))) = true then
  gd (ix v2 a0.length ∧ (u188 (a0.getD v2.toNat (dflt y258))).isSome = true ∧ ix v2 v3.length ∧ v2.toNat < v3.length ∧ True) <| lt (vl (u188 (a0.getD v2.toNat (dflt y258)))) fun v4 =>
  gd (in64 (v2 + 1) ∧ True) <| 
  g1 (v2 + 1, v3.set v2.toNat v4)
 else
  u175J0 v3
def u175 (a0 : List Y258) : Option (List Y96) :=
 gd ((0 ≤ (↑a0.length : Int) ∧ (↑a0.length : Int) = (↑a0.length : Int) ∧ (↑a0.length : Int).toNat * 72 ≤ 281474976710656 ∧ (↑a0.length : Int) ≤ 9223372036854775807) ∧ True) <| 
 lp (u175L1 a0) ((0, List.replicate (↑a0.length : Int).toNat ([], [], [])))
def k175 : Ct := lct 175 [.dat y258.sl] (fun x => u175 x.1) (fun r : List Y96 => AV.ow 96 true y96 r) (fun _ => ())
theorem o175 : Ok Tryz.prog k175 := by
 refine okl tok [.tmp 2] Tryz.func175 Tryz.ntmps175 rfl Tryz.results175 (by kernel_rfl) rfl ?_
 intro y ⟨a0, _⟩ r H Q hn hr
 have hT := tc o188d tn
 refine qa tok hT [0] (St.mk [p 0 (L y258 a0)] []) (by kernel_rfl) ?_
 refine qb tok hT [0, 3] (St.mk [p 0 (L y258 a0), p 3 (AV.os 7 0)] [(7, Ob.arr 96 true y96 (List.replicate (↑a0.length : Int).toNat ([], [], [])) 0)]) H (by kernel_rfl) fun H => ?_
 refine jn r (fun (v5 : List Y96) => St.mk [p 3 (AV.os 7 0)] [(7, Ob.arr 96 true y96 v5 0)]) (u175J0) (fun v5 H => ?_) (fun _ n0 e0 t0 => ?_)
 ·refine qa tok hT [2] (St.mk [p 2 (AV.os 7 0)] [(7, Ob.arr 96 true y96 v5 0)]) (by kernel_rfl) ?_
  exact vx_ret <| hr H (by kernel_rfl)
 refine qa tok hT [0, 3, 4] (St.mk [p 0 (L y258 a0), p 3 (AV.os 7 0), p 4 (I 0)] [(7, Ob.arr 96 true y96 (List.replicate (↑a0.length : Int).toNat ([], [], [])) 0)]) (by kernel_rfl) ?_
 refine vx_block <| ?_
 refine lx (fun ((v2, v3) : Int × List Y96) => St.mk [p 0 (L y258 a0), p 3 (AV.os 7 0), p 4 (I v2)] [(7, Ob.arr 96 true y96 v3 0)]) ((0, List.replicate (↑a0.length : Int).toNat ([], [], []))) H (by kernel_rfl) fun _ g1 b1 e1 t1 ⟨v2, v3⟩ H => ?_
 refine vx_seq <| ?_
 refine qa tok hT [0, 3, 4, 11] (St.mk [p 0 (L y258 a0), p 3 (AV.os 7 0), p 4 (I v2), p 11 (B (decide (v2 < (↑a0.length : Int))))] [(7, Ob.arr 96 true y96 v3 0)]) (by kernel_rfl) ?_
 refine cd H (by kernel_rfl) (fun H => ?_) (fun H => ?_)
 ·refine vx_skip <| fx_seq <| vx_seq <| vx_block <| ?_
  refine zd tok hT [0, 3, 4] (fun v4 => St.mk [p 0 (L y258 a0), p 3 (AV.os 7 0), p 4 (I v2)] [(7, Ob.arr 96 true y96 (v3.set v2.toNat v4) 0)]) H (by kernel_rfl) fun v4 H => ?_
  refine fx_blk <| fx_seq <| ?_
  refine zb tok hT [0, 3, 4] (St.mk [p 0 (L y258 a0), p 3 (AV.os 7 0), p 4 (I (v2 + 1))] [(7, Ob.arr 96 true y96 (v3.set v2.toNat v4) 0)]) H (by kernel_rfl) fun H => ?_
  exact b1 H (by kernel_rfl)
 exact vx_exit <| fx_seq_exit <| e1 <| fx_blk_exit rfl <| n0 H (by kernel_rfl)
def u163 (a0 : Y236) : Option (Y89) :=
 gd ((u175 a0.2.2.2.2.1).isSome = true ∧ True) <| lt (vl (u175 a0.2.2.2.2.1)) fun v0 =>
 gd ((u175 a0.2.2.2.2.2).isSome = true ∧ True) <| lt (vl (u175 a0.2.2.2.2.2)) fun v1 =>
 some (a0.1, a0.2.1, a0.2.2.1, a0.2.2.2.1, v0, v1)
def k163 : Ct := lct 163 [.agg y236] (fun x => u163 x.1) (fun r : Y89 => AV.agg [I r.1, I r.2.1, I r.2.2.1, I r.2.2.2.1, AV.ow 96 true y96 r.2.2.2.2.1, AV.ow 96 true y96 r.2.2.2.2.2]) (fun _ => ())
theorem o163 : Ok Tryz.prog k163 := by
 refine okl tok [.cell 2 89] Tryz.func163 Tryz.ntmps163 rfl Tryz.results163 (by kernel_rfl) rfl ?_
 intro y ⟨a0, _⟩ r H Q hn hr
 have hT := tc o175 tn
 refine qa tok hT [1, 2] (St.mk [p 1 (AV.ptr 1 0), p 2 (AV.ptr 2 0)] [(2, Ob.box 89 [I 0, I 0, I 0, I 0, AV.v (Value.slice none 0 0), AV.v (Value.slice none 0 0)]), (1, Ob.box 236 (cellsD false y236 a0))]) (by kernel_rfl) ?_
 refine qa tok hT [1, 2, 3] (St.mk [p 1 (AV.ptr 1 0), p 2 (AV.ptr 2 0), p 3 (AV.ptr 3 0)] [(3, Ob.box 89 [I 0, I 0, I 0, I 0, AV.v (Value.slice none 0 0), AV.v (Value.slice none 0 0)]), (2, Ob.box 89 [I 0, I 0, I 0, I 0, AV.v (Value.slice none 0 0), AV.v (Value.slice none 0 0)]), (1, Ob.box 236 (cellsD false y236 a0))]) (by kernel_rfl) ?_
 refine qa tok hT [1, 2, 3] (St.mk [p 1 (AV.ptr 1 0), p 2 (AV.ptr 2 0), p 3 (AV.ptr 3 0)] [(3, Ob.box 89 [J a0.1, I 0, I 0, I 0, AV.v (Value.slice none 0 0), AV.v (Value.slice none 0 0)]), (2, Ob.box 89 [I 0, I 0, I 0, I 0, AV.v (Value.slice none 0 0), AV.v (Value.slice none 0 0)]), (1, Ob.box 236 (cellsD false y236 a0))]) (by kernel_rfl) ?_
 refine qa tok hT [1, 2, 3] (St.mk [p 1 (AV.ptr 1 0), p 2 (AV.ptr 2 0), p 3 (AV.ptr 3 0)] [(3, Ob.box 89 [J a0.1, J a0.2.1, I 0, I 0, AV.v (Value.slice none 0 0), AV.v (Value.slice none 0 0)]), (2, Ob.box 89 [I 0, I 0, I 0, I 0, AV.v (Value.slice none 0 0), AV.v (Value.slice none 0 0)]), (1, Ob.box 236 (cellsD false y236 a0))]) (by kernel_rfl) ?_
 refine qa tok hT [1, 2, 3] (St.mk [p 1 (AV.ptr 1 0), p 2 (AV.ptr 2 0), p 3 (AV.ptr 3 0)] [(3, Ob.box 89 [J a0.1, J a0.2.1, J a0.2.2.1, I 0, AV.v (Value.slice none 0 0), AV.v (Value.slice none 0 0)]), (2, Ob.box 89 [I 0, I 0, I 0, I 0, AV.v (Value.slice none 0 0), AV.v (Value.slice none 0 0)]), (1, Ob.box 236 (cellsD false y236 a0))]) (by kernel_rfl) ?_
 refine qa tok hT [1, 2, 3] (St.mk [p 1 (AV.ptr 1 0), p 2 (AV.ptr 2 0), p 3 (AV.ptr 3 0)] [(3, Ob.box 89 [J a0.1, J a0.2.1, J a0.2.2.1, J a0.2.2.2.1, AV.v (Value.slice none 0 0), AV.v (Value.slice none 0 0)]), (2, Ob.box 89 [I 0, I 0, I 0, I 0, AV.v (Value.slice none 0 0), AV.v (Value.slice none 0 0)]), (1, Ob.box 236 (cellsD false y236 a0))]) (by kernel_rfl) ?_
 refine qd tok hT [1, 2, 3] (fun v0 => St.mk [p 1 (AV.ptr 1 0), p 2 (AV.ptr 2 0), p 3 (AV.ptr 3 0)] [(3, Ob.box 89 [J a0.1, J a0.2.1, J a0.2.2.1, J a0.2.2.2.1, AV.os 18 0, AV.v (Value.slice none 0 0)]), (18, Ob.arr 96 true y96 v0 0), (2, Ob.box 89 [I 0, I 0, I 0, I 0, AV.v (Value.slice none 0 0), AV.v (Value.slice none 0 0)]), (1, Ob.box 236 (cellsD false y236 a0))]) H (by kernel_rfl) fun v0 H => ?_
 refine qd tok hT [2, 3] (fun v1 => St.mk [p 2 (AV.ptr 2 0), p 3 (AV.ptr 3 0)] [(3, Ob.box 89 [J a0.1, J a0.2.1, J a0.2.2.1, J a0.2.2.2.1, AV.os 18 0, AV.os 22 0]), (22, Ob.arr 96 true y96 v1 0), (18, Ob.arr 96 true y96 v0 0), (2, Ob.box 89 [I 0, I 0, I 0, I 0, AV.v (Value.slice none 0 0), AV.v (Value.slice none 0 0)]), (1, Ob.box 236 (cellsD false y236 a0))]) H (by kernel_rfl) fun v1 H => ?_
 refine qa tok hT [2] (St.mk [p 2 (AV.ptr 2 0)] [(2, Ob.box 89 [J a0.1, J a0.2.1, J a0.2.2.1, J a0.2.2.2.1, AV.os 18 0, AV.os 22 0]), (3, Ob.box 89 [J a0.1, J a0.2.1, J a0.2.2.1, J a0.2.2.2.1, AV.os 18 0, AV.os 22 0]), (22, Ob.arr 96 true y96 v1 0), (18, Ob.arr 96 true y96 v0 0), (1, Ob.box 236 (cellsD false y236 a0))]) (by kernel_rfl) ?_
 exact vx_ret <| hr H (by kernel_rfl)
def k163d : Ct := lct 163 [.agg y236] (fun x => u163 x.1) (fun r => frz ((fun r : Y89 => AV.agg [I r.1, I r.2.1, I r.2.2.1, I r.2.2.2.1, AV.ow 96 true y96 r.2.2.2.2.1, AV.ow 96 true y96 r.2.2.2.2.2]) r)) (fun _ => ())
theorem o163d : Ok Tryz.prog k163d := ok_frz o163
def u144J0 : List Y89 → Option (List Y89)
 | v5 =>
 some v5
def u144L1 (a0 : List Y236) (g1 : Int × List Y89 → Option (List Y89)) : Int × List Y89 → Option (List Y89)
 | (v2, v3) =>
 if (decide (v2 < (↑a0.length : Int))) = true then
  gd (ix v2 a0.length ∧ (u163 (a0.getD v2.toNat (dflt y236))).isSome = true ∧ ix v2 v3.length ∧ v2.toNat < v3.length ∧ True) <| lt (vl (u163 (a0.getD v2.toNat (dflt y236)))) fun v4 =>
  gd (in64 (v2 + 1) ∧ True) <| 
  g1 (v2 + 1, v3.set v2.toNat v4)
 else
  u144J0 v3
def u144 (a0 : List Y236) : Option (List Y89) :=
 gd ((0 ≤ (↑a0.length : Int) ∧ (↑a0.length : Int) = (↑a0.length : Int) ∧ (↑a0.length : Int).toNat * 80 ≤ 281474976710656 ∧ (↑a0.length : Int) ≤ 9223372036854775807) ∧ True) <| lt (List.replicate (↑a0.length : Int).toNat ((0 : Int), (0 : Int), (0 : Int), (0 : Int), [], [])) fun v0 =>
 lp (u144L1 a0) (0, v0)
def k144 : Ct := lct 144 [.dat y236.sl] (fun x => u144 x.1) (fun r : List Y89 => AV.ow 89 true y89 r) (fun _ => ())
theorem o144 : Ok Tryz.prog k144 := by
 refine okl tok [.tmp 2] Tryz.func144 Tryz.ntmps144 rfl Tryz.results144 (by kernel_rfl) rfl ?_
 intro y ⟨a0, _⟩ r H Q hn hr
 have hT := tc o163d tn
 refine qa tok hT [0] (St.mk [p 0 (L y236 a0)] []) (by kernel_rfl) ?_
 refine qd tok hT [0, 3] (fun v0 => St.mk [p 0 (L y236 a0), p 3 (AV.os 7 0)] [(7, Ob.arr 89 true y89 v0 0)]) H (by kernel_rfl) fun v0 H => ?_
 refine jn r (fun (v5 : List Y89) => St.mk [p 3 (AV.os 7 0)] [(7, Ob.arr 89 true y89 v5 0)]) (u144J0) (fun v5 H => ?_) (fun _ n0 e0 t0 => ?_)
 ·refine qa tok hT [2] (St.mk [p 2 (AV.os 7 0)] [(7, Ob.arr 89 true y89 v5 0)]) (by kernel_rfl) ?_
  exact vx_ret <| hr H (by kernel_rfl)
 refine qa tok hT [0, 3, 4] (St.mk [p 0 (L y236 a0), p 3 (AV.os 7 0), p 4 (I 0)] [(7, Ob.arr 89 true y89 v0 0)]) (by kernel_rfl) ?_
 refine vx_block <| ?_
 refine lx (fun ((v2, v3) : Int × List Y89) => St.mk [p 0 (L y236 a0), p 3 (AV.os 7 0), p 4 (I v2)] [(7, Ob.arr 89 true y89 v3 0)]) (0, v0) H (by kernel_rfl) fun _ g1 b1 e1 t1 ⟨v2, v3⟩ H => ?_
 refine vx_seq <| ?_
 refine qa tok hT [0, 3, 4, 11] (St.mk [p 0 (L y236 a0), p 3 (AV.os 7 0), p 4 (I v2), p 11 (B (decide (v2 < (↑a0.length : Int))))] [(7, Ob.arr 89 true y89 v3 0)]) (by kernel_rfl) ?_
 refine cd H (by kernel_rfl) (fun H => ?_) (fun H => ?_)
 ·refine vx_skip <| fx_seq <| vx_seq <| vx_block <| ?_
  refine zd tok hT [0, 3, 4] (fun v4 => St.mk [p 0 (L y236 a0), p 3 (AV.os 7 0), p 4 (I v2)] [(7, Ob.arr 89 true y89 (v3.set v2.toNat v4) 0)]) H (by kernel_rfl) fun v4 H => ?_
  refine fx_blk <| fx_seq <| ?_
  refine zb tok hT [0, 3, 4] (St.mk [p 0 (L y236 a0), p 3 (AV.os 7 0), p 4 (I (v2 + 1))] [(7, Ob.arr 89 true y89 (v3.set v2.toNat v4) 0)]) H (by kernel_rfl) fun H => ?_
  exact b1 H (by kernel_rfl)
 exact vx_exit <| fx_seq_exit <| e1 <| fx_blk_exit rfl <| n0 H (by kernel_rfl)
def u162 (a0 : Y232) : Option (Y212) :=
 some a0
def k162 : Ct := lct 162 [.agg y232] (fun x => u162 x.1) (fun r : Y212 => AV.agg [S r.1, I r.2.1, I r.2.2.1, B r.2.2.2]) (fun _ => ())
theorem o162 : Ok Tryz.prog k162 := by
 refine okl tok [.cell 2 212] Tryz.func162 Tryz.ntmps162 rfl Tryz.results162 (by kernel_rfl) rfl ?_
 intro y ⟨a0, _⟩ r H Q hn hr
 have hT := @tn Tryz.prog
 refine qa tok hT [1, 2] (St.mk [p 1 (AV.ptr 1 0), p 2 (AV.ptr 2 0)] [(2, Ob.box 212 [S (ByteArray.mk #[]), I 0, I 0, B false]), (1, Ob.box 232 (cellsD false y232 a0))]) (by kernel_rfl) ?_
 refine qa tok hT [1, 2, 3] (St.mk [p 1 (AV.ptr 1 0), p 2 (AV.ptr 2 0), p 3 (AV.ptr 3 0)] [(3, Ob.box 212 [S (ByteArray.mk #[]), I 0, I 0, B false]), (2, Ob.box 212 [S (ByteArray.mk #[]), I 0, I 0, B false]), (1, Ob.box 232 (cellsD false y232 a0))]) (by kernel_rfl) ?_
 refine qa tok hT [1, 2, 3] (St.mk [p 1 (AV.ptr 1 0), p 2 (AV.ptr 2 0), p 3 (AV.ptr 3 0)] [(3, Ob.box 212 [U a0.1, I 0, I 0, B false]), (2, Ob.box 212 [S (ByteArray.mk #[]), I 0, I 0, B false]), (1, Ob.box 232 (cellsD false y232 a0))]) (by kernel_rfl) ?_
 refine qa tok hT [1, 2, 3] (St.mk [p 1 (AV.ptr 1 0), p 2 (AV.ptr 2 0), p 3 (AV.ptr 3 0)] [(3, Ob.box 212 [U a0.1, J a0.2.1, I 0, B false]), (2, Ob.box 212 [S (ByteArray.mk #[]), I 0, I 0, B false]), (1, Ob.box 232 (cellsD false y232 a0))]) (by kernel_rfl) ?_
 refine qa tok hT [1, 2, 3] (St.mk [p 1 (AV.ptr 1 0), p 2 (AV.ptr 2 0), p 3 (AV.ptr 3 0)] [(3, Ob.box 212 [U a0.1, J a0.2.1, J a0.2.2.1, B false]), (2, Ob.box 212 [S (ByteArray.mk #[]), I 0, I 0, B false]), (1, Ob.box 232 (cellsD false y232 a0))]) (by kernel_rfl) ?_
 refine qa tok hT [2, 3] (St.mk [p 2 (AV.ptr 2 0), p 3 (AV.ptr 3 0)] [(3, Ob.box 212 (cellsD false y212 a0)), (2, Ob.box 212 [S (ByteArray.mk #[]), I 0, I 0, B false]), (1, Ob.box 232 (cellsD false y232 a0))]) (by kernel_rfl) ?_
 refine qa tok hT [2] (St.mk [p 2 (AV.ptr 2 0)] [(2, Ob.box 212 (cellsD false y212 a0)), (3, Ob.box 212 (cellsD false y212 a0)), (1, Ob.box 232 (cellsD false y232 a0))]) (by kernel_rfl) ?_
 exact vx_ret <| hr H (by kernel_rfl)
def u143J0 : List Y212 → Option (List Y212)
 | v5 =>
 some v5
def u143L1 (a0 : List Y232) (g1 : Int × List Y212 → Option (List Y212)) : Int × List Y212 → Option (List Y212)
 | (v2, v3) =>
 if (decide (v2 < (↑a0.length : Int))) = true then
  gd (ix v2 a0.length ∧ (u162 (a0.getD v2.toNat (dflt y232))).isSome = true ∧ ix v2 v3.length ∧ v2.toNat < v3.length ∧ True) <| lt (vl (u162 (a0.getD v2.toNat (dflt y232)))) fun v4 =>
  gd (in64 (v2 + 1) ∧ True) <| 
  g1 (v2 + 1, v3.set v2.toNat v4)
 else
  u143J0 v3
def u143 (a0 : List Y232) : Option (List Y212) :=
 gd ((0 ≤ (↑a0.length : Int) ∧ (↑a0.length : Int) = (↑a0.length : Int) ∧ (↑a0.length : Int).toNat * 40 ≤ 281474976710656 ∧ (↑a0.length : Int) ≤ 9223372036854775807) ∧ True) <| lt (List.replicate (↑a0.length : Int).toNat (ByteArray.mk #[], (0 : Int), (0 : Int), false)) fun v0 =>
 lp (u143L1 a0) (0, v0)
def k143 : Ct := lct 143 [.dat y232.sl] (fun x => u143 x.1) (fun r : List Y212 => AV.ow 212 true y212 r) (fun _ => ())
theorem o143 : Ok Tryz.prog k143 := by
 refine okl tok [.tmp 2] Tryz.func143 Tryz.ntmps143 rfl Tryz.results143 (by kernel_rfl) rfl ?_
 intro y ⟨a0, _⟩ r H Q hn hr
 have hT := tc o162 tn
 refine qa tok hT [0] (St.mk [p 0 (L y232 a0)] []) (by kernel_rfl) ?_
 refine qd tok hT [0, 3] (fun v0 => St.mk [p 0 (L y232 a0), p 3 (AV.os 7 0)] [(7, Ob.arr 212 true y212 v0 0)]) H (by kernel_rfl) fun v0 H => ?_
 refine jn r (fun (v5 : List Y212) => St.mk [p 3 (AV.os 7 0)] [(7, Ob.arr 212 true y212 v5 0)]) (u143J0) (fun v5 H => ?_) (fun _ n0 e0 t0 => ?_)
 ·refine qa tok hT [2] (St.mk [p 2 (AV.os 7 0)] [(7, Ob.arr 212 true y212 v5 0)]) (by kernel_rfl) ?_
  exact vx_ret <| hr H (by kernel_rfl)
 refine qa tok hT [0, 3, 4] (St.mk [p 0 (L y232 a0), p 3 (AV.os 7 0), p 4 (I 0)] [(7, Ob.arr 212 true y212 v0 0)]) (by kernel_rfl) ?_
 refine vx_block <| ?_
 refine lx (fun ((v2, v3) : Int × List Y212) => St.mk [p 0 (L y232 a0), p 3 (AV.os 7 0), p 4 (I v2)] [(7, Ob.arr 212 true y212 v3 0)]) (0, v0) H (by kernel_rfl) fun _ g1 b1 e1 t1 ⟨v2, v3⟩ H => ?_
 refine vx_seq <| ?_
 refine qa tok hT [0, 3, 4, 11] (St.mk [p 0 (L y232 a0), p 3 (AV.os 7 0), p 4 (I v2), p 11 (B (decide (v2 < (↑a0.length : Int))))] [(7, Ob.arr 212 true y212 v3 0)]) (by kernel_rfl) ?_
 refine cd H (by kernel_rfl) (fun H => ?_) (fun H => ?_)
 ·refine vx_skip <| fx_seq <| vx_seq <| vx_block <| ?_
  refine zd tok hT [0, 3, 4] (fun v4 => St.mk [p 0 (L y232 a0), p 3 (AV.os 7 0), p 4 (I v2)] [(7, Ob.arr 212 true y212 (v3.set v2.toNat v4) 0)]) H (by kernel_rfl) fun v4 H => ?_
  refine fx_blk <| fx_seq <| ?_
  refine zb tok hT [0, 3, 4] (St.mk [p 0 (L y232 a0), p 3 (AV.os 7 0), p 4 (I (v2 + 1))] [(7, Ob.arr 212 true y212 (v3.set v2.toNat v4) 0)]) H (by kernel_rfl) fun H => ?_
  exact b1 H (by kernel_rfl)
 exact vx_exit <| fx_seq_exit <| e1 <| fx_blk_exit rfl <| n0 H (by kernel_rfl)
def u116 (a0 : Y187) : Option (Y152) :=
 gd ((u143 a0.2.2.1).isSome = true ∧ True) <| lt (vl (u143 a0.2.2.1)) fun v0 =>
 gd ((u144 a0.2.2.2.1).isSome = true ∧ True) <| lt (vl (u144 a0.2.2.2.1)) fun v1 =>
 gd ((u119 a0.2.2.2.2.1).isSome = true ∧ True) <| lt (vl (u119 a0.2.2.2.2.1)) fun v2 =>
 some (a0.1, a0.2.1, v0, v1, v2, a0.2.2.2.2.2)
def k116 : Ct := lct 116 [.agg y187] (fun x => u116 x.1) (fun r : Y152 => AV.agg [S r.1, I r.2.1, AV.ow 212 true y212 r.2.2.1, AV.ow 89 true y89 r.2.2.2.1, AV.ow 2 true i64 r.2.2.2.2.1, I r.2.2.2.2.2.1, I r.2.2.2.2.2.2]) (fun _ => ())
theorem o116 : Ok Tryz.prog k116 := by
 refine okl tok [.cell 2 152] Tryz.func116 Tryz.ntmps116 rfl Tryz.results116 (by kernel_rfl) rfl ?_
 intro y ⟨a0, _⟩ r H Q hn hr
 have hT := tc o119 (tc o144 (tc o143 tn))
 refine qa tok hT [1, 2] (St.mk [p 1 (AV.ptr 1 0), p 2 (AV.ptr 2 0)] [(2, Ob.box 152 [S (ByteArray.mk #[]), I 0, AV.v (Value.slice none 0 0), AV.v (Value.slice none 0 0), AV.v (Value.slice none 0 0), I 0, I 0]), (1, Ob.box 187 (cellsD false y187 a0))]) (by kernel_rfl) ?_
 refine qa tok hT [1, 2, 3] (St.mk [p 1 (AV.ptr 1 0), p 2 (AV.ptr 2 0), p 3 (AV.ptr 3 0)] [(3, Ob.box 152 [S (ByteArray.mk #[]), I 0, AV.v (Value.slice none 0 0), AV.v (Value.slice none 0 0), AV.v (Value.slice none 0 0), I 0, I 0]), (2, Ob.box 152 [S (ByteArray.mk #[]), I 0, AV.v (Value.slice none 0 0), AV.v (Value.slice none 0 0), AV.v (Value.slice none 0 0), I 0, I 0]), (1, Ob.box 187 (cellsD false y187 a0))]) (by kernel_rfl) ?_
 refine qa tok hT [1, 2, 3] (St.mk [p 1 (AV.ptr 1 0), p 2 (AV.ptr 2 0), p 3 (AV.ptr 3 0)] [(3, Ob.box 152 [U a0.1, I 0, AV.v (Value.slice none 0 0), AV.v (Value.slice none 0 0), AV.v (Value.slice none 0 0), I 0, I 0]), (2, Ob.box 152 [S (ByteArray.mk #[]), I 0, AV.v (Value.slice none 0 0), AV.v (Value.slice none 0 0), AV.v (Value.slice none 0 0), I 0, I 0]), (1, Ob.box 187 (cellsD false y187 a0))]) (by kernel_rfl) ?_
 refine qa tok hT [1, 2, 3] (St.mk [p 1 (AV.ptr 1 0), p 2 (AV.ptr 2 0), p 3 (AV.ptr 3 0)] [(3, Ob.box 152 [U a0.1, J a0.2.1, AV.v (Value.slice none 0 0), AV.v (Value.slice none 0 0), AV.v (Value.slice none 0 0), I 0, I 0]), (2, Ob.box 152 [S (ByteArray.mk #[]), I 0, AV.v (Value.slice none 0 0), AV.v (Value.slice none 0 0), AV.v (Value.slice none 0 0), I 0, I 0]), (1, Ob.box 187 (cellsD false y187 a0))]) (by kernel_rfl) ?_
 refine qd tok hT [1, 2, 3] (fun v0 => St.mk [p 1 (AV.ptr 1 0), p 2 (AV.ptr 2 0), p 3 (AV.ptr 3 0)] [(3, Ob.box 152 [U a0.1, J a0.2.1, AV.os 12 0, AV.v (Value.slice none 0 0), AV.v (Value.slice none 0 0), I 0, I 0]), (12, Ob.arr 212 true y212 v0 0), (2, Ob.box 152 [S (ByteArray.mk #[]), I 0, AV.v (Value.slice none 0 0), AV.v (Value.slice none 0 0), AV.v (Value.slice none 0 0), I 0, I 0]), (1, Ob.box 187 (cellsD false y187 a0))]) H (by kernel_rfl) fun v0 H => ?_
 refine qd tok hT [1, 2, 3] (fun v1 => St.mk [p 1 (AV.ptr 1 0), p 2 (AV.ptr 2 0), p 3 (AV.ptr 3 0)] [(3, Ob.box 152 [U a0.1, J a0.2.1, AV.os 12 0, AV.os 16 0, AV.v (Value.slice none 0 0), I 0, I 0]), (16, Ob.arr 89 true y89 v1 0), (12, Ob.arr 212 true y212 v0 0), (2, Ob.box 152 [S (ByteArray.mk #[]), I 0, AV.v (Value.slice none 0 0), AV.v (Value.slice none 0 0), AV.v (Value.slice none 0 0), I 0, I 0]), (1, Ob.box 187 (cellsD false y187 a0))]) H (by kernel_rfl) fun v1 H => ?_
 refine qd tok hT [1, 2, 3] (fun v2 => St.mk [p 1 (AV.ptr 1 0), p 2 (AV.ptr 2 0), p 3 (AV.ptr 3 0)] [(3, Ob.box 152 [U a0.1, J a0.2.1, AV.os 12 0, AV.os 16 0, AV.os 20 0, I 0, I 0]), (20, Ob.arr 2 true i64 v2 0), (16, Ob.arr 89 true y89 v1 0), (12, Ob.arr 212 true y212 v0 0), (2, Ob.box 152 [S (ByteArray.mk #[]), I 0, AV.v (Value.slice none 0 0), AV.v (Value.slice none 0 0), AV.v (Value.slice none 0 0), I 0, I 0]), (1, Ob.box 187 (cellsD false y187 a0))]) H (by kernel_rfl) fun v2 H => ?_
 refine qa tok hT [1, 2, 3] (St.mk [p 1 (AV.ptr 1 0), p 2 (AV.ptr 2 0), p 3 (AV.ptr 3 0)] [(3, Ob.box 152 [U a0.1, J a0.2.1, AV.os 12 0, AV.os 16 0, AV.os 20 0, J a0.2.2.2.2.2.1, I 0]), (20, Ob.arr 2 true i64 v2 0), (16, Ob.arr 89 true y89 v1 0), (12, Ob.arr 212 true y212 v0 0), (2, Ob.box 152 [S (ByteArray.mk #[]), I 0, AV.v (Value.slice none 0 0), AV.v (Value.slice none 0 0), AV.v (Value.slice none 0 0), I 0, I 0]), (1, Ob.box 187 (cellsD false y187 a0))]) (by kernel_rfl) ?_
 refine qa tok hT [2, 3] (St.mk [p 2 (AV.ptr 2 0), p 3 (AV.ptr 3 0)] [(3, Ob.box 152 [U a0.1, J a0.2.1, AV.os 12 0, AV.os 16 0, AV.os 20 0, J a0.2.2.2.2.2.1, J a0.2.2.2.2.2.2]), (20, Ob.arr 2 true i64 v2 0), (16, Ob.arr 89 true y89 v1 0), (12, Ob.arr 212 true y212 v0 0), (2, Ob.box 152 [S (ByteArray.mk #[]), I 0, AV.v (Value.slice none 0 0), AV.v (Value.slice none 0 0), AV.v (Value.slice none 0 0), I 0, I 0]), (1, Ob.box 187 (cellsD false y187 a0))]) (by kernel_rfl) ?_
 refine qa tok hT [2] (St.mk [p 2 (AV.ptr 2 0)] [(2, Ob.box 152 [U a0.1, J a0.2.1, AV.os 12 0, AV.os 16 0, AV.os 20 0, J a0.2.2.2.2.2.1, J a0.2.2.2.2.2.2]), (3, Ob.box 152 [U a0.1, J a0.2.1, AV.os 12 0, AV.os 16 0, AV.os 20 0, J a0.2.2.2.2.2.1, J a0.2.2.2.2.2.2]), (20, Ob.arr 2 true i64 v2 0), (16, Ob.arr 89 true y89 v1 0), (12, Ob.arr 212 true y212 v0 0), (1, Ob.box 187 (cellsD false y187 a0))]) (by kernel_rfl) ?_
 exact vx_ret <| hr H (by kernel_rfl)
def k116d : Ct := lct 116 [.agg y187] (fun x => u116 x.1) (fun r => frz ((fun r : Y152 => AV.agg [S r.1, I r.2.1, AV.ow 212 true y212 r.2.2.1, AV.ow 89 true y89 r.2.2.2.1, AV.ow 2 true i64 r.2.2.2.2.1, I r.2.2.2.2.2.1, I r.2.2.2.2.2.2]) r)) (fun _ => ())
theorem o116d : Ok Tryz.prog k116d := ok_frz o116
def u73J0 : List Y152 → Option (List Y152)
 | v5 =>
 some v5
def u73L1 (a0 : List Y187) (g1 : Int × List Y152 → Option (List Y152)) : Int × List Y152 → Option (List Y152)
 | (v2, v3) =>
 if (decide (v2 < (↑a0.length : Int))) = true then
  gd (ix v2 a0.length ∧ (u116 (a0.getD v2.toNat (dflt y187))).isSome = true ∧ ix v2 v3.length ∧ v2.toNat < v3.length ∧ True) <| lt (vl (u116 (a0.getD v2.toNat (dflt y187)))) fun v4 =>
  gd (in64 (v2 + 1) ∧ True) <| 
  g1 (v2 + 1, v3.set v2.toNat v4)
 else
  u73J0 v3
def u73 (a0 : List Y187) : Option (List Y152) :=
 gd ((0 ≤ (↑a0.length : Int) ∧ (↑a0.length : Int) = (↑a0.length : Int) ∧ (↑a0.length : Int).toNat * 112 ≤ 281474976710656 ∧ (↑a0.length : Int) ≤ 9223372036854775807) ∧ True) <| lt (List.replicate (↑a0.length : Int).toNat (ByteArray.mk #[], (0 : Int), [], [], [], (0 : Int), (0 : Int))) fun v0 =>
 lp (u73L1 a0) (0, v0)
def k73 : Ct := lct 73 [.dat y187.sl] (fun x => u73 x.1) (fun r : List Y152 => AV.ow 152 true y152 r) (fun _ => ())
theorem o73 : Ok Tryz.prog k73 := by
 refine okl tok [.tmp 2] Tryz.func73 Tryz.ntmps73 rfl Tryz.results73 (by kernel_rfl) rfl ?_
 intro y ⟨a0, _⟩ r H Q hn hr
 have hT := tc o116d tn
 refine qa tok hT [0] (St.mk [p 0 (L y187 a0)] []) (by kernel_rfl) ?_
 refine qd tok hT [0, 3] (fun v0 => St.mk [p 0 (L y187 a0), p 3 (AV.os 7 0)] [(7, Ob.arr 152 true y152 v0 0)]) H (by kernel_rfl) fun v0 H => ?_
 refine jn r (fun (v5 : List Y152) => St.mk [p 3 (AV.os 7 0)] [(7, Ob.arr 152 true y152 v5 0)]) (u73J0) (fun v5 H => ?_) (fun _ n0 e0 t0 => ?_)
 ·refine qa tok hT [2] (St.mk [p 2 (AV.os 7 0)] [(7, Ob.arr 152 true y152 v5 0)]) (by kernel_rfl) ?_
  exact vx_ret <| hr H (by kernel_rfl)
 refine qa tok hT [0, 3, 4] (St.mk [p 0 (L y187 a0), p 3 (AV.os 7 0), p 4 (I 0)] [(7, Ob.arr 152 true y152 v0 0)]) (by kernel_rfl) ?_
 refine vx_block <| ?_
 refine lx (fun ((v2, v3) : Int × List Y152) => St.mk [p 0 (L y187 a0), p 3 (AV.os 7 0), p 4 (I v2)] [(7, Ob.arr 152 true y152 v3 0)]) (0, v0) H (by kernel_rfl) fun _ g1 b1 e1 t1 ⟨v2, v3⟩ H => ?_
 refine vx_seq <| ?_
 refine qa tok hT [0, 3, 4, 11] (St.mk [p 0 (L y187 a0), p 3 (AV.os 7 0), p 4 (I v2), p 11 (B (decide (v2 < (↑a0.length : Int))))] [(7, Ob.arr 152 true y152 v3 0)]) (by kernel_rfl) ?_
 refine cd H (by kernel_rfl) (fun H => ?_) (fun H => ?_)
 ·refine vx_skip <| fx_seq <| vx_seq <| vx_block <| ?_
  refine zd tok hT [0, 3, 4] (fun v4 => St.mk [p 0 (L y187 a0), p 3 (AV.os 7 0), p 4 (I v2)] [(7, Ob.arr 152 true y152 (v3.set v2.toNat v4) 0)]) H (by kernel_rfl) fun v4 H => ?_
  refine fx_blk <| fx_seq <| ?_
  refine zb tok hT [0, 3, 4] (St.mk [p 0 (L y187 a0), p 3 (AV.os 7 0), p 4 (I (v2 + 1))] [(7, Ob.arr 152 true y152 (v3.set v2.toNat v4) 0)]) H (by kernel_rfl) fun H => ?_
  exact b1 H (by kernel_rfl)
 exact vx_exit <| fx_seq_exit <| e1 <| fx_blk_exit rfl <| n0 H (by kernel_rfl)
def u32 (a0 : List Y187) : Option (List Y152) :=
 gd ((u73 a0).isSome = true ∧ True) <| lt (vl (u73 a0)) fun v0 =>
 some v0
def k32 : Ct := lct 32 [.agg y187.sl] (fun x => u32 x.1) (fun r : List Y152 => AV.agg [AV.ow 152 true y152 r]) (fun _ => ())
theorem o32 : Ok Tryz.prog k32 := by
 refine okl tok [.cell 2 37] Tryz.func32 Tryz.ntmps32 rfl Tryz.results32 (by kernel_rfl) rfl ?_
 intro y ⟨a0, _⟩ r H Q hn hr
 have hT := tc o73 tn
 refine qa tok hT [1, 2] (St.mk [p 1 (AV.ptr 1 0), p 2 (AV.ptr 2 0)] [(2, Ob.box 37 [AV.v (Value.slice none 0 0)]), (1, Ob.box 24 [L y187 a0])]) (by kernel_rfl) ?_
 refine qa tok hT [1, 2, 3] (St.mk [p 1 (AV.ptr 1 0), p 2 (AV.ptr 2 0), p 3 (AV.ptr 3 0)] [(3, Ob.box 37 [AV.v (Value.slice none 0 0)]), (2, Ob.box 37 [AV.v (Value.slice none 0 0)]), (1, Ob.box 24 [L y187 a0])]) (by kernel_rfl) ?_
 refine qd tok hT [2, 3] (fun v0 => St.mk [p 2 (AV.ptr 2 0), p 3 (AV.ptr 3 0)] [(3, Ob.box 37 [AV.os 6 0]), (6, Ob.arr 152 true y152 v0 0), (2, Ob.box 37 [AV.v (Value.slice none 0 0)]), (1, Ob.box 24 [L y187 a0])]) H (by kernel_rfl) fun v0 H => ?_
 refine qa tok hT [2] (St.mk [p 2 (AV.ptr 2 0)] [(2, Ob.box 37 [AV.os 6 0]), (3, Ob.box 37 [AV.os 6 0]), (6, Ob.arr 152 true y152 v0 0), (1, Ob.box 24 [L y187 a0])]) (by kernel_rfl) ?_
 exact vx_ret <| hr H (by kernel_rfl)
def u10 (a0 : Y32) : Option (Y44) :=
 gd ((u32 a0.1).isSome = true ∧ True) <| lt (vl (u32 a0.1)) fun v0 =>
 gd ((u33 a0.2.1).isSome = true ∧ True) <| lt (vl (u33 a0.2.1)) fun v1 =>
 gd ((u34 a0.2.2).isSome = true ∧ True) <| lt (vl (u34 a0.2.2)) fun v2 =>
 some (v0, v1, v2)
def k10 : Ct := lct 10 [.agg y32] (fun x => u10 x.1) (fun r : Y44 => AV.agg [AV.ow 152 true y152 r.1, AV.ow 141 true y141 r.2.1.1, AV.ow 9 true Ty.str r.2.1.2.1, AV.ow 143 true y143 r.2.1.2.2, AV.ow 131 true y131 r.2.2]) (fun _ => ())
theorem o10 : Ok Tryz.prog k10 := by
 refine okl tok [.cell 2 44] Tryz.func10 Tryz.ntmps10 rfl Tryz.results10 (by kernel_rfl) rfl ?_
 intro y ⟨a0, _⟩ r H Q hn hr
 have hT := tc o34 (tc o33 (tc o32 tn))
 refine qa tok hT [1, 2] (St.mk [p 1 (AV.ptr 1 0), p 2 (AV.ptr 2 0)] [(2, Ob.box 44 [AV.v (Value.slice none 0 0), AV.v (Value.slice none 0 0), AV.v (Value.slice none 0 0), AV.v (Value.slice none 0 0), AV.v (Value.slice none 0 0)]), (1, Ob.box 32 (cellsD false y32 a0))]) (by kernel_rfl) ?_
 refine qa tok hT [1, 2, 3] (St.mk [p 1 (AV.ptr 1 0), p 2 (AV.ptr 2 0), p 3 (AV.ptr 3 0)] [(3, Ob.box 44 [AV.v (Value.slice none 0 0), AV.v (Value.slice none 0 0), AV.v (Value.slice none 0 0), AV.v (Value.slice none 0 0), AV.v (Value.slice none 0 0)]), (2, Ob.box 44 [AV.v (Value.slice none 0 0), AV.v (Value.slice none 0 0), AV.v (Value.slice none 0 0), AV.v (Value.slice none 0 0), AV.v (Value.slice none 0 0)]), (1, Ob.box 32 (cellsD false y32 a0))]) (by kernel_rfl) ?_
 refine qd tok hT [1, 2, 3] (fun v0 => St.mk [p 1 (AV.ptr 1 0), p 2 (AV.ptr 2 0), p 3 (AV.ptr 3 0)] [(3, Ob.box 44 [AV.os 6 0, AV.v (Value.slice none 0 0), AV.v (Value.slice none 0 0), AV.v (Value.slice none 0 0), AV.v (Value.slice none 0 0)]), (6, Ob.arr 152 true y152 v0 0), (2, Ob.box 44 [AV.v (Value.slice none 0 0), AV.v (Value.slice none 0 0), AV.v (Value.slice none 0 0), AV.v (Value.slice none 0 0), AV.v (Value.slice none 0 0)]), (1, Ob.box 32 (cellsD false y32 a0))]) H (by kernel_rfl) fun v0 H => ?_
 refine qd tok hT [1, 2, 3] (fun v1 => St.mk [p 1 (AV.ptr 1 0), p 2 (AV.ptr 2 0), p 3 (AV.ptr 3 0)] [(3, Ob.box 44 [AV.os 6 0, AV.os 10 0, AV.os 1010 0, AV.os 2010 0, AV.v (Value.slice none 0 0)]), (2010, Ob.arr 143 true y143 v1.2.2 0), (1010, Ob.arr 9 true Ty.str v1.2.1 0), (10, Ob.arr 141 true y141 v1.1 0), (6, Ob.arr 152 true y152 v0 0), (2, Ob.box 44 [AV.v (Value.slice none 0 0), AV.v (Value.slice none 0 0), AV.v (Value.slice none 0 0), AV.v (Value.slice none 0 0), AV.v (Value.slice none 0 0)]), (1, Ob.box 32 (cellsD false y32 a0))]) H (by kernel_rfl) fun v1 H => ?_
 refine qd tok hT [2, 3] (fun v2 => St.mk [p 2 (AV.ptr 2 0), p 3 (AV.ptr 3 0)] [(3, Ob.box 44 [AV.os 6 0, AV.os 10 0, AV.os 1010 0, AV.os 2010 0, AV.os 14 0]), (14, Ob.arr 131 true y131 v2 0), (2010, Ob.arr 143 true y143 v1.2.2 0), (1010, Ob.arr 9 true Ty.str v1.2.1 0), (10, Ob.arr 141 true y141 v1.1 0), (6, Ob.arr 152 true y152 v0 0), (2, Ob.box 44 [AV.v (Value.slice none 0 0), AV.v (Value.slice none 0 0), AV.v (Value.slice none 0 0), AV.v (Value.slice none 0 0), AV.v (Value.slice none 0 0)]), (1, Ob.box 32 (cellsD false y32 a0))]) H (by kernel_rfl) fun v2 H => ?_
 refine qa tok hT [2] (St.mk [p 2 (AV.ptr 2 0)] [(2, Ob.box 44 [AV.os 6 0, AV.os 10 0, AV.os 1010 0, AV.os 2010 0, AV.os 14 0]), (3, Ob.box 44 [AV.os 6 0, AV.os 10 0, AV.os 1010 0, AV.os 2010 0, AV.os 14 0]), (14, Ob.arr 131 true y131 v2 0), (2010, Ob.arr 143 true y143 v1.2.2 0), (1010, Ob.arr 9 true Ty.str v1.2.1 0), (10, Ob.arr 141 true y141 v1.1 0), (6, Ob.arr 152 true y152 v0 0), (1, Ob.box 32 (cellsD false y32 a0))]) (by kernel_rfl) ?_
 exact vx_ret <| hr H (by kernel_rfl)
def u87 (a0 : Int) (a1 : Int) (a2 : Int) : Option (Bool) :=
 some (decide (a1 ≤ a0) && decide (a0 ≤ a2))
def k87 : Ct := lct 87 [.dat i64, .dat i64, .dat i64] (fun x => u87 x.1 x.2.1 x.2.2.1) (fun r : Bool => B r) (fun _ => ())
theorem o87 : Ok Tryz.prog k87 := by
 refine okl tok [.tmp 6] Tryz.func87 Tryz.ntmps87 rfl Tryz.results87 (by kernel_rfl) rfl ?_
 intro y ⟨a0, a1, a2, _⟩ r H Q hn hr
 have hT := @tn Tryz.prog
 refine qa tok hT [0, 1, 2] (St.mk [p 0 (J a0), p 1 (J a1), p 2 (J a2)] []) (by kernel_rfl) ?_
 refine qa tok hT [6] (St.mk [p 6 (B (decide (a1 ≤ a0) && decide (a0 ≤ a2)))] []) (by kernel_rfl) ?_
 exact vx_ret <| hr H (by kernel_rfl)
def u46 (a0 : Int) : Option (Bool) :=
 gd ((u87 a0 0 1000000).isSome = true ∧ True) <| 
 some (vl (u87 a0 0 1000000))
def k46 : Ct := lct 46 [.dat i64] (fun x => u46 x.1) (fun r : Bool => B r) (fun _ => ())
theorem o46 : Ok Tryz.prog k46 := by
 refine okl tok [.tmp 2] Tryz.func46 Tryz.ntmps46 rfl Tryz.results46 (by kernel_rfl) rfl ?_
 intro y ⟨a0, _⟩ r H Q hn hr
 have hT := tc o87 tn
 refine qa tok hT [0] (St.mk [p 0 (J a0)] []) (by kernel_rfl) ?_
 refine qb tok hT [2] (St.mk [p 2 (B (vl (u87 a0 0 1000000)))] []) H (by kernel_rfl) fun H => ?_
 exact vx_ret <| hr H (by kernel_rfl)
def u138 (a0 : Int) : Option (Bool) :=
 gd ((u87 a0 (-1000000000) 1000000000).isSome = true ∧ True) <| 
 some (vl (u87 a0 (-1000000000) 1000000000))
def k138 : Ct := lct 138 [.dat i64] (fun x => u138 x.1) (fun r : Bool => B r) (fun _ => ())
theorem o138 : Ok Tryz.prog k138 := by
 refine okl tok [.tmp 2] Tryz.func138 Tryz.ntmps138 rfl Tryz.results138 (by kernel_rfl) rfl ?_
 intro y ⟨a0, _⟩ r H Q hn hr
 have hT := tc o87 tn
 refine qa tok hT [0] (St.mk [p 0 (J a0)] []) (by kernel_rfl) ?_
 refine qb tok hT [2] (St.mk [p 2 (B (vl (u87 a0 (-1000000000) 1000000000)))] []) H (by kernel_rfl) fun H => ?_
 exact vx_ret <| hr H (by kernel_rfl)
def u104 (a0 : Y105) : Option (Bool) :=
 gd ((u138 a0.1).isSome = true ∧ (vl (u138 a0.1) = true ∧ True → (u138 a0.2).isSome = true) ∧ True) <| 
 some (vl (u138 a0.1) && vl (u138 a0.2) && decide (a0.1 ≤ a0.2))
def k104 : Ct := lct 104 [.agg y105] (fun x => u104 x.1) (fun r : Bool => B r) (fun _ => ())
theorem o104 : Ok Tryz.prog k104 := by
 refine okl tok [.tmp 2] Tryz.func104 Tryz.ntmps104 rfl Tryz.results104 (by kernel_rfl) rfl ?_
 intro y ⟨a0, _⟩ r H Q hn hr
 have hT := tc o138 tn
 refine qa tok hT [1] (St.mk [p 1 (AV.ptr 1 0)] [(1, Ob.box 105 (cellsD false y105 a0))]) (by kernel_rfl) ?_
 refine qb tok hT [2] (St.mk [p 2 (B (vl (u138 a0.1) && vl (u138 a0.2) && decide (a0.1 ≤ a0.2)))] [(1, Ob.box 105 (cellsD false y105 a0))]) H (by kernel_rfl) fun H => ?_
 exact vx_ret <| hr H (by kernel_rfl)
def u105 (a0 : Y105) : Option (Bool) :=
 gd ((u104 a0).isSome = true ∧ (vl (u104 a0) = true ∧ True → (u46 a0.1).isSome = true) ∧ ((vl (u104 a0) && vl (u46 a0.1)) = true ∧ True → (u46 a0.2).isSome = true) ∧ True) <| 
 some (vl (u104 a0) && vl (u46 a0.1) && vl (u46 a0.2))
def k105 : Ct := lct 105 [.agg y105] (fun x => u105 x.1) (fun r : Bool => B r) (fun _ => ())
theorem o105 : Ok Tryz.prog k105 := by
 refine okl tok [.tmp 2] Tryz.func105 Tryz.ntmps105 rfl Tryz.results105 (by kernel_rfl) rfl ?_
 intro y ⟨a0, _⟩ r H Q hn hr
 have hT := tc o46 (tc o104 tn)
 refine qa tok hT [1] (St.mk [p 1 (AV.ptr 1 0)] [(1, Ob.box 105 (cellsD false y105 a0))]) (by kernel_rfl) ?_
 refine qb tok hT [2] (St.mk [p 2 (B (vl (u104 a0) && vl (u46 a0.1) && vl (u46 a0.2)))] [(1, Ob.box 105 (cellsD false y105 a0))]) H (by kernel_rfl) fun H => ?_
 exact vx_ret <| hr H (by kernel_rfl)
def u108 (a0 : List Y105) : Option (Int) :=
 some (↑a0.length : Int)
def k108 : Ct := lct 108 [.dat y105.sl] (fun x => u108 x.1) (fun r : Int => I r) (fun _ => ())
theorem o108 : Ok Tryz.prog k108 := by
 refine okl tok [.tmp 2] Tryz.func108 Tryz.ntmps108 rfl Tryz.results108 (by kernel_rfl) rfl ?_
 intro y ⟨a0, _⟩ r H Q hn hr
 have hT := @tn Tryz.prog
 refine qa tok hT [0] (St.mk [p 0 (L y105 a0)] []) (by kernel_rfl) ?_
 refine qa tok hT [2] (St.mk [p 2 (I (↑a0.length : Int))] []) (by kernel_rfl) ?_
 exact vx_ret <| hr H (by kernel_rfl)
def u107 (a0 : List Bool) : Option (Int) :=
 some (↑a0.length : Int)
def k107 : Ct := lct 107 [.dat Ty.bool.sl] (fun x => u107 x.1) (fun r : Int => I r) (fun _ => ())
theorem o107 : Ok Tryz.prog k107 := by
 refine okl tok [.tmp 2] Tryz.func107 Tryz.ntmps107 rfl Tryz.results107 (by kernel_rfl) rfl ?_
 intro y ⟨a0, _⟩ r H Q hn hr
 have hT := @tn Tryz.prog
 refine qa tok hT [0] (St.mk [p 0 (L Ty.bool a0)] []) (by kernel_rfl) ?_
 refine qa tok hT [2] (St.mk [p 2 (I (↑a0.length : Int))] []) (by kernel_rfl) ?_
 exact vx_ret <| hr H (by kernel_rfl)
def u36 (a0 : List Y81) : Option (Int) :=
 some (↑a0.length : Int)
def k36 : Ct := lct 36 [.dat y81.sl] (fun x => u36 x.1) (fun r : Int => I r) (fun _ => ())
theorem o36 : Ok Tryz.prog k36 := by
 refine okl tok [.tmp 2] Tryz.func36 Tryz.ntmps36 rfl Tryz.results36 (by kernel_rfl) rfl ?_
 intro y ⟨a0, _⟩ r H Q hn hr
 have hT := @tn Tryz.prog
 refine qa tok hT [0] (St.mk [p 0 (L y81 a0)] []) (by kernel_rfl) ?_
 refine qa tok hT [2] (St.mk [p 2 (I (↑a0.length : Int))] []) (by kernel_rfl) ?_
 exact vx_ret <| hr H (by kernel_rfl)
def u99 (a0 : Y170) : Option (Int) :=
 gd ((u36 a0.2.1).isSome = true ∧ in64 (2 * vl (u36 a0.2.1)) ∧ True) <| lt (vl (u36 a0.2.1)) fun v0 =>
 some (2 * v0)
def k99 : Ct := lct 99 [.dat y170.pt] (fun x => u99 x.1) (fun r : Int => I r) (fun _ => ())
theorem o99 : Ok Tryz.prog k99 := by
 refine okl tok [.tmp 2] Tryz.func99 Tryz.ntmps99 rfl Tryz.results99 (by kernel_rfl) rfl ?_
 intro y ⟨a0, _⟩ r H Q hn hr
 have hT := tc o36 tn
 refine qa tok hT [0] (St.mk [p 0 (D y170.pt a0)] []) (by kernel_rfl) ?_
 refine qd tok hT [2] (fun v0 => St.mk [p 2 (I (2 * v0))] []) H (by kernel_rfl) fun v0 H => ?_
 exact vx_ret <| hr H (by kernel_rfl)
def u61J0 : Unit → Option (Bool)
 | _ =>
 some true
def u61L1 (a1 : Y68) (g1 : Int → Option (Bool)) : Int → Option (Bool)
 | v5 =>
 if (decide (v5 < (↑a1.1.length : Int))) = true then
  gd (ix v5 a1.1.length ∧ True) <| 
  gd (ix v5 a1.2.1.length ∧ (u104 (a1.2.1.getD v5.toNat (dflt y105))).isSome = true ∧ ((!vl (u104 (a1.2.1.getD v5.toNat (dflt y105)))) = false ∧ True → ix v5 a1.2.2.length) ∧ ((!vl (u104 (a1.2.1.getD v5.toNat (dflt y105)))) = false ∧ True → (u105 (a1.2.2.getD v5.toNat (dflt y105))).isSome = true) ∧ ((!a1.1.getD v5.toNat false) = true ∧ (!vl (u104 (a1.2.1.getD v5.toNat (dflt y105))) || !vl (u105 (a1.2.2.getD v5.toNat (dflt y105)))) = false ∧ True → ix v5 a1.2.1.length) ∧ ((!((a1.2.1.getD v5.toNat (dflt y105)).1 == 0 && ((a1.2.1.getD v5.toNat (dflt y105)).2 == 0 && true))) = false ∧ (!a1.1.getD v5.toNat false) = true ∧ (!vl (u104 (a1.2.1.getD v5.toNat (dflt y105))) || !vl (u105 (a1.2.2.getD v5.toNat (dflt y105)))) = false ∧ True → ix v5 a1.2.2.length) ∧ True) <| lt (!vl (u104 (a1.2.1.getD v5.toNat (dflt y105))) || !vl (u105 (a1.2.2.getD v5.toNat (dflt y105))) || !a1.1.getD v5.toNat false && (!((a1.2.1.getD v5.toNat (dflt y105)).1 == 0 && ((a1.2.1.getD v5.toNat (dflt y105)).2 == 0 && true)) || !((a1.2.2.getD v5.toNat (dflt y105)).1 == 0 && ((a1.2.2.getD v5.toNat (dflt y105)).2 == 0 && true)))) fun v6 =>
  if v6 = true then
   some false
  else
   gd (in64 (v5 + 1) ∧ True) <| 
   g1 (v5 + 1)
 else
  u61J0 ()
def u61 (a0 : Y170) (a1 : Y68) : Option (Bool) :=
 gd ((u99 a0).isSome = true ∧ True) <| lt (vl (u99 a0)) fun v0 =>
 gd ((u107 a1.1).isSome = true ∧ ((vl (u107 a1.1) != v0) = false ∧ True → (u108 a1.2.1).isSome = true) ∧ ((vl (u107 a1.1) != v0 || vl (u108 a1.2.1) != v0) = false ∧ True → (u108 a1.2.2).isSome = true) ∧ True) <| lt ((vl (u107 a1.1), vl (u108 a1.2.1), vl (u108 a1.2.2))) fun (v1, v2, v3) =>
 if (v1 != v0 || v2 != v0 || v3 != v0) = true then
  some false
 else
  lp (u61L1 a1) 0
def k61 : Ct := lct 61 [.dat y170.pt, .agg y68] (fun x => u61 x.1 x.2.1) (fun r : Bool => B r) (fun _ => ())
theorem o61 : Ok Tryz.prog k61 := by
 refine okl tok [.tmp 4] Tryz.func61 Tryz.ntmps61 rfl Tryz.results61 (by kernel_rfl) rfl ?_
 intro y ⟨a0, a1, _⟩ r H Q hn hr
 have hT := tc o105 (tc o104 (tc o108 (tc o107 (tc o99 tn))))
 refine qa tok hT [0, 3] (St.mk [p 0 (D y170.pt a0), p 3 (AV.ptr 3 0)] [(3, Ob.box 68 (cellsD false y68 a1))]) (by kernel_rfl) ?_
 refine qd tok hT [3, 5] (fun v0 => St.mk [p 3 (AV.ptr 3 0), p 5 (I v0)] [(3, Ob.box 68 (cellsD false y68 a1))]) H (by kernel_rfl) fun v0 H => ?_
 refine vx_seq <| ?_
 refine qd tok hT [3, 28] (fun (v1, v2, v3) => St.mk [p 3 (AV.ptr 3 0), p 28 (B (v1 != v0 || v2 != v0 || v3 != v0))] [(3, Ob.box 68 (cellsD false y68 a1))]) H (by kernel_rfl) fun ⟨v1, v2, v3⟩ H => ?_
 refine cd H (by kernel_rfl) (fun H => ?_) (fun H => ?_)
 ·refine qa tok hT [4] (St.mk [p 4 (B false)] [(3, Ob.box 68 (cellsD false y68 a1))]) (by kernel_rfl) ?_
  exact vx_ret <| fx_seq_ret <| hr H (by kernel_rfl)
 refine vx_skip <| fx_seq <| ?_
 refine jn r (fun (_ : Unit) => St.mk [] []) (u61J0) (fun _ H => ?_) (fun _ n0 e0 t0 => ?_)
 ·refine qa tok hT [4] (St.mk [p 4 (B true)] []) (by kernel_rfl) ?_
  exact vx_ret <| hr H (by kernel_rfl)
 refine qa tok hT [3, 30, 31, 32] (St.mk [p 3 (AV.ptr 3 0), p 30 (L Ty.bool a1.1), p 31 (I (↑a1.1.length : Int)), p 32 (I 0)] [(3, Ob.box 68 (cellsD false y68 a1))]) (by kernel_rfl) ?_
 refine vx_block <| ?_
 refine lx (fun (v5 : Int) => St.mk [p 3 (AV.ptr 3 0), p 30 (L Ty.bool a1.1), p 31 (I (↑a1.1.length : Int)), p 32 (I v5)] [(3, Ob.box 68 (cellsD false y68 a1))]) 0 H (by kernel_rfl) fun _ g1 b1 e1 t1 v5 H => ?_
 refine qa tok hT [3, 30, 31, 32, 33] (St.mk [p 3 (AV.ptr 3 0), p 30 (L Ty.bool a1.1), p 31 (I (↑a1.1.length : Int)), p 32 (I v5), p 33 (B (decide (v5 < (↑a1.1.length : Int))))] [(3, Ob.box 68 (cellsD false y68 a1))]) (by kernel_rfl) ?_
 refine vx_seq <| ?_
 refine cd H (by kernel_rfl) (fun H => ?_) (fun H => ?_)
 ·refine vx_skip <| fx_seq <| vx_seq <| vx_block <| ?_
  refine qb tok hT [3, 6, 7, 30, 31, 32] (St.mk [p 3 (AV.ptr 3 0), p 6 (I v5), p 7 (C (a1.1.getD v5.toNat false)), p 30 (L Ty.bool a1.1), p 31 (I (↑a1.1.length : Int)), p 32 (I v5)] [(3, Ob.box 68 (cellsD false y68 a1))]) H (by kernel_rfl) fun H => ?_
  refine qd tok hT [3, 30, 31, 32, 45, 46, 47, 48, 49, 50, 51, 54, 55, 56, 57, 58, 59, 60, 61, 62, 63, 64, 65, 66, 67, 68, 69, 70, 71, 72, 73, 74] (fun v6 => St.mk [p 3 (AV.ptr 3 0), p 30 (L Ty.bool a1.1), p 31 (I (↑a1.1.length : Int)), p 32 (I v5), p 74 (B v6)] [(3, Ob.box 68 (cellsD false y68 a1))]) H (by kernel_rfl) fun v6 H => ?_
  refine cd H (by kernel_rfl) (fun H => ?_) (fun H => ?_)
  ·refine qa tok hT [4] (St.mk [p 4 (B false)] [(3, Ob.box 68 (cellsD false y68 a1))]) (by kernel_rfl) ?_
   exact vx_ret <| fx_blk_ret <| fx_seq_ret <| t1 <| fx_blk_ret <| t0 <| hr H (by kernel_rfl)
  refine vx_skip <| fx_blk <| fx_seq <| ?_
  refine zb tok hT [3, 30, 31, 32] (St.mk [p 3 (AV.ptr 3 0), p 30 (L Ty.bool a1.1), p 31 (I (↑a1.1.length : Int)), p 32 (I (v5 + 1))] [(3, Ob.box 68 (cellsD false y68 a1))]) H (by kernel_rfl) fun H => ?_
  exact b1 H (by kernel_rfl)
 exact vx_exit <| fx_seq_exit <| e1 <| fx_blk_exit rfl <| n0 H (by kernel_rfl)
def u136 (a0 : Y41) (a1 : List Y152) (a2 : Y81) : Option (Int) :=
 if (decide (a2.1 < 0)) = true then
  some 0
 else
  gd (ix a2.1 a0.1.length ∧ ix (a0.1.getD a2.1.toNat (dflt y141)).2.1 a1.length ∧ ix a2.2.1 (a1.getD (a0.1.getD a2.1.toNat (dflt y141)).2.1.toNat (dflt y152)).2.2.1.length ∧ True) <| lt ((a1.getD (a0.1.getD a2.1.toNat (dflt y141)).2.1.toNat (dflt y152)).2.2.1.getD a2.2.1.toNat (dflt y212)) fun v0 =>
  some v0.2.2.1
def k136 : Ct := lct 136 [.agg y41, .agg y152.sl, .agg y81] (fun x => u136 x.1 x.2.1 x.2.2.1) (fun r : Int => I r) (fun _ => ())
theorem o136 : Ok Tryz.prog k136 := by
 refine okl tok [.tmp 6] Tryz.func136 Tryz.ntmps136 rfl Tryz.results136 (by kernel_rfl) rfl ?_
 intro y ⟨a0, a1, a2, _⟩ r H Q hn hr
 have hT := @tn Tryz.prog
 refine qa tok hT [3, 4, 5] (St.mk [p 3 (AV.ptr 3 0), p 4 (AV.ptr 4 0), p 5 (AV.ptr 5 0)] [(5, Ob.box 81 (cellsD false y81 a2)), (4, Ob.box 37 [L y152 a1]), (3, Ob.box 41 (cellsD false y41 a0))]) (by kernel_rfl) ?_
 refine vx_seq <| ?_
 refine qa tok hT [3, 4, 5, 9] (St.mk [p 3 (AV.ptr 3 0), p 4 (AV.ptr 4 0), p 5 (AV.ptr 5 0), p 9 (B (decide (a2.1 < 0)))] [(5, Ob.box 81 (cellsD false y81 a2)), (4, Ob.box 37 [L y152 a1]), (3, Ob.box 41 (cellsD false y41 a0))]) (by kernel_rfl) ?_
 refine cd H (by kernel_rfl) (fun H => ?_) (fun H => ?_)
 ·refine qa tok hT [6] (St.mk [p 6 (I 0)] [(5, Ob.box 81 (cellsD false y81 a2)), (4, Ob.box 37 [L y152 a1]), (3, Ob.box 41 (cellsD false y41 a0))]) (by kernel_rfl) ?_
  exact vx_ret <| fx_seq_ret <| hr H (by kernel_rfl)
 refine vx_skip <| fx_seq <| ?_
 refine qd tok hT [6] (fun v0 => St.mk [p 6 (J v0.2.2.1)] [(5, Ob.box 81 (cellsD false y81 a2)), (4, Ob.box 37 [L y152 a1]), (3, Ob.box 41 (cellsD false y41 a0))]) H (by kernel_rfl) fun v0 H => ?_
 exact vx_ret <| hr H (by kernel_rfl)
def u37J4 : List Y81 → Option (List Y81)
 | v24 =>
 some v24
def u37L5 (a0 : Y41) (g5 : Int × List Y81 → Option (List Y81)) : Int × List Y81 → Option (List Y81)
 | (v21, v22) =>
 if (decide (v21 < (↑a0.2.2.length : Int))) = true then
  gd (ix v21 a0.2.2.length ∧ True) <| lt (a0.2.2.getD v21.toNat (dflt y143)) fun v23 =>
  gd ((v22.length + [(-1, v21, v23.2.2, v23.2.1 == 1)].length ≤ 9223372036854775807 ∧ (v22.length + [(-1, v21, v23.2.2, v23.2.1 == 1)].length) * 32 ≤ 140737488355328) ∧ True) <| 
  gd (in64 (v21 + 1) ∧ True) <| 
  g5 ((v21 + 1, v22 ++ [(-1, v21, v23.2.2, v23.2.1 == 1)]))
 else
  u37J4 v22
def u37J0 (a0 : Y41) : List Y81 → Option (List Y81)
 | v17 =>
 lp (u37L5 a0) (0, v17)
def u37J2 (v8 : Int) (g1 : List Y81 × Int → Option (List Y81)) : List Y81 → Option (List Y81)
 | v16 =>
 gd (in64 (v8 + 1) ∧ True) <| 
 g1 (v16, v8 + 1)
def u37L3 (v8 : Int) (v9 : Y141) (g1 : List Y81 × Int → Option (List Y81)) (g3 : Int × List Y81 → Option (List Y81)) : Int × List Y81 → Option (List Y81)
 | (v12, v13) =>
 if (decide (v12 < (↑v9.2.2.length : Int))) = true then
  gd (ix v12 v9.2.2.length ∧ True) <| 
  gd (in64 ((↑v9.2.2.length : Int) - 1) ∧ (v13.length + [(v8, v12, v9.2.2.getD v12.toNat 0, v12 == (↑v9.2.2.length : Int) - 1)].length ≤ 9223372036854775807 ∧ (v13.length + [(v8, v12, v9.2.2.getD v12.toNat 0, v12 == (↑v9.2.2.length : Int) - 1)].length) * 32 ≤ 140737488355328) ∧ True) <| lt ((v13 ++ [(v8, v12, v9.2.2.getD v12.toNat 0, v12 == (↑v9.2.2.length : Int) - 1)], [(v8, v12, v9.2.2.getD v12.toNat 0, v12 == (↑v9.2.2.length : Int) - 1)])) fun (v14, v15) =>
  gd (in64 (v12 + 1) ∧ True) <| 
  g3 (v12 + 1, v14)
 else
  u37J2 v8 g1 v13
def u37L1 (a0 : Y41) (g1 : List Y81 × Int → Option (List Y81)) : List Y81 × Int → Option (List Y81)
 | (v7, v8) =>
 if (decide (v8 < (↑a0.1.length : Int))) = true then
  gd (ix v8 a0.1.length ∧ True) <| lt (a0.1.getD v8.toNat (dflt y141)) fun v9 =>
  lp (u37L3 v8 v9 g1) (0, v7)
 else
  u37J0 a0 v7
def u37 (a0 : Y41) : Option (List Y81) :=
 lp (u37L1 a0) ([], 0)
def k37 : Ct := lct 37 [.agg y41] (fun x => u37 x.1) (fun r : List Y81 => AV.ow 81 true y81 r) (fun _ => ())
theorem o37 : Ok Tryz.prog k37 := by
 refine okl tok [.tmp 2] Tryz.func37 Tryz.ntmps37 rfl Tryz.results37 (by kernel_rfl) rfl ?_
 intro y ⟨a0, _⟩ r H Q hn hr
 have hT := @tn Tryz.prog
 refine qa tok hT [1] (St.mk [p 1 (AV.ptr 1 0)] [(1, Ob.box 41 (cellsD false y41 a0))]) (by kernel_rfl) ?_
 refine qa tok hT [1, 3] (St.mk [p 1 (AV.ptr 1 0), p 3 (AV.v (Value.slice none 0 0))] [(1, Ob.box 41 (cellsD false y41 a0))]) (by kernel_rfl) ?_
 refine jn r (fun (v17 : List Y81) => St.mk [p 1 (AV.ptr 1 0), p 3 (AV.os 38 0)] [(1, Ob.box 41 (cellsD false y41 a0)), (38, Ob.arr 81 true y81 v17 0)]) (u37J0 a0) (fun v17 H => ?_) (fun _ n0 e0 t0 => ?_)
 ·refine jn r (fun (v24 : List Y81) => St.mk [p 3 (AV.os 38 0)] [(38, Ob.arr 81 true y81 v24 0)]) (u37J4) (fun v24 H => ?_) (fun _ n4 e4 t4 => ?_)
  ·refine qa tok hT [2] (St.mk [p 2 (AV.os 38 0)] [(38, Ob.arr 81 true y81 v24 0)]) (by kernel_rfl) ?_
   exact vx_ret <| hr H (by kernel_rfl)
  refine qa tok hT [3, 42, 43, 44] (St.mk [p 3 (AV.os 38 0), p 42 (L y143 a0.2.2), p 43 (I (↑a0.2.2.length : Int)), p 44 (I 0)] [(1, Ob.box 41 (cellsD false y41 a0)), (38, Ob.arr 81 true y81 v17 0)]) (by kernel_rfl) ?_
  refine vx_block <| ?_
  refine lx (fun ((v21, v22) : Int × List Y81) => St.mk [p 3 (AV.os 38 0), p 42 (L y143 a0.2.2), p 43 (I (↑a0.2.2.length : Int)), p 44 (I v21)] [(38, Ob.arr 81 true y81 v22 0)]) (0, v17) H (by kernel_rfl) fun _ g5 b5 e5 t5 ⟨v21, v22⟩ H => ?_
  refine qa tok hT [3, 42, 43, 44, 45] (St.mk [p 3 (AV.os 38 0), p 42 (L y143 a0.2.2), p 43 (I (↑a0.2.2.length : Int)), p 44 (I v21), p 45 (B (decide (v21 < (↑a0.2.2.length : Int))))] [(38, Ob.arr 81 true y81 v22 0)]) (by kernel_rfl) ?_
  refine vx_seq <| ?_
  refine cd H (by kernel_rfl) (fun H => ?_) (fun H => ?_)
  ·refine vx_skip <| fx_seq <| vx_seq <| vx_block <| ?_
   refine qd tok hT [3, 8, 9, 42, 43, 44] (fun v23 => St.mk [p 3 (AV.os 38 0), p 8 (I v21), p 9 (AV.ptr 9 0), p 42 (L y143 a0.2.2), p 43 (I (↑a0.2.2.length : Int)), p 44 (I v21)] [(9, Ob.box 143 (cellsD false y143 v23)), (38, Ob.arr 81 true y81 v22 0)]) H (by kernel_rfl) fun v23 H => ?_
   refine zb tok hT [3, 42, 43, 44] (St.mk [p 3 (AV.os 38 1), p 42 (L y143 a0.2.2), p 43 (I (↑a0.2.2.length : Int)), p 44 (I v21)] [(38, Ob.arr 81 true y81 (v22 ++ [(-1, v21, v23.2.2, v23.2.1 == 1)]) 1), (57, Ob.arr 81 true y81 [(-1, v21, v23.2.2, v23.2.1 == 1)] 0), (9, Ob.box 143 (cellsD false y143 v23))]) H (by kernel_rfl) fun H => ?_
   refine fx_blk <| fx_seq <| ?_
   refine zb tok hT [3, 42, 43, 44] (St.mk [p 3 (AV.os 38 1), p 42 (L y143 a0.2.2), p 43 (I (↑a0.2.2.length : Int)), p 44 (I (v21 + 1))] [(38, Ob.arr 81 true y81 (v22 ++ [(-1, v21, v23.2.2, v23.2.1 == 1)]) 1), (57, Ob.arr 81 true y81 [(-1, v21, v23.2.2, v23.2.1 == 1)] 0), (9, Ob.box 143 (cellsD false y143 v23))]) H (by kernel_rfl) fun H => ?_
   exact b5 H (by kernel_rfl)
  exact vx_exit <| fx_seq_exit <| e5 <| fx_blk_exit rfl <| n4 H (by kernel_rfl)
 refine qa tok hT [1, 3, 11, 12, 13] (St.mk [p 1 (AV.ptr 1 0), p 3 (AV.v (Value.slice none 0 0)), p 11 (L y141 a0.1), p 12 (I (↑a0.1.length : Int)), p 13 (I 0)] [(1, Ob.box 41 (cellsD false y41 a0))]) (by kernel_rfl) ?_
 refine vx_block <| ?_
 refine lx (fun ((v7, v8) : List Y81 × Int) => St.mk [p 1 (AV.ptr 1 0), p 3 (AV.os 38 0), p 11 (L y141 a0.1), p 12 (I (↑a0.1.length : Int)), p 13 (I v8)] [(1, Ob.box 41 (cellsD false y41 a0)), (38, Ob.arr 81 true y81 v7 0)]) ([], 0) H (by kernel_rfl) fun _ g1 b1 e1 t1 ⟨v7, v8⟩ H => ?_
 refine qa tok hT [1, 3, 11, 12, 13, 14] (St.mk [p 1 (AV.ptr 1 0), p 3 (AV.os 38 0), p 11 (L y141 a0.1), p 12 (I (↑a0.1.length : Int)), p 13 (I v8), p 14 (B (decide (v8 < (↑a0.1.length : Int))))] [(1, Ob.box 41 (cellsD false y41 a0)), (38, Ob.arr 81 true y81 v7 0)]) (by kernel_rfl) ?_
 refine vx_seq <| ?_
 refine cd H (by kernel_rfl) (fun H => ?_) (fun H => ?_)
 ·refine vx_skip <| fx_seq <| ?_
  refine jn r (fun (v16 : List Y81) => St.mk [p 1 (AV.ptr 1 0), p 3 (AV.os 38 0), p 11 (L y141 a0.1), p 12 (I (↑a0.1.length : Int)), p 13 (I v8)] [(1, Ob.box 41 (cellsD false y41 a0)), (38, Ob.arr 81 true y81 v16 0)]) (u37J2 v8 g1) (fun v16 H => ?_) (fun _ n2 e2 t2 => ?_)
  ·refine zb tok hT [1, 3, 11, 12, 13] (St.mk [p 1 (AV.ptr 1 0), p 3 (AV.os 38 0), p 11 (L y141 a0.1), p 12 (I (↑a0.1.length : Int)), p 13 (I (v8 + 1))] [(1, Ob.box 41 (cellsD false y41 a0)), (38, Ob.arr 81 true y81 v16 0)]) H (by kernel_rfl) fun H => ?_
   exact b1 H (by kernel_rfl)
  refine vx_block <| ?_
  refine qd tok hT [1, 3, 4, 5, 11, 12, 13] (fun v9 => St.mk [p 1 (AV.ptr 1 0), p 3 (AV.os 38 0), p 4 (I v8), p 5 (AV.ptr 5 0), p 11 (L y141 a0.1), p 12 (I (↑a0.1.length : Int)), p 13 (I v8)] [(5, Ob.box 141 (cellsD false y141 v9)), (1, Ob.box 41 (cellsD false y41 a0)), (38, Ob.arr 81 true y81 v7 0)]) H (by kernel_rfl) fun v9 H => ?_
  refine qa tok hT [1, 3, 4, 5, 11, 12, 13, 19, 20, 21] (St.mk [p 1 (AV.ptr 1 0), p 3 (AV.os 38 0), p 4 (I v8), p 5 (AV.ptr 5 0), p 11 (L y141 a0.1), p 12 (I (↑a0.1.length : Int)), p 13 (I v8), p 19 (L i64 v9.2.2), p 20 (I (↑v9.2.2.length : Int)), p 21 (I 0)] [(5, Ob.box 141 (cellsD false y141 v9)), (1, Ob.box 41 (cellsD false y41 a0)), (38, Ob.arr 81 true y81 v7 0)]) (by kernel_rfl) ?_
  refine vx_block <| ?_
  refine lx (fun ((v12, v13) : Int × List Y81) => St.mk [p 1 (AV.ptr 1 0), p 3 (AV.os 38 0), p 4 (I v8), p 5 (AV.ptr 5 0), p 11 (L y141 a0.1), p 12 (I (↑a0.1.length : Int)), p 13 (I v8), p 19 (L i64 v9.2.2), p 20 (I (↑v9.2.2.length : Int)), p 21 (I v12)] [(5, Ob.box 141 (cellsD false y141 v9)), (1, Ob.box 41 (cellsD false y41 a0)), (38, Ob.arr 81 true y81 v13 0)]) (0, v7) H (by kernel_rfl) fun _ g3 b3 e3 t3 ⟨v12, v13⟩ H => ?_
  refine qa tok hT [1, 3, 4, 5, 11, 12, 13, 19, 20, 21, 22] (St.mk [p 1 (AV.ptr 1 0), p 3 (AV.os 38 0), p 4 (I v8), p 5 (AV.ptr 5 0), p 11 (L y141 a0.1), p 12 (I (↑a0.1.length : Int)), p 13 (I v8), p 19 (L i64 v9.2.2), p 20 (I (↑v9.2.2.length : Int)), p 21 (I v12), p 22 (B (decide (v12 < (↑v9.2.2.length : Int))))] [(5, Ob.box 141 (cellsD false y141 v9)), (1, Ob.box 41 (cellsD false y41 a0)), (38, Ob.arr 81 true y81 v13 0)]) (by kernel_rfl) ?_
  refine vx_seq <| ?_
  refine cd H (by kernel_rfl) (fun H => ?_) (fun H => ?_)
  ·refine vx_skip <| fx_seq <| vx_seq <| vx_block <| ?_
   refine qb tok hT [1, 3, 4, 5, 6, 7, 11, 12, 13, 19, 20, 21] (St.mk [p 1 (AV.ptr 1 0), p 3 (AV.os 38 0), p 4 (I v8), p 5 (AV.ptr 5 0), p 6 (I v12), p 7 (J (v9.2.2.getD v12.toNat 0)), p 11 (L y141 a0.1), p 12 (I (↑a0.1.length : Int)), p 13 (I v8), p 19 (L i64 v9.2.2), p 20 (I (↑v9.2.2.length : Int)), p 21 (I v12)] [(5, Ob.box 141 (cellsD false y141 v9)), (1, Ob.box 41 (cellsD false y41 a0)), (38, Ob.arr 81 true y81 v13 0)]) H (by kernel_rfl) fun H => ?_
   refine zd tok hT [1, 3, 4, 5, 11, 12, 13, 19, 20, 21] (fun (v14, v15) => St.mk [p 1 (AV.ptr 1 0), p 3 (AV.os 38 1), p 4 (I v8), p 5 (AV.ptr 5 0), p 11 (L y141 a0.1), p 12 (I (↑a0.1.length : Int)), p 13 (I v8), p 19 (L i64 v9.2.2), p 20 (I (↑v9.2.2.length : Int)), p 21 (I v12)] [(38, Ob.arr 81 true y81 v14 1), (37, Ob.arr 81 true y81 v15 0), (5, Ob.box 141 (cellsD false y141 v9)), (1, Ob.box 41 (cellsD false y41 a0))]) H (by kernel_rfl) fun ⟨v14, v15⟩ H => ?_
   refine fx_blk <| fx_seq <| ?_
   refine zb tok hT [1, 3, 4, 5, 11, 12, 13, 19, 20, 21] (St.mk [p 1 (AV.ptr 1 0), p 3 (AV.os 38 1), p 4 (I v8), p 5 (AV.ptr 5 0), p 11 (L y141 a0.1), p 12 (I (↑a0.1.length : Int)), p 13 (I v8), p 19 (L i64 v9.2.2), p 20 (I (↑v9.2.2.length : Int)), p 21 (I (v12 + 1))] [(38, Ob.arr 81 true y81 v14 1), (37, Ob.arr 81 true y81 v15 0), (5, Ob.box 141 (cellsD false y141 v9)), (1, Ob.box 41 (cellsD false y41 a0))]) H (by kernel_rfl) fun H => ?_
   exact b3 H (by kernel_rfl)
  exact vx_exit <| fx_seq_exit <| e3 <| fx_blk_exit rfl <| fx_blk <| n2 H (by kernel_rfl)
 exact vx_exit <| fx_seq_exit <| e1 <| fx_blk_exit rfl <| n0 H (by kernel_rfl)
def u135J0 : List Int → Option (List Int)
 | v7 =>
 some v7
def u135J2 (v4 : Int) (g1 : List Int × Int → Option (List Int)) : List Int → Option (List Int)
 | v6 =>
 gd (in64 (v4 + 1) ∧ True) <| 
 g1 (v6, v4 + 1)
def u135L1 (a1 : Int) (v0 : List Y81) (g1 : List Int × Int → Option (List Int)) : List Int × Int → Option (List Int)
 | (v3, v4) =>
 if (decide (v4 < (↑v0.length : Int))) = true then
  gd (ix v4 v0.length ∧ v4.toNat < v0.length ∧ True) <| lt (v0.getD v4.toNat (dflt y81)) fun v5 =>
  if (v5.2.2.1 == a1 && !v5.2.2.2) = true then
   gd ((v3.length + [v4].length ≤ 9223372036854775807 ∧ (v3.length + [v4].length) * 8 ≤ 140737488355328) ∧ True) <| 
   u135J2 v4 g1 (v3 ++ [v4])
  else
   u135J2 v4 g1 v3
 else
  u135J0 v3
def u135 (a0 : Y41) (a1 : Int) : Option (List Int) :=
 gd ((u37 a0).isSome = true ∧ True) <| lt (vl (u37 a0)) fun v0 =>
 lp (u135L1 a1 v0) ([], 0)
def k135 : Ct := lct 135 [.agg y41, .dat i64] (fun x => u135 x.1 x.2.1) (fun r : List Int => AV.ow 2 true i64 r) (fun _ => ())
theorem o135 : Ok Tryz.prog k135 := by
 refine okl tok [.tmp 4] Tryz.func135 Tryz.ntmps135 rfl Tryz.results135 (by kernel_rfl) rfl ?_
 intro y ⟨a0, a1, _⟩ r H Q hn hr
 have hT := tc o37 tn
 refine qa tok hT [1, 2] (St.mk [p 1 (J a1), p 2 (AV.ptr 2 0)] [(2, Ob.box 41 (cellsD false y41 a0))]) (by kernel_rfl) ?_
 refine qa tok hT [1, 2, 5] (St.mk [p 1 (J a1), p 2 (AV.ptr 2 0), p 5 (AV.v (Value.slice none 0 0))] [(2, Ob.box 41 (cellsD false y41 a0))]) (by kernel_rfl) ?_
 refine jn r (fun (v7 : List Int) => St.mk [p 5 (AV.os 28 0)] [(28, Ob.arr 2 true i64 v7 0)]) (u135J0) (fun v7 H => ?_) (fun _ n0 e0 t0 => ?_)
 ·refine qa tok hT [4] (St.mk [p 4 (AV.os 28 0)] [(28, Ob.arr 2 true i64 v7 0)]) (by kernel_rfl) ?_
  exact vx_ret <| hr H (by kernel_rfl)
 refine qd tok hT [1, 5, 9, 10, 11] (fun v0 => St.mk [p 1 (J a1), p 5 (AV.v (Value.slice none 0 0)), p 9 (AV.os 9 0), p 10 (I (↑v0.length : Int)), p 11 (I 0)] [(9, Ob.arr 81 true y81 v0 0), (2, Ob.box 41 (cellsD false y41 a0))]) H (by kernel_rfl) fun v0 H => ?_
 refine vx_block <| ?_
 refine lx (fun ((v3, v4) : List Int × Int) => St.mk [p 1 (J a1), p 5 (AV.os 28 0), p 9 (AV.os 9 0), p 10 (I (↑v0.length : Int)), p 11 (I v4)] [(9, Ob.arr 81 true y81 v0 0), (28, Ob.arr 2 true i64 v3 0)]) ([], 0) H (by kernel_rfl) fun _ g1 b1 e1 t1 ⟨v3, v4⟩ H => ?_
 refine qa tok hT [1, 5, 9, 10, 11, 12] (St.mk [p 1 (J a1), p 5 (AV.os 28 0), p 9 (AV.os 9 0), p 10 (I (↑v0.length : Int)), p 11 (I v4), p 12 (B (decide (v4 < (↑v0.length : Int))))] [(9, Ob.arr 81 true y81 v0 0), (28, Ob.arr 2 true i64 v3 0)]) (by kernel_rfl) ?_
 refine vx_seq <| ?_
 refine cd H (by kernel_rfl) (fun H => ?_) (fun H => ?_)
 ·refine vx_skip <| fx_seq <| ?_
  refine jn r (fun (v6 : List Int) => St.mk [p 1 (J a1), p 5 (AV.os 28 0), p 9 (AV.os 9 0), p 10 (I (↑v0.length : Int)), p 11 (I v4)] [(28, Ob.arr 2 true i64 v6 0), (9, Ob.arr 81 true y81 v0 0)]) (u135J2 v4 g1) (fun v6 H => ?_) (fun _ n2 e2 t2 => ?_)
  ·refine zb tok hT [1, 5, 9, 10, 11] (St.mk [p 1 (J a1), p 5 (AV.os 28 0), p 9 (AV.os 9 0), p 10 (I (↑v0.length : Int)), p 11 (I (v4 + 1))] [(28, Ob.arr 2 true i64 v6 0), (9, Ob.arr 81 true y81 v0 0)]) H (by kernel_rfl) fun H => ?_
   exact b1 H (by kernel_rfl)
  refine vx_block <| ?_
  refine qd tok hT [1, 5, 6, 7, 9, 10, 11] (fun v5 => St.mk [p 1 (J a1), p 5 (AV.os 28 0), p 6 (I v4), p 7 (AV.ptr 7 0), p 9 (AV.os 9 0), p 10 (I (↑v0.length : Int)), p 11 (I v4)] [(7, Ob.box 81 (cellsD true y81 v5)), (9, Ob.arr 81 true y81 v0 0), (28, Ob.arr 2 true i64 v3 0)]) H (by kernel_rfl) fun v5 H => ?_
  refine qa tok hT [1, 5, 6, 9, 10, 11, 21, 22, 23, 24] (St.mk [p 1 (J a1), p 5 (AV.os 28 0), p 6 (I v4), p 9 (AV.os 9 0), p 10 (I (↑v0.length : Int)), p 11 (I v4), p 24 (B (v5.2.2.1 == a1 && !v5.2.2.2))] [(7, Ob.box 81 (cellsD true y81 v5)), (9, Ob.arr 81 true y81 v0 0), (28, Ob.arr 2 true i64 v3 0)]) (by kernel_rfl) ?_
  refine cd H (by kernel_rfl) (fun H => ?_) (fun H => ?_)
  ·refine zb tok hT [1, 5, 9, 10, 11] (St.mk [p 1 (J a1), p 5 (AV.os 28 1), p 9 (AV.os 9 0), p 10 (I (↑v0.length : Int)), p 11 (I v4)] [(28, Ob.arr 2 true i64 (v3 ++ [v4]) 1), (27, Ob.arr 2 true i64 [v4] 0), (7, Ob.box 81 (cellsD true y81 v5)), (9, Ob.arr 81 true y81 v0 0)]) H (by kernel_rfl) fun H => ?_
   exact fx_blk <| n2 H (by kernel_rfl)
  exact vx_skip <| fx_blk <| n2 H (by kernel_rfl)
 exact vx_exit <| fx_seq_exit <| e1 <| fx_blk_exit rfl <| n0 H (by kernel_rfl)
def u97J2 : List Int → Option (List Int)
 | v15 =>
 some v15
def u97L3 (v0 : Y131) (g3 : Int × List Int → Option (List Int)) : Int × List Int → Option (List Int)
 | (v12, v13) =>
 if (decide (0 < v12)) = true then
  gd (ix v12 v0.1.length ∧ ix (v0.1.getD v12.toNat 0) v13.length ∧ Int.toNat (v0.1.getD v12.toNat 0) < v13.length ∧ ix v12 v13.length ∧ v12.toNat < v13.length ∧ in64 (v13.getD (Int.toNat (v0.1.getD v12.toNat 0)) 0 + v13.getD v12.toNat 0) ∧ ix (v0.1.getD v12.toNat 0) v13.length ∧ Int.toNat (v0.1.getD v12.toNat 0) < v13.length ∧ True) <| lt (v13.set (Int.toNat (v0.1.getD v12.toNat 0)) (v13.getD (Int.toNat (v0.1.getD v12.toNat 0)) 0 + v13.getD v12.toNat 0)) fun v14 =>
  gd (in64 (v12 - 1) ∧ True) <| 
  g3 (v12 - 1, v14)
 else
  u97J2 v13
def u97J0 (v0 : Y131) : List Int → Option (List Int)
 | v10 =>
 gd (in64 ((↑v10.length : Int) - 1) ∧ True) <| 
 lp (u97L3 v0) (((↑v10.length : Int) - 1, v10))
def u97L1 (a0 : Y44) (v2 : List Y81) (v3 : List Int) (v0 : Y131) (g1 : Int × List Int → Option (List Int)) : Int × List Int → Option (List Int)
 | (v6, v7) =>
 if (decide (v6 < (↑v3.length : Int))) = true then
  gd (ix v6 v3.length ∧ v6.toNat < v3.length ∧ True) <| 
  gd (ix v6 v0.2.2.2.length ∧ ix (v0.2.2.2.getD v6.toNat 0) v7.length ∧ Int.toNat (v0.2.2.2.getD v6.toNat 0) < v7.length ∧ ix (v3.getD v6.toNat 0) v2.length ∧ Int.toNat (v3.getD v6.toNat 0) < v2.length ∧ (u136 a0.2.1 a0.1 (v2.getD (Int.toNat (v3.getD v6.toNat 0)) (dflt y81))).isSome = true ∧ in64 (v7.getD (Int.toNat (v0.2.2.2.getD v6.toNat 0)) 0 + vl (u136 a0.2.1 a0.1 (v2.getD (Int.toNat (v3.getD v6.toNat 0)) (dflt y81)))) ∧ ix (v0.2.2.2.getD v6.toNat 0) v7.length ∧ Int.toNat (v0.2.2.2.getD v6.toNat 0) < v7.length ∧ True) <| lt ((vl (u136 a0.2.1 a0.1 (v2.getD (Int.toNat (v3.getD v6.toNat 0)) (dflt y81))), v7.set (Int.toNat (v0.2.2.2.getD v6.toNat 0)) (v7.getD (Int.toNat (v0.2.2.2.getD v6.toNat 0)) 0 + vl (u136 a0.2.1 a0.1 (v2.getD (Int.toNat (v3.getD v6.toNat 0)) (dflt y81)))))) fun (v8, v9) =>
  gd (in64 (v6 + 1) ∧ True) <| 
  g1 (v6 + 1, v9)
 else
  u97J0 v0 v7
def u97 (a0 : Y44) (a1 : Int) : Option (List Int) :=
 gd (ix a1 a0.2.2.length ∧ True) <| lt (a0.2.2.getD a1.toNat (dflt y131)) fun v0 =>
 gd ((u134 v0.2.2.1).isSome = true ∧ True) <| lt (vl (u134 v0.2.2.1)) fun v1 =>
 gd ((u37 a0.2.1).isSome = true ∧ True) <| lt (vl (u37 a0.2.1)) fun v2 =>
 gd ((u135 a0.2.1 a1).isSome = true ∧ True) <| lt (vl (u135 a0.2.1 a1)) fun v3 =>
 lp (u97L1 a0 v2 v3 v0) (0, v1)
def k97 : Ct := lct 97 [.agg y44, .dat i64] (fun x => u97 x.1 x.2.1) (fun r : List Int => AV.ow 2 true i64 r) (fun _ => ())
theorem o97 : Ok Tryz.prog k97 := by
 refine okl tok [.tmp 4] Tryz.func97 Tryz.ntmps97 rfl Tryz.results97 (by kernel_rfl) rfl ?_
 intro y ⟨a0, a1, _⟩ r H Q hn hr
 have hT := tc o136 (tc o135 (tc o37 (tc o134 tn)))
 refine qa tok hT [1, 2] (St.mk [p 1 (J a1), p 2 (AV.ptr 2 0)] [(2, Ob.box 44 (cellsD false y44 a0))]) (by kernel_rfl) ?_
 refine qd tok hT [1, 2, 5] (fun v0 => St.mk [p 1 (J a1), p 2 (AV.ptr 2 0), p 5 (AV.ptr 5 0)] [(5, Ob.box 131 (cellsD false y131 v0)), (2, Ob.box 44 (cellsD false y44 a0))]) H (by kernel_rfl) fun v0 H => ?_
 refine qd tok hT [1, 2, 5, 6] (fun v1 => St.mk [p 1 (J a1), p 2 (AV.ptr 2 0), p 5 (AV.ptr 5 0), p 6 (AV.os 18 0)] [(18, Ob.arr 2 true i64 v1 0), (5, Ob.box 131 (cellsD false y131 v0)), (2, Ob.box 44 (cellsD false y44 a0))]) H (by kernel_rfl) fun v1 H => ?_
 refine qd tok hT [1, 2, 5, 6, 7] (fun v2 => St.mk [p 1 (J a1), p 2 (AV.ptr 2 0), p 5 (AV.ptr 5 0), p 6 (AV.os 18 0), p 7 (AV.os 21 0)] [(21, Ob.arr 81 true y81 v2 0), (18, Ob.arr 2 true i64 v1 0), (5, Ob.box 131 (cellsD false y131 v0)), (2, Ob.box 44 (cellsD false y44 a0))]) H (by kernel_rfl) fun v2 H => ?_
 refine jn r (fun (v10 : List Int) => St.mk [p 5 (AV.ptr 5 0), p 6 (AV.os 18 0)] [(18, Ob.arr 2 true i64 v10 0), (5, Ob.box 131 (cellsD false y131 v0))]) (u97J0 v0) (fun v10 H => ?_) (fun _ n0 e0 t0 => ?_)
 ·refine jn r (fun (v15 : List Int) => St.mk [p 6 (AV.os 18 0)] [(18, Ob.arr 2 true i64 v15 0)]) (u97J2) (fun v15 H => ?_) (fun _ n2 e2 t2 => ?_)
  ·refine qa tok hT [4] (St.mk [p 4 (AV.os 18 0)] [(18, Ob.arr 2 true i64 v15 0)]) (by kernel_rfl) ?_
   exact vx_ret <| hr H (by kernel_rfl)
  refine qb tok hT [5, 6, 10] (St.mk [p 5 (AV.ptr 5 0), p 6 (AV.os 18 0), p 10 (I ((↑v10.length : Int) - 1))] [(18, Ob.arr 2 true i64 v10 0), (5, Ob.box 131 (cellsD false y131 v0))]) H (by kernel_rfl) fun H => ?_
  refine vx_block <| ?_
  refine lx (fun ((v12, v13) : Int × List Int) => St.mk [p 5 (AV.ptr 5 0), p 6 (AV.os 18 0), p 10 (I v12)] [(18, Ob.arr 2 true i64 v13 0), (5, Ob.box 131 (cellsD false y131 v0))]) (((↑v10.length : Int) - 1, v10)) H (by kernel_rfl) fun _ g3 b3 e3 t3 ⟨v12, v13⟩ H => ?_
  refine vx_seq <| ?_
  refine qa tok hT [5, 6, 10, 56] (St.mk [p 5 (AV.ptr 5 0), p 6 (AV.os 18 0), p 10 (I v12), p 56 (B (decide (0 < v12)))] [(18, Ob.arr 2 true i64 v13 0), (5, Ob.box 131 (cellsD false y131 v0))]) (by kernel_rfl) ?_
  refine cd H (by kernel_rfl) (fun H => ?_) (fun H => ?_)
  ·refine vx_skip <| fx_seq <| vx_seq <| vx_block <| ?_
   refine zd tok hT [5, 6, 10] (fun v14 => St.mk [p 5 (AV.ptr 5 0), p 6 (AV.os 18 0), p 10 (I v12)] [(18, Ob.arr 2 true i64 v14 0), (5, Ob.box 131 (cellsD false y131 v0))]) H (by kernel_rfl) fun v14 H => ?_
   refine fx_blk <| fx_seq <| ?_
   refine zb tok hT [5, 6, 10] (St.mk [p 5 (AV.ptr 5 0), p 6 (AV.os 18 0), p 10 (I (v12 - 1))] [(18, Ob.arr 2 true i64 v14 0), (5, Ob.box 131 (cellsD false y131 v0))]) H (by kernel_rfl) fun H => ?_
   exact b3 H (by kernel_rfl)
  exact vx_exit <| fx_seq_exit <| e3 <| fx_blk_exit rfl <| n2 H (by kernel_rfl)
 refine qd tok hT [2, 5, 6, 7, 25, 26, 27] (fun v3 => St.mk [p 2 (AV.ptr 2 0), p 5 (AV.ptr 5 0), p 6 (AV.os 18 0), p 7 (AV.os 21 0), p 25 (AV.os 25 0), p 26 (I (↑v3.length : Int)), p 27 (I 0)] [(25, Ob.arr 2 true i64 v3 0), (21, Ob.arr 81 true y81 v2 0), (18, Ob.arr 2 true i64 v1 0), (5, Ob.box 131 (cellsD false y131 v0)), (2, Ob.box 44 (cellsD false y44 a0))]) H (by kernel_rfl) fun v3 H => ?_
 refine vx_block <| ?_
 refine lx (fun ((v6, v7) : Int × List Int) => St.mk [p 2 (AV.ptr 2 0), p 5 (AV.ptr 5 0), p 6 (AV.os 18 0), p 7 (AV.os 21 0), p 25 (AV.os 25 0), p 26 (I (↑v3.length : Int)), p 27 (I v6)] [(25, Ob.arr 2 true i64 v3 0), (21, Ob.arr 81 true y81 v2 0), (18, Ob.arr 2 true i64 v7 0), (5, Ob.box 131 (cellsD false y131 v0)), (2, Ob.box 44 (cellsD false y44 a0))]) (0, v1) H (by kernel_rfl) fun _ g1 b1 e1 t1 ⟨v6, v7⟩ H => ?_
 refine qa tok hT [2, 5, 6, 7, 25, 26, 27, 28] (St.mk [p 2 (AV.ptr 2 0), p 5 (AV.ptr 5 0), p 6 (AV.os 18 0), p 7 (AV.os 21 0), p 25 (AV.os 25 0), p 26 (I (↑v3.length : Int)), p 27 (I v6), p 28 (B (decide (v6 < (↑v3.length : Int))))] [(25, Ob.arr 2 true i64 v3 0), (21, Ob.arr 81 true y81 v2 0), (18, Ob.arr 2 true i64 v7 0), (5, Ob.box 131 (cellsD false y131 v0)), (2, Ob.box 44 (cellsD false y44 a0))]) (by kernel_rfl) ?_
 refine vx_seq <| ?_
 refine cd H (by kernel_rfl) (fun H => ?_) (fun H => ?_)
 ·refine vx_skip <| fx_seq <| vx_seq <| vx_block <| ?_
  refine qb tok hT [2, 5, 6, 7, 8, 9, 25, 26, 27] (St.mk [p 2 (AV.ptr 2 0), p 5 (AV.ptr 5 0), p 6 (AV.os 18 0), p 7 (AV.os 21 0), p 8 (I v6), p 9 (I (v3.getD v6.toNat 0)), p 25 (AV.os 25 0), p 26 (I (↑v3.length : Int)), p 27 (I v6)] [(25, Ob.arr 2 true i64 v3 0), (21, Ob.arr 81 true y81 v2 0), (18, Ob.arr 2 true i64 v7 0), (5, Ob.box 131 (cellsD false y131 v0)), (2, Ob.box 44 (cellsD false y44 a0))]) H (by kernel_rfl) fun H => ?_
  refine zd tok hT [2, 5, 6, 7, 25, 26, 27] (fun (v8, v9) => St.mk [p 2 (AV.ptr 2 0), p 5 (AV.ptr 5 0), p 6 (AV.os 18 0), p 7 (AV.os 21 0), p 25 (AV.os 25 0), p 26 (I (↑v3.length : Int)), p 27 (I v6)] [(18, Ob.arr 2 true i64 v9 0), (25, Ob.arr 2 true i64 v3 0), (21, Ob.arr 81 true y81 v2 0), (5, Ob.box 131 (cellsD false y131 v0)), (2, Ob.box 44 (cellsD false y44 a0))]) H (by kernel_rfl) fun ⟨v8, v9⟩ H => ?_
  refine fx_blk <| fx_seq <| ?_
  refine zb tok hT [2, 5, 6, 7, 25, 26, 27] (St.mk [p 2 (AV.ptr 2 0), p 5 (AV.ptr 5 0), p 6 (AV.os 18 0), p 7 (AV.os 21 0), p 25 (AV.os 25 0), p 26 (I (↑v3.length : Int)), p 27 (I (v6 + 1))] [(18, Ob.arr 2 true i64 v9 0), (25, Ob.arr 2 true i64 v3 0), (21, Ob.arr 81 true y81 v2 0), (5, Ob.box 131 (cellsD false y131 v0)), (2, Ob.box 44 (cellsD false y44 a0))]) H (by kernel_rfl) fun H => ?_
  exact b1 H (by kernel_rfl)
 exact vx_exit <| fx_seq_exit <| e1 <| fx_blk_exit rfl <| n0 H (by kernel_rfl)
def u137J0 : List Int → Option (List Int)
 | v6 =>
 some v6
def u137L1 (v1 : Y131) (v0 : List Int) (g1 : Int × List Int → Option (List Int)) : Int × List Int → Option (List Int)
 | (v3, v4) =>
 if (decide (v3 < (↑v4.length : Int))) = true then
  gd (ix v3 v1.1.length ∧ ix (v1.1.getD v3.toNat 0) v4.length ∧ Int.toNat (v1.1.getD v3.toNat 0) < v4.length ∧ ix v3 v1.2.1.length ∧ ix v3 v0.length ∧ v3.toNat < v0.length ∧ in64 (v1.2.1.getD v3.toNat 0 * v0.getD v3.toNat 0) ∧ in64 (v4.getD (Int.toNat (v1.1.getD v3.toNat 0)) 0 + v1.2.1.getD v3.toNat 0 * v0.getD v3.toNat 0) ∧ ix v3 v4.length ∧ v3.toNat < v4.length ∧ True) <| lt (v4.set v3.toNat (v4.getD (Int.toNat (v1.1.getD v3.toNat 0)) 0 + v1.2.1.getD v3.toNat 0 * v0.getD v3.toNat 0)) fun v5 =>
  gd (in64 (v3 + 1) ∧ True) <| 
  g1 (v3 + 1, v5)
 else
  u137J0 v4
def u137 (a0 : Y44) (a1 : Int) : Option (List Int) :=
 gd (ix a1 a0.2.2.length ∧ (u97 a0 a1).isSome = true ∧ True) <| lt ((vl (u97 a0 a1), a0.2.2.getD a1.toNat (dflt y131))) fun (v0, v1) =>
 gd ((0 ≤ (↑v0.length : Int) ∧ (↑v0.length : Int) = (↑v0.length : Int) ∧ (↑v0.length : Int).toNat * 8 ≤ 281474976710656 ∧ (↑v0.length : Int) ≤ 9223372036854775807) ∧ True) <| 
 lp (u137L1 v1 v0) ((1, List.replicate (↑v0.length : Int).toNat 0))
def k137 : Ct := lct 137 [.agg y44, .dat i64] (fun x => u137 x.1 x.2.1) (fun r : List Int => AV.ow 2 true i64 r) (fun _ => ())
theorem o137 : Ok Tryz.prog k137 := by
 refine okl tok [.tmp 4] Tryz.func137 Tryz.ntmps137 rfl Tryz.results137 (by kernel_rfl) rfl ?_
 intro y ⟨a0, a1, _⟩ r H Q hn hr
 have hT := tc o97 tn
 refine qa tok hT [1, 2] (St.mk [p 1 (J a1), p 2 (AV.ptr 2 0)] [(2, Ob.box 44 (cellsD false y44 a0))]) (by kernel_rfl) ?_
 refine qd tok hT [5, 6] (fun (v0, v1) => St.mk [p 5 (AV.ptr 5 0), p 6 (AV.os 16 0)] [(5, Ob.box 131 (cellsD false y131 v1)), (16, Ob.arr 2 true i64 v0 0), (2, Ob.box 44 (cellsD false y44 a0))]) H (by kernel_rfl) fun ⟨v0, v1⟩ H => ?_
 refine qb tok hT [5, 6, 7] (St.mk [p 5 (AV.ptr 5 0), p 6 (AV.os 16 0), p 7 (AV.os 19 0)] [(19, Ob.arr 2 true i64 (List.replicate (↑v0.length : Int).toNat 0) 0), (5, Ob.box 131 (cellsD false y131 v1)), (16, Ob.arr 2 true i64 v0 0), (2, Ob.box 44 (cellsD false y44 a0))]) H (by kernel_rfl) fun H => ?_
 refine jn r (fun (v6 : List Int) => St.mk [p 7 (AV.os 19 0)] [(19, Ob.arr 2 true i64 v6 0)]) (u137J0) (fun v6 H => ?_) (fun _ n0 e0 t0 => ?_)
 ·refine qa tok hT [4] (St.mk [p 4 (AV.os 19 0)] [(19, Ob.arr 2 true i64 v6 0)]) (by kernel_rfl) ?_
  exact vx_ret <| hr H (by kernel_rfl)
 refine qa tok hT [5, 6, 7, 8] (St.mk [p 5 (AV.ptr 5 0), p 6 (AV.os 16 0), p 7 (AV.os 19 0), p 8 (I 1)] [(19, Ob.arr 2 true i64 (List.replicate (↑v0.length : Int).toNat 0) 0), (5, Ob.box 131 (cellsD false y131 v1)), (16, Ob.arr 2 true i64 v0 0), (2, Ob.box 44 (cellsD false y44 a0))]) (by kernel_rfl) ?_
 refine vx_block <| ?_
 refine lx (fun ((v3, v4) : Int × List Int) => St.mk [p 5 (AV.ptr 5 0), p 6 (AV.os 16 0), p 7 (AV.os 19 0), p 8 (I v3)] [(19, Ob.arr 2 true i64 v4 0), (5, Ob.box 131 (cellsD false y131 v1)), (16, Ob.arr 2 true i64 v0 0)]) ((1, List.replicate (↑v0.length : Int).toNat 0)) H (by kernel_rfl) fun _ g1 b1 e1 t1 ⟨v3, v4⟩ H => ?_
 refine vx_seq <| ?_
 refine qa tok hT [5, 6, 7, 8, 23] (St.mk [p 5 (AV.ptr 5 0), p 6 (AV.os 16 0), p 7 (AV.os 19 0), p 8 (I v3), p 23 (B (decide (v3 < (↑v4.length : Int))))] [(19, Ob.arr 2 true i64 v4 0), (5, Ob.box 131 (cellsD false y131 v1)), (16, Ob.arr 2 true i64 v0 0)]) (by kernel_rfl) ?_
 refine cd H (by kernel_rfl) (fun H => ?_) (fun H => ?_)
 ·refine vx_skip <| fx_seq <| vx_seq <| vx_block <| ?_
  refine zd tok hT [5, 6, 7, 8] (fun v5 => St.mk [p 5 (AV.ptr 5 0), p 6 (AV.os 16 0), p 7 (AV.os 19 0), p 8 (I v3)] [(19, Ob.arr 2 true i64 v5 0), (5, Ob.box 131 (cellsD false y131 v1)), (16, Ob.arr 2 true i64 v0 0)]) H (by kernel_rfl) fun v5 H => ?_
  refine fx_blk <| fx_seq <| ?_
  refine zb tok hT [5, 6, 7, 8] (St.mk [p 5 (AV.ptr 5 0), p 6 (AV.os 16 0), p 7 (AV.os 19 0), p 8 (I (v3 + 1))] [(19, Ob.arr 2 true i64 v5 0), (5, Ob.box 131 (cellsD false y131 v1)), (16, Ob.arr 2 true i64 v0 0)]) H (by kernel_rfl) fun H => ?_
  exact b1 H (by kernel_rfl)
 exact vx_exit <| fx_seq_exit <| e1 <| fx_blk_exit rfl <| n0 H (by kernel_rfl)
def u98J0 : List Int → Option (List Int)
 | v6 =>
 some v6
def u98L1 (v0 : List Int) (v1 : Y131) (g1 : List Int × Int → Option (List Int)) : List Int × Int → Option (List Int)
 | (v3, v4) =>
 if (decide (v4 < (↑v1.2.2.2.length : Int))) = true then
  gd (ix v4 v1.2.2.2.length ∧ True) <| 
  gd (ix (v1.2.2.2.getD v4.toNat 0) v0.length ∧ Int.toNat (v1.2.2.2.getD v4.toNat 0) < v0.length ∧ (v3.length + [v0.getD (Int.toNat (v1.2.2.2.getD v4.toNat 0)) 0].length ≤ 9223372036854775807 ∧ (v3.length + [v0.getD (Int.toNat (v1.2.2.2.getD v4.toNat 0)) 0].length) * 8 ≤ 140737488355328) ∧ True) <| lt (v3 ++ [v0.getD (Int.toNat (v1.2.2.2.getD v4.toNat 0)) 0]) fun v5 =>
  gd (in64 (v4 + 1) ∧ True) <| 
  g1 (v5, v4 + 1)
 else
  u98J0 v3
def u98 (a0 : Y44) (a1 : Int) : Option (List Int) :=
 gd ((u137 a0 a1).isSome = true ∧ True) <| lt (vl (u137 a0 a1)) fun v0 =>
 gd (ix a1 a0.2.2.length ∧ True) <| lt (a0.2.2.getD a1.toNat (dflt y131)) fun v1 =>
 lp (u98L1 v0 v1) ([], 0)
def k98 : Ct := lct 98 [.agg y44, .dat i64] (fun x => u98 x.1 x.2.1) (fun r : List Int => AV.ow 2 true i64 r) (fun _ => ())
theorem o98 : Ok Tryz.prog k98 := by
 refine okl tok [.tmp 4] Tryz.func98 Tryz.ntmps98 rfl Tryz.results98 (by kernel_rfl) rfl ?_
 intro y ⟨a0, a1, _⟩ r H Q hn hr
 have hT := tc o137 tn
 refine qa tok hT [1, 2] (St.mk [p 1 (J a1), p 2 (AV.ptr 2 0)] [(2, Ob.box 44 (cellsD false y44 a0))]) (by kernel_rfl) ?_
 refine qd tok hT [1, 2, 5] (fun v0 => St.mk [p 1 (J a1), p 2 (AV.ptr 2 0), p 5 (AV.os 11 0)] [(11, Ob.arr 2 true i64 v0 0), (2, Ob.box 44 (cellsD false y44 a0))]) H (by kernel_rfl) fun v0 H => ?_
 refine qa tok hT [1, 2, 5, 6] (St.mk [p 1 (J a1), p 2 (AV.ptr 2 0), p 5 (AV.os 11 0), p 6 (AV.v (Value.slice none 0 0))] [(11, Ob.arr 2 true i64 v0 0), (2, Ob.box 44 (cellsD false y44 a0))]) (by kernel_rfl) ?_
 refine jn r (fun (v6 : List Int) => St.mk [p 6 (AV.os 29 0)] [(29, Ob.arr 2 true i64 v6 0)]) (u98J0) (fun v6 H => ?_) (fun _ n0 e0 t0 => ?_)
 ·refine qa tok hT [4] (St.mk [p 4 (AV.os 29 0)] [(29, Ob.arr 2 true i64 v6 0)]) (by kernel_rfl) ?_
  exact vx_ret <| hr H (by kernel_rfl)
 refine qd tok hT [5, 6, 17, 18, 19] (fun v1 => St.mk [p 5 (AV.os 11 0), p 6 (AV.v (Value.slice none 0 0)), p 17 (L i64 v1.2.2.2), p 18 (I (↑v1.2.2.2.length : Int)), p 19 (I 0)] [(11, Ob.arr 2 true i64 v0 0), (2, Ob.box 44 (cellsD false y44 a0))]) H (by kernel_rfl) fun v1 H => ?_
 refine vx_block <| ?_
 refine lx (fun ((v3, v4) : List Int × Int) => St.mk [p 5 (AV.os 11 0), p 6 (AV.os 29 0), p 17 (L i64 v1.2.2.2), p 18 (I (↑v1.2.2.2.length : Int)), p 19 (I v4)] [(11, Ob.arr 2 true i64 v0 0), (29, Ob.arr 2 true i64 v3 0)]) ([], 0) H (by kernel_rfl) fun _ g1 b1 e1 t1 ⟨v3, v4⟩ H => ?_
 refine qa tok hT [5, 6, 17, 18, 19, 20] (St.mk [p 5 (AV.os 11 0), p 6 (AV.os 29 0), p 17 (L i64 v1.2.2.2), p 18 (I (↑v1.2.2.2.length : Int)), p 19 (I v4), p 20 (B (decide (v4 < (↑v1.2.2.2.length : Int))))] [(11, Ob.arr 2 true i64 v0 0), (29, Ob.arr 2 true i64 v3 0)]) (by kernel_rfl) ?_
 refine vx_seq <| ?_
 refine cd H (by kernel_rfl) (fun H => ?_) (fun H => ?_)
 ·refine vx_skip <| fx_seq <| vx_seq <| vx_block <| ?_
  refine qb tok hT [5, 6, 8, 17, 18, 19] (St.mk [p 5 (AV.os 11 0), p 6 (AV.os 29 0), p 8 (J (v1.2.2.2.getD v4.toNat 0)), p 17 (L i64 v1.2.2.2), p 18 (I (↑v1.2.2.2.length : Int)), p 19 (I v4)] [(11, Ob.arr 2 true i64 v0 0), (29, Ob.arr 2 true i64 v3 0)]) H (by kernel_rfl) fun H => ?_
  refine zd tok hT [5, 6, 17, 18, 19] (fun v5 => St.mk [p 5 (AV.os 11 0), p 6 (AV.os 29 1), p 17 (L i64 v1.2.2.2), p 18 (I (↑v1.2.2.2.length : Int)), p 19 (I v4)] [(29, Ob.arr 2 true i64 v5 1), (28, Ob.arr 2 true i64 [v0.getD (Int.toNat (v1.2.2.2.getD v4.toNat 0)) 0] 0), (11, Ob.arr 2 true i64 v0 0)]) H (by kernel_rfl) fun v5 H => ?_
  refine fx_blk <| fx_seq <| ?_
  refine zb tok hT [5, 6, 17, 18, 19] (St.mk [p 5 (AV.os 11 0), p 6 (AV.os 29 1), p 17 (L i64 v1.2.2.2), p 18 (I (↑v1.2.2.2.length : Int)), p 19 (I (v4 + 1))] [(29, Ob.arr 2 true i64 v5 1), (28, Ob.arr 2 true i64 [v0.getD (Int.toNat (v1.2.2.2.getD v4.toNat 0)) 0] 0), (11, Ob.arr 2 true i64 v0 0)]) H (by kernel_rfl) fun H => ?_
  exact b1 H (by kernel_rfl)
 exact vx_exit <| fx_seq_exit <| e1 <| fx_blk_exit rfl <| n0 H (by kernel_rfl)
def k98d : Ct := lct 98 [.agg y44, .dat i64] (fun x => u98 x.1 x.2.1) (fun r => frz ((fun r : List Int => AV.ow 2 true i64 r) r)) (fun _ => ())
theorem o98d : Ok Tryz.prog k98d := ok_frz o98
def u96 (a0 : List Int) : Option (Int) :=
 some (↑a0.length : Int)
def k96 : Ct := lct 96 [.dat i64.sl] (fun x => u96 x.1) (fun r : Int => I r) (fun _ => ())
theorem o96 : Ok Tryz.prog k96 := by
 refine okl tok [.tmp 2] Tryz.func96 Tryz.ntmps96 rfl Tryz.results96 (by kernel_rfl) rfl ?_
 intro y ⟨a0, _⟩ r H Q hn hr
 have hT := @tn Tryz.prog
 refine qa tok hT [0] (St.mk [p 0 (L i64 a0)] []) (by kernel_rfl) ?_
 refine qa tok hT [2] (St.mk [p 2 (I (↑a0.length : Int))] []) (by kernel_rfl) ?_
 exact vx_ret <| hr H (by kernel_rfl)
def u133 (a0 : Y89) : Option (List (Int × Int)) :=
 if (a0.1 == 2) = true then
  some ([((0 : Int), (0 : Int)), ((0 : Int), (1 : Int))])
 else
  if (a0.1 == 3) = true then
   some ([((1 : Int), (0 : Int)), ((1 : Int), (1 : Int))])
  else
   if (a0.1 != 1) = true then
    some []
   else
    if (a0.2.2.2.1 == 1) = true then
     some ([((0 : Int), (0 : Int)), ((1 : Int), (1 : Int))])
    else
     if (a0.2.2.2.1 == 2) = true then
      some ([((0 : Int), (1 : Int)), ((1 : Int), (0 : Int))])
     else
      lt ([((0 : Int), (0 : Int)), ((0 : Int), (1 : Int)), ((1 : Int), (0 : Int)), ((1 : Int), (1 : Int))]) fun v0 =>
      some v0
def k133 : Ct := lct 133 [.agg y89] (fun x => u133 x.1) (fun r : List (Int × Int) => AV.ow 215 true (i64.pr i64) r) (fun _ => ())
theorem o133 : Ok Tryz.prog k133 := by
 refine okl tok [.tmp 2] Tryz.func133 Tryz.ntmps133 rfl Tryz.results133 (by kernel_rfl) rfl ?_
 intro y ⟨a0, _⟩ r H Q hn hr
 have hT := @tn Tryz.prog
 refine qa tok hT [1] (St.mk [p 1 (AV.ptr 1 0)] [(1, Ob.box 89 (cellsD false y89 a0))]) (by kernel_rfl) ?_
 refine qa tok hT [1, 3] (St.mk [p (1 : Nat) (AV.ptr (1 : Nat) (0 : Nat)), p (3 : Nat) (AV.os (7 : Nat) (0 : Nat))] [((7 : Nat), Ob.arr (nat_lit 215) true (i64.pr i64) [((0 : Int), (0 : Int)), ((1 : Int), (1 : Int))] (0 : Nat)), ((1 : Nat), Ob.box (nat_lit 89) (cellsD false y89 a0))]) (by kernel_rfl) ?_
 refine qa tok hT [1, 3, 4] (St.mk [p (1 : Nat) (AV.ptr (1 : Nat) (0 : Nat)), p (3 : Nat) (AV.os (7 : Nat) (0 : Nat)), p (4 : Nat) (AV.os (10 : Nat) (0 : Nat))] [((10 : Nat), Ob.arr (nat_lit 215) true (i64.pr i64) [((0 : Int), (1 : Int)), ((1 : Int), (0 : Int))] (0 : Nat)), ((7 : Nat), Ob.arr (nat_lit 215) true (i64.pr i64) [((0 : Int), (0 : Int)), ((1 : Int), (1 : Int))] (0 : Nat)), ((1 : Nat), Ob.box (nat_lit 89) (cellsD false y89 a0))]) (by kernel_rfl) ?_
 refine vx_seq <| vx_block <| ?_
 refine qa tok hT [1, 3, 4, 11] (St.mk [p (1 : Nat) (AV.ptr (1 : Nat) (0 : Nat)), p (3 : Nat) (AV.os (7 : Nat) (0 : Nat)), p (4 : Nat) (AV.os (10 : Nat) (0 : Nat)), p (11 : Nat) (B (a0.1 == (2 : Int)))] [((10 : Nat), Ob.arr (nat_lit 215) true (i64.pr i64) [((0 : Int), (1 : Int)), ((1 : Int), (0 : Int))] (0 : Nat)), ((7 : Nat), Ob.arr (nat_lit 215) true (i64.pr i64) [((0 : Int), (0 : Int)), ((1 : Int), (1 : Int))] (0 : Nat)), ((1 : Nat), Ob.box (nat_lit 89) (cellsD false y89 a0))]) (by kernel_rfl) ?_
 refine cd H (by kernel_rfl) (fun H => ?_) (fun H => ?_)
 ·refine qa tok hT [2] (St.mk [p (2 : Nat) (AV.os (17 : Nat) (0 : Nat))] [((17 : Nat), Ob.arr (nat_lit 215) true (i64.pr i64) [((0 : Int), (0 : Int)), ((0 : Int), (1 : Int))] (0 : Nat)), ((10 : Nat), Ob.arr (nat_lit 215) true (i64.pr i64) [((0 : Int), (1 : Int)), ((1 : Int), (0 : Int))] (0 : Nat)), ((7 : Nat), Ob.arr (nat_lit 215) true (i64.pr i64) [((0 : Int), (0 : Int)), ((1 : Int), (1 : Int))] (0 : Nat)), ((1 : Nat), Ob.box (nat_lit 89) (cellsD false y89 a0))]) (by kernel_rfl) ?_
  exact vx_ret <| fx_blk_ret <| fx_seq_ret <| hr H (by kernel_rfl)
 refine qa tok hT [1, 3, 4, 18] (St.mk [p (1 : Nat) (AV.ptr (1 : Nat) (0 : Nat)), p (3 : Nat) (AV.os (7 : Nat) (0 : Nat)), p (4 : Nat) (AV.os (10 : Nat) (0 : Nat)), p (18 : Nat) (B (a0.1 == (3 : Int)))] [((10 : Nat), Ob.arr (nat_lit 215) true (i64.pr i64) [((0 : Int), (1 : Int)), ((1 : Int), (0 : Int))] (0 : Nat)), ((7 : Nat), Ob.arr (nat_lit 215) true (i64.pr i64) [((0 : Int), (0 : Int)), ((1 : Int), (1 : Int))] (0 : Nat)), ((1 : Nat), Ob.box (nat_lit 89) (cellsD false y89 a0))]) (by kernel_rfl) ?_
 refine cd H (by kernel_rfl) (fun H => ?_) (fun H => ?_)
 ·refine qa tok hT [2] (St.mk [p (2 : Nat) (AV.os (24 : Nat) (0 : Nat))] [((24 : Nat), Ob.arr (nat_lit 215) true (i64.pr i64) [((1 : Int), (0 : Int)), ((1 : Int), (1 : Int))] (0 : Nat)), ((10 : Nat), Ob.arr (nat_lit 215) true (i64.pr i64) [((0 : Int), (1 : Int)), ((1 : Int), (0 : Int))] (0 : Nat)), ((7 : Nat), Ob.arr (nat_lit 215) true (i64.pr i64) [((0 : Int), (0 : Int)), ((1 : Int), (1 : Int))] (0 : Nat)), ((1 : Nat), Ob.box (nat_lit 89) (cellsD false y89 a0))]) (by kernel_rfl) ?_
  exact vx_ret <| fx_blk_ret <| fx_seq_ret <| hr H (by kernel_rfl)
 refine qa tok hT [1, 3, 4, 25] (St.mk [p (1 : Nat) (AV.ptr (1 : Nat) (0 : Nat)), p (3 : Nat) (AV.os (7 : Nat) (0 : Nat)), p (4 : Nat) (AV.os (10 : Nat) (0 : Nat)), p (25 : Nat) (B (a0.1 != (1 : Int)))] [((10 : Nat), Ob.arr (nat_lit 215) true (i64.pr i64) [((0 : Int), (1 : Int)), ((1 : Int), (0 : Int))] (0 : Nat)), ((7 : Nat), Ob.arr (nat_lit 215) true (i64.pr i64) [((0 : Int), (0 : Int)), ((1 : Int), (1 : Int))] (0 : Nat)), ((1 : Nat), Ob.box (nat_lit 89) (cellsD false y89 a0))]) (by kernel_rfl) ?_
 refine cd H (by kernel_rfl) (fun H => ?_) (fun H => ?_)
 ·refine qa tok hT [2] (St.mk [p (2 : Nat) (AV.v (Value.slice none (0 : Nat) (0 : Nat)))] [((10 : Nat), Ob.arr (nat_lit 215) true (i64.pr i64) [((0 : Int), (1 : Int)), ((1 : Int), (0 : Int))] (0 : Nat)), ((7 : Nat), Ob.arr (nat_lit 215) true (i64.pr i64) [((0 : Int), (0 : Int)), ((1 : Int), (1 : Int))] (0 : Nat)), ((1 : Nat), Ob.box (nat_lit 89) (cellsD false y89 a0))]) (by kernel_rfl) ?_
  exact vx_ret <| fx_blk_ret <| fx_seq_ret <| hr H (by kernel_rfl)
 refine qa tok hT [1, 3, 4, 29] (St.mk [p (1 : Nat) (AV.ptr (1 : Nat) (0 : Nat)), p (3 : Nat) (AV.os (7 : Nat) (0 : Nat)), p (4 : Nat) (AV.os (10 : Nat) (0 : Nat)), p (29 : Nat) (B (a0.2.2.2.1 == (1 : Int)))] [((10 : Nat), Ob.arr (nat_lit 215) true (i64.pr i64) [((0 : Int), (1 : Int)), ((1 : Int), (0 : Int))] (0 : Nat)), ((7 : Nat), Ob.arr (nat_lit 215) true (i64.pr i64) [((0 : Int), (0 : Int)), ((1 : Int), (1 : Int))] (0 : Nat)), ((1 : Nat), Ob.box (nat_lit 89) (cellsD false y89 a0))]) (by kernel_rfl) ?_
 refine cd H (by kernel_rfl) (fun H => ?_) (fun H => ?_)
 ·refine qa tok hT [2] (St.mk [p (2 : Nat) (AV.os (7 : Nat) (0 : Nat))] [((10 : Nat), Ob.arr (nat_lit 215) true (i64.pr i64) [((0 : Int), (1 : Int)), ((1 : Int), (0 : Int))] (0 : Nat)), ((7 : Nat), Ob.arr (nat_lit 215) true (i64.pr i64) [((0 : Int), (0 : Int)), ((1 : Int), (1 : Int))] (0 : Nat)), ((1 : Nat), Ob.box (nat_lit 89) (cellsD false y89 a0))]) (by kernel_rfl) ?_
  exact vx_ret <| fx_blk_ret <| fx_seq_ret <| hr H (by kernel_rfl)
 refine qa tok hT [4, 34] (St.mk [p (4 : Nat) (AV.os (10 : Nat) (0 : Nat)), p (34 : Nat) (B (a0.2.2.2.1 == (2 : Int)))] [((10 : Nat), Ob.arr (nat_lit 215) true (i64.pr i64) [((0 : Int), (1 : Int)), ((1 : Int), (0 : Int))] (0 : Nat)), ((7 : Nat), Ob.arr (nat_lit 215) true (i64.pr i64) [((0 : Int), (0 : Int)), ((1 : Int), (1 : Int))] (0 : Nat)), ((1 : Nat), Ob.box (nat_lit 89) (cellsD false y89 a0))]) (by kernel_rfl) ?_
 refine cd H (by kernel_rfl) (fun H => ?_) (fun H => ?_)
 ·refine qa tok hT [2] (St.mk [p (2 : Nat) (AV.os (10 : Nat) (0 : Nat))] [((10 : Nat), Ob.arr (nat_lit 215) true (i64.pr i64) [((0 : Int), (1 : Int)), ((1 : Int), (0 : Int))] (0 : Nat)), ((7 : Nat), Ob.arr (nat_lit 215) true (i64.pr i64) [((0 : Int), (0 : Int)), ((1 : Int), (1 : Int))] (0 : Nat)), ((1 : Nat), Ob.box (nat_lit 89) (cellsD false y89 a0))]) (by kernel_rfl) ?_
  exact vx_ret <| fx_blk_ret <| fx_seq_ret <| hr H (by kernel_rfl)
 refine vx_skip <| fx_blk <| fx_seq <| ?_
 refine qc tok hT [2] (fun v0 => St.mk [p (2 : Nat) (AV.os (43 : Nat) (0 : Nat))] [((43 : Nat), Ob.arr (nat_lit 215) true (i64.pr i64) v0 (0 : Nat)), ((10 : Nat), Ob.arr (nat_lit 215) true (i64.pr i64) [((0 : Int), (1 : Int)), ((1 : Int), (0 : Int))] (0 : Nat)), ((7 : Nat), Ob.arr (nat_lit 215) true (i64.pr i64) [((0 : Int), (0 : Int)), ((1 : Int), (1 : Int))] (0 : Nat)), ((1 : Nat), Ob.box (nat_lit 89) (cellsD false y89 a0))]) H (by kernel_rfl) fun v0 H => ?_
 exact vx_ret <| hr H (by kernel_rfl)
def u95J0 : List Y175 → Option (List Y175)
 | v24 =>
 some v24
def u95J2 (v12 : Int) (g1 : List Y175 × Int → Option (List Y175)) : List Y175 → Option (List Y175)
 | v23 =>
 gd (in64 (v12 + 1) ∧ True) <| 
 g1 (v23, v12 + 1)
def u95L3 (a2 : Int) (v13 : Y89) (v12 : Int) (v14 : List (Int × Int)) (g1 : List Y175 × Int → Option (List Y175)) (g3 : Int × List Y175 → Option (List Y175)) : Int × List Y175 → Option (List Y175)
 | (v18, v19) =>
 if (decide (v18 < (↑v14.length : Int))) = true then
  gd (ix v18 v14.length ∧ v18.toNat < v14.length ∧ True) <| lt (v14.getD v18.toNat (dflt (i64.pr i64))) fun v20 =>
  gd (in64 (a2 + v13.2.1) ∧ in64 ((2 : Int) * (a2 + v13.2.1)) ∧ ix (0 : Int) (2 : Nat) ∧ in64 ((2 : Int) * (a2 + v13.2.1) + v20.1) ∧ in64 (a2 + v13.2.2.1) ∧ in64 ((2 : Int) * (a2 + v13.2.2.1)) ∧ ix (1 : Int) (2 : Nat) ∧ in64 ((2 : Int) * (a2 + v13.2.2.1) + v20.2) ∧ (v19.length + [((2 : Int) * (a2 + v13.2.1) + v20.1, (2 : Int) * (a2 + v13.2.2.1) + v20.2, (1 : Int), v12)].length ≤ (9223372036854775807 : Nat) ∧ (v19.length + [((2 : Int) * (a2 + v13.2.1) + v20.1, (2 : Int) * (a2 + v13.2.2.1) + v20.2, (1 : Int), v12)].length) * (32 : Nat) ≤ (140737488355328 : Nat)) ∧ True) <| lt ((v19 ++ [((2 : Int) * (a2 + v13.2.1) + v20.1, (2 : Int) * (a2 + v13.2.2.1) + v20.2, (1 : Int), v12)], [((2 : Int) * (a2 + v13.2.1) + v20.1, (2 : Int) * (a2 + v13.2.2.1) + v20.2, (1 : Int), v12)])) fun (v21, v22) =>
  gd (in64 (v18 + 1) ∧ True) <| 
  g3 (v18 + 1, v21)
 else
  u95J2 v12 g1 v19
def u95L1 (a2 : Int) (v0 : Y152) (g1 : List Y175 × Int → Option (List Y175)) : List Y175 × Int → Option (List Y175)
 | (v11, v12) =>
 if (decide (v12 < (↑v0.2.2.2.1.length : Int))) = true then
  gd (ix v12 v0.2.2.2.1.length ∧ True) <| lt (v0.2.2.2.1.getD v12.toNat (dflt y89)) fun v13 =>
  gd ((u133 v13).isSome = true ∧ True) <| lt (vl (u133 v13)) fun v14 =>
  lp (u95L3 a2 v13 v12 v14 g1) (0, v11)
 else
  u95J0 v11
def u95 (a0 : Y44) (a1 : Y141) (a2 : Int) : Option (List Y175) :=
 gd (ix a1.2.1 a0.1.length ∧ True) <| lt (a0.1.getD a1.2.1.toNat (dflt y152)) fun v0 =>
 lp (u95L1 a2 v0) ([], 0)
def k95 : Ct := lct 95 [.agg y44, .agg y141, .dat i64] (fun x => u95 x.1 x.2.1 x.2.2.1) (fun r : List Y175 => AV.ow 175 true y175 r) (fun _ => ())
theorem o95 : Ok Tryz.prog k95 := by
 refine okl tok [.tmp 6] Tryz.func95 Tryz.ntmps95 rfl Tryz.results95 (by kernel_rfl) rfl ?_
 intro y ⟨a0, a1, a2, _⟩ r H Q hn hr
 have hT := tc o133 tn
 refine qa tok hT [2, 3, 4] (St.mk [p 2 (J a2), p 3 (AV.ptr 3 0), p 4 (AV.ptr 4 0)] [(4, Ob.box 141 (cellsD false y141 a1)), (3, Ob.box 44 (cellsD false y44 a0))]) (by kernel_rfl) ?_
 refine qa tok hT [2, 3, 4, 7] (St.mk [p 2 (J a2), p 3 (AV.ptr 3 0), p 4 (AV.ptr 4 0), p 7 (AV.v (Value.slice none 0 0))] [(4, Ob.box 141 (cellsD false y141 a1)), (3, Ob.box 44 (cellsD false y44 a0))]) (by kernel_rfl) ?_
 refine jn r (fun (v24 : List Y175) => St.mk [p 7 (AV.os 53 0)] [(53, Ob.arr 175 true y175 v24 0)]) (u95J0) (fun v24 H => ?_) (fun _ n0 e0 t0 => ?_)
 ·refine qa tok hT [6] (St.mk [p 6 (AV.os 53 0)] [(53, Ob.arr 175 true y175 v24 0)]) (by kernel_rfl) ?_
  exact vx_ret <| hr H (by kernel_rfl)
 refine qd tok hT [2, 7, 19, 20, 21] (fun v0 => St.mk [p 2 (J a2), p 7 (AV.v (Value.slice none 0 0)), p 19 (L y89 v0.2.2.2.1), p 20 (I (↑v0.2.2.2.1.length : Int)), p 21 (I 0)] [(4, Ob.box 141 (cellsD false y141 a1)), (3, Ob.box 44 (cellsD false y44 a0))]) H (by kernel_rfl) fun v0 H => ?_
 refine vx_block <| ?_
 refine lx (fun ((v11, v12) : List Y175 × Int) => St.mk [p 2 (J a2), p 7 (AV.os 53 0), p 19 (L y89 v0.2.2.2.1), p 20 (I (↑v0.2.2.2.1.length : Int)), p 21 (I v12)] [(53, Ob.arr 175 true y175 v11 0)]) ([], 0) H (by kernel_rfl) fun _ g1 b1 e1 t1 ⟨v11, v12⟩ H => ?_
 refine qa tok hT [2, 7, 19, 20, 21, 22] (St.mk [p 2 (J a2), p 7 (AV.os 53 0), p 19 (L y89 v0.2.2.2.1), p 20 (I (↑v0.2.2.2.1.length : Int)), p 21 (I v12), p 22 (B (decide (v12 < (↑v0.2.2.2.1.length : Int))))] [(53, Ob.arr 175 true y175 v11 0)]) (by kernel_rfl) ?_
 refine vx_seq <| ?_
 refine cd H (by kernel_rfl) (fun H => ?_) (fun H => ?_)
 ·refine vx_skip <| fx_seq <| ?_
  refine jn r (fun (v23 : List Y175) => St.mk [p 2 (J a2), p 7 (AV.os 53 0), p 19 (L y89 v0.2.2.2.1), p 20 (I (↑v0.2.2.2.1.length : Int)), p 21 (I v12)] [(53, Ob.arr 175 true y175 v23 0)]) (u95J2 v12 g1) (fun v23 H => ?_) (fun _ n2 e2 t2 => ?_)
  ·refine zb tok hT [2, 7, 19, 20, 21] (St.mk [p 2 (J a2), p 7 (AV.os 53 0), p 19 (L y89 v0.2.2.2.1), p 20 (I (↑v0.2.2.2.1.length : Int)), p 21 (I (v12 + 1))] [(53, Ob.arr 175 true y175 v23 0)]) H (by kernel_rfl) fun H => ?_
   exact b1 H (by kernel_rfl)
  refine vx_block <| ?_
  refine qd tok hT [2, 7, 8, 9, 19, 20, 21] (fun v13 => St.mk [p 2 (J a2), p 7 (AV.os 53 0), p 8 (I v12), p 9 (AV.ptr 9 0), p 19 (L y89 v0.2.2.2.1), p 20 (I (↑v0.2.2.2.1.length : Int)), p 21 (I v12)] [(9, Ob.box 89 (cellsD false y89 v13)), (53, Ob.arr 175 true y175 v11 0)]) H (by kernel_rfl) fun v13 H => ?_
  refine qd tok hT [2, 7, 8, 9, 19, 20, 21, 27, 28, 29] (fun v14 => St.mk [p 2 (J a2), p 7 (AV.os 53 0), p 8 (I v12), p 9 (AV.ptr 9 0), p 19 (L y89 v0.2.2.2.1), p 20 (I (↑v0.2.2.2.1.length : Int)), p 21 (I v12), p 27 (AV.os 27 0), p 28 (I (↑v14.length : Int)), p 29 (I 0)] [(27, Ob.arr 215 true (i64.pr i64) v14 0), (9, Ob.box 89 (cellsD false y89 v13)), (53, Ob.arr 175 true y175 v11 0)]) H (by kernel_rfl) fun v14 H => ?_
  refine vx_block <| ?_
  refine lx (fun ((v18, v19) : Int × List Y175) => St.mk [p 2 (J a2), p 7 (AV.os 53 0), p 8 (I v12), p 9 (AV.ptr 9 0), p 19 (L y89 v0.2.2.2.1), p 20 (I (↑v0.2.2.2.1.length : Int)), p 21 (I v12), p 27 (AV.os 27 0), p 28 (I (↑v14.length : Int)), p 29 (I v18)] [(27, Ob.arr 215 true (i64.pr i64) v14 0), (9, Ob.box 89 (cellsD false y89 v13)), (53, Ob.arr 175 true y175 v19 0)]) (0, v11) H (by kernel_rfl) fun _ g3 b3 e3 t3 ⟨v18, v19⟩ H => ?_
  refine qa tok hT [2, 7, 8, 9, 19, 20, 21, 27, 28, 29, 30] (St.mk [p 2 (J a2), p 7 (AV.os 53 0), p 8 (I v12), p 9 (AV.ptr 9 0), p 19 (L y89 v0.2.2.2.1), p 20 (I (↑v0.2.2.2.1.length : Int)), p 21 (I v12), p 27 (AV.os 27 0), p 28 (I (↑v14.length : Int)), p 29 (I v18), p 30 (B (decide (v18 < (↑v14.length : Int))))] [(27, Ob.arr 215 true (i64.pr i64) v14 0), (9, Ob.box 89 (cellsD false y89 v13)), (53, Ob.arr 175 true y175 v19 0)]) (by kernel_rfl) ?_
  refine vx_seq <| ?_
  refine cd H (by kernel_rfl) (fun H => ?_) (fun H => ?_)
  ·refine vx_skip <| fx_seq <| vx_seq <| vx_block <| ?_
   refine qd tok hT [2, 7, 8, 9, 11, 19, 20, 21, 27, 28, 29] (fun v20 => St.mk [p 2 (J a2), p 7 (AV.os 53 0), p 8 (I v12), p 9 (AV.ptr 9 0), p 11 (AV.ptr 11 0), p 19 (L y89 v0.2.2.2.1), p 20 (I (↑v0.2.2.2.1.length : Int)), p 21 (I v12), p 27 (AV.os 27 0), p 28 (I (↑v14.length : Int)), p 29 (I v18)] [(11, Ob.box 215 (cellsD true (i64.pr i64) v20)), (27, Ob.arr 215 true (i64.pr i64) v14 0), (9, Ob.box 89 (cellsD false y89 v13)), (53, Ob.arr 175 true y175 v19 0)]) H (by kernel_rfl) fun v20 H => ?_
   refine zd tok hT [2, 7, 8, 9, 19, 20, 21, 27, 28, 29] (fun (v21, v22) => St.mk [p 2 (J a2), p 7 (AV.os 53 1), p 8 (I v12), p 9 (AV.ptr 9 0), p 19 (L y89 v0.2.2.2.1), p 20 (I (↑v0.2.2.2.1.length : Int)), p 21 (I v12), p 27 (AV.os 27 0), p 28 (I (↑v14.length : Int)), p 29 (I v18)] [(53, Ob.arr 175 true y175 v21 1), (52, Ob.arr 175 true y175 v22 0), (11, Ob.box 215 (cellsD true (i64.pr i64) v20)), (27, Ob.arr 215 true (i64.pr i64) v14 0), (9, Ob.box 89 (cellsD false y89 v13))]) H (by kernel_rfl) fun ⟨v21, v22⟩ H => ?_
   refine fx_blk <| fx_seq <| ?_
   refine zb tok hT [2, 7, 8, 9, 19, 20, 21, 27, 28, 29] (St.mk [p 2 (J a2), p 7 (AV.os 53 1), p 8 (I v12), p 9 (AV.ptr 9 0), p 19 (L y89 v0.2.2.2.1), p 20 (I (↑v0.2.2.2.1.length : Int)), p 21 (I v12), p 27 (AV.os 27 0), p 28 (I (↑v14.length : Int)), p 29 (I (v18 + 1))] [(53, Ob.arr 175 true y175 v21 1), (52, Ob.arr 175 true y175 v22 0), (11, Ob.box 215 (cellsD true (i64.pr i64) v20)), (27, Ob.arr 215 true (i64.pr i64) v14 0), (9, Ob.box 89 (cellsD false y89 v13))]) H (by kernel_rfl) fun H => ?_
   exact b3 H (by kernel_rfl)
  exact vx_exit <| fx_seq_exit <| e3 <| fx_blk_exit rfl <| fx_blk <| n2 H (by kernel_rfl)
 exact vx_exit <| fx_seq_exit <| e1 <| fx_blk_exit rfl <| n0 H (by kernel_rfl)
end Go.Proofs.YtippccamjlfafaaGreatDoor
