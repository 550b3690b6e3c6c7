/- Functions of this program as plain functions of data, and that they are so: printed by program. -/
import Derived.Test.YtkmmjamclcdjkaaGreatDoorXE
import Derived.Test.YtkmmjamclcdjkaaGreatDoorTY
import Derived.Test.YtkmmjamclcdjkaaGreatDoorLB
namespace Go.Proofs.YtkmmjamclcdjkaaGreatDoor
open Go Go.Proofs Go.Proofs.Sv Go.Proofs.Xv Go.Proofs.Xl Go.RowKit
def u16J0 : Unit → Option (Bool)
 | _ =>
 some true
def u16L1 (a0 : List Int) (a1 : List Int) (g1 : Int → Option (Bool)) : Int → Option (Bool)
 | v0 =>
 if (decide (v0 < (↑a0.length : Int))) = true then
  gd (ix v0 a0.length ∧ ix v0 a1.length ∧ True) <| 
  if (a0.getD v0.toNat 0 != a1.getD v0.toNat 0) = true then
   some false
  else
   gd (in64 (v0 + 1) ∧ True) <| 
   g1 (v0 + 1)
 else
  u16J0 ()
def u16 (a0 : List Int) (a1 : List Int) : Option (Bool) :=
 if ((↑a0.length : Int) != (↑a1.length : Int)) = true then
  some false
 else
  lp (u16L1 a0 a1) 0
def k16 : Ct := lct 16 [.dat i64.sl, .dat i64.sl] (fun x => u16 x.1 x.2.1) (fun r : Bool => B r) (fun _ => ())
theorem o16 : Ok Tryz.prog k16 := by
 refine okl tok [.tmp 4] Tryz.func16 Tryz.ntmps16 rfl Tryz.results16 (by kernel_rfl) rfl ?_
 intro y ⟨a0, a1, _⟩ r H Q hn hr
 have hT := @tn Tryz.prog
 refine qa tok hT [0, 1] (St.mk [p 0 (L i64 a0), p 1 (L i64 a1)] []) (by kernel_rfl) ?_
 refine vx_seq <| ?_
 refine qa tok hT [0, 1, 10] (St.mk [p 0 (L i64 a0), p 1 (L i64 a1), p 10 (B ((↑a0.length : Int) != (↑a1.length : Int)))] []) (by kernel_rfl) ?_
 refine cd H (by kernel_rfl) (fun H => ?_) (fun H => ?_)
 ·refine qa tok hT [4] (St.mk [p 4 (B false)] []) (by kernel_rfl) ?_
  exact vx_ret <| fx_seq_ret <| hr H (by kernel_rfl)
 refine vx_skip <| fx_seq <| ?_
 refine jn r (fun (_ : Unit) => St.mk [] []) (u16J0) (fun _ H => ?_) (fun _ n0 e0 t0 => ?_)
 ·refine qa tok hT [4] (St.mk [p 4 (B true)] []) (by kernel_rfl) ?_
  exact vx_ret <| hr H (by kernel_rfl)
 refine qa tok hT [0, 1, 5] (St.mk [p 0 (L i64 a0), p 1 (L i64 a1), p 5 (I 0)] []) (by kernel_rfl) ?_
 refine vx_block <| ?_
 refine lx (fun (v0 : Int) => St.mk [p 0 (L i64 a0), p 1 (L i64 a1), p 5 (I v0)] []) 0 H (by kernel_rfl) fun _ g1 b1 e1 t1 v0 H => ?_
 refine vx_seq <| ?_
 refine qa tok hT [0, 1, 5, 14] (St.mk [p 0 (L i64 a0), p 1 (L i64 a1), p 5 (I v0), p 14 (B (decide (v0 < (↑a0.length : Int))))] []) (by kernel_rfl) ?_
 refine cd H (by kernel_rfl) (fun H => ?_) (fun H => ?_)
 ·refine vx_skip <| fx_seq <| vx_seq <| vx_block <| ?_
  refine qb tok hT [0, 1, 5, 25] (St.mk [p 0 (L i64 a0), p 1 (L i64 a1), p 5 (I v0), p 25 (B (a0.getD v0.toNat 0 != a1.getD v0.toNat 0))] []) H (by kernel_rfl) fun H => ?_
  refine cd H (by kernel_rfl) (fun H => ?_) (fun H => ?_)
  ·refine qa tok hT [4] (St.mk [p 4 (B false)] []) (by kernel_rfl) ?_
   exact vx_ret <| fx_blk_ret <| fx_seq_ret <| t1 <| fx_blk_ret <| t0 <| hr H (by kernel_rfl)
  refine vx_skip <| fx_blk <| fx_seq <| ?_
  refine zb tok hT [0, 1, 5] (St.mk [p 0 (L i64 a0), p 1 (L i64 a1), p 5 (I (v0 + 1))] []) H (by kernel_rfl) fun H => ?_
  exact b1 H (by kernel_rfl)
 exact vx_exit <| fx_seq_exit <| e1 <| fx_blk_exit rfl <| n0 H (by kernel_rfl)
def u39 (a0 : Y52) (a1 : Y52) : Option (Bool) :=
 gd ((u16 a0.1 a1.1).isSome = true ∧ True) <| 
 if (!vl (u16 a0.1 a1.1)) = true then
  some false
 else
  gd ((u16 a0.2.1 a1.2.1).isSome = true ∧ True) <| 
  if (!vl (u16 a0.2.1 a1.2.1)) = true then
   some false
  else
   gd ((u16 a0.2.2.1 a1.2.2.1).isSome = true ∧ True) <| 
   if (!vl (u16 a0.2.2.1 a1.2.2.1)) = true then
    some false
   else
    gd ((u16 a0.2.2.2 a1.2.2.2).isSome = true ∧ True) <| 
    if (!vl (u16 a0.2.2.2 a1.2.2.2)) = true then
     some false
    else
     some true
def k39 : Ct := lct 39 [.agg y52, .agg y52] (fun x => u39 x.1 x.2.1) (fun r : Bool => B r) (fun _ => ())
theorem o39 : Ok Tryz.prog k39 := by
 refine okl tok [.tmp 4] Tryz.func39 Tryz.ntmps39 rfl Tryz.results39 (by kernel_rfl) rfl ?_
 intro y ⟨a0, a1, _⟩ r H Q hn hr
 have hT := tc o16 tn
 refine qa tok hT [2, 3] (St.mk [p 2 (AV.ptr 2 0), p 3 (AV.ptr 3 0)] [(3, Ob.box 52 (cellsD false y52 a1)), (2, Ob.box 52 (cellsD false y52 a0))]) (by kernel_rfl) ?_
 refine vx_seq <| ?_
 refine qb tok hT [2, 3, 10] (St.mk [p 2 (AV.ptr 2 0), p 3 (AV.ptr 3 0), p 10 (B !vl (u16 a0.1 a1.1))] [(3, Ob.box 52 (cellsD false y52 a1)), (2, Ob.box 52 (cellsD false y52 a0))]) H (by kernel_rfl) fun H => ?_
 refine cd H (by kernel_rfl) (fun H => ?_) (fun H => ?_)
 ·refine qa tok hT [4] (St.mk [p 4 (B false)] [(3, Ob.box 52 (cellsD false y52 a1)), (2, Ob.box 52 (cellsD false y52 a0))]) (by kernel_rfl) ?_
  exact vx_ret <| fx_seq_ret <| hr H (by kernel_rfl)
 refine vx_skip <| fx_seq <| vx_seq <| ?_
 refine qb tok hT [2, 3, 16] (St.mk [p 2 (AV.ptr 2 0), p 3 (AV.ptr 3 0), p 16 (B !vl (u16 a0.2.1 a1.2.1))] [(3, Ob.box 52 (cellsD false y52 a1)), (2, Ob.box 52 (cellsD false y52 a0))]) H (by kernel_rfl) fun H => ?_
 refine cd H (by kernel_rfl) (fun H => ?_) (fun H => ?_)
 ·refine qa tok hT [4] (St.mk [p 4 (B false)] [(3, Ob.box 52 (cellsD false y52 a1)), (2, Ob.box 52 (cellsD false y52 a0))]) (by kernel_rfl) ?_
  exact vx_ret <| fx_seq_ret <| hr H (by kernel_rfl)
 refine vx_skip <| fx_seq <| vx_seq <| ?_
 refine qb tok hT [2, 3, 22] (St.mk [p 2 (AV.ptr 2 0), p 3 (AV.ptr 3 0), p 22 (B !vl (u16 a0.2.2.1 a1.2.2.1))] [(3, Ob.box 52 (cellsD false y52 a1)), (2, Ob.box 52 (cellsD false y52 a0))]) H (by kernel_rfl) fun H => ?_
 refine cd H (by kernel_rfl) (fun H => ?_) (fun H => ?_)
 ·refine qa tok hT [4] (St.mk [p 4 (B false)] [(3, Ob.box 52 (cellsD false y52 a1)), (2, Ob.box 52 (cellsD false y52 a0))]) (by kernel_rfl) ?_
  exact vx_ret <| fx_seq_ret <| hr H (by kernel_rfl)
 refine vx_skip <| fx_seq <| vx_seq <| ?_
 refine qb tok hT [28] (St.mk [p 28 (B !vl (u16 a0.2.2.2 a1.2.2.2))] [(3, Ob.box 52 (cellsD false y52 a1)), (2, Ob.box 52 (cellsD false y52 a0))]) H (by kernel_rfl) fun H => ?_
 refine cd H (by kernel_rfl) (fun H => ?_) (fun H => ?_)
 ·refine qa tok hT [4] (St.mk [p 4 (B false)] [(3, Ob.box 52 (cellsD false y52 a1)), (2, Ob.box 52 (cellsD false y52 a0))]) (by kernel_rfl) ?_
  exact vx_ret <| fx_seq_ret <| hr H (by kernel_rfl)
 refine vx_skip <| fx_seq <| ?_
 refine qa tok hT [4] (St.mk [p 4 (B true)] [(3, Ob.box 52 (cellsD false y52 a1)), (2, Ob.box 52 (cellsD false y52 a0))]) (by kernel_rfl) ?_
 exact vx_ret <| hr H (by kernel_rfl)
def u13 (a0 : Y54) (a1 : Y54) : Option (Bool) :=
 if (a0.1 != a1.1) = true then
  some false
 else
  if (a0.2.1 != a1.2.1) = true then
   some false
  else
   if (a0.2.2.1 != a1.2.2.1) = true then
    some false
   else
    if (a0.2.2.2.1 != a1.2.2.2.1) = true then
     some false
    else
     if (a0.2.2.2.2.1 != a1.2.2.2.2.1) = true then
      some false
     else
      if (!decide (a0.2.2.2.2.2.1 = a1.2.2.2.2.2.1)) = true then
       some false
      else
       gd ((u39 a0.2.2.2.2.2.2 a1.2.2.2.2.2.2).isSome = true ∧ True) <| 
       if (!vl (u39 a0.2.2.2.2.2.2 a1.2.2.2.2.2.2)) = true then
        some false
       else
        some true
def k13 : Ct := lct 13 [.agg y54, .agg y54] (fun x => u13 x.1 x.2.1) (fun r : Bool => B r) (fun _ => ())
theorem o13 : Ok Tryz.prog k13 := by
 refine okl tok [.tmp 4] Tryz.func13 Tryz.ntmps13 rfl Tryz.results13 (by kernel_rfl) rfl ?_
 intro y ⟨a0, a1, _⟩ r H Q hn hr
 have hT := tc o39 tn
 refine qa tok hT [2, 3] (St.mk [p 2 (AV.ptr 2 0), p 3 (AV.ptr 3 0)] [(3, Ob.box 54 (cellsD false y54 a1)), (2, Ob.box 54 (cellsD false y54 a0))]) (by kernel_rfl) ?_
 refine vx_seq <| ?_
 refine qa tok hT [2, 3, 9] (St.mk [p 2 (AV.ptr 2 0), p 3 (AV.ptr 3 0), p 9 (B (a0.1 != a1.1))] [(3, Ob.box 54 (cellsD false y54 a1)), (2, Ob.box 54 (cellsD false y54 a0))]) (by kernel_rfl) ?_
 refine cd H (by kernel_rfl) (fun H => ?_) (fun H => ?_)
 ·refine qa tok hT [4] (St.mk [p 4 (B false)] [(3, Ob.box 54 (cellsD false y54 a1)), (2, Ob.box 54 (cellsD false y54 a0))]) (by kernel_rfl) ?_
  exact vx_ret <| fx_seq_ret <| hr H (by kernel_rfl)
 refine vx_skip <| fx_seq <| vx_seq <| ?_
 refine qa tok hT [2, 3, 14] (St.mk [p 2 (AV.ptr 2 0), p 3 (AV.ptr 3 0), p 14 (B (a0.2.1 != a1.2.1))] [(3, Ob.box 54 (cellsD false y54 a1)), (2, Ob.box 54 (cellsD false y54 a0))]) (by kernel_rfl) ?_
 refine cd H (by kernel_rfl) (fun H => ?_) (fun H => ?_)
 ·refine qa tok hT [4] (St.mk [p 4 (B false)] [(3, Ob.box 54 (cellsD false y54 a1)), (2, Ob.box 54 (cellsD false y54 a0))]) (by kernel_rfl) ?_
  exact vx_ret <| fx_seq_ret <| hr H (by kernel_rfl)
 refine vx_skip <| fx_seq <| vx_seq <| ?_
 refine qa tok hT [2, 3, 19] (St.mk [p 2 (AV.ptr 2 0), p 3 (AV.ptr 3 0), p 19 (B (a0.2.2.1 != a1.2.2.1))] [(3, Ob.box 54 (cellsD false y54 a1)), (2, Ob.box 54 (cellsD false y54 a0))]) (by kernel_rfl) ?_
 refine cd H (by kernel_rfl) (fun H => ?_) (fun H => ?_)
 ·refine qa tok hT [4] (St.mk [p 4 (B false)] [(3, Ob.box 54 (cellsD false y54 a1)), (2, Ob.box 54 (cellsD false y54 a0))]) (by kernel_rfl) ?_
  exact vx_ret <| fx_seq_ret <| hr H (by kernel_rfl)
 refine vx_skip <| fx_seq <| vx_seq <| ?_
 refine qa tok hT [2, 3, 24] (St.mk [p 2 (AV.ptr 2 0), p 3 (AV.ptr 3 0), p 24 (B (a0.2.2.2.1 != a1.2.2.2.1))] [(3, Ob.box 54 (cellsD false y54 a1)), (2, Ob.box 54 (cellsD false y54 a0))]) (by kernel_rfl) ?_
 refine cd H (by kernel_rfl) (fun H => ?_) (fun H => ?_)
 ·refine qa tok hT [4] (St.mk [p 4 (B false)] [(3, Ob.box 54 (cellsD false y54 a1)), (2, Ob.box 54 (cellsD false y54 a0))]) (by kernel_rfl) ?_
  exact vx_ret <| fx_seq_ret <| hr H (by kernel_rfl)
 refine vx_skip <| fx_seq <| vx_seq <| ?_
 refine qa tok hT [2, 3, 29] (St.mk [p 2 (AV.ptr 2 0), p 3 (AV.ptr 3 0), p 29 (B (a0.2.2.2.2.1 != a1.2.2.2.2.1))] [(3, Ob.box 54 (cellsD false y54 a1)), (2, Ob.box 54 (cellsD false y54 a0))]) (by kernel_rfl) ?_
 refine cd H (by kernel_rfl) (fun H => ?_) (fun H => ?_)
 ·refine qa tok hT [4] (St.mk [p 4 (B false)] [(3, Ob.box 54 (cellsD false y54 a1)), (2, Ob.box 54 (cellsD false y54 a0))]) (by kernel_rfl) ?_
  exact vx_ret <| fx_seq_ret <| hr H (by kernel_rfl)
 refine vx_skip <| fx_seq <| vx_seq <| ?_
 refine qa tok hT [2, 3, 34] (St.mk [p 2 (AV.ptr 2 0), p 3 (AV.ptr 3 0), p 34 (B !decide (a0.2.2.2.2.2.1 = a1.2.2.2.2.2.1))] [(3, Ob.box 54 (cellsD false y54 a1)), (2, Ob.box 54 (cellsD false y54 a0))]) (by kernel_rfl) ?_
 refine cd H (by kernel_rfl) (fun H => ?_) (fun H => ?_)
 ·refine qa tok hT [4] (St.mk [p 4 (B false)] [(3, Ob.box 54 (cellsD false y54 a1)), (2, Ob.box 54 (cellsD false y54 a0))]) (by kernel_rfl) ?_
  exact vx_ret <| fx_seq_ret <| hr H (by kernel_rfl)
 refine vx_skip <| fx_seq <| vx_seq <| ?_
 refine qb tok hT [40] (St.mk [p 40 (B !vl (u39 a0.2.2.2.2.2.2 a1.2.2.2.2.2.2))] [(3, Ob.box 54 (cellsD false y54 a1)), (2, Ob.box 54 (cellsD false y54 a0))]) H (by kernel_rfl) fun H => ?_
 refine cd H (by kernel_rfl) (fun H => ?_) (fun H => ?_)
 ·refine qa tok hT [4] (St.mk [p 4 (B false)] [(3, Ob.box 54 (cellsD false y54 a1)), (2, Ob.box 54 (cellsD false y54 a0))]) (by kernel_rfl) ?_
  exact vx_ret <| fx_seq_ret <| hr H (by kernel_rfl)
 refine vx_skip <| fx_seq <| ?_
 refine qa tok hT [4] (St.mk [p 4 (B true)] [(3, Ob.box 54 (cellsD false y54 a1)), (2, Ob.box 54 (cellsD false y54 a0))]) (by kernel_rfl) ?_
 exact vx_ret <| hr H (by kernel_rfl)
def u72J0 : List Int → Option (List Int)
 | v3 =>
 some v3
def u72L1 (a0 : List Int) (g1 : Int × List Int → Option (List Int)) : Int × List Int → Option (List Int)
 | (v1, v2) =>
 if (decide (v1 < (↑a0.length : Int))) = true then
  gd (ix v1 a0.length ∧ ix v1 v2.length ∧ v1.toNat < v2.length ∧ True) <| 
  gd (in64 (v1 + 1) ∧ True) <| 
  g1 ((v1 + 1, v2.set v1.toNat (a0.getD v1.toNat 0)))
 else
  u72J0 v2
def u72 (a0 : List Int) : Option (List Int) :=
 gd ((0 ≤ (↑a0.length : Int) ∧ (↑a0.length : Int) = (↑a0.length : Int) ∧ (↑a0.length : Int).toNat * 8 ≤ 281474976710656 ∧ (↑a0.length : Int) ≤ 9223372036854775807) ∧ True) <| 
 lp (u72L1 a0) ((0, List.replicate (↑a0.length : Int).toNat 0))
def k72 : Ct := lct 72 [.dat i64.sl] (fun x => u72 x.1) (fun r : List Int => AV.ow 2 true i64 r) (fun _ => ())
theorem o72 : Ok Tryz.prog k72 := by
 refine okl tok [.tmp 2] Tryz.func72 Tryz.ntmps72 rfl Tryz.results72 (by kernel_rfl) rfl ?_
 intro y ⟨a0, _⟩ r H Q hn hr
 have hT := @tn Tryz.prog
 refine qa tok hT [0] (St.mk [p 0 (L i64 a0)] []) (by kernel_rfl) ?_
 refine qb tok hT [0, 3] (St.mk [p 0 (L i64 a0), p 3 (AV.os 7 0)] [(7, Ob.arr 2 true i64 (List.replicate (↑a0.length : Int).toNat 0) 0)]) H (by kernel_rfl) fun H => ?_
 refine jn r (fun (v3 : List Int) => St.mk [p 3 (AV.os 7 0)] [(7, Ob.arr 2 true i64 v3 0)]) (u72J0) (fun v3 H => ?_) (fun _ n0 e0 t0 => ?_)
 ·refine qa tok hT [2] (St.mk [p 2 (AV.os 7 0)] [(7, Ob.arr 2 true i64 v3 0)]) (by kernel_rfl) ?_
  exact vx_ret <| hr H (by kernel_rfl)
 refine qa tok hT [0, 3, 4] (St.mk [p 0 (L i64 a0), p 3 (AV.os 7 0), p 4 (I 0)] [(7, Ob.arr 2 true i64 (List.replicate (↑a0.length : Int).toNat 0) 0)]) (by kernel_rfl) ?_
 refine vx_block <| ?_
 refine lx (fun ((v1, v2) : Int × List Int) => St.mk [p 0 (L i64 a0), p 3 (AV.os 7 0), p 4 (I v1)] [(7, Ob.arr 2 true i64 v2 0)]) ((0, List.replicate (↑a0.length : Int).toNat 0)) H (by kernel_rfl) fun _ g1 b1 e1 t1 ⟨v1, v2⟩ H => ?_
 refine vx_seq <| ?_
 refine qa tok hT [0, 3, 4, 11] (St.mk [p 0 (L i64 a0), p 3 (AV.os 7 0), p 4 (I v1), p 11 (B (decide (v1 < (↑a0.length : Int))))] [(7, Ob.arr 2 true i64 v2 0)]) (by kernel_rfl) ?_
 refine cd H (by kernel_rfl) (fun H => ?_) (fun H => ?_)
 ·refine vx_skip <| fx_seq <| vx_seq <| vx_block <| ?_
  refine zb tok hT [0, 3, 4] (St.mk [p 0 (L i64 a0), p 3 (AV.os 7 0), p 4 (I v1)] [(7, Ob.arr 2 true i64 (v2.set v1.toNat (a0.getD v1.toNat 0)) 0)]) H (by kernel_rfl) fun H => ?_
  refine fx_blk <| fx_seq <| ?_
  refine zb tok hT [0, 3, 4] (St.mk [p 0 (L i64 a0), p 3 (AV.os 7 0), p 4 (I (v1 + 1))] [(7, Ob.arr 2 true i64 (v2.set v1.toNat (a0.getD v1.toNat 0)) 0)]) H (by kernel_rfl) fun H => ?_
  exact b1 H (by kernel_rfl)
 exact vx_exit <| fx_seq_exit <| e1 <| fx_blk_exit rfl <| n0 H (by kernel_rfl)
def u33 (a0 : Y35) : Option (Y52) :=
 gd ((u72 a0.1).isSome = true ∧ True) <| lt (vl (u72 a0.1)) fun v0 =>
 gd ((u72 a0.2.1).isSome = true ∧ True) <| lt (vl (u72 a0.2.1)) fun v1 =>
 gd ((u72 a0.2.2.1).isSome = true ∧ True) <| lt (vl (u72 a0.2.2.1)) fun v2 =>
 gd ((u72 a0.2.2.2).isSome = true ∧ True) <| lt (vl (u72 a0.2.2.2)) fun v3 =>
 some (v0, v1, v2, v3)
def k33 : Ct := lct 33 [.agg y35] (fun x => u33 x.1) (fun r : Y52 => AV.agg [AV.ow 2 true i64 r.1, AV.ow 2 true i64 r.2.1, AV.ow 2 true i64 r.2.2.1, AV.ow 2 true i64 r.2.2.2]) (fun _ => ())
theorem o33 : Ok Tryz.prog k33 := by
 refine okl tok [.cell 2 52] Tryz.func33 Tryz.ntmps33 rfl Tryz.results33 (by kernel_rfl) rfl ?_
 intro y ⟨a0, _⟩ r H Q hn hr
 have hT := tc o72 tn
 refine qa tok hT [1, 2] (St.mk [p 1 (AV.ptr 1 0), p 2 (AV.ptr 2 0)] [(2, Ob.box 52 [AV.v (Value.slice none 0 0), AV.v (Value.slice none 0 0), AV.v (Value.slice none 0 0), AV.v (Value.slice none 0 0)]), (1, Ob.box 35 (cellsD false y35 a0))]) (by kernel_rfl) ?_
 refine qa tok hT [1, 2, 3] (St.mk [p 1 (AV.ptr 1 0), p 2 (AV.ptr 2 0), p 3 (AV.ptr 3 0)] [(3, Ob.box 52 [AV.v (Value.slice none 0 0), AV.v (Value.slice none 0 0), AV.v (Value.slice none 0 0), AV.v (Value.slice none 0 0)]), (2, Ob.box 52 [AV.v (Value.slice none 0 0), AV.v (Value.slice none 0 0), AV.v (Value.slice none 0 0), AV.v (Value.slice none 0 0)]), (1, Ob.box 35 (cellsD false y35 a0))]) (by kernel_rfl) ?_
 refine qd tok hT [1, 2, 3] (fun v0 => St.mk [p 1 (AV.ptr 1 0), p 2 (AV.ptr 2 0), p 3 (AV.ptr 3 0)] [(3, Ob.box 52 [AV.os 6 0, AV.v (Value.slice none 0 0), AV.v (Value.slice none 0 0), AV.v (Value.slice none 0 0)]), (6, Ob.arr 2 true i64 v0 0), (2, Ob.box 52 [AV.v (Value.slice none 0 0), AV.v (Value.slice none 0 0), AV.v (Value.slice none 0 0), AV.v (Value.slice none 0 0)]), (1, Ob.box 35 (cellsD false y35 a0))]) H (by kernel_rfl) fun v0 H => ?_
 refine qd tok hT [1, 2, 3] (fun v1 => St.mk [p 1 (AV.ptr 1 0), p 2 (AV.ptr 2 0), p 3 (AV.ptr 3 0)] [(3, Ob.box 52 [AV.os 6 0, AV.os 10 0, AV.v (Value.slice none 0 0), AV.v (Value.slice none 0 0)]), (10, Ob.arr 2 true i64 v1 0), (6, Ob.arr 2 true i64 v0 0), (2, Ob.box 52 [AV.v (Value.slice none 0 0), AV.v (Value.slice none 0 0), AV.v (Value.slice none 0 0), AV.v (Value.slice none 0 0)]), (1, Ob.box 35 (cellsD false y35 a0))]) H (by kernel_rfl) fun v1 H => ?_
 refine qd tok hT [1, 2, 3] (fun v2 => St.mk [p 1 (AV.ptr 1 0), p 2 (AV.ptr 2 0), p 3 (AV.ptr 3 0)] [(3, Ob.box 52 [AV.os 6 0, AV.os 10 0, AV.os 14 0, AV.v (Value.slice none 0 0)]), (14, Ob.arr 2 true i64 v2 0), (10, Ob.arr 2 true i64 v1 0), (6, Ob.arr 2 true i64 v0 0), (2, Ob.box 52 [AV.v (Value.slice none 0 0), AV.v (Value.slice none 0 0), AV.v (Value.slice none 0 0), AV.v (Value.slice none 0 0)]), (1, Ob.box 35 (cellsD false y35 a0))]) H (by kernel_rfl) fun v2 H => ?_
 refine qd tok hT [2, 3] (fun v3 => St.mk [p 2 (AV.ptr 2 0), p 3 (AV.ptr 3 0)] [(3, Ob.box 52 [AV.os 6 0, AV.os 10 0, AV.os 14 0, AV.os 18 0]), (18, Ob.arr 2 true i64 v3 0), (14, Ob.arr 2 true i64 v2 0), (10, Ob.arr 2 true i64 v1 0), (6, Ob.arr 2 true i64 v0 0), (2, Ob.box 52 [AV.v (Value.slice none 0 0), AV.v (Value.slice none 0 0), AV.v (Value.slice none 0 0), AV.v (Value.slice none 0 0)]), (1, Ob.box 35 (cellsD false y35 a0))]) H (by kernel_rfl) fun v3 H => ?_
 refine qa tok hT [2] (St.mk [p 2 (AV.ptr 2 0)] [(2, Ob.box 52 [AV.os 6 0, AV.os 10 0, AV.os 14 0, AV.os 18 0]), (3, Ob.box 52 [AV.os 6 0, AV.os 10 0, AV.os 14 0, AV.os 18 0]), (18, Ob.arr 2 true i64 v3 0), (14, Ob.arr 2 true i64 v2 0), (10, Ob.arr 2 true i64 v1 0), (6, Ob.arr 2 true i64 v0 0), (1, Ob.box 35 (cellsD false y35 a0))]) (by kernel_rfl) ?_
 exact vx_ret <| hr H (by kernel_rfl)
def k33d : Ct := lct 33 [.agg y35] (fun x => u33 x.1) (fun r => frz ((fun r : Y52 => AV.agg [AV.ow 2 true i64 r.1, AV.ow 2 true i64 r.2.1, AV.ow 2 true i64 r.2.2.1, AV.ow 2 true i64 r.2.2.2]) r)) (fun _ => ())
theorem o33d : Ok Tryz.prog k33d := ok_frz o33
def u10 (a0 : Y37) : Option (Y54) :=
 gd ((u33 a0.2.2.2.2.2.2).isSome = true ∧ True) <| lt (vl (u33 a0.2.2.2.2.2.2)) fun v0 =>
 some (a0.1, a0.2.1, a0.2.2.1, a0.2.2.2.1, a0.2.2.2.2.1, a0.2.2.2.2.2.1, v0)
def k10 : Ct := lct 10 [.agg y37] (fun x => u10 x.1) (fun r : Y54 => AV.agg [I r.1, I r.2.1, I r.2.2.1, I r.2.2.2.1, I r.2.2.2.2.1, S r.2.2.2.2.2.1, AV.ow 2 true i64 r.2.2.2.2.2.2.1, AV.ow 2 true i64 r.2.2.2.2.2.2.2.1, AV.ow 2 true i64 r.2.2.2.2.2.2.2.2.1, AV.ow 2 true i64 r.2.2.2.2.2.2.2.2.2]) (fun _ => ())
theorem o10 : Ok Tryz.prog k10 := by
 refine okl tok [.cell 2 54] Tryz.func10 Tryz.ntmps10 rfl Tryz.results10 (by kernel_rfl) rfl ?_
 intro y ⟨a0, _⟩ r H Q hn hr
 have hT := tc o33 tn
 refine qa tok hT [1, 2] (St.mk [p 1 (AV.ptr 1 0), p 2 (AV.ptr 2 0)] [(2, Ob.box 54 [I 0, I 0, I 0, I 0, I 0, S (ByteArray.mk #[]), AV.v (Value.slice none 0 0), AV.v (Value.slice none 0 0), AV.v (Value.slice none 0 0), AV.v (Value.slice none 0 0)]), (1, Ob.box 37 (cellsD false y37 a0))]) (by kernel_rfl) ?_
 refine qa tok hT [1, 2, 3] (St.mk [p 1 (AV.ptr 1 0), p 2 (AV.ptr 2 0), p 3 (AV.ptr 3 0)] [(3, Ob.box 54 [I 0, I 0, I 0, I 0, I 0, S (ByteArray.mk #[]), AV.v (Value.slice none 0 0), AV.v (Value.slice none 0 0), AV.v (Value.slice none 0 0), AV.v (Value.slice none 0 0)]), (2, Ob.box 54 [I 0, I 0, I 0, I 0, I 0, S (ByteArray.mk #[]), AV.v (Value.slice none 0 0), AV.v (Value.slice none 0 0), AV.v (Value.slice none 0 0), AV.v (Value.slice none 0 0)]), (1, Ob.box 37 (cellsD false y37 a0))]) (by kernel_rfl) ?_
 refine qa tok hT [1, 2, 3] (St.mk [p 1 (AV.ptr 1 0), p 2 (AV.ptr 2 0), p 3 (AV.ptr 3 0)] [(3, Ob.box 54 [J a0.1, I 0, I 0, I 0, I 0, S (ByteArray.mk #[]), AV.v (Value.slice none 0 0), AV.v (Value.slice none 0 0), AV.v (Value.slice none 0 0), AV.v (Value.slice none 0 0)]), (2, Ob.box 54 [I 0, I 0, I 0, I 0, I 0, S (ByteArray.mk #[]), AV.v (Value.slice none 0 0), AV.v (Value.slice none 0 0), AV.v (Value.slice none 0 0), AV.v (Value.slice none 0 0)]), (1, Ob.box 37 (cellsD false y37 a0))]) (by kernel_rfl) ?_
 refine qa tok hT [1, 2, 3] (St.mk [p 1 (AV.ptr 1 0), p 2 (AV.ptr 2 0), p 3 (AV.ptr 3 0)] [(3, Ob.box 54 [J a0.1, J a0.2.1, I 0, I 0, I 0, S (ByteArray.mk #[]), AV.v (Value.slice none 0 0), AV.v (Value.slice none 0 0), AV.v (Value.slice none 0 0), AV.v (Value.slice none 0 0)]), (2, Ob.box 54 [I 0, I 0, I 0, I 0, I 0, S (ByteArray.mk #[]), AV.v (Value.slice none 0 0), AV.v (Value.slice none 0 0), AV.v (Value.slice none 0 0), AV.v (Value.slice none 0 0)]), (1, Ob.box 37 (cellsD false y37 a0))]) (by kernel_rfl) ?_
 refine qa tok hT [1, 2, 3] (St.mk [p 1 (AV.ptr 1 0), p 2 (AV.ptr 2 0), p 3 (AV.ptr 3 0)] [(3, Ob.box 54 [J a0.1, J a0.2.1, J a0.2.2.1, I 0, I 0, S (ByteArray.mk #[]), AV.v (Value.slice none 0 0), AV.v (Value.slice none 0 0), AV.v (Value.slice none 0 0), AV.v (Value.slice none 0 0)]), (2, Ob.box 54 [I 0, I 0, I 0, I 0, I 0, S (ByteArray.mk #[]), AV.v (Value.slice none 0 0), AV.v (Value.slice none 0 0), AV.v (Value.slice none 0 0), AV.v (Value.slice none 0 0)]), (1, Ob.box 37 (cellsD false y37 a0))]) (by kernel_rfl) ?_
 refine qa tok hT [1, 2, 3] (St.mk [p 1 (AV.ptr 1 0), p 2 (AV.ptr 2 0), p 3 (AV.ptr 3 0)] [(3, Ob.box 54 [J a0.1, J a0.2.1, J a0.2.2.1, J a0.2.2.2.1, I 0, S (ByteArray.mk #[]), AV.v (Value.slice none 0 0), AV.v (Value.slice none 0 0), AV.v (Value.slice none 0 0), AV.v (Value.slice none 0 0)]), (2, Ob.box 54 [I 0, I 0, I 0, I 0, I 0, S (ByteArray.mk #[]), AV.v (Value.slice none 0 0), AV.v (Value.slice none 0 0), AV.v (Value.slice none 0 0), AV.v (Value.slice none 0 0)]), (1, Ob.box 37 (cellsD false y37 a0))]) (by kernel_rfl) ?_
 refine qa tok hT [1, 2, 3] (St.mk [p 1 (AV.ptr 1 0), p 2 (AV.ptr 2 0), p 3 (AV.ptr 3 0)] [(3, Ob.box 54 [J a0.1, J a0.2.1, J a0.2.2.1, J a0.2.2.2.1, J a0.2.2.2.2.1, S (ByteArray.mk #[]), AV.v (Value.slice none 0 0), AV.v (Value.slice none 0 0), AV.v (Value.slice none 0 0), AV.v (Value.slice none 0 0)]), (2, Ob.box 54 [I 0, I 0, I 0, I 0, I 0, S (ByteArray.mk #[]), AV.v (Value.slice none 0 0), AV.v (Value.slice none 0 0), AV.v (Value.slice none 0 0), AV.v (Value.slice none 0 0)]), (1, Ob.box 37 (cellsD false y37 a0))]) (by kernel_rfl) ?_
 refine qa tok hT [1, 2, 3] (St.mk [p 1 (AV.ptr 1 0), p 2 (AV.ptr 2 0), p 3 (AV.ptr 3 0)] [(3, Ob.box 54 [J a0.1, J a0.2.1, J a0.2.2.1, J a0.2.2.2.1, J a0.2.2.2.2.1, U a0.2.2.2.2.2.1, AV.v (Value.slice none 0 0), AV.v (Value.slice none 0 0), AV.v (Value.slice none 0 0), AV.v (Value.slice none 0 0)]), (2, Ob.box 54 [I 0, I 0, I 0, I 0, I 0, S (ByteArray.mk #[]), AV.v (Value.slice none 0 0), AV.v (Value.slice none 0 0), AV.v (Value.slice none 0 0), AV.v (Value.slice none 0 0)]), (1, Ob.box 37 (cellsD false y37 a0))]) (by kernel_rfl) ?_
 refine qd tok hT [2, 3] (fun v0 => St.mk [p 2 (AV.ptr 2 0), p 3 (AV.ptr 3 0)] [(3, Ob.box 54 [J a0.1, J a0.2.1, J a0.2.2.1, J a0.2.2.2.1, J a0.2.2.2.2.1, U a0.2.2.2.2.2.1, AV.os 24 0, AV.os 1024 0, AV.os 2024 0, AV.os 3024 0]), (3024, Ob.arr 2 true i64 v0.2.2.2 0), (2024, Ob.arr 2 true i64 v0.2.2.1 0), (1024, Ob.arr 2 true i64 v0.2.1 0), (24, Ob.arr 2 true i64 v0.1 0), (2, Ob.box 54 [I 0, I 0, I 0, I 0, I 0, S (ByteArray.mk #[]), AV.v (Value.slice none 0 0), AV.v (Value.slice none 0 0), AV.v (Value.slice none 0 0), AV.v (Value.slice none 0 0)]), (1, Ob.box 37 (cellsD false y37 a0))]) H (by kernel_rfl) fun v0 H => ?_
 refine qa tok hT [2] (St.mk [p 2 (AV.ptr 2 0)] [(2, Ob.box 54 [J a0.1, J a0.2.1, J a0.2.2.1, J a0.2.2.2.1, J a0.2.2.2.2.1, U a0.2.2.2.2.2.1, AV.os 24 0, AV.os 1024 0, AV.os 2024 0, AV.os 3024 0]), (3, Ob.box 54 [J a0.1, J a0.2.1, J a0.2.2.1, J a0.2.2.2.1, J a0.2.2.2.2.1, U a0.2.2.2.2.2.1, AV.os 24 0, AV.os 1024 0, AV.os 2024 0, AV.os 3024 0]), (3024, Ob.arr 2 true i64 v0.2.2.2 0), (2024, Ob.arr 2 true i64 v0.2.2.1 0), (1024, Ob.arr 2 true i64 v0.2.1 0), (24, Ob.arr 2 true i64 v0.1 0), (1, Ob.box 37 (cellsD false y37 a0))]) (by kernel_rfl) ?_
 exact vx_ret <| hr H (by kernel_rfl)
def u38J0 : Unit → Option (Bool)
 | _ =>
 some true
def u38L1 (a0 : List Y52) (a1 : List Y52) (g1 : Int → Option (Bool)) : Int → Option (Bool)
 | v0 =>
 if (decide (v0 < (↑a0.length : Int))) = true then
  gd (ix v0 a0.length ∧ ix v0 a1.length ∧ (u39 (a0.getD v0.toNat (dflt y52)) (a1.getD v0.toNat (dflt y52))).isSome = true ∧ True) <| 
  if (!vl (u39 (a0.getD v0.toNat (dflt y52)) (a1.getD v0.toNat (dflt y52)))) = true then
   some false
  else
   gd (in64 (v0 + 1) ∧ True) <| 
   g1 (v0 + 1)
 else
  u38J0 ()
def u38 (a0 : List Y52) (a1 : List Y52) : Option (Bool) :=
 if ((↑a0.length : Int) != (↑a1.length : Int)) = true then
  some false
 else
  lp (u38L1 a0 a1) 0
def k38 : Ct := lct 38 [.dat y52.sl, .dat y52.sl] (fun x => u38 x.1 x.2.1) (fun r : Bool => B r) (fun _ => ())
theorem o38 : Ok Tryz.prog k38 := by
 refine okl tok [.tmp 4] Tryz.func38 Tryz.ntmps38 rfl Tryz.results38 (by kernel_rfl) rfl ?_
 intro y ⟨a0, a1, _⟩ r H Q hn hr
 have hT := tc o39 tn
 refine qa tok hT [0, 1] (St.mk [p 0 (L y52 a0), p 1 (L y52 a1)] []) (by kernel_rfl) ?_
 refine vx_seq <| ?_
 refine qa tok hT [0, 1, 10] (St.mk [p 0 (L y52 a0), p 1 (L y52 a1), p 10 (B ((↑a0.length : Int) != (↑a1.length : Int)))] []) (by kernel_rfl) ?_
 refine cd H (by kernel_rfl) (fun H => ?_) (fun H => ?_)
 ·refine qa tok hT [4] (St.mk [p 4 (B false)] []) (by kernel_rfl) ?_
  exact vx_ret <| fx_seq_ret <| hr H (by kernel_rfl)
 refine vx_skip <| fx_seq <| ?_
 refine jn r (fun (_ : Unit) => St.mk [] []) (u38J0) (fun _ H => ?_) (fun _ n0 e0 t0 => ?_)
 ·refine qa tok hT [4] (St.mk [p 4 (B true)] []) (by kernel_rfl) ?_
  exact vx_ret <| hr H (by kernel_rfl)
 refine qa tok hT [0, 1, 5] (St.mk [p 0 (L y52 a0), p 1 (L y52 a1), p 5 (I 0)] []) (by kernel_rfl) ?_
 refine vx_block <| ?_
 refine lx (fun (v0 : Int) => St.mk [p 0 (L y52 a0), p 1 (L y52 a1), p 5 (I v0)] []) 0 H (by kernel_rfl) fun _ g1 b1 e1 t1 v0 H => ?_
 refine vx_seq <| ?_
 refine qa tok hT [0, 1, 5, 14] (St.mk [p 0 (L y52 a0), p 1 (L y52 a1), p 5 (I v0), p 14 (B (decide (v0 < (↑a0.length : Int))))] []) (by kernel_rfl) ?_
 refine cd H (by kernel_rfl) (fun H => ?_) (fun H => ?_)
 ·refine vx_skip <| fx_seq <| vx_seq <| vx_block <| ?_
  refine qb tok hT [0, 1, 5, 26] (St.mk [p 0 (L y52 a0), p 1 (L y52 a1), p 5 (I v0), p 26 (B !vl (u39 (a0.getD v0.toNat (dflt y52)) (a1.getD v0.toNat (dflt y52))))] []) H (by kernel_rfl) fun H => ?_
  refine cd H (by kernel_rfl) (fun H => ?_) (fun H => ?_)
  ·refine qa tok hT [4] (St.mk [p 4 (B false)] []) (by kernel_rfl) ?_
   exact vx_ret <| fx_blk_ret <| fx_seq_ret <| t1 <| fx_blk_ret <| t0 <| hr H (by kernel_rfl)
  refine vx_skip <| fx_blk <| fx_seq <| ?_
  refine zb tok hT [0, 1, 5] (St.mk [p 0 (L y52 a0), p 1 (L y52 a1), p 5 (I (v0 + 1))] []) H (by kernel_rfl) fun H => ?_
  exact b1 H (by kernel_rfl)
 exact vx_exit <| fx_seq_exit <| e1 <| fx_blk_exit rfl <| n0 H (by kernel_rfl)
def u126 (a0 : Y144) (a1 : Y144) : Option (Bool) :=
 if (!decide (a0.1 = a1.1)) = true then
  some false
 else
  if (a0.2.1 != a1.2.1) = true then
   some false
  else
   if (a0.2.2 != a1.2.2) = true then
    some false
   else
    some true
def k126 : Ct := lct 126 [.agg y144, .agg y144] (fun x => u126 x.1 x.2.1) (fun r : Bool => B r) (fun _ => ())
theorem o126 : Ok Tryz.prog k126 := by
 refine okl tok [.tmp 4] Tryz.func126 Tryz.ntmps126 rfl Tryz.results126 (by kernel_rfl) rfl ?_
 intro y ⟨a0, a1, _⟩ r H Q hn hr
 have hT := @tn Tryz.prog
 refine qa tok hT [2, 3] (St.mk [p 2 (AV.ptr 2 0), p 3 (AV.ptr 3 0)] [(3, Ob.box 144 (cellsD false y144 a1)), (2, Ob.box 144 (cellsD false y144 a0))]) (by kernel_rfl) ?_
 refine vx_seq <| ?_
 refine qa tok hT [2, 3, 9] (St.mk [p 2 (AV.ptr 2 0), p 3 (AV.ptr 3 0), p 9 (B !decide (a0.1 = a1.1))] [(3, Ob.box 144 (cellsD false y144 a1)), (2, Ob.box 144 (cellsD false y144 a0))]) (by kernel_rfl) ?_
 refine cd H (by kernel_rfl) (fun H => ?_) (fun H => ?_)
 ·refine qa tok hT [4] (St.mk [p 4 (B false)] [(3, Ob.box 144 (cellsD false y144 a1)), (2, Ob.box 144 (cellsD false y144 a0))]) (by kernel_rfl) ?_
  exact vx_ret <| fx_seq_ret <| hr H (by kernel_rfl)
 refine vx_skip <| fx_seq <| vx_seq <| ?_
 refine qa tok hT [2, 3, 14] (St.mk [p 2 (AV.ptr 2 0), p 3 (AV.ptr 3 0), p 14 (B (a0.2.1 != a1.2.1))] [(3, Ob.box 144 (cellsD false y144 a1)), (2, Ob.box 144 (cellsD false y144 a0))]) (by kernel_rfl) ?_
 refine cd H (by kernel_rfl) (fun H => ?_) (fun H => ?_)
 ·refine qa tok hT [4] (St.mk [p 4 (B false)] [(3, Ob.box 144 (cellsD false y144 a1)), (2, Ob.box 144 (cellsD false y144 a0))]) (by kernel_rfl) ?_
  exact vx_ret <| fx_seq_ret <| hr H (by kernel_rfl)
 refine vx_skip <| fx_seq <| vx_seq <| ?_
 refine qa tok hT [19] (St.mk [p 19 (B (a0.2.2 != a1.2.2))] [(3, Ob.box 144 (cellsD false y144 a1)), (2, Ob.box 144 (cellsD false y144 a0))]) (by kernel_rfl) ?_
 refine cd H (by kernel_rfl) (fun H => ?_) (fun H => ?_)
 ·refine qa tok hT [4] (St.mk [p 4 (B false)] [(3, Ob.box 144 (cellsD false y144 a1)), (2, Ob.box 144 (cellsD false y144 a0))]) (by kernel_rfl) ?_
  exact vx_ret <| fx_seq_ret <| hr H (by kernel_rfl)
 refine vx_skip <| fx_seq <| ?_
 refine qa tok hT [4] (St.mk [p 4 (B true)] [(3, Ob.box 144 (cellsD false y144 a1)), (2, Ob.box 144 (cellsD false y144 a0))]) (by kernel_rfl) ?_
 exact vx_ret <| hr H (by kernel_rfl)
def u81J0 : Unit → Option (Bool)
 | _ =>
 some true
def u81L1 (a0 : List Y144) (a1 : List Y144) (g1 : Int → Option (Bool)) : Int → Option (Bool)
 | v0 =>
 if (decide (v0 < (↑a0.length : Int))) = true then
  gd (ix v0 a0.length ∧ ix v0 a1.length ∧ (u126 (a0.getD v0.toNat (dflt y144)) (a1.getD v0.toNat (dflt y144))).isSome = true ∧ True) <| 
  if (!vl (u126 (a0.getD v0.toNat (dflt y144)) (a1.getD v0.toNat (dflt y144)))) = true then
   some false
  else
   gd (in64 (v0 + 1) ∧ True) <| 
   g1 (v0 + 1)
 else
  u81J0 ()
def u81 (a0 : List Y144) (a1 : List Y144) : Option (Bool) :=
 if ((↑a0.length : Int) != (↑a1.length : Int)) = true then
  some false
 else
  lp (u81L1 a0 a1) 0
def k81 : Ct := lct 81 [.dat y144.sl, .dat y144.sl] (fun x => u81 x.1 x.2.1) (fun r : Bool => B r) (fun _ => ())
theorem o81 : Ok Tryz.prog k81 := by
 refine okl tok [.tmp 4] Tryz.func81 Tryz.ntmps81 rfl Tryz.results81 (by kernel_rfl) rfl ?_
 intro y ⟨a0, a1, _⟩ r H Q hn hr
 have hT := tc o126 tn
 refine qa tok hT [0, 1] (St.mk [p 0 (L y144 a0), p 1 (L y144 a1)] []) (by kernel_rfl) ?_
 refine vx_seq <| ?_
 refine qa tok hT [0, 1, 10] (St.mk [p 0 (L y144 a0), p 1 (L y144 a1), p 10 (B ((↑a0.length : Int) != (↑a1.length : Int)))] []) (by kernel_rfl) ?_
 refine cd H (by kernel_rfl) (fun H => ?_) (fun H => ?_)
 ·refine qa tok hT [4] (St.mk [p 4 (B false)] []) (by kernel_rfl) ?_
  exact vx_ret <| fx_seq_ret <| hr H (by kernel_rfl)
 refine vx_skip <| fx_seq <| ?_
 refine jn r (fun (_ : Unit) => St.mk [] []) (u81J0) (fun _ H => ?_) (fun _ n0 e0 t0 => ?_)
 ·refine qa tok hT [4] (St.mk [p 4 (B true)] []) (by kernel_rfl) ?_
  exact vx_ret <| hr H (by kernel_rfl)
 refine qa tok hT [0, 1, 5] (St.mk [p 0 (L y144 a0), p 1 (L y144 a1), p 5 (I 0)] []) (by kernel_rfl) ?_
 refine vx_block <| ?_
 refine lx (fun (v0 : Int) => St.mk [p 0 (L y144 a0), p 1 (L y144 a1), p 5 (I v0)] []) 0 H (by kernel_rfl) fun _ g1 b1 e1 t1 v0 H => ?_
 refine vx_seq <| ?_
 refine qa tok hT [0, 1, 5, 14] (St.mk [p 0 (L y144 a0), p 1 (L y144 a1), p 5 (I v0), p 14 (B (decide (v0 < (↑a0.length : Int))))] []) (by kernel_rfl) ?_
 refine cd H (by kernel_rfl) (fun H => ?_) (fun H => ?_)
 ·refine vx_skip <| fx_seq <| vx_seq <| vx_block <| ?_
  refine qb tok hT [0, 1, 5, 26] (St.mk [p 0 (L y144 a0), p 1 (L y144 a1), p 5 (I v0), p 26 (B !vl (u126 (a0.getD v0.toNat (dflt y144)) (a1.getD v0.toNat (dflt y144))))] []) H (by kernel_rfl) fun H => ?_
  refine cd H (by kernel_rfl) (fun H => ?_) (fun H => ?_)
  ·refine qa tok hT [4] (St.mk [p 4 (B false)] []) (by kernel_rfl) ?_
   exact vx_ret <| fx_blk_ret <| fx_seq_ret <| t1 <| fx_blk_ret <| t0 <| hr H (by kernel_rfl)
  refine vx_skip <| fx_blk <| fx_seq <| ?_
  refine zb tok hT [0, 1, 5] (St.mk [p 0 (L y144 a0), p 1 (L y144 a1), p 5 (I (v0 + 1))] []) H (by kernel_rfl) fun H => ?_
  exact b1 H (by kernel_rfl)
 exact vx_exit <| fx_seq_exit <| e1 <| fx_blk_exit rfl <| n0 H (by kernel_rfl)
def u80J0 : Unit → Option (Bool)
 | _ =>
 some true
def u80L1 (a0 : List ByteArray) (a1 : List ByteArray) (g1 : Int → Option (Bool)) : Int → Option (Bool)
 | v0 =>
 if (decide (v0 < (↑a0.length : Int))) = true then
  gd (ix v0 a0.length ∧ ix v0 a1.length ∧ True) <| 
  if (!decide (a0.getD v0.toNat (dflt Ty.str) = a1.getD v0.toNat (dflt Ty.str))) = true then
   some false
  else
   gd (in64 (v0 + 1) ∧ True) <| 
   g1 (v0 + 1)
 else
  u80J0 ()
def u80 (a0 : List ByteArray) (a1 : List ByteArray) : Option (Bool) :=
 if ((↑a0.length : Int) != (↑a1.length : Int)) = true then
  some false
 else
  lp (u80L1 a0 a1) 0
def k80 : Ct := lct 80 [.dat Ty.str.sl, .dat Ty.str.sl] (fun x => u80 x.1 x.2.1) (fun r : Bool => B r) (fun _ => ())
theorem o80 : Ok Tryz.prog k80 := by
 refine okl tok [.tmp 4] Tryz.func80 Tryz.ntmps80 rfl Tryz.results80 (by kernel_rfl) rfl ?_
 intro y ⟨a0, a1, _⟩ r H Q hn hr
 have hT := @tn Tryz.prog
 refine qa tok hT [0, 1] (St.mk [p 0 (L Ty.str a0), p 1 (L Ty.str a1)] []) (by kernel_rfl) ?_
 refine vx_seq <| ?_
 refine qa tok hT [0, 1, 10] (St.mk [p 0 (L Ty.str a0), p 1 (L Ty.str a1), p 10 (B ((↑a0.length : Int) != (↑a1.length : Int)))] []) (by kernel_rfl) ?_
 refine cd H (by kernel_rfl) (fun H => ?_) (fun H => ?_)
 ·refine qa tok hT [4] (St.mk [p 4 (B false)] []) (by kernel_rfl) ?_
  exact vx_ret <| fx_seq_ret <| hr H (by kernel_rfl)
 refine vx_skip <| fx_seq <| ?_
 refine jn r (fun (_ : Unit) => St.mk [] []) (u80J0) (fun _ H => ?_) (fun _ n0 e0 t0 => ?_)
 ·refine qa tok hT [4] (St.mk [p 4 (B true)] []) (by kernel_rfl) ?_
  exact vx_ret <| hr H (by kernel_rfl)
 refine qa tok hT [0, 1, 5] (St.mk [p 0 (L Ty.str a0), p 1 (L Ty.str a1), p 5 (I 0)] []) (by kernel_rfl) ?_
 refine vx_block <| ?_
 refine lx (fun (v0 : Int) => St.mk [p 0 (L Ty.str a0), p 1 (L Ty.str a1), p 5 (I v0)] []) 0 H (by kernel_rfl) fun _ g1 b1 e1 t1 v0 H => ?_
 refine vx_seq <| ?_
 refine qa tok hT [0, 1, 5, 14] (St.mk [p 0 (L Ty.str a0), p 1 (L Ty.str a1), p 5 (I v0), p 14 (B (decide (v0 < (↑a0.length : Int))))] []) (by kernel_rfl) ?_
 refine cd H (by kernel_rfl) (fun H => ?_) (fun H => ?_)
 ·refine vx_skip <| fx_seq <| vx_seq <| vx_block <| ?_
  refine qb tok hT [0, 1, 5, 25] (St.mk [p 0 (L Ty.str a0), p 1 (L Ty.str a1), p 5 (I v0), p 25 (B !decide (a0.getD v0.toNat (dflt Ty.str) = a1.getD v0.toNat (dflt Ty.str)))] []) H (by kernel_rfl) fun H => ?_
  refine cd H (by kernel_rfl) (fun H => ?_) (fun H => ?_)
  ·refine qa tok hT [4] (St.mk [p 4 (B false)] []) (by kernel_rfl) ?_
   exact vx_ret <| fx_blk_ret <| fx_seq_ret <| t1 <| fx_blk_ret <| t0 <| hr H (by kernel_rfl)
  refine vx_skip <| fx_blk <| fx_seq <| ?_
  refine zb tok hT [0, 1, 5] (St.mk [p 0 (L Ty.str a0), p 1 (L Ty.str a1), p 5 (I (v0 + 1))] []) H (by kernel_rfl) fun H => ?_
  exact b1 H (by kernel_rfl)
 exact vx_exit <| fx_seq_exit <| e1 <| fx_blk_exit rfl <| n0 H (by kernel_rfl)
def u125 (a0 : Y109) (a1 : Y109) : Option (Bool) :=
 if (!decide (a0.1 = a1.1)) = true then
  some false
 else
  if (a0.2.1 != a1.2.1) = true then
   some false
  else
   gd ((u16 a0.2.2 a1.2.2).isSome = true ∧ True) <| 
   if (!vl (u16 a0.2.2 a1.2.2)) = true then
    some false
   else
    some true
def k125 : Ct := lct 125 [.agg y109, .agg y109] (fun x => u125 x.1 x.2.1) (fun r : Bool => B r) (fun _ => ())
theorem o125 : Ok Tryz.prog k125 := by
 refine okl tok [.tmp 4] Tryz.func125 Tryz.ntmps125 rfl Tryz.results125 (by kernel_rfl) rfl ?_
 intro y ⟨a0, a1, _⟩ r H Q hn hr
 have hT := tc o16 tn
 refine qa tok hT [2, 3] (St.mk [p 2 (AV.ptr 2 0), p 3 (AV.ptr 3 0)] [(3, Ob.box 109 (cellsD false y109 a1)), (2, Ob.box 109 (cellsD false y109 a0))]) (by kernel_rfl) ?_
 refine vx_seq <| ?_
 refine qa tok hT [2, 3, 9] (St.mk [p 2 (AV.ptr 2 0), p 3 (AV.ptr 3 0), p 9 (B !decide (a0.1 = a1.1))] [(3, Ob.box 109 (cellsD false y109 a1)), (2, Ob.box 109 (cellsD false y109 a0))]) (by kernel_rfl) ?_
 refine cd H (by kernel_rfl) (fun H => ?_) (fun H => ?_)
 ·refine qa tok hT [4] (St.mk [p 4 (B false)] [(3, Ob.box 109 (cellsD false y109 a1)), (2, Ob.box 109 (cellsD false y109 a0))]) (by kernel_rfl) ?_
  exact vx_ret <| fx_seq_ret <| hr H (by kernel_rfl)
 refine vx_skip <| fx_seq <| vx_seq <| ?_
 refine qa tok hT [2, 3, 14] (St.mk [p 2 (AV.ptr 2 0), p 3 (AV.ptr 3 0), p 14 (B (a0.2.1 != a1.2.1))] [(3, Ob.box 109 (cellsD false y109 a1)), (2, Ob.box 109 (cellsD false y109 a0))]) (by kernel_rfl) ?_
 refine cd H (by kernel_rfl) (fun H => ?_) (fun H => ?_)
 ·refine qa tok hT [4] (St.mk [p 4 (B false)] [(3, Ob.box 109 (cellsD false y109 a1)), (2, Ob.box 109 (cellsD false y109 a0))]) (by kernel_rfl) ?_
  exact vx_ret <| fx_seq_ret <| hr H (by kernel_rfl)
 refine vx_skip <| fx_seq <| vx_seq <| ?_
 refine qb tok hT [20] (St.mk [p 20 (B !vl (u16 a0.2.2 a1.2.2))] [(3, Ob.box 109 (cellsD false y109 a1)), (2, Ob.box 109 (cellsD false y109 a0))]) H (by kernel_rfl) fun H => ?_
 refine cd H (by kernel_rfl) (fun H => ?_) (fun H => ?_)
 ·refine qa tok hT [4] (St.mk [p 4 (B false)] [(3, Ob.box 109 (cellsD false y109 a1)), (2, Ob.box 109 (cellsD false y109 a0))]) (by kernel_rfl) ?_
  exact vx_ret <| fx_seq_ret <| hr H (by kernel_rfl)
 refine vx_skip <| fx_seq <| ?_
 refine qa tok hT [4] (St.mk [p 4 (B true)] [(3, Ob.box 109 (cellsD false y109 a1)), (2, Ob.box 109 (cellsD false y109 a0))]) (by kernel_rfl) ?_
 exact vx_ret <| hr H (by kernel_rfl)
def u79J0 : Unit → Option (Bool)
 | _ =>
 some true
def u79L1 (a0 : List Y109) (a1 : List Y109) (g1 : Int → Option (Bool)) : Int → Option (Bool)
 | v0 =>
 if (decide (v0 < (↑a0.length : Int))) = true then
  gd (ix v0 a0.length ∧ ix v0 a1.length ∧ (u125 (a0.getD v0.toNat (dflt y109)) (a1.getD v0.toNat (dflt y109))).isSome = true ∧ True) <| 
  if (!vl (u125 (a0.getD v0.toNat (dflt y109)) (a1.getD v0.toNat (dflt y109)))) = true then
   some false
  else
   gd (in64 (v0 + 1) ∧ True) <| 
   g1 (v0 + 1)
 else
  u79J0 ()
def u79 (a0 : List Y109) (a1 : List Y109) : Option (Bool) :=
 if ((↑a0.length : Int) != (↑a1.length : Int)) = true then
  some false
 else
  lp (u79L1 a0 a1) 0
def k79 : Ct := lct 79 [.dat y109.sl, .dat y109.sl] (fun x => u79 x.1 x.2.1) (fun r : Bool => B r) (fun _ => ())
theorem o79 : Ok Tryz.prog k79 := by
 refine okl tok [.tmp 4] Tryz.func79 Tryz.ntmps79 rfl Tryz.results79 (by kernel_rfl) rfl ?_
 intro y ⟨a0, a1, _⟩ r H Q hn hr
 have hT := tc o125 tn
 refine qa tok hT [0, 1] (St.mk [p 0 (L y109 a0), p 1 (L y109 a1)] []) (by kernel_rfl) ?_
 refine vx_seq <| ?_
 refine qa tok hT [0, 1, 10] (St.mk [p 0 (L y109 a0), p 1 (L y109 a1), p 10 (B ((↑a0.length : Int) != (↑a1.length : Int)))] []) (by kernel_rfl) ?_
 refine cd H (by kernel_rfl) (fun H => ?_) (fun H => ?_)
 ·refine qa tok hT [4] (St.mk [p 4 (B false)] []) (by kernel_rfl) ?_
  exact vx_ret <| fx_seq_ret <| hr H (by kernel_rfl)
 refine vx_skip <| fx_seq <| ?_
 refine jn r (fun (_ : Unit) => St.mk [] []) (u79J0) (fun _ H => ?_) (fun _ n0 e0 t0 => ?_)
 ·refine qa tok hT [4] (St.mk [p 4 (B true)] []) (by kernel_rfl) ?_
  exact vx_ret <| hr H (by kernel_rfl)
 refine qa tok hT [0, 1, 5] (St.mk [p 0 (L y109 a0), p 1 (L y109 a1), p 5 (I 0)] []) (by kernel_rfl) ?_
 refine vx_block <| ?_
 refine lx (fun (v0 : Int) => St.mk [p 0 (L y109 a0), p 1 (L y109 a1), p 5 (I v0)] []) 0 H (by kernel_rfl) fun _ g1 b1 e1 t1 v0 H => ?_
 refine vx_seq <| ?_
 refine qa tok hT [0, 1, 5, 14] (St.mk [p 0 (L y109 a0), p 1 (L y109 a1), p 5 (I v0), p 14 (B (decide (v0 < (↑a0.length : Int))))] []) (by kernel_rfl) ?_
 refine cd H (by kernel_rfl) (fun H => ?_) (fun H => ?_)
 ·refine vx_skip <| fx_seq <| vx_seq <| vx_block <| ?_
  refine qb tok hT [0, 1, 5, 26] (St.mk [p 0 (L y109 a0), p 1 (L y109 a1), p 5 (I v0), p 26 (B !vl (u125 (a0.getD v0.toNat (dflt y109)) (a1.getD v0.toNat (dflt y109))))] []) H (by kernel_rfl) fun H => ?_
  refine cd H (by kernel_rfl) (fun H => ?_) (fun H => ?_)
  ·refine qa tok hT [4] (St.mk [p 4 (B false)] []) (by kernel_rfl) ?_
   exact vx_ret <| fx_blk_ret <| fx_seq_ret <| t1 <| fx_blk_ret <| t0 <| hr H (by kernel_rfl)
  refine vx_skip <| fx_blk <| fx_seq <| ?_
  refine zb tok hT [0, 1, 5] (St.mk [p 0 (L y109 a0), p 1 (L y109 a1), p 5 (I (v0 + 1))] []) H (by kernel_rfl) fun H => ?_
  exact b1 H (by kernel_rfl)
 exact vx_exit <| fx_seq_exit <| e1 <| fx_blk_exit rfl <| n0 H (by kernel_rfl)
def u37 (a0 : Y47) (a1 : Y47) : Option (Bool) :=
 gd ((u79 a0.1 a1.1).isSome = true ∧ True) <| 
 if (!vl (u79 a0.1 a1.1)) = true then
  some false
 else
  gd ((u80 a0.2.1 a1.2.1).isSome = true ∧ True) <| 
  if (!vl (u80 a0.2.1 a1.2.1)) = true then
   some false
  else
   gd ((u81 a0.2.2 a1.2.2).isSome = true ∧ True) <| 
   if (!vl (u81 a0.2.2 a1.2.2)) = true then
    some false
   else
    some true
def k37 : Ct := lct 37 [.agg y47, .agg y47] (fun x => u37 x.1 x.2.1) (fun r : Bool => B r) (fun _ => ())
theorem o37 : Ok Tryz.prog k37 := by
 refine okl tok [.tmp 4] Tryz.func37 Tryz.ntmps37 rfl Tryz.results37 (by kernel_rfl) rfl ?_
 intro y ⟨a0, a1, _⟩ r H Q hn hr
 have hT := tc o81 (tc o80 (tc o79 tn))
 refine qa tok hT [2, 3] (St.mk [p 2 (AV.ptr 2 0), p 3 (AV.ptr 3 0)] [(3, Ob.box 47 (cellsD false y47 a1)), (2, Ob.box 47 (cellsD false y47 a0))]) (by kernel_rfl) ?_
 refine vx_seq <| ?_
 refine qb tok hT [2, 3, 10] (St.mk [p 2 (AV.ptr 2 0), p 3 (AV.ptr 3 0), p 10 (B !vl (u79 a0.1 a1.1))] [(3, Ob.box 47 (cellsD false y47 a1)), (2, Ob.box 47 (cellsD false y47 a0))]) H (by kernel_rfl) fun H => ?_
 refine cd H (by kernel_rfl) (fun H => ?_) (fun H => ?_)
 ·refine qa tok hT [4] (St.mk [p 4 (B false)] [(3, Ob.box 47 (cellsD false y47 a1)), (2, Ob.box 47 (cellsD false y47 a0))]) (by kernel_rfl) ?_
  exact vx_ret <| fx_seq_ret <| hr H (by kernel_rfl)
 refine vx_skip <| fx_seq <| vx_seq <| ?_
 refine qb tok hT [2, 3, 16] (St.mk [p 2 (AV.ptr 2 0), p 3 (AV.ptr 3 0), p 16 (B !vl (u80 a0.2.1 a1.2.1))] [(3, Ob.box 47 (cellsD false y47 a1)), (2, Ob.box 47 (cellsD false y47 a0))]) H (by kernel_rfl) fun H => ?_
 refine cd H (by kernel_rfl) (fun H => ?_) (fun H => ?_)
 ·refine qa tok hT [4] (St.mk [p 4 (B false)] [(3, Ob.box 47 (cellsD false y47 a1)), (2, Ob.box 47 (cellsD false y47 a0))]) (by kernel_rfl) ?_
  exact vx_ret <| fx_seq_ret <| hr H (by kernel_rfl)
 refine vx_skip <| fx_seq <| vx_seq <| ?_
 refine qb tok hT [22] (St.mk [p 22 (B !vl (u81 a0.2.2 a1.2.2))] [(3, Ob.box 47 (cellsD false y47 a1)), (2, Ob.box 47 (cellsD false y47 a0))]) H (by kernel_rfl) fun H => ?_
 refine cd H (by kernel_rfl) (fun H => ?_) (fun H => ?_)
 ·refine qa tok hT [4] (St.mk [p 4 (B false)] [(3, Ob.box 47 (cellsD false y47 a1)), (2, Ob.box 47 (cellsD false y47 a0))]) (by kernel_rfl) ?_
  exact vx_ret <| fx_seq_ret <| hr H (by kernel_rfl)
 refine vx_skip <| fx_seq <| ?_
 refine qa tok hT [4] (St.mk [p 4 (B true)] [(3, Ob.box 47 (cellsD false y47 a1)), (2, Ob.box 47 (cellsD false y47 a0))]) (by kernel_rfl) ?_
 exact vx_ret <| hr H (by kernel_rfl)
def u226 (a0 : Y232) (a1 : Y232) : Option (Bool) :=
 gd ((u16 a0.1 a1.1).isSome = true ∧ True) <| 
 if (!vl (u16 a0.1 a1.1)) = true then
  some false
 else
  gd ((u16 a0.2.1 a1.2.1).isSome = true ∧ True) <| 
  if (!vl (u16 a0.2.1 a1.2.1)) = true then
   some false
  else
   gd ((u16 a0.2.2 a1.2.2).isSome = true ∧ True) <| 
   if (!vl (u16 a0.2.2 a1.2.2)) = true then
    some false
   else
    some true
def k226 : Ct := lct 226 [.agg y232, .agg y232] (fun x => u226 x.1 x.2.1) (fun r : Bool => B r) (fun _ => ())
theorem o226 : Ok Tryz.prog k226 := by
 refine okl tok [.tmp 4] Tryz.func226 Tryz.ntmps226 rfl Tryz.results226 (by kernel_rfl) rfl ?_
 intro y ⟨a0, a1, _⟩ r H Q hn hr
 have hT := tc o16 tn
 refine qa tok hT [2, 3] (St.mk [p 2 (AV.ptr 2 0), p 3 (AV.ptr 3 0)] [(3, Ob.box 232 (cellsD false y232 a1)), (2, Ob.box 232 (cellsD false y232 a0))]) (by kernel_rfl) ?_
 refine vx_seq <| ?_
 refine qb tok hT [2, 3, 10] (St.mk [p 2 (AV.ptr 2 0), p 3 (AV.ptr 3 0), p 10 (B !vl (u16 a0.1 a1.1))] [(3, Ob.box 232 (cellsD false y232 a1)), (2, Ob.box 232 (cellsD false y232 a0))]) H (by kernel_rfl) fun H => ?_
 refine cd H (by kernel_rfl) (fun H => ?_) (fun H => ?_)
 ·refine qa tok hT [4] (St.mk [p 4 (B false)] [(3, Ob.box 232 (cellsD false y232 a1)), (2, Ob.box 232 (cellsD false y232 a0))]) (by kernel_rfl) ?_
  exact vx_ret <| fx_seq_ret <| hr H (by kernel_rfl)
 refine vx_skip <| fx_seq <| vx_seq <| ?_
 refine qb tok hT [2, 3, 16] (St.mk [p 2 (AV.ptr 2 0), p 3 (AV.ptr 3 0), p 16 (B !vl (u16 a0.2.1 a1.2.1))] [(3, Ob.box 232 (cellsD false y232 a1)), (2, Ob.box 232 (cellsD false y232 a0))]) H (by kernel_rfl) fun H => ?_
 refine cd H (by kernel_rfl) (fun H => ?_) (fun H => ?_)
 ·refine qa tok hT [4] (St.mk [p 4 (B false)] [(3, Ob.box 232 (cellsD false y232 a1)), (2, Ob.box 232 (cellsD false y232 a0))]) (by kernel_rfl) ?_
  exact vx_ret <| fx_seq_ret <| hr H (by kernel_rfl)
 refine vx_skip <| fx_seq <| vx_seq <| ?_
 refine qb tok hT [22] (St.mk [p 22 (B !vl (u16 a0.2.2 a1.2.2))] [(3, Ob.box 232 (cellsD false y232 a1)), (2, Ob.box 232 (cellsD false y232 a0))]) H (by kernel_rfl) fun H => ?_
 refine cd H (by kernel_rfl) (fun H => ?_) (fun H => ?_)
 ·refine qa tok hT [4] (St.mk [p 4 (B false)] [(3, Ob.box 232 (cellsD false y232 a1)), (2, Ob.box 232 (cellsD false y232 a0))]) (by kernel_rfl) ?_
  exact vx_ret <| fx_seq_ret <| hr H (by kernel_rfl)
 refine vx_skip <| fx_seq <| ?_
 refine qa tok hT [4] (St.mk [p 4 (B true)] [(3, Ob.box 232 (cellsD false y232 a1)), (2, Ob.box 232 (cellsD false y232 a0))]) (by kernel_rfl) ?_
 exact vx_ret <| hr H (by kernel_rfl)
def u210J0 : Unit → Option (Bool)
 | _ =>
 some true
def u210L1 (a0 : List Y232) (a1 : List Y232) (g1 : Int → Option (Bool)) : Int → Option (Bool)
 | v0 =>
 if (decide (v0 < (↑a0.length : Int))) = true then
  gd (ix v0 a0.length ∧ ix v0 a1.length ∧ (u226 (a0.getD v0.toNat (dflt y232)) (a1.getD v0.toNat (dflt y232))).isSome = true ∧ True) <| 
  if (!vl (u226 (a0.getD v0.toNat (dflt y232)) (a1.getD v0.toNat (dflt y232)))) = true then
   some false
  else
   gd (in64 (v0 + 1) ∧ True) <| 
   g1 (v0 + 1)
 else
  u210J0 ()
def u210 (a0 : List Y232) (a1 : List Y232) : Option (Bool) :=
 if ((↑a0.length : Int) != (↑a1.length : Int)) = true then
  some false
 else
  lp (u210L1 a0 a1) 0
def k210 : Ct := lct 210 [.dat y232.sl, .dat y232.sl] (fun x => u210 x.1 x.2.1) (fun r : Bool => B r) (fun _ => ())
theorem o210 : Ok Tryz.prog k210 := by
 refine okl tok [.tmp 4] Tryz.func210 Tryz.ntmps210 rfl Tryz.results210 (by kernel_rfl) rfl ?_
 intro y ⟨a0, a1, _⟩ r H Q hn hr
 have hT := tc o226 tn
 refine qa tok hT [0, 1] (St.mk [p 0 (L y232 a0), p 1 (L y232 a1)] []) (by kernel_rfl) ?_
 refine vx_seq <| ?_
 refine qa tok hT [0, 1, 10] (St.mk [p 0 (L y232 a0), p 1 (L y232 a1), p 10 (B ((↑a0.length : Int) != (↑a1.length : Int)))] []) (by kernel_rfl) ?_
 refine cd H (by kernel_rfl) (fun H => ?_) (fun H => ?_)
 ·refine qa tok hT [4] (St.mk [p 4 (B false)] []) (by kernel_rfl) ?_
  exact vx_ret <| fx_seq_ret <| hr H (by kernel_rfl)
 refine vx_skip <| fx_seq <| ?_
 refine jn r (fun (_ : Unit) => St.mk [] []) (u210J0) (fun _ H => ?_) (fun _ n0 e0 t0 => ?_)
 ·refine qa tok hT [4] (St.mk [p 4 (B true)] []) (by kernel_rfl) ?_
  exact vx_ret <| hr H (by kernel_rfl)
 refine qa tok hT [0, 1, 5] (St.mk [p 0 (L y232 a0), p 1 (L y232 a1), p 5 (I 0)] []) (by kernel_rfl) ?_
 refine vx_block <| ?_
 refine lx (fun (v0 : Int) => St.mk [p 0 (L y232 a0), p 1 (L y232 a1), p 5 (I v0)] []) 0 H (by kernel_rfl) fun _ g1 b1 e1 t1 v0 H => ?_
 refine vx_seq <| ?_
 refine qa tok hT [0, 1, 5, 14] (St.mk [p 0 (L y232 a0), p 1 (L y232 a1), p 5 (I v0), p 14 (B (decide (v0 < (↑a0.length : Int))))] []) (by kernel_rfl) ?_
 refine cd H (by kernel_rfl) (fun H => ?_) (fun H => ?_)
 ·refine vx_skip <| fx_seq <| vx_seq <| vx_block <| ?_
  refine qb tok hT [0, 1, 5, 26] (St.mk [p 0 (L y232 a0), p 1 (L y232 a1), p 5 (I v0), p 26 (B !vl (u226 (a0.getD v0.toNat (dflt y232)) (a1.getD v0.toNat (dflt y232))))] []) H (by kernel_rfl) fun H => ?_
  refine cd H (by kernel_rfl) (fun H => ?_) (fun H => ?_)
  ·refine qa tok hT [4] (St.mk [p 4 (B false)] []) (by kernel_rfl) ?_
   exact vx_ret <| fx_blk_ret <| fx_seq_ret <| t1 <| fx_blk_ret <| t0 <| hr H (by kernel_rfl)
  refine vx_skip <| fx_blk <| fx_seq <| ?_
  refine zb tok hT [0, 1, 5] (St.mk [p 0 (L y232 a0), p 1 (L y232 a1), p 5 (I (v0 + 1))] []) H (by kernel_rfl) fun H => ?_
  exact b1 H (by kernel_rfl)
 exact vx_exit <| fx_seq_exit <| e1 <| fx_blk_exit rfl <| n0 H (by kernel_rfl)
def u192 (a0 : Y195) (a1 : Y195) : Option (Bool) :=
 if (a0.1 != a1.1) = true then
  some false
 else
  if (a0.2.1 != a1.2.1) = true then
   some false
  else
   if (a0.2.2.1 != a1.2.2.1) = true then
    some false
   else
    if (a0.2.2.2.1 != a1.2.2.2.1) = true then
     some false
    else
     gd ((u210 a0.2.2.2.2.1 a1.2.2.2.2.1).isSome = true ∧ True) <| 
     if (!vl (u210 a0.2.2.2.2.1 a1.2.2.2.2.1)) = true then
      some false
     else
      gd ((u210 a0.2.2.2.2.2 a1.2.2.2.2.2).isSome = true ∧ True) <| 
      if (!vl (u210 a0.2.2.2.2.2 a1.2.2.2.2.2)) = true then
       some false
      else
       some true
def k192 : Ct := lct 192 [.agg y195, .agg y195] (fun x => u192 x.1 x.2.1) (fun r : Bool => B r) (fun _ => ())
theorem o192 : Ok Tryz.prog k192 := by
 refine okl tok [.tmp 4] Tryz.func192 Tryz.ntmps192 rfl Tryz.results192 (by kernel_rfl) rfl ?_
 intro y ⟨a0, a1, _⟩ r H Q hn hr
 have hT := tc o210 tn
 refine qa tok hT [2, 3] (St.mk [p 2 (AV.ptr 2 0), p 3 (AV.ptr 3 0)] [(3, Ob.box 195 (cellsD false y195 a1)), (2, Ob.box 195 (cellsD false y195 a0))]) (by kernel_rfl) ?_
 refine vx_seq <| ?_
 refine qa tok hT [2, 3, 9] (St.mk [p 2 (AV.ptr 2 0), p 3 (AV.ptr 3 0), p 9 (B (a0.1 != a1.1))] [(3, Ob.box 195 (cellsD false y195 a1)), (2, Ob.box 195 (cellsD false y195 a0))]) (by kernel_rfl) ?_
 refine cd H (by kernel_rfl) (fun H => ?_) (fun H => ?_)
 ·refine qa tok hT [4] (St.mk [p 4 (B false)] [(3, Ob.box 195 (cellsD false y195 a1)), (2, Ob.box 195 (cellsD false y195 a0))]) (by kernel_rfl) ?_
  exact vx_ret <| fx_seq_ret <| hr H (by kernel_rfl)
 refine vx_skip <| fx_seq <| vx_seq <| ?_
 refine qa tok hT [2, 3, 14] (St.mk [p 2 (AV.ptr 2 0), p 3 (AV.ptr 3 0), p 14 (B (a0.2.1 != a1.2.1))] [(3, Ob.box 195 (cellsD false y195 a1)), (2, Ob.box 195 (cellsD false y195 a0))]) (by kernel_rfl) ?_
 refine cd H (by kernel_rfl) (fun H => ?_) (fun H => ?_)
 ·refine qa tok hT [4] (St.mk [p 4 (B false)] [(3, Ob.box 195 (cellsD false y195 a1)), (2, Ob.box 195 (cellsD false y195 a0))]) (by kernel_rfl) ?_
  exact vx_ret <| fx_seq_ret <| hr H (by kernel_rfl)
 refine vx_skip <| fx_seq <| vx_seq <| ?_
 refine qa tok hT [2, 3, 19] (St.mk [p 2 (AV.ptr 2 0), p 3 (AV.ptr 3 0), p 19 (B (a0.2.2.1 != a1.2.2.1))] [(3, Ob.box 195 (cellsD false y195 a1)), (2, Ob.box 195 (cellsD false y195 a0))]) (by kernel_rfl) ?_
 refine cd H (by kernel_rfl) (fun H => ?_) (fun H => ?_)
 ·refine qa tok hT [4] (St.mk [p 4 (B false)] [(3, Ob.box 195 (cellsD false y195 a1)), (2, Ob.box 195 (cellsD false y195 a0))]) (by kernel_rfl) ?_
  exact vx_ret <| fx_seq_ret <| hr H (by kernel_rfl)
 refine vx_skip <| fx_seq <| vx_seq <| ?_
 refine qa tok hT [2, 3, 24] (St.mk [p 2 (AV.ptr 2 0), p 3 (AV.ptr 3 0), p 24 (B (a0.2.2.2.1 != a1.2.2.2.1))] [(3, Ob.box 195 (cellsD false y195 a1)), (2, Ob.box 195 (cellsD false y195 a0))]) (by kernel_rfl) ?_
 refine cd H (by kernel_rfl) (fun H => ?_) (fun H => ?_)
 ·refine qa tok hT [4] (St.mk [p 4 (B false)] [(3, Ob.box 195 (cellsD false y195 a1)), (2, Ob.box 195 (cellsD false y195 a0))]) (by kernel_rfl) ?_
  exact vx_ret <| fx_seq_ret <| hr H (by kernel_rfl)
 refine vx_skip <| fx_seq <| vx_seq <| ?_
 refine qb tok hT [2, 3, 30] (St.mk [p 2 (AV.ptr 2 0), p 3 (AV.ptr 3 0), p 30 (B !vl (u210 a0.2.2.2.2.1 a1.2.2.2.2.1))] [(3, Ob.box 195 (cellsD false y195 a1)), (2, Ob.box 195 (cellsD false y195 a0))]) H (by kernel_rfl) fun H => ?_
 refine cd H (by kernel_rfl) (fun H => ?_) (fun H => ?_)
 ·refine qa tok hT [4] (St.mk [p 4 (B false)] [(3, Ob.box 195 (cellsD false y195 a1)), (2, Ob.box 195 (cellsD false y195 a0))]) (by kernel_rfl) ?_
  exact vx_ret <| fx_seq_ret <| hr H (by kernel_rfl)
 refine vx_skip <| fx_seq <| vx_seq <| ?_
 refine qb tok hT [36] (St.mk [p 36 (B !vl (u210 a0.2.2.2.2.2 a1.2.2.2.2.2))] [(3, Ob.box 195 (cellsD false y195 a1)), (2, Ob.box 195 (cellsD false y195 a0))]) H (by kernel_rfl) fun H => ?_
 refine cd H (by kernel_rfl) (fun H => ?_) (fun H => ?_)
 ·refine qa tok hT [4] (St.mk [p 4 (B false)] [(3, Ob.box 195 (cellsD false y195 a1)), (2, Ob.box 195 (cellsD false y195 a0))]) (by kernel_rfl) ?_
  exact vx_ret <| fx_seq_ret <| hr H (by kernel_rfl)
 refine vx_skip <| fx_seq <| ?_
 refine qa tok hT [4] (St.mk [p 4 (B true)] [(3, Ob.box 195 (cellsD false y195 a1)), (2, Ob.box 195 (cellsD false y195 a0))]) (by kernel_rfl) ?_
 exact vx_ret <| hr H (by kernel_rfl)
def u158J0 : Unit → Option (Bool)
 | _ =>
 some true
def u158L1 (a0 : List Y195) (a1 : List Y195) (g1 : Int → Option (Bool)) : Int → Option (Bool)
 | v0 =>
 if (decide (v0 < (↑a0.length : Int))) = true then
  gd (ix v0 a0.length ∧ ix v0 a1.length ∧ (u192 (a0.getD v0.toNat (dflt y195)) (a1.getD v0.toNat (dflt y195))).isSome = true ∧ True) <| 
  if (!vl (u192 (a0.getD v0.toNat (dflt y195)) (a1.getD v0.toNat (dflt y195)))) = true then
   some false
  else
   gd (in64 (v0 + 1) ∧ True) <| 
   g1 (v0 + 1)
 else
  u158J0 ()
def u158 (a0 : List Y195) (a1 : List Y195) : Option (Bool) :=
 if ((↑a0.length : Int) != (↑a1.length : Int)) = true then
  some false
 else
  lp (u158L1 a0 a1) 0
def k158 : Ct := lct 158 [.dat y195.sl, .dat y195.sl] (fun x => u158 x.1 x.2.1) (fun r : Bool => B r) (fun _ => ())
theorem o158 : Ok Tryz.prog k158 := by
 refine okl tok [.tmp 4] Tryz.func158 Tryz.ntmps158 rfl Tryz.results158 (by kernel_rfl) rfl ?_
 intro y ⟨a0, a1, _⟩ r H Q hn hr
 have hT := tc o192 tn
 refine qa tok hT [0, 1] (St.mk [p 0 (L y195 a0), p 1 (L y195 a1)] []) (by kernel_rfl) ?_
 refine vx_seq <| ?_
 refine qa tok hT [0, 1, 10] (St.mk [p 0 (L y195 a0), p 1 (L y195 a1), p 10 (B ((↑a0.length : Int) != (↑a1.length : Int)))] []) (by kernel_rfl) ?_
 refine cd H (by kernel_rfl) (fun H => ?_) (fun H => ?_)
 ·refine qa tok hT [4] (St.mk [p 4 (B false)] []) (by kernel_rfl) ?_
  exact vx_ret <| fx_seq_ret <| hr H (by kernel_rfl)
 refine vx_skip <| fx_seq <| ?_
 refine jn r (fun (_ : Unit) => St.mk [] []) (u158J0) (fun _ H => ?_) (fun _ n0 e0 t0 => ?_)
 ·refine qa tok hT [4] (St.mk [p 4 (B true)] []) (by kernel_rfl) ?_
  exact vx_ret <| hr H (by kernel_rfl)
 refine qa tok hT [0, 1, 5] (St.mk [p 0 (L y195 a0), p 1 (L y195 a1), p 5 (I 0)] []) (by kernel_rfl) ?_
 refine vx_block <| ?_
 refine lx (fun (v0 : Int) => St.mk [p 0 (L y195 a0), p 1 (L y195 a1), p 5 (I v0)] []) 0 H (by kernel_rfl) fun _ g1 b1 e1 t1 v0 H => ?_
 refine vx_seq <| ?_
 refine qa tok hT [0, 1, 5, 14] (St.mk [p 0 (L y195 a0), p 1 (L y195 a1), p 5 (I v0), p 14 (B (decide (v0 < (↑a0.length : Int))))] []) (by kernel_rfl) ?_
 refine cd H (by kernel_rfl) (fun H => ?_) (fun H => ?_)
 ·refine vx_skip <| fx_seq <| vx_seq <| vx_block <| ?_
  refine qb tok hT [0, 1, 5, 26] (St.mk [p 0 (L y195 a0), p 1 (L y195 a1), p 5 (I v0), p 26 (B !vl (u192 (a0.getD v0.toNat (dflt y195)) (a1.getD v0.toNat (dflt y195))))] []) H (by kernel_rfl) fun H => ?_
  refine cd H (by kernel_rfl) (fun H => ?_) (fun H => ?_)
  ·refine qa tok hT [4] (St.mk [p 4 (B false)] []) (by kernel_rfl) ?_
   exact vx_ret <| fx_blk_ret <| fx_seq_ret <| t1 <| fx_blk_ret <| t0 <| hr H (by kernel_rfl)
  refine vx_skip <| fx_blk <| fx_seq <| ?_
  refine zb tok hT [0, 1, 5] (St.mk [p 0 (L y195 a0), p 1 (L y195 a1), p 5 (I (v0 + 1))] []) H (by kernel_rfl) fun H => ?_
  exact b1 H (by kernel_rfl)
 exact vx_exit <| fx_seq_exit <| e1 <| fx_blk_exit rfl <| n0 H (by kernel_rfl)
def u191 (a0 : Y147) (a1 : Y147) : Option (Bool) :=
 if (!decide (a0.1 = a1.1)) = true then
  some false
 else
  if (a0.2.1 != a1.2.1) = true then
   some false
  else
   if (a0.2.2.1 != a1.2.2.1) = true then
    some false
   else
    if (!a0.2.2.2 == a1.2.2.2) = true then
     some false
    else
     some true
def k191 : Ct := lct 191 [.agg y147, .agg y147] (fun x => u191 x.1 x.2.1) (fun r : Bool => B r) (fun _ => ())
theorem o191 : Ok Tryz.prog k191 := by
 refine okl tok [.tmp 4] Tryz.func191 Tryz.ntmps191 rfl Tryz.results191 (by kernel_rfl) rfl ?_
 intro y ⟨a0, a1, _⟩ r H Q hn hr
 have hT := @tn Tryz.prog
 refine qa tok hT [2, 3] (St.mk [p 2 (AV.ptr 2 0), p 3 (AV.ptr 3 0)] [(3, Ob.box 147 (cellsD false y147 a1)), (2, Ob.box 147 (cellsD false y147 a0))]) (by kernel_rfl) ?_
 refine vx_seq <| ?_
 refine qa tok hT [2, 3, 9] (St.mk [p 2 (AV.ptr 2 0), p 3 (AV.ptr 3 0), p 9 (B !decide (a0.1 = a1.1))] [(3, Ob.box 147 (cellsD false y147 a1)), (2, Ob.box 147 (cellsD false y147 a0))]) (by kernel_rfl) ?_
 refine cd H (by kernel_rfl) (fun H => ?_) (fun H => ?_)
 ·refine qa tok hT [4] (St.mk [p 4 (B false)] [(3, Ob.box 147 (cellsD false y147 a1)), (2, Ob.box 147 (cellsD false y147 a0))]) (by kernel_rfl) ?_
  exact vx_ret <| fx_seq_ret <| hr H (by kernel_rfl)
 refine vx_skip <| fx_seq <| vx_seq <| ?_
 refine qa tok hT [2, 3, 14] (St.mk [p 2 (AV.ptr 2 0), p 3 (AV.ptr 3 0), p 14 (B (a0.2.1 != a1.2.1))] [(3, Ob.box 147 (cellsD false y147 a1)), (2, Ob.box 147 (cellsD false y147 a0))]) (by kernel_rfl) ?_
 refine cd H (by kernel_rfl) (fun H => ?_) (fun H => ?_)
 ·refine qa tok hT [4] (St.mk [p 4 (B false)] [(3, Ob.box 147 (cellsD false y147 a1)), (2, Ob.box 147 (cellsD false y147 a0))]) (by kernel_rfl) ?_
  exact vx_ret <| fx_seq_ret <| hr H (by kernel_rfl)
 refine vx_skip <| fx_seq <| vx_seq <| ?_
 refine qa tok hT [2, 3, 19] (St.mk [p 2 (AV.ptr 2 0), p 3 (AV.ptr 3 0), p 19 (B (a0.2.2.1 != a1.2.2.1))] [(3, Ob.box 147 (cellsD false y147 a1)), (2, Ob.box 147 (cellsD false y147 a0))]) (by kernel_rfl) ?_
 refine cd H (by kernel_rfl) (fun H => ?_) (fun H => ?_)
 ·refine qa tok hT [4] (St.mk [p 4 (B false)] [(3, Ob.box 147 (cellsD false y147 a1)), (2, Ob.box 147 (cellsD false y147 a0))]) (by kernel_rfl) ?_
  exact vx_ret <| fx_seq_ret <| hr H (by kernel_rfl)
 refine vx_skip <| fx_seq <| vx_seq <| ?_
 refine qa tok hT [24] (St.mk [p 24 (B !a0.2.2.2 == a1.2.2.2)] [(3, Ob.box 147 (cellsD false y147 a1)), (2, Ob.box 147 (cellsD false y147 a0))]) (by kernel_rfl) ?_
 refine cd H (by kernel_rfl) (fun H => ?_) (fun H => ?_)
 ·refine qa tok hT [4] (St.mk [p 4 (B false)] [(3, Ob.box 147 (cellsD false y147 a1)), (2, Ob.box 147 (cellsD false y147 a0))]) (by kernel_rfl) ?_
  exact vx_ret <| fx_seq_ret <| hr H (by kernel_rfl)
 refine vx_skip <| fx_seq <| ?_
 refine qa tok hT [4] (St.mk [p 4 (B true)] [(3, Ob.box 147 (cellsD false y147 a1)), (2, Ob.box 147 (cellsD false y147 a0))]) (by kernel_rfl) ?_
 exact vx_ret <| hr H (by kernel_rfl)
def u157J0 : Unit → Option (Bool)
 | _ =>
 some true
def u157L1 (a0 : List Y147) (a1 : List Y147) (g1 : Int → Option (Bool)) : Int → Option (Bool)
 | v0 =>
 if (decide (v0 < (↑a0.length : Int))) = true then
  gd (ix v0 a0.length ∧ ix v0 a1.length ∧ (u191 (a0.getD v0.toNat (dflt y147)) (a1.getD v0.toNat (dflt y147))).isSome = true ∧ True) <| 
  if (!vl (u191 (a0.getD v0.toNat (dflt y147)) (a1.getD v0.toNat (dflt y147)))) = true then
   some false
  else
   gd (in64 (v0 + 1) ∧ True) <| 
   g1 (v0 + 1)
 else
  u157J0 ()
def u157 (a0 : List Y147) (a1 : List Y147) : Option (Bool) :=
 if ((↑a0.length : Int) != (↑a1.length : Int)) = true then
  some false
 else
  lp (u157L1 a0 a1) 0
def k157 : Ct := lct 157 [.dat y147.sl, .dat y147.sl] (fun x => u157 x.1 x.2.1) (fun r : Bool => B r) (fun _ => ())
theorem o157 : Ok Tryz.prog k157 := by
 refine okl tok [.tmp 4] Tryz.func157 Tryz.ntmps157 rfl Tryz.results157 (by kernel_rfl) rfl ?_
 intro y ⟨a0, a1, _⟩ r H Q hn hr
 have hT := tc o191 tn
 refine qa tok hT [0, 1] (St.mk [p 0 (L y147 a0), p 1 (L y147 a1)] []) (by kernel_rfl) ?_
 refine vx_seq <| ?_
 refine qa tok hT [0, 1, 10] (St.mk [p 0 (L y147 a0), p 1 (L y147 a1), p 10 (B ((↑a0.length : Int) != (↑a1.length : Int)))] []) (by kernel_rfl) ?_
 refine cd H (by kernel_rfl) (fun H => ?_) (fun H => ?_)
 ·refine qa tok hT [4] (St.mk [p 4 (B false)] []) (by kernel_rfl) ?_
  exact vx_ret <| fx_seq_ret <| hr H (by kernel_rfl)
 refine vx_skip <| fx_seq <| ?_
 refine jn r (fun (_ : Unit) => St.mk [] []) (u157J0) (fun _ H => ?_) (fun _ n0 e0 t0 => ?_)
 ·refine qa tok hT [4] (St.mk [p 4 (B true)] []) (by kernel_rfl) ?_
  exact vx_ret <| hr H (by kernel_rfl)
 refine qa tok hT [0, 1, 5] (St.mk [p 0 (L y147 a0), p 1 (L y147 a1), p 5 (I 0)] []) (by kernel_rfl) ?_
 refine vx_block <| ?_
 refine lx (fun (v0 : Int) => St.mk [p 0 (L y147 a0), p 1 (L y147 a1), p 5 (I v0)] []) 0 H (by kernel_rfl) fun _ g1 b1 e1 t1 v0 H => ?_
 refine vx_seq <| ?_
 refine qa tok hT [0, 1, 5, 14] (St.mk [p 0 (L y147 a0), p 1 (L y147 a1), p 5 (I v0), p 14 (B (decide (v0 < (↑a0.length : Int))))] []) (by kernel_rfl) ?_
 refine cd H (by kernel_rfl) (fun H => ?_) (fun H => ?_)
 ·refine vx_skip <| fx_seq <| vx_seq <| vx_block <| ?_
  refine qb tok hT [0, 1, 5, 26] (St.mk [p 0 (L y147 a0), p 1 (L y147 a1), p 5 (I v0), p 26 (B !vl (u191 (a0.getD v0.toNat (dflt y147)) (a1.getD v0.toNat (dflt y147))))] []) H (by kernel_rfl) fun H => ?_
  refine cd H (by kernel_rfl) (fun H => ?_) (fun H => ?_)
  ·refine qa tok hT [4] (St.mk [p 4 (B false)] []) (by kernel_rfl) ?_
   exact vx_ret <| fx_blk_ret <| fx_seq_ret <| t1 <| fx_blk_ret <| t0 <| hr H (by kernel_rfl)
  refine vx_skip <| fx_blk <| fx_seq <| ?_
  refine zb tok hT [0, 1, 5] (St.mk [p 0 (L y147 a0), p 1 (L y147 a1), p 5 (I (v0 + 1))] []) H (by kernel_rfl) fun H => ?_
  exact b1 H (by kernel_rfl)
 exact vx_exit <| fx_seq_exit <| e1 <| fx_blk_exit rfl <| n0 H (by kernel_rfl)
def u124 (a0 : Y107) (a1 : Y107) : Option (Bool) :=
 if (!decide (a0.1 = a1.1)) = true then
  some false
 else
  if (a0.2.1 != a1.2.1) = true then
   some false
  else
   gd ((u157 a0.2.2.1 a1.2.2.1).isSome = true ∧ True) <| 
   if (!vl (u157 a0.2.2.1 a1.2.2.1)) = true then
    some false
   else
    gd ((u158 a0.2.2.2.1 a1.2.2.2.1).isSome = true ∧ True) <| 
    if (!vl (u158 a0.2.2.2.1 a1.2.2.2.1)) = true then
     some false
    else
     gd ((u16 a0.2.2.2.2.1 a1.2.2.2.2.1).isSome = true ∧ True) <| 
     if (!vl (u16 a0.2.2.2.2.1 a1.2.2.2.2.1)) = true then
      some false
     else
      if (a0.2.2.2.2.2.1 != a1.2.2.2.2.2.1) = true then
       some false
      else
       if (a0.2.2.2.2.2.2 != a1.2.2.2.2.2.2) = true then
        some false
       else
        some true
def k124 : Ct := lct 124 [.agg y107, .agg y107] (fun x => u124 x.1 x.2.1) (fun r : Bool => B r) (fun _ => ())
theorem o124 : Ok Tryz.prog k124 := by
 refine okl tok [.tmp 4] Tryz.func124 Tryz.ntmps124 rfl Tryz.results124 (by kernel_rfl) rfl ?_
 intro y ⟨a0, a1, _⟩ r H Q hn hr
 have hT := tc o16 (tc o158 (tc o157 tn))
 refine qa tok hT [2, 3] (St.mk [p 2 (AV.ptr 2 0), p 3 (AV.ptr 3 0)] [(3, Ob.box 107 (cellsD false y107 a1)), (2, Ob.box 107 (cellsD false y107 a0))]) (by kernel_rfl) ?_
 refine vx_seq <| ?_
 refine qa tok hT [2, 3, 9] (St.mk [p 2 (AV.ptr 2 0), p 3 (AV.ptr 3 0), p 9 (B !decide (a0.1 = a1.1))] [(3, Ob.box 107 (cellsD false y107 a1)), (2, Ob.box 107 (cellsD false y107 a0))]) (by kernel_rfl) ?_
 refine cd H (by kernel_rfl) (fun H => ?_) (fun H => ?_)
 ·refine qa tok hT [4] (St.mk [p 4 (B false)] [(3, Ob.box 107 (cellsD false y107 a1)), (2, Ob.box 107 (cellsD false y107 a0))]) (by kernel_rfl) ?_
  exact vx_ret <| fx_seq_ret <| hr H (by kernel_rfl)
 refine vx_skip <| fx_seq <| vx_seq <| ?_
 refine qa tok hT [2, 3, 14] (St.mk [p 2 (AV.ptr 2 0), p 3 (AV.ptr 3 0), p 14 (B (a0.2.1 != a1.2.1))] [(3, Ob.box 107 (cellsD false y107 a1)), (2, Ob.box 107 (cellsD false y107 a0))]) (by kernel_rfl) ?_
 refine cd H (by kernel_rfl) (fun H => ?_) (fun H => ?_)
 ·refine qa tok hT [4] (St.mk [p 4 (B false)] [(3, Ob.box 107 (cellsD false y107 a1)), (2, Ob.box 107 (cellsD false y107 a0))]) (by kernel_rfl) ?_
  exact vx_ret <| fx_seq_ret <| hr H (by kernel_rfl)
 refine vx_skip <| fx_seq <| vx_seq <| ?_
 refine qb tok hT [2, 3, 20] (St.mk [p 2 (AV.ptr 2 0), p 3 (AV.ptr 3 0), p 20 (B !vl (u157 a0.2.2.1 a1.2.2.1))] [(3, Ob.box 107 (cellsD false y107 a1)), (2, Ob.box 107 (cellsD false y107 a0))]) H (by kernel_rfl) fun H => ?_
 refine cd H (by kernel_rfl) (fun H => ?_) (fun H => ?_)
 ·refine qa tok hT [4] (St.mk [p 4 (B false)] [(3, Ob.box 107 (cellsD false y107 a1)), (2, Ob.box 107 (cellsD false y107 a0))]) (by kernel_rfl) ?_
  exact vx_ret <| fx_seq_ret <| hr H (by kernel_rfl)
 refine vx_skip <| fx_seq <| vx_seq <| ?_
 refine qb tok hT [2, 3, 26] (St.mk [p 2 (AV.ptr 2 0), p 3 (AV.ptr 3 0), p 26 (B !vl (u158 a0.2.2.2.1 a1.2.2.2.1))] [(3, Ob.box 107 (cellsD false y107 a1)), (2, Ob.box 107 (cellsD false y107 a0))]) H (by kernel_rfl) fun H => ?_
 refine cd H (by kernel_rfl) (fun H => ?_) (fun H => ?_)
 ·refine qa tok hT [4] (St.mk [p 4 (B false)] [(3, Ob.box 107 (cellsD false y107 a1)), (2, Ob.box 107 (cellsD false y107 a0))]) (by kernel_rfl) ?_
  exact vx_ret <| fx_seq_ret <| hr H (by kernel_rfl)
 refine vx_skip <| fx_seq <| vx_seq <| ?_
 refine qb tok hT [2, 3, 32] (St.mk [p 2 (AV.ptr 2 0), p 3 (AV.ptr 3 0), p 32 (B !vl (u16 a0.2.2.2.2.1 a1.2.2.2.2.1))] [(3, Ob.box 107 (cellsD false y107 a1)), (2, Ob.box 107 (cellsD false y107 a0))]) H (by kernel_rfl) fun H => ?_
 refine cd H (by kernel_rfl) (fun H => ?_) (fun H => ?_)
 ·refine qa tok hT [4] (St.mk [p 4 (B false)] [(3, Ob.box 107 (cellsD false y107 a1)), (2, Ob.box 107 (cellsD false y107 a0))]) (by kernel_rfl) ?_
  exact vx_ret <| fx_seq_ret <| hr H (by kernel_rfl)
 refine vx_skip <| fx_seq <| vx_seq <| ?_
 refine qa tok hT [2, 3, 37] (St.mk [p 2 (AV.ptr 2 0), p 3 (AV.ptr 3 0), p 37 (B (a0.2.2.2.2.2.1 != a1.2.2.2.2.2.1))] [(3, Ob.box 107 (cellsD false y107 a1)), (2, Ob.box 107 (cellsD false y107 a0))]) (by kernel_rfl) ?_
 refine cd H (by kernel_rfl) (fun H => ?_) (fun H => ?_)
 ·refine qa tok hT [4] (St.mk [p 4 (B false)] [(3, Ob.box 107 (cellsD false y107 a1)), (2, Ob.box 107 (cellsD false y107 a0))]) (by kernel_rfl) ?_
  exact vx_ret <| fx_seq_ret <| hr H (by kernel_rfl)
 refine vx_skip <| fx_seq <| vx_seq <| ?_
 refine qa tok hT [42] (St.mk [p 42 (B (a0.2.2.2.2.2.2 != a1.2.2.2.2.2.2))] [(3, Ob.box 107 (cellsD false y107 a1)), (2, Ob.box 107 (cellsD false y107 a0))]) (by kernel_rfl) ?_
 refine cd H (by kernel_rfl) (fun H => ?_) (fun H => ?_)
 ·refine qa tok hT [4] (St.mk [p 4 (B false)] [(3, Ob.box 107 (cellsD false y107 a1)), (2, Ob.box 107 (cellsD false y107 a0))]) (by kernel_rfl) ?_
  exact vx_ret <| fx_seq_ret <| hr H (by kernel_rfl)
 refine vx_skip <| fx_seq <| ?_
 refine qa tok hT [4] (St.mk [p 4 (B true)] [(3, Ob.box 107 (cellsD false y107 a1)), (2, Ob.box 107 (cellsD false y107 a0))]) (by kernel_rfl) ?_
 exact vx_ret <| hr H (by kernel_rfl)
def u78J0 : Unit → Option (Bool)
 | _ =>
 some true
def u78L1 (a0 : List Y107) (a1 : List Y107) (g1 : Int → Option (Bool)) : Int → Option (Bool)
 | v0 =>
 if (decide (v0 < (↑a0.length : Int))) = true then
  gd (ix v0 a0.length ∧ ix v0 a1.length ∧ (u124 (a0.getD v0.toNat (dflt y107)) (a1.getD v0.toNat (dflt y107))).isSome = true ∧ True) <| 
  if (!vl (u124 (a0.getD v0.toNat (dflt y107)) (a1.getD v0.toNat (dflt y107)))) = true then
   some false
  else
   gd (in64 (v0 + 1) ∧ True) <| 
   g1 (v0 + 1)
 else
  u78J0 ()
def u78 (a0 : List Y107) (a1 : List Y107) : Option (Bool) :=
 if ((↑a0.length : Int) != (↑a1.length : Int)) = true then
  some false
 else
  lp (u78L1 a0 a1) 0
def k78 : Ct := lct 78 [.dat y107.sl, .dat y107.sl] (fun x => u78 x.1 x.2.1) (fun r : Bool => B r) (fun _ => ())
theorem o78 : Ok Tryz.prog k78 := by
 refine okl tok [.tmp 4] Tryz.func78 Tryz.ntmps78 rfl Tryz.results78 (by kernel_rfl) rfl ?_
 intro y ⟨a0, a1, _⟩ r H Q hn hr
 have hT := tc o124 tn
 refine qa tok hT [0, 1] (St.mk [p 0 (L y107 a0), p 1 (L y107 a1)] []) (by kernel_rfl) ?_
 refine vx_seq <| ?_
 refine qa tok hT [0, 1, 10] (St.mk [p 0 (L y107 a0), p 1 (L y107 a1), p 10 (B ((↑a0.length : Int) != (↑a1.length : Int)))] []) (by kernel_rfl) ?_
 refine cd H (by kernel_rfl) (fun H => ?_) (fun H => ?_)
 ·refine qa tok hT [4] (St.mk [p 4 (B false)] []) (by kernel_rfl) ?_
  exact vx_ret <| fx_seq_ret <| hr H (by kernel_rfl)
 refine vx_skip <| fx_seq <| ?_
 refine jn r (fun (_ : Unit) => St.mk [] []) (u78J0) (fun _ H => ?_) (fun _ n0 e0 t0 => ?_)
 ·refine qa tok hT [4] (St.mk [p 4 (B true)] []) (by kernel_rfl) ?_
  exact vx_ret <| hr H (by kernel_rfl)
 refine qa tok hT [0, 1, 5] (St.mk [p 0 (L y107 a0), p 1 (L y107 a1), p 5 (I 0)] []) (by kernel_rfl) ?_
 refine vx_block <| ?_
 refine lx (fun (v0 : Int) => St.mk [p 0 (L y107 a0), p 1 (L y107 a1), p 5 (I v0)] []) 0 H (by kernel_rfl) fun _ g1 b1 e1 t1 v0 H => ?_
 refine vx_seq <| ?_
 refine qa tok hT [0, 1, 5, 14] (St.mk [p 0 (L y107 a0), p 1 (L y107 a1), p 5 (I v0), p 14 (B (decide (v0 < (↑a0.length : Int))))] []) (by kernel_rfl) ?_
 refine cd H (by kernel_rfl) (fun H => ?_) (fun H => ?_)
 ·refine vx_skip <| fx_seq <| vx_seq <| vx_block <| ?_
  refine qb tok hT [0, 1, 5, 26] (St.mk [p 0 (L y107 a0), p 1 (L y107 a1), p 5 (I v0), p 26 (B !vl (u124 (a0.getD v0.toNat (dflt y107)) (a1.getD v0.toNat (dflt y107))))] []) H (by kernel_rfl) fun H => ?_
  refine cd H (by kernel_rfl) (fun H => ?_) (fun H => ?_)
  ·refine qa tok hT [4] (St.mk [p 4 (B false)] []) (by kernel_rfl) ?_
   exact vx_ret <| fx_blk_ret <| fx_seq_ret <| t1 <| fx_blk_ret <| t0 <| hr H (by kernel_rfl)
  refine vx_skip <| fx_blk <| fx_seq <| ?_
  refine zb tok hT [0, 1, 5] (St.mk [p 0 (L y107 a0), p 1 (L y107 a1), p 5 (I (v0 + 1))] []) H (by kernel_rfl) fun H => ?_
  exact b1 H (by kernel_rfl)
 exact vx_exit <| fx_seq_exit <| e1 <| fx_blk_exit rfl <| n0 H (by kernel_rfl)
def u36 (a0 : List Y107) (a1 : List Y107) : Option (Bool) :=
 gd ((u78 a0 a1).isSome = true ∧ True) <| 
 if (!vl (u78 a0 a1)) = true then
  some false
 else
  some true
def k36 : Ct := lct 36 [.agg y107.sl, .agg y107.sl] (fun x => u36 x.1 x.2.1) (fun r : Bool => B r) (fun _ => ())
theorem o36 : Ok Tryz.prog k36 := by
 refine okl tok [.tmp 4] Tryz.func36 Tryz.ntmps36 rfl Tryz.results36 (by kernel_rfl) rfl ?_
 intro y ⟨a0, a1, _⟩ r H Q hn hr
 have hT := tc o78 tn
 refine qa tok hT [2, 3] (St.mk [p 2 (AV.ptr 2 0), p 3 (AV.ptr 3 0)] [(3, Ob.box 43 [L y107 a1]), (2, Ob.box 43 [L y107 a0])]) (by kernel_rfl) ?_
 refine vx_seq <| ?_
 refine qb tok hT [10] (St.mk [p 10 (B !vl (u78 a0 a1))] [(3, Ob.box 43 [L y107 a1]), (2, Ob.box 43 [L y107 a0])]) H (by kernel_rfl) fun H => ?_
 refine cd H (by kernel_rfl) (fun H => ?_) (fun H => ?_)
 ·refine qa tok hT [4] (St.mk [p 4 (B false)] [(3, Ob.box 43 [L y107 a1]), (2, Ob.box 43 [L y107 a0])]) (by kernel_rfl) ?_
  exact vx_ret <| fx_seq_ret <| hr H (by kernel_rfl)
 refine vx_skip <| fx_seq <| ?_
 refine qa tok hT [4] (St.mk [p 4 (B true)] [(3, Ob.box 43 [L y107 a1]), (2, Ob.box 43 [L y107 a0])]) (by kernel_rfl) ?_
 exact vx_ret <| hr H (by kernel_rfl)
def u12 (a0 : Y50) (a1 : Y50) : Option (Bool) :=
 gd ((u36 a0.1 a1.1).isSome = true ∧ True) <| 
 if (!vl (u36 a0.1 a1.1)) = true then
  some false
 else
  gd ((u37 a0.2.1 a1.2.1).isSome = true ∧ True) <| 
  if (!vl (u37 a0.2.1 a1.2.1)) = true then
   some false
  else
   gd ((u38 a0.2.2 a1.2.2).isSome = true ∧ True) <| 
   if (!vl (u38 a0.2.2 a1.2.2)) = true then
    some false
   else
    some true
def k12 : Ct := lct 12 [.agg y50, .agg y50] (fun x => u12 x.1 x.2.1) (fun r : Bool => B r) (fun _ => ())
theorem o12 : Ok Tryz.prog k12 := by
 refine okl tok [.tmp 4] Tryz.func12 Tryz.ntmps12 rfl Tryz.results12 (by kernel_rfl) rfl ?_
 intro y ⟨a0, a1, _⟩ r H Q hn hr
 have hT := tc o38 (tc o37 (tc o36 tn))
 refine qa tok hT [2, 3] (St.mk [p 2 (AV.ptr 2 0), p 3 (AV.ptr 3 0)] [(3, Ob.box 50 (cellsD false y50 a1)), (2, Ob.box 50 (cellsD false y50 a0))]) (by kernel_rfl) ?_
 refine vx_seq <| ?_
 refine qb tok hT [2, 3, 10] (St.mk [p 2 (AV.ptr 2 0), p 3 (AV.ptr 3 0), p 10 (B !vl (u36 a0.1 a1.1))] [(3, Ob.box 50 (cellsD false y50 a1)), (2, Ob.box 50 (cellsD false y50 a0))]) H (by kernel_rfl) fun H => ?_
 refine cd H (by kernel_rfl) (fun H => ?_) (fun H => ?_)
 ·refine qa tok hT [4] (St.mk [p 4 (B false)] [(3, Ob.box 50 (cellsD false y50 a1)), (2, Ob.box 50 (cellsD false y50 a0))]) (by kernel_rfl) ?_
  exact vx_ret <| fx_seq_ret <| hr H (by kernel_rfl)
 refine vx_skip <| fx_seq <| vx_seq <| ?_
 refine qb tok hT [2, 3, 16] (St.mk [p 2 (AV.ptr 2 0), p 3 (AV.ptr 3 0), p 16 (B !vl (u37 a0.2.1 a1.2.1))] [(3, Ob.box 50 (cellsD false y50 a1)), (2, Ob.box 50 (cellsD false y50 a0))]) H (by kernel_rfl) fun H => ?_
 refine cd H (by kernel_rfl) (fun H => ?_) (fun H => ?_)
 ·refine qa tok hT [4] (St.mk [p 4 (B false)] [(3, Ob.box 50 (cellsD false y50 a1)), (2, Ob.box 50 (cellsD false y50 a0))]) (by kernel_rfl) ?_
  exact vx_ret <| fx_seq_ret <| hr H (by kernel_rfl)
 refine vx_skip <| fx_seq <| vx_seq <| ?_
 refine qb tok hT [22] (St.mk [p 22 (B !vl (u38 a0.2.2 a1.2.2))] [(3, Ob.box 50 (cellsD false y50 a1)), (2, Ob.box 50 (cellsD false y50 a0))]) H (by kernel_rfl) fun H => ?_
 refine cd H (by kernel_rfl) (fun H => ?_) (fun H => ?_)
 ·refine qa tok hT [4] (St.mk [p 4 (B false)] [(3, Ob.box 50 (cellsD false y50 a1)), (2, Ob.box 50 (cellsD false y50 a0))]) (by kernel_rfl) ?_
  exact vx_ret <| fx_seq_ret <| hr H (by kernel_rfl)
 refine vx_skip <| fx_seq <| ?_
 refine qa tok hT [4] (St.mk [p 4 (B true)] [(3, Ob.box 50 (cellsD false y50 a1)), (2, Ob.box 50 (cellsD false y50 a0))]) (by kernel_rfl) ?_
 exact vx_ret <| hr H (by kernel_rfl)
def u32J0 : List Y52 → Option (List Y52)
 | v5 =>
 some v5
def u32L1 (a0 : List Y35) (g1 : Int × List Y52 → Option (List Y52)) : Int × List Y52 → Option (List Y52)
 | (v2, v3) =>
 if (decide (v2 < (↑a0.length : Int))) = true then
  gd (ix v2 a0.length ∧ (u33 (a0.getD v2.toNat (dflt y35))).isSome = true ∧ ix v2 v3.length ∧ v2.toNat < v3.length ∧ True) <| lt (vl (u33 (a0.getD v2.toNat (dflt y35)))) fun v4 =>
  gd (in64 (v2 + 1) ∧ True) <| 
  g1 (v2 + 1, v3.set v2.toNat v4)
 else
  u32J0 v3
def u32 (a0 : List Y35) : Option (List Y52) :=
 gd ((0 ≤ (↑a0.length : Int) ∧ (↑a0.length : Int) = (↑a0.length : Int) ∧ (↑a0.length : Int).toNat * 96 ≤ 281474976710656 ∧ (↑a0.length : Int) ≤ 9223372036854775807) ∧ True) <| 
 lp (u32L1 a0) ((0, List.replicate (↑a0.length : Int).toNat ([], [], [], [])))
def k32 : Ct := lct 32 [.dat y35.sl] (fun x => u32 x.1) (fun r : List Y52 => AV.ow 52 true y52 r) (fun _ => ())
theorem o32 : Ok Tryz.prog k32 := by
 refine okl tok [.tmp 2] Tryz.func32 Tryz.ntmps32 rfl Tryz.results32 (by kernel_rfl) rfl ?_
 intro y ⟨a0, _⟩ r H Q hn hr
 have hT := tc o33d tn
 refine qa tok hT [0] (St.mk [p 0 (L y35 a0)] []) (by kernel_rfl) ?_
 refine qb tok hT [0, 3] (St.mk [p 0 (L y35 a0), p 3 (AV.os 7 0)] [(7, Ob.arr 52 true y52 (List.replicate (↑a0.length : Int).toNat ([], [], [], [])) 0)]) H (by kernel_rfl) fun H => ?_
 refine jn r (fun (v5 : List Y52) => St.mk [p 3 (AV.os 7 0)] [(7, Ob.arr 52 true y52 v5 0)]) (u32J0) (fun v5 H => ?_) (fun _ n0 e0 t0 => ?_)
 ·refine qa tok hT [2] (St.mk [p 2 (AV.os 7 0)] [(7, Ob.arr 52 true y52 v5 0)]) (by kernel_rfl) ?_
  exact vx_ret <| hr H (by kernel_rfl)
 refine qa tok hT [0, 3, 4] (St.mk [p 0 (L y35 a0), p 3 (AV.os 7 0), p 4 (I 0)] [(7, Ob.arr 52 true y52 (List.replicate (↑a0.length : Int).toNat ([], [], [], [])) 0)]) (by kernel_rfl) ?_
 refine vx_block <| ?_
 refine lx (fun ((v2, v3) : Int × List Y52) => St.mk [p 0 (L y35 a0), p 3 (AV.os 7 0), p 4 (I v2)] [(7, Ob.arr 52 true y52 v3 0)]) ((0, List.replicate (↑a0.length : Int).toNat ([], [], [], []))) H (by kernel_rfl) fun _ g1 b1 e1 t1 ⟨v2, v3⟩ H => ?_
 refine vx_seq <| ?_
 refine qa tok hT [0, 3, 4, 11] (St.mk [p 0 (L y35 a0), p 3 (AV.os 7 0), p 4 (I v2), p 11 (B (decide (v2 < (↑a0.length : Int))))] [(7, Ob.arr 52 true y52 v3 0)]) (by kernel_rfl) ?_
 refine cd H (by kernel_rfl) (fun H => ?_) (fun H => ?_)
 ·refine vx_skip <| fx_seq <| vx_seq <| vx_block <| ?_
  refine zd tok hT [0, 3, 4] (fun v4 => St.mk [p 0 (L y35 a0), p 3 (AV.os 7 0), p 4 (I v2)] [(7, Ob.arr 52 true y52 (v3.set v2.toNat v4) 0)]) H (by kernel_rfl) fun v4 H => ?_
  refine fx_blk <| fx_seq <| ?_
  refine zb tok hT [0, 3, 4] (St.mk [p 0 (L y35 a0), p 3 (AV.os 7 0), p 4 (I (v2 + 1))] [(7, Ob.arr 52 true y52 (v3.set v2.toNat v4) 0)]) H (by kernel_rfl) fun H => ?_
  exact b1 H (by kernel_rfl)
 exact vx_exit <| fx_seq_exit <| e1 <| fx_blk_exit rfl <| n0 H (by kernel_rfl)
def u104 (a0 : Y142) : Option (Y144) :=
 some a0
def k104 : Ct := lct 104 [.agg y142] (fun x => u104 x.1) (fun r : Y144 => AV.agg [S r.1, I r.2.1, I r.2.2]) (fun _ => ())
theorem o104 : Ok Tryz.prog k104 := by
 refine okl tok [.cell 2 144] Tryz.func104 Tryz.ntmps104 rfl Tryz.results104 (by kernel_rfl) rfl ?_
 intro y ⟨a0, _⟩ r H Q hn hr
 have hT := @tn Tryz.prog
 refine qa tok hT [1, 2] (St.mk [p 1 (AV.ptr 1 0), p 2 (AV.ptr 2 0)] [(2, Ob.box 144 [S (ByteArray.mk #[]), I 0, I 0]), (1, Ob.box 142 (cellsD false y142 a0))]) (by kernel_rfl) ?_
 refine qa tok hT [1, 2, 3] (St.mk [p 1 (AV.ptr 1 0), p 2 (AV.ptr 2 0), p 3 (AV.ptr 3 0)] [(3, Ob.box 144 [S (ByteArray.mk #[]), I 0, I 0]), (2, Ob.box 144 [S (ByteArray.mk #[]), I 0, I 0]), (1, Ob.box 142 (cellsD false y142 a0))]) (by kernel_rfl) ?_
 refine qa tok hT [1, 2, 3] (St.mk [p 1 (AV.ptr 1 0), p 2 (AV.ptr 2 0), p 3 (AV.ptr 3 0)] [(3, Ob.box 144 [U a0.1, I 0, I 0]), (2, Ob.box 144 [S (ByteArray.mk #[]), I 0, I 0]), (1, Ob.box 142 (cellsD false y142 a0))]) (by kernel_rfl) ?_
 refine qa tok hT [1, 2, 3] (St.mk [p 1 (AV.ptr 1 0), p 2 (AV.ptr 2 0), p 3 (AV.ptr 3 0)] [(3, Ob.box 144 [U a0.1, J a0.2.1, I 0]), (2, Ob.box 144 [S (ByteArray.mk #[]), I 0, I 0]), (1, Ob.box 142 (cellsD false y142 a0))]) (by kernel_rfl) ?_
 refine qa tok hT [2, 3] (St.mk [p 2 (AV.ptr 2 0), p 3 (AV.ptr 3 0)] [(3, Ob.box 144 (cellsD false y144 a0)), (2, Ob.box 144 [S (ByteArray.mk #[]), I 0, I 0]), (1, Ob.box 142 (cellsD false y142 a0))]) (by kernel_rfl) ?_
 refine qa tok hT [2] (St.mk [p 2 (AV.ptr 2 0)] [(2, Ob.box 144 (cellsD false y144 a0)), (3, Ob.box 144 (cellsD false y144 a0)), (1, Ob.box 142 (cellsD false y142 a0))]) (by kernel_rfl) ?_
 exact vx_ret <| hr H (by kernel_rfl)
def u71J0 : List Y144 → Option (List Y144)
 | v5 =>
 some v5
def u71L1 (a0 : List Y142) (g1 : Int × List Y144 → Option (List Y144)) : Int × List Y144 → Option (List Y144)
 | (v2, v3) =>
 if (decide (v2 < (↑a0.length : Int))) = true then
  gd (ix v2 a0.length ∧ (u104 (a0.getD v2.toNat (dflt y142))).isSome = true ∧ ix v2 v3.length ∧ v2.toNat < v3.length ∧ True) <| lt (vl (u104 (a0.getD v2.toNat (dflt y142)))) fun v4 =>
  gd (in64 (v2 + 1) ∧ True) <| 
  g1 (v2 + 1, v3.set v2.toNat v4)
 else
  u71J0 v3
def u71 (a0 : List Y142) : Option (List Y144) :=
 gd ((0 ≤ (↑a0.length : Int) ∧ (↑a0.length : Int) = (↑a0.length : Int) ∧ (↑a0.length : Int).toNat * 32 ≤ 281474976710656 ∧ (↑a0.length : Int) ≤ 9223372036854775807) ∧ True) <| lt (List.replicate (↑a0.length : Int).toNat (ByteArray.mk #[], (0 : Int), (0 : Int))) fun v0 =>
 lp (u71L1 a0) (0, v0)
def k71 : Ct := lct 71 [.dat y142.sl] (fun x => u71 x.1) (fun r : List Y144 => AV.ow 144 true y144 r) (fun _ => ())
theorem o71 : Ok Tryz.prog k71 := by
 refine okl tok [.tmp 2] Tryz.func71 Tryz.ntmps71 rfl Tryz.results71 (by kernel_rfl) rfl ?_
 intro y ⟨a0, _⟩ r H Q hn hr
 have hT := tc o104 tn
 refine qa tok hT [0] (St.mk [p 0 (L y142 a0)] []) (by kernel_rfl) ?_
 refine qd tok hT [0, 3] (fun v0 => St.mk [p 0 (L y142 a0), p 3 (AV.os 7 0)] [(7, Ob.arr 144 true y144 v0 0)]) H (by kernel_rfl) fun v0 H => ?_
 refine jn r (fun (v5 : List Y144) => St.mk [p 3 (AV.os 7 0)] [(7, Ob.arr 144 true y144 v5 0)]) (u71J0) (fun v5 H => ?_) (fun _ n0 e0 t0 => ?_)
 ·refine qa tok hT [2] (St.mk [p 2 (AV.os 7 0)] [(7, Ob.arr 144 true y144 v5 0)]) (by kernel_rfl) ?_
  exact vx_ret <| hr H (by kernel_rfl)
 refine qa tok hT [0, 3, 4] (St.mk [p 0 (L y142 a0), p 3 (AV.os 7 0), p 4 (I 0)] [(7, Ob.arr 144 true y144 v0 0)]) (by kernel_rfl) ?_
 refine vx_block <| ?_
 refine lx (fun ((v2, v3) : Int × List Y144) => St.mk [p 0 (L y142 a0), p 3 (AV.os 7 0), p 4 (I v2)] [(7, Ob.arr 144 true y144 v3 0)]) (0, v0) H (by kernel_rfl) fun _ g1 b1 e1 t1 ⟨v2, v3⟩ H => ?_
 refine vx_seq <| ?_
 refine qa tok hT [0, 3, 4, 11] (St.mk [p 0 (L y142 a0), p 3 (AV.os 7 0), p 4 (I v2), p 11 (B (decide (v2 < (↑a0.length : Int))))] [(7, Ob.arr 144 true y144 v3 0)]) (by kernel_rfl) ?_
 refine cd H (by kernel_rfl) (fun H => ?_) (fun H => ?_)
 ·refine vx_skip <| fx_seq <| vx_seq <| vx_block <| ?_
  refine zd tok hT [0, 3, 4] (fun v4 => St.mk [p 0 (L y142 a0), p 3 (AV.os 7 0), p 4 (I v2)] [(7, Ob.arr 144 true y144 (v3.set v2.toNat v4) 0)]) H (by kernel_rfl) fun v4 H => ?_
  refine fx_blk <| fx_seq <| ?_
  refine zb tok hT [0, 3, 4] (St.mk [p 0 (L y142 a0), p 3 (AV.os 7 0), p 4 (I (v2 + 1))] [(7, Ob.arr 144 true y144 (v3.set v2.toNat v4) 0)]) H (by kernel_rfl) fun H => ?_
  exact b1 H (by kernel_rfl)
 exact vx_exit <| fx_seq_exit <| e1 <| fx_blk_exit rfl <| n0 H (by kernel_rfl)
def u70J0 : List ByteArray → Option (List ByteArray)
 | v3 =>
 some v3
def u70L1 (a0 : List ByteArray) (g1 : Int × List ByteArray → Option (List ByteArray)) : Int × List ByteArray → Option (List ByteArray)
 | (v1, v2) =>
 if (decide (v1 < (↑a0.length : Int))) = true then
  gd (ix v1 a0.length ∧ ix v1 v2.length ∧ v1.toNat < v2.length ∧ True) <| 
  gd (in64 (v1 + 1) ∧ True) <| 
  g1 ((v1 + 1, v2.set v1.toNat (a0.getD v1.toNat (dflt Ty.str))))
 else
  u70J0 v2
def u70 (a0 : List ByteArray) : Option (List ByteArray) :=
 gd ((0 ≤ (↑a0.length : Int) ∧ (↑a0.length : Int) = (↑a0.length : Int) ∧ (↑a0.length : Int).toNat * 16 ≤ 281474976710656 ∧ (↑a0.length : Int) ≤ 9223372036854775807) ∧ True) <| 
 lp (u70L1 a0) ((0, List.replicate (↑a0.length : Int).toNat (ByteArray.mk #[])))
def k70 : Ct := lct 70 [.dat Ty.str.sl] (fun x => u70 x.1) (fun r : List ByteArray => AV.ow 9 true Ty.str r) (fun _ => ())
theorem o70 : Ok Tryz.prog k70 := by
 refine okl tok [.tmp 2] Tryz.func70 Tryz.ntmps70 rfl Tryz.results70 (by kernel_rfl) rfl ?_
 intro y ⟨a0, _⟩ r H Q hn hr
 have hT := @tn Tryz.prog
 refine qa tok hT [0] (St.mk [p 0 (L Ty.str a0)] []) (by kernel_rfl) ?_
 refine qb tok hT [0, 3] (St.mk [p 0 (L Ty.str a0), p 3 (AV.os 7 0)] [(7, Ob.arr 9 true Ty.str (List.replicate (↑a0.length : Int).toNat (ByteArray.mk #[])) 0)]) H (by kernel_rfl) fun H => ?_
 refine jn r (fun (v3 : List ByteArray) => St.mk [p 3 (AV.os 7 0)] [(7, Ob.arr 9 true Ty.str v3 0)]) (u70J0) (fun v3 H => ?_) (fun _ n0 e0 t0 => ?_)
 ·refine qa tok hT [2] (St.mk [p 2 (AV.os 7 0)] [(7, Ob.arr 9 true Ty.str v3 0)]) (by kernel_rfl) ?_
  exact vx_ret <| hr H (by kernel_rfl)
 refine qa tok hT [0, 3, 4] (St.mk [p 0 (L Ty.str a0), p 3 (AV.os 7 0), p 4 (I 0)] [(7, Ob.arr 9 true Ty.str (List.replicate (↑a0.length : Int).toNat (ByteArray.mk #[])) 0)]) (by kernel_rfl) ?_
 refine vx_block <| ?_
 refine lx (fun ((v1, v2) : Int × List ByteArray) => St.mk [p 0 (L Ty.str a0), p 3 (AV.os 7 0), p 4 (I v1)] [(7, Ob.arr 9 true Ty.str v2 0)]) ((0, List.replicate (↑a0.length : Int).toNat (ByteArray.mk #[]))) H (by kernel_rfl) fun _ g1 b1 e1 t1 ⟨v1, v2⟩ H => ?_
 refine vx_seq <| ?_
 refine qa tok hT [0, 3, 4, 11] (St.mk [p 0 (L Ty.str a0), p 3 (AV.os 7 0), p 4 (I v1), p 11 (B (decide (v1 < (↑a0.length : Int))))] [(7, Ob.arr 9 true Ty.str v2 0)]) (by kernel_rfl) ?_
 refine cd H (by kernel_rfl) (fun H => ?_) (fun H => ?_)
 ·refine vx_skip <| fx_seq <| vx_seq <| vx_block <| ?_
  refine zb tok hT [0, 3, 4] (St.mk [p 0 (L Ty.str a0), p 3 (AV.os 7 0), p 4 (I v1)] [(7, Ob.arr 9 true Ty.str (v2.set v1.toNat (a0.getD v1.toNat (dflt Ty.str))) 0)]) H (by kernel_rfl) fun H => ?_
  refine fx_blk <| fx_seq <| ?_
  refine zb tok hT [0, 3, 4] (St.mk [p 0 (L Ty.str a0), p 3 (AV.os 7 0), p 4 (I (v1 + 1))] [(7, Ob.arr 9 true Ty.str (v2.set v1.toNat (a0.getD v1.toNat (dflt Ty.str))) 0)]) H (by kernel_rfl) fun H => ?_
  exact b1 H (by kernel_rfl)
 exact vx_exit <| fx_seq_exit <| e1 <| fx_blk_exit rfl <| n0 H (by kernel_rfl)
def u103 (a0 : Y139) : Option (Y109) :=
 gd ((u72 a0.2.2).isSome = true ∧ True) <| lt (vl (u72 a0.2.2)) fun v0 =>
 some (a0.1, a0.2.1, v0)
def k103 : Ct := lct 103 [.agg y139] (fun x => u103 x.1) (fun r : Y109 => AV.agg [S r.1, I r.2.1, AV.ow 2 true i64 r.2.2]) (fun _ => ())
theorem o103 : Ok Tryz.prog k103 := by
 refine okl tok [.cell 2 109] Tryz.func103 Tryz.ntmps103 rfl Tryz.results103 (by kernel_rfl) rfl ?_
 intro y ⟨a0, _⟩ r H Q hn hr
 have hT := tc o72 tn
 refine qa tok hT [1, 2] (St.mk [p 1 (AV.ptr 1 0), p 2 (AV.ptr 2 0)] [(2, Ob.box 109 [S (ByteArray.mk #[]), I 0, AV.v (Value.slice none 0 0)]), (1, Ob.box 139 (cellsD false y139 a0))]) (by kernel_rfl) ?_
 refine qa tok hT [1, 2, 3] (St.mk [p 1 (AV.ptr 1 0), p 2 (AV.ptr 2 0), p 3 (AV.ptr 3 0)] [(3, Ob.box 109 [S (ByteArray.mk #[]), I 0, AV.v (Value.slice none 0 0)]), (2, Ob.box 109 [S (ByteArray.mk #[]), I 0, AV.v (Value.slice none 0 0)]), (1, Ob.box 139 (cellsD false y139 a0))]) (by kernel_rfl) ?_
 refine qa tok hT [1, 2, 3] (St.mk [p 1 (AV.ptr 1 0), p 2 (AV.ptr 2 0), p 3 (AV.ptr 3 0)] [(3, Ob.box 109 [U a0.1, I 0, AV.v (Value.slice none 0 0)]), (2, Ob.box 109 [S (ByteArray.mk #[]), I 0, AV.v (Value.slice none 0 0)]), (1, Ob.box 139 (cellsD false y139 a0))]) (by kernel_rfl) ?_
 refine qa tok hT [1, 2, 3] (St.mk [p 1 (AV.ptr 1 0), p 2 (AV.ptr 2 0), p 3 (AV.ptr 3 0)] [(3, Ob.box 109 [U a0.1, J a0.2.1, AV.v (Value.slice none 0 0)]), (2, Ob.box 109 [S (ByteArray.mk #[]), I 0, AV.v (Value.slice none 0 0)]), (1, Ob.box 139 (cellsD false y139 a0))]) (by kernel_rfl) ?_
 refine qd tok hT [2, 3] (fun v0 => St.mk [p 2 (AV.ptr 2 0), p 3 (AV.ptr 3 0)] [(3, Ob.box 109 [U a0.1, J a0.2.1, AV.os 12 0]), (12, Ob.arr 2 true i64 v0 0), (2, Ob.box 109 [S (ByteArray.mk #[]), I 0, AV.v (Value.slice none 0 0)]), (1, Ob.box 139 (cellsD false y139 a0))]) H (by kernel_rfl) fun v0 H => ?_
 refine qa tok hT [2] (St.mk [p 2 (AV.ptr 2 0)] [(2, Ob.box 109 [U a0.1, J a0.2.1, AV.os 12 0]), (3, Ob.box 109 [U a0.1, J a0.2.1, AV.os 12 0]), (12, Ob.arr 2 true i64 v0 0), (1, Ob.box 139 (cellsD false y139 a0))]) (by kernel_rfl) ?_
 exact vx_ret <| hr H (by kernel_rfl)
def k103d : Ct := lct 103 [.agg y139] (fun x => u103 x.1) (fun r => frz ((fun r : Y109 => AV.agg [S r.1, I r.2.1, AV.ow 2 true i64 r.2.2]) r)) (fun _ => ())
theorem o103d : Ok Tryz.prog k103d := ok_frz o103
def u69J0 : List Y109 → Option (List Y109)
 | v5 =>
 some v5
def u69L1 (a0 : List Y139) (g1 : Int × List Y109 → Option (List Y109)) : Int × List Y109 → Option (List Y109)
 | (v2, v3) =>
 if (decide (v2 < (↑a0.length : Int))) = true then
  gd (ix v2 a0.length ∧ (u103 (a0.getD v2.toNat (dflt y139))).isSome = true ∧ ix v2 v3.length ∧ v2.toNat < v3.length ∧ True) <| lt (vl (u103 (a0.getD v2.toNat (dflt y139)))) fun v4 =>
  gd (in64 (v2 + 1) ∧ True) <| 
  g1 (v2 + 1, v3.set v2.toNat v4)
 else
  u69J0 v3
def u69 (a0 : List Y139) : Option (List Y109) :=
 gd ((0 ≤ (↑a0.length : Int) ∧ (↑a0.length : Int) = (↑a0.length : Int) ∧ (↑a0.length : Int).toNat * 48 ≤ 281474976710656 ∧ (↑a0.length : Int) ≤ 9223372036854775807) ∧ True) <| lt (List.replicate (↑a0.length : Int).toNat (ByteArray.mk #[], (0 : Int), [])) fun v0 =>
 lp (u69L1 a0) (0, v0)
def k69 : Ct := lct 69 [.dat y139.sl] (fun x => u69 x.1) (fun r : List Y109 => AV.ow 109 true y109 r) (fun _ => ())
theorem o69 : Ok Tryz.prog k69 := by
 refine okl tok [.tmp 2] Tryz.func69 Tryz.ntmps69 rfl Tryz.results69 (by kernel_rfl) rfl ?_
 intro y ⟨a0, _⟩ r H Q hn hr
 have hT := tc o103d tn
 refine qa tok hT [0] (St.mk [p 0 (L y139 a0)] []) (by kernel_rfl) ?_
 refine qd tok hT [0, 3] (fun v0 => St.mk [p 0 (L y139 a0), p 3 (AV.os 7 0)] [(7, Ob.arr 109 true y109 v0 0)]) H (by kernel_rfl) fun v0 H => ?_
 refine jn r (fun (v5 : List Y109) => St.mk [p 3 (AV.os 7 0)] [(7, Ob.arr 109 true y109 v5 0)]) (u69J0) (fun v5 H => ?_) (fun _ n0 e0 t0 => ?_)
 ·refine qa tok hT [2] (St.mk [p 2 (AV.os 7 0)] [(7, Ob.arr 109 true y109 v5 0)]) (by kernel_rfl) ?_
  exact vx_ret <| hr H (by kernel_rfl)
 refine qa tok hT [0, 3, 4] (St.mk [p 0 (L y139 a0), p 3 (AV.os 7 0), p 4 (I 0)] [(7, Ob.arr 109 true y109 v0 0)]) (by kernel_rfl) ?_
 refine vx_block <| ?_
 refine lx (fun ((v2, v3) : Int × List Y109) => St.mk [p 0 (L y139 a0), p 3 (AV.os 7 0), p 4 (I v2)] [(7, Ob.arr 109 true y109 v3 0)]) (0, v0) H (by kernel_rfl) fun _ g1 b1 e1 t1 ⟨v2, v3⟩ H => ?_
 refine vx_seq <| ?_
 refine qa tok hT [0, 3, 4, 11] (St.mk [p 0 (L y139 a0), p 3 (AV.os 7 0), p 4 (I v2), p 11 (B (decide (v2 < (↑a0.length : Int))))] [(7, Ob.arr 109 true y109 v3 0)]) (by kernel_rfl) ?_
 refine cd H (by kernel_rfl) (fun H => ?_) (fun H => ?_)
 ·refine vx_skip <| fx_seq <| vx_seq <| vx_block <| ?_
  refine zd tok hT [0, 3, 4] (fun v4 => St.mk [p 0 (L y139 a0), p 3 (AV.os 7 0), p 4 (I v2)] [(7, Ob.arr 109 true y109 (v3.set v2.toNat v4) 0)]) H (by kernel_rfl) fun v4 H => ?_
  refine fx_blk <| fx_seq <| ?_
  refine zb tok hT [0, 3, 4] (St.mk [p 0 (L y139 a0), p 3 (AV.os 7 0), p 4 (I (v2 + 1))] [(7, Ob.arr 109 true y109 (v3.set v2.toNat v4) 0)]) H (by kernel_rfl) fun H => ?_
  exact b1 H (by kernel_rfl)
 exact vx_exit <| fx_seq_exit <| e1 <| fx_blk_exit rfl <| n0 H (by kernel_rfl)
def u31 (a0 : Y29) : Option (Y47) :=
 gd ((u69 a0.1).isSome = true ∧ True) <| lt (vl (u69 a0.1)) fun v0 =>
 gd ((u70 a0.2.1).isSome = true ∧ True) <| lt (vl (u70 a0.2.1)) fun v1 =>
 gd ((u71 a0.2.2).isSome = true ∧ True) <| lt (vl (u71 a0.2.2)) fun v2 =>
 some (v0, v1, v2)
def k31 : Ct := lct 31 [.agg y29] (fun x => u31 x.1) (fun r : Y47 => AV.agg [AV.ow 109 true y109 r.1, AV.ow 9 true Ty.str r.2.1, AV.ow 144 true y144 r.2.2]) (fun _ => ())
theorem o31 : Ok Tryz.prog k31 := by
 refine okl tok [.cell 2 47] Tryz.func31 Tryz.ntmps31 rfl Tryz.results31 (by kernel_rfl) rfl ?_
 intro y ⟨a0, _⟩ r H Q hn hr
 have hT := tc o71 (tc o70 (tc o69 tn))
 refine qa tok hT [1, 2] (St.mk [p 1 (AV.ptr 1 0), p 2 (AV.ptr 2 0)] [(2, Ob.box 47 [AV.v (Value.slice none 0 0), AV.v (Value.slice none 0 0), AV.v (Value.slice none 0 0)]), (1, Ob.box 29 (cellsD false y29 a0))]) (by kernel_rfl) ?_
 refine qa tok hT [1, 2, 3] (St.mk [p 1 (AV.ptr 1 0), p 2 (AV.ptr 2 0), p 3 (AV.ptr 3 0)] [(3, Ob.box 47 [AV.v (Value.slice none 0 0), AV.v (Value.slice none 0 0), AV.v (Value.slice none 0 0)]), (2, Ob.box 47 [AV.v (Value.slice none 0 0), AV.v (Value.slice none 0 0), AV.v (Value.slice none 0 0)]), (1, Ob.box 29 (cellsD false y29 a0))]) (by kernel_rfl) ?_
 refine qd tok hT [1, 2, 3] (fun v0 => St.mk [p 1 (AV.ptr 1 0), p 2 (AV.ptr 2 0), p 3 (AV.ptr 3 0)] [(3, Ob.box 47 [AV.os 6 0, AV.v (Value.slice none 0 0), AV.v (Value.slice none 0 0)]), (6, Ob.arr 109 true y109 v0 0), (2, Ob.box 47 [AV.v (Value.slice none 0 0), AV.v (Value.slice none 0 0), AV.v (Value.slice none 0 0)]), (1, Ob.box 29 (cellsD false y29 a0))]) H (by kernel_rfl) fun v0 H => ?_
 refine qd tok hT [1, 2, 3] (fun v1 => St.mk [p 1 (AV.ptr 1 0), p 2 (AV.ptr 2 0), p 3 (AV.ptr 3 0)] [(3, Ob.box 47 [AV.os 6 0, AV.os 10 0, AV.v (Value.slice none 0 0)]), (10, Ob.arr 9 true Ty.str v1 0), (6, Ob.arr 109 true y109 v0 0), (2, Ob.box 47 [AV.v (Value.slice none 0 0), AV.v (Value.slice none 0 0), AV.v (Value.slice none 0 0)]), (1, Ob.box 29 (cellsD false y29 a0))]) H (by kernel_rfl) fun v1 H => ?_
 refine qd tok hT [2, 3] (fun v2 => St.mk [p 2 (AV.ptr 2 0), p 3 (AV.ptr 3 0)] [(3, Ob.box 47 [AV.os 6 0, AV.os 10 0, AV.os 14 0]), (14, Ob.arr 144 true y144 v2 0), (10, Ob.arr 9 true Ty.str v1 0), (6, Ob.arr 109 true y109 v0 0), (2, Ob.box 47 [AV.v (Value.slice none 0 0), AV.v (Value.slice none 0 0), AV.v (Value.slice none 0 0)]), (1, Ob.box 29 (cellsD false y29 a0))]) H (by kernel_rfl) fun v2 H => ?_
 refine qa tok hT [2] (St.mk [p 2 (AV.ptr 2 0)] [(2, Ob.box 47 [AV.os 6 0, AV.os 10 0, AV.os 14 0]), (3, Ob.box 47 [AV.os 6 0, AV.os 10 0, AV.os 14 0]), (14, Ob.arr 144 true y144 v2 0), (10, Ob.arr 9 true Ty.str v1 0), (6, Ob.arr 109 true y109 v0 0), (1, Ob.box 29 (cellsD false y29 a0))]) (by kernel_rfl) ?_
 exact vx_ret <| hr H (by kernel_rfl)
def u216 (a0 : Y251) : Option (Y232) :=
 gd ((u72 a0.1).isSome = true ∧ True) <| lt (vl (u72 a0.1)) fun v0 =>
 gd ((u72 a0.2.1).isSome = true ∧ True) <| lt (vl (u72 a0.2.1)) fun v1 =>
 gd ((u72 a0.2.2).isSome = true ∧ True) <| lt (vl (u72 a0.2.2)) fun v2 =>
 some (v0, v1, v2)
def k216 : Ct := lct 216 [.agg y251] (fun x => u216 x.1) (fun r : Y232 => AV.agg [AV.ow 2 true i64 r.1, AV.ow 2 true i64 r.2.1, AV.ow 2 true i64 r.2.2]) (fun _ => ())
theorem o216 : Ok Tryz.prog k216 := by
 refine okl tok [.cell 2 232] Tryz.func216 Tryz.ntmps216 rfl Tryz.results216 (by kernel_rfl) rfl ?_
 intro y ⟨a0, _⟩ r H Q hn hr
 have hT := tc o72 tn
 refine qa tok hT [1, 2] (St.mk [p 1 (AV.ptr 1 0), p 2 (AV.ptr 2 0)] [(2, Ob.box 232 [AV.v (Value.slice none 0 0), AV.v (Value.slice none 0 0), AV.v (Value.slice none 0 0)]), (1, Ob.box 251 (cellsD false y251 a0))]) (by kernel_rfl) ?_
 refine qa tok hT [1, 2, 3] (St.mk [p 1 (AV.ptr 1 0), p 2 (AV.ptr 2 0), p 3 (AV.ptr 3 0)] [(3, Ob.box 232 [AV.v (Value.slice none 0 0), AV.v (Value.slice none 0 0), AV.v (Value.slice none 0 0)]), (2, Ob.box 232 [AV.v (Value.slice none 0 0), AV.v (Value.slice none 0 0), AV.v (Value.slice none 0 0)]), (1, Ob.box 251 (cellsD false y251 a0))]) (by kernel_rfl) ?_
 refine qd tok hT [1, 2, 3] (fun v0 => St.mk [p 1 (AV.ptr 1 0), p 2 (AV.ptr 2 0), p 3 (AV.ptr 3 0)] [(3, Ob.box 232 [AV.os 6 0, AV.v (Value.slice none 0 0), AV.v (Value.slice none 0 0)]), (6, Ob.arr 2 true i64 v0 0), (2, Ob.box 232 [AV.v (Value.slice none 0 0), AV.v (Value.slice none 0 0), AV.v (Value.slice none 0 0)]), (1, Ob.box 251 (cellsD false y251 a0))]) H (by kernel_rfl) fun v0 H => ?_
 refine qd tok hT [1, 2, 3] (fun v1 => St.mk [p 1 (AV.ptr 1 0), p 2 (AV.ptr 2 0), p 3 (AV.ptr 3 0)] [(3, Ob.box 232 [AV.os 6 0, AV.os 10 0, AV.v (Value.slice none 0 0)]), (10, Ob.arr 2 true i64 v1 0), (6, Ob.arr 2 true i64 v0 0), (2, Ob.box 232 [AV.v (Value.slice none 0 0), AV.v (Value.slice none 0 0), AV.v (Value.slice none 0 0)]), (1, Ob.box 251 (cellsD false y251 a0))]) H (by kernel_rfl) fun v1 H => ?_
 refine qd tok hT [2, 3] (fun v2 => St.mk [p 2 (AV.ptr 2 0), p 3 (AV.ptr 3 0)] [(3, Ob.box 232 [AV.os 6 0, AV.os 10 0, AV.os 14 0]), (14, Ob.arr 2 true i64 v2 0), (10, Ob.arr 2 true i64 v1 0), (6, Ob.arr 2 true i64 v0 0), (2, Ob.box 232 [AV.v (Value.slice none 0 0), AV.v (Value.slice none 0 0), AV.v (Value.slice none 0 0)]), (1, Ob.box 251 (cellsD false y251 a0))]) H (by kernel_rfl) fun v2 H => ?_
 refine qa tok hT [2] (St.mk [p 2 (AV.ptr 2 0)] [(2, Ob.box 232 [AV.os 6 0, AV.os 10 0, AV.os 14 0]), (3, Ob.box 232 [AV.os 6 0, AV.os 10 0, AV.os 14 0]), (14, Ob.arr 2 true i64 v2 0), (10, Ob.arr 2 true i64 v1 0), (6, Ob.arr 2 true i64 v0 0), (1, Ob.box 251 (cellsD false y251 a0))]) (by kernel_rfl) ?_
 exact vx_ret <| hr H (by kernel_rfl)
def k216d : Ct := lct 216 [.agg y251] (fun x => u216 x.1) (fun r => frz ((fun r : Y232 => AV.agg [AV.ow 2 true i64 r.1, AV.ow 2 true i64 r.2.1, AV.ow 2 true i64 r.2.2]) r)) (fun _ => ())
theorem o216d : Ok Tryz.prog k216d := ok_frz o216
def u198J0 : List Y232 → Option (List Y232)
 | v5 =>
 some v5
def u198L1 (a0 : List Y251) (g1 : Int × List Y232 → Option (List Y232)) : Int × List Y232 → Option (List Y232)
 | (v2, v3) =>
 if (decide (v2 < (↑a0.length : Int))) = true then
  gd (ix v2 a0.length ∧ (u216 (a0.getD v2.toNat (dflt y251))).isSome = true ∧ ix v2 v3.length ∧ v2.toNat < v3.length ∧ True) <| lt (vl (u216 (a0.getD v2.toNat (dflt y251)))) fun v4 =>
  gd (in64 (v2 + 1) ∧ True) <| 
  g1 (v2 + 1, v3.set v2.toNat v4)
 else
  u198J0 v3
def u198 (a0 : List Y251) : Option (List Y232) :=
 gd ((0 ≤ (↑a0.length : Int) ∧ (↑a0.length : Int) = (↑a0.length : Int) ∧ (↑a0.length : Int).toNat * 72 ≤ 281474976710656 ∧ (↑a0.length : Int) ≤ 9223372036854775807) ∧ True) <| 
 lp (u198L1 a0) ((0, List.replicate (↑a0.length : Int).toNat ([], [], [])))
def k198 : Ct := lct 198 [.dat y251.sl] (fun x => u198 x.1) (fun r : List Y232 => AV.ow 232 true y232 r) (fun _ => ())
theorem o198 : Ok Tryz.prog k198 := by
 refine okl tok [.tmp 2] Tryz.func198 Tryz.ntmps198 rfl Tryz.results198 (by kernel_rfl) rfl ?_
 intro y ⟨a0, _⟩ r H Q hn hr
 have hT := tc o216d tn
 refine qa tok hT [0] (St.mk [p 0 (L y251 a0)] []) (by kernel_rfl) ?_
 refine qb tok hT [0, 3] (St.mk [p 0 (L y251 a0), p 3 (AV.os 7 0)] [(7, Ob.arr 232 true y232 (List.replicate (↑a0.length : Int).toNat ([], [], [])) 0)]) H (by kernel_rfl) fun H => ?_
 refine jn r (fun (v5 : List Y232) => St.mk [p 3 (AV.os 7 0)] [(7, Ob.arr 232 true y232 v5 0)]) (u198J0) (fun v5 H => ?_) (fun _ n0 e0 t0 => ?_)
 ·refine qa tok hT [2] (St.mk [p 2 (AV.os 7 0)] [(7, Ob.arr 232 true y232 v5 0)]) (by kernel_rfl) ?_
  exact vx_ret <| hr H (by kernel_rfl)
 refine qa tok hT [0, 3, 4] (St.mk [p 0 (L y251 a0), p 3 (AV.os 7 0), p 4 (I 0)] [(7, Ob.arr 232 true y232 (List.replicate (↑a0.length : Int).toNat ([], [], [])) 0)]) (by kernel_rfl) ?_
 refine vx_block <| ?_
 refine lx (fun ((v2, v3) : Int × List Y232) => St.mk [p 0 (L y251 a0), p 3 (AV.os 7 0), p 4 (I v2)] [(7, Ob.arr 232 true y232 v3 0)]) ((0, List.replicate (↑a0.length : Int).toNat ([], [], []))) H (by kernel_rfl) fun _ g1 b1 e1 t1 ⟨v2, v3⟩ H => ?_
 refine vx_seq <| ?_
 refine qa tok hT [0, 3, 4, 11] (St.mk [p 0 (L y251 a0), p 3 (AV.os 7 0), p 4 (I v2), p 11 (B (decide (v2 < (↑a0.length : Int))))] [(7, Ob.arr 232 true y232 v3 0)]) (by kernel_rfl) ?_
 refine cd H (by kernel_rfl) (fun H => ?_) (fun H => ?_)
 ·refine vx_skip <| fx_seq <| vx_seq <| vx_block <| ?_
  refine zd tok hT [0, 3, 4] (fun v4 => St.mk [p 0 (L y251 a0), p 3 (AV.os 7 0), p 4 (I v2)] [(7, Ob.arr 232 true y232 (v3.set v2.toNat v4) 0)]) H (by kernel_rfl) fun v4 H => ?_
  refine fx_blk <| fx_seq <| ?_
  refine zb tok hT [0, 3, 4] (St.mk [p 0 (L y251 a0), p 3 (AV.os 7 0), p 4 (I (v2 + 1))] [(7, Ob.arr 232 true y232 (v3.set v2.toNat v4) 0)]) H (by kernel_rfl) fun H => ?_
  exact b1 H (by kernel_rfl)
 exact vx_exit <| fx_seq_exit <| e1 <| fx_blk_exit rfl <| n0 H (by kernel_rfl)
def u176 (a0 : Y212) : Option (Y195) :=
 gd ((u198 a0.2.2.2.2.1).isSome = true ∧ True) <| lt (vl (u198 a0.2.2.2.2.1)) fun v0 =>
 gd ((u198 a0.2.2.2.2.2).isSome = true ∧ True) <| lt (vl (u198 a0.2.2.2.2.2)) fun v1 =>
 some (a0.1, a0.2.1, a0.2.2.1, a0.2.2.2.1, v0, v1)
def k176 : Ct := lct 176 [.agg y212] (fun x => u176 x.1) (fun r : Y195 => AV.agg [I r.1, I r.2.1, I r.2.2.1, I r.2.2.2.1, AV.ow 232 true y232 r.2.2.2.2.1, AV.ow 232 true y232 r.2.2.2.2.2]) (fun _ => ())
theorem o176 : Ok Tryz.prog k176 := by
 refine okl tok [.cell 2 195] Tryz.func176 Tryz.ntmps176 rfl Tryz.results176 (by kernel_rfl) rfl ?_
 intro y ⟨a0, _⟩ r H Q hn hr
 have hT := tc o198 tn
 refine qa tok hT [1, 2] (St.mk [p 1 (AV.ptr 1 0), p 2 (AV.ptr 2 0)] [(2, Ob.box 195 [I 0, I 0, I 0, I 0, AV.v (Value.slice none 0 0), AV.v (Value.slice none 0 0)]), (1, Ob.box 212 (cellsD false y212 a0))]) (by kernel_rfl) ?_
 refine qa tok hT [1, 2, 3] (St.mk [p 1 (AV.ptr 1 0), p 2 (AV.ptr 2 0), p 3 (AV.ptr 3 0)] [(3, Ob.box 195 [I 0, I 0, I 0, I 0, AV.v (Value.slice none 0 0), AV.v (Value.slice none 0 0)]), (2, Ob.box 195 [I 0, I 0, I 0, I 0, AV.v (Value.slice none 0 0), AV.v (Value.slice none 0 0)]), (1, Ob.box 212 (cellsD false y212 a0))]) (by kernel_rfl) ?_
 refine qa tok hT [1, 2, 3] (St.mk [p 1 (AV.ptr 1 0), p 2 (AV.ptr 2 0), p 3 (AV.ptr 3 0)] [(3, Ob.box 195 [J a0.1, I 0, I 0, I 0, AV.v (Value.slice none 0 0), AV.v (Value.slice none 0 0)]), (2, Ob.box 195 [I 0, I 0, I 0, I 0, AV.v (Value.slice none 0 0), AV.v (Value.slice none 0 0)]), (1, Ob.box 212 (cellsD false y212 a0))]) (by kernel_rfl) ?_
 refine qa tok hT [1, 2, 3] (St.mk [p 1 (AV.ptr 1 0), p 2 (AV.ptr 2 0), p 3 (AV.ptr 3 0)] [(3, Ob.box 195 [J a0.1, J a0.2.1, I 0, I 0, AV.v (Value.slice none 0 0), AV.v (Value.slice none 0 0)]), (2, Ob.box 195 [I 0, I 0, I 0, I 0, AV.v (Value.slice none 0 0), AV.v (Value.slice none 0 0)]), (1, Ob.box 212 (cellsD false y212 a0))]) (by kernel_rfl) ?_
 refine qa tok hT [1, 2, 3] (St.mk [p 1 (AV.ptr 1 0), p 2 (AV.ptr 2 0), p 3 (AV.ptr 3 0)] [(3, Ob.box 195 [J a0.1, J a0.2.1, J a0.2.2.1, I 0, AV.v (Value.slice none 0 0), AV.v (Value.slice none 0 0)]), (2, Ob.box 195 [I 0, I 0, I 0, I 0, AV.v (Value.slice none 0 0), AV.v (Value.slice none 0 0)]), (1, Ob.box 212 (cellsD false y212 a0))]) (by kernel_rfl) ?_
 refine qa tok hT [1, 2, 3] (St.mk [p 1 (AV.ptr 1 0), p 2 (AV.ptr 2 0), p 3 (AV.ptr 3 0)] [(3, Ob.box 195 [J a0.1, J a0.2.1, J a0.2.2.1, J a0.2.2.2.1, AV.v (Value.slice none 0 0), AV.v (Value.slice none 0 0)]), (2, Ob.box 195 [I 0, I 0, I 0, I 0, AV.v (Value.slice none 0 0), AV.v (Value.slice none 0 0)]), (1, Ob.box 212 (cellsD false y212 a0))]) (by kernel_rfl) ?_
 refine qd tok hT [1, 2, 3] (fun v0 => St.mk [p 1 (AV.ptr 1 0), p 2 (AV.ptr 2 0), p 3 (AV.ptr 3 0)] [(3, Ob.box 195 [J a0.1, J a0.2.1, J a0.2.2.1, J a0.2.2.2.1, AV.os 18 0, AV.v (Value.slice none 0 0)]), (18, Ob.arr 232 true y232 v0 0), (2, Ob.box 195 [I 0, I 0, I 0, I 0, AV.v (Value.slice none 0 0), AV.v (Value.slice none 0 0)]), (1, Ob.box 212 (cellsD false y212 a0))]) H (by kernel_rfl) fun v0 H => ?_
 refine qd tok hT [2, 3] (fun v1 => St.mk [p 2 (AV.ptr 2 0), p 3 (AV.ptr 3 0)] [(3, Ob.box 195 [J a0.1, J a0.2.1, J a0.2.2.1, J a0.2.2.2.1, AV.os 18 0, AV.os 22 0]), (22, Ob.arr 232 true y232 v1 0), (18, Ob.arr 232 true y232 v0 0), (2, Ob.box 195 [I 0, I 0, I 0, I 0, AV.v (Value.slice none 0 0), AV.v (Value.slice none 0 0)]), (1, Ob.box 212 (cellsD false y212 a0))]) H (by kernel_rfl) fun v1 H => ?_
 refine qa tok hT [2] (St.mk [p 2 (AV.ptr 2 0)] [(2, Ob.box 195 [J a0.1, J a0.2.1, J a0.2.2.1, J a0.2.2.2.1, AV.os 18 0, AV.os 22 0]), (3, Ob.box 195 [J a0.1, J a0.2.1, J a0.2.2.1, J a0.2.2.2.1, AV.os 18 0, AV.os 22 0]), (22, Ob.arr 232 true y232 v1 0), (18, Ob.arr 232 true y232 v0 0), (1, Ob.box 212 (cellsD false y212 a0))]) (by kernel_rfl) ?_
 exact vx_ret <| hr H (by kernel_rfl)
def k176d : Ct := lct 176 [.agg y212] (fun x => u176 x.1) (fun r => frz ((fun r : Y195 => AV.agg [I r.1, I r.2.1, I r.2.2.1, I r.2.2.2.1, AV.ow 232 true y232 r.2.2.2.2.1, AV.ow 232 true y232 r.2.2.2.2.2]) r)) (fun _ => ())
theorem o176d : Ok Tryz.prog k176d := ok_frz o176
def u142J0 : List Y195 → Option (List Y195)
 | v5 =>
 some v5
def u142L1 (a0 : List Y212) (g1 : Int × List Y195 → Option (List Y195)) : Int × List Y195 → Option (List Y195)
 | (v2, v3) =>
 if (decide (v2 < (↑a0.length : Int))) = true then
  gd (ix v2 a0.length ∧ (u176 (a0.getD v2.toNat (dflt y212))).isSome = true ∧ ix v2 v3.length ∧ v2.toNat < v3.length ∧ True) <| lt (vl (u176 (a0.getD v2.toNat (dflt y212)))) fun v4 =>
  gd (in64 (v2 + 1) ∧ True) <| 
  g1 (v2 + 1, v3.set v2.toNat v4)
 else
  u142J0 v3
def u142 (a0 : List Y212) : Option (List Y195) :=
 gd ((0 ≤ (↑a0.length : Int) ∧ (↑a0.length : Int) = (↑a0.length : Int) ∧ (↑a0.length : Int).toNat * 80 ≤ 281474976710656 ∧ (↑a0.length : Int) ≤ 9223372036854775807) ∧ True) <| lt (List.replicate (↑a0.length : Int).toNat ((0 : Int), (0 : Int), (0 : Int), (0 : Int), [], [])) fun v0 =>
 lp (u142L1 a0) (0, v0)
def k142 : Ct := lct 142 [.dat y212.sl] (fun x => u142 x.1) (fun r : List Y195 => AV.ow 195 true y195 r) (fun _ => ())
theorem o142 : Ok Tryz.prog k142 := by
 refine okl tok [.tmp 2] Tryz.func142 Tryz.ntmps142 rfl Tryz.results142 (by kernel_rfl) rfl ?_
 intro y ⟨a0, _⟩ r H Q hn hr
 have hT := tc o176d tn
 refine qa tok hT [0] (St.mk [p 0 (L y212 a0)] []) (by kernel_rfl) ?_
 refine qd tok hT [0, 3] (fun v0 => St.mk [p 0 (L y212 a0), p 3 (AV.os 7 0)] [(7, Ob.arr 195 true y195 v0 0)]) H (by kernel_rfl) fun v0 H => ?_
 refine jn r (fun (v5 : List Y195) => St.mk [p 3 (AV.os 7 0)] [(7, Ob.arr 195 true y195 v5 0)]) (u142J0) (fun v5 H => ?_) (fun _ n0 e0 t0 => ?_)
 ·refine qa tok hT [2] (St.mk [p 2 (AV.os 7 0)] [(7, Ob.arr 195 true y195 v5 0)]) (by kernel_rfl) ?_
  exact vx_ret <| hr H (by kernel_rfl)
 refine qa tok hT [0, 3, 4] (St.mk [p 0 (L y212 a0), p 3 (AV.os 7 0), p 4 (I 0)] [(7, Ob.arr 195 true y195 v0 0)]) (by kernel_rfl) ?_
 refine vx_block <| ?_
 refine lx (fun ((v2, v3) : Int × List Y195) => St.mk [p 0 (L y212 a0), p 3 (AV.os 7 0), p 4 (I v2)] [(7, Ob.arr 195 true y195 v3 0)]) (0, v0) H (by kernel_rfl) fun _ g1 b1 e1 t1 ⟨v2, v3⟩ H => ?_
 refine vx_seq <| ?_
 refine qa tok hT [0, 3, 4, 11] (St.mk [p 0 (L y212 a0), p 3 (AV.os 7 0), p 4 (I v2), p 11 (B (decide (v2 < (↑a0.length : Int))))] [(7, Ob.arr 195 true y195 v3 0)]) (by kernel_rfl) ?_
 refine cd H (by kernel_rfl) (fun H => ?_) (fun H => ?_)
 ·refine vx_skip <| fx_seq <| vx_seq <| vx_block <| ?_
  refine zd tok hT [0, 3, 4] (fun v4 => St.mk [p 0 (L y212 a0), p 3 (AV.os 7 0), p 4 (I v2)] [(7, Ob.arr 195 true y195 (v3.set v2.toNat v4) 0)]) H (by kernel_rfl) fun v4 H => ?_
  refine fx_blk <| fx_seq <| ?_
  refine zb tok hT [0, 3, 4] (St.mk [p 0 (L y212 a0), p 3 (AV.os 7 0), p 4 (I (v2 + 1))] [(7, Ob.arr 195 true y195 (v3.set v2.toNat v4) 0)]) H (by kernel_rfl) fun H => ?_
  exact b1 H (by kernel_rfl)
 exact vx_exit <| fx_seq_exit <| e1 <| fx_blk_exit rfl <| n0 H (by kernel_rfl)
def u175 (a0 : Y208) : Option (Y147) :=
 some a0
def k175 : Ct := lct 175 [.agg y208] (fun x => u175 x.1) (fun r : Y147 => AV.agg [S r.1, I r.2.1, I r.2.2.1, B r.2.2.2]) (fun _ => ())
theorem o175 : Ok Tryz.prog k175 := by
 refine okl tok [.cell 2 147] Tryz.func175 Tryz.ntmps175 rfl Tryz.results175 (by kernel_rfl) rfl ?_
 intro y ⟨a0, _⟩ r H Q hn hr
 have hT := @tn Tryz.prog
 refine qa tok hT [1, 2] (St.mk [p 1 (AV.ptr 1 0), p 2 (AV.ptr 2 0)] [(2, Ob.box 147 [S (ByteArray.mk #[]), I 0, I 0, B false]), (1, Ob.box 208 (cellsD false y208 a0))]) (by kernel_rfl) ?_
 refine qa tok hT [1, 2, 3] (St.mk [p 1 (AV.ptr 1 0), p 2 (AV.ptr 2 0), p 3 (AV.ptr 3 0)] [(3, Ob.box 147 [S (ByteArray.mk #[]), I 0, I 0, B false]), (2, Ob.box 147 [S (ByteArray.mk #[]), I 0, I 0, B false]), (1, Ob.box 208 (cellsD false y208 a0))]) (by kernel_rfl) ?_
 refine qa tok hT [1, 2, 3] (St.mk [p 1 (AV.ptr 1 0), p 2 (AV.ptr 2 0), p 3 (AV.ptr 3 0)] [(3, Ob.box 147 [U a0.1, I 0, I 0, B false]), (2, Ob.box 147 [S (ByteArray.mk #[]), I 0, I 0, B false]), (1, Ob.box 208 (cellsD false y208 a0))]) (by kernel_rfl) ?_
 refine qa tok hT [1, 2, 3] (St.mk [p 1 (AV.ptr 1 0), p 2 (AV.ptr 2 0), p 3 (AV.ptr 3 0)] [(3, Ob.box 147 [U a0.1, J a0.2.1, I 0, B false]), (2, Ob.box 147 [S (ByteArray.mk #[]), I 0, I 0, B false]), (1, Ob.box 208 (cellsD false y208 a0))]) (by kernel_rfl) ?_
 refine qa tok hT [1, 2, 3] (St.mk [p 1 (AV.ptr 1 0), p 2 (AV.ptr 2 0), p 3 (AV.ptr 3 0)] [(3, Ob.box 147 [U a0.1, J a0.2.1, J a0.2.2.1, B false]), (2, Ob.box 147 [S (ByteArray.mk #[]), I 0, I 0, B false]), (1, Ob.box 208 (cellsD false y208 a0))]) (by kernel_rfl) ?_
 refine qa tok hT [2, 3] (St.mk [p 2 (AV.ptr 2 0), p 3 (AV.ptr 3 0)] [(3, Ob.box 147 (cellsD false y147 a0)), (2, Ob.box 147 [S (ByteArray.mk #[]), I 0, I 0, B false]), (1, Ob.box 208 (cellsD false y208 a0))]) (by kernel_rfl) ?_
 refine qa tok hT [2] (St.mk [p 2 (AV.ptr 2 0)] [(2, Ob.box 147 (cellsD false y147 a0)), (3, Ob.box 147 (cellsD false y147 a0)), (1, Ob.box 208 (cellsD false y208 a0))]) (by kernel_rfl) ?_
 exact vx_ret <| hr H (by kernel_rfl)
def u141J0 : List Y147 → Option (List Y147)
 | v5 =>
 some v5
def u141L1 (a0 : List Y208) (g1 : Int × List Y147 → Option (List Y147)) : Int × List Y147 → Option (List Y147)
 | (v2, v3) =>
 if (decide (v2 < (↑a0.length : Int))) = true then
  gd (ix v2 a0.length ∧ (u175 (a0.getD v2.toNat (dflt y208))).isSome = true ∧ ix v2 v3.length ∧ v2.toNat < v3.length ∧ True) <| lt (vl (u175 (a0.getD v2.toNat (dflt y208)))) fun v4 =>
  gd (in64 (v2 + 1) ∧ True) <| 
  g1 (v2 + 1, v3.set v2.toNat v4)
 else
  u141J0 v3
def u141 (a0 : List Y208) : Option (List Y147) :=
 gd ((0 ≤ (↑a0.length : Int) ∧ (↑a0.length : Int) = (↑a0.length : Int) ∧ (↑a0.length : Int).toNat * 40 ≤ 281474976710656 ∧ (↑a0.length : Int) ≤ 9223372036854775807) ∧ True) <| lt (List.replicate (↑a0.length : Int).toNat (ByteArray.mk #[], (0 : Int), (0 : Int), false)) fun v0 =>
 lp (u141L1 a0) (0, v0)
def k141 : Ct := lct 141 [.dat y208.sl] (fun x => u141 x.1) (fun r : List Y147 => AV.ow 147 true y147 r) (fun _ => ())
theorem o141 : Ok Tryz.prog k141 := by
 refine okl tok [.tmp 2] Tryz.func141 Tryz.ntmps141 rfl Tryz.results141 (by kernel_rfl) rfl ?_
 intro y ⟨a0, _⟩ r H Q hn hr
 have hT := tc o175 tn
 refine qa tok hT [0] (St.mk [p 0 (L y208 a0)] []) (by kernel_rfl) ?_
 refine qd tok hT [0, 3] (fun v0 => St.mk [p 0 (L y208 a0), p 3 (AV.os 7 0)] [(7, Ob.arr 147 true y147 v0 0)]) H (by kernel_rfl) fun v0 H => ?_
 refine jn r (fun (v5 : List Y147) => St.mk [p 3 (AV.os 7 0)] [(7, Ob.arr 147 true y147 v5 0)]) (u141J0) (fun v5 H => ?_) (fun _ n0 e0 t0 => ?_)
 ·refine qa tok hT [2] (St.mk [p 2 (AV.os 7 0)] [(7, Ob.arr 147 true y147 v5 0)]) (by kernel_rfl) ?_
  exact vx_ret <| hr H (by kernel_rfl)
 refine qa tok hT [0, 3, 4] (St.mk [p 0 (L y208 a0), p 3 (AV.os 7 0), p 4 (I 0)] [(7, Ob.arr 147 true y147 v0 0)]) (by kernel_rfl) ?_
 refine vx_block <| ?_
 refine lx (fun ((v2, v3) : Int × List Y147) => St.mk [p 0 (L y208 a0), p 3 (AV.os 7 0), p 4 (I v2)] [(7, Ob.arr 147 true y147 v3 0)]) (0, v0) H (by kernel_rfl) fun _ g1 b1 e1 t1 ⟨v2, v3⟩ H => ?_
 refine vx_seq <| ?_
 refine qa tok hT [0, 3, 4, 11] (St.mk [p 0 (L y208 a0), p 3 (AV.os 7 0), p 4 (I v2), p 11 (B (decide (v2 < (↑a0.length : Int))))] [(7, Ob.arr 147 true y147 v3 0)]) (by kernel_rfl) ?_
 refine cd H (by kernel_rfl) (fun H => ?_) (fun H => ?_)
 ·refine vx_skip <| fx_seq <| vx_seq <| vx_block <| ?_
  refine zd tok hT [0, 3, 4] (fun v4 => St.mk [p 0 (L y208 a0), p 3 (AV.os 7 0), p 4 (I v2)] [(7, Ob.arr 147 true y147 (v3.set v2.toNat v4) 0)]) H (by kernel_rfl) fun v4 H => ?_
  refine fx_blk <| fx_seq <| ?_
  refine zb tok hT [0, 3, 4] (St.mk [p 0 (L y208 a0), p 3 (AV.os 7 0), p 4 (I (v2 + 1))] [(7, Ob.arr 147 true y147 (v3.set v2.toNat v4) 0)]) H (by kernel_rfl) fun H => ?_
  exact b1 H (by kernel_rfl)
 exact vx_exit <| fx_seq_exit <| e1 <| fx_blk_exit rfl <| n0 H (by kernel_rfl)
def u102 (a0 : Y137) : Option (Y107) :=
 gd ((u141 a0.2.2.1).isSome = true ∧ True) <| lt (vl (u141 a0.2.2.1)) fun v0 =>
 gd ((u142 a0.2.2.2.1).isSome = true ∧ True) <| lt (vl (u142 a0.2.2.2.1)) fun v1 =>
 gd ((u72 a0.2.2.2.2.1).isSome = true ∧ True) <| lt (vl (u72 a0.2.2.2.2.1)) fun v2 =>
 some (a0.1, a0.2.1, v0, v1, v2, a0.2.2.2.2.2)
def k102 : Ct := lct 102 [.agg y137] (fun x => u102 x.1) (fun r : Y107 => AV.agg [S r.1, I r.2.1, AV.ow 147 true y147 r.2.2.1, AV.ow 195 true y195 r.2.2.2.1, AV.ow 2 true i64 r.2.2.2.2.1, I r.2.2.2.2.2.1, I r.2.2.2.2.2.2]) (fun _ => ())
theorem o102 : Ok Tryz.prog k102 := by
 refine okl tok [.cell 2 107] Tryz.func102 Tryz.ntmps102 rfl Tryz.results102 (by kernel_rfl) rfl ?_
 intro y ⟨a0, _⟩ r H Q hn hr
 have hT := tc o72 (tc o142 (tc o141 tn))
 refine qa tok hT [1, 2] (St.mk [p 1 (AV.ptr 1 0), p 2 (AV.ptr 2 0)] [(2, Ob.box 107 [S (ByteArray.mk #[]), I 0, AV.v (Value.slice none 0 0), AV.v (Value.slice none 0 0), AV.v (Value.slice none 0 0), I 0, I 0]), (1, Ob.box 137 (cellsD false y137 a0))]) (by kernel_rfl) ?_
 refine qa tok hT [1, 2, 3] (St.mk [p 1 (AV.ptr 1 0), p 2 (AV.ptr 2 0), p 3 (AV.ptr 3 0)] [(3, Ob.box 107 [S (ByteArray.mk #[]), I 0, AV.v (Value.slice none 0 0), AV.v (Value.slice none 0 0), AV.v (Value.slice none 0 0), I 0, I 0]), (2, Ob.box 107 [S (ByteArray.mk #[]), I 0, AV.v (Value.slice none 0 0), AV.v (Value.slice none 0 0), AV.v (Value.slice none 0 0), I 0, I 0]), (1, Ob.box 137 (cellsD false y137 a0))]) (by kernel_rfl) ?_
 refine qa tok hT [1, 2, 3] (St.mk [p 1 (AV.ptr 1 0), p 2 (AV.ptr 2 0), p 3 (AV.ptr 3 0)] [(3, Ob.box 107 [U a0.1, I 0, AV.v (Value.slice none 0 0), AV.v (Value.slice none 0 0), AV.v (Value.slice none 0 0), I 0, I 0]), (2, Ob.box 107 [S (ByteArray.mk #[]), I 0, AV.v (Value.slice none 0 0), AV.v (Value.slice none 0 0), AV.v (Value.slice none 0 0), I 0, I 0]), (1, Ob.box 137 (cellsD false y137 a0))]) (by kernel_rfl) ?_
 refine qa tok hT [1, 2, 3] (St.mk [p 1 (AV.ptr 1 0), p 2 (AV.ptr 2 0), p 3 (AV.ptr 3 0)] [(3, Ob.box 107 [U a0.1, J a0.2.1, AV.v (Value.slice none 0 0), AV.v (Value.slice none 0 0), AV.v (Value.slice none 0 0), I 0, I 0]), (2, Ob.box 107 [S (ByteArray.mk #[]), I 0, AV.v (Value.slice none 0 0), AV.v (Value.slice none 0 0), AV.v (Value.slice none 0 0), I 0, I 0]), (1, Ob.box 137 (cellsD false y137 a0))]) (by kernel_rfl) ?_
 refine qd tok hT [1, 2, 3] (fun v0 => St.mk [p 1 (AV.ptr 1 0), p 2 (AV.ptr 2 0), p 3 (AV.ptr 3 0)] [(3, Ob.box 107 [U a0.1, J a0.2.1, AV.os 12 0, AV.v (Value.slice none 0 0), AV.v (Value.slice none 0 0), I 0, I 0]), (12, Ob.arr 147 true y147 v0 0), (2, Ob.box 107 [S (ByteArray.mk #[]), I 0, AV.v (Value.slice none 0 0), AV.v (Value.slice none 0 0), AV.v (Value.slice none 0 0), I 0, I 0]), (1, Ob.box 137 (cellsD false y137 a0))]) H (by kernel_rfl) fun v0 H => ?_
 refine qd tok hT [1, 2, 3] (fun v1 => St.mk [p 1 (AV.ptr 1 0), p 2 (AV.ptr 2 0), p 3 (AV.ptr 3 0)] [(3, Ob.box 107 [U a0.1, J a0.2.1, AV.os 12 0, AV.os 16 0, AV.v (Value.slice none 0 0), I 0, I 0]), (16, Ob.arr 195 true y195 v1 0), (12, Ob.arr 147 true y147 v0 0), (2, Ob.box 107 [S (ByteArray.mk #[]), I 0, AV.v (Value.slice none 0 0), AV.v (Value.slice none 0 0), AV.v (Value.slice none 0 0), I 0, I 0]), (1, Ob.box 137 (cellsD false y137 a0))]) H (by kernel_rfl) fun v1 H => ?_
 refine qd tok hT [1, 2, 3] (fun v2 => St.mk [p 1 (AV.ptr 1 0), p 2 (AV.ptr 2 0), p 3 (AV.ptr 3 0)] [(3, Ob.box 107 [U a0.1, J a0.2.1, AV.os 12 0, AV.os 16 0, AV.os 20 0, I 0, I 0]), (20, Ob.arr 2 true i64 v2 0), (16, Ob.arr 195 true y195 v1 0), (12, Ob.arr 147 true y147 v0 0), (2, Ob.box 107 [S (ByteArray.mk #[]), I 0, AV.v (Value.slice none 0 0), AV.v (Value.slice none 0 0), AV.v (Value.slice none 0 0), I 0, I 0]), (1, Ob.box 137 (cellsD false y137 a0))]) H (by kernel_rfl) fun v2 H => ?_
 refine qa tok hT [1, 2, 3] (St.mk [p 1 (AV.ptr 1 0), p 2 (AV.ptr 2 0), p 3 (AV.ptr 3 0)] [(3, Ob.box 107 [U a0.1, J a0.2.1, AV.os 12 0, AV.os 16 0, AV.os 20 0, J a0.2.2.2.2.2.1, I 0]), (20, Ob.arr 2 true i64 v2 0), (16, Ob.arr 195 true y195 v1 0), (12, Ob.arr 147 true y147 v0 0), (2, Ob.box 107 [S (ByteArray.mk #[]), I 0, AV.v (Value.slice none 0 0), AV.v (Value.slice none 0 0), AV.v (Value.slice none 0 0), I 0, I 0]), (1, Ob.box 137 (cellsD false y137 a0))]) (by kernel_rfl) ?_
 refine qa tok hT [2, 3] (St.mk [p 2 (AV.ptr 2 0), p 3 (AV.ptr 3 0)] [(3, Ob.box 107 [U a0.1, J a0.2.1, AV.os 12 0, AV.os 16 0, AV.os 20 0, J a0.2.2.2.2.2.1, J a0.2.2.2.2.2.2]), (20, Ob.arr 2 true i64 v2 0), (16, Ob.arr 195 true y195 v1 0), (12, Ob.arr 147 true y147 v0 0), (2, Ob.box 107 [S (ByteArray.mk #[]), I 0, AV.v (Value.slice none 0 0), AV.v (Value.slice none 0 0), AV.v (Value.slice none 0 0), I 0, I 0]), (1, Ob.box 137 (cellsD false y137 a0))]) (by kernel_rfl) ?_
 refine qa tok hT [2] (St.mk [p 2 (AV.ptr 2 0)] [(2, Ob.box 107 [U a0.1, J a0.2.1, AV.os 12 0, AV.os 16 0, AV.os 20 0, J a0.2.2.2.2.2.1, J a0.2.2.2.2.2.2]), (3, Ob.box 107 [U a0.1, J a0.2.1, AV.os 12 0, AV.os 16 0, AV.os 20 0, J a0.2.2.2.2.2.1, J a0.2.2.2.2.2.2]), (20, Ob.arr 2 true i64 v2 0), (16, Ob.arr 195 true y195 v1 0), (12, Ob.arr 147 true y147 v0 0), (1, Ob.box 137 (cellsD false y137 a0))]) (by kernel_rfl) ?_
 exact vx_ret <| hr H (by kernel_rfl)
def k102d : Ct := lct 102 [.agg y137] (fun x => u102 x.1) (fun r => frz ((fun r : Y107 => AV.agg [S r.1, I r.2.1, AV.ow 147 true y147 r.2.2.1, AV.ow 195 true y195 r.2.2.2.1, AV.ow 2 true i64 r.2.2.2.2.1, I r.2.2.2.2.2.1, I r.2.2.2.2.2.2]) r)) (fun _ => ())
theorem o102d : Ok Tryz.prog k102d := ok_frz o102
def u68J0 : List Y107 → Option (List Y107)
 | v5 =>
 some v5
def u68L1 (a0 : List Y137) (g1 : Int × List Y107 → Option (List Y107)) : Int × List Y107 → Option (List Y107)
 | (v2, v3) =>
 if (decide (v2 < (↑a0.length : Int))) = true then
  gd (ix v2 a0.length ∧ (u102 (a0.getD v2.toNat (dflt y137))).isSome = true ∧ ix v2 v3.length ∧ v2.toNat < v3.length ∧ True) <| lt (vl (u102 (a0.getD v2.toNat (dflt y137)))) fun v4 =>
  gd (in64 (v2 + 1) ∧ True) <| 
  g1 (v2 + 1, v3.set v2.toNat v4)
 else
  u68J0 v3
def u68 (a0 : List Y137) : Option (List Y107) :=
 gd ((0 ≤ (↑a0.length : Int) ∧ (↑a0.length : Int) = (↑a0.length : Int) ∧ (↑a0.length : Int).toNat * 112 ≤ 281474976710656 ∧ (↑a0.length : Int) ≤ 9223372036854775807) ∧ True) <| lt (List.replicate (↑a0.length : Int).toNat (ByteArray.mk #[], (0 : Int), [], [], [], (0 : Int), (0 : Int))) fun v0 =>
 lp (u68L1 a0) (0, v0)
def k68 : Ct := lct 68 [.dat y137.sl] (fun x => u68 x.1) (fun r : List Y107 => AV.ow 107 true y107 r) (fun _ => ())
theorem o68 : Ok Tryz.prog k68 := by
 refine okl tok [.tmp 2] Tryz.func68 Tryz.ntmps68 rfl Tryz.results68 (by kernel_rfl) rfl ?_
 intro y ⟨a0, _⟩ r H Q hn hr
 have hT := tc o102d tn
 refine qa tok hT [0] (St.mk [p 0 (L y137 a0)] []) (by kernel_rfl) ?_
 refine qd tok hT [0, 3] (fun v0 => St.mk [p 0 (L y137 a0), p 3 (AV.os 7 0)] [(7, Ob.arr 107 true y107 v0 0)]) H (by kernel_rfl) fun v0 H => ?_
 refine jn r (fun (v5 : List Y107) => St.mk [p 3 (AV.os 7 0)] [(7, Ob.arr 107 true y107 v5 0)]) (u68J0) (fun v5 H => ?_) (fun _ n0 e0 t0 => ?_)
 ·refine qa tok hT [2] (St.mk [p 2 (AV.os 7 0)] [(7, Ob.arr 107 true y107 v5 0)]) (by kernel_rfl) ?_
  exact vx_ret <| hr H (by kernel_rfl)
 refine qa tok hT [0, 3, 4] (St.mk [p 0 (L y137 a0), p 3 (AV.os 7 0), p 4 (I 0)] [(7, Ob.arr 107 true y107 v0 0)]) (by kernel_rfl) ?_
 refine vx_block <| ?_
 refine lx (fun ((v2, v3) : Int × List Y107) => St.mk [p 0 (L y137 a0), p 3 (AV.os 7 0), p 4 (I v2)] [(7, Ob.arr 107 true y107 v3 0)]) (0, v0) H (by kernel_rfl) fun _ g1 b1 e1 t1 ⟨v2, v3⟩ H => ?_
 refine vx_seq <| ?_
 refine qa tok hT [0, 3, 4, 11] (St.mk [p 0 (L y137 a0), p 3 (AV.os 7 0), p 4 (I v2), p 11 (B (decide (v2 < (↑a0.length : Int))))] [(7, Ob.arr 107 true y107 v3 0)]) (by kernel_rfl) ?_
 refine cd H (by kernel_rfl) (fun H => ?_) (fun H => ?_)
 ·refine vx_skip <| fx_seq <| vx_seq <| vx_block <| ?_
  refine zd tok hT [0, 3, 4] (fun v4 => St.mk [p 0 (L y137 a0), p 3 (AV.os 7 0), p 4 (I v2)] [(7, Ob.arr 107 true y107 (v3.set v2.toNat v4) 0)]) H (by kernel_rfl) fun v4 H => ?_
  refine fx_blk <| fx_seq <| ?_
  refine zb tok hT [0, 3, 4] (St.mk [p 0 (L y137 a0), p 3 (AV.os 7 0), p 4 (I (v2 + 1))] [(7, Ob.arr 107 true y107 (v3.set v2.toNat v4) 0)]) H (by kernel_rfl) fun H => ?_
  exact b1 H (by kernel_rfl)
 exact vx_exit <| fx_seq_exit <| e1 <| fx_blk_exit rfl <| n0 H (by kernel_rfl)
def u30 (a0 : List Y137) : Option (List Y107) :=
 gd ((u68 a0).isSome = true ∧ True) <| lt (vl (u68 a0)) fun v0 =>
 some v0
def k30 : Ct := lct 30 [.agg y137.sl] (fun x => u30 x.1) (fun r : List Y107 => AV.agg [AV.ow 107 true y107 r]) (fun _ => ())
theorem o30 : Ok Tryz.prog k30 := by
 refine okl tok [.cell 2 43] Tryz.func30 Tryz.ntmps30 rfl Tryz.results30 (by kernel_rfl) rfl ?_
 intro y ⟨a0, _⟩ r H Q hn hr
 have hT := tc o68 tn
 refine qa tok hT [1, 2] (St.mk [p 1 (AV.ptr 1 0), p 2 (AV.ptr 2 0)] [(2, Ob.box 43 [AV.v (Value.slice none 0 0)]), (1, Ob.box 24 [L y137 a0])]) (by kernel_rfl) ?_
 refine qa tok hT [1, 2, 3] (St.mk [p 1 (AV.ptr 1 0), p 2 (AV.ptr 2 0), p 3 (AV.ptr 3 0)] [(3, Ob.box 43 [AV.v (Value.slice none 0 0)]), (2, Ob.box 43 [AV.v (Value.slice none 0 0)]), (1, Ob.box 24 [L y137 a0])]) (by kernel_rfl) ?_
 refine qd tok hT [2, 3] (fun v0 => St.mk [p 2 (AV.ptr 2 0), p 3 (AV.ptr 3 0)] [(3, Ob.box 43 [AV.os 6 0]), (6, Ob.arr 107 true y107 v0 0), (2, Ob.box 43 [AV.v (Value.slice none 0 0)]), (1, Ob.box 24 [L y137 a0])]) H (by kernel_rfl) fun v0 H => ?_
 refine qa tok hT [2] (St.mk [p 2 (AV.ptr 2 0)] [(2, Ob.box 43 [AV.os 6 0]), (3, Ob.box 43 [AV.os 6 0]), (6, Ob.arr 107 true y107 v0 0), (1, Ob.box 24 [L y137 a0])]) (by kernel_rfl) ?_
 exact vx_ret <| hr H (by kernel_rfl)
def u9 (a0 : Y32) : Option (Y50) :=
 gd ((u30 a0.1).isSome = true ∧ True) <| lt (vl (u30 a0.1)) fun v0 =>
 gd ((u31 a0.2.1).isSome = true ∧ True) <| lt (vl (u31 a0.2.1)) fun v1 =>
 gd ((u32 a0.2.2).isSome = true ∧ True) <| lt (vl (u32 a0.2.2)) fun v2 =>
 some (v0, v1, v2)
def k9 : Ct := lct 9 [.agg y32] (fun x => u9 x.1) (fun r : Y50 => AV.agg [AV.ow 107 true y107 r.1, AV.ow 109 true y109 r.2.1.1, AV.ow 9 true Ty.str r.2.1.2.1, AV.ow 144 true y144 r.2.1.2.2, AV.ow 52 true y52 r.2.2]) (fun _ => ())
theorem o9 : Ok Tryz.prog k9 := by
 refine okl tok [.cell 2 50] Tryz.func9 Tryz.ntmps9 rfl Tryz.results9 (by kernel_rfl) rfl ?_
 intro y ⟨a0, _⟩ r H Q hn hr
 have hT := tc o32 (tc o31 (tc o30 tn))
 refine qa tok hT [1, 2] (St.mk [p 1 (AV.ptr 1 0), p 2 (AV.ptr 2 0)] [(2, Ob.box 50 [AV.v (Value.slice none 0 0), AV.v (Value.slice none 0 0), AV.v (Value.slice none 0 0), AV.v (Value.slice none 0 0), AV.v (Value.slice none 0 0)]), (1, Ob.box 32 (cellsD false y32 a0))]) (by kernel_rfl) ?_
 refine qa tok hT [1, 2, 3] (St.mk [p 1 (AV.ptr 1 0), p 2 (AV.ptr 2 0), p 3 (AV.ptr 3 0)] [(3, Ob.box 50 [AV.v (Value.slice none 0 0), AV.v (Value.slice none 0 0), AV.v (Value.slice none 0 0), AV.v (Value.slice none 0 0), AV.v (Value.slice none 0 0)]), (2, Ob.box 50 [AV.v (Value.slice none 0 0), AV.v (Value.slice none 0 0), AV.v (Value.slice none 0 0), AV.v (Value.slice none 0 0), AV.v (Value.slice none 0 0)]), (1, Ob.box 32 (cellsD false y32 a0))]) (by kernel_rfl) ?_
 refine qd tok hT [1, 2, 3] (fun v0 => St.mk [p 1 (AV.ptr 1 0), p 2 (AV.ptr 2 0), p 3 (AV.ptr 3 0)] [(3, Ob.box 50 [AV.os 6 0, AV.v (Value.slice none 0 0), AV.v (Value.slice none 0 0), AV.v (Value.slice none 0 0), AV.v (Value.slice none 0 0)]), (6, Ob.arr 107 true y107 v0 0), (2, Ob.box 50 [AV.v (Value.slice none 0 0), AV.v (Value.slice none 0 0), AV.v (Value.slice none 0 0), AV.v (Value.slice none 0 0), AV.v (Value.slice none 0 0)]), (1, Ob.box 32 (cellsD false y32 a0))]) H (by kernel_rfl) fun v0 H => ?_
 refine qd tok hT [1, 2, 3] (fun v1 => St.mk [p 1 (AV.ptr 1 0), p 2 (AV.ptr 2 0), p 3 (AV.ptr 3 0)] [(3, Ob.box 50 [AV.os 6 0, AV.os 10 0, AV.os 1010 0, AV.os 2010 0, AV.v (Value.slice none 0 0)]), (2010, Ob.arr 144 true y144 v1.2.2 0), (1010, Ob.arr 9 true Ty.str v1.2.1 0), (10, Ob.arr 109 true y109 v1.1 0), (6, Ob.arr 107 true y107 v0 0), (2, Ob.box 50 [AV.v (Value.slice none 0 0), AV.v (Value.slice none 0 0), AV.v (Value.slice none 0 0), AV.v (Value.slice none 0 0), AV.v (Value.slice none 0 0)]), (1, Ob.box 32 (cellsD false y32 a0))]) H (by kernel_rfl) fun v1 H => ?_
 refine qd tok hT [2, 3] (fun v2 => St.mk [p 2 (AV.ptr 2 0), p 3 (AV.ptr 3 0)] [(3, Ob.box 50 [AV.os 6 0, AV.os 10 0, AV.os 1010 0, AV.os 2010 0, AV.os 14 0]), (14, Ob.arr 52 true y52 v2 0), (2010, Ob.arr 144 true y144 v1.2.2 0), (1010, Ob.arr 9 true Ty.str v1.2.1 0), (10, Ob.arr 109 true y109 v1.1 0), (6, Ob.arr 107 true y107 v0 0), (2, Ob.box 50 [AV.v (Value.slice none 0 0), AV.v (Value.slice none 0 0), AV.v (Value.slice none 0 0), AV.v (Value.slice none 0 0), AV.v (Value.slice none 0 0)]), (1, Ob.box 32 (cellsD false y32 a0))]) H (by kernel_rfl) fun v2 H => ?_
 refine qa tok hT [2] (St.mk [p 2 (AV.ptr 2 0)] [(2, Ob.box 50 [AV.os 6 0, AV.os 10 0, AV.os 1010 0, AV.os 2010 0, AV.os 14 0]), (3, Ob.box 50 [AV.os 6 0, AV.os 10 0, AV.os 1010 0, AV.os 2010 0, AV.os 14 0]), (14, Ob.arr 52 true y52 v2 0), (2010, Ob.arr 144 true y144 v1.2.2 0), (1010, Ob.arr 9 true Ty.str v1.2.1 0), (10, Ob.arr 109 true y109 v1.1 0), (6, Ob.arr 107 true y107 v0 0), (1, Ob.box 32 (cellsD false y32 a0))]) (by kernel_rfl) ?_
 exact vx_ret <| hr H (by kernel_rfl)
def u111 (a0 : Int) (a1 : Int) (a2 : Int) : Option (Bool) :=
 some (decide (a1 ≤ a0) && decide (a0 ≤ a2))
def k111 : Ct := lct 111 [.dat i64, .dat i64, .dat i64] (fun x => u111 x.1 x.2.1 x.2.2.1) (fun r : Bool => B r) (fun _ => ())
theorem o111 : Ok Tryz.prog k111 := by
 refine okl tok [.tmp 6] Tryz.func111 Tryz.ntmps111 rfl Tryz.results111 (by kernel_rfl) rfl ?_
 intro y ⟨a0, a1, a2, _⟩ r H Q hn hr
 have hT := @tn Tryz.prog
 refine qa tok hT [0, 1, 2] (St.mk [p 0 (J a0), p 1 (J a1), p 2 (J a2)] []) (by kernel_rfl) ?_
 refine qa tok hT [6] (St.mk [p 6 (B (decide (a1 ≤ a0) && decide (a0 ≤ a2)))] []) (by kernel_rfl) ?_
 exact vx_ret <| hr H (by kernel_rfl)
def u148 (a0 : Int) (a1 : Int) (a2 : Int) : Option (Bool) :=
 gd ((u111 a0 a1 a2).isSome = true ∧ True) <| 
 some (!vl (u111 a0 a1 a2))
def k148 : Ct := lct 148 [.dat i64, .dat (.pt i64), .dat (.pt i64)] (fun x => u148 x.1 x.2.1 x.2.2.1) (fun r : Bool => B r) (fun _ => ())
theorem o148 : Ok Tryz.prog k148 := by
 refine okl tok [.tmp 4] Tryz.func148 Tryz.ntmps148 rfl Tryz.results148 (by kernel_rfl) rfl ?_
 intro y ⟨a0, a1, a2, _⟩ r H Q hn hr
 have hT := tc o111 tn
 refine qa tok hT [0, 1, 2] (St.mk [p 0 (J a0), p 1 (D i64.pt a1), p 2 (D i64.pt a2)] []) (by kernel_rfl) ?_
 refine qb tok hT [4] (St.mk [p 4 (B !vl (u111 a0 a1 a2))] []) H (by kernel_rfl) fun H => ?_
 exact vx_ret <| hr H (by kernel_rfl)
def u181c148J0 : Unit → Option (Int)
 | _ =>
 some (-1)
def u181c148L1 (a0 : List Int) (a1 : Int × Int) (g1 : Int → Option (Int)) : Int → Option (Int)
 | v0 =>
 if (decide (v0 < (↑a0.length : Int))) = true then
  gd (ix v0 a0.length ∧ (u148 (a0.getD v0.toNat 0) a1.1 a1.2).isSome = true ∧ True) <| 
  if (vl (u148 (a0.getD v0.toNat 0) a1.1 a1.2)) = true then
   some v0
  else
   gd (in64 (v0 + 1) ∧ True) <| 
   g1 (v0 + 1)
 else
  u181c148J0 ()
def u181c148 (a0 : List Int) (a1 : Int × Int) : Option (Int) :=
 lp (u181c148L1 a0 a1) 0
def k181c148 : Ct := lct 181 [.dat i64.sl, .fn 148 (.pr i64.pt i64.pt)] (fun x => u181c148 x.1 x.2.1) (fun r : Int => I r) (fun _ => ())
theorem o181c148 : Ok Tryz.prog k181c148 := by
 refine okl tok [.tmp 4] Tryz.func181 Tryz.ntmps181 rfl Tryz.results181 (by kernel_rfl) rfl ?_
 intro y ⟨a0, a1, _⟩ r H Q hn hr
 have hT := tc o148 tn
 refine qa tok hT [0, 1] (St.mk [p 0 (L i64 a0), p 1 (AV.fn 148 [D i64.pt a1.1, D i64.pt a1.2])] []) (by kernel_rfl) ?_
 refine jn r (fun (_ : Unit) => St.mk [] []) (u181c148J0) (fun _ H => ?_) (fun _ n0 e0 t0 => ?_)
 ·refine qa tok hT [4] (St.mk [p 4 (I (-1))] []) (by kernel_rfl) ?_
  exact vx_ret <| hr H (by kernel_rfl)
 refine qa tok hT [0, 1, 7, 8] (St.mk [p 0 (L i64 a0), p 1 (AV.fn 148 [D i64.pt a1.1, D i64.pt a1.2]), p 7 (I (↑a0.length : Int)), p 8 (I 0)] []) (by kernel_rfl) ?_
 refine vx_block <| ?_
 refine lx (fun (v0 : Int) => St.mk [p 0 (L i64 a0), p 1 (AV.fn 148 [D i64.pt a1.1, D i64.pt a1.2]), p 7 (I (↑a0.length : Int)), p 8 (I v0)] []) 0 H (by kernel_rfl) fun _ g1 b1 e1 t1 v0 H => ?_
 refine qa tok hT [0, 1, 7, 8, 9] (St.mk [p 0 (L i64 a0), p 1 (AV.fn 148 [D i64.pt a1.1, D i64.pt a1.2]), p 7 (I (↑a0.length : Int)), p 8 (I v0), p 9 (B (decide (v0 < (↑a0.length : Int))))] []) (by kernel_rfl) ?_
 refine vx_seq <| ?_
 refine cd H (by kernel_rfl) (fun H => ?_) (fun H => ?_)
 ·refine vx_skip <| fx_seq <| vx_seq <| vx_block <| ?_
  refine qa tok hT [0, 1, 5, 7, 8] (St.mk [p 0 (L i64 a0), p 1 (AV.fn 148 [D i64.pt a1.1, D i64.pt a1.2]), p 5 (I v0), p 7 (I (↑a0.length : Int)), p 8 (I v0)] []) (by kernel_rfl) ?_
  refine qb tok hT [0, 1, 5, 7, 8, 16] (St.mk [p 0 (L i64 a0), p 1 (AV.fn 148 [D i64.pt a1.1, D i64.pt a1.2]), p 5 (I v0), p 7 (I (↑a0.length : Int)), p 8 (I v0), p 16 (B (vl (u148 (a0.getD v0.toNat 0) a1.1 a1.2)))] []) H (by kernel_rfl) fun H => ?_
  refine cd H (by kernel_rfl) (fun H => ?_) (fun H => ?_)
  ·refine qa tok hT [4] (St.mk [p 4 (I v0)] []) (by kernel_rfl) ?_
   exact vx_ret <| fx_blk_ret <| fx_seq_ret <| t1 <| fx_blk_ret <| t0 <| hr H (by kernel_rfl)
  refine vx_skip <| fx_blk <| fx_seq <| ?_
  refine zb tok hT [0, 1, 7, 8] (St.mk [p 0 (L i64 a0), p 1 (AV.fn 148 [D i64.pt a1.1, D i64.pt a1.2]), p 7 (I (↑a0.length : Int)), p 8 (I (v0 + 1))] []) H (by kernel_rfl) fun H => ?_
  exact b1 H (by kernel_rfl)
 exact vx_exit <| fx_seq_exit <| e1 <| fx_blk_exit rfl <| n0 H (by kernel_rfl)
def u145c148 (a0 : List Int) (a1 : Int × Int) : Option (Bool) :=
 gd ((u181c148 a0 a1).isSome = true ∧ True) <| lt (vl (u181c148 a0 a1)) fun v0 =>
 some (decide (0 ≤ v0))
def k145c148 : Ct := lct 145 [.dat i64.sl, .fn 148 (.pr (.pt i64) (.pt i64))] (fun x => u145c148 x.1 x.2.1) (fun r : Bool => B r) (fun _ => ())
theorem o145c148 : Ok Tryz.prog k145c148 := by
 refine okl tok [.tmp 4] Tryz.func145 Tryz.ntmps145 rfl Tryz.results145 (by kernel_rfl) rfl ?_
 intro y ⟨a0, a1, _⟩ r H Q hn hr
 have hT := tc o181c148 (tc o148 tn)
 refine qa tok hT [0, 1] (St.mk [p 0 (L i64 a0), p 1 (AV.fn 148 [D i64.pt a1.1, D i64.pt a1.2])] []) (by kernel_rfl) ?_
 refine qd tok hT [4] (fun v0 => St.mk [p 4 (B (decide (0 ≤ v0)))] []) H (by kernel_rfl) fun v0 H => ?_
 exact vx_ret <| hr H (by kernel_rfl)
def u113 (a0 : List Int) (a1 : Int) (a2 : Int) : Option (Bool) :=
 gd ((u145c148 a0 (a1, a2)).isSome = true ∧ True) <| 
 some (!vl (u145c148 a0 (a1, a2)))
def k113 : Ct := lct 113 [.dat i64.sl, .dat i64, .dat i64] (fun x => u113 x.1 x.2.1 x.2.2.1) (fun r : Bool => B r) (fun _ => ())
theorem o113 : Ok Tryz.prog k113 := by
 refine okl tok [.tmp 6] Tryz.func113 Tryz.ntmps113 rfl Tryz.results113 (by kernel_rfl) rfl ?_
 intro y ⟨a0, a1, a2, _⟩ r H Q hn hr
 have hT := tc o145c148 (tc o148 tn)
 refine qa tok hT [0, 4, 5] (St.mk [p 0 (L i64 a0), p 4 (AV.ptr 4 0), p 5 (AV.ptr 5 0)] [(5, Ob.box 2 [J a2]), (4, Ob.box 2 [J a1])]) (by kernel_rfl) ?_
 refine qb tok hT [6] (St.mk [p 6 (B !vl (u145c148 a0 (a1, a2)))] [(5, Ob.box 2 [J a2]), (4, Ob.box 2 [J a1])]) H (by kernel_rfl) fun H => ?_
 exact vx_ret <| hr H (by kernel_rfl)
def u110 (a0 : List Int) : Option (Int) :=
 some (↑a0.length : Int)
def k110 : Ct := lct 110 [.dat i64.sl] (fun x => u110 x.1) (fun r : Int => I r) (fun _ => ())
theorem o110 : Ok Tryz.prog k110 := by
 refine okl tok [.tmp 2] Tryz.func110 Tryz.ntmps110 rfl Tryz.results110 (by kernel_rfl) rfl ?_
 intro y ⟨a0, _⟩ r H Q hn hr
 have hT := @tn Tryz.prog
 refine qa tok hT [0] (St.mk [p 0 (L i64 a0)] []) (by kernel_rfl) ?_
 refine qa tok hT [2] (St.mk [p 2 (I (↑a0.length : Int))] []) (by kernel_rfl) ?_
 exact vx_ret <| hr H (by kernel_rfl)
def u112J0 : Unit → Option (Bool)
 | _ =>
 some true
def u112L1 (a0 : Y52) (g1 : Int → Option (Bool)) : Int → Option (Bool)
 | v0 =>
 if (decide (v0 < (↑a0.1.length : Int))) = true then
  gd (ix v0 a0.1.length ∧ True) <| 
  gd (((a0.1.getD v0.toNat (0 : Int) != (-1 : Int)) = false ∧ (v0 == (0 : Int)) = true ∧ True → ix (0 : Int) a0.2.1.length) ∧ (decide ((0 : Int) < v0) = true ∧ (v0 == (0 : Int) && (a0.1.getD v0.toNat (0 : Int) != (-1 : Int) || a0.2.1.getD (Int.toNat (0 : Int)) (0 : Int) != (0 : Int))) = false ∧ True → in64 (v0 - (1 : Int))) ∧ (decide ((0 : Int) < v0) = true ∧ (v0 == (0 : Int) && (a0.1.getD v0.toNat (0 : Int) != (-1 : Int) || a0.2.1.getD (Int.toNat (0 : Int)) (0 : Int) != (0 : Int))) = false ∧ True → (u111 (a0.1.getD v0.toNat (0 : Int)) (0 : Int) (v0 - (1 : Int))).isSome = true) ∧ True) <| 
  if (v0 == (0 : Int) && (a0.1.getD v0.toNat (0 : Int) != (-1 : Int) || a0.2.1.getD (Int.toNat (0 : Int)) (0 : Int) != (0 : Int)) || decide ((0 : Int) < v0) && !vl (u111 (a0.1.getD v0.toNat (0 : Int)) (0 : Int) (v0 - (1 : Int)))) = true then
   some false
  else
   gd (in64 (v0 + 1) ∧ True) <| 
   g1 (v0 + 1)
 else
  u112J0 ()
def u112 (a0 : Y52) : Option (Bool) :=
 lp (u112L1 a0) 0
def k112 : Ct := lct 112 [.agg y52] (fun x => u112 x.1) (fun r : Bool => B r) (fun _ => ())
theorem o112 : Ok Tryz.prog k112 := by
 refine okl tok [.tmp 2] Tryz.func112 Tryz.ntmps112 rfl Tryz.results112 (by kernel_rfl) rfl ?_
 intro y ⟨a0, _⟩ r H Q hn hr
 have hT := tc o111 tn
 refine qa tok hT [1] (St.mk [p 1 (AV.ptr 1 0)] [(1, Ob.box 52 (cellsD false y52 a0))]) (by kernel_rfl) ?_
 refine jn r (fun (_ : Unit) => St.mk [] []) (u112J0) (fun _ H => ?_) (fun _ n0 e0 t0 => ?_)
 ·refine qa tok hT [2] (St.mk [p 2 (B true)] []) (by kernel_rfl) ?_
  exact vx_ret <| hr H (by kernel_rfl)
 refine qa tok hT [1, 6, 7, 8] (St.mk [p 1 (AV.ptr 1 0), p 6 (L i64 a0.1), p 7 (I (↑a0.1.length : Int)), p 8 (I 0)] [(1, Ob.box 52 (cellsD false y52 a0))]) (by kernel_rfl) ?_
 refine vx_block <| ?_
 refine lx (fun (v0 : Int) => St.mk [p 1 (AV.ptr 1 0), p 6 (L i64 a0.1), p 7 (I (↑a0.1.length : Int)), p 8 (I v0)] [(1, Ob.box 52 (cellsD false y52 a0))]) 0 H (by kernel_rfl) fun _ g1 b1 e1 t1 v0 H => ?_
 refine qa tok hT [1, 6, 7, 8, 9] (St.mk [p 1 (AV.ptr 1 0), p 6 (L i64 a0.1), p 7 (I (↑a0.1.length : Int)), p 8 (I v0), p 9 (B (decide (v0 < (↑a0.1.length : Int))))] [(1, Ob.box 52 (cellsD false y52 a0))]) (by kernel_rfl) ?_
 refine vx_seq <| ?_
 refine cd H (by kernel_rfl) (fun H => ?_) (fun H => ?_)
 ·refine vx_skip <| fx_seq <| vx_seq <| vx_block <| ?_
  refine qb tok hT [1, 3, 4, 6, 7, 8] (St.mk [p 1 (AV.ptr 1 0), p 3 (I v0), p 4 (J (a0.1.getD v0.toNat 0)), p 6 (L i64 a0.1), p 7 (I (↑a0.1.length : Int)), p 8 (I v0)] [(1, Ob.box 52 (cellsD false y52 a0))]) H (by kernel_rfl) fun H => ?_
  refine qb tok hT [1, 6, 7, 8, 16, 17, 18, 19, 20, 21, 22, 23, 24, 27, 28, 29, 30, 31, 32, 33, 34, 35, 36] (St.mk [p (1 : Nat) (AV.ptr (1 : Nat) (0 : Nat)), p (6 : Nat) (L i64 a0.1), p (7 : Nat) (I (↑a0.1.length : Int)), p (8 : Nat) (I v0), p (36 : Nat) (B (v0 == (0 : Int) && (a0.1.getD v0.toNat (0 : Int) != (-1 : Int) || a0.2.1.getD (Int.toNat (0 : Int)) (0 : Int) != (0 : Int)) || decide ((0 : Int) < v0) && !vl (u111 (a0.1.getD v0.toNat (0 : Int)) (0 : Int) (v0 - (1 : Int)))))] [((1 : Nat), Ob.box (nat_lit 52) (cellsD false y52 a0))]) H (by kernel_rfl) fun H => ?_
  refine cd H (by kernel_rfl) (fun H => ?_) (fun H => ?_)
  ·refine qa tok hT [2] (St.mk [p 2 (B false)] [(1, Ob.box 52 (cellsD false y52 a0))]) (by kernel_rfl) ?_
   exact vx_ret <| fx_blk_ret <| fx_seq_ret <| t1 <| fx_blk_ret <| t0 <| hr H (by kernel_rfl)
  refine vx_skip <| fx_blk <| fx_seq <| ?_
  refine zb tok hT [1, 6, 7, 8] (St.mk [p 1 (AV.ptr 1 0), p 6 (L i64 a0.1), p 7 (I (↑a0.1.length : Int)), p 8 (I (v0 + 1))] [(1, Ob.box 52 (cellsD false y52 a0))]) H (by kernel_rfl) fun H => ?_
  exact b1 H (by kernel_rfl)
 exact vx_exit <| fx_seq_exit <| e1 <| fx_blk_exit rfl <| n0 H (by kernel_rfl)
def u75 (a0 : Y52) (a1 : Int) : Option (Bool) :=
 gd ((u110 a0.1).isSome = true ∧ True) <| lt (vl (u110 a0.1)) fun v0 =>
 gd ((u111 v0 1 8).isSome = true ∧ (vl (u111 v0 1 8) = true ∧ True → (u110 a0.2.1).isSome = true) ∧ ((vl (u111 v0 1 8) && vl (u110 a0.2.1) == v0) = true ∧ True → (u110 a0.2.2.1).isSome = true) ∧ ((vl (u111 v0 1 8) && vl (u110 a0.2.1) == v0 && vl (u110 a0.2.2.1) == v0) = true ∧ True → (u112 a0).isSome = true) ∧ ((vl (u111 v0 1 8) && vl (u110 a0.2.1) == v0 && vl (u110 a0.2.2.1) == v0 && vl (u112 a0)) = true ∧ True → (u113 a0.2.1 0 1000).isSome = true) ∧ ((vl (u111 v0 1 8) && vl (u110 a0.2.1) == v0 && vl (u110 a0.2.2.1) == v0 && vl (u112 a0) && vl (u113 a0.2.1 0 1000)) = true ∧ True → (u113 a0.2.2.1 0 500).isSome = true) ∧ ((vl (u111 v0 1 8) && vl (u110 a0.2.1) == v0 && vl (u110 a0.2.2.1) == v0 && vl (u112 a0) && vl (u113 a0.2.1 0 1000) && vl (u113 a0.2.2.1 0 500)) = true ∧ True → (u110 a0.2.2.2).isSome = true) ∧ ((vl (u111 v0 1 8) && vl (u110 a0.2.1) == v0 && vl (u110 a0.2.2.1) == v0 && vl (u112 a0) && vl (u113 a0.2.1 0 1000) && vl (u113 a0.2.2.1 0 500) && vl (u110 a0.2.2.2) == a1) = true ∧ True → in64 (v0 - 1)) ∧ ((vl (u111 v0 1 8) && vl (u110 a0.2.1) == v0 && vl (u110 a0.2.2.1) == v0 && vl (u112 a0) && vl (u113 a0.2.1 0 1000) && vl (u113 a0.2.2.1 0 500) && vl (u110 a0.2.2.2) == a1) = true ∧ True → (u113 a0.2.2.2 0 (v0 - 1)).isSome = true) ∧ True) <| lt ((vl (u110 a0.2.1), vl (u110 a0.2.2.1), vl (u110 a0.2.2.2))) fun (v1, v2, v3) =>
 some (vl (u111 v0 1 8) && v1 == v0 && v2 == v0 && vl (u112 a0) && vl (u113 a0.2.1 0 1000) && vl (u113 a0.2.2.1 0 500) && v3 == a1 && vl (u113 a0.2.2.2 0 (v0 - 1)))
def k75 : Ct := lct 75 [.agg y52, .dat i64] (fun x => u75 x.1 x.2.1) (fun r : Bool => B r) (fun _ => ())
theorem o75 : Ok Tryz.prog k75 := by
 refine okl tok [.tmp 4] Tryz.func75 Tryz.ntmps75 rfl Tryz.results75 (by kernel_rfl) rfl ?_
 intro y ⟨a0, a1, _⟩ r H Q hn hr
 have hT := tc o113 (tc o110 (tc o112 (tc o111 tn)))
 refine qa tok hT [1, 2] (St.mk [p 1 (J a1), p 2 (AV.ptr 2 0)] [(2, Ob.box 52 (cellsD false y52 a0))]) (by kernel_rfl) ?_
 refine qd tok hT [1, 2, 5] (fun v0 => St.mk [p 1 (J a1), p 2 (AV.ptr 2 0), p 5 (I v0)] [(2, Ob.box 52 (cellsD false y52 a0))]) H (by kernel_rfl) fun v0 H => ?_
 refine qd tok hT [4] (fun (v1, v2, v3) => St.mk [p 4 (B (vl (u111 v0 1 8) && v1 == v0 && v2 == v0 && vl (u112 a0) && vl (u113 a0.2.1 0 1000) && vl (u113 a0.2.2.1 0 500) && v3 == a1 && vl (u113 a0.2.2.2 0 (v0 - 1))))] [(2, Ob.box 52 (cellsD false y52 a0))]) H (by kernel_rfl) fun ⟨v1, v2, v3⟩ H => ?_
 exact vx_ret <| hr H (by kernel_rfl)
def u119 (a0 : Y107) : Option (Bool) :=
 some (a0.2.1 == 1 && (↑a0.2.2.1.length : Int) == 2)
def k119 : Ct := lct 119 [.agg y107] (fun x => u119 x.1) (fun r : Bool => B r) (fun _ => ())
theorem o119 : Ok Tryz.prog k119 := by
 refine okl tok [.tmp 2] Tryz.func119 Tryz.ntmps119 rfl Tryz.results119 (by kernel_rfl) rfl ?_
 intro y ⟨a0, _⟩ r H Q hn hr
 have hT := @tn Tryz.prog
 refine qa tok hT [1] (St.mk [p 1 (AV.ptr 1 0)] [(1, Ob.box 107 (cellsD false y107 a0))]) (by kernel_rfl) ?_
 refine qa tok hT [2] (St.mk [p 2 (B (a0.2.1 == 1 && (↑a0.2.2.1.length : Int) == 2))] [(1, Ob.box 107 (cellsD false y107 a0))]) (by kernel_rfl) ?_
 exact vx_ret <| hr H (by kernel_rfl)
def u128 (a0 : List ByteArray) : Option (Int) :=
 some (↑a0.length : Int)
def k128 : Ct := lct 128 [.dat Ty.str.sl] (fun x => u128 x.1) (fun r : Int => I r) (fun _ => ())
theorem o128 : Ok Tryz.prog k128 := by
 refine okl tok [.tmp 2] Tryz.func128 Tryz.ntmps128 rfl Tryz.results128 (by kernel_rfl) rfl ?_
 intro y ⟨a0, _⟩ r H Q hn hr
 have hT := @tn Tryz.prog
 refine qa tok hT [0] (St.mk [p 0 (L Ty.str a0)] []) (by kernel_rfl) ?_
 refine qa tok hT [2] (St.mk [p 2 (I (↑a0.length : Int))] []) (by kernel_rfl) ?_
 exact vx_ret <| hr H (by kernel_rfl)
def u123 (a0 : Y50) : Option (Bool) :=
 if ((↑a0.2.1.1.length : Int) == 0) = true then
  some false
 else
  gd (in64 ((↑a0.2.1.1.length : Int) - 1) ∧ ix ((↑a0.2.1.1.length : Int) - 1) a0.2.1.1.length ∧ True) <| lt (a0.2.1.1.getD ((↑a0.2.1.1.length : Int) - 1).toNat (dflt y109)) fun v0 =>
  gd ((u128 a0.2.1.2.1).isSome = true ∧ in64 (vl (u128 a0.2.1.2.1) - 1) ∧ True) <| lt (vl (u128 a0.2.1.2.1)) fun v1 =>
  gd (ix v0.2.1 a0.1.length ∧ (u119 (a0.1.getD v0.2.1.toNat (dflt y107))).isSome = true ∧ ((!vl (u119 (a0.1.getD v0.2.1.toNat (dflt y107)))) = false ∧ True → ix (1 : Int) v0.2.2.length) ∧ ((!vl (u119 (a0.1.getD v0.2.1.toNat (dflt y107))) || v0.2.2.getD (Int.toNat (1 : Int)) (0 : Int) != v1 - (1 : Int)) = false ∧ True → ix (0 : Int) v0.2.2.length) ∧ ((!vl (u119 (a0.1.getD v0.2.1.toNat (dflt y107))) || v0.2.2.getD (Int.toNat (1 : Int)) (0 : Int) != v1 - (1 : Int) || v0.2.2.getD (Int.toNat (0 : Int)) (0 : Int) == v1 - (1 : Int)) = false ∧ True → ix (v1 - (1 : Int)) a0.2.1.2.1.length) ∧ True) <| 
  if (!vl (u119 (a0.1.getD v0.2.1.toNat (dflt y107))) || v0.2.2.getD (Int.toNat (1 : Int)) (0 : Int) != v1 - (1 : Int) || v0.2.2.getD (Int.toNat (0 : Int)) (0 : Int) == v1 - (1 : Int) || !decide (a0.2.1.2.1.getD (v1 - (1 : Int)).toNat (dflt Ty.str) = v0.1)) = true then
   some false
  else
   gd (ix (v1 - 1) a0.2.2.length ∧ True) <| lt (a0.2.2.getD (v1 - 1).toNat (dflt y52)) fun v2 =>
   gd ((((↑v2.2.2.2.length : Int) == 1 && (↑v2.1.length : Int) == 1) = true ∧ True → ix 0 v2.2.2.1.length) ∧ True) <| 
   some ((↑v2.2.2.2.length : Int) == (1 : Int) && (↑v2.1.length : Int) == (1 : Int) && v2.2.2.1.getD (Int.toNat (0 : Int)) (0 : Int) == (0 : Int))
def k123 : Ct := lct 123 [.agg y50] (fun x => u123 x.1) (fun r : Bool => B r) (fun _ => ())
theorem o123 : Ok Tryz.prog k123 := by
 refine okl tok [.tmp 2] Tryz.func123 Tryz.ntmps123 rfl Tryz.results123 (by kernel_rfl) rfl ?_
 intro y ⟨a0, _⟩ r H Q hn hr
 have hT := tc o119 (tc o128 tn)
 refine qa tok hT [1] (St.mk [p 1 (AV.ptr 1 0)] [(1, Ob.box 50 (cellsD false y50 a0))]) (by kernel_rfl) ?_
 refine qa tok hT [1, 3] (St.mk [p 1 (AV.ptr 1 0), p 3 (AV.ptr 3 0)] [(3, Ob.box 47 (cellsD false y47 a0.2.1)), (1, Ob.box 50 (cellsD false y50 a0))]) (by kernel_rfl) ?_
 refine vx_seq <| ?_
 refine qa tok hT [1, 3, 12] (St.mk [p 1 (AV.ptr 1 0), p 3 (AV.ptr 3 0), p 12 (B ((↑a0.2.1.1.length : Int) == 0))] [(3, Ob.box 47 (cellsD false y47 a0.2.1)), (1, Ob.box 50 (cellsD false y50 a0))]) (by kernel_rfl) ?_
 refine cd H (by kernel_rfl) (fun H => ?_) (fun H => ?_)
 ·refine qa tok hT [2] (St.mk [p 2 (B false)] [(3, Ob.box 47 (cellsD false y47 a0.2.1)), (1, Ob.box 50 (cellsD false y50 a0))]) (by kernel_rfl) ?_
  exact vx_ret <| fx_seq_ret <| hr H (by kernel_rfl)
 refine vx_skip <| fx_seq <| ?_
 refine qd tok hT [1, 3, 4] (fun v0 => St.mk [p 1 (AV.ptr 1 0), p 3 (AV.ptr 3 0), p 4 (AV.ptr 4 0)] [(4, Ob.box 109 (cellsD false y109 v0)), (3, Ob.box 47 (cellsD false y47 a0.2.1)), (1, Ob.box 50 (cellsD false y50 a0))]) H (by kernel_rfl) fun v0 H => ?_
 refine qd tok hT [1, 3, 4, 5] (fun v1 => St.mk [p 1 (AV.ptr 1 0), p 3 (AV.ptr 3 0), p 4 (AV.ptr 4 0), p 5 (I (v1 - 1))] [(4, Ob.box 109 (cellsD false y109 v0)), (3, Ob.box 47 (cellsD false y47 a0.2.1)), (1, Ob.box 50 (cellsD false y50 a0))]) H (by kernel_rfl) fun v1 H => ?_
 refine vx_seq <| ?_
 refine qb tok hT [1, 5, 59] (St.mk [p (1 : Nat) (AV.ptr (1 : Nat) (0 : Nat)), p (5 : Nat) (I (v1 - (1 : Int))), p (59 : Nat) (B (!vl (u119 (a0.1.getD v0.2.1.toNat (dflt y107))) || v0.2.2.getD (Int.toNat (1 : Int)) (0 : Int) != v1 - (1 : Int) || v0.2.2.getD (Int.toNat (0 : Int)) (0 : Int) == v1 - (1 : Int) || !decide (a0.2.1.2.1.getD (v1 - (1 : Int)).toNat (dflt Ty.str) = v0.1)))] [((4 : Nat), Ob.box (nat_lit 109) (cellsD false y109 v0)), ((3 : Nat), Ob.box (nat_lit 47) (cellsD false y47 a0.2.1)), ((1 : Nat), Ob.box (nat_lit 50) (cellsD false y50 a0))]) H (by kernel_rfl) fun H => ?_
 refine cd H (by kernel_rfl) (fun H => ?_) (fun H => ?_)
 ·refine qa tok hT [2] (St.mk [p 2 (B false)] [(4, Ob.box 109 (cellsD false y109 v0)), (3, Ob.box 47 (cellsD false y47 a0.2.1)), (1, Ob.box 50 (cellsD false y50 a0))]) (by kernel_rfl) ?_
  exact vx_ret <| fx_seq_ret <| hr H (by kernel_rfl)
 refine vx_skip <| fx_seq <| ?_
 refine qd tok hT [6] (fun v2 => St.mk [p 6 (AV.ptr 6 0)] [(6, Ob.box 52 (cellsD false y52 v2)), (4, Ob.box 109 (cellsD false y109 v0)), (3, Ob.box 47 (cellsD false y47 a0.2.1)), (1, Ob.box 50 (cellsD false y50 a0))]) H (by kernel_rfl) fun v2 H => ?_
 refine qb tok hT [2] (St.mk [p (2 : Nat) (B ((↑v2.2.2.2.length : Int) == (1 : Int) && (↑v2.1.length : Int) == (1 : Int) && v2.2.2.1.getD (Int.toNat (0 : Int)) (0 : Int) == (0 : Int)))] [((6 : Nat), Ob.box (nat_lit 52) (cellsD false y52 v2)), ((4 : Nat), Ob.box (nat_lit 109) (cellsD false y109 v0)), ((3 : Nat), Ob.box (nat_lit 47) (cellsD false y47 a0.2.1)), ((1 : Nat), Ob.box (nat_lit 50) (cellsD false y50 a0))]) H (by kernel_rfl) fun H => ?_
 exact vx_ret <| hr H (by kernel_rfl)
def u156J0 : Unit → Option (Int)
 | _ =>
 some (-1)
def u156L1 (a1 : ByteArray) (a0 : List ByteArray) (g1 : Int → Option (Int)) : Int → Option (Int)
 | v0 =>
 if (decide (v0 < (↑a0.length : Int))) = true then
  gd (ix v0 a0.length ∧ True) <| 
  if (decide (a1 = a0.getD v0.toNat (dflt Ty.str))) = true then
   some v0
  else
   gd (in64 (v0 + 1) ∧ True) <| 
   g1 (v0 + 1)
 else
  u156J0 ()
def u156 (a0 : List ByteArray) (a1 : ByteArray) : Option (Int) :=
 lp (u156L1 a1 a0) 0
def k156 : Ct := lct 156 [.dat Ty.str.sl, .dat Ty.str] (fun x => u156 x.1 x.2.1) (fun r : Int => I r) (fun _ => ())
theorem o156 : Ok Tryz.prog k156 := by
 refine okl tok [.tmp 4] Tryz.func156 Tryz.ntmps156 rfl Tryz.results156 (by kernel_rfl) rfl ?_
 intro y ⟨a0, a1, _⟩ r H Q hn hr
 have hT := @tn Tryz.prog
 refine qa tok hT [0, 1] (St.mk [p 0 (L Ty.str a0), p 1 (U a1)] []) (by kernel_rfl) ?_
 refine jn r (fun (_ : Unit) => St.mk [] []) (u156J0) (fun _ H => ?_) (fun _ n0 e0 t0 => ?_)
 ·refine qa tok hT [4] (St.mk [p 4 (I (-1))] []) (by kernel_rfl) ?_
  exact vx_ret <| hr H (by kernel_rfl)
 refine qa tok hT [0, 1, 7, 8] (St.mk [p 0 (L Ty.str a0), p 1 (U a1), p 7 (I (↑a0.length : Int)), p 8 (I 0)] []) (by kernel_rfl) ?_
 refine vx_block <| ?_
 refine lx (fun (v0 : Int) => St.mk [p 0 (L Ty.str a0), p 1 (U a1), p 7 (I (↑a0.length : Int)), p 8 (I v0)] []) 0 H (by kernel_rfl) fun _ g1 b1 e1 t1 v0 H => ?_
 refine qa tok hT [0, 1, 7, 8, 9] (St.mk [p 0 (L Ty.str a0), p 1 (U a1), p 7 (I (↑a0.length : Int)), p 8 (I v0), p 9 (B (decide (v0 < (↑a0.length : Int))))] []) (by kernel_rfl) ?_
 refine vx_seq <| ?_
 refine cd H (by kernel_rfl) (fun H => ?_) (fun H => ?_)
 ·refine vx_skip <| fx_seq <| vx_seq <| vx_block <| ?_
  refine qa tok hT [0, 1, 5, 7, 8] (St.mk [p 0 (L Ty.str a0), p 1 (U a1), p 5 (I v0), p 7 (I (↑a0.length : Int)), p 8 (I v0)] []) (by kernel_rfl) ?_
  refine qb tok hT [0, 1, 5, 7, 8, 16] (St.mk [p 0 (L Ty.str a0), p 1 (U a1), p 5 (I v0), p 7 (I (↑a0.length : Int)), p 8 (I v0), p 16 (B (decide (a1 = a0.getD v0.toNat (dflt Ty.str))))] []) H (by kernel_rfl) fun H => ?_
  refine cd H (by kernel_rfl) (fun H => ?_) (fun H => ?_)
  ·refine qa tok hT [4] (St.mk [p 4 (I v0)] []) (by kernel_rfl) ?_
   exact vx_ret <| fx_blk_ret <| fx_seq_ret <| t1 <| fx_blk_ret <| t0 <| hr H (by kernel_rfl)
  refine vx_skip <| fx_blk <| fx_seq <| ?_
  refine zb tok hT [0, 1, 7, 8] (St.mk [p 0 (L Ty.str a0), p 1 (U a1), p 7 (I (↑a0.length : Int)), p 8 (I (v0 + 1))] []) H (by kernel_rfl) fun H => ?_
  exact b1 H (by kernel_rfl)
 exact vx_exit <| fx_seq_exit <| e1 <| fx_blk_exit rfl <| n0 H (by kernel_rfl)
def u122 (a0 : Y47) (a1 : ByteArray) : Option (Int) :=
 gd ((u156 a0.2.1 a1).isSome = true ∧ True) <| lt (vl (u156 a0.2.1 a1)) fun v0 =>
 some v0
def k122 : Ct := lct 122 [.agg y47, .dat Ty.str] (fun x => u122 x.1 x.2.1) (fun r : Int => I r) (fun _ => ())
theorem o122 : Ok Tryz.prog k122 := by
 refine okl tok [.tmp 4] Tryz.func122 Tryz.ntmps122 rfl Tryz.results122 (by kernel_rfl) rfl ?_
 intro y ⟨a0, a1, _⟩ r H Q hn hr
 have hT := tc o156 tn
 refine qa tok hT [1, 2] (St.mk [p 1 (U a1), p 2 (AV.ptr 2 0)] [(2, Ob.box 47 (cellsD false y47 a0))]) (by kernel_rfl) ?_
 refine qd tok hT [4] (fun v0 => St.mk [p 4 (I v0)] [(2, Ob.box 47 (cellsD false y47 a0))]) H (by kernel_rfl) fun v0 H => ?_
 exact vx_ret <| hr H (by kernel_rfl)
def u155 (a0 : Y109) (a1 : ByteArray) : Option (Bool) :=
 some (decide (a0.1 = a1))
def k155 : Ct := lct 155 [.agg y109, .dat (.pt Ty.str)] (fun x => u155 x.1 x.2.1) (fun r : Bool => B r) (fun _ => ())
theorem o155 : Ok Tryz.prog k155 := by
 refine okl tok [.tmp 3] Tryz.func155 Tryz.ntmps155 rfl Tryz.results155 (by kernel_rfl) rfl ?_
 intro y ⟨a0, a1, _⟩ r H Q hn hr
 have hT := @tn Tryz.prog
 refine qa tok hT [1, 2] (St.mk [p 1 (D Ty.str.pt a1), p 2 (AV.ptr 2 0)] [(2, Ob.box 109 (cellsD false y109 a0))]) (by kernel_rfl) ?_
 refine qa tok hT [3] (St.mk [p 3 (B (decide (a0.1 = a1)))] [(2, Ob.box 109 (cellsD false y109 a0))]) (by kernel_rfl) ?_
 exact vx_ret <| hr H (by kernel_rfl)
def u154c155J0 : Unit → Option (Int)
 | _ =>
 some (-1)
def u154c155L1 (a0 : List Y109) (a1 : ByteArray) (g1 : Int → Option (Int)) : Int → Option (Int)
 | v0 =>
 if (decide (v0 < (↑a0.length : Int))) = true then
  gd (ix v0 a0.length ∧ (u155 (a0.getD v0.toNat (dflt y109)) a1).isSome = true ∧ True) <| 
  if (vl (u155 (a0.getD v0.toNat (dflt y109)) a1)) = true then
   some v0
  else
   gd (in64 (v0 + 1) ∧ True) <| 
   g1 (v0 + 1)
 else
  u154c155J0 ()
def u154c155 (a0 : List Y109) (a1 : ByteArray) : Option (Int) :=
 lp (u154c155L1 a0 a1) 0
def k154c155 : Ct := lct 154 [.dat y109.sl, .fn 155 (.pt Ty.str)] (fun x => u154c155 x.1 x.2.1) (fun r : Int => I r) (fun _ => ())
theorem o154c155 : Ok Tryz.prog k154c155 := by
 refine okl tok [.tmp 4] Tryz.func154 Tryz.ntmps154 rfl Tryz.results154 (by kernel_rfl) rfl ?_
 intro y ⟨a0, a1, _⟩ r H Q hn hr
 have hT := tc o155 tn
 refine qa tok hT [0, 1] (St.mk [p 0 (L y109 a0), p 1 (AV.fn 155 [D Ty.str.pt a1])] []) (by kernel_rfl) ?_
 refine jn r (fun (_ : Unit) => St.mk [] []) (u154c155J0) (fun _ H => ?_) (fun _ n0 e0 t0 => ?_)
 ·refine qa tok hT [4] (St.mk [p 4 (I (-1))] []) (by kernel_rfl) ?_
  exact vx_ret <| hr H (by kernel_rfl)
 refine qa tok hT [0, 1, 7, 8] (St.mk [p 0 (L y109 a0), p 1 (AV.fn 155 [D Ty.str.pt a1]), p 7 (I (↑a0.length : Int)), p 8 (I 0)] []) (by kernel_rfl) ?_
 refine vx_block <| ?_
 refine lx (fun (v0 : Int) => St.mk [p 0 (L y109 a0), p 1 (AV.fn 155 [D Ty.str.pt a1]), p 7 (I (↑a0.length : Int)), p 8 (I v0)] []) 0 H (by kernel_rfl) fun _ g1 b1 e1 t1 v0 H => ?_
 refine qa tok hT [0, 1, 7, 8, 9] (St.mk [p 0 (L y109 a0), p 1 (AV.fn 155 [D Ty.str.pt a1]), p 7 (I (↑a0.length : Int)), p 8 (I v0), p 9 (B (decide (v0 < (↑a0.length : Int))))] []) (by kernel_rfl) ?_
 refine vx_seq <| ?_
 refine cd H (by kernel_rfl) (fun H => ?_) (fun H => ?_)
 ·refine vx_skip <| fx_seq <| vx_seq <| vx_block <| ?_
  refine qa tok hT [0, 1, 5, 7, 8] (St.mk [p 0 (L y109 a0), p 1 (AV.fn 155 [D Ty.str.pt a1]), p 5 (I v0), p 7 (I (↑a0.length : Int)), p 8 (I v0)] []) (by kernel_rfl) ?_
  refine qb tok hT [0, 1, 5, 7, 8, 16] (St.mk [p 0 (L y109 a0), p 1 (AV.fn 155 [D Ty.str.pt a1]), p 5 (I v0), p 7 (I (↑a0.length : Int)), p 8 (I v0), p 16 (B (vl (u155 (a0.getD v0.toNat (dflt y109)) a1)))] []) H (by kernel_rfl) fun H => ?_
  refine cd H (by kernel_rfl) (fun H => ?_) (fun H => ?_)
  ·refine qa tok hT [4] (St.mk [p 4 (I v0)] []) (by kernel_rfl) ?_
   exact vx_ret <| fx_blk_ret <| fx_seq_ret <| t1 <| fx_blk_ret <| t0 <| hr H (by kernel_rfl)
  refine vx_skip <| fx_blk <| fx_seq <| ?_
  refine zb tok hT [0, 1, 7, 8] (St.mk [p 0 (L y109 a0), p 1 (AV.fn 155 [D Ty.str.pt a1]), p 7 (I (↑a0.length : Int)), p 8 (I (v0 + 1))] []) H (by kernel_rfl) fun H => ?_
  exact b1 H (by kernel_rfl)
 exact vx_exit <| fx_seq_exit <| e1 <| fx_blk_exit rfl <| n0 H (by kernel_rfl)
def u121 (a0 : Y47) (a1 : ByteArray) : Option (Int) :=
 gd ((u154c155 a0.1 a1).isSome = true ∧ True) <| lt (vl (u154c155 a0.1 a1)) fun v0 =>
 some v0
def k121 : Ct := lct 121 [.agg y47, .dat Ty.str] (fun x => u121 x.1 x.2.1) (fun r : Int => I r) (fun _ => ())
theorem o121 : Ok Tryz.prog k121 := by
 refine okl tok [.tmp 4] Tryz.func121 Tryz.ntmps121 rfl Tryz.results121 (by kernel_rfl) rfl ?_
 intro y ⟨a0, a1, _⟩ r H Q hn hr
 have hT := tc o154c155 (tc o155 tn)
 refine qa tok hT [2, 3] (St.mk [p 2 (AV.ptr 2 0), p 3 (AV.ptr 3 0)] [(3, Ob.box 9 [U a1]), (2, Ob.box 47 (cellsD false y47 a0))]) (by kernel_rfl) ?_
 refine qd tok hT [4] (fun v0 => St.mk [p 4 (I v0)] [(3, Ob.box 9 [U a1]), (2, Ob.box 47 (cellsD false y47 a0))]) H (by kernel_rfl) fun v0 H => ?_
 exact vx_ret <| hr H (by kernel_rfl)
def u120 (a0 : ByteArray) : Option (Bool) :=
 gd ((u111 (↑a0.size : Int) (1 : Int) (8 : Int)).isSome = true ∧ (vl (u111 (↑a0.size : Int) (1 : Int) (8 : Int)) = true ∧ True → (u152 a0 (ByteArray.mk #[(97 : UInt8), (98 : UInt8), (99 : UInt8), (100 : UInt8), (101 : UInt8), (102 : UInt8), (103 : UInt8), (104 : UInt8), (105 : UInt8), (106 : UInt8), (107 : UInt8), (108 : UInt8), (109 : UInt8), (110 : UInt8), (111 : UInt8), (112 : UInt8), (113 : UInt8), (114 : UInt8), (115 : UInt8), (116 : UInt8), (117 : UInt8), (118 : UInt8), (119 : UInt8), (120 : UInt8), (121 : UInt8), (122 : UInt8), (48 : UInt8), (49 : UInt8), (50 : UInt8), (51 : UInt8), (52 : UInt8), (53 : UInt8), (54 : UInt8), (55 : UInt8), (56 : UInt8), (57 : UInt8)])).isSome = true) ∧ ((vl (u111 (↑a0.size : Int) (1 : Int) (8 : Int)) && decide (vl (u152 a0 (ByteArray.mk #[(97 : UInt8), (98 : UInt8), (99 : UInt8), (100 : UInt8), (101 : UInt8), (102 : UInt8), (103 : UInt8), (104 : UInt8), (105 : UInt8), (106 : UInt8), (107 : UInt8), (108 : UInt8), (109 : UInt8), (110 : UInt8), (111 : UInt8), (112 : UInt8), (113 : UInt8), (114 : UInt8), (115 : UInt8), (116 : UInt8), (117 : UInt8), (118 : UInt8), (119 : UInt8), (120 : UInt8), (121 : UInt8), (122 : UInt8), (48 : UInt8), (49 : UInt8), (50 : UInt8), (51 : UInt8), (52 : UInt8), (53 : UInt8), (54 : UInt8), (55 : UInt8), (56 : UInt8), (57 : UInt8)])) = ByteArray.mk #[])) = true ∧ True → ix (0 : Int) a0.size) ∧ ((vl (u111 (↑a0.size : Int) (1 : Int) (8 : Int)) && decide (vl (u152 a0 (ByteArray.mk #[(97 : UInt8), (98 : UInt8), (99 : UInt8), (100 : UInt8), (101 : UInt8), (102 : UInt8), (103 : UInt8), (104 : UInt8), (105 : UInt8), (106 : UInt8), (107 : UInt8), (108 : UInt8), (109 : UInt8), (110 : UInt8), (111 : UInt8), (112 : UInt8), (113 : UInt8), (114 : UInt8), (115 : UInt8), (116 : UInt8), (117 : UInt8), (118 : UInt8), (119 : UInt8), (120 : UInt8), (121 : UInt8), (122 : UInt8), (48 : UInt8), (49 : UInt8), (50 : UInt8), (51 : UInt8), (52 : UInt8), (53 : UInt8), (54 : UInt8), (55 : UInt8), (56 : UInt8), (57 : UInt8)])) = ByteArray.mk #[])) = true ∧ True → (u153 (ByteArray.mk #[(97 : UInt8), (98 : UInt8), (99 : UInt8), (100 : UInt8), (101 : UInt8), (102 : UInt8), (103 : UInt8), (104 : UInt8), (105 : UInt8), (106 : UInt8), (107 : UInt8), (108 : UInt8), (109 : UInt8), (110 : UInt8), (111 : UInt8), (112 : UInt8), (113 : UInt8), (114 : UInt8), (115 : UInt8), (116 : UInt8), (117 : UInt8), (118 : UInt8), (119 : UInt8), (120 : UInt8), (121 : UInt8), (122 : UInt8)]) (byteAt a0 (Int.toNat (0 : Int)))).isSome = true) ∧ True) <| lt ((vl (u152 a0 (ByteArray.mk #[97, 98, 99, 100, 101, 102, 103, 104, 105, 106, 107, 108, 109, 110, 111, 112, 113, 114, 115, 116, 117, 118, 119, 120, 121, 122, 48, 49, 50, 51, 52, 53, 54, 55, 56, 57])), vl (u153 (ByteArray.mk #[(97 : UInt8), (98 : UInt8), (99 : UInt8), (100 : UInt8), (101 : UInt8), (102 : UInt8), (103 : UInt8), (104 : UInt8), (105 : UInt8), (106 : UInt8), (107 : UInt8), (108 : UInt8), (109 : UInt8), (110 : UInt8), (111 : UInt8), (112 : UInt8), (113 : UInt8), (114 : UInt8), (115 : UInt8), (116 : UInt8), (117 : UInt8), (118 : UInt8), (119 : UInt8), (120 : UInt8), (121 : UInt8), (122 : UInt8)]) (byteAt a0 (Int.toNat (0 : Int)))))) fun (v0, v1) =>
 some (vl (u111 (↑a0.size : Int) 1 8) && decide (v0 = ByteArray.mk #[]) && decide (0 ≤ v1))
def k120 : Ct := lct 120 [.dat Ty.str] (fun x => u120 x.1) (fun r : Bool => B r) (fun _ => ())
theorem o120 : Ok Tryz.prog k120 := by
 refine okl tok [.tmp 2] Tryz.func120 Tryz.ntmps120 rfl Tryz.results120 (by kernel_rfl) rfl ?_
 intro y ⟨a0, _⟩ r H Q hn hr
 have hT := tc o153 (tc o152 (tc o111 tn))
 refine qa tok hT [0] (St.mk [p 0 (U a0)] []) (by kernel_rfl) ?_
 refine qd tok hT [2] (fun (v0, v1) => St.mk [p 2 (B (vl (u111 (↑a0.size : Int) 1 8) && decide (v0 = ByteArray.mk #[]) && decide (0 ≤ v1)))] []) H (by kernel_rfl) fun ⟨v0, v1⟩ H => ?_
 exact vx_ret <| hr H (by kernel_rfl)
def u151 (a0 : Y147) (a1 : Y147) : Option (Bool) :=
 some (a0.2.2.2 == a1.2.2.2)
def k151 : Ct := lct 151 [.agg y147, .agg y147] (fun x => u151 x.1 x.2.1) (fun r : Bool => B r) (fun _ => ())
theorem o151 : Ok Tryz.prog k151 := by
 refine okl tok [.tmp 4] Tryz.func151 Tryz.ntmps151 rfl Tryz.results151 (by kernel_rfl) rfl ?_
 intro y ⟨a0, a1, _⟩ r H Q hn hr
 have hT := @tn Tryz.prog
 refine qa tok hT [2, 3] (St.mk [p 2 (AV.ptr 2 0), p 3 (AV.ptr 3 0)] [(3, Ob.box 147 (cellsD false y147 a1)), (2, Ob.box 147 (cellsD false y147 a0))]) (by kernel_rfl) ?_
 refine qa tok hT [4] (St.mk [p 4 (B (a0.2.2.2 == a1.2.2.2))] [(3, Ob.box 147 (cellsD false y147 a1)), (2, Ob.box 147 (cellsD false y147 a0))]) (by kernel_rfl) ?_
 exact vx_ret <| hr H (by kernel_rfl)
def u150c151J0 : Unit → Option (Bool)
 | _ =>
 some true
def u150c151L1 (a1 : List Y147) (a0 : List Y147) (g1 : Int → Option (Bool)) : Int → Option (Bool)
 | v2 =>
 if (decide (v2 < (↑a0.length : Int))) = true then
  gd (ix v2 a0.length ∧ True) <| lt (a0.getD v2.toNat (dflt y147)) fun v3 =>
  gd (ix v2 a1.length ∧ True) <| lt (a1.getD v2.toNat (dflt y147)) fun v4 =>
  gd ((u151 v3 v4).isSome = true ∧ True) <| 
  if (!vl (u151 v3 v4)) = true then
   some false
  else
   gd (in64 (v2 + 1) ∧ True) <| 
   g1 (v2 + 1)
 else
  u150c151J0 ()
def u150c151 (a0 : List Y147) (a1 : List Y147) : Option (Bool) :=
 if ((↑a0.length : Int) != (↑a1.length : Int)) = true then
  some false
 else
  lp (u150c151L1 a1 a0) 0
def k150c151 : Ct := lct 150 [.dat y147.sl, .dat y147.sl, .nof 151] (fun x => u150c151 x.1 x.2.1) (fun r : Bool => B r) (fun _ => ())
theorem o150c151 : Ok Tryz.prog k150c151 := by
 refine okl tok [.tmp 6] Tryz.func150 Tryz.ntmps150 rfl Tryz.results150 (by kernel_rfl) rfl ?_
 intro y ⟨a0, a1, _, _⟩ r H Q hn hr
 have hT := tc o151 tn
 refine qa tok hT [0, 1, 2] (St.mk [p 0 (L y147 a0), p 1 (L y147 a1), p 2 (AV.fn 151 [])] []) (by kernel_rfl) ?_
 refine vx_seq <| ?_
 refine qa tok hT [0, 1, 2, 14] (St.mk [p 0 (L y147 a0), p 1 (L y147 a1), p 2 (AV.fn 151 []), p 14 (B ((↑a0.length : Int) != (↑a1.length : Int)))] []) (by kernel_rfl) ?_
 refine cd H (by kernel_rfl) (fun H => ?_) (fun H => ?_)
 ·refine qa tok hT [6] (St.mk [p 6 (B false)] []) (by kernel_rfl) ?_
  exact vx_ret <| fx_seq_ret <| hr H (by kernel_rfl)
 refine vx_skip <| fx_seq <| ?_
 refine jn r (fun (_ : Unit) => St.mk [] []) (u150c151J0) (fun _ H => ?_) (fun _ n0 e0 t0 => ?_)
 ·refine qa tok hT [6] (St.mk [p 6 (B true)] []) (by kernel_rfl) ?_
  exact vx_ret <| hr H (by kernel_rfl)
 refine qa tok hT [1, 2, 15, 16, 17] (St.mk [p 1 (L y147 a1), p 2 (AV.fn 151 []), p 15 (L y147 a0), p 16 (I (↑a0.length : Int)), p 17 (I 0)] []) (by kernel_rfl) ?_
 refine vx_block <| ?_
 refine lx (fun (v2 : Int) => St.mk [p 1 (L y147 a1), p 2 (AV.fn 151 []), p 15 (L y147 a0), p 16 (I (↑a0.length : Int)), p 17 (I v2)] []) 0 H (by kernel_rfl) fun _ g1 b1 e1 t1 v2 H => ?_
 refine qa tok hT [1, 2, 15, 16, 17, 18] (St.mk [p 1 (L y147 a1), p 2 (AV.fn 151 []), p 15 (L y147 a0), p 16 (I (↑a0.length : Int)), p 17 (I v2), p 18 (B (decide (v2 < (↑a0.length : Int))))] []) (by kernel_rfl) ?_
 refine vx_seq <| ?_
 refine cd H (by kernel_rfl) (fun H => ?_) (fun H => ?_)
 ·refine vx_skip <| fx_seq <| vx_seq <| vx_block <| ?_
  refine qd tok hT [1, 2, 7, 8, 15, 16, 17] (fun v3 => St.mk [p 1 (L y147 a1), p 2 (AV.fn 151 []), p 7 (I v2), p 8 (AV.ptr 8 0), p 15 (L y147 a0), p 16 (I (↑a0.length : Int)), p 17 (I v2)] [(8, Ob.box 147 (cellsD false y147 v3))]) H (by kernel_rfl) fun v3 H => ?_
  refine qd tok hT [1, 2, 8, 9, 15, 16, 17] (fun v4 => St.mk [p 1 (L y147 a1), p 2 (AV.fn 151 []), p 8 (AV.ptr 8 0), p 9 (AV.ptr 9 0), p 15 (L y147 a0), p 16 (I (↑a0.length : Int)), p 17 (I v2)] [(9, Ob.box 147 (cellsD false y147 v4)), (8, Ob.box 147 (cellsD false y147 v3))]) H (by kernel_rfl) fun v4 H => ?_
  refine qb tok hT [1, 2, 15, 16, 17, 30] (St.mk [p 1 (L y147 a1), p 2 (AV.fn 151 []), p 15 (L y147 a0), p 16 (I (↑a0.length : Int)), p 17 (I v2), p 30 (B !vl (u151 v3 v4))] [(9, Ob.box 147 (cellsD false y147 v4)), (8, Ob.box 147 (cellsD false y147 v3))]) H (by kernel_rfl) fun H => ?_
  refine cd H (by kernel_rfl) (fun H => ?_) (fun H => ?_)
  ·refine qa tok hT [6] (St.mk [p 6 (B false)] [(9, Ob.box 147 (cellsD false y147 v4)), (8, Ob.box 147 (cellsD false y147 v3))]) (by kernel_rfl) ?_
   exact vx_ret <| fx_blk_ret <| fx_seq_ret <| t1 <| fx_blk_ret <| t0 <| hr H (by kernel_rfl)
  refine vx_skip <| fx_blk <| fx_seq <| ?_
  refine zb tok hT [1, 2, 15, 16, 17] (St.mk [p 1 (L y147 a1), p 2 (AV.fn 151 []), p 15 (L y147 a0), p 16 (I (↑a0.length : Int)), p 17 (I (v2 + 1))] [(9, Ob.box 147 (cellsD false y147 v4)), (8, Ob.box 147 (cellsD false y147 v3))]) H (by kernel_rfl) fun H => ?_
  exact b1 H (by kernel_rfl)
 exact vx_exit <| fx_seq_exit <| e1 <| fx_blk_exit rfl <| n0 H (by kernel_rfl)
def u118 (a0 : Y107) (a1 : Y107) : Option (Bool) :=
 gd (((a0.2.1 == a1.2.1) = true ∧ True → (u150c151 a0.2.2.1 a1.2.2.1).isSome = true) ∧ True) <| 
 some (a0.2.1 == a1.2.1 && vl (u150c151 a0.2.2.1 a1.2.2.1))
def k118 : Ct := lct 118 [.agg y107, .agg y107] (fun x => u118 x.1 x.2.1) (fun r : Bool => B r) (fun _ => ())
theorem o118 : Ok Tryz.prog k118 := by
 refine okl tok [.tmp 4] Tryz.func118 Tryz.ntmps118 rfl Tryz.results118 (by kernel_rfl) rfl ?_
 intro y ⟨a0, a1, _⟩ r H Q hn hr
 have hT := tc o151 (tc o150c151 tn)
 refine qa tok hT [2, 3] (St.mk [p 2 (AV.ptr 2 0), p 3 (AV.ptr 3 0)] [(3, Ob.box 107 (cellsD false y107 a1)), (2, Ob.box 107 (cellsD false y107 a0))]) (by kernel_rfl) ?_
 refine qb tok hT [4] (St.mk [p 4 (B (a0.2.1 == a1.2.1 && vl (u150c151 a0.2.2.1 a1.2.2.1)))] [(3, Ob.box 107 (cellsD false y107 a1)), (2, Ob.box 107 (cellsD false y107 a0))]) H (by kernel_rfl) fun H => ?_
 exact vx_ret <| hr H (by kernel_rfl)
def u74J4 : List Y121 → Option (List Y121)
 | v24 =>
 some v24
def u74L5 (a0 : Y47) (g5 : Int × List Y121 → Option (List Y121)) : Int × List Y121 → Option (List Y121)
 | (v21, v22) =>
 if (decide (v21 < (↑a0.2.2.length : Int))) = true then
  gd (ix v21 a0.2.2.length ∧ True) <| lt (a0.2.2.getD v21.toNat (dflt y144)) fun v23 =>
  gd ((v22.length + [(-1, v21, v23.2.2, v23.2.1 == 1)].length ≤ 9223372036854775807 ∧ (v22.length + [(-1, v21, v23.2.2, v23.2.1 == 1)].length) * 32 ≤ 140737488355328) ∧ True) <| 
  gd (in64 (v21 + 1) ∧ True) <| 
  g5 ((v21 + 1, v22 ++ [(-1, v21, v23.2.2, v23.2.1 == 1)]))
 else
  u74J4 v22
def u74J0 (a0 : Y47) : List Y121 → Option (List Y121)
 | v17 =>
 lp (u74L5 a0) (0, v17)
def u74J2 (v8 : Int) (g1 : List Y121 × Int → Option (List Y121)) : List Y121 → Option (List Y121)
 | v16 =>
 gd (in64 (v8 + 1) ∧ True) <| 
 g1 (v16, v8 + 1)
def u74L3 (v8 : Int) (v9 : Y109) (g1 : List Y121 × Int → Option (List Y121)) (g3 : Int × List Y121 → Option (List Y121)) : Int × List Y121 → Option (List Y121)
 | (v12, v13) =>
 if (decide (v12 < (↑v9.2.2.length : Int))) = true then
  gd (ix v12 v9.2.2.length ∧ True) <| 
  gd (in64 ((↑v9.2.2.length : Int) - 1) ∧ (v13.length + [(v8, v12, v9.2.2.getD v12.toNat 0, v12 == (↑v9.2.2.length : Int) - 1)].length ≤ 9223372036854775807 ∧ (v13.length + [(v8, v12, v9.2.2.getD v12.toNat 0, v12 == (↑v9.2.2.length : Int) - 1)].length) * 32 ≤ 140737488355328) ∧ True) <| lt ((v13 ++ [(v8, v12, v9.2.2.getD v12.toNat 0, v12 == (↑v9.2.2.length : Int) - 1)], [(v8, v12, v9.2.2.getD v12.toNat 0, v12 == (↑v9.2.2.length : Int) - 1)])) fun (v14, v15) =>
  gd (in64 (v12 + 1) ∧ True) <| 
  g3 (v12 + 1, v14)
 else
  u74J2 v8 g1 v13
def u74L1 (a0 : Y47) (g1 : List Y121 × Int → Option (List Y121)) : List Y121 × Int → Option (List Y121)
 | (v7, v8) =>
 if (decide (v8 < (↑a0.1.length : Int))) = true then
  gd (ix v8 a0.1.length ∧ True) <| lt (a0.1.getD v8.toNat (dflt y109)) fun v9 =>
  lp (u74L3 v8 v9 g1) (0, v7)
 else
  u74J0 a0 v7
def u74 (a0 : Y47) : Option (List Y121) :=
 lp (u74L1 a0) ([], 0)
def k74 : Ct := lct 74 [.agg y47] (fun x => u74 x.1) (fun r : List Y121 => AV.ow 121 true y121 r) (fun _ => ())
theorem o74 : Ok Tryz.prog k74 := by
 refine okl tok [.tmp 2] Tryz.func74 Tryz.ntmps74 rfl Tryz.results74 (by kernel_rfl) rfl ?_
 intro y ⟨a0, _⟩ r H Q hn hr
 have hT := @tn Tryz.prog
 refine qa tok hT [1] (St.mk [p 1 (AV.ptr 1 0)] [(1, Ob.box 47 (cellsD false y47 a0))]) (by kernel_rfl) ?_
 refine qa tok hT [1, 3] (St.mk [p 1 (AV.ptr 1 0), p 3 (AV.v (Value.slice none 0 0))] [(1, Ob.box 47 (cellsD false y47 a0))]) (by kernel_rfl) ?_
 refine jn r (fun (v17 : List Y121) => St.mk [p 1 (AV.ptr 1 0), p 3 (AV.os 38 0)] [(1, Ob.box 47 (cellsD false y47 a0)), (38, Ob.arr 121 true y121 v17 0)]) (u74J0 a0) (fun v17 H => ?_) (fun _ n0 e0 t0 => ?_)
 ·refine jn r (fun (v24 : List Y121) => St.mk [p 3 (AV.os 38 0)] [(38, Ob.arr 121 true y121 v24 0)]) (u74J4) (fun v24 H => ?_) (fun _ n4 e4 t4 => ?_)
  ·refine qa tok hT [2] (St.mk [p 2 (AV.os 38 0)] [(38, Ob.arr 121 true y121 v24 0)]) (by kernel_rfl) ?_
   exact vx_ret <| hr H (by kernel_rfl)
  refine qa tok hT [3, 42, 43, 44] (St.mk [p 3 (AV.os 38 0), p 42 (L y144 a0.2.2), p 43 (I (↑a0.2.2.length : Int)), p 44 (I 0)] [(1, Ob.box 47 (cellsD false y47 a0)), (38, Ob.arr 121 true y121 v17 0)]) (by kernel_rfl) ?_
  refine vx_block <| ?_
  refine lx (fun ((v21, v22) : Int × List Y121) => St.mk [p 3 (AV.os 38 0), p 42 (L y144 a0.2.2), p 43 (I (↑a0.2.2.length : Int)), p 44 (I v21)] [(38, Ob.arr 121 true y121 v22 0)]) (0, v17) H (by kernel_rfl) fun _ g5 b5 e5 t5 ⟨v21, v22⟩ H => ?_
  refine qa tok hT [3, 42, 43, 44, 45] (St.mk [p 3 (AV.os 38 0), p 42 (L y144 a0.2.2), p 43 (I (↑a0.2.2.length : Int)), p 44 (I v21), p 45 (B (decide (v21 < (↑a0.2.2.length : Int))))] [(38, Ob.arr 121 true y121 v22 0)]) (by kernel_rfl) ?_
  refine vx_seq <| ?_
  refine cd H (by kernel_rfl) (fun H => ?_) (fun H => ?_)
  ·refine vx_skip <| fx_seq <| vx_seq <| vx_block <| ?_
   refine qd tok hT [3, 8, 9, 42, 43, 44] (fun v23 => St.mk [p 3 (AV.os 38 0), p 8 (I v21), p 9 (AV.ptr 9 0), p 42 (L y144 a0.2.2), p 43 (I (↑a0.2.2.length : Int)), p 44 (I v21)] [(9, Ob.box 144 (cellsD false y144 v23)), (38, Ob.arr 121 true y121 v22 0)]) H (by kernel_rfl) fun v23 H => ?_
   refine zb tok hT [3, 42, 43, 44] (St.mk [p 3 (AV.os 38 1), p 42 (L y144 a0.2.2), p 43 (I (↑a0.2.2.length : Int)), p 44 (I v21)] [(38, Ob.arr 121 true y121 (v22 ++ [(-1, v21, v23.2.2, v23.2.1 == 1)]) 1), (57, Ob.arr 121 true y121 [(-1, v21, v23.2.2, v23.2.1 == 1)] 0), (9, Ob.box 144 (cellsD false y144 v23))]) H (by kernel_rfl) fun H => ?_
   refine fx_blk <| fx_seq <| ?_
   refine zb tok hT [3, 42, 43, 44] (St.mk [p 3 (AV.os 38 1), p 42 (L y144 a0.2.2), p 43 (I (↑a0.2.2.length : Int)), p 44 (I (v21 + 1))] [(38, Ob.arr 121 true y121 (v22 ++ [(-1, v21, v23.2.2, v23.2.1 == 1)]) 1), (57, Ob.arr 121 true y121 [(-1, v21, v23.2.2, v23.2.1 == 1)] 0), (9, Ob.box 144 (cellsD false y144 v23))]) H (by kernel_rfl) fun H => ?_
   exact b5 H (by kernel_rfl)
  exact vx_exit <| fx_seq_exit <| e5 <| fx_blk_exit rfl <| n4 H (by kernel_rfl)
 refine qa tok hT [1, 3, 11, 12, 13] (St.mk [p 1 (AV.ptr 1 0), p 3 (AV.v (Value.slice none 0 0)), p 11 (L y109 a0.1), p 12 (I (↑a0.1.length : Int)), p 13 (I 0)] [(1, Ob.box 47 (cellsD false y47 a0))]) (by kernel_rfl) ?_
 refine vx_block <| ?_
 refine lx (fun ((v7, v8) : List Y121 × Int) => St.mk [p 1 (AV.ptr 1 0), p 3 (AV.os 38 0), p 11 (L y109 a0.1), p 12 (I (↑a0.1.length : Int)), p 13 (I v8)] [(1, Ob.box 47 (cellsD false y47 a0)), (38, Ob.arr 121 true y121 v7 0)]) ([], 0) H (by kernel_rfl) fun _ g1 b1 e1 t1 ⟨v7, v8⟩ H => ?_
 refine qa tok hT [1, 3, 11, 12, 13, 14] (St.mk [p 1 (AV.ptr 1 0), p 3 (AV.os 38 0), p 11 (L y109 a0.1), p 12 (I (↑a0.1.length : Int)), p 13 (I v8), p 14 (B (decide (v8 < (↑a0.1.length : Int))))] [(1, Ob.box 47 (cellsD false y47 a0)), (38, Ob.arr 121 true y121 v7 0)]) (by kernel_rfl) ?_
 refine vx_seq <| ?_
 refine cd H (by kernel_rfl) (fun H => ?_) (fun H => ?_)
 ·refine vx_skip <| fx_seq <| ?_
  refine jn r (fun (v16 : List Y121) => St.mk [p 1 (AV.ptr 1 0), p 3 (AV.os 38 0), p 11 (L y109 a0.1), p 12 (I (↑a0.1.length : Int)), p 13 (I v8)] [(1, Ob.box 47 (cellsD false y47 a0)), (38, Ob.arr 121 true y121 v16 0)]) (u74J2 v8 g1) (fun v16 H => ?_) (fun _ n2 e2 t2 => ?_)
  ·refine zb tok hT [1, 3, 11, 12, 13] (St.mk [p 1 (AV.ptr 1 0), p 3 (AV.os 38 0), p 11 (L y109 a0.1), p 12 (I (↑a0.1.length : Int)), p 13 (I (v8 + 1))] [(1, Ob.box 47 (cellsD false y47 a0)), (38, Ob.arr 121 true y121 v16 0)]) H (by kernel_rfl) fun H => ?_
   exact b1 H (by kernel_rfl)
  refine vx_block <| ?_
  refine qd tok hT [1, 3, 4, 5, 11, 12, 13] (fun v9 => St.mk [p 1 (AV.ptr 1 0), p 3 (AV.os 38 0), p 4 (I v8), p 5 (AV.ptr 5 0), p 11 (L y109 a0.1), p 12 (I (↑a0.1.length : Int)), p 13 (I v8)] [(5, Ob.box 109 (cellsD false y109 v9)), (1, Ob.box 47 (cellsD false y47 a0)), (38, Ob.arr 121 true y121 v7 0)]) H (by kernel_rfl) fun v9 H => ?_
  refine qa tok hT [1, 3, 4, 5, 11, 12, 13, 19, 20, 21] (St.mk [p 1 (AV.ptr 1 0), p 3 (AV.os 38 0), p 4 (I v8), p 5 (AV.ptr 5 0), p 11 (L y109 a0.1), p 12 (I (↑a0.1.length : Int)), p 13 (I v8), p 19 (L i64 v9.2.2), p 20 (I (↑v9.2.2.length : Int)), p 21 (I 0)] [(5, Ob.box 109 (cellsD false y109 v9)), (1, Ob.box 47 (cellsD false y47 a0)), (38, Ob.arr 121 true y121 v7 0)]) (by kernel_rfl) ?_
  refine vx_block <| ?_
  refine lx (fun ((v12, v13) : Int × List Y121) => St.mk [p 1 (AV.ptr 1 0), p 3 (AV.os 38 0), p 4 (I v8), p 5 (AV.ptr 5 0), p 11 (L y109 a0.1), p 12 (I (↑a0.1.length : Int)), p 13 (I v8), p 19 (L i64 v9.2.2), p 20 (I (↑v9.2.2.length : Int)), p 21 (I v12)] [(5, Ob.box 109 (cellsD false y109 v9)), (1, Ob.box 47 (cellsD false y47 a0)), (38, Ob.arr 121 true y121 v13 0)]) (0, v7) H (by kernel_rfl) fun _ g3 b3 e3 t3 ⟨v12, v13⟩ H => ?_
  refine qa tok hT [1, 3, 4, 5, 11, 12, 13, 19, 20, 21, 22] (St.mk [p 1 (AV.ptr 1 0), p 3 (AV.os 38 0), p 4 (I v8), p 5 (AV.ptr 5 0), p 11 (L y109 a0.1), p 12 (I (↑a0.1.length : Int)), p 13 (I v8), p 19 (L i64 v9.2.2), p 20 (I (↑v9.2.2.length : Int)), p 21 (I v12), p 22 (B (decide (v12 < (↑v9.2.2.length : Int))))] [(5, Ob.box 109 (cellsD false y109 v9)), (1, Ob.box 47 (cellsD false y47 a0)), (38, Ob.arr 121 true y121 v13 0)]) (by kernel_rfl) ?_
  refine vx_seq <| ?_
  refine cd H (by kernel_rfl) (fun H => ?_) (fun H => ?_)
  ·refine vx_skip <| fx_seq <| vx_seq <| vx_block <| ?_
   refine qb tok hT [1, 3, 4, 5, 6, 7, 11, 12, 13, 19, 20, 21] (St.mk [p 1 (AV.ptr 1 0), p 3 (AV.os 38 0), p 4 (I v8), p 5 (AV.ptr 5 0), p 6 (I v12), p 7 (J (v9.2.2.getD v12.toNat 0)), p 11 (L y109 a0.1), p 12 (I (↑a0.1.length : Int)), p 13 (I v8), p 19 (L i64 v9.2.2), p 20 (I (↑v9.2.2.length : Int)), p 21 (I v12)] [(5, Ob.box 109 (cellsD false y109 v9)), (1, Ob.box 47 (cellsD false y47 a0)), (38, Ob.arr 121 true y121 v13 0)]) H (by kernel_rfl) fun H => ?_
   refine zd tok hT [1, 3, 4, 5, 11, 12, 13, 19, 20, 21] (fun (v14, v15) => St.mk [p 1 (AV.ptr 1 0), p 3 (AV.os 38 1), p 4 (I v8), p 5 (AV.ptr 5 0), p 11 (L y109 a0.1), p 12 (I (↑a0.1.length : Int)), p 13 (I v8), p 19 (L i64 v9.2.2), p 20 (I (↑v9.2.2.length : Int)), p 21 (I v12)] [(38, Ob.arr 121 true y121 v14 1), (37, Ob.arr 121 true y121 v15 0), (5, Ob.box 109 (cellsD false y109 v9)), (1, Ob.box 47 (cellsD false y47 a0))]) H (by kernel_rfl) fun ⟨v14, v15⟩ H => ?_
   refine fx_blk <| fx_seq <| ?_
   refine zb tok hT [1, 3, 4, 5, 11, 12, 13, 19, 20, 21] (St.mk [p 1 (AV.ptr 1 0), p 3 (AV.os 38 1), p 4 (I v8), p 5 (AV.ptr 5 0), p 11 (L y109 a0.1), p 12 (I (↑a0.1.length : Int)), p 13 (I v8), p 19 (L i64 v9.2.2), p 20 (I (↑v9.2.2.length : Int)), p 21 (I (v12 + 1))] [(38, Ob.arr 121 true y121 v14 1), (37, Ob.arr 121 true y121 v15 0), (5, Ob.box 109 (cellsD false y109 v9)), (1, Ob.box 47 (cellsD false y47 a0))]) H (by kernel_rfl) fun H => ?_
   exact b3 H (by kernel_rfl)
  exact vx_exit <| fx_seq_exit <| e3 <| fx_blk_exit rfl <| fx_blk <| n2 H (by kernel_rfl)
 exact vx_exit <| fx_seq_exit <| e1 <| fx_blk_exit rfl <| n0 H (by kernel_rfl)
def u77 (a0 : Y54) (a1 : Y50) : Option (Bool) :=
 gd ((u74 a1.2.1).isSome = true ∧ True) <| lt (vl (u74 a1.2.1)) fun v0 =>
 if (a0.1 == 1) = true then
  gd (ix a0.2.1 v0.length ∧ a0.2.1.toNat < v0.length ∧ True) <| lt (v0.getD a0.2.1.toNat (dflt y121)) fun v1 =>
  gd (((decide (0 ≤ v1.1) && v1.2.2.2) = true ∧ True → ix v1.1 a1.2.1.1.length) ∧ ((decide (0 ≤ v1.1) && v1.2.2.2) = true ∧ True → ix (a1.2.1.1.getD v1.1.toNat (dflt y109)).2.1 a1.1.length) ∧ ((decide (0 ≤ v1.1) && v1.2.2.2) = true ∧ True → ix a0.2.2.1 a1.1.length) ∧ ((decide (0 ≤ v1.1) && v1.2.2.2) = true ∧ True → (u118 (a1.1.getD (a1.2.1.1.getD v1.1.toNat (dflt y109)).2.1.toNat (dflt y107)) (a1.1.getD a0.2.2.1.toNat (dflt y107))).isSome = true) ∧ True) <| 
  some (decide (0 ≤ v1.1) && v1.2.2.2 && vl (u118 (a1.1.getD (a1.2.1.1.getD v1.1.toNat (dflt y109)).2.1.toNat (dflt y107)) (a1.1.getD a0.2.2.1.toNat (dflt y107))))
 else
  if (a0.1 == 2) = true then
   gd (ix a0.2.1 v0.length ∧ a0.2.1.toNat < v0.length ∧ ((!(v0.getD a0.2.1.toNat (dflt y121)).2.2.2) = true ∧ True → ix a0.2.2.1 a1.1.length) ∧ ((!(v0.getD a0.2.1.toNat (dflt y121)).2.2.2) = true ∧ True → (u119 (a1.1.getD a0.2.2.1.toNat (dflt y107))).isSome = true) ∧ ((!(v0.getD a0.2.1.toNat (dflt y121)).2.2.2 && vl (u119 (a1.1.getD a0.2.2.1.toNat (dflt y107)))) = true ∧ True → (u120 a0.2.2.2.2.2.1).isSome = true) ∧ ((!(v0.getD a0.2.1.toNat (dflt y121)).2.2.2 && vl (u119 (a1.1.getD a0.2.2.1.toNat (dflt y107))) && vl (u120 a0.2.2.2.2.2.1)) = true ∧ True → (u121 a1.2.1 a0.2.2.2.2.2.1).isSome = true) ∧ ((!(v0.getD a0.2.1.toNat (dflt y121)).2.2.2 && vl (u119 (a1.1.getD a0.2.2.1.toNat (dflt y107))) && vl (u120 a0.2.2.2.2.2.1) && decide (vl (u121 a1.2.1 a0.2.2.2.2.2.1) < 0)) = true ∧ True → (u122 a1.2.1 a0.2.2.2.2.2.1).isSome = true) ∧ True) <| lt ((vl (u121 a1.2.1 a0.2.2.2.2.2.1), vl (u122 a1.2.1 a0.2.2.2.2.2.1))) fun (v2, v3) =>
   some (!(v0.getD a0.2.1.toNat (dflt y121)).2.2.2 && vl (u119 (a1.1.getD a0.2.2.1.toNat (dflt y107))) && vl (u120 a0.2.2.2.2.2.1) && decide (v2 < 0) && decide (v3 < 0))
  else
   if (a0.1 == 3) = true then
    gd ((u123 a1).isSome = true ∧ True) <| 
    some (vl (u123 a1))
   else
    if (a0.1 == 4) = true then
     gd (ix a0.2.1 v0.length ∧ a0.2.1.toNat < v0.length ∧ ((!(v0.getD a0.2.1.toNat (dflt y121)).2.2.2) = true ∧ True → ix a0.2.1 v0.length) ∧ ((!(v0.getD a0.2.1.toNat (dflt y121)).2.2.2) = true ∧ True → a0.2.1.toNat < v0.length) ∧ True) <| 
     some (!(v0.getD a0.2.1.toNat (dflt y121)).2.2.2 && (v0.getD a0.2.1.toNat (dflt y121)).2.2.1 != a0.2.2.2.1)
    else
     gd (ix a0.2.2.2.1 a1.2.2.length ∧ (u110 (a1.2.2.getD a0.2.2.2.1.toNat (dflt y52)).2.2.2).isSome = true ∧ (u75 a0.2.2.2.2.2.2 (vl (u110 (a1.2.2.getD a0.2.2.2.1.toNat (dflt y52)).2.2.2))).isSome = true ∧ True) <| 
     some (vl (u75 a0.2.2.2.2.2.2 (vl (u110 (a1.2.2.getD a0.2.2.2.1.toNat (dflt y52)).2.2.2))))
def k77 : Ct := lct 77 [.agg y54, .agg y50] (fun x => u77 x.1 x.2.1) (fun r : Bool => B r) (fun _ => ())
theorem o77 : Ok Tryz.prog k77 := by
 refine okl tok [.tmp 4] Tryz.func77 Tryz.ntmps77 rfl Tryz.results77 (by kernel_rfl) rfl ?_
 intro y ⟨a0, a1, _⟩ r H Q hn hr
 have hT := tc o75 (tc o110 (tc o123 (tc o122 (tc o121 (tc o120 (tc o119 (tc o118 (tc o74 tn))))))))
 refine qa tok hT [2, 3] (St.mk [p 2 (AV.ptr 2 0), p 3 (AV.ptr 3 0)] [(3, Ob.box 50 (cellsD false y50 a1)), (2, Ob.box 54 (cellsD false y54 a0))]) (by kernel_rfl) ?_
 refine qa tok hT [2, 3, 5] (St.mk [p 2 (AV.ptr 2 0), p 3 (AV.ptr 3 0), p 5 (AV.ptr 5 0)] [(5, Ob.box 47 (cellsD false y47 a1.2.1)), (3, Ob.box 50 (cellsD false y50 a1)), (2, Ob.box 54 (cellsD false y54 a0))]) (by kernel_rfl) ?_
 refine qd tok hT [2, 3, 5, 6] (fun v0 => St.mk [p 2 (AV.ptr 2 0), p 3 (AV.ptr 3 0), p 5 (AV.ptr 5 0), p 6 (AV.os 11 0)] [(11, Ob.arr 121 true y121 v0 0), (5, Ob.box 47 (cellsD false y47 a1.2.1)), (3, Ob.box 50 (cellsD false y50 a1)), (2, Ob.box 54 (cellsD false y54 a0))]) H (by kernel_rfl) fun v0 H => ?_
 refine vx_seq <| ?_
 refine qa tok hT [2, 3, 5, 6, 13] (St.mk [p 2 (AV.ptr 2 0), p 3 (AV.ptr 3 0), p 5 (AV.ptr 5 0), p 6 (AV.os 11 0), p 13 (J a0.1)] [(11, Ob.arr 121 true y121 v0 0), (5, Ob.box 47 (cellsD false y47 a1.2.1)), (3, Ob.box 50 (cellsD false y50 a1)), (2, Ob.box 54 (cellsD false y54 a0))]) (by kernel_rfl) ?_
 refine vx_block <| ?_
 refine qa tok hT [2, 3, 5, 6, 13, 14] (St.mk [p 2 (AV.ptr 2 0), p 3 (AV.ptr 3 0), p 5 (AV.ptr 5 0), p 6 (AV.os 11 0), p 13 (J a0.1), p 14 (B (a0.1 == 1))] [(11, Ob.arr 121 true y121 v0 0), (5, Ob.box 47 (cellsD false y47 a1.2.1)), (3, Ob.box 50 (cellsD false y50 a1)), (2, Ob.box 54 (cellsD false y54 a0))]) (by kernel_rfl) ?_
 refine cd H (by kernel_rfl) (fun H => ?_) (fun H => ?_)
 ·refine qd tok hT [2, 3, 5, 7] (fun v1 => St.mk [p 2 (AV.ptr 2 0), p 3 (AV.ptr 3 0), p 5 (AV.ptr 5 0), p 7 (AV.ptr 7 0)] [(7, Ob.box 121 (cellsD true y121 v1)), (11, Ob.arr 121 true y121 v0 0), (5, Ob.box 47 (cellsD false y47 a1.2.1)), (3, Ob.box 50 (cellsD false y50 a1)), (2, Ob.box 54 (cellsD false y54 a0))]) H (by kernel_rfl) fun v1 H => ?_
  refine qb tok hT [4] (St.mk [p 4 (B (decide (0 ≤ v1.1) && v1.2.2.2 && vl (u118 (a1.1.getD (a1.2.1.1.getD v1.1.toNat (dflt y109)).2.1.toNat (dflt y107)) (a1.1.getD a0.2.2.1.toNat (dflt y107)))))] [(7, Ob.box 121 (cellsD true y121 v1)), (11, Ob.arr 121 true y121 v0 0), (5, Ob.box 47 (cellsD false y47 a1.2.1)), (3, Ob.box 50 (cellsD false y50 a1)), (2, Ob.box 54 (cellsD false y54 a0))]) H (by kernel_rfl) fun H => ?_
  exact vx_ret <| fx_blk_ret <| fx_seq_ret <| hr H (by kernel_rfl)
 refine qa tok hT [2, 3, 5, 6, 13, 50] (St.mk [p 2 (AV.ptr 2 0), p 3 (AV.ptr 3 0), p 5 (AV.ptr 5 0), p 6 (AV.os 11 0), p 13 (J a0.1), p 50 (B (a0.1 == 2))] [(11, Ob.arr 121 true y121 v0 0), (5, Ob.box 47 (cellsD false y47 a1.2.1)), (3, Ob.box 50 (cellsD false y50 a1)), (2, Ob.box 54 (cellsD false y54 a0))]) (by kernel_rfl) ?_
 refine cd H (by kernel_rfl) (fun H => ?_) (fun H => ?_)
 ·refine qd tok hT [4] (fun (v2, v3) => St.mk [p 4 (B (!(v0.getD a0.2.1.toNat (dflt y121)).2.2.2 && vl (u119 (a1.1.getD a0.2.2.1.toNat (dflt y107))) && vl (u120 a0.2.2.2.2.2.1) && decide (v2 < 0) && decide (v3 < 0)))] [(11, Ob.arr 121 true y121 v0 0), (5, Ob.box 47 (cellsD false y47 a1.2.1)), (3, Ob.box 50 (cellsD false y50 a1)), (2, Ob.box 54 (cellsD false y54 a0))]) H (by kernel_rfl) fun ⟨v2, v3⟩ H => ?_
  exact vx_ret <| fx_blk_ret <| fx_seq_ret <| hr H (by kernel_rfl)
 refine qa tok hT [2, 3, 6, 13, 88] (St.mk [p 2 (AV.ptr 2 0), p 3 (AV.ptr 3 0), p 6 (AV.os 11 0), p 13 (J a0.1), p 88 (B (a0.1 == 3))] [(11, Ob.arr 121 true y121 v0 0), (5, Ob.box 47 (cellsD false y47 a1.2.1)), (3, Ob.box 50 (cellsD false y50 a1)), (2, Ob.box 54 (cellsD false y54 a0))]) (by kernel_rfl) ?_
 refine cd H (by kernel_rfl) (fun H => ?_) (fun H => ?_)
 ·refine qb tok hT [4] (St.mk [p 4 (B (vl (u123 a1)))] [(11, Ob.arr 121 true y121 v0 0), (5, Ob.box 47 (cellsD false y47 a1.2.1)), (3, Ob.box 50 (cellsD false y50 a1)), (2, Ob.box 54 (cellsD false y54 a0))]) H (by kernel_rfl) fun H => ?_
  exact vx_ret <| fx_blk_ret <| fx_seq_ret <| hr H (by kernel_rfl)
 refine qa tok hT [2, 3, 6, 92] (St.mk [p 2 (AV.ptr 2 0), p 3 (AV.ptr 3 0), p 6 (AV.os 11 0), p 92 (B (a0.1 == 4))] [(11, Ob.arr 121 true y121 v0 0), (5, Ob.box 47 (cellsD false y47 a1.2.1)), (3, Ob.box 50 (cellsD false y50 a1)), (2, Ob.box 54 (cellsD false y54 a0))]) (by kernel_rfl) ?_
 refine cd H (by kernel_rfl) (fun H => ?_) (fun H => ?_)
 ·refine qb tok hT [4] (St.mk [p 4 (B (!(v0.getD a0.2.1.toNat (dflt y121)).2.2.2 && (v0.getD a0.2.1.toNat (dflt y121)).2.2.1 != a0.2.2.2.1))] [(11, Ob.arr 121 true y121 v0 0), (5, Ob.box 47 (cellsD false y47 a1.2.1)), (3, Ob.box 50 (cellsD false y50 a1)), (2, Ob.box 54 (cellsD false y54 a0))]) H (by kernel_rfl) fun H => ?_
  exact vx_ret <| fx_blk_ret <| fx_seq_ret <| hr H (by kernel_rfl)
 refine vx_skip <| fx_blk <| fx_seq <| ?_
 refine qb tok hT [4] (St.mk [p 4 (B (vl (u75 a0.2.2.2.2.2.2 (vl (u110 (a1.2.2.getD a0.2.2.2.1.toNat (dflt y52)).2.2.2)))))] [(11, Ob.arr 121 true y121 v0 0), (5, Ob.box 47 (cellsD false y47 a1.2.1)), (3, Ob.box 50 (cellsD false y50 a1)), (2, Ob.box 54 (cellsD false y54 a0))]) H (by kernel_rfl) fun H => ?_
 exact vx_ret <| hr H (by kernel_rfl)
def u84 (a0 : Y47) (a1 : Int) : Option (Bool) :=
 gd ((u128 a0.2.1).isSome = true ∧ in64 (vl (u128 a0.2.1) - 1) ∧ (u111 a1 0 (vl (u128 a0.2.1) - 1)).isSome = true ∧ True) <| 
 some (vl (u111 a1 0 (vl (u128 a0.2.1) - 1)))
def k84 : Ct := lct 84 [.agg y47, .dat i64] (fun x => u84 x.1 x.2.1) (fun r : Bool => B r) (fun _ => ())
theorem o84 : Ok Tryz.prog k84 := by
 refine okl tok [.tmp 4] Tryz.func84 Tryz.ntmps84 rfl Tryz.results84 (by kernel_rfl) rfl ?_
 intro y ⟨a0, a1, _⟩ r H Q hn hr
 have hT := tc o111 (tc o128 tn)
 refine qa tok hT [1, 2] (St.mk [p 1 (J a1), p 2 (AV.ptr 2 0)] [(2, Ob.box 47 (cellsD false y47 a0))]) (by kernel_rfl) ?_
 refine qb tok hT [4] (St.mk [p 4 (B (vl (u111 a1 0 (vl (u128 a0.2.1) - 1))))] [(2, Ob.box 47 (cellsD false y47 a0))]) H (by kernel_rfl) fun H => ?_
 exact vx_ret <| hr H (by kernel_rfl)
def u117 (a0 : List Y107) : Option (Int) :=
 some (↑a0.length : Int)
def k117 : Ct := lct 117 [.dat y107.sl] (fun x => u117 x.1) (fun r : Int => I r) (fun _ => ())
theorem o117 : Ok Tryz.prog k117 := by
 refine okl tok [.tmp 2] Tryz.func117 Tryz.ntmps117 rfl Tryz.results117 (by kernel_rfl) rfl ?_
 intro y ⟨a0, _⟩ r H Q hn hr
 have hT := @tn Tryz.prog
 refine qa tok hT [0] (St.mk [p 0 (L y107 a0)] []) (by kernel_rfl) ?_
 refine qa tok hT [2] (St.mk [p 2 (I (↑a0.length : Int))] []) (by kernel_rfl) ?_
 exact vx_ret <| hr H (by kernel_rfl)
def u116 (a0 : List Y121) : Option (Int) :=
 some (↑a0.length : Int)
def k116 : Ct := lct 116 [.dat y121.sl] (fun x => u116 x.1) (fun r : Int => I r) (fun _ => ())
theorem o116 : Ok Tryz.prog k116 := by
 refine okl tok [.tmp 2] Tryz.func116 Tryz.ntmps116 rfl Tryz.results116 (by kernel_rfl) rfl ?_
 intro y ⟨a0, _⟩ r H Q hn hr
 have hT := @tn Tryz.prog
 refine qa tok hT [0] (St.mk [p 0 (L y121 a0)] []) (by kernel_rfl) ?_
 refine qa tok hT [2] (St.mk [p 2 (I (↑a0.length : Int))] []) (by kernel_rfl) ?_
 exact vx_ret <| hr H (by kernel_rfl)
def u182J0 : Unit → Option (Bool)
 | _ =>
 some true
def u182L1 (a0 : List Int) (a1 : List Int) (g1 : Int → Option (Bool)) : Int → Option (Bool)
 | v0 =>
 if (decide (v0 < (↑a0.length : Int))) = true then
  gd (ix v0 a0.length ∧ ix v0 a1.length ∧ True) <| 
  if (a0.getD v0.toNat 0 != a1.getD v0.toNat 0) = true then
   some false
  else
   gd (in64 (v0 + 1) ∧ True) <| 
   g1 (v0 + 1)
 else
  u182J0 ()
def u182 (a0 : List Int) (a1 : List Int) : Option (Bool) :=
 if ((↑a0.length : Int) != (↑a1.length : Int)) = true then
  some false
 else
  lp (u182L1 a0 a1) 0
def k182 : Ct := lct 182 [.dat i64.sl, .dat i64.sl] (fun x => u182 x.1 x.2.1) (fun r : Bool => B r) (fun _ => ())
theorem o182 : Ok Tryz.prog k182 := by
 refine okl tok [.tmp 4] Tryz.func182 Tryz.ntmps182 rfl Tryz.results182 (by kernel_rfl) rfl ?_
 intro y ⟨a0, a1, _⟩ r H Q hn hr
 have hT := @tn Tryz.prog
 refine qa tok hT [0, 1] (St.mk [p 0 (L i64 a0), p 1 (L i64 a1)] []) (by kernel_rfl) ?_
 refine vx_seq <| ?_
 refine qa tok hT [0, 1, 10] (St.mk [p 0 (L i64 a0), p 1 (L i64 a1), p 10 (B ((↑a0.length : Int) != (↑a1.length : Int)))] []) (by kernel_rfl) ?_
 refine cd H (by kernel_rfl) (fun H => ?_) (fun H => ?_)
 ·refine qa tok hT [4] (St.mk [p 4 (B false)] []) (by kernel_rfl) ?_
  exact vx_ret <| fx_seq_ret <| hr H (by kernel_rfl)
 refine vx_skip <| fx_seq <| ?_
 refine jn r (fun (_ : Unit) => St.mk [] []) (u182J0) (fun _ H => ?_) (fun _ n0 e0 t0 => ?_)
 ·refine qa tok hT [4] (St.mk [p 4 (B true)] []) (by kernel_rfl) ?_
  exact vx_ret <| hr H (by kernel_rfl)
 refine qa tok hT [0, 1, 12, 13] (St.mk [p 0 (L i64 a0), p 1 (L i64 a1), p 12 (I (↑a0.length : Int)), p 13 (I 0)] []) (by kernel_rfl) ?_
 refine vx_block <| ?_
 refine lx (fun (v0 : Int) => St.mk [p 0 (L i64 a0), p 1 (L i64 a1), p 12 (I (↑a0.length : Int)), p 13 (I v0)] []) 0 H (by kernel_rfl) fun _ g1 b1 e1 t1 v0 H => ?_
 refine qa tok hT [0, 1, 12, 13, 14] (St.mk [p 0 (L i64 a0), p 1 (L i64 a1), p 12 (I (↑a0.length : Int)), p 13 (I v0), p 14 (B (decide (v0 < (↑a0.length : Int))))] []) (by kernel_rfl) ?_
 refine vx_seq <| ?_
 refine cd H (by kernel_rfl) (fun H => ?_) (fun H => ?_)
 ·refine vx_skip <| fx_seq <| vx_seq <| vx_block <| ?_
  refine qa tok hT [0, 1, 5, 12, 13] (St.mk [p 0 (L i64 a0), p 1 (L i64 a1), p 5 (I v0), p 12 (I (↑a0.length : Int)), p 13 (I v0)] []) (by kernel_rfl) ?_
  refine qb tok hT [0, 1, 12, 13, 24] (St.mk [p 0 (L i64 a0), p 1 (L i64 a1), p 12 (I (↑a0.length : Int)), p 13 (I v0), p 24 (B (a0.getD v0.toNat 0 != a1.getD v0.toNat 0))] []) H (by kernel_rfl) fun H => ?_
  refine cd H (by kernel_rfl) (fun H => ?_) (fun H => ?_)
  ·refine qa tok hT [4] (St.mk [p 4 (B false)] []) (by kernel_rfl) ?_
   exact vx_ret <| fx_blk_ret <| fx_seq_ret <| t1 <| fx_blk_ret <| t0 <| hr H (by kernel_rfl)
  refine vx_skip <| fx_blk <| fx_seq <| ?_
  refine zb tok hT [0, 1, 12, 13] (St.mk [p 0 (L i64 a0), p 1 (L i64 a1), p 12 (I (↑a0.length : Int)), p 13 (I (v0 + 1))] []) H (by kernel_rfl) fun H => ?_
  exact b1 H (by kernel_rfl)
 exact vx_exit <| fx_seq_exit <| e1 <| fx_blk_exit rfl <| n0 H (by kernel_rfl)
def u149 (a0 : Y52) (a1 : Y52) : Option (Bool) :=
 gd ((u182 a0.1 a1.1).isSome = true ∧ (vl (u182 a0.1 a1.1) = true ∧ True → (u182 a0.2.1 a1.2.1).isSome = true) ∧ ((vl (u182 a0.1 a1.1) && vl (u182 a0.2.1 a1.2.1)) = true ∧ True → (u182 a0.2.2.1 a1.2.2.1).isSome = true) ∧ ((vl (u182 a0.1 a1.1) && vl (u182 a0.2.1 a1.2.1) && vl (u182 a0.2.2.1 a1.2.2.1)) = true ∧ True → (u182 a0.2.2.2 a1.2.2.2).isSome = true) ∧ True) <| 
 some (vl (u182 a0.1 a1.1) && vl (u182 a0.2.1 a1.2.1) && vl (u182 a0.2.2.1 a1.2.2.1) && vl (u182 a0.2.2.2 a1.2.2.2))
def k149 : Ct := lct 149 [.agg y52, .agg y52] (fun x => u149 x.1 x.2.1) (fun r : Bool => B r) (fun _ => ())
theorem o149 : Ok Tryz.prog k149 := by
 refine okl tok [.tmp 4] Tryz.func149 Tryz.ntmps149 rfl Tryz.results149 (by kernel_rfl) rfl ?_
 intro y ⟨a0, a1, _⟩ r H Q hn hr
 have hT := tc o182 tn
 refine qa tok hT [2, 3] (St.mk [p 2 (AV.ptr 2 0), p 3 (AV.ptr 3 0)] [(3, Ob.box 52 (cellsD false y52 a1)), (2, Ob.box 52 (cellsD false y52 a0))]) (by kernel_rfl) ?_
 refine qb tok hT [4] (St.mk [p 4 (B (vl (u182 a0.1 a1.1) && vl (u182 a0.2.1 a1.2.1) && vl (u182 a0.2.2.1 a1.2.2.1) && vl (u182 a0.2.2.2 a1.2.2.2)))] [(3, Ob.box 52 (cellsD false y52 a1)), (2, Ob.box 52 (cellsD false y52 a0))]) H (by kernel_rfl) fun H => ?_
 exact vx_ret <| hr H (by kernel_rfl)
def u114 (a0 : Y54) (a1 : Y54) : Option (Bool) :=
 gd (((a0.1 == a1.1 && a0.2.1 == a1.2.1 && a0.2.2.1 == a1.2.2.1 && a0.2.2.2.1 == a1.2.2.2.1 && a0.2.2.2.2.1 == a1.2.2.2.2.1 && decide (a0.2.2.2.2.2.1 = a1.2.2.2.2.2.1)) = true ∧ True → (u149 a0.2.2.2.2.2.2 a1.2.2.2.2.2.2).isSome = true) ∧ True) <| lt (a0.1 == a1.1 && a0.2.1 == a1.2.1 && a0.2.2.1 == a1.2.2.1 && a0.2.2.2.1 == a1.2.2.2.1 && a0.2.2.2.2.1 == a1.2.2.2.2.1 && decide (a0.2.2.2.2.2.1 = a1.2.2.2.2.2.1) && vl (u149 a0.2.2.2.2.2.2 a1.2.2.2.2.2.2)) fun v0 =>
 some v0
def k114 : Ct := lct 114 [.agg y54, .agg y54] (fun x => u114 x.1 x.2.1) (fun r : Bool => B r) (fun _ => ())
theorem o114 : Ok Tryz.prog k114 := by
 refine okl tok [.tmp 4] Tryz.func114 Tryz.ntmps114 rfl Tryz.results114 (by kernel_rfl) rfl ?_
 intro y ⟨a0, a1, _⟩ r H Q hn hr
 have hT := tc o149 tn
 refine qa tok hT [2, 3] (St.mk [p 2 (AV.ptr 2 0), p 3 (AV.ptr 3 0)] [(3, Ob.box 54 (cellsD false y54 a1)), (2, Ob.box 54 (cellsD false y54 a0))]) (by kernel_rfl) ?_
 refine qd tok hT [4] (fun v0 => St.mk [p 4 (B v0)] [(3, Ob.box 54 (cellsD false y54 a1)), (2, Ob.box 54 (cellsD false y54 a0))]) H (by kernel_rfl) fun v0 H => ?_
 exact vx_ret <| hr H (by kernel_rfl)
def u115 (a0 : Y54) : Option (Y54) :=
 if (a0.1 == 1) = true then
  some ((a0.1, a0.2.1, a0.2.2.1, (0 : Int), (0 : Int), ByteArray.mk #[], [], [], [], []))
 else
  if (a0.1 == 2) = true then
   some ((a0.1, a0.2.1, a0.2.2.1, (0 : Int), (0 : Int), a0.2.2.2.2.2.1, [], [], [], []))
  else
   if (a0.1 == 4) = true then
    some ((a0.1, a0.2.1, (0 : Int), a0.2.2.2.1, a0.2.2.2.2.1, ByteArray.mk #[], [], [], [], []))
   else
    if (a0.1 == 5) = true then
     some ((a0.1, (0 : Int), (0 : Int), a0.2.2.2.1, (0 : Int), ByteArray.mk #[], a0.2.2.2.2.2.2))
    else
     some ((a0.1, (0 : Int), (0 : Int), (0 : Int), (0 : Int), ByteArray.mk #[], [], [], [], []))
def k115 : Ct := lct 115 [.agg y54] (fun x => u115 x.1) (fun r : Y54 => AV.agg [I r.1, I r.2.1, I r.2.2.1, I r.2.2.2.1, I r.2.2.2.2.1, S r.2.2.2.2.2.1, L i64 r.2.2.2.2.2.2.1, L i64 r.2.2.2.2.2.2.2.1, L i64 r.2.2.2.2.2.2.2.2.1, L i64 r.2.2.2.2.2.2.2.2.2]) (fun _ => ())
theorem o115 : Ok Tryz.prog k115 := by
 refine okl tok [.cell 2 54] Tryz.func115 Tryz.ntmps115 rfl Tryz.results115 (by kernel_rfl) rfl ?_
 intro y ⟨a0, _⟩ r H Q hn hr
 have hT := @tn Tryz.prog
 refine qa tok hT [1, 2] (St.mk [p 1 (AV.ptr 1 0), p 2 (AV.ptr 2 0)] [(2, Ob.box 54 [I 0, I 0, I 0, I 0, I 0, S (ByteArray.mk #[]), AV.v (Value.slice none 0 0), AV.v (Value.slice none 0 0), AV.v (Value.slice none 0 0), AV.v (Value.slice none 0 0)]), (1, Ob.box 54 (cellsD false y54 a0))]) (by kernel_rfl) ?_
 refine vx_seq <| ?_
 refine qa tok hT [1, 2, 4] (St.mk [p 1 (AV.ptr 1 0), p 2 (AV.ptr 2 0), p 4 (J a0.1)] [(2, Ob.box 54 [I 0, I 0, I 0, I 0, I 0, S (ByteArray.mk #[]), AV.v (Value.slice none 0 0), AV.v (Value.slice none 0 0), AV.v (Value.slice none 0 0), AV.v (Value.slice none 0 0)]), (1, Ob.box 54 (cellsD false y54 a0))]) (by kernel_rfl) ?_
 refine vx_block <| ?_
 refine qa tok hT [1, 2, 4, 5] (St.mk [p 1 (AV.ptr 1 0), p 2 (AV.ptr 2 0), p 4 (J a0.1), p 5 (B (a0.1 == 1))] [(2, Ob.box 54 [I 0, I 0, I 0, I 0, I 0, S (ByteArray.mk #[]), AV.v (Value.slice none 0 0), AV.v (Value.slice none 0 0), AV.v (Value.slice none 0 0), AV.v (Value.slice none 0 0)]), (1, Ob.box 54 (cellsD false y54 a0))]) (by kernel_rfl) ?_
 refine cd H (by kernel_rfl) (fun H => ?_) (fun H => ?_)
 ·refine qa tok hT [2] (St.mk [p 2 (AV.ptr 2 0)] [(2, Ob.box 54 [J a0.1, J a0.2.1, J a0.2.2.1, I 0, I 0, S (ByteArray.mk #[]), AV.v (Value.slice none 0 0), AV.v (Value.slice none 0 0), AV.v (Value.slice none 0 0), AV.v (Value.slice none 0 0)]), (1, Ob.box 54 (cellsD false y54 a0))]) (by kernel_rfl) ?_
  exact vx_ret <| fx_blk_ret <| fx_seq_ret <| hr H (by kernel_rfl)
 refine qa tok hT [1, 2, 4, 14] (St.mk [p 1 (AV.ptr 1 0), p 2 (AV.ptr 2 0), p 4 (J a0.1), p 14 (B (a0.1 == 2))] [(2, Ob.box 54 [I 0, I 0, I 0, I 0, I 0, S (ByteArray.mk #[]), AV.v (Value.slice none 0 0), AV.v (Value.slice none 0 0), AV.v (Value.slice none 0 0), AV.v (Value.slice none 0 0)]), (1, Ob.box 54 (cellsD false y54 a0))]) (by kernel_rfl) ?_
 refine cd H (by kernel_rfl) (fun H => ?_) (fun H => ?_)
 ·refine qa tok hT [2] (St.mk [p 2 (AV.ptr 2 0)] [(2, Ob.box 54 [J a0.1, J a0.2.1, J a0.2.2.1, I 0, I 0, U a0.2.2.2.2.2.1, AV.v (Value.slice none 0 0), AV.v (Value.slice none 0 0), AV.v (Value.slice none 0 0), AV.v (Value.slice none 0 0)]), (1, Ob.box 54 (cellsD false y54 a0))]) (by kernel_rfl) ?_
  exact vx_ret <| fx_blk_ret <| fx_seq_ret <| hr H (by kernel_rfl)
 refine qa tok hT [1, 2, 4, 25] (St.mk [p 1 (AV.ptr 1 0), p 2 (AV.ptr 2 0), p 4 (J a0.1), p 25 (B (a0.1 == 4))] [(2, Ob.box 54 [I 0, I 0, I 0, I 0, I 0, S (ByteArray.mk #[]), AV.v (Value.slice none 0 0), AV.v (Value.slice none 0 0), AV.v (Value.slice none 0 0), AV.v (Value.slice none 0 0)]), (1, Ob.box 54 (cellsD false y54 a0))]) (by kernel_rfl) ?_
 refine cd H (by kernel_rfl) (fun H => ?_) (fun H => ?_)
 ·refine qa tok hT [2] (St.mk [p 2 (AV.ptr 2 0)] [(2, Ob.box 54 [J a0.1, J a0.2.1, I 0, J a0.2.2.2.1, J a0.2.2.2.2.1, S (ByteArray.mk #[]), AV.v (Value.slice none 0 0), AV.v (Value.slice none 0 0), AV.v (Value.slice none 0 0), AV.v (Value.slice none 0 0)]), (1, Ob.box 54 (cellsD false y54 a0))]) (by kernel_rfl) ?_
  exact vx_ret <| fx_blk_ret <| fx_seq_ret <| hr H (by kernel_rfl)
 refine qa tok hT [1, 2, 36] (St.mk [p 1 (AV.ptr 1 0), p 2 (AV.ptr 2 0), p 36 (B (a0.1 == 5))] [(2, Ob.box 54 [I 0, I 0, I 0, I 0, I 0, S (ByteArray.mk #[]), AV.v (Value.slice none 0 0), AV.v (Value.slice none 0 0), AV.v (Value.slice none 0 0), AV.v (Value.slice none 0 0)]), (1, Ob.box 54 (cellsD false y54 a0))]) (by kernel_rfl) ?_
 refine cd H (by kernel_rfl) (fun H => ?_) (fun H => ?_)
 ·refine qa tok hT [2] (St.mk [p 2 (AV.ptr 2 0)] [(2, Ob.box 54 [J a0.1, I 0, I 0, J a0.2.2.2.1, I 0, S (ByteArray.mk #[]), L i64 a0.2.2.2.2.2.2.1, L i64 a0.2.2.2.2.2.2.2.1, L i64 a0.2.2.2.2.2.2.2.2.1, L i64 a0.2.2.2.2.2.2.2.2.2]), (1, Ob.box 54 (cellsD false y54 a0))]) (by kernel_rfl) ?_
  exact vx_ret <| fx_blk_ret <| fx_seq_ret <| hr H (by kernel_rfl)
 refine vx_skip <| fx_blk <| fx_seq <| ?_
 refine qa tok hT [2] (St.mk [p 2 (AV.ptr 2 0)] [(2, Ob.box 54 [J a0.1, I 0, I 0, I 0, I 0, S (ByteArray.mk #[]), AV.v (Value.slice none 0 0), AV.v (Value.slice none 0 0), AV.v (Value.slice none 0 0), AV.v (Value.slice none 0 0)]), (1, Ob.box 54 (cellsD false y54 a0))]) (by kernel_rfl) ?_
 exact vx_ret <| hr H (by kernel_rfl)
def u76J0 (a0 : Y54) (v0 : List Y121) (a1 : Y50) : Bool → Option (Bool)
 | v1 =>
 if v1 = true then
  gd ((vl (u111 a0.2.1 0 (vl (u116 v0) - 1)) = true ∧ True → (u117 a1.1).isSome = true) ∧ (vl (u111 a0.2.1 0 (vl (u116 v0) - 1)) = true ∧ True → in64 (vl (u117 a1.1) - 1)) ∧ (vl (u111 a0.2.1 0 (vl (u116 v0) - 1)) = true ∧ True → (u111 a0.2.2.1 0 (vl (u117 a1.1) - 1)).isSome = true) ∧ True) <| 
  some (vl (u111 a0.2.1 0 (vl (u116 v0) - 1)) && vl (u111 a0.2.2.1 0 (vl (u117 a1.1) - 1)))
 else
  if (a0.1 == 4) = true then
   gd ((vl (u111 a0.2.1 0 (vl (u116 v0) - 1)) = true ∧ True → (u84 a1.2.1 a0.2.2.2.1).isSome = true) ∧ ((vl (u111 a0.2.1 0 (vl (u116 v0) - 1)) && vl (u84 a1.2.1 a0.2.2.2.1)) = true ∧ True → ix a0.2.2.2.1 a1.2.2.length) ∧ ((vl (u111 a0.2.1 0 (vl (u116 v0) - 1)) && vl (u84 a1.2.1 a0.2.2.2.1)) = true ∧ True → (u110 (a1.2.2.getD a0.2.2.2.1.toNat (dflt y52)).1).isSome = true) ∧ ((vl (u111 a0.2.1 0 (vl (u116 v0) - 1)) && vl (u84 a1.2.1 a0.2.2.2.1)) = true ∧ True → in64 (vl (u110 (a1.2.2.getD a0.2.2.2.1.toNat (dflt y52)).1) - 1)) ∧ ((vl (u111 a0.2.1 0 (vl (u116 v0) - 1)) && vl (u84 a1.2.1 a0.2.2.2.1)) = true ∧ True → (u111 a0.2.2.2.2.1 0 (vl (u110 (a1.2.2.getD a0.2.2.2.1.toNat (dflt y52)).1) - 1)).isSome = true) ∧ True) <| 
   some (vl (u111 a0.2.1 0 (vl (u116 v0) - 1)) && vl (u84 a1.2.1 a0.2.2.2.1) && vl (u111 a0.2.2.2.2.1 0 (vl (u110 (a1.2.2.getD a0.2.2.2.1.toNat (dflt y52)).1) - 1)))
  else
   if (a0.1 == 5) = true then
    gd ((u84 a1.2.1 a0.2.2.2.1).isSome = true ∧ True) <| 
    some (vl (u84 a1.2.1 a0.2.2.2.1))
   else
    some true
def u76 (a0 : Y54) (a1 : Y50) : Option (Bool) :=
 gd ((u111 a0.1 1 5).isSome = true ∧ ((!vl (u111 a0.1 1 5)) = false ∧ True → (u115 a0).isSome = true) ∧ ((!vl (u111 a0.1 1 5)) = false ∧ True → (u114 a0 (vl (u115 a0))).isSome = true) ∧ True) <| 
 if (!vl (u111 a0.1 1 5) || !vl (u114 a0 (vl (u115 a0)))) = true then
  some false
 else
  gd ((u74 a1.2.1).isSome = true ∧ (u116 (vl (u74 a1.2.1))).isSome = true ∧ in64 (vl (u116 (vl (u74 a1.2.1))) - 1) ∧ (u111 a0.2.1 0 (vl (u116 (vl (u74 a1.2.1))) - 1)).isSome = true ∧ True) <| lt (vl (u74 a1.2.1)) fun v0 =>
  if (a0.1 == 1) = true then
   u76J0 a0 v0 a1 (a0.1 == 1)
  else
   u76J0 a0 v0 a1 (a0.1 == 2)
def k76 : Ct := lct 76 [.agg y54, .agg y50] (fun x => u76 x.1 x.2.1) (fun r : Bool => B r) (fun _ => ())
theorem o76 : Ok Tryz.prog k76 := by
 refine okl tok [.tmp 4] Tryz.func76 Tryz.ntmps76 rfl Tryz.results76 (by kernel_rfl) rfl ?_
 intro y ⟨a0, a1, _⟩ r H Q hn hr
 have hT := tc o84 (tc o111 (tc o110 (tc o117 (tc o116 (tc o74 (tc o114 (tc o115 tn)))))))
 refine qa tok hT [2, 3] (St.mk [p 2 (AV.ptr 2 0), p 3 (AV.ptr 3 0)] [(3, Ob.box 50 (cellsD false y50 a1)), (2, Ob.box 54 (cellsD false y54 a0))]) (by kernel_rfl) ?_
 refine vx_seq <| ?_
 refine qb tok hT [2, 3, 16] (St.mk [p 2 (AV.ptr 2 0), p 3 (AV.ptr 3 0), p 16 (B (!vl (u111 a0.1 1 5) || !vl (u114 a0 (vl (u115 a0)))))] [(3, Ob.box 50 (cellsD false y50 a1)), (2, Ob.box 54 (cellsD false y54 a0))]) H (by kernel_rfl) fun H => ?_
 refine cd H (by kernel_rfl) (fun H => ?_) (fun H => ?_)
 ·refine qa tok hT [4] (St.mk [p 4 (B false)] [(3, Ob.box 50 (cellsD false y50 a1)), (2, Ob.box 54 (cellsD false y54 a0))]) (by kernel_rfl) ?_
  exact vx_ret <| fx_seq_ret <| hr H (by kernel_rfl)
 refine vx_skip <| fx_seq <| ?_
 refine qd tok hT [2, 3, 5] (fun v0 => St.mk [p 2 (AV.ptr 2 0), p 3 (AV.ptr 3 0), p 5 (B (vl (u111 a0.2.1 0 (vl (u116 v0) - 1))))] [(21, Ob.arr 121 true y121 v0 0), (3, Ob.box 50 (cellsD false y50 a1)), (2, Ob.box 54 (cellsD false y54 a0))]) H (by kernel_rfl) fun v0 H => ?_
 refine vx_seq <| ?_
 refine qa tok hT [2, 3, 5, 26] (St.mk [p 2 (AV.ptr 2 0), p 3 (AV.ptr 3 0), p 5 (B (vl (u111 a0.2.1 0 (vl (u116 v0) - 1)))), p 26 (J a0.1)] [(21, Ob.arr 121 true y121 v0 0), (3, Ob.box 50 (cellsD false y50 a1)), (2, Ob.box 54 (cellsD false y54 a0))]) (by kernel_rfl) ?_
 refine vx_block <| ?_
 refine jn r (fun (v1 : Bool) => St.mk [p 2 (AV.ptr 2 0), p 3 (AV.ptr 3 0), p 5 (B (vl (u111 a0.2.1 0 (vl (u116 v0) - 1)))), p 26 (J a0.1), p 27 (B v1)] [(3, Ob.box 50 (cellsD false y50 a1)), (2, Ob.box 54 (cellsD false y54 a0))]) (u76J0 a0 v0 a1) (fun v1 H => ?_) (fun _ n0 e0 t0 => ?_)
 ·refine cd H (by kernel_rfl) (fun H => ?_) (fun H => ?_)
  ·refine qb tok hT [4] (St.mk [p 4 (B (vl (u111 a0.2.1 0 (vl (u116 v0) - 1)) && vl (u111 a0.2.2.1 0 (vl (u117 a1.1) - 1))))] [(3, Ob.box 50 (cellsD false y50 a1)), (2, Ob.box 54 (cellsD false y54 a0))]) H (by kernel_rfl) fun H => ?_
   exact vx_ret <| fx_blk_ret <| fx_seq_ret <| hr H (by kernel_rfl)
  refine qa tok hT [2, 3, 5, 26, 41] (St.mk [p 2 (AV.ptr 2 0), p 3 (AV.ptr 3 0), p 5 (B (vl (u111 a0.2.1 0 (vl (u116 v0) - 1)))), p 26 (J a0.1), p 41 (B (a0.1 == 4))] [(3, Ob.box 50 (cellsD false y50 a1)), (2, Ob.box 54 (cellsD false y54 a0))]) (by kernel_rfl) ?_
  refine cd H (by kernel_rfl) (fun H => ?_) (fun H => ?_)
  ·refine qb tok hT [4] (St.mk [p 4 (B (vl (u111 a0.2.1 0 (vl (u116 v0) - 1)) && vl (u84 a1.2.1 a0.2.2.2.1) && vl (u111 a0.2.2.2.2.1 0 (vl (u110 (a1.2.2.getD a0.2.2.2.1.toNat (dflt y52)).1) - 1))))] [(3, Ob.box 50 (cellsD false y50 a1)), (2, Ob.box 54 (cellsD false y54 a0))]) H (by kernel_rfl) fun H => ?_
   exact vx_ret <| fx_blk_ret <| fx_seq_ret <| hr H (by kernel_rfl)
  refine qa tok hT [2, 3, 65] (St.mk [p 2 (AV.ptr 2 0), p 3 (AV.ptr 3 0), p 65 (B (a0.1 == 5))] [(3, Ob.box 50 (cellsD false y50 a1)), (2, Ob.box 54 (cellsD false y54 a0))]) (by kernel_rfl) ?_
  refine cd H (by kernel_rfl) (fun H => ?_) (fun H => ?_)
  ·refine qb tok hT [4] (St.mk [p 4 (B (vl (u84 a1.2.1 a0.2.2.2.1)))] [(3, Ob.box 50 (cellsD false y50 a1)), (2, Ob.box 54 (cellsD false y54 a0))]) H (by kernel_rfl) fun H => ?_
   exact vx_ret <| fx_blk_ret <| fx_seq_ret <| hr H (by kernel_rfl)
  refine vx_skip <| fx_blk <| fx_seq <| ?_
  refine qa tok hT [4] (St.mk [p 4 (B true)] [(3, Ob.box 50 (cellsD false y50 a1)), (2, Ob.box 54 (cellsD false y54 a0))]) (by kernel_rfl) ?_
  exact vx_ret <| hr H (by kernel_rfl)
 refine qa tok hT [2, 3, 5, 26, 27] (St.mk [p 2 (AV.ptr 2 0), p 3 (AV.ptr 3 0), p 5 (B (vl (u111 a0.2.1 0 (vl (u116 v0) - 1)))), p 26 (J a0.1), p 27 (B (a0.1 == 1))] [(21, Ob.arr 121 true y121 v0 0), (3, Ob.box 50 (cellsD false y50 a1)), (2, Ob.box 54 (cellsD false y54 a0))]) (by kernel_rfl) ?_
 refine cd H (by kernel_rfl) (fun H => ?_) (fun H => ?_)
 ·exact vx_skip <| n0 H (by kernel_rfl)
 refine za tok hT [2, 3, 5, 26, 27] (St.mk [p 2 (AV.ptr 2 0), p 3 (AV.ptr 3 0), p 5 (B (vl (u111 a0.2.1 0 (vl (u116 v0) - 1)))), p 26 (J a0.1), p 27 (B (a0.1 == 2))] [(21, Ob.arr 121 true y121 v0 0), (3, Ob.box 50 (cellsD false y50 a1)), (2, Ob.box 54 (cellsD false y54 a0))]) (by kernel_rfl) ?_
 exact n0 H (by kernel_rfl)
def u35 (a0 : Y54) (a1 : Y50) : Option (Int) :=
 gd ((u76 a0 a1).isSome = true ∧ True) <| 
 if (!vl (u76 a0 a1)) = true then
  some 2
 else
  gd ((u77 a0 a1).isSome = true ∧ True) <| 
  if (!vl (u77 a0 a1)) = true then
   some 5
  else
   if (a0.1 == 2 && ((↑a1.2.1.1.length : Int) == 14 || (↑a1.2.1.2.1.length : Int) == 30)) = true then
    some 3
   else
    some 0
def k35 : Ct := lct 35 [.agg y54, .agg y50] (fun x => u35 x.1 x.2.1) (fun r : Int => I r) (fun _ => ())
theorem o35 : Ok Tryz.prog k35 := by
 refine okl tok [.tmp 4] Tryz.func35 Tryz.ntmps35 rfl Tryz.results35 (by kernel_rfl) rfl ?_
 intro y ⟨a0, a1, _⟩ r H Q hn hr
 have hT := tc o77 (tc o76 tn)
 refine qa tok hT [2, 3] (St.mk [p 2 (AV.ptr 2 0), p 3 (AV.ptr 3 0)] [(3, Ob.box 50 (cellsD false y50 a1)), (2, Ob.box 54 (cellsD false y54 a0))]) (by kernel_rfl) ?_
 refine vx_seq <| vx_block <| ?_
 refine qb tok hT [2, 3, 5] (St.mk [p 2 (AV.ptr 2 0), p 3 (AV.ptr 3 0), p 5 (B !vl (u76 a0 a1))] [(3, Ob.box 50 (cellsD false y50 a1)), (2, Ob.box 54 (cellsD false y54 a0))]) H (by kernel_rfl) fun H => ?_
 refine cd H (by kernel_rfl) (fun H => ?_) (fun H => ?_)
 ·refine qa tok hT [4] (St.mk [p 4 (I 2)] [(3, Ob.box 50 (cellsD false y50 a1)), (2, Ob.box 54 (cellsD false y54 a0))]) (by kernel_rfl) ?_
  exact vx_ret <| fx_blk_ret <| fx_seq_ret <| hr H (by kernel_rfl)
 refine qb tok hT [2, 3, 10] (St.mk [p 2 (AV.ptr 2 0), p 3 (AV.ptr 3 0), p 10 (B !vl (u77 a0 a1))] [(3, Ob.box 50 (cellsD false y50 a1)), (2, Ob.box 54 (cellsD false y54 a0))]) H (by kernel_rfl) fun H => ?_
 refine cd H (by kernel_rfl) (fun H => ?_) (fun H => ?_)
 ·refine qa tok hT [4] (St.mk [p 4 (I 5)] [(3, Ob.box 50 (cellsD false y50 a1)), (2, Ob.box 54 (cellsD false y54 a0))]) (by kernel_rfl) ?_
  exact vx_ret <| fx_blk_ret <| fx_seq_ret <| hr H (by kernel_rfl)
 refine qa tok hT [15] (St.mk [p 15 (B (a0.1 == 2 && ((↑a1.2.1.1.length : Int) == 14 || (↑a1.2.1.2.1.length : Int) == 30)))] [(3, Ob.box 50 (cellsD false y50 a1)), (2, Ob.box 54 (cellsD false y54 a0))]) (by kernel_rfl) ?_
 refine cd H (by kernel_rfl) (fun H => ?_) (fun H => ?_)
 ·refine qa tok hT [4] (St.mk [p 4 (I 3)] [(3, Ob.box 50 (cellsD false y50 a1)), (2, Ob.box 54 (cellsD false y54 a0))]) (by kernel_rfl) ?_
  exact vx_ret <| fx_blk_ret <| fx_seq_ret <| hr H (by kernel_rfl)
 refine vx_skip <| fx_blk <| fx_seq <| ?_
 refine qa tok hT [4] (St.mk [p 4 (I 0)] [(3, Ob.box 50 (cellsD false y50 a1)), (2, Ob.box 54 (cellsD false y54 a0))]) (by kernel_rfl) ?_
 exact vx_ret <| hr H (by kernel_rfl)
def u109 (a0 : Int) : Option (Bool) :=
 some (a0 != 1)
def k109 : Ct := lct 109 [.dat i64] (fun x => u109 x.1) (fun r : Bool => B r) (fun _ => ())
theorem o109 : Ok Tryz.prog k109 := by
 refine okl tok [.tmp 2] Tryz.func109 Tryz.ntmps109 rfl Tryz.results109 (by kernel_rfl) rfl ?_
 intro y ⟨a0, _⟩ r H Q hn hr
 have hT := @tn Tryz.prog
 refine qa tok hT [0] (St.mk [p 0 (J a0)] []) (by kernel_rfl) ?_
 refine qa tok hT [2] (St.mk [p 2 (B (a0 != 1))] []) (by kernel_rfl) ?_
 exact vx_ret <| hr H (by kernel_rfl)
def u146 (a0 : Int) (a1 : Y47) : Option (Bool) :=
 gd ((u84 a1 a0).isSome = true ∧ True) <| 
 some (!vl (u84 a1 a0))
def k146 : Ct := lct 146 [.dat i64, .dat (.pt y47)] (fun x => u146 x.1 x.2.1) (fun r : Bool => B r) (fun _ => ())
theorem o146 : Ok Tryz.prog k146 := by
 refine okl tok [.tmp 3] Tryz.func146 Tryz.ntmps146 rfl Tryz.results146 (by kernel_rfl) rfl ?_
 intro y ⟨a0, a1, _⟩ r H Q hn hr
 have hT := tc o84 tn
 refine qa tok hT [0, 1] (St.mk [p 0 (J a0), p 1 (D y47.pt a1)] []) (by kernel_rfl) ?_
 refine qb tok hT [3] (St.mk [p 3 (B !vl (u84 a1 a0))] []) H (by kernel_rfl) fun H => ?_
 exact vx_ret <| hr H (by kernel_rfl)
def u181c146J0 : Unit → Option (Int)
 | _ =>
 some (-1)
def u181c146L1 (a0 : List Int) (a1 : Y47) (g1 : Int → Option (Int)) : Int → Option (Int)
 | v0 =>
 if (decide (v0 < (↑a0.length : Int))) = true then
  gd (ix v0 a0.length ∧ (u146 (a0.getD v0.toNat 0) a1).isSome = true ∧ True) <| 
  if (vl (u146 (a0.getD v0.toNat 0) a1)) = true then
   some v0
  else
   gd (in64 (v0 + 1) ∧ True) <| 
   g1 (v0 + 1)
 else
  u181c146J0 ()
def u181c146 (a0 : List Int) (a1 : Y47) : Option (Int) :=
 lp (u181c146L1 a0 a1) 0
def k181c146 : Ct := lct 181 [.dat i64.sl, .fn 146 y47.pt] (fun x => u181c146 x.1 x.2.1) (fun r : Int => I r) (fun _ => ())
theorem o181c146 : Ok Tryz.prog k181c146 := by
 refine okl tok [.tmp 4] Tryz.func181 Tryz.ntmps181 rfl Tryz.results181 (by kernel_rfl) rfl ?_
 intro y ⟨a0, a1, _⟩ r H Q hn hr
 have hT := tc o146 tn
 refine qa tok hT [0, 1] (St.mk [p 0 (L i64 a0), p 1 (AV.fn 146 [D y47.pt a1])] []) (by kernel_rfl) ?_
 refine jn r (fun (_ : Unit) => St.mk [] []) (u181c146J0) (fun _ H => ?_) (fun _ n0 e0 t0 => ?_)
 ·refine qa tok hT [4] (St.mk [p 4 (I (-1))] []) (by kernel_rfl) ?_
  exact vx_ret <| hr H (by kernel_rfl)
 refine qa tok hT [0, 1, 7, 8] (St.mk [p 0 (L i64 a0), p 1 (AV.fn 146 [D y47.pt a1]), p 7 (I (↑a0.length : Int)), p 8 (I 0)] []) (by kernel_rfl) ?_
 refine vx_block <| ?_
 refine lx (fun (v0 : Int) => St.mk [p 0 (L i64 a0), p 1 (AV.fn 146 [D y47.pt a1]), p 7 (I (↑a0.length : Int)), p 8 (I v0)] []) 0 H (by kernel_rfl) fun _ g1 b1 e1 t1 v0 H => ?_
 refine qa tok hT [0, 1, 7, 8, 9] (St.mk [p 0 (L i64 a0), p 1 (AV.fn 146 [D y47.pt a1]), p 7 (I (↑a0.length : Int)), p 8 (I v0), p 9 (B (decide (v0 < (↑a0.length : Int))))] []) (by kernel_rfl) ?_
 refine vx_seq <| ?_
 refine cd H (by kernel_rfl) (fun H => ?_) (fun H => ?_)
 ·refine vx_skip <| fx_seq <| vx_seq <| vx_block <| ?_
  refine qa tok hT [0, 1, 5, 7, 8] (St.mk [p 0 (L i64 a0), p 1 (AV.fn 146 [D y47.pt a1]), p 5 (I v0), p 7 (I (↑a0.length : Int)), p 8 (I v0)] []) (by kernel_rfl) ?_
  refine qb tok hT [0, 1, 5, 7, 8, 16] (St.mk [p 0 (L i64 a0), p 1 (AV.fn 146 [D y47.pt a1]), p 5 (I v0), p 7 (I (↑a0.length : Int)), p 8 (I v0), p 16 (B (vl (u146 (a0.getD v0.toNat 0) a1)))] []) H (by kernel_rfl) fun H => ?_
  refine cd H (by kernel_rfl) (fun H => ?_) (fun H => ?_)
  ·refine qa tok hT [4] (St.mk [p 4 (I v0)] []) (by kernel_rfl) ?_
   exact vx_ret <| fx_blk_ret <| fx_seq_ret <| t1 <| fx_blk_ret <| t0 <| hr H (by kernel_rfl)
  refine vx_skip <| fx_blk <| fx_seq <| ?_
  refine zb tok hT [0, 1, 7, 8] (St.mk [p 0 (L i64 a0), p 1 (AV.fn 146 [D y47.pt a1]), p 7 (I (↑a0.length : Int)), p 8 (I (v0 + 1))] []) H (by kernel_rfl) fun H => ?_
  exact b1 H (by kernel_rfl)
 exact vx_exit <| fx_seq_exit <| e1 <| fx_blk_exit rfl <| n0 H (by kernel_rfl)
def u145c146 (a0 : List Int) (a1 : Y47) : Option (Bool) :=
 gd ((u181c146 a0 a1).isSome = true ∧ True) <| lt (vl (u181c146 a0 a1)) fun v0 =>
 some (decide (0 ≤ v0))
def k145c146 : Ct := lct 145 [.dat i64.sl, .fn 146 (.pt y47)] (fun x => u145c146 x.1 x.2.1) (fun r : Bool => B r) (fun _ => ())
theorem o145c146 : Ok Tryz.prog k145c146 := by
 refine okl tok [.tmp 4] Tryz.func145 Tryz.ntmps145 rfl Tryz.results145 (by kernel_rfl) rfl ?_
 intro y ⟨a0, a1, _⟩ r H Q hn hr
 have hT := tc o181c148 (tc o181c146 (tc o146 tn))
 refine qa tok hT [0, 1] (St.mk [p 0 (L i64 a0), p 1 (AV.fn 146 [D y47.pt a1])] []) (by kernel_rfl) ?_
 refine qd tok hT [4] (fun v0 => St.mk [p 4 (B (decide (0 ≤ v0)))] []) H (by kernel_rfl) fun v0 H => ?_
 exact vx_ret <| hr H (by kernel_rfl)
def u107 (a0 : Y47) (a1 : List Y107) (a2 : Y109) : Option (Bool) :=
 gd ((u117 a1).isSome = true ∧ in64 (vl (u117 a1) - 1) ∧ (u111 a2.2.1 0 (vl (u117 a1) - 1)).isSome = true ∧ (vl (u111 a2.2.1 0 (vl (u117 a1) - 1)) = true ∧ True → ix a2.2.1 a1.length) ∧ ((vl (u111 a2.2.1 0 (vl (u117 a1) - 1)) && (↑a2.2.2.length : Int) == (↑(a1.getD a2.2.1.toNat (dflt y107)).2.2.1.length : Int)) = true ∧ True → (u145c146 a2.2.2 a0).isSome = true) ∧ True) <| 
 some (vl (u111 a2.2.1 0 (vl (u117 a1) - 1)) && (↑a2.2.2.length : Int) == (↑(a1.getD a2.2.1.toNat (dflt y107)).2.2.1.length : Int) && !vl (u145c146 a2.2.2 a0))
def k107 : Ct := lct 107 [.agg y47, .agg y107.sl, .agg y109] (fun x => u107 x.1 x.2.1 x.2.2.1) (fun r : Bool => B r) (fun _ => ())
theorem o107 : Ok Tryz.prog k107 := by
 refine okl tok [.tmp 6] Tryz.func107 Tryz.ntmps107 rfl Tryz.results107 (by kernel_rfl) rfl ?_
 intro y ⟨a0, a1, a2, _⟩ r H Q hn hr
 have hT := tc o145c148 (tc o145c146 (tc o146 (tc o111 (tc o117 tn))))
 refine qa tok hT [3, 4, 5] (St.mk [p 3 (AV.ptr 3 0), p 4 (AV.ptr 4 0), p 5 (AV.ptr 5 0)] [(5, Ob.box 109 (cellsD false y109 a2)), (4, Ob.box 43 [L y107 a1]), (3, Ob.box 47 (cellsD false y47 a0))]) (by kernel_rfl) ?_
 refine qb tok hT [6] (St.mk [p 6 (B (vl (u111 a2.2.1 0 (vl (u117 a1) - 1)) && (↑a2.2.2.length : Int) == (↑(a1.getD a2.2.1.toNat (dflt y107)).2.2.1.length : Int) && !vl (u145c146 a2.2.2 a0)))] [(5, Ob.box 109 (cellsD false y109 a2)), (4, Ob.box 43 [L y107 a1]), (3, Ob.box 47 (cellsD false y47 a0))]) H (by kernel_rfl) fun H => ?_
 exact vx_ret <| hr H (by kernel_rfl)
def u180 (a0 : List ByteArray) (a1 : ByteArray) : Option (Bool) :=
 gd ((u156 a0 a1).isSome = true ∧ True) <| lt (vl (u156 a0 a1)) fun v0 =>
 some (decide (0 ≤ v0))
def k180 : Ct := lct 180 [.dat Ty.str.sl, .dat Ty.str] (fun x => u180 x.1 x.2.1) (fun r : Bool => B r) (fun _ => ())
theorem o180 : Ok Tryz.prog k180 := by
 refine okl tok [.tmp 4] Tryz.func180 Tryz.ntmps180 rfl Tryz.results180 (by kernel_rfl) rfl ?_
 intro y ⟨a0, a1, _⟩ r H Q hn hr
 have hT := tc o156 tn
 refine qa tok hT [0, 1] (St.mk [p 0 (L Ty.str a0), p 1 (U a1)] []) (by kernel_rfl) ?_
 refine qd tok hT [4] (fun v0 => St.mk [p 4 (B (decide (0 ≤ v0)))] []) H (by kernel_rfl) fun v0 H => ?_
 exact vx_ret <| hr H (by kernel_rfl)
def u144J0 : Unit → Option (Bool)
 | _ =>
 some true
def u144L1 (a0 : List ByteArray) (g1 : Int → Option (Bool)) : Int → Option (Bool)
 | v0 =>
 if (decide (v0 < (↑a0.length : Int))) = true then
  gd (ix v0 a0.length ∧ True) <| 
  gd ((u120 (a0.getD v0.toNat (dflt Ty.str))).isSome = true ∧ ((!vl (u120 (a0.getD v0.toNat (dflt Ty.str)))) = false ∧ True → (0 : Int) ≤ (0 : Int) ∧ (0 : Int) ≤ v0 ∧ v0 ≤ (↑a0.length : Int)) ∧ ((!vl (u120 (a0.getD v0.toNat (dflt Ty.str)))) = false ∧ True → (u180 (List.take v0.toNat a0) (a0.getD v0.toNat (dflt Ty.str))).isSome = true) ∧ True) <| 
  if (!vl (u120 (a0.getD v0.toNat (dflt Ty.str))) || vl (u180 (List.take v0.toNat a0) (a0.getD v0.toNat (dflt Ty.str)))) = true then
   some false
  else
   gd (in64 (v0 + 1) ∧ True) <| 
   g1 (v0 + 1)
 else
  u144J0 ()
def u144 (a0 : List ByteArray) : Option (Bool) :=
 lp (u144L1 a0) 0
def k144 : Ct := lct 144 [.dat Ty.str.sl] (fun x => u144 x.1) (fun r : Bool => B r) (fun _ => ())
theorem o144 : Ok Tryz.prog k144 := by
 refine okl tok [.tmp 2] Tryz.func144 Tryz.ntmps144 rfl Tryz.results144 (by kernel_rfl) rfl ?_
 intro y ⟨a0, _⟩ r H Q hn hr
 have hT := tc o180 (tc o120 tn)
 refine qa tok hT [0] (St.mk [p 0 (L Ty.str a0)] []) (by kernel_rfl) ?_
 refine jn r (fun (_ : Unit) => St.mk [] []) (u144J0) (fun _ H => ?_) (fun _ n0 e0 t0 => ?_)
 ·refine qa tok hT [2] (St.mk [p 2 (B true)] []) (by kernel_rfl) ?_
  exact vx_ret <| hr H (by kernel_rfl)
 refine qa tok hT [0, 5, 6, 7] (St.mk [p 0 (L Ty.str a0), p 5 (L Ty.str a0), p 6 (I (↑a0.length : Int)), p 7 (I 0)] []) (by kernel_rfl) ?_
 refine vx_block <| ?_
 refine lx (fun (v0 : Int) => St.mk [p 0 (L Ty.str a0), p 5 (L Ty.str a0), p 6 (I (↑a0.length : Int)), p 7 (I v0)] []) 0 H (by kernel_rfl) fun _ g1 b1 e1 t1 v0 H => ?_
 refine qa tok hT [0, 5, 6, 7, 8] (St.mk [p 0 (L Ty.str a0), p 5 (L Ty.str a0), p 6 (I (↑a0.length : Int)), p 7 (I v0), p 8 (B (decide (v0 < (↑a0.length : Int))))] []) (by kernel_rfl) ?_
 refine vx_seq <| ?_
 refine cd H (by kernel_rfl) (fun H => ?_) (fun H => ?_)
 ·refine vx_skip <| fx_seq <| vx_seq <| vx_block <| ?_
  refine qb tok hT [0, 3, 4, 5, 6, 7] (St.mk [p 0 (L Ty.str a0), p 3 (I v0), p 4 (U (a0.getD v0.toNat (dflt Ty.str))), p 5 (L Ty.str a0), p 6 (I (↑a0.length : Int)), p 7 (I v0)] []) H (by kernel_rfl) fun H => ?_
  refine qb tok hT [0, 5, 6, 7, 16, 17, 18, 19, 20, 21] (St.mk [p 0 (L Ty.str a0), p 5 (L Ty.str a0), p 6 (I (↑a0.length : Int)), p 7 (I v0), p 21 (B (!vl (u120 (a0.getD v0.toNat (dflt Ty.str))) || vl (u180 (List.take v0.toNat a0) (a0.getD v0.toNat (dflt Ty.str)))))] []) H (by kernel_rfl) fun H => ?_
  refine cd H (by kernel_rfl) (fun H => ?_) (fun H => ?_)
  ·refine qa tok hT [2] (St.mk [p 2 (B false)] []) (by kernel_rfl) ?_
   exact vx_ret <| fx_blk_ret <| fx_seq_ret <| t1 <| fx_blk_ret <| t0 <| hr H (by kernel_rfl)
  refine vx_skip <| fx_blk <| fx_seq <| ?_
  refine zb tok hT [0, 5, 6, 7] (St.mk [p 0 (L Ty.str a0), p 5 (L Ty.str a0), p 6 (I (↑a0.length : Int)), p 7 (I (v0 + 1))] []) H (by kernel_rfl) fun H => ?_
  exact b1 H (by kernel_rfl)
 exact vx_exit <| fx_seq_exit <| e1 <| fx_blk_exit rfl <| n0 H (by kernel_rfl)
def u106J2 (v4 : List ByteArray) (a0 : Y47) : List ByteArray → Option (Bool)
 | v9 =>
 gd (((decide ((↑v4.length : Int) ≤ 14) && decide ((↑a0.2.1.length : Int) ≤ 30) && decide ((↑v9.length : Int) ≤ 8)) = true ∧ True → (u144 v4).isSome = true) ∧ ((decide ((↑v4.length : Int) ≤ 14) && decide ((↑a0.2.1.length : Int) ≤ 30) && decide ((↑v9.length : Int) ≤ 8) && vl (u144 v4)) = true ∧ True → (u144 a0.2.1).isSome = true) ∧ ((decide ((↑v4.length : Int) ≤ 14) && decide ((↑a0.2.1.length : Int) ≤ 30) && decide ((↑v9.length : Int) ≤ 8) && vl (u144 v4) && vl (u144 a0.2.1)) = true ∧ True → (u144 v9).isSome = true) ∧ True) <| 
 some (decide ((↑v4.length : Int) ≤ 14) && decide ((↑a0.2.1.length : Int) ≤ 30) && decide ((↑v9.length : Int) ≤ 8) && vl (u144 v4) && vl (u144 a0.2.1) && vl (u144 v9))
def u106L3 (a0 : Y47) (v4 : List ByteArray) (g3 : List ByteArray × Int → Option (Bool)) : List ByteArray × Int → Option (Bool)
 | (v6, v7) =>
 if (decide (v7 < (↑a0.2.2.length : Int))) = true then
  gd (ix v7 a0.2.2.length ∧ True) <| lt (a0.2.2.getD v7.toNat (dflt y144)) fun v8 =>
  gd ((v6.length + [v8.1].length ≤ 9223372036854775807 ∧ (v6.length + [v8.1].length) * 16 ≤ 140737488355328) ∧ True) <| 
  gd (in64 (v7 + 1) ∧ True) <| 
  g3 (v6 ++ [v8.1], v7 + 1)
 else
  u106J2 v4 a0 v6
def u106J0 (a0 : Y47) : List ByteArray → Option (Bool)
 | v4 =>
 lp (u106L3 a0 v4) ([], 0)
def u106L1 (a0 : Y47) (g1 : List ByteArray × Int → Option (Bool)) : List ByteArray × Int → Option (Bool)
 | (v1, v2) =>
 if (decide (v2 < (↑a0.1.length : Int))) = true then
  gd (ix v2 a0.1.length ∧ True) <| lt (a0.1.getD v2.toNat (dflt y109)) fun v3 =>
  gd ((v1.length + [v3.1].length ≤ 9223372036854775807 ∧ (v1.length + [v3.1].length) * 16 ≤ 140737488355328) ∧ True) <| 
  gd (in64 (v2 + 1) ∧ True) <| 
  g1 (v1 ++ [v3.1], v2 + 1)
 else
  u106J0 a0 v1
def u106 (a0 : Y47) : Option (Bool) :=
 lp (u106L1 a0) ([], 0)
def k106 : Ct := lct 106 [.agg y47] (fun x => u106 x.1) (fun r : Bool => B r) (fun _ => ())
theorem o106 : Ok Tryz.prog k106 := by
 refine okl tok [.tmp 2] Tryz.func106 Tryz.ntmps106 rfl Tryz.results106 (by kernel_rfl) rfl ?_
 intro y ⟨a0, _⟩ r H Q hn hr
 have hT := tc o144 tn
 refine qa tok hT [1] (St.mk [p 1 (AV.ptr 1 0)] [(1, Ob.box 47 (cellsD false y47 a0))]) (by kernel_rfl) ?_
 refine qa tok hT [1, 3, 4] (St.mk [p 1 (AV.ptr 1 0), p 3 (AV.v (Value.slice none 0 0)), p 4 (AV.v (Value.slice none 0 0))] [(1, Ob.box 47 (cellsD false y47 a0))]) (by kernel_rfl) ?_
 refine jn r (fun (v4 : List ByteArray) => St.mk [p 1 (AV.ptr 1 0), p 3 (AV.os 20 0), p 4 (AV.v (Value.slice none 0 0))] [(1, Ob.box 47 (cellsD false y47 a0)), (20, Ob.arr 9 true Ty.str v4 0)]) (u106J0 a0) (fun v4 H => ?_) (fun _ n0 e0 t0 => ?_)
 ·refine jn r (fun (v9 : List ByteArray) => St.mk [p 1 (AV.ptr 1 0), p 3 (AV.os 20 0), p 4 (AV.os 33 0)] [(1, Ob.box 47 (cellsD false y47 a0)), (20, Ob.arr 9 true Ty.str v4 0), (33, Ob.arr 9 true Ty.str v9 0)]) (u106J2 v4 a0) (fun v9 H => ?_) (fun _ n2 e2 t2 => ?_)
  ·refine qb tok hT [2] (St.mk [p 2 (B (decide ((↑v4.length : Int) ≤ 14) && decide ((↑a0.2.1.length : Int) ≤ 30) && decide ((↑v9.length : Int) ≤ 8) && vl (u144 v4) && vl (u144 a0.2.1) && vl (u144 v9)))] [(1, Ob.box 47 (cellsD false y47 a0)), (20, Ob.arr 9 true Ty.str v4 0), (33, Ob.arr 9 true Ty.str v9 0)]) H (by kernel_rfl) fun H => ?_
   exact vx_ret <| hr H (by kernel_rfl)
  refine qa tok hT [1, 3, 4, 23, 24, 25] (St.mk [p 1 (AV.ptr 1 0), p 3 (AV.os 20 0), p 4 (AV.v (Value.slice none 0 0)), p 23 (L y144 a0.2.2), p 24 (I (↑a0.2.2.length : Int)), p 25 (I 0)] [(1, Ob.box 47 (cellsD false y47 a0)), (20, Ob.arr 9 true Ty.str v4 0)]) (by kernel_rfl) ?_
  refine vx_block <| ?_
  refine lx (fun ((v6, v7) : List ByteArray × Int) => St.mk [p 1 (AV.ptr 1 0), p 3 (AV.os 20 0), p 4 (AV.os 33 0), p 23 (L y144 a0.2.2), p 24 (I (↑a0.2.2.length : Int)), p 25 (I v7)] [(1, Ob.box 47 (cellsD false y47 a0)), (20, Ob.arr 9 true Ty.str v4 0), (33, Ob.arr 9 true Ty.str v6 0)]) ([], 0) H (by kernel_rfl) fun _ g3 b3 e3 t3 ⟨v6, v7⟩ H => ?_
  refine qa tok hT [1, 3, 4, 23, 24, 25, 26] (St.mk [p 1 (AV.ptr 1 0), p 3 (AV.os 20 0), p 4 (AV.os 33 0), p 23 (L y144 a0.2.2), p 24 (I (↑a0.2.2.length : Int)), p 25 (I v7), p 26 (B (decide (v7 < (↑a0.2.2.length : Int))))] [(1, Ob.box 47 (cellsD false y47 a0)), (20, Ob.arr 9 true Ty.str v4 0), (33, Ob.arr 9 true Ty.str v6 0)]) (by kernel_rfl) ?_
  refine vx_seq <| ?_
  refine cd H (by kernel_rfl) (fun H => ?_) (fun H => ?_)
  ·refine vx_skip <| fx_seq <| vx_seq <| vx_block <| ?_
   refine qd tok hT [1, 3, 4, 8, 23, 24, 25] (fun v8 => St.mk [p 1 (AV.ptr 1 0), p 3 (AV.os 20 0), p 4 (AV.os 33 0), p 8 (AV.ptr 8 0), p 23 (L y144 a0.2.2), p 24 (I (↑a0.2.2.length : Int)), p 25 (I v7)] [(8, Ob.box 144 (cellsD false y144 v8)), (1, Ob.box 47 (cellsD false y47 a0)), (20, Ob.arr 9 true Ty.str v4 0), (33, Ob.arr 9 true Ty.str v6 0)]) H (by kernel_rfl) fun v8 H => ?_
   refine zb tok hT [1, 3, 4, 23, 24, 25] (St.mk [p 1 (AV.ptr 1 0), p 3 (AV.os 20 0), p 4 (AV.os 33 1), p 23 (L y144 a0.2.2), p 24 (I (↑a0.2.2.length : Int)), p 25 (I v7)] [(33, Ob.arr 9 true Ty.str (v6 ++ [v8.1]) 1), (32, Ob.arr 9 true Ty.str [v8.1] 0), (8, Ob.box 144 (cellsD false y144 v8)), (1, Ob.box 47 (cellsD false y47 a0)), (20, Ob.arr 9 true Ty.str v4 0)]) H (by kernel_rfl) fun H => ?_
   refine fx_blk <| fx_seq <| ?_
   refine zb tok hT [1, 3, 4, 23, 24, 25] (St.mk [p 1 (AV.ptr 1 0), p 3 (AV.os 20 0), p 4 (AV.os 33 1), p 23 (L y144 a0.2.2), p 24 (I (↑a0.2.2.length : Int)), p 25 (I (v7 + 1))] [(33, Ob.arr 9 true Ty.str (v6 ++ [v8.1]) 1), (32, Ob.arr 9 true Ty.str [v8.1] 0), (8, Ob.box 144 (cellsD false y144 v8)), (1, Ob.box 47 (cellsD false y47 a0)), (20, Ob.arr 9 true Ty.str v4 0)]) H (by kernel_rfl) fun H => ?_
   exact b3 H (by kernel_rfl)
  exact vx_exit <| fx_seq_exit <| e3 <| fx_blk_exit rfl <| n2 H (by kernel_rfl)
 refine qa tok hT [1, 3, 4, 10, 11, 12] (St.mk [p 1 (AV.ptr 1 0), p 3 (AV.v (Value.slice none 0 0)), p 4 (AV.v (Value.slice none 0 0)), p 10 (L y109 a0.1), p 11 (I (↑a0.1.length : Int)), p 12 (I 0)] [(1, Ob.box 47 (cellsD false y47 a0))]) (by kernel_rfl) ?_
 refine vx_block <| ?_
 refine lx (fun ((v1, v2) : List ByteArray × Int) => St.mk [p 1 (AV.ptr 1 0), p 3 (AV.os 20 0), p 4 (AV.v (Value.slice none 0 0)), p 10 (L y109 a0.1), p 11 (I (↑a0.1.length : Int)), p 12 (I v2)] [(1, Ob.box 47 (cellsD false y47 a0)), (20, Ob.arr 9 true Ty.str v1 0)]) ([], 0) H (by kernel_rfl) fun _ g1 b1 e1 t1 ⟨v1, v2⟩ H => ?_
 refine qa tok hT [1, 3, 4, 10, 11, 12, 13] (St.mk [p 1 (AV.ptr 1 0), p 3 (AV.os 20 0), p 4 (AV.v (Value.slice none 0 0)), p 10 (L y109 a0.1), p 11 (I (↑a0.1.length : Int)), p 12 (I v2), p 13 (B (decide (v2 < (↑a0.1.length : Int))))] [(1, Ob.box 47 (cellsD false y47 a0)), (20, Ob.arr 9 true Ty.str v1 0)]) (by kernel_rfl) ?_
 refine vx_seq <| ?_
 refine cd H (by kernel_rfl) (fun H => ?_) (fun H => ?_)
 ·refine vx_skip <| fx_seq <| vx_seq <| vx_block <| ?_
  refine qd tok hT [1, 3, 4, 6, 10, 11, 12] (fun v3 => St.mk [p 1 (AV.ptr 1 0), p 3 (AV.os 20 0), p 4 (AV.v (Value.slice none 0 0)), p 6 (AV.ptr 6 0), p 10 (L y109 a0.1), p 11 (I (↑a0.1.length : Int)), p 12 (I v2)] [(6, Ob.box 109 (cellsD false y109 v3)), (1, Ob.box 47 (cellsD false y47 a0)), (20, Ob.arr 9 true Ty.str v1 0)]) H (by kernel_rfl) fun v3 H => ?_
  refine zb tok hT [1, 3, 4, 10, 11, 12] (St.mk [p 1 (AV.ptr 1 0), p 3 (AV.os 20 1), p 4 (AV.v (Value.slice none 0 0)), p 10 (L y109 a0.1), p 11 (I (↑a0.1.length : Int)), p 12 (I v2)] [(20, Ob.arr 9 true Ty.str (v1 ++ [v3.1]) 1), (19, Ob.arr 9 true Ty.str [v3.1] 0), (6, Ob.box 109 (cellsD false y109 v3)), (1, Ob.box 47 (cellsD false y47 a0))]) H (by kernel_rfl) fun H => ?_
  refine fx_blk <| fx_seq <| ?_
  refine zb tok hT [1, 3, 4, 10, 11, 12] (St.mk [p 1 (AV.ptr 1 0), p 3 (AV.os 20 1), p 4 (AV.v (Value.slice none 0 0)), p 10 (L y109 a0.1), p 11 (I (↑a0.1.length : Int)), p 12 (I (v2 + 1))] [(20, Ob.arr 9 true Ty.str (v1 ++ [v3.1]) 1), (19, Ob.arr 9 true Ty.str [v3.1] 0), (6, Ob.box 109 (cellsD false y109 v3)), (1, Ob.box 47 (cellsD false y47 a0))]) H (by kernel_rfl) fun H => ?_
  exact b1 H (by kernel_rfl)
 exact vx_exit <| fx_seq_exit <| e1 <| fx_blk_exit rfl <| n0 H (by kernel_rfl)
def u222 (a0 : Y195) (a1 : Int) : Option (Bool) :=
 some (a0.1 == a1)
def k222 : Ct := lct 222 [.agg y195, .dat (.pt i64)] (fun x => u222 x.1 x.2.1) (fun r : Bool => B r) (fun _ => ())
theorem o222 : Ok Tryz.prog k222 := by
 refine okl tok [.tmp 3] Tryz.func222 Tryz.ntmps222 rfl Tryz.results222 (by kernel_rfl) rfl ?_
 intro y ⟨a0, a1, _⟩ r H Q hn hr
 have hT := @tn Tryz.prog
 refine qa tok hT [1, 2] (St.mk [p 1 (D i64.pt a1), p 2 (AV.ptr 2 0)] [(2, Ob.box 195 (cellsD false y195 a0))]) (by kernel_rfl) ?_
 refine qa tok hT [3] (St.mk [p 3 (B (a0.1 == a1))] [(2, Ob.box 195 (cellsD false y195 a0))]) (by kernel_rfl) ?_
 exact vx_ret <| hr H (by kernel_rfl)
def u221c222J0 : Unit → Option (Int)
 | _ =>
 some (-1)
def u221c222L1 (a0 : List Y195) (a1 : Int) (g1 : Int → Option (Int)) : Int → Option (Int)
 | v0 =>
 if (decide (v0 < (↑a0.length : Int))) = true then
  gd (ix v0 a0.length ∧ (u222 (a0.getD v0.toNat (dflt y195)) a1).isSome = true ∧ True) <| 
  if (vl (u222 (a0.getD v0.toNat (dflt y195)) a1)) = true then
   some v0
  else
   gd (in64 (v0 + 1) ∧ True) <| 
   g1 (v0 + 1)
 else
  u221c222J0 ()
def u221c222 (a0 : List Y195) (a1 : Int) : Option (Int) :=
 lp (u221c222L1 a0 a1) 0
def k221c222 : Ct := lct 221 [.dat y195.sl, .fn 222 i64.pt] (fun x => u221c222 x.1 x.2.1) (fun r : Int => I r) (fun _ => ())
theorem o221c222 : Ok Tryz.prog k221c222 := by
 refine okl tok [.tmp 4] Tryz.func221 Tryz.ntmps221 rfl Tryz.results221 (by kernel_rfl) rfl ?_
 intro y ⟨a0, a1, _⟩ r H Q hn hr
 have hT := tc o222 tn
 refine qa tok hT [0, 1] (St.mk [p 0 (L y195 a0), p 1 (AV.fn 222 [D i64.pt a1])] []) (by kernel_rfl) ?_
 refine jn r (fun (_ : Unit) => St.mk [] []) (u221c222J0) (fun _ H => ?_) (fun _ n0 e0 t0 => ?_)
 ·refine qa tok hT [4] (St.mk [p 4 (I (-1))] []) (by kernel_rfl) ?_
  exact vx_ret <| hr H (by kernel_rfl)
 refine qa tok hT [0, 1, 7, 8] (St.mk [p 0 (L y195 a0), p 1 (AV.fn 222 [D i64.pt a1]), p 7 (I (↑a0.length : Int)), p 8 (I 0)] []) (by kernel_rfl) ?_
 refine vx_block <| ?_
 refine lx (fun (v0 : Int) => St.mk [p 0 (L y195 a0), p 1 (AV.fn 222 [D i64.pt a1]), p 7 (I (↑a0.length : Int)), p 8 (I v0)] []) 0 H (by kernel_rfl) fun _ g1 b1 e1 t1 v0 H => ?_
 refine qa tok hT [0, 1, 7, 8, 9] (St.mk [p 0 (L y195 a0), p 1 (AV.fn 222 [D i64.pt a1]), p 7 (I (↑a0.length : Int)), p 8 (I v0), p 9 (B (decide (v0 < (↑a0.length : Int))))] []) (by kernel_rfl) ?_
 refine vx_seq <| ?_
 refine cd H (by kernel_rfl) (fun H => ?_) (fun H => ?_)
 ·refine vx_skip <| fx_seq <| vx_seq <| vx_block <| ?_
  refine qa tok hT [0, 1, 5, 7, 8] (St.mk [p 0 (L y195 a0), p 1 (AV.fn 222 [D i64.pt a1]), p 5 (I v0), p 7 (I (↑a0.length : Int)), p 8 (I v0)] []) (by kernel_rfl) ?_
  refine qb tok hT [0, 1, 5, 7, 8, 16] (St.mk [p 0 (L y195 a0), p 1 (AV.fn 222 [D i64.pt a1]), p 5 (I v0), p 7 (I (↑a0.length : Int)), p 8 (I v0), p 16 (B (vl (u222 (a0.getD v0.toNat (dflt y195)) a1)))] []) H (by kernel_rfl) fun H => ?_
  refine cd H (by kernel_rfl) (fun H => ?_) (fun H => ?_)
  ·refine qa tok hT [4] (St.mk [p 4 (I v0)] []) (by kernel_rfl) ?_
   exact vx_ret <| fx_blk_ret <| fx_seq_ret <| t1 <| fx_blk_ret <| t0 <| hr H (by kernel_rfl)
  refine vx_skip <| fx_blk <| fx_seq <| ?_
  refine zb tok hT [0, 1, 7, 8] (St.mk [p 0 (L y195 a0), p 1 (AV.fn 222 [D i64.pt a1]), p 7 (I (↑a0.length : Int)), p 8 (I (v0 + 1))] []) H (by kernel_rfl) fun H => ?_
  exact b1 H (by kernel_rfl)
 exact vx_exit <| fx_seq_exit <| e1 <| fx_blk_exit rfl <| n0 H (by kernel_rfl)
def u201c222 (a0 : List Y195) (a1 : Int) : Option (Bool) :=
 gd ((u221c222 a0 a1).isSome = true ∧ True) <| lt (vl (u221c222 a0 a1)) fun v0 =>
 some (decide (0 ≤ v0))
def k201c222 : Ct := lct 201 [.dat y195.sl, .fn 222 (.pt i64)] (fun x => u201c222 x.1 x.2.1) (fun r : Bool => B r) (fun _ => ())
theorem o201c222 : Ok Tryz.prog k201c222 := by
 refine okl tok [.tmp 4] Tryz.func201 Tryz.ntmps201 rfl Tryz.results201 (by kernel_rfl) rfl ?_
 intro y ⟨a0, a1, _⟩ r H Q hn hr
 have hT := tc o221c222 (tc o222 tn)
 refine qa tok hT [0, 1] (St.mk [p 0 (L y195 a0), p 1 (AV.fn 222 [D i64.pt a1])] []) (by kernel_rfl) ?_
 refine qd tok hT [4] (fun v0 => St.mk [p 4 (B (decide (0 ≤ v0)))] []) H (by kernel_rfl) fun v0 H => ?_
 exact vx_ret <| hr H (by kernel_rfl)
def u204 (a0 : Y107) (a1 : Int) : Option (Bool) :=
 gd ((u201c222 a0.2.2.2.1 a1).isSome = true ∧ True) <| 
 some (vl (u201c222 a0.2.2.2.1 a1))
def k204 : Ct := lct 204 [.agg y107, .dat i64] (fun x => u204 x.1 x.2.1) (fun r : Bool => B r) (fun _ => ())
theorem o204 : Ok Tryz.prog k204 := by
 refine okl tok [.tmp 4] Tryz.func204 Tryz.ntmps204 rfl Tryz.results204 (by kernel_rfl) rfl ?_
 intro y ⟨a0, a1, _⟩ r H Q hn hr
 have hT := tc o201c222 (tc o222 tn)
 refine qa tok hT [2, 3] (St.mk [p 2 (AV.ptr 2 0), p 3 (AV.ptr 3 0)] [(3, Ob.box 2 [J a1]), (2, Ob.box 107 (cellsD false y107 a0))]) (by kernel_rfl) ?_
 refine qb tok hT [4] (St.mk [p 4 (B (vl (u201c222 a0.2.2.2.1 a1)))] [(3, Ob.box 2 [J a1]), (2, Ob.box 107 (cellsD false y107 a0))]) H (by kernel_rfl) fun H => ?_
 exact vx_ret <| hr H (by kernel_rfl)
def u199 (a0 : List Y147) : Option (Int) :=
 some (↑a0.length : Int)
def k199 : Ct := lct 199 [.dat y147.sl] (fun x => u199 x.1) (fun r : Int => I r) (fun _ => ())
theorem o199 : Ok Tryz.prog k199 := by
 refine okl tok [.tmp 2] Tryz.func199 Tryz.ntmps199 rfl Tryz.results199 (by kernel_rfl) rfl ?_
 intro y ⟨a0, _⟩ r H Q hn hr
 have hT := @tn Tryz.prog
 refine qa tok hT [0] (St.mk [p 0 (L y147 a0)] []) (by kernel_rfl) ?_
 refine qa tok hT [2] (St.mk [p 2 (I (↑a0.length : Int))] []) (by kernel_rfl) ?_
 exact vx_ret <| hr H (by kernel_rfl)
def u203 (a0 : Y107) : Option (Int) :=
 gd ((u199 a0.2.2.1).isSome = true ∧ in64 (vl (u199 a0.2.2.1) - 1) ∧ True) <| lt (vl (u199 a0.2.2.1)) fun v0 =>
 some (v0 - 1)
def k203 : Ct := lct 203 [.agg y107] (fun x => u203 x.1) (fun r : Int => I r) (fun _ => ())
theorem o203 : Ok Tryz.prog k203 := by
 refine okl tok [.tmp 2] Tryz.func203 Tryz.ntmps203 rfl Tryz.results203 (by kernel_rfl) rfl ?_
 intro y ⟨a0, _⟩ r H Q hn hr
 have hT := tc o199 tn
 refine qa tok hT [1] (St.mk [p 1 (AV.ptr 1 0)] [(1, Ob.box 107 (cellsD false y107 a0))]) (by kernel_rfl) ?_
 refine qd tok hT [2] (fun v0 => St.mk [p 2 (I (v0 - 1))] [(1, Ob.box 107 (cellsD false y107 a0))]) H (by kernel_rfl) fun v0 H => ?_
 exact vx_ret <| hr H (by kernel_rfl)
def u179J0 (a0 : Y107) : Int → Option (Bool)
 | v6 =>
 if (a0.2.1 == 1) = true then
  gd (((v6 == 0) = true ∧ True → (u203 a0).isSome = true) ∧ ((v6 == 0) = true ∧ True → (0 ≤ vl (u203 a0) ∧ vl (u203 a0) ≤ 62) ∧ in64 (1 * 2 ^ (vl (u203 a0)).toNat)) ∧ ((v6 == 0 && (↑a0.2.2.2.2.1.length : Int) == 1 * 2 ^ (vl (u203 a0)).toNat) = true ∧ True → (u113 a0.2.2.2.2.1 0 1).isSome = true) ∧ True) <| lt (vl (u203 a0)) fun v7 =>
  some (v6 == 0 && (↑a0.2.2.2.2.1.length : Int) == 1 * 2 ^ v7.toNat && vl (u113 a0.2.2.2.2.1 0 1))
 else
  if (a0.2.1 == 2) = true then
   gd (((v6 == 1 && (↑a0.2.2.2.2.1.length : Int) == 0) = true ∧ True → (u204 a0 1).isSome = true) ∧ ((v6 == 1 && (↑a0.2.2.2.2.1.length : Int) == 0 && !vl (u204 a0 1)) = true ∧ True → (u204 a0 2).isSome = true) ∧ ((v6 == 1 && (↑a0.2.2.2.2.1.length : Int) == 0 && !vl (u204 a0 1)) = true ∧ True → (u204 a0 3).isSome = true) ∧ True) <| 
   some (v6 == 1 && (↑a0.2.2.2.2.1.length : Int) == 0 && !vl (u204 a0 1) && !vl (u204 a0 2) == vl (u204 a0 3))
  else
   if (a0.2.1 == 3) = true then
    gd (((v6 == 1 && (↑a0.2.2.2.2.1.length : Int) == 0) = true ∧ True → (u204 a0 1).isSome = true) ∧ ((v6 == 1 && (↑a0.2.2.2.2.1.length : Int) == 0 && vl (u204 a0 1)) = true ∧ True → (u204 a0 2).isSome = true) ∧ ((v6 == 1 && (↑a0.2.2.2.2.1.length : Int) == 0 && vl (u204 a0 1) && vl (u204 a0 2)) = true ∧ True → (u204 a0 3).isSome = true) ∧ True) <| 
    some (v6 == 1 && (↑a0.2.2.2.2.1.length : Int) == 0 && vl (u204 a0 1) && vl (u204 a0 2) && !vl (u204 a0 3))
   else
    some false
def u179J2 (v3 : Int) (g1 : Int × Int → Option (Bool)) : Int → Option (Bool)
 | v5 =>
 gd (in64 (v3 + 1) ∧ True) <| 
 g1 (v5, v3 + 1)
def u179L1 (a0 : Y107) (g1 : Int × Int → Option (Bool)) : Int × Int → Option (Bool)
 | (v2, v3) =>
 if (decide (v3 < (↑a0.2.2.1.length : Int))) = true then
  gd (ix v3 a0.2.2.1.length ∧ True) <| lt (a0.2.2.1.getD v3.toNat (dflt y147)) fun v4 =>
  if v4.2.2.2 = true then
   gd (in64 (v2 + 1) ∧ True) <| 
   u179J2 v3 g1 (v2 + 1)
  else
   u179J2 v3 g1 v2
 else
  u179J0 a0 v2
def u179 (a0 : Y107) : Option (Bool) :=
 lp (u179L1 a0) (0, 0)
def k179 : Ct := lct 179 [.agg y107] (fun x => u179 x.1) (fun r : Bool => B r) (fun _ => ())
theorem o179 : Ok Tryz.prog k179 := by
 refine okl tok [.tmp 2] Tryz.func179 Tryz.ntmps179 rfl Tryz.results179 (by kernel_rfl) rfl ?_
 intro y ⟨a0, _⟩ r H Q hn hr
 have hT := tc o204 (tc o113 (tc o203 tn))
 refine qa tok hT [1] (St.mk [p 1 (AV.ptr 1 0)] [(1, Ob.box 107 (cellsD false y107 a0))]) (by kernel_rfl) ?_
 refine qa tok hT [1, 3] (St.mk [p 1 (AV.ptr 1 0), p 3 (I 0)] [(1, Ob.box 107 (cellsD false y107 a0))]) (by kernel_rfl) ?_
 refine jn r (fun (v6 : Int) => St.mk [p 1 (AV.ptr 1 0), p 3 (I v6)] [(1, Ob.box 107 (cellsD false y107 a0))]) (u179J0 a0) (fun v6 H => ?_) (fun _ n0 e0 t0 => ?_)
 ·refine vx_seq <| ?_
  refine qa tok hT [1, 3, 19] (St.mk [p 1 (AV.ptr 1 0), p 3 (I v6), p 19 (J a0.2.1)] [(1, Ob.box 107 (cellsD false y107 a0))]) (by kernel_rfl) ?_
  refine vx_block <| ?_
  refine qa tok hT [1, 3, 19, 20] (St.mk [p 1 (AV.ptr 1 0), p 3 (I v6), p 19 (J a0.2.1), p 20 (B (a0.2.1 == 1))] [(1, Ob.box 107 (cellsD false y107 a0))]) (by kernel_rfl) ?_
  refine cd H (by kernel_rfl) (fun H => ?_) (fun H => ?_)
  ·refine qd tok hT [2] (fun v7 => St.mk [p 2 (B (v6 == 0 && (↑a0.2.2.2.2.1.length : Int) == 1 * 2 ^ v7.toNat && vl (u113 a0.2.2.2.2.1 0 1)))] [(1, Ob.box 107 (cellsD false y107 a0))]) H (by kernel_rfl) fun v7 H => ?_
   exact vx_ret <| fx_blk_ret <| fx_seq_ret <| hr H (by kernel_rfl)
  refine qa tok hT [1, 3, 19, 38] (St.mk [p 1 (AV.ptr 1 0), p 3 (I v6), p 19 (J a0.2.1), p 38 (B (a0.2.1 == 2))] [(1, Ob.box 107 (cellsD false y107 a0))]) (by kernel_rfl) ?_
  refine cd H (by kernel_rfl) (fun H => ?_) (fun H => ?_)
  ·refine qb tok hT [2] (St.mk [p 2 (B (v6 == 1 && (↑a0.2.2.2.2.1.length : Int) == 0 && !vl (u204 a0 1) && !vl (u204 a0 2) == vl (u204 a0 3)))] [(1, Ob.box 107 (cellsD false y107 a0))]) H (by kernel_rfl) fun H => ?_
   exact vx_ret <| fx_blk_ret <| fx_seq_ret <| hr H (by kernel_rfl)
  refine qa tok hT [1, 3, 60] (St.mk [p 1 (AV.ptr 1 0), p 3 (I v6), p 60 (B (a0.2.1 == 3))] [(1, Ob.box 107 (cellsD false y107 a0))]) (by kernel_rfl) ?_
  refine cd H (by kernel_rfl) (fun H => ?_) (fun H => ?_)
  ·refine qb tok hT [2] (St.mk [p 2 (B (v6 == 1 && (↑a0.2.2.2.2.1.length : Int) == 0 && vl (u204 a0 1) && vl (u204 a0 2) && !vl (u204 a0 3)))] [(1, Ob.box 107 (cellsD false y107 a0))]) H (by kernel_rfl) fun H => ?_
   exact vx_ret <| fx_blk_ret <| fx_seq_ret <| hr H (by kernel_rfl)
  refine vx_skip <| fx_blk <| fx_seq <| ?_
  refine qa tok hT [2] (St.mk [p 2 (B false)] [(1, Ob.box 107 (cellsD false y107 a0))]) (by kernel_rfl) ?_
  exact vx_ret <| hr H (by kernel_rfl)
 refine qa tok hT [1, 3, 7, 8, 9] (St.mk [p 1 (AV.ptr 1 0), p 3 (I 0), p 7 (L y147 a0.2.2.1), p 8 (I (↑a0.2.2.1.length : Int)), p 9 (I 0)] [(1, Ob.box 107 (cellsD false y107 a0))]) (by kernel_rfl) ?_
 refine vx_block <| ?_
 refine lx (fun ((v2, v3) : Int × Int) => St.mk [p 1 (AV.ptr 1 0), p 3 (I v2), p 7 (L y147 a0.2.2.1), p 8 (I (↑a0.2.2.1.length : Int)), p 9 (I v3)] [(1, Ob.box 107 (cellsD false y107 a0))]) (0, 0) H (by kernel_rfl) fun _ g1 b1 e1 t1 ⟨v2, v3⟩ H => ?_
 refine qa tok hT [1, 3, 7, 8, 9, 10] (St.mk [p 1 (AV.ptr 1 0), p 3 (I v2), p 7 (L y147 a0.2.2.1), p 8 (I (↑a0.2.2.1.length : Int)), p 9 (I v3), p 10 (B (decide (v3 < (↑a0.2.2.1.length : Int))))] [(1, Ob.box 107 (cellsD false y107 a0))]) (by kernel_rfl) ?_
 refine vx_seq <| ?_
 refine cd H (by kernel_rfl) (fun H => ?_) (fun H => ?_)
 ·refine vx_skip <| fx_seq <| ?_
  refine jn r (fun (v5 : Int) => St.mk [p 1 (AV.ptr 1 0), p 3 (I v5), p 7 (L y147 a0.2.2.1), p 8 (I (↑a0.2.2.1.length : Int)), p 9 (I v3)] [(1, Ob.box 107 (cellsD false y107 a0))]) (u179J2 v3 g1) (fun v5 H => ?_) (fun _ n2 e2 t2 => ?_)
  ·refine zb tok hT [1, 3, 7, 8, 9] (St.mk [p 1 (AV.ptr 1 0), p 3 (I v5), p 7 (L y147 a0.2.2.1), p 8 (I (↑a0.2.2.1.length : Int)), p 9 (I (v3 + 1))] [(1, Ob.box 107 (cellsD false y107 a0))]) H (by kernel_rfl) fun H => ?_
   exact b1 H (by kernel_rfl)
  refine vx_block <| ?_
  refine qd tok hT [1, 3, 5, 7, 8, 9] (fun v4 => St.mk [p 1 (AV.ptr 1 0), p 3 (I v2), p 5 (AV.ptr 5 0), p 7 (L y147 a0.2.2.1), p 8 (I (↑a0.2.2.1.length : Int)), p 9 (I v3)] [(5, Ob.box 147 (cellsD false y147 v4)), (1, Ob.box 107 (cellsD false y107 a0))]) H (by kernel_rfl) fun v4 H => ?_
  refine qa tok hT [1, 3, 7, 8, 9, 14] (St.mk [p 1 (AV.ptr 1 0), p 3 (I v2), p 7 (L y147 a0.2.2.1), p 8 (I (↑a0.2.2.1.length : Int)), p 9 (I v3), p 14 (C v4.2.2.2)] [(5, Ob.box 147 (cellsD false y147 v4)), (1, Ob.box 107 (cellsD false y107 a0))]) (by kernel_rfl) ?_
  refine cd H (by kernel_rfl) (fun H => ?_) (fun H => ?_)
  ·refine zb tok hT [1, 3, 7, 8, 9] (St.mk [p 1 (AV.ptr 1 0), p 3 (I (v2 + 1)), p 7 (L y147 a0.2.2.1), p 8 (I (↑a0.2.2.1.length : Int)), p 9 (I v3)] [(5, Ob.box 147 (cellsD false y147 v4)), (1, Ob.box 107 (cellsD false y107 a0))]) H (by kernel_rfl) fun H => ?_
   exact fx_blk <| n2 H (by kernel_rfl)
  exact vx_skip <| fx_blk <| n2 H (by kernel_rfl)
 exact vx_exit <| fx_seq_exit <| e1 <| fx_blk_exit rfl <| n0 H (by kernel_rfl)
def u220 (a0 : Y107) (a1 : Int) : Option (Bool) :=
 gd ((u203 a0).isSome = true ∧ in64 (vl (u203 a0) - 1) ∧ (u111 a1 0 (vl (u203 a0) - 1)).isSome = true ∧ True) <| 
 some (vl (u111 a1 0 (vl (u203 a0) - 1)))
def k220 : Ct := lct 220 [.agg y107, .dat i64] (fun x => u220 x.1 x.2.1) (fun r : Bool => B r) (fun _ => ())
theorem o220 : Ok Tryz.prog k220 := by
 refine okl tok [.tmp 4] Tryz.func220 Tryz.ntmps220 rfl Tryz.results220 (by kernel_rfl) rfl ?_
 intro y ⟨a0, a1, _⟩ r H Q hn hr
 have hT := tc o111 (tc o203 tn)
 refine qa tok hT [1, 2] (St.mk [p 1 (J a1), p 2 (AV.ptr 2 0)] [(2, Ob.box 107 (cellsD false y107 a0))]) (by kernel_rfl) ?_
 refine qb tok hT [4] (St.mk [p 4 (B (vl (u111 a1 0 (vl (u203 a0) - 1))))] [(2, Ob.box 107 (cellsD false y107 a0))]) H (by kernel_rfl) fun H => ?_
 exact vx_ret <| hr H (by kernel_rfl)
end Go.Proofs.YtkmmjamclcdjkaaGreatDoor
