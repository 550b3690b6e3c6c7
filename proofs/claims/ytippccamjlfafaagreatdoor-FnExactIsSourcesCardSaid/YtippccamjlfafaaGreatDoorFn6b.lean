/- Functions of this program as plain functions of data, and that they are so: printed by program. -/
import Derived.Test.YtippccamjlfafaaGreatDoorFn6a
import Derived.Test.YtippccamjlfafaaGreatDoorXE
import Derived.Test.YtippccamjlfafaaGreatDoorTY
import Derived.Test.YtippccamjlfafaaGreatDoorLB
namespace Go.Proofs.YtippccamjlfafaaGreatDoor
open Go Go.Proofs Go.Proofs.Sv Go.Proofs.Xv Go.Proofs.Xl Go.RowKit
def u78J2 : List Int → Option (Bool)
 | v13 =>
 gd ((u124c125 v13).isSome = true ∧ True) <| 
 some (!vl (u124c125 v13))
def u78J4 (v9 : Int) (g3 : Int × List Int → Option (Bool)) : List Int → Option (Bool)
 | v12 =>
 gd (in64 (v9 + 1) ∧ True) <| 
 g3 (v9 + 1, v12)
def u78L3 (a1 : Y41) (g3 : Int × List Int → Option (Bool)) : Int × List Int → Option (Bool)
 | (v9, v10) =>
 if (decide (v9 < (↑a1.2.2.length : Int))) = true then
  gd (ix v9 a1.2.2.length ∧ True) <| lt (a1.2.2.getD v9.toNat (dflt y143)) fun v11 =>
  gd (((v11.2.1 != 1 && v11.2.1 != 2) = false ∧ True → (u123 a1 v11.2.2).isSome = true) ∧ True) <| 
  if (v11.2.1 != 1 && v11.2.1 != 2 || !vl (u123 a1 v11.2.2)) = true then
   some false
  else
   if (v11.2.1 == 1) = true then
    gd (ix v11.2.2 v10.length ∧ v11.2.2.toNat < v10.length ∧ in64 (v10.getD v11.2.2.toNat 0 + 1) ∧ ix v11.2.2 v10.length ∧ v11.2.2.toNat < v10.length ∧ True) <| 
    u78J4 v9 g3 (v10.set v11.2.2.toNat (v10.getD v11.2.2.toNat 0 + 1))
   else
    u78J4 v9 g3 v10
 else
  u78J2 v10
def u78J0 (a1 : Y41) : List Int → Option (Bool)
 | v6 =>
 lp (u78L3 a1) (0, v6)
def u78L1 (a1 : Y41) (a0 : List Y152) (g1 : Int × List Int → Option (Bool)) : Int × List Int → Option (Bool)
 | (v2, v3) =>
 if (decide (v2 < (↑a1.1.length : Int))) = true then
  gd (ix v2 a1.1.length ∧ True) <| lt (a1.1.getD v2.toNat (dflt y141)) fun v4 =>
  gd ((u122 a1 a0 v4).isSome = true ∧ True) <| 
  if (!vl (u122 a1 a0 v4)) = true then
   some false
  else
   gd (in64 ((↑v4.2.2.length : Int) - 1) ∧ ix ((↑v4.2.2.length : Int) - 1) v4.2.2.length ∧ ix (v4.2.2.getD ((↑v4.2.2.length : Int) - 1).toNat 0) v3.length ∧ Int.toNat (v4.2.2.getD ((↑v4.2.2.length : Int) - 1).toNat 0) < v3.length ∧ in64 (v3.getD (Int.toNat (v4.2.2.getD ((↑v4.2.2.length : Int) - 1).toNat 0)) 0 + 1) ∧ ix (v4.2.2.getD ((↑v4.2.2.length : Int) - 1).toNat 0) v3.length ∧ Int.toNat (v4.2.2.getD ((↑v4.2.2.length : Int) - 1).toNat 0) < v3.length ∧ True) <| lt (v3.set (Int.toNat (v4.2.2.getD ((↑v4.2.2.length : Int) - 1).toNat 0)) (v3.getD (Int.toNat (v4.2.2.getD ((↑v4.2.2.length : Int) - 1).toNat 0)) 0 + 1)) fun v5 =>
   gd (in64 (v2 + 1) ∧ True) <| 
   g1 (v2 + 1, v5)
 else
  u78J0 a1 v3
def u78 (a0 : List Y152) (a1 : Y41) : Option (Bool) :=
 gd ((u120 a0).isSome = true ∧ ((!vl (u120 a0)) = false ∧ True → (u121 a1).isSome = true) ∧ True) <| 
 if (!vl (u120 a0) || !vl (u121 a1)) = true then
  some false
 else
  gd ((0 ≤ (↑a1.2.1.length : Int) ∧ (↑a1.2.1.length : Int) = (↑a1.2.1.length : Int) ∧ (↑a1.2.1.length : Int).toNat * 8 ≤ 281474976710656 ∧ (↑a1.2.1.length : Int) ≤ 9223372036854775807) ∧ True) <| 
  lp (u78L1 a1 a0) ((0, List.replicate (↑a1.2.1.length : Int).toNat 0))
def k78 : Ct := lct 78 [.agg y152.sl, .agg y41] (fun x => u78 x.1 x.2.1) (fun r : Bool => B r) (fun _ => ())
theorem o78 : Ok Tryz.prog k78 := by
 refine okl tok [.tmp 4] Tryz.func78 Tryz.ntmps78 rfl Tryz.results78 (by kernel_rfl) rfl ?_
 intro y ⟨a0, a1, _⟩ r H Q hn hr
 have hT := tc o125 (tc o124c125 (tc o123 (tc o122 (tc o121 (tc o120 tn)))))
 refine qa tok hT [2, 3] (St.mk [p 2 (AV.ptr 2 0), p 3 (AV.ptr 3 0)] [(3, Ob.box 41 (cellsD false y41 a1)), (2, Ob.box 37 [L y152 a0])]) (by kernel_rfl) ?_
 refine vx_seq <| ?_
 refine qb tok hT [2, 3, 17] (St.mk [p 2 (AV.ptr 2 0), p 3 (AV.ptr 3 0), p 17 (B (!vl (u120 a0) || !vl (u121 a1)))] [(3, Ob.box 41 (cellsD false y41 a1)), (2, Ob.box 37 [L y152 a0])]) H (by kernel_rfl) fun H => ?_
 refine cd H (by kernel_rfl) (fun H => ?_) (fun H => ?_)
 ·refine qa tok hT [4] (St.mk [p 4 (B false)] [(3, Ob.box 41 (cellsD false y41 a1)), (2, Ob.box 37 [L y152 a0])]) (by kernel_rfl) ?_
  exact vx_ret <| fx_seq_ret <| hr H (by kernel_rfl)
 refine vx_skip <| fx_seq <| ?_
 refine qb tok hT [2, 3, 5] (St.mk [p 2 (AV.ptr 2 0), p 3 (AV.ptr 3 0), p 5 (AV.os 21 0)] [(21, Ob.arr 3 true i64 (List.replicate (↑a1.2.1.length : Int).toNat 0) 0), (3, Ob.box 41 (cellsD false y41 a1)), (2, Ob.box 37 [L y152 a0])]) H (by kernel_rfl) fun H => ?_
 refine jn r (fun (v6 : List Int) => St.mk [p 3 (AV.ptr 3 0), p 5 (AV.os 21 0)] [(21, Ob.arr 3 true i64 v6 0), (3, Ob.box 41 (cellsD false y41 a1))]) (u78J0 a1) (fun v6 H => ?_) (fun _ n0 e0 t0 => ?_)
 ·refine jn r (fun (v13 : List Int) => St.mk [p 5 (AV.os 21 0)] [(21, Ob.arr 3 true i64 v13 0)]) (u78J2) (fun v13 H => ?_) (fun _ n2 e2 t2 => ?_)
  ·refine qb tok hT [4] (St.mk [p 4 (B !vl (u124c125 v13))] [(21, Ob.arr 3 true i64 v13 0)]) H (by kernel_rfl) fun H => ?_
   exact vx_ret <| hr H (by kernel_rfl)
  refine qa tok hT [3, 5, 49, 50, 51] (St.mk [p 3 (AV.ptr 3 0), p 5 (AV.os 21 0), p 49 (L y143 a1.2.2), p 50 (I (↑a1.2.2.length : Int)), p 51 (I 0)] [(21, Ob.arr 3 true i64 v6 0), (3, Ob.box 41 (cellsD false y41 a1))]) (by kernel_rfl) ?_
  refine vx_block <| ?_
  refine lx (fun ((v9, v10) : Int × List Int) => St.mk [p 3 (AV.ptr 3 0), p 5 (AV.os 21 0), p 49 (L y143 a1.2.2), p 50 (I (↑a1.2.2.length : Int)), p 51 (I v9)] [(21, Ob.arr 3 true i64 v10 0), (3, Ob.box 41 (cellsD false y41 a1))]) (0, v6) H (by kernel_rfl) fun _ g3 b3 e3 t3 ⟨v9, v10⟩ H => ?_
  refine qa tok hT [3, 5, 49, 50, 51, 52] (St.mk [p 3 (AV.ptr 3 0), p 5 (AV.os 21 0), p 49 (L y143 a1.2.2), p 50 (I (↑a1.2.2.length : Int)), p 51 (I v9), p 52 (B (decide (v9 < (↑a1.2.2.length : Int))))] [(21, Ob.arr 3 true i64 v10 0), (3, Ob.box 41 (cellsD false y41 a1))]) (by kernel_rfl) ?_
  refine vx_seq <| ?_
  refine cd H (by kernel_rfl) (fun H => ?_) (fun H => ?_)
  ·refine vx_skip <| fx_seq <| ?_
   refine jn r (fun (v12 : List Int) => St.mk [p 3 (AV.ptr 3 0), p 5 (AV.os 21 0), p 49 (L y143 a1.2.2), p 50 (I (↑a1.2.2.length : Int)), p 51 (I v9)] [(21, Ob.arr 3 true i64 v12 0), (3, Ob.box 41 (cellsD false y41 a1))]) (u78J4 v9 g3) (fun v12 H => ?_) (fun _ n4 e4 t4 => ?_)
   ·refine zb tok hT [3, 5, 49, 50, 51] (St.mk [p 3 (AV.ptr 3 0), p 5 (AV.os 21 0), p 49 (L y143 a1.2.2), p 50 (I (↑a1.2.2.length : Int)), p 51 (I (v9 + 1))] [(21, Ob.arr 3 true i64 v12 0), (3, Ob.box 41 (cellsD false y41 a1))]) H (by kernel_rfl) fun H => ?_
    exact b3 H (by kernel_rfl)
   refine vx_block <| ?_
   refine qd tok hT [3, 5, 9, 49, 50, 51] (fun v11 => St.mk [p 3 (AV.ptr 3 0), p 5 (AV.os 21 0), p 9 (AV.ptr 9 0), p 49 (L y143 a1.2.2), p 50 (I (↑a1.2.2.length : Int)), p 51 (I v9)] [(9, Ob.box 143 (cellsD false y143 v11)), (21, Ob.arr 3 true i64 v10 0), (3, Ob.box 41 (cellsD false y41 a1))]) H (by kernel_rfl) fun v11 H => ?_
   refine vx_seq <| ?_
   refine qb tok hT [3, 5, 9, 49, 50, 51, 59, 60, 61, 64, 65, 66, 67, 68, 69] (St.mk [p 3 (AV.ptr 3 0), p 5 (AV.os 21 0), p 9 (AV.ptr 9 0), p 49 (L y143 a1.2.2), p 50 (I (↑a1.2.2.length : Int)), p 51 (I v9), p 69 (B (v11.2.1 != 1 && v11.2.1 != 2 || !vl (u123 a1 v11.2.2)))] [(9, Ob.box 143 (cellsD false y143 v11)), (21, Ob.arr 3 true i64 v10 0), (3, Ob.box 41 (cellsD false y41 a1))]) H (by kernel_rfl) fun H => ?_
   refine cd H (by kernel_rfl) (fun H => ?_) (fun H => ?_)
   ·refine qa tok hT [4] (St.mk [p 4 (B false)] [(9, Ob.box 143 (cellsD false y143 v11)), (21, Ob.arr 3 true i64 v10 0), (3, Ob.box 41 (cellsD false y41 a1))]) (by kernel_rfl) ?_
    exact vx_ret <| fx_seq_ret <| fx_blk_ret <| t4 <| t3 <| fx_blk_ret <| t2 <| hr H (by kernel_rfl)
   refine vx_skip <| fx_seq <| ?_
   refine qa tok hT [3, 5, 9, 49, 50, 51, 72] (St.mk [p 3 (AV.ptr 3 0), p 5 (AV.os 21 0), p 9 (AV.ptr 9 0), p 49 (L y143 a1.2.2), p 50 (I (↑a1.2.2.length : Int)), p 51 (I v9), p 72 (B (v11.2.1 == 1))] [(9, Ob.box 143 (cellsD false y143 v11)), (21, Ob.arr 3 true i64 v10 0), (3, Ob.box 41 (cellsD false y41 a1))]) (by kernel_rfl) ?_
   refine cd H (by kernel_rfl) (fun H => ?_) (fun H => ?_)
   ·refine zb tok hT [3, 5, 49, 50, 51] (St.mk [p 3 (AV.ptr 3 0), p 5 (AV.os 21 0), p 49 (L y143 a1.2.2), p 50 (I (↑a1.2.2.length : Int)), p 51 (I v9)] [(21, Ob.arr 3 true i64 (v10.set v11.2.2.toNat (v10.getD v11.2.2.toNat 0 + 1)) 0), (9, Ob.box 143 (cellsD false y143 v11)), (3, Ob.box 41 (cellsD false y41 a1))]) H (by kernel_rfl) fun H => ?_
    exact fx_blk <| n4 H (by kernel_rfl)
   exact vx_skip <| fx_blk <| n4 H (by kernel_rfl)
  exact vx_exit <| fx_seq_exit <| e3 <| fx_blk_exit rfl <| n2 H (by kernel_rfl)
 refine qa tok hT [2, 3, 5, 23, 24, 25] (St.mk [p 2 (AV.ptr 2 0), p 3 (AV.ptr 3 0), p 5 (AV.os 21 0), p 23 (L y141 a1.1), p 24 (I (↑a1.1.length : Int)), p 25 (I 0)] [(21, Ob.arr 3 true i64 (List.replicate (↑a1.2.1.length : Int).toNat 0) 0), (3, Ob.box 41 (cellsD false y41 a1)), (2, Ob.box 37 [L y152 a0])]) (by kernel_rfl) ?_
 refine vx_block <| ?_
 refine lx (fun ((v2, v3) : Int × List Int) => St.mk [p 2 (AV.ptr 2 0), p 3 (AV.ptr 3 0), p 5 (AV.os 21 0), p 23 (L y141 a1.1), p 24 (I (↑a1.1.length : Int)), p 25 (I v2)] [(21, Ob.arr 3 true i64 v3 0), (3, Ob.box 41 (cellsD false y41 a1)), (2, Ob.box 37 [L y152 a0])]) ((0, List.replicate (↑a1.2.1.length : Int).toNat 0)) H (by kernel_rfl) fun _ g1 b1 e1 t1 ⟨v2, v3⟩ H => ?_
 refine qa tok hT [2, 3, 5, 23, 24, 25, 26] (St.mk [p 2 (AV.ptr 2 0), p 3 (AV.ptr 3 0), p 5 (AV.os 21 0), p 23 (L y141 a1.1), p 24 (I (↑a1.1.length : Int)), p 25 (I v2), p 26 (B (decide (v2 < (↑a1.1.length : Int))))] [(21, Ob.arr 3 true i64 v3 0), (3, Ob.box 41 (cellsD false y41 a1)), (2, Ob.box 37 [L y152 a0])]) (by kernel_rfl) ?_
 refine vx_seq <| ?_
 refine cd H (by kernel_rfl) (fun H => ?_) (fun H => ?_)
 ·refine vx_skip <| fx_seq <| vx_seq <| vx_block <| ?_
  refine qd tok hT [2, 3, 5, 7, 23, 24, 25] (fun v4 => St.mk [p 2 (AV.ptr 2 0), p 3 (AV.ptr 3 0), p 5 (AV.os 21 0), p 7 (AV.ptr 7 0), p 23 (L y141 a1.1), p 24 (I (↑a1.1.length : Int)), p 25 (I v2)] [(7, Ob.box 141 (cellsD false y141 v4)), (21, Ob.arr 3 true i64 v3 0), (3, Ob.box 41 (cellsD false y41 a1)), (2, Ob.box 37 [L y152 a0])]) H (by kernel_rfl) fun v4 H => ?_
  refine vx_seq <| ?_
  refine qb tok hT [2, 3, 5, 7, 23, 24, 25, 33] (St.mk [p 2 (AV.ptr 2 0), p 3 (AV.ptr 3 0), p 5 (AV.os 21 0), p 7 (AV.ptr 7 0), p 23 (L y141 a1.1), p 24 (I (↑a1.1.length : Int)), p 25 (I v2), p 33 (B !vl (u122 a1 a0 v4))] [(7, Ob.box 141 (cellsD false y141 v4)), (21, Ob.arr 3 true i64 v3 0), (3, Ob.box 41 (cellsD false y41 a1)), (2, Ob.box 37 [L y152 a0])]) H (by kernel_rfl) fun H => ?_
  refine cd H (by kernel_rfl) (fun H => ?_) (fun H => ?_)
  ·refine qa tok hT [4] (St.mk [p 4 (B false)] [(7, Ob.box 141 (cellsD false y141 v4)), (21, Ob.arr 3 true i64 v3 0), (3, Ob.box 41 (cellsD false y41 a1)), (2, Ob.box 37 [L y152 a0])]) (by kernel_rfl) ?_
   exact vx_ret <| fx_seq_ret <| fx_blk_ret <| fx_seq_ret <| t1 <| fx_blk_ret <| t0 <| hr H (by kernel_rfl)
  refine vx_skip <| fx_seq <| ?_
  refine zd tok hT [2, 3, 5, 23, 24, 25] (fun v5 => St.mk [p 2 (AV.ptr 2 0), p 3 (AV.ptr 3 0), p 5 (AV.os 21 0), p 23 (L y141 a1.1), p 24 (I (↑a1.1.length : Int)), p 25 (I v2)] [(21, Ob.arr 3 true i64 v5 0), (7, Ob.box 141 (cellsD false y141 v4)), (3, Ob.box 41 (cellsD false y41 a1)), (2, Ob.box 37 [L y152 a0])]) H (by kernel_rfl) fun v5 H => ?_
  refine fx_blk <| fx_seq <| ?_
  refine zb tok hT [2, 3, 5, 23, 24, 25] (St.mk [p 2 (AV.ptr 2 0), p 3 (AV.ptr 3 0), p 5 (AV.os 21 0), p 23 (L y141 a1.1), p 24 (I (↑a1.1.length : Int)), p 25 (I (v2 + 1))] [(21, Ob.arr 3 true i64 v5 0), (7, Ob.box 141 (cellsD false y141 v4)), (3, Ob.box 41 (cellsD false y41 a1)), (2, Ob.box 37 [L y152 a0])]) H (by kernel_rfl) fun H => ?_
  exact b1 H (by kernel_rfl)
 exact vx_exit <| fx_seq_exit <| e1 <| fx_blk_exit rfl <| n0 H (by kernel_rfl)
def u35J3 : Unit → Option (Bool)
 | _ =>
 some true
def u35L4 (v9 : List Int) (a0 : Y44) (g4 : Int → Option (Bool)) : Int → Option (Bool)
 | v11 =>
 if (decide (v11 < (↑a0.2.2.length : Int))) = true then
  gd (ix v11 a0.2.2.length ∧ True) <| lt (a0.2.2.getD v11.toNat (dflt y131)) fun v12 =>
  gd (ix v11 v9.length ∧ v11.toNat < v9.length ∧ (u79 v12 (v9.getD v11.toNat 0)).isSome = true ∧ True) <| 
  if (!vl (u79 v12 (v9.getD v11.toNat 0))) = true then
   some false
  else
   gd (in64 (v11 + 1) ∧ True) <| 
   g4 (v11 + 1)
 else
  u35J3 ()
def u35J0 (a0 : Y44) : List Int → Option (Bool)
 | v9 =>
 lp (u35L4 v9 a0) 0
def u35J2 (v4 : Int) (g1 : Int × List Int → Option (Bool)) : List Int → Option (Bool)
 | v8 =>
 gd (in64 (v4 + 1) ∧ True) <| 
 g1 (v4 + 1, v8)
def u35L1 (v0 : List Y81) (a0 : Y44) (g1 : Int × List Int → Option (Bool)) : Int × List Int → Option (Bool)
 | (v4, v5) =>
 if (decide (v4 < (↑v0.length : Int))) = true then
  gd (ix v4 v0.length ∧ v4.toNat < v0.length ∧ True) <| lt (v0.getD v4.toNat (dflt y81)) fun v6 =>
  if (!v6.2.2.2) = true then
   gd (ix v6.2.2.1 v5.length ∧ v6.2.2.1.toNat < v5.length ∧ in64 (v5.getD v6.2.2.1.toNat 0 + 1) ∧ ix v6.2.2.1 v5.length ∧ v6.2.2.1.toNat < v5.length ∧ True) <| lt (v5.set v6.2.2.1.toNat (v5.getD v6.2.2.1.toNat 0 + 1)) fun v7 =>
   u35J2 v4 g1 v7
  else
   u35J2 v4 g1 v5
 else
  u35J0 a0 v5
def u35 (a0 : Y44) : Option (Bool) :=
 gd ((u78 a0.1 a0.2.1).isSome = true ∧ True) <| 
 if (!vl (u78 a0.1 a0.2.1) || (↑a0.2.2.length : Int) != (↑a0.2.1.2.1.length : Int)) = true then
  some false
 else
  gd ((0 ≤ (↑a0.2.2.length : Int) ∧ (↑a0.2.2.length : Int) = (↑a0.2.2.length : Int) ∧ (↑a0.2.2.length : Int).toNat * 8 ≤ 281474976710656 ∧ (↑a0.2.2.length : Int) ≤ 9223372036854775807) ∧ True) <| 
  gd ((u37 a0.2.1).isSome = true ∧ True) <| lt (vl (u37 a0.2.1)) fun v0 =>
  lp (u35L1 v0 a0) ((0, List.replicate (↑a0.2.2.length : Int).toNat 0))
def k35 : Ct := lct 35 [.agg y44] (fun x => u35 x.1) (fun r : Bool => B r) (fun _ => ())
theorem o35 : Ok Tryz.prog k35 := by
 refine okl tok [.tmp 2] Tryz.func35 Tryz.ntmps35 rfl Tryz.results35 (by kernel_rfl) rfl ?_
 intro y ⟨a0, _⟩ r H Q hn hr
 have hT := tc o79 (tc o37 (tc o78 tn))
 refine qa tok hT [1] (St.mk [p 1 (AV.ptr 1 0)] [(1, Ob.box 44 (cellsD false y44 a0))]) (by kernel_rfl) ?_
 refine vx_seq <| ?_
 refine qb tok hT [1, 23] (St.mk [p 1 (AV.ptr 1 0), p 23 (B (!vl (u78 a0.1 a0.2.1) || (↑a0.2.2.length : Int) != (↑a0.2.1.2.1.length : Int)))] [(1, Ob.box 44 (cellsD false y44 a0))]) H (by kernel_rfl) fun H => ?_
 refine cd H (by kernel_rfl) (fun H => ?_) (fun H => ?_)
 ·refine qa tok hT [2] (St.mk [p 2 (B false)] [(1, Ob.box 44 (cellsD false y44 a0))]) (by kernel_rfl) ?_
  exact vx_ret <| fx_seq_ret <| hr H (by kernel_rfl)
 refine vx_skip <| fx_seq <| ?_
 refine qb tok hT [1, 3] (St.mk [p 1 (AV.ptr 1 0), p 3 (AV.os 27 0)] [(27, Ob.arr 2 true i64 (List.replicate (↑a0.2.2.length : Int).toNat 0) 0), (1, Ob.box 44 (cellsD false y44 a0))]) H (by kernel_rfl) fun H => ?_
 refine jn r (fun (v9 : List Int) => St.mk [p 1 (AV.ptr 1 0), p 3 (AV.os 27 0)] [(27, Ob.arr 2 true i64 v9 0), (1, Ob.box 44 (cellsD false y44 a0))]) (u35J0 a0) (fun v9 H => ?_) (fun _ n0 e0 t0 => ?_)
 ·refine jn r (fun (_ : Unit) => St.mk [] []) (u35J3) (fun _ H => ?_) (fun _ n3 e3 t3 => ?_)
  ·refine qa tok hT [2] (St.mk [p 2 (B true)] []) (by kernel_rfl) ?_
   exact vx_ret <| hr H (by kernel_rfl)
  refine qa tok hT [3, 48, 49, 50] (St.mk [p 3 (AV.os 27 0), p 48 (L y131 a0.2.2), p 49 (I (↑a0.2.2.length : Int)), p 50 (I 0)] [(27, Ob.arr 2 true i64 v9 0), (1, Ob.box 44 (cellsD false y44 a0))]) (by kernel_rfl) ?_
  refine vx_block <| ?_
  refine lx (fun (v11 : Int) => St.mk [p 3 (AV.os 27 0), p 48 (L y131 a0.2.2), p 49 (I (↑a0.2.2.length : Int)), p 50 (I v11)] [(27, Ob.arr 2 true i64 v9 0)]) 0 H (by kernel_rfl) fun _ g4 b4 e4 t4 v11 H => ?_
  refine qa tok hT [3, 48, 49, 50, 51] (St.mk [p 3 (AV.os 27 0), p 48 (L y131 a0.2.2), p 49 (I (↑a0.2.2.length : Int)), p 50 (I v11), p 51 (B (decide (v11 < (↑a0.2.2.length : Int))))] [(27, Ob.arr 2 true i64 v9 0)]) (by kernel_rfl) ?_
  refine vx_seq <| ?_
  refine cd H (by kernel_rfl) (fun H => ?_) (fun H => ?_)
  ·refine vx_skip <| fx_seq <| vx_seq <| vx_block <| ?_
   refine qd tok hT [3, 6, 7, 48, 49, 50] (fun v12 => St.mk [p 3 (AV.os 27 0), p 6 (I v11), p 7 (AV.ptr 7 0), p 48 (L y131 a0.2.2), p 49 (I (↑a0.2.2.length : Int)), p 50 (I v11)] [(7, Ob.box 131 (cellsD false y131 v12)), (27, Ob.arr 2 true i64 v9 0)]) H (by kernel_rfl) fun v12 H => ?_
   refine qb tok hT [3, 48, 49, 50, 61] (St.mk [p 3 (AV.os 27 0), p 48 (L y131 a0.2.2), p 49 (I (↑a0.2.2.length : Int)), p 50 (I v11), p 61 (B !vl (u79 v12 (v9.getD v11.toNat 0)))] [(7, Ob.box 131 (cellsD false y131 v12)), (27, Ob.arr 2 true i64 v9 0)]) H (by kernel_rfl) fun H => ?_
   refine cd H (by kernel_rfl) (fun H => ?_) (fun H => ?_)
   ·refine qa tok hT [2] (St.mk [p 2 (B false)] [(7, Ob.box 131 (cellsD false y131 v12)), (27, Ob.arr 2 true i64 v9 0)]) (by kernel_rfl) ?_
    exact vx_ret <| fx_blk_ret <| fx_seq_ret <| t4 <| fx_blk_ret <| t3 <| hr H (by kernel_rfl)
   refine vx_skip <| fx_blk <| fx_seq <| ?_
   refine zb tok hT [3, 48, 49, 50] (St.mk [p 3 (AV.os 27 0), p 48 (L y131 a0.2.2), p 49 (I (↑a0.2.2.length : Int)), p 50 (I (v11 + 1))] [(7, Ob.box 131 (cellsD false y131 v12)), (27, Ob.arr 2 true i64 v9 0)]) H (by kernel_rfl) fun H => ?_
   exact b4 H (by kernel_rfl)
  exact vx_exit <| fx_seq_exit <| e4 <| fx_blk_exit rfl <| n3 H (by kernel_rfl)
 refine qd tok hT [1, 3, 30, 31, 32] (fun v0 => St.mk [p 1 (AV.ptr 1 0), p 3 (AV.os 27 0), p 30 (AV.os 30 0), p 31 (I (↑v0.length : Int)), p 32 (I 0)] [(30, Ob.arr 81 true y81 v0 0), (27, Ob.arr 2 true i64 (List.replicate (↑a0.2.2.length : Int).toNat 0) 0), (1, Ob.box 44 (cellsD false y44 a0))]) H (by kernel_rfl) fun v0 H => ?_
 refine vx_block <| ?_
 refine lx (fun ((v4, v5) : Int × List Int) => St.mk [p 1 (AV.ptr 1 0), p 3 (AV.os 27 0), p 30 (AV.os 30 0), p 31 (I (↑v0.length : Int)), p 32 (I v4)] [(30, Ob.arr 81 true y81 v0 0), (27, Ob.arr 2 true i64 v5 0), (1, Ob.box 44 (cellsD false y44 a0))]) ((0, List.replicate (↑a0.2.2.length : Int).toNat 0)) H (by kernel_rfl) fun _ g1 b1 e1 t1 ⟨v4, v5⟩ H => ?_
 refine qa tok hT [1, 3, 30, 31, 32, 33] (St.mk [p 1 (AV.ptr 1 0), p 3 (AV.os 27 0), p 30 (AV.os 30 0), p 31 (I (↑v0.length : Int)), p 32 (I v4), p 33 (B (decide (v4 < (↑v0.length : Int))))] [(30, Ob.arr 81 true y81 v0 0), (27, Ob.arr 2 true i64 v5 0), (1, Ob.box 44 (cellsD false y44 a0))]) (by kernel_rfl) ?_
 refine vx_seq <| ?_
 refine cd H (by kernel_rfl) (fun H => ?_) (fun H => ?_)
 ·refine vx_skip <| fx_seq <| ?_
  refine jn r (fun (v8 : List Int) => St.mk [p 1 (AV.ptr 1 0), p 3 (AV.os 27 0), p 30 (AV.os 30 0), p 31 (I (↑v0.length : Int)), p 32 (I v4)] [(27, Ob.arr 2 true i64 v8 0), (30, Ob.arr 81 true y81 v0 0), (1, Ob.box 44 (cellsD false y44 a0))]) (u35J2 v4 g1) (fun v8 H => ?_) (fun _ n2 e2 t2 => ?_)
  ·refine zb tok hT [1, 3, 30, 31, 32] (St.mk [p 1 (AV.ptr 1 0), p 3 (AV.os 27 0), p 30 (AV.os 30 0), p 31 (I (↑v0.length : Int)), p 32 (I (v4 + 1))] [(27, Ob.arr 2 true i64 v8 0), (30, Ob.arr 81 true y81 v0 0), (1, Ob.box 44 (cellsD false y44 a0))]) H (by kernel_rfl) fun H => ?_
   exact b1 H (by kernel_rfl)
  refine vx_block <| ?_
  refine qd tok hT [1, 3, 5, 30, 31, 32] (fun v6 => St.mk [p 1 (AV.ptr 1 0), p 3 (AV.os 27 0), p 5 (AV.ptr 5 0), p 30 (AV.os 30 0), p 31 (I (↑v0.length : Int)), p 32 (I v4)] [(5, Ob.box 81 (cellsD true y81 v6)), (30, Ob.arr 81 true y81 v0 0), (27, Ob.arr 2 true i64 v5 0), (1, Ob.box 44 (cellsD false y44 a0))]) H (by kernel_rfl) fun v6 H => ?_
  refine qa tok hT [1, 3, 5, 30, 31, 32, 38] (St.mk [p 1 (AV.ptr 1 0), p 3 (AV.os 27 0), p 5 (AV.ptr 5 0), p 30 (AV.os 30 0), p 31 (I (↑v0.length : Int)), p 32 (I v4), p 38 (B !v6.2.2.2)] [(5, Ob.box 81 (cellsD true y81 v6)), (30, Ob.arr 81 true y81 v0 0), (27, Ob.arr 2 true i64 v5 0), (1, Ob.box 44 (cellsD false y44 a0))]) (by kernel_rfl) ?_
  refine cd H (by kernel_rfl) (fun H => ?_) (fun H => ?_)
  ·refine zd tok hT [1, 3, 30, 31, 32] (fun v7 => St.mk [p 1 (AV.ptr 1 0), p 3 (AV.os 27 0), p 30 (AV.os 30 0), p 31 (I (↑v0.length : Int)), p 32 (I v4)] [(27, Ob.arr 2 true i64 v7 0), (5, Ob.box 81 (cellsD true y81 v6)), (30, Ob.arr 81 true y81 v0 0), (1, Ob.box 44 (cellsD false y44 a0))]) H (by kernel_rfl) fun v7 H => ?_
   exact fx_blk <| n2 H (by kernel_rfl)
  exact vx_skip <| fx_blk <| n2 H (by kernel_rfl)
 exact vx_exit <| fx_seq_exit <| e1 <| fx_blk_exit rfl <| n0 H (by kernel_rfl)
def u11 (a0 : Y44) : Option (Int) :=
 gd ((u35 a0).isSome = true ∧ True) <| 
 if (!vl (u35 a0)) = true then
  some (-1)
 else
  gd ((u37 a0.2.1).isSome = true ∧ (u36 (vl (u37 a0.2.1))).isSome = true ∧ in64 (2 * vl (u36 (vl (u37 a0.2.1)))) ∧ True) <| lt ((vl (u36 (vl (u37 a0.2.1))), vl (u37 a0.2.1))) fun (v0, v1) =>
  some (2 * v0)
def u72J4 : List Y163 → Option (List Y163)
 | v25 =>
 some v25
def u72L5 (a0 : Y41) (g5 : Int × List Y163 → Option (List Y163)) : Int × List Y163 → Option (List Y163)
 | (v21, v22) =>
 if (decide (v21 < (↑a0.2.2.length : Int))) = true then
  gd (ix v21 a0.2.2.length ∧ ix v21 a0.2.2.length ∧ (v22.length + [(-1, v21, (a0.2.2.getD v21.toNat (dflt y143)).2.2, (a0.2.2.getD v21.toNat (dflt y143)).2.1 == 1)].length ≤ 9223372036854775807 ∧ (v22.length + [(-1, v21, (a0.2.2.getD v21.toNat (dflt y143)).2.2, (a0.2.2.getD v21.toNat (dflt y143)).2.1 == 1)].length) * 32 ≤ 140737488355328) ∧ True) <| lt ((v22 ++ [(-1, v21, (a0.2.2.getD v21.toNat (dflt y143)).2.2, (a0.2.2.getD v21.toNat (dflt y143)).2.1 == 1)], [(-1, v21, (a0.2.2.getD v21.toNat (dflt y143)).2.2, (a0.2.2.getD v21.toNat (dflt y143)).2.1 == 1)])) fun (v23, v24) =>
  gd (in64 (v21 + 1) ∧ True) <| 
  g5 (v21 + 1, v23)
 else
  u72J4 v22
def u72J0 (a0 : Y41) : List Y163 → Option (List Y163)
 | v18 =>
 lp (u72L5 a0) (0, v18)
def u72J2 (v8 : Int) (g1 : Int × List Y163 → Option (List Y163)) : List Y163 → Option (List Y163)
 | v17 =>
 gd (in64 (v8 + 1) ∧ True) <| 
 g1 (v8 + 1, v17)
def u72L3 (v8 : Int) (v10 : Y141) (g1 : Int × List Y163 → Option (List Y163)) (g3 : Int × List Y163 → Option (List Y163)) : Int × List Y163 → Option (List Y163)
 | (v13, v14) =>
 if (decide (v13 < (↑v10.2.2.length : Int))) = true then
  gd (ix v13 v10.2.2.length ∧ in64 ((↑v10.2.2.length : Int) - 1) ∧ (v14.length + [(v8, v13, v10.2.2.getD v13.toNat 0, v13 == (↑v10.2.2.length : Int) - 1)].length ≤ 9223372036854775807 ∧ (v14.length + [(v8, v13, v10.2.2.getD v13.toNat 0, v13 == (↑v10.2.2.length : Int) - 1)].length) * 32 ≤ 140737488355328) ∧ True) <| lt ((v14 ++ [(v8, v13, v10.2.2.getD v13.toNat 0, v13 == (↑v10.2.2.length : Int) - 1)], [(v8, v13, v10.2.2.getD v13.toNat 0, v13 == (↑v10.2.2.length : Int) - 1)])) fun (v15, v16) =>
  gd (in64 (v13 + 1) ∧ True) <| 
  g3 (v13 + 1, v15)
 else
  u72J2 v8 g1 v14
def u72L1 (a0 : Y41) (g1 : Int × List Y163 → Option (List Y163)) : Int × List Y163 → Option (List Y163)
 | (v8, v9) =>
 if (decide (v8 < (↑a0.1.length : Int))) = true then
  gd (ix v8 a0.1.length ∧ True) <| lt (a0.1.getD v8.toNat (dflt y141)) fun v10 =>
  lp (u72L3 v8 v10 g1) (0, v9)
 else
  u72J0 a0 v9
def u72 (a0 : Y41) : Option (List Y163) :=
 lp (u72L1 a0) (0, [])
def k72 : Ct := lct 72 [.agg y41] (fun x => u72 x.1) (fun r : List Y163 => AV.ow 163 true y163 r) (fun _ => ())
theorem o72 : Ok Tryz.prog k72 := by
 refine okl tok [.tmp 2] Tryz.func72 Tryz.ntmps72 rfl Tryz.results72 (by kernel_rfl) rfl ?_
 intro y ⟨a0, _⟩ r H Q hn hr
 have hT := @tn Tryz.prog
 refine qa tok hT [1] (St.mk [p 1 (AV.ptr 1 0)] [(1, Ob.box 41 (cellsD false y41 a0))]) (by kernel_rfl) ?_
 refine qa tok hT [1, 3] (St.mk [p 1 (AV.ptr 1 0), p 3 (AV.os 8 0)] [(8, Ob.arr 163 true y163 [] 0), (1, Ob.box 41 (cellsD false y41 a0))]) (by kernel_rfl) ?_
 refine jn r (fun (v18 : List Y163) => St.mk [p 1 (AV.ptr 1 0), p 3 (AV.os 8 0)] [(8, Ob.arr 163 true y163 v18 0), (1, Ob.box 41 (cellsD false y41 a0))]) (u72J0 a0) (fun v18 H => ?_) (fun _ n0 e0 t0 => ?_)
 ·refine jn r (fun (v25 : List Y163) => St.mk [p 3 (AV.os 8 0)] [(8, Ob.arr 163 true y163 v25 0)]) (u72J4) (fun v25 H => ?_) (fun _ n4 e4 t4 => ?_)
  ·refine qa tok hT [2] (St.mk [p 2 (AV.os 8 0)] [(8, Ob.arr 163 true y163 v25 0)]) (by kernel_rfl) ?_
   exact vx_ret <| hr H (by kernel_rfl)
  refine qa tok hT [1, 3, 7] (St.mk [p 1 (AV.ptr 1 0), p 3 (AV.os 8 0), p 7 (I 0)] [(8, Ob.arr 163 true y163 v18 0), (1, Ob.box 41 (cellsD false y41 a0))]) (by kernel_rfl) ?_
  refine vx_block <| ?_
  refine lx (fun ((v21, v22) : Int × List Y163) => St.mk [p 1 (AV.ptr 1 0), p 3 (AV.os 8 0), p 7 (I v21)] [(8, Ob.arr 163 true y163 v22 0), (1, Ob.box 41 (cellsD false y41 a0))]) (0, v18) H (by kernel_rfl) fun _ g5 b5 e5 t5 ⟨v21, v22⟩ H => ?_
  refine vx_seq <| ?_
  refine qa tok hT [1, 3, 7, 47] (St.mk [p 1 (AV.ptr 1 0), p 3 (AV.os 8 0), p 7 (I v21), p 47 (B (decide (v21 < (↑a0.2.2.length : Int))))] [(8, Ob.arr 163 true y163 v22 0), (1, Ob.box 41 (cellsD false y41 a0))]) (by kernel_rfl) ?_
  refine cd H (by kernel_rfl) (fun H => ?_) (fun H => ?_)
  ·refine vx_skip <| fx_seq <| vx_seq <| vx_block <| ?_
   refine zd tok hT [1, 3, 7] (fun (v23, v24) => St.mk [p 1 (AV.ptr 1 0), p 3 (AV.os 8 1), p 7 (I v21)] [(8, Ob.arr 163 true y163 v23 1), (66, Ob.arr 163 true y163 v24 0), (1, Ob.box 41 (cellsD false y41 a0))]) H (by kernel_rfl) fun ⟨v23, v24⟩ H => ?_
   refine fx_blk <| fx_seq <| ?_
   refine zb tok hT [1, 3, 7] (St.mk [p 1 (AV.ptr 1 0), p 3 (AV.os 8 1), p 7 (I (v21 + 1))] [(8, Ob.arr 163 true y163 v23 1), (66, Ob.arr 163 true y163 v24 0), (1, Ob.box 41 (cellsD false y41 a0))]) H (by kernel_rfl) fun H => ?_
   exact b5 H (by kernel_rfl)
  exact vx_exit <| fx_seq_exit <| e5 <| fx_blk_exit rfl <| n4 H (by kernel_rfl)
 refine qa tok hT [1, 3, 4] (St.mk [p 1 (AV.ptr 1 0), p 3 (AV.os 8 0), p 4 (I 0)] [(8, Ob.arr 163 true y163 [] 0), (1, Ob.box 41 (cellsD false y41 a0))]) (by kernel_rfl) ?_
 refine vx_block <| ?_
 refine lx (fun ((v8, v9) : Int × List Y163) => St.mk [p 1 (AV.ptr 1 0), p 3 (AV.os 8 0), p 4 (I v8)] [(8, Ob.arr 163 true y163 v9 0), (1, Ob.box 41 (cellsD false y41 a0))]) (0, []) H (by kernel_rfl) fun _ g1 b1 e1 t1 ⟨v8, v9⟩ H => ?_
 refine vx_seq <| ?_
 refine qa tok hT [1, 3, 4, 13] (St.mk [p 1 (AV.ptr 1 0), p 3 (AV.os 8 0), p 4 (I v8), p 13 (B (decide (v8 < (↑a0.1.length : Int))))] [(8, Ob.arr 163 true y163 v9 0), (1, Ob.box 41 (cellsD false y41 a0))]) (by kernel_rfl) ?_
 refine cd H (by kernel_rfl) (fun H => ?_) (fun H => ?_)
 ·refine vx_skip <| fx_seq <| ?_
  refine jn r (fun (v17 : List Y163) => St.mk [p 1 (AV.ptr 1 0), p 3 (AV.os 8 0), p 4 (I v8)] [(8, Ob.arr 163 true y163 v17 0), (1, Ob.box 41 (cellsD false y41 a0))]) (u72J2 v8 g1) (fun v17 H => ?_) (fun _ n2 e2 t2 => ?_)
  ·refine zb tok hT [1, 3, 4] (St.mk [p 1 (AV.ptr 1 0), p 3 (AV.os 8 0), p 4 (I (v8 + 1))] [(8, Ob.arr 163 true y163 v17 0), (1, Ob.box 41 (cellsD false y41 a0))]) H (by kernel_rfl) fun H => ?_
   exact b1 H (by kernel_rfl)
  refine vx_block <| ?_
  refine qd tok hT [1, 3, 4, 5] (fun v10 => St.mk [p 1 (AV.ptr 1 0), p 3 (AV.os 8 0), p 4 (I v8), p 5 (L i64 v10.2.2)] [(8, Ob.arr 163 true y163 v9 0), (1, Ob.box 41 (cellsD false y41 a0))]) H (by kernel_rfl) fun v10 H => ?_
  refine qa tok hT [1, 3, 4, 5, 6] (St.mk [p 1 (AV.ptr 1 0), p 3 (AV.os 8 0), p 4 (I v8), p 5 (L i64 v10.2.2), p 6 (I 0)] [(8, Ob.arr 163 true y163 v9 0), (1, Ob.box 41 (cellsD false y41 a0))]) (by kernel_rfl) ?_
  refine vx_block <| ?_
  refine lx (fun ((v13, v14) : Int × List Y163) => St.mk [p 1 (AV.ptr 1 0), p 3 (AV.os 8 0), p 4 (I v8), p 5 (L i64 v10.2.2), p 6 (I v13)] [(8, Ob.arr 163 true y163 v14 0), (1, Ob.box 41 (cellsD false y41 a0))]) (0, v9) H (by kernel_rfl) fun _ g3 b3 e3 t3 ⟨v13, v14⟩ H => ?_
  refine vx_seq <| ?_
  refine qa tok hT [1, 3, 4, 5, 6, 25] (St.mk [p 1 (AV.ptr 1 0), p 3 (AV.os 8 0), p 4 (I v8), p 5 (L i64 v10.2.2), p 6 (I v13), p 25 (B (decide (v13 < (↑v10.2.2.length : Int))))] [(8, Ob.arr 163 true y163 v14 0), (1, Ob.box 41 (cellsD false y41 a0))]) (by kernel_rfl) ?_
  refine cd H (by kernel_rfl) (fun H => ?_) (fun H => ?_)
  ·refine vx_skip <| fx_seq <| vx_seq <| vx_block <| ?_
   refine zd tok hT [1, 3, 4, 5, 6] (fun (v15, v16) => St.mk [p 1 (AV.ptr 1 0), p 3 (AV.os 8 1), p 4 (I v8), p 5 (L i64 v10.2.2), p 6 (I v13)] [(8, Ob.arr 163 true y163 v15 1), (41, Ob.arr 163 true y163 v16 0), (1, Ob.box 41 (cellsD false y41 a0))]) H (by kernel_rfl) fun ⟨v15, v16⟩ H => ?_
   refine fx_blk <| fx_seq <| ?_
   refine zb tok hT [1, 3, 4, 5, 6] (St.mk [p 1 (AV.ptr 1 0), p 3 (AV.os 8 1), p 4 (I v8), p 5 (L i64 v10.2.2), p 6 (I (v13 + 1))] [(8, Ob.arr 163 true y163 v15 1), (41, Ob.arr 163 true y163 v16 0), (1, Ob.box 41 (cellsD false y41 a0))]) H (by kernel_rfl) fun H => ?_
   exact b3 H (by kernel_rfl)
  exact vx_exit <| fx_seq_exit <| e3 <| fx_blk_exit rfl <| fx_blk <| n2 H (by kernel_rfl)
 exact vx_exit <| fx_seq_exit <| e1 <| fx_blk_exit rfl <| n0 H (by kernel_rfl)
def u31 (a0 : Y44) : Option (Int) :=
 gd ((u72 a0.2.1).isSome = true ∧ in64 (2 * (↑(vl (u72 a0.2.1)).length : Int)) ∧ True) <| lt (vl (u72 a0.2.1)) fun v0 =>
 some (2 * (↑v0.length : Int))
def k31 : Ct := lct 31 [.agg y44] (fun x => u31 x.1) (fun r : Int => I r) (fun _ => ())
theorem o31 : Ok Tryz.prog k31 := by
 refine okl tok [.tmp 2] Tryz.func31 Tryz.ntmps31 rfl Tryz.results31 (by kernel_rfl) rfl ?_
 intro y ⟨a0, _⟩ r H Q hn hr
 have hT := tc o72 tn
 refine qa tok hT [1] (St.mk [p 1 (AV.ptr 1 0)] [(1, Ob.box 44 (cellsD false y44 a0))]) (by kernel_rfl) ?_
 refine qd tok hT [2] (fun v0 => St.mk [p 2 (I (2 * (↑v0.length : Int)))] [(5, Ob.arr 163 true y163 v0 0), (1, Ob.box 44 (cellsD false y44 a0))]) H (by kernel_rfl) fun v0 H => ?_
 exact vx_ret <| hr H (by kernel_rfl)
def u42 (a0 : Int) (a1 : Int) (a2 : Int) : Option (Bool) :=
 some (decide (a1 ≤ a0) && decide (a0 ≤ a2))
def k42 : Ct := lct 42 [.dat i64, .dat i64, .dat i64] (fun x => u42 x.1 x.2.1 x.2.2.1) (fun r : Bool => B r) (fun _ => ())
theorem o42 : Ok Tryz.prog k42 := by
 refine okl tok [.tmp 6] Tryz.func42 Tryz.ntmps42 rfl Tryz.results42 (by kernel_rfl) rfl ?_
 intro y ⟨a0, a1, a2, _⟩ r H Q hn hr
 have hT := @tn Tryz.prog
 refine qa tok hT [0, 1, 2] (St.mk [p 0 (J a0), p 1 (J a1), p 2 (J a2)] []) (by kernel_rfl) ?_
 refine qa tok hT [6] (St.mk [p 6 (B (decide (a1 ≤ a0) && decide (a0 ≤ a2)))] []) (by kernel_rfl) ?_
 exact vx_ret <| hr H (by kernel_rfl)
def u70J2 : Unit → Option (Bool)
 | _ =>
 some true
def u70L3 (a0 : Y131) (g3 : Int → Option (Bool)) : Int → Option (Bool)
 | v1 =>
 if (decide (v1 < (↑a0.2.2.2.length : Int))) = true then
  gd (ix v1 a0.2.2.2.length ∧ in64 ((↑a0.1.length : Int) - 1) ∧ (u42 (a0.2.2.2.getD v1.toNat 0) 0 ((↑a0.1.length : Int) - 1)).isSome = true ∧ True) <| 
  if (!vl (u42 (a0.2.2.2.getD v1.toNat 0) 0 ((↑a0.1.length : Int) - 1))) = true then
   some false
  else
   gd (in64 (v1 + 1) ∧ True) <| 
   g3 (v1 + 1)
 else
  u70J2 ()
def u70J0 (a0 : Y131) : Unit → Option (Bool)
 | _ =>
 lp (u70L3 a0) 0
def u70L1 (a0 : Y131) (g1 : Int → Option (Bool)) : Int → Option (Bool)
 | v0 =>
 if (decide (v0 < (↑a0.1.length : Int))) = true then
  gd (ix v0 a0.2.2.1.length ∧ (u42 (a0.2.2.1.getD v0.toNat 0) 0 500).isSome = true ∧ ((!vl (u42 (a0.2.2.1.getD v0.toNat 0) 0 500)) = false ∧ True → ix v0 a0.2.1.length) ∧ ((!vl (u42 (a0.2.2.1.getD v0.toNat 0) 0 500)) = false ∧ True → (u42 (a0.2.1.getD v0.toNat 0) 0 1000).isSome = true) ∧ True) <| 
  if (!vl (u42 (a0.2.2.1.getD v0.toNat 0) 0 500) || !vl (u42 (a0.2.1.getD v0.toNat 0) 0 1000)) = true then
   some false
  else
   gd (((v0 == 0) = true ∧ True → ix v0 a0.1.length) ∧ ((a0.1.getD v0.toNat 0 != -1) = false ∧ (v0 == 0) = true ∧ True → ix v0 a0.2.1.length) ∧ (decide (0 < v0) = true ∧ (v0 == 0 && (a0.1.getD v0.toNat 0 != -1 || a0.2.1.getD v0.toNat 0 != 0)) = false ∧ True → ix v0 a0.1.length) ∧ (decide (0 < v0) = true ∧ (v0 == 0 && (a0.1.getD v0.toNat 0 != -1 || a0.2.1.getD v0.toNat 0 != 0)) = false ∧ True → in64 (v0 - 1)) ∧ (decide (0 < v0) = true ∧ (v0 == 0 && (a0.1.getD v0.toNat 0 != -1 || a0.2.1.getD v0.toNat 0 != 0)) = false ∧ True → (u42 (a0.1.getD v0.toNat 0) 0 (v0 - 1)).isSome = true) ∧ True) <| 
   if (v0 == 0 && (a0.1.getD v0.toNat 0 != -1 || a0.2.1.getD v0.toNat 0 != 0) || decide (0 < v0) && !vl (u42 (a0.1.getD v0.toNat 0) 0 (v0 - 1))) = true then
    some false
   else
    gd (in64 (v0 + 1) ∧ True) <| 
    g1 (v0 + 1)
 else
  u70J0 a0 ()
def u70 (a0 : Y131) (a1 : Int) : Option (Bool) :=
 if (decide ((↑a0.1.length : Int) < 1) || decide (8 < (↑a0.1.length : Int)) || (↑a0.2.1.length : Int) != (↑a0.1.length : Int) || (↑a0.2.2.1.length : Int) != (↑a0.1.length : Int) || (↑a0.2.2.2.length : Int) != a1) = true then
  some false
 else
  lp (u70L1 a0) 0
def k70 : Ct := lct 70 [.agg y131, .dat i64] (fun x => u70 x.1 x.2.1) (fun r : Bool => B r) (fun _ => ())
theorem o70 : Ok Tryz.prog k70 := by
 refine okl tok [.tmp 4] Tryz.func70 Tryz.ntmps70 rfl Tryz.results70 (by kernel_rfl) rfl ?_
 intro y ⟨a0, a1, _⟩ r H Q hn hr
 have hT := tc o42 tn
 refine qa tok hT [1, 2] (St.mk [p 1 (J a1), p 2 (AV.ptr 2 0)] [(2, Ob.box 131 (cellsD false y131 a0))]) (by kernel_rfl) ?_
 refine qa tok hT [1, 2, 5] (St.mk [p 1 (J a1), p 2 (AV.ptr 2 0), p 5 (I (↑a0.1.length : Int))] [(2, Ob.box 131 (cellsD false y131 a0))]) (by kernel_rfl) ?_
 refine vx_seq <| ?_
 refine qa tok hT [2, 5, 37] (St.mk [p 2 (AV.ptr 2 0), p 5 (I (↑a0.1.length : Int)), p 37 (B (decide ((↑a0.1.length : Int) < 1) || decide (8 < (↑a0.1.length : Int)) || (↑a0.2.1.length : Int) != (↑a0.1.length : Int) || (↑a0.2.2.1.length : Int) != (↑a0.1.length : Int) || (↑a0.2.2.2.length : Int) != a1))] [(2, Ob.box 131 (cellsD false y131 a0))]) (by kernel_rfl) ?_
 refine cd H (by kernel_rfl) (fun H => ?_) (fun H => ?_)
 ·refine qa tok hT [4] (St.mk [p 4 (B false)] [(2, Ob.box 131 (cellsD false y131 a0))]) (by kernel_rfl) ?_
  exact vx_ret <| fx_seq_ret <| hr H (by kernel_rfl)
 refine vx_skip <| fx_seq <| ?_
 refine jn r (fun (_ : Unit) => St.mk [p 2 (AV.ptr 2 0), p 5 (I (↑a0.1.length : Int))] [(2, Ob.box 131 (cellsD false y131 a0))]) (u70J0 a0) (fun _ H => ?_) (fun _ n0 e0 t0 => ?_)
 ·refine jn r (fun (_ : Unit) => St.mk [] []) (u70J2) (fun _ H => ?_) (fun _ n2 e2 t2 => ?_)
  ·refine qa tok hT [4] (St.mk [p 4 (B true)] []) (by kernel_rfl) ?_
   exact vx_ret <| hr H (by kernel_rfl)
  refine qa tok hT [2, 5, 7] (St.mk [p 2 (AV.ptr 2 0), p 5 (I (↑a0.1.length : Int)), p 7 (I 0)] [(2, Ob.box 131 (cellsD false y131 a0))]) (by kernel_rfl) ?_
  refine vx_block <| ?_
  refine lx (fun (v1 : Int) => St.mk [p 2 (AV.ptr 2 0), p 5 (I (↑a0.1.length : Int)), p 7 (I v1)] [(2, Ob.box 131 (cellsD false y131 a0))]) 0 H (by kernel_rfl) fun _ g3 b3 e3 t3 v1 H => ?_
  refine vx_seq <| ?_
  refine qa tok hT [2, 5, 7, 96] (St.mk [p 2 (AV.ptr 2 0), p 5 (I (↑a0.1.length : Int)), p 7 (I v1), p 96 (B (decide (v1 < (↑a0.2.2.2.length : Int))))] [(2, Ob.box 131 (cellsD false y131 a0))]) (by kernel_rfl) ?_
  refine cd H (by kernel_rfl) (fun H => ?_) (fun H => ?_)
  ·refine vx_skip <| fx_seq <| vx_seq <| vx_block <| ?_
   refine qb tok hT [2, 5, 7, 107] (St.mk [p 2 (AV.ptr 2 0), p 5 (I (↑a0.1.length : Int)), p 7 (I v1), p 107 (B !vl (u42 (a0.2.2.2.getD v1.toNat 0) 0 ((↑a0.1.length : Int) - 1)))] [(2, Ob.box 131 (cellsD false y131 a0))]) H (by kernel_rfl) fun H => ?_
   refine cd H (by kernel_rfl) (fun H => ?_) (fun H => ?_)
   ·refine qa tok hT [4] (St.mk [p 4 (B false)] [(2, Ob.box 131 (cellsD false y131 a0))]) (by kernel_rfl) ?_
    exact vx_ret <| fx_blk_ret <| fx_seq_ret <| t3 <| fx_blk_ret <| t2 <| hr H (by kernel_rfl)
   refine vx_skip <| fx_blk <| fx_seq <| ?_
   refine zb tok hT [2, 5, 7] (St.mk [p 2 (AV.ptr 2 0), p 5 (I (↑a0.1.length : Int)), p 7 (I (v1 + 1))] [(2, Ob.box 131 (cellsD false y131 a0))]) H (by kernel_rfl) fun H => ?_
   exact b3 H (by kernel_rfl)
  exact vx_exit <| fx_seq_exit <| e3 <| fx_blk_exit rfl <| n2 H (by kernel_rfl)
 refine qa tok hT [2, 5, 6] (St.mk [p 2 (AV.ptr 2 0), p 5 (I (↑a0.1.length : Int)), p 6 (I 0)] [(2, Ob.box 131 (cellsD false y131 a0))]) (by kernel_rfl) ?_
 refine vx_block <| ?_
 refine lx (fun (v0 : Int) => St.mk [p 2 (AV.ptr 2 0), p 5 (I (↑a0.1.length : Int)), p 6 (I v0)] [(2, Ob.box 131 (cellsD false y131 a0))]) 0 H (by kernel_rfl) fun _ g1 b1 e1 t1 v0 H => ?_
 refine vx_seq <| ?_
 refine qa tok hT [2, 5, 6, 40] (St.mk [p 2 (AV.ptr 2 0), p 5 (I (↑a0.1.length : Int)), p 6 (I v0), p 40 (B (decide (v0 < (↑a0.1.length : Int))))] [(2, Ob.box 131 (cellsD false y131 a0))]) (by kernel_rfl) ?_
 refine cd H (by kernel_rfl) (fun H => ?_) (fun H => ?_)
 ·refine vx_skip <| fx_seq <| vx_seq <| vx_block <| vx_seq <| ?_
  refine qb tok hT [2, 5, 6, 51, 52, 53, 54, 55, 56, 57, 58] (St.mk [p 2 (AV.ptr 2 0), p 5 (I (↑a0.1.length : Int)), p 6 (I v0), p 58 (B (!vl (u42 (a0.2.2.1.getD v0.toNat 0) 0 500) || !vl (u42 (a0.2.1.getD v0.toNat 0) 0 1000)))] [(2, Ob.box 131 (cellsD false y131 a0))]) H (by kernel_rfl) fun H => ?_
  refine cd H (by kernel_rfl) (fun H => ?_) (fun H => ?_)
  ·refine qa tok hT [4] (St.mk [p 4 (B false)] [(2, Ob.box 131 (cellsD false y131 a0))]) (by kernel_rfl) ?_
   exact vx_ret <| fx_seq_ret <| fx_blk_ret <| fx_seq_ret <| t1 <| fx_blk_ret <| t0 <| hr H (by kernel_rfl)
  refine vx_skip <| fx_seq <| ?_
  refine qb tok hT [2, 5, 6, 62, 63, 64, 65, 66, 67, 68, 69, 70, 71, 72, 73, 74, 75, 78, 79, 80, 81, 82, 83, 84, 85, 86, 87, 88, 89, 90, 91] (St.mk [p 2 (AV.ptr 2 0), p 5 (I (↑a0.1.length : Int)), p 6 (I v0), p 91 (B (v0 == 0 && (a0.1.getD v0.toNat 0 != -1 || a0.2.1.getD v0.toNat 0 != 0) || decide (0 < v0) && !vl (u42 (a0.1.getD v0.toNat 0) 0 (v0 - 1))))] [(2, Ob.box 131 (cellsD false y131 a0))]) H (by kernel_rfl) fun H => ?_
  refine cd H (by kernel_rfl) (fun H => ?_) (fun H => ?_)
  ·refine qa tok hT [4] (St.mk [p 4 (B false)] [(2, Ob.box 131 (cellsD false y131 a0))]) (by kernel_rfl) ?_
   exact vx_ret <| fx_blk_ret <| fx_seq_ret <| t1 <| fx_blk_ret <| t0 <| hr H (by kernel_rfl)
  refine vx_skip <| fx_blk <| fx_seq <| ?_
  refine zb tok hT [2, 5, 6] (St.mk [p 2 (AV.ptr 2 0), p 5 (I (↑a0.1.length : Int)), p 6 (I (v0 + 1))] [(2, Ob.box 131 (cellsD false y131 a0))]) H (by kernel_rfl) fun H => ?_
  exact b1 H (by kernel_rfl)
 exact vx_exit <| fx_seq_exit <| e1 <| fx_blk_exit rfl <| n0 H (by kernel_rfl)
def u71J0 : List Int → Option (List Int)
 | v5 =>
 some v5
def u71J2 (v2 : Int) (g1 : Int × List Int → Option (List Int)) : List Int → Option (List Int)
 | v4 =>
 gd (in64 (v2 + 1) ∧ True) <| 
 g1 (v2 + 1, v4)
def u71L1 (v0 : List Y163) (a1 : Int) (g1 : Int × List Int → Option (List Int)) : Int × List Int → Option (List Int)
 | (v2, v3) =>
 if (decide (v2 < (↑v0.length : Int))) = true then
  gd (ix v2 v0.length ∧ v2.toNat < v0.length ∧ (((v0.getD v2.toNat (dflt y163)).2.2.1 == a1) = true ∧ True → ix v2 v0.length) ∧ (((v0.getD v2.toNat (dflt y163)).2.2.1 == a1) = true ∧ True → v2.toNat < v0.length) ∧ True) <| 
  if ((v0.getD v2.toNat (dflt y163)).2.2.1 == a1 && !(v0.getD v2.toNat (dflt y163)).2.2.2) = true then
   gd ((v3.length + [v2].length ≤ 9223372036854775807 ∧ (v3.length + [v2].length) * 8 ≤ 140737488355328) ∧ True) <| 
   u71J2 v2 g1 (v3 ++ [v2])
  else
   u71J2 v2 g1 v3
 else
  u71J0 v3
def u71 (a0 : Y41) (a1 : Int) : Option (List Int) :=
 gd ((u72 a0).isSome = true ∧ True) <| lt (vl (u72 a0)) fun v0 =>
 lp (u71L1 v0 a1) (0, [])
def k71 : Ct := lct 71 [.agg y41, .dat i64] (fun x => u71 x.1 x.2.1) (fun r : List Int => AV.ow 2 true i64 r) (fun _ => ())
theorem o71 : Ok Tryz.prog k71 := by
 refine okl tok [.tmp 4] Tryz.func71 Tryz.ntmps71 rfl Tryz.results71 (by kernel_rfl) rfl ?_
 intro y ⟨a0, a1, _⟩ r H Q hn hr
 have hT := tc o72 tn
 refine qa tok hT [1, 2] (St.mk [p 1 (J a1), p 2 (AV.ptr 2 0)] [(2, Ob.box 41 (cellsD false y41 a0))]) (by kernel_rfl) ?_
 refine qa tok hT [1, 2, 5] (St.mk [p 1 (J a1), p 2 (AV.ptr 2 0), p 5 (AV.os 8 0)] [(8, Ob.arr 2 true i64 [] 0), (2, Ob.box 41 (cellsD false y41 a0))]) (by kernel_rfl) ?_
 refine qd tok hT [1, 5, 6] (fun v0 => St.mk [p 1 (J a1), p 5 (AV.os 8 0), p 6 (AV.os 10 0)] [(10, Ob.arr 163 true y163 v0 0), (8, Ob.arr 2 true i64 [] 0), (2, Ob.box 41 (cellsD false y41 a0))]) H (by kernel_rfl) fun v0 H => ?_
 refine jn r (fun (v5 : List Int) => St.mk [p 5 (AV.os 8 0)] [(8, Ob.arr 2 true i64 v5 0)]) (u71J0) (fun v5 H => ?_) (fun _ n0 e0 t0 => ?_)
 ·refine qa tok hT [4] (St.mk [p 4 (AV.os 8 0)] [(8, Ob.arr 2 true i64 v5 0)]) (by kernel_rfl) ?_
  exact vx_ret <| hr H (by kernel_rfl)
 refine qa tok hT [1, 5, 6, 7] (St.mk [p 1 (J a1), p 5 (AV.os 8 0), p 6 (AV.os 10 0), p 7 (I 0)] [(10, Ob.arr 163 true y163 v0 0), (8, Ob.arr 2 true i64 [] 0), (2, Ob.box 41 (cellsD false y41 a0))]) (by kernel_rfl) ?_
 refine vx_block <| ?_
 refine lx (fun ((v2, v3) : Int × List Int) => St.mk [p 1 (J a1), p 5 (AV.os 8 0), p 6 (AV.os 10 0), p 7 (I v2)] [(10, Ob.arr 163 true y163 v0 0), (8, Ob.arr 2 true i64 v3 0)]) (0, []) H (by kernel_rfl) fun _ g1 b1 e1 t1 ⟨v2, v3⟩ H => ?_
 refine vx_seq <| ?_
 refine qa tok hT [1, 5, 6, 7, 14] (St.mk [p 1 (J a1), p 5 (AV.os 8 0), p 6 (AV.os 10 0), p 7 (I v2), p 14 (B (decide (v2 < (↑v0.length : Int))))] [(10, Ob.arr 163 true y163 v0 0), (8, Ob.arr 2 true i64 v3 0)]) (by kernel_rfl) ?_
 refine cd H (by kernel_rfl) (fun H => ?_) (fun H => ?_)
 ·refine vx_skip <| fx_seq <| ?_
  refine jn r (fun (v4 : List Int) => St.mk [p 1 (J a1), p 5 (AV.os 8 0), p 6 (AV.os 10 0), p 7 (I v2)] [(8, Ob.arr 2 true i64 v4 0), (10, Ob.arr 163 true y163 v0 0)]) (u71J2 v2 g1) (fun v4 H => ?_) (fun _ n2 e2 t2 => ?_)
  ·refine zb tok hT [1, 5, 6, 7] (St.mk [p 1 (J a1), p 5 (AV.os 8 0), p 6 (AV.os 10 0), p 7 (I (v2 + 1))] [(8, Ob.arr 2 true i64 v4 0), (10, Ob.arr 163 true y163 v0 0)]) H (by kernel_rfl) fun H => ?_
   exact b1 H (by kernel_rfl)
  refine vx_block <| ?_
  refine qb tok hT [1, 5, 6, 7, 25, 26, 27, 28, 29, 30, 31] (St.mk [p 1 (J a1), p 5 (AV.os 8 0), p 6 (AV.os 10 0), p 7 (I v2), p 31 (B ((v0.getD v2.toNat (dflt y163)).2.2.1 == a1 && !(v0.getD v2.toNat (dflt y163)).2.2.2))] [(10, Ob.arr 163 true y163 v0 0), (8, Ob.arr 2 true i64 v3 0)]) H (by kernel_rfl) fun H => ?_
  refine cd H (by kernel_rfl) (fun H => ?_) (fun H => ?_)
  ·refine zb tok hT [1, 5, 6, 7] (St.mk [p 1 (J a1), p 5 (AV.os 8 1), p 6 (AV.os 10 0), p 7 (I v2)] [(8, Ob.arr 2 true i64 (v3 ++ [v2]) 1), (34, Ob.arr 2 true i64 [v2] 0), (10, Ob.arr 163 true y163 v0 0)]) H (by kernel_rfl) fun H => ?_
   exact fx_blk <| n2 H (by kernel_rfl)
  exact vx_skip <| fx_blk <| n2 H (by kernel_rfl)
 exact vx_exit <| fx_seq_exit <| e1 <| fx_blk_exit rfl <| n0 H (by kernel_rfl)
def u142J0 (a0 : ByteArray) : Unit → Option (Bool)
 | _ =>
 some (decide (1 ≤ (↑a0.size : Int)) && decide ((↑a0.size : Int) ≤ 8))
def u142L1 (a0 : ByteArray) (g1 : Int → Option (Bool)) : Int → Option (Bool)
 | v0 =>
 if (decide (v0 < (↑a0.size : Int))) = true then
  gd (ix v0 a0.size ∧ (decide (97 ≤ byteAt a0 v0.toNat) = true ∧ True → ix v0 a0.size) ∧ True) <| 
  gd (ix v0 a0.size ∧ (decide (48 ≤ byteAt a0 v0.toNat) = true ∧ True → ix v0 a0.size) ∧ True) <| 
  if (!(decide (97 ≤ byteAt a0 v0.toNat) && decide (byteAt a0 v0.toNat ≤ 122)) && !(decide (48 ≤ byteAt a0 v0.toNat) && decide (byteAt a0 v0.toNat ≤ 57) && decide (0 < v0))) = true then
   some false
  else
   gd (in64 (v0 + 1) ∧ True) <| 
   g1 (v0 + 1)
 else
  u142J0 a0 ()
def u142 (a0 : ByteArray) : Option (Bool) :=
 lp (u142L1 a0) 0
def k142 : Ct := lct 142 [.dat Ty.str] (fun x => u142 x.1) (fun r : Bool => B r) (fun _ => ())
theorem o142 : Ok Tryz.prog k142 := by
 refine okl tok [.tmp 2] Tryz.func142 Tryz.ntmps142 rfl Tryz.results142 (by kernel_rfl) rfl ?_
 intro y ⟨a0, _⟩ r H Q hn hr
 have hT := @tn Tryz.prog
 refine qa tok hT [0] (St.mk [p 0 (U a0)] []) (by kernel_rfl) ?_
 refine jn r (fun (_ : Unit) => St.mk [p 0 (U a0)] []) (u142J0 a0) (fun _ H => ?_) (fun _ n0 e0 t0 => ?_)
 ·refine qa tok hT [2] (St.mk [p 2 (B (decide (1 ≤ (↑a0.size : Int)) && decide ((↑a0.size : Int) ≤ 8)))] []) (by kernel_rfl) ?_
  exact vx_ret <| hr H (by kernel_rfl)
 refine qa tok hT [0, 3] (St.mk [p 0 (U a0), p 3 (I 0)] []) (by kernel_rfl) ?_
 refine vx_block <| ?_
 refine lx (fun (v0 : Int) => St.mk [p 0 (U a0), p 3 (I v0)] []) 0 H (by kernel_rfl) fun _ g1 b1 e1 t1 v0 H => ?_
 refine vx_seq <| ?_
 refine qa tok hT [0, 3, 9] (St.mk [p 0 (U a0), p 3 (I v0), p 9 (B (decide (v0 < (↑a0.size : Int))))] []) (by kernel_rfl) ?_
 refine cd H (by kernel_rfl) (fun H => ?_) (fun H => ?_)
 ·refine vx_skip <| fx_seq <| vx_seq <| vx_block <| ?_
  refine qb tok hT [0, 3, 4, 17, 18, 19, 20] (St.mk [p 0 (U a0), p 3 (I v0), p 4 (B (decide (97 ≤ byteAt a0 v0.toNat) && decide (byteAt a0 v0.toNat ≤ 122)))] []) H (by kernel_rfl) fun H => ?_
  refine qb tok hT [0, 3, 4, 5, 27, 28, 29, 30] (St.mk [p 0 (U a0), p 3 (I v0), p 4 (B (decide (97 ≤ byteAt a0 v0.toNat) && decide (byteAt a0 v0.toNat ≤ 122))), p 5 (B (decide (48 ≤ byteAt a0 v0.toNat) && decide (byteAt a0 v0.toNat ≤ 57)))] []) H (by kernel_rfl) fun H => ?_
  refine qa tok hT [0, 3, 35, 36, 37, 38, 39, 40, 41] (St.mk [p 0 (U a0), p 3 (I v0), p 41 (B (!(decide (97 ≤ byteAt a0 v0.toNat) && decide (byteAt a0 v0.toNat ≤ 122)) && !(decide (48 ≤ byteAt a0 v0.toNat) && decide (byteAt a0 v0.toNat ≤ 57) && decide (0 < v0))))] []) (by kernel_rfl) ?_
  refine cd H (by kernel_rfl) (fun H => ?_) (fun H => ?_)
  ·refine qa tok hT [2] (St.mk [p 2 (B false)] []) (by kernel_rfl) ?_
   exact vx_ret <| fx_blk_ret <| fx_seq_ret <| t1 <| fx_blk_ret <| t0 <| hr H (by kernel_rfl)
  refine vx_skip <| fx_blk <| fx_seq <| ?_
  refine zb tok hT [0, 3] (St.mk [p 0 (U a0), p 3 (I (v0 + 1))] []) H (by kernel_rfl) fun H => ?_
  exact b1 H (by kernel_rfl)
 exact vx_exit <| fx_seq_exit <| e1 <| fx_blk_exit rfl <| n0 H (by kernel_rfl)
def u115J0 : Unit → Option (Bool)
 | _ =>
 some true
def u115J2 (v1 : Int) (g1 : Int → Option (Bool)) : Unit → Option (Bool)
 | _ =>
 gd (in64 (v1 + 1) ∧ True) <| 
 g1 (v1 + 1)
def u115L3 (a0 : List ByteArray) (v1 : Int) (g1 : Int → Option (Bool)) (g3 : Int → Option (Bool)) : Int → Option (Bool)
 | v2 =>
 if (decide (v2 < v1)) = true then
  gd (ix v2 a0.length ∧ ix v1 a0.length ∧ True) <| 
  if (decide (a0.getD v2.toNat (dflt Ty.str) = a0.getD v1.toNat (dflt Ty.str))) = true then
   some false
  else
   gd (in64 (v2 + 1) ∧ True) <| 
   g3 (v2 + 1)
 else
  u115J2 v1 g1 ()
def u115L1 (a0 : List ByteArray) (g1 : Int → Option (Bool)) : Int → Option (Bool)
 | v1 =>
 if (decide (v1 < (↑a0.length : Int))) = true then
  gd (ix v1 a0.length ∧ (u142 (a0.getD v1.toNat (dflt Ty.str))).isSome = true ∧ True) <| 
  if (!vl (u142 (a0.getD v1.toNat (dflt Ty.str)))) = true then
   some false
  else
   lp (u115L3 a0 v1 g1) 0
 else
  u115J0 ()
def u115 (a0 : List ByteArray) : Option (Bool) :=
 lp (u115L1 a0) 0
def k115 : Ct := lct 115 [.dat Ty.str.sl] (fun x => u115 x.1) (fun r : Bool => B r) (fun _ => ())
theorem o115 : Ok Tryz.prog k115 := by
 refine okl tok [.tmp 2] Tryz.func115 Tryz.ntmps115 rfl Tryz.results115 (by kernel_rfl) rfl ?_
 intro y ⟨a0, _⟩ r H Q hn hr
 have hT := tc o142 tn
 refine qa tok hT [0] (St.mk [p 0 (L Ty.str a0)] []) (by kernel_rfl) ?_
 refine jn r (fun (_ : Unit) => St.mk [] []) (u115J0) (fun _ H => ?_) (fun _ n0 e0 t0 => ?_)
 ·refine qa tok hT [2] (St.mk [p 2 (B true)] []) (by kernel_rfl) ?_
  exact vx_ret <| hr H (by kernel_rfl)
 refine qa tok hT [0, 3] (St.mk [p 0 (L Ty.str a0), p 3 (I 0)] []) (by kernel_rfl) ?_
 refine vx_block <| ?_
 refine lx (fun (v1 : Int) => St.mk [p 0 (L Ty.str a0), p 3 (I v1)] []) 0 H (by kernel_rfl) fun _ g1 b1 e1 t1 v1 H => ?_
 refine vx_seq <| ?_
 refine qa tok hT [0, 3, 8] (St.mk [p 0 (L Ty.str a0), p 3 (I v1), p 8 (B (decide (v1 < (↑a0.length : Int))))] []) (by kernel_rfl) ?_
 refine cd H (by kernel_rfl) (fun H => ?_) (fun H => ?_)
 ·refine vx_skip <| fx_seq <| ?_
  refine jn r (fun (_ : Unit) => St.mk [p 0 (L Ty.str a0), p 3 (I v1)] []) (u115J2 v1 g1) (fun _ H => ?_) (fun _ n2 e2 t2 => ?_)
  ·refine zb tok hT [0, 3] (St.mk [p 0 (L Ty.str a0), p 3 (I (v1 + 1))] []) H (by kernel_rfl) fun H => ?_
   exact b1 H (by kernel_rfl)
  refine vx_block <| vx_seq <| ?_
  refine qb tok hT [0, 3, 16] (St.mk [p 0 (L Ty.str a0), p 3 (I v1), p 16 (B !vl (u142 (a0.getD v1.toNat (dflt Ty.str))))] []) H (by kernel_rfl) fun H => ?_
  refine cd H (by kernel_rfl) (fun H => ?_) (fun H => ?_)
  ·refine qa tok hT [2] (St.mk [p 2 (B false)] []) (by kernel_rfl) ?_
   exact vx_ret <| fx_seq_ret <| fx_blk_ret <| t2 <| t1 <| fx_blk_ret <| t0 <| hr H (by kernel_rfl)
  refine vx_skip <| fx_seq <| ?_
  refine qa tok hT [0, 3, 4] (St.mk [p 0 (L Ty.str a0), p 3 (I v1), p 4 (I 0)] []) (by kernel_rfl) ?_
  refine vx_block <| ?_
  refine lx (fun (v2 : Int) => St.mk [p 0 (L Ty.str a0), p 3 (I v1), p 4 (I v2)] []) 0 H (by kernel_rfl) fun _ g3 b3 e3 t3 v2 H => ?_
  refine vx_seq <| ?_
  refine qa tok hT [0, 3, 4, 19] (St.mk [p 0 (L Ty.str a0), p 3 (I v1), p 4 (I v2), p 19 (B (decide (v2 < v1)))] []) (by kernel_rfl) ?_
  refine cd H (by kernel_rfl) (fun H => ?_) (fun H => ?_)
  ·refine vx_skip <| fx_seq <| vx_seq <| vx_block <| ?_
   refine qb tok hT [0, 3, 4, 30] (St.mk [p 0 (L Ty.str a0), p 3 (I v1), p 4 (I v2), p 30 (B (decide (a0.getD v2.toNat (dflt Ty.str) = a0.getD v1.toNat (dflt Ty.str))))] []) H (by kernel_rfl) fun H => ?_
   refine cd H (by kernel_rfl) (fun H => ?_) (fun H => ?_)
   ·refine qa tok hT [2] (St.mk [p 2 (B false)] []) (by kernel_rfl) ?_
    exact vx_ret <| fx_blk_ret <| fx_seq_ret <| t3 <| fx_blk_ret <| fx_blk_ret <| t2 <| t1 <| fx_blk_ret <| t0 <| hr H (by kernel_rfl)
   refine vx_skip <| fx_blk <| fx_seq <| ?_
   refine zb tok hT [0, 3, 4] (St.mk [p 0 (L Ty.str a0), p 3 (I v1), p 4 (I (v2 + 1))] []) H (by kernel_rfl) fun H => ?_
   exact b3 H (by kernel_rfl)
  exact vx_exit <| fx_seq_exit <| e3 <| fx_blk_exit rfl <| fx_blk <| n2 H (by kernel_rfl)
 exact vx_exit <| fx_seq_exit <| e1 <| fx_blk_exit rfl <| n0 H (by kernel_rfl)
def u114J4 : Unit → Option (Bool)
 | _ =>
 some true
def u114L5 (a1 : Y41) (g5 : Int → Option (Bool)) : Int → Option (Bool)
 | v5 =>
 if (decide (v5 < (↑a1.2.2.length : Int))) = true then
  gd (ix v5 a1.2.2.length ∧ (u42 (a1.2.2.getD v5.toNat (dflt y143)).2.1 1 2).isSome = true ∧ ((!vl (u42 (a1.2.2.getD v5.toNat (dflt y143)).2.1 1 2)) = false ∧ True → ix v5 a1.2.2.length) ∧ ((!vl (u42 (a1.2.2.getD v5.toNat (dflt y143)).2.1 1 2)) = false ∧ True → in64 ((↑a1.2.1.length : Int) - 1)) ∧ ((!vl (u42 (a1.2.2.getD v5.toNat (dflt y143)).2.1 1 2)) = false ∧ True → (u42 (a1.2.2.getD v5.toNat (dflt y143)).2.2 0 ((↑a1.2.1.length : Int) - 1)).isSome = true) ∧ True) <| 
  if (!vl (u42 (a1.2.2.getD v5.toNat (dflt y143)).2.1 1 2) || !vl (u42 (a1.2.2.getD v5.toNat (dflt y143)).2.2 0 ((↑a1.2.1.length : Int) - 1))) = true then
   some false
  else
   gd (in64 (v5 + 1) ∧ True) <| 
   g5 (v5 + 1)
 else
  u114J4 ()
def u114J0 (a1 : Y41) : Unit → Option (Bool)
 | _ =>
 lp (u114L5 a1) 0
def u114J2 (v2 : Int) (g1 : Int → Option (Bool)) : Unit → Option (Bool)
 | _ =>
 gd (in64 (v2 + 1) ∧ True) <| 
 g1 (v2 + 1)
def u114L3 (v3 : Y141) (a1 : Y41) (v2 : Int) (g1 : Int → Option (Bool)) (g3 : Int → Option (Bool)) : Int → Option (Bool)
 | v4 =>
 if (decide (v4 < (↑v3.2.2.length : Int))) = true then
  gd (ix v4 v3.2.2.length ∧ in64 ((↑a1.2.1.length : Int) - 1) ∧ (u42 (v3.2.2.getD v4.toNat 0) 0 ((↑a1.2.1.length : Int) - 1)).isSome = true ∧ True) <| 
  if (!vl (u42 (v3.2.2.getD v4.toNat 0) 0 ((↑a1.2.1.length : Int) - 1))) = true then
   some false
  else
   gd (in64 (v4 + 1) ∧ True) <| 
   g3 (v4 + 1)
 else
  u114J2 v2 g1 ()
def u114L1 (a1 : Y41) (a0 : List Y152) (g1 : Int → Option (Bool)) : Int → Option (Bool)
 | v2 =>
 if (decide (v2 < (↑a1.1.length : Int))) = true then
  gd (ix v2 a1.1.length ∧ True) <| lt (a1.1.getD v2.toNat (dflt y141)) fun v3 =>
  gd (in64 ((↑a0.length : Int) - 1) ∧ (u42 v3.2.1 0 ((↑a0.length : Int) - 1)).isSome = true ∧ ((!vl (u42 v3.2.1 0 ((↑a0.length : Int) - 1))) = false ∧ True → ix v3.2.1 a0.length) ∧ True) <| 
  if (!vl (u42 v3.2.1 0 ((↑a0.length : Int) - 1)) || (↑v3.2.2.length : Int) != (↑(a0.getD v3.2.1.toNat (dflt y152)).2.2.1.length : Int)) = true then
   some false
  else
   lp (u114L3 v3 a1 v2 g1) 0
 else
  u114J0 a1 ()
def u114 (a0 : List Y152) (a1 : Y41) : Option (Bool) :=
 lp (u114L1 a1 a0) 0
def k114 : Ct := lct 114 [.agg y152.sl, .agg y41] (fun x => u114 x.1 x.2.1) (fun r : Bool => B r) (fun _ => ())
theorem o114 : Ok Tryz.prog k114 := by
 refine okl tok [.tmp 4] Tryz.func114 Tryz.ntmps114 rfl Tryz.results114 (by kernel_rfl) rfl ?_
 intro y ⟨a0, a1, _⟩ r H Q hn hr
 have hT := tc o42 tn
 refine qa tok hT [2, 3] (St.mk [p 2 (AV.ptr 2 0), p 3 (AV.ptr 3 0)] [(3, Ob.box 41 (cellsD false y41 a1)), (2, Ob.box 37 [L y152 a0])]) (by kernel_rfl) ?_
 refine qa tok hT [2, 3, 5] (St.mk [p 2 (AV.ptr 2 0), p 3 (AV.ptr 3 0), p 5 (I (↑a1.2.1.length : Int))] [(3, Ob.box 41 (cellsD false y41 a1)), (2, Ob.box 37 [L y152 a0])]) (by kernel_rfl) ?_
 refine jn r (fun (_ : Unit) => St.mk [p 3 (AV.ptr 3 0), p 5 (I (↑a1.2.1.length : Int))] [(3, Ob.box 41 (cellsD false y41 a1))]) (u114J0 a1) (fun _ H => ?_) (fun _ n0 e0 t0 => ?_)
 ·refine jn r (fun (_ : Unit) => St.mk [] []) (u114J4) (fun _ H => ?_) (fun _ n4 e4 t4 => ?_)
  ·refine qa tok hT [4] (St.mk [p 4 (B true)] []) (by kernel_rfl) ?_
   exact vx_ret <| hr H (by kernel_rfl)
  refine qa tok hT [3, 5, 9] (St.mk [p 3 (AV.ptr 3 0), p 5 (I (↑a1.2.1.length : Int)), p 9 (I 0)] [(3, Ob.box 41 (cellsD false y41 a1))]) (by kernel_rfl) ?_
  refine vx_block <| ?_
  refine lx (fun (v5 : Int) => St.mk [p 3 (AV.ptr 3 0), p 5 (I (↑a1.2.1.length : Int)), p 9 (I v5)] [(3, Ob.box 41 (cellsD false y41 a1))]) 0 H (by kernel_rfl) fun _ g5 b5 e5 t5 v5 H => ?_
  refine vx_seq <| ?_
  refine qa tok hT [3, 5, 9, 67] (St.mk [p 3 (AV.ptr 3 0), p 5 (I (↑a1.2.1.length : Int)), p 9 (I v5), p 67 (B (decide (v5 < (↑a1.2.2.length : Int))))] [(3, Ob.box 41 (cellsD false y41 a1))]) (by kernel_rfl) ?_
  refine cd H (by kernel_rfl) (fun H => ?_) (fun H => ?_)
  ·refine vx_skip <| fx_seq <| vx_seq <| vx_block <| ?_
   refine qb tok hT [3, 5, 9, 79, 80, 81, 82, 83, 84, 85, 86, 87, 88, 89] (St.mk [p 3 (AV.ptr 3 0), p 5 (I (↑a1.2.1.length : Int)), p 9 (I v5), p 89 (B (!vl (u42 (a1.2.2.getD v5.toNat (dflt y143)).2.1 1 2) || !vl (u42 (a1.2.2.getD v5.toNat (dflt y143)).2.2 0 ((↑a1.2.1.length : Int) - 1))))] [(3, Ob.box 41 (cellsD false y41 a1))]) H (by kernel_rfl) fun H => ?_
   refine cd H (by kernel_rfl) (fun H => ?_) (fun H => ?_)
   ·refine qa tok hT [4] (St.mk [p 4 (B false)] [(3, Ob.box 41 (cellsD false y41 a1))]) (by kernel_rfl) ?_
    exact vx_ret <| fx_blk_ret <| fx_seq_ret <| t5 <| fx_blk_ret <| t4 <| hr H (by kernel_rfl)
   refine vx_skip <| fx_blk <| fx_seq <| ?_
   refine zb tok hT [3, 5, 9] (St.mk [p 3 (AV.ptr 3 0), p 5 (I (↑a1.2.1.length : Int)), p 9 (I (v5 + 1))] [(3, Ob.box 41 (cellsD false y41 a1))]) H (by kernel_rfl) fun H => ?_
   exact b5 H (by kernel_rfl)
  exact vx_exit <| fx_seq_exit <| e5 <| fx_blk_exit rfl <| n4 H (by kernel_rfl)
 refine qa tok hT [2, 3, 5, 6] (St.mk [p 2 (AV.ptr 2 0), p 3 (AV.ptr 3 0), p 5 (I (↑a1.2.1.length : Int)), p 6 (I 0)] [(3, Ob.box 41 (cellsD false y41 a1)), (2, Ob.box 37 [L y152 a0])]) (by kernel_rfl) ?_
 refine vx_block <| ?_
 refine lx (fun (v2 : Int) => St.mk [p 2 (AV.ptr 2 0), p 3 (AV.ptr 3 0), p 5 (I (↑a1.2.1.length : Int)), p 6 (I v2)] [(3, Ob.box 41 (cellsD false y41 a1)), (2, Ob.box 37 [L y152 a0])]) 0 H (by kernel_rfl) fun _ g1 b1 e1 t1 v2 H => ?_
 refine vx_seq <| ?_
 refine qa tok hT [2, 3, 5, 6, 17] (St.mk [p 2 (AV.ptr 2 0), p 3 (AV.ptr 3 0), p 5 (I (↑a1.2.1.length : Int)), p 6 (I v2), p 17 (B (decide (v2 < (↑a1.1.length : Int))))] [(3, Ob.box 41 (cellsD false y41 a1)), (2, Ob.box 37 [L y152 a0])]) (by kernel_rfl) ?_
 refine cd H (by kernel_rfl) (fun H => ?_) (fun H => ?_)
 ·refine vx_skip <| fx_seq <| ?_
  refine jn r (fun (_ : Unit) => St.mk [p 2 (AV.ptr 2 0), p 3 (AV.ptr 3 0), p 5 (I (↑a1.2.1.length : Int)), p 6 (I v2)] [(3, Ob.box 41 (cellsD false y41 a1)), (2, Ob.box 37 [L y152 a0])]) (u114J2 v2 g1) (fun _ H => ?_) (fun _ n2 e2 t2 => ?_)
  ·refine zb tok hT [2, 3, 5, 6] (St.mk [p 2 (AV.ptr 2 0), p 3 (AV.ptr 3 0), p 5 (I (↑a1.2.1.length : Int)), p 6 (I (v2 + 1))] [(3, Ob.box 41 (cellsD false y41 a1)), (2, Ob.box 37 [L y152 a0])]) H (by kernel_rfl) fun H => ?_
   exact b1 H (by kernel_rfl)
  refine vx_block <| ?_
  refine qd tok hT [2, 3, 5, 6, 7] (fun v3 => St.mk [p 2 (AV.ptr 2 0), p 3 (AV.ptr 3 0), p 5 (I (↑a1.2.1.length : Int)), p 6 (I v2), p 7 (AV.ptr 7 0)] [(7, Ob.box 141 (cellsD false y141 v3)), (3, Ob.box 41 (cellsD false y41 a1)), (2, Ob.box 37 [L y152 a0])]) H (by kernel_rfl) fun v3 H => ?_
  refine vx_seq <| ?_
  refine qb tok hT [2, 3, 5, 6, 7, 34, 35, 36, 37, 38, 39, 40, 41, 42, 43, 44, 45, 46] (St.mk [p 2 (AV.ptr 2 0), p 3 (AV.ptr 3 0), p 5 (I (↑a1.2.1.length : Int)), p 6 (I v2), p 7 (AV.ptr 7 0), p 46 (B (!vl (u42 v3.2.1 0 ((↑a0.length : Int) - 1)) || (↑v3.2.2.length : Int) != (↑(a0.getD v3.2.1.toNat (dflt y152)).2.2.1.length : Int)))] [(7, Ob.box 141 (cellsD false y141 v3)), (3, Ob.box 41 (cellsD false y41 a1)), (2, Ob.box 37 [L y152 a0])]) H (by kernel_rfl) fun H => ?_
  refine cd H (by kernel_rfl) (fun H => ?_) (fun H => ?_)
  ·refine qa tok hT [4] (St.mk [p 4 (B false)] [(7, Ob.box 141 (cellsD false y141 v3)), (3, Ob.box 41 (cellsD false y41 a1)), (2, Ob.box 37 [L y152 a0])]) (by kernel_rfl) ?_
   exact vx_ret <| fx_seq_ret <| fx_blk_ret <| t2 <| t1 <| fx_blk_ret <| t0 <| hr H (by kernel_rfl)
  refine vx_skip <| fx_seq <| ?_
  refine qa tok hT [2, 3, 5, 6, 7, 8] (St.mk [p 2 (AV.ptr 2 0), p 3 (AV.ptr 3 0), p 5 (I (↑a1.2.1.length : Int)), p 6 (I v2), p 7 (AV.ptr 7 0), p 8 (I 0)] [(7, Ob.box 141 (cellsD false y141 v3)), (3, Ob.box 41 (cellsD false y41 a1)), (2, Ob.box 37 [L y152 a0])]) (by kernel_rfl) ?_
  refine vx_block <| ?_
  refine lx (fun (v4 : Int) => St.mk [p 2 (AV.ptr 2 0), p 3 (AV.ptr 3 0), p 5 (I (↑a1.2.1.length : Int)), p 6 (I v2), p 7 (AV.ptr 7 0), p 8 (I v4)] [(7, Ob.box 141 (cellsD false y141 v3)), (3, Ob.box 41 (cellsD false y41 a1)), (2, Ob.box 37 [L y152 a0])]) 0 H (by kernel_rfl) fun _ g3 b3 e3 t3 v4 H => ?_
  refine vx_seq <| ?_
  refine qa tok hT [2, 3, 5, 6, 7, 8, 51] (St.mk [p 2 (AV.ptr 2 0), p 3 (AV.ptr 3 0), p 5 (I (↑a1.2.1.length : Int)), p 6 (I v2), p 7 (AV.ptr 7 0), p 8 (I v4), p 51 (B (decide (v4 < (↑v3.2.2.length : Int))))] [(7, Ob.box 141 (cellsD false y141 v3)), (3, Ob.box 41 (cellsD false y41 a1)), (2, Ob.box 37 [L y152 a0])]) (by kernel_rfl) ?_
  refine cd H (by kernel_rfl) (fun H => ?_) (fun H => ?_)
  ·refine vx_skip <| fx_seq <| vx_seq <| vx_block <| ?_
   refine qb tok hT [2, 3, 5, 6, 7, 8, 62] (St.mk [p 2 (AV.ptr 2 0), p 3 (AV.ptr 3 0), p 5 (I (↑a1.2.1.length : Int)), p 6 (I v2), p 7 (AV.ptr 7 0), p 8 (I v4), p 62 (B !vl (u42 (v3.2.2.getD v4.toNat 0) 0 ((↑a1.2.1.length : Int) - 1)))] [(7, Ob.box 141 (cellsD false y141 v3)), (3, Ob.box 41 (cellsD false y41 a1)), (2, Ob.box 37 [L y152 a0])]) H (by kernel_rfl) fun H => ?_
   refine cd H (by kernel_rfl) (fun H => ?_) (fun H => ?_)
   ·refine qa tok hT [4] (St.mk [p 4 (B false)] [(7, Ob.box 141 (cellsD false y141 v3)), (3, Ob.box 41 (cellsD false y41 a1)), (2, Ob.box 37 [L y152 a0])]) (by kernel_rfl) ?_
    exact vx_ret <| fx_blk_ret <| fx_seq_ret <| t3 <| fx_blk_ret <| fx_blk_ret <| t2 <| t1 <| fx_blk_ret <| t0 <| hr H (by kernel_rfl)
   refine vx_skip <| fx_blk <| fx_seq <| ?_
   refine zb tok hT [2, 3, 5, 6, 7, 8] (St.mk [p 2 (AV.ptr 2 0), p 3 (AV.ptr 3 0), p 5 (I (↑a1.2.1.length : Int)), p 6 (I v2), p 7 (AV.ptr 7 0), p 8 (I (v4 + 1))] [(7, Ob.box 141 (cellsD false y141 v3)), (3, Ob.box 41 (cellsD false y41 a1)), (2, Ob.box 37 [L y152 a0])]) H (by kernel_rfl) fun H => ?_
   exact b3 H (by kernel_rfl)
  exact vx_exit <| fx_seq_exit <| e3 <| fx_blk_exit rfl <| fx_blk <| n2 H (by kernel_rfl)
 exact vx_exit <| fx_seq_exit <| e1 <| fx_blk_exit rfl <| n0 H (by kernel_rfl)
def u161J0 : List Int → Option (List Int)
 | v4 =>
 some v4
def u161L1 (a0 : Y152) (g1 : Int × List Int → Option (List Int)) : Int × List Int → Option (List Int)
 | (v1, v2) =>
 if (decide (v1 < (↑a0.2.2.2.1.length : Int))) = true then
  gd (ix v1 a0.2.2.2.1.length ∧ ix (a0.2.2.2.1.getD v1.toNat (dflt y89)).1 v2.length ∧ (a0.2.2.2.1.getD v1.toNat (dflt y89)).1.toNat < v2.length ∧ in64 (v2.getD (a0.2.2.2.1.getD v1.toNat (dflt y89)).1.toNat 0 + 1) ∧ ix (a0.2.2.2.1.getD v1.toNat (dflt y89)).1 v2.length ∧ (a0.2.2.2.1.getD v1.toNat (dflt y89)).1.toNat < v2.length ∧ True) <| lt (v2.set (a0.2.2.2.1.getD v1.toNat (dflt y89)).1.toNat (v2.getD (a0.2.2.2.1.getD v1.toNat (dflt y89)).1.toNat 0 + 1)) fun v3 =>
  gd (in64 (v1 + 1) ∧ True) <| 
  g1 (v1 + 1, v3)
 else
  u161J0 v2
def u161 (a0 : Y152) : Option (List Int) :=
 gd (((0 : Int) ≤ (6 : Int) ∧ (6 : Int) = (6 : Int) ∧ Int.toNat (6 : Int) * (8 : Nat) ≤ (281474976710656 : Nat) ∧ (6 : Int) ≤ (9223372036854775807 : Int)) ∧ True) <| 
 lp (u161L1 a0) ((0, List.replicate (Int.toNat (6 : Int)) (0 : Int)))
def k161 : Ct := lct 161 [.agg y152] (fun x => u161 x.1) (fun r : List Int => AV.ow 2 true i64 r) (fun _ => ())
theorem o161 : Ok Tryz.prog k161 := by
 refine okl tok [.tmp 2] Tryz.func161 Tryz.ntmps161 rfl Tryz.results161 (by kernel_rfl) rfl ?_
 intro y ⟨a0, _⟩ r H Q hn hr
 have hT := @tn Tryz.prog
 refine qa tok hT [1] (St.mk [p 1 (AV.ptr 1 0)] [(1, Ob.box 152 (cellsD false y152 a0))]) (by kernel_rfl) ?_
 refine qb tok hT [1, 3] (St.mk [p (1 : Nat) (AV.ptr (1 : Nat) (0 : Nat)), p (3 : Nat) (AV.os (5 : Nat) (0 : Nat))] [((5 : Nat), Ob.arr (nat_lit 2) true i64 (List.replicate (Int.toNat (6 : Int)) (0 : Int)) (0 : Nat)), ((1 : Nat), Ob.box (nat_lit 152) (cellsD false y152 a0))]) H (by kernel_rfl) fun H => ?_
 refine jn r (fun (v4 : List Int) => St.mk [p 3 (AV.os 5 0)] [(5, Ob.arr 2 true i64 v4 0)]) (u161J0) (fun v4 H => ?_) (fun _ n0 e0 t0 => ?_)
 ·refine qa tok hT [2] (St.mk [p 2 (AV.os 5 0)] [(5, Ob.arr 2 true i64 v4 0)]) (by kernel_rfl) ?_
  exact vx_ret <| hr H (by kernel_rfl)
 refine qa tok hT [1, 3, 4] (St.mk [p (1 : Nat) (AV.ptr (1 : Nat) (0 : Nat)), p (3 : Nat) (AV.os (5 : Nat) (0 : Nat)), p (4 : Nat) (I (0 : Int))] [((5 : Nat), Ob.arr (nat_lit 2) true i64 (List.replicate (Int.toNat (6 : Int)) (0 : Int)) (0 : Nat)), ((1 : Nat), Ob.box (nat_lit 152) (cellsD false y152 a0))]) (by kernel_rfl) ?_
 refine vx_block <| ?_
 refine lx (fun ((v1, v2) : Int × List Int) => St.mk [p 1 (AV.ptr 1 0), p 3 (AV.os 5 0), p 4 (I v1)] [(5, Ob.arr 2 true i64 v2 0), (1, Ob.box 152 (cellsD false y152 a0))]) ((0, List.replicate (Int.toNat (6 : Int)) (0 : Int))) H (by kernel_rfl) fun _ g1 b1 e1 t1 ⟨v1, v2⟩ H => ?_
 refine vx_seq <| ?_
 refine qa tok hT [1, 3, 4, 10] (St.mk [p 1 (AV.ptr 1 0), p 3 (AV.os 5 0), p 4 (I v1), p 10 (B (decide (v1 < (↑a0.2.2.2.1.length : Int))))] [(5, Ob.arr 2 true i64 v2 0), (1, Ob.box 152 (cellsD false y152 a0))]) (by kernel_rfl) ?_
 refine cd H (by kernel_rfl) (fun H => ?_) (fun H => ?_)
 ·refine vx_skip <| fx_seq <| vx_seq <| vx_block <| ?_
  refine zd tok hT [1, 3, 4] (fun v3 => St.mk [p 1 (AV.ptr 1 0), p 3 (AV.os 5 0), p 4 (I v1)] [(5, Ob.arr 2 true i64 v3 0), (1, Ob.box 152 (cellsD false y152 a0))]) H (by kernel_rfl) fun v3 H => ?_
  refine fx_blk <| fx_seq <| ?_
  refine zb tok hT [1, 3, 4] (St.mk [p 1 (AV.ptr 1 0), p 3 (AV.os 5 0), p 4 (I (v1 + 1))] [(5, Ob.arr 2 true i64 v3 0), (1, Ob.box 152 (cellsD false y152 a0))]) H (by kernel_rfl) fun H => ?_
  exact b1 H (by kernel_rfl)
 exact vx_exit <| fx_seq_exit <| e1 <| fx_blk_exit rfl <| n0 H (by kernel_rfl)
def u215J0 (a0 : List Int) : Unit → Option (Bool)
 | _ =>
 some (decide (1 ≤ (↑a0.length : Int)) && decide ((↑a0.length : Int) ≤ 4))
def u215L1 (a0 : List Int) (g1 : Int → Option (Bool)) : Int → Option (Bool)
 | v0 =>
 if (decide (v0 < (↑a0.length : Int))) = true then
  gd (ix v0 a0.length ∧ (u42 (a0.getD v0.toNat 0) 0 100000).isSome = true ∧ (decide (0 < v0) = true ∧ (!vl (u42 (a0.getD v0.toNat 0) 0 100000)) = false ∧ True → in64 (v0 - 1)) ∧ (decide (0 < v0) = true ∧ (!vl (u42 (a0.getD v0.toNat 0) 0 100000)) = false ∧ True → ix (v0 - 1) a0.length) ∧ (decide (0 < v0) = true ∧ (!vl (u42 (a0.getD v0.toNat 0) 0 100000)) = false ∧ True → ix v0 a0.length) ∧ True) <| 
  if (!vl (u42 (a0.getD v0.toNat 0) 0 100000) || decide (0 < v0) && decide (a0.getD v0.toNat 0 ≤ a0.getD (v0 - 1).toNat 0)) = true then
   some false
  else
   gd (in64 (v0 + 1) ∧ True) <| 
   g1 (v0 + 1)
 else
  u215J0 a0 ()
def u215 (a0 : List Int) : Option (Bool) :=
 lp (u215L1 a0) 0
def k215 : Ct := lct 215 [.dat i64.sl] (fun x => u215 x.1) (fun r : Bool => B r) (fun _ => ())
theorem o215 : Ok Tryz.prog k215 := by
 refine okl tok [.tmp 2] Tryz.func215 Tryz.ntmps215 rfl Tryz.results215 (by kernel_rfl) rfl ?_
 intro y ⟨a0, _⟩ r H Q hn hr
 have hT := tc o42 tn
 refine qa tok hT [0] (St.mk [p 0 (L i64 a0)] []) (by kernel_rfl) ?_
 refine jn r (fun (_ : Unit) => St.mk [p 0 (L i64 a0)] []) (u215J0 a0) (fun _ H => ?_) (fun _ n0 e0 t0 => ?_)
 ·refine qa tok hT [2] (St.mk [p 2 (B (decide (1 ≤ (↑a0.length : Int)) && decide ((↑a0.length : Int) ≤ 4)))] []) (by kernel_rfl) ?_
  exact vx_ret <| hr H (by kernel_rfl)
 refine qa tok hT [0, 3] (St.mk [p 0 (L i64 a0), p 3 (I 0)] []) (by kernel_rfl) ?_
 refine vx_block <| ?_
 refine lx (fun (v0 : Int) => St.mk [p 0 (L i64 a0), p 3 (I v0)] []) 0 H (by kernel_rfl) fun _ g1 b1 e1 t1 v0 H => ?_
 refine vx_seq <| ?_
 refine qa tok hT [0, 3, 7] (St.mk [p 0 (L i64 a0), p 3 (I v0), p 7 (B (decide (v0 < (↑a0.length : Int))))] []) (by kernel_rfl) ?_
 refine cd H (by kernel_rfl) (fun H => ?_) (fun H => ?_)
 ·refine vx_skip <| fx_seq <| vx_seq <| vx_block <| ?_
  refine qb tok hT [0, 3, 17, 18, 19, 20, 21, 22, 23, 24, 25, 26, 27, 28, 29, 30, 31] (St.mk [p 0 (L i64 a0), p 3 (I v0), p 31 (B (!vl (u42 (a0.getD v0.toNat 0) 0 100000) || decide (0 < v0) && decide (a0.getD v0.toNat 0 ≤ a0.getD (v0 - 1).toNat 0)))] []) H (by kernel_rfl) fun H => ?_
  refine cd H (by kernel_rfl) (fun H => ?_) (fun H => ?_)
  ·refine qa tok hT [2] (St.mk [p 2 (B false)] []) (by kernel_rfl) ?_
   exact vx_ret <| fx_blk_ret <| fx_seq_ret <| t1 <| fx_blk_ret <| t0 <| hr H (by kernel_rfl)
  refine vx_skip <| fx_blk <| fx_seq <| ?_
  refine zb tok hT [0, 3] (St.mk [p 0 (L i64 a0), p 3 (I (v0 + 1))] []) H (by kernel_rfl) fun H => ?_
  exact b1 H (by kernel_rfl)
 exact vx_exit <| fx_seq_exit <| e1 <| fx_blk_exit rfl <| n0 H (by kernel_rfl)
def u203J0 : Unit → Option (Bool)
 | _ =>
 some true
def u203L1 (a0 : Y96) (g1 : Int → Option (Bool)) : Int → Option (Bool)
 | v0 =>
 if (decide (v0 < (↑a0.2.2.length : Int))) = true then
  gd (ix v0 a0.2.2.length ∧ (u42 (a0.2.2.getD v0.toNat 0) (-1000000) 1000000).isSome = true ∧ True) <| 
  if (!vl (u42 (a0.2.2.getD v0.toNat 0) (-1000000) 1000000)) = true then
   some false
  else
   gd (in64 (v0 + 1) ∧ True) <| 
   g1 (v0 + 1)
 else
  u203J0 ()
def u203 (a0 : Y96) : Option (Bool) :=
 gd ((u215 a0.1).isSome = true ∧ ((!vl (u215 a0.1)) = false ∧ True → (u215 a0.2.1).isSome = true) ∧ ((!vl (u215 a0.1) || !vl (u215 a0.2.1)) = false ∧ True → in64 ((↑a0.1.length : Int) * (↑a0.2.1.length : Int))) ∧ True) <| 
 if (!vl (u215 a0.1) || !vl (u215 a0.2.1) || (↑a0.2.2.length : Int) != (↑a0.1.length : Int) * (↑a0.2.1.length : Int)) = true then
  some false
 else
  lp (u203L1 a0) 0
def k203 : Ct := lct 203 [.agg y96] (fun x => u203 x.1) (fun r : Bool => B r) (fun _ => ())
theorem o203 : Ok Tryz.prog k203 := by
 refine okl tok [.tmp 2] Tryz.func203 Tryz.ntmps203 rfl Tryz.results203 (by kernel_rfl) rfl ?_
 intro y ⟨a0, _⟩ r H Q hn hr
 have hT := tc o42 (tc o215 tn)
 refine qa tok hT [1] (St.mk [p 1 (AV.ptr 1 0)] [(1, Ob.box 96 (cellsD false y96 a0))]) (by kernel_rfl) ?_
 refine vx_seq <| ?_
 refine qb tok hT [1, 26] (St.mk [p 1 (AV.ptr 1 0), p 26 (B (!vl (u215 a0.1) || !vl (u215 a0.2.1) || (↑a0.2.2.length : Int) != (↑a0.1.length : Int) * (↑a0.2.1.length : Int)))] [(1, Ob.box 96 (cellsD false y96 a0))]) H (by kernel_rfl) fun H => ?_
 refine cd H (by kernel_rfl) (fun H => ?_) (fun H => ?_)
 ·refine qa tok hT [2] (St.mk [p 2 (B false)] [(1, Ob.box 96 (cellsD false y96 a0))]) (by kernel_rfl) ?_
  exact vx_ret <| fx_seq_ret <| hr H (by kernel_rfl)
 refine vx_skip <| fx_seq <| ?_
 refine jn r (fun (_ : Unit) => St.mk [] []) (u203J0) (fun _ H => ?_) (fun _ n0 e0 t0 => ?_)
 ·refine qa tok hT [2] (St.mk [p 2 (B true)] []) (by kernel_rfl) ?_
  exact vx_ret <| hr H (by kernel_rfl)
 refine qa tok hT [1, 3] (St.mk [p 1 (AV.ptr 1 0), p 3 (I 0)] [(1, Ob.box 96 (cellsD false y96 a0))]) (by kernel_rfl) ?_
 refine vx_block <| ?_
 refine lx (fun (v0 : Int) => St.mk [p 1 (AV.ptr 1 0), p 3 (I v0)] [(1, Ob.box 96 (cellsD false y96 a0))]) 0 H (by kernel_rfl) fun _ g1 b1 e1 t1 v0 H => ?_
 refine vx_seq <| ?_
 refine qa tok hT [1, 3, 31] (St.mk [p 1 (AV.ptr 1 0), p 3 (I v0), p 31 (B (decide (v0 < (↑a0.2.2.length : Int))))] [(1, Ob.box 96 (cellsD false y96 a0))]) (by kernel_rfl) ?_
 refine cd H (by kernel_rfl) (fun H => ?_) (fun H => ?_)
 ·refine vx_skip <| fx_seq <| vx_seq <| vx_block <| ?_
  refine qb tok hT [1, 3, 40] (St.mk [p 1 (AV.ptr 1 0), p 3 (I v0), p 40 (B !vl (u42 (a0.2.2.getD v0.toNat 0) (-1000000) 1000000))] [(1, Ob.box 96 (cellsD false y96 a0))]) H (by kernel_rfl) fun H => ?_
  refine cd H (by kernel_rfl) (fun H => ?_) (fun H => ?_)
  ·refine qa tok hT [2] (St.mk [p 2 (B false)] [(1, Ob.box 96 (cellsD false y96 a0))]) (by kernel_rfl) ?_
   exact vx_ret <| fx_blk_ret <| fx_seq_ret <| t1 <| fx_blk_ret <| t0 <| hr H (by kernel_rfl)
  refine vx_skip <| fx_blk <| fx_seq <| ?_
  refine zb tok hT [1, 3] (St.mk [p 1 (AV.ptr 1 0), p 3 (I (v0 + 1))] [(1, Ob.box 96 (cellsD false y96 a0))]) H (by kernel_rfl) fun H => ?_
  exact b1 H (by kernel_rfl)
 exact vx_exit <| fx_seq_exit <| e1 <| fx_blk_exit rfl <| n0 H (by kernel_rfl)
def u187J0 : Int × Int → Option (Y105 × Int)
 | (v5, v6) =>
 some (((v5, v6), (0 : Int)))
def u187L1 (a0 : Y96) (g1 : Int × Int × Int → Option (Y105 × Int)) : Int × Int × Int → Option (Y105 × Int)
 | (v2, v3, v4) =>
 if (decide (v2 < (↑a0.2.2.length : Int))) = true then
  gd (ix v2 a0.2.2.length ∧ True) <| 
  gd (ix v2 a0.2.2.length ∧ True) <| 
  gd (in64 (v2 + 1) ∧ True) <| 
  g1 ((v2 + 1, min v3 (a0.2.2.getD v2.toNat 0), max v4 (a0.2.2.getD v2.toNat 0)))
 else
  u187J0 (v3, v4)
def u187 (a0 : Y96) : Option (Y105 × Int) :=
 gd ((u203 a0).isSome = true ∧ True) <| 
 if (!vl (u203 a0)) = true then
  some ((((0 : Int), (0 : Int)), (1 : Int)))
 else
  gd (ix 0 a0.2.2.length ∧ ix 0 a0.2.2.length ∧ True) <| 
  lp (u187L1 a0) ((1, a0.2.2.getD (Int.toNat (0 : Int)) (0 : Int), a0.2.2.getD (Int.toNat (0 : Int)) (0 : Int)))
def k187 : Ct := lct 187 [.agg y96] (fun x => u187 x.1) (fun r : Y105 × Int => AV.tup [AV.agg [I r.1.1, I r.1.2], I r.2]) (fun _ => ())
theorem o187 : Ok Tryz.prog k187 := by
 refine okl tok [.cell 2 105, .tmp 3] Tryz.func187 Tryz.ntmps187 rfl Tryz.results187 (by kernel_rfl) rfl ?_
 intro y ⟨a0, _⟩ r H Q hn hr
 have hT := tc o203 tn
 refine qa tok hT [1, 2] (St.mk [p 1 (AV.ptr 1 0), p 2 (AV.ptr 2 0)] [(2, Ob.box 105 [I 0, I 0]), (1, Ob.box 96 (cellsD false y96 a0))]) (by kernel_rfl) ?_
 refine vx_seq <| ?_
 refine qb tok hT [1, 2, 8] (St.mk [p 1 (AV.ptr 1 0), p 2 (AV.ptr 2 0), p 8 (B !vl (u203 a0))] [(2, Ob.box 105 [I 0, I 0]), (1, Ob.box 96 (cellsD false y96 a0))]) H (by kernel_rfl) fun H => ?_
 refine cd H (by kernel_rfl) (fun H => ?_) (fun H => ?_)
 ·refine qa tok hT [2, 3] (St.mk [p 2 (AV.ptr 2 0), p 3 (I 1)] [(2, Ob.box 105 [I 0, I 0]), (1, Ob.box 96 (cellsD false y96 a0))]) (by kernel_rfl) ?_
  exact vx_ret <| fx_seq_ret <| hr H (by kernel_rfl)
 refine vx_skip <| fx_seq <| ?_
 refine qb tok hT [1, 2, 4] (St.mk [p (1 : Nat) (AV.ptr (1 : Nat) (0 : Nat)), p (2 : Nat) (AV.ptr (2 : Nat) (0 : Nat)), p (4 : Nat) (AV.ptr (4 : Nat) (0 : Nat))] [((4 : Nat), Ob.box (nat_lit 105) [J (a0.2.2.getD (Int.toNat (0 : Int)) (0 : Int)), J (a0.2.2.getD (Int.toNat (0 : Int)) (0 : Int))]), ((2 : Nat), Ob.box (nat_lit 105) [I (0 : Int), I (0 : Int)]), ((1 : Nat), Ob.box (nat_lit 96) (cellsD false y96 a0))]) H (by kernel_rfl) fun H => ?_
 refine jn r (fun ((v5, v6) : Int × Int) => St.mk [p 2 (AV.ptr 2 0), p 4 (AV.ptr 4 0)] [(4, Ob.box 105 [J v5, J v6]), (2, Ob.box 105 [I 0, I 0])]) (u187J0) (fun ⟨v5, v6⟩ H => ?_) (fun _ n0 e0 t0 => ?_)
 ·refine qa tok hT [2, 3] (St.mk [p 2 (AV.ptr 2 0), p 3 (I 0)] [(2, Ob.box 105 [J v5, J v6]), (4, Ob.box 105 [J v5, J v6])]) (by kernel_rfl) ?_
  exact vx_ret <| hr H (by kernel_rfl)
 refine qa tok hT [1, 2, 4, 5] (St.mk [p (1 : Nat) (AV.ptr (1 : Nat) (0 : Nat)), p (2 : Nat) (AV.ptr (2 : Nat) (0 : Nat)), p (4 : Nat) (AV.ptr (4 : Nat) (0 : Nat)), p (5 : Nat) (I (1 : Int))] [((4 : Nat), Ob.box (nat_lit 105) [J (a0.2.2.getD (Int.toNat (0 : Int)) (0 : Int)), J (a0.2.2.getD (Int.toNat (0 : Int)) (0 : Int))]), ((2 : Nat), Ob.box (nat_lit 105) [I (0 : Int), I (0 : Int)]), ((1 : Nat), Ob.box (nat_lit 96) (cellsD false y96 a0))]) (by kernel_rfl) ?_
 refine vx_block <| ?_
 refine lx (fun ((v2, v3, v4) : Int × Int × Int) => St.mk [p 1 (AV.ptr 1 0), p 2 (AV.ptr 2 0), p 4 (AV.ptr 4 0), p 5 (I v2)] [(4, Ob.box 105 [J v3, J v4]), (2, Ob.box 105 [I 0, I 0]), (1, Ob.box 96 (cellsD false y96 a0))]) ((1, a0.2.2.getD (Int.toNat (0 : Int)) (0 : Int), a0.2.2.getD (Int.toNat (0 : Int)) (0 : Int))) H (by kernel_rfl) fun _ g1 b1 e1 t1 ⟨v2, v3, v4⟩ H => ?_
 refine vx_seq <| ?_
 refine qa tok hT [1, 2, 4, 5, 23] (St.mk [p 1 (AV.ptr 1 0), p 2 (AV.ptr 2 0), p 4 (AV.ptr 4 0), p 5 (I v2), p 23 (B (decide (v2 < (↑a0.2.2.length : Int))))] [(4, Ob.box 105 [J v3, J v4]), (2, Ob.box 105 [I 0, I 0]), (1, Ob.box 96 (cellsD false y96 a0))]) (by kernel_rfl) ?_
 refine cd H (by kernel_rfl) (fun H => ?_) (fun H => ?_)
 ·refine vx_skip <| fx_seq <| vx_seq <| vx_block <| ?_
  refine qb tok hT [1, 2, 4, 5] (St.mk [p 1 (AV.ptr 1 0), p 2 (AV.ptr 2 0), p 4 (AV.ptr 4 0), p 5 (I v2)] [(4, Ob.box 105 [I (min v3 (a0.2.2.getD v2.toNat 0)), J v4]), (2, Ob.box 105 [I 0, I 0]), (1, Ob.box 96 (cellsD false y96 a0))]) H (by kernel_rfl) fun H => ?_
  refine zb tok hT [1, 2, 4, 5] (St.mk [p 1 (AV.ptr 1 0), p 2 (AV.ptr 2 0), p 4 (AV.ptr 4 0), p 5 (I v2)] [(4, Ob.box 105 [I (min v3 (a0.2.2.getD v2.toNat 0)), I (max v4 (a0.2.2.getD v2.toNat 0))]), (2, Ob.box 105 [I 0, I 0]), (1, Ob.box 96 (cellsD false y96 a0))]) H (by kernel_rfl) fun H => ?_
  refine fx_blk <| fx_seq <| ?_
  refine zb tok hT [1, 2, 4, 5] (St.mk [p 1 (AV.ptr 1 0), p 2 (AV.ptr 2 0), p 4 (AV.ptr 4 0), p 5 (I (v2 + 1))] [(4, Ob.box 105 [I (min v3 (a0.2.2.getD v2.toNat 0)), I (max v4 (a0.2.2.getD v2.toNat 0))]), (2, Ob.box 105 [I 0, I 0]), (1, Ob.box 96 (cellsD false y96 a0))]) H (by kernel_rfl) fun H => ?_
  exact b1 H (by kernel_rfl)
 exact vx_exit <| fx_seq_exit <| e1 <| fx_blk_exit rfl <| n0 H (by kernel_rfl)
def u174J0 : Unit → Option (Bool)
 | _ =>
 some true
def u174L1 (a1 : Bool) (a0 : List Y96) (g1 : Int → Option (Bool)) : Int → Option (Bool)
 | v1 =>
 if (decide (v1 < 2)) = true then
  gd (ix v1 a0.length ∧ (u187 (a0.getD v1.toNat (dflt y96))).isSome = true ∧ True) <| lt (vl (u187 (a0.getD v1.toNat (dflt y96)))) fun v2 =>
  if (v2.2 != 0 || a1 && decide (v2.1.1 < 0)) = true then
   some false
  else
   gd (in64 (v1 + 1) ∧ True) <| 
   g1 (v1 + 1)
 else
  u174J0 ()
def u174 (a0 : List Y96) (a1 : Bool) : Option (Bool) :=
 if ((↑a0.length : Int) != 2) = true then
  some false
 else
  lp (u174L1 a1 a0) 0
def k174 : Ct := lct 174 [.dat y96.sl, .dat Ty.bool] (fun x => u174 x.1 x.2.1) (fun r : Bool => B r) (fun _ => ())
theorem o174 : Ok Tryz.prog k174 := by
 refine okl tok [.tmp 4] Tryz.func174 Tryz.ntmps174 rfl Tryz.results174 (by kernel_rfl) rfl ?_
 intro y ⟨a0, a1, _⟩ r H Q hn hr
 have hT := tc o187 tn
 refine qa tok hT [0, 1] (St.mk [p 0 (L y96 a0), p 1 (C a1)] []) (by kernel_rfl) ?_
 refine vx_seq <| ?_
 refine qa tok hT [0, 1, 10] (St.mk [p 0 (L y96 a0), p 1 (C a1), p 10 (B ((↑a0.length : Int) != 2))] []) (by kernel_rfl) ?_
 refine cd H (by kernel_rfl) (fun H => ?_) (fun H => ?_)
 ·refine qa tok hT [4] (St.mk [p 4 (B false)] []) (by kernel_rfl) ?_
  exact vx_ret <| fx_seq_ret <| hr H (by kernel_rfl)
 refine vx_skip <| fx_seq <| ?_
 refine jn r (fun (_ : Unit) => St.mk [] []) (u174J0) (fun _ H => ?_) (fun _ n0 e0 t0 => ?_)
 ·refine qa tok hT [4] (St.mk [p 4 (B true)] []) (by kernel_rfl) ?_
  exact vx_ret <| hr H (by kernel_rfl)
 refine qa tok hT [0, 1, 5] (St.mk [p 0 (L y96 a0), p 1 (C a1), p 5 (I 0)] []) (by kernel_rfl) ?_
 refine vx_block <| ?_
 refine lx (fun (v1 : Int) => St.mk [p 0 (L y96 a0), p 1 (C a1), p 5 (I v1)] []) 0 H (by kernel_rfl) fun _ g1 b1 e1 t1 v1 H => ?_
 refine vx_seq <| ?_
 refine qa tok hT [0, 1, 5, 12] (St.mk [p 0 (L y96 a0), p 1 (C a1), p 5 (I v1), p 12 (B (decide (v1 < 2)))] []) (by kernel_rfl) ?_
 refine cd H (by kernel_rfl) (fun H => ?_) (fun H => ?_)
 ·refine vx_skip <| fx_seq <| vx_seq <| vx_block <| ?_
  refine qd tok hT [0, 1, 5, 6, 7] (fun v2 => St.mk [p 0 (L y96 a0), p 1 (C a1), p 5 (I v1), p 6 (AV.ptr 6 0), p 7 (I v2.2)] [(6, Ob.box 105 (cellsD true y105 v2.1))]) H (by kernel_rfl) fun v2 H => ?_
  refine qa tok hT [0, 1, 5, 26, 27, 28, 29, 30, 31, 32] (St.mk [p 0 (L y96 a0), p 1 (C a1), p 5 (I v1), p 32 (B (v2.2 != 0 || a1 && decide (v2.1.1 < 0)))] [(6, Ob.box 105 (cellsD true y105 v2.1))]) (by kernel_rfl) ?_
  refine cd H (by kernel_rfl) (fun H => ?_) (fun H => ?_)
  ·refine qa tok hT [4] (St.mk [p 4 (B false)] [(6, Ob.box 105 (cellsD true y105 v2.1))]) (by kernel_rfl) ?_
   exact vx_ret <| fx_blk_ret <| fx_seq_ret <| t1 <| fx_blk_ret <| t0 <| hr H (by kernel_rfl)
  refine vx_skip <| fx_blk <| fx_seq <| ?_
  refine zb tok hT [0, 1, 5] (St.mk [p 0 (L y96 a0), p 1 (C a1), p 5 (I (v1 + 1))] [(6, Ob.box 105 (cellsD true y105 v2.1))]) H (by kernel_rfl) fun H => ?_
  exact b1 H (by kernel_rfl)
 exact vx_exit <| fx_seq_exit <| e1 <| fx_blk_exit rfl <| n0 H (by kernel_rfl)
def u160J1 (v0 : Y212) (a1 : Y89) (a0 : Y152) : Bool → Option (Bool)
 | v2 =>
 if v2 = true then
  gd (((v0.2.2.2 && decide (a1.2.2.1 < (↑a0.2.2.1.length : Int) - 1)) = true ∧ True → ix a1.2.2.1 a0.2.2.1.length) ∧ ((v0.2.2.2 && decide (a1.2.2.1 < (↑a0.2.2.1.length : Int) - 1) && !(a0.2.2.1.getD a1.2.2.1.toNat (dflt y212)).2.2.2 && a1.2.2.2.1 == 0) = true ∧ True → (u174 a1.2.2.2.2.1 false).isSome = true) ∧ True) <| 
  some (v0.2.2.2 && decide (a1.2.2.1 < (↑a0.2.2.1.length : Int) - 1) && !(a0.2.2.1.getD a1.2.2.1.toNat (dflt y212)).2.2.2 && a1.2.2.2.1 == 0 && vl (u174 a1.2.2.2.2.1 false) && (↑a1.2.2.2.2.2.length : Int) == 0)
 else
  some false
def u160J0 (v0 : Y212) (a1 : Y89) (a0 : Y152) : Bool → Option (Bool)
 | v1 =>
 if v1 = true then
  gd (((v0.2.2.2 && a1.2.2.1 == (↑a0.2.2.1.length : Int) - 1 && a1.2.2.2.1 == 0) = true ∧ True → (u174 a1.2.2.2.2.1 true).isSome = true) ∧ ((v0.2.2.2 && a1.2.2.1 == (↑a0.2.2.1.length : Int) - 1 && a1.2.2.2.1 == 0 && vl (u174 a1.2.2.2.2.1 true)) = true ∧ True → (u174 a1.2.2.2.2.2 true).isSome = true) ∧ True) <| 
  some (v0.2.2.2 && a1.2.2.1 == (↑a0.2.2.1.length : Int) - 1 && a1.2.2.2.1 == 0 && vl (u174 a1.2.2.2.2.1 true) && vl (u174 a1.2.2.2.2.2 true))
 else
  if (a1.1 == 4) = true then
   u160J1 v0 a1 a0 (a1.1 == 4)
  else
   u160J1 v0 a1 a0 (a1.1 == 5)
def u160 (a0 : Y152) (a1 : Y89) : Option (Bool) :=
 gd (in64 ((↑a0.2.2.1.length : Int) - 1) ∧ True) <| 
 gd (in64 ((↑a0.2.2.1.length : Int) - 1 - 1) ∧ (u42 a1.2.1 0 ((↑a0.2.2.1.length : Int) - 1 - 1)).isSome = true ∧ ((!vl (u42 a1.2.1 0 ((↑a0.2.2.1.length : Int) - 1 - 1))) = false ∧ True → (u42 a1.2.2.1 0 ((↑a0.2.2.1.length : Int) - 1)).isSome = true) ∧ True) <| 
 if (!vl (u42 a1.2.1 0 ((↑a0.2.2.1.length : Int) - 1 - 1)) || !vl (u42 a1.2.2.1 0 ((↑a0.2.2.1.length : Int) - 1))) = true then
  some false
 else
  gd (ix a1.2.1 a0.2.2.1.length ∧ True) <| lt (a0.2.2.1.getD a1.2.1.toNat (dflt y212)) fun v0 =>
  if (a1.1 == 1) = true then
   gd (((!v0.2.2.2 && a1.2.2.1 == (↑a0.2.2.1.length : Int) - 1) = true ∧ True → (u42 a1.2.2.2.1 1 3).isSome = true) ∧ ((!v0.2.2.2 && a1.2.2.1 == (↑a0.2.2.1.length : Int) - 1 && vl (u42 a1.2.2.2.1 1 3)) = true ∧ True → (u174 a1.2.2.2.2.1 true).isSome = true) ∧ ((!v0.2.2.2 && a1.2.2.1 == (↑a0.2.2.1.length : Int) - 1 && vl (u42 a1.2.2.2.1 1 3) && vl (u174 a1.2.2.2.2.1 true)) = true ∧ True → (u174 a1.2.2.2.2.2 true).isSome = true) ∧ True) <| 
   some (!v0.2.2.2 && a1.2.2.1 == (↑a0.2.2.1.length : Int) - 1 && vl (u42 a1.2.2.2.1 1 3) && vl (u174 a1.2.2.2.2.1 true) && vl (u174 a1.2.2.2.2.2 true))
  else
   if (a1.1 == 2) = true then
    u160J0 v0 a1 a0 (a1.1 == 2)
   else
    u160J0 v0 a1 a0 (a1.1 == 3)
def k160 : Ct := lct 160 [.agg y152, .agg y89] (fun x => u160 x.1 x.2.1) (fun r : Bool => B r) (fun _ => ())
theorem o160 : Ok Tryz.prog k160 := by
 refine okl tok [.tmp 4] Tryz.func160 Tryz.ntmps160 rfl Tryz.results160 (by kernel_rfl) rfl ?_
 intro y ⟨a0, a1, _⟩ r H Q hn hr
 have hT := tc o174 (tc o42 tn)
 refine qa tok hT [2, 3] (St.mk [p 2 (AV.ptr 2 0), p 3 (AV.ptr 3 0)] [(3, Ob.box 89 (cellsD false y89 a1)), (2, Ob.box 152 (cellsD false y152 a0))]) (by kernel_rfl) ?_
 refine qb tok hT [2, 3, 5] (St.mk [p 2 (AV.ptr 2 0), p 3 (AV.ptr 3 0), p 5 (I ((↑a0.2.2.1.length : Int) - 1))] [(3, Ob.box 89 (cellsD false y89 a1)), (2, Ob.box 152 (cellsD false y152 a0))]) H (by kernel_rfl) fun H => ?_
 refine vx_seq <| ?_
 refine qb tok hT [2, 3, 5, 23] (St.mk [p 2 (AV.ptr 2 0), p 3 (AV.ptr 3 0), p 5 (I ((↑a0.2.2.1.length : Int) - 1)), p 23 (B (!vl (u42 a1.2.1 0 ((↑a0.2.2.1.length : Int) - 1 - 1)) || !vl (u42 a1.2.2.1 0 ((↑a0.2.2.1.length : Int) - 1))))] [(3, Ob.box 89 (cellsD false y89 a1)), (2, Ob.box 152 (cellsD false y152 a0))]) H (by kernel_rfl) fun H => ?_
 refine cd H (by kernel_rfl) (fun H => ?_) (fun H => ?_)
 ·refine qa tok hT [4] (St.mk [p 4 (B false)] [(3, Ob.box 89 (cellsD false y89 a1)), (2, Ob.box 152 (cellsD false y152 a0))]) (by kernel_rfl) ?_
  exact vx_ret <| fx_seq_ret <| hr H (by kernel_rfl)
 refine vx_skip <| fx_seq <| ?_
 refine qd tok hT [2, 3, 5, 6] (fun v0 => St.mk [p 2 (AV.ptr 2 0), p 3 (AV.ptr 3 0), p 5 (I ((↑a0.2.2.1.length : Int) - 1)), p 6 (C v0.2.2.2)] [(3, Ob.box 89 (cellsD false y89 a1)), (2, Ob.box 152 (cellsD false y152 a0))]) H (by kernel_rfl) fun v0 H => ?_
 refine vx_seq <| ?_
 refine qa tok hT [2, 3, 5, 6, 32] (St.mk [p 2 (AV.ptr 2 0), p 3 (AV.ptr 3 0), p 5 (I ((↑a0.2.2.1.length : Int) - 1)), p 6 (C v0.2.2.2), p 32 (J a1.1)] [(3, Ob.box 89 (cellsD false y89 a1)), (2, Ob.box 152 (cellsD false y152 a0))]) (by kernel_rfl) ?_
 refine vx_block <| ?_
 refine qa tok hT [2, 3, 5, 6, 32, 33] (St.mk [p 2 (AV.ptr 2 0), p 3 (AV.ptr 3 0), p 5 (I ((↑a0.2.2.1.length : Int) - 1)), p 6 (C v0.2.2.2), p 32 (J a1.1), p 33 (B (a1.1 == 1))] [(3, Ob.box 89 (cellsD false y89 a1)), (2, Ob.box 152 (cellsD false y152 a0))]) (by kernel_rfl) ?_
 refine cd H (by kernel_rfl) (fun H => ?_) (fun H => ?_)
 ·refine qb tok hT [4] (St.mk [p 4 (B (!v0.2.2.2 && a1.2.2.1 == (↑a0.2.2.1.length : Int) - 1 && vl (u42 a1.2.2.2.1 1 3) && vl (u174 a1.2.2.2.2.1 true) && vl (u174 a1.2.2.2.2.2 true)))] [(3, Ob.box 89 (cellsD false y89 a1)), (2, Ob.box 152 (cellsD false y152 a0))]) H (by kernel_rfl) fun H => ?_
  exact vx_ret <| fx_blk_ret <| fx_seq_ret <| hr H (by kernel_rfl)
 refine jn r (fun (v1 : Bool) => St.mk [p 2 (AV.ptr 2 0), p 3 (AV.ptr 3 0), p 5 (I ((↑a0.2.2.1.length : Int) - 1)), p 6 (C v0.2.2.2), p 32 (J a1.1), p 58 (B v1)] [(3, Ob.box 89 (cellsD false y89 a1)), (2, Ob.box 152 (cellsD false y152 a0))]) (u160J0 v0 a1 a0) (fun v1 H => ?_) (fun _ n0 e0 t0 => ?_)
 ·refine cd H (by kernel_rfl) (fun H => ?_) (fun H => ?_)
  ·refine qb tok hT [4] (St.mk [p 4 (B (v0.2.2.2 && a1.2.2.1 == (↑a0.2.2.1.length : Int) - 1 && a1.2.2.2.1 == 0 && vl (u174 a1.2.2.2.2.1 true) && vl (u174 a1.2.2.2.2.2 true)))] [(3, Ob.box 89 (cellsD false y89 a1)), (2, Ob.box 152 (cellsD false y152 a0))]) H (by kernel_rfl) fun H => ?_
   exact vx_ret <| fx_blk_ret <| fx_seq_ret <| hr H (by kernel_rfl)
  refine jn r (fun (v2 : Bool) => St.mk [p 2 (AV.ptr 2 0), p 3 (AV.ptr 3 0), p 5 (I ((↑a0.2.2.1.length : Int) - 1)), p 6 (C v0.2.2.2), p 83 (B v2)] [(3, Ob.box 89 (cellsD false y89 a1)), (2, Ob.box 152 (cellsD false y152 a0))]) (u160J1 v0 a1 a0) (fun v2 H => ?_) (fun _ n1 e1 t1 => ?_)
  ·refine cd H (by kernel_rfl) (fun H => ?_) (fun H => ?_)
   ·refine qb tok hT [4] (St.mk [p 4 (B (v0.2.2.2 && decide (a1.2.2.1 < (↑a0.2.2.1.length : Int) - 1) && !(a0.2.2.1.getD a1.2.2.1.toNat (dflt y212)).2.2.2 && a1.2.2.2.1 == 0 && vl (u174 a1.2.2.2.2.1 false) && (↑a1.2.2.2.2.2.length : Int) == 0))] [(3, Ob.box 89 (cellsD false y89 a1)), (2, Ob.box 152 (cellsD false y152 a0))]) H (by kernel_rfl) fun H => ?_
    exact vx_ret <| fx_blk_ret <| fx_seq_ret <| hr H (by kernel_rfl)
   refine vx_skip <| fx_blk <| fx_seq <| ?_
   refine qa tok hT [4] (St.mk [p 4 (B false)] [(3, Ob.box 89 (cellsD false y89 a1)), (2, Ob.box 152 (cellsD false y152 a0))]) (by kernel_rfl) ?_
   exact vx_ret <| hr H (by kernel_rfl)
  refine qa tok hT [2, 3, 5, 6, 32, 83] (St.mk [p 2 (AV.ptr 2 0), p 3 (AV.ptr 3 0), p 5 (I ((↑a0.2.2.1.length : Int) - 1)), p 6 (C v0.2.2.2), p 32 (J a1.1), p 83 (B (a1.1 == 4))] [(3, Ob.box 89 (cellsD false y89 a1)), (2, Ob.box 152 (cellsD false y152 a0))]) (by kernel_rfl) ?_
  refine cd H (by kernel_rfl) (fun H => ?_) (fun H => ?_)
  ·exact vx_skip <| n1 H (by kernel_rfl)
  refine za tok hT [2, 3, 5, 6, 83] (St.mk [p 2 (AV.ptr 2 0), p 3 (AV.ptr 3 0), p 5 (I ((↑a0.2.2.1.length : Int) - 1)), p 6 (C v0.2.2.2), p 83 (B (a1.1 == 5))] [(3, Ob.box 89 (cellsD false y89 a1)), (2, Ob.box 152 (cellsD false y152 a0))]) (by kernel_rfl) ?_
  exact n1 H (by kernel_rfl)
 refine qa tok hT [2, 3, 5, 6, 32, 58] (St.mk [p 2 (AV.ptr 2 0), p 3 (AV.ptr 3 0), p 5 (I ((↑a0.2.2.1.length : Int) - 1)), p 6 (C v0.2.2.2), p 32 (J a1.1), p 58 (B (a1.1 == 2))] [(3, Ob.box 89 (cellsD false y89 a1)), (2, Ob.box 152 (cellsD false y152 a0))]) (by kernel_rfl) ?_
 refine cd H (by kernel_rfl) (fun H => ?_) (fun H => ?_)
 ·exact vx_skip <| n0 H (by kernel_rfl)
 refine za tok hT [2, 3, 5, 6, 32, 58] (St.mk [p 2 (AV.ptr 2 0), p 3 (AV.ptr 3 0), p 5 (I ((↑a0.2.2.1.length : Int) - 1)), p 6 (C v0.2.2.2), p 32 (J a1.1), p 58 (B (a1.1 == 3))] [(3, Ob.box 89 (cellsD false y89 a1)), (2, Ob.box 152 (cellsD false y152 a0))]) (by kernel_rfl) ?_
 exact n0 H (by kernel_rfl)
def u159J0 : Int → Option (Int × Bool)
 | v8 =>
 some (v8, true)
def u159J2 (v4 : Int) (g1 : Int × Int → Option (Int × Bool)) : Int → Option (Int × Bool)
 | v7 =>
 gd (in64 (v4 + 1) ∧ True) <| 
 g1 (v7, v4 + 1)
def u159J3 (v4 : Int) (v3 : Int) (v5 : Y212) (a0 : Y152) (g1 : Int × Int → Option (Int × Bool)) : Unit → Option (Int × Bool)
 | _ =>
 gd ((u142 v5.1).isSome = true ∧ ((!vl (u142 v5.1)) = false ∧ True → (u42 v5.2.2.1 0 500).isSome = true) ∧ True) <| 
 if (!vl (u142 v5.1) || !vl (u42 v5.2.2.1 0 500)) = true then
  some (((0 : Int), false))
 else
  gd (in64 ((↑a0.2.2.1.length : Int) - 1) ∧ ((v4 == (↑a0.2.2.1.length : Int) - 1 && (v5.2.1 != 2 || v5.2.2.1 != 0 || v5.2.2.2)) = false ∧ True → in64 ((↑a0.2.2.1.length : Int) - 1)) ∧ True) <| 
  if (v4 == (↑a0.2.2.1.length : Int) - 1 && (v5.2.1 != 2 || v5.2.2.1 != 0 || v5.2.2.2) || decide (v4 < (↑a0.2.2.1.length : Int) - 1) && v5.2.1 != 1) = true then
   some (((0 : Int), false))
  else
   if v5.2.2.2 = true then
    gd (in64 (v3 + 1) ∧ True) <| 
    u159J2 v4 g1 (v3 + 1)
   else
    u159J2 v4 g1 v3
def u159L4 (a0 : Y152) (v5 : Y212) (v4 : Int) (v3 : Int) (g1 : Int × Int → Option (Int × Bool)) (g4 : Int → Option (Int × Bool)) : Int → Option (Int × Bool)
 | v6 =>
 if (decide (v6 < v4)) = true then
  gd (ix v6 a0.2.2.1.length ∧ True) <| 
  if (decide ((a0.2.2.1.getD v6.toNat (dflt y212)).1 = v5.1)) = true then
   some (((0 : Int), false))
  else
   gd (in64 (v6 + 1) ∧ True) <| 
   g4 (v6 + 1)
 else
  u159J3 v4 v3 v5 a0 g1 ()
def u159L1 (a0 : Y152) (g1 : Int × Int → Option (Int × Bool)) : Int × Int → Option (Int × Bool)
 | (v3, v4) =>
 if (decide (v4 < (↑a0.2.2.1.length : Int))) = true then
  gd (ix v4 a0.2.2.1.length ∧ True) <| lt (a0.2.2.1.getD v4.toNat (dflt y212)) fun v5 =>
  lp (u159L4 a0 v5 v4 v3 g1) 0
 else
  u159J0 v3
def u159 (a0 : Y152) : Option (Int × Bool) :=
 if (decide ((↑a0.2.2.1.length : Int) < 2) || decide (5 < (↑a0.2.2.1.length : Int))) = true then
  some (((0 : Int), false))
 else
  lp (u159L1 a0) (0, 0)
def k159 : Ct := lct 159 [.agg y152] (fun x => u159 x.1) (fun r : Int × Bool => AV.tup [I r.1, B r.2]) (fun _ => ())
theorem o159 : Ok Tryz.prog k159 := by
 refine okl tok [.tmp 2, .tmp 3] Tryz.func159 Tryz.ntmps159 rfl Tryz.results159 (by kernel_rfl) rfl ?_
 intro y ⟨a0, _⟩ r H Q hn hr
 have hT := tc o42 (tc o142 tn)
 refine qa tok hT [1] (St.mk [p 1 (AV.ptr 1 0)] [(1, Ob.box 152 (cellsD false y152 a0))]) (by kernel_rfl) ?_
 refine qa tok hT [1, 4] (St.mk [p 1 (AV.ptr 1 0), p 4 (I (↑a0.2.2.1.length : Int))] [(1, Ob.box 152 (cellsD false y152 a0))]) (by kernel_rfl) ?_
 refine vx_seq <| ?_
 refine qa tok hT [1, 4, 17] (St.mk [p 1 (AV.ptr 1 0), p 4 (I (↑a0.2.2.1.length : Int)), p 17 (B (decide ((↑a0.2.2.1.length : Int) < 2) || decide (5 < (↑a0.2.2.1.length : Int))))] [(1, Ob.box 152 (cellsD false y152 a0))]) (by kernel_rfl) ?_
 refine cd H (by kernel_rfl) (fun H => ?_) (fun H => ?_)
 ·refine qa tok hT [2, 3] (St.mk [p 2 (I 0), p 3 (B false)] [(1, Ob.box 152 (cellsD false y152 a0))]) (by kernel_rfl) ?_
  exact vx_ret <| fx_seq_ret <| hr H (by kernel_rfl)
 refine vx_skip <| fx_seq <| ?_
 refine qa tok hT [1, 4, 5] (St.mk [p 1 (AV.ptr 1 0), p 4 (I (↑a0.2.2.1.length : Int)), p 5 (I 0)] [(1, Ob.box 152 (cellsD false y152 a0))]) (by kernel_rfl) ?_
 refine jn r (fun (v8 : Int) => St.mk [p 5 (I v8)] []) (u159J0) (fun v8 H => ?_) (fun _ n0 e0 t0 => ?_)
 ·refine qa tok hT [2, 3] (St.mk [p 2 (I v8), p 3 (B true)] []) (by kernel_rfl) ?_
  exact vx_ret <| hr H (by kernel_rfl)
 refine qa tok hT [1, 4, 5, 6] (St.mk [p 1 (AV.ptr 1 0), p 4 (I (↑a0.2.2.1.length : Int)), p 5 (I 0), p 6 (I 0)] [(1, Ob.box 152 (cellsD false y152 a0))]) (by kernel_rfl) ?_
 refine vx_block <| ?_
 refine lx (fun ((v3, v4) : Int × Int) => St.mk [p 1 (AV.ptr 1 0), p 4 (I (↑a0.2.2.1.length : Int)), p 5 (I v3), p 6 (I v4)] [(1, Ob.box 152 (cellsD false y152 a0))]) (0, 0) H (by kernel_rfl) fun _ g1 b1 e1 t1 ⟨v3, v4⟩ H => ?_
 refine vx_seq <| ?_
 refine qa tok hT [1, 4, 5, 6, 20] (St.mk [p 1 (AV.ptr 1 0), p 4 (I (↑a0.2.2.1.length : Int)), p 5 (I v3), p 6 (I v4), p 20 (B (decide (v4 < (↑a0.2.2.1.length : Int))))] [(1, Ob.box 152 (cellsD false y152 a0))]) (by kernel_rfl) ?_
 refine cd H (by kernel_rfl) (fun H => ?_) (fun H => ?_)
 ·refine vx_skip <| fx_seq <| ?_
  refine jn r (fun (v7 : Int) => St.mk [p 1 (AV.ptr 1 0), p 4 (I (↑a0.2.2.1.length : Int)), p 5 (I v7), p 6 (I v4)] [(1, Ob.box 152 (cellsD false y152 a0))]) (u159J2 v4 g1) (fun v7 H => ?_) (fun _ n2 e2 t2 => ?_)
  ·refine zb tok hT [1, 4, 5, 6] (St.mk [p 1 (AV.ptr 1 0), p 4 (I (↑a0.2.2.1.length : Int)), p 5 (I v7), p 6 (I (v4 + 1))] [(1, Ob.box 152 (cellsD false y152 a0))]) H (by kernel_rfl) fun H => ?_
   exact b1 H (by kernel_rfl)
  refine vx_block <| ?_
  refine qd tok hT [1, 4, 5, 6, 7] (fun v5 => St.mk [p 1 (AV.ptr 1 0), p 4 (I (↑a0.2.2.1.length : Int)), p 5 (I v3), p 6 (I v4), p 7 (AV.ptr 7 0)] [(7, Ob.box 212 (cellsD false y212 v5)), (1, Ob.box 152 (cellsD false y152 a0))]) H (by kernel_rfl) fun v5 H => ?_
  refine jn r (fun (_ : Unit) => St.mk [p 1 (AV.ptr 1 0), p 4 (I (↑a0.2.2.1.length : Int)), p 5 (I v3), p 6 (I v4), p 7 (AV.ptr 7 0)] [(7, Ob.box 212 (cellsD false y212 v5)), (1, Ob.box 152 (cellsD false y152 a0))]) (u159J3 v4 v3 v5 a0 g1) (fun _ H => ?_) (fun _ n3 e3 t3 => ?_)
  ·refine vx_seq <| ?_
   refine qb tok hT [1, 4, 5, 6, 7, 47, 48, 49, 50, 51] (St.mk [p 1 (AV.ptr 1 0), p 4 (I (↑a0.2.2.1.length : Int)), p 5 (I v3), p 6 (I v4), p 7 (AV.ptr 7 0), p 51 (B (!vl (u142 v5.1) || !vl (u42 v5.2.2.1 0 500)))] [(7, Ob.box 212 (cellsD false y212 v5)), (1, Ob.box 152 (cellsD false y152 a0))]) H (by kernel_rfl) fun H => ?_
   refine cd H (by kernel_rfl) (fun H => ?_) (fun H => ?_)
   ·refine qa tok hT [2, 3] (St.mk [p 2 (I 0), p 3 (B false)] [(7, Ob.box 212 (cellsD false y212 v5)), (1, Ob.box 152 (cellsD false y152 a0))]) (by kernel_rfl) ?_
    exact vx_ret <| fx_seq_ret <| fx_blk_ret <| t2 <| t1 <| fx_blk_ret <| t0 <| hr H (by kernel_rfl)
   refine vx_skip <| fx_seq <| vx_seq <| ?_
   refine qb tok hT [1, 4, 5, 6, 7, 57, 58, 59, 60, 61, 62, 63, 64, 65, 66, 67, 68, 71, 72, 73, 74, 75, 76, 77, 78, 79, 80] (St.mk [p 1 (AV.ptr 1 0), p 4 (I (↑a0.2.2.1.length : Int)), p 5 (I v3), p 6 (I v4), p 7 (AV.ptr 7 0), p 80 (B (v4 == (↑a0.2.2.1.length : Int) - 1 && (v5.2.1 != 2 || v5.2.2.1 != 0 || v5.2.2.2) || decide (v4 < (↑a0.2.2.1.length : Int) - 1) && v5.2.1 != 1))] [(7, Ob.box 212 (cellsD false y212 v5)), (1, Ob.box 152 (cellsD false y152 a0))]) H (by kernel_rfl) fun H => ?_
   refine cd H (by kernel_rfl) (fun H => ?_) (fun H => ?_)
   ·refine qa tok hT [2, 3] (St.mk [p 2 (I 0), p 3 (B false)] [(7, Ob.box 212 (cellsD false y212 v5)), (1, Ob.box 152 (cellsD false y152 a0))]) (by kernel_rfl) ?_
    exact vx_ret <| fx_seq_ret <| fx_blk_ret <| t2 <| t1 <| fx_blk_ret <| t0 <| hr H (by kernel_rfl)
   refine vx_skip <| fx_seq <| ?_
   refine qa tok hT [1, 4, 5, 6, 82] (St.mk [p 1 (AV.ptr 1 0), p 4 (I (↑a0.2.2.1.length : Int)), p 5 (I v3), p 6 (I v4), p 82 (C v5.2.2.2)] [(7, Ob.box 212 (cellsD false y212 v5)), (1, Ob.box 152 (cellsD false y152 a0))]) (by kernel_rfl) ?_
   refine cd H (by kernel_rfl) (fun H => ?_) (fun H => ?_)
   ·refine zb tok hT [1, 4, 5, 6] (St.mk [p 1 (AV.ptr 1 0), p 4 (I (↑a0.2.2.1.length : Int)), p 5 (I (v3 + 1)), p 6 (I v4)] [(7, Ob.box 212 (cellsD false y212 v5)), (1, Ob.box 152 (cellsD false y152 a0))]) H (by kernel_rfl) fun H => ?_
    exact fx_blk <| n2 H (by kernel_rfl)
   exact vx_skip <| fx_blk <| n2 H (by kernel_rfl)
  refine qa tok hT [1, 4, 5, 6, 7, 8] (St.mk [p 1 (AV.ptr 1 0), p 4 (I (↑a0.2.2.1.length : Int)), p 5 (I v3), p 6 (I v4), p 7 (AV.ptr 7 0), p 8 (I 0)] [(7, Ob.box 212 (cellsD false y212 v5)), (1, Ob.box 152 (cellsD false y152 a0))]) (by kernel_rfl) ?_
  refine vx_block <| ?_
  refine lx (fun (v6 : Int) => St.mk [p 1 (AV.ptr 1 0), p 4 (I (↑a0.2.2.1.length : Int)), p 5 (I v3), p 6 (I v4), p 7 (AV.ptr 7 0), p 8 (I v6)] [(7, Ob.box 212 (cellsD false y212 v5)), (1, Ob.box 152 (cellsD false y152 a0))]) 0 H (by kernel_rfl) fun _ g4 b4 e4 t4 v6 H => ?_
  refine vx_seq <| ?_
  refine qa tok hT [1, 4, 5, 6, 7, 8, 30] (St.mk [p 1 (AV.ptr 1 0), p 4 (I (↑a0.2.2.1.length : Int)), p 5 (I v3), p 6 (I v4), p 7 (AV.ptr 7 0), p 8 (I v6), p 30 (B (decide (v6 < v4)))] [(7, Ob.box 212 (cellsD false y212 v5)), (1, Ob.box 152 (cellsD false y152 a0))]) (by kernel_rfl) ?_
  refine cd H (by kernel_rfl) (fun H => ?_) (fun H => ?_)
  ·refine vx_skip <| fx_seq <| vx_seq <| vx_block <| ?_
   refine qb tok hT [1, 4, 5, 6, 7, 8, 41] (St.mk [p 1 (AV.ptr 1 0), p 4 (I (↑a0.2.2.1.length : Int)), p 5 (I v3), p 6 (I v4), p 7 (AV.ptr 7 0), p 8 (I v6), p 41 (B (decide ((a0.2.2.1.getD v6.toNat (dflt y212)).1 = v5.1)))] [(7, Ob.box 212 (cellsD false y212 v5)), (1, Ob.box 152 (cellsD false y152 a0))]) H (by kernel_rfl) fun H => ?_
   refine cd H (by kernel_rfl) (fun H => ?_) (fun H => ?_)
   ·refine qa tok hT [2, 3] (St.mk [p 2 (I 0), p 3 (B false)] [(7, Ob.box 212 (cellsD false y212 v5)), (1, Ob.box 152 (cellsD false y152 a0))]) (by kernel_rfl) ?_
    exact vx_ret <| fx_blk_ret <| fx_seq_ret <| t4 <| fx_blk_ret <| t3 <| fx_blk_ret <| t2 <| t1 <| fx_blk_ret <| t0 <| hr H (by kernel_rfl)
   refine vx_skip <| fx_blk <| fx_seq <| ?_
   refine zb tok hT [1, 4, 5, 6, 7, 8] (St.mk [p 1 (AV.ptr 1 0), p 4 (I (↑a0.2.2.1.length : Int)), p 5 (I v3), p 6 (I v4), p 7 (AV.ptr 7 0), p 8 (I (v6 + 1))] [(7, Ob.box 212 (cellsD false y212 v5)), (1, Ob.box 152 (cellsD false y152 a0))]) H (by kernel_rfl) fun H => ?_
   exact b4 H (by kernel_rfl)
  exact vx_exit <| fx_seq_exit <| e4 <| fx_blk_exit rfl <| n3 H (by kernel_rfl)
 exact vx_exit <| fx_seq_exit <| e1 <| fx_blk_exit rfl <| n0 H (by kernel_rfl)
def u141J4 : Unit → Option (Bool)
 | _ =>
 some false
def u141J5 (v0 : Int × Bool) (a0 : Y152) : Unit → Option (Bool)
 | _ =>
 gd (((v0.1 == 0) = true ∧ True → in64 ((↑a0.2.2.1.length : Int) - 1)) ∧ ((v0.1 == 0) = true ∧ True → 0 ≤ (↑a0.2.2.1.length : Int) - 1 ∧ (↑a0.2.2.1.length : Int) - 1 ≤ 18446744073709551615) ∧ ((v0.1 == 0) = true ∧ True → (0 ≤ (↑a0.2.2.1.length : Int) - 1 ∧ (↑a0.2.2.1.length : Int) - 1 ≤ 62) ∧ in64 (1 * 2 ^ ((↑a0.2.2.1.length : Int) - 1).toNat)) ∧ True) <| 
 some (v0.1 == 0 && (↑a0.2.2.2.2.1.length : Int) == 1 * 2 ^ ((↑a0.2.2.1.length : Int) - 1).toNat)
def u141L6 (a0 : Y152) (v0 : Int × Bool) (g6 : Int → Option (Bool)) : Int → Option (Bool)
 | v7 =>
 if (decide (v7 < (↑a0.2.2.2.2.1.length : Int))) = true then
  gd (ix v7 a0.2.2.2.2.1.length ∧ (u42 (a0.2.2.2.2.1.getD v7.toNat 0) 0 1).isSome = true ∧ True) <| 
  if (!vl (u42 (a0.2.2.2.2.1.getD v7.toNat 0) 0 1)) = true then
   some false
  else
   gd (in64 (v7 + 1) ∧ True) <| 
   g6 (v7 + 1)
 else
  u141J5 v0 a0 ()
def u141J0 (a0 : Y152) (v0 : Int × Bool) : Unit → Option (Bool)
 | _ =>
 gd ((u161 a0).isSome = true ∧ True) <| lt (vl (u161 a0)) fun v6 =>
 if (a0.2.1 == 1) = true then
  lp (u141L6 a0 v0) 0
 else
  if (a0.2.1 == 2) = true then
   gd (((v0.1 == (1 : Int)) = true ∧ True → ix (1 : Int) v6.length) ∧ ((v0.1 == (1 : Int)) = true ∧ True → Int.toNat (1 : Int) < v6.length) ∧ ((v0.1 == (1 : Int) && v6.getD (Int.toNat (1 : Int)) (0 : Int) == (0 : Int)) = true ∧ True → ix (2 : Int) v6.length) ∧ ((v0.1 == (1 : Int) && v6.getD (Int.toNat (1 : Int)) (0 : Int) == (0 : Int)) = true ∧ True → Int.toNat (2 : Int) < v6.length) ∧ ((v0.1 == (1 : Int) && v6.getD (Int.toNat (1 : Int)) (0 : Int) == (0 : Int)) = true ∧ True → ix (3 : Int) v6.length) ∧ ((v0.1 == (1 : Int) && v6.getD (Int.toNat (1 : Int)) (0 : Int) == (0 : Int)) = true ∧ True → Int.toNat (3 : Int) < v6.length) ∧ True) <| 
   some (v0.1 == (1 : Int) && v6.getD (Int.toNat (1 : Int)) (0 : Int) == (0 : Int) && !decide ((0 : Int) < v6.getD (Int.toNat (2 : Int)) (0 : Int)) == decide ((0 : Int) < v6.getD (Int.toNat (3 : Int)) (0 : Int)) && (↑a0.2.2.2.2.1.length : Int) == (0 : Int))
  else
   if (a0.2.1 == 3) = true then
    gd (((v0.1 == (1 : Int)) = true ∧ True → ix (1 : Int) v6.length) ∧ ((v0.1 == (1 : Int)) = true ∧ True → Int.toNat (1 : Int) < v6.length) ∧ ((v0.1 == (1 : Int) && decide ((0 : Int) < v6.getD (Int.toNat (1 : Int)) (0 : Int))) = true ∧ True → ix (2 : Int) v6.length) ∧ ((v0.1 == (1 : Int) && decide ((0 : Int) < v6.getD (Int.toNat (1 : Int)) (0 : Int))) = true ∧ True → Int.toNat (2 : Int) < v6.length) ∧ ((v0.1 == (1 : Int) && decide ((0 : Int) < v6.getD (Int.toNat (1 : Int)) (0 : Int)) && decide ((0 : Int) < v6.getD (Int.toNat (2 : Int)) (0 : Int))) = true ∧ True → ix (3 : Int) v6.length) ∧ ((v0.1 == (1 : Int) && decide ((0 : Int) < v6.getD (Int.toNat (1 : Int)) (0 : Int)) && decide ((0 : Int) < v6.getD (Int.toNat (2 : Int)) (0 : Int))) = true ∧ True → Int.toNat (3 : Int) < v6.length) ∧ True) <| 
    some (v0.1 == (1 : Int) && decide ((0 : Int) < v6.getD (Int.toNat (1 : Int)) (0 : Int)) && decide ((0 : Int) < v6.getD (Int.toNat (2 : Int)) (0 : Int)) && v6.getD (Int.toNat (3 : Int)) (0 : Int) == (0 : Int) && (↑a0.2.2.2.2.1.length : Int) == (0 : Int))
   else
    u141J4 ()
def u141J2 (v3 : Int) (g1 : Int → Option (Bool)) : Unit → Option (Bool)
 | _ =>
 gd (in64 (v3 + 1) ∧ True) <| 
 g1 (v3 + 1)
def u141L3 (a0 : Y152) (v4 : Y89) (v3 : Int) (g1 : Int → Option (Bool)) (g3 : Int → Option (Bool)) : Int → Option (Bool)
 | v5 =>
 if (decide (v5 < v3)) = true then
  gd (ix v5 a0.2.2.2.1.length ∧ (((a0.2.2.2.1.getD v5.toNat (dflt y89)).1 == v4.1) = true ∧ True → ix v5 a0.2.2.2.1.length) ∧ (((a0.2.2.2.1.getD v5.toNat (dflt y89)).1 == v4.1 && (a0.2.2.2.1.getD v5.toNat (dflt y89)).2.1 == v4.2.1) = true ∧ True → ix v5 a0.2.2.2.1.length) ∧ True) <| 
  if ((a0.2.2.2.1.getD v5.toNat (dflt y89)).1 == v4.1 && (a0.2.2.2.1.getD v5.toNat (dflt y89)).2.1 == v4.2.1 && (a0.2.2.2.1.getD v5.toNat (dflt y89)).2.2.1 == v4.2.2.1) = true then
   some false
  else
   gd (in64 (v5 + 1) ∧ True) <| 
   g3 (v5 + 1)
 else
  u141J2 v3 g1 ()
def u141L1 (a0 : Y152) (v0 : Int × Bool) (g1 : Int → Option (Bool)) : Int → Option (Bool)
 | v3 =>
 if (decide (v3 < (↑a0.2.2.2.1.length : Int))) = true then
  gd (ix v3 a0.2.2.2.1.length ∧ True) <| lt (a0.2.2.2.1.getD v3.toNat (dflt y89)) fun v4 =>
  gd ((u160 a0 v4).isSome = true ∧ True) <| 
  if (!vl (u160 a0 v4)) = true then
   some false
  else
   lp (u141L3 a0 v4 v3 g1) 0
 else
  u141J0 a0 v0 ()
def u141 (a0 : Y152) : Option (Bool) :=
 gd ((u159 a0).isSome = true ∧ True) <| lt (vl (u159 a0)) fun v0 =>
 gd (((!v0.2) = false ∧ True → (u142 a0.1).isSome = true) ∧ ((!v0.2 || !vl (u142 a0.1) || decide (8 < (↑a0.2.2.2.1.length : Int))) = false ∧ True → (u42 a0.2.2.2.2.2.1 0 100000).isSome = true) ∧ ((!v0.2 || !vl (u142 a0.1) || decide (8 < (↑a0.2.2.2.1.length : Int)) || !vl (u42 a0.2.2.2.2.2.1 0 100000)) = false ∧ True → (u42 a0.2.2.2.2.2.2 0 100000).isSome = true) ∧ True) <| 
 if (!v0.2 || !vl (u142 a0.1) || decide (8 < (↑a0.2.2.2.1.length : Int)) || !vl (u42 a0.2.2.2.2.2.1 0 100000) || !vl (u42 a0.2.2.2.2.2.2 0 100000)) = true then
  some false
 else
  lp (u141L1 a0 v0) 0
def k141 : Ct := lct 141 [.agg y152] (fun x => u141 x.1) (fun r : Bool => B r) (fun _ => ())
theorem o141 : Ok Tryz.prog k141 := by
 refine okl tok [.tmp 2] Tryz.func141 Tryz.ntmps141 rfl Tryz.results141 (by kernel_rfl) rfl ?_
 intro y ⟨a0, _⟩ r H Q hn hr
 have hT := tc o42 (tc o161 (tc o160 (tc o142 (tc o159 tn))))
 refine qa tok hT [1] (St.mk [p 1 (AV.ptr 1 0)] [(1, Ob.box 152 (cellsD false y152 a0))]) (by kernel_rfl) ?_
 refine qd tok hT [1, 3, 4] (fun v0 => St.mk [p 1 (AV.ptr 1 0), p 3 (I v0.1), p 4 (B v0.2)] [(1, Ob.box 152 (cellsD false y152 a0))]) H (by kernel_rfl) fun v0 H => ?_
 refine vx_seq <| ?_
 refine qb tok hT [1, 3, 40] (St.mk [p 1 (AV.ptr 1 0), p 3 (I v0.1), p 40 (B (!v0.2 || !vl (u142 a0.1) || decide (8 < (↑a0.2.2.2.1.length : Int)) || !vl (u42 a0.2.2.2.2.2.1 0 100000) || !vl (u42 a0.2.2.2.2.2.2 0 100000)))] [(1, Ob.box 152 (cellsD false y152 a0))]) H (by kernel_rfl) fun H => ?_
 refine cd H (by kernel_rfl) (fun H => ?_) (fun H => ?_)
 ·refine qa tok hT [2] (St.mk [p 2 (B false)] [(1, Ob.box 152 (cellsD false y152 a0))]) (by kernel_rfl) ?_
  exact vx_ret <| fx_seq_ret <| hr H (by kernel_rfl)
 refine vx_skip <| fx_seq <| ?_
 refine jn r (fun (_ : Unit) => St.mk [p 1 (AV.ptr 1 0), p 3 (I v0.1)] [(1, Ob.box 152 (cellsD false y152 a0))]) (u141J0 a0 v0) (fun _ H => ?_) (fun _ n0 e0 t0 => ?_)
 ·refine qd tok hT [1, 3, 8] (fun v6 => St.mk [p 1 (AV.ptr 1 0), p 3 (I v0.1), p 8 (AV.os 94 0)] [(94, Ob.arr 2 true i64 v6 0), (1, Ob.box 152 (cellsD false y152 a0))]) H (by kernel_rfl) fun v6 H => ?_
  refine jn r (fun (_ : Unit) => St.mk [] []) (u141J4) (fun _ H => ?_) (fun _ n4 e4 t4 => ?_)
  ·refine qa tok hT [2] (St.mk [p 2 (B false)] []) (by kernel_rfl) ?_
   exact vx_ret <| hr H (by kernel_rfl)
  refine qa tok hT [1, 3, 8, 96] (St.mk [p 1 (AV.ptr 1 0), p 3 (I v0.1), p 8 (AV.os 94 0), p 96 (J a0.2.1)] [(94, Ob.arr 2 true i64 v6 0), (1, Ob.box 152 (cellsD false y152 a0))]) (by kernel_rfl) ?_
  refine vx_block <| ?_
  refine qa tok hT [1, 3, 8, 96, 97] (St.mk [p 1 (AV.ptr 1 0), p 3 (I v0.1), p 8 (AV.os 94 0), p 96 (J a0.2.1), p 97 (B (a0.2.1 == 1))] [(94, Ob.arr 2 true i64 v6 0), (1, Ob.box 152 (cellsD false y152 a0))]) (by kernel_rfl) ?_
  refine cd H (by kernel_rfl) (fun H => ?_) (fun H => ?_)
  ·refine jn r (fun (_ : Unit) => St.mk [p 1 (AV.ptr 1 0), p 3 (I v0.1)] [(1, Ob.box 152 (cellsD false y152 a0))]) (u141J5 v0 a0) (fun _ H => ?_) (fun _ n5 e5 t5 => ?_)
   ·refine qb tok hT [2] (St.mk [p 2 (B (v0.1 == 0 && (↑a0.2.2.2.2.1.length : Int) == 1 * 2 ^ ((↑a0.2.2.1.length : Int) - 1).toNat))] [(1, Ob.box 152 (cellsD false y152 a0))]) H (by kernel_rfl) fun H => ?_
    exact vx_ret <| fx_blk_ret <| t4 <| hr H (by kernel_rfl)
   refine qa tok hT [1, 3, 9] (St.mk [p 1 (AV.ptr 1 0), p 3 (I v0.1), p 9 (I 0)] [(94, Ob.arr 2 true i64 v6 0), (1, Ob.box 152 (cellsD false y152 a0))]) (by kernel_rfl) ?_
   refine vx_block <| ?_
   refine lx (fun (v7 : Int) => St.mk [p 1 (AV.ptr 1 0), p 3 (I v0.1), p 9 (I v7)] [(1, Ob.box 152 (cellsD false y152 a0))]) 0 H (by kernel_rfl) fun _ g6 b6 e6 t6 v7 H => ?_
   refine vx_seq <| ?_
   refine qa tok hT [1, 3, 9, 103] (St.mk [p 1 (AV.ptr 1 0), p 3 (I v0.1), p 9 (I v7), p 103 (B (decide (v7 < (↑a0.2.2.2.2.1.length : Int))))] [(1, Ob.box 152 (cellsD false y152 a0))]) (by kernel_rfl) ?_
   refine cd H (by kernel_rfl) (fun H => ?_) (fun H => ?_)
   ·refine vx_skip <| fx_seq <| vx_seq <| vx_block <| ?_
    refine qb tok hT [1, 3, 9, 112] (St.mk [p 1 (AV.ptr 1 0), p 3 (I v0.1), p 9 (I v7), p 112 (B !vl (u42 (a0.2.2.2.2.1.getD v7.toNat 0) 0 1))] [(1, Ob.box 152 (cellsD false y152 a0))]) H (by kernel_rfl) fun H => ?_
    refine cd H (by kernel_rfl) (fun H => ?_) (fun H => ?_)
    ·refine qa tok hT [2] (St.mk [p 2 (B false)] [(1, Ob.box 152 (cellsD false y152 a0))]) (by kernel_rfl) ?_
     exact vx_ret <| fx_blk_ret <| fx_seq_ret <| t6 <| fx_blk_ret <| t5 <| fx_blk_ret <| t4 <| hr H (by kernel_rfl)
    refine vx_skip <| fx_blk <| fx_seq <| ?_
    refine zb tok hT [1, 3, 9] (St.mk [p 1 (AV.ptr 1 0), p 3 (I v0.1), p 9 (I (v7 + 1))] [(1, Ob.box 152 (cellsD false y152 a0))]) H (by kernel_rfl) fun H => ?_
    exact b6 H (by kernel_rfl)
   exact vx_exit <| fx_seq_exit <| e6 <| fx_blk_exit rfl <| n5 H (by kernel_rfl)
  refine qa tok hT [1, 3, 8, 96, 127] (St.mk [p 1 (AV.ptr 1 0), p 3 (I v0.1), p 8 (AV.os 94 0), p 96 (J a0.2.1), p 127 (B (a0.2.1 == 2))] [(94, Ob.arr 2 true i64 v6 0), (1, Ob.box 152 (cellsD false y152 a0))]) (by kernel_rfl) ?_
  refine cd H (by kernel_rfl) (fun H => ?_) (fun H => ?_)
  ·refine qb tok hT [2] (St.mk [p (2 : Nat) (B (v0.1 == (1 : Int) && v6.getD (Int.toNat (1 : Int)) (0 : Int) == (0 : Int) && !decide ((0 : Int) < v6.getD (Int.toNat (2 : Int)) (0 : Int)) == decide ((0 : Int) < v6.getD (Int.toNat (3 : Int)) (0 : Int)) && (↑a0.2.2.2.2.1.length : Int) == (0 : Int)))] [((94 : Nat), Ob.arr (nat_lit 2) true i64 v6 (0 : Nat)), ((1 : Nat), Ob.box (nat_lit 152) (cellsD false y152 a0))]) H (by kernel_rfl) fun H => ?_
   exact vx_ret <| fx_blk_ret <| t4 <| hr H (by kernel_rfl)
  refine qa tok hT [1, 3, 8, 154] (St.mk [p 1 (AV.ptr 1 0), p 3 (I v0.1), p 8 (AV.os 94 0), p 154 (B (a0.2.1 == 3))] [(94, Ob.arr 2 true i64 v6 0), (1, Ob.box 152 (cellsD false y152 a0))]) (by kernel_rfl) ?_
  refine cd H (by kernel_rfl) (fun H => ?_) (fun H => ?_)
  ·refine qb tok hT [2] (St.mk [p (2 : Nat) (B (v0.1 == (1 : Int) && decide ((0 : Int) < v6.getD (Int.toNat (1 : Int)) (0 : Int)) && decide ((0 : Int) < v6.getD (Int.toNat (2 : Int)) (0 : Int)) && v6.getD (Int.toNat (3 : Int)) (0 : Int) == (0 : Int) && (↑a0.2.2.2.2.1.length : Int) == (0 : Int)))] [((94 : Nat), Ob.arr (nat_lit 2) true i64 v6 (0 : Nat)), ((1 : Nat), Ob.box (nat_lit 152) (cellsD false y152 a0))]) H (by kernel_rfl) fun H => ?_
   exact vx_ret <| fx_blk_ret <| t4 <| hr H (by kernel_rfl)
  exact vx_skip <| fx_blk <| n4 H (by kernel_rfl)
 refine qa tok hT [1, 3, 5] (St.mk [p 1 (AV.ptr 1 0), p 3 (I v0.1), p 5 (I 0)] [(1, Ob.box 152 (cellsD false y152 a0))]) (by kernel_rfl) ?_
 refine vx_block <| ?_
 refine lx (fun (v3 : Int) => St.mk [p 1 (AV.ptr 1 0), p 3 (I v0.1), p 5 (I v3)] [(1, Ob.box 152 (cellsD false y152 a0))]) 0 H (by kernel_rfl) fun _ g1 b1 e1 t1 v3 H => ?_
 refine vx_seq <| ?_
 refine qa tok hT [1, 3, 5, 45] (St.mk [p 1 (AV.ptr 1 0), p 3 (I v0.1), p 5 (I v3), p 45 (B (decide (v3 < (↑a0.2.2.2.1.length : Int))))] [(1, Ob.box 152 (cellsD false y152 a0))]) (by kernel_rfl) ?_
 refine cd H (by kernel_rfl) (fun H => ?_) (fun H => ?_)
 ·refine vx_skip <| fx_seq <| ?_
  refine jn r (fun (_ : Unit) => St.mk [p 1 (AV.ptr 1 0), p 3 (I v0.1), p 5 (I v3)] [(1, Ob.box 152 (cellsD false y152 a0))]) (u141J2 v3 g1) (fun _ H => ?_) (fun _ n2 e2 t2 => ?_)
  ·refine zb tok hT [1, 3, 5] (St.mk [p 1 (AV.ptr 1 0), p 3 (I v0.1), p 5 (I (v3 + 1))] [(1, Ob.box 152 (cellsD false y152 a0))]) H (by kernel_rfl) fun H => ?_
   exact b1 H (by kernel_rfl)
  refine vx_block <| ?_
  refine qd tok hT [1, 3, 5, 6] (fun v4 => St.mk [p 1 (AV.ptr 1 0), p 3 (I v0.1), p 5 (I v3), p 6 (AV.ptr 6 0)] [(6, Ob.box 89 (cellsD false y89 v4)), (1, Ob.box 152 (cellsD false y152 a0))]) H (by kernel_rfl) fun v4 H => ?_
  refine vx_seq <| ?_
  refine qb tok hT [1, 3, 5, 6, 56] (St.mk [p 1 (AV.ptr 1 0), p 3 (I v0.1), p 5 (I v3), p 6 (AV.ptr 6 0), p 56 (B !vl (u160 a0 v4))] [(6, Ob.box 89 (cellsD false y89 v4)), (1, Ob.box 152 (cellsD false y152 a0))]) H (by kernel_rfl) fun H => ?_
  refine cd H (by kernel_rfl) (fun H => ?_) (fun H => ?_)
  ·refine qa tok hT [2] (St.mk [p 2 (B false)] [(6, Ob.box 89 (cellsD false y89 v4)), (1, Ob.box 152 (cellsD false y152 a0))]) (by kernel_rfl) ?_
   exact vx_ret <| fx_seq_ret <| fx_blk_ret <| t2 <| t1 <| fx_blk_ret <| t0 <| hr H (by kernel_rfl)
  refine vx_skip <| fx_seq <| ?_
  refine qa tok hT [1, 3, 5, 6, 7] (St.mk [p 1 (AV.ptr 1 0), p 3 (I v0.1), p 5 (I v3), p 6 (AV.ptr 6 0), p 7 (I 0)] [(6, Ob.box 89 (cellsD false y89 v4)), (1, Ob.box 152 (cellsD false y152 a0))]) (by kernel_rfl) ?_
  refine vx_block <| ?_
  refine lx (fun (v5 : Int) => St.mk [p 1 (AV.ptr 1 0), p 3 (I v0.1), p 5 (I v3), p 6 (AV.ptr 6 0), p 7 (I v5)] [(6, Ob.box 89 (cellsD false y89 v4)), (1, Ob.box 152 (cellsD false y152 a0))]) 0 H (by kernel_rfl) fun _ g3 b3 e3 t3 v5 H => ?_
  refine vx_seq <| ?_
  refine qa tok hT [1, 3, 5, 6, 7, 59] (St.mk [p 1 (AV.ptr 1 0), p 3 (I v0.1), p 5 (I v3), p 6 (AV.ptr 6 0), p 7 (I v5), p 59 (B (decide (v5 < v3)))] [(6, Ob.box 89 (cellsD false y89 v4)), (1, Ob.box 152 (cellsD false y152 a0))]) (by kernel_rfl) ?_
  refine cd H (by kernel_rfl) (fun H => ?_) (fun H => ?_)
  ·refine vx_skip <| fx_seq <| vx_seq <| vx_block <| ?_
   refine qb tok hT [1, 3, 5, 6, 7, 72, 73, 74, 75, 76, 77, 78, 79, 80, 83, 84, 85, 86, 87, 88, 89, 90, 91, 92] (St.mk [p 1 (AV.ptr 1 0), p 3 (I v0.1), p 5 (I v3), p 6 (AV.ptr 6 0), p 7 (I v5), p 92 (B ((a0.2.2.2.1.getD v5.toNat (dflt y89)).1 == v4.1 && (a0.2.2.2.1.getD v5.toNat (dflt y89)).2.1 == v4.2.1 && (a0.2.2.2.1.getD v5.toNat (dflt y89)).2.2.1 == v4.2.2.1))] [(6, Ob.box 89 (cellsD false y89 v4)), (1, Ob.box 152 (cellsD false y152 a0))]) H (by kernel_rfl) fun H => ?_
   refine cd H (by kernel_rfl) (fun H => ?_) (fun H => ?_)
   ·refine qa tok hT [2] (St.mk [p 2 (B false)] [(6, Ob.box 89 (cellsD false y89 v4)), (1, Ob.box 152 (cellsD false y152 a0))]) (by kernel_rfl) ?_
    exact vx_ret <| fx_blk_ret <| fx_seq_ret <| t3 <| fx_blk_ret <| fx_blk_ret <| t2 <| t1 <| fx_blk_ret <| t0 <| hr H (by kernel_rfl)
   refine vx_skip <| fx_blk <| fx_seq <| ?_
   refine zb tok hT [1, 3, 5, 6, 7] (St.mk [p 1 (AV.ptr 1 0), p 3 (I v0.1), p 5 (I v3), p 6 (AV.ptr 6 0), p 7 (I (v5 + 1))] [(6, Ob.box 89 (cellsD false y89 v4)), (1, Ob.box 152 (cellsD false y152 a0))]) H (by kernel_rfl) fun H => ?_
   exact b3 H (by kernel_rfl)
  exact vx_exit <| fx_seq_exit <| e3 <| fx_blk_exit rfl <| fx_blk <| n2 H (by kernel_rfl)
 exact vx_exit <| fx_seq_exit <| e1 <| fx_blk_exit rfl <| n0 H (by kernel_rfl)
def u113J0 (a0 : List Y152) : Unit → Option (Bool)
 | _ =>
 some (decide ((↑a0.length : Int) ≤ 8))
def u113J2 (v1 : Int) (g1 : Int → Option (Bool)) : Unit → Option (Bool)
 | _ =>
 gd (in64 (v1 + 1) ∧ True) <| 
 g1 (v1 + 1)
def u113L3 (a0 : List Y152) (v1 : Int) (g1 : Int → Option (Bool)) (g3 : Int → Option (Bool)) : Int → Option (Bool)
 | v2 =>
 if (decide (v2 < v1)) = true then
  gd (ix v2 a0.length ∧ ix v1 a0.length ∧ True) <| 
  if (decide ((a0.getD v2.toNat (dflt y152)).1 = (a0.getD v1.toNat (dflt y152)).1)) = true then
   some false
  else
   gd (in64 (v2 + 1) ∧ True) <| 
   g3 (v2 + 1)
 else
  u113J2 v1 g1 ()
def u113L1 (a0 : List Y152) (g1 : Int → Option (Bool)) : Int → Option (Bool)
 | v1 =>
 if (decide (v1 < (↑a0.length : Int))) = true then
  gd (ix v1 a0.length ∧ (u141 (a0.getD v1.toNat (dflt y152))).isSome = true ∧ True) <| 
  if (!vl (u141 (a0.getD v1.toNat (dflt y152)))) = true then
   some false
  else
   lp (u113L3 a0 v1 g1) 0
 else
  u113J0 a0 ()
def u113 (a0 : List Y152) : Option (Bool) :=
 lp (u113L1 a0) 0
def k113 : Ct := lct 113 [.agg y152.sl] (fun x => u113 x.1) (fun r : Bool => B r) (fun _ => ())
theorem o113 : Ok Tryz.prog k113 := by
 refine okl tok [.tmp 2] Tryz.func113 Tryz.ntmps113 rfl Tryz.results113 (by kernel_rfl) rfl ?_
 intro y ⟨a0, _⟩ r H Q hn hr
 have hT := tc o141 tn
 refine qa tok hT [1] (St.mk [p 1 (AV.ptr 1 0)] [(1, Ob.box 37 [L y152 a0])]) (by kernel_rfl) ?_
 refine jn r (fun (_ : Unit) => St.mk [p 1 (AV.ptr 1 0)] [(1, Ob.box 37 [L y152 a0])]) (u113J0 a0) (fun _ H => ?_) (fun _ n0 e0 t0 => ?_)
 ·refine qa tok hT [2] (St.mk [p 2 (B (decide ((↑a0.length : Int) ≤ 8)))] [(1, Ob.box 37 [L y152 a0])]) (by kernel_rfl) ?_
  exact vx_ret <| hr H (by kernel_rfl)
 refine qa tok hT [1, 3] (St.mk [p 1 (AV.ptr 1 0), p 3 (I 0)] [(1, Ob.box 37 [L y152 a0])]) (by kernel_rfl) ?_
 refine vx_block <| ?_
 refine lx (fun (v1 : Int) => St.mk [p 1 (AV.ptr 1 0), p 3 (I v1)] [(1, Ob.box 37 [L y152 a0])]) 0 H (by kernel_rfl) fun _ g1 b1 e1 t1 v1 H => ?_
 refine vx_seq <| ?_
 refine qa tok hT [1, 3, 9] (St.mk [p 1 (AV.ptr 1 0), p 3 (I v1), p 9 (B (decide (v1 < (↑a0.length : Int))))] [(1, Ob.box 37 [L y152 a0])]) (by kernel_rfl) ?_
 refine cd H (by kernel_rfl) (fun H => ?_) (fun H => ?_)
 ·refine vx_skip <| fx_seq <| ?_
  refine jn r (fun (_ : Unit) => St.mk [p 1 (AV.ptr 1 0), p 3 (I v1)] [(1, Ob.box 37 [L y152 a0])]) (u113J2 v1 g1) (fun _ H => ?_) (fun _ n2 e2 t2 => ?_)
  ·refine zb tok hT [1, 3] (St.mk [p 1 (AV.ptr 1 0), p 3 (I (v1 + 1))] [(1, Ob.box 37 [L y152 a0])]) H (by kernel_rfl) fun H => ?_
   exact b1 H (by kernel_rfl)
  refine vx_block <| vx_seq <| ?_
  refine qb tok hT [1, 3, 18] (St.mk [p 1 (AV.ptr 1 0), p 3 (I v1), p 18 (B !vl (u141 (a0.getD v1.toNat (dflt y152))))] [(1, Ob.box 37 [L y152 a0])]) H (by kernel_rfl) fun H => ?_
  refine cd H (by kernel_rfl) (fun H => ?_) (fun H => ?_)
  ·refine qa tok hT [2] (St.mk [p 2 (B false)] [(1, Ob.box 37 [L y152 a0])]) (by kernel_rfl) ?_
   exact vx_ret <| fx_seq_ret <| fx_blk_ret <| t2 <| t1 <| fx_blk_ret <| t0 <| hr H (by kernel_rfl)
  refine vx_skip <| fx_seq <| ?_
  refine qa tok hT [1, 3, 4] (St.mk [p 1 (AV.ptr 1 0), p 3 (I v1), p 4 (I 0)] [(1, Ob.box 37 [L y152 a0])]) (by kernel_rfl) ?_
  refine vx_block <| ?_
  refine lx (fun (v2 : Int) => St.mk [p 1 (AV.ptr 1 0), p 3 (I v1), p 4 (I v2)] [(1, Ob.box 37 [L y152 a0])]) 0 H (by kernel_rfl) fun _ g3 b3 e3 t3 v2 H => ?_
  refine vx_seq <| ?_
  refine qa tok hT [1, 3, 4, 21] (St.mk [p 1 (AV.ptr 1 0), p 3 (I v1), p 4 (I v2), p 21 (B (decide (v2 < v1)))] [(1, Ob.box 37 [L y152 a0])]) (by kernel_rfl) ?_
  refine cd H (by kernel_rfl) (fun H => ?_) (fun H => ?_)
  ·refine vx_skip <| fx_seq <| vx_seq <| vx_block <| ?_
   refine qb tok hT [1, 3, 4, 36] (St.mk [p 1 (AV.ptr 1 0), p 3 (I v1), p 4 (I v2), p 36 (B (decide ((a0.getD v2.toNat (dflt y152)).1 = (a0.getD v1.toNat (dflt y152)).1)))] [(1, Ob.box 37 [L y152 a0])]) H (by kernel_rfl) fun H => ?_
   refine cd H (by kernel_rfl) (fun H => ?_) (fun H => ?_)
   ·refine qa tok hT [2] (St.mk [p 2 (B false)] [(1, Ob.box 37 [L y152 a0])]) (by kernel_rfl) ?_
    exact vx_ret <| fx_blk_ret <| fx_seq_ret <| t3 <| fx_blk_ret <| fx_blk_ret <| t2 <| t1 <| fx_blk_ret <| t0 <| hr H (by kernel_rfl)
   refine vx_skip <| fx_blk <| fx_seq <| ?_
   refine zb tok hT [1, 3, 4] (St.mk [p 1 (AV.ptr 1 0), p 3 (I v1), p 4 (I (v2 + 1))] [(1, Ob.box 37 [L y152 a0])]) H (by kernel_rfl) fun H => ?_
   exact b3 H (by kernel_rfl)
  exact vx_exit <| fx_seq_exit <| e3 <| fx_blk_exit rfl <| fx_blk <| n2 H (by kernel_rfl)
 exact vx_exit <| fx_seq_exit <| e1 <| fx_blk_exit rfl <| n0 H (by kernel_rfl)
def u69J9 : Unit → Option (Bool)
 | _ =>
 some true
def u69L10 (v20 : List Int) (g10 : Int → Option (Bool)) : Int → Option (Bool)
 | v21 =>
 if (decide (v21 < (↑v20.length : Int))) = true then
  gd (ix v21 v20.length ∧ v21.toNat < v20.length ∧ True) <| 
  if (v20.getD v21.toNat 0 != 1) = true then
   some false
  else
   gd (in64 (v21 + 1) ∧ True) <| 
   g10 (v21 + 1)
 else
  u69J9 ()
def u69J6 : List Int → Option (Bool)
 | v20 =>
 lp (u69L10 v20) 0
def u69J8 (v16 : Int) (g7 : Int × List Int → Option (Bool)) : List Int → Option (Bool)
 | v19 =>
 gd (in64 (v16 + 1) ∧ True) <| 
 g7 (v16 + 1, v19)
def u69L7 (a1 : Y41) (g7 : Int × List Int → Option (Bool)) : Int × List Int → Option (Bool)
 | (v16, v17) =>
 if (decide (v16 < (↑a1.2.2.length : Int))) = true then
  gd (ix v16 a1.2.2.length ∧ True) <| 
  if ((a1.2.2.getD v16.toNat (dflt y143)).2.1 == 1) = true then
   gd (ix v16 a1.2.2.length ∧ ix (a1.2.2.getD v16.toNat (dflt y143)).2.2 v17.length ∧ (a1.2.2.getD v16.toNat (dflt y143)).2.2.toNat < v17.length ∧ in64 (v17.getD (a1.2.2.getD v16.toNat (dflt y143)).2.2.toNat 0 + 1) ∧ ix (a1.2.2.getD v16.toNat (dflt y143)).2.2 v17.length ∧ (a1.2.2.getD v16.toNat (dflt y143)).2.2.toNat < v17.length ∧ True) <| lt (v17.set (a1.2.2.getD v16.toNat (dflt y143)).2.2.toNat (v17.getD (a1.2.2.getD v16.toNat (dflt y143)).2.2.toNat 0 + 1)) fun v18 =>
   u69J8 v16 g7 v18
  else
   u69J8 v16 g7 v17
 else
  u69J6 v17
def u69J4 (a1 : Y41) : List Int → Option (Bool)
 | v13 =>
 lp (u69L7 a1) (0, v13)
def u69L5 (a1 : Y41) (g5 : Int × List Int → Option (Bool)) : Int × List Int → Option (Bool)
 | (v9, v10) =>
 if (decide (v9 < (↑a1.1.length : Int))) = true then
  gd (ix v9 a1.1.length ∧ True) <| lt (a1.1.getD v9.toNat (dflt y141)) fun v11 =>
  gd (in64 ((↑v11.2.2.length : Int) - 1) ∧ ix ((↑v11.2.2.length : Int) - 1) v11.2.2.length ∧ ix (v11.2.2.getD ((↑v11.2.2.length : Int) - 1).toNat 0) v10.length ∧ Int.toNat (v11.2.2.getD ((↑v11.2.2.length : Int) - 1).toNat 0) < v10.length ∧ in64 (v10.getD (Int.toNat (v11.2.2.getD ((↑v11.2.2.length : Int) - 1).toNat 0)) 0 + 1) ∧ ix (v11.2.2.getD ((↑v11.2.2.length : Int) - 1).toNat 0) v10.length ∧ Int.toNat (v11.2.2.getD ((↑v11.2.2.length : Int) - 1).toNat 0) < v10.length ∧ True) <| lt (v10.set (Int.toNat (v11.2.2.getD ((↑v11.2.2.length : Int) - 1).toNat 0)) (v10.getD (Int.toNat (v11.2.2.getD ((↑v11.2.2.length : Int) - 1).toNat 0)) 0 + 1)) fun v12 =>
  gd (in64 (v9 + 1) ∧ True) <| 
  g5 (v9 + 1, v12)
 else
  u69J4 a1 v10
def u69J2 (a1 : Y41) (v2 : List ByteArray) : List ByteArray → Option (Bool)
 | v6 =>
 gd ((u115 v2).isSome = true ∧ ((!vl (u115 v2)) = false ∧ True → (u115 v6).isSome = true) ∧ ((!vl (u115 v2) || !vl (u115 v6)) = false ∧ True → (u115 a1.2.1).isSome = true) ∧ True) <| 
 if (!vl (u115 v2) || !vl (u115 v6) || !vl (u115 a1.2.1)) = true then
  some false
 else
  gd ((0 ≤ (↑a1.2.1.length : Int) ∧ (↑a1.2.1.length : Int) = (↑a1.2.1.length : Int) ∧ (↑a1.2.1.length : Int).toNat * 8 ≤ 281474976710656 ∧ (↑a1.2.1.length : Int) ≤ 9223372036854775807) ∧ True) <| 
  lp (u69L5 a1) ((0, List.replicate (↑a1.2.1.length : Int).toNat 0))
def u69L3 (a1 : Y41) (v2 : List ByteArray) (g3 : Int × List ByteArray → Option (Bool)) : Int × List ByteArray → Option (Bool)
 | (v4, v5) =>
 if (decide (v4 < (↑a1.2.2.length : Int))) = true then
  gd (ix v4 a1.2.2.length ∧ (v5.length + [(a1.2.2.getD v4.toNat (dflt y143)).1].length ≤ 9223372036854775807 ∧ (v5.length + [(a1.2.2.getD v4.toNat (dflt y143)).1].length) * 16 ≤ 140737488355328) ∧ True) <| 
  gd (in64 (v4 + 1) ∧ True) <| 
  g3 ((v4 + 1, v5 ++ [(a1.2.2.getD v4.toNat (dflt y143)).1]))
 else
  u69J2 a1 v2 v5
def u69J0 (a1 : Y41) : List ByteArray → Option (Bool)
 | v2 =>
 lp (u69L3 a1 v2) (0, [])
def u69L1 (a1 : Y41) (g1 : Int × List ByteArray → Option (Bool)) : Int × List ByteArray → Option (Bool)
 | (v0, v1) =>
 if (decide (v0 < (↑a1.1.length : Int))) = true then
  gd (ix v0 a1.1.length ∧ (v1.length + [(a1.1.getD v0.toNat (dflt y141)).1].length ≤ 9223372036854775807 ∧ (v1.length + [(a1.1.getD v0.toNat (dflt y141)).1].length) * 16 ≤ 140737488355328) ∧ True) <| 
  gd (in64 (v0 + 1) ∧ True) <| 
  g1 ((v0 + 1, v1 ++ [(a1.1.getD v0.toNat (dflt y141)).1]))
 else
  u69J0 a1 v1
def u69 (a0 : List Y152) (a1 : Y41) : Option (Bool) :=
 gd ((u113 a0).isSome = true ∧ ((!vl (u113 a0) || decide (14 < (↑a1.1.length : Int)) || decide (30 < (↑a1.2.1.length : Int)) || decide (8 < (↑a1.2.2.length : Int))) = false ∧ True → (u114 a0 a1).isSome = true) ∧ True) <| 
 if (!vl (u113 a0) || decide (14 < (↑a1.1.length : Int)) || decide (30 < (↑a1.2.1.length : Int)) || decide (8 < (↑a1.2.2.length : Int)) || !vl (u114 a0 a1)) = true then
  some false
 else
  lp (u69L1 a1) (0, [])
def k69 : Ct := lct 69 [.agg y152.sl, .agg y41] (fun x => u69 x.1 x.2.1) (fun r : Bool => B r) (fun _ => ())
theorem o69 : Ok Tryz.prog k69 := by
 refine okl tok [.tmp 4] Tryz.func69 Tryz.ntmps69 rfl Tryz.results69 (by kernel_rfl) rfl ?_
 intro y ⟨a0, a1, _⟩ r H Q hn hr
 have hT := tc o115 (tc o114 (tc o113 tn))
 refine qa tok hT [2, 3] (St.mk [p 2 (AV.ptr 2 0), p 3 (AV.ptr 3 0)] [(3, Ob.box 41 (cellsD false y41 a1)), (2, Ob.box 37 [L y152 a0])]) (by kernel_rfl) ?_
 refine vx_seq <| ?_
 refine qb tok hT [3, 40] (St.mk [p 3 (AV.ptr 3 0), p 40 (B (!vl (u113 a0) || decide (14 < (↑a1.1.length : Int)) || decide (30 < (↑a1.2.1.length : Int)) || decide (8 < (↑a1.2.2.length : Int)) || !vl (u114 a0 a1)))] [(3, Ob.box 41 (cellsD false y41 a1)), (2, Ob.box 37 [L y152 a0])]) H (by kernel_rfl) fun H => ?_
 refine cd H (by kernel_rfl) (fun H => ?_) (fun H => ?_)
 ·refine qa tok hT [4] (St.mk [p 4 (B false)] [(3, Ob.box 41 (cellsD false y41 a1)), (2, Ob.box 37 [L y152 a0])]) (by kernel_rfl) ?_
  exact vx_ret <| fx_seq_ret <| hr H (by kernel_rfl)
 refine vx_skip <| fx_seq <| ?_
 refine qa tok hT [3, 5] (St.mk [p 3 (AV.ptr 3 0), p 5 (AV.os 41 0)] [(41, Ob.arr 9 true Ty.str [] 0), (3, Ob.box 41 (cellsD false y41 a1)), (2, Ob.box 37 [L y152 a0])]) (by kernel_rfl) ?_
 refine jn r (fun (v2 : List ByteArray) => St.mk [p 3 (AV.ptr 3 0), p 5 (AV.os 41 0)] [(41, Ob.arr 9 true Ty.str v2 0), (3, Ob.box 41 (cellsD false y41 a1))]) (u69J0 a1) (fun v2 H => ?_) (fun _ n0 e0 t0 => ?_)
 ·refine qa tok hT [3, 5, 7] (St.mk [p 3 (AV.ptr 3 0), p 5 (AV.os 41 0), p 7 (AV.os 58 0)] [(58, Ob.arr 9 true Ty.str [] 0), (41, Ob.arr 9 true Ty.str v2 0), (3, Ob.box 41 (cellsD false y41 a1))]) (by kernel_rfl) ?_
  refine jn r (fun (v6 : List ByteArray) => St.mk [p 3 (AV.ptr 3 0), p 5 (AV.os 41 0), p 7 (AV.os 58 0)] [(58, Ob.arr 9 true Ty.str v6 0), (41, Ob.arr 9 true Ty.str v2 0), (3, Ob.box 41 (cellsD false y41 a1))]) (u69J2 a1 v2) (fun v6 H => ?_) (fun _ n2 e2 t2 => ?_)
  ·refine vx_seq <| ?_
   refine qb tok hT [3, 88] (St.mk [p 3 (AV.ptr 3 0), p 88 (B (!vl (u115 v2) || !vl (u115 v6) || !vl (u115 a1.2.1)))] [(58, Ob.arr 9 true Ty.str v6 0), (41, Ob.arr 9 true Ty.str v2 0), (3, Ob.box 41 (cellsD false y41 a1))]) H (by kernel_rfl) fun H => ?_
   refine cd H (by kernel_rfl) (fun H => ?_) (fun H => ?_)
   ·refine qa tok hT [4] (St.mk [p 4 (B false)] [(58, Ob.arr 9 true Ty.str v6 0), (41, Ob.arr 9 true Ty.str v2 0), (3, Ob.box 41 (cellsD false y41 a1))]) (by kernel_rfl) ?_
    exact vx_ret <| fx_seq_ret <| hr H (by kernel_rfl)
   refine vx_skip <| fx_seq <| ?_
   refine qb tok hT [3, 9] (St.mk [p 3 (AV.ptr 3 0), p 9 (AV.os 92 0)] [(92, Ob.arr 2 true i64 (List.replicate (↑a1.2.1.length : Int).toNat 0) 0), (58, Ob.arr 9 true Ty.str v6 0), (41, Ob.arr 9 true Ty.str v2 0), (3, Ob.box 41 (cellsD false y41 a1))]) H (by kernel_rfl) fun H => ?_
   refine jn r (fun (v13 : List Int) => St.mk [p 3 (AV.ptr 3 0), p 9 (AV.os 92 0)] [(92, Ob.arr 2 true i64 v13 0), (3, Ob.box 41 (cellsD false y41 a1))]) (u69J4 a1) (fun v13 H => ?_) (fun _ n4 e4 t4 => ?_)
   ·refine jn r (fun (v20 : List Int) => St.mk [p 9 (AV.os 92 0)] [(92, Ob.arr 2 true i64 v20 0)]) (u69J6) (fun v20 H => ?_) (fun _ n6 e6 t6 => ?_)
    ·refine jn r (fun (_ : Unit) => St.mk [] []) (u69J9) (fun _ H => ?_) (fun _ n9 e9 t9 => ?_)
     ·refine qa tok hT [4] (St.mk [p 4 (B true)] []) (by kernel_rfl) ?_
      exact vx_ret <| hr H (by kernel_rfl)
     refine qa tok hT [9, 13] (St.mk [p 9 (AV.os 92 0), p 13 (I 0)] [(92, Ob.arr 2 true i64 v20 0)]) (by kernel_rfl) ?_
     refine vx_block <| ?_
     refine lx (fun (v21 : Int) => St.mk [p 9 (AV.os 92 0), p 13 (I v21)] [(92, Ob.arr 2 true i64 v20 0)]) 0 H (by kernel_rfl) fun _ g10 b10 e10 t10 v21 H => ?_
     refine vx_seq <| ?_
     refine qa tok hT [9, 13, 145] (St.mk [p 9 (AV.os 92 0), p 13 (I v21), p 145 (B (decide (v21 < (↑v20.length : Int))))] [(92, Ob.arr 2 true i64 v20 0)]) (by kernel_rfl) ?_
     refine cd H (by kernel_rfl) (fun H => ?_) (fun H => ?_)
     ·refine vx_skip <| fx_seq <| vx_seq <| vx_block <| ?_
      refine qb tok hT [9, 13, 152] (St.mk [p 9 (AV.os 92 0), p 13 (I v21), p 152 (B (v20.getD v21.toNat 0 != 1))] [(92, Ob.arr 2 true i64 v20 0)]) H (by kernel_rfl) fun H => ?_
      refine cd H (by kernel_rfl) (fun H => ?_) (fun H => ?_)
      ·refine qa tok hT [4] (St.mk [p 4 (B false)] [(92, Ob.arr 2 true i64 v20 0)]) (by kernel_rfl) ?_
       exact vx_ret <| fx_blk_ret <| fx_seq_ret <| t10 <| fx_blk_ret <| t9 <| hr H (by kernel_rfl)
      refine vx_skip <| fx_blk <| fx_seq <| ?_
      refine zb tok hT [9, 13] (St.mk [p 9 (AV.os 92 0), p 13 (I (v21 + 1))] [(92, Ob.arr 2 true i64 v20 0)]) H (by kernel_rfl) fun H => ?_
      exact b10 H (by kernel_rfl)
     exact vx_exit <| fx_seq_exit <| e10 <| fx_blk_exit rfl <| n9 H (by kernel_rfl)
    refine qa tok hT [3, 9, 12] (St.mk [p 3 (AV.ptr 3 0), p 9 (AV.os 92 0), p 12 (I 0)] [(92, Ob.arr 2 true i64 v13 0), (3, Ob.box 41 (cellsD false y41 a1))]) (by kernel_rfl) ?_
    refine vx_block <| ?_
    refine lx (fun ((v16, v17) : Int × List Int) => St.mk [p 3 (AV.ptr 3 0), p 9 (AV.os 92 0), p 12 (I v16)] [(92, Ob.arr 2 true i64 v17 0), (3, Ob.box 41 (cellsD false y41 a1))]) (0, v13) H (by kernel_rfl) fun _ g7 b7 e7 t7 ⟨v16, v17⟩ H => ?_
    refine vx_seq <| ?_
    refine qa tok hT [3, 9, 12, 121] (St.mk [p 3 (AV.ptr 3 0), p 9 (AV.os 92 0), p 12 (I v16), p 121 (B (decide (v16 < (↑a1.2.2.length : Int))))] [(92, Ob.arr 2 true i64 v17 0), (3, Ob.box 41 (cellsD false y41 a1))]) (by kernel_rfl) ?_
    refine cd H (by kernel_rfl) (fun H => ?_) (fun H => ?_)
    ·refine vx_skip <| fx_seq <| ?_
     refine jn r (fun (v19 : List Int) => St.mk [p 3 (AV.ptr 3 0), p 9 (AV.os 92 0), p 12 (I v16)] [(92, Ob.arr 2 true i64 v19 0), (3, Ob.box 41 (cellsD false y41 a1))]) (u69J8 v16 g7) (fun v19 H => ?_) (fun _ n8 e8 t8 => ?_)
     ·refine zb tok hT [3, 9, 12] (St.mk [p 3 (AV.ptr 3 0), p 9 (AV.os 92 0), p 12 (I (v16 + 1))] [(92, Ob.arr 2 true i64 v19 0), (3, Ob.box 41 (cellsD false y41 a1))]) H (by kernel_rfl) fun H => ?_
      exact b7 H (by kernel_rfl)
     refine vx_block <| ?_
     refine qb tok hT [3, 9, 12, 130] (St.mk [p 3 (AV.ptr 3 0), p 9 (AV.os 92 0), p 12 (I v16), p 130 (B ((a1.2.2.getD v16.toNat (dflt y143)).2.1 == 1))] [(92, Ob.arr 2 true i64 v17 0), (3, Ob.box 41 (cellsD false y41 a1))]) H (by kernel_rfl) fun H => ?_
     refine cd H (by kernel_rfl) (fun H => ?_) (fun H => ?_)
     ·refine zd tok hT [3, 9, 12] (fun v18 => St.mk [p 3 (AV.ptr 3 0), p 9 (AV.os 92 0), p 12 (I v16)] [(92, Ob.arr 2 true i64 v18 0), (3, Ob.box 41 (cellsD false y41 a1))]) H (by kernel_rfl) fun v18 H => ?_
      exact fx_blk <| n8 H (by kernel_rfl)
     exact vx_skip <| fx_blk <| n8 H (by kernel_rfl)
    exact vx_exit <| fx_seq_exit <| e7 <| fx_blk_exit rfl <| n6 H (by kernel_rfl)
   refine qa tok hT [3, 9, 10] (St.mk [p 3 (AV.ptr 3 0), p 9 (AV.os 92 0), p 10 (I 0)] [(92, Ob.arr 2 true i64 (List.replicate (↑a1.2.1.length : Int).toNat 0) 0), (58, Ob.arr 9 true Ty.str v6 0), (41, Ob.arr 9 true Ty.str v2 0), (3, Ob.box 41 (cellsD false y41 a1))]) (by kernel_rfl) ?_
   refine vx_block <| ?_
   refine lx (fun ((v9, v10) : Int × List Int) => St.mk [p 3 (AV.ptr 3 0), p 9 (AV.os 92 0), p 10 (I v9)] [(92, Ob.arr 2 true i64 v10 0), (3, Ob.box 41 (cellsD false y41 a1))]) ((0, List.replicate (↑a1.2.1.length : Int).toNat 0)) H (by kernel_rfl) fun _ g5 b5 e5 t5 ⟨v9, v10⟩ H => ?_
   refine vx_seq <| ?_
   refine qa tok hT [3, 9, 10, 97] (St.mk [p 3 (AV.ptr 3 0), p 9 (AV.os 92 0), p 10 (I v9), p 97 (B (decide (v9 < (↑a1.1.length : Int))))] [(92, Ob.arr 2 true i64 v10 0), (3, Ob.box 41 (cellsD false y41 a1))]) (by kernel_rfl) ?_
   refine cd H (by kernel_rfl) (fun H => ?_) (fun H => ?_)
   ·refine vx_skip <| fx_seq <| vx_seq <| vx_block <| ?_
    refine qd tok hT [3, 9, 10, 11] (fun v11 => St.mk [p 3 (AV.ptr 3 0), p 9 (AV.os 92 0), p 10 (I v9), p 11 (L i64 v11.2.2)] [(92, Ob.arr 2 true i64 v10 0), (3, Ob.box 41 (cellsD false y41 a1))]) H (by kernel_rfl) fun v11 H => ?_
    refine zd tok hT [3, 9, 10] (fun v12 => St.mk [p 3 (AV.ptr 3 0), p 9 (AV.os 92 0), p 10 (I v9)] [(92, Ob.arr 2 true i64 v12 0), (3, Ob.box 41 (cellsD false y41 a1))]) H (by kernel_rfl) fun v12 H => ?_
    refine fx_blk <| fx_seq <| ?_
    refine zb tok hT [3, 9, 10] (St.mk [p 3 (AV.ptr 3 0), p 9 (AV.os 92 0), p 10 (I (v9 + 1))] [(92, Ob.arr 2 true i64 v12 0), (3, Ob.box 41 (cellsD false y41 a1))]) H (by kernel_rfl) fun H => ?_
    exact b5 H (by kernel_rfl)
   exact vx_exit <| fx_seq_exit <| e5 <| fx_blk_exit rfl <| n4 H (by kernel_rfl)
  refine qa tok hT [3, 5, 7, 8] (St.mk [p 3 (AV.ptr 3 0), p 5 (AV.os 41 0), p 7 (AV.os 58 0), p 8 (I 0)] [(58, Ob.arr 9 true Ty.str [] 0), (41, Ob.arr 9 true Ty.str v2 0), (3, Ob.box 41 (cellsD false y41 a1))]) (by kernel_rfl) ?_
  refine vx_block <| ?_
  refine lx (fun ((v4, v5) : Int × List ByteArray) => St.mk [p 3 (AV.ptr 3 0), p 5 (AV.os 41 0), p 7 (AV.os 58 0), p 8 (I v4)] [(58, Ob.arr 9 true Ty.str v5 0), (41, Ob.arr 9 true Ty.str v2 0), (3, Ob.box 41 (cellsD false y41 a1))]) (0, []) H (by kernel_rfl) fun _ g3 b3 e3 t3 ⟨v4, v5⟩ H => ?_
  refine vx_seq <| ?_
  refine qa tok hT [3, 5, 7, 8, 63] (St.mk [p 3 (AV.ptr 3 0), p 5 (AV.os 41 0), p 7 (AV.os 58 0), p 8 (I v4), p 63 (B (decide (v4 < (↑a1.2.2.length : Int))))] [(58, Ob.arr 9 true Ty.str v5 0), (41, Ob.arr 9 true Ty.str v2 0), (3, Ob.box 41 (cellsD false y41 a1))]) (by kernel_rfl) ?_
  refine cd H (by kernel_rfl) (fun H => ?_) (fun H => ?_)
  ·refine vx_skip <| fx_seq <| vx_seq <| vx_block <| ?_
   refine zb tok hT [3, 5, 7, 8] (St.mk [p 3 (AV.ptr 3 0), p 5 (AV.os 41 0), p 7 (AV.os 58 1), p 8 (I v4)] [(58, Ob.arr 9 true Ty.str (v5 ++ [(a1.2.2.getD v4.toNat (dflt y143)).1]) 1), (73, Ob.arr 9 true Ty.str [(a1.2.2.getD v4.toNat (dflt y143)).1] 0), (41, Ob.arr 9 true Ty.str v2 0), (3, Ob.box 41 (cellsD false y41 a1))]) H (by kernel_rfl) fun H => ?_
   refine fx_blk <| fx_seq <| ?_
   refine zb tok hT [3, 5, 7, 8] (St.mk [p 3 (AV.ptr 3 0), p 5 (AV.os 41 0), p 7 (AV.os 58 1), p 8 (I (v4 + 1))] [(58, Ob.arr 9 true Ty.str (v5 ++ [(a1.2.2.getD v4.toNat (dflt y143)).1]) 1), (73, Ob.arr 9 true Ty.str [(a1.2.2.getD v4.toNat (dflt y143)).1] 0), (41, Ob.arr 9 true Ty.str v2 0), (3, Ob.box 41 (cellsD false y41 a1))]) H (by kernel_rfl) fun H => ?_
   exact b3 H (by kernel_rfl)
  exact vx_exit <| fx_seq_exit <| e3 <| fx_blk_exit rfl <| n2 H (by kernel_rfl)
 refine qa tok hT [3, 5, 6] (St.mk [p 3 (AV.ptr 3 0), p 5 (AV.os 41 0), p 6 (I 0)] [(41, Ob.arr 9 true Ty.str [] 0), (3, Ob.box 41 (cellsD false y41 a1)), (2, Ob.box 37 [L y152 a0])]) (by kernel_rfl) ?_
 refine vx_block <| ?_
 refine lx (fun ((v0, v1) : Int × List ByteArray) => St.mk [p 3 (AV.ptr 3 0), p 5 (AV.os 41 0), p 6 (I v0)] [(41, Ob.arr 9 true Ty.str v1 0), (3, Ob.box 41 (cellsD false y41 a1))]) (0, []) H (by kernel_rfl) fun _ g1 b1 e1 t1 ⟨v0, v1⟩ H => ?_
 refine vx_seq <| ?_
 refine qa tok hT [3, 5, 6, 46] (St.mk [p 3 (AV.ptr 3 0), p 5 (AV.os 41 0), p 6 (I v0), p 46 (B (decide (v0 < (↑a1.1.length : Int))))] [(41, Ob.arr 9 true Ty.str v1 0), (3, Ob.box 41 (cellsD false y41 a1))]) (by kernel_rfl) ?_
 refine cd H (by kernel_rfl) (fun H => ?_) (fun H => ?_)
 ·refine vx_skip <| fx_seq <| vx_seq <| vx_block <| ?_
  refine zb tok hT [3, 5, 6] (St.mk [p 3 (AV.ptr 3 0), p 5 (AV.os 41 1), p 6 (I v0)] [(41, Ob.arr 9 true Ty.str (v1 ++ [(a1.1.getD v0.toNat (dflt y141)).1]) 1), (56, Ob.arr 9 true Ty.str [(a1.1.getD v0.toNat (dflt y141)).1] 0), (3, Ob.box 41 (cellsD false y41 a1))]) H (by kernel_rfl) fun H => ?_
  refine fx_blk <| fx_seq <| ?_
  refine zb tok hT [3, 5, 6] (St.mk [p 3 (AV.ptr 3 0), p 5 (AV.os 41 1), p 6 (I (v0 + 1))] [(41, Ob.arr 9 true Ty.str (v1 ++ [(a1.1.getD v0.toNat (dflt y141)).1]) 1), (56, Ob.arr 9 true Ty.str [(a1.1.getD v0.toNat (dflt y141)).1] 0), (3, Ob.box 41 (cellsD false y41 a1))]) H (by kernel_rfl) fun H => ?_
  exact b1 H (by kernel_rfl)
 exact vx_exit <| fx_seq_exit <| e1 <| fx_blk_exit rfl <| n0 H (by kernel_rfl)
def u30J0 : Unit → Option (Bool)
 | _ =>
 some true
def u30L1 (a0 : Y44) (g1 : Int → Option (Bool)) : Int → Option (Bool)
 | v1 =>
 if (decide (v1 < (↑a0.2.2.length : Int))) = true then
  gd (ix v1 a0.2.2.length ∧ (u71 a0.2.1 v1).isSome = true ∧ (u70 (a0.2.2.getD v1.toNat (dflt y131)) (↑(vl (u71 a0.2.1 v1)).length : Int)).isSome = true ∧ True) <| lt (vl (u71 a0.2.1 v1)) fun v2 =>
  if (!vl (u70 (a0.2.2.getD v1.toNat (dflt y131)) (↑v2.length : Int))) = true then
   some false
  else
   gd (in64 (v1 + 1) ∧ True) <| 
   g1 (v1 + 1)
 else
  u30J0 ()
def u30 (a0 : Y44) : Option (Bool) :=
 gd ((u69 a0.1 a0.2.1).isSome = true ∧ True) <| 
 if (!vl (u69 a0.1 a0.2.1) || (↑a0.2.2.length : Int) != (↑a0.2.1.2.1.length : Int)) = true then
  some false
 else
  lp (u30L1 a0) 0
def k30 : Ct := lct 30 [.agg y44] (fun x => u30 x.1) (fun r : Bool => B r) (fun _ => ())
theorem o30 : Ok Tryz.prog k30 := by
 refine okl tok [.tmp 2] Tryz.func30 Tryz.ntmps30 rfl Tryz.results30 (by kernel_rfl) rfl ?_
 intro y ⟨a0, _⟩ r H Q hn hr
 have hT := tc o70 (tc o71 (tc o69 tn))
 refine qa tok hT [1] (St.mk [p 1 (AV.ptr 1 0)] [(1, Ob.box 44 (cellsD false y44 a0))]) (by kernel_rfl) ?_
 refine vx_seq <| ?_
 refine qb tok hT [1, 19] (St.mk [p 1 (AV.ptr 1 0), p 19 (B (!vl (u69 a0.1 a0.2.1) || (↑a0.2.2.length : Int) != (↑a0.2.1.2.1.length : Int)))] [(1, Ob.box 44 (cellsD false y44 a0))]) H (by kernel_rfl) fun H => ?_
 refine cd H (by kernel_rfl) (fun H => ?_) (fun H => ?_)
 ·refine qa tok hT [2] (St.mk [p 2 (B false)] [(1, Ob.box 44 (cellsD false y44 a0))]) (by kernel_rfl) ?_
  exact vx_ret <| fx_seq_ret <| hr H (by kernel_rfl)
 refine vx_skip <| fx_seq <| ?_
 refine jn r (fun (_ : Unit) => St.mk [] []) (u30J0) (fun _ H => ?_) (fun _ n0 e0 t0 => ?_)
 ·refine qa tok hT [2] (St.mk [p 2 (B true)] []) (by kernel_rfl) ?_
  exact vx_ret <| hr H (by kernel_rfl)
 refine qa tok hT [1, 3] (St.mk [p 1 (AV.ptr 1 0), p 3 (I 0)] [(1, Ob.box 44 (cellsD false y44 a0))]) (by kernel_rfl) ?_
 refine vx_block <| ?_
 refine lx (fun (v1 : Int) => St.mk [p 1 (AV.ptr 1 0), p 3 (I v1)] [(1, Ob.box 44 (cellsD false y44 a0))]) 0 H (by kernel_rfl) fun _ g1 b1 e1 t1 v1 H => ?_
 refine vx_seq <| ?_
 refine qa tok hT [1, 3, 24] (St.mk [p 1 (AV.ptr 1 0), p 3 (I v1), p 24 (B (decide (v1 < (↑a0.2.2.length : Int))))] [(1, Ob.box 44 (cellsD false y44 a0))]) (by kernel_rfl) ?_
 refine cd H (by kernel_rfl) (fun H => ?_) (fun H => ?_)
 ·refine vx_skip <| fx_seq <| vx_seq <| vx_block <| ?_
  refine qd tok hT [1, 3, 38] (fun v2 => St.mk [p 1 (AV.ptr 1 0), p 3 (I v1), p 38 (B !vl (u70 (a0.2.2.getD v1.toNat (dflt y131)) (↑v2.length : Int)))] [(35, Ob.arr 2 true i64 v2 0), (1, Ob.box 44 (cellsD false y44 a0))]) H (by kernel_rfl) fun v2 H => ?_
  refine cd H (by kernel_rfl) (fun H => ?_) (fun H => ?_)
  ·refine qa tok hT [2] (St.mk [p 2 (B false)] [(35, Ob.arr 2 true i64 v2 0), (1, Ob.box 44 (cellsD false y44 a0))]) (by kernel_rfl) ?_
   exact vx_ret <| fx_blk_ret <| fx_seq_ret <| t1 <| fx_blk_ret <| t0 <| hr H (by kernel_rfl)
  refine vx_skip <| fx_blk <| fx_seq <| ?_
  refine zb tok hT [1, 3] (St.mk [p 1 (AV.ptr 1 0), p 3 (I (v1 + 1))] [(35, Ob.arr 2 true i64 v2 0), (1, Ob.box 44 (cellsD false y44 a0))]) H (by kernel_rfl) fun H => ?_
  exact b1 H (by kernel_rfl)
 exact vx_exit <| fx_seq_exit <| e1 <| fx_blk_exit rfl <| n0 H (by kernel_rfl)
def u9 (a0 : Y44) : Option (Int) :=
 gd ((u30 a0).isSome = true ∧ True) <| 
 if (!vl (u30 a0)) = true then
  some (-1)
 else
  gd ((u31 a0).isSome = true ∧ True) <| lt (vl (u31 a0)) fun v0 =>
  some v0
def u112 (a0 : List Int) (a1 : Int) : Option (Int) :=
 gd (in64 (a1 - (↑a0.length : Int)) ∧ True) <| 
 if (decide (a1 - (↑a0.length : Int) < 0)) = true then
  some (-1)
 else
  some (a1 - (↑a0.length : Int))
def k112 : Ct := lct 112 [.dat i64.sl, .dat i64] (fun x => u112 x.1 x.2.1) (fun r : Int => I r) (fun _ => ())
theorem o112 : Ok Tryz.prog k112 := by
 refine okl tok [.tmp 4] Tryz.func112 Tryz.ntmps112 rfl Tryz.results112 (by kernel_rfl) rfl ?_
 intro y ⟨a0, a1, _⟩ r H Q hn hr
 have hT := @tn Tryz.prog
 refine qa tok hT [0, 1] (St.mk [p 0 (L i64 a0), p 1 (J a1)] []) (by kernel_rfl) ?_
 refine qb tok hT [1] (St.mk [p 1 (I (a1 - (↑a0.length : Int)))] []) H (by kernel_rfl) fun H => ?_
 refine vx_seq <| ?_
 refine qa tok hT [1, 10] (St.mk [p 1 (I (a1 - (↑a0.length : Int))), p 10 (B (decide (a1 - (↑a0.length : Int) < 0)))] []) (by kernel_rfl) ?_
 refine cd H (by kernel_rfl) (fun H => ?_) (fun H => ?_)
 ·refine qa tok hT [4] (St.mk [p 4 (I (-1))] []) (by kernel_rfl) ?_
  exact vx_ret <| fx_seq_ret <| hr H (by kernel_rfl)
 refine vx_skip <| fx_seq <| ?_
 refine qa tok hT [4] (St.mk [p 4 (I (a1 - (↑a0.length : Int)))] []) (by kernel_rfl) ?_
 exact vx_ret <| hr H (by kernel_rfl)
def u68 (a0 : Y128) (a1 : Int) : Option (Int) :=
 gd ((u112 a0.1 a1).isSome = true ∧ True) <| lt (vl (u112 a0.1 a1)) fun v0 =>
 if (decide (v0 < 0)) = true then
  some (-1)
 else
  gd ((u112 a0.2.1 v0).isSome = true ∧ True) <| lt (vl (u112 a0.2.1 v0)) fun v1 =>
  if (decide (v1 < 0)) = true then
   some (-1)
  else
   gd ((u112 a0.2.2.1 v1).isSome = true ∧ True) <| lt (vl (u112 a0.2.2.1 v1)) fun v2 =>
   if (decide (v2 < 0)) = true then
    some (-1)
   else
    gd ((u112 a0.2.2.2 v2).isSome = true ∧ True) <| lt (vl (u112 a0.2.2.2 v2)) fun v3 =>
    if (decide (v3 < 0)) = true then
     some (-1)
    else
     some v3
def k68 : Ct := lct 68 [.agg y128, .dat i64] (fun x => u68 x.1 x.2.1) (fun r : Int => I r) (fun _ => ())
theorem o68 : Ok Tryz.prog k68 := by
 refine okl tok [.tmp 4] Tryz.func68 Tryz.ntmps68 rfl Tryz.results68 (by kernel_rfl) rfl ?_
 intro y ⟨a0, a1, _⟩ r H Q hn hr
 have hT := tc o112 tn
 refine qa tok hT [1, 2] (St.mk [p 1 (J a1), p 2 (AV.ptr 2 0)] [(2, Ob.box 128 (cellsD false y128 a0))]) (by kernel_rfl) ?_
 refine qd tok hT [1, 2] (fun v0 => St.mk [p 1 (I v0), p 2 (AV.ptr 2 0)] [(2, Ob.box 128 (cellsD false y128 a0))]) H (by kernel_rfl) fun v0 H => ?_
 refine vx_seq <| ?_
 refine qa tok hT [1, 2, 10] (St.mk [p 1 (I v0), p 2 (AV.ptr 2 0), p 10 (B (decide (v0 < 0)))] [(2, Ob.box 128 (cellsD false y128 a0))]) (by kernel_rfl) ?_
 refine cd H (by kernel_rfl) (fun H => ?_) (fun H => ?_)
 ·refine qa tok hT [4] (St.mk [p 4 (I (-1))] [(2, Ob.box 128 (cellsD false y128 a0))]) (by kernel_rfl) ?_
  exact vx_ret <| fx_seq_ret <| hr H (by kernel_rfl)
 refine vx_skip <| fx_seq <| ?_
 refine qd tok hT [1, 2] (fun v1 => St.mk [p 1 (I v1), p 2 (AV.ptr 2 0)] [(2, Ob.box 128 (cellsD false y128 a0))]) H (by kernel_rfl) fun v1 H => ?_
 refine vx_seq <| ?_
 refine qa tok hT [1, 2, 16] (St.mk [p 1 (I v1), p 2 (AV.ptr 2 0), p 16 (B (decide (v1 < 0)))] [(2, Ob.box 128 (cellsD false y128 a0))]) (by kernel_rfl) ?_
 refine cd H (by kernel_rfl) (fun H => ?_) (fun H => ?_)
 ·refine qa tok hT [4] (St.mk [p 4 (I (-1))] [(2, Ob.box 128 (cellsD false y128 a0))]) (by kernel_rfl) ?_
  exact vx_ret <| fx_seq_ret <| hr H (by kernel_rfl)
 refine vx_skip <| fx_seq <| ?_
 refine qd tok hT [1, 2] (fun v2 => St.mk [p 1 (I v2), p 2 (AV.ptr 2 0)] [(2, Ob.box 128 (cellsD false y128 a0))]) H (by kernel_rfl) fun v2 H => ?_
 refine vx_seq <| ?_
 refine qa tok hT [1, 2, 22] (St.mk [p 1 (I v2), p 2 (AV.ptr 2 0), p 22 (B (decide (v2 < 0)))] [(2, Ob.box 128 (cellsD false y128 a0))]) (by kernel_rfl) ?_
 refine cd H (by kernel_rfl) (fun H => ?_) (fun H => ?_)
 ·refine qa tok hT [4] (St.mk [p 4 (I (-1))] [(2, Ob.box 128 (cellsD false y128 a0))]) (by kernel_rfl) ?_
  exact vx_ret <| fx_seq_ret <| hr H (by kernel_rfl)
 refine vx_skip <| fx_seq <| ?_
 refine qd tok hT [1] (fun v3 => St.mk [p 1 (I v3)] [(2, Ob.box 128 (cellsD false y128 a0))]) H (by kernel_rfl) fun v3 H => ?_
 refine vx_seq <| ?_
 refine qa tok hT [1, 28] (St.mk [p 1 (I v3), p 28 (B (decide (v3 < 0)))] [(2, Ob.box 128 (cellsD false y128 a0))]) (by kernel_rfl) ?_
 refine cd H (by kernel_rfl) (fun H => ?_) (fun H => ?_)
 ·refine qa tok hT [4] (St.mk [p 4 (I (-1))] [(2, Ob.box 128 (cellsD false y128 a0))]) (by kernel_rfl) ?_
  exact vx_ret <| fx_seq_ret <| hr H (by kernel_rfl)
 refine vx_skip <| fx_seq <| ?_
 refine qa tok hT [4] (St.mk [p 4 (I v3)] [(2, Ob.box 128 (cellsD false y128 a0))]) (by kernel_rfl) ?_
 exact vx_ret <| hr H (by kernel_rfl)
def u29J0 : Int → Option (Int)
 | v4 =>
 some v4
def u29L1 (a0 : List Y128) (g1 : Int × Int → Option (Int)) : Int × Int → Option (Int)
 | (v1, v2) =>
 if (decide (v2 < (↑a0.length : Int))) = true then
  gd (ix v2 a0.length ∧ (u68 (a0.getD v2.toNat (dflt y128)) v1).isSome = true ∧ True) <| lt (vl (u68 (a0.getD v2.toNat (dflt y128)) v1)) fun v3 =>
  if (decide (v3 < 0)) = true then
   some (-1)
  else
   gd (in64 (v2 + 1) ∧ True) <| 
   g1 (v3, v2 + 1)
 else
  u29J0 v1
def u29 (a0 : List Y128) (a1 : Int) : Option (Int) :=
 gd (in64 (a1 - (↑a0.length : Int)) ∧ True) <| 
 if (decide (a1 - (↑a0.length : Int) < 0)) = true then
  some (-1)
 else
  lp (u29L1 a0) ((a1 - (↑a0.length : Int), 0))
def k29 : Ct := lct 29 [.dat y128.sl, .dat i64] (fun x => u29 x.1 x.2.1) (fun r : Int => I r) (fun _ => ())
theorem o29 : Ok Tryz.prog k29 := by
 refine okl tok [.tmp 4] Tryz.func29 Tryz.ntmps29 rfl Tryz.results29 (by kernel_rfl) rfl ?_
 intro y ⟨a0, a1, _⟩ r H Q hn hr
 have hT := tc o68 tn
 refine qa tok hT [0, 1] (St.mk [p 0 (L y128 a0), p 1 (J a1)] []) (by kernel_rfl) ?_
 refine qb tok hT [0, 1] (St.mk [p 0 (L y128 a0), p 1 (I (a1 - (↑a0.length : Int)))] []) H (by kernel_rfl) fun H => ?_
 refine vx_seq <| ?_
 refine qa tok hT [0, 1, 11] (St.mk [p 0 (L y128 a0), p 1 (I (a1 - (↑a0.length : Int))), p 11 (B (decide (a1 - (↑a0.length : Int) < 0)))] []) (by kernel_rfl) ?_
 refine cd H (by kernel_rfl) (fun H => ?_) (fun H => ?_)
 ·refine qa tok hT [4] (St.mk [p 4 (I (-1))] []) (by kernel_rfl) ?_
  exact vx_ret <| fx_seq_ret <| hr H (by kernel_rfl)
 refine vx_skip <| fx_seq <| ?_
 refine jn r (fun (v4 : Int) => St.mk [p 1 (I v4)] []) (u29J0) (fun v4 H => ?_) (fun _ n0 e0 t0 => ?_)
 ·refine qa tok hT [4] (St.mk [p 4 (I v4)] []) (by kernel_rfl) ?_
  exact vx_ret <| hr H (by kernel_rfl)
 refine qa tok hT [0, 1, 5] (St.mk [p 0 (L y128 a0), p 1 (I (a1 - (↑a0.length : Int))), p 5 (I 0)] []) (by kernel_rfl) ?_
 refine vx_block <| ?_
 refine lx (fun ((v1, v2) : Int × Int) => St.mk [p 0 (L y128 a0), p 1 (I v1), p 5 (I v2)] []) ((a1 - (↑a0.length : Int), 0)) H (by kernel_rfl) fun _ g1 b1 e1 t1 ⟨v1, v2⟩ H => ?_
 refine vx_seq <| ?_
 refine qa tok hT [0, 1, 5, 15] (St.mk [p 0 (L y128 a0), p 1 (I v1), p 5 (I v2), p 15 (B (decide (v2 < (↑a0.length : Int))))] []) (by kernel_rfl) ?_
 refine cd H (by kernel_rfl) (fun H => ?_) (fun H => ?_)
 ·refine vx_skip <| fx_seq <| vx_seq <| vx_block <| ?_
  refine qd tok hT [0, 1, 5] (fun v3 => St.mk [p 0 (L y128 a0), p 1 (I v3), p 5 (I v2)] []) H (by kernel_rfl) fun v3 H => ?_
  refine qa tok hT [0, 1, 5, 25] (St.mk [p 0 (L y128 a0), p 1 (I v3), p 5 (I v2), p 25 (B (decide (v3 < 0)))] []) (by kernel_rfl) ?_
  refine cd H (by kernel_rfl) (fun H => ?_) (fun H => ?_)
  ·refine qa tok hT [4] (St.mk [p 4 (I (-1))] []) (by kernel_rfl) ?_
   exact vx_ret <| fx_blk_ret <| fx_seq_ret <| t1 <| fx_blk_ret <| t0 <| hr H (by kernel_rfl)
  refine vx_skip <| fx_blk <| fx_seq <| ?_
  refine zb tok hT [0, 1, 5] (St.mk [p 0 (L y128 a0), p 1 (I v3), p 5 (I (v2 + 1))] []) H (by kernel_rfl) fun H => ?_
  exact b1 H (by kernel_rfl)
 exact vx_exit <| fx_seq_exit <| e1 <| fx_blk_exit rfl <| n0 H (by kernel_rfl)
def u111 (a0 : Y191) (a1 : Int) : Option (Int) :=
 gd (in64 (a1 - (↑a0.1.size : Int)) ∧ True) <| 
 if (decide (a1 - (↑a0.1.size : Int) < 0)) = true then
  some (-1)
 else
  some (a1 - (↑a0.1.size : Int))
def k111 : Ct := lct 111 [.agg y191, .dat i64] (fun x => u111 x.1 x.2.1) (fun r : Int => I r) (fun _ => ())
theorem o111 : Ok Tryz.prog k111 := by
 refine okl tok [.tmp 4] Tryz.func111 Tryz.ntmps111 rfl Tryz.results111 (by kernel_rfl) rfl ?_
 intro y ⟨a0, a1, _⟩ r H Q hn hr
 have hT := @tn Tryz.prog
 refine qa tok hT [1, 2] (St.mk [p 1 (J a1), p 2 (AV.ptr 2 0)] [(2, Ob.box 191 (cellsD false y191 a0))]) (by kernel_rfl) ?_
 refine qb tok hT [1] (St.mk [p 1 (I (a1 - (↑a0.1.size : Int)))] [(2, Ob.box 191 (cellsD false y191 a0))]) H (by kernel_rfl) fun H => ?_
 refine vx_seq <| ?_
 refine qa tok hT [1, 11] (St.mk [p 1 (I (a1 - (↑a0.1.size : Int))), p 11 (B (decide (a1 - (↑a0.1.size : Int) < 0)))] [(2, Ob.box 191 (cellsD false y191 a0))]) (by kernel_rfl) ?_
 refine cd H (by kernel_rfl) (fun H => ?_) (fun H => ?_)
 ·refine qa tok hT [4] (St.mk [p 4 (I (-1))] [(2, Ob.box 191 (cellsD false y191 a0))]) (by kernel_rfl) ?_
  exact vx_ret <| fx_seq_ret <| hr H (by kernel_rfl)
 refine vx_skip <| fx_seq <| ?_
 refine qa tok hT [4] (St.mk [p 4 (I (a1 - (↑a0.1.size : Int)))] [(2, Ob.box 191 (cellsD false y191 a0))]) (by kernel_rfl) ?_
 exact vx_ret <| hr H (by kernel_rfl)
def u67J0 : Int → Option (Int)
 | v4 =>
 some v4
def u67L1 (a0 : List Y191) (g1 : Int × Int → Option (Int)) : Int × Int → Option (Int)
 | (v1, v2) =>
 if (decide (v2 < (↑a0.length : Int))) = true then
  gd (ix v2 a0.length ∧ (u111 (a0.getD v2.toNat (dflt y191)) v1).isSome = true ∧ True) <| lt (vl (u111 (a0.getD v2.toNat (dflt y191)) v1)) fun v3 =>
  if (decide (v3 < 0)) = true then
   some (-1)
  else
   gd (in64 (v2 + 1) ∧ True) <| 
   g1 (v3, v2 + 1)
 else
  u67J0 v1
def u67 (a0 : List Y191) (a1 : Int) : Option (Int) :=
 gd (in64 (a1 - (↑a0.length : Int)) ∧ True) <| 
 if (decide (a1 - (↑a0.length : Int) < 0)) = true then
  some (-1)
 else
  lp (u67L1 a0) ((a1 - (↑a0.length : Int), 0))
def k67 : Ct := lct 67 [.dat y191.sl, .dat i64] (fun x => u67 x.1 x.2.1) (fun r : Int => I r) (fun _ => ())
theorem o67 : Ok Tryz.prog k67 := by
 refine okl tok [.tmp 4] Tryz.func67 Tryz.ntmps67 rfl Tryz.results67 (by kernel_rfl) rfl ?_
 intro y ⟨a0, a1, _⟩ r H Q hn hr
 have hT := tc o111 tn
 refine qa tok hT [0, 1] (St.mk [p 0 (L y191 a0), p 1 (J a1)] []) (by kernel_rfl) ?_
 refine qb tok hT [0, 1] (St.mk [p 0 (L y191 a0), p 1 (I (a1 - (↑a0.length : Int)))] []) H (by kernel_rfl) fun H => ?_
 refine vx_seq <| ?_
 refine qa tok hT [0, 1, 11] (St.mk [p 0 (L y191 a0), p 1 (I (a1 - (↑a0.length : Int))), p 11 (B (decide (a1 - (↑a0.length : Int) < 0)))] []) (by kernel_rfl) ?_
 refine cd H (by kernel_rfl) (fun H => ?_) (fun H => ?_)
 ·refine qa tok hT [4] (St.mk [p 4 (I (-1))] []) (by kernel_rfl) ?_
  exact vx_ret <| fx_seq_ret <| hr H (by kernel_rfl)
 refine vx_skip <| fx_seq <| ?_
 refine jn r (fun (v4 : Int) => St.mk [p 1 (I v4)] []) (u67J0) (fun v4 H => ?_) (fun _ n0 e0 t0 => ?_)
 ·refine qa tok hT [4] (St.mk [p 4 (I v4)] []) (by kernel_rfl) ?_
  exact vx_ret <| hr H (by kernel_rfl)
 refine qa tok hT [0, 1, 5] (St.mk [p 0 (L y191 a0), p 1 (I (a1 - (↑a0.length : Int))), p 5 (I 0)] []) (by kernel_rfl) ?_
 refine vx_block <| ?_
 refine lx (fun ((v1, v2) : Int × Int) => St.mk [p 0 (L y191 a0), p 1 (I v1), p 5 (I v2)] []) ((a1 - (↑a0.length : Int), 0)) H (by kernel_rfl) fun _ g1 b1 e1 t1 ⟨v1, v2⟩ H => ?_
 refine vx_seq <| ?_
 refine qa tok hT [0, 1, 5, 15] (St.mk [p 0 (L y191 a0), p 1 (I v1), p 5 (I v2), p 15 (B (decide (v2 < (↑a0.length : Int))))] []) (by kernel_rfl) ?_
 refine cd H (by kernel_rfl) (fun H => ?_) (fun H => ?_)
 ·refine vx_skip <| fx_seq <| vx_seq <| vx_block <| ?_
  refine qd tok hT [0, 1, 5] (fun v3 => St.mk [p 0 (L y191 a0), p 1 (I v3), p 5 (I v2)] []) H (by kernel_rfl) fun v3 H => ?_
  refine qa tok hT [0, 1, 5, 25] (St.mk [p 0 (L y191 a0), p 1 (I v3), p 5 (I v2), p 25 (B (decide (v3 < 0)))] []) (by kernel_rfl) ?_
  refine cd H (by kernel_rfl) (fun H => ?_) (fun H => ?_)
  ·refine qa tok hT [4] (St.mk [p 4 (I (-1))] []) (by kernel_rfl) ?_
   exact vx_ret <| fx_blk_ret <| fx_seq_ret <| t1 <| fx_blk_ret <| t0 <| hr H (by kernel_rfl)
  refine vx_skip <| fx_blk <| fx_seq <| ?_
  refine zb tok hT [0, 1, 5] (St.mk [p 0 (L y191 a0), p 1 (I v3), p 5 (I (v2 + 1))] []) H (by kernel_rfl) fun H => ?_
  exact b1 H (by kernel_rfl)
 exact vx_exit <| fx_seq_exit <| e1 <| fx_blk_exit rfl <| n0 H (by kernel_rfl)
def u66J0 : Int → Option (Int)
 | v4 =>
 some v4
def u66L1 (a0 : List ByteArray) (g1 : Int × Int → Option (Int)) : Int × Int → Option (Int)
 | (v1, v2) =>
 if (decide (v2 < (↑a0.length : Int))) = true then
  gd (ix v2 a0.length ∧ in64 (v1 - (↑(ByteArray.size (a0.getD v2.toNat (dflt Ty.str))) : Int)) ∧ True) <| lt (v1 - (↑(ByteArray.size (a0.getD v2.toNat (dflt Ty.str))) : Int)) fun v3 =>
  if (decide (v3 < 0)) = true then
   some (-1)
  else
   gd (in64 (v2 + 1) ∧ True) <| 
   g1 (v3, v2 + 1)
 else
  u66J0 v1
def u66 (a0 : List ByteArray) (a1 : Int) : Option (Int) :=
 gd (in64 (a1 - (↑a0.length : Int)) ∧ True) <| 
 if (decide (a1 - (↑a0.length : Int) < 0)) = true then
  some (-1)
 else
  lp (u66L1 a0) ((a1 - (↑a0.length : Int), 0))
def k66 : Ct := lct 66 [.dat Ty.str.sl, .dat i64] (fun x => u66 x.1 x.2.1) (fun r : Int => I r) (fun _ => ())
theorem o66 : Ok Tryz.prog k66 := by
 refine okl tok [.tmp 4] Tryz.func66 Tryz.ntmps66 rfl Tryz.results66 (by kernel_rfl) rfl ?_
 intro y ⟨a0, a1, _⟩ r H Q hn hr
 have hT := @tn Tryz.prog
 refine qa tok hT [0, 1] (St.mk [p 0 (L Ty.str a0), p 1 (J a1)] []) (by kernel_rfl) ?_
 refine qb tok hT [0, 1] (St.mk [p 0 (L Ty.str a0), p 1 (I (a1 - (↑a0.length : Int)))] []) H (by kernel_rfl) fun H => ?_
 refine vx_seq <| ?_
 refine qa tok hT [0, 1, 11] (St.mk [p 0 (L Ty.str a0), p 1 (I (a1 - (↑a0.length : Int))), p 11 (B (decide (a1 - (↑a0.length : Int) < 0)))] []) (by kernel_rfl) ?_
 refine cd H (by kernel_rfl) (fun H => ?_) (fun H => ?_)
 ·refine qa tok hT [4] (St.mk [p 4 (I (-1))] []) (by kernel_rfl) ?_
  exact vx_ret <| fx_seq_ret <| hr H (by kernel_rfl)
 refine vx_skip <| fx_seq <| ?_
 refine jn r (fun (v4 : Int) => St.mk [p 1 (I v4)] []) (u66J0) (fun v4 H => ?_) (fun _ n0 e0 t0 => ?_)
 ·refine qa tok hT [4] (St.mk [p 4 (I v4)] []) (by kernel_rfl) ?_
  exact vx_ret <| hr H (by kernel_rfl)
 refine qa tok hT [0, 1, 5] (St.mk [p 0 (L Ty.str a0), p 1 (I (a1 - (↑a0.length : Int))), p 5 (I 0)] []) (by kernel_rfl) ?_
 refine vx_block <| ?_
 refine lx (fun ((v1, v2) : Int × Int) => St.mk [p 0 (L Ty.str a0), p 1 (I v1), p 5 (I v2)] []) ((a1 - (↑a0.length : Int), 0)) H (by kernel_rfl) fun _ g1 b1 e1 t1 ⟨v1, v2⟩ H => ?_
 refine vx_seq <| ?_
 refine qa tok hT [0, 1, 5, 15] (St.mk [p 0 (L Ty.str a0), p 1 (I v1), p 5 (I v2), p 15 (B (decide (v2 < (↑a0.length : Int))))] []) (by kernel_rfl) ?_
 refine cd H (by kernel_rfl) (fun H => ?_) (fun H => ?_)
 ·refine vx_skip <| fx_seq <| vx_seq <| vx_block <| ?_
  refine qd tok hT [0, 1, 5] (fun v3 => St.mk [p 0 (L Ty.str a0), p 1 (I v3), p 5 (I v2)] []) H (by kernel_rfl) fun v3 H => ?_
  refine qa tok hT [0, 1, 5, 26] (St.mk [p 0 (L Ty.str a0), p 1 (I v3), p 5 (I v2), p 26 (B (decide (v3 < 0)))] []) (by kernel_rfl) ?_
  refine cd H (by kernel_rfl) (fun H => ?_) (fun H => ?_)
  ·refine qa tok hT [4] (St.mk [p 4 (I (-1))] []) (by kernel_rfl) ?_
   exact vx_ret <| fx_blk_ret <| fx_seq_ret <| t1 <| fx_blk_ret <| t0 <| hr H (by kernel_rfl)
  refine vx_skip <| fx_blk <| fx_seq <| ?_
  refine zb tok hT [0, 1, 5] (St.mk [p 0 (L Ty.str a0), p 1 (I v3), p 5 (I (v2 + 1))] []) H (by kernel_rfl) fun H => ?_
  exact b1 H (by kernel_rfl)
 exact vx_exit <| fx_seq_exit <| e1 <| fx_blk_exit rfl <| n0 H (by kernel_rfl)
def u110 (a0 : Y189) (a1 : Int) : Option (Int) :=
 gd (in64 (a1 - (↑a0.1.size : Int)) ∧ True) <| 
 if (decide (a1 - (↑a0.1.size : Int) < 0)) = true then
  some (-1)
 else
  gd ((u112 a0.2.2 (a1 - (↑a0.1.size : Int))).isSome = true ∧ True) <| lt (vl (u112 a0.2.2 (a1 - (↑a0.1.size : Int)))) fun v0 =>
  if (decide (v0 < 0)) = true then
   some (-1)
  else
   some v0
def k110 : Ct := lct 110 [.agg y189, .dat i64] (fun x => u110 x.1 x.2.1) (fun r : Int => I r) (fun _ => ())
theorem o110 : Ok Tryz.prog k110 := by
 refine okl tok [.tmp 4] Tryz.func110 Tryz.ntmps110 rfl Tryz.results110 (by kernel_rfl) rfl ?_
 intro y ⟨a0, a1, _⟩ r H Q hn hr
 have hT := tc o112 tn
 refine qa tok hT [1, 2] (St.mk [p 1 (J a1), p 2 (AV.ptr 2 0)] [(2, Ob.box 189 (cellsD false y189 a0))]) (by kernel_rfl) ?_
 refine qb tok hT [1, 2] (St.mk [p 1 (I (a1 - (↑a0.1.size : Int))), p 2 (AV.ptr 2 0)] [(2, Ob.box 189 (cellsD false y189 a0))]) H (by kernel_rfl) fun H => ?_
 refine vx_seq <| ?_
 refine qa tok hT [1, 2, 11] (St.mk [p 1 (I (a1 - (↑a0.1.size : Int))), p 2 (AV.ptr 2 0), p 11 (B (decide (a1 - (↑a0.1.size : Int) < 0)))] [(2, Ob.box 189 (cellsD false y189 a0))]) (by kernel_rfl) ?_
 refine cd H (by kernel_rfl) (fun H => ?_) (fun H => ?_)
 ·refine qa tok hT [4] (St.mk [p 4 (I (-1))] [(2, Ob.box 189 (cellsD false y189 a0))]) (by kernel_rfl) ?_
  exact vx_ret <| fx_seq_ret <| hr H (by kernel_rfl)
 refine vx_skip <| fx_seq <| ?_
 refine qd tok hT [1] (fun v0 => St.mk [p 1 (I v0)] [(2, Ob.box 189 (cellsD false y189 a0))]) H (by kernel_rfl) fun v0 H => ?_
 refine vx_seq <| ?_
 refine qa tok hT [1, 17] (St.mk [p 1 (I v0), p 17 (B (decide (v0 < 0)))] [(2, Ob.box 189 (cellsD false y189 a0))]) (by kernel_rfl) ?_
 refine cd H (by kernel_rfl) (fun H => ?_) (fun H => ?_)
 ·refine qa tok hT [4] (St.mk [p 4 (I (-1))] [(2, Ob.box 189 (cellsD false y189 a0))]) (by kernel_rfl) ?_
  exact vx_ret <| fx_seq_ret <| hr H (by kernel_rfl)
 refine vx_skip <| fx_seq <| ?_
 refine qa tok hT [4] (St.mk [p 4 (I v0)] [(2, Ob.box 189 (cellsD false y189 a0))]) (by kernel_rfl) ?_
 exact vx_ret <| hr H (by kernel_rfl)
def u65J0 : Int → Option (Int)
 | v4 =>
 some v4
def u65L1 (a0 : List Y189) (g1 : Int × Int → Option (Int)) : Int × Int → Option (Int)
 | (v1, v2) =>
 if (decide (v2 < (↑a0.length : Int))) = true then
  gd (ix v2 a0.length ∧ (u110 (a0.getD v2.toNat (dflt y189)) v1).isSome = true ∧ True) <| lt (vl (u110 (a0.getD v2.toNat (dflt y189)) v1)) fun v3 =>
  if (decide (v3 < 0)) = true then
   some (-1)
  else
   gd (in64 (v2 + 1) ∧ True) <| 
   g1 (v3, v2 + 1)
 else
  u65J0 v1
def u65 (a0 : List Y189) (a1 : Int) : Option (Int) :=
 gd (in64 (a1 - (↑a0.length : Int)) ∧ True) <| 
 if (decide (a1 - (↑a0.length : Int) < 0)) = true then
  some (-1)
 else
  lp (u65L1 a0) ((a1 - (↑a0.length : Int), 0))
def k65 : Ct := lct 65 [.dat y189.sl, .dat i64] (fun x => u65 x.1 x.2.1) (fun r : Int => I r) (fun _ => ())
theorem o65 : Ok Tryz.prog k65 := by
 refine okl tok [.tmp 4] Tryz.func65 Tryz.ntmps65 rfl Tryz.results65 (by kernel_rfl) rfl ?_
 intro y ⟨a0, a1, _⟩ r H Q hn hr
 have hT := tc o110 tn
 refine qa tok hT [0, 1] (St.mk [p 0 (L y189 a0), p 1 (J a1)] []) (by kernel_rfl) ?_
 refine qb tok hT [0, 1] (St.mk [p 0 (L y189 a0), p 1 (I (a1 - (↑a0.length : Int)))] []) H (by kernel_rfl) fun H => ?_
 refine vx_seq <| ?_
 refine qa tok hT [0, 1, 11] (St.mk [p 0 (L y189 a0), p 1 (I (a1 - (↑a0.length : Int))), p 11 (B (decide (a1 - (↑a0.length : Int) < 0)))] []) (by kernel_rfl) ?_
 refine cd H (by kernel_rfl) (fun H => ?_) (fun H => ?_)
 ·refine qa tok hT [4] (St.mk [p 4 (I (-1))] []) (by kernel_rfl) ?_
  exact vx_ret <| fx_seq_ret <| hr H (by kernel_rfl)
 refine vx_skip <| fx_seq <| ?_
 refine jn r (fun (v4 : Int) => St.mk [p 1 (I v4)] []) (u65J0) (fun v4 H => ?_) (fun _ n0 e0 t0 => ?_)
 ·refine qa tok hT [4] (St.mk [p 4 (I v4)] []) (by kernel_rfl) ?_
  exact vx_ret <| hr H (by kernel_rfl)
 refine qa tok hT [0, 1, 5] (St.mk [p 0 (L y189 a0), p 1 (I (a1 - (↑a0.length : Int))), p 5 (I 0)] []) (by kernel_rfl) ?_
 refine vx_block <| ?_
 refine lx (fun ((v1, v2) : Int × Int) => St.mk [p 0 (L y189 a0), p 1 (I v1), p 5 (I v2)] []) ((a1 - (↑a0.length : Int), 0)) H (by kernel_rfl) fun _ g1 b1 e1 t1 ⟨v1, v2⟩ H => ?_
 refine vx_seq <| ?_
 refine qa tok hT [0, 1, 5, 15] (St.mk [p 0 (L y189 a0), p 1 (I v1), p 5 (I v2), p 15 (B (decide (v2 < (↑a0.length : Int))))] []) (by kernel_rfl) ?_
 refine cd H (by kernel_rfl) (fun H => ?_) (fun H => ?_)
 ·refine vx_skip <| fx_seq <| vx_seq <| vx_block <| ?_
  refine qd tok hT [0, 1, 5] (fun v3 => St.mk [p 0 (L y189 a0), p 1 (I v3), p 5 (I v2)] []) H (by kernel_rfl) fun v3 H => ?_
  refine qa tok hT [0, 1, 5, 25] (St.mk [p 0 (L y189 a0), p 1 (I v3), p 5 (I v2), p 25 (B (decide (v3 < 0)))] []) (by kernel_rfl) ?_
  refine cd H (by kernel_rfl) (fun H => ?_) (fun H => ?_)
  ·refine qa tok hT [4] (St.mk [p 4 (I (-1))] []) (by kernel_rfl) ?_
   exact vx_ret <| fx_blk_ret <| fx_seq_ret <| t1 <| fx_blk_ret <| t0 <| hr H (by kernel_rfl)
  refine vx_skip <| fx_blk <| fx_seq <| ?_
  refine zb tok hT [0, 1, 5] (St.mk [p 0 (L y189 a0), p 1 (I v3), p 5 (I (v2 + 1))] []) H (by kernel_rfl) fun H => ?_
  exact b1 H (by kernel_rfl)
 exact vx_exit <| fx_seq_exit <| e1 <| fx_blk_exit rfl <| n0 H (by kernel_rfl)
def u28 (a0 : Y29) (a1 : Int) : Option (Int) :=
 gd ((u65 a0.1 a1).isSome = true ∧ True) <| lt (vl (u65 a0.1 a1)) fun v0 =>
 if (decide (v0 < 0)) = true then
  some (-1)
 else
  gd ((u66 a0.2.1 v0).isSome = true ∧ True) <| lt (vl (u66 a0.2.1 v0)) fun v1 =>
  if (decide (v1 < 0)) = true then
   some (-1)
  else
   gd ((u67 a0.2.2 v1).isSome = true ∧ True) <| lt (vl (u67 a0.2.2 v1)) fun v2 =>
   if (decide (v2 < 0)) = true then
    some (-1)
   else
    some v2
def k28 : Ct := lct 28 [.agg y29, .dat i64] (fun x => u28 x.1 x.2.1) (fun r : Int => I r) (fun _ => ())
theorem o28 : Ok Tryz.prog k28 := by
 refine okl tok [.tmp 4] Tryz.func28 Tryz.ntmps28 rfl Tryz.results28 (by kernel_rfl) rfl ?_
 intro y ⟨a0, a1, _⟩ r H Q hn hr
 have hT := tc o67 (tc o66 (tc o65 tn))
 refine qa tok hT [1, 2] (St.mk [p 1 (J a1), p 2 (AV.ptr 2 0)] [(2, Ob.box 29 (cellsD false y29 a0))]) (by kernel_rfl) ?_
 refine qd tok hT [1, 2] (fun v0 => St.mk [p 1 (I v0), p 2 (AV.ptr 2 0)] [(2, Ob.box 29 (cellsD false y29 a0))]) H (by kernel_rfl) fun v0 H => ?_
 refine vx_seq <| ?_
 refine qa tok hT [1, 2, 10] (St.mk [p 1 (I v0), p 2 (AV.ptr 2 0), p 10 (B (decide (v0 < 0)))] [(2, Ob.box 29 (cellsD false y29 a0))]) (by kernel_rfl) ?_
 refine cd H (by kernel_rfl) (fun H => ?_) (fun H => ?_)
 ·refine qa tok hT [4] (St.mk [p 4 (I (-1))] [(2, Ob.box 29 (cellsD false y29 a0))]) (by kernel_rfl) ?_
  exact vx_ret <| fx_seq_ret <| hr H (by kernel_rfl)
 refine vx_skip <| fx_seq <| ?_
 refine qd tok hT [1, 2] (fun v1 => St.mk [p 1 (I v1), p 2 (AV.ptr 2 0)] [(2, Ob.box 29 (cellsD false y29 a0))]) H (by kernel_rfl) fun v1 H => ?_
 refine vx_seq <| ?_
 refine qa tok hT [1, 2, 16] (St.mk [p 1 (I v1), p 2 (AV.ptr 2 0), p 16 (B (decide (v1 < 0)))] [(2, Ob.box 29 (cellsD false y29 a0))]) (by kernel_rfl) ?_
 refine cd H (by kernel_rfl) (fun H => ?_) (fun H => ?_)
 ·refine qa tok hT [4] (St.mk [p 4 (I (-1))] [(2, Ob.box 29 (cellsD false y29 a0))]) (by kernel_rfl) ?_
  exact vx_ret <| fx_seq_ret <| hr H (by kernel_rfl)
 refine vx_skip <| fx_seq <| ?_
 refine qd tok hT [1] (fun v2 => St.mk [p 1 (I v2)] [(2, Ob.box 29 (cellsD false y29 a0))]) H (by kernel_rfl) fun v2 H => ?_
 refine vx_seq <| ?_
 refine qa tok hT [1, 22] (St.mk [p 1 (I v2), p 22 (B (decide (v2 < 0)))] [(2, Ob.box 29 (cellsD false y29 a0))]) (by kernel_rfl) ?_
 refine cd H (by kernel_rfl) (fun H => ?_) (fun H => ?_)
 ·refine qa tok hT [4] (St.mk [p 4 (I (-1))] [(2, Ob.box 29 (cellsD false y29 a0))]) (by kernel_rfl) ?_
  exact vx_ret <| fx_seq_ret <| hr H (by kernel_rfl)
 refine vx_skip <| fx_seq <| ?_
 refine qa tok hT [4] (St.mk [p 4 (I v2)] [(2, Ob.box 29 (cellsD false y29 a0))]) (by kernel_rfl) ?_
 exact vx_ret <| hr H (by kernel_rfl)
def u186 (a0 : Y258) (a1 : Int) : Option (Int) :=
 gd ((u112 a0.1 a1).isSome = true ∧ True) <| lt (vl (u112 a0.1 a1)) fun v0 =>
 if (decide (v0 < 0)) = true then
  some (-1)
 else
  gd ((u112 a0.2.1 v0).isSome = true ∧ True) <| lt (vl (u112 a0.2.1 v0)) fun v1 =>
  if (decide (v1 < 0)) = true then
   some (-1)
  else
   gd ((u112 a0.2.2 v1).isSome = true ∧ True) <| lt (vl (u112 a0.2.2 v1)) fun v2 =>
   if (decide (v2 < 0)) = true then
    some (-1)
   else
    some v2
def k186 : Ct := lct 186 [.agg y258, .dat i64] (fun x => u186 x.1 x.2.1) (fun r : Int => I r) (fun _ => ())
theorem o186 : Ok Tryz.prog k186 := by
 refine okl tok [.tmp 4] Tryz.func186 Tryz.ntmps186 rfl Tryz.results186 (by kernel_rfl) rfl ?_
 intro y ⟨a0, a1, _⟩ r H Q hn hr
 have hT := tc o112 tn
 refine qa tok hT [1, 2] (St.mk [p 1 (J a1), p 2 (AV.ptr 2 0)] [(2, Ob.box 258 (cellsD false y258 a0))]) (by kernel_rfl) ?_
 refine qd tok hT [1, 2] (fun v0 => St.mk [p 1 (I v0), p 2 (AV.ptr 2 0)] [(2, Ob.box 258 (cellsD false y258 a0))]) H (by kernel_rfl) fun v0 H => ?_
 refine vx_seq <| ?_
 refine qa tok hT [1, 2, 10] (St.mk [p 1 (I v0), p 2 (AV.ptr 2 0), p 10 (B (decide (v0 < 0)))] [(2, Ob.box 258 (cellsD false y258 a0))]) (by kernel_rfl) ?_
 refine cd H (by kernel_rfl) (fun H => ?_) (fun H => ?_)
 ·refine qa tok hT [4] (St.mk [p 4 (I (-1))] [(2, Ob.box 258 (cellsD false y258 a0))]) (by kernel_rfl) ?_
  exact vx_ret <| fx_seq_ret <| hr H (by kernel_rfl)
 refine vx_skip <| fx_seq <| ?_
 refine qd tok hT [1, 2] (fun v1 => St.mk [p 1 (I v1), p 2 (AV.ptr 2 0)] [(2, Ob.box 258 (cellsD false y258 a0))]) H (by kernel_rfl) fun v1 H => ?_
 refine vx_seq <| ?_
 refine qa tok hT [1, 2, 16] (St.mk [p 1 (I v1), p 2 (AV.ptr 2 0), p 16 (B (decide (v1 < 0)))] [(2, Ob.box 258 (cellsD false y258 a0))]) (by kernel_rfl) ?_
 refine cd H (by kernel_rfl) (fun H => ?_) (fun H => ?_)
 ·refine qa tok hT [4] (St.mk [p 4 (I (-1))] [(2, Ob.box 258 (cellsD false y258 a0))]) (by kernel_rfl) ?_
  exact vx_ret <| fx_seq_ret <| hr H (by kernel_rfl)
 refine vx_skip <| fx_seq <| ?_
 refine qd tok hT [1] (fun v2 => St.mk [p 1 (I v2)] [(2, Ob.box 258 (cellsD false y258 a0))]) H (by kernel_rfl) fun v2 H => ?_
 refine vx_seq <| ?_
 refine qa tok hT [1, 22] (St.mk [p 1 (I v2), p 22 (B (decide (v2 < 0)))] [(2, Ob.box 258 (cellsD false y258 a0))]) (by kernel_rfl) ?_
 refine cd H (by kernel_rfl) (fun H => ?_) (fun H => ?_)
 ·refine qa tok hT [4] (St.mk [p 4 (I (-1))] [(2, Ob.box 258 (cellsD false y258 a0))]) (by kernel_rfl) ?_
  exact vx_ret <| fx_seq_ret <| hr H (by kernel_rfl)
 refine vx_skip <| fx_seq <| ?_
 refine qa tok hT [4] (St.mk [p 4 (I v2)] [(2, Ob.box 258 (cellsD false y258 a0))]) (by kernel_rfl) ?_
 exact vx_ret <| hr H (by kernel_rfl)
def u173J0 : Int → Option (Int)
 | v4 =>
 some v4
def u173L1 (a0 : List Y258) (g1 : Int × Int → Option (Int)) : Int × Int → Option (Int)
 | (v1, v2) =>
 if (decide (v2 < (↑a0.length : Int))) = true then
  gd (ix v2 a0.length ∧ (u186 (a0.getD v2.toNat (dflt y258)) v1).isSome = true ∧ True) <| lt (vl (u186 (a0.getD v2.toNat (dflt y258)) v1)) fun v3 =>
  if (decide (v3 < 0)) = true then
   some (-1)
  else
   gd (in64 (v2 + 1) ∧ True) <| 
   g1 (v3, v2 + 1)
 else
  u173J0 v1
def u173 (a0 : List Y258) (a1 : Int) : Option (Int) :=
 gd (in64 (a1 - (↑a0.length : Int)) ∧ True) <| 
 if (decide (a1 - (↑a0.length : Int) < 0)) = true then
  some (-1)
 else
  lp (u173L1 a0) ((a1 - (↑a0.length : Int), 0))
def k173 : Ct := lct 173 [.dat y258.sl, .dat i64] (fun x => u173 x.1 x.2.1) (fun r : Int => I r) (fun _ => ())
theorem o173 : Ok Tryz.prog k173 := by
 refine okl tok [.tmp 4] Tryz.func173 Tryz.ntmps173 rfl Tryz.results173 (by kernel_rfl) rfl ?_
 intro y ⟨a0, a1, _⟩ r H Q hn hr
 have hT := tc o186 tn
 refine qa tok hT [0, 1] (St.mk [p 0 (L y258 a0), p 1 (J a1)] []) (by kernel_rfl) ?_
 refine qb tok hT [0, 1] (St.mk [p 0 (L y258 a0), p 1 (I (a1 - (↑a0.length : Int)))] []) H (by kernel_rfl) fun H => ?_
 refine vx_seq <| ?_
 refine qa tok hT [0, 1, 11] (St.mk [p 0 (L y258 a0), p 1 (I (a1 - (↑a0.length : Int))), p 11 (B (decide (a1 - (↑a0.length : Int) < 0)))] []) (by kernel_rfl) ?_
 refine cd H (by kernel_rfl) (fun H => ?_) (fun H => ?_)
 ·refine qa tok hT [4] (St.mk [p 4 (I (-1))] []) (by kernel_rfl) ?_
  exact vx_ret <| fx_seq_ret <| hr H (by kernel_rfl)
 refine vx_skip <| fx_seq <| ?_
 refine jn r (fun (v4 : Int) => St.mk [p 1 (I v4)] []) (u173J0) (fun v4 H => ?_) (fun _ n0 e0 t0 => ?_)
 ·refine qa tok hT [4] (St.mk [p 4 (I v4)] []) (by kernel_rfl) ?_
  exact vx_ret <| hr H (by kernel_rfl)
 refine qa tok hT [0, 1, 5] (St.mk [p 0 (L y258 a0), p 1 (I (a1 - (↑a0.length : Int))), p 5 (I 0)] []) (by kernel_rfl) ?_
 refine vx_block <| ?_
 refine lx (fun ((v1, v2) : Int × Int) => St.mk [p 0 (L y258 a0), p 1 (I v1), p 5 (I v2)] []) ((a1 - (↑a0.length : Int), 0)) H (by kernel_rfl) fun _ g1 b1 e1 t1 ⟨v1, v2⟩ H => ?_
 refine vx_seq <| ?_
 refine qa tok hT [0, 1, 5, 15] (St.mk [p 0 (L y258 a0), p 1 (I v1), p 5 (I v2), p 15 (B (decide (v2 < (↑a0.length : Int))))] []) (by kernel_rfl) ?_
 refine cd H (by kernel_rfl) (fun H => ?_) (fun H => ?_)
 ·refine vx_skip <| fx_seq <| vx_seq <| vx_block <| ?_
  refine qd tok hT [0, 1, 5] (fun v3 => St.mk [p 0 (L y258 a0), p 1 (I v3), p 5 (I v2)] []) H (by kernel_rfl) fun v3 H => ?_
  refine qa tok hT [0, 1, 5, 25] (St.mk [p 0 (L y258 a0), p 1 (I v3), p 5 (I v2), p 25 (B (decide (v3 < 0)))] []) (by kernel_rfl) ?_
  refine cd H (by kernel_rfl) (fun H => ?_) (fun H => ?_)
  ·refine qa tok hT [4] (St.mk [p 4 (I (-1))] []) (by kernel_rfl) ?_
   exact vx_ret <| fx_blk_ret <| fx_seq_ret <| t1 <| fx_blk_ret <| t0 <| hr H (by kernel_rfl)
  refine vx_skip <| fx_blk <| fx_seq <| ?_
  refine zb tok hT [0, 1, 5] (St.mk [p 0 (L y258 a0), p 1 (I v3), p 5 (I (v2 + 1))] []) H (by kernel_rfl) fun H => ?_
  exact b1 H (by kernel_rfl)
 exact vx_exit <| fx_seq_exit <| e1 <| fx_blk_exit rfl <| n0 H (by kernel_rfl)
def u158 (a0 : Y236) (a1 : Int) : Option (Int) :=
 gd ((u173 a0.2.2.2.2.1 a1).isSome = true ∧ True) <| lt (vl (u173 a0.2.2.2.2.1 a1)) fun v0 =>
 if (decide (v0 < 0)) = true then
  some (-1)
 else
  gd ((u173 a0.2.2.2.2.2 v0).isSome = true ∧ True) <| lt (vl (u173 a0.2.2.2.2.2 v0)) fun v1 =>
  if (decide (v1 < 0)) = true then
   some (-1)
  else
   some v1
def k158 : Ct := lct 158 [.agg y236, .dat i64] (fun x => u158 x.1 x.2.1) (fun r : Int => I r) (fun _ => ())
theorem o158 : Ok Tryz.prog k158 := by
 refine okl tok [.tmp 4] Tryz.func158 Tryz.ntmps158 rfl Tryz.results158 (by kernel_rfl) rfl ?_
 intro y ⟨a0, a1, _⟩ r H Q hn hr
 have hT := tc o173 tn
 refine qa tok hT [1, 2] (St.mk [p 1 (J a1), p 2 (AV.ptr 2 0)] [(2, Ob.box 236 (cellsD false y236 a0))]) (by kernel_rfl) ?_
 refine qd tok hT [1, 2] (fun v0 => St.mk [p 1 (I v0), p 2 (AV.ptr 2 0)] [(2, Ob.box 236 (cellsD false y236 a0))]) H (by kernel_rfl) fun v0 H => ?_
 refine vx_seq <| ?_
 refine qa tok hT [1, 2, 10] (St.mk [p 1 (I v0), p 2 (AV.ptr 2 0), p 10 (B (decide (v0 < 0)))] [(2, Ob.box 236 (cellsD false y236 a0))]) (by kernel_rfl) ?_
 refine cd H (by kernel_rfl) (fun H => ?_) (fun H => ?_)
 ·refine qa tok hT [4] (St.mk [p 4 (I (-1))] [(2, Ob.box 236 (cellsD false y236 a0))]) (by kernel_rfl) ?_
  exact vx_ret <| fx_seq_ret <| hr H (by kernel_rfl)
 refine vx_skip <| fx_seq <| ?_
 refine qd tok hT [1] (fun v1 => St.mk [p 1 (I v1)] [(2, Ob.box 236 (cellsD false y236 a0))]) H (by kernel_rfl) fun v1 H => ?_
 refine vx_seq <| ?_
 refine qa tok hT [1, 16] (St.mk [p 1 (I v1), p 16 (B (decide (v1 < 0)))] [(2, Ob.box 236 (cellsD false y236 a0))]) (by kernel_rfl) ?_
 refine cd H (by kernel_rfl) (fun H => ?_) (fun H => ?_)
 ·refine qa tok hT [4] (St.mk [p 4 (I (-1))] [(2, Ob.box 236 (cellsD false y236 a0))]) (by kernel_rfl) ?_
  exact vx_ret <| fx_seq_ret <| hr H (by kernel_rfl)
 refine vx_skip <| fx_seq <| ?_
 refine qa tok hT [4] (St.mk [p 4 (I v1)] [(2, Ob.box 236 (cellsD false y236 a0))]) (by kernel_rfl) ?_
 exact vx_ret <| hr H (by kernel_rfl)
def u140J0 : Int → Option (Int)
 | v4 =>
 some v4
def u140L1 (a0 : List Y236) (g1 : Int × Int → Option (Int)) : Int × Int → Option (Int)
 | (v1, v2) =>
 if (decide (v2 < (↑a0.length : Int))) = true then
  gd (ix v2 a0.length ∧ (u158 (a0.getD v2.toNat (dflt y236)) v1).isSome = true ∧ True) <| lt (vl (u158 (a0.getD v2.toNat (dflt y236)) v1)) fun v3 =>
  if (decide (v3 < 0)) = true then
   some (-1)
  else
   gd (in64 (v2 + 1) ∧ True) <| 
   g1 (v3, v2 + 1)
 else
  u140J0 v1
def u140 (a0 : List Y236) (a1 : Int) : Option (Int) :=
 gd (in64 (a1 - (↑a0.length : Int)) ∧ True) <| 
 if (decide (a1 - (↑a0.length : Int) < 0)) = true then
  some (-1)
 else
  lp (u140L1 a0) ((a1 - (↑a0.length : Int), 0))
def k140 : Ct := lct 140 [.dat y236.sl, .dat i64] (fun x => u140 x.1 x.2.1) (fun r : Int => I r) (fun _ => ())
theorem o140 : Ok Tryz.prog k140 := by
 refine okl tok [.tmp 4] Tryz.func140 Tryz.ntmps140 rfl Tryz.results140 (by kernel_rfl) rfl ?_
 intro y ⟨a0, a1, _⟩ r H Q hn hr
 have hT := tc o158 tn
 refine qa tok hT [0, 1] (St.mk [p 0 (L y236 a0), p 1 (J a1)] []) (by kernel_rfl) ?_
 refine qb tok hT [0, 1] (St.mk [p 0 (L y236 a0), p 1 (I (a1 - (↑a0.length : Int)))] []) H (by kernel_rfl) fun H => ?_
 refine vx_seq <| ?_
 refine qa tok hT [0, 1, 11] (St.mk [p 0 (L y236 a0), p 1 (I (a1 - (↑a0.length : Int))), p 11 (B (decide (a1 - (↑a0.length : Int) < 0)))] []) (by kernel_rfl) ?_
 refine cd H (by kernel_rfl) (fun H => ?_) (fun H => ?_)
 ·refine qa tok hT [4] (St.mk [p 4 (I (-1))] []) (by kernel_rfl) ?_
  exact vx_ret <| fx_seq_ret <| hr H (by kernel_rfl)
 refine vx_skip <| fx_seq <| ?_
 refine jn r (fun (v4 : Int) => St.mk [p 1 (I v4)] []) (u140J0) (fun v4 H => ?_) (fun _ n0 e0 t0 => ?_)
 ·refine qa tok hT [4] (St.mk [p 4 (I v4)] []) (by kernel_rfl) ?_
  exact vx_ret <| hr H (by kernel_rfl)
 refine qa tok hT [0, 1, 5] (St.mk [p 0 (L y236 a0), p 1 (I (a1 - (↑a0.length : Int))), p 5 (I 0)] []) (by kernel_rfl) ?_
 refine vx_block <| ?_
 refine lx (fun ((v1, v2) : Int × Int) => St.mk [p 0 (L y236 a0), p 1 (I v1), p 5 (I v2)] []) ((a1 - (↑a0.length : Int), 0)) H (by kernel_rfl) fun _ g1 b1 e1 t1 ⟨v1, v2⟩ H => ?_
 refine vx_seq <| ?_
 refine qa tok hT [0, 1, 5, 15] (St.mk [p 0 (L y236 a0), p 1 (I v1), p 5 (I v2), p 15 (B (decide (v2 < (↑a0.length : Int))))] []) (by kernel_rfl) ?_
 refine cd H (by kernel_rfl) (fun H => ?_) (fun H => ?_)
 ·refine vx_skip <| fx_seq <| vx_seq <| vx_block <| ?_
  refine qd tok hT [0, 1, 5] (fun v3 => St.mk [p 0 (L y236 a0), p 1 (I v3), p 5 (I v2)] []) H (by kernel_rfl) fun v3 H => ?_
  refine qa tok hT [0, 1, 5, 25] (St.mk [p 0 (L y236 a0), p 1 (I v3), p 5 (I v2), p 25 (B (decide (v3 < 0)))] []) (by kernel_rfl) ?_
  refine cd H (by kernel_rfl) (fun H => ?_) (fun H => ?_)
  ·refine qa tok hT [4] (St.mk [p 4 (I (-1))] []) (by kernel_rfl) ?_
   exact vx_ret <| fx_blk_ret <| fx_seq_ret <| t1 <| fx_blk_ret <| t0 <| hr H (by kernel_rfl)
  refine vx_skip <| fx_blk <| fx_seq <| ?_
  refine zb tok hT [0, 1, 5] (St.mk [p 0 (L y236 a0), p 1 (I v3), p 5 (I (v2 + 1))] []) H (by kernel_rfl) fun H => ?_
  exact b1 H (by kernel_rfl)
 exact vx_exit <| fx_seq_exit <| e1 <| fx_blk_exit rfl <| n0 H (by kernel_rfl)
def u157 (a0 : Y232) (a1 : Int) : Option (Int) :=
 gd (in64 (a1 - (↑a0.1.size : Int)) ∧ True) <| 
 if (decide (a1 - (↑a0.1.size : Int) < 0)) = true then
  some (-1)
 else
  some (a1 - (↑a0.1.size : Int))
def k157 : Ct := lct 157 [.agg y232, .dat i64] (fun x => u157 x.1 x.2.1) (fun r : Int => I r) (fun _ => ())
theorem o157 : Ok Tryz.prog k157 := by
 refine okl tok [.tmp 4] Tryz.func157 Tryz.ntmps157 rfl Tryz.results157 (by kernel_rfl) rfl ?_
 intro y ⟨a0, a1, _⟩ r H Q hn hr
 have hT := @tn Tryz.prog
 refine qa tok hT [1, 2] (St.mk [p 1 (J a1), p 2 (AV.ptr 2 0)] [(2, Ob.box 232 (cellsD false y232 a0))]) (by kernel_rfl) ?_
 refine qb tok hT [1] (St.mk [p 1 (I (a1 - (↑a0.1.size : Int)))] [(2, Ob.box 232 (cellsD false y232 a0))]) H (by kernel_rfl) fun H => ?_
 refine vx_seq <| ?_
 refine qa tok hT [1, 11] (St.mk [p 1 (I (a1 - (↑a0.1.size : Int))), p 11 (B (decide (a1 - (↑a0.1.size : Int) < 0)))] [(2, Ob.box 232 (cellsD false y232 a0))]) (by kernel_rfl) ?_
 refine cd H (by kernel_rfl) (fun H => ?_) (fun H => ?_)
 ·refine qa tok hT [4] (St.mk [p 4 (I (-1))] [(2, Ob.box 232 (cellsD false y232 a0))]) (by kernel_rfl) ?_
  exact vx_ret <| fx_seq_ret <| hr H (by kernel_rfl)
 refine vx_skip <| fx_seq <| ?_
 refine qa tok hT [4] (St.mk [p 4 (I (a1 - (↑a0.1.size : Int)))] [(2, Ob.box 232 (cellsD false y232 a0))]) (by kernel_rfl) ?_
 exact vx_ret <| hr H (by kernel_rfl)
def u139J0 : Int → Option (Int)
 | v4 =>
 some v4
def u139L1 (a0 : List Y232) (g1 : Int × Int → Option (Int)) : Int × Int → Option (Int)
 | (v1, v2) =>
 if (decide (v2 < (↑a0.length : Int))) = true then
  gd (ix v2 a0.length ∧ (u157 (a0.getD v2.toNat (dflt y232)) v1).isSome = true ∧ True) <| lt (vl (u157 (a0.getD v2.toNat (dflt y232)) v1)) fun v3 =>
  if (decide (v3 < 0)) = true then
   some (-1)
  else
   gd (in64 (v2 + 1) ∧ True) <| 
   g1 (v3, v2 + 1)
 else
  u139J0 v1
def u139 (a0 : List Y232) (a1 : Int) : Option (Int) :=
 gd (in64 (a1 - (↑a0.length : Int)) ∧ True) <| 
 if (decide (a1 - (↑a0.length : Int) < 0)) = true then
  some (-1)
 else
  lp (u139L1 a0) ((a1 - (↑a0.length : Int), 0))
def k139 : Ct := lct 139 [.dat y232.sl, .dat i64] (fun x => u139 x.1 x.2.1) (fun r : Int => I r) (fun _ => ())
theorem o139 : Ok Tryz.prog k139 := by
 refine okl tok [.tmp 4] Tryz.func139 Tryz.ntmps139 rfl Tryz.results139 (by kernel_rfl) rfl ?_
 intro y ⟨a0, a1, _⟩ r H Q hn hr
 have hT := tc o157 tn
 refine qa tok hT [0, 1] (St.mk [p 0 (L y232 a0), p 1 (J a1)] []) (by kernel_rfl) ?_
 refine qb tok hT [0, 1] (St.mk [p 0 (L y232 a0), p 1 (I (a1 - (↑a0.length : Int)))] []) H (by kernel_rfl) fun H => ?_
 refine vx_seq <| ?_
 refine qa tok hT [0, 1, 11] (St.mk [p 0 (L y232 a0), p 1 (I (a1 - (↑a0.length : Int))), p 11 (B (decide (a1 - (↑a0.length : Int) < 0)))] []) (by kernel_rfl) ?_
 refine cd H (by kernel_rfl) (fun H => ?_) (fun H => ?_)
 ·refine qa tok hT [4] (St.mk [p 4 (I (-1))] []) (by kernel_rfl) ?_
  exact vx_ret <| fx_seq_ret <| hr H (by kernel_rfl)
 refine vx_skip <| fx_seq <| ?_
 refine jn r (fun (v4 : Int) => St.mk [p 1 (I v4)] []) (u139J0) (fun v4 H => ?_) (fun _ n0 e0 t0 => ?_)
 ·refine qa tok hT [4] (St.mk [p 4 (I v4)] []) (by kernel_rfl) ?_
  exact vx_ret <| hr H (by kernel_rfl)
 refine qa tok hT [0, 1, 5] (St.mk [p 0 (L y232 a0), p 1 (I (a1 - (↑a0.length : Int))), p 5 (I 0)] []) (by kernel_rfl) ?_
 refine vx_block <| ?_
 refine lx (fun ((v1, v2) : Int × Int) => St.mk [p 0 (L y232 a0), p 1 (I v1), p 5 (I v2)] []) ((a1 - (↑a0.length : Int), 0)) H (by kernel_rfl) fun _ g1 b1 e1 t1 ⟨v1, v2⟩ H => ?_
 refine vx_seq <| ?_
 refine qa tok hT [0, 1, 5, 15] (St.mk [p 0 (L y232 a0), p 1 (I v1), p 5 (I v2), p 15 (B (decide (v2 < (↑a0.length : Int))))] []) (by kernel_rfl) ?_
 refine cd H (by kernel_rfl) (fun H => ?_) (fun H => ?_)
 ·refine vx_skip <| fx_seq <| vx_seq <| vx_block <| ?_
  refine qd tok hT [0, 1, 5] (fun v3 => St.mk [p 0 (L y232 a0), p 1 (I v3), p 5 (I v2)] []) H (by kernel_rfl) fun v3 H => ?_
  refine qa tok hT [0, 1, 5, 25] (St.mk [p 0 (L y232 a0), p 1 (I v3), p 5 (I v2), p 25 (B (decide (v3 < 0)))] []) (by kernel_rfl) ?_
  refine cd H (by kernel_rfl) (fun H => ?_) (fun H => ?_)
  ·refine qa tok hT [4] (St.mk [p 4 (I (-1))] []) (by kernel_rfl) ?_
   exact vx_ret <| fx_blk_ret <| fx_seq_ret <| t1 <| fx_blk_ret <| t0 <| hr H (by kernel_rfl)
  refine vx_skip <| fx_blk <| fx_seq <| ?_
  refine zb tok hT [0, 1, 5] (St.mk [p 0 (L y232 a0), p 1 (I v3), p 5 (I (v2 + 1))] []) H (by kernel_rfl) fun H => ?_
  exact b1 H (by kernel_rfl)
 exact vx_exit <| fx_seq_exit <| e1 <| fx_blk_exit rfl <| n0 H (by kernel_rfl)
def u109 (a0 : Y187) (a1 : Int) : Option (Int) :=
 gd (in64 (a1 - (↑a0.1.size : Int)) ∧ True) <| 
 if (decide (a1 - (↑a0.1.size : Int) < 0)) = true then
  some (-1)
 else
  gd ((u139 a0.2.2.1 (a1 - (↑a0.1.size : Int))).isSome = true ∧ True) <| lt (vl (u139 a0.2.2.1 (a1 - (↑a0.1.size : Int)))) fun v0 =>
  if (decide (v0 < 0)) = true then
   some (-1)
  else
   gd ((u140 a0.2.2.2.1 v0).isSome = true ∧ True) <| lt (vl (u140 a0.2.2.2.1 v0)) fun v1 =>
   if (decide (v1 < 0)) = true then
    some (-1)
   else
    gd ((u112 a0.2.2.2.2.1 v1).isSome = true ∧ True) <| lt (vl (u112 a0.2.2.2.2.1 v1)) fun v2 =>
    if (decide (v2 < 0)) = true then
     some (-1)
    else
     some v2
def k109 : Ct := lct 109 [.agg y187, .dat i64] (fun x => u109 x.1 x.2.1) (fun r : Int => I r) (fun _ => ())
theorem o109 : Ok Tryz.prog k109 := by
 refine okl tok [.tmp 4] Tryz.func109 Tryz.ntmps109 rfl Tryz.results109 (by kernel_rfl) rfl ?_
 intro y ⟨a0, a1, _⟩ r H Q hn hr
 have hT := tc o112 (tc o140 (tc o139 tn))
 refine qa tok hT [1, 2] (St.mk [p 1 (J a1), p 2 (AV.ptr 2 0)] [(2, Ob.box 187 (cellsD false y187 a0))]) (by kernel_rfl) ?_
 refine qb tok hT [1, 2] (St.mk [p 1 (I (a1 - (↑a0.1.size : Int))), p 2 (AV.ptr 2 0)] [(2, Ob.box 187 (cellsD false y187 a0))]) H (by kernel_rfl) fun H => ?_
 refine vx_seq <| ?_
 refine qa tok hT [1, 2, 11] (St.mk [p 1 (I (a1 - (↑a0.1.size : Int))), p 2 (AV.ptr 2 0), p 11 (B (decide (a1 - (↑a0.1.size : Int) < 0)))] [(2, Ob.box 187 (cellsD false y187 a0))]) (by kernel_rfl) ?_
 refine cd H (by kernel_rfl) (fun H => ?_) (fun H => ?_)
 ·refine qa tok hT [4] (St.mk [p 4 (I (-1))] [(2, Ob.box 187 (cellsD false y187 a0))]) (by kernel_rfl) ?_
  exact vx_ret <| fx_seq_ret <| hr H (by kernel_rfl)
 refine vx_skip <| fx_seq <| ?_
 refine qd tok hT [1, 2] (fun v0 => St.mk [p 1 (I v0), p 2 (AV.ptr 2 0)] [(2, Ob.box 187 (cellsD false y187 a0))]) H (by kernel_rfl) fun v0 H => ?_
 refine vx_seq <| ?_
 refine qa tok hT [1, 2, 17] (St.mk [p 1 (I v0), p 2 (AV.ptr 2 0), p 17 (B (decide (v0 < 0)))] [(2, Ob.box 187 (cellsD false y187 a0))]) (by kernel_rfl) ?_
 refine cd H (by kernel_rfl) (fun H => ?_) (fun H => ?_)
 ·refine qa tok hT [4] (St.mk [p 4 (I (-1))] [(2, Ob.box 187 (cellsD false y187 a0))]) (by kernel_rfl) ?_
  exact vx_ret <| fx_seq_ret <| hr H (by kernel_rfl)
 refine vx_skip <| fx_seq <| ?_
 refine qd tok hT [1, 2] (fun v1 => St.mk [p 1 (I v1), p 2 (AV.ptr 2 0)] [(2, Ob.box 187 (cellsD false y187 a0))]) H (by kernel_rfl) fun v1 H => ?_
 refine vx_seq <| ?_
 refine qa tok hT [1, 2, 23] (St.mk [p 1 (I v1), p 2 (AV.ptr 2 0), p 23 (B (decide (v1 < 0)))] [(2, Ob.box 187 (cellsD false y187 a0))]) (by kernel_rfl) ?_
 refine cd H (by kernel_rfl) (fun H => ?_) (fun H => ?_)
 ·refine qa tok hT [4] (St.mk [p 4 (I (-1))] [(2, Ob.box 187 (cellsD false y187 a0))]) (by kernel_rfl) ?_
  exact vx_ret <| fx_seq_ret <| hr H (by kernel_rfl)
 refine vx_skip <| fx_seq <| ?_
 refine qd tok hT [1] (fun v2 => St.mk [p 1 (I v2)] [(2, Ob.box 187 (cellsD false y187 a0))]) H (by kernel_rfl) fun v2 H => ?_
 refine vx_seq <| ?_
 refine qa tok hT [1, 29] (St.mk [p 1 (I v2), p 29 (B (decide (v2 < 0)))] [(2, Ob.box 187 (cellsD false y187 a0))]) (by kernel_rfl) ?_
 refine cd H (by kernel_rfl) (fun H => ?_) (fun H => ?_)
 ·refine qa tok hT [4] (St.mk [p 4 (I (-1))] [(2, Ob.box 187 (cellsD false y187 a0))]) (by kernel_rfl) ?_
  exact vx_ret <| fx_seq_ret <| hr H (by kernel_rfl)
 refine vx_skip <| fx_seq <| ?_
 refine qa tok hT [4] (St.mk [p 4 (I v2)] [(2, Ob.box 187 (cellsD false y187 a0))]) (by kernel_rfl) ?_
 exact vx_ret <| hr H (by kernel_rfl)
def u64J0 : Int → Option (Int)
 | v4 =>
 some v4
def u64L1 (a0 : List Y187) (g1 : Int × Int → Option (Int)) : Int × Int → Option (Int)
 | (v1, v2) =>
 if (decide (v2 < (↑a0.length : Int))) = true then
  gd (ix v2 a0.length ∧ (u109 (a0.getD v2.toNat (dflt y187)) v1).isSome = true ∧ True) <| lt (vl (u109 (a0.getD v2.toNat (dflt y187)) v1)) fun v3 =>
  if (decide (v3 < 0)) = true then
   some (-1)
  else
   gd (in64 (v2 + 1) ∧ True) <| 
   g1 (v3, v2 + 1)
 else
  u64J0 v1
def u64 (a0 : List Y187) (a1 : Int) : Option (Int) :=
 gd (in64 (a1 - (↑a0.length : Int)) ∧ True) <| 
 if (decide (a1 - (↑a0.length : Int) < 0)) = true then
  some (-1)
 else
  lp (u64L1 a0) ((a1 - (↑a0.length : Int), 0))
def k64 : Ct := lct 64 [.dat y187.sl, .dat i64] (fun x => u64 x.1 x.2.1) (fun r : Int => I r) (fun _ => ())
theorem o64 : Ok Tryz.prog k64 := by
 refine okl tok [.tmp 4] Tryz.func64 Tryz.ntmps64 rfl Tryz.results64 (by kernel_rfl) rfl ?_
 intro y ⟨a0, a1, _⟩ r H Q hn hr
 have hT := tc o109 tn
 refine qa tok hT [0, 1] (St.mk [p 0 (L y187 a0), p 1 (J a1)] []) (by kernel_rfl) ?_
 refine qb tok hT [0, 1] (St.mk [p 0 (L y187 a0), p 1 (I (a1 - (↑a0.length : Int)))] []) H (by kernel_rfl) fun H => ?_
 refine vx_seq <| ?_
 refine qa tok hT [0, 1, 11] (St.mk [p 0 (L y187 a0), p 1 (I (a1 - (↑a0.length : Int))), p 11 (B (decide (a1 - (↑a0.length : Int) < 0)))] []) (by kernel_rfl) ?_
 refine cd H (by kernel_rfl) (fun H => ?_) (fun H => ?_)
 ·refine qa tok hT [4] (St.mk [p 4 (I (-1))] []) (by kernel_rfl) ?_
  exact vx_ret <| fx_seq_ret <| hr H (by kernel_rfl)
 refine vx_skip <| fx_seq <| ?_
 refine jn r (fun (v4 : Int) => St.mk [p 1 (I v4)] []) (u64J0) (fun v4 H => ?_) (fun _ n0 e0 t0 => ?_)
 ·refine qa tok hT [4] (St.mk [p 4 (I v4)] []) (by kernel_rfl) ?_
  exact vx_ret <| hr H (by kernel_rfl)
 refine qa tok hT [0, 1, 5] (St.mk [p 0 (L y187 a0), p 1 (I (a1 - (↑a0.length : Int))), p 5 (I 0)] []) (by kernel_rfl) ?_
 refine vx_block <| ?_
 refine lx (fun ((v1, v2) : Int × Int) => St.mk [p 0 (L y187 a0), p 1 (I v1), p 5 (I v2)] []) ((a1 - (↑a0.length : Int), 0)) H (by kernel_rfl) fun _ g1 b1 e1 t1 ⟨v1, v2⟩ H => ?_
 refine vx_seq <| ?_
 refine qa tok hT [0, 1, 5, 15] (St.mk [p 0 (L y187 a0), p 1 (I v1), p 5 (I v2), p 15 (B (decide (v2 < (↑a0.length : Int))))] []) (by kernel_rfl) ?_
 refine cd H (by kernel_rfl) (fun H => ?_) (fun H => ?_)
 ·refine vx_skip <| fx_seq <| vx_seq <| vx_block <| ?_
  refine qd tok hT [0, 1, 5] (fun v3 => St.mk [p 0 (L y187 a0), p 1 (I v3), p 5 (I v2)] []) H (by kernel_rfl) fun v3 H => ?_
  refine qa tok hT [0, 1, 5, 25] (St.mk [p 0 (L y187 a0), p 1 (I v3), p 5 (I v2), p 25 (B (decide (v3 < 0)))] []) (by kernel_rfl) ?_
  refine cd H (by kernel_rfl) (fun H => ?_) (fun H => ?_)
  ·refine qa tok hT [4] (St.mk [p 4 (I (-1))] []) (by kernel_rfl) ?_
   exact vx_ret <| fx_blk_ret <| fx_seq_ret <| t1 <| fx_blk_ret <| t0 <| hr H (by kernel_rfl)
  refine vx_skip <| fx_blk <| fx_seq <| ?_
  refine zb tok hT [0, 1, 5] (St.mk [p 0 (L y187 a0), p 1 (I v3), p 5 (I (v2 + 1))] []) H (by kernel_rfl) fun H => ?_
  exact b1 H (by kernel_rfl)
 exact vx_exit <| fx_seq_exit <| e1 <| fx_blk_exit rfl <| n0 H (by kernel_rfl)
def u27 (a0 : List Y187) (a1 : Int) : Option (Int) :=
 gd ((u64 a0 a1).isSome = true ∧ True) <| lt (vl (u64 a0 a1)) fun v0 =>
 if (decide (v0 < 0)) = true then
  some (-1)
 else
  some v0
def k27 : Ct := lct 27 [.agg y187.sl, .dat i64] (fun x => u27 x.1 x.2.1) (fun r : Int => I r) (fun _ => ())
theorem o27 : Ok Tryz.prog k27 := by
 refine okl tok [.tmp 4] Tryz.func27 Tryz.ntmps27 rfl Tryz.results27 (by kernel_rfl) rfl ?_
 intro y ⟨a0, a1, _⟩ r H Q hn hr
 have hT := tc o64 tn
 refine qa tok hT [1, 2] (St.mk [p 1 (J a1), p 2 (AV.ptr 2 0)] [(2, Ob.box 24 [L y187 a0])]) (by kernel_rfl) ?_
 refine qd tok hT [1] (fun v0 => St.mk [p 1 (I v0)] [(2, Ob.box 24 [L y187 a0])]) H (by kernel_rfl) fun v0 H => ?_
 refine vx_seq <| ?_
 refine qa tok hT [1, 10] (St.mk [p 1 (I v0), p 10 (B (decide (v0 < 0)))] [(2, Ob.box 24 [L y187 a0])]) (by kernel_rfl) ?_
 refine cd H (by kernel_rfl) (fun H => ?_) (fun H => ?_)
 ·refine qa tok hT [4] (St.mk [p 4 (I (-1))] [(2, Ob.box 24 [L y187 a0])]) (by kernel_rfl) ?_
  exact vx_ret <| fx_seq_ret <| hr H (by kernel_rfl)
 refine vx_skip <| fx_seq <| ?_
 refine qa tok hT [4] (St.mk [p 4 (I v0)] [(2, Ob.box 24 [L y187 a0])]) (by kernel_rfl) ?_
 exact vx_ret <| hr H (by kernel_rfl)
def u8 (a0 : Y32) (a1 : Int) : Option (Int) :=
 gd ((u27 a0.1 a1).isSome = true ∧ True) <| lt (vl (u27 a0.1 a1)) fun v0 =>
 if (decide (v0 < 0)) = true then
  some (-1)
 else
  gd ((u28 a0.2.1 v0).isSome = true ∧ True) <| lt (vl (u28 a0.2.1 v0)) fun v1 =>
  if (decide (v1 < 0)) = true then
   some (-1)
  else
   gd ((u29 a0.2.2 v1).isSome = true ∧ True) <| lt (vl (u29 a0.2.2 v1)) fun v2 =>
   if (decide (v2 < 0)) = true then
    some (-1)
   else
    some v2
def k8 : Ct := lct 8 [.agg y32, .dat i64] (fun x => u8 x.1 x.2.1) (fun r : Int => I r) (fun _ => ())
theorem o8 : Ok Tryz.prog k8 := by
 refine okl tok [.tmp 4] Tryz.func8 Tryz.ntmps8 rfl Tryz.results8 (by kernel_rfl) rfl ?_
 intro y ⟨a0, a1, _⟩ r H Q hn hr
 have hT := tc o29 (tc o28 (tc o27 tn))
 refine qa tok hT [1, 2] (St.mk [p 1 (J a1), p 2 (AV.ptr 2 0)] [(2, Ob.box 32 (cellsD false y32 a0))]) (by kernel_rfl) ?_
 refine qd tok hT [1, 2] (fun v0 => St.mk [p 1 (I v0), p 2 (AV.ptr 2 0)] [(2, Ob.box 32 (cellsD false y32 a0))]) H (by kernel_rfl) fun v0 H => ?_
 refine vx_seq <| ?_
 refine qa tok hT [1, 2, 10] (St.mk [p 1 (I v0), p 2 (AV.ptr 2 0), p 10 (B (decide (v0 < 0)))] [(2, Ob.box 32 (cellsD false y32 a0))]) (by kernel_rfl) ?_
 refine cd H (by kernel_rfl) (fun H => ?_) (fun H => ?_)
 ·refine qa tok hT [4] (St.mk [p 4 (I (-1))] [(2, Ob.box 32 (cellsD false y32 a0))]) (by kernel_rfl) ?_
  exact vx_ret <| fx_seq_ret <| hr H (by kernel_rfl)
 refine vx_skip <| fx_seq <| ?_
 refine qd tok hT [1, 2] (fun v1 => St.mk [p 1 (I v1), p 2 (AV.ptr 2 0)] [(2, Ob.box 32 (cellsD false y32 a0))]) H (by kernel_rfl) fun v1 H => ?_
 refine vx_seq <| ?_
 refine qa tok hT [1, 2, 16] (St.mk [p 1 (I v1), p 2 (AV.ptr 2 0), p 16 (B (decide (v1 < 0)))] [(2, Ob.box 32 (cellsD false y32 a0))]) (by kernel_rfl) ?_
 refine cd H (by kernel_rfl) (fun H => ?_) (fun H => ?_)
 ·refine qa tok hT [4] (St.mk [p 4 (I (-1))] [(2, Ob.box 32 (cellsD false y32 a0))]) (by kernel_rfl) ?_
  exact vx_ret <| fx_seq_ret <| hr H (by kernel_rfl)
 refine vx_skip <| fx_seq <| ?_
 refine qd tok hT [1] (fun v2 => St.mk [p 1 (I v2)] [(2, Ob.box 32 (cellsD false y32 a0))]) H (by kernel_rfl) fun v2 H => ?_
 refine vx_seq <| ?_
 refine qa tok hT [1, 22] (St.mk [p 1 (I v2), p 22 (B (decide (v2 < 0)))] [(2, Ob.box 32 (cellsD false y32 a0))]) (by kernel_rfl) ?_
 refine cd H (by kernel_rfl) (fun H => ?_) (fun H => ?_)
 ·refine qa tok hT [4] (St.mk [p 4 (I (-1))] [(2, Ob.box 32 (cellsD false y32 a0))]) (by kernel_rfl) ?_
  exact vx_ret <| fx_seq_ret <| hr H (by kernel_rfl)
 refine vx_skip <| fx_seq <| ?_
 refine qa tok hT [4] (St.mk [p 4 (I v2)] [(2, Ob.box 32 (cellsD false y32 a0))]) (by kernel_rfl) ?_
 exact vx_ret <| hr H (by kernel_rfl)
def u3 (a0 : Y32) : Option (Bool) :=
 gd ((u8 a0 1048576).isSome = true ∧ True) <| lt (vl (u8 a0 1048576)) fun v0 =>
 if (decide (v0 < 0)) = true then
  some true
 else
  gd ((u10 a0).isSome = true ∧ (u9 (vl (u10 a0))).isSome = true ∧ True) <| lt ((vl (u9 (vl (u10 a0))), vl (u10 a0))) fun (v1, v2) =>
  gd ((u10 a0).isSome = true ∧ True) <| lt (vl (u10 a0)) fun v3 =>
  gd ((u11 v3).isSome = true ∧ True) <| lt (vl (u11 v3)) fun v4 =>
  if (v4 != v1) = true then
   some false
  else
   gd ((u10 a0).isSome = true ∧ (u12 v3 (vl (u10 a0))).isSome = true ∧ True) <| lt (vl (u10 a0)) fun v5 =>
   if (!vl (u12 v3 v5)) = true then
    some false
   else
    some true
def k3 : Ct := lct 3 [.agg y32] (fun x => u3 x.1) (fun r : Bool => B r) (fun _ => ())
def u92 (a0 : Int) (a1 : Int) (a2 : Int) : Option (Int) :=
 gd (0 < a1 ∧ 0 < a1 ∧ True) <| 
 if (a2 == 0 && decide (a0.tmod a1 < 0)) = true then
  gd (in64 (a0.tdiv a1 - 1) ∧ True) <| 
  some (a0.tdiv a1 - 1)
 else
  if (a2 == 1 && decide (0 < a0.tmod a1)) = true then
   gd (in64 (a0.tdiv a1 + 1) ∧ True) <| 
   some (a0.tdiv a1 + 1)
  else
   some (a0.tdiv a1)
def u156 (a0 : Int) : Option (Bool) :=
 some (a0 != a0)
def u172 (a0 : Int) : Option (Bool) :=
 some (a0 != a0)
def u155 (a0 : Int) (a1 : Int) : Option (Bool) :=
 gd ((u172 a0).isSome = true ∧ (vl (u172 a0) = true ∧ True → (u172 a1).isSome = true) ∧ True) <| 
 some (vl (u172 a0) && !vl (u172 a1) || decide (a0 < a1))
def u132J0 (a0 : List Int) (a1 : Int) : Int → Option (Int × Bool)
 | v3 =>
 gd ((decide (v3 < (↑a0.length : Int)) = true ∧ True → ix v3 a0.length) ∧ ((a0.getD v3.toNat 0 == a1) = false ∧ decide (v3 < (↑a0.length : Int)) = true ∧ True → ix v3 a0.length) ∧ ((a0.getD v3.toNat 0 == a1) = false ∧ decide (v3 < (↑a0.length : Int)) = true ∧ True → (u156 (a0.getD v3.toNat 0)).isSome = true) ∧ (vl (u156 (a0.getD v3.toNat 0)) = true ∧ (a0.getD v3.toNat 0 == a1) = false ∧ decide (v3 < (↑a0.length : Int)) = true ∧ True → (u156 a1).isSome = true) ∧ True) <| 
 some ((v3, decide (v3 < (↑a0.length : Int)) && (a0.getD v3.toNat 0 == a1 || vl (u156 (a0.getD v3.toNat 0)) && vl (u156 a1))))
def u132L1 (a0 : List Int) (a1 : Int) (g1 : Int × Int → Option (Int × Bool)) : Int × Int → Option (Int × Bool)
 | (v1, v2) =>
 if (decide (v1 < v2)) = true then
  gd (in64 (v1 + v2) ∧ ((0 : Int) ≤ v1 + v2 ∧ v1 + v2 ≤ (18446744073709551615 : Int)) ∧ (((0 : Int) ≤ (1 : Int) ∧ (1 : Int) ≤ (62 : Int)) ∧ (0 : Int) ≤ (v1 + v2).fdiv ((2 : Int) ^ Int.toNat (1 : Int)) ∧ (v1 + v2).fdiv ((2 : Int) ^ Int.toNat (1 : Int)) ≤ (18446744073709551615 : Int)) ∧ in64 ((v1 + v2).fdiv ((2 : Int) ^ Int.toNat (1 : Int))) ∧ True) <| 
  gd (ix ((v1 + v2).fdiv ((2 : Int) ^ Int.toNat (1 : Int))) a0.length ∧ (u155 (a0.getD ((v1 + v2).fdiv ((2 : Int) ^ Int.toNat (1 : Int))).toNat (0 : Int)) a1).isSome = true ∧ True) <| 
  if (vl (u155 (a0.getD ((v1 + v2).fdiv ((2 : Int) ^ Int.toNat (1 : Int))).toNat (0 : Int)) a1)) = true then
   gd (in64 ((v1 + v2).fdiv ((2 : Int) ^ Int.toNat (1 : Int)) + (1 : Int)) ∧ True) <| 
   g1 (((v1 + v2).fdiv ((2 : Int) ^ Int.toNat (1 : Int)) + (1 : Int), v2))
  else
   g1 ((v1, (v1 + v2).fdiv ((2 : Int) ^ Int.toNat (1 : Int))))
 else
  u132J0 a0 a1 v1
def u132 (a0 : List Int) (a1 : Int) : Option (Int × Bool) :=
 lp (u132L1 a0 a1) ((0, (↑a0.length : Int)))
def u91 (a0 : List Int) (a1 : Int) : Option (List Y161 × Int) :=
 gd (ix 0 a0.length ∧ in64 ((↑a0.length : Int) - 1) ∧ ix ((↑a0.length : Int) - 1) a0.length ∧ True) <| lt (min (max a1 (a0.getD (Int.toNat (0 : Int)) (0 : Int))) (a0.getD ((↑a0.length : Int) - (1 : Int)).toNat (0 : Int))) fun v0 =>
 gd ((u132 a0 v0).isSome = true ∧ True) <| lt (vl (u132 a0 v0)) fun v1 =>
 if v1.2 = true then
  some (([(v1.1, (1 : Int))], (1 : Int)))
 else
  gd (in64 (v1.1 - 1) ∧ ix v1.1 a0.length ∧ in64 (a0.getD v1.1.toNat 0 - v0) ∧ in64 (v1.1 - 1) ∧ ix (v1.1 - 1) a0.length ∧ in64 (v0 - a0.getD (v1.1 - 1).toNat 0) ∧ ix v1.1 a0.length ∧ in64 (v1.1 - 1) ∧ ix (v1.1 - 1) a0.length ∧ in64 (a0.getD v1.1.toNat 0 - a0.getD (v1.1 - 1).toNat 0) ∧ True) <| lt ([(v1.1 - 1, a0.getD v1.1.toNat 0 - v0), (v1.1, v0 - a0.getD (v1.1 - 1).toNat 0)]) fun v2 =>
  some ((v2, a0.getD v1.1.toNat 0 - a0.getD (v1.1 - 1).toNat 0))
def u47J0 (v0 : List Y161 × Int) (v1 : List Y161 × Int) (a3 : Int) : Int → Option (Int)
 | v20 =>
 gd (in64 (v0.2 * v1.2) ∧ (u92 v20 (v0.2 * v1.2) a3).isSome = true ∧ True) <| lt (vl (u92 v20 (v0.2 * v1.2) a3)) fun v21 =>
 some v21
def u47J2 (v11 : Int) (g1 : Int × Int → Option (Int)) : Int → Option (Int)
 | v19 =>
 gd (in64 (v11 + 1) ∧ True) <| 
 g1 (v19, v11 + 1)
def u47L3 (a0 : Y96) (v12 : Y161) (v1 : List Y161 × Int) (v11 : Int) (g1 : Int × Int → Option (Int)) (g3 : Int × Int → Option (Int)) : Int × Int → Option (Int)
 | (v15, v16) =>
 if (decide (v16 < (↑v1.1.length : Int))) = true then
  gd (ix v16 v1.1.length ∧ v16.toNat < v1.1.length ∧ True) <| lt (v1.1.getD v16.toNat (dflt y161)) fun v17 =>
  gd (in64 (v12.1 * (↑a0.2.1.length : Int)) ∧ in64 (v12.1 * (↑a0.2.1.length : Int) + v17.1) ∧ ix (v12.1 * (↑a0.2.1.length : Int) + v17.1) a0.2.2.length ∧ in64 (a0.2.2.getD (v12.1 * (↑a0.2.1.length : Int) + v17.1).toNat 0 * v12.2) ∧ in64 (a0.2.2.getD (v12.1 * (↑a0.2.1.length : Int) + v17.1).toNat 0 * v12.2 * v17.2) ∧ in64 (v15 + a0.2.2.getD (v12.1 * (↑a0.2.1.length : Int) + v17.1).toNat 0 * v12.2 * v17.2) ∧ True) <| lt (v15 + a0.2.2.getD (v12.1 * (↑a0.2.1.length : Int) + v17.1).toNat 0 * v12.2 * v17.2) fun v18 =>
  gd (in64 (v16 + 1) ∧ True) <| 
  g3 (v18, v16 + 1)
 else
  u47J2 v11 g1 v15
def u47L1 (a0 : Y96) (v1 : List Y161 × Int) (v0 : List Y161 × Int) (a3 : Int) (g1 : Int × Int → Option (Int)) : Int × Int → Option (Int)
 | (v10, v11) =>
 if (decide (v11 < (↑v0.1.length : Int))) = true then
  gd (ix v11 v0.1.length ∧ v11.toNat < v0.1.length ∧ True) <| lt (v0.1.getD v11.toNat (dflt y161)) fun v12 =>
  lp (u47L3 a0 v12 v1 v11 g1) (v10, 0)
 else
  u47J0 v0 v1 a3 v10
def u47 (a0 : Y96) (a1 : Int) (a2 : Int) (a3 : Int) : Option (Int) :=
 gd ((u91 a0.1 a1).isSome = true ∧ True) <| lt (vl (u91 a0.1 a1)) fun v0 =>
 gd ((u91 a0.2.1 a2).isSome = true ∧ True) <| lt (vl (u91 a0.2.1 a2)) fun v1 =>
 lp (u47L1 a0 v1 v0 a3) (0, 0)
def u46 (a0 : Int) : Option (Bool) :=
 gd ((u87 a0 0 1000000).isSome = true ∧ True) <| 
 some (vl (u87 a0 0 1000000))
def k46 : Ct := lct 46 [.dat i64] (fun x => u46 x.1) (fun r : Bool => B r) (fun _ => ())
theorem o46 : Ok Tryz.prog k46 := by
 refine okl tok [.tmp 2] Tryz.func46 Tryz.ntmps46 rfl Tryz.results46 (by kernel_rfl) rfl ?_
 intro y ⟨a0, _⟩ r H Q hn hr
 have hT := tc o87 tn
 refine qa tok hT [0] (St.mk [p 0 (J a0)] []) (by kernel_rfl) ?_
 refine qb tok hT [2] (St.mk [p 2 (B (vl (u87 a0 0 1000000)))] []) H (by kernel_rfl) fun H => ?_
 exact vx_ret <| hr H (by kernel_rfl)
def u45 (a0 : Int) : Option (Bool) :=
 some (a0 == 0 || a0 == 1)
def k45 : Ct := lct 45 [.dat i64] (fun x => u45 x.1) (fun r : Bool => B r) (fun _ => ())
def u89 (a0 : List Y89) : Option (Int) :=
 some (↑a0.length : Int)
def u88 (a0 : List Y141) : Option (Int) :=
 some (↑a0.length : Int)
def u44 (a0 : Y44) (a1 : Int) (a2 : Int) : Option (Y89 × Bool) :=
 gd ((u88 a0.2.1.1).isSome = true ∧ in64 (vl (u88 a0.2.1.1) - 1) ∧ (u87 a1 0 (vl (u88 a0.2.1.1) - 1)).isSome = true ∧ True) <| 
 if (!vl (u87 a1 0 (vl (u88 a0.2.1.1) - 1))) = true then
  some ((((0 : Int), (0 : Int), (0 : Int), (0 : Int), [], []), false))
 else
  gd (ix a1 a0.2.1.1.length ∧ ix (a0.2.1.1.getD a1.toNat (dflt y141)).2.1 a0.1.length ∧ True) <| lt (a0.1.getD (a0.2.1.1.getD a1.toNat (dflt y141)).2.1.toNat (dflt y152)) fun v0 =>
  gd ((u89 v0.2.2.2.1).isSome = true ∧ in64 (vl (u89 v0.2.2.2.1) - 1) ∧ (u87 a2 0 (vl (u89 v0.2.2.2.1) - 1)).isSome = true ∧ ((!vl (u87 a2 0 (vl (u89 v0.2.2.2.1) - 1))) = false ∧ True → ix a2 v0.2.2.2.1.length) ∧ ((!vl (u87 a2 0 (vl (u89 v0.2.2.2.1) - 1))) = false ∧ True → (u90 (v0.2.2.2.1.getD a2.toNat (dflt y89)).1).isSome = true) ∧ True) <| 
  if (!vl (u87 a2 0 (vl (u89 v0.2.2.2.1) - 1)) || !vl (u90 (v0.2.2.2.1.getD a2.toNat (dflt y89)).1)) = true then
   some ((((0 : Int), (0 : Int), (0 : Int), (0 : Int), [], []), false))
  else
   gd (ix a2 v0.2.2.2.1.length ∧ True) <| lt (v0.2.2.2.1.getD a2.toNat (dflt y89)) fun v1 =>
   some (v1, true)
def u14 (a0 : Y44) (a1 : Int) (a2 : Int) (a3 : Int) (a4 : Int) (a5 : Int) : Option (Int × Int) :=
 gd ((u35 a0).isSome = true ∧ True) <| 
 if (!vl (u35 a0)) = true then
  some (((0 : Int), (1 : Int)))
 else
  gd ((u44 a0 a1 a2).isSome = true ∧ True) <| lt (vl (u44 a0 a1 a2)) fun v0 =>
  if (!v0.2) = true then
   some (((0 : Int), (4 : Int)))
  else
   gd ((u45 a3).isSome = true ∧ ((!vl (u45 a3)) = false ∧ True → (u46 a4).isSome = true) ∧ ((!vl (u45 a3) || !vl (u46 a4)) = false ∧ True → (u46 a5).isSome = true) ∧ True) <| 
   if (!vl (u45 a3) || !vl (u46 a4) || !vl (u46 a5)) = true then
    some (((0 : Int), (2 : Int)))
   else
    gd (ix a3 v0.1.2.2.2.2.1.length ∧ (u47 (v0.1.2.2.2.2.1.getD a3.toNat (dflt y96)) a4 a5 1).isSome = true ∧ True) <| lt (vl (u47 (v0.1.2.2.2.2.1.getD a3.toNat (dflt y96)) a4 a5 1)) fun v1 =>
    some ((v1, (0 : Int)))
def u86 (a0 : Int) (a1 : Int) (a2 : Int) : Option (Int) :=
 gd (0 < a1 ∧ True) <| 
 gd (0 < a1 ∧ True) <| 
 if (decide (a0.tmod a1 < 0) && a2 == 0) = true then
  gd (in64 (a0.tdiv a1 - 1) ∧ True) <| 
  some (a0.tdiv a1 - 1)
 else
  if (decide (0 < a0.tmod a1) && a2 == 1) = true then
   gd (in64 (a0.tdiv a1 + 1) ∧ True) <| 
   some (a0.tdiv a1 + 1)
  else
   some (a0.tdiv a1)
def u85J0 : Unit → Option (Int × Int × Int)
 | _ =>
 some (((0 : Int), (1 : Int), (0 : Int)))
def u85L1 (a0 : List Int) (v0 : Int) (g1 : Int → Option (Int × Int × Int)) : Int → Option (Int × Int × Int)
 | v1 =>
 if (decide (0 ≤ v1)) = true then
  gd (ix v1 a0.length ∧ True) <| 
  if (v0 == a0.getD v1.toNat 0) = true then
   some ((v1, (1 : Int), (0 : Int)))
  else
   gd (ix v1 a0.length ∧ True) <| 
   if (decide (a0.getD v1.toNat 0 < v0)) = true then
    gd (in64 (v1 + 1) ∧ ix (v1 + 1) a0.length ∧ in64 (a0.getD (v1 + 1).toNat 0 - v0) ∧ ix v1 a0.length ∧ in64 (v0 - a0.getD v1.toNat 0) ∧ True) <| 
    some ((v1, a0.getD (v1 + 1).toNat 0 - v0, v0 - a0.getD v1.toNat 0))
   else
    gd (in64 (v1 - 1) ∧ True) <| 
    g1 (v1 - 1)
 else
  u85J0 ()
def u85 (a0 : List Int) (a1 : Int) : Option (Int × Int × Int) :=
 gd (ix 0 a0.length ∧ True) <| 
 gd (in64 ((↑a0.length : Int) - 1) ∧ ix ((↑a0.length : Int) - 1) a0.length ∧ True) <| lt (min (max a1 (a0.getD (Int.toNat (0 : Int)) (0 : Int))) (a0.getD ((↑a0.length : Int) - (1 : Int)).toNat (0 : Int))) fun v0 =>
 gd (in64 ((↑a0.length : Int) - 1) ∧ True) <| 
 lp (u85L1 a0 v0) ((↑a0.length : Int) - 1)
def u43J0 (v0 : Int × Int × Int) (v1 : Int × Int × Int) (a3 : Int) : Int → Option (Int)
 | v26 =>
 gd (in64 (v0.2.1 + v0.2.2) ∧ in64 (v1.2.1 + v1.2.2) ∧ in64 ((v0.2.1 + v0.2.2) * (v1.2.1 + v1.2.2)) ∧ (u86 v26 ((v0.2.1 + v0.2.2) * (v1.2.1 + v1.2.2)) a3).isSome = true ∧ True) <| lt (vl (u86 v26 ((v0.2.1 + v0.2.2) * (v1.2.1 + v1.2.2)) a3)) fun v27 =>
 some v27
def u43J2 (v14 : Int) (g1 : Int × Int → Option (Int)) : Int → Option (Int)
 | v25 =>
 gd (in64 (v14 + 1) ∧ True) <| 
 g1 (v25, v14 + 1)
def u43J4 (v20 : Int) (g3 : Int × Int → Option (Int)) : Int → Option (Int)
 | v24 =>
 gd (in64 (v20 + 1) ∧ True) <| 
 g3 (v24, v20 + 1)
def u43J6 (v20 : Int) (v19 : Int) (a0 : Y96) (v0 : Int × Int × Int) (v14 : Int) (v1 : Int × Int × Int) (g3 : Int × Int → Option (Int)) : Int → Option (Int)
 | v22 =>
 if (decide (0 < v22)) = true then
  gd (in64 (v0.1 + v14) ∧ in64 ((v0.1 + v14) * (↑a0.2.1.length : Int)) ∧ in64 ((v0.1 + v14) * (↑a0.2.1.length : Int) + v1.1) ∧ in64 ((v0.1 + v14) * (↑a0.2.1.length : Int) + v1.1 + v20) ∧ ix ((v0.1 + v14) * (↑a0.2.1.length : Int) + v1.1 + v20) a0.2.2.length ∧ in64 (v22 * a0.2.2.getD ((v0.1 + v14) * (↑a0.2.1.length : Int) + v1.1 + v20).toNat 0) ∧ in64 (v19 + v22 * a0.2.2.getD ((v0.1 + v14) * (↑a0.2.1.length : Int) + v1.1 + v20).toNat 0) ∧ True) <| lt (v19 + v22 * a0.2.2.getD ((v0.1 + v14) * (↑a0.2.1.length : Int) + v1.1 + v20).toNat 0) fun v23 =>
  u43J4 v20 g3 v23
 else
  u43J4 v20 g3 v19
def u43J5 (v20 : Int) (v19 : Int) (a0 : Y96) (v0 : Int × Int × Int) (v14 : Int) (v1 : Int × Int × Int) (g3 : Int × Int → Option (Int)) : Int → Option (Int)
 | v21 =>
 if (v20 == 0) = true then
  gd (in64 (v21 * v1.2.1) ∧ True) <| 
  u43J6 v20 v19 a0 v0 v14 v1 g3 (v21 * v1.2.1)
 else
  gd (in64 (v21 * v1.2.2) ∧ True) <| 
  u43J6 v20 v19 a0 v0 v14 v1 g3 (v21 * v1.2.2)
def u43L3 (a0 : Y96) (v0 : Int × Int × Int) (v14 : Int) (v1 : Int × Int × Int) (g1 : Int × Int → Option (Int)) (g3 : Int × Int → Option (Int)) : Int × Int → Option (Int)
 | (v19, v20) =>
 if (decide (v20 < 2)) = true then
  if (v14 == 1) = true then
   u43J5 v20 v19 a0 v0 v14 v1 g3 v0.2.2
  else
   u43J5 v20 v19 a0 v0 v14 v1 g3 v0.2.1
 else
  u43J2 v14 g1 v19
def u43L1 (a0 : Y96) (v0 : Int × Int × Int) (v1 : Int × Int × Int) (a3 : Int) (g1 : Int × Int → Option (Int)) : Int × Int → Option (Int)
 | (v13, v14) =>
 if (decide (v14 < 2)) = true then
  lp (u43L3 a0 v0 v14 v1 g1) (v13, 0)
 else
  u43J0 v0 v1 a3 v13
def u43 (a0 : Y96) (a1 : Int) (a2 : Int) (a3 : Int) : Option (Int) :=
 gd ((u85 a0.1 a1).isSome = true ∧ True) <| lt (vl (u85 a0.1 a1)) fun v0 =>
 gd ((u85 a0.2.1 a2).isSome = true ∧ True) <| lt (vl (u85 a0.2.1 a2)) fun v1 =>
 lp (u43L1 a0 v0 v1 a3) (0, 0)
def u41 (a0 : Y44) (a1 : Int) (a2 : Int) : Option (Y89 × Bool) :=
 gd (in64 ((↑a0.2.1.1.length : Int) - 1) ∧ (u42 a1 0 ((↑a0.2.1.1.length : Int) - 1)).isSome = true ∧ True) <| 
 if (!vl (u42 a1 0 ((↑a0.2.1.1.length : Int) - 1))) = true then
  some ((((0 : Int), (0 : Int), (0 : Int), (0 : Int), [], []), false))
 else
  gd (ix a1 a0.2.1.1.length ∧ ix (a0.2.1.1.getD a1.toNat (dflt y141)).2.1 a0.1.length ∧ True) <| lt (a0.1.getD (a0.2.1.1.getD a1.toNat (dflt y141)).2.1.toNat (dflt y152)) fun v0 =>
  gd (in64 ((↑v0.2.2.2.1.length : Int) - 1) ∧ (u42 a2 0 ((↑v0.2.2.2.1.length : Int) - 1)).isSome = true ∧ ((!vl (u42 a2 0 ((↑v0.2.2.2.1.length : Int) - 1))) = false ∧ True → ix a2 v0.2.2.2.1.length) ∧ (((v0.2.2.2.1.getD a2.toNat (dflt y89)).1 != 4) = true ∧ (!vl (u42 a2 0 ((↑v0.2.2.2.1.length : Int) - 1))) = false ∧ True → ix a2 v0.2.2.2.1.length) ∧ True) <| 
  if (!vl (u42 a2 0 ((↑v0.2.2.2.1.length : Int) - 1)) || (v0.2.2.2.1.getD a2.toNat (dflt y89)).1 != 4 && (v0.2.2.2.1.getD a2.toNat (dflt y89)).1 != 5) = true then
   some ((((0 : Int), (0 : Int), (0 : Int), (0 : Int), [], []), false))
  else
   gd (ix a2 v0.2.2.2.1.length ∧ True) <| lt (v0.2.2.2.1.getD a2.toNat (dflt y89)) fun v1 =>
   some (v1, true)
def u13 (a0 : Y44) (a1 : Int) (a2 : Int) (a3 : Int) (a4 : Int) (a5 : Int) : Option (Int × Int) :=
 gd ((u30 a0).isSome = true ∧ True) <| 
 if (!vl (u30 a0)) = true then
  some (((0 : Int), (1 : Int)))
 else
  gd ((u41 a0 a1 a2).isSome = true ∧ True) <| lt (vl (u41 a0 a1 a2)) fun v0 =>
  if (!v0.2) = true then
   some (((0 : Int), (4 : Int)))
  else
   gd ((u42 a3 0 1).isSome = true ∧ ((!vl (u42 a3 0 1)) = false ∧ True → (u42 a4 0 1000000).isSome = true) ∧ ((!vl (u42 a3 0 1) || !vl (u42 a4 0 1000000)) = false ∧ True → (u42 a5 0 1000000).isSome = true) ∧ True) <| 
   if (!vl (u42 a3 0 1) || !vl (u42 a4 0 1000000) || !vl (u42 a5 0 1000000)) = true then
    some (((0 : Int), (2 : Int)))
   else
    gd (ix a3 v0.1.2.2.2.2.1.length ∧ (u43 (v0.1.2.2.2.2.1.getD a3.toNat (dflt y96)) a4 a5 1).isSome = true ∧ True) <| lt (vl (u43 (v0.1.2.2.2.2.1.getD a3.toNat (dflt y96)) a4 a5 1)) fun v1 =>
    some ((v1, (0 : Int)))
def u4 (a0 : Y32) (a1 : Int) (a2 : Int) (a3 : Int) (a4 : Int) (a5 : Int) : Option (Bool) :=
 gd ((u8 a0 1048576).isSome = true ∧ True) <| lt (vl (u8 a0 1048576)) fun v0 =>
 if (decide (v0 < 0)) = true then
  some true
 else
  gd ((u10 a0).isSome = true ∧ (u13 (vl (u10 a0)) a1 a2 a3 a4 a5).isSome = true ∧ True) <| lt ((vl (u13 (vl (u10 a0)) a1 a2 a3 a4 a5), vl (u10 a0))) fun (v1, v2) =>
  gd ((u10 a0).isSome = true ∧ True) <| lt (vl (u10 a0)) fun v3 =>
  gd ((u14 v3 a1 a2 a3 a4 a5).isSome = true ∧ True) <| lt (vl (u14 v3 a1 a2 a3 a4 a5)) fun v4 =>
  if (v4.1 != v1.1 || v4.2 != v1.2) = true then
   some false
  else
   gd ((u10 a0).isSome = true ∧ (u12 v3 (vl (u10 a0))).isSome = true ∧ True) <| lt (vl (u10 a0)) fun v5 =>
   if (!vl (u12 v3 v5)) = true then
    some false
   else
    some true
def k4 : Ct := lct 4 [.agg y32, .dat i64, .dat i64, .dat i64, .dat i64, .dat i64] (fun x => u4 x.1 x.2.1 x.2.2.1 x.2.2.2.1 x.2.2.2.2.1 x.2.2.2.2.2.1) (fun r : Bool => B r) (fun _ => ())
def u100 (a0 : Y41) (a1 : List Y152) (a2 : Y81) : Option (ByteArray) :=
 if (decide (a2.1 < 0)) = true then
  gd (ix a2.2.1 a0.2.2.length ∧ True) <| lt (a0.2.2.getD a2.2.1.toNat (dflt y143)) fun v0 =>
  some v0.1
 else
  gd (ix a2.1 a0.1.length ∧ True) <| lt (a0.1.getD a2.1.toNat (dflt y141)) fun v1 =>
  gd (v1.1.size + (ByteArray.mk #[47]).size ≤ 9223372036854775807 ∧ ix v1.2.1 a1.length ∧ ix a2.2.1 (a1.getD v1.2.1.toNat (dflt y152)).2.2.1.length ∧ (v1.1 ++ ByteArray.mk #[47]).size + ((a1.getD v1.2.1.toNat (dflt y152)).2.2.1.getD a2.2.1.toNat (dflt y212)).1.size ≤ 9223372036854775807 ∧ True) <| lt (v1.1 ++ ByteArray.mk #[47] ++ ((a1.getD v1.2.1.toNat (dflt y152)).2.2.1.getD a2.2.1.toNat (dflt y212)).1) fun v2 =>
  some v2
def u51 (a0 : Y170) (a1 : Int) : Option (ByteArray) :=
 gd ((0 : Int) < (2 : Int) ∧ ix (a1.tdiv (2 : Int)) a0.2.1.length ∧ (u100 a0.1.2.1 a0.1.1 (a0.2.1.getD (a1.tdiv (2 : Int)).toNat (dflt y81))).isSome = true ∧ (0 : Int) < (2 : Int) ∧ ix (a1.tmod (2 : Int)) [ByteArray.mk #[(58 : UInt8), (114 : UInt8)], ByteArray.mk #[(58 : UInt8), (102 : UInt8)]].length ∧ (a1.tmod (2 : Int)).toNat < [ByteArray.mk #[(58 : UInt8), (114 : UInt8)], ByteArray.mk #[(58 : UInt8), (102 : UInt8)]].length ∧ (vl (u100 a0.1.2.1 a0.1.1 (a0.2.1.getD (a1.tdiv (2 : Int)).toNat (dflt y81)))).size + ByteArray.size ([ByteArray.mk #[(58 : UInt8), (114 : UInt8)], ByteArray.mk #[(58 : UInt8), (102 : UInt8)]].getD (a1.tmod (2 : Int)).toNat (dflt Ty.str)) ≤ (9223372036854775807 : Nat) ∧ True) <| lt ((vl (u100 a0.1.2.1 a0.1.1 (a0.2.1.getD (a1.tdiv 2).toNat (dflt y81))), vl (u100 a0.1.2.1 a0.1.1 (a0.2.1.getD (a1.tdiv 2).toNat (dflt y81))) ++ [ByteArray.mk #[58, 114], ByteArray.mk #[58, 102]].getD (a1.tmod 2).toNat (dflt Ty.str))) fun (v0, v1) =>
 some v1
def u99 (a0 : Y170) : Option (Int) :=
 gd ((u36 a0.2.1).isSome = true ∧ in64 (2 * vl (u36 a0.2.1)) ∧ True) <| lt (vl (u36 a0.2.1)) fun v0 =>
 some (2 * v0)
def k99 : Ct := lct 99 [.dat y170.pt] (fun x => u99 x.1) (fun r : Int => I r) (fun _ => ())
theorem o99 : Ok Tryz.prog k99 := by
 refine okl tok [.tmp 2] Tryz.func99 Tryz.ntmps99 rfl Tryz.results99 (by kernel_rfl) rfl ?_
 intro y ⟨a0, _⟩ r H Q hn hr
 have hT := tc o36 tn
 refine qa tok hT [0] (St.mk [p 0 (D y170.pt a0)] []) (by kernel_rfl) ?_
 refine qd tok hT [2] (fun v0 => St.mk [p 2 (I (2 * v0))] []) H (by kernel_rfl) fun v0 H => ?_
 exact vx_ret <| hr H (by kernel_rfl)
def u50 (a0 : Y170) (a1 : Int) : Option (Bool) :=
 gd ((u99 a0).isSome = true ∧ in64 (vl (u99 a0) - 1) ∧ (u87 a1 0 (vl (u99 a0) - 1)).isSome = true ∧ True) <| 
 some (vl (u87 a1 0 (vl (u99 a0) - 1)))
def k50 : Ct := lct 50 [.dat y170.pt, .dat i64] (fun x => u50 x.1 x.2.1) (fun r : Bool => B r) (fun _ => ())
theorem o50 : Ok Tryz.prog k50 := by
 refine okl tok [.tmp 4] Tryz.func50 Tryz.ntmps50 rfl Tryz.results50 (by kernel_rfl) rfl ?_
 intro y ⟨a0, a1, _⟩ r H Q hn hr
 have hT := tc o87 (tc o99 tn)
 refine qa tok hT [0, 1] (St.mk [p 0 (D y170.pt a0), p 1 (J a1)] []) (by kernel_rfl) ?_
 refine qb tok hT [4] (St.mk [p 4 (B (vl (u87 a1 0 (vl (u99 a0) - 1))))] []) H (by kernel_rfl) fun H => ?_
 exact vx_ret <| hr H (by kernel_rfl)
def u136 (a0 : Y41) (a1 : List Y152) (a2 : Y81) : Option (Int) :=
 if (decide (a2.1 < 0)) = true then
  some 0
 else
  gd (ix a2.1 a0.1.length ∧ ix (a0.1.getD a2.1.toNat (dflt y141)).2.1 a1.length ∧ ix a2.2.1 (a1.getD (a0.1.getD a2.1.toNat (dflt y141)).2.1.toNat (dflt y152)).2.2.1.length ∧ True) <| lt ((a1.getD (a0.1.getD a2.1.toNat (dflt y141)).2.1.toNat (dflt y152)).2.2.1.getD a2.2.1.toNat (dflt y212)) fun v0 =>
  some v0.2.2.1
def k136 : Ct := lct 136 [.agg y41, .agg y152.sl, .agg y81] (fun x => u136 x.1 x.2.1 x.2.2.1) (fun r : Int => I r) (fun _ => ())
theorem o136 : Ok Tryz.prog k136 := by
 refine okl tok [.tmp 6] Tryz.func136 Tryz.ntmps136 rfl Tryz.results136 (by kernel_rfl) rfl ?_
 intro y ⟨a0, a1, a2, _⟩ r H Q hn hr
 have hT := @tn Tryz.prog
 refine qa tok hT [3, 4, 5] (St.mk [p 3 (AV.ptr 3 0), p 4 (AV.ptr 4 0), p 5 (AV.ptr 5 0)] [(5, Ob.box 81 (cellsD false y81 a2)), (4, Ob.box 37 [L y152 a1]), (3, Ob.box 41 (cellsD false y41 a0))]) (by kernel_rfl) ?_
 refine vx_seq <| ?_
 refine qa tok hT [3, 4, 5, 9] (St.mk [p 3 (AV.ptr 3 0), p 4 (AV.ptr 4 0), p 5 (AV.ptr 5 0), p 9 (B (decide (a2.1 < 0)))] [(5, Ob.box 81 (cellsD false y81 a2)), (4, Ob.box 37 [L y152 a1]), (3, Ob.box 41 (cellsD false y41 a0))]) (by kernel_rfl) ?_
 refine cd H (by kernel_rfl) (fun H => ?_) (fun H => ?_)
 ·refine qa tok hT [6] (St.mk [p 6 (I 0)] [(5, Ob.box 81 (cellsD false y81 a2)), (4, Ob.box 37 [L y152 a1]), (3, Ob.box 41 (cellsD false y41 a0))]) (by kernel_rfl) ?_
  exact vx_ret <| fx_seq_ret <| hr H (by kernel_rfl)
 refine vx_skip <| fx_seq <| ?_
 refine qd tok hT [6] (fun v0 => St.mk [p 6 (J v0.2.2.1)] [(5, Ob.box 81 (cellsD false y81 a2)), (4, Ob.box 37 [L y152 a1]), (3, Ob.box 41 (cellsD false y41 a0))]) H (by kernel_rfl) fun v0 H => ?_
 exact vx_ret <| hr H (by kernel_rfl)
def u135J0 : List Int → Option (List Int)
 | v7 =>
 some v7
def u135J2 (v4 : Int) (g1 : List Int × Int → Option (List Int)) : List Int → Option (List Int)
 | v6 =>
 gd (in64 (v4 + 1) ∧ True) <| 
 g1 (v6, v4 + 1)
def u135L1 (a1 : Int) (v0 : List Y81) (g1 : List Int × Int → Option (List Int)) : List Int × Int → Option (List Int)
 | (v3, v4) =>
 if (decide (v4 < (↑v0.length : Int))) = true then
  gd (ix v4 v0.length ∧ v4.toNat < v0.length ∧ True) <| lt (v0.getD v4.toNat (dflt y81)) fun v5 =>
  if (v5.2.2.1 == a1 && !v5.2.2.2) = true then
   gd ((v3.length + [v4].length ≤ 9223372036854775807 ∧ (v3.length + [v4].length) * 8 ≤ 140737488355328) ∧ True) <| 
   u135J2 v4 g1 (v3 ++ [v4])
  else
   u135J2 v4 g1 v3
 else
  u135J0 v3
def u135 (a0 : Y41) (a1 : Int) : Option (List Int) :=
 gd ((u37 a0).isSome = true ∧ True) <| lt (vl (u37 a0)) fun v0 =>
 lp (u135L1 a1 v0) ([], 0)
def k135 : Ct := lct 135 [.agg y41, .dat i64] (fun x => u135 x.1 x.2.1) (fun r : List Int => AV.ow 2 true i64 r) (fun _ => ())
theorem o135 : Ok Tryz.prog k135 := by
 refine okl tok [.tmp 4] Tryz.func135 Tryz.ntmps135 rfl Tryz.results135 (by kernel_rfl) rfl ?_
 intro y ⟨a0, a1, _⟩ r H Q hn hr
 have hT := tc o37 tn
 refine qa tok hT [1, 2] (St.mk [p 1 (J a1), p 2 (AV.ptr 2 0)] [(2, Ob.box 41 (cellsD false y41 a0))]) (by kernel_rfl) ?_
 refine qa tok hT [1, 2, 5] (St.mk [p 1 (J a1), p 2 (AV.ptr 2 0), p 5 (AV.v (Value.slice none 0 0))] [(2, Ob.box 41 (cellsD false y41 a0))]) (by kernel_rfl) ?_
 refine jn r (fun (v7 : List Int) => St.mk [p 5 (AV.os 28 0)] [(28, Ob.arr 2 true i64 v7 0)]) (u135J0) (fun v7 H => ?_) (fun _ n0 e0 t0 => ?_)
 ·refine qa tok hT [4] (St.mk [p 4 (AV.os 28 0)] [(28, Ob.arr 2 true i64 v7 0)]) (by kernel_rfl) ?_
  exact vx_ret <| hr H (by kernel_rfl)
 refine qd tok hT [1, 5, 9, 10, 11] (fun v0 => St.mk [p 1 (J a1), p 5 (AV.v (Value.slice none 0 0)), p 9 (AV.os 9 0), p 10 (I (↑v0.length : Int)), p 11 (I 0)] [(9, Ob.arr 81 true y81 v0 0), (2, Ob.box 41 (cellsD false y41 a0))]) H (by kernel_rfl) fun v0 H => ?_
 refine vx_block <| ?_
 refine lx (fun ((v3, v4) : List Int × Int) => St.mk [p 1 (J a1), p 5 (AV.os 28 0), p 9 (AV.os 9 0), p 10 (I (↑v0.length : Int)), p 11 (I v4)] [(9, Ob.arr 81 true y81 v0 0), (28, Ob.arr 2 true i64 v3 0)]) ([], 0) H (by kernel_rfl) fun _ g1 b1 e1 t1 ⟨v3, v4⟩ H => ?_
 refine qa tok hT [1, 5, 9, 10, 11, 12] (St.mk [p 1 (J a1), p 5 (AV.os 28 0), p 9 (AV.os 9 0), p 10 (I (↑v0.length : Int)), p 11 (I v4), p 12 (B (decide (v4 < (↑v0.length : Int))))] [(9, Ob.arr 81 true y81 v0 0), (28, Ob.arr 2 true i64 v3 0)]) (by kernel_rfl) ?_
 refine vx_seq <| ?_
 refine cd H (by kernel_rfl) (fun H => ?_) (fun H => ?_)
 ·refine vx_skip <| fx_seq <| ?_
  refine jn r (fun (v6 : List Int) => St.mk [p 1 (J a1), p 5 (AV.os 28 0), p 9 (AV.os 9 0), p 10 (I (↑v0.length : Int)), p 11 (I v4)] [(28, Ob.arr 2 true i64 v6 0), (9, Ob.arr 81 true y81 v0 0)]) (u135J2 v4 g1) (fun v6 H => ?_) (fun _ n2 e2 t2 => ?_)
  ·refine zb tok hT [1, 5, 9, 10, 11] (St.mk [p 1 (J a1), p 5 (AV.os 28 0), p 9 (AV.os 9 0), p 10 (I (↑v0.length : Int)), p 11 (I (v4 + 1))] [(28, Ob.arr 2 true i64 v6 0), (9, Ob.arr 81 true y81 v0 0)]) H (by kernel_rfl) fun H => ?_
   exact b1 H (by kernel_rfl)
  refine vx_block <| ?_
  refine qd tok hT [1, 5, 6, 7, 9, 10, 11] (fun v5 => St.mk [p 1 (J a1), p 5 (AV.os 28 0), p 6 (I v4), p 7 (AV.ptr 7 0), p 9 (AV.os 9 0), p 10 (I (↑v0.length : Int)), p 11 (I v4)] [(7, Ob.box 81 (cellsD true y81 v5)), (9, Ob.arr 81 true y81 v0 0), (28, Ob.arr 2 true i64 v3 0)]) H (by kernel_rfl) fun v5 H => ?_
  refine qa tok hT [1, 5, 6, 9, 10, 11, 21, 22, 23, 24] (St.mk [p 1 (J a1), p 5 (AV.os 28 0), p 6 (I v4), p 9 (AV.os 9 0), p 10 (I (↑v0.length : Int)), p 11 (I v4), p 24 (B (v5.2.2.1 == a1 && !v5.2.2.2))] [(7, Ob.box 81 (cellsD true y81 v5)), (9, Ob.arr 81 true y81 v0 0), (28, Ob.arr 2 true i64 v3 0)]) (by kernel_rfl) ?_
  refine cd H (by kernel_rfl) (fun H => ?_) (fun H => ?_)
  ·refine zb tok hT [1, 5, 9, 10, 11] (St.mk [p 1 (J a1), p 5 (AV.os 28 1), p 9 (AV.os 9 0), p 10 (I (↑v0.length : Int)), p 11 (I v4)] [(28, Ob.arr 2 true i64 (v3 ++ [v4]) 1), (27, Ob.arr 2 true i64 [v4] 0), (7, Ob.box 81 (cellsD true y81 v5)), (9, Ob.arr 81 true y81 v0 0)]) H (by kernel_rfl) fun H => ?_
   exact fx_blk <| n2 H (by kernel_rfl)
  exact vx_skip <| fx_blk <| n2 H (by kernel_rfl)
 exact vx_exit <| fx_seq_exit <| e1 <| fx_blk_exit rfl <| n0 H (by kernel_rfl)
def u97J2 : List Int → Option (List Int)
 | v15 =>
 some v15
def u97L3 (v0 : Y131) (g3 : Int × List Int → Option (List Int)) : Int × List Int → Option (List Int)
 | (v12, v13) =>
 if (decide (0 < v12)) = true then
  gd (ix v12 v0.1.length ∧ ix (v0.1.getD v12.toNat 0) v13.length ∧ Int.toNat (v0.1.getD v12.toNat 0) < v13.length ∧ ix v12 v13.length ∧ v12.toNat < v13.length ∧ in64 (v13.getD (Int.toNat (v0.1.getD v12.toNat 0)) 0 + v13.getD v12.toNat 0) ∧ ix (v0.1.getD v12.toNat 0) v13.length ∧ Int.toNat (v0.1.getD v12.toNat 0) < v13.length ∧ True) <| lt (v13.set (Int.toNat (v0.1.getD v12.toNat 0)) (v13.getD (Int.toNat (v0.1.getD v12.toNat 0)) 0 + v13.getD v12.toNat 0)) fun v14 =>
  gd (in64 (v12 - 1) ∧ True) <| 
  g3 (v12 - 1, v14)
 else
  u97J2 v13
def u97J0 (v0 : Y131) : List Int → Option (List Int)
 | v10 =>
 gd (in64 ((↑v10.length : Int) - 1) ∧ True) <| 
 lp (u97L3 v0) (((↑v10.length : Int) - 1, v10))
def u97L1 (a0 : Y44) (v2 : List Y81) (v3 : List Int) (v0 : Y131) (g1 : Int × List Int → Option (List Int)) : Int × List Int → Option (List Int)
 | (v6, v7) =>
 if (decide (v6 < (↑v3.length : Int))) = true then
  gd (ix v6 v3.length ∧ v6.toNat < v3.length ∧ True) <| 
  gd (ix v6 v0.2.2.2.length ∧ ix (v0.2.2.2.getD v6.toNat 0) v7.length ∧ Int.toNat (v0.2.2.2.getD v6.toNat 0) < v7.length ∧ ix (v3.getD v6.toNat 0) v2.length ∧ Int.toNat (v3.getD v6.toNat 0) < v2.length ∧ (u136 a0.2.1 a0.1 (v2.getD (Int.toNat (v3.getD v6.toNat 0)) (dflt y81))).isSome = true ∧ in64 (v7.getD (Int.toNat (v0.2.2.2.getD v6.toNat 0)) 0 + vl (u136 a0.2.1 a0.1 (v2.getD (Int.toNat (v3.getD v6.toNat 0)) (dflt y81)))) ∧ ix (v0.2.2.2.getD v6.toNat 0) v7.length ∧ Int.toNat (v0.2.2.2.getD v6.toNat 0) < v7.length ∧ True) <| lt ((vl (u136 a0.2.1 a0.1 (v2.getD (Int.toNat (v3.getD v6.toNat 0)) (dflt y81))), v7.set (Int.toNat (v0.2.2.2.getD v6.toNat 0)) (v7.getD (Int.toNat (v0.2.2.2.getD v6.toNat 0)) 0 + vl (u136 a0.2.1 a0.1 (v2.getD (Int.toNat (v3.getD v6.toNat 0)) (dflt y81)))))) fun (v8, v9) =>
  gd (in64 (v6 + 1) ∧ True) <| 
  g1 (v6 + 1, v9)
 else
  u97J0 v0 v7
def u97 (a0 : Y44) (a1 : Int) : Option (List Int) :=
 gd (ix a1 a0.2.2.length ∧ True) <| lt (a0.2.2.getD a1.toNat (dflt y131)) fun v0 =>
 gd ((u134 v0.2.2.1).isSome = true ∧ True) <| lt (vl (u134 v0.2.2.1)) fun v1 =>
 gd ((u37 a0.2.1).isSome = true ∧ True) <| lt (vl (u37 a0.2.1)) fun v2 =>
 gd ((u135 a0.2.1 a1).isSome = true ∧ True) <| lt (vl (u135 a0.2.1 a1)) fun v3 =>
 lp (u97L1 a0 v2 v3 v0) (0, v1)
def k97 : Ct := lct 97 [.agg y44, .dat i64] (fun x => u97 x.1 x.2.1) (fun r : List Int => AV.ow 2 true i64 r) (fun _ => ())
theorem o97 : Ok Tryz.prog k97 := by
 refine okl tok [.tmp 4] Tryz.func97 Tryz.ntmps97 rfl Tryz.results97 (by kernel_rfl) rfl ?_
 intro y ⟨a0, a1, _⟩ r H Q hn hr
 have hT := tc o136 (tc o135 (tc o37 (tc o134 tn)))
 refine qa tok hT [1, 2] (St.mk [p 1 (J a1), p 2 (AV.ptr 2 0)] [(2, Ob.box 44 (cellsD false y44 a0))]) (by kernel_rfl) ?_
 refine qd tok hT [1, 2, 5] (fun v0 => St.mk [p 1 (J a1), p 2 (AV.ptr 2 0), p 5 (AV.ptr 5 0)] [(5, Ob.box 131 (cellsD false y131 v0)), (2, Ob.box 44 (cellsD false y44 a0))]) H (by kernel_rfl) fun v0 H => ?_
 refine qd tok hT [1, 2, 5, 6] (fun v1 => St.mk [p 1 (J a1), p 2 (AV.ptr 2 0), p 5 (AV.ptr 5 0), p 6 (AV.os 18 0)] [(18, Ob.arr 2 true i64 v1 0), (5, Ob.box 131 (cellsD false y131 v0)), (2, Ob.box 44 (cellsD false y44 a0))]) H (by kernel_rfl) fun v1 H => ?_
 refine qd tok hT [1, 2, 5, 6, 7] (fun v2 => St.mk [p 1 (J a1), p 2 (AV.ptr 2 0), p 5 (AV.ptr 5 0), p 6 (AV.os 18 0), p 7 (AV.os 21 0)] [(21, Ob.arr 81 true y81 v2 0), (18, Ob.arr 2 true i64 v1 0), (5, Ob.box 131 (cellsD false y131 v0)), (2, Ob.box 44 (cellsD false y44 a0))]) H (by kernel_rfl) fun v2 H => ?_
 refine jn r (fun (v10 : List Int) => St.mk [p 5 (AV.ptr 5 0), p 6 (AV.os 18 0)] [(18, Ob.arr 2 true i64 v10 0), (5, Ob.box 131 (cellsD false y131 v0))]) (u97J0 v0) (fun v10 H => ?_) (fun _ n0 e0 t0 => ?_)
 ·refine jn r (fun (v15 : List Int) => St.mk [p 6 (AV.os 18 0)] [(18, Ob.arr 2 true i64 v15 0)]) (u97J2) (fun v15 H => ?_) (fun _ n2 e2 t2 => ?_)
  ·refine qa tok hT [4] (St.mk [p 4 (AV.os 18 0)] [(18, Ob.arr 2 true i64 v15 0)]) (by kernel_rfl) ?_
   exact vx_ret <| hr H (by kernel_rfl)
  refine qb tok hT [5, 6, 10] (St.mk [p 5 (AV.ptr 5 0), p 6 (AV.os 18 0), p 10 (I ((↑v10.length : Int) - 1))] [(18, Ob.arr 2 true i64 v10 0), (5, Ob.box 131 (cellsD false y131 v0))]) H (by kernel_rfl) fun H => ?_
  refine vx_block <| ?_
  refine lx (fun ((v12, v13) : Int × List Int) => St.mk [p 5 (AV.ptr 5 0), p 6 (AV.os 18 0), p 10 (I v12)] [(18, Ob.arr 2 true i64 v13 0), (5, Ob.box 131 (cellsD false y131 v0))]) (((↑v10.length : Int) - 1, v10)) H (by kernel_rfl) fun _ g3 b3 e3 t3 ⟨v12, v13⟩ H => ?_
  refine vx_seq <| ?_
  refine qa tok hT [5, 6, 10, 56] (St.mk [p 5 (AV.ptr 5 0), p 6 (AV.os 18 0), p 10 (I v12), p 56 (B (decide (0 < v12)))] [(18, Ob.arr 2 true i64 v13 0), (5, Ob.box 131 (cellsD false y131 v0))]) (by kernel_rfl) ?_
  refine cd H (by kernel_rfl) (fun H => ?_) (fun H => ?_)
  ·refine vx_skip <| fx_seq <| vx_seq <| vx_block <| ?_
   refine zd tok hT [5, 6, 10] (fun v14 => St.mk [p 5 (AV.ptr 5 0), p 6 (AV.os 18 0), p 10 (I v12)] [(18, Ob.arr 2 true i64 v14 0), (5, Ob.box 131 (cellsD false y131 v0))]) H (by kernel_rfl) fun v14 H => ?_
   refine fx_blk <| fx_seq <| ?_
   refine zb tok hT [5, 6, 10] (St.mk [p 5 (AV.ptr 5 0), p 6 (AV.os 18 0), p 10 (I (v12 - 1))] [(18, Ob.arr 2 true i64 v14 0), (5, Ob.box 131 (cellsD false y131 v0))]) H (by kernel_rfl) fun H => ?_
   exact b3 H (by kernel_rfl)
  exact vx_exit <| fx_seq_exit <| e3 <| fx_blk_exit rfl <| n2 H (by kernel_rfl)
 refine qd tok hT [2, 5, 6, 7, 25, 26, 27] (fun v3 => St.mk [p 2 (AV.ptr 2 0), p 5 (AV.ptr 5 0), p 6 (AV.os 18 0), p 7 (AV.os 21 0), p 25 (AV.os 25 0), p 26 (I (↑v3.length : Int)), p 27 (I 0)] [(25, Ob.arr 2 true i64 v3 0), (21, Ob.arr 81 true y81 v2 0), (18, Ob.arr 2 true i64 v1 0), (5, Ob.box 131 (cellsD false y131 v0)), (2, Ob.box 44 (cellsD false y44 a0))]) H (by kernel_rfl) fun v3 H => ?_
 refine vx_block <| ?_
 refine lx (fun ((v6, v7) : Int × List Int) => St.mk [p 2 (AV.ptr 2 0), p 5 (AV.ptr 5 0), p 6 (AV.os 18 0), p 7 (AV.os 21 0), p 25 (AV.os 25 0), p 26 (I (↑v3.length : Int)), p 27 (I v6)] [(25, Ob.arr 2 true i64 v3 0), (21, Ob.arr 81 true y81 v2 0), (18, Ob.arr 2 true i64 v7 0), (5, Ob.box 131 (cellsD false y131 v0)), (2, Ob.box 44 (cellsD false y44 a0))]) (0, v1) H (by kernel_rfl) fun _ g1 b1 e1 t1 ⟨v6, v7⟩ H => ?_
 refine qa tok hT [2, 5, 6, 7, 25, 26, 27, 28] (St.mk [p 2 (AV.ptr 2 0), p 5 (AV.ptr 5 0), p 6 (AV.os 18 0), p 7 (AV.os 21 0), p 25 (AV.os 25 0), p 26 (I (↑v3.length : Int)), p 27 (I v6), p 28 (B (decide (v6 < (↑v3.length : Int))))] [(25, Ob.arr 2 true i64 v3 0), (21, Ob.arr 81 true y81 v2 0), (18, Ob.arr 2 true i64 v7 0), (5, Ob.box 131 (cellsD false y131 v0)), (2, Ob.box 44 (cellsD false y44 a0))]) (by kernel_rfl) ?_
 refine vx_seq <| ?_
 refine cd H (by kernel_rfl) (fun H => ?_) (fun H => ?_)
 ·refine vx_skip <| fx_seq <| vx_seq <| vx_block <| ?_
  refine qb tok hT [2, 5, 6, 7, 8, 9, 25, 26, 27] (St.mk [p 2 (AV.ptr 2 0), p 5 (AV.ptr 5 0), p 6 (AV.os 18 0), p 7 (AV.os 21 0), p 8 (I v6), p 9 (I (v3.getD v6.toNat 0)), p 25 (AV.os 25 0), p 26 (I (↑v3.length : Int)), p 27 (I v6)] [(25, Ob.arr 2 true i64 v3 0), (21, Ob.arr 81 true y81 v2 0), (18, Ob.arr 2 true i64 v7 0), (5, Ob.box 131 (cellsD false y131 v0)), (2, Ob.box 44 (cellsD false y44 a0))]) H (by kernel_rfl) fun H => ?_
  refine zd tok hT [2, 5, 6, 7, 25, 26, 27] (fun (v8, v9) => St.mk [p 2 (AV.ptr 2 0), p 5 (AV.ptr 5 0), p 6 (AV.os 18 0), p 7 (AV.os 21 0), p 25 (AV.os 25 0), p 26 (I (↑v3.length : Int)), p 27 (I v6)] [(18, Ob.arr 2 true i64 v9 0), (25, Ob.arr 2 true i64 v3 0), (21, Ob.arr 81 true y81 v2 0), (5, Ob.box 131 (cellsD false y131 v0)), (2, Ob.box 44 (cellsD false y44 a0))]) H (by kernel_rfl) fun ⟨v8, v9⟩ H => ?_
  refine fx_blk <| fx_seq <| ?_
  refine zb tok hT [2, 5, 6, 7, 25, 26, 27] (St.mk [p 2 (AV.ptr 2 0), p 5 (AV.ptr 5 0), p 6 (AV.os 18 0), p 7 (AV.os 21 0), p 25 (AV.os 25 0), p 26 (I (↑v3.length : Int)), p 27 (I (v6 + 1))] [(18, Ob.arr 2 true i64 v9 0), (25, Ob.arr 2 true i64 v3 0), (21, Ob.arr 81 true y81 v2 0), (5, Ob.box 131 (cellsD false y131 v0)), (2, Ob.box 44 (cellsD false y44 a0))]) H (by kernel_rfl) fun H => ?_
  exact b1 H (by kernel_rfl)
 exact vx_exit <| fx_seq_exit <| e1 <| fx_blk_exit rfl <| n0 H (by kernel_rfl)
def u137J0 : List Int → Option (List Int)
 | v6 =>
 some v6
def u137L1 (v1 : Y131) (v0 : List Int) (g1 : Int × List Int → Option (List Int)) : Int × List Int → Option (List Int)
 | (v3, v4) =>
 if (decide (v3 < (↑v4.length : Int))) = true then
  gd (ix v3 v1.1.length ∧ ix (v1.1.getD v3.toNat 0) v4.length ∧ Int.toNat (v1.1.getD v3.toNat 0) < v4.length ∧ ix v3 v1.2.1.length ∧ ix v3 v0.length ∧ v3.toNat < v0.length ∧ in64 (v1.2.1.getD v3.toNat 0 * v0.getD v3.toNat 0) ∧ in64 (v4.getD (Int.toNat (v1.1.getD v3.toNat 0)) 0 + v1.2.1.getD v3.toNat 0 * v0.getD v3.toNat 0) ∧ ix v3 v4.length ∧ v3.toNat < v4.length ∧ True) <| lt (v4.set v3.toNat (v4.getD (Int.toNat (v1.1.getD v3.toNat 0)) 0 + v1.2.1.getD v3.toNat 0 * v0.getD v3.toNat 0)) fun v5 =>
  gd (in64 (v3 + 1) ∧ True) <| 
  g1 (v3 + 1, v5)
 else
  u137J0 v4
def u137 (a0 : Y44) (a1 : Int) : Option (List Int) :=
 gd (ix a1 a0.2.2.length ∧ (u97 a0 a1).isSome = true ∧ True) <| lt ((vl (u97 a0 a1), a0.2.2.getD a1.toNat (dflt y131))) fun (v0, v1) =>
 gd ((0 ≤ (↑v0.length : Int) ∧ (↑v0.length : Int) = (↑v0.length : Int) ∧ (↑v0.length : Int).toNat * 8 ≤ 281474976710656 ∧ (↑v0.length : Int) ≤ 9223372036854775807) ∧ True) <| 
 lp (u137L1 v1 v0) ((1, List.replicate (↑v0.length : Int).toNat 0))
def k137 : Ct := lct 137 [.agg y44, .dat i64] (fun x => u137 x.1 x.2.1) (fun r : List Int => AV.ow 2 true i64 r) (fun _ => ())
theorem o137 : Ok Tryz.prog k137 := by
 refine okl tok [.tmp 4] Tryz.func137 Tryz.ntmps137 rfl Tryz.results137 (by kernel_rfl) rfl ?_
 intro y ⟨a0, a1, _⟩ r H Q hn hr
 have hT := tc o97 tn
 refine qa tok hT [1, 2] (St.mk [p 1 (J a1), p 2 (AV.ptr 2 0)] [(2, Ob.box 44 (cellsD false y44 a0))]) (by kernel_rfl) ?_
 refine qd tok hT [5, 6] (fun (v0, v1) => St.mk [p 5 (AV.ptr 5 0), p 6 (AV.os 16 0)] [(5, Ob.box 131 (cellsD false y131 v1)), (16, Ob.arr 2 true i64 v0 0), (2, Ob.box 44 (cellsD false y44 a0))]) H (by kernel_rfl) fun ⟨v0, v1⟩ H => ?_
 refine qb tok hT [5, 6, 7] (St.mk [p 5 (AV.ptr 5 0), p 6 (AV.os 16 0), p 7 (AV.os 19 0)] [(19, Ob.arr 2 true i64 (List.replicate (↑v0.length : Int).toNat 0) 0), (5, Ob.box 131 (cellsD false y131 v1)), (16, Ob.arr 2 true i64 v0 0), (2, Ob.box 44 (cellsD false y44 a0))]) H (by kernel_rfl) fun H => ?_
 refine jn r (fun (v6 : List Int) => St.mk [p 7 (AV.os 19 0)] [(19, Ob.arr 2 true i64 v6 0)]) (u137J0) (fun v6 H => ?_) (fun _ n0 e0 t0 => ?_)
 ·refine qa tok hT [4] (St.mk [p 4 (AV.os 19 0)] [(19, Ob.arr 2 true i64 v6 0)]) (by kernel_rfl) ?_
  exact vx_ret <| hr H (by kernel_rfl)
 refine qa tok hT [5, 6, 7, 8] (St.mk [p 5 (AV.ptr 5 0), p 6 (AV.os 16 0), p 7 (AV.os 19 0), p 8 (I 1)] [(19, Ob.arr 2 true i64 (List.replicate (↑v0.length : Int).toNat 0) 0), (5, Ob.box 131 (cellsD false y131 v1)), (16, Ob.arr 2 true i64 v0 0), (2, Ob.box 44 (cellsD false y44 a0))]) (by kernel_rfl) ?_
 refine vx_block <| ?_
 refine lx (fun ((v3, v4) : Int × List Int) => St.mk [p 5 (AV.ptr 5 0), p 6 (AV.os 16 0), p 7 (AV.os 19 0), p 8 (I v3)] [(19, Ob.arr 2 true i64 v4 0), (5, Ob.box 131 (cellsD false y131 v1)), (16, Ob.arr 2 true i64 v0 0)]) ((1, List.replicate (↑v0.length : Int).toNat 0)) H (by kernel_rfl) fun _ g1 b1 e1 t1 ⟨v3, v4⟩ H => ?_
 refine vx_seq <| ?_
 refine qa tok hT [5, 6, 7, 8, 23] (St.mk [p 5 (AV.ptr 5 0), p 6 (AV.os 16 0), p 7 (AV.os 19 0), p 8 (I v3), p 23 (B (decide (v3 < (↑v4.length : Int))))] [(19, Ob.arr 2 true i64 v4 0), (5, Ob.box 131 (cellsD false y131 v1)), (16, Ob.arr 2 true i64 v0 0)]) (by kernel_rfl) ?_
 refine cd H (by kernel_rfl) (fun H => ?_) (fun H => ?_)
 ·refine vx_skip <| fx_seq <| vx_seq <| vx_block <| ?_
  refine zd tok hT [5, 6, 7, 8] (fun v5 => St.mk [p 5 (AV.ptr 5 0), p 6 (AV.os 16 0), p 7 (AV.os 19 0), p 8 (I v3)] [(19, Ob.arr 2 true i64 v5 0), (5, Ob.box 131 (cellsD false y131 v1)), (16, Ob.arr 2 true i64 v0 0)]) H (by kernel_rfl) fun v5 H => ?_
  refine fx_blk <| fx_seq <| ?_
  refine zb tok hT [5, 6, 7, 8] (St.mk [p 5 (AV.ptr 5 0), p 6 (AV.os 16 0), p 7 (AV.os 19 0), p 8 (I (v3 + 1))] [(19, Ob.arr 2 true i64 v5 0), (5, Ob.box 131 (cellsD false y131 v1)), (16, Ob.arr 2 true i64 v0 0)]) H (by kernel_rfl) fun H => ?_
  exact b1 H (by kernel_rfl)
 exact vx_exit <| fx_seq_exit <| e1 <| fx_blk_exit rfl <| n0 H (by kernel_rfl)
def u98J0 : List Int → Option (List Int)
 | v6 =>
 some v6
def u98L1 (v0 : List Int) (v1 : Y131) (g1 : List Int × Int → Option (List Int)) : List Int × Int → Option (List Int)
 | (v3, v4) =>
 if (decide (v4 < (↑v1.2.2.2.length : Int))) = true then
  gd (ix v4 v1.2.2.2.length ∧ True) <| 
  gd (ix (v1.2.2.2.getD v4.toNat 0) v0.length ∧ Int.toNat (v1.2.2.2.getD v4.toNat 0) < v0.length ∧ (v3.length + [v0.getD (Int.toNat (v1.2.2.2.getD v4.toNat 0)) 0].length ≤ 9223372036854775807 ∧ (v3.length + [v0.getD (Int.toNat (v1.2.2.2.getD v4.toNat 0)) 0].length) * 8 ≤ 140737488355328) ∧ True) <| lt (v3 ++ [v0.getD (Int.toNat (v1.2.2.2.getD v4.toNat 0)) 0]) fun v5 =>
  gd (in64 (v4 + 1) ∧ True) <| 
  g1 (v5, v4 + 1)
 else
  u98J0 v3
def u98 (a0 : Y44) (a1 : Int) : Option (List Int) :=
 gd ((u137 a0 a1).isSome = true ∧ True) <| lt (vl (u137 a0 a1)) fun v0 =>
 gd (ix a1 a0.2.2.length ∧ True) <| lt (a0.2.2.getD a1.toNat (dflt y131)) fun v1 =>
 lp (u98L1 v0 v1) ([], 0)
def k98 : Ct := lct 98 [.agg y44, .dat i64] (fun x => u98 x.1 x.2.1) (fun r : List Int => AV.ow 2 true i64 r) (fun _ => ())
theorem o98 : Ok Tryz.prog k98 := by
 refine okl tok [.tmp 4] Tryz.func98 Tryz.ntmps98 rfl Tryz.results98 (by kernel_rfl) rfl ?_
 intro y ⟨a0, a1, _⟩ r H Q hn hr
 have hT := tc o137 tn
 refine qa tok hT [1, 2] (St.mk [p 1 (J a1), p 2 (AV.ptr 2 0)] [(2, Ob.box 44 (cellsD false y44 a0))]) (by kernel_rfl) ?_
 refine qd tok hT [1, 2, 5] (fun v0 => St.mk [p 1 (J a1), p 2 (AV.ptr 2 0), p 5 (AV.os 11 0)] [(11, Ob.arr 2 true i64 v0 0), (2, Ob.box 44 (cellsD false y44 a0))]) H (by kernel_rfl) fun v0 H => ?_
 refine qa tok hT [1, 2, 5, 6] (St.mk [p 1 (J a1), p 2 (AV.ptr 2 0), p 5 (AV.os 11 0), p 6 (AV.v (Value.slice none 0 0))] [(11, Ob.arr 2 true i64 v0 0), (2, Ob.box 44 (cellsD false y44 a0))]) (by kernel_rfl) ?_
 refine jn r (fun (v6 : List Int) => St.mk [p 6 (AV.os 29 0)] [(29, Ob.arr 2 true i64 v6 0)]) (u98J0) (fun v6 H => ?_) (fun _ n0 e0 t0 => ?_)
 ·refine qa tok hT [4] (St.mk [p 4 (AV.os 29 0)] [(29, Ob.arr 2 true i64 v6 0)]) (by kernel_rfl) ?_
  exact vx_ret <| hr H (by kernel_rfl)
 refine qd tok hT [5, 6, 17, 18, 19] (fun v1 => St.mk [p 5 (AV.os 11 0), p 6 (AV.v (Value.slice none 0 0)), p 17 (L i64 v1.2.2.2), p 18 (I (↑v1.2.2.2.length : Int)), p 19 (I 0)] [(11, Ob.arr 2 true i64 v0 0), (2, Ob.box 44 (cellsD false y44 a0))]) H (by kernel_rfl) fun v1 H => ?_
 refine vx_block <| ?_
 refine lx (fun ((v3, v4) : List Int × Int) => St.mk [p 5 (AV.os 11 0), p 6 (AV.os 29 0), p 17 (L i64 v1.2.2.2), p 18 (I (↑v1.2.2.2.length : Int)), p 19 (I v4)] [(11, Ob.arr 2 true i64 v0 0), (29, Ob.arr 2 true i64 v3 0)]) ([], 0) H (by kernel_rfl) fun _ g1 b1 e1 t1 ⟨v3, v4⟩ H => ?_
 refine qa tok hT [5, 6, 17, 18, 19, 20] (St.mk [p 5 (AV.os 11 0), p 6 (AV.os 29 0), p 17 (L i64 v1.2.2.2), p 18 (I (↑v1.2.2.2.length : Int)), p 19 (I v4), p 20 (B (decide (v4 < (↑v1.2.2.2.length : Int))))] [(11, Ob.arr 2 true i64 v0 0), (29, Ob.arr 2 true i64 v3 0)]) (by kernel_rfl) ?_
 refine vx_seq <| ?_
 refine cd H (by kernel_rfl) (fun H => ?_) (fun H => ?_)
 ·refine vx_skip <| fx_seq <| vx_seq <| vx_block <| ?_
  refine qb tok hT [5, 6, 8, 17, 18, 19] (St.mk [p 5 (AV.os 11 0), p 6 (AV.os 29 0), p 8 (J (v1.2.2.2.getD v4.toNat 0)), p 17 (L i64 v1.2.2.2), p 18 (I (↑v1.2.2.2.length : Int)), p 19 (I v4)] [(11, Ob.arr 2 true i64 v0 0), (29, Ob.arr 2 true i64 v3 0)]) H (by kernel_rfl) fun H => ?_
  refine zd tok hT [5, 6, 17, 18, 19] (fun v5 => St.mk [p 5 (AV.os 11 0), p 6 (AV.os 29 1), p 17 (L i64 v1.2.2.2), p 18 (I (↑v1.2.2.2.length : Int)), p 19 (I v4)] [(29, Ob.arr 2 true i64 v5 1), (28, Ob.arr 2 true i64 [v0.getD (Int.toNat (v1.2.2.2.getD v4.toNat 0)) 0] 0), (11, Ob.arr 2 true i64 v0 0)]) H (by kernel_rfl) fun v5 H => ?_
  refine fx_blk <| fx_seq <| ?_
  refine zb tok hT [5, 6, 17, 18, 19] (St.mk [p 5 (AV.os 11 0), p 6 (AV.os 29 1), p 17 (L i64 v1.2.2.2), p 18 (I (↑v1.2.2.2.length : Int)), p 19 (I (v4 + 1))] [(29, Ob.arr 2 true i64 v5 1), (28, Ob.arr 2 true i64 [v0.getD (Int.toNat (v1.2.2.2.getD v4.toNat 0)) 0] 0), (11, Ob.arr 2 true i64 v0 0)]) H (by kernel_rfl) fun H => ?_
  exact b1 H (by kernel_rfl)
 exact vx_exit <| fx_seq_exit <| e1 <| fx_blk_exit rfl <| n0 H (by kernel_rfl)
def k98d : Ct := lct 98 [.agg y44, .dat i64] (fun x => u98 x.1 x.2.1) (fun r => frz ((fun r : List Int => AV.ow 2 true i64 r) r)) (fun _ => ())
theorem o98d : Ok Tryz.prog k98d := ok_frz o98
end Go.Proofs.YtippccamjlfafaaGreatDoor
