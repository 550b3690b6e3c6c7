/- Functions of this program as plain functions of data, and that they are so: printed by program. -/
import Derived.Test.YtippccamjlfafaaGreatDoorFn6b
import Derived.Test.YtippccamjlfafaaGreatDoorXE
import Derived.Test.YtippccamjlfafaaGreatDoorTY
import Derived.Test.YtippccamjlfafaaGreatDoorLB
namespace Go.Proofs.YtippccamjlfafaaGreatDoor
open Go Go.Proofs Go.Proofs.Sv Go.Proofs.Xv Go.Proofs.Xl Go.RowKit
def u133 (a0 : Y89) : Option (List (Int × Int)) :=
 if (a0.1 == 2) = true then
  some ([((0 : Int), (0 : Int)), ((0 : Int), (1 : Int))])
 else
  if (a0.1 == 3) = true then
   some ([((1 : Int), (0 : Int)), ((1 : Int), (1 : Int))])
  else
   if (a0.1 != 1) = true then
    some []
   else
    if (a0.2.2.2.1 == 1) = true then
     some ([((0 : Int), (0 : Int)), ((1 : Int), (1 : Int))])
    else
     if (a0.2.2.2.1 == 2) = true then
      some ([((0 : Int), (1 : Int)), ((1 : Int), (0 : Int))])
     else
      lt ([((0 : Int), (0 : Int)), ((0 : Int), (1 : Int)), ((1 : Int), (0 : Int)), ((1 : Int), (1 : Int))]) fun v0 =>
      some v0
def k133 : Ct := lct 133 [.agg y89] (fun x => u133 x.1) (fun r : List (Int × Int) => AV.ow 215 true (i64.pr i64) r) (fun _ => ())
theorem o133 : Ok Tryz.prog k133 := by
 refine okl tok [.tmp 2] Tryz.func133 Tryz.ntmps133 rfl Tryz.results133 (by kernel_rfl) rfl ?_
 intro y ⟨a0, _⟩ r H Q hn hr
 have hT := @tn Tryz.prog
 refine qa tok hT [1] (St.mk [p 1 (AV.ptr 1 0)] [(1, Ob.box 89 (cellsD false y89 a0))]) (by kernel_rfl) ?_
 refine qa tok hT [1, 3] (St.mk [p (1 : Nat) (AV.ptr (1 : Nat) (0 : Nat)), p (3 : Nat) (AV.os (7 : Nat) (0 : Nat))] [((7 : Nat), Ob.arr (nat_lit 215) true (i64.pr i64) [((0 : Int), (0 : Int)), ((1 : Int), (1 : Int))] (0 : Nat)), ((1 : Nat), Ob.box (nat_lit 89) (cellsD false y89 a0))]) (by kernel_rfl) ?_
 refine qa tok hT [1, 3, 4] (St.mk [p (1 : Nat) (AV.ptr (1 : Nat) (0 : Nat)), p (3 : Nat) (AV.os (7 : Nat) (0 : Nat)), p (4 : Nat) (AV.os (10 : Nat) (0 : Nat))] [((10 : Nat), Ob.arr (nat_lit 215) true (i64.pr i64) [((0 : Int), (1 : Int)), ((1 : Int), (0 : Int))] (0 : Nat)), ((7 : Nat), Ob.arr (nat_lit 215) true (i64.pr i64) [((0 : Int), (0 : Int)), ((1 : Int), (1 : Int))] (0 : Nat)), ((1 : Nat), Ob.box (nat_lit 89) (cellsD false y89 a0))]) (by kernel_rfl) ?_
 refine vx_seq <| vx_block <| ?_
 refine qa tok hT [1, 3, 4, 11] (St.mk [p (1 : Nat) (AV.ptr (1 : Nat) (0 : Nat)), p (3 : Nat) (AV.os (7 : Nat) (0 : Nat)), p (4 : Nat) (AV.os (10 : Nat) (0 : Nat)), p (11 : Nat) (B (a0.1 == (2 : Int)))] [((10 : Nat), Ob.arr (nat_lit 215) true (i64.pr i64) [((0 : Int), (1 : Int)), ((1 : Int), (0 : Int))] (0 : Nat)), ((7 : Nat), Ob.arr (nat_lit 215) true (i64.pr i64) [((0 : Int), (0 : Int)), ((1 : Int), (1 : Int))] (0 : Nat)), ((1 : Nat), Ob.box (nat_lit 89) (cellsD false y89 a0))]) (by kernel_rfl) ?_
 refine cd H (by kernel_rfl) (fun H => ?_) (fun H => ?_)
 ·refine qa tok hT [2] (St.mk [p (2 : Nat) (AV.os (17 : Nat) (0 : Nat))] [((17 : Nat), Ob.arr (nat_lit 215) true (i64.pr i64) [((0 : Int), (0 : Int)), ((0 : Int), (1 : Int))] (0 : Nat)), ((10 : Nat), Ob.arr (nat_lit 215) true (i64.pr i64) [((0 : Int), (1 : Int)), ((1 : Int), (0 : Int))] (0 : Nat)), ((7 : Nat), Ob.arr (nat_lit 215) true (i64.pr i64) [((0 : Int), (0 : Int)), ((1 : Int), (1 : Int))] (0 : Nat)), ((1 : Nat), Ob.box (nat_lit 89) (cellsD false y89 a0))]) (by kernel_rfl) ?_
  exact vx_ret <| fx_blk_ret <| fx_seq_ret <| hr H (by kernel_rfl)
 refine qa tok hT [1, 3, 4, 18] (St.mk [p (1 : Nat) (AV.ptr (1 : Nat) (0 : Nat)), p (3 : Nat) (AV.os (7 : Nat) (0 : Nat)), p (4 : Nat) (AV.os (10 : Nat) (0 : Nat)), p (18 : Nat) (B (a0.1 == (3 : Int)))] [((10 : Nat), Ob.arr (nat_lit 215) true (i64.pr i64) [((0 : Int), (1 : Int)), ((1 : Int), (0 : Int))] (0 : Nat)), ((7 : Nat), Ob.arr (nat_lit 215) true (i64.pr i64) [((0 : Int), (0 : Int)), ((1 : Int), (1 : Int))] (0 : Nat)), ((1 : Nat), Ob.box (nat_lit 89) (cellsD false y89 a0))]) (by kernel_rfl) ?_
 refine cd H (by kernel_rfl) (fun H => ?_) (fun H => ?_)
 ·refine qa tok hT [2] (St.mk [p (2 : Nat) (AV.os (24 : Nat) (0 : Nat))] [((24 : Nat), Ob.arr (nat_lit 215) true (i64.pr i64) [((1 : Int), (0 : Int)), ((1 : Int), (1 : Int))] (0 : Nat)), ((10 : Nat), Ob.arr (nat_lit 215) true (i64.pr i64) [((0 : Int), (1 : Int)), ((1 : Int), (0 : Int))] (0 : Nat)), ((7 : Nat), Ob.arr (nat_lit 215) true (i64.pr i64) [((0 : Int), (0 : Int)), ((1 : Int), (1 : Int))] (0 : Nat)), ((1 : Nat), Ob.box (nat_lit 89) (cellsD false y89 a0))]) (by kernel_rfl) ?_
  exact vx_ret <| fx_blk_ret <| fx_seq_ret <| hr H (by kernel_rfl)
 refine qa tok hT [1, 3, 4, 25] (St.mk [p (1 : Nat) (AV.ptr (1 : Nat) (0 : Nat)), p (3 : Nat) (AV.os (7 : Nat) (0 : Nat)), p (4 : Nat) (AV.os (10 : Nat) (0 : Nat)), p (25 : Nat) (B (a0.1 != (1 : Int)))] [((10 : Nat), Ob.arr (nat_lit 215) true (i64.pr i64) [((0 : Int), (1 : Int)), ((1 : Int), (0 : Int))] (0 : Nat)), ((7 : Nat), Ob.arr (nat_lit 215) true (i64.pr i64) [((0 : Int), (0 : Int)), ((1 : Int), (1 : Int))] (0 : Nat)), ((1 : Nat), Ob.box (nat_lit 89) (cellsD false y89 a0))]) (by kernel_rfl) ?_
 refine cd H (by kernel_rfl) (fun H => ?_) (fun H => ?_)
 ·refine qa tok hT [2] (St.mk [p (2 : Nat) (AV.v (Value.slice none (0 : Nat) (0 : Nat)))] [((10 : Nat), Ob.arr (nat_lit 215) true (i64.pr i64) [((0 : Int), (1 : Int)), ((1 : Int), (0 : Int))] (0 : Nat)), ((7 : Nat), Ob.arr (nat_lit 215) true (i64.pr i64) [((0 : Int), (0 : Int)), ((1 : Int), (1 : Int))] (0 : Nat)), ((1 : Nat), Ob.box (nat_lit 89) (cellsD false y89 a0))]) (by kernel_rfl) ?_
  exact vx_ret <| fx_blk_ret <| fx_seq_ret <| hr H (by kernel_rfl)
 refine qa tok hT [1, 3, 4, 29] (St.mk [p (1 : Nat) (AV.ptr (1 : Nat) (0 : Nat)), p (3 : Nat) (AV.os (7 : Nat) (0 : Nat)), p (4 : Nat) (AV.os (10 : Nat) (0 : Nat)), p (29 : Nat) (B (a0.2.2.2.1 == (1 : Int)))] [((10 : Nat), Ob.arr (nat_lit 215) true (i64.pr i64) [((0 : Int), (1 : Int)), ((1 : Int), (0 : Int))] (0 : Nat)), ((7 : Nat), Ob.arr (nat_lit 215) true (i64.pr i64) [((0 : Int), (0 : Int)), ((1 : Int), (1 : Int))] (0 : Nat)), ((1 : Nat), Ob.box (nat_lit 89) (cellsD false y89 a0))]) (by kernel_rfl) ?_
 refine cd H (by kernel_rfl) (fun H => ?_) (fun H => ?_)
 ·refine qa tok hT [2] (St.mk [p (2 : Nat) (AV.os (7 : Nat) (0 : Nat))] [((10 : Nat), Ob.arr (nat_lit 215) true (i64.pr i64) [((0 : Int), (1 : Int)), ((1 : Int), (0 : Int))] (0 : Nat)), ((7 : Nat), Ob.arr (nat_lit 215) true (i64.pr i64) [((0 : Int), (0 : Int)), ((1 : Int), (1 : Int))] (0 : Nat)), ((1 : Nat), Ob.box (nat_lit 89) (cellsD false y89 a0))]) (by kernel_rfl) ?_
  exact vx_ret <| fx_blk_ret <| fx_seq_ret <| hr H (by kernel_rfl)
 refine qa tok hT [4, 34] (St.mk [p (4 : Nat) (AV.os (10 : Nat) (0 : Nat)), p (34 : Nat) (B (a0.2.2.2.1 == (2 : Int)))] [((10 : Nat), Ob.arr (nat_lit 215) true (i64.pr i64) [((0 : Int), (1 : Int)), ((1 : Int), (0 : Int))] (0 : Nat)), ((7 : Nat), Ob.arr (nat_lit 215) true (i64.pr i64) [((0 : Int), (0 : Int)), ((1 : Int), (1 : Int))] (0 : Nat)), ((1 : Nat), Ob.box (nat_lit 89) (cellsD false y89 a0))]) (by kernel_rfl) ?_
 refine cd H (by kernel_rfl) (fun H => ?_) (fun H => ?_)
 ·refine qa tok hT [2] (St.mk [p (2 : Nat) (AV.os (10 : Nat) (0 : Nat))] [((10 : Nat), Ob.arr (nat_lit 215) true (i64.pr i64) [((0 : Int), (1 : Int)), ((1 : Int), (0 : Int))] (0 : Nat)), ((7 : Nat), Ob.arr (nat_lit 215) true (i64.pr i64) [((0 : Int), (0 : Int)), ((1 : Int), (1 : Int))] (0 : Nat)), ((1 : Nat), Ob.box (nat_lit 89) (cellsD false y89 a0))]) (by kernel_rfl) ?_
  exact vx_ret <| fx_blk_ret <| fx_seq_ret <| hr H (by kernel_rfl)
 refine vx_skip <| fx_blk <| fx_seq <| ?_
 refine qc tok hT [2] (fun v0 => St.mk [p (2 : Nat) (AV.os (43 : Nat) (0 : Nat))] [((43 : Nat), Ob.arr (nat_lit 215) true (i64.pr i64) v0 (0 : Nat)), ((10 : Nat), Ob.arr (nat_lit 215) true (i64.pr i64) [((0 : Int), (1 : Int)), ((1 : Int), (0 : Int))] (0 : Nat)), ((7 : Nat), Ob.arr (nat_lit 215) true (i64.pr i64) [((0 : Int), (0 : Int)), ((1 : Int), (1 : Int))] (0 : Nat)), ((1 : Nat), Ob.box (nat_lit 89) (cellsD false y89 a0))]) H (by kernel_rfl) fun v0 H => ?_
 exact vx_ret <| hr H (by kernel_rfl)
def u95J0 : List Y175 → Option (List Y175)
 | v24 =>
 some v24
def u95J2 (v12 : Int) (g1 : List Y175 × Int → Option (List Y175)) : List Y175 → Option (List Y175)
 | v23 =>
 gd (in64 (v12 + 1) ∧ True) <| 
 g1 (v23, v12 + 1)
def u95L3 (a2 : Int) (v13 : Y89) (v12 : Int) (v14 : List (Int × Int)) (g1 : List Y175 × Int → Option (List Y175)) (g3 : Int × List Y175 → Option (List Y175)) : Int × List Y175 → Option (List Y175)
 | (v18, v19) =>
 if (decide (v18 < (↑v14.length : Int))) = true then
  gd (ix v18 v14.length ∧ v18.toNat < v14.length ∧ True) <| lt (v14.getD v18.toNat (dflt (i64.pr i64))) fun v20 =>
  gd (in64 (a2 + v13.2.1) ∧ in64 ((2 : Int) * (a2 + v13.2.1)) ∧ ix (0 : Int) (2 : Nat) ∧ in64 ((2 : Int) * (a2 + v13.2.1) + v20.1) ∧ in64 (a2 + v13.2.2.1) ∧ in64 ((2 : Int) * (a2 + v13.2.2.1)) ∧ ix (1 : Int) (2 : Nat) ∧ in64 ((2 : Int) * (a2 + v13.2.2.1) + v20.2) ∧ (v19.length + [((2 : Int) * (a2 + v13.2.1) + v20.1, (2 : Int) * (a2 + v13.2.2.1) + v20.2, (1 : Int), v12)].length ≤ (9223372036854775807 : Nat) ∧ (v19.length + [((2 : Int) * (a2 + v13.2.1) + v20.1, (2 : Int) * (a2 + v13.2.2.1) + v20.2, (1 : Int), v12)].length) * (32 : Nat) ≤ (140737488355328 : Nat)) ∧ True) <| lt ((v19 ++ [((2 : Int) * (a2 + v13.2.1) + v20.1, (2 : Int) * (a2 + v13.2.2.1) + v20.2, (1 : Int), v12)], [((2 : Int) * (a2 + v13.2.1) + v20.1, (2 : Int) * (a2 + v13.2.2.1) + v20.2, (1 : Int), v12)])) fun (v21, v22) =>
  gd (in64 (v18 + 1) ∧ True) <| 
  g3 (v18 + 1, v21)
 else
  u95J2 v12 g1 v19
def u95L1 (a2 : Int) (v0 : Y152) (g1 : List Y175 × Int → Option (List Y175)) : List Y175 × Int → Option (List Y175)
 | (v11, v12) =>
 if (decide (v12 < (↑v0.2.2.2.1.length : Int))) = true then
  gd (ix v12 v0.2.2.2.1.length ∧ True) <| lt (v0.2.2.2.1.getD v12.toNat (dflt y89)) fun v13 =>
  gd ((u133 v13).isSome = true ∧ True) <| lt (vl (u133 v13)) fun v14 =>
  lp (u95L3 a2 v13 v12 v14 g1) (0, v11)
 else
  u95J0 v11
def u95 (a0 : Y44) (a1 : Y141) (a2 : Int) : Option (List Y175) :=
 gd (ix a1.2.1 a0.1.length ∧ True) <| lt (a0.1.getD a1.2.1.toNat (dflt y152)) fun v0 =>
 lp (u95L1 a2 v0) ([], 0)
def k95 : Ct := lct 95 [.agg y44, .agg y141, .dat i64] (fun x => u95 x.1 x.2.1 x.2.2.1) (fun r : List Y175 => AV.ow 175 true y175 r) (fun _ => ())
theorem o95 : Ok Tryz.prog k95 := by
 refine okl tok [.tmp 6] Tryz.func95 Tryz.ntmps95 rfl Tryz.results95 (by kernel_rfl) rfl ?_
 intro y ⟨a0, a1, a2, _⟩ r H Q hn hr
 have hT := tc o133 tn
 refine qa tok hT [2, 3, 4] (St.mk [p 2 (J a2), p 3 (AV.ptr 3 0), p 4 (AV.ptr 4 0)] [(4, Ob.box 141 (cellsD false y141 a1)), (3, Ob.box 44 (cellsD false y44 a0))]) (by kernel_rfl) ?_
 refine qa tok hT [2, 3, 4, 7] (St.mk [p 2 (J a2), p 3 (AV.ptr 3 0), p 4 (AV.ptr 4 0), p 7 (AV.v (Value.slice none 0 0))] [(4, Ob.box 141 (cellsD false y141 a1)), (3, Ob.box 44 (cellsD false y44 a0))]) (by kernel_rfl) ?_
 refine jn r (fun (v24 : List Y175) => St.mk [p 7 (AV.os 53 0)] [(53, Ob.arr 175 true y175 v24 0)]) (u95J0) (fun v24 H => ?_) (fun _ n0 e0 t0 => ?_)
 ·refine qa tok hT [6] (St.mk [p 6 (AV.os 53 0)] [(53, Ob.arr 175 true y175 v24 0)]) (by kernel_rfl) ?_
  exact vx_ret <| hr H (by kernel_rfl)
 refine qd tok hT [2, 7, 19, 20, 21] (fun v0 => St.mk [p 2 (J a2), p 7 (AV.v (Value.slice none 0 0)), p 19 (L y89 v0.2.2.2.1), p 20 (I (↑v0.2.2.2.1.length : Int)), p 21 (I 0)] [(4, Ob.box 141 (cellsD false y141 a1)), (3, Ob.box 44 (cellsD false y44 a0))]) H (by kernel_rfl) fun v0 H => ?_
 refine vx_block <| ?_
 refine lx (fun ((v11, v12) : List Y175 × Int) => St.mk [p 2 (J a2), p 7 (AV.os 53 0), p 19 (L y89 v0.2.2.2.1), p 20 (I (↑v0.2.2.2.1.length : Int)), p 21 (I v12)] [(53, Ob.arr 175 true y175 v11 0)]) ([], 0) H (by kernel_rfl) fun _ g1 b1 e1 t1 ⟨v11, v12⟩ H => ?_
 refine qa tok hT [2, 7, 19, 20, 21, 22] (St.mk [p 2 (J a2), p 7 (AV.os 53 0), p 19 (L y89 v0.2.2.2.1), p 20 (I (↑v0.2.2.2.1.length : Int)), p 21 (I v12), p 22 (B (decide (v12 < (↑v0.2.2.2.1.length : Int))))] [(53, Ob.arr 175 true y175 v11 0)]) (by kernel_rfl) ?_
 refine vx_seq <| ?_
 refine cd H (by kernel_rfl) (fun H => ?_) (fun H => ?_)
 ·refine vx_skip <| fx_seq <| ?_
  refine jn r (fun (v23 : List Y175) => St.mk [p 2 (J a2), p 7 (AV.os 53 0), p 19 (L y89 v0.2.2.2.1), p 20 (I (↑v0.2.2.2.1.length : Int)), p 21 (I v12)] [(53, Ob.arr 175 true y175 v23 0)]) (u95J2 v12 g1) (fun v23 H => ?_) (fun _ n2 e2 t2 => ?_)
  ·refine zb tok hT [2, 7, 19, 20, 21] (St.mk [p 2 (J a2), p 7 (AV.os 53 0), p 19 (L y89 v0.2.2.2.1), p 20 (I (↑v0.2.2.2.1.length : Int)), p 21 (I (v12 + 1))] [(53, Ob.arr 175 true y175 v23 0)]) H (by kernel_rfl) fun H => ?_
   exact b1 H (by kernel_rfl)
  refine vx_block <| ?_
  refine qd tok hT [2, 7, 8, 9, 19, 20, 21] (fun v13 => St.mk [p 2 (J a2), p 7 (AV.os 53 0), p 8 (I v12), p 9 (AV.ptr 9 0), p 19 (L y89 v0.2.2.2.1), p 20 (I (↑v0.2.2.2.1.length : Int)), p 21 (I v12)] [(9, Ob.box 89 (cellsD false y89 v13)), (53, Ob.arr 175 true y175 v11 0)]) H (by kernel_rfl) fun v13 H => ?_
  refine qd tok hT [2, 7, 8, 9, 19, 20, 21, 27, 28, 29] (fun v14 => St.mk [p 2 (J a2), p 7 (AV.os 53 0), p 8 (I v12), p 9 (AV.ptr 9 0), p 19 (L y89 v0.2.2.2.1), p 20 (I (↑v0.2.2.2.1.length : Int)), p 21 (I v12), p 27 (AV.os 27 0), p 28 (I (↑v14.length : Int)), p 29 (I 0)] [(27, Ob.arr 215 true (i64.pr i64) v14 0), (9, Ob.box 89 (cellsD false y89 v13)), (53, Ob.arr 175 true y175 v11 0)]) H (by kernel_rfl) fun v14 H => ?_
  refine vx_block <| ?_
  refine lx (fun ((v18, v19) : Int × List Y175) => St.mk [p 2 (J a2), p 7 (AV.os 53 0), p 8 (I v12), p 9 (AV.ptr 9 0), p 19 (L y89 v0.2.2.2.1), p 20 (I (↑v0.2.2.2.1.length : Int)), p 21 (I v12), p 27 (AV.os 27 0), p 28 (I (↑v14.length : Int)), p 29 (I v18)] [(27, Ob.arr 215 true (i64.pr i64) v14 0), (9, Ob.box 89 (cellsD false y89 v13)), (53, Ob.arr 175 true y175 v19 0)]) (0, v11) H (by kernel_rfl) fun _ g3 b3 e3 t3 ⟨v18, v19⟩ H => ?_
  refine qa tok hT [2, 7, 8, 9, 19, 20, 21, 27, 28, 29, 30] (St.mk [p 2 (J a2), p 7 (AV.os 53 0), p 8 (I v12), p 9 (AV.ptr 9 0), p 19 (L y89 v0.2.2.2.1), p 20 (I (↑v0.2.2.2.1.length : Int)), p 21 (I v12), p 27 (AV.os 27 0), p 28 (I (↑v14.length : Int)), p 29 (I v18), p 30 (B (decide (v18 < (↑v14.length : Int))))] [(27, Ob.arr 215 true (i64.pr i64) v14 0), (9, Ob.box 89 (cellsD false y89 v13)), (53, Ob.arr 175 true y175 v19 0)]) (by kernel_rfl) ?_
  refine vx_seq <| ?_
  refine cd H (by kernel_rfl) (fun H => ?_) (fun H => ?_)
  ·refine vx_skip <| fx_seq <| vx_seq <| vx_block <| ?_
   refine qd tok hT [2, 7, 8, 9, 11, 19, 20, 21, 27, 28, 29] (fun v20 => St.mk [p 2 (J a2), p 7 (AV.os 53 0), p 8 (I v12), p 9 (AV.ptr 9 0), p 11 (AV.ptr 11 0), p 19 (L y89 v0.2.2.2.1), p 20 (I (↑v0.2.2.2.1.length : Int)), p 21 (I v12), p 27 (AV.os 27 0), p 28 (I (↑v14.length : Int)), p 29 (I v18)] [(11, Ob.box 215 (cellsD true (i64.pr i64) v20)), (27, Ob.arr 215 true (i64.pr i64) v14 0), (9, Ob.box 89 (cellsD false y89 v13)), (53, Ob.arr 175 true y175 v19 0)]) H (by kernel_rfl) fun v20 H => ?_
   refine zd tok hT [2, 7, 8, 9, 19, 20, 21, 27, 28, 29] (fun (v21, v22) => St.mk [p 2 (J a2), p 7 (AV.os 53 1), p 8 (I v12), p 9 (AV.ptr 9 0), p 19 (L y89 v0.2.2.2.1), p 20 (I (↑v0.2.2.2.1.length : Int)), p 21 (I v12), p 27 (AV.os 27 0), p 28 (I (↑v14.length : Int)), p 29 (I v18)] [(53, Ob.arr 175 true y175 v21 1), (52, Ob.arr 175 true y175 v22 0), (11, Ob.box 215 (cellsD true (i64.pr i64) v20)), (27, Ob.arr 215 true (i64.pr i64) v14 0), (9, Ob.box 89 (cellsD false y89 v13))]) H (by kernel_rfl) fun ⟨v21, v22⟩ H => ?_
   refine fx_blk <| fx_seq <| ?_
   refine zb tok hT [2, 7, 8, 9, 19, 20, 21, 27, 28, 29] (St.mk [p 2 (J a2), p 7 (AV.os 53 1), p 8 (I v12), p 9 (AV.ptr 9 0), p 19 (L y89 v0.2.2.2.1), p 20 (I (↑v0.2.2.2.1.length : Int)), p 21 (I v12), p 27 (AV.os 27 0), p 28 (I (↑v14.length : Int)), p 29 (I (v18 + 1))] [(53, Ob.arr 175 true y175 v21 1), (52, Ob.arr 175 true y175 v22 0), (11, Ob.box 215 (cellsD true (i64.pr i64) v20)), (27, Ob.arr 215 true (i64.pr i64) v14 0), (9, Ob.box 89 (cellsD false y89 v13))]) H (by kernel_rfl) fun H => ?_
   exact b3 H (by kernel_rfl)
  exact vx_exit <| fx_seq_exit <| e3 <| fx_blk_exit rfl <| fx_blk <| n2 H (by kernel_rfl)
 exact vx_exit <| fx_seq_exit <| e1 <| fx_blk_exit rfl <| n0 H (by kernel_rfl)
def u49J5 (a0 : Y44) (v0 : List Y81) : List Y175 × List Int × List (List Int) → Option (Y170)
 | (v97, v98, v99) =>
 some (a0, v0, v97, v98, v99, [])
def u49J7 (v71 : Int) (g6 : Int × List Int × List (List Int) × List Y175 → Option (Y170)) : List (List Int) × List Int × List Y175 → Option (Y170)
 | (v94, v95, v96) =>
 gd (in64 (v71 + 1) ∧ True) <| 
 g6 (v71 + 1, v95, v94, v96)
def u49J9 (v85 : Int) (g8 : Int × List Y175 → Option (Y170)) : List Y175 → Option (Y170)
 | v93 =>
 gd (in64 (v85 + 1) ∧ True) <| 
 g8 (v85 + 1, v93)
def u49L10 (v24 : List Int) (v71 : Int) (v23 : List (List Int)) (v85 : Int) (g8 : Int × List Y175 → Option (Y170)) (g10 : Int × List Y175 → Option (Y170)) : Int × List Y175 → Option (Y170)
 | (v89, v90) =>
 if (decide (v89 < 2)) = true then
  gd (ix v71 v24.length ∧ v71.toNat < v24.length ∧ in64 ((2 : Int) * v24.getD v71.toNat (0 : Int)) ∧ in64 ((2 : Int) * v24.getD v71.toNat (0 : Int) + v89) ∧ in64 ((2 : Int) * List.getD (v23.getD v71.toNat []) v85.toNat (0 : Int)) ∧ in64 ((2 : Int) * List.getD (v23.getD v71.toNat []) v85.toNat (0 : Int) + v89) ∧ (v90.length + [((2 : Int) * v24.getD v71.toNat (0 : Int) + v89, (2 : Int) * List.getD (v23.getD v71.toNat []) v85.toNat (0 : Int) + v89, (2 : Int), v85)].length ≤ (9223372036854775807 : Nat) ∧ (v90.length + [((2 : Int) * v24.getD v71.toNat (0 : Int) + v89, (2 : Int) * List.getD (v23.getD v71.toNat []) v85.toNat (0 : Int) + v89, (2 : Int), v85)].length) * (32 : Nat) ≤ (140737488355328 : Nat)) ∧ True) <| lt ((v90 ++ [((2 : Int) * v24.getD v71.toNat (0 : Int) + v89, (2 : Int) * List.getD (v23.getD v71.toNat []) v85.toNat (0 : Int) + v89, (2 : Int), v85)], [((2 : Int) * v24.getD v71.toNat (0 : Int) + v89, (2 : Int) * List.getD (v23.getD v71.toNat []) v85.toNat (0 : Int) + v89, (2 : Int), v85)])) fun (v91, v92) =>
  gd (in64 (v89 + 1) ∧ True) <| 
  g10 (v89 + 1, v91)
 else
  u49J9 v85 g8 v90
def u49L8 (v24 : List Int) (v71 : Int) (v23 : List (List Int)) (v73 : List (List Int)) (v76 : List Int) (v72 : List Int) (v75 : List Int) (g6 : Int × List Int × List (List Int) × List Y175 → Option (Y170)) (g8 : Int × List Y175 → Option (Y170)) : Int × List Y175 → Option (Y170)
 | (v85, v86) =>
 if (decide (v85 < (↑(List.length (v23.getD v71.toNat [])) : Int))) = true then
  gd (ix v85 (List.length (v23.getD v71.toNat [])) ∧ True) <| 
  lp (u49L10 v24 v71 v23 v85 g8) (0, v86)
 else
  u49J7 v71 g6 ((v73 ++ [v76], v72 ++ [v75.getD (Int.toNat (0 : Int)) (0 : Int)], v86))
def u49L6 (v24 : List Int) (v23 : List (List Int)) (a0 : Y44) (v0 : List Y81) (g6 : Int × List Int × List (List Int) × List Y175 → Option (Y170)) : Int × List Int × List (List Int) × List Y175 → Option (Y170)
 | (v71, v72, v73, v74) =>
 if (decide (v71 < (↑a0.2.2.length : Int))) = true then
  gd ((u97 a0 v71).isSome = true ∧ ix (0 : Int) (vl (u97 a0 v71)).length ∧ Int.toNat (0 : Int) < (vl (u97 a0 v71)).length ∧ (v72.length + [(vl (u97 a0 v71)).getD (Int.toNat (0 : Int)) (0 : Int)].length ≤ (9223372036854775807 : Nat) ∧ (v72.length + [(vl (u97 a0 v71)).getD (Int.toNat (0 : Int)) (0 : Int)].length) * (8 : Nat) ≤ (140737488355328 : Nat)) ∧ True) <| lt (vl (u97 a0 v71)) fun v75 =>
  gd ((u98 a0 v71).isSome = true ∧ (v73.length + [vl (u98 a0 v71)].length ≤ 9223372036854775807 ∧ (v73.length + [vl (u98 a0 v71)].length) * 24 ≤ 140737488355328) ∧ True) <| lt (vl (u98 a0 v71)) fun v76 =>
  gd (ix v71 v23.length ∧ True) <| 
  lp (u49L8 v24 v71 v23 v73 v76 v72 v75 g6) (0, v74)
 else
  u49J5 a0 v0 (v74, v72, v73)
def u49J2 (a0 : Y44) (v0 : List Y81) (v10 : List Y175) : List (List Int) × List Int → Option (Y170)
 | (v23, v24) =>
 lp (u49L6 v24 v23 a0 v0) (0, [], [], v10)
def u49J4 (v16 : Int) (g3 : Int × List (List Int) × List Int → Option (Y170)) : List Int × List (List Int) → Option (Y170)
 | (v21, v22) =>
 gd (in64 (v16 + 1) ∧ True) <| 
 g3 (v16 + 1, v22, v21)
def u49L3 (v0 : List Y81) (a0 : Y44) (v10 : List Y175) (g3 : Int × List (List Int) × List Int → Option (Y170)) : Int × List (List Int) × List Int → Option (Y170)
 | (v16, v17, v18) =>
 if (decide (v16 < (↑v0.length : Int))) = true then
  gd (ix v16 v0.length ∧ v16.toNat < v0.length ∧ True) <| lt (v0.getD v16.toNat (dflt y81)) fun v19 =>
  if v19.2.2.2 = true then
   gd (ix v19.2.2.1 v18.length ∧ v19.2.2.1.toNat < v18.length ∧ True) <| 
   u49J4 v16 g3 (v18.set v19.2.2.1.toNat v16, v17)
  else
   gd (ix v19.2.2.1 v17.length ∧ v19.2.2.1.toNat < v17.length ∧ ((v17.getD v19.2.2.1.toNat []).length + [v16].length ≤ 9223372036854775807 ∧ ((v17.getD v19.2.2.1.toNat []).length + [v16].length) * 8 ≤ 140737488355328) ∧ ix v19.2.2.1 v17.length ∧ (v19.2.2.1.toNat < v17.length ∧ v19.2.2.1.toNat = v19.2.2.1.toNat) ∧ True) <| lt (v17.set v19.2.2.1.toNat (v17.getD v19.2.2.1.toNat [] ++ [v16])) fun v20 =>
   u49J4 v16 g3 (v18, v20)
 else
  u49J2 a0 v0 v10 (v17, v18)
def u49J0 (v0 : List Y81) (a0 : Y44) : List Y175 → Option (Y170)
 | v10 =>
 gd ((0 ≤ (↑a0.2.2.length : Int) ∧ (↑a0.2.2.length : Int) = (↑a0.2.2.length : Int) ∧ (↑a0.2.2.length : Int).toNat * 8 ≤ 281474976710656 ∧ (↑a0.2.2.length : Int) ≤ 9223372036854775807) ∧ True) <| 
 gd ((0 ≤ (↑a0.2.2.length : Int) ∧ (↑a0.2.2.length : Int) = (↑a0.2.2.length : Int) ∧ (↑a0.2.2.length : Int).toNat * 24 ≤ 281474976710656 ∧ (↑a0.2.2.length : Int) ≤ 9223372036854775807) ∧ True) <| 
 lp (u49L3 v0 a0 v10) ((0, List.replicate (↑a0.2.2.length : Int).toNat [], List.replicate (↑a0.2.2.length : Int).toNat 0))
def u49L1 (a0 : Y44) (v0 : List Y81) (g1 : Int × Int × List Y175 → Option (Y170)) : Int × Int × List Y175 → Option (Y170)
 | (v4, v5, v6) =>
 if (decide (v5 < (↑a0.2.1.1.length : Int))) = true then
  gd (ix v5 a0.2.1.1.length ∧ True) <| lt (a0.2.1.1.getD v5.toNat (dflt y141)) fun v7 =>
  gd ((u95 a0 v7 v4).isSome = true ∧ (v6.length + (vl (u95 a0 v7 v4)).length ≤ 9223372036854775807 ∧ (v6.length + (vl (u95 a0 v7 v4)).length) * 32 ≤ 140737488355328) ∧ True) <| lt (vl (u95 a0 v7 v4)) fun v8 =>
  gd ((u96 v7.2.2).isSome = true ∧ in64 (v4 + vl (u96 v7.2.2)) ∧ True) <| lt (vl (u96 v7.2.2)) fun v9 =>
  gd (in64 (v5 + 1) ∧ True) <| 
  g1 (v4 + v9, v5 + 1, v6 ++ v8)
 else
  u49J0 v0 a0 v6
def u49 (a0 : Y44) : Option (Y170) :=
 gd ((u37 a0.2.1).isSome = true ∧ True) <| lt (vl (u37 a0.2.1)) fun v0 =>
 lp (u49L1 a0 v0) (0, 0, [])
def k49 : Ct := lct 49 [.agg y44] (fun x => u49 x.1) (fun r : Y170 => D y170.pt r) (fun _ => ())
theorem o49 : Ok Tryz.prog k49 := by
 refine okl tok [.tmp 2] Tryz.func49 Tryz.ntmps49 rfl Tryz.results49 (by kernel_rfl) rfl ?_
 intro y ⟨a0, _⟩ r H Q hn hr
 have hT := tc o98d (tc o97 (tc o96 (tc o95 (tc o37 tn))))
 refine qa tok hT [1] (St.mk [p 1 (AV.ptr 1 0)] [(1, Ob.box 44 (cellsD false y44 a0))]) (by kernel_rfl) ?_
 refine qd tok hT [1, 3] (fun v0 => St.mk [p 1 (AV.ptr 1 0), p 3 (AV.ptr 20 0)] [(20, Ob.box 170 [L y152 a0.1, L y141 a0.2.1.1, L Ty.str a0.2.1.2.1, L y143 a0.2.1.2.2, L y131 a0.2.2, AV.os 18 0, AV.v (Value.slice none 0 0), AV.v (Value.slice none 0 0), AV.v (Value.slice none 0 0), AV.v (Value.slice none 0 0)]), (18, Ob.arr 81 true y81 v0 0), (1, Ob.box 44 (cellsD false y44 a0))]) H (by kernel_rfl) fun v0 H => ?_
 refine qa tok hT [1, 3, 4] (St.mk [p 1 (AV.ptr 1 0), p 3 (AV.ptr 20 0), p 4 (I 0)] [(20, Ob.box 170 [L y152 a0.1, L y141 a0.2.1.1, L Ty.str a0.2.1.2.1, L y143 a0.2.1.2.2, L y131 a0.2.2, AV.os 18 0, AV.v (Value.slice none 0 0), AV.v (Value.slice none 0 0), AV.v (Value.slice none 0 0), AV.v (Value.slice none 0 0)]), (18, Ob.arr 81 true y81 v0 0), (1, Ob.box 44 (cellsD false y44 a0))]) (by kernel_rfl) ?_
 refine jn r (fun (v10 : List Y175) => St.mk [p 1 (AV.ptr 1 0), p 3 (AV.ptr 20 0)] [(20, Ob.box 170 [L y152 a0.1, L y141 a0.2.1.1, L Ty.str a0.2.1.2.1, L y143 a0.2.1.2.2, L y131 a0.2.2, AV.os 18 0, AV.os 38 0, AV.v (Value.slice none 0 0), AV.v (Value.slice none 0 0), AV.v (Value.slice none 0 0)]), (18, Ob.arr 81 true y81 v0 0), (1, Ob.box 44 (cellsD false y44 a0)), (38, Ob.arr 175 true y175 v10 0)]) (u49J0 v0 a0) (fun v10 H => ?_) (fun _ n0 e0 t0 => ?_)
 ·refine qb tok hT [1, 3, 7] (St.mk [p 1 (AV.ptr 1 0), p 3 (AV.ptr 20 0), p 7 (AV.os 50 0)] [(50, Ob.arr 2 true i64 (List.replicate (↑a0.2.2.length : Int).toNat 0) 0), (20, Ob.box 170 [L y152 a0.1, L y141 a0.2.1.1, L Ty.str a0.2.1.2.1, L y143 a0.2.1.2.2, L y131 a0.2.2, AV.os 18 0, AV.os 38 0, AV.v (Value.slice none 0 0), AV.v (Value.slice none 0 0), AV.v (Value.slice none 0 0)]), (18, Ob.arr 81 true y81 v0 0), (1, Ob.box 44 (cellsD false y44 a0)), (38, Ob.arr 175 true y175 v10 0)]) H (by kernel_rfl) fun H => ?_
  refine qb tok hT [1, 3, 7, 8] (St.mk [p 1 (AV.ptr 1 0), p 3 (AV.ptr 20 0), p 7 (AV.os 50 0), p 8 (AV.og 54)] [(54, Ob.grd 94 2 true i64 (List.replicate (↑a0.2.2.length : Int).toNat []) none), (50, Ob.arr 2 true i64 (List.replicate (↑a0.2.2.length : Int).toNat 0) 0), (20, Ob.box 170 [L y152 a0.1, L y141 a0.2.1.1, L Ty.str a0.2.1.2.1, L y143 a0.2.1.2.2, L y131 a0.2.2, AV.os 18 0, AV.os 38 0, AV.v (Value.slice none 0 0), AV.v (Value.slice none 0 0), AV.v (Value.slice none 0 0)]), (18, Ob.arr 81 true y81 v0 0), (1, Ob.box 44 (cellsD false y44 a0)), (38, Ob.arr 175 true y175 v10 0)]) H (by kernel_rfl) fun H => ?_
  refine jn r (fun ((v23, v24) : List (List Int) × List Int) => St.mk [p 1 (AV.ptr 1 0), p 3 (AV.ptr 20 0), p 7 (AV.os 50 0), p 8 (AV.og 54)] [(54, Ob.grd 94 2 true i64 v23 none), (50, Ob.arr 2 true i64 v24 0), (20, Ob.box 170 [L y152 a0.1, L y141 a0.2.1.1, L Ty.str a0.2.1.2.1, L y143 a0.2.1.2.2, L y131 a0.2.2, AV.os 18 0, AV.os 38 0, AV.v (Value.slice none 0 0), AV.v (Value.slice none 0 0), AV.v (Value.slice none 0 0)]), (18, Ob.arr 81 true y81 v0 0), (1, Ob.box 44 (cellsD false y44 a0)), (38, Ob.arr 175 true y175 v10 0)]) (u49J2 a0 v0 v10) (fun ⟨v23, v24⟩ H => ?_) (fun _ n2 e2 t2 => ?_)
  ·refine jn r (fun ((v97, v98, v99) : List Y175 × List Int × List (List Int)) => St.mk [p 3 (AV.ptr 20 0)] [(20, Ob.box 170 [L y152 a0.1, L y141 a0.2.1.1, L Ty.str a0.2.1.2.1, L y143 a0.2.1.2.2, L y131 a0.2.2, AV.os 18 0, AV.os 38 0, AV.os 102 0, AV.os 114 0, AV.v (Value.slice none 0 0)]), (18, Ob.arr 81 true y81 v0 0), (38, Ob.arr 175 true y175 v97 0), (102, Ob.arr 2 true i64 v98 0), (114, Ob.arr 94 true i64.sl v99 0)]) (u49J5 a0 v0) (fun ⟨v97, v98, v99⟩ H => ?_) (fun _ n5 e5 t5 => ?_)
   ·refine qa tok hT [2] (St.mk [p 2 (AV.ptr 20 0)] [(20, Ob.box 170 [L y152 a0.1, L y141 a0.2.1.1, L Ty.str a0.2.1.2.1, L y143 a0.2.1.2.2, L y131 a0.2.2, AV.os 18 0, AV.os 38 0, AV.os 102 0, AV.os 114 0, AV.v (Value.slice none 0 0)]), (18, Ob.arr 81 true y81 v0 0), (38, Ob.arr 175 true y175 v97 0), (102, Ob.arr 2 true i64 v98 0), (114, Ob.arr 94 true i64.sl v99 0)]) (by kernel_rfl) ?_
    exact vx_ret <| hr H (by kernel_rfl)
   refine qa tok hT [1, 3, 7, 8, 87, 88] (St.mk [p 1 (AV.ptr 1 0), p 3 (AV.ptr 20 0), p 7 (AV.os 50 0), p 8 (AV.og 54), p 87 (I (↑a0.2.2.length : Int)), p 88 (I 0)] [(54, Ob.grd 94 2 true i64 v23 none), (50, Ob.arr 2 true i64 v24 0), (20, Ob.box 170 [L y152 a0.1, L y141 a0.2.1.1, L Ty.str a0.2.1.2.1, L y143 a0.2.1.2.2, L y131 a0.2.2, AV.os 18 0, AV.os 38 0, AV.v (Value.slice none 0 0), AV.v (Value.slice none 0 0), AV.v (Value.slice none 0 0)]), (18, Ob.arr 81 true y81 v0 0), (1, Ob.box 44 (cellsD false y44 a0)), (38, Ob.arr 175 true y175 v10 0)]) (by kernel_rfl) ?_
   refine vx_block <| ?_
   refine fz 54 (St.mk [p 1 (AV.ptr 1 0), p 3 (AV.ptr 20 0), p 7 (AV.os 50 0), p 8 (M i64.sl v23), p 87 (I (↑a0.2.2.length : Int)), p 88 (I 0)] [(50, Ob.arr 2 true i64 v24 0), (20, Ob.box 170 [L y152 a0.1, L y141 a0.2.1.1, L Ty.str a0.2.1.2.1, L y143 a0.2.1.2.2, L y131 a0.2.2, AV.os 18 0, AV.os 38 0, AV.v (Value.slice none 0 0), AV.v (Value.slice none 0 0), AV.v (Value.slice none 0 0)]), (18, Ob.arr 81 true y81 v0 0), (1, Ob.box 44 (cellsD false y44 a0)), (38, Ob.arr 175 true y175 v10 0)]) (by kernel_rfl) rfl ?_
   refine lx (fun ((v71, v72, v73, v74) : Int × List Int × List (List Int) × List Y175) => St.mk [p 1 (AV.ptr 1 0), p 3 (AV.ptr 20 0), p 7 (AV.os 50 0), p 8 (M i64.sl v23), p 87 (I (↑a0.2.2.length : Int)), p 88 (I v71)] [(50, Ob.arr 2 true i64 v24 0), (20, Ob.box 170 [L y152 a0.1, L y141 a0.2.1.1, L Ty.str a0.2.1.2.1, L y143 a0.2.1.2.2, L y131 a0.2.2, AV.os 18 0, AV.os 38 0, AV.os 102 0, AV.os 114 0, AV.v (Value.slice none 0 0)]), (18, Ob.arr 81 true y81 v0 0), (1, Ob.box 44 (cellsD false y44 a0)), (38, Ob.arr 175 true y175 v74 0), (102, Ob.arr 2 true i64 v72 0), (114, Ob.arr 94 true i64.sl v73 0)]) (0, [], [], v10) H (by kernel_rfl) fun _ g6 b6 e6 t6 ⟨v71, v72, v73, v74⟩ H => ?_
   refine qa tok hT [1, 3, 7, 8, 87, 88, 89] (St.mk [p 1 (AV.ptr 1 0), p 3 (AV.ptr 20 0), p 7 (AV.os 50 0), p 8 (M i64.sl v23), p 87 (I (↑a0.2.2.length : Int)), p 88 (I v71), p 89 (B (decide (v71 < (↑a0.2.2.length : Int))))] [(50, Ob.arr 2 true i64 v24 0), (20, Ob.box 170 [L y152 a0.1, L y141 a0.2.1.1, L Ty.str a0.2.1.2.1, L y143 a0.2.1.2.2, L y131 a0.2.2, AV.os 18 0, AV.os 38 0, AV.os 102 0, AV.os 114 0, AV.v (Value.slice none 0 0)]), (18, Ob.arr 81 true y81 v0 0), (1, Ob.box 44 (cellsD false y44 a0)), (38, Ob.arr 175 true y175 v74 0), (102, Ob.arr 2 true i64 v72 0), (114, Ob.arr 94 true i64.sl v73 0)]) (by kernel_rfl) ?_
   refine vx_seq <| ?_
   refine cd H (by kernel_rfl) (fun H => ?_) (fun H => ?_)
   ·refine vx_skip <| fx_seq <| ?_
    refine jn r (fun ((v94, v95, v96) : List (List Int) × List Int × List Y175) => St.mk [p 1 (AV.ptr 1 0), p 3 (AV.ptr 20 0), p 7 (AV.os 50 0), p 8 (M i64.sl v23), p 87 (I (↑a0.2.2.length : Int)), p 88 (I v71)] [(20, Ob.box 170 [L y152 a0.1, L y141 a0.2.1.1, L Ty.str a0.2.1.2.1, L y143 a0.2.1.2.2, L y131 a0.2.2, AV.os 18 0, AV.os 38 0, AV.os 102 0, AV.os 114 0, AV.v (Value.slice none 0 0)]), (114, Ob.arr 94 true i64.sl v94 0), (102, Ob.arr 2 true i64 v95 0), (50, Ob.arr 2 true i64 v24 0), (18, Ob.arr 81 true y81 v0 0), (1, Ob.box 44 (cellsD false y44 a0)), (38, Ob.arr 175 true y175 v96 0)]) (u49J7 v71 g6) (fun ⟨v94, v95, v96⟩ H => ?_) (fun _ n7 e7 t7 => ?_)
    ·refine zb tok hT [1, 3, 7, 8, 87, 88] (St.mk [p 1 (AV.ptr 1 0), p 3 (AV.ptr 20 0), p 7 (AV.os 50 0), p 8 (M i64.sl v23), p 87 (I (↑a0.2.2.length : Int)), p 88 (I (v71 + 1))] [(20, Ob.box 170 [L y152 a0.1, L y141 a0.2.1.1, L Ty.str a0.2.1.2.1, L y143 a0.2.1.2.2, L y131 a0.2.2, AV.os 18 0, AV.os 38 0, AV.os 102 0, AV.os 114 0, AV.v (Value.slice none 0 0)]), (114, Ob.arr 94 true i64.sl v94 0), (102, Ob.arr 2 true i64 v95 0), (50, Ob.arr 2 true i64 v24 0), (18, Ob.arr 81 true y81 v0 0), (1, Ob.box 44 (cellsD false y44 a0)), (38, Ob.arr 175 true y175 v96 0)]) H (by kernel_rfl) fun H => ?_
     exact b6 H (by kernel_rfl)
    refine vx_block <| ?_
    refine qa tok hT [1, 3, 7, 8, 11, 87, 88] (St.mk [p 1 (AV.ptr 1 0), p 3 (AV.ptr 20 0), p 7 (AV.os 50 0), p 8 (M i64.sl v23), p 11 (I v71), p 87 (I (↑a0.2.2.length : Int)), p 88 (I v71)] [(50, Ob.arr 2 true i64 v24 0), (20, Ob.box 170 [L y152 a0.1, L y141 a0.2.1.1, L Ty.str a0.2.1.2.1, L y143 a0.2.1.2.2, L y131 a0.2.2, AV.os 18 0, AV.os 38 0, AV.os 102 0, AV.os 114 0, AV.v (Value.slice none 0 0)]), (18, Ob.arr 81 true y81 v0 0), (1, Ob.box 44 (cellsD false y44 a0)), (38, Ob.arr 175 true y175 v74 0), (102, Ob.arr 2 true i64 v72 0), (114, Ob.arr 94 true i64.sl v73 0)]) (by kernel_rfl) ?_
    refine qd tok hT [1, 3, 7, 8, 11, 87, 88] (fun v75 => St.mk [p (1 : Nat) (AV.ptr (1 : Nat) (0 : Nat)), p (3 : Nat) (AV.ptr (20 : Nat) (0 : Nat)), p (7 : Nat) (AV.os (50 : Nat) (0 : Nat)), p (8 : Nat) (M i64.sl v23), p (11 : Nat) (I v71), p (87 : Nat) (I (↑a0.2.2.length : Int)), p (88 : Nat) (I v71)] [((20 : Nat), Ob.box (nat_lit 170) [L y152 a0.1, L y141 a0.2.1.1, L Ty.str a0.2.1.2.1, L y143 a0.2.1.2.2, L y131 a0.2.2, AV.os (18 : Nat) (0 : Nat), AV.os (38 : Nat) (0 : Nat), AV.os (102 : Nat) (1 : Nat), AV.os (114 : Nat) (0 : Nat), AV.v (Value.slice none (0 : Nat) (0 : Nat))]), ((102 : Nat), Ob.arr (nat_lit 2) true i64 (v72 ++ [v75.getD (Int.toNat (0 : Int)) (0 : Int)]) (1 : Nat)), ((101 : Nat), Ob.arr (nat_lit 2) true i64 [v75.getD (Int.toNat (0 : Int)) (0 : Int)] (0 : Nat)), ((98 : Nat), Ob.arr (nat_lit 2) true i64 v75 (0 : Nat)), ((50 : Nat), Ob.arr (nat_lit 2) true i64 v24 (0 : Nat)), ((18 : Nat), Ob.arr (nat_lit 81) true y81 v0 (0 : Nat)), ((1 : Nat), Ob.box (nat_lit 44) (cellsD false y44 a0)), ((38 : Nat), Ob.arr (nat_lit 175) true y175 v74 (0 : Nat)), ((114 : Nat), Ob.arr (nat_lit 94) true i64.sl v73 (0 : Nat))]) H (by kernel_rfl) fun v75 H => ?_
    refine qd tok hT [1, 3, 7, 8, 11, 87, 88] (fun v76 => St.mk [p (1 : Nat) (AV.ptr (1 : Nat) (0 : Nat)), p (3 : Nat) (AV.ptr (20 : Nat) (0 : Nat)), p (7 : Nat) (AV.os (50 : Nat) (0 : Nat)), p (8 : Nat) (M i64.sl v23), p (11 : Nat) (I v71), p (87 : Nat) (I (↑a0.2.2.length : Int)), p (88 : Nat) (I v71)] [((20 : Nat), Ob.box (nat_lit 170) [L y152 a0.1, L y141 a0.2.1.1, L Ty.str a0.2.1.2.1, L y143 a0.2.1.2.2, L y131 a0.2.2, AV.os (18 : Nat) (0 : Nat), AV.os (38 : Nat) (0 : Nat), AV.os (102 : Nat) (1 : Nat), AV.os (114 : Nat) (1 : Nat), AV.v (Value.slice none (0 : Nat) (0 : Nat))]), ((114 : Nat), Ob.arr (nat_lit 94) true i64.sl (v73 ++ [v76]) (1 : Nat)), ((113 : Nat), Ob.arr (nat_lit 94) true i64.sl [v76] (0 : Nat)), ((102 : Nat), Ob.arr (nat_lit 2) true i64 (v72 ++ [v75.getD (Int.toNat (0 : Int)) (0 : Int)]) (1 : Nat)), ((101 : Nat), Ob.arr (nat_lit 2) true i64 [v75.getD (Int.toNat (0 : Int)) (0 : Int)] (0 : Nat)), ((98 : Nat), Ob.arr (nat_lit 2) true i64 v75 (0 : Nat)), ((50 : Nat), Ob.arr (nat_lit 2) true i64 v24 (0 : Nat)), ((18 : Nat), Ob.arr (nat_lit 81) true y81 v0 (0 : Nat)), ((1 : Nat), Ob.box (nat_lit 44) (cellsD false y44 a0)), ((38 : Nat), Ob.arr (nat_lit 175) true y175 v74 (0 : Nat))]) H (by kernel_rfl) fun v76 H => ?_
    refine qb tok hT [1, 3, 7, 8, 11, 87, 88, 120, 121, 122] (St.mk [p (1 : Nat) (AV.ptr (1 : Nat) (0 : Nat)), p (3 : Nat) (AV.ptr (20 : Nat) (0 : Nat)), p (7 : Nat) (AV.os (50 : Nat) (0 : Nat)), p (8 : Nat) (M i64.sl v23), p (11 : Nat) (I v71), p (87 : Nat) (I (↑a0.2.2.length : Int)), p (88 : Nat) (I v71), p (120 : Nat) (M i64 (v23.getD v71.toNat [])), p (121 : Nat) (I (↑(List.length (v23.getD v71.toNat [])) : Int)), p (122 : Nat) (I (0 : Int))] [((20 : Nat), Ob.box (nat_lit 170) [L y152 a0.1, L y141 a0.2.1.1, L Ty.str a0.2.1.2.1, L y143 a0.2.1.2.2, L y131 a0.2.2, AV.os (18 : Nat) (0 : Nat), AV.os (38 : Nat) (0 : Nat), AV.os (102 : Nat) (1 : Nat), AV.os (114 : Nat) (1 : Nat), AV.v (Value.slice none (0 : Nat) (0 : Nat))]), ((114 : Nat), Ob.arr (nat_lit 94) true i64.sl (v73 ++ [v76]) (1 : Nat)), ((113 : Nat), Ob.arr (nat_lit 94) true i64.sl [v76] (0 : Nat)), ((102 : Nat), Ob.arr (nat_lit 2) true i64 (v72 ++ [v75.getD (Int.toNat (0 : Int)) (0 : Int)]) (1 : Nat)), ((101 : Nat), Ob.arr (nat_lit 2) true i64 [v75.getD (Int.toNat (0 : Int)) (0 : Int)] (0 : Nat)), ((98 : Nat), Ob.arr (nat_lit 2) true i64 v75 (0 : Nat)), ((50 : Nat), Ob.arr (nat_lit 2) true i64 v24 (0 : Nat)), ((18 : Nat), Ob.arr (nat_lit 81) true y81 v0 (0 : Nat)), ((1 : Nat), Ob.box (nat_lit 44) (cellsD false y44 a0)), ((38 : Nat), Ob.arr (nat_lit 175) true y175 v74 (0 : Nat))]) H (by kernel_rfl) fun H => ?_
    refine vx_block <| ?_
    refine lx (fun ((v85, v86) : Int × List Y175) => St.mk [p (1 : Nat) (AV.ptr (1 : Nat) (0 : Nat)), p (3 : Nat) (AV.ptr (20 : Nat) (0 : Nat)), p (7 : Nat) (AV.os (50 : Nat) (0 : Nat)), p (8 : Nat) (M i64.sl v23), p (11 : Nat) (I v71), p (87 : Nat) (I (↑a0.2.2.length : Int)), p (88 : Nat) (I v71), p (120 : Nat) (M i64 (v23.getD v71.toNat [])), p (121 : Nat) (I (↑(List.length (v23.getD v71.toNat [])) : Int)), p (122 : Nat) (I v85)] [((20 : Nat), Ob.box (nat_lit 170) [L y152 a0.1, L y141 a0.2.1.1, L Ty.str a0.2.1.2.1, L y143 a0.2.1.2.2, L y131 a0.2.2, AV.os (18 : Nat) (0 : Nat), AV.os (38 : Nat) (0 : Nat), AV.os (102 : Nat) (0 : Nat), AV.os (114 : Nat) (0 : Nat), AV.v (Value.slice none (0 : Nat) (0 : Nat))]), ((114 : Nat), Ob.arr (nat_lit 94) true i64.sl (v73 ++ [v76]) (0 : Nat)), ((102 : Nat), Ob.arr (nat_lit 2) true i64 (v72 ++ [v75.getD (Int.toNat (0 : Int)) (0 : Int)]) (0 : Nat)), ((50 : Nat), Ob.arr (nat_lit 2) true i64 v24 (0 : Nat)), ((18 : Nat), Ob.arr (nat_lit 81) true y81 v0 (0 : Nat)), ((1 : Nat), Ob.box (nat_lit 44) (cellsD false y44 a0)), ((38 : Nat), Ob.arr (nat_lit 175) true y175 v86 (0 : Nat))]) (0, v74) H (by kernel_rfl) fun _ g8 b8 e8 t8 ⟨v85, v86⟩ H => ?_
    refine qa tok hT [1, 3, 7, 8, 11, 87, 88, 120, 121, 122, 123] (St.mk [p (1 : Nat) (AV.ptr (1 : Nat) (0 : Nat)), p (3 : Nat) (AV.ptr (20 : Nat) (0 : Nat)), p (7 : Nat) (AV.os (50 : Nat) (0 : Nat)), p (8 : Nat) (M i64.sl v23), p (11 : Nat) (I v71), p (87 : Nat) (I (↑a0.2.2.length : Int)), p (88 : Nat) (I v71), p (120 : Nat) (M i64 (v23.getD v71.toNat [])), p (121 : Nat) (I (↑(List.length (v23.getD v71.toNat [])) : Int)), p (122 : Nat) (I v85), p (123 : Nat) (B (decide (v85 < (↑(List.length (v23.getD v71.toNat [])) : Int))))] [((20 : Nat), Ob.box (nat_lit 170) [L y152 a0.1, L y141 a0.2.1.1, L Ty.str a0.2.1.2.1, L y143 a0.2.1.2.2, L y131 a0.2.2, AV.os (18 : Nat) (0 : Nat), AV.os (38 : Nat) (0 : Nat), AV.os (102 : Nat) (0 : Nat), AV.os (114 : Nat) (0 : Nat), AV.v (Value.slice none (0 : Nat) (0 : Nat))]), ((114 : Nat), Ob.arr (nat_lit 94) true i64.sl (v73 ++ [v76]) (0 : Nat)), ((102 : Nat), Ob.arr (nat_lit 2) true i64 (v72 ++ [v75.getD (Int.toNat (0 : Int)) (0 : Int)]) (0 : Nat)), ((50 : Nat), Ob.arr (nat_lit 2) true i64 v24 (0 : Nat)), ((18 : Nat), Ob.arr (nat_lit 81) true y81 v0 (0 : Nat)), ((1 : Nat), Ob.box (nat_lit 44) (cellsD false y44 a0)), ((38 : Nat), Ob.arr (nat_lit 175) true y175 v86 (0 : Nat))]) (by kernel_rfl) ?_
    refine vx_seq <| ?_
    refine cd H (by kernel_rfl) (fun H => ?_) (fun H => ?_)
    ·refine vx_skip <| fx_seq <| ?_
     refine jn r (fun (v93 : List Y175) => St.mk [p (1 : Nat) (AV.ptr (1 : Nat) (0 : Nat)), p (3 : Nat) (AV.ptr (20 : Nat) (0 : Nat)), p (7 : Nat) (AV.os (50 : Nat) (0 : Nat)), p (8 : Nat) (M i64.sl v23), p (11 : Nat) (I v71), p (87 : Nat) (I (↑a0.2.2.length : Int)), p (88 : Nat) (I v71), p (120 : Nat) (M i64 (v23.getD v71.toNat [])), p (121 : Nat) (I (↑(List.length (v23.getD v71.toNat [])) : Int)), p (122 : Nat) (I v85)] [((20 : Nat), Ob.box (nat_lit 170) [L y152 a0.1, L y141 a0.2.1.1, L Ty.str a0.2.1.2.1, L y143 a0.2.1.2.2, L y131 a0.2.2, AV.os (18 : Nat) (0 : Nat), AV.os (38 : Nat) (0 : Nat), AV.os (102 : Nat) (0 : Nat), AV.os (114 : Nat) (0 : Nat), AV.v (Value.slice none (0 : Nat) (0 : Nat))]), ((114 : Nat), Ob.arr (nat_lit 94) true i64.sl (v73 ++ [v76]) (0 : Nat)), ((102 : Nat), Ob.arr (nat_lit 2) true i64 (v72 ++ [v75.getD (Int.toNat (0 : Int)) (0 : Int)]) (0 : Nat)), ((50 : Nat), Ob.arr (nat_lit 2) true i64 v24 (0 : Nat)), ((18 : Nat), Ob.arr (nat_lit 81) true y81 v0 (0 : Nat)), ((1 : Nat), Ob.box (nat_lit 44) (cellsD false y44 a0)), ((38 : Nat), Ob.arr (nat_lit 175) true y175 v93 (0 : Nat))]) (u49J9 v85 g8) (fun v93 H => ?_) (fun _ n9 e9 t9 => ?_)
     ·refine zb tok hT [1, 3, 7, 8, 11, 87, 88, 120, 121, 122] (St.mk [p (1 : Nat) (AV.ptr (1 : Nat) (0 : Nat)), p (3 : Nat) (AV.ptr (20 : Nat) (0 : Nat)), p (7 : Nat) (AV.os (50 : Nat) (0 : Nat)), p (8 : Nat) (M i64.sl v23), p (11 : Nat) (I v71), p (87 : Nat) (I (↑a0.2.2.length : Int)), p (88 : Nat) (I v71), p (120 : Nat) (M i64 (v23.getD v71.toNat [])), p (121 : Nat) (I (↑(List.length (v23.getD v71.toNat [])) : Int)), p (122 : Nat) (I (v85 + (1 : Int)))] [((20 : Nat), Ob.box (nat_lit 170) [L y152 a0.1, L y141 a0.2.1.1, L Ty.str a0.2.1.2.1, L y143 a0.2.1.2.2, L y131 a0.2.2, AV.os (18 : Nat) (0 : Nat), AV.os (38 : Nat) (0 : Nat), AV.os (102 : Nat) (0 : Nat), AV.os (114 : Nat) (0 : Nat), AV.v (Value.slice none (0 : Nat) (0 : Nat))]), ((114 : Nat), Ob.arr (nat_lit 94) true i64.sl (v73 ++ [v76]) (0 : Nat)), ((102 : Nat), Ob.arr (nat_lit 2) true i64 (v72 ++ [v75.getD (Int.toNat (0 : Int)) (0 : Int)]) (0 : Nat)), ((50 : Nat), Ob.arr (nat_lit 2) true i64 v24 (0 : Nat)), ((18 : Nat), Ob.arr (nat_lit 81) true y81 v0 (0 : Nat)), ((1 : Nat), Ob.box (nat_lit 44) (cellsD false y44 a0)), ((38 : Nat), Ob.arr (nat_lit 175) true y175 v93 (0 : Nat))]) H (by kernel_rfl) fun H => ?_
      exact b8 H (by kernel_rfl)
     refine vx_block <| ?_
     refine qb tok hT [1, 3, 7, 8, 11, 12, 13, 87, 88, 120, 121, 122] (St.mk [p (1 : Nat) (AV.ptr (1 : Nat) (0 : Nat)), p (3 : Nat) (AV.ptr (20 : Nat) (0 : Nat)), p (7 : Nat) (AV.os (50 : Nat) (0 : Nat)), p (8 : Nat) (M i64.sl v23), p (11 : Nat) (I v71), p (12 : Nat) (I v85), p (13 : Nat) (I (List.getD (v23.getD v71.toNat []) v85.toNat (0 : Int))), p (87 : Nat) (I (↑a0.2.2.length : Int)), p (88 : Nat) (I v71), p (120 : Nat) (M i64 (v23.getD v71.toNat [])), p (121 : Nat) (I (↑(List.length (v23.getD v71.toNat [])) : Int)), p (122 : Nat) (I v85)] [((20 : Nat), Ob.box (nat_lit 170) [L y152 a0.1, L y141 a0.2.1.1, L Ty.str a0.2.1.2.1, L y143 a0.2.1.2.2, L y131 a0.2.2, AV.os (18 : Nat) (0 : Nat), AV.os (38 : Nat) (0 : Nat), AV.os (102 : Nat) (0 : Nat), AV.os (114 : Nat) (0 : Nat), AV.v (Value.slice none (0 : Nat) (0 : Nat))]), ((114 : Nat), Ob.arr (nat_lit 94) true i64.sl (v73 ++ [v76]) (0 : Nat)), ((102 : Nat), Ob.arr (nat_lit 2) true i64 (v72 ++ [v75.getD (Int.toNat (0 : Int)) (0 : Int)]) (0 : Nat)), ((50 : Nat), Ob.arr (nat_lit 2) true i64 v24 (0 : Nat)), ((18 : Nat), Ob.arr (nat_lit 81) true y81 v0 (0 : Nat)), ((1 : Nat), Ob.box (nat_lit 44) (cellsD false y44 a0)), ((38 : Nat), Ob.arr (nat_lit 175) true y175 v86 (0 : Nat))]) H (by kernel_rfl) fun H => ?_
     refine qa tok hT [1, 3, 7, 8, 11, 12, 13, 87, 88, 120, 121, 122, 127] (St.mk [p (1 : Nat) (AV.ptr (1 : Nat) (0 : Nat)), p (3 : Nat) (AV.ptr (20 : Nat) (0 : Nat)), p (7 : Nat) (AV.os (50 : Nat) (0 : Nat)), p (8 : Nat) (M i64.sl v23), p (11 : Nat) (I v71), p (12 : Nat) (I v85), p (13 : Nat) (I (List.getD (v23.getD v71.toNat []) v85.toNat (0 : Int))), p (87 : Nat) (I (↑a0.2.2.length : Int)), p (88 : Nat) (I v71), p (120 : Nat) (M i64 (v23.getD v71.toNat [])), p (121 : Nat) (I (↑(List.length (v23.getD v71.toNat [])) : Int)), p (122 : Nat) (I v85), p (127 : Nat) (I (0 : Int))] [((20 : Nat), Ob.box (nat_lit 170) [L y152 a0.1, L y141 a0.2.1.1, L Ty.str a0.2.1.2.1, L y143 a0.2.1.2.2, L y131 a0.2.2, AV.os (18 : Nat) (0 : Nat), AV.os (38 : Nat) (0 : Nat), AV.os (102 : Nat) (0 : Nat), AV.os (114 : Nat) (0 : Nat), AV.v (Value.slice none (0 : Nat) (0 : Nat))]), ((114 : Nat), Ob.arr (nat_lit 94) true i64.sl (v73 ++ [v76]) (0 : Nat)), ((102 : Nat), Ob.arr (nat_lit 2) true i64 (v72 ++ [v75.getD (Int.toNat (0 : Int)) (0 : Int)]) (0 : Nat)), ((50 : Nat), Ob.arr (nat_lit 2) true i64 v24 (0 : Nat)), ((18 : Nat), Ob.arr (nat_lit 81) true y81 v0 (0 : Nat)), ((1 : Nat), Ob.box (nat_lit 44) (cellsD false y44 a0)), ((38 : Nat), Ob.arr (nat_lit 175) true y175 v86 (0 : Nat))]) (by kernel_rfl) ?_
     refine vx_block <| ?_
     refine lx (fun ((v89, v90) : Int × List Y175) => St.mk [p (1 : Nat) (AV.ptr (1 : Nat) (0 : Nat)), p (3 : Nat) (AV.ptr (20 : Nat) (0 : Nat)), p (7 : Nat) (AV.os (50 : Nat) (0 : Nat)), p (8 : Nat) (M i64.sl v23), p (11 : Nat) (I v71), p (12 : Nat) (I v85), p (13 : Nat) (I (List.getD (v23.getD v71.toNat []) v85.toNat (0 : Int))), p (87 : Nat) (I (↑a0.2.2.length : Int)), p (88 : Nat) (I v71), p (120 : Nat) (M i64 (v23.getD v71.toNat [])), p (121 : Nat) (I (↑(List.length (v23.getD v71.toNat [])) : Int)), p (122 : Nat) (I v85), p (127 : Nat) (I v89)] [((20 : Nat), Ob.box (nat_lit 170) [L y152 a0.1, L y141 a0.2.1.1, L Ty.str a0.2.1.2.1, L y143 a0.2.1.2.2, L y131 a0.2.2, AV.os (18 : Nat) (0 : Nat), AV.os (38 : Nat) (0 : Nat), AV.os (102 : Nat) (0 : Nat), AV.os (114 : Nat) (0 : Nat), AV.v (Value.slice none (0 : Nat) (0 : Nat))]), ((114 : Nat), Ob.arr (nat_lit 94) true i64.sl (v73 ++ [v76]) (0 : Nat)), ((102 : Nat), Ob.arr (nat_lit 2) true i64 (v72 ++ [v75.getD (Int.toNat (0 : Int)) (0 : Int)]) (0 : Nat)), ((50 : Nat), Ob.arr (nat_lit 2) true i64 v24 (0 : Nat)), ((18 : Nat), Ob.arr (nat_lit 81) true y81 v0 (0 : Nat)), ((1 : Nat), Ob.box (nat_lit 44) (cellsD false y44 a0)), ((38 : Nat), Ob.arr (nat_lit 175) true y175 v90 (0 : Nat))]) (0, v86) H (by kernel_rfl) fun _ g10 b10 e10 t10 ⟨v89, v90⟩ H => ?_
     refine qa tok hT [1, 3, 7, 8, 11, 12, 13, 87, 88, 120, 121, 122, 127, 128] (St.mk [p (1 : Nat) (AV.ptr (1 : Nat) (0 : Nat)), p (3 : Nat) (AV.ptr (20 : Nat) (0 : Nat)), p (7 : Nat) (AV.os (50 : Nat) (0 : Nat)), p (8 : Nat) (M i64.sl v23), p (11 : Nat) (I v71), p (12 : Nat) (I v85), p (13 : Nat) (I (List.getD (v23.getD v71.toNat []) v85.toNat (0 : Int))), p (87 : Nat) (I (↑a0.2.2.length : Int)), p (88 : Nat) (I v71), p (120 : Nat) (M i64 (v23.getD v71.toNat [])), p (121 : Nat) (I (↑(List.length (v23.getD v71.toNat [])) : Int)), p (122 : Nat) (I v85), p (127 : Nat) (I v89), p (128 : Nat) (B (decide (v89 < (2 : Int))))] [((20 : Nat), Ob.box (nat_lit 170) [L y152 a0.1, L y141 a0.2.1.1, L Ty.str a0.2.1.2.1, L y143 a0.2.1.2.2, L y131 a0.2.2, AV.os (18 : Nat) (0 : Nat), AV.os (38 : Nat) (0 : Nat), AV.os (102 : Nat) (0 : Nat), AV.os (114 : Nat) (0 : Nat), AV.v (Value.slice none (0 : Nat) (0 : Nat))]), ((114 : Nat), Ob.arr (nat_lit 94) true i64.sl (v73 ++ [v76]) (0 : Nat)), ((102 : Nat), Ob.arr (nat_lit 2) true i64 (v72 ++ [v75.getD (Int.toNat (0 : Int)) (0 : Int)]) (0 : Nat)), ((50 : Nat), Ob.arr (nat_lit 2) true i64 v24 (0 : Nat)), ((18 : Nat), Ob.arr (nat_lit 81) true y81 v0 (0 : Nat)), ((1 : Nat), Ob.box (nat_lit 44) (cellsD false y44 a0)), ((38 : Nat), Ob.arr (nat_lit 175) true y175 v90 (0 : Nat))]) (by kernel_rfl) ?_
     refine vx_seq <| ?_
     refine cd H (by kernel_rfl) (fun H => ?_) (fun H => ?_)
     ·refine vx_skip <| fx_seq <| vx_seq <| vx_block <| ?_
      refine qa tok hT [1, 3, 7, 8, 11, 12, 13, 14, 87, 88, 120, 121, 122, 127] (St.mk [p (1 : Nat) (AV.ptr (1 : Nat) (0 : Nat)), p (3 : Nat) (AV.ptr (20 : Nat) (0 : Nat)), p (7 : Nat) (AV.os (50 : Nat) (0 : Nat)), p (8 : Nat) (M i64.sl v23), p (11 : Nat) (I v71), p (12 : Nat) (I v85), p (13 : Nat) (I (List.getD (v23.getD v71.toNat []) v85.toNat (0 : Int))), p (14 : Nat) (I v89), p (87 : Nat) (I (↑a0.2.2.length : Int)), p (88 : Nat) (I v71), p (120 : Nat) (M i64 (v23.getD v71.toNat [])), p (121 : Nat) (I (↑(List.length (v23.getD v71.toNat [])) : Int)), p (122 : Nat) (I v85), p (127 : Nat) (I v89)] [((20 : Nat), Ob.box (nat_lit 170) [L y152 a0.1, L y141 a0.2.1.1, L Ty.str a0.2.1.2.1, L y143 a0.2.1.2.2, L y131 a0.2.2, AV.os (18 : Nat) (0 : Nat), AV.os (38 : Nat) (0 : Nat), AV.os (102 : Nat) (0 : Nat), AV.os (114 : Nat) (0 : Nat), AV.v (Value.slice none (0 : Nat) (0 : Nat))]), ((114 : Nat), Ob.arr (nat_lit 94) true i64.sl (v73 ++ [v76]) (0 : Nat)), ((102 : Nat), Ob.arr (nat_lit 2) true i64 (v72 ++ [v75.getD (Int.toNat (0 : Int)) (0 : Int)]) (0 : Nat)), ((50 : Nat), Ob.arr (nat_lit 2) true i64 v24 (0 : Nat)), ((18 : Nat), Ob.arr (nat_lit 81) true y81 v0 (0 : Nat)), ((1 : Nat), Ob.box (nat_lit 44) (cellsD false y44 a0)), ((38 : Nat), Ob.arr (nat_lit 175) true y175 v90 (0 : Nat))]) (by kernel_rfl) ?_
      refine zd tok hT [1, 3, 7, 8, 11, 12, 13, 87, 88, 120, 121, 122, 127] (fun (v91, v92) => St.mk [p (1 : Nat) (AV.ptr (1 : Nat) (0 : Nat)), p (3 : Nat) (AV.ptr (20 : Nat) (0 : Nat)), p (7 : Nat) (AV.os (50 : Nat) (0 : Nat)), p (8 : Nat) (M i64.sl v23), p (11 : Nat) (I v71), p (12 : Nat) (I v85), p (13 : Nat) (I (List.getD (v23.getD v71.toNat []) v85.toNat (0 : Int))), p (87 : Nat) (I (↑a0.2.2.length : Int)), p (88 : Nat) (I v71), p (120 : Nat) (M i64 (v23.getD v71.toNat [])), p (121 : Nat) (I (↑(List.length (v23.getD v71.toNat [])) : Int)), p (122 : Nat) (I v85), p (127 : Nat) (I v89)] [((20 : Nat), Ob.box (nat_lit 170) [L y152 a0.1, L y141 a0.2.1.1, L Ty.str a0.2.1.2.1, L y143 a0.2.1.2.2, L y131 a0.2.2, AV.os (18 : Nat) (0 : Nat), AV.os (38 : Nat) (1 : Nat), AV.os (102 : Nat) (0 : Nat), AV.os (114 : Nat) (0 : Nat), AV.v (Value.slice none (0 : Nat) (0 : Nat))]), ((38 : Nat), Ob.arr (nat_lit 175) true y175 v91 (1 : Nat)), ((148 : Nat), Ob.arr (nat_lit 175) true y175 v92 (0 : Nat)), ((114 : Nat), Ob.arr (nat_lit 94) true i64.sl (v73 ++ [v76]) (0 : Nat)), ((102 : Nat), Ob.arr (nat_lit 2) true i64 (v72 ++ [v75.getD (Int.toNat (0 : Int)) (0 : Int)]) (0 : Nat)), ((50 : Nat), Ob.arr (nat_lit 2) true i64 v24 (0 : Nat)), ((18 : Nat), Ob.arr (nat_lit 81) true y81 v0 (0 : Nat)), ((1 : Nat), Ob.box (nat_lit 44) (cellsD false y44 a0))]) H (by kernel_rfl) fun ⟨v91, v92⟩ H => ?_
      refine fx_blk <| fx_seq <| ?_
      refine zb tok hT [1, 3, 7, 8, 11, 12, 13, 87, 88, 120, 121, 122, 127] (St.mk [p (1 : Nat) (AV.ptr (1 : Nat) (0 : Nat)), p (3 : Nat) (AV.ptr (20 : Nat) (0 : Nat)), p (7 : Nat) (AV.os (50 : Nat) (0 : Nat)), p (8 : Nat) (M i64.sl v23), p (11 : Nat) (I v71), p (12 : Nat) (I v85), p (13 : Nat) (I (List.getD (v23.getD v71.toNat []) v85.toNat (0 : Int))), p (87 : Nat) (I (↑a0.2.2.length : Int)), p (88 : Nat) (I v71), p (120 : Nat) (M i64 (v23.getD v71.toNat [])), p (121 : Nat) (I (↑(List.length (v23.getD v71.toNat [])) : Int)), p (122 : Nat) (I v85), p (127 : Nat) (I (v89 + (1 : Int)))] [((20 : Nat), Ob.box (nat_lit 170) [L y152 a0.1, L y141 a0.2.1.1, L Ty.str a0.2.1.2.1, L y143 a0.2.1.2.2, L y131 a0.2.2, AV.os (18 : Nat) (0 : Nat), AV.os (38 : Nat) (1 : Nat), AV.os (102 : Nat) (0 : Nat), AV.os (114 : Nat) (0 : Nat), AV.v (Value.slice none (0 : Nat) (0 : Nat))]), ((38 : Nat), Ob.arr (nat_lit 175) true y175 v91 (1 : Nat)), ((148 : Nat), Ob.arr (nat_lit 175) true y175 v92 (0 : Nat)), ((114 : Nat), Ob.arr (nat_lit 94) true i64.sl (v73 ++ [v76]) (0 : Nat)), ((102 : Nat), Ob.arr (nat_lit 2) true i64 (v72 ++ [v75.getD (Int.toNat (0 : Int)) (0 : Int)]) (0 : Nat)), ((50 : Nat), Ob.arr (nat_lit 2) true i64 v24 (0 : Nat)), ((18 : Nat), Ob.arr (nat_lit 81) true y81 v0 (0 : Nat)), ((1 : Nat), Ob.box (nat_lit 44) (cellsD false y44 a0))]) H (by kernel_rfl) fun H => ?_
      exact b10 H (by kernel_rfl)
     exact vx_exit <| fx_seq_exit <| e10 <| fx_blk_exit rfl <| fx_blk <| n9 H (by kernel_rfl)
    exact vx_exit <| fx_seq_exit <| e8 <| fx_blk_exit rfl <| fx_blk <| n7 H (by kernel_rfl)
   exact vx_exit <| fx_seq_exit <| e6 <| fx_blk_exit rfl <| n5 H (by kernel_rfl)
  refine qa tok hT [1, 3, 7, 8, 58, 59, 60] (St.mk [p 1 (AV.ptr 1 0), p 3 (AV.ptr 20 0), p 7 (AV.os 50 0), p 8 (AV.og 54), p 58 (AV.os 18 0), p 59 (I (↑v0.length : Int)), p 60 (I 0)] [(54, Ob.grd 94 2 true i64 (List.replicate (↑a0.2.2.length : Int).toNat []) none), (50, Ob.arr 2 true i64 (List.replicate (↑a0.2.2.length : Int).toNat 0) 0), (20, Ob.box 170 [L y152 a0.1, L y141 a0.2.1.1, L Ty.str a0.2.1.2.1, L y143 a0.2.1.2.2, L y131 a0.2.2, AV.os 18 0, AV.os 38 0, AV.v (Value.slice none 0 0), AV.v (Value.slice none 0 0), AV.v (Value.slice none 0 0)]), (18, Ob.arr 81 true y81 v0 0), (1, Ob.box 44 (cellsD false y44 a0)), (38, Ob.arr 175 true y175 v10 0)]) (by kernel_rfl) ?_
  refine vx_block <| ?_
  refine lx (fun ((v16, v17, v18) : Int × List (List Int) × List Int) => St.mk [p 1 (AV.ptr 1 0), p 3 (AV.ptr 20 0), p 7 (AV.os 50 0), p 8 (AV.og 54), p 58 (AV.os 18 0), p 59 (I (↑v0.length : Int)), p 60 (I v16)] [(54, Ob.grd 94 2 true i64 v17 none), (50, Ob.arr 2 true i64 v18 0), (20, Ob.box 170 [L y152 a0.1, L y141 a0.2.1.1, L Ty.str a0.2.1.2.1, L y143 a0.2.1.2.2, L y131 a0.2.2, AV.os 18 0, AV.os 38 0, AV.v (Value.slice none 0 0), AV.v (Value.slice none 0 0), AV.v (Value.slice none 0 0)]), (18, Ob.arr 81 true y81 v0 0), (1, Ob.box 44 (cellsD false y44 a0)), (38, Ob.arr 175 true y175 v10 0)]) ((0, List.replicate (↑a0.2.2.length : Int).toNat [], List.replicate (↑a0.2.2.length : Int).toNat 0)) H (by kernel_rfl) fun _ g3 b3 e3 t3 ⟨v16, v17, v18⟩ H => ?_
  refine qa tok hT [1, 3, 7, 8, 58, 59, 60, 61] (St.mk [p 1 (AV.ptr 1 0), p 3 (AV.ptr 20 0), p 7 (AV.os 50 0), p 8 (AV.og 54), p 58 (AV.os 18 0), p 59 (I (↑v0.length : Int)), p 60 (I v16), p 61 (B (decide (v16 < (↑v0.length : Int))))] [(54, Ob.grd 94 2 true i64 v17 none), (50, Ob.arr 2 true i64 v18 0), (20, Ob.box 170 [L y152 a0.1, L y141 a0.2.1.1, L Ty.str a0.2.1.2.1, L y143 a0.2.1.2.2, L y131 a0.2.2, AV.os 18 0, AV.os 38 0, AV.v (Value.slice none 0 0), AV.v (Value.slice none 0 0), AV.v (Value.slice none 0 0)]), (18, Ob.arr 81 true y81 v0 0), (1, Ob.box 44 (cellsD false y44 a0)), (38, Ob.arr 175 true y175 v10 0)]) (by kernel_rfl) ?_
  refine vx_seq <| ?_
  refine cd H (by kernel_rfl) (fun H => ?_) (fun H => ?_)
  ·refine vx_skip <| fx_seq <| ?_
   refine jn r (fun ((v21, v22) : List Int × List (List Int)) => St.mk [p 1 (AV.ptr 1 0), p 3 (AV.ptr 20 0), p 7 (AV.os 50 0), p 8 (AV.og 54), p 58 (AV.os 18 0), p 59 (I (↑v0.length : Int)), p 60 (I v16)] [(50, Ob.arr 2 true i64 v21 0), (54, Ob.grd 94 2 true i64 v22 none), (20, Ob.box 170 [L y152 a0.1, L y141 a0.2.1.1, L Ty.str a0.2.1.2.1, L y143 a0.2.1.2.2, L y131 a0.2.2, AV.os 18 0, AV.os 38 0, AV.v (Value.slice none 0 0), AV.v (Value.slice none 0 0), AV.v (Value.slice none 0 0)]), (18, Ob.arr 81 true y81 v0 0), (1, Ob.box 44 (cellsD false y44 a0)), (38, Ob.arr 175 true y175 v10 0)]) (u49J4 v16 g3) (fun ⟨v21, v22⟩ H => ?_) (fun _ n4 e4 t4 => ?_)
   ·refine zb tok hT [1, 3, 7, 8, 58, 59, 60] (St.mk [p 1 (AV.ptr 1 0), p 3 (AV.ptr 20 0), p 7 (AV.os 50 0), p 8 (AV.og 54), p 58 (AV.os 18 0), p 59 (I (↑v0.length : Int)), p 60 (I (v16 + 1))] [(50, Ob.arr 2 true i64 v21 0), (54, Ob.grd 94 2 true i64 v22 none), (20, Ob.box 170 [L y152 a0.1, L y141 a0.2.1.1, L Ty.str a0.2.1.2.1, L y143 a0.2.1.2.2, L y131 a0.2.2, AV.os 18 0, AV.os 38 0, AV.v (Value.slice none 0 0), AV.v (Value.slice none 0 0), AV.v (Value.slice none 0 0)]), (18, Ob.arr 81 true y81 v0 0), (1, Ob.box 44 (cellsD false y44 a0)), (38, Ob.arr 175 true y175 v10 0)]) H (by kernel_rfl) fun H => ?_
    exact b3 H (by kernel_rfl)
   refine vx_block <| ?_
   refine qd tok hT [1, 3, 7, 8, 9, 10, 58, 59, 60] (fun v19 => St.mk [p 1 (AV.ptr 1 0), p 3 (AV.ptr 20 0), p 7 (AV.os 50 0), p 8 (AV.og 54), p 9 (I v16), p 10 (AV.ptr 10 0), p 58 (AV.os 18 0), p 59 (I (↑v0.length : Int)), p 60 (I v16)] [(10, Ob.box 81 (cellsD true y81 v19)), (54, Ob.grd 94 2 true i64 v17 none), (50, Ob.arr 2 true i64 v18 0), (20, Ob.box 170 [L y152 a0.1, L y141 a0.2.1.1, L Ty.str a0.2.1.2.1, L y143 a0.2.1.2.2, L y131 a0.2.2, AV.os 18 0, AV.os 38 0, AV.v (Value.slice none 0 0), AV.v (Value.slice none 0 0), AV.v (Value.slice none 0 0)]), (18, Ob.arr 81 true y81 v0 0), (1, Ob.box 44 (cellsD false y44 a0)), (38, Ob.arr 175 true y175 v10 0)]) H (by kernel_rfl) fun v19 H => ?_
   refine qa tok hT [1, 3, 7, 8, 9, 10, 58, 59, 60, 66] (St.mk [p 1 (AV.ptr 1 0), p 3 (AV.ptr 20 0), p 7 (AV.os 50 0), p 8 (AV.og 54), p 9 (I v16), p 10 (AV.ptr 10 0), p 58 (AV.os 18 0), p 59 (I (↑v0.length : Int)), p 60 (I v16), p 66 (B v19.2.2.2)] [(10, Ob.box 81 (cellsD true y81 v19)), (54, Ob.grd 94 2 true i64 v17 none), (50, Ob.arr 2 true i64 v18 0), (20, Ob.box 170 [L y152 a0.1, L y141 a0.2.1.1, L Ty.str a0.2.1.2.1, L y143 a0.2.1.2.2, L y131 a0.2.2, AV.os 18 0, AV.os 38 0, AV.v (Value.slice none 0 0), AV.v (Value.slice none 0 0), AV.v (Value.slice none 0 0)]), (18, Ob.arr 81 true y81 v0 0), (1, Ob.box 44 (cellsD false y44 a0)), (38, Ob.arr 175 true y175 v10 0)]) (by kernel_rfl) ?_
   refine cd H (by kernel_rfl) (fun H => ?_) (fun H => ?_)
   ·refine zb tok hT [1, 3, 7, 8, 58, 59, 60] (St.mk [p 1 (AV.ptr 1 0), p 3 (AV.ptr 20 0), p 7 (AV.os 50 0), p 8 (AV.og 54), p 58 (AV.os 18 0), p 59 (I (↑v0.length : Int)), p 60 (I v16)] [(50, Ob.arr 2 true i64 (v18.set v19.2.2.1.toNat v16) 0), (10, Ob.box 81 (cellsD true y81 v19)), (54, Ob.grd 94 2 true i64 v17 none), (20, Ob.box 170 [L y152 a0.1, L y141 a0.2.1.1, L Ty.str a0.2.1.2.1, L y143 a0.2.1.2.2, L y131 a0.2.2, AV.os 18 0, AV.os 38 0, AV.v (Value.slice none 0 0), AV.v (Value.slice none 0 0), AV.v (Value.slice none 0 0)]), (18, Ob.arr 81 true y81 v0 0), (1, Ob.box 44 (cellsD false y44 a0)), (38, Ob.arr 175 true y175 v10 0)]) H (by kernel_rfl) fun H => ?_
    exact fx_blk <| n4 H (by kernel_rfl)
   refine zd tok hT [1, 3, 7, 8, 58, 59, 60] (fun v20 => St.mk [p 1 (AV.ptr 1 0), p 3 (AV.ptr 20 0), p 7 (AV.os 50 0), p 8 (AV.og 54), p 58 (AV.os 18 0), p 59 (I (↑v0.length : Int)), p 60 (I v16)] [(54, Ob.grd 94 2 true i64 v20 none), (79, Ob.arr 2 true i64 [] 2), (81, Ob.arr 2 true i64 [v16] 0), (10, Ob.box 81 (cellsD true y81 v19)), (50, Ob.arr 2 true i64 v18 0), (20, Ob.box 170 [L y152 a0.1, L y141 a0.2.1.1, L Ty.str a0.2.1.2.1, L y143 a0.2.1.2.2, L y131 a0.2.2, AV.os 18 0, AV.os 38 0, AV.v (Value.slice none 0 0), AV.v (Value.slice none 0 0), AV.v (Value.slice none 0 0)]), (18, Ob.arr 81 true y81 v0 0), (1, Ob.box 44 (cellsD false y44 a0)), (38, Ob.arr 175 true y175 v10 0)]) H (by kernel_rfl) fun v20 H => ?_
   exact fx_blk <| n4 H (by kernel_rfl)
  exact vx_exit <| fx_seq_exit <| e3 <| fx_blk_exit rfl <| n2 H (by kernel_rfl)
 refine qa tok hT [1, 3, 4, 23, 24, 25] (St.mk [p 1 (AV.ptr 1 0), p 3 (AV.ptr 20 0), p 4 (I 0), p 23 (L y141 a0.2.1.1), p 24 (I (↑a0.2.1.1.length : Int)), p 25 (I 0)] [(20, Ob.box 170 [L y152 a0.1, L y141 a0.2.1.1, L Ty.str a0.2.1.2.1, L y143 a0.2.1.2.2, L y131 a0.2.2, AV.os 18 0, AV.v (Value.slice none 0 0), AV.v (Value.slice none 0 0), AV.v (Value.slice none 0 0), AV.v (Value.slice none 0 0)]), (18, Ob.arr 81 true y81 v0 0), (1, Ob.box 44 (cellsD false y44 a0))]) (by kernel_rfl) ?_
 refine vx_block <| ?_
 refine lx (fun ((v4, v5, v6) : Int × Int × List Y175) => St.mk [p 1 (AV.ptr 1 0), p 3 (AV.ptr 20 0), p 4 (I v4), p 23 (L y141 a0.2.1.1), p 24 (I (↑a0.2.1.1.length : Int)), p 25 (I v5)] [(20, Ob.box 170 [L y152 a0.1, L y141 a0.2.1.1, L Ty.str a0.2.1.2.1, L y143 a0.2.1.2.2, L y131 a0.2.2, AV.os 18 0, AV.os 38 0, AV.v (Value.slice none 0 0), AV.v (Value.slice none 0 0), AV.v (Value.slice none 0 0)]), (18, Ob.arr 81 true y81 v0 0), (1, Ob.box 44 (cellsD false y44 a0)), (38, Ob.arr 175 true y175 v6 0)]) (0, 0, []) H (by kernel_rfl) fun _ g1 b1 e1 t1 ⟨v4, v5, v6⟩ H => ?_
 refine qa tok hT [1, 3, 4, 23, 24, 25, 26] (St.mk [p 1 (AV.ptr 1 0), p 3 (AV.ptr 20 0), p 4 (I v4), p 23 (L y141 a0.2.1.1), p 24 (I (↑a0.2.1.1.length : Int)), p 25 (I v5), p 26 (B (decide (v5 < (↑a0.2.1.1.length : Int))))] [(20, Ob.box 170 [L y152 a0.1, L y141 a0.2.1.1, L Ty.str a0.2.1.2.1, L y143 a0.2.1.2.2, L y131 a0.2.2, AV.os 18 0, AV.os 38 0, AV.v (Value.slice none 0 0), AV.v (Value.slice none 0 0), AV.v (Value.slice none 0 0)]), (18, Ob.arr 81 true y81 v0 0), (1, Ob.box 44 (cellsD false y44 a0)), (38, Ob.arr 175 true y175 v6 0)]) (by kernel_rfl) ?_
 refine vx_seq <| ?_
 refine cd H (by kernel_rfl) (fun H => ?_) (fun H => ?_)
 ·refine vx_skip <| fx_seq <| vx_seq <| vx_block <| ?_
  refine qd tok hT [1, 3, 4, 6, 23, 24, 25] (fun v7 => St.mk [p 1 (AV.ptr 1 0), p 3 (AV.ptr 20 0), p 4 (I v4), p 6 (AV.ptr 6 0), p 23 (L y141 a0.2.1.1), p 24 (I (↑a0.2.1.1.length : Int)), p 25 (I v5)] [(6, Ob.box 141 (cellsD false y141 v7)), (20, Ob.box 170 [L y152 a0.1, L y141 a0.2.1.1, L Ty.str a0.2.1.2.1, L y143 a0.2.1.2.2, L y131 a0.2.2, AV.os 18 0, AV.os 38 0, AV.v (Value.slice none 0 0), AV.v (Value.slice none 0 0), AV.v (Value.slice none 0 0)]), (18, Ob.arr 81 true y81 v0 0), (1, Ob.box 44 (cellsD false y44 a0)), (38, Ob.arr 175 true y175 v6 0)]) H (by kernel_rfl) fun v7 H => ?_
  refine qd tok hT [1, 3, 4, 6, 23, 24, 25] (fun v8 => St.mk [p 1 (AV.ptr 1 0), p 3 (AV.ptr 20 0), p 4 (I v4), p 6 (AV.ptr 6 0), p 23 (L y141 a0.2.1.1), p 24 (I (↑a0.2.1.1.length : Int)), p 25 (I v5)] [(20, Ob.box 170 [L y152 a0.1, L y141 a0.2.1.1, L Ty.str a0.2.1.2.1, L y143 a0.2.1.2.2, L y131 a0.2.2, AV.os 18 0, AV.os 38 1, AV.v (Value.slice none 0 0), AV.v (Value.slice none 0 0), AV.v (Value.slice none 0 0)]), (38, Ob.arr 175 true y175 (v6 ++ v8) 1), (37, Ob.arr 175 true y175 v8 0), (6, Ob.box 141 (cellsD false y141 v7)), (18, Ob.arr 81 true y81 v0 0), (1, Ob.box 44 (cellsD false y44 a0))]) H (by kernel_rfl) fun v8 H => ?_
  refine zd tok hT [1, 3, 4, 23, 24, 25] (fun v9 => St.mk [p 1 (AV.ptr 1 0), p 3 (AV.ptr 20 0), p 4 (I (v4 + v9)), p 23 (L y141 a0.2.1.1), p 24 (I (↑a0.2.1.1.length : Int)), p 25 (I v5)] [(20, Ob.box 170 [L y152 a0.1, L y141 a0.2.1.1, L Ty.str a0.2.1.2.1, L y143 a0.2.1.2.2, L y131 a0.2.2, AV.os 18 0, AV.os 38 1, AV.v (Value.slice none 0 0), AV.v (Value.slice none 0 0), AV.v (Value.slice none 0 0)]), (38, Ob.arr 175 true y175 (v6 ++ v8) 1), (37, Ob.arr 175 true y175 v8 0), (6, Ob.box 141 (cellsD false y141 v7)), (18, Ob.arr 81 true y81 v0 0), (1, Ob.box 44 (cellsD false y44 a0))]) H (by kernel_rfl) fun v9 H => ?_
  refine fx_blk <| fx_seq <| ?_
  refine zb tok hT [1, 3, 4, 23, 24, 25] (St.mk [p 1 (AV.ptr 1 0), p 3 (AV.ptr 20 0), p 4 (I (v4 + v9)), p 23 (L y141 a0.2.1.1), p 24 (I (↑a0.2.1.1.length : Int)), p 25 (I (v5 + 1))] [(20, Ob.box 170 [L y152 a0.1, L y141 a0.2.1.1, L Ty.str a0.2.1.2.1, L y143 a0.2.1.2.2, L y131 a0.2.2, AV.os 18 0, AV.os 38 1, AV.v (Value.slice none 0 0), AV.v (Value.slice none 0 0), AV.v (Value.slice none 0 0)]), (38, Ob.arr 175 true y175 (v6 ++ v8) 1), (37, Ob.arr 175 true y175 v8 0), (6, Ob.box 141 (cellsD false y141 v7)), (18, Ob.arr 81 true y81 v0 0), (1, Ob.box 44 (cellsD false y44 a0))]) H (by kernel_rfl) fun H => ?_
  exact b1 H (by kernel_rfl)
 exact vx_exit <| fx_seq_exit <| e1 <| fx_blk_exit rfl <| n0 H (by kernel_rfl)
def u16 (a0 : Y44) (a1 : Int) : Option (ByteArray) :=
 gd ((u35 a0).isSome = true ∧ True) <| 
 if (!vl (u35 a0)) = true then
  some (ByteArray.mk #[])
 else
  gd ((u49 a0).isSome = true ∧ True) <| lt (vl (u49 a0)) fun v0 =>
  gd ((u50 v0 a1).isSome = true ∧ True) <| 
  if (!vl (u50 v0 a1)) = true then
   some (ByteArray.mk #[])
  else
   gd ((u51 v0 a1).isSome = true ∧ True) <| lt (vl (u51 v0 a1)) fun v1 =>
   some v1
def u94 (a0 : List Y152) (a1 : Y41) (a2 : Y163) : Option (ByteArray) :=
 if (decide (a2.1 < 0)) = true then
  gd (ix a2.2.1 a1.2.2.length ∧ True) <| lt (a1.2.2.getD a2.2.1.toNat (dflt y143)) fun v0 =>
  some v0.1
 else
  gd (ix a2.1 a1.1.length ∧ True) <| lt (a1.1.getD a2.1.toNat (dflt y141)) fun v1 =>
  gd (v1.1.size + (ByteArray.mk #[47]).size ≤ 9223372036854775807 ∧ ix v1.2.1 a0.length ∧ ix a2.2.1 (a0.getD v1.2.1.toNat (dflt y152)).2.2.1.length ∧ (v1.1 ++ ByteArray.mk #[47]).size + ((a0.getD v1.2.1.toNat (dflt y152)).2.2.1.getD a2.2.1.toNat (dflt y212)).1.size ≤ 9223372036854775807 ∧ True) <| lt (v1.1 ++ ByteArray.mk #[47] ++ ((a0.getD v1.2.1.toNat (dflt y152)).2.2.1.getD a2.2.1.toNat (dflt y212)).1) fun v2 =>
  some v2
def u93 (a0 : List Y152) (a1 : Y41) (a2 : Int) : Option (Y163 × Bool) :=
 gd ((u69 a0 a1).isSome = true ∧ True) <| 
 if (!vl (u69 a0 a1)) = true then
  some ((((0 : Int), (0 : Int), (0 : Int), false), false))
 else
  gd ((u72 a1).isSome = true ∧ True) <| lt (vl (u72 a1)) fun v0 =>
  gd (in64 ((↑v0.length : Int) - 1) ∧ (u42 a2 0 ((↑v0.length : Int) - 1)).isSome = true ∧ True) <| 
  if (!vl (u42 a2 0 ((↑v0.length : Int) - 1))) = true then
   some ((((0 : Int), (0 : Int), (0 : Int), false), false))
  else
   gd (ix a2 v0.length ∧ a2.toNat < v0.length ∧ True) <| lt (v0.getD a2.toNat (dflt y163)) fun v1 =>
   some (v1, true)
def u48 (a0 : List Y152) (a1 : Y41) (a2 : Int) : Option (ByteArray) :=
 gd ((u93 a0 a1 a2).isSome = true ∧ True) <| lt (vl (u93 a0 a1 a2)) fun v0 =>
 if (!v0.2) = true then
  some (ByteArray.mk #[])
 else
  gd ((u94 a0 a1 v0.1).isSome = true ∧ True) <| lt (vl (u94 a0 a1 v0.1)) fun v1 =>
  some v1
def u15 (a0 : Y44) (a1 : Int) : Option (ByteArray) :=
 gd ((u30 a0).isSome = true ∧ ((!vl (u30 a0)) = false ∧ True → (u31 a0).isSome = true) ∧ ((!vl (u30 a0)) = false ∧ True → in64 (vl (u31 a0) - 1)) ∧ ((!vl (u30 a0)) = false ∧ True → (u42 a1 0 (vl (u31 a0) - 1)).isSome = true) ∧ True) <| 
 if (!vl (u30 a0) || !vl (u42 a1 0 (vl (u31 a0) - 1))) = true then
  some (ByteArray.mk #[])
 else
  gd ((0 : Int) < (2 : Int) ∧ (u48 a0.1 a0.2.1 (a1.tdiv (2 : Int))).isSome = true ∧ (0 : Int) < (2 : Int) ∧ ix (a1.tmod (2 : Int)) [ByteArray.mk #[(58 : UInt8), (114 : UInt8)], ByteArray.mk #[(58 : UInt8), (102 : UInt8)]].length ∧ (a1.tmod (2 : Int)).toNat < [ByteArray.mk #[(58 : UInt8), (114 : UInt8)], ByteArray.mk #[(58 : UInt8), (102 : UInt8)]].length ∧ (vl (u48 a0.1 a0.2.1 (a1.tdiv (2 : Int)))).size + ByteArray.size ([ByteArray.mk #[(58 : UInt8), (114 : UInt8)], ByteArray.mk #[(58 : UInt8), (102 : UInt8)]].getD (a1.tmod (2 : Int)).toNat (dflt Ty.str)) ≤ (9223372036854775807 : Nat) ∧ True) <| lt ((vl (u48 a0.1 a0.2.1 (a1.tdiv 2)), vl (u48 a0.1 a0.2.1 (a1.tdiv 2)) ++ [ByteArray.mk #[58, 114], ByteArray.mk #[58, 102]].getD (a1.tmod 2).toNat (dflt Ty.str))) fun (v0, v1) =>
  some v1
def u5 (a0 : Y32) (a1 : Int) : Option (Bool) :=
 gd ((u8 a0 1048576).isSome = true ∧ True) <| lt (vl (u8 a0 1048576)) fun v0 =>
 if (decide (v0 < 0)) = true then
  some true
 else
  gd ((u10 a0).isSome = true ∧ (u15 (vl (u10 a0)) a1).isSome = true ∧ True) <| lt ((vl (u15 (vl (u10 a0)) a1), vl (u10 a0))) fun (v1, v2) =>
  gd ((u10 a0).isSome = true ∧ True) <| lt (vl (u10 a0)) fun v3 =>
  gd ((u16 v3 a1).isSome = true ∧ True) <| lt (vl (u16 v3 a1)) fun v4 =>
  if (!decide (v4 = v1)) = true then
   some false
  else
   gd ((u10 a0).isSome = true ∧ (u12 v3 (vl (u10 a0))).isSome = true ∧ True) <| lt (vl (u10 a0)) fun v5 =>
   if (!vl (u12 v3 v5)) = true then
    some false
   else
    some true
def k5 : Ct := lct 5 [.agg y32, .dat i64] (fun x => u5 x.1 x.2.1) (fun r : Bool => B r) (fun _ => ())
def u106 (a0 : Y105) (a1 : Y105) : Option (Bool) :=
 if (a0.1 != a1.1) = true then
  some false
 else
  if (a0.2 != a1.2) = true then
   some false
  else
   some true
def k106 : Ct := lct 106 [.agg y105, .agg y105] (fun x => u106 x.1 x.2.1) (fun r : Bool => B r) (fun _ => ())
theorem o106 : Ok Tryz.prog k106 := by
 refine okl tok [.tmp 4] Tryz.func106 Tryz.ntmps106 rfl Tryz.results106 (by kernel_rfl) rfl ?_
 intro y ⟨a0, a1, _⟩ r H Q hn hr
 have hT := @tn Tryz.prog
 refine qa tok hT [2, 3] (St.mk [p 2 (AV.ptr 2 0), p 3 (AV.ptr 3 0)] [(3, Ob.box 105 (cellsD false y105 a1)), (2, Ob.box 105 (cellsD false y105 a0))]) (by kernel_rfl) ?_
 refine vx_seq <| ?_
 refine qa tok hT [2, 3, 9] (St.mk [p 2 (AV.ptr 2 0), p 3 (AV.ptr 3 0), p 9 (B (a0.1 != a1.1))] [(3, Ob.box 105 (cellsD false y105 a1)), (2, Ob.box 105 (cellsD false y105 a0))]) (by kernel_rfl) ?_
 refine cd H (by kernel_rfl) (fun H => ?_) (fun H => ?_)
 ·refine qa tok hT [4] (St.mk [p 4 (B false)] [(3, Ob.box 105 (cellsD false y105 a1)), (2, Ob.box 105 (cellsD false y105 a0))]) (by kernel_rfl) ?_
  exact vx_ret <| fx_seq_ret <| hr H (by kernel_rfl)
 refine vx_skip <| fx_seq <| vx_seq <| ?_
 refine qa tok hT [14] (St.mk [p 14 (B (a0.2 != a1.2))] [(3, Ob.box 105 (cellsD false y105 a1)), (2, Ob.box 105 (cellsD false y105 a0))]) (by kernel_rfl) ?_
 refine cd H (by kernel_rfl) (fun H => ?_) (fun H => ?_)
 ·refine qa tok hT [4] (St.mk [p 4 (B false)] [(3, Ob.box 105 (cellsD false y105 a1)), (2, Ob.box 105 (cellsD false y105 a0))]) (by kernel_rfl) ?_
  exact vx_ret <| fx_seq_ret <| hr H (by kernel_rfl)
 refine vx_skip <| fx_seq <| ?_
 refine qa tok hT [4] (St.mk [p 4 (B true)] [(3, Ob.box 105 (cellsD false y105 a1)), (2, Ob.box 105 (cellsD false y105 a0))]) (by kernel_rfl) ?_
 exact vx_ret <| hr H (by kernel_rfl)
def u55 (a0 : Y107) (a1 : Y107) : Option (Bool) :=
 if (a0.1 != a1.1) = true then
  some false
 else
  gd ((u106 a0.2.1 a1.2.1).isSome = true ∧ True) <| 
  if (!vl (u106 a0.2.1 a1.2.1)) = true then
   some false
  else
   gd ((u106 a0.2.2 a1.2.2).isSome = true ∧ True) <| 
   if (!vl (u106 a0.2.2 a1.2.2)) = true then
    some false
   else
    some true
def k55 : Ct := lct 55 [.agg y107, .agg y107] (fun x => u55 x.1 x.2.1) (fun r : Bool => B r) (fun _ => ())
theorem o55 : Ok Tryz.prog k55 := by
 refine okl tok [.tmp 4] Tryz.func55 Tryz.ntmps55 rfl Tryz.results55 (by kernel_rfl) rfl ?_
 intro y ⟨a0, a1, _⟩ r H Q hn hr
 have hT := tc o106 tn
 refine qa tok hT [2, 3] (St.mk [p 2 (AV.ptr 2 0), p 3 (AV.ptr 3 0)] [(3, Ob.box 107 (cellsD false y107 a1)), (2, Ob.box 107 (cellsD false y107 a0))]) (by kernel_rfl) ?_
 refine vx_seq <| ?_
 refine qa tok hT [2, 3, 9] (St.mk [p 2 (AV.ptr 2 0), p 3 (AV.ptr 3 0), p 9 (B (a0.1 != a1.1))] [(3, Ob.box 107 (cellsD false y107 a1)), (2, Ob.box 107 (cellsD false y107 a0))]) (by kernel_rfl) ?_
 refine cd H (by kernel_rfl) (fun H => ?_) (fun H => ?_)
 ·refine qa tok hT [4] (St.mk [p 4 (B false)] [(3, Ob.box 107 (cellsD false y107 a1)), (2, Ob.box 107 (cellsD false y107 a0))]) (by kernel_rfl) ?_
  exact vx_ret <| fx_seq_ret <| hr H (by kernel_rfl)
 refine vx_skip <| fx_seq <| vx_seq <| ?_
 refine qb tok hT [2, 3, 15] (St.mk [p 2 (AV.ptr 2 0), p 3 (AV.ptr 3 0), p 15 (B !vl (u106 a0.2.1 a1.2.1))] [(3, Ob.box 107 (cellsD false y107 a1)), (2, Ob.box 107 (cellsD false y107 a0))]) H (by kernel_rfl) fun H => ?_
 refine cd H (by kernel_rfl) (fun H => ?_) (fun H => ?_)
 ·refine qa tok hT [4] (St.mk [p 4 (B false)] [(3, Ob.box 107 (cellsD false y107 a1)), (2, Ob.box 107 (cellsD false y107 a0))]) (by kernel_rfl) ?_
  exact vx_ret <| fx_seq_ret <| hr H (by kernel_rfl)
 refine vx_skip <| fx_seq <| vx_seq <| ?_
 refine qb tok hT [21] (St.mk [p 21 (B !vl (u106 a0.2.2 a1.2.2))] [(3, Ob.box 107 (cellsD false y107 a1)), (2, Ob.box 107 (cellsD false y107 a0))]) H (by kernel_rfl) fun H => ?_
 refine cd H (by kernel_rfl) (fun H => ?_) (fun H => ?_)
 ·refine qa tok hT [4] (St.mk [p 4 (B false)] [(3, Ob.box 107 (cellsD false y107 a1)), (2, Ob.box 107 (cellsD false y107 a0))]) (by kernel_rfl) ?_
  exact vx_ret <| fx_seq_ret <| hr H (by kernel_rfl)
 refine vx_skip <| fx_seq <| ?_
 refine qa tok hT [4] (St.mk [p 4 (B true)] [(3, Ob.box 107 (cellsD false y107 a1)), (2, Ob.box 107 (cellsD false y107 a0))]) (by kernel_rfl) ?_
 exact vx_ret <| hr H (by kernel_rfl)
def u21J0 : Unit → Option (Bool)
 | _ =>
 some true
def u21L1 (a0 : List Y107) (a1 : List Y107) (g1 : Int → Option (Bool)) : Int → Option (Bool)
 | v0 =>
 if (decide (v0 < (↑a0.length : Int))) = true then
  gd (ix v0 a0.length ∧ ix v0 a1.length ∧ (u55 (a0.getD v0.toNat (dflt y107)) (a1.getD v0.toNat (dflt y107))).isSome = true ∧ True) <| 
  if (!vl (u55 (a0.getD v0.toNat (dflt y107)) (a1.getD v0.toNat (dflt y107)))) = true then
   some false
  else
   gd (in64 (v0 + 1) ∧ True) <| 
   g1 (v0 + 1)
 else
  u21J0 ()
def u21 (a0 : List Y107) (a1 : List Y107) : Option (Bool) :=
 if ((↑a0.length : Int) != (↑a1.length : Int)) = true then
  some false
 else
  lp (u21L1 a0 a1) 0
def k21 : Ct := lct 21 [.dat y107.sl, .dat y107.sl] (fun x => u21 x.1 x.2.1) (fun r : Bool => B r) (fun _ => ())
theorem o21 : Ok Tryz.prog k21 := by
 refine okl tok [.tmp 4] Tryz.func21 Tryz.ntmps21 rfl Tryz.results21 (by kernel_rfl) rfl ?_
 intro y ⟨a0, a1, _⟩ r H Q hn hr
 have hT := tc o55 tn
 refine qa tok hT [0, 1] (St.mk [p 0 (L y107 a0), p 1 (L y107 a1)] []) (by kernel_rfl) ?_
 refine vx_seq <| ?_
 refine qa tok hT [0, 1, 10] (St.mk [p 0 (L y107 a0), p 1 (L y107 a1), p 10 (B ((↑a0.length : Int) != (↑a1.length : Int)))] []) (by kernel_rfl) ?_
 refine cd H (by kernel_rfl) (fun H => ?_) (fun H => ?_)
 ·refine qa tok hT [4] (St.mk [p 4 (B false)] []) (by kernel_rfl) ?_
  exact vx_ret <| fx_seq_ret <| hr H (by kernel_rfl)
 refine vx_skip <| fx_seq <| ?_
 refine jn r (fun (_ : Unit) => St.mk [] []) (u21J0) (fun _ H => ?_) (fun _ n0 e0 t0 => ?_)
 ·refine qa tok hT [4] (St.mk [p 4 (B true)] []) (by kernel_rfl) ?_
  exact vx_ret <| hr H (by kernel_rfl)
 refine qa tok hT [0, 1, 5] (St.mk [p 0 (L y107 a0), p 1 (L y107 a1), p 5 (I 0)] []) (by kernel_rfl) ?_
 refine vx_block <| ?_
 refine lx (fun (v0 : Int) => St.mk [p 0 (L y107 a0), p 1 (L y107 a1), p 5 (I v0)] []) 0 H (by kernel_rfl) fun _ g1 b1 e1 t1 v0 H => ?_
 refine vx_seq <| ?_
 refine qa tok hT [0, 1, 5, 14] (St.mk [p 0 (L y107 a0), p 1 (L y107 a1), p 5 (I v0), p 14 (B (decide (v0 < (↑a0.length : Int))))] []) (by kernel_rfl) ?_
 refine cd H (by kernel_rfl) (fun H => ?_) (fun H => ?_)
 ·refine vx_skip <| fx_seq <| vx_seq <| vx_block <| ?_
  refine qb tok hT [0, 1, 5, 26] (St.mk [p 0 (L y107 a0), p 1 (L y107 a1), p 5 (I v0), p 26 (B !vl (u55 (a0.getD v0.toNat (dflt y107)) (a1.getD v0.toNat (dflt y107))))] []) H (by kernel_rfl) fun H => ?_
  refine cd H (by kernel_rfl) (fun H => ?_) (fun H => ?_)
  ·refine qa tok hT [4] (St.mk [p 4 (B false)] []) (by kernel_rfl) ?_
   exact vx_ret <| fx_blk_ret <| fx_seq_ret <| t1 <| fx_blk_ret <| t0 <| hr H (by kernel_rfl)
  refine vx_skip <| fx_blk <| fx_seq <| ?_
  refine zb tok hT [0, 1, 5] (St.mk [p 0 (L y107 a0), p 1 (L y107 a1), p 5 (I (v0 + 1))] []) H (by kernel_rfl) fun H => ?_
  exact b1 H (by kernel_rfl)
 exact vx_exit <| fx_seq_exit <| e1 <| fx_blk_exit rfl <| n0 H (by kernel_rfl)
def u103 (a0 : Y109) : Option (Y105) :=
 some a0
def k103 : Ct := lct 103 [.agg y109] (fun x => u103 x.1) (fun r : Y105 => AV.agg [I r.1, I r.2]) (fun _ => ())
theorem o103 : Ok Tryz.prog k103 := by
 refine okl tok [.cell 2 105] Tryz.func103 Tryz.ntmps103 rfl Tryz.results103 (by kernel_rfl) rfl ?_
 intro y ⟨a0, _⟩ r H Q hn hr
 have hT := @tn Tryz.prog
 refine qa tok hT [1, 2] (St.mk [p 1 (AV.ptr 1 0), p 2 (AV.ptr 2 0)] [(2, Ob.box 105 [I 0, I 0]), (1, Ob.box 109 (cellsD false y109 a0))]) (by kernel_rfl) ?_
 refine qa tok hT [1, 2, 3] (St.mk [p 1 (AV.ptr 1 0), p 2 (AV.ptr 2 0), p 3 (AV.ptr 3 0)] [(3, Ob.box 105 [I 0, I 0]), (2, Ob.box 105 [I 0, I 0]), (1, Ob.box 109 (cellsD false y109 a0))]) (by kernel_rfl) ?_
 refine qa tok hT [1, 2, 3] (St.mk [p 1 (AV.ptr 1 0), p 2 (AV.ptr 2 0), p 3 (AV.ptr 3 0)] [(3, Ob.box 105 [J a0.1, I 0]), (2, Ob.box 105 [I 0, I 0]), (1, Ob.box 109 (cellsD false y109 a0))]) (by kernel_rfl) ?_
 refine qa tok hT [2, 3] (St.mk [p 2 (AV.ptr 2 0), p 3 (AV.ptr 3 0)] [(3, Ob.box 105 (cellsD false y105 a0)), (2, Ob.box 105 [I 0, I 0]), (1, Ob.box 109 (cellsD false y109 a0))]) (by kernel_rfl) ?_
 refine qa tok hT [2] (St.mk [p 2 (AV.ptr 2 0)] [(2, Ob.box 105 (cellsD false y105 a0)), (3, Ob.box 105 (cellsD false y105 a0)), (1, Ob.box 109 (cellsD false y109 a0))]) (by kernel_rfl) ?_
 exact vx_ret <| hr H (by kernel_rfl)
def u53 (a0 : Y111) : Option (Y107) :=
 gd ((u103 a0.2.1).isSome = true ∧ True) <| lt (vl (u103 a0.2.1)) fun v0 =>
 gd ((u103 a0.2.2).isSome = true ∧ True) <| lt (vl (u103 a0.2.2)) fun v1 =>
 some (a0.1, v0, v1)
def k53 : Ct := lct 53 [.agg y111] (fun x => u53 x.1) (fun r : Y107 => AV.agg [I r.1, I r.2.1.1, I r.2.1.2, I r.2.2.1, I r.2.2.2]) (fun _ => ())
theorem o53 : Ok Tryz.prog k53 := by
 refine okl tok [.cell 2 107] Tryz.func53 Tryz.ntmps53 rfl Tryz.results53 (by kernel_rfl) rfl ?_
 intro y ⟨a0, _⟩ r H Q hn hr
 have hT := tc o103 tn
 refine qa tok hT [1, 2] (St.mk [p 1 (AV.ptr 1 0), p 2 (AV.ptr 2 0)] [(2, Ob.box 107 [I 0, I 0, I 0, I 0, I 0]), (1, Ob.box 111 (cellsD false y111 a0))]) (by kernel_rfl) ?_
 refine qa tok hT [1, 2, 3] (St.mk [p 1 (AV.ptr 1 0), p 2 (AV.ptr 2 0), p 3 (AV.ptr 3 0)] [(3, Ob.box 107 [I 0, I 0, I 0, I 0, I 0]), (2, Ob.box 107 [I 0, I 0, I 0, I 0, I 0]), (1, Ob.box 111 (cellsD false y111 a0))]) (by kernel_rfl) ?_
 refine qa tok hT [1, 2, 3] (St.mk [p 1 (AV.ptr 1 0), p 2 (AV.ptr 2 0), p 3 (AV.ptr 3 0)] [(3, Ob.box 107 [J a0.1, I 0, I 0, I 0, I 0]), (2, Ob.box 107 [I 0, I 0, I 0, I 0, I 0]), (1, Ob.box 111 (cellsD false y111 a0))]) (by kernel_rfl) ?_
 refine qd tok hT [1, 2, 3] (fun v0 => St.mk [p 1 (AV.ptr 1 0), p 2 (AV.ptr 2 0), p 3 (AV.ptr 3 0)] [(3, Ob.box 107 [J a0.1, I v0.1, I v0.2, I 0, I 0]), (2, Ob.box 107 [I 0, I 0, I 0, I 0, I 0]), (1, Ob.box 111 (cellsD false y111 a0))]) H (by kernel_rfl) fun v0 H => ?_
 refine qd tok hT [2, 3] (fun v1 => St.mk [p 2 (AV.ptr 2 0), p 3 (AV.ptr 3 0)] [(3, Ob.box 107 [J a0.1, I v0.1, I v0.2, I v1.1, I v1.2]), (2, Ob.box 107 [I 0, I 0, I 0, I 0, I 0]), (1, Ob.box 111 (cellsD false y111 a0))]) H (by kernel_rfl) fun v1 H => ?_
 refine qa tok hT [2] (St.mk [p 2 (AV.ptr 2 0)] [(2, Ob.box 107 [J a0.1, I v0.1, I v0.2, I v1.1, I v1.2]), (3, Ob.box 107 [J a0.1, I v0.1, I v0.2, I v1.1, I v1.2]), (1, Ob.box 111 (cellsD false y111 a0))]) (by kernel_rfl) ?_
 exact vx_ret <| hr H (by kernel_rfl)
def u19J0 : List Y107 → Option (List Y107)
 | v5 =>
 some v5
def u19L1 (a0 : List Y111) (g1 : Int × List Y107 → Option (List Y107)) : Int × List Y107 → Option (List Y107)
 | (v2, v3) =>
 if (decide (v2 < (↑a0.length : Int))) = true then
  gd (ix v2 a0.length ∧ (u53 (a0.getD v2.toNat (dflt y111))).isSome = true ∧ ix v2 v3.length ∧ v2.toNat < v3.length ∧ True) <| lt (vl (u53 (a0.getD v2.toNat (dflt y111)))) fun v4 =>
  gd (in64 (v2 + 1) ∧ True) <| 
  g1 (v2 + 1, v3.set v2.toNat v4)
 else
  u19J0 v3
def u19 (a0 : List Y111) : Option (List Y107) :=
 gd ((0 ≤ (↑a0.length : Int) ∧ (↑a0.length : Int) = (↑a0.length : Int) ∧ (↑a0.length : Int).toNat * 40 ≤ 281474976710656 ∧ (↑a0.length : Int) ≤ 9223372036854775807) ∧ True) <| lt (List.replicate (↑a0.length : Int).toNat ((0 : Int), ((0 : Int), (0 : Int)), (0 : Int), (0 : Int))) fun v0 =>
 lp (u19L1 a0) (0, v0)
def k19 : Ct := lct 19 [.dat y111.sl] (fun x => u19 x.1) (fun r : List Y107 => AV.ow 107 true y107 r) (fun _ => ())
theorem o19 : Ok Tryz.prog k19 := by
 refine okl tok [.tmp 2] Tryz.func19 Tryz.ntmps19 rfl Tryz.results19 (by kernel_rfl) rfl ?_
 intro y ⟨a0, _⟩ r H Q hn hr
 have hT := tc o53 tn
 refine qa tok hT [0] (St.mk [p 0 (L y111 a0)] []) (by kernel_rfl) ?_
 refine qd tok hT [0, 3] (fun v0 => St.mk [p 0 (L y111 a0), p 3 (AV.os 7 0)] [(7, Ob.arr 107 true y107 v0 0)]) H (by kernel_rfl) fun v0 H => ?_
 refine jn r (fun (v5 : List Y107) => St.mk [p 3 (AV.os 7 0)] [(7, Ob.arr 107 true y107 v5 0)]) (u19J0) (fun v5 H => ?_) (fun _ n0 e0 t0 => ?_)
 ·refine qa tok hT [2] (St.mk [p 2 (AV.os 7 0)] [(7, Ob.arr 107 true y107 v5 0)]) (by kernel_rfl) ?_
  exact vx_ret <| hr H (by kernel_rfl)
 refine qa tok hT [0, 3, 4] (St.mk [p 0 (L y111 a0), p 3 (AV.os 7 0), p 4 (I 0)] [(7, Ob.arr 107 true y107 v0 0)]) (by kernel_rfl) ?_
 refine vx_block <| ?_
 refine lx (fun ((v2, v3) : Int × List Y107) => St.mk [p 0 (L y111 a0), p 3 (AV.os 7 0), p 4 (I v2)] [(7, Ob.arr 107 true y107 v3 0)]) (0, v0) H (by kernel_rfl) fun _ g1 b1 e1 t1 ⟨v2, v3⟩ H => ?_
 refine vx_seq <| ?_
 refine qa tok hT [0, 3, 4, 11] (St.mk [p 0 (L y111 a0), p 3 (AV.os 7 0), p 4 (I v2), p 11 (B (decide (v2 < (↑a0.length : Int))))] [(7, Ob.arr 107 true y107 v3 0)]) (by kernel_rfl) ?_
 refine cd H (by kernel_rfl) (fun H => ?_) (fun H => ?_)
 ·refine vx_skip <| fx_seq <| vx_seq <| vx_block <| ?_
  refine zd tok hT [0, 3, 4] (fun v4 => St.mk [p 0 (L y111 a0), p 3 (AV.os 7 0), p 4 (I v2)] [(7, Ob.arr 107 true y107 (v3.set v2.toNat v4) 0)]) H (by kernel_rfl) fun v4 H => ?_
  refine fx_blk <| fx_seq <| ?_
  refine zb tok hT [0, 3, 4] (St.mk [p 0 (L y111 a0), p 3 (AV.os 7 0), p 4 (I (v2 + 1))] [(7, Ob.arr 107 true y107 (v3.set v2.toNat v4) 0)]) H (by kernel_rfl) fun H => ?_
  exact b1 H (by kernel_rfl)
 exact vx_exit <| fx_seq_exit <| e1 <| fx_blk_exit rfl <| n0 H (by kernel_rfl)
def u138 (a0 : Int) : Option (Bool) :=
 gd ((u87 a0 (-1000000000) 1000000000).isSome = true ∧ True) <| 
 some (vl (u87 a0 (-1000000000) 1000000000))
def k138 : Ct := lct 138 [.dat i64] (fun x => u138 x.1) (fun r : Bool => B r) (fun _ => ())
theorem o138 : Ok Tryz.prog k138 := by
 refine okl tok [.tmp 2] Tryz.func138 Tryz.ntmps138 rfl Tryz.results138 (by kernel_rfl) rfl ?_
 intro y ⟨a0, _⟩ r H Q hn hr
 have hT := tc o87 tn
 refine qa tok hT [0] (St.mk [p 0 (J a0)] []) (by kernel_rfl) ?_
 refine qb tok hT [2] (St.mk [p 2 (B (vl (u87 a0 (-1000000000) 1000000000)))] []) H (by kernel_rfl) fun H => ?_
 exact vx_ret <| hr H (by kernel_rfl)
def u104 (a0 : Y105) : Option (Bool) :=
 gd ((u138 a0.1).isSome = true ∧ (vl (u138 a0.1) = true ∧ True → (u138 a0.2).isSome = true) ∧ True) <| 
 some (vl (u138 a0.1) && vl (u138 a0.2) && decide (a0.1 ≤ a0.2))
def k104 : Ct := lct 104 [.agg y105] (fun x => u104 x.1) (fun r : Bool => B r) (fun _ => ())
theorem o104 : Ok Tryz.prog k104 := by
 refine okl tok [.tmp 2] Tryz.func104 Tryz.ntmps104 rfl Tryz.results104 (by kernel_rfl) rfl ?_
 intro y ⟨a0, _⟩ r H Q hn hr
 have hT := tc o138 tn
 refine qa tok hT [1] (St.mk [p 1 (AV.ptr 1 0)] [(1, Ob.box 105 (cellsD false y105 a0))]) (by kernel_rfl) ?_
 refine qb tok hT [2] (St.mk [p 2 (B (vl (u138 a0.1) && vl (u138 a0.2) && decide (a0.1 ≤ a0.2)))] [(1, Ob.box 105 (cellsD false y105 a0))]) H (by kernel_rfl) fun H => ?_
 exact vx_ret <| hr H (by kernel_rfl)
def u105 (a0 : Y105) : Option (Bool) :=
 gd ((u104 a0).isSome = true ∧ (vl (u104 a0) = true ∧ True → (u46 a0.1).isSome = true) ∧ ((vl (u104 a0) && vl (u46 a0.1)) = true ∧ True → (u46 a0.2).isSome = true) ∧ True) <| 
 some (vl (u104 a0) && vl (u46 a0.1) && vl (u46 a0.2))
def k105 : Ct := lct 105 [.agg y105] (fun x => u105 x.1) (fun r : Bool => B r) (fun _ => ())
theorem o105 : Ok Tryz.prog k105 := by
 refine okl tok [.tmp 2] Tryz.func105 Tryz.ntmps105 rfl Tryz.results105 (by kernel_rfl) rfl ?_
 intro y ⟨a0, _⟩ r H Q hn hr
 have hT := tc o46 (tc o104 tn)
 refine qa tok hT [1] (St.mk [p 1 (AV.ptr 1 0)] [(1, Ob.box 105 (cellsD false y105 a0))]) (by kernel_rfl) ?_
 refine qb tok hT [2] (St.mk [p 2 (B (vl (u104 a0) && vl (u46 a0.1) && vl (u46 a0.2)))] [(1, Ob.box 105 (cellsD false y105 a0))]) H (by kernel_rfl) fun H => ?_
 exact vx_ret <| hr H (by kernel_rfl)
def u54J0 : Unit → Option (Bool)
 | _ =>
 some true
def u54L1 (a0 : Y170) (a1 : List Y107) (g1 : Int → Option (Bool)) : Int → Option (Bool)
 | v1 =>
 if (decide (v1 < (↑a1.length : Int))) = true then
  gd (ix v1 a1.length ∧ True) <| lt (a1.getD v1.toNat (dflt y107)) fun v2 =>
  gd ((u50 a0 v2.1).isSome = true ∧ ((!vl (u50 a0 v2.1)) = false ∧ True → (u104 v2.2.1).isSome = true) ∧ ((!vl (u50 a0 v2.1) || !vl (u104 v2.2.1)) = false ∧ True → (u105 v2.2.2).isSome = true) ∧ (decide (0 < v1) = true ∧ (!vl (u50 a0 v2.1) || !vl (u104 v2.2.1) || !vl (u105 v2.2.2)) = false ∧ True → in64 (v1 - 1)) ∧ (decide (0 < v1) = true ∧ (!vl (u50 a0 v2.1) || !vl (u104 v2.2.1) || !vl (u105 v2.2.2)) = false ∧ True → ix (v1 - 1) a1.length) ∧ True) <| 
  if (!vl (u50 a0 v2.1) || !vl (u104 v2.2.1) || !vl (u105 v2.2.2) || decide (0 < v1) && decide (v2.1 ≤ (a1.getD (v1 - 1).toNat (dflt y107)).1)) = true then
   some false
  else
   gd (in64 (v1 + 1) ∧ True) <| 
   g1 (v1 + 1)
 else
  u54J0 ()
def u54 (a0 : Y170) (a1 : List Y107) : Option (Bool) :=
 lp (u54L1 a0 a1) 0
def k54 : Ct := lct 54 [.dat y170.pt, .dat y107.sl] (fun x => u54 x.1 x.2.1) (fun r : Bool => B r) (fun _ => ())
theorem o54 : Ok Tryz.prog k54 := by
 refine okl tok [.tmp 4] Tryz.func54 Tryz.ntmps54 rfl Tryz.results54 (by kernel_rfl) rfl ?_
 intro y ⟨a0, a1, _⟩ r H Q hn hr
 have hT := tc o105 (tc o104 (tc o50 tn))
 refine qa tok hT [0, 1] (St.mk [p 0 (D y170.pt a0), p 1 (L y107 a1)] []) (by kernel_rfl) ?_
 refine jn r (fun (_ : Unit) => St.mk [] []) (u54J0) (fun _ H => ?_) (fun _ n0 e0 t0 => ?_)
 ·refine qa tok hT [4] (St.mk [p 4 (B true)] []) (by kernel_rfl) ?_
  exact vx_ret <| hr H (by kernel_rfl)
 refine qa tok hT [0, 1, 7, 8, 9] (St.mk [p 0 (D y170.pt a0), p 1 (L y107 a1), p 7 (L y107 a1), p 8 (I (↑a1.length : Int)), p 9 (I 0)] []) (by kernel_rfl) ?_
 refine vx_block <| ?_
 refine lx (fun (v1 : Int) => St.mk [p 0 (D y170.pt a0), p 1 (L y107 a1), p 7 (L y107 a1), p 8 (I (↑a1.length : Int)), p 9 (I v1)] []) 0 H (by kernel_rfl) fun _ g1 b1 e1 t1 v1 H => ?_
 refine qa tok hT [0, 1, 7, 8, 9, 10] (St.mk [p 0 (D y170.pt a0), p 1 (L y107 a1), p 7 (L y107 a1), p 8 (I (↑a1.length : Int)), p 9 (I v1), p 10 (B (decide (v1 < (↑a1.length : Int))))] []) (by kernel_rfl) ?_
 refine vx_seq <| ?_
 refine cd H (by kernel_rfl) (fun H => ?_) (fun H => ?_)
 ·refine vx_skip <| fx_seq <| vx_seq <| vx_block <| ?_
  refine qd tok hT [0, 1, 5, 6, 7, 8, 9] (fun v2 => St.mk [p 0 (D y170.pt a0), p 1 (L y107 a1), p 5 (I v1), p 6 (AV.ptr 6 0), p 7 (L y107 a1), p 8 (I (↑a1.length : Int)), p 9 (I v1)] [(6, Ob.box 107 (cellsD false y107 v2))]) H (by kernel_rfl) fun v2 H => ?_
  refine qb tok hT [0, 1, 7, 8, 9, 20, 21, 22, 23, 26, 27, 28, 29, 32, 33, 34, 35, 36, 37, 38, 39, 40, 41, 42, 43, 44, 45] (St.mk [p 0 (D y170.pt a0), p 1 (L y107 a1), p 7 (L y107 a1), p 8 (I (↑a1.length : Int)), p 9 (I v1), p 45 (B (!vl (u50 a0 v2.1) || !vl (u104 v2.2.1) || !vl (u105 v2.2.2) || decide (0 < v1) && decide (v2.1 ≤ (a1.getD (v1 - 1).toNat (dflt y107)).1)))] [(6, Ob.box 107 (cellsD false y107 v2))]) H (by kernel_rfl) fun H => ?_
  refine cd H (by kernel_rfl) (fun H => ?_) (fun H => ?_)
  ·refine qa tok hT [4] (St.mk [p 4 (B false)] [(6, Ob.box 107 (cellsD false y107 v2))]) (by kernel_rfl) ?_
   exact vx_ret <| fx_blk_ret <| fx_seq_ret <| t1 <| fx_blk_ret <| t0 <| hr H (by kernel_rfl)
  refine vx_skip <| fx_blk <| fx_seq <| ?_
  refine zb tok hT [0, 1, 7, 8, 9] (St.mk [p 0 (D y170.pt a0), p 1 (L y107 a1), p 7 (L y107 a1), p 8 (I (↑a1.length : Int)), p 9 (I (v1 + 1))] [(6, Ob.box 107 (cellsD false y107 v2))]) H (by kernel_rfl) fun H => ?_
  exact b1 H (by kernel_rfl)
 exact vx_exit <| fx_seq_exit <| e1 <| fx_blk_exit rfl <| n0 H (by kernel_rfl)
def u20 (a0 : Y44) (a1 : List Y107) : Option (Bool) :=
 gd ((u35 a0).isSome = true ∧ (vl (u35 a0) = true ∧ True → (u49 a0).isSome = true) ∧ (vl (u35 a0) = true ∧ True → (u54 (vl (u49 a0)) a1).isSome = true) ∧ True) <| 
 some (vl (u35 a0) && vl (u54 (vl (u49 a0)) a1))
def k20 : Ct := lct 20 [.agg y44, .dat y107.sl] (fun x => u20 x.1 x.2.1) (fun r : Bool => B r) (fun _ => ())
theorem o20 : Ok Tryz.prog k20 := by
 refine okl tok [.tmp 4] Tryz.func20 Tryz.ntmps20 rfl Tryz.results20 (by kernel_rfl) rfl ?_
 intro y ⟨a0, a1, _⟩ r H Q hn hr
 have hT := tc o54 (tc o49 (tc o35 tn))
 refine qa tok hT [1, 2] (St.mk [p 1 (L y107 a1), p 2 (AV.ptr 2 0)] [(2, Ob.box 44 (cellsD false y44 a0))]) (by kernel_rfl) ?_
 refine qb tok hT [4] (St.mk [p 4 (B (vl (u35 a0) && vl (u54 (vl (u49 a0)) a1)))] [(2, Ob.box 44 (cellsD false y44 a0))]) H (by kernel_rfl) fun H => ?_
 exact vx_ret <| hr H (by kernel_rfl)
def u102 (a0 : Y105) : Option (Bool) :=
 some (decide (0 ≤ a0.1) && decide (a0.1 ≤ a0.2) && decide (a0.2 ≤ 1000000))
def k102 : Ct := lct 102 [.agg y105] (fun x => u102 x.1) (fun r : Bool => B r) (fun _ => ())
theorem o102 : Ok Tryz.prog k102 := by
 refine okl tok [.tmp 2] Tryz.func102 Tryz.ntmps102 rfl Tryz.results102 (by kernel_rfl) rfl ?_
 intro y ⟨a0, _⟩ r H Q hn hr
 have hT := @tn Tryz.prog
 refine qa tok hT [1] (St.mk [p 1 (AV.ptr 1 0)] [(1, Ob.box 105 (cellsD false y105 a0))]) (by kernel_rfl) ?_
 refine qa tok hT [2] (St.mk [p 2 (B (decide (0 ≤ a0.1) && decide (a0.1 ≤ a0.2) && decide (a0.2 ≤ 1000000)))] [(1, Ob.box 105 (cellsD false y105 a0))]) (by kernel_rfl) ?_
 exact vx_ret <| hr H (by kernel_rfl)
def u101 (a0 : Y105) : Option (Bool) :=
 gd ((u42 a0.1 (-1000000000) 1000000000).isSome = true ∧ (vl (u42 a0.1 (-1000000000) 1000000000) = true ∧ True → (u42 a0.2 (-1000000000) 1000000000).isSome = true) ∧ True) <| 
 some (vl (u42 a0.1 (-1000000000) 1000000000) && vl (u42 a0.2 (-1000000000) 1000000000) && decide (a0.1 ≤ a0.2))
def k101 : Ct := lct 101 [.agg y105] (fun x => u101 x.1) (fun r : Bool => B r) (fun _ => ())
theorem o101 : Ok Tryz.prog k101 := by
 refine okl tok [.tmp 2] Tryz.func101 Tryz.ntmps101 rfl Tryz.results101 (by kernel_rfl) rfl ?_
 intro y ⟨a0, _⟩ r H Q hn hr
 have hT := tc o42 tn
 refine qa tok hT [1] (St.mk [p 1 (AV.ptr 1 0)] [(1, Ob.box 105 (cellsD false y105 a0))]) (by kernel_rfl) ?_
 refine qb tok hT [2] (St.mk [p 2 (B (vl (u42 a0.1 (-1000000000) 1000000000) && vl (u42 a0.2 (-1000000000) 1000000000) && decide (a0.1 ≤ a0.2)))] [(1, Ob.box 105 (cellsD false y105 a0))]) H (by kernel_rfl) fun H => ?_
 exact vx_ret <| hr H (by kernel_rfl)
def u52J0 : Unit → Option (Bool)
 | _ =>
 some true
def u52L1 (a1 : List Y107) (v0 : Int) (g1 : Int → Option (Bool)) : Int → Option (Bool)
 | v2 =>
 if (decide (v2 < (↑a1.length : Int))) = true then
  gd (ix v2 a1.length ∧ in64 (v0 - 1) ∧ (u42 (a1.getD v2.toNat (dflt y107)).1 0 (v0 - 1)).isSome = true ∧ (decide (0 < v2) = true ∧ (!vl (u42 (a1.getD v2.toNat (dflt y107)).1 0 (v0 - 1))) = false ∧ True → in64 (v2 - 1)) ∧ (decide (0 < v2) = true ∧ (!vl (u42 (a1.getD v2.toNat (dflt y107)).1 0 (v0 - 1))) = false ∧ True → ix (v2 - 1) a1.length) ∧ (decide (0 < v2) = true ∧ (!vl (u42 (a1.getD v2.toNat (dflt y107)).1 0 (v0 - 1))) = false ∧ True → ix v2 a1.length) ∧ ((!vl (u42 (a1.getD v2.toNat (dflt y107)).1 0 (v0 - 1)) || decide (0 < v2) && decide ((a1.getD v2.toNat (dflt y107)).1 ≤ (a1.getD (v2 - 1).toNat (dflt y107)).1)) = false ∧ True → ix v2 a1.length) ∧ ((!vl (u42 (a1.getD v2.toNat (dflt y107)).1 0 (v0 - 1)) || decide (0 < v2) && decide ((a1.getD v2.toNat (dflt y107)).1 ≤ (a1.getD (v2 - 1).toNat (dflt y107)).1)) = false ∧ True → (u101 (a1.getD v2.toNat (dflt y107)).2.1).isSome = true) ∧ ((!vl (u42 (a1.getD v2.toNat (dflt y107)).1 0 (v0 - 1)) || decide (0 < v2) && decide ((a1.getD v2.toNat (dflt y107)).1 ≤ (a1.getD (v2 - 1).toNat (dflt y107)).1) || !vl (u101 (a1.getD v2.toNat (dflt y107)).2.1)) = false ∧ True → ix v2 a1.length) ∧ ((!vl (u42 (a1.getD v2.toNat (dflt y107)).1 0 (v0 - 1)) || decide (0 < v2) && decide ((a1.getD v2.toNat (dflt y107)).1 ≤ (a1.getD (v2 - 1).toNat (dflt y107)).1) || !vl (u101 (a1.getD v2.toNat (dflt y107)).2.1)) = false ∧ True → (u102 (a1.getD v2.toNat (dflt y107)).2.2).isSome = true) ∧ True) <| 
  if (!vl (u42 (a1.getD v2.toNat (dflt y107)).1 0 (v0 - 1)) || decide (0 < v2) && decide ((a1.getD v2.toNat (dflt y107)).1 ≤ (a1.getD (v2 - 1).toNat (dflt y107)).1) || !vl (u101 (a1.getD v2.toNat (dflt y107)).2.1) || !vl (u102 (a1.getD v2.toNat (dflt y107)).2.2)) = true then
   some false
  else
   gd (in64 (v2 + 1) ∧ True) <| 
   g1 (v2 + 1)
 else
  u52J0 ()
def u52 (a0 : Y44) (a1 : List Y107) : Option (Bool) :=
 gd ((u31 a0).isSome = true ∧ True) <| lt (vl (u31 a0)) fun v0 =>
 lp (u52L1 a1 v0) 0
def k52 : Ct := lct 52 [.agg y44, .dat y107.sl] (fun x => u52 x.1 x.2.1) (fun r : Bool => B r) (fun _ => ())
theorem o52 : Ok Tryz.prog k52 := by
 refine okl tok [.tmp 4] Tryz.func52 Tryz.ntmps52 rfl Tryz.results52 (by kernel_rfl) rfl ?_
 intro y ⟨a0, a1, _⟩ r H Q hn hr
 have hT := tc o102 (tc o101 (tc o42 (tc o31 tn)))
 refine qa tok hT [1, 2] (St.mk [p 1 (L y107 a1), p 2 (AV.ptr 2 0)] [(2, Ob.box 44 (cellsD false y44 a0))]) (by kernel_rfl) ?_
 refine qd tok hT [1, 5] (fun v0 => St.mk [p 1 (L y107 a1), p 5 (I v0)] [(2, Ob.box 44 (cellsD false y44 a0))]) H (by kernel_rfl) fun v0 H => ?_
 refine jn r (fun (_ : Unit) => St.mk [] []) (u52J0) (fun _ H => ?_) (fun _ n0 e0 t0 => ?_)
 ·refine qa tok hT [4] (St.mk [p 4 (B true)] []) (by kernel_rfl) ?_
  exact vx_ret <| hr H (by kernel_rfl)
 refine qa tok hT [1, 5, 6] (St.mk [p 1 (L y107 a1), p 5 (I v0), p 6 (I 0)] [(2, Ob.box 44 (cellsD false y44 a0))]) (by kernel_rfl) ?_
 refine vx_block <| ?_
 refine lx (fun (v2 : Int) => St.mk [p 1 (L y107 a1), p 5 (I v0), p 6 (I v2)] []) 0 H (by kernel_rfl) fun _ g1 b1 e1 t1 v2 H => ?_
 refine vx_seq <| ?_
 refine qa tok hT [1, 5, 6, 12] (St.mk [p 1 (L y107 a1), p 5 (I v0), p 6 (I v2), p 12 (B (decide (v2 < (↑a1.length : Int))))] []) (by kernel_rfl) ?_
 refine cd H (by kernel_rfl) (fun H => ?_) (fun H => ?_)
 ·refine vx_skip <| fx_seq <| vx_seq <| vx_block <| ?_
  refine qb tok hT [1, 5, 6, 25, 26, 27, 28, 29, 30, 31, 32, 33, 34, 35, 36, 37, 38, 39, 40, 43, 44, 45, 46, 47, 48, 49, 52, 53, 54, 55, 56, 57, 58, 59] (St.mk [p 1 (L y107 a1), p 5 (I v0), p 6 (I v2), p 59 (B (!vl (u42 (a1.getD v2.toNat (dflt y107)).1 0 (v0 - 1)) || decide (0 < v2) && decide ((a1.getD v2.toNat (dflt y107)).1 ≤ (a1.getD (v2 - 1).toNat (dflt y107)).1) || !vl (u101 (a1.getD v2.toNat (dflt y107)).2.1) || !vl (u102 (a1.getD v2.toNat (dflt y107)).2.2)))] []) H (by kernel_rfl) fun H => ?_
  refine cd H (by kernel_rfl) (fun H => ?_) (fun H => ?_)
  ·refine qa tok hT [4] (St.mk [p 4 (B false)] []) (by kernel_rfl) ?_
   exact vx_ret <| fx_blk_ret <| fx_seq_ret <| t1 <| fx_blk_ret <| t0 <| hr H (by kernel_rfl)
  refine vx_skip <| fx_blk <| fx_seq <| ?_
  refine zb tok hT [1, 5, 6] (St.mk [p 1 (L y107 a1), p 5 (I v0), p 6 (I (v2 + 1))] []) H (by kernel_rfl) fun H => ?_
  exact b1 H (by kernel_rfl)
 exact vx_exit <| fx_seq_exit <| e1 <| fx_blk_exit rfl <| n0 H (by kernel_rfl)
def u18 (a0 : Y44) (a1 : List Y107) : Option (Bool) :=
 gd ((u30 a0).isSome = true ∧ (vl (u30 a0) = true ∧ True → (u52 a0 a1).isSome = true) ∧ True) <| 
 some (vl (u30 a0) && vl (u52 a0 a1))
def k18 : Ct := lct 18 [.agg y44, .dat y107.sl] (fun x => u18 x.1 x.2.1) (fun r : Bool => B r) (fun _ => ())
theorem o18 : Ok Tryz.prog k18 := by
 refine okl tok [.tmp 4] Tryz.func18 Tryz.ntmps18 rfl Tryz.results18 (by kernel_rfl) rfl ?_
 intro y ⟨a0, a1, _⟩ r H Q hn hr
 have hT := tc o52 (tc o30 tn)
 refine qa tok hT [1, 2] (St.mk [p 1 (L y107 a1), p 2 (AV.ptr 2 0)] [(2, Ob.box 44 (cellsD false y44 a0))]) (by kernel_rfl) ?_
 refine qb tok hT [4] (St.mk [p 4 (B (vl (u30 a0) && vl (u52 a0 a1)))] [(2, Ob.box 44 (cellsD false y44 a0))]) H (by kernel_rfl) fun H => ?_
 exact vx_ret <| hr H (by kernel_rfl)
def u17 (a0 : List Y111) (a1 : Int) : Option (Int) :=
 gd (in64 (a1 - (↑a0.length : Int)) ∧ True) <| 
 if (decide (a1 - (↑a0.length : Int) < 0)) = true then
  some (-1)
 else
  some (a1 - (↑a0.length : Int))
def k17 : Ct := lct 17 [.dat y111.sl, .dat i64] (fun x => u17 x.1 x.2.1) (fun r : Int => I r) (fun _ => ())
theorem o17 : Ok Tryz.prog k17 := by
 refine okl tok [.tmp 4] Tryz.func17 Tryz.ntmps17 rfl Tryz.results17 (by kernel_rfl) rfl ?_
 intro y ⟨a0, a1, _⟩ r H Q hn hr
 have hT := @tn Tryz.prog
 refine qa tok hT [0, 1] (St.mk [p 0 (L y111 a0), p 1 (J a1)] []) (by kernel_rfl) ?_
 refine qb tok hT [1] (St.mk [p 1 (I (a1 - (↑a0.length : Int)))] []) H (by kernel_rfl) fun H => ?_
 refine vx_seq <| ?_
 refine qa tok hT [1, 10] (St.mk [p 1 (I (a1 - (↑a0.length : Int))), p 10 (B (decide (a1 - (↑a0.length : Int) < 0)))] []) (by kernel_rfl) ?_
 refine cd H (by kernel_rfl) (fun H => ?_) (fun H => ?_)
 ·refine qa tok hT [4] (St.mk [p 4 (I (-1))] []) (by kernel_rfl) ?_
  exact vx_ret <| fx_seq_ret <| hr H (by kernel_rfl)
 refine vx_skip <| fx_seq <| ?_
 refine qa tok hT [4] (St.mk [p 4 (I (a1 - (↑a0.length : Int)))] []) (by kernel_rfl) ?_
 exact vx_ret <| hr H (by kernel_rfl)
def u6 (a0 : Y32) (a1 : List Y111) : Option (Bool) :=
 gd ((u8 a0 1048576).isSome = true ∧ True) <| lt (vl (u8 a0 1048576)) fun v0 =>
 if (decide (v0 < 0)) = true then
  some true
 else
  gd ((u17 a1 v0).isSome = true ∧ True) <| lt (vl (u17 a1 v0)) fun v1 =>
  if (decide (v1 < 0)) = true then
   some true
  else
   gd ((u10 a0).isSome = true ∧ (u19 a1).isSome = true ∧ (u18 (vl (u10 a0)) (vl (u19 a1))).isSome = true ∧ True) <| lt ((vl (u19 a1), vl (u10 a0))) fun (v2, v3) =>
   gd ((u10 a0).isSome = true ∧ True) <| lt (vl (u10 a0)) fun v4 =>
   gd ((u19 a1).isSome = true ∧ True) <| lt (vl (u19 a1)) fun v5 =>
   gd ((u20 v4 v5).isSome = true ∧ True) <| 
   if (!vl (u20 v4 v5) == vl (u18 v3 v2)) = true then
    some false
   else
    gd ((u10 a0).isSome = true ∧ (u12 v4 (vl (u10 a0))).isSome = true ∧ True) <| lt (vl (u10 a0)) fun v6 =>
    if (!vl (u12 v4 v6)) = true then
     some false
    else
     gd ((u19 a1).isSome = true ∧ (u21 v5 (vl (u19 a1))).isSome = true ∧ True) <| lt (vl (u19 a1)) fun v7 =>
     if (!vl (u21 v5 v7)) = true then
      some false
     else
      some true
def k6 : Ct := lct 6 [.agg y32, .dat y111.sl] (fun x => u6 x.1 x.2.1) (fun r : Bool => B r) (fun _ => ())
theorem o6 : Ok Tryz.prog k6 := by
 refine okl tok [.tmp 4] Tryz.func6 Tryz.ntmps6 rfl Tryz.results6 (by kernel_rfl) rfl ?_
 intro y ⟨a0, a1, _⟩ r H Q hn hr
 have hT := tc o21 (tc o19 (tc o12 (tc o10 (tc o20 (tc o18 (tc o17 (tc o8 tn)))))))
 refine qa tok hT [1, 2] (St.mk [p 1 (L y111 a1), p 2 (AV.ptr 2 0)] [(2, Ob.box 32 (cellsD false y32 a0))]) (by kernel_rfl) ?_
 refine qa tok hT [1, 2, 5] (St.mk [p 1 (L y111 a1), p 2 (AV.ptr 2 0), p 5 (I 1048576)] [(2, Ob.box 32 (cellsD false y32 a0))]) (by kernel_rfl) ?_
 refine qd tok hT [1, 2, 5] (fun v0 => St.mk [p 1 (L y111 a1), p 2 (AV.ptr 2 0), p 5 (I v0)] [(2, Ob.box 32 (cellsD false y32 a0))]) H (by kernel_rfl) fun v0 H => ?_
 refine vx_seq <| ?_
 refine qa tok hT [1, 2, 5, 14] (St.mk [p 1 (L y111 a1), p 2 (AV.ptr 2 0), p 5 (I v0), p 14 (B (decide (v0 < 0)))] [(2, Ob.box 32 (cellsD false y32 a0))]) (by kernel_rfl) ?_
 refine cd H (by kernel_rfl) (fun H => ?_) (fun H => ?_)
 ·refine qa tok hT [4] (St.mk [p 4 (B true)] [(2, Ob.box 32 (cellsD false y32 a0))]) (by kernel_rfl) ?_
  exact vx_ret <| fx_seq_ret <| hr H (by kernel_rfl)
 refine vx_skip <| fx_seq <| ?_
 refine qd tok hT [1, 2, 5] (fun v1 => St.mk [p 1 (L y111 a1), p 2 (AV.ptr 2 0), p 5 (I v1)] [(2, Ob.box 32 (cellsD false y32 a0))]) H (by kernel_rfl) fun v1 H => ?_
 refine vx_seq <| ?_
 refine qa tok hT [1, 2, 19] (St.mk [p 1 (L y111 a1), p 2 (AV.ptr 2 0), p 19 (B (decide (v1 < 0)))] [(2, Ob.box 32 (cellsD false y32 a0))]) (by kernel_rfl) ?_
 refine cd H (by kernel_rfl) (fun H => ?_) (fun H => ?_)
 ·refine qa tok hT [4] (St.mk [p 4 (B true)] [(2, Ob.box 32 (cellsD false y32 a0))]) (by kernel_rfl) ?_
  exact vx_ret <| fx_seq_ret <| hr H (by kernel_rfl)
 refine vx_skip <| fx_seq <| ?_
 refine qd tok hT [1, 2, 6] (fun (v2, v3) => St.mk [p 1 (L y111 a1), p 2 (AV.ptr 2 0), p 6 (B (vl (u18 v3 v2)))] [(23, Ob.arr 107 true y107 v2 0), (4021, Ob.arr 131 true y131 v3.2.2 0), (3021, Ob.arr 143 true y143 v3.2.1.2.2 0), (2021, Ob.arr 9 true Ty.str v3.2.1.2.1 0), (1021, Ob.arr 141 true y141 v3.2.1.1 0), (21, Ob.arr 152 true y152 v3.1 0), (2, Ob.box 32 (cellsD false y32 a0))]) H (by kernel_rfl) fun ⟨v2, v3⟩ H => ?_
 refine qd tok hT [1, 2, 6, 7] (fun v4 => St.mk [p 1 (L y111 a1), p 2 (AV.ptr 2 0), p 6 (B (vl (u18 v3 v2))), p 7 (AV.ptr 7 0)] [(7, Ob.box 44 [AV.os 26 0, AV.os 1026 0, AV.os 2026 0, AV.os 3026 0, AV.os 4026 0]), (4026, Ob.arr 131 true y131 v4.2.2 0), (3026, Ob.arr 143 true y143 v4.2.1.2.2 0), (2026, Ob.arr 9 true Ty.str v4.2.1.2.1 0), (1026, Ob.arr 141 true y141 v4.2.1.1 0), (26, Ob.arr 152 true y152 v4.1 0), (23, Ob.arr 107 true y107 v2 0), (4021, Ob.arr 131 true y131 v3.2.2 0), (3021, Ob.arr 143 true y143 v3.2.1.2.2 0), (2021, Ob.arr 9 true Ty.str v3.2.1.2.1 0), (1021, Ob.arr 141 true y141 v3.2.1.1 0), (21, Ob.arr 152 true y152 v3.1 0), (2, Ob.box 32 (cellsD false y32 a0))]) H (by kernel_rfl) fun v4 H => ?_
 refine qd tok hT [1, 2, 6, 7, 8] (fun v5 => St.mk [p 1 (L y111 a1), p 2 (AV.ptr 2 0), p 6 (B (vl (u18 v3 v2))), p 7 (AV.ptr 7 0), p 8 (AV.os 28 0)] [(28, Ob.arr 107 true y107 v5 0), (7, Ob.box 44 [AV.os 26 0, AV.os 1026 0, AV.os 2026 0, AV.os 3026 0, AV.os 4026 0]), (4026, Ob.arr 131 true y131 v4.2.2 0), (3026, Ob.arr 143 true y143 v4.2.1.2.2 0), (2026, Ob.arr 9 true Ty.str v4.2.1.2.1 0), (1026, Ob.arr 141 true y141 v4.2.1.1 0), (26, Ob.arr 152 true y152 v4.1 0), (23, Ob.arr 107 true y107 v2 0), (4021, Ob.arr 131 true y131 v3.2.2 0), (3021, Ob.arr 143 true y143 v3.2.1.2.2 0), (2021, Ob.arr 9 true Ty.str v3.2.1.2.1 0), (1021, Ob.arr 141 true y141 v3.2.1.1 0), (21, Ob.arr 152 true y152 v3.1 0), (2, Ob.box 32 (cellsD false y32 a0))]) H (by kernel_rfl) fun v5 H => ?_
 refine qb tok hT [1, 2, 6, 7, 8, 9] (St.mk [p 1 (L y111 a1), p 2 (AV.ptr 2 0), p 6 (B (vl (u18 v3 v2))), p 7 (AV.ptr 7 0), p 8 (AV.os 28 0), p 9 (B (vl (u20 v4 v5)))] [(28, Ob.arr 107 true y107 v5 0), (7, Ob.box 44 [AV.os 26 0, AV.os 1026 0, AV.os 2026 0, AV.os 3026 0, AV.os 4026 0]), (4026, Ob.arr 131 true y131 v4.2.2 0), (3026, Ob.arr 143 true y143 v4.2.1.2.2 0), (2026, Ob.arr 9 true Ty.str v4.2.1.2.1 0), (1026, Ob.arr 141 true y141 v4.2.1.1 0), (26, Ob.arr 152 true y152 v4.1 0), (23, Ob.arr 107 true y107 v2 0), (4021, Ob.arr 131 true y131 v3.2.2 0), (3021, Ob.arr 143 true y143 v3.2.1.2.2 0), (2021, Ob.arr 9 true Ty.str v3.2.1.2.1 0), (1021, Ob.arr 141 true y141 v3.2.1.1 0), (21, Ob.arr 152 true y152 v3.1 0), (2, Ob.box 32 (cellsD false y32 a0))]) H (by kernel_rfl) fun H => ?_
 refine vx_seq <| ?_
 refine qa tok hT [1, 2, 7, 8, 34] (St.mk [p 1 (L y111 a1), p 2 (AV.ptr 2 0), p 7 (AV.ptr 7 0), p 8 (AV.os 28 0), p 34 (B !vl (u20 v4 v5) == vl (u18 v3 v2))] [(28, Ob.arr 107 true y107 v5 0), (7, Ob.box 44 [AV.os 26 0, AV.os 1026 0, AV.os 2026 0, AV.os 3026 0, AV.os 4026 0]), (4026, Ob.arr 131 true y131 v4.2.2 0), (3026, Ob.arr 143 true y143 v4.2.1.2.2 0), (2026, Ob.arr 9 true Ty.str v4.2.1.2.1 0), (1026, Ob.arr 141 true y141 v4.2.1.1 0), (26, Ob.arr 152 true y152 v4.1 0), (23, Ob.arr 107 true y107 v2 0), (4021, Ob.arr 131 true y131 v3.2.2 0), (3021, Ob.arr 143 true y143 v3.2.1.2.2 0), (2021, Ob.arr 9 true Ty.str v3.2.1.2.1 0), (1021, Ob.arr 141 true y141 v3.2.1.1 0), (21, Ob.arr 152 true y152 v3.1 0), (2, Ob.box 32 (cellsD false y32 a0))]) (by kernel_rfl) ?_
 refine cd H (by kernel_rfl) (fun H => ?_) (fun H => ?_)
 ·refine qa tok hT [4] (St.mk [p 4 (B false)] [(28, Ob.arr 107 true y107 v5 0), (7, Ob.box 44 [AV.os 26 0, AV.os 1026 0, AV.os 2026 0, AV.os 3026 0, AV.os 4026 0]), (4026, Ob.arr 131 true y131 v4.2.2 0), (3026, Ob.arr 143 true y143 v4.2.1.2.2 0), (2026, Ob.arr 9 true Ty.str v4.2.1.2.1 0), (1026, Ob.arr 141 true y141 v4.2.1.1 0), (26, Ob.arr 152 true y152 v4.1 0), (23, Ob.arr 107 true y107 v2 0), (4021, Ob.arr 131 true y131 v3.2.2 0), (3021, Ob.arr 143 true y143 v3.2.1.2.2 0), (2021, Ob.arr 9 true Ty.str v3.2.1.2.1 0), (1021, Ob.arr 141 true y141 v3.2.1.1 0), (21, Ob.arr 152 true y152 v3.1 0), (2, Ob.box 32 (cellsD false y32 a0))]) (by kernel_rfl) ?_
  exact vx_ret <| fx_seq_ret <| hr H (by kernel_rfl)
 refine vx_skip <| fx_seq <| vx_seq <| ?_
 refine qd tok hT [1, 8, 39] (fun v6 => St.mk [p 1 (L y111 a1), p 8 (AV.os 28 0), p 39 (B !vl (u12 v4 v6))] [(4037, Ob.arr 131 true y131 v6.2.2 0), (3037, Ob.arr 143 true y143 v6.2.1.2.2 0), (2037, Ob.arr 9 true Ty.str v6.2.1.2.1 0), (1037, Ob.arr 141 true y141 v6.2.1.1 0), (37, Ob.arr 152 true y152 v6.1 0), (28, Ob.arr 107 true y107 v5 0), (7, Ob.box 44 [AV.os 26 0, AV.os 1026 0, AV.os 2026 0, AV.os 3026 0, AV.os 4026 0]), (4026, Ob.arr 131 true y131 v4.2.2 0), (3026, Ob.arr 143 true y143 v4.2.1.2.2 0), (2026, Ob.arr 9 true Ty.str v4.2.1.2.1 0), (1026, Ob.arr 141 true y141 v4.2.1.1 0), (26, Ob.arr 152 true y152 v4.1 0), (23, Ob.arr 107 true y107 v2 0), (4021, Ob.arr 131 true y131 v3.2.2 0), (3021, Ob.arr 143 true y143 v3.2.1.2.2 0), (2021, Ob.arr 9 true Ty.str v3.2.1.2.1 0), (1021, Ob.arr 141 true y141 v3.2.1.1 0), (21, Ob.arr 152 true y152 v3.1 0), (2, Ob.box 32 (cellsD false y32 a0))]) H (by kernel_rfl) fun v6 H => ?_
 refine cd H (by kernel_rfl) (fun H => ?_) (fun H => ?_)
 ·refine qa tok hT [4] (St.mk [p 4 (B false)] [(4037, Ob.arr 131 true y131 v6.2.2 0), (3037, Ob.arr 143 true y143 v6.2.1.2.2 0), (2037, Ob.arr 9 true Ty.str v6.2.1.2.1 0), (1037, Ob.arr 141 true y141 v6.2.1.1 0), (37, Ob.arr 152 true y152 v6.1 0), (28, Ob.arr 107 true y107 v5 0), (7, Ob.box 44 [AV.os 26 0, AV.os 1026 0, AV.os 2026 0, AV.os 3026 0, AV.os 4026 0]), (4026, Ob.arr 131 true y131 v4.2.2 0), (3026, Ob.arr 143 true y143 v4.2.1.2.2 0), (2026, Ob.arr 9 true Ty.str v4.2.1.2.1 0), (1026, Ob.arr 141 true y141 v4.2.1.1 0), (26, Ob.arr 152 true y152 v4.1 0), (23, Ob.arr 107 true y107 v2 0), (4021, Ob.arr 131 true y131 v3.2.2 0), (3021, Ob.arr 143 true y143 v3.2.1.2.2 0), (2021, Ob.arr 9 true Ty.str v3.2.1.2.1 0), (1021, Ob.arr 141 true y141 v3.2.1.1 0), (21, Ob.arr 152 true y152 v3.1 0), (2, Ob.box 32 (cellsD false y32 a0))]) (by kernel_rfl) ?_
  exact vx_ret <| fx_seq_ret <| hr H (by kernel_rfl)
 refine vx_skip <| fx_seq <| vx_seq <| ?_
 refine qd tok hT [44] (fun v7 => St.mk [p 44 (B !vl (u21 v5 v7))] [(42, Ob.arr 107 true y107 v7 0), (4037, Ob.arr 131 true y131 v6.2.2 0), (3037, Ob.arr 143 true y143 v6.2.1.2.2 0), (2037, Ob.arr 9 true Ty.str v6.2.1.2.1 0), (1037, Ob.arr 141 true y141 v6.2.1.1 0), (37, Ob.arr 152 true y152 v6.1 0), (28, Ob.arr 107 true y107 v5 0), (7, Ob.box 44 [AV.os 26 0, AV.os 1026 0, AV.os 2026 0, AV.os 3026 0, AV.os 4026 0]), (4026, Ob.arr 131 true y131 v4.2.2 0), (3026, Ob.arr 143 true y143 v4.2.1.2.2 0), (2026, Ob.arr 9 true Ty.str v4.2.1.2.1 0), (1026, Ob.arr 141 true y141 v4.2.1.1 0), (26, Ob.arr 152 true y152 v4.1 0), (23, Ob.arr 107 true y107 v2 0), (4021, Ob.arr 131 true y131 v3.2.2 0), (3021, Ob.arr 143 true y143 v3.2.1.2.2 0), (2021, Ob.arr 9 true Ty.str v3.2.1.2.1 0), (1021, Ob.arr 141 true y141 v3.2.1.1 0), (21, Ob.arr 152 true y152 v3.1 0), (2, Ob.box 32 (cellsD false y32 a0))]) H (by kernel_rfl) fun v7 H => ?_
 refine cd H (by kernel_rfl) (fun H => ?_) (fun H => ?_)
 ·refine qa tok hT [4] (St.mk [p 4 (B false)] [(42, Ob.arr 107 true y107 v7 0), (4037, Ob.arr 131 true y131 v6.2.2 0), (3037, Ob.arr 143 true y143 v6.2.1.2.2 0), (2037, Ob.arr 9 true Ty.str v6.2.1.2.1 0), (1037, Ob.arr 141 true y141 v6.2.1.1 0), (37, Ob.arr 152 true y152 v6.1 0), (28, Ob.arr 107 true y107 v5 0), (7, Ob.box 44 [AV.os 26 0, AV.os 1026 0, AV.os 2026 0, AV.os 3026 0, AV.os 4026 0]), (4026, Ob.arr 131 true y131 v4.2.2 0), (3026, Ob.arr 143 true y143 v4.2.1.2.2 0), (2026, Ob.arr 9 true Ty.str v4.2.1.2.1 0), (1026, Ob.arr 141 true y141 v4.2.1.1 0), (26, Ob.arr 152 true y152 v4.1 0), (23, Ob.arr 107 true y107 v2 0), (4021, Ob.arr 131 true y131 v3.2.2 0), (3021, Ob.arr 143 true y143 v3.2.1.2.2 0), (2021, Ob.arr 9 true Ty.str v3.2.1.2.1 0), (1021, Ob.arr 141 true y141 v3.2.1.1 0), (21, Ob.arr 152 true y152 v3.1 0), (2, Ob.box 32 (cellsD false y32 a0))]) (by kernel_rfl) ?_
  exact vx_ret <| fx_seq_ret <| hr H (by kernel_rfl)
 refine vx_skip <| fx_seq <| ?_
 refine qa tok hT [4] (St.mk [p 4 (B true)] [(42, Ob.arr 107 true y107 v7 0), (4037, Ob.arr 131 true y131 v6.2.2 0), (3037, Ob.arr 143 true y143 v6.2.1.2.2 0), (2037, Ob.arr 9 true Ty.str v6.2.1.2.1 0), (1037, Ob.arr 141 true y141 v6.2.1.1 0), (37, Ob.arr 152 true y152 v6.1 0), (28, Ob.arr 107 true y107 v5 0), (7, Ob.box 44 [AV.os 26 0, AV.os 1026 0, AV.os 2026 0, AV.os 3026 0, AV.os 4026 0]), (4026, Ob.arr 131 true y131 v4.2.2 0), (3026, Ob.arr 143 true y143 v4.2.1.2.2 0), (2026, Ob.arr 9 true Ty.str v4.2.1.2.1 0), (1026, Ob.arr 141 true y141 v4.2.1.1 0), (26, Ob.arr 152 true y152 v4.1 0), (23, Ob.arr 107 true y107 v2 0), (4021, Ob.arr 131 true y131 v3.2.2 0), (3021, Ob.arr 143 true y143 v3.2.1.2.2 0), (2021, Ob.arr 9 true Ty.str v3.2.1.2.1 0), (1021, Ob.arr 141 true y141 v3.2.1.1 0), (21, Ob.arr 152 true y152 v3.1 0), (2, Ob.box 32 (cellsD false y32 a0))]) (by kernel_rfl) ?_
 exact vx_ret <| hr H (by kernel_rfl)
end Go.Proofs.YtippccamjlfafaaGreatDoor
