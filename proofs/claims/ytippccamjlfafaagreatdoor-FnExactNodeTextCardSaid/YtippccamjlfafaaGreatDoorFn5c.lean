/- Functions of this program as plain functions of data, and that they are so: printed by program. -/
import Derived.Test.YtippccamjlfafaaGreatDoorFn5b
import Derived.Test.YtippccamjlfafaaGreatDoorXE
import Derived.Test.YtippccamjlfafaaGreatDoorTypes2
import Derived.Test.YtippccamjlfafaaGreatDoorL2B
namespace Go.Proofs.YtippccamjlfafaaGreatDoor
open Go Go.Proofs Go.Proofs.Sv Go.Proofs.Xv Go.Proofs.Xl Go.RowKit
def u133 (a0 : Y89) : Option (List (Int × Int)) :=
 if (a0.1 == 2) = true then
  some ([((0 : Int), (0 : Int)), ((0 : Int), (1 : Int))])
 else
  if (a0.1 == 3) = true then
   some ([((1 : Int), (0 : Int)), ((1 : Int), (1 : Int))])
  else
   if (a0.1 != 1) = true then
    some []
   else
    if (a0.2.2.2.1 == 1) = true then
     some ([((0 : Int), (0 : Int)), ((1 : Int), (1 : Int))])
    else
     if (a0.2.2.2.1 == 2) = true then
      some ([((0 : Int), (1 : Int)), ((1 : Int), (0 : Int))])
     else
      lt ([((0 : Int), (0 : Int)), ((0 : Int), (1 : Int)), ((1 : Int), (0 : Int)), ((1 : Int), (1 : Int))]) fun v0 =>
      some v0
def k133 : Ct := lct 133 [.agg y89] (fun x => u133 x.1) (fun r : List (Int × Int) => AV.ow 215 true (i64.pr i64) r) (fun _ => ())
theorem o133 : Ok Tryz.prog k133 := by
 refine okl tok [.tmp 2] Tryz.func133 Tryz.ntmps133 rfl Tryz.results133 (by kernel_rfl) rfl ?_
 intro y ⟨a0, _⟩ r H Q hn hr
 have hT := @tn Tryz.prog
 refine qa tok hT [1] (St.mk [p 1 (AV.ptr 1 0)] [(1, Ob.box 89 (cellsD false y89 a0))]) (by kernel_rfl) ?_
 refine qa tok hT [1, 3] (St.mk [p (1 : Nat) (AV.ptr (1 : Nat) (0 : Nat)), p (3 : Nat) (AV.os (7 : Nat) (0 : Nat))] [((7 : Nat), Ob.arr (nat_lit 215) true (i64.pr i64) [((0 : Int), (0 : Int)), ((1 : Int), (1 : Int))] (0 : Nat)), ((1 : Nat), Ob.box (nat_lit 89) (cellsD false y89 a0))]) (by kernel_rfl) ?_
 refine qa tok hT [1, 3, 4] (St.mk [p (1 : Nat) (AV.ptr (1 : Nat) (0 : Nat)), p (3 : Nat) (AV.os (7 : Nat) (0 : Nat)), p (4 : Nat) (AV.os (10 : Nat) (0 : Nat))] [((10 : Nat), Ob.arr (nat_lit 215) true (i64.pr i64) [((0 : Int), (1 : Int)), ((1 : Int), (0 : Int))] (0 : Nat)), ((7 : Nat), Ob.arr (nat_lit 215) true (i64.pr i64) [((0 : Int), (0 : Int)), ((1 : Int), (1 : Int))] (0 : Nat)), ((1 : Nat), Ob.box (nat_lit 89) (cellsD false y89 a0))]) (by kernel_rfl) ?_
 refine vx_seq <| vx_block <| ?_
 refine qa tok hT [1, 3, 4, 11] (St.mk [p (1 : Nat) (AV.ptr (1 : Nat) (0 : Nat)), p (3 : Nat) (AV.os (7 : Nat) (0 : Nat)), p (4 : Nat) (AV.os (10 : Nat) (0 : Nat)), p (11 : Nat) (B (a0.1 == (2 : Int)))] [((10 : Nat), Ob.arr (nat_lit 215) true (i64.pr i64) [((0 : Int), (1 : Int)), ((1 : Int), (0 : Int))] (0 : Nat)), ((7 : Nat), Ob.arr (nat_lit 215) true (i64.pr i64) [((0 : Int), (0 : Int)), ((1 : Int), (1 : Int))] (0 : Nat)), ((1 : Nat), Ob.box (nat_lit 89) (cellsD false y89 a0))]) (by kernel_rfl) ?_
 refine cd H (by kernel_rfl) (fun H => ?_) (fun H => ?_)
 ·refine qa tok hT [2] (St.mk [p (2 : Nat) (AV.os (17 : Nat) (0 : Nat))] [((17 : Nat), Ob.arr (nat_lit 215) true (i64.pr i64) [((0 : Int), (0 : Int)), ((0 : Int), (1 : Int))] (0 : Nat)), ((10 : Nat), Ob.arr (nat_lit 215) true (i64.pr i64) [((0 : Int), (1 : Int)), ((1 : Int), (0 : Int))] (0 : Nat)), ((7 : Nat), Ob.arr (nat_lit 215) true (i64.pr i64) [((0 : Int), (0 : Int)), ((1 : Int), (1 : Int))] (0 : Nat)), ((1 : Nat), Ob.box (nat_lit 89) (cellsD false y89 a0))]) (by kernel_rfl) ?_
  exact vx_ret <| fx_blk_ret <| fx_seq_ret <| hr H (by kernel_rfl)
 refine qa tok hT [1, 3, 4, 18] (St.mk [p (1 : Nat) (AV.ptr (1 : Nat) (0 : Nat)), p (3 : Nat) (AV.os (7 : Nat) (0 : Nat)), p (4 : Nat) (AV.os (10 : Nat) (0 : Nat)), p (18 : Nat) (B (a0.1 == (3 : Int)))] [((10 : Nat), Ob.arr (nat_lit 215) true (i64.pr i64) [((0 : Int), (1 : Int)), ((1 : Int), (0 : Int))] (0 : Nat)), ((7 : Nat), Ob.arr (nat_lit 215) true (i64.pr i64) [((0 : Int), (0 : Int)), ((1 : Int), (1 : Int))] (0 : Nat)), ((1 : Nat), Ob.box (nat_lit 89) (cellsD false y89 a0))]) (by kernel_rfl) ?_
 refine cd H (by kernel_rfl) (fun H => ?_) (fun H => ?_)
 ·refine qa tok hT [2] (St.mk [p (2 : Nat) (AV.os (24 : Nat) (0 : Nat))] [((24 : Nat), Ob.arr (nat_lit 215) true (i64.pr i64) [((1 : Int), (0 : Int)), ((1 : Int), (1 : Int))] (0 : Nat)), ((10 : Nat), Ob.arr (nat_lit 215) true (i64.pr i64) [((0 : Int), (1 : Int)), ((1 : Int), (0 : Int))] (0 : Nat)), ((7 : Nat), Ob.arr (nat_lit 215) true (i64.pr i64) [((0 : Int), (0 : Int)), ((1 : Int), (1 : Int))] (0 : Nat)), ((1 : Nat), Ob.box (nat_lit 89) (cellsD false y89 a0))]) (by kernel_rfl) ?_
  exact vx_ret <| fx_blk_ret <| fx_seq_ret <| hr H (by kernel_rfl)
 refine qa tok hT [1, 3, 4, 25] (St.mk [p (1 : Nat) (AV.ptr (1 : Nat) (0 : Nat)), p (3 : Nat) (AV.os (7 : Nat) (0 : Nat)), p (4 : Nat) (AV.os (10 : Nat) (0 : Nat)), p (25 : Nat) (B (a0.1 != (1 : Int)))] [((10 : Nat), Ob.arr (nat_lit 215) true (i64.pr i64) [((0 : Int), (1 : Int)), ((1 : Int), (0 : Int))] (0 : Nat)), ((7 : Nat), Ob.arr (nat_lit 215) true (i64.pr i64) [((0 : Int), (0 : Int)), ((1 : Int), (1 : Int))] (0 : Nat)), ((1 : Nat), Ob.box (nat_lit 89) (cellsD false y89 a0))]) (by kernel_rfl) ?_
 refine cd H (by kernel_rfl) (fun H => ?_) (fun H => ?_)
 ·refine qa tok hT [2] (St.mk [p (2 : Nat) (AV.v (Value.slice none (0 : Nat) (0 : Nat)))] [((10 : Nat), Ob.arr (nat_lit 215) true (i64.pr i64) [((0 : Int), (1 : Int)), ((1 : Int), (0 : Int))] (0 : Nat)), ((7 : Nat), Ob.arr (nat_lit 215) true (i64.pr i64) [((0 : Int), (0 : Int)), ((1 : Int), (1 : Int))] (0 : Nat)), ((1 : Nat), Ob.box (nat_lit 89) (cellsD false y89 a0))]) (by kernel_rfl) ?_
  exact vx_ret <| fx_blk_ret <| fx_seq_ret <| hr H (by kernel_rfl)
 refine qa tok hT [1, 3, 4, 29] (St.mk [p (1 : Nat) (AV.ptr (1 : Nat) (0 : Nat)), p (3 : Nat) (AV.os (7 : Nat) (0 : Nat)), p (4 : Nat) (AV.os (10 : Nat) (0 : Nat)), p (29 : Nat) (B (a0.2.2.2.1 == (1 : Int)))] [((10 : Nat), Ob.arr (nat_lit 215) true (i64.pr i64) [((0 : Int), (1 : Int)), ((1 : Int), (0 : Int))] (0 : Nat)), ((7 : Nat), Ob.arr (nat_lit 215) true (i64.pr i64) [((0 : Int), (0 : Int)), ((1 : Int), (1 : Int))] (0 : Nat)), ((1 : Nat), Ob.box (nat_lit 89) (cellsD false y89 a0))]) (by kernel_rfl) ?_
 refine cd H (by kernel_rfl) (fun H => ?_) (fun H => ?_)
 ·refine qa tok hT [2] (St.mk [p (2 : Nat) (AV.os (7 : Nat) (0 : Nat))] [((10 : Nat), Ob.arr (nat_lit 215) true (i64.pr i64) [((0 : Int), (1 : Int)), ((1 : Int), (0 : Int))] (0 : Nat)), ((7 : Nat), Ob.arr (nat_lit 215) true (i64.pr i64) [((0 : Int), (0 : Int)), ((1 : Int), (1 : Int))] (0 : Nat)), ((1 : Nat), Ob.box (nat_lit 89) (cellsD false y89 a0))]) (by kernel_rfl) ?_
  exact vx_ret <| fx_blk_ret <| fx_seq_ret <| hr H (by kernel_rfl)
 refine qa tok hT [4, 34] (St.mk [p (4 : Nat) (AV.os (10 : Nat) (0 : Nat)), p (34 : Nat) (B (a0.2.2.2.1 == (2 : Int)))] [((10 : Nat), Ob.arr (nat_lit 215) true (i64.pr i64) [((0 : Int), (1 : Int)), ((1 : Int), (0 : Int))] (0 : Nat)), ((7 : Nat), Ob.arr (nat_lit 215) true (i64.pr i64) [((0 : Int), (0 : Int)), ((1 : Int), (1 : Int))] (0 : Nat)), ((1 : Nat), Ob.box (nat_lit 89) (cellsD false y89 a0))]) (by kernel_rfl) ?_
 refine cd H (by kernel_rfl) (fun H => ?_) (fun H => ?_)
 ·refine qa tok hT [2] (St.mk [p (2 : Nat) (AV.os (10 : Nat) (0 : Nat))] [((10 : Nat), Ob.arr (nat_lit 215) true (i64.pr i64) [((0 : Int), (1 : Int)), ((1 : Int), (0 : Int))] (0 : Nat)), ((7 : Nat), Ob.arr (nat_lit 215) true (i64.pr i64) [((0 : Int), (0 : Int)), ((1 : Int), (1 : Int))] (0 : Nat)), ((1 : Nat), Ob.box (nat_lit 89) (cellsD false y89 a0))]) (by kernel_rfl) ?_
  exact vx_ret <| fx_blk_ret <| fx_seq_ret <| hr H (by kernel_rfl)
 refine vx_skip <| fx_blk <| fx_seq <| ?_
 refine qc tok hT [2] (fun v0 => St.mk [p (2 : Nat) (AV.os (43 : Nat) (0 : Nat))] [((43 : Nat), Ob.arr (nat_lit 215) true (i64.pr i64) v0 (0 : Nat)), ((10 : Nat), Ob.arr (nat_lit 215) true (i64.pr i64) [((0 : Int), (1 : Int)), ((1 : Int), (0 : Int))] (0 : Nat)), ((7 : Nat), Ob.arr (nat_lit 215) true (i64.pr i64) [((0 : Int), (0 : Int)), ((1 : Int), (1 : Int))] (0 : Nat)), ((1 : Nat), Ob.box (nat_lit 89) (cellsD false y89 a0))]) H (by kernel_rfl) fun v0 H => ?_
 exact vx_ret <| hr H (by kernel_rfl)
def u95J0 : List Y175 → Option (List Y175)
 | v24 =>
 some v24
def u95J2 (v12 : Int) (g1 : List Y175 × Int → Option (List Y175)) : List Y175 → Option (List Y175)
 | v23 =>
 gd (in64 (v12 + 1) ∧ True) <| 
 g1 (v23, v12 + 1)
def u95L3 (a2 : Int) (v13 : Y89) (v12 : Int) (v14 : List (Int × Int)) (g1 : List Y175 × Int → Option (List Y175)) (g3 : Int × List Y175 → Option (List Y175)) : Int × List Y175 → Option (List Y175)
 | (v18, v19) =>
 if (decide (v18 < (↑v14.length : Int))) = true then
  gd (ix v18 v14.length ∧ v18.toNat < v14.length ∧ True) <| lt (v14.getD v18.toNat (dflt (i64.pr i64))) fun v20 =>
  gd (in64 (a2 + v13.2.1) ∧ in64 ((2 : Int) * (a2 + v13.2.1)) ∧ ix (0 : Int) (2 : Nat) ∧ in64 ((2 : Int) * (a2 + v13.2.1) + v20.1) ∧ in64 (a2 + v13.2.2.1) ∧ in64 ((2 : Int) * (a2 + v13.2.2.1)) ∧ ix (1 : Int) (2 : Nat) ∧ in64 ((2 : Int) * (a2 + v13.2.2.1) + v20.2) ∧ (v19.length + [((2 : Int) * (a2 + v13.2.1) + v20.1, (2 : Int) * (a2 + v13.2.2.1) + v20.2, (1 : Int), v12)].length ≤ (9223372036854775807 : Nat) ∧ (v19.length + [((2 : Int) * (a2 + v13.2.1) + v20.1, (2 : Int) * (a2 + v13.2.2.1) + v20.2, (1 : Int), v12)].length) * (32 : Nat) ≤ (140737488355328 : Nat)) ∧ True) <| lt ((v19 ++ [((2 : Int) * (a2 + v13.2.1) + v20.1, (2 : Int) * (a2 + v13.2.2.1) + v20.2, (1 : Int), v12)], [((2 : Int) * (a2 + v13.2.1) + v20.1, (2 : Int) * (a2 + v13.2.2.1) + v20.2, (1 : Int), v12)])) fun (v21, v22) =>
  gd (in64 (v18 + 1) ∧ True) <| 
  g3 (v18 + 1, v21)
 else
  u95J2 v12 g1 v19
def u95L1 (a2 : Int) (v0 : Y152) (g1 : List Y175 × Int → Option (List Y175)) : List Y175 × Int → Option (List Y175)
 | (v11, v12) =>
 if (decide (v12 < (↑v0.2.2.2.1.length : Int))) = true then
  gd (ix v12 v0.2.2.2.1.length ∧ True) <| lt (v0.2.2.2.1.getD v12.toNat (dflt y89)) fun v13 =>
  gd ((u133 v13).isSome = true ∧ True) <| lt (vl (u133 v13)) fun v14 =>
  lp (u95L3 a2 v13 v12 v14 g1) (0, v11)
 else
  u95J0 v11
def u95 (a0 : Y44) (a1 : Y141) (a2 : Int) : Option (List Y175) :=
 gd (ix a1.2.1 a0.1.length ∧ True) <| lt (a0.1.getD a1.2.1.toNat (dflt y152)) fun v0 =>
 lp (u95L1 a2 v0) ([], 0)
def k95 : Ct := lct 95 [.agg y44, .agg y141, .dat i64] (fun x => u95 x.1 x.2.1 x.2.2.1) (fun r : List Y175 => AV.ow 175 true y175 r) (fun _ => ())
theorem o95 : Ok Tryz.prog k95 := by
 refine okl tok [.tmp 6] Tryz.func95 Tryz.ntmps95 rfl Tryz.results95 (by kernel_rfl) rfl ?_
 intro y ⟨a0, a1, a2, _⟩ r H Q hn hr
 have hT := tc o133 tn
 refine qa tok hT [2, 3, 4] (St.mk [p 2 (J a2), p 3 (AV.ptr 3 0), p 4 (AV.ptr 4 0)] [(4, Ob.box 141 (cellsD false y141 a1)), (3, Ob.box 44 (cellsD false y44 a0))]) (by kernel_rfl) ?_
 refine qa tok hT [2, 3, 4, 7] (St.mk [p 2 (J a2), p 3 (AV.ptr 3 0), p 4 (AV.ptr 4 0), p 7 (AV.v (Value.slice none 0 0))] [(4, Ob.box 141 (cellsD false y141 a1)), (3, Ob.box 44 (cellsD false y44 a0))]) (by kernel_rfl) ?_
 refine jn r (fun (v24 : List Y175) => St.mk [p 7 (AV.os 53 0)] [(53, Ob.arr 175 true y175 v24 0)]) (u95J0) (fun v24 H => ?_) (fun _ n0 e0 t0 => ?_)
 ·refine qa tok hT [6] (St.mk [p 6 (AV.os 53 0)] [(53, Ob.arr 175 true y175 v24 0)]) (by kernel_rfl) ?_
  exact vx_ret <| hr H (by kernel_rfl)
 refine qd tok hT [2, 7, 19, 20, 21] (fun v0 => St.mk [p 2 (J a2), p 7 (AV.v (Value.slice none 0 0)), p 19 (L y89 v0.2.2.2.1), p 20 (I (↑v0.2.2.2.1.length : Int)), p 21 (I 0)] [(4, Ob.box 141 (cellsD false y141 a1)), (3, Ob.box 44 (cellsD false y44 a0))]) H (by kernel_rfl) fun v0 H => ?_
 refine vx_block <| ?_
 refine lx (fun ((v11, v12) : List Y175 × Int) => St.mk [p 2 (J a2), p 7 (AV.os 53 0), p 19 (L y89 v0.2.2.2.1), p 20 (I (↑v0.2.2.2.1.length : Int)), p 21 (I v12)] [(53, Ob.arr 175 true y175 v11 0)]) ([], 0) H (by kernel_rfl) fun _ g1 b1 e1 t1 ⟨v11, v12⟩ H => ?_
 refine qa tok hT [2, 7, 19, 20, 21, 22] (St.mk [p 2 (J a2), p 7 (AV.os 53 0), p 19 (L y89 v0.2.2.2.1), p 20 (I (↑v0.2.2.2.1.length : Int)), p 21 (I v12), p 22 (B (decide (v12 < (↑v0.2.2.2.1.length : Int))))] [(53, Ob.arr 175 true y175 v11 0)]) (by kernel_rfl) ?_
 refine vx_seq <| ?_
 refine cd H (by kernel_rfl) (fun H => ?_) (fun H => ?_)
 ·refine vx_skip <| fx_seq <| ?_
  refine jn r (fun (v23 : List Y175) => St.mk [p 2 (J a2), p 7 (AV.os 53 0), p 19 (L y89 v0.2.2.2.1), p 20 (I (↑v0.2.2.2.1.length : Int)), p 21 (I v12)] [(53, Ob.arr 175 true y175 v23 0)]) (u95J2 v12 g1) (fun v23 H => ?_) (fun _ n2 e2 t2 => ?_)
  ·refine zb tok hT [2, 7, 19, 20, 21] (St.mk [p 2 (J a2), p 7 (AV.os 53 0), p 19 (L y89 v0.2.2.2.1), p 20 (I (↑v0.2.2.2.1.length : Int)), p 21 (I (v12 + 1))] [(53, Ob.arr 175 true y175 v23 0)]) H (by kernel_rfl) fun H => ?_
   exact b1 H (by kernel_rfl)
  refine vx_block <| ?_
  refine qd tok hT [2, 7, 8, 9, 19, 20, 21] (fun v13 => St.mk [p 2 (J a2), p 7 (AV.os 53 0), p 8 (I v12), p 9 (AV.ptr 9 0), p 19 (L y89 v0.2.2.2.1), p 20 (I (↑v0.2.2.2.1.length : Int)), p 21 (I v12)] [(9, Ob.box 89 (cellsD false y89 v13)), (53, Ob.arr 175 true y175 v11 0)]) H (by kernel_rfl) fun v13 H => ?_
  refine qd tok hT [2, 7, 8, 9, 19, 20, 21, 27, 28, 29] (fun v14 => St.mk [p 2 (J a2), p 7 (AV.os 53 0), p 8 (I v12), p 9 (AV.ptr 9 0), p 19 (L y89 v0.2.2.2.1), p 20 (I (↑v0.2.2.2.1.length : Int)), p 21 (I v12), p 27 (AV.os 27 0), p 28 (I (↑v14.length : Int)), p 29 (I 0)] [(27, Ob.arr 215 true (i64.pr i64) v14 0), (9, Ob.box 89 (cellsD false y89 v13)), (53, Ob.arr 175 true y175 v11 0)]) H (by kernel_rfl) fun v14 H => ?_
  refine vx_block <| ?_
  refine lx (fun ((v18, v19) : Int × List Y175) => St.mk [p 2 (J a2), p 7 (AV.os 53 0), p 8 (I v12), p 9 (AV.ptr 9 0), p 19 (L y89 v0.2.2.2.1), p 20 (I (↑v0.2.2.2.1.length : Int)), p 21 (I v12), p 27 (AV.os 27 0), p 28 (I (↑v14.length : Int)), p 29 (I v18)] [(27, Ob.arr 215 true (i64.pr i64) v14 0), (9, Ob.box 89 (cellsD false y89 v13)), (53, Ob.arr 175 true y175 v19 0)]) (0, v11) H (by kernel_rfl) fun _ g3 b3 e3 t3 ⟨v18, v19⟩ H => ?_
  refine qa tok hT [2, 7, 8, 9, 19, 20, 21, 27, 28, 29, 30] (St.mk [p 2 (J a2), p 7 (AV.os 53 0), p 8 (I v12), p 9 (AV.ptr 9 0), p 19 (L y89 v0.2.2.2.1), p 20 (I (↑v0.2.2.2.1.length : Int)), p 21 (I v12), p 27 (AV.os 27 0), p 28 (I (↑v14.length : Int)), p 29 (I v18), p 30 (B (decide (v18 < (↑v14.length : Int))))] [(27, Ob.arr 215 true (i64.pr i64) v14 0), (9, Ob.box 89 (cellsD false y89 v13)), (53, Ob.arr 175 true y175 v19 0)]) (by kernel_rfl) ?_
  refine vx_seq <| ?_
  refine cd H (by kernel_rfl) (fun H => ?_) (fun H => ?_)
  ·refine vx_skip <| fx_seq <| vx_seq <| vx_block <| ?_
   refine qd tok hT [2, 7, 8, 9, 11, 19, 20, 21, 27, 28, 29] (fun v20 => St.mk [p 2 (J a2), p 7 (AV.os 53 0), p 8 (I v12), p 9 (AV.ptr 9 0), p 11 (AV.ptr 11 0), p 19 (L y89 v0.2.2.2.1), p 20 (I (↑v0.2.2.2.1.length : Int)), p 21 (I v12), p 27 (AV.os 27 0), p 28 (I (↑v14.length : Int)), p 29 (I v18)] [(11, Ob.box 215 (cellsD true (i64.pr i64) v20)), (27, Ob.arr 215 true (i64.pr i64) v14 0), (9, Ob.box 89 (cellsD false y89 v13)), (53, Ob.arr 175 true y175 v19 0)]) H (by kernel_rfl) fun v20 H => ?_
   refine zd tok hT [2, 7, 8, 9, 19, 20, 21, 27, 28, 29] (fun (v21, v22) => St.mk [p 2 (J a2), p 7 (AV.os 53 1), p 8 (I v12), p 9 (AV.ptr 9 0), p 19 (L y89 v0.2.2.2.1), p 20 (I (↑v0.2.2.2.1.length : Int)), p 21 (I v12), p 27 (AV.os 27 0), p 28 (I (↑v14.length : Int)), p 29 (I v18)] [(53, Ob.arr 175 true y175 v21 1), (52, Ob.arr 175 true y175 v22 0), (11, Ob.box 215 (cellsD true (i64.pr i64) v20)), (27, Ob.arr 215 true (i64.pr i64) v14 0), (9, Ob.box 89 (cellsD false y89 v13))]) H (by kernel_rfl) fun ⟨v21, v22⟩ H => ?_
   refine fx_blk <| fx_seq <| ?_
   refine zb tok hT [2, 7, 8, 9, 19, 20, 21, 27, 28, 29] (St.mk [p 2 (J a2), p 7 (AV.os 53 1), p 8 (I v12), p 9 (AV.ptr 9 0), p 19 (L y89 v0.2.2.2.1), p 20 (I (↑v0.2.2.2.1.length : Int)), p 21 (I v12), p 27 (AV.os 27 0), p 28 (I (↑v14.length : Int)), p 29 (I (v18 + 1))] [(53, Ob.arr 175 true y175 v21 1), (52, Ob.arr 175 true y175 v22 0), (11, Ob.box 215 (cellsD true (i64.pr i64) v20)), (27, Ob.arr 215 true (i64.pr i64) v14 0), (9, Ob.box 89 (cellsD false y89 v13))]) H (by kernel_rfl) fun H => ?_
   exact b3 H (by kernel_rfl)
  exact vx_exit <| fx_seq_exit <| e3 <| fx_blk_exit rfl <| fx_blk <| n2 H (by kernel_rfl)
 exact vx_exit <| fx_seq_exit <| e1 <| fx_blk_exit rfl <| n0 H (by kernel_rfl)
def u49J5 (a0 : Y44) (v0 : List Y81) : List Y175 × List Int × List (List Int) → Option (Y170)
 | (v97, v98, v99) =>
 some (a0, v0, v97, v98, v99, [])
def u49J7 (v71 : Int) (g6 : Int × List Int × List (List Int) × List Y175 → Option (Y170)) : List (List Int) × List Int × List Y175 → Option (Y170)
 | (v94, v95, v96) =>
 gd (in64 (v71 + 1) ∧ True) <| 
 g6 (v71 + 1, v95, v94, v96)
def u49J9 (v85 : Int) (g8 : Int × List Y175 → Option (Y170)) : List Y175 → Option (Y170)
 | v93 =>
 gd (in64 (v85 + 1) ∧ True) <| 
 g8 (v85 + 1, v93)
def u49L10 (v24 : List Int) (v71 : Int) (v23 : List (List Int)) (v85 : Int) (g8 : Int × List Y175 → Option (Y170)) (g10 : Int × List Y175 → Option (Y170)) : Int × List Y175 → Option (Y170)
 | (v89, v90) =>
 if (decide (v89 < 2)) = true then
  gd (ix v71 v24.length ∧ v71.toNat < v24.length ∧ in64 ((2 : Int) * v24.getD v71.toNat (0 : Int)) ∧ in64 ((2 : Int) * v24.getD v71.toNat (0 : Int) + v89) ∧ in64 ((2 : Int) * List.getD (v23.getD v71.toNat []) v85.toNat (0 : Int)) ∧ in64 ((2 : Int) * List.getD (v23.getD v71.toNat []) v85.toNat (0 : Int) + v89) ∧ (v90.length + [((2 : Int) * v24.getD v71.toNat (0 : Int) + v89, (2 : Int) * List.getD (v23.getD v71.toNat []) v85.toNat (0 : Int) + v89, (2 : Int), v85)].length ≤ (9223372036854775807 : Nat) ∧ (v90.length + [((2 : Int) * v24.getD v71.toNat (0 : Int) + v89, (2 : Int) * List.getD (v23.getD v71.toNat []) v85.toNat (0 : Int) + v89, (2 : Int), v85)].length) * (32 : Nat) ≤ (140737488355328 : Nat)) ∧ True) <| lt ((v90 ++ [((2 : Int) * v24.getD v71.toNat (0 : Int) + v89, (2 : Int) * List.getD (v23.getD v71.toNat []) v85.toNat (0 : Int) + v89, (2 : Int), v85)], [((2 : Int) * v24.getD v71.toNat (0 : Int) + v89, (2 : Int) * List.getD (v23.getD v71.toNat []) v85.toNat (0 : Int) + v89, (2 : Int), v85)])) fun (v91, v92) =>
  gd (in64 (v89 + 1) ∧ True) <| 
  g10 (v89 + 1, v91)
 else
  u49J9 v85 g8 v90
def u49L8 (v24 : List Int) (v71 : Int) (v23 : List (List Int)) (v73 : List (List Int)) (v76 : List Int) (v72 : List Int) (v75 : List Int) (g6 : Int × List Int × List (List Int) × List Y175 → Option (Y170)) (g8 : Int × List Y175 → Option (Y170)) : Int × List Y175 → Option (Y170)
 | (v85, v86) =>
 if (decide (v85 < (↑(List.length (v23.getD v71.toNat [])) : Int))) = true then
  gd (ix v85 (List.length (v23.getD v71.toNat [])) ∧ True) <| 
  lp (u49L10 v24 v71 v23 v85 g8) (0, v86)
 else
  u49J7 v71 g6 ((v73 ++ [v76], v72 ++ [v75.getD (Int.toNat (0 : Int)) (0 : Int)], v86))
def u49L6 (v24 : List Int) (v23 : List (List Int)) (a0 : Y44) (v0 : List Y81) (g6 : Int × List Int × List (List Int) × List Y175 → Option (Y170)) : Int × List Int × List (List Int) × List Y175 → Option (Y170)
 | (v71, v72, v73, v74) =>
 if (decide (v71 < (↑a0.2.2.length : Int))) = true then
  gd ((u97 a0 v71).isSome = true ∧ ix (0 : Int) (vl (u97 a0 v71)).length ∧ Int.toNat (0 : Int) < (vl (u97 a0 v71)).length ∧ (v72.length + [(vl (u97 a0 v71)).getD (Int.toNat (0 : Int)) (0 : Int)].length ≤ (9223372036854775807 : Nat) ∧ (v72.length + [(vl (u97 a0 v71)).getD (Int.toNat (0 : Int)) (0 : Int)].length) * (8 : Nat) ≤ (140737488355328 : Nat)) ∧ True) <| lt (vl (u97 a0 v71)) fun v75 =>
  gd ((u98 a0 v71).isSome = true ∧ (v73.length + [vl (u98 a0 v71)].length ≤ 9223372036854775807 ∧ (v73.length + [vl (u98 a0 v71)].length) * 24 ≤ 140737488355328) ∧ True) <| lt (vl (u98 a0 v71)) fun v76 =>
  gd (ix v71 v23.length ∧ True) <| 
  lp (u49L8 v24 v71 v23 v73 v76 v72 v75 g6) (0, v74)
 else
  u49J5 a0 v0 (v74, v72, v73)
def u49J2 (a0 : Y44) (v0 : List Y81) (v10 : List Y175) : List (List Int) × List Int → Option (Y170)
 | (v23, v24) =>
 lp (u49L6 v24 v23 a0 v0) (0, [], [], v10)
def u49J4 (v16 : Int) (g3 : Int × List (List Int) × List Int → Option (Y170)) : List Int × List (List Int) → Option (Y170)
 | (v21, v22) =>
 gd (in64 (v16 + 1) ∧ True) <| 
 g3 (v16 + 1, v22, v21)
def u49L3 (v0 : List Y81) (a0 : Y44) (v10 : List Y175) (g3 : Int × List (List Int) × List Int → Option (Y170)) : Int × List (List Int) × List Int → Option (Y170)
 | (v16, v17, v18) =>
 if (decide (v16 < (↑v0.length : Int))) = true then
  gd (ix v16 v0.length ∧ v16.toNat < v0.length ∧ True) <| lt (v0.getD v16.toNat (dflt y81)) fun v19 =>
  if v19.2.2.2 = true then
   gd (ix v19.2.2.1 v18.length ∧ v19.2.2.1.toNat < v18.length ∧ True) <| 
   u49J4 v16 g3 (v18.set v19.2.2.1.toNat v16, v17)
  else
   gd (ix v19.2.2.1 v17.length ∧ v19.2.2.1.toNat < v17.length ∧ ((v17.getD v19.2.2.1.toNat []).length + [v16].length ≤ 9223372036854775807 ∧ ((v17.getD v19.2.2.1.toNat []).length + [v16].length) * 8 ≤ 140737488355328) ∧ ix v19.2.2.1 v17.length ∧ (v19.2.2.1.toNat < v17.length ∧ v19.2.2.1.toNat = v19.2.2.1.toNat) ∧ True) <| lt (v17.set v19.2.2.1.toNat (v17.getD v19.2.2.1.toNat [] ++ [v16])) fun v20 =>
   u49J4 v16 g3 (v18, v20)
 else
  u49J2 a0 v0 v10 (v17, v18)
def u49J0 (v0 : List Y81) (a0 : Y44) : List Y175 → Option (Y170)
 | v10 =>
 gd ((0 ≤ (↑a0.2.2.length : Int) ∧ (↑a0.2.2.length : Int) = (↑a0.2.2.length : Int) ∧ (↑a0.2.2.length : Int).toNat * 8 ≤ 281474976710656 ∧ (↑a0.2.2.length : Int) ≤ 9223372036854775807) ∧ True) <| 
 gd ((0 ≤ (↑a0.2.2.length : Int) ∧ (↑a0.2.2.length : Int) = (↑a0.2.2.length : Int) ∧ (↑a0.2.2.length : Int).toNat * 24 ≤ 281474976710656 ∧ (↑a0.2.2.length : Int) ≤ 9223372036854775807) ∧ True) <| 
 lp (u49L3 v0 a0 v10) ((0, List.replicate (↑a0.2.2.length : Int).toNat [], List.replicate (↑a0.2.2.length : Int).toNat 0))
def u49L1 (a0 : Y44) (v0 : List Y81) (g1 : Int × Int × List Y175 → Option (Y170)) : Int × Int × List Y175 → Option (Y170)
 | (v4, v5, v6) =>
 if (decide (v5 < (↑a0.2.1.1.length : Int))) = true then
  gd (ix v5 a0.2.1.1.length ∧ True) <| lt (a0.2.1.1.getD v5.toNat (dflt y141)) fun v7 =>
  gd ((u95 a0 v7 v4).isSome = true ∧ (v6.length + (vl (u95 a0 v7 v4)).length ≤ 9223372036854775807 ∧ (v6.length + (vl (u95 a0 v7 v4)).length) * 32 ≤ 140737488355328) ∧ True) <| lt (vl (u95 a0 v7 v4)) fun v8 =>
  gd ((u96 v7.2.2).isSome = true ∧ in64 (v4 + vl (u96 v7.2.2)) ∧ True) <| lt (vl (u96 v7.2.2)) fun v9 =>
  gd (in64 (v5 + 1) ∧ True) <| 
  g1 (v4 + v9, v5 + 1, v6 ++ v8)
 else
  u49J0 v0 a0 v6
def u49 (a0 : Y44) : Option (Y170) :=
 gd ((u37 a0.2.1).isSome = true ∧ True) <| lt (vl (u37 a0.2.1)) fun v0 =>
 lp (u49L1 a0 v0) (0, 0, [])
def k49 : Ct := lct 49 [.agg y44] (fun x => u49 x.1) (fun r : Y170 => D y170.pt r) (fun _ => ())
theorem o49 : Ok Tryz.prog k49 := by
 refine okl tok [.tmp 2] Tryz.func49 Tryz.ntmps49 rfl Tryz.results49 (by kernel_rfl) rfl ?_
 intro y ⟨a0, _⟩ r H Q hn hr
 have hT := tc o98d (tc o97 (tc o96 (tc o95 (tc o37 tn))))
 refine qa tok hT [1] (St.mk [p 1 (AV.ptr 1 0)] [(1, Ob.box 44 (cellsD false y44 a0))]) (by kernel_rfl) ?_
 refine qd tok hT [1, 3] (fun v0 => St.mk [p 1 (AV.ptr 1 0), p 3 (AV.ptr 20 0)] [(20, Ob.box 170 [L y152 a0.1, L y141 a0.2.1.1, L Ty.str a0.2.1.2.1, L y143 a0.2.1.2.2, L y131 a0.2.2, AV.os 18 0, AV.v (Value.slice none 0 0), AV.v (Value.slice none 0 0), AV.v (Value.slice none 0 0), AV.v (Value.slice none 0 0)]), (18, Ob.arr 81 true y81 v0 0), (1, Ob.box 44 (cellsD false y44 a0))]) H (by kernel_rfl) fun v0 H => ?_
 refine qa tok hT [1, 3, 4] (St.mk [p 1 (AV.ptr 1 0), p 3 (AV.ptr 20 0), p 4 (I 0)] [(20, Ob.box 170 [L y152 a0.1, L y141 a0.2.1.1, L Ty.str a0.2.1.2.1, L y143 a0.2.1.2.2, L y131 a0.2.2, AV.os 18 0, AV.v (Value.slice none 0 0), AV.v (Value.slice none 0 0), AV.v (Value.slice none 0 0), AV.v (Value.slice none 0 0)]), (18, Ob.arr 81 true y81 v0 0), (1, Ob.box 44 (cellsD false y44 a0))]) (by kernel_rfl) ?_
 refine jn r (fun (v10 : List Y175) => St.mk [p 1 (AV.ptr 1 0), p 3 (AV.ptr 20 0)] [(20, Ob.box 170 [L y152 a0.1, L y141 a0.2.1.1, L Ty.str a0.2.1.2.1, L y143 a0.2.1.2.2, L y131 a0.2.2, AV.os 18 0, AV.os 38 0, AV.v (Value.slice none 0 0), AV.v (Value.slice none 0 0), AV.v (Value.slice none 0 0)]), (18, Ob.arr 81 true y81 v0 0), (1, Ob.box 44 (cellsD false y44 a0)), (38, Ob.arr 175 true y175 v10 0)]) (u49J0 v0 a0) (fun v10 H => ?_) (fun _ n0 e0 t0 => ?_)
 ·refine qb tok hT [1, 3, 7] (St.mk [p 1 (AV.ptr 1 0), p 3 (AV.ptr 20 0), p 7 (AV.os 50 0)] [(50, Ob.arr 2 true i64 (List.replicate (↑a0.2.2.length : Int).toNat 0) 0), (20, Ob.box 170 [L y152 a0.1, L y141 a0.2.1.1, L Ty.str a0.2.1.2.1, L y143 a0.2.1.2.2, L y131 a0.2.2, AV.os 18 0, AV.os 38 0, AV.v (Value.slice none 0 0), AV.v (Value.slice none 0 0), AV.v (Value.slice none 0 0)]), (18, Ob.arr 81 true y81 v0 0), (1, Ob.box 44 (cellsD false y44 a0)), (38, Ob.arr 175 true y175 v10 0)]) H (by kernel_rfl) fun H => ?_
  refine qb tok hT [1, 3, 7, 8] (St.mk [p 1 (AV.ptr 1 0), p 3 (AV.ptr 20 0), p 7 (AV.os 50 0), p 8 (AV.og 54)] [(54, Ob.grd 94 2 true i64 (List.replicate (↑a0.2.2.length : Int).toNat []) none), (50, Ob.arr 2 true i64 (List.replicate (↑a0.2.2.length : Int).toNat 0) 0), (20, Ob.box 170 [L y152 a0.1, L y141 a0.2.1.1, L Ty.str a0.2.1.2.1, L y143 a0.2.1.2.2, L y131 a0.2.2, AV.os 18 0, AV.os 38 0, AV.v (Value.slice none 0 0), AV.v (Value.slice none 0 0), AV.v (Value.slice none 0 0)]), (18, Ob.arr 81 true y81 v0 0), (1, Ob.box 44 (cellsD false y44 a0)), (38, Ob.arr 175 true y175 v10 0)]) H (by kernel_rfl) fun H => ?_
  refine jn r (fun ((v23, v24) : List (List Int) × List Int) => St.mk [p 1 (AV.ptr 1 0), p 3 (AV.ptr 20 0), p 7 (AV.os 50 0), p 8 (AV.og 54)] [(54, Ob.grd 94 2 true i64 v23 none), (50, Ob.arr 2 true i64 v24 0), (20, Ob.box 170 [L y152 a0.1, L y141 a0.2.1.1, L Ty.str a0.2.1.2.1, L y143 a0.2.1.2.2, L y131 a0.2.2, AV.os 18 0, AV.os 38 0, AV.v (Value.slice none 0 0), AV.v (Value.slice none 0 0), AV.v (Value.slice none 0 0)]), (18, Ob.arr 81 true y81 v0 0), (1, Ob.box 44 (cellsD false y44 a0)), (38, Ob.arr 175 true y175 v10 0)]) (u49J2 a0 v0 v10) (fun ⟨v23, v24⟩ H => ?_) (fun _ n2 e2 t2 => ?_)
  ·refine jn r (fun ((v97, v98, v99) : List Y175 × List Int × List (List Int)) => St.mk [p 3 (AV.ptr 20 0)] [(20, Ob.box 170 [L y152 a0.1, L y141 a0.2.1.1, L Ty.str a0.2.1.2.1, L y143 a0.2.1.2.2, L y131 a0.2.2, AV.os 18 0, AV.os 38 0, AV.os 102 0, AV.os 114 0, AV.v (Value.slice none 0 0)]), (18, Ob.arr 81 true y81 v0 0), (38, Ob.arr 175 true y175 v97 0), (102, Ob.arr 2 true i64 v98 0), (114, Ob.arr 94 true i64.sl v99 0)]) (u49J5 a0 v0) (fun ⟨v97, v98, v99⟩ H => ?_) (fun _ n5 e5 t5 => ?_)
   ·refine qa tok hT [2] (St.mk [p 2 (AV.ptr 20 0)] [(20, Ob.box 170 [L y152 a0.1, L y141 a0.2.1.1, L Ty.str a0.2.1.2.1, L y143 a0.2.1.2.2, L y131 a0.2.2, AV.os 18 0, AV.os 38 0, AV.os 102 0, AV.os 114 0, AV.v (Value.slice none 0 0)]), (18, Ob.arr 81 true y81 v0 0), (38, Ob.arr 175 true y175 v97 0), (102, Ob.arr 2 true i64 v98 0), (114, Ob.arr 94 true i64.sl v99 0)]) (by kernel_rfl) ?_
    exact vx_ret <| hr H (by kernel_rfl)
   refine qa tok hT [1, 3, 7, 8, 87, 88] (St.mk [p 1 (AV.ptr 1 0), p 3 (AV.ptr 20 0), p 7 (AV.os 50 0), p 8 (AV.og 54), p 87 (I (↑a0.2.2.length : Int)), p 88 (I 0)] [(54, Ob.grd 94 2 true i64 v23 none), (50, Ob.arr 2 true i64 v24 0), (20, Ob.box 170 [L y152 a0.1, L y141 a0.2.1.1, L Ty.str a0.2.1.2.1, L y143 a0.2.1.2.2, L y131 a0.2.2, AV.os 18 0, AV.os 38 0, AV.v (Value.slice none 0 0), AV.v (Value.slice none 0 0), AV.v (Value.slice none 0 0)]), (18, Ob.arr 81 true y81 v0 0), (1, Ob.box 44 (cellsD false y44 a0)), (38, Ob.arr 175 true y175 v10 0)]) (by kernel_rfl) ?_
   refine vx_block <| ?_
   refine fz 54 (St.mk [p 1 (AV.ptr 1 0), p 3 (AV.ptr 20 0), p 7 (AV.os 50 0), p 8 (M i64.sl v23), p 87 (I (↑a0.2.2.length : Int)), p 88 (I 0)] [(50, Ob.arr 2 true i64 v24 0), (20, Ob.box 170 [L y152 a0.1, L y141 a0.2.1.1, L Ty.str a0.2.1.2.1, L y143 a0.2.1.2.2, L y131 a0.2.2, AV.os 18 0, AV.os 38 0, AV.v (Value.slice none 0 0), AV.v (Value.slice none 0 0), AV.v (Value.slice none 0 0)]), (18, Ob.arr 81 true y81 v0 0), (1, Ob.box 44 (cellsD false y44 a0)), (38, Ob.arr 175 true y175 v10 0)]) (by kernel_rfl) rfl ?_
   refine lx (fun ((v71, v72, v73, v74) : Int × List Int × List (List Int) × List Y175) => St.mk [p 1 (AV.ptr 1 0), p 3 (AV.ptr 20 0), p 7 (AV.os 50 0), p 8 (M i64.sl v23), p 87 (I (↑a0.2.2.length : Int)), p 88 (I v71)] [(50, Ob.arr 2 true i64 v24 0), (20, Ob.box 170 [L y152 a0.1, L y141 a0.2.1.1, L Ty.str a0.2.1.2.1, L y143 a0.2.1.2.2, L y131 a0.2.2, AV.os 18 0, AV.os 38 0, AV.os 102 0, AV.os 114 0, AV.v (Value.slice none 0 0)]), (18, Ob.arr 81 true y81 v0 0), (1, Ob.box 44 (cellsD false y44 a0)), (38, Ob.arr 175 true y175 v74 0), (102, Ob.arr 2 true i64 v72 0), (114, Ob.arr 94 true i64.sl v73 0)]) (0, [], [], v10) H (by kernel_rfl) fun _ g6 b6 e6 t6 ⟨v71, v72, v73, v74⟩ H => ?_
   refine qa tok hT [1, 3, 7, 8, 87, 88, 89] (St.mk [p 1 (AV.ptr 1 0), p 3 (AV.ptr 20 0), p 7 (AV.os 50 0), p 8 (M i64.sl v23), p 87 (I (↑a0.2.2.length : Int)), p 88 (I v71), p 89 (B (decide (v71 < (↑a0.2.2.length : Int))))] [(50, Ob.arr 2 true i64 v24 0), (20, Ob.box 170 [L y152 a0.1, L y141 a0.2.1.1, L Ty.str a0.2.1.2.1, L y143 a0.2.1.2.2, L y131 a0.2.2, AV.os 18 0, AV.os 38 0, AV.os 102 0, AV.os 114 0, AV.v (Value.slice none 0 0)]), (18, Ob.arr 81 true y81 v0 0), (1, Ob.box 44 (cellsD false y44 a0)), (38, Ob.arr 175 true y175 v74 0), (102, Ob.arr 2 true i64 v72 0), (114, Ob.arr 94 true i64.sl v73 0)]) (by kernel_rfl) ?_
   refine vx_seq <| ?_
   refine cd H (by kernel_rfl) (fun H => ?_) (fun H => ?_)
   ·refine vx_skip <| fx_seq <| ?_
    refine jn r (fun ((v94, v95, v96) : List (List Int) × List Int × List Y175) => St.mk [p 1 (AV.ptr 1 0), p 3 (AV.ptr 20 0), p 7 (AV.os 50 0), p 8 (M i64.sl v23), p 87 (I (↑a0.2.2.length : Int)), p 88 (I v71)] [(20, Ob.box 170 [L y152 a0.1, L y141 a0.2.1.1, L Ty.str a0.2.1.2.1, L y143 a0.2.1.2.2, L y131 a0.2.2, AV.os 18 0, AV.os 38 0, AV.os 102 0, AV.os 114 0, AV.v (Value.slice none 0 0)]), (114, Ob.arr 94 true i64.sl v94 0), (102, Ob.arr 2 true i64 v95 0), (50, Ob.arr 2 true i64 v24 0), (18, Ob.arr 81 true y81 v0 0), (1, Ob.box 44 (cellsD false y44 a0)), (38, Ob.arr 175 true y175 v96 0)]) (u49J7 v71 g6) (fun ⟨v94, v95, v96⟩ H => ?_) (fun _ n7 e7 t7 => ?_)
    ·refine zb tok hT [1, 3, 7, 8, 87, 88] (St.mk [p 1 (AV.ptr 1 0), p 3 (AV.ptr 20 0), p 7 (AV.os 50 0), p 8 (M i64.sl v23), p 87 (I (↑a0.2.2.length : Int)), p 88 (I (v71 + 1))] [(20, Ob.box 170 [L y152 a0.1, L y141 a0.2.1.1, L Ty.str a0.2.1.2.1, L y143 a0.2.1.2.2, L y131 a0.2.2, AV.os 18 0, AV.os 38 0, AV.os 102 0, AV.os 114 0, AV.v (Value.slice none 0 0)]), (114, Ob.arr 94 true i64.sl v94 0), (102, Ob.arr 2 true i64 v95 0), (50, Ob.arr 2 true i64 v24 0), (18, Ob.arr 81 true y81 v0 0), (1, Ob.box 44 (cellsD false y44 a0)), (38, Ob.arr 175 true y175 v96 0)]) H (by kernel_rfl) fun H => ?_
     exact b6 H (by kernel_rfl)
    refine vx_block <| ?_
    refine qa tok hT [1, 3, 7, 8, 11, 87, 88] (St.mk [p 1 (AV.ptr 1 0), p 3 (AV.ptr 20 0), p 7 (AV.os 50 0), p 8 (M i64.sl v23), p 11 (I v71), p 87 (I (↑a0.2.2.length : Int)), p 88 (I v71)] [(50, Ob.arr 2 true i64 v24 0), (20, Ob.box 170 [L y152 a0.1, L y141 a0.2.1.1, L Ty.str a0.2.1.2.1, L y143 a0.2.1.2.2, L y131 a0.2.2, AV.os 18 0, AV.os 38 0, AV.os 102 0, AV.os 114 0, AV.v (Value.slice none 0 0)]), (18, Ob.arr 81 true y81 v0 0), (1, Ob.box 44 (cellsD false y44 a0)), (38, Ob.arr 175 true y175 v74 0), (102, Ob.arr 2 true i64 v72 0), (114, Ob.arr 94 true i64.sl v73 0)]) (by kernel_rfl) ?_
    refine qd tok hT [1, 3, 7, 8, 11, 87, 88] (fun v75 => St.mk [p (1 : Nat) (AV.ptr (1 : Nat) (0 : Nat)), p (3 : Nat) (AV.ptr (20 : Nat) (0 : Nat)), p (7 : Nat) (AV.os (50 : Nat) (0 : Nat)), p (8 : Nat) (M i64.sl v23), p (11 : Nat) (I v71), p (87 : Nat) (I (↑a0.2.2.length : Int)), p (88 : Nat) (I v71)] [((20 : Nat), Ob.box (nat_lit 170) [L y152 a0.1, L y141 a0.2.1.1, L Ty.str a0.2.1.2.1, L y143 a0.2.1.2.2, L y131 a0.2.2, AV.os (18 : Nat) (0 : Nat), AV.os (38 : Nat) (0 : Nat), AV.os (102 : Nat) (1 : Nat), AV.os (114 : Nat) (0 : Nat), AV.v (Value.slice none (0 : Nat) (0 : Nat))]), ((102 : Nat), Ob.arr (nat_lit 2) true i64 (v72 ++ [v75.getD (Int.toNat (0 : Int)) (0 : Int)]) (1 : Nat)), ((101 : Nat), Ob.arr (nat_lit 2) true i64 [v75.getD (Int.toNat (0 : Int)) (0 : Int)] (0 : Nat)), ((98 : Nat), Ob.arr (nat_lit 2) true i64 v75 (0 : Nat)), ((50 : Nat), Ob.arr (nat_lit 2) true i64 v24 (0 : Nat)), ((18 : Nat), Ob.arr (nat_lit 81) true y81 v0 (0 : Nat)), ((1 : Nat), Ob.box (nat_lit 44) (cellsD false y44 a0)), ((38 : Nat), Ob.arr (nat_lit 175) true y175 v74 (0 : Nat)), ((114 : Nat), Ob.arr (nat_lit 94) true i64.sl v73 (0 : Nat))]) H (by kernel_rfl) fun v75 H => ?_
    refine qd tok hT [1, 3, 7, 8, 11, 87, 88] (fun v76 => St.mk [p (1 : Nat) (AV.ptr (1 : Nat) (0 : Nat)), p (3 : Nat) (AV.ptr (20 : Nat) (0 : Nat)), p (7 : Nat) (AV.os (50 : Nat) (0 : Nat)), p (8 : Nat) (M i64.sl v23), p (11 : Nat) (I v71), p (87 : Nat) (I (↑a0.2.2.length : Int)), p (88 : Nat) (I v71)] [((20 : Nat), Ob.box (nat_lit 170) [L y152 a0.1, L y141 a0.2.1.1, L Ty.str a0.2.1.2.1, L y143 a0.2.1.2.2, L y131 a0.2.2, AV.os (18 : Nat) (0 : Nat), AV.os (38 : Nat) (0 : Nat), AV.os (102 : Nat) (1 : Nat), AV.os (114 : Nat) (1 : Nat), AV.v (Value.slice none (0 : Nat) (0 : Nat))]), ((114 : Nat), Ob.arr (nat_lit 94) true i64.sl (v73 ++ [v76]) (1 : Nat)), ((113 : Nat), Ob.arr (nat_lit 94) true i64.sl [v76] (0 : Nat)), ((102 : Nat), Ob.arr (nat_lit 2) true i64 (v72 ++ [v75.getD (Int.toNat (0 : Int)) (0 : Int)]) (1 : Nat)), ((101 : Nat), Ob.arr (nat_lit 2) true i64 [v75.getD (Int.toNat (0 : Int)) (0 : Int)] (0 : Nat)), ((98 : Nat), Ob.arr (nat_lit 2) true i64 v75 (0 : Nat)), ((50 : Nat), Ob.arr (nat_lit 2) true i64 v24 (0 : Nat)), ((18 : Nat), Ob.arr (nat_lit 81) true y81 v0 (0 : Nat)), ((1 : Nat), Ob.box (nat_lit 44) (cellsD false y44 a0)), ((38 : Nat), Ob.arr (nat_lit 175) true y175 v74 (0 : Nat))]) H (by kernel_rfl) fun v76 H => ?_
    refine qb tok hT [1, 3, 7, 8, 11, 87, 88, 120, 121, 122] (St.mk [p (1 : Nat) (AV.ptr (1 : Nat) (0 : Nat)), p (3 : Nat) (AV.ptr (20 : Nat) (0 : Nat)), p (7 : Nat) (AV.os (50 : Nat) (0 : Nat)), p (8 : Nat) (M i64.sl v23), p (11 : Nat) (I v71), p (87 : Nat) (I (↑a0.2.2.length : Int)), p (88 : Nat) (I v71), p (120 : Nat) (M i64 (v23.getD v71.toNat [])), p (121 : Nat) (I (↑(List.length (v23.getD v71.toNat [])) : Int)), p (122 : Nat) (I (0 : Int))] [((20 : Nat), Ob.box (nat_lit 170) [L y152 a0.1, L y141 a0.2.1.1, L Ty.str a0.2.1.2.1, L y143 a0.2.1.2.2, L y131 a0.2.2, AV.os (18 : Nat) (0 : Nat), AV.os (38 : Nat) (0 : Nat), AV.os (102 : Nat) (1 : Nat), AV.os (114 : Nat) (1 : Nat), AV.v (Value.slice none (0 : Nat) (0 : Nat))]), ((114 : Nat), Ob.arr (nat_lit 94) true i64.sl (v73 ++ [v76]) (1 : Nat)), ((113 : Nat), Ob.arr (nat_lit 94) true i64.sl [v76] (0 : Nat)), ((102 : Nat), Ob.arr (nat_lit 2) true i64 (v72 ++ [v75.getD (Int.toNat (0 : Int)) (0 : Int)]) (1 : Nat)), ((101 : Nat), Ob.arr (nat_lit 2) true i64 [v75.getD (Int.toNat (0 : Int)) (0 : Int)] (0 : Nat)), ((98 : Nat), Ob.arr (nat_lit 2) true i64 v75 (0 : Nat)), ((50 : Nat), Ob.arr (nat_lit 2) true i64 v24 (0 : Nat)), ((18 : Nat), Ob.arr (nat_lit 81) true y81 v0 (0 : Nat)), ((1 : Nat), Ob.box (nat_lit 44) (cellsD false y44 a0)), ((38 : Nat), Ob.arr (nat_lit 175) true y175 v74 (0 : Nat))]) H (by kernel_rfl) fun H => ?_
    refine vx_block <| ?_
    refine lx (fun ((v85, v86) : Int × List Y175) => St.mk [p (1 : Nat) (AV.ptr (1 : Nat) (0 : Nat)), p (3 : Nat) (AV.ptr (20 : Nat) (0 : Nat)), p (7 : Nat) (AV.os (50 : Nat) (0 : Nat)), p (8 : Nat) (M i64.sl v23), p (11 : Nat) (I v71), p (87 : Nat) (I (↑a0.2.2.length : Int)), p (88 : Nat) (I v71), p (120 : Nat) (M i64 (v23.getD v71.toNat [])), p (121 : Nat) (I (↑(List.length (v23.getD v71.toNat [])) : Int)), p (122 : Nat) (I v85)] [((20 : Nat), Ob.box (nat_lit 170) [L y152 a0.1, L y141 a0.2.1.1, L Ty.str a0.2.1.2.1, L y143 a0.2.1.2.2, L y131 a0.2.2, AV.os (18 : Nat) (0 : Nat), AV.os (38 : Nat) (0 : Nat), AV.os (102 : Nat) (0 : Nat), AV.os (114 : Nat) (0 : Nat), AV.v (Value.slice none (0 : Nat) (0 : Nat))]), ((114 : Nat), Ob.arr (nat_lit 94) true i64.sl (v73 ++ [v76]) (0 : Nat)), ((102 : Nat), Ob.arr (nat_lit 2) true i64 (v72 ++ [v75.getD (Int.toNat (0 : Int)) (0 : Int)]) (0 : Nat)), ((50 : Nat), Ob.arr (nat_lit 2) true i64 v24 (0 : Nat)), ((18 : Nat), Ob.arr (nat_lit 81) true y81 v0 (0 : Nat)), ((1 : Nat), Ob.box (nat_lit 44) (cellsD false y44 a0)), ((38 : Nat), Ob.arr (nat_lit 175) true y175 v86 (0 : Nat))]) (0, v74) H (by kernel_rfl) fun _ g8 b8 e8 t8 ⟨v85, v86⟩ H => ?_
    refine qa tok hT [1, 3, 7, 8, 11, 87, 88, 120, 121, 122, 123] (St.mk [p (1 : Nat) (AV.ptr (1 : Nat) (0 : Nat)), p (3 : Nat) (AV.ptr (20 : Nat) (0 : Nat)), p (7 : Nat) (AV.os (50 : Nat) (0 : Nat)), p (8 : Nat) (M i64.sl v23), p (11 : Nat) (I v71), p (87 : Nat) (I (↑a0.2.2.length : Int)), p (88 : Nat) (I v71), p (120 : Nat) (M i64 (v23.getD v71.toNat [])), p (121 : Nat) (I (↑(List.length (v23.getD v71.toNat [])) : Int)), p (122 : Nat) (I v85), p (123 : Nat) (B (decide (v85 < (↑(List.length (v23.getD v71.toNat [])) : Int))))] [((20 : Nat), Ob.box (nat_lit 170) [L y152 a0.1, L y141 a0.2.1.1, L Ty.str a0.2.1.2.1, L y143 a0.2.1.2.2, L y131 a0.2.2, AV.os (18 : Nat) (0 : Nat), AV.os (38 : Nat) (0 : Nat), AV.os (102 : Nat) (0 : Nat), AV.os (114 : Nat) (0 : Nat), AV.v (Value.slice none (0 : Nat) (0 : Nat))]), ((114 : Nat), Ob.arr (nat_lit 94) true i64.sl (v73 ++ [v76]) (0 : Nat)), ((102 : Nat), Ob.arr (nat_lit 2) true i64 (v72 ++ [v75.getD (Int.toNat (0 : Int)) (0 : Int)]) (0 : Nat)), ((50 : Nat), Ob.arr (nat_lit 2) true i64 v24 (0 : Nat)), ((18 : Nat), Ob.arr (nat_lit 81) true y81 v0 (0 : Nat)), ((1 : Nat), Ob.box (nat_lit 44) (cellsD false y44 a0)), ((38 : Nat), Ob.arr (nat_lit 175) true y175 v86 (0 : Nat))]) (by kernel_rfl) ?_
    refine vx_seq <| ?_
    refine cd H (by kernel_rfl) (fun H => ?_) (fun H => ?_)
    ·refine vx_skip <| fx_seq <| ?_
     refine jn r (fun (v93 : List Y175) => St.mk [p (1 : Nat) (AV.ptr (1 : Nat) (0 : Nat)), p (3 : Nat) (AV.ptr (20 : Nat) (0 : Nat)), p (7 : Nat) (AV.os (50 : Nat) (0 : Nat)), p (8 : Nat) (M i64.sl v23), p (11 : Nat) (I v71), p (87 : Nat) (I (↑a0.2.2.length : Int)), p (88 : Nat) (I v71), p (120 : Nat) (M i64 (v23.getD v71.toNat [])), p (121 : Nat) (I (↑(List.length (v23.getD v71.toNat [])) : Int)), p (122 : Nat) (I v85)] [((20 : Nat), Ob.box (nat_lit 170) [L y152 a0.1, L y141 a0.2.1.1, L Ty.str a0.2.1.2.1, L y143 a0.2.1.2.2, L y131 a0.2.2, AV.os (18 : Nat) (0 : Nat), AV.os (38 : Nat) (0 : Nat), AV.os (102 : Nat) (0 : Nat), AV.os (114 : Nat) (0 : Nat), AV.v (Value.slice none (0 : Nat) (0 : Nat))]), ((114 : Nat), Ob.arr (nat_lit 94) true i64.sl (v73 ++ [v76]) (0 : Nat)), ((102 : Nat), Ob.arr (nat_lit 2) true i64 (v72 ++ [v75.getD (Int.toNat (0 : Int)) (0 : Int)]) (0 : Nat)), ((50 : Nat), Ob.arr (nat_lit 2) true i64 v24 (0 : Nat)), ((18 : Nat), Ob.arr (nat_lit 81) true y81 v0 (0 : Nat)), ((1 : Nat), Ob.box (nat_lit 44) (cellsD false y44 a0)), ((38 : Nat), Ob.arr (nat_lit 175) true y175 v93 (0 : Nat))]) (u49J9 v85 g8) (fun v93 H => ?_) (fun _ n9 e9 t9 => ?_)
     ·refine zb tok hT [1, 3, 7, 8, 11, 87, 88, 120, 121, 122] (St.mk [p (1 : Nat) (AV.ptr (1 : Nat) (0 : Nat)), p (3 : Nat) (AV.ptr (20 : Nat) (0 : Nat)), p (7 : Nat) (AV.os (50 : Nat) (0 : Nat)), p (8 : Nat) (M i64.sl v23), p (11 : Nat) (I v71), p (87 : Nat) (I (↑a0.2.2.length : Int)), p (88 : Nat) (I v71), p (120 : Nat) (M i64 (v23.getD v71.toNat [])), p (121 : Nat) (I (↑(List.length (v23.getD v71.toNat [])) : Int)), p (122 : Nat) (I (v85 + (1 : Int)))] [((20 : Nat), Ob.box (nat_lit 170) [L y152 a0.1, L y141 a0.2.1.1, L Ty.str a0.2.1.2.1, L y143 a0.2.1.2.2, L y131 a0.2.2, AV.os (18 : Nat) (0 : Nat), AV.os (38 : Nat) (0 : Nat), AV.os (102 : Nat) (0 : Nat), AV.os (114 : Nat) (0 : Nat), AV.v (Value.slice none (0 : Nat) (0 : Nat))]), ((114 : Nat), Ob.arr (nat_lit 94) true i64.sl (v73 ++ [v76]) (0 : Nat)), ((102 : Nat), Ob.arr (nat_lit 2) true i64 (v72 ++ [v75.getD (Int.toNat (0 : Int)) (0 : Int)]) (0 : Nat)), ((50 : Nat), Ob.arr (nat_lit 2) true i64 v24 (0 : Nat)), ((18 : Nat), Ob.arr (nat_lit 81) true y81 v0 (0 : Nat)), ((1 : Nat), Ob.box (nat_lit 44) (cellsD false y44 a0)), ((38 : Nat), Ob.arr (nat_lit 175) true y175 v93 (0 : Nat))]) H (by kernel_rfl) fun H => ?_
      exact b8 H (by kernel_rfl)
     refine vx_block <| ?_
     refine qb tok hT [1, 3, 7, 8, 11, 12, 13, 87, 88, 120, 121, 122] (St.mk [p (1 : Nat) (AV.ptr (1 : Nat) (0 : Nat)), p (3 : Nat) (AV.ptr (20 : Nat) (0 : Nat)), p (7 : Nat) (AV.os (50 : Nat) (0 : Nat)), p (8 : Nat) (M i64.sl v23), p (11 : Nat) (I v71), p (12 : Nat) (I v85), p (13 : Nat) (I (List.getD (v23.getD v71.toNat []) v85.toNat (0 : Int))), p (87 : Nat) (I (↑a0.2.2.length : Int)), p (88 : Nat) (I v71), p (120 : Nat) (M i64 (v23.getD v71.toNat [])), p (121 : Nat) (I (↑(List.length (v23.getD v71.toNat [])) : Int)), p (122 : Nat) (I v85)] [((20 : Nat), Ob.box (nat_lit 170) [L y152 a0.1, L y141 a0.2.1.1, L Ty.str a0.2.1.2.1, L y143 a0.2.1.2.2, L y131 a0.2.2, AV.os (18 : Nat) (0 : Nat), AV.os (38 : Nat) (0 : Nat), AV.os (102 : Nat) (0 : Nat), AV.os (114 : Nat) (0 : Nat), AV.v (Value.slice none (0 : Nat) (0 : Nat))]), ((114 : Nat), Ob.arr (nat_lit 94) true i64.sl (v73 ++ [v76]) (0 : Nat)), ((102 : Nat), Ob.arr (nat_lit 2) true i64 (v72 ++ [v75.getD (Int.toNat (0 : Int)) (0 : Int)]) (0 : Nat)), ((50 : Nat), Ob.arr (nat_lit 2) true i64 v24 (0 : Nat)), ((18 : Nat), Ob.arr (nat_lit 81) true y81 v0 (0 : Nat)), ((1 : Nat), Ob.box (nat_lit 44) (cellsD false y44 a0)), ((38 : Nat), Ob.arr (nat_lit 175) true y175 v86 (0 : Nat))]) H (by kernel_rfl) fun H => ?_
     refine qa tok hT [1, 3, 7, 8, 11, 12, 13, 87, 88, 120, 121, 122, 127] (St.mk [p (1 : Nat) (AV.ptr (1 : Nat) (0 : Nat)), p (3 : Nat) (AV.ptr (20 : Nat) (0 : Nat)), p (7 : Nat) (AV.os (50 : Nat) (0 : Nat)), p (8 : Nat) (M i64.sl v23), p (11 : Nat) (I v71), p (12 : Nat) (I v85), p (13 : Nat) (I (List.getD (v23.getD v71.toNat []) v85.toNat (0 : Int))), p (87 : Nat) (I (↑a0.2.2.length : Int)), p (88 : Nat) (I v71), p (120 : Nat) (M i64 (v23.getD v71.toNat [])), p (121 : Nat) (I (↑(List.length (v23.getD v71.toNat [])) : Int)), p (122 : Nat) (I v85), p (127 : Nat) (I (0 : Int))] [((20 : Nat), Ob.box (nat_lit 170) [L y152 a0.1, L y141 a0.2.1.1, L Ty.str a0.2.1.2.1, L y143 a0.2.1.2.2, L y131 a0.2.2, AV.os (18 : Nat) (0 : Nat), AV.os (38 : Nat) (0 : Nat), AV.os (102 : Nat) (0 : Nat), AV.os (114 : Nat) (0 : Nat), AV.v (Value.slice none (0 : Nat) (0 : Nat))]), ((114 : Nat), Ob.arr (nat_lit 94) true i64.sl (v73 ++ [v76]) (0 : Nat)), ((102 : Nat), Ob.arr (nat_lit 2) true i64 (v72 ++ [v75.getD (Int.toNat (0 : Int)) (0 : Int)]) (0 : Nat)), ((50 : Nat), Ob.arr (nat_lit 2) true i64 v24 (0 : Nat)), ((18 : Nat), Ob.arr (nat_lit 81) true y81 v0 (0 : Nat)), ((1 : Nat), Ob.box (nat_lit 44) (cellsD false y44 a0)), ((38 : Nat), Ob.arr (nat_lit 175) true y175 v86 (0 : Nat))]) (by kernel_rfl) ?_
     refine vx_block <| ?_
     refine lx (fun ((v89, v90) : Int × List Y175) => St.mk [p (1 : Nat) (AV.ptr (1 : Nat) (0 : Nat)), p (3 : Nat) (AV.ptr (20 : Nat) (0 : Nat)), p (7 : Nat) (AV.os (50 : Nat) (0 : Nat)), p (8 : Nat) (M i64.sl v23), p (11 : Nat) (I v71), p (12 : Nat) (I v85), p (13 : Nat) (I (List.getD (v23.getD v71.toNat []) v85.toNat (0 : Int))), p (87 : Nat) (I (↑a0.2.2.length : Int)), p (88 : Nat) (I v71), p (120 : Nat) (M i64 (v23.getD v71.toNat [])), p (121 : Nat) (I (↑(List.length (v23.getD v71.toNat [])) : Int)), p (122 : Nat) (I v85), p (127 : Nat) (I v89)] [((20 : Nat), Ob.box (nat_lit 170) [L y152 a0.1, L y141 a0.2.1.1, L Ty.str a0.2.1.2.1, L y143 a0.2.1.2.2, L y131 a0.2.2, AV.os (18 : Nat) (0 : Nat), AV.os (38 : Nat) (0 : Nat), AV.os (102 : Nat) (0 : Nat), AV.os (114 : Nat) (0 : Nat), AV.v (Value.slice none (0 : Nat) (0 : Nat))]), ((114 : Nat), Ob.arr (nat_lit 94) true i64.sl (v73 ++ [v76]) (0 : Nat)), ((102 : Nat), Ob.arr (nat_lit 2) true i64 (v72 ++ [v75.getD (Int.toNat (0 : Int)) (0 : Int)]) (0 : Nat)), ((50 : Nat), Ob.arr (nat_lit 2) true i64 v24 (0 : Nat)), ((18 : Nat), Ob.arr (nat_lit 81) true y81 v0 (0 : Nat)), ((1 : Nat), Ob.box (nat_lit 44) (cellsD false y44 a0)), ((38 : Nat), Ob.arr (nat_lit 175) true y175 v90 (0 : Nat))]) (0, v86) H (by kernel_rfl) fun _ g10 b10 e10 t10 ⟨v89, v90⟩ H => ?_
     refine qa tok hT [1, 3, 7, 8, 11, 12, 13, 87, 88, 120, 121, 122, 127, 128] (St.mk [p (1 : Nat) (AV.ptr (1 : Nat) (0 : Nat)), p (3 : Nat) (AV.ptr (20 : Nat) (0 : Nat)), p (7 : Nat) (AV.os (50 : Nat) (0 : Nat)), p (8 : Nat) (M i64.sl v23), p (11 : Nat) (I v71), p (12 : Nat) (I v85), p (13 : Nat) (I (List.getD (v23.getD v71.toNat []) v85.toNat (0 : Int))), p (87 : Nat) (I (↑a0.2.2.length : Int)), p (88 : Nat) (I v71), p (120 : Nat) (M i64 (v23.getD v71.toNat [])), p (121 : Nat) (I (↑(List.length (v23.getD v71.toNat [])) : Int)), p (122 : Nat) (I v85), p (127 : Nat) (I v89), p (128 : Nat) (B (decide (v89 < (2 : Int))))] [((20 : Nat), Ob.box (nat_lit 170) [L y152 a0.1, L y141 a0.2.1.1, L Ty.str a0.2.1.2.1, L y143 a0.2.1.2.2, L y131 a0.2.2, AV.os (18 : Nat) (0 : Nat), AV.os (38 : Nat) (0 : Nat), AV.os (102 : Nat) (0 : Nat), AV.os (114 : Nat) (0 : Nat), AV.v (Value.slice none (0 : Nat) (0 : Nat))]), ((114 : Nat), Ob.arr (nat_lit 94) true i64.sl (v73 ++ [v76]) (0 : Nat)), ((102 : Nat), Ob.arr (nat_lit 2) true i64 (v72 ++ [v75.getD (Int.toNat (0 : Int)) (0 : Int)]) (0 : Nat)), ((50 : Nat), Ob.arr (nat_lit 2) true i64 v24 (0 : Nat)), ((18 : Nat), Ob.arr (nat_lit 81) true y81 v0 (0 : Nat)), ((1 : Nat), Ob.box (nat_lit 44) (cellsD false y44 a0)), ((38 : Nat), Ob.arr (nat_lit 175) true y175 v90 (0 : Nat))]) (by kernel_rfl) ?_
     refine vx_seq <| ?_
     refine cd H (by kernel_rfl) (fun H => ?_) (fun H => ?_)
     ·refine vx_skip <| fx_seq <| vx_seq <| vx_block <| ?_
      refine qa tok hT [1, 3, 7, 8, 11, 12, 13, 14, 87, 88, 120, 121, 122, 127] (St.mk [p (1 : Nat) (AV.ptr (1 : Nat) (0 : Nat)), p (3 : Nat) (AV.ptr (20 : Nat) (0 : Nat)), p (7 : Nat) (AV.os (50 : Nat) (0 : Nat)), p (8 : Nat) (M i64.sl v23), p (11 : Nat) (I v71), p (12 : Nat) (I v85), p (13 : Nat) (I (List.getD (v23.getD v71.toNat []) v85.toNat (0 : Int))), p (14 : Nat) (I v89), p (87 : Nat) (I (↑a0.2.2.length : Int)), p (88 : Nat) (I v71), p (120 : Nat) (M i64 (v23.getD v71.toNat [])), p (121 : Nat) (I (↑(List.length (v23.getD v71.toNat [])) : Int)), p (122 : Nat) (I v85), p (127 : Nat) (I v89)] [((20 : Nat), Ob.box (nat_lit 170) [L y152 a0.1, L y141 a0.2.1.1, L Ty.str a0.2.1.2.1, L y143 a0.2.1.2.2, L y131 a0.2.2, AV.os (18 : Nat) (0 : Nat), AV.os (38 : Nat) (0 : Nat), AV.os (102 : Nat) (0 : Nat), AV.os (114 : Nat) (0 : Nat), AV.v (Value.slice none (0 : Nat) (0 : Nat))]), ((114 : Nat), Ob.arr (nat_lit 94) true i64.sl (v73 ++ [v76]) (0 : Nat)), ((102 : Nat), Ob.arr (nat_lit 2) true i64 (v72 ++ [v75.getD (Int.toNat (0 : Int)) (0 : Int)]) (0 : Nat)), ((50 : Nat), Ob.arr (nat_lit 2) true i64 v24 (0 : Nat)), ((18 : Nat), Ob.arr (nat_lit 81) true y81 v0 (0 : Nat)), ((1 : Nat), Ob.box (nat_lit 44) (cellsD false y44 a0)), ((38 : Nat), Ob.arr (nat_lit 175) true y175 v90 (0 : Nat))]) (by kernel_rfl) ?_
      refine zd tok hT [1, 3, 7, 8, 11, 12, 13, 87, 88, 120, 121, 122, 127] (fun (v91, v92) => St.mk [p (1 : Nat) (AV.ptr (1 : Nat) (0 : Nat)), p (3 : Nat) (AV.ptr (20 : Nat) (0 : Nat)), p (7 : Nat) (AV.os (50 : Nat) (0 : Nat)), p (8 : Nat) (M i64.sl v23), p (11 : Nat) (I v71), p (12 : Nat) (I v85), p (13 : Nat) (I (List.getD (v23.getD v71.toNat []) v85.toNat (0 : Int))), p (87 : Nat) (I (↑a0.2.2.length : Int)), p (88 : Nat) (I v71), p (120 : Nat) (M i64 (v23.getD v71.toNat [])), p (121 : Nat) (I (↑(List.length (v23.getD v71.toNat [])) : Int)), p (122 : Nat) (I v85), p (127 : Nat) (I v89)] [((20 : Nat), Ob.box (nat_lit 170) [L y152 a0.1, L y141 a0.2.1.1, L Ty.str a0.2.1.2.1, L y143 a0.2.1.2.2, L y131 a0.2.2, AV.os (18 : Nat) (0 : Nat), AV.os (38 : Nat) (1 : Nat), AV.os (102 : Nat) (0 : Nat), AV.os (114 : Nat) (0 : Nat), AV.v (Value.slice none (0 : Nat) (0 : Nat))]), ((38 : Nat), Ob.arr (nat_lit 175) true y175 v91 (1 : Nat)), ((148 : Nat), Ob.arr (nat_lit 175) true y175 v92 (0 : Nat)), ((114 : Nat), Ob.arr (nat_lit 94) true i64.sl (v73 ++ [v76]) (0 : Nat)), ((102 : Nat), Ob.arr (nat_lit 2) true i64 (v72 ++ [v75.getD (Int.toNat (0 : Int)) (0 : Int)]) (0 : Nat)), ((50 : Nat), Ob.arr (nat_lit 2) true i64 v24 (0 : Nat)), ((18 : Nat), Ob.arr (nat_lit 81) true y81 v0 (0 : Nat)), ((1 : Nat), Ob.box (nat_lit 44) (cellsD false y44 a0))]) H (by kernel_rfl) fun ⟨v91, v92⟩ H => ?_
      refine fx_blk <| fx_seq <| ?_
      refine zb tok hT [1, 3, 7, 8, 11, 12, 13, 87, 88, 120, 121, 122, 127] (St.mk [p (1 : Nat) (AV.ptr (1 : Nat) (0 : Nat)), p (3 : Nat) (AV.ptr (20 : Nat) (0 : Nat)), p (7 : Nat) (AV.os (50 : Nat) (0 : Nat)), p (8 : Nat) (M i64.sl v23), p (11 : Nat) (I v71), p (12 : Nat) (I v85), p (13 : Nat) (I (List.getD (v23.getD v71.toNat []) v85.toNat (0 : Int))), p (87 : Nat) (I (↑a0.2.2.length : Int)), p (88 : Nat) (I v71), p (120 : Nat) (M i64 (v23.getD v71.toNat [])), p (121 : Nat) (I (↑(List.length (v23.getD v71.toNat [])) : Int)), p (122 : Nat) (I v85), p (127 : Nat) (I (v89 + (1 : Int)))] [((20 : Nat), Ob.box (nat_lit 170) [L y152 a0.1, L y141 a0.2.1.1, L Ty.str a0.2.1.2.1, L y143 a0.2.1.2.2, L y131 a0.2.2, AV.os (18 : Nat) (0 : Nat), AV.os (38 : Nat) (1 : Nat), AV.os (102 : Nat) (0 : Nat), AV.os (114 : Nat) (0 : Nat), AV.v (Value.slice none (0 : Nat) (0 : Nat))]), ((38 : Nat), Ob.arr (nat_lit 175) true y175 v91 (1 : Nat)), ((148 : Nat), Ob.arr (nat_lit 175) true y175 v92 (0 : Nat)), ((114 : Nat), Ob.arr (nat_lit 94) true i64.sl (v73 ++ [v76]) (0 : Nat)), ((102 : Nat), Ob.arr (nat_lit 2) true i64 (v72 ++ [v75.getD (Int.toNat (0 : Int)) (0 : Int)]) (0 : Nat)), ((50 : Nat), Ob.arr (nat_lit 2) true i64 v24 (0 : Nat)), ((18 : Nat), Ob.arr (nat_lit 81) true y81 v0 (0 : Nat)), ((1 : Nat), Ob.box (nat_lit 44) (cellsD false y44 a0))]) H (by kernel_rfl) fun H => ?_
      exact b10 H (by kernel_rfl)
     exact vx_exit <| fx_seq_exit <| e10 <| fx_blk_exit rfl <| fx_blk <| n9 H (by kernel_rfl)
    exact vx_exit <| fx_seq_exit <| e8 <| fx_blk_exit rfl <| fx_blk <| n7 H (by kernel_rfl)
   exact vx_exit <| fx_seq_exit <| e6 <| fx_blk_exit rfl <| n5 H (by kernel_rfl)
  refine qa tok hT [1, 3, 7, 8, 58, 59, 60] (St.mk [p 1 (AV.ptr 1 0), p 3 (AV.ptr 20 0), p 7 (AV.os 50 0), p 8 (AV.og 54), p 58 (AV.os 18 0), p 59 (I (↑v0.length : Int)), p 60 (I 0)] [(54, Ob.grd 94 2 true i64 (List.replicate (↑a0.2.2.length : Int).toNat []) none), (50, Ob.arr 2 true i64 (List.replicate (↑a0.2.2.length : Int).toNat 0) 0), (20, Ob.box 170 [L y152 a0.1, L y141 a0.2.1.1, L Ty.str a0.2.1.2.1, L y143 a0.2.1.2.2, L y131 a0.2.2, AV.os 18 0, AV.os 38 0, AV.v (Value.slice none 0 0), AV.v (Value.slice none 0 0), AV.v (Value.slice none 0 0)]), (18, Ob.arr 81 true y81 v0 0), (1, Ob.box 44 (cellsD false y44 a0)), (38, Ob.arr 175 true y175 v10 0)]) (by kernel_rfl) ?_
  refine vx_block <| ?_
  refine lx (fun ((v16, v17, v18) : Int × List (List Int) × List Int) => St.mk [p 1 (AV.ptr 1 0), p 3 (AV.ptr 20 0), p 7 (AV.os 50 0), p 8 (AV.og 54), p 58 (AV.os 18 0), p 59 (I (↑v0.length : Int)), p 60 (I v16)] [(54, Ob.grd 94 2 true i64 v17 none), (50, Ob.arr 2 true i64 v18 0), (20, Ob.box 170 [L y152 a0.1, L y141 a0.2.1.1, L Ty.str a0.2.1.2.1, L y143 a0.2.1.2.2, L y131 a0.2.2, AV.os 18 0, AV.os 38 0, AV.v (Value.slice none 0 0), AV.v (Value.slice none 0 0), AV.v (Value.slice none 0 0)]), (18, Ob.arr 81 true y81 v0 0), (1, Ob.box 44 (cellsD false y44 a0)), (38, Ob.arr 175 true y175 v10 0)]) ((0, List.replicate (↑a0.2.2.length : Int).toNat [], List.replicate (↑a0.2.2.length : Int).toNat 0)) H (by kernel_rfl) fun _ g3 b3 e3 t3 ⟨v16, v17, v18⟩ H => ?_
  refine qa tok hT [1, 3, 7, 8, 58, 59, 60, 61] (St.mk [p 1 (AV.ptr 1 0), p 3 (AV.ptr 20 0), p 7 (AV.os 50 0), p 8 (AV.og 54), p 58 (AV.os 18 0), p 59 (I (↑v0.length : Int)), p 60 (I v16), p 61 (B (decide (v16 < (↑v0.length : Int))))] [(54, Ob.grd 94 2 true i64 v17 none), (50, Ob.arr 2 true i64 v18 0), (20, Ob.box 170 [L y152 a0.1, L y141 a0.2.1.1, L Ty.str a0.2.1.2.1, L y143 a0.2.1.2.2, L y131 a0.2.2, AV.os 18 0, AV.os 38 0, AV.v (Value.slice none 0 0), AV.v (Value.slice none 0 0), AV.v (Value.slice none 0 0)]), (18, Ob.arr 81 true y81 v0 0), (1, Ob.box 44 (cellsD false y44 a0)), (38, Ob.arr 175 true y175 v10 0)]) (by kernel_rfl) ?_
  refine vx_seq <| ?_
  refine cd H (by kernel_rfl) (fun H => ?_) (fun H => ?_)
  ·refine vx_skip <| fx_seq <| ?_
   refine jn r (fun ((v21, v22) : List Int × List (List Int)) => St.mk [p 1 (AV.ptr 1 0), p 3 (AV.ptr 20 0), p 7 (AV.os 50 0), p 8 (AV.og 54), p 58 (AV.os 18 0), p 59 (I (↑v0.length : Int)), p 60 (I v16)] [(50, Ob.arr 2 true i64 v21 0), (54, Ob.grd 94 2 true i64 v22 none), (20, Ob.box 170 [L y152 a0.1, L y141 a0.2.1.1, L Ty.str a0.2.1.2.1, L y143 a0.2.1.2.2, L y131 a0.2.2, AV.os 18 0, AV.os 38 0, AV.v (Value.slice none 0 0), AV.v (Value.slice none 0 0), AV.v (Value.slice none 0 0)]), (18, Ob.arr 81 true y81 v0 0), (1, Ob.box 44 (cellsD false y44 a0)), (38, Ob.arr 175 true y175 v10 0)]) (u49J4 v16 g3) (fun ⟨v21, v22⟩ H => ?_) (fun _ n4 e4 t4 => ?_)
   ·refine zb tok hT [1, 3, 7, 8, 58, 59, 60] (St.mk [p 1 (AV.ptr 1 0), p 3 (AV.ptr 20 0), p 7 (AV.os 50 0), p 8 (AV.og 54), p 58 (AV.os 18 0), p 59 (I (↑v0.length : Int)), p 60 (I (v16 + 1))] [(50, Ob.arr 2 true i64 v21 0), (54, Ob.grd 94 2 true i64 v22 none), (20, Ob.box 170 [L y152 a0.1, L y141 a0.2.1.1, L Ty.str a0.2.1.2.1, L y143 a0.2.1.2.2, L y131 a0.2.2, AV.os 18 0, AV.os 38 0, AV.v (Value.slice none 0 0), AV.v (Value.slice none 0 0), AV.v (Value.slice none 0 0)]), (18, Ob.arr 81 true y81 v0 0), (1, Ob.box 44 (cellsD false y44 a0)), (38, Ob.arr 175 true y175 v10 0)]) H (by kernel_rfl) fun H => ?_
    exact b3 H (by kernel_rfl)
   refine vx_block <| ?_
   refine qd tok hT [1, 3, 7, 8, 9, 10, 58, 59, 60] (fun v19 => St.mk [p 1 (AV.ptr 1 0), p 3 (AV.ptr 20 0), p 7 (AV.os 50 0), p 8 (AV.og 54), p 9 (I v16), p 10 (AV.ptr 10 0), p 58 (AV.os 18 0), p 59 (I (↑v0.length : Int)), p 60 (I v16)] [(10, Ob.box 81 (cellsD true y81 v19)), (54, Ob.grd 94 2 true i64 v17 none), (50, Ob.arr 2 true i64 v18 0), (20, Ob.box 170 [L y152 a0.1, L y141 a0.2.1.1, L Ty.str a0.2.1.2.1, L y143 a0.2.1.2.2, L y131 a0.2.2, AV.os 18 0, AV.os 38 0, AV.v (Value.slice none 0 0), AV.v (Value.slice none 0 0), AV.v (Value.slice none 0 0)]), (18, Ob.arr 81 true y81 v0 0), (1, Ob.box 44 (cellsD false y44 a0)), (38, Ob.arr 175 true y175 v10 0)]) H (by kernel_rfl) fun v19 H => ?_
   refine qa tok hT [1, 3, 7, 8, 9, 10, 58, 59, 60, 66] (St.mk [p 1 (AV.ptr 1 0), p 3 (AV.ptr 20 0), p 7 (AV.os 50 0), p 8 (AV.og 54), p 9 (I v16), p 10 (AV.ptr 10 0), p 58 (AV.os 18 0), p 59 (I (↑v0.length : Int)), p 60 (I v16), p 66 (B v19.2.2.2)] [(10, Ob.box 81 (cellsD true y81 v19)), (54, Ob.grd 94 2 true i64 v17 none), (50, Ob.arr 2 true i64 v18 0), (20, Ob.box 170 [L y152 a0.1, L y141 a0.2.1.1, L Ty.str a0.2.1.2.1, L y143 a0.2.1.2.2, L y131 a0.2.2, AV.os 18 0, AV.os 38 0, AV.v (Value.slice none 0 0), AV.v (Value.slice none 0 0), AV.v (Value.slice none 0 0)]), (18, Ob.arr 81 true y81 v0 0), (1, Ob.box 44 (cellsD false y44 a0)), (38, Ob.arr 175 true y175 v10 0)]) (by kernel_rfl) ?_
   refine cd H (by kernel_rfl) (fun H => ?_) (fun H => ?_)
   ·refine zb tok hT [1, 3, 7, 8, 58, 59, 60] (St.mk [p 1 (AV.ptr 1 0), p 3 (AV.ptr 20 0), p 7 (AV.os 50 0), p 8 (AV.og 54), p 58 (AV.os 18 0), p 59 (I (↑v0.length : Int)), p 60 (I v16)] [(50, Ob.arr 2 true i64 (v18.set v19.2.2.1.toNat v16) 0), (10, Ob.box 81 (cellsD true y81 v19)), (54, Ob.grd 94 2 true i64 v17 none), (20, Ob.box 170 [L y152 a0.1, L y141 a0.2.1.1, L Ty.str a0.2.1.2.1, L y143 a0.2.1.2.2, L y131 a0.2.2, AV.os 18 0, AV.os 38 0, AV.v (Value.slice none 0 0), AV.v (Value.slice none 0 0), AV.v (Value.slice none 0 0)]), (18, Ob.arr 81 true y81 v0 0), (1, Ob.box 44 (cellsD false y44 a0)), (38, Ob.arr 175 true y175 v10 0)]) H (by kernel_rfl) fun H => ?_
    exact fx_blk <| n4 H (by kernel_rfl)
   refine zd tok hT [1, 3, 7, 8, 58, 59, 60] (fun v20 => St.mk [p 1 (AV.ptr 1 0), p 3 (AV.ptr 20 0), p 7 (AV.os 50 0), p 8 (AV.og 54), p 58 (AV.os 18 0), p 59 (I (↑v0.length : Int)), p 60 (I v16)] [(54, Ob.grd 94 2 true i64 v20 none), (79, Ob.arr 2 true i64 [] 2), (81, Ob.arr 2 true i64 [v16] 0), (10, Ob.box 81 (cellsD true y81 v19)), (50, Ob.arr 2 true i64 v18 0), (20, Ob.box 170 [L y152 a0.1, L y141 a0.2.1.1, L Ty.str a0.2.1.2.1, L y143 a0.2.1.2.2, L y131 a0.2.2, AV.os 18 0, AV.os 38 0, AV.v (Value.slice none 0 0), AV.v (Value.slice none 0 0), AV.v (Value.slice none 0 0)]), (18, Ob.arr 81 true y81 v0 0), (1, Ob.box 44 (cellsD false y44 a0)), (38, Ob.arr 175 true y175 v10 0)]) H (by kernel_rfl) fun v20 H => ?_
   exact fx_blk <| n4 H (by kernel_rfl)
  exact vx_exit <| fx_seq_exit <| e3 <| fx_blk_exit rfl <| n2 H (by kernel_rfl)
 refine qa tok hT [1, 3, 4, 23, 24, 25] (St.mk [p 1 (AV.ptr 1 0), p 3 (AV.ptr 20 0), p 4 (I 0), p 23 (L y141 a0.2.1.1), p 24 (I (↑a0.2.1.1.length : Int)), p 25 (I 0)] [(20, Ob.box 170 [L y152 a0.1, L y141 a0.2.1.1, L Ty.str a0.2.1.2.1, L y143 a0.2.1.2.2, L y131 a0.2.2, AV.os 18 0, AV.v (Value.slice none 0 0), AV.v (Value.slice none 0 0), AV.v (Value.slice none 0 0), AV.v (Value.slice none 0 0)]), (18, Ob.arr 81 true y81 v0 0), (1, Ob.box 44 (cellsD false y44 a0))]) (by kernel_rfl) ?_
 refine vx_block <| ?_
 refine lx (fun ((v4, v5, v6) : Int × Int × List Y175) => St.mk [p 1 (AV.ptr 1 0), p 3 (AV.ptr 20 0), p 4 (I v4), p 23 (L y141 a0.2.1.1), p 24 (I (↑a0.2.1.1.length : Int)), p 25 (I v5)] [(20, Ob.box 170 [L y152 a0.1, L y141 a0.2.1.1, L Ty.str a0.2.1.2.1, L y143 a0.2.1.2.2, L y131 a0.2.2, AV.os 18 0, AV.os 38 0, AV.v (Value.slice none 0 0), AV.v (Value.slice none 0 0), AV.v (Value.slice none 0 0)]), (18, Ob.arr 81 true y81 v0 0), (1, Ob.box 44 (cellsD false y44 a0)), (38, Ob.arr 175 true y175 v6 0)]) (0, 0, []) H (by kernel_rfl) fun _ g1 b1 e1 t1 ⟨v4, v5, v6⟩ H => ?_
 refine qa tok hT [1, 3, 4, 23, 24, 25, 26] (St.mk [p 1 (AV.ptr 1 0), p 3 (AV.ptr 20 0), p 4 (I v4), p 23 (L y141 a0.2.1.1), p 24 (I (↑a0.2.1.1.length : Int)), p 25 (I v5), p 26 (B (decide (v5 < (↑a0.2.1.1.length : Int))))] [(20, Ob.box 170 [L y152 a0.1, L y141 a0.2.1.1, L Ty.str a0.2.1.2.1, L y143 a0.2.1.2.2, L y131 a0.2.2, AV.os 18 0, AV.os 38 0, AV.v (Value.slice none 0 0), AV.v (Value.slice none 0 0), AV.v (Value.slice none 0 0)]), (18, Ob.arr 81 true y81 v0 0), (1, Ob.box 44 (cellsD false y44 a0)), (38, Ob.arr 175 true y175 v6 0)]) (by kernel_rfl) ?_
 refine vx_seq <| ?_
 refine cd H (by kernel_rfl) (fun H => ?_) (fun H => ?_)
 ·refine vx_skip <| fx_seq <| vx_seq <| vx_block <| ?_
  refine qd tok hT [1, 3, 4, 6, 23, 24, 25] (fun v7 => St.mk [p 1 (AV.ptr 1 0), p 3 (AV.ptr 20 0), p 4 (I v4), p 6 (AV.ptr 6 0), p 23 (L y141 a0.2.1.1), p 24 (I (↑a0.2.1.1.length : Int)), p 25 (I v5)] [(6, Ob.box 141 (cellsD false y141 v7)), (20, Ob.box 170 [L y152 a0.1, L y141 a0.2.1.1, L Ty.str a0.2.1.2.1, L y143 a0.2.1.2.2, L y131 a0.2.2, AV.os 18 0, AV.os 38 0, AV.v (Value.slice none 0 0), AV.v (Value.slice none 0 0), AV.v (Value.slice none 0 0)]), (18, Ob.arr 81 true y81 v0 0), (1, Ob.box 44 (cellsD false y44 a0)), (38, Ob.arr 175 true y175 v6 0)]) H (by kernel_rfl) fun v7 H => ?_
  refine qd tok hT [1, 3, 4, 6, 23, 24, 25] (fun v8 => St.mk [p 1 (AV.ptr 1 0), p 3 (AV.ptr 20 0), p 4 (I v4), p 6 (AV.ptr 6 0), p 23 (L y141 a0.2.1.1), p 24 (I (↑a0.2.1.1.length : Int)), p 25 (I v5)] [(20, Ob.box 170 [L y152 a0.1, L y141 a0.2.1.1, L Ty.str a0.2.1.2.1, L y143 a0.2.1.2.2, L y131 a0.2.2, AV.os 18 0, AV.os 38 1, AV.v (Value.slice none 0 0), AV.v (Value.slice none 0 0), AV.v (Value.slice none 0 0)]), (38, Ob.arr 175 true y175 (v6 ++ v8) 1), (37, Ob.arr 175 true y175 v8 0), (6, Ob.box 141 (cellsD false y141 v7)), (18, Ob.arr 81 true y81 v0 0), (1, Ob.box 44 (cellsD false y44 a0))]) H (by kernel_rfl) fun v8 H => ?_
  refine zd tok hT [1, 3, 4, 23, 24, 25] (fun v9 => St.mk [p 1 (AV.ptr 1 0), p 3 (AV.ptr 20 0), p 4 (I (v4 + v9)), p 23 (L y141 a0.2.1.1), p 24 (I (↑a0.2.1.1.length : Int)), p 25 (I v5)] [(20, Ob.box 170 [L y152 a0.1, L y141 a0.2.1.1, L Ty.str a0.2.1.2.1, L y143 a0.2.1.2.2, L y131 a0.2.2, AV.os 18 0, AV.os 38 1, AV.v (Value.slice none 0 0), AV.v (Value.slice none 0 0), AV.v (Value.slice none 0 0)]), (38, Ob.arr 175 true y175 (v6 ++ v8) 1), (37, Ob.arr 175 true y175 v8 0), (6, Ob.box 141 (cellsD false y141 v7)), (18, Ob.arr 81 true y81 v0 0), (1, Ob.box 44 (cellsD false y44 a0))]) H (by kernel_rfl) fun v9 H => ?_
  refine fx_blk <| fx_seq <| ?_
  refine zb tok hT [1, 3, 4, 23, 24, 25] (St.mk [p 1 (AV.ptr 1 0), p 3 (AV.ptr 20 0), p 4 (I (v4 + v9)), p 23 (L y141 a0.2.1.1), p 24 (I (↑a0.2.1.1.length : Int)), p 25 (I (v5 + 1))] [(20, Ob.box 170 [L y152 a0.1, L y141 a0.2.1.1, L Ty.str a0.2.1.2.1, L y143 a0.2.1.2.2, L y131 a0.2.2, AV.os 18 0, AV.os 38 1, AV.v (Value.slice none 0 0), AV.v (Value.slice none 0 0), AV.v (Value.slice none 0 0)]), (38, Ob.arr 175 true y175 (v6 ++ v8) 1), (37, Ob.arr 175 true y175 v8 0), (6, Ob.box 141 (cellsD false y141 v7)), (18, Ob.arr 81 true y81 v0 0), (1, Ob.box 44 (cellsD false y44 a0))]) H (by kernel_rfl) fun H => ?_
  exact b1 H (by kernel_rfl)
 exact vx_exit <| fx_seq_exit <| e1 <| fx_blk_exit rfl <| n0 H (by kernel_rfl)
def u16 (a0 : Y44) (a1 : Int) : Option (ByteArray) :=
 gd ((u35 a0).isSome = true ∧ True) <| 
 if (!vl (u35 a0)) = true then
  some (ByteArray.mk #[])
 else
  gd ((u49 a0).isSome = true ∧ True) <| lt (vl (u49 a0)) fun v0 =>
  gd ((u50 v0 a1).isSome = true ∧ True) <| 
  if (!vl (u50 v0 a1)) = true then
   some (ByteArray.mk #[])
  else
   gd ((u51 v0 a1).isSome = true ∧ True) <| lt (vl (u51 v0 a1)) fun v1 =>
   some v1
def k16 : Ct := lct 16 [.agg y44, .dat i64] (fun x => u16 x.1 x.2.1) (fun r : ByteArray => S r) (fun _ => ())
theorem o16 : Ok Tryz.prog k16 := by
 refine okl tok [.tmp 4] Tryz.func16 Tryz.ntmps16 rfl Tryz.results16 (by kernel_rfl) rfl ?_
 intro y ⟨a0, a1, _⟩ r H Q hn hr
 have hT := tc o51 (tc o50 (tc o49 (tc o35 tn)))
 refine qa tok hT [1, 2] (St.mk [p 1 (J a1), p 2 (AV.ptr 2 0)] [(2, Ob.box 44 (cellsD false y44 a0))]) (by kernel_rfl) ?_
 refine vx_seq <| ?_
 refine qb tok hT [1, 2, 8] (St.mk [p 1 (J a1), p 2 (AV.ptr 2 0), p 8 (B !vl (u35 a0))] [(2, Ob.box 44 (cellsD false y44 a0))]) H (by kernel_rfl) fun H => ?_
 refine cd H (by kernel_rfl) (fun H => ?_) (fun H => ?_)
 ·refine qa tok hT [4] (St.mk [p 4 (S (ByteArray.mk #[]))] [(2, Ob.box 44 (cellsD false y44 a0))]) (by kernel_rfl) ?_
  exact vx_ret <| fx_seq_ret <| hr H (by kernel_rfl)
 refine vx_skip <| fx_seq <| ?_
 refine qd tok hT [1, 5] (fun v0 => St.mk [p 1 (J a1), p 5 (D y170.pt v0)] [(2, Ob.box 44 (cellsD false y44 a0))]) H (by kernel_rfl) fun v0 H => ?_
 refine vx_seq <| ?_
 refine qb tok hT [1, 5, 14] (St.mk [p 1 (J a1), p 5 (D y170.pt v0), p 14 (B !vl (u50 v0 a1))] [(2, Ob.box 44 (cellsD false y44 a0))]) H (by kernel_rfl) fun H => ?_
 refine cd H (by kernel_rfl) (fun H => ?_) (fun H => ?_)
 ·refine qa tok hT [4] (St.mk [p 4 (S (ByteArray.mk #[]))] [(2, Ob.box 44 (cellsD false y44 a0))]) (by kernel_rfl) ?_
  exact vx_ret <| fx_seq_ret <| hr H (by kernel_rfl)
 refine vx_skip <| fx_seq <| ?_
 refine qd tok hT [4] (fun v1 => St.mk [p 4 (S v1)] [(2, Ob.box 44 (cellsD false y44 a0))]) H (by kernel_rfl) fun v1 H => ?_
 exact vx_ret <| hr H (by kernel_rfl)
def u94 (a0 : List Y152) (a1 : Y41) (a2 : Y163) : Option (ByteArray) :=
 if (decide (a2.1 < 0)) = true then
  gd (ix a2.2.1 a1.2.2.length ∧ True) <| lt (a1.2.2.getD a2.2.1.toNat (dflt y143)) fun v0 =>
  some v0.1
 else
  gd (ix a2.1 a1.1.length ∧ True) <| lt (a1.1.getD a2.1.toNat (dflt y141)) fun v1 =>
  gd (v1.1.size + (ByteArray.mk #[47]).size ≤ 9223372036854775807 ∧ ix v1.2.1 a0.length ∧ ix a2.2.1 (a0.getD v1.2.1.toNat (dflt y152)).2.2.1.length ∧ (v1.1 ++ ByteArray.mk #[47]).size + ((a0.getD v1.2.1.toNat (dflt y152)).2.2.1.getD a2.2.1.toNat (dflt y212)).1.size ≤ 9223372036854775807 ∧ True) <| lt (v1.1 ++ ByteArray.mk #[47] ++ ((a0.getD v1.2.1.toNat (dflt y152)).2.2.1.getD a2.2.1.toNat (dflt y212)).1) fun v2 =>
  some v2
def k94 : Ct := lct 94 [.agg y152.sl, .agg y41, .agg y163] (fun x => u94 x.1 x.2.1 x.2.2.1) (fun r : ByteArray => S r) (fun _ => ())
theorem o94 : Ok Tryz.prog k94 := by
 refine okl tok [.tmp 6] Tryz.func94 Tryz.ntmps94 rfl Tryz.results94 (by kernel_rfl) rfl ?_
 intro y ⟨a0, a1, a2, _⟩ r H Q hn hr
 have hT := @tn Tryz.prog
 refine qa tok hT [3, 4, 5] (St.mk [p 3 (AV.ptr 3 0), p 4 (AV.ptr 4 0), p 5 (AV.ptr 5 0)] [(5, Ob.box 163 (cellsD false y163 a2)), (4, Ob.box 41 (cellsD false y41 a1)), (3, Ob.box 37 [L y152 a0])]) (by kernel_rfl) ?_
 refine vx_seq <| ?_
 refine qa tok hT [3, 4, 5, 10] (St.mk [p 3 (AV.ptr 3 0), p 4 (AV.ptr 4 0), p 5 (AV.ptr 5 0), p 10 (B (decide (a2.1 < 0)))] [(5, Ob.box 163 (cellsD false y163 a2)), (4, Ob.box 41 (cellsD false y41 a1)), (3, Ob.box 37 [L y152 a0])]) (by kernel_rfl) ?_
 refine cd H (by kernel_rfl) (fun H => ?_) (fun H => ?_)
 ·refine qd tok hT [6] (fun v0 => St.mk [p 6 (U v0.1)] [(5, Ob.box 163 (cellsD false y163 a2)), (4, Ob.box 41 (cellsD false y41 a1)), (3, Ob.box 37 [L y152 a0])]) H (by kernel_rfl) fun v0 H => ?_
  exact vx_ret <| fx_seq_ret <| hr H (by kernel_rfl)
 refine vx_skip <| fx_seq <| ?_
 refine qd tok hT [3, 5, 7] (fun v1 => St.mk [p 3 (AV.ptr 3 0), p 5 (AV.ptr 5 0), p 7 (AV.ptr 7 0)] [(7, Ob.box 141 (cellsD false y141 v1)), (5, Ob.box 163 (cellsD false y163 a2)), (4, Ob.box 41 (cellsD false y41 a1)), (3, Ob.box 37 [L y152 a0])]) H (by kernel_rfl) fun v1 H => ?_
 refine qd tok hT [6] (fun v2 => St.mk [p 6 (S v2)] [(7, Ob.box 141 (cellsD false y141 v1)), (5, Ob.box 163 (cellsD false y163 a2)), (4, Ob.box 41 (cellsD false y41 a1)), (3, Ob.box 37 [L y152 a0])]) H (by kernel_rfl) fun v2 H => ?_
 exact vx_ret <| hr H (by kernel_rfl)
def u93 (a0 : List Y152) (a1 : Y41) (a2 : Int) : Option (Y163 × Bool) :=
 gd ((u69 a0 a1).isSome = true ∧ True) <| 
 if (!vl (u69 a0 a1)) = true then
  some ((((0 : Int), (0 : Int), (0 : Int), false), false))
 else
  gd ((u72 a1).isSome = true ∧ True) <| lt (vl (u72 a1)) fun v0 =>
  gd (in64 ((↑v0.length : Int) - 1) ∧ (u42 a2 0 ((↑v0.length : Int) - 1)).isSome = true ∧ True) <| 
  if (!vl (u42 a2 0 ((↑v0.length : Int) - 1))) = true then
   some ((((0 : Int), (0 : Int), (0 : Int), false), false))
  else
   gd (ix a2 v0.length ∧ a2.toNat < v0.length ∧ True) <| lt (v0.getD a2.toNat (dflt y163)) fun v1 =>
   some (v1, true)
def k93 : Ct := lct 93 [.agg y152.sl, .agg y41, .dat i64] (fun x => u93 x.1 x.2.1 x.2.2.1) (fun r : Y163 × Bool => AV.tup [AV.agg [I r.1.1, I r.1.2.1, I r.1.2.2.1, B r.1.2.2.2], B r.2]) (fun _ => ())
theorem o93 : Ok Tryz.prog k93 := by
 refine okl tok [.cell 6 163, .tmp 7] Tryz.func93 Tryz.ntmps93 rfl Tryz.results93 (by kernel_rfl) rfl ?_
 intro y ⟨a0, a1, a2, _⟩ r H Q hn hr
 have hT := tc o42 (tc o72 (tc o69 tn))
 refine qa tok hT [2, 3, 4, 6] (St.mk [p 2 (J a2), p 3 (AV.ptr 3 0), p 4 (AV.ptr 4 0), p 6 (AV.ptr 6 0)] [(6, Ob.box 163 [I 0, I 0, I 0, B false]), (4, Ob.box 41 (cellsD false y41 a1)), (3, Ob.box 37 [L y152 a0])]) (by kernel_rfl) ?_
 refine vx_seq <| ?_
 refine qb tok hT [2, 4, 6, 12] (St.mk [p 2 (J a2), p 4 (AV.ptr 4 0), p 6 (AV.ptr 6 0), p 12 (B !vl (u69 a0 a1))] [(6, Ob.box 163 [I 0, I 0, I 0, B false]), (4, Ob.box 41 (cellsD false y41 a1)), (3, Ob.box 37 [L y152 a0])]) H (by kernel_rfl) fun H => ?_
 refine cd H (by kernel_rfl) (fun H => ?_) (fun H => ?_)
 ·refine qa tok hT [6, 7] (St.mk [p 6 (AV.ptr 6 0), p 7 (B false)] [(6, Ob.box 163 [I 0, I 0, I 0, B false]), (4, Ob.box 41 (cellsD false y41 a1)), (3, Ob.box 37 [L y152 a0])]) (by kernel_rfl) ?_
  exact vx_ret <| fx_seq_ret <| hr H (by kernel_rfl)
 refine vx_skip <| fx_seq <| ?_
 refine qd tok hT [2, 6, 8] (fun v0 => St.mk [p 2 (J a2), p 6 (AV.ptr 6 0), p 8 (AV.os 15 0)] [(15, Ob.arr 163 true y163 v0 0), (6, Ob.box 163 [I 0, I 0, I 0, B false]), (4, Ob.box 41 (cellsD false y41 a1)), (3, Ob.box 37 [L y152 a0])]) H (by kernel_rfl) fun v0 H => ?_
 refine vx_seq <| ?_
 refine qb tok hT [2, 6, 8, 21] (St.mk [p 2 (J a2), p 6 (AV.ptr 6 0), p 8 (AV.os 15 0), p 21 (B !vl (u42 a2 0 ((↑v0.length : Int) - 1)))] [(15, Ob.arr 163 true y163 v0 0), (6, Ob.box 163 [I 0, I 0, I 0, B false]), (4, Ob.box 41 (cellsD false y41 a1)), (3, Ob.box 37 [L y152 a0])]) H (by kernel_rfl) fun H => ?_
 refine cd H (by kernel_rfl) (fun H => ?_) (fun H => ?_)
 ·refine qa tok hT [6, 7] (St.mk [p 6 (AV.ptr 6 0), p 7 (B false)] [(6, Ob.box 163 [I 0, I 0, I 0, B false]), (15, Ob.arr 163 true y163 v0 0), (4, Ob.box 41 (cellsD false y41 a1)), (3, Ob.box 37 [L y152 a0])]) (by kernel_rfl) ?_
  exact vx_ret <| fx_seq_ret <| hr H (by kernel_rfl)
 refine vx_skip <| fx_seq <| ?_
 refine qd tok hT [6, 7] (fun v1 => St.mk [p 6 (AV.ptr 6 0), p 7 (B true)] [(6, Ob.box 163 (cellsD true y163 v1)), (15, Ob.arr 163 true y163 v0 0), (4, Ob.box 41 (cellsD false y41 a1)), (3, Ob.box 37 [L y152 a0])]) H (by kernel_rfl) fun v1 H => ?_
 exact vx_ret <| hr H (by kernel_rfl)
def u48 (a0 : List Y152) (a1 : Y41) (a2 : Int) : Option (ByteArray) :=
 gd ((u93 a0 a1 a2).isSome = true ∧ True) <| lt (vl (u93 a0 a1 a2)) fun v0 =>
 if (!v0.2) = true then
  some (ByteArray.mk #[])
 else
  gd ((u94 a0 a1 v0.1).isSome = true ∧ True) <| lt (vl (u94 a0 a1 v0.1)) fun v1 =>
  some v1
def k48 : Ct := lct 48 [.agg y152.sl, .agg y41, .dat i64] (fun x => u48 x.1 x.2.1 x.2.2.1) (fun r : ByteArray => S r) (fun _ => ())
theorem o48 : Ok Tryz.prog k48 := by
 refine okl tok [.tmp 6] Tryz.func48 Tryz.ntmps48 rfl Tryz.results48 (by kernel_rfl) rfl ?_
 intro y ⟨a0, a1, a2, _⟩ r H Q hn hr
 have hT := tc o94 (tc o93 tn)
 refine qa tok hT [2, 3, 4] (St.mk [p 2 (J a2), p 3 (AV.ptr 3 0), p 4 (AV.ptr 4 0)] [(4, Ob.box 41 (cellsD false y41 a1)), (3, Ob.box 37 [L y152 a0])]) (by kernel_rfl) ?_
 refine qd tok hT [3, 4, 7, 8] (fun v0 => St.mk [p 3 (AV.ptr 3 0), p 4 (AV.ptr 4 0), p 7 (AV.ptr 7 0), p 8 (B v0.2)] [(7, Ob.box 163 (cellsD true y163 v0.1)), (4, Ob.box 41 (cellsD false y41 a1)), (3, Ob.box 37 [L y152 a0])]) H (by kernel_rfl) fun v0 H => ?_
 refine vx_seq <| ?_
 refine qa tok hT [3, 4, 7, 17] (St.mk [p 3 (AV.ptr 3 0), p 4 (AV.ptr 4 0), p 7 (AV.ptr 7 0), p 17 (B !v0.2)] [(7, Ob.box 163 (cellsD true y163 v0.1)), (4, Ob.box 41 (cellsD false y41 a1)), (3, Ob.box 37 [L y152 a0])]) (by kernel_rfl) ?_
 refine cd H (by kernel_rfl) (fun H => ?_) (fun H => ?_)
 ·refine qa tok hT [6] (St.mk [p 6 (S (ByteArray.mk #[]))] [(7, Ob.box 163 (cellsD true y163 v0.1)), (4, Ob.box 41 (cellsD false y41 a1)), (3, Ob.box 37 [L y152 a0])]) (by kernel_rfl) ?_
  exact vx_ret <| fx_seq_ret <| hr H (by kernel_rfl)
 refine vx_skip <| fx_seq <| ?_
 refine qd tok hT [6] (fun v1 => St.mk [p 6 (S v1)] [(7, Ob.box 163 (cellsD true y163 v0.1)), (4, Ob.box 41 (cellsD false y41 a1)), (3, Ob.box 37 [L y152 a0])]) H (by kernel_rfl) fun v1 H => ?_
 exact vx_ret <| hr H (by kernel_rfl)
def u15 (a0 : Y44) (a1 : Int) : Option (ByteArray) :=
 gd ((u30 a0).isSome = true ∧ ((!vl (u30 a0)) = false ∧ True → (u31 a0).isSome = true) ∧ ((!vl (u30 a0)) = false ∧ True → in64 (vl (u31 a0) - 1)) ∧ ((!vl (u30 a0)) = false ∧ True → (u42 a1 0 (vl (u31 a0) - 1)).isSome = true) ∧ True) <| 
 if (!vl (u30 a0) || !vl (u42 a1 0 (vl (u31 a0) - 1))) = true then
  some (ByteArray.mk #[])
 else
  gd ((0 : Int) < (2 : Int) ∧ (u48 a0.1 a0.2.1 (a1.tdiv (2 : Int))).isSome = true ∧ (0 : Int) < (2 : Int) ∧ ix (a1.tmod (2 : Int)) [ByteArray.mk #[(58 : UInt8), (114 : UInt8)], ByteArray.mk #[(58 : UInt8), (102 : UInt8)]].length ∧ (a1.tmod (2 : Int)).toNat < [ByteArray.mk #[(58 : UInt8), (114 : UInt8)], ByteArray.mk #[(58 : UInt8), (102 : UInt8)]].length ∧ (vl (u48 a0.1 a0.2.1 (a1.tdiv (2 : Int)))).size + ByteArray.size ([ByteArray.mk #[(58 : UInt8), (114 : UInt8)], ByteArray.mk #[(58 : UInt8), (102 : UInt8)]].getD (a1.tmod (2 : Int)).toNat (dflt Ty.str)) ≤ (9223372036854775807 : Nat) ∧ True) <| lt ((vl (u48 a0.1 a0.2.1 (a1.tdiv 2)), vl (u48 a0.1 a0.2.1 (a1.tdiv 2)) ++ [ByteArray.mk #[58, 114], ByteArray.mk #[58, 102]].getD (a1.tmod 2).toNat (dflt Ty.str))) fun (v0, v1) =>
  some v1
def k15 : Ct := lct 15 [.agg y44, .dat i64] (fun x => u15 x.1 x.2.1) (fun r : ByteArray => S r) (fun _ => ())
theorem o15 : Ok Tryz.prog k15 := by
 refine okl tok [.tmp 4] Tryz.func15 Tryz.ntmps15 rfl Tryz.results15 (by kernel_rfl) rfl ?_
 intro y ⟨a0, a1, _⟩ r H Q hn hr
 have hT := tc o48 (tc o42 (tc o31 (tc o30 tn)))
 refine qa tok hT [1, 2] (St.mk [p 1 (J a1), p 2 (AV.ptr 2 0)] [(2, Ob.box 44 (cellsD false y44 a0))]) (by kernel_rfl) ?_
 refine vx_seq <| ?_
 refine qb tok hT [1, 2, 15] (St.mk [p 1 (J a1), p 2 (AV.ptr 2 0), p 15 (B (!vl (u30 a0) || !vl (u42 a1 0 (vl (u31 a0) - 1))))] [(2, Ob.box 44 (cellsD false y44 a0))]) H (by kernel_rfl) fun H => ?_
 refine cd H (by kernel_rfl) (fun H => ?_) (fun H => ?_)
 ·refine qa tok hT [4] (St.mk [p 4 (S (ByteArray.mk #[]))] [(2, Ob.box 44 (cellsD false y44 a0))]) (by kernel_rfl) ?_
  exact vx_ret <| fx_seq_ret <| hr H (by kernel_rfl)
 refine vx_skip <| fx_seq <| ?_
 refine qd tok hT [4] (fun (v0, v1) => St.mk [p 4 (S v1)] [(23, Ob.arr 9 true Ty.str [ByteArray.mk #[58, 114], ByteArray.mk #[58, 102]] 0), (2, Ob.box 44 (cellsD false y44 a0))]) H (by kernel_rfl) fun ⟨v0, v1⟩ H => ?_
 exact vx_ret <| hr H (by kernel_rfl)
def u5 (a0 : Y32) (a1 : Int) : Option (Bool) :=
 gd ((u8 a0 1048576).isSome = true ∧ True) <| lt (vl (u8 a0 1048576)) fun v0 =>
 if (decide (v0 < 0)) = true then
  some true
 else
  gd ((u10 a0).isSome = true ∧ (u15 (vl (u10 a0)) a1).isSome = true ∧ True) <| lt ((vl (u15 (vl (u10 a0)) a1), vl (u10 a0))) fun (v1, v2) =>
  gd ((u10 a0).isSome = true ∧ True) <| lt (vl (u10 a0)) fun v3 =>
  gd ((u16 v3 a1).isSome = true ∧ True) <| lt (vl (u16 v3 a1)) fun v4 =>
  if (!decide (v4 = v1)) = true then
   some false
  else
   gd ((u10 a0).isSome = true ∧ (u12 v3 (vl (u10 a0))).isSome = true ∧ True) <| lt (vl (u10 a0)) fun v5 =>
   if (!vl (u12 v3 v5)) = true then
    some false
   else
    some true
def k5 : Ct := lct 5 [.agg y32, .dat i64] (fun x => u5 x.1 x.2.1) (fun r : Bool => B r) (fun _ => ())
theorem o5 : Ok Tryz.prog k5 := by
 refine okl tok [.tmp 4] Tryz.func5 Tryz.ntmps5 rfl Tryz.results5 (by kernel_rfl) rfl ?_
 intro y ⟨a0, a1, _⟩ r H Q hn hr
 have hT := tc o12 (tc o10 (tc o16 (tc o15 (tc o8 tn))))
 refine qa tok hT [1, 2] (St.mk [p 1 (J a1), p 2 (AV.ptr 2 0)] [(2, Ob.box 32 (cellsD false y32 a0))]) (by kernel_rfl) ?_
 refine qa tok hT [1, 2, 5] (St.mk [p 1 (J a1), p 2 (AV.ptr 2 0), p 5 (I 1048576)] [(2, Ob.box 32 (cellsD false y32 a0))]) (by kernel_rfl) ?_
 refine qd tok hT [1, 2, 5] (fun v0 => St.mk [p 1 (J a1), p 2 (AV.ptr 2 0), p 5 (I v0)] [(2, Ob.box 32 (cellsD false y32 a0))]) H (by kernel_rfl) fun v0 H => ?_
 refine vx_seq <| ?_
 refine qa tok hT [1, 2, 13] (St.mk [p 1 (J a1), p 2 (AV.ptr 2 0), p 13 (B (decide (v0 < 0)))] [(2, Ob.box 32 (cellsD false y32 a0))]) (by kernel_rfl) ?_
 refine cd H (by kernel_rfl) (fun H => ?_) (fun H => ?_)
 ·refine qa tok hT [4] (St.mk [p 4 (B true)] [(2, Ob.box 32 (cellsD false y32 a0))]) (by kernel_rfl) ?_
  exact vx_ret <| fx_seq_ret <| hr H (by kernel_rfl)
 refine vx_skip <| fx_seq <| ?_
 refine qd tok hT [1, 2, 6] (fun (v1, v2) => St.mk [p 1 (J a1), p 2 (AV.ptr 2 0), p 6 (S v1)] [(4015, Ob.arr 131 true y131 v2.2.2 0), (3015, Ob.arr 143 true y143 v2.2.1.2.2 0), (2015, Ob.arr 9 true Ty.str v2.2.1.2.1 0), (1015, Ob.arr 141 true y141 v2.2.1.1 0), (15, Ob.arr 152 true y152 v2.1 0), (2, Ob.box 32 (cellsD false y32 a0))]) H (by kernel_rfl) fun ⟨v1, v2⟩ H => ?_
 refine qd tok hT [1, 2, 6, 7] (fun v3 => St.mk [p 1 (J a1), p 2 (AV.ptr 2 0), p 6 (S v1), p 7 (AV.ptr 7 0)] [(7, Ob.box 44 [AV.os 19 0, AV.os 1019 0, AV.os 2019 0, AV.os 3019 0, AV.os 4019 0]), (4019, Ob.arr 131 true y131 v3.2.2 0), (3019, Ob.arr 143 true y143 v3.2.1.2.2 0), (2019, Ob.arr 9 true Ty.str v3.2.1.2.1 0), (1019, Ob.arr 141 true y141 v3.2.1.1 0), (19, Ob.arr 152 true y152 v3.1 0), (4015, Ob.arr 131 true y131 v2.2.2 0), (3015, Ob.arr 143 true y143 v2.2.1.2.2 0), (2015, Ob.arr 9 true Ty.str v2.2.1.2.1 0), (1015, Ob.arr 141 true y141 v2.2.1.1 0), (15, Ob.arr 152 true y152 v2.1 0), (2, Ob.box 32 (cellsD false y32 a0))]) H (by kernel_rfl) fun v3 H => ?_
 refine qd tok hT [2, 6, 7, 8] (fun v4 => St.mk [p 2 (AV.ptr 2 0), p 6 (S v1), p 7 (AV.ptr 7 0), p 8 (S v4)] [(7, Ob.box 44 [AV.os 19 0, AV.os 1019 0, AV.os 2019 0, AV.os 3019 0, AV.os 4019 0]), (4019, Ob.arr 131 true y131 v3.2.2 0), (3019, Ob.arr 143 true y143 v3.2.1.2.2 0), (2019, Ob.arr 9 true Ty.str v3.2.1.2.1 0), (1019, Ob.arr 141 true y141 v3.2.1.1 0), (19, Ob.arr 152 true y152 v3.1 0), (4015, Ob.arr 131 true y131 v2.2.2 0), (3015, Ob.arr 143 true y143 v2.2.1.2.2 0), (2015, Ob.arr 9 true Ty.str v2.2.1.2.1 0), (1015, Ob.arr 141 true y141 v2.2.1.1 0), (15, Ob.arr 152 true y152 v2.1 0), (2, Ob.box 32 (cellsD false y32 a0))]) H (by kernel_rfl) fun v4 H => ?_
 refine vx_seq <| ?_
 refine qa tok hT [2, 7, 25] (St.mk [p 2 (AV.ptr 2 0), p 7 (AV.ptr 7 0), p 25 (B !decide (v4 = v1))] [(7, Ob.box 44 [AV.os 19 0, AV.os 1019 0, AV.os 2019 0, AV.os 3019 0, AV.os 4019 0]), (4019, Ob.arr 131 true y131 v3.2.2 0), (3019, Ob.arr 143 true y143 v3.2.1.2.2 0), (2019, Ob.arr 9 true Ty.str v3.2.1.2.1 0), (1019, Ob.arr 141 true y141 v3.2.1.1 0), (19, Ob.arr 152 true y152 v3.1 0), (4015, Ob.arr 131 true y131 v2.2.2 0), (3015, Ob.arr 143 true y143 v2.2.1.2.2 0), (2015, Ob.arr 9 true Ty.str v2.2.1.2.1 0), (1015, Ob.arr 141 true y141 v2.2.1.1 0), (15, Ob.arr 152 true y152 v2.1 0), (2, Ob.box 32 (cellsD false y32 a0))]) (by kernel_rfl) ?_
 refine cd H (by kernel_rfl) (fun H => ?_) (fun H => ?_)
 ·refine qa tok hT [4] (St.mk [p 4 (B false)] [(7, Ob.box 44 [AV.os 19 0, AV.os 1019 0, AV.os 2019 0, AV.os 3019 0, AV.os 4019 0]), (4019, Ob.arr 131 true y131 v3.2.2 0), (3019, Ob.arr 143 true y143 v3.2.1.2.2 0), (2019, Ob.arr 9 true Ty.str v3.2.1.2.1 0), (1019, Ob.arr 141 true y141 v3.2.1.1 0), (19, Ob.arr 152 true y152 v3.1 0), (4015, Ob.arr 131 true y131 v2.2.2 0), (3015, Ob.arr 143 true y143 v2.2.1.2.2 0), (2015, Ob.arr 9 true Ty.str v2.2.1.2.1 0), (1015, Ob.arr 141 true y141 v2.2.1.1 0), (15, Ob.arr 152 true y152 v2.1 0), (2, Ob.box 32 (cellsD false y32 a0))]) (by kernel_rfl) ?_
  exact vx_ret <| fx_seq_ret <| hr H (by kernel_rfl)
 refine vx_skip <| fx_seq <| vx_seq <| ?_
 refine qd tok hT [30] (fun v5 => St.mk [p 30 (B !vl (u12 v3 v5))] [(4028, Ob.arr 131 true y131 v5.2.2 0), (3028, Ob.arr 143 true y143 v5.2.1.2.2 0), (2028, Ob.arr 9 true Ty.str v5.2.1.2.1 0), (1028, Ob.arr 141 true y141 v5.2.1.1 0), (28, Ob.arr 152 true y152 v5.1 0), (7, Ob.box 44 [AV.os 19 0, AV.os 1019 0, AV.os 2019 0, AV.os 3019 0, AV.os 4019 0]), (4019, Ob.arr 131 true y131 v3.2.2 0), (3019, Ob.arr 143 true y143 v3.2.1.2.2 0), (2019, Ob.arr 9 true Ty.str v3.2.1.2.1 0), (1019, Ob.arr 141 true y141 v3.2.1.1 0), (19, Ob.arr 152 true y152 v3.1 0), (4015, Ob.arr 131 true y131 v2.2.2 0), (3015, Ob.arr 143 true y143 v2.2.1.2.2 0), (2015, Ob.arr 9 true Ty.str v2.2.1.2.1 0), (1015, Ob.arr 141 true y141 v2.2.1.1 0), (15, Ob.arr 152 true y152 v2.1 0), (2, Ob.box 32 (cellsD false y32 a0))]) H (by kernel_rfl) fun v5 H => ?_
 refine cd H (by kernel_rfl) (fun H => ?_) (fun H => ?_)
 ·refine qa tok hT [4] (St.mk [p 4 (B false)] [(4028, Ob.arr 131 true y131 v5.2.2 0), (3028, Ob.arr 143 true y143 v5.2.1.2.2 0), (2028, Ob.arr 9 true Ty.str v5.2.1.2.1 0), (1028, Ob.arr 141 true y141 v5.2.1.1 0), (28, Ob.arr 152 true y152 v5.1 0), (7, Ob.box 44 [AV.os 19 0, AV.os 1019 0, AV.os 2019 0, AV.os 3019 0, AV.os 4019 0]), (4019, Ob.arr 131 true y131 v3.2.2 0), (3019, Ob.arr 143 true y143 v3.2.1.2.2 0), (2019, Ob.arr 9 true Ty.str v3.2.1.2.1 0), (1019, Ob.arr 141 true y141 v3.2.1.1 0), (19, Ob.arr 152 true y152 v3.1 0), (4015, Ob.arr 131 true y131 v2.2.2 0), (3015, Ob.arr 143 true y143 v2.2.1.2.2 0), (2015, Ob.arr 9 true Ty.str v2.2.1.2.1 0), (1015, Ob.arr 141 true y141 v2.2.1.1 0), (15, Ob.arr 152 true y152 v2.1 0), (2, Ob.box 32 (cellsD false y32 a0))]) (by kernel_rfl) ?_
  exact vx_ret <| fx_seq_ret <| hr H (by kernel_rfl)
 refine vx_skip <| fx_seq <| ?_
 refine qa tok hT [4] (St.mk [p 4 (B true)] [(4028, Ob.arr 131 true y131 v5.2.2 0), (3028, Ob.arr 143 true y143 v5.2.1.2.2 0), (2028, Ob.arr 9 true Ty.str v5.2.1.2.1 0), (1028, Ob.arr 141 true y141 v5.2.1.1 0), (28, Ob.arr 152 true y152 v5.1 0), (7, Ob.box 44 [AV.os 19 0, AV.os 1019 0, AV.os 2019 0, AV.os 3019 0, AV.os 4019 0]), (4019, Ob.arr 131 true y131 v3.2.2 0), (3019, Ob.arr 143 true y143 v3.2.1.2.2 0), (2019, Ob.arr 9 true Ty.str v3.2.1.2.1 0), (1019, Ob.arr 141 true y141 v3.2.1.1 0), (19, Ob.arr 152 true y152 v3.1 0), (4015, Ob.arr 131 true y131 v2.2.2 0), (3015, Ob.arr 143 true y143 v2.2.1.2.2 0), (2015, Ob.arr 9 true Ty.str v2.2.1.2.1 0), (1015, Ob.arr 141 true y141 v2.2.1.1 0), (15, Ob.arr 152 true y152 v2.1 0), (2, Ob.box 32 (cellsD false y32 a0))]) (by kernel_rfl) ?_
 exact vx_ret <| hr H (by kernel_rfl)
end Go.Proofs.YtippccamjlfafaaGreatDoor
