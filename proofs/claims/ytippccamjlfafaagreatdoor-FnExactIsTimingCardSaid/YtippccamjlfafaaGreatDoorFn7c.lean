/- Functions of this program as plain functions of data, and that they are so: printed by program. -/
import Derived.Test.YtippccamjlfafaaGreatDoorFn7b
import Derived.Test.YtippccamjlfafaaGreatDoorXE
import Derived.Test.YtippccamjlfafaaGreatDoorTY
import Derived.Test.YtippccamjlfafaaGreatDoorLB
namespace Go.Proofs.YtippccamjlfafaaGreatDoor
open Go Go.Proofs Go.Proofs.Sv Go.Proofs.Xv Go.Proofs.Xl Go.RowKit
def u160J1 (v0 : Y212) (a1 : Y89) (a0 : Y152) : Bool → Option (Bool)
 | v2 =>
 if v2 = true then
  gd (((v0.2.2.2 && decide (a1.2.2.1 < (↑a0.2.2.1.length : Int) - 1)) = true ∧ True → ix a1.2.2.1 a0.2.2.1.length) ∧ ((v0.2.2.2 && decide (a1.2.2.1 < (↑a0.2.2.1.length : Int) - 1) && !(a0.2.2.1.getD a1.2.2.1.toNat (dflt y212)).2.2.2 && a1.2.2.2.1 == 0) = true ∧ True → (u174 a1.2.2.2.2.1 false).isSome = true) ∧ True) <| 
  some (v0.2.2.2 && decide (a1.2.2.1 < (↑a0.2.2.1.length : Int) - 1) && !(a0.2.2.1.getD a1.2.2.1.toNat (dflt y212)).2.2.2 && a1.2.2.2.1 == 0 && vl (u174 a1.2.2.2.2.1 false) && (↑a1.2.2.2.2.2.length : Int) == 0)
 else
  some false
def u160J0 (v0 : Y212) (a1 : Y89) (a0 : Y152) : Bool → Option (Bool)
 | v1 =>
 if v1 = true then
  gd (((v0.2.2.2 && a1.2.2.1 == (↑a0.2.2.1.length : Int) - 1 && a1.2.2.2.1 == 0) = true ∧ True → (u174 a1.2.2.2.2.1 true).isSome = true) ∧ ((v0.2.2.2 && a1.2.2.1 == (↑a0.2.2.1.length : Int) - 1 && a1.2.2.2.1 == 0 && vl (u174 a1.2.2.2.2.1 true)) = true ∧ True → (u174 a1.2.2.2.2.2 true).isSome = true) ∧ True) <| 
  some (v0.2.2.2 && a1.2.2.1 == (↑a0.2.2.1.length : Int) - 1 && a1.2.2.2.1 == 0 && vl (u174 a1.2.2.2.2.1 true) && vl (u174 a1.2.2.2.2.2 true))
 else
  if (a1.1 == 4) = true then
   u160J1 v0 a1 a0 (a1.1 == 4)
  else
   u160J1 v0 a1 a0 (a1.1 == 5)
def u160 (a0 : Y152) (a1 : Y89) : Option (Bool) :=
 gd (in64 ((↑a0.2.2.1.length : Int) - 1) ∧ True) <| 
 gd (in64 ((↑a0.2.2.1.length : Int) - 1 - 1) ∧ (u42 a1.2.1 0 ((↑a0.2.2.1.length : Int) - 1 - 1)).isSome = true ∧ ((!vl (u42 a1.2.1 0 ((↑a0.2.2.1.length : Int) - 1 - 1))) = false ∧ True → (u42 a1.2.2.1 0 ((↑a0.2.2.1.length : Int) - 1)).isSome = true) ∧ True) <| 
 if (!vl (u42 a1.2.1 0 ((↑a0.2.2.1.length : Int) - 1 - 1)) || !vl (u42 a1.2.2.1 0 ((↑a0.2.2.1.length : Int) - 1))) = true then
  some false
 else
  gd (ix a1.2.1 a0.2.2.1.length ∧ True) <| lt (a0.2.2.1.getD a1.2.1.toNat (dflt y212)) fun v0 =>
  if (a1.1 == 1) = true then
   gd (((!v0.2.2.2 && a1.2.2.1 == (↑a0.2.2.1.length : Int) - 1) = true ∧ True → (u42 a1.2.2.2.1 1 3).isSome = true) ∧ ((!v0.2.2.2 && a1.2.2.1 == (↑a0.2.2.1.length : Int) - 1 && vl (u42 a1.2.2.2.1 1 3)) = true ∧ True → (u174 a1.2.2.2.2.1 true).isSome = true) ∧ ((!v0.2.2.2 && a1.2.2.1 == (↑a0.2.2.1.length : Int) - 1 && vl (u42 a1.2.2.2.1 1 3) && vl (u174 a1.2.2.2.2.1 true)) = true ∧ True → (u174 a1.2.2.2.2.2 true).isSome = true) ∧ True) <| 
   some (!v0.2.2.2 && a1.2.2.1 == (↑a0.2.2.1.length : Int) - 1 && vl (u42 a1.2.2.2.1 1 3) && vl (u174 a1.2.2.2.2.1 true) && vl (u174 a1.2.2.2.2.2 true))
  else
   if (a1.1 == 2) = true then
    u160J0 v0 a1 a0 (a1.1 == 2)
   else
    u160J0 v0 a1 a0 (a1.1 == 3)
def k160 : Ct := lct 160 [.agg y152, .agg y89] (fun x => u160 x.1 x.2.1) (fun r : Bool => B r) (fun _ => ())
theorem o160 : Ok Tryz.prog k160 := by
 refine okl tok [.tmp 4] Tryz.func160 Tryz.ntmps160 rfl Tryz.results160 (by kernel_rfl) rfl ?_
 intro y ⟨a0, a1, _⟩ r H Q hn hr
 have hT := tc o174 (tc o42 tn)
 refine qa tok hT [2, 3] (St.mk [p 2 (AV.ptr 2 0), p 3 (AV.ptr 3 0)] [(3, Ob.box 89 (cellsD false y89 a1)), (2, Ob.box 152 (cellsD false y152 a0))]) (by kernel_rfl) ?_
 refine qb tok hT [2, 3, 5] (St.mk [p 2 (AV.ptr 2 0), p 3 (AV.ptr 3 0), p 5 (I ((↑a0.2.2.1.length : Int) - 1))] [(3, Ob.box 89 (cellsD false y89 a1)), (2, Ob.box 152 (cellsD false y152 a0))]) H (by kernel_rfl) fun H => ?_
 refine vx_seq <| ?_
 refine qb tok hT [2, 3, 5, 23] (St.mk [p 2 (AV.ptr 2 0), p 3 (AV.ptr 3 0), p 5 (I ((↑a0.2.2.1.length : Int) - 1)), p 23 (B (!vl (u42 a1.2.1 0 ((↑a0.2.2.1.length : Int) - 1 - 1)) || !vl (u42 a1.2.2.1 0 ((↑a0.2.2.1.length : Int) - 1))))] [(3, Ob.box 89 (cellsD false y89 a1)), (2, Ob.box 152 (cellsD false y152 a0))]) H (by kernel_rfl) fun H => ?_
 refine cd H (by kernel_rfl) (fun H => ?_) (fun H => ?_)
 ·refine qa tok hT [4] (St.mk [p 4 (B false)] [(3, Ob.box 89 (cellsD false y89 a1)), (2, Ob.box 152 (cellsD false y152 a0))]) (by kernel_rfl) ?_
  exact vx_ret <| fx_seq_ret <| hr H (by kernel_rfl)
 refine vx_skip <| fx_seq <| ?_
 refine qd tok hT [2, 3, 5, 6] (fun v0 => St.mk [p 2 (AV.ptr 2 0), p 3 (AV.ptr 3 0), p 5 (I ((↑a0.2.2.1.length : Int) - 1)), p 6 (C v0.2.2.2)] [(3, Ob.box 89 (cellsD false y89 a1)), (2, Ob.box 152 (cellsD false y152 a0))]) H (by kernel_rfl) fun v0 H => ?_
 refine vx_seq <| ?_
 refine qa tok hT [2, 3, 5, 6, 32] (St.mk [p 2 (AV.ptr 2 0), p 3 (AV.ptr 3 0), p 5 (I ((↑a0.2.2.1.length : Int) - 1)), p 6 (C v0.2.2.2), p 32 (J a1.1)] [(3, Ob.box 89 (cellsD false y89 a1)), (2, Ob.box 152 (cellsD false y152 a0))]) (by kernel_rfl) ?_
 refine vx_block <| ?_
 refine qa tok hT [2, 3, 5, 6, 32, 33] (St.mk [p 2 (AV.ptr 2 0), p 3 (AV.ptr 3 0), p 5 (I ((↑a0.2.2.1.length : Int) - 1)), p 6 (C v0.2.2.2), p 32 (J a1.1), p 33 (B (a1.1 == 1))] [(3, Ob.box 89 (cellsD false y89 a1)), (2, Ob.box 152 (cellsD false y152 a0))]) (by kernel_rfl) ?_
 refine cd H (by kernel_rfl) (fun H => ?_) (fun H => ?_)
 ·refine qb tok hT [4] (St.mk [p 4 (B (!v0.2.2.2 && a1.2.2.1 == (↑a0.2.2.1.length : Int) - 1 && vl (u42 a1.2.2.2.1 1 3) && vl (u174 a1.2.2.2.2.1 true) && vl (u174 a1.2.2.2.2.2 true)))] [(3, Ob.box 89 (cellsD false y89 a1)), (2, Ob.box 152 (cellsD false y152 a0))]) H (by kernel_rfl) fun H => ?_
  exact vx_ret <| fx_blk_ret <| fx_seq_ret <| hr H (by kernel_rfl)
 refine jn r (fun (v1 : Bool) => St.mk [p 2 (AV.ptr 2 0), p 3 (AV.ptr 3 0), p 5 (I ((↑a0.2.2.1.length : Int) - 1)), p 6 (C v0.2.2.2), p 32 (J a1.1), p 58 (B v1)] [(3, Ob.box 89 (cellsD false y89 a1)), (2, Ob.box 152 (cellsD false y152 a0))]) (u160J0 v0 a1 a0) (fun v1 H => ?_) (fun _ n0 e0 t0 => ?_)
 ·refine cd H (by kernel_rfl) (fun H => ?_) (fun H => ?_)
  ·refine qb tok hT [4] (St.mk [p 4 (B (v0.2.2.2 && a1.2.2.1 == (↑a0.2.2.1.length : Int) - 1 && a1.2.2.2.1 == 0 && vl (u174 a1.2.2.2.2.1 true) && vl (u174 a1.2.2.2.2.2 true)))] [(3, Ob.box 89 (cellsD false y89 a1)), (2, Ob.box 152 (cellsD false y152 a0))]) H (by kernel_rfl) fun H => ?_
   exact vx_ret <| fx_blk_ret <| fx_seq_ret <| hr H (by kernel_rfl)
  refine jn r (fun (v2 : Bool) => St.mk [p 2 (AV.ptr 2 0), p 3 (AV.ptr 3 0), p 5 (I ((↑a0.2.2.1.length : Int) - 1)), p 6 (C v0.2.2.2), p 83 (B v2)] [(3, Ob.box 89 (cellsD false y89 a1)), (2, Ob.box 152 (cellsD false y152 a0))]) (u160J1 v0 a1 a0) (fun v2 H => ?_) (fun _ n1 e1 t1 => ?_)
  ·refine cd H (by kernel_rfl) (fun H => ?_) (fun H => ?_)
   ·refine qb tok hT [4] (St.mk [p 4 (B (v0.2.2.2 && decide (a1.2.2.1 < (↑a0.2.2.1.length : Int) - 1) && !(a0.2.2.1.getD a1.2.2.1.toNat (dflt y212)).2.2.2 && a1.2.2.2.1 == 0 && vl (u174 a1.2.2.2.2.1 false) && (↑a1.2.2.2.2.2.length : Int) == 0))] [(3, Ob.box 89 (cellsD false y89 a1)), (2, Ob.box 152 (cellsD false y152 a0))]) H (by kernel_rfl) fun H => ?_
    exact vx_ret <| fx_blk_ret <| fx_seq_ret <| hr H (by kernel_rfl)
   refine vx_skip <| fx_blk <| fx_seq <| ?_
   refine qa tok hT [4] (St.mk [p 4 (B false)] [(3, Ob.box 89 (cellsD false y89 a1)), (2, Ob.box 152 (cellsD false y152 a0))]) (by kernel_rfl) ?_
   exact vx_ret <| hr H (by kernel_rfl)
  refine qa tok hT [2, 3, 5, 6, 32, 83] (St.mk [p 2 (AV.ptr 2 0), p 3 (AV.ptr 3 0), p 5 (I ((↑a0.2.2.1.length : Int) - 1)), p 6 (C v0.2.2.2), p 32 (J a1.1), p 83 (B (a1.1 == 4))] [(3, Ob.box 89 (cellsD false y89 a1)), (2, Ob.box 152 (cellsD false y152 a0))]) (by kernel_rfl) ?_
  refine cd H (by kernel_rfl) (fun H => ?_) (fun H => ?_)
  ·exact vx_skip <| n1 H (by kernel_rfl)
  refine za tok hT [2, 3, 5, 6, 83] (St.mk [p 2 (AV.ptr 2 0), p 3 (AV.ptr 3 0), p 5 (I ((↑a0.2.2.1.length : Int) - 1)), p 6 (C v0.2.2.2), p 83 (B (a1.1 == 5))] [(3, Ob.box 89 (cellsD false y89 a1)), (2, Ob.box 152 (cellsD false y152 a0))]) (by kernel_rfl) ?_
  exact n1 H (by kernel_rfl)
 refine qa tok hT [2, 3, 5, 6, 32, 58] (St.mk [p 2 (AV.ptr 2 0), p 3 (AV.ptr 3 0), p 5 (I ((↑a0.2.2.1.length : Int) - 1)), p 6 (C v0.2.2.2), p 32 (J a1.1), p 58 (B (a1.1 == 2))] [(3, Ob.box 89 (cellsD false y89 a1)), (2, Ob.box 152 (cellsD false y152 a0))]) (by kernel_rfl) ?_
 refine cd H (by kernel_rfl) (fun H => ?_) (fun H => ?_)
 ·exact vx_skip <| n0 H (by kernel_rfl)
 refine za tok hT [2, 3, 5, 6, 32, 58] (St.mk [p 2 (AV.ptr 2 0), p 3 (AV.ptr 3 0), p 5 (I ((↑a0.2.2.1.length : Int) - 1)), p 6 (C v0.2.2.2), p 32 (J a1.1), p 58 (B (a1.1 == 3))] [(3, Ob.box 89 (cellsD false y89 a1)), (2, Ob.box 152 (cellsD false y152 a0))]) (by kernel_rfl) ?_
 exact n0 H (by kernel_rfl)
def u159J0 : Int → Option (Int × Bool)
 | v8 =>
 some (v8, true)
def u159J2 (v4 : Int) (g1 : Int × Int → Option (Int × Bool)) : Int → Option (Int × Bool)
 | v7 =>
 gd (in64 (v4 + 1) ∧ True) <| 
 g1 (v7, v4 + 1)
def u159J3 (v4 : Int) (v3 : Int) (v5 : Y212) (a0 : Y152) (g1 : Int × Int → Option (Int × Bool)) : Unit → Option (Int × Bool)
 | _ =>
 gd ((u142 v5.1).isSome = true ∧ ((!vl (u142 v5.1)) = false ∧ True → (u42 v5.2.2.1 0 500).isSome = true) ∧ True) <| 
 if (!vl (u142 v5.1) || !vl (u42 v5.2.2.1 0 500)) = true then
  some (((0 : Int), false))
 else
  gd (in64 ((↑a0.2.2.1.length : Int) - 1) ∧ ((v4 == (↑a0.2.2.1.length : Int) - 1 && (v5.2.1 != 2 || v5.2.2.1 != 0 || v5.2.2.2)) = false ∧ True → in64 ((↑a0.2.2.1.length : Int) - 1)) ∧ True) <| 
  if (v4 == (↑a0.2.2.1.length : Int) - 1 && (v5.2.1 != 2 || v5.2.2.1 != 0 || v5.2.2.2) || decide (v4 < (↑a0.2.2.1.length : Int) - 1) && v5.2.1 != 1) = true then
   some (((0 : Int), false))
  else
   if v5.2.2.2 = true then
    gd (in64 (v3 + 1) ∧ True) <| 
    u159J2 v4 g1 (v3 + 1)
   else
    u159J2 v4 g1 v3
def u159L4 (a0 : Y152) (v5 : Y212) (v4 : Int) (v3 : Int) (g1 : Int × Int → Option (Int × Bool)) (g4 : Int → Option (Int × Bool)) : Int → Option (Int × Bool)
 | v6 =>
 if (decide (v6 < v4)) = true then
  gd (ix v6 a0.2.2.1.length ∧ True) <| 
  if (decide ((a0.2.2.1.getD v6.toNat (dflt y212)).1 = v5.1)) = true then
   some (((0 : Int), false))
  else
   gd (in64 (v6 + 1) ∧ True) <| 
   g4 (v6 + 1)
 else
  u159J3 v4 v3 v5 a0 g1 ()
def u159L1 (a0 : Y152) (g1 : Int × Int → Option (Int × Bool)) : Int × Int → Option (Int × Bool)
 | (v3, v4) =>
 if (decide (v4 < (↑a0.2.2.1.length : Int))) = true then
  gd (ix v4 a0.2.2.1.length ∧ True) <| lt (a0.2.2.1.getD v4.toNat (dflt y212)) fun v5 =>
  lp (u159L4 a0 v5 v4 v3 g1) 0
 else
  u159J0 v3
def u159 (a0 : Y152) : Option (Int × Bool) :=
 if (decide ((↑a0.2.2.1.length : Int) < 2) || decide (5 < (↑a0.2.2.1.length : Int))) = true then
  some (((0 : Int), false))
 else
  lp (u159L1 a0) (0, 0)
def k159 : Ct := lct 159 [.agg y152] (fun x => u159 x.1) (fun r : Int × Bool => AV.tup [I r.1, B r.2]) (fun _ => ())
theorem o159 : Ok Tryz.prog k159 := by
 refine okl tok [.tmp 2, .tmp 3] Tryz.func159 Tryz.ntmps159 rfl Tryz.results159 (by kernel_rfl) rfl ?_
 intro y ⟨a0, _⟩ r H Q hn hr
 have hT := tc o42 (tc o142 tn)
 refine qa tok hT [1] (St.mk [p 1 (AV.ptr 1 0)] [(1, Ob.box 152 (cellsD false y152 a0))]) (by kernel_rfl) ?_
 refine qa tok hT [1, 4] (St.mk [p 1 (AV.ptr 1 0), p 4 (I (↑a0.2.2.1.length : Int))] [(1, Ob.box 152 (cellsD false y152 a0))]) (by kernel_rfl) ?_
 refine vx_seq <| ?_
 refine qa tok hT [1, 4, 17] (St.mk [p 1 (AV.ptr 1 0), p 4 (I (↑a0.2.2.1.length : Int)), p 17 (B (decide ((↑a0.2.2.1.length : Int) < 2) || decide (5 < (↑a0.2.2.1.length : Int))))] [(1, Ob.box 152 (cellsD false y152 a0))]) (by kernel_rfl) ?_
 refine cd H (by kernel_rfl) (fun H => ?_) (fun H => ?_)
 ·refine qa tok hT [2, 3] (St.mk [p 2 (I 0), p 3 (B false)] [(1, Ob.box 152 (cellsD false y152 a0))]) (by kernel_rfl) ?_
  exact vx_ret <| fx_seq_ret <| hr H (by kernel_rfl)
 refine vx_skip <| fx_seq <| ?_
 refine qa tok hT [1, 4, 5] (St.mk [p 1 (AV.ptr 1 0), p 4 (I (↑a0.2.2.1.length : Int)), p 5 (I 0)] [(1, Ob.box 152 (cellsD false y152 a0))]) (by kernel_rfl) ?_
 refine jn r (fun (v8 : Int) => St.mk [p 5 (I v8)] []) (u159J0) (fun v8 H => ?_) (fun _ n0 e0 t0 => ?_)
 ·refine qa tok hT [2, 3] (St.mk [p 2 (I v8), p 3 (B true)] []) (by kernel_rfl) ?_
  exact vx_ret <| hr H (by kernel_rfl)
 refine qa tok hT [1, 4, 5, 6] (St.mk [p 1 (AV.ptr 1 0), p 4 (I (↑a0.2.2.1.length : Int)), p 5 (I 0), p 6 (I 0)] [(1, Ob.box 152 (cellsD false y152 a0))]) (by kernel_rfl) ?_
 refine vx_block <| ?_
 refine lx (fun ((v3, v4) : Int × Int) => St.mk [p 1 (AV.ptr 1 0), p 4 (I (↑a0.2.2.1.length : Int)), p 5 (I v3), p 6 (I v4)] [(1, Ob.box 152 (cellsD false y152 a0))]) (0, 0) H (by kernel_rfl) fun _ g1 b1 e1 t1 ⟨v3, v4⟩ H => ?_
 refine vx_seq <| ?_
 refine qa tok hT [1, 4, 5, 6, 20] (St.mk [p 1 (AV.ptr 1 0), p 4 (I (↑a0.2.2.1.length : Int)), p 5 (I v3), p 6 (I v4), p 20 (B (decide (v4 < (↑a0.2.2.1.length : Int))))] [(1, Ob.box 152 (cellsD false y152 a0))]) (by kernel_rfl) ?_
 refine cd H (by kernel_rfl) (fun H => ?_) (fun H => ?_)
 ·refine vx_skip <| fx_seq <| ?_
  refine jn r (fun (v7 : Int) => St.mk [p 1 (AV.ptr 1 0), p 4 (I (↑a0.2.2.1.length : Int)), p 5 (I v7), p 6 (I v4)] [(1, Ob.box 152 (cellsD false y152 a0))]) (u159J2 v4 g1) (fun v7 H => ?_) (fun _ n2 e2 t2 => ?_)
  ·refine zb tok hT [1, 4, 5, 6] (St.mk [p 1 (AV.ptr 1 0), p 4 (I (↑a0.2.2.1.length : Int)), p 5 (I v7), p 6 (I (v4 + 1))] [(1, Ob.box 152 (cellsD false y152 a0))]) H (by kernel_rfl) fun H => ?_
   exact b1 H (by kernel_rfl)
  refine vx_block <| ?_
  refine qd tok hT [1, 4, 5, 6, 7] (fun v5 => St.mk [p 1 (AV.ptr 1 0), p 4 (I (↑a0.2.2.1.length : Int)), p 5 (I v3), p 6 (I v4), p 7 (AV.ptr 7 0)] [(7, Ob.box 212 (cellsD false y212 v5)), (1, Ob.box 152 (cellsD false y152 a0))]) H (by kernel_rfl) fun v5 H => ?_
  refine jn r (fun (_ : Unit) => St.mk [p 1 (AV.ptr 1 0), p 4 (I (↑a0.2.2.1.length : Int)), p 5 (I v3), p 6 (I v4), p 7 (AV.ptr 7 0)] [(7, Ob.box 212 (cellsD false y212 v5)), (1, Ob.box 152 (cellsD false y152 a0))]) (u159J3 v4 v3 v5 a0 g1) (fun _ H => ?_) (fun _ n3 e3 t3 => ?_)
  ·refine vx_seq <| ?_
   refine qb tok hT [1, 4, 5, 6, 7, 47, 48, 49, 50, 51] (St.mk [p 1 (AV.ptr 1 0), p 4 (I (↑a0.2.2.1.length : Int)), p 5 (I v3), p 6 (I v4), p 7 (AV.ptr 7 0), p 51 (B (!vl (u142 v5.1) || !vl (u42 v5.2.2.1 0 500)))] [(7, Ob.box 212 (cellsD false y212 v5)), (1, Ob.box 152 (cellsD false y152 a0))]) H (by kernel_rfl) fun H => ?_
   refine cd H (by kernel_rfl) (fun H => ?_) (fun H => ?_)
   ·refine qa tok hT [2, 3] (St.mk [p 2 (I 0), p 3 (B false)] [(7, Ob.box 212 (cellsD false y212 v5)), (1, Ob.box 152 (cellsD false y152 a0))]) (by kernel_rfl) ?_
    exact vx_ret <| fx_seq_ret <| fx_blk_ret <| t2 <| t1 <| fx_blk_ret <| t0 <| hr H (by kernel_rfl)
   refine vx_skip <| fx_seq <| vx_seq <| ?_
   refine qb tok hT [1, 4, 5, 6, 7, 57, 58, 59, 60, 61, 62, 63, 64, 65, 66, 67, 68, 71, 72, 73, 74, 75, 76, 77, 78, 79, 80] (St.mk [p 1 (AV.ptr 1 0), p 4 (I (↑a0.2.2.1.length : Int)), p 5 (I v3), p 6 (I v4), p 7 (AV.ptr 7 0), p 80 (B (v4 == (↑a0.2.2.1.length : Int) - 1 && (v5.2.1 != 2 || v5.2.2.1 != 0 || v5.2.2.2) || decide (v4 < (↑a0.2.2.1.length : Int) - 1) && v5.2.1 != 1))] [(7, Ob.box 212 (cellsD false y212 v5)), (1, Ob.box 152 (cellsD false y152 a0))]) H (by kernel_rfl) fun H => ?_
   refine cd H (by kernel_rfl) (fun H => ?_) (fun H => ?_)
   ·refine qa tok hT [2, 3] (St.mk [p 2 (I 0), p 3 (B false)] [(7, Ob.box 212 (cellsD false y212 v5)), (1, Ob.box 152 (cellsD false y152 a0))]) (by kernel_rfl) ?_
    exact vx_ret <| fx_seq_ret <| fx_blk_ret <| t2 <| t1 <| fx_blk_ret <| t0 <| hr H (by kernel_rfl)
   refine vx_skip <| fx_seq <| ?_
   refine qa tok hT [1, 4, 5, 6, 82] (St.mk [p 1 (AV.ptr 1 0), p 4 (I (↑a0.2.2.1.length : Int)), p 5 (I v3), p 6 (I v4), p 82 (C v5.2.2.2)] [(7, Ob.box 212 (cellsD false y212 v5)), (1, Ob.box 152 (cellsD false y152 a0))]) (by kernel_rfl) ?_
   refine cd H (by kernel_rfl) (fun H => ?_) (fun H => ?_)
   ·refine zb tok hT [1, 4, 5, 6] (St.mk [p 1 (AV.ptr 1 0), p 4 (I (↑a0.2.2.1.length : Int)), p 5 (I (v3 + 1)), p 6 (I v4)] [(7, Ob.box 212 (cellsD false y212 v5)), (1, Ob.box 152 (cellsD false y152 a0))]) H (by kernel_rfl) fun H => ?_
    exact fx_blk <| n2 H (by kernel_rfl)
   exact vx_skip <| fx_blk <| n2 H (by kernel_rfl)
  refine qa tok hT [1, 4, 5, 6, 7, 8] (St.mk [p 1 (AV.ptr 1 0), p 4 (I (↑a0.2.2.1.length : Int)), p 5 (I v3), p 6 (I v4), p 7 (AV.ptr 7 0), p 8 (I 0)] [(7, Ob.box 212 (cellsD false y212 v5)), (1, Ob.box 152 (cellsD false y152 a0))]) (by kernel_rfl) ?_
  refine vx_block <| ?_
  refine lx (fun (v6 : Int) => St.mk [p 1 (AV.ptr 1 0), p 4 (I (↑a0.2.2.1.length : Int)), p 5 (I v3), p 6 (I v4), p 7 (AV.ptr 7 0), p 8 (I v6)] [(7, Ob.box 212 (cellsD false y212 v5)), (1, Ob.box 152 (cellsD false y152 a0))]) 0 H (by kernel_rfl) fun _ g4 b4 e4 t4 v6 H => ?_
  refine vx_seq <| ?_
  refine qa tok hT [1, 4, 5, 6, 7, 8, 30] (St.mk [p 1 (AV.ptr 1 0), p 4 (I (↑a0.2.2.1.length : Int)), p 5 (I v3), p 6 (I v4), p 7 (AV.ptr 7 0), p 8 (I v6), p 30 (B (decide (v6 < v4)))] [(7, Ob.box 212 (cellsD false y212 v5)), (1, Ob.box 152 (cellsD false y152 a0))]) (by kernel_rfl) ?_
  refine cd H (by kernel_rfl) (fun H => ?_) (fun H => ?_)
  ·refine vx_skip <| fx_seq <| vx_seq <| vx_block <| ?_
   refine qb tok hT [1, 4, 5, 6, 7, 8, 41] (St.mk [p 1 (AV.ptr 1 0), p 4 (I (↑a0.2.2.1.length : Int)), p 5 (I v3), p 6 (I v4), p 7 (AV.ptr 7 0), p 8 (I v6), p 41 (B (decide ((a0.2.2.1.getD v6.toNat (dflt y212)).1 = v5.1)))] [(7, Ob.box 212 (cellsD false y212 v5)), (1, Ob.box 152 (cellsD false y152 a0))]) H (by kernel_rfl) fun H => ?_
   refine cd H (by kernel_rfl) (fun H => ?_) (fun H => ?_)
   ·refine qa tok hT [2, 3] (St.mk [p 2 (I 0), p 3 (B false)] [(7, Ob.box 212 (cellsD false y212 v5)), (1, Ob.box 152 (cellsD false y152 a0))]) (by kernel_rfl) ?_
    exact vx_ret <| fx_blk_ret <| fx_seq_ret <| t4 <| fx_blk_ret <| t3 <| fx_blk_ret <| t2 <| t1 <| fx_blk_ret <| t0 <| hr H (by kernel_rfl)
   refine vx_skip <| fx_blk <| fx_seq <| ?_
   refine zb tok hT [1, 4, 5, 6, 7, 8] (St.mk [p 1 (AV.ptr 1 0), p 4 (I (↑a0.2.2.1.length : Int)), p 5 (I v3), p 6 (I v4), p 7 (AV.ptr 7 0), p 8 (I (v6 + 1))] [(7, Ob.box 212 (cellsD false y212 v5)), (1, Ob.box 152 (cellsD false y152 a0))]) H (by kernel_rfl) fun H => ?_
   exact b4 H (by kernel_rfl)
  exact vx_exit <| fx_seq_exit <| e4 <| fx_blk_exit rfl <| n3 H (by kernel_rfl)
 exact vx_exit <| fx_seq_exit <| e1 <| fx_blk_exit rfl <| n0 H (by kernel_rfl)
def u141J4 : Unit → Option (Bool)
 | _ =>
 some false
def u141J5 (v0 : Int × Bool) (a0 : Y152) : Unit → Option (Bool)
 | _ =>
 gd (((v0.1 == 0) = true ∧ True → in64 ((↑a0.2.2.1.length : Int) - 1)) ∧ ((v0.1 == 0) = true ∧ True → 0 ≤ (↑a0.2.2.1.length : Int) - 1 ∧ (↑a0.2.2.1.length : Int) - 1 ≤ 18446744073709551615) ∧ ((v0.1 == 0) = true ∧ True → (0 ≤ (↑a0.2.2.1.length : Int) - 1 ∧ (↑a0.2.2.1.length : Int) - 1 ≤ 62) ∧ in64 (1 * 2 ^ ((↑a0.2.2.1.length : Int) - 1).toNat)) ∧ True) <| 
 some (v0.1 == 0 && (↑a0.2.2.2.2.1.length : Int) == 1 * 2 ^ ((↑a0.2.2.1.length : Int) - 1).toNat)
def u141L6 (a0 : Y152) (v0 : Int × Bool) (g6 : Int → Option (Bool)) : Int → Option (Bool)
 | v7 =>
 if (decide (v7 < (↑a0.2.2.2.2.1.length : Int))) = true then
  gd (ix v7 a0.2.2.2.2.1.length ∧ (u42 (a0.2.2.2.2.1.getD v7.toNat 0) 0 1).isSome = true ∧ True) <| 
  if (!vl (u42 (a0.2.2.2.2.1.getD v7.toNat 0) 0 1)) = true then
   some false
  else
   gd (in64 (v7 + 1) ∧ True) <| 
   g6 (v7 + 1)
 else
  u141J5 v0 a0 ()
def u141J0 (a0 : Y152) (v0 : Int × Bool) : Unit → Option (Bool)
 | _ =>
 gd ((u161 a0).isSome = true ∧ True) <| lt (vl (u161 a0)) fun v6 =>
 if (a0.2.1 == 1) = true then
  lp (u141L6 a0 v0) 0
 else
  if (a0.2.1 == 2) = true then
   gd (((v0.1 == (1 : Int)) = true ∧ True → ix (1 : Int) v6.length) ∧ ((v0.1 == (1 : Int)) = true ∧ True → Int.toNat (1 : Int) < v6.length) ∧ ((v0.1 == (1 : Int) && v6.getD (Int.toNat (1 : Int)) (0 : Int) == (0 : Int)) = true ∧ True → ix (2 : Int) v6.length) ∧ ((v0.1 == (1 : Int) && v6.getD (Int.toNat (1 : Int)) (0 : Int) == (0 : Int)) = true ∧ True → Int.toNat (2 : Int) < v6.length) ∧ ((v0.1 == (1 : Int) && v6.getD (Int.toNat (1 : Int)) (0 : Int) == (0 : Int)) = true ∧ True → ix (3 : Int) v6.length) ∧ ((v0.1 == (1 : Int) && v6.getD (Int.toNat (1 : Int)) (0 : Int) == (0 : Int)) = true ∧ True → Int.toNat (3 : Int) < v6.length) ∧ True) <| 
   some (v0.1 == (1 : Int) && v6.getD (Int.toNat (1 : Int)) (0 : Int) == (0 : Int) && !decide ((0 : Int) < v6.getD (Int.toNat (2 : Int)) (0 : Int)) == decide ((0 : Int) < v6.getD (Int.toNat (3 : Int)) (0 : Int)) && (↑a0.2.2.2.2.1.length : Int) == (0 : Int))
  else
   if (a0.2.1 == 3) = true then
    gd (((v0.1 == (1 : Int)) = true ∧ True → ix (1 : Int) v6.length) ∧ ((v0.1 == (1 : Int)) = true ∧ True → Int.toNat (1 : Int) < v6.length) ∧ ((v0.1 == (1 : Int) && decide ((0 : Int) < v6.getD (Int.toNat (1 : Int)) (0 : Int))) = true ∧ True → ix (2 : Int) v6.length) ∧ ((v0.1 == (1 : Int) && decide ((0 : Int) < v6.getD (Int.toNat (1 : Int)) (0 : Int))) = true ∧ True → Int.toNat (2 : Int) < v6.length) ∧ ((v0.1 == (1 : Int) && decide ((0 : Int) < v6.getD (Int.toNat (1 : Int)) (0 : Int)) && decide ((0 : Int) < v6.getD (Int.toNat (2 : Int)) (0 : Int))) = true ∧ True → ix (3 : Int) v6.length) ∧ ((v0.1 == (1 : Int) && decide ((0 : Int) < v6.getD (Int.toNat (1 : Int)) (0 : Int)) && decide ((0 : Int) < v6.getD (Int.toNat (2 : Int)) (0 : Int))) = true ∧ True → Int.toNat (3 : Int) < v6.length) ∧ True) <| 
    some (v0.1 == (1 : Int) && decide ((0 : Int) < v6.getD (Int.toNat (1 : Int)) (0 : Int)) && decide ((0 : Int) < v6.getD (Int.toNat (2 : Int)) (0 : Int)) && v6.getD (Int.toNat (3 : Int)) (0 : Int) == (0 : Int) && (↑a0.2.2.2.2.1.length : Int) == (0 : Int))
   else
    u141J4 ()
def u141J2 (v3 : Int) (g1 : Int → Option (Bool)) : Unit → Option (Bool)
 | _ =>
 gd (in64 (v3 + 1) ∧ True) <| 
 g1 (v3 + 1)
def u141L3 (a0 : Y152) (v4 : Y89) (v3 : Int) (g1 : Int → Option (Bool)) (g3 : Int → Option (Bool)) : Int → Option (Bool)
 | v5 =>
 if (decide (v5 < v3)) = true then
  gd (ix v5 a0.2.2.2.1.length ∧ (((a0.2.2.2.1.getD v5.toNat (dflt y89)).1 == v4.1) = true ∧ True → ix v5 a0.2.2.2.1.length) ∧ (((a0.2.2.2.1.getD v5.toNat (dflt y89)).1 == v4.1 && (a0.2.2.2.1.getD v5.toNat (dflt y89)).2.1 == v4.2.1) = true ∧ True → ix v5 a0.2.2.2.1.length) ∧ True) <| 
  if ((a0.2.2.2.1.getD v5.toNat (dflt y89)).1 == v4.1 && (a0.2.2.2.1.getD v5.toNat (dflt y89)).2.1 == v4.2.1 && (a0.2.2.2.1.getD v5.toNat (dflt y89)).2.2.1 == v4.2.2.1) = true then
   some false
  else
   gd (in64 (v5 + 1) ∧ True) <| 
   g3 (v5 + 1)
 else
  u141J2 v3 g1 ()
def u141L1 (a0 : Y152) (v0 : Int × Bool) (g1 : Int → Option (Bool)) : Int → Option (Bool)
 | v3 =>
 if (decide (v3 < (↑a0.2.2.2.1.length : Int))) = true then
  gd (ix v3 a0.2.2.2.1.length ∧ True) <| lt (a0.2.2.2.1.getD v3.toNat (dflt y89)) fun v4 =>
  gd ((u160 a0 v4).isSome = true ∧ True) <| 
  if (!vl (u160 a0 v4)) = true then
   some false
  else
   lp (u141L3 a0 v4 v3 g1) 0
 else
  u141J0 a0 v0 ()
def u141 (a0 : Y152) : Option (Bool) :=
 gd ((u159 a0).isSome = true ∧ True) <| lt (vl (u159 a0)) fun v0 =>
 gd (((!v0.2) = false ∧ True → (u142 a0.1).isSome = true) ∧ ((!v0.2 || !vl (u142 a0.1) || decide (8 < (↑a0.2.2.2.1.length : Int))) = false ∧ True → (u42 a0.2.2.2.2.2.1 0 100000).isSome = true) ∧ ((!v0.2 || !vl (u142 a0.1) || decide (8 < (↑a0.2.2.2.1.length : Int)) || !vl (u42 a0.2.2.2.2.2.1 0 100000)) = false ∧ True → (u42 a0.2.2.2.2.2.2 0 100000).isSome = true) ∧ True) <| 
 if (!v0.2 || !vl (u142 a0.1) || decide (8 < (↑a0.2.2.2.1.length : Int)) || !vl (u42 a0.2.2.2.2.2.1 0 100000) || !vl (u42 a0.2.2.2.2.2.2 0 100000)) = true then
  some false
 else
  lp (u141L1 a0 v0) 0
def k141 : Ct := lct 141 [.agg y152] (fun x => u141 x.1) (fun r : Bool => B r) (fun _ => ())
theorem o141 : Ok Tryz.prog k141 := by
 refine okl tok [.tmp 2] Tryz.func141 Tryz.ntmps141 rfl Tryz.results141 (by kernel_rfl) rfl ?_
 intro y ⟨a0, _⟩ r H Q hn hr
 have hT := tc o42 (tc o161 (tc o160 (tc o142 (tc o159 tn))))
 refine qa tok hT [1] (St.mk [p 1 (AV.ptr 1 0)] [(1, Ob.box 152 (cellsD false y152 a0))]) (by kernel_rfl) ?_
 refine qd tok hT [1, 3, 4] (fun v0 => St.mk [p 1 (AV.ptr 1 0), p 3 (I v0.1), p 4 (B v0.2)] [(1, Ob.box 152 (cellsD false y152 a0))]) H (by kernel_rfl) fun v0 H => ?_
 refine vx_seq <| ?_
 refine qb tok hT [1, 3, 40] (St.mk [p 1 (AV.ptr 1 0), p 3 (I v0.1), p 40 (B (!v0.2 || !vl (u142 a0.1) || decide (8 < (↑a0.2.2.2.1.length : Int)) || !vl (u42 a0.2.2.2.2.2.1 0 100000) || !vl (u42 a0.2.2.2.2.2.2 0 100000)))] [(1, Ob.box 152 (cellsD false y152 a0))]) H (by kernel_rfl) fun H => ?_
 refine cd H (by kernel_rfl) (fun H => ?_) (fun H => ?_)
 ·refine qa tok hT [2] (St.mk [p 2 (B false)] [(1, Ob.box 152 (cellsD false y152 a0))]) (by kernel_rfl) ?_
  exact vx_ret <| fx_seq_ret <| hr H (by kernel_rfl)
 refine vx_skip <| fx_seq <| ?_
 refine jn r (fun (_ : Unit) => St.mk [p 1 (AV.ptr 1 0), p 3 (I v0.1)] [(1, Ob.box 152 (cellsD false y152 a0))]) (u141J0 a0 v0) (fun _ H => ?_) (fun _ n0 e0 t0 => ?_)
 ·refine qd tok hT [1, 3, 8] (fun v6 => St.mk [p 1 (AV.ptr 1 0), p 3 (I v0.1), p 8 (AV.os 94 0)] [(94, Ob.arr 2 true i64 v6 0), (1, Ob.box 152 (cellsD false y152 a0))]) H (by kernel_rfl) fun v6 H => ?_
  refine jn r (fun (_ : Unit) => St.mk [] []) (u141J4) (fun _ H => ?_) (fun _ n4 e4 t4 => ?_)
  ·refine qa tok hT [2] (St.mk [p 2 (B false)] []) (by kernel_rfl) ?_
   exact vx_ret <| hr H (by kernel_rfl)
  refine qa tok hT [1, 3, 8, 96] (St.mk [p 1 (AV.ptr 1 0), p 3 (I v0.1), p 8 (AV.os 94 0), p 96 (J a0.2.1)] [(94, Ob.arr 2 true i64 v6 0), (1, Ob.box 152 (cellsD false y152 a0))]) (by kernel_rfl) ?_
  refine vx_block <| ?_
  refine qa tok hT [1, 3, 8, 96, 97] (St.mk [p 1 (AV.ptr 1 0), p 3 (I v0.1), p 8 (AV.os 94 0), p 96 (J a0.2.1), p 97 (B (a0.2.1 == 1))] [(94, Ob.arr 2 true i64 v6 0), (1, Ob.box 152 (cellsD false y152 a0))]) (by kernel_rfl) ?_
  refine cd H (by kernel_rfl) (fun H => ?_) (fun H => ?_)
  ·refine jn r (fun (_ : Unit) => St.mk [p 1 (AV.ptr 1 0), p 3 (I v0.1)] [(1, Ob.box 152 (cellsD false y152 a0))]) (u141J5 v0 a0) (fun _ H => ?_) (fun _ n5 e5 t5 => ?_)
   ·refine qb tok hT [2] (St.mk [p 2 (B (v0.1 == 0 && (↑a0.2.2.2.2.1.length : Int) == 1 * 2 ^ ((↑a0.2.2.1.length : Int) - 1).toNat))] [(1, Ob.box 152 (cellsD false y152 a0))]) H (by kernel_rfl) fun H => ?_
    exact vx_ret <| fx_blk_ret <| t4 <| hr H (by kernel_rfl)
   refine qa tok hT [1, 3, 9] (St.mk [p 1 (AV.ptr 1 0), p 3 (I v0.1), p 9 (I 0)] [(94, Ob.arr 2 true i64 v6 0), (1, Ob.box 152 (cellsD false y152 a0))]) (by kernel_rfl) ?_
   refine vx_block <| ?_
   refine lx (fun (v7 : Int) => St.mk [p 1 (AV.ptr 1 0), p 3 (I v0.1), p 9 (I v7)] [(1, Ob.box 152 (cellsD false y152 a0))]) 0 H (by kernel_rfl) fun _ g6 b6 e6 t6 v7 H => ?_
   refine vx_seq <| ?_
   refine qa tok hT [1, 3, 9, 103] (St.mk [p 1 (AV.ptr 1 0), p 3 (I v0.1), p 9 (I v7), p 103 (B (decide (v7 < (↑a0.2.2.2.2.1.length : Int))))] [(1, Ob.box 152 (cellsD false y152 a0))]) (by kernel_rfl) ?_
   refine cd H (by kernel_rfl) (fun H => ?_) (fun H => ?_)
   ·refine vx_skip <| fx_seq <| vx_seq <| vx_block <| ?_
    refine qb tok hT [1, 3, 9, 112] (St.mk [p 1 (AV.ptr 1 0), p 3 (I v0.1), p 9 (I v7), p 112 (B !vl (u42 (a0.2.2.2.2.1.getD v7.toNat 0) 0 1))] [(1, Ob.box 152 (cellsD false y152 a0))]) H (by kernel_rfl) fun H => ?_
    refine cd H (by kernel_rfl) (fun H => ?_) (fun H => ?_)
    ·refine qa tok hT [2] (St.mk [p 2 (B false)] [(1, Ob.box 152 (cellsD false y152 a0))]) (by kernel_rfl) ?_
     exact vx_ret <| fx_blk_ret <| fx_seq_ret <| t6 <| fx_blk_ret <| t5 <| fx_blk_ret <| t4 <| hr H (by kernel_rfl)
    refine vx_skip <| fx_blk <| fx_seq <| ?_
    refine zb tok hT [1, 3, 9] (St.mk [p 1 (AV.ptr 1 0), p 3 (I v0.1), p 9 (I (v7 + 1))] [(1, Ob.box 152 (cellsD false y152 a0))]) H (by kernel_rfl) fun H => ?_
    exact b6 H (by kernel_rfl)
   exact vx_exit <| fx_seq_exit <| e6 <| fx_blk_exit rfl <| n5 H (by kernel_rfl)
  refine qa tok hT [1, 3, 8, 96, 127] (St.mk [p 1 (AV.ptr 1 0), p 3 (I v0.1), p 8 (AV.os 94 0), p 96 (J a0.2.1), p 127 (B (a0.2.1 == 2))] [(94, Ob.arr 2 true i64 v6 0), (1, Ob.box 152 (cellsD false y152 a0))]) (by kernel_rfl) ?_
  refine cd H (by kernel_rfl) (fun H => ?_) (fun H => ?_)
  ·refine qb tok hT [2] (St.mk [p (2 : Nat) (B (v0.1 == (1 : Int) && v6.getD (Int.toNat (1 : Int)) (0 : Int) == (0 : Int) && !decide ((0 : Int) < v6.getD (Int.toNat (2 : Int)) (0 : Int)) == decide ((0 : Int) < v6.getD (Int.toNat (3 : Int)) (0 : Int)) && (↑a0.2.2.2.2.1.length : Int) == (0 : Int)))] [((94 : Nat), Ob.arr (nat_lit 2) true i64 v6 (0 : Nat)), ((1 : Nat), Ob.box (nat_lit 152) (cellsD false y152 a0))]) H (by kernel_rfl) fun H => ?_
   exact vx_ret <| fx_blk_ret <| t4 <| hr H (by kernel_rfl)
  refine qa tok hT [1, 3, 8, 154] (St.mk [p 1 (AV.ptr 1 0), p 3 (I v0.1), p 8 (AV.os 94 0), p 154 (B (a0.2.1 == 3))] [(94, Ob.arr 2 true i64 v6 0), (1, Ob.box 152 (cellsD false y152 a0))]) (by kernel_rfl) ?_
  refine cd H (by kernel_rfl) (fun H => ?_) (fun H => ?_)
  ·refine qb tok hT [2] (St.mk [p (2 : Nat) (B (v0.1 == (1 : Int) && decide ((0 : Int) < v6.getD (Int.toNat (1 : Int)) (0 : Int)) && decide ((0 : Int) < v6.getD (Int.toNat (2 : Int)) (0 : Int)) && v6.getD (Int.toNat (3 : Int)) (0 : Int) == (0 : Int) && (↑a0.2.2.2.2.1.length : Int) == (0 : Int)))] [((94 : Nat), Ob.arr (nat_lit 2) true i64 v6 (0 : Nat)), ((1 : Nat), Ob.box (nat_lit 152) (cellsD false y152 a0))]) H (by kernel_rfl) fun H => ?_
   exact vx_ret <| fx_blk_ret <| t4 <| hr H (by kernel_rfl)
  exact vx_skip <| fx_blk <| n4 H (by kernel_rfl)
 refine qa tok hT [1, 3, 5] (St.mk [p 1 (AV.ptr 1 0), p 3 (I v0.1), p 5 (I 0)] [(1, Ob.box 152 (cellsD false y152 a0))]) (by kernel_rfl) ?_
 refine vx_block <| ?_
 refine lx (fun (v3 : Int) => St.mk [p 1 (AV.ptr 1 0), p 3 (I v0.1), p 5 (I v3)] [(1, Ob.box 152 (cellsD false y152 a0))]) 0 H (by kernel_rfl) fun _ g1 b1 e1 t1 v3 H => ?_
 refine vx_seq <| ?_
 refine qa tok hT [1, 3, 5, 45] (St.mk [p 1 (AV.ptr 1 0), p 3 (I v0.1), p 5 (I v3), p 45 (B (decide (v3 < (↑a0.2.2.2.1.length : Int))))] [(1, Ob.box 152 (cellsD false y152 a0))]) (by kernel_rfl) ?_
 refine cd H (by kernel_rfl) (fun H => ?_) (fun H => ?_)
 ·refine vx_skip <| fx_seq <| ?_
  refine jn r (fun (_ : Unit) => St.mk [p 1 (AV.ptr 1 0), p 3 (I v0.1), p 5 (I v3)] [(1, Ob.box 152 (cellsD false y152 a0))]) (u141J2 v3 g1) (fun _ H => ?_) (fun _ n2 e2 t2 => ?_)
  ·refine zb tok hT [1, 3, 5] (St.mk [p 1 (AV.ptr 1 0), p 3 (I v0.1), p 5 (I (v3 + 1))] [(1, Ob.box 152 (cellsD false y152 a0))]) H (by kernel_rfl) fun H => ?_
   exact b1 H (by kernel_rfl)
  refine vx_block <| ?_
  refine qd tok hT [1, 3, 5, 6] (fun v4 => St.mk [p 1 (AV.ptr 1 0), p 3 (I v0.1), p 5 (I v3), p 6 (AV.ptr 6 0)] [(6, Ob.box 89 (cellsD false y89 v4)), (1, Ob.box 152 (cellsD false y152 a0))]) H (by kernel_rfl) fun v4 H => ?_
  refine vx_seq <| ?_
  refine qb tok hT [1, 3, 5, 6, 56] (St.mk [p 1 (AV.ptr 1 0), p 3 (I v0.1), p 5 (I v3), p 6 (AV.ptr 6 0), p 56 (B !vl (u160 a0 v4))] [(6, Ob.box 89 (cellsD false y89 v4)), (1, Ob.box 152 (cellsD false y152 a0))]) H (by kernel_rfl) fun H => ?_
  refine cd H (by kernel_rfl) (fun H => ?_) (fun H => ?_)
  ·refine qa tok hT [2] (St.mk [p 2 (B false)] [(6, Ob.box 89 (cellsD false y89 v4)), (1, Ob.box 152 (cellsD false y152 a0))]) (by kernel_rfl) ?_
   exact vx_ret <| fx_seq_ret <| fx_blk_ret <| t2 <| t1 <| fx_blk_ret <| t0 <| hr H (by kernel_rfl)
  refine vx_skip <| fx_seq <| ?_
  refine qa tok hT [1, 3, 5, 6, 7] (St.mk [p 1 (AV.ptr 1 0), p 3 (I v0.1), p 5 (I v3), p 6 (AV.ptr 6 0), p 7 (I 0)] [(6, Ob.box 89 (cellsD false y89 v4)), (1, Ob.box 152 (cellsD false y152 a0))]) (by kernel_rfl) ?_
  refine vx_block <| ?_
  refine lx (fun (v5 : Int) => St.mk [p 1 (AV.ptr 1 0), p 3 (I v0.1), p 5 (I v3), p 6 (AV.ptr 6 0), p 7 (I v5)] [(6, Ob.box 89 (cellsD false y89 v4)), (1, Ob.box 152 (cellsD false y152 a0))]) 0 H (by kernel_rfl) fun _ g3 b3 e3 t3 v5 H => ?_
  refine vx_seq <| ?_
  refine qa tok hT [1, 3, 5, 6, 7, 59] (St.mk [p 1 (AV.ptr 1 0), p 3 (I v0.1), p 5 (I v3), p 6 (AV.ptr 6 0), p 7 (I v5), p 59 (B (decide (v5 < v3)))] [(6, Ob.box 89 (cellsD false y89 v4)), (1, Ob.box 152 (cellsD false y152 a0))]) (by kernel_rfl) ?_
  refine cd H (by kernel_rfl) (fun H => ?_) (fun H => ?_)
  ·refine vx_skip <| fx_seq <| vx_seq <| vx_block <| ?_
   refine qb tok hT [1, 3, 5, 6, 7, 72, 73, 74, 75, 76, 77, 78, 79, 80, 83, 84, 85, 86, 87, 88, 89, 90, 91, 92] (St.mk [p 1 (AV.ptr 1 0), p 3 (I v0.1), p 5 (I v3), p 6 (AV.ptr 6 0), p 7 (I v5), p 92 (B ((a0.2.2.2.1.getD v5.toNat (dflt y89)).1 == v4.1 && (a0.2.2.2.1.getD v5.toNat (dflt y89)).2.1 == v4.2.1 && (a0.2.2.2.1.getD v5.toNat (dflt y89)).2.2.1 == v4.2.2.1))] [(6, Ob.box 89 (cellsD false y89 v4)), (1, Ob.box 152 (cellsD false y152 a0))]) H (by kernel_rfl) fun H => ?_
   refine cd H (by kernel_rfl) (fun H => ?_) (fun H => ?_)
   ·refine qa tok hT [2] (St.mk [p 2 (B false)] [(6, Ob.box 89 (cellsD false y89 v4)), (1, Ob.box 152 (cellsD false y152 a0))]) (by kernel_rfl) ?_
    exact vx_ret <| fx_blk_ret <| fx_seq_ret <| t3 <| fx_blk_ret <| fx_blk_ret <| t2 <| t1 <| fx_blk_ret <| t0 <| hr H (by kernel_rfl)
   refine vx_skip <| fx_blk <| fx_seq <| ?_
   refine zb tok hT [1, 3, 5, 6, 7] (St.mk [p 1 (AV.ptr 1 0), p 3 (I v0.1), p 5 (I v3), p 6 (AV.ptr 6 0), p 7 (I (v5 + 1))] [(6, Ob.box 89 (cellsD false y89 v4)), (1, Ob.box 152 (cellsD false y152 a0))]) H (by kernel_rfl) fun H => ?_
   exact b3 H (by kernel_rfl)
  exact vx_exit <| fx_seq_exit <| e3 <| fx_blk_exit rfl <| fx_blk <| n2 H (by kernel_rfl)
 exact vx_exit <| fx_seq_exit <| e1 <| fx_blk_exit rfl <| n0 H (by kernel_rfl)
def u113J0 (a0 : List Y152) : Unit → Option (Bool)
 | _ =>
 some (decide ((↑a0.length : Int) ≤ 8))
def u113J2 (v1 : Int) (g1 : Int → Option (Bool)) : Unit → Option (Bool)
 | _ =>
 gd (in64 (v1 + 1) ∧ True) <| 
 g1 (v1 + 1)
def u113L3 (a0 : List Y152) (v1 : Int) (g1 : Int → Option (Bool)) (g3 : Int → Option (Bool)) : Int → Option (Bool)
 | v2 =>
 if (decide (v2 < v1)) = true then
  gd (ix v2 a0.length ∧ ix v1 a0.length ∧ True) <| 
  if (decide ((a0.getD v2.toNat (dflt y152)).1 = (a0.getD v1.toNat (dflt y152)).1)) = true then
   some false
  else
   gd (in64 (v2 + 1) ∧ True) <| 
   g3 (v2 + 1)
 else
  u113J2 v1 g1 ()
def u113L1 (a0 : List Y152) (g1 : Int → Option (Bool)) : Int → Option (Bool)
 | v1 =>
 if (decide (v1 < (↑a0.length : Int))) = true then
  gd (ix v1 a0.length ∧ (u141 (a0.getD v1.toNat (dflt y152))).isSome = true ∧ True) <| 
  if (!vl (u141 (a0.getD v1.toNat (dflt y152)))) = true then
   some false
  else
   lp (u113L3 a0 v1 g1) 0
 else
  u113J0 a0 ()
def u113 (a0 : List Y152) : Option (Bool) :=
 lp (u113L1 a0) 0
def k113 : Ct := lct 113 [.agg y152.sl] (fun x => u113 x.1) (fun r : Bool => B r) (fun _ => ())
theorem o113 : Ok Tryz.prog k113 := by
 refine okl tok [.tmp 2] Tryz.func113 Tryz.ntmps113 rfl Tryz.results113 (by kernel_rfl) rfl ?_
 intro y ⟨a0, _⟩ r H Q hn hr
 have hT := tc o141 tn
 refine qa tok hT [1] (St.mk [p 1 (AV.ptr 1 0)] [(1, Ob.box 37 [L y152 a0])]) (by kernel_rfl) ?_
 refine jn r (fun (_ : Unit) => St.mk [p 1 (AV.ptr 1 0)] [(1, Ob.box 37 [L y152 a0])]) (u113J0 a0) (fun _ H => ?_) (fun _ n0 e0 t0 => ?_)
 ·refine qa tok hT [2] (St.mk [p 2 (B (decide ((↑a0.length : Int) ≤ 8)))] [(1, Ob.box 37 [L y152 a0])]) (by kernel_rfl) ?_
  exact vx_ret <| hr H (by kernel_rfl)
 refine qa tok hT [1, 3] (St.mk [p 1 (AV.ptr 1 0), p 3 (I 0)] [(1, Ob.box 37 [L y152 a0])]) (by kernel_rfl) ?_
 refine vx_block <| ?_
 refine lx (fun (v1 : Int) => St.mk [p 1 (AV.ptr 1 0), p 3 (I v1)] [(1, Ob.box 37 [L y152 a0])]) 0 H (by kernel_rfl) fun _ g1 b1 e1 t1 v1 H => ?_
 refine vx_seq <| ?_
 refine qa tok hT [1, 3, 9] (St.mk [p 1 (AV.ptr 1 0), p 3 (I v1), p 9 (B (decide (v1 < (↑a0.length : Int))))] [(1, Ob.box 37 [L y152 a0])]) (by kernel_rfl) ?_
 refine cd H (by kernel_rfl) (fun H => ?_) (fun H => ?_)
 ·refine vx_skip <| fx_seq <| ?_
  refine jn r (fun (_ : Unit) => St.mk [p 1 (AV.ptr 1 0), p 3 (I v1)] [(1, Ob.box 37 [L y152 a0])]) (u113J2 v1 g1) (fun _ H => ?_) (fun _ n2 e2 t2 => ?_)
  ·refine zb tok hT [1, 3] (St.mk [p 1 (AV.ptr 1 0), p 3 (I (v1 + 1))] [(1, Ob.box 37 [L y152 a0])]) H (by kernel_rfl) fun H => ?_
   exact b1 H (by kernel_rfl)
  refine vx_block <| vx_seq <| ?_
  refine qb tok hT [1, 3, 18] (St.mk [p 1 (AV.ptr 1 0), p 3 (I v1), p 18 (B !vl (u141 (a0.getD v1.toNat (dflt y152))))] [(1, Ob.box 37 [L y152 a0])]) H (by kernel_rfl) fun H => ?_
  refine cd H (by kernel_rfl) (fun H => ?_) (fun H => ?_)
  ·refine qa tok hT [2] (St.mk [p 2 (B false)] [(1, Ob.box 37 [L y152 a0])]) (by kernel_rfl) ?_
   exact vx_ret <| fx_seq_ret <| fx_blk_ret <| t2 <| t1 <| fx_blk_ret <| t0 <| hr H (by kernel_rfl)
  refine vx_skip <| fx_seq <| ?_
  refine qa tok hT [1, 3, 4] (St.mk [p 1 (AV.ptr 1 0), p 3 (I v1), p 4 (I 0)] [(1, Ob.box 37 [L y152 a0])]) (by kernel_rfl) ?_
  refine vx_block <| ?_
  refine lx (fun (v2 : Int) => St.mk [p 1 (AV.ptr 1 0), p 3 (I v1), p 4 (I v2)] [(1, Ob.box 37 [L y152 a0])]) 0 H (by kernel_rfl) fun _ g3 b3 e3 t3 v2 H => ?_
  refine vx_seq <| ?_
  refine qa tok hT [1, 3, 4, 21] (St.mk [p 1 (AV.ptr 1 0), p 3 (I v1), p 4 (I v2), p 21 (B (decide (v2 < v1)))] [(1, Ob.box 37 [L y152 a0])]) (by kernel_rfl) ?_
  refine cd H (by kernel_rfl) (fun H => ?_) (fun H => ?_)
  ·refine vx_skip <| fx_seq <| vx_seq <| vx_block <| ?_
   refine qb tok hT [1, 3, 4, 36] (St.mk [p 1 (AV.ptr 1 0), p 3 (I v1), p 4 (I v2), p 36 (B (decide ((a0.getD v2.toNat (dflt y152)).1 = (a0.getD v1.toNat (dflt y152)).1)))] [(1, Ob.box 37 [L y152 a0])]) H (by kernel_rfl) fun H => ?_
   refine cd H (by kernel_rfl) (fun H => ?_) (fun H => ?_)
   ·refine qa tok hT [2] (St.mk [p 2 (B false)] [(1, Ob.box 37 [L y152 a0])]) (by kernel_rfl) ?_
    exact vx_ret <| fx_blk_ret <| fx_seq_ret <| t3 <| fx_blk_ret <| fx_blk_ret <| t2 <| t1 <| fx_blk_ret <| t0 <| hr H (by kernel_rfl)
   refine vx_skip <| fx_blk <| fx_seq <| ?_
   refine zb tok hT [1, 3, 4] (St.mk [p 1 (AV.ptr 1 0), p 3 (I v1), p 4 (I (v2 + 1))] [(1, Ob.box 37 [L y152 a0])]) H (by kernel_rfl) fun H => ?_
   exact b3 H (by kernel_rfl)
  exact vx_exit <| fx_seq_exit <| e3 <| fx_blk_exit rfl <| fx_blk <| n2 H (by kernel_rfl)
 exact vx_exit <| fx_seq_exit <| e1 <| fx_blk_exit rfl <| n0 H (by kernel_rfl)
def u69J9 : Unit → Option (Bool)
 | _ =>
 some true
def u69L10 (v20 : List Int) (g10 : Int → Option (Bool)) : Int → Option (Bool)
 | v21 =>
 if (decide (v21 < (↑v20.length : Int))) = true then
  gd (ix v21 v20.length ∧ v21.toNat < v20.length ∧ True) <| 
  if (v20.getD v21.toNat 0 != 1) = true then
   some false
  else
   gd (in64 (v21 + 1) ∧ True) <| 
   g10 (v21 + 1)
 else
  u69J9 ()
def u69J6 : List Int → Option (Bool)
 | v20 =>
 lp (u69L10 v20) 0
def u69J8 (v16 : Int) (g7 : Int × List Int → Option (Bool)) : List Int → Option (Bool)
 | v19 =>
 gd (in64 (v16 + 1) ∧ True) <| 
 g7 (v16 + 1, v19)
def u69L7 (a1 : Y41) (g7 : Int × List Int → Option (Bool)) : Int × List Int → Option (Bool)
 | (v16, v17) =>
 if (decide (v16 < (↑a1.2.2.length : Int))) = true then
  gd (ix v16 a1.2.2.length ∧ True) <| 
  if ((a1.2.2.getD v16.toNat (dflt y143)).2.1 == 1) = true then
   gd (ix v16 a1.2.2.length ∧ ix (a1.2.2.getD v16.toNat (dflt y143)).2.2 v17.length ∧ (a1.2.2.getD v16.toNat (dflt y143)).2.2.toNat < v17.length ∧ in64 (v17.getD (a1.2.2.getD v16.toNat (dflt y143)).2.2.toNat 0 + 1) ∧ ix (a1.2.2.getD v16.toNat (dflt y143)).2.2 v17.length ∧ (a1.2.2.getD v16.toNat (dflt y143)).2.2.toNat < v17.length ∧ True) <| lt (v17.set (a1.2.2.getD v16.toNat (dflt y143)).2.2.toNat (v17.getD (a1.2.2.getD v16.toNat (dflt y143)).2.2.toNat 0 + 1)) fun v18 =>
   u69J8 v16 g7 v18
  else
   u69J8 v16 g7 v17
 else
  u69J6 v17
def u69J4 (a1 : Y41) : List Int → Option (Bool)
 | v13 =>
 lp (u69L7 a1) (0, v13)
def u69L5 (a1 : Y41) (g5 : Int × List Int → Option (Bool)) : Int × List Int → Option (Bool)
 | (v9, v10) =>
 if (decide (v9 < (↑a1.1.length : Int))) = true then
  gd (ix v9 a1.1.length ∧ True) <| lt (a1.1.getD v9.toNat (dflt y141)) fun v11 =>
  gd (in64 ((↑v11.2.2.length : Int) - 1) ∧ ix ((↑v11.2.2.length : Int) - 1) v11.2.2.length ∧ ix (v11.2.2.getD ((↑v11.2.2.length : Int) - 1).toNat 0) v10.length ∧ Int.toNat (v11.2.2.getD ((↑v11.2.2.length : Int) - 1).toNat 0) < v10.length ∧ in64 (v10.getD (Int.toNat (v11.2.2.getD ((↑v11.2.2.length : Int) - 1).toNat 0)) 0 + 1) ∧ ix (v11.2.2.getD ((↑v11.2.2.length : Int) - 1).toNat 0) v10.length ∧ Int.toNat (v11.2.2.getD ((↑v11.2.2.length : Int) - 1).toNat 0) < v10.length ∧ True) <| lt (v10.set (Int.toNat (v11.2.2.getD ((↑v11.2.2.length : Int) - 1).toNat 0)) (v10.getD (Int.toNat (v11.2.2.getD ((↑v11.2.2.length : Int) - 1).toNat 0)) 0 + 1)) fun v12 =>
  gd (in64 (v9 + 1) ∧ True) <| 
  g5 (v9 + 1, v12)
 else
  u69J4 a1 v10
def u69J2 (a1 : Y41) (v2 : List ByteArray) : List ByteArray → Option (Bool)
 | v6 =>
 gd ((u115 v2).isSome = true ∧ ((!vl (u115 v2)) = false ∧ True → (u115 v6).isSome = true) ∧ ((!vl (u115 v2) || !vl (u115 v6)) = false ∧ True → (u115 a1.2.1).isSome = true) ∧ True) <| 
 if (!vl (u115 v2) || !vl (u115 v6) || !vl (u115 a1.2.1)) = true then
  some false
 else
  gd ((0 ≤ (↑a1.2.1.length : Int) ∧ (↑a1.2.1.length : Int) = (↑a1.2.1.length : Int) ∧ (↑a1.2.1.length : Int).toNat * 8 ≤ 281474976710656 ∧ (↑a1.2.1.length : Int) ≤ 9223372036854775807) ∧ True) <| 
  lp (u69L5 a1) ((0, List.replicate (↑a1.2.1.length : Int).toNat 0))
def u69L3 (a1 : Y41) (v2 : List ByteArray) (g3 : Int × List ByteArray → Option (Bool)) : Int × List ByteArray → Option (Bool)
 | (v4, v5) =>
 if (decide (v4 < (↑a1.2.2.length : Int))) = true then
  gd (ix v4 a1.2.2.length ∧ (v5.length + [(a1.2.2.getD v4.toNat (dflt y143)).1].length ≤ 9223372036854775807 ∧ (v5.length + [(a1.2.2.getD v4.toNat (dflt y143)).1].length) * 16 ≤ 140737488355328) ∧ True) <| 
  gd (in64 (v4 + 1) ∧ True) <| 
  g3 ((v4 + 1, v5 ++ [(a1.2.2.getD v4.toNat (dflt y143)).1]))
 else
  u69J2 a1 v2 v5
def u69J0 (a1 : Y41) : List ByteArray → Option (Bool)
 | v2 =>
 lp (u69L3 a1 v2) (0, [])
def u69L1 (a1 : Y41) (g1 : Int × List ByteArray → Option (Bool)) : Int × List ByteArray → Option (Bool)
 | (v0, v1) =>
 if (decide (v0 < (↑a1.1.length : Int))) = true then
  gd (ix v0 a1.1.length ∧ (v1.length + [(a1.1.getD v0.toNat (dflt y141)).1].length ≤ 9223372036854775807 ∧ (v1.length + [(a1.1.getD v0.toNat (dflt y141)).1].length) * 16 ≤ 140737488355328) ∧ True) <| 
  gd (in64 (v0 + 1) ∧ True) <| 
  g1 ((v0 + 1, v1 ++ [(a1.1.getD v0.toNat (dflt y141)).1]))
 else
  u69J0 a1 v1
def u69 (a0 : List Y152) (a1 : Y41) : Option (Bool) :=
 gd ((u113 a0).isSome = true ∧ ((!vl (u113 a0) || decide (14 < (↑a1.1.length : Int)) || decide (30 < (↑a1.2.1.length : Int)) || decide (8 < (↑a1.2.2.length : Int))) = false ∧ True → (u114 a0 a1).isSome = true) ∧ True) <| 
 if (!vl (u113 a0) || decide (14 < (↑a1.1.length : Int)) || decide (30 < (↑a1.2.1.length : Int)) || decide (8 < (↑a1.2.2.length : Int)) || !vl (u114 a0 a1)) = true then
  some false
 else
  lp (u69L1 a1) (0, [])
def k69 : Ct := lct 69 [.agg y152.sl, .agg y41] (fun x => u69 x.1 x.2.1) (fun r : Bool => B r) (fun _ => ())
theorem o69 : Ok Tryz.prog k69 := by
 refine okl tok [.tmp 4] Tryz.func69 Tryz.ntmps69 rfl Tryz.results69 (by kernel_rfl) rfl ?_
 intro y ⟨a0, a1, _⟩ r H Q hn hr
 have hT := tc o115 (tc o114 (tc o113 tn))
 refine qa tok hT [2, 3] (St.mk [p 2 (AV.ptr 2 0), p 3 (AV.ptr 3 0)] [(3, Ob.box 41 (cellsD false y41 a1)), (2, Ob.box 37 [L y152 a0])]) (by kernel_rfl) ?_
 refine vx_seq <| ?_
 refine qb tok hT [3, 40] (St.mk [p 3 (AV.ptr 3 0), p 40 (B (!vl (u113 a0) || decide (14 < (↑a1.1.length : Int)) || decide (30 < (↑a1.2.1.length : Int)) || decide (8 < (↑a1.2.2.length : Int)) || !vl (u114 a0 a1)))] [(3, Ob.box 41 (cellsD false y41 a1)), (2, Ob.box 37 [L y152 a0])]) H (by kernel_rfl) fun H => ?_
 refine cd H (by kernel_rfl) (fun H => ?_) (fun H => ?_)
 ·refine qa tok hT [4] (St.mk [p 4 (B false)] [(3, Ob.box 41 (cellsD false y41 a1)), (2, Ob.box 37 [L y152 a0])]) (by kernel_rfl) ?_
  exact vx_ret <| fx_seq_ret <| hr H (by kernel_rfl)
 refine vx_skip <| fx_seq <| ?_
 refine qa tok hT [3, 5] (St.mk [p 3 (AV.ptr 3 0), p 5 (AV.os 41 0)] [(41, Ob.arr 9 true Ty.str [] 0), (3, Ob.box 41 (cellsD false y41 a1)), (2, Ob.box 37 [L y152 a0])]) (by kernel_rfl) ?_
 refine jn r (fun (v2 : List ByteArray) => St.mk [p 3 (AV.ptr 3 0), p 5 (AV.os 41 0)] [(41, Ob.arr 9 true Ty.str v2 0), (3, Ob.box 41 (cellsD false y41 a1))]) (u69J0 a1) (fun v2 H => ?_) (fun _ n0 e0 t0 => ?_)
 ·refine qa tok hT [3, 5, 7] (St.mk [p 3 (AV.ptr 3 0), p 5 (AV.os 41 0), p 7 (AV.os 58 0)] [(58, Ob.arr 9 true Ty.str [] 0), (41, Ob.arr 9 true Ty.str v2 0), (3, Ob.box 41 (cellsD false y41 a1))]) (by kernel_rfl) ?_
  refine jn r (fun (v6 : List ByteArray) => St.mk [p 3 (AV.ptr 3 0), p 5 (AV.os 41 0), p 7 (AV.os 58 0)] [(58, Ob.arr 9 true Ty.str v6 0), (41, Ob.arr 9 true Ty.str v2 0), (3, Ob.box 41 (cellsD false y41 a1))]) (u69J2 a1 v2) (fun v6 H => ?_) (fun _ n2 e2 t2 => ?_)
  ·refine vx_seq <| ?_
   refine qb tok hT [3, 88] (St.mk [p 3 (AV.ptr 3 0), p 88 (B (!vl (u115 v2) || !vl (u115 v6) || !vl (u115 a1.2.1)))] [(58, Ob.arr 9 true Ty.str v6 0), (41, Ob.arr 9 true Ty.str v2 0), (3, Ob.box 41 (cellsD false y41 a1))]) H (by kernel_rfl) fun H => ?_
   refine cd H (by kernel_rfl) (fun H => ?_) (fun H => ?_)
   ·refine qa tok hT [4] (St.mk [p 4 (B false)] [(58, Ob.arr 9 true Ty.str v6 0), (41, Ob.arr 9 true Ty.str v2 0), (3, Ob.box 41 (cellsD false y41 a1))]) (by kernel_rfl) ?_
    exact vx_ret <| fx_seq_ret <| hr H (by kernel_rfl)
   refine vx_skip <| fx_seq <| ?_
   refine qb tok hT [3, 9] (St.mk [p 3 (AV.ptr 3 0), p 9 (AV.os 92 0)] [(92, Ob.arr 2 true i64 (List.replicate (↑a1.2.1.length : Int).toNat 0) 0), (58, Ob.arr 9 true Ty.str v6 0), (41, Ob.arr 9 true Ty.str v2 0), (3, Ob.box 41 (cellsD false y41 a1))]) H (by kernel_rfl) fun H => ?_
   refine jn r (fun (v13 : List Int) => St.mk [p 3 (AV.ptr 3 0), p 9 (AV.os 92 0)] [(92, Ob.arr 2 true i64 v13 0), (3, Ob.box 41 (cellsD false y41 a1))]) (u69J4 a1) (fun v13 H => ?_) (fun _ n4 e4 t4 => ?_)
   ·refine jn r (fun (v20 : List Int) => St.mk [p 9 (AV.os 92 0)] [(92, Ob.arr 2 true i64 v20 0)]) (u69J6) (fun v20 H => ?_) (fun _ n6 e6 t6 => ?_)
    ·refine jn r (fun (_ : Unit) => St.mk [] []) (u69J9) (fun _ H => ?_) (fun _ n9 e9 t9 => ?_)
     ·refine qa tok hT [4] (St.mk [p 4 (B true)] []) (by kernel_rfl) ?_
      exact vx_ret <| hr H (by kernel_rfl)
     refine qa tok hT [9, 13] (St.mk [p 9 (AV.os 92 0), p 13 (I 0)] [(92, Ob.arr 2 true i64 v20 0)]) (by kernel_rfl) ?_
     refine vx_block <| ?_
     refine lx (fun (v21 : Int) => St.mk [p 9 (AV.os 92 0), p 13 (I v21)] [(92, Ob.arr 2 true i64 v20 0)]) 0 H (by kernel_rfl) fun _ g10 b10 e10 t10 v21 H => ?_
     refine vx_seq <| ?_
     refine qa tok hT [9, 13, 145] (St.mk [p 9 (AV.os 92 0), p 13 (I v21), p 145 (B (decide (v21 < (↑v20.length : Int))))] [(92, Ob.arr 2 true i64 v20 0)]) (by kernel_rfl) ?_
     refine cd H (by kernel_rfl) (fun H => ?_) (fun H => ?_)
     ·refine vx_skip <| fx_seq <| vx_seq <| vx_block <| ?_
      refine qb tok hT [9, 13, 152] (St.mk [p 9 (AV.os 92 0), p 13 (I v21), p 152 (B (v20.getD v21.toNat 0 != 1))] [(92, Ob.arr 2 true i64 v20 0)]) H (by kernel_rfl) fun H => ?_
      refine cd H (by kernel_rfl) (fun H => ?_) (fun H => ?_)
      ·refine qa tok hT [4] (St.mk [p 4 (B false)] [(92, Ob.arr 2 true i64 v20 0)]) (by kernel_rfl) ?_
       exact vx_ret <| fx_blk_ret <| fx_seq_ret <| t10 <| fx_blk_ret <| t9 <| hr H (by kernel_rfl)
      refine vx_skip <| fx_blk <| fx_seq <| ?_
      refine zb tok hT [9, 13] (St.mk [p 9 (AV.os 92 0), p 13 (I (v21 + 1))] [(92, Ob.arr 2 true i64 v20 0)]) H (by kernel_rfl) fun H => ?_
      exact b10 H (by kernel_rfl)
     exact vx_exit <| fx_seq_exit <| e10 <| fx_blk_exit rfl <| n9 H (by kernel_rfl)
    refine qa tok hT [3, 9, 12] (St.mk [p 3 (AV.ptr 3 0), p 9 (AV.os 92 0), p 12 (I 0)] [(92, Ob.arr 2 true i64 v13 0), (3, Ob.box 41 (cellsD false y41 a1))]) (by kernel_rfl) ?_
    refine vx_block <| ?_
    refine lx (fun ((v16, v17) : Int × List Int) => St.mk [p 3 (AV.ptr 3 0), p 9 (AV.os 92 0), p 12 (I v16)] [(92, Ob.arr 2 true i64 v17 0), (3, Ob.box 41 (cellsD false y41 a1))]) (0, v13) H (by kernel_rfl) fun _ g7 b7 e7 t7 ⟨v16, v17⟩ H => ?_
    refine vx_seq <| ?_
    refine qa tok hT [3, 9, 12, 121] (St.mk [p 3 (AV.ptr 3 0), p 9 (AV.os 92 0), p 12 (I v16), p 121 (B (decide (v16 < (↑a1.2.2.length : Int))))] [(92, Ob.arr 2 true i64 v17 0), (3, Ob.box 41 (cellsD false y41 a1))]) (by kernel_rfl) ?_
    refine cd H (by kernel_rfl) (fun H => ?_) (fun H => ?_)
    ·refine vx_skip <| fx_seq <| ?_
     refine jn r (fun (v19 : List Int) => St.mk [p 3 (AV.ptr 3 0), p 9 (AV.os 92 0), p 12 (I v16)] [(92, Ob.arr 2 true i64 v19 0), (3, Ob.box 41 (cellsD false y41 a1))]) (u69J8 v16 g7) (fun v19 H => ?_) (fun _ n8 e8 t8 => ?_)
     ·refine zb tok hT [3, 9, 12] (St.mk [p 3 (AV.ptr 3 0), p 9 (AV.os 92 0), p 12 (I (v16 + 1))] [(92, Ob.arr 2 true i64 v19 0), (3, Ob.box 41 (cellsD false y41 a1))]) H (by kernel_rfl) fun H => ?_
      exact b7 H (by kernel_rfl)
     refine vx_block <| ?_
     refine qb tok hT [3, 9, 12, 130] (St.mk [p 3 (AV.ptr 3 0), p 9 (AV.os 92 0), p 12 (I v16), p 130 (B ((a1.2.2.getD v16.toNat (dflt y143)).2.1 == 1))] [(92, Ob.arr 2 true i64 v17 0), (3, Ob.box 41 (cellsD false y41 a1))]) H (by kernel_rfl) fun H => ?_
     refine cd H (by kernel_rfl) (fun H => ?_) (fun H => ?_)
     ·refine zd tok hT [3, 9, 12] (fun v18 => St.mk [p 3 (AV.ptr 3 0), p 9 (AV.os 92 0), p 12 (I v16)] [(92, Ob.arr 2 true i64 v18 0), (3, Ob.box 41 (cellsD false y41 a1))]) H (by kernel_rfl) fun v18 H => ?_
      exact fx_blk <| n8 H (by kernel_rfl)
     exact vx_skip <| fx_blk <| n8 H (by kernel_rfl)
    exact vx_exit <| fx_seq_exit <| e7 <| fx_blk_exit rfl <| n6 H (by kernel_rfl)
   refine qa tok hT [3, 9, 10] (St.mk [p 3 (AV.ptr 3 0), p 9 (AV.os 92 0), p 10 (I 0)] [(92, Ob.arr 2 true i64 (List.replicate (↑a1.2.1.length : Int).toNat 0) 0), (58, Ob.arr 9 true Ty.str v6 0), (41, Ob.arr 9 true Ty.str v2 0), (3, Ob.box 41 (cellsD false y41 a1))]) (by kernel_rfl) ?_
   refine vx_block <| ?_
   refine lx (fun ((v9, v10) : Int × List Int) => St.mk [p 3 (AV.ptr 3 0), p 9 (AV.os 92 0), p 10 (I v9)] [(92, Ob.arr 2 true i64 v10 0), (3, Ob.box 41 (cellsD false y41 a1))]) ((0, List.replicate (↑a1.2.1.length : Int).toNat 0)) H (by kernel_rfl) fun _ g5 b5 e5 t5 ⟨v9, v10⟩ H => ?_
   refine vx_seq <| ?_
   refine qa tok hT [3, 9, 10, 97] (St.mk [p 3 (AV.ptr 3 0), p 9 (AV.os 92 0), p 10 (I v9), p 97 (B (decide (v9 < (↑a1.1.length : Int))))] [(92, Ob.arr 2 true i64 v10 0), (3, Ob.box 41 (cellsD false y41 a1))]) (by kernel_rfl) ?_
   refine cd H (by kernel_rfl) (fun H => ?_) (fun H => ?_)
   ·refine vx_skip <| fx_seq <| vx_seq <| vx_block <| ?_
    refine qd tok hT [3, 9, 10, 11] (fun v11 => St.mk [p 3 (AV.ptr 3 0), p 9 (AV.os 92 0), p 10 (I v9), p 11 (L i64 v11.2.2)] [(92, Ob.arr 2 true i64 v10 0), (3, Ob.box 41 (cellsD false y41 a1))]) H (by kernel_rfl) fun v11 H => ?_
    refine zd tok hT [3, 9, 10] (fun v12 => St.mk [p 3 (AV.ptr 3 0), p 9 (AV.os 92 0), p 10 (I v9)] [(92, Ob.arr 2 true i64 v12 0), (3, Ob.box 41 (cellsD false y41 a1))]) H (by kernel_rfl) fun v12 H => ?_
    refine fx_blk <| fx_seq <| ?_
    refine zb tok hT [3, 9, 10] (St.mk [p 3 (AV.ptr 3 0), p 9 (AV.os 92 0), p 10 (I (v9 + 1))] [(92, Ob.arr 2 true i64 v12 0), (3, Ob.box 41 (cellsD false y41 a1))]) H (by kernel_rfl) fun H => ?_
    exact b5 H (by kernel_rfl)
   exact vx_exit <| fx_seq_exit <| e5 <| fx_blk_exit rfl <| n4 H (by kernel_rfl)
  refine qa tok hT [3, 5, 7, 8] (St.mk [p 3 (AV.ptr 3 0), p 5 (AV.os 41 0), p 7 (AV.os 58 0), p 8 (I 0)] [(58, Ob.arr 9 true Ty.str [] 0), (41, Ob.arr 9 true Ty.str v2 0), (3, Ob.box 41 (cellsD false y41 a1))]) (by kernel_rfl) ?_
  refine vx_block <| ?_
  refine lx (fun ((v4, v5) : Int × List ByteArray) => St.mk [p 3 (AV.ptr 3 0), p 5 (AV.os 41 0), p 7 (AV.os 58 0), p 8 (I v4)] [(58, Ob.arr 9 true Ty.str v5 0), (41, Ob.arr 9 true Ty.str v2 0), (3, Ob.box 41 (cellsD false y41 a1))]) (0, []) H (by kernel_rfl) fun _ g3 b3 e3 t3 ⟨v4, v5⟩ H => ?_
  refine vx_seq <| ?_
  refine qa tok hT [3, 5, 7, 8, 63] (St.mk [p 3 (AV.ptr 3 0), p 5 (AV.os 41 0), p 7 (AV.os 58 0), p 8 (I v4), p 63 (B (decide (v4 < (↑a1.2.2.length : Int))))] [(58, Ob.arr 9 true Ty.str v5 0), (41, Ob.arr 9 true Ty.str v2 0), (3, Ob.box 41 (cellsD false y41 a1))]) (by kernel_rfl) ?_
  refine cd H (by kernel_rfl) (fun H => ?_) (fun H => ?_)
  ·refine vx_skip <| fx_seq <| vx_seq <| vx_block <| ?_
   refine zb tok hT [3, 5, 7, 8] (St.mk [p 3 (AV.ptr 3 0), p 5 (AV.os 41 0), p 7 (AV.os 58 1), p 8 (I v4)] [(58, Ob.arr 9 true Ty.str (v5 ++ [(a1.2.2.getD v4.toNat (dflt y143)).1]) 1), (73, Ob.arr 9 true Ty.str [(a1.2.2.getD v4.toNat (dflt y143)).1] 0), (41, Ob.arr 9 true Ty.str v2 0), (3, Ob.box 41 (cellsD false y41 a1))]) H (by kernel_rfl) fun H => ?_
   refine fx_blk <| fx_seq <| ?_
   refine zb tok hT [3, 5, 7, 8] (St.mk [p 3 (AV.ptr 3 0), p 5 (AV.os 41 0), p 7 (AV.os 58 1), p 8 (I (v4 + 1))] [(58, Ob.arr 9 true Ty.str (v5 ++ [(a1.2.2.getD v4.toNat (dflt y143)).1]) 1), (73, Ob.arr 9 true Ty.str [(a1.2.2.getD v4.toNat (dflt y143)).1] 0), (41, Ob.arr 9 true Ty.str v2 0), (3, Ob.box 41 (cellsD false y41 a1))]) H (by kernel_rfl) fun H => ?_
   exact b3 H (by kernel_rfl)
  exact vx_exit <| fx_seq_exit <| e3 <| fx_blk_exit rfl <| n2 H (by kernel_rfl)
 refine qa tok hT [3, 5, 6] (St.mk [p 3 (AV.ptr 3 0), p 5 (AV.os 41 0), p 6 (I 0)] [(41, Ob.arr 9 true Ty.str [] 0), (3, Ob.box 41 (cellsD false y41 a1)), (2, Ob.box 37 [L y152 a0])]) (by kernel_rfl) ?_
 refine vx_block <| ?_
 refine lx (fun ((v0, v1) : Int × List ByteArray) => St.mk [p 3 (AV.ptr 3 0), p 5 (AV.os 41 0), p 6 (I v0)] [(41, Ob.arr 9 true Ty.str v1 0), (3, Ob.box 41 (cellsD false y41 a1))]) (0, []) H (by kernel_rfl) fun _ g1 b1 e1 t1 ⟨v0, v1⟩ H => ?_
 refine vx_seq <| ?_
 refine qa tok hT [3, 5, 6, 46] (St.mk [p 3 (AV.ptr 3 0), p 5 (AV.os 41 0), p 6 (I v0), p 46 (B (decide (v0 < (↑a1.1.length : Int))))] [(41, Ob.arr 9 true Ty.str v1 0), (3, Ob.box 41 (cellsD false y41 a1))]) (by kernel_rfl) ?_
 refine cd H (by kernel_rfl) (fun H => ?_) (fun H => ?_)
 ·refine vx_skip <| fx_seq <| vx_seq <| vx_block <| ?_
  refine zb tok hT [3, 5, 6] (St.mk [p 3 (AV.ptr 3 0), p 5 (AV.os 41 1), p 6 (I v0)] [(41, Ob.arr 9 true Ty.str (v1 ++ [(a1.1.getD v0.toNat (dflt y141)).1]) 1), (56, Ob.arr 9 true Ty.str [(a1.1.getD v0.toNat (dflt y141)).1] 0), (3, Ob.box 41 (cellsD false y41 a1))]) H (by kernel_rfl) fun H => ?_
  refine fx_blk <| fx_seq <| ?_
  refine zb tok hT [3, 5, 6] (St.mk [p 3 (AV.ptr 3 0), p 5 (AV.os 41 1), p 6 (I (v0 + 1))] [(41, Ob.arr 9 true Ty.str (v1 ++ [(a1.1.getD v0.toNat (dflt y141)).1]) 1), (56, Ob.arr 9 true Ty.str [(a1.1.getD v0.toNat (dflt y141)).1] 0), (3, Ob.box 41 (cellsD false y41 a1))]) H (by kernel_rfl) fun H => ?_
  exact b1 H (by kernel_rfl)
 exact vx_exit <| fx_seq_exit <| e1 <| fx_blk_exit rfl <| n0 H (by kernel_rfl)
def u30J0 : Unit → Option (Bool)
 | _ =>
 some true
def u30L1 (a0 : Y44) (g1 : Int → Option (Bool)) : Int → Option (Bool)
 | v1 =>
 if (decide (v1 < (↑a0.2.2.length : Int))) = true then
  gd (ix v1 a0.2.2.length ∧ (u71 a0.2.1 v1).isSome = true ∧ (u70 (a0.2.2.getD v1.toNat (dflt y131)) (↑(vl (u71 a0.2.1 v1)).length : Int)).isSome = true ∧ True) <| lt (vl (u71 a0.2.1 v1)) fun v2 =>
  if (!vl (u70 (a0.2.2.getD v1.toNat (dflt y131)) (↑v2.length : Int))) = true then
   some false
  else
   gd (in64 (v1 + 1) ∧ True) <| 
   g1 (v1 + 1)
 else
  u30J0 ()
def u30 (a0 : Y44) : Option (Bool) :=
 gd ((u69 a0.1 a0.2.1).isSome = true ∧ True) <| 
 if (!vl (u69 a0.1 a0.2.1) || (↑a0.2.2.length : Int) != (↑a0.2.1.2.1.length : Int)) = true then
  some false
 else
  lp (u30L1 a0) 0
def k30 : Ct := lct 30 [.agg y44] (fun x => u30 x.1) (fun r : Bool => B r) (fun _ => ())
theorem o30 : Ok Tryz.prog k30 := by
 refine okl tok [.tmp 2] Tryz.func30 Tryz.ntmps30 rfl Tryz.results30 (by kernel_rfl) rfl ?_
 intro y ⟨a0, _⟩ r H Q hn hr
 have hT := tc o70 (tc o71 (tc o69 tn))
 refine qa tok hT [1] (St.mk [p 1 (AV.ptr 1 0)] [(1, Ob.box 44 (cellsD false y44 a0))]) (by kernel_rfl) ?_
 refine vx_seq <| ?_
 refine qb tok hT [1, 19] (St.mk [p 1 (AV.ptr 1 0), p 19 (B (!vl (u69 a0.1 a0.2.1) || (↑a0.2.2.length : Int) != (↑a0.2.1.2.1.length : Int)))] [(1, Ob.box 44 (cellsD false y44 a0))]) H (by kernel_rfl) fun H => ?_
 refine cd H (by kernel_rfl) (fun H => ?_) (fun H => ?_)
 ·refine qa tok hT [2] (St.mk [p 2 (B false)] [(1, Ob.box 44 (cellsD false y44 a0))]) (by kernel_rfl) ?_
  exact vx_ret <| fx_seq_ret <| hr H (by kernel_rfl)
 refine vx_skip <| fx_seq <| ?_
 refine jn r (fun (_ : Unit) => St.mk [] []) (u30J0) (fun _ H => ?_) (fun _ n0 e0 t0 => ?_)
 ·refine qa tok hT [2] (St.mk [p 2 (B true)] []) (by kernel_rfl) ?_
  exact vx_ret <| hr H (by kernel_rfl)
 refine qa tok hT [1, 3] (St.mk [p 1 (AV.ptr 1 0), p 3 (I 0)] [(1, Ob.box 44 (cellsD false y44 a0))]) (by kernel_rfl) ?_
 refine vx_block <| ?_
 refine lx (fun (v1 : Int) => St.mk [p 1 (AV.ptr 1 0), p 3 (I v1)] [(1, Ob.box 44 (cellsD false y44 a0))]) 0 H (by kernel_rfl) fun _ g1 b1 e1 t1 v1 H => ?_
 refine vx_seq <| ?_
 refine qa tok hT [1, 3, 24] (St.mk [p 1 (AV.ptr 1 0), p 3 (I v1), p 24 (B (decide (v1 < (↑a0.2.2.length : Int))))] [(1, Ob.box 44 (cellsD false y44 a0))]) (by kernel_rfl) ?_
 refine cd H (by kernel_rfl) (fun H => ?_) (fun H => ?_)
 ·refine vx_skip <| fx_seq <| vx_seq <| vx_block <| ?_
  refine qd tok hT [1, 3, 38] (fun v2 => St.mk [p 1 (AV.ptr 1 0), p 3 (I v1), p 38 (B !vl (u70 (a0.2.2.getD v1.toNat (dflt y131)) (↑v2.length : Int)))] [(35, Ob.arr 2 true i64 v2 0), (1, Ob.box 44 (cellsD false y44 a0))]) H (by kernel_rfl) fun v2 H => ?_
  refine cd H (by kernel_rfl) (fun H => ?_) (fun H => ?_)
  ·refine qa tok hT [2] (St.mk [p 2 (B false)] [(35, Ob.arr 2 true i64 v2 0), (1, Ob.box 44 (cellsD false y44 a0))]) (by kernel_rfl) ?_
   exact vx_ret <| fx_blk_ret <| fx_seq_ret <| t1 <| fx_blk_ret <| t0 <| hr H (by kernel_rfl)
  refine vx_skip <| fx_blk <| fx_seq <| ?_
  refine zb tok hT [1, 3] (St.mk [p 1 (AV.ptr 1 0), p 3 (I (v1 + 1))] [(35, Ob.arr 2 true i64 v2 0), (1, Ob.box 44 (cellsD false y44 a0))]) H (by kernel_rfl) fun H => ?_
  exact b1 H (by kernel_rfl)
 exact vx_exit <| fx_seq_exit <| e1 <| fx_blk_exit rfl <| n0 H (by kernel_rfl)
def u23 (a0 : Y44) (a1 : Y68) : Option (Bool) :=
 gd ((u30 a0).isSome = true ∧ (vl (u30 a0) = true ∧ True → (u31 a0).isSome = true) ∧ (vl (u30 a0) = true ∧ True → (u58 (vl (u31 a0)) a1).isSome = true) ∧ True) <| 
 some (vl (u30 a0) && vl (u58 (vl (u31 a0)) a1))
def k23 : Ct := lct 23 [.agg y44, .agg y68] (fun x => u23 x.1 x.2.1) (fun r : Bool => B r) (fun _ => ())
theorem o23 : Ok Tryz.prog k23 := by
 refine okl tok [.tmp 4] Tryz.func23 Tryz.ntmps23 rfl Tryz.results23 (by kernel_rfl) rfl ?_
 intro y ⟨a0, a1, _⟩ r H Q hn hr
 have hT := tc o58 (tc o31 (tc o30 tn))
 refine qa tok hT [2, 3] (St.mk [p 2 (AV.ptr 2 0), p 3 (AV.ptr 3 0)] [(3, Ob.box 68 (cellsD false y68 a1)), (2, Ob.box 44 (cellsD false y44 a0))]) (by kernel_rfl) ?_
 refine qb tok hT [4] (St.mk [p 4 (B (vl (u30 a0) && vl (u58 (vl (u31 a0)) a1)))] [(3, Ob.box 68 (cellsD false y68 a1)), (2, Ob.box 44 (cellsD false y44 a0))]) H (by kernel_rfl) fun H => ?_
 exact vx_ret <| hr H (by kernel_rfl)
def u57 (a0 : List Y109) (a1 : Int) : Option (Int) :=
 gd (in64 (a1 - (↑a0.length : Int)) ∧ True) <| 
 if (decide (a1 - (↑a0.length : Int) < 0)) = true then
  some (-1)
 else
  some (a1 - (↑a0.length : Int))
def k57 : Ct := lct 57 [.dat y109.sl, .dat i64] (fun x => u57 x.1 x.2.1) (fun r : Int => I r) (fun _ => ())
theorem o57 : Ok Tryz.prog k57 := by
 refine okl tok [.tmp 4] Tryz.func57 Tryz.ntmps57 rfl Tryz.results57 (by kernel_rfl) rfl ?_
 intro y ⟨a0, a1, _⟩ r H Q hn hr
 have hT := @tn Tryz.prog
 refine qa tok hT [0, 1] (St.mk [p 0 (L y109 a0), p 1 (J a1)] []) (by kernel_rfl) ?_
 refine qb tok hT [1] (St.mk [p 1 (I (a1 - (↑a0.length : Int)))] []) H (by kernel_rfl) fun H => ?_
 refine vx_seq <| ?_
 refine qa tok hT [1, 10] (St.mk [p 1 (I (a1 - (↑a0.length : Int))), p 10 (B (decide (a1 - (↑a0.length : Int) < 0)))] []) (by kernel_rfl) ?_
 refine cd H (by kernel_rfl) (fun H => ?_) (fun H => ?_)
 ·refine qa tok hT [4] (St.mk [p 4 (I (-1))] []) (by kernel_rfl) ?_
  exact vx_ret <| fx_seq_ret <| hr H (by kernel_rfl)
 refine vx_skip <| fx_seq <| ?_
 refine qa tok hT [4] (St.mk [p 4 (I (a1 - (↑a0.length : Int)))] []) (by kernel_rfl) ?_
 exact vx_ret <| hr H (by kernel_rfl)
def u56 (a0 : List Bool) (a1 : Int) : Option (Int) :=
 gd (in64 (a1 - (↑a0.length : Int)) ∧ True) <| 
 if (decide (a1 - (↑a0.length : Int) < 0)) = true then
  some (-1)
 else
  some (a1 - (↑a0.length : Int))
def k56 : Ct := lct 56 [.dat Ty.bool.sl, .dat i64] (fun x => u56 x.1 x.2.1) (fun r : Int => I r) (fun _ => ())
theorem o56 : Ok Tryz.prog k56 := by
 refine okl tok [.tmp 4] Tryz.func56 Tryz.ntmps56 rfl Tryz.results56 (by kernel_rfl) rfl ?_
 intro y ⟨a0, a1, _⟩ r H Q hn hr
 have hT := @tn Tryz.prog
 refine qa tok hT [0, 1] (St.mk [p 0 (L Ty.bool a0), p 1 (J a1)] []) (by kernel_rfl) ?_
 refine qb tok hT [1] (St.mk [p 1 (I (a1 - (↑a0.length : Int)))] []) H (by kernel_rfl) fun H => ?_
 refine vx_seq <| ?_
 refine qa tok hT [1, 10] (St.mk [p 1 (I (a1 - (↑a0.length : Int))), p 10 (B (decide (a1 - (↑a0.length : Int) < 0)))] []) (by kernel_rfl) ?_
 refine cd H (by kernel_rfl) (fun H => ?_) (fun H => ?_)
 ·refine qa tok hT [4] (St.mk [p 4 (I (-1))] []) (by kernel_rfl) ?_
  exact vx_ret <| fx_seq_ret <| hr H (by kernel_rfl)
 refine vx_skip <| fx_seq <| ?_
 refine qa tok hT [4] (St.mk [p 4 (I (a1 - (↑a0.length : Int)))] []) (by kernel_rfl) ?_
 exact vx_ret <| hr H (by kernel_rfl)
def u22 (a0 : Y63) (a1 : Int) : Option (Int) :=
 gd ((u56 a0.1 a1).isSome = true ∧ True) <| lt (vl (u56 a0.1 a1)) fun v0 =>
 if (decide (v0 < 0)) = true then
  some (-1)
 else
  gd ((u57 a0.2.1 v0).isSome = true ∧ True) <| lt (vl (u57 a0.2.1 v0)) fun v1 =>
  if (decide (v1 < 0)) = true then
   some (-1)
  else
   gd ((u57 a0.2.2 v1).isSome = true ∧ True) <| lt (vl (u57 a0.2.2 v1)) fun v2 =>
   if (decide (v2 < 0)) = true then
    some (-1)
   else
    some v2
def k22 : Ct := lct 22 [.agg y63, .dat i64] (fun x => u22 x.1 x.2.1) (fun r : Int => I r) (fun _ => ())
theorem o22 : Ok Tryz.prog k22 := by
 refine okl tok [.tmp 4] Tryz.func22 Tryz.ntmps22 rfl Tryz.results22 (by kernel_rfl) rfl ?_
 intro y ⟨a0, a1, _⟩ r H Q hn hr
 have hT := tc o57 (tc o56 tn)
 refine qa tok hT [1, 2] (St.mk [p 1 (J a1), p 2 (AV.ptr 2 0)] [(2, Ob.box 63 (cellsD false y63 a0))]) (by kernel_rfl) ?_
 refine qd tok hT [1, 2] (fun v0 => St.mk [p 1 (I v0), p 2 (AV.ptr 2 0)] [(2, Ob.box 63 (cellsD false y63 a0))]) H (by kernel_rfl) fun v0 H => ?_
 refine vx_seq <| ?_
 refine qa tok hT [1, 2, 10] (St.mk [p 1 (I v0), p 2 (AV.ptr 2 0), p 10 (B (decide (v0 < 0)))] [(2, Ob.box 63 (cellsD false y63 a0))]) (by kernel_rfl) ?_
 refine cd H (by kernel_rfl) (fun H => ?_) (fun H => ?_)
 ·refine qa tok hT [4] (St.mk [p 4 (I (-1))] [(2, Ob.box 63 (cellsD false y63 a0))]) (by kernel_rfl) ?_
  exact vx_ret <| fx_seq_ret <| hr H (by kernel_rfl)
 refine vx_skip <| fx_seq <| ?_
 refine qd tok hT [1, 2] (fun v1 => St.mk [p 1 (I v1), p 2 (AV.ptr 2 0)] [(2, Ob.box 63 (cellsD false y63 a0))]) H (by kernel_rfl) fun v1 H => ?_
 refine vx_seq <| ?_
 refine qa tok hT [1, 2, 16] (St.mk [p 1 (I v1), p 2 (AV.ptr 2 0), p 16 (B (decide (v1 < 0)))] [(2, Ob.box 63 (cellsD false y63 a0))]) (by kernel_rfl) ?_
 refine cd H (by kernel_rfl) (fun H => ?_) (fun H => ?_)
 ·refine qa tok hT [4] (St.mk [p 4 (I (-1))] [(2, Ob.box 63 (cellsD false y63 a0))]) (by kernel_rfl) ?_
  exact vx_ret <| fx_seq_ret <| hr H (by kernel_rfl)
 refine vx_skip <| fx_seq <| ?_
 refine qd tok hT [1] (fun v2 => St.mk [p 1 (I v2)] [(2, Ob.box 63 (cellsD false y63 a0))]) H (by kernel_rfl) fun v2 H => ?_
 refine vx_seq <| ?_
 refine qa tok hT [1, 22] (St.mk [p 1 (I v2), p 22 (B (decide (v2 < 0)))] [(2, Ob.box 63 (cellsD false y63 a0))]) (by kernel_rfl) ?_
 refine cd H (by kernel_rfl) (fun H => ?_) (fun H => ?_)
 ·refine qa tok hT [4] (St.mk [p 4 (I (-1))] [(2, Ob.box 63 (cellsD false y63 a0))]) (by kernel_rfl) ?_
  exact vx_ret <| fx_seq_ret <| hr H (by kernel_rfl)
 refine vx_skip <| fx_seq <| ?_
 refine qa tok hT [4] (St.mk [p 4 (I v2)] [(2, Ob.box 63 (cellsD false y63 a0))]) (by kernel_rfl) ?_
 exact vx_ret <| hr H (by kernel_rfl)
def u112 (a0 : List Int) (a1 : Int) : Option (Int) :=
 gd (in64 (a1 - (↑a0.length : Int)) ∧ True) <| 
 if (decide (a1 - (↑a0.length : Int) < 0)) = true then
  some (-1)
 else
  some (a1 - (↑a0.length : Int))
def k112 : Ct := lct 112 [.dat i64.sl, .dat i64] (fun x => u112 x.1 x.2.1) (fun r : Int => I r) (fun _ => ())
theorem o112 : Ok Tryz.prog k112 := by
 refine okl tok [.tmp 4] Tryz.func112 Tryz.ntmps112 rfl Tryz.results112 (by kernel_rfl) rfl ?_
 intro y ⟨a0, a1, _⟩ r H Q hn hr
 have hT := @tn Tryz.prog
 refine qa tok hT [0, 1] (St.mk [p 0 (L i64 a0), p 1 (J a1)] []) (by kernel_rfl) ?_
 refine qb tok hT [1] (St.mk [p 1 (I (a1 - (↑a0.length : Int)))] []) H (by kernel_rfl) fun H => ?_
 refine vx_seq <| ?_
 refine qa tok hT [1, 10] (St.mk [p 1 (I (a1 - (↑a0.length : Int))), p 10 (B (decide (a1 - (↑a0.length : Int) < 0)))] []) (by kernel_rfl) ?_
 refine cd H (by kernel_rfl) (fun H => ?_) (fun H => ?_)
 ·refine qa tok hT [4] (St.mk [p 4 (I (-1))] []) (by kernel_rfl) ?_
  exact vx_ret <| fx_seq_ret <| hr H (by kernel_rfl)
 refine vx_skip <| fx_seq <| ?_
 refine qa tok hT [4] (St.mk [p 4 (I (a1 - (↑a0.length : Int)))] []) (by kernel_rfl) ?_
 exact vx_ret <| hr H (by kernel_rfl)
def u68 (a0 : Y128) (a1 : Int) : Option (Int) :=
 gd ((u112 a0.1 a1).isSome = true ∧ True) <| lt (vl (u112 a0.1 a1)) fun v0 =>
 if (decide (v0 < 0)) = true then
  some (-1)
 else
  gd ((u112 a0.2.1 v0).isSome = true ∧ True) <| lt (vl (u112 a0.2.1 v0)) fun v1 =>
  if (decide (v1 < 0)) = true then
   some (-1)
  else
   gd ((u112 a0.2.2.1 v1).isSome = true ∧ True) <| lt (vl (u112 a0.2.2.1 v1)) fun v2 =>
   if (decide (v2 < 0)) = true then
    some (-1)
   else
    gd ((u112 a0.2.2.2 v2).isSome = true ∧ True) <| lt (vl (u112 a0.2.2.2 v2)) fun v3 =>
    if (decide (v3 < 0)) = true then
     some (-1)
    else
     some v3
def k68 : Ct := lct 68 [.agg y128, .dat i64] (fun x => u68 x.1 x.2.1) (fun r : Int => I r) (fun _ => ())
theorem o68 : Ok Tryz.prog k68 := by
 refine okl tok [.tmp 4] Tryz.func68 Tryz.ntmps68 rfl Tryz.results68 (by kernel_rfl) rfl ?_
 intro y ⟨a0, a1, _⟩ r H Q hn hr
 have hT := tc o112 tn
 refine qa tok hT [1, 2] (St.mk [p 1 (J a1), p 2 (AV.ptr 2 0)] [(2, Ob.box 128 (cellsD false y128 a0))]) (by kernel_rfl) ?_
 refine qd tok hT [1, 2] (fun v0 => St.mk [p 1 (I v0), p 2 (AV.ptr 2 0)] [(2, Ob.box 128 (cellsD false y128 a0))]) H (by kernel_rfl) fun v0 H => ?_
 refine vx_seq <| ?_
 refine qa tok hT [1, 2, 10] (St.mk [p 1 (I v0), p 2 (AV.ptr 2 0), p 10 (B (decide (v0 < 0)))] [(2, Ob.box 128 (cellsD false y128 a0))]) (by kernel_rfl) ?_
 refine cd H (by kernel_rfl) (fun H => ?_) (fun H => ?_)
 ·refine qa tok hT [4] (St.mk [p 4 (I (-1))] [(2, Ob.box 128 (cellsD false y128 a0))]) (by kernel_rfl) ?_
  exact vx_ret <| fx_seq_ret <| hr H (by kernel_rfl)
 refine vx_skip <| fx_seq <| ?_
 refine qd tok hT [1, 2] (fun v1 => St.mk [p 1 (I v1), p 2 (AV.ptr 2 0)] [(2, Ob.box 128 (cellsD false y128 a0))]) H (by kernel_rfl) fun v1 H => ?_
 refine vx_seq <| ?_
 refine qa tok hT [1, 2, 16] (St.mk [p 1 (I v1), p 2 (AV.ptr 2 0), p 16 (B (decide (v1 < 0)))] [(2, Ob.box 128 (cellsD false y128 a0))]) (by kernel_rfl) ?_
 refine cd H (by kernel_rfl) (fun H => ?_) (fun H => ?_)
 ·refine qa tok hT [4] (St.mk [p 4 (I (-1))] [(2, Ob.box 128 (cellsD false y128 a0))]) (by kernel_rfl) ?_
  exact vx_ret <| fx_seq_ret <| hr H (by kernel_rfl)
 refine vx_skip <| fx_seq <| ?_
 refine qd tok hT [1, 2] (fun v2 => St.mk [p 1 (I v2), p 2 (AV.ptr 2 0)] [(2, Ob.box 128 (cellsD false y128 a0))]) H (by kernel_rfl) fun v2 H => ?_
 refine vx_seq <| ?_
 refine qa tok hT [1, 2, 22] (St.mk [p 1 (I v2), p 2 (AV.ptr 2 0), p 22 (B (decide (v2 < 0)))] [(2, Ob.box 128 (cellsD false y128 a0))]) (by kernel_rfl) ?_
 refine cd H (by kernel_rfl) (fun H => ?_) (fun H => ?_)
 ·refine qa tok hT [4] (St.mk [p 4 (I (-1))] [(2, Ob.box 128 (cellsD false y128 a0))]) (by kernel_rfl) ?_
  exact vx_ret <| fx_seq_ret <| hr H (by kernel_rfl)
 refine vx_skip <| fx_seq <| ?_
 refine qd tok hT [1] (fun v3 => St.mk [p 1 (I v3)] [(2, Ob.box 128 (cellsD false y128 a0))]) H (by kernel_rfl) fun v3 H => ?_
 refine vx_seq <| ?_
 refine qa tok hT [1, 28] (St.mk [p 1 (I v3), p 28 (B (decide (v3 < 0)))] [(2, Ob.box 128 (cellsD false y128 a0))]) (by kernel_rfl) ?_
 refine cd H (by kernel_rfl) (fun H => ?_) (fun H => ?_)
 ·refine qa tok hT [4] (St.mk [p 4 (I (-1))] [(2, Ob.box 128 (cellsD false y128 a0))]) (by kernel_rfl) ?_
  exact vx_ret <| fx_seq_ret <| hr H (by kernel_rfl)
 refine vx_skip <| fx_seq <| ?_
 refine qa tok hT [4] (St.mk [p 4 (I v3)] [(2, Ob.box 128 (cellsD false y128 a0))]) (by kernel_rfl) ?_
 exact vx_ret <| hr H (by kernel_rfl)
def u29J0 : Int → Option (Int)
 | v4 =>
 some v4
def u29L1 (a0 : List Y128) (g1 : Int × Int → Option (Int)) : Int × Int → Option (Int)
 | (v1, v2) =>
 if (decide (v2 < (↑a0.length : Int))) = true then
  gd (ix v2 a0.length ∧ (u68 (a0.getD v2.toNat (dflt y128)) v1).isSome = true ∧ True) <| lt (vl (u68 (a0.getD v2.toNat (dflt y128)) v1)) fun v3 =>
  if (decide (v3 < 0)) = true then
   some (-1)
  else
   gd (in64 (v2 + 1) ∧ True) <| 
   g1 (v3, v2 + 1)
 else
  u29J0 v1
def u29 (a0 : List Y128) (a1 : Int) : Option (Int) :=
 gd (in64 (a1 - (↑a0.length : Int)) ∧ True) <| 
 if (decide (a1 - (↑a0.length : Int) < 0)) = true then
  some (-1)
 else
  lp (u29L1 a0) ((a1 - (↑a0.length : Int), 0))
def k29 : Ct := lct 29 [.dat y128.sl, .dat i64] (fun x => u29 x.1 x.2.1) (fun r : Int => I r) (fun _ => ())
theorem o29 : Ok Tryz.prog k29 := by
 refine okl tok [.tmp 4] Tryz.func29 Tryz.ntmps29 rfl Tryz.results29 (by kernel_rfl) rfl ?_
 intro y ⟨a0, a1, _⟩ r H Q hn hr
 have hT := tc o68 tn
 refine qa tok hT [0, 1] (St.mk [p 0 (L y128 a0), p 1 (J a1)] []) (by kernel_rfl) ?_
 refine qb tok hT [0, 1] (St.mk [p 0 (L y128 a0), p 1 (I (a1 - (↑a0.length : Int)))] []) H (by kernel_rfl) fun H => ?_
 refine vx_seq <| ?_
 refine qa tok hT [0, 1, 11] (St.mk [p 0 (L y128 a0), p 1 (I (a1 - (↑a0.length : Int))), p 11 (B (decide (a1 - (↑a0.length : Int) < 0)))] []) (by kernel_rfl) ?_
 refine cd H (by kernel_rfl) (fun H => ?_) (fun H => ?_)
 ·refine qa tok hT [4] (St.mk [p 4 (I (-1))] []) (by kernel_rfl) ?_
  exact vx_ret <| fx_seq_ret <| hr H (by kernel_rfl)
 refine vx_skip <| fx_seq <| ?_
 refine jn r (fun (v4 : Int) => St.mk [p 1 (I v4)] []) (u29J0) (fun v4 H => ?_) (fun _ n0 e0 t0 => ?_)
 ·refine qa tok hT [4] (St.mk [p 4 (I v4)] []) (by kernel_rfl) ?_
  exact vx_ret <| hr H (by kernel_rfl)
 refine qa tok hT [0, 1, 5] (St.mk [p 0 (L y128 a0), p 1 (I (a1 - (↑a0.length : Int))), p 5 (I 0)] []) (by kernel_rfl) ?_
 refine vx_block <| ?_
 refine lx (fun ((v1, v2) : Int × Int) => St.mk [p 0 (L y128 a0), p 1 (I v1), p 5 (I v2)] []) ((a1 - (↑a0.length : Int), 0)) H (by kernel_rfl) fun _ g1 b1 e1 t1 ⟨v1, v2⟩ H => ?_
 refine vx_seq <| ?_
 refine qa tok hT [0, 1, 5, 15] (St.mk [p 0 (L y128 a0), p 1 (I v1), p 5 (I v2), p 15 (B (decide (v2 < (↑a0.length : Int))))] []) (by kernel_rfl) ?_
 refine cd H (by kernel_rfl) (fun H => ?_) (fun H => ?_)
 ·refine vx_skip <| fx_seq <| vx_seq <| vx_block <| ?_
  refine qd tok hT [0, 1, 5] (fun v3 => St.mk [p 0 (L y128 a0), p 1 (I v3), p 5 (I v2)] []) H (by kernel_rfl) fun v3 H => ?_
  refine qa tok hT [0, 1, 5, 25] (St.mk [p 0 (L y128 a0), p 1 (I v3), p 5 (I v2), p 25 (B (decide (v3 < 0)))] []) (by kernel_rfl) ?_
  refine cd H (by kernel_rfl) (fun H => ?_) (fun H => ?_)
  ·refine qa tok hT [4] (St.mk [p 4 (I (-1))] []) (by kernel_rfl) ?_
   exact vx_ret <| fx_blk_ret <| fx_seq_ret <| t1 <| fx_blk_ret <| t0 <| hr H (by kernel_rfl)
  refine vx_skip <| fx_blk <| fx_seq <| ?_
  refine zb tok hT [0, 1, 5] (St.mk [p 0 (L y128 a0), p 1 (I v3), p 5 (I (v2 + 1))] []) H (by kernel_rfl) fun H => ?_
  exact b1 H (by kernel_rfl)
 exact vx_exit <| fx_seq_exit <| e1 <| fx_blk_exit rfl <| n0 H (by kernel_rfl)
def u111 (a0 : Y191) (a1 : Int) : Option (Int) :=
 gd (in64 (a1 - (↑a0.1.size : Int)) ∧ True) <| 
 if (decide (a1 - (↑a0.1.size : Int) < 0)) = true then
  some (-1)
 else
  some (a1 - (↑a0.1.size : Int))
def k111 : Ct := lct 111 [.agg y191, .dat i64] (fun x => u111 x.1 x.2.1) (fun r : Int => I r) (fun _ => ())
theorem o111 : Ok Tryz.prog k111 := by
 refine okl tok [.tmp 4] Tryz.func111 Tryz.ntmps111 rfl Tryz.results111 (by kernel_rfl) rfl ?_
 intro y ⟨a0, a1, _⟩ r H Q hn hr
 have hT := @tn Tryz.prog
 refine qa tok hT [1, 2] (St.mk [p 1 (J a1), p 2 (AV.ptr 2 0)] [(2, Ob.box 191 (cellsD false y191 a0))]) (by kernel_rfl) ?_
 refine qb tok hT [1] (St.mk [p 1 (I (a1 - (↑a0.1.size : Int)))] [(2, Ob.box 191 (cellsD false y191 a0))]) H (by kernel_rfl) fun H => ?_
 refine vx_seq <| ?_
 refine qa tok hT [1, 11] (St.mk [p 1 (I (a1 - (↑a0.1.size : Int))), p 11 (B (decide (a1 - (↑a0.1.size : Int) < 0)))] [(2, Ob.box 191 (cellsD false y191 a0))]) (by kernel_rfl) ?_
 refine cd H (by kernel_rfl) (fun H => ?_) (fun H => ?_)
 ·refine qa tok hT [4] (St.mk [p 4 (I (-1))] [(2, Ob.box 191 (cellsD false y191 a0))]) (by kernel_rfl) ?_
  exact vx_ret <| fx_seq_ret <| hr H (by kernel_rfl)
 refine vx_skip <| fx_seq <| ?_
 refine qa tok hT [4] (St.mk [p 4 (I (a1 - (↑a0.1.size : Int)))] [(2, Ob.box 191 (cellsD false y191 a0))]) (by kernel_rfl) ?_
 exact vx_ret <| hr H (by kernel_rfl)
def u67J0 : Int → Option (Int)
 | v4 =>
 some v4
def u67L1 (a0 : List Y191) (g1 : Int × Int → Option (Int)) : Int × Int → Option (Int)
 | (v1, v2) =>
 if (decide (v2 < (↑a0.length : Int))) = true then
  gd (ix v2 a0.length ∧ (u111 (a0.getD v2.toNat (dflt y191)) v1).isSome = true ∧ True) <| lt (vl (u111 (a0.getD v2.toNat (dflt y191)) v1)) fun v3 =>
  if (decide (v3 < 0)) = true then
   some (-1)
  else
   gd (in64 (v2 + 1) ∧ True) <| 
   g1 (v3, v2 + 1)
 else
  u67J0 v1
def u67 (a0 : List Y191) (a1 : Int) : Option (Int) :=
 gd (in64 (a1 - (↑a0.length : Int)) ∧ True) <| 
 if (decide (a1 - (↑a0.length : Int) < 0)) = true then
  some (-1)
 else
  lp (u67L1 a0) ((a1 - (↑a0.length : Int), 0))
def k67 : Ct := lct 67 [.dat y191.sl, .dat i64] (fun x => u67 x.1 x.2.1) (fun r : Int => I r) (fun _ => ())
theorem o67 : Ok Tryz.prog k67 := by
 refine okl tok [.tmp 4] Tryz.func67 Tryz.ntmps67 rfl Tryz.results67 (by kernel_rfl) rfl ?_
 intro y ⟨a0, a1, _⟩ r H Q hn hr
 have hT := tc o111 tn
 refine qa tok hT [0, 1] (St.mk [p 0 (L y191 a0), p 1 (J a1)] []) (by kernel_rfl) ?_
 refine qb tok hT [0, 1] (St.mk [p 0 (L y191 a0), p 1 (I (a1 - (↑a0.length : Int)))] []) H (by kernel_rfl) fun H => ?_
 refine vx_seq <| ?_
 refine qa tok hT [0, 1, 11] (St.mk [p 0 (L y191 a0), p 1 (I (a1 - (↑a0.length : Int))), p 11 (B (decide (a1 - (↑a0.length : Int) < 0)))] []) (by kernel_rfl) ?_
 refine cd H (by kernel_rfl) (fun H => ?_) (fun H => ?_)
 ·refine qa tok hT [4] (St.mk [p 4 (I (-1))] []) (by kernel_rfl) ?_
  exact vx_ret <| fx_seq_ret <| hr H (by kernel_rfl)
 refine vx_skip <| fx_seq <| ?_
 refine jn r (fun (v4 : Int) => St.mk [p 1 (I v4)] []) (u67J0) (fun v4 H => ?_) (fun _ n0 e0 t0 => ?_)
 ·refine qa tok hT [4] (St.mk [p 4 (I v4)] []) (by kernel_rfl) ?_
  exact vx_ret <| hr H (by kernel_rfl)
 refine qa tok hT [0, 1, 5] (St.mk [p 0 (L y191 a0), p 1 (I (a1 - (↑a0.length : Int))), p 5 (I 0)] []) (by kernel_rfl) ?_
 refine vx_block <| ?_
 refine lx (fun ((v1, v2) : Int × Int) => St.mk [p 0 (L y191 a0), p 1 (I v1), p 5 (I v2)] []) ((a1 - (↑a0.length : Int), 0)) H (by kernel_rfl) fun _ g1 b1 e1 t1 ⟨v1, v2⟩ H => ?_
 refine vx_seq <| ?_
 refine qa tok hT [0, 1, 5, 15] (St.mk [p 0 (L y191 a0), p 1 (I v1), p 5 (I v2), p 15 (B (decide (v2 < (↑a0.length : Int))))] []) (by kernel_rfl) ?_
 refine cd H (by kernel_rfl) (fun H => ?_) (fun H => ?_)
 ·refine vx_skip <| fx_seq <| vx_seq <| vx_block <| ?_
  refine qd tok hT [0, 1, 5] (fun v3 => St.mk [p 0 (L y191 a0), p 1 (I v3), p 5 (I v2)] []) H (by kernel_rfl) fun v3 H => ?_
  refine qa tok hT [0, 1, 5, 25] (St.mk [p 0 (L y191 a0), p 1 (I v3), p 5 (I v2), p 25 (B (decide (v3 < 0)))] []) (by kernel_rfl) ?_
  refine cd H (by kernel_rfl) (fun H => ?_) (fun H => ?_)
  ·refine qa tok hT [4] (St.mk [p 4 (I (-1))] []) (by kernel_rfl) ?_
   exact vx_ret <| fx_blk_ret <| fx_seq_ret <| t1 <| fx_blk_ret <| t0 <| hr H (by kernel_rfl)
  refine vx_skip <| fx_blk <| fx_seq <| ?_
  refine zb tok hT [0, 1, 5] (St.mk [p 0 (L y191 a0), p 1 (I v3), p 5 (I (v2 + 1))] []) H (by kernel_rfl) fun H => ?_
  exact b1 H (by kernel_rfl)
 exact vx_exit <| fx_seq_exit <| e1 <| fx_blk_exit rfl <| n0 H (by kernel_rfl)
def u66J0 : Int → Option (Int)
 | v4 =>
 some v4
def u66L1 (a0 : List ByteArray) (g1 : Int × Int → Option (Int)) : Int × Int → Option (Int)
 | (v1, v2) =>
 if (decide (v2 < (↑a0.length : Int))) = true then
  gd (ix v2 a0.length ∧ in64 (v1 - (↑(ByteArray.size (a0.getD v2.toNat (dflt Ty.str))) : Int)) ∧ True) <| lt (v1 - (↑(ByteArray.size (a0.getD v2.toNat (dflt Ty.str))) : Int)) fun v3 =>
  if (decide (v3 < 0)) = true then
   some (-1)
  else
   gd (in64 (v2 + 1) ∧ True) <| 
   g1 (v3, v2 + 1)
 else
  u66J0 v1
def u66 (a0 : List ByteArray) (a1 : Int) : Option (Int) :=
 gd (in64 (a1 - (↑a0.length : Int)) ∧ True) <| 
 if (decide (a1 - (↑a0.length : Int) < 0)) = true then
  some (-1)
 else
  lp (u66L1 a0) ((a1 - (↑a0.length : Int), 0))
def k66 : Ct := lct 66 [.dat Ty.str.sl, .dat i64] (fun x => u66 x.1 x.2.1) (fun r : Int => I r) (fun _ => ())
theorem o66 : Ok Tryz.prog k66 := by
 refine okl tok [.tmp 4] Tryz.func66 Tryz.ntmps66 rfl Tryz.results66 (by kernel_rfl) rfl ?_
 intro y ⟨a0, a1, _⟩ r H Q hn hr
 have hT := @tn Tryz.prog
 refine qa tok hT [0, 1] (St.mk [p 0 (L Ty.str a0), p 1 (J a1)] []) (by kernel_rfl) ?_
 refine qb tok hT [0, 1] (St.mk [p 0 (L Ty.str a0), p 1 (I (a1 - (↑a0.length : Int)))] []) H (by kernel_rfl) fun H => ?_
 refine vx_seq <| ?_
 refine qa tok hT [0, 1, 11] (St.mk [p 0 (L Ty.str a0), p 1 (I (a1 - (↑a0.length : Int))), p 11 (B (decide (a1 - (↑a0.length : Int) < 0)))] []) (by kernel_rfl) ?_
 refine cd H (by kernel_rfl) (fun H => ?_) (fun H => ?_)
 ·refine qa tok hT [4] (St.mk [p 4 (I (-1))] []) (by kernel_rfl) ?_
  exact vx_ret <| fx_seq_ret <| hr H (by kernel_rfl)
 refine vx_skip <| fx_seq <| ?_
 refine jn r (fun (v4 : Int) => St.mk [p 1 (I v4)] []) (u66J0) (fun v4 H => ?_) (fun _ n0 e0 t0 => ?_)
 ·refine qa tok hT [4] (St.mk [p 4 (I v4)] []) (by kernel_rfl) ?_
  exact vx_ret <| hr H (by kernel_rfl)
 refine qa tok hT [0, 1, 5] (St.mk [p 0 (L Ty.str a0), p 1 (I (a1 - (↑a0.length : Int))), p 5 (I 0)] []) (by kernel_rfl) ?_
 refine vx_block <| ?_
 refine lx (fun ((v1, v2) : Int × Int) => St.mk [p 0 (L Ty.str a0), p 1 (I v1), p 5 (I v2)] []) ((a1 - (↑a0.length : Int), 0)) H (by kernel_rfl) fun _ g1 b1 e1 t1 ⟨v1, v2⟩ H => ?_
 refine vx_seq <| ?_
 refine qa tok hT [0, 1, 5, 15] (St.mk [p 0 (L Ty.str a0), p 1 (I v1), p 5 (I v2), p 15 (B (decide (v2 < (↑a0.length : Int))))] []) (by kernel_rfl) ?_
 refine cd H (by kernel_rfl) (fun H => ?_) (fun H => ?_)
 ·refine vx_skip <| fx_seq <| vx_seq <| vx_block <| ?_
  refine qd tok hT [0, 1, 5] (fun v3 => St.mk [p 0 (L Ty.str a0), p 1 (I v3), p 5 (I v2)] []) H (by kernel_rfl) fun v3 H => ?_
  refine qa tok hT [0, 1, 5, 26] (St.mk [p 0 (L Ty.str a0), p 1 (I v3), p 5 (I v2), p 26 (B (decide (v3 < 0)))] []) (by kernel_rfl) ?_
  refine cd H (by kernel_rfl) (fun H => ?_) (fun H => ?_)
  ·refine qa tok hT [4] (St.mk [p 4 (I (-1))] []) (by kernel_rfl) ?_
   exact vx_ret <| fx_blk_ret <| fx_seq_ret <| t1 <| fx_blk_ret <| t0 <| hr H (by kernel_rfl)
  refine vx_skip <| fx_blk <| fx_seq <| ?_
  refine zb tok hT [0, 1, 5] (St.mk [p 0 (L Ty.str a0), p 1 (I v3), p 5 (I (v2 + 1))] []) H (by kernel_rfl) fun H => ?_
  exact b1 H (by kernel_rfl)
 exact vx_exit <| fx_seq_exit <| e1 <| fx_blk_exit rfl <| n0 H (by kernel_rfl)
def u110 (a0 : Y189) (a1 : Int) : Option (Int) :=
 gd (in64 (a1 - (↑a0.1.size : Int)) ∧ True) <| 
 if (decide (a1 - (↑a0.1.size : Int) < 0)) = true then
  some (-1)
 else
  gd ((u112 a0.2.2 (a1 - (↑a0.1.size : Int))).isSome = true ∧ True) <| lt (vl (u112 a0.2.2 (a1 - (↑a0.1.size : Int)))) fun v0 =>
  if (decide (v0 < 0)) = true then
   some (-1)
  else
   some v0
def k110 : Ct := lct 110 [.agg y189, .dat i64] (fun x => u110 x.1 x.2.1) (fun r : Int => I r) (fun _ => ())
theorem o110 : Ok Tryz.prog k110 := by
 refine okl tok [.tmp 4] Tryz.func110 Tryz.ntmps110 rfl Tryz.results110 (by kernel_rfl) rfl ?_
 intro y ⟨a0, a1, _⟩ r H Q hn hr
 have hT := tc o112 tn
 refine qa tok hT [1, 2] (St.mk [p 1 (J a1), p 2 (AV.ptr 2 0)] [(2, Ob.box 189 (cellsD false y189 a0))]) (by kernel_rfl) ?_
 refine qb tok hT [1, 2] (St.mk [p 1 (I (a1 - (↑a0.1.size : Int))), p 2 (AV.ptr 2 0)] [(2, Ob.box 189 (cellsD false y189 a0))]) H (by kernel_rfl) fun H => ?_
 refine vx_seq <| ?_
 refine qa tok hT [1, 2, 11] (St.mk [p 1 (I (a1 - (↑a0.1.size : Int))), p 2 (AV.ptr 2 0), p 11 (B (decide (a1 - (↑a0.1.size : Int) < 0)))] [(2, Ob.box 189 (cellsD false y189 a0))]) (by kernel_rfl) ?_
 refine cd H (by kernel_rfl) (fun H => ?_) (fun H => ?_)
 ·refine qa tok hT [4] (St.mk [p 4 (I (-1))] [(2, Ob.box 189 (cellsD false y189 a0))]) (by kernel_rfl) ?_
  exact vx_ret <| fx_seq_ret <| hr H (by kernel_rfl)
 refine vx_skip <| fx_seq <| ?_
 refine qd tok hT [1] (fun v0 => St.mk [p 1 (I v0)] [(2, Ob.box 189 (cellsD false y189 a0))]) H (by kernel_rfl) fun v0 H => ?_
 refine vx_seq <| ?_
 refine qa tok hT [1, 17] (St.mk [p 1 (I v0), p 17 (B (decide (v0 < 0)))] [(2, Ob.box 189 (cellsD false y189 a0))]) (by kernel_rfl) ?_
 refine cd H (by kernel_rfl) (fun H => ?_) (fun H => ?_)
 ·refine qa tok hT [4] (St.mk [p 4 (I (-1))] [(2, Ob.box 189 (cellsD false y189 a0))]) (by kernel_rfl) ?_
  exact vx_ret <| fx_seq_ret <| hr H (by kernel_rfl)
 refine vx_skip <| fx_seq <| ?_
 refine qa tok hT [4] (St.mk [p 4 (I v0)] [(2, Ob.box 189 (cellsD false y189 a0))]) (by kernel_rfl) ?_
 exact vx_ret <| hr H (by kernel_rfl)
def u65J0 : Int → Option (Int)
 | v4 =>
 some v4
def u65L1 (a0 : List Y189) (g1 : Int × Int → Option (Int)) : Int × Int → Option (Int)
 | (v1, v2) =>
 if (decide (v2 < (↑a0.length : Int))) = true then
  gd (ix v2 a0.length ∧ (u110 (a0.getD v2.toNat (dflt y189)) v1).isSome = true ∧ True) <| lt (vl (u110 (a0.getD v2.toNat (dflt y189)) v1)) fun v3 =>
  if (decide (v3 < 0)) = true then
   some (-1)
  else
   gd (in64 (v2 + 1) ∧ True) <| 
   g1 (v3, v2 + 1)
 else
  u65J0 v1
def u65 (a0 : List Y189) (a1 : Int) : Option (Int) :=
 gd (in64 (a1 - (↑a0.length : Int)) ∧ True) <| 
 if (decide (a1 - (↑a0.length : Int) < 0)) = true then
  some (-1)
 else
  lp (u65L1 a0) ((a1 - (↑a0.length : Int), 0))
def k65 : Ct := lct 65 [.dat y189.sl, .dat i64] (fun x => u65 x.1 x.2.1) (fun r : Int => I r) (fun _ => ())
theorem o65 : Ok Tryz.prog k65 := by
 refine okl tok [.tmp 4] Tryz.func65 Tryz.ntmps65 rfl Tryz.results65 (by kernel_rfl) rfl ?_
 intro y ⟨a0, a1, _⟩ r H Q hn hr
 have hT := tc o110 tn
 refine qa tok hT [0, 1] (St.mk [p 0 (L y189 a0), p 1 (J a1)] []) (by kernel_rfl) ?_
 refine qb tok hT [0, 1] (St.mk [p 0 (L y189 a0), p 1 (I (a1 - (↑a0.length : Int)))] []) H (by kernel_rfl) fun H => ?_
 refine vx_seq <| ?_
 refine qa tok hT [0, 1, 11] (St.mk [p 0 (L y189 a0), p 1 (I (a1 - (↑a0.length : Int))), p 11 (B (decide (a1 - (↑a0.length : Int) < 0)))] []) (by kernel_rfl) ?_
 refine cd H (by kernel_rfl) (fun H => ?_) (fun H => ?_)
 ·refine qa tok hT [4] (St.mk [p 4 (I (-1))] []) (by kernel_rfl) ?_
  exact vx_ret <| fx_seq_ret <| hr H (by kernel_rfl)
 refine vx_skip <| fx_seq <| ?_
 refine jn r (fun (v4 : Int) => St.mk [p 1 (I v4)] []) (u65J0) (fun v4 H => ?_) (fun _ n0 e0 t0 => ?_)
 ·refine qa tok hT [4] (St.mk [p 4 (I v4)] []) (by kernel_rfl) ?_
  exact vx_ret <| hr H (by kernel_rfl)
 refine qa tok hT [0, 1, 5] (St.mk [p 0 (L y189 a0), p 1 (I (a1 - (↑a0.length : Int))), p 5 (I 0)] []) (by kernel_rfl) ?_
 refine vx_block <| ?_
 refine lx (fun ((v1, v2) : Int × Int) => St.mk [p 0 (L y189 a0), p 1 (I v1), p 5 (I v2)] []) ((a1 - (↑a0.length : Int), 0)) H (by kernel_rfl) fun _ g1 b1 e1 t1 ⟨v1, v2⟩ H => ?_
 refine vx_seq <| ?_
 refine qa tok hT [0, 1, 5, 15] (St.mk [p 0 (L y189 a0), p 1 (I v1), p 5 (I v2), p 15 (B (decide (v2 < (↑a0.length : Int))))] []) (by kernel_rfl) ?_
 refine cd H (by kernel_rfl) (fun H => ?_) (fun H => ?_)
 ·refine vx_skip <| fx_seq <| vx_seq <| vx_block <| ?_
  refine qd tok hT [0, 1, 5] (fun v3 => St.mk [p 0 (L y189 a0), p 1 (I v3), p 5 (I v2)] []) H (by kernel_rfl) fun v3 H => ?_
  refine qa tok hT [0, 1, 5, 25] (St.mk [p 0 (L y189 a0), p 1 (I v3), p 5 (I v2), p 25 (B (decide (v3 < 0)))] []) (by kernel_rfl) ?_
  refine cd H (by kernel_rfl) (fun H => ?_) (fun H => ?_)
  ·refine qa tok hT [4] (St.mk [p 4 (I (-1))] []) (by kernel_rfl) ?_
   exact vx_ret <| fx_blk_ret <| fx_seq_ret <| t1 <| fx_blk_ret <| t0 <| hr H (by kernel_rfl)
  refine vx_skip <| fx_blk <| fx_seq <| ?_
  refine zb tok hT [0, 1, 5] (St.mk [p 0 (L y189 a0), p 1 (I v3), p 5 (I (v2 + 1))] []) H (by kernel_rfl) fun H => ?_
  exact b1 H (by kernel_rfl)
 exact vx_exit <| fx_seq_exit <| e1 <| fx_blk_exit rfl <| n0 H (by kernel_rfl)
def u28 (a0 : Y29) (a1 : Int) : Option (Int) :=
 gd ((u65 a0.1 a1).isSome = true ∧ True) <| lt (vl (u65 a0.1 a1)) fun v0 =>
 if (decide (v0 < 0)) = true then
  some (-1)
 else
  gd ((u66 a0.2.1 v0).isSome = true ∧ True) <| lt (vl (u66 a0.2.1 v0)) fun v1 =>
  if (decide (v1 < 0)) = true then
   some (-1)
  else
   gd ((u67 a0.2.2 v1).isSome = true ∧ True) <| lt (vl (u67 a0.2.2 v1)) fun v2 =>
   if (decide (v2 < 0)) = true then
    some (-1)
   else
    some v2
def k28 : Ct := lct 28 [.agg y29, .dat i64] (fun x => u28 x.1 x.2.1) (fun r : Int => I r) (fun _ => ())
theorem o28 : Ok Tryz.prog k28 := by
 refine okl tok [.tmp 4] Tryz.func28 Tryz.ntmps28 rfl Tryz.results28 (by kernel_rfl) rfl ?_
 intro y ⟨a0, a1, _⟩ r H Q hn hr
 have hT := tc o67 (tc o66 (tc o65 tn))
 refine qa tok hT [1, 2] (St.mk [p 1 (J a1), p 2 (AV.ptr 2 0)] [(2, Ob.box 29 (cellsD false y29 a0))]) (by kernel_rfl) ?_
 refine qd tok hT [1, 2] (fun v0 => St.mk [p 1 (I v0), p 2 (AV.ptr 2 0)] [(2, Ob.box 29 (cellsD false y29 a0))]) H (by kernel_rfl) fun v0 H => ?_
 refine vx_seq <| ?_
 refine qa tok hT [1, 2, 10] (St.mk [p 1 (I v0), p 2 (AV.ptr 2 0), p 10 (B (decide (v0 < 0)))] [(2, Ob.box 29 (cellsD false y29 a0))]) (by kernel_rfl) ?_
 refine cd H (by kernel_rfl) (fun H => ?_) (fun H => ?_)
 ·refine qa tok hT [4] (St.mk [p 4 (I (-1))] [(2, Ob.box 29 (cellsD false y29 a0))]) (by kernel_rfl) ?_
  exact vx_ret <| fx_seq_ret <| hr H (by kernel_rfl)
 refine vx_skip <| fx_seq <| ?_
 refine qd tok hT [1, 2] (fun v1 => St.mk [p 1 (I v1), p 2 (AV.ptr 2 0)] [(2, Ob.box 29 (cellsD false y29 a0))]) H (by kernel_rfl) fun v1 H => ?_
 refine vx_seq <| ?_
 refine qa tok hT [1, 2, 16] (St.mk [p 1 (I v1), p 2 (AV.ptr 2 0), p 16 (B (decide (v1 < 0)))] [(2, Ob.box 29 (cellsD false y29 a0))]) (by kernel_rfl) ?_
 refine cd H (by kernel_rfl) (fun H => ?_) (fun H => ?_)
 ·refine qa tok hT [4] (St.mk [p 4 (I (-1))] [(2, Ob.box 29 (cellsD false y29 a0))]) (by kernel_rfl) ?_
  exact vx_ret <| fx_seq_ret <| hr H (by kernel_rfl)
 refine vx_skip <| fx_seq <| ?_
 refine qd tok hT [1] (fun v2 => St.mk [p 1 (I v2)] [(2, Ob.box 29 (cellsD false y29 a0))]) H (by kernel_rfl) fun v2 H => ?_
 refine vx_seq <| ?_
 refine qa tok hT [1, 22] (St.mk [p 1 (I v2), p 22 (B (decide (v2 < 0)))] [(2, Ob.box 29 (cellsD false y29 a0))]) (by kernel_rfl) ?_
 refine cd H (by kernel_rfl) (fun H => ?_) (fun H => ?_)
 ·refine qa tok hT [4] (St.mk [p 4 (I (-1))] [(2, Ob.box 29 (cellsD false y29 a0))]) (by kernel_rfl) ?_
  exact vx_ret <| fx_seq_ret <| hr H (by kernel_rfl)
 refine vx_skip <| fx_seq <| ?_
 refine qa tok hT [4] (St.mk [p 4 (I v2)] [(2, Ob.box 29 (cellsD false y29 a0))]) (by kernel_rfl) ?_
 exact vx_ret <| hr H (by kernel_rfl)
def u186 (a0 : Y258) (a1 : Int) : Option (Int) :=
 gd ((u112 a0.1 a1).isSome = true ∧ True) <| lt (vl (u112 a0.1 a1)) fun v0 =>
 if (decide (v0 < 0)) = true then
  some (-1)
 else
  gd ((u112 a0.2.1 v0).isSome = true ∧ True) <| lt (vl (u112 a0.2.1 v0)) fun v1 =>
  if (decide (v1 < 0)) = true then
   some (-1)
  else
   gd ((u112 a0.2.2 v1).isSome = true ∧ True) <| lt (vl (u112 a0.2.2 v1)) fun v2 =>
   if (decide (v2 < 0)) = true then
    some (-1)
   else
    some v2
def k186 : Ct := lct 186 [.agg y258, .dat i64] (fun x => u186 x.1 x.2.1) (fun r : Int => I r) (fun _ => ())
theorem o186 : Ok Tryz.prog k186 := by
 refine okl tok [.tmp 4] Tryz.func186 Tryz.ntmps186 rfl Tryz.results186 (by kernel_rfl) rfl ?_
 intro y ⟨a0, a1, _⟩ r H Q hn hr
 have hT := tc o112 tn
 refine qa tok hT [1, 2] (St.mk [p 1 (J a1), p 2 (AV.ptr 2 0)] [(2, Ob.box 258 (cellsD false y258 a0))]) (by kernel_rfl) ?_
 refine qd tok hT [1, 2] (fun v0 => St.mk [p 1 (I v0), p 2 (AV.ptr 2 0)] [(2, Ob.box 258 (cellsD false y258 a0))]) H (by kernel_rfl) fun v0 H => ?_
 refine vx_seq <| ?_
 refine qa tok hT [1, 2, 10] (St.mk [p 1 (I v0), p 2 (AV.ptr 2 0), p 10 (B (decide (v0 < 0)))] [(2, Ob.box 258 (cellsD false y258 a0))]) (by kernel_rfl) ?_
 refine cd H (by kernel_rfl) (fun H => ?_) (fun H => ?_)
 ·refine qa tok hT [4] (St.mk [p 4 (I (-1))] [(2, Ob.box 258 (cellsD false y258 a0))]) (by kernel_rfl) ?_
  exact vx_ret <| fx_seq_ret <| hr H (by kernel_rfl)
 refine vx_skip <| fx_seq <| ?_
 refine qd tok hT [1, 2] (fun v1 => St.mk [p 1 (I v1), p 2 (AV.ptr 2 0)] [(2, Ob.box 258 (cellsD false y258 a0))]) H (by kernel_rfl) fun v1 H => ?_
 refine vx_seq <| ?_
 refine qa tok hT [1, 2, 16] (St.mk [p 1 (I v1), p 2 (AV.ptr 2 0), p 16 (B (decide (v1 < 0)))] [(2, Ob.box 258 (cellsD false y258 a0))]) (by kernel_rfl) ?_
 refine cd H (by kernel_rfl) (fun H => ?_) (fun H => ?_)
 ·refine qa tok hT [4] (St.mk [p 4 (I (-1))] [(2, Ob.box 258 (cellsD false y258 a0))]) (by kernel_rfl) ?_
  exact vx_ret <| fx_seq_ret <| hr H (by kernel_rfl)
 refine vx_skip <| fx_seq <| ?_
 refine qd tok hT [1] (fun v2 => St.mk [p 1 (I v2)] [(2, Ob.box 258 (cellsD false y258 a0))]) H (by kernel_rfl) fun v2 H => ?_
 refine vx_seq <| ?_
 refine qa tok hT [1, 22] (St.mk [p 1 (I v2), p 22 (B (decide (v2 < 0)))] [(2, Ob.box 258 (cellsD false y258 a0))]) (by kernel_rfl) ?_
 refine cd H (by kernel_rfl) (fun H => ?_) (fun H => ?_)
 ·refine qa tok hT [4] (St.mk [p 4 (I (-1))] [(2, Ob.box 258 (cellsD false y258 a0))]) (by kernel_rfl) ?_
  exact vx_ret <| fx_seq_ret <| hr H (by kernel_rfl)
 refine vx_skip <| fx_seq <| ?_
 refine qa tok hT [4] (St.mk [p 4 (I v2)] [(2, Ob.box 258 (cellsD false y258 a0))]) (by kernel_rfl) ?_
 exact vx_ret <| hr H (by kernel_rfl)
def u173J0 : Int → Option (Int)
 | v4 =>
 some v4
def u173L1 (a0 : List Y258) (g1 : Int × Int → Option (Int)) : Int × Int → Option (Int)
 | (v1, v2) =>
 if (decide (v2 < (↑a0.length : Int))) = true then
  gd (ix v2 a0.length ∧ (u186 (a0.getD v2.toNat (dflt y258)) v1).isSome = true ∧ True) <| lt (vl (u186 (a0.getD v2.toNat (dflt y258)) v1)) fun v3 =>
  if (decide (v3 < 0)) = true then
   some (-1)
  else
   gd (in64 (v2 + 1) ∧ True) <| 
   g1 (v3, v2 + 1)
 else
  u173J0 v1
def u173 (a0 : List Y258) (a1 : Int) : Option (Int) :=
 gd (in64 (a1 - (↑a0.length : Int)) ∧ True) <| 
 if (decide (a1 - (↑a0.length : Int) < 0)) = true then
  some (-1)
 else
  lp (u173L1 a0) ((a1 - (↑a0.length : Int), 0))
def k173 : Ct := lct 173 [.dat y258.sl, .dat i64] (fun x => u173 x.1 x.2.1) (fun r : Int => I r) (fun _ => ())
theorem o173 : Ok Tryz.prog k173 := by
 refine okl tok [.tmp 4] Tryz.func173 Tryz.ntmps173 rfl Tryz.results173 (by kernel_rfl) rfl ?_
 intro y ⟨a0, a1, _⟩ r H Q hn hr
 have hT := tc o186 tn
 refine qa tok hT [0, 1] (St.mk [p 0 (L y258 a0), p 1 (J a1)] []) (by kernel_rfl) ?_
 refine qb tok hT [0, 1] (St.mk [p 0 (L y258 a0), p 1 (I (a1 - (↑a0.length : Int)))] []) H (by kernel_rfl) fun H => ?_
 refine vx_seq <| ?_
 refine qa tok hT [0, 1, 11] (St.mk [p 0 (L y258 a0), p 1 (I (a1 - (↑a0.length : Int))), p 11 (B (decide (a1 - (↑a0.length : Int) < 0)))] []) (by kernel_rfl) ?_
 refine cd H (by kernel_rfl) (fun H => ?_) (fun H => ?_)
 ·refine qa tok hT [4] (St.mk [p 4 (I (-1))] []) (by kernel_rfl) ?_
  exact vx_ret <| fx_seq_ret <| hr H (by kernel_rfl)
 refine vx_skip <| fx_seq <| ?_
 refine jn r (fun (v4 : Int) => St.mk [p 1 (I v4)] []) (u173J0) (fun v4 H => ?_) (fun _ n0 e0 t0 => ?_)
 ·refine qa tok hT [4] (St.mk [p 4 (I v4)] []) (by kernel_rfl) ?_
  exact vx_ret <| hr H (by kernel_rfl)
 refine qa tok hT [0, 1, 5] (St.mk [p 0 (L y258 a0), p 1 (I (a1 - (↑a0.length : Int))), p 5 (I 0)] []) (by kernel_rfl) ?_
 refine vx_block <| ?_
 refine lx (fun ((v1, v2) : Int × Int) => St.mk [p 0 (L y258 a0), p 1 (I v1), p 5 (I v2)] []) ((a1 - (↑a0.length : Int), 0)) H (by kernel_rfl) fun _ g1 b1 e1 t1 ⟨v1, v2⟩ H => ?_
 refine vx_seq <| ?_
 refine qa tok hT [0, 1, 5, 15] (St.mk [p 0 (L y258 a0), p 1 (I v1), p 5 (I v2), p 15 (B (decide (v2 < (↑a0.length : Int))))] []) (by kernel_rfl) ?_
 refine cd H (by kernel_rfl) (fun H => ?_) (fun H => ?_)
 ·refine vx_skip <| fx_seq <| vx_seq <| vx_block <| ?_
  refine qd tok hT [0, 1, 5] (fun v3 => St.mk [p 0 (L y258 a0), p 1 (I v3), p 5 (I v2)] []) H (by kernel_rfl) fun v3 H => ?_
  refine qa tok hT [0, 1, 5, 25] (St.mk [p 0 (L y258 a0), p 1 (I v3), p 5 (I v2), p 25 (B (decide (v3 < 0)))] []) (by kernel_rfl) ?_
  refine cd H (by kernel_rfl) (fun H => ?_) (fun H => ?_)
  ·refine qa tok hT [4] (St.mk [p 4 (I (-1))] []) (by kernel_rfl) ?_
   exact vx_ret <| fx_blk_ret <| fx_seq_ret <| t1 <| fx_blk_ret <| t0 <| hr H (by kernel_rfl)
  refine vx_skip <| fx_blk <| fx_seq <| ?_
  refine zb tok hT [0, 1, 5] (St.mk [p 0 (L y258 a0), p 1 (I v3), p 5 (I (v2 + 1))] []) H (by kernel_rfl) fun H => ?_
  exact b1 H (by kernel_rfl)
 exact vx_exit <| fx_seq_exit <| e1 <| fx_blk_exit rfl <| n0 H (by kernel_rfl)
def u158 (a0 : Y236) (a1 : Int) : Option (Int) :=
 gd ((u173 a0.2.2.2.2.1 a1).isSome = true ∧ True) <| lt (vl (u173 a0.2.2.2.2.1 a1)) fun v0 =>
 if (decide (v0 < 0)) = true then
  some (-1)
 else
  gd ((u173 a0.2.2.2.2.2 v0).isSome = true ∧ True) <| lt (vl (u173 a0.2.2.2.2.2 v0)) fun v1 =>
  if (decide (v1 < 0)) = true then
   some (-1)
  else
   some v1
def k158 : Ct := lct 158 [.agg y236, .dat i64] (fun x => u158 x.1 x.2.1) (fun r : Int => I r) (fun _ => ())
theorem o158 : Ok Tryz.prog k158 := by
 refine okl tok [.tmp 4] Tryz.func158 Tryz.ntmps158 rfl Tryz.results158 (by kernel_rfl) rfl ?_
 intro y ⟨a0, a1, _⟩ r H Q hn hr
 have hT := tc o173 tn
 refine qa tok hT [1, 2] (St.mk [p 1 (J a1), p 2 (AV.ptr 2 0)] [(2, Ob.box 236 (cellsD false y236 a0))]) (by kernel_rfl) ?_
 refine qd tok hT [1, 2] (fun v0 => St.mk [p 1 (I v0), p 2 (AV.ptr 2 0)] [(2, Ob.box 236 (cellsD false y236 a0))]) H (by kernel_rfl) fun v0 H => ?_
 refine vx_seq <| ?_
 refine qa tok hT [1, 2, 10] (St.mk [p 1 (I v0), p 2 (AV.ptr 2 0), p 10 (B (decide (v0 < 0)))] [(2, Ob.box 236 (cellsD false y236 a0))]) (by kernel_rfl) ?_
 refine cd H (by kernel_rfl) (fun H => ?_) (fun H => ?_)
 ·refine qa tok hT [4] (St.mk [p 4 (I (-1))] [(2, Ob.box 236 (cellsD false y236 a0))]) (by kernel_rfl) ?_
  exact vx_ret <| fx_seq_ret <| hr H (by kernel_rfl)
 refine vx_skip <| fx_seq <| ?_
 refine qd tok hT [1] (fun v1 => St.mk [p 1 (I v1)] [(2, Ob.box 236 (cellsD false y236 a0))]) H (by kernel_rfl) fun v1 H => ?_
 refine vx_seq <| ?_
 refine qa tok hT [1, 16] (St.mk [p 1 (I v1), p 16 (B (decide (v1 < 0)))] [(2, Ob.box 236 (cellsD false y236 a0))]) (by kernel_rfl) ?_
 refine cd H (by kernel_rfl) (fun H => ?_) (fun H => ?_)
 ·refine qa tok hT [4] (St.mk [p 4 (I (-1))] [(2, Ob.box 236 (cellsD false y236 a0))]) (by kernel_rfl) ?_
  exact vx_ret <| fx_seq_ret <| hr H (by kernel_rfl)
 refine vx_skip <| fx_seq <| ?_
 refine qa tok hT [4] (St.mk [p 4 (I v1)] [(2, Ob.box 236 (cellsD false y236 a0))]) (by kernel_rfl) ?_
 exact vx_ret <| hr H (by kernel_rfl)
def u140J0 : Int → Option (Int)
 | v4 =>
 some v4
def u140L1 (a0 : List Y236) (g1 : Int × Int → Option (Int)) : Int × Int → Option (Int)
 | (v1, v2) =>
 if (decide (v2 < (↑a0.length : Int))) = true then
  gd (ix v2 a0.length ∧ (u158 (a0.getD v2.toNat (dflt y236)) v1).isSome = true ∧ True) <| lt (vl (u158 (a0.getD v2.toNat (dflt y236)) v1)) fun v3 =>
  if (decide (v3 < 0)) = true then
   some (-1)
  else
   gd (in64 (v2 + 1) ∧ True) <| 
   g1 (v3, v2 + 1)
 else
  u140J0 v1
def u140 (a0 : List Y236) (a1 : Int) : Option (Int) :=
 gd (in64 (a1 - (↑a0.length : Int)) ∧ True) <| 
 if (decide (a1 - (↑a0.length : Int) < 0)) = true then
  some (-1)
 else
  lp (u140L1 a0) ((a1 - (↑a0.length : Int), 0))
def k140 : Ct := lct 140 [.dat y236.sl, .dat i64] (fun x => u140 x.1 x.2.1) (fun r : Int => I r) (fun _ => ())
theorem o140 : Ok Tryz.prog k140 := by
 refine okl tok [.tmp 4] Tryz.func140 Tryz.ntmps140 rfl Tryz.results140 (by kernel_rfl) rfl ?_
 intro y ⟨a0, a1, _⟩ r H Q hn hr
 have hT := tc o158 tn
 refine qa tok hT [0, 1] (St.mk [p 0 (L y236 a0), p 1 (J a1)] []) (by kernel_rfl) ?_
 refine qb tok hT [0, 1] (St.mk [p 0 (L y236 a0), p 1 (I (a1 - (↑a0.length : Int)))] []) H (by kernel_rfl) fun H => ?_
 refine vx_seq <| ?_
 refine qa tok hT [0, 1, 11] (St.mk [p 0 (L y236 a0), p 1 (I (a1 - (↑a0.length : Int))), p 11 (B (decide (a1 - (↑a0.length : Int) < 0)))] []) (by kernel_rfl) ?_
 refine cd H (by kernel_rfl) (fun H => ?_) (fun H => ?_)
 ·refine qa tok hT [4] (St.mk [p 4 (I (-1))] []) (by kernel_rfl) ?_
  exact vx_ret <| fx_seq_ret <| hr H (by kernel_rfl)
 refine vx_skip <| fx_seq <| ?_
 refine jn r (fun (v4 : Int) => St.mk [p 1 (I v4)] []) (u140J0) (fun v4 H => ?_) (fun _ n0 e0 t0 => ?_)
 ·refine qa tok hT [4] (St.mk [p 4 (I v4)] []) (by kernel_rfl) ?_
  exact vx_ret <| hr H (by kernel_rfl)
 refine qa tok hT [0, 1, 5] (St.mk [p 0 (L y236 a0), p 1 (I (a1 - (↑a0.length : Int))), p 5 (I 0)] []) (by kernel_rfl) ?_
 refine vx_block <| ?_
 refine lx (fun ((v1, v2) : Int × Int) => St.mk [p 0 (L y236 a0), p 1 (I v1), p 5 (I v2)] []) ((a1 - (↑a0.length : Int), 0)) H (by kernel_rfl) fun _ g1 b1 e1 t1 ⟨v1, v2⟩ H => ?_
 refine vx_seq <| ?_
 refine qa tok hT [0, 1, 5, 15] (St.mk [p 0 (L y236 a0), p 1 (I v1), p 5 (I v2), p 15 (B (decide (v2 < (↑a0.length : Int))))] []) (by kernel_rfl) ?_
 refine cd H (by kernel_rfl) (fun H => ?_) (fun H => ?_)
 ·refine vx_skip <| fx_seq <| vx_seq <| vx_block <| ?_
  refine qd tok hT [0, 1, 5] (fun v3 => St.mk [p 0 (L y236 a0), p 1 (I v3), p 5 (I v2)] []) H (by kernel_rfl) fun v3 H => ?_
  refine qa tok hT [0, 1, 5, 25] (St.mk [p 0 (L y236 a0), p 1 (I v3), p 5 (I v2), p 25 (B (decide (v3 < 0)))] []) (by kernel_rfl) ?_
  refine cd H (by kernel_rfl) (fun H => ?_) (fun H => ?_)
  ·refine qa tok hT [4] (St.mk [p 4 (I (-1))] []) (by kernel_rfl) ?_
   exact vx_ret <| fx_blk_ret <| fx_seq_ret <| t1 <| fx_blk_ret <| t0 <| hr H (by kernel_rfl)
  refine vx_skip <| fx_blk <| fx_seq <| ?_
  refine zb tok hT [0, 1, 5] (St.mk [p 0 (L y236 a0), p 1 (I v3), p 5 (I (v2 + 1))] []) H (by kernel_rfl) fun H => ?_
  exact b1 H (by kernel_rfl)
 exact vx_exit <| fx_seq_exit <| e1 <| fx_blk_exit rfl <| n0 H (by kernel_rfl)
def u157 (a0 : Y232) (a1 : Int) : Option (Int) :=
 gd (in64 (a1 - (↑a0.1.size : Int)) ∧ True) <| 
 if (decide (a1 - (↑a0.1.size : Int) < 0)) = true then
  some (-1)
 else
  some (a1 - (↑a0.1.size : Int))
def k157 : Ct := lct 157 [.agg y232, .dat i64] (fun x => u157 x.1 x.2.1) (fun r : Int => I r) (fun _ => ())
theorem o157 : Ok Tryz.prog k157 := by
 refine okl tok [.tmp 4] Tryz.func157 Tryz.ntmps157 rfl Tryz.results157 (by kernel_rfl) rfl ?_
 intro y ⟨a0, a1, _⟩ r H Q hn hr
 have hT := @tn Tryz.prog
 refine qa tok hT [1, 2] (St.mk [p 1 (J a1), p 2 (AV.ptr 2 0)] [(2, Ob.box 232 (cellsD false y232 a0))]) (by kernel_rfl) ?_
 refine qb tok hT [1] (St.mk [p 1 (I (a1 - (↑a0.1.size : Int)))] [(2, Ob.box 232 (cellsD false y232 a0))]) H (by kernel_rfl) fun H => ?_
 refine vx_seq <| ?_
 refine qa tok hT [1, 11] (St.mk [p 1 (I (a1 - (↑a0.1.size : Int))), p 11 (B (decide (a1 - (↑a0.1.size : Int) < 0)))] [(2, Ob.box 232 (cellsD false y232 a0))]) (by kernel_rfl) ?_
 refine cd H (by kernel_rfl) (fun H => ?_) (fun H => ?_)
 ·refine qa tok hT [4] (St.mk [p 4 (I (-1))] [(2, Ob.box 232 (cellsD false y232 a0))]) (by kernel_rfl) ?_
  exact vx_ret <| fx_seq_ret <| hr H (by kernel_rfl)
 refine vx_skip <| fx_seq <| ?_
 refine qa tok hT [4] (St.mk [p 4 (I (a1 - (↑a0.1.size : Int)))] [(2, Ob.box 232 (cellsD false y232 a0))]) (by kernel_rfl) ?_
 exact vx_ret <| hr H (by kernel_rfl)
def u139J0 : Int → Option (Int)
 | v4 =>
 some v4
def u139L1 (a0 : List Y232) (g1 : Int × Int → Option (Int)) : Int × Int → Option (Int)
 | (v1, v2) =>
 if (decide (v2 < (↑a0.length : Int))) = true then
  gd (ix v2 a0.length ∧ (u157 (a0.getD v2.toNat (dflt y232)) v1).isSome = true ∧ True) <| lt (vl (u157 (a0.getD v2.toNat (dflt y232)) v1)) fun v3 =>
  if (decide (v3 < 0)) = true then
   some (-1)
  else
   gd (in64 (v2 + 1) ∧ True) <| 
   g1 (v3, v2 + 1)
 else
  u139J0 v1
def u139 (a0 : List Y232) (a1 : Int) : Option (Int) :=
 gd (in64 (a1 - (↑a0.length : Int)) ∧ True) <| 
 if (decide (a1 - (↑a0.length : Int) < 0)) = true then
  some (-1)
 else
  lp (u139L1 a0) ((a1 - (↑a0.length : Int), 0))
def k139 : Ct := lct 139 [.dat y232.sl, .dat i64] (fun x => u139 x.1 x.2.1) (fun r : Int => I r) (fun _ => ())
theorem o139 : Ok Tryz.prog k139 := by
 refine okl tok [.tmp 4] Tryz.func139 Tryz.ntmps139 rfl Tryz.results139 (by kernel_rfl) rfl ?_
 intro y ⟨a0, a1, _⟩ r H Q hn hr
 have hT := tc o157 tn
 refine qa tok hT [0, 1] (St.mk [p 0 (L y232 a0), p 1 (J a1)] []) (by kernel_rfl) ?_
 refine qb tok hT [0, 1] (St.mk [p 0 (L y232 a0), p 1 (I (a1 - (↑a0.length : Int)))] []) H (by kernel_rfl) fun H => ?_
 refine vx_seq <| ?_
 refine qa tok hT [0, 1, 11] (St.mk [p 0 (L y232 a0), p 1 (I (a1 - (↑a0.length : Int))), p 11 (B (decide (a1 - (↑a0.length : Int) < 0)))] []) (by kernel_rfl) ?_
 refine cd H (by kernel_rfl) (fun H => ?_) (fun H => ?_)
 ·refine qa tok hT [4] (St.mk [p 4 (I (-1))] []) (by kernel_rfl) ?_
  exact vx_ret <| fx_seq_ret <| hr H (by kernel_rfl)
 refine vx_skip <| fx_seq <| ?_
 refine jn r (fun (v4 : Int) => St.mk [p 1 (I v4)] []) (u139J0) (fun v4 H => ?_) (fun _ n0 e0 t0 => ?_)
 ·refine qa tok hT [4] (St.mk [p 4 (I v4)] []) (by kernel_rfl) ?_
  exact vx_ret <| hr H (by kernel_rfl)
 refine qa tok hT [0, 1, 5] (St.mk [p 0 (L y232 a0), p 1 (I (a1 - (↑a0.length : Int))), p 5 (I 0)] []) (by kernel_rfl) ?_
 refine vx_block <| ?_
 refine lx (fun ((v1, v2) : Int × Int) => St.mk [p 0 (L y232 a0), p 1 (I v1), p 5 (I v2)] []) ((a1 - (↑a0.length : Int), 0)) H (by kernel_rfl) fun _ g1 b1 e1 t1 ⟨v1, v2⟩ H => ?_
 refine vx_seq <| ?_
 refine qa tok hT [0, 1, 5, 15] (St.mk [p 0 (L y232 a0), p 1 (I v1), p 5 (I v2), p 15 (B (decide (v2 < (↑a0.length : Int))))] []) (by kernel_rfl) ?_
 refine cd H (by kernel_rfl) (fun H => ?_) (fun H => ?_)
 ·refine vx_skip <| fx_seq <| vx_seq <| vx_block <| ?_
  refine qd tok hT [0, 1, 5] (fun v3 => St.mk [p 0 (L y232 a0), p 1 (I v3), p 5 (I v2)] []) H (by kernel_rfl) fun v3 H => ?_
  refine qa tok hT [0, 1, 5, 25] (St.mk [p 0 (L y232 a0), p 1 (I v3), p 5 (I v2), p 25 (B (decide (v3 < 0)))] []) (by kernel_rfl) ?_
  refine cd H (by kernel_rfl) (fun H => ?_) (fun H => ?_)
  ·refine qa tok hT [4] (St.mk [p 4 (I (-1))] []) (by kernel_rfl) ?_
   exact vx_ret <| fx_blk_ret <| fx_seq_ret <| t1 <| fx_blk_ret <| t0 <| hr H (by kernel_rfl)
  refine vx_skip <| fx_blk <| fx_seq <| ?_
  refine zb tok hT [0, 1, 5] (St.mk [p 0 (L y232 a0), p 1 (I v3), p 5 (I (v2 + 1))] []) H (by kernel_rfl) fun H => ?_
  exact b1 H (by kernel_rfl)
 exact vx_exit <| fx_seq_exit <| e1 <| fx_blk_exit rfl <| n0 H (by kernel_rfl)
def u109 (a0 : Y187) (a1 : Int) : Option (Int) :=
 gd (in64 (a1 - (↑a0.1.size : Int)) ∧ True) <| 
 if (decide (a1 - (↑a0.1.size : Int) < 0)) = true then
  some (-1)
 else
  gd ((u139 a0.2.2.1 (a1 - (↑a0.1.size : Int))).isSome = true ∧ True) <| lt (vl (u139 a0.2.2.1 (a1 - (↑a0.1.size : Int)))) fun v0 =>
  if (decide (v0 < 0)) = true then
   some (-1)
  else
   gd ((u140 a0.2.2.2.1 v0).isSome = true ∧ True) <| lt (vl (u140 a0.2.2.2.1 v0)) fun v1 =>
   if (decide (v1 < 0)) = true then
    some (-1)
   else
    gd ((u112 a0.2.2.2.2.1 v1).isSome = true ∧ True) <| lt (vl (u112 a0.2.2.2.2.1 v1)) fun v2 =>
    if (decide (v2 < 0)) = true then
     some (-1)
    else
     some v2
def k109 : Ct := lct 109 [.agg y187, .dat i64] (fun x => u109 x.1 x.2.1) (fun r : Int => I r) (fun _ => ())
theorem o109 : Ok Tryz.prog k109 := by
 refine okl tok [.tmp 4] Tryz.func109 Tryz.ntmps109 rfl Tryz.results109 (by kernel_rfl) rfl ?_
 intro y ⟨a0, a1, _⟩ r H Q hn hr
 have hT := tc o112 (tc o140 (tc o139 tn))
 refine qa tok hT [1, 2] (St.mk [p 1 (J a1), p 2 (AV.ptr 2 0)] [(2, Ob.box 187 (cellsD false y187 a0))]) (by kernel_rfl) ?_
 refine qb tok hT [1, 2] (St.mk [p 1 (I (a1 - (↑a0.1.size : Int))), p 2 (AV.ptr 2 0)] [(2, Ob.box 187 (cellsD false y187 a0))]) H (by kernel_rfl) fun H => ?_
 refine vx_seq <| ?_
 refine qa tok hT [1, 2, 11] (St.mk [p 1 (I (a1 - (↑a0.1.size : Int))), p 2 (AV.ptr 2 0), p 11 (B (decide (a1 - (↑a0.1.size : Int) < 0)))] [(2, Ob.box 187 (cellsD false y187 a0))]) (by kernel_rfl) ?_
 refine cd H (by kernel_rfl) (fun H => ?_) (fun H => ?_)
 ·refine qa tok hT [4] (St.mk [p 4 (I (-1))] [(2, Ob.box 187 (cellsD false y187 a0))]) (by kernel_rfl) ?_
  exact vx_ret <| fx_seq_ret <| hr H (by kernel_rfl)
 refine vx_skip <| fx_seq <| ?_
 refine qd tok hT [1, 2] (fun v0 => St.mk [p 1 (I v0), p 2 (AV.ptr 2 0)] [(2, Ob.box 187 (cellsD false y187 a0))]) H (by kernel_rfl) fun v0 H => ?_
 refine vx_seq <| ?_
 refine qa tok hT [1, 2, 17] (St.mk [p 1 (I v0), p 2 (AV.ptr 2 0), p 17 (B (decide (v0 < 0)))] [(2, Ob.box 187 (cellsD false y187 a0))]) (by kernel_rfl) ?_
 refine cd H (by kernel_rfl) (fun H => ?_) (fun H => ?_)
 ·refine qa tok hT [4] (St.mk [p 4 (I (-1))] [(2, Ob.box 187 (cellsD false y187 a0))]) (by kernel_rfl) ?_
  exact vx_ret <| fx_seq_ret <| hr H (by kernel_rfl)
 refine vx_skip <| fx_seq <| ?_
 refine qd tok hT [1, 2] (fun v1 => St.mk [p 1 (I v1), p 2 (AV.ptr 2 0)] [(2, Ob.box 187 (cellsD false y187 a0))]) H (by kernel_rfl) fun v1 H => ?_
 refine vx_seq <| ?_
 refine qa tok hT [1, 2, 23] (St.mk [p 1 (I v1), p 2 (AV.ptr 2 0), p 23 (B (decide (v1 < 0)))] [(2, Ob.box 187 (cellsD false y187 a0))]) (by kernel_rfl) ?_
 refine cd H (by kernel_rfl) (fun H => ?_) (fun H => ?_)
 ·refine qa tok hT [4] (St.mk [p 4 (I (-1))] [(2, Ob.box 187 (cellsD false y187 a0))]) (by kernel_rfl) ?_
  exact vx_ret <| fx_seq_ret <| hr H (by kernel_rfl)
 refine vx_skip <| fx_seq <| ?_
 refine qd tok hT [1] (fun v2 => St.mk [p 1 (I v2)] [(2, Ob.box 187 (cellsD false y187 a0))]) H (by kernel_rfl) fun v2 H => ?_
 refine vx_seq <| ?_
 refine qa tok hT [1, 29] (St.mk [p 1 (I v2), p 29 (B (decide (v2 < 0)))] [(2, Ob.box 187 (cellsD false y187 a0))]) (by kernel_rfl) ?_
 refine cd H (by kernel_rfl) (fun H => ?_) (fun H => ?_)
 ·refine qa tok hT [4] (St.mk [p 4 (I (-1))] [(2, Ob.box 187 (cellsD false y187 a0))]) (by kernel_rfl) ?_
  exact vx_ret <| fx_seq_ret <| hr H (by kernel_rfl)
 refine vx_skip <| fx_seq <| ?_
 refine qa tok hT [4] (St.mk [p 4 (I v2)] [(2, Ob.box 187 (cellsD false y187 a0))]) (by kernel_rfl) ?_
 exact vx_ret <| hr H (by kernel_rfl)
def u64J0 : Int → Option (Int)
 | v4 =>
 some v4
def u64L1 (a0 : List Y187) (g1 : Int × Int → Option (Int)) : Int × Int → Option (Int)
 | (v1, v2) =>
 if (decide (v2 < (↑a0.length : Int))) = true then
  gd (ix v2 a0.length ∧ (u109 (a0.getD v2.toNat (dflt y187)) v1).isSome = true ∧ True) <| lt (vl (u109 (a0.getD v2.toNat (dflt y187)) v1)) fun v3 =>
  if (decide (v3 < 0)) = true then
   some (-1)
  else
   gd (in64 (v2 + 1) ∧ True) <| 
   g1 (v3, v2 + 1)
 else
  u64J0 v1
def u64 (a0 : List Y187) (a1 : Int) : Option (Int) :=
 gd (in64 (a1 - (↑a0.length : Int)) ∧ True) <| 
 if (decide (a1 - (↑a0.length : Int) < 0)) = true then
  some (-1)
 else
  lp (u64L1 a0) ((a1 - (↑a0.length : Int), 0))
def k64 : Ct := lct 64 [.dat y187.sl, .dat i64] (fun x => u64 x.1 x.2.1) (fun r : Int => I r) (fun _ => ())
theorem o64 : Ok Tryz.prog k64 := by
 refine okl tok [.tmp 4] Tryz.func64 Tryz.ntmps64 rfl Tryz.results64 (by kernel_rfl) rfl ?_
 intro y ⟨a0, a1, _⟩ r H Q hn hr
 have hT := tc o109 tn
 refine qa tok hT [0, 1] (St.mk [p 0 (L y187 a0), p 1 (J a1)] []) (by kernel_rfl) ?_
 refine qb tok hT [0, 1] (St.mk [p 0 (L y187 a0), p 1 (I (a1 - (↑a0.length : Int)))] []) H (by kernel_rfl) fun H => ?_
 refine vx_seq <| ?_
 refine qa tok hT [0, 1, 11] (St.mk [p 0 (L y187 a0), p 1 (I (a1 - (↑a0.length : Int))), p 11 (B (decide (a1 - (↑a0.length : Int) < 0)))] []) (by kernel_rfl) ?_
 refine cd H (by kernel_rfl) (fun H => ?_) (fun H => ?_)
 ·refine qa tok hT [4] (St.mk [p 4 (I (-1))] []) (by kernel_rfl) ?_
  exact vx_ret <| fx_seq_ret <| hr H (by kernel_rfl)
 refine vx_skip <| fx_seq <| ?_
 refine jn r (fun (v4 : Int) => St.mk [p 1 (I v4)] []) (u64J0) (fun v4 H => ?_) (fun _ n0 e0 t0 => ?_)
 ·refine qa tok hT [4] (St.mk [p 4 (I v4)] []) (by kernel_rfl) ?_
  exact vx_ret <| hr H (by kernel_rfl)
 refine qa tok hT [0, 1, 5] (St.mk [p 0 (L y187 a0), p 1 (I (a1 - (↑a0.length : Int))), p 5 (I 0)] []) (by kernel_rfl) ?_
 refine vx_block <| ?_
 refine lx (fun ((v1, v2) : Int × Int) => St.mk [p 0 (L y187 a0), p 1 (I v1), p 5 (I v2)] []) ((a1 - (↑a0.length : Int), 0)) H (by kernel_rfl) fun _ g1 b1 e1 t1 ⟨v1, v2⟩ H => ?_
 refine vx_seq <| ?_
 refine qa tok hT [0, 1, 5, 15] (St.mk [p 0 (L y187 a0), p 1 (I v1), p 5 (I v2), p 15 (B (decide (v2 < (↑a0.length : Int))))] []) (by kernel_rfl) ?_
 refine cd H (by kernel_rfl) (fun H => ?_) (fun H => ?_)
 ·refine vx_skip <| fx_seq <| vx_seq <| vx_block <| ?_
  refine qd tok hT [0, 1, 5] (fun v3 => St.mk [p 0 (L y187 a0), p 1 (I v3), p 5 (I v2)] []) H (by kernel_rfl) fun v3 H => ?_
  refine qa tok hT [0, 1, 5, 25] (St.mk [p 0 (L y187 a0), p 1 (I v3), p 5 (I v2), p 25 (B (decide (v3 < 0)))] []) (by kernel_rfl) ?_
  refine cd H (by kernel_rfl) (fun H => ?_) (fun H => ?_)
  ·refine qa tok hT [4] (St.mk [p 4 (I (-1))] []) (by kernel_rfl) ?_
   exact vx_ret <| fx_blk_ret <| fx_seq_ret <| t1 <| fx_blk_ret <| t0 <| hr H (by kernel_rfl)
  refine vx_skip <| fx_blk <| fx_seq <| ?_
  refine zb tok hT [0, 1, 5] (St.mk [p 0 (L y187 a0), p 1 (I v3), p 5 (I (v2 + 1))] []) H (by kernel_rfl) fun H => ?_
  exact b1 H (by kernel_rfl)
 exact vx_exit <| fx_seq_exit <| e1 <| fx_blk_exit rfl <| n0 H (by kernel_rfl)
def u27 (a0 : List Y187) (a1 : Int) : Option (Int) :=
 gd ((u64 a0 a1).isSome = true ∧ True) <| lt (vl (u64 a0 a1)) fun v0 =>
 if (decide (v0 < 0)) = true then
  some (-1)
 else
  some v0
def k27 : Ct := lct 27 [.agg y187.sl, .dat i64] (fun x => u27 x.1 x.2.1) (fun r : Int => I r) (fun _ => ())
theorem o27 : Ok Tryz.prog k27 := by
 refine okl tok [.tmp 4] Tryz.func27 Tryz.ntmps27 rfl Tryz.results27 (by kernel_rfl) rfl ?_
 intro y ⟨a0, a1, _⟩ r H Q hn hr
 have hT := tc o64 tn
 refine qa tok hT [1, 2] (St.mk [p 1 (J a1), p 2 (AV.ptr 2 0)] [(2, Ob.box 24 [L y187 a0])]) (by kernel_rfl) ?_
 refine qd tok hT [1] (fun v0 => St.mk [p 1 (I v0)] [(2, Ob.box 24 [L y187 a0])]) H (by kernel_rfl) fun v0 H => ?_
 refine vx_seq <| ?_
 refine qa tok hT [1, 10] (St.mk [p 1 (I v0), p 10 (B (decide (v0 < 0)))] [(2, Ob.box 24 [L y187 a0])]) (by kernel_rfl) ?_
 refine cd H (by kernel_rfl) (fun H => ?_) (fun H => ?_)
 ·refine qa tok hT [4] (St.mk [p 4 (I (-1))] [(2, Ob.box 24 [L y187 a0])]) (by kernel_rfl) ?_
  exact vx_ret <| fx_seq_ret <| hr H (by kernel_rfl)
 refine vx_skip <| fx_seq <| ?_
 refine qa tok hT [4] (St.mk [p 4 (I v0)] [(2, Ob.box 24 [L y187 a0])]) (by kernel_rfl) ?_
 exact vx_ret <| hr H (by kernel_rfl)
def u8 (a0 : Y32) (a1 : Int) : Option (Int) :=
 gd ((u27 a0.1 a1).isSome = true ∧ True) <| lt (vl (u27 a0.1 a1)) fun v0 =>
 if (decide (v0 < 0)) = true then
  some (-1)
 else
  gd ((u28 a0.2.1 v0).isSome = true ∧ True) <| lt (vl (u28 a0.2.1 v0)) fun v1 =>
  if (decide (v1 < 0)) = true then
   some (-1)
  else
   gd ((u29 a0.2.2 v1).isSome = true ∧ True) <| lt (vl (u29 a0.2.2 v1)) fun v2 =>
   if (decide (v2 < 0)) = true then
    some (-1)
   else
    some v2
def k8 : Ct := lct 8 [.agg y32, .dat i64] (fun x => u8 x.1 x.2.1) (fun r : Int => I r) (fun _ => ())
theorem o8 : Ok Tryz.prog k8 := by
 refine okl tok [.tmp 4] Tryz.func8 Tryz.ntmps8 rfl Tryz.results8 (by kernel_rfl) rfl ?_
 intro y ⟨a0, a1, _⟩ r H Q hn hr
 have hT := tc o29 (tc o28 (tc o27 tn))
 refine qa tok hT [1, 2] (St.mk [p 1 (J a1), p 2 (AV.ptr 2 0)] [(2, Ob.box 32 (cellsD false y32 a0))]) (by kernel_rfl) ?_
 refine qd tok hT [1, 2] (fun v0 => St.mk [p 1 (I v0), p 2 (AV.ptr 2 0)] [(2, Ob.box 32 (cellsD false y32 a0))]) H (by kernel_rfl) fun v0 H => ?_
 refine vx_seq <| ?_
 refine qa tok hT [1, 2, 10] (St.mk [p 1 (I v0), p 2 (AV.ptr 2 0), p 10 (B (decide (v0 < 0)))] [(2, Ob.box 32 (cellsD false y32 a0))]) (by kernel_rfl) ?_
 refine cd H (by kernel_rfl) (fun H => ?_) (fun H => ?_)
 ·refine qa tok hT [4] (St.mk [p 4 (I (-1))] [(2, Ob.box 32 (cellsD false y32 a0))]) (by kernel_rfl) ?_
  exact vx_ret <| fx_seq_ret <| hr H (by kernel_rfl)
 refine vx_skip <| fx_seq <| ?_
 refine qd tok hT [1, 2] (fun v1 => St.mk [p 1 (I v1), p 2 (AV.ptr 2 0)] [(2, Ob.box 32 (cellsD false y32 a0))]) H (by kernel_rfl) fun v1 H => ?_
 refine vx_seq <| ?_
 refine qa tok hT [1, 2, 16] (St.mk [p 1 (I v1), p 2 (AV.ptr 2 0), p 16 (B (decide (v1 < 0)))] [(2, Ob.box 32 (cellsD false y32 a0))]) (by kernel_rfl) ?_
 refine cd H (by kernel_rfl) (fun H => ?_) (fun H => ?_)
 ·refine qa tok hT [4] (St.mk [p 4 (I (-1))] [(2, Ob.box 32 (cellsD false y32 a0))]) (by kernel_rfl) ?_
  exact vx_ret <| fx_seq_ret <| hr H (by kernel_rfl)
 refine vx_skip <| fx_seq <| ?_
 refine qd tok hT [1] (fun v2 => St.mk [p 1 (I v2)] [(2, Ob.box 32 (cellsD false y32 a0))]) H (by kernel_rfl) fun v2 H => ?_
 refine vx_seq <| ?_
 refine qa tok hT [1, 22] (St.mk [p 1 (I v2), p 22 (B (decide (v2 < 0)))] [(2, Ob.box 32 (cellsD false y32 a0))]) (by kernel_rfl) ?_
 refine cd H (by kernel_rfl) (fun H => ?_) (fun H => ?_)
 ·refine qa tok hT [4] (St.mk [p 4 (I (-1))] [(2, Ob.box 32 (cellsD false y32 a0))]) (by kernel_rfl) ?_
  exact vx_ret <| fx_seq_ret <| hr H (by kernel_rfl)
 refine vx_skip <| fx_seq <| ?_
 refine qa tok hT [4] (St.mk [p 4 (I v2)] [(2, Ob.box 32 (cellsD false y32 a0))]) (by kernel_rfl) ?_
 exact vx_ret <| hr H (by kernel_rfl)
def u7 (a0 : Y32) (a1 : Y63) : Option (Bool) :=
 gd ((u8 a0 1048576).isSome = true ∧ True) <| lt (vl (u8 a0 1048576)) fun v0 =>
 if (decide (v0 < 0)) = true then
  some true
 else
  gd ((u22 a1 v0).isSome = true ∧ True) <| lt (vl (u22 a1 v0)) fun v1 =>
  if (decide (v1 < 0)) = true then
   some true
  else
   gd ((u10 a0).isSome = true ∧ (u24 a1).isSome = true ∧ (u23 (vl (u10 a0)) (vl (u24 a1))).isSome = true ∧ True) <| lt ((vl (u24 a1), vl (u10 a0))) fun (v2, v3) =>
   gd ((u10 a0).isSome = true ∧ True) <| lt (vl (u10 a0)) fun v4 =>
   gd ((u24 a1).isSome = true ∧ True) <| lt (vl (u24 a1)) fun v5 =>
   gd ((u25 v4 v5).isSome = true ∧ True) <| 
   if (!vl (u25 v4 v5) == vl (u23 v3 v2)) = true then
    some false
   else
    gd ((u10 a0).isSome = true ∧ (u12 v4 (vl (u10 a0))).isSome = true ∧ True) <| lt (vl (u10 a0)) fun v6 =>
    if (!vl (u12 v4 v6)) = true then
     some false
    else
     gd ((u24 a1).isSome = true ∧ (u26 v5 (vl (u24 a1))).isSome = true ∧ True) <| lt (vl (u24 a1)) fun v7 =>
     if (!vl (u26 v5 v7)) = true then
      some false
     else
      some true
def k7 : Ct := lct 7 [.agg y32, .agg y63] (fun x => u7 x.1 x.2.1) (fun r : Bool => B r) (fun _ => ())
theorem o7 : Ok Tryz.prog k7 := by
 refine okl tok [.tmp 4] Tryz.func7 Tryz.ntmps7 rfl Tryz.results7 (by kernel_rfl) rfl ?_
 intro y ⟨a0, a1, _⟩ r H Q hn hr
 have hT := tc o26 (tc o24 (tc o12 (tc o10 (tc o25 (tc o23 (tc o22 (tc o8 tn)))))))
 refine qa tok hT [2, 3] (St.mk [p 2 (AV.ptr 2 0), p 3 (AV.ptr 3 0)] [(3, Ob.box 63 (cellsD false y63 a1)), (2, Ob.box 32 (cellsD false y32 a0))]) (by kernel_rfl) ?_
 refine qa tok hT [2, 3, 5] (St.mk [p 2 (AV.ptr 2 0), p 3 (AV.ptr 3 0), p 5 (I 1048576)] [(3, Ob.box 63 (cellsD false y63 a1)), (2, Ob.box 32 (cellsD false y32 a0))]) (by kernel_rfl) ?_
 refine qd tok hT [2, 3, 5] (fun v0 => St.mk [p 2 (AV.ptr 2 0), p 3 (AV.ptr 3 0), p 5 (I v0)] [(3, Ob.box 63 (cellsD false y63 a1)), (2, Ob.box 32 (cellsD false y32 a0))]) H (by kernel_rfl) fun v0 H => ?_
 refine vx_seq <| ?_
 refine qa tok hT [2, 3, 5, 14] (St.mk [p 2 (AV.ptr 2 0), p 3 (AV.ptr 3 0), p 5 (I v0), p 14 (B (decide (v0 < 0)))] [(3, Ob.box 63 (cellsD false y63 a1)), (2, Ob.box 32 (cellsD false y32 a0))]) (by kernel_rfl) ?_
 refine cd H (by kernel_rfl) (fun H => ?_) (fun H => ?_)
 ·refine qa tok hT [4] (St.mk [p 4 (B true)] [(3, Ob.box 63 (cellsD false y63 a1)), (2, Ob.box 32 (cellsD false y32 a0))]) (by kernel_rfl) ?_
  exact vx_ret <| fx_seq_ret <| hr H (by kernel_rfl)
 refine vx_skip <| fx_seq <| ?_
 refine qd tok hT [2, 3, 5] (fun v1 => St.mk [p 2 (AV.ptr 2 0), p 3 (AV.ptr 3 0), p 5 (I v1)] [(3, Ob.box 63 (cellsD false y63 a1)), (2, Ob.box 32 (cellsD false y32 a0))]) H (by kernel_rfl) fun v1 H => ?_
 refine vx_seq <| ?_
 refine qa tok hT [2, 3, 19] (St.mk [p 2 (AV.ptr 2 0), p 3 (AV.ptr 3 0), p 19 (B (decide (v1 < 0)))] [(3, Ob.box 63 (cellsD false y63 a1)), (2, Ob.box 32 (cellsD false y32 a0))]) (by kernel_rfl) ?_
 refine cd H (by kernel_rfl) (fun H => ?_) (fun H => ?_)
 ·refine qa tok hT [4] (St.mk [p 4 (B true)] [(3, Ob.box 63 (cellsD false y63 a1)), (2, Ob.box 32 (cellsD false y32 a0))]) (by kernel_rfl) ?_
  exact vx_ret <| fx_seq_ret <| hr H (by kernel_rfl)
 refine vx_skip <| fx_seq <| ?_
 refine qd tok hT [2, 3, 6] (fun (v2, v3) => St.mk [p 2 (AV.ptr 2 0), p 3 (AV.ptr 3 0), p 6 (B (vl (u23 v3 v2)))] [(2023, Ob.arr 105 true y105 v2.2.2 0), (1023, Ob.arr 105 true y105 v2.2.1 0), (23, Ob.arr 4 true Ty.bool v2.1 0), (4021, Ob.arr 131 true y131 v3.2.2 0), (3021, Ob.arr 143 true y143 v3.2.1.2.2 0), (2021, Ob.arr 9 true Ty.str v3.2.1.2.1 0), (1021, Ob.arr 141 true y141 v3.2.1.1 0), (21, Ob.arr 152 true y152 v3.1 0), (3, Ob.box 63 (cellsD false y63 a1)), (2, Ob.box 32 (cellsD false y32 a0))]) H (by kernel_rfl) fun ⟨v2, v3⟩ H => ?_
 refine qd tok hT [2, 3, 6, 7] (fun v4 => St.mk [p 2 (AV.ptr 2 0), p 3 (AV.ptr 3 0), p 6 (B (vl (u23 v3 v2))), p 7 (AV.ptr 7 0)] [(7, Ob.box 44 [AV.os 26 0, AV.os 1026 0, AV.os 2026 0, AV.os 3026 0, AV.os 4026 0]), (4026, Ob.arr 131 true y131 v4.2.2 0), (3026, Ob.arr 143 true y143 v4.2.1.2.2 0), (2026, Ob.arr 9 true Ty.str v4.2.1.2.1 0), (1026, Ob.arr 141 true y141 v4.2.1.1 0), (26, Ob.arr 152 true y152 v4.1 0), (2023, Ob.arr 105 true y105 v2.2.2 0), (1023, Ob.arr 105 true y105 v2.2.1 0), (23, Ob.arr 4 true Ty.bool v2.1 0), (4021, Ob.arr 131 true y131 v3.2.2 0), (3021, Ob.arr 143 true y143 v3.2.1.2.2 0), (2021, Ob.arr 9 true Ty.str v3.2.1.2.1 0), (1021, Ob.arr 141 true y141 v3.2.1.1 0), (21, Ob.arr 152 true y152 v3.1 0), (3, Ob.box 63 (cellsD false y63 a1)), (2, Ob.box 32 (cellsD false y32 a0))]) H (by kernel_rfl) fun v4 H => ?_
 refine qd tok hT [2, 3, 6, 7, 8] (fun v5 => St.mk [p 2 (AV.ptr 2 0), p 3 (AV.ptr 3 0), p 6 (B (vl (u23 v3 v2))), p 7 (AV.ptr 7 0), p 8 (AV.ptr 8 0)] [(8, Ob.box 68 [AV.os 28 0, AV.os 1028 0, AV.os 2028 0]), (2028, Ob.arr 105 true y105 v5.2.2 0), (1028, Ob.arr 105 true y105 v5.2.1 0), (28, Ob.arr 4 true Ty.bool v5.1 0), (7, Ob.box 44 [AV.os 26 0, AV.os 1026 0, AV.os 2026 0, AV.os 3026 0, AV.os 4026 0]), (4026, Ob.arr 131 true y131 v4.2.2 0), (3026, Ob.arr 143 true y143 v4.2.1.2.2 0), (2026, Ob.arr 9 true Ty.str v4.2.1.2.1 0), (1026, Ob.arr 141 true y141 v4.2.1.1 0), (26, Ob.arr 152 true y152 v4.1 0), (2023, Ob.arr 105 true y105 v2.2.2 0), (1023, Ob.arr 105 true y105 v2.2.1 0), (23, Ob.arr 4 true Ty.bool v2.1 0), (4021, Ob.arr 131 true y131 v3.2.2 0), (3021, Ob.arr 143 true y143 v3.2.1.2.2 0), (2021, Ob.arr 9 true Ty.str v3.2.1.2.1 0), (1021, Ob.arr 141 true y141 v3.2.1.1 0), (21, Ob.arr 152 true y152 v3.1 0), (3, Ob.box 63 (cellsD false y63 a1)), (2, Ob.box 32 (cellsD false y32 a0))]) H (by kernel_rfl) fun v5 H => ?_
 refine qb tok hT [2, 3, 6, 7, 8, 9] (St.mk [p 2 (AV.ptr 2 0), p 3 (AV.ptr 3 0), p 6 (B (vl (u23 v3 v2))), p 7 (AV.ptr 7 0), p 8 (AV.ptr 8 0), p 9 (B (vl (u25 v4 v5)))] [(8, Ob.box 68 [AV.os 28 0, AV.os 1028 0, AV.os 2028 0]), (2028, Ob.arr 105 true y105 v5.2.2 0), (1028, Ob.arr 105 true y105 v5.2.1 0), (28, Ob.arr 4 true Ty.bool v5.1 0), (7, Ob.box 44 [AV.os 26 0, AV.os 1026 0, AV.os 2026 0, AV.os 3026 0, AV.os 4026 0]), (4026, Ob.arr 131 true y131 v4.2.2 0), (3026, Ob.arr 143 true y143 v4.2.1.2.2 0), (2026, Ob.arr 9 true Ty.str v4.2.1.2.1 0), (1026, Ob.arr 141 true y141 v4.2.1.1 0), (26, Ob.arr 152 true y152 v4.1 0), (2023, Ob.arr 105 true y105 v2.2.2 0), (1023, Ob.arr 105 true y105 v2.2.1 0), (23, Ob.arr 4 true Ty.bool v2.1 0), (4021, Ob.arr 131 true y131 v3.2.2 0), (3021, Ob.arr 143 true y143 v3.2.1.2.2 0), (2021, Ob.arr 9 true Ty.str v3.2.1.2.1 0), (1021, Ob.arr 141 true y141 v3.2.1.1 0), (21, Ob.arr 152 true y152 v3.1 0), (3, Ob.box 63 (cellsD false y63 a1)), (2, Ob.box 32 (cellsD false y32 a0))]) H (by kernel_rfl) fun H => ?_
 refine vx_seq <| ?_
 refine qa tok hT [2, 3, 7, 8, 34] (St.mk [p 2 (AV.ptr 2 0), p 3 (AV.ptr 3 0), p 7 (AV.ptr 7 0), p 8 (AV.ptr 8 0), p 34 (B !vl (u25 v4 v5) == vl (u23 v3 v2))] [(8, Ob.box 68 [AV.os 28 0, AV.os 1028 0, AV.os 2028 0]), (2028, Ob.arr 105 true y105 v5.2.2 0), (1028, Ob.arr 105 true y105 v5.2.1 0), (28, Ob.arr 4 true Ty.bool v5.1 0), (7, Ob.box 44 [AV.os 26 0, AV.os 1026 0, AV.os 2026 0, AV.os 3026 0, AV.os 4026 0]), (4026, Ob.arr 131 true y131 v4.2.2 0), (3026, Ob.arr 143 true y143 v4.2.1.2.2 0), (2026, Ob.arr 9 true Ty.str v4.2.1.2.1 0), (1026, Ob.arr 141 true y141 v4.2.1.1 0), (26, Ob.arr 152 true y152 v4.1 0), (2023, Ob.arr 105 true y105 v2.2.2 0), (1023, Ob.arr 105 true y105 v2.2.1 0), (23, Ob.arr 4 true Ty.bool v2.1 0), (4021, Ob.arr 131 true y131 v3.2.2 0), (3021, Ob.arr 143 true y143 v3.2.1.2.2 0), (2021, Ob.arr 9 true Ty.str v3.2.1.2.1 0), (1021, Ob.arr 141 true y141 v3.2.1.1 0), (21, Ob.arr 152 true y152 v3.1 0), (3, Ob.box 63 (cellsD false y63 a1)), (2, Ob.box 32 (cellsD false y32 a0))]) (by kernel_rfl) ?_
 refine cd H (by kernel_rfl) (fun H => ?_) (fun H => ?_)
 ·refine qa tok hT [4] (St.mk [p 4 (B false)] [(8, Ob.box 68 [AV.os 28 0, AV.os 1028 0, AV.os 2028 0]), (2028, Ob.arr 105 true y105 v5.2.2 0), (1028, Ob.arr 105 true y105 v5.2.1 0), (28, Ob.arr 4 true Ty.bool v5.1 0), (7, Ob.box 44 [AV.os 26 0, AV.os 1026 0, AV.os 2026 0, AV.os 3026 0, AV.os 4026 0]), (4026, Ob.arr 131 true y131 v4.2.2 0), (3026, Ob.arr 143 true y143 v4.2.1.2.2 0), (2026, Ob.arr 9 true Ty.str v4.2.1.2.1 0), (1026, Ob.arr 141 true y141 v4.2.1.1 0), (26, Ob.arr 152 true y152 v4.1 0), (2023, Ob.arr 105 true y105 v2.2.2 0), (1023, Ob.arr 105 true y105 v2.2.1 0), (23, Ob.arr 4 true Ty.bool v2.1 0), (4021, Ob.arr 131 true y131 v3.2.2 0), (3021, Ob.arr 143 true y143 v3.2.1.2.2 0), (2021, Ob.arr 9 true Ty.str v3.2.1.2.1 0), (1021, Ob.arr 141 true y141 v3.2.1.1 0), (21, Ob.arr 152 true y152 v3.1 0), (3, Ob.box 63 (cellsD false y63 a1)), (2, Ob.box 32 (cellsD false y32 a0))]) (by kernel_rfl) ?_
  exact vx_ret <| fx_seq_ret <| hr H (by kernel_rfl)
 refine vx_skip <| fx_seq <| vx_seq <| ?_
 refine qd tok hT [3, 8, 39] (fun v6 => St.mk [p 3 (AV.ptr 3 0), p 8 (AV.ptr 8 0), p 39 (B !vl (u12 v4 v6))] [(4037, Ob.arr 131 true y131 v6.2.2 0), (3037, Ob.arr 143 true y143 v6.2.1.2.2 0), (2037, Ob.arr 9 true Ty.str v6.2.1.2.1 0), (1037, Ob.arr 141 true y141 v6.2.1.1 0), (37, Ob.arr 152 true y152 v6.1 0), (8, Ob.box 68 [AV.os 28 0, AV.os 1028 0, AV.os 2028 0]), (2028, Ob.arr 105 true y105 v5.2.2 0), (1028, Ob.arr 105 true y105 v5.2.1 0), (28, Ob.arr 4 true Ty.bool v5.1 0), (7, Ob.box 44 [AV.os 26 0, AV.os 1026 0, AV.os 2026 0, AV.os 3026 0, AV.os 4026 0]), (4026, Ob.arr 131 true y131 v4.2.2 0), (3026, Ob.arr 143 true y143 v4.2.1.2.2 0), (2026, Ob.arr 9 true Ty.str v4.2.1.2.1 0), (1026, Ob.arr 141 true y141 v4.2.1.1 0), (26, Ob.arr 152 true y152 v4.1 0), (2023, Ob.arr 105 true y105 v2.2.2 0), (1023, Ob.arr 105 true y105 v2.2.1 0), (23, Ob.arr 4 true Ty.bool v2.1 0), (4021, Ob.arr 131 true y131 v3.2.2 0), (3021, Ob.arr 143 true y143 v3.2.1.2.2 0), (2021, Ob.arr 9 true Ty.str v3.2.1.2.1 0), (1021, Ob.arr 141 true y141 v3.2.1.1 0), (21, Ob.arr 152 true y152 v3.1 0), (3, Ob.box 63 (cellsD false y63 a1)), (2, Ob.box 32 (cellsD false y32 a0))]) H (by kernel_rfl) fun v6 H => ?_
 refine cd H (by kernel_rfl) (fun H => ?_) (fun H => ?_)
 ·refine qa tok hT [4] (St.mk [p 4 (B false)] [(4037, Ob.arr 131 true y131 v6.2.2 0), (3037, Ob.arr 143 true y143 v6.2.1.2.2 0), (2037, Ob.arr 9 true Ty.str v6.2.1.2.1 0), (1037, Ob.arr 141 true y141 v6.2.1.1 0), (37, Ob.arr 152 true y152 v6.1 0), (8, Ob.box 68 [AV.os 28 0, AV.os 1028 0, AV.os 2028 0]), (2028, Ob.arr 105 true y105 v5.2.2 0), (1028, Ob.arr 105 true y105 v5.2.1 0), (28, Ob.arr 4 true Ty.bool v5.1 0), (7, Ob.box 44 [AV.os 26 0, AV.os 1026 0, AV.os 2026 0, AV.os 3026 0, AV.os 4026 0]), (4026, Ob.arr 131 true y131 v4.2.2 0), (3026, Ob.arr 143 true y143 v4.2.1.2.2 0), (2026, Ob.arr 9 true Ty.str v4.2.1.2.1 0), (1026, Ob.arr 141 true y141 v4.2.1.1 0), (26, Ob.arr 152 true y152 v4.1 0), (2023, Ob.arr 105 true y105 v2.2.2 0), (1023, Ob.arr 105 true y105 v2.2.1 0), (23, Ob.arr 4 true Ty.bool v2.1 0), (4021, Ob.arr 131 true y131 v3.2.2 0), (3021, Ob.arr 143 true y143 v3.2.1.2.2 0), (2021, Ob.arr 9 true Ty.str v3.2.1.2.1 0), (1021, Ob.arr 141 true y141 v3.2.1.1 0), (21, Ob.arr 152 true y152 v3.1 0), (3, Ob.box 63 (cellsD false y63 a1)), (2, Ob.box 32 (cellsD false y32 a0))]) (by kernel_rfl) ?_
  exact vx_ret <| fx_seq_ret <| hr H (by kernel_rfl)
 refine vx_skip <| fx_seq <| vx_seq <| ?_
 refine qd tok hT [44] (fun v7 => St.mk [p 44 (B !vl (u26 v5 v7))] [(2042, Ob.arr 105 true y105 v7.2.2 0), (1042, Ob.arr 105 true y105 v7.2.1 0), (42, Ob.arr 4 true Ty.bool v7.1 0), (4037, Ob.arr 131 true y131 v6.2.2 0), (3037, Ob.arr 143 true y143 v6.2.1.2.2 0), (2037, Ob.arr 9 true Ty.str v6.2.1.2.1 0), (1037, Ob.arr 141 true y141 v6.2.1.1 0), (37, Ob.arr 152 true y152 v6.1 0), (8, Ob.box 68 [AV.os 28 0, AV.os 1028 0, AV.os 2028 0]), (2028, Ob.arr 105 true y105 v5.2.2 0), (1028, Ob.arr 105 true y105 v5.2.1 0), (28, Ob.arr 4 true Ty.bool v5.1 0), (7, Ob.box 44 [AV.os 26 0, AV.os 1026 0, AV.os 2026 0, AV.os 3026 0, AV.os 4026 0]), (4026, Ob.arr 131 true y131 v4.2.2 0), (3026, Ob.arr 143 true y143 v4.2.1.2.2 0), (2026, Ob.arr 9 true Ty.str v4.2.1.2.1 0), (1026, Ob.arr 141 true y141 v4.2.1.1 0), (26, Ob.arr 152 true y152 v4.1 0), (2023, Ob.arr 105 true y105 v2.2.2 0), (1023, Ob.arr 105 true y105 v2.2.1 0), (23, Ob.arr 4 true Ty.bool v2.1 0), (4021, Ob.arr 131 true y131 v3.2.2 0), (3021, Ob.arr 143 true y143 v3.2.1.2.2 0), (2021, Ob.arr 9 true Ty.str v3.2.1.2.1 0), (1021, Ob.arr 141 true y141 v3.2.1.1 0), (21, Ob.arr 152 true y152 v3.1 0), (3, Ob.box 63 (cellsD false y63 a1)), (2, Ob.box 32 (cellsD false y32 a0))]) H (by kernel_rfl) fun v7 H => ?_
 refine cd H (by kernel_rfl) (fun H => ?_) (fun H => ?_)
 ·refine qa tok hT [4] (St.mk [p 4 (B false)] [(2042, Ob.arr 105 true y105 v7.2.2 0), (1042, Ob.arr 105 true y105 v7.2.1 0), (42, Ob.arr 4 true Ty.bool v7.1 0), (4037, Ob.arr 131 true y131 v6.2.2 0), (3037, Ob.arr 143 true y143 v6.2.1.2.2 0), (2037, Ob.arr 9 true Ty.str v6.2.1.2.1 0), (1037, Ob.arr 141 true y141 v6.2.1.1 0), (37, Ob.arr 152 true y152 v6.1 0), (8, Ob.box 68 [AV.os 28 0, AV.os 1028 0, AV.os 2028 0]), (2028, Ob.arr 105 true y105 v5.2.2 0), (1028, Ob.arr 105 true y105 v5.2.1 0), (28, Ob.arr 4 true Ty.bool v5.1 0), (7, Ob.box 44 [AV.os 26 0, AV.os 1026 0, AV.os 2026 0, AV.os 3026 0, AV.os 4026 0]), (4026, Ob.arr 131 true y131 v4.2.2 0), (3026, Ob.arr 143 true y143 v4.2.1.2.2 0), (2026, Ob.arr 9 true Ty.str v4.2.1.2.1 0), (1026, Ob.arr 141 true y141 v4.2.1.1 0), (26, Ob.arr 152 true y152 v4.1 0), (2023, Ob.arr 105 true y105 v2.2.2 0), (1023, Ob.arr 105 true y105 v2.2.1 0), (23, Ob.arr 4 true Ty.bool v2.1 0), (4021, Ob.arr 131 true y131 v3.2.2 0), (3021, Ob.arr 143 true y143 v3.2.1.2.2 0), (2021, Ob.arr 9 true Ty.str v3.2.1.2.1 0), (1021, Ob.arr 141 true y141 v3.2.1.1 0), (21, Ob.arr 152 true y152 v3.1 0), (3, Ob.box 63 (cellsD false y63 a1)), (2, Ob.box 32 (cellsD false y32 a0))]) (by kernel_rfl) ?_
  exact vx_ret <| fx_seq_ret <| hr H (by kernel_rfl)
 refine vx_skip <| fx_seq <| ?_
 refine qa tok hT [4] (St.mk [p 4 (B true)] [(2042, Ob.arr 105 true y105 v7.2.2 0), (1042, Ob.arr 105 true y105 v7.2.1 0), (42, Ob.arr 4 true Ty.bool v7.1 0), (4037, Ob.arr 131 true y131 v6.2.2 0), (3037, Ob.arr 143 true y143 v6.2.1.2.2 0), (2037, Ob.arr 9 true Ty.str v6.2.1.2.1 0), (1037, Ob.arr 141 true y141 v6.2.1.1 0), (37, Ob.arr 152 true y152 v6.1 0), (8, Ob.box 68 [AV.os 28 0, AV.os 1028 0, AV.os 2028 0]), (2028, Ob.arr 105 true y105 v5.2.2 0), (1028, Ob.arr 105 true y105 v5.2.1 0), (28, Ob.arr 4 true Ty.bool v5.1 0), (7, Ob.box 44 [AV.os 26 0, AV.os 1026 0, AV.os 2026 0, AV.os 3026 0, AV.os 4026 0]), (4026, Ob.arr 131 true y131 v4.2.2 0), (3026, Ob.arr 143 true y143 v4.2.1.2.2 0), (2026, Ob.arr 9 true Ty.str v4.2.1.2.1 0), (1026, Ob.arr 141 true y141 v4.2.1.1 0), (26, Ob.arr 152 true y152 v4.1 0), (2023, Ob.arr 105 true y105 v2.2.2 0), (1023, Ob.arr 105 true y105 v2.2.1 0), (23, Ob.arr 4 true Ty.bool v2.1 0), (4021, Ob.arr 131 true y131 v3.2.2 0), (3021, Ob.arr 143 true y143 v3.2.1.2.2 0), (2021, Ob.arr 9 true Ty.str v3.2.1.2.1 0), (1021, Ob.arr 141 true y141 v3.2.1.1 0), (21, Ob.arr 152 true y152 v3.1 0), (3, Ob.box 63 (cellsD false y63 a1)), (2, Ob.box 32 (cellsD false y32 a0))]) (by kernel_rfl) ?_
 exact vx_ret <| hr H (by kernel_rfl)
end Go.Proofs.YtippccamjlfafaaGreatDoor
