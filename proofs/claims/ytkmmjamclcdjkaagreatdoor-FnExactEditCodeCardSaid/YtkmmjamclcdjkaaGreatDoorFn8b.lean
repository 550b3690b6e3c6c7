/- Functions of this program as plain functions of data, and that they are so: printed by program. -/
import Derived.Test.YtkmmjamclcdjkaaGreatDoorFn8a
import Derived.Test.YtkmmjamclcdjkaaGreatDoorXE
import Derived.Test.YtkmmjamclcdjkaaGreatDoorTY
import Derived.Test.YtkmmjamclcdjkaaGreatDoorLB
namespace Go.Proofs.YtkmmjamclcdjkaaGreatDoor
open Go Go.Proofs Go.Proofs.Sv Go.Proofs.Xv Go.Proofs.Xl Go.RowKit
def u235J1 : Int → Option (Int)
 | v3 =>
 some v3
def u235L2 (a0 : List Int) (g2 : Int × Int → Option (Int)) : Int × Int → Option (Int)
 | (v1, v2) =>
 if (decide (v2 < (↑a0.length : Int))) = true then
  gd (ix v2 a0.length ∧ True) <| 
  gd (in64 (v2 + 1) ∧ True) <| 
  g2 ((min v1 (a0.getD v2.toNat 0), v2 + 1))
 else
  u235J1 v1
def u235J0 (a0 : List Int) : Unit → Option (Int)
 | _ =>
 gd (ix 0 a0.length ∧ True) <| 
 lp (u235L2 a0) ((a0.getD (Int.toNat (0 : Int)) (0 : Int), 1))
def u235 (a0 : List Int) : Option (Int) :=
 if (decide ((↑a0.length : Int) < 1)) = true then
  none
 else
  u235J0 a0 ()
def k235 : Ct := lct 235 [.dat i64.sl] (fun x => u235 x.1) (fun r : Int => I r) (fun _ => ())
theorem o235 : Ok Tryz.prog k235 := by
 refine okl tok [.tmp 2] Tryz.func235 Tryz.ntmps235 rfl Tryz.results235 (by kernel_rfl) rfl ?_
 intro y ⟨a0, _⟩ r H Q hn hr
 have hT := @tn Tryz.prog
 refine qa tok hT [0] (St.mk [p 0 (L i64 a0)] []) (by kernel_rfl) ?_
 refine jn r (fun (_ : Unit) => St.mk [p 0 (L i64 a0)] []) (u235J0 a0) (fun _ H => ?_) (fun _ n0 e0 t0 => ?_)
 ·refine qb tok hT [0, 3] (St.mk [p (0 : Nat) (L i64 a0), p (3 : Nat) (J (a0.getD (Int.toNat (0 : Int)) (0 : Int)))] []) H (by kernel_rfl) fun H => ?_
  refine jn r (fun (v3 : Int) => St.mk [p 3 (J v3)] []) (u235J1) (fun v3 H => ?_) (fun _ n1 e1 t1 => ?_)
  ·refine qa tok hT [2] (St.mk [p 2 (J v3)] []) (by kernel_rfl) ?_
   exact vx_ret <| hr H (by kernel_rfl)
  refine qa tok hT [0, 3, 4] (St.mk [p (0 : Nat) (L i64 a0), p (3 : Nat) (J (a0.getD (Int.toNat (0 : Int)) (0 : Int))), p (4 : Nat) (I (1 : Int))] []) (by kernel_rfl) ?_
  refine vx_block <| ?_
  refine lx (fun ((v1, v2) : Int × Int) => St.mk [p 0 (L i64 a0), p 3 (J v1), p 4 (I v2)] []) ((a0.getD (Int.toNat (0 : Int)) (0 : Int), 1)) H (by kernel_rfl) fun _ g2 b2 e2 t2 ⟨v1, v2⟩ H => ?_
  refine vx_seq <| ?_
  refine qa tok hT [0, 3, 4, 15] (St.mk [p 0 (L i64 a0), p 3 (J v1), p 4 (I v2), p 15 (B (decide (v2 < (↑a0.length : Int))))] []) (by kernel_rfl) ?_
  refine cd H (by kernel_rfl) (fun H => ?_) (fun H => ?_)
  ·refine vx_skip <| fx_seq <| vx_seq <| vx_block <| ?_
   refine zb tok hT [0, 3, 4] (St.mk [p 0 (L i64 a0), p 3 (I (min v1 (a0.getD v2.toNat 0))), p 4 (I v2)] []) H (by kernel_rfl) fun H => ?_
   refine fx_blk <| fx_seq <| ?_
   refine zb tok hT [0, 3, 4] (St.mk [p 0 (L i64 a0), p 3 (I (min v1 (a0.getD v2.toNat 0))), p 4 (I (v2 + 1))] []) H (by kernel_rfl) fun H => ?_
   exact b2 H (by kernel_rfl)
  exact vx_exit <| fx_seq_exit <| e2 <| fx_blk_exit rfl <| n1 H (by kernel_rfl)
 refine qa tok hT [0, 7] (St.mk [p 0 (L i64 a0), p 7 (B (decide ((↑a0.length : Int) < 1)))] []) (by kernel_rfl) ?_
 refine cd H (by kernel_rfl) (fun H => ?_) (fun H => ?_)
 ·exact dead H
 exact vx_skip <| n0 H (by kernel_rfl)
def u251J0 : Unit → Option (Bool)
 | _ =>
 some true
def u251L1 (a0 : List Int) (g1 : Int → Option (Bool)) : Int → Option (Bool)
 | v0 =>
 if (decide (v0 < (↑a0.length : Int))) = true then
  gd (in64 (v0 - 1) ∧ ix (v0 - 1) a0.length ∧ ix v0 a0.length ∧ True) <| 
  if (decide (a0.getD v0.toNat 0 ≤ a0.getD (v0 - 1).toNat 0)) = true then
   some false
  else
   gd (in64 (v0 + 1) ∧ True) <| 
   g1 (v0 + 1)
 else
  u251J0 ()
def u251 (a0 : List Int) : Option (Bool) :=
 lp (u251L1 a0) 1
def k251 : Ct := lct 251 [.dat i64.sl] (fun x => u251 x.1) (fun r : Bool => B r) (fun _ => ())
theorem o251 : Ok Tryz.prog k251 := by
 refine okl tok [.tmp 2] Tryz.func251 Tryz.ntmps251 rfl Tryz.results251 (by kernel_rfl) rfl ?_
 intro y ⟨a0, _⟩ r H Q hn hr
 have hT := @tn Tryz.prog
 refine qa tok hT [0] (St.mk [p 0 (L i64 a0)] []) (by kernel_rfl) ?_
 refine jn r (fun (_ : Unit) => St.mk [] []) (u251J0) (fun _ H => ?_) (fun _ n0 e0 t0 => ?_)
 ·refine qa tok hT [2] (St.mk [p 2 (B true)] []) (by kernel_rfl) ?_
  exact vx_ret <| hr H (by kernel_rfl)
 refine qa tok hT [0, 3] (St.mk [p 0 (L i64 a0), p 3 (I 1)] []) (by kernel_rfl) ?_
 refine vx_block <| ?_
 refine lx (fun (v0 : Int) => St.mk [p 0 (L i64 a0), p 3 (I v0)] []) 1 H (by kernel_rfl) fun _ g1 b1 e1 t1 v0 H => ?_
 refine vx_seq <| ?_
 refine qa tok hT [0, 3, 7] (St.mk [p 0 (L i64 a0), p 3 (I v0), p 7 (B (decide (v0 < (↑a0.length : Int))))] []) (by kernel_rfl) ?_
 refine cd H (by kernel_rfl) (fun H => ?_) (fun H => ?_)
 ·refine vx_skip <| fx_seq <| vx_seq <| vx_block <| ?_
  refine qb tok hT [0, 3, 19] (St.mk [p 0 (L i64 a0), p 3 (I v0), p 19 (B (decide (a0.getD v0.toNat 0 ≤ a0.getD (v0 - 1).toNat 0)))] []) H (by kernel_rfl) fun H => ?_
  refine cd H (by kernel_rfl) (fun H => ?_) (fun H => ?_)
  ·refine qa tok hT [2] (St.mk [p 2 (B false)] []) (by kernel_rfl) ?_
   exact vx_ret <| fx_blk_ret <| fx_seq_ret <| t1 <| fx_blk_ret <| t0 <| hr H (by kernel_rfl)
  refine vx_skip <| fx_blk <| fx_seq <| ?_
  refine zb tok hT [0, 3] (St.mk [p 0 (L i64 a0), p 3 (I (v0 + 1))] []) H (by kernel_rfl) fun H => ?_
  exact b1 H (by kernel_rfl)
 exact vx_exit <| fx_seq_exit <| e1 <| fx_blk_exit rfl <| n0 H (by kernel_rfl)
def u248 (a0 : List Int) : Option (Bool) :=
 gd ((u110 a0).isSome = true ∧ (u111 (vl (u110 a0)) 1 4).isSome = true ∧ (vl (u111 (vl (u110 a0)) 1 4) = true ∧ True → (u113 a0 0 100000).isSome = true) ∧ ((vl (u111 (vl (u110 a0)) 1 4) && vl (u113 a0 0 100000)) = true ∧ True → (u251 a0).isSome = true) ∧ True) <| 
 some (vl (u111 (vl (u110 a0)) 1 4) && vl (u113 a0 0 100000) && vl (u251 a0))
def k248 : Ct := lct 248 [.dat i64.sl] (fun x => u248 x.1) (fun r : Bool => B r) (fun _ => ())
theorem o248 : Ok Tryz.prog k248 := by
 refine okl tok [.tmp 2] Tryz.func248 Tryz.ntmps248 rfl Tryz.results248 (by kernel_rfl) rfl ?_
 intro y ⟨a0, _⟩ r H Q hn hr
 have hT := tc o251 (tc o113 (tc o111 (tc o110 tn)))
 refine qa tok hT [0] (St.mk [p 0 (L i64 a0)] []) (by kernel_rfl) ?_
 refine qb tok hT [2] (St.mk [p 2 (B (vl (u111 (vl (u110 a0)) 1 4) && vl (u113 a0 0 100000) && vl (u251 a0)))] []) H (by kernel_rfl) fun H => ?_
 exact vx_ret <| hr H (by kernel_rfl)
def u234 (a0 : Y232) : Option (Bool) :=
 gd ((u248 a0.1).isSome = true ∧ (vl (u248 a0.1) = true ∧ True → (u248 a0.2.1).isSome = true) ∧ ((vl (u248 a0.1) && vl (u248 a0.2.1)) = true ∧ True → in64 ((↑a0.1.length : Int) * (↑a0.2.1.length : Int))) ∧ ((vl (u248 a0.1) && vl (u248 a0.2.1) && (↑a0.2.2.length : Int) == (↑a0.1.length : Int) * (↑a0.2.1.length : Int)) = true ∧ True → (u113 a0.2.2 (-1000000) 1000000).isSome = true) ∧ True) <| 
 some (vl (u248 a0.1) && vl (u248 a0.2.1) && (↑a0.2.2.length : Int) == (↑a0.1.length : Int) * (↑a0.2.1.length : Int) && vl (u113 a0.2.2 (-1000000) 1000000))
def k234 : Ct := lct 234 [.agg y232] (fun x => u234 x.1) (fun r : Bool => B r) (fun _ => ())
theorem o234 : Ok Tryz.prog k234 := by
 refine okl tok [.tmp 2] Tryz.func234 Tryz.ntmps234 rfl Tryz.results234 (by kernel_rfl) rfl ?_
 intro y ⟨a0, _⟩ r H Q hn hr
 have hT := tc o113 (tc o248 tn)
 refine qa tok hT [1] (St.mk [p 1 (AV.ptr 1 0)] [(1, Ob.box 232 (cellsD false y232 a0))]) (by kernel_rfl) ?_
 refine qb tok hT [2] (St.mk [p 2 (B (vl (u248 a0.1) && vl (u248 a0.2.1) && (↑a0.2.2.length : Int) == (↑a0.1.length : Int) * (↑a0.2.1.length : Int) && vl (u113 a0.2.2 (-1000000) 1000000)))] [(1, Ob.box 232 (cellsD false y232 a0))]) H (by kernel_rfl) fun H => ?_
 exact vx_ret <| hr H (by kernel_rfl)
def u233 (a0 : Y232) (a1 : Bool) : Option (Bool) :=
 gd ((u234 a0).isSome = true ∧ (a1 = true ∧ (!vl (u234 a0)) = false ∧ True → (u235 a0.2.2).isSome = true) ∧ True) <| lt (vl (u235 a0.2.2)) fun v0 =>
 some (!vl (u234 a0) || a1 && decide (v0 < 0))
def k233 : Ct := lct 233 [.agg y232, .dat (.pt Ty.bool)] (fun x => u233 x.1 x.2.1) (fun r : Bool => B r) (fun _ => ())
theorem o233 : Ok Tryz.prog k233 := by
 refine okl tok [.tmp 3] Tryz.func233 Tryz.ntmps233 rfl Tryz.results233 (by kernel_rfl) rfl ?_
 intro y ⟨a0, a1, _⟩ r H Q hn hr
 have hT := tc o235 (tc o234 tn)
 refine qa tok hT [1, 2] (St.mk [p 1 (D Ty.bool.pt a1), p 2 (AV.ptr 2 0)] [(2, Ob.box 232 (cellsD false y232 a0))]) (by kernel_rfl) ?_
 refine qd tok hT [3] (fun v0 => St.mk [p 3 (B (!vl (u234 a0) || a1 && decide (v0 < 0)))] [(2, Ob.box 232 (cellsD false y232 a0))]) H (by kernel_rfl) fun v0 H => ?_
 exact vx_ret <| hr H (by kernel_rfl)
def u247c233J0 : Unit → Option (Int)
 | _ =>
 some (-1)
def u247c233L1 (a0 : List Y232) (a1 : Bool) (g1 : Int → Option (Int)) : Int → Option (Int)
 | v0 =>
 if (decide (v0 < (↑a0.length : Int))) = true then
  gd (ix v0 a0.length ∧ (u233 (a0.getD v0.toNat (dflt y232)) a1).isSome = true ∧ True) <| 
  if (vl (u233 (a0.getD v0.toNat (dflt y232)) a1)) = true then
   some v0
  else
   gd (in64 (v0 + 1) ∧ True) <| 
   g1 (v0 + 1)
 else
  u247c233J0 ()
def u247c233 (a0 : List Y232) (a1 : Bool) : Option (Int) :=
 lp (u247c233L1 a0 a1) 0
def k247c233 : Ct := lct 247 [.dat y232.sl, .fn 233 Ty.bool.pt] (fun x => u247c233 x.1 x.2.1) (fun r : Int => I r) (fun _ => ())
theorem o247c233 : Ok Tryz.prog k247c233 := by
 refine okl tok [.tmp 4] Tryz.func247 Tryz.ntmps247 rfl Tryz.results247 (by kernel_rfl) rfl ?_
 intro y ⟨a0, a1, _⟩ r H Q hn hr
 have hT := tc o233 tn
 refine qa tok hT [0, 1] (St.mk [p 0 (L y232 a0), p 1 (AV.fn 233 [D Ty.bool.pt a1])] []) (by kernel_rfl) ?_
 refine jn r (fun (_ : Unit) => St.mk [] []) (u247c233J0) (fun _ H => ?_) (fun _ n0 e0 t0 => ?_)
 ·refine qa tok hT [4] (St.mk [p 4 (I (-1))] []) (by kernel_rfl) ?_
  exact vx_ret <| hr H (by kernel_rfl)
 refine qa tok hT [0, 1, 7, 8] (St.mk [p 0 (L y232 a0), p 1 (AV.fn 233 [D Ty.bool.pt a1]), p 7 (I (↑a0.length : Int)), p 8 (I 0)] []) (by kernel_rfl) ?_
 refine vx_block <| ?_
 refine lx (fun (v0 : Int) => St.mk [p 0 (L y232 a0), p 1 (AV.fn 233 [D Ty.bool.pt a1]), p 7 (I (↑a0.length : Int)), p 8 (I v0)] []) 0 H (by kernel_rfl) fun _ g1 b1 e1 t1 v0 H => ?_
 refine qa tok hT [0, 1, 7, 8, 9] (St.mk [p 0 (L y232 a0), p 1 (AV.fn 233 [D Ty.bool.pt a1]), p 7 (I (↑a0.length : Int)), p 8 (I v0), p 9 (B (decide (v0 < (↑a0.length : Int))))] []) (by kernel_rfl) ?_
 refine vx_seq <| ?_
 refine cd H (by kernel_rfl) (fun H => ?_) (fun H => ?_)
 ·refine vx_skip <| fx_seq <| vx_seq <| vx_block <| ?_
  refine qa tok hT [0, 1, 5, 7, 8] (St.mk [p 0 (L y232 a0), p 1 (AV.fn 233 [D Ty.bool.pt a1]), p 5 (I v0), p 7 (I (↑a0.length : Int)), p 8 (I v0)] []) (by kernel_rfl) ?_
  refine qb tok hT [0, 1, 5, 7, 8, 16] (St.mk [p 0 (L y232 a0), p 1 (AV.fn 233 [D Ty.bool.pt a1]), p 5 (I v0), p 7 (I (↑a0.length : Int)), p 8 (I v0), p 16 (B (vl (u233 (a0.getD v0.toNat (dflt y232)) a1)))] []) H (by kernel_rfl) fun H => ?_
  refine cd H (by kernel_rfl) (fun H => ?_) (fun H => ?_)
  ·refine qa tok hT [4] (St.mk [p 4 (I v0)] []) (by kernel_rfl) ?_
   exact vx_ret <| fx_blk_ret <| fx_seq_ret <| t1 <| fx_blk_ret <| t0 <| hr H (by kernel_rfl)
  refine vx_skip <| fx_blk <| fx_seq <| ?_
  refine zb tok hT [0, 1, 7, 8] (St.mk [p 0 (L y232 a0), p 1 (AV.fn 233 [D Ty.bool.pt a1]), p 7 (I (↑a0.length : Int)), p 8 (I (v0 + 1))] []) H (by kernel_rfl) fun H => ?_
  exact b1 H (by kernel_rfl)
 exact vx_exit <| fx_seq_exit <| e1 <| fx_blk_exit rfl <| n0 H (by kernel_rfl)
def u232c233 (a0 : List Y232) (a1 : Bool) : Option (Bool) :=
 gd ((u247c233 a0 a1).isSome = true ∧ True) <| lt (vl (u247c233 a0 a1)) fun v0 =>
 some (decide (0 ≤ v0))
def k232c233 : Ct := lct 232 [.dat y232.sl, .fn 233 (.pt Ty.bool)] (fun x => u232c233 x.1 x.2.1) (fun r : Bool => B r) (fun _ => ())
theorem o232c233 : Ok Tryz.prog k232c233 := by
 refine okl tok [.tmp 4] Tryz.func232 Tryz.ntmps232 rfl Tryz.results232 (by kernel_rfl) rfl ?_
 intro y ⟨a0, a1, _⟩ r H Q hn hr
 have hT := tc o247c233 (tc o233 tn)
 refine qa tok hT [0, 1] (St.mk [p 0 (L y232 a0), p 1 (AV.fn 233 [D Ty.bool.pt a1])] []) (by kernel_rfl) ?_
 refine qd tok hT [4] (fun v0 => St.mk [p 4 (B (decide (0 ≤ v0)))] []) H (by kernel_rfl) fun v0 H => ?_
 exact vx_ret <| hr H (by kernel_rfl)
def u218 (a0 : List Y232) (a1 : Bool) : Option (Bool) :=
 gd ((((↑a0.length : Int) == 2) = true ∧ True → (u232c233 a0 a1).isSome = true) ∧ True) <| 
 some ((↑a0.length : Int) == 2 && !vl (u232c233 a0 a1))
def k218 : Ct := lct 218 [.dat y232.sl, .dat Ty.bool] (fun x => u218 x.1 x.2.1) (fun r : Bool => B r) (fun _ => ())
theorem o218 : Ok Tryz.prog k218 := by
 refine okl tok [.tmp 4] Tryz.func218 Tryz.ntmps218 rfl Tryz.results218 (by kernel_rfl) rfl ?_
 intro y ⟨a0, a1, _⟩ r H Q hn hr
 have hT := tc o232c233 (tc o233 tn)
 refine qa tok hT [0, 3] (St.mk [p 0 (L y232 a0), p 3 (AV.ptr 3 0)] [(3, Ob.box 4 [C a1])]) (by kernel_rfl) ?_
 refine qb tok hT [4] (St.mk [p 4 (B ((↑a0.length : Int) == 2 && !vl (u232c233 a0 a1)))] [(3, Ob.box 4 [C a1])]) H (by kernel_rfl) fun H => ?_
 exact vx_ret <| hr H (by kernel_rfl)
def u237 (a0 : Y147) : Option (Bool) :=
 some a0.2.2.2
def k237 : Ct := lct 237 [.agg y147] (fun x => u237 x.1) (fun r : Bool => B r) (fun _ => ())
theorem o237 : Ok Tryz.prog k237 := by
 refine okl tok [.tmp 2] Tryz.func237 Tryz.ntmps237 rfl Tryz.results237 (by kernel_rfl) rfl ?_
 intro y ⟨a0, _⟩ r H Q hn hr
 have hT := @tn Tryz.prog
 refine qa tok hT [1] (St.mk [p 1 (AV.ptr 1 0)] [(1, Ob.box 147 (cellsD false y147 a0))]) (by kernel_rfl) ?_
 refine qa tok hT [2] (St.mk [p 2 (C a0.2.2.2)] [(1, Ob.box 147 (cellsD false y147 a0))]) (by kernel_rfl) ?_
 exact vx_ret <| hr H (by kernel_rfl)
def u236c237J0 : Unit → Option (Int)
 | _ =>
 some (-1)
def u236c237L1 (a0 : List Y147) (g1 : Int → Option (Int)) : Int → Option (Int)
 | v0 =>
 if (decide (v0 < (↑a0.length : Int))) = true then
  gd (ix v0 a0.length ∧ (u237 (a0.getD v0.toNat (dflt y147))).isSome = true ∧ True) <| 
  if (vl (u237 (a0.getD v0.toNat (dflt y147)))) = true then
   some v0
  else
   gd (in64 (v0 + 1) ∧ True) <| 
   g1 (v0 + 1)
 else
  u236c237J0 ()
def u236c237 (a0 : List Y147) : Option (Int) :=
 lp (u236c237L1 a0) 0
def k236c237 : Ct := lct 236 [.dat y147.sl, .nof 237] (fun x => u236c237 x.1) (fun r : Int => I r) (fun _ => ())
theorem o236c237 : Ok Tryz.prog k236c237 := by
 refine okl tok [.tmp 4] Tryz.func236 Tryz.ntmps236 rfl Tryz.results236 (by kernel_rfl) rfl ?_
 intro y ⟨a0, _, _⟩ r H Q hn hr
 have hT := tc o237 tn
 refine qa tok hT [0, 1] (St.mk [p 0 (L y147 a0), p 1 (AV.fn 237 [])] []) (by kernel_rfl) ?_
 refine jn r (fun (_ : Unit) => St.mk [] []) (u236c237J0) (fun _ H => ?_) (fun _ n0 e0 t0 => ?_)
 ·refine qa tok hT [4] (St.mk [p 4 (I (-1))] []) (by kernel_rfl) ?_
  exact vx_ret <| hr H (by kernel_rfl)
 refine qa tok hT [0, 1, 7, 8] (St.mk [p 0 (L y147 a0), p 1 (AV.fn 237 []), p 7 (I (↑a0.length : Int)), p 8 (I 0)] []) (by kernel_rfl) ?_
 refine vx_block <| ?_
 refine lx (fun (v0 : Int) => St.mk [p 0 (L y147 a0), p 1 (AV.fn 237 []), p 7 (I (↑a0.length : Int)), p 8 (I v0)] []) 0 H (by kernel_rfl) fun _ g1 b1 e1 t1 v0 H => ?_
 refine qa tok hT [0, 1, 7, 8, 9] (St.mk [p 0 (L y147 a0), p 1 (AV.fn 237 []), p 7 (I (↑a0.length : Int)), p 8 (I v0), p 9 (B (decide (v0 < (↑a0.length : Int))))] []) (by kernel_rfl) ?_
 refine vx_seq <| ?_
 refine cd H (by kernel_rfl) (fun H => ?_) (fun H => ?_)
 ·refine vx_skip <| fx_seq <| vx_seq <| vx_block <| ?_
  refine qa tok hT [0, 1, 5, 7, 8] (St.mk [p 0 (L y147 a0), p 1 (AV.fn 237 []), p 5 (I v0), p 7 (I (↑a0.length : Int)), p 8 (I v0)] []) (by kernel_rfl) ?_
  refine qb tok hT [0, 1, 5, 7, 8, 16] (St.mk [p 0 (L y147 a0), p 1 (AV.fn 237 []), p 5 (I v0), p 7 (I (↑a0.length : Int)), p 8 (I v0), p 16 (B (vl (u237 (a0.getD v0.toNat (dflt y147)))))] []) H (by kernel_rfl) fun H => ?_
  refine cd H (by kernel_rfl) (fun H => ?_) (fun H => ?_)
  ·refine qa tok hT [4] (St.mk [p 4 (I v0)] []) (by kernel_rfl) ?_
   exact vx_ret <| fx_blk_ret <| fx_seq_ret <| t1 <| fx_blk_ret <| t0 <| hr H (by kernel_rfl)
  refine vx_skip <| fx_blk <| fx_seq <| ?_
  refine zb tok hT [0, 1, 7, 8] (St.mk [p 0 (L y147 a0), p 1 (AV.fn 237 []), p 7 (I (↑a0.length : Int)), p 8 (I (v0 + 1))] []) H (by kernel_rfl) fun H => ?_
  exact b1 H (by kernel_rfl)
 exact vx_exit <| fx_seq_exit <| e1 <| fx_blk_exit rfl <| n0 H (by kernel_rfl)
def u219 (a0 : Y107) : Option (Int) :=
 gd ((u236c237 a0.2.2.1).isSome = true ∧ True) <| lt (vl (u236c237 a0.2.2.1)) fun v0 =>
 some v0
def k219 : Ct := lct 219 [.agg y107] (fun x => u219 x.1) (fun r : Int => I r) (fun _ => ())
theorem o219 : Ok Tryz.prog k219 := by
 refine okl tok [.tmp 2] Tryz.func219 Tryz.ntmps219 rfl Tryz.results219 (by kernel_rfl) rfl ?_
 intro y ⟨a0, _⟩ r H Q hn hr
 have hT := tc o237 (tc o236c237 tn)
 refine qa tok hT [1] (St.mk [p 1 (AV.ptr 1 0)] [(1, Ob.box 107 (cellsD false y107 a0))]) (by kernel_rfl) ?_
 refine qd tok hT [2] (fun v0 => St.mk [p 2 (I v0)] [(1, Ob.box 107 (cellsD false y107 a0))]) H (by kernel_rfl) fun v0 H => ?_
 exact vx_ret <| hr H (by kernel_rfl)
def u217 (a0 : Int) : Option (Bool) :=
 some (a0 == 4 || a0 == 5)
def k217 : Ct := lct 217 [.dat i64] (fun x => u217 x.1) (fun r : Bool => B r) (fun _ => ())
theorem o217 : Ok Tryz.prog k217 := by
 refine okl tok [.tmp 2] Tryz.func217 Tryz.ntmps217 rfl Tryz.results217 (by kernel_rfl) rfl ?_
 intro y ⟨a0, _⟩ r H Q hn hr
 have hT := @tn Tryz.prog
 refine qa tok hT [0] (St.mk [p 0 (J a0)] []) (by kernel_rfl) ?_
 refine qa tok hT [2] (St.mk [p 2 (B (a0 == 4 || a0 == 5))] []) (by kernel_rfl) ?_
 exact vx_ret <| hr H (by kernel_rfl)
def u200J0 (a0 : Y107) (a1 : Y195) : Bool → Option (Bool)
 | v2 =>
 if v2 = true then
  gd (ix a1.2.1 a0.2.2.1.length ∧ True) <| 
  some ((a0.2.2.1.getD a1.2.1.toNat (dflt y147)).2.2.2 && a1.2.2.2.1 == 0)
 else
  some false
def u200 (a0 : Y107) (a1 : Y195) : Option (Bool) :=
 gd ((u217 a1.1).isSome = true ∧ True) <| 
 if (vl (u217 a1.1)) = true then
  gd (((a1.2.2.2.1 == 0 && (↑a1.2.2.2.2.2.length : Int) == 0) = true ∧ True → (u218 a1.2.2.2.2.1 false).isSome = true) ∧ ((a1.2.2.2.1 == 0 && (↑a1.2.2.2.2.2.length : Int) == 0 && vl (u218 a1.2.2.2.2.1 false)) = true ∧ True → (u219 a0).isSome = true) ∧ ((a1.2.2.2.1 == 0 && (↑a1.2.2.2.2.2.length : Int) == 0 && vl (u218 a1.2.2.2.2.1 false) && a1.2.1 == vl (u219 a0) && decide (0 ≤ a1.2.1)) = true ∧ True → (u220 a0 a1.2.2.1).isSome = true) ∧ True) <| lt (vl (u219 a0)) fun v0 =>
  some (a1.2.2.2.1 == 0 && (↑a1.2.2.2.2.2.length : Int) == 0 && vl (u218 a1.2.2.2.2.1 false) && a1.2.1 == v0 && decide (0 ≤ a1.2.1) && vl (u220 a0 a1.2.2.1) && a1.2.2.1 != a1.2.1)
 else
  gd ((u218 a1.2.2.2.2.1 true).isSome = true ∧ ((!vl (u218 a1.2.2.2.2.1 true)) = false ∧ True → (u218 a1.2.2.2.2.2 true).isSome = true) ∧ ((!vl (u218 a1.2.2.2.2.1 true) || !vl (u218 a1.2.2.2.2.2 true)) = false ∧ True → (u203 a0).isSome = true) ∧ ((!vl (u218 a1.2.2.2.2.1 true) || !vl (u218 a1.2.2.2.2.2 true) || a1.2.2.1 != vl (u203 a0)) = false ∧ True → (u220 a0 a1.2.1).isSome = true) ∧ True) <| lt (vl (u203 a0)) fun v1 =>
  if (!vl (u218 a1.2.2.2.2.1 true) || !vl (u218 a1.2.2.2.2.2 true) || a1.2.2.1 != v1 || !vl (u220 a0 a1.2.1)) = true then
   some false
  else
   if (a1.1 == 1) = true then
    gd (ix a1.2.1 a0.2.2.1.length ∧ ((!(a0.2.2.1.getD a1.2.1.toNat (dflt y147)).2.2.2) = true ∧ True → (u111 a1.2.2.2.1 1 3).isSome = true) ∧ True) <| 
    some (!(a0.2.2.1.getD a1.2.1.toNat (dflt y147)).2.2.2 && vl (u111 a1.2.2.2.1 1 3))
   else
    if (a1.1 == 2) = true then
     u200J0 a0 a1 (a1.1 == 2)
    else
     u200J0 a0 a1 (a1.1 == 3)
def k200 : Ct := lct 200 [.agg y107, .agg y195] (fun x => u200 x.1 x.2.1) (fun r : Bool => B r) (fun _ => ())
theorem o200 : Ok Tryz.prog k200 := by
 refine okl tok [.tmp 4] Tryz.func200 Tryz.ntmps200 rfl Tryz.results200 (by kernel_rfl) rfl ?_
 intro y ⟨a0, a1, _⟩ r H Q hn hr
 have hT := tc o111 (tc o220 (tc o203 (tc o218 (tc o219 (tc o217 tn)))))
 refine qa tok hT [2, 3] (St.mk [p 2 (AV.ptr 2 0), p 3 (AV.ptr 3 0)] [(3, Ob.box 195 (cellsD false y195 a1)), (2, Ob.box 107 (cellsD false y107 a0))]) (by kernel_rfl) ?_
 refine vx_seq <| ?_
 refine qb tok hT [2, 3, 7] (St.mk [p 2 (AV.ptr 2 0), p 3 (AV.ptr 3 0), p 7 (B (vl (u217 a1.1)))] [(3, Ob.box 195 (cellsD false y195 a1)), (2, Ob.box 107 (cellsD false y107 a0))]) H (by kernel_rfl) fun H => ?_
 refine cd H (by kernel_rfl) (fun H => ?_) (fun H => ?_)
 ·refine qd tok hT [4] (fun v0 => St.mk [p 4 (B (a1.2.2.2.1 == 0 && (↑a1.2.2.2.2.2.length : Int) == 0 && vl (u218 a1.2.2.2.2.1 false) && a1.2.1 == v0 && decide (0 ≤ a1.2.1) && vl (u220 a0 a1.2.2.1) && a1.2.2.1 != a1.2.1))] [(3, Ob.box 195 (cellsD false y195 a1)), (2, Ob.box 107 (cellsD false y107 a0))]) H (by kernel_rfl) fun v0 H => ?_
  exact vx_ret <| fx_seq_ret <| hr H (by kernel_rfl)
 refine vx_skip <| fx_seq <| vx_seq <| ?_
 refine qd tok hT [2, 3, 70] (fun v1 => St.mk [p 2 (AV.ptr 2 0), p 3 (AV.ptr 3 0), p 70 (B (!vl (u218 a1.2.2.2.2.1 true) || !vl (u218 a1.2.2.2.2.2 true) || a1.2.2.1 != v1 || !vl (u220 a0 a1.2.1)))] [(3, Ob.box 195 (cellsD false y195 a1)), (2, Ob.box 107 (cellsD false y107 a0))]) H (by kernel_rfl) fun v1 H => ?_
 refine cd H (by kernel_rfl) (fun H => ?_) (fun H => ?_)
 ·refine qa tok hT [4] (St.mk [p 4 (B false)] [(3, Ob.box 195 (cellsD false y195 a1)), (2, Ob.box 107 (cellsD false y107 a0))]) (by kernel_rfl) ?_
  exact vx_ret <| fx_seq_ret <| hr H (by kernel_rfl)
 refine vx_skip <| fx_seq <| vx_seq <| ?_
 refine qa tok hT [2, 3, 72] (St.mk [p 2 (AV.ptr 2 0), p 3 (AV.ptr 3 0), p 72 (J a1.1)] [(3, Ob.box 195 (cellsD false y195 a1)), (2, Ob.box 107 (cellsD false y107 a0))]) (by kernel_rfl) ?_
 refine vx_block <| ?_
 refine qa tok hT [2, 3, 72, 73] (St.mk [p 2 (AV.ptr 2 0), p 3 (AV.ptr 3 0), p 72 (J a1.1), p 73 (B (a1.1 == 1))] [(3, Ob.box 195 (cellsD false y195 a1)), (2, Ob.box 107 (cellsD false y107 a0))]) (by kernel_rfl) ?_
 refine cd H (by kernel_rfl) (fun H => ?_) (fun H => ?_)
 ·refine qb tok hT [4] (St.mk [p 4 (B (!(a0.2.2.1.getD a1.2.1.toNat (dflt y147)).2.2.2 && vl (u111 a1.2.2.2.1 1 3)))] [(3, Ob.box 195 (cellsD false y195 a1)), (2, Ob.box 107 (cellsD false y107 a0))]) H (by kernel_rfl) fun H => ?_
  exact vx_ret <| fx_blk_ret <| fx_seq_ret <| hr H (by kernel_rfl)
 refine jn r (fun (v2 : Bool) => St.mk [p 2 (AV.ptr 2 0), p 3 (AV.ptr 3 0), p 88 (B v2)] [(3, Ob.box 195 (cellsD false y195 a1)), (2, Ob.box 107 (cellsD false y107 a0))]) (u200J0 a0 a1) (fun v2 H => ?_) (fun _ n0 e0 t0 => ?_)
 ·refine cd H (by kernel_rfl) (fun H => ?_) (fun H => ?_)
  ·refine qb tok hT [4] (St.mk [p 4 (B ((a0.2.2.1.getD a1.2.1.toNat (dflt y147)).2.2.2 && a1.2.2.2.1 == 0))] [(3, Ob.box 195 (cellsD false y195 a1)), (2, Ob.box 107 (cellsD false y107 a0))]) H (by kernel_rfl) fun H => ?_
   exact vx_ret <| fx_blk_ret <| fx_seq_ret <| hr H (by kernel_rfl)
  refine vx_skip <| fx_blk <| fx_seq <| ?_
  refine qa tok hT [4] (St.mk [p 4 (B false)] [(3, Ob.box 195 (cellsD false y195 a1)), (2, Ob.box 107 (cellsD false y107 a0))]) (by kernel_rfl) ?_
  exact vx_ret <| hr H (by kernel_rfl)
 refine qa tok hT [2, 3, 72, 88] (St.mk [p 2 (AV.ptr 2 0), p 3 (AV.ptr 3 0), p 72 (J a1.1), p 88 (B (a1.1 == 2))] [(3, Ob.box 195 (cellsD false y195 a1)), (2, Ob.box 107 (cellsD false y107 a0))]) (by kernel_rfl) ?_
 refine cd H (by kernel_rfl) (fun H => ?_) (fun H => ?_)
 ·exact vx_skip <| n0 H (by kernel_rfl)
 refine za tok hT [2, 3, 88] (St.mk [p 2 (AV.ptr 2 0), p 3 (AV.ptr 3 0), p 88 (B (a1.1 == 3))] [(3, Ob.box 195 (cellsD false y195 a1)), (2, Ob.box 107 (cellsD false y107 a0))]) (by kernel_rfl) ?_
 exact n0 H (by kernel_rfl)
def u202 (a0 : Y195) (a1 : Y195) : Option (Bool) :=
 some (a0.1 == a1.1 && a0.2.1 == a1.2.1 && a0.2.2.1 == a1.2.2.1)
def k202 : Ct := lct 202 [.agg y195, .dat (.pt y195)] (fun x => u202 x.1 x.2.1) (fun r : Bool => B r) (fun _ => ())
theorem o202 : Ok Tryz.prog k202 := by
 refine okl tok [.tmp 3] Tryz.func202 Tryz.ntmps202 rfl Tryz.results202 (by kernel_rfl) rfl ?_
 intro y ⟨a0, a1, _⟩ r H Q hn hr
 have hT := @tn Tryz.prog
 refine qa tok hT [1, 2] (St.mk [p 1 (D y195.pt a1), p 2 (AV.ptr 2 0)] [(2, Ob.box 195 (cellsD false y195 a0))]) (by kernel_rfl) ?_
 refine qa tok hT [3] (St.mk [p 3 (B (a0.1 == a1.1 && a0.2.1 == a1.2.1 && a0.2.2.1 == a1.2.2.1))] [(2, Ob.box 195 (cellsD false y195 a0))]) (by kernel_rfl) ?_
 exact vx_ret <| hr H (by kernel_rfl)
def u221c202J0 : Unit → Option (Int)
 | _ =>
 some (-1)
def u221c202L1 (a0 : List Y195) (a1 : Y195) (g1 : Int → Option (Int)) : Int → Option (Int)
 | v0 =>
 if (decide (v0 < (↑a0.length : Int))) = true then
  gd (ix v0 a0.length ∧ (u202 (a0.getD v0.toNat (dflt y195)) a1).isSome = true ∧ True) <| 
  if (vl (u202 (a0.getD v0.toNat (dflt y195)) a1)) = true then
   some v0
  else
   gd (in64 (v0 + 1) ∧ True) <| 
   g1 (v0 + 1)
 else
  u221c202J0 ()
def u221c202 (a0 : List Y195) (a1 : Y195) : Option (Int) :=
 lp (u221c202L1 a0 a1) 0
def k221c202 : Ct := lct 221 [.dat y195.sl, .fn 202 y195.pt] (fun x => u221c202 x.1 x.2.1) (fun r : Int => I r) (fun _ => ())
theorem o221c202 : Ok Tryz.prog k221c202 := by
 refine okl tok [.tmp 4] Tryz.func221 Tryz.ntmps221 rfl Tryz.results221 (by kernel_rfl) rfl ?_
 intro y ⟨a0, a1, _⟩ r H Q hn hr
 have hT := tc o202 tn
 refine qa tok hT [0, 1] (St.mk [p 0 (L y195 a0), p 1 (AV.fn 202 [D y195.pt a1])] []) (by kernel_rfl) ?_
 refine jn r (fun (_ : Unit) => St.mk [] []) (u221c202J0) (fun _ H => ?_) (fun _ n0 e0 t0 => ?_)
 ·refine qa tok hT [4] (St.mk [p 4 (I (-1))] []) (by kernel_rfl) ?_
  exact vx_ret <| hr H (by kernel_rfl)
 refine qa tok hT [0, 1, 7, 8] (St.mk [p 0 (L y195 a0), p 1 (AV.fn 202 [D y195.pt a1]), p 7 (I (↑a0.length : Int)), p 8 (I 0)] []) (by kernel_rfl) ?_
 refine vx_block <| ?_
 refine lx (fun (v0 : Int) => St.mk [p 0 (L y195 a0), p 1 (AV.fn 202 [D y195.pt a1]), p 7 (I (↑a0.length : Int)), p 8 (I v0)] []) 0 H (by kernel_rfl) fun _ g1 b1 e1 t1 v0 H => ?_
 refine qa tok hT [0, 1, 7, 8, 9] (St.mk [p 0 (L y195 a0), p 1 (AV.fn 202 [D y195.pt a1]), p 7 (I (↑a0.length : Int)), p 8 (I v0), p 9 (B (decide (v0 < (↑a0.length : Int))))] []) (by kernel_rfl) ?_
 refine vx_seq <| ?_
 refine cd H (by kernel_rfl) (fun H => ?_) (fun H => ?_)
 ·refine vx_skip <| fx_seq <| vx_seq <| vx_block <| ?_
  refine qa tok hT [0, 1, 5, 7, 8] (St.mk [p 0 (L y195 a0), p 1 (AV.fn 202 [D y195.pt a1]), p 5 (I v0), p 7 (I (↑a0.length : Int)), p 8 (I v0)] []) (by kernel_rfl) ?_
  refine qb tok hT [0, 1, 5, 7, 8, 16] (St.mk [p 0 (L y195 a0), p 1 (AV.fn 202 [D y195.pt a1]), p 5 (I v0), p 7 (I (↑a0.length : Int)), p 8 (I v0), p 16 (B (vl (u202 (a0.getD v0.toNat (dflt y195)) a1)))] []) H (by kernel_rfl) fun H => ?_
  refine cd H (by kernel_rfl) (fun H => ?_) (fun H => ?_)
  ·refine qa tok hT [4] (St.mk [p 4 (I v0)] []) (by kernel_rfl) ?_
   exact vx_ret <| fx_blk_ret <| fx_seq_ret <| t1 <| fx_blk_ret <| t0 <| hr H (by kernel_rfl)
  refine vx_skip <| fx_blk <| fx_seq <| ?_
  refine zb tok hT [0, 1, 7, 8] (St.mk [p 0 (L y195 a0), p 1 (AV.fn 202 [D y195.pt a1]), p 7 (I (↑a0.length : Int)), p 8 (I (v0 + 1))] []) H (by kernel_rfl) fun H => ?_
  exact b1 H (by kernel_rfl)
 exact vx_exit <| fx_seq_exit <| e1 <| fx_blk_exit rfl <| n0 H (by kernel_rfl)
def u201c202 (a0 : List Y195) (a1 : Y195) : Option (Bool) :=
 gd ((u221c202 a0 a1).isSome = true ∧ True) <| lt (vl (u221c202 a0 a1)) fun v0 =>
 some (decide (0 ≤ v0))
def k201c202 : Ct := lct 201 [.dat y195.sl, .fn 202 (.pt y195)] (fun x => u201c202 x.1 x.2.1) (fun r : Bool => B r) (fun _ => ())
theorem o201c202 : Ok Tryz.prog k201c202 := by
 refine okl tok [.tmp 4] Tryz.func201 Tryz.ntmps201 rfl Tryz.results201 (by kernel_rfl) rfl ?_
 intro y ⟨a0, a1, _⟩ r H Q hn hr
 have hT := tc o221c222 (tc o221c202 (tc o202 tn))
 refine qa tok hT [0, 1] (St.mk [p 0 (L y195 a0), p 1 (AV.fn 202 [D y195.pt a1])] []) (by kernel_rfl) ?_
 refine qd tok hT [4] (fun v0 => St.mk [p 4 (B (decide (0 ≤ v0)))] []) H (by kernel_rfl) fun v0 H => ?_
 exact vx_ret <| hr H (by kernel_rfl)
def u178J0 (a0 : Y107) : Unit → Option (Bool)
 | _ =>
 some (decide ((↑a0.2.2.2.1.length : Int) ≤ 8))
def u178L1 (a0 : Y107) (g1 : Int → Option (Bool)) : Int → Option (Bool)
 | v1 =>
 if (decide (v1 < (↑a0.2.2.2.1.length : Int))) = true then
  gd (ix v1 a0.2.2.2.1.length ∧ True) <| lt (a0.2.2.2.1.getD v1.toNat (dflt y195)) fun v2 =>
  gd ((u200 a0 v2).isSome = true ∧ ((!vl (u200 a0 v2)) = false ∧ True → (0 : Int) ≤ (0 : Int) ∧ (0 : Int) ≤ v1 ∧ v1 ≤ (↑a0.2.2.2.1.length : Int)) ∧ ((!vl (u200 a0 v2)) = false ∧ True → (u201c202 (List.take v1.toNat a0.2.2.2.1) v2).isSome = true) ∧ True) <| 
  if (!vl (u200 a0 v2) || vl (u201c202 (List.take v1.toNat a0.2.2.2.1) v2)) = true then
   some false
  else
   gd (in64 (v1 + 1) ∧ True) <| 
   g1 (v1 + 1)
 else
  u178J0 a0 ()
def u178 (a0 : Y107) : Option (Bool) :=
 lp (u178L1 a0) 0
def k178 : Ct := lct 178 [.agg y107] (fun x => u178 x.1) (fun r : Bool => B r) (fun _ => ())
theorem o178 : Ok Tryz.prog k178 := by
 refine okl tok [.tmp 2] Tryz.func178 Tryz.ntmps178 rfl Tryz.results178 (by kernel_rfl) rfl ?_
 intro y ⟨a0, _⟩ r H Q hn hr
 have hT := tc o201c222 (tc o201c202 (tc o202 (tc o200 tn)))
 refine qa tok hT [1] (St.mk [p 1 (AV.ptr 1 0)] [(1, Ob.box 107 (cellsD false y107 a0))]) (by kernel_rfl) ?_
 refine jn r (fun (_ : Unit) => St.mk [p 1 (AV.ptr 1 0)] [(1, Ob.box 107 (cellsD false y107 a0))]) (u178J0 a0) (fun _ H => ?_) (fun _ n0 e0 t0 => ?_)
 ·refine qa tok hT [2] (St.mk [p 2 (B (decide ((↑a0.2.2.2.1.length : Int) ≤ 8)))] [(1, Ob.box 107 (cellsD false y107 a0))]) (by kernel_rfl) ?_
  exact vx_ret <| hr H (by kernel_rfl)
 refine qa tok hT [1, 6, 7, 8] (St.mk [p 1 (AV.ptr 1 0), p 6 (L y195 a0.2.2.2.1), p 7 (I (↑a0.2.2.2.1.length : Int)), p 8 (I 0)] [(1, Ob.box 107 (cellsD false y107 a0))]) (by kernel_rfl) ?_
 refine vx_block <| ?_
 refine lx (fun (v1 : Int) => St.mk [p 1 (AV.ptr 1 0), p 6 (L y195 a0.2.2.2.1), p 7 (I (↑a0.2.2.2.1.length : Int)), p 8 (I v1)] [(1, Ob.box 107 (cellsD false y107 a0))]) 0 H (by kernel_rfl) fun _ g1 b1 e1 t1 v1 H => ?_
 refine qa tok hT [1, 6, 7, 8, 9] (St.mk [p 1 (AV.ptr 1 0), p 6 (L y195 a0.2.2.2.1), p 7 (I (↑a0.2.2.2.1.length : Int)), p 8 (I v1), p 9 (B (decide (v1 < (↑a0.2.2.2.1.length : Int))))] [(1, Ob.box 107 (cellsD false y107 a0))]) (by kernel_rfl) ?_
 refine vx_seq <| ?_
 refine cd H (by kernel_rfl) (fun H => ?_) (fun H => ?_)
 ·refine vx_skip <| fx_seq <| vx_seq <| vx_block <| ?_
  refine qd tok hT [1, 3, 4, 6, 7, 8] (fun v2 => St.mk [p 1 (AV.ptr 1 0), p 3 (I v1), p 4 (AV.ptr 4 0), p 6 (L y195 a0.2.2.2.1), p 7 (I (↑a0.2.2.2.1.length : Int)), p 8 (I v1)] [(4, Ob.box 195 (cellsD false y195 v2)), (1, Ob.box 107 (cellsD false y107 a0))]) H (by kernel_rfl) fun v2 H => ?_
  refine qb tok hT [1, 6, 7, 8, 18, 19, 20, 21, 22, 23, 24] (St.mk [p 1 (AV.ptr 1 0), p 6 (L y195 a0.2.2.2.1), p 7 (I (↑a0.2.2.2.1.length : Int)), p 8 (I v1), p 24 (B (!vl (u200 a0 v2) || vl (u201c202 (List.take v1.toNat a0.2.2.2.1) v2)))] [(4, Ob.box 195 (cellsD false y195 v2)), (1, Ob.box 107 (cellsD false y107 a0))]) H (by kernel_rfl) fun H => ?_
  refine cd H (by kernel_rfl) (fun H => ?_) (fun H => ?_)
  ·refine qa tok hT [2] (St.mk [p 2 (B false)] [(4, Ob.box 195 (cellsD false y195 v2)), (1, Ob.box 107 (cellsD false y107 a0))]) (by kernel_rfl) ?_
   exact vx_ret <| fx_blk_ret <| fx_seq_ret <| t1 <| fx_blk_ret <| t0 <| hr H (by kernel_rfl)
  refine vx_skip <| fx_blk <| fx_seq <| ?_
  refine zb tok hT [1, 6, 7, 8] (St.mk [p 1 (AV.ptr 1 0), p 6 (L y195 a0.2.2.2.1), p 7 (I (↑a0.2.2.2.1.length : Int)), p 8 (I (v1 + 1))] [(4, Ob.box 195 (cellsD false y195 v2)), (1, Ob.box 107 (cellsD false y107 a0))]) H (by kernel_rfl) fun H => ?_
  exact b1 H (by kernel_rfl)
 exact vx_exit <| fx_seq_exit <| e1 <| fx_blk_exit rfl <| n0 H (by kernel_rfl)
def u177J0 (a0 : List Y147) : List ByteArray → Option (Bool)
 | v6 =>
 gd ((u199 a0).isSome = true ∧ (u111 (vl (u199 a0)) 2 5).isSome = true ∧ (vl (u111 (vl (u199 a0)) 2 5) = true ∧ True → (u144 v6).isSome = true) ∧ True) <| 
 some (vl (u111 (vl (u199 a0)) 2 5) && vl (u144 v6))
def u177J2 (v3 : Int) (g1 : List ByteArray × Int → Option (Bool)) : List ByteArray → Option (Bool)
 | v5 =>
 gd (in64 (v3 + 1) ∧ True) <| 
 g1 (v5, v3 + 1)
def u177L1 (a0 : List Y147) (g1 : List ByteArray × Int → Option (Bool)) : List ByteArray × Int → Option (Bool)
 | (v2, v3) =>
 if (decide (v3 < (↑a0.length : Int))) = true then
  gd (ix v3 a0.length ∧ True) <| lt (a0.getD v3.toNat (dflt y147)) fun v4 =>
  gd ((v2.length + [v4.1].length ≤ 9223372036854775807 ∧ (v2.length + [v4.1].length) * 16 ≤ 140737488355328) ∧ True) <| 
  gd (in64 ((↑a0.length : Int) - 1) ∧ True) <| 
  if (v3 == (↑a0.length : Int) - 1) = true then
   if (v4.2.1 != 2 || v4.2.2.1 != 0 || v4.2.2.2) = true then
    some false
   else
    u177J2 v3 g1 (v2 ++ [v4.1])
  else
   gd (((v4.2.1 != 1) = false ∧ True → (u111 v4.2.2.1 0 500).isSome = true) ∧ True) <| 
   if (v4.2.1 != 1 || !vl (u111 v4.2.2.1 0 500)) = true then
    some false
   else
    u177J2 v3 g1 (v2 ++ [v4.1])
 else
  u177J0 a0 v2
def u177 (a0 : List Y147) : Option (Bool) :=
 lp (u177L1 a0) ([], 0)
def k177 : Ct := lct 177 [.dat y147.sl] (fun x => u177 x.1) (fun r : Bool => B r) (fun _ => ())
theorem o177 : Ok Tryz.prog k177 := by
 refine okl tok [.tmp 2] Tryz.func177 Tryz.ntmps177 rfl Tryz.results177 (by kernel_rfl) rfl ?_
 intro y ⟨a0, _⟩ r H Q hn hr
 have hT := tc o144 (tc o111 (tc o199 tn))
 refine qa tok hT [0] (St.mk [p 0 (L y147 a0)] []) (by kernel_rfl) ?_
 refine qa tok hT [0, 3] (St.mk [p 0 (L y147 a0), p 3 (AV.v (Value.slice none 0 0))] []) (by kernel_rfl) ?_
 refine jn r (fun (v6 : List ByteArray) => St.mk [p 0 (L y147 a0), p 3 (AV.os 17 0)] [(17, Ob.arr 9 true Ty.str v6 0)]) (u177J0 a0) (fun v6 H => ?_) (fun _ n0 e0 t0 => ?_)
 ·refine qb tok hT [2] (St.mk [p 2 (B (vl (u111 (vl (u199 a0)) 2 5) && vl (u144 v6)))] [(17, Ob.arr 9 true Ty.str v6 0)]) H (by kernel_rfl) fun H => ?_
  exact vx_ret <| hr H (by kernel_rfl)
 refine qa tok hT [0, 3, 6, 7, 8] (St.mk [p 0 (L y147 a0), p 3 (AV.v (Value.slice none 0 0)), p 6 (L y147 a0), p 7 (I (↑a0.length : Int)), p 8 (I 0)] []) (by kernel_rfl) ?_
 refine vx_block <| ?_
 refine lx (fun ((v2, v3) : List ByteArray × Int) => St.mk [p 0 (L y147 a0), p 3 (AV.os 17 0), p 6 (L y147 a0), p 7 (I (↑a0.length : Int)), p 8 (I v3)] [(17, Ob.arr 9 true Ty.str v2 0)]) ([], 0) H (by kernel_rfl) fun _ g1 b1 e1 t1 ⟨v2, v3⟩ H => ?_
 refine qa tok hT [0, 3, 6, 7, 8, 9] (St.mk [p 0 (L y147 a0), p 3 (AV.os 17 0), p 6 (L y147 a0), p 7 (I (↑a0.length : Int)), p 8 (I v3), p 9 (B (decide (v3 < (↑a0.length : Int))))] [(17, Ob.arr 9 true Ty.str v2 0)]) (by kernel_rfl) ?_
 refine vx_seq <| ?_
 refine cd H (by kernel_rfl) (fun H => ?_) (fun H => ?_)
 ·refine vx_skip <| fx_seq <| ?_
  refine jn r (fun (v5 : List ByteArray) => St.mk [p 0 (L y147 a0), p 3 (AV.os 17 0), p 6 (L y147 a0), p 7 (I (↑a0.length : Int)), p 8 (I v3)] [(17, Ob.arr 9 true Ty.str v5 0)]) (u177J2 v3 g1) (fun v5 H => ?_) (fun _ n2 e2 t2 => ?_)
  ·refine zb tok hT [0, 3, 6, 7, 8] (St.mk [p 0 (L y147 a0), p 3 (AV.os 17 0), p 6 (L y147 a0), p 7 (I (↑a0.length : Int)), p 8 (I (v3 + 1))] [(17, Ob.arr 9 true Ty.str v5 0)]) H (by kernel_rfl) fun H => ?_
   exact b1 H (by kernel_rfl)
  refine vx_block <| ?_
  refine qd tok hT [0, 3, 4, 5, 6, 7, 8] (fun v4 => St.mk [p 0 (L y147 a0), p 3 (AV.os 17 0), p 4 (I v3), p 5 (AV.ptr 5 0), p 6 (L y147 a0), p 7 (I (↑a0.length : Int)), p 8 (I v3)] [(5, Ob.box 147 (cellsD false y147 v4)), (17, Ob.arr 9 true Ty.str v2 0)]) H (by kernel_rfl) fun v4 H => ?_
  refine qb tok hT [0, 3, 4, 5, 6, 7, 8] (St.mk [p 0 (L y147 a0), p 3 (AV.os 17 1), p 4 (I v3), p 5 (AV.ptr 5 0), p 6 (L y147 a0), p 7 (I (↑a0.length : Int)), p 8 (I v3)] [(17, Ob.arr 9 true Ty.str (v2 ++ [v4.1]) 1), (16, Ob.arr 9 true Ty.str [v4.1] 0), (5, Ob.box 147 (cellsD false y147 v4))]) H (by kernel_rfl) fun H => ?_
  refine qb tok hT [0, 3, 5, 6, 7, 8, 22] (St.mk [p 0 (L y147 a0), p 3 (AV.os 17 1), p 5 (AV.ptr 5 0), p 6 (L y147 a0), p 7 (I (↑a0.length : Int)), p 8 (I v3), p 22 (B (v3 == (↑a0.length : Int) - 1))] [(17, Ob.arr 9 true Ty.str (v2 ++ [v4.1]) 1), (16, Ob.arr 9 true Ty.str [v4.1] 0), (5, Ob.box 147 (cellsD false y147 v4))]) H (by kernel_rfl) fun H => ?_
  refine cd H (by kernel_rfl) (fun H => ?_) (fun H => ?_)
  ·refine qa tok hT [0, 3, 6, 7, 8, 27, 28, 29, 32, 33, 34] (St.mk [p 0 (L y147 a0), p 3 (AV.os 17 1), p 6 (L y147 a0), p 7 (I (↑a0.length : Int)), p 8 (I v3), p 34 (B (v4.2.1 != 2 || v4.2.2.1 != 0 || v4.2.2.2))] [(17, Ob.arr 9 true Ty.str (v2 ++ [v4.1]) 1), (16, Ob.arr 9 true Ty.str [v4.1] 0), (5, Ob.box 147 (cellsD false y147 v4))]) (by kernel_rfl) ?_
   refine cd H (by kernel_rfl) (fun H => ?_) (fun H => ?_)
   ·refine qa tok hT [2] (St.mk [p 2 (B false)] [(17, Ob.arr 9 true Ty.str (v2 ++ [v4.1]) 1), (16, Ob.arr 9 true Ty.str [v4.1] 0), (5, Ob.box 147 (cellsD false y147 v4))]) (by kernel_rfl) ?_
    exact vx_ret <| fx_blk_ret <| t2 <| t1 <| fx_blk_ret <| t0 <| hr H (by kernel_rfl)
   exact vx_skip <| fx_blk <| n2 H (by kernel_rfl)
  refine qb tok hT [0, 3, 6, 7, 8, 39, 40, 41, 42, 43] (St.mk [p 0 (L y147 a0), p 3 (AV.os 17 1), p 6 (L y147 a0), p 7 (I (↑a0.length : Int)), p 8 (I v3), p 43 (B (v4.2.1 != 1 || !vl (u111 v4.2.2.1 0 500)))] [(17, Ob.arr 9 true Ty.str (v2 ++ [v4.1]) 1), (16, Ob.arr 9 true Ty.str [v4.1] 0), (5, Ob.box 147 (cellsD false y147 v4))]) H (by kernel_rfl) fun H => ?_
  refine cd H (by kernel_rfl) (fun H => ?_) (fun H => ?_)
  ·refine qa tok hT [2] (St.mk [p 2 (B false)] [(17, Ob.arr 9 true Ty.str (v2 ++ [v4.1]) 1), (16, Ob.arr 9 true Ty.str [v4.1] 0), (5, Ob.box 147 (cellsD false y147 v4))]) (by kernel_rfl) ?_
   exact vx_ret <| fx_blk_ret <| t2 <| t1 <| fx_blk_ret <| t0 <| hr H (by kernel_rfl)
  exact vx_skip <| fx_blk <| n2 H (by kernel_rfl)
 exact vx_exit <| fx_seq_exit <| e1 <| fx_blk_exit rfl <| n0 H (by kernel_rfl)
def u143 (a0 : Y107) : Option (Bool) :=
 gd ((u120 a0.1).isSome = true ∧ (vl (u120 a0.1) = true ∧ True → (u177 a0.2.2.1).isSome = true) ∧ ((vl (u120 a0.1) && vl (u177 a0.2.2.1)) = true ∧ True → (u178 a0).isSome = true) ∧ ((vl (u120 a0.1) && vl (u177 a0.2.2.1) && vl (u178 a0)) = true ∧ True → (u111 a0.2.2.2.2.2.1 0 100000).isSome = true) ∧ ((vl (u120 a0.1) && vl (u177 a0.2.2.1) && vl (u178 a0) && vl (u111 a0.2.2.2.2.2.1 0 100000)) = true ∧ True → (u111 a0.2.2.2.2.2.2 0 100000).isSome = true) ∧ ((vl (u120 a0.1) && vl (u177 a0.2.2.1) && vl (u178 a0) && vl (u111 a0.2.2.2.2.2.1 0 100000) && vl (u111 a0.2.2.2.2.2.2 0 100000)) = true ∧ True → (u179 a0).isSome = true) ∧ True) <| 
 some (vl (u120 a0.1) && vl (u177 a0.2.2.1) && vl (u178 a0) && vl (u111 a0.2.2.2.2.2.1 0 100000) && vl (u111 a0.2.2.2.2.2.2 0 100000) && vl (u179 a0))
def k143 : Ct := lct 143 [.agg y107] (fun x => u143 x.1) (fun r : Bool => B r) (fun _ => ())
theorem o143 : Ok Tryz.prog k143 := by
 refine okl tok [.tmp 2] Tryz.func143 Tryz.ntmps143 rfl Tryz.results143 (by kernel_rfl) rfl ?_
 intro y ⟨a0, _⟩ r H Q hn hr
 have hT := tc o179 (tc o111 (tc o178 (tc o177 (tc o120 tn))))
 refine qa tok hT [1] (St.mk [p 1 (AV.ptr 1 0)] [(1, Ob.box 107 (cellsD false y107 a0))]) (by kernel_rfl) ?_
 refine qb tok hT [2] (St.mk [p 2 (B (vl (u120 a0.1) && vl (u177 a0.2.2.1) && vl (u178 a0) && vl (u111 a0.2.2.2.2.2.1 0 100000) && vl (u111 a0.2.2.2.2.2.2 0 100000) && vl (u179 a0)))] [(1, Ob.box 107 (cellsD false y107 a0))]) H (by kernel_rfl) fun H => ?_
 exact vx_ret <| hr H (by kernel_rfl)
def u105J0 (a0 : List Y107) : List ByteArray → Option (Bool)
 | v4 =>
 gd ((decide ((↑a0.length : Int) ≤ 8) = true ∧ True → (u144 v4).isSome = true) ∧ True) <| 
 some (decide ((↑a0.length : Int) ≤ 8) && vl (u144 v4))
def u105L1 (a0 : List Y107) (g1 : List ByteArray × Int → Option (Bool)) : List ByteArray × Int → Option (Bool)
 | (v1, v2) =>
 if (decide (v2 < (↑a0.length : Int))) = true then
  gd (ix v2 a0.length ∧ True) <| lt (a0.getD v2.toNat (dflt y107)) fun v3 =>
  gd ((u143 v3).isSome = true ∧ True) <| 
  if (!vl (u143 v3)) = true then
   some false
  else
   gd ((v1.length + [v3.1].length ≤ 9223372036854775807 ∧ (v1.length + [v3.1].length) * 16 ≤ 140737488355328) ∧ True) <| 
   gd (in64 (v2 + 1) ∧ True) <| 
   g1 (v1 ++ [v3.1], v2 + 1)
 else
  u105J0 a0 v1
def u105 (a0 : List Y107) : Option (Bool) :=
 lp (u105L1 a0) ([], 0)
def k105 : Ct := lct 105 [.agg y107.sl] (fun x => u105 x.1) (fun r : Bool => B r) (fun _ => ())
theorem o105 : Ok Tryz.prog k105 := by
 refine okl tok [.tmp 2] Tryz.func105 Tryz.ntmps105 rfl Tryz.results105 (by kernel_rfl) rfl ?_
 intro y ⟨a0, _⟩ r H Q hn hr
 have hT := tc o144 (tc o143 tn)
 refine qa tok hT [1] (St.mk [p 1 (AV.ptr 1 0)] [(1, Ob.box 43 [L y107 a0])]) (by kernel_rfl) ?_
 refine qa tok hT [1, 3] (St.mk [p 1 (AV.ptr 1 0), p 3 (AV.v (Value.slice none 0 0))] [(1, Ob.box 43 [L y107 a0])]) (by kernel_rfl) ?_
 refine jn r (fun (v4 : List ByteArray) => St.mk [p 1 (AV.ptr 1 0), p 3 (AV.os 20 0)] [(1, Ob.box 43 [L y107 a0]), (20, Ob.arr 9 true Ty.str v4 0)]) (u105J0 a0) (fun v4 H => ?_) (fun _ n0 e0 t0 => ?_)
 ·refine qb tok hT [2] (St.mk [p 2 (B (decide ((↑a0.length : Int) ≤ 8) && vl (u144 v4)))] [(1, Ob.box 43 [L y107 a0]), (20, Ob.arr 9 true Ty.str v4 0)]) H (by kernel_rfl) fun H => ?_
  exact vx_ret <| hr H (by kernel_rfl)
 refine qa tok hT [1, 3, 7, 8, 9] (St.mk [p 1 (AV.ptr 1 0), p 3 (AV.v (Value.slice none 0 0)), p 7 (L y107 a0), p 8 (I (↑a0.length : Int)), p 9 (I 0)] [(1, Ob.box 43 [L y107 a0])]) (by kernel_rfl) ?_
 refine vx_block <| ?_
 refine lx (fun ((v1, v2) : List ByteArray × Int) => St.mk [p 1 (AV.ptr 1 0), p 3 (AV.os 20 0), p 7 (L y107 a0), p 8 (I (↑a0.length : Int)), p 9 (I v2)] [(1, Ob.box 43 [L y107 a0]), (20, Ob.arr 9 true Ty.str v1 0)]) ([], 0) H (by kernel_rfl) fun _ g1 b1 e1 t1 ⟨v1, v2⟩ H => ?_
 refine qa tok hT [1, 3, 7, 8, 9, 10] (St.mk [p 1 (AV.ptr 1 0), p 3 (AV.os 20 0), p 7 (L y107 a0), p 8 (I (↑a0.length : Int)), p 9 (I v2), p 10 (B (decide (v2 < (↑a0.length : Int))))] [(1, Ob.box 43 [L y107 a0]), (20, Ob.arr 9 true Ty.str v1 0)]) (by kernel_rfl) ?_
 refine vx_seq <| ?_
 refine cd H (by kernel_rfl) (fun H => ?_) (fun H => ?_)
 ·refine vx_skip <| fx_seq <| vx_seq <| vx_block <| ?_
  refine qd tok hT [1, 3, 5, 7, 8, 9] (fun v3 => St.mk [p 1 (AV.ptr 1 0), p 3 (AV.os 20 0), p 5 (AV.ptr 5 0), p 7 (L y107 a0), p 8 (I (↑a0.length : Int)), p 9 (I v2)] [(5, Ob.box 107 (cellsD false y107 v3)), (1, Ob.box 43 [L y107 a0]), (20, Ob.arr 9 true Ty.str v1 0)]) H (by kernel_rfl) fun v3 H => ?_
  refine vx_seq <| ?_
  refine qb tok hT [1, 3, 5, 7, 8, 9, 15] (St.mk [p 1 (AV.ptr 1 0), p 3 (AV.os 20 0), p 5 (AV.ptr 5 0), p 7 (L y107 a0), p 8 (I (↑a0.length : Int)), p 9 (I v2), p 15 (B !vl (u143 v3))] [(5, Ob.box 107 (cellsD false y107 v3)), (1, Ob.box 43 [L y107 a0]), (20, Ob.arr 9 true Ty.str v1 0)]) H (by kernel_rfl) fun H => ?_
  refine cd H (by kernel_rfl) (fun H => ?_) (fun H => ?_)
  ·refine qa tok hT [2] (St.mk [p 2 (B false)] [(5, Ob.box 107 (cellsD false y107 v3)), (1, Ob.box 43 [L y107 a0]), (20, Ob.arr 9 true Ty.str v1 0)]) (by kernel_rfl) ?_
   exact vx_ret <| fx_seq_ret <| fx_blk_ret <| fx_seq_ret <| t1 <| fx_blk_ret <| t0 <| hr H (by kernel_rfl)
  refine vx_skip <| fx_seq <| ?_
  refine zb tok hT [1, 3, 7, 8, 9] (St.mk [p 1 (AV.ptr 1 0), p 3 (AV.os 20 1), p 7 (L y107 a0), p 8 (I (↑a0.length : Int)), p 9 (I v2)] [(20, Ob.arr 9 true Ty.str (v1 ++ [v3.1]) 1), (19, Ob.arr 9 true Ty.str [v3.1] 0), (5, Ob.box 107 (cellsD false y107 v3)), (1, Ob.box 43 [L y107 a0])]) H (by kernel_rfl) fun H => ?_
  refine fx_blk <| fx_seq <| ?_
  refine zb tok hT [1, 3, 7, 8, 9] (St.mk [p 1 (AV.ptr 1 0), p 3 (AV.os 20 1), p 7 (L y107 a0), p 8 (I (↑a0.length : Int)), p 9 (I (v2 + 1))] [(20, Ob.arr 9 true Ty.str (v1 ++ [v3.1]) 1), (19, Ob.arr 9 true Ty.str [v3.1] 0), (5, Ob.box 107 (cellsD false y107 v3)), (1, Ob.box 43 [L y107 a0])]) H (by kernel_rfl) fun H => ?_
  exact b1 H (by kernel_rfl)
 exact vx_exit <| fx_seq_exit <| e1 <| fx_blk_exit rfl <| n0 H (by kernel_rfl)
def u147c109J0 : Unit → Option (Int)
 | _ =>
 some (-1)
def u147c109L1 (a0 : List Int) (g1 : Int → Option (Int)) : Int → Option (Int)
 | v0 =>
 if (decide (v0 < (↑a0.length : Int))) = true then
  gd (ix v0 a0.length ∧ (u109 (a0.getD v0.toNat 0)).isSome = true ∧ True) <| 
  if (vl (u109 (a0.getD v0.toNat 0))) = true then
   some v0
  else
   gd (in64 (v0 + 1) ∧ True) <| 
   g1 (v0 + 1)
 else
  u147c109J0 ()
def u147c109 (a0 : List Int) : Option (Int) :=
 lp (u147c109L1 a0) 0
def k147c109 : Ct := lct 147 [.dat i64.sl, .nof 109] (fun x => u147c109 x.1) (fun r : Int => I r) (fun _ => ())
theorem o147c109 : Ok Tryz.prog k147c109 := by
 refine okl tok [.tmp 4] Tryz.func147 Tryz.ntmps147 rfl Tryz.results147 (by kernel_rfl) rfl ?_
 intro y ⟨a0, _, _⟩ r H Q hn hr
 have hT := tc o109 tn
 refine qa tok hT [0, 1] (St.mk [p 0 (L i64 a0), p 1 (AV.fn 109 [])] []) (by kernel_rfl) ?_
 refine jn r (fun (_ : Unit) => St.mk [] []) (u147c109J0) (fun _ H => ?_) (fun _ n0 e0 t0 => ?_)
 ·refine qa tok hT [4] (St.mk [p 4 (I (-1))] []) (by kernel_rfl) ?_
  exact vx_ret <| hr H (by kernel_rfl)
 refine qa tok hT [0, 1, 7, 8] (St.mk [p 0 (L i64 a0), p 1 (AV.fn 109 []), p 7 (I (↑a0.length : Int)), p 8 (I 0)] []) (by kernel_rfl) ?_
 refine vx_block <| ?_
 refine lx (fun (v0 : Int) => St.mk [p 0 (L i64 a0), p 1 (AV.fn 109 []), p 7 (I (↑a0.length : Int)), p 8 (I v0)] []) 0 H (by kernel_rfl) fun _ g1 b1 e1 t1 v0 H => ?_
 refine qa tok hT [0, 1, 7, 8, 9] (St.mk [p 0 (L i64 a0), p 1 (AV.fn 109 []), p 7 (I (↑a0.length : Int)), p 8 (I v0), p 9 (B (decide (v0 < (↑a0.length : Int))))] []) (by kernel_rfl) ?_
 refine vx_seq <| ?_
 refine cd H (by kernel_rfl) (fun H => ?_) (fun H => ?_)
 ·refine vx_skip <| fx_seq <| vx_seq <| vx_block <| ?_
  refine qa tok hT [0, 1, 5, 7, 8] (St.mk [p 0 (L i64 a0), p 1 (AV.fn 109 []), p 5 (I v0), p 7 (I (↑a0.length : Int)), p 8 (I v0)] []) (by kernel_rfl) ?_
  refine qb tok hT [0, 1, 5, 7, 8, 16] (St.mk [p 0 (L i64 a0), p 1 (AV.fn 109 []), p 5 (I v0), p 7 (I (↑a0.length : Int)), p 8 (I v0), p 16 (B (vl (u109 (a0.getD v0.toNat 0))))] []) H (by kernel_rfl) fun H => ?_
  refine cd H (by kernel_rfl) (fun H => ?_) (fun H => ?_)
  ·refine qa tok hT [4] (St.mk [p 4 (I v0)] []) (by kernel_rfl) ?_
   exact vx_ret <| fx_blk_ret <| fx_seq_ret <| t1 <| fx_blk_ret <| t0 <| hr H (by kernel_rfl)
  refine vx_skip <| fx_blk <| fx_seq <| ?_
  refine zb tok hT [0, 1, 7, 8] (St.mk [p 0 (L i64 a0), p 1 (AV.fn 109 []), p 7 (I (↑a0.length : Int)), p 8 (I (v0 + 1))] []) H (by kernel_rfl) fun H => ?_
  exact b1 H (by kernel_rfl)
 exact vx_exit <| fx_seq_exit <| e1 <| fx_blk_exit rfl <| n0 H (by kernel_rfl)
def u108c109 (a0 : List Int) : Option (Bool) :=
 gd ((u147c109 a0).isSome = true ∧ True) <| lt (vl (u147c109 a0)) fun v0 =>
 some (decide (0 ≤ v0))
def k108c109 : Ct := lct 108 [.dat i64.sl, .nof 109] (fun x => u108c109 x.1) (fun r : Bool => B r) (fun _ => ())
theorem o108c109 : Ok Tryz.prog k108c109 := by
 refine okl tok [.tmp 4] Tryz.func108 Tryz.ntmps108 rfl Tryz.results108 (by kernel_rfl) rfl ?_
 intro y ⟨a0, _, _⟩ r H Q hn hr
 have hT := tc o147c109 (tc o109 tn)
 refine qa tok hT [0, 1] (St.mk [p 0 (L i64 a0), p 1 (AV.fn 109 [])] []) (by kernel_rfl) ?_
 refine qd tok hT [4] (fun v0 => St.mk [p 4 (B (decide (0 ≤ v0)))] []) H (by kernel_rfl) fun v0 H => ?_
 exact vx_ret <| hr H (by kernel_rfl)
def u73J2 : List Int → Option (Bool)
 | v13 =>
 gd ((u108c109 v13).isSome = true ∧ True) <| 
 some (!vl (u108c109 v13))
def u73J4 (v9 : Int) (g3 : Int × List Int → Option (Bool)) : List Int → Option (Bool)
 | v12 =>
 gd (in64 (v9 + 1) ∧ True) <| 
 g3 (v9 + 1, v12)
def u73L3 (a1 : Y47) (g3 : Int × List Int → Option (Bool)) : Int × List Int → Option (Bool)
 | (v9, v10) =>
 if (decide (v9 < (↑a1.2.2.length : Int))) = true then
  gd (ix v9 a1.2.2.length ∧ True) <| lt (a1.2.2.getD v9.toNat (dflt y144)) fun v11 =>
  gd (((v11.2.1 != 1 && v11.2.1 != 2) = false ∧ True → (u84 a1 v11.2.2).isSome = true) ∧ True) <| 
  if (v11.2.1 != 1 && v11.2.1 != 2 || !vl (u84 a1 v11.2.2)) = true then
   some false
  else
   if (v11.2.1 == 1) = true then
    gd (ix v11.2.2 v10.length ∧ v11.2.2.toNat < v10.length ∧ in64 (v10.getD v11.2.2.toNat 0 + 1) ∧ ix v11.2.2 v10.length ∧ v11.2.2.toNat < v10.length ∧ True) <| 
    u73J4 v9 g3 (v10.set v11.2.2.toNat (v10.getD v11.2.2.toNat 0 + 1))
   else
    u73J4 v9 g3 v10
 else
  u73J2 v10
def u73J0 (a1 : Y47) : List Int → Option (Bool)
 | v6 =>
 lp (u73L3 a1) (0, v6)
def u73L1 (a1 : Y47) (a0 : List Y107) (g1 : Int × List Int → Option (Bool)) : Int × List Int → Option (Bool)
 | (v2, v3) =>
 if (decide (v2 < (↑a1.1.length : Int))) = true then
  gd (ix v2 a1.1.length ∧ True) <| lt (a1.1.getD v2.toNat (dflt y109)) fun v4 =>
  gd ((u107 a1 a0 v4).isSome = true ∧ True) <| 
  if (!vl (u107 a1 a0 v4)) = true then
   some false
  else
   gd (in64 ((↑v4.2.2.length : Int) - 1) ∧ ix ((↑v4.2.2.length : Int) - 1) v4.2.2.length ∧ ix (v4.2.2.getD ((↑v4.2.2.length : Int) - 1).toNat 0) v3.length ∧ Int.toNat (v4.2.2.getD ((↑v4.2.2.length : Int) - 1).toNat 0) < v3.length ∧ in64 (v3.getD (Int.toNat (v4.2.2.getD ((↑v4.2.2.length : Int) - 1).toNat 0)) 0 + 1) ∧ ix (v4.2.2.getD ((↑v4.2.2.length : Int) - 1).toNat 0) v3.length ∧ Int.toNat (v4.2.2.getD ((↑v4.2.2.length : Int) - 1).toNat 0) < v3.length ∧ True) <| lt (v3.set (Int.toNat (v4.2.2.getD ((↑v4.2.2.length : Int) - 1).toNat 0)) (v3.getD (Int.toNat (v4.2.2.getD ((↑v4.2.2.length : Int) - 1).toNat 0)) 0 + 1)) fun v5 =>
   gd (in64 (v2 + 1) ∧ True) <| 
   g1 (v2 + 1, v5)
 else
  u73J0 a1 v3
def u73 (a0 : List Y107) (a1 : Y47) : Option (Bool) :=
 gd ((u105 a0).isSome = true ∧ ((!vl (u105 a0)) = false ∧ True → (u106 a1).isSome = true) ∧ True) <| 
 if (!vl (u105 a0) || !vl (u106 a1)) = true then
  some false
 else
  gd ((0 ≤ (↑a1.2.1.length : Int) ∧ (↑a1.2.1.length : Int) = (↑a1.2.1.length : Int) ∧ (↑a1.2.1.length : Int).toNat * 8 ≤ 281474976710656 ∧ (↑a1.2.1.length : Int) ≤ 9223372036854775807) ∧ True) <| 
  lp (u73L1 a1 a0) ((0, List.replicate (↑a1.2.1.length : Int).toNat 0))
def k73 : Ct := lct 73 [.agg y107.sl, .agg y47] (fun x => u73 x.1 x.2.1) (fun r : Bool => B r) (fun _ => ())
theorem o73 : Ok Tryz.prog k73 := by
 refine okl tok [.tmp 4] Tryz.func73 Tryz.ntmps73 rfl Tryz.results73 (by kernel_rfl) rfl ?_
 intro y ⟨a0, a1, _⟩ r H Q hn hr
 have hT := tc o109 (tc o108c109 (tc o84 (tc o107 (tc o106 (tc o105 tn)))))
 refine qa tok hT [2, 3] (St.mk [p 2 (AV.ptr 2 0), p 3 (AV.ptr 3 0)] [(3, Ob.box 47 (cellsD false y47 a1)), (2, Ob.box 43 [L y107 a0])]) (by kernel_rfl) ?_
 refine vx_seq <| ?_
 refine qb tok hT [2, 3, 17] (St.mk [p 2 (AV.ptr 2 0), p 3 (AV.ptr 3 0), p 17 (B (!vl (u105 a0) || !vl (u106 a1)))] [(3, Ob.box 47 (cellsD false y47 a1)), (2, Ob.box 43 [L y107 a0])]) H (by kernel_rfl) fun H => ?_
 refine cd H (by kernel_rfl) (fun H => ?_) (fun H => ?_)
 ·refine qa tok hT [4] (St.mk [p 4 (B false)] [(3, Ob.box 47 (cellsD false y47 a1)), (2, Ob.box 43 [L y107 a0])]) (by kernel_rfl) ?_
  exact vx_ret <| fx_seq_ret <| hr H (by kernel_rfl)
 refine vx_skip <| fx_seq <| ?_
 refine qb tok hT [2, 3, 5] (St.mk [p 2 (AV.ptr 2 0), p 3 (AV.ptr 3 0), p 5 (AV.os 21 0)] [(21, Ob.arr 3 true i64 (List.replicate (↑a1.2.1.length : Int).toNat 0) 0), (3, Ob.box 47 (cellsD false y47 a1)), (2, Ob.box 43 [L y107 a0])]) H (by kernel_rfl) fun H => ?_
 refine jn r (fun (v6 : List Int) => St.mk [p 3 (AV.ptr 3 0), p 5 (AV.os 21 0)] [(21, Ob.arr 3 true i64 v6 0), (3, Ob.box 47 (cellsD false y47 a1))]) (u73J0 a1) (fun v6 H => ?_) (fun _ n0 e0 t0 => ?_)
 ·refine jn r (fun (v13 : List Int) => St.mk [p 5 (AV.os 21 0)] [(21, Ob.arr 3 true i64 v13 0)]) (u73J2) (fun v13 H => ?_) (fun _ n2 e2 t2 => ?_)
  ·refine qb tok hT [4] (St.mk [p 4 (B !vl (u108c109 v13))] [(21, Ob.arr 3 true i64 v13 0)]) H (by kernel_rfl) fun H => ?_
   exact vx_ret <| hr H (by kernel_rfl)
  refine qa tok hT [3, 5, 49, 50, 51] (St.mk [p 3 (AV.ptr 3 0), p 5 (AV.os 21 0), p 49 (L y144 a1.2.2), p 50 (I (↑a1.2.2.length : Int)), p 51 (I 0)] [(21, Ob.arr 3 true i64 v6 0), (3, Ob.box 47 (cellsD false y47 a1))]) (by kernel_rfl) ?_
  refine vx_block <| ?_
  refine lx (fun ((v9, v10) : Int × List Int) => St.mk [p 3 (AV.ptr 3 0), p 5 (AV.os 21 0), p 49 (L y144 a1.2.2), p 50 (I (↑a1.2.2.length : Int)), p 51 (I v9)] [(21, Ob.arr 3 true i64 v10 0), (3, Ob.box 47 (cellsD false y47 a1))]) (0, v6) H (by kernel_rfl) fun _ g3 b3 e3 t3 ⟨v9, v10⟩ H => ?_
  refine qa tok hT [3, 5, 49, 50, 51, 52] (St.mk [p 3 (AV.ptr 3 0), p 5 (AV.os 21 0), p 49 (L y144 a1.2.2), p 50 (I (↑a1.2.2.length : Int)), p 51 (I v9), p 52 (B (decide (v9 < (↑a1.2.2.length : Int))))] [(21, Ob.arr 3 true i64 v10 0), (3, Ob.box 47 (cellsD false y47 a1))]) (by kernel_rfl) ?_
  refine vx_seq <| ?_
  refine cd H (by kernel_rfl) (fun H => ?_) (fun H => ?_)
  ·refine vx_skip <| fx_seq <| ?_
   refine jn r (fun (v12 : List Int) => St.mk [p 3 (AV.ptr 3 0), p 5 (AV.os 21 0), p 49 (L y144 a1.2.2), p 50 (I (↑a1.2.2.length : Int)), p 51 (I v9)] [(21, Ob.arr 3 true i64 v12 0), (3, Ob.box 47 (cellsD false y47 a1))]) (u73J4 v9 g3) (fun v12 H => ?_) (fun _ n4 e4 t4 => ?_)
   ·refine zb tok hT [3, 5, 49, 50, 51] (St.mk [p 3 (AV.ptr 3 0), p 5 (AV.os 21 0), p 49 (L y144 a1.2.2), p 50 (I (↑a1.2.2.length : Int)), p 51 (I (v9 + 1))] [(21, Ob.arr 3 true i64 v12 0), (3, Ob.box 47 (cellsD false y47 a1))]) H (by kernel_rfl) fun H => ?_
    exact b3 H (by kernel_rfl)
   refine vx_block <| ?_
   refine qd tok hT [3, 5, 9, 49, 50, 51] (fun v11 => St.mk [p 3 (AV.ptr 3 0), p 5 (AV.os 21 0), p 9 (AV.ptr 9 0), p 49 (L y144 a1.2.2), p 50 (I (↑a1.2.2.length : Int)), p 51 (I v9)] [(9, Ob.box 144 (cellsD false y144 v11)), (21, Ob.arr 3 true i64 v10 0), (3, Ob.box 47 (cellsD false y47 a1))]) H (by kernel_rfl) fun v11 H => ?_
   refine vx_seq <| ?_
   refine qb tok hT [3, 5, 9, 49, 50, 51, 59, 60, 61, 64, 65, 66, 67, 68, 69] (St.mk [p 3 (AV.ptr 3 0), p 5 (AV.os 21 0), p 9 (AV.ptr 9 0), p 49 (L y144 a1.2.2), p 50 (I (↑a1.2.2.length : Int)), p 51 (I v9), p 69 (B (v11.2.1 != 1 && v11.2.1 != 2 || !vl (u84 a1 v11.2.2)))] [(9, Ob.box 144 (cellsD false y144 v11)), (21, Ob.arr 3 true i64 v10 0), (3, Ob.box 47 (cellsD false y47 a1))]) H (by kernel_rfl) fun H => ?_
   refine cd H (by kernel_rfl) (fun H => ?_) (fun H => ?_)
   ·refine qa tok hT [4] (St.mk [p 4 (B false)] [(9, Ob.box 144 (cellsD false y144 v11)), (21, Ob.arr 3 true i64 v10 0), (3, Ob.box 47 (cellsD false y47 a1))]) (by kernel_rfl) ?_
    exact vx_ret <| fx_seq_ret <| fx_blk_ret <| t4 <| t3 <| fx_blk_ret <| t2 <| hr H (by kernel_rfl)
   refine vx_skip <| fx_seq <| ?_
   refine qa tok hT [3, 5, 9, 49, 50, 51, 72] (St.mk [p 3 (AV.ptr 3 0), p 5 (AV.os 21 0), p 9 (AV.ptr 9 0), p 49 (L y144 a1.2.2), p 50 (I (↑a1.2.2.length : Int)), p 51 (I v9), p 72 (B (v11.2.1 == 1))] [(9, Ob.box 144 (cellsD false y144 v11)), (21, Ob.arr 3 true i64 v10 0), (3, Ob.box 47 (cellsD false y47 a1))]) (by kernel_rfl) ?_
   refine cd H (by kernel_rfl) (fun H => ?_) (fun H => ?_)
   ·refine zb tok hT [3, 5, 49, 50, 51] (St.mk [p 3 (AV.ptr 3 0), p 5 (AV.os 21 0), p 49 (L y144 a1.2.2), p 50 (I (↑a1.2.2.length : Int)), p 51 (I v9)] [(21, Ob.arr 3 true i64 (v10.set v11.2.2.toNat (v10.getD v11.2.2.toNat 0 + 1)) 0), (9, Ob.box 144 (cellsD false y144 v11)), (3, Ob.box 47 (cellsD false y47 a1))]) H (by kernel_rfl) fun H => ?_
    exact fx_blk <| n4 H (by kernel_rfl)
   exact vx_skip <| fx_blk <| n4 H (by kernel_rfl)
  exact vx_exit <| fx_seq_exit <| e3 <| fx_blk_exit rfl <| n2 H (by kernel_rfl)
 refine qa tok hT [2, 3, 5, 23, 24, 25] (St.mk [p 2 (AV.ptr 2 0), p 3 (AV.ptr 3 0), p 5 (AV.os 21 0), p 23 (L y109 a1.1), p 24 (I (↑a1.1.length : Int)), p 25 (I 0)] [(21, Ob.arr 3 true i64 (List.replicate (↑a1.2.1.length : Int).toNat 0) 0), (3, Ob.box 47 (cellsD false y47 a1)), (2, Ob.box 43 [L y107 a0])]) (by kernel_rfl) ?_
 refine vx_block <| ?_
 refine lx (fun ((v2, v3) : Int × List Int) => St.mk [p 2 (AV.ptr 2 0), p 3 (AV.ptr 3 0), p 5 (AV.os 21 0), p 23 (L y109 a1.1), p 24 (I (↑a1.1.length : Int)), p 25 (I v2)] [(21, Ob.arr 3 true i64 v3 0), (3, Ob.box 47 (cellsD false y47 a1)), (2, Ob.box 43 [L y107 a0])]) ((0, List.replicate (↑a1.2.1.length : Int).toNat 0)) H (by kernel_rfl) fun _ g1 b1 e1 t1 ⟨v2, v3⟩ H => ?_
 refine qa tok hT [2, 3, 5, 23, 24, 25, 26] (St.mk [p 2 (AV.ptr 2 0), p 3 (AV.ptr 3 0), p 5 (AV.os 21 0), p 23 (L y109 a1.1), p 24 (I (↑a1.1.length : Int)), p 25 (I v2), p 26 (B (decide (v2 < (↑a1.1.length : Int))))] [(21, Ob.arr 3 true i64 v3 0), (3, Ob.box 47 (cellsD false y47 a1)), (2, Ob.box 43 [L y107 a0])]) (by kernel_rfl) ?_
 refine vx_seq <| ?_
 refine cd H (by kernel_rfl) (fun H => ?_) (fun H => ?_)
 ·refine vx_skip <| fx_seq <| vx_seq <| vx_block <| ?_
  refine qd tok hT [2, 3, 5, 7, 23, 24, 25] (fun v4 => St.mk [p 2 (AV.ptr 2 0), p 3 (AV.ptr 3 0), p 5 (AV.os 21 0), p 7 (AV.ptr 7 0), p 23 (L y109 a1.1), p 24 (I (↑a1.1.length : Int)), p 25 (I v2)] [(7, Ob.box 109 (cellsD false y109 v4)), (21, Ob.arr 3 true i64 v3 0), (3, Ob.box 47 (cellsD false y47 a1)), (2, Ob.box 43 [L y107 a0])]) H (by kernel_rfl) fun v4 H => ?_
  refine vx_seq <| ?_
  refine qb tok hT [2, 3, 5, 7, 23, 24, 25, 33] (St.mk [p 2 (AV.ptr 2 0), p 3 (AV.ptr 3 0), p 5 (AV.os 21 0), p 7 (AV.ptr 7 0), p 23 (L y109 a1.1), p 24 (I (↑a1.1.length : Int)), p 25 (I v2), p 33 (B !vl (u107 a1 a0 v4))] [(7, Ob.box 109 (cellsD false y109 v4)), (21, Ob.arr 3 true i64 v3 0), (3, Ob.box 47 (cellsD false y47 a1)), (2, Ob.box 43 [L y107 a0])]) H (by kernel_rfl) fun H => ?_
  refine cd H (by kernel_rfl) (fun H => ?_) (fun H => ?_)
  ·refine qa tok hT [4] (St.mk [p 4 (B false)] [(7, Ob.box 109 (cellsD false y109 v4)), (21, Ob.arr 3 true i64 v3 0), (3, Ob.box 47 (cellsD false y47 a1)), (2, Ob.box 43 [L y107 a0])]) (by kernel_rfl) ?_
   exact vx_ret <| fx_seq_ret <| fx_blk_ret <| fx_seq_ret <| t1 <| fx_blk_ret <| t0 <| hr H (by kernel_rfl)
  refine vx_skip <| fx_seq <| ?_
  refine zd tok hT [2, 3, 5, 23, 24, 25] (fun v5 => St.mk [p 2 (AV.ptr 2 0), p 3 (AV.ptr 3 0), p 5 (AV.os 21 0), p 23 (L y109 a1.1), p 24 (I (↑a1.1.length : Int)), p 25 (I v2)] [(21, Ob.arr 3 true i64 v5 0), (7, Ob.box 109 (cellsD false y109 v4)), (3, Ob.box 47 (cellsD false y47 a1)), (2, Ob.box 43 [L y107 a0])]) H (by kernel_rfl) fun v5 H => ?_
  refine fx_blk <| fx_seq <| ?_
  refine zb tok hT [2, 3, 5, 23, 24, 25] (St.mk [p 2 (AV.ptr 2 0), p 3 (AV.ptr 3 0), p 5 (AV.os 21 0), p 23 (L y109 a1.1), p 24 (I (↑a1.1.length : Int)), p 25 (I (v2 + 1))] [(21, Ob.arr 3 true i64 v5 0), (7, Ob.box 109 (cellsD false y109 v4)), (3, Ob.box 47 (cellsD false y47 a1)), (2, Ob.box 43 [L y107 a0])]) H (by kernel_rfl) fun H => ?_
  exact b1 H (by kernel_rfl)
 exact vx_exit <| fx_seq_exit <| e1 <| fx_blk_exit rfl <| n0 H (by kernel_rfl)
def u34J3 : Unit → Option (Bool)
 | _ =>
 some true
def u34L4 (v9 : List Int) (a0 : Y50) (g4 : Int → Option (Bool)) : Int → Option (Bool)
 | v11 =>
 if (decide (v11 < (↑a0.2.2.length : Int))) = true then
  gd (ix v11 a0.2.2.length ∧ True) <| lt (a0.2.2.getD v11.toNat (dflt y52)) fun v12 =>
  gd (ix v11 v9.length ∧ v11.toNat < v9.length ∧ (u75 v12 (v9.getD v11.toNat 0)).isSome = true ∧ True) <| 
  if (!vl (u75 v12 (v9.getD v11.toNat 0))) = true then
   some false
  else
   gd (in64 (v11 + 1) ∧ True) <| 
   g4 (v11 + 1)
 else
  u34J3 ()
def u34J0 (a0 : Y50) : List Int → Option (Bool)
 | v9 =>
 lp (u34L4 v9 a0) 0
def u34J2 (v4 : Int) (g1 : Int × List Int → Option (Bool)) : List Int → Option (Bool)
 | v8 =>
 gd (in64 (v4 + 1) ∧ True) <| 
 g1 (v4 + 1, v8)
def u34L1 (v0 : List Y121) (a0 : Y50) (g1 : Int × List Int → Option (Bool)) : Int × List Int → Option (Bool)
 | (v4, v5) =>
 if (decide (v4 < (↑v0.length : Int))) = true then
  gd (ix v4 v0.length ∧ v4.toNat < v0.length ∧ True) <| lt (v0.getD v4.toNat (dflt y121)) fun v6 =>
  if (!v6.2.2.2) = true then
   gd (ix v6.2.2.1 v5.length ∧ v6.2.2.1.toNat < v5.length ∧ in64 (v5.getD v6.2.2.1.toNat 0 + 1) ∧ ix v6.2.2.1 v5.length ∧ v6.2.2.1.toNat < v5.length ∧ True) <| lt (v5.set v6.2.2.1.toNat (v5.getD v6.2.2.1.toNat 0 + 1)) fun v7 =>
   u34J2 v4 g1 v7
  else
   u34J2 v4 g1 v5
 else
  u34J0 a0 v5
def u34 (a0 : Y50) : Option (Bool) :=
 gd ((u73 a0.1 a0.2.1).isSome = true ∧ True) <| 
 if (!vl (u73 a0.1 a0.2.1) || (↑a0.2.2.length : Int) != (↑a0.2.1.2.1.length : Int)) = true then
  some false
 else
  gd ((0 ≤ (↑a0.2.2.length : Int) ∧ (↑a0.2.2.length : Int) = (↑a0.2.2.length : Int) ∧ (↑a0.2.2.length : Int).toNat * 8 ≤ 281474976710656 ∧ (↑a0.2.2.length : Int) ≤ 9223372036854775807) ∧ True) <| 
  gd ((u74 a0.2.1).isSome = true ∧ True) <| lt (vl (u74 a0.2.1)) fun v0 =>
  lp (u34L1 v0 a0) ((0, List.replicate (↑a0.2.2.length : Int).toNat 0))
def k34 : Ct := lct 34 [.agg y50] (fun x => u34 x.1) (fun r : Bool => B r) (fun _ => ())
theorem o34 : Ok Tryz.prog k34 := by
 refine okl tok [.tmp 2] Tryz.func34 Tryz.ntmps34 rfl Tryz.results34 (by kernel_rfl) rfl ?_
 intro y ⟨a0, _⟩ r H Q hn hr
 have hT := tc o75 (tc o74 (tc o73 tn))
 refine qa tok hT [1] (St.mk [p 1 (AV.ptr 1 0)] [(1, Ob.box 50 (cellsD false y50 a0))]) (by kernel_rfl) ?_
 refine vx_seq <| ?_
 refine qb tok hT [1, 23] (St.mk [p 1 (AV.ptr 1 0), p 23 (B (!vl (u73 a0.1 a0.2.1) || (↑a0.2.2.length : Int) != (↑a0.2.1.2.1.length : Int)))] [(1, Ob.box 50 (cellsD false y50 a0))]) H (by kernel_rfl) fun H => ?_
 refine cd H (by kernel_rfl) (fun H => ?_) (fun H => ?_)
 ·refine qa tok hT [2] (St.mk [p 2 (B false)] [(1, Ob.box 50 (cellsD false y50 a0))]) (by kernel_rfl) ?_
  exact vx_ret <| fx_seq_ret <| hr H (by kernel_rfl)
 refine vx_skip <| fx_seq <| ?_
 refine qb tok hT [1, 3] (St.mk [p 1 (AV.ptr 1 0), p 3 (AV.os 27 0)] [(27, Ob.arr 2 true i64 (List.replicate (↑a0.2.2.length : Int).toNat 0) 0), (1, Ob.box 50 (cellsD false y50 a0))]) H (by kernel_rfl) fun H => ?_
 refine jn r (fun (v9 : List Int) => St.mk [p 1 (AV.ptr 1 0), p 3 (AV.os 27 0)] [(27, Ob.arr 2 true i64 v9 0), (1, Ob.box 50 (cellsD false y50 a0))]) (u34J0 a0) (fun v9 H => ?_) (fun _ n0 e0 t0 => ?_)
 ·refine jn r (fun (_ : Unit) => St.mk [] []) (u34J3) (fun _ H => ?_) (fun _ n3 e3 t3 => ?_)
  ·refine qa tok hT [2] (St.mk [p 2 (B true)] []) (by kernel_rfl) ?_
   exact vx_ret <| hr H (by kernel_rfl)
  refine qa tok hT [3, 48, 49, 50] (St.mk [p 3 (AV.os 27 0), p 48 (L y52 a0.2.2), p 49 (I (↑a0.2.2.length : Int)), p 50 (I 0)] [(27, Ob.arr 2 true i64 v9 0), (1, Ob.box 50 (cellsD false y50 a0))]) (by kernel_rfl) ?_
  refine vx_block <| ?_
  refine lx (fun (v11 : Int) => St.mk [p 3 (AV.os 27 0), p 48 (L y52 a0.2.2), p 49 (I (↑a0.2.2.length : Int)), p 50 (I v11)] [(27, Ob.arr 2 true i64 v9 0)]) 0 H (by kernel_rfl) fun _ g4 b4 e4 t4 v11 H => ?_
  refine qa tok hT [3, 48, 49, 50, 51] (St.mk [p 3 (AV.os 27 0), p 48 (L y52 a0.2.2), p 49 (I (↑a0.2.2.length : Int)), p 50 (I v11), p 51 (B (decide (v11 < (↑a0.2.2.length : Int))))] [(27, Ob.arr 2 true i64 v9 0)]) (by kernel_rfl) ?_
  refine vx_seq <| ?_
  refine cd H (by kernel_rfl) (fun H => ?_) (fun H => ?_)
  ·refine vx_skip <| fx_seq <| vx_seq <| vx_block <| ?_
   refine qd tok hT [3, 6, 7, 48, 49, 50] (fun v12 => St.mk [p 3 (AV.os 27 0), p 6 (I v11), p 7 (AV.ptr 7 0), p 48 (L y52 a0.2.2), p 49 (I (↑a0.2.2.length : Int)), p 50 (I v11)] [(7, Ob.box 52 (cellsD false y52 v12)), (27, Ob.arr 2 true i64 v9 0)]) H (by kernel_rfl) fun v12 H => ?_
   refine qb tok hT [3, 48, 49, 50, 61] (St.mk [p 3 (AV.os 27 0), p 48 (L y52 a0.2.2), p 49 (I (↑a0.2.2.length : Int)), p 50 (I v11), p 61 (B !vl (u75 v12 (v9.getD v11.toNat 0)))] [(7, Ob.box 52 (cellsD false y52 v12)), (27, Ob.arr 2 true i64 v9 0)]) H (by kernel_rfl) fun H => ?_
   refine cd H (by kernel_rfl) (fun H => ?_) (fun H => ?_)
   ·refine qa tok hT [2] (St.mk [p 2 (B false)] [(7, Ob.box 52 (cellsD false y52 v12)), (27, Ob.arr 2 true i64 v9 0)]) (by kernel_rfl) ?_
    exact vx_ret <| fx_blk_ret <| fx_seq_ret <| t4 <| fx_blk_ret <| t3 <| hr H (by kernel_rfl)
   refine vx_skip <| fx_blk <| fx_seq <| ?_
   refine zb tok hT [3, 48, 49, 50] (St.mk [p 3 (AV.os 27 0), p 48 (L y52 a0.2.2), p 49 (I (↑a0.2.2.length : Int)), p 50 (I (v11 + 1))] [(7, Ob.box 52 (cellsD false y52 v12)), (27, Ob.arr 2 true i64 v9 0)]) H (by kernel_rfl) fun H => ?_
   exact b4 H (by kernel_rfl)
  exact vx_exit <| fx_seq_exit <| e4 <| fx_blk_exit rfl <| n3 H (by kernel_rfl)
 refine qd tok hT [1, 3, 30, 31, 32] (fun v0 => St.mk [p 1 (AV.ptr 1 0), p 3 (AV.os 27 0), p 30 (AV.os 30 0), p 31 (I (↑v0.length : Int)), p 32 (I 0)] [(30, Ob.arr 121 true y121 v0 0), (27, Ob.arr 2 true i64 (List.replicate (↑a0.2.2.length : Int).toNat 0) 0), (1, Ob.box 50 (cellsD false y50 a0))]) H (by kernel_rfl) fun v0 H => ?_
 refine vx_block <| ?_
 refine lx (fun ((v4, v5) : Int × List Int) => St.mk [p 1 (AV.ptr 1 0), p 3 (AV.os 27 0), p 30 (AV.os 30 0), p 31 (I (↑v0.length : Int)), p 32 (I v4)] [(30, Ob.arr 121 true y121 v0 0), (27, Ob.arr 2 true i64 v5 0), (1, Ob.box 50 (cellsD false y50 a0))]) ((0, List.replicate (↑a0.2.2.length : Int).toNat 0)) H (by kernel_rfl) fun _ g1 b1 e1 t1 ⟨v4, v5⟩ H => ?_
 refine qa tok hT [1, 3, 30, 31, 32, 33] (St.mk [p 1 (AV.ptr 1 0), p 3 (AV.os 27 0), p 30 (AV.os 30 0), p 31 (I (↑v0.length : Int)), p 32 (I v4), p 33 (B (decide (v4 < (↑v0.length : Int))))] [(30, Ob.arr 121 true y121 v0 0), (27, Ob.arr 2 true i64 v5 0), (1, Ob.box 50 (cellsD false y50 a0))]) (by kernel_rfl) ?_
 refine vx_seq <| ?_
 refine cd H (by kernel_rfl) (fun H => ?_) (fun H => ?_)
 ·refine vx_skip <| fx_seq <| ?_
  refine jn r (fun (v8 : List Int) => St.mk [p 1 (AV.ptr 1 0), p 3 (AV.os 27 0), p 30 (AV.os 30 0), p 31 (I (↑v0.length : Int)), p 32 (I v4)] [(27, Ob.arr 2 true i64 v8 0), (30, Ob.arr 121 true y121 v0 0), (1, Ob.box 50 (cellsD false y50 a0))]) (u34J2 v4 g1) (fun v8 H => ?_) (fun _ n2 e2 t2 => ?_)
  ·refine zb tok hT [1, 3, 30, 31, 32] (St.mk [p 1 (AV.ptr 1 0), p 3 (AV.os 27 0), p 30 (AV.os 30 0), p 31 (I (↑v0.length : Int)), p 32 (I (v4 + 1))] [(27, Ob.arr 2 true i64 v8 0), (30, Ob.arr 121 true y121 v0 0), (1, Ob.box 50 (cellsD false y50 a0))]) H (by kernel_rfl) fun H => ?_
   exact b1 H (by kernel_rfl)
  refine vx_block <| ?_
  refine qd tok hT [1, 3, 5, 30, 31, 32] (fun v6 => St.mk [p 1 (AV.ptr 1 0), p 3 (AV.os 27 0), p 5 (AV.ptr 5 0), p 30 (AV.os 30 0), p 31 (I (↑v0.length : Int)), p 32 (I v4)] [(5, Ob.box 121 (cellsD true y121 v6)), (30, Ob.arr 121 true y121 v0 0), (27, Ob.arr 2 true i64 v5 0), (1, Ob.box 50 (cellsD false y50 a0))]) H (by kernel_rfl) fun v6 H => ?_
  refine qa tok hT [1, 3, 5, 30, 31, 32, 38] (St.mk [p 1 (AV.ptr 1 0), p 3 (AV.os 27 0), p 5 (AV.ptr 5 0), p 30 (AV.os 30 0), p 31 (I (↑v0.length : Int)), p 32 (I v4), p 38 (B !v6.2.2.2)] [(5, Ob.box 121 (cellsD true y121 v6)), (30, Ob.arr 121 true y121 v0 0), (27, Ob.arr 2 true i64 v5 0), (1, Ob.box 50 (cellsD false y50 a0))]) (by kernel_rfl) ?_
  refine cd H (by kernel_rfl) (fun H => ?_) (fun H => ?_)
  ·refine zd tok hT [1, 3, 30, 31, 32] (fun v7 => St.mk [p 1 (AV.ptr 1 0), p 3 (AV.os 27 0), p 30 (AV.os 30 0), p 31 (I (↑v0.length : Int)), p 32 (I v4)] [(27, Ob.arr 2 true i64 v7 0), (5, Ob.box 121 (cellsD true y121 v6)), (30, Ob.arr 121 true y121 v0 0), (1, Ob.box 50 (cellsD false y50 a0))]) H (by kernel_rfl) fun v7 H => ?_
   exact fx_blk <| n2 H (by kernel_rfl)
  exact vx_skip <| fx_blk <| n2 H (by kernel_rfl)
 exact vx_exit <| fx_seq_exit <| e1 <| fx_blk_exit rfl <| n0 H (by kernel_rfl)
def u11 (a0 : Y50) (a1 : Y54) : Option (Int) :=
 gd ((u34 a0).isSome = true ∧ True) <| 
 if (!vl (u34 a0)) = true then
  some 1
 else
  gd ((u35 a1 a0).isSome = true ∧ True) <| lt (vl (u35 a1 a0)) fun v0 =>
  some v0
def k11 : Ct := lct 11 [.agg y50, .agg y54] (fun x => u11 x.1 x.2.1) (fun r : Int => I r) (fun _ => ())
theorem o11 : Ok Tryz.prog k11 := by
 refine okl tok [.tmp 4] Tryz.func11 Tryz.ntmps11 rfl Tryz.results11 (by kernel_rfl) rfl ?_
 intro y ⟨a0, a1, _⟩ r H Q hn hr
 have hT := tc o35 (tc o34 tn)
 refine qa tok hT [2, 3] (St.mk [p 2 (AV.ptr 2 0), p 3 (AV.ptr 3 0)] [(3, Ob.box 54 (cellsD false y54 a1)), (2, Ob.box 50 (cellsD false y50 a0))]) (by kernel_rfl) ?_
 refine vx_seq <| ?_
 refine qb tok hT [2, 3, 7] (St.mk [p 2 (AV.ptr 2 0), p 3 (AV.ptr 3 0), p 7 (B !vl (u34 a0))] [(3, Ob.box 54 (cellsD false y54 a1)), (2, Ob.box 50 (cellsD false y50 a0))]) H (by kernel_rfl) fun H => ?_
 refine cd H (by kernel_rfl) (fun H => ?_) (fun H => ?_)
 ·refine qa tok hT [4] (St.mk [p 4 (I 1)] [(3, Ob.box 54 (cellsD false y54 a1)), (2, Ob.box 50 (cellsD false y50 a0))]) (by kernel_rfl) ?_
  exact vx_ret <| fx_seq_ret <| hr H (by kernel_rfl)
 refine vx_skip <| fx_seq <| ?_
 refine qd tok hT [4] (fun v0 => St.mk [p 4 (I v0)] [(3, Ob.box 54 (cellsD false y54 a1)), (2, Ob.box 50 (cellsD false y50 a0))]) H (by kernel_rfl) fun v0 H => ?_
 exact vx_ret <| hr H (by kernel_rfl)
def u61 (a0 : Int) (a1 : Int) (a2 : Int) : Option (Bool) :=
 some (decide (a1 ≤ a0) && decide (a0 ≤ a2))
def k61 : Ct := lct 61 [.dat i64, .dat i64, .dat i64] (fun x => u61 x.1 x.2.1 x.2.2.1) (fun r : Bool => B r) (fun _ => ())
theorem o61 : Ok Tryz.prog k61 := by
 refine okl tok [.tmp 6] Tryz.func61 Tryz.ntmps61 rfl Tryz.results61 (by kernel_rfl) rfl ?_
 intro y ⟨a0, a1, a2, _⟩ r H Q hn hr
 have hT := @tn Tryz.prog
 refine qa tok hT [0, 1, 2] (St.mk [p 0 (J a0), p 1 (J a1), p 2 (J a2)] []) (by kernel_rfl) ?_
 refine qa tok hT [6] (St.mk [p 6 (B (decide (a1 ≤ a0) && decide (a0 ≤ a2)))] []) (by kernel_rfl) ?_
 exact vx_ret <| hr H (by kernel_rfl)
def u58J2 : Unit → Option (Bool)
 | _ =>
 some true
def u58L3 (a0 : Y52) (g3 : Int → Option (Bool)) : Int → Option (Bool)
 | v1 =>
 if (decide (v1 < (↑a0.2.2.2.length : Int))) = true then
  gd (ix v1 a0.2.2.2.length ∧ in64 ((↑a0.1.length : Int) - 1) ∧ (u61 (a0.2.2.2.getD v1.toNat 0) 0 ((↑a0.1.length : Int) - 1)).isSome = true ∧ True) <| 
  if (!vl (u61 (a0.2.2.2.getD v1.toNat 0) 0 ((↑a0.1.length : Int) - 1))) = true then
   some false
  else
   gd (in64 (v1 + 1) ∧ True) <| 
   g3 (v1 + 1)
 else
  u58J2 ()
def u58J0 (a0 : Y52) : Unit → Option (Bool)
 | _ =>
 lp (u58L3 a0) 0
def u58L1 (a0 : Y52) (g1 : Int → Option (Bool)) : Int → Option (Bool)
 | v0 =>
 if (decide (v0 < (↑a0.1.length : Int))) = true then
  gd (ix v0 a0.2.2.1.length ∧ (u61 (a0.2.2.1.getD v0.toNat 0) 0 500).isSome = true ∧ ((!vl (u61 (a0.2.2.1.getD v0.toNat 0) 0 500)) = false ∧ True → ix v0 a0.2.1.length) ∧ ((!vl (u61 (a0.2.2.1.getD v0.toNat 0) 0 500)) = false ∧ True → (u61 (a0.2.1.getD v0.toNat 0) 0 1000).isSome = true) ∧ True) <| 
  if (!vl (u61 (a0.2.2.1.getD v0.toNat 0) 0 500) || !vl (u61 (a0.2.1.getD v0.toNat 0) 0 1000)) = true then
   some false
  else
   gd (((v0 == 0) = true ∧ True → ix v0 a0.1.length) ∧ ((a0.1.getD v0.toNat 0 != -1) = false ∧ (v0 == 0) = true ∧ True → ix v0 a0.2.1.length) ∧ (decide (0 < v0) = true ∧ (v0 == 0 && (a0.1.getD v0.toNat 0 != -1 || a0.2.1.getD v0.toNat 0 != 0)) = false ∧ True → ix v0 a0.1.length) ∧ (decide (0 < v0) = true ∧ (v0 == 0 && (a0.1.getD v0.toNat 0 != -1 || a0.2.1.getD v0.toNat 0 != 0)) = false ∧ True → in64 (v0 - 1)) ∧ (decide (0 < v0) = true ∧ (v0 == 0 && (a0.1.getD v0.toNat 0 != -1 || a0.2.1.getD v0.toNat 0 != 0)) = false ∧ True → (u61 (a0.1.getD v0.toNat 0) 0 (v0 - 1)).isSome = true) ∧ True) <| 
   if (v0 == 0 && (a0.1.getD v0.toNat 0 != -1 || a0.2.1.getD v0.toNat 0 != 0) || decide (0 < v0) && !vl (u61 (a0.1.getD v0.toNat 0) 0 (v0 - 1))) = true then
    some false
   else
    gd (in64 (v0 + 1) ∧ True) <| 
    g1 (v0 + 1)
 else
  u58J0 a0 ()
def u58 (a0 : Y52) (a1 : Int) : Option (Bool) :=
 if (decide ((↑a0.1.length : Int) < 1) || decide (8 < (↑a0.1.length : Int)) || (↑a0.2.1.length : Int) != (↑a0.1.length : Int) || (↑a0.2.2.1.length : Int) != (↑a0.1.length : Int) || (↑a0.2.2.2.length : Int) != a1) = true then
  some false
 else
  lp (u58L1 a0) 0
def k58 : Ct := lct 58 [.agg y52, .dat i64] (fun x => u58 x.1 x.2.1) (fun r : Bool => B r) (fun _ => ())
theorem o58 : Ok Tryz.prog k58 := by
 refine okl tok [.tmp 4] Tryz.func58 Tryz.ntmps58 rfl Tryz.results58 (by kernel_rfl) rfl ?_
 intro y ⟨a0, a1, _⟩ r H Q hn hr
 have hT := tc o61 tn
 refine qa tok hT [1, 2] (St.mk [p 1 (J a1), p 2 (AV.ptr 2 0)] [(2, Ob.box 52 (cellsD false y52 a0))]) (by kernel_rfl) ?_
 refine qa tok hT [1, 2, 5] (St.mk [p 1 (J a1), p 2 (AV.ptr 2 0), p 5 (I (↑a0.1.length : Int))] [(2, Ob.box 52 (cellsD false y52 a0))]) (by kernel_rfl) ?_
 refine vx_seq <| ?_
 refine qa tok hT [2, 5, 37] (St.mk [p 2 (AV.ptr 2 0), p 5 (I (↑a0.1.length : Int)), p 37 (B (decide ((↑a0.1.length : Int) < 1) || decide (8 < (↑a0.1.length : Int)) || (↑a0.2.1.length : Int) != (↑a0.1.length : Int) || (↑a0.2.2.1.length : Int) != (↑a0.1.length : Int) || (↑a0.2.2.2.length : Int) != a1))] [(2, Ob.box 52 (cellsD false y52 a0))]) (by kernel_rfl) ?_
 refine cd H (by kernel_rfl) (fun H => ?_) (fun H => ?_)
 ·refine qa tok hT [4] (St.mk [p 4 (B false)] [(2, Ob.box 52 (cellsD false y52 a0))]) (by kernel_rfl) ?_
  exact vx_ret <| fx_seq_ret <| hr H (by kernel_rfl)
 refine vx_skip <| fx_seq <| ?_
 refine jn r (fun (_ : Unit) => St.mk [p 2 (AV.ptr 2 0), p 5 (I (↑a0.1.length : Int))] [(2, Ob.box 52 (cellsD false y52 a0))]) (u58J0 a0) (fun _ H => ?_) (fun _ n0 e0 t0 => ?_)
 ·refine jn r (fun (_ : Unit) => St.mk [] []) (u58J2) (fun _ H => ?_) (fun _ n2 e2 t2 => ?_)
  ·refine qa tok hT [4] (St.mk [p 4 (B true)] []) (by kernel_rfl) ?_
   exact vx_ret <| hr H (by kernel_rfl)
  refine qa tok hT [2, 5, 7] (St.mk [p 2 (AV.ptr 2 0), p 5 (I (↑a0.1.length : Int)), p 7 (I 0)] [(2, Ob.box 52 (cellsD false y52 a0))]) (by kernel_rfl) ?_
  refine vx_block <| ?_
  refine lx (fun (v1 : Int) => St.mk [p 2 (AV.ptr 2 0), p 5 (I (↑a0.1.length : Int)), p 7 (I v1)] [(2, Ob.box 52 (cellsD false y52 a0))]) 0 H (by kernel_rfl) fun _ g3 b3 e3 t3 v1 H => ?_
  refine vx_seq <| ?_
  refine qa tok hT [2, 5, 7, 96] (St.mk [p 2 (AV.ptr 2 0), p 5 (I (↑a0.1.length : Int)), p 7 (I v1), p 96 (B (decide (v1 < (↑a0.2.2.2.length : Int))))] [(2, Ob.box 52 (cellsD false y52 a0))]) (by kernel_rfl) ?_
  refine cd H (by kernel_rfl) (fun H => ?_) (fun H => ?_)
  ·refine vx_skip <| fx_seq <| vx_seq <| vx_block <| ?_
   refine qb tok hT [2, 5, 7, 107] (St.mk [p 2 (AV.ptr 2 0), p 5 (I (↑a0.1.length : Int)), p 7 (I v1), p 107 (B !vl (u61 (a0.2.2.2.getD v1.toNat 0) 0 ((↑a0.1.length : Int) - 1)))] [(2, Ob.box 52 (cellsD false y52 a0))]) H (by kernel_rfl) fun H => ?_
   refine cd H (by kernel_rfl) (fun H => ?_) (fun H => ?_)
   ·refine qa tok hT [4] (St.mk [p 4 (B false)] [(2, Ob.box 52 (cellsD false y52 a0))]) (by kernel_rfl) ?_
    exact vx_ret <| fx_blk_ret <| fx_seq_ret <| t3 <| fx_blk_ret <| t2 <| hr H (by kernel_rfl)
   refine vx_skip <| fx_blk <| fx_seq <| ?_
   refine zb tok hT [2, 5, 7] (St.mk [p 2 (AV.ptr 2 0), p 5 (I (↑a0.1.length : Int)), p 7 (I (v1 + 1))] [(2, Ob.box 52 (cellsD false y52 a0))]) H (by kernel_rfl) fun H => ?_
   exact b3 H (by kernel_rfl)
  exact vx_exit <| fx_seq_exit <| e3 <| fx_blk_exit rfl <| n2 H (by kernel_rfl)
 refine qa tok hT [2, 5, 6] (St.mk [p 2 (AV.ptr 2 0), p 5 (I (↑a0.1.length : Int)), p 6 (I 0)] [(2, Ob.box 52 (cellsD false y52 a0))]) (by kernel_rfl) ?_
 refine vx_block <| ?_
 refine lx (fun (v0 : Int) => St.mk [p 2 (AV.ptr 2 0), p 5 (I (↑a0.1.length : Int)), p 6 (I v0)] [(2, Ob.box 52 (cellsD false y52 a0))]) 0 H (by kernel_rfl) fun _ g1 b1 e1 t1 v0 H => ?_
 refine vx_seq <| ?_
 refine qa tok hT [2, 5, 6, 40] (St.mk [p 2 (AV.ptr 2 0), p 5 (I (↑a0.1.length : Int)), p 6 (I v0), p 40 (B (decide (v0 < (↑a0.1.length : Int))))] [(2, Ob.box 52 (cellsD false y52 a0))]) (by kernel_rfl) ?_
 refine cd H (by kernel_rfl) (fun H => ?_) (fun H => ?_)
 ·refine vx_skip <| fx_seq <| vx_seq <| vx_block <| vx_seq <| ?_
  refine qb tok hT [2, 5, 6, 51, 52, 53, 54, 55, 56, 57, 58] (St.mk [p 2 (AV.ptr 2 0), p 5 (I (↑a0.1.length : Int)), p 6 (I v0), p 58 (B (!vl (u61 (a0.2.2.1.getD v0.toNat 0) 0 500) || !vl (u61 (a0.2.1.getD v0.toNat 0) 0 1000)))] [(2, Ob.box 52 (cellsD false y52 a0))]) H (by kernel_rfl) fun H => ?_
  refine cd H (by kernel_rfl) (fun H => ?_) (fun H => ?_)
  ·refine qa tok hT [4] (St.mk [p 4 (B false)] [(2, Ob.box 52 (cellsD false y52 a0))]) (by kernel_rfl) ?_
   exact vx_ret <| fx_seq_ret <| fx_blk_ret <| fx_seq_ret <| t1 <| fx_blk_ret <| t0 <| hr H (by kernel_rfl)
  refine vx_skip <| fx_seq <| ?_
  refine qb tok hT [2, 5, 6, 62, 63, 64, 65, 66, 67, 68, 69, 70, 71, 72, 73, 74, 75, 78, 79, 80, 81, 82, 83, 84, 85, 86, 87, 88, 89, 90, 91] (St.mk [p 2 (AV.ptr 2 0), p 5 (I (↑a0.1.length : Int)), p 6 (I v0), p 91 (B (v0 == 0 && (a0.1.getD v0.toNat 0 != -1 || a0.2.1.getD v0.toNat 0 != 0) || decide (0 < v0) && !vl (u61 (a0.1.getD v0.toNat 0) 0 (v0 - 1))))] [(2, Ob.box 52 (cellsD false y52 a0))]) H (by kernel_rfl) fun H => ?_
  refine cd H (by kernel_rfl) (fun H => ?_) (fun H => ?_)
  ·refine qa tok hT [4] (St.mk [p 4 (B false)] [(2, Ob.box 52 (cellsD false y52 a0))]) (by kernel_rfl) ?_
   exact vx_ret <| fx_blk_ret <| fx_seq_ret <| t1 <| fx_blk_ret <| t0 <| hr H (by kernel_rfl)
  refine vx_skip <| fx_blk <| fx_seq <| ?_
  refine zb tok hT [2, 5, 6] (St.mk [p 2 (AV.ptr 2 0), p 5 (I (↑a0.1.length : Int)), p 6 (I (v0 + 1))] [(2, Ob.box 52 (cellsD false y52 a0))]) H (by kernel_rfl) fun H => ?_
  exact b1 H (by kernel_rfl)
 exact vx_exit <| fx_seq_exit <| e1 <| fx_blk_exit rfl <| n0 H (by kernel_rfl)
def u60J4 : List Y102 → Option (List Y102)
 | v25 =>
 some v25
def u60L5 (a0 : Y47) (g5 : Int × List Y102 → Option (List Y102)) : Int × List Y102 → Option (List Y102)
 | (v21, v22) =>
 if (decide (v21 < (↑a0.2.2.length : Int))) = true then
  gd (ix v21 a0.2.2.length ∧ ix v21 a0.2.2.length ∧ (v22.length + [(-1, v21, (a0.2.2.getD v21.toNat (dflt y144)).2.2, (a0.2.2.getD v21.toNat (dflt y144)).2.1 == 1)].length ≤ 9223372036854775807 ∧ (v22.length + [(-1, v21, (a0.2.2.getD v21.toNat (dflt y144)).2.2, (a0.2.2.getD v21.toNat (dflt y144)).2.1 == 1)].length) * 32 ≤ 140737488355328) ∧ True) <| lt ((v22 ++ [(-1, v21, (a0.2.2.getD v21.toNat (dflt y144)).2.2, (a0.2.2.getD v21.toNat (dflt y144)).2.1 == 1)], [(-1, v21, (a0.2.2.getD v21.toNat (dflt y144)).2.2, (a0.2.2.getD v21.toNat (dflt y144)).2.1 == 1)])) fun (v23, v24) =>
  gd (in64 (v21 + 1) ∧ True) <| 
  g5 (v21 + 1, v23)
 else
  u60J4 v22
def u60J0 (a0 : Y47) : List Y102 → Option (List Y102)
 | v18 =>
 lp (u60L5 a0) (0, v18)
def u60J2 (v8 : Int) (g1 : Int × List Y102 → Option (List Y102)) : List Y102 → Option (List Y102)
 | v17 =>
 gd (in64 (v8 + 1) ∧ True) <| 
 g1 (v8 + 1, v17)
def u60L3 (v8 : Int) (v10 : Y109) (g1 : Int × List Y102 → Option (List Y102)) (g3 : Int × List Y102 → Option (List Y102)) : Int × List Y102 → Option (List Y102)
 | (v13, v14) =>
 if (decide (v13 < (↑v10.2.2.length : Int))) = true then
  gd (ix v13 v10.2.2.length ∧ in64 ((↑v10.2.2.length : Int) - 1) ∧ (v14.length + [(v8, v13, v10.2.2.getD v13.toNat 0, v13 == (↑v10.2.2.length : Int) - 1)].length ≤ 9223372036854775807 ∧ (v14.length + [(v8, v13, v10.2.2.getD v13.toNat 0, v13 == (↑v10.2.2.length : Int) - 1)].length) * 32 ≤ 140737488355328) ∧ True) <| lt ((v14 ++ [(v8, v13, v10.2.2.getD v13.toNat 0, v13 == (↑v10.2.2.length : Int) - 1)], [(v8, v13, v10.2.2.getD v13.toNat 0, v13 == (↑v10.2.2.length : Int) - 1)])) fun (v15, v16) =>
  gd (in64 (v13 + 1) ∧ True) <| 
  g3 (v13 + 1, v15)
 else
  u60J2 v8 g1 v14
def u60L1 (a0 : Y47) (g1 : Int × List Y102 → Option (List Y102)) : Int × List Y102 → Option (List Y102)
 | (v8, v9) =>
 if (decide (v8 < (↑a0.1.length : Int))) = true then
  gd (ix v8 a0.1.length ∧ True) <| lt (a0.1.getD v8.toNat (dflt y109)) fun v10 =>
  lp (u60L3 v8 v10 g1) (0, v9)
 else
  u60J0 a0 v9
def u60 (a0 : Y47) : Option (List Y102) :=
 lp (u60L1 a0) (0, [])
def k60 : Ct := lct 60 [.agg y47] (fun x => u60 x.1) (fun r : List Y102 => AV.ow 102 true y102 r) (fun _ => ())
theorem o60 : Ok Tryz.prog k60 := by
 refine okl tok [.tmp 2] Tryz.func60 Tryz.ntmps60 rfl Tryz.results60 (by kernel_rfl) rfl ?_
 intro y ⟨a0, _⟩ r H Q hn hr
 have hT := @tn Tryz.prog
 refine qa tok hT [1] (St.mk [p 1 (AV.ptr 1 0)] [(1, Ob.box 47 (cellsD false y47 a0))]) (by kernel_rfl) ?_
 refine qa tok hT [1, 3] (St.mk [p 1 (AV.ptr 1 0), p 3 (AV.os 8 0)] [(8, Ob.arr 102 true y102 [] 0), (1, Ob.box 47 (cellsD false y47 a0))]) (by kernel_rfl) ?_
 refine jn r (fun (v18 : List Y102) => St.mk [p 1 (AV.ptr 1 0), p 3 (AV.os 8 0)] [(8, Ob.arr 102 true y102 v18 0), (1, Ob.box 47 (cellsD false y47 a0))]) (u60J0 a0) (fun v18 H => ?_) (fun _ n0 e0 t0 => ?_)
 ·refine jn r (fun (v25 : List Y102) => St.mk [p 3 (AV.os 8 0)] [(8, Ob.arr 102 true y102 v25 0)]) (u60J4) (fun v25 H => ?_) (fun _ n4 e4 t4 => ?_)
  ·refine qa tok hT [2] (St.mk [p 2 (AV.os 8 0)] [(8, Ob.arr 102 true y102 v25 0)]) (by kernel_rfl) ?_
   exact vx_ret <| hr H (by kernel_rfl)
  refine qa tok hT [1, 3, 7] (St.mk [p 1 (AV.ptr 1 0), p 3 (AV.os 8 0), p 7 (I 0)] [(8, Ob.arr 102 true y102 v18 0), (1, Ob.box 47 (cellsD false y47 a0))]) (by kernel_rfl) ?_
  refine vx_block <| ?_
  refine lx (fun ((v21, v22) : Int × List Y102) => St.mk [p 1 (AV.ptr 1 0), p 3 (AV.os 8 0), p 7 (I v21)] [(8, Ob.arr 102 true y102 v22 0), (1, Ob.box 47 (cellsD false y47 a0))]) (0, v18) H (by kernel_rfl) fun _ g5 b5 e5 t5 ⟨v21, v22⟩ H => ?_
  refine vx_seq <| ?_
  refine qa tok hT [1, 3, 7, 47] (St.mk [p 1 (AV.ptr 1 0), p 3 (AV.os 8 0), p 7 (I v21), p 47 (B (decide (v21 < (↑a0.2.2.length : Int))))] [(8, Ob.arr 102 true y102 v22 0), (1, Ob.box 47 (cellsD false y47 a0))]) (by kernel_rfl) ?_
  refine cd H (by kernel_rfl) (fun H => ?_) (fun H => ?_)
  ·refine vx_skip <| fx_seq <| vx_seq <| vx_block <| ?_
   refine zd tok hT [1, 3, 7] (fun (v23, v24) => St.mk [p 1 (AV.ptr 1 0), p 3 (AV.os 8 1), p 7 (I v21)] [(8, Ob.arr 102 true y102 v23 1), (66, Ob.arr 102 true y102 v24 0), (1, Ob.box 47 (cellsD false y47 a0))]) H (by kernel_rfl) fun ⟨v23, v24⟩ H => ?_
   refine fx_blk <| fx_seq <| ?_
   refine zb tok hT [1, 3, 7] (St.mk [p 1 (AV.ptr 1 0), p 3 (AV.os 8 1), p 7 (I (v21 + 1))] [(8, Ob.arr 102 true y102 v23 1), (66, Ob.arr 102 true y102 v24 0), (1, Ob.box 47 (cellsD false y47 a0))]) H (by kernel_rfl) fun H => ?_
   exact b5 H (by kernel_rfl)
  exact vx_exit <| fx_seq_exit <| e5 <| fx_blk_exit rfl <| n4 H (by kernel_rfl)
 refine qa tok hT [1, 3, 4] (St.mk [p 1 (AV.ptr 1 0), p 3 (AV.os 8 0), p 4 (I 0)] [(8, Ob.arr 102 true y102 [] 0), (1, Ob.box 47 (cellsD false y47 a0))]) (by kernel_rfl) ?_
 refine vx_block <| ?_
 refine lx (fun ((v8, v9) : Int × List Y102) => St.mk [p 1 (AV.ptr 1 0), p 3 (AV.os 8 0), p 4 (I v8)] [(8, Ob.arr 102 true y102 v9 0), (1, Ob.box 47 (cellsD false y47 a0))]) (0, []) H (by kernel_rfl) fun _ g1 b1 e1 t1 ⟨v8, v9⟩ H => ?_
 refine vx_seq <| ?_
 refine qa tok hT [1, 3, 4, 13] (St.mk [p 1 (AV.ptr 1 0), p 3 (AV.os 8 0), p 4 (I v8), p 13 (B (decide (v8 < (↑a0.1.length : Int))))] [(8, Ob.arr 102 true y102 v9 0), (1, Ob.box 47 (cellsD false y47 a0))]) (by kernel_rfl) ?_
 refine cd H (by kernel_rfl) (fun H => ?_) (fun H => ?_)
 ·refine vx_skip <| fx_seq <| ?_
  refine jn r (fun (v17 : List Y102) => St.mk [p 1 (AV.ptr 1 0), p 3 (AV.os 8 0), p 4 (I v8)] [(8, Ob.arr 102 true y102 v17 0), (1, Ob.box 47 (cellsD false y47 a0))]) (u60J2 v8 g1) (fun v17 H => ?_) (fun _ n2 e2 t2 => ?_)
  ·refine zb tok hT [1, 3, 4] (St.mk [p 1 (AV.ptr 1 0), p 3 (AV.os 8 0), p 4 (I (v8 + 1))] [(8, Ob.arr 102 true y102 v17 0), (1, Ob.box 47 (cellsD false y47 a0))]) H (by kernel_rfl) fun H => ?_
   exact b1 H (by kernel_rfl)
  refine vx_block <| ?_
  refine qd tok hT [1, 3, 4, 5] (fun v10 => St.mk [p 1 (AV.ptr 1 0), p 3 (AV.os 8 0), p 4 (I v8), p 5 (L i64 v10.2.2)] [(8, Ob.arr 102 true y102 v9 0), (1, Ob.box 47 (cellsD false y47 a0))]) H (by kernel_rfl) fun v10 H => ?_
  refine qa tok hT [1, 3, 4, 5, 6] (St.mk [p 1 (AV.ptr 1 0), p 3 (AV.os 8 0), p 4 (I v8), p 5 (L i64 v10.2.2), p 6 (I 0)] [(8, Ob.arr 102 true y102 v9 0), (1, Ob.box 47 (cellsD false y47 a0))]) (by kernel_rfl) ?_
  refine vx_block <| ?_
  refine lx (fun ((v13, v14) : Int × List Y102) => St.mk [p 1 (AV.ptr 1 0), p 3 (AV.os 8 0), p 4 (I v8), p 5 (L i64 v10.2.2), p 6 (I v13)] [(8, Ob.arr 102 true y102 v14 0), (1, Ob.box 47 (cellsD false y47 a0))]) (0, v9) H (by kernel_rfl) fun _ g3 b3 e3 t3 ⟨v13, v14⟩ H => ?_
  refine vx_seq <| ?_
  refine qa tok hT [1, 3, 4, 5, 6, 25] (St.mk [p 1 (AV.ptr 1 0), p 3 (AV.os 8 0), p 4 (I v8), p 5 (L i64 v10.2.2), p 6 (I v13), p 25 (B (decide (v13 < (↑v10.2.2.length : Int))))] [(8, Ob.arr 102 true y102 v14 0), (1, Ob.box 47 (cellsD false y47 a0))]) (by kernel_rfl) ?_
  refine cd H (by kernel_rfl) (fun H => ?_) (fun H => ?_)
  ·refine vx_skip <| fx_seq <| vx_seq <| vx_block <| ?_
   refine zd tok hT [1, 3, 4, 5, 6] (fun (v15, v16) => St.mk [p 1 (AV.ptr 1 0), p 3 (AV.os 8 1), p 4 (I v8), p 5 (L i64 v10.2.2), p 6 (I v13)] [(8, Ob.arr 102 true y102 v15 1), (41, Ob.arr 102 true y102 v16 0), (1, Ob.box 47 (cellsD false y47 a0))]) H (by kernel_rfl) fun ⟨v15, v16⟩ H => ?_
   refine fx_blk <| fx_seq <| ?_
   refine zb tok hT [1, 3, 4, 5, 6] (St.mk [p 1 (AV.ptr 1 0), p 3 (AV.os 8 1), p 4 (I v8), p 5 (L i64 v10.2.2), p 6 (I (v13 + 1))] [(8, Ob.arr 102 true y102 v15 1), (41, Ob.arr 102 true y102 v16 0), (1, Ob.box 47 (cellsD false y47 a0))]) H (by kernel_rfl) fun H => ?_
   exact b3 H (by kernel_rfl)
  exact vx_exit <| fx_seq_exit <| e3 <| fx_blk_exit rfl <| fx_blk <| n2 H (by kernel_rfl)
 exact vx_exit <| fx_seq_exit <| e1 <| fx_blk_exit rfl <| n0 H (by kernel_rfl)
def u59J0 : List Int → Option (List Int)
 | v5 =>
 some v5
def u59J2 (v2 : Int) (g1 : Int × List Int → Option (List Int)) : List Int → Option (List Int)
 | v4 =>
 gd (in64 (v2 + 1) ∧ True) <| 
 g1 (v2 + 1, v4)
def u59L1 (v0 : List Y102) (a1 : Int) (g1 : Int × List Int → Option (List Int)) : Int × List Int → Option (List Int)
 | (v2, v3) =>
 if (decide (v2 < (↑v0.length : Int))) = true then
  gd (ix v2 v0.length ∧ v2.toNat < v0.length ∧ (((v0.getD v2.toNat (dflt y102)).2.2.1 == a1) = true ∧ True → ix v2 v0.length) ∧ (((v0.getD v2.toNat (dflt y102)).2.2.1 == a1) = true ∧ True → v2.toNat < v0.length) ∧ True) <| 
  if ((v0.getD v2.toNat (dflt y102)).2.2.1 == a1 && !(v0.getD v2.toNat (dflt y102)).2.2.2) = true then
   gd ((v3.length + [v2].length ≤ 9223372036854775807 ∧ (v3.length + [v2].length) * 8 ≤ 140737488355328) ∧ True) <| 
   u59J2 v2 g1 (v3 ++ [v2])
  else
   u59J2 v2 g1 v3
 else
  u59J0 v3
def u59 (a0 : Y47) (a1 : Int) : Option (List Int) :=
 gd ((u60 a0).isSome = true ∧ True) <| lt (vl (u60 a0)) fun v0 =>
 lp (u59L1 v0 a1) (0, [])
def k59 : Ct := lct 59 [.agg y47, .dat i64] (fun x => u59 x.1 x.2.1) (fun r : List Int => AV.ow 2 true i64 r) (fun _ => ())
theorem o59 : Ok Tryz.prog k59 := by
 refine okl tok [.tmp 4] Tryz.func59 Tryz.ntmps59 rfl Tryz.results59 (by kernel_rfl) rfl ?_
 intro y ⟨a0, a1, _⟩ r H Q hn hr
 have hT := tc o60 tn
 refine qa tok hT [1, 2] (St.mk [p 1 (J a1), p 2 (AV.ptr 2 0)] [(2, Ob.box 47 (cellsD false y47 a0))]) (by kernel_rfl) ?_
 refine qa tok hT [1, 2, 5] (St.mk [p 1 (J a1), p 2 (AV.ptr 2 0), p 5 (AV.os 8 0)] [(8, Ob.arr 2 true i64 [] 0), (2, Ob.box 47 (cellsD false y47 a0))]) (by kernel_rfl) ?_
 refine qd tok hT [1, 5, 6] (fun v0 => St.mk [p 1 (J a1), p 5 (AV.os 8 0), p 6 (AV.os 10 0)] [(10, Ob.arr 102 true y102 v0 0), (8, Ob.arr 2 true i64 [] 0), (2, Ob.box 47 (cellsD false y47 a0))]) H (by kernel_rfl) fun v0 H => ?_
 refine jn r (fun (v5 : List Int) => St.mk [p 5 (AV.os 8 0)] [(8, Ob.arr 2 true i64 v5 0)]) (u59J0) (fun v5 H => ?_) (fun _ n0 e0 t0 => ?_)
 ·refine qa tok hT [4] (St.mk [p 4 (AV.os 8 0)] [(8, Ob.arr 2 true i64 v5 0)]) (by kernel_rfl) ?_
  exact vx_ret <| hr H (by kernel_rfl)
 refine qa tok hT [1, 5, 6, 7] (St.mk [p 1 (J a1), p 5 (AV.os 8 0), p 6 (AV.os 10 0), p 7 (I 0)] [(10, Ob.arr 102 true y102 v0 0), (8, Ob.arr 2 true i64 [] 0), (2, Ob.box 47 (cellsD false y47 a0))]) (by kernel_rfl) ?_
 refine vx_block <| ?_
 refine lx (fun ((v2, v3) : Int × List Int) => St.mk [p 1 (J a1), p 5 (AV.os 8 0), p 6 (AV.os 10 0), p 7 (I v2)] [(10, Ob.arr 102 true y102 v0 0), (8, Ob.arr 2 true i64 v3 0)]) (0, []) H (by kernel_rfl) fun _ g1 b1 e1 t1 ⟨v2, v3⟩ H => ?_
 refine vx_seq <| ?_
 refine qa tok hT [1, 5, 6, 7, 14] (St.mk [p 1 (J a1), p 5 (AV.os 8 0), p 6 (AV.os 10 0), p 7 (I v2), p 14 (B (decide (v2 < (↑v0.length : Int))))] [(10, Ob.arr 102 true y102 v0 0), (8, Ob.arr 2 true i64 v3 0)]) (by kernel_rfl) ?_
 refine cd H (by kernel_rfl) (fun H => ?_) (fun H => ?_)
 ·refine vx_skip <| fx_seq <| ?_
  refine jn r (fun (v4 : List Int) => St.mk [p 1 (J a1), p 5 (AV.os 8 0), p 6 (AV.os 10 0), p 7 (I v2)] [(8, Ob.arr 2 true i64 v4 0), (10, Ob.arr 102 true y102 v0 0)]) (u59J2 v2 g1) (fun v4 H => ?_) (fun _ n2 e2 t2 => ?_)
  ·refine zb tok hT [1, 5, 6, 7] (St.mk [p 1 (J a1), p 5 (AV.os 8 0), p 6 (AV.os 10 0), p 7 (I (v2 + 1))] [(8, Ob.arr 2 true i64 v4 0), (10, Ob.arr 102 true y102 v0 0)]) H (by kernel_rfl) fun H => ?_
   exact b1 H (by kernel_rfl)
  refine vx_block <| ?_
  refine qb tok hT [1, 5, 6, 7, 25, 26, 27, 28, 29, 30, 31] (St.mk [p 1 (J a1), p 5 (AV.os 8 0), p 6 (AV.os 10 0), p 7 (I v2), p 31 (B ((v0.getD v2.toNat (dflt y102)).2.2.1 == a1 && !(v0.getD v2.toNat (dflt y102)).2.2.2))] [(10, Ob.arr 102 true y102 v0 0), (8, Ob.arr 2 true i64 v3 0)]) H (by kernel_rfl) fun H => ?_
  refine cd H (by kernel_rfl) (fun H => ?_) (fun H => ?_)
  ·refine zb tok hT [1, 5, 6, 7] (St.mk [p 1 (J a1), p 5 (AV.os 8 1), p 6 (AV.os 10 0), p 7 (I v2)] [(8, Ob.arr 2 true i64 (v3 ++ [v2]) 1), (34, Ob.arr 2 true i64 [v2] 0), (10, Ob.arr 102 true y102 v0 0)]) H (by kernel_rfl) fun H => ?_
   exact fx_blk <| n2 H (by kernel_rfl)
  exact vx_skip <| fx_blk <| n2 H (by kernel_rfl)
 exact vx_exit <| fx_seq_exit <| e1 <| fx_blk_exit rfl <| n0 H (by kernel_rfl)
def u101 (a0 : Y52) : Option (Bool) :=
 gd ((((↑a0.1.length : Int) == 1) = true ∧ True → ix 0 a0.2.2.1.length) ∧ True) <| 
 some ((↑a0.1.length : Int) == (1 : Int) && a0.2.2.1.getD (Int.toNat (0 : Int)) (0 : Int) == (0 : Int))
def k101 : Ct := lct 101 [.agg y52] (fun x => u101 x.1) (fun r : Bool => B r) (fun _ => ())
theorem o101 : Ok Tryz.prog k101 := by
 refine okl tok [.tmp 2] Tryz.func101 Tryz.ntmps101 rfl Tryz.results101 (by kernel_rfl) rfl ?_
 intro y ⟨a0, _⟩ r H Q hn hr
 have hT := @tn Tryz.prog
 refine qa tok hT [1] (St.mk [p 1 (AV.ptr 1 0)] [(1, Ob.box 52 (cellsD false y52 a0))]) (by kernel_rfl) ?_
 refine qb tok hT [2] (St.mk [p (2 : Nat) (B ((↑a0.1.length : Int) == (1 : Int) && a0.2.2.1.getD (Int.toNat (0 : Int)) (0 : Int) == (0 : Int)))] [((1 : Nat), Ob.box (nat_lit 52) (cellsD false y52 a0))]) H (by kernel_rfl) fun H => ?_
 exact vx_ret <| hr H (by kernel_rfl)
def u63 (a0 : Y107) : Option (Bool) :=
 some (a0.2.1 == 1 && (↑a0.2.2.1.length : Int) == 2)
def k63 : Ct := lct 63 [.agg y107] (fun x => u63 x.1) (fun r : Bool => B r) (fun _ => ())
theorem o63 : Ok Tryz.prog k63 := by
 refine okl tok [.tmp 2] Tryz.func63 Tryz.ntmps63 rfl Tryz.results63 (by kernel_rfl) rfl ?_
 intro y ⟨a0, _⟩ r H Q hn hr
 have hT := @tn Tryz.prog
 refine qa tok hT [1] (St.mk [p 1 (AV.ptr 1 0)] [(1, Ob.box 107 (cellsD false y107 a0))]) (by kernel_rfl) ?_
 refine qa tok hT [2] (St.mk [p 2 (B (a0.2.1 == 1 && (↑a0.2.2.1.length : Int) == 2))] [(1, Ob.box 107 (cellsD false y107 a0))]) (by kernel_rfl) ?_
 exact vx_ret <| hr H (by kernel_rfl)
def u67 (a0 : Y50) : Option (Bool) :=
 gd (in64 ((↑a0.2.1.1.length : Int) - 1) ∧ True) <| 
 gd (in64 ((↑a0.2.2.length : Int) - 1) ∧ True) <| 
 if (decide ((↑a0.2.1.1.length : Int) - 1 < 0)) = true then
  some false
 else
  gd (ix ((↑a0.2.1.1.length : Int) - 1) a0.2.1.1.length ∧ True) <| lt (a0.2.1.1.getD ((↑a0.2.1.1.length : Int) - 1).toNat (dflt y109)) fun v0 =>
  gd (ix v0.2.1 a0.1.length ∧ (u63 (a0.1.getD v0.2.1.toNat (dflt y107))).isSome = true ∧ ((!vl (u63 (a0.1.getD v0.2.1.toNat (dflt y107)))) = false ∧ True → ix (1 : Int) v0.2.2.length) ∧ ((!vl (u63 (a0.1.getD v0.2.1.toNat (dflt y107))) || v0.2.2.getD (Int.toNat (1 : Int)) (0 : Int) != (↑a0.2.2.length : Int) - (1 : Int)) = false ∧ True → ix ((↑a0.2.2.length : Int) - (1 : Int)) a0.2.1.2.1.length) ∧ ((!vl (u63 (a0.1.getD v0.2.1.toNat (dflt y107))) || v0.2.2.getD (Int.toNat (1 : Int)) (0 : Int) != (↑a0.2.2.length : Int) - (1 : Int) || !decide (a0.2.1.2.1.getD ((↑a0.2.2.length : Int) - (1 : Int)).toNat (dflt Ty.str) = v0.1)) = false ∧ True → ix (0 : Int) v0.2.2.length) ∧ True) <| lt (!vl (u63 (a0.1.getD v0.2.1.toNat (dflt y107))) || v0.2.2.getD (Int.toNat (1 : Int)) (0 : Int) != (↑a0.2.2.length : Int) - (1 : Int) || !decide (a0.2.1.2.1.getD ((↑a0.2.2.length : Int) - (1 : Int)).toNat (dflt Ty.str) = v0.1) || v0.2.2.getD (Int.toNat (0 : Int)) (0 : Int) == (↑a0.2.2.length : Int) - (1 : Int)) fun v1 =>
  if v1 = true then
   some false
  else
   gd ((u59 a0.2.1 ((↑a0.2.2.length : Int) - 1)).isSome = true ∧ (((↑(vl (u59 a0.2.1 ((↑a0.2.2.length : Int) - 1))).length : Int) == 1) = true ∧ True → ix ((↑a0.2.2.length : Int) - 1) a0.2.2.length) ∧ (((↑(vl (u59 a0.2.1 ((↑a0.2.2.length : Int) - 1))).length : Int) == 1) = true ∧ True → (u101 (a0.2.2.getD ((↑a0.2.2.length : Int) - 1).toNat (dflt y52))).isSome = true) ∧ True) <| lt (vl (u59 a0.2.1 ((↑a0.2.2.length : Int) - 1))) fun v2 =>
   some ((↑v2.length : Int) == 1 && vl (u101 (a0.2.2.getD ((↑a0.2.2.length : Int) - 1).toNat (dflt y52))))
def k67 : Ct := lct 67 [.agg y50] (fun x => u67 x.1) (fun r : Bool => B r) (fun _ => ())
theorem o67 : Ok Tryz.prog k67 := by
 refine okl tok [.tmp 2] Tryz.func67 Tryz.ntmps67 rfl Tryz.results67 (by kernel_rfl) rfl ?_
 intro y ⟨a0, _⟩ r H Q hn hr
 have hT := tc o101 (tc o59 (tc o63 tn))
 refine qa tok hT [1] (St.mk [p 1 (AV.ptr 1 0)] [(1, Ob.box 50 (cellsD false y50 a0))]) (by kernel_rfl) ?_
 refine qb tok hT [1, 3] (St.mk [p 1 (AV.ptr 1 0), p 3 (I ((↑a0.2.1.1.length : Int) - 1))] [(1, Ob.box 50 (cellsD false y50 a0))]) H (by kernel_rfl) fun H => ?_
 refine qb tok hT [1, 3, 4] (St.mk [p 1 (AV.ptr 1 0), p 3 (I ((↑a0.2.1.1.length : Int) - 1)), p 4 (I ((↑a0.2.2.length : Int) - 1))] [(1, Ob.box 50 (cellsD false y50 a0))]) H (by kernel_rfl) fun H => ?_
 refine vx_seq <| ?_
 refine qa tok hT [1, 3, 4, 16] (St.mk [p 1 (AV.ptr 1 0), p 3 (I ((↑a0.2.1.1.length : Int) - 1)), p 4 (I ((↑a0.2.2.length : Int) - 1)), p 16 (B (decide ((↑a0.2.1.1.length : Int) - 1 < 0)))] [(1, Ob.box 50 (cellsD false y50 a0))]) (by kernel_rfl) ?_
 refine cd H (by kernel_rfl) (fun H => ?_) (fun H => ?_)
 ·refine qa tok hT [2] (St.mk [p 2 (B false)] [(1, Ob.box 50 (cellsD false y50 a0))]) (by kernel_rfl) ?_
  exact vx_ret <| fx_seq_ret <| hr H (by kernel_rfl)
 refine vx_skip <| fx_seq <| ?_
 refine qd tok hT [1, 4, 5] (fun v0 => St.mk [p 1 (AV.ptr 1 0), p 4 (I ((↑a0.2.2.length : Int) - 1)), p 5 (AV.ptr 5 0)] [(5, Ob.box 109 (cellsD false y109 v0)), (1, Ob.box 50 (cellsD false y50 a0))]) H (by kernel_rfl) fun v0 H => ?_
 refine vx_seq <| ?_
 refine qd tok hT [1, 4, 58] (fun v1 => St.mk [p 1 (AV.ptr 1 0), p 4 (I ((↑a0.2.2.length : Int) - 1)), p 58 (B v1)] [(5, Ob.box 109 (cellsD false y109 v0)), (1, Ob.box 50 (cellsD false y50 a0))]) H (by kernel_rfl) fun v1 H => ?_
 refine cd H (by kernel_rfl) (fun H => ?_) (fun H => ?_)
 ·refine qa tok hT [2] (St.mk [p 2 (B false)] [(5, Ob.box 109 (cellsD false y109 v0)), (1, Ob.box 50 (cellsD false y50 a0))]) (by kernel_rfl) ?_
  exact vx_ret <| fx_seq_ret <| hr H (by kernel_rfl)
 refine vx_skip <| fx_seq <| ?_
 refine qd tok hT [2] (fun v2 => St.mk [p 2 (B ((↑v2.length : Int) == 1 && vl (u101 (a0.2.2.getD ((↑a0.2.2.length : Int) - 1).toNat (dflt y52)))))] [(62, Ob.arr 2 true i64 v2 0), (5, Ob.box 109 (cellsD false y109 v0)), (1, Ob.box 50 (cellsD false y50 a0))]) H (by kernel_rfl) fun v2 H => ?_
 exact vx_ret <| hr H (by kernel_rfl)
def u100J0 : Unit → Option (Int)
 | _ =>
 some (-1)
def u100L1 (a0 : List ByteArray) (a1 : ByteArray) (g1 : Int → Option (Int)) : Int → Option (Int)
 | v0 =>
 if (decide (v0 < (↑a0.length : Int))) = true then
  gd (ix v0 a0.length ∧ True) <| 
  if (decide (a0.getD v0.toNat (dflt Ty.str) = a1)) = true then
   some v0
  else
   gd (in64 (v0 + 1) ∧ True) <| 
   g1 (v0 + 1)
 else
  u100J0 ()
def u100 (a0 : List ByteArray) (a1 : ByteArray) : Option (Int) :=
 lp (u100L1 a0 a1) 0
def k100 : Ct := lct 100 [.dat Ty.str.sl, .dat Ty.str] (fun x => u100 x.1 x.2.1) (fun r : Int => I r) (fun _ => ())
theorem o100 : Ok Tryz.prog k100 := by
 refine okl tok [.tmp 4] Tryz.func100 Tryz.ntmps100 rfl Tryz.results100 (by kernel_rfl) rfl ?_
 intro y ⟨a0, a1, _⟩ r H Q hn hr
 have hT := @tn Tryz.prog
 refine qa tok hT [0, 1] (St.mk [p 0 (L Ty.str a0), p 1 (U a1)] []) (by kernel_rfl) ?_
 refine jn r (fun (_ : Unit) => St.mk [] []) (u100J0) (fun _ H => ?_) (fun _ n0 e0 t0 => ?_)
 ·refine qa tok hT [4] (St.mk [p 4 (I (-1))] []) (by kernel_rfl) ?_
  exact vx_ret <| hr H (by kernel_rfl)
 refine qa tok hT [0, 1, 5] (St.mk [p 0 (L Ty.str a0), p 1 (U a1), p 5 (I 0)] []) (by kernel_rfl) ?_
 refine vx_block <| ?_
 refine lx (fun (v0 : Int) => St.mk [p 0 (L Ty.str a0), p 1 (U a1), p 5 (I v0)] []) 0 H (by kernel_rfl) fun _ g1 b1 e1 t1 v0 H => ?_
 refine vx_seq <| ?_
 refine qa tok hT [0, 1, 5, 9] (St.mk [p 0 (L Ty.str a0), p 1 (U a1), p 5 (I v0), p 9 (B (decide (v0 < (↑a0.length : Int))))] []) (by kernel_rfl) ?_
 refine cd H (by kernel_rfl) (fun H => ?_) (fun H => ?_)
 ·refine vx_skip <| fx_seq <| vx_seq <| vx_block <| ?_
  refine qb tok hT [0, 1, 5, 17] (St.mk [p 0 (L Ty.str a0), p 1 (U a1), p 5 (I v0), p 17 (B (decide (a0.getD v0.toNat (dflt Ty.str) = a1)))] []) H (by kernel_rfl) fun H => ?_
  refine cd H (by kernel_rfl) (fun H => ?_) (fun H => ?_)
  ·refine qa tok hT [4] (St.mk [p 4 (I v0)] []) (by kernel_rfl) ?_
   exact vx_ret <| fx_blk_ret <| fx_seq_ret <| t1 <| fx_blk_ret <| t0 <| hr H (by kernel_rfl)
  refine vx_skip <| fx_blk <| fx_seq <| ?_
  refine zb tok hT [0, 1, 5] (St.mk [p 0 (L Ty.str a0), p 1 (U a1), p 5 (I (v0 + 1))] []) H (by kernel_rfl) fun H => ?_
  exact b1 H (by kernel_rfl)
 exact vx_exit <| fx_seq_exit <| e1 <| fx_blk_exit rfl <| n0 H (by kernel_rfl)
def u66 (a0 : Y47) (a1 : ByteArray) : Option (Int) :=
 gd ((u100 a0.2.1 a1).isSome = true ∧ True) <| lt (vl (u100 a0.2.1 a1)) fun v0 =>
 some v0
def k66 : Ct := lct 66 [.agg y47, .dat Ty.str] (fun x => u66 x.1 x.2.1) (fun r : Int => I r) (fun _ => ())
theorem o66 : Ok Tryz.prog k66 := by
 refine okl tok [.tmp 4] Tryz.func66 Tryz.ntmps66 rfl Tryz.results66 (by kernel_rfl) rfl ?_
 intro y ⟨a0, a1, _⟩ r H Q hn hr
 have hT := tc o100 tn
 refine qa tok hT [1, 2] (St.mk [p 1 (U a1), p 2 (AV.ptr 2 0)] [(2, Ob.box 47 (cellsD false y47 a0))]) (by kernel_rfl) ?_
 refine qd tok hT [4] (fun v0 => St.mk [p 4 (I v0)] [(2, Ob.box 47 (cellsD false y47 a0))]) H (by kernel_rfl) fun v0 H => ?_
 exact vx_ret <| hr H (by kernel_rfl)
def u65J0 : Unit → Option (Int)
 | _ =>
 some (-1)
def u65L1 (a0 : Y47) (a1 : ByteArray) (g1 : Int → Option (Int)) : Int → Option (Int)
 | v0 =>
 if (decide (v0 < (↑a0.1.length : Int))) = true then
  gd (ix v0 a0.1.length ∧ True) <| 
  if (decide ((a0.1.getD v0.toNat (dflt y109)).1 = a1)) = true then
   some v0
  else
   gd (in64 (v0 + 1) ∧ True) <| 
   g1 (v0 + 1)
 else
  u65J0 ()
def u65 (a0 : Y47) (a1 : ByteArray) : Option (Int) :=
 lp (u65L1 a0 a1) 0
def k65 : Ct := lct 65 [.agg y47, .dat Ty.str] (fun x => u65 x.1 x.2.1) (fun r : Int => I r) (fun _ => ())
theorem o65 : Ok Tryz.prog k65 := by
 refine okl tok [.tmp 4] Tryz.func65 Tryz.ntmps65 rfl Tryz.results65 (by kernel_rfl) rfl ?_
 intro y ⟨a0, a1, _⟩ r H Q hn hr
 have hT := @tn Tryz.prog
 refine qa tok hT [1, 2] (St.mk [p 1 (U a1), p 2 (AV.ptr 2 0)] [(2, Ob.box 47 (cellsD false y47 a0))]) (by kernel_rfl) ?_
 refine jn r (fun (_ : Unit) => St.mk [] []) (u65J0) (fun _ H => ?_) (fun _ n0 e0 t0 => ?_)
 ·refine qa tok hT [4] (St.mk [p 4 (I (-1))] []) (by kernel_rfl) ?_
  exact vx_ret <| hr H (by kernel_rfl)
 refine qa tok hT [1, 2, 5] (St.mk [p 1 (U a1), p 2 (AV.ptr 2 0), p 5 (I 0)] [(2, Ob.box 47 (cellsD false y47 a0))]) (by kernel_rfl) ?_
 refine vx_block <| ?_
 refine lx (fun (v0 : Int) => St.mk [p 1 (U a1), p 2 (AV.ptr 2 0), p 5 (I v0)] [(2, Ob.box 47 (cellsD false y47 a0))]) 0 H (by kernel_rfl) fun _ g1 b1 e1 t1 v0 H => ?_
 refine vx_seq <| ?_
 refine qa tok hT [1, 2, 5, 10] (St.mk [p 1 (U a1), p 2 (AV.ptr 2 0), p 5 (I v0), p 10 (B (decide (v0 < (↑a0.1.length : Int))))] [(2, Ob.box 47 (cellsD false y47 a0))]) (by kernel_rfl) ?_
 refine cd H (by kernel_rfl) (fun H => ?_) (fun H => ?_)
 ·refine vx_skip <| fx_seq <| vx_seq <| vx_block <| ?_
  refine qb tok hT [1, 2, 5, 20] (St.mk [p 1 (U a1), p 2 (AV.ptr 2 0), p 5 (I v0), p 20 (B (decide ((a0.1.getD v0.toNat (dflt y109)).1 = a1)))] [(2, Ob.box 47 (cellsD false y47 a0))]) H (by kernel_rfl) fun H => ?_
  refine cd H (by kernel_rfl) (fun H => ?_) (fun H => ?_)
  ·refine qa tok hT [4] (St.mk [p 4 (I v0)] [(2, Ob.box 47 (cellsD false y47 a0))]) (by kernel_rfl) ?_
   exact vx_ret <| fx_blk_ret <| fx_seq_ret <| t1 <| fx_blk_ret <| t0 <| hr H (by kernel_rfl)
  refine vx_skip <| fx_blk <| fx_seq <| ?_
  refine zb tok hT [1, 2, 5] (St.mk [p 1 (U a1), p 2 (AV.ptr 2 0), p 5 (I (v0 + 1))] [(2, Ob.box 47 (cellsD false y47 a0))]) H (by kernel_rfl) fun H => ?_
  exact b1 H (by kernel_rfl)
 exact vx_exit <| fx_seq_exit <| e1 <| fx_blk_exit rfl <| n0 H (by kernel_rfl)
def u64J0 (a0 : ByteArray) : Unit → Option (Bool)
 | _ =>
 some (decide (1 ≤ (↑a0.size : Int)) && decide ((↑a0.size : Int) ≤ 8))
def u64L1 (a0 : ByteArray) (g1 : Int → Option (Bool)) : Int → Option (Bool)
 | v0 =>
 if (decide (v0 < (↑a0.size : Int))) = true then
  gd (ix v0 a0.size ∧ (decide (97 ≤ byteAt a0 v0.toNat) = true ∧ True → ix v0 a0.size) ∧ True) <| 
  gd (ix v0 a0.size ∧ (decide (48 ≤ byteAt a0 v0.toNat) = true ∧ True → ix v0 a0.size) ∧ True) <| 
  if (!(decide (97 ≤ byteAt a0 v0.toNat) && decide (byteAt a0 v0.toNat ≤ 122)) && !(decide (48 ≤ byteAt a0 v0.toNat) && decide (byteAt a0 v0.toNat ≤ 57) && decide (0 < v0))) = true then
   some false
  else
   gd (in64 (v0 + 1) ∧ True) <| 
   g1 (v0 + 1)
 else
  u64J0 a0 ()
def u64 (a0 : ByteArray) : Option (Bool) :=
 lp (u64L1 a0) 0
def k64 : Ct := lct 64 [.dat Ty.str] (fun x => u64 x.1) (fun r : Bool => B r) (fun _ => ())
theorem o64 : Ok Tryz.prog k64 := by
 refine okl tok [.tmp 2] Tryz.func64 Tryz.ntmps64 rfl Tryz.results64 (by kernel_rfl) rfl ?_
 intro y ⟨a0, _⟩ r H Q hn hr
 have hT := @tn Tryz.prog
 refine qa tok hT [0] (St.mk [p 0 (U a0)] []) (by kernel_rfl) ?_
 refine jn r (fun (_ : Unit) => St.mk [p 0 (U a0)] []) (u64J0 a0) (fun _ H => ?_) (fun _ n0 e0 t0 => ?_)
 ·refine qa tok hT [2] (St.mk [p 2 (B (decide (1 ≤ (↑a0.size : Int)) && decide ((↑a0.size : Int) ≤ 8)))] []) (by kernel_rfl) ?_
  exact vx_ret <| hr H (by kernel_rfl)
 refine qa tok hT [0, 3] (St.mk [p 0 (U a0), p 3 (I 0)] []) (by kernel_rfl) ?_
 refine vx_block <| ?_
 refine lx (fun (v0 : Int) => St.mk [p 0 (U a0), p 3 (I v0)] []) 0 H (by kernel_rfl) fun _ g1 b1 e1 t1 v0 H => ?_
 refine vx_seq <| ?_
 refine qa tok hT [0, 3, 9] (St.mk [p 0 (U a0), p 3 (I v0), p 9 (B (decide (v0 < (↑a0.size : Int))))] []) (by kernel_rfl) ?_
 refine cd H (by kernel_rfl) (fun H => ?_) (fun H => ?_)
 ·refine vx_skip <| fx_seq <| vx_seq <| vx_block <| ?_
  refine qb tok hT [0, 3, 4, 17, 18, 19, 20] (St.mk [p 0 (U a0), p 3 (I v0), p 4 (B (decide (97 ≤ byteAt a0 v0.toNat) && decide (byteAt a0 v0.toNat ≤ 122)))] []) H (by kernel_rfl) fun H => ?_
  refine qb tok hT [0, 3, 4, 5, 27, 28, 29, 30] (St.mk [p 0 (U a0), p 3 (I v0), p 4 (B (decide (97 ≤ byteAt a0 v0.toNat) && decide (byteAt a0 v0.toNat ≤ 122))), p 5 (B (decide (48 ≤ byteAt a0 v0.toNat) && decide (byteAt a0 v0.toNat ≤ 57)))] []) H (by kernel_rfl) fun H => ?_
  refine qa tok hT [0, 3, 35, 36, 37, 38, 39, 40, 41] (St.mk [p 0 (U a0), p 3 (I v0), p 41 (B (!(decide (97 ≤ byteAt a0 v0.toNat) && decide (byteAt a0 v0.toNat ≤ 122)) && !(decide (48 ≤ byteAt a0 v0.toNat) && decide (byteAt a0 v0.toNat ≤ 57) && decide (0 < v0))))] []) (by kernel_rfl) ?_
  refine cd H (by kernel_rfl) (fun H => ?_) (fun H => ?_)
  ·refine qa tok hT [2] (St.mk [p 2 (B false)] []) (by kernel_rfl) ?_
   exact vx_ret <| fx_blk_ret <| fx_seq_ret <| t1 <| fx_blk_ret <| t0 <| hr H (by kernel_rfl)
  refine vx_skip <| fx_blk <| fx_seq <| ?_
  refine zb tok hT [0, 3] (St.mk [p 0 (U a0), p 3 (I (v0 + 1))] []) H (by kernel_rfl) fun H => ?_
  exact b1 H (by kernel_rfl)
 exact vx_exit <| fx_seq_exit <| e1 <| fx_blk_exit rfl <| n0 H (by kernel_rfl)
def u62J0 : Unit → Option (Bool)
 | _ =>
 some true
def u62L1 (a0 : Y107) (a1 : Y107) (g1 : Int → Option (Bool)) : Int → Option (Bool)
 | v0 =>
 if (decide (v0 < (↑a0.2.2.1.length : Int))) = true then
  gd (ix v0 a0.2.2.1.length ∧ ix v0 a1.2.2.1.length ∧ True) <| 
  if (!(a0.2.2.1.getD v0.toNat (dflt y147)).2.2.2 == (a1.2.2.1.getD v0.toNat (dflt y147)).2.2.2) = true then
   some false
  else
   gd (in64 (v0 + 1) ∧ True) <| 
   g1 (v0 + 1)
 else
  u62J0 ()
def u62 (a0 : Y107) (a1 : Y107) : Option (Bool) :=
 if (a0.2.1 != a1.2.1 || (↑a0.2.2.1.length : Int) != (↑a1.2.2.1.length : Int)) = true then
  some false
 else
  lp (u62L1 a0 a1) 0
def k62 : Ct := lct 62 [.agg y107, .agg y107] (fun x => u62 x.1 x.2.1) (fun r : Bool => B r) (fun _ => ())
theorem o62 : Ok Tryz.prog k62 := by
 refine okl tok [.tmp 4] Tryz.func62 Tryz.ntmps62 rfl Tryz.results62 (by kernel_rfl) rfl ?_
 intro y ⟨a0, a1, _⟩ r H Q hn hr
 have hT := @tn Tryz.prog
 refine qa tok hT [2, 3] (St.mk [p 2 (AV.ptr 2 0), p 3 (AV.ptr 3 0)] [(3, Ob.box 107 (cellsD false y107 a1)), (2, Ob.box 107 (cellsD false y107 a0))]) (by kernel_rfl) ?_
 refine vx_seq <| ?_
 refine qa tok hT [2, 3, 19] (St.mk [p 2 (AV.ptr 2 0), p 3 (AV.ptr 3 0), p 19 (B (a0.2.1 != a1.2.1 || (↑a0.2.2.1.length : Int) != (↑a1.2.2.1.length : Int)))] [(3, Ob.box 107 (cellsD false y107 a1)), (2, Ob.box 107 (cellsD false y107 a0))]) (by kernel_rfl) ?_
 refine cd H (by kernel_rfl) (fun H => ?_) (fun H => ?_)
 ·refine qa tok hT [4] (St.mk [p 4 (B false)] [(3, Ob.box 107 (cellsD false y107 a1)), (2, Ob.box 107 (cellsD false y107 a0))]) (by kernel_rfl) ?_
  exact vx_ret <| fx_seq_ret <| hr H (by kernel_rfl)
 refine vx_skip <| fx_seq <| ?_
 refine jn r (fun (_ : Unit) => St.mk [] []) (u62J0) (fun _ H => ?_) (fun _ n0 e0 t0 => ?_)
 ·refine qa tok hT [4] (St.mk [p 4 (B true)] []) (by kernel_rfl) ?_
  exact vx_ret <| hr H (by kernel_rfl)
 refine qa tok hT [2, 3, 5] (St.mk [p 2 (AV.ptr 2 0), p 3 (AV.ptr 3 0), p 5 (I 0)] [(3, Ob.box 107 (cellsD false y107 a1)), (2, Ob.box 107 (cellsD false y107 a0))]) (by kernel_rfl) ?_
 refine vx_block <| ?_
 refine lx (fun (v0 : Int) => St.mk [p 2 (AV.ptr 2 0), p 3 (AV.ptr 3 0), p 5 (I v0)] [(3, Ob.box 107 (cellsD false y107 a1)), (2, Ob.box 107 (cellsD false y107 a0))]) 0 H (by kernel_rfl) fun _ g1 b1 e1 t1 v0 H => ?_
 refine vx_seq <| ?_
 refine qa tok hT [2, 3, 5, 24] (St.mk [p 2 (AV.ptr 2 0), p 3 (AV.ptr 3 0), p 5 (I v0), p 24 (B (decide (v0 < (↑a0.2.2.1.length : Int))))] [(3, Ob.box 107 (cellsD false y107 a1)), (2, Ob.box 107 (cellsD false y107 a0))]) (by kernel_rfl) ?_
 refine cd H (by kernel_rfl) (fun H => ?_) (fun H => ?_)
 ·refine vx_skip <| fx_seq <| vx_seq <| vx_block <| ?_
  refine qb tok hT [2, 3, 5, 39] (St.mk [p 2 (AV.ptr 2 0), p 3 (AV.ptr 3 0), p 5 (I v0), p 39 (B !(a0.2.2.1.getD v0.toNat (dflt y147)).2.2.2 == (a1.2.2.1.getD v0.toNat (dflt y147)).2.2.2)] [(3, Ob.box 107 (cellsD false y107 a1)), (2, Ob.box 107 (cellsD false y107 a0))]) H (by kernel_rfl) fun H => ?_
  refine cd H (by kernel_rfl) (fun H => ?_) (fun H => ?_)
  ·refine qa tok hT [4] (St.mk [p 4 (B false)] [(3, Ob.box 107 (cellsD false y107 a1)), (2, Ob.box 107 (cellsD false y107 a0))]) (by kernel_rfl) ?_
   exact vx_ret <| fx_blk_ret <| fx_seq_ret <| t1 <| fx_blk_ret <| t0 <| hr H (by kernel_rfl)
  refine vx_skip <| fx_blk <| fx_seq <| ?_
  refine zb tok hT [2, 3, 5] (St.mk [p 2 (AV.ptr 2 0), p 3 (AV.ptr 3 0), p 5 (I (v0 + 1))] [(3, Ob.box 107 (cellsD false y107 a1)), (2, Ob.box 107 (cellsD false y107 a0))]) H (by kernel_rfl) fun H => ?_
  exact b1 H (by kernel_rfl)
 exact vx_exit <| fx_seq_exit <| e1 <| fx_blk_exit rfl <| n0 H (by kernel_rfl)
def u29 (a0 : Y50) (a1 : Y54) : Option (Bool) :=
 gd ((u60 a0.2.1).isSome = true ∧ True) <| lt (vl (u60 a0.2.1)) fun v0 =>
 if (a1.1 == 1) = true then
  gd (ix a1.2.1 v0.length ∧ a1.2.1.toNat < v0.length ∧ True) <| lt (v0.getD a1.2.1.toNat (dflt y102)) fun v1 =>
  gd (((decide (0 ≤ v1.1) && v1.2.2.2) = true ∧ True → ix v1.1 a0.2.1.1.length) ∧ ((decide (0 ≤ v1.1) && v1.2.2.2) = true ∧ True → ix (a0.2.1.1.getD v1.1.toNat (dflt y109)).2.1 a0.1.length) ∧ ((decide (0 ≤ v1.1) && v1.2.2.2) = true ∧ True → ix a1.2.2.1 a0.1.length) ∧ ((decide (0 ≤ v1.1) && v1.2.2.2) = true ∧ True → (u62 (a0.1.getD (a0.2.1.1.getD v1.1.toNat (dflt y109)).2.1.toNat (dflt y107)) (a0.1.getD a1.2.2.1.toNat (dflt y107))).isSome = true) ∧ True) <| 
  some (decide (0 ≤ v1.1) && v1.2.2.2 && vl (u62 (a0.1.getD (a0.2.1.1.getD v1.1.toNat (dflt y109)).2.1.toNat (dflt y107)) (a0.1.getD a1.2.2.1.toNat (dflt y107))))
 else
  if (a1.1 == 2) = true then
   gd (ix a1.2.1 v0.length ∧ a1.2.1.toNat < v0.length ∧ ((!(v0.getD a1.2.1.toNat (dflt y102)).2.2.2) = true ∧ True → ix a1.2.2.1 a0.1.length) ∧ ((!(v0.getD a1.2.1.toNat (dflt y102)).2.2.2) = true ∧ True → (u63 (a0.1.getD a1.2.2.1.toNat (dflt y107))).isSome = true) ∧ ((!(v0.getD a1.2.1.toNat (dflt y102)).2.2.2 && vl (u63 (a0.1.getD a1.2.2.1.toNat (dflt y107)))) = true ∧ True → (u64 a1.2.2.2.2.2.1).isSome = true) ∧ ((!(v0.getD a1.2.1.toNat (dflt y102)).2.2.2 && vl (u63 (a0.1.getD a1.2.2.1.toNat (dflt y107))) && vl (u64 a1.2.2.2.2.2.1)) = true ∧ True → (u65 a0.2.1 a1.2.2.2.2.2.1).isSome = true) ∧ ((!(v0.getD a1.2.1.toNat (dflt y102)).2.2.2 && vl (u63 (a0.1.getD a1.2.2.1.toNat (dflt y107))) && vl (u64 a1.2.2.2.2.2.1) && decide (vl (u65 a0.2.1 a1.2.2.2.2.2.1) < 0)) = true ∧ True → (u66 a0.2.1 a1.2.2.2.2.2.1).isSome = true) ∧ True) <| lt ((vl (u65 a0.2.1 a1.2.2.2.2.2.1), vl (u66 a0.2.1 a1.2.2.2.2.2.1))) fun (v2, v3) =>
   some (!(v0.getD a1.2.1.toNat (dflt y102)).2.2.2 && vl (u63 (a0.1.getD a1.2.2.1.toNat (dflt y107))) && vl (u64 a1.2.2.2.2.2.1) && decide (v2 < 0) && decide (v3 < 0))
  else
   if (a1.1 == 3) = true then
    gd ((u67 a0).isSome = true ∧ True) <| 
    some (vl (u67 a0))
   else
    if (a1.1 == 4) = true then
     gd (ix a1.2.1 v0.length ∧ a1.2.1.toNat < v0.length ∧ ((!(v0.getD a1.2.1.toNat (dflt y102)).2.2.2) = true ∧ True → ix a1.2.1 v0.length) ∧ ((!(v0.getD a1.2.1.toNat (dflt y102)).2.2.2) = true ∧ True → a1.2.1.toNat < v0.length) ∧ True) <| 
     some (!(v0.getD a1.2.1.toNat (dflt y102)).2.2.2 && (v0.getD a1.2.1.toNat (dflt y102)).2.2.1 != a1.2.2.2.1)
    else
     gd ((u59 a0.2.1 a1.2.2.2.1).isSome = true ∧ (u58 a1.2.2.2.2.2.2 (↑(vl (u59 a0.2.1 a1.2.2.2.1)).length : Int)).isSome = true ∧ True) <| lt (vl (u59 a0.2.1 a1.2.2.2.1)) fun v4 =>
     some (vl (u58 a1.2.2.2.2.2.2 (↑v4.length : Int)))
def k29 : Ct := lct 29 [.agg y50, .agg y54] (fun x => u29 x.1 x.2.1) (fun r : Bool => B r) (fun _ => ())
theorem o29 : Ok Tryz.prog k29 := by
 refine okl tok [.tmp 4] Tryz.func29 Tryz.ntmps29 rfl Tryz.results29 (by kernel_rfl) rfl ?_
 intro y ⟨a0, a1, _⟩ r H Q hn hr
 have hT := tc o58 (tc o59 (tc o67 (tc o66 (tc o65 (tc o64 (tc o63 (tc o62 (tc o60 tn))))))))
 refine qa tok hT [2, 3] (St.mk [p 2 (AV.ptr 2 0), p 3 (AV.ptr 3 0)] [(3, Ob.box 54 (cellsD false y54 a1)), (2, Ob.box 50 (cellsD false y50 a0))]) (by kernel_rfl) ?_
 refine qd tok hT [2, 3, 5] (fun v0 => St.mk [p 2 (AV.ptr 2 0), p 3 (AV.ptr 3 0), p 5 (AV.os 9 0)] [(9, Ob.arr 102 true y102 v0 0), (3, Ob.box 54 (cellsD false y54 a1)), (2, Ob.box 50 (cellsD false y50 a0))]) H (by kernel_rfl) fun v0 H => ?_
 refine vx_seq <| ?_
 refine qa tok hT [2, 3, 5, 11] (St.mk [p 2 (AV.ptr 2 0), p 3 (AV.ptr 3 0), p 5 (AV.os 9 0), p 11 (J a1.1)] [(9, Ob.arr 102 true y102 v0 0), (3, Ob.box 54 (cellsD false y54 a1)), (2, Ob.box 50 (cellsD false y50 a0))]) (by kernel_rfl) ?_
 refine vx_block <| ?_
 refine qa tok hT [2, 3, 5, 11, 12] (St.mk [p 2 (AV.ptr 2 0), p 3 (AV.ptr 3 0), p 5 (AV.os 9 0), p 11 (J a1.1), p 12 (B (a1.1 == 1))] [(9, Ob.arr 102 true y102 v0 0), (3, Ob.box 54 (cellsD false y54 a1)), (2, Ob.box 50 (cellsD false y50 a0))]) (by kernel_rfl) ?_
 refine cd H (by kernel_rfl) (fun H => ?_) (fun H => ?_)
 ·refine qd tok hT [2, 3, 6] (fun v1 => St.mk [p 2 (AV.ptr 2 0), p 3 (AV.ptr 3 0), p 6 (AV.ptr 6 0)] [(6, Ob.box 102 (cellsD true y102 v1)), (9, Ob.arr 102 true y102 v0 0), (3, Ob.box 54 (cellsD false y54 a1)), (2, Ob.box 50 (cellsD false y50 a0))]) H (by kernel_rfl) fun v1 H => ?_
  refine qb tok hT [4] (St.mk [p 4 (B (decide (0 ≤ v1.1) && v1.2.2.2 && vl (u62 (a0.1.getD (a0.2.1.1.getD v1.1.toNat (dflt y109)).2.1.toNat (dflt y107)) (a0.1.getD a1.2.2.1.toNat (dflt y107)))))] [(6, Ob.box 102 (cellsD true y102 v1)), (9, Ob.arr 102 true y102 v0 0), (3, Ob.box 54 (cellsD false y54 a1)), (2, Ob.box 50 (cellsD false y50 a0))]) H (by kernel_rfl) fun H => ?_
  exact vx_ret <| fx_blk_ret <| fx_seq_ret <| hr H (by kernel_rfl)
 refine qa tok hT [2, 3, 5, 11, 49] (St.mk [p 2 (AV.ptr 2 0), p 3 (AV.ptr 3 0), p 5 (AV.os 9 0), p 11 (J a1.1), p 49 (B (a1.1 == 2))] [(9, Ob.arr 102 true y102 v0 0), (3, Ob.box 54 (cellsD false y54 a1)), (2, Ob.box 50 (cellsD false y50 a0))]) (by kernel_rfl) ?_
 refine cd H (by kernel_rfl) (fun H => ?_) (fun H => ?_)
 ·refine qd tok hT [4] (fun (v2, v3) => St.mk [p 4 (B (!(v0.getD a1.2.1.toNat (dflt y102)).2.2.2 && vl (u63 (a0.1.getD a1.2.2.1.toNat (dflt y107))) && vl (u64 a1.2.2.2.2.2.1) && decide (v2 < 0) && decide (v3 < 0)))] [(9, Ob.arr 102 true y102 v0 0), (3, Ob.box 54 (cellsD false y54 a1)), (2, Ob.box 50 (cellsD false y50 a0))]) H (by kernel_rfl) fun ⟨v2, v3⟩ H => ?_
  exact vx_ret <| fx_blk_ret <| fx_seq_ret <| hr H (by kernel_rfl)
 refine qa tok hT [2, 3, 5, 11, 89] (St.mk [p 2 (AV.ptr 2 0), p 3 (AV.ptr 3 0), p 5 (AV.os 9 0), p 11 (J a1.1), p 89 (B (a1.1 == 3))] [(9, Ob.arr 102 true y102 v0 0), (3, Ob.box 54 (cellsD false y54 a1)), (2, Ob.box 50 (cellsD false y50 a0))]) (by kernel_rfl) ?_
 refine cd H (by kernel_rfl) (fun H => ?_) (fun H => ?_)
 ·refine qb tok hT [4] (St.mk [p 4 (B (vl (u67 a0)))] [(9, Ob.arr 102 true y102 v0 0), (3, Ob.box 54 (cellsD false y54 a1)), (2, Ob.box 50 (cellsD false y50 a0))]) H (by kernel_rfl) fun H => ?_
  exact vx_ret <| fx_blk_ret <| fx_seq_ret <| hr H (by kernel_rfl)
 refine qa tok hT [2, 3, 5, 93] (St.mk [p 2 (AV.ptr 2 0), p 3 (AV.ptr 3 0), p 5 (AV.os 9 0), p 93 (B (a1.1 == 4))] [(9, Ob.arr 102 true y102 v0 0), (3, Ob.box 54 (cellsD false y54 a1)), (2, Ob.box 50 (cellsD false y50 a0))]) (by kernel_rfl) ?_
 refine cd H (by kernel_rfl) (fun H => ?_) (fun H => ?_)
 ·refine qb tok hT [4] (St.mk [p 4 (B (!(v0.getD a1.2.1.toNat (dflt y102)).2.2.2 && (v0.getD a1.2.1.toNat (dflt y102)).2.2.1 != a1.2.2.2.1))] [(9, Ob.arr 102 true y102 v0 0), (3, Ob.box 54 (cellsD false y54 a1)), (2, Ob.box 50 (cellsD false y50 a0))]) H (by kernel_rfl) fun H => ?_
  exact vx_ret <| fx_blk_ret <| fx_seq_ret <| hr H (by kernel_rfl)
 refine vx_skip <| fx_blk <| fx_seq <| ?_
 refine qd tok hT [4] (fun v4 => St.mk [p 4 (B (vl (u58 a1.2.2.2.2.2.2 (↑v4.length : Int))))] [(119, Ob.arr 2 true i64 v4 0), (9, Ob.arr 102 true y102 v0 0), (3, Ob.box 54 (cellsD false y54 a1)), (2, Ob.box 50 (cellsD false y50 a0))]) H (by kernel_rfl) fun v4 H => ?_
 exact vx_ret <| hr H (by kernel_rfl)
def u28J0 (a1 : Y54) (v0 : List Y102) (a0 : Y50) : Bool → Option (Bool)
 | v1 =>
 if v1 = true then
  gd (in64 ((↑v0.length : Int) - 1) ∧ (u61 a1.2.1 0 ((↑v0.length : Int) - 1)).isSome = true ∧ (vl (u61 a1.2.1 0 ((↑v0.length : Int) - 1)) = true ∧ True → in64 ((↑a0.1.length : Int) - 1)) ∧ (vl (u61 a1.2.1 0 ((↑v0.length : Int) - 1)) = true ∧ True → (u61 a1.2.2.1 0 ((↑a0.1.length : Int) - 1)).isSome = true) ∧ True) <| 
  some (vl (u61 a1.2.1 0 ((↑v0.length : Int) - 1)) && vl (u61 a1.2.2.1 0 ((↑a0.1.length : Int) - 1)))
 else
  if (a1.1 == 4) = true then
   gd (in64 ((↑v0.length : Int) - 1) ∧ (u61 a1.2.1 0 ((↑v0.length : Int) - 1)).isSome = true ∧ (vl (u61 a1.2.1 0 ((↑v0.length : Int) - 1)) = true ∧ True → in64 ((↑a0.2.2.length : Int) - 1)) ∧ (vl (u61 a1.2.1 0 ((↑v0.length : Int) - 1)) = true ∧ True → (u61 a1.2.2.2.1 0 ((↑a0.2.2.length : Int) - 1)).isSome = true) ∧ ((vl (u61 a1.2.1 0 ((↑v0.length : Int) - 1)) && vl (u61 a1.2.2.2.1 0 ((↑a0.2.2.length : Int) - 1))) = true ∧ True → ix a1.2.2.2.1 a0.2.2.length) ∧ ((vl (u61 a1.2.1 0 ((↑v0.length : Int) - 1)) && vl (u61 a1.2.2.2.1 0 ((↑a0.2.2.length : Int) - 1))) = true ∧ True → in64 ((↑(a0.2.2.getD a1.2.2.2.1.toNat (dflt y52)).1.length : Int) - 1)) ∧ ((vl (u61 a1.2.1 0 ((↑v0.length : Int) - 1)) && vl (u61 a1.2.2.2.1 0 ((↑a0.2.2.length : Int) - 1))) = true ∧ True → (u61 a1.2.2.2.2.1 0 ((↑(a0.2.2.getD a1.2.2.2.1.toNat (dflt y52)).1.length : Int) - 1)).isSome = true) ∧ True) <| 
   some (vl (u61 a1.2.1 0 ((↑v0.length : Int) - 1)) && vl (u61 a1.2.2.2.1 0 ((↑a0.2.2.length : Int) - 1)) && vl (u61 a1.2.2.2.2.1 0 ((↑(a0.2.2.getD a1.2.2.2.1.toNat (dflt y52)).1.length : Int) - 1)))
  else
   if (a1.1 == 5) = true then
    gd (in64 ((↑a0.2.2.length : Int) - 1) ∧ (u61 a1.2.2.2.1 0 ((↑a0.2.2.length : Int) - 1)).isSome = true ∧ True) <| 
    some (vl (u61 a1.2.2.2.1 0 ((↑a0.2.2.length : Int) - 1)))
   else
    some true
def u28 (a0 : Y50) (a1 : Y54) : Option (Bool) :=
 gd ((u60 a0.2.1).isSome = true ∧ True) <| lt (vl (u60 a0.2.1)) fun v0 =>
 if (a1.1 == 1) = true then
  u28J0 a1 v0 a0 (a1.1 == 1)
 else
  u28J0 a1 v0 a0 (a1.1 == 2)
def k28 : Ct := lct 28 [.agg y50, .agg y54] (fun x => u28 x.1 x.2.1) (fun r : Bool => B r) (fun _ => ())
theorem o28 : Ok Tryz.prog k28 := by
 refine okl tok [.tmp 4] Tryz.func28 Tryz.ntmps28 rfl Tryz.results28 (by kernel_rfl) rfl ?_
 intro y ⟨a0, a1, _⟩ r H Q hn hr
 have hT := tc o61 (tc o60 tn)
 refine qa tok hT [2, 3] (St.mk [p 2 (AV.ptr 2 0), p 3 (AV.ptr 3 0)] [(3, Ob.box 54 (cellsD false y54 a1)), (2, Ob.box 50 (cellsD false y50 a0))]) (by kernel_rfl) ?_
 refine qd tok hT [2, 3, 5] (fun v0 => St.mk [p 2 (AV.ptr 2 0), p 3 (AV.ptr 3 0), p 5 (I (↑v0.length : Int))] [(10, Ob.arr 102 true y102 v0 0), (3, Ob.box 54 (cellsD false y54 a1)), (2, Ob.box 50 (cellsD false y50 a0))]) H (by kernel_rfl) fun v0 H => ?_
 refine qa tok hT [2, 3, 5, 6] (St.mk [p 2 (AV.ptr 2 0), p 3 (AV.ptr 3 0), p 5 (I (↑v0.length : Int)), p 6 (I (↑a0.1.length : Int))] [(10, Ob.arr 102 true y102 v0 0), (3, Ob.box 54 (cellsD false y54 a1)), (2, Ob.box 50 (cellsD false y50 a0))]) (by kernel_rfl) ?_
 refine qa tok hT [2, 3, 5, 6, 7] (St.mk [p 2 (AV.ptr 2 0), p 3 (AV.ptr 3 0), p 5 (I (↑v0.length : Int)), p 6 (I (↑a0.1.length : Int)), p 7 (I (↑a0.2.2.length : Int))] [(10, Ob.arr 102 true y102 v0 0), (3, Ob.box 54 (cellsD false y54 a1)), (2, Ob.box 50 (cellsD false y50 a0))]) (by kernel_rfl) ?_
 refine vx_seq <| ?_
 refine qa tok hT [2, 3, 5, 6, 7, 20] (St.mk [p 2 (AV.ptr 2 0), p 3 (AV.ptr 3 0), p 5 (I (↑v0.length : Int)), p 6 (I (↑a0.1.length : Int)), p 7 (I (↑a0.2.2.length : Int)), p 20 (J a1.1)] [(10, Ob.arr 102 true y102 v0 0), (3, Ob.box 54 (cellsD false y54 a1)), (2, Ob.box 50 (cellsD false y50 a0))]) (by kernel_rfl) ?_
 refine vx_block <| ?_
 refine jn r (fun (v1 : Bool) => St.mk [p 2 (AV.ptr 2 0), p 3 (AV.ptr 3 0), p 5 (I (↑v0.length : Int)), p 6 (I (↑a0.1.length : Int)), p 7 (I (↑a0.2.2.length : Int)), p 20 (J a1.1), p 21 (B v1)] [(3, Ob.box 54 (cellsD false y54 a1)), (2, Ob.box 50 (cellsD false y50 a0))]) (u28J0 a1 v0 a0) (fun v1 H => ?_) (fun _ n0 e0 t0 => ?_)
 ·refine cd H (by kernel_rfl) (fun H => ?_) (fun H => ?_)
  ·refine qb tok hT [4] (St.mk [p 4 (B (vl (u61 a1.2.1 0 ((↑v0.length : Int) - 1)) && vl (u61 a1.2.2.1 0 ((↑a0.1.length : Int) - 1))))] [(3, Ob.box 54 (cellsD false y54 a1)), (2, Ob.box 50 (cellsD false y50 a0))]) H (by kernel_rfl) fun H => ?_
   exact vx_ret <| fx_blk_ret <| fx_seq_ret <| hr H (by kernel_rfl)
  refine qa tok hT [2, 3, 5, 7, 20, 36] (St.mk [p 2 (AV.ptr 2 0), p 3 (AV.ptr 3 0), p 5 (I (↑v0.length : Int)), p 7 (I (↑a0.2.2.length : Int)), p 20 (J a1.1), p 36 (B (a1.1 == 4))] [(3, Ob.box 54 (cellsD false y54 a1)), (2, Ob.box 50 (cellsD false y50 a0))]) (by kernel_rfl) ?_
  refine cd H (by kernel_rfl) (fun H => ?_) (fun H => ?_)
  ·refine qb tok hT [4] (St.mk [p 4 (B (vl (u61 a1.2.1 0 ((↑v0.length : Int) - 1)) && vl (u61 a1.2.2.2.1 0 ((↑a0.2.2.length : Int) - 1)) && vl (u61 a1.2.2.2.2.1 0 ((↑(a0.2.2.getD a1.2.2.2.1.toNat (dflt y52)).1.length : Int) - 1))))] [(3, Ob.box 54 (cellsD false y54 a1)), (2, Ob.box 50 (cellsD false y50 a0))]) H (by kernel_rfl) fun H => ?_
   exact vx_ret <| fx_blk_ret <| fx_seq_ret <| hr H (by kernel_rfl)
  refine qa tok hT [3, 7, 64] (St.mk [p 3 (AV.ptr 3 0), p 7 (I (↑a0.2.2.length : Int)), p 64 (B (a1.1 == 5))] [(3, Ob.box 54 (cellsD false y54 a1)), (2, Ob.box 50 (cellsD false y50 a0))]) (by kernel_rfl) ?_
  refine cd H (by kernel_rfl) (fun H => ?_) (fun H => ?_)
  ·refine qb tok hT [4] (St.mk [p 4 (B (vl (u61 a1.2.2.2.1 0 ((↑a0.2.2.length : Int) - 1))))] [(3, Ob.box 54 (cellsD false y54 a1)), (2, Ob.box 50 (cellsD false y50 a0))]) H (by kernel_rfl) fun H => ?_
   exact vx_ret <| fx_blk_ret <| fx_seq_ret <| hr H (by kernel_rfl)
  refine vx_skip <| fx_blk <| fx_seq <| ?_
  refine qa tok hT [4] (St.mk [p 4 (B true)] [(3, Ob.box 54 (cellsD false y54 a1)), (2, Ob.box 50 (cellsD false y50 a0))]) (by kernel_rfl) ?_
  exact vx_ret <| hr H (by kernel_rfl)
 refine qa tok hT [2, 3, 5, 6, 7, 20, 21] (St.mk [p 2 (AV.ptr 2 0), p 3 (AV.ptr 3 0), p 5 (I (↑v0.length : Int)), p 6 (I (↑a0.1.length : Int)), p 7 (I (↑a0.2.2.length : Int)), p 20 (J a1.1), p 21 (B (a1.1 == 1))] [(10, Ob.arr 102 true y102 v0 0), (3, Ob.box 54 (cellsD false y54 a1)), (2, Ob.box 50 (cellsD false y50 a0))]) (by kernel_rfl) ?_
 refine cd H (by kernel_rfl) (fun H => ?_) (fun H => ?_)
 ·exact vx_skip <| n0 H (by kernel_rfl)
 refine za tok hT [2, 3, 5, 6, 7, 20, 21] (St.mk [p 2 (AV.ptr 2 0), p 3 (AV.ptr 3 0), p 5 (I (↑v0.length : Int)), p 6 (I (↑a0.1.length : Int)), p 7 (I (↑a0.2.2.length : Int)), p 20 (J a1.1), p 21 (B (a1.1 == 2))] [(10, Ob.arr 102 true y102 v0 0), (3, Ob.box 54 (cellsD false y54 a1)), (2, Ob.box 50 (cellsD false y50 a0))]) (by kernel_rfl) ?_
 exact n0 H (by kernel_rfl)
def u27 (a0 : Y54) : Option (Bool) :=
 gd (in64 ((↑a0.2.2.2.2.2.2.1.length : Int) + (↑a0.2.2.2.2.2.2.2.1.length : Int)) ∧ in64 ((↑a0.2.2.2.2.2.2.1.length : Int) + (↑a0.2.2.2.2.2.2.2.1.length : Int) + (↑a0.2.2.2.2.2.2.2.2.1.length : Int)) ∧ in64 ((↑a0.2.2.2.2.2.2.1.length : Int) + (↑a0.2.2.2.2.2.2.2.1.length : Int) + (↑a0.2.2.2.2.2.2.2.2.1.length : Int) + (↑a0.2.2.2.2.2.2.2.2.2.length : Int)) ∧ True) <| 
 if (a0.1 == 1) = true then
  lt (a0.2.2.2.1 == 0 && a0.2.2.2.2.1 == 0 && decide (a0.2.2.2.2.2.1 = ByteArray.mk #[]) && (↑a0.2.2.2.2.2.2.1.length : Int) + (↑a0.2.2.2.2.2.2.2.1.length : Int) + (↑a0.2.2.2.2.2.2.2.2.1.length : Int) + (↑a0.2.2.2.2.2.2.2.2.2.length : Int) == 0) fun v0 =>
  some v0
 else
  if (a0.1 == 2) = true then
   some (a0.2.2.2.1 == 0 && a0.2.2.2.2.1 == 0 && (↑a0.2.2.2.2.2.2.1.length : Int) + (↑a0.2.2.2.2.2.2.2.1.length : Int) + (↑a0.2.2.2.2.2.2.2.2.1.length : Int) + (↑a0.2.2.2.2.2.2.2.2.2.length : Int) == 0)
  else
   if (a0.1 == 3) = true then
    lt (a0.2.1 == 0 && a0.2.2.1 == 0 && a0.2.2.2.1 == 0 && a0.2.2.2.2.1 == 0 && decide (a0.2.2.2.2.2.1 = ByteArray.mk #[]) && (↑a0.2.2.2.2.2.2.1.length : Int) + (↑a0.2.2.2.2.2.2.2.1.length : Int) + (↑a0.2.2.2.2.2.2.2.2.1.length : Int) + (↑a0.2.2.2.2.2.2.2.2.2.length : Int) == 0) fun v1 =>
    some v1
   else
    if (a0.1 == 4) = true then
     some (a0.2.2.1 == 0 && decide (a0.2.2.2.2.2.1 = ByteArray.mk #[]) && (↑a0.2.2.2.2.2.2.1.length : Int) + (↑a0.2.2.2.2.2.2.2.1.length : Int) + (↑a0.2.2.2.2.2.2.2.2.1.length : Int) + (↑a0.2.2.2.2.2.2.2.2.2.length : Int) == 0)
    else
     if (a0.1 == 5) = true then
      some (a0.2.1 == 0 && a0.2.2.1 == 0 && a0.2.2.2.2.1 == 0 && decide (a0.2.2.2.2.2.1 = ByteArray.mk #[]))
     else
      some false
def k27 : Ct := lct 27 [.agg y54] (fun x => u27 x.1) (fun r : Bool => B r) (fun _ => ())
theorem o27 : Ok Tryz.prog k27 := by
 refine okl tok [.tmp 2] Tryz.func27 Tryz.ntmps27 rfl Tryz.results27 (by kernel_rfl) rfl ?_
 intro y ⟨a0, _⟩ r H Q hn hr
 have hT := @tn Tryz.prog
 refine qa tok hT [1] (St.mk [p 1 (AV.ptr 1 0)] [(1, Ob.box 54 (cellsD false y54 a0))]) (by kernel_rfl) ?_
 refine qb tok hT [1, 3] (St.mk [p 1 (AV.ptr 1 0), p 3 (B ((↑a0.2.2.2.2.2.2.1.length : Int) + (↑a0.2.2.2.2.2.2.2.1.length : Int) + (↑a0.2.2.2.2.2.2.2.2.1.length : Int) + (↑a0.2.2.2.2.2.2.2.2.2.length : Int) == 0))] [(1, Ob.box 54 (cellsD false y54 a0))]) H (by kernel_rfl) fun H => ?_
 refine vx_seq <| ?_
 refine qa tok hT [1, 3, 25] (St.mk [p 1 (AV.ptr 1 0), p 3 (B ((↑a0.2.2.2.2.2.2.1.length : Int) + (↑a0.2.2.2.2.2.2.2.1.length : Int) + (↑a0.2.2.2.2.2.2.2.2.1.length : Int) + (↑a0.2.2.2.2.2.2.2.2.2.length : Int) == 0)), p 25 (J a0.1)] [(1, Ob.box 54 (cellsD false y54 a0))]) (by kernel_rfl) ?_
 refine vx_block <| ?_
 refine qa tok hT [1, 3, 25, 26] (St.mk [p 1 (AV.ptr 1 0), p 3 (B ((↑a0.2.2.2.2.2.2.1.length : Int) + (↑a0.2.2.2.2.2.2.2.1.length : Int) + (↑a0.2.2.2.2.2.2.2.2.1.length : Int) + (↑a0.2.2.2.2.2.2.2.2.2.length : Int) == 0)), p 25 (J a0.1), p 26 (B (a0.1 == 1))] [(1, Ob.box 54 (cellsD false y54 a0))]) (by kernel_rfl) ?_
 refine cd H (by kernel_rfl) (fun H => ?_) (fun H => ?_)
 ·refine qc tok hT [2] (fun v0 => St.mk [p 2 (B v0)] [(1, Ob.box 54 (cellsD false y54 a0))]) H (by kernel_rfl) fun v0 H => ?_
  exact vx_ret <| fx_blk_ret <| fx_seq_ret <| hr H (by kernel_rfl)
 refine qa tok hT [1, 3, 25, 44] (St.mk [p 1 (AV.ptr 1 0), p 3 (B ((↑a0.2.2.2.2.2.2.1.length : Int) + (↑a0.2.2.2.2.2.2.2.1.length : Int) + (↑a0.2.2.2.2.2.2.2.2.1.length : Int) + (↑a0.2.2.2.2.2.2.2.2.2.length : Int) == 0)), p 25 (J a0.1), p 44 (B (a0.1 == 2))] [(1, Ob.box 54 (cellsD false y54 a0))]) (by kernel_rfl) ?_
 refine cd H (by kernel_rfl) (fun H => ?_) (fun H => ?_)
 ·refine qa tok hT [2] (St.mk [p 2 (B (a0.2.2.2.1 == 0 && a0.2.2.2.2.1 == 0 && (↑a0.2.2.2.2.2.2.1.length : Int) + (↑a0.2.2.2.2.2.2.2.1.length : Int) + (↑a0.2.2.2.2.2.2.2.2.1.length : Int) + (↑a0.2.2.2.2.2.2.2.2.2.length : Int) == 0))] [(1, Ob.box 54 (cellsD false y54 a0))]) (by kernel_rfl) ?_
  exact vx_ret <| fx_blk_ret <| fx_seq_ret <| hr H (by kernel_rfl)
 refine qa tok hT [1, 3, 25, 57] (St.mk [p 1 (AV.ptr 1 0), p 3 (B ((↑a0.2.2.2.2.2.2.1.length : Int) + (↑a0.2.2.2.2.2.2.2.1.length : Int) + (↑a0.2.2.2.2.2.2.2.2.1.length : Int) + (↑a0.2.2.2.2.2.2.2.2.2.length : Int) == 0)), p 25 (J a0.1), p 57 (B (a0.1 == 3))] [(1, Ob.box 54 (cellsD false y54 a0))]) (by kernel_rfl) ?_
 refine cd H (by kernel_rfl) (fun H => ?_) (fun H => ?_)
 ·refine qc tok hT [2] (fun v1 => St.mk [p 2 (B v1)] [(1, Ob.box 54 (cellsD false y54 a0))]) H (by kernel_rfl) fun v1 H => ?_
  exact vx_ret <| fx_blk_ret <| fx_seq_ret <| hr H (by kernel_rfl)
 refine qa tok hT [1, 3, 25, 85] (St.mk [p 1 (AV.ptr 1 0), p 3 (B ((↑a0.2.2.2.2.2.2.1.length : Int) + (↑a0.2.2.2.2.2.2.2.1.length : Int) + (↑a0.2.2.2.2.2.2.2.2.1.length : Int) + (↑a0.2.2.2.2.2.2.2.2.2.length : Int) == 0)), p 25 (J a0.1), p 85 (B (a0.1 == 4))] [(1, Ob.box 54 (cellsD false y54 a0))]) (by kernel_rfl) ?_
 refine cd H (by kernel_rfl) (fun H => ?_) (fun H => ?_)
 ·refine qa tok hT [2] (St.mk [p 2 (B (a0.2.2.1 == 0 && decide (a0.2.2.2.2.2.1 = ByteArray.mk #[]) && (↑a0.2.2.2.2.2.2.1.length : Int) + (↑a0.2.2.2.2.2.2.2.1.length : Int) + (↑a0.2.2.2.2.2.2.2.2.1.length : Int) + (↑a0.2.2.2.2.2.2.2.2.2.length : Int) == 0))] [(1, Ob.box 54 (cellsD false y54 a0))]) (by kernel_rfl) ?_
  exact vx_ret <| fx_blk_ret <| fx_seq_ret <| hr H (by kernel_rfl)
 refine qa tok hT [1, 98] (St.mk [p 1 (AV.ptr 1 0), p 98 (B (a0.1 == 5))] [(1, Ob.box 54 (cellsD false y54 a0))]) (by kernel_rfl) ?_
 refine cd H (by kernel_rfl) (fun H => ?_) (fun H => ?_)
 ·refine qa tok hT [2] (St.mk [p 2 (B (a0.2.1 == 0 && a0.2.2.1 == 0 && a0.2.2.2.2.1 == 0 && decide (a0.2.2.2.2.2.1 = ByteArray.mk #[])))] [(1, Ob.box 54 (cellsD false y54 a0))]) (by kernel_rfl) ?_
  exact vx_ret <| fx_blk_ret <| fx_seq_ret <| hr H (by kernel_rfl)
 refine vx_skip <| fx_blk <| fx_seq <| ?_
 refine qa tok hT [2] (St.mk [p 2 (B false)] [(1, Ob.box 54 (cellsD false y54 a0))]) (by kernel_rfl) ?_
 exact vx_ret <| hr H (by kernel_rfl)
def u99J0 : Unit → Option (Bool)
 | _ =>
 some true
def u99J2 (v1 : Int) (g1 : Int → Option (Bool)) : Unit → Option (Bool)
 | _ =>
 gd (in64 (v1 + 1) ∧ True) <| 
 g1 (v1 + 1)
def u99L3 (a0 : List ByteArray) (v1 : Int) (g1 : Int → Option (Bool)) (g3 : Int → Option (Bool)) : Int → Option (Bool)
 | v2 =>
 if (decide (v2 < v1)) = true then
  gd (ix v2 a0.length ∧ ix v1 a0.length ∧ True) <| 
  if (decide (a0.getD v2.toNat (dflt Ty.str) = a0.getD v1.toNat (dflt Ty.str))) = true then
   some false
  else
   gd (in64 (v2 + 1) ∧ True) <| 
   g3 (v2 + 1)
 else
  u99J2 v1 g1 ()
def u99L1 (a0 : List ByteArray) (g1 : Int → Option (Bool)) : Int → Option (Bool)
 | v1 =>
 if (decide (v1 < (↑a0.length : Int))) = true then
  gd (ix v1 a0.length ∧ (u64 (a0.getD v1.toNat (dflt Ty.str))).isSome = true ∧ True) <| 
  if (!vl (u64 (a0.getD v1.toNat (dflt Ty.str)))) = true then
   some false
  else
   lp (u99L3 a0 v1 g1) 0
 else
  u99J0 ()
def u99 (a0 : List ByteArray) : Option (Bool) :=
 lp (u99L1 a0) 0
def k99 : Ct := lct 99 [.dat Ty.str.sl] (fun x => u99 x.1) (fun r : Bool => B r) (fun _ => ())
theorem o99 : Ok Tryz.prog k99 := by
 refine okl tok [.tmp 2] Tryz.func99 Tryz.ntmps99 rfl Tryz.results99 (by kernel_rfl) rfl ?_
 intro y ⟨a0, _⟩ r H Q hn hr
 have hT := tc o64 tn
 refine qa tok hT [0] (St.mk [p 0 (L Ty.str a0)] []) (by kernel_rfl) ?_
 refine jn r (fun (_ : Unit) => St.mk [] []) (u99J0) (fun _ H => ?_) (fun _ n0 e0 t0 => ?_)
 ·refine qa tok hT [2] (St.mk [p 2 (B true)] []) (by kernel_rfl) ?_
  exact vx_ret <| hr H (by kernel_rfl)
 refine qa tok hT [0, 3] (St.mk [p 0 (L Ty.str a0), p 3 (I 0)] []) (by kernel_rfl) ?_
 refine vx_block <| ?_
 refine lx (fun (v1 : Int) => St.mk [p 0 (L Ty.str a0), p 3 (I v1)] []) 0 H (by kernel_rfl) fun _ g1 b1 e1 t1 v1 H => ?_
 refine vx_seq <| ?_
 refine qa tok hT [0, 3, 8] (St.mk [p 0 (L Ty.str a0), p 3 (I v1), p 8 (B (decide (v1 < (↑a0.length : Int))))] []) (by kernel_rfl) ?_
 refine cd H (by kernel_rfl) (fun H => ?_) (fun H => ?_)
 ·refine vx_skip <| fx_seq <| ?_
  refine jn r (fun (_ : Unit) => St.mk [p 0 (L Ty.str a0), p 3 (I v1)] []) (u99J2 v1 g1) (fun _ H => ?_) (fun _ n2 e2 t2 => ?_)
  ·refine zb tok hT [0, 3] (St.mk [p 0 (L Ty.str a0), p 3 (I (v1 + 1))] []) H (by kernel_rfl) fun H => ?_
   exact b1 H (by kernel_rfl)
  refine vx_block <| vx_seq <| ?_
  refine qb tok hT [0, 3, 16] (St.mk [p 0 (L Ty.str a0), p 3 (I v1), p 16 (B !vl (u64 (a0.getD v1.toNat (dflt Ty.str))))] []) H (by kernel_rfl) fun H => ?_
  refine cd H (by kernel_rfl) (fun H => ?_) (fun H => ?_)
  ·refine qa tok hT [2] (St.mk [p 2 (B false)] []) (by kernel_rfl) ?_
   exact vx_ret <| fx_seq_ret <| fx_blk_ret <| t2 <| t1 <| fx_blk_ret <| t0 <| hr H (by kernel_rfl)
  refine vx_skip <| fx_seq <| ?_
  refine qa tok hT [0, 3, 4] (St.mk [p 0 (L Ty.str a0), p 3 (I v1), p 4 (I 0)] []) (by kernel_rfl) ?_
  refine vx_block <| ?_
  refine lx (fun (v2 : Int) => St.mk [p 0 (L Ty.str a0), p 3 (I v1), p 4 (I v2)] []) 0 H (by kernel_rfl) fun _ g3 b3 e3 t3 v2 H => ?_
  refine vx_seq <| ?_
  refine qa tok hT [0, 3, 4, 19] (St.mk [p 0 (L Ty.str a0), p 3 (I v1), p 4 (I v2), p 19 (B (decide (v2 < v1)))] []) (by kernel_rfl) ?_
  refine cd H (by kernel_rfl) (fun H => ?_) (fun H => ?_)
  ·refine vx_skip <| fx_seq <| vx_seq <| vx_block <| ?_
   refine qb tok hT [0, 3, 4, 30] (St.mk [p 0 (L Ty.str a0), p 3 (I v1), p 4 (I v2), p 30 (B (decide (a0.getD v2.toNat (dflt Ty.str) = a0.getD v1.toNat (dflt Ty.str))))] []) H (by kernel_rfl) fun H => ?_
   refine cd H (by kernel_rfl) (fun H => ?_) (fun H => ?_)
   ·refine qa tok hT [2] (St.mk [p 2 (B false)] []) (by kernel_rfl) ?_
    exact vx_ret <| fx_blk_ret <| fx_seq_ret <| t3 <| fx_blk_ret <| fx_blk_ret <| t2 <| t1 <| fx_blk_ret <| t0 <| hr H (by kernel_rfl)
   refine vx_skip <| fx_blk <| fx_seq <| ?_
   refine zb tok hT [0, 3, 4] (St.mk [p 0 (L Ty.str a0), p 3 (I v1), p 4 (I (v2 + 1))] []) H (by kernel_rfl) fun H => ?_
   exact b3 H (by kernel_rfl)
  exact vx_exit <| fx_seq_exit <| e3 <| fx_blk_exit rfl <| fx_blk <| n2 H (by kernel_rfl)
 exact vx_exit <| fx_seq_exit <| e1 <| fx_blk_exit rfl <| n0 H (by kernel_rfl)
def u98J4 : Unit → Option (Bool)
 | _ =>
 some true
def u98L5 (a1 : Y47) (g5 : Int → Option (Bool)) : Int → Option (Bool)
 | v5 =>
 if (decide (v5 < (↑a1.2.2.length : Int))) = true then
  gd (ix v5 a1.2.2.length ∧ (u61 (a1.2.2.getD v5.toNat (dflt y144)).2.1 1 2).isSome = true ∧ ((!vl (u61 (a1.2.2.getD v5.toNat (dflt y144)).2.1 1 2)) = false ∧ True → ix v5 a1.2.2.length) ∧ ((!vl (u61 (a1.2.2.getD v5.toNat (dflt y144)).2.1 1 2)) = false ∧ True → in64 ((↑a1.2.1.length : Int) - 1)) ∧ ((!vl (u61 (a1.2.2.getD v5.toNat (dflt y144)).2.1 1 2)) = false ∧ True → (u61 (a1.2.2.getD v5.toNat (dflt y144)).2.2 0 ((↑a1.2.1.length : Int) - 1)).isSome = true) ∧ True) <| 
  if (!vl (u61 (a1.2.2.getD v5.toNat (dflt y144)).2.1 1 2) || !vl (u61 (a1.2.2.getD v5.toNat (dflt y144)).2.2 0 ((↑a1.2.1.length : Int) - 1))) = true then
   some false
  else
   gd (in64 (v5 + 1) ∧ True) <| 
   g5 (v5 + 1)
 else
  u98J4 ()
def u98J0 (a1 : Y47) : Unit → Option (Bool)
 | _ =>
 lp (u98L5 a1) 0
def u98J2 (v2 : Int) (g1 : Int → Option (Bool)) : Unit → Option (Bool)
 | _ =>
 gd (in64 (v2 + 1) ∧ True) <| 
 g1 (v2 + 1)
def u98L3 (v3 : Y109) (a1 : Y47) (v2 : Int) (g1 : Int → Option (Bool)) (g3 : Int → Option (Bool)) : Int → Option (Bool)
 | v4 =>
 if (decide (v4 < (↑v3.2.2.length : Int))) = true then
  gd (ix v4 v3.2.2.length ∧ in64 ((↑a1.2.1.length : Int) - 1) ∧ (u61 (v3.2.2.getD v4.toNat 0) 0 ((↑a1.2.1.length : Int) - 1)).isSome = true ∧ True) <| 
  if (!vl (u61 (v3.2.2.getD v4.toNat 0) 0 ((↑a1.2.1.length : Int) - 1))) = true then
   some false
  else
   gd (in64 (v4 + 1) ∧ True) <| 
   g3 (v4 + 1)
 else
  u98J2 v2 g1 ()
def u98L1 (a1 : Y47) (a0 : List Y107) (g1 : Int → Option (Bool)) : Int → Option (Bool)
 | v2 =>
 if (decide (v2 < (↑a1.1.length : Int))) = true then
  gd (ix v2 a1.1.length ∧ True) <| lt (a1.1.getD v2.toNat (dflt y109)) fun v3 =>
  gd (in64 ((↑a0.length : Int) - 1) ∧ (u61 v3.2.1 0 ((↑a0.length : Int) - 1)).isSome = true ∧ ((!vl (u61 v3.2.1 0 ((↑a0.length : Int) - 1))) = false ∧ True → ix v3.2.1 a0.length) ∧ True) <| 
  if (!vl (u61 v3.2.1 0 ((↑a0.length : Int) - 1)) || (↑v3.2.2.length : Int) != (↑(a0.getD v3.2.1.toNat (dflt y107)).2.2.1.length : Int)) = true then
   some false
  else
   lp (u98L3 v3 a1 v2 g1) 0
 else
  u98J0 a1 ()
def u98 (a0 : List Y107) (a1 : Y47) : Option (Bool) :=
 lp (u98L1 a1 a0) 0
def k98 : Ct := lct 98 [.agg y107.sl, .agg y47] (fun x => u98 x.1 x.2.1) (fun r : Bool => B r) (fun _ => ())
theorem o98 : Ok Tryz.prog k98 := by
 refine okl tok [.tmp 4] Tryz.func98 Tryz.ntmps98 rfl Tryz.results98 (by kernel_rfl) rfl ?_
 intro y ⟨a0, a1, _⟩ r H Q hn hr
 have hT := tc o61 tn
 refine qa tok hT [2, 3] (St.mk [p 2 (AV.ptr 2 0), p 3 (AV.ptr 3 0)] [(3, Ob.box 47 (cellsD false y47 a1)), (2, Ob.box 43 [L y107 a0])]) (by kernel_rfl) ?_
 refine qa tok hT [2, 3, 5] (St.mk [p 2 (AV.ptr 2 0), p 3 (AV.ptr 3 0), p 5 (I (↑a1.2.1.length : Int))] [(3, Ob.box 47 (cellsD false y47 a1)), (2, Ob.box 43 [L y107 a0])]) (by kernel_rfl) ?_
 refine jn r (fun (_ : Unit) => St.mk [p 3 (AV.ptr 3 0), p 5 (I (↑a1.2.1.length : Int))] [(3, Ob.box 47 (cellsD false y47 a1))]) (u98J0 a1) (fun _ H => ?_) (fun _ n0 e0 t0 => ?_)
 ·refine jn r (fun (_ : Unit) => St.mk [] []) (u98J4) (fun _ H => ?_) (fun _ n4 e4 t4 => ?_)
  ·refine qa tok hT [4] (St.mk [p 4 (B true)] []) (by kernel_rfl) ?_
   exact vx_ret <| hr H (by kernel_rfl)
  refine qa tok hT [3, 5, 9] (St.mk [p 3 (AV.ptr 3 0), p 5 (I (↑a1.2.1.length : Int)), p 9 (I 0)] [(3, Ob.box 47 (cellsD false y47 a1))]) (by kernel_rfl) ?_
  refine vx_block <| ?_
  refine lx (fun (v5 : Int) => St.mk [p 3 (AV.ptr 3 0), p 5 (I (↑a1.2.1.length : Int)), p 9 (I v5)] [(3, Ob.box 47 (cellsD false y47 a1))]) 0 H (by kernel_rfl) fun _ g5 b5 e5 t5 v5 H => ?_
  refine vx_seq <| ?_
  refine qa tok hT [3, 5, 9, 67] (St.mk [p 3 (AV.ptr 3 0), p 5 (I (↑a1.2.1.length : Int)), p 9 (I v5), p 67 (B (decide (v5 < (↑a1.2.2.length : Int))))] [(3, Ob.box 47 (cellsD false y47 a1))]) (by kernel_rfl) ?_
  refine cd H (by kernel_rfl) (fun H => ?_) (fun H => ?_)
  ·refine vx_skip <| fx_seq <| vx_seq <| vx_block <| ?_
   refine qb tok hT [3, 5, 9, 79, 80, 81, 82, 83, 84, 85, 86, 87, 88, 89] (St.mk [p 3 (AV.ptr 3 0), p 5 (I (↑a1.2.1.length : Int)), p 9 (I v5), p 89 (B (!vl (u61 (a1.2.2.getD v5.toNat (dflt y144)).2.1 1 2) || !vl (u61 (a1.2.2.getD v5.toNat (dflt y144)).2.2 0 ((↑a1.2.1.length : Int) - 1))))] [(3, Ob.box 47 (cellsD false y47 a1))]) H (by kernel_rfl) fun H => ?_
   refine cd H (by kernel_rfl) (fun H => ?_) (fun H => ?_)
   ·refine qa tok hT [4] (St.mk [p 4 (B false)] [(3, Ob.box 47 (cellsD false y47 a1))]) (by kernel_rfl) ?_
    exact vx_ret <| fx_blk_ret <| fx_seq_ret <| t5 <| fx_blk_ret <| t4 <| hr H (by kernel_rfl)
   refine vx_skip <| fx_blk <| fx_seq <| ?_
   refine zb tok hT [3, 5, 9] (St.mk [p 3 (AV.ptr 3 0), p 5 (I (↑a1.2.1.length : Int)), p 9 (I (v5 + 1))] [(3, Ob.box 47 (cellsD false y47 a1))]) H (by kernel_rfl) fun H => ?_
   exact b5 H (by kernel_rfl)
  exact vx_exit <| fx_seq_exit <| e5 <| fx_blk_exit rfl <| n4 H (by kernel_rfl)
 refine qa tok hT [2, 3, 5, 6] (St.mk [p 2 (AV.ptr 2 0), p 3 (AV.ptr 3 0), p 5 (I (↑a1.2.1.length : Int)), p 6 (I 0)] [(3, Ob.box 47 (cellsD false y47 a1)), (2, Ob.box 43 [L y107 a0])]) (by kernel_rfl) ?_
 refine vx_block <| ?_
 refine lx (fun (v2 : Int) => St.mk [p 2 (AV.ptr 2 0), p 3 (AV.ptr 3 0), p 5 (I (↑a1.2.1.length : Int)), p 6 (I v2)] [(3, Ob.box 47 (cellsD false y47 a1)), (2, Ob.box 43 [L y107 a0])]) 0 H (by kernel_rfl) fun _ g1 b1 e1 t1 v2 H => ?_
 refine vx_seq <| ?_
 refine qa tok hT [2, 3, 5, 6, 17] (St.mk [p 2 (AV.ptr 2 0), p 3 (AV.ptr 3 0), p 5 (I (↑a1.2.1.length : Int)), p 6 (I v2), p 17 (B (decide (v2 < (↑a1.1.length : Int))))] [(3, Ob.box 47 (cellsD false y47 a1)), (2, Ob.box 43 [L y107 a0])]) (by kernel_rfl) ?_
 refine cd H (by kernel_rfl) (fun H => ?_) (fun H => ?_)
 ·refine vx_skip <| fx_seq <| ?_
  refine jn r (fun (_ : Unit) => St.mk [p 2 (AV.ptr 2 0), p 3 (AV.ptr 3 0), p 5 (I (↑a1.2.1.length : Int)), p 6 (I v2)] [(3, Ob.box 47 (cellsD false y47 a1)), (2, Ob.box 43 [L y107 a0])]) (u98J2 v2 g1) (fun _ H => ?_) (fun _ n2 e2 t2 => ?_)
  ·refine zb tok hT [2, 3, 5, 6] (St.mk [p 2 (AV.ptr 2 0), p 3 (AV.ptr 3 0), p 5 (I (↑a1.2.1.length : Int)), p 6 (I (v2 + 1))] [(3, Ob.box 47 (cellsD false y47 a1)), (2, Ob.box 43 [L y107 a0])]) H (by kernel_rfl) fun H => ?_
   exact b1 H (by kernel_rfl)
  refine vx_block <| ?_
  refine qd tok hT [2, 3, 5, 6, 7] (fun v3 => St.mk [p 2 (AV.ptr 2 0), p 3 (AV.ptr 3 0), p 5 (I (↑a1.2.1.length : Int)), p 6 (I v2), p 7 (AV.ptr 7 0)] [(7, Ob.box 109 (cellsD false y109 v3)), (3, Ob.box 47 (cellsD false y47 a1)), (2, Ob.box 43 [L y107 a0])]) H (by kernel_rfl) fun v3 H => ?_
  refine vx_seq <| ?_
  refine qb tok hT [2, 3, 5, 6, 7, 34, 35, 36, 37, 38, 39, 40, 41, 42, 43, 44, 45, 46] (St.mk [p 2 (AV.ptr 2 0), p 3 (AV.ptr 3 0), p 5 (I (↑a1.2.1.length : Int)), p 6 (I v2), p 7 (AV.ptr 7 0), p 46 (B (!vl (u61 v3.2.1 0 ((↑a0.length : Int) - 1)) || (↑v3.2.2.length : Int) != (↑(a0.getD v3.2.1.toNat (dflt y107)).2.2.1.length : Int)))] [(7, Ob.box 109 (cellsD false y109 v3)), (3, Ob.box 47 (cellsD false y47 a1)), (2, Ob.box 43 [L y107 a0])]) H (by kernel_rfl) fun H => ?_
  refine cd H (by kernel_rfl) (fun H => ?_) (fun H => ?_)
  ·refine qa tok hT [4] (St.mk [p 4 (B false)] [(7, Ob.box 109 (cellsD false y109 v3)), (3, Ob.box 47 (cellsD false y47 a1)), (2, Ob.box 43 [L y107 a0])]) (by kernel_rfl) ?_
   exact vx_ret <| fx_seq_ret <| fx_blk_ret <| t2 <| t1 <| fx_blk_ret <| t0 <| hr H (by kernel_rfl)
  refine vx_skip <| fx_seq <| ?_
  refine qa tok hT [2, 3, 5, 6, 7, 8] (St.mk [p 2 (AV.ptr 2 0), p 3 (AV.ptr 3 0), p 5 (I (↑a1.2.1.length : Int)), p 6 (I v2), p 7 (AV.ptr 7 0), p 8 (I 0)] [(7, Ob.box 109 (cellsD false y109 v3)), (3, Ob.box 47 (cellsD false y47 a1)), (2, Ob.box 43 [L y107 a0])]) (by kernel_rfl) ?_
  refine vx_block <| ?_
  refine lx (fun (v4 : Int) => St.mk [p 2 (AV.ptr 2 0), p 3 (AV.ptr 3 0), p 5 (I (↑a1.2.1.length : Int)), p 6 (I v2), p 7 (AV.ptr 7 0), p 8 (I v4)] [(7, Ob.box 109 (cellsD false y109 v3)), (3, Ob.box 47 (cellsD false y47 a1)), (2, Ob.box 43 [L y107 a0])]) 0 H (by kernel_rfl) fun _ g3 b3 e3 t3 v4 H => ?_
  refine vx_seq <| ?_
  refine qa tok hT [2, 3, 5, 6, 7, 8, 51] (St.mk [p 2 (AV.ptr 2 0), p 3 (AV.ptr 3 0), p 5 (I (↑a1.2.1.length : Int)), p 6 (I v2), p 7 (AV.ptr 7 0), p 8 (I v4), p 51 (B (decide (v4 < (↑v3.2.2.length : Int))))] [(7, Ob.box 109 (cellsD false y109 v3)), (3, Ob.box 47 (cellsD false y47 a1)), (2, Ob.box 43 [L y107 a0])]) (by kernel_rfl) ?_
  refine cd H (by kernel_rfl) (fun H => ?_) (fun H => ?_)
  ·refine vx_skip <| fx_seq <| vx_seq <| vx_block <| ?_
   refine qb tok hT [2, 3, 5, 6, 7, 8, 62] (St.mk [p 2 (AV.ptr 2 0), p 3 (AV.ptr 3 0), p 5 (I (↑a1.2.1.length : Int)), p 6 (I v2), p 7 (AV.ptr 7 0), p 8 (I v4), p 62 (B !vl (u61 (v3.2.2.getD v4.toNat 0) 0 ((↑a1.2.1.length : Int) - 1)))] [(7, Ob.box 109 (cellsD false y109 v3)), (3, Ob.box 47 (cellsD false y47 a1)), (2, Ob.box 43 [L y107 a0])]) H (by kernel_rfl) fun H => ?_
   refine cd H (by kernel_rfl) (fun H => ?_) (fun H => ?_)
   ·refine qa tok hT [4] (St.mk [p 4 (B false)] [(7, Ob.box 109 (cellsD false y109 v3)), (3, Ob.box 47 (cellsD false y47 a1)), (2, Ob.box 43 [L y107 a0])]) (by kernel_rfl) ?_
    exact vx_ret <| fx_blk_ret <| fx_seq_ret <| t3 <| fx_blk_ret <| fx_blk_ret <| t2 <| t1 <| fx_blk_ret <| t0 <| hr H (by kernel_rfl)
   refine vx_skip <| fx_blk <| fx_seq <| ?_
   refine zb tok hT [2, 3, 5, 6, 7, 8] (St.mk [p 2 (AV.ptr 2 0), p 3 (AV.ptr 3 0), p 5 (I (↑a1.2.1.length : Int)), p 6 (I v2), p 7 (AV.ptr 7 0), p 8 (I (v4 + 1))] [(7, Ob.box 109 (cellsD false y109 v3)), (3, Ob.box 47 (cellsD false y47 a1)), (2, Ob.box 43 [L y107 a0])]) H (by kernel_rfl) fun H => ?_
   exact b3 H (by kernel_rfl)
  exact vx_exit <| fx_seq_exit <| e3 <| fx_blk_exit rfl <| fx_blk <| n2 H (by kernel_rfl)
 exact vx_exit <| fx_seq_exit <| e1 <| fx_blk_exit rfl <| n0 H (by kernel_rfl)
def u174J0 : List Int → Option (List Int)
 | v4 =>
 some v4
def u174L1 (a0 : Y107) (g1 : Int × List Int → Option (List Int)) : Int × List Int → Option (List Int)
 | (v1, v2) =>
 if (decide (v1 < (↑a0.2.2.2.1.length : Int))) = true then
  gd (ix v1 a0.2.2.2.1.length ∧ ix (a0.2.2.2.1.getD v1.toNat (dflt y195)).1 v2.length ∧ (a0.2.2.2.1.getD v1.toNat (dflt y195)).1.toNat < v2.length ∧ in64 (v2.getD (a0.2.2.2.1.getD v1.toNat (dflt y195)).1.toNat 0 + 1) ∧ ix (a0.2.2.2.1.getD v1.toNat (dflt y195)).1 v2.length ∧ (a0.2.2.2.1.getD v1.toNat (dflt y195)).1.toNat < v2.length ∧ True) <| lt (v2.set (a0.2.2.2.1.getD v1.toNat (dflt y195)).1.toNat (v2.getD (a0.2.2.2.1.getD v1.toNat (dflt y195)).1.toNat 0 + 1)) fun v3 =>
  gd (in64 (v1 + 1) ∧ True) <| 
  g1 (v1 + 1, v3)
 else
  u174J0 v2
def u174 (a0 : Y107) : Option (List Int) :=
 gd (((0 : Int) ≤ (6 : Int) ∧ (6 : Int) = (6 : Int) ∧ Int.toNat (6 : Int) * (8 : Nat) ≤ (281474976710656 : Nat) ∧ (6 : Int) ≤ (9223372036854775807 : Int)) ∧ True) <| 
 lp (u174L1 a0) ((0, List.replicate (Int.toNat (6 : Int)) (0 : Int)))
def k174 : Ct := lct 174 [.agg y107] (fun x => u174 x.1) (fun r : List Int => AV.ow 2 true i64 r) (fun _ => ())
theorem o174 : Ok Tryz.prog k174 := by
 refine okl tok [.tmp 2] Tryz.func174 Tryz.ntmps174 rfl Tryz.results174 (by kernel_rfl) rfl ?_
 intro y ⟨a0, _⟩ r H Q hn hr
 have hT := @tn Tryz.prog
 refine qa tok hT [1] (St.mk [p 1 (AV.ptr 1 0)] [(1, Ob.box 107 (cellsD false y107 a0))]) (by kernel_rfl) ?_
 refine qb tok hT [1, 3] (St.mk [p (1 : Nat) (AV.ptr (1 : Nat) (0 : Nat)), p (3 : Nat) (AV.os (5 : Nat) (0 : Nat))] [((5 : Nat), Ob.arr (nat_lit 2) true i64 (List.replicate (Int.toNat (6 : Int)) (0 : Int)) (0 : Nat)), ((1 : Nat), Ob.box (nat_lit 107) (cellsD false y107 a0))]) H (by kernel_rfl) fun H => ?_
 refine jn r (fun (v4 : List Int) => St.mk [p 3 (AV.os 5 0)] [(5, Ob.arr 2 true i64 v4 0)]) (u174J0) (fun v4 H => ?_) (fun _ n0 e0 t0 => ?_)
 ·refine qa tok hT [2] (St.mk [p 2 (AV.os 5 0)] [(5, Ob.arr 2 true i64 v4 0)]) (by kernel_rfl) ?_
  exact vx_ret <| hr H (by kernel_rfl)
 refine qa tok hT [1, 3, 4] (St.mk [p (1 : Nat) (AV.ptr (1 : Nat) (0 : Nat)), p (3 : Nat) (AV.os (5 : Nat) (0 : Nat)), p (4 : Nat) (I (0 : Int))] [((5 : Nat), Ob.arr (nat_lit 2) true i64 (List.replicate (Int.toNat (6 : Int)) (0 : Int)) (0 : Nat)), ((1 : Nat), Ob.box (nat_lit 107) (cellsD false y107 a0))]) (by kernel_rfl) ?_
 refine vx_block <| ?_
 refine lx (fun ((v1, v2) : Int × List Int) => St.mk [p 1 (AV.ptr 1 0), p 3 (AV.os 5 0), p 4 (I v1)] [(5, Ob.arr 2 true i64 v2 0), (1, Ob.box 107 (cellsD false y107 a0))]) ((0, List.replicate (Int.toNat (6 : Int)) (0 : Int))) H (by kernel_rfl) fun _ g1 b1 e1 t1 ⟨v1, v2⟩ H => ?_
 refine vx_seq <| ?_
 refine qa tok hT [1, 3, 4, 10] (St.mk [p 1 (AV.ptr 1 0), p 3 (AV.os 5 0), p 4 (I v1), p 10 (B (decide (v1 < (↑a0.2.2.2.1.length : Int))))] [(5, Ob.arr 2 true i64 v2 0), (1, Ob.box 107 (cellsD false y107 a0))]) (by kernel_rfl) ?_
 refine cd H (by kernel_rfl) (fun H => ?_) (fun H => ?_)
 ·refine vx_skip <| fx_seq <| vx_seq <| vx_block <| ?_
  refine zd tok hT [1, 3, 4] (fun v3 => St.mk [p 1 (AV.ptr 1 0), p 3 (AV.os 5 0), p 4 (I v1)] [(5, Ob.arr 2 true i64 v3 0), (1, Ob.box 107 (cellsD false y107 a0))]) H (by kernel_rfl) fun v3 H => ?_
  refine fx_blk <| fx_seq <| ?_
  refine zb tok hT [1, 3, 4] (St.mk [p 1 (AV.ptr 1 0), p 3 (AV.os 5 0), p 4 (I (v1 + 1))] [(5, Ob.arr 2 true i64 v3 0), (1, Ob.box 107 (cellsD false y107 a0))]) H (by kernel_rfl) fun H => ?_
  exact b1 H (by kernel_rfl)
 exact vx_exit <| fx_seq_exit <| e1 <| fx_blk_exit rfl <| n0 H (by kernel_rfl)
def u246J0 (a0 : List Int) : Unit → Option (Bool)
 | _ =>
 some (decide (1 ≤ (↑a0.length : Int)) && decide ((↑a0.length : Int) ≤ 4))
def u246L1 (a0 : List Int) (g1 : Int → Option (Bool)) : Int → Option (Bool)
 | v0 =>
 if (decide (v0 < (↑a0.length : Int))) = true then
  gd (ix v0 a0.length ∧ (u61 (a0.getD v0.toNat 0) 0 100000).isSome = true ∧ (decide (0 < v0) = true ∧ (!vl (u61 (a0.getD v0.toNat 0) 0 100000)) = false ∧ True → in64 (v0 - 1)) ∧ (decide (0 < v0) = true ∧ (!vl (u61 (a0.getD v0.toNat 0) 0 100000)) = false ∧ True → ix (v0 - 1) a0.length) ∧ (decide (0 < v0) = true ∧ (!vl (u61 (a0.getD v0.toNat 0) 0 100000)) = false ∧ True → ix v0 a0.length) ∧ True) <| 
  if (!vl (u61 (a0.getD v0.toNat 0) 0 100000) || decide (0 < v0) && decide (a0.getD v0.toNat 0 ≤ a0.getD (v0 - 1).toNat 0)) = true then
   some false
  else
   gd (in64 (v0 + 1) ∧ True) <| 
   g1 (v0 + 1)
 else
  u246J0 a0 ()
def u246 (a0 : List Int) : Option (Bool) :=
 lp (u246L1 a0) 0
def k246 : Ct := lct 246 [.dat i64.sl] (fun x => u246 x.1) (fun r : Bool => B r) (fun _ => ())
theorem o246 : Ok Tryz.prog k246 := by
 refine okl tok [.tmp 2] Tryz.func246 Tryz.ntmps246 rfl Tryz.results246 (by kernel_rfl) rfl ?_
 intro y ⟨a0, _⟩ r H Q hn hr
 have hT := tc o61 tn
 refine qa tok hT [0] (St.mk [p 0 (L i64 a0)] []) (by kernel_rfl) ?_
 refine jn r (fun (_ : Unit) => St.mk [p 0 (L i64 a0)] []) (u246J0 a0) (fun _ H => ?_) (fun _ n0 e0 t0 => ?_)
 ·refine qa tok hT [2] (St.mk [p 2 (B (decide (1 ≤ (↑a0.length : Int)) && decide ((↑a0.length : Int) ≤ 4)))] []) (by kernel_rfl) ?_
  exact vx_ret <| hr H (by kernel_rfl)
 refine qa tok hT [0, 3] (St.mk [p 0 (L i64 a0), p 3 (I 0)] []) (by kernel_rfl) ?_
 refine vx_block <| ?_
 refine lx (fun (v0 : Int) => St.mk [p 0 (L i64 a0), p 3 (I v0)] []) 0 H (by kernel_rfl) fun _ g1 b1 e1 t1 v0 H => ?_
 refine vx_seq <| ?_
 refine qa tok hT [0, 3, 7] (St.mk [p 0 (L i64 a0), p 3 (I v0), p 7 (B (decide (v0 < (↑a0.length : Int))))] []) (by kernel_rfl) ?_
 refine cd H (by kernel_rfl) (fun H => ?_) (fun H => ?_)
 ·refine vx_skip <| fx_seq <| vx_seq <| vx_block <| ?_
  refine qb tok hT [0, 3, 17, 18, 19, 20, 21, 22, 23, 24, 25, 26, 27, 28, 29, 30, 31] (St.mk [p 0 (L i64 a0), p 3 (I v0), p 31 (B (!vl (u61 (a0.getD v0.toNat 0) 0 100000) || decide (0 < v0) && decide (a0.getD v0.toNat 0 ≤ a0.getD (v0 - 1).toNat 0)))] []) H (by kernel_rfl) fun H => ?_
  refine cd H (by kernel_rfl) (fun H => ?_) (fun H => ?_)
  ·refine qa tok hT [2] (St.mk [p 2 (B false)] []) (by kernel_rfl) ?_
   exact vx_ret <| fx_blk_ret <| fx_seq_ret <| t1 <| fx_blk_ret <| t0 <| hr H (by kernel_rfl)
  refine vx_skip <| fx_blk <| fx_seq <| ?_
  refine zb tok hT [0, 3] (St.mk [p 0 (L i64 a0), p 3 (I (v0 + 1))] []) H (by kernel_rfl) fun H => ?_
  exact b1 H (by kernel_rfl)
 exact vx_exit <| fx_seq_exit <| e1 <| fx_blk_exit rfl <| n0 H (by kernel_rfl)
def u231J0 : Unit → Option (Bool)
 | _ =>
 some true
def u231L1 (a0 : Y232) (g1 : Int → Option (Bool)) : Int → Option (Bool)
 | v0 =>
 if (decide (v0 < (↑a0.2.2.length : Int))) = true then
  gd (ix v0 a0.2.2.length ∧ (u61 (a0.2.2.getD v0.toNat 0) (-1000000) 1000000).isSome = true ∧ True) <| 
  if (!vl (u61 (a0.2.2.getD v0.toNat 0) (-1000000) 1000000)) = true then
   some false
  else
   gd (in64 (v0 + 1) ∧ True) <| 
   g1 (v0 + 1)
 else
  u231J0 ()
def u231 (a0 : Y232) : Option (Bool) :=
 gd ((u246 a0.1).isSome = true ∧ ((!vl (u246 a0.1)) = false ∧ True → (u246 a0.2.1).isSome = true) ∧ ((!vl (u246 a0.1) || !vl (u246 a0.2.1)) = false ∧ True → in64 ((↑a0.1.length : Int) * (↑a0.2.1.length : Int))) ∧ True) <| 
 if (!vl (u246 a0.1) || !vl (u246 a0.2.1) || (↑a0.2.2.length : Int) != (↑a0.1.length : Int) * (↑a0.2.1.length : Int)) = true then
  some false
 else
  lp (u231L1 a0) 0
def k231 : Ct := lct 231 [.agg y232] (fun x => u231 x.1) (fun r : Bool => B r) (fun _ => ())
theorem o231 : Ok Tryz.prog k231 := by
 refine okl tok [.tmp 2] Tryz.func231 Tryz.ntmps231 rfl Tryz.results231 (by kernel_rfl) rfl ?_
 intro y ⟨a0, _⟩ r H Q hn hr
 have hT := tc o61 (tc o246 tn)
 refine qa tok hT [1] (St.mk [p 1 (AV.ptr 1 0)] [(1, Ob.box 232 (cellsD false y232 a0))]) (by kernel_rfl) ?_
 refine vx_seq <| ?_
 refine qb tok hT [1, 26] (St.mk [p 1 (AV.ptr 1 0), p 26 (B (!vl (u246 a0.1) || !vl (u246 a0.2.1) || (↑a0.2.2.length : Int) != (↑a0.1.length : Int) * (↑a0.2.1.length : Int)))] [(1, Ob.box 232 (cellsD false y232 a0))]) H (by kernel_rfl) fun H => ?_
 refine cd H (by kernel_rfl) (fun H => ?_) (fun H => ?_)
 ·refine qa tok hT [2] (St.mk [p 2 (B false)] [(1, Ob.box 232 (cellsD false y232 a0))]) (by kernel_rfl) ?_
  exact vx_ret <| fx_seq_ret <| hr H (by kernel_rfl)
 refine vx_skip <| fx_seq <| ?_
 refine jn r (fun (_ : Unit) => St.mk [] []) (u231J0) (fun _ H => ?_) (fun _ n0 e0 t0 => ?_)
 ·refine qa tok hT [2] (St.mk [p 2 (B true)] []) (by kernel_rfl) ?_
  exact vx_ret <| hr H (by kernel_rfl)
 refine qa tok hT [1, 3] (St.mk [p 1 (AV.ptr 1 0), p 3 (I 0)] [(1, Ob.box 232 (cellsD false y232 a0))]) (by kernel_rfl) ?_
 refine vx_block <| ?_
 refine lx (fun (v0 : Int) => St.mk [p 1 (AV.ptr 1 0), p 3 (I v0)] [(1, Ob.box 232 (cellsD false y232 a0))]) 0 H (by kernel_rfl) fun _ g1 b1 e1 t1 v0 H => ?_
 refine vx_seq <| ?_
 refine qa tok hT [1, 3, 31] (St.mk [p 1 (AV.ptr 1 0), p 3 (I v0), p 31 (B (decide (v0 < (↑a0.2.2.length : Int))))] [(1, Ob.box 232 (cellsD false y232 a0))]) (by kernel_rfl) ?_
 refine cd H (by kernel_rfl) (fun H => ?_) (fun H => ?_)
 ·refine vx_skip <| fx_seq <| vx_seq <| vx_block <| ?_
  refine qb tok hT [1, 3, 40] (St.mk [p 1 (AV.ptr 1 0), p 3 (I v0), p 40 (B !vl (u61 (a0.2.2.getD v0.toNat 0) (-1000000) 1000000))] [(1, Ob.box 232 (cellsD false y232 a0))]) H (by kernel_rfl) fun H => ?_
  refine cd H (by kernel_rfl) (fun H => ?_) (fun H => ?_)
  ·refine qa tok hT [2] (St.mk [p 2 (B false)] [(1, Ob.box 232 (cellsD false y232 a0))]) (by kernel_rfl) ?_
   exact vx_ret <| fx_blk_ret <| fx_seq_ret <| t1 <| fx_blk_ret <| t0 <| hr H (by kernel_rfl)
  refine vx_skip <| fx_blk <| fx_seq <| ?_
  refine zb tok hT [1, 3] (St.mk [p 1 (AV.ptr 1 0), p 3 (I (v0 + 1))] [(1, Ob.box 232 (cellsD false y232 a0))]) H (by kernel_rfl) fun H => ?_
  exact b1 H (by kernel_rfl)
 exact vx_exit <| fx_seq_exit <| e1 <| fx_blk_exit rfl <| n0 H (by kernel_rfl)
def u215J0 : Int × Int → Option (Y253 × Int)
 | (v5, v6) =>
 some (((v5, v6), (0 : Int)))
def u215L1 (a0 : Y232) (g1 : Int × Int × Int → Option (Y253 × Int)) : Int × Int × Int → Option (Y253 × Int)
 | (v2, v3, v4) =>
 if (decide (v2 < (↑a0.2.2.length : Int))) = true then
  gd (ix v2 a0.2.2.length ∧ True) <| 
  gd (ix v2 a0.2.2.length ∧ True) <| 
  gd (in64 (v2 + 1) ∧ True) <| 
  g1 ((v2 + 1, min v3 (a0.2.2.getD v2.toNat 0), max v4 (a0.2.2.getD v2.toNat 0)))
 else
  u215J0 (v3, v4)
def u215 (a0 : Y232) : Option (Y253 × Int) :=
 gd ((u231 a0).isSome = true ∧ True) <| 
 if (!vl (u231 a0)) = true then
  some ((((0 : Int), (0 : Int)), (1 : Int)))
 else
  gd (ix 0 a0.2.2.length ∧ ix 0 a0.2.2.length ∧ True) <| 
  lp (u215L1 a0) ((1, a0.2.2.getD (Int.toNat (0 : Int)) (0 : Int), a0.2.2.getD (Int.toNat (0 : Int)) (0 : Int)))
def k215 : Ct := lct 215 [.agg y232] (fun x => u215 x.1) (fun r : Y253 × Int => AV.tup [AV.agg [I r.1.1, I r.1.2], I r.2]) (fun _ => ())
theorem o215 : Ok Tryz.prog k215 := by
 refine okl tok [.cell 2 253, .tmp 3] Tryz.func215 Tryz.ntmps215 rfl Tryz.results215 (by kernel_rfl) rfl ?_
 intro y ⟨a0, _⟩ r H Q hn hr
 have hT := tc o231 tn
 refine qa tok hT [1, 2] (St.mk [p 1 (AV.ptr 1 0), p 2 (AV.ptr 2 0)] [(2, Ob.box 253 [I 0, I 0]), (1, Ob.box 232 (cellsD false y232 a0))]) (by kernel_rfl) ?_
 refine vx_seq <| ?_
 refine qb tok hT [1, 2, 8] (St.mk [p 1 (AV.ptr 1 0), p 2 (AV.ptr 2 0), p 8 (B !vl (u231 a0))] [(2, Ob.box 253 [I 0, I 0]), (1, Ob.box 232 (cellsD false y232 a0))]) H (by kernel_rfl) fun H => ?_
 refine cd H (by kernel_rfl) (fun H => ?_) (fun H => ?_)
 ·refine qa tok hT [2, 3] (St.mk [p 2 (AV.ptr 2 0), p 3 (I 1)] [(2, Ob.box 253 [I 0, I 0]), (1, Ob.box 232 (cellsD false y232 a0))]) (by kernel_rfl) ?_
  exact vx_ret <| fx_seq_ret <| hr H (by kernel_rfl)
 refine vx_skip <| fx_seq <| ?_
 refine qb tok hT [1, 2, 4] (St.mk [p (1 : Nat) (AV.ptr (1 : Nat) (0 : Nat)), p (2 : Nat) (AV.ptr (2 : Nat) (0 : Nat)), p (4 : Nat) (AV.ptr (4 : Nat) (0 : Nat))] [((4 : Nat), Ob.box (nat_lit 253) [J (a0.2.2.getD (Int.toNat (0 : Int)) (0 : Int)), J (a0.2.2.getD (Int.toNat (0 : Int)) (0 : Int))]), ((2 : Nat), Ob.box (nat_lit 253) [I (0 : Int), I (0 : Int)]), ((1 : Nat), Ob.box (nat_lit 232) (cellsD false y232 a0))]) H (by kernel_rfl) fun H => ?_
 refine jn r (fun ((v5, v6) : Int × Int) => St.mk [p 2 (AV.ptr 2 0), p 4 (AV.ptr 4 0)] [(4, Ob.box 253 [J v5, J v6]), (2, Ob.box 253 [I 0, I 0])]) (u215J0) (fun ⟨v5, v6⟩ H => ?_) (fun _ n0 e0 t0 => ?_)
 ·refine qa tok hT [2, 3] (St.mk [p 2 (AV.ptr 2 0), p 3 (I 0)] [(2, Ob.box 253 [J v5, J v6]), (4, Ob.box 253 [J v5, J v6])]) (by kernel_rfl) ?_
  exact vx_ret <| hr H (by kernel_rfl)
 refine qa tok hT [1, 2, 4, 5] (St.mk [p (1 : Nat) (AV.ptr (1 : Nat) (0 : Nat)), p (2 : Nat) (AV.ptr (2 : Nat) (0 : Nat)), p (4 : Nat) (AV.ptr (4 : Nat) (0 : Nat)), p (5 : Nat) (I (1 : Int))] [((4 : Nat), Ob.box (nat_lit 253) [J (a0.2.2.getD (Int.toNat (0 : Int)) (0 : Int)), J (a0.2.2.getD (Int.toNat (0 : Int)) (0 : Int))]), ((2 : Nat), Ob.box (nat_lit 253) [I (0 : Int), I (0 : Int)]), ((1 : Nat), Ob.box (nat_lit 232) (cellsD false y232 a0))]) (by kernel_rfl) ?_
 refine vx_block <| ?_
 refine lx (fun ((v2, v3, v4) : Int × Int × Int) => St.mk [p 1 (AV.ptr 1 0), p 2 (AV.ptr 2 0), p 4 (AV.ptr 4 0), p 5 (I v2)] [(4, Ob.box 253 [J v3, J v4]), (2, Ob.box 253 [I 0, I 0]), (1, Ob.box 232 (cellsD false y232 a0))]) ((1, a0.2.2.getD (Int.toNat (0 : Int)) (0 : Int), a0.2.2.getD (Int.toNat (0 : Int)) (0 : Int))) H (by kernel_rfl) fun _ g1 b1 e1 t1 ⟨v2, v3, v4⟩ H => ?_
 refine vx_seq <| ?_
 refine qa tok hT [1, 2, 4, 5, 23] (St.mk [p 1 (AV.ptr 1 0), p 2 (AV.ptr 2 0), p 4 (AV.ptr 4 0), p 5 (I v2), p 23 (B (decide (v2 < (↑a0.2.2.length : Int))))] [(4, Ob.box 253 [J v3, J v4]), (2, Ob.box 253 [I 0, I 0]), (1, Ob.box 232 (cellsD false y232 a0))]) (by kernel_rfl) ?_
 refine cd H (by kernel_rfl) (fun H => ?_) (fun H => ?_)
 ·refine vx_skip <| fx_seq <| vx_seq <| vx_block <| ?_
  refine qb tok hT [1, 2, 4, 5] (St.mk [p 1 (AV.ptr 1 0), p 2 (AV.ptr 2 0), p 4 (AV.ptr 4 0), p 5 (I v2)] [(4, Ob.box 253 [I (min v3 (a0.2.2.getD v2.toNat 0)), J v4]), (2, Ob.box 253 [I 0, I 0]), (1, Ob.box 232 (cellsD false y232 a0))]) H (by kernel_rfl) fun H => ?_
  refine zb tok hT [1, 2, 4, 5] (St.mk [p 1 (AV.ptr 1 0), p 2 (AV.ptr 2 0), p 4 (AV.ptr 4 0), p 5 (I v2)] [(4, Ob.box 253 [I (min v3 (a0.2.2.getD v2.toNat 0)), I (max v4 (a0.2.2.getD v2.toNat 0))]), (2, Ob.box 253 [I 0, I 0]), (1, Ob.box 232 (cellsD false y232 a0))]) H (by kernel_rfl) fun H => ?_
  refine fx_blk <| fx_seq <| ?_
  refine zb tok hT [1, 2, 4, 5] (St.mk [p 1 (AV.ptr 1 0), p 2 (AV.ptr 2 0), p 4 (AV.ptr 4 0), p 5 (I (v2 + 1))] [(4, Ob.box 253 [I (min v3 (a0.2.2.getD v2.toNat 0)), I (max v4 (a0.2.2.getD v2.toNat 0))]), (2, Ob.box 253 [I 0, I 0]), (1, Ob.box 232 (cellsD false y232 a0))]) H (by kernel_rfl) fun H => ?_
  exact b1 H (by kernel_rfl)
 exact vx_exit <| fx_seq_exit <| e1 <| fx_blk_exit rfl <| n0 H (by kernel_rfl)
def u197J0 : Unit → Option (Bool)
 | _ =>
 some true
def u197L1 (a1 : Bool) (a0 : List Y232) (g1 : Int → Option (Bool)) : Int → Option (Bool)
 | v1 =>
 if (decide (v1 < 2)) = true then
  gd (ix v1 a0.length ∧ (u215 (a0.getD v1.toNat (dflt y232))).isSome = true ∧ True) <| lt (vl (u215 (a0.getD v1.toNat (dflt y232)))) fun v2 =>
  if (v2.2 != 0 || a1 && decide (v2.1.1 < 0)) = true then
   some false
  else
   gd (in64 (v1 + 1) ∧ True) <| 
   g1 (v1 + 1)
 else
  u197J0 ()
def u197 (a0 : List Y232) (a1 : Bool) : Option (Bool) :=
 if ((↑a0.length : Int) != 2) = true then
  some false
 else
  lp (u197L1 a1 a0) 0
def k197 : Ct := lct 197 [.dat y232.sl, .dat Ty.bool] (fun x => u197 x.1 x.2.1) (fun r : Bool => B r) (fun _ => ())
theorem o197 : Ok Tryz.prog k197 := by
 refine okl tok [.tmp 4] Tryz.func197 Tryz.ntmps197 rfl Tryz.results197 (by kernel_rfl) rfl ?_
 intro y ⟨a0, a1, _⟩ r H Q hn hr
 have hT := tc o215 tn
 refine qa tok hT [0, 1] (St.mk [p 0 (L y232 a0), p 1 (C a1)] []) (by kernel_rfl) ?_
 refine vx_seq <| ?_
 refine qa tok hT [0, 1, 10] (St.mk [p 0 (L y232 a0), p 1 (C a1), p 10 (B ((↑a0.length : Int) != 2))] []) (by kernel_rfl) ?_
 refine cd H (by kernel_rfl) (fun H => ?_) (fun H => ?_)
 ·refine qa tok hT [4] (St.mk [p 4 (B false)] []) (by kernel_rfl) ?_
  exact vx_ret <| fx_seq_ret <| hr H (by kernel_rfl)
 refine vx_skip <| fx_seq <| ?_
 refine jn r (fun (_ : Unit) => St.mk [] []) (u197J0) (fun _ H => ?_) (fun _ n0 e0 t0 => ?_)
 ·refine qa tok hT [4] (St.mk [p 4 (B true)] []) (by kernel_rfl) ?_
  exact vx_ret <| hr H (by kernel_rfl)
 refine qa tok hT [0, 1, 5] (St.mk [p 0 (L y232 a0), p 1 (C a1), p 5 (I 0)] []) (by kernel_rfl) ?_
 refine vx_block <| ?_
 refine lx (fun (v1 : Int) => St.mk [p 0 (L y232 a0), p 1 (C a1), p 5 (I v1)] []) 0 H (by kernel_rfl) fun _ g1 b1 e1 t1 v1 H => ?_
 refine vx_seq <| ?_
 refine qa tok hT [0, 1, 5, 12] (St.mk [p 0 (L y232 a0), p 1 (C a1), p 5 (I v1), p 12 (B (decide (v1 < 2)))] []) (by kernel_rfl) ?_
 refine cd H (by kernel_rfl) (fun H => ?_) (fun H => ?_)
 ·refine vx_skip <| fx_seq <| vx_seq <| vx_block <| ?_
  refine qd tok hT [0, 1, 5, 6, 7] (fun v2 => St.mk [p 0 (L y232 a0), p 1 (C a1), p 5 (I v1), p 6 (AV.ptr 6 0), p 7 (I v2.2)] [(6, Ob.box 253 (cellsD true y253 v2.1))]) H (by kernel_rfl) fun v2 H => ?_
  refine qa tok hT [0, 1, 5, 26, 27, 28, 29, 30, 31, 32] (St.mk [p 0 (L y232 a0), p 1 (C a1), p 5 (I v1), p 32 (B (v2.2 != 0 || a1 && decide (v2.1.1 < 0)))] [(6, Ob.box 253 (cellsD true y253 v2.1))]) (by kernel_rfl) ?_
  refine cd H (by kernel_rfl) (fun H => ?_) (fun H => ?_)
  ·refine qa tok hT [4] (St.mk [p 4 (B false)] [(6, Ob.box 253 (cellsD true y253 v2.1))]) (by kernel_rfl) ?_
   exact vx_ret <| fx_blk_ret <| fx_seq_ret <| t1 <| fx_blk_ret <| t0 <| hr H (by kernel_rfl)
  refine vx_skip <| fx_blk <| fx_seq <| ?_
  refine zb tok hT [0, 1, 5] (St.mk [p 0 (L y232 a0), p 1 (C a1), p 5 (I (v1 + 1))] [(6, Ob.box 253 (cellsD true y253 v2.1))]) H (by kernel_rfl) fun H => ?_
  exact b1 H (by kernel_rfl)
 exact vx_exit <| fx_seq_exit <| e1 <| fx_blk_exit rfl <| n0 H (by kernel_rfl)
def u173J1 (v0 : Y147) (a1 : Y195) (a0 : Y107) : Bool → Option (Bool)
 | v2 =>
 if v2 = true then
  gd (((v0.2.2.2 && decide (a1.2.2.1 < (↑a0.2.2.1.length : Int) - 1)) = true ∧ True → ix a1.2.2.1 a0.2.2.1.length) ∧ ((v0.2.2.2 && decide (a1.2.2.1 < (↑a0.2.2.1.length : Int) - 1) && !(a0.2.2.1.getD a1.2.2.1.toNat (dflt y147)).2.2.2 && a1.2.2.2.1 == 0) = true ∧ True → (u197 a1.2.2.2.2.1 false).isSome = true) ∧ True) <| 
  some (v0.2.2.2 && decide (a1.2.2.1 < (↑a0.2.2.1.length : Int) - 1) && !(a0.2.2.1.getD a1.2.2.1.toNat (dflt y147)).2.2.2 && a1.2.2.2.1 == 0 && vl (u197 a1.2.2.2.2.1 false) && (↑a1.2.2.2.2.2.length : Int) == 0)
 else
  some false
def u173J0 (v0 : Y147) (a1 : Y195) (a0 : Y107) : Bool → Option (Bool)
 | v1 =>
 if v1 = true then
  gd (((v0.2.2.2 && a1.2.2.1 == (↑a0.2.2.1.length : Int) - 1 && a1.2.2.2.1 == 0) = true ∧ True → (u197 a1.2.2.2.2.1 true).isSome = true) ∧ ((v0.2.2.2 && a1.2.2.1 == (↑a0.2.2.1.length : Int) - 1 && a1.2.2.2.1 == 0 && vl (u197 a1.2.2.2.2.1 true)) = true ∧ True → (u197 a1.2.2.2.2.2 true).isSome = true) ∧ True) <| 
  some (v0.2.2.2 && a1.2.2.1 == (↑a0.2.2.1.length : Int) - 1 && a1.2.2.2.1 == 0 && vl (u197 a1.2.2.2.2.1 true) && vl (u197 a1.2.2.2.2.2 true))
 else
  if (a1.1 == 4) = true then
   u173J1 v0 a1 a0 (a1.1 == 4)
  else
   u173J1 v0 a1 a0 (a1.1 == 5)
def u173 (a0 : Y107) (a1 : Y195) : Option (Bool) :=
 gd (in64 ((↑a0.2.2.1.length : Int) - 1) ∧ True) <| 
 gd (in64 ((↑a0.2.2.1.length : Int) - 1 - 1) ∧ (u61 a1.2.1 0 ((↑a0.2.2.1.length : Int) - 1 - 1)).isSome = true ∧ ((!vl (u61 a1.2.1 0 ((↑a0.2.2.1.length : Int) - 1 - 1))) = false ∧ True → (u61 a1.2.2.1 0 ((↑a0.2.2.1.length : Int) - 1)).isSome = true) ∧ True) <| 
 if (!vl (u61 a1.2.1 0 ((↑a0.2.2.1.length : Int) - 1 - 1)) || !vl (u61 a1.2.2.1 0 ((↑a0.2.2.1.length : Int) - 1))) = true then
  some false
 else
  gd (ix a1.2.1 a0.2.2.1.length ∧ True) <| lt (a0.2.2.1.getD a1.2.1.toNat (dflt y147)) fun v0 =>
  if (a1.1 == 1) = true then
   gd (((!v0.2.2.2 && a1.2.2.1 == (↑a0.2.2.1.length : Int) - 1) = true ∧ True → (u61 a1.2.2.2.1 1 3).isSome = true) ∧ ((!v0.2.2.2 && a1.2.2.1 == (↑a0.2.2.1.length : Int) - 1 && vl (u61 a1.2.2.2.1 1 3)) = true ∧ True → (u197 a1.2.2.2.2.1 true).isSome = true) ∧ ((!v0.2.2.2 && a1.2.2.1 == (↑a0.2.2.1.length : Int) - 1 && vl (u61 a1.2.2.2.1 1 3) && vl (u197 a1.2.2.2.2.1 true)) = true ∧ True → (u197 a1.2.2.2.2.2 true).isSome = true) ∧ True) <| 
   some (!v0.2.2.2 && a1.2.2.1 == (↑a0.2.2.1.length : Int) - 1 && vl (u61 a1.2.2.2.1 1 3) && vl (u197 a1.2.2.2.2.1 true) && vl (u197 a1.2.2.2.2.2 true))
  else
   if (a1.1 == 2) = true then
    u173J0 v0 a1 a0 (a1.1 == 2)
   else
    u173J0 v0 a1 a0 (a1.1 == 3)
def k173 : Ct := lct 173 [.agg y107, .agg y195] (fun x => u173 x.1 x.2.1) (fun r : Bool => B r) (fun _ => ())
theorem o173 : Ok Tryz.prog k173 := by
 refine okl tok [.tmp 4] Tryz.func173 Tryz.ntmps173 rfl Tryz.results173 (by kernel_rfl) rfl ?_
 intro y ⟨a0, a1, _⟩ r H Q hn hr
 have hT := tc o197 (tc o61 tn)
 refine qa tok hT [2, 3] (St.mk [p 2 (AV.ptr 2 0), p 3 (AV.ptr 3 0)] [(3, Ob.box 195 (cellsD false y195 a1)), (2, Ob.box 107 (cellsD false y107 a0))]) (by kernel_rfl) ?_
 refine qb tok hT [2, 3, 5] (St.mk [p 2 (AV.ptr 2 0), p 3 (AV.ptr 3 0), p 5 (I ((↑a0.2.2.1.length : Int) - 1))] [(3, Ob.box 195 (cellsD false y195 a1)), (2, Ob.box 107 (cellsD false y107 a0))]) H (by kernel_rfl) fun H => ?_
 refine vx_seq <| ?_
 refine qb tok hT [2, 3, 5, 23] (St.mk [p 2 (AV.ptr 2 0), p 3 (AV.ptr 3 0), p 5 (I ((↑a0.2.2.1.length : Int) - 1)), p 23 (B (!vl (u61 a1.2.1 0 ((↑a0.2.2.1.length : Int) - 1 - 1)) || !vl (u61 a1.2.2.1 0 ((↑a0.2.2.1.length : Int) - 1))))] [(3, Ob.box 195 (cellsD false y195 a1)), (2, Ob.box 107 (cellsD false y107 a0))]) H (by kernel_rfl) fun H => ?_
 refine cd H (by kernel_rfl) (fun H => ?_) (fun H => ?_)
 ·refine qa tok hT [4] (St.mk [p 4 (B false)] [(3, Ob.box 195 (cellsD false y195 a1)), (2, Ob.box 107 (cellsD false y107 a0))]) (by kernel_rfl) ?_
  exact vx_ret <| fx_seq_ret <| hr H (by kernel_rfl)
 refine vx_skip <| fx_seq <| ?_
 refine qd tok hT [2, 3, 5, 6] (fun v0 => St.mk [p 2 (AV.ptr 2 0), p 3 (AV.ptr 3 0), p 5 (I ((↑a0.2.2.1.length : Int) - 1)), p 6 (C v0.2.2.2)] [(3, Ob.box 195 (cellsD false y195 a1)), (2, Ob.box 107 (cellsD false y107 a0))]) H (by kernel_rfl) fun v0 H => ?_
 refine vx_seq <| ?_
 refine qa tok hT [2, 3, 5, 6, 32] (St.mk [p 2 (AV.ptr 2 0), p 3 (AV.ptr 3 0), p 5 (I ((↑a0.2.2.1.length : Int) - 1)), p 6 (C v0.2.2.2), p 32 (J a1.1)] [(3, Ob.box 195 (cellsD false y195 a1)), (2, Ob.box 107 (cellsD false y107 a0))]) (by kernel_rfl) ?_
 refine vx_block <| ?_
 refine qa tok hT [2, 3, 5, 6, 32, 33] (St.mk [p 2 (AV.ptr 2 0), p 3 (AV.ptr 3 0), p 5 (I ((↑a0.2.2.1.length : Int) - 1)), p 6 (C v0.2.2.2), p 32 (J a1.1), p 33 (B (a1.1 == 1))] [(3, Ob.box 195 (cellsD false y195 a1)), (2, Ob.box 107 (cellsD false y107 a0))]) (by kernel_rfl) ?_
 refine cd H (by kernel_rfl) (fun H => ?_) (fun H => ?_)
 ·refine qb tok hT [4] (St.mk [p 4 (B (!v0.2.2.2 && a1.2.2.1 == (↑a0.2.2.1.length : Int) - 1 && vl (u61 a1.2.2.2.1 1 3) && vl (u197 a1.2.2.2.2.1 true) && vl (u197 a1.2.2.2.2.2 true)))] [(3, Ob.box 195 (cellsD false y195 a1)), (2, Ob.box 107 (cellsD false y107 a0))]) H (by kernel_rfl) fun H => ?_
  exact vx_ret <| fx_blk_ret <| fx_seq_ret <| hr H (by kernel_rfl)
 refine jn r (fun (v1 : Bool) => St.mk [p 2 (AV.ptr 2 0), p 3 (AV.ptr 3 0), p 5 (I ((↑a0.2.2.1.length : Int) - 1)), p 6 (C v0.2.2.2), p 32 (J a1.1), p 58 (B v1)] [(3, Ob.box 195 (cellsD false y195 a1)), (2, Ob.box 107 (cellsD false y107 a0))]) (u173J0 v0 a1 a0) (fun v1 H => ?_) (fun _ n0 e0 t0 => ?_)
 ·refine cd H (by kernel_rfl) (fun H => ?_) (fun H => ?_)
  ·refine qb tok hT [4] (St.mk [p 4 (B (v0.2.2.2 && a1.2.2.1 == (↑a0.2.2.1.length : Int) - 1 && a1.2.2.2.1 == 0 && vl (u197 a1.2.2.2.2.1 true) && vl (u197 a1.2.2.2.2.2 true)))] [(3, Ob.box 195 (cellsD false y195 a1)), (2, Ob.box 107 (cellsD false y107 a0))]) H (by kernel_rfl) fun H => ?_
   exact vx_ret <| fx_blk_ret <| fx_seq_ret <| hr H (by kernel_rfl)
  refine jn r (fun (v2 : Bool) => St.mk [p 2 (AV.ptr 2 0), p 3 (AV.ptr 3 0), p 5 (I ((↑a0.2.2.1.length : Int) - 1)), p 6 (C v0.2.2.2), p 83 (B v2)] [(3, Ob.box 195 (cellsD false y195 a1)), (2, Ob.box 107 (cellsD false y107 a0))]) (u173J1 v0 a1 a0) (fun v2 H => ?_) (fun _ n1 e1 t1 => ?_)
  ·refine cd H (by kernel_rfl) (fun H => ?_) (fun H => ?_)
   ·refine qb tok hT [4] (St.mk [p 4 (B (v0.2.2.2 && decide (a1.2.2.1 < (↑a0.2.2.1.length : Int) - 1) && !(a0.2.2.1.getD a1.2.2.1.toNat (dflt y147)).2.2.2 && a1.2.2.2.1 == 0 && vl (u197 a1.2.2.2.2.1 false) && (↑a1.2.2.2.2.2.length : Int) == 0))] [(3, Ob.box 195 (cellsD false y195 a1)), (2, Ob.box 107 (cellsD false y107 a0))]) H (by kernel_rfl) fun H => ?_
    exact vx_ret <| fx_blk_ret <| fx_seq_ret <| hr H (by kernel_rfl)
   refine vx_skip <| fx_blk <| fx_seq <| ?_
   refine qa tok hT [4] (St.mk [p 4 (B false)] [(3, Ob.box 195 (cellsD false y195 a1)), (2, Ob.box 107 (cellsD false y107 a0))]) (by kernel_rfl) ?_
   exact vx_ret <| hr H (by kernel_rfl)
  refine qa tok hT [2, 3, 5, 6, 32, 83] (St.mk [p 2 (AV.ptr 2 0), p 3 (AV.ptr 3 0), p 5 (I ((↑a0.2.2.1.length : Int) - 1)), p 6 (C v0.2.2.2), p 32 (J a1.1), p 83 (B (a1.1 == 4))] [(3, Ob.box 195 (cellsD false y195 a1)), (2, Ob.box 107 (cellsD false y107 a0))]) (by kernel_rfl) ?_
  refine cd H (by kernel_rfl) (fun H => ?_) (fun H => ?_)
  ·exact vx_skip <| n1 H (by kernel_rfl)
  refine za tok hT [2, 3, 5, 6, 83] (St.mk [p 2 (AV.ptr 2 0), p 3 (AV.ptr 3 0), p 5 (I ((↑a0.2.2.1.length : Int) - 1)), p 6 (C v0.2.2.2), p 83 (B (a1.1 == 5))] [(3, Ob.box 195 (cellsD false y195 a1)), (2, Ob.box 107 (cellsD false y107 a0))]) (by kernel_rfl) ?_
  exact n1 H (by kernel_rfl)
 refine qa tok hT [2, 3, 5, 6, 32, 58] (St.mk [p 2 (AV.ptr 2 0), p 3 (AV.ptr 3 0), p 5 (I ((↑a0.2.2.1.length : Int) - 1)), p 6 (C v0.2.2.2), p 32 (J a1.1), p 58 (B (a1.1 == 2))] [(3, Ob.box 195 (cellsD false y195 a1)), (2, Ob.box 107 (cellsD false y107 a0))]) (by kernel_rfl) ?_
 refine cd H (by kernel_rfl) (fun H => ?_) (fun H => ?_)
 ·exact vx_skip <| n0 H (by kernel_rfl)
 refine za tok hT [2, 3, 5, 6, 32, 58] (St.mk [p 2 (AV.ptr 2 0), p 3 (AV.ptr 3 0), p 5 (I ((↑a0.2.2.1.length : Int) - 1)), p 6 (C v0.2.2.2), p 32 (J a1.1), p 58 (B (a1.1 == 3))] [(3, Ob.box 195 (cellsD false y195 a1)), (2, Ob.box 107 (cellsD false y107 a0))]) (by kernel_rfl) ?_
 exact n0 H (by kernel_rfl)
def u172J0 : Int → Option (Int × Bool)
 | v8 =>
 some (v8, true)
def u172J2 (v4 : Int) (g1 : Int × Int → Option (Int × Bool)) : Int → Option (Int × Bool)
 | v7 =>
 gd (in64 (v4 + 1) ∧ True) <| 
 g1 (v7, v4 + 1)
def u172J3 (v4 : Int) (v3 : Int) (v5 : Y147) (a0 : Y107) (g1 : Int × Int → Option (Int × Bool)) : Unit → Option (Int × Bool)
 | _ =>
 gd ((u64 v5.1).isSome = true ∧ ((!vl (u64 v5.1)) = false ∧ True → (u61 v5.2.2.1 0 500).isSome = true) ∧ True) <| 
 if (!vl (u64 v5.1) || !vl (u61 v5.2.2.1 0 500)) = true then
  some (((0 : Int), false))
 else
  gd (in64 ((↑a0.2.2.1.length : Int) - 1) ∧ ((v4 == (↑a0.2.2.1.length : Int) - 1 && (v5.2.1 != 2 || v5.2.2.1 != 0 || v5.2.2.2)) = false ∧ True → in64 ((↑a0.2.2.1.length : Int) - 1)) ∧ True) <| 
  if (v4 == (↑a0.2.2.1.length : Int) - 1 && (v5.2.1 != 2 || v5.2.2.1 != 0 || v5.2.2.2) || decide (v4 < (↑a0.2.2.1.length : Int) - 1) && v5.2.1 != 1) = true then
   some (((0 : Int), false))
  else
   if v5.2.2.2 = true then
    gd (in64 (v3 + 1) ∧ True) <| 
    u172J2 v4 g1 (v3 + 1)
   else
    u172J2 v4 g1 v3
def u172L4 (a0 : Y107) (v5 : Y147) (v4 : Int) (v3 : Int) (g1 : Int × Int → Option (Int × Bool)) (g4 : Int → Option (Int × Bool)) : Int → Option (Int × Bool)
 | v6 =>
 if (decide (v6 < v4)) = true then
  gd (ix v6 a0.2.2.1.length ∧ True) <| 
  if (decide ((a0.2.2.1.getD v6.toNat (dflt y147)).1 = v5.1)) = true then
   some (((0 : Int), false))
  else
   gd (in64 (v6 + 1) ∧ True) <| 
   g4 (v6 + 1)
 else
  u172J3 v4 v3 v5 a0 g1 ()
def u172L1 (a0 : Y107) (g1 : Int × Int → Option (Int × Bool)) : Int × Int → Option (Int × Bool)
 | (v3, v4) =>
 if (decide (v4 < (↑a0.2.2.1.length : Int))) = true then
  gd (ix v4 a0.2.2.1.length ∧ True) <| lt (a0.2.2.1.getD v4.toNat (dflt y147)) fun v5 =>
  lp (u172L4 a0 v5 v4 v3 g1) 0
 else
  u172J0 v3
def u172 (a0 : Y107) : Option (Int × Bool) :=
 if (decide ((↑a0.2.2.1.length : Int) < 2) || decide (5 < (↑a0.2.2.1.length : Int))) = true then
  some (((0 : Int), false))
 else
  lp (u172L1 a0) (0, 0)
def k172 : Ct := lct 172 [.agg y107] (fun x => u172 x.1) (fun r : Int × Bool => AV.tup [I r.1, B r.2]) (fun _ => ())
theorem o172 : Ok Tryz.prog k172 := by
 refine okl tok [.tmp 2, .tmp 3] Tryz.func172 Tryz.ntmps172 rfl Tryz.results172 (by kernel_rfl) rfl ?_
 intro y ⟨a0, _⟩ r H Q hn hr
 have hT := tc o61 (tc o64 tn)
 refine qa tok hT [1] (St.mk [p 1 (AV.ptr 1 0)] [(1, Ob.box 107 (cellsD false y107 a0))]) (by kernel_rfl) ?_
 refine qa tok hT [1, 4] (St.mk [p 1 (AV.ptr 1 0), p 4 (I (↑a0.2.2.1.length : Int))] [(1, Ob.box 107 (cellsD false y107 a0))]) (by kernel_rfl) ?_
 refine vx_seq <| ?_
 refine qa tok hT [1, 4, 17] (St.mk [p 1 (AV.ptr 1 0), p 4 (I (↑a0.2.2.1.length : Int)), p 17 (B (decide ((↑a0.2.2.1.length : Int) < 2) || decide (5 < (↑a0.2.2.1.length : Int))))] [(1, Ob.box 107 (cellsD false y107 a0))]) (by kernel_rfl) ?_
 refine cd H (by kernel_rfl) (fun H => ?_) (fun H => ?_)
 ·refine qa tok hT [2, 3] (St.mk [p 2 (I 0), p 3 (B false)] [(1, Ob.box 107 (cellsD false y107 a0))]) (by kernel_rfl) ?_
  exact vx_ret <| fx_seq_ret <| hr H (by kernel_rfl)
 refine vx_skip <| fx_seq <| ?_
 refine qa tok hT [1, 4, 5] (St.mk [p 1 (AV.ptr 1 0), p 4 (I (↑a0.2.2.1.length : Int)), p 5 (I 0)] [(1, Ob.box 107 (cellsD false y107 a0))]) (by kernel_rfl) ?_
 refine jn r (fun (v8 : Int) => St.mk [p 5 (I v8)] []) (u172J0) (fun v8 H => ?_) (fun _ n0 e0 t0 => ?_)
 ·refine qa tok hT [2, 3] (St.mk [p 2 (I v8), p 3 (B true)] []) (by kernel_rfl) ?_
  exact vx_ret <| hr H (by kernel_rfl)
 refine qa tok hT [1, 4, 5, 6] (St.mk [p 1 (AV.ptr 1 0), p 4 (I (↑a0.2.2.1.length : Int)), p 5 (I 0), p 6 (I 0)] [(1, Ob.box 107 (cellsD false y107 a0))]) (by kernel_rfl) ?_
 refine vx_block <| ?_
 refine lx (fun ((v3, v4) : Int × Int) => St.mk [p 1 (AV.ptr 1 0), p 4 (I (↑a0.2.2.1.length : Int)), p 5 (I v3), p 6 (I v4)] [(1, Ob.box 107 (cellsD false y107 a0))]) (0, 0) H (by kernel_rfl) fun _ g1 b1 e1 t1 ⟨v3, v4⟩ H => ?_
 refine vx_seq <| ?_
 refine qa tok hT [1, 4, 5, 6, 20] (St.mk [p 1 (AV.ptr 1 0), p 4 (I (↑a0.2.2.1.length : Int)), p 5 (I v3), p 6 (I v4), p 20 (B (decide (v4 < (↑a0.2.2.1.length : Int))))] [(1, Ob.box 107 (cellsD false y107 a0))]) (by kernel_rfl) ?_
 refine cd H (by kernel_rfl) (fun H => ?_) (fun H => ?_)
 ·refine vx_skip <| fx_seq <| ?_
  refine jn r (fun (v7 : Int) => St.mk [p 1 (AV.ptr 1 0), p 4 (I (↑a0.2.2.1.length : Int)), p 5 (I v7), p 6 (I v4)] [(1, Ob.box 107 (cellsD false y107 a0))]) (u172J2 v4 g1) (fun v7 H => ?_) (fun _ n2 e2 t2 => ?_)
  ·refine zb tok hT [1, 4, 5, 6] (St.mk [p 1 (AV.ptr 1 0), p 4 (I (↑a0.2.2.1.length : Int)), p 5 (I v7), p 6 (I (v4 + 1))] [(1, Ob.box 107 (cellsD false y107 a0))]) H (by kernel_rfl) fun H => ?_
   exact b1 H (by kernel_rfl)
  refine vx_block <| ?_
  refine qd tok hT [1, 4, 5, 6, 7] (fun v5 => St.mk [p 1 (AV.ptr 1 0), p 4 (I (↑a0.2.2.1.length : Int)), p 5 (I v3), p 6 (I v4), p 7 (AV.ptr 7 0)] [(7, Ob.box 147 (cellsD false y147 v5)), (1, Ob.box 107 (cellsD false y107 a0))]) H (by kernel_rfl) fun v5 H => ?_
  refine jn r (fun (_ : Unit) => St.mk [p 1 (AV.ptr 1 0), p 4 (I (↑a0.2.2.1.length : Int)), p 5 (I v3), p 6 (I v4), p 7 (AV.ptr 7 0)] [(7, Ob.box 147 (cellsD false y147 v5)), (1, Ob.box 107 (cellsD false y107 a0))]) (u172J3 v4 v3 v5 a0 g1) (fun _ H => ?_) (fun _ n3 e3 t3 => ?_)
  ·refine vx_seq <| ?_
   refine qb tok hT [1, 4, 5, 6, 7, 47, 48, 49, 50, 51] (St.mk [p 1 (AV.ptr 1 0), p 4 (I (↑a0.2.2.1.length : Int)), p 5 (I v3), p 6 (I v4), p 7 (AV.ptr 7 0), p 51 (B (!vl (u64 v5.1) || !vl (u61 v5.2.2.1 0 500)))] [(7, Ob.box 147 (cellsD false y147 v5)), (1, Ob.box 107 (cellsD false y107 a0))]) H (by kernel_rfl) fun H => ?_
   refine cd H (by kernel_rfl) (fun H => ?_) (fun H => ?_)
   ·refine qa tok hT [2, 3] (St.mk [p 2 (I 0), p 3 (B false)] [(7, Ob.box 147 (cellsD false y147 v5)), (1, Ob.box 107 (cellsD false y107 a0))]) (by kernel_rfl) ?_
    exact vx_ret <| fx_seq_ret <| fx_blk_ret <| t2 <| t1 <| fx_blk_ret <| t0 <| hr H (by kernel_rfl)
   refine vx_skip <| fx_seq <| vx_seq <| ?_
   refine qb tok hT [1, 4, 5, 6, 7, 57, 58, 59, 60, 61, 62, 63, 64, 65, 66, 67, 68, 71, 72, 73, 74, 75, 76, 77, 78, 79, 80] (St.mk [p 1 (AV.ptr 1 0), p 4 (I (↑a0.2.2.1.length : Int)), p 5 (I v3), p 6 (I v4), p 7 (AV.ptr 7 0), p 80 (B (v4 == (↑a0.2.2.1.length : Int) - 1 && (v5.2.1 != 2 || v5.2.2.1 != 0 || v5.2.2.2) || decide (v4 < (↑a0.2.2.1.length : Int) - 1) && v5.2.1 != 1))] [(7, Ob.box 147 (cellsD false y147 v5)), (1, Ob.box 107 (cellsD false y107 a0))]) H (by kernel_rfl) fun H => ?_
   refine cd H (by kernel_rfl) (fun H => ?_) (fun H => ?_)
   ·refine qa tok hT [2, 3] (St.mk [p 2 (I 0), p 3 (B false)] [(7, Ob.box 147 (cellsD false y147 v5)), (1, Ob.box 107 (cellsD false y107 a0))]) (by kernel_rfl) ?_
    exact vx_ret <| fx_seq_ret <| fx_blk_ret <| t2 <| t1 <| fx_blk_ret <| t0 <| hr H (by kernel_rfl)
   refine vx_skip <| fx_seq <| ?_
   refine qa tok hT [1, 4, 5, 6, 82] (St.mk [p 1 (AV.ptr 1 0), p 4 (I (↑a0.2.2.1.length : Int)), p 5 (I v3), p 6 (I v4), p 82 (C v5.2.2.2)] [(7, Ob.box 147 (cellsD false y147 v5)), (1, Ob.box 107 (cellsD false y107 a0))]) (by kernel_rfl) ?_
   refine cd H (by kernel_rfl) (fun H => ?_) (fun H => ?_)
   ·refine zb tok hT [1, 4, 5, 6] (St.mk [p 1 (AV.ptr 1 0), p 4 (I (↑a0.2.2.1.length : Int)), p 5 (I (v3 + 1)), p 6 (I v4)] [(7, Ob.box 147 (cellsD false y147 v5)), (1, Ob.box 107 (cellsD false y107 a0))]) H (by kernel_rfl) fun H => ?_
    exact fx_blk <| n2 H (by kernel_rfl)
   exact vx_skip <| fx_blk <| n2 H (by kernel_rfl)
  refine qa tok hT [1, 4, 5, 6, 7, 8] (St.mk [p 1 (AV.ptr 1 0), p 4 (I (↑a0.2.2.1.length : Int)), p 5 (I v3), p 6 (I v4), p 7 (AV.ptr 7 0), p 8 (I 0)] [(7, Ob.box 147 (cellsD false y147 v5)), (1, Ob.box 107 (cellsD false y107 a0))]) (by kernel_rfl) ?_
  refine vx_block <| ?_
  refine lx (fun (v6 : Int) => St.mk [p 1 (AV.ptr 1 0), p 4 (I (↑a0.2.2.1.length : Int)), p 5 (I v3), p 6 (I v4), p 7 (AV.ptr 7 0), p 8 (I v6)] [(7, Ob.box 147 (cellsD false y147 v5)), (1, Ob.box 107 (cellsD false y107 a0))]) 0 H (by kernel_rfl) fun _ g4 b4 e4 t4 v6 H => ?_
  refine vx_seq <| ?_
  refine qa tok hT [1, 4, 5, 6, 7, 8, 30] (St.mk [p 1 (AV.ptr 1 0), p 4 (I (↑a0.2.2.1.length : Int)), p 5 (I v3), p 6 (I v4), p 7 (AV.ptr 7 0), p 8 (I v6), p 30 (B (decide (v6 < v4)))] [(7, Ob.box 147 (cellsD false y147 v5)), (1, Ob.box 107 (cellsD false y107 a0))]) (by kernel_rfl) ?_
  refine cd H (by kernel_rfl) (fun H => ?_) (fun H => ?_)
  ·refine vx_skip <| fx_seq <| vx_seq <| vx_block <| ?_
   refine qb tok hT [1, 4, 5, 6, 7, 8, 41] (St.mk [p 1 (AV.ptr 1 0), p 4 (I (↑a0.2.2.1.length : Int)), p 5 (I v3), p 6 (I v4), p 7 (AV.ptr 7 0), p 8 (I v6), p 41 (B (decide ((a0.2.2.1.getD v6.toNat (dflt y147)).1 = v5.1)))] [(7, Ob.box 147 (cellsD false y147 v5)), (1, Ob.box 107 (cellsD false y107 a0))]) H (by kernel_rfl) fun H => ?_
   refine cd H (by kernel_rfl) (fun H => ?_) (fun H => ?_)
   ·refine qa tok hT [2, 3] (St.mk [p 2 (I 0), p 3 (B false)] [(7, Ob.box 147 (cellsD false y147 v5)), (1, Ob.box 107 (cellsD false y107 a0))]) (by kernel_rfl) ?_
    exact vx_ret <| fx_blk_ret <| fx_seq_ret <| t4 <| fx_blk_ret <| t3 <| fx_blk_ret <| t2 <| t1 <| fx_blk_ret <| t0 <| hr H (by kernel_rfl)
   refine vx_skip <| fx_blk <| fx_seq <| ?_
   refine zb tok hT [1, 4, 5, 6, 7, 8] (St.mk [p 1 (AV.ptr 1 0), p 4 (I (↑a0.2.2.1.length : Int)), p 5 (I v3), p 6 (I v4), p 7 (AV.ptr 7 0), p 8 (I (v6 + 1))] [(7, Ob.box 147 (cellsD false y147 v5)), (1, Ob.box 107 (cellsD false y107 a0))]) H (by kernel_rfl) fun H => ?_
   exact b4 H (by kernel_rfl)
  exact vx_exit <| fx_seq_exit <| e4 <| fx_blk_exit rfl <| n3 H (by kernel_rfl)
 exact vx_exit <| fx_seq_exit <| e1 <| fx_blk_exit rfl <| n0 H (by kernel_rfl)
def u140J4 : Unit → Option (Bool)
 | _ =>
 some false
def u140J5 (v0 : Int × Bool) (a0 : Y107) : Unit → Option (Bool)
 | _ =>
 gd (((v0.1 == 0) = true ∧ True → in64 ((↑a0.2.2.1.length : Int) - 1)) ∧ ((v0.1 == 0) = true ∧ True → 0 ≤ (↑a0.2.2.1.length : Int) - 1 ∧ (↑a0.2.2.1.length : Int) - 1 ≤ 18446744073709551615) ∧ ((v0.1 == 0) = true ∧ True → (0 ≤ (↑a0.2.2.1.length : Int) - 1 ∧ (↑a0.2.2.1.length : Int) - 1 ≤ 62) ∧ in64 (1 * 2 ^ ((↑a0.2.2.1.length : Int) - 1).toNat)) ∧ True) <| 
 some (v0.1 == 0 && (↑a0.2.2.2.2.1.length : Int) == 1 * 2 ^ ((↑a0.2.2.1.length : Int) - 1).toNat)
def u140L6 (a0 : Y107) (v0 : Int × Bool) (g6 : Int → Option (Bool)) : Int → Option (Bool)
 | v7 =>
 if (decide (v7 < (↑a0.2.2.2.2.1.length : Int))) = true then
  gd (ix v7 a0.2.2.2.2.1.length ∧ (u61 (a0.2.2.2.2.1.getD v7.toNat 0) 0 1).isSome = true ∧ True) <| 
  if (!vl (u61 (a0.2.2.2.2.1.getD v7.toNat 0) 0 1)) = true then
   some false
  else
   gd (in64 (v7 + 1) ∧ True) <| 
   g6 (v7 + 1)
 else
  u140J5 v0 a0 ()
def u140J0 (a0 : Y107) (v0 : Int × Bool) : Unit → Option (Bool)
 | _ =>
 gd ((u174 a0).isSome = true ∧ True) <| lt (vl (u174 a0)) fun v6 =>
 if (a0.2.1 == 1) = true then
  lp (u140L6 a0 v0) 0
 else
  if (a0.2.1 == 2) = true then
   gd (((v0.1 == (1 : Int)) = true ∧ True → ix (1 : Int) v6.length) ∧ ((v0.1 == (1 : Int)) = true ∧ True → Int.toNat (1 : Int) < v6.length) ∧ ((v0.1 == (1 : Int) && v6.getD (Int.toNat (1 : Int)) (0 : Int) == (0 : Int)) = true ∧ True → ix (2 : Int) v6.length) ∧ ((v0.1 == (1 : Int) && v6.getD (Int.toNat (1 : Int)) (0 : Int) == (0 : Int)) = true ∧ True → Int.toNat (2 : Int) < v6.length) ∧ ((v0.1 == (1 : Int) && v6.getD (Int.toNat (1 : Int)) (0 : Int) == (0 : Int)) = true ∧ True → ix (3 : Int) v6.length) ∧ ((v0.1 == (1 : Int) && v6.getD (Int.toNat (1 : Int)) (0 : Int) == (0 : Int)) = true ∧ True → Int.toNat (3 : Int) < v6.length) ∧ True) <| 
   some (v0.1 == (1 : Int) && v6.getD (Int.toNat (1 : Int)) (0 : Int) == (0 : Int) && !decide ((0 : Int) < v6.getD (Int.toNat (2 : Int)) (0 : Int)) == decide ((0 : Int) < v6.getD (Int.toNat (3 : Int)) (0 : Int)) && (↑a0.2.2.2.2.1.length : Int) == (0 : Int))
  else
   if (a0.2.1 == 3) = true then
    gd (((v0.1 == (1 : Int)) = true ∧ True → ix (1 : Int) v6.length) ∧ ((v0.1 == (1 : Int)) = true ∧ True → Int.toNat (1 : Int) < v6.length) ∧ ((v0.1 == (1 : Int) && decide ((0 : Int) < v6.getD (Int.toNat (1 : Int)) (0 : Int))) = true ∧ True → ix (2 : Int) v6.length) ∧ ((v0.1 == (1 : Int) && decide ((0 : Int) < v6.getD (Int.toNat (1 : Int)) (0 : Int))) = true ∧ True → Int.toNat (2 : Int) < v6.length) ∧ ((v0.1 == (1 : Int) && decide ((0 : Int) < v6.getD (Int.toNat (1 : Int)) (0 : Int)) && decide ((0 : Int) < v6.getD (Int.toNat (2 : Int)) (0 : Int))) = true ∧ True → ix (3 : Int) v6.length) ∧ ((v0.1 == (1 : Int) && decide ((0 : Int) < v6.getD (Int.toNat (1 : Int)) (0 : Int)) && decide ((0 : Int) < v6.getD (Int.toNat (2 : Int)) (0 : Int))) = true ∧ True → Int.toNat (3 : Int) < v6.length) ∧ True) <| 
    some (v0.1 == (1 : Int) && decide ((0 : Int) < v6.getD (Int.toNat (1 : Int)) (0 : Int)) && decide ((0 : Int) < v6.getD (Int.toNat (2 : Int)) (0 : Int)) && v6.getD (Int.toNat (3 : Int)) (0 : Int) == (0 : Int) && (↑a0.2.2.2.2.1.length : Int) == (0 : Int))
   else
    u140J4 ()
def u140J2 (v3 : Int) (g1 : Int → Option (Bool)) : Unit → Option (Bool)
 | _ =>
 gd (in64 (v3 + 1) ∧ True) <| 
 g1 (v3 + 1)
def u140L3 (a0 : Y107) (v4 : Y195) (v3 : Int) (g1 : Int → Option (Bool)) (g3 : Int → Option (Bool)) : Int → Option (Bool)
 | v5 =>
 if (decide (v5 < v3)) = true then
  gd (ix v5 a0.2.2.2.1.length ∧ (((a0.2.2.2.1.getD v5.toNat (dflt y195)).1 == v4.1) = true ∧ True → ix v5 a0.2.2.2.1.length) ∧ (((a0.2.2.2.1.getD v5.toNat (dflt y195)).1 == v4.1 && (a0.2.2.2.1.getD v5.toNat (dflt y195)).2.1 == v4.2.1) = true ∧ True → ix v5 a0.2.2.2.1.length) ∧ True) <| 
  if ((a0.2.2.2.1.getD v5.toNat (dflt y195)).1 == v4.1 && (a0.2.2.2.1.getD v5.toNat (dflt y195)).2.1 == v4.2.1 && (a0.2.2.2.1.getD v5.toNat (dflt y195)).2.2.1 == v4.2.2.1) = true then
   some false
  else
   gd (in64 (v5 + 1) ∧ True) <| 
   g3 (v5 + 1)
 else
  u140J2 v3 g1 ()
def u140L1 (a0 : Y107) (v0 : Int × Bool) (g1 : Int → Option (Bool)) : Int → Option (Bool)
 | v3 =>
 if (decide (v3 < (↑a0.2.2.2.1.length : Int))) = true then
  gd (ix v3 a0.2.2.2.1.length ∧ True) <| lt (a0.2.2.2.1.getD v3.toNat (dflt y195)) fun v4 =>
  gd ((u173 a0 v4).isSome = true ∧ True) <| 
  if (!vl (u173 a0 v4)) = true then
   some false
  else
   lp (u140L3 a0 v4 v3 g1) 0
 else
  u140J0 a0 v0 ()
def u140 (a0 : Y107) : Option (Bool) :=
 gd ((u172 a0).isSome = true ∧ True) <| lt (vl (u172 a0)) fun v0 =>
 gd (((!v0.2) = false ∧ True → (u64 a0.1).isSome = true) ∧ ((!v0.2 || !vl (u64 a0.1) || decide (8 < (↑a0.2.2.2.1.length : Int))) = false ∧ True → (u61 a0.2.2.2.2.2.1 0 100000).isSome = true) ∧ ((!v0.2 || !vl (u64 a0.1) || decide (8 < (↑a0.2.2.2.1.length : Int)) || !vl (u61 a0.2.2.2.2.2.1 0 100000)) = false ∧ True → (u61 a0.2.2.2.2.2.2 0 100000).isSome = true) ∧ True) <| 
 if (!v0.2 || !vl (u64 a0.1) || decide (8 < (↑a0.2.2.2.1.length : Int)) || !vl (u61 a0.2.2.2.2.2.1 0 100000) || !vl (u61 a0.2.2.2.2.2.2 0 100000)) = true then
  some false
 else
  lp (u140L1 a0 v0) 0
def k140 : Ct := lct 140 [.agg y107] (fun x => u140 x.1) (fun r : Bool => B r) (fun _ => ())
theorem o140 : Ok Tryz.prog k140 := by
 refine okl tok [.tmp 2] Tryz.func140 Tryz.ntmps140 rfl Tryz.results140 (by kernel_rfl) rfl ?_
 intro y ⟨a0, _⟩ r H Q hn hr
 have hT := tc o61 (tc o174 (tc o173 (tc o64 (tc o172 tn))))
 refine qa tok hT [1] (St.mk [p 1 (AV.ptr 1 0)] [(1, Ob.box 107 (cellsD false y107 a0))]) (by kernel_rfl) ?_
 refine qd tok hT [1, 3, 4] (fun v0 => St.mk [p 1 (AV.ptr 1 0), p 3 (I v0.1), p 4 (B v0.2)] [(1, Ob.box 107 (cellsD false y107 a0))]) H (by kernel_rfl) fun v0 H => ?_
 refine vx_seq <| ?_
 refine qb tok hT [1, 3, 40] (St.mk [p 1 (AV.ptr 1 0), p 3 (I v0.1), p 40 (B (!v0.2 || !vl (u64 a0.1) || decide (8 < (↑a0.2.2.2.1.length : Int)) || !vl (u61 a0.2.2.2.2.2.1 0 100000) || !vl (u61 a0.2.2.2.2.2.2 0 100000)))] [(1, Ob.box 107 (cellsD false y107 a0))]) H (by kernel_rfl) fun H => ?_
 refine cd H (by kernel_rfl) (fun H => ?_) (fun H => ?_)
 ·refine qa tok hT [2] (St.mk [p 2 (B false)] [(1, Ob.box 107 (cellsD false y107 a0))]) (by kernel_rfl) ?_
  exact vx_ret <| fx_seq_ret <| hr H (by kernel_rfl)
 refine vx_skip <| fx_seq <| ?_
 refine jn r (fun (_ : Unit) => St.mk [p 1 (AV.ptr 1 0), p 3 (I v0.1)] [(1, Ob.box 107 (cellsD false y107 a0))]) (u140J0 a0 v0) (fun _ H => ?_) (fun _ n0 e0 t0 => ?_)
 ·refine qd tok hT [1, 3, 8] (fun v6 => St.mk [p 1 (AV.ptr 1 0), p 3 (I v0.1), p 8 (AV.os 94 0)] [(94, Ob.arr 2 true i64 v6 0), (1, Ob.box 107 (cellsD false y107 a0))]) H (by kernel_rfl) fun v6 H => ?_
  refine jn r (fun (_ : Unit) => St.mk [] []) (u140J4) (fun _ H => ?_) (fun _ n4 e4 t4 => ?_)
  ·refine qa tok hT [2] (St.mk [p 2 (B false)] []) (by kernel_rfl) ?_
   exact vx_ret <| hr H (by kernel_rfl)
  refine qa tok hT [1, 3, 8, 96] (St.mk [p 1 (AV.ptr 1 0), p 3 (I v0.1), p 8 (AV.os 94 0), p 96 (J a0.2.1)] [(94, Ob.arr 2 true i64 v6 0), (1, Ob.box 107 (cellsD false y107 a0))]) (by kernel_rfl) ?_
  refine vx_block <| ?_
  refine qa tok hT [1, 3, 8, 96, 97] (St.mk [p 1 (AV.ptr 1 0), p 3 (I v0.1), p 8 (AV.os 94 0), p 96 (J a0.2.1), p 97 (B (a0.2.1 == 1))] [(94, Ob.arr 2 true i64 v6 0), (1, Ob.box 107 (cellsD false y107 a0))]) (by kernel_rfl) ?_
  refine cd H (by kernel_rfl) (fun H => ?_) (fun H => ?_)
  ·refine jn r (fun (_ : Unit) => St.mk [p 1 (AV.ptr 1 0), p 3 (I v0.1)] [(1, Ob.box 107 (cellsD false y107 a0))]) (u140J5 v0 a0) (fun _ H => ?_) (fun _ n5 e5 t5 => ?_)
   ·refine qb tok hT [2] (St.mk [p 2 (B (v0.1 == 0 && (↑a0.2.2.2.2.1.length : Int) == 1 * 2 ^ ((↑a0.2.2.1.length : Int) - 1).toNat))] [(1, Ob.box 107 (cellsD false y107 a0))]) H (by kernel_rfl) fun H => ?_
    exact vx_ret <| fx_blk_ret <| t4 <| hr H (by kernel_rfl)
   refine qa tok hT [1, 3, 9] (St.mk [p 1 (AV.ptr 1 0), p 3 (I v0.1), p 9 (I 0)] [(94, Ob.arr 2 true i64 v6 0), (1, Ob.box 107 (cellsD false y107 a0))]) (by kernel_rfl) ?_
   refine vx_block <| ?_
   refine lx (fun (v7 : Int) => St.mk [p 1 (AV.ptr 1 0), p 3 (I v0.1), p 9 (I v7)] [(1, Ob.box 107 (cellsD false y107 a0))]) 0 H (by kernel_rfl) fun _ g6 b6 e6 t6 v7 H => ?_
   refine vx_seq <| ?_
   refine qa tok hT [1, 3, 9, 103] (St.mk [p 1 (AV.ptr 1 0), p 3 (I v0.1), p 9 (I v7), p 103 (B (decide (v7 < (↑a0.2.2.2.2.1.length : Int))))] [(1, Ob.box 107 (cellsD false y107 a0))]) (by kernel_rfl) ?_
   refine cd H (by kernel_rfl) (fun H => ?_) (fun H => ?_)
   ·refine vx_skip <| fx_seq <| vx_seq <| vx_block <| ?_
    refine qb tok hT [1, 3, 9, 112] (St.mk [p 1 (AV.ptr 1 0), p 3 (I v0.1), p 9 (I v7), p 112 (B !vl (u61 (a0.2.2.2.2.1.getD v7.toNat 0) 0 1))] [(1, Ob.box 107 (cellsD false y107 a0))]) H (by kernel_rfl) fun H => ?_
    refine cd H (by kernel_rfl) (fun H => ?_) (fun H => ?_)
    ·refine qa tok hT [2] (St.mk [p 2 (B false)] [(1, Ob.box 107 (cellsD false y107 a0))]) (by kernel_rfl) ?_
     exact vx_ret <| fx_blk_ret <| fx_seq_ret <| t6 <| fx_blk_ret <| t5 <| fx_blk_ret <| t4 <| hr H (by kernel_rfl)
    refine vx_skip <| fx_blk <| fx_seq <| ?_
    refine zb tok hT [1, 3, 9] (St.mk [p 1 (AV.ptr 1 0), p 3 (I v0.1), p 9 (I (v7 + 1))] [(1, Ob.box 107 (cellsD false y107 a0))]) H (by kernel_rfl) fun H => ?_
    exact b6 H (by kernel_rfl)
   exact vx_exit <| fx_seq_exit <| e6 <| fx_blk_exit rfl <| n5 H (by kernel_rfl)
  refine qa tok hT [1, 3, 8, 96, 127] (St.mk [p 1 (AV.ptr 1 0), p 3 (I v0.1), p 8 (AV.os 94 0), p 96 (J a0.2.1), p 127 (B (a0.2.1 == 2))] [(94, Ob.arr 2 true i64 v6 0), (1, Ob.box 107 (cellsD false y107 a0))]) (by kernel_rfl) ?_
  refine cd H (by kernel_rfl) (fun H => ?_) (fun H => ?_)
  ·refine qb tok hT [2] (St.mk [p (2 : Nat) (B (v0.1 == (1 : Int) && v6.getD (Int.toNat (1 : Int)) (0 : Int) == (0 : Int) && !decide ((0 : Int) < v6.getD (Int.toNat (2 : Int)) (0 : Int)) == decide ((0 : Int) < v6.getD (Int.toNat (3 : Int)) (0 : Int)) && (↑a0.2.2.2.2.1.length : Int) == (0 : Int)))] [((94 : Nat), Ob.arr (nat_lit 2) true i64 v6 (0 : Nat)), ((1 : Nat), Ob.box (nat_lit 107) (cellsD false y107 a0))]) H (by kernel_rfl) fun H => ?_
   exact vx_ret <| fx_blk_ret <| t4 <| hr H (by kernel_rfl)
  refine qa tok hT [1, 3, 8, 154] (St.mk [p 1 (AV.ptr 1 0), p 3 (I v0.1), p 8 (AV.os 94 0), p 154 (B (a0.2.1 == 3))] [(94, Ob.arr 2 true i64 v6 0), (1, Ob.box 107 (cellsD false y107 a0))]) (by kernel_rfl) ?_
  refine cd H (by kernel_rfl) (fun H => ?_) (fun H => ?_)
  ·refine qb tok hT [2] (St.mk [p (2 : Nat) (B (v0.1 == (1 : Int) && decide ((0 : Int) < v6.getD (Int.toNat (1 : Int)) (0 : Int)) && decide ((0 : Int) < v6.getD (Int.toNat (2 : Int)) (0 : Int)) && v6.getD (Int.toNat (3 : Int)) (0 : Int) == (0 : Int) && (↑a0.2.2.2.2.1.length : Int) == (0 : Int)))] [((94 : Nat), Ob.arr (nat_lit 2) true i64 v6 (0 : Nat)), ((1 : Nat), Ob.box (nat_lit 107) (cellsD false y107 a0))]) H (by kernel_rfl) fun H => ?_
   exact vx_ret <| fx_blk_ret <| t4 <| hr H (by kernel_rfl)
  exact vx_skip <| fx_blk <| n4 H (by kernel_rfl)
 refine qa tok hT [1, 3, 5] (St.mk [p 1 (AV.ptr 1 0), p 3 (I v0.1), p 5 (I 0)] [(1, Ob.box 107 (cellsD false y107 a0))]) (by kernel_rfl) ?_
 refine vx_block <| ?_
 refine lx (fun (v3 : Int) => St.mk [p 1 (AV.ptr 1 0), p 3 (I v0.1), p 5 (I v3)] [(1, Ob.box 107 (cellsD false y107 a0))]) 0 H (by kernel_rfl) fun _ g1 b1 e1 t1 v3 H => ?_
 refine vx_seq <| ?_
 refine qa tok hT [1, 3, 5, 45] (St.mk [p 1 (AV.ptr 1 0), p 3 (I v0.1), p 5 (I v3), p 45 (B (decide (v3 < (↑a0.2.2.2.1.length : Int))))] [(1, Ob.box 107 (cellsD false y107 a0))]) (by kernel_rfl) ?_
 refine cd H (by kernel_rfl) (fun H => ?_) (fun H => ?_)
 ·refine vx_skip <| fx_seq <| ?_
  refine jn r (fun (_ : Unit) => St.mk [p 1 (AV.ptr 1 0), p 3 (I v0.1), p 5 (I v3)] [(1, Ob.box 107 (cellsD false y107 a0))]) (u140J2 v3 g1) (fun _ H => ?_) (fun _ n2 e2 t2 => ?_)
  ·refine zb tok hT [1, 3, 5] (St.mk [p 1 (AV.ptr 1 0), p 3 (I v0.1), p 5 (I (v3 + 1))] [(1, Ob.box 107 (cellsD false y107 a0))]) H (by kernel_rfl) fun H => ?_
   exact b1 H (by kernel_rfl)
  refine vx_block <| ?_
  refine qd tok hT [1, 3, 5, 6] (fun v4 => St.mk [p 1 (AV.ptr 1 0), p 3 (I v0.1), p 5 (I v3), p 6 (AV.ptr 6 0)] [(6, Ob.box 195 (cellsD false y195 v4)), (1, Ob.box 107 (cellsD false y107 a0))]) H (by kernel_rfl) fun v4 H => ?_
  refine vx_seq <| ?_
  refine qb tok hT [1, 3, 5, 6, 56] (St.mk [p 1 (AV.ptr 1 0), p 3 (I v0.1), p 5 (I v3), p 6 (AV.ptr 6 0), p 56 (B !vl (u173 a0 v4))] [(6, Ob.box 195 (cellsD false y195 v4)), (1, Ob.box 107 (cellsD false y107 a0))]) H (by kernel_rfl) fun H => ?_
  refine cd H (by kernel_rfl) (fun H => ?_) (fun H => ?_)
  ·refine qa tok hT [2] (St.mk [p 2 (B false)] [(6, Ob.box 195 (cellsD false y195 v4)), (1, Ob.box 107 (cellsD false y107 a0))]) (by kernel_rfl) ?_
   exact vx_ret <| fx_seq_ret <| fx_blk_ret <| t2 <| t1 <| fx_blk_ret <| t0 <| hr H (by kernel_rfl)
  refine vx_skip <| fx_seq <| ?_
  refine qa tok hT [1, 3, 5, 6, 7] (St.mk [p 1 (AV.ptr 1 0), p 3 (I v0.1), p 5 (I v3), p 6 (AV.ptr 6 0), p 7 (I 0)] [(6, Ob.box 195 (cellsD false y195 v4)), (1, Ob.box 107 (cellsD false y107 a0))]) (by kernel_rfl) ?_
  refine vx_block <| ?_
  refine lx (fun (v5 : Int) => St.mk [p 1 (AV.ptr 1 0), p 3 (I v0.1), p 5 (I v3), p 6 (AV.ptr 6 0), p 7 (I v5)] [(6, Ob.box 195 (cellsD false y195 v4)), (1, Ob.box 107 (cellsD false y107 a0))]) 0 H (by kernel_rfl) fun _ g3 b3 e3 t3 v5 H => ?_
  refine vx_seq <| ?_
  refine qa tok hT [1, 3, 5, 6, 7, 59] (St.mk [p 1 (AV.ptr 1 0), p 3 (I v0.1), p 5 (I v3), p 6 (AV.ptr 6 0), p 7 (I v5), p 59 (B (decide (v5 < v3)))] [(6, Ob.box 195 (cellsD false y195 v4)), (1, Ob.box 107 (cellsD false y107 a0))]) (by kernel_rfl) ?_
  refine cd H (by kernel_rfl) (fun H => ?_) (fun H => ?_)
  ·refine vx_skip <| fx_seq <| vx_seq <| vx_block <| ?_
   refine qb tok hT [1, 3, 5, 6, 7, 72, 73, 74, 75, 76, 77, 78, 79, 80, 83, 84, 85, 86, 87, 88, 89, 90, 91, 92] (St.mk [p 1 (AV.ptr 1 0), p 3 (I v0.1), p 5 (I v3), p 6 (AV.ptr 6 0), p 7 (I v5), p 92 (B ((a0.2.2.2.1.getD v5.toNat (dflt y195)).1 == v4.1 && (a0.2.2.2.1.getD v5.toNat (dflt y195)).2.1 == v4.2.1 && (a0.2.2.2.1.getD v5.toNat (dflt y195)).2.2.1 == v4.2.2.1))] [(6, Ob.box 195 (cellsD false y195 v4)), (1, Ob.box 107 (cellsD false y107 a0))]) H (by kernel_rfl) fun H => ?_
   refine cd H (by kernel_rfl) (fun H => ?_) (fun H => ?_)
   ·refine qa tok hT [2] (St.mk [p 2 (B false)] [(6, Ob.box 195 (cellsD false y195 v4)), (1, Ob.box 107 (cellsD false y107 a0))]) (by kernel_rfl) ?_
    exact vx_ret <| fx_blk_ret <| fx_seq_ret <| t3 <| fx_blk_ret <| fx_blk_ret <| t2 <| t1 <| fx_blk_ret <| t0 <| hr H (by kernel_rfl)
   refine vx_skip <| fx_blk <| fx_seq <| ?_
   refine zb tok hT [1, 3, 5, 6, 7] (St.mk [p 1 (AV.ptr 1 0), p 3 (I v0.1), p 5 (I v3), p 6 (AV.ptr 6 0), p 7 (I (v5 + 1))] [(6, Ob.box 195 (cellsD false y195 v4)), (1, Ob.box 107 (cellsD false y107 a0))]) H (by kernel_rfl) fun H => ?_
   exact b3 H (by kernel_rfl)
  exact vx_exit <| fx_seq_exit <| e3 <| fx_blk_exit rfl <| fx_blk <| n2 H (by kernel_rfl)
 exact vx_exit <| fx_seq_exit <| e1 <| fx_blk_exit rfl <| n0 H (by kernel_rfl)
def u97J0 (a0 : List Y107) : Unit → Option (Bool)
 | _ =>
 some (decide ((↑a0.length : Int) ≤ 8))
def u97J2 (v1 : Int) (g1 : Int → Option (Bool)) : Unit → Option (Bool)
 | _ =>
 gd (in64 (v1 + 1) ∧ True) <| 
 g1 (v1 + 1)
def u97L3 (a0 : List Y107) (v1 : Int) (g1 : Int → Option (Bool)) (g3 : Int → Option (Bool)) : Int → Option (Bool)
 | v2 =>
 if (decide (v2 < v1)) = true then
  gd (ix v2 a0.length ∧ ix v1 a0.length ∧ True) <| 
  if (decide ((a0.getD v2.toNat (dflt y107)).1 = (a0.getD v1.toNat (dflt y107)).1)) = true then
   some false
  else
   gd (in64 (v2 + 1) ∧ True) <| 
   g3 (v2 + 1)
 else
  u97J2 v1 g1 ()
def u97L1 (a0 : List Y107) (g1 : Int → Option (Bool)) : Int → Option (Bool)
 | v1 =>
 if (decide (v1 < (↑a0.length : Int))) = true then
  gd (ix v1 a0.length ∧ (u140 (a0.getD v1.toNat (dflt y107))).isSome = true ∧ True) <| 
  if (!vl (u140 (a0.getD v1.toNat (dflt y107)))) = true then
   some false
  else
   lp (u97L3 a0 v1 g1) 0
 else
  u97J0 a0 ()
def u97 (a0 : List Y107) : Option (Bool) :=
 lp (u97L1 a0) 0
def k97 : Ct := lct 97 [.agg y107.sl] (fun x => u97 x.1) (fun r : Bool => B r) (fun _ => ())
theorem o97 : Ok Tryz.prog k97 := by
 refine okl tok [.tmp 2] Tryz.func97 Tryz.ntmps97 rfl Tryz.results97 (by kernel_rfl) rfl ?_
 intro y ⟨a0, _⟩ r H Q hn hr
 have hT := tc o140 tn
 refine qa tok hT [1] (St.mk [p 1 (AV.ptr 1 0)] [(1, Ob.box 43 [L y107 a0])]) (by kernel_rfl) ?_
 refine jn r (fun (_ : Unit) => St.mk [p 1 (AV.ptr 1 0)] [(1, Ob.box 43 [L y107 a0])]) (u97J0 a0) (fun _ H => ?_) (fun _ n0 e0 t0 => ?_)
 ·refine qa tok hT [2] (St.mk [p 2 (B (decide ((↑a0.length : Int) ≤ 8)))] [(1, Ob.box 43 [L y107 a0])]) (by kernel_rfl) ?_
  exact vx_ret <| hr H (by kernel_rfl)
 refine qa tok hT [1, 3] (St.mk [p 1 (AV.ptr 1 0), p 3 (I 0)] [(1, Ob.box 43 [L y107 a0])]) (by kernel_rfl) ?_
 refine vx_block <| ?_
 refine lx (fun (v1 : Int) => St.mk [p 1 (AV.ptr 1 0), p 3 (I v1)] [(1, Ob.box 43 [L y107 a0])]) 0 H (by kernel_rfl) fun _ g1 b1 e1 t1 v1 H => ?_
 refine vx_seq <| ?_
 refine qa tok hT [1, 3, 9] (St.mk [p 1 (AV.ptr 1 0), p 3 (I v1), p 9 (B (decide (v1 < (↑a0.length : Int))))] [(1, Ob.box 43 [L y107 a0])]) (by kernel_rfl) ?_
 refine cd H (by kernel_rfl) (fun H => ?_) (fun H => ?_)
 ·refine vx_skip <| fx_seq <| ?_
  refine jn r (fun (_ : Unit) => St.mk [p 1 (AV.ptr 1 0), p 3 (I v1)] [(1, Ob.box 43 [L y107 a0])]) (u97J2 v1 g1) (fun _ H => ?_) (fun _ n2 e2 t2 => ?_)
  ·refine zb tok hT [1, 3] (St.mk [p 1 (AV.ptr 1 0), p 3 (I (v1 + 1))] [(1, Ob.box 43 [L y107 a0])]) H (by kernel_rfl) fun H => ?_
   exact b1 H (by kernel_rfl)
  refine vx_block <| vx_seq <| ?_
  refine qb tok hT [1, 3, 18] (St.mk [p 1 (AV.ptr 1 0), p 3 (I v1), p 18 (B !vl (u140 (a0.getD v1.toNat (dflt y107))))] [(1, Ob.box 43 [L y107 a0])]) H (by kernel_rfl) fun H => ?_
  refine cd H (by kernel_rfl) (fun H => ?_) (fun H => ?_)
  ·refine qa tok hT [2] (St.mk [p 2 (B false)] [(1, Ob.box 43 [L y107 a0])]) (by kernel_rfl) ?_
   exact vx_ret <| fx_seq_ret <| fx_blk_ret <| t2 <| t1 <| fx_blk_ret <| t0 <| hr H (by kernel_rfl)
  refine vx_skip <| fx_seq <| ?_
  refine qa tok hT [1, 3, 4] (St.mk [p 1 (AV.ptr 1 0), p 3 (I v1), p 4 (I 0)] [(1, Ob.box 43 [L y107 a0])]) (by kernel_rfl) ?_
  refine vx_block <| ?_
  refine lx (fun (v2 : Int) => St.mk [p 1 (AV.ptr 1 0), p 3 (I v1), p 4 (I v2)] [(1, Ob.box 43 [L y107 a0])]) 0 H (by kernel_rfl) fun _ g3 b3 e3 t3 v2 H => ?_
  refine vx_seq <| ?_
  refine qa tok hT [1, 3, 4, 21] (St.mk [p 1 (AV.ptr 1 0), p 3 (I v1), p 4 (I v2), p 21 (B (decide (v2 < v1)))] [(1, Ob.box 43 [L y107 a0])]) (by kernel_rfl) ?_
  refine cd H (by kernel_rfl) (fun H => ?_) (fun H => ?_)
  ·refine vx_skip <| fx_seq <| vx_seq <| vx_block <| ?_
   refine qb tok hT [1, 3, 4, 36] (St.mk [p 1 (AV.ptr 1 0), p 3 (I v1), p 4 (I v2), p 36 (B (decide ((a0.getD v2.toNat (dflt y107)).1 = (a0.getD v1.toNat (dflt y107)).1)))] [(1, Ob.box 43 [L y107 a0])]) H (by kernel_rfl) fun H => ?_
   refine cd H (by kernel_rfl) (fun H => ?_) (fun H => ?_)
   ·refine qa tok hT [2] (St.mk [p 2 (B false)] [(1, Ob.box 43 [L y107 a0])]) (by kernel_rfl) ?_
    exact vx_ret <| fx_blk_ret <| fx_seq_ret <| t3 <| fx_blk_ret <| fx_blk_ret <| t2 <| t1 <| fx_blk_ret <| t0 <| hr H (by kernel_rfl)
   refine vx_skip <| fx_blk <| fx_seq <| ?_
   refine zb tok hT [1, 3, 4] (St.mk [p 1 (AV.ptr 1 0), p 3 (I v1), p 4 (I (v2 + 1))] [(1, Ob.box 43 [L y107 a0])]) H (by kernel_rfl) fun H => ?_
   exact b3 H (by kernel_rfl)
  exact vx_exit <| fx_seq_exit <| e3 <| fx_blk_exit rfl <| fx_blk <| n2 H (by kernel_rfl)
 exact vx_exit <| fx_seq_exit <| e1 <| fx_blk_exit rfl <| n0 H (by kernel_rfl)
def u57J9 : Unit → Option (Bool)
 | _ =>
 some true
def u57L10 (v20 : List Int) (g10 : Int → Option (Bool)) : Int → Option (Bool)
 | v21 =>
 if (decide (v21 < (↑v20.length : Int))) = true then
  gd (ix v21 v20.length ∧ v21.toNat < v20.length ∧ True) <| 
  if (v20.getD v21.toNat 0 != 1) = true then
   some false
  else
   gd (in64 (v21 + 1) ∧ True) <| 
   g10 (v21 + 1)
 else
  u57J9 ()
def u57J6 : List Int → Option (Bool)
 | v20 =>
 lp (u57L10 v20) 0
def u57J8 (v16 : Int) (g7 : Int × List Int → Option (Bool)) : List Int → Option (Bool)
 | v19 =>
 gd (in64 (v16 + 1) ∧ True) <| 
 g7 (v16 + 1, v19)
def u57L7 (a1 : Y47) (g7 : Int × List Int → Option (Bool)) : Int × List Int → Option (Bool)
 | (v16, v17) =>
 if (decide (v16 < (↑a1.2.2.length : Int))) = true then
  gd (ix v16 a1.2.2.length ∧ True) <| 
  if ((a1.2.2.getD v16.toNat (dflt y144)).2.1 == 1) = true then
   gd (ix v16 a1.2.2.length ∧ ix (a1.2.2.getD v16.toNat (dflt y144)).2.2 v17.length ∧ (a1.2.2.getD v16.toNat (dflt y144)).2.2.toNat < v17.length ∧ in64 (v17.getD (a1.2.2.getD v16.toNat (dflt y144)).2.2.toNat 0 + 1) ∧ ix (a1.2.2.getD v16.toNat (dflt y144)).2.2 v17.length ∧ (a1.2.2.getD v16.toNat (dflt y144)).2.2.toNat < v17.length ∧ True) <| lt (v17.set (a1.2.2.getD v16.toNat (dflt y144)).2.2.toNat (v17.getD (a1.2.2.getD v16.toNat (dflt y144)).2.2.toNat 0 + 1)) fun v18 =>
   u57J8 v16 g7 v18
  else
   u57J8 v16 g7 v17
 else
  u57J6 v17
def u57J4 (a1 : Y47) : List Int → Option (Bool)
 | v13 =>
 lp (u57L7 a1) (0, v13)
def u57L5 (a1 : Y47) (g5 : Int × List Int → Option (Bool)) : Int × List Int → Option (Bool)
 | (v9, v10) =>
 if (decide (v9 < (↑a1.1.length : Int))) = true then
  gd (ix v9 a1.1.length ∧ True) <| lt (a1.1.getD v9.toNat (dflt y109)) fun v11 =>
  gd (in64 ((↑v11.2.2.length : Int) - 1) ∧ ix ((↑v11.2.2.length : Int) - 1) v11.2.2.length ∧ ix (v11.2.2.getD ((↑v11.2.2.length : Int) - 1).toNat 0) v10.length ∧ Int.toNat (v11.2.2.getD ((↑v11.2.2.length : Int) - 1).toNat 0) < v10.length ∧ in64 (v10.getD (Int.toNat (v11.2.2.getD ((↑v11.2.2.length : Int) - 1).toNat 0)) 0 + 1) ∧ ix (v11.2.2.getD ((↑v11.2.2.length : Int) - 1).toNat 0) v10.length ∧ Int.toNat (v11.2.2.getD ((↑v11.2.2.length : Int) - 1).toNat 0) < v10.length ∧ True) <| lt (v10.set (Int.toNat (v11.2.2.getD ((↑v11.2.2.length : Int) - 1).toNat 0)) (v10.getD (Int.toNat (v11.2.2.getD ((↑v11.2.2.length : Int) - 1).toNat 0)) 0 + 1)) fun v12 =>
  gd (in64 (v9 + 1) ∧ True) <| 
  g5 (v9 + 1, v12)
 else
  u57J4 a1 v10
def u57J2 (a1 : Y47) (v2 : List ByteArray) : List ByteArray → Option (Bool)
 | v6 =>
 gd ((u99 v2).isSome = true ∧ ((!vl (u99 v2)) = false ∧ True → (u99 v6).isSome = true) ∧ ((!vl (u99 v2) || !vl (u99 v6)) = false ∧ True → (u99 a1.2.1).isSome = true) ∧ True) <| 
 if (!vl (u99 v2) || !vl (u99 v6) || !vl (u99 a1.2.1)) = true then
  some false
 else
  gd ((0 ≤ (↑a1.2.1.length : Int) ∧ (↑a1.2.1.length : Int) = (↑a1.2.1.length : Int) ∧ (↑a1.2.1.length : Int).toNat * 8 ≤ 281474976710656 ∧ (↑a1.2.1.length : Int) ≤ 9223372036854775807) ∧ True) <| 
  lp (u57L5 a1) ((0, List.replicate (↑a1.2.1.length : Int).toNat 0))
def u57L3 (a1 : Y47) (v2 : List ByteArray) (g3 : Int × List ByteArray → Option (Bool)) : Int × List ByteArray → Option (Bool)
 | (v4, v5) =>
 if (decide (v4 < (↑a1.2.2.length : Int))) = true then
  gd (ix v4 a1.2.2.length ∧ (v5.length + [(a1.2.2.getD v4.toNat (dflt y144)).1].length ≤ 9223372036854775807 ∧ (v5.length + [(a1.2.2.getD v4.toNat (dflt y144)).1].length) * 16 ≤ 140737488355328) ∧ True) <| 
  gd (in64 (v4 + 1) ∧ True) <| 
  g3 ((v4 + 1, v5 ++ [(a1.2.2.getD v4.toNat (dflt y144)).1]))
 else
  u57J2 a1 v2 v5
def u57J0 (a1 : Y47) : List ByteArray → Option (Bool)
 | v2 =>
 lp (u57L3 a1 v2) (0, [])
def u57L1 (a1 : Y47) (g1 : Int × List ByteArray → Option (Bool)) : Int × List ByteArray → Option (Bool)
 | (v0, v1) =>
 if (decide (v0 < (↑a1.1.length : Int))) = true then
  gd (ix v0 a1.1.length ∧ (v1.length + [(a1.1.getD v0.toNat (dflt y109)).1].length ≤ 9223372036854775807 ∧ (v1.length + [(a1.1.getD v0.toNat (dflt y109)).1].length) * 16 ≤ 140737488355328) ∧ True) <| 
  gd (in64 (v0 + 1) ∧ True) <| 
  g1 ((v0 + 1, v1 ++ [(a1.1.getD v0.toNat (dflt y109)).1]))
 else
  u57J0 a1 v1
def u57 (a0 : List Y107) (a1 : Y47) : Option (Bool) :=
 gd ((u97 a0).isSome = true ∧ ((!vl (u97 a0) || decide (14 < (↑a1.1.length : Int)) || decide (30 < (↑a1.2.1.length : Int)) || decide (8 < (↑a1.2.2.length : Int))) = false ∧ True → (u98 a0 a1).isSome = true) ∧ True) <| 
 if (!vl (u97 a0) || decide (14 < (↑a1.1.length : Int)) || decide (30 < (↑a1.2.1.length : Int)) || decide (8 < (↑a1.2.2.length : Int)) || !vl (u98 a0 a1)) = true then
  some false
 else
  lp (u57L1 a1) (0, [])
def k57 : Ct := lct 57 [.agg y107.sl, .agg y47] (fun x => u57 x.1 x.2.1) (fun r : Bool => B r) (fun _ => ())
theorem o57 : Ok Tryz.prog k57 := by
 refine okl tok [.tmp 4] Tryz.func57 Tryz.ntmps57 rfl Tryz.results57 (by kernel_rfl) rfl ?_
 intro y ⟨a0, a1, _⟩ r H Q hn hr
 have hT := tc o99 (tc o98 (tc o97 tn))
 refine qa tok hT [2, 3] (St.mk [p 2 (AV.ptr 2 0), p 3 (AV.ptr 3 0)] [(3, Ob.box 47 (cellsD false y47 a1)), (2, Ob.box 43 [L y107 a0])]) (by kernel_rfl) ?_
 refine vx_seq <| ?_
 refine qb tok hT [3, 40] (St.mk [p 3 (AV.ptr 3 0), p 40 (B (!vl (u97 a0) || decide (14 < (↑a1.1.length : Int)) || decide (30 < (↑a1.2.1.length : Int)) || decide (8 < (↑a1.2.2.length : Int)) || !vl (u98 a0 a1)))] [(3, Ob.box 47 (cellsD false y47 a1)), (2, Ob.box 43 [L y107 a0])]) H (by kernel_rfl) fun H => ?_
 refine cd H (by kernel_rfl) (fun H => ?_) (fun H => ?_)
 ·refine qa tok hT [4] (St.mk [p 4 (B false)] [(3, Ob.box 47 (cellsD false y47 a1)), (2, Ob.box 43 [L y107 a0])]) (by kernel_rfl) ?_
  exact vx_ret <| fx_seq_ret <| hr H (by kernel_rfl)
 refine vx_skip <| fx_seq <| ?_
 refine qa tok hT [3, 5] (St.mk [p 3 (AV.ptr 3 0), p 5 (AV.os 41 0)] [(41, Ob.arr 9 true Ty.str [] 0), (3, Ob.box 47 (cellsD false y47 a1)), (2, Ob.box 43 [L y107 a0])]) (by kernel_rfl) ?_
 refine jn r (fun (v2 : List ByteArray) => St.mk [p 3 (AV.ptr 3 0), p 5 (AV.os 41 0)] [(41, Ob.arr 9 true Ty.str v2 0), (3, Ob.box 47 (cellsD false y47 a1))]) (u57J0 a1) (fun v2 H => ?_) (fun _ n0 e0 t0 => ?_)
 ·refine qa tok hT [3, 5, 7] (St.mk [p 3 (AV.ptr 3 0), p 5 (AV.os 41 0), p 7 (AV.os 58 0)] [(58, Ob.arr 9 true Ty.str [] 0), (41, Ob.arr 9 true Ty.str v2 0), (3, Ob.box 47 (cellsD false y47 a1))]) (by kernel_rfl) ?_
  refine jn r (fun (v6 : List ByteArray) => St.mk [p 3 (AV.ptr 3 0), p 5 (AV.os 41 0), p 7 (AV.os 58 0)] [(58, Ob.arr 9 true Ty.str v6 0), (41, Ob.arr 9 true Ty.str v2 0), (3, Ob.box 47 (cellsD false y47 a1))]) (u57J2 a1 v2) (fun v6 H => ?_) (fun _ n2 e2 t2 => ?_)
  ·refine vx_seq <| ?_
   refine qb tok hT [3, 88] (St.mk [p 3 (AV.ptr 3 0), p 88 (B (!vl (u99 v2) || !vl (u99 v6) || !vl (u99 a1.2.1)))] [(58, Ob.arr 9 true Ty.str v6 0), (41, Ob.arr 9 true Ty.str v2 0), (3, Ob.box 47 (cellsD false y47 a1))]) H (by kernel_rfl) fun H => ?_
   refine cd H (by kernel_rfl) (fun H => ?_) (fun H => ?_)
   ·refine qa tok hT [4] (St.mk [p 4 (B false)] [(58, Ob.arr 9 true Ty.str v6 0), (41, Ob.arr 9 true Ty.str v2 0), (3, Ob.box 47 (cellsD false y47 a1))]) (by kernel_rfl) ?_
    exact vx_ret <| fx_seq_ret <| hr H (by kernel_rfl)
   refine vx_skip <| fx_seq <| ?_
   refine qb tok hT [3, 9] (St.mk [p 3 (AV.ptr 3 0), p 9 (AV.os 92 0)] [(92, Ob.arr 2 true i64 (List.replicate (↑a1.2.1.length : Int).toNat 0) 0), (58, Ob.arr 9 true Ty.str v6 0), (41, Ob.arr 9 true Ty.str v2 0), (3, Ob.box 47 (cellsD false y47 a1))]) H (by kernel_rfl) fun H => ?_
   refine jn r (fun (v13 : List Int) => St.mk [p 3 (AV.ptr 3 0), p 9 (AV.os 92 0)] [(92, Ob.arr 2 true i64 v13 0), (3, Ob.box 47 (cellsD false y47 a1))]) (u57J4 a1) (fun v13 H => ?_) (fun _ n4 e4 t4 => ?_)
   ·refine jn r (fun (v20 : List Int) => St.mk [p 9 (AV.os 92 0)] [(92, Ob.arr 2 true i64 v20 0)]) (u57J6) (fun v20 H => ?_) (fun _ n6 e6 t6 => ?_)
    ·refine jn r (fun (_ : Unit) => St.mk [] []) (u57J9) (fun _ H => ?_) (fun _ n9 e9 t9 => ?_)
     ·refine qa tok hT [4] (St.mk [p 4 (B true)] []) (by kernel_rfl) ?_
      exact vx_ret <| hr H (by kernel_rfl)
     refine qa tok hT [9, 13] (St.mk [p 9 (AV.os 92 0), p 13 (I 0)] [(92, Ob.arr 2 true i64 v20 0)]) (by kernel_rfl) ?_
     refine vx_block <| ?_
     refine lx (fun (v21 : Int) => St.mk [p 9 (AV.os 92 0), p 13 (I v21)] [(92, Ob.arr 2 true i64 v20 0)]) 0 H (by kernel_rfl) fun _ g10 b10 e10 t10 v21 H => ?_
     refine vx_seq <| ?_
     refine qa tok hT [9, 13, 145] (St.mk [p 9 (AV.os 92 0), p 13 (I v21), p 145 (B (decide (v21 < (↑v20.length : Int))))] [(92, Ob.arr 2 true i64 v20 0)]) (by kernel_rfl) ?_
     refine cd H (by kernel_rfl) (fun H => ?_) (fun H => ?_)
     ·refine vx_skip <| fx_seq <| vx_seq <| vx_block <| ?_
      refine qb tok hT [9, 13, 152] (St.mk [p 9 (AV.os 92 0), p 13 (I v21), p 152 (B (v20.getD v21.toNat 0 != 1))] [(92, Ob.arr 2 true i64 v20 0)]) H (by kernel_rfl) fun H => ?_
      refine cd H (by kernel_rfl) (fun H => ?_) (fun H => ?_)
      ·refine qa tok hT [4] (St.mk [p 4 (B false)] [(92, Ob.arr 2 true i64 v20 0)]) (by kernel_rfl) ?_
       exact vx_ret <| fx_blk_ret <| fx_seq_ret <| t10 <| fx_blk_ret <| t9 <| hr H (by kernel_rfl)
      refine vx_skip <| fx_blk <| fx_seq <| ?_
      refine zb tok hT [9, 13] (St.mk [p 9 (AV.os 92 0), p 13 (I (v21 + 1))] [(92, Ob.arr 2 true i64 v20 0)]) H (by kernel_rfl) fun H => ?_
      exact b10 H (by kernel_rfl)
     exact vx_exit <| fx_seq_exit <| e10 <| fx_blk_exit rfl <| n9 H (by kernel_rfl)
    refine qa tok hT [3, 9, 12] (St.mk [p 3 (AV.ptr 3 0), p 9 (AV.os 92 0), p 12 (I 0)] [(92, Ob.arr 2 true i64 v13 0), (3, Ob.box 47 (cellsD false y47 a1))]) (by kernel_rfl) ?_
    refine vx_block <| ?_
    refine lx (fun ((v16, v17) : Int × List Int) => St.mk [p 3 (AV.ptr 3 0), p 9 (AV.os 92 0), p 12 (I v16)] [(92, Ob.arr 2 true i64 v17 0), (3, Ob.box 47 (cellsD false y47 a1))]) (0, v13) H (by kernel_rfl) fun _ g7 b7 e7 t7 ⟨v16, v17⟩ H => ?_
    refine vx_seq <| ?_
    refine qa tok hT [3, 9, 12, 121] (St.mk [p 3 (AV.ptr 3 0), p 9 (AV.os 92 0), p 12 (I v16), p 121 (B (decide (v16 < (↑a1.2.2.length : Int))))] [(92, Ob.arr 2 true i64 v17 0), (3, Ob.box 47 (cellsD false y47 a1))]) (by kernel_rfl) ?_
    refine cd H (by kernel_rfl) (fun H => ?_) (fun H => ?_)
    ·refine vx_skip <| fx_seq <| ?_
     refine jn r (fun (v19 : List Int) => St.mk [p 3 (AV.ptr 3 0), p 9 (AV.os 92 0), p 12 (I v16)] [(92, Ob.arr 2 true i64 v19 0), (3, Ob.box 47 (cellsD false y47 a1))]) (u57J8 v16 g7) (fun v19 H => ?_) (fun _ n8 e8 t8 => ?_)
     ·refine zb tok hT [3, 9, 12] (St.mk [p 3 (AV.ptr 3 0), p 9 (AV.os 92 0), p 12 (I (v16 + 1))] [(92, Ob.arr 2 true i64 v19 0), (3, Ob.box 47 (cellsD false y47 a1))]) H (by kernel_rfl) fun H => ?_
      exact b7 H (by kernel_rfl)
     refine vx_block <| ?_
     refine qb tok hT [3, 9, 12, 130] (St.mk [p 3 (AV.ptr 3 0), p 9 (AV.os 92 0), p 12 (I v16), p 130 (B ((a1.2.2.getD v16.toNat (dflt y144)).2.1 == 1))] [(92, Ob.arr 2 true i64 v17 0), (3, Ob.box 47 (cellsD false y47 a1))]) H (by kernel_rfl) fun H => ?_
     refine cd H (by kernel_rfl) (fun H => ?_) (fun H => ?_)
     ·refine zd tok hT [3, 9, 12] (fun v18 => St.mk [p 3 (AV.ptr 3 0), p 9 (AV.os 92 0), p 12 (I v16)] [(92, Ob.arr 2 true i64 v18 0), (3, Ob.box 47 (cellsD false y47 a1))]) H (by kernel_rfl) fun v18 H => ?_
      exact fx_blk <| n8 H (by kernel_rfl)
     exact vx_skip <| fx_blk <| n8 H (by kernel_rfl)
    exact vx_exit <| fx_seq_exit <| e7 <| fx_blk_exit rfl <| n6 H (by kernel_rfl)
   refine qa tok hT [3, 9, 10] (St.mk [p 3 (AV.ptr 3 0), p 9 (AV.os 92 0), p 10 (I 0)] [(92, Ob.arr 2 true i64 (List.replicate (↑a1.2.1.length : Int).toNat 0) 0), (58, Ob.arr 9 true Ty.str v6 0), (41, Ob.arr 9 true Ty.str v2 0), (3, Ob.box 47 (cellsD false y47 a1))]) (by kernel_rfl) ?_
   refine vx_block <| ?_
   refine lx (fun ((v9, v10) : Int × List Int) => St.mk [p 3 (AV.ptr 3 0), p 9 (AV.os 92 0), p 10 (I v9)] [(92, Ob.arr 2 true i64 v10 0), (3, Ob.box 47 (cellsD false y47 a1))]) ((0, List.replicate (↑a1.2.1.length : Int).toNat 0)) H (by kernel_rfl) fun _ g5 b5 e5 t5 ⟨v9, v10⟩ H => ?_
   refine vx_seq <| ?_
   refine qa tok hT [3, 9, 10, 97] (St.mk [p 3 (AV.ptr 3 0), p 9 (AV.os 92 0), p 10 (I v9), p 97 (B (decide (v9 < (↑a1.1.length : Int))))] [(92, Ob.arr 2 true i64 v10 0), (3, Ob.box 47 (cellsD false y47 a1))]) (by kernel_rfl) ?_
   refine cd H (by kernel_rfl) (fun H => ?_) (fun H => ?_)
   ·refine vx_skip <| fx_seq <| vx_seq <| vx_block <| ?_
    refine qd tok hT [3, 9, 10, 11] (fun v11 => St.mk [p 3 (AV.ptr 3 0), p 9 (AV.os 92 0), p 10 (I v9), p 11 (L i64 v11.2.2)] [(92, Ob.arr 2 true i64 v10 0), (3, Ob.box 47 (cellsD false y47 a1))]) H (by kernel_rfl) fun v11 H => ?_
    refine zd tok hT [3, 9, 10] (fun v12 => St.mk [p 3 (AV.ptr 3 0), p 9 (AV.os 92 0), p 10 (I v9)] [(92, Ob.arr 2 true i64 v12 0), (3, Ob.box 47 (cellsD false y47 a1))]) H (by kernel_rfl) fun v12 H => ?_
    refine fx_blk <| fx_seq <| ?_
    refine zb tok hT [3, 9, 10] (St.mk [p 3 (AV.ptr 3 0), p 9 (AV.os 92 0), p 10 (I (v9 + 1))] [(92, Ob.arr 2 true i64 v12 0), (3, Ob.box 47 (cellsD false y47 a1))]) H (by kernel_rfl) fun H => ?_
    exact b5 H (by kernel_rfl)
   exact vx_exit <| fx_seq_exit <| e5 <| fx_blk_exit rfl <| n4 H (by kernel_rfl)
  refine qa tok hT [3, 5, 7, 8] (St.mk [p 3 (AV.ptr 3 0), p 5 (AV.os 41 0), p 7 (AV.os 58 0), p 8 (I 0)] [(58, Ob.arr 9 true Ty.str [] 0), (41, Ob.arr 9 true Ty.str v2 0), (3, Ob.box 47 (cellsD false y47 a1))]) (by kernel_rfl) ?_
  refine vx_block <| ?_
  refine lx (fun ((v4, v5) : Int × List ByteArray) => St.mk [p 3 (AV.ptr 3 0), p 5 (AV.os 41 0), p 7 (AV.os 58 0), p 8 (I v4)] [(58, Ob.arr 9 true Ty.str v5 0), (41, Ob.arr 9 true Ty.str v2 0), (3, Ob.box 47 (cellsD false y47 a1))]) (0, []) H (by kernel_rfl) fun _ g3 b3 e3 t3 ⟨v4, v5⟩ H => ?_
  refine vx_seq <| ?_
  refine qa tok hT [3, 5, 7, 8, 63] (St.mk [p 3 (AV.ptr 3 0), p 5 (AV.os 41 0), p 7 (AV.os 58 0), p 8 (I v4), p 63 (B (decide (v4 < (↑a1.2.2.length : Int))))] [(58, Ob.arr 9 true Ty.str v5 0), (41, Ob.arr 9 true Ty.str v2 0), (3, Ob.box 47 (cellsD false y47 a1))]) (by kernel_rfl) ?_
  refine cd H (by kernel_rfl) (fun H => ?_) (fun H => ?_)
  ·refine vx_skip <| fx_seq <| vx_seq <| vx_block <| ?_
   refine zb tok hT [3, 5, 7, 8] (St.mk [p 3 (AV.ptr 3 0), p 5 (AV.os 41 0), p 7 (AV.os 58 1), p 8 (I v4)] [(58, Ob.arr 9 true Ty.str (v5 ++ [(a1.2.2.getD v4.toNat (dflt y144)).1]) 1), (73, Ob.arr 9 true Ty.str [(a1.2.2.getD v4.toNat (dflt y144)).1] 0), (41, Ob.arr 9 true Ty.str v2 0), (3, Ob.box 47 (cellsD false y47 a1))]) H (by kernel_rfl) fun H => ?_
   refine fx_blk <| fx_seq <| ?_
   refine zb tok hT [3, 5, 7, 8] (St.mk [p 3 (AV.ptr 3 0), p 5 (AV.os 41 0), p 7 (AV.os 58 1), p 8 (I (v4 + 1))] [(58, Ob.arr 9 true Ty.str (v5 ++ [(a1.2.2.getD v4.toNat (dflt y144)).1]) 1), (73, Ob.arr 9 true Ty.str [(a1.2.2.getD v4.toNat (dflt y144)).1] 0), (41, Ob.arr 9 true Ty.str v2 0), (3, Ob.box 47 (cellsD false y47 a1))]) H (by kernel_rfl) fun H => ?_
   exact b3 H (by kernel_rfl)
  exact vx_exit <| fx_seq_exit <| e3 <| fx_blk_exit rfl <| n2 H (by kernel_rfl)
 refine qa tok hT [3, 5, 6] (St.mk [p 3 (AV.ptr 3 0), p 5 (AV.os 41 0), p 6 (I 0)] [(41, Ob.arr 9 true Ty.str [] 0), (3, Ob.box 47 (cellsD false y47 a1)), (2, Ob.box 43 [L y107 a0])]) (by kernel_rfl) ?_
 refine vx_block <| ?_
 refine lx (fun ((v0, v1) : Int × List ByteArray) => St.mk [p 3 (AV.ptr 3 0), p 5 (AV.os 41 0), p 6 (I v0)] [(41, Ob.arr 9 true Ty.str v1 0), (3, Ob.box 47 (cellsD false y47 a1))]) (0, []) H (by kernel_rfl) fun _ g1 b1 e1 t1 ⟨v0, v1⟩ H => ?_
 refine vx_seq <| ?_
 refine qa tok hT [3, 5, 6, 46] (St.mk [p 3 (AV.ptr 3 0), p 5 (AV.os 41 0), p 6 (I v0), p 46 (B (decide (v0 < (↑a1.1.length : Int))))] [(41, Ob.arr 9 true Ty.str v1 0), (3, Ob.box 47 (cellsD false y47 a1))]) (by kernel_rfl) ?_
 refine cd H (by kernel_rfl) (fun H => ?_) (fun H => ?_)
 ·refine vx_skip <| fx_seq <| vx_seq <| vx_block <| ?_
  refine zb tok hT [3, 5, 6] (St.mk [p 3 (AV.ptr 3 0), p 5 (AV.os 41 1), p 6 (I v0)] [(41, Ob.arr 9 true Ty.str (v1 ++ [(a1.1.getD v0.toNat (dflt y109)).1]) 1), (56, Ob.arr 9 true Ty.str [(a1.1.getD v0.toNat (dflt y109)).1] 0), (3, Ob.box 47 (cellsD false y47 a1))]) H (by kernel_rfl) fun H => ?_
  refine fx_blk <| fx_seq <| ?_
  refine zb tok hT [3, 5, 6] (St.mk [p 3 (AV.ptr 3 0), p 5 (AV.os 41 1), p 6 (I (v0 + 1))] [(41, Ob.arr 9 true Ty.str (v1 ++ [(a1.1.getD v0.toNat (dflt y109)).1]) 1), (56, Ob.arr 9 true Ty.str [(a1.1.getD v0.toNat (dflt y109)).1] 0), (3, Ob.box 47 (cellsD false y47 a1))]) H (by kernel_rfl) fun H => ?_
  exact b1 H (by kernel_rfl)
 exact vx_exit <| fx_seq_exit <| e1 <| fx_blk_exit rfl <| n0 H (by kernel_rfl)
def u26J0 : Unit → Option (Bool)
 | _ =>
 some true
def u26L1 (a0 : Y50) (g1 : Int → Option (Bool)) : Int → Option (Bool)
 | v1 =>
 if (decide (v1 < (↑a0.2.2.length : Int))) = true then
  gd (ix v1 a0.2.2.length ∧ (u59 a0.2.1 v1).isSome = true ∧ (u58 (a0.2.2.getD v1.toNat (dflt y52)) (↑(vl (u59 a0.2.1 v1)).length : Int)).isSome = true ∧ True) <| lt (vl (u59 a0.2.1 v1)) fun v2 =>
  if (!vl (u58 (a0.2.2.getD v1.toNat (dflt y52)) (↑v2.length : Int))) = true then
   some false
  else
   gd (in64 (v1 + 1) ∧ True) <| 
   g1 (v1 + 1)
 else
  u26J0 ()
def u26 (a0 : Y50) : Option (Bool) :=
 gd ((u57 a0.1 a0.2.1).isSome = true ∧ True) <| 
 if (!vl (u57 a0.1 a0.2.1) || (↑a0.2.2.length : Int) != (↑a0.2.1.2.1.length : Int)) = true then
  some false
 else
  lp (u26L1 a0) 0
def k26 : Ct := lct 26 [.agg y50] (fun x => u26 x.1) (fun r : Bool => B r) (fun _ => ())
theorem o26 : Ok Tryz.prog k26 := by
 refine okl tok [.tmp 2] Tryz.func26 Tryz.ntmps26 rfl Tryz.results26 (by kernel_rfl) rfl ?_
 intro y ⟨a0, _⟩ r H Q hn hr
 have hT := tc o58 (tc o59 (tc o57 tn))
 refine qa tok hT [1] (St.mk [p 1 (AV.ptr 1 0)] [(1, Ob.box 50 (cellsD false y50 a0))]) (by kernel_rfl) ?_
 refine vx_seq <| ?_
 refine qb tok hT [1, 19] (St.mk [p 1 (AV.ptr 1 0), p 19 (B (!vl (u57 a0.1 a0.2.1) || (↑a0.2.2.length : Int) != (↑a0.2.1.2.1.length : Int)))] [(1, Ob.box 50 (cellsD false y50 a0))]) H (by kernel_rfl) fun H => ?_
 refine cd H (by kernel_rfl) (fun H => ?_) (fun H => ?_)
 ·refine qa tok hT [2] (St.mk [p 2 (B false)] [(1, Ob.box 50 (cellsD false y50 a0))]) (by kernel_rfl) ?_
  exact vx_ret <| fx_seq_ret <| hr H (by kernel_rfl)
 refine vx_skip <| fx_seq <| ?_
 refine jn r (fun (_ : Unit) => St.mk [] []) (u26J0) (fun _ H => ?_) (fun _ n0 e0 t0 => ?_)
 ·refine qa tok hT [2] (St.mk [p 2 (B true)] []) (by kernel_rfl) ?_
  exact vx_ret <| hr H (by kernel_rfl)
 refine qa tok hT [1, 3] (St.mk [p 1 (AV.ptr 1 0), p 3 (I 0)] [(1, Ob.box 50 (cellsD false y50 a0))]) (by kernel_rfl) ?_
 refine vx_block <| ?_
 refine lx (fun (v1 : Int) => St.mk [p 1 (AV.ptr 1 0), p 3 (I v1)] [(1, Ob.box 50 (cellsD false y50 a0))]) 0 H (by kernel_rfl) fun _ g1 b1 e1 t1 v1 H => ?_
 refine vx_seq <| ?_
 refine qa tok hT [1, 3, 24] (St.mk [p 1 (AV.ptr 1 0), p 3 (I v1), p 24 (B (decide (v1 < (↑a0.2.2.length : Int))))] [(1, Ob.box 50 (cellsD false y50 a0))]) (by kernel_rfl) ?_
 refine cd H (by kernel_rfl) (fun H => ?_) (fun H => ?_)
 ·refine vx_skip <| fx_seq <| vx_seq <| vx_block <| ?_
  refine qd tok hT [1, 3, 38] (fun v2 => St.mk [p 1 (AV.ptr 1 0), p 3 (I v1), p 38 (B !vl (u58 (a0.2.2.getD v1.toNat (dflt y52)) (↑v2.length : Int)))] [(35, Ob.arr 2 true i64 v2 0), (1, Ob.box 50 (cellsD false y50 a0))]) H (by kernel_rfl) fun v2 H => ?_
  refine cd H (by kernel_rfl) (fun H => ?_) (fun H => ?_)
  ·refine qa tok hT [2] (St.mk [p 2 (B false)] [(35, Ob.arr 2 true i64 v2 0), (1, Ob.box 50 (cellsD false y50 a0))]) (by kernel_rfl) ?_
   exact vx_ret <| fx_blk_ret <| fx_seq_ret <| t1 <| fx_blk_ret <| t0 <| hr H (by kernel_rfl)
  refine vx_skip <| fx_blk <| fx_seq <| ?_
  refine zb tok hT [1, 3] (St.mk [p 1 (AV.ptr 1 0), p 3 (I (v1 + 1))] [(35, Ob.arr 2 true i64 v2 0), (1, Ob.box 50 (cellsD false y50 a0))]) H (by kernel_rfl) fun H => ?_
  exact b1 H (by kernel_rfl)
 exact vx_exit <| fx_seq_exit <| e1 <| fx_blk_exit rfl <| n0 H (by kernel_rfl)
def u8 (a0 : Y50) (a1 : Y54) : Option (Int) :=
 gd ((u26 a0).isSome = true ∧ True) <| 
 if (!vl (u26 a0)) = true then
  some 1
 else
  gd ((u27 a1).isSome = true ∧ ((!vl (u27 a1)) = false ∧ True → (u28 a0 a1).isSome = true) ∧ True) <| 
  if (!vl (u27 a1) || !vl (u28 a0 a1)) = true then
   some 2
  else
   gd ((u29 a0 a1).isSome = true ∧ True) <| 
   if (!vl (u29 a0 a1)) = true then
    some 5
   else
    if (a1.1 == 2 && ((↑a0.2.1.1.length : Int) == 14 || (↑a0.2.2.length : Int) == 30)) = true then
     some 3
    else
     some 0
def k8 : Ct := lct 8 [.agg y50, .agg y54] (fun x => u8 x.1 x.2.1) (fun r : Int => I r) (fun _ => ())
theorem o8 : Ok Tryz.prog k8 := by
 refine okl tok [.tmp 4] Tryz.func8 Tryz.ntmps8 rfl Tryz.results8 (by kernel_rfl) rfl ?_
 intro y ⟨a0, a1, _⟩ r H Q hn hr
 have hT := tc o29 (tc o28 (tc o27 (tc o26 tn)))
 refine qa tok hT [2, 3] (St.mk [p 2 (AV.ptr 2 0), p 3 (AV.ptr 3 0)] [(3, Ob.box 54 (cellsD false y54 a1)), (2, Ob.box 50 (cellsD false y50 a0))]) (by kernel_rfl) ?_
 refine vx_seq <| vx_block <| ?_
 refine qb tok hT [2, 3, 5] (St.mk [p 2 (AV.ptr 2 0), p 3 (AV.ptr 3 0), p 5 (B !vl (u26 a0))] [(3, Ob.box 54 (cellsD false y54 a1)), (2, Ob.box 50 (cellsD false y50 a0))]) H (by kernel_rfl) fun H => ?_
 refine cd H (by kernel_rfl) (fun H => ?_) (fun H => ?_)
 ·refine qa tok hT [4] (St.mk [p 4 (I 1)] [(3, Ob.box 54 (cellsD false y54 a1)), (2, Ob.box 50 (cellsD false y50 a0))]) (by kernel_rfl) ?_
  exact vx_ret <| fx_blk_ret <| fx_seq_ret <| hr H (by kernel_rfl)
 refine qb tok hT [2, 3, 9] (St.mk [p 2 (AV.ptr 2 0), p 3 (AV.ptr 3 0), p 9 (B (!vl (u27 a1) || !vl (u28 a0 a1)))] [(3, Ob.box 54 (cellsD false y54 a1)), (2, Ob.box 50 (cellsD false y50 a0))]) H (by kernel_rfl) fun H => ?_
 refine cd H (by kernel_rfl) (fun H => ?_) (fun H => ?_)
 ·refine qa tok hT [4] (St.mk [p 4 (I 2)] [(3, Ob.box 54 (cellsD false y54 a1)), (2, Ob.box 50 (cellsD false y50 a0))]) (by kernel_rfl) ?_
  exact vx_ret <| fx_blk_ret <| fx_seq_ret <| hr H (by kernel_rfl)
 refine qb tok hT [2, 3, 19] (St.mk [p 2 (AV.ptr 2 0), p 3 (AV.ptr 3 0), p 19 (B !vl (u29 a0 a1))] [(3, Ob.box 54 (cellsD false y54 a1)), (2, Ob.box 50 (cellsD false y50 a0))]) H (by kernel_rfl) fun H => ?_
 refine cd H (by kernel_rfl) (fun H => ?_) (fun H => ?_)
 ·refine qa tok hT [4] (St.mk [p 4 (I 5)] [(3, Ob.box 54 (cellsD false y54 a1)), (2, Ob.box 50 (cellsD false y50 a0))]) (by kernel_rfl) ?_
  exact vx_ret <| fx_blk_ret <| fx_seq_ret <| hr H (by kernel_rfl)
 refine qa tok hT [24] (St.mk [p 24 (B (a1.1 == 2 && ((↑a0.2.1.1.length : Int) == 14 || (↑a0.2.2.length : Int) == 30)))] [(3, Ob.box 54 (cellsD false y54 a1)), (2, Ob.box 50 (cellsD false y50 a0))]) (by kernel_rfl) ?_
 refine cd H (by kernel_rfl) (fun H => ?_) (fun H => ?_)
 ·refine qa tok hT [4] (St.mk [p 4 (I 3)] [(3, Ob.box 54 (cellsD false y54 a1)), (2, Ob.box 50 (cellsD false y50 a0))]) (by kernel_rfl) ?_
  exact vx_ret <| fx_blk_ret <| fx_seq_ret <| hr H (by kernel_rfl)
 refine vx_skip <| fx_blk <| fx_seq <| ?_
 refine qa tok hT [4] (St.mk [p 4 (I 0)] [(3, Ob.box 54 (cellsD false y54 a1)), (2, Ob.box 50 (cellsD false y50 a0))]) (by kernel_rfl) ?_
 exact vx_ret <| hr H (by kernel_rfl)
def u56 (a0 : List Int) (a1 : Int) : Option (Int) :=
 gd (in64 (a1 - (↑a0.length : Int)) ∧ True) <| 
 if (decide (a1 - (↑a0.length : Int) < 0)) = true then
  some (-1)
 else
  some (a1 - (↑a0.length : Int))
def k56 : Ct := lct 56 [.dat i64.sl, .dat i64] (fun x => u56 x.1 x.2.1) (fun r : Int => I r) (fun _ => ())
theorem o56 : Ok Tryz.prog k56 := by
 refine okl tok [.tmp 4] Tryz.func56 Tryz.ntmps56 rfl Tryz.results56 (by kernel_rfl) rfl ?_
 intro y ⟨a0, a1, _⟩ r H Q hn hr
 have hT := @tn Tryz.prog
 refine qa tok hT [0, 1] (St.mk [p 0 (L i64 a0), p 1 (J a1)] []) (by kernel_rfl) ?_
 refine qb tok hT [1] (St.mk [p 1 (I (a1 - (↑a0.length : Int)))] []) H (by kernel_rfl) fun H => ?_
 refine vx_seq <| ?_
 refine qa tok hT [1, 10] (St.mk [p 1 (I (a1 - (↑a0.length : Int))), p 10 (B (decide (a1 - (↑a0.length : Int) < 0)))] []) (by kernel_rfl) ?_
 refine cd H (by kernel_rfl) (fun H => ?_) (fun H => ?_)
 ·refine qa tok hT [4] (St.mk [p 4 (I (-1))] []) (by kernel_rfl) ?_
  exact vx_ret <| fx_seq_ret <| hr H (by kernel_rfl)
 refine vx_skip <| fx_seq <| ?_
 refine qa tok hT [4] (St.mk [p 4 (I (a1 - (↑a0.length : Int)))] []) (by kernel_rfl) ?_
 exact vx_ret <| hr H (by kernel_rfl)
def u25 (a0 : Y35) (a1 : Int) : Option (Int) :=
 gd ((u56 a0.1 a1).isSome = true ∧ True) <| lt (vl (u56 a0.1 a1)) fun v0 =>
 if (decide (v0 < 0)) = true then
  some (-1)
 else
  gd ((u56 a0.2.1 v0).isSome = true ∧ True) <| lt (vl (u56 a0.2.1 v0)) fun v1 =>
  if (decide (v1 < 0)) = true then
   some (-1)
  else
   gd ((u56 a0.2.2.1 v1).isSome = true ∧ True) <| lt (vl (u56 a0.2.2.1 v1)) fun v2 =>
   if (decide (v2 < 0)) = true then
    some (-1)
   else
    gd ((u56 a0.2.2.2 v2).isSome = true ∧ True) <| lt (vl (u56 a0.2.2.2 v2)) fun v3 =>
    if (decide (v3 < 0)) = true then
     some (-1)
    else
     some v3
def k25 : Ct := lct 25 [.agg y35, .dat i64] (fun x => u25 x.1 x.2.1) (fun r : Int => I r) (fun _ => ())
theorem o25 : Ok Tryz.prog k25 := by
 refine okl tok [.tmp 4] Tryz.func25 Tryz.ntmps25 rfl Tryz.results25 (by kernel_rfl) rfl ?_
 intro y ⟨a0, a1, _⟩ r H Q hn hr
 have hT := tc o56 tn
 refine qa tok hT [1, 2] (St.mk [p 1 (J a1), p 2 (AV.ptr 2 0)] [(2, Ob.box 35 (cellsD false y35 a0))]) (by kernel_rfl) ?_
 refine qd tok hT [1, 2] (fun v0 => St.mk [p 1 (I v0), p 2 (AV.ptr 2 0)] [(2, Ob.box 35 (cellsD false y35 a0))]) H (by kernel_rfl) fun v0 H => ?_
 refine vx_seq <| ?_
 refine qa tok hT [1, 2, 10] (St.mk [p 1 (I v0), p 2 (AV.ptr 2 0), p 10 (B (decide (v0 < 0)))] [(2, Ob.box 35 (cellsD false y35 a0))]) (by kernel_rfl) ?_
 refine cd H (by kernel_rfl) (fun H => ?_) (fun H => ?_)
 ·refine qa tok hT [4] (St.mk [p 4 (I (-1))] [(2, Ob.box 35 (cellsD false y35 a0))]) (by kernel_rfl) ?_
  exact vx_ret <| fx_seq_ret <| hr H (by kernel_rfl)
 refine vx_skip <| fx_seq <| ?_
 refine qd tok hT [1, 2] (fun v1 => St.mk [p 1 (I v1), p 2 (AV.ptr 2 0)] [(2, Ob.box 35 (cellsD false y35 a0))]) H (by kernel_rfl) fun v1 H => ?_
 refine vx_seq <| ?_
 refine qa tok hT [1, 2, 16] (St.mk [p 1 (I v1), p 2 (AV.ptr 2 0), p 16 (B (decide (v1 < 0)))] [(2, Ob.box 35 (cellsD false y35 a0))]) (by kernel_rfl) ?_
 refine cd H (by kernel_rfl) (fun H => ?_) (fun H => ?_)
 ·refine qa tok hT [4] (St.mk [p 4 (I (-1))] [(2, Ob.box 35 (cellsD false y35 a0))]) (by kernel_rfl) ?_
  exact vx_ret <| fx_seq_ret <| hr H (by kernel_rfl)
 refine vx_skip <| fx_seq <| ?_
 refine qd tok hT [1, 2] (fun v2 => St.mk [p 1 (I v2), p 2 (AV.ptr 2 0)] [(2, Ob.box 35 (cellsD false y35 a0))]) H (by kernel_rfl) fun v2 H => ?_
 refine vx_seq <| ?_
 refine qa tok hT [1, 2, 22] (St.mk [p 1 (I v2), p 2 (AV.ptr 2 0), p 22 (B (decide (v2 < 0)))] [(2, Ob.box 35 (cellsD false y35 a0))]) (by kernel_rfl) ?_
 refine cd H (by kernel_rfl) (fun H => ?_) (fun H => ?_)
 ·refine qa tok hT [4] (St.mk [p 4 (I (-1))] [(2, Ob.box 35 (cellsD false y35 a0))]) (by kernel_rfl) ?_
  exact vx_ret <| fx_seq_ret <| hr H (by kernel_rfl)
 refine vx_skip <| fx_seq <| ?_
 refine qd tok hT [1] (fun v3 => St.mk [p 1 (I v3)] [(2, Ob.box 35 (cellsD false y35 a0))]) H (by kernel_rfl) fun v3 H => ?_
 refine vx_seq <| ?_
 refine qa tok hT [1, 28] (St.mk [p 1 (I v3), p 28 (B (decide (v3 < 0)))] [(2, Ob.box 35 (cellsD false y35 a0))]) (by kernel_rfl) ?_
 refine cd H (by kernel_rfl) (fun H => ?_) (fun H => ?_)
 ·refine qa tok hT [4] (St.mk [p 4 (I (-1))] [(2, Ob.box 35 (cellsD false y35 a0))]) (by kernel_rfl) ?_
  exact vx_ret <| fx_seq_ret <| hr H (by kernel_rfl)
 refine vx_skip <| fx_seq <| ?_
 refine qa tok hT [4] (St.mk [p 4 (I v3)] [(2, Ob.box 35 (cellsD false y35 a0))]) (by kernel_rfl) ?_
 exact vx_ret <| hr H (by kernel_rfl)
def u7 (a0 : Y37) (a1 : Int) : Option (Int) :=
 gd (in64 (a1 - (↑a0.2.2.2.2.2.1.size : Int)) ∧ True) <| 
 if (decide (a1 - (↑a0.2.2.2.2.2.1.size : Int) < 0)) = true then
  some (-1)
 else
  gd ((u25 a0.2.2.2.2.2.2 (a1 - (↑a0.2.2.2.2.2.1.size : Int))).isSome = true ∧ True) <| lt (vl (u25 a0.2.2.2.2.2.2 (a1 - (↑a0.2.2.2.2.2.1.size : Int)))) fun v0 =>
  if (decide (v0 < 0)) = true then
   some (-1)
  else
   some v0
def k7 : Ct := lct 7 [.agg y37, .dat i64] (fun x => u7 x.1 x.2.1) (fun r : Int => I r) (fun _ => ())
theorem o7 : Ok Tryz.prog k7 := by
 refine okl tok [.tmp 4] Tryz.func7 Tryz.ntmps7 rfl Tryz.results7 (by kernel_rfl) rfl ?_
 intro y ⟨a0, a1, _⟩ r H Q hn hr
 have hT := tc o25 tn
 refine qa tok hT [1, 2] (St.mk [p 1 (J a1), p 2 (AV.ptr 2 0)] [(2, Ob.box 37 (cellsD false y37 a0))]) (by kernel_rfl) ?_
 refine qb tok hT [1, 2] (St.mk [p 1 (I (a1 - (↑a0.2.2.2.2.2.1.size : Int))), p 2 (AV.ptr 2 0)] [(2, Ob.box 37 (cellsD false y37 a0))]) H (by kernel_rfl) fun H => ?_
 refine vx_seq <| ?_
 refine qa tok hT [1, 2, 11] (St.mk [p 1 (I (a1 - (↑a0.2.2.2.2.2.1.size : Int))), p 2 (AV.ptr 2 0), p 11 (B (decide (a1 - (↑a0.2.2.2.2.2.1.size : Int) < 0)))] [(2, Ob.box 37 (cellsD false y37 a0))]) (by kernel_rfl) ?_
 refine cd H (by kernel_rfl) (fun H => ?_) (fun H => ?_)
 ·refine qa tok hT [4] (St.mk [p 4 (I (-1))] [(2, Ob.box 37 (cellsD false y37 a0))]) (by kernel_rfl) ?_
  exact vx_ret <| fx_seq_ret <| hr H (by kernel_rfl)
 refine vx_skip <| fx_seq <| ?_
 refine qd tok hT [1] (fun v0 => St.mk [p 1 (I v0)] [(2, Ob.box 37 (cellsD false y37 a0))]) H (by kernel_rfl) fun v0 H => ?_
 refine vx_seq <| ?_
 refine qa tok hT [1, 17] (St.mk [p 1 (I v0), p 17 (B (decide (v0 < 0)))] [(2, Ob.box 37 (cellsD false y37 a0))]) (by kernel_rfl) ?_
 refine cd H (by kernel_rfl) (fun H => ?_) (fun H => ?_)
 ·refine qa tok hT [4] (St.mk [p 4 (I (-1))] [(2, Ob.box 37 (cellsD false y37 a0))]) (by kernel_rfl) ?_
  exact vx_ret <| fx_seq_ret <| hr H (by kernel_rfl)
 refine vx_skip <| fx_seq <| ?_
 refine qa tok hT [4] (St.mk [p 4 (I v0)] [(2, Ob.box 37 (cellsD false y37 a0))]) (by kernel_rfl) ?_
 exact vx_ret <| hr H (by kernel_rfl)
def u24J0 : Int → Option (Int)
 | v4 =>
 some v4
def u24L1 (a0 : List Y35) (g1 : Int × Int → Option (Int)) : Int × Int → Option (Int)
 | (v1, v2) =>
 if (decide (v2 < (↑a0.length : Int))) = true then
  gd (ix v2 a0.length ∧ (u25 (a0.getD v2.toNat (dflt y35)) v1).isSome = true ∧ True) <| lt (vl (u25 (a0.getD v2.toNat (dflt y35)) v1)) fun v3 =>
  if (decide (v3 < 0)) = true then
   some (-1)
  else
   gd (in64 (v2 + 1) ∧ True) <| 
   g1 (v3, v2 + 1)
 else
  u24J0 v1
def u24 (a0 : List Y35) (a1 : Int) : Option (Int) :=
 gd (in64 (a1 - (↑a0.length : Int)) ∧ True) <| 
 if (decide (a1 - (↑a0.length : Int) < 0)) = true then
  some (-1)
 else
  lp (u24L1 a0) ((a1 - (↑a0.length : Int), 0))
def k24 : Ct := lct 24 [.dat y35.sl, .dat i64] (fun x => u24 x.1 x.2.1) (fun r : Int => I r) (fun _ => ())
theorem o24 : Ok Tryz.prog k24 := by
 refine okl tok [.tmp 4] Tryz.func24 Tryz.ntmps24 rfl Tryz.results24 (by kernel_rfl) rfl ?_
 intro y ⟨a0, a1, _⟩ r H Q hn hr
 have hT := tc o25 tn
 refine qa tok hT [0, 1] (St.mk [p 0 (L y35 a0), p 1 (J a1)] []) (by kernel_rfl) ?_
 refine qb tok hT [0, 1] (St.mk [p 0 (L y35 a0), p 1 (I (a1 - (↑a0.length : Int)))] []) H (by kernel_rfl) fun H => ?_
 refine vx_seq <| ?_
 refine qa tok hT [0, 1, 11] (St.mk [p 0 (L y35 a0), p 1 (I (a1 - (↑a0.length : Int))), p 11 (B (decide (a1 - (↑a0.length : Int) < 0)))] []) (by kernel_rfl) ?_
 refine cd H (by kernel_rfl) (fun H => ?_) (fun H => ?_)
 ·refine qa tok hT [4] (St.mk [p 4 (I (-1))] []) (by kernel_rfl) ?_
  exact vx_ret <| fx_seq_ret <| hr H (by kernel_rfl)
 refine vx_skip <| fx_seq <| ?_
 refine jn r (fun (v4 : Int) => St.mk [p 1 (I v4)] []) (u24J0) (fun v4 H => ?_) (fun _ n0 e0 t0 => ?_)
 ·refine qa tok hT [4] (St.mk [p 4 (I v4)] []) (by kernel_rfl) ?_
  exact vx_ret <| hr H (by kernel_rfl)
 refine qa tok hT [0, 1, 5] (St.mk [p 0 (L y35 a0), p 1 (I (a1 - (↑a0.length : Int))), p 5 (I 0)] []) (by kernel_rfl) ?_
 refine vx_block <| ?_
 refine lx (fun ((v1, v2) : Int × Int) => St.mk [p 0 (L y35 a0), p 1 (I v1), p 5 (I v2)] []) ((a1 - (↑a0.length : Int), 0)) H (by kernel_rfl) fun _ g1 b1 e1 t1 ⟨v1, v2⟩ H => ?_
 refine vx_seq <| ?_
 refine qa tok hT [0, 1, 5, 15] (St.mk [p 0 (L y35 a0), p 1 (I v1), p 5 (I v2), p 15 (B (decide (v2 < (↑a0.length : Int))))] []) (by kernel_rfl) ?_
 refine cd H (by kernel_rfl) (fun H => ?_) (fun H => ?_)
 ·refine vx_skip <| fx_seq <| vx_seq <| vx_block <| ?_
  refine qd tok hT [0, 1, 5] (fun v3 => St.mk [p 0 (L y35 a0), p 1 (I v3), p 5 (I v2)] []) H (by kernel_rfl) fun v3 H => ?_
  refine qa tok hT [0, 1, 5, 25] (St.mk [p 0 (L y35 a0), p 1 (I v3), p 5 (I v2), p 25 (B (decide (v3 < 0)))] []) (by kernel_rfl) ?_
  refine cd H (by kernel_rfl) (fun H => ?_) (fun H => ?_)
  ·refine qa tok hT [4] (St.mk [p 4 (I (-1))] []) (by kernel_rfl) ?_
   exact vx_ret <| fx_blk_ret <| fx_seq_ret <| t1 <| fx_blk_ret <| t0 <| hr H (by kernel_rfl)
  refine vx_skip <| fx_blk <| fx_seq <| ?_
  refine zb tok hT [0, 1, 5] (St.mk [p 0 (L y35 a0), p 1 (I v3), p 5 (I (v2 + 1))] []) H (by kernel_rfl) fun H => ?_
  exact b1 H (by kernel_rfl)
 exact vx_exit <| fx_seq_exit <| e1 <| fx_blk_exit rfl <| n0 H (by kernel_rfl)
def u96 (a0 : Y142) (a1 : Int) : Option (Int) :=
 gd (in64 (a1 - (↑a0.1.size : Int)) ∧ True) <| 
 if (decide (a1 - (↑a0.1.size : Int) < 0)) = true then
  some (-1)
 else
  some (a1 - (↑a0.1.size : Int))
def k96 : Ct := lct 96 [.agg y142, .dat i64] (fun x => u96 x.1 x.2.1) (fun r : Int => I r) (fun _ => ())
theorem o96 : Ok Tryz.prog k96 := by
 refine okl tok [.tmp 4] Tryz.func96 Tryz.ntmps96 rfl Tryz.results96 (by kernel_rfl) rfl ?_
 intro y ⟨a0, a1, _⟩ r H Q hn hr
 have hT := @tn Tryz.prog
 refine qa tok hT [1, 2] (St.mk [p 1 (J a1), p 2 (AV.ptr 2 0)] [(2, Ob.box 142 (cellsD false y142 a0))]) (by kernel_rfl) ?_
 refine qb tok hT [1] (St.mk [p 1 (I (a1 - (↑a0.1.size : Int)))] [(2, Ob.box 142 (cellsD false y142 a0))]) H (by kernel_rfl) fun H => ?_
 refine vx_seq <| ?_
 refine qa tok hT [1, 11] (St.mk [p 1 (I (a1 - (↑a0.1.size : Int))), p 11 (B (decide (a1 - (↑a0.1.size : Int) < 0)))] [(2, Ob.box 142 (cellsD false y142 a0))]) (by kernel_rfl) ?_
 refine cd H (by kernel_rfl) (fun H => ?_) (fun H => ?_)
 ·refine qa tok hT [4] (St.mk [p 4 (I (-1))] [(2, Ob.box 142 (cellsD false y142 a0))]) (by kernel_rfl) ?_
  exact vx_ret <| fx_seq_ret <| hr H (by kernel_rfl)
 refine vx_skip <| fx_seq <| ?_
 refine qa tok hT [4] (St.mk [p 4 (I (a1 - (↑a0.1.size : Int)))] [(2, Ob.box 142 (cellsD false y142 a0))]) (by kernel_rfl) ?_
 exact vx_ret <| hr H (by kernel_rfl)
end Go.Proofs.YtkmmjamclcdjkaaGreatDoor
