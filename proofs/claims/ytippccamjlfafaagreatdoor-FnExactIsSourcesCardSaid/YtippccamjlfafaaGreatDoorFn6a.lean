/- Functions of this program as plain functions of data, and that they are so: printed by program. -/
import Derived.Test.YtippccamjlfafaaGreatDoorXE
import Derived.Test.YtippccamjlfafaaGreatDoorTY
import Derived.Test.YtippccamjlfafaaGreatDoorLB
namespace Go.Proofs.YtippccamjlfafaaGreatDoor
open Go Go.Proofs Go.Proofs.Sv Go.Proofs.Xv Go.Proofs.Xl Go.RowKit
def u131J0 : Unit → Option (Bool)
 | _ =>
 some true
def u131L1 (a0 : List Int) (a1 : List Int) (g1 : Int → Option (Bool)) : Int → Option (Bool)
 | v0 =>
 if (decide (v0 < (↑a0.length : Int))) = true then
  gd (ix v0 a0.length ∧ ix v0 a1.length ∧ True) <| 
  if (a0.getD v0.toNat 0 != a1.getD v0.toNat 0) = true then
   some false
  else
   gd (in64 (v0 + 1) ∧ True) <| 
   g1 (v0 + 1)
 else
  u131J0 ()
def u131 (a0 : List Int) (a1 : List Int) : Option (Bool) :=
 if ((↑a0.length : Int) != (↑a1.length : Int)) = true then
  some false
 else
  lp (u131L1 a0 a1) 0
def k131 : Ct := lct 131 [.dat i64.sl, .dat i64.sl] (fun x => u131 x.1 x.2.1) (fun r : Bool => B r) (fun _ => ())
theorem o131 : Ok Tryz.prog k131 := by
 refine okl tok [.tmp 4] Tryz.func131 Tryz.ntmps131 rfl Tryz.results131 (by kernel_rfl) rfl ?_
 intro y ⟨a0, a1, _⟩ r H Q hn hr
 have hT := @tn Tryz.prog
 refine qa tok hT [0, 1] (St.mk [p 0 (L i64 a0), p 1 (L i64 a1)] []) (by kernel_rfl) ?_
 refine vx_seq <| ?_
 refine qa tok hT [0, 1, 10] (St.mk [p 0 (L i64 a0), p 1 (L i64 a1), p 10 (B ((↑a0.length : Int) != (↑a1.length : Int)))] []) (by kernel_rfl) ?_
 refine cd H (by kernel_rfl) (fun H => ?_) (fun H => ?_)
 ·refine qa tok hT [4] (St.mk [p 4 (B false)] []) (by kernel_rfl) ?_
  exact vx_ret <| fx_seq_ret <| hr H (by kernel_rfl)
 refine vx_skip <| fx_seq <| ?_
 refine jn r (fun (_ : Unit) => St.mk [] []) (u131J0) (fun _ H => ?_) (fun _ n0 e0 t0 => ?_)
 ·refine qa tok hT [4] (St.mk [p 4 (B true)] []) (by kernel_rfl) ?_
  exact vx_ret <| hr H (by kernel_rfl)
 refine qa tok hT [0, 1, 5] (St.mk [p 0 (L i64 a0), p 1 (L i64 a1), p 5 (I 0)] []) (by kernel_rfl) ?_
 refine vx_block <| ?_
 refine lx (fun (v0 : Int) => St.mk [p 0 (L i64 a0), p 1 (L i64 a1), p 5 (I v0)] []) 0 H (by kernel_rfl) fun _ g1 b1 e1 t1 v0 H => ?_
 refine vx_seq <| ?_
 refine qa tok hT [0, 1, 5, 14] (St.mk [p 0 (L i64 a0), p 1 (L i64 a1), p 5 (I v0), p 14 (B (decide (v0 < (↑a0.length : Int))))] []) (by kernel_rfl) ?_
 refine cd H (by kernel_rfl) (fun H => ?_) (fun H => ?_)
 ·refine vx_skip <| fx_seq <| vx_seq <| vx_block <| ?_
  refine qb tok hT [0, 1, 5, 25] (St.mk [p 0 (L i64 a0), p 1 (L i64 a1), p 5 (I v0), p 25 (B (a0.getD v0.toNat 0 != a1.getD v0.toNat 0))] []) H (by kernel_rfl) fun H => ?_
  refine cd H (by kernel_rfl) (fun H => ?_) (fun H => ?_)
  ·refine qa tok hT [4] (St.mk [p 4 (B false)] []) (by kernel_rfl) ?_
   exact vx_ret <| fx_blk_ret <| fx_seq_ret <| t1 <| fx_blk_ret <| t0 <| hr H (by kernel_rfl)
  refine vx_skip <| fx_blk <| fx_seq <| ?_
  refine zb tok hT [0, 1, 5] (St.mk [p 0 (L i64 a0), p 1 (L i64 a1), p 5 (I (v0 + 1))] []) H (by kernel_rfl) fun H => ?_
  exact b1 H (by kernel_rfl)
 exact vx_exit <| fx_seq_exit <| e1 <| fx_blk_exit rfl <| n0 H (by kernel_rfl)
def u84 (a0 : Y131) (a1 : Y131) : Option (Bool) :=
 gd ((u131 a0.1 a1.1).isSome = true ∧ True) <| 
 if (!vl (u131 a0.1 a1.1)) = true then
  some false
 else
  gd ((u131 a0.2.1 a1.2.1).isSome = true ∧ True) <| 
  if (!vl (u131 a0.2.1 a1.2.1)) = true then
   some false
  else
   gd ((u131 a0.2.2.1 a1.2.2.1).isSome = true ∧ True) <| 
   if (!vl (u131 a0.2.2.1 a1.2.2.1)) = true then
    some false
   else
    gd ((u131 a0.2.2.2 a1.2.2.2).isSome = true ∧ True) <| 
    if (!vl (u131 a0.2.2.2 a1.2.2.2)) = true then
     some false
    else
     some true
def k84 : Ct := lct 84 [.agg y131, .agg y131] (fun x => u84 x.1 x.2.1) (fun r : Bool => B r) (fun _ => ())
theorem o84 : Ok Tryz.prog k84 := by
 refine okl tok [.tmp 4] Tryz.func84 Tryz.ntmps84 rfl Tryz.results84 (by kernel_rfl) rfl ?_
 intro y ⟨a0, a1, _⟩ r H Q hn hr
 have hT := tc o131 tn
 refine qa tok hT [2, 3] (St.mk [p 2 (AV.ptr 2 0), p 3 (AV.ptr 3 0)] [(3, Ob.box 131 (cellsD false y131 a1)), (2, Ob.box 131 (cellsD false y131 a0))]) (by kernel_rfl) ?_
 refine vx_seq <| ?_
 refine qb tok hT [2, 3, 10] (St.mk [p 2 (AV.ptr 2 0), p 3 (AV.ptr 3 0), p 10 (B !vl (u131 a0.1 a1.1))] [(3, Ob.box 131 (cellsD false y131 a1)), (2, Ob.box 131 (cellsD false y131 a0))]) H (by kernel_rfl) fun H => ?_
 refine cd H (by kernel_rfl) (fun H => ?_) (fun H => ?_)
 ·refine qa tok hT [4] (St.mk [p 4 (B false)] [(3, Ob.box 131 (cellsD false y131 a1)), (2, Ob.box 131 (cellsD false y131 a0))]) (by kernel_rfl) ?_
  exact vx_ret <| fx_seq_ret <| hr H (by kernel_rfl)
 refine vx_skip <| fx_seq <| vx_seq <| ?_
 refine qb tok hT [2, 3, 16] (St.mk [p 2 (AV.ptr 2 0), p 3 (AV.ptr 3 0), p 16 (B !vl (u131 a0.2.1 a1.2.1))] [(3, Ob.box 131 (cellsD false y131 a1)), (2, Ob.box 131 (cellsD false y131 a0))]) H (by kernel_rfl) fun H => ?_
 refine cd H (by kernel_rfl) (fun H => ?_) (fun H => ?_)
 ·refine qa tok hT [4] (St.mk [p 4 (B false)] [(3, Ob.box 131 (cellsD false y131 a1)), (2, Ob.box 131 (cellsD false y131 a0))]) (by kernel_rfl) ?_
  exact vx_ret <| fx_seq_ret <| hr H (by kernel_rfl)
 refine vx_skip <| fx_seq <| vx_seq <| ?_
 refine qb tok hT [2, 3, 22] (St.mk [p 2 (AV.ptr 2 0), p 3 (AV.ptr 3 0), p 22 (B !vl (u131 a0.2.2.1 a1.2.2.1))] [(3, Ob.box 131 (cellsD false y131 a1)), (2, Ob.box 131 (cellsD false y131 a0))]) H (by kernel_rfl) fun H => ?_
 refine cd H (by kernel_rfl) (fun H => ?_) (fun H => ?_)
 ·refine qa tok hT [4] (St.mk [p 4 (B false)] [(3, Ob.box 131 (cellsD false y131 a1)), (2, Ob.box 131 (cellsD false y131 a0))]) (by kernel_rfl) ?_
  exact vx_ret <| fx_seq_ret <| hr H (by kernel_rfl)
 refine vx_skip <| fx_seq <| vx_seq <| ?_
 refine qb tok hT [28] (St.mk [p 28 (B !vl (u131 a0.2.2.2 a1.2.2.2))] [(3, Ob.box 131 (cellsD false y131 a1)), (2, Ob.box 131 (cellsD false y131 a0))]) H (by kernel_rfl) fun H => ?_
 refine cd H (by kernel_rfl) (fun H => ?_) (fun H => ?_)
 ·refine qa tok hT [4] (St.mk [p 4 (B false)] [(3, Ob.box 131 (cellsD false y131 a1)), (2, Ob.box 131 (cellsD false y131 a0))]) (by kernel_rfl) ?_
  exact vx_ret <| fx_seq_ret <| hr H (by kernel_rfl)
 refine vx_skip <| fx_seq <| ?_
 refine qa tok hT [4] (St.mk [p 4 (B true)] [(3, Ob.box 131 (cellsD false y131 a1)), (2, Ob.box 131 (cellsD false y131 a0))]) (by kernel_rfl) ?_
 exact vx_ret <| hr H (by kernel_rfl)
def u40J0 : Unit → Option (Bool)
 | _ =>
 some true
def u40L1 (a0 : List Y131) (a1 : List Y131) (g1 : Int → Option (Bool)) : Int → Option (Bool)
 | v0 =>
 if (decide (v0 < (↑a0.length : Int))) = true then
  gd (ix v0 a0.length ∧ ix v0 a1.length ∧ (u84 (a0.getD v0.toNat (dflt y131)) (a1.getD v0.toNat (dflt y131))).isSome = true ∧ True) <| 
  if (!vl (u84 (a0.getD v0.toNat (dflt y131)) (a1.getD v0.toNat (dflt y131)))) = true then
   some false
  else
   gd (in64 (v0 + 1) ∧ True) <| 
   g1 (v0 + 1)
 else
  u40J0 ()
def u40 (a0 : List Y131) (a1 : List Y131) : Option (Bool) :=
 if ((↑a0.length : Int) != (↑a1.length : Int)) = true then
  some false
 else
  lp (u40L1 a0 a1) 0
def k40 : Ct := lct 40 [.dat y131.sl, .dat y131.sl] (fun x => u40 x.1 x.2.1) (fun r : Bool => B r) (fun _ => ())
theorem o40 : Ok Tryz.prog k40 := by
 refine okl tok [.tmp 4] Tryz.func40 Tryz.ntmps40 rfl Tryz.results40 (by kernel_rfl) rfl ?_
 intro y ⟨a0, a1, _⟩ r H Q hn hr
 have hT := tc o84 tn
 refine qa tok hT [0, 1] (St.mk [p 0 (L y131 a0), p 1 (L y131 a1)] []) (by kernel_rfl) ?_
 refine vx_seq <| ?_
 refine qa tok hT [0, 1, 10] (St.mk [p 0 (L y131 a0), p 1 (L y131 a1), p 10 (B ((↑a0.length : Int) != (↑a1.length : Int)))] []) (by kernel_rfl) ?_
 refine cd H (by kernel_rfl) (fun H => ?_) (fun H => ?_)
 ·refine qa tok hT [4] (St.mk [p 4 (B false)] []) (by kernel_rfl) ?_
  exact vx_ret <| fx_seq_ret <| hr H (by kernel_rfl)
 refine vx_skip <| fx_seq <| ?_
 refine jn r (fun (_ : Unit) => St.mk [] []) (u40J0) (fun _ H => ?_) (fun _ n0 e0 t0 => ?_)
 ·refine qa tok hT [4] (St.mk [p 4 (B true)] []) (by kernel_rfl) ?_
  exact vx_ret <| hr H (by kernel_rfl)
 refine qa tok hT [0, 1, 5] (St.mk [p 0 (L y131 a0), p 1 (L y131 a1), p 5 (I 0)] []) (by kernel_rfl) ?_
 refine vx_block <| ?_
 refine lx (fun (v0 : Int) => St.mk [p 0 (L y131 a0), p 1 (L y131 a1), p 5 (I v0)] []) 0 H (by kernel_rfl) fun _ g1 b1 e1 t1 v0 H => ?_
 refine vx_seq <| ?_
 refine qa tok hT [0, 1, 5, 14] (St.mk [p 0 (L y131 a0), p 1 (L y131 a1), p 5 (I v0), p 14 (B (decide (v0 < (↑a0.length : Int))))] []) (by kernel_rfl) ?_
 refine cd H (by kernel_rfl) (fun H => ?_) (fun H => ?_)
 ·refine vx_skip <| fx_seq <| vx_seq <| vx_block <| ?_
  refine qb tok hT [0, 1, 5, 26] (St.mk [p 0 (L y131 a0), p 1 (L y131 a1), p 5 (I v0), p 26 (B !vl (u84 (a0.getD v0.toNat (dflt y131)) (a1.getD v0.toNat (dflt y131))))] []) H (by kernel_rfl) fun H => ?_
  refine cd H (by kernel_rfl) (fun H => ?_) (fun H => ?_)
  ·refine qa tok hT [4] (St.mk [p 4 (B false)] []) (by kernel_rfl) ?_
   exact vx_ret <| fx_blk_ret <| fx_seq_ret <| t1 <| fx_blk_ret <| t0 <| hr H (by kernel_rfl)
  refine vx_skip <| fx_blk <| fx_seq <| ?_
  refine zb tok hT [0, 1, 5] (St.mk [p 0 (L y131 a0), p 1 (L y131 a1), p 5 (I (v0 + 1))] []) H (by kernel_rfl) fun H => ?_
  exact b1 H (by kernel_rfl)
 exact vx_exit <| fx_seq_exit <| e1 <| fx_blk_exit rfl <| n0 H (by kernel_rfl)
def u130 (a0 : Y143) (a1 : Y143) : Option (Bool) :=
 if (!decide (a0.1 = a1.1)) = true then
  some false
 else
  if (a0.2.1 != a1.2.1) = true then
   some false
  else
   if (a0.2.2 != a1.2.2) = true then
    some false
   else
    some true
def k130 : Ct := lct 130 [.agg y143, .agg y143] (fun x => u130 x.1 x.2.1) (fun r : Bool => B r) (fun _ => ())
theorem o130 : Ok Tryz.prog k130 := by
 refine okl tok [.tmp 4] Tryz.func130 Tryz.ntmps130 rfl Tryz.results130 (by kernel_rfl) rfl ?_
 intro y ⟨a0, a1, _⟩ r H Q hn hr
 have hT := @tn Tryz.prog
 refine qa tok hT [2, 3] (St.mk [p 2 (AV.ptr 2 0), p 3 (AV.ptr 3 0)] [(3, Ob.box 143 (cellsD false y143 a1)), (2, Ob.box 143 (cellsD false y143 a0))]) (by kernel_rfl) ?_
 refine vx_seq <| ?_
 refine qa tok hT [2, 3, 9] (St.mk [p 2 (AV.ptr 2 0), p 3 (AV.ptr 3 0), p 9 (B !decide (a0.1 = a1.1))] [(3, Ob.box 143 (cellsD false y143 a1)), (2, Ob.box 143 (cellsD false y143 a0))]) (by kernel_rfl) ?_
 refine cd H (by kernel_rfl) (fun H => ?_) (fun H => ?_)
 ·refine qa tok hT [4] (St.mk [p 4 (B false)] [(3, Ob.box 143 (cellsD false y143 a1)), (2, Ob.box 143 (cellsD false y143 a0))]) (by kernel_rfl) ?_
  exact vx_ret <| fx_seq_ret <| hr H (by kernel_rfl)
 refine vx_skip <| fx_seq <| vx_seq <| ?_
 refine qa tok hT [2, 3, 14] (St.mk [p 2 (AV.ptr 2 0), p 3 (AV.ptr 3 0), p 14 (B (a0.2.1 != a1.2.1))] [(3, Ob.box 143 (cellsD false y143 a1)), (2, Ob.box 143 (cellsD false y143 a0))]) (by kernel_rfl) ?_
 refine cd H (by kernel_rfl) (fun H => ?_) (fun H => ?_)
 ·refine qa tok hT [4] (St.mk [p 4 (B false)] [(3, Ob.box 143 (cellsD false y143 a1)), (2, Ob.box 143 (cellsD false y143 a0))]) (by kernel_rfl) ?_
  exact vx_ret <| fx_seq_ret <| hr H (by kernel_rfl)
 refine vx_skip <| fx_seq <| vx_seq <| ?_
 refine qa tok hT [19] (St.mk [p 19 (B (a0.2.2 != a1.2.2))] [(3, Ob.box 143 (cellsD false y143 a1)), (2, Ob.box 143 (cellsD false y143 a0))]) (by kernel_rfl) ?_
 refine cd H (by kernel_rfl) (fun H => ?_) (fun H => ?_)
 ·refine qa tok hT [4] (St.mk [p 4 (B false)] [(3, Ob.box 143 (cellsD false y143 a1)), (2, Ob.box 143 (cellsD false y143 a0))]) (by kernel_rfl) ?_
  exact vx_ret <| fx_seq_ret <| hr H (by kernel_rfl)
 refine vx_skip <| fx_seq <| ?_
 refine qa tok hT [4] (St.mk [p 4 (B true)] [(3, Ob.box 143 (cellsD false y143 a1)), (2, Ob.box 143 (cellsD false y143 a0))]) (by kernel_rfl) ?_
 exact vx_ret <| hr H (by kernel_rfl)
def u83J0 : Unit → Option (Bool)
 | _ =>
 some true
def u83L1 (a0 : List Y143) (a1 : List Y143) (g1 : Int → Option (Bool)) : Int → Option (Bool)
 | v0 =>
 if (decide (v0 < (↑a0.length : Int))) = true then
  gd (ix v0 a0.length ∧ ix v0 a1.length ∧ (u130 (a0.getD v0.toNat (dflt y143)) (a1.getD v0.toNat (dflt y143))).isSome = true ∧ True) <| 
  if (!vl (u130 (a0.getD v0.toNat (dflt y143)) (a1.getD v0.toNat (dflt y143)))) = true then
   some false
  else
   gd (in64 (v0 + 1) ∧ True) <| 
   g1 (v0 + 1)
 else
  u83J0 ()
def u83 (a0 : List Y143) (a1 : List Y143) : Option (Bool) :=
 if ((↑a0.length : Int) != (↑a1.length : Int)) = true then
  some false
 else
  lp (u83L1 a0 a1) 0
def k83 : Ct := lct 83 [.dat y143.sl, .dat y143.sl] (fun x => u83 x.1 x.2.1) (fun r : Bool => B r) (fun _ => ())
theorem o83 : Ok Tryz.prog k83 := by
 refine okl tok [.tmp 4] Tryz.func83 Tryz.ntmps83 rfl Tryz.results83 (by kernel_rfl) rfl ?_
 intro y ⟨a0, a1, _⟩ r H Q hn hr
 have hT := tc o130 tn
 refine qa tok hT [0, 1] (St.mk [p 0 (L y143 a0), p 1 (L y143 a1)] []) (by kernel_rfl) ?_
 refine vx_seq <| ?_
 refine qa tok hT [0, 1, 10] (St.mk [p 0 (L y143 a0), p 1 (L y143 a1), p 10 (B ((↑a0.length : Int) != (↑a1.length : Int)))] []) (by kernel_rfl) ?_
 refine cd H (by kernel_rfl) (fun H => ?_) (fun H => ?_)
 ·refine qa tok hT [4] (St.mk [p 4 (B false)] []) (by kernel_rfl) ?_
  exact vx_ret <| fx_seq_ret <| hr H (by kernel_rfl)
 refine vx_skip <| fx_seq <| ?_
 refine jn r (fun (_ : Unit) => St.mk [] []) (u83J0) (fun _ H => ?_) (fun _ n0 e0 t0 => ?_)
 ·refine qa tok hT [4] (St.mk [p 4 (B true)] []) (by kernel_rfl) ?_
  exact vx_ret <| hr H (by kernel_rfl)
 refine qa tok hT [0, 1, 5] (St.mk [p 0 (L y143 a0), p 1 (L y143 a1), p 5 (I 0)] []) (by kernel_rfl) ?_
 refine vx_block <| ?_
 refine lx (fun (v0 : Int) => St.mk [p 0 (L y143 a0), p 1 (L y143 a1), p 5 (I v0)] []) 0 H (by kernel_rfl) fun _ g1 b1 e1 t1 v0 H => ?_
 refine vx_seq <| ?_
 refine qa tok hT [0, 1, 5, 14] (St.mk [p 0 (L y143 a0), p 1 (L y143 a1), p 5 (I v0), p 14 (B (decide (v0 < (↑a0.length : Int))))] []) (by kernel_rfl) ?_
 refine cd H (by kernel_rfl) (fun H => ?_) (fun H => ?_)
 ·refine vx_skip <| fx_seq <| vx_seq <| vx_block <| ?_
  refine qb tok hT [0, 1, 5, 26] (St.mk [p 0 (L y143 a0), p 1 (L y143 a1), p 5 (I v0), p 26 (B !vl (u130 (a0.getD v0.toNat (dflt y143)) (a1.getD v0.toNat (dflt y143))))] []) H (by kernel_rfl) fun H => ?_
  refine cd H (by kernel_rfl) (fun H => ?_) (fun H => ?_)
  ·refine qa tok hT [4] (St.mk [p 4 (B false)] []) (by kernel_rfl) ?_
   exact vx_ret <| fx_blk_ret <| fx_seq_ret <| t1 <| fx_blk_ret <| t0 <| hr H (by kernel_rfl)
  refine vx_skip <| fx_blk <| fx_seq <| ?_
  refine zb tok hT [0, 1, 5] (St.mk [p 0 (L y143 a0), p 1 (L y143 a1), p 5 (I (v0 + 1))] []) H (by kernel_rfl) fun H => ?_
  exact b1 H (by kernel_rfl)
 exact vx_exit <| fx_seq_exit <| e1 <| fx_blk_exit rfl <| n0 H (by kernel_rfl)
def u82J0 : Unit → Option (Bool)
 | _ =>
 some true
def u82L1 (a0 : List ByteArray) (a1 : List ByteArray) (g1 : Int → Option (Bool)) : Int → Option (Bool)
 | v0 =>
 if (decide (v0 < (↑a0.length : Int))) = true then
  gd (ix v0 a0.length ∧ ix v0 a1.length ∧ True) <| 
  if (!decide (a0.getD v0.toNat (dflt Ty.str) = a1.getD v0.toNat (dflt Ty.str))) = true then
   some false
  else
   gd (in64 (v0 + 1) ∧ True) <| 
   g1 (v0 + 1)
 else
  u82J0 ()
def u82 (a0 : List ByteArray) (a1 : List ByteArray) : Option (Bool) :=
 if ((↑a0.length : Int) != (↑a1.length : Int)) = true then
  some false
 else
  lp (u82L1 a0 a1) 0
def k82 : Ct := lct 82 [.dat Ty.str.sl, .dat Ty.str.sl] (fun x => u82 x.1 x.2.1) (fun r : Bool => B r) (fun _ => ())
theorem o82 : Ok Tryz.prog k82 := by
 refine okl tok [.tmp 4] Tryz.func82 Tryz.ntmps82 rfl Tryz.results82 (by kernel_rfl) rfl ?_
 intro y ⟨a0, a1, _⟩ r H Q hn hr
 have hT := @tn Tryz.prog
 refine qa tok hT [0, 1] (St.mk [p 0 (L Ty.str a0), p 1 (L Ty.str a1)] []) (by kernel_rfl) ?_
 refine vx_seq <| ?_
 refine qa tok hT [0, 1, 10] (St.mk [p 0 (L Ty.str a0), p 1 (L Ty.str a1), p 10 (B ((↑a0.length : Int) != (↑a1.length : Int)))] []) (by kernel_rfl) ?_
 refine cd H (by kernel_rfl) (fun H => ?_) (fun H => ?_)
 ·refine qa tok hT [4] (St.mk [p 4 (B false)] []) (by kernel_rfl) ?_
  exact vx_ret <| fx_seq_ret <| hr H (by kernel_rfl)
 refine vx_skip <| fx_seq <| ?_
 refine jn r (fun (_ : Unit) => St.mk [] []) (u82J0) (fun _ H => ?_) (fun _ n0 e0 t0 => ?_)
 ·refine qa tok hT [4] (St.mk [p 4 (B true)] []) (by kernel_rfl) ?_
  exact vx_ret <| hr H (by kernel_rfl)
 refine qa tok hT [0, 1, 5] (St.mk [p 0 (L Ty.str a0), p 1 (L Ty.str a1), p 5 (I 0)] []) (by kernel_rfl) ?_
 refine vx_block <| ?_
 refine lx (fun (v0 : Int) => St.mk [p 0 (L Ty.str a0), p 1 (L Ty.str a1), p 5 (I v0)] []) 0 H (by kernel_rfl) fun _ g1 b1 e1 t1 v0 H => ?_
 refine vx_seq <| ?_
 refine qa tok hT [0, 1, 5, 14] (St.mk [p 0 (L Ty.str a0), p 1 (L Ty.str a1), p 5 (I v0), p 14 (B (decide (v0 < (↑a0.length : Int))))] []) (by kernel_rfl) ?_
 refine cd H (by kernel_rfl) (fun H => ?_) (fun H => ?_)
 ·refine vx_skip <| fx_seq <| vx_seq <| vx_block <| ?_
  refine qb tok hT [0, 1, 5, 25] (St.mk [p 0 (L Ty.str a0), p 1 (L Ty.str a1), p 5 (I v0), p 25 (B !decide (a0.getD v0.toNat (dflt Ty.str) = a1.getD v0.toNat (dflt Ty.str)))] []) H (by kernel_rfl) fun H => ?_
  refine cd H (by kernel_rfl) (fun H => ?_) (fun H => ?_)
  ·refine qa tok hT [4] (St.mk [p 4 (B false)] []) (by kernel_rfl) ?_
   exact vx_ret <| fx_blk_ret <| fx_seq_ret <| t1 <| fx_blk_ret <| t0 <| hr H (by kernel_rfl)
  refine vx_skip <| fx_blk <| fx_seq <| ?_
  refine zb tok hT [0, 1, 5] (St.mk [p 0 (L Ty.str a0), p 1 (L Ty.str a1), p 5 (I (v0 + 1))] []) H (by kernel_rfl) fun H => ?_
  exact b1 H (by kernel_rfl)
 exact vx_exit <| fx_seq_exit <| e1 <| fx_blk_exit rfl <| n0 H (by kernel_rfl)
def u129 (a0 : Y141) (a1 : Y141) : Option (Bool) :=
 if (!decide (a0.1 = a1.1)) = true then
  some false
 else
  if (a0.2.1 != a1.2.1) = true then
   some false
  else
   gd ((u131 a0.2.2 a1.2.2).isSome = true ∧ True) <| 
   if (!vl (u131 a0.2.2 a1.2.2)) = true then
    some false
   else
    some true
def k129 : Ct := lct 129 [.agg y141, .agg y141] (fun x => u129 x.1 x.2.1) (fun r : Bool => B r) (fun _ => ())
theorem o129 : Ok Tryz.prog k129 := by
 refine okl tok [.tmp 4] Tryz.func129 Tryz.ntmps129 rfl Tryz.results129 (by kernel_rfl) rfl ?_
 intro y ⟨a0, a1, _⟩ r H Q hn hr
 have hT := tc o131 tn
 refine qa tok hT [2, 3] (St.mk [p 2 (AV.ptr 2 0), p 3 (AV.ptr 3 0)] [(3, Ob.box 141 (cellsD false y141 a1)), (2, Ob.box 141 (cellsD false y141 a0))]) (by kernel_rfl) ?_
 refine vx_seq <| ?_
 refine qa tok hT [2, 3, 9] (St.mk [p 2 (AV.ptr 2 0), p 3 (AV.ptr 3 0), p 9 (B !decide (a0.1 = a1.1))] [(3, Ob.box 141 (cellsD false y141 a1)), (2, Ob.box 141 (cellsD false y141 a0))]) (by kernel_rfl) ?_
 refine cd H (by kernel_rfl) (fun H => ?_) (fun H => ?_)
 ·refine qa tok hT [4] (St.mk [p 4 (B false)] [(3, Ob.box 141 (cellsD false y141 a1)), (2, Ob.box 141 (cellsD false y141 a0))]) (by kernel_rfl) ?_
  exact vx_ret <| fx_seq_ret <| hr H (by kernel_rfl)
 refine vx_skip <| fx_seq <| vx_seq <| ?_
 refine qa tok hT [2, 3, 14] (St.mk [p 2 (AV.ptr 2 0), p 3 (AV.ptr 3 0), p 14 (B (a0.2.1 != a1.2.1))] [(3, Ob.box 141 (cellsD false y141 a1)), (2, Ob.box 141 (cellsD false y141 a0))]) (by kernel_rfl) ?_
 refine cd H (by kernel_rfl) (fun H => ?_) (fun H => ?_)
 ·refine qa tok hT [4] (St.mk [p 4 (B false)] [(3, Ob.box 141 (cellsD false y141 a1)), (2, Ob.box 141 (cellsD false y141 a0))]) (by kernel_rfl) ?_
  exact vx_ret <| fx_seq_ret <| hr H (by kernel_rfl)
 refine vx_skip <| fx_seq <| vx_seq <| ?_
 refine qb tok hT [20] (St.mk [p 20 (B !vl (u131 a0.2.2 a1.2.2))] [(3, Ob.box 141 (cellsD false y141 a1)), (2, Ob.box 141 (cellsD false y141 a0))]) H (by kernel_rfl) fun H => ?_
 refine cd H (by kernel_rfl) (fun H => ?_) (fun H => ?_)
 ·refine qa tok hT [4] (St.mk [p 4 (B false)] [(3, Ob.box 141 (cellsD false y141 a1)), (2, Ob.box 141 (cellsD false y141 a0))]) (by kernel_rfl) ?_
  exact vx_ret <| fx_seq_ret <| hr H (by kernel_rfl)
 refine vx_skip <| fx_seq <| ?_
 refine qa tok hT [4] (St.mk [p 4 (B true)] [(3, Ob.box 141 (cellsD false y141 a1)), (2, Ob.box 141 (cellsD false y141 a0))]) (by kernel_rfl) ?_
 exact vx_ret <| hr H (by kernel_rfl)
def u81J0 : Unit → Option (Bool)
 | _ =>
 some true
def u81L1 (a0 : List Y141) (a1 : List Y141) (g1 : Int → Option (Bool)) : Int → Option (Bool)
 | v0 =>
 if (decide (v0 < (↑a0.length : Int))) = true then
  gd (ix v0 a0.length ∧ ix v0 a1.length ∧ (u129 (a0.getD v0.toNat (dflt y141)) (a1.getD v0.toNat (dflt y141))).isSome = true ∧ True) <| 
  if (!vl (u129 (a0.getD v0.toNat (dflt y141)) (a1.getD v0.toNat (dflt y141)))) = true then
   some false
  else
   gd (in64 (v0 + 1) ∧ True) <| 
   g1 (v0 + 1)
 else
  u81J0 ()
def u81 (a0 : List Y141) (a1 : List Y141) : Option (Bool) :=
 if ((↑a0.length : Int) != (↑a1.length : Int)) = true then
  some false
 else
  lp (u81L1 a0 a1) 0
def k81 : Ct := lct 81 [.dat y141.sl, .dat y141.sl] (fun x => u81 x.1 x.2.1) (fun r : Bool => B r) (fun _ => ())
theorem o81 : Ok Tryz.prog k81 := by
 refine okl tok [.tmp 4] Tryz.func81 Tryz.ntmps81 rfl Tryz.results81 (by kernel_rfl) rfl ?_
 intro y ⟨a0, a1, _⟩ r H Q hn hr
 have hT := tc o129 tn
 refine qa tok hT [0, 1] (St.mk [p 0 (L y141 a0), p 1 (L y141 a1)] []) (by kernel_rfl) ?_
 refine vx_seq <| ?_
 refine qa tok hT [0, 1, 10] (St.mk [p 0 (L y141 a0), p 1 (L y141 a1), p 10 (B ((↑a0.length : Int) != (↑a1.length : Int)))] []) (by kernel_rfl) ?_
 refine cd H (by kernel_rfl) (fun H => ?_) (fun H => ?_)
 ·refine qa tok hT [4] (St.mk [p 4 (B false)] []) (by kernel_rfl) ?_
  exact vx_ret <| fx_seq_ret <| hr H (by kernel_rfl)
 refine vx_skip <| fx_seq <| ?_
 refine jn r (fun (_ : Unit) => St.mk [] []) (u81J0) (fun _ H => ?_) (fun _ n0 e0 t0 => ?_)
 ·refine qa tok hT [4] (St.mk [p 4 (B true)] []) (by kernel_rfl) ?_
  exact vx_ret <| hr H (by kernel_rfl)
 refine qa tok hT [0, 1, 5] (St.mk [p 0 (L y141 a0), p 1 (L y141 a1), p 5 (I 0)] []) (by kernel_rfl) ?_
 refine vx_block <| ?_
 refine lx (fun (v0 : Int) => St.mk [p 0 (L y141 a0), p 1 (L y141 a1), p 5 (I v0)] []) 0 H (by kernel_rfl) fun _ g1 b1 e1 t1 v0 H => ?_
 refine vx_seq <| ?_
 refine qa tok hT [0, 1, 5, 14] (St.mk [p 0 (L y141 a0), p 1 (L y141 a1), p 5 (I v0), p 14 (B (decide (v0 < (↑a0.length : Int))))] []) (by kernel_rfl) ?_
 refine cd H (by kernel_rfl) (fun H => ?_) (fun H => ?_)
 ·refine vx_skip <| fx_seq <| vx_seq <| vx_block <| ?_
  refine qb tok hT [0, 1, 5, 26] (St.mk [p 0 (L y141 a0), p 1 (L y141 a1), p 5 (I v0), p 26 (B !vl (u129 (a0.getD v0.toNat (dflt y141)) (a1.getD v0.toNat (dflt y141))))] []) H (by kernel_rfl) fun H => ?_
  refine cd H (by kernel_rfl) (fun H => ?_) (fun H => ?_)
  ·refine qa tok hT [4] (St.mk [p 4 (B false)] []) (by kernel_rfl) ?_
   exact vx_ret <| fx_blk_ret <| fx_seq_ret <| t1 <| fx_blk_ret <| t0 <| hr H (by kernel_rfl)
  refine vx_skip <| fx_blk <| fx_seq <| ?_
  refine zb tok hT [0, 1, 5] (St.mk [p 0 (L y141 a0), p 1 (L y141 a1), p 5 (I (v0 + 1))] []) H (by kernel_rfl) fun H => ?_
  exact b1 H (by kernel_rfl)
 exact vx_exit <| fx_seq_exit <| e1 <| fx_blk_exit rfl <| n0 H (by kernel_rfl)
def u39 (a0 : Y41) (a1 : Y41) : Option (Bool) :=
 gd ((u81 a0.1 a1.1).isSome = true ∧ True) <| 
 if (!vl (u81 a0.1 a1.1)) = true then
  some false
 else
  gd ((u82 a0.2.1 a1.2.1).isSome = true ∧ True) <| 
  if (!vl (u82 a0.2.1 a1.2.1)) = true then
   some false
  else
   gd ((u83 a0.2.2 a1.2.2).isSome = true ∧ True) <| 
   if (!vl (u83 a0.2.2 a1.2.2)) = true then
    some false
   else
    some true
def k39 : Ct := lct 39 [.agg y41, .agg y41] (fun x => u39 x.1 x.2.1) (fun r : Bool => B r) (fun _ => ())
theorem o39 : Ok Tryz.prog k39 := by
 refine okl tok [.tmp 4] Tryz.func39 Tryz.ntmps39 rfl Tryz.results39 (by kernel_rfl) rfl ?_
 intro y ⟨a0, a1, _⟩ r H Q hn hr
 have hT := tc o83 (tc o82 (tc o81 tn))
 refine qa tok hT [2, 3] (St.mk [p 2 (AV.ptr 2 0), p 3 (AV.ptr 3 0)] [(3, Ob.box 41 (cellsD false y41 a1)), (2, Ob.box 41 (cellsD false y41 a0))]) (by kernel_rfl) ?_
 refine vx_seq <| ?_
 refine qb tok hT [2, 3, 10] (St.mk [p 2 (AV.ptr 2 0), p 3 (AV.ptr 3 0), p 10 (B !vl (u81 a0.1 a1.1))] [(3, Ob.box 41 (cellsD false y41 a1)), (2, Ob.box 41 (cellsD false y41 a0))]) H (by kernel_rfl) fun H => ?_
 refine cd H (by kernel_rfl) (fun H => ?_) (fun H => ?_)
 ·refine qa tok hT [4] (St.mk [p 4 (B false)] [(3, Ob.box 41 (cellsD false y41 a1)), (2, Ob.box 41 (cellsD false y41 a0))]) (by kernel_rfl) ?_
  exact vx_ret <| fx_seq_ret <| hr H (by kernel_rfl)
 refine vx_skip <| fx_seq <| vx_seq <| ?_
 refine qb tok hT [2, 3, 16] (St.mk [p 2 (AV.ptr 2 0), p 3 (AV.ptr 3 0), p 16 (B !vl (u82 a0.2.1 a1.2.1))] [(3, Ob.box 41 (cellsD false y41 a1)), (2, Ob.box 41 (cellsD false y41 a0))]) H (by kernel_rfl) fun H => ?_
 refine cd H (by kernel_rfl) (fun H => ?_) (fun H => ?_)
 ·refine qa tok hT [4] (St.mk [p 4 (B false)] [(3, Ob.box 41 (cellsD false y41 a1)), (2, Ob.box 41 (cellsD false y41 a0))]) (by kernel_rfl) ?_
  exact vx_ret <| fx_seq_ret <| hr H (by kernel_rfl)
 refine vx_skip <| fx_seq <| vx_seq <| ?_
 refine qb tok hT [22] (St.mk [p 22 (B !vl (u83 a0.2.2 a1.2.2))] [(3, Ob.box 41 (cellsD false y41 a1)), (2, Ob.box 41 (cellsD false y41 a0))]) H (by kernel_rfl) fun H => ?_
 refine cd H (by kernel_rfl) (fun H => ?_) (fun H => ?_)
 ·refine qa tok hT [4] (St.mk [p 4 (B false)] [(3, Ob.box 41 (cellsD false y41 a1)), (2, Ob.box 41 (cellsD false y41 a0))]) (by kernel_rfl) ?_
  exact vx_ret <| fx_seq_ret <| hr H (by kernel_rfl)
 refine vx_skip <| fx_seq <| ?_
 refine qa tok hT [4] (St.mk [p 4 (B true)] [(3, Ob.box 41 (cellsD false y41 a1)), (2, Ob.box 41 (cellsD false y41 a0))]) (by kernel_rfl) ?_
 exact vx_ret <| hr H (by kernel_rfl)
def u202 (a0 : Y96) (a1 : Y96) : Option (Bool) :=
 gd ((u131 a0.1 a1.1).isSome = true ∧ True) <| 
 if (!vl (u131 a0.1 a1.1)) = true then
  some false
 else
  gd ((u131 a0.2.1 a1.2.1).isSome = true ∧ True) <| 
  if (!vl (u131 a0.2.1 a1.2.1)) = true then
   some false
  else
   gd ((u131 a0.2.2 a1.2.2).isSome = true ∧ True) <| 
   if (!vl (u131 a0.2.2 a1.2.2)) = true then
    some false
   else
    some true
def k202 : Ct := lct 202 [.agg y96, .agg y96] (fun x => u202 x.1 x.2.1) (fun r : Bool => B r) (fun _ => ())
theorem o202 : Ok Tryz.prog k202 := by
 refine okl tok [.tmp 4] Tryz.func202 Tryz.ntmps202 rfl Tryz.results202 (by kernel_rfl) rfl ?_
 intro y ⟨a0, a1, _⟩ r H Q hn hr
 have hT := tc o131 tn
 refine qa tok hT [2, 3] (St.mk [p 2 (AV.ptr 2 0), p 3 (AV.ptr 3 0)] [(3, Ob.box 96 (cellsD false y96 a1)), (2, Ob.box 96 (cellsD false y96 a0))]) (by kernel_rfl) ?_
 refine vx_seq <| ?_
 refine qb tok hT [2, 3, 10] (St.mk [p 2 (AV.ptr 2 0), p 3 (AV.ptr 3 0), p 10 (B !vl (u131 a0.1 a1.1))] [(3, Ob.box 96 (cellsD false y96 a1)), (2, Ob.box 96 (cellsD false y96 a0))]) H (by kernel_rfl) fun H => ?_
 refine cd H (by kernel_rfl) (fun H => ?_) (fun H => ?_)
 ·refine qa tok hT [4] (St.mk [p 4 (B false)] [(3, Ob.box 96 (cellsD false y96 a1)), (2, Ob.box 96 (cellsD false y96 a0))]) (by kernel_rfl) ?_
  exact vx_ret <| fx_seq_ret <| hr H (by kernel_rfl)
 refine vx_skip <| fx_seq <| vx_seq <| ?_
 refine qb tok hT [2, 3, 16] (St.mk [p 2 (AV.ptr 2 0), p 3 (AV.ptr 3 0), p 16 (B !vl (u131 a0.2.1 a1.2.1))] [(3, Ob.box 96 (cellsD false y96 a1)), (2, Ob.box 96 (cellsD false y96 a0))]) H (by kernel_rfl) fun H => ?_
 refine cd H (by kernel_rfl) (fun H => ?_) (fun H => ?_)
 ·refine qa tok hT [4] (St.mk [p 4 (B false)] [(3, Ob.box 96 (cellsD false y96 a1)), (2, Ob.box 96 (cellsD false y96 a0))]) (by kernel_rfl) ?_
  exact vx_ret <| fx_seq_ret <| hr H (by kernel_rfl)
 refine vx_skip <| fx_seq <| vx_seq <| ?_
 refine qb tok hT [22] (St.mk [p 22 (B !vl (u131 a0.2.2 a1.2.2))] [(3, Ob.box 96 (cellsD false y96 a1)), (2, Ob.box 96 (cellsD false y96 a0))]) H (by kernel_rfl) fun H => ?_
 refine cd H (by kernel_rfl) (fun H => ?_) (fun H => ?_)
 ·refine qa tok hT [4] (St.mk [p 4 (B false)] [(3, Ob.box 96 (cellsD false y96 a1)), (2, Ob.box 96 (cellsD false y96 a0))]) (by kernel_rfl) ?_
  exact vx_ret <| fx_seq_ret <| hr H (by kernel_rfl)
 refine vx_skip <| fx_seq <| ?_
 refine qa tok hT [4] (St.mk [p 4 (B true)] [(3, Ob.box 96 (cellsD false y96 a1)), (2, Ob.box 96 (cellsD false y96 a0))]) (by kernel_rfl) ?_
 exact vx_ret <| hr H (by kernel_rfl)
def u185J0 : Unit → Option (Bool)
 | _ =>
 some true
def u185L1 (a0 : List Y96) (a1 : List Y96) (g1 : Int → Option (Bool)) : Int → Option (Bool)
 | v0 =>
 if (decide (v0 < (↑a0.length : Int))) = true then
  gd (ix v0 a0.length ∧ ix v0 a1.length ∧ (u202 (a0.getD v0.toNat (dflt y96)) (a1.getD v0.toNat (dflt y96))).isSome = true ∧ True) <| 
  if (!vl (u202 (a0.getD v0.toNat (dflt y96)) (a1.getD v0.toNat (dflt y96)))) = true then
   some false
  else
   gd (in64 (v0 + 1) ∧ True) <| 
   g1 (v0 + 1)
 else
  u185J0 ()
def u185 (a0 : List Y96) (a1 : List Y96) : Option (Bool) :=
 if ((↑a0.length : Int) != (↑a1.length : Int)) = true then
  some false
 else
  lp (u185L1 a0 a1) 0
def k185 : Ct := lct 185 [.dat y96.sl, .dat y96.sl] (fun x => u185 x.1 x.2.1) (fun r : Bool => B r) (fun _ => ())
theorem o185 : Ok Tryz.prog k185 := by
 refine okl tok [.tmp 4] Tryz.func185 Tryz.ntmps185 rfl Tryz.results185 (by kernel_rfl) rfl ?_
 intro y ⟨a0, a1, _⟩ r H Q hn hr
 have hT := tc o202 tn
 refine qa tok hT [0, 1] (St.mk [p 0 (L y96 a0), p 1 (L y96 a1)] []) (by kernel_rfl) ?_
 refine vx_seq <| ?_
 refine qa tok hT [0, 1, 10] (St.mk [p 0 (L y96 a0), p 1 (L y96 a1), p 10 (B ((↑a0.length : Int) != (↑a1.length : Int)))] []) (by kernel_rfl) ?_
 refine cd H (by kernel_rfl) (fun H => ?_) (fun H => ?_)
 ·refine qa tok hT [4] (St.mk [p 4 (B false)] []) (by kernel_rfl) ?_
  exact vx_ret <| fx_seq_ret <| hr H (by kernel_rfl)
 refine vx_skip <| fx_seq <| ?_
 refine jn r (fun (_ : Unit) => St.mk [] []) (u185J0) (fun _ H => ?_) (fun _ n0 e0 t0 => ?_)
 ·refine qa tok hT [4] (St.mk [p 4 (B true)] []) (by kernel_rfl) ?_
  exact vx_ret <| hr H (by kernel_rfl)
 refine qa tok hT [0, 1, 5] (St.mk [p 0 (L y96 a0), p 1 (L y96 a1), p 5 (I 0)] []) (by kernel_rfl) ?_
 refine vx_block <| ?_
 refine lx (fun (v0 : Int) => St.mk [p 0 (L y96 a0), p 1 (L y96 a1), p 5 (I v0)] []) 0 H (by kernel_rfl) fun _ g1 b1 e1 t1 v0 H => ?_
 refine vx_seq <| ?_
 refine qa tok hT [0, 1, 5, 14] (St.mk [p 0 (L y96 a0), p 1 (L y96 a1), p 5 (I v0), p 14 (B (decide (v0 < (↑a0.length : Int))))] []) (by kernel_rfl) ?_
 refine cd H (by kernel_rfl) (fun H => ?_) (fun H => ?_)
 ·refine vx_skip <| fx_seq <| vx_seq <| vx_block <| ?_
  refine qb tok hT [0, 1, 5, 26] (St.mk [p 0 (L y96 a0), p 1 (L y96 a1), p 5 (I v0), p 26 (B !vl (u202 (a0.getD v0.toNat (dflt y96)) (a1.getD v0.toNat (dflt y96))))] []) H (by kernel_rfl) fun H => ?_
  refine cd H (by kernel_rfl) (fun H => ?_) (fun H => ?_)
  ·refine qa tok hT [4] (St.mk [p 4 (B false)] []) (by kernel_rfl) ?_
   exact vx_ret <| fx_blk_ret <| fx_seq_ret <| t1 <| fx_blk_ret <| t0 <| hr H (by kernel_rfl)
  refine vx_skip <| fx_blk <| fx_seq <| ?_
  refine zb tok hT [0, 1, 5] (St.mk [p 0 (L y96 a0), p 1 (L y96 a1), p 5 (I (v0 + 1))] []) H (by kernel_rfl) fun H => ?_
  exact b1 H (by kernel_rfl)
 exact vx_exit <| fx_seq_exit <| e1 <| fx_blk_exit rfl <| n0 H (by kernel_rfl)
def u171 (a0 : Y89) (a1 : Y89) : Option (Bool) :=
 if (a0.1 != a1.1) = true then
  some false
 else
  if (a0.2.1 != a1.2.1) = true then
   some false
  else
   if (a0.2.2.1 != a1.2.2.1) = true then
    some false
   else
    if (a0.2.2.2.1 != a1.2.2.2.1) = true then
     some false
    else
     gd ((u185 a0.2.2.2.2.1 a1.2.2.2.2.1).isSome = true ∧ True) <| 
     if (!vl (u185 a0.2.2.2.2.1 a1.2.2.2.2.1)) = true then
      some false
     else
      gd ((u185 a0.2.2.2.2.2 a1.2.2.2.2.2).isSome = true ∧ True) <| 
      if (!vl (u185 a0.2.2.2.2.2 a1.2.2.2.2.2)) = true then
       some false
      else
       some true
def k171 : Ct := lct 171 [.agg y89, .agg y89] (fun x => u171 x.1 x.2.1) (fun r : Bool => B r) (fun _ => ())
theorem o171 : Ok Tryz.prog k171 := by
 refine okl tok [.tmp 4] Tryz.func171 Tryz.ntmps171 rfl Tryz.results171 (by kernel_rfl) rfl ?_
 intro y ⟨a0, a1, _⟩ r H Q hn hr
 have hT := tc o185 tn
 refine qa tok hT [2, 3] (St.mk [p 2 (AV.ptr 2 0), p 3 (AV.ptr 3 0)] [(3, Ob.box 89 (cellsD false y89 a1)), (2, Ob.box 89 (cellsD false y89 a0))]) (by kernel_rfl) ?_
 refine vx_seq <| ?_
 refine qa tok hT [2, 3, 9] (St.mk [p 2 (AV.ptr 2 0), p 3 (AV.ptr 3 0), p 9 (B (a0.1 != a1.1))] [(3, Ob.box 89 (cellsD false y89 a1)), (2, Ob.box 89 (cellsD false y89 a0))]) (by kernel_rfl) ?_
 refine cd H (by kernel_rfl) (fun H => ?_) (fun H => ?_)
 ·refine qa tok hT [4] (St.mk [p 4 (B false)] [(3, Ob.box 89 (cellsD false y89 a1)), (2, Ob.box 89 (cellsD false y89 a0))]) (by kernel_rfl) ?_
  exact vx_ret <| fx_seq_ret <| hr H (by kernel_rfl)
 refine vx_skip <| fx_seq <| vx_seq <| ?_
 refine qa tok hT [2, 3, 14] (St.mk [p 2 (AV.ptr 2 0), p 3 (AV.ptr 3 0), p 14 (B (a0.2.1 != a1.2.1))] [(3, Ob.box 89 (cellsD false y89 a1)), (2, Ob.box 89 (cellsD false y89 a0))]) (by kernel_rfl) ?_
 refine cd H (by kernel_rfl) (fun H => ?_) (fun H => ?_)
 ·refine qa tok hT [4] (St.mk [p 4 (B false)] [(3, Ob.box 89 (cellsD false y89 a1)), (2, Ob.box 89 (cellsD false y89 a0))]) (by kernel_rfl) ?_
  exact vx_ret <| fx_seq_ret <| hr H (by kernel_rfl)
 refine vx_skip <| fx_seq <| vx_seq <| ?_
 refine qa tok hT [2, 3, 19] (St.mk [p 2 (AV.ptr 2 0), p 3 (AV.ptr 3 0), p 19 (B (a0.2.2.1 != a1.2.2.1))] [(3, Ob.box 89 (cellsD false y89 a1)), (2, Ob.box 89 (cellsD false y89 a0))]) (by kernel_rfl) ?_
 refine cd H (by kernel_rfl) (fun H => ?_) (fun H => ?_)
 ·refine qa tok hT [4] (St.mk [p 4 (B false)] [(3, Ob.box 89 (cellsD false y89 a1)), (2, Ob.box 89 (cellsD false y89 a0))]) (by kernel_rfl) ?_
  exact vx_ret <| fx_seq_ret <| hr H (by kernel_rfl)
 refine vx_skip <| fx_seq <| vx_seq <| ?_
 refine qa tok hT [2, 3, 24] (St.mk [p 2 (AV.ptr 2 0), p 3 (AV.ptr 3 0), p 24 (B (a0.2.2.2.1 != a1.2.2.2.1))] [(3, Ob.box 89 (cellsD false y89 a1)), (2, Ob.box 89 (cellsD false y89 a0))]) (by kernel_rfl) ?_
 refine cd H (by kernel_rfl) (fun H => ?_) (fun H => ?_)
 ·refine qa tok hT [4] (St.mk [p 4 (B false)] [(3, Ob.box 89 (cellsD false y89 a1)), (2, Ob.box 89 (cellsD false y89 a0))]) (by kernel_rfl) ?_
  exact vx_ret <| fx_seq_ret <| hr H (by kernel_rfl)
 refine vx_skip <| fx_seq <| vx_seq <| ?_
 refine qb tok hT [2, 3, 30] (St.mk [p 2 (AV.ptr 2 0), p 3 (AV.ptr 3 0), p 30 (B !vl (u185 a0.2.2.2.2.1 a1.2.2.2.2.1))] [(3, Ob.box 89 (cellsD false y89 a1)), (2, Ob.box 89 (cellsD false y89 a0))]) H (by kernel_rfl) fun H => ?_
 refine cd H (by kernel_rfl) (fun H => ?_) (fun H => ?_)
 ·refine qa tok hT [4] (St.mk [p 4 (B false)] [(3, Ob.box 89 (cellsD false y89 a1)), (2, Ob.box 89 (cellsD false y89 a0))]) (by kernel_rfl) ?_
  exact vx_ret <| fx_seq_ret <| hr H (by kernel_rfl)
 refine vx_skip <| fx_seq <| vx_seq <| ?_
 refine qb tok hT [36] (St.mk [p 36 (B !vl (u185 a0.2.2.2.2.2 a1.2.2.2.2.2))] [(3, Ob.box 89 (cellsD false y89 a1)), (2, Ob.box 89 (cellsD false y89 a0))]) H (by kernel_rfl) fun H => ?_
 refine cd H (by kernel_rfl) (fun H => ?_) (fun H => ?_)
 ·refine qa tok hT [4] (St.mk [p 4 (B false)] [(3, Ob.box 89 (cellsD false y89 a1)), (2, Ob.box 89 (cellsD false y89 a0))]) (by kernel_rfl) ?_
  exact vx_ret <| fx_seq_ret <| hr H (by kernel_rfl)
 refine vx_skip <| fx_seq <| ?_
 refine qa tok hT [4] (St.mk [p 4 (B true)] [(3, Ob.box 89 (cellsD false y89 a1)), (2, Ob.box 89 (cellsD false y89 a0))]) (by kernel_rfl) ?_
 exact vx_ret <| hr H (by kernel_rfl)
def u154J0 : Unit → Option (Bool)
 | _ =>
 some true
def u154L1 (a0 : List Y89) (a1 : List Y89) (g1 : Int → Option (Bool)) : Int → Option (Bool)
 | v0 =>
 if (decide (v0 < (↑a0.length : Int))) = true then
  gd (ix v0 a0.length ∧ ix v0 a1.length ∧ (u171 (a0.getD v0.toNat (dflt y89)) (a1.getD v0.toNat (dflt y89))).isSome = true ∧ True) <| 
  if (!vl (u171 (a0.getD v0.toNat (dflt y89)) (a1.getD v0.toNat (dflt y89)))) = true then
   some false
  else
   gd (in64 (v0 + 1) ∧ True) <| 
   g1 (v0 + 1)
 else
  u154J0 ()
def u154 (a0 : List Y89) (a1 : List Y89) : Option (Bool) :=
 if ((↑a0.length : Int) != (↑a1.length : Int)) = true then
  some false
 else
  lp (u154L1 a0 a1) 0
def k154 : Ct := lct 154 [.dat y89.sl, .dat y89.sl] (fun x => u154 x.1 x.2.1) (fun r : Bool => B r) (fun _ => ())
theorem o154 : Ok Tryz.prog k154 := by
 refine okl tok [.tmp 4] Tryz.func154 Tryz.ntmps154 rfl Tryz.results154 (by kernel_rfl) rfl ?_
 intro y ⟨a0, a1, _⟩ r H Q hn hr
 have hT := tc o171 tn
 refine qa tok hT [0, 1] (St.mk [p 0 (L y89 a0), p 1 (L y89 a1)] []) (by kernel_rfl) ?_
 refine vx_seq <| ?_
 refine qa tok hT [0, 1, 10] (St.mk [p 0 (L y89 a0), p 1 (L y89 a1), p 10 (B ((↑a0.length : Int) != (↑a1.length : Int)))] []) (by kernel_rfl) ?_
 refine cd H (by kernel_rfl) (fun H => ?_) (fun H => ?_)
 ·refine qa tok hT [4] (St.mk [p 4 (B false)] []) (by kernel_rfl) ?_
  exact vx_ret <| fx_seq_ret <| hr H (by kernel_rfl)
 refine vx_skip <| fx_seq <| ?_
 refine jn r (fun (_ : Unit) => St.mk [] []) (u154J0) (fun _ H => ?_) (fun _ n0 e0 t0 => ?_)
 ·refine qa tok hT [4] (St.mk [p 4 (B true)] []) (by kernel_rfl) ?_
  exact vx_ret <| hr H (by kernel_rfl)
 refine qa tok hT [0, 1, 5] (St.mk [p 0 (L y89 a0), p 1 (L y89 a1), p 5 (I 0)] []) (by kernel_rfl) ?_
 refine vx_block <| ?_
 refine lx (fun (v0 : Int) => St.mk [p 0 (L y89 a0), p 1 (L y89 a1), p 5 (I v0)] []) 0 H (by kernel_rfl) fun _ g1 b1 e1 t1 v0 H => ?_
 refine vx_seq <| ?_
 refine qa tok hT [0, 1, 5, 14] (St.mk [p 0 (L y89 a0), p 1 (L y89 a1), p 5 (I v0), p 14 (B (decide (v0 < (↑a0.length : Int))))] []) (by kernel_rfl) ?_
 refine cd H (by kernel_rfl) (fun H => ?_) (fun H => ?_)
 ·refine vx_skip <| fx_seq <| vx_seq <| vx_block <| ?_
  refine qb tok hT [0, 1, 5, 26] (St.mk [p 0 (L y89 a0), p 1 (L y89 a1), p 5 (I v0), p 26 (B !vl (u171 (a0.getD v0.toNat (dflt y89)) (a1.getD v0.toNat (dflt y89))))] []) H (by kernel_rfl) fun H => ?_
  refine cd H (by kernel_rfl) (fun H => ?_) (fun H => ?_)
  ·refine qa tok hT [4] (St.mk [p 4 (B false)] []) (by kernel_rfl) ?_
   exact vx_ret <| fx_blk_ret <| fx_seq_ret <| t1 <| fx_blk_ret <| t0 <| hr H (by kernel_rfl)
  refine vx_skip <| fx_blk <| fx_seq <| ?_
  refine zb tok hT [0, 1, 5] (St.mk [p 0 (L y89 a0), p 1 (L y89 a1), p 5 (I (v0 + 1))] []) H (by kernel_rfl) fun H => ?_
  exact b1 H (by kernel_rfl)
 exact vx_exit <| fx_seq_exit <| e1 <| fx_blk_exit rfl <| n0 H (by kernel_rfl)
def u170 (a0 : Y212) (a1 : Y212) : Option (Bool) :=
 if (!decide (a0.1 = a1.1)) = true then
  some false
 else
  if (a0.2.1 != a1.2.1) = true then
   some false
  else
   if (a0.2.2.1 != a1.2.2.1) = true then
    some false
   else
    if (!a0.2.2.2 == a1.2.2.2) = true then
     some false
    else
     some true
def k170 : Ct := lct 170 [.agg y212, .agg y212] (fun x => u170 x.1 x.2.1) (fun r : Bool => B r) (fun _ => ())
theorem o170 : Ok Tryz.prog k170 := by
 refine okl tok [.tmp 4] Tryz.func170 Tryz.ntmps170 rfl Tryz.results170 (by kernel_rfl) rfl ?_
 intro y ⟨a0, a1, _⟩ r H Q hn hr
 have hT := @tn Tryz.prog
 refine qa tok hT [2, 3] (St.mk [p 2 (AV.ptr 2 0), p 3 (AV.ptr 3 0)] [(3, Ob.box 212 (cellsD false y212 a1)), (2, Ob.box 212 (cellsD false y212 a0))]) (by kernel_rfl) ?_
 refine vx_seq <| ?_
 refine qa tok hT [2, 3, 9] (St.mk [p 2 (AV.ptr 2 0), p 3 (AV.ptr 3 0), p 9 (B !decide (a0.1 = a1.1))] [(3, Ob.box 212 (cellsD false y212 a1)), (2, Ob.box 212 (cellsD false y212 a0))]) (by kernel_rfl) ?_
 refine cd H (by kernel_rfl) (fun H => ?_) (fun H => ?_)
 ·refine qa tok hT [4] (St.mk [p 4 (B false)] [(3, Ob.box 212 (cellsD false y212 a1)), (2, Ob.box 212 (cellsD false y212 a0))]) (by kernel_rfl) ?_
  exact vx_ret <| fx_seq_ret <| hr H (by kernel_rfl)
 refine vx_skip <| fx_seq <| vx_seq <| ?_
 refine qa tok hT [2, 3, 14] (St.mk [p 2 (AV.ptr 2 0), p 3 (AV.ptr 3 0), p 14 (B (a0.2.1 != a1.2.1))] [(3, Ob.box 212 (cellsD false y212 a1)), (2, Ob.box 212 (cellsD false y212 a0))]) (by kernel_rfl) ?_
 refine cd H (by kernel_rfl) (fun H => ?_) (fun H => ?_)
 ·refine qa tok hT [4] (St.mk [p 4 (B false)] [(3, Ob.box 212 (cellsD false y212 a1)), (2, Ob.box 212 (cellsD false y212 a0))]) (by kernel_rfl) ?_
  exact vx_ret <| fx_seq_ret <| hr H (by kernel_rfl)
 refine vx_skip <| fx_seq <| vx_seq <| ?_
 refine qa tok hT [2, 3, 19] (St.mk [p 2 (AV.ptr 2 0), p 3 (AV.ptr 3 0), p 19 (B (a0.2.2.1 != a1.2.2.1))] [(3, Ob.box 212 (cellsD false y212 a1)), (2, Ob.box 212 (cellsD false y212 a0))]) (by kernel_rfl) ?_
 refine cd H (by kernel_rfl) (fun H => ?_) (fun H => ?_)
 ·refine qa tok hT [4] (St.mk [p 4 (B false)] [(3, Ob.box 212 (cellsD false y212 a1)), (2, Ob.box 212 (cellsD false y212 a0))]) (by kernel_rfl) ?_
  exact vx_ret <| fx_seq_ret <| hr H (by kernel_rfl)
 refine vx_skip <| fx_seq <| vx_seq <| ?_
 refine qa tok hT [24] (St.mk [p 24 (B !a0.2.2.2 == a1.2.2.2)] [(3, Ob.box 212 (cellsD false y212 a1)), (2, Ob.box 212 (cellsD false y212 a0))]) (by kernel_rfl) ?_
 refine cd H (by kernel_rfl) (fun H => ?_) (fun H => ?_)
 ·refine qa tok hT [4] (St.mk [p 4 (B false)] [(3, Ob.box 212 (cellsD false y212 a1)), (2, Ob.box 212 (cellsD false y212 a0))]) (by kernel_rfl) ?_
  exact vx_ret <| fx_seq_ret <| hr H (by kernel_rfl)
 refine vx_skip <| fx_seq <| ?_
 refine qa tok hT [4] (St.mk [p 4 (B true)] [(3, Ob.box 212 (cellsD false y212 a1)), (2, Ob.box 212 (cellsD false y212 a0))]) (by kernel_rfl) ?_
 exact vx_ret <| hr H (by kernel_rfl)
def u153J0 : Unit → Option (Bool)
 | _ =>
 some true
def u153L1 (a0 : List Y212) (a1 : List Y212) (g1 : Int → Option (Bool)) : Int → Option (Bool)
 | v0 =>
 if (decide (v0 < (↑a0.length : Int))) = true then
  gd (ix v0 a0.length ∧ ix v0 a1.length ∧ (u170 (a0.getD v0.toNat (dflt y212)) (a1.getD v0.toNat (dflt y212))).isSome = true ∧ True) <| 
  if (!vl (u170 (a0.getD v0.toNat (dflt y212)) (a1.getD v0.toNat (dflt y212)))) = true then
   some false
  else
   gd (in64 (v0 + 1) ∧ True) <| 
   g1 (v0 + 1)
 else
  u153J0 ()
def u153 (a0 : List Y212) (a1 : List Y212) : Option (Bool) :=
 if ((↑a0.length : Int) != (↑a1.length : Int)) = true then
  some false
 else
  lp (u153L1 a0 a1) 0
def k153 : Ct := lct 153 [.dat y212.sl, .dat y212.sl] (fun x => u153 x.1 x.2.1) (fun r : Bool => B r) (fun _ => ())
theorem o153 : Ok Tryz.prog k153 := by
 refine okl tok [.tmp 4] Tryz.func153 Tryz.ntmps153 rfl Tryz.results153 (by kernel_rfl) rfl ?_
 intro y ⟨a0, a1, _⟩ r H Q hn hr
 have hT := tc o170 tn
 refine qa tok hT [0, 1] (St.mk [p 0 (L y212 a0), p 1 (L y212 a1)] []) (by kernel_rfl) ?_
 refine vx_seq <| ?_
 refine qa tok hT [0, 1, 10] (St.mk [p 0 (L y212 a0), p 1 (L y212 a1), p 10 (B ((↑a0.length : Int) != (↑a1.length : Int)))] []) (by kernel_rfl) ?_
 refine cd H (by kernel_rfl) (fun H => ?_) (fun H => ?_)
 ·refine qa tok hT [4] (St.mk [p 4 (B false)] []) (by kernel_rfl) ?_
  exact vx_ret <| fx_seq_ret <| hr H (by kernel_rfl)
 refine vx_skip <| fx_seq <| ?_
 refine jn r (fun (_ : Unit) => St.mk [] []) (u153J0) (fun _ H => ?_) (fun _ n0 e0 t0 => ?_)
 ·refine qa tok hT [4] (St.mk [p 4 (B true)] []) (by kernel_rfl) ?_
  exact vx_ret <| hr H (by kernel_rfl)
 refine qa tok hT [0, 1, 5] (St.mk [p 0 (L y212 a0), p 1 (L y212 a1), p 5 (I 0)] []) (by kernel_rfl) ?_
 refine vx_block <| ?_
 refine lx (fun (v0 : Int) => St.mk [p 0 (L y212 a0), p 1 (L y212 a1), p 5 (I v0)] []) 0 H (by kernel_rfl) fun _ g1 b1 e1 t1 v0 H => ?_
 refine vx_seq <| ?_
 refine qa tok hT [0, 1, 5, 14] (St.mk [p 0 (L y212 a0), p 1 (L y212 a1), p 5 (I v0), p 14 (B (decide (v0 < (↑a0.length : Int))))] []) (by kernel_rfl) ?_
 refine cd H (by kernel_rfl) (fun H => ?_) (fun H => ?_)
 ·refine vx_skip <| fx_seq <| vx_seq <| vx_block <| ?_
  refine qb tok hT [0, 1, 5, 26] (St.mk [p 0 (L y212 a0), p 1 (L y212 a1), p 5 (I v0), p 26 (B !vl (u170 (a0.getD v0.toNat (dflt y212)) (a1.getD v0.toNat (dflt y212))))] []) H (by kernel_rfl) fun H => ?_
  refine cd H (by kernel_rfl) (fun H => ?_) (fun H => ?_)
  ·refine qa tok hT [4] (St.mk [p 4 (B false)] []) (by kernel_rfl) ?_
   exact vx_ret <| fx_blk_ret <| fx_seq_ret <| t1 <| fx_blk_ret <| t0 <| hr H (by kernel_rfl)
  refine vx_skip <| fx_blk <| fx_seq <| ?_
  refine zb tok hT [0, 1, 5] (St.mk [p 0 (L y212 a0), p 1 (L y212 a1), p 5 (I (v0 + 1))] []) H (by kernel_rfl) fun H => ?_
  exact b1 H (by kernel_rfl)
 exact vx_exit <| fx_seq_exit <| e1 <| fx_blk_exit rfl <| n0 H (by kernel_rfl)
def u128 (a0 : Y152) (a1 : Y152) : Option (Bool) :=
 if (!decide (a0.1 = a1.1)) = true then
  some false
 else
  if (a0.2.1 != a1.2.1) = true then
   some false
  else
   gd ((u153 a0.2.2.1 a1.2.2.1).isSome = true ∧ True) <| 
   if (!vl (u153 a0.2.2.1 a1.2.2.1)) = true then
    some false
   else
    gd ((u154 a0.2.2.2.1 a1.2.2.2.1).isSome = true ∧ True) <| 
    if (!vl (u154 a0.2.2.2.1 a1.2.2.2.1)) = true then
     some false
    else
     gd ((u131 a0.2.2.2.2.1 a1.2.2.2.2.1).isSome = true ∧ True) <| 
     if (!vl (u131 a0.2.2.2.2.1 a1.2.2.2.2.1)) = true then
      some false
     else
      if (a0.2.2.2.2.2.1 != a1.2.2.2.2.2.1) = true then
       some false
      else
       if (a0.2.2.2.2.2.2 != a1.2.2.2.2.2.2) = true then
        some false
       else
        some true
def k128 : Ct := lct 128 [.agg y152, .agg y152] (fun x => u128 x.1 x.2.1) (fun r : Bool => B r) (fun _ => ())
theorem o128 : Ok Tryz.prog k128 := by
 refine okl tok [.tmp 4] Tryz.func128 Tryz.ntmps128 rfl Tryz.results128 (by kernel_rfl) rfl ?_
 intro y ⟨a0, a1, _⟩ r H Q hn hr
 have hT := tc o131 (tc o154 (tc o153 tn))
 refine qa tok hT [2, 3] (St.mk [p 2 (AV.ptr 2 0), p 3 (AV.ptr 3 0)] [(3, Ob.box 152 (cellsD false y152 a1)), (2, Ob.box 152 (cellsD false y152 a0))]) (by kernel_rfl) ?_
 refine vx_seq <| ?_
 refine qa tok hT [2, 3, 9] (St.mk [p 2 (AV.ptr 2 0), p 3 (AV.ptr 3 0), p 9 (B !decide (a0.1 = a1.1))] [(3, Ob.box 152 (cellsD false y152 a1)), (2, Ob.box 152 (cellsD false y152 a0))]) (by kernel_rfl) ?_
 refine cd H (by kernel_rfl) (fun H => ?_) (fun H => ?_)
 ·refine qa tok hT [4] (St.mk [p 4 (B false)] [(3, Ob.box 152 (cellsD false y152 a1)), (2, Ob.box 152 (cellsD false y152 a0))]) (by kernel_rfl) ?_
  exact vx_ret <| fx_seq_ret <| hr H (by kernel_rfl)
 refine vx_skip <| fx_seq <| vx_seq <| ?_
 refine qa tok hT [2, 3, 14] (St.mk [p 2 (AV.ptr 2 0), p 3 (AV.ptr 3 0), p 14 (B (a0.2.1 != a1.2.1))] [(3, Ob.box 152 (cellsD false y152 a1)), (2, Ob.box 152 (cellsD false y152 a0))]) (by kernel_rfl) ?_
 refine cd H (by kernel_rfl) (fun H => ?_) (fun H => ?_)
 ·refine qa tok hT [4] (St.mk [p 4 (B false)] [(3, Ob.box 152 (cellsD false y152 a1)), (2, Ob.box 152 (cellsD false y152 a0))]) (by kernel_rfl) ?_
  exact vx_ret <| fx_seq_ret <| hr H (by kernel_rfl)
 refine vx_skip <| fx_seq <| vx_seq <| ?_
 refine qb tok hT [2, 3, 20] (St.mk [p 2 (AV.ptr 2 0), p 3 (AV.ptr 3 0), p 20 (B !vl (u153 a0.2.2.1 a1.2.2.1))] [(3, Ob.box 152 (cellsD false y152 a1)), (2, Ob.box 152 (cellsD false y152 a0))]) H (by kernel_rfl) fun H => ?_
 refine cd H (by kernel_rfl) (fun H => ?_) (fun H => ?_)
 ·refine qa tok hT [4] (St.mk [p 4 (B false)] [(3, Ob.box 152 (cellsD false y152 a1)), (2, Ob.box 152 (cellsD false y152 a0))]) (by kernel_rfl) ?_
  exact vx_ret <| fx_seq_ret <| hr H (by kernel_rfl)
 refine vx_skip <| fx_seq <| vx_seq <| ?_
 refine qb tok hT [2, 3, 26] (St.mk [p 2 (AV.ptr 2 0), p 3 (AV.ptr 3 0), p 26 (B !vl (u154 a0.2.2.2.1 a1.2.2.2.1))] [(3, Ob.box 152 (cellsD false y152 a1)), (2, Ob.box 152 (cellsD false y152 a0))]) H (by kernel_rfl) fun H => ?_
 refine cd H (by kernel_rfl) (fun H => ?_) (fun H => ?_)
 ·refine qa tok hT [4] (St.mk [p 4 (B false)] [(3, Ob.box 152 (cellsD false y152 a1)), (2, Ob.box 152 (cellsD false y152 a0))]) (by kernel_rfl) ?_
  exact vx_ret <| fx_seq_ret <| hr H (by kernel_rfl)
 refine vx_skip <| fx_seq <| vx_seq <| ?_
 refine qb tok hT [2, 3, 32] (St.mk [p 2 (AV.ptr 2 0), p 3 (AV.ptr 3 0), p 32 (B !vl (u131 a0.2.2.2.2.1 a1.2.2.2.2.1))] [(3, Ob.box 152 (cellsD false y152 a1)), (2, Ob.box 152 (cellsD false y152 a0))]) H (by kernel_rfl) fun H => ?_
 refine cd H (by kernel_rfl) (fun H => ?_) (fun H => ?_)
 ·refine qa tok hT [4] (St.mk [p 4 (B false)] [(3, Ob.box 152 (cellsD false y152 a1)), (2, Ob.box 152 (cellsD false y152 a0))]) (by kernel_rfl) ?_
  exact vx_ret <| fx_seq_ret <| hr H (by kernel_rfl)
 refine vx_skip <| fx_seq <| vx_seq <| ?_
 refine qa tok hT [2, 3, 37] (St.mk [p 2 (AV.ptr 2 0), p 3 (AV.ptr 3 0), p 37 (B (a0.2.2.2.2.2.1 != a1.2.2.2.2.2.1))] [(3, Ob.box 152 (cellsD false y152 a1)), (2, Ob.box 152 (cellsD false y152 a0))]) (by kernel_rfl) ?_
 refine cd H (by kernel_rfl) (fun H => ?_) (fun H => ?_)
 ·refine qa tok hT [4] (St.mk [p 4 (B false)] [(3, Ob.box 152 (cellsD false y152 a1)), (2, Ob.box 152 (cellsD false y152 a0))]) (by kernel_rfl) ?_
  exact vx_ret <| fx_seq_ret <| hr H (by kernel_rfl)
 refine vx_skip <| fx_seq <| vx_seq <| ?_
 refine qa tok hT [42] (St.mk [p 42 (B (a0.2.2.2.2.2.2 != a1.2.2.2.2.2.2))] [(3, Ob.box 152 (cellsD false y152 a1)), (2, Ob.box 152 (cellsD false y152 a0))]) (by kernel_rfl) ?_
 refine cd H (by kernel_rfl) (fun H => ?_) (fun H => ?_)
 ·refine qa tok hT [4] (St.mk [p 4 (B false)] [(3, Ob.box 152 (cellsD false y152 a1)), (2, Ob.box 152 (cellsD false y152 a0))]) (by kernel_rfl) ?_
  exact vx_ret <| fx_seq_ret <| hr H (by kernel_rfl)
 refine vx_skip <| fx_seq <| ?_
 refine qa tok hT [4] (St.mk [p 4 (B true)] [(3, Ob.box 152 (cellsD false y152 a1)), (2, Ob.box 152 (cellsD false y152 a0))]) (by kernel_rfl) ?_
 exact vx_ret <| hr H (by kernel_rfl)
def u80J0 : Unit → Option (Bool)
 | _ =>
 some true
def u80L1 (a0 : List Y152) (a1 : List Y152) (g1 : Int → Option (Bool)) : Int → Option (Bool)
 | v0 =>
 if (decide (v0 < (↑a0.length : Int))) = true then
  gd (ix v0 a0.length ∧ ix v0 a1.length ∧ (u128 (a0.getD v0.toNat (dflt y152)) (a1.getD v0.toNat (dflt y152))).isSome = true ∧ True) <| 
  if (!vl (u128 (a0.getD v0.toNat (dflt y152)) (a1.getD v0.toNat (dflt y152)))) = true then
   some false
  else
   gd (in64 (v0 + 1) ∧ True) <| 
   g1 (v0 + 1)
 else
  u80J0 ()
def u80 (a0 : List Y152) (a1 : List Y152) : Option (Bool) :=
 if ((↑a0.length : Int) != (↑a1.length : Int)) = true then
  some false
 else
  lp (u80L1 a0 a1) 0
def k80 : Ct := lct 80 [.dat y152.sl, .dat y152.sl] (fun x => u80 x.1 x.2.1) (fun r : Bool => B r) (fun _ => ())
theorem o80 : Ok Tryz.prog k80 := by
 refine okl tok [.tmp 4] Tryz.func80 Tryz.ntmps80 rfl Tryz.results80 (by kernel_rfl) rfl ?_
 intro y ⟨a0, a1, _⟩ r H Q hn hr
 have hT := tc o128 tn
 refine qa tok hT [0, 1] (St.mk [p 0 (L y152 a0), p 1 (L y152 a1)] []) (by kernel_rfl) ?_
 refine vx_seq <| ?_
 refine qa tok hT [0, 1, 10] (St.mk [p 0 (L y152 a0), p 1 (L y152 a1), p 10 (B ((↑a0.length : Int) != (↑a1.length : Int)))] []) (by kernel_rfl) ?_
 refine cd H (by kernel_rfl) (fun H => ?_) (fun H => ?_)
 ·refine qa tok hT [4] (St.mk [p 4 (B false)] []) (by kernel_rfl) ?_
  exact vx_ret <| fx_seq_ret <| hr H (by kernel_rfl)
 refine vx_skip <| fx_seq <| ?_
 refine jn r (fun (_ : Unit) => St.mk [] []) (u80J0) (fun _ H => ?_) (fun _ n0 e0 t0 => ?_)
 ·refine qa tok hT [4] (St.mk [p 4 (B true)] []) (by kernel_rfl) ?_
  exact vx_ret <| hr H (by kernel_rfl)
 refine qa tok hT [0, 1, 5] (St.mk [p 0 (L y152 a0), p 1 (L y152 a1), p 5 (I 0)] []) (by kernel_rfl) ?_
 refine vx_block <| ?_
 refine lx (fun (v0 : Int) => St.mk [p 0 (L y152 a0), p 1 (L y152 a1), p 5 (I v0)] []) 0 H (by kernel_rfl) fun _ g1 b1 e1 t1 v0 H => ?_
 refine vx_seq <| ?_
 refine qa tok hT [0, 1, 5, 14] (St.mk [p 0 (L y152 a0), p 1 (L y152 a1), p 5 (I v0), p 14 (B (decide (v0 < (↑a0.length : Int))))] []) (by kernel_rfl) ?_
 refine cd H (by kernel_rfl) (fun H => ?_) (fun H => ?_)
 ·refine vx_skip <| fx_seq <| vx_seq <| vx_block <| ?_
  refine qb tok hT [0, 1, 5, 26] (St.mk [p 0 (L y152 a0), p 1 (L y152 a1), p 5 (I v0), p 26 (B !vl (u128 (a0.getD v0.toNat (dflt y152)) (a1.getD v0.toNat (dflt y152))))] []) H (by kernel_rfl) fun H => ?_
  refine cd H (by kernel_rfl) (fun H => ?_) (fun H => ?_)
  ·refine qa tok hT [4] (St.mk [p 4 (B false)] []) (by kernel_rfl) ?_
   exact vx_ret <| fx_blk_ret <| fx_seq_ret <| t1 <| fx_blk_ret <| t0 <| hr H (by kernel_rfl)
  refine vx_skip <| fx_blk <| fx_seq <| ?_
  refine zb tok hT [0, 1, 5] (St.mk [p 0 (L y152 a0), p 1 (L y152 a1), p 5 (I (v0 + 1))] []) H (by kernel_rfl) fun H => ?_
  exact b1 H (by kernel_rfl)
 exact vx_exit <| fx_seq_exit <| e1 <| fx_blk_exit rfl <| n0 H (by kernel_rfl)
def u38 (a0 : List Y152) (a1 : List Y152) : Option (Bool) :=
 gd ((u80 a0 a1).isSome = true ∧ True) <| 
 if (!vl (u80 a0 a1)) = true then
  some false
 else
  some true
def k38 : Ct := lct 38 [.agg y152.sl, .agg y152.sl] (fun x => u38 x.1 x.2.1) (fun r : Bool => B r) (fun _ => ())
theorem o38 : Ok Tryz.prog k38 := by
 refine okl tok [.tmp 4] Tryz.func38 Tryz.ntmps38 rfl Tryz.results38 (by kernel_rfl) rfl ?_
 intro y ⟨a0, a1, _⟩ r H Q hn hr
 have hT := tc o80 tn
 refine qa tok hT [2, 3] (St.mk [p 2 (AV.ptr 2 0), p 3 (AV.ptr 3 0)] [(3, Ob.box 37 [L y152 a1]), (2, Ob.box 37 [L y152 a0])]) (by kernel_rfl) ?_
 refine vx_seq <| ?_
 refine qb tok hT [10] (St.mk [p 10 (B !vl (u80 a0 a1))] [(3, Ob.box 37 [L y152 a1]), (2, Ob.box 37 [L y152 a0])]) H (by kernel_rfl) fun H => ?_
 refine cd H (by kernel_rfl) (fun H => ?_) (fun H => ?_)
 ·refine qa tok hT [4] (St.mk [p 4 (B false)] [(3, Ob.box 37 [L y152 a1]), (2, Ob.box 37 [L y152 a0])]) (by kernel_rfl) ?_
  exact vx_ret <| fx_seq_ret <| hr H (by kernel_rfl)
 refine vx_skip <| fx_seq <| ?_
 refine qa tok hT [4] (St.mk [p 4 (B true)] [(3, Ob.box 37 [L y152 a1]), (2, Ob.box 37 [L y152 a0])]) (by kernel_rfl) ?_
 exact vx_ret <| hr H (by kernel_rfl)
def u12 (a0 : Y44) (a1 : Y44) : Option (Bool) :=
 gd ((u38 a0.1 a1.1).isSome = true ∧ True) <| 
 if (!vl (u38 a0.1 a1.1)) = true then
  some false
 else
  gd ((u39 a0.2.1 a1.2.1).isSome = true ∧ True) <| 
  if (!vl (u39 a0.2.1 a1.2.1)) = true then
   some false
  else
   gd ((u40 a0.2.2 a1.2.2).isSome = true ∧ True) <| 
   if (!vl (u40 a0.2.2 a1.2.2)) = true then
    some false
   else
    some true
def k12 : Ct := lct 12 [.agg y44, .agg y44] (fun x => u12 x.1 x.2.1) (fun r : Bool => B r) (fun _ => ())
theorem o12 : Ok Tryz.prog k12 := by
 refine okl tok [.tmp 4] Tryz.func12 Tryz.ntmps12 rfl Tryz.results12 (by kernel_rfl) rfl ?_
 intro y ⟨a0, a1, _⟩ r H Q hn hr
 have hT := tc o40 (tc o39 (tc o38 tn))
 refine qa tok hT [2, 3] (St.mk [p 2 (AV.ptr 2 0), p 3 (AV.ptr 3 0)] [(3, Ob.box 44 (cellsD false y44 a1)), (2, Ob.box 44 (cellsD false y44 a0))]) (by kernel_rfl) ?_
 refine vx_seq <| ?_
 refine qb tok hT [2, 3, 10] (St.mk [p 2 (AV.ptr 2 0), p 3 (AV.ptr 3 0), p 10 (B !vl (u38 a0.1 a1.1))] [(3, Ob.box 44 (cellsD false y44 a1)), (2, Ob.box 44 (cellsD false y44 a0))]) H (by kernel_rfl) fun H => ?_
 refine cd H (by kernel_rfl) (fun H => ?_) (fun H => ?_)
 ·refine qa tok hT [4] (St.mk [p 4 (B false)] [(3, Ob.box 44 (cellsD false y44 a1)), (2, Ob.box 44 (cellsD false y44 a0))]) (by kernel_rfl) ?_
  exact vx_ret <| fx_seq_ret <| hr H (by kernel_rfl)
 refine vx_skip <| fx_seq <| vx_seq <| ?_
 refine qb tok hT [2, 3, 16] (St.mk [p 2 (AV.ptr 2 0), p 3 (AV.ptr 3 0), p 16 (B !vl (u39 a0.2.1 a1.2.1))] [(3, Ob.box 44 (cellsD false y44 a1)), (2, Ob.box 44 (cellsD false y44 a0))]) H (by kernel_rfl) fun H => ?_
 refine cd H (by kernel_rfl) (fun H => ?_) (fun H => ?_)
 ·refine qa tok hT [4] (St.mk [p 4 (B false)] [(3, Ob.box 44 (cellsD false y44 a1)), (2, Ob.box 44 (cellsD false y44 a0))]) (by kernel_rfl) ?_
  exact vx_ret <| fx_seq_ret <| hr H (by kernel_rfl)
 refine vx_skip <| fx_seq <| vx_seq <| ?_
 refine qb tok hT [22] (St.mk [p 22 (B !vl (u40 a0.2.2 a1.2.2))] [(3, Ob.box 44 (cellsD false y44 a1)), (2, Ob.box 44 (cellsD false y44 a0))]) H (by kernel_rfl) fun H => ?_
 refine cd H (by kernel_rfl) (fun H => ?_) (fun H => ?_)
 ·refine qa tok hT [4] (St.mk [p 4 (B false)] [(3, Ob.box 44 (cellsD false y44 a1)), (2, Ob.box 44 (cellsD false y44 a0))]) (by kernel_rfl) ?_
  exact vx_ret <| fx_seq_ret <| hr H (by kernel_rfl)
 refine vx_skip <| fx_seq <| ?_
 refine qa tok hT [4] (St.mk [p 4 (B true)] [(3, Ob.box 44 (cellsD false y44 a1)), (2, Ob.box 44 (cellsD false y44 a0))]) (by kernel_rfl) ?_
 exact vx_ret <| hr H (by kernel_rfl)
def u119J0 : List Int → Option (List Int)
 | v3 =>
 some v3
def u119L1 (a0 : List Int) (g1 : Int × List Int → Option (List Int)) : Int × List Int → Option (List Int)
 | (v1, v2) =>
 if (decide (v1 < (↑a0.length : Int))) = true then
  gd (ix v1 a0.length ∧ ix v1 v2.length ∧ v1.toNat < v2.length ∧ True) <| 
  gd (in64 (v1 + 1) ∧ True) <| 
  g1 ((v1 + 1, v2.set v1.toNat (a0.getD v1.toNat 0)))
 else
  u119J0 v2
def u119 (a0 : List Int) : Option (List Int) :=
 gd ((0 ≤ (↑a0.length : Int) ∧ (↑a0.length : Int) = (↑a0.length : Int) ∧ (↑a0.length : Int).toNat * 8 ≤ 281474976710656 ∧ (↑a0.length : Int) ≤ 9223372036854775807) ∧ True) <| 
 lp (u119L1 a0) ((0, List.replicate (↑a0.length : Int).toNat 0))
def k119 : Ct := lct 119 [.dat i64.sl] (fun x => u119 x.1) (fun r : List Int => AV.ow 2 true i64 r) (fun _ => ())
theorem o119 : Ok Tryz.prog k119 := by
 refine okl tok [.tmp 2] Tryz.func119 Tryz.ntmps119 rfl Tryz.results119 (by kernel_rfl) rfl ?_
 intro y ⟨a0, _⟩ r H Q hn hr
 have hT := @tn Tryz.prog
 refine qa tok hT [0] (St.mk [p 0 (L i64 a0)] []) (by kernel_rfl) ?_
 refine qb tok hT [0, 3] (St.mk [p 0 (L i64 a0), p 3 (AV.os 7 0)] [(7, Ob.arr 2 true i64 (List.replicate (↑a0.length : Int).toNat 0) 0)]) H (by kernel_rfl) fun H => ?_
 refine jn r (fun (v3 : List Int) => St.mk [p 3 (AV.os 7 0)] [(7, Ob.arr 2 true i64 v3 0)]) (u119J0) (fun v3 H => ?_) (fun _ n0 e0 t0 => ?_)
 ·refine qa tok hT [2] (St.mk [p 2 (AV.os 7 0)] [(7, Ob.arr 2 true i64 v3 0)]) (by kernel_rfl) ?_
  exact vx_ret <| hr H (by kernel_rfl)
 refine qa tok hT [0, 3, 4] (St.mk [p 0 (L i64 a0), p 3 (AV.os 7 0), p 4 (I 0)] [(7, Ob.arr 2 true i64 (List.replicate (↑a0.length : Int).toNat 0) 0)]) (by kernel_rfl) ?_
 refine vx_block <| ?_
 refine lx (fun ((v1, v2) : Int × List Int) => St.mk [p 0 (L i64 a0), p 3 (AV.os 7 0), p 4 (I v1)] [(7, Ob.arr 2 true i64 v2 0)]) ((0, List.replicate (↑a0.length : Int).toNat 0)) H (by kernel_rfl) fun _ g1 b1 e1 t1 ⟨v1, v2⟩ H => ?_
 refine vx_seq <| ?_
 refine qa tok hT [0, 3, 4, 11] (St.mk [p 0 (L i64 a0), p 3 (AV.os 7 0), p 4 (I v1), p 11 (B (decide (v1 < (↑a0.length : Int))))] [(7, Ob.arr 2 true i64 v2 0)]) (by kernel_rfl) ?_
 refine cd H (by kernel_rfl) (fun H => ?_) (fun H => ?_)
 ·refine vx_skip <| fx_seq <| vx_seq <| vx_block <| ?_
  refine zb tok hT [0, 3, 4] (St.mk [p 0 (L i64 a0), p 3 (AV.os 7 0), p 4 (I v1)] [(7, Ob.arr 2 true i64 (v2.set v1.toNat (a0.getD v1.toNat 0)) 0)]) H (by kernel_rfl) fun H => ?_
  refine fx_blk <| fx_seq <| ?_
  refine zb tok hT [0, 3, 4] (St.mk [p 0 (L i64 a0), p 3 (AV.os 7 0), p 4 (I (v1 + 1))] [(7, Ob.arr 2 true i64 (v2.set v1.toNat (a0.getD v1.toNat 0)) 0)]) H (by kernel_rfl) fun H => ?_
  exact b1 H (by kernel_rfl)
 exact vx_exit <| fx_seq_exit <| e1 <| fx_blk_exit rfl <| n0 H (by kernel_rfl)
def u77 (a0 : Y128) : Option (Y131) :=
 gd ((u119 a0.1).isSome = true ∧ True) <| lt (vl (u119 a0.1)) fun v0 =>
 gd ((u119 a0.2.1).isSome = true ∧ True) <| lt (vl (u119 a0.2.1)) fun v1 =>
 gd ((u119 a0.2.2.1).isSome = true ∧ True) <| lt (vl (u119 a0.2.2.1)) fun v2 =>
 gd ((u119 a0.2.2.2).isSome = true ∧ True) <| lt (vl (u119 a0.2.2.2)) fun v3 =>
 some (v0, v1, v2, v3)
def k77 : Ct := lct 77 [.agg y128] (fun x => u77 x.1) (fun r : Y131 => AV.agg [AV.ow 2 true i64 r.1, AV.ow 2 true i64 r.2.1, AV.ow 2 true i64 r.2.2.1, AV.ow 2 true i64 r.2.2.2]) (fun _ => ())
theorem o77 : Ok Tryz.prog k77 := by
 refine okl tok [.cell 2 131] Tryz.func77 Tryz.ntmps77 rfl Tryz.results77 (by kernel_rfl) rfl ?_
 intro y ⟨a0, _⟩ r H Q hn hr
 have hT := tc o119 tn
 refine qa tok hT [1, 2] (St.mk [p 1 (AV.ptr 1 0), p 2 (AV.ptr 2 0)] [(2, Ob.box 131 [AV.v (Value.slice none 0 0), AV.v (Value.slice none 0 0), AV.v (Value.slice none 0 0), AV.v (Value.slice none 0 0)]), (1, Ob.box 128 (cellsD false y128 a0))]) (by kernel_rfl) ?_
 refine qa tok hT [1, 2, 3] (St.mk [p 1 (AV.ptr 1 0), p 2 (AV.ptr 2 0), p 3 (AV.ptr 3 0)] [(3, Ob.box 131 [AV.v (Value.slice none 0 0), AV.v (Value.slice none 0 0), AV.v (Value.slice none 0 0), AV.v (Value.slice none 0 0)]), (2, Ob.box 131 [AV.v (Value.slice none 0 0), AV.v (Value.slice none 0 0), AV.v (Value.slice none 0 0), AV.v (Value.slice none 0 0)]), (1, Ob.box 128 (cellsD false y128 a0))]) (by kernel_rfl) ?_
 refine qd tok hT [1, 2, 3] (fun v0 => St.mk [p 1 (AV.ptr 1 0), p 2 (AV.ptr 2 0), p 3 (AV.ptr 3 0)] [(3, Ob.box 131 [AV.os 6 0, AV.v (Value.slice none 0 0), AV.v (Value.slice none 0 0), AV.v (Value.slice none 0 0)]), (6, Ob.arr 2 true i64 v0 0), (2, Ob.box 131 [AV.v (Value.slice none 0 0), AV.v (Value.slice none 0 0), AV.v (Value.slice none 0 0), AV.v (Value.slice none 0 0)]), (1, Ob.box 128 (cellsD false y128 a0))]) H (by kernel_rfl) fun v0 H => ?_
 refine qd tok hT [1, 2, 3] (fun v1 => St.mk [p 1 (AV.ptr 1 0), p 2 (AV.ptr 2 0), p 3 (AV.ptr 3 0)] [(3, Ob.box 131 [AV.os 6 0, AV.os 10 0, AV.v (Value.slice none 0 0), AV.v (Value.slice none 0 0)]), (10, Ob.arr 2 true i64 v1 0), (6, Ob.arr 2 true i64 v0 0), (2, Ob.box 131 [AV.v (Value.slice none 0 0), AV.v (Value.slice none 0 0), AV.v (Value.slice none 0 0), AV.v (Value.slice none 0 0)]), (1, Ob.box 128 (cellsD false y128 a0))]) H (by kernel_rfl) fun v1 H => ?_
 refine qd tok hT [1, 2, 3] (fun v2 => St.mk [p 1 (AV.ptr 1 0), p 2 (AV.ptr 2 0), p 3 (AV.ptr 3 0)] [(3, Ob.box 131 [AV.os 6 0, AV.os 10 0, AV.os 14 0, AV.v (Value.slice none 0 0)]), (14, Ob.arr 2 true i64 v2 0), (10, Ob.arr 2 true i64 v1 0), (6, Ob.arr 2 true i64 v0 0), (2, Ob.box 131 [AV.v (Value.slice none 0 0), AV.v (Value.slice none 0 0), AV.v (Value.slice none 0 0), AV.v (Value.slice none 0 0)]), (1, Ob.box 128 (cellsD false y128 a0))]) H (by kernel_rfl) fun v2 H => ?_
 refine qd tok hT [2, 3] (fun v3 => St.mk [p 2 (AV.ptr 2 0), p 3 (AV.ptr 3 0)] [(3, Ob.box 131 [AV.os 6 0, AV.os 10 0, AV.os 14 0, AV.os 18 0]), (18, Ob.arr 2 true i64 v3 0), (14, Ob.arr 2 true i64 v2 0), (10, Ob.arr 2 true i64 v1 0), (6, Ob.arr 2 true i64 v0 0), (2, Ob.box 131 [AV.v (Value.slice none 0 0), AV.v (Value.slice none 0 0), AV.v (Value.slice none 0 0), AV.v (Value.slice none 0 0)]), (1, Ob.box 128 (cellsD false y128 a0))]) H (by kernel_rfl) fun v3 H => ?_
 refine qa tok hT [2] (St.mk [p 2 (AV.ptr 2 0)] [(2, Ob.box 131 [AV.os 6 0, AV.os 10 0, AV.os 14 0, AV.os 18 0]), (3, Ob.box 131 [AV.os 6 0, AV.os 10 0, AV.os 14 0, AV.os 18 0]), (18, Ob.arr 2 true i64 v3 0), (14, Ob.arr 2 true i64 v2 0), (10, Ob.arr 2 true i64 v1 0), (6, Ob.arr 2 true i64 v0 0), (1, Ob.box 128 (cellsD false y128 a0))]) (by kernel_rfl) ?_
 exact vx_ret <| hr H (by kernel_rfl)
def k77d : Ct := lct 77 [.agg y128] (fun x => u77 x.1) (fun r => frz ((fun r : Y131 => AV.agg [AV.ow 2 true i64 r.1, AV.ow 2 true i64 r.2.1, AV.ow 2 true i64 r.2.2.1, AV.ow 2 true i64 r.2.2.2]) r)) (fun _ => ())
theorem o77d : Ok Tryz.prog k77d := ok_frz o77
def u34J0 : List Y131 → Option (List Y131)
 | v5 =>
 some v5
def u34L1 (a0 : List Y128) (g1 : Int × List Y131 → Option (List Y131)) : Int × List Y131 → Option (List Y131)
 | (v2, v3) =>
 if (decide (v2 < (↑a0.length : Int))) = true then
  gd (ix v2 a0.length ∧ (u77 (a0.getD v2.toNat (dflt y128))).isSome = true ∧ ix v2 v3.length ∧ v2.toNat < v3.length ∧ True) <| lt (vl (u77 (a0.getD v2.toNat (dflt y128)))) fun v4 =>
  gd (in64 (v2 + 1) ∧ True) <| 
  g1 (v2 + 1, v3.set v2.toNat v4)
 else
  u34J0 v3
def u34 (a0 : List Y128) : Option (List Y131) :=
 gd ((0 ≤ (↑a0.length : Int) ∧ (↑a0.length : Int) = (↑a0.length : Int) ∧ (↑a0.length : Int).toNat * 96 ≤ 281474976710656 ∧ (↑a0.length : Int) ≤ 9223372036854775807) ∧ True) <| 
 lp (u34L1 a0) ((0, List.replicate (↑a0.length : Int).toNat ([], [], [], [])))
def k34 : Ct := lct 34 [.dat y128.sl] (fun x => u34 x.1) (fun r : List Y131 => AV.ow 131 true y131 r) (fun _ => ())
theorem o34 : Ok Tryz.prog k34 := by
 refine okl tok [.tmp 2] Tryz.func34 Tryz.ntmps34 rfl Tryz.results34 (by kernel_rfl) rfl ?_
 intro y ⟨a0, _⟩ r H Q hn hr
 have hT := tc o77d tn
 refine qa tok hT [0] (St.mk [p 0 (L y128 a0)] []) (by kernel_rfl) ?_
 refine qb tok hT [0, 3] (St.mk [p 0 (L y128 a0), p 3 (AV.os 7 0)] [(7, Ob.arr 131 true y131 (List.replicate (↑a0.length : Int).toNat ([], [], [], [])) 0)]) H (by kernel_rfl) fun H => ?_
 refine jn r (fun (v5 : List Y131) => St.mk [p 3 (AV.os 7 0)] [(7, Ob.arr 131 true y131 v5 0)]) (u34J0) (fun v5 H => ?_) (fun _ n0 e0 t0 => ?_)
 ·refine qa tok hT [2] (St.mk [p 2 (AV.os 7 0)] [(7, Ob.arr 131 true y131 v5 0)]) (by kernel_rfl) ?_
  exact vx_ret <| hr H (by kernel_rfl)
 refine qa tok hT [0, 3, 4] (St.mk [p 0 (L y128 a0), p 3 (AV.os 7 0), p 4 (I 0)] [(7, Ob.arr 131 true y131 (List.replicate (↑a0.length : Int).toNat ([], [], [], [])) 0)]) (by kernel_rfl) ?_
 refine vx_block <| ?_
 refine lx (fun ((v2, v3) : Int × List Y131) => St.mk [p 0 (L y128 a0), p 3 (AV.os 7 0), p 4 (I v2)] [(7, Ob.arr 131 true y131 v3 0)]) ((0, List.replicate (↑a0.length : Int).toNat ([], [], [], []))) H (by kernel_rfl) fun _ g1 b1 e1 t1 ⟨v2, v3⟩ H => ?_
 refine vx_seq <| ?_
 refine qa tok hT [0, 3, 4, 11] (St.mk [p 0 (L y128 a0), p 3 (AV.os 7 0), p 4 (I v2), p 11 (B (decide (v2 < (↑a0.length : Int))))] [(7, Ob.arr 131 true y131 v3 0)]) (by kernel_rfl) ?_
 refine cd H (by kernel_rfl) (fun H => ?_) (fun H => ?_)
 ·refine vx_skip <| fx_seq <| vx_seq <| vx_block <| ?_
  refine zd tok hT [0, 3, 4] (fun v4 => St.mk [p 0 (L y128 a0), p 3 (AV.os 7 0), p 4 (I v2)] [(7, Ob.arr 131 true y131 (v3.set v2.toNat v4) 0)]) H (by kernel_rfl) fun v4 H => ?_
  refine fx_blk <| fx_seq <| ?_
  refine zb tok hT [0, 3, 4] (St.mk [p 0 (L y128 a0), p 3 (AV.os 7 0), p 4 (I (v2 + 1))] [(7, Ob.arr 131 true y131 (v3.set v2.toNat v4) 0)]) H (by kernel_rfl) fun H => ?_
  exact b1 H (by kernel_rfl)
 exact vx_exit <| fx_seq_exit <| e1 <| fx_blk_exit rfl <| n0 H (by kernel_rfl)
def u118 (a0 : Y191) : Option (Y143) :=
 some a0
def k118 : Ct := lct 118 [.agg y191] (fun x => u118 x.1) (fun r : Y143 => AV.agg [S r.1, I r.2.1, I r.2.2]) (fun _ => ())
theorem o118 : Ok Tryz.prog k118 := by
 refine okl tok [.cell 2 143] Tryz.func118 Tryz.ntmps118 rfl Tryz.results118 (by kernel_rfl) rfl ?_
 intro y ⟨a0, _⟩ r H Q hn hr
 have hT := @tn Tryz.prog
 refine qa tok hT [1, 2] (St.mk [p 1 (AV.ptr 1 0), p 2 (AV.ptr 2 0)] [(2, Ob.box 143 [S (ByteArray.mk #[]), I 0, I 0]), (1, Ob.box 191 (cellsD false y191 a0))]) (by kernel_rfl) ?_
 refine qa tok hT [1, 2, 3] (St.mk [p 1 (AV.ptr 1 0), p 2 (AV.ptr 2 0), p 3 (AV.ptr 3 0)] [(3, Ob.box 143 [S (ByteArray.mk #[]), I 0, I 0]), (2, Ob.box 143 [S (ByteArray.mk #[]), I 0, I 0]), (1, Ob.box 191 (cellsD false y191 a0))]) (by kernel_rfl) ?_
 refine qa tok hT [1, 2, 3] (St.mk [p 1 (AV.ptr 1 0), p 2 (AV.ptr 2 0), p 3 (AV.ptr 3 0)] [(3, Ob.box 143 [U a0.1, I 0, I 0]), (2, Ob.box 143 [S (ByteArray.mk #[]), I 0, I 0]), (1, Ob.box 191 (cellsD false y191 a0))]) (by kernel_rfl) ?_
 refine qa tok hT [1, 2, 3] (St.mk [p 1 (AV.ptr 1 0), p 2 (AV.ptr 2 0), p 3 (AV.ptr 3 0)] [(3, Ob.box 143 [U a0.1, J a0.2.1, I 0]), (2, Ob.box 143 [S (ByteArray.mk #[]), I 0, I 0]), (1, Ob.box 191 (cellsD false y191 a0))]) (by kernel_rfl) ?_
 refine qa tok hT [2, 3] (St.mk [p 2 (AV.ptr 2 0), p 3 (AV.ptr 3 0)] [(3, Ob.box 143 (cellsD false y143 a0)), (2, Ob.box 143 [S (ByteArray.mk #[]), I 0, I 0]), (1, Ob.box 191 (cellsD false y191 a0))]) (by kernel_rfl) ?_
 refine qa tok hT [2] (St.mk [p 2 (AV.ptr 2 0)] [(2, Ob.box 143 (cellsD false y143 a0)), (3, Ob.box 143 (cellsD false y143 a0)), (1, Ob.box 191 (cellsD false y191 a0))]) (by kernel_rfl) ?_
 exact vx_ret <| hr H (by kernel_rfl)
def u76J0 : List Y143 → Option (List Y143)
 | v5 =>
 some v5
def u76L1 (a0 : List Y191) (g1 : Int × List Y143 → Option (List Y143)) : Int × List Y143 → Option (List Y143)
 | (v2, v3) =>
 if (decide (v2 < (↑a0.length : Int))) = true then
  gd (ix v2 a0.length ∧ (u118 (a0.getD v2.toNat (dflt y191))).isSome = true ∧ ix v2 v3.length ∧ v2.toNat < v3.length ∧ True) <| lt (vl (u118 (a0.getD v2.toNat (dflt y191)))) fun v4 =>
  gd (in64 (v2 + 1) ∧ True) <| 
  g1 (v2 + 1, v3.set v2.toNat v4)
 else
  u76J0 v3
def u76 (a0 : List Y191) : Option (List Y143) :=
 gd ((0 ≤ (↑a0.length : Int) ∧ (↑a0.length : Int) = (↑a0.length : Int) ∧ (↑a0.length : Int).toNat * 32 ≤ 281474976710656 ∧ (↑a0.length : Int) ≤ 9223372036854775807) ∧ True) <| lt (List.replicate (↑a0.length : Int).toNat (ByteArray.mk #[], (0 : Int), (0 : Int))) fun v0 =>
 lp (u76L1 a0) (0, v0)
def k76 : Ct := lct 76 [.dat y191.sl] (fun x => u76 x.1) (fun r : List Y143 => AV.ow 143 true y143 r) (fun _ => ())
theorem o76 : Ok Tryz.prog k76 := by
 refine okl tok [.tmp 2] Tryz.func76 Tryz.ntmps76 rfl Tryz.results76 (by kernel_rfl) rfl ?_
 intro y ⟨a0, _⟩ r H Q hn hr
 have hT := tc o118 tn
 refine qa tok hT [0] (St.mk [p 0 (L y191 a0)] []) (by kernel_rfl) ?_
 refine qd tok hT [0, 3] (fun v0 => St.mk [p 0 (L y191 a0), p 3 (AV.os 7 0)] [(7, Ob.arr 143 true y143 v0 0)]) H (by kernel_rfl) fun v0 H => ?_
 refine jn r (fun (v5 : List Y143) => St.mk [p 3 (AV.os 7 0)] [(7, Ob.arr 143 true y143 v5 0)]) (u76J0) (fun v5 H => ?_) (fun _ n0 e0 t0 => ?_)
 ·refine qa tok hT [2] (St.mk [p 2 (AV.os 7 0)] [(7, Ob.arr 143 true y143 v5 0)]) (by kernel_rfl) ?_
  exact vx_ret <| hr H (by kernel_rfl)
 refine qa tok hT [0, 3, 4] (St.mk [p 0 (L y191 a0), p 3 (AV.os 7 0), p 4 (I 0)] [(7, Ob.arr 143 true y143 v0 0)]) (by kernel_rfl) ?_
 refine vx_block <| ?_
 refine lx (fun ((v2, v3) : Int × List Y143) => St.mk [p 0 (L y191 a0), p 3 (AV.os 7 0), p 4 (I v2)] [(7, Ob.arr 143 true y143 v3 0)]) (0, v0) H (by kernel_rfl) fun _ g1 b1 e1 t1 ⟨v2, v3⟩ H => ?_
 refine vx_seq <| ?_
 refine qa tok hT [0, 3, 4, 11] (St.mk [p 0 (L y191 a0), p 3 (AV.os 7 0), p 4 (I v2), p 11 (B (decide (v2 < (↑a0.length : Int))))] [(7, Ob.arr 143 true y143 v3 0)]) (by kernel_rfl) ?_
 refine cd H (by kernel_rfl) (fun H => ?_) (fun H => ?_)
 ·refine vx_skip <| fx_seq <| vx_seq <| vx_block <| ?_
  refine zd tok hT [0, 3, 4] (fun v4 => St.mk [p 0 (L y191 a0), p 3 (AV.os 7 0), p 4 (I v2)] [(7, Ob.arr 143 true y143 (v3.set v2.toNat v4) 0)]) H (by kernel_rfl) fun v4 H => ?_
  refine fx_blk <| fx_seq <| ?_
  refine zb tok hT [0, 3, 4] (St.mk [p 0 (L y191 a0), p 3 (AV.os 7 0), p 4 (I (v2 + 1))] [(7, Ob.arr 143 true y143 (v3.set v2.toNat v4) 0)]) H (by kernel_rfl) fun H => ?_
  exact b1 H (by kernel_rfl)
 exact vx_exit <| fx_seq_exit <| e1 <| fx_blk_exit rfl <| n0 H (by kernel_rfl)
def u75J0 : List ByteArray → Option (List ByteArray)
 | v3 =>
 some v3
def u75L1 (a0 : List ByteArray) (g1 : Int × List ByteArray → Option (List ByteArray)) : Int × List ByteArray → Option (List ByteArray)
 | (v1, v2) =>
 if (decide (v1 < (↑a0.length : Int))) = true then
  gd (ix v1 a0.length ∧ ix v1 v2.length ∧ v1.toNat < v2.length ∧ True) <| 
  gd (in64 (v1 + 1) ∧ True) <| 
  g1 ((v1 + 1, v2.set v1.toNat (a0.getD v1.toNat (dflt Ty.str))))
 else
  u75J0 v2
def u75 (a0 : List ByteArray) : Option (List ByteArray) :=
 gd ((0 ≤ (↑a0.length : Int) ∧ (↑a0.length : Int) = (↑a0.length : Int) ∧ (↑a0.length : Int).toNat * 16 ≤ 281474976710656 ∧ (↑a0.length : Int) ≤ 9223372036854775807) ∧ True) <| 
 lp (u75L1 a0) ((0, List.replicate (↑a0.length : Int).toNat (ByteArray.mk #[])))
def k75 : Ct := lct 75 [.dat Ty.str.sl] (fun x => u75 x.1) (fun r : List ByteArray => AV.ow 9 true Ty.str r) (fun _ => ())
theorem o75 : Ok Tryz.prog k75 := by
 refine okl tok [.tmp 2] Tryz.func75 Tryz.ntmps75 rfl Tryz.results75 (by kernel_rfl) rfl ?_
 intro y ⟨a0, _⟩ r H Q hn hr
 have hT := @tn Tryz.prog
 refine qa tok hT [0] (St.mk [p 0 (L Ty.str a0)] []) (by kernel_rfl) ?_
 refine qb tok hT [0, 3] (St.mk [p 0 (L Ty.str a0), p 3 (AV.os 7 0)] [(7, Ob.arr 9 true Ty.str (List.replicate (↑a0.length : Int).toNat (ByteArray.mk #[])) 0)]) H (by kernel_rfl) fun H => ?_
 refine jn r (fun (v3 : List ByteArray) => St.mk [p 3 (AV.os 7 0)] [(7, Ob.arr 9 true Ty.str v3 0)]) (u75J0) (fun v3 H => ?_) (fun _ n0 e0 t0 => ?_)
 ·refine qa tok hT [2] (St.mk [p 2 (AV.os 7 0)] [(7, Ob.arr 9 true Ty.str v3 0)]) (by kernel_rfl) ?_
  exact vx_ret <| hr H (by kernel_rfl)
 refine qa tok hT [0, 3, 4] (St.mk [p 0 (L Ty.str a0), p 3 (AV.os 7 0), p 4 (I 0)] [(7, Ob.arr 9 true Ty.str (List.replicate (↑a0.length : Int).toNat (ByteArray.mk #[])) 0)]) (by kernel_rfl) ?_
 refine vx_block <| ?_
 refine lx (fun ((v1, v2) : Int × List ByteArray) => St.mk [p 0 (L Ty.str a0), p 3 (AV.os 7 0), p 4 (I v1)] [(7, Ob.arr 9 true Ty.str v2 0)]) ((0, List.replicate (↑a0.length : Int).toNat (ByteArray.mk #[]))) H (by kernel_rfl) fun _ g1 b1 e1 t1 ⟨v1, v2⟩ H => ?_
 refine vx_seq <| ?_
 refine qa tok hT [0, 3, 4, 11] (St.mk [p 0 (L Ty.str a0), p 3 (AV.os 7 0), p 4 (I v1), p 11 (B (decide (v1 < (↑a0.length : Int))))] [(7, Ob.arr 9 true Ty.str v2 0)]) (by kernel_rfl) ?_
 refine cd H (by kernel_rfl) (fun H => ?_) (fun H => ?_)
 ·refine vx_skip <| fx_seq <| vx_seq <| vx_block <| ?_
  refine zb tok hT [0, 3, 4] (St.mk [p 0 (L Ty.str a0), p 3 (AV.os 7 0), p 4 (I v1)] [(7, Ob.arr 9 true Ty.str (v2.set v1.toNat (a0.getD v1.toNat (dflt Ty.str))) 0)]) H (by kernel_rfl) fun H => ?_
  refine fx_blk <| fx_seq <| ?_
  refine zb tok hT [0, 3, 4] (St.mk [p 0 (L Ty.str a0), p 3 (AV.os 7 0), p 4 (I (v1 + 1))] [(7, Ob.arr 9 true Ty.str (v2.set v1.toNat (a0.getD v1.toNat (dflt Ty.str))) 0)]) H (by kernel_rfl) fun H => ?_
  exact b1 H (by kernel_rfl)
 exact vx_exit <| fx_seq_exit <| e1 <| fx_blk_exit rfl <| n0 H (by kernel_rfl)
def u117 (a0 : Y189) : Option (Y141) :=
 gd ((u119 a0.2.2).isSome = true ∧ True) <| lt (vl (u119 a0.2.2)) fun v0 =>
 some (a0.1, a0.2.1, v0)
def k117 : Ct := lct 117 [.agg y189] (fun x => u117 x.1) (fun r : Y141 => AV.agg [S r.1, I r.2.1, AV.ow 2 true i64 r.2.2]) (fun _ => ())
theorem o117 : Ok Tryz.prog k117 := by
 refine okl tok [.cell 2 141] Tryz.func117 Tryz.ntmps117 rfl Tryz.results117 (by kernel_rfl) rfl ?_
 intro y ⟨a0, _⟩ r H Q hn hr
 have hT := tc o119 tn
 refine qa tok hT [1, 2] (St.mk [p 1 (AV.ptr 1 0), p 2 (AV.ptr 2 0)] [(2, Ob.box 141 [S (ByteArray.mk #[]), I 0, AV.v (Value.slice none 0 0)]), (1, Ob.box 189 (cellsD false y189 a0))]) (by kernel_rfl) ?_
 refine qa tok hT [1, 2, 3] (St.mk [p 1 (AV.ptr 1 0), p 2 (AV.ptr 2 0), p 3 (AV.ptr 3 0)] [(3, Ob.box 141 [S (ByteArray.mk #[]), I 0, AV.v (Value.slice none 0 0)]), (2, Ob.box 141 [S (ByteArray.mk #[]), I 0, AV.v (Value.slice none 0 0)]), (1, Ob.box 189 (cellsD false y189 a0))]) (by kernel_rfl) ?_
 refine qa tok hT [1, 2, 3] (St.mk [p 1 (AV.ptr 1 0), p 2 (AV.ptr 2 0), p 3 (AV.ptr 3 0)] [(3, Ob.box 141 [U a0.1, I 0, AV.v (Value.slice none 0 0)]), (2, Ob.box 141 [S (ByteArray.mk #[]), I 0, AV.v (Value.slice none 0 0)]), (1, Ob.box 189 (cellsD false y189 a0))]) (by kernel_rfl) ?_
 refine qa tok hT [1, 2, 3] (St.mk [p 1 (AV.ptr 1 0), p 2 (AV.ptr 2 0), p 3 (AV.ptr 3 0)] [(3, Ob.box 141 [U a0.1, J a0.2.1, AV.v (Value.slice none 0 0)]), (2, Ob.box 141 [S (ByteArray.mk #[]), I 0, AV.v (Value.slice none 0 0)]), (1, Ob.box 189 (cellsD false y189 a0))]) (by kernel_rfl) ?_
 refine qd tok hT [2, 3] (fun v0 => St.mk [p 2 (AV.ptr 2 0), p 3 (AV.ptr 3 0)] [(3, Ob.box 141 [U a0.1, J a0.2.1, AV.os 12 0]), (12, Ob.arr 2 true i64 v0 0), (2, Ob.box 141 [S (ByteArray.mk #[]), I 0, AV.v (Value.slice none 0 0)]), (1, Ob.box 189 (cellsD false y189 a0))]) H (by kernel_rfl) fun v0 H => ?_
 refine qa tok hT [2] (St.mk [p 2 (AV.ptr 2 0)] [(2, Ob.box 141 [U a0.1, J a0.2.1, AV.os 12 0]), (3, Ob.box 141 [U a0.1, J a0.2.1, AV.os 12 0]), (12, Ob.arr 2 true i64 v0 0), (1, Ob.box 189 (cellsD false y189 a0))]) (by kernel_rfl) ?_
 exact vx_ret <| hr H (by kernel_rfl)
def k117d : Ct := lct 117 [.agg y189] (fun x => u117 x.1) (fun r => frz ((fun r : Y141 => AV.agg [S r.1, I r.2.1, AV.ow 2 true i64 r.2.2]) r)) (fun _ => ())
theorem o117d : Ok Tryz.prog k117d := ok_frz o117
def u74J0 : List Y141 → Option (List Y141)
 | v5 =>
 some v5
def u74L1 (a0 : List Y189) (g1 : Int × List Y141 → Option (List Y141)) : Int × List Y141 → Option (List Y141)
 | (v2, v3) =>
 if (decide (v2 < (↑a0.length : Int))) = true then
  gd (ix v2 a0.length ∧ (u117 (a0.getD v2.toNat (dflt y189))).isSome = true ∧ ix v2 v3.length ∧ v2.toNat < v3.length ∧ True) <| lt (vl (u117 (a0.getD v2.toNat (dflt y189)))) fun v4 =>
  gd (in64 (v2 + 1) ∧ True) <| 
  g1 (v2 + 1, v3.set v2.toNat v4)
 else
  u74J0 v3
def u74 (a0 : List Y189) : Option (List Y141) :=
 gd ((0 ≤ (↑a0.length : Int) ∧ (↑a0.length : Int) = (↑a0.length : Int) ∧ (↑a0.length : Int).toNat * 48 ≤ 281474976710656 ∧ (↑a0.length : Int) ≤ 9223372036854775807) ∧ True) <| lt (List.replicate (↑a0.length : Int).toNat (ByteArray.mk #[], (0 : Int), [])) fun v0 =>
 lp (u74L1 a0) (0, v0)
def k74 : Ct := lct 74 [.dat y189.sl] (fun x => u74 x.1) (fun r : List Y141 => AV.ow 141 true y141 r) (fun _ => ())
theorem o74 : Ok Tryz.prog k74 := by
 refine okl tok [.tmp 2] Tryz.func74 Tryz.ntmps74 rfl Tryz.results74 (by kernel_rfl) rfl ?_
 intro y ⟨a0, _⟩ r H Q hn hr
 have hT := tc o117d tn
 refine qa tok hT [0] (St.mk [p 0 (L y189 a0)] []) (by kernel_rfl) ?_
 refine qd tok hT [0, 3] (fun v0 => St.mk [p 0 (L y189 a0), p 3 (AV.os 7 0)] [(7, Ob.arr 141 true y141 v0 0)]) H (by kernel_rfl) fun v0 H => ?_
 refine jn r (fun (v5 : List Y141) => St.mk [p 3 (AV.os 7 0)] [(7, Ob.arr 141 true y141 v5 0)]) (u74J0) (fun v5 H => ?_) (fun _ n0 e0 t0 => ?_)
 ·refine qa tok hT [2] (St.mk [p 2 (AV.os 7 0)] [(7, Ob.arr 141 true y141 v5 0)]) (by kernel_rfl) ?_
  exact vx_ret <| hr H (by kernel_rfl)
 refine qa tok hT [0, 3, 4] (St.mk [p 0 (L y189 a0), p 3 (AV.os 7 0), p 4 (I 0)] [(7, Ob.arr 141 true y141 v0 0)]) (by kernel_rfl) ?_
 refine vx_block <| ?_
 refine lx (fun ((v2, v3) : Int × List Y141) => St.mk [p 0 (L y189 a0), p 3 (AV.os 7 0), p 4 (I v2)] [(7, Ob.arr 141 true y141 v3 0)]) (0, v0) H (by kernel_rfl) fun _ g1 b1 e1 t1 ⟨v2, v3⟩ H => ?_
 refine vx_seq <| ?_
 refine qa tok hT [0, 3, 4, 11] (St.mk [p 0 (L y189 a0), p 3 (AV.os 7 0), p 4 (I v2), p 11 (B (decide (v2 < (↑a0.length : Int))))] [(7, Ob.arr 141 true y141 v3 0)]) (by kernel_rfl) ?_
 refine cd H (by kernel_rfl) (fun H => ?_) (fun H => ?_)
 ·refine vx_skip <| fx_seq <| vx_seq <| vx_block <| ?_
  refine zd tok hT [0, 3, 4] (fun v4 => St.mk [p 0 (L y189 a0), p 3 (AV.os 7 0), p 4 (I v2)] [(7, Ob.arr 141 true y141 (v3.set v2.toNat v4) 0)]) H (by kernel_rfl) fun v4 H => ?_
  refine fx_blk <| fx_seq <| ?_
  refine zb tok hT [0, 3, 4] (St.mk [p 0 (L y189 a0), p 3 (AV.os 7 0), p 4 (I (v2 + 1))] [(7, Ob.arr 141 true y141 (v3.set v2.toNat v4) 0)]) H (by kernel_rfl) fun H => ?_
  exact b1 H (by kernel_rfl)
 exact vx_exit <| fx_seq_exit <| e1 <| fx_blk_exit rfl <| n0 H (by kernel_rfl)
def u33 (a0 : Y29) : Option (Y41) :=
 gd ((u74 a0.1).isSome = true ∧ True) <| lt (vl (u74 a0.1)) fun v0 =>
 gd ((u75 a0.2.1).isSome = true ∧ True) <| lt (vl (u75 a0.2.1)) fun v1 =>
 gd ((u76 a0.2.2).isSome = true ∧ True) <| lt (vl (u76 a0.2.2)) fun v2 =>
 some (v0, v1, v2)
def k33 : Ct := lct 33 [.agg y29] (fun x => u33 x.1) (fun r : Y41 => AV.agg [AV.ow 141 true y141 r.1, AV.ow 9 true Ty.str r.2.1, AV.ow 143 true y143 r.2.2]) (fun _ => ())
theorem o33 : Ok Tryz.prog k33 := by
 refine okl tok [.cell 2 41] Tryz.func33 Tryz.ntmps33 rfl Tryz.results33 (by kernel_rfl) rfl ?_
 intro y ⟨a0, _⟩ r H Q hn hr
 have hT := tc o76 (tc o75 (tc o74 tn))
 refine qa tok hT [1, 2] (St.mk [p 1 (AV.ptr 1 0), p 2 (AV.ptr 2 0)] [(2, Ob.box 41 [AV.v (Value.slice none 0 0), AV.v (Value.slice none 0 0), AV.v (Value.slice none 0 0)]), (1, Ob.box 29 (cellsD false y29 a0))]) (by kernel_rfl) ?_
 refine qa tok hT [1, 2, 3] (St.mk [p 1 (AV.ptr 1 0), p 2 (AV.ptr 2 0), p 3 (AV.ptr 3 0)] [(3, Ob.box 41 [AV.v (Value.slice none 0 0), AV.v (Value.slice none 0 0), AV.v (Value.slice none 0 0)]), (2, Ob.box 41 [AV.v (Value.slice none 0 0), AV.v (Value.slice none 0 0), AV.v (Value.slice none 0 0)]), (1, Ob.box 29 (cellsD false y29 a0))]) (by kernel_rfl) ?_
 refine qd tok hT [1, 2, 3] (fun v0 => St.mk [p 1 (AV.ptr 1 0), p 2 (AV.ptr 2 0), p 3 (AV.ptr 3 0)] [(3, Ob.box 41 [AV.os 6 0, AV.v (Value.slice none 0 0), AV.v (Value.slice none 0 0)]), (6, Ob.arr 141 true y141 v0 0), (2, Ob.box 41 [AV.v (Value.slice none 0 0), AV.v (Value.slice none 0 0), AV.v (Value.slice none 0 0)]), (1, Ob.box 29 (cellsD false y29 a0))]) H (by kernel_rfl) fun v0 H => ?_
 refine qd tok hT [1, 2, 3] (fun v1 => St.mk [p 1 (AV.ptr 1 0), p 2 (AV.ptr 2 0), p 3 (AV.ptr 3 0)] [(3, Ob.box 41 [AV.os 6 0, AV.os 10 0, AV.v (Value.slice none 0 0)]), (10, Ob.arr 9 true Ty.str v1 0), (6, Ob.arr 141 true y141 v0 0), (2, Ob.box 41 [AV.v (Value.slice none 0 0), AV.v (Value.slice none 0 0), AV.v (Value.slice none 0 0)]), (1, Ob.box 29 (cellsD false y29 a0))]) H (by kernel_rfl) fun v1 H => ?_
 refine qd tok hT [2, 3] (fun v2 => St.mk [p 2 (AV.ptr 2 0), p 3 (AV.ptr 3 0)] [(3, Ob.box 41 [AV.os 6 0, AV.os 10 0, AV.os 14 0]), (14, Ob.arr 143 true y143 v2 0), (10, Ob.arr 9 true Ty.str v1 0), (6, Ob.arr 141 true y141 v0 0), (2, Ob.box 41 [AV.v (Value.slice none 0 0), AV.v (Value.slice none 0 0), AV.v (Value.slice none 0 0)]), (1, Ob.box 29 (cellsD false y29 a0))]) H (by kernel_rfl) fun v2 H => ?_
 refine qa tok hT [2] (St.mk [p 2 (AV.ptr 2 0)] [(2, Ob.box 41 [AV.os 6 0, AV.os 10 0, AV.os 14 0]), (3, Ob.box 41 [AV.os 6 0, AV.os 10 0, AV.os 14 0]), (14, Ob.arr 143 true y143 v2 0), (10, Ob.arr 9 true Ty.str v1 0), (6, Ob.arr 141 true y141 v0 0), (1, Ob.box 29 (cellsD false y29 a0))]) (by kernel_rfl) ?_
 exact vx_ret <| hr H (by kernel_rfl)
def u188 (a0 : Y258) : Option (Y96) :=
 gd ((u119 a0.1).isSome = true ∧ True) <| lt (vl (u119 a0.1)) fun v0 =>
 gd ((u119 a0.2.1).isSome = true ∧ True) <| lt (vl (u119 a0.2.1)) fun v1 =>
 gd ((u119 a0.2.2).isSome = true ∧ True) <| lt (vl (u119 a0.2.2)) fun v2 =>
 some (v0, v1, v2)
def k188 : Ct := lct 188 [.agg y258] (fun x => u188 x.1) (fun r : Y96 => AV.agg [AV.ow 2 true i64 r.1, AV.ow 2 true i64 r.2.1, AV.ow 2 true i64 r.2.2]) (fun _ => ())
theorem o188 : Ok Tryz.prog k188 := by
 refine okl tok [.cell 2 96] Tryz.func188 Tryz.ntmps188 rfl Tryz.results188 (by kernel_rfl) rfl ?_
 intro y ⟨a0, _⟩ r H Q hn hr
 have hT := tc o119 tn
 refine qa tok hT [1, 2] (St.mk [p 1 (AV.ptr 1 0), p 2 (AV.ptr 2 0)] [(2, Ob.box 96 [AV.v (Value.slice none 0 0), AV.v (Value.slice none 0 0), AV.v (Value.slice none 0 0)]), (1, Ob.box 258 (cellsD false y258 a0))]) (by kernel_rfl) ?_
 refine qa tok hT [1, 2, 3] (St.mk [p 1 (AV.ptr 1 0), p 2 (AV.ptr 2 0), p 3 (AV.ptr 3 0)] [(3, Ob.box 96 [AV.v (Value.slice none 0 0), AV.v (Value.slice none 0 0), AV.v (Value.slice none 0 0)]), (2, Ob.box 96 [AV.v (Value.slice none 0 0), AV.v (Value.slice none 0 0), AV.v (Value.slice none 0 0)]), (1, Ob.box 258 (cellsD false y258 a0))]) (by kernel_rfl) ?_
 refine qd tok hT [1, 2, 3] (fun v0 => St.mk [p 1 (AV.ptr 1 0), p 2 (AV.ptr 2 0), p 3 (AV.ptr 3 0)] [(3, Ob.box 96 [AV.os 6 0, AV.v (Value.slice none 0 0), AV.v (Value.slice none 0 0)]), (6, Ob.arr 2 true i64 v0 0), (2, Ob.box 96 [AV.v (Value.slice none 0 0), AV.v (Value.slice none 0 0), AV.v (Value.slice none 0 0)]), (1, Ob.box 258 (cellsD false y258 a0))]) H (by kernel_rfl) fun v0 H => ?_
 refine qd tok hT [1, 2, 3] (fun v1 => St.mk [p 1 (AV.ptr 1 0), p 2 (AV.ptr 2 0), p 3 (AV.ptr 3 0)] [(3, Ob.box 96 [AV.os 6 0, AV.os 10 0, AV.v (Value.slice none 0 0)]), (10, Ob.arr 2 true i64 v1 0), (6, Ob.arr 2 true i64 v0 0), (2, Ob.box 96 [AV.v (Value.slice none 0 0), AV.v (Value.slice none 0 0), AV.v (Value.slice none 0 0)]), (1, Ob.box 258 (cellsD false y258 a0))]) H (by kernel_rfl) fun v1 H => ?_
 refine qd tok hT [2, 3] (fun v2 => St.mk [p 2 (AV.ptr 2 0), p 3 (AV.ptr 3 0)] [(3, Ob.box 96 [AV.os 6 0, AV.os 10 0, AV.os 14 0]), (14, Ob.arr 2 true i64 v2 0), (10, Ob.arr 2 true i64 v1 0), (6, Ob.arr 2 true i64 v0 0), (2, Ob.box 96 [AV.v (Value.slice none 0 0), AV.v (Value.slice none 0 0), AV.v (Value.slice none 0 0)]), (1, Ob.box 258 (cellsD false y258 a0))]) H (by kernel_rfl) fun v2 H => ?_
 refine qa tok hT [2] (St.mk [p 2 (AV.ptr 2 0)] [(2, Ob.box 96 [AV.os 6 0, AV.os 10 0, AV.os 14 0]), (3, Ob.box 96 [AV.os 6 0, AV.os 10 0, AV.os 14 0]), (14, Ob.arr 2 true i64 v2 0), (10, Ob.arr 2 true i64 v1 0), (6, Ob.arr 2 true i64 v0 0), (1, Ob.box 258 (cellsD false y258 a0))]) (by kernel_rfl) ?_
 exact vx_ret <| hr H (by kernel_rfl)
def k188d : Ct := lct 188 [.agg y258] (fun x => u188 x.1) (fun r => frz ((fun r : Y96 => AV.agg [AV.ow 2 true i64 r.1, AV.ow 2 true i64 r.2.1, AV.ow 2 true i64 r.2.2]) r)) (fun _ => ())
theorem o188d : Ok Tryz.prog k188d := ok_frz o188
def u175J0 : List Y96 → Option (List Y96)
 | v5 =>
 some v5
def u175L1 (a0 : List Y258) (g1 : Int × List Y96 → Option (List Y96)) : Int × List Y96 → Option (List Y96)
 | (v2, v3) =>
 if (decide (v2 < (↑a0.length : Int))) = true then
  gd (ix v2 a0.length ∧ (u188 (a0.getD v2.toNat (dflt y258))).isSome = true ∧ ix v2 v3.length ∧ v2.toNat < v3.length ∧ True) <| lt (vl (u188 (a0.getD v2.toNat (dflt y258)))) fun v4 =>
  gd (in64 (v2 + 1) ∧ True) <| 
  g1 (v2 + 1, v3.set v2.toNat v4)
 else
  u175J0 v3
def u175 (a0 : List Y258) : Option (List Y96) :=
 gd ((0 ≤ (↑a0.length : Int) ∧ (↑a0.length : Int) = (↑a0.length : Int) ∧ (↑a0.length : Int).toNat * 72 ≤ 281474976710656 ∧ (↑a0.length : Int) ≤ 9223372036854775807) ∧ True) <| 
 lp (u175L1 a0) ((0, List.replicate (↑a0.length : Int).toNat ([], [], [])))
def k175 : Ct := lct 175 [.dat y258.sl] (fun x => u175 x.1) (fun r : List Y96 => AV.ow 96 true y96 r) (fun _ => ())
theorem o175 : Ok Tryz.prog k175 := by
 refine okl tok [.tmp 2] Tryz.func175 Tryz.ntmps175 rfl Tryz.results175 (by kernel_rfl) rfl ?_
 intro y ⟨a0, _⟩ r H Q hn hr
 have hT := tc o188d tn
 refine qa tok hT [0] (St.mk [p 0 (L y258 a0)] []) (by kernel_rfl) ?_
 refine qb tok hT [0, 3] (St.mk [p 0 (L y258 a0), p 3 (AV.os 7 0)] [(7, Ob.arr 96 true y96 (List.replicate (↑a0.length : Int).toNat ([], [], [])) 0)]) H (by kernel_rfl) fun H => ?_
 refine jn r (fun (v5 : List Y96) => St.mk [p 3 (AV.os 7 0)] [(7, Ob.arr 96 true y96 v5 0)]) (u175J0) (fun v5 H => ?_) (fun _ n0 e0 t0 => ?_)
 ·refine qa tok hT [2] (St.mk [p 2 (AV.os 7 0)] [(7, Ob.arr 96 true y96 v5 0)]) (by kernel_rfl) ?_
  exact vx_ret <| hr H (by kernel_rfl)
 refine qa tok hT [0, 3, 4] (St.mk [p 0 (L y258 a0), p 3 (AV.os 7 0), p 4 (I 0)] [(7, Ob.arr 96 true y96 (List.replicate (↑a0.length : Int).toNat ([], [], [])) 0)]) (by kernel_rfl) ?_
 refine vx_block <| ?_
 refine lx (fun ((v2, v3) : Int × List Y96) => St.mk [p 0 (L y258 a0), p 3 (AV.os 7 0), p 4 (I v2)] [(7, Ob.arr 96 true y96 v3 0)]) ((0, List.replicate (↑a0.length : Int).toNat ([], [], []))) H (by kernel_rfl) fun _ g1 b1 e1 t1 ⟨v2, v3⟩ H => ?_
 refine vx_seq <| ?_
 refine qa tok hT [0, 3, 4, 11] (St.mk [p 0 (L y258 a0), p 3 (AV.os 7 0), p 4 (I v2), p 11 (B (decide (v2 < (↑a0.length : Int))))] [(7, Ob.arr 96 true y96 v3 0)]) (by kernel_rfl) ?_
 refine cd H (by kernel_rfl) (fun H => ?_) (fun H => ?_)
 ·refine vx_skip <| fx_seq <| vx_seq <| vx_block <| ?_
  refine zd tok hT [0, 3, 4] (fun v4 => St.mk [p 0 (L y258 a0), p 3 (AV.os 7 0), p 4 (I v2)] [(7, Ob.arr 96 true y96 (v3.set v2.toNat v4) 0)]) H (by kernel_rfl) fun v4 H => ?_
  refine fx_blk <| fx_seq <| ?_
  refine zb tok hT [0, 3, 4] (St.mk [p 0 (L y258 a0), p 3 (AV.os 7 0), p 4 (I (v2 + 1))] [(7, Ob.arr 96 true y96 (v3.set v2.toNat v4) 0)]) H (by kernel_rfl) fun H => ?_
  exact b1 H (by kernel_rfl)
 exact vx_exit <| fx_seq_exit <| e1 <| fx_blk_exit rfl <| n0 H (by kernel_rfl)
def u163 (a0 : Y236) : Option (Y89) :=
 gd ((u175 a0.2.2.2.2.1).isSome = true ∧ True) <| lt (vl (u175 a0.2.2.2.2.1)) fun v0 =>
 gd ((u175 a0.2.2.2.2.2).isSome = true ∧ True) <| lt (vl (u175 a0.2.2.2.2.2)) fun v1 =>
 some (a0.1, a0.2.1, a0.2.2.1, a0.2.2.2.1, v0, v1)
def k163 : Ct := lct 163 [.agg y236] (fun x => u163 x.1) (fun r : Y89 => AV.agg [I r.1, I r.2.1, I r.2.2.1, I r.2.2.2.1, AV.ow 96 true y96 r.2.2.2.2.1, AV.ow 96 true y96 r.2.2.2.2.2]) (fun _ => ())
theorem o163 : Ok Tryz.prog k163 := by
 refine okl tok [.cell 2 89] Tryz.func163 Tryz.ntmps163 rfl Tryz.results163 (by kernel_rfl) rfl ?_
 intro y ⟨a0, _⟩ r H Q hn hr
 have hT := tc o175 tn
 refine qa tok hT [1, 2] (St.mk [p 1 (AV.ptr 1 0), p 2 (AV.ptr 2 0)] [(2, Ob.box 89 [I 0, I 0, I 0, I 0, AV.v (Value.slice none 0 0), AV.v (Value.slice none 0 0)]), (1, Ob.box 236 (cellsD false y236 a0))]) (by kernel_rfl) ?_
 refine qa tok hT [1, 2, 3] (St.mk [p 1 (AV.ptr 1 0), p 2 (AV.ptr 2 0), p 3 (AV.ptr 3 0)] [(3, Ob.box 89 [I 0, I 0, I 0, I 0, AV.v (Value.slice none 0 0), AV.v (Value.slice none 0 0)]), (2, Ob.box 89 [I 0, I 0, I 0, I 0, AV.v (Value.slice none 0 0), AV.v (Value.slice none 0 0)]), (1, Ob.box 236 (cellsD false y236 a0))]) (by kernel_rfl) ?_
 refine qa tok hT [1, 2, 3] (St.mk [p 1 (AV.ptr 1 0), p 2 (AV.ptr 2 0), p 3 (AV.ptr 3 0)] [(3, Ob.box 89 [J a0.1, I 0, I 0, I 0, AV.v (Value.slice none 0 0), AV.v (Value.slice none 0 0)]), (2, Ob.box 89 [I 0, I 0, I 0, I 0, AV.v (Value.slice none 0 0), AV.v (Value.slice none 0 0)]), (1, Ob.box 236 (cellsD false y236 a0))]) (by kernel_rfl) ?_
 refine qa tok hT [1, 2, 3] (St.mk [p 1 (AV.ptr 1 0), p 2 (AV.ptr 2 0), p 3 (AV.ptr 3 0)] [(3, Ob.box 89 [J a0.1, J a0.2.1, I 0, I 0, AV.v (Value.slice none 0 0), AV.v (Value.slice none 0 0)]), (2, Ob.box 89 [I 0, I 0, I 0, I 0, AV.v (Value.slice none 0 0), AV.v (Value.slice none 0 0)]), (1, Ob.box 236 (cellsD false y236 a0))]) (by kernel_rfl) ?_
 refine qa tok hT [1, 2, 3] (St.mk [p 1 (AV.ptr 1 0), p 2 (AV.ptr 2 0), p 3 (AV.ptr 3 0)] [(3, Ob.box 89 [J a0.1, J a0.2.1, J a0.2.2.1, I 0, AV.v (Value.slice none 0 0), AV.v (Value.slice none 0 0)]), (2, Ob.box 89 [I 0, I 0, I 0, I 0, AV.v (Value.slice none 0 0), AV.v (Value.slice none 0 0)]), (1, Ob.box 236 (cellsD false y236 a0))]) (by kernel_rfl) ?_
 refine qa tok hT [1, 2, 3] (St.mk [p 1 (AV.ptr 1 0), p 2 (AV.ptr 2 0), p 3 (AV.ptr 3 0)] [(3, Ob.box 89 [J a0.1, J a0.2.1, J a0.2.2.1, J a0.2.2.2.1, AV.v (Value.slice none 0 0), AV.v (Value.slice none 0 0)]), (2, Ob.box 89 [I 0, I 0, I 0, I 0, AV.v (Value.slice none 0 0), AV.v (Value.slice none 0 0)]), (1, Ob.box 236 (cellsD false y236 a0))]) (by kernel_rfl) ?_
 refine qd tok hT [1, 2, 3] (fun v0 => St.mk [p 1 (AV.ptr 1 0), p 2 (AV.ptr 2 0), p 3 (AV.ptr 3 0)] [(3, Ob.box 89 [J a0.1, J a0.2.1, J a0.2.2.1, J a0.2.2.2.1, AV.os 18 0, AV.v (Value.slice none 0 0)]), (18, Ob.arr 96 true y96 v0 0), (2, Ob.box 89 [I 0, I 0, I 0, I 0, AV.v (Value.slice none 0 0), AV.v (Value.slice none 0 0)]), (1, Ob.box 236 (cellsD false y236 a0))]) H (by kernel_rfl) fun v0 H => ?_
 refine qd tok hT [2, 3] (fun v1 => St.mk [p 2 (AV.ptr 2 0), p 3 (AV.ptr 3 0)] [(3, Ob.box 89 [J a0.1, J a0.2.1, J a0.2.2.1, J a0.2.2.2.1, AV.os 18 0, AV.os 22 0]), (22, Ob.arr 96 true y96 v1 0), (18, Ob.arr 96 true y96 v0 0), (2, Ob.box 89 [I 0, I 0, I 0, I 0, AV.v (Value.slice none 0 0), AV.v (Value.slice none 0 0)]), (1, Ob.box 236 (cellsD false y236 a0))]) H (by kernel_rfl) fun v1 H => ?_
 refine qa tok hT [2] (St.mk [p 2 (AV.ptr 2 0)] [(2, Ob.box 89 [J a0.1, J a0.2.1, J a0.2.2.1, J a0.2.2.2.1, AV.os 18 0, AV.os 22 0]), (3, Ob.box 89 [J a0.1, J a0.2.1, J a0.2.2.1, J a0.2.2.2.1, AV.os 18 0, AV.os 22 0]), (22, Ob.arr 96 true y96 v1 0), (18, Ob.arr 96 true y96 v0 0), (1, Ob.box 236 (cellsD false y236 a0))]) (by kernel_rfl) ?_
 exact vx_ret <| hr H (by kernel_rfl)
def k163d : Ct := lct 163 [.agg y236] (fun x => u163 x.1) (fun r => frz ((fun r : Y89 => AV.agg [I r.1, I r.2.1, I r.2.2.1, I r.2.2.2.1, AV.ow 96 true y96 r.2.2.2.2.1, AV.ow 96 true y96 r.2.2.2.2.2]) r)) (fun _ => ())
theorem o163d : Ok Tryz.prog k163d := ok_frz o163
def u144J0 : List Y89 → Option (List Y89)
 | v5 =>
 some v5
def u144L1 (a0 : List Y236) (g1 : Int × List Y89 → Option (List Y89)) : Int × List Y89 → Option (List Y89)
 | (v2, v3) =>
 if (decide (v2 < (↑a0.length : Int))) = true then
  gd (ix v2 a0.length ∧ (u163 (a0.getD v2.toNat (dflt y236))).isSome = true ∧ ix v2 v3.length ∧ v2.toNat < v3.length ∧ True) <| lt (vl (u163 (a0.getD v2.toNat (dflt y236)))) fun v4 =>
  gd (in64 (v2 + 1) ∧ True) <| 
  g1 (v2 + 1, v3.set v2.toNat v4)
 else
  u144J0 v3
def u144 (a0 : List Y236) : Option (List Y89) :=
 gd ((0 ≤ (↑a0.length : Int) ∧ (↑a0.length : Int) = (↑a0.length : Int) ∧ (↑a0.length : Int).toNat * 80 ≤ 281474976710656 ∧ (↑a0.length : Int) ≤ 9223372036854775807) ∧ True) <| lt (List.replicate (↑a0.length : Int).toNat ((0 : Int), (0 : Int), (0 : Int), (0 : Int), [], [])) fun v0 =>
 lp (u144L1 a0) (0, v0)
def k144 : Ct := lct 144 [.dat y236.sl] (fun x => u144 x.1) (fun r : List Y89 => AV.ow 89 true y89 r) (fun _ => ())
theorem o144 : Ok Tryz.prog k144 := by
 refine okl tok [.tmp 2] Tryz.func144 Tryz.ntmps144 rfl Tryz.results144 (by kernel_rfl) rfl ?_
 intro y ⟨a0, _⟩ r H Q hn hr
 have hT := tc o163d tn
 refine qa tok hT [0] (St.mk [p 0 (L y236 a0)] []) (by kernel_rfl) ?_
 refine qd tok hT [0, 3] (fun v0 => St.mk [p 0 (L y236 a0), p 3 (AV.os 7 0)] [(7, Ob.arr 89 true y89 v0 0)]) H (by kernel_rfl) fun v0 H => ?_
 refine jn r (fun (v5 : List Y89) => St.mk [p 3 (AV.os 7 0)] [(7, Ob.arr 89 true y89 v5 0)]) (u144J0) (fun v5 H => ?_) (fun _ n0 e0 t0 => ?_)
 ·refine qa tok hT [2] (St.mk [p 2 (AV.os 7 0)] [(7, Ob.arr 89 true y89 v5 0)]) (by kernel_rfl) ?_
  exact vx_ret <| hr H (by kernel_rfl)
 refine qa tok hT [0, 3, 4] (St.mk [p 0 (L y236 a0), p 3 (AV.os 7 0), p 4 (I 0)] [(7, Ob.arr 89 true y89 v0 0)]) (by kernel_rfl) ?_
 refine vx_block <| ?_
 refine lx (fun ((v2, v3) : Int × List Y89) => St.mk [p 0 (L y236 a0), p 3 (AV.os 7 0), p 4 (I v2)] [(7, Ob.arr 89 true y89 v3 0)]) (0, v0) H (by kernel_rfl) fun _ g1 b1 e1 t1 ⟨v2, v3⟩ H => ?_
 refine vx_seq <| ?_
 refine qa tok hT [0, 3, 4, 11] (St.mk [p 0 (L y236 a0), p 3 (AV.os 7 0), p 4 (I v2), p 11 (B (decide (v2 < (↑a0.length : Int))))] [(7, Ob.arr 89 true y89 v3 0)]) (by kernel_rfl) ?_
 refine cd H (by kernel_rfl) (fun H => ?_) (fun H => ?_)
 ·refine vx_skip <| fx_seq <| vx_seq <| vx_block <| ?_
  refine zd tok hT [0, 3, 4] (fun v4 => St.mk [p 0 (L y236 a0), p 3 (AV.os 7 0), p 4 (I v2)] [(7, Ob.arr 89 true y89 (v3.set v2.toNat v4) 0)]) H (by kernel_rfl) fun v4 H => ?_
  refine fx_blk <| fx_seq <| ?_
  refine zb tok hT [0, 3, 4] (St.mk [p 0 (L y236 a0), p 3 (AV.os 7 0), p 4 (I (v2 + 1))] [(7, Ob.arr 89 true y89 (v3.set v2.toNat v4) 0)]) H (by kernel_rfl) fun H => ?_
  exact b1 H (by kernel_rfl)
 exact vx_exit <| fx_seq_exit <| e1 <| fx_blk_exit rfl <| n0 H (by kernel_rfl)
def u162 (a0 : Y232) : Option (Y212) :=
 some a0
def k162 : Ct := lct 162 [.agg y232] (fun x => u162 x.1) (fun r : Y212 => AV.agg [S r.1, I r.2.1, I r.2.2.1, B r.2.2.2]) (fun _ => ())
theorem o162 : Ok Tryz.prog k162 := by
 refine okl tok [.cell 2 212] Tryz.func162 Tryz.ntmps162 rfl Tryz.results162 (by kernel_rfl) rfl ?_
 intro y ⟨a0, _⟩ r H Q hn hr
 have hT := @tn Tryz.prog
 refine qa tok hT [1, 2] (St.mk [p 1 (AV.ptr 1 0), p 2 (AV.ptr 2 0)] [(2, Ob.box 212 [S (ByteArray.mk #[]), I 0, I 0, B false]), (1, Ob.box 232 (cellsD false y232 a0))]) (by kernel_rfl) ?_
 refine qa tok hT [1, 2, 3] (St.mk [p 1 (AV.ptr 1 0), p 2 (AV.ptr 2 0), p 3 (AV.ptr 3 0)] [(3, Ob.box 212 [S (ByteArray.mk #[]), I 0, I 0, B false]), (2, Ob.box 212 [S (ByteArray.mk #[]), I 0, I 0, B false]), (1, Ob.box 232 (cellsD false y232 a0))]) (by kernel_rfl) ?_
 refine qa tok hT [1, 2, 3] (St.mk [p 1 (AV.ptr 1 0), p 2 (AV.ptr 2 0), p 3 (AV.ptr 3 0)] [(3, Ob.box 212 [U a0.1, I 0, I 0, B false]), (2, Ob.box 212 [S (ByteArray.mk #[]), I 0, I 0, B false]), (1, Ob.box 232 (cellsD false y232 a0))]) (by kernel_rfl) ?_
 refine qa tok hT [1, 2, 3] (St.mk [p 1 (AV.ptr 1 0), p 2 (AV.ptr 2 0), p 3 (AV.ptr 3 0)] [(3, Ob.box 212 [U a0.1, J a0.2.1, I 0, B false]), (2, Ob.box 212 [S (ByteArray.mk #[]), I 0, I 0, B false]), (1, Ob.box 232 (cellsD false y232 a0))]) (by kernel_rfl) ?_
 refine qa tok hT [1, 2, 3] (St.mk [p 1 (AV.ptr 1 0), p 2 (AV.ptr 2 0), p 3 (AV.ptr 3 0)] [(3, Ob.box 212 [U a0.1, J a0.2.1, J a0.2.2.1, B false]), (2, Ob.box 212 [S (ByteArray.mk #[]), I 0, I 0, B false]), (1, Ob.box 232 (cellsD false y232 a0))]) (by kernel_rfl) ?_
 refine qa tok hT [2, 3] (St.mk [p 2 (AV.ptr 2 0), p 3 (AV.ptr 3 0)] [(3, Ob.box 212 (cellsD false y212 a0)), (2, Ob.box 212 [S (ByteArray.mk #[]), I 0, I 0, B false]), (1, Ob.box 232 (cellsD false y232 a0))]) (by kernel_rfl) ?_
 refine qa tok hT [2] (St.mk [p 2 (AV.ptr 2 0)] [(2, Ob.box 212 (cellsD false y212 a0)), (3, Ob.box 212 (cellsD false y212 a0)), (1, Ob.box 232 (cellsD false y232 a0))]) (by kernel_rfl) ?_
 exact vx_ret <| hr H (by kernel_rfl)
def u143J0 : List Y212 → Option (List Y212)
 | v5 =>
 some v5
def u143L1 (a0 : List Y232) (g1 : Int × List Y212 → Option (List Y212)) : Int × List Y212 → Option (List Y212)
 | (v2, v3) =>
 if (decide (v2 < (↑a0.length : Int))) = true then
  gd (ix v2 a0.length ∧ (u162 (a0.getD v2.toNat (dflt y232))).isSome = true ∧ ix v2 v3.length ∧ v2.toNat < v3.length ∧ True) <| lt (vl (u162 (a0.getD v2.toNat (dflt y232)))) fun v4 =>
  gd (in64 (v2 + 1) ∧ True) <| 
  g1 (v2 + 1, v3.set v2.toNat v4)
 else
  u143J0 v3
def u143 (a0 : List Y232) : Option (List Y212) :=
 gd ((0 ≤ (↑a0.length : Int) ∧ (↑a0.length : Int) = (↑a0.length : Int) ∧ (↑a0.length : Int).toNat * 40 ≤ 281474976710656 ∧ (↑a0.length : Int) ≤ 9223372036854775807) ∧ True) <| lt (List.replicate (↑a0.length : Int).toNat (ByteArray.mk #[], (0 : Int), (0 : Int), false)) fun v0 =>
 lp (u143L1 a0) (0, v0)
def k143 : Ct := lct 143 [.dat y232.sl] (fun x => u143 x.1) (fun r : List Y212 => AV.ow 212 true y212 r) (fun _ => ())
theorem o143 : Ok Tryz.prog k143 := by
 refine okl tok [.tmp 2] Tryz.func143 Tryz.ntmps143 rfl Tryz.results143 (by kernel_rfl) rfl ?_
 intro y ⟨a0, _⟩ r H Q hn hr
 have hT := tc o162 tn
 refine qa tok hT [0] (St.mk [p 0 (L y232 a0)] []) (by kernel_rfl) ?_
 refine qd tok hT [0, 3] (fun v0 => St.mk [p 0 (L y232 a0), p 3 (AV.os 7 0)] [(7, Ob.arr 212 true y212 v0 0)]) H (by kernel_rfl) fun v0 H => ?_
 refine jn r (fun (v5 : List Y212) => St.mk [p 3 (AV.os 7 0)] [(7, Ob.arr 212 true y212 v5 0)]) (u143J0) (fun v5 H => ?_) (fun _ n0 e0 t0 => ?_)
 ·refine qa tok hT [2] (St.mk [p 2 (AV.os 7 0)] [(7, Ob.arr 212 true y212 v5 0)]) (by kernel_rfl) ?_
  exact vx_ret <| hr H (by kernel_rfl)
 refine qa tok hT [0, 3, 4] (St.mk [p 0 (L y232 a0), p 3 (AV.os 7 0), p 4 (I 0)] [(7, Ob.arr 212 true y212 v0 0)]) (by kernel_rfl) ?_
 refine vx_block <| ?_
 refine lx (fun ((v2, v3) : Int × List Y212) => St.mk [p 0 (L y232 a0), p 3 (AV.os 7 0), p 4 (I v2)] [(7, Ob.arr 212 true y212 v3 0)]) (0, v0) H (by kernel_rfl) fun _ g1 b1 e1 t1 ⟨v2, v3⟩ H => ?_
 refine vx_seq <| ?_
 refine qa tok hT [0, 3, 4, 11] (St.mk [p 0 (L y232 a0), p 3 (AV.os 7 0), p 4 (I v2), p 11 (B (decide (v2 < (↑a0.length : Int))))] [(7, Ob.arr 212 true y212 v3 0)]) (by kernel_rfl) ?_
 refine cd H (by kernel_rfl) (fun H => ?_) (fun H => ?_)
 ·refine vx_skip <| fx_seq <| vx_seq <| vx_block <| ?_
  refine zd tok hT [0, 3, 4] (fun v4 => St.mk [p 0 (L y232 a0), p 3 (AV.os 7 0), p 4 (I v2)] [(7, Ob.arr 212 true y212 (v3.set v2.toNat v4) 0)]) H (by kernel_rfl) fun v4 H => ?_
  refine fx_blk <| fx_seq <| ?_
  refine zb tok hT [0, 3, 4] (St.mk [p 0 (L y232 a0), p 3 (AV.os 7 0), p 4 (I (v2 + 1))] [(7, Ob.arr 212 true y212 (v3.set v2.toNat v4) 0)]) H (by kernel_rfl) fun H => ?_
  exact b1 H (by kernel_rfl)
 exact vx_exit <| fx_seq_exit <| e1 <| fx_blk_exit rfl <| n0 H (by kernel_rfl)
def u116 (a0 : Y187) : Option (Y152) :=
 gd ((u143 a0.2.2.1).isSome = true ∧ True) <| lt (vl (u143 a0.2.2.1)) fun v0 =>
 gd ((u144 a0.2.2.2.1).isSome = true ∧ True) <| lt (vl (u144 a0.2.2.2.1)) fun v1 =>
 gd ((u119 a0.2.2.2.2.1).isSome = true ∧ True) <| lt (vl (u119 a0.2.2.2.2.1)) fun v2 =>
 some (a0.1, a0.2.1, v0, v1, v2, a0.2.2.2.2.2)
def k116 : Ct := lct 116 [.agg y187] (fun x => u116 x.1) (fun r : Y152 => AV.agg [S r.1, I r.2.1, AV.ow 212 true y212 r.2.2.1, AV.ow 89 true y89 r.2.2.2.1, AV.ow 2 true i64 r.2.2.2.2.1, I r.2.2.2.2.2.1, I r.2.2.2.2.2.2]) (fun _ => ())
theorem o116 : Ok Tryz.prog k116 := by
 refine okl tok [.cell 2 152] Tryz.func116 Tryz.ntmps116 rfl Tryz.results116 (by kernel_rfl) rfl ?_
 intro y ⟨a0, _⟩ r H Q hn hr
 have hT := tc o119 (tc o144 (tc o143 tn))
 refine qa tok hT [1, 2] (St.mk [p 1 (AV.ptr 1 0), p 2 (AV.ptr 2 0)] [(2, Ob.box 152 [S (ByteArray.mk #[]), I 0, AV.v (Value.slice none 0 0), AV.v (Value.slice none 0 0), AV.v (Value.slice none 0 0), I 0, I 0]), (1, Ob.box 187 (cellsD false y187 a0))]) (by kernel_rfl) ?_
 refine qa tok hT [1, 2, 3] (St.mk [p 1 (AV.ptr 1 0), p 2 (AV.ptr 2 0), p 3 (AV.ptr 3 0)] [(3, Ob.box 152 [S (ByteArray.mk #[]), I 0, AV.v (Value.slice none 0 0), AV.v (Value.slice none 0 0), AV.v (Value.slice none 0 0), I 0, I 0]), (2, Ob.box 152 [S (ByteArray.mk #[]), I 0, AV.v (Value.slice none 0 0), AV.v (Value.slice none 0 0), AV.v (Value.slice none 0 0), I 0, I 0]), (1, Ob.box 187 (cellsD false y187 a0))]) (by kernel_rfl) ?_
 refine qa tok hT [1, 2, 3] (St.mk [p 1 (AV.ptr 1 0), p 2 (AV.ptr 2 0), p 3 (AV.ptr 3 0)] [(3, Ob.box 152 [U a0.1, I 0, AV.v (Value.slice none 0 0), AV.v (Value.slice none 0 0), AV.v (Value.slice none 0 0), I 0, I 0]), (2, Ob.box 152 [S (ByteArray.mk #[]), I 0, AV.v (Value.slice none 0 0), AV.v (Value.slice none 0 0), AV.v (Value.slice none 0 0), I 0, I 0]), (1, Ob.box 187 (cellsD false y187 a0))]) (by kernel_rfl) ?_
 refine qa tok hT [1, 2, 3] (St.mk [p 1 (AV.ptr 1 0), p 2 (AV.ptr 2 0), p 3 (AV.ptr 3 0)] [(3, Ob.box 152 [U a0.1, J a0.2.1, AV.v (Value.slice none 0 0), AV.v (Value.slice none 0 0), AV.v (Value.slice none 0 0), I 0, I 0]), (2, Ob.box 152 [S (ByteArray.mk #[]), I 0, AV.v (Value.slice none 0 0), AV.v (Value.slice none 0 0), AV.v (Value.slice none 0 0), I 0, I 0]), (1, Ob.box 187 (cellsD false y187 a0))]) (by kernel_rfl) ?_
 refine qd tok hT [1, 2, 3] (fun v0 => St.mk [p 1 (AV.ptr 1 0), p 2 (AV.ptr 2 0), p 3 (AV.ptr 3 0)] [(3, Ob.box 152 [U a0.1, J a0.2.1, AV.os 12 0, AV.v (Value.slice none 0 0), AV.v (Value.slice none 0 0), I 0, I 0]), (12, Ob.arr 212 true y212 v0 0), (2, Ob.box 152 [S (ByteArray.mk #[]), I 0, AV.v (Value.slice none 0 0), AV.v (Value.slice none 0 0), AV.v (Value.slice none 0 0), I 0, I 0]), (1, Ob.box 187 (cellsD false y187 a0))]) H (by kernel_rfl) fun v0 H => ?_
 refine qd tok hT [1, 2, 3] (fun v1 => St.mk [p 1 (AV.ptr 1 0), p 2 (AV.ptr 2 0), p 3 (AV.ptr 3 0)] [(3, Ob.box 152 [U a0.1, J a0.2.1, AV.os 12 0, AV.os 16 0, AV.v (Value.slice none 0 0), I 0, I 0]), (16, Ob.arr 89 true y89 v1 0), (12, Ob.arr 212 true y212 v0 0), (2, Ob.box 152 [S (ByteArray.mk #[]), I 0, AV.v (Value.slice none 0 0), AV.v (Value.slice none 0 0), AV.v (Value.slice none 0 0), I 0, I 0]), (1, Ob.box 187 (cellsD false y187 a0))]) H (by kernel_rfl) fun v1 H => ?_
 refine qd tok hT [1, 2, 3] (fun v2 => St.mk [p 1 (AV.ptr 1 0), p 2 (AV.ptr 2 0), p 3 (AV.ptr 3 0)] [(3, Ob.box 152 [U a0.1, J a0.2.1, AV.os 12 0, AV.os 16 0, AV.os 20 0, I 0, I 0]), (20, Ob.arr 2 true i64 v2 0), (16, Ob.arr 89 true y89 v1 0), (12, Ob.arr 212 true y212 v0 0), (2, Ob.box 152 [S (ByteArray.mk #[]), I 0, AV.v (Value.slice none 0 0), AV.v (Value.slice none 0 0), AV.v (Value.slice none 0 0), I 0, I 0]), (1, Ob.box 187 (cellsD false y187 a0))]) H (by kernel_rfl) fun v2 H => ?_
 refine qa tok hT [1, 2, 3] (St.mk [p 1 (AV.ptr 1 0), p 2 (AV.ptr 2 0), p 3 (AV.ptr 3 0)] [(3, Ob.box 152 [U a0.1, J a0.2.1, AV.os 12 0, AV.os 16 0, AV.os 20 0, J a0.2.2.2.2.2.1, I 0]), (20, Ob.arr 2 true i64 v2 0), (16, Ob.arr 89 true y89 v1 0), (12, Ob.arr 212 true y212 v0 0), (2, Ob.box 152 [S (ByteArray.mk #[]), I 0, AV.v (Value.slice none 0 0), AV.v (Value.slice none 0 0), AV.v (Value.slice none 0 0), I 0, I 0]), (1, Ob.box 187 (cellsD false y187 a0))]) (by kernel_rfl) ?_
 refine qa tok hT [2, 3] (St.mk [p 2 (AV.ptr 2 0), p 3 (AV.ptr 3 0)] [(3, Ob.box 152 [U a0.1, J a0.2.1, AV.os 12 0, AV.os 16 0, AV.os 20 0, J a0.2.2.2.2.2.1, J a0.2.2.2.2.2.2]), (20, Ob.arr 2 true i64 v2 0), (16, Ob.arr 89 true y89 v1 0), (12, Ob.arr 212 true y212 v0 0), (2, Ob.box 152 [S (ByteArray.mk #[]), I 0, AV.v (Value.slice none 0 0), AV.v (Value.slice none 0 0), AV.v (Value.slice none 0 0), I 0, I 0]), (1, Ob.box 187 (cellsD false y187 a0))]) (by kernel_rfl) ?_
 refine qa tok hT [2] (St.mk [p 2 (AV.ptr 2 0)] [(2, Ob.box 152 [U a0.1, J a0.2.1, AV.os 12 0, AV.os 16 0, AV.os 20 0, J a0.2.2.2.2.2.1, J a0.2.2.2.2.2.2]), (3, Ob.box 152 [U a0.1, J a0.2.1, AV.os 12 0, AV.os 16 0, AV.os 20 0, J a0.2.2.2.2.2.1, J a0.2.2.2.2.2.2]), (20, Ob.arr 2 true i64 v2 0), (16, Ob.arr 89 true y89 v1 0), (12, Ob.arr 212 true y212 v0 0), (1, Ob.box 187 (cellsD false y187 a0))]) (by kernel_rfl) ?_
 exact vx_ret <| hr H (by kernel_rfl)
def k116d : Ct := lct 116 [.agg y187] (fun x => u116 x.1) (fun r => frz ((fun r : Y152 => AV.agg [S r.1, I r.2.1, AV.ow 212 true y212 r.2.2.1, AV.ow 89 true y89 r.2.2.2.1, AV.ow 2 true i64 r.2.2.2.2.1, I r.2.2.2.2.2.1, I r.2.2.2.2.2.2]) r)) (fun _ => ())
theorem o116d : Ok Tryz.prog k116d := ok_frz o116
def u73J0 : List Y152 → Option (List Y152)
 | v5 =>
 some v5
def u73L1 (a0 : List Y187) (g1 : Int × List Y152 → Option (List Y152)) : Int × List Y152 → Option (List Y152)
 | (v2, v3) =>
 if (decide (v2 < (↑a0.length : Int))) = true then
  gd (ix v2 a0.length ∧ (u116 (a0.getD v2.toNat (dflt y187))).isSome = true ∧ ix v2 v3.length ∧ v2.toNat < v3.length ∧ True) <| lt (vl (u116 (a0.getD v2.toNat (dflt y187)))) fun v4 =>
  gd (in64 (v2 + 1) ∧ True) <| 
  g1 (v2 + 1, v3.set v2.toNat v4)
 else
  u73J0 v3
def u73 (a0 : List Y187) : Option (List Y152) :=
 gd ((0 ≤ (↑a0.length : Int) ∧ (↑a0.length : Int) = (↑a0.length : Int) ∧ (↑a0.length : Int).toNat * 112 ≤ 281474976710656 ∧ (↑a0.length : Int) ≤ 9223372036854775807) ∧ True) <| lt (List.replicate (↑a0.length : Int).toNat (ByteArray.mk #[], (0 : Int), [], [], [], (0 : Int), (0 : Int))) fun v0 =>
 lp (u73L1 a0) (0, v0)
def k73 : Ct := lct 73 [.dat y187.sl] (fun x => u73 x.1) (fun r : List Y152 => AV.ow 152 true y152 r) (fun _ => ())
theorem o73 : Ok Tryz.prog k73 := by
 refine okl tok [.tmp 2] Tryz.func73 Tryz.ntmps73 rfl Tryz.results73 (by kernel_rfl) rfl ?_
 intro y ⟨a0, _⟩ r H Q hn hr
 have hT := tc o116d tn
 refine qa tok hT [0] (St.mk [p 0 (L y187 a0)] []) (by kernel_rfl) ?_
 refine qd tok hT [0, 3] (fun v0 => St.mk [p 0 (L y187 a0), p 3 (AV.os 7 0)] [(7, Ob.arr 152 true y152 v0 0)]) H (by kernel_rfl) fun v0 H => ?_
 refine jn r (fun (v5 : List Y152) => St.mk [p 3 (AV.os 7 0)] [(7, Ob.arr 152 true y152 v5 0)]) (u73J0) (fun v5 H => ?_) (fun _ n0 e0 t0 => ?_)
 ·refine qa tok hT [2] (St.mk [p 2 (AV.os 7 0)] [(7, Ob.arr 152 true y152 v5 0)]) (by kernel_rfl) ?_
  exact vx_ret <| hr H (by kernel_rfl)
 refine qa tok hT [0, 3, 4] (St.mk [p 0 (L y187 a0), p 3 (AV.os 7 0), p 4 (I 0)] [(7, Ob.arr 152 true y152 v0 0)]) (by kernel_rfl) ?_
 refine vx_block <| ?_
 refine lx (fun ((v2, v3) : Int × List Y152) => St.mk [p 0 (L y187 a0), p 3 (AV.os 7 0), p 4 (I v2)] [(7, Ob.arr 152 true y152 v3 0)]) (0, v0) H (by kernel_rfl) fun _ g1 b1 e1 t1 ⟨v2, v3⟩ H => ?_
 refine vx_seq <| ?_
 refine qa tok hT [0, 3, 4, 11] (St.mk [p 0 (L y187 a0), p 3 (AV.os 7 0), p 4 (I v2), p 11 (B (decide (v2 < (↑a0.length : Int))))] [(7, Ob.arr 152 true y152 v3 0)]) (by kernel_rfl) ?_
 refine cd H (by kernel_rfl) (fun H => ?_) (fun H => ?_)
 ·refine vx_skip <| fx_seq <| vx_seq <| vx_block <| ?_
  refine zd tok hT [0, 3, 4] (fun v4 => St.mk [p 0 (L y187 a0), p 3 (AV.os 7 0), p 4 (I v2)] [(7, Ob.arr 152 true y152 (v3.set v2.toNat v4) 0)]) H (by kernel_rfl) fun v4 H => ?_
  refine fx_blk <| fx_seq <| ?_
  refine zb tok hT [0, 3, 4] (St.mk [p 0 (L y187 a0), p 3 (AV.os 7 0), p 4 (I (v2 + 1))] [(7, Ob.arr 152 true y152 (v3.set v2.toNat v4) 0)]) H (by kernel_rfl) fun H => ?_
  exact b1 H (by kernel_rfl)
 exact vx_exit <| fx_seq_exit <| e1 <| fx_blk_exit rfl <| n0 H (by kernel_rfl)
def u32 (a0 : List Y187) : Option (List Y152) :=
 gd ((u73 a0).isSome = true ∧ True) <| lt (vl (u73 a0)) fun v0 =>
 some v0
def k32 : Ct := lct 32 [.agg y187.sl] (fun x => u32 x.1) (fun r : List Y152 => AV.agg [AV.ow 152 true y152 r]) (fun _ => ())
theorem o32 : Ok Tryz.prog k32 := by
 refine okl tok [.cell 2 37] Tryz.func32 Tryz.ntmps32 rfl Tryz.results32 (by kernel_rfl) rfl ?_
 intro y ⟨a0, _⟩ r H Q hn hr
 have hT := tc o73 tn
 refine qa tok hT [1, 2] (St.mk [p 1 (AV.ptr 1 0), p 2 (AV.ptr 2 0)] [(2, Ob.box 37 [AV.v (Value.slice none 0 0)]), (1, Ob.box 24 [L y187 a0])]) (by kernel_rfl) ?_
 refine qa tok hT [1, 2, 3] (St.mk [p 1 (AV.ptr 1 0), p 2 (AV.ptr 2 0), p 3 (AV.ptr 3 0)] [(3, Ob.box 37 [AV.v (Value.slice none 0 0)]), (2, Ob.box 37 [AV.v (Value.slice none 0 0)]), (1, Ob.box 24 [L y187 a0])]) (by kernel_rfl) ?_
 refine qd tok hT [2, 3] (fun v0 => St.mk [p 2 (AV.ptr 2 0), p 3 (AV.ptr 3 0)] [(3, Ob.box 37 [AV.os 6 0]), (6, Ob.arr 152 true y152 v0 0), (2, Ob.box 37 [AV.v (Value.slice none 0 0)]), (1, Ob.box 24 [L y187 a0])]) H (by kernel_rfl) fun v0 H => ?_
 refine qa tok hT [2] (St.mk [p 2 (AV.ptr 2 0)] [(2, Ob.box 37 [AV.os 6 0]), (3, Ob.box 37 [AV.os 6 0]), (6, Ob.arr 152 true y152 v0 0), (1, Ob.box 24 [L y187 a0])]) (by kernel_rfl) ?_
 exact vx_ret <| hr H (by kernel_rfl)
def u10 (a0 : Y32) : Option (Y44) :=
 gd ((u32 a0.1).isSome = true ∧ True) <| lt (vl (u32 a0.1)) fun v0 =>
 gd ((u33 a0.2.1).isSome = true ∧ True) <| lt (vl (u33 a0.2.1)) fun v1 =>
 gd ((u34 a0.2.2).isSome = true ∧ True) <| lt (vl (u34 a0.2.2)) fun v2 =>
 some (v0, v1, v2)
def k10 : Ct := lct 10 [.agg y32] (fun x => u10 x.1) (fun r : Y44 => AV.agg [AV.ow 152 true y152 r.1, AV.ow 141 true y141 r.2.1.1, AV.ow 9 true Ty.str r.2.1.2.1, AV.ow 143 true y143 r.2.1.2.2, AV.ow 131 true y131 r.2.2]) (fun _ => ())
theorem o10 : Ok Tryz.prog k10 := by
 refine okl tok [.cell 2 44] Tryz.func10 Tryz.ntmps10 rfl Tryz.results10 (by kernel_rfl) rfl ?_
 intro y ⟨a0, _⟩ r H Q hn hr
 have hT := tc o34 (tc o33 (tc o32 tn))
 refine qa tok hT [1, 2] (St.mk [p 1 (AV.ptr 1 0), p 2 (AV.ptr 2 0)] [(2, Ob.box 44 [AV.v (Value.slice none 0 0), AV.v (Value.slice none 0 0), AV.v (Value.slice none 0 0), AV.v (Value.slice none 0 0), AV.v (Value.slice none 0 0)]), (1, Ob.box 32 (cellsD false y32 a0))]) (by kernel_rfl) ?_
 refine qa tok hT [1, 2, 3] (St.mk [p 1 (AV.ptr 1 0), p 2 (AV.ptr 2 0), p 3 (AV.ptr 3 0)] [(3, Ob.box 44 [AV.v (Value.slice none 0 0), AV.v (Value.slice none 0 0), AV.v (Value.slice none 0 0), AV.v (Value.slice none 0 0), AV.v (Value.slice none 0 0)]), (2, Ob.box 44 [AV.v (Value.slice none 0 0), AV.v (Value.slice none 0 0), AV.v (Value.slice none 0 0), AV.v (Value.slice none 0 0), AV.v (Value.slice none 0 0)]), (1, Ob.box 32 (cellsD false y32 a0))]) (by kernel_rfl) ?_
 refine qd tok hT [1, 2, 3] (fun v0 => St.mk [p 1 (AV.ptr 1 0), p 2 (AV.ptr 2 0), p 3 (AV.ptr 3 0)] [(3, Ob.box 44 [AV.os 6 0, AV.v (Value.slice none 0 0), AV.v (Value.slice none 0 0), AV.v (Value.slice none 0 0), AV.v (Value.slice none 0 0)]), (6, Ob.arr 152 true y152 v0 0), (2, Ob.box 44 [AV.v (Value.slice none 0 0), AV.v (Value.slice none 0 0), AV.v (Value.slice none 0 0), AV.v (Value.slice none 0 0), AV.v (Value.slice none 0 0)]), (1, Ob.box 32 (cellsD false y32 a0))]) H (by kernel_rfl) fun v0 H => ?_
 refine qd tok hT [1, 2, 3] (fun v1 => St.mk [p 1 (AV.ptr 1 0), p 2 (AV.ptr 2 0), p 3 (AV.ptr 3 0)] [(3, Ob.box 44 [AV.os 6 0, AV.os 10 0, AV.os 1010 0, AV.os 2010 0, AV.v (Value.slice none 0 0)]), (2010, Ob.arr 143 true y143 v1.2.2 0), (1010, Ob.arr 9 true Ty.str v1.2.1 0), (10, Ob.arr 141 true y141 v1.1 0), (6, Ob.arr 152 true y152 v0 0), (2, Ob.box 44 [AV.v (Value.slice none 0 0), AV.v (Value.slice none 0 0), AV.v (Value.slice none 0 0), AV.v (Value.slice none 0 0), AV.v (Value.slice none 0 0)]), (1, Ob.box 32 (cellsD false y32 a0))]) H (by kernel_rfl) fun v1 H => ?_
 refine qd tok hT [2, 3] (fun v2 => St.mk [p 2 (AV.ptr 2 0), p 3 (AV.ptr 3 0)] [(3, Ob.box 44 [AV.os 6 0, AV.os 10 0, AV.os 1010 0, AV.os 2010 0, AV.os 14 0]), (14, Ob.arr 131 true y131 v2 0), (2010, Ob.arr 143 true y143 v1.2.2 0), (1010, Ob.arr 9 true Ty.str v1.2.1 0), (10, Ob.arr 141 true y141 v1.1 0), (6, Ob.arr 152 true y152 v0 0), (2, Ob.box 44 [AV.v (Value.slice none 0 0), AV.v (Value.slice none 0 0), AV.v (Value.slice none 0 0), AV.v (Value.slice none 0 0), AV.v (Value.slice none 0 0)]), (1, Ob.box 32 (cellsD false y32 a0))]) H (by kernel_rfl) fun v2 H => ?_
 refine qa tok hT [2] (St.mk [p 2 (AV.ptr 2 0)] [(2, Ob.box 44 [AV.os 6 0, AV.os 10 0, AV.os 1010 0, AV.os 2010 0, AV.os 14 0]), (3, Ob.box 44 [AV.os 6 0, AV.os 10 0, AV.os 1010 0, AV.os 2010 0, AV.os 14 0]), (14, Ob.arr 131 true y131 v2 0), (2010, Ob.arr 143 true y143 v1.2.2 0), (1010, Ob.arr 9 true Ty.str v1.2.1 0), (10, Ob.arr 141 true y141 v1.1 0), (6, Ob.arr 152 true y152 v0 0), (1, Ob.box 32 (cellsD false y32 a0))]) (by kernel_rfl) ?_
 exact vx_ret <| hr H (by kernel_rfl)
def u36 (a0 : List Y81) : Option (Int) :=
 some (↑a0.length : Int)
def k36 : Ct := lct 36 [.dat y81.sl] (fun x => u36 x.1) (fun r : Int => I r) (fun _ => ())
theorem o36 : Ok Tryz.prog k36 := by
 refine okl tok [.tmp 2] Tryz.func36 Tryz.ntmps36 rfl Tryz.results36 (by kernel_rfl) rfl ?_
 intro y ⟨a0, _⟩ r H Q hn hr
 have hT := @tn Tryz.prog
 refine qa tok hT [0] (St.mk [p 0 (L y81 a0)] []) (by kernel_rfl) ?_
 refine qa tok hT [2] (St.mk [p 2 (I (↑a0.length : Int))] []) (by kernel_rfl) ?_
 exact vx_ret <| hr H (by kernel_rfl)
def u37J4 : List Y81 → Option (List Y81)
 | v24 =>
 some v24
def u37L5 (a0 : Y41) (g5 : Int × List Y81 → Option (List Y81)) : Int × List Y81 → Option (List Y81)
 | (v21, v22) =>
 if (decide (v21 < (↑a0.2.2.length : Int))) = true then
  gd (ix v21 a0.2.2.length ∧ True) <| lt (a0.2.2.getD v21.toNat (dflt y143)) fun v23 =>
  gd ((v22.length + [(-1, v21, v23.2.2, v23.2.1 == 1)].length ≤ 9223372036854775807 ∧ (v22.length + [(-1, v21, v23.2.2, v23.2.1 == 1)].length) * 32 ≤ 140737488355328) ∧ True) <| 
  gd (in64 (v21 + 1) ∧ True) <| 
  g5 ((v21 + 1, v22 ++ [(-1, v21, v23.2.2, v23.2.1 == 1)]))
 else
  u37J4 v22
def u37J0 (a0 : Y41) : List Y81 → Option (List Y81)
 | v17 =>
 lp (u37L5 a0) (0, v17)
def u37J2 (v8 : Int) (g1 : List Y81 × Int → Option (List Y81)) : List Y81 → Option (List Y81)
 | v16 =>
 gd (in64 (v8 + 1) ∧ True) <| 
 g1 (v16, v8 + 1)
def u37L3 (v8 : Int) (v9 : Y141) (g1 : List Y81 × Int → Option (List Y81)) (g3 : Int × List Y81 → Option (List Y81)) : Int × List Y81 → Option (List Y81)
 | (v12, v13) =>
 if (decide (v12 < (↑v9.2.2.length : Int))) = true then
  gd (ix v12 v9.2.2.length ∧ True) <| 
  gd (in64 ((↑v9.2.2.length : Int) - 1) ∧ (v13.length + [(v8, v12, v9.2.2.getD v12.toNat 0, v12 == (↑v9.2.2.length : Int) - 1)].length ≤ 9223372036854775807 ∧ (v13.length + [(v8, v12, v9.2.2.getD v12.toNat 0, v12 == (↑v9.2.2.length : Int) - 1)].length) * 32 ≤ 140737488355328) ∧ True) <| lt ((v13 ++ [(v8, v12, v9.2.2.getD v12.toNat 0, v12 == (↑v9.2.2.length : Int) - 1)], [(v8, v12, v9.2.2.getD v12.toNat 0, v12 == (↑v9.2.2.length : Int) - 1)])) fun (v14, v15) =>
  gd (in64 (v12 + 1) ∧ True) <| 
  g3 (v12 + 1, v14)
 else
  u37J2 v8 g1 v13
def u37L1 (a0 : Y41) (g1 : List Y81 × Int → Option (List Y81)) : List Y81 × Int → Option (List Y81)
 | (v7, v8) =>
 if (decide (v8 < (↑a0.1.length : Int))) = true then
  gd (ix v8 a0.1.length ∧ True) <| lt (a0.1.getD v8.toNat (dflt y141)) fun v9 =>
  lp (u37L3 v8 v9 g1) (0, v7)
 else
  u37J0 a0 v7
def u37 (a0 : Y41) : Option (List Y81) :=
 lp (u37L1 a0) ([], 0)
def k37 : Ct := lct 37 [.agg y41] (fun x => u37 x.1) (fun r : List Y81 => AV.ow 81 true y81 r) (fun _ => ())
theorem o37 : Ok Tryz.prog k37 := by
 refine okl tok [.tmp 2] Tryz.func37 Tryz.ntmps37 rfl Tryz.results37 (by kernel_rfl) rfl ?_
 intro y ⟨a0, _⟩ r H Q hn hr
 have hT := @tn Tryz.prog
 refine qa tok hT [1] (St.mk [p 1 (AV.ptr 1 0)] [(1, Ob.box 41 (cellsD false y41 a0))]) (by kernel_rfl) ?_
 refine qa tok hT [1, 3] (St.mk [p 1 (AV.ptr 1 0), p 3 (AV.v (Value.slice none 0 0))] [(1, Ob.box 41 (cellsD false y41 a0))]) (by kernel_rfl) ?_
 refine jn r (fun (v17 : List Y81) => St.mk [p 1 (AV.ptr 1 0), p 3 (AV.os 38 0)] [(1, Ob.box 41 (cellsD false y41 a0)), (38, Ob.arr 81 true y81 v17 0)]) (u37J0 a0) (fun v17 H => ?_) (fun _ n0 e0 t0 => ?_)
 ·refine jn r (fun (v24 : List Y81) => St.mk [p 3 (AV.os 38 0)] [(38, Ob.arr 81 true y81 v24 0)]) (u37J4) (fun v24 H => ?_) (fun _ n4 e4 t4 => ?_)
  ·refine qa tok hT [2] (St.mk [p 2 (AV.os 38 0)] [(38, Ob.arr 81 true y81 v24 0)]) (by kernel_rfl) ?_
   exact vx_ret <| hr H (by kernel_rfl)
  refine qa tok hT [3, 42, 43, 44] (St.mk [p 3 (AV.os 38 0), p 42 (L y143 a0.2.2), p 43 (I (↑a0.2.2.length : Int)), p 44 (I 0)] [(1, Ob.box 41 (cellsD false y41 a0)), (38, Ob.arr 81 true y81 v17 0)]) (by kernel_rfl) ?_
  refine vx_block <| ?_
  refine lx (fun ((v21, v22) : Int × List Y81) => St.mk [p 3 (AV.os 38 0), p 42 (L y143 a0.2.2), p 43 (I (↑a0.2.2.length : Int)), p 44 (I v21)] [(38, Ob.arr 81 true y81 v22 0)]) (0, v17) H (by kernel_rfl) fun _ g5 b5 e5 t5 ⟨v21, v22⟩ H => ?_
  refine qa tok hT [3, 42, 43, 44, 45] (St.mk [p 3 (AV.os 38 0), p 42 (L y143 a0.2.2), p 43 (I (↑a0.2.2.length : Int)), p 44 (I v21), p 45 (B (decide (v21 < (↑a0.2.2.length : Int))))] [(38, Ob.arr 81 true y81 v22 0)]) (by kernel_rfl) ?_
  refine vx_seq <| ?_
  refine cd H (by kernel_rfl) (fun H => ?_) (fun H => ?_)
  ·refine vx_skip <| fx_seq <| vx_seq <| vx_block <| ?_
   refine qd tok hT [3, 8, 9, 42, 43, 44] (fun v23 => St.mk [p 3 (AV.os 38 0), p 8 (I v21), p 9 (AV.ptr 9 0), p 42 (L y143 a0.2.2), p 43 (I (↑a0.2.2.length : Int)), p 44 (I v21)] [(9, Ob.box 143 (cellsD false y143 v23)), (38, Ob.arr 81 true y81 v22 0)]) H (by kernel_rfl) fun v23 H => ?_
   refine zb tok hT [3, 42, 43, 44] (St.mk [p 3 (AV.os 38 1), p 42 (L y143 a0.2.2), p 43 (I (↑a0.2.2.length : Int)), p 44 (I v21)] [(38, Ob.arr 81 true y81 (v22 ++ [(-1, v21, v23.2.2, v23.2.1 == 1)]) 1), (57, Ob.arr 81 true y81 [(-1, v21, v23.2.2, v23.2.1 == 1)] 0), (9, Ob.box 143 (cellsD false y143 v23))]) H (by kernel_rfl) fun H => ?_
   refine fx_blk <| fx_seq <| ?_
   refine zb tok hT [3, 42, 43, 44] (St.mk [p 3 (AV.os 38 1), p 42 (L y143 a0.2.2), p 43 (I (↑a0.2.2.length : Int)), p 44 (I (v21 + 1))] [(38, Ob.arr 81 true y81 (v22 ++ [(-1, v21, v23.2.2, v23.2.1 == 1)]) 1), (57, Ob.arr 81 true y81 [(-1, v21, v23.2.2, v23.2.1 == 1)] 0), (9, Ob.box 143 (cellsD false y143 v23))]) H (by kernel_rfl) fun H => ?_
   exact b5 H (by kernel_rfl)
  exact vx_exit <| fx_seq_exit <| e5 <| fx_blk_exit rfl <| n4 H (by kernel_rfl)
 refine qa tok hT [1, 3, 11, 12, 13] (St.mk [p 1 (AV.ptr 1 0), p 3 (AV.v (Value.slice none 0 0)), p 11 (L y141 a0.1), p 12 (I (↑a0.1.length : Int)), p 13 (I 0)] [(1, Ob.box 41 (cellsD false y41 a0))]) (by kernel_rfl) ?_
 refine vx_block <| ?_
 refine lx (fun ((v7, v8) : List Y81 × Int) => St.mk [p 1 (AV.ptr 1 0), p 3 (AV.os 38 0), p 11 (L y141 a0.1), p 12 (I (↑a0.1.length : Int)), p 13 (I v8)] [(1, Ob.box 41 (cellsD false y41 a0)), (38, Ob.arr 81 true y81 v7 0)]) ([], 0) H (by kernel_rfl) fun _ g1 b1 e1 t1 ⟨v7, v8⟩ H => ?_
 refine qa tok hT [1, 3, 11, 12, 13, 14] (St.mk [p 1 (AV.ptr 1 0), p 3 (AV.os 38 0), p 11 (L y141 a0.1), p 12 (I (↑a0.1.length : Int)), p 13 (I v8), p 14 (B (decide (v8 < (↑a0.1.length : Int))))] [(1, Ob.box 41 (cellsD false y41 a0)), (38, Ob.arr 81 true y81 v7 0)]) (by kernel_rfl) ?_
 refine vx_seq <| ?_
 refine cd H (by kernel_rfl) (fun H => ?_) (fun H => ?_)
 ·refine vx_skip <| fx_seq <| ?_
  refine jn r (fun (v16 : List Y81) => St.mk [p 1 (AV.ptr 1 0), p 3 (AV.os 38 0), p 11 (L y141 a0.1), p 12 (I (↑a0.1.length : Int)), p 13 (I v8)] [(1, Ob.box 41 (cellsD false y41 a0)), (38, Ob.arr 81 true y81 v16 0)]) (u37J2 v8 g1) (fun v16 H => ?_) (fun _ n2 e2 t2 => ?_)
  ·refine zb tok hT [1, 3, 11, 12, 13] (St.mk [p 1 (AV.ptr 1 0), p 3 (AV.os 38 0), p 11 (L y141 a0.1), p 12 (I (↑a0.1.length : Int)), p 13 (I (v8 + 1))] [(1, Ob.box 41 (cellsD false y41 a0)), (38, Ob.arr 81 true y81 v16 0)]) H (by kernel_rfl) fun H => ?_
   exact b1 H (by kernel_rfl)
  refine vx_block <| ?_
  refine qd tok hT [1, 3, 4, 5, 11, 12, 13] (fun v9 => St.mk [p 1 (AV.ptr 1 0), p 3 (AV.os 38 0), p 4 (I v8), p 5 (AV.ptr 5 0), p 11 (L y141 a0.1), p 12 (I (↑a0.1.length : Int)), p 13 (I v8)] [(5, Ob.box 141 (cellsD false y141 v9)), (1, Ob.box 41 (cellsD false y41 a0)), (38, Ob.arr 81 true y81 v7 0)]) H (by kernel_rfl) fun v9 H => ?_
  refine qa tok hT [1, 3, 4, 5, 11, 12, 13, 19, 20, 21] (St.mk [p 1 (AV.ptr 1 0), p 3 (AV.os 38 0), p 4 (I v8), p 5 (AV.ptr 5 0), p 11 (L y141 a0.1), p 12 (I (↑a0.1.length : Int)), p 13 (I v8), p 19 (L i64 v9.2.2), p 20 (I (↑v9.2.2.length : Int)), p 21 (I 0)] [(5, Ob.box 141 (cellsD false y141 v9)), (1, Ob.box 41 (cellsD false y41 a0)), (38, Ob.arr 81 true y81 v7 0)]) (by kernel_rfl) ?_
  refine vx_block <| ?_
  refine lx (fun ((v12, v13) : Int × List Y81) => St.mk [p 1 (AV.ptr 1 0), p 3 (AV.os 38 0), p 4 (I v8), p 5 (AV.ptr 5 0), p 11 (L y141 a0.1), p 12 (I (↑a0.1.length : Int)), p 13 (I v8), p 19 (L i64 v9.2.2), p 20 (I (↑v9.2.2.length : Int)), p 21 (I v12)] [(5, Ob.box 141 (cellsD false y141 v9)), (1, Ob.box 41 (cellsD false y41 a0)), (38, Ob.arr 81 true y81 v13 0)]) (0, v7) H (by kernel_rfl) fun _ g3 b3 e3 t3 ⟨v12, v13⟩ H => ?_
  refine qa tok hT [1, 3, 4, 5, 11, 12, 13, 19, 20, 21, 22] (St.mk [p 1 (AV.ptr 1 0), p 3 (AV.os 38 0), p 4 (I v8), p 5 (AV.ptr 5 0), p 11 (L y141 a0.1), p 12 (I (↑a0.1.length : Int)), p 13 (I v8), p 19 (L i64 v9.2.2), p 20 (I (↑v9.2.2.length : Int)), p 21 (I v12), p 22 (B (decide (v12 < (↑v9.2.2.length : Int))))] [(5, Ob.box 141 (cellsD false y141 v9)), (1, Ob.box 41 (cellsD false y41 a0)), (38, Ob.arr 81 true y81 v13 0)]) (by kernel_rfl) ?_
  refine vx_seq <| ?_
  refine cd H (by kernel_rfl) (fun H => ?_) (fun H => ?_)
  ·refine vx_skip <| fx_seq <| vx_seq <| vx_block <| ?_
   refine qb tok hT [1, 3, 4, 5, 6, 7, 11, 12, 13, 19, 20, 21] (St.mk [p 1 (AV.ptr 1 0), p 3 (AV.os 38 0), p 4 (I v8), p 5 (AV.ptr 5 0), p 6 (I v12), p 7 (J (v9.2.2.getD v12.toNat 0)), p 11 (L y141 a0.1), p 12 (I (↑a0.1.length : Int)), p 13 (I v8), p 19 (L i64 v9.2.2), p 20 (I (↑v9.2.2.length : Int)), p 21 (I v12)] [(5, Ob.box 141 (cellsD false y141 v9)), (1, Ob.box 41 (cellsD false y41 a0)), (38, Ob.arr 81 true y81 v13 0)]) H (by kernel_rfl) fun H => ?_
   refine zd tok hT [1, 3, 4, 5, 11, 12, 13, 19, 20, 21] (fun (v14, v15) => St.mk [p 1 (AV.ptr 1 0), p 3 (AV.os 38 1), p 4 (I v8), p 5 (AV.ptr 5 0), p 11 (L y141 a0.1), p 12 (I (↑a0.1.length : Int)), p 13 (I v8), p 19 (L i64 v9.2.2), p 20 (I (↑v9.2.2.length : Int)), p 21 (I v12)] [(38, Ob.arr 81 true y81 v14 1), (37, Ob.arr 81 true y81 v15 0), (5, Ob.box 141 (cellsD false y141 v9)), (1, Ob.box 41 (cellsD false y41 a0))]) H (by kernel_rfl) fun ⟨v14, v15⟩ H => ?_
   refine fx_blk <| fx_seq <| ?_
   refine zb tok hT [1, 3, 4, 5, 11, 12, 13, 19, 20, 21] (St.mk [p 1 (AV.ptr 1 0), p 3 (AV.os 38 1), p 4 (I v8), p 5 (AV.ptr 5 0), p 11 (L y141 a0.1), p 12 (I (↑a0.1.length : Int)), p 13 (I v8), p 19 (L i64 v9.2.2), p 20 (I (↑v9.2.2.length : Int)), p 21 (I (v12 + 1))] [(38, Ob.arr 81 true y81 v14 1), (37, Ob.arr 81 true y81 v15 0), (5, Ob.box 141 (cellsD false y141 v9)), (1, Ob.box 41 (cellsD false y41 a0))]) H (by kernel_rfl) fun H => ?_
   exact b3 H (by kernel_rfl)
  exact vx_exit <| fx_seq_exit <| e3 <| fx_blk_exit rfl <| fx_blk <| n2 H (by kernel_rfl)
 exact vx_exit <| fx_seq_exit <| e1 <| fx_blk_exit rfl <| n0 H (by kernel_rfl)
def u87 (a0 : Int) (a1 : Int) (a2 : Int) : Option (Bool) :=
 some (decide (a1 ≤ a0) && decide (a0 ≤ a2))
def k87 : Ct := lct 87 [.dat i64, .dat i64, .dat i64] (fun x => u87 x.1 x.2.1 x.2.2.1) (fun r : Bool => B r) (fun _ => ())
theorem o87 : Ok Tryz.prog k87 := by
 refine okl tok [.tmp 6] Tryz.func87 Tryz.ntmps87 rfl Tryz.results87 (by kernel_rfl) rfl ?_
 intro y ⟨a0, a1, a2, _⟩ r H Q hn hr
 have hT := @tn Tryz.prog
 refine qa tok hT [0, 1, 2] (St.mk [p 0 (J a0), p 1 (J a1), p 2 (J a2)] []) (by kernel_rfl) ?_
 refine qa tok hT [6] (St.mk [p 6 (B (decide (a1 ≤ a0) && decide (a0 ≤ a2)))] []) (by kernel_rfl) ?_
 exact vx_ret <| hr H (by kernel_rfl)
def u152 (a0 : Int) (a1 : Int) (a2 : Int) : Option (Bool) :=
 gd ((u87 a0 a1 a2).isSome = true ∧ True) <| 
 some (!vl (u87 a0 a1 a2))
def k152 : Ct := lct 152 [.dat i64, .dat (.pt i64), .dat (.pt i64)] (fun x => u152 x.1 x.2.1 x.2.2.1) (fun r : Bool => B r) (fun _ => ())
theorem o152 : Ok Tryz.prog k152 := by
 refine okl tok [.tmp 4] Tryz.func152 Tryz.ntmps152 rfl Tryz.results152 (by kernel_rfl) rfl ?_
 intro y ⟨a0, a1, a2, _⟩ r H Q hn hr
 have hT := tc o87 tn
 refine qa tok hT [0, 1, 2] (St.mk [p 0 (J a0), p 1 (D i64.pt a1), p 2 (D i64.pt a2)] []) (by kernel_rfl) ?_
 refine qb tok hT [4] (St.mk [p 4 (B !vl (u87 a0 a1 a2))] []) H (by kernel_rfl) fun H => ?_
 exact vx_ret <| hr H (by kernel_rfl)
def u169c152J0 : Unit → Option (Int)
 | _ =>
 some (-1)
def u169c152L1 (a0 : List Int) (a1 : Int × Int) (g1 : Int → Option (Int)) : Int → Option (Int)
 | v0 =>
 if (decide (v0 < (↑a0.length : Int))) = true then
  gd (ix v0 a0.length ∧ (u152 (a0.getD v0.toNat 0) a1.1 a1.2).isSome = true ∧ True) <| 
  if (vl (u152 (a0.getD v0.toNat 0) a1.1 a1.2)) = true then
   some v0
  else
   gd (in64 (v0 + 1) ∧ True) <| 
   g1 (v0 + 1)
 else
  u169c152J0 ()
def u169c152 (a0 : List Int) (a1 : Int × Int) : Option (Int) :=
 lp (u169c152L1 a0 a1) 0
def k169c152 : Ct := lct 169 [.dat i64.sl, .fn 152 (.pr i64.pt i64.pt)] (fun x => u169c152 x.1 x.2.1) (fun r : Int => I r) (fun _ => ())
theorem o169c152 : Ok Tryz.prog k169c152 := by
 refine okl tok [.tmp 4] Tryz.func169 Tryz.ntmps169 rfl Tryz.results169 (by kernel_rfl) rfl ?_
 intro y ⟨a0, a1, _⟩ r H Q hn hr
 have hT := tc o152 tn
 refine qa tok hT [0, 1] (St.mk [p 0 (L i64 a0), p 1 (AV.fn 152 [D i64.pt a1.1, D i64.pt a1.2])] []) (by kernel_rfl) ?_
 refine jn r (fun (_ : Unit) => St.mk [] []) (u169c152J0) (fun _ H => ?_) (fun _ n0 e0 t0 => ?_)
 ·refine qa tok hT [4] (St.mk [p 4 (I (-1))] []) (by kernel_rfl) ?_
  exact vx_ret <| hr H (by kernel_rfl)
 refine qa tok hT [0, 1, 7, 8] (St.mk [p 0 (L i64 a0), p 1 (AV.fn 152 [D i64.pt a1.1, D i64.pt a1.2]), p 7 (I (↑a0.length : Int)), p 8 (I 0)] []) (by kernel_rfl) ?_
 refine vx_block <| ?_
 refine lx (fun (v0 : Int) => St.mk [p 0 (L i64 a0), p 1 (AV.fn 152 [D i64.pt a1.1, D i64.pt a1.2]), p 7 (I (↑a0.length : Int)), p 8 (I v0)] []) 0 H (by kernel_rfl) fun _ g1 b1 e1 t1 v0 H => ?_
 refine qa tok hT [0, 1, 7, 8, 9] (St.mk [p 0 (L i64 a0), p 1 (AV.fn 152 [D i64.pt a1.1, D i64.pt a1.2]), p 7 (I (↑a0.length : Int)), p 8 (I v0), p 9 (B (decide (v0 < (↑a0.length : Int))))] []) (by kernel_rfl) ?_
 refine vx_seq <| ?_
 refine cd H (by kernel_rfl) (fun H => ?_) (fun H => ?_)
 ·refine vx_skip <| fx_seq <| vx_seq <| vx_block <| ?_
  refine qa tok hT [0, 1, 5, 7, 8] (St.mk [p 0 (L i64 a0), p 1 (AV.fn 152 [D i64.pt a1.1, D i64.pt a1.2]), p 5 (I v0), p 7 (I (↑a0.length : Int)), p 8 (I v0)] []) (by kernel_rfl) ?_
  refine qb tok hT [0, 1, 5, 7, 8, 16] (St.mk [p 0 (L i64 a0), p 1 (AV.fn 152 [D i64.pt a1.1, D i64.pt a1.2]), p 5 (I v0), p 7 (I (↑a0.length : Int)), p 8 (I v0), p 16 (B (vl (u152 (a0.getD v0.toNat 0) a1.1 a1.2)))] []) H (by kernel_rfl) fun H => ?_
  refine cd H (by kernel_rfl) (fun H => ?_) (fun H => ?_)
  ·refine qa tok hT [4] (St.mk [p 4 (I v0)] []) (by kernel_rfl) ?_
   exact vx_ret <| fx_blk_ret <| fx_seq_ret <| t1 <| fx_blk_ret <| t0 <| hr H (by kernel_rfl)
  refine vx_skip <| fx_blk <| fx_seq <| ?_
  refine zb tok hT [0, 1, 7, 8] (St.mk [p 0 (L i64 a0), p 1 (AV.fn 152 [D i64.pt a1.1, D i64.pt a1.2]), p 7 (I (↑a0.length : Int)), p 8 (I (v0 + 1))] []) H (by kernel_rfl) fun H => ?_
  exact b1 H (by kernel_rfl)
 exact vx_exit <| fx_seq_exit <| e1 <| fx_blk_exit rfl <| n0 H (by kernel_rfl)
def u148c152 (a0 : List Int) (a1 : Int × Int) : Option (Bool) :=
 gd ((u169c152 a0 a1).isSome = true ∧ True) <| lt (vl (u169c152 a0 a1)) fun v0 =>
 some (decide (0 ≤ v0))
def k148c152 : Ct := lct 148 [.dat i64.sl, .fn 152 (.pr (.pt i64) (.pt i64))] (fun x => u148c152 x.1 x.2.1) (fun r : Bool => B r) (fun _ => ())
theorem o148c152 : Ok Tryz.prog k148c152 := by
 refine okl tok [.tmp 4] Tryz.func148 Tryz.ntmps148 rfl Tryz.results148 (by kernel_rfl) rfl ?_
 intro y ⟨a0, a1, _⟩ r H Q hn hr
 have hT := tc o169c152 (tc o152 tn)
 refine qa tok hT [0, 1] (St.mk [p 0 (L i64 a0), p 1 (AV.fn 152 [D i64.pt a1.1, D i64.pt a1.2])] []) (by kernel_rfl) ?_
 refine qd tok hT [4] (fun v0 => St.mk [p 4 (B (decide (0 ≤ v0)))] []) H (by kernel_rfl) fun v0 H => ?_
 exact vx_ret <| hr H (by kernel_rfl)
def u127 (a0 : List Int) (a1 : Int) (a2 : Int) : Option (Bool) :=
 gd ((u148c152 a0 (a1, a2)).isSome = true ∧ True) <| 
 some (!vl (u148c152 a0 (a1, a2)))
def k127 : Ct := lct 127 [.dat i64.sl, .dat i64, .dat i64] (fun x => u127 x.1 x.2.1 x.2.2.1) (fun r : Bool => B r) (fun _ => ())
theorem o127 : Ok Tryz.prog k127 := by
 refine okl tok [.tmp 6] Tryz.func127 Tryz.ntmps127 rfl Tryz.results127 (by kernel_rfl) rfl ?_
 intro y ⟨a0, a1, a2, _⟩ r H Q hn hr
 have hT := tc o148c152 (tc o152 tn)
 refine qa tok hT [0, 4, 5] (St.mk [p 0 (L i64 a0), p 4 (AV.ptr 4 0), p 5 (AV.ptr 5 0)] [(5, Ob.box 2 [J a2]), (4, Ob.box 2 [J a1])]) (by kernel_rfl) ?_
 refine qb tok hT [6] (St.mk [p 6 (B !vl (u148c152 a0 (a1, a2)))] [(5, Ob.box 2 [J a2]), (4, Ob.box 2 [J a1])]) H (by kernel_rfl) fun H => ?_
 exact vx_ret <| hr H (by kernel_rfl)
def u96 (a0 : List Int) : Option (Int) :=
 some (↑a0.length : Int)
def k96 : Ct := lct 96 [.dat i64.sl] (fun x => u96 x.1) (fun r : Int => I r) (fun _ => ())
theorem o96 : Ok Tryz.prog k96 := by
 refine okl tok [.tmp 2] Tryz.func96 Tryz.ntmps96 rfl Tryz.results96 (by kernel_rfl) rfl ?_
 intro y ⟨a0, _⟩ r H Q hn hr
 have hT := @tn Tryz.prog
 refine qa tok hT [0] (St.mk [p 0 (L i64 a0)] []) (by kernel_rfl) ?_
 refine qa tok hT [2] (St.mk [p 2 (I (↑a0.length : Int))] []) (by kernel_rfl) ?_
 exact vx_ret <| hr H (by kernel_rfl)
def u126J0 : Unit → Option (Bool)
 | _ =>
 some true
def u126L1 (a0 : Y131) (g1 : Int → Option (Bool)) : Int → Option (Bool)
 | v0 =>
 if (decide (v0 < (↑a0.1.length : Int))) = true then
  gd (ix v0 a0.1.length ∧ True) <| 
  gd (((a0.1.getD v0.toNat (0 : Int) != (-1 : Int)) = false ∧ (v0 == (0 : Int)) = true ∧ True → ix (0 : Int) a0.2.1.length) ∧ (decide ((0 : Int) < v0) = true ∧ (v0 == (0 : Int) && (a0.1.getD v0.toNat (0 : Int) != (-1 : Int) || a0.2.1.getD (Int.toNat (0 : Int)) (0 : Int) != (0 : Int))) = false ∧ True → in64 (v0 - (1 : Int))) ∧ (decide ((0 : Int) < v0) = true ∧ (v0 == (0 : Int) && (a0.1.getD v0.toNat (0 : Int) != (-1 : Int) || a0.2.1.getD (Int.toNat (0 : Int)) (0 : Int) != (0 : Int))) = false ∧ True → (u87 (a0.1.getD v0.toNat (0 : Int)) (0 : Int) (v0 - (1 : Int))).isSome = true) ∧ True) <| 
  if (v0 == (0 : Int) && (a0.1.getD v0.toNat (0 : Int) != (-1 : Int) || a0.2.1.getD (Int.toNat (0 : Int)) (0 : Int) != (0 : Int)) || decide ((0 : Int) < v0) && !vl (u87 (a0.1.getD v0.toNat (0 : Int)) (0 : Int) (v0 - (1 : Int)))) = true then
   some false
  else
   gd (in64 (v0 + 1) ∧ True) <| 
   g1 (v0 + 1)
 else
  u126J0 ()
def u126 (a0 : Y131) : Option (Bool) :=
 lp (u126L1 a0) 0
def k126 : Ct := lct 126 [.agg y131] (fun x => u126 x.1) (fun r : Bool => B r) (fun _ => ())
theorem o126 : Ok Tryz.prog k126 := by
 refine okl tok [.tmp 2] Tryz.func126 Tryz.ntmps126 rfl Tryz.results126 (by kernel_rfl) rfl ?_
 intro y ⟨a0, _⟩ r H Q hn hr
 have hT := tc o87 tn
 refine qa tok hT [1] (St.mk [p 1 (AV.ptr 1 0)] [(1, Ob.box 131 (cellsD false y131 a0))]) (by kernel_rfl) ?_
 refine jn r (fun (_ : Unit) => St.mk [] []) (u126J0) (fun _ H => ?_) (fun _ n0 e0 t0 => ?_)
 ·refine qa tok hT [2] (St.mk [p 2 (B true)] []) (by kernel_rfl) ?_
  exact vx_ret <| hr H (by kernel_rfl)
 refine qa tok hT [1, 6, 7, 8] (St.mk [p 1 (AV.ptr 1 0), p 6 (L i64 a0.1), p 7 (I (↑a0.1.length : Int)), p 8 (I 0)] [(1, Ob.box 131 (cellsD false y131 a0))]) (by kernel_rfl) ?_
 refine vx_block <| ?_
 refine lx (fun (v0 : Int) => St.mk [p 1 (AV.ptr 1 0), p 6 (L i64 a0.1), p 7 (I (↑a0.1.length : Int)), p 8 (I v0)] [(1, Ob.box 131 (cellsD false y131 a0))]) 0 H (by kernel_rfl) fun _ g1 b1 e1 t1 v0 H => ?_
 refine qa tok hT [1, 6, 7, 8, 9] (St.mk [p 1 (AV.ptr 1 0), p 6 (L i64 a0.1), p 7 (I (↑a0.1.length : Int)), p 8 (I v0), p 9 (B (decide (v0 < (↑a0.1.length : Int))))] [(1, Ob.box 131 (cellsD false y131 a0))]) (by kernel_rfl) ?_
 refine vx_seq <| ?_
 refine cd H (by kernel_rfl) (fun H => ?_) (fun H => ?_)
 ·refine vx_skip <| fx_seq <| vx_seq <| vx_block <| ?_
  refine qb tok hT [1, 3, 4, 6, 7, 8] (St.mk [p 1 (AV.ptr 1 0), p 3 (I v0), p 4 (J (a0.1.getD v0.toNat 0)), p 6 (L i64 a0.1), p 7 (I (↑a0.1.length : Int)), p 8 (I v0)] [(1, Ob.box 131 (cellsD false y131 a0))]) H (by kernel_rfl) fun H => ?_
  refine qb tok hT [1, 6, 7, 8, 16, 17, 18, 19, 20, 21, 22, 23, 24, 27, 28, 29, 30, 31, 32, 33, 34, 35, 36] (St.mk [p (1 : Nat) (AV.ptr (1 : Nat) (0 : Nat)), p (6 : Nat) (L i64 a0.1), p (7 : Nat) (I (↑a0.1.length : Int)), p (8 : Nat) (I v0), p (36 : Nat) (B (v0 == (0 : Int) && (a0.1.getD v0.toNat (0 : Int) != (-1 : Int) || a0.2.1.getD (Int.toNat (0 : Int)) (0 : Int) != (0 : Int)) || decide ((0 : Int) < v0) && !vl (u87 (a0.1.getD v0.toNat (0 : Int)) (0 : Int) (v0 - (1 : Int)))))] [((1 : Nat), Ob.box (nat_lit 131) (cellsD false y131 a0))]) H (by kernel_rfl) fun H => ?_
  refine cd H (by kernel_rfl) (fun H => ?_) (fun H => ?_)
  ·refine qa tok hT [2] (St.mk [p 2 (B false)] [(1, Ob.box 131 (cellsD false y131 a0))]) (by kernel_rfl) ?_
   exact vx_ret <| fx_blk_ret <| fx_seq_ret <| t1 <| fx_blk_ret <| t0 <| hr H (by kernel_rfl)
  refine vx_skip <| fx_blk <| fx_seq <| ?_
  refine zb tok hT [1, 6, 7, 8] (St.mk [p 1 (AV.ptr 1 0), p 6 (L i64 a0.1), p 7 (I (↑a0.1.length : Int)), p 8 (I (v0 + 1))] [(1, Ob.box 131 (cellsD false y131 a0))]) H (by kernel_rfl) fun H => ?_
  exact b1 H (by kernel_rfl)
 exact vx_exit <| fx_seq_exit <| e1 <| fx_blk_exit rfl <| n0 H (by kernel_rfl)
def u79 (a0 : Y131) (a1 : Int) : Option (Bool) :=
 gd ((u96 a0.1).isSome = true ∧ True) <| lt (vl (u96 a0.1)) fun v0 =>
 gd ((u87 v0 1 8).isSome = true ∧ (vl (u87 v0 1 8) = true ∧ True → (u96 a0.2.1).isSome = true) ∧ ((vl (u87 v0 1 8) && vl (u96 a0.2.1) == v0) = true ∧ True → (u96 a0.2.2.1).isSome = true) ∧ ((vl (u87 v0 1 8) && vl (u96 a0.2.1) == v0 && vl (u96 a0.2.2.1) == v0) = true ∧ True → (u126 a0).isSome = true) ∧ ((vl (u87 v0 1 8) && vl (u96 a0.2.1) == v0 && vl (u96 a0.2.2.1) == v0 && vl (u126 a0)) = true ∧ True → (u127 a0.2.1 0 1000).isSome = true) ∧ ((vl (u87 v0 1 8) && vl (u96 a0.2.1) == v0 && vl (u96 a0.2.2.1) == v0 && vl (u126 a0) && vl (u127 a0.2.1 0 1000)) = true ∧ True → (u127 a0.2.2.1 0 500).isSome = true) ∧ ((vl (u87 v0 1 8) && vl (u96 a0.2.1) == v0 && vl (u96 a0.2.2.1) == v0 && vl (u126 a0) && vl (u127 a0.2.1 0 1000) && vl (u127 a0.2.2.1 0 500)) = true ∧ True → (u96 a0.2.2.2).isSome = true) ∧ ((vl (u87 v0 1 8) && vl (u96 a0.2.1) == v0 && vl (u96 a0.2.2.1) == v0 && vl (u126 a0) && vl (u127 a0.2.1 0 1000) && vl (u127 a0.2.2.1 0 500) && vl (u96 a0.2.2.2) == a1) = true ∧ True → in64 (v0 - 1)) ∧ ((vl (u87 v0 1 8) && vl (u96 a0.2.1) == v0 && vl (u96 a0.2.2.1) == v0 && vl (u126 a0) && vl (u127 a0.2.1 0 1000) && vl (u127 a0.2.2.1 0 500) && vl (u96 a0.2.2.2) == a1) = true ∧ True → (u127 a0.2.2.2 0 (v0 - 1)).isSome = true) ∧ True) <| lt ((vl (u96 a0.2.1), vl (u96 a0.2.2.1), vl (u96 a0.2.2.2))) fun (v1, v2, v3) =>
 some (vl (u87 v0 1 8) && v1 == v0 && v2 == v0 && vl (u126 a0) && vl (u127 a0.2.1 0 1000) && vl (u127 a0.2.2.1 0 500) && v3 == a1 && vl (u127 a0.2.2.2 0 (v0 - 1)))
def k79 : Ct := lct 79 [.agg y131, .dat i64] (fun x => u79 x.1 x.2.1) (fun r : Bool => B r) (fun _ => ())
theorem o79 : Ok Tryz.prog k79 := by
 refine okl tok [.tmp 4] Tryz.func79 Tryz.ntmps79 rfl Tryz.results79 (by kernel_rfl) rfl ?_
 intro y ⟨a0, a1, _⟩ r H Q hn hr
 have hT := tc o127 (tc o96 (tc o126 (tc o87 tn)))
 refine qa tok hT [1, 2] (St.mk [p 1 (J a1), p 2 (AV.ptr 2 0)] [(2, Ob.box 131 (cellsD false y131 a0))]) (by kernel_rfl) ?_
 refine qd tok hT [1, 2, 5] (fun v0 => St.mk [p 1 (J a1), p 2 (AV.ptr 2 0), p 5 (I v0)] [(2, Ob.box 131 (cellsD false y131 a0))]) H (by kernel_rfl) fun v0 H => ?_
 refine qd tok hT [4] (fun (v1, v2, v3) => St.mk [p 4 (B (vl (u87 v0 1 8) && v1 == v0 && v2 == v0 && vl (u126 a0) && vl (u127 a0.2.1 0 1000) && vl (u127 a0.2.2.1 0 500) && v3 == a1 && vl (u127 a0.2.2.2 0 (v0 - 1))))] [(2, Ob.box 131 (cellsD false y131 a0))]) H (by kernel_rfl) fun ⟨v1, v2, v3⟩ H => ?_
 exact vx_ret <| hr H (by kernel_rfl)
def u125 (a0 : Int) : Option (Bool) :=
 some (a0 != 1)
def k125 : Ct := lct 125 [.dat i64] (fun x => u125 x.1) (fun r : Bool => B r) (fun _ => ())
theorem o125 : Ok Tryz.prog k125 := by
 refine okl tok [.tmp 2] Tryz.func125 Tryz.ntmps125 rfl Tryz.results125 (by kernel_rfl) rfl ?_
 intro y ⟨a0, _⟩ r H Q hn hr
 have hT := @tn Tryz.prog
 refine qa tok hT [0] (St.mk [p 0 (J a0)] []) (by kernel_rfl) ?_
 refine qa tok hT [2] (St.mk [p 2 (B (a0 != 1))] []) (by kernel_rfl) ?_
 exact vx_ret <| hr H (by kernel_rfl)
def u150 (a0 : List ByteArray) : Option (Int) :=
 some (↑a0.length : Int)
def k150 : Ct := lct 150 [.dat Ty.str.sl] (fun x => u150 x.1) (fun r : Int => I r) (fun _ => ())
theorem o150 : Ok Tryz.prog k150 := by
 refine okl tok [.tmp 2] Tryz.func150 Tryz.ntmps150 rfl Tryz.results150 (by kernel_rfl) rfl ?_
 intro y ⟨a0, _⟩ r H Q hn hr
 have hT := @tn Tryz.prog
 refine qa tok hT [0] (St.mk [p 0 (L Ty.str a0)] []) (by kernel_rfl) ?_
 refine qa tok hT [2] (St.mk [p 2 (I (↑a0.length : Int))] []) (by kernel_rfl) ?_
 exact vx_ret <| hr H (by kernel_rfl)
def u123 (a0 : Y41) (a1 : Int) : Option (Bool) :=
 gd ((u150 a0.2.1).isSome = true ∧ in64 (vl (u150 a0.2.1) - 1) ∧ (u87 a1 0 (vl (u150 a0.2.1) - 1)).isSome = true ∧ True) <| 
 some (vl (u87 a1 0 (vl (u150 a0.2.1) - 1)))
def k123 : Ct := lct 123 [.agg y41, .dat i64] (fun x => u123 x.1 x.2.1) (fun r : Bool => B r) (fun _ => ())
theorem o123 : Ok Tryz.prog k123 := by
 refine okl tok [.tmp 4] Tryz.func123 Tryz.ntmps123 rfl Tryz.results123 (by kernel_rfl) rfl ?_
 intro y ⟨a0, a1, _⟩ r H Q hn hr
 have hT := tc o87 (tc o150 tn)
 refine qa tok hT [1, 2] (St.mk [p 1 (J a1), p 2 (AV.ptr 2 0)] [(2, Ob.box 41 (cellsD false y41 a0))]) (by kernel_rfl) ?_
 refine qb tok hT [4] (St.mk [p 4 (B (vl (u87 a1 0 (vl (u150 a0.2.1) - 1))))] [(2, Ob.box 41 (cellsD false y41 a0))]) H (by kernel_rfl) fun H => ?_
 exact vx_ret <| hr H (by kernel_rfl)
def u147 (a0 : List Y152) : Option (Int) :=
 some (↑a0.length : Int)
def k147 : Ct := lct 147 [.dat y152.sl] (fun x => u147 x.1) (fun r : Int => I r) (fun _ => ())
theorem o147 : Ok Tryz.prog k147 := by
 refine okl tok [.tmp 2] Tryz.func147 Tryz.ntmps147 rfl Tryz.results147 (by kernel_rfl) rfl ?_
 intro y ⟨a0, _⟩ r H Q hn hr
 have hT := @tn Tryz.prog
 refine qa tok hT [0] (St.mk [p 0 (L y152 a0)] []) (by kernel_rfl) ?_
 refine qa tok hT [2] (St.mk [p 2 (I (↑a0.length : Int))] []) (by kernel_rfl) ?_
 exact vx_ret <| hr H (by kernel_rfl)
def u149 (a0 : Int) (a1 : Y41) : Option (Bool) :=
 gd ((u123 a1 a0).isSome = true ∧ True) <| 
 some (!vl (u123 a1 a0))
def k149 : Ct := lct 149 [.dat i64, .dat (.pt y41)] (fun x => u149 x.1 x.2.1) (fun r : Bool => B r) (fun _ => ())
theorem o149 : Ok Tryz.prog k149 := by
 refine okl tok [.tmp 3] Tryz.func149 Tryz.ntmps149 rfl Tryz.results149 (by kernel_rfl) rfl ?_
 intro y ⟨a0, a1, _⟩ r H Q hn hr
 have hT := tc o123 tn
 refine qa tok hT [0, 1] (St.mk [p 0 (J a0), p 1 (D y41.pt a1)] []) (by kernel_rfl) ?_
 refine qb tok hT [3] (St.mk [p 3 (B !vl (u123 a1 a0))] []) H (by kernel_rfl) fun H => ?_
 exact vx_ret <| hr H (by kernel_rfl)
def u169c149J0 : Unit → Option (Int)
 | _ =>
 some (-1)
def u169c149L1 (a0 : List Int) (a1 : Y41) (g1 : Int → Option (Int)) : Int → Option (Int)
 | v0 =>
 if (decide (v0 < (↑a0.length : Int))) = true then
  gd (ix v0 a0.length ∧ (u149 (a0.getD v0.toNat 0) a1).isSome = true ∧ True) <| 
  if (vl (u149 (a0.getD v0.toNat 0) a1)) = true then
   some v0
  else
   gd (in64 (v0 + 1) ∧ True) <| 
   g1 (v0 + 1)
 else
  u169c149J0 ()
def u169c149 (a0 : List Int) (a1 : Y41) : Option (Int) :=
 lp (u169c149L1 a0 a1) 0
def k169c149 : Ct := lct 169 [.dat i64.sl, .fn 149 y41.pt] (fun x => u169c149 x.1 x.2.1) (fun r : Int => I r) (fun _ => ())
theorem o169c149 : Ok Tryz.prog k169c149 := by
 refine okl tok [.tmp 4] Tryz.func169 Tryz.ntmps169 rfl Tryz.results169 (by kernel_rfl) rfl ?_
 intro y ⟨a0, a1, _⟩ r H Q hn hr
 have hT := tc o149 tn
 refine qa tok hT [0, 1] (St.mk [p 0 (L i64 a0), p 1 (AV.fn 149 [D y41.pt a1])] []) (by kernel_rfl) ?_
 refine jn r (fun (_ : Unit) => St.mk [] []) (u169c149J0) (fun _ H => ?_) (fun _ n0 e0 t0 => ?_)
 ·refine qa tok hT [4] (St.mk [p 4 (I (-1))] []) (by kernel_rfl) ?_
  exact vx_ret <| hr H (by kernel_rfl)
 refine qa tok hT [0, 1, 7, 8] (St.mk [p 0 (L i64 a0), p 1 (AV.fn 149 [D y41.pt a1]), p 7 (I (↑a0.length : Int)), p 8 (I 0)] []) (by kernel_rfl) ?_
 refine vx_block <| ?_
 refine lx (fun (v0 : Int) => St.mk [p 0 (L i64 a0), p 1 (AV.fn 149 [D y41.pt a1]), p 7 (I (↑a0.length : Int)), p 8 (I v0)] []) 0 H (by kernel_rfl) fun _ g1 b1 e1 t1 v0 H => ?_
 refine qa tok hT [0, 1, 7, 8, 9] (St.mk [p 0 (L i64 a0), p 1 (AV.fn 149 [D y41.pt a1]), p 7 (I (↑a0.length : Int)), p 8 (I v0), p 9 (B (decide (v0 < (↑a0.length : Int))))] []) (by kernel_rfl) ?_
 refine vx_seq <| ?_
 refine cd H (by kernel_rfl) (fun H => ?_) (fun H => ?_)
 ·refine vx_skip <| fx_seq <| vx_seq <| vx_block <| ?_
  refine qa tok hT [0, 1, 5, 7, 8] (St.mk [p 0 (L i64 a0), p 1 (AV.fn 149 [D y41.pt a1]), p 5 (I v0), p 7 (I (↑a0.length : Int)), p 8 (I v0)] []) (by kernel_rfl) ?_
  refine qb tok hT [0, 1, 5, 7, 8, 16] (St.mk [p 0 (L i64 a0), p 1 (AV.fn 149 [D y41.pt a1]), p 5 (I v0), p 7 (I (↑a0.length : Int)), p 8 (I v0), p 16 (B (vl (u149 (a0.getD v0.toNat 0) a1)))] []) H (by kernel_rfl) fun H => ?_
  refine cd H (by kernel_rfl) (fun H => ?_) (fun H => ?_)
  ·refine qa tok hT [4] (St.mk [p 4 (I v0)] []) (by kernel_rfl) ?_
   exact vx_ret <| fx_blk_ret <| fx_seq_ret <| t1 <| fx_blk_ret <| t0 <| hr H (by kernel_rfl)
  refine vx_skip <| fx_blk <| fx_seq <| ?_
  refine zb tok hT [0, 1, 7, 8] (St.mk [p 0 (L i64 a0), p 1 (AV.fn 149 [D y41.pt a1]), p 7 (I (↑a0.length : Int)), p 8 (I (v0 + 1))] []) H (by kernel_rfl) fun H => ?_
  exact b1 H (by kernel_rfl)
 exact vx_exit <| fx_seq_exit <| e1 <| fx_blk_exit rfl <| n0 H (by kernel_rfl)
def u148c149 (a0 : List Int) (a1 : Y41) : Option (Bool) :=
 gd ((u169c149 a0 a1).isSome = true ∧ True) <| lt (vl (u169c149 a0 a1)) fun v0 =>
 some (decide (0 ≤ v0))
def k148c149 : Ct := lct 148 [.dat i64.sl, .fn 149 (.pt y41)] (fun x => u148c149 x.1 x.2.1) (fun r : Bool => B r) (fun _ => ())
theorem o148c149 : Ok Tryz.prog k148c149 := by
 refine okl tok [.tmp 4] Tryz.func148 Tryz.ntmps148 rfl Tryz.results148 (by kernel_rfl) rfl ?_
 intro y ⟨a0, a1, _⟩ r H Q hn hr
 have hT := tc o169c152 (tc o169c149 (tc o149 tn))
 refine qa tok hT [0, 1] (St.mk [p 0 (L i64 a0), p 1 (AV.fn 149 [D y41.pt a1])] []) (by kernel_rfl) ?_
 refine qd tok hT [4] (fun v0 => St.mk [p 4 (B (decide (0 ≤ v0)))] []) H (by kernel_rfl) fun v0 H => ?_
 exact vx_ret <| hr H (by kernel_rfl)
def u122 (a0 : Y41) (a1 : List Y152) (a2 : Y141) : Option (Bool) :=
 gd ((u147 a1).isSome = true ∧ in64 (vl (u147 a1) - 1) ∧ (u87 a2.2.1 0 (vl (u147 a1) - 1)).isSome = true ∧ (vl (u87 a2.2.1 0 (vl (u147 a1) - 1)) = true ∧ True → ix a2.2.1 a1.length) ∧ ((vl (u87 a2.2.1 0 (vl (u147 a1) - 1)) && (↑a2.2.2.length : Int) == (↑(a1.getD a2.2.1.toNat (dflt y152)).2.2.1.length : Int)) = true ∧ True → (u148c149 a2.2.2 a0).isSome = true) ∧ True) <| 
 some (vl (u87 a2.2.1 0 (vl (u147 a1) - 1)) && (↑a2.2.2.length : Int) == (↑(a1.getD a2.2.1.toNat (dflt y152)).2.2.1.length : Int) && !vl (u148c149 a2.2.2 a0))
def k122 : Ct := lct 122 [.agg y41, .agg y152.sl, .agg y141] (fun x => u122 x.1 x.2.1 x.2.2.1) (fun r : Bool => B r) (fun _ => ())
theorem o122 : Ok Tryz.prog k122 := by
 refine okl tok [.tmp 6] Tryz.func122 Tryz.ntmps122 rfl Tryz.results122 (by kernel_rfl) rfl ?_
 intro y ⟨a0, a1, a2, _⟩ r H Q hn hr
 have hT := tc o148c152 (tc o148c149 (tc o149 (tc o87 (tc o147 tn))))
 refine qa tok hT [3, 4, 5] (St.mk [p 3 (AV.ptr 3 0), p 4 (AV.ptr 4 0), p 5 (AV.ptr 5 0)] [(5, Ob.box 141 (cellsD false y141 a2)), (4, Ob.box 37 [L y152 a1]), (3, Ob.box 41 (cellsD false y41 a0))]) (by kernel_rfl) ?_
 refine qb tok hT [6] (St.mk [p 6 (B (vl (u87 a2.2.1 0 (vl (u147 a1) - 1)) && (↑a2.2.2.length : Int) == (↑(a1.getD a2.2.1.toNat (dflt y152)).2.2.1.length : Int) && !vl (u148c149 a2.2.2 a0)))] [(5, Ob.box 141 (cellsD false y141 a2)), (4, Ob.box 37 [L y152 a1]), (3, Ob.box 41 (cellsD false y41 a0))]) H (by kernel_rfl) fun H => ?_
 exact vx_ret <| hr H (by kernel_rfl)
def u184J0 : Unit → Option (Int)
 | _ =>
 some (-1)
def u184L1 (a1 : ByteArray) (a0 : List ByteArray) (g1 : Int → Option (Int)) : Int → Option (Int)
 | v0 =>
 if (decide (v0 < (↑a0.length : Int))) = true then
  gd (ix v0 a0.length ∧ True) <| 
  if (decide (a1 = a0.getD v0.toNat (dflt Ty.str))) = true then
   some v0
  else
   gd (in64 (v0 + 1) ∧ True) <| 
   g1 (v0 + 1)
 else
  u184J0 ()
def u184 (a0 : List ByteArray) (a1 : ByteArray) : Option (Int) :=
 lp (u184L1 a1 a0) 0
def k184 : Ct := lct 184 [.dat Ty.str.sl, .dat Ty.str] (fun x => u184 x.1 x.2.1) (fun r : Int => I r) (fun _ => ())
theorem o184 : Ok Tryz.prog k184 := by
 refine okl tok [.tmp 4] Tryz.func184 Tryz.ntmps184 rfl Tryz.results184 (by kernel_rfl) rfl ?_
 intro y ⟨a0, a1, _⟩ r H Q hn hr
 have hT := @tn Tryz.prog
 refine qa tok hT [0, 1] (St.mk [p 0 (L Ty.str a0), p 1 (U a1)] []) (by kernel_rfl) ?_
 refine jn r (fun (_ : Unit) => St.mk [] []) (u184J0) (fun _ H => ?_) (fun _ n0 e0 t0 => ?_)
 ·refine qa tok hT [4] (St.mk [p 4 (I (-1))] []) (by kernel_rfl) ?_
  exact vx_ret <| hr H (by kernel_rfl)
 refine qa tok hT [0, 1, 7, 8] (St.mk [p 0 (L Ty.str a0), p 1 (U a1), p 7 (I (↑a0.length : Int)), p 8 (I 0)] []) (by kernel_rfl) ?_
 refine vx_block <| ?_
 refine lx (fun (v0 : Int) => St.mk [p 0 (L Ty.str a0), p 1 (U a1), p 7 (I (↑a0.length : Int)), p 8 (I v0)] []) 0 H (by kernel_rfl) fun _ g1 b1 e1 t1 v0 H => ?_
 refine qa tok hT [0, 1, 7, 8, 9] (St.mk [p 0 (L Ty.str a0), p 1 (U a1), p 7 (I (↑a0.length : Int)), p 8 (I v0), p 9 (B (decide (v0 < (↑a0.length : Int))))] []) (by kernel_rfl) ?_
 refine vx_seq <| ?_
 refine cd H (by kernel_rfl) (fun H => ?_) (fun H => ?_)
 ·refine vx_skip <| fx_seq <| vx_seq <| vx_block <| ?_
  refine qa tok hT [0, 1, 5, 7, 8] (St.mk [p 0 (L Ty.str a0), p 1 (U a1), p 5 (I v0), p 7 (I (↑a0.length : Int)), p 8 (I v0)] []) (by kernel_rfl) ?_
  refine qb tok hT [0, 1, 5, 7, 8, 16] (St.mk [p 0 (L Ty.str a0), p 1 (U a1), p 5 (I v0), p 7 (I (↑a0.length : Int)), p 8 (I v0), p 16 (B (decide (a1 = a0.getD v0.toNat (dflt Ty.str))))] []) H (by kernel_rfl) fun H => ?_
  refine cd H (by kernel_rfl) (fun H => ?_) (fun H => ?_)
  ·refine qa tok hT [4] (St.mk [p 4 (I v0)] []) (by kernel_rfl) ?_
   exact vx_ret <| fx_blk_ret <| fx_seq_ret <| t1 <| fx_blk_ret <| t0 <| hr H (by kernel_rfl)
  refine vx_skip <| fx_blk <| fx_seq <| ?_
  refine zb tok hT [0, 1, 7, 8] (St.mk [p 0 (L Ty.str a0), p 1 (U a1), p 7 (I (↑a0.length : Int)), p 8 (I (v0 + 1))] []) H (by kernel_rfl) fun H => ?_
  exact b1 H (by kernel_rfl)
 exact vx_exit <| fx_seq_exit <| e1 <| fx_blk_exit rfl <| n0 H (by kernel_rfl)
def u168 (a0 : List ByteArray) (a1 : ByteArray) : Option (Bool) :=
 gd ((u184 a0 a1).isSome = true ∧ True) <| lt (vl (u184 a0 a1)) fun v0 =>
 some (decide (0 ≤ v0))
def k168 : Ct := lct 168 [.dat Ty.str.sl, .dat Ty.str] (fun x => u168 x.1 x.2.1) (fun r : Bool => B r) (fun _ => ())
theorem o168 : Ok Tryz.prog k168 := by
 refine okl tok [.tmp 4] Tryz.func168 Tryz.ntmps168 rfl Tryz.results168 (by kernel_rfl) rfl ?_
 intro y ⟨a0, a1, _⟩ r H Q hn hr
 have hT := tc o184 tn
 refine qa tok hT [0, 1] (St.mk [p 0 (L Ty.str a0), p 1 (U a1)] []) (by kernel_rfl) ?_
 refine qd tok hT [4] (fun v0 => St.mk [p 4 (B (decide (0 ≤ v0)))] []) H (by kernel_rfl) fun v0 H => ?_
 exact vx_ret <| hr H (by kernel_rfl)
def u164 (a0 : ByteArray) : Option (Bool) :=
 gd ((u87 (↑a0.size : Int) (1 : Int) (8 : Int)).isSome = true ∧ (vl (u87 (↑a0.size : Int) (1 : Int) (8 : Int)) = true ∧ True → (u176 a0 (ByteArray.mk #[(97 : UInt8), (98 : UInt8), (99 : UInt8), (100 : UInt8), (101 : UInt8), (102 : UInt8), (103 : UInt8), (104 : UInt8), (105 : UInt8), (106 : UInt8), (107 : UInt8), (108 : UInt8), (109 : UInt8), (110 : UInt8), (111 : UInt8), (112 : UInt8), (113 : UInt8), (114 : UInt8), (115 : UInt8), (116 : UInt8), (117 : UInt8), (118 : UInt8), (119 : UInt8), (120 : UInt8), (121 : UInt8), (122 : UInt8), (48 : UInt8), (49 : UInt8), (50 : UInt8), (51 : UInt8), (52 : UInt8), (53 : UInt8), (54 : UInt8), (55 : UInt8), (56 : UInt8), (57 : UInt8)])).isSome = true) ∧ ((vl (u87 (↑a0.size : Int) (1 : Int) (8 : Int)) && decide (vl (u176 a0 (ByteArray.mk #[(97 : UInt8), (98 : UInt8), (99 : UInt8), (100 : UInt8), (101 : UInt8), (102 : UInt8), (103 : UInt8), (104 : UInt8), (105 : UInt8), (106 : UInt8), (107 : UInt8), (108 : UInt8), (109 : UInt8), (110 : UInt8), (111 : UInt8), (112 : UInt8), (113 : UInt8), (114 : UInt8), (115 : UInt8), (116 : UInt8), (117 : UInt8), (118 : UInt8), (119 : UInt8), (120 : UInt8), (121 : UInt8), (122 : UInt8), (48 : UInt8), (49 : UInt8), (50 : UInt8), (51 : UInt8), (52 : UInt8), (53 : UInt8), (54 : UInt8), (55 : UInt8), (56 : UInt8), (57 : UInt8)])) = ByteArray.mk #[])) = true ∧ True → ix (0 : Int) a0.size) ∧ ((vl (u87 (↑a0.size : Int) (1 : Int) (8 : Int)) && decide (vl (u176 a0 (ByteArray.mk #[(97 : UInt8), (98 : UInt8), (99 : UInt8), (100 : UInt8), (101 : UInt8), (102 : UInt8), (103 : UInt8), (104 : UInt8), (105 : UInt8), (106 : UInt8), (107 : UInt8), (108 : UInt8), (109 : UInt8), (110 : UInt8), (111 : UInt8), (112 : UInt8), (113 : UInt8), (114 : UInt8), (115 : UInt8), (116 : UInt8), (117 : UInt8), (118 : UInt8), (119 : UInt8), (120 : UInt8), (121 : UInt8), (122 : UInt8), (48 : UInt8), (49 : UInt8), (50 : UInt8), (51 : UInt8), (52 : UInt8), (53 : UInt8), (54 : UInt8), (55 : UInt8), (56 : UInt8), (57 : UInt8)])) = ByteArray.mk #[])) = true ∧ True → (u177 (ByteArray.mk #[(97 : UInt8), (98 : UInt8), (99 : UInt8), (100 : UInt8), (101 : UInt8), (102 : UInt8), (103 : UInt8), (104 : UInt8), (105 : UInt8), (106 : UInt8), (107 : UInt8), (108 : UInt8), (109 : UInt8), (110 : UInt8), (111 : UInt8), (112 : UInt8), (113 : UInt8), (114 : UInt8), (115 : UInt8), (116 : UInt8), (117 : UInt8), (118 : UInt8), (119 : UInt8), (120 : UInt8), (121 : UInt8), (122 : UInt8)]) (byteAt a0 (Int.toNat (0 : Int)))).isSome = true) ∧ True) <| lt ((vl (u176 a0 (ByteArray.mk #[97, 98, 99, 100, 101, 102, 103, 104, 105, 106, 107, 108, 109, 110, 111, 112, 113, 114, 115, 116, 117, 118, 119, 120, 121, 122, 48, 49, 50, 51, 52, 53, 54, 55, 56, 57])), vl (u177 (ByteArray.mk #[(97 : UInt8), (98 : UInt8), (99 : UInt8), (100 : UInt8), (101 : UInt8), (102 : UInt8), (103 : UInt8), (104 : UInt8), (105 : UInt8), (106 : UInt8), (107 : UInt8), (108 : UInt8), (109 : UInt8), (110 : UInt8), (111 : UInt8), (112 : UInt8), (113 : UInt8), (114 : UInt8), (115 : UInt8), (116 : UInt8), (117 : UInt8), (118 : UInt8), (119 : UInt8), (120 : UInt8), (121 : UInt8), (122 : UInt8)]) (byteAt a0 (Int.toNat (0 : Int)))))) fun (v0, v1) =>
 some (vl (u87 (↑a0.size : Int) 1 8) && decide (v0 = ByteArray.mk #[]) && decide (0 ≤ v1))
def k164 : Ct := lct 164 [.dat Ty.str] (fun x => u164 x.1) (fun r : Bool => B r) (fun _ => ())
theorem o164 : Ok Tryz.prog k164 := by
 refine okl tok [.tmp 2] Tryz.func164 Tryz.ntmps164 rfl Tryz.results164 (by kernel_rfl) rfl ?_
 intro y ⟨a0, _⟩ r H Q hn hr
 have hT := tc o177 (tc o176 (tc o87 tn))
 refine qa tok hT [0] (St.mk [p 0 (U a0)] []) (by kernel_rfl) ?_
 refine qd tok hT [2] (fun (v0, v1) => St.mk [p 2 (B (vl (u87 (↑a0.size : Int) 1 8) && decide (v0 = ByteArray.mk #[]) && decide (0 ≤ v1)))] []) H (by kernel_rfl) fun ⟨v0, v1⟩ H => ?_
 exact vx_ret <| hr H (by kernel_rfl)
def u146J0 : Unit → Option (Bool)
 | _ =>
 some true
def u146L1 (a0 : List ByteArray) (g1 : Int → Option (Bool)) : Int → Option (Bool)
 | v0 =>
 if (decide (v0 < (↑a0.length : Int))) = true then
  gd (ix v0 a0.length ∧ True) <| 
  gd ((u164 (a0.getD v0.toNat (dflt Ty.str))).isSome = true ∧ ((!vl (u164 (a0.getD v0.toNat (dflt Ty.str)))) = false ∧ True → (0 : Int) ≤ (0 : Int) ∧ (0 : Int) ≤ v0 ∧ v0 ≤ (↑a0.length : Int)) ∧ ((!vl (u164 (a0.getD v0.toNat (dflt Ty.str)))) = false ∧ True → (u168 (List.take v0.toNat a0) (a0.getD v0.toNat (dflt Ty.str))).isSome = true) ∧ True) <| 
  if (!vl (u164 (a0.getD v0.toNat (dflt Ty.str))) || vl (u168 (List.take v0.toNat a0) (a0.getD v0.toNat (dflt Ty.str)))) = true then
   some false
  else
   gd (in64 (v0 + 1) ∧ True) <| 
   g1 (v0 + 1)
 else
  u146J0 ()
def u146 (a0 : List ByteArray) : Option (Bool) :=
 lp (u146L1 a0) 0
def k146 : Ct := lct 146 [.dat Ty.str.sl] (fun x => u146 x.1) (fun r : Bool => B r) (fun _ => ())
theorem o146 : Ok Tryz.prog k146 := by
 refine okl tok [.tmp 2] Tryz.func146 Tryz.ntmps146 rfl Tryz.results146 (by kernel_rfl) rfl ?_
 intro y ⟨a0, _⟩ r H Q hn hr
 have hT := tc o168 (tc o164 tn)
 refine qa tok hT [0] (St.mk [p 0 (L Ty.str a0)] []) (by kernel_rfl) ?_
 refine jn r (fun (_ : Unit) => St.mk [] []) (u146J0) (fun _ H => ?_) (fun _ n0 e0 t0 => ?_)
 ·refine qa tok hT [2] (St.mk [p 2 (B true)] []) (by kernel_rfl) ?_
  exact vx_ret <| hr H (by kernel_rfl)
 refine qa tok hT [0, 5, 6, 7] (St.mk [p 0 (L Ty.str a0), p 5 (L Ty.str a0), p 6 (I (↑a0.length : Int)), p 7 (I 0)] []) (by kernel_rfl) ?_
 refine vx_block <| ?_
 refine lx (fun (v0 : Int) => St.mk [p 0 (L Ty.str a0), p 5 (L Ty.str a0), p 6 (I (↑a0.length : Int)), p 7 (I v0)] []) 0 H (by kernel_rfl) fun _ g1 b1 e1 t1 v0 H => ?_
 refine qa tok hT [0, 5, 6, 7, 8] (St.mk [p 0 (L Ty.str a0), p 5 (L Ty.str a0), p 6 (I (↑a0.length : Int)), p 7 (I v0), p 8 (B (decide (v0 < (↑a0.length : Int))))] []) (by kernel_rfl) ?_
 refine vx_seq <| ?_
 refine cd H (by kernel_rfl) (fun H => ?_) (fun H => ?_)
 ·refine vx_skip <| fx_seq <| vx_seq <| vx_block <| ?_
  refine qb tok hT [0, 3, 4, 5, 6, 7] (St.mk [p 0 (L Ty.str a0), p 3 (I v0), p 4 (U (a0.getD v0.toNat (dflt Ty.str))), p 5 (L Ty.str a0), p 6 (I (↑a0.length : Int)), p 7 (I v0)] []) H (by kernel_rfl) fun H => ?_
  refine qb tok hT [0, 5, 6, 7, 16, 17, 18, 19, 20, 21] (St.mk [p 0 (L Ty.str a0), p 5 (L Ty.str a0), p 6 (I (↑a0.length : Int)), p 7 (I v0), p 21 (B (!vl (u164 (a0.getD v0.toNat (dflt Ty.str))) || vl (u168 (List.take v0.toNat a0) (a0.getD v0.toNat (dflt Ty.str)))))] []) H (by kernel_rfl) fun H => ?_
  refine cd H (by kernel_rfl) (fun H => ?_) (fun H => ?_)
  ·refine qa tok hT [2] (St.mk [p 2 (B false)] []) (by kernel_rfl) ?_
   exact vx_ret <| fx_blk_ret <| fx_seq_ret <| t1 <| fx_blk_ret <| t0 <| hr H (by kernel_rfl)
  refine vx_skip <| fx_blk <| fx_seq <| ?_
  refine zb tok hT [0, 5, 6, 7] (St.mk [p 0 (L Ty.str a0), p 5 (L Ty.str a0), p 6 (I (↑a0.length : Int)), p 7 (I (v0 + 1))] []) H (by kernel_rfl) fun H => ?_
  exact b1 H (by kernel_rfl)
 exact vx_exit <| fx_seq_exit <| e1 <| fx_blk_exit rfl <| n0 H (by kernel_rfl)
def u121J2 (v4 : List ByteArray) (a0 : Y41) : List ByteArray → Option (Bool)
 | v9 =>
 gd (((decide ((↑v4.length : Int) ≤ 14) && decide ((↑a0.2.1.length : Int) ≤ 30) && decide ((↑v9.length : Int) ≤ 8)) = true ∧ True → (u146 v4).isSome = true) ∧ ((decide ((↑v4.length : Int) ≤ 14) && decide ((↑a0.2.1.length : Int) ≤ 30) && decide ((↑v9.length : Int) ≤ 8) && vl (u146 v4)) = true ∧ True → (u146 a0.2.1).isSome = true) ∧ ((decide ((↑v4.length : Int) ≤ 14) && decide ((↑a0.2.1.length : Int) ≤ 30) && decide ((↑v9.length : Int) ≤ 8) && vl (u146 v4) && vl (u146 a0.2.1)) = true ∧ True → (u146 v9).isSome = true) ∧ True) <| 
 some (decide ((↑v4.length : Int) ≤ 14) && decide ((↑a0.2.1.length : Int) ≤ 30) && decide ((↑v9.length : Int) ≤ 8) && vl (u146 v4) && vl (u146 a0.2.1) && vl (u146 v9))
def u121L3 (a0 : Y41) (v4 : List ByteArray) (g3 : List ByteArray × Int → Option (Bool)) : List ByteArray × Int → Option (Bool)
 | (v6, v7) =>
 if (decide (v7 < (↑a0.2.2.length : Int))) = true then
  gd (ix v7 a0.2.2.length ∧ True) <| lt (a0.2.2.getD v7.toNat (dflt y143)) fun v8 =>
  gd ((v6.length + [v8.1].length ≤ 9223372036854775807 ∧ (v6.length + [v8.1].length) * 16 ≤ 140737488355328) ∧ True) <| 
  gd (in64 (v7 + 1) ∧ True) <| 
  g3 (v6 ++ [v8.1], v7 + 1)
 else
  u121J2 v4 a0 v6
def u121J0 (a0 : Y41) : List ByteArray → Option (Bool)
 | v4 =>
 lp (u121L3 a0 v4) ([], 0)
def u121L1 (a0 : Y41) (g1 : List ByteArray × Int → Option (Bool)) : List ByteArray × Int → Option (Bool)
 | (v1, v2) =>
 if (decide (v2 < (↑a0.1.length : Int))) = true then
  gd (ix v2 a0.1.length ∧ True) <| lt (a0.1.getD v2.toNat (dflt y141)) fun v3 =>
  gd ((v1.length + [v3.1].length ≤ 9223372036854775807 ∧ (v1.length + [v3.1].length) * 16 ≤ 140737488355328) ∧ True) <| 
  gd (in64 (v2 + 1) ∧ True) <| 
  g1 (v1 ++ [v3.1], v2 + 1)
 else
  u121J0 a0 v1
def u121 (a0 : Y41) : Option (Bool) :=
 lp (u121L1 a0) ([], 0)
def k121 : Ct := lct 121 [.agg y41] (fun x => u121 x.1) (fun r : Bool => B r) (fun _ => ())
theorem o121 : Ok Tryz.prog k121 := by
 refine okl tok [.tmp 2] Tryz.func121 Tryz.ntmps121 rfl Tryz.results121 (by kernel_rfl) rfl ?_
 intro y ⟨a0, _⟩ r H Q hn hr
 have hT := tc o146 tn
 refine qa tok hT [1] (St.mk [p 1 (AV.ptr 1 0)] [(1, Ob.box 41 (cellsD false y41 a0))]) (by kernel_rfl) ?_
 refine qa tok hT [1, 3, 4] (St.mk [p 1 (AV.ptr 1 0), p 3 (AV.v (Value.slice none 0 0)), p 4 (AV.v (Value.slice none 0 0))] [(1, Ob.box 41 (cellsD false y41 a0))]) (by kernel_rfl) ?_
 refine jn r (fun (v4 : List ByteArray) => St.mk [p 1 (AV.ptr 1 0), p 3 (AV.os 20 0), p 4 (AV.v (Value.slice none 0 0))] [(1, Ob.box 41 (cellsD false y41 a0)), (20, Ob.arr 9 true Ty.str v4 0)]) (u121J0 a0) (fun v4 H => ?_) (fun _ n0 e0 t0 => ?_)
 ·refine jn r (fun (v9 : List ByteArray) => St.mk [p 1 (AV.ptr 1 0), p 3 (AV.os 20 0), p 4 (AV.os 33 0)] [(1, Ob.box 41 (cellsD false y41 a0)), (20, Ob.arr 9 true Ty.str v4 0), (33, Ob.arr 9 true Ty.str v9 0)]) (u121J2 v4 a0) (fun v9 H => ?_) (fun _ n2 e2 t2 => ?_)
  ·refine qb tok hT [2] (St.mk [p 2 (B (decide ((↑v4.length : Int) ≤ 14) && decide ((↑a0.2.1.length : Int) ≤ 30) && decide ((↑v9.length : Int) ≤ 8) && vl (u146 v4) && vl (u146 a0.2.1) && vl (u146 v9)))] [(1, Ob.box 41 (cellsD false y41 a0)), (20, Ob.arr 9 true Ty.str v4 0), (33, Ob.arr 9 true Ty.str v9 0)]) H (by kernel_rfl) fun H => ?_
   exact vx_ret <| hr H (by kernel_rfl)
  refine qa tok hT [1, 3, 4, 23, 24, 25] (St.mk [p 1 (AV.ptr 1 0), p 3 (AV.os 20 0), p 4 (AV.v (Value.slice none 0 0)), p 23 (L y143 a0.2.2), p 24 (I (↑a0.2.2.length : Int)), p 25 (I 0)] [(1, Ob.box 41 (cellsD false y41 a0)), (20, Ob.arr 9 true Ty.str v4 0)]) (by kernel_rfl) ?_
  refine vx_block <| ?_
  refine lx (fun ((v6, v7) : List ByteArray × Int) => St.mk [p 1 (AV.ptr 1 0), p 3 (AV.os 20 0), p 4 (AV.os 33 0), p 23 (L y143 a0.2.2), p 24 (I (↑a0.2.2.length : Int)), p 25 (I v7)] [(1, Ob.box 41 (cellsD false y41 a0)), (20, Ob.arr 9 true Ty.str v4 0), (33, Ob.arr 9 true Ty.str v6 0)]) ([], 0) H (by kernel_rfl) fun _ g3 b3 e3 t3 ⟨v6, v7⟩ H => ?_
  refine qa tok hT [1, 3, 4, 23, 24, 25, 26] (St.mk [p 1 (AV.ptr 1 0), p 3 (AV.os 20 0), p 4 (AV.os 33 0), p 23 (L y143 a0.2.2), p 24 (I (↑a0.2.2.length : Int)), p 25 (I v7), p 26 (B (decide (v7 < (↑a0.2.2.length : Int))))] [(1, Ob.box 41 (cellsD false y41 a0)), (20, Ob.arr 9 true Ty.str v4 0), (33, Ob.arr 9 true Ty.str v6 0)]) (by kernel_rfl) ?_
  refine vx_seq <| ?_
  refine cd H (by kernel_rfl) (fun H => ?_) (fun H => ?_)
  ·refine vx_skip <| fx_seq <| vx_seq <| vx_block <| ?_
   refine qd tok hT [1, 3, 4, 8, 23, 24, 25] (fun v8 => St.mk [p 1 (AV.ptr 1 0), p 3 (AV.os 20 0), p 4 (AV.os 33 0), p 8 (AV.ptr 8 0), p 23 (L y143 a0.2.2), p 24 (I (↑a0.2.2.length : Int)), p 25 (I v7)] [(8, Ob.box 143 (cellsD false y143 v8)), (1, Ob.box 41 (cellsD false y41 a0)), (20, Ob.arr 9 true Ty.str v4 0), (33, Ob.arr 9 true Ty.str v6 0)]) H (by kernel_rfl) fun v8 H => ?_
   refine zb tok hT [1, 3, 4, 23, 24, 25] (St.mk [p 1 (AV.ptr 1 0), p 3 (AV.os 20 0), p 4 (AV.os 33 1), p 23 (L y143 a0.2.2), p 24 (I (↑a0.2.2.length : Int)), p 25 (I v7)] [(33, Ob.arr 9 true Ty.str (v6 ++ [v8.1]) 1), (32, Ob.arr 9 true Ty.str [v8.1] 0), (8, Ob.box 143 (cellsD false y143 v8)), (1, Ob.box 41 (cellsD false y41 a0)), (20, Ob.arr 9 true Ty.str v4 0)]) H (by kernel_rfl) fun H => ?_
   refine fx_blk <| fx_seq <| ?_
   refine zb tok hT [1, 3, 4, 23, 24, 25] (St.mk [p 1 (AV.ptr 1 0), p 3 (AV.os 20 0), p 4 (AV.os 33 1), p 23 (L y143 a0.2.2), p 24 (I (↑a0.2.2.length : Int)), p 25 (I (v7 + 1))] [(33, Ob.arr 9 true Ty.str (v6 ++ [v8.1]) 1), (32, Ob.arr 9 true Ty.str [v8.1] 0), (8, Ob.box 143 (cellsD false y143 v8)), (1, Ob.box 41 (cellsD false y41 a0)), (20, Ob.arr 9 true Ty.str v4 0)]) H (by kernel_rfl) fun H => ?_
   exact b3 H (by kernel_rfl)
  exact vx_exit <| fx_seq_exit <| e3 <| fx_blk_exit rfl <| n2 H (by kernel_rfl)
 refine qa tok hT [1, 3, 4, 10, 11, 12] (St.mk [p 1 (AV.ptr 1 0), p 3 (AV.v (Value.slice none 0 0)), p 4 (AV.v (Value.slice none 0 0)), p 10 (L y141 a0.1), p 11 (I (↑a0.1.length : Int)), p 12 (I 0)] [(1, Ob.box 41 (cellsD false y41 a0))]) (by kernel_rfl) ?_
 refine vx_block <| ?_
 refine lx (fun ((v1, v2) : List ByteArray × Int) => St.mk [p 1 (AV.ptr 1 0), p 3 (AV.os 20 0), p 4 (AV.v (Value.slice none 0 0)), p 10 (L y141 a0.1), p 11 (I (↑a0.1.length : Int)), p 12 (I v2)] [(1, Ob.box 41 (cellsD false y41 a0)), (20, Ob.arr 9 true Ty.str v1 0)]) ([], 0) H (by kernel_rfl) fun _ g1 b1 e1 t1 ⟨v1, v2⟩ H => ?_
 refine qa tok hT [1, 3, 4, 10, 11, 12, 13] (St.mk [p 1 (AV.ptr 1 0), p 3 (AV.os 20 0), p 4 (AV.v (Value.slice none 0 0)), p 10 (L y141 a0.1), p 11 (I (↑a0.1.length : Int)), p 12 (I v2), p 13 (B (decide (v2 < (↑a0.1.length : Int))))] [(1, Ob.box 41 (cellsD false y41 a0)), (20, Ob.arr 9 true Ty.str v1 0)]) (by kernel_rfl) ?_
 refine vx_seq <| ?_
 refine cd H (by kernel_rfl) (fun H => ?_) (fun H => ?_)
 ·refine vx_skip <| fx_seq <| vx_seq <| vx_block <| ?_
  refine qd tok hT [1, 3, 4, 6, 10, 11, 12] (fun v3 => St.mk [p 1 (AV.ptr 1 0), p 3 (AV.os 20 0), p 4 (AV.v (Value.slice none 0 0)), p 6 (AV.ptr 6 0), p 10 (L y141 a0.1), p 11 (I (↑a0.1.length : Int)), p 12 (I v2)] [(6, Ob.box 141 (cellsD false y141 v3)), (1, Ob.box 41 (cellsD false y41 a0)), (20, Ob.arr 9 true Ty.str v1 0)]) H (by kernel_rfl) fun v3 H => ?_
  refine zb tok hT [1, 3, 4, 10, 11, 12] (St.mk [p 1 (AV.ptr 1 0), p 3 (AV.os 20 1), p 4 (AV.v (Value.slice none 0 0)), p 10 (L y141 a0.1), p 11 (I (↑a0.1.length : Int)), p 12 (I v2)] [(20, Ob.arr 9 true Ty.str (v1 ++ [v3.1]) 1), (19, Ob.arr 9 true Ty.str [v3.1] 0), (6, Ob.box 141 (cellsD false y141 v3)), (1, Ob.box 41 (cellsD false y41 a0))]) H (by kernel_rfl) fun H => ?_
  refine fx_blk <| fx_seq <| ?_
  refine zb tok hT [1, 3, 4, 10, 11, 12] (St.mk [p 1 (AV.ptr 1 0), p 3 (AV.os 20 1), p 4 (AV.v (Value.slice none 0 0)), p 10 (L y141 a0.1), p 11 (I (↑a0.1.length : Int)), p 12 (I (v2 + 1))] [(20, Ob.arr 9 true Ty.str (v1 ++ [v3.1]) 1), (19, Ob.arr 9 true Ty.str [v3.1] 0), (6, Ob.box 141 (cellsD false y141 v3)), (1, Ob.box 41 (cellsD false y41 a0))]) H (by kernel_rfl) fun H => ?_
  exact b1 H (by kernel_rfl)
 exact vx_exit <| fx_seq_exit <| e1 <| fx_blk_exit rfl <| n0 H (by kernel_rfl)
def u201 (a0 : Y89) (a1 : Int) : Option (Bool) :=
 some (a0.1 == a1)
def k201 : Ct := lct 201 [.agg y89, .dat (.pt i64)] (fun x => u201 x.1 x.2.1) (fun r : Bool => B r) (fun _ => ())
theorem o201 : Ok Tryz.prog k201 := by
 refine okl tok [.tmp 3] Tryz.func201 Tryz.ntmps201 rfl Tryz.results201 (by kernel_rfl) rfl ?_
 intro y ⟨a0, a1, _⟩ r H Q hn hr
 have hT := @tn Tryz.prog
 refine qa tok hT [1, 2] (St.mk [p 1 (D i64.pt a1), p 2 (AV.ptr 2 0)] [(2, Ob.box 89 (cellsD false y89 a0))]) (by kernel_rfl) ?_
 refine qa tok hT [3] (St.mk [p 3 (B (a0.1 == a1))] [(2, Ob.box 89 (cellsD false y89 a0))]) (by kernel_rfl) ?_
 exact vx_ret <| hr H (by kernel_rfl)
def u200c201J0 : Unit → Option (Int)
 | _ =>
 some (-1)
def u200c201L1 (a0 : List Y89) (a1 : Int) (g1 : Int → Option (Int)) : Int → Option (Int)
 | v0 =>
 if (decide (v0 < (↑a0.length : Int))) = true then
  gd (ix v0 a0.length ∧ (u201 (a0.getD v0.toNat (dflt y89)) a1).isSome = true ∧ True) <| 
  if (vl (u201 (a0.getD v0.toNat (dflt y89)) a1)) = true then
   some v0
  else
   gd (in64 (v0 + 1) ∧ True) <| 
   g1 (v0 + 1)
 else
  u200c201J0 ()
def u200c201 (a0 : List Y89) (a1 : Int) : Option (Int) :=
 lp (u200c201L1 a0 a1) 0
def k200c201 : Ct := lct 200 [.dat y89.sl, .fn 201 i64.pt] (fun x => u200c201 x.1 x.2.1) (fun r : Int => I r) (fun _ => ())
theorem o200c201 : Ok Tryz.prog k200c201 := by
 refine okl tok [.tmp 4] Tryz.func200 Tryz.ntmps200 rfl Tryz.results200 (by kernel_rfl) rfl ?_
 intro y ⟨a0, a1, _⟩ r H Q hn hr
 have hT := tc o201 tn
 refine qa tok hT [0, 1] (St.mk [p 0 (L y89 a0), p 1 (AV.fn 201 [D i64.pt a1])] []) (by kernel_rfl) ?_
 refine jn r (fun (_ : Unit) => St.mk [] []) (u200c201J0) (fun _ H => ?_) (fun _ n0 e0 t0 => ?_)
 ·refine qa tok hT [4] (St.mk [p 4 (I (-1))] []) (by kernel_rfl) ?_
  exact vx_ret <| hr H (by kernel_rfl)
 refine qa tok hT [0, 1, 7, 8] (St.mk [p 0 (L y89 a0), p 1 (AV.fn 201 [D i64.pt a1]), p 7 (I (↑a0.length : Int)), p 8 (I 0)] []) (by kernel_rfl) ?_
 refine vx_block <| ?_
 refine lx (fun (v0 : Int) => St.mk [p 0 (L y89 a0), p 1 (AV.fn 201 [D i64.pt a1]), p 7 (I (↑a0.length : Int)), p 8 (I v0)] []) 0 H (by kernel_rfl) fun _ g1 b1 e1 t1 v0 H => ?_
 refine qa tok hT [0, 1, 7, 8, 9] (St.mk [p 0 (L y89 a0), p 1 (AV.fn 201 [D i64.pt a1]), p 7 (I (↑a0.length : Int)), p 8 (I v0), p 9 (B (decide (v0 < (↑a0.length : Int))))] []) (by kernel_rfl) ?_
 refine vx_seq <| ?_
 refine cd H (by kernel_rfl) (fun H => ?_) (fun H => ?_)
 ·refine vx_skip <| fx_seq <| vx_seq <| vx_block <| ?_
  refine qa tok hT [0, 1, 5, 7, 8] (St.mk [p 0 (L y89 a0), p 1 (AV.fn 201 [D i64.pt a1]), p 5 (I v0), p 7 (I (↑a0.length : Int)), p 8 (I v0)] []) (by kernel_rfl) ?_
  refine qb tok hT [0, 1, 5, 7, 8, 16] (St.mk [p 0 (L y89 a0), p 1 (AV.fn 201 [D i64.pt a1]), p 5 (I v0), p 7 (I (↑a0.length : Int)), p 8 (I v0), p 16 (B (vl (u201 (a0.getD v0.toNat (dflt y89)) a1)))] []) H (by kernel_rfl) fun H => ?_
  refine cd H (by kernel_rfl) (fun H => ?_) (fun H => ?_)
  ·refine qa tok hT [4] (St.mk [p 4 (I v0)] []) (by kernel_rfl) ?_
   exact vx_ret <| fx_blk_ret <| fx_seq_ret <| t1 <| fx_blk_ret <| t0 <| hr H (by kernel_rfl)
  refine vx_skip <| fx_blk <| fx_seq <| ?_
  refine zb tok hT [0, 1, 7, 8] (St.mk [p 0 (L y89 a0), p 1 (AV.fn 201 [D i64.pt a1]), p 7 (I (↑a0.length : Int)), p 8 (I (v0 + 1))] []) H (by kernel_rfl) fun H => ?_
  exact b1 H (by kernel_rfl)
 exact vx_exit <| fx_seq_exit <| e1 <| fx_blk_exit rfl <| n0 H (by kernel_rfl)
def u180c201 (a0 : List Y89) (a1 : Int) : Option (Bool) :=
 gd ((u200c201 a0 a1).isSome = true ∧ True) <| lt (vl (u200c201 a0 a1)) fun v0 =>
 some (decide (0 ≤ v0))
def k180c201 : Ct := lct 180 [.dat y89.sl, .fn 201 (.pt i64)] (fun x => u180c201 x.1 x.2.1) (fun r : Bool => B r) (fun _ => ())
theorem o180c201 : Ok Tryz.prog k180c201 := by
 refine okl tok [.tmp 4] Tryz.func180 Tryz.ntmps180 rfl Tryz.results180 (by kernel_rfl) rfl ?_
 intro y ⟨a0, a1, _⟩ r H Q hn hr
 have hT := tc o200c201 (tc o201 tn)
 refine qa tok hT [0, 1] (St.mk [p 0 (L y89 a0), p 1 (AV.fn 201 [D i64.pt a1])] []) (by kernel_rfl) ?_
 refine qd tok hT [4] (fun v0 => St.mk [p 4 (B (decide (0 ≤ v0)))] []) H (by kernel_rfl) fun v0 H => ?_
 exact vx_ret <| hr H (by kernel_rfl)
def u183 (a0 : Y152) (a1 : Int) : Option (Bool) :=
 gd ((u180c201 a0.2.2.2.1 a1).isSome = true ∧ True) <| 
 some (vl (u180c201 a0.2.2.2.1 a1))
def k183 : Ct := lct 183 [.agg y152, .dat i64] (fun x => u183 x.1 x.2.1) (fun r : Bool => B r) (fun _ => ())
theorem o183 : Ok Tryz.prog k183 := by
 refine okl tok [.tmp 4] Tryz.func183 Tryz.ntmps183 rfl Tryz.results183 (by kernel_rfl) rfl ?_
 intro y ⟨a0, a1, _⟩ r H Q hn hr
 have hT := tc o180c201 (tc o201 tn)
 refine qa tok hT [2, 3] (St.mk [p 2 (AV.ptr 2 0), p 3 (AV.ptr 3 0)] [(3, Ob.box 2 [J a1]), (2, Ob.box 152 (cellsD false y152 a0))]) (by kernel_rfl) ?_
 refine qb tok hT [4] (St.mk [p 4 (B (vl (u180c201 a0.2.2.2.1 a1)))] [(3, Ob.box 2 [J a1]), (2, Ob.box 152 (cellsD false y152 a0))]) H (by kernel_rfl) fun H => ?_
 exact vx_ret <| hr H (by kernel_rfl)
def u178 (a0 : List Y212) : Option (Int) :=
 some (↑a0.length : Int)
def k178 : Ct := lct 178 [.dat y212.sl] (fun x => u178 x.1) (fun r : Int => I r) (fun _ => ())
theorem o178 : Ok Tryz.prog k178 := by
 refine okl tok [.tmp 2] Tryz.func178 Tryz.ntmps178 rfl Tryz.results178 (by kernel_rfl) rfl ?_
 intro y ⟨a0, _⟩ r H Q hn hr
 have hT := @tn Tryz.prog
 refine qa tok hT [0] (St.mk [p 0 (L y212 a0)] []) (by kernel_rfl) ?_
 refine qa tok hT [2] (St.mk [p 2 (I (↑a0.length : Int))] []) (by kernel_rfl) ?_
 exact vx_ret <| hr H (by kernel_rfl)
def u182 (a0 : Y152) : Option (Int) :=
 gd ((u178 a0.2.2.1).isSome = true ∧ in64 (vl (u178 a0.2.2.1) - 1) ∧ True) <| lt (vl (u178 a0.2.2.1)) fun v0 =>
 some (v0 - 1)
def k182 : Ct := lct 182 [.agg y152] (fun x => u182 x.1) (fun r : Int => I r) (fun _ => ())
theorem o182 : Ok Tryz.prog k182 := by
 refine okl tok [.tmp 2] Tryz.func182 Tryz.ntmps182 rfl Tryz.results182 (by kernel_rfl) rfl ?_
 intro y ⟨a0, _⟩ r H Q hn hr
 have hT := tc o178 tn
 refine qa tok hT [1] (St.mk [p 1 (AV.ptr 1 0)] [(1, Ob.box 152 (cellsD false y152 a0))]) (by kernel_rfl) ?_
 refine qd tok hT [2] (fun v0 => St.mk [p 2 (I (v0 - 1))] [(1, Ob.box 152 (cellsD false y152 a0))]) H (by kernel_rfl) fun v0 H => ?_
 exact vx_ret <| hr H (by kernel_rfl)
def u167J0 (a0 : Y152) : Int → Option (Bool)
 | v6 =>
 if (a0.2.1 == 1) = true then
  gd (((v6 == 0) = true ∧ True → (u182 a0).isSome = true) ∧ ((v6 == 0) = true ∧ True → (0 ≤ vl (u182 a0) ∧ vl (u182 a0) ≤ 62) ∧ in64 (1 * 2 ^ (vl (u182 a0)).toNat)) ∧ ((v6 == 0 && (↑a0.2.2.2.2.1.length : Int) == 1 * 2 ^ (vl (u182 a0)).toNat) = true ∧ True → (u127 a0.2.2.2.2.1 0 1).isSome = true) ∧ True) <| lt (vl (u182 a0)) fun v7 =>
  some (v6 == 0 && (↑a0.2.2.2.2.1.length : Int) == 1 * 2 ^ v7.toNat && vl (u127 a0.2.2.2.2.1 0 1))
 else
  if (a0.2.1 == 2) = true then
   gd (((v6 == 1 && (↑a0.2.2.2.2.1.length : Int) == 0) = true ∧ True → (u183 a0 1).isSome = true) ∧ ((v6 == 1 && (↑a0.2.2.2.2.1.length : Int) == 0 && !vl (u183 a0 1)) = true ∧ True → (u183 a0 2).isSome = true) ∧ ((v6 == 1 && (↑a0.2.2.2.2.1.length : Int) == 0 && !vl (u183 a0 1)) = true ∧ True → (u183 a0 3).isSome = true) ∧ True) <| 
   some (v6 == 1 && (↑a0.2.2.2.2.1.length : Int) == 0 && !vl (u183 a0 1) && !vl (u183 a0 2) == vl (u183 a0 3))
  else
   if (a0.2.1 == 3) = true then
    gd (((v6 == 1 && (↑a0.2.2.2.2.1.length : Int) == 0) = true ∧ True → (u183 a0 1).isSome = true) ∧ ((v6 == 1 && (↑a0.2.2.2.2.1.length : Int) == 0 && vl (u183 a0 1)) = true ∧ True → (u183 a0 2).isSome = true) ∧ ((v6 == 1 && (↑a0.2.2.2.2.1.length : Int) == 0 && vl (u183 a0 1) && vl (u183 a0 2)) = true ∧ True → (u183 a0 3).isSome = true) ∧ True) <| 
    some (v6 == 1 && (↑a0.2.2.2.2.1.length : Int) == 0 && vl (u183 a0 1) && vl (u183 a0 2) && !vl (u183 a0 3))
   else
    some false
def u167J2 (v3 : Int) (g1 : Int × Int → Option (Bool)) : Int → Option (Bool)
 | v5 =>
 gd (in64 (v3 + 1) ∧ True) <| 
 g1 (v5, v3 + 1)
def u167L1 (a0 : Y152) (g1 : Int × Int → Option (Bool)) : Int × Int → Option (Bool)
 | (v2, v3) =>
 if (decide (v3 < (↑a0.2.2.1.length : Int))) = true then
  gd (ix v3 a0.2.2.1.length ∧ True) <| lt (a0.2.2.1.getD v3.toNat (dflt y212)) fun v4 =>
  if v4.2.2.2 = true then
   gd (in64 (v2 + 1) ∧ True) <| 
   u167J2 v3 g1 (v2 + 1)
  else
   u167J2 v3 g1 v2
 else
  u167J0 a0 v2
def u167 (a0 : Y152) : Option (Bool) :=
 lp (u167L1 a0) (0, 0)
def k167 : Ct := lct 167 [.agg y152] (fun x => u167 x.1) (fun r : Bool => B r) (fun _ => ())
theorem o167 : Ok Tryz.prog k167 := by
 refine okl tok [.tmp 2] Tryz.func167 Tryz.ntmps167 rfl Tryz.results167 (by kernel_rfl) rfl ?_
 intro y ⟨a0, _⟩ r H Q hn hr
 have hT := tc o183 (tc o127 (tc o182 tn))
 refine qa tok hT [1] (St.mk [p 1 (AV.ptr 1 0)] [(1, Ob.box 152 (cellsD false y152 a0))]) (by kernel_rfl) ?_
 refine qa tok hT [1, 3] (St.mk [p 1 (AV.ptr 1 0), p 3 (I 0)] [(1, Ob.box 152 (cellsD false y152 a0))]) (by kernel_rfl) ?_
 refine jn r (fun (v6 : Int) => St.mk [p 1 (AV.ptr 1 0), p 3 (I v6)] [(1, Ob.box 152 (cellsD false y152 a0))]) (u167J0 a0) (fun v6 H => ?_) (fun _ n0 e0 t0 => ?_)
 ·refine vx_seq <| ?_
  refine qa tok hT [1, 3, 19] (St.mk [p 1 (AV.ptr 1 0), p 3 (I v6), p 19 (J a0.2.1)] [(1, Ob.box 152 (cellsD false y152 a0))]) (by kernel_rfl) ?_
  refine vx_block <| ?_
  refine qa tok hT [1, 3, 19, 20] (St.mk [p 1 (AV.ptr 1 0), p 3 (I v6), p 19 (J a0.2.1), p 20 (B (a0.2.1 == 1))] [(1, Ob.box 152 (cellsD false y152 a0))]) (by kernel_rfl) ?_
  refine cd H (by kernel_rfl) (fun H => ?_) (fun H => ?_)
  ·refine qd tok hT [2] (fun v7 => St.mk [p 2 (B (v6 == 0 && (↑a0.2.2.2.2.1.length : Int) == 1 * 2 ^ v7.toNat && vl (u127 a0.2.2.2.2.1 0 1)))] [(1, Ob.box 152 (cellsD false y152 a0))]) H (by kernel_rfl) fun v7 H => ?_
   exact vx_ret <| fx_blk_ret <| fx_seq_ret <| hr H (by kernel_rfl)
  refine qa tok hT [1, 3, 19, 38] (St.mk [p 1 (AV.ptr 1 0), p 3 (I v6), p 19 (J a0.2.1), p 38 (B (a0.2.1 == 2))] [(1, Ob.box 152 (cellsD false y152 a0))]) (by kernel_rfl) ?_
  refine cd H (by kernel_rfl) (fun H => ?_) (fun H => ?_)
  ·refine qb tok hT [2] (St.mk [p 2 (B (v6 == 1 && (↑a0.2.2.2.2.1.length : Int) == 0 && !vl (u183 a0 1) && !vl (u183 a0 2) == vl (u183 a0 3)))] [(1, Ob.box 152 (cellsD false y152 a0))]) H (by kernel_rfl) fun H => ?_
   exact vx_ret <| fx_blk_ret <| fx_seq_ret <| hr H (by kernel_rfl)
  refine qa tok hT [1, 3, 60] (St.mk [p 1 (AV.ptr 1 0), p 3 (I v6), p 60 (B (a0.2.1 == 3))] [(1, Ob.box 152 (cellsD false y152 a0))]) (by kernel_rfl) ?_
  refine cd H (by kernel_rfl) (fun H => ?_) (fun H => ?_)
  ·refine qb tok hT [2] (St.mk [p 2 (B (v6 == 1 && (↑a0.2.2.2.2.1.length : Int) == 0 && vl (u183 a0 1) && vl (u183 a0 2) && !vl (u183 a0 3)))] [(1, Ob.box 152 (cellsD false y152 a0))]) H (by kernel_rfl) fun H => ?_
   exact vx_ret <| fx_blk_ret <| fx_seq_ret <| hr H (by kernel_rfl)
  refine vx_skip <| fx_blk <| fx_seq <| ?_
  refine qa tok hT [2] (St.mk [p 2 (B false)] [(1, Ob.box 152 (cellsD false y152 a0))]) (by kernel_rfl) ?_
  exact vx_ret <| hr H (by kernel_rfl)
 refine qa tok hT [1, 3, 7, 8, 9] (St.mk [p 1 (AV.ptr 1 0), p 3 (I 0), p 7 (L y212 a0.2.2.1), p 8 (I (↑a0.2.2.1.length : Int)), p 9 (I 0)] [(1, Ob.box 152 (cellsD false y152 a0))]) (by kernel_rfl) ?_
 refine vx_block <| ?_
 refine lx (fun ((v2, v3) : Int × Int) => St.mk [p 1 (AV.ptr 1 0), p 3 (I v2), p 7 (L y212 a0.2.2.1), p 8 (I (↑a0.2.2.1.length : Int)), p 9 (I v3)] [(1, Ob.box 152 (cellsD false y152 a0))]) (0, 0) H (by kernel_rfl) fun _ g1 b1 e1 t1 ⟨v2, v3⟩ H => ?_
 refine qa tok hT [1, 3, 7, 8, 9, 10] (St.mk [p 1 (AV.ptr 1 0), p 3 (I v2), p 7 (L y212 a0.2.2.1), p 8 (I (↑a0.2.2.1.length : Int)), p 9 (I v3), p 10 (B (decide (v3 < (↑a0.2.2.1.length : Int))))] [(1, Ob.box 152 (cellsD false y152 a0))]) (by kernel_rfl) ?_
 refine vx_seq <| ?_
 refine cd H (by kernel_rfl) (fun H => ?_) (fun H => ?_)
 ·refine vx_skip <| fx_seq <| ?_
  refine jn r (fun (v5 : Int) => St.mk [p 1 (AV.ptr 1 0), p 3 (I v5), p 7 (L y212 a0.2.2.1), p 8 (I (↑a0.2.2.1.length : Int)), p 9 (I v3)] [(1, Ob.box 152 (cellsD false y152 a0))]) (u167J2 v3 g1) (fun v5 H => ?_) (fun _ n2 e2 t2 => ?_)
  ·refine zb tok hT [1, 3, 7, 8, 9] (St.mk [p 1 (AV.ptr 1 0), p 3 (I v5), p 7 (L y212 a0.2.2.1), p 8 (I (↑a0.2.2.1.length : Int)), p 9 (I (v3 + 1))] [(1, Ob.box 152 (cellsD false y152 a0))]) H (by kernel_rfl) fun H => ?_
   exact b1 H (by kernel_rfl)
  refine vx_block <| ?_
  refine qd tok hT [1, 3, 5, 7, 8, 9] (fun v4 => St.mk [p 1 (AV.ptr 1 0), p 3 (I v2), p 5 (AV.ptr 5 0), p 7 (L y212 a0.2.2.1), p 8 (I (↑a0.2.2.1.length : Int)), p 9 (I v3)] [(5, Ob.box 212 (cellsD false y212 v4)), (1, Ob.box 152 (cellsD false y152 a0))]) H (by kernel_rfl) fun v4 H => ?_
  refine qa tok hT [1, 3, 7, 8, 9, 14] (St.mk [p 1 (AV.ptr 1 0), p 3 (I v2), p 7 (L y212 a0.2.2.1), p 8 (I (↑a0.2.2.1.length : Int)), p 9 (I v3), p 14 (C v4.2.2.2)] [(5, Ob.box 212 (cellsD false y212 v4)), (1, Ob.box 152 (cellsD false y152 a0))]) (by kernel_rfl) ?_
  refine cd H (by kernel_rfl) (fun H => ?_) (fun H => ?_)
  ·refine zb tok hT [1, 3, 7, 8, 9] (St.mk [p 1 (AV.ptr 1 0), p 3 (I (v2 + 1)), p 7 (L y212 a0.2.2.1), p 8 (I (↑a0.2.2.1.length : Int)), p 9 (I v3)] [(5, Ob.box 212 (cellsD false y212 v4)), (1, Ob.box 152 (cellsD false y152 a0))]) H (by kernel_rfl) fun H => ?_
   exact fx_blk <| n2 H (by kernel_rfl)
  exact vx_skip <| fx_blk <| n2 H (by kernel_rfl)
 exact vx_exit <| fx_seq_exit <| e1 <| fx_blk_exit rfl <| n0 H (by kernel_rfl)
def u199 (a0 : Y152) (a1 : Int) : Option (Bool) :=
 gd ((u182 a0).isSome = true ∧ in64 (vl (u182 a0) - 1) ∧ (u87 a1 0 (vl (u182 a0) - 1)).isSome = true ∧ True) <| 
 some (vl (u87 a1 0 (vl (u182 a0) - 1)))
def k199 : Ct := lct 199 [.agg y152, .dat i64] (fun x => u199 x.1 x.2.1) (fun r : Bool => B r) (fun _ => ())
theorem o199 : Ok Tryz.prog k199 := by
 refine okl tok [.tmp 4] Tryz.func199 Tryz.ntmps199 rfl Tryz.results199 (by kernel_rfl) rfl ?_
 intro y ⟨a0, a1, _⟩ r H Q hn hr
 have hT := tc o87 (tc o182 tn)
 refine qa tok hT [1, 2] (St.mk [p 1 (J a1), p 2 (AV.ptr 2 0)] [(2, Ob.box 152 (cellsD false y152 a0))]) (by kernel_rfl) ?_
 refine qb tok hT [4] (St.mk [p 4 (B (vl (u87 a1 0 (vl (u182 a0) - 1))))] [(2, Ob.box 152 (cellsD false y152 a0))]) H (by kernel_rfl) fun H => ?_
 exact vx_ret <| hr H (by kernel_rfl)
def u212J1 : Int → Option (Int)
 | v3 =>
 some v3
def u212L2 (a0 : List Int) (g2 : Int × Int → Option (Int)) : Int × Int → Option (Int)
 | (v1, v2) =>
 if (decide (v2 < (↑a0.length : Int))) = true then
  gd (ix v2 a0.length ∧ True) <| 
  gd (in64 (v2 + 1) ∧ True) <| 
  g2 ((min v1 (a0.getD v2.toNat 0), v2 + 1))
 else
  u212J1 v1
def u212J0 (a0 : List Int) : Unit → Option (Int)
 | _ =>
 gd (ix 0 a0.length ∧ True) <| 
 lp (u212L2 a0) ((a0.getD (Int.toNat (0 : Int)) (0 : Int), 1))
def u212 (a0 : List Int) : Option (Int) :=
 if (decide ((↑a0.length : Int) < 1)) = true then
  none
 else
  u212J0 a0 ()
def k212 : Ct := lct 212 [.dat i64.sl] (fun x => u212 x.1) (fun r : Int => I r) (fun _ => ())
theorem o212 : Ok Tryz.prog k212 := by
 refine okl tok [.tmp 2] Tryz.func212 Tryz.ntmps212 rfl Tryz.results212 (by kernel_rfl) rfl ?_
 intro y ⟨a0, _⟩ r H Q hn hr
 have hT := @tn Tryz.prog
 refine qa tok hT [0] (St.mk [p 0 (L i64 a0)] []) (by kernel_rfl) ?_
 refine jn r (fun (_ : Unit) => St.mk [p 0 (L i64 a0)] []) (u212J0 a0) (fun _ H => ?_) (fun _ n0 e0 t0 => ?_)
 ·refine qb tok hT [0, 3] (St.mk [p (0 : Nat) (L i64 a0), p (3 : Nat) (J (a0.getD (Int.toNat (0 : Int)) (0 : Int)))] []) H (by kernel_rfl) fun H => ?_
  refine jn r (fun (v3 : Int) => St.mk [p 3 (J v3)] []) (u212J1) (fun v3 H => ?_) (fun _ n1 e1 t1 => ?_)
  ·refine qa tok hT [2] (St.mk [p 2 (J v3)] []) (by kernel_rfl) ?_
   exact vx_ret <| hr H (by kernel_rfl)
  refine qa tok hT [0, 3, 4] (St.mk [p (0 : Nat) (L i64 a0), p (3 : Nat) (J (a0.getD (Int.toNat (0 : Int)) (0 : Int))), p (4 : Nat) (I (1 : Int))] []) (by kernel_rfl) ?_
  refine vx_block <| ?_
  refine lx (fun ((v1, v2) : Int × Int) => St.mk [p 0 (L i64 a0), p 3 (J v1), p 4 (I v2)] []) ((a0.getD (Int.toNat (0 : Int)) (0 : Int), 1)) H (by kernel_rfl) fun _ g2 b2 e2 t2 ⟨v1, v2⟩ H => ?_
  refine vx_seq <| ?_
  refine qa tok hT [0, 3, 4, 15] (St.mk [p 0 (L i64 a0), p 3 (J v1), p 4 (I v2), p 15 (B (decide (v2 < (↑a0.length : Int))))] []) (by kernel_rfl) ?_
  refine cd H (by kernel_rfl) (fun H => ?_) (fun H => ?_)
  ·refine vx_skip <| fx_seq <| vx_seq <| vx_block <| ?_
   refine zb tok hT [0, 3, 4] (St.mk [p 0 (L i64 a0), p 3 (I (min v1 (a0.getD v2.toNat 0))), p 4 (I v2)] []) H (by kernel_rfl) fun H => ?_
   refine fx_blk <| fx_seq <| ?_
   refine zb tok hT [0, 3, 4] (St.mk [p 0 (L i64 a0), p 3 (I (min v1 (a0.getD v2.toNat 0))), p 4 (I (v2 + 1))] []) H (by kernel_rfl) fun H => ?_
   exact b2 H (by kernel_rfl)
  exact vx_exit <| fx_seq_exit <| e2 <| fx_blk_exit rfl <| n1 H (by kernel_rfl)
 refine qa tok hT [0, 7] (St.mk [p 0 (L i64 a0), p 7 (B (decide ((↑a0.length : Int) < 1)))] []) (by kernel_rfl) ?_
 refine cd H (by kernel_rfl) (fun H => ?_) (fun H => ?_)
 ·exact dead H
 exact vx_skip <| n0 H (by kernel_rfl)
def u224J0 : Unit → Option (Bool)
 | _ =>
 some true
def u224L1 (a0 : List Int) (g1 : Int → Option (Bool)) : Int → Option (Bool)
 | v0 =>
 if (decide (v0 < (↑a0.length : Int))) = true then
  gd (in64 (v0 - 1) ∧ ix (v0 - 1) a0.length ∧ ix v0 a0.length ∧ True) <| 
  if (decide (a0.getD v0.toNat 0 ≤ a0.getD (v0 - 1).toNat 0)) = true then
   some false
  else
   gd (in64 (v0 + 1) ∧ True) <| 
   g1 (v0 + 1)
 else
  u224J0 ()
def u224 (a0 : List Int) : Option (Bool) :=
 lp (u224L1 a0) 1
def k224 : Ct := lct 224 [.dat i64.sl] (fun x => u224 x.1) (fun r : Bool => B r) (fun _ => ())
theorem o224 : Ok Tryz.prog k224 := by
 refine okl tok [.tmp 2] Tryz.func224 Tryz.ntmps224 rfl Tryz.results224 (by kernel_rfl) rfl ?_
 intro y ⟨a0, _⟩ r H Q hn hr
 have hT := @tn Tryz.prog
 refine qa tok hT [0] (St.mk [p 0 (L i64 a0)] []) (by kernel_rfl) ?_
 refine jn r (fun (_ : Unit) => St.mk [] []) (u224J0) (fun _ H => ?_) (fun _ n0 e0 t0 => ?_)
 ·refine qa tok hT [2] (St.mk [p 2 (B true)] []) (by kernel_rfl) ?_
  exact vx_ret <| hr H (by kernel_rfl)
 refine qa tok hT [0, 3] (St.mk [p 0 (L i64 a0), p 3 (I 1)] []) (by kernel_rfl) ?_
 refine vx_block <| ?_
 refine lx (fun (v0 : Int) => St.mk [p 0 (L i64 a0), p 3 (I v0)] []) 1 H (by kernel_rfl) fun _ g1 b1 e1 t1 v0 H => ?_
 refine vx_seq <| ?_
 refine qa tok hT [0, 3, 7] (St.mk [p 0 (L i64 a0), p 3 (I v0), p 7 (B (decide (v0 < (↑a0.length : Int))))] []) (by kernel_rfl) ?_
 refine cd H (by kernel_rfl) (fun H => ?_) (fun H => ?_)
 ·refine vx_skip <| fx_seq <| vx_seq <| vx_block <| ?_
  refine qb tok hT [0, 3, 19] (St.mk [p 0 (L i64 a0), p 3 (I v0), p 19 (B (decide (a0.getD v0.toNat 0 ≤ a0.getD (v0 - 1).toNat 0)))] []) H (by kernel_rfl) fun H => ?_
  refine cd H (by kernel_rfl) (fun H => ?_) (fun H => ?_)
  ·refine qa tok hT [2] (St.mk [p 2 (B false)] []) (by kernel_rfl) ?_
   exact vx_ret <| fx_blk_ret <| fx_seq_ret <| t1 <| fx_blk_ret <| t0 <| hr H (by kernel_rfl)
  refine vx_skip <| fx_blk <| fx_seq <| ?_
  refine zb tok hT [0, 3] (St.mk [p 0 (L i64 a0), p 3 (I (v0 + 1))] []) H (by kernel_rfl) fun H => ?_
  exact b1 H (by kernel_rfl)
 exact vx_exit <| fx_seq_exit <| e1 <| fx_blk_exit rfl <| n0 H (by kernel_rfl)
def u220 (a0 : List Int) : Option (Bool) :=
 gd ((u96 a0).isSome = true ∧ (u87 (vl (u96 a0)) 1 4).isSome = true ∧ (vl (u87 (vl (u96 a0)) 1 4) = true ∧ True → (u127 a0 0 100000).isSome = true) ∧ ((vl (u87 (vl (u96 a0)) 1 4) && vl (u127 a0 0 100000)) = true ∧ True → (u224 a0).isSome = true) ∧ True) <| 
 some (vl (u87 (vl (u96 a0)) 1 4) && vl (u127 a0 0 100000) && vl (u224 a0))
def k220 : Ct := lct 220 [.dat i64.sl] (fun x => u220 x.1) (fun r : Bool => B r) (fun _ => ())
theorem o220 : Ok Tryz.prog k220 := by
 refine okl tok [.tmp 2] Tryz.func220 Tryz.ntmps220 rfl Tryz.results220 (by kernel_rfl) rfl ?_
 intro y ⟨a0, _⟩ r H Q hn hr
 have hT := tc o224 (tc o127 (tc o87 (tc o96 tn)))
 refine qa tok hT [0] (St.mk [p 0 (L i64 a0)] []) (by kernel_rfl) ?_
 refine qb tok hT [2] (St.mk [p 2 (B (vl (u87 (vl (u96 a0)) 1 4) && vl (u127 a0 0 100000) && vl (u224 a0)))] []) H (by kernel_rfl) fun H => ?_
 exact vx_ret <| hr H (by kernel_rfl)
def u211 (a0 : Y96) : Option (Bool) :=
 gd ((u220 a0.1).isSome = true ∧ (vl (u220 a0.1) = true ∧ True → (u220 a0.2.1).isSome = true) ∧ ((vl (u220 a0.1) && vl (u220 a0.2.1)) = true ∧ True → in64 ((↑a0.1.length : Int) * (↑a0.2.1.length : Int))) ∧ ((vl (u220 a0.1) && vl (u220 a0.2.1) && (↑a0.2.2.length : Int) == (↑a0.1.length : Int) * (↑a0.2.1.length : Int)) = true ∧ True → (u127 a0.2.2 (-1000000) 1000000).isSome = true) ∧ True) <| 
 some (vl (u220 a0.1) && vl (u220 a0.2.1) && (↑a0.2.2.length : Int) == (↑a0.1.length : Int) * (↑a0.2.1.length : Int) && vl (u127 a0.2.2 (-1000000) 1000000))
def k211 : Ct := lct 211 [.agg y96] (fun x => u211 x.1) (fun r : Bool => B r) (fun _ => ())
theorem o211 : Ok Tryz.prog k211 := by
 refine okl tok [.tmp 2] Tryz.func211 Tryz.ntmps211 rfl Tryz.results211 (by kernel_rfl) rfl ?_
 intro y ⟨a0, _⟩ r H Q hn hr
 have hT := tc o127 (tc o220 tn)
 refine qa tok hT [1] (St.mk [p 1 (AV.ptr 1 0)] [(1, Ob.box 96 (cellsD false y96 a0))]) (by kernel_rfl) ?_
 refine qb tok hT [2] (St.mk [p 2 (B (vl (u220 a0.1) && vl (u220 a0.2.1) && (↑a0.2.2.length : Int) == (↑a0.1.length : Int) * (↑a0.2.1.length : Int) && vl (u127 a0.2.2 (-1000000) 1000000)))] [(1, Ob.box 96 (cellsD false y96 a0))]) H (by kernel_rfl) fun H => ?_
 exact vx_ret <| hr H (by kernel_rfl)
def u210 (a0 : Y96) (a1 : Bool) : Option (Bool) :=
 gd ((u211 a0).isSome = true ∧ (a1 = true ∧ (!vl (u211 a0)) = false ∧ True → (u212 a0.2.2).isSome = true) ∧ True) <| lt (vl (u212 a0.2.2)) fun v0 =>
 some (!vl (u211 a0) || a1 && decide (v0 < 0))
def k210 : Ct := lct 210 [.agg y96, .dat (.pt Ty.bool)] (fun x => u210 x.1 x.2.1) (fun r : Bool => B r) (fun _ => ())
theorem o210 : Ok Tryz.prog k210 := by
 refine okl tok [.tmp 3] Tryz.func210 Tryz.ntmps210 rfl Tryz.results210 (by kernel_rfl) rfl ?_
 intro y ⟨a0, a1, _⟩ r H Q hn hr
 have hT := tc o212 (tc o211 tn)
 refine qa tok hT [1, 2] (St.mk [p 1 (D Ty.bool.pt a1), p 2 (AV.ptr 2 0)] [(2, Ob.box 96 (cellsD false y96 a0))]) (by kernel_rfl) ?_
 refine qd tok hT [3] (fun v0 => St.mk [p 3 (B (!vl (u211 a0) || a1 && decide (v0 < 0)))] [(2, Ob.box 96 (cellsD false y96 a0))]) H (by kernel_rfl) fun v0 H => ?_
 exact vx_ret <| hr H (by kernel_rfl)
def u219c210J0 : Unit → Option (Int)
 | _ =>
 some (-1)
def u219c210L1 (a0 : List Y96) (a1 : Bool) (g1 : Int → Option (Int)) : Int → Option (Int)
 | v0 =>
 if (decide (v0 < (↑a0.length : Int))) = true then
  gd (ix v0 a0.length ∧ (u210 (a0.getD v0.toNat (dflt y96)) a1).isSome = true ∧ True) <| 
  if (vl (u210 (a0.getD v0.toNat (dflt y96)) a1)) = true then
   some v0
  else
   gd (in64 (v0 + 1) ∧ True) <| 
   g1 (v0 + 1)
 else
  u219c210J0 ()
def u219c210 (a0 : List Y96) (a1 : Bool) : Option (Int) :=
 lp (u219c210L1 a0 a1) 0
def k219c210 : Ct := lct 219 [.dat y96.sl, .fn 210 Ty.bool.pt] (fun x => u219c210 x.1 x.2.1) (fun r : Int => I r) (fun _ => ())
theorem o219c210 : Ok Tryz.prog k219c210 := by
 refine okl tok [.tmp 4] Tryz.func219 Tryz.ntmps219 rfl Tryz.results219 (by kernel_rfl) rfl ?_
 intro y ⟨a0, a1, _⟩ r H Q hn hr
 have hT := tc o210 tn
 refine qa tok hT [0, 1] (St.mk [p 0 (L y96 a0), p 1 (AV.fn 210 [D Ty.bool.pt a1])] []) (by kernel_rfl) ?_
 refine jn r (fun (_ : Unit) => St.mk [] []) (u219c210J0) (fun _ H => ?_) (fun _ n0 e0 t0 => ?_)
 ·refine qa tok hT [4] (St.mk [p 4 (I (-1))] []) (by kernel_rfl) ?_
  exact vx_ret <| hr H (by kernel_rfl)
 refine qa tok hT [0, 1, 7, 8] (St.mk [p 0 (L y96 a0), p 1 (AV.fn 210 [D Ty.bool.pt a1]), p 7 (I (↑a0.length : Int)), p 8 (I 0)] []) (by kernel_rfl) ?_
 refine vx_block <| ?_
 refine lx (fun (v0 : Int) => St.mk [p 0 (L y96 a0), p 1 (AV.fn 210 [D Ty.bool.pt a1]), p 7 (I (↑a0.length : Int)), p 8 (I v0)] []) 0 H (by kernel_rfl) fun _ g1 b1 e1 t1 v0 H => ?_
 refine qa tok hT [0, 1, 7, 8, 9] (St.mk [p 0 (L y96 a0), p 1 (AV.fn 210 [D Ty.bool.pt a1]), p 7 (I (↑a0.length : Int)), p 8 (I v0), p 9 (B (decide (v0 < (↑a0.length : Int))))] []) (by kernel_rfl) ?_
 refine vx_seq <| ?_
 refine cd H (by kernel_rfl) (fun H => ?_) (fun H => ?_)
 ·refine vx_skip <| fx_seq <| vx_seq <| vx_block <| ?_
  refine qa tok hT [0, 1, 5, 7, 8] (St.mk [p 0 (L y96 a0), p 1 (AV.fn 210 [D Ty.bool.pt a1]), p 5 (I v0), p 7 (I (↑a0.length : Int)), p 8 (I v0)] []) (by kernel_rfl) ?_
  refine qb tok hT [0, 1, 5, 7, 8, 16] (St.mk [p 0 (L y96 a0), p 1 (AV.fn 210 [D Ty.bool.pt a1]), p 5 (I v0), p 7 (I (↑a0.length : Int)), p 8 (I v0), p 16 (B (vl (u210 (a0.getD v0.toNat (dflt y96)) a1)))] []) H (by kernel_rfl) fun H => ?_
  refine cd H (by kernel_rfl) (fun H => ?_) (fun H => ?_)
  ·refine qa tok hT [4] (St.mk [p 4 (I v0)] []) (by kernel_rfl) ?_
   exact vx_ret <| fx_blk_ret <| fx_seq_ret <| t1 <| fx_blk_ret <| t0 <| hr H (by kernel_rfl)
  refine vx_skip <| fx_blk <| fx_seq <| ?_
  refine zb tok hT [0, 1, 7, 8] (St.mk [p 0 (L y96 a0), p 1 (AV.fn 210 [D Ty.bool.pt a1]), p 7 (I (↑a0.length : Int)), p 8 (I (v0 + 1))] []) H (by kernel_rfl) fun H => ?_
  exact b1 H (by kernel_rfl)
 exact vx_exit <| fx_seq_exit <| e1 <| fx_blk_exit rfl <| n0 H (by kernel_rfl)
def u209c210 (a0 : List Y96) (a1 : Bool) : Option (Bool) :=
 gd ((u219c210 a0 a1).isSome = true ∧ True) <| lt (vl (u219c210 a0 a1)) fun v0 =>
 some (decide (0 ≤ v0))
def k209c210 : Ct := lct 209 [.dat y96.sl, .fn 210 (.pt Ty.bool)] (fun x => u209c210 x.1 x.2.1) (fun r : Bool => B r) (fun _ => ())
theorem o209c210 : Ok Tryz.prog k209c210 := by
 refine okl tok [.tmp 4] Tryz.func209 Tryz.ntmps209 rfl Tryz.results209 (by kernel_rfl) rfl ?_
 intro y ⟨a0, a1, _⟩ r H Q hn hr
 have hT := tc o219c210 (tc o210 tn)
 refine qa tok hT [0, 1] (St.mk [p 0 (L y96 a0), p 1 (AV.fn 210 [D Ty.bool.pt a1])] []) (by kernel_rfl) ?_
 refine qd tok hT [4] (fun v0 => St.mk [p 4 (B (decide (0 ≤ v0)))] []) H (by kernel_rfl) fun v0 H => ?_
 exact vx_ret <| hr H (by kernel_rfl)
def u197 (a0 : List Y96) (a1 : Bool) : Option (Bool) :=
 gd ((((↑a0.length : Int) == 2) = true ∧ True → (u209c210 a0 a1).isSome = true) ∧ True) <| 
 some ((↑a0.length : Int) == 2 && !vl (u209c210 a0 a1))
def k197 : Ct := lct 197 [.dat y96.sl, .dat Ty.bool] (fun x => u197 x.1 x.2.1) (fun r : Bool => B r) (fun _ => ())
theorem o197 : Ok Tryz.prog k197 := by
 refine okl tok [.tmp 4] Tryz.func197 Tryz.ntmps197 rfl Tryz.results197 (by kernel_rfl) rfl ?_
 intro y ⟨a0, a1, _⟩ r H Q hn hr
 have hT := tc o209c210 (tc o210 tn)
 refine qa tok hT [0, 3] (St.mk [p 0 (L y96 a0), p 3 (AV.ptr 3 0)] [(3, Ob.box 4 [C a1])]) (by kernel_rfl) ?_
 refine qb tok hT [4] (St.mk [p 4 (B ((↑a0.length : Int) == 2 && !vl (u209c210 a0 a1)))] [(3, Ob.box 4 [C a1])]) H (by kernel_rfl) fun H => ?_
 exact vx_ret <| hr H (by kernel_rfl)
def u214 (a0 : Y212) : Option (Bool) :=
 some a0.2.2.2
def k214 : Ct := lct 214 [.agg y212] (fun x => u214 x.1) (fun r : Bool => B r) (fun _ => ())
theorem o214 : Ok Tryz.prog k214 := by
 refine okl tok [.tmp 2] Tryz.func214 Tryz.ntmps214 rfl Tryz.results214 (by kernel_rfl) rfl ?_
 intro y ⟨a0, _⟩ r H Q hn hr
 have hT := @tn Tryz.prog
 refine qa tok hT [1] (St.mk [p 1 (AV.ptr 1 0)] [(1, Ob.box 212 (cellsD false y212 a0))]) (by kernel_rfl) ?_
 refine qa tok hT [2] (St.mk [p 2 (C a0.2.2.2)] [(1, Ob.box 212 (cellsD false y212 a0))]) (by kernel_rfl) ?_
 exact vx_ret <| hr H (by kernel_rfl)
def u213c214J0 : Unit → Option (Int)
 | _ =>
 some (-1)
def u213c214L1 (a0 : List Y212) (g1 : Int → Option (Int)) : Int → Option (Int)
 | v0 =>
 if (decide (v0 < (↑a0.length : Int))) = true then
  gd (ix v0 a0.length ∧ (u214 (a0.getD v0.toNat (dflt y212))).isSome = true ∧ True) <| 
  if (vl (u214 (a0.getD v0.toNat (dflt y212)))) = true then
   some v0
  else
   gd (in64 (v0 + 1) ∧ True) <| 
   g1 (v0 + 1)
 else
  u213c214J0 ()
def u213c214 (a0 : List Y212) : Option (Int) :=
 lp (u213c214L1 a0) 0
def k213c214 : Ct := lct 213 [.dat y212.sl, .nof 214] (fun x => u213c214 x.1) (fun r : Int => I r) (fun _ => ())
theorem o213c214 : Ok Tryz.prog k213c214 := by
 refine okl tok [.tmp 4] Tryz.func213 Tryz.ntmps213 rfl Tryz.results213 (by kernel_rfl) rfl ?_
 intro y ⟨a0, _, _⟩ r H Q hn hr
 have hT := tc o214 tn
 refine qa tok hT [0, 1] (St.mk [p 0 (L y212 a0), p 1 (AV.fn 214 [])] []) (by kernel_rfl) ?_
 refine jn r (fun (_ : Unit) => St.mk [] []) (u213c214J0) (fun _ H => ?_) (fun _ n0 e0 t0 => ?_)
 ·refine qa tok hT [4] (St.mk [p 4 (I (-1))] []) (by kernel_rfl) ?_
  exact vx_ret <| hr H (by kernel_rfl)
 refine qa tok hT [0, 1, 7, 8] (St.mk [p 0 (L y212 a0), p 1 (AV.fn 214 []), p 7 (I (↑a0.length : Int)), p 8 (I 0)] []) (by kernel_rfl) ?_
 refine vx_block <| ?_
 refine lx (fun (v0 : Int) => St.mk [p 0 (L y212 a0), p 1 (AV.fn 214 []), p 7 (I (↑a0.length : Int)), p 8 (I v0)] []) 0 H (by kernel_rfl) fun _ g1 b1 e1 t1 v0 H => ?_
 refine qa tok hT [0, 1, 7, 8, 9] (St.mk [p 0 (L y212 a0), p 1 (AV.fn 214 []), p 7 (I (↑a0.length : Int)), p 8 (I v0), p 9 (B (decide (v0 < (↑a0.length : Int))))] []) (by kernel_rfl) ?_
 refine vx_seq <| ?_
 refine cd H (by kernel_rfl) (fun H => ?_) (fun H => ?_)
 ·refine vx_skip <| fx_seq <| vx_seq <| vx_block <| ?_
  refine qa tok hT [0, 1, 5, 7, 8] (St.mk [p 0 (L y212 a0), p 1 (AV.fn 214 []), p 5 (I v0), p 7 (I (↑a0.length : Int)), p 8 (I v0)] []) (by kernel_rfl) ?_
  refine qb tok hT [0, 1, 5, 7, 8, 16] (St.mk [p 0 (L y212 a0), p 1 (AV.fn 214 []), p 5 (I v0), p 7 (I (↑a0.length : Int)), p 8 (I v0), p 16 (B (vl (u214 (a0.getD v0.toNat (dflt y212)))))] []) H (by kernel_rfl) fun H => ?_
  refine cd H (by kernel_rfl) (fun H => ?_) (fun H => ?_)
  ·refine qa tok hT [4] (St.mk [p 4 (I v0)] []) (by kernel_rfl) ?_
   exact vx_ret <| fx_blk_ret <| fx_seq_ret <| t1 <| fx_blk_ret <| t0 <| hr H (by kernel_rfl)
  refine vx_skip <| fx_blk <| fx_seq <| ?_
  refine zb tok hT [0, 1, 7, 8] (St.mk [p 0 (L y212 a0), p 1 (AV.fn 214 []), p 7 (I (↑a0.length : Int)), p 8 (I (v0 + 1))] []) H (by kernel_rfl) fun H => ?_
  exact b1 H (by kernel_rfl)
 exact vx_exit <| fx_seq_exit <| e1 <| fx_blk_exit rfl <| n0 H (by kernel_rfl)
def u198 (a0 : Y152) : Option (Int) :=
 gd ((u213c214 a0.2.2.1).isSome = true ∧ True) <| lt (vl (u213c214 a0.2.2.1)) fun v0 =>
 some v0
def k198 : Ct := lct 198 [.agg y152] (fun x => u198 x.1) (fun r : Int => I r) (fun _ => ())
theorem o198 : Ok Tryz.prog k198 := by
 refine okl tok [.tmp 2] Tryz.func198 Tryz.ntmps198 rfl Tryz.results198 (by kernel_rfl) rfl ?_
 intro y ⟨a0, _⟩ r H Q hn hr
 have hT := tc o214 (tc o213c214 tn)
 refine qa tok hT [1] (St.mk [p 1 (AV.ptr 1 0)] [(1, Ob.box 152 (cellsD false y152 a0))]) (by kernel_rfl) ?_
 refine qd tok hT [2] (fun v0 => St.mk [p 2 (I v0)] [(1, Ob.box 152 (cellsD false y152 a0))]) H (by kernel_rfl) fun v0 H => ?_
 exact vx_ret <| hr H (by kernel_rfl)
def u90 (a0 : Int) : Option (Bool) :=
 some (a0 == 4 || a0 == 5)
def k90 : Ct := lct 90 [.dat i64] (fun x => u90 x.1) (fun r : Bool => B r) (fun _ => ())
theorem o90 : Ok Tryz.prog k90 := by
 refine okl tok [.tmp 2] Tryz.func90 Tryz.ntmps90 rfl Tryz.results90 (by kernel_rfl) rfl ?_
 intro y ⟨a0, _⟩ r H Q hn hr
 have hT := @tn Tryz.prog
 refine qa tok hT [0] (St.mk [p 0 (J a0)] []) (by kernel_rfl) ?_
 refine qa tok hT [2] (St.mk [p 2 (B (a0 == 4 || a0 == 5))] []) (by kernel_rfl) ?_
 exact vx_ret <| hr H (by kernel_rfl)
def u179J0 (a0 : Y152) (a1 : Y89) : Bool → Option (Bool)
 | v2 =>
 if v2 = true then
  gd (ix a1.2.1 a0.2.2.1.length ∧ True) <| 
  some ((a0.2.2.1.getD a1.2.1.toNat (dflt y212)).2.2.2 && a1.2.2.2.1 == 0)
 else
  some false
def u179 (a0 : Y152) (a1 : Y89) : Option (Bool) :=
 gd ((u90 a1.1).isSome = true ∧ True) <| 
 if (vl (u90 a1.1)) = true then
  gd (((a1.2.2.2.1 == 0 && (↑a1.2.2.2.2.2.length : Int) == 0) = true ∧ True → (u197 a1.2.2.2.2.1 false).isSome = true) ∧ ((a1.2.2.2.1 == 0 && (↑a1.2.2.2.2.2.length : Int) == 0 && vl (u197 a1.2.2.2.2.1 false)) = true ∧ True → (u198 a0).isSome = true) ∧ ((a1.2.2.2.1 == 0 && (↑a1.2.2.2.2.2.length : Int) == 0 && vl (u197 a1.2.2.2.2.1 false) && a1.2.1 == vl (u198 a0) && decide (0 ≤ a1.2.1)) = true ∧ True → (u199 a0 a1.2.2.1).isSome = true) ∧ True) <| lt (vl (u198 a0)) fun v0 =>
  some (a1.2.2.2.1 == 0 && (↑a1.2.2.2.2.2.length : Int) == 0 && vl (u197 a1.2.2.2.2.1 false) && a1.2.1 == v0 && decide (0 ≤ a1.2.1) && vl (u199 a0 a1.2.2.1) && a1.2.2.1 != a1.2.1)
 else
  gd ((u197 a1.2.2.2.2.1 true).isSome = true ∧ ((!vl (u197 a1.2.2.2.2.1 true)) = false ∧ True → (u197 a1.2.2.2.2.2 true).isSome = true) ∧ ((!vl (u197 a1.2.2.2.2.1 true) || !vl (u197 a1.2.2.2.2.2 true)) = false ∧ True → (u182 a0).isSome = true) ∧ ((!vl (u197 a1.2.2.2.2.1 true) || !vl (u197 a1.2.2.2.2.2 true) || a1.2.2.1 != vl (u182 a0)) = false ∧ True → (u199 a0 a1.2.1).isSome = true) ∧ True) <| lt (vl (u182 a0)) fun v1 =>
  if (!vl (u197 a1.2.2.2.2.1 true) || !vl (u197 a1.2.2.2.2.2 true) || a1.2.2.1 != v1 || !vl (u199 a0 a1.2.1)) = true then
   some false
  else
   if (a1.1 == 1) = true then
    gd (ix a1.2.1 a0.2.2.1.length ∧ ((!(a0.2.2.1.getD a1.2.1.toNat (dflt y212)).2.2.2) = true ∧ True → (u87 a1.2.2.2.1 1 3).isSome = true) ∧ True) <| 
    some (!(a0.2.2.1.getD a1.2.1.toNat (dflt y212)).2.2.2 && vl (u87 a1.2.2.2.1 1 3))
   else
    if (a1.1 == 2) = true then
     u179J0 a0 a1 (a1.1 == 2)
    else
     u179J0 a0 a1 (a1.1 == 3)
def k179 : Ct := lct 179 [.agg y152, .agg y89] (fun x => u179 x.1 x.2.1) (fun r : Bool => B r) (fun _ => ())
theorem o179 : Ok Tryz.prog k179 := by
 refine okl tok [.tmp 4] Tryz.func179 Tryz.ntmps179 rfl Tryz.results179 (by kernel_rfl) rfl ?_
 intro y ⟨a0, a1, _⟩ r H Q hn hr
 have hT := tc o87 (tc o199 (tc o182 (tc o197 (tc o198 (tc o90 tn)))))
 refine qa tok hT [2, 3] (St.mk [p 2 (AV.ptr 2 0), p 3 (AV.ptr 3 0)] [(3, Ob.box 89 (cellsD false y89 a1)), (2, Ob.box 152 (cellsD false y152 a0))]) (by kernel_rfl) ?_
 refine vx_seq <| ?_
 refine qb tok hT [2, 3, 7] (St.mk [p 2 (AV.ptr 2 0), p 3 (AV.ptr 3 0), p 7 (B (vl (u90 a1.1)))] [(3, Ob.box 89 (cellsD false y89 a1)), (2, Ob.box 152 (cellsD false y152 a0))]) H (by kernel_rfl) fun H => ?_
 refine cd H (by kernel_rfl) (fun H => ?_) (fun H => ?_)
 ·refine qd tok hT [4] (fun v0 => St.mk [p 4 (B (a1.2.2.2.1 == 0 && (↑a1.2.2.2.2.2.length : Int) == 0 && vl (u197 a1.2.2.2.2.1 false) && a1.2.1 == v0 && decide (0 ≤ a1.2.1) && vl (u199 a0 a1.2.2.1) && a1.2.2.1 != a1.2.1))] [(3, Ob.box 89 (cellsD false y89 a1)), (2, Ob.box 152 (cellsD false y152 a0))]) H (by kernel_rfl) fun v0 H => ?_
  exact vx_ret <| fx_seq_ret <| hr H (by kernel_rfl)
 refine vx_skip <| fx_seq <| vx_seq <| ?_
 refine qd tok hT [2, 3, 70] (fun v1 => St.mk [p 2 (AV.ptr 2 0), p 3 (AV.ptr 3 0), p 70 (B (!vl (u197 a1.2.2.2.2.1 true) || !vl (u197 a1.2.2.2.2.2 true) || a1.2.2.1 != v1 || !vl (u199 a0 a1.2.1)))] [(3, Ob.box 89 (cellsD false y89 a1)), (2, Ob.box 152 (cellsD false y152 a0))]) H (by kernel_rfl) fun v1 H => ?_
 refine cd H (by kernel_rfl) (fun H => ?_) (fun H => ?_)
 ·refine qa tok hT [4] (St.mk [p 4 (B false)] [(3, Ob.box 89 (cellsD false y89 a1)), (2, Ob.box 152 (cellsD false y152 a0))]) (by kernel_rfl) ?_
  exact vx_ret <| fx_seq_ret <| hr H (by kernel_rfl)
 refine vx_skip <| fx_seq <| vx_seq <| ?_
 refine qa tok hT [2, 3, 72] (St.mk [p 2 (AV.ptr 2 0), p 3 (AV.ptr 3 0), p 72 (J a1.1)] [(3, Ob.box 89 (cellsD false y89 a1)), (2, Ob.box 152 (cellsD false y152 a0))]) (by kernel_rfl) ?_
 refine vx_block <| ?_
 refine qa tok hT [2, 3, 72, 73] (St.mk [p 2 (AV.ptr 2 0), p 3 (AV.ptr 3 0), p 72 (J a1.1), p 73 (B (a1.1 == 1))] [(3, Ob.box 89 (cellsD false y89 a1)), (2, Ob.box 152 (cellsD false y152 a0))]) (by kernel_rfl) ?_
 refine cd H (by kernel_rfl) (fun H => ?_) (fun H => ?_)
 ·refine qb tok hT [4] (St.mk [p 4 (B (!(a0.2.2.1.getD a1.2.1.toNat (dflt y212)).2.2.2 && vl (u87 a1.2.2.2.1 1 3)))] [(3, Ob.box 89 (cellsD false y89 a1)), (2, Ob.box 152 (cellsD false y152 a0))]) H (by kernel_rfl) fun H => ?_
  exact vx_ret <| fx_blk_ret <| fx_seq_ret <| hr H (by kernel_rfl)
 refine jn r (fun (v2 : Bool) => St.mk [p 2 (AV.ptr 2 0), p 3 (AV.ptr 3 0), p 88 (B v2)] [(3, Ob.box 89 (cellsD false y89 a1)), (2, Ob.box 152 (cellsD false y152 a0))]) (u179J0 a0 a1) (fun v2 H => ?_) (fun _ n0 e0 t0 => ?_)
 ·refine cd H (by kernel_rfl) (fun H => ?_) (fun H => ?_)
  ·refine qb tok hT [4] (St.mk [p 4 (B ((a0.2.2.1.getD a1.2.1.toNat (dflt y212)).2.2.2 && a1.2.2.2.1 == 0))] [(3, Ob.box 89 (cellsD false y89 a1)), (2, Ob.box 152 (cellsD false y152 a0))]) H (by kernel_rfl) fun H => ?_
   exact vx_ret <| fx_blk_ret <| fx_seq_ret <| hr H (by kernel_rfl)
  refine vx_skip <| fx_blk <| fx_seq <| ?_
  refine qa tok hT [4] (St.mk [p 4 (B false)] [(3, Ob.box 89 (cellsD false y89 a1)), (2, Ob.box 152 (cellsD false y152 a0))]) (by kernel_rfl) ?_
  exact vx_ret <| hr H (by kernel_rfl)
 refine qa tok hT [2, 3, 72, 88] (St.mk [p 2 (AV.ptr 2 0), p 3 (AV.ptr 3 0), p 72 (J a1.1), p 88 (B (a1.1 == 2))] [(3, Ob.box 89 (cellsD false y89 a1)), (2, Ob.box 152 (cellsD false y152 a0))]) (by kernel_rfl) ?_
 refine cd H (by kernel_rfl) (fun H => ?_) (fun H => ?_)
 ·exact vx_skip <| n0 H (by kernel_rfl)
 refine za tok hT [2, 3, 88] (St.mk [p 2 (AV.ptr 2 0), p 3 (AV.ptr 3 0), p 88 (B (a1.1 == 3))] [(3, Ob.box 89 (cellsD false y89 a1)), (2, Ob.box 152 (cellsD false y152 a0))]) (by kernel_rfl) ?_
 exact n0 H (by kernel_rfl)
def u181 (a0 : Y89) (a1 : Y89) : Option (Bool) :=
 some (a0.1 == a1.1 && a0.2.1 == a1.2.1 && a0.2.2.1 == a1.2.2.1)
def k181 : Ct := lct 181 [.agg y89, .dat (.pt y89)] (fun x => u181 x.1 x.2.1) (fun r : Bool => B r) (fun _ => ())
theorem o181 : Ok Tryz.prog k181 := by
 refine okl tok [.tmp 3] Tryz.func181 Tryz.ntmps181 rfl Tryz.results181 (by kernel_rfl) rfl ?_
 intro y ⟨a0, a1, _⟩ r H Q hn hr
 have hT := @tn Tryz.prog
 refine qa tok hT [1, 2] (St.mk [p 1 (D y89.pt a1), p 2 (AV.ptr 2 0)] [(2, Ob.box 89 (cellsD false y89 a0))]) (by kernel_rfl) ?_
 refine qa tok hT [3] (St.mk [p 3 (B (a0.1 == a1.1 && a0.2.1 == a1.2.1 && a0.2.2.1 == a1.2.2.1))] [(2, Ob.box 89 (cellsD false y89 a0))]) (by kernel_rfl) ?_
 exact vx_ret <| hr H (by kernel_rfl)
def u200c181J0 : Unit → Option (Int)
 | _ =>
 some (-1)
def u200c181L1 (a0 : List Y89) (a1 : Y89) (g1 : Int → Option (Int)) : Int → Option (Int)
 | v0 =>
 if (decide (v0 < (↑a0.length : Int))) = true then
  gd (ix v0 a0.length ∧ (u181 (a0.getD v0.toNat (dflt y89)) a1).isSome = true ∧ True) <| 
  if (vl (u181 (a0.getD v0.toNat (dflt y89)) a1)) = true then
   some v0
  else
   gd (in64 (v0 + 1) ∧ True) <| 
   g1 (v0 + 1)
 else
  u200c181J0 ()
def u200c181 (a0 : List Y89) (a1 : Y89) : Option (Int) :=
 lp (u200c181L1 a0 a1) 0
def k200c181 : Ct := lct 200 [.dat y89.sl, .fn 181 y89.pt] (fun x => u200c181 x.1 x.2.1) (fun r : Int => I r) (fun _ => ())
theorem o200c181 : Ok Tryz.prog k200c181 := by
 refine okl tok [.tmp 4] Tryz.func200 Tryz.ntmps200 rfl Tryz.results200 (by kernel_rfl) rfl ?_
 intro y ⟨a0, a1, _⟩ r H Q hn hr
 have hT := tc o181 tn
 refine qa tok hT [0, 1] (St.mk [p 0 (L y89 a0), p 1 (AV.fn 181 [D y89.pt a1])] []) (by kernel_rfl) ?_
 refine jn r (fun (_ : Unit) => St.mk [] []) (u200c181J0) (fun _ H => ?_) (fun _ n0 e0 t0 => ?_)
 ·refine qa tok hT [4] (St.mk [p 4 (I (-1))] []) (by kernel_rfl) ?_
  exact vx_ret <| hr H (by kernel_rfl)
 refine qa tok hT [0, 1, 7, 8] (St.mk [p 0 (L y89 a0), p 1 (AV.fn 181 [D y89.pt a1]), p 7 (I (↑a0.length : Int)), p 8 (I 0)] []) (by kernel_rfl) ?_
 refine vx_block <| ?_
 refine lx (fun (v0 : Int) => St.mk [p 0 (L y89 a0), p 1 (AV.fn 181 [D y89.pt a1]), p 7 (I (↑a0.length : Int)), p 8 (I v0)] []) 0 H (by kernel_rfl) fun _ g1 b1 e1 t1 v0 H => ?_
 refine qa tok hT [0, 1, 7, 8, 9] (St.mk [p 0 (L y89 a0), p 1 (AV.fn 181 [D y89.pt a1]), p 7 (I (↑a0.length : Int)), p 8 (I v0), p 9 (B (decide (v0 < (↑a0.length : Int))))] []) (by kernel_rfl) ?_
 refine vx_seq <| ?_
 refine cd H (by kernel_rfl) (fun H => ?_) (fun H => ?_)
 ·refine vx_skip <| fx_seq <| vx_seq <| vx_block <| ?_
  refine qa tok hT [0, 1, 5, 7, 8] (St.mk [p 0 (L y89 a0), p 1 (AV.fn 181 [D y89.pt a1]), p 5 (I v0), p 7 (I (↑a0.length : Int)), p 8 (I v0)] []) (by kernel_rfl) ?_
  refine qb tok hT [0, 1, 5, 7, 8, 16] (St.mk [p 0 (L y89 a0), p 1 (AV.fn 181 [D y89.pt a1]), p 5 (I v0), p 7 (I (↑a0.length : Int)), p 8 (I v0), p 16 (B (vl (u181 (a0.getD v0.toNat (dflt y89)) a1)))] []) H (by kernel_rfl) fun H => ?_
  refine cd H (by kernel_rfl) (fun H => ?_) (fun H => ?_)
  ·refine qa tok hT [4] (St.mk [p 4 (I v0)] []) (by kernel_rfl) ?_
   exact vx_ret <| fx_blk_ret <| fx_seq_ret <| t1 <| fx_blk_ret <| t0 <| hr H (by kernel_rfl)
  refine vx_skip <| fx_blk <| fx_seq <| ?_
  refine zb tok hT [0, 1, 7, 8] (St.mk [p 0 (L y89 a0), p 1 (AV.fn 181 [D y89.pt a1]), p 7 (I (↑a0.length : Int)), p 8 (I (v0 + 1))] []) H (by kernel_rfl) fun H => ?_
  exact b1 H (by kernel_rfl)
 exact vx_exit <| fx_seq_exit <| e1 <| fx_blk_exit rfl <| n0 H (by kernel_rfl)
def u180c181 (a0 : List Y89) (a1 : Y89) : Option (Bool) :=
 gd ((u200c181 a0 a1).isSome = true ∧ True) <| lt (vl (u200c181 a0 a1)) fun v0 =>
 some (decide (0 ≤ v0))
def k180c181 : Ct := lct 180 [.dat y89.sl, .fn 181 (.pt y89)] (fun x => u180c181 x.1 x.2.1) (fun r : Bool => B r) (fun _ => ())
theorem o180c181 : Ok Tryz.prog k180c181 := by
 refine okl tok [.tmp 4] Tryz.func180 Tryz.ntmps180 rfl Tryz.results180 (by kernel_rfl) rfl ?_
 intro y ⟨a0, a1, _⟩ r H Q hn hr
 have hT := tc o200c201 (tc o200c181 (tc o181 tn))
 refine qa tok hT [0, 1] (St.mk [p 0 (L y89 a0), p 1 (AV.fn 181 [D y89.pt a1])] []) (by kernel_rfl) ?_
 refine qd tok hT [4] (fun v0 => St.mk [p 4 (B (decide (0 ≤ v0)))] []) H (by kernel_rfl) fun v0 H => ?_
 exact vx_ret <| hr H (by kernel_rfl)
def u166J0 (a0 : Y152) : Unit → Option (Bool)
 | _ =>
 some (decide ((↑a0.2.2.2.1.length : Int) ≤ 8))
def u166L1 (a0 : Y152) (g1 : Int → Option (Bool)) : Int → Option (Bool)
 | v1 =>
 if (decide (v1 < (↑a0.2.2.2.1.length : Int))) = true then
  gd (ix v1 a0.2.2.2.1.length ∧ True) <| lt (a0.2.2.2.1.getD v1.toNat (dflt y89)) fun v2 =>
  gd ((u179 a0 v2).isSome = true ∧ ((!vl (u179 a0 v2)) = false ∧ True → (0 : Int) ≤ (0 : Int) ∧ (0 : Int) ≤ v1 ∧ v1 ≤ (↑a0.2.2.2.1.length : Int)) ∧ ((!vl (u179 a0 v2)) = false ∧ True → (u180c181 (List.take v1.toNat a0.2.2.2.1) v2).isSome = true) ∧ True) <| 
  if (!vl (u179 a0 v2) || vl (u180c181 (List.take v1.toNat a0.2.2.2.1) v2)) = true then
   some false
  else
   gd (in64 (v1 + 1) ∧ True) <| 
   g1 (v1 + 1)
 else
  u166J0 a0 ()
def u166 (a0 : Y152) : Option (Bool) :=
 lp (u166L1 a0) 0
def k166 : Ct := lct 166 [.agg y152] (fun x => u166 x.1) (fun r : Bool => B r) (fun _ => ())
theorem o166 : Ok Tryz.prog k166 := by
 refine okl tok [.tmp 2] Tryz.func166 Tryz.ntmps166 rfl Tryz.results166 (by kernel_rfl) rfl ?_
 intro y ⟨a0, _⟩ r H Q hn hr
 have hT := tc o180c201 (tc o180c181 (tc o181 (tc o179 tn)))
 refine qa tok hT [1] (St.mk [p 1 (AV.ptr 1 0)] [(1, Ob.box 152 (cellsD false y152 a0))]) (by kernel_rfl) ?_
 refine jn r (fun (_ : Unit) => St.mk [p 1 (AV.ptr 1 0)] [(1, Ob.box 152 (cellsD false y152 a0))]) (u166J0 a0) (fun _ H => ?_) (fun _ n0 e0 t0 => ?_)
 ·refine qa tok hT [2] (St.mk [p 2 (B (decide ((↑a0.2.2.2.1.length : Int) ≤ 8)))] [(1, Ob.box 152 (cellsD false y152 a0))]) (by kernel_rfl) ?_
  exact vx_ret <| hr H (by kernel_rfl)
 refine qa tok hT [1, 6, 7, 8] (St.mk [p 1 (AV.ptr 1 0), p 6 (L y89 a0.2.2.2.1), p 7 (I (↑a0.2.2.2.1.length : Int)), p 8 (I 0)] [(1, Ob.box 152 (cellsD false y152 a0))]) (by kernel_rfl) ?_
 refine vx_block <| ?_
 refine lx (fun (v1 : Int) => St.mk [p 1 (AV.ptr 1 0), p 6 (L y89 a0.2.2.2.1), p 7 (I (↑a0.2.2.2.1.length : Int)), p 8 (I v1)] [(1, Ob.box 152 (cellsD false y152 a0))]) 0 H (by kernel_rfl) fun _ g1 b1 e1 t1 v1 H => ?_
 refine qa tok hT [1, 6, 7, 8, 9] (St.mk [p 1 (AV.ptr 1 0), p 6 (L y89 a0.2.2.2.1), p 7 (I (↑a0.2.2.2.1.length : Int)), p 8 (I v1), p 9 (B (decide (v1 < (↑a0.2.2.2.1.length : Int))))] [(1, Ob.box 152 (cellsD false y152 a0))]) (by kernel_rfl) ?_
 refine vx_seq <| ?_
 refine cd H (by kernel_rfl) (fun H => ?_) (fun H => ?_)
 ·refine vx_skip <| fx_seq <| vx_seq <| vx_block <| ?_
  refine qd tok hT [1, 3, 4, 6, 7, 8] (fun v2 => St.mk [p 1 (AV.ptr 1 0), p 3 (I v1), p 4 (AV.ptr 4 0), p 6 (L y89 a0.2.2.2.1), p 7 (I (↑a0.2.2.2.1.length : Int)), p 8 (I v1)] [(4, Ob.box 89 (cellsD false y89 v2)), (1, Ob.box 152 (cellsD false y152 a0))]) H (by kernel_rfl) fun v2 H => ?_
  refine qb tok hT [1, 6, 7, 8, 18, 19, 20, 21, 22, 23, 24] (St.mk [p 1 (AV.ptr 1 0), p 6 (L y89 a0.2.2.2.1), p 7 (I (↑a0.2.2.2.1.length : Int)), p 8 (I v1), p 24 (B (!vl (u179 a0 v2) || vl (u180c181 (List.take v1.toNat a0.2.2.2.1) v2)))] [(4, Ob.box 89 (cellsD false y89 v2)), (1, Ob.box 152 (cellsD false y152 a0))]) H (by kernel_rfl) fun H => ?_
  refine cd H (by kernel_rfl) (fun H => ?_) (fun H => ?_)
  ·refine qa tok hT [2] (St.mk [p 2 (B false)] [(4, Ob.box 89 (cellsD false y89 v2)), (1, Ob.box 152 (cellsD false y152 a0))]) (by kernel_rfl) ?_
   exact vx_ret <| fx_blk_ret <| fx_seq_ret <| t1 <| fx_blk_ret <| t0 <| hr H (by kernel_rfl)
  refine vx_skip <| fx_blk <| fx_seq <| ?_
  refine zb tok hT [1, 6, 7, 8] (St.mk [p 1 (AV.ptr 1 0), p 6 (L y89 a0.2.2.2.1), p 7 (I (↑a0.2.2.2.1.length : Int)), p 8 (I (v1 + 1))] [(4, Ob.box 89 (cellsD false y89 v2)), (1, Ob.box 152 (cellsD false y152 a0))]) H (by kernel_rfl) fun H => ?_
  exact b1 H (by kernel_rfl)
 exact vx_exit <| fx_seq_exit <| e1 <| fx_blk_exit rfl <| n0 H (by kernel_rfl)
def u165J0 (a0 : List Y212) : List ByteArray → Option (Bool)
 | v6 =>
 gd ((u178 a0).isSome = true ∧ (u87 (vl (u178 a0)) 2 5).isSome = true ∧ (vl (u87 (vl (u178 a0)) 2 5) = true ∧ True → (u146 v6).isSome = true) ∧ True) <| 
 some (vl (u87 (vl (u178 a0)) 2 5) && vl (u146 v6))
def u165J2 (v3 : Int) (g1 : List ByteArray × Int → Option (Bool)) : List ByteArray → Option (Bool)
 | v5 =>
 gd (in64 (v3 + 1) ∧ True) <| 
 g1 (v5, v3 + 1)
def u165L1 (a0 : List Y212) (g1 : List ByteArray × Int → Option (Bool)) : List ByteArray × Int → Option (Bool)
 | (v2, v3) =>
 if (decide (v3 < (↑a0.length : Int))) = true then
  gd (ix v3 a0.length ∧ True) <| lt (a0.getD v3.toNat (dflt y212)) fun v4 =>
  gd ((v2.length + [v4.1].length ≤ 9223372036854775807 ∧ (v2.length + [v4.1].length) * 16 ≤ 140737488355328) ∧ True) <| 
  gd (in64 ((↑a0.length : Int) - 1) ∧ True) <| 
  if (v3 == (↑a0.length : Int) - 1) = true then
   if (v4.2.1 != 2 || v4.2.2.1 != 0 || v4.2.2.2) = true then
    some false
   else
    u165J2 v3 g1 (v2 ++ [v4.1])
  else
   gd (((v4.2.1 != 1) = false ∧ True → (u87 v4.2.2.1 0 500).isSome = true) ∧ True) <| 
   if (v4.2.1 != 1 || !vl (u87 v4.2.2.1 0 500)) = true then
    some false
   else
    u165J2 v3 g1 (v2 ++ [v4.1])
 else
  u165J0 a0 v2
def u165 (a0 : List Y212) : Option (Bool) :=
 lp (u165L1 a0) ([], 0)
def k165 : Ct := lct 165 [.dat y212.sl] (fun x => u165 x.1) (fun r : Bool => B r) (fun _ => ())
theorem o165 : Ok Tryz.prog k165 := by
 refine okl tok [.tmp 2] Tryz.func165 Tryz.ntmps165 rfl Tryz.results165 (by kernel_rfl) rfl ?_
 intro y ⟨a0, _⟩ r H Q hn hr
 have hT := tc o146 (tc o87 (tc o178 tn))
 refine qa tok hT [0] (St.mk [p 0 (L y212 a0)] []) (by kernel_rfl) ?_
 refine qa tok hT [0, 3] (St.mk [p 0 (L y212 a0), p 3 (AV.v (Value.slice none 0 0))] []) (by kernel_rfl) ?_
 refine jn r (fun (v6 : List ByteArray) => St.mk [p 0 (L y212 a0), p 3 (AV.os 17 0)] [(17, Ob.arr 9 true Ty.str v6 0)]) (u165J0 a0) (fun v6 H => ?_) (fun _ n0 e0 t0 => ?_)
 ·refine qb tok hT [2] (St.mk [p 2 (B (vl (u87 (vl (u178 a0)) 2 5) && vl (u146 v6)))] [(17, Ob.arr 9 true Ty.str v6 0)]) H (by kernel_rfl) fun H => ?_
  exact vx_ret <| hr H (by kernel_rfl)
 refine qa tok hT [0, 3, 6, 7, 8] (St.mk [p 0 (L y212 a0), p 3 (AV.v (Value.slice none 0 0)), p 6 (L y212 a0), p 7 (I (↑a0.length : Int)), p 8 (I 0)] []) (by kernel_rfl) ?_
 refine vx_block <| ?_
 refine lx (fun ((v2, v3) : List ByteArray × Int) => St.mk [p 0 (L y212 a0), p 3 (AV.os 17 0), p 6 (L y212 a0), p 7 (I (↑a0.length : Int)), p 8 (I v3)] [(17, Ob.arr 9 true Ty.str v2 0)]) ([], 0) H (by kernel_rfl) fun _ g1 b1 e1 t1 ⟨v2, v3⟩ H => ?_
 refine qa tok hT [0, 3, 6, 7, 8, 9] (St.mk [p 0 (L y212 a0), p 3 (AV.os 17 0), p 6 (L y212 a0), p 7 (I (↑a0.length : Int)), p 8 (I v3), p 9 (B (decide (v3 < (↑a0.length : Int))))] [(17, Ob.arr 9 true Ty.str v2 0)]) (by kernel_rfl) ?_
 refine vx_seq <| ?_
 refine cd H (by kernel_rfl) (fun H => ?_) (fun H => ?_)
 ·refine vx_skip <| fx_seq <| ?_
  refine jn r (fun (v5 : List ByteArray) => St.mk [p 0 (L y212 a0), p 3 (AV.os 17 0), p 6 (L y212 a0), p 7 (I (↑a0.length : Int)), p 8 (I v3)] [(17, Ob.arr 9 true Ty.str v5 0)]) (u165J2 v3 g1) (fun v5 H => ?_) (fun _ n2 e2 t2 => ?_)
  ·refine zb tok hT [0, 3, 6, 7, 8] (St.mk [p 0 (L y212 a0), p 3 (AV.os 17 0), p 6 (L y212 a0), p 7 (I (↑a0.length : Int)), p 8 (I (v3 + 1))] [(17, Ob.arr 9 true Ty.str v5 0)]) H (by kernel_rfl) fun H => ?_
   exact b1 H (by kernel_rfl)
  refine vx_block <| ?_
  refine qd tok hT [0, 3, 4, 5, 6, 7, 8] (fun v4 => St.mk [p 0 (L y212 a0), p 3 (AV.os 17 0), p 4 (I v3), p 5 (AV.ptr 5 0), p 6 (L y212 a0), p 7 (I (↑a0.length : Int)), p 8 (I v3)] [(5, Ob.box 212 (cellsD false y212 v4)), (17, Ob.arr 9 true Ty.str v2 0)]) H (by kernel_rfl) fun v4 H => ?_
  refine qb tok hT [0, 3, 4, 5, 6, 7, 8] (St.mk [p 0 (L y212 a0), p 3 (AV.os 17 1), p 4 (I v3), p 5 (AV.ptr 5 0), p 6 (L y212 a0), p 7 (I (↑a0.length : Int)), p 8 (I v3)] [(17, Ob.arr 9 true Ty.str (v2 ++ [v4.1]) 1), (16, Ob.arr 9 true Ty.str [v4.1] 0), (5, Ob.box 212 (cellsD false y212 v4))]) H (by kernel_rfl) fun H => ?_
  refine qb tok hT [0, 3, 5, 6, 7, 8, 22] (St.mk [p 0 (L y212 a0), p 3 (AV.os 17 1), p 5 (AV.ptr 5 0), p 6 (L y212 a0), p 7 (I (↑a0.length : Int)), p 8 (I v3), p 22 (B (v3 == (↑a0.length : Int) - 1))] [(17, Ob.arr 9 true Ty.str (v2 ++ [v4.1]) 1), (16, Ob.arr 9 true Ty.str [v4.1] 0), (5, Ob.box 212 (cellsD false y212 v4))]) H (by kernel_rfl) fun H => ?_
  refine cd H (by kernel_rfl) (fun H => ?_) (fun H => ?_)
  ·refine qa tok hT [0, 3, 6, 7, 8, 27, 28, 29, 32, 33, 34] (St.mk [p 0 (L y212 a0), p 3 (AV.os 17 1), p 6 (L y212 a0), p 7 (I (↑a0.length : Int)), p 8 (I v3), p 34 (B (v4.2.1 != 2 || v4.2.2.1 != 0 || v4.2.2.2))] [(17, Ob.arr 9 true Ty.str (v2 ++ [v4.1]) 1), (16, Ob.arr 9 true Ty.str [v4.1] 0), (5, Ob.box 212 (cellsD false y212 v4))]) (by kernel_rfl) ?_
   refine cd H (by kernel_rfl) (fun H => ?_) (fun H => ?_)
   ·refine qa tok hT [2] (St.mk [p 2 (B false)] [(17, Ob.arr 9 true Ty.str (v2 ++ [v4.1]) 1), (16, Ob.arr 9 true Ty.str [v4.1] 0), (5, Ob.box 212 (cellsD false y212 v4))]) (by kernel_rfl) ?_
    exact vx_ret <| fx_blk_ret <| t2 <| t1 <| fx_blk_ret <| t0 <| hr H (by kernel_rfl)
   exact vx_skip <| fx_blk <| n2 H (by kernel_rfl)
  refine qb tok hT [0, 3, 6, 7, 8, 39, 40, 41, 42, 43] (St.mk [p 0 (L y212 a0), p 3 (AV.os 17 1), p 6 (L y212 a0), p 7 (I (↑a0.length : Int)), p 8 (I v3), p 43 (B (v4.2.1 != 1 || !vl (u87 v4.2.2.1 0 500)))] [(17, Ob.arr 9 true Ty.str (v2 ++ [v4.1]) 1), (16, Ob.arr 9 true Ty.str [v4.1] 0), (5, Ob.box 212 (cellsD false y212 v4))]) H (by kernel_rfl) fun H => ?_
  refine cd H (by kernel_rfl) (fun H => ?_) (fun H => ?_)
  ·refine qa tok hT [2] (St.mk [p 2 (B false)] [(17, Ob.arr 9 true Ty.str (v2 ++ [v4.1]) 1), (16, Ob.arr 9 true Ty.str [v4.1] 0), (5, Ob.box 212 (cellsD false y212 v4))]) (by kernel_rfl) ?_
   exact vx_ret <| fx_blk_ret <| t2 <| t1 <| fx_blk_ret <| t0 <| hr H (by kernel_rfl)
  exact vx_skip <| fx_blk <| n2 H (by kernel_rfl)
 exact vx_exit <| fx_seq_exit <| e1 <| fx_blk_exit rfl <| n0 H (by kernel_rfl)
def u145 (a0 : Y152) : Option (Bool) :=
 gd ((u164 a0.1).isSome = true ∧ (vl (u164 a0.1) = true ∧ True → (u165 a0.2.2.1).isSome = true) ∧ ((vl (u164 a0.1) && vl (u165 a0.2.2.1)) = true ∧ True → (u166 a0).isSome = true) ∧ ((vl (u164 a0.1) && vl (u165 a0.2.2.1) && vl (u166 a0)) = true ∧ True → (u87 a0.2.2.2.2.2.1 0 100000).isSome = true) ∧ ((vl (u164 a0.1) && vl (u165 a0.2.2.1) && vl (u166 a0) && vl (u87 a0.2.2.2.2.2.1 0 100000)) = true ∧ True → (u87 a0.2.2.2.2.2.2 0 100000).isSome = true) ∧ ((vl (u164 a0.1) && vl (u165 a0.2.2.1) && vl (u166 a0) && vl (u87 a0.2.2.2.2.2.1 0 100000) && vl (u87 a0.2.2.2.2.2.2 0 100000)) = true ∧ True → (u167 a0).isSome = true) ∧ True) <| 
 some (vl (u164 a0.1) && vl (u165 a0.2.2.1) && vl (u166 a0) && vl (u87 a0.2.2.2.2.2.1 0 100000) && vl (u87 a0.2.2.2.2.2.2 0 100000) && vl (u167 a0))
def k145 : Ct := lct 145 [.agg y152] (fun x => u145 x.1) (fun r : Bool => B r) (fun _ => ())
theorem o145 : Ok Tryz.prog k145 := by
 refine okl tok [.tmp 2] Tryz.func145 Tryz.ntmps145 rfl Tryz.results145 (by kernel_rfl) rfl ?_
 intro y ⟨a0, _⟩ r H Q hn hr
 have hT := tc o167 (tc o87 (tc o166 (tc o165 (tc o164 tn))))
 refine qa tok hT [1] (St.mk [p 1 (AV.ptr 1 0)] [(1, Ob.box 152 (cellsD false y152 a0))]) (by kernel_rfl) ?_
 refine qb tok hT [2] (St.mk [p 2 (B (vl (u164 a0.1) && vl (u165 a0.2.2.1) && vl (u166 a0) && vl (u87 a0.2.2.2.2.2.1 0 100000) && vl (u87 a0.2.2.2.2.2.2 0 100000) && vl (u167 a0)))] [(1, Ob.box 152 (cellsD false y152 a0))]) H (by kernel_rfl) fun H => ?_
 exact vx_ret <| hr H (by kernel_rfl)
def u120J0 (a0 : List Y152) : List ByteArray → Option (Bool)
 | v4 =>
 gd ((decide ((↑a0.length : Int) ≤ 8) = true ∧ True → (u146 v4).isSome = true) ∧ True) <| 
 some (decide ((↑a0.length : Int) ≤ 8) && vl (u146 v4))
def u120L1 (a0 : List Y152) (g1 : List ByteArray × Int → Option (Bool)) : List ByteArray × Int → Option (Bool)
 | (v1, v2) =>
 if (decide (v2 < (↑a0.length : Int))) = true then
  gd (ix v2 a0.length ∧ True) <| lt (a0.getD v2.toNat (dflt y152)) fun v3 =>
  gd ((u145 v3).isSome = true ∧ True) <| 
  if (!vl (u145 v3)) = true then
   some false
  else
   gd ((v1.length + [v3.1].length ≤ 9223372036854775807 ∧ (v1.length + [v3.1].length) * 16 ≤ 140737488355328) ∧ True) <| 
   gd (in64 (v2 + 1) ∧ True) <| 
   g1 (v1 ++ [v3.1], v2 + 1)
 else
  u120J0 a0 v1
def u120 (a0 : List Y152) : Option (Bool) :=
 lp (u120L1 a0) ([], 0)
def k120 : Ct := lct 120 [.agg y152.sl] (fun x => u120 x.1) (fun r : Bool => B r) (fun _ => ())
theorem o120 : Ok Tryz.prog k120 := by
 refine okl tok [.tmp 2] Tryz.func120 Tryz.ntmps120 rfl Tryz.results120 (by kernel_rfl) rfl ?_
 intro y ⟨a0, _⟩ r H Q hn hr
 have hT := tc o146 (tc o145 tn)
 refine qa tok hT [1] (St.mk [p 1 (AV.ptr 1 0)] [(1, Ob.box 37 [L y152 a0])]) (by kernel_rfl) ?_
 refine qa tok hT [1, 3] (St.mk [p 1 (AV.ptr 1 0), p 3 (AV.v (Value.slice none 0 0))] [(1, Ob.box 37 [L y152 a0])]) (by kernel_rfl) ?_
 refine jn r (fun (v4 : List ByteArray) => St.mk [p 1 (AV.ptr 1 0), p 3 (AV.os 20 0)] [(1, Ob.box 37 [L y152 a0]), (20, Ob.arr 9 true Ty.str v4 0)]) (u120J0 a0) (fun v4 H => ?_) (fun _ n0 e0 t0 => ?_)
 ·refine qb tok hT [2] (St.mk [p 2 (B (decide ((↑a0.length : Int) ≤ 8) && vl (u146 v4)))] [(1, Ob.box 37 [L y152 a0]), (20, Ob.arr 9 true Ty.str v4 0)]) H (by kernel_rfl) fun H => ?_
  exact vx_ret <| hr H (by kernel_rfl)
 refine qa tok hT [1, 3, 7, 8, 9] (St.mk [p 1 (AV.ptr 1 0), p 3 (AV.v (Value.slice none 0 0)), p 7 (L y152 a0), p 8 (I (↑a0.length : Int)), p 9 (I 0)] [(1, Ob.box 37 [L y152 a0])]) (by kernel_rfl) ?_
 refine vx_block <| ?_
 refine lx (fun ((v1, v2) : List ByteArray × Int) => St.mk [p 1 (AV.ptr 1 0), p 3 (AV.os 20 0), p 7 (L y152 a0), p 8 (I (↑a0.length : Int)), p 9 (I v2)] [(1, Ob.box 37 [L y152 a0]), (20, Ob.arr 9 true Ty.str v1 0)]) ([], 0) H (by kernel_rfl) fun _ g1 b1 e1 t1 ⟨v1, v2⟩ H => ?_
 refine qa tok hT [1, 3, 7, 8, 9, 10] (St.mk [p 1 (AV.ptr 1 0), p 3 (AV.os 20 0), p 7 (L y152 a0), p 8 (I (↑a0.length : Int)), p 9 (I v2), p 10 (B (decide (v2 < (↑a0.length : Int))))] [(1, Ob.box 37 [L y152 a0]), (20, Ob.arr 9 true Ty.str v1 0)]) (by kernel_rfl) ?_
 refine vx_seq <| ?_
 refine cd H (by kernel_rfl) (fun H => ?_) (fun H => ?_)
 ·refine vx_skip <| fx_seq <| vx_seq <| vx_block <| ?_
  refine qd tok hT [1, 3, 5, 7, 8, 9] (fun v3 => St.mk [p 1 (AV.ptr 1 0), p 3 (AV.os 20 0), p 5 (AV.ptr 5 0), p 7 (L y152 a0), p 8 (I (↑a0.length : Int)), p 9 (I v2)] [(5, Ob.box 152 (cellsD false y152 v3)), (1, Ob.box 37 [L y152 a0]), (20, Ob.arr 9 true Ty.str v1 0)]) H (by kernel_rfl) fun v3 H => ?_
  refine vx_seq <| ?_
  refine qb tok hT [1, 3, 5, 7, 8, 9, 15] (St.mk [p 1 (AV.ptr 1 0), p 3 (AV.os 20 0), p 5 (AV.ptr 5 0), p 7 (L y152 a0), p 8 (I (↑a0.length : Int)), p 9 (I v2), p 15 (B !vl (u145 v3))] [(5, Ob.box 152 (cellsD false y152 v3)), (1, Ob.box 37 [L y152 a0]), (20, Ob.arr 9 true Ty.str v1 0)]) H (by kernel_rfl) fun H => ?_
  refine cd H (by kernel_rfl) (fun H => ?_) (fun H => ?_)
  ·refine qa tok hT [2] (St.mk [p 2 (B false)] [(5, Ob.box 152 (cellsD false y152 v3)), (1, Ob.box 37 [L y152 a0]), (20, Ob.arr 9 true Ty.str v1 0)]) (by kernel_rfl) ?_
   exact vx_ret <| fx_seq_ret <| fx_blk_ret <| fx_seq_ret <| t1 <| fx_blk_ret <| t0 <| hr H (by kernel_rfl)
  refine vx_skip <| fx_seq <| ?_
  refine zb tok hT [1, 3, 7, 8, 9] (St.mk [p 1 (AV.ptr 1 0), p 3 (AV.os 20 1), p 7 (L y152 a0), p 8 (I (↑a0.length : Int)), p 9 (I v2)] [(20, Ob.arr 9 true Ty.str (v1 ++ [v3.1]) 1), (19, Ob.arr 9 true Ty.str [v3.1] 0), (5, Ob.box 152 (cellsD false y152 v3)), (1, Ob.box 37 [L y152 a0])]) H (by kernel_rfl) fun H => ?_
  refine fx_blk <| fx_seq <| ?_
  refine zb tok hT [1, 3, 7, 8, 9] (St.mk [p 1 (AV.ptr 1 0), p 3 (AV.os 20 1), p 7 (L y152 a0), p 8 (I (↑a0.length : Int)), p 9 (I (v2 + 1))] [(20, Ob.arr 9 true Ty.str (v1 ++ [v3.1]) 1), (19, Ob.arr 9 true Ty.str [v3.1] 0), (5, Ob.box 152 (cellsD false y152 v3)), (1, Ob.box 37 [L y152 a0])]) H (by kernel_rfl) fun H => ?_
  exact b1 H (by kernel_rfl)
 exact vx_exit <| fx_seq_exit <| e1 <| fx_blk_exit rfl <| n0 H (by kernel_rfl)
def u151c125J0 : Unit → Option (Int)
 | _ =>
 some (-1)
def u151c125L1 (a0 : List Int) (g1 : Int → Option (Int)) : Int → Option (Int)
 | v0 =>
 if (decide (v0 < (↑a0.length : Int))) = true then
  gd (ix v0 a0.length ∧ (u125 (a0.getD v0.toNat 0)).isSome = true ∧ True) <| 
  if (vl (u125 (a0.getD v0.toNat 0))) = true then
   some v0
  else
   gd (in64 (v0 + 1) ∧ True) <| 
   g1 (v0 + 1)
 else
  u151c125J0 ()
def u151c125 (a0 : List Int) : Option (Int) :=
 lp (u151c125L1 a0) 0
def k151c125 : Ct := lct 151 [.dat i64.sl, .nof 125] (fun x => u151c125 x.1) (fun r : Int => I r) (fun _ => ())
theorem o151c125 : Ok Tryz.prog k151c125 := by
 refine okl tok [.tmp 4] Tryz.func151 Tryz.ntmps151 rfl Tryz.results151 (by kernel_rfl) rfl ?_
 intro y ⟨a0, _, _⟩ r H Q hn hr
 have hT := tc o125 tn
 refine qa tok hT [0, 1] (St.mk [p 0 (L i64 a0), p 1 (AV.fn 125 [])] []) (by kernel_rfl) ?_
 refine jn r (fun (_ : Unit) => St.mk [] []) (u151c125J0) (fun _ H => ?_) (fun _ n0 e0 t0 => ?_)
 ·refine qa tok hT [4] (St.mk [p 4 (I (-1))] []) (by kernel_rfl) ?_
  exact vx_ret <| hr H (by kernel_rfl)
 refine qa tok hT [0, 1, 7, 8] (St.mk [p 0 (L i64 a0), p 1 (AV.fn 125 []), p 7 (I (↑a0.length : Int)), p 8 (I 0)] []) (by kernel_rfl) ?_
 refine vx_block <| ?_
 refine lx (fun (v0 : Int) => St.mk [p 0 (L i64 a0), p 1 (AV.fn 125 []), p 7 (I (↑a0.length : Int)), p 8 (I v0)] []) 0 H (by kernel_rfl) fun _ g1 b1 e1 t1 v0 H => ?_
 refine qa tok hT [0, 1, 7, 8, 9] (St.mk [p 0 (L i64 a0), p 1 (AV.fn 125 []), p 7 (I (↑a0.length : Int)), p 8 (I v0), p 9 (B (decide (v0 < (↑a0.length : Int))))] []) (by kernel_rfl) ?_
 refine vx_seq <| ?_
 refine cd H (by kernel_rfl) (fun H => ?_) (fun H => ?_)
 ·refine vx_skip <| fx_seq <| vx_seq <| vx_block <| ?_
  refine qa tok hT [0, 1, 5, 7, 8] (St.mk [p 0 (L i64 a0), p 1 (AV.fn 125 []), p 5 (I v0), p 7 (I (↑a0.length : Int)), p 8 (I v0)] []) (by kernel_rfl) ?_
  refine qb tok hT [0, 1, 5, 7, 8, 16] (St.mk [p 0 (L i64 a0), p 1 (AV.fn 125 []), p 5 (I v0), p 7 (I (↑a0.length : Int)), p 8 (I v0), p 16 (B (vl (u125 (a0.getD v0.toNat 0))))] []) H (by kernel_rfl) fun H => ?_
  refine cd H (by kernel_rfl) (fun H => ?_) (fun H => ?_)
  ·refine qa tok hT [4] (St.mk [p 4 (I v0)] []) (by kernel_rfl) ?_
   exact vx_ret <| fx_blk_ret <| fx_seq_ret <| t1 <| fx_blk_ret <| t0 <| hr H (by kernel_rfl)
  refine vx_skip <| fx_blk <| fx_seq <| ?_
  refine zb tok hT [0, 1, 7, 8] (St.mk [p 0 (L i64 a0), p 1 (AV.fn 125 []), p 7 (I (↑a0.length : Int)), p 8 (I (v0 + 1))] []) H (by kernel_rfl) fun H => ?_
  exact b1 H (by kernel_rfl)
 exact vx_exit <| fx_seq_exit <| e1 <| fx_blk_exit rfl <| n0 H (by kernel_rfl)
def u124c125 (a0 : List Int) : Option (Bool) :=
 gd ((u151c125 a0).isSome = true ∧ True) <| lt (vl (u151c125 a0)) fun v0 =>
 some (decide (0 ≤ v0))
def k124c125 : Ct := lct 124 [.dat i64.sl, .nof 125] (fun x => u124c125 x.1) (fun r : Bool => B r) (fun _ => ())
theorem o124c125 : Ok Tryz.prog k124c125 := by
 refine okl tok [.tmp 4] Tryz.func124 Tryz.ntmps124 rfl Tryz.results124 (by kernel_rfl) rfl ?_
 intro y ⟨a0, _, _⟩ r H Q hn hr
 have hT := tc o151c125 (tc o125 tn)
 refine qa tok hT [0, 1] (St.mk [p 0 (L i64 a0), p 1 (AV.fn 125 [])] []) (by kernel_rfl) ?_
 refine qd tok hT [4] (fun v0 => St.mk [p 4 (B (decide (0 ≤ v0)))] []) H (by kernel_rfl) fun v0 H => ?_
 exact vx_ret <| hr H (by kernel_rfl)
end Go.Proofs.YtippccamjlfafaaGreatDoor
