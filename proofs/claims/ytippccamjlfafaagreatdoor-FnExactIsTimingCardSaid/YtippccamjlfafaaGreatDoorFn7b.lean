/- Functions of this program as plain functions of data, and that they are so: printed by program. -/
import Derived.Test.YtippccamjlfafaaGreatDoorFn7a
import Derived.Test.YtippccamjlfafaaGreatDoorXE
import Derived.Test.YtippccamjlfafaaGreatDoorTY
import Derived.Test.YtippccamjlfafaaGreatDoorLB
namespace Go.Proofs.YtippccamjlfafaaGreatDoor
open Go Go.Proofs Go.Proofs.Sv Go.Proofs.Xv Go.Proofs.Xl Go.RowKit
def u49J5 (a0 : Y44) (v0 : List Y81) : List Y175 × List Int × List (List Int) → Option (Y170)
 | (v97, v98, v99) =>
 some (a0, v0, v97, v98, v99, [])
def u49J7 (v71 : Int) (g6 : Int × List Int × List (List Int) × List Y175 → Option (Y170)) : List (List Int) × List Int × List Y175 → Option (Y170)
 | (v94, v95, v96) =>
 gd (in64 (v71 + 1) ∧ True) <| 
 g6 (v71 + 1, v95, v94, v96)
def u49J9 (v85 : Int) (g8 : Int × List Y175 → Option (Y170)) : List Y175 → Option (Y170)
 | v93 =>
 gd (in64 (v85 + 1) ∧ True) <| 
 g8 (v85 + 1, v93)
def u49L10 (v24 : List Int) (v71 : Int) (v23 : List (List Int)) (v85 : Int) (g8 : Int × List Y175 → Option (Y170)) (g10 : Int × List Y175 → Option (Y170)) : Int × List Y175 → Option (Y170)
 | (v89, v90) =>
 if (decide (v89 < 2)) = true then
  gd (ix v71 v24.length ∧ v71.toNat < v24.length ∧ in64 ((2 : Int) * v24.getD v71.toNat (0 : Int)) ∧ in64 ((2 : Int) * v24.getD v71.toNat (0 : Int) + v89) ∧ in64 ((2 : Int) * List.getD (v23.getD v71.toNat []) v85.toNat (0 : Int)) ∧ in64 ((2 : Int) * List.getD (v23.getD v71.toNat []) v85.toNat (0 : Int) + v89) ∧ (v90.length + [((2 : Int) * v24.getD v71.toNat (0 : Int) + v89, (2 : Int) * List.getD (v23.getD v71.toNat []) v85.toNat (0 : Int) + v89, (2 : Int), v85)].length ≤ (9223372036854775807 : Nat) ∧ (v90.length + [((2 : Int) * v24.getD v71.toNat (0 : Int) + v89, (2 : Int) * List.getD (v23.getD v71.toNat []) v85.toNat (0 : Int) + v89, (2 : Int), v85)].length) * (32 : Nat) ≤ (140737488355328 : Nat)) ∧ True) <| lt ((v90 ++ [((2 : Int) * v24.getD v71.toNat (0 : Int) + v89, (2 : Int) * List.getD (v23.getD v71.toNat []) v85.toNat (0 : Int) + v89, (2 : Int), v85)], [((2 : Int) * v24.getD v71.toNat (0 : Int) + v89, (2 : Int) * List.getD (v23.getD v71.toNat []) v85.toNat (0 : Int) + v89, (2 : Int), v85)])) fun (v91, v92) =>
  gd (in64 (v89 + 1) ∧ True) <| 
  g10 (v89 + 1, v91)
 else
  u49J9 v85 g8 v90
def u49L8 (v24 : List Int) (v71 : Int) (v23 : List (List Int)) (v73 : List (List Int)) (v76 : List Int) (v72 : List Int) (v75 : List Int) (g6 : Int × List Int × List (List Int) × List Y175 → Option (Y170)) (g8 : Int × List Y175 → Option (Y170)) : Int × List Y175 → Option (Y170)
 | (v85, v86) =>
 if (decide (v85 < (↑(List.length (v23.getD v71.toNat [])) : Int))) = true then
  gd (ix v85 (List.length (v23.getD v71.toNat [])) ∧ True) <| 
  lp (u49L10 v24 v71 v23 v85 g8) (0, v86)
 else
  u49J7 v71 g6 ((v73 ++ [v76], v72 ++ [v75.getD (Int.toNat (0 : Int)) (0 : Int)], v86))
def u49L6 (v24 : List Int) (v23 : List (List Int)) (a0 : Y44) (v0 : List Y81) (g6 : Int × List Int × List (List Int) × List Y175 → Option (Y170)) : Int × List Int × List (List Int) × List Y175 → Option (Y170)
 | (v71, v72, v73, v74) =>
 if (decide (v71 < (↑a0.2.2.length : Int))) = true then
  gd ((u97 a0 v71).isSome = true ∧ ix (0 : Int) (vl (u97 a0 v71)).length ∧ Int.toNat (0 : Int) < (vl (u97 a0 v71)).length ∧ (v72.length + [(vl (u97 a0 v71)).getD (Int.toNat (0 : Int)) (0 : Int)].length ≤ (9223372036854775807 : Nat) ∧ (v72.length + [(vl (u97 a0 v71)).getD (Int.toNat (0 : Int)) (0 : Int)].length) * (8 : Nat) ≤ (140737488355328 : Nat)) ∧ True) <| lt (vl (u97 a0 v71)) fun v75 =>
  gd ((u98 a0 v71).isSome = true ∧ (v73.length + [vl (u98 a0 v71)].length ≤ 9223372036854775807 ∧ (v73.length + [vl (u98 a0 v71)].length) * 24 ≤ 140737488355328) ∧ True) <| lt (vl (u98 a0 v71)) fun v76 =>
  gd (ix v71 v23.length ∧ True) <| 
  lp (u49L8 v24 v71 v23 v73 v76 v72 v75 g6) (0, v74)
 else
  u49J5 a0 v0 (v74, v72, v73)
def u49J2 (a0 : Y44) (v0 : List Y81) (v10 : List Y175) : List (List Int) × List Int → Option (Y170)
 | (v23, v24) =>
 lp (u49L6 v24 v23 a0 v0) (0, [], [], v10)
def u49J4 (v16 : Int) (g3 : Int × List (List Int) × List Int → Option (Y170)) : List Int × List (List Int) → Option (Y170)
 | (v21, v22) =>
 gd (in64 (v16 + 1) ∧ True) <| 
 g3 (v16 + 1, v22, v21)
def u49L3 (v0 : List Y81) (a0 : Y44) (v10 : List Y175) (g3 : Int × List (List Int) × List Int → Option (Y170)) : Int × List (List Int) × List Int → Option (Y170)
 | (v16, v17, v18) =>
 if (decide (v16 < (↑v0.length : Int))) = true then
  gd (ix v16 v0.length ∧ v16.toNat < v0.length ∧ True) <| lt (v0.getD v16.toNat (dflt y81)) fun v19 =>
  if v19.2.2.2 = true then
   gd (ix v19.2.2.1 v18.length ∧ v19.2.2.1.toNat < v18.length ∧ True) <| 
   u49J4 v16 g3 (v18.set v19.2.2.1.toNat v16, v17)
  else
   gd (ix v19.2.2.1 v17.length ∧ v19.2.2.1.toNat < v17.length ∧ ((v17.getD v19.2.2.1.toNat []).length + [v16].length ≤ 9223372036854775807 ∧ ((v17.getD v19.2.2.1.toNat []).length + [v16].length) * 8 ≤ 140737488355328) ∧ ix v19.2.2.1 v17.length ∧ (v19.2.2.1.toNat < v17.length ∧ v19.2.2.1.toNat = v19.2.2.1.toNat) ∧ True) <| lt (v17.set v19.2.2.1.toNat (v17.getD v19.2.2.1.toNat [] ++ [v16])) fun v20 =>
   u49J4 v16 g3 (v18, v20)
 else
  u49J2 a0 v0 v10 (v17, v18)
def u49J0 (v0 : List Y81) (a0 : Y44) : List Y175 → Option (Y170)
 | v10 =>
 gd ((0 ≤ (↑a0.2.2.length : Int) ∧ (↑a0.2.2.length : Int) = (↑a0.2.2.length : Int) ∧ (↑a0.2.2.length : Int).toNat * 8 ≤ 281474976710656 ∧ (↑a0.2.2.length : Int) ≤ 9223372036854775807) ∧ True) <| 
 gd ((0 ≤ (↑a0.2.2.length : Int) ∧ (↑a0.2.2.length : Int) = (↑a0.2.2.length : Int) ∧ (↑a0.2.2.length : Int).toNat * 24 ≤ 281474976710656 ∧ (↑a0.2.2.length : Int) ≤ 9223372036854775807) ∧ True) <| 
 lp (u49L3 v0 a0 v10) ((0, List.replicate (↑a0.2.2.length : Int).toNat [], List.replicate (↑a0.2.2.length : Int).toNat 0))
def u49L1 (a0 : Y44) (v0 : List Y81) (g1 : Int × Int × List Y175 → Option (Y170)) : Int × Int × List Y175 → Option (Y170)
 | (v4, v5, v6) =>
 if (decide (v5 < (↑a0.2.1.1.length : Int))) = true then
  gd (ix v5 a0.2.1.1.length ∧ True) <| lt (a0.2.1.1.getD v5.toNat (dflt y141)) fun v7 =>
  gd ((u95 a0 v7 v4).isSome = true ∧ (v6.length + (vl (u95 a0 v7 v4)).length ≤ 9223372036854775807 ∧ (v6.length + (vl (u95 a0 v7 v4)).length) * 32 ≤ 140737488355328) ∧ True) <| lt (vl (u95 a0 v7 v4)) fun v8 =>
  gd ((u96 v7.2.2).isSome = true ∧ in64 (v4 + vl (u96 v7.2.2)) ∧ True) <| lt (vl (u96 v7.2.2)) fun v9 =>
  gd (in64 (v5 + 1) ∧ True) <| 
  g1 (v4 + v9, v5 + 1, v6 ++ v8)
 else
  u49J0 v0 a0 v6
def u49 (a0 : Y44) : Option (Y170) :=
 gd ((u37 a0.2.1).isSome = true ∧ True) <| lt (vl (u37 a0.2.1)) fun v0 =>
 lp (u49L1 a0 v0) (0, 0, [])
def k49 : Ct := lct 49 [.agg y44] (fun x => u49 x.1) (fun r : Y170 => D y170.pt r) (fun _ => ())
theorem o49 : Ok Tryz.prog k49 := by
 refine okl tok [.tmp 2] Tryz.func49 Tryz.ntmps49 rfl Tryz.results49 (by kernel_rfl) rfl ?_
 intro y ⟨a0, _⟩ r H Q hn hr
 have hT := tc o98d (tc o97 (tc o96 (tc o95 (tc o37 tn))))
 refine qa tok hT [1] (St.mk [p 1 (AV.ptr 1 0)] [(1, Ob.box 44 (cellsD false y44 a0))]) (by kernel_rfl) ?_
 refine qd tok hT [1, 3] (fun v0 => St.mk [p 1 (AV.ptr 1 0), p 3 (AV.ptr 20 0)] [(20, Ob.box 170 [L y152 a0.1, L y141 a0.2.1.1, L Ty.str a0.2.1.2.1, L y143 a0.2.1.2.2, L y131 a0.2.2, AV.os 18 0, AV.v (Value.slice none 0 0), AV.v (Value.slice none 0 0), AV.v (Value.slice none 0 0), AV.v (Value.slice none 0 0)]), (18, Ob.arr 81 true y81 v0 0), (1, Ob.box 44 (cellsD false y44 a0))]) H (by kernel_rfl) fun v0 H => ?_
 refine qa tok hT [1, 3, 4] (St.mk [p 1 (AV.ptr 1 0), p 3 (AV.ptr 20 0), p 4 (I 0)] [(20, Ob.box 170 [L y152 a0.1, L y141 a0.2.1.1, L Ty.str a0.2.1.2.1, L y143 a0.2.1.2.2, L y131 a0.2.2, AV.os 18 0, AV.v (Value.slice none 0 0), AV.v (Value.slice none 0 0), AV.v (Value.slice none 0 0), AV.v (Value.slice none 0 0)]), (18, Ob.arr 81 true y81 v0 0), (1, Ob.box 44 (cellsD false y44 a0))]) (by kernel_rfl) ?_
 refine jn r (fun (v10 : List Y175) => St.mk [p 1 (AV.ptr 1 0), p 3 (AV.ptr 20 0)] [(20, Ob.box 170 [L y152 a0.1, L y141 a0.2.1.1, L Ty.str a0.2.1.2.1, L y143 a0.2.1.2.2, L y131 a0.2.2, AV.os 18 0, AV.os 38 0, AV.v (Value.slice none 0 0), AV.v (Value.slice none 0 0), AV.v (Value.slice none 0 0)]), (18, Ob.arr 81 true y81 v0 0), (1, Ob.box 44 (cellsD false y44 a0)), (38, Ob.arr 175 true y175 v10 0)]) (u49J0 v0 a0) (fun v10 H => ?_) (fun _ n0 e0 t0 => ?_)
 ·refine qb tok hT [1, 3, 7] (St.mk [p 1 (AV.ptr 1 0), p 3 (AV.ptr 20 0), p 7 (AV.os 50 0)] [(50, Ob.arr 2 true i64 (List.replicate (↑a0.2.2.length : Int).toNat 0) 0), (20, Ob.box 170 [L y152 a0.1, L y141 a0.2.1.1, L Ty.str a0.2.1.2.1, L y143 a0.2.1.2.2, L y131 a0.2.2, AV.os 18 0, AV.os 38 0, AV.v (Value.slice none 0 0), AV.v (Value.slice none 0 0), AV.v (Value.slice none 0 0)]), (18, Ob.arr 81 true y81 v0 0), (1, Ob.box 44 (cellsD false y44 a0)), (38, Ob.arr 175 true y175 v10 0)]) H (by kernel_rfl) fun H => ?_
  refine qb tok hT [1, 3, 7, 8] (St.mk [p 1 (AV.ptr 1 0), p 3 (AV.ptr 20 0), p 7 (AV.os 50 0), p 8 (AV.og 54)] [(54, Ob.grd 94 2 true i64 (List.replicate (↑a0.2.2.length : Int).toNat []) none), (50, Ob.arr 2 true i64 (List.replicate (↑a0.2.2.length : Int).toNat 0) 0), (20, Ob.box 170 [L y152 a0.1, L y141 a0.2.1.1, L Ty.str a0.2.1.2.1, L y143 a0.2.1.2.2, L y131 a0.2.2, AV.os 18 0, AV.os 38 0, AV.v (Value.slice none 0 0), AV.v (Value.slice none 0 0), AV.v (Value.slice none 0 0)]), (18, Ob.arr 81 true y81 v0 0), (1, Ob.box 44 (cellsD false y44 a0)), (38, Ob.arr 175 true y175 v10 0)]) H (by kernel_rfl) fun H => ?_
  refine jn r (fun ((v23, v24) : List (List Int) × List Int) => St.mk [p 1 (AV.ptr 1 0), p 3 (AV.ptr 20 0), p 7 (AV.os 50 0), p 8 (AV.og 54)] [(54, Ob.grd 94 2 true i64 v23 none), (50, Ob.arr 2 true i64 v24 0), (20, Ob.box 170 [L y152 a0.1, L y141 a0.2.1.1, L Ty.str a0.2.1.2.1, L y143 a0.2.1.2.2, L y131 a0.2.2, AV.os 18 0, AV.os 38 0, AV.v (Value.slice none 0 0), AV.v (Value.slice none 0 0), AV.v (Value.slice none 0 0)]), (18, Ob.arr 81 true y81 v0 0), (1, Ob.box 44 (cellsD false y44 a0)), (38, Ob.arr 175 true y175 v10 0)]) (u49J2 a0 v0 v10) (fun ⟨v23, v24⟩ H => ?_) (fun _ n2 e2 t2 => ?_)
  ·refine jn r (fun ((v97, v98, v99) : List Y175 × List Int × List (List Int)) => St.mk [p 3 (AV.ptr 20 0)] [(20, Ob.box 170 [L y152 a0.1, L y141 a0.2.1.1, L Ty.str a0.2.1.2.1, L y143 a0.2.1.2.2, L y131 a0.2.2, AV.os 18 0, AV.os 38 0, AV.os 102 0, AV.os 114 0, AV.v (Value.slice none 0 0)]), (18, Ob.arr 81 true y81 v0 0), (38, Ob.arr 175 true y175 v97 0), (102, Ob.arr 2 true i64 v98 0), (114, Ob.arr 94 true i64.sl v99 0)]) (u49J5 a0 v0) (fun ⟨v97, v98, v99⟩ H => ?_) (fun _ n5 e5 t5 => ?_)
   ·refine qa tok hT [2] (St.mk [p 2 (AV.ptr 20 0)] [(20, Ob.box 170 [L y152 a0.1, L y141 a0.2.1.1, L Ty.str a0.2.1.2.1, L y143 a0.2.1.2.2, L y131 a0.2.2, AV.os 18 0, AV.os 38 0, AV.os 102 0, AV.os 114 0, AV.v (Value.slice none 0 0)]), (18, Ob.arr 81 true y81 v0 0), (38, Ob.arr 175 true y175 v97 0), (102, Ob.arr 2 true i64 v98 0), (114, Ob.arr 94 true i64.sl v99 0)]) (by kernel_rfl) ?_
    exact vx_ret <| hr H (by kernel_rfl)
   refine qa tok hT [1, 3, 7, 8, 87, 88] (St.mk [p 1 (AV.ptr 1 0), p 3 (AV.ptr 20 0), p 7 (AV.os 50 0), p 8 (AV.og 54), p 87 (I (↑a0.2.2.length : Int)), p 88 (I 0)] [(54, Ob.grd 94 2 true i64 v23 none), (50, Ob.arr 2 true i64 v24 0), (20, Ob.box 170 [L y152 a0.1, L y141 a0.2.1.1, L Ty.str a0.2.1.2.1, L y143 a0.2.1.2.2, L y131 a0.2.2, AV.os 18 0, AV.os 38 0, AV.v (Value.slice none 0 0), AV.v (Value.slice none 0 0), AV.v (Value.slice none 0 0)]), (18, Ob.arr 81 true y81 v0 0), (1, Ob.box 44 (cellsD false y44 a0)), (38, Ob.arr 175 true y175 v10 0)]) (by kernel_rfl) ?_
   refine vx_block <| ?_
   refine fz 54 (St.mk [p 1 (AV.ptr 1 0), p 3 (AV.ptr 20 0), p 7 (AV.os 50 0), p 8 (M i64.sl v23), p 87 (I (↑a0.2.2.length : Int)), p 88 (I 0)] [(50, Ob.arr 2 true i64 v24 0), (20, Ob.box 170 [L y152 a0.1, L y141 a0.2.1.1, L Ty.str a0.2.1.2.1, L y143 a0.2.1.2.2, L y131 a0.2.2, AV.os 18 0, AV.os 38 0, AV.v (Value.slice none 0 0), AV.v (Value.slice none 0 0), AV.v (Value.slice none 0 0)]), (18, Ob.arr 81 true y81 v0 0), (1, Ob.box 44 (cellsD false y44 a0)), (38, Ob.arr 175 true y175 v10 0)]) (by kernel_rfl) rfl ?_
   refine lx (fun ((v71, v72, v73, v74) : Int × List Int × List (List Int) × List Y175) => St.mk [p 1 (AV.ptr 1 0), p 3 (AV.ptr 20 0), p 7 (AV.os 50 0), p 8 (M i64.sl v23), p 87 (I (↑a0.2.2.length : Int)), p 88 (I v71)] [(50, Ob.arr 2 true i64 v24 0), (20, Ob.box 170 [L y152 a0.1, L y141 a0.2.1.1, L Ty.str a0.2.1.2.1, L y143 a0.2.1.2.2, L y131 a0.2.2, AV.os 18 0, AV.os 38 0, AV.os 102 0, AV.os 114 0, AV.v (Value.slice none 0 0)]), (18, Ob.arr 81 true y81 v0 0), (1, Ob.box 44 (cellsD false y44 a0)), (38, Ob.arr 175 true y175 v74 0), (102, Ob.arr 2 true i64 v72 0), (114, Ob.arr 94 true i64.sl v73 0)]) (0, [], [], v10) H (by kernel_rfl) fun _ g6 b6 e6 t6 ⟨v71, v72, v73, v74⟩ H => ?_
   refine qa tok hT [1, 3, 7, 8, 87, 88, 89] (St.mk [p 1 (AV.ptr 1 0), p 3 (AV.ptr 20 0), p 7 (AV.os 50 0), p 8 (M i64.sl v23), p 87 (I (↑a0.2.2.length : Int)), p 88 (I v71), p 89 (B (decide (v71 < (↑a0.2.2.length : Int))))] [(50, Ob.arr 2 true i64 v24 0), (20, Ob.box 170 [L y152 a0.1, L y141 a0.2.1.1, L Ty.str a0.2.1.2.1, L y143 a0.2.1.2.2, L y131 a0.2.2, AV.os 18 0, AV.os 38 0, AV.os 102 0, AV.os 114 0, AV.v (Value.slice none 0 0)]), (18, Ob.arr 81 true y81 v0 0), (1, Ob.box 44 (cellsD false y44 a0)), (38, Ob.arr 175 true y175 v74 0), (102, Ob.arr 2 true i64 v72 0), (114, Ob.arr 94 true i64.sl v73 0)]) (by kernel_rfl) ?_
   refine vx_seq <| ?_
   refine cd H (by kernel_rfl) (fun H => ?_) (fun H => ?_)
   ·refine vx_skip <| fx_seq <| ?_
    refine jn r (fun ((v94, v95, v96) : List (List Int) × List Int × List Y175) => St.mk [p 1 (AV.ptr 1 0), p 3 (AV.ptr 20 0), p 7 (AV.os 50 0), p 8 (M i64.sl v23), p 87 (I (↑a0.2.2.length : Int)), p 88 (I v71)] [(20, Ob.box 170 [L y152 a0.1, L y141 a0.2.1.1, L Ty.str a0.2.1.2.1, L y143 a0.2.1.2.2, L y131 a0.2.2, AV.os 18 0, AV.os 38 0, AV.os 102 0, AV.os 114 0, AV.v (Value.slice none 0 0)]), (114, Ob.arr 94 true i64.sl v94 0), (102, Ob.arr 2 true i64 v95 0), (50, Ob.arr 2 true i64 v24 0), (18, Ob.arr 81 true y81 v0 0), (1, Ob.box 44 (cellsD false y44 a0)), (38, Ob.arr 175 true y175 v96 0)]) (u49J7 v71 g6) (fun ⟨v94, v95, v96⟩ H => ?_) (fun _ n7 e7 t7 => ?_)
    ·refine zb tok hT [1, 3, 7, 8, 87, 88] (St.mk [p 1 (AV.ptr 1 0), p 3 (AV.ptr 20 0), p 7 (AV.os 50 0), p 8 (M i64.sl v23), p 87 (I (↑a0.2.2.length : Int)), p 88 (I (v71 + 1))] [(20, Ob.box 170 [L y152 a0.1, L y141 a0.2.1.1, L Ty.str a0.2.1.2.1, L y143 a0.2.1.2.2, L y131 a0.2.2, AV.os 18 0, AV.os 38 0, AV.os 102 0, AV.os 114 0, AV.v (Value.slice none 0 0)]), (114, Ob.arr 94 true i64.sl v94 0), (102, Ob.arr 2 true i64 v95 0), (50, Ob.arr 2 true i64 v24 0), (18, Ob.arr 81 true y81 v0 0), (1, Ob.box 44 (cellsD false y44 a0)), (38, Ob.arr 175 true y175 v96 0)]) H (by kernel_rfl) fun H => ?_
     exact b6 H (by kernel_rfl)
    refine vx_block <| ?_
    refine qa tok hT [1, 3, 7, 8, 11, 87, 88] (St.mk [p 1 (AV.ptr 1 0), p 3 (AV.ptr 20 0), p 7 (AV.os 50 0), p 8 (M i64.sl v23), p 11 (I v71), p 87 (I (↑a0.2.2.length : Int)), p 88 (I v71)] [(50, Ob.arr 2 true i64 v24 0), (20, Ob.box 170 [L y152 a0.1, L y141 a0.2.1.1, L Ty.str a0.2.1.2.1, L y143 a0.2.1.2.2, L y131 a0.2.2, AV.os 18 0, AV.os 38 0, AV.os 102 0, AV.os 114 0, AV.v (Value.slice none 0 0)]), (18, Ob.arr 81 true y81 v0 0), (1, Ob.box 44 (cellsD false y44 a0)), (38, Ob.arr 175 true y175 v74 0), (102, Ob.arr 2 true i64 v72 0), (114, Ob.arr 94 true i64.sl v73 0)]) (by kernel_rfl) ?_
    refine qd tok hT [1, 3, 7, 8, 11, 87, 88] (fun v75 => St.mk [p (1 : Nat) (AV.ptr (1 : Nat) (0 : Nat)), p (3 : Nat) (AV.ptr (20 : Nat) (0 : Nat)), p (7 : Nat) (AV.os (50 : Nat) (0 : Nat)), p (8 : Nat) (M i64.sl v23), p (11 : Nat) (I v71), p (87 : Nat) (I (↑a0.2.2.length : Int)), p (88 : Nat) (I v71)] [((20 : Nat), Ob.box (nat_lit 170) [L y152 a0.1, L y141 a0.2.1.1, L Ty.str a0.2.1.2.1, L y143 a0.2.1.2.2, L y131 a0.2.2, AV.os (18 : Nat) (0 : Nat), AV.os (38 : Nat) (0 : Nat), AV.os (102 : Nat) (1 : Nat), AV.os (114 : Nat) (0 : Nat), AV.v (Value.slice none (0 : Nat) (0 : Nat))]), ((102 : Nat), Ob.arr (nat_lit 2) true i64 (v72 ++ [v75.getD (Int.toNat (0 : Int)) (0 : Int)]) (1 : Nat)), ((101 : Nat), Ob.arr (nat_lit 2) true i64 [v75.getD (Int.toNat (0 : Int)) (0 : Int)] (0 : Nat)), ((98 : Nat), Ob.arr (nat_lit 2) true i64 v75 (0 : Nat)), ((50 : Nat), Ob.arr (nat_lit 2) true i64 v24 (0 : Nat)), ((18 : Nat), Ob.arr (nat_lit 81) true y81 v0 (0 : Nat)), ((1 : Nat), Ob.box (nat_lit 44) (cellsD false y44 a0)), ((38 : Nat), Ob.arr (nat_lit 175) true y175 v74 (0 : Nat)), ((114 : Nat), Ob.arr (nat_lit 94) true i64.sl v73 (0 : Nat))]) H (by kernel_rfl) fun v75 H => ?_
    refine qd tok hT [1, 3, 7, 8, 11, 87, 88] (fun v76 => St.mk [p (1 : Nat) (AV.ptr (1 : Nat) (0 : Nat)), p (3 : Nat) (AV.ptr (20 : Nat) (0 : Nat)), p (7 : Nat) (AV.os (50 : Nat) (0 : Nat)), p (8 : Nat) (M i64.sl v23), p (11 : Nat) (I v71), p (87 : Nat) (I (↑a0.2.2.length : Int)), p (88 : Nat) (I v71)] [((20 : Nat), Ob.box (nat_lit 170) [L y152 a0.1, L y141 a0.2.1.1, L Ty.str a0.2.1.2.1, L y143 a0.2.1.2.2, L y131 a0.2.2, AV.os (18 : Nat) (0 : Nat), AV.os (38 : Nat) (0 : Nat), AV.os (102 : Nat) (1 : Nat), AV.os (114 : Nat) (1 : Nat), AV.v (Value.slice none (0 : Nat) (0 : Nat))]), ((114 : Nat), Ob.arr (nat_lit 94) true i64.sl (v73 ++ [v76]) (1 : Nat)), ((113 : Nat), Ob.arr (nat_lit 94) true i64.sl [v76] (0 : Nat)), ((102 : Nat), Ob.arr (nat_lit 2) true i64 (v72 ++ [v75.getD (Int.toNat (0 : Int)) (0 : Int)]) (1 : Nat)), ((101 : Nat), Ob.arr (nat_lit 2) true i64 [v75.getD (Int.toNat (0 : Int)) (0 : Int)] (0 : Nat)), ((98 : Nat), Ob.arr (nat_lit 2) true i64 v75 (0 : Nat)), ((50 : Nat), Ob.arr (nat_lit 2) true i64 v24 (0 : Nat)), ((18 : Nat), Ob.arr (nat_lit 81) true y81 v0 (0 : Nat)), ((1 : Nat), Ob.box (nat_lit 44) (cellsD false y44 a0)), ((38 : Nat), Ob.arr (nat_lit 175) true y175 v74 (0 : Nat))]) H (by kernel_rfl) fun v76 H => ?_
    refine qb tok hT [1, 3, 7, 8, 11, 87, 88, 120, 121, 122] (St.mk [p (1 : Nat) (AV.ptr (1 : Nat) (0 : Nat)), p (3 : Nat) (AV.ptr (20 : Nat) (0 : Nat)), p (7 : Nat) (AV.os (50 : Nat) (0 : Nat)), p (8 : Nat) (M i64.sl v23), p (11 : Nat) (I v71), p (87 : Nat) (I (↑a0.2.2.length : Int)), p (88 : Nat) (I v71), p (120 : Nat) (M i64 (v23.getD v71.toNat [])), p (121 : Nat) (I (↑(List.length (v23.getD v71.toNat [])) : Int)), p (122 : Nat) (I (0 : Int))] [((20 : Nat), Ob.box (nat_lit 170) [L y152 a0.1, L y141 a0.2.1.1, L Ty.str a0.2.1.2.1, L y143 a0.2.1.2.2, L y131 a0.2.2, AV.os (18 : Nat) (0 : Nat), AV.os (38 : Nat) (0 : Nat), AV.os (102 : Nat) (1 : Nat), AV.os (114 : Nat) (1 : Nat), AV.v (Value.slice none (0 : Nat) (0 : Nat))]), ((114 : Nat), Ob.arr (nat_lit 94) true i64.sl (v73 ++ [v76]) (1 : Nat)), ((113 : Nat), Ob.arr (nat_lit 94) true i64.sl [v76] (0 : Nat)), ((102 : Nat), Ob.arr (nat_lit 2) true i64 (v72 ++ [v75.getD (Int.toNat (0 : Int)) (0 : Int)]) (1 : Nat)), ((101 : Nat), Ob.arr (nat_lit 2) true i64 [v75.getD (Int.toNat (0 : Int)) (0 : Int)] (0 : Nat)), ((98 : Nat), Ob.arr (nat_lit 2) true i64 v75 (0 : Nat)), ((50 : Nat), Ob.arr (nat_lit 2) true i64 v24 (0 : Nat)), ((18 : Nat), Ob.arr (nat_lit 81) true y81 v0 (0 : Nat)), ((1 : Nat), Ob.box (nat_lit 44) (cellsD false y44 a0)), ((38 : Nat), Ob.arr (nat_lit 175) true y175 v74 (0 : Nat))]) H (by kernel_rfl) fun H => ?_
    refine vx_block <| ?_
    refine lx (fun ((v85, v86) : Int × List Y175) => St.mk [p (1 : Nat) (AV.ptr (1 : Nat) (0 : Nat)), p (3 : Nat) (AV.ptr (20 : Nat) (0 : Nat)), p (7 : Nat) (AV.os (50 : Nat) (0 : Nat)), p (8 : Nat) (M i64.sl v23), p (11 : Nat) (I v71), p (87 : Nat) (I (↑a0.2.2.length : Int)), p (88 : Nat) (I v71), p (120 : Nat) (M i64 (v23.getD v71.toNat [])), p (121 : Nat) (I (↑(List.length (v23.getD v71.toNat [])) : Int)), p (122 : Nat) (I v85)] [((20 : Nat), Ob.box (nat_lit 170) [L y152 a0.1, L y141 a0.2.1.1, L Ty.str a0.2.1.2.1, L y143 a0.2.1.2.2, L y131 a0.2.2, AV.os (18 : Nat) (0 : Nat), AV.os (38 : Nat) (0 : Nat), AV.os (102 : Nat) (0 : Nat), AV.os (114 : Nat) (0 : Nat), AV.v (Value.slice none (0 : Nat) (0 : Nat))]), ((114 : Nat), Ob.arr (nat_lit 94) true i64.sl (v73 ++ [v76]) (0 : Nat)), ((102 : Nat), Ob.arr (nat_lit 2) true i64 (v72 ++ [v75.getD (Int.toNat (0 : Int)) (0 : Int)]) (0 : Nat)), ((50 : Nat), Ob.arr (nat_lit 2) true i64 v24 (0 : Nat)), ((18 : Nat), Ob.arr (nat_lit 81) true y81 v0 (0 : Nat)), ((1 : Nat), Ob.box (nat_lit 44) (cellsD false y44 a0)), ((38 : Nat), Ob.arr (nat_lit 175) true y175 v86 (0 : Nat))]) (0, v74) H (by kernel_rfl) fun _ g8 b8 e8 t8 ⟨v85, v86⟩ H => ?_
    refine qa tok hT [1, 3, 7, 8, 11, 87, 88, 120, 121, 122, 123] (St.mk [p (1 : Nat) (AV.ptr (1 : Nat) (0 : Nat)), p (3 : Nat) (AV.ptr (20 : Nat) (0 : Nat)), p (7 : Nat) (AV.os (50 : Nat) (0 : Nat)), p (8 : Nat) (M i64.sl v23), p (11 : Nat) (I v71), p (87 : Nat) (I (↑a0.2.2.length : Int)), p (88 : Nat) (I v71), p (120 : Nat) (M i64 (v23.getD v71.toNat [])), p (121 : Nat) (I (↑(List.length (v23.getD v71.toNat [])) : Int)), p (122 : Nat) (I v85), p (123 : Nat) (B (decide (v85 < (↑(List.length (v23.getD v71.toNat [])) : Int))))] [((20 : Nat), Ob.box (nat_lit 170) [L y152 a0.1, L y141 a0.2.1.1, L Ty.str a0.2.1.2.1, L y143 a0.2.1.2.2, L y131 a0.2.2, AV.os (18 : Nat) (0 : Nat), AV.os (38 : Nat) (0 : Nat), AV.os (102 : Nat) (0 : Nat), AV.os (114 : Nat) (0 : Nat), AV.v (Value.slice none (0 : Nat) (0 : Nat))]), ((114 : Nat), Ob.arr (nat_lit 94) true i64.sl (v73 ++ [v76]) (0 : Nat)), ((102 : Nat), Ob.arr (nat_lit 2) true i64 (v72 ++ [v75.getD (Int.toNat (0 : Int)) (0 : Int)]) (0 : Nat)), ((50 : Nat), Ob.arr (nat_lit 2) true i64 v24 (0 : Nat)), ((18 : Nat), Ob.arr (nat_lit 81) true y81 v0 (0 : Nat)), ((1 : Nat), Ob.box (nat_lit 44) (cellsD false y44 a0)), ((38 : Nat), Ob.arr (nat_lit 175) true y175 v86 (0 : Nat))]) (by kernel_rfl) ?_
    refine vx_seq <| ?_
    refine cd H (by kernel_rfl) (fun H => ?_) (fun H => ?_)
    ·refine vx_skip <| fx_seq <| ?_
     refine jn r (fun (v93 : List Y175) => St.mk [p (1 : Nat) (AV.ptr (1 : Nat) (0 : Nat)), p (3 : Nat) (AV.ptr (20 : Nat) (0 : Nat)), p (7 : Nat) (AV.os (50 : Nat) (0 : Nat)), p (8 : Nat) (M i64.sl v23), p (11 : Nat) (I v71), p (87 : Nat) (I (↑a0.2.2.length : Int)), p (88 : Nat) (I v71), p (120 : Nat) (M i64 (v23.getD v71.toNat [])), p (121 : Nat) (I (↑(List.length (v23.getD v71.toNat [])) : Int)), p (122 : Nat) (I v85)] [((20 : Nat), Ob.box (nat_lit 170) [L y152 a0.1, L y141 a0.2.1.1, L Ty.str a0.2.1.2.1, L y143 a0.2.1.2.2, L y131 a0.2.2, AV.os (18 : Nat) (0 : Nat), AV.os (38 : Nat) (0 : Nat), AV.os (102 : Nat) (0 : Nat), AV.os (114 : Nat) (0 : Nat), AV.v (Value.slice none (0 : Nat) (0 : Nat))]), ((114 : Nat), Ob.arr (nat_lit 94) true i64.sl (v73 ++ [v76]) (0 : Nat)), ((102 : Nat), Ob.arr (nat_lit 2) true i64 (v72 ++ [v75.getD (Int.toNat (0 : Int)) (0 : Int)]) (0 : Nat)), ((50 : Nat), Ob.arr (nat_lit 2) true i64 v24 (0 : Nat)), ((18 : Nat), Ob.arr (nat_lit 81) true y81 v0 (0 : Nat)), ((1 : Nat), Ob.box (nat_lit 44) (cellsD false y44 a0)), ((38 : Nat), Ob.arr (nat_lit 175) true y175 v93 (0 : Nat))]) (u49J9 v85 g8) (fun v93 H => ?_) (fun _ n9 e9 t9 => ?_)
     ·refine zb tok hT [1, 3, 7, 8, 11, 87, 88, 120, 121, 122] (St.mk [p (1 : Nat) (AV.ptr (1 : Nat) (0 : Nat)), p (3 : Nat) (AV.ptr (20 : Nat) (0 : Nat)), p (7 : Nat) (AV.os (50 : Nat) (0 : Nat)), p (8 : Nat) (M i64.sl v23), p (11 : Nat) (I v71), p (87 : Nat) (I (↑a0.2.2.length : Int)), p (88 : Nat) (I v71), p (120 : Nat) (M i64 (v23.getD v71.toNat [])), p (121 : Nat) (I (↑(List.length (v23.getD v71.toNat [])) : Int)), p (122 : Nat) (I (v85 + (1 : Int)))] [((20 : Nat), Ob.box (nat_lit 170) [L y152 a0.1, L y141 a0.2.1.1, L Ty.str a0.2.1.2.1, L y143 a0.2.1.2.2, L y131 a0.2.2, AV.os (18 : Nat) (0 : Nat), AV.os (38 : Nat) (0 : Nat), AV.os (102 : Nat) (0 : Nat), AV.os (114 : Nat) (0 : Nat), AV.v (Value.slice none (0 : Nat) (0 : Nat))]), ((114 : Nat), Ob.arr (nat_lit 94) true i64.sl (v73 ++ [v76]) (0 : Nat)), ((102 : Nat), Ob.arr (nat_lit 2) true i64 (v72 ++ [v75.getD (Int.toNat (0 : Int)) (0 : Int)]) (0 : Nat)), ((50 : Nat), Ob.arr (nat_lit 2) true i64 v24 (0 : Nat)), ((18 : Nat), Ob.arr (nat_lit 81) true y81 v0 (0 : Nat)), ((1 : Nat), Ob.box (nat_lit 44) (cellsD false y44 a0)), ((38 : Nat), Ob.arr (nat_lit 175) true y175 v93 (0 : Nat))]) H (by kernel_rfl) fun H => ?_
      exact b8 H (by kernel_rfl)
     refine vx_block <| ?_
     refine qb tok hT [1, 3, 7, 8, 11, 12, 13, 87, 88, 120, 121, 122] (St.mk [p (1 : Nat) (AV.ptr (1 : Nat) (0 : Nat)), p (3 : Nat) (AV.ptr (20 : Nat) (0 : Nat)), p (7 : Nat) (AV.os (50 : Nat) (0 : Nat)), p (8 : Nat) (M i64.sl v23), p (11 : Nat) (I v71), p (12 : Nat) (I v85), p (13 : Nat) (I (List.getD (v23.getD v71.toNat []) v85.toNat (0 : Int))), p (87 : Nat) (I (↑a0.2.2.length : Int)), p (88 : Nat) (I v71), p (120 : Nat) (M i64 (v23.getD v71.toNat [])), p (121 : Nat) (I (↑(List.length (v23.getD v71.toNat [])) : Int)), p (122 : Nat) (I v85)] [((20 : Nat), Ob.box (nat_lit 170) [L y152 a0.1, L y141 a0.2.1.1, L Ty.str a0.2.1.2.1, L y143 a0.2.1.2.2, L y131 a0.2.2, AV.os (18 : Nat) (0 : Nat), AV.os (38 : Nat) (0 : Nat), AV.os (102 : Nat) (0 : Nat), AV.os (114 : Nat) (0 : Nat), AV.v (Value.slice none (0 : Nat) (0 : Nat))]), ((114 : Nat), Ob.arr (nat_lit 94) true i64.sl (v73 ++ [v76]) (0 : Nat)), ((102 : Nat), Ob.arr (nat_lit 2) true i64 (v72 ++ [v75.getD (Int.toNat (0 : Int)) (0 : Int)]) (0 : Nat)), ((50 : Nat), Ob.arr (nat_lit 2) true i64 v24 (0 : Nat)), ((18 : Nat), Ob.arr (nat_lit 81) true y81 v0 (0 : Nat)), ((1 : Nat), Ob.box (nat_lit 44) (cellsD false y44 a0)), ((38 : Nat), Ob.arr (nat_lit 175) true y175 v86 (0 : Nat))]) H (by kernel_rfl) fun H => ?_
     refine qa tok hT [1, 3, 7, 8, 11, 12, 13, 87, 88, 120, 121, 122, 127] (St.mk [p (1 : Nat) (AV.ptr (1 : Nat) (0 : Nat)), p (3 : Nat) (AV.ptr (20 : Nat) (0 : Nat)), p (7 : Nat) (AV.os (50 : Nat) (0 : Nat)), p (8 : Nat) (M i64.sl v23), p (11 : Nat) (I v71), p (12 : Nat) (I v85), p (13 : Nat) (I (List.getD (v23.getD v71.toNat []) v85.toNat (0 : Int))), p (87 : Nat) (I (↑a0.2.2.length : Int)), p (88 : Nat) (I v71), p (120 : Nat) (M i64 (v23.getD v71.toNat [])), p (121 : Nat) (I (↑(List.length (v23.getD v71.toNat [])) : Int)), p (122 : Nat) (I v85), p (127 : Nat) (I (0 : Int))] [((20 : Nat), Ob.box (nat_lit 170) [L y152 a0.1, L y141 a0.2.1.1, L Ty.str a0.2.1.2.1, L y143 a0.2.1.2.2, L y131 a0.2.2, AV.os (18 : Nat) (0 : Nat), AV.os (38 : Nat) (0 : Nat), AV.os (102 : Nat) (0 : Nat), AV.os (114 : Nat) (0 : Nat), AV.v (Value.slice none (0 : Nat) (0 : Nat))]), ((114 : Nat), Ob.arr (nat_lit 94) true i64.sl (v73 ++ [v76]) (0 : Nat)), ((102 : Nat), Ob.arr (nat_lit 2) true i64 (v72 ++ [v75.getD (Int.toNat (0 : Int)) (0 : Int)]) (0 : Nat)), ((50 : Nat), Ob.arr (nat_lit 2) true i64 v24 (0 : Nat)), ((18 : Nat), Ob.arr (nat_lit 81) true y81 v0 (0 : Nat)), ((1 : Nat), Ob.box (nat_lit 44) (cellsD false y44 a0)), ((38 : Nat), Ob.arr (nat_lit 175) true y175 v86 (0 : Nat))]) (by kernel_rfl) ?_
     refine vx_block <| ?_
     refine lx (fun ((v89, v90) : Int × List Y175) => St.mk [p (1 : Nat) (AV.ptr (1 : Nat) (0 : Nat)), p (3 : Nat) (AV.ptr (20 : Nat) (0 : Nat)), p (7 : Nat) (AV.os (50 : Nat) (0 : Nat)), p (8 : Nat) (M i64.sl v23), p (11 : Nat) (I v71), p (12 : Nat) (I v85), p (13 : Nat) (I (List.getD (v23.getD v71.toNat []) v85.toNat (0 : Int))), p (87 : Nat) (I (↑a0.2.2.length : Int)), p (88 : Nat) (I v71), p (120 : Nat) (M i64 (v23.getD v71.toNat [])), p (121 : Nat) (I (↑(List.length (v23.getD v71.toNat [])) : Int)), p (122 : Nat) (I v85), p (127 : Nat) (I v89)] [((20 : Nat), Ob.box (nat_lit 170) [L y152 a0.1, L y141 a0.2.1.1, L Ty.str a0.2.1.2.1, L y143 a0.2.1.2.2, L y131 a0.2.2, AV.os (18 : Nat) (0 : Nat), AV.os (38 : Nat) (0 : Nat), AV.os (102 : Nat) (0 : Nat), AV.os (114 : Nat) (0 : Nat), AV.v (Value.slice none (0 : Nat) (0 : Nat))]), ((114 : Nat), Ob.arr (nat_lit 94) true i64.sl (v73 ++ [v76]) (0 : Nat)), ((102 : Nat), Ob.arr (nat_lit 2) true i64 (v72 ++ [v75.getD (Int.toNat (0 : Int)) (0 : Int)]) (0 : Nat)), ((50 : Nat), Ob.arr (nat_lit 2) true i64 v24 (0 : Nat)), ((18 : Nat), Ob.arr (nat_lit 81) true y81 v0 (0 : Nat)), ((1 : Nat), Ob.box (nat_lit 44) (cellsD false y44 a0)), ((38 : Nat), Ob.arr (nat_lit 175) true y175 v90 (0 : Nat))]) (0, v86) H (by kernel_rfl) fun _ g10 b10 e10 t10 ⟨v89, v90⟩ H => ?_
     refine qa tok hT [1, 3, 7, 8, 11, 12, 13, 87, 88, 120, 121, 122, 127, 128] (St.mk [p (1 : Nat) (AV.ptr (1 : Nat) (0 : Nat)), p (3 : Nat) (AV.ptr (20 : Nat) (0 : Nat)), p (7 : Nat) (AV.os (50 : Nat) (0 : Nat)), p (8 : Nat) (M i64.sl v23), p (11 : Nat) (I v71), p (12 : Nat) (I v85), p (13 : Nat) (I (List.getD (v23.getD v71.toNat []) v85.toNat (0 : Int))), p (87 : Nat) (I (↑a0.2.2.length : Int)), p (88 : Nat) (I v71), p (120 : Nat) (M i64 (v23.getD v71.toNat [])), p (121 : Nat) (I (↑(List.length (v23.getD v71.toNat [])) : Int)), p (122 : Nat) (I v85), p (127 : Nat) (I v89), p (128 : Nat) (B (decide (v89 < (2 : Int))))] [((20 : Nat), Ob.box (nat_lit 170) [L y152 a0.1, L y141 a0.2.1.1, L Ty.str a0.2.1.2.1, L y143 a0.2.1.2.2, L y131 a0.2.2, AV.os (18 : Nat) (0 : Nat), AV.os (38 : Nat) (0 : Nat), AV.os (102 : Nat) (0 : Nat), AV.os (114 : Nat) (0 : Nat), AV.v (Value.slice none (0 : Nat) (0 : Nat))]), ((114 : Nat), Ob.arr (nat_lit 94) true i64.sl (v73 ++ [v76]) (0 : Nat)), ((102 : Nat), Ob.arr (nat_lit 2) true i64 (v72 ++ [v75.getD (Int.toNat (0 : Int)) (0 : Int)]) (0 : Nat)), ((50 : Nat), Ob.arr (nat_lit 2) true i64 v24 (0 : Nat)), ((18 : Nat), Ob.arr (nat_lit 81) true y81 v0 (0 : Nat)), ((1 : Nat), Ob.box (nat_lit 44) (cellsD false y44 a0)), ((38 : Nat), Ob.arr (nat_lit 175) true y175 v90 (0 : Nat))]) (by kernel_rfl) ?_
     refine vx_seq <| ?_
     refine cd H (by kernel_rfl) (fun H => ?_) (fun H => ?_)
     ·refine vx_skip <| fx_seq <| vx_seq <| vx_block <| ?_
      refine qa tok hT [1, 3, 7, 8, 11, 12, 13, 14, 87, 88, 120, 121, 122, 127] (St.mk [p (1 : Nat) (AV.ptr (1 : Nat) (0 : Nat)), p (3 : Nat) (AV.ptr (20 : Nat) (0 : Nat)), p (7 : Nat) (AV.os (50 : Nat) (0 : Nat)), p (8 : Nat) (M i64.sl v23), p (11 : Nat) (I v71), p (12 : Nat) (I v85), p (13 : Nat) (I (List.getD (v23.getD v71.toNat []) v85.toNat (0 : Int))), p (14 : Nat) (I v89), p (87 : Nat) (I (↑a0.2.2.length : Int)), p (88 : Nat) (I v71), p (120 : Nat) (M i64 (v23.getD v71.toNat [])), p (121 : Nat) (I (↑(List.length (v23.getD v71.toNat [])) : Int)), p (122 : Nat) (I v85), p (127 : Nat) (I v89)] [((20 : Nat), Ob.box (nat_lit 170) [L y152 a0.1, L y141 a0.2.1.1, L Ty.str a0.2.1.2.1, L y143 a0.2.1.2.2, L y131 a0.2.2, AV.os (18 : Nat) (0 : Nat), AV.os (38 : Nat) (0 : Nat), AV.os (102 : Nat) (0 : Nat), AV.os (114 : Nat) (0 : Nat), AV.v (Value.slice none (0 : Nat) (0 : Nat))]), ((114 : Nat), Ob.arr (nat_lit 94) true i64.sl (v73 ++ [v76]) (0 : Nat)), ((102 : Nat), Ob.arr (nat_lit 2) true i64 (v72 ++ [v75.getD (Int.toNat (0 : Int)) (0 : Int)]) (0 : Nat)), ((50 : Nat), Ob.arr (nat_lit 2) true i64 v24 (0 : Nat)), ((18 : Nat), Ob.arr (nat_lit 81) true y81 v0 (0 : Nat)), ((1 : Nat), Ob.box (nat_lit 44) (cellsD false y44 a0)), ((38 : Nat), Ob.arr (nat_lit 175) true y175 v90 (0 : Nat))]) (by kernel_rfl) ?_
      refine zd tok hT [1, 3, 7, 8, 11, 12, 13, 87, 88, 120, 121, 122, 127] (fun (v91, v92) => St.mk [p (1 : Nat) (AV.ptr (1 : Nat) (0 : Nat)), p (3 : Nat) (AV.ptr (20 : Nat) (0 : Nat)), p (7 : Nat) (AV.os (50 : Nat) (0 : Nat)), p (8 : Nat) (M i64.sl v23), p (11 : Nat) (I v71), p (12 : Nat) (I v85), p (13 : Nat) (I (List.getD (v23.getD v71.toNat []) v85.toNat (0 : Int))), p (87 : Nat) (I (↑a0.2.2.length : Int)), p (88 : Nat) (I v71), p (120 : Nat) (M i64 (v23.getD v71.toNat [])), p (121 : Nat) (I (↑(List.length (v23.getD v71.toNat [])) : Int)), p (122 : Nat) (I v85), p (127 : Nat) (I v89)] [((20 : Nat), Ob.box (nat_lit 170) [L y152 a0.1, L y141 a0.2.1.1, L Ty.str a0.2.1.2.1, L y143 a0.2.1.2.2, L y131 a0.2.2, AV.os (18 : Nat) (0 : Nat), AV.os (38 : Nat) (1 : Nat), AV.os (102 : Nat) (0 : Nat), AV.os (114 : Nat) (0 : Nat), AV.v (Value.slice none (0 : Nat) (0 : Nat))]), ((38 : Nat), Ob.arr (nat_lit 175) true y175 v91 (1 : Nat)), ((148 : Nat), Ob.arr (nat_lit 175) true y175 v92 (0 : Nat)), ((114 : Nat), Ob.arr (nat_lit 94) true i64.sl (v73 ++ [v76]) (0 : Nat)), ((102 : Nat), Ob.arr (nat_lit 2) true i64 (v72 ++ [v75.getD (Int.toNat (0 : Int)) (0 : Int)]) (0 : Nat)), ((50 : Nat), Ob.arr (nat_lit 2) true i64 v24 (0 : Nat)), ((18 : Nat), Ob.arr (nat_lit 81) true y81 v0 (0 : Nat)), ((1 : Nat), Ob.box (nat_lit 44) (cellsD false y44 a0))]) H (by kernel_rfl) fun ⟨v91, v92⟩ H => ?_
      refine fx_blk <| fx_seq <| ?_
      refine zb tok hT [1, 3, 7, 8, 11, 12, 13, 87, 88, 120, 121, 122, 127] (St.mk [p (1 : Nat) (AV.ptr (1 : Nat) (0 : Nat)), p (3 : Nat) (AV.ptr (20 : Nat) (0 : Nat)), p (7 : Nat) (AV.os (50 : Nat) (0 : Nat)), p (8 : Nat) (M i64.sl v23), p (11 : Nat) (I v71), p (12 : Nat) (I v85), p (13 : Nat) (I (List.getD (v23.getD v71.toNat []) v85.toNat (0 : Int))), p (87 : Nat) (I (↑a0.2.2.length : Int)), p (88 : Nat) (I v71), p (120 : Nat) (M i64 (v23.getD v71.toNat [])), p (121 : Nat) (I (↑(List.length (v23.getD v71.toNat [])) : Int)), p (122 : Nat) (I v85), p (127 : Nat) (I (v89 + (1 : Int)))] [((20 : Nat), Ob.box (nat_lit 170) [L y152 a0.1, L y141 a0.2.1.1, L Ty.str a0.2.1.2.1, L y143 a0.2.1.2.2, L y131 a0.2.2, AV.os (18 : Nat) (0 : Nat), AV.os (38 : Nat) (1 : Nat), AV.os (102 : Nat) (0 : Nat), AV.os (114 : Nat) (0 : Nat), AV.v (Value.slice none (0 : Nat) (0 : Nat))]), ((38 : Nat), Ob.arr (nat_lit 175) true y175 v91 (1 : Nat)), ((148 : Nat), Ob.arr (nat_lit 175) true y175 v92 (0 : Nat)), ((114 : Nat), Ob.arr (nat_lit 94) true i64.sl (v73 ++ [v76]) (0 : Nat)), ((102 : Nat), Ob.arr (nat_lit 2) true i64 (v72 ++ [v75.getD (Int.toNat (0 : Int)) (0 : Int)]) (0 : Nat)), ((50 : Nat), Ob.arr (nat_lit 2) true i64 v24 (0 : Nat)), ((18 : Nat), Ob.arr (nat_lit 81) true y81 v0 (0 : Nat)), ((1 : Nat), Ob.box (nat_lit 44) (cellsD false y44 a0))]) H (by kernel_rfl) fun H => ?_
      exact b10 H (by kernel_rfl)
     exact vx_exit <| fx_seq_exit <| e10 <| fx_blk_exit rfl <| fx_blk <| n9 H (by kernel_rfl)
    exact vx_exit <| fx_seq_exit <| e8 <| fx_blk_exit rfl <| fx_blk <| n7 H (by kernel_rfl)
   exact vx_exit <| fx_seq_exit <| e6 <| fx_blk_exit rfl <| n5 H (by kernel_rfl)
  refine qa tok hT [1, 3, 7, 8, 58, 59, 60] (St.mk [p 1 (AV.ptr 1 0), p 3 (AV.ptr 20 0), p 7 (AV.os 50 0), p 8 (AV.og 54), p 58 (AV.os 18 0), p 59 (I (↑v0.length : Int)), p 60 (I 0)] [(54, Ob.grd 94 2 true i64 (List.replicate (↑a0.2.2.length : Int).toNat []) none), (50, Ob.arr 2 true i64 (List.replicate (↑a0.2.2.length : Int).toNat 0) 0), (20, Ob.box 170 [L y152 a0.1, L y141 a0.2.1.1, L Ty.str a0.2.1.2.1, L y143 a0.2.1.2.2, L y131 a0.2.2, AV.os 18 0, AV.os 38 0, AV.v (Value.slice none 0 0), AV.v (Value.slice none 0 0), AV.v (Value.slice none 0 0)]), (18, Ob.arr 81 true y81 v0 0), (1, Ob.box 44 (cellsD false y44 a0)), (38, Ob.arr 175 true y175 v10 0)]) (by kernel_rfl) ?_
  refine vx_block <| ?_
  refine lx (fun ((v16, v17, v18) : Int × List (List Int) × List Int) => St.mk [p 1 (AV.ptr 1 0), p 3 (AV.ptr 20 0), p 7 (AV.os 50 0), p 8 (AV.og 54), p 58 (AV.os 18 0), p 59 (I (↑v0.length : Int)), p 60 (I v16)] [(54, Ob.grd 94 2 true i64 v17 none), (50, Ob.arr 2 true i64 v18 0), (20, Ob.box 170 [L y152 a0.1, L y141 a0.2.1.1, L Ty.str a0.2.1.2.1, L y143 a0.2.1.2.2, L y131 a0.2.2, AV.os 18 0, AV.os 38 0, AV.v (Value.slice none 0 0), AV.v (Value.slice none 0 0), AV.v (Value.slice none 0 0)]), (18, Ob.arr 81 true y81 v0 0), (1, Ob.box 44 (cellsD false y44 a0)), (38, Ob.arr 175 true y175 v10 0)]) ((0, List.replicate (↑a0.2.2.length : Int).toNat [], List.replicate (↑a0.2.2.length : Int).toNat 0)) H (by kernel_rfl) fun _ g3 b3 e3 t3 ⟨v16, v17, v18⟩ H => ?_
  refine qa tok hT [1, 3, 7, 8, 58, 59, 60, 61] (St.mk [p 1 (AV.ptr 1 0), p 3 (AV.ptr 20 0), p 7 (AV.os 50 0), p 8 (AV.og 54), p 58 (AV.os 18 0), p 59 (I (↑v0.length : Int)), p 60 (I v16), p 61 (B (decide (v16 < (↑v0.length : Int))))] [(54, Ob.grd 94 2 true i64 v17 none), (50, Ob.arr 2 true i64 v18 0), (20, Ob.box 170 [L y152 a0.1, L y141 a0.2.1.1, L Ty.str a0.2.1.2.1, L y143 a0.2.1.2.2, L y131 a0.2.2, AV.os 18 0, AV.os 38 0, AV.v (Value.slice none 0 0), AV.v (Value.slice none 0 0), AV.v (Value.slice none 0 0)]), (18, Ob.arr 81 true y81 v0 0), (1, Ob.box 44 (cellsD false y44 a0)), (38, Ob.arr 175 true y175 v10 0)]) (by kernel_rfl) ?_
  refine vx_seq <| ?_
  refine cd H (by kernel_rfl) (fun H => ?_) (fun H => ?_)
  ·refine vx_skip <| fx_seq <| ?_
   refine jn r (fun ((v21, v22) : List Int × List (List Int)) => St.mk [p 1 (AV.ptr 1 0), p 3 (AV.ptr 20 0), p 7 (AV.os 50 0), p 8 (AV.og 54), p 58 (AV.os 18 0), p 59 (I (↑v0.length : Int)), p 60 (I v16)] [(50, Ob.arr 2 true i64 v21 0), (54, Ob.grd 94 2 true i64 v22 none), (20, Ob.box 170 [L y152 a0.1, L y141 a0.2.1.1, L Ty.str a0.2.1.2.1, L y143 a0.2.1.2.2, L y131 a0.2.2, AV.os 18 0, AV.os 38 0, AV.v (Value.slice none 0 0), AV.v (Value.slice none 0 0), AV.v (Value.slice none 0 0)]), (18, Ob.arr 81 true y81 v0 0), (1, Ob.box 44 (cellsD false y44 a0)), (38, Ob.arr 175 true y175 v10 0)]) (u49J4 v16 g3) (fun ⟨v21, v22⟩ H => ?_) (fun _ n4 e4 t4 => ?_)
   ·refine zb tok hT [1, 3, 7, 8, 58, 59, 60] (St.mk [p 1 (AV.ptr 1 0), p 3 (AV.ptr 20 0), p 7 (AV.os 50 0), p 8 (AV.og 54), p 58 (AV.os 18 0), p 59 (I (↑v0.length : Int)), p 60 (I (v16 + 1))] [(50, Ob.arr 2 true i64 v21 0), (54, Ob.grd 94 2 true i64 v22 none), (20, Ob.box 170 [L y152 a0.1, L y141 a0.2.1.1, L Ty.str a0.2.1.2.1, L y143 a0.2.1.2.2, L y131 a0.2.2, AV.os 18 0, AV.os 38 0, AV.v (Value.slice none 0 0), AV.v (Value.slice none 0 0), AV.v (Value.slice none 0 0)]), (18, Ob.arr 81 true y81 v0 0), (1, Ob.box 44 (cellsD false y44 a0)), (38, Ob.arr 175 true y175 v10 0)]) H (by kernel_rfl) fun H => ?_
    exact b3 H (by kernel_rfl)
   refine vx_block <| ?_
   refine qd tok hT [1, 3, 7, 8, 9, 10, 58, 59, 60] (fun v19 => St.mk [p 1 (AV.ptr 1 0), p 3 (AV.ptr 20 0), p 7 (AV.os 50 0), p 8 (AV.og 54), p 9 (I v16), p 10 (AV.ptr 10 0), p 58 (AV.os 18 0), p 59 (I (↑v0.length : Int)), p 60 (I v16)] [(10, Ob.box 81 (cellsD true y81 v19)), (54, Ob.grd 94 2 true i64 v17 none), (50, Ob.arr 2 true i64 v18 0), (20, Ob.box 170 [L y152 a0.1, L y141 a0.2.1.1, L Ty.str a0.2.1.2.1, L y143 a0.2.1.2.2, L y131 a0.2.2, AV.os 18 0, AV.os 38 0, AV.v (Value.slice none 0 0), AV.v (Value.slice none 0 0), AV.v (Value.slice none 0 0)]), (18, Ob.arr 81 true y81 v0 0), (1, Ob.box 44 (cellsD false y44 a0)), (38, Ob.arr 175 true y175 v10 0)]) H (by kernel_rfl) fun v19 H => ?_
   refine qa tok hT [1, 3, 7, 8, 9, 10, 58, 59, 60, 66] (St.mk [p 1 (AV.ptr 1 0), p 3 (AV.ptr 20 0), p 7 (AV.os 50 0), p 8 (AV.og 54), p 9 (I v16), p 10 (AV.ptr 10 0), p 58 (AV.os 18 0), p 59 (I (↑v0.length : Int)), p 60 (I v16), p 66 (B v19.2.2.2)] [(10, Ob.box 81 (cellsD true y81 v19)), (54, Ob.grd 94 2 true i64 v17 none), (50, Ob.arr 2 true i64 v18 0), (20, Ob.box 170 [L y152 a0.1, L y141 a0.2.1.1, L Ty.str a0.2.1.2.1, L y143 a0.2.1.2.2, L y131 a0.2.2, AV.os 18 0, AV.os 38 0, AV.v (Value.slice none 0 0), AV.v (Value.slice none 0 0), AV.v (Value.slice none 0 0)]), (18, Ob.arr 81 true y81 v0 0), (1, Ob.box 44 (cellsD false y44 a0)), (38, Ob.arr 175 true y175 v10 0)]) (by kernel_rfl) ?_
   refine cd H (by kernel_rfl) (fun H => ?_) (fun H => ?_)
   ·refine zb tok hT [1, 3, 7, 8, 58, 59, 60] (St.mk [p 1 (AV.ptr 1 0), p 3 (AV.ptr 20 0), p 7 (AV.os 50 0), p 8 (AV.og 54), p 58 (AV.os 18 0), p 59 (I (↑v0.length : Int)), p 60 (I v16)] [(50, Ob.arr 2 true i64 (v18.set v19.2.2.1.toNat v16) 0), (10, Ob.box 81 (cellsD true y81 v19)), (54, Ob.grd 94 2 true i64 v17 none), (20, Ob.box 170 [L y152 a0.1, L y141 a0.2.1.1, L Ty.str a0.2.1.2.1, L y143 a0.2.1.2.2, L y131 a0.2.2, AV.os 18 0, AV.os 38 0, AV.v (Value.slice none 0 0), AV.v (Value.slice none 0 0), AV.v (Value.slice none 0 0)]), (18, Ob.arr 81 true y81 v0 0), (1, Ob.box 44 (cellsD false y44 a0)), (38, Ob.arr 175 true y175 v10 0)]) H (by kernel_rfl) fun H => ?_
    exact fx_blk <| n4 H (by kernel_rfl)
   refine zd tok hT [1, 3, 7, 8, 58, 59, 60] (fun v20 => St.mk [p 1 (AV.ptr 1 0), p 3 (AV.ptr 20 0), p 7 (AV.os 50 0), p 8 (AV.og 54), p 58 (AV.os 18 0), p 59 (I (↑v0.length : Int)), p 60 (I v16)] [(54, Ob.grd 94 2 true i64 v20 none), (79, Ob.arr 2 true i64 [] 2), (81, Ob.arr 2 true i64 [v16] 0), (10, Ob.box 81 (cellsD true y81 v19)), (50, Ob.arr 2 true i64 v18 0), (20, Ob.box 170 [L y152 a0.1, L y141 a0.2.1.1, L Ty.str a0.2.1.2.1, L y143 a0.2.1.2.2, L y131 a0.2.2, AV.os 18 0, AV.os 38 0, AV.v (Value.slice none 0 0), AV.v (Value.slice none 0 0), AV.v (Value.slice none 0 0)]), (18, Ob.arr 81 true y81 v0 0), (1, Ob.box 44 (cellsD false y44 a0)), (38, Ob.arr 175 true y175 v10 0)]) H (by kernel_rfl) fun v20 H => ?_
   exact fx_blk <| n4 H (by kernel_rfl)
  exact vx_exit <| fx_seq_exit <| e3 <| fx_blk_exit rfl <| n2 H (by kernel_rfl)
 refine qa tok hT [1, 3, 4, 23, 24, 25] (St.mk [p 1 (AV.ptr 1 0), p 3 (AV.ptr 20 0), p 4 (I 0), p 23 (L y141 a0.2.1.1), p 24 (I (↑a0.2.1.1.length : Int)), p 25 (I 0)] [(20, Ob.box 170 [L y152 a0.1, L y141 a0.2.1.1, L Ty.str a0.2.1.2.1, L y143 a0.2.1.2.2, L y131 a0.2.2, AV.os 18 0, AV.v (Value.slice none 0 0), AV.v (Value.slice none 0 0), AV.v (Value.slice none 0 0), AV.v (Value.slice none 0 0)]), (18, Ob.arr 81 true y81 v0 0), (1, Ob.box 44 (cellsD false y44 a0))]) (by kernel_rfl) ?_
 refine vx_block <| ?_
 refine lx (fun ((v4, v5, v6) : Int × Int × List Y175) => St.mk [p 1 (AV.ptr 1 0), p 3 (AV.ptr 20 0), p 4 (I v4), p 23 (L y141 a0.2.1.1), p 24 (I (↑a0.2.1.1.length : Int)), p 25 (I v5)] [(20, Ob.box 170 [L y152 a0.1, L y141 a0.2.1.1, L Ty.str a0.2.1.2.1, L y143 a0.2.1.2.2, L y131 a0.2.2, AV.os 18 0, AV.os 38 0, AV.v (Value.slice none 0 0), AV.v (Value.slice none 0 0), AV.v (Value.slice none 0 0)]), (18, Ob.arr 81 true y81 v0 0), (1, Ob.box 44 (cellsD false y44 a0)), (38, Ob.arr 175 true y175 v6 0)]) (0, 0, []) H (by kernel_rfl) fun _ g1 b1 e1 t1 ⟨v4, v5, v6⟩ H => ?_
 refine qa tok hT [1, 3, 4, 23, 24, 25, 26] (St.mk [p 1 (AV.ptr 1 0), p 3 (AV.ptr 20 0), p 4 (I v4), p 23 (L y141 a0.2.1.1), p 24 (I (↑a0.2.1.1.length : Int)), p 25 (I v5), p 26 (B (decide (v5 < (↑a0.2.1.1.length : Int))))] [(20, Ob.box 170 [L y152 a0.1, L y141 a0.2.1.1, L Ty.str a0.2.1.2.1, L y143 a0.2.1.2.2, L y131 a0.2.2, AV.os 18 0, AV.os 38 0, AV.v (Value.slice none 0 0), AV.v (Value.slice none 0 0), AV.v (Value.slice none 0 0)]), (18, Ob.arr 81 true y81 v0 0), (1, Ob.box 44 (cellsD false y44 a0)), (38, Ob.arr 175 true y175 v6 0)]) (by kernel_rfl) ?_
 refine vx_seq <| ?_
 refine cd H (by kernel_rfl) (fun H => ?_) (fun H => ?_)
 ·refine vx_skip <| fx_seq <| vx_seq <| vx_block <| ?_
  refine qd tok hT [1, 3, 4, 6, 23, 24, 25] (fun v7 => St.mk [p 1 (AV.ptr 1 0), p 3 (AV.ptr 20 0), p 4 (I v4), p 6 (AV.ptr 6 0), p 23 (L y141 a0.2.1.1), p 24 (I (↑a0.2.1.1.length : Int)), p 25 (I v5)] [(6, Ob.box 141 (cellsD false y141 v7)), (20, Ob.box 170 [L y152 a0.1, L y141 a0.2.1.1, L Ty.str a0.2.1.2.1, L y143 a0.2.1.2.2, L y131 a0.2.2, AV.os 18 0, AV.os 38 0, AV.v (Value.slice none 0 0), AV.v (Value.slice none 0 0), AV.v (Value.slice none 0 0)]), (18, Ob.arr 81 true y81 v0 0), (1, Ob.box 44 (cellsD false y44 a0)), (38, Ob.arr 175 true y175 v6 0)]) H (by kernel_rfl) fun v7 H => ?_
  refine qd tok hT [1, 3, 4, 6, 23, 24, 25] (fun v8 => St.mk [p 1 (AV.ptr 1 0), p 3 (AV.ptr 20 0), p 4 (I v4), p 6 (AV.ptr 6 0), p 23 (L y141 a0.2.1.1), p 24 (I (↑a0.2.1.1.length : Int)), p 25 (I v5)] [(20, Ob.box 170 [L y152 a0.1, L y141 a0.2.1.1, L Ty.str a0.2.1.2.1, L y143 a0.2.1.2.2, L y131 a0.2.2, AV.os 18 0, AV.os 38 1, AV.v (Value.slice none 0 0), AV.v (Value.slice none 0 0), AV.v (Value.slice none 0 0)]), (38, Ob.arr 175 true y175 (v6 ++ v8) 1), (37, Ob.arr 175 true y175 v8 0), (6, Ob.box 141 (cellsD false y141 v7)), (18, Ob.arr 81 true y81 v0 0), (1, Ob.box 44 (cellsD false y44 a0))]) H (by kernel_rfl) fun v8 H => ?_
  refine zd tok hT [1, 3, 4, 23, 24, 25] (fun v9 => St.mk [p 1 (AV.ptr 1 0), p 3 (AV.ptr 20 0), p 4 (I (v4 + v9)), p 23 (L y141 a0.2.1.1), p 24 (I (↑a0.2.1.1.length : Int)), p 25 (I v5)] [(20, Ob.box 170 [L y152 a0.1, L y141 a0.2.1.1, L Ty.str a0.2.1.2.1, L y143 a0.2.1.2.2, L y131 a0.2.2, AV.os 18 0, AV.os 38 1, AV.v (Value.slice none 0 0), AV.v (Value.slice none 0 0), AV.v (Value.slice none 0 0)]), (38, Ob.arr 175 true y175 (v6 ++ v8) 1), (37, Ob.arr 175 true y175 v8 0), (6, Ob.box 141 (cellsD false y141 v7)), (18, Ob.arr 81 true y81 v0 0), (1, Ob.box 44 (cellsD false y44 a0))]) H (by kernel_rfl) fun v9 H => ?_
  refine fx_blk <| fx_seq <| ?_
  refine zb tok hT [1, 3, 4, 23, 24, 25] (St.mk [p 1 (AV.ptr 1 0), p 3 (AV.ptr 20 0), p 4 (I (v4 + v9)), p 23 (L y141 a0.2.1.1), p 24 (I (↑a0.2.1.1.length : Int)), p 25 (I (v5 + 1))] [(20, Ob.box 170 [L y152 a0.1, L y141 a0.2.1.1, L Ty.str a0.2.1.2.1, L y143 a0.2.1.2.2, L y131 a0.2.2, AV.os 18 0, AV.os 38 1, AV.v (Value.slice none 0 0), AV.v (Value.slice none 0 0), AV.v (Value.slice none 0 0)]), (38, Ob.arr 175 true y175 (v6 ++ v8) 1), (37, Ob.arr 175 true y175 v8 0), (6, Ob.box 141 (cellsD false y141 v7)), (18, Ob.arr 81 true y81 v0 0), (1, Ob.box 44 (cellsD false y44 a0))]) H (by kernel_rfl) fun H => ?_
  exact b1 H (by kernel_rfl)
 exact vx_exit <| fx_seq_exit <| e1 <| fx_blk_exit rfl <| n0 H (by kernel_rfl)
def u152 (a0 : Int) (a1 : Int) (a2 : Int) : Option (Bool) :=
 gd ((u87 a0 a1 a2).isSome = true ∧ True) <| 
 some (!vl (u87 a0 a1 a2))
def k152 : Ct := lct 152 [.dat i64, .dat (.pt i64), .dat (.pt i64)] (fun x => u152 x.1 x.2.1 x.2.2.1) (fun r : Bool => B r) (fun _ => ())
theorem o152 : Ok Tryz.prog k152 := by
 refine okl tok [.tmp 4] Tryz.func152 Tryz.ntmps152 rfl Tryz.results152 (by kernel_rfl) rfl ?_
 intro y ⟨a0, a1, a2, _⟩ r H Q hn hr
 have hT := tc o87 tn
 refine qa tok hT [0, 1, 2] (St.mk [p 0 (J a0), p 1 (D i64.pt a1), p 2 (D i64.pt a2)] []) (by kernel_rfl) ?_
 refine qb tok hT [4] (St.mk [p 4 (B !vl (u87 a0 a1 a2))] []) H (by kernel_rfl) fun H => ?_
 exact vx_ret <| hr H (by kernel_rfl)
def u169c152J0 : Unit → Option (Int)
 | _ =>
 some (-1)
def u169c152L1 (a0 : List Int) (a1 : Int × Int) (g1 : Int → Option (Int)) : Int → Option (Int)
 | v0 =>
 if (decide (v0 < (↑a0.length : Int))) = true then
  gd (ix v0 a0.length ∧ (u152 (a0.getD v0.toNat 0) a1.1 a1.2).isSome = true ∧ True) <| 
  if (vl (u152 (a0.getD v0.toNat 0) a1.1 a1.2)) = true then
   some v0
  else
   gd (in64 (v0 + 1) ∧ True) <| 
   g1 (v0 + 1)
 else
  u169c152J0 ()
def u169c152 (a0 : List Int) (a1 : Int × Int) : Option (Int) :=
 lp (u169c152L1 a0 a1) 0
def k169c152 : Ct := lct 169 [.dat i64.sl, .fn 152 (.pr i64.pt i64.pt)] (fun x => u169c152 x.1 x.2.1) (fun r : Int => I r) (fun _ => ())
theorem o169c152 : Ok Tryz.prog k169c152 := by
 refine okl tok [.tmp 4] Tryz.func169 Tryz.ntmps169 rfl Tryz.results169 (by kernel_rfl) rfl ?_
 intro y ⟨a0, a1, _⟩ r H Q hn hr
 have hT := tc o152 tn
 refine qa tok hT [0, 1] (St.mk [p 0 (L i64 a0), p 1 (AV.fn 152 [D i64.pt a1.1, D i64.pt a1.2])] []) (by kernel_rfl) ?_
 refine jn r (fun (_ : Unit) => St.mk [] []) (u169c152J0) (fun _ H => ?_) (fun _ n0 e0 t0 => ?_)
 ·refine qa tok hT [4] (St.mk [p 4 (I (-1))] []) (by kernel_rfl) ?_
  exact vx_ret <| hr H (by kernel_rfl)
 refine qa tok hT [0, 1, 7, 8] (St.mk [p 0 (L i64 a0), p 1 (AV.fn 152 [D i64.pt a1.1, D i64.pt a1.2]), p 7 (I (↑a0.length : Int)), p 8 (I 0)] []) (by kernel_rfl) ?_
 refine vx_block <| ?_
 refine lx (fun (v0 : Int) => St.mk [p 0 (L i64 a0), p 1 (AV.fn 152 [D i64.pt a1.1, D i64.pt a1.2]), p 7 (I (↑a0.length : Int)), p 8 (I v0)] []) 0 H (by kernel_rfl) fun _ g1 b1 e1 t1 v0 H => ?_
 refine qa tok hT [0, 1, 7, 8, 9] (St.mk [p 0 (L i64 a0), p 1 (AV.fn 152 [D i64.pt a1.1, D i64.pt a1.2]), p 7 (I (↑a0.length : Int)), p 8 (I v0), p 9 (B (decide (v0 < (↑a0.length : Int))))] []) (by kernel_rfl) ?_
 refine vx_seq <| ?_
 refine cd H (by kernel_rfl) (fun H => ?_) (fun H => ?_)
 ·refine vx_skip <| fx_seq <| vx_seq <| vx_block <| ?_
  refine qa tok hT [0, 1, 5, 7, 8] (St.mk [p 0 (L i64 a0), p 1 (AV.fn 152 [D i64.pt a1.1, D i64.pt a1.2]), p 5 (I v0), p 7 (I (↑a0.length : Int)), p 8 (I v0)] []) (by kernel_rfl) ?_
  refine qb tok hT [0, 1, 5, 7, 8, 16] (St.mk [p 0 (L i64 a0), p 1 (AV.fn 152 [D i64.pt a1.1, D i64.pt a1.2]), p 5 (I v0), p 7 (I (↑a0.length : Int)), p 8 (I v0), p 16 (B (vl (u152 (a0.getD v0.toNat 0) a1.1 a1.2)))] []) H (by kernel_rfl) fun H => ?_
  refine cd H (by kernel_rfl) (fun H => ?_) (fun H => ?_)
  ·refine qa tok hT [4] (St.mk [p 4 (I v0)] []) (by kernel_rfl) ?_
   exact vx_ret <| fx_blk_ret <| fx_seq_ret <| t1 <| fx_blk_ret <| t0 <| hr H (by kernel_rfl)
  refine vx_skip <| fx_blk <| fx_seq <| ?_
  refine zb tok hT [0, 1, 7, 8] (St.mk [p 0 (L i64 a0), p 1 (AV.fn 152 [D i64.pt a1.1, D i64.pt a1.2]), p 7 (I (↑a0.length : Int)), p 8 (I (v0 + 1))] []) H (by kernel_rfl) fun H => ?_
  exact b1 H (by kernel_rfl)
 exact vx_exit <| fx_seq_exit <| e1 <| fx_blk_exit rfl <| n0 H (by kernel_rfl)
def u148c152 (a0 : List Int) (a1 : Int × Int) : Option (Bool) :=
 gd ((u169c152 a0 a1).isSome = true ∧ True) <| lt (vl (u169c152 a0 a1)) fun v0 =>
 some (decide (0 ≤ v0))
def k148c152 : Ct := lct 148 [.dat i64.sl, .fn 152 (.pr (.pt i64) (.pt i64))] (fun x => u148c152 x.1 x.2.1) (fun r : Bool => B r) (fun _ => ())
theorem o148c152 : Ok Tryz.prog k148c152 := by
 refine okl tok [.tmp 4] Tryz.func148 Tryz.ntmps148 rfl Tryz.results148 (by kernel_rfl) rfl ?_
 intro y ⟨a0, a1, _⟩ r H Q hn hr
 have hT := tc o169c152 (tc o152 tn)
 refine qa tok hT [0, 1] (St.mk [p 0 (L i64 a0), p 1 (AV.fn 152 [D i64.pt a1.1, D i64.pt a1.2])] []) (by kernel_rfl) ?_
 refine qd tok hT [4] (fun v0 => St.mk [p 4 (B (decide (0 ≤ v0)))] []) H (by kernel_rfl) fun v0 H => ?_
 exact vx_ret <| hr H (by kernel_rfl)
def u127 (a0 : List Int) (a1 : Int) (a2 : Int) : Option (Bool) :=
 gd ((u148c152 a0 (a1, a2)).isSome = true ∧ True) <| 
 some (!vl (u148c152 a0 (a1, a2)))
def k127 : Ct := lct 127 [.dat i64.sl, .dat i64, .dat i64] (fun x => u127 x.1 x.2.1 x.2.2.1) (fun r : Bool => B r) (fun _ => ())
theorem o127 : Ok Tryz.prog k127 := by
 refine okl tok [.tmp 6] Tryz.func127 Tryz.ntmps127 rfl Tryz.results127 (by kernel_rfl) rfl ?_
 intro y ⟨a0, a1, a2, _⟩ r H Q hn hr
 have hT := tc o148c152 (tc o152 tn)
 refine qa tok hT [0, 4, 5] (St.mk [p 0 (L i64 a0), p 4 (AV.ptr 4 0), p 5 (AV.ptr 5 0)] [(5, Ob.box 2 [J a2]), (4, Ob.box 2 [J a1])]) (by kernel_rfl) ?_
 refine qb tok hT [6] (St.mk [p 6 (B !vl (u148c152 a0 (a1, a2)))] [(5, Ob.box 2 [J a2]), (4, Ob.box 2 [J a1])]) H (by kernel_rfl) fun H => ?_
 exact vx_ret <| hr H (by kernel_rfl)
def u126J0 : Unit → Option (Bool)
 | _ =>
 some true
def u126L1 (a0 : Y131) (g1 : Int → Option (Bool)) : Int → Option (Bool)
 | v0 =>
 if (decide (v0 < (↑a0.1.length : Int))) = true then
  gd (ix v0 a0.1.length ∧ True) <| 
  gd (((a0.1.getD v0.toNat (0 : Int) != (-1 : Int)) = false ∧ (v0 == (0 : Int)) = true ∧ True → ix (0 : Int) a0.2.1.length) ∧ (decide ((0 : Int) < v0) = true ∧ (v0 == (0 : Int) && (a0.1.getD v0.toNat (0 : Int) != (-1 : Int) || a0.2.1.getD (Int.toNat (0 : Int)) (0 : Int) != (0 : Int))) = false ∧ True → in64 (v0 - (1 : Int))) ∧ (decide ((0 : Int) < v0) = true ∧ (v0 == (0 : Int) && (a0.1.getD v0.toNat (0 : Int) != (-1 : Int) || a0.2.1.getD (Int.toNat (0 : Int)) (0 : Int) != (0 : Int))) = false ∧ True → (u87 (a0.1.getD v0.toNat (0 : Int)) (0 : Int) (v0 - (1 : Int))).isSome = true) ∧ True) <| 
  if (v0 == (0 : Int) && (a0.1.getD v0.toNat (0 : Int) != (-1 : Int) || a0.2.1.getD (Int.toNat (0 : Int)) (0 : Int) != (0 : Int)) || decide ((0 : Int) < v0) && !vl (u87 (a0.1.getD v0.toNat (0 : Int)) (0 : Int) (v0 - (1 : Int)))) = true then
   some false
  else
   gd (in64 (v0 + 1) ∧ True) <| 
   g1 (v0 + 1)
 else
  u126J0 ()
def u126 (a0 : Y131) : Option (Bool) :=
 lp (u126L1 a0) 0
def k126 : Ct := lct 126 [.agg y131] (fun x => u126 x.1) (fun r : Bool => B r) (fun _ => ())
theorem o126 : Ok Tryz.prog k126 := by
 refine okl tok [.tmp 2] Tryz.func126 Tryz.ntmps126 rfl Tryz.results126 (by kernel_rfl) rfl ?_
 intro y ⟨a0, _⟩ r H Q hn hr
 have hT := tc o87 tn
 refine qa tok hT [1] (St.mk [p 1 (AV.ptr 1 0)] [(1, Ob.box 131 (cellsD false y131 a0))]) (by kernel_rfl) ?_
 refine jn r (fun (_ : Unit) => St.mk [] []) (u126J0) (fun _ H => ?_) (fun _ n0 e0 t0 => ?_)
 ·refine qa tok hT [2] (St.mk [p 2 (B true)] []) (by kernel_rfl) ?_
  exact vx_ret <| hr H (by kernel_rfl)
 refine qa tok hT [1, 6, 7, 8] (St.mk [p 1 (AV.ptr 1 0), p 6 (L i64 a0.1), p 7 (I (↑a0.1.length : Int)), p 8 (I 0)] [(1, Ob.box 131 (cellsD false y131 a0))]) (by kernel_rfl) ?_
 refine vx_block <| ?_
 refine lx (fun (v0 : Int) => St.mk [p 1 (AV.ptr 1 0), p 6 (L i64 a0.1), p 7 (I (↑a0.1.length : Int)), p 8 (I v0)] [(1, Ob.box 131 (cellsD false y131 a0))]) 0 H (by kernel_rfl) fun _ g1 b1 e1 t1 v0 H => ?_
 refine qa tok hT [1, 6, 7, 8, 9] (St.mk [p 1 (AV.ptr 1 0), p 6 (L i64 a0.1), p 7 (I (↑a0.1.length : Int)), p 8 (I v0), p 9 (B (decide (v0 < (↑a0.1.length : Int))))] [(1, Ob.box 131 (cellsD false y131 a0))]) (by kernel_rfl) ?_
 refine vx_seq <| ?_
 refine cd H (by kernel_rfl) (fun H => ?_) (fun H => ?_)
 ·refine vx_skip <| fx_seq <| vx_seq <| vx_block <| ?_
  refine qb tok hT [1, 3, 4, 6, 7, 8] (St.mk [p 1 (AV.ptr 1 0), p 3 (I v0), p 4 (J (a0.1.getD v0.toNat 0)), p 6 (L i64 a0.1), p 7 (I (↑a0.1.length : Int)), p 8 (I v0)] [(1, Ob.box 131 (cellsD false y131 a0))]) H (by kernel_rfl) fun H => ?_
  refine qb tok hT [1, 6, 7, 8, 16, 17, 18, 19, 20, 21, 22, 23, 24, 27, 28, 29, 30, 31, 32, 33, 34, 35, 36] (St.mk [p (1 : Nat) (AV.ptr (1 : Nat) (0 : Nat)), p (6 : Nat) (L i64 a0.1), p (7 : Nat) (I (↑a0.1.length : Int)), p (8 : Nat) (I v0), p (36 : Nat) (B (v0 == (0 : Int) && (a0.1.getD v0.toNat (0 : Int) != (-1 : Int) || a0.2.1.getD (Int.toNat (0 : Int)) (0 : Int) != (0 : Int)) || decide ((0 : Int) < v0) && !vl (u87 (a0.1.getD v0.toNat (0 : Int)) (0 : Int) (v0 - (1 : Int)))))] [((1 : Nat), Ob.box (nat_lit 131) (cellsD false y131 a0))]) H (by kernel_rfl) fun H => ?_
  refine cd H (by kernel_rfl) (fun H => ?_) (fun H => ?_)
  ·refine qa tok hT [2] (St.mk [p 2 (B false)] [(1, Ob.box 131 (cellsD false y131 a0))]) (by kernel_rfl) ?_
   exact vx_ret <| fx_blk_ret <| fx_seq_ret <| t1 <| fx_blk_ret <| t0 <| hr H (by kernel_rfl)
  refine vx_skip <| fx_blk <| fx_seq <| ?_
  refine zb tok hT [1, 6, 7, 8] (St.mk [p 1 (AV.ptr 1 0), p 6 (L i64 a0.1), p 7 (I (↑a0.1.length : Int)), p 8 (I (v0 + 1))] [(1, Ob.box 131 (cellsD false y131 a0))]) H (by kernel_rfl) fun H => ?_
  exact b1 H (by kernel_rfl)
 exact vx_exit <| fx_seq_exit <| e1 <| fx_blk_exit rfl <| n0 H (by kernel_rfl)
def u79 (a0 : Y131) (a1 : Int) : Option (Bool) :=
 gd ((u96 a0.1).isSome = true ∧ True) <| lt (vl (u96 a0.1)) fun v0 =>
 gd ((u87 v0 1 8).isSome = true ∧ (vl (u87 v0 1 8) = true ∧ True → (u96 a0.2.1).isSome = true) ∧ ((vl (u87 v0 1 8) && vl (u96 a0.2.1) == v0) = true ∧ True → (u96 a0.2.2.1).isSome = true) ∧ ((vl (u87 v0 1 8) && vl (u96 a0.2.1) == v0 && vl (u96 a0.2.2.1) == v0) = true ∧ True → (u126 a0).isSome = true) ∧ ((vl (u87 v0 1 8) && vl (u96 a0.2.1) == v0 && vl (u96 a0.2.2.1) == v0 && vl (u126 a0)) = true ∧ True → (u127 a0.2.1 0 1000).isSome = true) ∧ ((vl (u87 v0 1 8) && vl (u96 a0.2.1) == v0 && vl (u96 a0.2.2.1) == v0 && vl (u126 a0) && vl (u127 a0.2.1 0 1000)) = true ∧ True → (u127 a0.2.2.1 0 500).isSome = true) ∧ ((vl (u87 v0 1 8) && vl (u96 a0.2.1) == v0 && vl (u96 a0.2.2.1) == v0 && vl (u126 a0) && vl (u127 a0.2.1 0 1000) && vl (u127 a0.2.2.1 0 500)) = true ∧ True → (u96 a0.2.2.2).isSome = true) ∧ ((vl (u87 v0 1 8) && vl (u96 a0.2.1) == v0 && vl (u96 a0.2.2.1) == v0 && vl (u126 a0) && vl (u127 a0.2.1 0 1000) && vl (u127 a0.2.2.1 0 500) && vl (u96 a0.2.2.2) == a1) = true ∧ True → in64 (v0 - 1)) ∧ ((vl (u87 v0 1 8) && vl (u96 a0.2.1) == v0 && vl (u96 a0.2.2.1) == v0 && vl (u126 a0) && vl (u127 a0.2.1 0 1000) && vl (u127 a0.2.2.1 0 500) && vl (u96 a0.2.2.2) == a1) = true ∧ True → (u127 a0.2.2.2 0 (v0 - 1)).isSome = true) ∧ True) <| lt ((vl (u96 a0.2.1), vl (u96 a0.2.2.1), vl (u96 a0.2.2.2))) fun (v1, v2, v3) =>
 some (vl (u87 v0 1 8) && v1 == v0 && v2 == v0 && vl (u126 a0) && vl (u127 a0.2.1 0 1000) && vl (u127 a0.2.2.1 0 500) && v3 == a1 && vl (u127 a0.2.2.2 0 (v0 - 1)))
def k79 : Ct := lct 79 [.agg y131, .dat i64] (fun x => u79 x.1 x.2.1) (fun r : Bool => B r) (fun _ => ())
theorem o79 : Ok Tryz.prog k79 := by
 refine okl tok [.tmp 4] Tryz.func79 Tryz.ntmps79 rfl Tryz.results79 (by kernel_rfl) rfl ?_
 intro y ⟨a0, a1, _⟩ r H Q hn hr
 have hT := tc o127 (tc o96 (tc o126 (tc o87 tn)))
 refine qa tok hT [1, 2] (St.mk [p 1 (J a1), p 2 (AV.ptr 2 0)] [(2, Ob.box 131 (cellsD false y131 a0))]) (by kernel_rfl) ?_
 refine qd tok hT [1, 2, 5] (fun v0 => St.mk [p 1 (J a1), p 2 (AV.ptr 2 0), p 5 (I v0)] [(2, Ob.box 131 (cellsD false y131 a0))]) H (by kernel_rfl) fun v0 H => ?_
 refine qd tok hT [4] (fun (v1, v2, v3) => St.mk [p 4 (B (vl (u87 v0 1 8) && v1 == v0 && v2 == v0 && vl (u126 a0) && vl (u127 a0.2.1 0 1000) && vl (u127 a0.2.2.1 0 500) && v3 == a1 && vl (u127 a0.2.2.2 0 (v0 - 1))))] [(2, Ob.box 131 (cellsD false y131 a0))]) H (by kernel_rfl) fun ⟨v1, v2, v3⟩ H => ?_
 exact vx_ret <| hr H (by kernel_rfl)
def u125 (a0 : Int) : Option (Bool) :=
 some (a0 != 1)
def k125 : Ct := lct 125 [.dat i64] (fun x => u125 x.1) (fun r : Bool => B r) (fun _ => ())
theorem o125 : Ok Tryz.prog k125 := by
 refine okl tok [.tmp 2] Tryz.func125 Tryz.ntmps125 rfl Tryz.results125 (by kernel_rfl) rfl ?_
 intro y ⟨a0, _⟩ r H Q hn hr
 have hT := @tn Tryz.prog
 refine qa tok hT [0] (St.mk [p 0 (J a0)] []) (by kernel_rfl) ?_
 refine qa tok hT [2] (St.mk [p 2 (B (a0 != 1))] []) (by kernel_rfl) ?_
 exact vx_ret <| hr H (by kernel_rfl)
def u150 (a0 : List ByteArray) : Option (Int) :=
 some (↑a0.length : Int)
def k150 : Ct := lct 150 [.dat Ty.str.sl] (fun x => u150 x.1) (fun r : Int => I r) (fun _ => ())
theorem o150 : Ok Tryz.prog k150 := by
 refine okl tok [.tmp 2] Tryz.func150 Tryz.ntmps150 rfl Tryz.results150 (by kernel_rfl) rfl ?_
 intro y ⟨a0, _⟩ r H Q hn hr
 have hT := @tn Tryz.prog
 refine qa tok hT [0] (St.mk [p 0 (L Ty.str a0)] []) (by kernel_rfl) ?_
 refine qa tok hT [2] (St.mk [p 2 (I (↑a0.length : Int))] []) (by kernel_rfl) ?_
 exact vx_ret <| hr H (by kernel_rfl)
def u123 (a0 : Y41) (a1 : Int) : Option (Bool) :=
 gd ((u150 a0.2.1).isSome = true ∧ in64 (vl (u150 a0.2.1) - 1) ∧ (u87 a1 0 (vl (u150 a0.2.1) - 1)).isSome = true ∧ True) <| 
 some (vl (u87 a1 0 (vl (u150 a0.2.1) - 1)))
def k123 : Ct := lct 123 [.agg y41, .dat i64] (fun x => u123 x.1 x.2.1) (fun r : Bool => B r) (fun _ => ())
theorem o123 : Ok Tryz.prog k123 := by
 refine okl tok [.tmp 4] Tryz.func123 Tryz.ntmps123 rfl Tryz.results123 (by kernel_rfl) rfl ?_
 intro y ⟨a0, a1, _⟩ r H Q hn hr
 have hT := tc o87 (tc o150 tn)
 refine qa tok hT [1, 2] (St.mk [p 1 (J a1), p 2 (AV.ptr 2 0)] [(2, Ob.box 41 (cellsD false y41 a0))]) (by kernel_rfl) ?_
 refine qb tok hT [4] (St.mk [p 4 (B (vl (u87 a1 0 (vl (u150 a0.2.1) - 1))))] [(2, Ob.box 41 (cellsD false y41 a0))]) H (by kernel_rfl) fun H => ?_
 exact vx_ret <| hr H (by kernel_rfl)
def u147 (a0 : List Y152) : Option (Int) :=
 some (↑a0.length : Int)
def k147 : Ct := lct 147 [.dat y152.sl] (fun x => u147 x.1) (fun r : Int => I r) (fun _ => ())
theorem o147 : Ok Tryz.prog k147 := by
 refine okl tok [.tmp 2] Tryz.func147 Tryz.ntmps147 rfl Tryz.results147 (by kernel_rfl) rfl ?_
 intro y ⟨a0, _⟩ r H Q hn hr
 have hT := @tn Tryz.prog
 refine qa tok hT [0] (St.mk [p 0 (L y152 a0)] []) (by kernel_rfl) ?_
 refine qa tok hT [2] (St.mk [p 2 (I (↑a0.length : Int))] []) (by kernel_rfl) ?_
 exact vx_ret <| hr H (by kernel_rfl)
def u149 (a0 : Int) (a1 : Y41) : Option (Bool) :=
 gd ((u123 a1 a0).isSome = true ∧ True) <| 
 some (!vl (u123 a1 a0))
def k149 : Ct := lct 149 [.dat i64, .dat (.pt y41)] (fun x => u149 x.1 x.2.1) (fun r : Bool => B r) (fun _ => ())
theorem o149 : Ok Tryz.prog k149 := by
 refine okl tok [.tmp 3] Tryz.func149 Tryz.ntmps149 rfl Tryz.results149 (by kernel_rfl) rfl ?_
 intro y ⟨a0, a1, _⟩ r H Q hn hr
 have hT := tc o123 tn
 refine qa tok hT [0, 1] (St.mk [p 0 (J a0), p 1 (D y41.pt a1)] []) (by kernel_rfl) ?_
 refine qb tok hT [3] (St.mk [p 3 (B !vl (u123 a1 a0))] []) H (by kernel_rfl) fun H => ?_
 exact vx_ret <| hr H (by kernel_rfl)
def u169c149J0 : Unit → Option (Int)
 | _ =>
 some (-1)
def u169c149L1 (a0 : List Int) (a1 : Y41) (g1 : Int → Option (Int)) : Int → Option (Int)
 | v0 =>
 if (decide (v0 < (↑a0.length : Int))) = true then
  gd (ix v0 a0.length ∧ (u149 (a0.getD v0.toNat 0) a1).isSome = true ∧ True) <| 
  if (vl (u149 (a0.getD v0.toNat 0) a1)) = true then
   some v0
  else
   gd (in64 (v0 + 1) ∧ True) <| 
   g1 (v0 + 1)
 else
  u169c149J0 ()
def u169c149 (a0 : List Int) (a1 : Y41) : Option (Int) :=
 lp (u169c149L1 a0 a1) 0
def k169c149 : Ct := lct 169 [.dat i64.sl, .fn 149 y41.pt] (fun x => u169c149 x.1 x.2.1) (fun r : Int => I r) (fun _ => ())
theorem o169c149 : Ok Tryz.prog k169c149 := by
 refine okl tok [.tmp 4] Tryz.func169 Tryz.ntmps169 rfl Tryz.results169 (by kernel_rfl) rfl ?_
 intro y ⟨a0, a1, _⟩ r H Q hn hr
 have hT := tc o149 tn
 refine qa tok hT [0, 1] (St.mk [p 0 (L i64 a0), p 1 (AV.fn 149 [D y41.pt a1])] []) (by kernel_rfl) ?_
 refine jn r (fun (_ : Unit) => St.mk [] []) (u169c149J0) (fun _ H => ?_) (fun _ n0 e0 t0 => ?_)
 ·refine qa tok hT [4] (St.mk [p 4 (I (-1))] []) (by kernel_rfl) ?_
  exact vx_ret <| hr H (by kernel_rfl)
 refine qa tok hT [0, 1, 7, 8] (St.mk [p 0 (L i64 a0), p 1 (AV.fn 149 [D y41.pt a1]), p 7 (I (↑a0.length : Int)), p 8 (I 0)] []) (by kernel_rfl) ?_
 refine vx_block <| ?_
 refine lx (fun (v0 : Int) => St.mk [p 0 (L i64 a0), p 1 (AV.fn 149 [D y41.pt a1]), p 7 (I (↑a0.length : Int)), p 8 (I v0)] []) 0 H (by kernel_rfl) fun _ g1 b1 e1 t1 v0 H => ?_
 refine qa tok hT [0, 1, 7, 8, 9] (St.mk [p 0 (L i64 a0), p 1 (AV.fn 149 [D y41.pt a1]), p 7 (I (↑a0.length : Int)), p 8 (I v0), p 9 (B (decide (v0 < (↑a0.length : Int))))] []) (by kernel_rfl) ?_
 refine vx_seq <| ?_
 refine cd H (by kernel_rfl) (fun H => ?_) (fun H => ?_)
 ·refine vx_skip <| fx_seq <| vx_seq <| vx_block <| ?_
  refine qa tok hT [0, 1, 5, 7, 8] (St.mk [p 0 (L i64 a0), p 1 (AV.fn 149 [D y41.pt a1]), p 5 (I v0), p 7 (I (↑a0.length : Int)), p 8 (I v0)] []) (by kernel_rfl) ?_
  refine qb tok hT [0, 1, 5, 7, 8, 16] (St.mk [p 0 (L i64 a0), p 1 (AV.fn 149 [D y41.pt a1]), p 5 (I v0), p 7 (I (↑a0.length : Int)), p 8 (I v0), p 16 (B (vl (u149 (a0.getD v0.toNat 0) a1)))] []) H (by kernel_rfl) fun H => ?_
  refine cd H (by kernel_rfl) (fun H => ?_) (fun H => ?_)
  ·refine qa tok hT [4] (St.mk [p 4 (I v0)] []) (by kernel_rfl) ?_
   exact vx_ret <| fx_blk_ret <| fx_seq_ret <| t1 <| fx_blk_ret <| t0 <| hr H (by kernel_rfl)
  refine vx_skip <| fx_blk <| fx_seq <| ?_
  refine zb tok hT [0, 1, 7, 8] (St.mk [p 0 (L i64 a0), p 1 (AV.fn 149 [D y41.pt a1]), p 7 (I (↑a0.length : Int)), p 8 (I (v0 + 1))] []) H (by kernel_rfl) fun H => ?_
  exact b1 H (by kernel_rfl)
 exact vx_exit <| fx_seq_exit <| e1 <| fx_blk_exit rfl <| n0 H (by kernel_rfl)
def u148c149 (a0 : List Int) (a1 : Y41) : Option (Bool) :=
 gd ((u169c149 a0 a1).isSome = true ∧ True) <| lt (vl (u169c149 a0 a1)) fun v0 =>
 some (decide (0 ≤ v0))
def k148c149 : Ct := lct 148 [.dat i64.sl, .fn 149 (.pt y41)] (fun x => u148c149 x.1 x.2.1) (fun r : Bool => B r) (fun _ => ())
theorem o148c149 : Ok Tryz.prog k148c149 := by
 refine okl tok [.tmp 4] Tryz.func148 Tryz.ntmps148 rfl Tryz.results148 (by kernel_rfl) rfl ?_
 intro y ⟨a0, a1, _⟩ r H Q hn hr
 have hT := tc o169c152 (tc o169c149 (tc o149 tn))
 refine qa tok hT [0, 1] (St.mk [p 0 (L i64 a0), p 1 (AV.fn 149 [D y41.pt a1])] []) (by kernel_rfl) ?_
 refine qd tok hT [4] (fun v0 => St.mk [p 4 (B (decide (0 ≤ v0)))] []) H (by kernel_rfl) fun v0 H => ?_
 exact vx_ret <| hr H (by kernel_rfl)
def u122 (a0 : Y41) (a1 : List Y152) (a2 : Y141) : Option (Bool) :=
 gd ((u147 a1).isSome = true ∧ in64 (vl (u147 a1) - 1) ∧ (u87 a2.2.1 0 (vl (u147 a1) - 1)).isSome = true ∧ (vl (u87 a2.2.1 0 (vl (u147 a1) - 1)) = true ∧ True → ix a2.2.1 a1.length) ∧ ((vl (u87 a2.2.1 0 (vl (u147 a1) - 1)) && (↑a2.2.2.length : Int) == (↑(a1.getD a2.2.1.toNat (dflt y152)).2.2.1.length : Int)) = true ∧ True → (u148c149 a2.2.2 a0).isSome = true) ∧ True) <| 
 some (vl (u87 a2.2.1 0 (vl (u147 a1) - 1)) && (↑a2.2.2.length : Int) == (↑(a1.getD a2.2.1.toNat (dflt y152)).2.2.1.length : Int) && !vl (u148c149 a2.2.2 a0))
def k122 : Ct := lct 122 [.agg y41, .agg y152.sl, .agg y141] (fun x => u122 x.1 x.2.1 x.2.2.1) (fun r : Bool => B r) (fun _ => ())
theorem o122 : Ok Tryz.prog k122 := by
 refine okl tok [.tmp 6] Tryz.func122 Tryz.ntmps122 rfl Tryz.results122 (by kernel_rfl) rfl ?_
 intro y ⟨a0, a1, a2, _⟩ r H Q hn hr
 have hT := tc o148c152 (tc o148c149 (tc o149 (tc o87 (tc o147 tn))))
 refine qa tok hT [3, 4, 5] (St.mk [p 3 (AV.ptr 3 0), p 4 (AV.ptr 4 0), p 5 (AV.ptr 5 0)] [(5, Ob.box 141 (cellsD false y141 a2)), (4, Ob.box 37 [L y152 a1]), (3, Ob.box 41 (cellsD false y41 a0))]) (by kernel_rfl) ?_
 refine qb tok hT [6] (St.mk [p 6 (B (vl (u87 a2.2.1 0 (vl (u147 a1) - 1)) && (↑a2.2.2.length : Int) == (↑(a1.getD a2.2.1.toNat (dflt y152)).2.2.1.length : Int) && !vl (u148c149 a2.2.2 a0)))] [(5, Ob.box 141 (cellsD false y141 a2)), (4, Ob.box 37 [L y152 a1]), (3, Ob.box 41 (cellsD false y41 a0))]) H (by kernel_rfl) fun H => ?_
 exact vx_ret <| hr H (by kernel_rfl)
def u184J0 : Unit → Option (Int)
 | _ =>
 some (-1)
def u184L1 (a1 : ByteArray) (a0 : List ByteArray) (g1 : Int → Option (Int)) : Int → Option (Int)
 | v0 =>
 if (decide (v0 < (↑a0.length : Int))) = true then
  gd (ix v0 a0.length ∧ True) <| 
  if (decide (a1 = a0.getD v0.toNat (dflt Ty.str))) = true then
   some v0
  else
   gd (in64 (v0 + 1) ∧ True) <| 
   g1 (v0 + 1)
 else
  u184J0 ()
def u184 (a0 : List ByteArray) (a1 : ByteArray) : Option (Int) :=
 lp (u184L1 a1 a0) 0
def k184 : Ct := lct 184 [.dat Ty.str.sl, .dat Ty.str] (fun x => u184 x.1 x.2.1) (fun r : Int => I r) (fun _ => ())
theorem o184 : Ok Tryz.prog k184 := by
 refine okl tok [.tmp 4] Tryz.func184 Tryz.ntmps184 rfl Tryz.results184 (by kernel_rfl) rfl ?_
 intro y ⟨a0, a1, _⟩ r H Q hn hr
 have hT := @tn Tryz.prog
 refine qa tok hT [0, 1] (St.mk [p 0 (L Ty.str a0), p 1 (U a1)] []) (by kernel_rfl) ?_
 refine jn r (fun (_ : Unit) => St.mk [] []) (u184J0) (fun _ H => ?_) (fun _ n0 e0 t0 => ?_)
 ·refine qa tok hT [4] (St.mk [p 4 (I (-1))] []) (by kernel_rfl) ?_
  exact vx_ret <| hr H (by kernel_rfl)
 refine qa tok hT [0, 1, 7, 8] (St.mk [p 0 (L Ty.str a0), p 1 (U a1), p 7 (I (↑a0.length : Int)), p 8 (I 0)] []) (by kernel_rfl) ?_
 refine vx_block <| ?_
 refine lx (fun (v0 : Int) => St.mk [p 0 (L Ty.str a0), p 1 (U a1), p 7 (I (↑a0.length : Int)), p 8 (I v0)] []) 0 H (by kernel_rfl) fun _ g1 b1 e1 t1 v0 H => ?_
 refine qa tok hT [0, 1, 7, 8, 9] (St.mk [p 0 (L Ty.str a0), p 1 (U a1), p 7 (I (↑a0.length : Int)), p 8 (I v0), p 9 (B (decide (v0 < (↑a0.length : Int))))] []) (by kernel_rfl) ?_
 refine vx_seq <| ?_
 refine cd H (by kernel_rfl) (fun H => ?_) (fun H => ?_)
 ·refine vx_skip <| fx_seq <| vx_seq <| vx_block <| ?_
  refine qa tok hT [0, 1, 5, 7, 8] (St.mk [p 0 (L Ty.str a0), p 1 (U a1), p 5 (I v0), p 7 (I (↑a0.length : Int)), p 8 (I v0)] []) (by kernel_rfl) ?_
  refine qb tok hT [0, 1, 5, 7, 8, 16] (St.mk [p 0 (L Ty.str a0), p 1 (U a1), p 5 (I v0), p 7 (I (↑a0.length : Int)), p 8 (I v0), p 16 (B (decide (a1 = a0.getD v0.toNat (dflt Ty.str))))] []) H (by kernel_rfl) fun H => ?_
  refine cd H (by kernel_rfl) (fun H => ?_) (fun H => ?_)
  ·refine qa tok hT [4] (St.mk [p 4 (I v0)] []) (by kernel_rfl) ?_
   exact vx_ret <| fx_blk_ret <| fx_seq_ret <| t1 <| fx_blk_ret <| t0 <| hr H (by kernel_rfl)
  refine vx_skip <| fx_blk <| fx_seq <| ?_
  refine zb tok hT [0, 1, 7, 8] (St.mk [p 0 (L Ty.str a0), p 1 (U a1), p 7 (I (↑a0.length : Int)), p 8 (I (v0 + 1))] []) H (by kernel_rfl) fun H => ?_
  exact b1 H (by kernel_rfl)
 exact vx_exit <| fx_seq_exit <| e1 <| fx_blk_exit rfl <| n0 H (by kernel_rfl)
def u168 (a0 : List ByteArray) (a1 : ByteArray) : Option (Bool) :=
 gd ((u184 a0 a1).isSome = true ∧ True) <| lt (vl (u184 a0 a1)) fun v0 =>
 some (decide (0 ≤ v0))
def k168 : Ct := lct 168 [.dat Ty.str.sl, .dat Ty.str] (fun x => u168 x.1 x.2.1) (fun r : Bool => B r) (fun _ => ())
theorem o168 : Ok Tryz.prog k168 := by
 refine okl tok [.tmp 4] Tryz.func168 Tryz.ntmps168 rfl Tryz.results168 (by kernel_rfl) rfl ?_
 intro y ⟨a0, a1, _⟩ r H Q hn hr
 have hT := tc o184 tn
 refine qa tok hT [0, 1] (St.mk [p 0 (L Ty.str a0), p 1 (U a1)] []) (by kernel_rfl) ?_
 refine qd tok hT [4] (fun v0 => St.mk [p 4 (B (decide (0 ≤ v0)))] []) H (by kernel_rfl) fun v0 H => ?_
 exact vx_ret <| hr H (by kernel_rfl)
def u164 (a0 : ByteArray) : Option (Bool) :=
 gd ((u87 (↑a0.size : Int) (1 : Int) (8 : Int)).isSome = true ∧ (vl (u87 (↑a0.size : Int) (1 : Int) (8 : Int)) = true ∧ True → (u176 a0 (ByteArray.mk #[(97 : UInt8), (98 : UInt8), (99 : UInt8), (100 : UInt8), (101 : UInt8), (102 : UInt8), (103 : UInt8), (104 : UInt8), (105 : UInt8), (106 : UInt8), (107 : UInt8), (108 : UInt8), (109 : UInt8), (110 : UInt8), (111 : UInt8), (112 : UInt8), (113 : UInt8), (114 : UInt8), (115 : UInt8), (116 : UInt8), (117 : UInt8), (118 : UInt8), (119 : UInt8), (120 : UInt8), (121 : UInt8), (122 : UInt8), (48 : UInt8), (49 : UInt8), (50 : UInt8), (51 : UInt8), (52 : UInt8), (53 : UInt8), (54 : UInt8), (55 : UInt8), (56 : UInt8), (57 : UInt8)])).isSome = true) ∧ ((vl (u87 (↑a0.size : Int) (1 : Int) (8 : Int)) && decide (vl (u176 a0 (ByteArray.mk #[(97 : UInt8), (98 : UInt8), (99 : UInt8), (100 : UInt8), (101 : UInt8), (102 : UInt8), (103 : UInt8), (104 : UInt8), (105 : UInt8), (106 : UInt8), (107 : UInt8), (108 : UInt8), (109 : UInt8), (110 : UInt8), (111 : UInt8), (112 : UInt8), (113 : UInt8), (114 : UInt8), (115 : UInt8), (116 : UInt8), (117 : UInt8), (118 : UInt8), (119 : UInt8), (120 : UInt8), (121 : UInt8), (122 : UInt8), (48 : UInt8), (49 : UInt8), (50 : UInt8), (51 : UInt8), (52 : UInt8), (53 : UInt8), (54 : UInt8), (55 : UInt8), (56 : UInt8), (57 : UInt8)])) = ByteArray.mk #[])) = true ∧ True → ix (0 : Int) a0.size) ∧ ((vl (u87 (↑a0.size : Int) (1 : Int) (8 : Int)) && decide (vl (u176 a0 (ByteArray.mk #[(97 : UInt8), (98 : UInt8), (99 : UInt8), (100 : UInt8), (101 : UInt8), (102 : UInt8), (103 : UInt8), (104 : UInt8), (105 : UInt8), (106 : UInt8), (107 : UInt8), (108 : UInt8), (109 : UInt8), (110 : UInt8), (111 : UInt8), (112 : UInt8), (113 : UInt8), (114 : UInt8), (115 : UInt8), (116 : UInt8), (117 : UInt8), (118 : UInt8), (119 : UInt8), (120 : UInt8), (121 : UInt8), (122 : UInt8), (48 : UInt8), (49 : UInt8), (50 : UInt8), (51 : UInt8), (52 : UInt8), (53 : UInt8), (54 : UInt8), (55 : UInt8), (56 : UInt8), (57 : UInt8)])) = ByteArray.mk #[])) = true ∧ True → (u177 (ByteArray.mk #[(97 : UInt8), (98 : UInt8), (99 : UInt8), (100 : UInt8), (101 : UInt8), (102 : UInt8), (103 : UInt8), (104 : UInt8), (105 : UInt8), (106 : UInt8), (107 : UInt8), (108 : UInt8), (109 : UInt8), (110 : UInt8), (111 : UInt8), (112 : UInt8), (113 : UInt8), (114 : UInt8), (115 : UInt8), (116 : UInt8), (117 : UInt8), (118 : UInt8), (119 : UInt8), (120 : UInt8), (121 : UInt8), (122 : UInt8)]) (byteAt a0 (Int.toNat (0 : Int)))).isSome = true) ∧ True) <| lt ((vl (u176 a0 (ByteArray.mk #[97, 98, 99, 100, 101, 102, 103, 104, 105, 106, 107, 108, 109, 110, 111, 112, 113, 114, 115, 116, 117, 118, 119, 120, 121, 122, 48, 49, 50, 51, 52, 53, 54, 55, 56, 57])), vl (u177 (ByteArray.mk #[(97 : UInt8), (98 : UInt8), (99 : UInt8), (100 : UInt8), (101 : UInt8), (102 : UInt8), (103 : UInt8), (104 : UInt8), (105 : UInt8), (106 : UInt8), (107 : UInt8), (108 : UInt8), (109 : UInt8), (110 : UInt8), (111 : UInt8), (112 : UInt8), (113 : UInt8), (114 : UInt8), (115 : UInt8), (116 : UInt8), (117 : UInt8), (118 : UInt8), (119 : UInt8), (120 : UInt8), (121 : UInt8), (122 : UInt8)]) (byteAt a0 (Int.toNat (0 : Int)))))) fun (v0, v1) =>
 some (vl (u87 (↑a0.size : Int) 1 8) && decide (v0 = ByteArray.mk #[]) && decide (0 ≤ v1))
def k164 : Ct := lct 164 [.dat Ty.str] (fun x => u164 x.1) (fun r : Bool => B r) (fun _ => ())
theorem o164 : Ok Tryz.prog k164 := by
 refine okl tok [.tmp 2] Tryz.func164 Tryz.ntmps164 rfl Tryz.results164 (by kernel_rfl) rfl ?_
 intro y ⟨a0, _⟩ r H Q hn hr
 have hT := tc o177 (tc o176 (tc o87 tn))
 refine qa tok hT [0] (St.mk [p 0 (U a0)] []) (by kernel_rfl) ?_
 refine qd tok hT [2] (fun (v0, v1) => St.mk [p 2 (B (vl (u87 (↑a0.size : Int) 1 8) && decide (v0 = ByteArray.mk #[]) && decide (0 ≤ v1)))] []) H (by kernel_rfl) fun ⟨v0, v1⟩ H => ?_
 exact vx_ret <| hr H (by kernel_rfl)
def u146J0 : Unit → Option (Bool)
 | _ =>
 some true
def u146L1 (a0 : List ByteArray) (g1 : Int → Option (Bool)) : Int → Option (Bool)
 | v0 =>
 if (decide (v0 < (↑a0.length : Int))) = true then
  gd (ix v0 a0.length ∧ True) <| 
  gd ((u164 (a0.getD v0.toNat (dflt Ty.str))).isSome = true ∧ ((!vl (u164 (a0.getD v0.toNat (dflt Ty.str)))) = false ∧ True → (0 : Int) ≤ (0 : Int) ∧ (0 : Int) ≤ v0 ∧ v0 ≤ (↑a0.length : Int)) ∧ ((!vl (u164 (a0.getD v0.toNat (dflt Ty.str)))) = false ∧ True → (u168 (List.take v0.toNat a0) (a0.getD v0.toNat (dflt Ty.str))).isSome = true) ∧ True) <| 
  if (!vl (u164 (a0.getD v0.toNat (dflt Ty.str))) || vl (u168 (List.take v0.toNat a0) (a0.getD v0.toNat (dflt Ty.str)))) = true then
   some false
  else
   gd (in64 (v0 + 1) ∧ True) <| 
   g1 (v0 + 1)
 else
  u146J0 ()
def u146 (a0 : List ByteArray) : Option (Bool) :=
 lp (u146L1 a0) 0
def k146 : Ct := lct 146 [.dat Ty.str.sl] (fun x => u146 x.1) (fun r : Bool => B r) (fun _ => ())
theorem o146 : Ok Tryz.prog k146 := by
 refine okl tok [.tmp 2] Tryz.func146 Tryz.ntmps146 rfl Tryz.results146 (by kernel_rfl) rfl ?_
 intro y ⟨a0, _⟩ r H Q hn hr
 have hT := tc o168 (tc o164 tn)
 refine qa tok hT [0] (St.mk [p 0 (L Ty.str a0)] []) (by kernel_rfl) ?_
 refine jn r (fun (_ : Unit) => St.mk [] []) (u146J0) (fun _ H => ?_) (fun _ n0 e0 t0 => ?_)
 ·refine qa tok hT [2] (St.mk [p 2 (B true)] []) (by kernel_rfl) ?_
  exact vx_ret <| hr H (by kernel_rfl)
 refine qa tok hT [0, 5, 6, 7] (St.mk [p 0 (L Ty.str a0), p 5 (L Ty.str a0), p 6 (I (↑a0.length : Int)), p 7 (I 0)] []) (by kernel_rfl) ?_
 refine vx_block <| ?_
 refine lx (fun (v0 : Int) => St.mk [p 0 (L Ty.str a0), p 5 (L Ty.str a0), p 6 (I (↑a0.length : Int)), p 7 (I v0)] []) 0 H (by kernel_rfl) fun _ g1 b1 e1 t1 v0 H => ?_
 refine qa tok hT [0, 5, 6, 7, 8] (St.mk [p 0 (L Ty.str a0), p 5 (L Ty.str a0), p 6 (I (↑a0.length : Int)), p 7 (I v0), p 8 (B (decide (v0 < (↑a0.length : Int))))] []) (by kernel_rfl) ?_
 refine vx_seq <| ?_
 refine cd H (by kernel_rfl) (fun H => ?_) (fun H => ?_)
 ·refine vx_skip <| fx_seq <| vx_seq <| vx_block <| ?_
  refine qb tok hT [0, 3, 4, 5, 6, 7] (St.mk [p 0 (L Ty.str a0), p 3 (I v0), p 4 (U (a0.getD v0.toNat (dflt Ty.str))), p 5 (L Ty.str a0), p 6 (I (↑a0.length : Int)), p 7 (I v0)] []) H (by kernel_rfl) fun H => ?_
  refine qb tok hT [0, 5, 6, 7, 16, 17, 18, 19, 20, 21] (St.mk [p 0 (L Ty.str a0), p 5 (L Ty.str a0), p 6 (I (↑a0.length : Int)), p 7 (I v0), p 21 (B (!vl (u164 (a0.getD v0.toNat (dflt Ty.str))) || vl (u168 (List.take v0.toNat a0) (a0.getD v0.toNat (dflt Ty.str)))))] []) H (by kernel_rfl) fun H => ?_
  refine cd H (by kernel_rfl) (fun H => ?_) (fun H => ?_)
  ·refine qa tok hT [2] (St.mk [p 2 (B false)] []) (by kernel_rfl) ?_
   exact vx_ret <| fx_blk_ret <| fx_seq_ret <| t1 <| fx_blk_ret <| t0 <| hr H (by kernel_rfl)
  refine vx_skip <| fx_blk <| fx_seq <| ?_
  refine zb tok hT [0, 5, 6, 7] (St.mk [p 0 (L Ty.str a0), p 5 (L Ty.str a0), p 6 (I (↑a0.length : Int)), p 7 (I (v0 + 1))] []) H (by kernel_rfl) fun H => ?_
  exact b1 H (by kernel_rfl)
 exact vx_exit <| fx_seq_exit <| e1 <| fx_blk_exit rfl <| n0 H (by kernel_rfl)
def u121J2 (v4 : List ByteArray) (a0 : Y41) : List ByteArray → Option (Bool)
 | v9 =>
 gd (((decide ((↑v4.length : Int) ≤ 14) && decide ((↑a0.2.1.length : Int) ≤ 30) && decide ((↑v9.length : Int) ≤ 8)) = true ∧ True → (u146 v4).isSome = true) ∧ ((decide ((↑v4.length : Int) ≤ 14) && decide ((↑a0.2.1.length : Int) ≤ 30) && decide ((↑v9.length : Int) ≤ 8) && vl (u146 v4)) = true ∧ True → (u146 a0.2.1).isSome = true) ∧ ((decide ((↑v4.length : Int) ≤ 14) && decide ((↑a0.2.1.length : Int) ≤ 30) && decide ((↑v9.length : Int) ≤ 8) && vl (u146 v4) && vl (u146 a0.2.1)) = true ∧ True → (u146 v9).isSome = true) ∧ True) <| 
 some (decide ((↑v4.length : Int) ≤ 14) && decide ((↑a0.2.1.length : Int) ≤ 30) && decide ((↑v9.length : Int) ≤ 8) && vl (u146 v4) && vl (u146 a0.2.1) && vl (u146 v9))
def u121L3 (a0 : Y41) (v4 : List ByteArray) (g3 : List ByteArray × Int → Option (Bool)) : List ByteArray × Int → Option (Bool)
 | (v6, v7) =>
 if (decide (v7 < (↑a0.2.2.length : Int))) = true then
  gd (ix v7 a0.2.2.length ∧ True) <| lt (a0.2.2.getD v7.toNat (dflt y143)) fun v8 =>
  gd ((v6.length + [v8.1].length ≤ 9223372036854775807 ∧ (v6.length + [v8.1].length) * 16 ≤ 140737488355328) ∧ True) <| 
  gd (in64 (v7 + 1) ∧ True) <| 
  g3 (v6 ++ [v8.1], v7 + 1)
 else
  u121J2 v4 a0 v6
def u121J0 (a0 : Y41) : List ByteArray → Option (Bool)
 | v4 =>
 lp (u121L3 a0 v4) ([], 0)
def u121L1 (a0 : Y41) (g1 : List ByteArray × Int → Option (Bool)) : List ByteArray × Int → Option (Bool)
 | (v1, v2) =>
 if (decide (v2 < (↑a0.1.length : Int))) = true then
  gd (ix v2 a0.1.length ∧ True) <| lt (a0.1.getD v2.toNat (dflt y141)) fun v3 =>
  gd ((v1.length + [v3.1].length ≤ 9223372036854775807 ∧ (v1.length + [v3.1].length) * 16 ≤ 140737488355328) ∧ True) <| 
  gd (in64 (v2 + 1) ∧ True) <| 
  g1 (v1 ++ [v3.1], v2 + 1)
 else
  u121J0 a0 v1
def u121 (a0 : Y41) : Option (Bool) :=
 lp (u121L1 a0) ([], 0)
def k121 : Ct := lct 121 [.agg y41] (fun x => u121 x.1) (fun r : Bool => B r) (fun _ => ())
theorem o121 : Ok Tryz.prog k121 := by
 refine okl tok [.tmp 2] Tryz.func121 Tryz.ntmps121 rfl Tryz.results121 (by kernel_rfl) rfl ?_
 intro y ⟨a0, _⟩ r H Q hn hr
 have hT := tc o146 tn
 refine qa tok hT [1] (St.mk [p 1 (AV.ptr 1 0)] [(1, Ob.box 41 (cellsD false y41 a0))]) (by kernel_rfl) ?_
 refine qa tok hT [1, 3, 4] (St.mk [p 1 (AV.ptr 1 0), p 3 (AV.v (Value.slice none 0 0)), p 4 (AV.v (Value.slice none 0 0))] [(1, Ob.box 41 (cellsD false y41 a0))]) (by kernel_rfl) ?_
 refine jn r (fun (v4 : List ByteArray) => St.mk [p 1 (AV.ptr 1 0), p 3 (AV.os 20 0), p 4 (AV.v (Value.slice none 0 0))] [(1, Ob.box 41 (cellsD false y41 a0)), (20, Ob.arr 9 true Ty.str v4 0)]) (u121J0 a0) (fun v4 H => ?_) (fun _ n0 e0 t0 => ?_)
 ·refine jn r (fun (v9 : List ByteArray) => St.mk [p 1 (AV.ptr 1 0), p 3 (AV.os 20 0), p 4 (AV.os 33 0)] [(1, Ob.box 41 (cellsD false y41 a0)), (20, Ob.arr 9 true Ty.str v4 0), (33, Ob.arr 9 true Ty.str v9 0)]) (u121J2 v4 a0) (fun v9 H => ?_) (fun _ n2 e2 t2 => ?_)
  ·refine qb tok hT [2] (St.mk [p 2 (B (decide ((↑v4.length : Int) ≤ 14) && decide ((↑a0.2.1.length : Int) ≤ 30) && decide ((↑v9.length : Int) ≤ 8) && vl (u146 v4) && vl (u146 a0.2.1) && vl (u146 v9)))] [(1, Ob.box 41 (cellsD false y41 a0)), (20, Ob.arr 9 true Ty.str v4 0), (33, Ob.arr 9 true Ty.str v9 0)]) H (by kernel_rfl) fun H => ?_
   exact vx_ret <| hr H (by kernel_rfl)
  refine qa tok hT [1, 3, 4, 23, 24, 25] (St.mk [p 1 (AV.ptr 1 0), p 3 (AV.os 20 0), p 4 (AV.v (Value.slice none 0 0)), p 23 (L y143 a0.2.2), p 24 (I (↑a0.2.2.length : Int)), p 25 (I 0)] [(1, Ob.box 41 (cellsD false y41 a0)), (20, Ob.arr 9 true Ty.str v4 0)]) (by kernel_rfl) ?_
  refine vx_block <| ?_
  refine lx (fun ((v6, v7) : List ByteArray × Int) => St.mk [p 1 (AV.ptr 1 0), p 3 (AV.os 20 0), p 4 (AV.os 33 0), p 23 (L y143 a0.2.2), p 24 (I (↑a0.2.2.length : Int)), p 25 (I v7)] [(1, Ob.box 41 (cellsD false y41 a0)), (20, Ob.arr 9 true Ty.str v4 0), (33, Ob.arr 9 true Ty.str v6 0)]) ([], 0) H (by kernel_rfl) fun _ g3 b3 e3 t3 ⟨v6, v7⟩ H => ?_
  refine qa tok hT [1, 3, 4, 23, 24, 25, 26] (St.mk [p 1 (AV.ptr 1 0), p 3 (AV.os 20 0), p 4 (AV.os 33 0), p 23 (L y143 a0.2.2), p 24 (I (↑a0.2.2.length : Int)), p 25 (I v7), p 26 (B (decide (v7 < (↑a0.2.2.length : Int))))] [(1, Ob.box 41 (cellsD false y41 a0)), (20, Ob.arr 9 true Ty.str v4 0), (33, Ob.arr 9 true Ty.str v6 0)]) (by kernel_rfl) ?_
  refine vx_seq <| ?_
  refine cd H (by kernel_rfl) (fun H => ?_) (fun H => ?_)
  ·refine vx_skip <| fx_seq <| vx_seq <| vx_block <| ?_
   refine qd tok hT [1, 3, 4, 8, 23, 24, 25] (fun v8 => St.mk [p 1 (AV.ptr 1 0), p 3 (AV.os 20 0), p 4 (AV.os 33 0), p 8 (AV.ptr 8 0), p 23 (L y143 a0.2.2), p 24 (I (↑a0.2.2.length : Int)), p 25 (I v7)] [(8, Ob.box 143 (cellsD false y143 v8)), (1, Ob.box 41 (cellsD false y41 a0)), (20, Ob.arr 9 true Ty.str v4 0), (33, Ob.arr 9 true Ty.str v6 0)]) H (by kernel_rfl) fun v8 H => ?_
   refine zb tok hT [1, 3, 4, 23, 24, 25] (St.mk [p 1 (AV.ptr 1 0), p 3 (AV.os 20 0), p 4 (AV.os 33 1), p 23 (L y143 a0.2.2), p 24 (I (↑a0.2.2.length : Int)), p 25 (I v7)] [(33, Ob.arr 9 true Ty.str (v6 ++ [v8.1]) 1), (32, Ob.arr 9 true Ty.str [v8.1] 0), (8, Ob.box 143 (cellsD false y143 v8)), (1, Ob.box 41 (cellsD false y41 a0)), (20, Ob.arr 9 true Ty.str v4 0)]) H (by kernel_rfl) fun H => ?_
   refine fx_blk <| fx_seq <| ?_
   refine zb tok hT [1, 3, 4, 23, 24, 25] (St.mk [p 1 (AV.ptr 1 0), p 3 (AV.os 20 0), p 4 (AV.os 33 1), p 23 (L y143 a0.2.2), p 24 (I (↑a0.2.2.length : Int)), p 25 (I (v7 + 1))] [(33, Ob.arr 9 true Ty.str (v6 ++ [v8.1]) 1), (32, Ob.arr 9 true Ty.str [v8.1] 0), (8, Ob.box 143 (cellsD false y143 v8)), (1, Ob.box 41 (cellsD false y41 a0)), (20, Ob.arr 9 true Ty.str v4 0)]) H (by kernel_rfl) fun H => ?_
   exact b3 H (by kernel_rfl)
  exact vx_exit <| fx_seq_exit <| e3 <| fx_blk_exit rfl <| n2 H (by kernel_rfl)
 refine qa tok hT [1, 3, 4, 10, 11, 12] (St.mk [p 1 (AV.ptr 1 0), p 3 (AV.v (Value.slice none 0 0)), p 4 (AV.v (Value.slice none 0 0)), p 10 (L y141 a0.1), p 11 (I (↑a0.1.length : Int)), p 12 (I 0)] [(1, Ob.box 41 (cellsD false y41 a0))]) (by kernel_rfl) ?_
 refine vx_block <| ?_
 refine lx (fun ((v1, v2) : List ByteArray × Int) => St.mk [p 1 (AV.ptr 1 0), p 3 (AV.os 20 0), p 4 (AV.v (Value.slice none 0 0)), p 10 (L y141 a0.1), p 11 (I (↑a0.1.length : Int)), p 12 (I v2)] [(1, Ob.box 41 (cellsD false y41 a0)), (20, Ob.arr 9 true Ty.str v1 0)]) ([], 0) H (by kernel_rfl) fun _ g1 b1 e1 t1 ⟨v1, v2⟩ H => ?_
 refine qa tok hT [1, 3, 4, 10, 11, 12, 13] (St.mk [p 1 (AV.ptr 1 0), p 3 (AV.os 20 0), p 4 (AV.v (Value.slice none 0 0)), p 10 (L y141 a0.1), p 11 (I (↑a0.1.length : Int)), p 12 (I v2), p 13 (B (decide (v2 < (↑a0.1.length : Int))))] [(1, Ob.box 41 (cellsD false y41 a0)), (20, Ob.arr 9 true Ty.str v1 0)]) (by kernel_rfl) ?_
 refine vx_seq <| ?_
 refine cd H (by kernel_rfl) (fun H => ?_) (fun H => ?_)
 ·refine vx_skip <| fx_seq <| vx_seq <| vx_block <| ?_
  refine qd tok hT [1, 3, 4, 6, 10, 11, 12] (fun v3 => St.mk [p 1 (AV.ptr 1 0), p 3 (AV.os 20 0), p 4 (AV.v (Value.slice none 0 0)), p 6 (AV.ptr 6 0), p 10 (L y141 a0.1), p 11 (I (↑a0.1.length : Int)), p 12 (I v2)] [(6, Ob.box 141 (cellsD false y141 v3)), (1, Ob.box 41 (cellsD false y41 a0)), (20, Ob.arr 9 true Ty.str v1 0)]) H (by kernel_rfl) fun v3 H => ?_
  refine zb tok hT [1, 3, 4, 10, 11, 12] (St.mk [p 1 (AV.ptr 1 0), p 3 (AV.os 20 1), p 4 (AV.v (Value.slice none 0 0)), p 10 (L y141 a0.1), p 11 (I (↑a0.1.length : Int)), p 12 (I v2)] [(20, Ob.arr 9 true Ty.str (v1 ++ [v3.1]) 1), (19, Ob.arr 9 true Ty.str [v3.1] 0), (6, Ob.box 141 (cellsD false y141 v3)), (1, Ob.box 41 (cellsD false y41 a0))]) H (by kernel_rfl) fun H => ?_
  refine fx_blk <| fx_seq <| ?_
  refine zb tok hT [1, 3, 4, 10, 11, 12] (St.mk [p 1 (AV.ptr 1 0), p 3 (AV.os 20 1), p 4 (AV.v (Value.slice none 0 0)), p 10 (L y141 a0.1), p 11 (I (↑a0.1.length : Int)), p 12 (I (v2 + 1))] [(20, Ob.arr 9 true Ty.str (v1 ++ [v3.1]) 1), (19, Ob.arr 9 true Ty.str [v3.1] 0), (6, Ob.box 141 (cellsD false y141 v3)), (1, Ob.box 41 (cellsD false y41 a0))]) H (by kernel_rfl) fun H => ?_
  exact b1 H (by kernel_rfl)
 exact vx_exit <| fx_seq_exit <| e1 <| fx_blk_exit rfl <| n0 H (by kernel_rfl)
def u201 (a0 : Y89) (a1 : Int) : Option (Bool) :=
 some (a0.1 == a1)
def k201 : Ct := lct 201 [.agg y89, .dat (.pt i64)] (fun x => u201 x.1 x.2.1) (fun r : Bool => B r) (fun _ => ())
theorem o201 : Ok Tryz.prog k201 := by
 refine okl tok [.tmp 3] Tryz.func201 Tryz.ntmps201 rfl Tryz.results201 (by kernel_rfl) rfl ?_
 intro y ⟨a0, a1, _⟩ r H Q hn hr
 have hT := @tn Tryz.prog
 refine qa tok hT [1, 2] (St.mk [p 1 (D i64.pt a1), p 2 (AV.ptr 2 0)] [(2, Ob.box 89 (cellsD false y89 a0))]) (by kernel_rfl) ?_
 refine qa tok hT [3] (St.mk [p 3 (B (a0.1 == a1))] [(2, Ob.box 89 (cellsD false y89 a0))]) (by kernel_rfl) ?_
 exact vx_ret <| hr H (by kernel_rfl)
def u200c201J0 : Unit → Option (Int)
 | _ =>
 some (-1)
def u200c201L1 (a0 : List Y89) (a1 : Int) (g1 : Int → Option (Int)) : Int → Option (Int)
 | v0 =>
 if (decide (v0 < (↑a0.length : Int))) = true then
  gd (ix v0 a0.length ∧ (u201 (a0.getD v0.toNat (dflt y89)) a1).isSome = true ∧ True) <| 
  if (vl (u201 (a0.getD v0.toNat (dflt y89)) a1)) = true then
   some v0
  else
   gd (in64 (v0 + 1) ∧ True) <| 
   g1 (v0 + 1)
 else
  u200c201J0 ()
def u200c201 (a0 : List Y89) (a1 : Int) : Option (Int) :=
 lp (u200c201L1 a0 a1) 0
def k200c201 : Ct := lct 200 [.dat y89.sl, .fn 201 i64.pt] (fun x => u200c201 x.1 x.2.1) (fun r : Int => I r) (fun _ => ())
theorem o200c201 : Ok Tryz.prog k200c201 := by
 refine okl tok [.tmp 4] Tryz.func200 Tryz.ntmps200 rfl Tryz.results200 (by kernel_rfl) rfl ?_
 intro y ⟨a0, a1, _⟩ r H Q hn hr
 have hT := tc o201 tn
 refine qa tok hT [0, 1] (St.mk [p 0 (L y89 a0), p 1 (AV.fn 201 [D i64.pt a1])] []) (by kernel_rfl) ?_
 refine jn r (fun (_ : Unit) => St.mk [] []) (u200c201J0) (fun _ H => ?_) (fun _ n0 e0 t0 => ?_)
 ·refine qa tok hT [4] (St.mk [p 4 (I (-1))] []) (by kernel_rfl) ?_
  exact vx_ret <| hr H (by kernel_rfl)
 refine qa tok hT [0, 1, 7, 8] (St.mk [p 0 (L y89 a0), p 1 (AV.fn 201 [D i64.pt a1]), p 7 (I (↑a0.length : Int)), p 8 (I 0)] []) (by kernel_rfl) ?_
 refine vx_block <| ?_
 refine lx (fun (v0 : Int) => St.mk [p 0 (L y89 a0), p 1 (AV.fn 201 [D i64.pt a1]), p 7 (I (↑a0.length : Int)), p 8 (I v0)] []) 0 H (by kernel_rfl) fun _ g1 b1 e1 t1 v0 H => ?_
 refine qa tok hT [0, 1, 7, 8, 9] (St.mk [p 0 (L y89 a0), p 1 (AV.fn 201 [D i64.pt a1]), p 7 (I (↑a0.length : Int)), p 8 (I v0), p 9 (B (decide (v0 < (↑a0.length : Int))))] []) (by kernel_rfl) ?_
 refine vx_seq <| ?_
 refine cd H (by kernel_rfl) (fun H => ?_) (fun H => ?_)
 ·refine vx_skip <| fx_seq <| vx_seq <| vx_block <| ?_
  refine qa tok hT [0, 1, 5, 7, 8] (St.mk [p 0 (L y89 a0), p 1 (AV.fn 201 [D i64.pt a1]), p 5 (I v0), p 7 (I (↑a0.length : Int)), p 8 (I v0)] []) (by kernel_rfl) ?_
  refine qb tok hT [0, 1, 5, 7, 8, 16] (St.mk [p 0 (L y89 a0), p 1 (AV.fn 201 [D i64.pt a1]), p 5 (I v0), p 7 (I (↑a0.length : Int)), p 8 (I v0), p 16 (B (vl (u201 (a0.getD v0.toNat (dflt y89)) a1)))] []) H (by kernel_rfl) fun H => ?_
  refine cd H (by kernel_rfl) (fun H => ?_) (fun H => ?_)
  ·refine qa tok hT [4] (St.mk [p 4 (I v0)] []) (by kernel_rfl) ?_
   exact vx_ret <| fx_blk_ret <| fx_seq_ret <| t1 <| fx_blk_ret <| t0 <| hr H (by kernel_rfl)
  refine vx_skip <| fx_blk <| fx_seq <| ?_
  refine zb tok hT [0, 1, 7, 8] (St.mk [p 0 (L y89 a0), p 1 (AV.fn 201 [D i64.pt a1]), p 7 (I (↑a0.length : Int)), p 8 (I (v0 + 1))] []) H (by kernel_rfl) fun H => ?_
  exact b1 H (by kernel_rfl)
 exact vx_exit <| fx_seq_exit <| e1 <| fx_blk_exit rfl <| n0 H (by kernel_rfl)
def u180c201 (a0 : List Y89) (a1 : Int) : Option (Bool) :=
 gd ((u200c201 a0 a1).isSome = true ∧ True) <| lt (vl (u200c201 a0 a1)) fun v0 =>
 some (decide (0 ≤ v0))
def k180c201 : Ct := lct 180 [.dat y89.sl, .fn 201 (.pt i64)] (fun x => u180c201 x.1 x.2.1) (fun r : Bool => B r) (fun _ => ())
theorem o180c201 : Ok Tryz.prog k180c201 := by
 refine okl tok [.tmp 4] Tryz.func180 Tryz.ntmps180 rfl Tryz.results180 (by kernel_rfl) rfl ?_
 intro y ⟨a0, a1, _⟩ r H Q hn hr
 have hT := tc o200c201 (tc o201 tn)
 refine qa tok hT [0, 1] (St.mk [p 0 (L y89 a0), p 1 (AV.fn 201 [D i64.pt a1])] []) (by kernel_rfl) ?_
 refine qd tok hT [4] (fun v0 => St.mk [p 4 (B (decide (0 ≤ v0)))] []) H (by kernel_rfl) fun v0 H => ?_
 exact vx_ret <| hr H (by kernel_rfl)
def u183 (a0 : Y152) (a1 : Int) : Option (Bool) :=
 gd ((u180c201 a0.2.2.2.1 a1).isSome = true ∧ True) <| 
 some (vl (u180c201 a0.2.2.2.1 a1))
def k183 : Ct := lct 183 [.agg y152, .dat i64] (fun x => u183 x.1 x.2.1) (fun r : Bool => B r) (fun _ => ())
theorem o183 : Ok Tryz.prog k183 := by
 refine okl tok [.tmp 4] Tryz.func183 Tryz.ntmps183 rfl Tryz.results183 (by kernel_rfl) rfl ?_
 intro y ⟨a0, a1, _⟩ r H Q hn hr
 have hT := tc o180c201 (tc o201 tn)
 refine qa tok hT [2, 3] (St.mk [p 2 (AV.ptr 2 0), p 3 (AV.ptr 3 0)] [(3, Ob.box 2 [J a1]), (2, Ob.box 152 (cellsD false y152 a0))]) (by kernel_rfl) ?_
 refine qb tok hT [4] (St.mk [p 4 (B (vl (u180c201 a0.2.2.2.1 a1)))] [(3, Ob.box 2 [J a1]), (2, Ob.box 152 (cellsD false y152 a0))]) H (by kernel_rfl) fun H => ?_
 exact vx_ret <| hr H (by kernel_rfl)
def u178 (a0 : List Y212) : Option (Int) :=
 some (↑a0.length : Int)
def k178 : Ct := lct 178 [.dat y212.sl] (fun x => u178 x.1) (fun r : Int => I r) (fun _ => ())
theorem o178 : Ok Tryz.prog k178 := by
 refine okl tok [.tmp 2] Tryz.func178 Tryz.ntmps178 rfl Tryz.results178 (by kernel_rfl) rfl ?_
 intro y ⟨a0, _⟩ r H Q hn hr
 have hT := @tn Tryz.prog
 refine qa tok hT [0] (St.mk [p 0 (L y212 a0)] []) (by kernel_rfl) ?_
 refine qa tok hT [2] (St.mk [p 2 (I (↑a0.length : Int))] []) (by kernel_rfl) ?_
 exact vx_ret <| hr H (by kernel_rfl)
def u182 (a0 : Y152) : Option (Int) :=
 gd ((u178 a0.2.2.1).isSome = true ∧ in64 (vl (u178 a0.2.2.1) - 1) ∧ True) <| lt (vl (u178 a0.2.2.1)) fun v0 =>
 some (v0 - 1)
def k182 : Ct := lct 182 [.agg y152] (fun x => u182 x.1) (fun r : Int => I r) (fun _ => ())
theorem o182 : Ok Tryz.prog k182 := by
 refine okl tok [.tmp 2] Tryz.func182 Tryz.ntmps182 rfl Tryz.results182 (by kernel_rfl) rfl ?_
 intro y ⟨a0, _⟩ r H Q hn hr
 have hT := tc o178 tn
 refine qa tok hT [1] (St.mk [p 1 (AV.ptr 1 0)] [(1, Ob.box 152 (cellsD false y152 a0))]) (by kernel_rfl) ?_
 refine qd tok hT [2] (fun v0 => St.mk [p 2 (I (v0 - 1))] [(1, Ob.box 152 (cellsD false y152 a0))]) H (by kernel_rfl) fun v0 H => ?_
 exact vx_ret <| hr H (by kernel_rfl)
def u167J0 (a0 : Y152) : Int → Option (Bool)
 | v6 =>
 if (a0.2.1 == 1) = true then
  gd (((v6 == 0) = true ∧ True → (u182 a0).isSome = true) ∧ ((v6 == 0) = true ∧ True → (0 ≤ vl (u182 a0) ∧ vl (u182 a0) ≤ 62) ∧ in64 (1 * 2 ^ (vl (u182 a0)).toNat)) ∧ ((v6 == 0 && (↑a0.2.2.2.2.1.length : Int) == 1 * 2 ^ (vl (u182 a0)).toNat) = true ∧ True → (u127 a0.2.2.2.2.1 0 1).isSome = true) ∧ True) <| lt (vl (u182 a0)) fun v7 =>
  some (v6 == 0 && (↑a0.2.2.2.2.1.length : Int) == 1 * 2 ^ v7.toNat && vl (u127 a0.2.2.2.2.1 0 1))
 else
  if (a0.2.1 == 2) = true then
   gd (((v6 == 1 && (↑a0.2.2.2.2.1.length : Int) == 0) = true ∧ True → (u183 a0 1).isSome = true) ∧ ((v6 == 1 && (↑a0.2.2.2.2.1.length : Int) == 0 && !vl (u183 a0 1)) = true ∧ True → (u183 a0 2).isSome = true) ∧ ((v6 == 1 && (↑a0.2.2.2.2.1.length : Int) == 0 && !vl (u183 a0 1)) = true ∧ True → (u183 a0 3).isSome = true) ∧ True) <| 
   some (v6 == 1 && (↑a0.2.2.2.2.1.length : Int) == 0 && !vl (u183 a0 1) && !vl (u183 a0 2) == vl (u183 a0 3))
  else
   if (a0.2.1 == 3) = true then
    gd (((v6 == 1 && (↑a0.2.2.2.2.1.length : Int) == 0) = true ∧ True → (u183 a0 1).isSome = true) ∧ ((v6 == 1 && (↑a0.2.2.2.2.1.length : Int) == 0 && vl (u183 a0 1)) = true ∧ True → (u183 a0 2).isSome = true) ∧ ((v6 == 1 && (↑a0.2.2.2.2.1.length : Int) == 0 && vl (u183 a0 1) && vl (u183 a0 2)) = true ∧ True → (u183 a0 3).isSome = true) ∧ True) <| 
    some (v6 == 1 && (↑a0.2.2.2.2.1.length : Int) == 0 && vl (u183 a0 1) && vl (u183 a0 2) && !vl (u183 a0 3))
   else
    some false
def u167J2 (v3 : Int) (g1 : Int × Int → Option (Bool)) : Int → Option (Bool)
 | v5 =>
 gd (in64 (v3 + 1) ∧ True) <| 
 g1 (v5, v3 + 1)
def u167L1 (a0 : Y152) (g1 : Int × Int → Option (Bool)) : Int × Int → Option (Bool)
 | (v2, v3) =>
 if (decide (v3 < (↑a0.2.2.1.length : Int))) = true then
  gd (ix v3 a0.2.2.1.length ∧ True) <| lt (a0.2.2.1.getD v3.toNat (dflt y212)) fun v4 =>
  if v4.2.2.2 = true then
   gd (in64 (v2 + 1) ∧ True) <| 
   u167J2 v3 g1 (v2 + 1)
  else
   u167J2 v3 g1 v2
 else
  u167J0 a0 v2
def u167 (a0 : Y152) : Option (Bool) :=
 lp (u167L1 a0) (0, 0)
def k167 : Ct := lct 167 [.agg y152] (fun x => u167 x.1) (fun r : Bool => B r) (fun _ => ())
theorem o167 : Ok Tryz.prog k167 := by
 refine okl tok [.tmp 2] Tryz.func167 Tryz.ntmps167 rfl Tryz.results167 (by kernel_rfl) rfl ?_
 intro y ⟨a0, _⟩ r H Q hn hr
 have hT := tc o183 (tc o127 (tc o182 tn))
 refine qa tok hT [1] (St.mk [p 1 (AV.ptr 1 0)] [(1, Ob.box 152 (cellsD false y152 a0))]) (by kernel_rfl) ?_
 refine qa tok hT [1, 3] (St.mk [p 1 (AV.ptr 1 0), p 3 (I 0)] [(1, Ob.box 152 (cellsD false y152 a0))]) (by kernel_rfl) ?_
 refine jn r (fun (v6 : Int) => St.mk [p 1 (AV.ptr 1 0), p 3 (I v6)] [(1, Ob.box 152 (cellsD false y152 a0))]) (u167J0 a0) (fun v6 H => ?_) (fun _ n0 e0 t0 => ?_)
 ·refine vx_seq <| ?_
  refine qa tok hT [1, 3, 19] (St.mk [p 1 (AV.ptr 1 0), p 3 (I v6), p 19 (J a0.2.1)] [(1, Ob.box 152 (cellsD false y152 a0))]) (by kernel_rfl) ?_
  refine vx_block <| ?_
  refine qa tok hT [1, 3, 19, 20] (St.mk [p 1 (AV.ptr 1 0), p 3 (I v6), p 19 (J a0.2.1), p 20 (B (a0.2.1 == 1))] [(1, Ob.box 152 (cellsD false y152 a0))]) (by kernel_rfl) ?_
  refine cd H (by kernel_rfl) (fun H => ?_) (fun H => ?_)
  ·refine qd tok hT [2] (fun v7 => St.mk [p 2 (B (v6 == 0 && (↑a0.2.2.2.2.1.length : Int) == 1 * 2 ^ v7.toNat && vl (u127 a0.2.2.2.2.1 0 1)))] [(1, Ob.box 152 (cellsD false y152 a0))]) H (by kernel_rfl) fun v7 H => ?_
   exact vx_ret <| fx_blk_ret <| fx_seq_ret <| hr H (by kernel_rfl)
  refine qa tok hT [1, 3, 19, 38] (St.mk [p 1 (AV.ptr 1 0), p 3 (I v6), p 19 (J a0.2.1), p 38 (B (a0.2.1 == 2))] [(1, Ob.box 152 (cellsD false y152 a0))]) (by kernel_rfl) ?_
  refine cd H (by kernel_rfl) (fun H => ?_) (fun H => ?_)
  ·refine qb tok hT [2] (St.mk [p 2 (B (v6 == 1 && (↑a0.2.2.2.2.1.length : Int) == 0 && !vl (u183 a0 1) && !vl (u183 a0 2) == vl (u183 a0 3)))] [(1, Ob.box 152 (cellsD false y152 a0))]) H (by kernel_rfl) fun H => ?_
   exact vx_ret <| fx_blk_ret <| fx_seq_ret <| hr H (by kernel_rfl)
  refine qa tok hT [1, 3, 60] (St.mk [p 1 (AV.ptr 1 0), p 3 (I v6), p 60 (B (a0.2.1 == 3))] [(1, Ob.box 152 (cellsD false y152 a0))]) (by kernel_rfl) ?_
  refine cd H (by kernel_rfl) (fun H => ?_) (fun H => ?_)
  ·refine qb tok hT [2] (St.mk [p 2 (B (v6 == 1 && (↑a0.2.2.2.2.1.length : Int) == 0 && vl (u183 a0 1) && vl (u183 a0 2) && !vl (u183 a0 3)))] [(1, Ob.box 152 (cellsD false y152 a0))]) H (by kernel_rfl) fun H => ?_
   exact vx_ret <| fx_blk_ret <| fx_seq_ret <| hr H (by kernel_rfl)
  refine vx_skip <| fx_blk <| fx_seq <| ?_
  refine qa tok hT [2] (St.mk [p 2 (B false)] [(1, Ob.box 152 (cellsD false y152 a0))]) (by kernel_rfl) ?_
  exact vx_ret <| hr H (by kernel_rfl)
 refine qa tok hT [1, 3, 7, 8, 9] (St.mk [p 1 (AV.ptr 1 0), p 3 (I 0), p 7 (L y212 a0.2.2.1), p 8 (I (↑a0.2.2.1.length : Int)), p 9 (I 0)] [(1, Ob.box 152 (cellsD false y152 a0))]) (by kernel_rfl) ?_
 refine vx_block <| ?_
 refine lx (fun ((v2, v3) : Int × Int) => St.mk [p 1 (AV.ptr 1 0), p 3 (I v2), p 7 (L y212 a0.2.2.1), p 8 (I (↑a0.2.2.1.length : Int)), p 9 (I v3)] [(1, Ob.box 152 (cellsD false y152 a0))]) (0, 0) H (by kernel_rfl) fun _ g1 b1 e1 t1 ⟨v2, v3⟩ H => ?_
 refine qa tok hT [1, 3, 7, 8, 9, 10] (St.mk [p 1 (AV.ptr 1 0), p 3 (I v2), p 7 (L y212 a0.2.2.1), p 8 (I (↑a0.2.2.1.length : Int)), p 9 (I v3), p 10 (B (decide (v3 < (↑a0.2.2.1.length : Int))))] [(1, Ob.box 152 (cellsD false y152 a0))]) (by kernel_rfl) ?_
 refine vx_seq <| ?_
 refine cd H (by kernel_rfl) (fun H => ?_) (fun H => ?_)
 ·refine vx_skip <| fx_seq <| ?_
  refine jn r (fun (v5 : Int) => St.mk [p 1 (AV.ptr 1 0), p 3 (I v5), p 7 (L y212 a0.2.2.1), p 8 (I (↑a0.2.2.1.length : Int)), p 9 (I v3)] [(1, Ob.box 152 (cellsD false y152 a0))]) (u167J2 v3 g1) (fun v5 H => ?_) (fun _ n2 e2 t2 => ?_)
  ·refine zb tok hT [1, 3, 7, 8, 9] (St.mk [p 1 (AV.ptr 1 0), p 3 (I v5), p 7 (L y212 a0.2.2.1), p 8 (I (↑a0.2.2.1.length : Int)), p 9 (I (v3 + 1))] [(1, Ob.box 152 (cellsD false y152 a0))]) H (by kernel_rfl) fun H => ?_
   exact b1 H (by kernel_rfl)
  refine vx_block <| ?_
  refine qd tok hT [1, 3, 5, 7, 8, 9] (fun v4 => St.mk [p 1 (AV.ptr 1 0), p 3 (I v2), p 5 (AV.ptr 5 0), p 7 (L y212 a0.2.2.1), p 8 (I (↑a0.2.2.1.length : Int)), p 9 (I v3)] [(5, Ob.box 212 (cellsD false y212 v4)), (1, Ob.box 152 (cellsD false y152 a0))]) H (by kernel_rfl) fun v4 H => ?_
  refine qa tok hT [1, 3, 7, 8, 9, 14] (St.mk [p 1 (AV.ptr 1 0), p 3 (I v2), p 7 (L y212 a0.2.2.1), p 8 (I (↑a0.2.2.1.length : Int)), p 9 (I v3), p 14 (C v4.2.2.2)] [(5, Ob.box 212 (cellsD false y212 v4)), (1, Ob.box 152 (cellsD false y152 a0))]) (by kernel_rfl) ?_
  refine cd H (by kernel_rfl) (fun H => ?_) (fun H => ?_)
  ·refine zb tok hT [1, 3, 7, 8, 9] (St.mk [p 1 (AV.ptr 1 0), p 3 (I (v2 + 1)), p 7 (L y212 a0.2.2.1), p 8 (I (↑a0.2.2.1.length : Int)), p 9 (I v3)] [(5, Ob.box 212 (cellsD false y212 v4)), (1, Ob.box 152 (cellsD false y152 a0))]) H (by kernel_rfl) fun H => ?_
   exact fx_blk <| n2 H (by kernel_rfl)
  exact vx_skip <| fx_blk <| n2 H (by kernel_rfl)
 exact vx_exit <| fx_seq_exit <| e1 <| fx_blk_exit rfl <| n0 H (by kernel_rfl)
def u199 (a0 : Y152) (a1 : Int) : Option (Bool) :=
 gd ((u182 a0).isSome = true ∧ in64 (vl (u182 a0) - 1) ∧ (u87 a1 0 (vl (u182 a0) - 1)).isSome = true ∧ True) <| 
 some (vl (u87 a1 0 (vl (u182 a0) - 1)))
def k199 : Ct := lct 199 [.agg y152, .dat i64] (fun x => u199 x.1 x.2.1) (fun r : Bool => B r) (fun _ => ())
theorem o199 : Ok Tryz.prog k199 := by
 refine okl tok [.tmp 4] Tryz.func199 Tryz.ntmps199 rfl Tryz.results199 (by kernel_rfl) rfl ?_
 intro y ⟨a0, a1, _⟩ r H Q hn hr
 have hT := tc o87 (tc o182 tn)
 refine qa tok hT [1, 2] (St.mk [p 1 (J a1), p 2 (AV.ptr 2 0)] [(2, Ob.box 152 (cellsD false y152 a0))]) (by kernel_rfl) ?_
 refine qb tok hT [4] (St.mk [p 4 (B (vl (u87 a1 0 (vl (u182 a0) - 1))))] [(2, Ob.box 152 (cellsD false y152 a0))]) H (by kernel_rfl) fun H => ?_
 exact vx_ret <| hr H (by kernel_rfl)
def u212J1 : Int → Option (Int)
 | v3 =>
 some v3
def u212L2 (a0 : List Int) (g2 : Int × Int → Option (Int)) : Int × Int → Option (Int)
 | (v1, v2) =>
 if (decide (v2 < (↑a0.length : Int))) = true then
  gd (ix v2 a0.length ∧ True) <| 
  gd (in64 (v2 + 1) ∧ True) <| 
  g2 ((min v1 (a0.getD v2.toNat 0), v2 + 1))
 else
  u212J1 v1
def u212J0 (a0 : List Int) : Unit → Option (Int)
 | _ =>
 gd (ix 0 a0.length ∧ True) <| 
 lp (u212L2 a0) ((a0.getD (Int.toNat (0 : Int)) (0 : Int), 1))
def u212 (a0 : List Int) : Option (Int) :=
 if (decide ((↑a0.length : Int) < 1)) = true then
  none
 else
  u212J0 a0 ()
def k212 : Ct := lct 212 [.dat i64.sl] (fun x => u212 x.1) (fun r : Int => I r) (fun _ => ())
theorem o212 : Ok Tryz.prog k212 := by
 refine okl tok [.tmp 2] Tryz.func212 Tryz.ntmps212 rfl Tryz.results212 (by kernel_rfl) rfl ?_
 intro y ⟨a0, _⟩ r H Q hn hr
 have hT := @tn Tryz.prog
 refine qa tok hT [0] (St.mk [p 0 (L i64 a0)] []) (by kernel_rfl) ?_
 refine jn r (fun (_ : Unit) => St.mk [p 0 (L i64 a0)] []) (u212J0 a0) (fun _ H => ?_) (fun _ n0 e0 t0 => ?_)
 ·refine qb tok hT [0, 3] (St.mk [p (0 : Nat) (L i64 a0), p (3 : Nat) (J (a0.getD (Int.toNat (0 : Int)) (0 : Int)))] []) H (by kernel_rfl) fun H => ?_
  refine jn r (fun (v3 : Int) => St.mk [p 3 (J v3)] []) (u212J1) (fun v3 H => ?_) (fun _ n1 e1 t1 => ?_)
  ·refine qa tok hT [2] (St.mk [p 2 (J v3)] []) (by kernel_rfl) ?_
   exact vx_ret <| hr H (by kernel_rfl)
  refine qa tok hT [0, 3, 4] (St.mk [p (0 : Nat) (L i64 a0), p (3 : Nat) (J (a0.getD (Int.toNat (0 : Int)) (0 : Int))), p (4 : Nat) (I (1 : Int))] []) (by kernel_rfl) ?_
  refine vx_block <| ?_
  refine lx (fun ((v1, v2) : Int × Int) => St.mk [p 0 (L i64 a0), p 3 (J v1), p 4 (I v2)] []) ((a0.getD (Int.toNat (0 : Int)) (0 : Int), 1)) H (by kernel_rfl) fun _ g2 b2 e2 t2 ⟨v1, v2⟩ H => ?_
  refine vx_seq <| ?_
  refine qa tok hT [0, 3, 4, 15] (St.mk [p 0 (L i64 a0), p 3 (J v1), p 4 (I v2), p 15 (B (decide (v2 < (↑a0.length : Int))))] []) (by kernel_rfl) ?_
  refine cd H (by kernel_rfl) (fun H => ?_) (fun H => ?_)
  ·refine vx_skip <| fx_seq <| vx_seq <| vx_block <| ?_
   refine zb tok hT [0, 3, 4] (St.mk [p 0 (L i64 a0), p 3 (I (min v1 (a0.getD v2.toNat 0))), p 4 (I v2)] []) H (by kernel_rfl) fun H => ?_
   refine fx_blk <| fx_seq <| ?_
   refine zb tok hT [0, 3, 4] (St.mk [p 0 (L i64 a0), p 3 (I (min v1 (a0.getD v2.toNat 0))), p 4 (I (v2 + 1))] []) H (by kernel_rfl) fun H => ?_
   exact b2 H (by kernel_rfl)
  exact vx_exit <| fx_seq_exit <| e2 <| fx_blk_exit rfl <| n1 H (by kernel_rfl)
 refine qa tok hT [0, 7] (St.mk [p 0 (L i64 a0), p 7 (B (decide ((↑a0.length : Int) < 1)))] []) (by kernel_rfl) ?_
 refine cd H (by kernel_rfl) (fun H => ?_) (fun H => ?_)
 ·exact dead H
 exact vx_skip <| n0 H (by kernel_rfl)
def u224J0 : Unit → Option (Bool)
 | _ =>
 some true
def u224L1 (a0 : List Int) (g1 : Int → Option (Bool)) : Int → Option (Bool)
 | v0 =>
 if (decide (v0 < (↑a0.length : Int))) = true then
  gd (in64 (v0 - 1) ∧ ix (v0 - 1) a0.length ∧ ix v0 a0.length ∧ True) <| 
  if (decide (a0.getD v0.toNat 0 ≤ a0.getD (v0 - 1).toNat 0)) = true then
   some false
  else
   gd (in64 (v0 + 1) ∧ True) <| 
   g1 (v0 + 1)
 else
  u224J0 ()
def u224 (a0 : List Int) : Option (Bool) :=
 lp (u224L1 a0) 1
def k224 : Ct := lct 224 [.dat i64.sl] (fun x => u224 x.1) (fun r : Bool => B r) (fun _ => ())
theorem o224 : Ok Tryz.prog k224 := by
 refine okl tok [.tmp 2] Tryz.func224 Tryz.ntmps224 rfl Tryz.results224 (by kernel_rfl) rfl ?_
 intro y ⟨a0, _⟩ r H Q hn hr
 have hT := @tn Tryz.prog
 refine qa tok hT [0] (St.mk [p 0 (L i64 a0)] []) (by kernel_rfl) ?_
 refine jn r (fun (_ : Unit) => St.mk [] []) (u224J0) (fun _ H => ?_) (fun _ n0 e0 t0 => ?_)
 ·refine qa tok hT [2] (St.mk [p 2 (B true)] []) (by kernel_rfl) ?_
  exact vx_ret <| hr H (by kernel_rfl)
 refine qa tok hT [0, 3] (St.mk [p 0 (L i64 a0), p 3 (I 1)] []) (by kernel_rfl) ?_
 refine vx_block <| ?_
 refine lx (fun (v0 : Int) => St.mk [p 0 (L i64 a0), p 3 (I v0)] []) 1 H (by kernel_rfl) fun _ g1 b1 e1 t1 v0 H => ?_
 refine vx_seq <| ?_
 refine qa tok hT [0, 3, 7] (St.mk [p 0 (L i64 a0), p 3 (I v0), p 7 (B (decide (v0 < (↑a0.length : Int))))] []) (by kernel_rfl) ?_
 refine cd H (by kernel_rfl) (fun H => ?_) (fun H => ?_)
 ·refine vx_skip <| fx_seq <| vx_seq <| vx_block <| ?_
  refine qb tok hT [0, 3, 19] (St.mk [p 0 (L i64 a0), p 3 (I v0), p 19 (B (decide (a0.getD v0.toNat 0 ≤ a0.getD (v0 - 1).toNat 0)))] []) H (by kernel_rfl) fun H => ?_
  refine cd H (by kernel_rfl) (fun H => ?_) (fun H => ?_)
  ·refine qa tok hT [2] (St.mk [p 2 (B false)] []) (by kernel_rfl) ?_
   exact vx_ret <| fx_blk_ret <| fx_seq_ret <| t1 <| fx_blk_ret <| t0 <| hr H (by kernel_rfl)
  refine vx_skip <| fx_blk <| fx_seq <| ?_
  refine zb tok hT [0, 3] (St.mk [p 0 (L i64 a0), p 3 (I (v0 + 1))] []) H (by kernel_rfl) fun H => ?_
  exact b1 H (by kernel_rfl)
 exact vx_exit <| fx_seq_exit <| e1 <| fx_blk_exit rfl <| n0 H (by kernel_rfl)
def u220 (a0 : List Int) : Option (Bool) :=
 gd ((u96 a0).isSome = true ∧ (u87 (vl (u96 a0)) 1 4).isSome = true ∧ (vl (u87 (vl (u96 a0)) 1 4) = true ∧ True → (u127 a0 0 100000).isSome = true) ∧ ((vl (u87 (vl (u96 a0)) 1 4) && vl (u127 a0 0 100000)) = true ∧ True → (u224 a0).isSome = true) ∧ True) <| 
 some (vl (u87 (vl (u96 a0)) 1 4) && vl (u127 a0 0 100000) && vl (u224 a0))
def k220 : Ct := lct 220 [.dat i64.sl] (fun x => u220 x.1) (fun r : Bool => B r) (fun _ => ())
theorem o220 : Ok Tryz.prog k220 := by
 refine okl tok [.tmp 2] Tryz.func220 Tryz.ntmps220 rfl Tryz.results220 (by kernel_rfl) rfl ?_
 intro y ⟨a0, _⟩ r H Q hn hr
 have hT := tc o224 (tc o127 (tc o87 (tc o96 tn)))
 refine qa tok hT [0] (St.mk [p 0 (L i64 a0)] []) (by kernel_rfl) ?_
 refine qb tok hT [2] (St.mk [p 2 (B (vl (u87 (vl (u96 a0)) 1 4) && vl (u127 a0 0 100000) && vl (u224 a0)))] []) H (by kernel_rfl) fun H => ?_
 exact vx_ret <| hr H (by kernel_rfl)
def u211 (a0 : Y96) : Option (Bool) :=
 gd ((u220 a0.1).isSome = true ∧ (vl (u220 a0.1) = true ∧ True → (u220 a0.2.1).isSome = true) ∧ ((vl (u220 a0.1) && vl (u220 a0.2.1)) = true ∧ True → in64 ((↑a0.1.length : Int) * (↑a0.2.1.length : Int))) ∧ ((vl (u220 a0.1) && vl (u220 a0.2.1) && (↑a0.2.2.length : Int) == (↑a0.1.length : Int) * (↑a0.2.1.length : Int)) = true ∧ True → (u127 a0.2.2 (-1000000) 1000000).isSome = true) ∧ True) <| 
 some (vl (u220 a0.1) && vl (u220 a0.2.1) && (↑a0.2.2.length : Int) == (↑a0.1.length : Int) * (↑a0.2.1.length : Int) && vl (u127 a0.2.2 (-1000000) 1000000))
def k211 : Ct := lct 211 [.agg y96] (fun x => u211 x.1) (fun r : Bool => B r) (fun _ => ())
theorem o211 : Ok Tryz.prog k211 := by
 refine okl tok [.tmp 2] Tryz.func211 Tryz.ntmps211 rfl Tryz.results211 (by kernel_rfl) rfl ?_
 intro y ⟨a0, _⟩ r H Q hn hr
 have hT := tc o127 (tc o220 tn)
 refine qa tok hT [1] (St.mk [p 1 (AV.ptr 1 0)] [(1, Ob.box 96 (cellsD false y96 a0))]) (by kernel_rfl) ?_
 refine qb tok hT [2] (St.mk [p 2 (B (vl (u220 a0.1) && vl (u220 a0.2.1) && (↑a0.2.2.length : Int) == (↑a0.1.length : Int) * (↑a0.2.1.length : Int) && vl (u127 a0.2.2 (-1000000) 1000000)))] [(1, Ob.box 96 (cellsD false y96 a0))]) H (by kernel_rfl) fun H => ?_
 exact vx_ret <| hr H (by kernel_rfl)
def u210 (a0 : Y96) (a1 : Bool) : Option (Bool) :=
 gd ((u211 a0).isSome = true ∧ (a1 = true ∧ (!vl (u211 a0)) = false ∧ True → (u212 a0.2.2).isSome = true) ∧ True) <| lt (vl (u212 a0.2.2)) fun v0 =>
 some (!vl (u211 a0) || a1 && decide (v0 < 0))
def k210 : Ct := lct 210 [.agg y96, .dat (.pt Ty.bool)] (fun x => u210 x.1 x.2.1) (fun r : Bool => B r) (fun _ => ())
theorem o210 : Ok Tryz.prog k210 := by
 refine okl tok [.tmp 3] Tryz.func210 Tryz.ntmps210 rfl Tryz.results210 (by kernel_rfl) rfl ?_
 intro y ⟨a0, a1, _⟩ r H Q hn hr
 have hT := tc o212 (tc o211 tn)
 refine qa tok hT [1, 2] (St.mk [p 1 (D Ty.bool.pt a1), p 2 (AV.ptr 2 0)] [(2, Ob.box 96 (cellsD false y96 a0))]) (by kernel_rfl) ?_
 refine qd tok hT [3] (fun v0 => St.mk [p 3 (B (!vl (u211 a0) || a1 && decide (v0 < 0)))] [(2, Ob.box 96 (cellsD false y96 a0))]) H (by kernel_rfl) fun v0 H => ?_
 exact vx_ret <| hr H (by kernel_rfl)
def u219c210J0 : Unit → Option (Int)
 | _ =>
 some (-1)
def u219c210L1 (a0 : List Y96) (a1 : Bool) (g1 : Int → Option (Int)) : Int → Option (Int)
 | v0 =>
 if (decide (v0 < (↑a0.length : Int))) = true then
  gd (ix v0 a0.length ∧ (u210 (a0.getD v0.toNat (dflt y96)) a1).isSome = true ∧ True) <| 
  if (vl (u210 (a0.getD v0.toNat (dflt y96)) a1)) = true then
   some v0
  else
   gd (in64 (v0 + 1) ∧ True) <| 
   g1 (v0 + 1)
 else
  u219c210J0 ()
def u219c210 (a0 : List Y96) (a1 : Bool) : Option (Int) :=
 lp (u219c210L1 a0 a1) 0
def k219c210 : Ct := lct 219 [.dat y96.sl, .fn 210 Ty.bool.pt] (fun x => u219c210 x.1 x.2.1) (fun r : Int => I r) (fun _ => ())
theorem o219c210 : Ok Tryz.prog k219c210 := by
 refine okl tok [.tmp 4] Tryz.func219 Tryz.ntmps219 rfl Tryz.results219 (by kernel_rfl) rfl ?_
 intro y ⟨a0, a1, _⟩ r H Q hn hr
 have hT := tc o210 tn
 refine qa tok hT [0, 1] (St.mk [p 0 (L y96 a0), p 1 (AV.fn 210 [D Ty.bool.pt a1])] []) (by kernel_rfl) ?_
 refine jn r (fun (_ : Unit) => St.mk [] []) (u219c210J0) (fun _ H => ?_) (fun _ n0 e0 t0 => ?_)
 ·refine qa tok hT [4] (St.mk [p 4 (I (-1))] []) (by kernel_rfl) ?_
  exact vx_ret <| hr H (by kernel_rfl)
 refine qa tok hT [0, 1, 7, 8] (St.mk [p 0 (L y96 a0), p 1 (AV.fn 210 [D Ty.bool.pt a1]), p 7 (I (↑a0.length : Int)), p 8 (I 0)] []) (by kernel_rfl) ?_
 refine vx_block <| ?_
 refine lx (fun (v0 : Int) => St.mk [p 0 (L y96 a0), p 1 (AV.fn 210 [D Ty.bool.pt a1]), p 7 (I (↑a0.length : Int)), p 8 (I v0)] []) 0 H (by kernel_rfl) fun _ g1 b1 e1 t1 v0 H => ?_
 refine qa tok hT [0, 1, 7, 8, 9] (St.mk [p 0 (L y96 a0), p 1 (AV.fn 210 [D Ty.bool.pt a1]), p 7 (I (↑a0.length : Int)), p 8 (I v0), p 9 (B (decide (v0 < (↑a0.length : Int))))] []) (by kernel_rfl) ?_
 refine vx_seq <| ?_
 refine cd H (by kernel_rfl) (fun H => ?_) (fun H => ?_)
 ·refine vx_skip <| fx_seq <| vx_seq <| vx_block <| ?_
  refine qa tok hT [0, 1, 5, 7, 8] (St.mk [p 0 (L y96 a0), p 1 (AV.fn 210 [D Ty.bool.pt a1]), p 5 (I v0), p 7 (I (↑a0.length : Int)), p 8 (I v0)] []) (by kernel_rfl) ?_
  refine qb tok hT [0, 1, 5, 7, 8, 16] (St.mk [p 0 (L y96 a0), p 1 (AV.fn 210 [D Ty.bool.pt a1]), p 5 (I v0), p 7 (I (↑a0.length : Int)), p 8 (I v0), p 16 (B (vl (u210 (a0.getD v0.toNat (dflt y96)) a1)))] []) H (by kernel_rfl) fun H => ?_
  refine cd H (by kernel_rfl) (fun H => ?_) (fun H => ?_)
  ·refine qa tok hT [4] (St.mk [p 4 (I v0)] []) (by kernel_rfl) ?_
   exact vx_ret <| fx_blk_ret <| fx_seq_ret <| t1 <| fx_blk_ret <| t0 <| hr H (by kernel_rfl)
  refine vx_skip <| fx_blk <| fx_seq <| ?_
  refine zb tok hT [0, 1, 7, 8] (St.mk [p 0 (L y96 a0), p 1 (AV.fn 210 [D Ty.bool.pt a1]), p 7 (I (↑a0.length : Int)), p 8 (I (v0 + 1))] []) H (by kernel_rfl) fun H => ?_
  exact b1 H (by kernel_rfl)
 exact vx_exit <| fx_seq_exit <| e1 <| fx_blk_exit rfl <| n0 H (by kernel_rfl)
def u209c210 (a0 : List Y96) (a1 : Bool) : Option (Bool) :=
 gd ((u219c210 a0 a1).isSome = true ∧ True) <| lt (vl (u219c210 a0 a1)) fun v0 =>
 some (decide (0 ≤ v0))
def k209c210 : Ct := lct 209 [.dat y96.sl, .fn 210 (.pt Ty.bool)] (fun x => u209c210 x.1 x.2.1) (fun r : Bool => B r) (fun _ => ())
theorem o209c210 : Ok Tryz.prog k209c210 := by
 refine okl tok [.tmp 4] Tryz.func209 Tryz.ntmps209 rfl Tryz.results209 (by kernel_rfl) rfl ?_
 intro y ⟨a0, a1, _⟩ r H Q hn hr
 have hT := tc o219c210 (tc o210 tn)
 refine qa tok hT [0, 1] (St.mk [p 0 (L y96 a0), p 1 (AV.fn 210 [D Ty.bool.pt a1])] []) (by kernel_rfl) ?_
 refine qd tok hT [4] (fun v0 => St.mk [p 4 (B (decide (0 ≤ v0)))] []) H (by kernel_rfl) fun v0 H => ?_
 exact vx_ret <| hr H (by kernel_rfl)
def u197 (a0 : List Y96) (a1 : Bool) : Option (Bool) :=
 gd ((((↑a0.length : Int) == 2) = true ∧ True → (u209c210 a0 a1).isSome = true) ∧ True) <| 
 some ((↑a0.length : Int) == 2 && !vl (u209c210 a0 a1))
def k197 : Ct := lct 197 [.dat y96.sl, .dat Ty.bool] (fun x => u197 x.1 x.2.1) (fun r : Bool => B r) (fun _ => ())
theorem o197 : Ok Tryz.prog k197 := by
 refine okl tok [.tmp 4] Tryz.func197 Tryz.ntmps197 rfl Tryz.results197 (by kernel_rfl) rfl ?_
 intro y ⟨a0, a1, _⟩ r H Q hn hr
 have hT := tc o209c210 (tc o210 tn)
 refine qa tok hT [0, 3] (St.mk [p 0 (L y96 a0), p 3 (AV.ptr 3 0)] [(3, Ob.box 4 [C a1])]) (by kernel_rfl) ?_
 refine qb tok hT [4] (St.mk [p 4 (B ((↑a0.length : Int) == 2 && !vl (u209c210 a0 a1)))] [(3, Ob.box 4 [C a1])]) H (by kernel_rfl) fun H => ?_
 exact vx_ret <| hr H (by kernel_rfl)
def u214 (a0 : Y212) : Option (Bool) :=
 some a0.2.2.2
def k214 : Ct := lct 214 [.agg y212] (fun x => u214 x.1) (fun r : Bool => B r) (fun _ => ())
theorem o214 : Ok Tryz.prog k214 := by
 refine okl tok [.tmp 2] Tryz.func214 Tryz.ntmps214 rfl Tryz.results214 (by kernel_rfl) rfl ?_
 intro y ⟨a0, _⟩ r H Q hn hr
 have hT := @tn Tryz.prog
 refine qa tok hT [1] (St.mk [p 1 (AV.ptr 1 0)] [(1, Ob.box 212 (cellsD false y212 a0))]) (by kernel_rfl) ?_
 refine qa tok hT [2] (St.mk [p 2 (C a0.2.2.2)] [(1, Ob.box 212 (cellsD false y212 a0))]) (by kernel_rfl) ?_
 exact vx_ret <| hr H (by kernel_rfl)
def u213c214J0 : Unit → Option (Int)
 | _ =>
 some (-1)
def u213c214L1 (a0 : List Y212) (g1 : Int → Option (Int)) : Int → Option (Int)
 | v0 =>
 if (decide (v0 < (↑a0.length : Int))) = true then
  gd (ix v0 a0.length ∧ (u214 (a0.getD v0.toNat (dflt y212))).isSome = true ∧ True) <| 
  if (vl (u214 (a0.getD v0.toNat (dflt y212)))) = true then
   some v0
  else
   gd (in64 (v0 + 1) ∧ True) <| 
   g1 (v0 + 1)
 else
  u213c214J0 ()
def u213c214 (a0 : List Y212) : Option (Int) :=
 lp (u213c214L1 a0) 0
def k213c214 : Ct := lct 213 [.dat y212.sl, .nof 214] (fun x => u213c214 x.1) (fun r : Int => I r) (fun _ => ())
theorem o213c214 : Ok Tryz.prog k213c214 := by
 refine okl tok [.tmp 4] Tryz.func213 Tryz.ntmps213 rfl Tryz.results213 (by kernel_rfl) rfl ?_
 intro y ⟨a0, _, _⟩ r H Q hn hr
 have hT := tc o214 tn
 refine qa tok hT [0, 1] (St.mk [p 0 (L y212 a0), p 1 (AV.fn 214 [])] []) (by kernel_rfl) ?_
 refine jn r (fun (_ : Unit) => St.mk [] []) (u213c214J0) (fun _ H => ?_) (fun _ n0 e0 t0 => ?_)
 ·refine qa tok hT [4] (St.mk [p 4 (I (-1))] []) (by kernel_rfl) ?_
  exact vx_ret <| hr H (by kernel_rfl)
 refine qa tok hT [0, 1, 7, 8] (St.mk [p 0 (L y212 a0), p 1 (AV.fn 214 []), p 7 (I (↑a0.length : Int)), p 8 (I 0)] []) (by kernel_rfl) ?_
 refine vx_block <| ?_
 refine lx (fun (v0 : Int) => St.mk [p 0 (L y212 a0), p 1 (AV.fn 214 []), p 7 (I (↑a0.length : Int)), p 8 (I v0)] []) 0 H (by kernel_rfl) fun _ g1 b1 e1 t1 v0 H => ?_
 refine qa tok hT [0, 1, 7, 8, 9] (St.mk [p 0 (L y212 a0), p 1 (AV.fn 214 []), p 7 (I (↑a0.length : Int)), p 8 (I v0), p 9 (B (decide (v0 < (↑a0.length : Int))))] []) (by kernel_rfl) ?_
 refine vx_seq <| ?_
 refine cd H (by kernel_rfl) (fun H => ?_) (fun H => ?_)
 ·refine vx_skip <| fx_seq <| vx_seq <| vx_block <| ?_
  refine qa tok hT [0, 1, 5, 7, 8] (St.mk [p 0 (L y212 a0), p 1 (AV.fn 214 []), p 5 (I v0), p 7 (I (↑a0.length : Int)), p 8 (I v0)] []) (by kernel_rfl) ?_
  refine qb tok hT [0, 1, 5, 7, 8, 16] (St.mk [p 0 (L y212 a0), p 1 (AV.fn 214 []), p 5 (I v0), p 7 (I (↑a0.length : Int)), p 8 (I v0), p 16 (B (vl (u214 (a0.getD v0.toNat (dflt y212)))))] []) H (by kernel_rfl) fun H => ?_
  refine cd H (by kernel_rfl) (fun H => ?_) (fun H => ?_)
  ·refine qa tok hT [4] (St.mk [p 4 (I v0)] []) (by kernel_rfl) ?_
   exact vx_ret <| fx_blk_ret <| fx_seq_ret <| t1 <| fx_blk_ret <| t0 <| hr H (by kernel_rfl)
  refine vx_skip <| fx_blk <| fx_seq <| ?_
  refine zb tok hT [0, 1, 7, 8] (St.mk [p 0 (L y212 a0), p 1 (AV.fn 214 []), p 7 (I (↑a0.length : Int)), p 8 (I (v0 + 1))] []) H (by kernel_rfl) fun H => ?_
  exact b1 H (by kernel_rfl)
 exact vx_exit <| fx_seq_exit <| e1 <| fx_blk_exit rfl <| n0 H (by kernel_rfl)
def u198 (a0 : Y152) : Option (Int) :=
 gd ((u213c214 a0.2.2.1).isSome = true ∧ True) <| lt (vl (u213c214 a0.2.2.1)) fun v0 =>
 some v0
def k198 : Ct := lct 198 [.agg y152] (fun x => u198 x.1) (fun r : Int => I r) (fun _ => ())
theorem o198 : Ok Tryz.prog k198 := by
 refine okl tok [.tmp 2] Tryz.func198 Tryz.ntmps198 rfl Tryz.results198 (by kernel_rfl) rfl ?_
 intro y ⟨a0, _⟩ r H Q hn hr
 have hT := tc o214 (tc o213c214 tn)
 refine qa tok hT [1] (St.mk [p 1 (AV.ptr 1 0)] [(1, Ob.box 152 (cellsD false y152 a0))]) (by kernel_rfl) ?_
 refine qd tok hT [2] (fun v0 => St.mk [p 2 (I v0)] [(1, Ob.box 152 (cellsD false y152 a0))]) H (by kernel_rfl) fun v0 H => ?_
 exact vx_ret <| hr H (by kernel_rfl)
def u90 (a0 : Int) : Option (Bool) :=
 some (a0 == 4 || a0 == 5)
def k90 : Ct := lct 90 [.dat i64] (fun x => u90 x.1) (fun r : Bool => B r) (fun _ => ())
theorem o90 : Ok Tryz.prog k90 := by
 refine okl tok [.tmp 2] Tryz.func90 Tryz.ntmps90 rfl Tryz.results90 (by kernel_rfl) rfl ?_
 intro y ⟨a0, _⟩ r H Q hn hr
 have hT := @tn Tryz.prog
 refine qa tok hT [0] (St.mk [p 0 (J a0)] []) (by kernel_rfl) ?_
 refine qa tok hT [2] (St.mk [p 2 (B (a0 == 4 || a0 == 5))] []) (by kernel_rfl) ?_
 exact vx_ret <| hr H (by kernel_rfl)
def u179J0 (a0 : Y152) (a1 : Y89) : Bool → Option (Bool)
 | v2 =>
 if v2 = true then
  gd (ix a1.2.1 a0.2.2.1.length ∧ True) <| 
  some ((a0.2.2.1.getD a1.2.1.toNat (dflt y212)).2.2.2 && a1.2.2.2.1 == 0)
 else
  some false
def u179 (a0 : Y152) (a1 : Y89) : Option (Bool) :=
 gd ((u90 a1.1).isSome = true ∧ True) <| 
 if (vl (u90 a1.1)) = true then
  gd (((a1.2.2.2.1 == 0 && (↑a1.2.2.2.2.2.length : Int) == 0) = true ∧ True → (u197 a1.2.2.2.2.1 false).isSome = true) ∧ ((a1.2.2.2.1 == 0 && (↑a1.2.2.2.2.2.length : Int) == 0 && vl (u197 a1.2.2.2.2.1 false)) = true ∧ True → (u198 a0).isSome = true) ∧ ((a1.2.2.2.1 == 0 && (↑a1.2.2.2.2.2.length : Int) == 0 && vl (u197 a1.2.2.2.2.1 false) && a1.2.1 == vl (u198 a0) && decide (0 ≤ a1.2.1)) = true ∧ True → (u199 a0 a1.2.2.1).isSome = true) ∧ True) <| lt (vl (u198 a0)) fun v0 =>
  some (a1.2.2.2.1 == 0 && (↑a1.2.2.2.2.2.length : Int) == 0 && vl (u197 a1.2.2.2.2.1 false) && a1.2.1 == v0 && decide (0 ≤ a1.2.1) && vl (u199 a0 a1.2.2.1) && a1.2.2.1 != a1.2.1)
 else
  gd ((u197 a1.2.2.2.2.1 true).isSome = true ∧ ((!vl (u197 a1.2.2.2.2.1 true)) = false ∧ True → (u197 a1.2.2.2.2.2 true).isSome = true) ∧ ((!vl (u197 a1.2.2.2.2.1 true) || !vl (u197 a1.2.2.2.2.2 true)) = false ∧ True → (u182 a0).isSome = true) ∧ ((!vl (u197 a1.2.2.2.2.1 true) || !vl (u197 a1.2.2.2.2.2 true) || a1.2.2.1 != vl (u182 a0)) = false ∧ True → (u199 a0 a1.2.1).isSome = true) ∧ True) <| lt (vl (u182 a0)) fun v1 =>
  if (!vl (u197 a1.2.2.2.2.1 true) || !vl (u197 a1.2.2.2.2.2 true) || a1.2.2.1 != v1 || !vl (u199 a0 a1.2.1)) = true then
   some false
  else
   if (a1.1 == 1) = true then
    gd (ix a1.2.1 a0.2.2.1.length ∧ ((!(a0.2.2.1.getD a1.2.1.toNat (dflt y212)).2.2.2) = true ∧ True → (u87 a1.2.2.2.1 1 3).isSome = true) ∧ True) <| 
    some (!(a0.2.2.1.getD a1.2.1.toNat (dflt y212)).2.2.2 && vl (u87 a1.2.2.2.1 1 3))
   else
    if (a1.1 == 2) = true then
     u179J0 a0 a1 (a1.1 == 2)
    else
     u179J0 a0 a1 (a1.1 == 3)
def k179 : Ct := lct 179 [.agg y152, .agg y89] (fun x => u179 x.1 x.2.1) (fun r : Bool => B r) (fun _ => ())
theorem o179 : Ok Tryz.prog k179 := by
 refine okl tok [.tmp 4] Tryz.func179 Tryz.ntmps179 rfl Tryz.results179 (by kernel_rfl) rfl ?_
 intro y ⟨a0, a1, _⟩ r H Q hn hr
 have hT := tc o87 (tc o199 (tc o182 (tc o197 (tc o198 (tc o90 tn)))))
 refine qa tok hT [2, 3] (St.mk [p 2 (AV.ptr 2 0), p 3 (AV.ptr 3 0)] [(3, Ob.box 89 (cellsD false y89 a1)), (2, Ob.box 152 (cellsD false y152 a0))]) (by kernel_rfl) ?_
 refine vx_seq <| ?_
 refine qb tok hT [2, 3, 7] (St.mk [p 2 (AV.ptr 2 0), p 3 (AV.ptr 3 0), p 7 (B (vl (u90 a1.1)))] [(3, Ob.box 89 (cellsD false y89 a1)), (2, Ob.box 152 (cellsD false y152 a0))]) H (by kernel_rfl) fun H => ?_
 refine cd H (by kernel_rfl) (fun H => ?_) (fun H => ?_)
 ·refine qd tok hT [4] (fun v0 => St.mk [p 4 (B (a1.2.2.2.1 == 0 && (↑a1.2.2.2.2.2.length : Int) == 0 && vl (u197 a1.2.2.2.2.1 false) && a1.2.1 == v0 && decide (0 ≤ a1.2.1) && vl (u199 a0 a1.2.2.1) && a1.2.2.1 != a1.2.1))] [(3, Ob.box 89 (cellsD false y89 a1)), (2, Ob.box 152 (cellsD false y152 a0))]) H (by kernel_rfl) fun v0 H => ?_
  exact vx_ret <| fx_seq_ret <| hr H (by kernel_rfl)
 refine vx_skip <| fx_seq <| vx_seq <| ?_
 refine qd tok hT [2, 3, 70] (fun v1 => St.mk [p 2 (AV.ptr 2 0), p 3 (AV.ptr 3 0), p 70 (B (!vl (u197 a1.2.2.2.2.1 true) || !vl (u197 a1.2.2.2.2.2 true) || a1.2.2.1 != v1 || !vl (u199 a0 a1.2.1)))] [(3, Ob.box 89 (cellsD false y89 a1)), (2, Ob.box 152 (cellsD false y152 a0))]) H (by kernel_rfl) fun v1 H => ?_
 refine cd H (by kernel_rfl) (fun H => ?_) (fun H => ?_)
 ·refine qa tok hT [4] (St.mk [p 4 (B false)] [(3, Ob.box 89 (cellsD false y89 a1)), (2, Ob.box 152 (cellsD false y152 a0))]) (by kernel_rfl) ?_
  exact vx_ret <| fx_seq_ret <| hr H (by kernel_rfl)
 refine vx_skip <| fx_seq <| vx_seq <| ?_
 refine qa tok hT [2, 3, 72] (St.mk [p 2 (AV.ptr 2 0), p 3 (AV.ptr 3 0), p 72 (J a1.1)] [(3, Ob.box 89 (cellsD false y89 a1)), (2, Ob.box 152 (cellsD false y152 a0))]) (by kernel_rfl) ?_
 refine vx_block <| ?_
 refine qa tok hT [2, 3, 72, 73] (St.mk [p 2 (AV.ptr 2 0), p 3 (AV.ptr 3 0), p 72 (J a1.1), p 73 (B (a1.1 == 1))] [(3, Ob.box 89 (cellsD false y89 a1)), (2, Ob.box 152 (cellsD false y152 a0))]) (by kernel_rfl) ?_
 refine cd H (by kernel_rfl) (fun H => ?_) (fun H => ?_)
 ·refine qb tok hT [4] (St.mk [p 4 (B (!(a0.2.2.1.getD a1.2.1.toNat (dflt y212)).2.2.2 && vl (u87 a1.2.2.2.1 1 3)))] [(3, Ob.box 89 (cellsD false y89 a1)), (2, Ob.box 152 (cellsD false y152 a0))]) H (by kernel_rfl) fun H => ?_
  exact vx_ret <| fx_blk_ret <| fx_seq_ret <| hr H (by kernel_rfl)
 refine jn r (fun (v2 : Bool) => St.mk [p 2 (AV.ptr 2 0), p 3 (AV.ptr 3 0), p 88 (B v2)] [(3, Ob.box 89 (cellsD false y89 a1)), (2, Ob.box 152 (cellsD false y152 a0))]) (u179J0 a0 a1) (fun v2 H => ?_) (fun _ n0 e0 t0 => ?_)
 ·refine cd H (by kernel_rfl) (fun H => ?_) (fun H => ?_)
  ·refine qb tok hT [4] (St.mk [p 4 (B ((a0.2.2.1.getD a1.2.1.toNat (dflt y212)).2.2.2 && a1.2.2.2.1 == 0))] [(3, Ob.box 89 (cellsD false y89 a1)), (2, Ob.box 152 (cellsD false y152 a0))]) H (by kernel_rfl) fun H => ?_
   exact vx_ret <| fx_blk_ret <| fx_seq_ret <| hr H (by kernel_rfl)
  refine vx_skip <| fx_blk <| fx_seq <| ?_
  refine qa tok hT [4] (St.mk [p 4 (B false)] [(3, Ob.box 89 (cellsD false y89 a1)), (2, Ob.box 152 (cellsD false y152 a0))]) (by kernel_rfl) ?_
  exact vx_ret <| hr H (by kernel_rfl)
 refine qa tok hT [2, 3, 72, 88] (St.mk [p 2 (AV.ptr 2 0), p 3 (AV.ptr 3 0), p 72 (J a1.1), p 88 (B (a1.1 == 2))] [(3, Ob.box 89 (cellsD false y89 a1)), (2, Ob.box 152 (cellsD false y152 a0))]) (by kernel_rfl) ?_
 refine cd H (by kernel_rfl) (fun H => ?_) (fun H => ?_)
 ·exact vx_skip <| n0 H (by kernel_rfl)
 refine za tok hT [2, 3, 88] (St.mk [p 2 (AV.ptr 2 0), p 3 (AV.ptr 3 0), p 88 (B (a1.1 == 3))] [(3, Ob.box 89 (cellsD false y89 a1)), (2, Ob.box 152 (cellsD false y152 a0))]) (by kernel_rfl) ?_
 exact n0 H (by kernel_rfl)
def u181 (a0 : Y89) (a1 : Y89) : Option (Bool) :=
 some (a0.1 == a1.1 && a0.2.1 == a1.2.1 && a0.2.2.1 == a1.2.2.1)
def k181 : Ct := lct 181 [.agg y89, .dat (.pt y89)] (fun x => u181 x.1 x.2.1) (fun r : Bool => B r) (fun _ => ())
theorem o181 : Ok Tryz.prog k181 := by
 refine okl tok [.tmp 3] Tryz.func181 Tryz.ntmps181 rfl Tryz.results181 (by kernel_rfl) rfl ?_
 intro y ⟨a0, a1, _⟩ r H Q hn hr
 have hT := @tn Tryz.prog
 refine qa tok hT [1, 2] (St.mk [p 1 (D y89.pt a1), p 2 (AV.ptr 2 0)] [(2, Ob.box 89 (cellsD false y89 a0))]) (by kernel_rfl) ?_
 refine qa tok hT [3] (St.mk [p 3 (B (a0.1 == a1.1 && a0.2.1 == a1.2.1 && a0.2.2.1 == a1.2.2.1))] [(2, Ob.box 89 (cellsD false y89 a0))]) (by kernel_rfl) ?_
 exact vx_ret <| hr H (by kernel_rfl)
def u200c181J0 : Unit → Option (Int)
 | _ =>
 some (-1)
def u200c181L1 (a0 : List Y89) (a1 : Y89) (g1 : Int → Option (Int)) : Int → Option (Int)
 | v0 =>
 if (decide (v0 < (↑a0.length : Int))) = true then
  gd (ix v0 a0.length ∧ (u181 (a0.getD v0.toNat (dflt y89)) a1).isSome = true ∧ True) <| 
  if (vl (u181 (a0.getD v0.toNat (dflt y89)) a1)) = true then
   some v0
  else
   gd (in64 (v0 + 1) ∧ True) <| 
   g1 (v0 + 1)
 else
  u200c181J0 ()
def u200c181 (a0 : List Y89) (a1 : Y89) : Option (Int) :=
 lp (u200c181L1 a0 a1) 0
def k200c181 : Ct := lct 200 [.dat y89.sl, .fn 181 y89.pt] (fun x => u200c181 x.1 x.2.1) (fun r : Int => I r) (fun _ => ())
theorem o200c181 : Ok Tryz.prog k200c181 := by
 refine okl tok [.tmp 4] Tryz.func200 Tryz.ntmps200 rfl Tryz.results200 (by kernel_rfl) rfl ?_
 intro y ⟨a0, a1, _⟩ r H Q hn hr
 have hT := tc o181 tn
 refine qa tok hT [0, 1] (St.mk [p 0 (L y89 a0), p 1 (AV.fn 181 [D y89.pt a1])] []) (by kernel_rfl) ?_
 refine jn r (fun (_ : Unit) => St.mk [] []) (u200c181J0) (fun _ H => ?_) (fun _ n0 e0 t0 => ?_)
 ·refine qa tok hT [4] (St.mk [p 4 (I (-1))] []) (by kernel_rfl) ?_
  exact vx_ret <| hr H (by kernel_rfl)
 refine qa tok hT [0, 1, 7, 8] (St.mk [p 0 (L y89 a0), p 1 (AV.fn 181 [D y89.pt a1]), p 7 (I (↑a0.length : Int)), p 8 (I 0)] []) (by kernel_rfl) ?_
 refine vx_block <| ?_
 refine lx (fun (v0 : Int) => St.mk [p 0 (L y89 a0), p 1 (AV.fn 181 [D y89.pt a1]), p 7 (I (↑a0.length : Int)), p 8 (I v0)] []) 0 H (by kernel_rfl) fun _ g1 b1 e1 t1 v0 H => ?_
 refine qa tok hT [0, 1, 7, 8, 9] (St.mk [p 0 (L y89 a0), p 1 (AV.fn 181 [D y89.pt a1]), p 7 (I (↑a0.length : Int)), p 8 (I v0), p 9 (B (decide (v0 < (↑a0.length : Int))))] []) (by kernel_rfl) ?_
 refine vx_seq <| ?_
 refine cd H (by kernel_rfl) (fun H => ?_) (fun H => ?_)
 ·refine vx_skip <| fx_seq <| vx_seq <| vx_block <| ?_
  refine qa tok hT [0, 1, 5, 7, 8] (St.mk [p 0 (L y89 a0), p 1 (AV.fn 181 [D y89.pt a1]), p 5 (I v0), p 7 (I (↑a0.length : Int)), p 8 (I v0)] []) (by kernel_rfl) ?_
  refine qb tok hT [0, 1, 5, 7, 8, 16] (St.mk [p 0 (L y89 a0), p 1 (AV.fn 181 [D y89.pt a1]), p 5 (I v0), p 7 (I (↑a0.length : Int)), p 8 (I v0), p 16 (B (vl (u181 (a0.getD v0.toNat (dflt y89)) a1)))] []) H (by kernel_rfl) fun H => ?_
  refine cd H (by kernel_rfl) (fun H => ?_) (fun H => ?_)
  ·refine qa tok hT [4] (St.mk [p 4 (I v0)] []) (by kernel_rfl) ?_
   exact vx_ret <| fx_blk_ret <| fx_seq_ret <| t1 <| fx_blk_ret <| t0 <| hr H (by kernel_rfl)
  refine vx_skip <| fx_blk <| fx_seq <| ?_
  refine zb tok hT [0, 1, 7, 8] (St.mk [p 0 (L y89 a0), p 1 (AV.fn 181 [D y89.pt a1]), p 7 (I (↑a0.length : Int)), p 8 (I (v0 + 1))] []) H (by kernel_rfl) fun H => ?_
  exact b1 H (by kernel_rfl)
 exact vx_exit <| fx_seq_exit <| e1 <| fx_blk_exit rfl <| n0 H (by kernel_rfl)
def u180c181 (a0 : List Y89) (a1 : Y89) : Option (Bool) :=
 gd ((u200c181 a0 a1).isSome = true ∧ True) <| lt (vl (u200c181 a0 a1)) fun v0 =>
 some (decide (0 ≤ v0))
def k180c181 : Ct := lct 180 [.dat y89.sl, .fn 181 (.pt y89)] (fun x => u180c181 x.1 x.2.1) (fun r : Bool => B r) (fun _ => ())
theorem o180c181 : Ok Tryz.prog k180c181 := by
 refine okl tok [.tmp 4] Tryz.func180 Tryz.ntmps180 rfl Tryz.results180 (by kernel_rfl) rfl ?_
 intro y ⟨a0, a1, _⟩ r H Q hn hr
 have hT := tc o200c201 (tc o200c181 (tc o181 tn))
 refine qa tok hT [0, 1] (St.mk [p 0 (L y89 a0), p 1 (AV.fn 181 [D y89.pt a1])] []) (by kernel_rfl) ?_
 refine qd tok hT [4] (fun v0 => St.mk [p 4 (B (decide (0 ≤ v0)))] []) H (by kernel_rfl) fun v0 H => ?_
 exact vx_ret <| hr H (by kernel_rfl)
def u166J0 (a0 : Y152) : Unit → Option (Bool)
 | _ =>
 some (decide ((↑a0.2.2.2.1.length : Int) ≤ 8))
def u166L1 (a0 : Y152) (g1 : Int → Option (Bool)) : Int → Option (Bool)
 | v1 =>
 if (decide (v1 < (↑a0.2.2.2.1.length : Int))) = true then
  gd (ix v1 a0.2.2.2.1.length ∧ True) <| lt (a0.2.2.2.1.getD v1.toNat (dflt y89)) fun v2 =>
  gd ((u179 a0 v2).isSome = true ∧ ((!vl (u179 a0 v2)) = false ∧ True → (0 : Int) ≤ (0 : Int) ∧ (0 : Int) ≤ v1 ∧ v1 ≤ (↑a0.2.2.2.1.length : Int)) ∧ ((!vl (u179 a0 v2)) = false ∧ True → (u180c181 (List.take v1.toNat a0.2.2.2.1) v2).isSome = true) ∧ True) <| 
  if (!vl (u179 a0 v2) || vl (u180c181 (List.take v1.toNat a0.2.2.2.1) v2)) = true then
   some false
  else
   gd (in64 (v1 + 1) ∧ True) <| 
   g1 (v1 + 1)
 else
  u166J0 a0 ()
def u166 (a0 : Y152) : Option (Bool) :=
 lp (u166L1 a0) 0
def k166 : Ct := lct 166 [.agg y152] (fun x => u166 x.1) (fun r : Bool => B r) (fun _ => ())
theorem o166 : Ok Tryz.prog k166 := by
 refine okl tok [.tmp 2] Tryz.func166 Tryz.ntmps166 rfl Tryz.results166 (by kernel_rfl) rfl ?_
 intro y ⟨a0, _⟩ r H Q hn hr
 have hT := tc o180c201 (tc o180c181 (tc o181 (tc o179 tn)))
 refine qa tok hT [1] (St.mk [p 1 (AV.ptr 1 0)] [(1, Ob.box 152 (cellsD false y152 a0))]) (by kernel_rfl) ?_
 refine jn r (fun (_ : Unit) => St.mk [p 1 (AV.ptr 1 0)] [(1, Ob.box 152 (cellsD false y152 a0))]) (u166J0 a0) (fun _ H => ?_) (fun _ n0 e0 t0 => ?_)
 ·refine qa tok hT [2] (St.mk [p 2 (B (decide ((↑a0.2.2.2.1.length : Int) ≤ 8)))] [(1, Ob.box 152 (cellsD false y152 a0))]) (by kernel_rfl) ?_
  exact vx_ret <| hr H (by kernel_rfl)
 refine qa tok hT [1, 6, 7, 8] (St.mk [p 1 (AV.ptr 1 0), p 6 (L y89 a0.2.2.2.1), p 7 (I (↑a0.2.2.2.1.length : Int)), p 8 (I 0)] [(1, Ob.box 152 (cellsD false y152 a0))]) (by kernel_rfl) ?_
 refine vx_block <| ?_
 refine lx (fun (v1 : Int) => St.mk [p 1 (AV.ptr 1 0), p 6 (L y89 a0.2.2.2.1), p 7 (I (↑a0.2.2.2.1.length : Int)), p 8 (I v1)] [(1, Ob.box 152 (cellsD false y152 a0))]) 0 H (by kernel_rfl) fun _ g1 b1 e1 t1 v1 H => ?_
 refine qa tok hT [1, 6, 7, 8, 9] (St.mk [p 1 (AV.ptr 1 0), p 6 (L y89 a0.2.2.2.1), p 7 (I (↑a0.2.2.2.1.length : Int)), p 8 (I v1), p 9 (B (decide (v1 < (↑a0.2.2.2.1.length : Int))))] [(1, Ob.box 152 (cellsD false y152 a0))]) (by kernel_rfl) ?_
 refine vx_seq <| ?_
 refine cd H (by kernel_rfl) (fun H => ?_) (fun H => ?_)
 ·refine vx_skip <| fx_seq <| vx_seq <| vx_block <| ?_
  refine qd tok hT [1, 3, 4, 6, 7, 8] (fun v2 => St.mk [p 1 (AV.ptr 1 0), p 3 (I v1), p 4 (AV.ptr 4 0), p 6 (L y89 a0.2.2.2.1), p 7 (I (↑a0.2.2.2.1.length : Int)), p 8 (I v1)] [(4, Ob.box 89 (cellsD false y89 v2)), (1, Ob.box 152 (cellsD false y152 a0))]) H (by kernel_rfl) fun v2 H => ?_
  refine qb tok hT [1, 6, 7, 8, 18, 19, 20, 21, 22, 23, 24] (St.mk [p 1 (AV.ptr 1 0), p 6 (L y89 a0.2.2.2.1), p 7 (I (↑a0.2.2.2.1.length : Int)), p 8 (I v1), p 24 (B (!vl (u179 a0 v2) || vl (u180c181 (List.take v1.toNat a0.2.2.2.1) v2)))] [(4, Ob.box 89 (cellsD false y89 v2)), (1, Ob.box 152 (cellsD false y152 a0))]) H (by kernel_rfl) fun H => ?_
  refine cd H (by kernel_rfl) (fun H => ?_) (fun H => ?_)
  ·refine qa tok hT [2] (St.mk [p 2 (B false)] [(4, Ob.box 89 (cellsD false y89 v2)), (1, Ob.box 152 (cellsD false y152 a0))]) (by kernel_rfl) ?_
   exact vx_ret <| fx_blk_ret <| fx_seq_ret <| t1 <| fx_blk_ret <| t0 <| hr H (by kernel_rfl)
  refine vx_skip <| fx_blk <| fx_seq <| ?_
  refine zb tok hT [1, 6, 7, 8] (St.mk [p 1 (AV.ptr 1 0), p 6 (L y89 a0.2.2.2.1), p 7 (I (↑a0.2.2.2.1.length : Int)), p 8 (I (v1 + 1))] [(4, Ob.box 89 (cellsD false y89 v2)), (1, Ob.box 152 (cellsD false y152 a0))]) H (by kernel_rfl) fun H => ?_
  exact b1 H (by kernel_rfl)
 exact vx_exit <| fx_seq_exit <| e1 <| fx_blk_exit rfl <| n0 H (by kernel_rfl)
def u165J0 (a0 : List Y212) : List ByteArray → Option (Bool)
 | v6 =>
 gd ((u178 a0).isSome = true ∧ (u87 (vl (u178 a0)) 2 5).isSome = true ∧ (vl (u87 (vl (u178 a0)) 2 5) = true ∧ True → (u146 v6).isSome = true) ∧ True) <| 
 some (vl (u87 (vl (u178 a0)) 2 5) && vl (u146 v6))
def u165J2 (v3 : Int) (g1 : List ByteArray × Int → Option (Bool)) : List ByteArray → Option (Bool)
 | v5 =>
 gd (in64 (v3 + 1) ∧ True) <| 
 g1 (v5, v3 + 1)
def u165L1 (a0 : List Y212) (g1 : List ByteArray × Int → Option (Bool)) : List ByteArray × Int → Option (Bool)
 | (v2, v3) =>
 if (decide (v3 < (↑a0.length : Int))) = true then
  gd (ix v3 a0.length ∧ True) <| lt (a0.getD v3.toNat (dflt y212)) fun v4 =>
  gd ((v2.length + [v4.1].length ≤ 9223372036854775807 ∧ (v2.length + [v4.1].length) * 16 ≤ 140737488355328) ∧ True) <| 
  gd (in64 ((↑a0.length : Int) - 1) ∧ True) <| 
  if (v3 == (↑a0.length : Int) - 1) = true then
   if (v4.2.1 != 2 || v4.2.2.1 != 0 || v4.2.2.2) = true then
    some false
   else
    u165J2 v3 g1 (v2 ++ [v4.1])
  else
   gd (((v4.2.1 != 1) = false ∧ True → (u87 v4.2.2.1 0 500).isSome = true) ∧ True) <| 
   if (v4.2.1 != 1 || !vl (u87 v4.2.2.1 0 500)) = true then
    some false
   else
    u165J2 v3 g1 (v2 ++ [v4.1])
 else
  u165J0 a0 v2
def u165 (a0 : List Y212) : Option (Bool) :=
 lp (u165L1 a0) ([], 0)
def k165 : Ct := lct 165 [.dat y212.sl] (fun x => u165 x.1) (fun r : Bool => B r) (fun _ => ())
theorem o165 : Ok Tryz.prog k165 := by
 refine okl tok [.tmp 2] Tryz.func165 Tryz.ntmps165 rfl Tryz.results165 (by kernel_rfl) rfl ?_
 intro y ⟨a0, _⟩ r H Q hn hr
 have hT := tc o146 (tc o87 (tc o178 tn))
 refine qa tok hT [0] (St.mk [p 0 (L y212 a0)] []) (by kernel_rfl) ?_
 refine qa tok hT [0, 3] (St.mk [p 0 (L y212 a0), p 3 (AV.v (Value.slice none 0 0))] []) (by kernel_rfl) ?_
 refine jn r (fun (v6 : List ByteArray) => St.mk [p 0 (L y212 a0), p 3 (AV.os 17 0)] [(17, Ob.arr 9 true Ty.str v6 0)]) (u165J0 a0) (fun v6 H => ?_) (fun _ n0 e0 t0 => ?_)
 ·refine qb tok hT [2] (St.mk [p 2 (B (vl (u87 (vl (u178 a0)) 2 5) && vl (u146 v6)))] [(17, Ob.arr 9 true Ty.str v6 0)]) H (by kernel_rfl) fun H => ?_
  exact vx_ret <| hr H (by kernel_rfl)
 refine qa tok hT [0, 3, 6, 7, 8] (St.mk [p 0 (L y212 a0), p 3 (AV.v (Value.slice none 0 0)), p 6 (L y212 a0), p 7 (I (↑a0.length : Int)), p 8 (I 0)] []) (by kernel_rfl) ?_
 refine vx_block <| ?_
 refine lx (fun ((v2, v3) : List ByteArray × Int) => St.mk [p 0 (L y212 a0), p 3 (AV.os 17 0), p 6 (L y212 a0), p 7 (I (↑a0.length : Int)), p 8 (I v3)] [(17, Ob.arr 9 true Ty.str v2 0)]) ([], 0) H (by kernel_rfl) fun _ g1 b1 e1 t1 ⟨v2, v3⟩ H => ?_
 refine qa tok hT [0, 3, 6, 7, 8, 9] (St.mk [p 0 (L y212 a0), p 3 (AV.os 17 0), p 6 (L y212 a0), p 7 (I (↑a0.length : Int)), p 8 (I v3), p 9 (B (decide (v3 < (↑a0.length : Int))))] [(17, Ob.arr 9 true Ty.str v2 0)]) (by kernel_rfl) ?_
 refine vx_seq <| ?_
 refine cd H (by kernel_rfl) (fun H => ?_) (fun H => ?_)
 ·refine vx_skip <| fx_seq <| ?_
  refine jn r (fun (v5 : List ByteArray) => St.mk [p 0 (L y212 a0), p 3 (AV.os 17 0), p 6 (L y212 a0), p 7 (I (↑a0.length : Int)), p 8 (I v3)] [(17, Ob.arr 9 true Ty.str v5 0)]) (u165J2 v3 g1) (fun v5 H => ?_) (fun _ n2 e2 t2 => ?_)
  ·refine zb tok hT [0, 3, 6, 7, 8] (St.mk [p 0 (L y212 a0), p 3 (AV.os 17 0), p 6 (L y212 a0), p 7 (I (↑a0.length : Int)), p 8 (I (v3 + 1))] [(17, Ob.arr 9 true Ty.str v5 0)]) H (by kernel_rfl) fun H => ?_
   exact b1 H (by kernel_rfl)
  refine vx_block <| ?_
  refine qd tok hT [0, 3, 4, 5, 6, 7, 8] (fun v4 => St.mk [p 0 (L y212 a0), p 3 (AV.os 17 0), p 4 (I v3), p 5 (AV.ptr 5 0), p 6 (L y212 a0), p 7 (I (↑a0.length : Int)), p 8 (I v3)] [(5, Ob.box 212 (cellsD false y212 v4)), (17, Ob.arr 9 true Ty.str v2 0)]) H (by kernel_rfl) fun v4 H => ?_
  refine qb tok hT [0, 3, 4, 5, 6, 7, 8] (St.mk [p 0 (L y212 a0), p 3 (AV.os 17 1), p 4 (I v3), p 5 (AV.ptr 5 0), p 6 (L y212 a0), p 7 (I (↑a0.length : Int)), p 8 (I v3)] [(17, Ob.arr 9 true Ty.str (v2 ++ [v4.1]) 1), (16, Ob.arr 9 true Ty.str [v4.1] 0), (5, Ob.box 212 (cellsD false y212 v4))]) H (by kernel_rfl) fun H => ?_
  refine qb tok hT [0, 3, 5, 6, 7, 8, 22] (St.mk [p 0 (L y212 a0), p 3 (AV.os 17 1), p 5 (AV.ptr 5 0), p 6 (L y212 a0), p 7 (I (↑a0.length : Int)), p 8 (I v3), p 22 (B (v3 == (↑a0.length : Int) - 1))] [(17, Ob.arr 9 true Ty.str (v2 ++ [v4.1]) 1), (16, Ob.arr 9 true Ty.str [v4.1] 0), (5, Ob.box 212 (cellsD false y212 v4))]) H (by kernel_rfl) fun H => ?_
  refine cd H (by kernel_rfl) (fun H => ?_) (fun H => ?_)
  ·refine qa tok hT [0, 3, 6, 7, 8, 27, 28, 29, 32, 33, 34] (St.mk [p 0 (L y212 a0), p 3 (AV.os 17 1), p 6 (L y212 a0), p 7 (I (↑a0.length : Int)), p 8 (I v3), p 34 (B (v4.2.1 != 2 || v4.2.2.1 != 0 || v4.2.2.2))] [(17, Ob.arr 9 true Ty.str (v2 ++ [v4.1]) 1), (16, Ob.arr 9 true Ty.str [v4.1] 0), (5, Ob.box 212 (cellsD false y212 v4))]) (by kernel_rfl) ?_
   refine cd H (by kernel_rfl) (fun H => ?_) (fun H => ?_)
   ·refine qa tok hT [2] (St.mk [p 2 (B false)] [(17, Ob.arr 9 true Ty.str (v2 ++ [v4.1]) 1), (16, Ob.arr 9 true Ty.str [v4.1] 0), (5, Ob.box 212 (cellsD false y212 v4))]) (by kernel_rfl) ?_
    exact vx_ret <| fx_blk_ret <| t2 <| t1 <| fx_blk_ret <| t0 <| hr H (by kernel_rfl)
   exact vx_skip <| fx_blk <| n2 H (by kernel_rfl)
  refine qb tok hT [0, 3, 6, 7, 8, 39, 40, 41, 42, 43] (St.mk [p 0 (L y212 a0), p 3 (AV.os 17 1), p 6 (L y212 a0), p 7 (I (↑a0.length : Int)), p 8 (I v3), p 43 (B (v4.2.1 != 1 || !vl (u87 v4.2.2.1 0 500)))] [(17, Ob.arr 9 true Ty.str (v2 ++ [v4.1]) 1), (16, Ob.arr 9 true Ty.str [v4.1] 0), (5, Ob.box 212 (cellsD false y212 v4))]) H (by kernel_rfl) fun H => ?_
  refine cd H (by kernel_rfl) (fun H => ?_) (fun H => ?_)
  ·refine qa tok hT [2] (St.mk [p 2 (B false)] [(17, Ob.arr 9 true Ty.str (v2 ++ [v4.1]) 1), (16, Ob.arr 9 true Ty.str [v4.1] 0), (5, Ob.box 212 (cellsD false y212 v4))]) (by kernel_rfl) ?_
   exact vx_ret <| fx_blk_ret <| t2 <| t1 <| fx_blk_ret <| t0 <| hr H (by kernel_rfl)
  exact vx_skip <| fx_blk <| n2 H (by kernel_rfl)
 exact vx_exit <| fx_seq_exit <| e1 <| fx_blk_exit rfl <| n0 H (by kernel_rfl)
def u145 (a0 : Y152) : Option (Bool) :=
 gd ((u164 a0.1).isSome = true ∧ (vl (u164 a0.1) = true ∧ True → (u165 a0.2.2.1).isSome = true) ∧ ((vl (u164 a0.1) && vl (u165 a0.2.2.1)) = true ∧ True → (u166 a0).isSome = true) ∧ ((vl (u164 a0.1) && vl (u165 a0.2.2.1) && vl (u166 a0)) = true ∧ True → (u87 a0.2.2.2.2.2.1 0 100000).isSome = true) ∧ ((vl (u164 a0.1) && vl (u165 a0.2.2.1) && vl (u166 a0) && vl (u87 a0.2.2.2.2.2.1 0 100000)) = true ∧ True → (u87 a0.2.2.2.2.2.2 0 100000).isSome = true) ∧ ((vl (u164 a0.1) && vl (u165 a0.2.2.1) && vl (u166 a0) && vl (u87 a0.2.2.2.2.2.1 0 100000) && vl (u87 a0.2.2.2.2.2.2 0 100000)) = true ∧ True → (u167 a0).isSome = true) ∧ True) <| 
 some (vl (u164 a0.1) && vl (u165 a0.2.2.1) && vl (u166 a0) && vl (u87 a0.2.2.2.2.2.1 0 100000) && vl (u87 a0.2.2.2.2.2.2 0 100000) && vl (u167 a0))
def k145 : Ct := lct 145 [.agg y152] (fun x => u145 x.1) (fun r : Bool => B r) (fun _ => ())
theorem o145 : Ok Tryz.prog k145 := by
 refine okl tok [.tmp 2] Tryz.func145 Tryz.ntmps145 rfl Tryz.results145 (by kernel_rfl) rfl ?_
 intro y ⟨a0, _⟩ r H Q hn hr
 have hT := tc o167 (tc o87 (tc o166 (tc o165 (tc o164 tn))))
 refine qa tok hT [1] (St.mk [p 1 (AV.ptr 1 0)] [(1, Ob.box 152 (cellsD false y152 a0))]) (by kernel_rfl) ?_
 refine qb tok hT [2] (St.mk [p 2 (B (vl (u164 a0.1) && vl (u165 a0.2.2.1) && vl (u166 a0) && vl (u87 a0.2.2.2.2.2.1 0 100000) && vl (u87 a0.2.2.2.2.2.2 0 100000) && vl (u167 a0)))] [(1, Ob.box 152 (cellsD false y152 a0))]) H (by kernel_rfl) fun H => ?_
 exact vx_ret <| hr H (by kernel_rfl)
def u120J0 (a0 : List Y152) : List ByteArray → Option (Bool)
 | v4 =>
 gd ((decide ((↑a0.length : Int) ≤ 8) = true ∧ True → (u146 v4).isSome = true) ∧ True) <| 
 some (decide ((↑a0.length : Int) ≤ 8) && vl (u146 v4))
def u120L1 (a0 : List Y152) (g1 : List ByteArray × Int → Option (Bool)) : List ByteArray × Int → Option (Bool)
 | (v1, v2) =>
 if (decide (v2 < (↑a0.length : Int))) = true then
  gd (ix v2 a0.length ∧ True) <| lt (a0.getD v2.toNat (dflt y152)) fun v3 =>
  gd ((u145 v3).isSome = true ∧ True) <| 
  if (!vl (u145 v3)) = true then
   some false
  else
   gd ((v1.length + [v3.1].length ≤ 9223372036854775807 ∧ (v1.length + [v3.1].length) * 16 ≤ 140737488355328) ∧ True) <| 
   gd (in64 (v2 + 1) ∧ True) <| 
   g1 (v1 ++ [v3.1], v2 + 1)
 else
  u120J0 a0 v1
def u120 (a0 : List Y152) : Option (Bool) :=
 lp (u120L1 a0) ([], 0)
def k120 : Ct := lct 120 [.agg y152.sl] (fun x => u120 x.1) (fun r : Bool => B r) (fun _ => ())
theorem o120 : Ok Tryz.prog k120 := by
 refine okl tok [.tmp 2] Tryz.func120 Tryz.ntmps120 rfl Tryz.results120 (by kernel_rfl) rfl ?_
 intro y ⟨a0, _⟩ r H Q hn hr
 have hT := tc o146 (tc o145 tn)
 refine qa tok hT [1] (St.mk [p 1 (AV.ptr 1 0)] [(1, Ob.box 37 [L y152 a0])]) (by kernel_rfl) ?_
 refine qa tok hT [1, 3] (St.mk [p 1 (AV.ptr 1 0), p 3 (AV.v (Value.slice none 0 0))] [(1, Ob.box 37 [L y152 a0])]) (by kernel_rfl) ?_
 refine jn r (fun (v4 : List ByteArray) => St.mk [p 1 (AV.ptr 1 0), p 3 (AV.os 20 0)] [(1, Ob.box 37 [L y152 a0]), (20, Ob.arr 9 true Ty.str v4 0)]) (u120J0 a0) (fun v4 H => ?_) (fun _ n0 e0 t0 => ?_)
 ·refine qb tok hT [2] (St.mk [p 2 (B (decide ((↑a0.length : Int) ≤ 8) && vl (u146 v4)))] [(1, Ob.box 37 [L y152 a0]), (20, Ob.arr 9 true Ty.str v4 0)]) H (by kernel_rfl) fun H => ?_
  exact vx_ret <| hr H (by kernel_rfl)
 refine qa tok hT [1, 3, 7, 8, 9] (St.mk [p 1 (AV.ptr 1 0), p 3 (AV.v (Value.slice none 0 0)), p 7 (L y152 a0), p 8 (I (↑a0.length : Int)), p 9 (I 0)] [(1, Ob.box 37 [L y152 a0])]) (by kernel_rfl) ?_
 refine vx_block <| ?_
 refine lx (fun ((v1, v2) : List ByteArray × Int) => St.mk [p 1 (AV.ptr 1 0), p 3 (AV.os 20 0), p 7 (L y152 a0), p 8 (I (↑a0.length : Int)), p 9 (I v2)] [(1, Ob.box 37 [L y152 a0]), (20, Ob.arr 9 true Ty.str v1 0)]) ([], 0) H (by kernel_rfl) fun _ g1 b1 e1 t1 ⟨v1, v2⟩ H => ?_
 refine qa tok hT [1, 3, 7, 8, 9, 10] (St.mk [p 1 (AV.ptr 1 0), p 3 (AV.os 20 0), p 7 (L y152 a0), p 8 (I (↑a0.length : Int)), p 9 (I v2), p 10 (B (decide (v2 < (↑a0.length : Int))))] [(1, Ob.box 37 [L y152 a0]), (20, Ob.arr 9 true Ty.str v1 0)]) (by kernel_rfl) ?_
 refine vx_seq <| ?_
 refine cd H (by kernel_rfl) (fun H => ?_) (fun H => ?_)
 ·refine vx_skip <| fx_seq <| vx_seq <| vx_block <| ?_
  refine qd tok hT [1, 3, 5, 7, 8, 9] (fun v3 => St.mk [p 1 (AV.ptr 1 0), p 3 (AV.os 20 0), p 5 (AV.ptr 5 0), p 7 (L y152 a0), p 8 (I (↑a0.length : Int)), p 9 (I v2)] [(5, Ob.box 152 (cellsD false y152 v3)), (1, Ob.box 37 [L y152 a0]), (20, Ob.arr 9 true Ty.str v1 0)]) H (by kernel_rfl) fun v3 H => ?_
  refine vx_seq <| ?_
  refine qb tok hT [1, 3, 5, 7, 8, 9, 15] (St.mk [p 1 (AV.ptr 1 0), p 3 (AV.os 20 0), p 5 (AV.ptr 5 0), p 7 (L y152 a0), p 8 (I (↑a0.length : Int)), p 9 (I v2), p 15 (B !vl (u145 v3))] [(5, Ob.box 152 (cellsD false y152 v3)), (1, Ob.box 37 [L y152 a0]), (20, Ob.arr 9 true Ty.str v1 0)]) H (by kernel_rfl) fun H => ?_
  refine cd H (by kernel_rfl) (fun H => ?_) (fun H => ?_)
  ·refine qa tok hT [2] (St.mk [p 2 (B false)] [(5, Ob.box 152 (cellsD false y152 v3)), (1, Ob.box 37 [L y152 a0]), (20, Ob.arr 9 true Ty.str v1 0)]) (by kernel_rfl) ?_
   exact vx_ret <| fx_seq_ret <| fx_blk_ret <| fx_seq_ret <| t1 <| fx_blk_ret <| t0 <| hr H (by kernel_rfl)
  refine vx_skip <| fx_seq <| ?_
  refine zb tok hT [1, 3, 7, 8, 9] (St.mk [p 1 (AV.ptr 1 0), p 3 (AV.os 20 1), p 7 (L y152 a0), p 8 (I (↑a0.length : Int)), p 9 (I v2)] [(20, Ob.arr 9 true Ty.str (v1 ++ [v3.1]) 1), (19, Ob.arr 9 true Ty.str [v3.1] 0), (5, Ob.box 152 (cellsD false y152 v3)), (1, Ob.box 37 [L y152 a0])]) H (by kernel_rfl) fun H => ?_
  refine fx_blk <| fx_seq <| ?_
  refine zb tok hT [1, 3, 7, 8, 9] (St.mk [p 1 (AV.ptr 1 0), p 3 (AV.os 20 1), p 7 (L y152 a0), p 8 (I (↑a0.length : Int)), p 9 (I (v2 + 1))] [(20, Ob.arr 9 true Ty.str (v1 ++ [v3.1]) 1), (19, Ob.arr 9 true Ty.str [v3.1] 0), (5, Ob.box 152 (cellsD false y152 v3)), (1, Ob.box 37 [L y152 a0])]) H (by kernel_rfl) fun H => ?_
  exact b1 H (by kernel_rfl)
 exact vx_exit <| fx_seq_exit <| e1 <| fx_blk_exit rfl <| n0 H (by kernel_rfl)
def u151c125J0 : Unit → Option (Int)
 | _ =>
 some (-1)
def u151c125L1 (a0 : List Int) (g1 : Int → Option (Int)) : Int → Option (Int)
 | v0 =>
 if (decide (v0 < (↑a0.length : Int))) = true then
  gd (ix v0 a0.length ∧ (u125 (a0.getD v0.toNat 0)).isSome = true ∧ True) <| 
  if (vl (u125 (a0.getD v0.toNat 0))) = true then
   some v0
  else
   gd (in64 (v0 + 1) ∧ True) <| 
   g1 (v0 + 1)
 else
  u151c125J0 ()
def u151c125 (a0 : List Int) : Option (Int) :=
 lp (u151c125L1 a0) 0
def k151c125 : Ct := lct 151 [.dat i64.sl, .nof 125] (fun x => u151c125 x.1) (fun r : Int => I r) (fun _ => ())
theorem o151c125 : Ok Tryz.prog k151c125 := by
 refine okl tok [.tmp 4] Tryz.func151 Tryz.ntmps151 rfl Tryz.results151 (by kernel_rfl) rfl ?_
 intro y ⟨a0, _, _⟩ r H Q hn hr
 have hT := tc o125 tn
 refine qa tok hT [0, 1] (St.mk [p 0 (L i64 a0), p 1 (AV.fn 125 [])] []) (by kernel_rfl) ?_
 refine jn r (fun (_ : Unit) => St.mk [] []) (u151c125J0) (fun _ H => ?_) (fun _ n0 e0 t0 => ?_)
 ·refine qa tok hT [4] (St.mk [p 4 (I (-1))] []) (by kernel_rfl) ?_
  exact vx_ret <| hr H (by kernel_rfl)
 refine qa tok hT [0, 1, 7, 8] (St.mk [p 0 (L i64 a0), p 1 (AV.fn 125 []), p 7 (I (↑a0.length : Int)), p 8 (I 0)] []) (by kernel_rfl) ?_
 refine vx_block <| ?_
 refine lx (fun (v0 : Int) => St.mk [p 0 (L i64 a0), p 1 (AV.fn 125 []), p 7 (I (↑a0.length : Int)), p 8 (I v0)] []) 0 H (by kernel_rfl) fun _ g1 b1 e1 t1 v0 H => ?_
 refine qa tok hT [0, 1, 7, 8, 9] (St.mk [p 0 (L i64 a0), p 1 (AV.fn 125 []), p 7 (I (↑a0.length : Int)), p 8 (I v0), p 9 (B (decide (v0 < (↑a0.length : Int))))] []) (by kernel_rfl) ?_
 refine vx_seq <| ?_
 refine cd H (by kernel_rfl) (fun H => ?_) (fun H => ?_)
 ·refine vx_skip <| fx_seq <| vx_seq <| vx_block <| ?_
  refine qa tok hT [0, 1, 5, 7, 8] (St.mk [p 0 (L i64 a0), p 1 (AV.fn 125 []), p 5 (I v0), p 7 (I (↑a0.length : Int)), p 8 (I v0)] []) (by kernel_rfl) ?_
  refine qb tok hT [0, 1, 5, 7, 8, 16] (St.mk [p 0 (L i64 a0), p 1 (AV.fn 125 []), p 5 (I v0), p 7 (I (↑a0.length : Int)), p 8 (I v0), p 16 (B (vl (u125 (a0.getD v0.toNat 0))))] []) H (by kernel_rfl) fun H => ?_
  refine cd H (by kernel_rfl) (fun H => ?_) (fun H => ?_)
  ·refine qa tok hT [4] (St.mk [p 4 (I v0)] []) (by kernel_rfl) ?_
   exact vx_ret <| fx_blk_ret <| fx_seq_ret <| t1 <| fx_blk_ret <| t0 <| hr H (by kernel_rfl)
  refine vx_skip <| fx_blk <| fx_seq <| ?_
  refine zb tok hT [0, 1, 7, 8] (St.mk [p 0 (L i64 a0), p 1 (AV.fn 125 []), p 7 (I (↑a0.length : Int)), p 8 (I (v0 + 1))] []) H (by kernel_rfl) fun H => ?_
  exact b1 H (by kernel_rfl)
 exact vx_exit <| fx_seq_exit <| e1 <| fx_blk_exit rfl <| n0 H (by kernel_rfl)
def u124c125 (a0 : List Int) : Option (Bool) :=
 gd ((u151c125 a0).isSome = true ∧ True) <| lt (vl (u151c125 a0)) fun v0 =>
 some (decide (0 ≤ v0))
def k124c125 : Ct := lct 124 [.dat i64.sl, .nof 125] (fun x => u124c125 x.1) (fun r : Bool => B r) (fun _ => ())
theorem o124c125 : Ok Tryz.prog k124c125 := by
 refine okl tok [.tmp 4] Tryz.func124 Tryz.ntmps124 rfl Tryz.results124 (by kernel_rfl) rfl ?_
 intro y ⟨a0, _, _⟩ r H Q hn hr
 have hT := tc o151c125 (tc o125 tn)
 refine qa tok hT [0, 1] (St.mk [p 0 (L i64 a0), p 1 (AV.fn 125 [])] []) (by kernel_rfl) ?_
 refine qd tok hT [4] (fun v0 => St.mk [p 4 (B (decide (0 ≤ v0)))] []) H (by kernel_rfl) fun v0 H => ?_
 exact vx_ret <| hr H (by kernel_rfl)
def u78J2 : List Int → Option (Bool)
 | v13 =>
 gd ((u124c125 v13).isSome = true ∧ True) <| 
 some (!vl (u124c125 v13))
def u78J4 (v9 : Int) (g3 : Int × List Int → Option (Bool)) : List Int → Option (Bool)
 | v12 =>
 gd (in64 (v9 + 1) ∧ True) <| 
 g3 (v9 + 1, v12)
def u78L3 (a1 : Y41) (g3 : Int × List Int → Option (Bool)) : Int × List Int → Option (Bool)
 | (v9, v10) =>
 if (decide (v9 < (↑a1.2.2.length : Int))) = true then
  gd (ix v9 a1.2.2.length ∧ True) <| lt (a1.2.2.getD v9.toNat (dflt y143)) fun v11 =>
  gd (((v11.2.1 != 1 && v11.2.1 != 2) = false ∧ True → (u123 a1 v11.2.2).isSome = true) ∧ True) <| 
  if (v11.2.1 != 1 && v11.2.1 != 2 || !vl (u123 a1 v11.2.2)) = true then
   some false
  else
   if (v11.2.1 == 1) = true then
    gd (ix v11.2.2 v10.length ∧ v11.2.2.toNat < v10.length ∧ in64 (v10.getD v11.2.2.toNat 0 + 1) ∧ ix v11.2.2 v10.length ∧ v11.2.2.toNat < v10.length ∧ True) <| 
    u78J4 v9 g3 (v10.set v11.2.2.toNat (v10.getD v11.2.2.toNat 0 + 1))
   else
    u78J4 v9 g3 v10
 else
  u78J2 v10
def u78J0 (a1 : Y41) : List Int → Option (Bool)
 | v6 =>
 lp (u78L3 a1) (0, v6)
def u78L1 (a1 : Y41) (a0 : List Y152) (g1 : Int × List Int → Option (Bool)) : Int × List Int → Option (Bool)
 | (v2, v3) =>
 if (decide (v2 < (↑a1.1.length : Int))) = true then
  gd (ix v2 a1.1.length ∧ True) <| lt (a1.1.getD v2.toNat (dflt y141)) fun v4 =>
  gd ((u122 a1 a0 v4).isSome = true ∧ True) <| 
  if (!vl (u122 a1 a0 v4)) = true then
   some false
  else
   gd (in64 ((↑v4.2.2.length : Int) - 1) ∧ ix ((↑v4.2.2.length : Int) - 1) v4.2.2.length ∧ ix (v4.2.2.getD ((↑v4.2.2.length : Int) - 1).toNat 0) v3.length ∧ Int.toNat (v4.2.2.getD ((↑v4.2.2.length : Int) - 1).toNat 0) < v3.length ∧ in64 (v3.getD (Int.toNat (v4.2.2.getD ((↑v4.2.2.length : Int) - 1).toNat 0)) 0 + 1) ∧ ix (v4.2.2.getD ((↑v4.2.2.length : Int) - 1).toNat 0) v3.length ∧ Int.toNat (v4.2.2.getD ((↑v4.2.2.length : Int) - 1).toNat 0) < v3.length ∧ True) <| lt (v3.set (Int.toNat (v4.2.2.getD ((↑v4.2.2.length : Int) - 1).toNat 0)) (v3.getD (Int.toNat (v4.2.2.getD ((↑v4.2.2.length : Int) - 1).toNat 0)) 0 + 1)) fun v5 =>
   gd (in64 (v2 + 1) ∧ True) <| 
   g1 (v2 + 1, v5)
 else
  u78J0 a1 v3
def u78 (a0 : List Y152) (a1 : Y41) : Option (Bool) :=
 gd ((u120 a0).isSome = true ∧ ((!vl (u120 a0)) = false ∧ True → (u121 a1).isSome = true) ∧ True) <| 
 if (!vl (u120 a0) || !vl (u121 a1)) = true then
  some false
 else
  gd ((0 ≤ (↑a1.2.1.length : Int) ∧ (↑a1.2.1.length : Int) = (↑a1.2.1.length : Int) ∧ (↑a1.2.1.length : Int).toNat * 8 ≤ 281474976710656 ∧ (↑a1.2.1.length : Int) ≤ 9223372036854775807) ∧ True) <| 
  lp (u78L1 a1 a0) ((0, List.replicate (↑a1.2.1.length : Int).toNat 0))
def k78 : Ct := lct 78 [.agg y152.sl, .agg y41] (fun x => u78 x.1 x.2.1) (fun r : Bool => B r) (fun _ => ())
theorem o78 : Ok Tryz.prog k78 := by
 refine okl tok [.tmp 4] Tryz.func78 Tryz.ntmps78 rfl Tryz.results78 (by kernel_rfl) rfl ?_
 intro y ⟨a0, a1, _⟩ r H Q hn hr
 have hT := tc o125 (tc o124c125 (tc o123 (tc o122 (tc o121 (tc o120 tn)))))
 refine qa tok hT [2, 3] (St.mk [p 2 (AV.ptr 2 0), p 3 (AV.ptr 3 0)] [(3, Ob.box 41 (cellsD false y41 a1)), (2, Ob.box 37 [L y152 a0])]) (by kernel_rfl) ?_
 refine vx_seq <| ?_
 refine qb tok hT [2, 3, 17] (St.mk [p 2 (AV.ptr 2 0), p 3 (AV.ptr 3 0), p 17 (B (!vl (u120 a0) || !vl (u121 a1)))] [(3, Ob.box 41 (cellsD false y41 a1)), (2, Ob.box 37 [L y152 a0])]) H (by kernel_rfl) fun H => ?_
 refine cd H (by kernel_rfl) (fun H => ?_) (fun H => ?_)
 ·refine qa tok hT [4] (St.mk [p 4 (B false)] [(3, Ob.box 41 (cellsD false y41 a1)), (2, Ob.box 37 [L y152 a0])]) (by kernel_rfl) ?_
  exact vx_ret <| fx_seq_ret <| hr H (by kernel_rfl)
 refine vx_skip <| fx_seq <| ?_
 refine qb tok hT [2, 3, 5] (St.mk [p 2 (AV.ptr 2 0), p 3 (AV.ptr 3 0), p 5 (AV.os 21 0)] [(21, Ob.arr 3 true i64 (List.replicate (↑a1.2.1.length : Int).toNat 0) 0), (3, Ob.box 41 (cellsD false y41 a1)), (2, Ob.box 37 [L y152 a0])]) H (by kernel_rfl) fun H => ?_
 refine jn r (fun (v6 : List Int) => St.mk [p 3 (AV.ptr 3 0), p 5 (AV.os 21 0)] [(21, Ob.arr 3 true i64 v6 0), (3, Ob.box 41 (cellsD false y41 a1))]) (u78J0 a1) (fun v6 H => ?_) (fun _ n0 e0 t0 => ?_)
 ·refine jn r (fun (v13 : List Int) => St.mk [p 5 (AV.os 21 0)] [(21, Ob.arr 3 true i64 v13 0)]) (u78J2) (fun v13 H => ?_) (fun _ n2 e2 t2 => ?_)
  ·refine qb tok hT [4] (St.mk [p 4 (B !vl (u124c125 v13))] [(21, Ob.arr 3 true i64 v13 0)]) H (by kernel_rfl) fun H => ?_
   exact vx_ret <| hr H (by kernel_rfl)
  refine qa tok hT [3, 5, 49, 50, 51] (St.mk [p 3 (AV.ptr 3 0), p 5 (AV.os 21 0), p 49 (L y143 a1.2.2), p 50 (I (↑a1.2.2.length : Int)), p 51 (I 0)] [(21, Ob.arr 3 true i64 v6 0), (3, Ob.box 41 (cellsD false y41 a1))]) (by kernel_rfl) ?_
  refine vx_block <| ?_
  refine lx (fun ((v9, v10) : Int × List Int) => St.mk [p 3 (AV.ptr 3 0), p 5 (AV.os 21 0), p 49 (L y143 a1.2.2), p 50 (I (↑a1.2.2.length : Int)), p 51 (I v9)] [(21, Ob.arr 3 true i64 v10 0), (3, Ob.box 41 (cellsD false y41 a1))]) (0, v6) H (by kernel_rfl) fun _ g3 b3 e3 t3 ⟨v9, v10⟩ H => ?_
  refine qa tok hT [3, 5, 49, 50, 51, 52] (St.mk [p 3 (AV.ptr 3 0), p 5 (AV.os 21 0), p 49 (L y143 a1.2.2), p 50 (I (↑a1.2.2.length : Int)), p 51 (I v9), p 52 (B (decide (v9 < (↑a1.2.2.length : Int))))] [(21, Ob.arr 3 true i64 v10 0), (3, Ob.box 41 (cellsD false y41 a1))]) (by kernel_rfl) ?_
  refine vx_seq <| ?_
  refine cd H (by kernel_rfl) (fun H => ?_) (fun H => ?_)
  ·refine vx_skip <| fx_seq <| ?_
   refine jn r (fun (v12 : List Int) => St.mk [p 3 (AV.ptr 3 0), p 5 (AV.os 21 0), p 49 (L y143 a1.2.2), p 50 (I (↑a1.2.2.length : Int)), p 51 (I v9)] [(21, Ob.arr 3 true i64 v12 0), (3, Ob.box 41 (cellsD false y41 a1))]) (u78J4 v9 g3) (fun v12 H => ?_) (fun _ n4 e4 t4 => ?_)
   ·refine zb tok hT [3, 5, 49, 50, 51] (St.mk [p 3 (AV.ptr 3 0), p 5 (AV.os 21 0), p 49 (L y143 a1.2.2), p 50 (I (↑a1.2.2.length : Int)), p 51 (I (v9 + 1))] [(21, Ob.arr 3 true i64 v12 0), (3, Ob.box 41 (cellsD false y41 a1))]) H (by kernel_rfl) fun H => ?_
    exact b3 H (by kernel_rfl)
   refine vx_block <| ?_
   refine qd tok hT [3, 5, 9, 49, 50, 51] (fun v11 => St.mk [p 3 (AV.ptr 3 0), p 5 (AV.os 21 0), p 9 (AV.ptr 9 0), p 49 (L y143 a1.2.2), p 50 (I (↑a1.2.2.length : Int)), p 51 (I v9)] [(9, Ob.box 143 (cellsD false y143 v11)), (21, Ob.arr 3 true i64 v10 0), (3, Ob.box 41 (cellsD false y41 a1))]) H (by kernel_rfl) fun v11 H => ?_
   refine vx_seq <| ?_
   refine qb tok hT [3, 5, 9, 49, 50, 51, 59, 60, 61, 64, 65, 66, 67, 68, 69] (St.mk [p 3 (AV.ptr 3 0), p 5 (AV.os 21 0), p 9 (AV.ptr 9 0), p 49 (L y143 a1.2.2), p 50 (I (↑a1.2.2.length : Int)), p 51 (I v9), p 69 (B (v11.2.1 != 1 && v11.2.1 != 2 || !vl (u123 a1 v11.2.2)))] [(9, Ob.box 143 (cellsD false y143 v11)), (21, Ob.arr 3 true i64 v10 0), (3, Ob.box 41 (cellsD false y41 a1))]) H (by kernel_rfl) fun H => ?_
   refine cd H (by kernel_rfl) (fun H => ?_) (fun H => ?_)
   ·refine qa tok hT [4] (St.mk [p 4 (B false)] [(9, Ob.box 143 (cellsD false y143 v11)), (21, Ob.arr 3 true i64 v10 0), (3, Ob.box 41 (cellsD false y41 a1))]) (by kernel_rfl) ?_
    exact vx_ret <| fx_seq_ret <| fx_blk_ret <| t4 <| t3 <| fx_blk_ret <| t2 <| hr H (by kernel_rfl)
   refine vx_skip <| fx_seq <| ?_
   refine qa tok hT [3, 5, 9, 49, 50, 51, 72] (St.mk [p 3 (AV.ptr 3 0), p 5 (AV.os 21 0), p 9 (AV.ptr 9 0), p 49 (L y143 a1.2.2), p 50 (I (↑a1.2.2.length : Int)), p 51 (I v9), p 72 (B (v11.2.1 == 1))] [(9, Ob.box 143 (cellsD false y143 v11)), (21, Ob.arr 3 true i64 v10 0), (3, Ob.box 41 (cellsD false y41 a1))]) (by kernel_rfl) ?_
   refine cd H (by kernel_rfl) (fun H => ?_) (fun H => ?_)
   ·refine zb tok hT [3, 5, 49, 50, 51] (St.mk [p 3 (AV.ptr 3 0), p 5 (AV.os 21 0), p 49 (L y143 a1.2.2), p 50 (I (↑a1.2.2.length : Int)), p 51 (I v9)] [(21, Ob.arr 3 true i64 (v10.set v11.2.2.toNat (v10.getD v11.2.2.toNat 0 + 1)) 0), (9, Ob.box 143 (cellsD false y143 v11)), (3, Ob.box 41 (cellsD false y41 a1))]) H (by kernel_rfl) fun H => ?_
    exact fx_blk <| n4 H (by kernel_rfl)
   exact vx_skip <| fx_blk <| n4 H (by kernel_rfl)
  exact vx_exit <| fx_seq_exit <| e3 <| fx_blk_exit rfl <| n2 H (by kernel_rfl)
 refine qa tok hT [2, 3, 5, 23, 24, 25] (St.mk [p 2 (AV.ptr 2 0), p 3 (AV.ptr 3 0), p 5 (AV.os 21 0), p 23 (L y141 a1.1), p 24 (I (↑a1.1.length : Int)), p 25 (I 0)] [(21, Ob.arr 3 true i64 (List.replicate (↑a1.2.1.length : Int).toNat 0) 0), (3, Ob.box 41 (cellsD false y41 a1)), (2, Ob.box 37 [L y152 a0])]) (by kernel_rfl) ?_
 refine vx_block <| ?_
 refine lx (fun ((v2, v3) : Int × List Int) => St.mk [p 2 (AV.ptr 2 0), p 3 (AV.ptr 3 0), p 5 (AV.os 21 0), p 23 (L y141 a1.1), p 24 (I (↑a1.1.length : Int)), p 25 (I v2)] [(21, Ob.arr 3 true i64 v3 0), (3, Ob.box 41 (cellsD false y41 a1)), (2, Ob.box 37 [L y152 a0])]) ((0, List.replicate (↑a1.2.1.length : Int).toNat 0)) H (by kernel_rfl) fun _ g1 b1 e1 t1 ⟨v2, v3⟩ H => ?_
 refine qa tok hT [2, 3, 5, 23, 24, 25, 26] (St.mk [p 2 (AV.ptr 2 0), p 3 (AV.ptr 3 0), p 5 (AV.os 21 0), p 23 (L y141 a1.1), p 24 (I (↑a1.1.length : Int)), p 25 (I v2), p 26 (B (decide (v2 < (↑a1.1.length : Int))))] [(21, Ob.arr 3 true i64 v3 0), (3, Ob.box 41 (cellsD false y41 a1)), (2, Ob.box 37 [L y152 a0])]) (by kernel_rfl) ?_
 refine vx_seq <| ?_
 refine cd H (by kernel_rfl) (fun H => ?_) (fun H => ?_)
 ·refine vx_skip <| fx_seq <| vx_seq <| vx_block <| ?_
  refine qd tok hT [2, 3, 5, 7, 23, 24, 25] (fun v4 => St.mk [p 2 (AV.ptr 2 0), p 3 (AV.ptr 3 0), p 5 (AV.os 21 0), p 7 (AV.ptr 7 0), p 23 (L y141 a1.1), p 24 (I (↑a1.1.length : Int)), p 25 (I v2)] [(7, Ob.box 141 (cellsD false y141 v4)), (21, Ob.arr 3 true i64 v3 0), (3, Ob.box 41 (cellsD false y41 a1)), (2, Ob.box 37 [L y152 a0])]) H (by kernel_rfl) fun v4 H => ?_
  refine vx_seq <| ?_
  refine qb tok hT [2, 3, 5, 7, 23, 24, 25, 33] (St.mk [p 2 (AV.ptr 2 0), p 3 (AV.ptr 3 0), p 5 (AV.os 21 0), p 7 (AV.ptr 7 0), p 23 (L y141 a1.1), p 24 (I (↑a1.1.length : Int)), p 25 (I v2), p 33 (B !vl (u122 a1 a0 v4))] [(7, Ob.box 141 (cellsD false y141 v4)), (21, Ob.arr 3 true i64 v3 0), (3, Ob.box 41 (cellsD false y41 a1)), (2, Ob.box 37 [L y152 a0])]) H (by kernel_rfl) fun H => ?_
  refine cd H (by kernel_rfl) (fun H => ?_) (fun H => ?_)
  ·refine qa tok hT [4] (St.mk [p 4 (B false)] [(7, Ob.box 141 (cellsD false y141 v4)), (21, Ob.arr 3 true i64 v3 0), (3, Ob.box 41 (cellsD false y41 a1)), (2, Ob.box 37 [L y152 a0])]) (by kernel_rfl) ?_
   exact vx_ret <| fx_seq_ret <| fx_blk_ret <| fx_seq_ret <| t1 <| fx_blk_ret <| t0 <| hr H (by kernel_rfl)
  refine vx_skip <| fx_seq <| ?_
  refine zd tok hT [2, 3, 5, 23, 24, 25] (fun v5 => St.mk [p 2 (AV.ptr 2 0), p 3 (AV.ptr 3 0), p 5 (AV.os 21 0), p 23 (L y141 a1.1), p 24 (I (↑a1.1.length : Int)), p 25 (I v2)] [(21, Ob.arr 3 true i64 v5 0), (7, Ob.box 141 (cellsD false y141 v4)), (3, Ob.box 41 (cellsD false y41 a1)), (2, Ob.box 37 [L y152 a0])]) H (by kernel_rfl) fun v5 H => ?_
  refine fx_blk <| fx_seq <| ?_
  refine zb tok hT [2, 3, 5, 23, 24, 25] (St.mk [p 2 (AV.ptr 2 0), p 3 (AV.ptr 3 0), p 5 (AV.os 21 0), p 23 (L y141 a1.1), p 24 (I (↑a1.1.length : Int)), p 25 (I (v2 + 1))] [(21, Ob.arr 3 true i64 v5 0), (7, Ob.box 141 (cellsD false y141 v4)), (3, Ob.box 41 (cellsD false y41 a1)), (2, Ob.box 37 [L y152 a0])]) H (by kernel_rfl) fun H => ?_
  exact b1 H (by kernel_rfl)
 exact vx_exit <| fx_seq_exit <| e1 <| fx_blk_exit rfl <| n0 H (by kernel_rfl)
def u35J3 : Unit → Option (Bool)
 | _ =>
 some true
def u35L4 (v9 : List Int) (a0 : Y44) (g4 : Int → Option (Bool)) : Int → Option (Bool)
 | v11 =>
 if (decide (v11 < (↑a0.2.2.length : Int))) = true then
  gd (ix v11 a0.2.2.length ∧ True) <| lt (a0.2.2.getD v11.toNat (dflt y131)) fun v12 =>
  gd (ix v11 v9.length ∧ v11.toNat < v9.length ∧ (u79 v12 (v9.getD v11.toNat 0)).isSome = true ∧ True) <| 
  if (!vl (u79 v12 (v9.getD v11.toNat 0))) = true then
   some false
  else
   gd (in64 (v11 + 1) ∧ True) <| 
   g4 (v11 + 1)
 else
  u35J3 ()
def u35J0 (a0 : Y44) : List Int → Option (Bool)
 | v9 =>
 lp (u35L4 v9 a0) 0
def u35J2 (v4 : Int) (g1 : Int × List Int → Option (Bool)) : List Int → Option (Bool)
 | v8 =>
 gd (in64 (v4 + 1) ∧ True) <| 
 g1 (v4 + 1, v8)
def u35L1 (v0 : List Y81) (a0 : Y44) (g1 : Int × List Int → Option (Bool)) : Int × List Int → Option (Bool)
 | (v4, v5) =>
 if (decide (v4 < (↑v0.length : Int))) = true then
  gd (ix v4 v0.length ∧ v4.toNat < v0.length ∧ True) <| lt (v0.getD v4.toNat (dflt y81)) fun v6 =>
  if (!v6.2.2.2) = true then
   gd (ix v6.2.2.1 v5.length ∧ v6.2.2.1.toNat < v5.length ∧ in64 (v5.getD v6.2.2.1.toNat 0 + 1) ∧ ix v6.2.2.1 v5.length ∧ v6.2.2.1.toNat < v5.length ∧ True) <| lt (v5.set v6.2.2.1.toNat (v5.getD v6.2.2.1.toNat 0 + 1)) fun v7 =>
   u35J2 v4 g1 v7
  else
   u35J2 v4 g1 v5
 else
  u35J0 a0 v5
def u35 (a0 : Y44) : Option (Bool) :=
 gd ((u78 a0.1 a0.2.1).isSome = true ∧ True) <| 
 if (!vl (u78 a0.1 a0.2.1) || (↑a0.2.2.length : Int) != (↑a0.2.1.2.1.length : Int)) = true then
  some false
 else
  gd ((0 ≤ (↑a0.2.2.length : Int) ∧ (↑a0.2.2.length : Int) = (↑a0.2.2.length : Int) ∧ (↑a0.2.2.length : Int).toNat * 8 ≤ 281474976710656 ∧ (↑a0.2.2.length : Int) ≤ 9223372036854775807) ∧ True) <| 
  gd ((u37 a0.2.1).isSome = true ∧ True) <| lt (vl (u37 a0.2.1)) fun v0 =>
  lp (u35L1 v0 a0) ((0, List.replicate (↑a0.2.2.length : Int).toNat 0))
def k35 : Ct := lct 35 [.agg y44] (fun x => u35 x.1) (fun r : Bool => B r) (fun _ => ())
theorem o35 : Ok Tryz.prog k35 := by
 refine okl tok [.tmp 2] Tryz.func35 Tryz.ntmps35 rfl Tryz.results35 (by kernel_rfl) rfl ?_
 intro y ⟨a0, _⟩ r H Q hn hr
 have hT := tc o79 (tc o37 (tc o78 tn))
 refine qa tok hT [1] (St.mk [p 1 (AV.ptr 1 0)] [(1, Ob.box 44 (cellsD false y44 a0))]) (by kernel_rfl) ?_
 refine vx_seq <| ?_
 refine qb tok hT [1, 23] (St.mk [p 1 (AV.ptr 1 0), p 23 (B (!vl (u78 a0.1 a0.2.1) || (↑a0.2.2.length : Int) != (↑a0.2.1.2.1.length : Int)))] [(1, Ob.box 44 (cellsD false y44 a0))]) H (by kernel_rfl) fun H => ?_
 refine cd H (by kernel_rfl) (fun H => ?_) (fun H => ?_)
 ·refine qa tok hT [2] (St.mk [p 2 (B false)] [(1, Ob.box 44 (cellsD false y44 a0))]) (by kernel_rfl) ?_
  exact vx_ret <| fx_seq_ret <| hr H (by kernel_rfl)
 refine vx_skip <| fx_seq <| ?_
 refine qb tok hT [1, 3] (St.mk [p 1 (AV.ptr 1 0), p 3 (AV.os 27 0)] [(27, Ob.arr 2 true i64 (List.replicate (↑a0.2.2.length : Int).toNat 0) 0), (1, Ob.box 44 (cellsD false y44 a0))]) H (by kernel_rfl) fun H => ?_
 refine jn r (fun (v9 : List Int) => St.mk [p 1 (AV.ptr 1 0), p 3 (AV.os 27 0)] [(27, Ob.arr 2 true i64 v9 0), (1, Ob.box 44 (cellsD false y44 a0))]) (u35J0 a0) (fun v9 H => ?_) (fun _ n0 e0 t0 => ?_)
 ·refine jn r (fun (_ : Unit) => St.mk [] []) (u35J3) (fun _ H => ?_) (fun _ n3 e3 t3 => ?_)
  ·refine qa tok hT [2] (St.mk [p 2 (B true)] []) (by kernel_rfl) ?_
   exact vx_ret <| hr H (by kernel_rfl)
  refine qa tok hT [3, 48, 49, 50] (St.mk [p 3 (AV.os 27 0), p 48 (L y131 a0.2.2), p 49 (I (↑a0.2.2.length : Int)), p 50 (I 0)] [(27, Ob.arr 2 true i64 v9 0), (1, Ob.box 44 (cellsD false y44 a0))]) (by kernel_rfl) ?_
  refine vx_block <| ?_
  refine lx (fun (v11 : Int) => St.mk [p 3 (AV.os 27 0), p 48 (L y131 a0.2.2), p 49 (I (↑a0.2.2.length : Int)), p 50 (I v11)] [(27, Ob.arr 2 true i64 v9 0)]) 0 H (by kernel_rfl) fun _ g4 b4 e4 t4 v11 H => ?_
  refine qa tok hT [3, 48, 49, 50, 51] (St.mk [p 3 (AV.os 27 0), p 48 (L y131 a0.2.2), p 49 (I (↑a0.2.2.length : Int)), p 50 (I v11), p 51 (B (decide (v11 < (↑a0.2.2.length : Int))))] [(27, Ob.arr 2 true i64 v9 0)]) (by kernel_rfl) ?_
  refine vx_seq <| ?_
  refine cd H (by kernel_rfl) (fun H => ?_) (fun H => ?_)
  ·refine vx_skip <| fx_seq <| vx_seq <| vx_block <| ?_
   refine qd tok hT [3, 6, 7, 48, 49, 50] (fun v12 => St.mk [p 3 (AV.os 27 0), p 6 (I v11), p 7 (AV.ptr 7 0), p 48 (L y131 a0.2.2), p 49 (I (↑a0.2.2.length : Int)), p 50 (I v11)] [(7, Ob.box 131 (cellsD false y131 v12)), (27, Ob.arr 2 true i64 v9 0)]) H (by kernel_rfl) fun v12 H => ?_
   refine qb tok hT [3, 48, 49, 50, 61] (St.mk [p 3 (AV.os 27 0), p 48 (L y131 a0.2.2), p 49 (I (↑a0.2.2.length : Int)), p 50 (I v11), p 61 (B !vl (u79 v12 (v9.getD v11.toNat 0)))] [(7, Ob.box 131 (cellsD false y131 v12)), (27, Ob.arr 2 true i64 v9 0)]) H (by kernel_rfl) fun H => ?_
   refine cd H (by kernel_rfl) (fun H => ?_) (fun H => ?_)
   ·refine qa tok hT [2] (St.mk [p 2 (B false)] [(7, Ob.box 131 (cellsD false y131 v12)), (27, Ob.arr 2 true i64 v9 0)]) (by kernel_rfl) ?_
    exact vx_ret <| fx_blk_ret <| fx_seq_ret <| t4 <| fx_blk_ret <| t3 <| hr H (by kernel_rfl)
   refine vx_skip <| fx_blk <| fx_seq <| ?_
   refine zb tok hT [3, 48, 49, 50] (St.mk [p 3 (AV.os 27 0), p 48 (L y131 a0.2.2), p 49 (I (↑a0.2.2.length : Int)), p 50 (I (v11 + 1))] [(7, Ob.box 131 (cellsD false y131 v12)), (27, Ob.arr 2 true i64 v9 0)]) H (by kernel_rfl) fun H => ?_
   exact b4 H (by kernel_rfl)
  exact vx_exit <| fx_seq_exit <| e4 <| fx_blk_exit rfl <| n3 H (by kernel_rfl)
 refine qd tok hT [1, 3, 30, 31, 32] (fun v0 => St.mk [p 1 (AV.ptr 1 0), p 3 (AV.os 27 0), p 30 (AV.os 30 0), p 31 (I (↑v0.length : Int)), p 32 (I 0)] [(30, Ob.arr 81 true y81 v0 0), (27, Ob.arr 2 true i64 (List.replicate (↑a0.2.2.length : Int).toNat 0) 0), (1, Ob.box 44 (cellsD false y44 a0))]) H (by kernel_rfl) fun v0 H => ?_
 refine vx_block <| ?_
 refine lx (fun ((v4, v5) : Int × List Int) => St.mk [p 1 (AV.ptr 1 0), p 3 (AV.os 27 0), p 30 (AV.os 30 0), p 31 (I (↑v0.length : Int)), p 32 (I v4)] [(30, Ob.arr 81 true y81 v0 0), (27, Ob.arr 2 true i64 v5 0), (1, Ob.box 44 (cellsD false y44 a0))]) ((0, List.replicate (↑a0.2.2.length : Int).toNat 0)) H (by kernel_rfl) fun _ g1 b1 e1 t1 ⟨v4, v5⟩ H => ?_
 refine qa tok hT [1, 3, 30, 31, 32, 33] (St.mk [p 1 (AV.ptr 1 0), p 3 (AV.os 27 0), p 30 (AV.os 30 0), p 31 (I (↑v0.length : Int)), p 32 (I v4), p 33 (B (decide (v4 < (↑v0.length : Int))))] [(30, Ob.arr 81 true y81 v0 0), (27, Ob.arr 2 true i64 v5 0), (1, Ob.box 44 (cellsD false y44 a0))]) (by kernel_rfl) ?_
 refine vx_seq <| ?_
 refine cd H (by kernel_rfl) (fun H => ?_) (fun H => ?_)
 ·refine vx_skip <| fx_seq <| ?_
  refine jn r (fun (v8 : List Int) => St.mk [p 1 (AV.ptr 1 0), p 3 (AV.os 27 0), p 30 (AV.os 30 0), p 31 (I (↑v0.length : Int)), p 32 (I v4)] [(27, Ob.arr 2 true i64 v8 0), (30, Ob.arr 81 true y81 v0 0), (1, Ob.box 44 (cellsD false y44 a0))]) (u35J2 v4 g1) (fun v8 H => ?_) (fun _ n2 e2 t2 => ?_)
  ·refine zb tok hT [1, 3, 30, 31, 32] (St.mk [p 1 (AV.ptr 1 0), p 3 (AV.os 27 0), p 30 (AV.os 30 0), p 31 (I (↑v0.length : Int)), p 32 (I (v4 + 1))] [(27, Ob.arr 2 true i64 v8 0), (30, Ob.arr 81 true y81 v0 0), (1, Ob.box 44 (cellsD false y44 a0))]) H (by kernel_rfl) fun H => ?_
   exact b1 H (by kernel_rfl)
  refine vx_block <| ?_
  refine qd tok hT [1, 3, 5, 30, 31, 32] (fun v6 => St.mk [p 1 (AV.ptr 1 0), p 3 (AV.os 27 0), p 5 (AV.ptr 5 0), p 30 (AV.os 30 0), p 31 (I (↑v0.length : Int)), p 32 (I v4)] [(5, Ob.box 81 (cellsD true y81 v6)), (30, Ob.arr 81 true y81 v0 0), (27, Ob.arr 2 true i64 v5 0), (1, Ob.box 44 (cellsD false y44 a0))]) H (by kernel_rfl) fun v6 H => ?_
  refine qa tok hT [1, 3, 5, 30, 31, 32, 38] (St.mk [p 1 (AV.ptr 1 0), p 3 (AV.os 27 0), p 5 (AV.ptr 5 0), p 30 (AV.os 30 0), p 31 (I (↑v0.length : Int)), p 32 (I v4), p 38 (B !v6.2.2.2)] [(5, Ob.box 81 (cellsD true y81 v6)), (30, Ob.arr 81 true y81 v0 0), (27, Ob.arr 2 true i64 v5 0), (1, Ob.box 44 (cellsD false y44 a0))]) (by kernel_rfl) ?_
  refine cd H (by kernel_rfl) (fun H => ?_) (fun H => ?_)
  ·refine zd tok hT [1, 3, 30, 31, 32] (fun v7 => St.mk [p 1 (AV.ptr 1 0), p 3 (AV.os 27 0), p 30 (AV.os 30 0), p 31 (I (↑v0.length : Int)), p 32 (I v4)] [(27, Ob.arr 2 true i64 v7 0), (5, Ob.box 81 (cellsD true y81 v6)), (30, Ob.arr 81 true y81 v0 0), (1, Ob.box 44 (cellsD false y44 a0))]) H (by kernel_rfl) fun v7 H => ?_
   exact fx_blk <| n2 H (by kernel_rfl)
  exact vx_skip <| fx_blk <| n2 H (by kernel_rfl)
 exact vx_exit <| fx_seq_exit <| e1 <| fx_blk_exit rfl <| n0 H (by kernel_rfl)
def u25 (a0 : Y44) (a1 : Y68) : Option (Bool) :=
 gd ((u35 a0).isSome = true ∧ (vl (u35 a0) = true ∧ True → (u49 a0).isSome = true) ∧ (vl (u35 a0) = true ∧ True → (u61 (vl (u49 a0)) a1).isSome = true) ∧ True) <| 
 some (vl (u35 a0) && vl (u61 (vl (u49 a0)) a1))
def k25 : Ct := lct 25 [.agg y44, .agg y68] (fun x => u25 x.1 x.2.1) (fun r : Bool => B r) (fun _ => ())
theorem o25 : Ok Tryz.prog k25 := by
 refine okl tok [.tmp 4] Tryz.func25 Tryz.ntmps25 rfl Tryz.results25 (by kernel_rfl) rfl ?_
 intro y ⟨a0, a1, _⟩ r H Q hn hr
 have hT := tc o61 (tc o49 (tc o35 tn))
 refine qa tok hT [2, 3] (St.mk [p 2 (AV.ptr 2 0), p 3 (AV.ptr 3 0)] [(3, Ob.box 68 (cellsD false y68 a1)), (2, Ob.box 44 (cellsD false y44 a0))]) (by kernel_rfl) ?_
 refine qb tok hT [4] (St.mk [p 4 (B (vl (u35 a0) && vl (u61 (vl (u49 a0)) a1)))] [(3, Ob.box 68 (cellsD false y68 a1)), (2, Ob.box 44 (cellsD false y44 a0))]) H (by kernel_rfl) fun H => ?_
 exact vx_ret <| hr H (by kernel_rfl)
def u102 (a0 : Y105) : Option (Bool) :=
 some (decide (0 ≤ a0.1) && decide (a0.1 ≤ a0.2) && decide (a0.2 ≤ 1000000))
def k102 : Ct := lct 102 [.agg y105] (fun x => u102 x.1) (fun r : Bool => B r) (fun _ => ())
theorem o102 : Ok Tryz.prog k102 := by
 refine okl tok [.tmp 2] Tryz.func102 Tryz.ntmps102 rfl Tryz.results102 (by kernel_rfl) rfl ?_
 intro y ⟨a0, _⟩ r H Q hn hr
 have hT := @tn Tryz.prog
 refine qa tok hT [1] (St.mk [p 1 (AV.ptr 1 0)] [(1, Ob.box 105 (cellsD false y105 a0))]) (by kernel_rfl) ?_
 refine qa tok hT [2] (St.mk [p 2 (B (decide (0 ≤ a0.1) && decide (a0.1 ≤ a0.2) && decide (a0.2 ≤ 1000000)))] [(1, Ob.box 105 (cellsD false y105 a0))]) (by kernel_rfl) ?_
 exact vx_ret <| hr H (by kernel_rfl)
def u42 (a0 : Int) (a1 : Int) (a2 : Int) : Option (Bool) :=
 some (decide (a1 ≤ a0) && decide (a0 ≤ a2))
def k42 : Ct := lct 42 [.dat i64, .dat i64, .dat i64] (fun x => u42 x.1 x.2.1 x.2.2.1) (fun r : Bool => B r) (fun _ => ())
theorem o42 : Ok Tryz.prog k42 := by
 refine okl tok [.tmp 6] Tryz.func42 Tryz.ntmps42 rfl Tryz.results42 (by kernel_rfl) rfl ?_
 intro y ⟨a0, a1, a2, _⟩ r H Q hn hr
 have hT := @tn Tryz.prog
 refine qa tok hT [0, 1, 2] (St.mk [p 0 (J a0), p 1 (J a1), p 2 (J a2)] []) (by kernel_rfl) ?_
 refine qa tok hT [6] (St.mk [p 6 (B (decide (a1 ≤ a0) && decide (a0 ≤ a2)))] []) (by kernel_rfl) ?_
 exact vx_ret <| hr H (by kernel_rfl)
def u101 (a0 : Y105) : Option (Bool) :=
 gd ((u42 a0.1 (-1000000000) 1000000000).isSome = true ∧ (vl (u42 a0.1 (-1000000000) 1000000000) = true ∧ True → (u42 a0.2 (-1000000000) 1000000000).isSome = true) ∧ True) <| 
 some (vl (u42 a0.1 (-1000000000) 1000000000) && vl (u42 a0.2 (-1000000000) 1000000000) && decide (a0.1 ≤ a0.2))
def k101 : Ct := lct 101 [.agg y105] (fun x => u101 x.1) (fun r : Bool => B r) (fun _ => ())
theorem o101 : Ok Tryz.prog k101 := by
 refine okl tok [.tmp 2] Tryz.func101 Tryz.ntmps101 rfl Tryz.results101 (by kernel_rfl) rfl ?_
 intro y ⟨a0, _⟩ r H Q hn hr
 have hT := tc o42 tn
 refine qa tok hT [1] (St.mk [p 1 (AV.ptr 1 0)] [(1, Ob.box 105 (cellsD false y105 a0))]) (by kernel_rfl) ?_
 refine qb tok hT [2] (St.mk [p 2 (B (vl (u42 a0.1 (-1000000000) 1000000000) && vl (u42 a0.2 (-1000000000) 1000000000) && decide (a0.1 ≤ a0.2)))] [(1, Ob.box 105 (cellsD false y105 a0))]) H (by kernel_rfl) fun H => ?_
 exact vx_ret <| hr H (by kernel_rfl)
def u58J0 : Unit → Option (Bool)
 | _ =>
 some true
def u58L1 (a1 : Y68) (g1 : Int → Option (Bool)) : Int → Option (Bool)
 | v1 =>
 if (decide (v1 < (↑a1.1.length : Int))) = true then
  gd (ix v1 a1.2.1.length ∧ (u101 (a1.2.1.getD v1.toNat (dflt y105))).isSome = true ∧ ((!vl (u101 (a1.2.1.getD v1.toNat (dflt y105)))) = false ∧ True → ix v1 a1.2.2.length) ∧ ((!vl (u101 (a1.2.1.getD v1.toNat (dflt y105)))) = false ∧ True → (u102 (a1.2.2.getD v1.toNat (dflt y105))).isSome = true) ∧ ((!vl (u101 (a1.2.1.getD v1.toNat (dflt y105))) || !vl (u102 (a1.2.2.getD v1.toNat (dflt y105)))) = false ∧ True → ix v1 a1.1.length) ∧ ((!a1.1.getD v1.toNat false) = true ∧ (!vl (u101 (a1.2.1.getD v1.toNat (dflt y105))) || !vl (u102 (a1.2.2.getD v1.toNat (dflt y105)))) = false ∧ True → ix v1 a1.2.1.length) ∧ ((!((a1.2.1.getD v1.toNat (dflt y105)).1 == 0 && ((a1.2.1.getD v1.toNat (dflt y105)).2 == 0 && true))) = false ∧ (!a1.1.getD v1.toNat false) = true ∧ (!vl (u101 (a1.2.1.getD v1.toNat (dflt y105))) || !vl (u102 (a1.2.2.getD v1.toNat (dflt y105)))) = false ∧ True → ix v1 a1.2.2.length) ∧ True) <| lt (!vl (u101 (a1.2.1.getD v1.toNat (dflt y105))) || !vl (u102 (a1.2.2.getD v1.toNat (dflt y105))) || !a1.1.getD v1.toNat false && (!((a1.2.1.getD v1.toNat (dflt y105)).1 == 0 && ((a1.2.1.getD v1.toNat (dflt y105)).2 == 0 && true)) || !((a1.2.2.getD v1.toNat (dflt y105)).1 == 0 && ((a1.2.2.getD v1.toNat (dflt y105)).2 == 0 && true)))) fun v2 =>
  if v2 = true then
   some false
  else
   gd (in64 (v1 + 1) ∧ True) <| 
   g1 (v1 + 1)
 else
  u58J0 ()
def u58 (a0 : Int) (a1 : Y68) : Option (Bool) :=
 if ((↑a1.1.length : Int) != a0 || (↑a1.2.1.length : Int) != a0 || (↑a1.2.2.length : Int) != a0) = true then
  some false
 else
  lp (u58L1 a1) 0
def k58 : Ct := lct 58 [.dat i64, .agg y68] (fun x => u58 x.1 x.2.1) (fun r : Bool => B r) (fun _ => ())
theorem o58 : Ok Tryz.prog k58 := by
 refine okl tok [.tmp 4] Tryz.func58 Tryz.ntmps58 rfl Tryz.results58 (by kernel_rfl) rfl ?_
 intro y ⟨a0, a1, _⟩ r H Q hn hr
 have hT := tc o102 (tc o101 tn)
 refine qa tok hT [0, 3] (St.mk [p 0 (J a0), p 3 (AV.ptr 3 0)] [(3, Ob.box 68 (cellsD false y68 a1))]) (by kernel_rfl) ?_
 refine vx_seq <| ?_
 refine qa tok hT [3, 24] (St.mk [p 3 (AV.ptr 3 0), p 24 (B ((↑a1.1.length : Int) != a0 || (↑a1.2.1.length : Int) != a0 || (↑a1.2.2.length : Int) != a0))] [(3, Ob.box 68 (cellsD false y68 a1))]) (by kernel_rfl) ?_
 refine cd H (by kernel_rfl) (fun H => ?_) (fun H => ?_)
 ·refine qa tok hT [4] (St.mk [p 4 (B false)] [(3, Ob.box 68 (cellsD false y68 a1))]) (by kernel_rfl) ?_
  exact vx_ret <| fx_seq_ret <| hr H (by kernel_rfl)
 refine vx_skip <| fx_seq <| ?_
 refine jn r (fun (_ : Unit) => St.mk [] []) (u58J0) (fun _ H => ?_) (fun _ n0 e0 t0 => ?_)
 ·refine qa tok hT [4] (St.mk [p 4 (B true)] []) (by kernel_rfl) ?_
  exact vx_ret <| hr H (by kernel_rfl)
 refine qa tok hT [3, 5] (St.mk [p 3 (AV.ptr 3 0), p 5 (I 0)] [(3, Ob.box 68 (cellsD false y68 a1))]) (by kernel_rfl) ?_
 refine vx_block <| ?_
 refine lx (fun (v1 : Int) => St.mk [p 3 (AV.ptr 3 0), p 5 (I v1)] [(3, Ob.box 68 (cellsD false y68 a1))]) 0 H (by kernel_rfl) fun _ g1 b1 e1 t1 v1 H => ?_
 refine vx_seq <| ?_
 refine qa tok hT [3, 5, 29] (St.mk [p 3 (AV.ptr 3 0), p 5 (I v1), p 29 (B (decide (v1 < (↑a1.1.length : Int))))] [(3, Ob.box 68 (cellsD false y68 a1))]) (by kernel_rfl) ?_
 refine cd H (by kernel_rfl) (fun H => ?_) (fun H => ?_)
 ·refine vx_skip <| fx_seq <| vx_seq <| vx_block <| ?_
  refine qd tok hT [3, 5, 40, 41, 42, 43, 44, 45, 46, 49, 50, 51, 52, 53, 54, 55, 56, 57, 58, 59, 60, 61, 62, 63, 64, 65, 66, 67, 68, 69, 70, 71, 72, 73] (fun v2 => St.mk [p 3 (AV.ptr 3 0), p 5 (I v1), p 73 (B v2)] [(3, Ob.box 68 (cellsD false y68 a1))]) H (by kernel_rfl) fun v2 H => ?_
  refine cd H (by kernel_rfl) (fun H => ?_) (fun H => ?_)
  ·refine qa tok hT [4] (St.mk [p 4 (B false)] [(3, Ob.box 68 (cellsD false y68 a1))]) (by kernel_rfl) ?_
   exact vx_ret <| fx_blk_ret <| fx_seq_ret <| t1 <| fx_blk_ret <| t0 <| hr H (by kernel_rfl)
  refine vx_skip <| fx_blk <| fx_seq <| ?_
  refine zb tok hT [3, 5] (St.mk [p 3 (AV.ptr 3 0), p 5 (I (v1 + 1))] [(3, Ob.box 68 (cellsD false y68 a1))]) H (by kernel_rfl) fun H => ?_
  exact b1 H (by kernel_rfl)
 exact vx_exit <| fx_seq_exit <| e1 <| fx_blk_exit rfl <| n0 H (by kernel_rfl)
def u72J4 : List Y163 → Option (List Y163)
 | v25 =>
 some v25
def u72L5 (a0 : Y41) (g5 : Int × List Y163 → Option (List Y163)) : Int × List Y163 → Option (List Y163)
 | (v21, v22) =>
 if (decide (v21 < (↑a0.2.2.length : Int))) = true then
  gd (ix v21 a0.2.2.length ∧ ix v21 a0.2.2.length ∧ (v22.length + [(-1, v21, (a0.2.2.getD v21.toNat (dflt y143)).2.2, (a0.2.2.getD v21.toNat (dflt y143)).2.1 == 1)].length ≤ 9223372036854775807 ∧ (v22.length + [(-1, v21, (a0.2.2.getD v21.toNat (dflt y143)).2.2, (a0.2.2.getD v21.toNat (dflt y143)).2.1 == 1)].length) * 32 ≤ 140737488355328) ∧ True) <| lt ((v22 ++ [(-1, v21, (a0.2.2.getD v21.toNat (dflt y143)).2.2, (a0.2.2.getD v21.toNat (dflt y143)).2.1 == 1)], [(-1, v21, (a0.2.2.getD v21.toNat (dflt y143)).2.2, (a0.2.2.getD v21.toNat (dflt y143)).2.1 == 1)])) fun (v23, v24) =>
  gd (in64 (v21 + 1) ∧ True) <| 
  g5 (v21 + 1, v23)
 else
  u72J4 v22
def u72J0 (a0 : Y41) : List Y163 → Option (List Y163)
 | v18 =>
 lp (u72L5 a0) (0, v18)
def u72J2 (v8 : Int) (g1 : Int × List Y163 → Option (List Y163)) : List Y163 → Option (List Y163)
 | v17 =>
 gd (in64 (v8 + 1) ∧ True) <| 
 g1 (v8 + 1, v17)
def u72L3 (v8 : Int) (v10 : Y141) (g1 : Int × List Y163 → Option (List Y163)) (g3 : Int × List Y163 → Option (List Y163)) : Int × List Y163 → Option (List Y163)
 | (v13, v14) =>
 if (decide (v13 < (↑v10.2.2.length : Int))) = true then
  gd (ix v13 v10.2.2.length ∧ in64 ((↑v10.2.2.length : Int) - 1) ∧ (v14.length + [(v8, v13, v10.2.2.getD v13.toNat 0, v13 == (↑v10.2.2.length : Int) - 1)].length ≤ 9223372036854775807 ∧ (v14.length + [(v8, v13, v10.2.2.getD v13.toNat 0, v13 == (↑v10.2.2.length : Int) - 1)].length) * 32 ≤ 140737488355328) ∧ True) <| lt ((v14 ++ [(v8, v13, v10.2.2.getD v13.toNat 0, v13 == (↑v10.2.2.length : Int) - 1)], [(v8, v13, v10.2.2.getD v13.toNat 0, v13 == (↑v10.2.2.length : Int) - 1)])) fun (v15, v16) =>
  gd (in64 (v13 + 1) ∧ True) <| 
  g3 (v13 + 1, v15)
 else
  u72J2 v8 g1 v14
def u72L1 (a0 : Y41) (g1 : Int × List Y163 → Option (List Y163)) : Int × List Y163 → Option (List Y163)
 | (v8, v9) =>
 if (decide (v8 < (↑a0.1.length : Int))) = true then
  gd (ix v8 a0.1.length ∧ True) <| lt (a0.1.getD v8.toNat (dflt y141)) fun v10 =>
  lp (u72L3 v8 v10 g1) (0, v9)
 else
  u72J0 a0 v9
def u72 (a0 : Y41) : Option (List Y163) :=
 lp (u72L1 a0) (0, [])
def k72 : Ct := lct 72 [.agg y41] (fun x => u72 x.1) (fun r : List Y163 => AV.ow 163 true y163 r) (fun _ => ())
theorem o72 : Ok Tryz.prog k72 := by
 refine okl tok [.tmp 2] Tryz.func72 Tryz.ntmps72 rfl Tryz.results72 (by kernel_rfl) rfl ?_
 intro y ⟨a0, _⟩ r H Q hn hr
 have hT := @tn Tryz.prog
 refine qa tok hT [1] (St.mk [p 1 (AV.ptr 1 0)] [(1, Ob.box 41 (cellsD false y41 a0))]) (by kernel_rfl) ?_
 refine qa tok hT [1, 3] (St.mk [p 1 (AV.ptr 1 0), p 3 (AV.os 8 0)] [(8, Ob.arr 163 true y163 [] 0), (1, Ob.box 41 (cellsD false y41 a0))]) (by kernel_rfl) ?_
 refine jn r (fun (v18 : List Y163) => St.mk [p 1 (AV.ptr 1 0), p 3 (AV.os 8 0)] [(8, Ob.arr 163 true y163 v18 0), (1, Ob.box 41 (cellsD false y41 a0))]) (u72J0 a0) (fun v18 H => ?_) (fun _ n0 e0 t0 => ?_)
 ·refine jn r (fun (v25 : List Y163) => St.mk [p 3 (AV.os 8 0)] [(8, Ob.arr 163 true y163 v25 0)]) (u72J4) (fun v25 H => ?_) (fun _ n4 e4 t4 => ?_)
  ·refine qa tok hT [2] (St.mk [p 2 (AV.os 8 0)] [(8, Ob.arr 163 true y163 v25 0)]) (by kernel_rfl) ?_
   exact vx_ret <| hr H (by kernel_rfl)
  refine qa tok hT [1, 3, 7] (St.mk [p 1 (AV.ptr 1 0), p 3 (AV.os 8 0), p 7 (I 0)] [(8, Ob.arr 163 true y163 v18 0), (1, Ob.box 41 (cellsD false y41 a0))]) (by kernel_rfl) ?_
  refine vx_block <| ?_
  refine lx (fun ((v21, v22) : Int × List Y163) => St.mk [p 1 (AV.ptr 1 0), p 3 (AV.os 8 0), p 7 (I v21)] [(8, Ob.arr 163 true y163 v22 0), (1, Ob.box 41 (cellsD false y41 a0))]) (0, v18) H (by kernel_rfl) fun _ g5 b5 e5 t5 ⟨v21, v22⟩ H => ?_
  refine vx_seq <| ?_
  refine qa tok hT [1, 3, 7, 47] (St.mk [p 1 (AV.ptr 1 0), p 3 (AV.os 8 0), p 7 (I v21), p 47 (B (decide (v21 < (↑a0.2.2.length : Int))))] [(8, Ob.arr 163 true y163 v22 0), (1, Ob.box 41 (cellsD false y41 a0))]) (by kernel_rfl) ?_
  refine cd H (by kernel_rfl) (fun H => ?_) (fun H => ?_)
  ·refine vx_skip <| fx_seq <| vx_seq <| vx_block <| ?_
   refine zd tok hT [1, 3, 7] (fun (v23, v24) => St.mk [p 1 (AV.ptr 1 0), p 3 (AV.os 8 1), p 7 (I v21)] [(8, Ob.arr 163 true y163 v23 1), (66, Ob.arr 163 true y163 v24 0), (1, Ob.box 41 (cellsD false y41 a0))]) H (by kernel_rfl) fun ⟨v23, v24⟩ H => ?_
   refine fx_blk <| fx_seq <| ?_
   refine zb tok hT [1, 3, 7] (St.mk [p 1 (AV.ptr 1 0), p 3 (AV.os 8 1), p 7 (I (v21 + 1))] [(8, Ob.arr 163 true y163 v23 1), (66, Ob.arr 163 true y163 v24 0), (1, Ob.box 41 (cellsD false y41 a0))]) H (by kernel_rfl) fun H => ?_
   exact b5 H (by kernel_rfl)
  exact vx_exit <| fx_seq_exit <| e5 <| fx_blk_exit rfl <| n4 H (by kernel_rfl)
 refine qa tok hT [1, 3, 4] (St.mk [p 1 (AV.ptr 1 0), p 3 (AV.os 8 0), p 4 (I 0)] [(8, Ob.arr 163 true y163 [] 0), (1, Ob.box 41 (cellsD false y41 a0))]) (by kernel_rfl) ?_
 refine vx_block <| ?_
 refine lx (fun ((v8, v9) : Int × List Y163) => St.mk [p 1 (AV.ptr 1 0), p 3 (AV.os 8 0), p 4 (I v8)] [(8, Ob.arr 163 true y163 v9 0), (1, Ob.box 41 (cellsD false y41 a0))]) (0, []) H (by kernel_rfl) fun _ g1 b1 e1 t1 ⟨v8, v9⟩ H => ?_
 refine vx_seq <| ?_
 refine qa tok hT [1, 3, 4, 13] (St.mk [p 1 (AV.ptr 1 0), p 3 (AV.os 8 0), p 4 (I v8), p 13 (B (decide (v8 < (↑a0.1.length : Int))))] [(8, Ob.arr 163 true y163 v9 0), (1, Ob.box 41 (cellsD false y41 a0))]) (by kernel_rfl) ?_
 refine cd H (by kernel_rfl) (fun H => ?_) (fun H => ?_)
 ·refine vx_skip <| fx_seq <| ?_
  refine jn r (fun (v17 : List Y163) => St.mk [p 1 (AV.ptr 1 0), p 3 (AV.os 8 0), p 4 (I v8)] [(8, Ob.arr 163 true y163 v17 0), (1, Ob.box 41 (cellsD false y41 a0))]) (u72J2 v8 g1) (fun v17 H => ?_) (fun _ n2 e2 t2 => ?_)
  ·refine zb tok hT [1, 3, 4] (St.mk [p 1 (AV.ptr 1 0), p 3 (AV.os 8 0), p 4 (I (v8 + 1))] [(8, Ob.arr 163 true y163 v17 0), (1, Ob.box 41 (cellsD false y41 a0))]) H (by kernel_rfl) fun H => ?_
   exact b1 H (by kernel_rfl)
  refine vx_block <| ?_
  refine qd tok hT [1, 3, 4, 5] (fun v10 => St.mk [p 1 (AV.ptr 1 0), p 3 (AV.os 8 0), p 4 (I v8), p 5 (L i64 v10.2.2)] [(8, Ob.arr 163 true y163 v9 0), (1, Ob.box 41 (cellsD false y41 a0))]) H (by kernel_rfl) fun v10 H => ?_
  refine qa tok hT [1, 3, 4, 5, 6] (St.mk [p 1 (AV.ptr 1 0), p 3 (AV.os 8 0), p 4 (I v8), p 5 (L i64 v10.2.2), p 6 (I 0)] [(8, Ob.arr 163 true y163 v9 0), (1, Ob.box 41 (cellsD false y41 a0))]) (by kernel_rfl) ?_
  refine vx_block <| ?_
  refine lx (fun ((v13, v14) : Int × List Y163) => St.mk [p 1 (AV.ptr 1 0), p 3 (AV.os 8 0), p 4 (I v8), p 5 (L i64 v10.2.2), p 6 (I v13)] [(8, Ob.arr 163 true y163 v14 0), (1, Ob.box 41 (cellsD false y41 a0))]) (0, v9) H (by kernel_rfl) fun _ g3 b3 e3 t3 ⟨v13, v14⟩ H => ?_
  refine vx_seq <| ?_
  refine qa tok hT [1, 3, 4, 5, 6, 25] (St.mk [p 1 (AV.ptr 1 0), p 3 (AV.os 8 0), p 4 (I v8), p 5 (L i64 v10.2.2), p 6 (I v13), p 25 (B (decide (v13 < (↑v10.2.2.length : Int))))] [(8, Ob.arr 163 true y163 v14 0), (1, Ob.box 41 (cellsD false y41 a0))]) (by kernel_rfl) ?_
  refine cd H (by kernel_rfl) (fun H => ?_) (fun H => ?_)
  ·refine vx_skip <| fx_seq <| vx_seq <| vx_block <| ?_
   refine zd tok hT [1, 3, 4, 5, 6] (fun (v15, v16) => St.mk [p 1 (AV.ptr 1 0), p 3 (AV.os 8 1), p 4 (I v8), p 5 (L i64 v10.2.2), p 6 (I v13)] [(8, Ob.arr 163 true y163 v15 1), (41, Ob.arr 163 true y163 v16 0), (1, Ob.box 41 (cellsD false y41 a0))]) H (by kernel_rfl) fun ⟨v15, v16⟩ H => ?_
   refine fx_blk <| fx_seq <| ?_
   refine zb tok hT [1, 3, 4, 5, 6] (St.mk [p 1 (AV.ptr 1 0), p 3 (AV.os 8 1), p 4 (I v8), p 5 (L i64 v10.2.2), p 6 (I (v13 + 1))] [(8, Ob.arr 163 true y163 v15 1), (41, Ob.arr 163 true y163 v16 0), (1, Ob.box 41 (cellsD false y41 a0))]) H (by kernel_rfl) fun H => ?_
   exact b3 H (by kernel_rfl)
  exact vx_exit <| fx_seq_exit <| e3 <| fx_blk_exit rfl <| fx_blk <| n2 H (by kernel_rfl)
 exact vx_exit <| fx_seq_exit <| e1 <| fx_blk_exit rfl <| n0 H (by kernel_rfl)
def u31 (a0 : Y44) : Option (Int) :=
 gd ((u72 a0.2.1).isSome = true ∧ in64 (2 * (↑(vl (u72 a0.2.1)).length : Int)) ∧ True) <| lt (vl (u72 a0.2.1)) fun v0 =>
 some (2 * (↑v0.length : Int))
def k31 : Ct := lct 31 [.agg y44] (fun x => u31 x.1) (fun r : Int => I r) (fun _ => ())
theorem o31 : Ok Tryz.prog k31 := by
 refine okl tok [.tmp 2] Tryz.func31 Tryz.ntmps31 rfl Tryz.results31 (by kernel_rfl) rfl ?_
 intro y ⟨a0, _⟩ r H Q hn hr
 have hT := tc o72 tn
 refine qa tok hT [1] (St.mk [p 1 (AV.ptr 1 0)] [(1, Ob.box 44 (cellsD false y44 a0))]) (by kernel_rfl) ?_
 refine qd tok hT [2] (fun v0 => St.mk [p 2 (I (2 * (↑v0.length : Int)))] [(5, Ob.arr 163 true y163 v0 0), (1, Ob.box 44 (cellsD false y44 a0))]) H (by kernel_rfl) fun v0 H => ?_
 exact vx_ret <| hr H (by kernel_rfl)
def u70J2 : Unit → Option (Bool)
 | _ =>
 some true
def u70L3 (a0 : Y131) (g3 : Int → Option (Bool)) : Int → Option (Bool)
 | v1 =>
 if (decide (v1 < (↑a0.2.2.2.length : Int))) = true then
  gd (ix v1 a0.2.2.2.length ∧ in64 ((↑a0.1.length : Int) - 1) ∧ (u42 (a0.2.2.2.getD v1.toNat 0) 0 ((↑a0.1.length : Int) - 1)).isSome = true ∧ True) <| 
  if (!vl (u42 (a0.2.2.2.getD v1.toNat 0) 0 ((↑a0.1.length : Int) - 1))) = true then
   some false
  else
   gd (in64 (v1 + 1) ∧ True) <| 
   g3 (v1 + 1)
 else
  u70J2 ()
def u70J0 (a0 : Y131) : Unit → Option (Bool)
 | _ =>
 lp (u70L3 a0) 0
def u70L1 (a0 : Y131) (g1 : Int → Option (Bool)) : Int → Option (Bool)
 | v0 =>
 if (decide (v0 < (↑a0.1.length : Int))) = true then
  gd (ix v0 a0.2.2.1.length ∧ (u42 (a0.2.2.1.getD v0.toNat 0) 0 500).isSome = true ∧ ((!vl (u42 (a0.2.2.1.getD v0.toNat 0) 0 500)) = false ∧ True → ix v0 a0.2.1.length) ∧ ((!vl (u42 (a0.2.2.1.getD v0.toNat 0) 0 500)) = false ∧ True → (u42 (a0.2.1.getD v0.toNat 0) 0 1000).isSome = true) ∧ True) <| 
  if (!vl (u42 (a0.2.2.1.getD v0.toNat 0) 0 500) || !vl (u42 (a0.2.1.getD v0.toNat 0) 0 1000)) = true then
   some false
  else
   gd (((v0 == 0) = true ∧ True → ix v0 a0.1.length) ∧ ((a0.1.getD v0.toNat 0 != -1) = false ∧ (v0 == 0) = true ∧ True → ix v0 a0.2.1.length) ∧ (decide (0 < v0) = true ∧ (v0 == 0 && (a0.1.getD v0.toNat 0 != -1 || a0.2.1.getD v0.toNat 0 != 0)) = false ∧ True → ix v0 a0.1.length) ∧ (decide (0 < v0) = true ∧ (v0 == 0 && (a0.1.getD v0.toNat 0 != -1 || a0.2.1.getD v0.toNat 0 != 0)) = false ∧ True → in64 (v0 - 1)) ∧ (decide (0 < v0) = true ∧ (v0 == 0 && (a0.1.getD v0.toNat 0 != -1 || a0.2.1.getD v0.toNat 0 != 0)) = false ∧ True → (u42 (a0.1.getD v0.toNat 0) 0 (v0 - 1)).isSome = true) ∧ True) <| 
   if (v0 == 0 && (a0.1.getD v0.toNat 0 != -1 || a0.2.1.getD v0.toNat 0 != 0) || decide (0 < v0) && !vl (u42 (a0.1.getD v0.toNat 0) 0 (v0 - 1))) = true then
    some false
   else
    gd (in64 (v0 + 1) ∧ True) <| 
    g1 (v0 + 1)
 else
  u70J0 a0 ()
def u70 (a0 : Y131) (a1 : Int) : Option (Bool) :=
 if (decide ((↑a0.1.length : Int) < 1) || decide (8 < (↑a0.1.length : Int)) || (↑a0.2.1.length : Int) != (↑a0.1.length : Int) || (↑a0.2.2.1.length : Int) != (↑a0.1.length : Int) || (↑a0.2.2.2.length : Int) != a1) = true then
  some false
 else
  lp (u70L1 a0) 0
def k70 : Ct := lct 70 [.agg y131, .dat i64] (fun x => u70 x.1 x.2.1) (fun r : Bool => B r) (fun _ => ())
theorem o70 : Ok Tryz.prog k70 := by
 refine okl tok [.tmp 4] Tryz.func70 Tryz.ntmps70 rfl Tryz.results70 (by kernel_rfl) rfl ?_
 intro y ⟨a0, a1, _⟩ r H Q hn hr
 have hT := tc o42 tn
 refine qa tok hT [1, 2] (St.mk [p 1 (J a1), p 2 (AV.ptr 2 0)] [(2, Ob.box 131 (cellsD false y131 a0))]) (by kernel_rfl) ?_
 refine qa tok hT [1, 2, 5] (St.mk [p 1 (J a1), p 2 (AV.ptr 2 0), p 5 (I (↑a0.1.length : Int))] [(2, Ob.box 131 (cellsD false y131 a0))]) (by kernel_rfl) ?_
 refine vx_seq <| ?_
 refine qa tok hT [2, 5, 37] (St.mk [p 2 (AV.ptr 2 0), p 5 (I (↑a0.1.length : Int)), p 37 (B (decide ((↑a0.1.length : Int) < 1) || decide (8 < (↑a0.1.length : Int)) || (↑a0.2.1.length : Int) != (↑a0.1.length : Int) || (↑a0.2.2.1.length : Int) != (↑a0.1.length : Int) || (↑a0.2.2.2.length : Int) != a1))] [(2, Ob.box 131 (cellsD false y131 a0))]) (by kernel_rfl) ?_
 refine cd H (by kernel_rfl) (fun H => ?_) (fun H => ?_)
 ·refine qa tok hT [4] (St.mk [p 4 (B false)] [(2, Ob.box 131 (cellsD false y131 a0))]) (by kernel_rfl) ?_
  exact vx_ret <| fx_seq_ret <| hr H (by kernel_rfl)
 refine vx_skip <| fx_seq <| ?_
 refine jn r (fun (_ : Unit) => St.mk [p 2 (AV.ptr 2 0), p 5 (I (↑a0.1.length : Int))] [(2, Ob.box 131 (cellsD false y131 a0))]) (u70J0 a0) (fun _ H => ?_) (fun _ n0 e0 t0 => ?_)
 ·refine jn r (fun (_ : Unit) => St.mk [] []) (u70J2) (fun _ H => ?_) (fun _ n2 e2 t2 => ?_)
  ·refine qa tok hT [4] (St.mk [p 4 (B true)] []) (by kernel_rfl) ?_
   exact vx_ret <| hr H (by kernel_rfl)
  refine qa tok hT [2, 5, 7] (St.mk [p 2 (AV.ptr 2 0), p 5 (I (↑a0.1.length : Int)), p 7 (I 0)] [(2, Ob.box 131 (cellsD false y131 a0))]) (by kernel_rfl) ?_
  refine vx_block <| ?_
  refine lx (fun (v1 : Int) => St.mk [p 2 (AV.ptr 2 0), p 5 (I (↑a0.1.length : Int)), p 7 (I v1)] [(2, Ob.box 131 (cellsD false y131 a0))]) 0 H (by kernel_rfl) fun _ g3 b3 e3 t3 v1 H => ?_
  refine vx_seq <| ?_
  refine qa tok hT [2, 5, 7, 96] (St.mk [p 2 (AV.ptr 2 0), p 5 (I (↑a0.1.length : Int)), p 7 (I v1), p 96 (B (decide (v1 < (↑a0.2.2.2.length : Int))))] [(2, Ob.box 131 (cellsD false y131 a0))]) (by kernel_rfl) ?_
  refine cd H (by kernel_rfl) (fun H => ?_) (fun H => ?_)
  ·refine vx_skip <| fx_seq <| vx_seq <| vx_block <| ?_
   refine qb tok hT [2, 5, 7, 107] (St.mk [p 2 (AV.ptr 2 0), p 5 (I (↑a0.1.length : Int)), p 7 (I v1), p 107 (B !vl (u42 (a0.2.2.2.getD v1.toNat 0) 0 ((↑a0.1.length : Int) - 1)))] [(2, Ob.box 131 (cellsD false y131 a0))]) H (by kernel_rfl) fun H => ?_
   refine cd H (by kernel_rfl) (fun H => ?_) (fun H => ?_)
   ·refine qa tok hT [4] (St.mk [p 4 (B false)] [(2, Ob.box 131 (cellsD false y131 a0))]) (by kernel_rfl) ?_
    exact vx_ret <| fx_blk_ret <| fx_seq_ret <| t3 <| fx_blk_ret <| t2 <| hr H (by kernel_rfl)
   refine vx_skip <| fx_blk <| fx_seq <| ?_
   refine zb tok hT [2, 5, 7] (St.mk [p 2 (AV.ptr 2 0), p 5 (I (↑a0.1.length : Int)), p 7 (I (v1 + 1))] [(2, Ob.box 131 (cellsD false y131 a0))]) H (by kernel_rfl) fun H => ?_
   exact b3 H (by kernel_rfl)
  exact vx_exit <| fx_seq_exit <| e3 <| fx_blk_exit rfl <| n2 H (by kernel_rfl)
 refine qa tok hT [2, 5, 6] (St.mk [p 2 (AV.ptr 2 0), p 5 (I (↑a0.1.length : Int)), p 6 (I 0)] [(2, Ob.box 131 (cellsD false y131 a0))]) (by kernel_rfl) ?_
 refine vx_block <| ?_
 refine lx (fun (v0 : Int) => St.mk [p 2 (AV.ptr 2 0), p 5 (I (↑a0.1.length : Int)), p 6 (I v0)] [(2, Ob.box 131 (cellsD false y131 a0))]) 0 H (by kernel_rfl) fun _ g1 b1 e1 t1 v0 H => ?_
 refine vx_seq <| ?_
 refine qa tok hT [2, 5, 6, 40] (St.mk [p 2 (AV.ptr 2 0), p 5 (I (↑a0.1.length : Int)), p 6 (I v0), p 40 (B (decide (v0 < (↑a0.1.length : Int))))] [(2, Ob.box 131 (cellsD false y131 a0))]) (by kernel_rfl) ?_
 refine cd H (by kernel_rfl) (fun H => ?_) (fun H => ?_)
 ·refine vx_skip <| fx_seq <| vx_seq <| vx_block <| vx_seq <| ?_
  refine qb tok hT [2, 5, 6, 51, 52, 53, 54, 55, 56, 57, 58] (St.mk [p 2 (AV.ptr 2 0), p 5 (I (↑a0.1.length : Int)), p 6 (I v0), p 58 (B (!vl (u42 (a0.2.2.1.getD v0.toNat 0) 0 500) || !vl (u42 (a0.2.1.getD v0.toNat 0) 0 1000)))] [(2, Ob.box 131 (cellsD false y131 a0))]) H (by kernel_rfl) fun H => ?_
  refine cd H (by kernel_rfl) (fun H => ?_) (fun H => ?_)
  ·refine qa tok hT [4] (St.mk [p 4 (B false)] [(2, Ob.box 131 (cellsD false y131 a0))]) (by kernel_rfl) ?_
   exact vx_ret <| fx_seq_ret <| fx_blk_ret <| fx_seq_ret <| t1 <| fx_blk_ret <| t0 <| hr H (by kernel_rfl)
  refine vx_skip <| fx_seq <| ?_
  refine qb tok hT [2, 5, 6, 62, 63, 64, 65, 66, 67, 68, 69, 70, 71, 72, 73, 74, 75, 78, 79, 80, 81, 82, 83, 84, 85, 86, 87, 88, 89, 90, 91] (St.mk [p 2 (AV.ptr 2 0), p 5 (I (↑a0.1.length : Int)), p 6 (I v0), p 91 (B (v0 == 0 && (a0.1.getD v0.toNat 0 != -1 || a0.2.1.getD v0.toNat 0 != 0) || decide (0 < v0) && !vl (u42 (a0.1.getD v0.toNat 0) 0 (v0 - 1))))] [(2, Ob.box 131 (cellsD false y131 a0))]) H (by kernel_rfl) fun H => ?_
  refine cd H (by kernel_rfl) (fun H => ?_) (fun H => ?_)
  ·refine qa tok hT [4] (St.mk [p 4 (B false)] [(2, Ob.box 131 (cellsD false y131 a0))]) (by kernel_rfl) ?_
   exact vx_ret <| fx_blk_ret <| fx_seq_ret <| t1 <| fx_blk_ret <| t0 <| hr H (by kernel_rfl)
  refine vx_skip <| fx_blk <| fx_seq <| ?_
  refine zb tok hT [2, 5, 6] (St.mk [p 2 (AV.ptr 2 0), p 5 (I (↑a0.1.length : Int)), p 6 (I (v0 + 1))] [(2, Ob.box 131 (cellsD false y131 a0))]) H (by kernel_rfl) fun H => ?_
  exact b1 H (by kernel_rfl)
 exact vx_exit <| fx_seq_exit <| e1 <| fx_blk_exit rfl <| n0 H (by kernel_rfl)
def u71J0 : List Int → Option (List Int)
 | v5 =>
 some v5
def u71J2 (v2 : Int) (g1 : Int × List Int → Option (List Int)) : List Int → Option (List Int)
 | v4 =>
 gd (in64 (v2 + 1) ∧ True) <| 
 g1 (v2 + 1, v4)
def u71L1 (v0 : List Y163) (a1 : Int) (g1 : Int × List Int → Option (List Int)) : Int × List Int → Option (List Int)
 | (v2, v3) =>
 if (decide (v2 < (↑v0.length : Int))) = true then
  gd (ix v2 v0.length ∧ v2.toNat < v0.length ∧ (((v0.getD v2.toNat (dflt y163)).2.2.1 == a1) = true ∧ True → ix v2 v0.length) ∧ (((v0.getD v2.toNat (dflt y163)).2.2.1 == a1) = true ∧ True → v2.toNat < v0.length) ∧ True) <| 
  if ((v0.getD v2.toNat (dflt y163)).2.2.1 == a1 && !(v0.getD v2.toNat (dflt y163)).2.2.2) = true then
   gd ((v3.length + [v2].length ≤ 9223372036854775807 ∧ (v3.length + [v2].length) * 8 ≤ 140737488355328) ∧ True) <| 
   u71J2 v2 g1 (v3 ++ [v2])
  else
   u71J2 v2 g1 v3
 else
  u71J0 v3
def u71 (a0 : Y41) (a1 : Int) : Option (List Int) :=
 gd ((u72 a0).isSome = true ∧ True) <| lt (vl (u72 a0)) fun v0 =>
 lp (u71L1 v0 a1) (0, [])
def k71 : Ct := lct 71 [.agg y41, .dat i64] (fun x => u71 x.1 x.2.1) (fun r : List Int => AV.ow 2 true i64 r) (fun _ => ())
theorem o71 : Ok Tryz.prog k71 := by
 refine okl tok [.tmp 4] Tryz.func71 Tryz.ntmps71 rfl Tryz.results71 (by kernel_rfl) rfl ?_
 intro y ⟨a0, a1, _⟩ r H Q hn hr
 have hT := tc o72 tn
 refine qa tok hT [1, 2] (St.mk [p 1 (J a1), p 2 (AV.ptr 2 0)] [(2, Ob.box 41 (cellsD false y41 a0))]) (by kernel_rfl) ?_
 refine qa tok hT [1, 2, 5] (St.mk [p 1 (J a1), p 2 (AV.ptr 2 0), p 5 (AV.os 8 0)] [(8, Ob.arr 2 true i64 [] 0), (2, Ob.box 41 (cellsD false y41 a0))]) (by kernel_rfl) ?_
 refine qd tok hT [1, 5, 6] (fun v0 => St.mk [p 1 (J a1), p 5 (AV.os 8 0), p 6 (AV.os 10 0)] [(10, Ob.arr 163 true y163 v0 0), (8, Ob.arr 2 true i64 [] 0), (2, Ob.box 41 (cellsD false y41 a0))]) H (by kernel_rfl) fun v0 H => ?_
 refine jn r (fun (v5 : List Int) => St.mk [p 5 (AV.os 8 0)] [(8, Ob.arr 2 true i64 v5 0)]) (u71J0) (fun v5 H => ?_) (fun _ n0 e0 t0 => ?_)
 ·refine qa tok hT [4] (St.mk [p 4 (AV.os 8 0)] [(8, Ob.arr 2 true i64 v5 0)]) (by kernel_rfl) ?_
  exact vx_ret <| hr H (by kernel_rfl)
 refine qa tok hT [1, 5, 6, 7] (St.mk [p 1 (J a1), p 5 (AV.os 8 0), p 6 (AV.os 10 0), p 7 (I 0)] [(10, Ob.arr 163 true y163 v0 0), (8, Ob.arr 2 true i64 [] 0), (2, Ob.box 41 (cellsD false y41 a0))]) (by kernel_rfl) ?_
 refine vx_block <| ?_
 refine lx (fun ((v2, v3) : Int × List Int) => St.mk [p 1 (J a1), p 5 (AV.os 8 0), p 6 (AV.os 10 0), p 7 (I v2)] [(10, Ob.arr 163 true y163 v0 0), (8, Ob.arr 2 true i64 v3 0)]) (0, []) H (by kernel_rfl) fun _ g1 b1 e1 t1 ⟨v2, v3⟩ H => ?_
 refine vx_seq <| ?_
 refine qa tok hT [1, 5, 6, 7, 14] (St.mk [p 1 (J a1), p 5 (AV.os 8 0), p 6 (AV.os 10 0), p 7 (I v2), p 14 (B (decide (v2 < (↑v0.length : Int))))] [(10, Ob.arr 163 true y163 v0 0), (8, Ob.arr 2 true i64 v3 0)]) (by kernel_rfl) ?_
 refine cd H (by kernel_rfl) (fun H => ?_) (fun H => ?_)
 ·refine vx_skip <| fx_seq <| ?_
  refine jn r (fun (v4 : List Int) => St.mk [p 1 (J a1), p 5 (AV.os 8 0), p 6 (AV.os 10 0), p 7 (I v2)] [(8, Ob.arr 2 true i64 v4 0), (10, Ob.arr 163 true y163 v0 0)]) (u71J2 v2 g1) (fun v4 H => ?_) (fun _ n2 e2 t2 => ?_)
  ·refine zb tok hT [1, 5, 6, 7] (St.mk [p 1 (J a1), p 5 (AV.os 8 0), p 6 (AV.os 10 0), p 7 (I (v2 + 1))] [(8, Ob.arr 2 true i64 v4 0), (10, Ob.arr 163 true y163 v0 0)]) H (by kernel_rfl) fun H => ?_
   exact b1 H (by kernel_rfl)
  refine vx_block <| ?_
  refine qb tok hT [1, 5, 6, 7, 25, 26, 27, 28, 29, 30, 31] (St.mk [p 1 (J a1), p 5 (AV.os 8 0), p 6 (AV.os 10 0), p 7 (I v2), p 31 (B ((v0.getD v2.toNat (dflt y163)).2.2.1 == a1 && !(v0.getD v2.toNat (dflt y163)).2.2.2))] [(10, Ob.arr 163 true y163 v0 0), (8, Ob.arr 2 true i64 v3 0)]) H (by kernel_rfl) fun H => ?_
  refine cd H (by kernel_rfl) (fun H => ?_) (fun H => ?_)
  ·refine zb tok hT [1, 5, 6, 7] (St.mk [p 1 (J a1), p 5 (AV.os 8 1), p 6 (AV.os 10 0), p 7 (I v2)] [(8, Ob.arr 2 true i64 (v3 ++ [v2]) 1), (34, Ob.arr 2 true i64 [v2] 0), (10, Ob.arr 163 true y163 v0 0)]) H (by kernel_rfl) fun H => ?_
   exact fx_blk <| n2 H (by kernel_rfl)
  exact vx_skip <| fx_blk <| n2 H (by kernel_rfl)
 exact vx_exit <| fx_seq_exit <| e1 <| fx_blk_exit rfl <| n0 H (by kernel_rfl)
def u142J0 (a0 : ByteArray) : Unit → Option (Bool)
 | _ =>
 some (decide (1 ≤ (↑a0.size : Int)) && decide ((↑a0.size : Int) ≤ 8))
def u142L1 (a0 : ByteArray) (g1 : Int → Option (Bool)) : Int → Option (Bool)
 | v0 =>
 if (decide (v0 < (↑a0.size : Int))) = true then
  gd (ix v0 a0.size ∧ (decide (97 ≤ byteAt a0 v0.toNat) = true ∧ True → ix v0 a0.size) ∧ True) <| 
  gd (ix v0 a0.size ∧ (decide (48 ≤ byteAt a0 v0.toNat) = true ∧ True → ix v0 a0.size) ∧ True) <| 
  if (!(decide (97 ≤ byteAt a0 v0.toNat) && decide (byteAt a0 v0.toNat ≤ 122)) && !(decide (48 ≤ byteAt a0 v0.toNat) && decide (byteAt a0 v0.toNat ≤ 57) && decide (0 < v0))) = true then
   some false
  else
   gd (in64 (v0 + 1) ∧ True) <| 
   g1 (v0 + 1)
 else
  u142J0 a0 ()
def u142 (a0 : ByteArray) : Option (Bool) :=
 lp (u142L1 a0) 0
def k142 : Ct := lct 142 [.dat Ty.str] (fun x => u142 x.1) (fun r : Bool => B r) (fun _ => ())
theorem o142 : Ok Tryz.prog k142 := by
 refine okl tok [.tmp 2] Tryz.func142 Tryz.ntmps142 rfl Tryz.results142 (by kernel_rfl) rfl ?_
 intro y ⟨a0, _⟩ r H Q hn hr
 have hT := @tn Tryz.prog
 refine qa tok hT [0] (St.mk [p 0 (U a0)] []) (by kernel_rfl) ?_
 refine jn r (fun (_ : Unit) => St.mk [p 0 (U a0)] []) (u142J0 a0) (fun _ H => ?_) (fun _ n0 e0 t0 => ?_)
 ·refine qa tok hT [2] (St.mk [p 2 (B (decide (1 ≤ (↑a0.size : Int)) && decide ((↑a0.size : Int) ≤ 8)))] []) (by kernel_rfl) ?_
  exact vx_ret <| hr H (by kernel_rfl)
 refine qa tok hT [0, 3] (St.mk [p 0 (U a0), p 3 (I 0)] []) (by kernel_rfl) ?_
 refine vx_block <| ?_
 refine lx (fun (v0 : Int) => St.mk [p 0 (U a0), p 3 (I v0)] []) 0 H (by kernel_rfl) fun _ g1 b1 e1 t1 v0 H => ?_
 refine vx_seq <| ?_
 refine qa tok hT [0, 3, 9] (St.mk [p 0 (U a0), p 3 (I v0), p 9 (B (decide (v0 < (↑a0.size : Int))))] []) (by kernel_rfl) ?_
 refine cd H (by kernel_rfl) (fun H => ?_) (fun H => ?_)
 ·refine vx_skip <| fx_seq <| vx_seq <| vx_block <| ?_
  refine qb tok hT [0, 3, 4, 17, 18, 19, 20] (St.mk [p 0 (U a0), p 3 (I v0), p 4 (B (decide (97 ≤ byteAt a0 v0.toNat) && decide (byteAt a0 v0.toNat ≤ 122)))] []) H (by kernel_rfl) fun H => ?_
  refine qb tok hT [0, 3, 4, 5, 27, 28, 29, 30] (St.mk [p 0 (U a0), p 3 (I v0), p 4 (B (decide (97 ≤ byteAt a0 v0.toNat) && decide (byteAt a0 v0.toNat ≤ 122))), p 5 (B (decide (48 ≤ byteAt a0 v0.toNat) && decide (byteAt a0 v0.toNat ≤ 57)))] []) H (by kernel_rfl) fun H => ?_
  refine qa tok hT [0, 3, 35, 36, 37, 38, 39, 40, 41] (St.mk [p 0 (U a0), p 3 (I v0), p 41 (B (!(decide (97 ≤ byteAt a0 v0.toNat) && decide (byteAt a0 v0.toNat ≤ 122)) && !(decide (48 ≤ byteAt a0 v0.toNat) && decide (byteAt a0 v0.toNat ≤ 57) && decide (0 < v0))))] []) (by kernel_rfl) ?_
  refine cd H (by kernel_rfl) (fun H => ?_) (fun H => ?_)
  ·refine qa tok hT [2] (St.mk [p 2 (B false)] []) (by kernel_rfl) ?_
   exact vx_ret <| fx_blk_ret <| fx_seq_ret <| t1 <| fx_blk_ret <| t0 <| hr H (by kernel_rfl)
  refine vx_skip <| fx_blk <| fx_seq <| ?_
  refine zb tok hT [0, 3] (St.mk [p 0 (U a0), p 3 (I (v0 + 1))] []) H (by kernel_rfl) fun H => ?_
  exact b1 H (by kernel_rfl)
 exact vx_exit <| fx_seq_exit <| e1 <| fx_blk_exit rfl <| n0 H (by kernel_rfl)
def u115J0 : Unit → Option (Bool)
 | _ =>
 some true
def u115J2 (v1 : Int) (g1 : Int → Option (Bool)) : Unit → Option (Bool)
 | _ =>
 gd (in64 (v1 + 1) ∧ True) <| 
 g1 (v1 + 1)
def u115L3 (a0 : List ByteArray) (v1 : Int) (g1 : Int → Option (Bool)) (g3 : Int → Option (Bool)) : Int → Option (Bool)
 | v2 =>
 if (decide (v2 < v1)) = true then
  gd (ix v2 a0.length ∧ ix v1 a0.length ∧ True) <| 
  if (decide (a0.getD v2.toNat (dflt Ty.str) = a0.getD v1.toNat (dflt Ty.str))) = true then
   some false
  else
   gd (in64 (v2 + 1) ∧ True) <| 
   g3 (v2 + 1)
 else
  u115J2 v1 g1 ()
def u115L1 (a0 : List ByteArray) (g1 : Int → Option (Bool)) : Int → Option (Bool)
 | v1 =>
 if (decide (v1 < (↑a0.length : Int))) = true then
  gd (ix v1 a0.length ∧ (u142 (a0.getD v1.toNat (dflt Ty.str))).isSome = true ∧ True) <| 
  if (!vl (u142 (a0.getD v1.toNat (dflt Ty.str)))) = true then
   some false
  else
   lp (u115L3 a0 v1 g1) 0
 else
  u115J0 ()
def u115 (a0 : List ByteArray) : Option (Bool) :=
 lp (u115L1 a0) 0
def k115 : Ct := lct 115 [.dat Ty.str.sl] (fun x => u115 x.1) (fun r : Bool => B r) (fun _ => ())
theorem o115 : Ok Tryz.prog k115 := by
 refine okl tok [.tmp 2] Tryz.func115 Tryz.ntmps115 rfl Tryz.results115 (by kernel_rfl) rfl ?_
 intro y ⟨a0, _⟩ r H Q hn hr
 have hT := tc o142 tn
 refine qa tok hT [0] (St.mk [p 0 (L Ty.str a0)] []) (by kernel_rfl) ?_
 refine jn r (fun (_ : Unit) => St.mk [] []) (u115J0) (fun _ H => ?_) (fun _ n0 e0 t0 => ?_)
 ·refine qa tok hT [2] (St.mk [p 2 (B true)] []) (by kernel_rfl) ?_
  exact vx_ret <| hr H (by kernel_rfl)
 refine qa tok hT [0, 3] (St.mk [p 0 (L Ty.str a0), p 3 (I 0)] []) (by kernel_rfl) ?_
 refine vx_block <| ?_
 refine lx (fun (v1 : Int) => St.mk [p 0 (L Ty.str a0), p 3 (I v1)] []) 0 H (by kernel_rfl) fun _ g1 b1 e1 t1 v1 H => ?_
 refine vx_seq <| ?_
 refine qa tok hT [0, 3, 8] (St.mk [p 0 (L Ty.str a0), p 3 (I v1), p 8 (B (decide (v1 < (↑a0.length : Int))))] []) (by kernel_rfl) ?_
 refine cd H (by kernel_rfl) (fun H => ?_) (fun H => ?_)
 ·refine vx_skip <| fx_seq <| ?_
  refine jn r (fun (_ : Unit) => St.mk [p 0 (L Ty.str a0), p 3 (I v1)] []) (u115J2 v1 g1) (fun _ H => ?_) (fun _ n2 e2 t2 => ?_)
  ·refine zb tok hT [0, 3] (St.mk [p 0 (L Ty.str a0), p 3 (I (v1 + 1))] []) H (by kernel_rfl) fun H => ?_
   exact b1 H (by kernel_rfl)
  refine vx_block <| vx_seq <| ?_
  refine qb tok hT [0, 3, 16] (St.mk [p 0 (L Ty.str a0), p 3 (I v1), p 16 (B !vl (u142 (a0.getD v1.toNat (dflt Ty.str))))] []) H (by kernel_rfl) fun H => ?_
  refine cd H (by kernel_rfl) (fun H => ?_) (fun H => ?_)
  ·refine qa tok hT [2] (St.mk [p 2 (B false)] []) (by kernel_rfl) ?_
   exact vx_ret <| fx_seq_ret <| fx_blk_ret <| t2 <| t1 <| fx_blk_ret <| t0 <| hr H (by kernel_rfl)
  refine vx_skip <| fx_seq <| ?_
  refine qa tok hT [0, 3, 4] (St.mk [p 0 (L Ty.str a0), p 3 (I v1), p 4 (I 0)] []) (by kernel_rfl) ?_
  refine vx_block <| ?_
  refine lx (fun (v2 : Int) => St.mk [p 0 (L Ty.str a0), p 3 (I v1), p 4 (I v2)] []) 0 H (by kernel_rfl) fun _ g3 b3 e3 t3 v2 H => ?_
  refine vx_seq <| ?_
  refine qa tok hT [0, 3, 4, 19] (St.mk [p 0 (L Ty.str a0), p 3 (I v1), p 4 (I v2), p 19 (B (decide (v2 < v1)))] []) (by kernel_rfl) ?_
  refine cd H (by kernel_rfl) (fun H => ?_) (fun H => ?_)
  ·refine vx_skip <| fx_seq <| vx_seq <| vx_block <| ?_
   refine qb tok hT [0, 3, 4, 30] (St.mk [p 0 (L Ty.str a0), p 3 (I v1), p 4 (I v2), p 30 (B (decide (a0.getD v2.toNat (dflt Ty.str) = a0.getD v1.toNat (dflt Ty.str))))] []) H (by kernel_rfl) fun H => ?_
   refine cd H (by kernel_rfl) (fun H => ?_) (fun H => ?_)
   ·refine qa tok hT [2] (St.mk [p 2 (B false)] []) (by kernel_rfl) ?_
    exact vx_ret <| fx_blk_ret <| fx_seq_ret <| t3 <| fx_blk_ret <| fx_blk_ret <| t2 <| t1 <| fx_blk_ret <| t0 <| hr H (by kernel_rfl)
   refine vx_skip <| fx_blk <| fx_seq <| ?_
   refine zb tok hT [0, 3, 4] (St.mk [p 0 (L Ty.str a0), p 3 (I v1), p 4 (I (v2 + 1))] []) H (by kernel_rfl) fun H => ?_
   exact b3 H (by kernel_rfl)
  exact vx_exit <| fx_seq_exit <| e3 <| fx_blk_exit rfl <| fx_blk <| n2 H (by kernel_rfl)
 exact vx_exit <| fx_seq_exit <| e1 <| fx_blk_exit rfl <| n0 H (by kernel_rfl)
def u114J4 : Unit → Option (Bool)
 | _ =>
 some true
def u114L5 (a1 : Y41) (g5 : Int → Option (Bool)) : Int → Option (Bool)
 | v5 =>
 if (decide (v5 < (↑a1.2.2.length : Int))) = true then
  gd (ix v5 a1.2.2.length ∧ (u42 (a1.2.2.getD v5.toNat (dflt y143)).2.1 1 2).isSome = true ∧ ((!vl (u42 (a1.2.2.getD v5.toNat (dflt y143)).2.1 1 2)) = false ∧ True → ix v5 a1.2.2.length) ∧ ((!vl (u42 (a1.2.2.getD v5.toNat (dflt y143)).2.1 1 2)) = false ∧ True → in64 ((↑a1.2.1.length : Int) - 1)) ∧ ((!vl (u42 (a1.2.2.getD v5.toNat (dflt y143)).2.1 1 2)) = false ∧ True → (u42 (a1.2.2.getD v5.toNat (dflt y143)).2.2 0 ((↑a1.2.1.length : Int) - 1)).isSome = true) ∧ True) <| 
  if (!vl (u42 (a1.2.2.getD v5.toNat (dflt y143)).2.1 1 2) || !vl (u42 (a1.2.2.getD v5.toNat (dflt y143)).2.2 0 ((↑a1.2.1.length : Int) - 1))) = true then
   some false
  else
   gd (in64 (v5 + 1) ∧ True) <| 
   g5 (v5 + 1)
 else
  u114J4 ()
def u114J0 (a1 : Y41) : Unit → Option (Bool)
 | _ =>
 lp (u114L5 a1) 0
def u114J2 (v2 : Int) (g1 : Int → Option (Bool)) : Unit → Option (Bool)
 | _ =>
 gd (in64 (v2 + 1) ∧ True) <| 
 g1 (v2 + 1)
def u114L3 (v3 : Y141) (a1 : Y41) (v2 : Int) (g1 : Int → Option (Bool)) (g3 : Int → Option (Bool)) : Int → Option (Bool)
 | v4 =>
 if (decide (v4 < (↑v3.2.2.length : Int))) = true then
  gd (ix v4 v3.2.2.length ∧ in64 ((↑a1.2.1.length : Int) - 1) ∧ (u42 (v3.2.2.getD v4.toNat 0) 0 ((↑a1.2.1.length : Int) - 1)).isSome = true ∧ True) <| 
  if (!vl (u42 (v3.2.2.getD v4.toNat 0) 0 ((↑a1.2.1.length : Int) - 1))) = true then
   some false
  else
   gd (in64 (v4 + 1) ∧ True) <| 
   g3 (v4 + 1)
 else
  u114J2 v2 g1 ()
def u114L1 (a1 : Y41) (a0 : List Y152) (g1 : Int → Option (Bool)) : Int → Option (Bool)
 | v2 =>
 if (decide (v2 < (↑a1.1.length : Int))) = true then
  gd (ix v2 a1.1.length ∧ True) <| lt (a1.1.getD v2.toNat (dflt y141)) fun v3 =>
  gd (in64 ((↑a0.length : Int) - 1) ∧ (u42 v3.2.1 0 ((↑a0.length : Int) - 1)).isSome = true ∧ ((!vl (u42 v3.2.1 0 ((↑a0.length : Int) - 1))) = false ∧ True → ix v3.2.1 a0.length) ∧ True) <| 
  if (!vl (u42 v3.2.1 0 ((↑a0.length : Int) - 1)) || (↑v3.2.2.length : Int) != (↑(a0.getD v3.2.1.toNat (dflt y152)).2.2.1.length : Int)) = true then
   some false
  else
   lp (u114L3 v3 a1 v2 g1) 0
 else
  u114J0 a1 ()
def u114 (a0 : List Y152) (a1 : Y41) : Option (Bool) :=
 lp (u114L1 a1 a0) 0
def k114 : Ct := lct 114 [.agg y152.sl, .agg y41] (fun x => u114 x.1 x.2.1) (fun r : Bool => B r) (fun _ => ())
theorem o114 : Ok Tryz.prog k114 := by
 refine okl tok [.tmp 4] Tryz.func114 Tryz.ntmps114 rfl Tryz.results114 (by kernel_rfl) rfl ?_
 intro y ⟨a0, a1, _⟩ r H Q hn hr
 have hT := tc o42 tn
 refine qa tok hT [2, 3] (St.mk [p 2 (AV.ptr 2 0), p 3 (AV.ptr 3 0)] [(3, Ob.box 41 (cellsD false y41 a1)), (2, Ob.box 37 [L y152 a0])]) (by kernel_rfl) ?_
 refine qa tok hT [2, 3, 5] (St.mk [p 2 (AV.ptr 2 0), p 3 (AV.ptr 3 0), p 5 (I (↑a1.2.1.length : Int))] [(3, Ob.box 41 (cellsD false y41 a1)), (2, Ob.box 37 [L y152 a0])]) (by kernel_rfl) ?_
 refine jn r (fun (_ : Unit) => St.mk [p 3 (AV.ptr 3 0), p 5 (I (↑a1.2.1.length : Int))] [(3, Ob.box 41 (cellsD false y41 a1))]) (u114J0 a1) (fun _ H => ?_) (fun _ n0 e0 t0 => ?_)
 ·refine jn r (fun (_ : Unit) => St.mk [] []) (u114J4) (fun _ H => ?_) (fun _ n4 e4 t4 => ?_)
  ·refine qa tok hT [4] (St.mk [p 4 (B true)] []) (by kernel_rfl) ?_
   exact vx_ret <| hr H (by kernel_rfl)
  refine qa tok hT [3, 5, 9] (St.mk [p 3 (AV.ptr 3 0), p 5 (I (↑a1.2.1.length : Int)), p 9 (I 0)] [(3, Ob.box 41 (cellsD false y41 a1))]) (by kernel_rfl) ?_
  refine vx_block <| ?_
  refine lx (fun (v5 : Int) => St.mk [p 3 (AV.ptr 3 0), p 5 (I (↑a1.2.1.length : Int)), p 9 (I v5)] [(3, Ob.box 41 (cellsD false y41 a1))]) 0 H (by kernel_rfl) fun _ g5 b5 e5 t5 v5 H => ?_
  refine vx_seq <| ?_
  refine qa tok hT [3, 5, 9, 67] (St.mk [p 3 (AV.ptr 3 0), p 5 (I (↑a1.2.1.length : Int)), p 9 (I v5), p 67 (B (decide (v5 < (↑a1.2.2.length : Int))))] [(3, Ob.box 41 (cellsD false y41 a1))]) (by kernel_rfl) ?_
  refine cd H (by kernel_rfl) (fun H => ?_) (fun H => ?_)
  ·refine vx_skip <| fx_seq <| vx_seq <| vx_block <| ?_
   refine qb tok hT [3, 5, 9, 79, 80, 81, 82, 83, 84, 85, 86, 87, 88, 89] (St.mk [p 3 (AV.ptr 3 0), p 5 (I (↑a1.2.1.length : Int)), p 9 (I v5), p 89 (B (!vl (u42 (a1.2.2.getD v5.toNat (dflt y143)).2.1 1 2) || !vl (u42 (a1.2.2.getD v5.toNat (dflt y143)).2.2 0 ((↑a1.2.1.length : Int) - 1))))] [(3, Ob.box 41 (cellsD false y41 a1))]) H (by kernel_rfl) fun H => ?_
   refine cd H (by kernel_rfl) (fun H => ?_) (fun H => ?_)
   ·refine qa tok hT [4] (St.mk [p 4 (B false)] [(3, Ob.box 41 (cellsD false y41 a1))]) (by kernel_rfl) ?_
    exact vx_ret <| fx_blk_ret <| fx_seq_ret <| t5 <| fx_blk_ret <| t4 <| hr H (by kernel_rfl)
   refine vx_skip <| fx_blk <| fx_seq <| ?_
   refine zb tok hT [3, 5, 9] (St.mk [p 3 (AV.ptr 3 0), p 5 (I (↑a1.2.1.length : Int)), p 9 (I (v5 + 1))] [(3, Ob.box 41 (cellsD false y41 a1))]) H (by kernel_rfl) fun H => ?_
   exact b5 H (by kernel_rfl)
  exact vx_exit <| fx_seq_exit <| e5 <| fx_blk_exit rfl <| n4 H (by kernel_rfl)
 refine qa tok hT [2, 3, 5, 6] (St.mk [p 2 (AV.ptr 2 0), p 3 (AV.ptr 3 0), p 5 (I (↑a1.2.1.length : Int)), p 6 (I 0)] [(3, Ob.box 41 (cellsD false y41 a1)), (2, Ob.box 37 [L y152 a0])]) (by kernel_rfl) ?_
 refine vx_block <| ?_
 refine lx (fun (v2 : Int) => St.mk [p 2 (AV.ptr 2 0), p 3 (AV.ptr 3 0), p 5 (I (↑a1.2.1.length : Int)), p 6 (I v2)] [(3, Ob.box 41 (cellsD false y41 a1)), (2, Ob.box 37 [L y152 a0])]) 0 H (by kernel_rfl) fun _ g1 b1 e1 t1 v2 H => ?_
 refine vx_seq <| ?_
 refine qa tok hT [2, 3, 5, 6, 17] (St.mk [p 2 (AV.ptr 2 0), p 3 (AV.ptr 3 0), p 5 (I (↑a1.2.1.length : Int)), p 6 (I v2), p 17 (B (decide (v2 < (↑a1.1.length : Int))))] [(3, Ob.box 41 (cellsD false y41 a1)), (2, Ob.box 37 [L y152 a0])]) (by kernel_rfl) ?_
 refine cd H (by kernel_rfl) (fun H => ?_) (fun H => ?_)
 ·refine vx_skip <| fx_seq <| ?_
  refine jn r (fun (_ : Unit) => St.mk [p 2 (AV.ptr 2 0), p 3 (AV.ptr 3 0), p 5 (I (↑a1.2.1.length : Int)), p 6 (I v2)] [(3, Ob.box 41 (cellsD false y41 a1)), (2, Ob.box 37 [L y152 a0])]) (u114J2 v2 g1) (fun _ H => ?_) (fun _ n2 e2 t2 => ?_)
  ·refine zb tok hT [2, 3, 5, 6] (St.mk [p 2 (AV.ptr 2 0), p 3 (AV.ptr 3 0), p 5 (I (↑a1.2.1.length : Int)), p 6 (I (v2 + 1))] [(3, Ob.box 41 (cellsD false y41 a1)), (2, Ob.box 37 [L y152 a0])]) H (by kernel_rfl) fun H => ?_
   exact b1 H (by kernel_rfl)
  refine vx_block <| ?_
  refine qd tok hT [2, 3, 5, 6, 7] (fun v3 => St.mk [p 2 (AV.ptr 2 0), p 3 (AV.ptr 3 0), p 5 (I (↑a1.2.1.length : Int)), p 6 (I v2), p 7 (AV.ptr 7 0)] [(7, Ob.box 141 (cellsD false y141 v3)), (3, Ob.box 41 (cellsD false y41 a1)), (2, Ob.box 37 [L y152 a0])]) H (by kernel_rfl) fun v3 H => ?_
  refine vx_seq <| ?_
  refine qb tok hT [2, 3, 5, 6, 7, 34, 35, 36, 37, 38, 39, 40, 41, 42, 43, 44, 45, 46] (St.mk [p 2 (AV.ptr 2 0), p 3 (AV.ptr 3 0), p 5 (I (↑a1.2.1.length : Int)), p 6 (I v2), p 7 (AV.ptr 7 0), p 46 (B (!vl (u42 v3.2.1 0 ((↑a0.length : Int) - 1)) || (↑v3.2.2.length : Int) != (↑(a0.getD v3.2.1.toNat (dflt y152)).2.2.1.length : Int)))] [(7, Ob.box 141 (cellsD false y141 v3)), (3, Ob.box 41 (cellsD false y41 a1)), (2, Ob.box 37 [L y152 a0])]) H (by kernel_rfl) fun H => ?_
  refine cd H (by kernel_rfl) (fun H => ?_) (fun H => ?_)
  ·refine qa tok hT [4] (St.mk [p 4 (B false)] [(7, Ob.box 141 (cellsD false y141 v3)), (3, Ob.box 41 (cellsD false y41 a1)), (2, Ob.box 37 [L y152 a0])]) (by kernel_rfl) ?_
   exact vx_ret <| fx_seq_ret <| fx_blk_ret <| t2 <| t1 <| fx_blk_ret <| t0 <| hr H (by kernel_rfl)
  refine vx_skip <| fx_seq <| ?_
  refine qa tok hT [2, 3, 5, 6, 7, 8] (St.mk [p 2 (AV.ptr 2 0), p 3 (AV.ptr 3 0), p 5 (I (↑a1.2.1.length : Int)), p 6 (I v2), p 7 (AV.ptr 7 0), p 8 (I 0)] [(7, Ob.box 141 (cellsD false y141 v3)), (3, Ob.box 41 (cellsD false y41 a1)), (2, Ob.box 37 [L y152 a0])]) (by kernel_rfl) ?_
  refine vx_block <| ?_
  refine lx (fun (v4 : Int) => St.mk [p 2 (AV.ptr 2 0), p 3 (AV.ptr 3 0), p 5 (I (↑a1.2.1.length : Int)), p 6 (I v2), p 7 (AV.ptr 7 0), p 8 (I v4)] [(7, Ob.box 141 (cellsD false y141 v3)), (3, Ob.box 41 (cellsD false y41 a1)), (2, Ob.box 37 [L y152 a0])]) 0 H (by kernel_rfl) fun _ g3 b3 e3 t3 v4 H => ?_
  refine vx_seq <| ?_
  refine qa tok hT [2, 3, 5, 6, 7, 8, 51] (St.mk [p 2 (AV.ptr 2 0), p 3 (AV.ptr 3 0), p 5 (I (↑a1.2.1.length : Int)), p 6 (I v2), p 7 (AV.ptr 7 0), p 8 (I v4), p 51 (B (decide (v4 < (↑v3.2.2.length : Int))))] [(7, Ob.box 141 (cellsD false y141 v3)), (3, Ob.box 41 (cellsD false y41 a1)), (2, Ob.box 37 [L y152 a0])]) (by kernel_rfl) ?_
  refine cd H (by kernel_rfl) (fun H => ?_) (fun H => ?_)
  ·refine vx_skip <| fx_seq <| vx_seq <| vx_block <| ?_
   refine qb tok hT [2, 3, 5, 6, 7, 8, 62] (St.mk [p 2 (AV.ptr 2 0), p 3 (AV.ptr 3 0), p 5 (I (↑a1.2.1.length : Int)), p 6 (I v2), p 7 (AV.ptr 7 0), p 8 (I v4), p 62 (B !vl (u42 (v3.2.2.getD v4.toNat 0) 0 ((↑a1.2.1.length : Int) - 1)))] [(7, Ob.box 141 (cellsD false y141 v3)), (3, Ob.box 41 (cellsD false y41 a1)), (2, Ob.box 37 [L y152 a0])]) H (by kernel_rfl) fun H => ?_
   refine cd H (by kernel_rfl) (fun H => ?_) (fun H => ?_)
   ·refine qa tok hT [4] (St.mk [p 4 (B false)] [(7, Ob.box 141 (cellsD false y141 v3)), (3, Ob.box 41 (cellsD false y41 a1)), (2, Ob.box 37 [L y152 a0])]) (by kernel_rfl) ?_
    exact vx_ret <| fx_blk_ret <| fx_seq_ret <| t3 <| fx_blk_ret <| fx_blk_ret <| t2 <| t1 <| fx_blk_ret <| t0 <| hr H (by kernel_rfl)
   refine vx_skip <| fx_blk <| fx_seq <| ?_
   refine zb tok hT [2, 3, 5, 6, 7, 8] (St.mk [p 2 (AV.ptr 2 0), p 3 (AV.ptr 3 0), p 5 (I (↑a1.2.1.length : Int)), p 6 (I v2), p 7 (AV.ptr 7 0), p 8 (I (v4 + 1))] [(7, Ob.box 141 (cellsD false y141 v3)), (3, Ob.box 41 (cellsD false y41 a1)), (2, Ob.box 37 [L y152 a0])]) H (by kernel_rfl) fun H => ?_
   exact b3 H (by kernel_rfl)
  exact vx_exit <| fx_seq_exit <| e3 <| fx_blk_exit rfl <| fx_blk <| n2 H (by kernel_rfl)
 exact vx_exit <| fx_seq_exit <| e1 <| fx_blk_exit rfl <| n0 H (by kernel_rfl)
def u161J0 : List Int → Option (List Int)
 | v4 =>
 some v4
def u161L1 (a0 : Y152) (g1 : Int × List Int → Option (List Int)) : Int × List Int → Option (List Int)
 | (v1, v2) =>
 if (decide (v1 < (↑a0.2.2.2.1.length : Int))) = true then
  gd (ix v1 a0.2.2.2.1.length ∧ ix (a0.2.2.2.1.getD v1.toNat (dflt y89)).1 v2.length ∧ (a0.2.2.2.1.getD v1.toNat (dflt y89)).1.toNat < v2.length ∧ in64 (v2.getD (a0.2.2.2.1.getD v1.toNat (dflt y89)).1.toNat 0 + 1) ∧ ix (a0.2.2.2.1.getD v1.toNat (dflt y89)).1 v2.length ∧ (a0.2.2.2.1.getD v1.toNat (dflt y89)).1.toNat < v2.length ∧ True) <| lt (v2.set (a0.2.2.2.1.getD v1.toNat (dflt y89)).1.toNat (v2.getD (a0.2.2.2.1.getD v1.toNat (dflt y89)).1.toNat 0 + 1)) fun v3 =>
  gd (in64 (v1 + 1) ∧ True) <| 
  g1 (v1 + 1, v3)
 else
  u161J0 v2
def u161 (a0 : Y152) : Option (List Int) :=
 gd (((0 : Int) ≤ (6 : Int) ∧ (6 : Int) = (6 : Int) ∧ Int.toNat (6 : Int) * (8 : Nat) ≤ (281474976710656 : Nat) ∧ (6 : Int) ≤ (9223372036854775807 : Int)) ∧ True) <| 
 lp (u161L1 a0) ((0, List.replicate (Int.toNat (6 : Int)) (0 : Int)))
def k161 : Ct := lct 161 [.agg y152] (fun x => u161 x.1) (fun r : List Int => AV.ow 2 true i64 r) (fun _ => ())
theorem o161 : Ok Tryz.prog k161 := by
 refine okl tok [.tmp 2] Tryz.func161 Tryz.ntmps161 rfl Tryz.results161 (by kernel_rfl) rfl ?_
 intro y ⟨a0, _⟩ r H Q hn hr
 have hT := @tn Tryz.prog
 refine qa tok hT [1] (St.mk [p 1 (AV.ptr 1 0)] [(1, Ob.box 152 (cellsD false y152 a0))]) (by kernel_rfl) ?_
 refine qb tok hT [1, 3] (St.mk [p (1 : Nat) (AV.ptr (1 : Nat) (0 : Nat)), p (3 : Nat) (AV.os (5 : Nat) (0 : Nat))] [((5 : Nat), Ob.arr (nat_lit 2) true i64 (List.replicate (Int.toNat (6 : Int)) (0 : Int)) (0 : Nat)), ((1 : Nat), Ob.box (nat_lit 152) (cellsD false y152 a0))]) H (by kernel_rfl) fun H => ?_
 refine jn r (fun (v4 : List Int) => St.mk [p 3 (AV.os 5 0)] [(5, Ob.arr 2 true i64 v4 0)]) (u161J0) (fun v4 H => ?_) (fun _ n0 e0 t0 => ?_)
 ·refine qa tok hT [2] (St.mk [p 2 (AV.os 5 0)] [(5, Ob.arr 2 true i64 v4 0)]) (by kernel_rfl) ?_
  exact vx_ret <| hr H (by kernel_rfl)
 refine qa tok hT [1, 3, 4] (St.mk [p (1 : Nat) (AV.ptr (1 : Nat) (0 : Nat)), p (3 : Nat) (AV.os (5 : Nat) (0 : Nat)), p (4 : Nat) (I (0 : Int))] [((5 : Nat), Ob.arr (nat_lit 2) true i64 (List.replicate (Int.toNat (6 : Int)) (0 : Int)) (0 : Nat)), ((1 : Nat), Ob.box (nat_lit 152) (cellsD false y152 a0))]) (by kernel_rfl) ?_
 refine vx_block <| ?_
 refine lx (fun ((v1, v2) : Int × List Int) => St.mk [p 1 (AV.ptr 1 0), p 3 (AV.os 5 0), p 4 (I v1)] [(5, Ob.arr 2 true i64 v2 0), (1, Ob.box 152 (cellsD false y152 a0))]) ((0, List.replicate (Int.toNat (6 : Int)) (0 : Int))) H (by kernel_rfl) fun _ g1 b1 e1 t1 ⟨v1, v2⟩ H => ?_
 refine vx_seq <| ?_
 refine qa tok hT [1, 3, 4, 10] (St.mk [p 1 (AV.ptr 1 0), p 3 (AV.os 5 0), p 4 (I v1), p 10 (B (decide (v1 < (↑a0.2.2.2.1.length : Int))))] [(5, Ob.arr 2 true i64 v2 0), (1, Ob.box 152 (cellsD false y152 a0))]) (by kernel_rfl) ?_
 refine cd H (by kernel_rfl) (fun H => ?_) (fun H => ?_)
 ·refine vx_skip <| fx_seq <| vx_seq <| vx_block <| ?_
  refine zd tok hT [1, 3, 4] (fun v3 => St.mk [p 1 (AV.ptr 1 0), p 3 (AV.os 5 0), p 4 (I v1)] [(5, Ob.arr 2 true i64 v3 0), (1, Ob.box 152 (cellsD false y152 a0))]) H (by kernel_rfl) fun v3 H => ?_
  refine fx_blk <| fx_seq <| ?_
  refine zb tok hT [1, 3, 4] (St.mk [p 1 (AV.ptr 1 0), p 3 (AV.os 5 0), p 4 (I (v1 + 1))] [(5, Ob.arr 2 true i64 v3 0), (1, Ob.box 152 (cellsD false y152 a0))]) H (by kernel_rfl) fun H => ?_
  exact b1 H (by kernel_rfl)
 exact vx_exit <| fx_seq_exit <| e1 <| fx_blk_exit rfl <| n0 H (by kernel_rfl)
def u215J0 (a0 : List Int) : Unit → Option (Bool)
 | _ =>
 some (decide (1 ≤ (↑a0.length : Int)) && decide ((↑a0.length : Int) ≤ 4))
def u215L1 (a0 : List Int) (g1 : Int → Option (Bool)) : Int → Option (Bool)
 | v0 =>
 if (decide (v0 < (↑a0.length : Int))) = true then
  gd (ix v0 a0.length ∧ (u42 (a0.getD v0.toNat 0) 0 100000).isSome = true ∧ (decide (0 < v0) = true ∧ (!vl (u42 (a0.getD v0.toNat 0) 0 100000)) = false ∧ True → in64 (v0 - 1)) ∧ (decide (0 < v0) = true ∧ (!vl (u42 (a0.getD v0.toNat 0) 0 100000)) = false ∧ True → ix (v0 - 1) a0.length) ∧ (decide (0 < v0) = true ∧ (!vl (u42 (a0.getD v0.toNat 0) 0 100000)) = false ∧ True → ix v0 a0.length) ∧ True) <| 
  if (!vl (u42 (a0.getD v0.toNat 0) 0 100000) || decide (0 < v0) && decide (a0.getD v0.toNat 0 ≤ a0.getD (v0 - 1).toNat 0)) = true then
   some false
  else
   gd (in64 (v0 + 1) ∧ True) <| 
   g1 (v0 + 1)
 else
  u215J0 a0 ()
def u215 (a0 : List Int) : Option (Bool) :=
 lp (u215L1 a0) 0
def k215 : Ct := lct 215 [.dat i64.sl] (fun x => u215 x.1) (fun r : Bool => B r) (fun _ => ())
theorem o215 : Ok Tryz.prog k215 := by
 refine okl tok [.tmp 2] Tryz.func215 Tryz.ntmps215 rfl Tryz.results215 (by kernel_rfl) rfl ?_
 intro y ⟨a0, _⟩ r H Q hn hr
 have hT := tc o42 tn
 refine qa tok hT [0] (St.mk [p 0 (L i64 a0)] []) (by kernel_rfl) ?_
 refine jn r (fun (_ : Unit) => St.mk [p 0 (L i64 a0)] []) (u215J0 a0) (fun _ H => ?_) (fun _ n0 e0 t0 => ?_)
 ·refine qa tok hT [2] (St.mk [p 2 (B (decide (1 ≤ (↑a0.length : Int)) && decide ((↑a0.length : Int) ≤ 4)))] []) (by kernel_rfl) ?_
  exact vx_ret <| hr H (by kernel_rfl)
 refine qa tok hT [0, 3] (St.mk [p 0 (L i64 a0), p 3 (I 0)] []) (by kernel_rfl) ?_
 refine vx_block <| ?_
 refine lx (fun (v0 : Int) => St.mk [p 0 (L i64 a0), p 3 (I v0)] []) 0 H (by kernel_rfl) fun _ g1 b1 e1 t1 v0 H => ?_
 refine vx_seq <| ?_
 refine qa tok hT [0, 3, 7] (St.mk [p 0 (L i64 a0), p 3 (I v0), p 7 (B (decide (v0 < (↑a0.length : Int))))] []) (by kernel_rfl) ?_
 refine cd H (by kernel_rfl) (fun H => ?_) (fun H => ?_)
 ·refine vx_skip <| fx_seq <| vx_seq <| vx_block <| ?_
  refine qb tok hT [0, 3, 17, 18, 19, 20, 21, 22, 23, 24, 25, 26, 27, 28, 29, 30, 31] (St.mk [p 0 (L i64 a0), p 3 (I v0), p 31 (B (!vl (u42 (a0.getD v0.toNat 0) 0 100000) || decide (0 < v0) && decide (a0.getD v0.toNat 0 ≤ a0.getD (v0 - 1).toNat 0)))] []) H (by kernel_rfl) fun H => ?_
  refine cd H (by kernel_rfl) (fun H => ?_) (fun H => ?_)
  ·refine qa tok hT [2] (St.mk [p 2 (B false)] []) (by kernel_rfl) ?_
   exact vx_ret <| fx_blk_ret <| fx_seq_ret <| t1 <| fx_blk_ret <| t0 <| hr H (by kernel_rfl)
  refine vx_skip <| fx_blk <| fx_seq <| ?_
  refine zb tok hT [0, 3] (St.mk [p 0 (L i64 a0), p 3 (I (v0 + 1))] []) H (by kernel_rfl) fun H => ?_
  exact b1 H (by kernel_rfl)
 exact vx_exit <| fx_seq_exit <| e1 <| fx_blk_exit rfl <| n0 H (by kernel_rfl)
def u203J0 : Unit → Option (Bool)
 | _ =>
 some true
def u203L1 (a0 : Y96) (g1 : Int → Option (Bool)) : Int → Option (Bool)
 | v0 =>
 if (decide (v0 < (↑a0.2.2.length : Int))) = true then
  gd (ix v0 a0.2.2.length ∧ (u42 (a0.2.2.getD v0.toNat 0) (-1000000) 1000000).isSome = true ∧ True) <| 
  if (!vl (u42 (a0.2.2.getD v0.toNat 0) (-1000000) 1000000)) = true then
   some false
  else
   gd (in64 (v0 + 1) ∧ True) <| 
   g1 (v0 + 1)
 else
  u203J0 ()
def u203 (a0 : Y96) : Option (Bool) :=
 gd ((u215 a0.1).isSome = true ∧ ((!vl (u215 a0.1)) = false ∧ True → (u215 a0.2.1).isSome = true) ∧ ((!vl (u215 a0.1) || !vl (u215 a0.2.1)) = false ∧ True → in64 ((↑a0.1.length : Int) * (↑a0.2.1.length : Int))) ∧ True) <| 
 if (!vl (u215 a0.1) || !vl (u215 a0.2.1) || (↑a0.2.2.length : Int) != (↑a0.1.length : Int) * (↑a0.2.1.length : Int)) = true then
  some false
 else
  lp (u203L1 a0) 0
def k203 : Ct := lct 203 [.agg y96] (fun x => u203 x.1) (fun r : Bool => B r) (fun _ => ())
theorem o203 : Ok Tryz.prog k203 := by
 refine okl tok [.tmp 2] Tryz.func203 Tryz.ntmps203 rfl Tryz.results203 (by kernel_rfl) rfl ?_
 intro y ⟨a0, _⟩ r H Q hn hr
 have hT := tc o42 (tc o215 tn)
 refine qa tok hT [1] (St.mk [p 1 (AV.ptr 1 0)] [(1, Ob.box 96 (cellsD false y96 a0))]) (by kernel_rfl) ?_
 refine vx_seq <| ?_
 refine qb tok hT [1, 26] (St.mk [p 1 (AV.ptr 1 0), p 26 (B (!vl (u215 a0.1) || !vl (u215 a0.2.1) || (↑a0.2.2.length : Int) != (↑a0.1.length : Int) * (↑a0.2.1.length : Int)))] [(1, Ob.box 96 (cellsD false y96 a0))]) H (by kernel_rfl) fun H => ?_
 refine cd H (by kernel_rfl) (fun H => ?_) (fun H => ?_)
 ·refine qa tok hT [2] (St.mk [p 2 (B false)] [(1, Ob.box 96 (cellsD false y96 a0))]) (by kernel_rfl) ?_
  exact vx_ret <| fx_seq_ret <| hr H (by kernel_rfl)
 refine vx_skip <| fx_seq <| ?_
 refine jn r (fun (_ : Unit) => St.mk [] []) (u203J0) (fun _ H => ?_) (fun _ n0 e0 t0 => ?_)
 ·refine qa tok hT [2] (St.mk [p 2 (B true)] []) (by kernel_rfl) ?_
  exact vx_ret <| hr H (by kernel_rfl)
 refine qa tok hT [1, 3] (St.mk [p 1 (AV.ptr 1 0), p 3 (I 0)] [(1, Ob.box 96 (cellsD false y96 a0))]) (by kernel_rfl) ?_
 refine vx_block <| ?_
 refine lx (fun (v0 : Int) => St.mk [p 1 (AV.ptr 1 0), p 3 (I v0)] [(1, Ob.box 96 (cellsD false y96 a0))]) 0 H (by kernel_rfl) fun _ g1 b1 e1 t1 v0 H => ?_
 refine vx_seq <| ?_
 refine qa tok hT [1, 3, 31] (St.mk [p 1 (AV.ptr 1 0), p 3 (I v0), p 31 (B (decide (v0 < (↑a0.2.2.length : Int))))] [(1, Ob.box 96 (cellsD false y96 a0))]) (by kernel_rfl) ?_
 refine cd H (by kernel_rfl) (fun H => ?_) (fun H => ?_)
 ·refine vx_skip <| fx_seq <| vx_seq <| vx_block <| ?_
  refine qb tok hT [1, 3, 40] (St.mk [p 1 (AV.ptr 1 0), p 3 (I v0), p 40 (B !vl (u42 (a0.2.2.getD v0.toNat 0) (-1000000) 1000000))] [(1, Ob.box 96 (cellsD false y96 a0))]) H (by kernel_rfl) fun H => ?_
  refine cd H (by kernel_rfl) (fun H => ?_) (fun H => ?_)
  ·refine qa tok hT [2] (St.mk [p 2 (B false)] [(1, Ob.box 96 (cellsD false y96 a0))]) (by kernel_rfl) ?_
   exact vx_ret <| fx_blk_ret <| fx_seq_ret <| t1 <| fx_blk_ret <| t0 <| hr H (by kernel_rfl)
  refine vx_skip <| fx_blk <| fx_seq <| ?_
  refine zb tok hT [1, 3] (St.mk [p 1 (AV.ptr 1 0), p 3 (I (v0 + 1))] [(1, Ob.box 96 (cellsD false y96 a0))]) H (by kernel_rfl) fun H => ?_
  exact b1 H (by kernel_rfl)
 exact vx_exit <| fx_seq_exit <| e1 <| fx_blk_exit rfl <| n0 H (by kernel_rfl)
def u187J0 : Int × Int → Option (Y105 × Int)
 | (v5, v6) =>
 some (((v5, v6), (0 : Int)))
def u187L1 (a0 : Y96) (g1 : Int × Int × Int → Option (Y105 × Int)) : Int × Int × Int → Option (Y105 × Int)
 | (v2, v3, v4) =>
 if (decide (v2 < (↑a0.2.2.length : Int))) = true then
  gd (ix v2 a0.2.2.length ∧ True) <| 
  gd (ix v2 a0.2.2.length ∧ True) <| 
  gd (in64 (v2 + 1) ∧ True) <| 
  g1 ((v2 + 1, min v3 (a0.2.2.getD v2.toNat 0), max v4 (a0.2.2.getD v2.toNat 0)))
 else
  u187J0 (v3, v4)
def u187 (a0 : Y96) : Option (Y105 × Int) :=
 gd ((u203 a0).isSome = true ∧ True) <| 
 if (!vl (u203 a0)) = true then
  some ((((0 : Int), (0 : Int)), (1 : Int)))
 else
  gd (ix 0 a0.2.2.length ∧ ix 0 a0.2.2.length ∧ True) <| 
  lp (u187L1 a0) ((1, a0.2.2.getD (Int.toNat (0 : Int)) (0 : Int), a0.2.2.getD (Int.toNat (0 : Int)) (0 : Int)))
def k187 : Ct := lct 187 [.agg y96] (fun x => u187 x.1) (fun r : Y105 × Int => AV.tup [AV.agg [I r.1.1, I r.1.2], I r.2]) (fun _ => ())
theorem o187 : Ok Tryz.prog k187 := by
 refine okl tok [.cell 2 105, .tmp 3] Tryz.func187 Tryz.ntmps187 rfl Tryz.results187 (by kernel_rfl) rfl ?_
 intro y ⟨a0, _⟩ r H Q hn hr
 have hT := tc o203 tn
 refine qa tok hT [1, 2] (St.mk [p 1 (AV.ptr 1 0), p 2 (AV.ptr 2 0)] [(2, Ob.box 105 [I 0, I 0]), (1, Ob.box 96 (cellsD false y96 a0))]) (by kernel_rfl) ?_
 refine vx_seq <| ?_
 refine qb tok hT [1, 2, 8] (St.mk [p 1 (AV.ptr 1 0), p 2 (AV.ptr 2 0), p 8 (B !vl (u203 a0))] [(2, Ob.box 105 [I 0, I 0]), (1, Ob.box 96 (cellsD false y96 a0))]) H (by kernel_rfl) fun H => ?_
 refine cd H (by kernel_rfl) (fun H => ?_) (fun H => ?_)
 ·refine qa tok hT [2, 3] (St.mk [p 2 (AV.ptr 2 0), p 3 (I 1)] [(2, Ob.box 105 [I 0, I 0]), (1, Ob.box 96 (cellsD false y96 a0))]) (by kernel_rfl) ?_
  exact vx_ret <| fx_seq_ret <| hr H (by kernel_rfl)
 refine vx_skip <| fx_seq <| ?_
 refine qb tok hT [1, 2, 4] (St.mk [p (1 : Nat) (AV.ptr (1 : Nat) (0 : Nat)), p (2 : Nat) (AV.ptr (2 : Nat) (0 : Nat)), p (4 : Nat) (AV.ptr (4 : Nat) (0 : Nat))] [((4 : Nat), Ob.box (nat_lit 105) [J (a0.2.2.getD (Int.toNat (0 : Int)) (0 : Int)), J (a0.2.2.getD (Int.toNat (0 : Int)) (0 : Int))]), ((2 : Nat), Ob.box (nat_lit 105) [I (0 : Int), I (0 : Int)]), ((1 : Nat), Ob.box (nat_lit 96) (cellsD false y96 a0))]) H (by kernel_rfl) fun H => ?_
 refine jn r (fun ((v5, v6) : Int × Int) => St.mk [p 2 (AV.ptr 2 0), p 4 (AV.ptr 4 0)] [(4, Ob.box 105 [J v5, J v6]), (2, Ob.box 105 [I 0, I 0])]) (u187J0) (fun ⟨v5, v6⟩ H => ?_) (fun _ n0 e0 t0 => ?_)
 ·refine qa tok hT [2, 3] (St.mk [p 2 (AV.ptr 2 0), p 3 (I 0)] [(2, Ob.box 105 [J v5, J v6]), (4, Ob.box 105 [J v5, J v6])]) (by kernel_rfl) ?_
  exact vx_ret <| hr H (by kernel_rfl)
 refine qa tok hT [1, 2, 4, 5] (St.mk [p (1 : Nat) (AV.ptr (1 : Nat) (0 : Nat)), p (2 : Nat) (AV.ptr (2 : Nat) (0 : Nat)), p (4 : Nat) (AV.ptr (4 : Nat) (0 : Nat)), p (5 : Nat) (I (1 : Int))] [((4 : Nat), Ob.box (nat_lit 105) [J (a0.2.2.getD (Int.toNat (0 : Int)) (0 : Int)), J (a0.2.2.getD (Int.toNat (0 : Int)) (0 : Int))]), ((2 : Nat), Ob.box (nat_lit 105) [I (0 : Int), I (0 : Int)]), ((1 : Nat), Ob.box (nat_lit 96) (cellsD false y96 a0))]) (by kernel_rfl) ?_
 refine vx_block <| ?_
 refine lx (fun ((v2, v3, v4) : Int × Int × Int) => St.mk [p 1 (AV.ptr 1 0), p 2 (AV.ptr 2 0), p 4 (AV.ptr 4 0), p 5 (I v2)] [(4, Ob.box 105 [J v3, J v4]), (2, Ob.box 105 [I 0, I 0]), (1, Ob.box 96 (cellsD false y96 a0))]) ((1, a0.2.2.getD (Int.toNat (0 : Int)) (0 : Int), a0.2.2.getD (Int.toNat (0 : Int)) (0 : Int))) H (by kernel_rfl) fun _ g1 b1 e1 t1 ⟨v2, v3, v4⟩ H => ?_
 refine vx_seq <| ?_
 refine qa tok hT [1, 2, 4, 5, 23] (St.mk [p 1 (AV.ptr 1 0), p 2 (AV.ptr 2 0), p 4 (AV.ptr 4 0), p 5 (I v2), p 23 (B (decide (v2 < (↑a0.2.2.length : Int))))] [(4, Ob.box 105 [J v3, J v4]), (2, Ob.box 105 [I 0, I 0]), (1, Ob.box 96 (cellsD false y96 a0))]) (by kernel_rfl) ?_
 refine cd H (by kernel_rfl) (fun H => ?_) (fun H => ?_)
 ·refine vx_skip <| fx_seq <| vx_seq <| vx_block <| ?_
  refine qb tok hT [1, 2, 4, 5] (St.mk [p 1 (AV.ptr 1 0), p 2 (AV.ptr 2 0), p 4 (AV.ptr 4 0), p 5 (I v2)] [(4, Ob.box 105 [I (min v3 (a0.2.2.getD v2.toNat 0)), J v4]), (2, Ob.box 105 [I 0, I 0]), (1, Ob.box 96 (cellsD false y96 a0))]) H (by kernel_rfl) fun H => ?_
  refine zb tok hT [1, 2, 4, 5] (St.mk [p 1 (AV.ptr 1 0), p 2 (AV.ptr 2 0), p 4 (AV.ptr 4 0), p 5 (I v2)] [(4, Ob.box 105 [I (min v3 (a0.2.2.getD v2.toNat 0)), I (max v4 (a0.2.2.getD v2.toNat 0))]), (2, Ob.box 105 [I 0, I 0]), (1, Ob.box 96 (cellsD false y96 a0))]) H (by kernel_rfl) fun H => ?_
  refine fx_blk <| fx_seq <| ?_
  refine zb tok hT [1, 2, 4, 5] (St.mk [p 1 (AV.ptr 1 0), p 2 (AV.ptr 2 0), p 4 (AV.ptr 4 0), p 5 (I (v2 + 1))] [(4, Ob.box 105 [I (min v3 (a0.2.2.getD v2.toNat 0)), I (max v4 (a0.2.2.getD v2.toNat 0))]), (2, Ob.box 105 [I 0, I 0]), (1, Ob.box 96 (cellsD false y96 a0))]) H (by kernel_rfl) fun H => ?_
  exact b1 H (by kernel_rfl)
 exact vx_exit <| fx_seq_exit <| e1 <| fx_blk_exit rfl <| n0 H (by kernel_rfl)
def u174J0 : Unit → Option (Bool)
 | _ =>
 some true
def u174L1 (a1 : Bool) (a0 : List Y96) (g1 : Int → Option (Bool)) : Int → Option (Bool)
 | v1 =>
 if (decide (v1 < 2)) = true then
  gd (ix v1 a0.length ∧ (u187 (a0.getD v1.toNat (dflt y96))).isSome = true ∧ True) <| lt (vl (u187 (a0.getD v1.toNat (dflt y96)))) fun v2 =>
  if (v2.2 != 0 || a1 && decide (v2.1.1 < 0)) = true then
   some false
  else
   gd (in64 (v1 + 1) ∧ True) <| 
   g1 (v1 + 1)
 else
  u174J0 ()
def u174 (a0 : List Y96) (a1 : Bool) : Option (Bool) :=
 if ((↑a0.length : Int) != 2) = true then
  some false
 else
  lp (u174L1 a1 a0) 0
def k174 : Ct := lct 174 [.dat y96.sl, .dat Ty.bool] (fun x => u174 x.1 x.2.1) (fun r : Bool => B r) (fun _ => ())
theorem o174 : Ok Tryz.prog k174 := by
 refine okl tok [.tmp 4] Tryz.func174 Tryz.ntmps174 rfl Tryz.results174 (by kernel_rfl) rfl ?_
 intro y ⟨a0, a1, _⟩ r H Q hn hr
 have hT := tc o187 tn
 refine qa tok hT [0, 1] (St.mk [p 0 (L y96 a0), p 1 (C a1)] []) (by kernel_rfl) ?_
 refine vx_seq <| ?_
 refine qa tok hT [0, 1, 10] (St.mk [p 0 (L y96 a0), p 1 (C a1), p 10 (B ((↑a0.length : Int) != 2))] []) (by kernel_rfl) ?_
 refine cd H (by kernel_rfl) (fun H => ?_) (fun H => ?_)
 ·refine qa tok hT [4] (St.mk [p 4 (B false)] []) (by kernel_rfl) ?_
  exact vx_ret <| fx_seq_ret <| hr H (by kernel_rfl)
 refine vx_skip <| fx_seq <| ?_
 refine jn r (fun (_ : Unit) => St.mk [] []) (u174J0) (fun _ H => ?_) (fun _ n0 e0 t0 => ?_)
 ·refine qa tok hT [4] (St.mk [p 4 (B true)] []) (by kernel_rfl) ?_
  exact vx_ret <| hr H (by kernel_rfl)
 refine qa tok hT [0, 1, 5] (St.mk [p 0 (L y96 a0), p 1 (C a1), p 5 (I 0)] []) (by kernel_rfl) ?_
 refine vx_block <| ?_
 refine lx (fun (v1 : Int) => St.mk [p 0 (L y96 a0), p 1 (C a1), p 5 (I v1)] []) 0 H (by kernel_rfl) fun _ g1 b1 e1 t1 v1 H => ?_
 refine vx_seq <| ?_
 refine qa tok hT [0, 1, 5, 12] (St.mk [p 0 (L y96 a0), p 1 (C a1), p 5 (I v1), p 12 (B (decide (v1 < 2)))] []) (by kernel_rfl) ?_
 refine cd H (by kernel_rfl) (fun H => ?_) (fun H => ?_)
 ·refine vx_skip <| fx_seq <| vx_seq <| vx_block <| ?_
  refine qd tok hT [0, 1, 5, 6, 7] (fun v2 => St.mk [p 0 (L y96 a0), p 1 (C a1), p 5 (I v1), p 6 (AV.ptr 6 0), p 7 (I v2.2)] [(6, Ob.box 105 (cellsD true y105 v2.1))]) H (by kernel_rfl) fun v2 H => ?_
  refine qa tok hT [0, 1, 5, 26, 27, 28, 29, 30, 31, 32] (St.mk [p 0 (L y96 a0), p 1 (C a1), p 5 (I v1), p 32 (B (v2.2 != 0 || a1 && decide (v2.1.1 < 0)))] [(6, Ob.box 105 (cellsD true y105 v2.1))]) (by kernel_rfl) ?_
  refine cd H (by kernel_rfl) (fun H => ?_) (fun H => ?_)
  ·refine qa tok hT [4] (St.mk [p 4 (B false)] [(6, Ob.box 105 (cellsD true y105 v2.1))]) (by kernel_rfl) ?_
   exact vx_ret <| fx_blk_ret <| fx_seq_ret <| t1 <| fx_blk_ret <| t0 <| hr H (by kernel_rfl)
  refine vx_skip <| fx_blk <| fx_seq <| ?_
  refine zb tok hT [0, 1, 5] (St.mk [p 0 (L y96 a0), p 1 (C a1), p 5 (I (v1 + 1))] [(6, Ob.box 105 (cellsD true y105 v2.1))]) H (by kernel_rfl) fun H => ?_
  exact b1 H (by kernel_rfl)
 exact vx_exit <| fx_seq_exit <| e1 <| fx_blk_exit rfl <| n0 H (by kernel_rfl)
end Go.Proofs.YtippccamjlfafaaGreatDoor
