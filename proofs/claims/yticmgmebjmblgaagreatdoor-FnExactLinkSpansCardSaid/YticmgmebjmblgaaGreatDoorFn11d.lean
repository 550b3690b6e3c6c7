/- Functions of this program as plain functions of data, and that they are so: printed by program. -/
import Derived.Test.YticmgmebjmblgaaGreatDoorFn11c
namespace Go.Proofs.YticmgmebjmblgaaGreatDoor
open Go Go.Proofs Go.Proofs.Sv Go.Proofs.Xv Go.Proofs.Xl Go.RowKit
def u26 (a0:Y45) (a1:Y53) (a2:Int) (a3:Y57):Option (Y57×Y57×Int) :=
 gd ((u36 a0).isSome=true∧((!vl (u36 a0))=false∧True→(u52 a1).isSome=true)∧True) <|
 if (!vl (u36 a0)||!vl (u52 a1))=true then
  some ((((0:Int),(0:Int)),((0:Int),(0:Int)),(1:Int)))
 else
  gd ((u39 a0).isSome=true∧True)<|lt (vl (u39 a0)) fun v0 =>
  gd (in64 ((↑v0.length:Int) - 1)∧(u56 a2 0 ((↑v0.length:Int) - 1)).isSome=true∧True) <|
  if (!vl (u56 a2 0 ((↑v0.length:Int) - 1)))=true then
   some ((((0:Int),(0:Int)),((0:Int),(0:Int)),(4:Int)))
  else
   gd ((u62 a3).isSome=true∧True) <|
   if (!vl (u62 a3))=true then
    some ((((0:Int),(0:Int)),((0:Int),(0:Int)),(2:Int)))
   else
    gd (ix a2 v0.length∧a2.toNat < v0.length∧(u63 a0 a1 (v0.getD a2.toNat (dflt y83)) a3).isSome=true∧True)<|lt (vl (u63 a0 a1 (v0.getD a2.toNat (dflt y83)) a3)) fun v1 =>
    some ((v1.1,v1.2,(0:Int)))
def k26:Ct:=lct 26 [.agg y45,.agg y53,.dat i64,.agg y57] (fun x=>u26 x.1 x.2.1 x.2.2.1 x.2.2.2.1) (fun r:Y57×Y57×Int=>AV.tup [AV.agg [I r.1.1,I r.1.2],AV.agg [I r.2.1.1,I r.2.1.2],I r.2.2]) (fun _=>())
theorem o26:Ok Tryz.prog k26:=by
 refine okL [.cell 8 57,.cell 9 57,.tmp 10] Tryz.func26 Tryz.ntmps26 Tryz.results26 ?_
 intro y ⟨a0,a1,a2,a3,_⟩ r H Q hn hr
 have:HT _ _:=⟨tc o63 (tc o62 (tc o56 (tc o39 (tc o52 (tc o36 tn)))))⟩
 refine qA (Z [p 2 (J a2),p 4 (R 4),p 5 (R 5),p 7 (R 7),p 8 (R 8),p 9 (R 9)] [(9,Ob.box 57 [I 0,I 0]),(8,Ob.box 57 [I 0,I 0]),(7,K 57 y57 a3),(5,K 53 y53 a1),(4,K 45 y45 a0)]) <|
  vx_seq <|
  qB (Z [p 2 (J a2),p 4 (R 4),p 5 (R 5),p 7 (R 7),p 8 (R 8),p 9 (R 9),p 21 (B (!vl (u36 a0)||!vl (u52 a1)))] [(9,Ob.box 57 [I 0,I 0]),(8,Ob.box 57 [I 0,I 0]),(7,K 57 y57 a3),(5,K 53 y53 a1),(4,K 45 y45 a0)]) H fun H =>
  cD H (fun H=>?_) (fun H=>?_)
 ·refine qA (Z [p 8 (R 8),p 9 (R 9),p 10 (I 1)] [(9,Ob.box 57 [I 0,I 0]),(8,Ob.box 57 [I 0,I 0]),(7,K 57 y57 a3),(5,K 53 y53 a1),(4,K 45 y45 a0)]) <|
   vx_ret<|fx_seq_ret<|hr H
 refine vx_skip<|fx_seq <|
  qD (fun v0=>Z [p 2 (J a2),p 4 (R 4),p 5 (R 5),p 7 (R 7),p 8 (R 8),p 9 (R 9),p 11 (O 25)] [(25,A 83 y83 v0 0),(9,Ob.box 57 [I 0,I 0]),(8,Ob.box 57 [I 0,I 0]),(7,K 57 y57 a3),(5,K 53 y53 a1),(4,K 45 y45 a0)]) H fun v0 H =>
  vx_seq <|
  qB (Z [p 2 (J a2),p 4 (R 4),p 5 (R 5),p 7 (R 7),p 8 (R 8),p 9 (R 9),p 11 (O 25),p 31 (B !vl (u56 a2 0 ((↑v0.length:Int) - 1)))] [(25,A 83 y83 v0 0),(9,Ob.box 57 [I 0,I 0]),(8,Ob.box 57 [I 0,I 0]),(7,K 57 y57 a3),(5,K 53 y53 a1),(4,K 45 y45 a0)]) H fun H =>
  cD H (fun H=>?_) (fun H=>?_)
 ·refine qA (Z [p 8 (R 8),p 9 (R 9),p 10 (I 4)] [(9,Ob.box 57 [I 0,I 0]),(8,Ob.box 57 [I 0,I 0]),(25,A 83 y83 v0 0),(7,K 57 y57 a3),(5,K 53 y53 a1),(4,K 45 y45 a0)]) <|
   vx_ret<|fx_seq_ret<|hr H
 refine vx_skip<|fx_seq<|vx_seq <|
  qB (Z [p 2 (J a2),p 4 (R 4),p 5 (R 5),p 7 (R 7),p 8 (R 8),p 9 (R 9),p 11 (O 25),p 36 (B !vl (u62 a3))] [(25,A 83 y83 v0 0),(9,Ob.box 57 [I 0,I 0]),(8,Ob.box 57 [I 0,I 0]),(7,K 57 y57 a3),(5,K 53 y53 a1),(4,K 45 y45 a0)]) H fun H =>
  cD H (fun H=>?_) (fun H=>?_)
 ·refine qA (Z [p 8 (R 8),p 9 (R 9),p 10 (I 2)] [(9,Ob.box 57 [I 0,I 0]),(8,Ob.box 57 [I 0,I 0]),(25,A 83 y83 v0 0),(7,K 57 y57 a3),(5,K 53 y53 a1),(4,K 45 y45 a0)]) <|
   vx_ret<|fx_seq_ret<|hr H
 refine vx_skip<|fx_seq <|
  qD (fun v1=>Z [p 8 (R 8),p 9 (R 9),p 12 (R 12),p 13 (R 13)] [(13,Ob.box 57 (cellsD true y57 v1.2)),(12,Ob.box 57 (cellsD true y57 v1.1)),(25,A 83 y83 v0 0),(9,Ob.box 57 [I 0,I 0]),(8,Ob.box 57 [I 0,I 0]),(7,K 57 y57 a3),(5,K 53 y53 a1),(4,K 45 y45 a0)]) H fun v1 H =>
  qA (Z [p 8 (R 8),p 9 (R 9),p 10 (I 0)] [(9,Ob.box 57 (cellsD true y57 v1.2)),(8,Ob.box 57 (cellsD true y57 v1.1)),(13,Ob.box 57 (cellsD true y57 v1.2)),(12,Ob.box 57 (cellsD true y57 v1.1)),(25,A 83 y83 v0 0),(7,K 57 y57 a3),(5,K 53 y53 a1),(4,K 45 y45 a0)]) <|
  vx_ret<|hr H
def u7 (a0:Y32) (a1:Y50) (a2:Int) (a3:Y68):Option (Bool) :=
 gd ((u10 a0 1048576).isSome=true∧True)<|lt (vl (u10 a0 1048576)) fun v0 =>
 if (decide (v0 < 0))=true then
  some true
 else
  gd ((u15 a1 v0).isSome=true∧True)<|lt (vl (u15 a1 v0)) fun v1 =>
  if (decide (v1 < 0))=true then
   some true
  else
   gd ((u12 a0).isSome=true∧(u17 a1).isSome=true∧(u27 a3).isSome=true∧(u26 (vl (u12 a0)) (vl (u17 a1)) a2 (vl (u27 a3))).isSome=true∧True)<|lt ((vl (u26 (vl (u12 a0)) (vl (u17 a1)) a2 (vl (u27 a3))),vl (u12 a0))) fun (v2,v3) =>
   gd ((u12 a0).isSome=true∧True)<|lt (vl (u12 a0)) fun v4 =>
   gd ((u17 a1).isSome=true∧(u27 a3).isSome=true∧(u28 v4 (vl (u17 a1)) a2 (vl (u27 a3))).isSome=true∧True)<|lt (vl (u28 v4 (vl (u17 a1)) a2 (vl (u27 a3)))) fun v5 =>
   gd ((u21 v5.1 v2.1).isSome=true∧((!vl (u21 v5.1 v2.1))=false∧True→(u21 v5.2.1 v2.2.1).isSome=true)∧True) <|
   if (!vl (u21 v5.1 v2.1)||!vl (u21 v5.2.1 v2.2.1)||v5.2.2 != v2.2.2)=true then
    some false
   else
    gd ((u12 a0).isSome=true∧(u14 v4 (vl (u12 a0))).isSome=true∧True)<|lt (vl (u12 a0)) fun v6 =>
    if (!vl (u14 v4 v6))=true then
     some false
    else
     some true
def k7:Ct:=lct 7 [.agg y32,.agg y50,.dat i64,.agg y68] (fun x=>u7 x.1 x.2.1 x.2.2.1 x.2.2.2.1) (fun r:Bool=>B r) (fun _=>())
theorem o7:Ok Tryz.prog k7:=by
 refine okL [.tmp 8] Tryz.func7 Tryz.ntmps7 Tryz.results7 ?_
 intro y ⟨a0,a1,a2,a3,_⟩ r H Q hn hr
 have:HT _ _:=⟨tc o14 (tc o12 (tc o21 (tc o28 (tc o27 (tc o17 (tc o26 (tc o15 (tc o10 tn))))))))⟩
 refine qA (Z [p 2 (J a2),p 4 (R 4),p 5 (R 5),p 7 (R 7)] [(7,K 68 y68 a3),(5,K 50 y50 a1),(4,K 32 y32 a0)]) <|
  qA (Z [p 2 (J a2),p 4 (R 4),p 5 (R 5),p 7 (R 7),p 9 (I 1048576)] [(7,K 68 y68 a3),(5,K 50 y50 a1),(4,K 32 y32 a0)]) <|
  qD (fun v0=>Z [p 2 (J a2),p 4 (R 4),p 5 (R 5),p 7 (R 7),p 9 (I v0)] [(7,K 68 y68 a3),(5,K 50 y50 a1),(4,K 32 y32 a0)]) H fun v0 H =>
  vx_seq <|
  qA (Z [p 2 (J a2),p 4 (R 4),p 5 (R 5),p 7 (R 7),p 9 (I v0),p 21 (B (decide (v0 < 0)))] [(7,K 68 y68 a3),(5,K 50 y50 a1),(4,K 32 y32 a0)]) <|
  cD H (fun H=>?_) (fun H=>?_)
 ·refine qA (Z [p 8 (B true)] [(7,K 68 y68 a3),(5,K 50 y50 a1),(4,K 32 y32 a0)]) <|
   vx_ret<|fx_seq_ret<|hr H
 refine vx_skip<|fx_seq <|
  qD (fun v1=>Z [p 2 (J a2),p 4 (R 4),p 5 (R 5),p 7 (R 7),p 9 (I v1)] [(7,K 68 y68 a3),(5,K 50 y50 a1),(4,K 32 y32 a0)]) H fun v1 H =>
  vx_seq <|
  qA (Z [p 2 (J a2),p 4 (R 4),p 5 (R 5),p 7 (R 7),p 26 (B (decide (v1 < 0)))] [(7,K 68 y68 a3),(5,K 50 y50 a1),(4,K 32 y32 a0)]) <|
  cD H (fun H=>?_) (fun H=>?_)
 ·refine qA (Z [p 8 (B true)] [(7,K 68 y68 a3),(5,K 50 y50 a1),(4,K 32 y32 a0)]) <|
   vx_ret<|fx_seq_ret<|hr H
 refine vx_skip<|fx_seq <|
  qD (fun (v2,v3)=>Z [p 2 (J a2),p 4 (R 4),p 5 (R 5),p 7 (R 7),p 10 (R 10),p 11 (R 11),p 12 (I v2.2.2)] [(11,Ob.box 57 (cellsD true y57 v2.2.1)),(10,Ob.box 57 (cellsD true y57 v2.1)),(4029,A 137 y137 v3.2.2 0),(3029,A 199 y199 v3.2.1.2.2 0),(2029,A 9 Ty.str v3.2.1.2.1 0),(1029,A 147 y147 v3.2.1.1 0),(29,A 145 y145 v3.1 0),(7,K 68 y68 a3),(5,K 50 y50 a1),(4,K 32 y32 a0)]) H fun ⟨v2,v3⟩ H =>
  qD (fun v4=>Z [p 2 (J a2),p 4 (R 4),p 5 (R 5),p 7 (R 7),p 10 (R 10),p 11 (R 11),p 12 (I v2.2.2),p 13 (R 13)] [(13,Ob.box 45 [AV.os 40 0,AV.os 1040 0,AV.os 2040 0,AV.os 3040 0,AV.os 4040 0]),(4040,A 137 y137 v4.2.2 0),(3040,A 199 y199 v4.2.1.2.2 0),(2040,A 9 Ty.str v4.2.1.2.1 0),(1040,A 147 y147 v4.2.1.1 0),(40,A 145 y145 v4.1 0),(11,Ob.box 57 (cellsD true y57 v2.2.1)),(10,Ob.box 57 (cellsD true y57 v2.1)),(4029,A 137 y137 v3.2.2 0),(3029,A 199 y199 v3.2.1.2.2 0),(2029,A 9 Ty.str v3.2.1.2.1 0),(1029,A 147 y147 v3.2.1.1 0),(29,A 145 y145 v3.1 0),(7,K 68 y68 a3),(5,K 50 y50 a1),(4,K 32 y32 a0)]) H fun v4 H =>
  qD (fun v5=>Z [p 4 (R 4),p 10 (R 10),p 11 (R 11),p 12 (I v2.2.2),p 13 (R 13),p 14 (R 14),p 15 (R 15),p 16 (I v5.2.2)] [(15,Ob.box 57 (cellsD true y57 v5.2.1)),(14,Ob.box 57 (cellsD true y57 v5.1)),(13,Ob.box 45 [AV.os 40 0,AV.os 1040 0,AV.os 2040 0,AV.os 3040 0,AV.os 4040 0]),(4040,A 137 y137 v4.2.2 0),(3040,A 199 y199 v4.2.1.2.2 0),(2040,A 9 Ty.str v4.2.1.2.1 0),(1040,A 147 y147 v4.2.1.1 0),(40,A 145 y145 v4.1 0),(11,Ob.box 57 (cellsD true y57 v2.2.1)),(10,Ob.box 57 (cellsD true y57 v2.1)),(4029,A 137 y137 v3.2.2 0),(3029,A 199 y199 v3.2.1.2.2 0),(2029,A 9 Ty.str v3.2.1.2.1 0),(1029,A 147 y147 v3.2.1.1 0),(29,A 145 y145 v3.1 0),(7,K 68 y68 a3),(5,K 50 y50 a1),(4,K 32 y32 a0)]) H fun v5 H =>
  vx_seq <|
  qB (Z [p 4 (R 4),p 13 (R 13),p 66 (B (!vl (u21 v5.1 v2.1)||!vl (u21 v5.2.1 v2.2.1)||v5.2.2 != v2.2.2))] [(15,Ob.box 57 (cellsD true y57 v5.2.1)),(14,Ob.box 57 (cellsD true y57 v5.1)),(13,Ob.box 45 [AV.os 40 0,AV.os 1040 0,AV.os 2040 0,AV.os 3040 0,AV.os 4040 0]),(4040,A 137 y137 v4.2.2 0),(3040,A 199 y199 v4.2.1.2.2 0),(2040,A 9 Ty.str v4.2.1.2.1 0),(1040,A 147 y147 v4.2.1.1 0),(40,A 145 y145 v4.1 0),(11,Ob.box 57 (cellsD true y57 v2.2.1)),(10,Ob.box 57 (cellsD true y57 v2.1)),(4029,A 137 y137 v3.2.2 0),(3029,A 199 y199 v3.2.1.2.2 0),(2029,A 9 Ty.str v3.2.1.2.1 0),(1029,A 147 y147 v3.2.1.1 0),(29,A 145 y145 v3.1 0),(7,K 68 y68 a3),(5,K 50 y50 a1),(4,K 32 y32 a0)]) H fun H =>
  cD H (fun H=>?_) (fun H=>?_)
 ·refine qA (Z [p 8 (B false)] [(15,Ob.box 57 (cellsD true y57 v5.2.1)),(14,Ob.box 57 (cellsD true y57 v5.1)),(13,Ob.box 45 [AV.os 40 0,AV.os 1040 0,AV.os 2040 0,AV.os 3040 0,AV.os 4040 0]),(4040,A 137 y137 v4.2.2 0),(3040,A 199 y199 v4.2.1.2.2 0),(2040,A 9 Ty.str v4.2.1.2.1 0),(1040,A 147 y147 v4.2.1.1 0),(40,A 145 y145 v4.1 0),(11,Ob.box 57 (cellsD true y57 v2.2.1)),(10,Ob.box 57 (cellsD true y57 v2.1)),(4029,A 137 y137 v3.2.2 0),(3029,A 199 y199 v3.2.1.2.2 0),(2029,A 9 Ty.str v3.2.1.2.1 0),(1029,A 147 y147 v3.2.1.1 0),(29,A 145 y145 v3.1 0),(7,K 68 y68 a3),(5,K 50 y50 a1),(4,K 32 y32 a0)]) <|
   vx_ret<|fx_seq_ret<|hr H
 refine vx_skip<|fx_seq<|vx_seq <|
  qD (fun v6=>Z [p 71 (B !vl (u14 v4 v6))] [(4069,A 137 y137 v6.2.2 0),(3069,A 199 y199 v6.2.1.2.2 0),(2069,A 9 Ty.str v6.2.1.2.1 0),(1069,A 147 y147 v6.2.1.1 0),(69,A 145 y145 v6.1 0),(15,Ob.box 57 (cellsD true y57 v5.2.1)),(14,Ob.box 57 (cellsD true y57 v5.1)),(13,Ob.box 45 [AV.os 40 0,AV.os 1040 0,AV.os 2040 0,AV.os 3040 0,AV.os 4040 0]),(4040,A 137 y137 v4.2.2 0),(3040,A 199 y199 v4.2.1.2.2 0),(2040,A 9 Ty.str v4.2.1.2.1 0),(1040,A 147 y147 v4.2.1.1 0),(40,A 145 y145 v4.1 0),(11,Ob.box 57 (cellsD true y57 v2.2.1)),(10,Ob.box 57 (cellsD true y57 v2.1)),(4029,A 137 y137 v3.2.2 0),(3029,A 199 y199 v3.2.1.2.2 0),(2029,A 9 Ty.str v3.2.1.2.1 0),(1029,A 147 y147 v3.2.1.1 0),(29,A 145 y145 v3.1 0),(7,K 68 y68 a3),(5,K 50 y50 a1),(4,K 32 y32 a0)]) H fun v6 H =>
  cD H (fun H=>?_) (fun H=>?_)
 ·refine qA (Z [p 8 (B false)] [(4069,A 137 y137 v6.2.2 0),(3069,A 199 y199 v6.2.1.2.2 0),(2069,A 9 Ty.str v6.2.1.2.1 0),(1069,A 147 y147 v6.2.1.1 0),(69,A 145 y145 v6.1 0),(15,Ob.box 57 (cellsD true y57 v5.2.1)),(14,Ob.box 57 (cellsD true y57 v5.1)),(13,Ob.box 45 [AV.os 40 0,AV.os 1040 0,AV.os 2040 0,AV.os 3040 0,AV.os 4040 0]),(4040,A 137 y137 v4.2.2 0),(3040,A 199 y199 v4.2.1.2.2 0),(2040,A 9 Ty.str v4.2.1.2.1 0),(1040,A 147 y147 v4.2.1.1 0),(40,A 145 y145 v4.1 0),(11,Ob.box 57 (cellsD true y57 v2.2.1)),(10,Ob.box 57 (cellsD true y57 v2.1)),(4029,A 137 y137 v3.2.2 0),(3029,A 199 y199 v3.2.1.2.2 0),(2029,A 9 Ty.str v3.2.1.2.1 0),(1029,A 147 y147 v3.2.1.1 0),(29,A 145 y145 v3.1 0),(7,K 68 y68 a3),(5,K 50 y50 a1),(4,K 32 y32 a0)]) <|
   vx_ret<|fx_seq_ret<|hr H
 refine vx_skip<|fx_seq <|
  qA (Z [p 8 (B true)] [(4069,A 137 y137 v6.2.2 0),(3069,A 199 y199 v6.2.1.2.2 0),(2069,A 9 Ty.str v6.2.1.2.1 0),(1069,A 147 y147 v6.2.1.1 0),(69,A 145 y145 v6.1 0),(15,Ob.box 57 (cellsD true y57 v5.2.1)),(14,Ob.box 57 (cellsD true y57 v5.1)),(13,Ob.box 45 [AV.os 40 0,AV.os 1040 0,AV.os 2040 0,AV.os 3040 0,AV.os 4040 0]),(4040,A 137 y137 v4.2.2 0),(3040,A 199 y199 v4.2.1.2.2 0),(2040,A 9 Ty.str v4.2.1.2.1 0),(1040,A 147 y147 v4.2.1.1 0),(40,A 145 y145 v4.1 0),(11,Ob.box 57 (cellsD true y57 v2.2.1)),(10,Ob.box 57 (cellsD true y57 v2.1)),(4029,A 137 y137 v3.2.2 0),(3029,A 199 y199 v3.2.1.2.2 0),(2029,A 9 Ty.str v3.2.1.2.1 0),(1029,A 147 y147 v3.2.1.1 0),(29,A 145 y145 v3.1 0),(7,K 68 y68 a3),(5,K 50 y50 a1),(4,K 32 y32 a0)]) <|
  vx_ret<|hr H
end Go.Proofs.YticmgmebjmblgaaGreatDoor
