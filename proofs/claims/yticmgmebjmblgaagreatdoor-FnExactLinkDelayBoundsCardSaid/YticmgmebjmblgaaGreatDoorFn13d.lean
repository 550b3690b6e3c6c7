/- Functions of this program as plain functions of data, and that they are so: printed by program. -/
import Derived.Test.YticmgmebjmblgaaGreatDoorFn13c
namespace Go.Proofs.YticmgmebjmblgaaGreatDoor
open Go Go.Proofs Go.Proofs.Sv Go.Proofs.Xv Go.Proofs.Xl Go.RowKit
def u19J1:Int×Int→Option (Y57×Int)
 | (v16,v17) =>
 some (((v16,v17),(0:Int)))
def u19L2 (a0:Y45) (a1:Y53) (v1:Y83) (v6:List Int) (g2:Int×Int×Int→Option (Y57×Int)):Int×Int×Int→Option (Y57×Int)
 | (v11,v12,v13) =>
 if (decide (v11 < (↑v6.length:Int)))=true then
  gd (ix v11 v6.length∧(u53 a0 a1 v1 (v6.getD v11.toNat 0) 0).isSome=true∧True)<|lt (vl (u53 a0 a1 v1 (v6.getD v11.toNat 0) 0)) fun v14 =>
  gd (ix v11 v6.length∧(u53 a0 a1 v1 (v6.getD v11.toNat 0) 1).isSome=true∧True)<|lt (vl (u53 a0 a1 v1 (v6.getD v11.toNat 0) 1)) fun v15 =>
  gd (in64 (v11+1)∧True) <|
  g2 (v11+1,min v12 v14,max v13 v15)
 else
  u19J1 (v12,v13)
def u19J0 (a0:Y45) (a1:Y53) (v1:Y83):List Int→Option (Y57×Int)
 | v6 =>
 gd (ix (0:Int) v6.length∧(u53 a0 a1 v1 (v6.getD (Int.toNat (0:Int)) (0:Int)) (0:Int)).isSome=true∧ix (0:Int) v6.length∧(u53 a0 a1 v1 (v6.getD (Int.toNat (0:Int)) (0:Int)) (1:Int)).isSome=true∧True)<|lt ((vl (u53 a0 a1 v1 (v6.getD (Int.toNat (0:Int)) (0:Int)) (0:Int)),vl (u53 a0 a1 v1 (v6.getD (Int.toNat (0:Int)) (0:Int)) (1:Int)))) fun (v7,v8) =>
 lp (u19L2 a0 a1 v1 v6) (1,v7,v8)
def u19 (a0:Y45) (a1:Y53) (a2:Int):Option (Y57×Int) :=
 gd ((u36 a0).isSome=true∧((!vl (u36 a0))=false∧True→(u52 a1).isSome=true)∧True) <|
 if (!vl (u36 a0)||!vl (u52 a1))=true then
  some ((((0:Int),(0:Int)),(1:Int)))
 else
  gd ((u39 a0).isSome=true∧True)<|lt (vl (u39 a0)) fun v0 =>
  gd (in64 ((↑v0.length:Int) - 1)∧(u56 a2 0 ((↑v0.length:Int) - 1)).isSome=true∧True) <|
  if (!vl (u56 a2 0 ((↑v0.length:Int) - 1)))=true then
   some ((((0:Int),(0:Int)),(4:Int)))
  else
   gd (ix a2 v0.length∧a2.toNat < v0.length∧True)<|lt (v0.getD a2.toNat (dflt y83)) fun v1 =>
   if (v1.2.2.1==1)=true then
    gd ((u57 a0 v1).isSome=true∧True)<|lt (vl (u57 a0 v1)) fun v4 =>
    gd ((0:Int) < (2:Int)∧ix (v1.2.1.tmod (2:Int)) v4.1.2.2.2.2.1.length∧True)<|lt (v4.1.2.2.2.2.1.getD (v1.2.1.tmod 2).toNat (dflt y106)) fun v5 =>
    u19J0 a0 a1 v1 v5.1
   else
    u19J0 a0 a1 v1 [0]
def k19:Ct:=lct 19 [.agg y45,.agg y53,.dat i64] (fun x=>u19 x.1 x.2.1 x.2.2.1) (fun r:Y57×Int=>AV.tup [AV.agg [I r.1.1,I r.1.2],I r.2]) (fun _=>())
theorem o19:Ok Tryz.prog k19:=by
 refine okL [.cell 6 57,.tmp 7] Tryz.func19 Tryz.ntmps19 Tryz.results19 ?_
 intro y ⟨a0,a1,a2,_⟩ r H Q hn hr
 have:HT _ _:=⟨tc o53 (tc o57 (tc o56 (tc o39 (tc o52 (tc o36 tn)))))⟩
 refine qA (Z [p 2 (J a2),p 3 (R 3),p 4 (R 4),p 6 (R 6)] [(6,Ob.box 57 [I 0,I 0]),(4,K 53 y53 a1),(3,K 45 y45 a0)]) <|
  vx_seq <|
  qB (Z [p 2 (J a2),p 3 (R 3),p 4 (R 4),p 6 (R 6),p 22 (B (!vl (u36 a0)||!vl (u52 a1)))] [(6,Ob.box 57 [I 0,I 0]),(4,K 53 y53 a1),(3,K 45 y45 a0)]) H fun H =>
  cD H (fun H=>?_) (fun H=>?_)
 ·refine qA (Z [p 6 (R 6),p 7 (I 1)] [(6,Ob.box 57 [I 0,I 0]),(4,K 53 y53 a1),(3,K 45 y45 a0)]) <|
   vx_ret<|fx_seq_ret<|hr H
 refine vx_skip<|fx_seq <|
  qD (fun v0=>Z [p 2 (J a2),p 3 (R 3),p 4 (R 4),p 6 (R 6),p 8 (O 25)] [(25,A 83 y83 v0 0),(6,Ob.box 57 [I 0,I 0]),(4,K 53 y53 a1),(3,K 45 y45 a0)]) H fun v0 H =>
  vx_seq <|
  qB (Z [p 2 (J a2),p 3 (R 3),p 4 (R 4),p 6 (R 6),p 8 (O 25),p 31 (B !vl (u56 a2 0 ((↑v0.length:Int) - 1)))] [(25,A 83 y83 v0 0),(6,Ob.box 57 [I 0,I 0]),(4,K 53 y53 a1),(3,K 45 y45 a0)]) H fun H =>
  cD H (fun H=>?_) (fun H=>?_)
 ·refine qA (Z [p 6 (R 6),p 7 (I 4)] [(6,Ob.box 57 [I 0,I 0]),(25,A 83 y83 v0 0),(4,K 53 y53 a1),(3,K 45 y45 a0)]) <|
   vx_ret<|fx_seq_ret<|hr H
 refine vx_skip<|fx_seq <|
  qD (fun v1=>Z [p 3 (R 3),p 4 (R 4),p 6 (R 6),p 9 (R 9)] [(9,Ob.box 83 (cellsD true y83 v1)),(25,A 83 y83 v0 0),(6,Ob.box 57 [I 0,I 0]),(4,K 53 y53 a1),(3,K 45 y45 a0)]) H fun v1 H =>
  qA (Z [p 3 (R 3),p 4 (R 4),p 6 (R 6),p 9 (R 9),p 10 (O 37)] [(37,A 2 i64 [0] 0),(9,Ob.box 83 (cellsD true y83 v1)),(25,A 83 y83 v0 0),(6,Ob.box 57 [I 0,I 0]),(4,K 53 y53 a1),(3,K 45 y45 a0)]) <|
  fZ 37 (Z [p 3 (R 3),p 4 (R 4),p 6 (R 6),p 9 (R 9),p 10 (M i64 [0])] [(9,Ob.box 83 (cellsD true y83 v1)),(25,A 83 y83 v0 0),(6,Ob.box 57 [I 0,I 0]),(4,K 53 y53 a1),(3,K 45 y45 a0)]) <|
  jN r (fun (v6:List Int)=>Z [p 3 (R 3),p 4 (R 4),p 6 (R 6),p 9 (R 9),p 10 (L i64 v6)] [(9,Ob.box 83 (cellsD true y83 v1)),(6,Ob.box 57 [I 0,I 0]),(4,K 53 y53 a1),(3,K 45 y45 a0)]) (u19J0 a0 a1 v1) (fun v6 H=>?_) (fun _ n0 e0 t0=>?_)
 ·refine qD (fun (v7,v8)=>Z [p 3 (R 3),p 4 (R 4),p 6 (R 6),p 9 (R 9),p 10 (L i64 v6),p 13 (R 13)] [(13,Ob.box 57 [I v7,I v8]),(9,Ob.box 83 (cellsD true y83 v1)),(6,Ob.box 57 [I 0,I 0]),(4,K 53 y53 a1),(3,K 45 y45 a0)]) H fun w H=>?_
  obtain ⟨v7,v8⟩:=w
  refine jN r (fun ((v16,v17):Int×Int)=>Z [p 6 (R 6),p 13 (R 13)] [(13,Ob.box 57 [I v16,I v17]),(6,Ob.box 57 [I 0,I 0])]) (u19J1) (fun ⟨v16,v17⟩ H=>?_) (fun _ n1 e1 t1=>?_)
  ·refine qA (Z [p 6 (R 6),p 7 (I 0)] [(6,Ob.box 57 [I v16,I v17]),(13,Ob.box 57 [I v16,I v17])]) <|
    vx_ret<|hr H
  refine qA (Z [p 3 (R 3),p 4 (R 4),p 6 (R 6),p 9 (R 9),p 10 (L i64 v6),p 13 (R 13),p 14 (I 1)] [(13,Ob.box 57 [I v7,I v8]),(9,Ob.box 83 (cellsD true y83 v1)),(6,Ob.box 57 [I 0,I 0]),(4,K 53 y53 a1),(3,K 45 y45 a0)]) <|
   vx_block <|
   lX (fun ((v11,v12,v13):Int×Int×Int)=>Z [p 3 (R 3),p 4 (R 4),p 6 (R 6),p 9 (R 9),p 10 (L i64 v6),p 13 (R 13),p 14 (I v11)] [(13,Ob.box 57 [I v12,I v13]),(9,Ob.box 83 (cellsD true y83 v1)),(6,Ob.box 57 [I 0,I 0]),(4,K 53 y53 a1),(3,K 45 y45 a0)]) (1,v7,v8) H fun _ g2 b2 e2 t2 ⟨v11,v12,v13⟩ H =>
   vx_seq <|
   qA (Z [p 3 (R 3),p 4 (R 4),p 6 (R 6),p 9 (R 9),p 10 (L i64 v6),p 13 (R 13),p 14 (I v11),p 73 (B (decide (v11 < (↑v6.length:Int))))] [(13,Ob.box 57 [I v12,I v13]),(9,Ob.box 83 (cellsD true y83 v1)),(6,Ob.box 57 [I 0,I 0]),(4,K 53 y53 a1),(3,K 45 y45 a0)]) <|
   cD H (fun H=>?_) (fun H=>?_)
  ·refine vx_skip<|fx_seq<|vx_seq<|vx_block <|
    qD (fun v14=>Z [p 3 (R 3),p 4 (R 4),p 6 (R 6),p 9 (R 9),p 10 (L i64 v6),p 13 (R 13),p 14 (I v11)] [(13,Ob.box 57 [I (min v12 v14),I v13]),(9,Ob.box 83 (cellsD true y83 v1)),(6,Ob.box 57 [I 0,I 0]),(4,K 53 y53 a1),(3,K 45 y45 a0)]) H fun v14 H =>
    zD (fun v15=>Z [p 3 (R 3),p 4 (R 4),p 6 (R 6),p 9 (R 9),p 10 (L i64 v6),p 13 (R 13),p 14 (I v11)] [(13,Ob.box 57 [I (min v12 v14),I (max v13 v15)]),(9,Ob.box 83 (cellsD true y83 v1)),(6,Ob.box 57 [I 0,I 0]),(4,K 53 y53 a1),(3,K 45 y45 a0)]) H fun v15 H =>
    fx_blk<|fx_seq <|
    zB (Z [p 3 (R 3),p 4 (R 4),p 6 (R 6),p 9 (R 9),p 10 (L i64 v6),p 13 (R 13),p 14 (I (v11+1))] [(13,Ob.box 57 [I (min v12 v14),I (max v13 v15)]),(9,Ob.box 83 (cellsD true y83 v1)),(6,Ob.box 57 [I 0,I 0]),(4,K 53 y53 a1),(3,K 45 y45 a0)]) H fun H =>
    b2 H
  exact vx_exit<|fx_seq_exit<|e2<|fx_blk_exit rfl<|n1 H
 refine qA (Z [p 3 (R 3),p 4 (R 4),p 6 (R 6),p 9 (R 9),p 10 (M i64 [0]),p 40 (B (v1.2.2.1==1))] [(9,Ob.box 83 (cellsD true y83 v1)),(25,A 83 y83 v0 0),(6,Ob.box 57 [I 0,I 0]),(4,K 53 y53 a1),(3,K 45 y45 a0)]) <|
  cD H (fun H=>?_) (fun H=>?_)
 ·refine qD (fun v4=>Z [p 3 (R 3),p 4 (R 4),p 6 (R 6),p 9 (R 9),p 11 (R 11)] [(11,Ob.box 102 [I v4.1.1,I v4.1.2.1,I v4.1.2.2.1,I v4.1.2.2.2.1,L y106 v4.1.2.2.2.2.1,L y106 v4.1.2.2.2.2.2]),(9,Ob.box 83 (cellsD true y83 v1)),(25,A 83 y83 v0 0),(6,Ob.box 57 [I 0,I 0]),(4,K 53 y53 a1),(3,K 45 y45 a0)]) H fun v4 H =>
   zD (fun v5=>Z [p 3 (R 3),p 4 (R 4),p 6 (R 6),p 9 (R 9),p 10 (L i64 v5.1)] [(11,Ob.box 102 [I v4.1.1,I v4.1.2.1,I v4.1.2.2.1,I v4.1.2.2.2.1,L y106 v4.1.2.2.2.2.1,L y106 v4.1.2.2.2.2.2]),(9,Ob.box 83 (cellsD true y83 v1)),(25,A 83 y83 v0 0),(6,Ob.box 57 [I 0,I 0]),(4,K 53 y53 a1),(3,K 45 y45 a0)]) H fun v5 H =>
   n0 H
 exact vx_skip<|n0 H
def u5 (a0:Y32) (a1:Y50) (a2:Int):Option (Bool) :=
 gd ((u10 a0 1048576).isSome=true∧True)<|lt (vl (u10 a0 1048576)) fun v0 =>
 if (decide (v0 < 0))=true then
  some true
 else
  gd ((u15 a1 v0).isSome=true∧True)<|lt (vl (u15 a1 v0)) fun v1 =>
  if (decide (v1 < 0))=true then
   some true
  else
   gd ((u12 a0).isSome=true∧(u17 a1).isSome=true∧(u19 (vl (u12 a0)) (vl (u17 a1)) a2).isSome=true∧True)<|lt ((vl (u19 (vl (u12 a0)) (vl (u17 a1)) a2),vl (u12 a0))) fun (v2,v3) =>
   gd ((u12 a0).isSome=true∧True)<|lt (vl (u12 a0)) fun v4 =>
   gd ((u17 a1).isSome=true∧(u20 v4 (vl (u17 a1)) a2).isSome=true∧True)<|lt (vl (u20 v4 (vl (u17 a1)) a2)) fun v5 =>
   gd ((u21 v5.1 v2.1).isSome=true∧True) <|
   if (!vl (u21 v5.1 v2.1)||v5.2 != v2.2)=true then
    some false
   else
    gd ((u12 a0).isSome=true∧(u14 v4 (vl (u12 a0))).isSome=true∧True)<|lt (vl (u12 a0)) fun v6 =>
    if (!vl (u14 v4 v6))=true then
     some false
    else
     some true
def k5:Ct:=lct 5 [.agg y32,.agg y50,.dat i64] (fun x=>u5 x.1 x.2.1 x.2.2.1) (fun r:Bool=>B r) (fun _=>())
theorem o5:Ok Tryz.prog k5:=by
 refine okL [.tmp 6] Tryz.func5 Tryz.ntmps5 Tryz.results5 ?_
 intro y ⟨a0,a1,a2,_⟩ r H Q hn hr
 have:HT _ _:=⟨tc o14 (tc o12 (tc o21 (tc o20 (tc o17 (tc o19 (tc o15 (tc o10 tn)))))))⟩
 refine qA (Z [p 2 (J a2),p 3 (R 3),p 4 (R 4)] [(4,K 50 y50 a1),(3,K 32 y32 a0)]) <|
  qA (Z [p 2 (J a2),p 3 (R 3),p 4 (R 4),p 7 (I 1048576)] [(4,K 50 y50 a1),(3,K 32 y32 a0)]) <|
  qD (fun v0=>Z [p 2 (J a2),p 3 (R 3),p 4 (R 4),p 7 (I v0)] [(4,K 50 y50 a1),(3,K 32 y32 a0)]) H fun v0 H =>
  vx_seq <|
  qA (Z [p 2 (J a2),p 3 (R 3),p 4 (R 4),p 7 (I v0),p 17 (B (decide (v0 < 0)))] [(4,K 50 y50 a1),(3,K 32 y32 a0)]) <|
  cD H (fun H=>?_) (fun H=>?_)
 ·refine qA (Z [p 6 (B true)] [(4,K 50 y50 a1),(3,K 32 y32 a0)]) <|
   vx_ret<|fx_seq_ret<|hr H
 refine vx_skip<|fx_seq <|
  qD (fun v1=>Z [p 2 (J a2),p 3 (R 3),p 4 (R 4),p 7 (I v1)] [(4,K 50 y50 a1),(3,K 32 y32 a0)]) H fun v1 H =>
  vx_seq <|
  qA (Z [p 2 (J a2),p 3 (R 3),p 4 (R 4),p 22 (B (decide (v1 < 0)))] [(4,K 50 y50 a1),(3,K 32 y32 a0)]) <|
  cD H (fun H=>?_) (fun H=>?_)
 ·refine qA (Z [p 6 (B true)] [(4,K 50 y50 a1),(3,K 32 y32 a0)]) <|
   vx_ret<|fx_seq_ret<|hr H
 refine vx_skip<|fx_seq <|
  qD (fun (v2,v3)=>Z [p 2 (J a2),p 3 (R 3),p 4 (R 4),p 8 (R 8),p 9 (I v2.2)] [(8,Ob.box 57 (cellsD true y57 v2.1)),(4025,A 137 y137 v3.2.2 0),(3025,A 199 y199 v3.2.1.2.2 0),(2025,A 9 Ty.str v3.2.1.2.1 0),(1025,A 147 y147 v3.2.1.1 0),(25,A 145 y145 v3.1 0),(4,K 50 y50 a1),(3,K 32 y32 a0)]) H fun ⟨v2,v3⟩ H =>
  qD (fun v4=>Z [p 2 (J a2),p 3 (R 3),p 4 (R 4),p 8 (R 8),p 9 (I v2.2),p 10 (R 10)] [(10,Ob.box 45 [AV.os 33 0,AV.os 1033 0,AV.os 2033 0,AV.os 3033 0,AV.os 4033 0]),(4033,A 137 y137 v4.2.2 0),(3033,A 199 y199 v4.2.1.2.2 0),(2033,A 9 Ty.str v4.2.1.2.1 0),(1033,A 147 y147 v4.2.1.1 0),(33,A 145 y145 v4.1 0),(8,Ob.box 57 (cellsD true y57 v2.1)),(4025,A 137 y137 v3.2.2 0),(3025,A 199 y199 v3.2.1.2.2 0),(2025,A 9 Ty.str v3.2.1.2.1 0),(1025,A 147 y147 v3.2.1.1 0),(25,A 145 y145 v3.1 0),(4,K 50 y50 a1),(3,K 32 y32 a0)]) H fun v4 H =>
  qD (fun v5=>Z [p 3 (R 3),p 8 (R 8),p 9 (I v2.2),p 10 (R 10),p 11 (R 11),p 12 (I v5.2)] [(11,Ob.box 57 (cellsD true y57 v5.1)),(10,Ob.box 45 [AV.os 33 0,AV.os 1033 0,AV.os 2033 0,AV.os 3033 0,AV.os 4033 0]),(4033,A 137 y137 v4.2.2 0),(3033,A 199 y199 v4.2.1.2.2 0),(2033,A 9 Ty.str v4.2.1.2.1 0),(1033,A 147 y147 v4.2.1.1 0),(33,A 145 y145 v4.1 0),(8,Ob.box 57 (cellsD true y57 v2.1)),(4025,A 137 y137 v3.2.2 0),(3025,A 199 y199 v3.2.1.2.2 0),(2025,A 9 Ty.str v3.2.1.2.1 0),(1025,A 147 y147 v3.2.1.1 0),(25,A 145 y145 v3.1 0),(4,K 50 y50 a1),(3,K 32 y32 a0)]) H fun v5 H =>
  vx_seq <|
  qB (Z [p 3 (R 3),p 10 (R 10),p 50 (B (!vl (u21 v5.1 v2.1)||v5.2 != v2.2))] [(11,Ob.box 57 (cellsD true y57 v5.1)),(10,Ob.box 45 [AV.os 33 0,AV.os 1033 0,AV.os 2033 0,AV.os 3033 0,AV.os 4033 0]),(4033,A 137 y137 v4.2.2 0),(3033,A 199 y199 v4.2.1.2.2 0),(2033,A 9 Ty.str v4.2.1.2.1 0),(1033,A 147 y147 v4.2.1.1 0),(33,A 145 y145 v4.1 0),(8,Ob.box 57 (cellsD true y57 v2.1)),(4025,A 137 y137 v3.2.2 0),(3025,A 199 y199 v3.2.1.2.2 0),(2025,A 9 Ty.str v3.2.1.2.1 0),(1025,A 147 y147 v3.2.1.1 0),(25,A 145 y145 v3.1 0),(4,K 50 y50 a1),(3,K 32 y32 a0)]) H fun H =>
  cD H (fun H=>?_) (fun H=>?_)
 ·refine qA (Z [p 6 (B false)] [(11,Ob.box 57 (cellsD true y57 v5.1)),(10,Ob.box 45 [AV.os 33 0,AV.os 1033 0,AV.os 2033 0,AV.os 3033 0,AV.os 4033 0]),(4033,A 137 y137 v4.2.2 0),(3033,A 199 y199 v4.2.1.2.2 0),(2033,A 9 Ty.str v4.2.1.2.1 0),(1033,A 147 y147 v4.2.1.1 0),(33,A 145 y145 v4.1 0),(8,Ob.box 57 (cellsD true y57 v2.1)),(4025,A 137 y137 v3.2.2 0),(3025,A 199 y199 v3.2.1.2.2 0),(2025,A 9 Ty.str v3.2.1.2.1 0),(1025,A 147 y147 v3.2.1.1 0),(25,A 145 y145 v3.1 0),(4,K 50 y50 a1),(3,K 32 y32 a0)]) <|
   vx_ret<|fx_seq_ret<|hr H
 refine vx_skip<|fx_seq<|vx_seq <|
  qD (fun v6=>Z [p 55 (B !vl (u14 v4 v6))] [(4053,A 137 y137 v6.2.2 0),(3053,A 199 y199 v6.2.1.2.2 0),(2053,A 9 Ty.str v6.2.1.2.1 0),(1053,A 147 y147 v6.2.1.1 0),(53,A 145 y145 v6.1 0),(11,Ob.box 57 (cellsD true y57 v5.1)),(10,Ob.box 45 [AV.os 33 0,AV.os 1033 0,AV.os 2033 0,AV.os 3033 0,AV.os 4033 0]),(4033,A 137 y137 v4.2.2 0),(3033,A 199 y199 v4.2.1.2.2 0),(2033,A 9 Ty.str v4.2.1.2.1 0),(1033,A 147 y147 v4.2.1.1 0),(33,A 145 y145 v4.1 0),(8,Ob.box 57 (cellsD true y57 v2.1)),(4025,A 137 y137 v3.2.2 0),(3025,A 199 y199 v3.2.1.2.2 0),(2025,A 9 Ty.str v3.2.1.2.1 0),(1025,A 147 y147 v3.2.1.1 0),(25,A 145 y145 v3.1 0),(4,K 50 y50 a1),(3,K 32 y32 a0)]) H fun v6 H =>
  cD H (fun H=>?_) (fun H=>?_)
 ·refine qA (Z [p 6 (B false)] [(4053,A 137 y137 v6.2.2 0),(3053,A 199 y199 v6.2.1.2.2 0),(2053,A 9 Ty.str v6.2.1.2.1 0),(1053,A 147 y147 v6.2.1.1 0),(53,A 145 y145 v6.1 0),(11,Ob.box 57 (cellsD true y57 v5.1)),(10,Ob.box 45 [AV.os 33 0,AV.os 1033 0,AV.os 2033 0,AV.os 3033 0,AV.os 4033 0]),(4033,A 137 y137 v4.2.2 0),(3033,A 199 y199 v4.2.1.2.2 0),(2033,A 9 Ty.str v4.2.1.2.1 0),(1033,A 147 y147 v4.2.1.1 0),(33,A 145 y145 v4.1 0),(8,Ob.box 57 (cellsD true y57 v2.1)),(4025,A 137 y137 v3.2.2 0),(3025,A 199 y199 v3.2.1.2.2 0),(2025,A 9 Ty.str v3.2.1.2.1 0),(1025,A 147 y147 v3.2.1.1 0),(25,A 145 y145 v3.1 0),(4,K 50 y50 a1),(3,K 32 y32 a0)]) <|
   vx_ret<|fx_seq_ret<|hr H
 refine vx_skip<|fx_seq <|
  qA (Z [p 6 (B true)] [(4053,A 137 y137 v6.2.2 0),(3053,A 199 y199 v6.2.1.2.2 0),(2053,A 9 Ty.str v6.2.1.2.1 0),(1053,A 147 y147 v6.2.1.1 0),(53,A 145 y145 v6.1 0),(11,Ob.box 57 (cellsD true y57 v5.1)),(10,Ob.box 45 [AV.os 33 0,AV.os 1033 0,AV.os 2033 0,AV.os 3033 0,AV.os 4033 0]),(4033,A 137 y137 v4.2.2 0),(3033,A 199 y199 v4.2.1.2.2 0),(2033,A 9 Ty.str v4.2.1.2.1 0),(1033,A 147 y147 v4.2.1.1 0),(33,A 145 y145 v4.1 0),(8,Ob.box 57 (cellsD true y57 v2.1)),(4025,A 137 y137 v3.2.2 0),(3025,A 199 y199 v3.2.1.2.2 0),(2025,A 9 Ty.str v3.2.1.2.1 0),(1025,A 147 y147 v3.2.1.1 0),(25,A 145 y145 v3.1 0),(4,K 50 y50 a1),(3,K 32 y32 a0)]) <|
  vx_ret<|hr H
def u68 (a0:Y45) (a1:List Int):Option (Int ⊕ Y127×Int) :=
 gd ((u43 a0).isSome=true∧True) <|
 if (!vl (u43 a0))=true then
  some (Sum.inl 1)
 else
  gd ((u44 a0).isSome=true∧True)<|lt (vl (u44 a0)) fun v0 =>
  gd ((u124 v0 a1).isSome=true∧True) <|
  if (!vl (u124 v0 a1))=true then
   some (Sum.inl 2)
  else
   gd ((u125 v0 a1).isSome=true∧True)<|lt (vl (u125 v0 a1)) fun v1 =>
   some (Sum.inr (v1,(0:Int)))
def u30 (a0:Y45) (a1:List Int):Option (Bool×Int) :=
 if (isL (u68 a0 a1))=true then
  gd (isL (u68 a0 a1)=true∧True) <|
  if (vL (u68 a0 a1) != 0)=true then
   some ((false,vL (u68 a0 a1)))
  else
   none
 else
  gd (isR (u68 a0 a1)=true∧True) <|
  if ((vR (u68 a0 a1)).2 != 0)=true then
   some ((false,(vR (u68 a0 a1)).2))
  else
   gd ((u69 (vR (u68 a0 a1)).1).isSome=true∧True) <|
   some ((vl (u69 (vR (u68 a0 a1)).1),(0:Int)))
def u8 (a0:Y32) (a1:List Int):Option (Bool) :=
 if (decide (1048576 < (↑a1.length:Int)))=true then
  some true
 else
  gd ((u10 a0 1048576).isSome=true∧True)<|lt (vl (u10 a0 1048576)) fun v0 =>
  if (decide (v0 < 0))=true then
   some true
  else
   gd ((u12 a0).isSome=true∧(u23 a1).isSome=true∧(u29 (vl (u12 a0)) (vl (u23 a1))).isSome=true∧True)<|lt ((vl (u29 (vl (u12 a0)) (vl (u23 a1))),vl (u23 a1),vl (u12 a0))) fun (v1,v2,v3) =>
   gd ((u12 a0).isSome=true∧True)<|lt (vl (u12 a0)) fun v4 =>
   gd ((u23 a1).isSome=true∧True)<|lt (vl (u23 a1)) fun v5 =>
   gd ((u30 v4 v5).isSome=true∧True)<|lt (vl (u30 v4 v5)) fun v6 =>
   if (!v6.1==v1.1||v6.2 != v1.2)=true then
    some false
   else
    gd ((u12 a0).isSome=true∧(u14 v4 (vl (u12 a0))).isSome=true∧True)<|lt (vl (u12 a0)) fun v7 =>
    if (!vl (u14 v4 v7))=true then
     some false
    else
     gd ((u23 a1).isSome=true∧(u25 v5 (vl (u23 a1))).isSome=true∧True)<|lt (vl (u23 a1)) fun v8 =>
     if (!vl (u25 v5 v8))=true then
      some false
     else
      some true
end Go.Proofs.YticmgmebjmblgaaGreatDoor
