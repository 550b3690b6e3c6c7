/- Functions of this program as plain functions of data, and that they are so: printed by program. -/
import Derived.Test.YticmgmebjmblgaaGreatDoorFn12c
namespace Go.Proofs.YticmgmebjmblgaaGreatDoor
open Go Go.Proofs Go.Proofs.Sv Go.Proofs.Xv Go.Proofs.Xl Go.RowKit
def u22J2:Int×Int→Option (Int×Int×Int)
 | (v10,v11) =>
 some ((v11,v10,(0:Int)))
def u22L3 (a0:Y45) (v0:List Y83) (a2:List Int) (a4:Int) (a1:Y53) (g3:Int×Int×Int→Option (Int×Int×Int)):Int×Int×Int→Option (Int×Int×Int)
 | (v5,v6,v7) =>
 if (decide (v7 < (↑a2.length:Int)))=true then
  gd (ix v7 a2.length∧ix (a2.getD v7.toNat 0) v0.length∧Int.toNat (a2.getD v7.toNat 0) < v0.length∧(u53 a0 a1 (v0.getD (Int.toNat (a2.getD v7.toNat 0)) (dflt y83)) v5 a4).isSome=true∧in64 (v6+vl (u53 a0 a1 (v0.getD (Int.toNat (a2.getD v7.toNat 0)) (dflt y83)) v5 a4))∧True)<|lt (vl (u53 a0 a1 (v0.getD (Int.toNat (a2.getD v7.toNat 0)) (dflt y83)) v5 a4)) fun v8 =>
  gd (ix v7 a2.length∧ix (a2.getD v7.toNat 0) v0.length∧Int.toNat (a2.getD v7.toNat 0) < v0.length∧(u38 a0 (v0.getD (Int.toNat (a2.getD v7.toNat 0)) (dflt y83)) v5 a4).isSome=true∧True)<|lt (vl (u38 a0 (v0.getD (Int.toNat (a2.getD v7.toNat 0)) (dflt y83)) v5 a4)) fun v9 =>
  gd (in64 (v7+1)∧True) <|
  g3 (v9,v6+v8,v7+1)
 else
  u22J2 (v5,v6)
def u22J0 (a0:Y45) (v0:List Y83) (a2:List Int) (a4:Int) (a1:Y53) (a3:Int):Unit→Option (Int×Int×Int)
 | _ =>
 gd ((u56 a3 0 1000000).isSome=true∧((!vl (u56 a3 0 1000000))=false∧True→(u59 a4).isSome=true)∧True) <|
 if (!vl (u56 a3 0 1000000)||!vl (u59 a4))=true then
  some (((0:Int),(0:Int),(2:Int)))
 else
  lp (u22L3 a0 v0 a2 a4 a1) (a3,0,0)
def u22L1 (a2:List Int) (v0:List Y83) (a0:Y45) (a4:Int) (a1:Y53) (a3:Int) (g1:Int→Option (Int×Int×Int)):Int→Option (Int×Int×Int)
 | v2 =>
 if (decide (v2 < (↑a2.length:Int)))=true then
  gd (ix v2 a2.length∧in64 ((↑v0.length:Int) - 1)∧(u56 (a2.getD v2.toNat 0) 0 ((↑v0.length:Int) - 1)).isSome=true∧(decide (0 < v2)=true∧(!vl (u56 (a2.getD v2.toNat 0) 0 ((↑v0.length:Int) - 1)))=false∧True→ix v2 a2.length)∧(decide (0 < v2)=true∧(!vl (u56 (a2.getD v2.toNat 0) 0 ((↑v0.length:Int) - 1)))=false∧True→ix (a2.getD v2.toNat 0) v0.length)∧(decide (0 < v2)=true∧(!vl (u56 (a2.getD v2.toNat 0) 0 ((↑v0.length:Int) - 1)))=false∧True→Int.toNat (a2.getD v2.toNat 0) < v0.length)∧(decide (0 < v2)=true∧(!vl (u56 (a2.getD v2.toNat 0) 0 ((↑v0.length:Int) - 1)))=false∧True→in64 (v2 - 1))∧(decide (0 < v2)=true∧(!vl (u56 (a2.getD v2.toNat 0) 0 ((↑v0.length:Int) - 1)))=false∧True→ix (v2 - 1) a2.length)∧(decide (0 < v2)=true∧(!vl (u56 (a2.getD v2.toNat 0) 0 ((↑v0.length:Int) - 1)))=false∧True→ix (a2.getD (v2 - 1).toNat 0) v0.length)∧(decide (0 < v2)=true∧(!vl (u56 (a2.getD v2.toNat 0) 0 ((↑v0.length:Int) - 1)))=false∧True→Int.toNat (a2.getD (v2 - 1).toNat 0) < v0.length)∧True) <|
  if (!vl (u56 (a2.getD v2.toNat 0) 0 ((↑v0.length:Int) - 1))||decide (0 < v2)&&(v0.getD (Int.toNat (a2.getD v2.toNat 0)) (dflt y83)).1 != (v0.getD (Int.toNat (a2.getD (v2 - 1).toNat 0)) (dflt y83)).2.1)=true then
   some (((0:Int),(0:Int),(4:Int)))
  else
   gd (in64 (v2+1)∧True) <|
   g1 (v2+1)
 else
  u22J0 a0 v0 a2 a4 a1 a3 ()
def u22 (a0:Y45) (a1:Y53) (a2:List Int) (a3:Int) (a4:Int):Option (Int×Int×Int) :=
 gd ((u36 a0).isSome=true∧((!vl (u36 a0))=false∧True→(u52 a1).isSome=true)∧True) <|
 if (!vl (u36 a0)||!vl (u52 a1))=true then
  some (((0:Int),(0:Int),(1:Int)))
 else
  if (decide (100 < (↑a2.length:Int)))=true then
   some (((0:Int),(0:Int),(3:Int)))
  else
   gd ((u39 a0).isSome=true∧True)<|lt (vl (u39 a0)) fun v0 =>
   lp (u22L1 a2 v0 a0 a4 a1 a3) 0
def k22:Ct:=lct 22 [.agg y45,.agg y53,.dat i64.sl,.dat i64,.dat i64] (fun x=>u22 x.1 x.2.1 x.2.2.1 x.2.2.2.1 x.2.2.2.2.1) (fun r:Int×Int×Int=>AV.tup [I r.1,I r.2.1,I r.2.2]) (fun _=>())
theorem o22:Ok Tryz.prog k22:=by
 refine okL [.tmp 10,.tmp 11,.tmp 12] Tryz.func22 Tryz.ntmps22 Tryz.results22 ?_
 intro y ⟨a0,a1,a2,a3,a4,_⟩ r H Q hn hr
 have:HT _ _:=⟨tc o38 (tc o53 (tc o59 (tc o56 (tc o39 (tc o52 (tc o36 tn))))))⟩
 refine qA (Z [p 2 (L i64 a2),p 3 (J a3),p 4 (J a4),p 5 (R 5),p 6 (R 6)] [(6,K 53 y53 a1),(5,K 45 y45 a0)]) <|
  vx_seq <|
  qB (Z [p 2 (L i64 a2),p 3 (J a3),p 4 (J a4),p 5 (R 5),p 6 (R 6),p 24 (B (!vl (u36 a0)||!vl (u52 a1)))] [(6,K 53 y53 a1),(5,K 45 y45 a0)]) H fun H =>
  cD H (fun H=>?_) (fun H=>?_)
 ·refine qA (Z [p 10 (I 0),p 11 (I 0),p 12 (I 1)] [(6,K 53 y53 a1),(5,K 45 y45 a0)]) <|
   vx_ret<|fx_seq_ret<|hr H
 refine vx_skip<|fx_seq<|vx_seq <|
  qA (Z [p 2 (L i64 a2),p 3 (J a3),p 4 (J a4),p 5 (R 5),p 6 (R 6),p 27 (B (decide (100 < (↑a2.length:Int))))] [(6,K 53 y53 a1),(5,K 45 y45 a0)]) <|
  cD H (fun H=>?_) (fun H=>?_)
 ·refine qA (Z [p 10 (I 0),p 11 (I 0),p 12 (I 3)] [(6,K 53 y53 a1),(5,K 45 y45 a0)]) <|
   vx_ret<|fx_seq_ret<|hr H
 refine vx_skip<|fx_seq <|
  qD (fun v0=>Z [p 2 (L i64 a2),p 3 (J a3),p 4 (J a4),p 5 (R 5),p 6 (R 6),p 13 (O 29)] [(29,A 83 y83 v0 0),(6,K 53 y53 a1),(5,K 45 y45 a0)]) H fun v0 H =>
  jN r (fun (_:Unit)=>Z [p 2 (L i64 a2),p 3 (J a3),p 4 (J a4),p 5 (R 5),p 6 (R 6),p 13 (O 29)] [(29,A 83 y83 v0 0),(6,K 53 y53 a1),(5,K 45 y45 a0)]) (u22J0 a0 v0 a2 a4 a1 a3) (fun _ H=>?_) (fun _ n0 e0 t0=>?_)
 ·refine vx_seq <|
   qB (Z [p 2 (L i64 a2),p 3 (J a3),p 4 (J a4),p 5 (R 5),p 6 (R 6),p 13 (O 29),p 76 (B (!vl (u56 a3 0 1000000)||!vl (u59 a4)))] [(29,A 83 y83 v0 0),(6,K 53 y53 a1),(5,K 45 y45 a0)]) H fun H =>
   cD H (fun H=>?_) (fun H=>?_)
  ·refine qA (Z [p 10 (I 0),p 11 (I 0),p 12 (I 2)] [(29,A 83 y83 v0 0),(6,K 53 y53 a1),(5,K 45 y45 a0)]) <|
    vx_ret<|fx_seq_ret<|hr H
  refine vx_skip<|fx_seq <|
   qA (Z [p 2 (L i64 a2),p 3 (J a3),p 4 (J a4),p 5 (R 5),p 6 (R 6),p 13 (O 29),p 15 (I 0)] [(29,A 83 y83 v0 0),(6,K 53 y53 a1),(5,K 45 y45 a0)]) <|
   jN r (fun ((v10,v11):Int×Int)=>Z [p 3 (J v10),p 15 (I v11)] []) (u22J2) (fun ⟨v10,v11⟩ H=>?_) (fun _ n2 e2 t2=>?_)
  ·refine qA (Z [p 10 (I v11),p 11 (J v10),p 12 (I 0)] []) <|
    vx_ret<|hr H
  refine qA (Z [p 2 (L i64 a2),p 3 (J a3),p 4 (J a4),p 5 (R 5),p 6 (R 6),p 13 (O 29),p 15 (I 0),p 16 (I 0)] [(29,A 83 y83 v0 0),(6,K 53 y53 a1),(5,K 45 y45 a0)]) <|
   vx_block <|
   lX (fun ((v5,v6,v7):Int×Int×Int)=>Z [p 2 (L i64 a2),p 3 (J v5),p 4 (J a4),p 5 (R 5),p 6 (R 6),p 13 (O 29),p 15 (I v6),p 16 (I v7)] [(29,A 83 y83 v0 0),(6,K 53 y53 a1),(5,K 45 y45 a0)]) (a3,0,0) H fun _ g3 b3 e3 t3 ⟨v5,v6,v7⟩ H =>
   vx_seq <|
   qA (Z [p 2 (L i64 a2),p 3 (J v5),p 4 (J a4),p 5 (R 5),p 6 (R 6),p 13 (O 29),p 15 (I v6),p 16 (I v7),p 80 (B (decide (v7 < (↑a2.length:Int))))] [(29,A 83 y83 v0 0),(6,K 53 y53 a1),(5,K 45 y45 a0)]) <|
   cD H (fun H=>?_) (fun H=>?_)
  ·refine vx_skip<|fx_seq<|vx_seq<|vx_block <|
    qD (fun v8=>Z [p 2 (L i64 a2),p 3 (J v5),p 4 (J a4),p 5 (R 5),p 6 (R 6),p 13 (O 29),p 15 (I (v6+v8)),p 16 (I v7)] [(29,A 83 y83 v0 0),(6,K 53 y53 a1),(5,K 45 y45 a0)]) H fun v8 H =>
    zD (fun v9=>Z [p 2 (L i64 a2),p 3 (I v9),p 4 (J a4),p 5 (R 5),p 6 (R 6),p 13 (O 29),p 15 (I (v6+v8)),p 16 (I v7)] [(29,A 83 y83 v0 0),(6,K 53 y53 a1),(5,K 45 y45 a0)]) H fun v9 H =>
    fx_blk<|fx_seq <|
    zB (Z [p 2 (L i64 a2),p 3 (I v9),p 4 (J a4),p 5 (R 5),p 6 (R 6),p 13 (O 29),p 15 (I (v6+v8)),p 16 (I (v7+1))] [(29,A 83 y83 v0 0),(6,K 53 y53 a1),(5,K 45 y45 a0)]) H fun H =>
    b3 H
  exact vx_exit<|fx_seq_exit<|e3<|fx_blk_exit rfl<|n2 H
 refine qA (Z [p 2 (L i64 a2),p 3 (J a3),p 4 (J a4),p 5 (R 5),p 6 (R 6),p 13 (O 29),p 14 (I 0)] [(29,A 83 y83 v0 0),(6,K 53 y53 a1),(5,K 45 y45 a0)]) <|
  vx_block <|
  lX (fun (v2:Int)=>Z [p 2 (L i64 a2),p 3 (J a3),p 4 (J a4),p 5 (R 5),p 6 (R 6),p 13 (O 29),p 14 (I v2)] [(29,A 83 y83 v0 0),(6,K 53 y53 a1),(5,K 45 y45 a0)]) 0 H fun _ g1 b1 e1 t1 v2 H =>
  vx_seq <|
  qA (Z [p 2 (L i64 a2),p 3 (J a3),p 4 (J a4),p 5 (R 5),p 6 (R 6),p 13 (O 29),p 14 (I v2),p 33 (B (decide (v2 < (↑a2.length:Int))))] [(29,A 83 y83 v0 0),(6,K 53 y53 a1),(5,K 45 y45 a0)]) <|
  cD H (fun H=>?_) (fun H=>?_)
 ·refine vx_skip<|fx_seq<|vx_seq<|vx_block <|
   qB (Z [p 2 (L i64 a2),p 3 (J a3),p 4 (J a4),p 5 (R 5),p 6 (R 6),p 13 (O 29),p 14 (I v2),p 68 (B (!vl (u56 (a2.getD v2.toNat 0) 0 ((↑v0.length:Int) - 1))||decide (0 < v2)&&(v0.getD (Int.toNat (a2.getD v2.toNat 0)) (dflt y83)).1 != (v0.getD (Int.toNat (a2.getD (v2 - 1).toNat 0)) (dflt y83)).2.1))] [(29,A 83 y83 v0 0),(6,K 53 y53 a1),(5,K 45 y45 a0)]) H fun H =>
   cD H (fun H=>?_) (fun H=>?_)
  ·refine qA (Z [p 10 (I 0),p 11 (I 0),p 12 (I 4)] [(29,A 83 y83 v0 0),(6,K 53 y53 a1),(5,K 45 y45 a0)]) <|
    vx_ret<|fx_blk_ret<|fx_seq_ret<|t1<|fx_blk_ret<|t0<|hr H
  refine vx_skip<|fx_blk<|fx_seq <|
   zB (Z [p 2 (L i64 a2),p 3 (J a3),p 4 (J a4),p 5 (R 5),p 6 (R 6),p 13 (O 29),p 14 (I (v2+1))] [(29,A 83 y83 v0 0),(6,K 53 y53 a1),(5,K 45 y45 a0)]) H fun H =>
   b1 H
 exact vx_exit<|fx_seq_exit<|e1<|fx_blk_exit rfl<|n0 H
def u6 (a0:Y32) (a1:Y50) (a2:List Int) (a3:Int) (a4:Int):Option (Bool) :=
 if (decide (1048576 < (↑a2.length:Int)))=true then
  some true
 else
  gd ((u10 a0 1048576).isSome=true∧True)<|lt (vl (u10 a0 1048576)) fun v0 =>
  if (decide (v0 < 0))=true then
   some true
  else
   gd ((u15 a1 v0).isSome=true∧True)<|lt (vl (u15 a1 v0)) fun v1 =>
   if (decide (v1 < 0))=true then
    some true
   else
    gd ((u12 a0).isSome=true∧(u17 a1).isSome=true∧(u23 a2).isSome=true∧(u22 (vl (u12 a0)) (vl (u17 a1)) (vl (u23 a2)) a3 a4).isSome=true∧True)<|lt ((vl (u22 (vl (u12 a0)) (vl (u17 a1)) (vl (u23 a2)) a3 a4),vl (u23 a2),vl (u12 a0))) fun (v2,v3,v4) =>
    gd ((u12 a0).isSome=true∧True)<|lt (vl (u12 a0)) fun v5 =>
    gd ((u23 a2).isSome=true∧True)<|lt (vl (u23 a2)) fun v6 =>
    gd ((u17 a1).isSome=true∧(u24 v5 (vl (u17 a1)) v6 a3 a4).isSome=true∧True)<|lt (vl (u24 v5 (vl (u17 a1)) v6 a3 a4)) fun v7 =>
    if (v7.1 != v2.1||v7.2.1 != v2.2.1||v7.2.2 != v2.2.2)=true then
     some false
    else
     gd ((u12 a0).isSome=true∧(u14 v5 (vl (u12 a0))).isSome=true∧True)<|lt (vl (u12 a0)) fun v8 =>
     if (!vl (u14 v5 v8))=true then
      some false
     else
      gd ((u23 a2).isSome=true∧(u25 v6 (vl (u23 a2))).isSome=true∧True)<|lt (vl (u23 a2)) fun v9 =>
      if (!vl (u25 v6 v9))=true then
       some false
      else
       some true
def k6:Ct:=lct 6 [.agg y32,.agg y50,.dat i64.sl,.dat i64,.dat i64] (fun x=>u6 x.1 x.2.1 x.2.2.1 x.2.2.2.1 x.2.2.2.2.1) (fun r:Bool=>B r) (fun _=>())
theorem o6:Ok Tryz.prog k6:=by
 refine okL [.tmp 10] Tryz.func6 Tryz.ntmps6 Tryz.results6 ?_
 intro y ⟨a0,a1,a2,a3,a4,_⟩ r H Q hn hr
 have:HT _ _:=⟨tc o25 (tc o23 (tc o14 (tc o12 (tc o24 (tc o17 (tc o22 (tc o15 (tc o10 tn))))))))⟩
 refine qA (Z [p 2 (L i64 a2),p 3 (J a3),p 4 (J a4),p 5 (R 5),p 6 (R 6)] [(6,K 50 y50 a1),(5,K 32 y32 a0)]) <|
  vx_seq <|
  qA (Z [p 2 (L i64 a2),p 3 (J a3),p 4 (J a4),p 5 (R 5),p 6 (R 6),p 22 (B (decide (1048576 < (↑a2.length:Int))))] [(6,K 50 y50 a1),(5,K 32 y32 a0)]) <|
  cD H (fun H=>?_) (fun H=>?_)
 ·refine qA (Z [p 10 (B true)] [(6,K 50 y50 a1),(5,K 32 y32 a0)]) <|
   vx_ret<|fx_seq_ret<|hr H
 refine vx_skip<|fx_seq <|
  qA (Z [p 2 (L i64 a2),p 3 (J a3),p 4 (J a4),p 5 (R 5),p 6 (R 6),p 11 (I 1048576)] [(6,K 50 y50 a1),(5,K 32 y32 a0)]) <|
  qD (fun v0=>Z [p 2 (L i64 a2),p 3 (J a3),p 4 (J a4),p 5 (R 5),p 6 (R 6),p 11 (I v0)] [(6,K 50 y50 a1),(5,K 32 y32 a0)]) H fun v0 H =>
  vx_seq <|
  qA (Z [p 2 (L i64 a2),p 3 (J a3),p 4 (J a4),p 5 (R 5),p 6 (R 6),p 11 (I v0),p 27 (B (decide (v0 < 0)))] [(6,K 50 y50 a1),(5,K 32 y32 a0)]) <|
  cD H (fun H=>?_) (fun H=>?_)
 ·refine qA (Z [p 10 (B true)] [(6,K 50 y50 a1),(5,K 32 y32 a0)]) <|
   vx_ret<|fx_seq_ret<|hr H
 refine vx_skip<|fx_seq <|
  qD (fun v1=>Z [p 2 (L i64 a2),p 3 (J a3),p 4 (J a4),p 5 (R 5),p 6 (R 6),p 11 (I v1)] [(6,K 50 y50 a1),(5,K 32 y32 a0)]) H fun v1 H =>
  vx_seq <|
  qA (Z [p 2 (L i64 a2),p 3 (J a3),p 4 (J a4),p 5 (R 5),p 6 (R 6),p 32 (B (decide (v1 < 0)))] [(6,K 50 y50 a1),(5,K 32 y32 a0)]) <|
  cD H (fun H=>?_) (fun H=>?_)
 ·refine qA (Z [p 10 (B true)] [(6,K 50 y50 a1),(5,K 32 y32 a0)]) <|
   vx_ret<|fx_seq_ret<|hr H
 refine vx_skip<|fx_seq <|
  qD (fun (v2,v3,v4)=>Z [p 2 (L i64 a2),p 3 (J a3),p 4 (J a4),p 5 (R 5),p 6 (R 6),p 12 (I v2.1),p 13 (I v2.2.1),p 14 (I v2.2.2)] [(39,A 2 i64 v3 0),(4035,A 137 y137 v4.2.2 0),(3035,A 199 y199 v4.2.1.2.2 0),(2035,A 9 Ty.str v4.2.1.2.1 0),(1035,A 147 y147 v4.2.1.1 0),(35,A 145 y145 v4.1 0),(6,K 50 y50 a1),(5,K 32 y32 a0)]) H fun ⟨v2,v3,v4⟩ H =>
  qD (fun v5=>Z [p 2 (L i64 a2),p 3 (J a3),p 4 (J a4),p 5 (R 5),p 6 (R 6),p 12 (I v2.1),p 13 (I v2.2.1),p 14 (I v2.2.2),p 15 (R 15)] [(15,Ob.box 45 [AV.os 47 0,AV.os 1047 0,AV.os 2047 0,AV.os 3047 0,AV.os 4047 0]),(4047,A 137 y137 v5.2.2 0),(3047,A 199 y199 v5.2.1.2.2 0),(2047,A 9 Ty.str v5.2.1.2.1 0),(1047,A 147 y147 v5.2.1.1 0),(47,A 145 y145 v5.1 0),(39,A 2 i64 v3 0),(4035,A 137 y137 v4.2.2 0),(3035,A 199 y199 v4.2.1.2.2 0),(2035,A 9 Ty.str v4.2.1.2.1 0),(1035,A 147 y147 v4.2.1.1 0),(35,A 145 y145 v4.1 0),(6,K 50 y50 a1),(5,K 32 y32 a0)]) H fun v5 H =>
  qD (fun v6=>Z [p 2 (L i64 a2),p 3 (J a3),p 4 (J a4),p 5 (R 5),p 6 (R 6),p 12 (I v2.1),p 13 (I v2.2.1),p 14 (I v2.2.2),p 15 (R 15),p 16 (O 49)] [(49,A 2 i64 v6 0),(15,Ob.box 45 [AV.os 47 0,AV.os 1047 0,AV.os 2047 0,AV.os 3047 0,AV.os 4047 0]),(4047,A 137 y137 v5.2.2 0),(3047,A 199 y199 v5.2.1.2.2 0),(2047,A 9 Ty.str v5.2.1.2.1 0),(1047,A 147 y147 v5.2.1.1 0),(47,A 145 y145 v5.1 0),(39,A 2 i64 v3 0),(4035,A 137 y137 v4.2.2 0),(3035,A 199 y199 v4.2.1.2.2 0),(2035,A 9 Ty.str v4.2.1.2.1 0),(1035,A 147 y147 v4.2.1.1 0),(35,A 145 y145 v4.1 0),(6,K 50 y50 a1),(5,K 32 y32 a0)]) H fun v6 H =>
  qD (fun v7=>Z [p 2 (L i64 a2),p 5 (R 5),p 12 (I v2.1),p 13 (I v2.2.1),p 14 (I v2.2.2),p 15 (R 15),p 16 (O 49),p 17 (I v7.1),p 18 (I v7.2.1),p 19 (I v7.2.2)] [(49,A 2 i64 v6 0),(15,Ob.box 45 [AV.os 47 0,AV.os 1047 0,AV.os 2047 0,AV.os 3047 0,AV.os 4047 0]),(4047,A 137 y137 v5.2.2 0),(3047,A 199 y199 v5.2.1.2.2 0),(2047,A 9 Ty.str v5.2.1.2.1 0),(1047,A 147 y147 v5.2.1.1 0),(47,A 145 y145 v5.1 0),(39,A 2 i64 v3 0),(4035,A 137 y137 v4.2.2 0),(3035,A 199 y199 v4.2.1.2.2 0),(2035,A 9 Ty.str v4.2.1.2.1 0),(1035,A 147 y147 v4.2.1.1 0),(35,A 145 y145 v4.1 0),(6,K 50 y50 a1),(5,K 32 y32 a0)]) H fun v7 H =>
  vx_seq <|
  qA (Z [p 2 (L i64 a2),p 5 (R 5),p 15 (R 15),p 16 (O 49),p 73 (B (v7.1 != v2.1||v7.2.1 != v2.2.1||v7.2.2 != v2.2.2))] [(49,A 2 i64 v6 0),(15,Ob.box 45 [AV.os 47 0,AV.os 1047 0,AV.os 2047 0,AV.os 3047 0,AV.os 4047 0]),(4047,A 137 y137 v5.2.2 0),(3047,A 199 y199 v5.2.1.2.2 0),(2047,A 9 Ty.str v5.2.1.2.1 0),(1047,A 147 y147 v5.2.1.1 0),(47,A 145 y145 v5.1 0),(39,A 2 i64 v3 0),(4035,A 137 y137 v4.2.2 0),(3035,A 199 y199 v4.2.1.2.2 0),(2035,A 9 Ty.str v4.2.1.2.1 0),(1035,A 147 y147 v4.2.1.1 0),(35,A 145 y145 v4.1 0),(6,K 50 y50 a1),(5,K 32 y32 a0)]) <|
  cD H (fun H=>?_) (fun H=>?_)
 ·refine qA (Z [p 10 (B false)] [(49,A 2 i64 v6 0),(15,Ob.box 45 [AV.os 47 0,AV.os 1047 0,AV.os 2047 0,AV.os 3047 0,AV.os 4047 0]),(4047,A 137 y137 v5.2.2 0),(3047,A 199 y199 v5.2.1.2.2 0),(2047,A 9 Ty.str v5.2.1.2.1 0),(1047,A 147 y147 v5.2.1.1 0),(47,A 145 y145 v5.1 0),(39,A 2 i64 v3 0),(4035,A 137 y137 v4.2.2 0),(3035,A 199 y199 v4.2.1.2.2 0),(2035,A 9 Ty.str v4.2.1.2.1 0),(1035,A 147 y147 v4.2.1.1 0),(35,A 145 y145 v4.1 0),(6,K 50 y50 a1),(5,K 32 y32 a0)]) <|
   vx_ret<|fx_seq_ret<|hr H
 refine vx_skip<|fx_seq<|vx_seq <|
  qD (fun v8=>Z [p 2 (L i64 a2),p 16 (O 49),p 78 (B !vl (u14 v5 v8))] [(4076,A 137 y137 v8.2.2 0),(3076,A 199 y199 v8.2.1.2.2 0),(2076,A 9 Ty.str v8.2.1.2.1 0),(1076,A 147 y147 v8.2.1.1 0),(76,A 145 y145 v8.1 0),(49,A 2 i64 v6 0),(15,Ob.box 45 [AV.os 47 0,AV.os 1047 0,AV.os 2047 0,AV.os 3047 0,AV.os 4047 0]),(4047,A 137 y137 v5.2.2 0),(3047,A 199 y199 v5.2.1.2.2 0),(2047,A 9 Ty.str v5.2.1.2.1 0),(1047,A 147 y147 v5.2.1.1 0),(47,A 145 y145 v5.1 0),(39,A 2 i64 v3 0),(4035,A 137 y137 v4.2.2 0),(3035,A 199 y199 v4.2.1.2.2 0),(2035,A 9 Ty.str v4.2.1.2.1 0),(1035,A 147 y147 v4.2.1.1 0),(35,A 145 y145 v4.1 0),(6,K 50 y50 a1),(5,K 32 y32 a0)]) H fun v8 H =>
  cD H (fun H=>?_) (fun H=>?_)
 ·refine qA (Z [p 10 (B false)] [(4076,A 137 y137 v8.2.2 0),(3076,A 199 y199 v8.2.1.2.2 0),(2076,A 9 Ty.str v8.2.1.2.1 0),(1076,A 147 y147 v8.2.1.1 0),(76,A 145 y145 v8.1 0),(49,A 2 i64 v6 0),(15,Ob.box 45 [AV.os 47 0,AV.os 1047 0,AV.os 2047 0,AV.os 3047 0,AV.os 4047 0]),(4047,A 137 y137 v5.2.2 0),(3047,A 199 y199 v5.2.1.2.2 0),(2047,A 9 Ty.str v5.2.1.2.1 0),(1047,A 147 y147 v5.2.1.1 0),(47,A 145 y145 v5.1 0),(39,A 2 i64 v3 0),(4035,A 137 y137 v4.2.2 0),(3035,A 199 y199 v4.2.1.2.2 0),(2035,A 9 Ty.str v4.2.1.2.1 0),(1035,A 147 y147 v4.2.1.1 0),(35,A 145 y145 v4.1 0),(6,K 50 y50 a1),(5,K 32 y32 a0)]) <|
   vx_ret<|fx_seq_ret<|hr H
 refine vx_skip<|fx_seq<|vx_seq <|
  qD (fun v9=>Z [p 83 (B !vl (u25 v6 v9))] [(81,A 2 i64 v9 0),(4076,A 137 y137 v8.2.2 0),(3076,A 199 y199 v8.2.1.2.2 0),(2076,A 9 Ty.str v8.2.1.2.1 0),(1076,A 147 y147 v8.2.1.1 0),(76,A 145 y145 v8.1 0),(49,A 2 i64 v6 0),(15,Ob.box 45 [AV.os 47 0,AV.os 1047 0,AV.os 2047 0,AV.os 3047 0,AV.os 4047 0]),(4047,A 137 y137 v5.2.2 0),(3047,A 199 y199 v5.2.1.2.2 0),(2047,A 9 Ty.str v5.2.1.2.1 0),(1047,A 147 y147 v5.2.1.1 0),(47,A 145 y145 v5.1 0),(39,A 2 i64 v3 0),(4035,A 137 y137 v4.2.2 0),(3035,A 199 y199 v4.2.1.2.2 0),(2035,A 9 Ty.str v4.2.1.2.1 0),(1035,A 147 y147 v4.2.1.1 0),(35,A 145 y145 v4.1 0),(6,K 50 y50 a1),(5,K 32 y32 a0)]) H fun v9 H =>
  cD H (fun H=>?_) (fun H=>?_)
 ·refine qA (Z [p 10 (B false)] [(81,A 2 i64 v9 0),(4076,A 137 y137 v8.2.2 0),(3076,A 199 y199 v8.2.1.2.2 0),(2076,A 9 Ty.str v8.2.1.2.1 0),(1076,A 147 y147 v8.2.1.1 0),(76,A 145 y145 v8.1 0),(49,A 2 i64 v6 0),(15,Ob.box 45 [AV.os 47 0,AV.os 1047 0,AV.os 2047 0,AV.os 3047 0,AV.os 4047 0]),(4047,A 137 y137 v5.2.2 0),(3047,A 199 y199 v5.2.1.2.2 0),(2047,A 9 Ty.str v5.2.1.2.1 0),(1047,A 147 y147 v5.2.1.1 0),(47,A 145 y145 v5.1 0),(39,A 2 i64 v3 0),(4035,A 137 y137 v4.2.2 0),(3035,A 199 y199 v4.2.1.2.2 0),(2035,A 9 Ty.str v4.2.1.2.1 0),(1035,A 147 y147 v4.2.1.1 0),(35,A 145 y145 v4.1 0),(6,K 50 y50 a1),(5,K 32 y32 a0)]) <|
   vx_ret<|fx_seq_ret<|hr H
 refine vx_skip<|fx_seq <|
  qA (Z [p 10 (B true)] [(81,A 2 i64 v9 0),(4076,A 137 y137 v8.2.2 0),(3076,A 199 y199 v8.2.1.2.2 0),(2076,A 9 Ty.str v8.2.1.2.1 0),(1076,A 147 y147 v8.2.1.1 0),(76,A 145 y145 v8.1 0),(49,A 2 i64 v6 0),(15,Ob.box 45 [AV.os 47 0,AV.os 1047 0,AV.os 2047 0,AV.os 3047 0,AV.os 4047 0]),(4047,A 137 y137 v5.2.2 0),(3047,A 199 y199 v5.2.1.2.2 0),(2047,A 9 Ty.str v5.2.1.2.1 0),(1047,A 147 y147 v5.2.1.1 0),(47,A 145 y145 v5.1 0),(39,A 2 i64 v3 0),(4035,A 137 y137 v4.2.2 0),(3035,A 199 y199 v4.2.1.2.2 0),(2035,A 9 Ty.str v4.2.1.2.1 0),(1035,A 147 y147 v4.2.1.1 0),(35,A 145 y145 v4.1 0),(6,K 50 y50 a1),(5,K 32 y32 a0)]) <|
  vx_ret<|hr H
def u65J0 (a0:Y110) (a2:Int) (a3:Y57):Int×Int→Option (Y57×Y57)
 | (v6,v7) =>
 gd ((u48 a0 a2 a3.1 0).isSome=true∧(u48 a0 a2 a3.2 0).isSome=true∧(u48 a0 a2 a3.1 1).isSome=true∧(u48 a0 a2 a3.2 1).isSome=true∧True)<|lt ((vl (u48 a0 a2 a3.1 0),vl (u48 a0 a2 a3.2 0),vl (u48 a0 a2 a3.1 1),vl (u48 a0 a2 a3.2 1))) fun (v8,v9,v10,v11) =>
 some (((v6,v7),min v8 v9,max v10 v11))
def u65 (a0:Y110) (a1:Y53) (a2:Int) (a3:Y57):Option (Y57×Y57) :=
 gd ((u55 a0 a1 a2 a3.1 0).isSome=true∧(u55 a0 a1 a2 a3.2 0).isSome=true∧(u55 a0 a1 a2 a3.1 1).isSome=true∧(u55 a0 a1 a2 a3.2 1).isSome=true∧True)<|lt ((vl (u55 a0 a1 a2 a3.1 0),vl (u55 a0 a1 a2 a3.2 0),vl (u55 a0 a1 a2 a3.1 1),vl (u55 a0 a1 a2 a3.2 1))) fun (v0,v1,v2,v3) =>
 gd (ix a2 a0.2.2.1.length∧True)<|lt (a0.2.2.1.getD a2.toNat (dflt y83)) fun v4 =>
 if (decide (0 < (↑a0.2.2.2.2.2.length:Int))&&v4.2.2.1==2)=true then
  gd ((u100 a0 v4).isSome=true∧ix (vl (u100 a0 v4)) a0.2.2.2.2.2.length∧True)<|lt (vl (u100 a0 v4)) fun v5 =>
  gd (in64 (min v0 v1 - a0.2.2.2.2.2.getD v5.toNat 0)∧in64 (max v2 v3+a0.2.2.2.2.2.getD v5.toNat 0)∧True) <|
  u65J0 a0 a2 a3 (min v0 v1 - a0.2.2.2.2.2.getD v5.toNat 0,max v2 v3+a0.2.2.2.2.2.getD v5.toNat 0)
 else
  u65J0 a0 a2 a3 (min v0 v1,max v2 v3)
def u162 (a0:Int):Option (Bool) :=
 gd ((u98 a0 (-1000000000) 1000000000).isSome=true∧True) <|
 some (vl (u98 a0 (-1000000000) 1000000000))
def u119 (a0:Y57):Option (Bool) :=
 gd ((u162 a0.1).isSome=true∧(vl (u162 a0.1)=true∧True→(u162 a0.2).isSome=true)∧True) <|
 some (vl (u162 a0.1)&&vl (u162 a0.2)&&decide (a0.1≤a0.2))
def u64 (a0:Y57):Option (Bool) :=
 gd ((u119 a0).isSome=true∧(vl (u119 a0)=true∧True→(u46 a0.1).isSome=true)∧((vl (u119 a0)&&vl (u46 a0.1))=true∧True→(u46 a0.2).isSome=true)∧True) <|
 some (vl (u119 a0)&&vl (u46 a0.1)&&vl (u46 a0.2))
def u28 (a0:Y45) (a1:Y53) (a2:Int) (a3:Y57):Option (Y57×Y57×Int) :=
 gd ((u43 a0).isSome=true∧((!vl (u43 a0))=false∧True→(u54 a1).isSome=true)∧True) <|
 if (!vl (u43 a0)||!vl (u54 a1))=true then
  some ((((0:Int),(0:Int)),((0:Int),(0:Int)),(1:Int)))
 else
  gd ((u44 a0).isSome=true∧True)<|lt (vl (u44 a0)) fun v0 =>
  gd ((u45 v0 a2).isSome=true∧True) <|
  if (!vl (u45 v0 a2))=true then
   some ((((0:Int),(0:Int)),((0:Int),(0:Int)),(4:Int)))
  else
   gd ((u64 a3).isSome=true∧True) <|
   if (!vl (u64 a3))=true then
    some ((((0:Int),(0:Int)),((0:Int),(0:Int)),(2:Int)))
   else
    gd ((u65 v0 a1 a2 a3).isSome=true∧True)<|lt (vl (u65 v0 a1 a2 a3)) fun v1 =>
    some ((v1.1,v1.2,(0:Int)))
def u27 (a0:Y68):Option (Y57) :=
 some a0
def u63 (a0:Y45) (a1:Y53) (a2:Y83) (a3:Y57):Option (Y57×Y57) :=
 gd ((u53 a0 a1 a2 a3.1 0).isSome=true∧(u53 a0 a1 a2 a3.1 1).isSome=true∧True)<|lt ((vl (u53 a0 a1 a2 a3.1 0),vl (u53 a0 a1 a2 a3.1 1))) fun (v0,v1) =>
 gd ((u38 a0 a2 a3.1 0).isSome=true∧(u38 a0 a2 a3.1 1).isSome=true∧True)<|lt ((vl (u38 a0 a2 a3.1 0),vl (u38 a0 a2 a3.1 1))) fun (v2,v3) =>
 gd ((u53 a0 a1 a2 a3.2 0).isSome=true∧True)<|lt (vl (u53 a0 a1 a2 a3.2 0)) fun v4 =>
 gd ((u53 a0 a1 a2 a3.2 1).isSome=true∧True)<|lt (vl (u53 a0 a1 a2 a3.2 1)) fun v5 =>
 gd ((u38 a0 a2 a3.2 0).isSome=true∧True)<|lt (vl (u38 a0 a2 a3.2 0)) fun v6 =>
 gd ((u38 a0 a2 a3.2 1).isSome=true∧True)<|lt (vl (u38 a0 a2 a3.2 1)) fun v7 =>
 some (((min v0 v4,max v1 v5),min v2 v6,max v3 v7))
def u62 (a0:Y57):Option (Bool) :=
 some (decide (0≤a0.1)&&decide (a0.1≤a0.2)&&decide (a0.2≤1000000))
def u26 (a0:Y45) (a1:Y53) (a2:Int) (a3:Y57):Option (Y57×Y57×Int) :=
 gd ((u36 a0).isSome=true∧((!vl (u36 a0))=false∧True→(u52 a1).isSome=true)∧True) <|
 if (!vl (u36 a0)||!vl (u52 a1))=true then
  some ((((0:Int),(0:Int)),((0:Int),(0:Int)),(1:Int)))
 else
  gd ((u39 a0).isSome=true∧True)<|lt (vl (u39 a0)) fun v0 =>
  gd (in64 ((↑v0.length:Int) - 1)∧(u56 a2 0 ((↑v0.length:Int) - 1)).isSome=true∧True) <|
  if (!vl (u56 a2 0 ((↑v0.length:Int) - 1)))=true then
   some ((((0:Int),(0:Int)),((0:Int),(0:Int)),(4:Int)))
  else
   gd ((u62 a3).isSome=true∧True) <|
   if (!vl (u62 a3))=true then
    some ((((0:Int),(0:Int)),((0:Int),(0:Int)),(2:Int)))
   else
    gd (ix a2 v0.length∧a2.toNat < v0.length∧(u63 a0 a1 (v0.getD a2.toNat (dflt y83)) a3).isSome=true∧True)<|lt (vl (u63 a0 a1 (v0.getD a2.toNat (dflt y83)) a3)) fun v1 =>
    some ((v1.1,v1.2,(0:Int)))
def u7 (a0:Y32) (a1:Y50) (a2:Int) (a3:Y68):Option (Bool) :=
 gd ((u10 a0 1048576).isSome=true∧True)<|lt (vl (u10 a0 1048576)) fun v0 =>
 if (decide (v0 < 0))=true then
  some true
 else
  gd ((u15 a1 v0).isSome=true∧True)<|lt (vl (u15 a1 v0)) fun v1 =>
  if (decide (v1 < 0))=true then
   some true
  else
   gd ((u12 a0).isSome=true∧(u17 a1).isSome=true∧(u27 a3).isSome=true∧(u26 (vl (u12 a0)) (vl (u17 a1)) a2 (vl (u27 a3))).isSome=true∧True)<|lt ((vl (u26 (vl (u12 a0)) (vl (u17 a1)) a2 (vl (u27 a3))),vl (u12 a0))) fun (v2,v3) =>
   gd ((u12 a0).isSome=true∧True)<|lt (vl (u12 a0)) fun v4 =>
   gd ((u17 a1).isSome=true∧(u27 a3).isSome=true∧(u28 v4 (vl (u17 a1)) a2 (vl (u27 a3))).isSome=true∧True)<|lt (vl (u28 v4 (vl (u17 a1)) a2 (vl (u27 a3)))) fun v5 =>
   gd ((u21 v5.1 v2.1).isSome=true∧((!vl (u21 v5.1 v2.1))=false∧True→(u21 v5.2.1 v2.2.1).isSome=true)∧True) <|
   if (!vl (u21 v5.1 v2.1)||!vl (u21 v5.2.1 v2.2.1)||v5.2.2 != v2.2.2)=true then
    some false
   else
    gd ((u12 a0).isSome=true∧(u14 v4 (vl (u12 a0))).isSome=true∧True)<|lt (vl (u12 a0)) fun v6 =>
    if (!vl (u14 v4 v6))=true then
     some false
    else
     some true
def k7:Ct:=lct 7 [.agg y32,.agg y50,.dat i64,.agg y68] (fun x=>u7 x.1 x.2.1 x.2.2.1 x.2.2.2.1) (fun r:Bool=>B r) (fun _=>())
end Go.Proofs.YticmgmebjmblgaaGreatDoor
