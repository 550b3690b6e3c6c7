/- Functions of this program as plain functions of data, and that they are so: printed by program. -/
import Derived.Test.YticmgmebjmblgaaGreatDoorFn15b
namespace Go.Proofs.YticmgmebjmblgaaGreatDoor
open Go Go.Proofs Go.Proofs.Sv Go.Proofs.Xv Go.Proofs.Xl Go.RowKit
def u172J4:Unit→Option (Bool)
 | _ =>
 some false
def u172J5 (v0:Int×Bool) (a0:Y145):Unit→Option (Bool)
 | _ =>
 gd (((v0.1==0)=true∧True→in64 ((↑a0.2.2.1.length:Int) - 1))∧((v0.1==0)=true∧True→0≤(↑a0.2.2.1.length:Int) - 1∧(↑a0.2.2.1.length:Int) - 1≤18446744073709551615)∧((v0.1==0)=true∧True→(0≤(↑a0.2.2.1.length:Int) - 1∧(↑a0.2.2.1.length:Int) - 1≤62)∧in64 (1*2 ^ ((↑a0.2.2.1.length:Int) - 1).toNat))∧True) <|
 some (v0.1==0&&(↑a0.2.2.2.2.1.length:Int)==1*2 ^ ((↑a0.2.2.1.length:Int) - 1).toNat)
def u172L6 (a0:Y145) (v0:Int×Bool) (g6:Int→Option (Bool)):Int→Option (Bool)
 | v7 =>
 if (decide (v7 < (↑a0.2.2.2.2.1.length:Int)))=true then
  gd (ix v7 a0.2.2.2.2.1.length∧(u56 (a0.2.2.2.2.1.getD v7.toNat 0) 0 1).isSome=true∧True) <|
  if (!vl (u56 (a0.2.2.2.2.1.getD v7.toNat 0) 0 1))=true then
   some false
  else
   gd (in64 (v7+1)∧True) <|
   g6 (v7+1)
 else
  u172J5 v0 a0 ()
def u172J0 (a0:Y145) (v0:Int×Bool):Unit→Option (Bool)
 | _ =>
 gd ((u200 a0).isSome=true∧True)<|lt (vl (u200 a0)) fun v6 =>
 if (a0.2.1==1)=true then
  lp (u172L6 a0 v0) 0
 else
  if (a0.2.1==2)=true then
   gd (((v0.1==(1:Int))=true∧True→ix (1:Int) v6.length)∧((v0.1==(1:Int))=true∧True→Int.toNat (1:Int) < v6.length)∧((v0.1==(1:Int)&&v6.getD (Int.toNat (1:Int)) (0:Int)==(0:Int))=true∧True→ix (2:Int) v6.length)∧((v0.1==(1:Int)&&v6.getD (Int.toNat (1:Int)) (0:Int)==(0:Int))=true∧True→Int.toNat (2:Int) < v6.length)∧((v0.1==(1:Int)&&v6.getD (Int.toNat (1:Int)) (0:Int)==(0:Int))=true∧True→ix (3:Int) v6.length)∧((v0.1==(1:Int)&&v6.getD (Int.toNat (1:Int)) (0:Int)==(0:Int))=true∧True→Int.toNat (3:Int) < v6.length)∧True) <|
   some (v0.1==(1:Int)&&v6.getD (Int.toNat (1:Int)) (0:Int)==(0:Int)&&!decide ((0:Int) < v6.getD (Int.toNat (2:Int)) (0:Int))==decide ((0:Int) < v6.getD (Int.toNat (3:Int)) (0:Int))&&(↑a0.2.2.2.2.1.length:Int)==(0:Int))
  else
   if (a0.2.1==3)=true then
    gd (((v0.1==(1:Int))=true∧True→ix (1:Int) v6.length)∧((v0.1==(1:Int))=true∧True→Int.toNat (1:Int) < v6.length)∧((v0.1==(1:Int)&&decide ((0:Int) < v6.getD (Int.toNat (1:Int)) (0:Int)))=true∧True→ix (2:Int) v6.length)∧((v0.1==(1:Int)&&decide ((0:Int) < v6.getD (Int.toNat (1:Int)) (0:Int)))=true∧True→Int.toNat (2:Int) < v6.length)∧((v0.1==(1:Int)&&decide ((0:Int) < v6.getD (Int.toNat (1:Int)) (0:Int))&&decide ((0:Int) < v6.getD (Int.toNat (2:Int)) (0:Int)))=true∧True→ix (3:Int) v6.length)∧((v0.1==(1:Int)&&decide ((0:Int) < v6.getD (Int.toNat (1:Int)) (0:Int))&&decide ((0:Int) < v6.getD (Int.toNat (2:Int)) (0:Int)))=true∧True→Int.toNat (3:Int) < v6.length)∧True) <|
    some (v0.1==(1:Int)&&decide ((0:Int) < v6.getD (Int.toNat (1:Int)) (0:Int))&&decide ((0:Int) < v6.getD (Int.toNat (2:Int)) (0:Int))&&v6.getD (Int.toNat (3:Int)) (0:Int)==(0:Int)&&(↑a0.2.2.2.2.1.length:Int)==(0:Int))
   else
    u172J4 ()
def u172J2 (v3:Int) (g1:Int→Option (Bool)):Unit→Option (Bool)
 | _ =>
 gd (in64 (v3+1)∧True) <|
 g1 (v3+1)
def u172L3 (a0:Y145) (v4:Y102) (v3:Int) (g1:Int→Option (Bool)) (g3:Int→Option (Bool)):Int→Option (Bool)
 | v5 =>
 if (decide (v5 < v3))=true then
  gd (ix v5 a0.2.2.2.1.length∧(((a0.2.2.2.1.getD v5.toNat (dflt y102)).1==v4.1)=true∧True→ix v5 a0.2.2.2.1.length)∧(((a0.2.2.2.1.getD v5.toNat (dflt y102)).1==v4.1&&(a0.2.2.2.1.getD v5.toNat (dflt y102)).2.1==v4.2.1)=true∧True→ix v5 a0.2.2.2.1.length)∧True) <|
  if ((a0.2.2.2.1.getD v5.toNat (dflt y102)).1==v4.1&&(a0.2.2.2.1.getD v5.toNat (dflt y102)).2.1==v4.2.1&&(a0.2.2.2.1.getD v5.toNat (dflt y102)).2.2.1==v4.2.2.1)=true then
   some false
  else
   gd (in64 (v5+1)∧True) <|
   g3 (v5+1)
 else
  u172J2 v3 g1 ()
def u172L1 (a0:Y145) (v0:Int×Bool) (g1:Int→Option (Bool)):Int→Option (Bool)
 | v3 =>
 if (decide (v3 < (↑a0.2.2.2.1.length:Int)))=true then
  gd (ix v3 a0.2.2.2.1.length∧True)<|lt (a0.2.2.2.1.getD v3.toNat (dflt y102)) fun v4 =>
  gd ((u199 a0 v4).isSome=true∧True) <|
  if (!vl (u199 a0 v4))=true then
   some false
  else
   lp (u172L3 a0 v4 v3 g1) 0
 else
  u172J0 a0 v0 ()
def u172 (a0:Y145):Option (Bool) :=
 gd ((u198 a0).isSome=true∧True)<|lt (vl (u198 a0)) fun v0 =>
 gd (((!v0.2)=false∧True→(u108 a0.1).isSome=true)∧((!v0.2||!vl (u108 a0.1)||decide (8 < (↑a0.2.2.2.1.length:Int)))=false∧True→(u56 a0.2.2.2.2.2.1 0 100000).isSome=true)∧((!v0.2||!vl (u108 a0.1)||decide (8 < (↑a0.2.2.2.1.length:Int))||!vl (u56 a0.2.2.2.2.2.1 0 100000))=false∧True→(u56 a0.2.2.2.2.2.2 0 100000).isSome=true)∧True) <|
 if (!v0.2||!vl (u108 a0.1)||decide (8 < (↑a0.2.2.2.1.length:Int))||!vl (u56 a0.2.2.2.2.2.1 0 100000)||!vl (u56 a0.2.2.2.2.2.2 0 100000))=true then
  some false
 else
  lp (u172L1 a0 v0) 0
def k172:Ct:=lct 172 [.agg y145] (fun x=>u172 x.1) (fun r:Bool=>B r) (fun _=>())
theorem o172:Ok Tryz.prog k172:=by
 refine okL [.tmp 2] Tryz.func172 Tryz.ntmps172 Tryz.results172 ?_
 intro y ⟨a0,_⟩ r H Q hn hr
 have:HT _ _:=⟨tc o56 (tc o200 (tc o199 (tc o108 (tc o198 tn))))⟩
 refine qA (Z [p 1 (R 1)] [(1,K 145 y145 a0)]) <|
  qD (fun v0=>Z [p 1 (R 1),p 3 (I v0.1),p 4 (B v0.2)] [(1,K 145 y145 a0)]) H fun v0 H =>
  vx_seq <|
  qB (Z [p 1 (R 1),p 3 (I v0.1),p 40 (B (!v0.2||!vl (u108 a0.1)||decide (8 < (↑a0.2.2.2.1.length:Int))||!vl (u56 a0.2.2.2.2.2.1 0 100000)||!vl (u56 a0.2.2.2.2.2.2 0 100000)))] [(1,K 145 y145 a0)]) H fun H =>
  cD H (fun H=>?_) (fun H=>?_)
 ·refine qA (Z [p 2 (B false)] [(1,K 145 y145 a0)]) <|
   vx_ret<|fx_seq_ret<|hr H
 refine vx_skip<|fx_seq <|
  jN r (fun (_:Unit)=>Z [p 1 (R 1),p 3 (I v0.1)] [(1,K 145 y145 a0)]) (u172J0 a0 v0) (fun _ H=>?_) (fun _ n0 e0 t0=>?_)
 ·refine qD (fun v6=>Z [p 1 (R 1),p 3 (I v0.1),p 8 (O 94)] [(94,A 2 i64 v6 0),(1,K 145 y145 a0)]) H fun v6 H =>
   jN r (fun (_:Unit)=>Z [] []) (u172J4) (fun _ H=>?_) (fun _ n4 e4 t4=>?_)
  ·refine qA (Z [p 2 (B false)] []) <|
    vx_ret<|hr H
  refine qA (Z [p 1 (R 1),p 3 (I v0.1),p 8 (O 94),p 96 (J a0.2.1)] [(94,A 2 i64 v6 0),(1,K 145 y145 a0)]) <|
   vx_block <|
   qA (Z [p 1 (R 1),p 3 (I v0.1),p 8 (O 94),p 96 (J a0.2.1),p 97 (B (a0.2.1==1))] [(94,A 2 i64 v6 0),(1,K 145 y145 a0)]) <|
   cD H (fun H=>?_) (fun H=>?_)
  ·refine jN r (fun (_:Unit)=>Z [p 1 (R 1),p 3 (I v0.1)] [(1,K 145 y145 a0)]) (u172J5 v0 a0) (fun _ H=>?_) (fun _ n5 e5 t5=>?_)
   ·refine qB (Z [p 2 (B (v0.1==0&&(↑a0.2.2.2.2.1.length:Int)==1*2 ^ ((↑a0.2.2.1.length:Int) - 1).toNat))] [(1,K 145 y145 a0)]) H fun H =>
     vx_ret<|fx_blk_ret<|t4<|hr H
   refine qA (Z [p 1 (R 1),p 3 (I v0.1),p 9 (I 0)] [(94,A 2 i64 v6 0),(1,K 145 y145 a0)]) <|
    vx_block <|
    lX (fun (v7:Int)=>Z [p 1 (R 1),p 3 (I v0.1),p 9 (I v7)] [(1,K 145 y145 a0)]) 0 H fun _ g6 b6 e6 t6 v7 H =>
    vx_seq <|
    qA (Z [p 1 (R 1),p 3 (I v0.1),p 9 (I v7),p 103 (B (decide (v7 < (↑a0.2.2.2.2.1.length:Int))))] [(1,K 145 y145 a0)]) <|
    cD H (fun H=>?_) (fun H=>?_)
   ·refine vx_skip<|fx_seq<|vx_seq<|vx_block <|
     qB (Z [p 1 (R 1),p 3 (I v0.1),p 9 (I v7),p 112 (B !vl (u56 (a0.2.2.2.2.1.getD v7.toNat 0) 0 1))] [(1,K 145 y145 a0)]) H fun H =>
     cD H (fun H=>?_) (fun H=>?_)
    ·refine qA (Z [p 2 (B false)] [(1,K 145 y145 a0)]) <|
      vx_ret<|fx_blk_ret<|fx_seq_ret<|t6<|fx_blk_ret<|t5<|fx_blk_ret<|t4<|hr H
    refine vx_skip<|fx_blk<|fx_seq <|
     zB (Z [p 1 (R 1),p 3 (I v0.1),p 9 (I (v7+1))] [(1,K 145 y145 a0)]) H fun H =>
     b6 H
   exact vx_exit<|fx_seq_exit<|e6<|fx_blk_exit rfl<|n5 H
  refine qA (Z [p 1 (R 1),p 3 (I v0.1),p 8 (O 94),p 96 (J a0.2.1),p 127 (B (a0.2.1==2))] [(94,A 2 i64 v6 0),(1,K 145 y145 a0)]) <|
   cD H (fun H=>?_) (fun H=>?_)
  ·refine qB (Z [p 2 (B (v0.1==(1:Int)&&v6.getD (Int.toNat (1:Int)) (0:Int)==(0:Int)&&!decide ((0:Int) < v6.getD (Int.toNat (2:Int)) (0:Int))==decide ((0:Int) < v6.getD (Int.toNat (3:Int)) (0:Int))&&(↑a0.2.2.2.2.1.length:Int)==(0:Int)))] [(94,A 2 i64 v6 0),(1,K 145 y145 a0)]) H fun H =>
    vx_ret<|fx_blk_ret<|t4<|hr H
  refine qA (Z [p 1 (R 1),p 3 (I v0.1),p 8 (O 94),p 154 (B (a0.2.1==3))] [(94,A 2 i64 v6 0),(1,K 145 y145 a0)]) <|
   cD H (fun H=>?_) (fun H=>?_)
  ·refine qB (Z [p 2 (B (v0.1==(1:Int)&&decide ((0:Int) < v6.getD (Int.toNat (1:Int)) (0:Int))&&decide ((0:Int) < v6.getD (Int.toNat (2:Int)) (0:Int))&&v6.getD (Int.toNat (3:Int)) (0:Int)==(0:Int)&&(↑a0.2.2.2.2.1.length:Int)==(0:Int)))] [(94,A 2 i64 v6 0),(1,K 145 y145 a0)]) H fun H =>
    vx_ret<|fx_blk_ret<|t4<|hr H
  exact vx_skip<|fx_blk<|n4 H
 refine qA (Z [p 1 (R 1),p 3 (I v0.1),p 5 (I 0)] [(1,K 145 y145 a0)]) <|
  vx_block <|
  lX (fun (v3:Int)=>Z [p 1 (R 1),p 3 (I v0.1),p 5 (I v3)] [(1,K 145 y145 a0)]) 0 H fun _ g1 b1 e1 t1 v3 H =>
  vx_seq <|
  qA (Z [p 1 (R 1),p 3 (I v0.1),p 5 (I v3),p 45 (B (decide (v3 < (↑a0.2.2.2.1.length:Int))))] [(1,K 145 y145 a0)]) <|
  cD H (fun H=>?_) (fun H=>?_)
 ·refine vx_skip<|fx_seq <|
   jN r (fun (_:Unit)=>Z [p 1 (R 1),p 3 (I v0.1),p 5 (I v3)] [(1,K 145 y145 a0)]) (u172J2 v3 g1) (fun _ H=>?_) (fun _ n2 e2 t2=>?_)
  ·refine zB (Z [p 1 (R 1),p 3 (I v0.1),p 5 (I (v3+1))] [(1,K 145 y145 a0)]) H fun H =>
    b1 H
  refine vx_block <|
   qD (fun v4=>Z [p 1 (R 1),p 3 (I v0.1),p 5 (I v3),p 6 (R 6)] [(6,K 102 y102 v4),(1,K 145 y145 a0)]) H fun v4 H =>
   vx_seq <|
   qB (Z [p 1 (R 1),p 3 (I v0.1),p 5 (I v3),p 6 (R 6),p 56 (B !vl (u199 a0 v4))] [(6,K 102 y102 v4),(1,K 145 y145 a0)]) H fun H =>
   cD H (fun H=>?_) (fun H=>?_)
  ·refine qA (Z [p 2 (B false)] [(6,K 102 y102 v4),(1,K 145 y145 a0)]) <|
    vx_ret<|fx_seq_ret<|fx_blk_ret<|t2<|t1<|fx_blk_ret<|t0<|hr H
  refine vx_skip<|fx_seq <|
   qA (Z [p 1 (R 1),p 3 (I v0.1),p 5 (I v3),p 6 (R 6),p 7 (I 0)] [(6,K 102 y102 v4),(1,K 145 y145 a0)]) <|
   vx_block <|
   lX (fun (v5:Int)=>Z [p 1 (R 1),p 3 (I v0.1),p 5 (I v3),p 6 (R 6),p 7 (I v5)] [(6,K 102 y102 v4),(1,K 145 y145 a0)]) 0 H fun _ g3 b3 e3 t3 v5 H =>
   vx_seq <|
   qA (Z [p 1 (R 1),p 3 (I v0.1),p 5 (I v3),p 6 (R 6),p 7 (I v5),p 59 (B (decide (v5 < v3)))] [(6,K 102 y102 v4),(1,K 145 y145 a0)]) <|
   cD H (fun H=>?_) (fun H=>?_)
  ·refine vx_skip<|fx_seq<|vx_seq<|vx_block <|
    qB (Z [p 1 (R 1),p 3 (I v0.1),p 5 (I v3),p 6 (R 6),p 7 (I v5),p 92 (B ((a0.2.2.2.1.getD v5.toNat (dflt y102)).1==v4.1&&(a0.2.2.2.1.getD v5.toNat (dflt y102)).2.1==v4.2.1&&(a0.2.2.2.1.getD v5.toNat (dflt y102)).2.2.1==v4.2.2.1))] [(6,K 102 y102 v4),(1,K 145 y145 a0)]) H fun H =>
    cD H (fun H=>?_) (fun H=>?_)
   ·refine qA (Z [p 2 (B false)] [(6,K 102 y102 v4),(1,K 145 y145 a0)]) <|
     vx_ret<|fx_blk_ret<|fx_seq_ret<|t3<|fx_blk_ret<|fx_blk_ret<|t2<|t1<|fx_blk_ret<|t0<|hr H
   refine vx_skip<|fx_blk<|fx_seq <|
    zB (Z [p 1 (R 1),p 3 (I v0.1),p 5 (I v3),p 6 (R 6),p 7 (I (v5+1))] [(6,K 102 y102 v4),(1,K 145 y145 a0)]) H fun H =>
    b3 H
  exact vx_exit<|fx_seq_exit<|e3<|fx_blk_exit rfl<|fx_blk<|n2 H
 exact vx_exit<|fx_seq_exit<|e1<|fx_blk_exit rfl<|n0 H
def u131J0 (a0:List Y145):Unit→Option (Bool)
 | _ =>
 some (decide ((↑a0.length:Int)≤8))
def u131J2 (v1:Int) (g1:Int→Option (Bool)):Unit→Option (Bool)
 | _ =>
 gd (in64 (v1+1)∧True) <|
 g1 (v1+1)
def u131L3 (a0:List Y145) (v1:Int) (g1:Int→Option (Bool)) (g3:Int→Option (Bool)):Int→Option (Bool)
 | v2 =>
 if (decide (v2 < v1))=true then
  gd (ix v2 a0.length∧ix v1 a0.length∧True) <|
  if (decide ((a0.getD v2.toNat (dflt y145)).1=(a0.getD v1.toNat (dflt y145)).1))=true then
   some false
  else
   gd (in64 (v2+1)∧True) <|
   g3 (v2+1)
 else
  u131J2 v1 g1 ()
def u131L1 (a0:List Y145) (g1:Int→Option (Bool)):Int→Option (Bool)
 | v1 =>
 if (decide (v1 < (↑a0.length:Int)))=true then
  gd (ix v1 a0.length∧(u172 (a0.getD v1.toNat (dflt y145))).isSome=true∧True) <|
  if (!vl (u172 (a0.getD v1.toNat (dflt y145))))=true then
   some false
  else
   lp (u131L3 a0 v1 g1) 0
 else
  u131J0 a0 ()
def u131 (a0:List Y145):Option (Bool) :=
 lp (u131L1 a0) 0
def k131:Ct:=lct 131 [.agg y145.sl] (fun x=>u131 x.1) (fun r:Bool=>B r) (fun _=>())
theorem o131:Ok Tryz.prog k131:=by
 refine okL [.tmp 2] Tryz.func131 Tryz.ntmps131 Tryz.results131 ?_
 intro y ⟨a0,_⟩ r H Q hn hr
 have:HT _ _:=⟨tc o172 tn⟩
 refine qA (Z [p 1 (R 1)] [(1,Ob.box 38 [L y145 a0])]) <|
  jN r (fun (_:Unit)=>Z [p 1 (R 1)] [(1,Ob.box 38 [L y145 a0])]) (u131J0 a0) (fun _ H=>?_) (fun _ n0 e0 t0=>?_)
 ·refine qA (Z [p 2 (B (decide ((↑a0.length:Int)≤8)))] [(1,Ob.box 38 [L y145 a0])]) <|
   vx_ret<|hr H
 refine qA (Z [p 1 (R 1),p 3 (I 0)] [(1,Ob.box 38 [L y145 a0])]) <|
  vx_block <|
  lX (fun (v1:Int)=>Z [p 1 (R 1),p 3 (I v1)] [(1,Ob.box 38 [L y145 a0])]) 0 H fun _ g1 b1 e1 t1 v1 H =>
  vx_seq <|
  qA (Z [p 1 (R 1),p 3 (I v1),p 9 (B (decide (v1 < (↑a0.length:Int))))] [(1,Ob.box 38 [L y145 a0])]) <|
  cD H (fun H=>?_) (fun H=>?_)
 ·refine vx_skip<|fx_seq <|
   jN r (fun (_:Unit)=>Z [p 1 (R 1),p 3 (I v1)] [(1,Ob.box 38 [L y145 a0])]) (u131J2 v1 g1) (fun _ H=>?_) (fun _ n2 e2 t2=>?_)
  ·refine zB (Z [p 1 (R 1),p 3 (I (v1+1))] [(1,Ob.box 38 [L y145 a0])]) H fun H =>
    b1 H
  refine vx_block<|vx_seq <|
   qB (Z [p 1 (R 1),p 3 (I v1),p 18 (B !vl (u172 (a0.getD v1.toNat (dflt y145))))] [(1,Ob.box 38 [L y145 a0])]) H fun H =>
   cD H (fun H=>?_) (fun H=>?_)
  ·refine qA (Z [p 2 (B false)] [(1,Ob.box 38 [L y145 a0])]) <|
    vx_ret<|fx_seq_ret<|fx_blk_ret<|t2<|t1<|fx_blk_ret<|t0<|hr H
  refine vx_skip<|fx_seq <|
   qA (Z [p 1 (R 1),p 3 (I v1),p 4 (I 0)] [(1,Ob.box 38 [L y145 a0])]) <|
   vx_block <|
   lX (fun (v2:Int)=>Z [p 1 (R 1),p 3 (I v1),p 4 (I v2)] [(1,Ob.box 38 [L y145 a0])]) 0 H fun _ g3 b3 e3 t3 v2 H =>
   vx_seq <|
   qA (Z [p 1 (R 1),p 3 (I v1),p 4 (I v2),p 21 (B (decide (v2 < v1)))] [(1,Ob.box 38 [L y145 a0])]) <|
   cD H (fun H=>?_) (fun H=>?_)
  ·refine vx_skip<|fx_seq<|vx_seq<|vx_block <|
    qB (Z [p 1 (R 1),p 3 (I v1),p 4 (I v2),p 36 (B (decide ((a0.getD v2.toNat (dflt y145)).1=(a0.getD v1.toNat (dflt y145)).1)))] [(1,Ob.box 38 [L y145 a0])]) H fun H =>
    cD H (fun H=>?_) (fun H=>?_)
   ·refine qA (Z [p 2 (B false)] [(1,Ob.box 38 [L y145 a0])]) <|
     vx_ret<|fx_blk_ret<|fx_seq_ret<|t3<|fx_blk_ret<|fx_blk_ret<|t2<|t1<|fx_blk_ret<|t0<|hr H
   refine vx_skip<|fx_blk<|fx_seq <|
    zB (Z [p 1 (R 1),p 3 (I v1),p 4 (I (v2+1))] [(1,Ob.box 38 [L y145 a0])]) H fun H =>
    b3 H
  exact vx_exit<|fx_seq_exit<|e3<|fx_blk_exit rfl<|fx_blk<|n2 H
 exact vx_exit<|fx_seq_exit<|e1<|fx_blk_exit rfl<|n0 H
def u76J9:Unit→Option (Bool)
 | _ =>
 some true
def u76L10 (v20:List Int) (g10:Int→Option (Bool)):Int→Option (Bool)
 | v21 =>
 if (decide (v21 < (↑v20.length:Int)))=true then
  gd (ix v21 v20.length∧v21.toNat < v20.length∧True) <|
  if (v20.getD v21.toNat 0 != 1)=true then
   some false
  else
   gd (in64 (v21+1)∧True) <|
   g10 (v21+1)
 else
  u76J9 ()
def u76J6:List Int→Option (Bool)
 | v20 =>
 lp (u76L10 v20) 0
def u76J8 (v16:Int) (g7:Int×List Int→Option (Bool)):List Int→Option (Bool)
 | v19 =>
 gd (in64 (v16+1)∧True) <|
 g7 (v16+1,v19)
def u76L7 (a1:Y42) (g7:Int×List Int→Option (Bool)):Int×List Int→Option (Bool)
 | (v16,v17) =>
 if (decide (v16 < (↑a1.2.2.length:Int)))=true then
  gd (ix v16 a1.2.2.length∧True) <|
  if ((a1.2.2.getD v16.toNat (dflt y199)).2.1==1)=true then
   gd (ix v16 a1.2.2.length∧ix (a1.2.2.getD v16.toNat (dflt y199)).2.2 v17.length∧(a1.2.2.getD v16.toNat (dflt y199)).2.2.toNat < v17.length∧in64 (v17.getD (a1.2.2.getD v16.toNat (dflt y199)).2.2.toNat 0+1)∧ix (a1.2.2.getD v16.toNat (dflt y199)).2.2 v17.length∧(a1.2.2.getD v16.toNat (dflt y199)).2.2.toNat < v17.length∧True)<|lt (v17.set (a1.2.2.getD v16.toNat (dflt y199)).2.2.toNat (v17.getD (a1.2.2.getD v16.toNat (dflt y199)).2.2.toNat 0+1)) fun v18 =>
   u76J8 v16 g7 v18
  else
   u76J8 v16 g7 v17
 else
  u76J6 v17
def u76J4 (a1:Y42):List Int→Option (Bool)
 | v13 =>
 lp (u76L7 a1) (0,v13)
def u76L5 (a1:Y42) (g5:Int×List Int→Option (Bool)):Int×List Int→Option (Bool)
 | (v9,v10) =>
 if (decide (v9 < (↑a1.1.length:Int)))=true then
  gd (ix v9 a1.1.length∧True)<|lt (a1.1.getD v9.toNat (dflt y147)) fun v11 =>
  gd (in64 ((↑v11.2.2.length:Int) - 1)∧ix ((↑v11.2.2.length:Int) - 1) v11.2.2.length∧ix (v11.2.2.getD ((↑v11.2.2.length:Int) - 1).toNat 0) v10.length∧Int.toNat (v11.2.2.getD ((↑v11.2.2.length:Int) - 1).toNat 0) < v10.length∧in64 (v10.getD (Int.toNat (v11.2.2.getD ((↑v11.2.2.length:Int) - 1).toNat 0)) 0+1)∧ix (v11.2.2.getD ((↑v11.2.2.length:Int) - 1).toNat 0) v10.length∧Int.toNat (v11.2.2.getD ((↑v11.2.2.length:Int) - 1).toNat 0) < v10.length∧True)<|lt (v10.set (Int.toNat (v11.2.2.getD ((↑v11.2.2.length:Int) - 1).toNat 0)) (v10.getD (Int.toNat (v11.2.2.getD ((↑v11.2.2.length:Int) - 1).toNat 0)) 0+1)) fun v12 =>
  gd (in64 (v9+1)∧True) <|
  g5 (v9+1,v12)
 else
  u76J4 a1 v10
def u76J2 (a1:Y42) (v2:List ByteArray):List ByteArray→Option (Bool)
 | v6 =>
 gd ((u133 v2).isSome=true∧((!vl (u133 v2))=false∧True→(u133 v6).isSome=true)∧((!vl (u133 v2)||!vl (u133 v6))=false∧True→(u133 a1.2.1).isSome=true)∧True) <|
 if (!vl (u133 v2)||!vl (u133 v6)||!vl (u133 a1.2.1))=true then
  some false
 else
  gd ((0≤(↑a1.2.1.length:Int)∧(↑a1.2.1.length:Int)=(↑a1.2.1.length:Int)∧(↑a1.2.1.length:Int).toNat*8≤281474976710656∧(↑a1.2.1.length:Int)≤9223372036854775807)∧True) <|
  lp (u76L5 a1) ((0,List.replicate (↑a1.2.1.length:Int).toNat 0))
def u76L3 (a1:Y42) (v2:List ByteArray) (g3:Int×List ByteArray→Option (Bool)):Int×List ByteArray→Option (Bool)
 | (v4,v5) =>
 if (decide (v4 < (↑a1.2.2.length:Int)))=true then
  gd (ix v4 a1.2.2.length∧(v5.length+[(a1.2.2.getD v4.toNat (dflt y199)).1].length≤9223372036854775807∧(v5.length+[(a1.2.2.getD v4.toNat (dflt y199)).1].length)*16≤140737488355328)∧True) <|
  gd (in64 (v4+1)∧True) <|
  g3 ((v4+1,v5++[(a1.2.2.getD v4.toNat (dflt y199)).1]))
 else
  u76J2 a1 v2 v5
def u76J0 (a1:Y42):List ByteArray→Option (Bool)
 | v2 =>
 lp (u76L3 a1 v2) (0,[])
def u76L1 (a1:Y42) (g1:Int×List ByteArray→Option (Bool)):Int×List ByteArray→Option (Bool)
 | (v0,v1) =>
 if (decide (v0 < (↑a1.1.length:Int)))=true then
  gd (ix v0 a1.1.length∧(v1.length+[(a1.1.getD v0.toNat (dflt y147)).1].length≤9223372036854775807∧(v1.length+[(a1.1.getD v0.toNat (dflt y147)).1].length)*16≤140737488355328)∧True) <|
  gd (in64 (v0+1)∧True) <|
  g1 ((v0+1,v1++[(a1.1.getD v0.toNat (dflt y147)).1]))
 else
  u76J0 a1 v1
def u76 (a0:List Y145) (a1:Y42):Option (Bool) :=
 gd ((u131 a0).isSome=true∧((!vl (u131 a0)||decide (14 < (↑a1.1.length:Int))||decide (30 < (↑a1.2.1.length:Int))||decide (8 < (↑a1.2.2.length:Int)))=false∧True→(u132 a0 a1).isSome=true)∧True) <|
 if (!vl (u131 a0)||decide (14 < (↑a1.1.length:Int))||decide (30 < (↑a1.2.1.length:Int))||decide (8 < (↑a1.2.2.length:Int))||!vl (u132 a0 a1))=true then
  some false
 else
  lp (u76L1 a1) (0,[])
def k76:Ct:=lct 76 [.agg y145.sl,.agg y42] (fun x=>u76 x.1 x.2.1) (fun r:Bool=>B r) (fun _=>())
theorem o76:Ok Tryz.prog k76:=by
 refine okL [.tmp 4] Tryz.func76 Tryz.ntmps76 Tryz.results76 ?_
 intro y ⟨a0,a1,_⟩ r H Q hn hr
 have:HT _ _:=⟨tc o133 (tc o132 (tc o131 tn))⟩
 refine qA (Z [p 2 (R 2),p 3 (R 3)] [(3,K 42 y42 a1),(2,Ob.box 38 [L y145 a0])]) <|
  vx_seq <|
  qB (Z [p 3 (R 3),p 40 (B (!vl (u131 a0)||decide (14 < (↑a1.1.length:Int))||decide (30 < (↑a1.2.1.length:Int))||decide (8 < (↑a1.2.2.length:Int))||!vl (u132 a0 a1)))] [(3,K 42 y42 a1),(2,Ob.box 38 [L y145 a0])]) H fun H =>
  cD H (fun H=>?_) (fun H=>?_)
 ·refine qA (Z [p 4 (B false)] [(3,K 42 y42 a1),(2,Ob.box 38 [L y145 a0])]) <|
   vx_ret<|fx_seq_ret<|hr H
 refine vx_skip<|fx_seq <|
  qA (Z [p 3 (R 3),p 5 (O 41)] [(41,A 9 Ty.str [] 0),(3,K 42 y42 a1),(2,Ob.box 38 [L y145 a0])]) <|
  jN r (fun (v2:List ByteArray)=>Z [p 3 (R 3),p 5 (O 41)] [(41,A 9 Ty.str v2 0),(3,K 42 y42 a1)]) (u76J0 a1) (fun v2 H=>?_) (fun _ n0 e0 t0=>?_)
 ·refine qA (Z [p 3 (R 3),p 5 (O 41),p 7 (O 58)] [(58,A 9 Ty.str [] 0),(41,A 9 Ty.str v2 0),(3,K 42 y42 a1)]) <|
   jN r (fun (v6:List ByteArray)=>Z [p 3 (R 3),p 5 (O 41),p 7 (O 58)] [(58,A 9 Ty.str v6 0),(41,A 9 Ty.str v2 0),(3,K 42 y42 a1)]) (u76J2 a1 v2) (fun v6 H=>?_) (fun _ n2 e2 t2=>?_)
  ·refine vx_seq <|
    qB (Z [p 3 (R 3),p 88 (B (!vl (u133 v2)||!vl (u133 v6)||!vl (u133 a1.2.1)))] [(58,A 9 Ty.str v6 0),(41,A 9 Ty.str v2 0),(3,K 42 y42 a1)]) H fun H =>
    cD H (fun H=>?_) (fun H=>?_)
   ·refine qA (Z [p 4 (B false)] [(58,A 9 Ty.str v6 0),(41,A 9 Ty.str v2 0),(3,K 42 y42 a1)]) <|
     vx_ret<|fx_seq_ret<|hr H
   refine vx_skip<|fx_seq <|
    qB (Z [p 3 (R 3),p 9 (O 92)] [(92,A 2 i64 (List.replicate (↑a1.2.1.length:Int).toNat 0) 0),(58,A 9 Ty.str v6 0),(41,A 9 Ty.str v2 0),(3,K 42 y42 a1)]) H fun H =>
    jN r (fun (v13:List Int)=>Z [p 3 (R 3),p 9 (O 92)] [(92,A 2 i64 v13 0),(3,K 42 y42 a1)]) (u76J4 a1) (fun v13 H=>?_) (fun _ n4 e4 t4=>?_)
   ·refine jN r (fun (v20:List Int)=>Z [p 9 (O 92)] [(92,A 2 i64 v20 0)]) (u76J6) (fun v20 H=>?_) (fun _ n6 e6 t6=>?_)
    ·refine jN r (fun (_:Unit)=>Z [] []) (u76J9) (fun _ H=>?_) (fun _ n9 e9 t9=>?_)
     ·refine qA (Z [p 4 (B true)] []) <|
       vx_ret<|hr H
     refine qA (Z [p 9 (O 92),p 13 (I 0)] [(92,A 2 i64 v20 0)]) <|
      vx_block <|
      lX (fun (v21:Int)=>Z [p 9 (O 92),p 13 (I v21)] [(92,A 2 i64 v20 0)]) 0 H fun _ g10 b10 e10 t10 v21 H =>
      vx_seq <|
      qA (Z [p 9 (O 92),p 13 (I v21),p 145 (B (decide (v21 < (↑v20.length:Int))))] [(92,A 2 i64 v20 0)]) <|
      cD H (fun H=>?_) (fun H=>?_)
     ·refine vx_skip<|fx_seq<|vx_seq<|vx_block <|
       qB (Z [p 9 (O 92),p 13 (I v21),p 152 (B (v20.getD v21.toNat 0 != 1))] [(92,A 2 i64 v20 0)]) H fun H =>
       cD H (fun H=>?_) (fun H=>?_)
      ·refine qA (Z [p 4 (B false)] [(92,A 2 i64 v20 0)]) <|
        vx_ret<|fx_blk_ret<|fx_seq_ret<|t10<|fx_blk_ret<|t9<|hr H
      refine vx_skip<|fx_blk<|fx_seq <|
       zB (Z [p 9 (O 92),p 13 (I (v21+1))] [(92,A 2 i64 v20 0)]) H fun H =>
       b10 H
     exact vx_exit<|fx_seq_exit<|e10<|fx_blk_exit rfl<|n9 H
    refine qA (Z [p 3 (R 3),p 9 (O 92),p 12 (I 0)] [(92,A 2 i64 v13 0),(3,K 42 y42 a1)]) <|
     vx_block <|
     lX (fun ((v16,v17):Int×List Int)=>Z [p 3 (R 3),p 9 (O 92),p 12 (I v16)] [(92,A 2 i64 v17 0),(3,K 42 y42 a1)]) (0,v13) H fun _ g7 b7 e7 t7 ⟨v16,v17⟩ H =>
     vx_seq <|
     qA (Z [p 3 (R 3),p 9 (O 92),p 12 (I v16),p 121 (B (decide (v16 < (↑a1.2.2.length:Int))))] [(92,A 2 i64 v17 0),(3,K 42 y42 a1)]) <|
     cD H (fun H=>?_) (fun H=>?_)
    ·refine vx_skip<|fx_seq <|
      jN r (fun (v19:List Int)=>Z [p 3 (R 3),p 9 (O 92),p 12 (I v16)] [(92,A 2 i64 v19 0),(3,K 42 y42 a1)]) (u76J8 v16 g7) (fun v19 H=>?_) (fun _ n8 e8 t8=>?_)
     ·refine zB (Z [p 3 (R 3),p 9 (O 92),p 12 (I (v16+1))] [(92,A 2 i64 v19 0),(3,K 42 y42 a1)]) H fun H =>
       b7 H
     refine vx_block <|
      qB (Z [p 3 (R 3),p 9 (O 92),p 12 (I v16),p 130 (B ((a1.2.2.getD v16.toNat (dflt y199)).2.1==1))] [(92,A 2 i64 v17 0),(3,K 42 y42 a1)]) H fun H =>
      cD H (fun H=>?_) (fun H=>?_)
     ·refine zD (fun v18=>Z [p 3 (R 3),p 9 (O 92),p 12 (I v16)] [(92,A 2 i64 v18 0),(3,K 42 y42 a1)]) H fun v18 H =>
       fx_blk<|n8 H
     exact vx_skip<|fx_blk<|n8 H
    exact vx_exit<|fx_seq_exit<|e7<|fx_blk_exit rfl<|n6 H
   refine qA (Z [p 3 (R 3),p 9 (O 92),p 10 (I 0)] [(92,A 2 i64 (List.replicate (↑a1.2.1.length:Int).toNat 0) 0),(58,A 9 Ty.str v6 0),(41,A 9 Ty.str v2 0),(3,K 42 y42 a1)]) <|
    vx_block <|
    lX (fun ((v9,v10):Int×List Int)=>Z [p 3 (R 3),p 9 (O 92),p 10 (I v9)] [(92,A 2 i64 v10 0),(3,K 42 y42 a1)]) ((0,List.replicate (↑a1.2.1.length:Int).toNat 0)) H fun _ g5 b5 e5 t5 ⟨v9,v10⟩ H =>
    vx_seq <|
    qA (Z [p 3 (R 3),p 9 (O 92),p 10 (I v9),p 97 (B (decide (v9 < (↑a1.1.length:Int))))] [(92,A 2 i64 v10 0),(3,K 42 y42 a1)]) <|
    cD H (fun H=>?_) (fun H=>?_)
   ·refine vx_skip<|fx_seq<|vx_seq<|vx_block <|
     qD (fun v11=>Z [p 3 (R 3),p 9 (O 92),p 10 (I v9),p 11 (L i64 v11.2.2)] [(92,A 2 i64 v10 0),(3,K 42 y42 a1)]) H fun v11 H =>
     zD (fun v12=>Z [p 3 (R 3),p 9 (O 92),p 10 (I v9)] [(92,A 2 i64 v12 0),(3,K 42 y42 a1)]) H fun v12 H =>
     fx_blk<|fx_seq <|
     zB (Z [p 3 (R 3),p 9 (O 92),p 10 (I (v9+1))] [(92,A 2 i64 v12 0),(3,K 42 y42 a1)]) H fun H =>
     b5 H
   exact vx_exit<|fx_seq_exit<|e5<|fx_blk_exit rfl<|n4 H
  refine qA (Z [p 3 (R 3),p 5 (O 41),p 7 (O 58),p 8 (I 0)] [(58,A 9 Ty.str [] 0),(41,A 9 Ty.str v2 0),(3,K 42 y42 a1)]) <|
   vx_block <|
   lX (fun ((v4,v5):Int×List ByteArray)=>Z [p 3 (R 3),p 5 (O 41),p 7 (O 58),p 8 (I v4)] [(58,A 9 Ty.str v5 0),(41,A 9 Ty.str v2 0),(3,K 42 y42 a1)]) (0,[]) H fun _ g3 b3 e3 t3 ⟨v4,v5⟩ H =>
   vx_seq <|
   qA (Z [p 3 (R 3),p 5 (O 41),p 7 (O 58),p 8 (I v4),p 63 (B (decide (v4 < (↑a1.2.2.length:Int))))] [(58,A 9 Ty.str v5 0),(41,A 9 Ty.str v2 0),(3,K 42 y42 a1)]) <|
   cD H (fun H=>?_) (fun H=>?_)
  ·refine vx_skip<|fx_seq<|vx_seq<|vx_block <|
    zB (Z [p 3 (R 3),p 5 (O 41),p 7 (AV.os 58 1),p 8 (I v4)] [(58,A 9 Ty.str (v5++[(a1.2.2.getD v4.toNat (dflt y199)).1]) 1),(73,A 9 Ty.str [(a1.2.2.getD v4.toNat (dflt y199)).1] 0),(41,A 9 Ty.str v2 0),(3,K 42 y42 a1)]) H fun H =>
    fx_blk<|fx_seq <|
    zB (Z [p 3 (R 3),p 5 (O 41),p 7 (AV.os 58 1),p 8 (I (v4+1))] [(58,A 9 Ty.str (v5++[(a1.2.2.getD v4.toNat (dflt y199)).1]) 1),(73,A 9 Ty.str [(a1.2.2.getD v4.toNat (dflt y199)).1] 0),(41,A 9 Ty.str v2 0),(3,K 42 y42 a1)]) H fun H =>
    b3 H
  exact vx_exit<|fx_seq_exit<|e3<|fx_blk_exit rfl<|n2 H
 refine qA (Z [p 3 (R 3),p 5 (O 41),p 6 (I 0)] [(41,A 9 Ty.str [] 0),(3,K 42 y42 a1),(2,Ob.box 38 [L y145 a0])]) <|
  vx_block <|
  lX (fun ((v0,v1):Int×List ByteArray)=>Z [p 3 (R 3),p 5 (O 41),p 6 (I v0)] [(41,A 9 Ty.str v1 0),(3,K 42 y42 a1)]) (0,[]) H fun _ g1 b1 e1 t1 ⟨v0,v1⟩ H =>
  vx_seq <|
  qA (Z [p 3 (R 3),p 5 (O 41),p 6 (I v0),p 46 (B (decide (v0 < (↑a1.1.length:Int))))] [(41,A 9 Ty.str v1 0),(3,K 42 y42 a1)]) <|
  cD H (fun H=>?_) (fun H=>?_)
 ·refine vx_skip<|fx_seq<|vx_seq<|vx_block <|
   zB (Z [p 3 (R 3),p 5 (AV.os 41 1),p 6 (I v0)] [(41,A 9 Ty.str (v1++[(a1.1.getD v0.toNat (dflt y147)).1]) 1),(56,A 9 Ty.str [(a1.1.getD v0.toNat (dflt y147)).1] 0),(3,K 42 y42 a1)]) H fun H =>
   fx_blk<|fx_seq <|
   zB (Z [p 3 (R 3),p 5 (AV.os 41 1),p 6 (I (v0+1))] [(41,A 9 Ty.str (v1++[(a1.1.getD v0.toNat (dflt y147)).1]) 1),(56,A 9 Ty.str [(a1.1.getD v0.toNat (dflt y147)).1] 0),(3,K 42 y42 a1)]) H fun H =>
   b1 H
 exact vx_exit<|fx_seq_exit<|e1<|fx_blk_exit rfl<|n0 H
def u36J0:Unit→Option (Bool)
 | _ =>
 some true
def u36L1 (a0:Y45) (g1:Int→Option (Bool)):Int→Option (Bool)
 | v1 =>
 if (decide (v1 < (↑a0.2.2.length:Int)))=true then
  gd (ix v1 a0.2.2.length∧(u78 a0.2.1 v1).isSome=true∧(u77 (a0.2.2.getD v1.toNat (dflt y137)) (↑(vl (u78 a0.2.1 v1)).length:Int)).isSome=true∧True)<|lt (vl (u78 a0.2.1 v1)) fun v2 =>
  if (!vl (u77 (a0.2.2.getD v1.toNat (dflt y137)) (↑v2.length:Int)))=true then
   some false
  else
   gd (in64 (v1+1)∧True) <|
   g1 (v1+1)
 else
  u36J0 ()
def u36 (a0:Y45):Option (Bool) :=
 gd ((u76 a0.1 a0.2.1).isSome=true∧True) <|
 if (!vl (u76 a0.1 a0.2.1)||(↑a0.2.2.length:Int) != (↑a0.2.1.2.1.length:Int))=true then
  some false
 else
  lp (u36L1 a0) 0
def k36:Ct:=lct 36 [.agg y45] (fun x=>u36 x.1) (fun r:Bool=>B r) (fun _=>())
theorem o36:Ok Tryz.prog k36:=by
 refine okL [.tmp 2] Tryz.func36 Tryz.ntmps36 Tryz.results36 ?_
 intro y ⟨a0,_⟩ r H Q hn hr
 have:HT _ _:=⟨tc o77 (tc o78 (tc o76 tn))⟩
 refine qA (Z [p 1 (R 1)] [(1,K 45 y45 a0)]) <|
  vx_seq <|
  qB (Z [p 1 (R 1),p 19 (B (!vl (u76 a0.1 a0.2.1)||(↑a0.2.2.length:Int) != (↑a0.2.1.2.1.length:Int)))] [(1,K 45 y45 a0)]) H fun H =>
  cD H (fun H=>?_) (fun H=>?_)
 ·refine qA (Z [p 2 (B false)] [(1,K 45 y45 a0)]) <|
   vx_ret<|fx_seq_ret<|hr H
 refine vx_skip<|fx_seq <|
  jN r (fun (_:Unit)=>Z [] []) (u36J0) (fun _ H=>?_) (fun _ n0 e0 t0=>?_)
 ·refine qA (Z [p 2 (B true)] []) <|
   vx_ret<|hr H
 refine qA (Z [p 1 (R 1),p 3 (I 0)] [(1,K 45 y45 a0)]) <|
  vx_block <|
  lX (fun (v1:Int)=>Z [p 1 (R 1),p 3 (I v1)] [(1,K 45 y45 a0)]) 0 H fun _ g1 b1 e1 t1 v1 H =>
  vx_seq <|
  qA (Z [p 1 (R 1),p 3 (I v1),p 24 (B (decide (v1 < (↑a0.2.2.length:Int))))] [(1,K 45 y45 a0)]) <|
  cD H (fun H=>?_) (fun H=>?_)
 ·refine vx_skip<|fx_seq<|vx_seq<|vx_block <|
   qD (fun v2=>Z [p 1 (R 1),p 3 (I v1),p 38 (B !vl (u77 (a0.2.2.getD v1.toNat (dflt y137)) (↑v2.length:Int)))] [(35,A 2 i64 v2 0),(1,K 45 y45 a0)]) H fun v2 H =>
   cD H (fun H=>?_) (fun H=>?_)
  ·refine qA (Z [p 2 (B false)] [(35,A 2 i64 v2 0),(1,K 45 y45 a0)]) <|
    vx_ret<|fx_blk_ret<|fx_seq_ret<|t1<|fx_blk_ret<|t0<|hr H
  refine vx_skip<|fx_blk<|fx_seq <|
   zB (Z [p 1 (R 1),p 3 (I (v1+1))] [(35,A 2 i64 v2 0),(1,K 45 y45 a0)]) H fun H =>
   b1 H
 exact vx_exit<|fx_seq_exit<|e1<|fx_blk_exit rfl<|n0 H
def u11 (a0:Y45) (a1:Int) (a2:Int) (a3:Int):Option (Int×Int) :=
 gd ((u36 a0).isSome=true∧True) <|
 if (!vl (u36 a0))=true then
  some (((0:Int),(1:Int)))
 else
  gd ((u37 a0 a1 a2 a3).isSome=true∧True)<|lt (vl (u37 a0 a1 a2 a3)) fun v0 =>
  if (v0 != 0)=true then
   some (((0:Int),v0))
  else
   gd ((u39 a0).isSome=true∧ix a1 (vl (u39 a0)).length∧a1.toNat < (vl (u39 a0)).length∧(u38 a0 ((vl (u39 a0)).getD a1.toNat (dflt y83)) a2 a3).isSome=true∧True)<|lt ((vl (u38 a0 ((vl (u39 a0)).getD a1.toNat (dflt y83)) a2 a3),vl (u39 a0))) fun (v1,v2) =>
   some ((v1,(0:Int)))
def u130 (a0:List Int) (a1:Int):Option (Int) :=
 gd (in64 (a1 - (↑a0.length:Int))∧True) <|
 if (decide (a1 - (↑a0.length:Int) < 0))=true then
  some (-1)
 else
  some (a1 - (↑a0.length:Int))
def k130:Ct:=lct 130 [.dat i64.sl,.dat i64] (fun x=>u130 x.1 x.2.1) (fun r:Int=>I r) (fun _=>())
theorem o130:Ok Tryz.prog k130:=by
 refine okL [.tmp 4] Tryz.func130 Tryz.ntmps130 Tryz.results130 ?_
 intro y ⟨a0,a1,_⟩ r H Q hn hr
 have:HT _ _:=⟨@tn Tryz.prog⟩
 refine qA (Z [p 0 (L i64 a0),p 1 (J a1)] []) <|
  qB (Z [p 1 (I (a1 - (↑a0.length:Int)))] []) H fun H =>
  vx_seq <|
  qA (Z [p 1 (I (a1 - (↑a0.length:Int))),p 10 (B (decide (a1 - (↑a0.length:Int) < 0)))] []) <|
  cD H (fun H=>?_) (fun H=>?_)
 ·refine qA (Z [p 4 (I (-1))] []) <|
   vx_ret<|fx_seq_ret<|hr H
 refine vx_skip<|fx_seq <|
  qA (Z [p 4 (I (a1 - (↑a0.length:Int)))] []) <|
  vx_ret<|hr H
def u75 (a0:Y134) (a1:Int):Option (Int) :=
 gd ((u130 a0.1 a1).isSome=true∧True)<|lt (vl (u130 a0.1 a1)) fun v0 =>
 if (decide (v0 < 0))=true then
  some (-1)
 else
  gd ((u130 a0.2.1 v0).isSome=true∧True)<|lt (vl (u130 a0.2.1 v0)) fun v1 =>
  if (decide (v1 < 0))=true then
   some (-1)
  else
   gd ((u130 a0.2.2.1 v1).isSome=true∧True)<|lt (vl (u130 a0.2.2.1 v1)) fun v2 =>
   if (decide (v2 < 0))=true then
    some (-1)
   else
    gd ((u130 a0.2.2.2 v2).isSome=true∧True)<|lt (vl (u130 a0.2.2.2 v2)) fun v3 =>
    if (decide (v3 < 0))=true then
     some (-1)
    else
     some v3
def k75:Ct:=lct 75 [.agg y134,.dat i64] (fun x=>u75 x.1 x.2.1) (fun r:Int=>I r) (fun _=>())
theorem o75:Ok Tryz.prog k75:=by
 refine okL [.tmp 4] Tryz.func75 Tryz.ntmps75 Tryz.results75 ?_
 intro y ⟨a0,a1,_⟩ r H Q hn hr
 have:HT _ _:=⟨tc o130 tn⟩
 refine qA (Z [p 1 (J a1),p 2 (R 2)] [(2,K 134 y134 a0)]) <|
  qD (fun v0=>Z [p 1 (I v0),p 2 (R 2)] [(2,K 134 y134 a0)]) H fun v0 H =>
  vx_seq <|
  qA (Z [p 1 (I v0),p 2 (R 2),p 10 (B (decide (v0 < 0)))] [(2,K 134 y134 a0)]) <|
  cD H (fun H=>?_) (fun H=>?_)
 ·refine qA (Z [p 4 (I (-1))] [(2,K 134 y134 a0)]) <|
   vx_ret<|fx_seq_ret<|hr H
 refine vx_skip<|fx_seq <|
  qD (fun v1=>Z [p 1 (I v1),p 2 (R 2)] [(2,K 134 y134 a0)]) H fun v1 H =>
  vx_seq <|
  qA (Z [p 1 (I v1),p 2 (R 2),p 16 (B (decide (v1 < 0)))] [(2,K 134 y134 a0)]) <|
  cD H (fun H=>?_) (fun H=>?_)
 ·refine qA (Z [p 4 (I (-1))] [(2,K 134 y134 a0)]) <|
   vx_ret<|fx_seq_ret<|hr H
 refine vx_skip<|fx_seq <|
  qD (fun v2=>Z [p 1 (I v2),p 2 (R 2)] [(2,K 134 y134 a0)]) H fun v2 H =>
  vx_seq <|
  qA (Z [p 1 (I v2),p 2 (R 2),p 22 (B (decide (v2 < 0)))] [(2,K 134 y134 a0)]) <|
  cD H (fun H=>?_) (fun H=>?_)
 ·refine qA (Z [p 4 (I (-1))] [(2,K 134 y134 a0)]) <|
   vx_ret<|fx_seq_ret<|hr H
 refine vx_skip<|fx_seq <|
  qD (fun v3=>Z [p 1 (I v3)] [(2,K 134 y134 a0)]) H fun v3 H =>
  vx_seq <|
  qA (Z [p 1 (I v3),p 28 (B (decide (v3 < 0)))] [(2,K 134 y134 a0)]) <|
  cD H (fun H=>?_) (fun H=>?_)
 ·refine qA (Z [p 4 (I (-1))] [(2,K 134 y134 a0)]) <|
   vx_ret<|fx_seq_ret<|hr H
 refine vx_skip<|fx_seq <|
  qA (Z [p 4 (I v3)] [(2,K 134 y134 a0)]) <|
  vx_ret<|hr H
def u35J0:Int→Option (Int)
 | v4 =>
 some v4
def u35L1 (a0:List Y134) (g1:Int×Int→Option (Int)):Int×Int→Option (Int)
 | (v1,v2) =>
 if (decide (v2 < (↑a0.length:Int)))=true then
  gd (ix v2 a0.length∧(u75 (a0.getD v2.toNat (dflt y134)) v1).isSome=true∧True)<|lt (vl (u75 (a0.getD v2.toNat (dflt y134)) v1)) fun v3 =>
  if (decide (v3 < 0))=true then
   some (-1)
  else
   gd (in64 (v2+1)∧True) <|
   g1 (v3,v2+1)
 else
  u35J0 v1
def u35 (a0:List Y134) (a1:Int):Option (Int) :=
 gd (in64 (a1 - (↑a0.length:Int))∧True) <|
 if (decide (a1 - (↑a0.length:Int) < 0))=true then
  some (-1)
 else
  lp (u35L1 a0) ((a1 - (↑a0.length:Int),0))
def k35:Ct:=lct 35 [.dat y134.sl,.dat i64] (fun x=>u35 x.1 x.2.1) (fun r:Int=>I r) (fun _=>())
theorem o35:Ok Tryz.prog k35:=by
 refine okL [.tmp 4] Tryz.func35 Tryz.ntmps35 Tryz.results35 ?_
 intro y ⟨a0,a1,_⟩ r H Q hn hr
 have:HT _ _:=⟨tc o75 tn⟩
 refine qA (Z [p 0 (L y134 a0),p 1 (J a1)] []) <|
  qB (Z [p 0 (L y134 a0),p 1 (I (a1 - (↑a0.length:Int)))] []) H fun H =>
  vx_seq <|
  qA (Z [p 0 (L y134 a0),p 1 (I (a1 - (↑a0.length:Int))),p 11 (B (decide (a1 - (↑a0.length:Int) < 0)))] []) <|
  cD H (fun H=>?_) (fun H=>?_)
 ·refine qA (Z [p 4 (I (-1))] []) <|
   vx_ret<|fx_seq_ret<|hr H
 refine vx_skip<|fx_seq <|
  jN r (fun (v4:Int)=>Z [p 1 (I v4)] []) (u35J0) (fun v4 H=>?_) (fun _ n0 e0 t0=>?_)
 ·refine qA (Z [p 4 (I v4)] []) <|
   vx_ret<|hr H
 refine qA (Z [p 0 (L y134 a0),p 1 (I (a1 - (↑a0.length:Int))),p 5 (I 0)] []) <|
  vx_block <|
  lX (fun ((v1,v2):Int×Int)=>Z [p 0 (L y134 a0),p 1 (I v1),p 5 (I v2)] []) ((a1 - (↑a0.length:Int),0)) H fun _ g1 b1 e1 t1 ⟨v1,v2⟩ H =>
  vx_seq <|
  qA (Z [p 0 (L y134 a0),p 1 (I v1),p 5 (I v2),p 15 (B (decide (v2 < (↑a0.length:Int))))] []) <|
  cD H (fun H=>?_) (fun H=>?_)
 ·refine vx_skip<|fx_seq<|vx_seq<|vx_block <|
   qD (fun v3=>Z [p 0 (L y134 a0),p 1 (I v3),p 5 (I v2)] []) H fun v3 H =>
   qA (Z [p 0 (L y134 a0),p 1 (I v3),p 5 (I v2),p 25 (B (decide (v3 < 0)))] []) <|
   cD H (fun H=>?_) (fun H=>?_)
  ·refine qA (Z [p 4 (I (-1))] []) <|
    vx_ret<|fx_blk_ret<|fx_seq_ret<|t1<|fx_blk_ret<|t0<|hr H
  refine vx_skip<|fx_blk<|fx_seq <|
   zB (Z [p 0 (L y134 a0),p 1 (I v3),p 5 (I (v2+1))] []) H fun H =>
   b1 H
 exact vx_exit<|fx_seq_exit<|e1<|fx_blk_exit rfl<|n0 H
def u129 (a0:Y196) (a1:Int):Option (Int) :=
 gd (in64 (a1 - (↑a0.1.size:Int))∧True) <|
 if (decide (a1 - (↑a0.1.size:Int) < 0))=true then
  some (-1)
 else
  some (a1 - (↑a0.1.size:Int))
def k129:Ct:=lct 129 [.agg y196,.dat i64] (fun x=>u129 x.1 x.2.1) (fun r:Int=>I r) (fun _=>())
theorem o129:Ok Tryz.prog k129:=by
 refine okL [.tmp 4] Tryz.func129 Tryz.ntmps129 Tryz.results129 ?_
 intro y ⟨a0,a1,_⟩ r H Q hn hr
 have:HT _ _:=⟨@tn Tryz.prog⟩
 refine qA (Z [p 1 (J a1),p 2 (R 2)] [(2,K 196 y196 a0)]) <|
  qB (Z [p 1 (I (a1 - (↑a0.1.size:Int)))] [(2,K 196 y196 a0)]) H fun H =>
  vx_seq <|
  qA (Z [p 1 (I (a1 - (↑a0.1.size:Int))),p 11 (B (decide (a1 - (↑a0.1.size:Int) < 0)))] [(2,K 196 y196 a0)]) <|
  cD H (fun H=>?_) (fun H=>?_)
 ·refine qA (Z [p 4 (I (-1))] [(2,K 196 y196 a0)]) <|
   vx_ret<|fx_seq_ret<|hr H
 refine vx_skip<|fx_seq <|
  qA (Z [p 4 (I (a1 - (↑a0.1.size:Int)))] [(2,K 196 y196 a0)]) <|
  vx_ret<|hr H
def u74J0:Int→Option (Int)
 | v4 =>
 some v4
def u74L1 (a0:List Y196) (g1:Int×Int→Option (Int)):Int×Int→Option (Int)
 | (v1,v2) =>
 if (decide (v2 < (↑a0.length:Int)))=true then
  gd (ix v2 a0.length∧(u129 (a0.getD v2.toNat (dflt y196)) v1).isSome=true∧True)<|lt (vl (u129 (a0.getD v2.toNat (dflt y196)) v1)) fun v3 =>
  if (decide (v3 < 0))=true then
   some (-1)
  else
   gd (in64 (v2+1)∧True) <|
   g1 (v3,v2+1)
 else
  u74J0 v1
def u74 (a0:List Y196) (a1:Int):Option (Int) :=
 gd (in64 (a1 - (↑a0.length:Int))∧True) <|
 if (decide (a1 - (↑a0.length:Int) < 0))=true then
  some (-1)
 else
  lp (u74L1 a0) ((a1 - (↑a0.length:Int),0))
def k74:Ct:=lct 74 [.dat y196.sl,.dat i64] (fun x=>u74 x.1 x.2.1) (fun r:Int=>I r) (fun _=>())
theorem o74:Ok Tryz.prog k74:=by
 refine okL [.tmp 4] Tryz.func74 Tryz.ntmps74 Tryz.results74 ?_
 intro y ⟨a0,a1,_⟩ r H Q hn hr
 have:HT _ _:=⟨tc o129 tn⟩
 refine qA (Z [p 0 (L y196 a0),p 1 (J a1)] []) <|
  qB (Z [p 0 (L y196 a0),p 1 (I (a1 - (↑a0.length:Int)))] []) H fun H =>
  vx_seq <|
  qA (Z [p 0 (L y196 a0),p 1 (I (a1 - (↑a0.length:Int))),p 11 (B (decide (a1 - (↑a0.length:Int) < 0)))] []) <|
  cD H (fun H=>?_) (fun H=>?_)
 ·refine qA (Z [p 4 (I (-1))] []) <|
   vx_ret<|fx_seq_ret<|hr H
 refine vx_skip<|fx_seq <|
  jN r (fun (v4:Int)=>Z [p 1 (I v4)] []) (u74J0) (fun v4 H=>?_) (fun _ n0 e0 t0=>?_)
 ·refine qA (Z [p 4 (I v4)] []) <|
   vx_ret<|hr H
 refine qA (Z [p 0 (L y196 a0),p 1 (I (a1 - (↑a0.length:Int))),p 5 (I 0)] []) <|
  vx_block <|
  lX (fun ((v1,v2):Int×Int)=>Z [p 0 (L y196 a0),p 1 (I v1),p 5 (I v2)] []) ((a1 - (↑a0.length:Int),0)) H fun _ g1 b1 e1 t1 ⟨v1,v2⟩ H =>
  vx_seq <|
  qA (Z [p 0 (L y196 a0),p 1 (I v1),p 5 (I v2),p 15 (B (decide (v2 < (↑a0.length:Int))))] []) <|
  cD H (fun H=>?_) (fun H=>?_)
 ·refine vx_skip<|fx_seq<|vx_seq<|vx_block <|
   qD (fun v3=>Z [p 0 (L y196 a0),p 1 (I v3),p 5 (I v2)] []) H fun v3 H =>
   qA (Z [p 0 (L y196 a0),p 1 (I v3),p 5 (I v2),p 25 (B (decide (v3 < 0)))] []) <|
   cD H (fun H=>?_) (fun H=>?_)
  ·refine qA (Z [p 4 (I (-1))] []) <|
    vx_ret<|fx_blk_ret<|fx_seq_ret<|t1<|fx_blk_ret<|t0<|hr H
  refine vx_skip<|fx_blk<|fx_seq <|
   zB (Z [p 0 (L y196 a0),p 1 (I v3),p 5 (I (v2+1))] []) H fun H =>
   b1 H
 exact vx_exit<|fx_seq_exit<|e1<|fx_blk_exit rfl<|n0 H
def u73J0:Int→Option (Int)
 | v4 =>
 some v4
def u73L1 (a0:List ByteArray) (g1:Int×Int→Option (Int)):Int×Int→Option (Int)
 | (v1,v2) =>
 if (decide (v2 < (↑a0.length:Int)))=true then
  gd (ix v2 a0.length∧in64 (v1 - (↑(ByteArray.size (a0.getD v2.toNat (dflt Ty.str))):Int))∧True)<|lt (v1 - (↑(ByteArray.size (a0.getD v2.toNat (dflt Ty.str))):Int)) fun v3 =>
  if (decide (v3 < 0))=true then
   some (-1)
  else
   gd (in64 (v2+1)∧True) <|
   g1 (v3,v2+1)
 else
  u73J0 v1
def u73 (a0:List ByteArray) (a1:Int):Option (Int) :=
 gd (in64 (a1 - (↑a0.length:Int))∧True) <|
 if (decide (a1 - (↑a0.length:Int) < 0))=true then
  some (-1)
 else
  lp (u73L1 a0) ((a1 - (↑a0.length:Int),0))
def k73:Ct:=lct 73 [.dat Ty.str.sl,.dat i64] (fun x=>u73 x.1 x.2.1) (fun r:Int=>I r) (fun _=>())
theorem o73:Ok Tryz.prog k73:=by
 refine okL [.tmp 4] Tryz.func73 Tryz.ntmps73 Tryz.results73 ?_
 intro y ⟨a0,a1,_⟩ r H Q hn hr
 have:HT _ _:=⟨@tn Tryz.prog⟩
 refine qA (Z [p 0 (L Ty.str a0),p 1 (J a1)] []) <|
  qB (Z [p 0 (L Ty.str a0),p 1 (I (a1 - (↑a0.length:Int)))] []) H fun H =>
  vx_seq <|
  qA (Z [p 0 (L Ty.str a0),p 1 (I (a1 - (↑a0.length:Int))),p 11 (B (decide (a1 - (↑a0.length:Int) < 0)))] []) <|
  cD H (fun H=>?_) (fun H=>?_)
 ·refine qA (Z [p 4 (I (-1))] []) <|
   vx_ret<|fx_seq_ret<|hr H
 refine vx_skip<|fx_seq <|
  jN r (fun (v4:Int)=>Z [p 1 (I v4)] []) (u73J0) (fun v4 H=>?_) (fun _ n0 e0 t0=>?_)
 ·refine qA (Z [p 4 (I v4)] []) <|
   vx_ret<|hr H
 refine qA (Z [p 0 (L Ty.str a0),p 1 (I (a1 - (↑a0.length:Int))),p 5 (I 0)] []) <|
  vx_block <|
  lX (fun ((v1,v2):Int×Int)=>Z [p 0 (L Ty.str a0),p 1 (I v1),p 5 (I v2)] []) ((a1 - (↑a0.length:Int),0)) H fun _ g1 b1 e1 t1 ⟨v1,v2⟩ H =>
  vx_seq <|
  qA (Z [p 0 (L Ty.str a0),p 1 (I v1),p 5 (I v2),p 15 (B (decide (v2 < (↑a0.length:Int))))] []) <|
  cD H (fun H=>?_) (fun H=>?_)
 ·refine vx_skip<|fx_seq<|vx_seq<|vx_block <|
   qD (fun v3=>Z [p 0 (L Ty.str a0),p 1 (I v3),p 5 (I v2)] []) H fun v3 H =>
   qA (Z [p 0 (L Ty.str a0),p 1 (I v3),p 5 (I v2),p 26 (B (decide (v3 < 0)))] []) <|
   cD H (fun H=>?_) (fun H=>?_)
  ·refine qA (Z [p 4 (I (-1))] []) <|
    vx_ret<|fx_blk_ret<|fx_seq_ret<|t1<|fx_blk_ret<|t0<|hr H
  refine vx_skip<|fx_blk<|fx_seq <|
   zB (Z [p 0 (L Ty.str a0),p 1 (I v3),p 5 (I (v2+1))] []) H fun H =>
   b1 H
 exact vx_exit<|fx_seq_exit<|e1<|fx_blk_exit rfl<|n0 H
def u128 (a0:Y193) (a1:Int):Option (Int) :=
 gd (in64 (a1 - (↑a0.1.size:Int))∧True) <|
 if (decide (a1 - (↑a0.1.size:Int) < 0))=true then
  some (-1)
 else
  gd ((u130 a0.2.2 (a1 - (↑a0.1.size:Int))).isSome=true∧True)<|lt (vl (u130 a0.2.2 (a1 - (↑a0.1.size:Int)))) fun v0 =>
  if (decide (v0 < 0))=true then
   some (-1)
  else
   some v0
def k128:Ct:=lct 128 [.agg y193,.dat i64] (fun x=>u128 x.1 x.2.1) (fun r:Int=>I r) (fun _=>())
theorem o128:Ok Tryz.prog k128:=by
 refine okL [.tmp 4] Tryz.func128 Tryz.ntmps128 Tryz.results128 ?_
 intro y ⟨a0,a1,_⟩ r H Q hn hr
 have:HT _ _:=⟨tc o130 tn⟩
 refine qA (Z [p 1 (J a1),p 2 (R 2)] [(2,K 193 y193 a0)]) <|
  qB (Z [p 1 (I (a1 - (↑a0.1.size:Int))),p 2 (R 2)] [(2,K 193 y193 a0)]) H fun H =>
  vx_seq <|
  qA (Z [p 1 (I (a1 - (↑a0.1.size:Int))),p 2 (R 2),p 11 (B (decide (a1 - (↑a0.1.size:Int) < 0)))] [(2,K 193 y193 a0)]) <|
  cD H (fun H=>?_) (fun H=>?_)
 ·refine qA (Z [p 4 (I (-1))] [(2,K 193 y193 a0)]) <|
   vx_ret<|fx_seq_ret<|hr H
 refine vx_skip<|fx_seq <|
  qD (fun v0=>Z [p 1 (I v0)] [(2,K 193 y193 a0)]) H fun v0 H =>
  vx_seq <|
  qA (Z [p 1 (I v0),p 17 (B (decide (v0 < 0)))] [(2,K 193 y193 a0)]) <|
  cD H (fun H=>?_) (fun H=>?_)
 ·refine qA (Z [p 4 (I (-1))] [(2,K 193 y193 a0)]) <|
   vx_ret<|fx_seq_ret<|hr H
 refine vx_skip<|fx_seq <|
  qA (Z [p 4 (I v0)] [(2,K 193 y193 a0)]) <|
  vx_ret<|hr H
def u72J0:Int→Option (Int)
 | v4 =>
 some v4
def u72L1 (a0:List Y193) (g1:Int×Int→Option (Int)):Int×Int→Option (Int)
 | (v1,v2) =>
 if (decide (v2 < (↑a0.length:Int)))=true then
  gd (ix v2 a0.length∧(u128 (a0.getD v2.toNat (dflt y193)) v1).isSome=true∧True)<|lt (vl (u128 (a0.getD v2.toNat (dflt y193)) v1)) fun v3 =>
  if (decide (v3 < 0))=true then
   some (-1)
  else
   gd (in64 (v2+1)∧True) <|
   g1 (v3,v2+1)
 else
  u72J0 v1
def u72 (a0:List Y193) (a1:Int):Option (Int) :=
 gd (in64 (a1 - (↑a0.length:Int))∧True) <|
 if (decide (a1 - (↑a0.length:Int) < 0))=true then
  some (-1)
 else
  lp (u72L1 a0) ((a1 - (↑a0.length:Int),0))
def k72:Ct:=lct 72 [.dat y193.sl,.dat i64] (fun x=>u72 x.1 x.2.1) (fun r:Int=>I r) (fun _=>())
theorem o72:Ok Tryz.prog k72:=by
 refine okL [.tmp 4] Tryz.func72 Tryz.ntmps72 Tryz.results72 ?_
 intro y ⟨a0,a1,_⟩ r H Q hn hr
 have:HT _ _:=⟨tc o128 tn⟩
 refine qA (Z [p 0 (L y193 a0),p 1 (J a1)] []) <|
  qB (Z [p 0 (L y193 a0),p 1 (I (a1 - (↑a0.length:Int)))] []) H fun H =>
  vx_seq <|
  qA (Z [p 0 (L y193 a0),p 1 (I (a1 - (↑a0.length:Int))),p 11 (B (decide (a1 - (↑a0.length:Int) < 0)))] []) <|
  cD H (fun H=>?_) (fun H=>?_)
 ·refine qA (Z [p 4 (I (-1))] []) <|
   vx_ret<|fx_seq_ret<|hr H
 refine vx_skip<|fx_seq <|
  jN r (fun (v4:Int)=>Z [p 1 (I v4)] []) (u72J0) (fun v4 H=>?_) (fun _ n0 e0 t0=>?_)
 ·refine qA (Z [p 4 (I v4)] []) <|
   vx_ret<|hr H
 refine qA (Z [p 0 (L y193 a0),p 1 (I (a1 - (↑a0.length:Int))),p 5 (I 0)] []) <|
  vx_block <|
  lX (fun ((v1,v2):Int×Int)=>Z [p 0 (L y193 a0),p 1 (I v1),p 5 (I v2)] []) ((a1 - (↑a0.length:Int),0)) H fun _ g1 b1 e1 t1 ⟨v1,v2⟩ H =>
  vx_seq <|
  qA (Z [p 0 (L y193 a0),p 1 (I v1),p 5 (I v2),p 15 (B (decide (v2 < (↑a0.length:Int))))] []) <|
  cD H (fun H=>?_) (fun H=>?_)
 ·refine vx_skip<|fx_seq<|vx_seq<|vx_block <|
   qD (fun v3=>Z [p 0 (L y193 a0),p 1 (I v3),p 5 (I v2)] []) H fun v3 H =>
   qA (Z [p 0 (L y193 a0),p 1 (I v3),p 5 (I v2),p 25 (B (decide (v3 < 0)))] []) <|
   cD H (fun H=>?_) (fun H=>?_)
  ·refine qA (Z [p 4 (I (-1))] []) <|
    vx_ret<|fx_blk_ret<|fx_seq_ret<|t1<|fx_blk_ret<|t0<|hr H
  refine vx_skip<|fx_blk<|fx_seq <|
   zB (Z [p 0 (L y193 a0),p 1 (I v3),p 5 (I (v2+1))] []) H fun H =>
   b1 H
 exact vx_exit<|fx_seq_exit<|e1<|fx_blk_exit rfl<|n0 H
def u34 (a0:Y29) (a1:Int):Option (Int) :=
 gd ((u72 a0.1 a1).isSome=true∧True)<|lt (vl (u72 a0.1 a1)) fun v0 =>
 if (decide (v0 < 0))=true then
  some (-1)
 else
  gd ((u73 a0.2.1 v0).isSome=true∧True)<|lt (vl (u73 a0.2.1 v0)) fun v1 =>
  if (decide (v1 < 0))=true then
   some (-1)
  else
   gd ((u74 a0.2.2 v1).isSome=true∧True)<|lt (vl (u74 a0.2.2 v1)) fun v2 =>
   if (decide (v2 < 0))=true then
    some (-1)
   else
    some v2
def k34:Ct:=lct 34 [.agg y29,.dat i64] (fun x=>u34 x.1 x.2.1) (fun r:Int=>I r) (fun _=>())
theorem o34:Ok Tryz.prog k34:=by
 refine okL [.tmp 4] Tryz.func34 Tryz.ntmps34 Tryz.results34 ?_
 intro y ⟨a0,a1,_⟩ r H Q hn hr
 have:HT _ _:=⟨tc o74 (tc o73 (tc o72 tn))⟩
 refine qA (Z [p 1 (J a1),p 2 (R 2)] [(2,K 29 y29 a0)]) <|
  qD (fun v0=>Z [p 1 (I v0),p 2 (R 2)] [(2,K 29 y29 a0)]) H fun v0 H =>
  vx_seq <|
  qA (Z [p 1 (I v0),p 2 (R 2),p 10 (B (decide (v0 < 0)))] [(2,K 29 y29 a0)]) <|
  cD H (fun H=>?_) (fun H=>?_)
 ·refine qA (Z [p 4 (I (-1))] [(2,K 29 y29 a0)]) <|
   vx_ret<|fx_seq_ret<|hr H
 refine vx_skip<|fx_seq <|
  qD (fun v1=>Z [p 1 (I v1),p 2 (R 2)] [(2,K 29 y29 a0)]) H fun v1 H =>
  vx_seq <|
  qA (Z [p 1 (I v1),p 2 (R 2),p 16 (B (decide (v1 < 0)))] [(2,K 29 y29 a0)]) <|
  cD H (fun H=>?_) (fun H=>?_)
 ·refine qA (Z [p 4 (I (-1))] [(2,K 29 y29 a0)]) <|
   vx_ret<|fx_seq_ret<|hr H
 refine vx_skip<|fx_seq <|
  qD (fun v2=>Z [p 1 (I v2)] [(2,K 29 y29 a0)]) H fun v2 H =>
  vx_seq <|
  qA (Z [p 1 (I v2),p 22 (B (decide (v2 < 0)))] [(2,K 29 y29 a0)]) <|
  cD H (fun H=>?_) (fun H=>?_)
 ·refine qA (Z [p 4 (I (-1))] [(2,K 29 y29 a0)]) <|
   vx_ret<|fx_seq_ret<|hr H
 refine vx_skip<|fx_seq <|
  qA (Z [p 4 (I v2)] [(2,K 29 y29 a0)]) <|
  vx_ret<|hr H
def u232 (a0:Y285) (a1:Int):Option (Int) :=
 gd ((u130 a0.1 a1).isSome=true∧True)<|lt (vl (u130 a0.1 a1)) fun v0 =>
 if (decide (v0 < 0))=true then
  some (-1)
 else
  gd ((u130 a0.2.1 v0).isSome=true∧True)<|lt (vl (u130 a0.2.1 v0)) fun v1 =>
  if (decide (v1 < 0))=true then
   some (-1)
  else
   gd ((u130 a0.2.2 v1).isSome=true∧True)<|lt (vl (u130 a0.2.2 v1)) fun v2 =>
   if (decide (v2 < 0))=true then
    some (-1)
   else
    some v2
def k232:Ct:=lct 232 [.agg y285,.dat i64] (fun x=>u232 x.1 x.2.1) (fun r:Int=>I r) (fun _=>())
theorem o232:Ok Tryz.prog k232:=by
 refine okL [.tmp 4] Tryz.func232 Tryz.ntmps232 Tryz.results232 ?_
 intro y ⟨a0,a1,_⟩ r H Q hn hr
 have:HT _ _:=⟨tc o130 tn⟩
 refine qA (Z [p 1 (J a1),p 2 (R 2)] [(2,K 285 y285 a0)]) <|
  qD (fun v0=>Z [p 1 (I v0),p 2 (R 2)] [(2,K 285 y285 a0)]) H fun v0 H =>
  vx_seq <|
  qA (Z [p 1 (I v0),p 2 (R 2),p 10 (B (decide (v0 < 0)))] [(2,K 285 y285 a0)]) <|
  cD H (fun H=>?_) (fun H=>?_)
 ·refine qA (Z [p 4 (I (-1))] [(2,K 285 y285 a0)]) <|
   vx_ret<|fx_seq_ret<|hr H
 refine vx_skip<|fx_seq <|
  qD (fun v1=>Z [p 1 (I v1),p 2 (R 2)] [(2,K 285 y285 a0)]) H fun v1 H =>
  vx_seq <|
  qA (Z [p 1 (I v1),p 2 (R 2),p 16 (B (decide (v1 < 0)))] [(2,K 285 y285 a0)]) <|
  cD H (fun H=>?_) (fun H=>?_)
 ·refine qA (Z [p 4 (I (-1))] [(2,K 285 y285 a0)]) <|
   vx_ret<|fx_seq_ret<|hr H
 refine vx_skip<|fx_seq <|
  qD (fun v2=>Z [p 1 (I v2)] [(2,K 285 y285 a0)]) H fun v2 H =>
  vx_seq <|
  qA (Z [p 1 (I v2),p 22 (B (decide (v2 < 0)))] [(2,K 285 y285 a0)]) <|
  cD H (fun H=>?_) (fun H=>?_)
 ·refine qA (Z [p 4 (I (-1))] [(2,K 285 y285 a0)]) <|
   vx_ret<|fx_seq_ret<|hr H
 refine vx_skip<|fx_seq <|
  qA (Z [p 4 (I v2)] [(2,K 285 y285 a0)]) <|
  vx_ret<|hr H
def u217J0:Int→Option (Int)
 | v4 =>
 some v4
def u217L1 (a0:List Y285) (g1:Int×Int→Option (Int)):Int×Int→Option (Int)
 | (v1,v2) =>
 if (decide (v2 < (↑a0.length:Int)))=true then
  gd (ix v2 a0.length∧(u232 (a0.getD v2.toNat (dflt y285)) v1).isSome=true∧True)<|lt (vl (u232 (a0.getD v2.toNat (dflt y285)) v1)) fun v3 =>
  if (decide (v3 < 0))=true then
   some (-1)
  else
   gd (in64 (v2+1)∧True) <|
   g1 (v3,v2+1)
 else
  u217J0 v1
def u217 (a0:List Y285) (a1:Int):Option (Int) :=
 gd (in64 (a1 - (↑a0.length:Int))∧True) <|
 if (decide (a1 - (↑a0.length:Int) < 0))=true then
  some (-1)
 else
  lp (u217L1 a0) ((a1 - (↑a0.length:Int),0))
def k217:Ct:=lct 217 [.dat y285.sl,.dat i64] (fun x=>u217 x.1 x.2.1) (fun r:Int=>I r) (fun _=>())
theorem o217:Ok Tryz.prog k217:=by
 refine okL [.tmp 4] Tryz.func217 Tryz.ntmps217 Tryz.results217 ?_
 intro y ⟨a0,a1,_⟩ r H Q hn hr
 have:HT _ _:=⟨tc o232 tn⟩
 refine qA (Z [p 0 (L y285 a0),p 1 (J a1)] []) <|
  qB (Z [p 0 (L y285 a0),p 1 (I (a1 - (↑a0.length:Int)))] []) H fun H =>
  vx_seq <|
  qA (Z [p 0 (L y285 a0),p 1 (I (a1 - (↑a0.length:Int))),p 11 (B (decide (a1 - (↑a0.length:Int) < 0)))] []) <|
  cD H (fun H=>?_) (fun H=>?_)
 ·refine qA (Z [p 4 (I (-1))] []) <|
   vx_ret<|fx_seq_ret<|hr H
 refine vx_skip<|fx_seq <|
  jN r (fun (v4:Int)=>Z [p 1 (I v4)] []) (u217J0) (fun v4 H=>?_) (fun _ n0 e0 t0=>?_)
 ·refine qA (Z [p 4 (I v4)] []) <|
   vx_ret<|hr H
 refine qA (Z [p 0 (L y285 a0),p 1 (I (a1 - (↑a0.length:Int))),p 5 (I 0)] []) <|
  vx_block <|
  lX (fun ((v1,v2):Int×Int)=>Z [p 0 (L y285 a0),p 1 (I v1),p 5 (I v2)] []) ((a1 - (↑a0.length:Int),0)) H fun _ g1 b1 e1 t1 ⟨v1,v2⟩ H =>
  vx_seq <|
  qA (Z [p 0 (L y285 a0),p 1 (I v1),p 5 (I v2),p 15 (B (decide (v2 < (↑a0.length:Int))))] []) <|
  cD H (fun H=>?_) (fun H=>?_)
 ·refine vx_skip<|fx_seq<|vx_seq<|vx_block <|
   qD (fun v3=>Z [p 0 (L y285 a0),p 1 (I v3),p 5 (I v2)] []) H fun v3 H =>
   qA (Z [p 0 (L y285 a0),p 1 (I v3),p 5 (I v2),p 25 (B (decide (v3 < 0)))] []) <|
   cD H (fun H=>?_) (fun H=>?_)
  ·refine qA (Z [p 4 (I (-1))] []) <|
    vx_ret<|fx_blk_ret<|fx_seq_ret<|t1<|fx_blk_ret<|t0<|hr H
  refine vx_skip<|fx_blk<|fx_seq <|
   zB (Z [p 0 (L y285 a0),p 1 (I v3),p 5 (I (v2+1))] []) H fun H =>
   b1 H
 exact vx_exit<|fx_seq_exit<|e1<|fx_blk_exit rfl<|n0 H
def u197 (a0:Y259) (a1:Int):Option (Int) :=
 gd ((u217 a0.2.2.2.2.1 a1).isSome=true∧True)<|lt (vl (u217 a0.2.2.2.2.1 a1)) fun v0 =>
 if (decide (v0 < 0))=true then
  some (-1)
 else
  gd ((u217 a0.2.2.2.2.2 v0).isSome=true∧True)<|lt (vl (u217 a0.2.2.2.2.2 v0)) fun v1 =>
  if (decide (v1 < 0))=true then
   some (-1)
  else
   some v1
def k197:Ct:=lct 197 [.agg y259,.dat i64] (fun x=>u197 x.1 x.2.1) (fun r:Int=>I r) (fun _=>())
theorem o197:Ok Tryz.prog k197:=by
 refine okL [.tmp 4] Tryz.func197 Tryz.ntmps197 Tryz.results197 ?_
 intro y ⟨a0,a1,_⟩ r H Q hn hr
 have:HT _ _:=⟨tc o217 tn⟩
 refine qA (Z [p 1 (J a1),p 2 (R 2)] [(2,K 259 y259 a0)]) <|
  qD (fun v0=>Z [p 1 (I v0),p 2 (R 2)] [(2,K 259 y259 a0)]) H fun v0 H =>
  vx_seq <|
  qA (Z [p 1 (I v0),p 2 (R 2),p 10 (B (decide (v0 < 0)))] [(2,K 259 y259 a0)]) <|
  cD H (fun H=>?_) (fun H=>?_)
 ·refine qA (Z [p 4 (I (-1))] [(2,K 259 y259 a0)]) <|
   vx_ret<|fx_seq_ret<|hr H
 refine vx_skip<|fx_seq <|
  qD (fun v1=>Z [p 1 (I v1)] [(2,K 259 y259 a0)]) H fun v1 H =>
  vx_seq <|
  qA (Z [p 1 (I v1),p 16 (B (decide (v1 < 0)))] [(2,K 259 y259 a0)]) <|
  cD H (fun H=>?_) (fun H=>?_)
 ·refine qA (Z [p 4 (I (-1))] [(2,K 259 y259 a0)]) <|
   vx_ret<|fx_seq_ret<|hr H
 refine vx_skip<|fx_seq <|
  qA (Z [p 4 (I v1)] [(2,K 259 y259 a0)]) <|
  vx_ret<|hr H
def u171J0:Int→Option (Int)
 | v4 =>
 some v4
def u171L1 (a0:List Y259) (g1:Int×Int→Option (Int)):Int×Int→Option (Int)
 | (v1,v2) =>
 if (decide (v2 < (↑a0.length:Int)))=true then
  gd (ix v2 a0.length∧(u197 (a0.getD v2.toNat (dflt y259)) v1).isSome=true∧True)<|lt (vl (u197 (a0.getD v2.toNat (dflt y259)) v1)) fun v3 =>
  if (decide (v3 < 0))=true then
   some (-1)
  else
   gd (in64 (v2+1)∧True) <|
   g1 (v3,v2+1)
 else
  u171J0 v1
def u171 (a0:List Y259) (a1:Int):Option (Int) :=
 gd (in64 (a1 - (↑a0.length:Int))∧True) <|
 if (decide (a1 - (↑a0.length:Int) < 0))=true then
  some (-1)
 else
  lp (u171L1 a0) ((a1 - (↑a0.length:Int),0))
def k171:Ct:=lct 171 [.dat y259.sl,.dat i64] (fun x=>u171 x.1 x.2.1) (fun r:Int=>I r) (fun _=>())
theorem o171:Ok Tryz.prog k171:=by
 refine okL [.tmp 4] Tryz.func171 Tryz.ntmps171 Tryz.results171 ?_
 intro y ⟨a0,a1,_⟩ r H Q hn hr
 have:HT _ _:=⟨tc o197 tn⟩
 refine qA (Z [p 0 (L y259 a0),p 1 (J a1)] []) <|
  qB (Z [p 0 (L y259 a0),p 1 (I (a1 - (↑a0.length:Int)))] []) H fun H =>
  vx_seq <|
  qA (Z [p 0 (L y259 a0),p 1 (I (a1 - (↑a0.length:Int))),p 11 (B (decide (a1 - (↑a0.length:Int) < 0)))] []) <|
  cD H (fun H=>?_) (fun H=>?_)
 ·refine qA (Z [p 4 (I (-1))] []) <|
   vx_ret<|fx_seq_ret<|hr H
 refine vx_skip<|fx_seq <|
  jN r (fun (v4:Int)=>Z [p 1 (I v4)] []) (u171J0) (fun v4 H=>?_) (fun _ n0 e0 t0=>?_)
 ·refine qA (Z [p 4 (I v4)] []) <|
   vx_ret<|hr H
 refine qA (Z [p 0 (L y259 a0),p 1 (I (a1 - (↑a0.length:Int))),p 5 (I 0)] []) <|
  vx_block <|
  lX (fun ((v1,v2):Int×Int)=>Z [p 0 (L y259 a0),p 1 (I v1),p 5 (I v2)] []) ((a1 - (↑a0.length:Int),0)) H fun _ g1 b1 e1 t1 ⟨v1,v2⟩ H =>
  vx_seq <|
  qA (Z [p 0 (L y259 a0),p 1 (I v1),p 5 (I v2),p 15 (B (decide (v2 < (↑a0.length:Int))))] []) <|
  cD H (fun H=>?_) (fun H=>?_)
 ·refine vx_skip<|fx_seq<|vx_seq<|vx_block <|
   qD (fun v3=>Z [p 0 (L y259 a0),p 1 (I v3),p 5 (I v2)] []) H fun v3 H =>
   qA (Z [p 0 (L y259 a0),p 1 (I v3),p 5 (I v2),p 25 (B (decide (v3 < 0)))] []) <|
   cD H (fun H=>?_) (fun H=>?_)
  ·refine qA (Z [p 4 (I (-1))] []) <|
    vx_ret<|fx_blk_ret<|fx_seq_ret<|t1<|fx_blk_ret<|t0<|hr H
  refine vx_skip<|fx_blk<|fx_seq <|
   zB (Z [p 0 (L y259 a0),p 1 (I v3),p 5 (I (v2+1))] []) H fun H =>
   b1 H
 exact vx_exit<|fx_seq_exit<|e1<|fx_blk_exit rfl<|n0 H
def u196 (a0:Y255) (a1:Int):Option (Int) :=
 gd (in64 (a1 - (↑a0.1.size:Int))∧True) <|
 if (decide (a1 - (↑a0.1.size:Int) < 0))=true then
  some (-1)
 else
  some (a1 - (↑a0.1.size:Int))
def k196:Ct:=lct 196 [.agg y255,.dat i64] (fun x=>u196 x.1 x.2.1) (fun r:Int=>I r) (fun _=>())
theorem o196:Ok Tryz.prog k196:=by
 refine okL [.tmp 4] Tryz.func196 Tryz.ntmps196 Tryz.results196 ?_
 intro y ⟨a0,a1,_⟩ r H Q hn hr
 have:HT _ _:=⟨@tn Tryz.prog⟩
 refine qA (Z [p 1 (J a1),p 2 (R 2)] [(2,K 255 y255 a0)]) <|
  qB (Z [p 1 (I (a1 - (↑a0.1.size:Int)))] [(2,K 255 y255 a0)]) H fun H =>
  vx_seq <|
  qA (Z [p 1 (I (a1 - (↑a0.1.size:Int))),p 11 (B (decide (a1 - (↑a0.1.size:Int) < 0)))] [(2,K 255 y255 a0)]) <|
  cD H (fun H=>?_) (fun H=>?_)
 ·refine qA (Z [p 4 (I (-1))] [(2,K 255 y255 a0)]) <|
   vx_ret<|fx_seq_ret<|hr H
 refine vx_skip<|fx_seq <|
  qA (Z [p 4 (I (a1 - (↑a0.1.size:Int)))] [(2,K 255 y255 a0)]) <|
  vx_ret<|hr H
def u170J0:Int→Option (Int)
 | v4 =>
 some v4
def u170L1 (a0:List Y255) (g1:Int×Int→Option (Int)):Int×Int→Option (Int)
 | (v1,v2) =>
 if (decide (v2 < (↑a0.length:Int)))=true then
  gd (ix v2 a0.length∧(u196 (a0.getD v2.toNat (dflt y255)) v1).isSome=true∧True)<|lt (vl (u196 (a0.getD v2.toNat (dflt y255)) v1)) fun v3 =>
  if (decide (v3 < 0))=true then
   some (-1)
  else
   gd (in64 (v2+1)∧True) <|
   g1 (v3,v2+1)
 else
  u170J0 v1
def u170 (a0:List Y255) (a1:Int):Option (Int) :=
 gd (in64 (a1 - (↑a0.length:Int))∧True) <|
 if (decide (a1 - (↑a0.length:Int) < 0))=true then
  some (-1)
 else
  lp (u170L1 a0) ((a1 - (↑a0.length:Int),0))
def k170:Ct:=lct 170 [.dat y255.sl,.dat i64] (fun x=>u170 x.1 x.2.1) (fun r:Int=>I r) (fun _=>())
theorem o170:Ok Tryz.prog k170:=by
 refine okL [.tmp 4] Tryz.func170 Tryz.ntmps170 Tryz.results170 ?_
 intro y ⟨a0,a1,_⟩ r H Q hn hr
 have:HT _ _:=⟨tc o196 tn⟩
 refine qA (Z [p 0 (L y255 a0),p 1 (J a1)] []) <|
  qB (Z [p 0 (L y255 a0),p 1 (I (a1 - (↑a0.length:Int)))] []) H fun H =>
  vx_seq <|
  qA (Z [p 0 (L y255 a0),p 1 (I (a1 - (↑a0.length:Int))),p 11 (B (decide (a1 - (↑a0.length:Int) < 0)))] []) <|
  cD H (fun H=>?_) (fun H=>?_)
 ·refine qA (Z [p 4 (I (-1))] []) <|
   vx_ret<|fx_seq_ret<|hr H
 refine vx_skip<|fx_seq <|
  jN r (fun (v4:Int)=>Z [p 1 (I v4)] []) (u170J0) (fun v4 H=>?_) (fun _ n0 e0 t0=>?_)
 ·refine qA (Z [p 4 (I v4)] []) <|
   vx_ret<|hr H
 refine qA (Z [p 0 (L y255 a0),p 1 (I (a1 - (↑a0.length:Int))),p 5 (I 0)] []) <|
  vx_block <|
  lX (fun ((v1,v2):Int×Int)=>Z [p 0 (L y255 a0),p 1 (I v1),p 5 (I v2)] []) ((a1 - (↑a0.length:Int),0)) H fun _ g1 b1 e1 t1 ⟨v1,v2⟩ H =>
  vx_seq <|
  qA (Z [p 0 (L y255 a0),p 1 (I v1),p 5 (I v2),p 15 (B (decide (v2 < (↑a0.length:Int))))] []) <|
  cD H (fun H=>?_) (fun H=>?_)
 ·refine vx_skip<|fx_seq<|vx_seq<|vx_block <|
   qD (fun v3=>Z [p 0 (L y255 a0),p 1 (I v3),p 5 (I v2)] []) H fun v3 H =>
   qA (Z [p 0 (L y255 a0),p 1 (I v3),p 5 (I v2),p 25 (B (decide (v3 < 0)))] []) <|
   cD H (fun H=>?_) (fun H=>?_)
  ·refine qA (Z [p 4 (I (-1))] []) <|
    vx_ret<|fx_blk_ret<|fx_seq_ret<|t1<|fx_blk_ret<|t0<|hr H
  refine vx_skip<|fx_blk<|fx_seq <|
   zB (Z [p 0 (L y255 a0),p 1 (I v3),p 5 (I (v2+1))] []) H fun H =>
   b1 H
 exact vx_exit<|fx_seq_exit<|e1<|fx_blk_exit rfl<|n0 H
def u127 (a0:Y191) (a1:Int):Option (Int) :=
 gd (in64 (a1 - (↑a0.1.size:Int))∧True) <|
 if (decide (a1 - (↑a0.1.size:Int) < 0))=true then
  some (-1)
 else
  gd ((u170 a0.2.2.1 (a1 - (↑a0.1.size:Int))).isSome=true∧True)<|lt (vl (u170 a0.2.2.1 (a1 - (↑a0.1.size:Int)))) fun v0 =>
  if (decide (v0 < 0))=true then
   some (-1)
  else
   gd ((u171 a0.2.2.2.1 v0).isSome=true∧True)<|lt (vl (u171 a0.2.2.2.1 v0)) fun v1 =>
   if (decide (v1 < 0))=true then
    some (-1)
   else
    gd ((u130 a0.2.2.2.2.1 v1).isSome=true∧True)<|lt (vl (u130 a0.2.2.2.2.1 v1)) fun v2 =>
    if (decide (v2 < 0))=true then
     some (-1)
    else
     some v2
def k127:Ct:=lct 127 [.agg y191,.dat i64] (fun x=>u127 x.1 x.2.1) (fun r:Int=>I r) (fun _=>())
theorem o127:Ok Tryz.prog k127:=by
 refine okL [.tmp 4] Tryz.func127 Tryz.ntmps127 Tryz.results127 ?_
 intro y ⟨a0,a1,_⟩ r H Q hn hr
 have:HT _ _:=⟨tc o130 (tc o171 (tc o170 tn))⟩
 refine qA (Z [p 1 (J a1),p 2 (R 2)] [(2,K 191 y191 a0)]) <|
  qB (Z [p 1 (I (a1 - (↑a0.1.size:Int))),p 2 (R 2)] [(2,K 191 y191 a0)]) H fun H =>
  vx_seq <|
  qA (Z [p 1 (I (a1 - (↑a0.1.size:Int))),p 2 (R 2),p 11 (B (decide (a1 - (↑a0.1.size:Int) < 0)))] [(2,K 191 y191 a0)]) <|
  cD H (fun H=>?_) (fun H=>?_)
 ·refine qA (Z [p 4 (I (-1))] [(2,K 191 y191 a0)]) <|
   vx_ret<|fx_seq_ret<|hr H
 refine vx_skip<|fx_seq <|
  qD (fun v0=>Z [p 1 (I v0),p 2 (R 2)] [(2,K 191 y191 a0)]) H fun v0 H =>
  vx_seq <|
  qA (Z [p 1 (I v0),p 2 (R 2),p 17 (B (decide (v0 < 0)))] [(2,K 191 y191 a0)]) <|
  cD H (fun H=>?_) (fun H=>?_)
 ·refine qA (Z [p 4 (I (-1))] [(2,K 191 y191 a0)]) <|
   vx_ret<|fx_seq_ret<|hr H
 refine vx_skip<|fx_seq <|
  qD (fun v1=>Z [p 1 (I v1),p 2 (R 2)] [(2,K 191 y191 a0)]) H fun v1 H =>
  vx_seq <|
  qA (Z [p 1 (I v1),p 2 (R 2),p 23 (B (decide (v1 < 0)))] [(2,K 191 y191 a0)]) <|
  cD H (fun H=>?_) (fun H=>?_)
 ·refine qA (Z [p 4 (I (-1))] [(2,K 191 y191 a0)]) <|
   vx_ret<|fx_seq_ret<|hr H
 refine vx_skip<|fx_seq <|
  qD (fun v2=>Z [p 1 (I v2)] [(2,K 191 y191 a0)]) H fun v2 H =>
  vx_seq <|
  qA (Z [p 1 (I v2),p 29 (B (decide (v2 < 0)))] [(2,K 191 y191 a0)]) <|
  cD H (fun H=>?_) (fun H=>?_)
 ·refine qA (Z [p 4 (I (-1))] [(2,K 191 y191 a0)]) <|
   vx_ret<|fx_seq_ret<|hr H
 refine vx_skip<|fx_seq <|
  qA (Z [p 4 (I v2)] [(2,K 191 y191 a0)]) <|
  vx_ret<|hr H
def u71J0:Int→Option (Int)
 | v4 =>
 some v4
def u71L1 (a0:List Y191) (g1:Int×Int→Option (Int)):Int×Int→Option (Int)
 | (v1,v2) =>
 if (decide (v2 < (↑a0.length:Int)))=true then
  gd (ix v2 a0.length∧(u127 (a0.getD v2.toNat (dflt y191)) v1).isSome=true∧True)<|lt (vl (u127 (a0.getD v2.toNat (dflt y191)) v1)) fun v3 =>
  if (decide (v3 < 0))=true then
   some (-1)
  else
   gd (in64 (v2+1)∧True) <|
   g1 (v3,v2+1)
 else
  u71J0 v1
def u71 (a0:List Y191) (a1:Int):Option (Int) :=
 gd (in64 (a1 - (↑a0.length:Int))∧True) <|
 if (decide (a1 - (↑a0.length:Int) < 0))=true then
  some (-1)
 else
  lp (u71L1 a0) ((a1 - (↑a0.length:Int),0))
def k71:Ct:=lct 71 [.dat y191.sl,.dat i64] (fun x=>u71 x.1 x.2.1) (fun r:Int=>I r) (fun _=>())
theorem o71:Ok Tryz.prog k71:=by
 refine okL [.tmp 4] Tryz.func71 Tryz.ntmps71 Tryz.results71 ?_
 intro y ⟨a0,a1,_⟩ r H Q hn hr
 have:HT _ _:=⟨tc o127 tn⟩
 refine qA (Z [p 0 (L y191 a0),p 1 (J a1)] []) <|
  qB (Z [p 0 (L y191 a0),p 1 (I (a1 - (↑a0.length:Int)))] []) H fun H =>
  vx_seq <|
  qA (Z [p 0 (L y191 a0),p 1 (I (a1 - (↑a0.length:Int))),p 11 (B (decide (a1 - (↑a0.length:Int) < 0)))] []) <|
  cD H (fun H=>?_) (fun H=>?_)
 ·refine qA (Z [p 4 (I (-1))] []) <|
   vx_ret<|fx_seq_ret<|hr H
 refine vx_skip<|fx_seq <|
  jN r (fun (v4:Int)=>Z [p 1 (I v4)] []) (u71J0) (fun v4 H=>?_) (fun _ n0 e0 t0=>?_)
 ·refine qA (Z [p 4 (I v4)] []) <|
   vx_ret<|hr H
 refine qA (Z [p 0 (L y191 a0),p 1 (I (a1 - (↑a0.length:Int))),p 5 (I 0)] []) <|
  vx_block <|
  lX (fun ((v1,v2):Int×Int)=>Z [p 0 (L y191 a0),p 1 (I v1),p 5 (I v2)] []) ((a1 - (↑a0.length:Int),0)) H fun _ g1 b1 e1 t1 ⟨v1,v2⟩ H =>
  vx_seq <|
  qA (Z [p 0 (L y191 a0),p 1 (I v1),p 5 (I v2),p 15 (B (decide (v2 < (↑a0.length:Int))))] []) <|
  cD H (fun H=>?_) (fun H=>?_)
 ·refine vx_skip<|fx_seq<|vx_seq<|vx_block <|
   qD (fun v3=>Z [p 0 (L y191 a0),p 1 (I v3),p 5 (I v2)] []) H fun v3 H =>
   qA (Z [p 0 (L y191 a0),p 1 (I v3),p 5 (I v2),p 25 (B (decide (v3 < 0)))] []) <|
   cD H (fun H=>?_) (fun H=>?_)
  ·refine qA (Z [p 4 (I (-1))] []) <|
    vx_ret<|fx_blk_ret<|fx_seq_ret<|t1<|fx_blk_ret<|t0<|hr H
  refine vx_skip<|fx_blk<|fx_seq <|
   zB (Z [p 0 (L y191 a0),p 1 (I v3),p 5 (I (v2+1))] []) H fun H =>
   b1 H
 exact vx_exit<|fx_seq_exit<|e1<|fx_blk_exit rfl<|n0 H
def u33 (a0:List Y191) (a1:Int):Option (Int) :=
 gd ((u71 a0 a1).isSome=true∧True)<|lt (vl (u71 a0 a1)) fun v0 =>
 if (decide (v0 < 0))=true then
  some (-1)
 else
  some v0
def k33:Ct:=lct 33 [.agg y191.sl,.dat i64] (fun x=>u33 x.1 x.2.1) (fun r:Int=>I r) (fun _=>())
theorem o33:Ok Tryz.prog k33:=by
 refine okL [.tmp 4] Tryz.func33 Tryz.ntmps33 Tryz.results33 ?_
 intro y ⟨a0,a1,_⟩ r H Q hn hr
 have:HT _ _:=⟨tc o71 tn⟩
 refine qA (Z [p 1 (J a1),p 2 (R 2)] [(2,Ob.box 24 [L y191 a0])]) <|
  qD (fun v0=>Z [p 1 (I v0)] [(2,Ob.box 24 [L y191 a0])]) H fun v0 H =>
  vx_seq <|
  qA (Z [p 1 (I v0),p 10 (B (decide (v0 < 0)))] [(2,Ob.box 24 [L y191 a0])]) <|
  cD H (fun H=>?_) (fun H=>?_)
 ·refine qA (Z [p 4 (I (-1))] [(2,Ob.box 24 [L y191 a0])]) <|
   vx_ret<|fx_seq_ret<|hr H
 refine vx_skip<|fx_seq <|
  qA (Z [p 4 (I v0)] [(2,Ob.box 24 [L y191 a0])]) <|
  vx_ret<|hr H
def u10 (a0:Y32) (a1:Int):Option (Int) :=
 gd ((u33 a0.1 a1).isSome=true∧True)<|lt (vl (u33 a0.1 a1)) fun v0 =>
 if (decide (v0 < 0))=true then
  some (-1)
 else
  gd ((u34 a0.2.1 v0).isSome=true∧True)<|lt (vl (u34 a0.2.1 v0)) fun v1 =>
  if (decide (v1 < 0))=true then
   some (-1)
  else
   gd ((u35 a0.2.2 v1).isSome=true∧True)<|lt (vl (u35 a0.2.2 v1)) fun v2 =>
   if (decide (v2 < 0))=true then
    some (-1)
   else
    some v2
def k10:Ct:=lct 10 [.agg y32,.dat i64] (fun x=>u10 x.1 x.2.1) (fun r:Int=>I r) (fun _=>())
theorem o10:Ok Tryz.prog k10:=by
 refine okL [.tmp 4] Tryz.func10 Tryz.ntmps10 Tryz.results10 ?_
 intro y ⟨a0,a1,_⟩ r H Q hn hr
 have:HT _ _:=⟨tc o35 (tc o34 (tc o33 tn))⟩
 refine qA (Z [p 1 (J a1),p 2 (R 2)] [(2,K 32 y32 a0)]) <|
  qD (fun v0=>Z [p 1 (I v0),p 2 (R 2)] [(2,K 32 y32 a0)]) H fun v0 H =>
  vx_seq <|
  qA (Z [p 1 (I v0),p 2 (R 2),p 10 (B (decide (v0 < 0)))] [(2,K 32 y32 a0)]) <|
  cD H (fun H=>?_) (fun H=>?_)
 ·refine qA (Z [p 4 (I (-1))] [(2,K 32 y32 a0)]) <|
   vx_ret<|fx_seq_ret<|hr H
 refine vx_skip<|fx_seq <|
  qD (fun v1=>Z [p 1 (I v1),p 2 (R 2)] [(2,K 32 y32 a0)]) H fun v1 H =>
  vx_seq <|
  qA (Z [p 1 (I v1),p 2 (R 2),p 16 (B (decide (v1 < 0)))] [(2,K 32 y32 a0)]) <|
  cD H (fun H=>?_) (fun H=>?_)
 ·refine qA (Z [p 4 (I (-1))] [(2,K 32 y32 a0)]) <|
   vx_ret<|fx_seq_ret<|hr H
 refine vx_skip<|fx_seq <|
  qD (fun v2=>Z [p 1 (I v2)] [(2,K 32 y32 a0)]) H fun v2 H =>
  vx_seq <|
  qA (Z [p 1 (I v2),p 22 (B (decide (v2 < 0)))] [(2,K 32 y32 a0)]) <|
  cD H (fun H=>?_) (fun H=>?_)
 ·refine qA (Z [p 4 (I (-1))] [(2,K 32 y32 a0)]) <|
   vx_ret<|fx_seq_ret<|hr H
 refine vx_skip<|fx_seq <|
  qA (Z [p 4 (I v2)] [(2,K 32 y32 a0)]) <|
  vx_ret<|hr H
def u3 (a0:Y32) (a1:Int) (a2:Int) (a3:Int):Option (Bool) :=
 gd ((u10 a0 1048576).isSome=true∧True)<|lt (vl (u10 a0 1048576)) fun v0 =>
 if (decide (v0 < 0))=true then
  some true
 else
  gd ((u12 a0).isSome=true∧(u11 (vl (u12 a0)) a1 a2 a3).isSome=true∧True)<|lt ((vl (u11 (vl (u12 a0)) a1 a2 a3),vl (u12 a0))) fun (v1,v2) =>
  gd ((u12 a0).isSome=true∧True)<|lt (vl (u12 a0)) fun v3 =>
  gd ((u13 v3 a1 a2 a3).isSome=true∧True)<|lt (vl (u13 v3 a1 a2 a3)) fun v4 =>
  if (v4.1 != v1.1||v4.2 != v1.2)=true then
   some false
  else
   gd ((u12 a0).isSome=true∧(u14 v3 (vl (u12 a0))).isSome=true∧True)<|lt (vl (u12 a0)) fun v5 =>
   if (!vl (u14 v3 v5))=true then
    some false
   else
    some true
def k3:Ct:=lct 3 [.agg y32,.dat i64,.dat i64,.dat i64] (fun x=>u3 x.1 x.2.1 x.2.2.1 x.2.2.2.1) (fun r:Bool=>B r) (fun _=>())
def u115 (a0:Int) (a1:Int) (a2:Int):Option (Int) :=
 gd (in64 (a0*a1)∧(u114 (a0*a1) 1000 a2).isSome=true∧True)<|lt (vl (u114 (a0*a1) 1000 a2)) fun v0 =>
 some v0
def u116 (a0:Y53) (a1:Int) (a2:Int):Option (Int) :=
 if (a1==1&&a2==0)=true then
  some a0.2.1
 else
  if (a1==1)=true then
   some a0.2.2.1
  else
   if (a2==0)=true then
    some a0.2.2.2.1
   else
    some a0.2.2.2.2
def u55J0 (a1:Y53) (v0:Y83) (a4:Int):Int→Option (Int)
 | v4 =>
 gd ((u116 a1 v0.2.2.1 a4).isSome=true∧(u115 v4 (vl (u116 a1 v0.2.2.1 a4)) a4).isSome=true∧True)<|lt (vl (u115 v4 (vl (u116 a1 v0.2.2.1 a4)) a4)) fun v5 =>
 some v5
def u55 (a0:Y110) (a1:Y53) (a2:Int) (a3:Int) (a4:Int):Option (Int) :=
 gd (ix a2 a0.2.2.1.length∧True)<|lt (a0.2.2.1.getD a2.toNat (dflt y83)) fun v0 =>
 gd ((u100 a0 v0).isSome=true∧True)<|lt (vl (u100 a0 v0)) fun v1 =>
 if (v0.2.2.1==1)=true then
  gd ((u58 a0 v0).isSome=true∧(0:Int) < (2:Int)∧ix (v0.2.1.tmod (2:Int)) (vl (u58 a0 v0)).2.2.2.2.1.length∧ix v1 a0.2.2.2.1.length∧(u101 ((vl (u58 a0 v0)).2.2.2.2.1.getD (v0.2.1.tmod (2:Int)).toNat (dflt y106)) a3 (a0.2.2.2.1.getD v1.toNat (0:Int)) a4).isSome=true∧True)<|lt (vl (u101 ((vl (u58 a0 v0)).2.2.2.2.1.getD (v0.2.1.tmod 2).toNat (dflt y106)) a3 (a0.2.2.2.1.getD v1.toNat 0) a4)) fun v2 =>
  u55J0 a1 v0 a4 v2
 else
  gd (ix v1 a0.2.2.2.2.1.length∧ix v0.2.2.2 (List.length (a0.2.2.2.2.1.getD v1.toNat []))∧(u114 (List.getD (a0.2.2.2.2.1.getD v1.toNat []) v0.2.2.2.toNat 0) 1000 a4).isSome=true∧True)<|lt (vl (u114 (List.getD (a0.2.2.2.2.1.getD v1.toNat []) v0.2.2.2.toNat 0) 1000 a4)) fun v3 =>
  u55J0 a1 v0 a4 v3
def u113 (a0:Int) (a1:Int):Option (Bool) :=
 some (decide (100≤a0)&&decide (a0≤a1)&&decide (a1≤5000))
def u54 (a0:Y53):Option (Bool) :=
 gd ((u112 a0.1).isSome=true∧(vl (u112 a0.1)=true∧True→(u113 a0.2.1 a0.2.2.1).isSome=true)∧((vl (u112 a0.1)&&vl (u113 a0.2.1 a0.2.2.1))=true∧True→(u113 a0.2.2.2.1 a0.2.2.2.2).isSome=true)∧True) <|
 some (vl (u112 a0.1)&&vl (u113 a0.2.1 a0.2.2.1)&&vl (u113 a0.2.2.2.1 a0.2.2.2.2))
def u18 (a0:Y45) (a1:Y53) (a2:Int) (a3:Int) (a4:Int):Option (Int×Int) :=
 gd ((u43 a0).isSome=true∧((!vl (u43 a0))=false∧True→(u54 a1).isSome=true)∧True) <|
 if (!vl (u43 a0)||!vl (u54 a1))=true then
  some (((0:Int),(1:Int)))
 else
  gd ((u44 a0).isSome=true∧True)<|lt (vl (u44 a0)) fun v0 =>
  gd ((u45 v0 a2).isSome=true∧True) <|
  if (!vl (u45 v0 a2))=true then
   some (((0:Int),(4:Int)))
  else
   gd ((u46 a3).isSome=true∧((!vl (u46 a3))=false∧True→(u47 a4).isSome=true)∧True) <|
   if (!vl (u46 a3)||!vl (u47 a4))=true then
    some (((0:Int),(2:Int)))
   else
    gd ((u55 v0 a1 a2 a3 a4).isSome=true∧True)<|lt (vl (u55 v0 a1 a2 a3 a4)) fun v1 =>
    some ((v1,(0:Int)))
def u17 (a0:Y50):Option (Y53) :=
 some a0
def u111 (a0:Y53) (a1:Int) (a2:Int):Option (Int) :=
 if (a1==1)=true then
  if (a2==0)=true then
   some a0.2.1
  else
   some a0.2.2.1
 else
  if (a2==0)=true then
   some a0.2.2.2.1
  else
   some a0.2.2.2.2
def u109J0:List Int→Option (List Int)
 | v5 =>
 some v5
def u109L1 (v0:List Int) (a0:Y45) (a1:Int) (a2:Int) (g1:Int×List Int→Option (List Int)):Int×List Int→Option (List Int)
 | (v2,v3) =>
 gd (ix a1 a0.2.2.length∧True) <|
 if (decide (v2 < (↑(a0.2.2.getD a1.toNat (dflt y137)).2.2.2.length:Int)))=true then
  gd (ix a1 a0.2.2.length∧ix v2 (a0.2.2.getD a1.toNat (dflt y137)).2.2.2.length∧ix ((a0.2.2.getD a1.toNat (dflt y137)).2.2.2.getD v2.toNat 0) v0.length∧Int.toNat ((a0.2.2.getD a1.toNat (dflt y137)).2.2.2.getD v2.toNat 0) < v0.length∧(u110 (v0.getD (Int.toNat ((a0.2.2.getD a1.toNat (dflt y137)).2.2.2.getD v2.toNat 0)) 0) 1000 a2).isSome=true∧(v3.length+[vl (u110 (v0.getD (Int.toNat ((a0.2.2.getD a1.toNat (dflt y137)).2.2.2.getD v2.toNat 0)) 0) 1000 a2)].length≤9223372036854775807∧(v3.length+[vl (u110 (v0.getD (Int.toNat ((a0.2.2.getD a1.toNat (dflt y137)).2.2.2.getD v2.toNat 0)) 0) 1000 a2)].length)*8≤140737488355328)∧True)<|lt (vl (u110 (v0.getD (Int.toNat ((a0.2.2.getD a1.toNat (dflt y137)).2.2.2.getD v2.toNat 0)) 0) 1000 a2)) fun v4 =>
  gd (in64 (v2+1)∧True) <|
  g1 (v2+1,v3++[v4])
 else
  u109J0 v3
def u109 (a0:Y45) (a1:Int) (a2:Int):Option (List Int) :=
 gd ((u135 a0 a1).isSome=true∧True)<|lt (vl (u135 a0 a1)) fun v0 =>
 lp (u109L1 v0 a0 a1 a2) (0,[])
def u53J0 (a1:Y53) (a2:Y83) (a4:Int):Int→Option (Int)
 | v3 =>
 gd ((u111 a1 a2.2.2.1 a4).isSome=true∧in64 (v3*vl (u111 a1 a2.2.2.1 a4))∧(u110 (v3*vl (u111 a1 a2.2.2.1 a4)) 1000 a4).isSome=true∧True)<|lt (vl (u110 (v3*vl (u111 a1 a2.2.2.1 a4)) 1000 a4)) fun v4 =>
 some v4
def u53 (a0:Y45) (a1:Y53) (a2:Y83) (a3:Int) (a4:Int):Option (Int) :=
 if (a2.2.2.1==1)=true then
  gd ((u57 a0 a2).isSome=true∧True)<|lt (vl (u57 a0 a2)) fun v0 =>
  gd ((0:Int) < (2:Int)∧ix (a2.2.1.tmod (2:Int)) v0.1.2.2.2.2.1.length∧(u79 (v0.1.2.2.2.2.1.getD (a2.2.1.tmod (2:Int)).toNat (dflt y106)) a3 v0.2 a4).isSome=true∧True)<|lt (vl (u79 (v0.1.2.2.2.2.1.getD (a2.2.1.tmod 2).toNat (dflt y106)) a3 v0.2 a4)) fun v1 =>
  u53J0 a1 a2 a4 v1
 else
  gd ((u81 a0 a2).isSome=true∧(u109 a0 (vl (u81 a0 a2)) a4).isSome=true∧ix a2.2.2.2 (vl (u109 a0 (vl (u81 a0 a2)) a4)).length∧a2.2.2.2.toNat < (vl (u109 a0 (vl (u81 a0 a2)) a4)).length∧True)<|lt (vl (u109 a0 (vl (u81 a0 a2)) a4)) fun v2 =>
  u53J0 a1 a2 a4 (v2.getD a2.2.2.2.toNat 0)
def u52J0 (a0:Y53):Unit→Option (Bool)
 | _ =>
 gd ((u108 a0.1).isSome=true∧True) <|
 some (vl (u108 a0.1)&&decide (a0.2.1≤a0.2.2.1)&&decide (a0.2.2.2.1≤a0.2.2.2.2))
def u52L1 (v0:List Int) (a0:Y53) (g1:Int→Option (Bool)):Int→Option (Bool)
 | v1 =>
 if (decide (v1 < (↑v0.length:Int)))=true then
  gd (ix v1 v0.length∧v1.toNat < v0.length∧(u56 (v0.getD v1.toNat 0) 100 5000).isSome=true∧True) <|
  if (!vl (u56 (v0.getD v1.toNat 0) 100 5000))=true then
   some false
  else
   gd (in64 (v1+1)∧True) <|
   g1 (v1+1)
 else
  u52J0 a0 ()
def u52 (a0:Y53):Option (Bool) :=
 lt ([a0.2.1,a0.2.2.1,a0.2.2.2.1,a0.2.2.2.2]) fun v0 =>
 lp (u52L1 v0 a0) 0
def u16 (a0:Y45) (a1:Y53) (a2:Int) (a3:Int) (a4:Int):Option (Int×Int) :=
 gd ((u36 a0).isSome=true∧((!vl (u36 a0))=false∧True→(u52 a1).isSome=true)∧True) <|
 if (!vl (u36 a0)||!vl (u52 a1))=true then
  some (((0:Int),(1:Int)))
 else
  gd ((u37 a0 a2 a3 a4).isSome=true∧True)<|lt (vl (u37 a0 a2 a3 a4)) fun v0 =>
  if (v0 != 0)=true then
   some (((0:Int),v0))
  else
   gd ((u39 a0).isSome=true∧ix a2 (vl (u39 a0)).length∧a2.toNat < (vl (u39 a0)).length∧(u53 a0 a1 ((vl (u39 a0)).getD a2.toNat (dflt y83)) a3 a4).isSome=true∧True)<|lt ((vl (u53 a0 a1 ((vl (u39 a0)).getD a2.toNat (dflt y83)) a3 a4),vl (u39 a0))) fun (v1,v2) =>
   some ((v1,(0:Int)))
def u15 (a0:Y50) (a1:Int):Option (Int) :=
 gd (in64 (a1 - (↑a0.1.size:Int))∧True) <|
 if (decide (a1 - (↑a0.1.size:Int) < 0))=true then
  some (-1)
 else
  some (a1 - (↑a0.1.size:Int))
def u4 (a0:Y32) (a1:Y50) (a2:Int) (a3:Int) (a4:Int):Option (Bool) :=
 gd ((u10 a0 1048576).isSome=true∧True)<|lt (vl (u10 a0 1048576)) fun v0 =>
 if (decide (v0 < 0))=true then
  some true
 else
  gd ((u15 a1 v0).isSome=true∧True)<|lt (vl (u15 a1 v0)) fun v1 =>
  if (decide (v1 < 0))=true then
   some true
  else
   gd ((u12 a0).isSome=true∧(u17 a1).isSome=true∧(u16 (vl (u12 a0)) (vl (u17 a1)) a2 a3 a4).isSome=true∧True)<|lt ((vl (u16 (vl (u12 a0)) (vl (u17 a1)) a2 a3 a4),vl (u12 a0))) fun (v2,v3) =>
   gd ((u12 a0).isSome=true∧True)<|lt (vl (u12 a0)) fun v4 =>
   gd ((u17 a1).isSome=true∧(u18 v4 (vl (u17 a1)) a2 a3 a4).isSome=true∧True)<|lt (vl (u18 v4 (vl (u17 a1)) a2 a3 a4)) fun v5 =>
   if (v5.1 != v2.1||v5.2 != v2.2)=true then
    some false
   else
    gd ((u12 a0).isSome=true∧(u14 v4 (vl (u12 a0))).isSome=true∧True)<|lt (vl (u12 a0)) fun v6 =>
    if (!vl (u14 v4 v6))=true then
     some false
    else
     some true
def k4:Ct:=lct 4 [.agg y32,.agg y50,.dat i64,.dat i64,.dat i64] (fun x=>u4 x.1 x.2.1 x.2.2.1 x.2.2.2.1 x.2.2.2.2.1) (fun r:Bool=>B r) (fun _=>())
def u21 (a0:Y57) (a1:Y57):Option (Bool) :=
 if (a0.1 != a1.1)=true then
  some false
 else
  if (a0.2 != a1.2)=true then
   some false
  else
   some true
def u65J0 (a0:Y110) (a2:Int) (a3:Y57):Int×Int→Option (Y57×Y57)
 | (v6,v7) =>
 gd ((u48 a0 a2 a3.1 0).isSome=true∧(u48 a0 a2 a3.2 0).isSome=true∧(u48 a0 a2 a3.1 1).isSome=true∧(u48 a0 a2 a3.2 1).isSome=true∧True)<|lt ((vl (u48 a0 a2 a3.1 0),vl (u48 a0 a2 a3.2 0),vl (u48 a0 a2 a3.1 1),vl (u48 a0 a2 a3.2 1))) fun (v8,v9,v10,v11) =>
 some (((v6,v7),min v8 v9,max v10 v11))
def u65 (a0:Y110) (a1:Y53) (a2:Int) (a3:Y57):Option (Y57×Y57) :=
 gd ((u55 a0 a1 a2 a3.1 0).isSome=true∧(u55 a0 a1 a2 a3.2 0).isSome=true∧(u55 a0 a1 a2 a3.1 1).isSome=true∧(u55 a0 a1 a2 a3.2 1).isSome=true∧True)<|lt ((vl (u55 a0 a1 a2 a3.1 0),vl (u55 a0 a1 a2 a3.2 0),vl (u55 a0 a1 a2 a3.1 1),vl (u55 a0 a1 a2 a3.2 1))) fun (v0,v1,v2,v3) =>
 gd (ix a2 a0.2.2.1.length∧True)<|lt (a0.2.2.1.getD a2.toNat (dflt y83)) fun v4 =>
 if (decide (0 < (↑a0.2.2.2.2.2.length:Int))&&v4.2.2.1==2)=true then
  gd ((u100 a0 v4).isSome=true∧ix (vl (u100 a0 v4)) a0.2.2.2.2.2.length∧True)<|lt (vl (u100 a0 v4)) fun v5 =>
  gd (in64 (min v0 v1 - a0.2.2.2.2.2.getD v5.toNat 0)∧in64 (max v2 v3+a0.2.2.2.2.2.getD v5.toNat 0)∧True) <|
  u65J0 a0 a2 a3 (min v0 v1 - a0.2.2.2.2.2.getD v5.toNat 0,max v2 v3+a0.2.2.2.2.2.getD v5.toNat 0)
 else
  u65J0 a0 a2 a3 (min v0 v1,max v2 v3)
def u162 (a0:Int):Option (Bool) :=
 gd ((u98 a0 (-1000000000) 1000000000).isSome=true∧True) <|
 some (vl (u98 a0 (-1000000000) 1000000000))
def u119 (a0:Y57):Option (Bool) :=
 gd ((u162 a0.1).isSome=true∧(vl (u162 a0.1)=true∧True→(u162 a0.2).isSome=true)∧True) <|
 some (vl (u162 a0.1)&&vl (u162 a0.2)&&decide (a0.1≤a0.2))
def u64 (a0:Y57):Option (Bool) :=
 gd ((u119 a0).isSome=true∧(vl (u119 a0)=true∧True→(u46 a0.1).isSome=true)∧((vl (u119 a0)&&vl (u46 a0.1))=true∧True→(u46 a0.2).isSome=true)∧True) <|
 some (vl (u119 a0)&&vl (u46 a0.1)&&vl (u46 a0.2))
def u28 (a0:Y45) (a1:Y53) (a2:Int) (a3:Y57):Option (Y57×Y57×Int) :=
 gd ((u43 a0).isSome=true∧((!vl (u43 a0))=false∧True→(u54 a1).isSome=true)∧True) <|
 if (!vl (u43 a0)||!vl (u54 a1))=true then
  some ((((0:Int),(0:Int)),((0:Int),(0:Int)),(1:Int)))
 else
  gd ((u44 a0).isSome=true∧True)<|lt (vl (u44 a0)) fun v0 =>
  gd ((u45 v0 a2).isSome=true∧True) <|
  if (!vl (u45 v0 a2))=true then
   some ((((0:Int),(0:Int)),((0:Int),(0:Int)),(4:Int)))
  else
   gd ((u64 a3).isSome=true∧True) <|
   if (!vl (u64 a3))=true then
    some ((((0:Int),(0:Int)),((0:Int),(0:Int)),(2:Int)))
   else
    gd ((u65 v0 a1 a2 a3).isSome=true∧True)<|lt (vl (u65 v0 a1 a2 a3)) fun v1 =>
    some ((v1.1,v1.2,(0:Int)))
def u27 (a0:Y68):Option (Y57) :=
 some a0
def u63 (a0:Y45) (a1:Y53) (a2:Y83) (a3:Y57):Option (Y57×Y57) :=
 gd ((u53 a0 a1 a2 a3.1 0).isSome=true∧(u53 a0 a1 a2 a3.1 1).isSome=true∧True)<|lt ((vl (u53 a0 a1 a2 a3.1 0),vl (u53 a0 a1 a2 a3.1 1))) fun (v0,v1) =>
 gd ((u38 a0 a2 a3.1 0).isSome=true∧(u38 a0 a2 a3.1 1).isSome=true∧True)<|lt ((vl (u38 a0 a2 a3.1 0),vl (u38 a0 a2 a3.1 1))) fun (v2,v3) =>
 gd ((u53 a0 a1 a2 a3.2 0).isSome=true∧True)<|lt (vl (u53 a0 a1 a2 a3.2 0)) fun v4 =>
 gd ((u53 a0 a1 a2 a3.2 1).isSome=true∧True)<|lt (vl (u53 a0 a1 a2 a3.2 1)) fun v5 =>
 gd ((u38 a0 a2 a3.2 0).isSome=true∧True)<|lt (vl (u38 a0 a2 a3.2 0)) fun v6 =>
 gd ((u38 a0 a2 a3.2 1).isSome=true∧True)<|lt (vl (u38 a0 a2 a3.2 1)) fun v7 =>
 some (((min v0 v4,max v1 v5),min v2 v6,max v3 v7))
def u62 (a0:Y57):Option (Bool) :=
 some (decide (0≤a0.1)&&decide (a0.1≤a0.2)&&decide (a0.2≤1000000))
def u26 (a0:Y45) (a1:Y53) (a2:Int) (a3:Y57):Option (Y57×Y57×Int) :=
 gd ((u36 a0).isSome=true∧((!vl (u36 a0))=false∧True→(u52 a1).isSome=true)∧True) <|
 if (!vl (u36 a0)||!vl (u52 a1))=true then
  some ((((0:Int),(0:Int)),((0:Int),(0:Int)),(1:Int)))
 else
  gd ((u39 a0).isSome=true∧True)<|lt (vl (u39 a0)) fun v0 =>
  gd (in64 ((↑v0.length:Int) - 1)∧(u56 a2 0 ((↑v0.length:Int) - 1)).isSome=true∧True) <|
  if (!vl (u56 a2 0 ((↑v0.length:Int) - 1)))=true then
   some ((((0:Int),(0:Int)),((0:Int),(0:Int)),(4:Int)))
  else
   gd ((u62 a3).isSome=true∧True) <|
   if (!vl (u62 a3))=true then
    some ((((0:Int),(0:Int)),((0:Int),(0:Int)),(2:Int)))
   else
    gd (ix a2 v0.length∧a2.toNat < v0.length∧(u63 a0 a1 (v0.getD a2.toNat (dflt y83)) a3).isSome=true∧True)<|lt (vl (u63 a0 a1 (v0.getD a2.toNat (dflt y83)) a3)) fun v1 =>
    some ((v1.1,v1.2,(0:Int)))
def u7 (a0:Y32) (a1:Y50) (a2:Int) (a3:Y68):Option (Bool) :=
 gd ((u10 a0 1048576).isSome=true∧True)<|lt (vl (u10 a0 1048576)) fun v0 =>
 if (decide (v0 < 0))=true then
  some true
 else
  gd ((u15 a1 v0).isSome=true∧True)<|lt (vl (u15 a1 v0)) fun v1 =>
  if (decide (v1 < 0))=true then
   some true
  else
   gd ((u12 a0).isSome=true∧(u17 a1).isSome=true∧(u27 a3).isSome=true∧(u26 (vl (u12 a0)) (vl (u17 a1)) a2 (vl (u27 a3))).isSome=true∧True)<|lt ((vl (u26 (vl (u12 a0)) (vl (u17 a1)) a2 (vl (u27 a3))),vl (u12 a0))) fun (v2,v3) =>
   gd ((u12 a0).isSome=true∧True)<|lt (vl (u12 a0)) fun v4 =>
   gd ((u17 a1).isSome=true∧(u27 a3).isSome=true∧(u28 v4 (vl (u17 a1)) a2 (vl (u27 a3))).isSome=true∧True)<|lt (vl (u28 v4 (vl (u17 a1)) a2 (vl (u27 a3)))) fun v5 =>
   gd ((u21 v5.1 v2.1).isSome=true∧((!vl (u21 v5.1 v2.1))=false∧True→(u21 v5.2.1 v2.2.1).isSome=true)∧True) <|
   if (!vl (u21 v5.1 v2.1)||!vl (u21 v5.2.1 v2.2.1)||v5.2.2 != v2.2.2)=true then
    some false
   else
    gd ((u12 a0).isSome=true∧(u14 v4 (vl (u12 a0))).isSome=true∧True)<|lt (vl (u12 a0)) fun v6 =>
    if (!vl (u14 v4 v6))=true then
     some false
    else
     some true
def k7:Ct:=lct 7 [.agg y32,.agg y50,.dat i64,.agg y68] (fun x=>u7 x.1 x.2.1 x.2.2.1 x.2.2.2.1) (fun r:Bool=>B r) (fun _=>())
def u195 (a0:Y83) (a1:Int):Option (Bool) :=
 some (a0.1==a1)
def k195:Ct:=lct 195 [.agg y83,.dat (.pt i64)] (fun x=>u195 x.1 x.2.1) (fun r:Bool=>B r) (fun _=>())
theorem o195:Ok Tryz.prog k195:=by
 refine okL [.tmp 3] Tryz.func195 Tryz.ntmps195 Tryz.results195 ?_
 intro y ⟨a0,a1,_⟩ r H Q hn hr
 have:HT _ _:=⟨@tn Tryz.prog⟩
 refine qA (Z [p 1 (D i64.pt a1),p 2 (R 2)] [(2,K 83 y83 a0)]) <|
  qA (Z [p 3 (B (a0.1==a1))] [(2,K 83 y83 a0)]) <|
  vx_ret<|hr H
def u166c195J0:List Int→Option (List Int)
 | v6 =>
 some v6
def u166c195J2 (v3:Int) (g1:List Int×Int→Option (List Int)):List Int→Option (List Int)
 | v5 =>
 gd (in64 (v3+1)∧True) <|
 g1 (v5,v3+1)
def u166c195L1 (a0:Y127) (a1:Int) (g1:List Int×Int→Option (List Int)):List Int×Int→Option (List Int)
 | (v2,v3) =>
 if (decide (v3 < (↑a0.1.2.2.1.length:Int)))=true then
  gd (ix v3 a0.1.2.2.1.length∧True)<|lt (a0.1.2.2.1.getD v3.toNat (dflt y83)) fun v4 =>
  gd (ix v3 a0.2.length∧(a0.2.getD v3.toNat false=true∧True→(u195 v4 a1).isSome=true)∧True) <|
  if (a0.2.getD v3.toNat false&&vl (u195 v4 a1))=true then
   gd ((v2.length+[v3].length≤9223372036854775807∧(v2.length+[v3].length)*8≤140737488355328)∧True) <|
   u166c195J2 v3 g1 (v2++[v3])
  else
   u166c195J2 v3 g1 v2
 else
  u166c195J0 v2
def u166c195 (a0:Y127) (a1:Int):Option (List Int) :=
 lp (u166c195L1 a0 a1) ([],0)
def k166c195:Ct:=lct 166 [.dat y127.pt,.fn 195 (.pt i64)] (fun x=>u166c195 x.1 x.2.1) (fun r:List Int=>AV.ow 2 true i64 r) (fun _=>())
theorem o166c195:Ok Tryz.prog k166c195:=by
 refine okL [.tmp 4] Tryz.func166 Tryz.ntmps166 Tryz.results166 ?_
 intro y ⟨a0,a1,_⟩ r H Q hn hr
 have:HT _ _:=⟨tc o195 tn⟩
 refine qA (Z [p 0 (D y127.pt a0),p 1 (AV.fn 195 [D i64.pt a1])] []) <|
  qA (Z [p 0 (D y127.pt a0),p 1 (AV.fn 195 [D i64.pt a1]),p 5 (nil)] []) <|
  jN r (fun (v6:List Int)=>Z [p 5 (O 36)] [(36,A 2 i64 v6 0)]) (u166c195J0) (fun v6 H=>?_) (fun _ n0 e0 t0=>?_)
 ·refine qA (Z [p 4 (O 36)] [(36,A 2 i64 v6 0)]) <|
   vx_ret<|hr H
 refine qA (Z [p 0 (D y127.pt a0),p 1 (AV.fn 195 [D i64.pt a1]),p 5 (nil),p 14 (L y83 a0.1.2.2.1),p 15 (I (↑a0.1.2.2.1.length:Int)),p 16 (I 0)] []) <|
  vx_block <|
  lX (fun ((v2,v3):List Int×Int)=>Z [p 0 (D y127.pt a0),p 1 (AV.fn 195 [D i64.pt a1]),p 5 (O 36),p 14 (L y83 a0.1.2.2.1),p 15 (I (↑a0.1.2.2.1.length:Int)),p 16 (I v3)] [(36,A 2 i64 v2 0)]) ([],0) H fun _ g1 b1 e1 t1 ⟨v2,v3⟩ H =>
  qA (Z [p 0 (D y127.pt a0),p 1 (AV.fn 195 [D i64.pt a1]),p 5 (O 36),p 14 (L y83 a0.1.2.2.1),p 15 (I (↑a0.1.2.2.1.length:Int)),p 16 (I v3),p 17 (B (decide (v3 < (↑a0.1.2.2.1.length:Int))))] [(36,A 2 i64 v2 0)]) <|
  vx_seq <|
  cD H (fun H=>?_) (fun H=>?_)
 ·refine vx_skip<|fx_seq <|
   jN r (fun (v5:List Int)=>Z [p 0 (D y127.pt a0),p 1 (AV.fn 195 [D i64.pt a1]),p 5 (O 36),p 14 (L y83 a0.1.2.2.1),p 15 (I (↑a0.1.2.2.1.length:Int)),p 16 (I v3)] [(36,A 2 i64 v5 0)]) (u166c195J2 v3 g1) (fun v5 H=>?_) (fun _ n2 e2 t2=>?_)
  ·refine zB (Z [p 0 (D y127.pt a0),p 1 (AV.fn 195 [D i64.pt a1]),p 5 (O 36),p 14 (L y83 a0.1.2.2.1),p 15 (I (↑a0.1.2.2.1.length:Int)),p 16 (I (v3+1))] [(36,A 2 i64 v5 0)]) H fun H =>
    b1 H
  refine vx_block <|
   qD (fun v4=>Z [p 0 (D y127.pt a0),p 1 (AV.fn 195 [D i64.pt a1]),p 5 (O 36),p 6 (I v3),p 7 (R 7),p 14 (L y83 a0.1.2.2.1),p 15 (I (↑a0.1.2.2.1.length:Int)),p 16 (I v3)] [(7,K 83 y83 v4),(36,A 2 i64 v2 0)]) H fun v4 H =>
   qB (Z [p 0 (D y127.pt a0),p 1 (AV.fn 195 [D i64.pt a1]),p 5 (O 36),p 6 (I v3),p 14 (L y83 a0.1.2.2.1),p 15 (I (↑a0.1.2.2.1.length:Int)),p 16 (I v3),p 32 (B (a0.2.getD v3.toNat false&&vl (u195 v4 a1)))] [(7,K 83 y83 v4),(36,A 2 i64 v2 0)]) H fun H =>
   cD H (fun H=>?_) (fun H=>?_)
  ·refine zB (Z [p 0 (D y127.pt a0),p 1 (AV.fn 195 [D i64.pt a1]),p 5 (AV.os 36 1),p 14 (L y83 a0.1.2.2.1),p 15 (I (↑a0.1.2.2.1.length:Int)),p 16 (I v3)] [(36,A 2 i64 (v2++[v3]) 1),(35,A 2 i64 [v3] 0),(7,K 83 y83 v4)]) H fun H =>
    fx_blk<|n2 H
  exact vx_skip<|fx_blk<|n2 H
 exact vx_exit<|fx_seq_exit<|e1<|fx_blk_exit rfl<|n0 H
def u169 (a0:Y127) (a1:Int):Option (List Int) :=
 gd ((u166c195 a0 a1).isSome=true∧True)<|lt (vl (u166c195 a0 a1)) fun v0 =>
 some v0
def k169:Ct:=lct 169 [.dat y127.pt,.dat i64] (fun x=>u169 x.1 x.2.1) (fun r:List Int=>AV.ow 2 true i64 r) (fun _=>())
theorem o169:Ok Tryz.prog k169:=by
 refine okL [.tmp 4] Tryz.func169 Tryz.ntmps169 Tryz.results169 ?_
 intro y ⟨a0,a1,_⟩ r H Q hn hr
 have:HT _ _:=⟨tc o166c195 (tc o195 tn)⟩
 refine qA (Z [p 0 (D y127.pt a0),p 3 (R 3)] [(3,Ob.box 2 [J a1])]) <|
  qD (fun v0=>Z [p 4 (O 7)] [(7,A 2 i64 v0 0),(3,Ob.box 2 [J a1])]) H fun v0 H =>
  vx_ret<|hr H
def u168J0:Unit→Option (Int)
 | _ =>
 some (-1)
def u168L1 (a1:Int) (a0:List Int) (g1:Int→Option (Int)):Int→Option (Int)
 | v0 =>
 if (decide (v0 < (↑a0.length:Int)))=true then
  gd (ix v0 a0.length∧True) <|
  if (a1==a0.getD v0.toNat 0)=true then
   some v0
  else
   gd (in64 (v0+1)∧True) <|
   g1 (v0+1)
 else
  u168J0 ()
def u168 (a0:List Int) (a1:Int):Option (Int) :=
 lp (u168L1 a1 a0) 0
def k168:Ct:=lct 168 [.dat i64.sl,.dat i64] (fun x=>u168 x.1 x.2.1) (fun r:Int=>I r) (fun _=>())
theorem o168:Ok Tryz.prog k168:=by
 refine okL [.tmp 4] Tryz.func168 Tryz.ntmps168 Tryz.results168 ?_
 intro y ⟨a0,a1,_⟩ r H Q hn hr
 have:HT _ _:=⟨@tn Tryz.prog⟩
 refine qA (Z [p 0 (L i64 a0),p 1 (J a1)] []) <|
  jN r (fun (_:Unit)=>Z [] []) (u168J0) (fun _ H=>?_) (fun _ n0 e0 t0=>?_)
 ·refine qA (Z [p 4 (I (-1))] []) <|
   vx_ret<|hr H
 refine qA (Z [p 0 (L i64 a0),p 1 (J a1),p 7 (I (↑a0.length:Int)),p 8 (I 0)] []) <|
  vx_block <|
  lX (fun (v0:Int)=>Z [p 0 (L i64 a0),p 1 (J a1),p 7 (I (↑a0.length:Int)),p 8 (I v0)] []) 0 H fun _ g1 b1 e1 t1 v0 H =>
  qA (Z [p 0 (L i64 a0),p 1 (J a1),p 7 (I (↑a0.length:Int)),p 8 (I v0),p 9 (B (decide (v0 < (↑a0.length:Int))))] []) <|
  vx_seq <|
  cD H (fun H=>?_) (fun H=>?_)
 ·refine vx_skip<|fx_seq<|vx_seq<|vx_block <|
   qA (Z [p 0 (L i64 a0),p 1 (J a1),p 5 (I v0),p 7 (I (↑a0.length:Int)),p 8 (I v0)] []) <|
   qB (Z [p 0 (L i64 a0),p 1 (J a1),p 5 (I v0),p 7 (I (↑a0.length:Int)),p 8 (I v0),p 16 (B (a1==a0.getD v0.toNat 0))] []) H fun H =>
   cD H (fun H=>?_) (fun H=>?_)
  ·refine qA (Z [p 4 (I v0)] []) <|
    vx_ret<|fx_blk_ret<|fx_seq_ret<|t1<|fx_blk_ret<|t0<|hr H
  refine vx_skip<|fx_blk<|fx_seq <|
   zB (Z [p 0 (L i64 a0),p 1 (J a1),p 7 (I (↑a0.length:Int)),p 8 (I (v0+1))] []) H fun H =>
   b1 H
 exact vx_exit<|fx_seq_exit<|e1<|fx_blk_exit rfl<|n0 H
def u167 (a0:Y83):Option (Bool) :=
 some true
def k167:Ct:=lct 167 [.agg y83] (fun x=>u167 x.1) (fun r:Bool=>B r) (fun _=>())
theorem o167:Ok Tryz.prog k167:=by
 refine okL [.tmp 2] Tryz.func167 Tryz.ntmps167 Tryz.results167 ?_
 intro y ⟨a0,_⟩ r H Q hn hr
 have:HT _ _:=⟨@tn Tryz.prog⟩
 refine qA (Z [] [(1,K 83 y83 a0)]) <|
  qA (Z [p 2 (B true)] [(1,K 83 y83 a0)]) <|
  vx_ret<|hr H
def u194 (a0:List Y159):Option (Int) :=
 some (↑a0.length:Int)
def k194:Ct:=lct 194 [.dat y159.sl] (fun x=>u194 x.1) (fun r:Int=>I r) (fun _=>())
theorem o194:Ok Tryz.prog k194:=by
 refine okL [.tmp 2] Tryz.func194 Tryz.ntmps194 Tryz.results194 ?_
 intro y ⟨a0,_⟩ r H Q hn hr
 have:HT _ _:=⟨@tn Tryz.prog⟩
 refine qA (Z [p 0 (L y159 a0)] []) <|
  qA (Z [p 2 (I (↑a0.length:Int))] []) <|
  vx_ret<|hr H
def u165 (a0:Y110):Option (Int) :=
 gd ((u194 a0.2.1).isSome=true∧in64 (2*vl (u194 a0.2.1))∧True)<|lt (vl (u194 a0.2.1)) fun v0 =>
 some (2*v0)
def k165:Ct:=lct 165 [.dat y110.pt] (fun x=>u165 x.1) (fun r:Int=>I r) (fun _=>())
theorem o165:Ok Tryz.prog k165:=by
 refine okL [.tmp 2] Tryz.func165 Tryz.ntmps165 Tryz.results165 ?_
 intro y ⟨a0,_⟩ r H Q hn hr
 have:HT _ _:=⟨tc o194 tn⟩
 refine qA (Z [p 0 (D y110.pt a0)] []) <|
  qD (fun v0=>Z [p 2 (I (2*v0))] []) H fun v0 H =>
  vx_ret<|hr H
def u166c167J0:List Int→Option (List Int)
 | v6 =>
 some v6
def u166c167J2 (v3:Int) (g1:List Int×Int→Option (List Int)):List Int→Option (List Int)
 | v5 =>
 gd (in64 (v3+1)∧True) <|
 g1 (v5,v3+1)
def u166c167L1 (a0:Y127) (g1:List Int×Int→Option (List Int)):List Int×Int→Option (List Int)
 | (v2,v3) =>
 if (decide (v3 < (↑a0.1.2.2.1.length:Int)))=true then
  gd (ix v3 a0.1.2.2.1.length∧True)<|lt (a0.1.2.2.1.getD v3.toNat (dflt y83)) fun v4 =>
  gd (ix v3 a0.2.length∧(a0.2.getD v3.toNat false=true∧True→(u167 v4).isSome=true)∧True) <|
  if (a0.2.getD v3.toNat false&&vl (u167 v4))=true then
   gd ((v2.length+[v3].length≤9223372036854775807∧(v2.length+[v3].length)*8≤140737488355328)∧True) <|
   u166c167J2 v3 g1 (v2++[v3])
  else
   u166c167J2 v3 g1 v2
 else
  u166c167J0 v2
def u166c167 (a0:Y127):Option (List Int) :=
 lp (u166c167L1 a0) ([],0)
def k166c167:Ct:=lct 166 [.dat y127.pt,.nof 167] (fun x=>u166c167 x.1) (fun r:List Int=>AV.ow 2 true i64 r) (fun _=>())
theorem o166c167:Ok Tryz.prog k166c167:=by
 refine okL [.tmp 4] Tryz.func166 Tryz.ntmps166 Tryz.results166 ?_
 intro y ⟨a0,_,_⟩ r H Q hn hr
 have:HT _ _:=⟨tc o167 tn⟩
 refine qA (Z [p 0 (D y127.pt a0),p 1 (AV.fn 167 [])] []) <|
  qA (Z [p 0 (D y127.pt a0),p 1 (AV.fn 167 []),p 5 (nil)] []) <|
  jN r (fun (v6:List Int)=>Z [p 5 (O 36)] [(36,A 2 i64 v6 0)]) (u166c167J0) (fun v6 H=>?_) (fun _ n0 e0 t0=>?_)
 ·refine qA (Z [p 4 (O 36)] [(36,A 2 i64 v6 0)]) <|
   vx_ret<|hr H
 refine qA (Z [p 0 (D y127.pt a0),p 1 (AV.fn 167 []),p 5 (nil),p 14 (L y83 a0.1.2.2.1),p 15 (I (↑a0.1.2.2.1.length:Int)),p 16 (I 0)] []) <|
  vx_block <|
  lX (fun ((v2,v3):List Int×Int)=>Z [p 0 (D y127.pt a0),p 1 (AV.fn 167 []),p 5 (O 36),p 14 (L y83 a0.1.2.2.1),p 15 (I (↑a0.1.2.2.1.length:Int)),p 16 (I v3)] [(36,A 2 i64 v2 0)]) ([],0) H fun _ g1 b1 e1 t1 ⟨v2,v3⟩ H =>
  qA (Z [p 0 (D y127.pt a0),p 1 (AV.fn 167 []),p 5 (O 36),p 14 (L y83 a0.1.2.2.1),p 15 (I (↑a0.1.2.2.1.length:Int)),p 16 (I v3),p 17 (B (decide (v3 < (↑a0.1.2.2.1.length:Int))))] [(36,A 2 i64 v2 0)]) <|
  vx_seq <|
  cD H (fun H=>?_) (fun H=>?_)
 ·refine vx_skip<|fx_seq <|
   jN r (fun (v5:List Int)=>Z [p 0 (D y127.pt a0),p 1 (AV.fn 167 []),p 5 (O 36),p 14 (L y83 a0.1.2.2.1),p 15 (I (↑a0.1.2.2.1.length:Int)),p 16 (I v3)] [(36,A 2 i64 v5 0)]) (u166c167J2 v3 g1) (fun v5 H=>?_) (fun _ n2 e2 t2=>?_)
  ·refine zB (Z [p 0 (D y127.pt a0),p 1 (AV.fn 167 []),p 5 (O 36),p 14 (L y83 a0.1.2.2.1),p 15 (I (↑a0.1.2.2.1.length:Int)),p 16 (I (v3+1))] [(36,A 2 i64 v5 0)]) H fun H =>
    b1 H
  refine vx_block <|
   qD (fun v4=>Z [p 0 (D y127.pt a0),p 1 (AV.fn 167 []),p 5 (O 36),p 6 (I v3),p 7 (R 7),p 14 (L y83 a0.1.2.2.1),p 15 (I (↑a0.1.2.2.1.length:Int)),p 16 (I v3)] [(7,K 83 y83 v4),(36,A 2 i64 v2 0)]) H fun v4 H =>
   qB (Z [p 0 (D y127.pt a0),p 1 (AV.fn 167 []),p 5 (O 36),p 6 (I v3),p 14 (L y83 a0.1.2.2.1),p 15 (I (↑a0.1.2.2.1.length:Int)),p 16 (I v3),p 32 (B (a0.2.getD v3.toNat false&&vl (u167 v4)))] [(7,K 83 y83 v4),(36,A 2 i64 v2 0)]) H fun H =>
   cD H (fun H=>?_) (fun H=>?_)
  ·refine zB (Z [p 0 (D y127.pt a0),p 1 (AV.fn 167 []),p 5 (AV.os 36 1),p 14 (L y83 a0.1.2.2.1),p 15 (I (↑a0.1.2.2.1.length:Int)),p 16 (I v3)] [(36,A 2 i64 (v2++[v3]) 1),(35,A 2 i64 [v3] 0),(7,K 83 y83 v4)]) H fun H =>
    fx_blk<|n2 H
  exact vx_skip<|fx_blk<|n2 H
 exact vx_exit<|fx_seq_exit<|e1<|fx_blk_exit rfl<|n0 H
def u126J2:List Int→Option (List Int×Bool)
 | v26 =>
 some (v26,true)
def u126J4 (v16:Int) (g3:List Int×Int×List Int→Option (List Int×Bool)):List Int×List Int→Option (List Int×Bool)
 | (v24,v25) =>
 gd (in64 (v16+1)∧True) <|
 g3 (v24,v16+1,v25)
def u126L5 (a0:Y127) (v19:List Int) (v16:Int) (v15:List Int) (v18:Int) (g3:List Int×Int×List Int→Option (List Int×Bool)) (g5:Int×List Int→Option (List Int×Bool)):Int×List Int→Option (List Int×Bool)
 | (v21,v22) =>
 if (decide (v21 < (↑v19.length:Int)))=true then
  gd (ix v21 v19.length∧v21.toNat < v19.length∧True) <|
  gd (ix (v19.getD v21.toNat 0) a0.1.2.2.1.length∧ix (a0.1.2.2.1.getD (Int.toNat (v19.getD v21.toNat 0)) (dflt y83)).2.1 v22.length∧(a0.1.2.2.1.getD (Int.toNat (v19.getD v21.toNat 0)) (dflt y83)).2.1.toNat < v22.length∧in64 (v22.getD (a0.1.2.2.1.getD (Int.toNat (v19.getD v21.toNat 0)) (dflt y83)).2.1.toNat 0 - 1)∧ix (a0.1.2.2.1.getD (Int.toNat (v19.getD v21.toNat 0)) (dflt y83)).2.1 v22.length∧(a0.1.2.2.1.getD (Int.toNat (v19.getD v21.toNat 0)) (dflt y83)).2.1.toNat < v22.length∧True)<|lt (v22.set (a0.1.2.2.1.getD (Int.toNat (v19.getD v21.toNat 0)) (dflt y83)).2.1.toNat (v22.getD (a0.1.2.2.1.getD (Int.toNat (v19.getD v21.toNat 0)) (dflt y83)).2.1.toNat 0 - 1)) fun v23 =>
  gd (in64 (v21+1)∧True) <|
  g5 (v21+1,v23)
 else
  u126J4 v16 g3 (v15++[v18],v22)
def u126L3 (a0:Y127) (v6:List Int) (g3:List Int×Int×List Int→Option (List Int×Bool)):List Int×Int×List Int→Option (List Int×Bool)
 | (v15,v16,v17) =>
 if (decide (v16 < (↑v6.length:Int)))=true then
  gd ((u168 v17 0).isSome=true∧True)<|lt (vl (u168 v17 0)) fun v18 =>
  if (decide (v18 < 0))=true then
   some ([],false)
  else
   gd (ix v18 v17.length∧v18.toNat < v17.length∧True) <|
   gd ((v15.length+[v18].length≤9223372036854775807∧(v15.length+[v18].length)*8≤140737488355328)∧True) <|
   gd ((u169 a0 v18).isSome=true∧True)<|lt (vl (u169 a0 v18)) fun v19 =>
   lp (u126L5 a0 v19 v16 v15 v18 g3) ((0,v17.set v18.toNat (-1)))
 else
  u126J2 v15
def u126J0 (a0:Y127):List Int→Option (List Int×Bool)
 | v6 =>
 lp (u126L3 a0 v6) ([],0,v6)
def u126L1 (a0:Y127) (v1:List Int) (g1:Int×List Int→Option (List Int×Bool)):Int×List Int→Option (List Int×Bool)
 | (v3,v4) =>
 if (decide (v3 < (↑v1.length:Int)))=true then
  gd (ix v3 v1.length∧v3.toNat < v1.length∧True) <|
  gd (ix (v1.getD v3.toNat 0) a0.1.2.2.1.length∧ix (a0.1.2.2.1.getD (Int.toNat (v1.getD v3.toNat 0)) (dflt y83)).2.1 v4.length∧(a0.1.2.2.1.getD (Int.toNat (v1.getD v3.toNat 0)) (dflt y83)).2.1.toNat < v4.length∧in64 (v4.getD (a0.1.2.2.1.getD (Int.toNat (v1.getD v3.toNat 0)) (dflt y83)).2.1.toNat 0+1)∧ix (a0.1.2.2.1.getD (Int.toNat (v1.getD v3.toNat 0)) (dflt y83)).2.1 v4.length∧(a0.1.2.2.1.getD (Int.toNat (v1.getD v3.toNat 0)) (dflt y83)).2.1.toNat < v4.length∧True)<|lt (v4.set (a0.1.2.2.1.getD (Int.toNat (v1.getD v3.toNat 0)) (dflt y83)).2.1.toNat (v4.getD (a0.1.2.2.1.getD (Int.toNat (v1.getD v3.toNat 0)) (dflt y83)).2.1.toNat 0+1)) fun v5 =>
  gd (in64 (v3+1)∧True) <|
  g1 (v3+1,v5)
 else
  u126J0 a0 v4
def u126 (a0:Y127):Option (List Int×Bool) :=
 gd ((u165 a0.1).isSome=true∧(0≤vl (u165 a0.1)∧vl (u165 a0.1)=vl (u165 a0.1)∧(vl (u165 a0.1)).toNat*8≤281474976710656∧vl (u165 a0.1)≤9223372036854775807)∧True)<|lt (vl (u165 a0.1)) fun v0 =>
 gd ((u166c167 a0).isSome=true∧True)<|lt (vl (u166c167 a0)) fun v1 =>
 lp (u126L1 a0 v1) (0,List.replicate v0.toNat 0)
def k126:Ct:=lct 126 [.dat y127.pt] (fun x=>u126 x.1) (fun r:List Int×Bool=>AV.tup [AV.ow 2 true i64 r.1,B r.2]) (fun _=>())
theorem o126:Ok Tryz.prog k126:=by
 refine okL [.tmp 2,.tmp 3] Tryz.func126 Tryz.ntmps126 Tryz.results126 ?_
 intro y ⟨a0,_⟩ r H Q hn hr
 have:HT _ _:=⟨tc o169 (tc o168 (tc o167 (tc o166c195 (tc o166c167 (tc o165 tn)))))⟩
 refine qA (Z [p 0 (D y127.pt a0)] []) <|
  qD (fun v0=>Z [p 0 (D y127.pt a0),p 4 (O 16)] [(16,A 3 i64 (List.replicate v0.toNat 0) 0)]) H fun v0 H =>
  jN r (fun (v6:List Int)=>Z [p 0 (D y127.pt a0),p 4 (O 16)] [(16,A 3 i64 v6 0)]) (u126J0 a0) (fun v6 H=>?_) (fun _ n0 e0 t0=>?_)
 ·refine qA (Z [p 0 (D y127.pt a0),p 4 (O 16),p 7 (nil)] [(16,A 3 i64 v6 0)]) <|
   jN r (fun (v26:List Int)=>Z [p 7 (O 55)] [(55,A 2 i64 v26 0)]) (u126J2) (fun v26 H=>?_) (fun _ n2 e2 t2=>?_)
  ·refine qA (Z [p 2 (O 55),p 3 (B true)] [(55,A 2 i64 v26 0)]) <|
    vx_ret<|hr H
  refine qA (Z [p 0 (D y127.pt a0),p 4 (O 16),p 7 (nil),p 42 (I (↑v6.length:Int)),p 43 (I 0)] [(16,A 3 i64 v6 0)]) <|
   vx_block <|
   lX (fun ((v15,v16,v17):List Int×Int×List Int)=>Z [p 0 (D y127.pt a0),p 4 (O 16),p 7 (O 55),p 42 (I (↑v6.length:Int)),p 43 (I v16)] [(16,A 3 i64 v17 0),(55,A 2 i64 v15 0)]) ([],0,v6) H fun _ g3 b3 e3 t3 ⟨v15,v16,v17⟩ H =>
   qA (Z [p 0 (D y127.pt a0),p 4 (O 16),p 7 (O 55),p 42 (I (↑v6.length:Int)),p 43 (I v16),p 44 (B (decide (v16 < (↑v6.length:Int))))] [(16,A 3 i64 v17 0),(55,A 2 i64 v15 0)]) <|
   vx_seq <|
   cD H (fun H=>?_) (fun H=>?_)
  ·refine vx_skip<|fx_seq <|
    jN r (fun ((v24,v25):List Int×List Int)=>Z [p 0 (D y127.pt a0),p 4 (O 16),p 7 (O 55),p 42 (I (↑v6.length:Int)),p 43 (I v16)] [(55,A 2 i64 v24 0),(16,A 3 i64 v25 0)]) (u126J4 v16 g3) (fun ⟨v24,v25⟩ H=>?_) (fun _ n4 e4 t4=>?_)
   ·refine zB (Z [p 0 (D y127.pt a0),p 4 (O 16),p 7 (O 55),p 42 (I (↑v6.length:Int)),p 43 (I (v16+1))] [(55,A 2 i64 v24 0),(16,A 3 i64 v25 0)]) H fun H =>
     b3 H
   refine vx_block <|
    qD (fun v18=>Z [p 0 (D y127.pt a0),p 4 (O 16),p 7 (O 55),p 8 (I v18),p 42 (I (↑v6.length:Int)),p 43 (I v16)] [(16,A 3 i64 v17 0),(55,A 2 i64 v15 0)]) H fun v18 H =>
    vx_seq <|
    qA (Z [p 0 (D y127.pt a0),p 4 (O 16),p 7 (O 55),p 8 (I v18),p 42 (I (↑v6.length:Int)),p 43 (I v16),p 48 (B (decide (v18 < 0)))] [(16,A 3 i64 v17 0),(55,A 2 i64 v15 0)]) <|
    cD H (fun H=>?_) (fun H=>?_)
   ·refine qA (Z [p 2 (nil),p 3 (B false)] [(16,A 3 i64 v17 0),(55,A 2 i64 v15 0)]) <|
     vx_ret<|fx_seq_ret<|fx_blk_ret<|t4<|t3<|fx_blk_ret<|t2<|hr H
   refine vx_skip<|fx_seq <|
    qB (Z [p 0 (D y127.pt a0),p 4 (O 16),p 7 (O 55),p 8 (I v18),p 42 (I (↑v6.length:Int)),p 43 (I v16)] [(16,A 3 i64 (v17.set v18.toNat (-1)) 0),(55,A 2 i64 v15 0)]) H fun H =>
    qB (Z [p 0 (D y127.pt a0),p 4 (O 16),p 7 (AV.os 55 1),p 8 (I v18),p 42 (I (↑v6.length:Int)),p 43 (I v16)] [(55,A 2 i64 (v15++[v18]) 1),(54,A 2 i64 [v18] 0),(16,A 3 i64 (v17.set v18.toNat (-1)) 0)]) H fun H =>
    qD (fun v19=>Z [p 0 (D y127.pt a0),p 4 (O 16),p 7 (AV.os 55 1),p 42 (I (↑v6.length:Int)),p 43 (I v16),p 58 (O 58),p 59 (I (↑v19.length:Int)),p 60 (I 0)] [(58,A 2 i64 v19 0),(55,A 2 i64 (v15++[v18]) 1),(54,A 2 i64 [v18] 0),(16,A 3 i64 (v17.set v18.toNat (-1)) 0)]) H fun v19 H =>
    vx_block <|
    lX (fun ((v21,v22):Int×List Int)=>Z [p 0 (D y127.pt a0),p 4 (O 16),p 7 (O 55),p 42 (I (↑v6.length:Int)),p 43 (I v16),p 58 (O 58),p 59 (I (↑v19.length:Int)),p 60 (I v21)] [(58,A 2 i64 v19 0),(55,A 2 i64 (v15++[v18]) 0),(16,A 3 i64 v22 0)]) ((0,v17.set v18.toNat (-1))) H fun _ g5 b5 e5 t5 ⟨v21,v22⟩ H =>
    qA (Z [p 0 (D y127.pt a0),p 4 (O 16),p 7 (O 55),p 42 (I (↑v6.length:Int)),p 43 (I v16),p 58 (O 58),p 59 (I (↑v19.length:Int)),p 60 (I v21),p 61 (B (decide (v21 < (↑v19.length:Int))))] [(58,A 2 i64 v19 0),(55,A 2 i64 (v15++[v18]) 0),(16,A 3 i64 v22 0)]) <|
    vx_seq <|
    cD H (fun H=>?_) (fun H=>?_)
   ·refine vx_skip<|fx_seq<|vx_seq<|vx_block <|
     qB (Z [p 0 (D y127.pt a0),p 4 (O 16),p 7 (O 55),p 10 (I (v19.getD v21.toNat 0)),p 42 (I (↑v6.length:Int)),p 43 (I v16),p 58 (O 58),p 59 (I (↑v19.length:Int)),p 60 (I v21)] [(58,A 2 i64 v19 0),(55,A 2 i64 (v15++[v18]) 0),(16,A 3 i64 v22 0)]) H fun H =>
     zD (fun v23=>Z [p 0 (D y127.pt a0),p 4 (O 16),p 7 (O 55),p 42 (I (↑v6.length:Int)),p 43 (I v16),p 58 (O 58),p 59 (I (↑v19.length:Int)),p 60 (I v21)] [(16,A 3 i64 v23 0),(58,A 2 i64 v19 0),(55,A 2 i64 (v15++[v18]) 0)]) H fun v23 H =>
     fx_blk<|fx_seq <|
     zB (Z [p 0 (D y127.pt a0),p 4 (O 16),p 7 (O 55),p 42 (I (↑v6.length:Int)),p 43 (I v16),p 58 (O 58),p 59 (I (↑v19.length:Int)),p 60 (I (v21+1))] [(16,A 3 i64 v23 0),(58,A 2 i64 v19 0),(55,A 2 i64 (v15++[v18]) 0)]) H fun H =>
     b5 H
   exact vx_exit<|fx_seq_exit<|e5<|fx_blk_exit rfl<|fx_blk<|n4 H
  exact vx_exit<|fx_seq_exit<|e3<|fx_blk_exit rfl<|n2 H
 refine qD (fun v1=>Z [p 0 (D y127.pt a0),p 4 (O 16),p 18 (O 18),p 19 (I (↑v1.length:Int)),p 20 (I 0)] [(18,A 2 i64 v1 0),(16,A 3 i64 (List.replicate v0.toNat 0) 0)]) H fun v1 H =>
  vx_block <|
  lX (fun ((v3,v4):Int×List Int)=>Z [p 0 (D y127.pt a0),p 4 (O 16),p 18 (O 18),p 19 (I (↑v1.length:Int)),p 20 (I v3)] [(18,A 2 i64 v1 0),(16,A 3 i64 v4 0)]) (0,List.replicate v0.toNat 0) H fun _ g1 b1 e1 t1 ⟨v3,v4⟩ H =>
  qA (Z [p 0 (D y127.pt a0),p 4 (O 16),p 18 (O 18),p 19 (I (↑v1.length:Int)),p 20 (I v3),p 21 (B (decide (v3 < (↑v1.length:Int))))] [(18,A 2 i64 v1 0),(16,A 3 i64 v4 0)]) <|
  vx_seq <|
  cD H (fun H=>?_) (fun H=>?_)
 ·refine vx_skip<|fx_seq<|vx_seq<|vx_block <|
   qB (Z [p 0 (D y127.pt a0),p 4 (O 16),p 6 (I (v1.getD v3.toNat 0)),p 18 (O 18),p 19 (I (↑v1.length:Int)),p 20 (I v3)] [(18,A 2 i64 v1 0),(16,A 3 i64 v4 0)]) H fun H =>
   zD (fun v5=>Z [p 0 (D y127.pt a0),p 4 (O 16),p 18 (O 18),p 19 (I (↑v1.length:Int)),p 20 (I v3)] [(16,A 3 i64 v5 0),(18,A 2 i64 v1 0)]) H fun v5 H =>
   fx_blk<|fx_seq <|
   zB (Z [p 0 (D y127.pt a0),p 4 (O 16),p 18 (O 18),p 19 (I (↑v1.length:Int)),p 20 (I (v3+1))] [(16,A 3 i64 v5 0),(18,A 2 i64 v1 0)]) H fun H =>
   b1 H
 exact vx_exit<|fx_seq_exit<|e1<|fx_blk_exit rfl<|n0 H
def u69 (a0:Y127):Option (Bool) :=
 gd ((u126 a0).isSome=true∧True)<|lt (vl (u126 a0)) fun v0 =>
 some (!v0.2)
def k69:Ct:=lct 69 [.dat y127.pt] (fun x=>u69 x.1) (fun r:Bool=>B r) (fun _=>())
theorem o69:Ok Tryz.prog k69:=by
 refine okL [.tmp 2] Tryz.func69 Tryz.ntmps69 Tryz.results69 ?_
 intro y ⟨a0,_⟩ r H Q hn hr
 have:HT _ _:=⟨tc o126 tn⟩
 refine qA (Z [p 0 (D y127.pt a0)] []) <|
  qD (fun v0=>Z [p 4 (B v0.2)] [(7,A 2 i64 v0.1 0)]) H fun v0 H =>
  qA (Z [p 2 (B !v0.2)] [(7,A 2 i64 v0.1 0)]) <|
  vx_ret<|hr H
def u124 (a0:Y110) (a1:List Int):Option (Bool) :=
 gd ((u99 a0.2.2.1).isSome=true∧in64 (vl (u99 a0.2.2.1) - 1)∧(u147 a1 0 (vl (u99 a0.2.2.1) - 1)).isSome=true∧(vl (u147 a1 0 (vl (u99 a0.2.2.1) - 1))=true∧True→(u164 a1).isSome=true)∧True) <|
 some (vl (u147 a1 0 (vl (u99 a0.2.2.1) - 1))&&vl (u164 a1))
def k124:Ct:=lct 124 [.dat y110.pt,.dat i64.sl] (fun x=>u124 x.1 x.2.1) (fun r:Bool=>B r) (fun _=>())
theorem o124:Ok Tryz.prog k124:=by
 refine okL [.tmp 4] Tryz.func124 Tryz.ntmps124 Tryz.results124 ?_
 intro y ⟨a0,a1,_⟩ r H Q hn hr
 have:HT _ _:=⟨tc o164 (tc o147 (tc o99 tn))⟩
 refine qA (Z [p 0 (D y110.pt a0),p 1 (L i64 a1)] []) <|
  qB (Z [p 4 (B (vl (u147 a1 0 (vl (u99 a0.2.2.1) - 1))&&vl (u164 a1)))] []) H fun H =>
  vx_ret<|hr H
def u121J0:List Int→Option (List Int×Bool)
 | v18 =>
 some (v18,true)
def u121J5 (v8:List Bool) (v9:List Int) (a0:Int) (g1:List Bool×List Int→Option (List Int×Bool)):Int→Option (List Int×Bool)
 | v17 =>
 if (v17==a0)=true then
  some ([],false)
 else
  gd (ix v17 v8.length∧v17.toNat < v8.length∧True) <|
  gd ((v9.length+[v17].length≤9223372036854775807∧(v9.length+[v17].length)*8≤140737488355328)∧True) <|
  g1 (v8.set v17.toNat true,v9++[v17])
def u121L6 (v8:List Bool) (v9:List Int) (a0:Int) (v15:List Bool) (g1:List Bool×List Int→Option (List Int×Bool)) (g6:Int→Option (List Int×Bool)):Int→Option (List Int×Bool)
 | v16 =>
 gd ((decide (v16 < a0)=true∧True→ix v16 v8.length)∧(decide (v16 < a0)=true∧True→v16.toNat < v8.length)∧(v8.getD v16.toNat false=false∧decide (v16 < a0)=true∧True→ix v16 v15.length)∧(v8.getD v16.toNat false=false∧decide (v16 < a0)=true∧True→v16.toNat < v15.length)∧True) <|
 if (decide (v16 < a0)&&(v8.getD v16.toNat false||v15.getD v16.toNat false))=true then
  gd (in64 (v16+1)∧True) <|
  g6 (v16+1)
 else
  u121J5 v8 v9 a0 g1 v16
def u121J2 (v8:List Bool) (v9:List Int) (a0:Int) (g1:List Bool×List Int→Option (List Int×Bool)):List Bool→Option (List Int×Bool)
 | v15 =>
 lp (u121L6 v8 v9 a0 v15 g1) 0
def u121J4 (v12:Int) (g3:Int×List Bool→Option (List Int×Bool)):List Bool→Option (List Int×Bool)
 | v14 =>
 gd (in64 (v12+1)∧True) <|
 g3 (v12+1,v14)
def u121L3 (a1:List Y83) (a2:List Bool) (v8:List Bool) (v9:List Int) (a0:Int) (g1:List Bool×List Int→Option (List Int×Bool)) (g3:Int×List Bool→Option (List Int×Bool)):Int×List Bool→Option (List Int×Bool)
 | (v12,v13) =>
 if (decide (v12 < (↑a1.length:Int)))=true then
  gd (ix v12 a2.length∧(a2.getD v12.toNat false=true∧True→ix v12 a1.length)∧(a2.getD v12.toNat false=true∧True→ix (a1.getD v12.toNat (dflt y83)).1 v8.length)∧(a2.getD v12.toNat false=true∧True→(a1.getD v12.toNat (dflt y83)).1.toNat < v8.length)∧True) <|
  if (a2.getD v12.toNat false&&!v8.getD (a1.getD v12.toNat (dflt y83)).1.toNat false)=true then
   gd (ix v12 a1.length∧ix (a1.getD v12.toNat (dflt y83)).2.1 v13.length∧(a1.getD v12.toNat (dflt y83)).2.1.toNat < v13.length∧True) <|
   u121J4 v12 g3 (v13.set (a1.getD v12.toNat (dflt y83)).2.1.toNat true)
  else
   u121J4 v12 g3 v13
 else
  u121J2 v8 v9 a0 g1 v13
def u121L1 (a1:List Y83) (a2:List Bool) (a0:Int) (g1:List Bool×List Int→Option (List Int×Bool)):List Bool×List Int→Option (List Int×Bool)
 | (v8,v9) =>
 if (decide ((↑v9.length:Int) < a0))=true then
  gd ((0≤a0∧a0=a0∧a0.toNat*1≤281474976710656∧a0≤9223372036854775807)∧True) <|
  lp (u121L3 a1 a2 v8 v9 a0 g1) (0,List.replicate a0.toNat false)
 else
  u121J0 v9
def u121 (a0:Int) (a1:List Y83) (a2:List Bool):Option (List Int×Bool) :=
 gd ((0≤a0∧a0=a0∧a0.toNat*1≤281474976710656∧a0≤9223372036854775807)∧True) <|
 lp (u121L1 a1 a2 a0) (List.replicate a0.toNat false,[])
def k121:Ct:=lct 121 [.dat i64,.dat y83.sl,.dat Ty.bool.sl] (fun x=>u121 x.1 x.2.1 x.2.2.1) (fun r:List Int×Bool=>AV.tup [AV.ow 2 true i64 r.1,B r.2]) (fun _=>())
theorem o121:Ok Tryz.prog k121:=by
 refine okL [.tmp 6,.tmp 7] Tryz.func121 Tryz.ntmps121 Tryz.results121 ?_
 intro y ⟨a0,a1,a2,_⟩ r H Q hn hr
 have:HT _ _:=⟨@tn Tryz.prog⟩
 refine qA (Z [p 0 (J a0),p 1 (L y83 a1),p 2 (L Ty.bool a2)] []) <|
  qA (Z [p 0 (J a0),p 1 (L y83 a1),p 2 (L Ty.bool a2),p 8 (O 13)] [(13,A 2 i64 [] 0)]) <|
  qB (Z [p 0 (J a0),p 1 (L y83 a1),p 2 (L Ty.bool a2),p 8 (O 13),p 9 (O 15)] [(15,A 4 Ty.bool (List.replicate a0.toNat false) 0),(13,A 2 i64 [] 0)]) H fun H =>
  jN r (fun (v18:List Int)=>Z [p 8 (O 13)] [(13,A 2 i64 v18 0)]) (u121J0) (fun v18 H=>?_) (fun _ n0 e0 t0=>?_)
 ·refine qA (Z [p 6 (O 13),p 7 (B true)] [(13,A 2 i64 v18 0)]) <|
   vx_ret<|hr H
 refine vx_block <|
  lX (fun ((v8,v9):List Bool×List Int)=>Z [p 0 (J a0),p 1 (L y83 a1),p 2 (L Ty.bool a2),p 8 (O 13),p 9 (O 15)] [(15,A 4 Ty.bool v8 0),(13,A 2 i64 v9 0)]) (List.replicate a0.toNat false,[]) H fun _ g1 b1 e1 t1 ⟨v8,v9⟩ H =>
  vx_seq <|
  qA (Z [p 0 (J a0),p 1 (L y83 a1),p 2 (L Ty.bool a2),p 8 (O 13),p 9 (O 15),p 19 (B (decide ((↑v9.length:Int) < a0)))] [(15,A 4 Ty.bool v8 0),(13,A 2 i64 v9 0)]) <|
  cD H (fun H=>?_) (fun H=>?_)
 ·refine vx_skip<|fx_seq<|vx_block <|
   qB (Z [p 0 (J a0),p 1 (L y83 a1),p 2 (L Ty.bool a2),p 8 (O 13),p 9 (O 15),p 10 (O 21)] [(21,A 4 Ty.bool (List.replicate a0.toNat false) 0),(15,A 4 Ty.bool v8 0),(13,A 2 i64 v9 0)]) H fun H =>
   jN r (fun (v15:List Bool)=>Z [p 0 (J a0),p 1 (L y83 a1),p 2 (L Ty.bool a2),p 8 (O 13),p 9 (O 15),p 10 (O 21)] [(21,A 4 Ty.bool v15 0),(15,A 4 Ty.bool v8 0),(13,A 2 i64 v9 0)]) (u121J2 v8 v9 a0 g1) (fun v15 H=>?_) (fun _ n2 e2 t2=>?_)
  ·refine qA (Z [p 0 (J a0),p 1 (L y83 a1),p 2 (L Ty.bool a2),p 8 (O 13),p 9 (O 15),p 10 (O 21),p 12 (I 0)] [(21,A 4 Ty.bool v15 0),(15,A 4 Ty.bool v8 0),(13,A 2 i64 v9 0)]) <|
    jN r (fun (v17:Int)=>Z [p 0 (J a0),p 1 (L y83 a1),p 2 (L Ty.bool a2),p 8 (O 13),p 9 (O 15),p 12 (I v17)] [(15,A 4 Ty.bool v8 0),(13,A 2 i64 v9 0)]) (u121J5 v8 v9 a0 g1) (fun v17 H=>?_) (fun _ n5 e5 t5=>?_)
   ·refine vx_seq <|
     qA (Z [p 0 (J a0),p 1 (L y83 a1),p 2 (L Ty.bool a2),p 8 (O 13),p 9 (O 15),p 12 (I v17),p 69 (B (v17==a0))] [(15,A 4 Ty.bool v8 0),(13,A 2 i64 v9 0)]) <|
     cD H (fun H=>?_) (fun H=>?_)
    ·refine qA (Z [p 6 (O 70),p 7 (B false)] [(70,A 2 i64 [] 0),(15,A 4 Ty.bool v8 0),(13,A 2 i64 v9 0)]) <|
      vx_ret<|fx_seq_ret<|fx_blk_ret<|t1<|fx_blk_ret<|t0<|hr H
    refine vx_skip<|fx_seq <|
     qB (Z [p 0 (J a0),p 1 (L y83 a1),p 2 (L Ty.bool a2),p 8 (O 13),p 9 (O 15),p 12 (I v17)] [(15,A 4 Ty.bool (v8.set v17.toNat true) 0),(13,A 2 i64 v9 0)]) H fun H =>
     zB (Z [p 0 (J a0),p 1 (L y83 a1),p 2 (L Ty.bool a2),p 8 (AV.os 13 1),p 9 (O 15)] [(13,A 2 i64 (v9++[v17]) 1),(76,A 2 i64 [v17] 0),(15,A 4 Ty.bool (v8.set v17.toNat true) 0)]) H fun H =>
     fx_blk<|b1 H
   refine vx_block <|
    lX (fun (v16:Int)=>Z [p 0 (J a0),p 1 (L y83 a1),p 2 (L Ty.bool a2),p 8 (O 13),p 9 (O 15),p 10 (O 21),p 12 (I v16)] [(21,A 4 Ty.bool v15 0),(15,A 4 Ty.bool v8 0),(13,A 2 i64 v9 0)]) 0 H fun _ g6 b6 e6 t6 v16 H =>
    vx_seq <|
    qB (Z [p 0 (J a0),p 1 (L y83 a1),p 2 (L Ty.bool a2),p 8 (O 13),p 9 (O 15),p 10 (O 21),p 12 (I v16),p 64 (B (decide (v16 < a0)&&(v8.getD v16.toNat false||v15.getD v16.toNat false)))] [(21,A 4 Ty.bool v15 0),(15,A 4 Ty.bool v8 0),(13,A 2 i64 v9 0)]) H fun H =>
    cD H (fun H=>?_) (fun H=>?_)
   ·refine vx_skip<|fx_seq<|vx_block <|
     zB (Z [p 0 (J a0),p 1 (L y83 a1),p 2 (L Ty.bool a2),p 8 (O 13),p 9 (O 15),p 10 (O 21),p 12 (I (v16+1))] [(21,A 4 Ty.bool v15 0),(15,A 4 Ty.bool v8 0),(13,A 2 i64 v9 0)]) H fun H =>
     fx_blk<|b6 H
   exact vx_exit<|fx_seq_exit<|e6<|fx_blk_exit rfl<|n5 H
  refine qA (Z [p 0 (J a0),p 1 (L y83 a1),p 2 (L Ty.bool a2),p 8 (O 13),p 9 (O 15),p 10 (O 21),p 11 (I 0)] [(21,A 4 Ty.bool (List.replicate a0.toNat false) 0),(15,A 4 Ty.bool v8 0),(13,A 2 i64 v9 0)]) <|
   vx_block <|
   lX (fun ((v12,v13):Int×List Bool)=>Z [p 0 (J a0),p 1 (L y83 a1),p 2 (L Ty.bool a2),p 8 (O 13),p 9 (O 15),p 10 (O 21),p 11 (I v12)] [(21,A 4 Ty.bool v13 0),(15,A 4 Ty.bool v8 0),(13,A 2 i64 v9 0)]) (0,List.replicate a0.toNat false) H fun _ g3 b3 e3 t3 ⟨v12,v13⟩ H =>
   vx_seq <|
   qA (Z [p 0 (J a0),p 1 (L y83 a1),p 2 (L Ty.bool a2),p 8 (O 13),p 9 (O 15),p 10 (O 21),p 11 (I v12),p 25 (B (decide (v12 < (↑a1.length:Int))))] [(21,A 4 Ty.bool v13 0),(15,A 4 Ty.bool v8 0),(13,A 2 i64 v9 0)]) <|
   cD H (fun H=>?_) (fun H=>?_)
  ·refine vx_skip<|fx_seq <|
    jN r (fun (v14:List Bool)=>Z [p 0 (J a0),p 1 (L y83 a1),p 2 (L Ty.bool a2),p 8 (O 13),p 9 (O 15),p 10 (O 21),p 11 (I v12)] [(21,A 4 Ty.bool v14 0),(15,A 4 Ty.bool v8 0),(13,A 2 i64 v9 0)]) (u121J4 v12 g3) (fun v14 H=>?_) (fun _ n4 e4 t4=>?_)
   ·refine zB (Z [p 0 (J a0),p 1 (L y83 a1),p 2 (L Ty.bool a2),p 8 (O 13),p 9 (O 15),p 10 (O 21),p 11 (I (v12+1))] [(21,A 4 Ty.bool v14 0),(15,A 4 Ty.bool v8 0),(13,A 2 i64 v9 0)]) H fun H =>
     b3 H
   refine vx_block <|
    qB (Z [p 0 (J a0),p 1 (L y83 a1),p 2 (L Ty.bool a2),p 8 (O 13),p 9 (O 15),p 10 (O 21),p 11 (I v12),p 42 (B (a2.getD v12.toNat false&&!v8.getD (a1.getD v12.toNat (dflt y83)).1.toNat false))] [(21,A 4 Ty.bool v13 0),(15,A 4 Ty.bool v8 0),(13,A 2 i64 v9 0)]) H fun H =>
    cD H (fun H=>?_) (fun H=>?_)
   ·refine zB (Z [p 0 (J a0),p 1 (L y83 a1),p 2 (L Ty.bool a2),p 8 (O 13),p 9 (O 15),p 10 (O 21),p 11 (I v12)] [(21,A 4 Ty.bool (v13.set (a1.getD v12.toNat (dflt y83)).2.1.toNat true) 0),(15,A 4 Ty.bool v8 0),(13,A 2 i64 v9 0)]) H fun H =>
     fx_blk<|n4 H
   exact vx_skip<|fx_blk<|n4 H
  exact vx_exit<|fx_seq_exit<|e3<|fx_blk_exit rfl<|n2 H
 exact vx_exit<|fx_seq_exit<|e1<|fx_blk_exit rfl<|n0 H
def u163J0:Unit→Option (Bool)
 | _ =>
 some false
def u163L1 (a0:List Int) (a1:Int) (g1:Int→Option (Bool)):Int→Option (Bool)
 | v0 =>
 if (decide (v0 < (↑a0.length:Int)))=true then
  gd (ix v0 a0.length∧True) <|
  if (a0.getD v0.toNat 0==a1)=true then
   some true
  else
   gd (in64 (v0+1)∧True) <|
   g1 (v0+1)
 else
  u163J0 ()
def u163 (a0:List Int) (a1:Int):Option (Bool) :=
 lp (u163L1 a0 a1) 0
def k163:Ct:=lct 163 [.dat i64.sl,.dat i64] (fun x=>u163 x.1 x.2.1) (fun r:Bool=>B r) (fun _=>())
theorem o163:Ok Tryz.prog k163:=by
 refine okL [.tmp 4] Tryz.func163 Tryz.ntmps163 Tryz.results163 ?_
 intro y ⟨a0,a1,_⟩ r H Q hn hr
 have:HT _ _:=⟨@tn Tryz.prog⟩
 refine qA (Z [p 0 (L i64 a0),p 1 (J a1)] []) <|
  jN r (fun (_:Unit)=>Z [] []) (u163J0) (fun _ H=>?_) (fun _ n0 e0 t0=>?_)
 ·refine qA (Z [p 4 (B false)] []) <|
   vx_ret<|hr H
 refine qA (Z [p 0 (L i64 a0),p 1 (J a1),p 5 (I 0)] []) <|
  vx_block <|
  lX (fun (v0:Int)=>Z [p 0 (L i64 a0),p 1 (J a1),p 5 (I v0)] []) 0 H fun _ g1 b1 e1 t1 v0 H =>
  vx_seq <|
  qA (Z [p 0 (L i64 a0),p 1 (J a1),p 5 (I v0),p 9 (B (decide (v0 < (↑a0.length:Int))))] []) <|
  cD H (fun H=>?_) (fun H=>?_)
 ·refine vx_skip<|fx_seq<|vx_seq<|vx_block <|
   qB (Z [p 0 (L i64 a0),p 1 (J a1),p 5 (I v0),p 17 (B (a0.getD v0.toNat 0==a1))] []) H fun H =>
   cD H (fun H=>?_) (fun H=>?_)
  ·refine qA (Z [p 4 (B true)] []) <|
    vx_ret<|fx_blk_ret<|fx_seq_ret<|t1<|fx_blk_ret<|t0<|hr H
  refine vx_skip<|fx_blk<|fx_seq <|
   zB (Z [p 0 (L i64 a0),p 1 (J a1),p 5 (I (v0+1))] []) H fun H =>
   b1 H
 exact vx_exit<|fx_seq_exit<|e1<|fx_blk_exit rfl<|n0 H
def u123J0:List Bool→Option (List Bool)
 | v2 =>
 some v2
def u123L1 (a1:List Int) (a0:List Y83) (g1:Int×List Bool→Option (List Bool)):Int×List Bool→Option (List Bool)
 | (v0,v1) =>
 if (decide (v0 < (↑a0.length:Int)))=true then
  gd ((u163 a1 v0).isSome=true∧(v1.length+[!vl (u163 a1 v0)].length≤9223372036854775807∧(v1.length+[!vl (u163 a1 v0)].length)*1≤140737488355328)∧True) <|
  gd (in64 (v0+1)∧True) <|
  g1 ((v0+1,v1++[!vl (u163 a1 v0)]))
 else
  u123J0 v1
def u123 (a0:List Y83) (a1:List Int):Option (List Bool) :=
 lp (u123L1 a1 a0) (0,[])
def k123:Ct:=lct 123 [.dat y83.sl,.dat i64.sl] (fun x=>u123 x.1 x.2.1) (fun r:List Bool=>AV.ow 4 true Ty.bool r) (fun _=>())
theorem o123:Ok Tryz.prog k123:=by
 refine okL [.tmp 4] Tryz.func123 Tryz.ntmps123 Tryz.results123 ?_
 intro y ⟨a0,a1,_⟩ r H Q hn hr
 have:HT _ _:=⟨tc o163 tn⟩
 refine qA (Z [p 0 (L y83 a0),p 1 (L i64 a1)] []) <|
  qA (Z [p 0 (L y83 a0),p 1 (L i64 a1),p 5 (O 7)] [(7,A 4 Ty.bool [] 0)]) <|
  jN r (fun (v2:List Bool)=>Z [p 5 (O 7)] [(7,A 4 Ty.bool v2 0)]) (u123J0) (fun v2 H=>?_) (fun _ n0 e0 t0=>?_)
 ·refine qA (Z [p 4 (O 7)] [(7,A 4 Ty.bool v2 0)]) <|
   vx_ret<|hr H
 refine qA (Z [p 0 (L y83 a0),p 1 (L i64 a1),p 5 (O 7),p 6 (I 0)] [(7,A 4 Ty.bool [] 0)]) <|
  vx_block <|
  lX (fun ((v0,v1):Int×List Bool)=>Z [p 0 (L y83 a0),p 1 (L i64 a1),p 5 (O 7),p 6 (I v0)] [(7,A 4 Ty.bool v1 0)]) (0,[]) H fun _ g1 b1 e1 t1 ⟨v0,v1⟩ H =>
  vx_seq <|
  qA (Z [p 0 (L y83 a0),p 1 (L i64 a1),p 5 (O 7),p 6 (I v0),p 11 (B (decide (v0 < (↑a0.length:Int))))] [(7,A 4 Ty.bool v1 0)]) <|
  cD H (fun H=>?_) (fun H=>?_)
 ·refine vx_skip<|fx_seq<|vx_seq<|vx_block <|
   zB (Z [p 0 (L y83 a0),p 1 (L i64 a1),p 5 (AV.os 7 1),p 6 (I v0)] [(7,A 4 Ty.bool (v1++[!vl (u163 a1 v0)]) 1),(19,A 4 Ty.bool [!vl (u163 a1 v0)] 0)]) H fun H =>
   fx_blk<|fx_seq <|
   zB (Z [p 0 (L y83 a0),p 1 (L i64 a1),p 5 (AV.os 7 1),p 6 (I (v0+1))] [(7,A 4 Ty.bool (v1++[!vl (u163 a1 v0)]) 1),(19,A 4 Ty.bool [!vl (u163 a1 v0)] 0)]) H fun H =>
   b1 H
 exact vx_exit<|fx_seq_exit<|e1<|fx_blk_exit rfl<|n0 H
def u122 (a0:Y45):Option (Int) :=
 gd ((u117 a0.2.1).isSome=true∧in64 (2*(↑(vl (u117 a0.2.1)).length:Int))∧True)<|lt (vl (u117 a0.2.1)) fun v0 =>
 some (2*(↑v0.length:Int))
def k122:Ct:=lct 122 [.agg y45] (fun x=>u122 x.1) (fun r:Int=>I r) (fun _=>())
theorem o122:Ok Tryz.prog k122:=by
 refine okL [.tmp 2] Tryz.func122 Tryz.ntmps122 Tryz.results122 ?_
 intro y ⟨a0,_⟩ r H Q hn hr
 have:HT _ _:=⟨tc o117 tn⟩
 refine qA (Z [p 1 (R 1)] [(1,K 45 y45 a0)]) <|
  qD (fun v0=>Z [p 2 (I (2*(↑v0.length:Int)))] [(5,A 176 y176 v0 0),(1,K 45 y45 a0)]) H fun v0 H =>
  vx_ret<|hr H
def u67 (a0:Y45) (a1:List Int):Option (Bool) :=
 gd ((u39 a0).isSome=true∧True)<|lt (vl (u39 a0)) fun v0 =>
 gd ((u122 a0).isSome=true∧(u123 v0 a1).isSome=true∧(u121 (vl (u122 a0)) v0 (vl (u123 v0 a1))).isSome=true∧True)<|lt ((vl (u121 (vl (u122 a0)) v0 (vl (u123 v0 a1))),vl (u123 v0 a1))) fun (v1,v2) =>
 some (!v1.2)
def k67:Ct:=lct 67 [.agg y45,.dat i64.sl] (fun x=>u67 x.1 x.2.1) (fun r:Bool=>B r) (fun _=>())
theorem o67:Ok Tryz.prog k67:=by
 refine okL [.tmp 4] Tryz.func67 Tryz.ntmps67 Tryz.results67 ?_
 intro y ⟨a0,a1,_⟩ r H Q hn hr
 have:HT _ _:=⟨tc o121 (tc o123 (tc o122 (tc o39 tn)))⟩
 refine qA (Z [p 1 (L i64 a1),p 2 (R 2)] [(2,K 45 y45 a0)]) <|
  qD (fun v0=>Z [p 1 (L i64 a1),p 2 (R 2),p 5 (O 9)] [(9,A 83 y83 v0 0),(2,K 45 y45 a0)]) H fun v0 H =>
  qD (fun (v1,v2)=>Z [p 7 (B v1.2)] [(17,A 2 i64 v1.1 0),(16,A 4 Ty.bool v2 0),(9,A 83 y83 v0 0),(2,K 45 y45 a0)]) H fun ⟨v1,v2⟩ H =>
  qA (Z [p 4 (B !v1.2)] [(17,A 2 i64 v1.1 0),(16,A 4 Ty.bool v2 0),(9,A 83 y83 v0 0),(2,K 45 y45 a0)]) <|
  vx_ret<|hr H
def u120J0:Unit→Option (Bool)
 | _ =>
 some true
def u120L1 (a0:List Int) (a1:Int) (g1:Int→Option (Bool)):Int→Option (Bool)
 | v0 =>
 if (decide (v0 < (↑a0.length:Int)))=true then
  gd (ix v0 a0.length∧in64 (a1 - 1)∧(u56 (a0.getD v0.toNat 0) 0 (a1 - 1)).isSome=true∧(decide (0 < v0)=true∧(!vl (u56 (a0.getD v0.toNat 0) 0 (a1 - 1)))=false∧True→in64 (v0 - 1))∧(decide (0 < v0)=true∧(!vl (u56 (a0.getD v0.toNat 0) 0 (a1 - 1)))=false∧True→ix (v0 - 1) a0.length)∧(decide (0 < v0)=true∧(!vl (u56 (a0.getD v0.toNat 0) 0 (a1 - 1)))=false∧True→ix v0 a0.length)∧True) <|
  if (!vl (u56 (a0.getD v0.toNat 0) 0 (a1 - 1))||decide (0 < v0)&&decide (a0.getD v0.toNat 0≤a0.getD (v0 - 1).toNat 0))=true then
   some false
  else
   gd (in64 (v0+1)∧True) <|
   g1 (v0+1)
 else
  u120J0 ()
def u120 (a0:List Int) (a1:Int):Option (Bool) :=
 lp (u120L1 a0 a1) 0
def k120:Ct:=lct 120 [.dat i64.sl,.dat i64] (fun x=>u120 x.1 x.2.1) (fun r:Bool=>B r) (fun _=>())
theorem o120:Ok Tryz.prog k120:=by
 refine okL [.tmp 4] Tryz.func120 Tryz.ntmps120 Tryz.results120 ?_
 intro y ⟨a0,a1,_⟩ r H Q hn hr
 have:HT _ _:=⟨tc o56 tn⟩
 refine qA (Z [p 0 (L i64 a0),p 1 (J a1)] []) <|
  jN r (fun (_:Unit)=>Z [] []) (u120J0) (fun _ H=>?_) (fun _ n0 e0 t0=>?_)
 ·refine qA (Z [p 4 (B true)] []) <|
   vx_ret<|hr H
 refine qA (Z [p 0 (L i64 a0),p 1 (J a1),p 5 (I 0)] []) <|
  vx_block <|
  lX (fun (v0:Int)=>Z [p 0 (L i64 a0),p 1 (J a1),p 5 (I v0)] []) 0 H fun _ g1 b1 e1 t1 v0 H =>
  vx_seq <|
  qA (Z [p 0 (L i64 a0),p 1 (J a1),p 5 (I v0),p 9 (B (decide (v0 < (↑a0.length:Int))))] []) <|
  cD H (fun H=>?_) (fun H=>?_)
 ·refine vx_skip<|fx_seq<|vx_seq<|vx_block <|
   qB (Z [p 0 (L i64 a0),p 1 (J a1),p 5 (I v0),p 35 (B (!vl (u56 (a0.getD v0.toNat 0) 0 (a1 - 1))||decide (0 < v0)&&decide (a0.getD v0.toNat 0≤a0.getD (v0 - 1).toNat 0)))] []) H fun H =>
   cD H (fun H=>?_) (fun H=>?_)
  ·refine qA (Z [p 4 (B false)] []) <|
    vx_ret<|fx_blk_ret<|fx_seq_ret<|t1<|fx_blk_ret<|t0<|hr H
  refine vx_skip<|fx_blk<|fx_seq <|
   zB (Z [p 0 (L i64 a0),p 1 (J a1),p 5 (I (v0+1))] []) H fun H =>
   b1 H
 exact vx_exit<|fx_seq_exit<|e1<|fx_blk_exit rfl<|n0 H
def u66 (a0:Y45) (a1:List Int):Option (Int) :=
 gd ((u36 a0).isSome=true∧True) <|
 if (!vl (u36 a0))=true then
  some 1
 else
  gd ((u39 a0).isSome=true∧(u120 a1 (↑(vl (u39 a0)).length:Int)).isSome=true∧True)<|lt (vl (u39 a0)) fun v0 =>
  if (!vl (u120 a1 (↑v0.length:Int)))=true then
   some 2
  else
   some 0
def k66:Ct:=lct 66 [.agg y45,.dat i64.sl] (fun x=>u66 x.1 x.2.1) (fun r:Int=>I r) (fun _=>())
theorem o66:Ok Tryz.prog k66:=by
 refine okL [.tmp 4] Tryz.func66 Tryz.ntmps66 Tryz.results66 ?_
 intro y ⟨a0,a1,_⟩ r H Q hn hr
 have:HT _ _:=⟨tc o120 (tc o39 (tc o36 tn))⟩
 refine qA (Z [p 1 (L i64 a1),p 2 (R 2)] [(2,K 45 y45 a0)]) <|
  vx_seq <|
  qB (Z [p 1 (L i64 a1),p 2 (R 2),p 7 (B !vl (u36 a0))] [(2,K 45 y45 a0)]) H fun H =>
  cD H (fun H=>?_) (fun H=>?_)
 ·refine qA (Z [p 4 (I 1)] [(2,K 45 y45 a0)]) <|
   vx_ret<|fx_seq_ret<|hr H
 refine vx_skip<|fx_seq<|vx_seq <|
  qD (fun v0=>Z [p 13 (B !vl (u120 a1 (↑v0.length:Int)))] [(10,A 83 y83 v0 0),(2,K 45 y45 a0)]) H fun v0 H =>
  cD H (fun H=>?_) (fun H=>?_)
 ·refine qA (Z [p 4 (I 2)] [(10,A 83 y83 v0 0),(2,K 45 y45 a0)]) <|
   vx_ret<|fx_seq_ret<|hr H
 refine vx_skip<|fx_seq <|
  qA (Z [p 4 (I 0)] [(10,A 83 y83 v0 0),(2,K 45 y45 a0)]) <|
  vx_ret<|hr H
def u70 (a0:List Int) (a1:Int):Option (List Int) :=
 gd (((0:Int)≤(0:Int)∧(0:Int)≤a1∧a1≤(↑a0.length:Int))∧(0+(List.take a1.toNat a0).length≤9223372036854775807∧(0+(List.take a1.toNat a0).length)*8≤140737488355328)∧in64 (a1+(1:Int))∧((0:Int)≤a1+(1:Int)∧a1+(1:Int)≤(↑a0.length:Int)∧(↑a0.length:Int)≤(↑a0.length:Int))∧(([]++List.take a1.toNat a0).length+(List.drop (a1+(1:Int)).toNat a0).length≤9223372036854775807∧(([]++List.take a1.toNat a0).length+(List.drop (a1+(1:Int)).toNat a0).length)*8≤140737488355328)∧True) <|
 some ([]++List.take a1.toNat a0++List.drop (a1+1).toNat a0)
def k70:Ct:=lct 70 [.dat i64.sl,.dat i64] (fun x=>u70 x.1 x.2.1) (fun r:List Int=>AV.ow 2 true i64 r) (fun _=>())
theorem o70:Ok Tryz.prog k70:=by
 refine okL [.tmp 4] Tryz.func70 Tryz.ntmps70 Tryz.results70 ?_
 intro y ⟨a0,a1,_⟩ r H Q hn hr
 have:HT _ _:=⟨@tn Tryz.prog⟩
 refine qA (Z [p 0 (L i64 a0),p 1 (J a1)] []) <|
  qB (Z [p 4 (AV.os 5 2)] [(5,A 2 i64 ([]++List.take a1.toNat a0++List.drop (a1+1).toNat a0) 2)]) H fun H =>
  vx_ret<|hr H
def u31J0:Bool→Option (Bool×Int)
 | v5 =>
 some ((v5,(0:Int)))
def u31L1 (a0:Y45) (a1:List Int) (g1:Bool×Int→Option (Bool×Int)):Bool×Int→Option (Bool×Int)
 | (v2,v3) =>
 if (decide (v3 < (↑a1.length:Int))&&v2)=true then
  gd ((u70 a1 v3).isSome=true∧(u67 a0 (vl (u70 a1 v3))).isSome=true∧True)<|lt (vl (u70 a1 v3)) fun v4 =>
  gd (in64 (v3+1)∧True) <|
  g1 ((vl (u67 a0 v4),v3+1))
 else
  u31J0 v2
def u31 (a0:Y45) (a1:List Int):Option (Bool×Int) :=
 gd ((u66 a0 a1).isSome=true∧True)<|lt (vl (u66 a0 a1)) fun v0 =>
 if (v0 != 0)=true then
  some (false,v0)
 else
  gd ((u67 a0 a1).isSome=true∧True) <|
  lp (u31L1 a0 a1) ((!vl (u67 a0 a1),0))
def k31:Ct:=lct 31 [.agg y45,.dat i64.sl] (fun x=>u31 x.1 x.2.1) (fun r:Bool×Int=>AV.tup [B r.1,I r.2]) (fun _=>())
theorem o31:Ok Tryz.prog k31:=by
 refine okL [.tmp 4,.tmp 5] Tryz.func31 Tryz.ntmps31 Tryz.results31 ?_
 intro y ⟨a0,a1,_⟩ r H Q hn hr
 have:HT _ _:=⟨tc o67 (tc o70 (tc o66 tn))⟩
 refine qA (Z [p 1 (L i64 a1),p 2 (R 2)] [(2,K 45 y45 a0)]) <|
  vx_seq <|
  qD (fun v0=>Z [p 1 (L i64 a1),p 2 (R 2),p 6 (I v0)] [(2,K 45 y45 a0)]) H fun v0 H =>
  qA (Z [p 1 (L i64 a1),p 2 (R 2),p 6 (I v0),p 13 (B (v0 != 0))] [(2,K 45 y45 a0)]) <|
  cD H (fun H=>?_) (fun H=>?_)
 ·refine qA (Z [p 4 (B false),p 5 (I v0)] [(2,K 45 y45 a0)]) <|
   vx_ret<|fx_seq_ret<|hr H
 refine vx_skip<|fx_seq <|
  qB (Z [p 1 (L i64 a1),p 2 (R 2),p 7 (B !vl (u67 a0 a1))] [(2,K 45 y45 a0)]) H fun H =>
  jN r (fun (v5:Bool)=>Z [p 7 (B v5)] []) (u31J0) (fun v5 H=>?_) (fun _ n0 e0 t0=>?_)
 ·refine qA (Z [p 4 (B v5),p 5 (I 0)] []) <|
   vx_ret<|hr H
 refine qA (Z [p 1 (L i64 a1),p 2 (R 2),p 7 (B !vl (u67 a0 a1)),p 8 (I 0)] [(2,K 45 y45 a0)]) <|
  vx_block <|
  lX (fun ((v2,v3):Bool×Int)=>Z [p 1 (L i64 a1),p 2 (R 2),p 7 (B v2),p 8 (I v3)] [(2,K 45 y45 a0)]) ((!vl (u67 a0 a1),0)) H fun _ g1 b1 e1 t1 ⟨v2,v3⟩ H =>
  vx_seq <|
  qA (Z [p 1 (L i64 a1),p 2 (R 2),p 7 (B v2),p 8 (I v3),p 25 (B (decide (v3 < (↑a1.length:Int))&&v2))] [(2,K 45 y45 a0)]) <|
  cD H (fun H=>?_) (fun H=>?_)
 ·refine vx_skip<|fx_seq<|vx_seq<|vx_block <|
   zD (fun v4=>Z [p 1 (L i64 a1),p 2 (R 2),p 7 (B (vl (u67 a0 v4))),p 8 (I v3)] [(31,A 2 i64 v4 0),(2,K 45 y45 a0)]) H fun v4 H =>
   fx_blk<|fx_seq <|
   zB (Z [p 1 (L i64 a1),p 2 (R 2),p 7 (B (vl (u67 a0 v4))),p 8 (I (v3+1))] [(31,A 2 i64 v4 0),(2,K 45 y45 a0)]) H fun H =>
   b1 H
 exact vx_exit<|fx_seq_exit<|e1<|fx_blk_exit rfl<|n0 H
def u125J2 (a0:Y110):List Bool→Option (Y110×List Bool)
 | v8 =>
 some (a0,v8)
def u125L3 (a1:List Int) (a0:Y110) (g3:Int×List Bool→Option (Y110×List Bool)):Int×List Bool→Option (Y110×List Bool)
 | (v6,v7) =>
 if (decide (v6 < (↑a1.length:Int)))=true then
  gd (ix v6 a1.length∧True) <|
  gd (ix (a1.getD v6.toNat 0) v7.length∧Int.toNat (a1.getD v6.toNat 0) < v7.length∧True) <|
  gd (in64 (v6+1)∧True) <|
  g3 ((v6+1,v7.set (Int.toNat (a1.getD v6.toNat 0)) false))
 else
  u125J2 a0 v7
def u125J0 (a1:List Int) (a0:Y110):List Bool→Option (Y110×List Bool)
 | v4 =>
 lp (u125L3 a1 a0) (0,v4)
def u125L1 (a1:List Int) (a0:Y110) (v0:Int) (g1:Int×List Bool→Option (Y110×List Bool)):Int×List Bool→Option (Y110×List Bool)
 | (v2,v3) =>
 if (decide (v2 < v0))=true then
  gd (ix v2 v3.length∧v2.toNat < v3.length∧True) <|
  gd (in64 (v2+1)∧True) <|
  g1 (v2+1,v3.set v2.toNat true)
 else
  u125J0 a1 a0 v3
def u125 (a0:Y110) (a1:List Int):Option (Y110×List Bool) :=
 gd ((0≤(↑a0.2.2.1.length:Int)∧(↑a0.2.2.1.length:Int)=(↑a0.2.2.1.length:Int)∧(↑a0.2.2.1.length:Int).toNat*1≤281474976710656∧(↑a0.2.2.1.length:Int)≤9223372036854775807)∧True) <|
 lt ((↑(List.replicate (↑a0.2.2.1.length:Int).toNat false).length:Int)) fun v0 =>
 lp (u125L1 a1 a0 v0) ((0,List.replicate (↑a0.2.2.1.length:Int).toNat false))
def k125:Ct:=lct 125 [.dat y110.pt,.dat i64.sl] (fun x=>u125 x.1 x.2.1) (fun r:Y110×List Bool=>AV.ob 127 [D y110.pt r.1,AV.ow 4 true Ty.bool r.2]) (fun _=>())
theorem o125:Ok Tryz.prog k125:=by
 refine okL [.tmp 4] Tryz.func125 Tryz.ntmps125 Tryz.results125 ?_
 intro y ⟨a0,a1,_⟩ r H Q hn hr
 have:HT _ _:=⟨@tn Tryz.prog⟩
 refine qA (Z [p 0 (D y110.pt a0),p 1 (L i64 a1)] []) <|
  qB (Z [p 1 (L i64 a1),p 5 (R 17)] [(17,Ob.box 127 [D y110.pt a0,AV.os 15 0]),(15,A 4 Ty.bool (List.replicate (↑a0.2.2.1.length:Int).toNat false) 0)]) H fun H =>
  jN r (fun (v4:List Bool)=>Z [p 1 (L i64 a1),p 5 (R 17)] [(17,Ob.box 127 [D y110.pt a0,AV.os 15 0]),(15,A 4 Ty.bool v4 0)]) (u125J0 a1 a0) (fun v4 H=>?_) (fun _ n0 e0 t0=>?_)
 ·refine jN r (fun (v8:List Bool)=>Z [p 5 (R 17)] [(17,Ob.box 127 [D y110.pt a0,AV.os 15 0]),(15,A 4 Ty.bool v8 0)]) (u125J2 a0) (fun v8 H=>?_) (fun _ n2 e2 t2=>?_)
  ·refine qA (Z [p 4 (R 17)] [(17,Ob.box 127 [D y110.pt a0,AV.os 15 0]),(15,A 4 Ty.bool v8 0)]) <|
    vx_ret<|hr H
  refine qA (Z [p 5 (R 17),p 33 (L i64 a1),p 34 (I (↑a1.length:Int)),p 35 (I 0)] [(17,Ob.box 127 [D y110.pt a0,AV.os 15 0]),(15,A 4 Ty.bool v4 0)]) <|
   vx_block <|
   lX (fun ((v6,v7):Int×List Bool)=>Z [p 5 (R 17),p 33 (L i64 a1),p 34 (I (↑a1.length:Int)),p 35 (I v6)] [(17,Ob.box 127 [D y110.pt a0,AV.os 15 0]),(15,A 4 Ty.bool v7 0)]) (0,v4) H fun _ g3 b3 e3 t3 ⟨v6,v7⟩ H =>
   qA (Z [p 5 (R 17),p 33 (L i64 a1),p 34 (I (↑a1.length:Int)),p 35 (I v6),p 36 (B (decide (v6 < (↑a1.length:Int))))] [(17,Ob.box 127 [D y110.pt a0,AV.os 15 0]),(15,A 4 Ty.bool v7 0)]) <|
   vx_seq <|
   cD H (fun H=>?_) (fun H=>?_)
  ·refine vx_skip<|fx_seq<|vx_seq<|vx_block <|
    qB (Z [p 5 (R 17),p 8 (J (a1.getD v6.toNat 0)),p 33 (L i64 a1),p 34 (I (↑a1.length:Int)),p 35 (I v6)] [(17,Ob.box 127 [D y110.pt a0,AV.os 15 0]),(15,A 4 Ty.bool v7 0)]) H fun H =>
    zB (Z [p 5 (R 17),p 33 (L i64 a1),p 34 (I (↑a1.length:Int)),p 35 (I v6)] [(15,A 4 Ty.bool (v7.set (Int.toNat (a1.getD v6.toNat 0)) false) 0),(17,Ob.box 127 [D y110.pt a0,AV.os 15 0])]) H fun H =>
    fx_blk<|fx_seq <|
    zB (Z [p 5 (R 17),p 33 (L i64 a1),p 34 (I (↑a1.length:Int)),p 35 (I (v6+1))] [(15,A 4 Ty.bool (v7.set (Int.toNat (a1.getD v6.toNat 0)) false) 0),(17,Ob.box 127 [D y110.pt a0,AV.os 15 0])]) H fun H =>
    b3 H
  exact vx_exit<|fx_seq_exit<|e3<|fx_blk_exit rfl<|n2 H
 refine qC (fun v0=>Z [p 1 (L i64 a1),p 5 (R 17),p 22 (I v0),p 23 (I 0)] [(17,Ob.box 127 [D y110.pt a0,AV.os 15 0]),(15,A 4 Ty.bool (List.replicate (↑a0.2.2.1.length:Int).toNat false) 0)]) H fun v0 H =>
  vx_block <|
  lX (fun ((v2,v3):Int×List Bool)=>Z [p 1 (L i64 a1),p 5 (R 17),p 22 (I v0),p 23 (I v2)] [(17,Ob.box 127 [D y110.pt a0,AV.os 15 0]),(15,A 4 Ty.bool v3 0)]) ((0,List.replicate (↑a0.2.2.1.length:Int).toNat false)) H fun _ g1 b1 e1 t1 ⟨v2,v3⟩ H =>
  qA (Z [p 1 (L i64 a1),p 5 (R 17),p 22 (I v0),p 23 (I v2),p 24 (B (decide (v2 < v0)))] [(17,Ob.box 127 [D y110.pt a0,AV.os 15 0]),(15,A 4 Ty.bool v3 0)]) <|
  vx_seq <|
  cD H (fun H=>?_) (fun H=>?_)
 ·refine vx_skip<|fx_seq<|vx_seq<|vx_block <|
   qA (Z [p 1 (L i64 a1),p 5 (R 17),p 6 (I v2),p 22 (I v0),p 23 (I v2)] [(17,Ob.box 127 [D y110.pt a0,AV.os 15 0]),(15,A 4 Ty.bool v3 0)]) <|
   zB (Z [p 1 (L i64 a1),p 5 (R 17),p 22 (I v0),p 23 (I v2)] [(15,A 4 Ty.bool (v3.set v2.toNat true) 0),(17,Ob.box 127 [D y110.pt a0,AV.os 15 0])]) H fun H =>
   fx_blk<|fx_seq <|
   zB (Z [p 1 (L i64 a1),p 5 (R 17),p 22 (I v0),p 23 (I (v2+1))] [(15,A 4 Ty.bool (v3.set v2.toNat true) 0),(17,Ob.box 127 [D y110.pt a0,AV.os 15 0])]) H fun H =>
   b1 H
 exact vx_exit<|fx_seq_exit<|e1<|fx_blk_exit rfl<|n0 H
def u68 (a0:Y45) (a1:List Int):Option (Int ⊕ (Y110×List Bool)×Int) :=
 gd ((u43 a0).isSome=true∧True) <|
 if (!vl (u43 a0))=true then
  some (Sum.inl 1)
 else
  gd ((u44 a0).isSome=true∧True)<|lt (vl (u44 a0)) fun v0 =>
  gd ((u124 v0 a1).isSome=true∧True) <|
  if (!vl (u124 v0 a1))=true then
   some (Sum.inl 2)
  else
   gd ((u125 v0 a1).isSome=true∧True)<|lt (vl (u125 v0 a1)) fun v1 =>
   some (Sum.inr (v1,(0:Int)))
def k68:Ct:=lct 68 [.agg y45,.dat i64.sl] (fun x=>u68 x.1 x.2.1) (two (fun r:Int=>AV.tup [AV.v (Value.pointer none),I r]) (fun r:(Y110×List Bool)×Int=>AV.tup [AV.ob 127 [D y110.pt r.1.1,AV.ow 4 true Ty.bool r.1.2],I r.2])) (fun _=>())
def k68L:Ct:=lctL 68 [.agg y45,.dat i64.sl] (fun x=>u68 x.1 x.2.1) (fun r:Int=>AV.tup [AV.v (Value.pointer none),I r]) ()
def k68R:Ct:=lctR 68 [.agg y45,.dat i64.sl] (fun x=>u68 x.1 x.2.1) (fun r:(Y110×List Bool)×Int=>AV.tup [AV.ob 127 [D y110.pt r.1.1,AV.ow 4 true Ty.bool r.1.2],I r.2]) ()
theorem o68:Ok Tryz.prog k68:=by
 refine okL [.tmp 4,.tmp 5] Tryz.func68 Tryz.ntmps68 Tryz.results68 ?_
 intro y ⟨a0,a1,_⟩ r H Q hn hr
 have:HT _ _:=⟨tc o125 (tc o124 (tc o44 (tc o43 tn)))⟩
 refine qA (Z [p 1 (L i64 a1),p 2 (R 2)] [(2,K 45 y45 a0)]) <|
  vx_seq <|
  qB (Z [p 1 (L i64 a1),p 2 (R 2),p 9 (B !vl (u43 a0))] [(2,K 45 y45 a0)]) H fun H =>
  cD H (fun H=>?_) (fun H=>?_)
 ·refine qA (Z [p 4 (AV.v (Value.pointer none)),p 5 (I 1)] [(2,K 45 y45 a0)]) <|
   vx_ret<|fx_seq_ret<|hr H
 refine vx_skip<|fx_seq <|
  qD (fun v0=>Z [p 1 (L i64 a1),p 6 (D y110.pt v0)] [(2,K 45 y45 a0)]) H fun v0 H =>
  vx_seq <|
  qB (Z [p 1 (L i64 a1),p 6 (D y110.pt v0),p 15 (B !vl (u124 v0 a1))] [(2,K 45 y45 a0)]) H fun H =>
  cD H (fun H=>?_) (fun H=>?_)
 ·refine qA (Z [p 4 (AV.v (Value.pointer none)),p 5 (I 2)] [(2,K 45 y45 a0)]) <|
   vx_ret<|fx_seq_ret<|hr H
 refine vx_skip<|fx_seq <|
  qD (fun v1=>Z [p 4 (R 1018),p 5 (I 0)] [(1018,Ob.box 127 [D y110.pt v1.1,AV.os 18 0]),(18,A 4 Ty.bool v1.2 0),(2,K 45 y45 a0)]) H fun v1 H =>
  vx_ret<|hr H
theorem o68L:Ok Tryz.prog k68L:=ok_l o68
theorem o68R:Ok Tryz.prog k68R:=ok_r o68
def u32J0:Unit→Option (Bool×Int)
 | _ =>
 some ((true,(0:Int)))
def u32L1 (a0:Y45) (a1:List Int) (g1:Int×List Bool→Option (Bool×Int)):Int×List Bool→Option (Bool×Int)
 | (v2,v3) =>
 if (decide (v2 < (↑a1.length:Int)))=true then
  gd (ix v2 a1.length∧True) <|
  gd (ix (a1.getD v2.toNat 0) v3.length∧Int.toNat (a1.getD v2.toNat 0) < v3.length∧True) <|
  gd ((u69 ((vR (u68 a0 a1)).1.1,v3.set (Int.toNat (a1.getD v2.toNat 0)) true)).isSome=true∧True) <|
  gd (ix (a1.getD v2.toNat 0) (v3.set (Int.toNat (a1.getD v2.toNat 0)) true).length∧Int.toNat (a1.getD v2.toNat 0) < (v3.set (Int.toNat (a1.getD v2.toNat 0)) true).length∧True)<|lt ((v3.set (Int.toNat (a1.getD v2.toNat 0)) true).set (Int.toNat (a1.getD v2.toNat 0)) false) fun v4 =>
  if (!vl (u69 ((vR (u68 a0 a1)).1.1,v3.set (Int.toNat (a1.getD v2.toNat 0)) true)))=true then
   some ((false,(0:Int)))
  else
   gd (in64 (v2+1)∧True) <|
   g1 (v2+1,v4)
 else
  u32J0 ()
def u32 (a0:Y45) (a1:List Int):Option (Bool×Int) :=
 if (isL (u68 a0 a1))=true then
  gd (isL (u68 a0 a1)=true∧True) <|
  if (vL (u68 a0 a1) != 0)=true then
   some ((false,vL (u68 a0 a1)))
  else
   none
 else
  gd (isR (u68 a0 a1)=true∧True) <|
  if ((vR (u68 a0 a1)).2 != 0)=true then
   some ((false,(vR (u68 a0 a1)).2))
  else
   gd ((u69 (vR (u68 a0 a1)).1).isSome=true∧True) <|
   if (vl (u69 (vR (u68 a0 a1)).1))=true then
    some ((false,(0:Int)))
   else
    lp (u32L1 a0 a1) ((0,(vR (u68 a0 a1)).1.2))
def k32:Ct:=lct 32 [.agg y45,.dat i64.sl] (fun x=>u32 x.1 x.2.1) (fun r:Bool×Int=>AV.tup [B r.1,I r.2]) (fun _=>())
theorem o32:Ok Tryz.prog k32:=by
 refine okL [.tmp 4,.tmp 5] Tryz.func32 Tryz.ntmps32 Tryz.results32 ?_
 intro y ⟨a0,a1,_⟩ r H Q hn hr
 have:HT _ _:=⟨tc o69 tn⟩
 refine qA (Z [p 1 (L i64 a1),p 2 (R 2)] [(2,K 45 y45 a0)]) <|
  sp H (fun H=>?_) (fun H=>?_)
 ·have:HT _ _:=⟨tc o68L (HT.h)⟩
  refine qB (Z [p 1 (L i64 a1),p 6 (AV.v (Value.pointer none)),p 7 (I (vL (u68 a0 a1)))] [(2,K 45 y45 a0)]) H fun H =>
   vx_seq<|vx_block <|
   qA (Z [p 1 (L i64 a1),p 6 (AV.v (Value.pointer none)),p 7 (I (vL (u68 a0 a1))),p 17 (B (vL (u68 a0 a1) != 0))] [(2,K 45 y45 a0)]) <|
   cD H (fun H=>?_) (fun H=>?_)
  ·refine qA (Z [p 4 (B false),p 5 (I (vL (u68 a0 a1)))] [(2,K 45 y45 a0)]) <|
    vx_ret<|fx_blk_ret<|fx_seq_ret<|hr H
  exact dead H
 have:HT _ _:=⟨tc o68R (HT.h)⟩
 refine qB (Z [p 1 (L i64 a1),p 6 (R 1014),p 7 (I (vR (u68 a0 a1)).2)] [(1014,Ob.box 127 [D y110.pt (vR (u68 a0 a1)).1.1,AV.os 14 0]),(14,A 4 Ty.bool (vR (u68 a0 a1)).1.2 0),(2,K 45 y45 a0)]) H fun H =>
  vx_seq<|vx_block <|
  qA (Z [p 1 (L i64 a1),p 6 (R 1014),p 7 (I (vR (u68 a0 a1)).2),p 17 (B ((vR (u68 a0 a1)).2 != 0))] [(1014,Ob.box 127 [D y110.pt (vR (u68 a0 a1)).1.1,AV.os 14 0]),(14,A 4 Ty.bool (vR (u68 a0 a1)).1.2 0),(2,K 45 y45 a0)]) <|
  cD H (fun H=>?_) (fun H=>?_)
 ·refine qA (Z [p 4 (B false),p 5 (I (vR (u68 a0 a1)).2)] [(1014,Ob.box 127 [D y110.pt (vR (u68 a0 a1)).1.1,AV.os 14 0]),(14,A 4 Ty.bool (vR (u68 a0 a1)).1.2 0),(2,K 45 y45 a0)]) <|
   vx_ret<|fx_blk_ret<|fx_seq_ret<|hr H
 refine qB (Z [p 1 (L i64 a1),p 6 (R 1014),p 21 (B (vl (u69 (vR (u68 a0 a1)).1)))] [(1014,Ob.box 127 [D y110.pt (vR (u68 a0 a1)).1.1,AV.os 14 0]),(14,A 4 Ty.bool (vR (u68 a0 a1)).1.2 0),(2,K 45 y45 a0)]) H fun H =>
  cD H (fun H=>?_) (fun H=>?_)
 ·refine qA (Z [p 4 (B false),p 5 (I 0)] [(1014,Ob.box 127 [D y110.pt (vR (u68 a0 a1)).1.1,AV.os 14 0]),(14,A 4 Ty.bool (vR (u68 a0 a1)).1.2 0),(2,K 45 y45 a0)]) <|
   vx_ret<|fx_blk_ret<|fx_seq_ret<|hr H
 refine vx_skip<|fx_blk<|fx_seq <|
  jN r (fun (_:Unit)=>Z [] []) (u32J0) (fun _ H=>?_) (fun _ n0 e0 t0=>?_)
 ·refine qA (Z [p 4 (B true),p 5 (I 0)] []) <|
   vx_ret<|hr H
 refine qA (Z [p 6 (R 1014),p 24 (L i64 a1),p 25 (I (↑a1.length:Int)),p 26 (I 0)] [(1014,Ob.box 127 [D y110.pt (vR (u68 a0 a1)).1.1,AV.os 14 0]),(14,A 4 Ty.bool (vR (u68 a0 a1)).1.2 0),(2,K 45 y45 a0)]) <|
  vx_block <|
  lX (fun ((v2,v3):Int×List Bool)=>Z [p 6 (R 1014),p 24 (L i64 a1),p 25 (I (↑a1.length:Int)),p 26 (I v2)] [(1014,Ob.box 127 [D y110.pt (vR (u68 a0 a1)).1.1,AV.os 14 0]),(14,A 4 Ty.bool v3 0)]) ((0,(vR (u68 a0 a1)).1.2)) H fun _ g1 b1 e1 t1 ⟨v2,v3⟩ H =>
  qA (Z [p 6 (R 1014),p 24 (L i64 a1),p 25 (I (↑a1.length:Int)),p 26 (I v2),p 27 (B (decide (v2 < (↑a1.length:Int))))] [(1014,Ob.box 127 [D y110.pt (vR (u68 a0 a1)).1.1,AV.os 14 0]),(14,A 4 Ty.bool v3 0)]) <|
  vx_seq <|
  cD H (fun H=>?_) (fun H=>?_)
 ·refine vx_skip<|fx_seq<|vx_seq<|vx_block <|
   qB (Z [p 6 (R 1014),p 9 (J (a1.getD v2.toNat 0)),p 24 (L i64 a1),p 25 (I (↑a1.length:Int)),p 26 (I v2)] [(1014,Ob.box 127 [D y110.pt (vR (u68 a0 a1)).1.1,AV.os 14 0]),(14,A 4 Ty.bool v3 0)]) H fun H =>
   qB (Z [p 6 (R 1014),p 9 (J (a1.getD v2.toNat 0)),p 24 (L i64 a1),p 25 (I (↑a1.length:Int)),p 26 (I v2)] [(14,A 4 Ty.bool (v3.set (Int.toNat (a1.getD v2.toNat 0)) true) 0),(1014,Ob.box 127 [D y110.pt (vR (u68 a0 a1)).1.1,AV.os 14 0])]) H fun H =>
   qB (Z [p 6 (R 1014),p 9 (J (a1.getD v2.toNat 0)),p 10 (B (vl (u69 ((vR (u68 a0 a1)).1.1,v3.set (Int.toNat (a1.getD v2.toNat 0)) true)))),p 24 (L i64 a1),p 25 (I (↑a1.length:Int)),p 26 (I v2)] [(14,A 4 Ty.bool (v3.set (Int.toNat (a1.getD v2.toNat 0)) true) 0),(1014,Ob.box 127 [D y110.pt (vR (u68 a0 a1)).1.1,AV.os 14 0])]) H fun H =>
   qD (fun v4=>Z [p 6 (R 1014),p 10 (B (vl (u69 ((vR (u68 a0 a1)).1.1,v3.set (Int.toNat (a1.getD v2.toNat 0)) true)))),p 24 (L i64 a1),p 25 (I (↑a1.length:Int)),p 26 (I v2)] [(14,A 4 Ty.bool v4 0),(1014,Ob.box 127 [D y110.pt (vR (u68 a0 a1)).1.1,AV.os 14 0])]) H fun v4 H =>
   qA (Z [p 6 (R 1014),p 24 (L i64 a1),p 25 (I (↑a1.length:Int)),p 26 (I v2),p 45 (B !vl (u69 ((vR (u68 a0 a1)).1.1,v3.set (Int.toNat (a1.getD v2.toNat 0)) true)))] [(14,A 4 Ty.bool v4 0),(1014,Ob.box 127 [D y110.pt (vR (u68 a0 a1)).1.1,AV.os 14 0])]) <|
   cD H (fun H=>?_) (fun H=>?_)
  ·refine qA (Z [p 4 (B false),p 5 (I 0)] [(14,A 4 Ty.bool v4 0),(1014,Ob.box 127 [D y110.pt (vR (u68 a0 a1)).1.1,AV.os 14 0])]) <|
    vx_ret<|fx_blk_ret<|fx_seq_ret<|t1<|fx_blk_ret<|t0<|hr H
  refine vx_skip<|fx_blk<|fx_seq <|
   zB (Z [p 6 (R 1014),p 24 (L i64 a1),p 25 (I (↑a1.length:Int)),p 26 (I (v2+1))] [(14,A 4 Ty.bool v4 0),(1014,Ob.box 127 [D y110.pt (vR (u68 a0 a1)).1.1,AV.os 14 0])]) H fun H =>
   b1 H
 exact vx_exit<|fx_seq_exit<|e1<|fx_blk_exit rfl<|n0 H
def u9 (a0:Y32) (a1:List Int):Option (Bool) :=
 if (decide (1048576 < (↑a1.length:Int)))=true then
  some true
 else
  gd ((u10 a0 1048576).isSome=true∧True)<|lt (vl (u10 a0 1048576)) fun v0 =>
  if (decide (v0 < 0))=true then
   some true
  else
   gd ((u12 a0).isSome=true∧(u23 a1).isSome=true∧(u31 (vl (u12 a0)) (vl (u23 a1))).isSome=true∧True)<|lt ((vl (u31 (vl (u12 a0)) (vl (u23 a1))),vl (u23 a1),vl (u12 a0))) fun (v1,v2,v3) =>
   gd ((u12 a0).isSome=true∧True)<|lt (vl (u12 a0)) fun v4 =>
   gd ((u23 a1).isSome=true∧True)<|lt (vl (u23 a1)) fun v5 =>
   gd ((u32 v4 v5).isSome=true∧True)<|lt (vl (u32 v4 v5)) fun v6 =>
   if (!v6.1==v1.1||v6.2 != v1.2)=true then
    some false
   else
    gd ((u12 a0).isSome=true∧(u14 v4 (vl (u12 a0))).isSome=true∧True)<|lt (vl (u12 a0)) fun v7 =>
    if (!vl (u14 v4 v7))=true then
     some false
    else
     gd ((u23 a1).isSome=true∧(u25 v5 (vl (u23 a1))).isSome=true∧True)<|lt (vl (u23 a1)) fun v8 =>
     if (!vl (u25 v5 v8))=true then
      some false
     else
      some true
def k9:Ct:=lct 9 [.agg y32,.dat i64.sl] (fun x=>u9 x.1 x.2.1) (fun r:Bool=>B r) (fun _=>())
theorem o9:Ok Tryz.prog k9:=by
 refine okL [.tmp 4] Tryz.func9 Tryz.ntmps9 Tryz.results9 ?_
 intro y ⟨a0,a1,_⟩ r H Q hn hr
 have:HT _ _:=⟨tc o25 (tc o23 (tc o14 (tc o12 (tc o32 (tc o31 (tc o10 tn))))))⟩
 refine qA (Z [p 1 (L i64 a1),p 2 (R 2)] [(2,K 32 y32 a0)]) <|
  vx_seq <|
  qA (Z [p 1 (L i64 a1),p 2 (R 2),p 14 (B (decide (1048576 < (↑a1.length:Int))))] [(2,K 32 y32 a0)]) <|
  cD H (fun H=>?_) (fun H=>?_)
 ·refine qA (Z [p 4 (B true)] [(2,K 32 y32 a0)]) <|
   vx_ret<|fx_seq_ret<|hr H
 refine vx_skip<|fx_seq <|
  qA (Z [p 1 (L i64 a1),p 2 (R 2),p 5 (I 1048576)] [(2,K 32 y32 a0)]) <|
  qD (fun v0=>Z [p 1 (L i64 a1),p 2 (R 2),p 5 (I v0)] [(2,K 32 y32 a0)]) H fun v0 H =>
  vx_seq <|
  qA (Z [p 1 (L i64 a1),p 2 (R 2),p 19 (B (decide (v0 < 0)))] [(2,K 32 y32 a0)]) <|
  cD H (fun H=>?_) (fun H=>?_)
 ·refine qA (Z [p 4 (B true)] [(2,K 32 y32 a0)]) <|
   vx_ret<|fx_seq_ret<|hr H
 refine vx_skip<|fx_seq <|
  qD (fun (v1,v2,v3)=>Z [p 1 (L i64 a1),p 2 (R 2),p 6 (B v1.1),p 7 (I v1.2)] [(24,A 2 i64 v2 0),(4022,A 137 y137 v3.2.2 0),(3022,A 199 y199 v3.2.1.2.2 0),(2022,A 9 Ty.str v3.2.1.2.1 0),(1022,A 147 y147 v3.2.1.1 0),(22,A 145 y145 v3.1 0),(2,K 32 y32 a0)]) H fun ⟨v1,v2,v3⟩ H =>
  qD (fun v4=>Z [p 1 (L i64 a1),p 2 (R 2),p 6 (B v1.1),p 7 (I v1.2),p 8 (R 8)] [(8,Ob.box 45 [AV.os 29 0,AV.os 1029 0,AV.os 2029 0,AV.os 3029 0,AV.os 4029 0]),(4029,A 137 y137 v4.2.2 0),(3029,A 199 y199 v4.2.1.2.2 0),(2029,A 9 Ty.str v4.2.1.2.1 0),(1029,A 147 y147 v4.2.1.1 0),(29,A 145 y145 v4.1 0),(24,A 2 i64 v2 0),(4022,A 137 y137 v3.2.2 0),(3022,A 199 y199 v3.2.1.2.2 0),(2022,A 9 Ty.str v3.2.1.2.1 0),(1022,A 147 y147 v3.2.1.1 0),(22,A 145 y145 v3.1 0),(2,K 32 y32 a0)]) H fun v4 H =>
  qD (fun v5=>Z [p 1 (L i64 a1),p 2 (R 2),p 6 (B v1.1),p 7 (I v1.2),p 8 (R 8),p 9 (O 31)] [(31,A 2 i64 v5 0),(8,Ob.box 45 [AV.os 29 0,AV.os 1029 0,AV.os 2029 0,AV.os 3029 0,AV.os 4029 0]),(4029,A 137 y137 v4.2.2 0),(3029,A 199 y199 v4.2.1.2.2 0),(2029,A 9 Ty.str v4.2.1.2.1 0),(1029,A 147 y147 v4.2.1.1 0),(29,A 145 y145 v4.1 0),(24,A 2 i64 v2 0),(4022,A 137 y137 v3.2.2 0),(3022,A 199 y199 v3.2.1.2.2 0),(2022,A 9 Ty.str v3.2.1.2.1 0),(1022,A 147 y147 v3.2.1.1 0),(22,A 145 y145 v3.1 0),(2,K 32 y32 a0)]) H fun v5 H =>
  qD (fun v6=>Z [p 1 (L i64 a1),p 2 (R 2),p 6 (B v1.1),p 7 (I v1.2),p 8 (R 8),p 9 (O 31),p 10 (B v6.1),p 11 (I v6.2)] [(31,A 2 i64 v5 0),(8,Ob.box 45 [AV.os 29 0,AV.os 1029 0,AV.os 2029 0,AV.os 3029 0,AV.os 4029 0]),(4029,A 137 y137 v4.2.2 0),(3029,A 199 y199 v4.2.1.2.2 0),(2029,A 9 Ty.str v4.2.1.2.1 0),(1029,A 147 y147 v4.2.1.1 0),(29,A 145 y145 v4.1 0),(24,A 2 i64 v2 0),(4022,A 137 y137 v3.2.2 0),(3022,A 199 y199 v3.2.1.2.2 0),(2022,A 9 Ty.str v3.2.1.2.1 0),(1022,A 147 y147 v3.2.1.1 0),(22,A 145 y145 v3.1 0),(2,K 32 y32 a0)]) H fun v6 H =>
  vx_seq <|
  qA (Z [p 1 (L i64 a1),p 2 (R 2),p 8 (R 8),p 9 (O 31),p 45 (B (!v6.1==v1.1||v6.2 != v1.2))] [(31,A 2 i64 v5 0),(8,Ob.box 45 [AV.os 29 0,AV.os 1029 0,AV.os 2029 0,AV.os 3029 0,AV.os 4029 0]),(4029,A 137 y137 v4.2.2 0),(3029,A 199 y199 v4.2.1.2.2 0),(2029,A 9 Ty.str v4.2.1.2.1 0),(1029,A 147 y147 v4.2.1.1 0),(29,A 145 y145 v4.1 0),(24,A 2 i64 v2 0),(4022,A 137 y137 v3.2.2 0),(3022,A 199 y199 v3.2.1.2.2 0),(2022,A 9 Ty.str v3.2.1.2.1 0),(1022,A 147 y147 v3.2.1.1 0),(22,A 145 y145 v3.1 0),(2,K 32 y32 a0)]) <|
  cD H (fun H=>?_) (fun H=>?_)
 ·refine qA (Z [p 4 (B false)] [(31,A 2 i64 v5 0),(8,Ob.box 45 [AV.os 29 0,AV.os 1029 0,AV.os 2029 0,AV.os 3029 0,AV.os 4029 0]),(4029,A 137 y137 v4.2.2 0),(3029,A 199 y199 v4.2.1.2.2 0),(2029,A 9 Ty.str v4.2.1.2.1 0),(1029,A 147 y147 v4.2.1.1 0),(29,A 145 y145 v4.1 0),(24,A 2 i64 v2 0),(4022,A 137 y137 v3.2.2 0),(3022,A 199 y199 v3.2.1.2.2 0),(2022,A 9 Ty.str v3.2.1.2.1 0),(1022,A 147 y147 v3.2.1.1 0),(22,A 145 y145 v3.1 0),(2,K 32 y32 a0)]) <|
   vx_ret<|fx_seq_ret<|hr H
 refine vx_skip<|fx_seq<|vx_seq <|
  qD (fun v7=>Z [p 1 (L i64 a1),p 9 (O 31),p 50 (B !vl (u14 v4 v7))] [(4048,A 137 y137 v7.2.2 0),(3048,A 199 y199 v7.2.1.2.2 0),(2048,A 9 Ty.str v7.2.1.2.1 0),(1048,A 147 y147 v7.2.1.1 0),(48,A 145 y145 v7.1 0),(31,A 2 i64 v5 0),(8,Ob.box 45 [AV.os 29 0,AV.os 1029 0,AV.os 2029 0,AV.os 3029 0,AV.os 4029 0]),(4029,A 137 y137 v4.2.2 0),(3029,A 199 y199 v4.2.1.2.2 0),(2029,A 9 Ty.str v4.2.1.2.1 0),(1029,A 147 y147 v4.2.1.1 0),(29,A 145 y145 v4.1 0),(24,A 2 i64 v2 0),(4022,A 137 y137 v3.2.2 0),(3022,A 199 y199 v3.2.1.2.2 0),(2022,A 9 Ty.str v3.2.1.2.1 0),(1022,A 147 y147 v3.2.1.1 0),(22,A 145 y145 v3.1 0),(2,K 32 y32 a0)]) H fun v7 H =>
  cD H (fun H=>?_) (fun H=>?_)
 ·refine qA (Z [p 4 (B false)] [(4048,A 137 y137 v7.2.2 0),(3048,A 199 y199 v7.2.1.2.2 0),(2048,A 9 Ty.str v7.2.1.2.1 0),(1048,A 147 y147 v7.2.1.1 0),(48,A 145 y145 v7.1 0),(31,A 2 i64 v5 0),(8,Ob.box 45 [AV.os 29 0,AV.os 1029 0,AV.os 2029 0,AV.os 3029 0,AV.os 4029 0]),(4029,A 137 y137 v4.2.2 0),(3029,A 199 y199 v4.2.1.2.2 0),(2029,A 9 Ty.str v4.2.1.2.1 0),(1029,A 147 y147 v4.2.1.1 0),(29,A 145 y145 v4.1 0),(24,A 2 i64 v2 0),(4022,A 137 y137 v3.2.2 0),(3022,A 199 y199 v3.2.1.2.2 0),(2022,A 9 Ty.str v3.2.1.2.1 0),(1022,A 147 y147 v3.2.1.1 0),(22,A 145 y145 v3.1 0),(2,K 32 y32 a0)]) <|
   vx_ret<|fx_seq_ret<|hr H
 refine vx_skip<|fx_seq<|vx_seq <|
  qD (fun v8=>Z [p 55 (B !vl (u25 v5 v8))] [(53,A 2 i64 v8 0),(4048,A 137 y137 v7.2.2 0),(3048,A 199 y199 v7.2.1.2.2 0),(2048,A 9 Ty.str v7.2.1.2.1 0),(1048,A 147 y147 v7.2.1.1 0),(48,A 145 y145 v7.1 0),(31,A 2 i64 v5 0),(8,Ob.box 45 [AV.os 29 0,AV.os 1029 0,AV.os 2029 0,AV.os 3029 0,AV.os 4029 0]),(4029,A 137 y137 v4.2.2 0),(3029,A 199 y199 v4.2.1.2.2 0),(2029,A 9 Ty.str v4.2.1.2.1 0),(1029,A 147 y147 v4.2.1.1 0),(29,A 145 y145 v4.1 0),(24,A 2 i64 v2 0),(4022,A 137 y137 v3.2.2 0),(3022,A 199 y199 v3.2.1.2.2 0),(2022,A 9 Ty.str v3.2.1.2.1 0),(1022,A 147 y147 v3.2.1.1 0),(22,A 145 y145 v3.1 0),(2,K 32 y32 a0)]) H fun v8 H =>
  cD H (fun H=>?_) (fun H=>?_)
 ·refine qA (Z [p 4 (B false)] [(53,A 2 i64 v8 0),(4048,A 137 y137 v7.2.2 0),(3048,A 199 y199 v7.2.1.2.2 0),(2048,A 9 Ty.str v7.2.1.2.1 0),(1048,A 147 y147 v7.2.1.1 0),(48,A 145 y145 v7.1 0),(31,A 2 i64 v5 0),(8,Ob.box 45 [AV.os 29 0,AV.os 1029 0,AV.os 2029 0,AV.os 3029 0,AV.os 4029 0]),(4029,A 137 y137 v4.2.2 0),(3029,A 199 y199 v4.2.1.2.2 0),(2029,A 9 Ty.str v4.2.1.2.1 0),(1029,A 147 y147 v4.2.1.1 0),(29,A 145 y145 v4.1 0),(24,A 2 i64 v2 0),(4022,A 137 y137 v3.2.2 0),(3022,A 199 y199 v3.2.1.2.2 0),(2022,A 9 Ty.str v3.2.1.2.1 0),(1022,A 147 y147 v3.2.1.1 0),(22,A 145 y145 v3.1 0),(2,K 32 y32 a0)]) <|
   vx_ret<|fx_seq_ret<|hr H
 refine vx_skip<|fx_seq <|
  qA (Z [p 4 (B true)] [(53,A 2 i64 v8 0),(4048,A 137 y137 v7.2.2 0),(3048,A 199 y199 v7.2.1.2.2 0),(2048,A 9 Ty.str v7.2.1.2.1 0),(1048,A 147 y147 v7.2.1.1 0),(48,A 145 y145 v7.1 0),(31,A 2 i64 v5 0),(8,Ob.box 45 [AV.os 29 0,AV.os 1029 0,AV.os 2029 0,AV.os 3029 0,AV.os 4029 0]),(4029,A 137 y137 v4.2.2 0),(3029,A 199 y199 v4.2.1.2.2 0),(2029,A 9 Ty.str v4.2.1.2.1 0),(1029,A 147 y147 v4.2.1.1 0),(29,A 145 y145 v4.1 0),(24,A 2 i64 v2 0),(4022,A 137 y137 v3.2.2 0),(3022,A 199 y199 v3.2.1.2.2 0),(2022,A 9 Ty.str v3.2.1.2.1 0),(1022,A 147 y147 v3.2.1.1 0),(22,A 145 y145 v3.1 0),(2,K 32 y32 a0)]) <|
  vx_ret<|hr H
end Go.Proofs.YticmgmebjmblgaaGreatDoor
