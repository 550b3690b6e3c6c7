/- Functions of this program as plain functions of data, and that they are so: printed by program. -/
import Derived.Test.YtgmpfbpemmohnaaGreatDoorFn19b
namespace Go.Proofs.YtgmpfbpemmohnaaGreatDoor
open Go Go.Proofs Go.Proofs.Sv Go.Proofs.Xv Go.Proofs.Xl Go.RowKit
def u16J0:Int→Option (Int)
 | v2 =>
 some v2
def u16L1 (a0:List Int) (g1:Int×Int→Option (Int)):Int×Int→Option (Int)
 | (v0,v1) =>
 if (decide (v1 < (↑a0.length:Int)))=true then
  gd (ix v1 a0.length∧True) <|
  if (a0.getD v1.toNat 0 != v0)=true then
   some (-1)
  else
   gd (in64 (v0+1)∧True) <|
   gd (in64 (v1+1)∧True) <|
   g1 (v0+1,v1+1)
 else
  u16J0 v0
def u16 (a0:List Int) (a1:Int):Option (Int) :=
 lp (u16L1 a0) (a1,0)
def k16:Ct:=lct 16 [.dat i64.sl,.dat i64] (fun x=>u16 x.1 x.2.1) (fun r:Int=>I r) (fun _=>())
theorem o16:Ok Tryz.prog k16:=by
 refine okL [.tmp 4] Tryz.func16 Tryz.ntmps16 Tryz.results16 ?_
 intro y ⟨a0,a1,_⟩ r H Q hn hr
 have:HT _ _:=⟨@tn Tryz.prog⟩
 refine qA (Z [p 0 (L i64 a0),p 1 (J a1)] []) <|
  jN r (fun (v2:Int)=>Z [p 1 (J v2)] []) (u16J0) (fun v2 H=>?_) (fun _ n0 e0 t0=>?_)
 ·refine qA (Z [p 4 (J v2)] []) <|
   vx_ret<|hr H
 refine qA (Z [p 0 (L i64 a0),p 1 (J a1),p 5 (I 0)] []) <|
  vx_block <|
  lX (fun ((v0,v1):Int×Int)=>Z [p 0 (L i64 a0),p 1 (J v0),p 5 (I v1)] []) (a1,0) H fun _ g1 b1 e1 t1 ⟨v0,v1⟩ H =>
  vx_seq <|
  qA (Z [p 0 (L i64 a0),p 1 (J v0),p 5 (I v1),p 9 (B (decide (v1 < (↑a0.length:Int))))] []) <|
  cD H (fun H=>?_) (fun H=>?_)
 ·refine vx_skip<|fx_seq<|vx_seq<|vx_block<|vx_seq <|
   qB (Z [p 0 (L i64 a0),p 1 (J v0),p 5 (I v1),p 17 (B (a0.getD v1.toNat 0 != v0))] []) H fun H =>
   cD H (fun H=>?_) (fun H=>?_)
  ·refine qA (Z [p 4 (I (-1))] []) <|
    vx_ret<|fx_seq_ret<|fx_blk_ret<|fx_seq_ret<|t1<|fx_blk_ret<|t0<|hr H
  refine vx_skip<|fx_seq <|
   zB (Z [p 0 (L i64 a0),p 1 (I (v0+1)),p 5 (I v1)] []) H fun H =>
   fx_blk<|fx_seq <|
   zB (Z [p 0 (L i64 a0),p 1 (I (v0+1)),p 5 (I (v1+1))] []) H fun H =>
   b1 H
 exact vx_exit<|fx_seq_exit<|e1<|fx_blk_exit rfl<|n0 H
end Go.Proofs.YtgmpfbpemmohnaaGreatDoor
