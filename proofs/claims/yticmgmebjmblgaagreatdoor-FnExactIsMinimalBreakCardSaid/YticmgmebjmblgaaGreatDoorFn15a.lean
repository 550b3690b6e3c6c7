/- Functions of this program as plain functions of data, and that they are so: printed by program. -/
import Derived.Test.YticmgmebjmblgaaGreatDoorXE
import Derived.Test.YticmgmebjmblgaaGreatDoorTY
import Derived.Test.YticmgmebjmblgaaGreatDoorLB
namespace Go.Proofs.YticmgmebjmblgaaGreatDoor
open Go Go.Proofs Go.Proofs.Sv Go.Proofs.Xv Go.Proofs.Xl Go.RowKit
instance:HG Tryz.prog Γ:=⟨tok⟩
def u25J0:Unit→Option (Bool)
 | _ =>
 some true
def u25L1 (a0:List Int) (a1:List Int) (g1:Int→Option (Bool)):Int→Option (Bool)
 | v0 =>
 if (decide (v0 < (↑a0.length:Int)))=true then
  gd (ix v0 a0.length∧ix v0 a1.length∧True) <|
  if (a0.getD v0.toNat 0 != a1.getD v0.toNat 0)=true then
   some false
  else
   gd (in64 (v0+1)∧True) <|
   g1 (v0+1)
 else
  u25J0 ()
def u25 (a0:List Int) (a1:List Int):Option (Bool) :=
 if ((↑a0.length:Int) != (↑a1.length:Int))=true then
  some false
 else
  lp (u25L1 a0 a1) 0
def k25:Ct:=lct 25 [.dat i64.sl,.dat i64.sl] (fun x=>u25 x.1 x.2.1) (fun r:Bool=>B r) (fun _=>())
theorem o25:Ok Tryz.prog k25:=by
 refine okL [.tmp 4] Tryz.func25 Tryz.ntmps25 Tryz.results25 ?_
 intro y ⟨a0,a1,_⟩ r H Q hn hr
 have:HT _ _:=⟨@tn Tryz.prog⟩
 refine qA (Z [p 0 (L i64 a0),p 1 (L i64 a1)] []) <|
  vx_seq <|
  qA (Z [p 0 (L i64 a0),p 1 (L i64 a1),p 10 (B ((↑a0.length:Int) != (↑a1.length:Int)))] []) <|
  cD H (fun H=>?_) (fun H=>?_)
 ·refine qA (Z [p 4 (B false)] []) <|
   vx_ret<|fx_seq_ret<|hr H
 refine vx_skip<|fx_seq <|
  jN r (fun (_:Unit)=>Z [] []) (u25J0) (fun _ H=>?_) (fun _ n0 e0 t0=>?_)
 ·refine qA (Z [p 4 (B true)] []) <|
   vx_ret<|hr H
 refine qA (Z [p 0 (L i64 a0),p 1 (L i64 a1),p 5 (I 0)] []) <|
  vx_block <|
  lX (fun (v0:Int)=>Z [p 0 (L i64 a0),p 1 (L i64 a1),p 5 (I v0)] []) 0 H fun _ g1 b1 e1 t1 v0 H =>
  vx_seq <|
  qA (Z [p 0 (L i64 a0),p 1 (L i64 a1),p 5 (I v0),p 14 (B (decide (v0 < (↑a0.length:Int))))] []) <|
  cD H (fun H=>?_) (fun H=>?_)
 ·refine vx_skip<|fx_seq<|vx_seq<|vx_block <|
   qB (Z [p 0 (L i64 a0),p 1 (L i64 a1),p 5 (I v0),p 25 (B (a0.getD v0.toNat 0 != a1.getD v0.toNat 0))] []) H fun H =>
   cD H (fun H=>?_) (fun H=>?_)
  ·refine qA (Z [p 4 (B false)] []) <|
    vx_ret<|fx_blk_ret<|fx_seq_ret<|t1<|fx_blk_ret<|t0<|hr H
  refine vx_skip<|fx_blk<|fx_seq <|
   zB (Z [p 0 (L i64 a0),p 1 (L i64 a1),p 5 (I (v0+1))] []) H fun H =>
   b1 H
 exact vx_exit<|fx_seq_exit<|e1<|fx_blk_exit rfl<|n0 H
def u107 (a0:Y137) (a1:Y137):Option (Bool) :=
 gd ((u25 a0.1 a1.1).isSome=true∧True) <|
 if (!vl (u25 a0.1 a1.1))=true then
  some false
 else
  gd ((u25 a0.2.1 a1.2.1).isSome=true∧True) <|
  if (!vl (u25 a0.2.1 a1.2.1))=true then
   some false
  else
   gd ((u25 a0.2.2.1 a1.2.2.1).isSome=true∧True) <|
   if (!vl (u25 a0.2.2.1 a1.2.2.1))=true then
    some false
   else
    gd ((u25 a0.2.2.2 a1.2.2.2).isSome=true∧True) <|
    if (!vl (u25 a0.2.2.2 a1.2.2.2))=true then
     some false
    else
     some true
def k107:Ct:=lct 107 [.agg y137,.agg y137] (fun x=>u107 x.1 x.2.1) (fun r:Bool=>B r) (fun _=>())
theorem o107:Ok Tryz.prog k107:=by
 refine okL [.tmp 4] Tryz.func107 Tryz.ntmps107 Tryz.results107 ?_
 intro y ⟨a0,a1,_⟩ r H Q hn hr
 have:HT _ _:=⟨tc o25 tn⟩
 refine qA (Z [p 2 (R 2),p 3 (R 3)] [(3,K 137 y137 a1),(2,K 137 y137 a0)]) <|
  vx_seq <|
  qB (Z [p 2 (R 2),p 3 (R 3),p 10 (B !vl (u25 a0.1 a1.1))] [(3,K 137 y137 a1),(2,K 137 y137 a0)]) H fun H =>
  cD H (fun H=>?_) (fun H=>?_)
 ·refine qA (Z [p 4 (B false)] [(3,K 137 y137 a1),(2,K 137 y137 a0)]) <|
   vx_ret<|fx_seq_ret<|hr H
 refine vx_skip<|fx_seq<|vx_seq <|
  qB (Z [p 2 (R 2),p 3 (R 3),p 16 (B !vl (u25 a0.2.1 a1.2.1))] [(3,K 137 y137 a1),(2,K 137 y137 a0)]) H fun H =>
  cD H (fun H=>?_) (fun H=>?_)
 ·refine qA (Z [p 4 (B false)] [(3,K 137 y137 a1),(2,K 137 y137 a0)]) <|
   vx_ret<|fx_seq_ret<|hr H
 refine vx_skip<|fx_seq<|vx_seq <|
  qB (Z [p 2 (R 2),p 3 (R 3),p 22 (B !vl (u25 a0.2.2.1 a1.2.2.1))] [(3,K 137 y137 a1),(2,K 137 y137 a0)]) H fun H =>
  cD H (fun H=>?_) (fun H=>?_)
 ·refine qA (Z [p 4 (B false)] [(3,K 137 y137 a1),(2,K 137 y137 a0)]) <|
   vx_ret<|fx_seq_ret<|hr H
 refine vx_skip<|fx_seq<|vx_seq <|
  qB (Z [p 28 (B !vl (u25 a0.2.2.2 a1.2.2.2))] [(3,K 137 y137 a1),(2,K 137 y137 a0)]) H fun H =>
  cD H (fun H=>?_) (fun H=>?_)
 ·refine qA (Z [p 4 (B false)] [(3,K 137 y137 a1),(2,K 137 y137 a0)]) <|
   vx_ret<|fx_seq_ret<|hr H
 refine vx_skip<|fx_seq <|
  qA (Z [p 4 (B true)] [(3,K 137 y137 a1),(2,K 137 y137 a0)]) <|
  vx_ret<|hr H
def u51J0:Unit→Option (Bool)
 | _ =>
 some true
def u51L1 (a0:List Y137) (a1:List Y137) (g1:Int→Option (Bool)):Int→Option (Bool)
 | v0 =>
 if (decide (v0 < (↑a0.length:Int)))=true then
  gd (ix v0 a0.length∧ix v0 a1.length∧(u107 (a0.getD v0.toNat (dflt y137)) (a1.getD v0.toNat (dflt y137))).isSome=true∧True) <|
  if (!vl (u107 (a0.getD v0.toNat (dflt y137)) (a1.getD v0.toNat (dflt y137))))=true then
   some false
  else
   gd (in64 (v0+1)∧True) <|
   g1 (v0+1)
 else
  u51J0 ()
def u51 (a0:List Y137) (a1:List Y137):Option (Bool) :=
 if ((↑a0.length:Int) != (↑a1.length:Int))=true then
  some false
 else
  lp (u51L1 a0 a1) 0
def k51:Ct:=lct 51 [.dat y137.sl,.dat y137.sl] (fun x=>u51 x.1 x.2.1) (fun r:Bool=>B r) (fun _=>())
theorem o51:Ok Tryz.prog k51:=by
 refine okL [.tmp 4] Tryz.func51 Tryz.ntmps51 Tryz.results51 ?_
 intro y ⟨a0,a1,_⟩ r H Q hn hr
 have:HT _ _:=⟨tc o107 tn⟩
 refine qA (Z [p 0 (L y137 a0),p 1 (L y137 a1)] []) <|
  vx_seq <|
  qA (Z [p 0 (L y137 a0),p 1 (L y137 a1),p 10 (B ((↑a0.length:Int) != (↑a1.length:Int)))] []) <|
  cD H (fun H=>?_) (fun H=>?_)
 ·refine qA (Z [p 4 (B false)] []) <|
   vx_ret<|fx_seq_ret<|hr H
 refine vx_skip<|fx_seq <|
  jN r (fun (_:Unit)=>Z [] []) (u51J0) (fun _ H=>?_) (fun _ n0 e0 t0=>?_)
 ·refine qA (Z [p 4 (B true)] []) <|
   vx_ret<|hr H
 refine qA (Z [p 0 (L y137 a0),p 1 (L y137 a1),p 5 (I 0)] []) <|
  vx_block <|
  lX (fun (v0:Int)=>Z [p 0 (L y137 a0),p 1 (L y137 a1),p 5 (I v0)] []) 0 H fun _ g1 b1 e1 t1 v0 H =>
  vx_seq <|
  qA (Z [p 0 (L y137 a0),p 1 (L y137 a1),p 5 (I v0),p 14 (B (decide (v0 < (↑a0.length:Int))))] []) <|
  cD H (fun H=>?_) (fun H=>?_)
 ·refine vx_skip<|fx_seq<|vx_seq<|vx_block <|
   qB (Z [p 0 (L y137 a0),p 1 (L y137 a1),p 5 (I v0),p 26 (B !vl (u107 (a0.getD v0.toNat (dflt y137)) (a1.getD v0.toNat (dflt y137))))] []) H fun H =>
   cD H (fun H=>?_) (fun H=>?_)
  ·refine qA (Z [p 4 (B false)] []) <|
    vx_ret<|fx_blk_ret<|fx_seq_ret<|t1<|fx_blk_ret<|t0<|hr H
  refine vx_skip<|fx_blk<|fx_seq <|
   zB (Z [p 0 (L y137 a0),p 1 (L y137 a1),p 5 (I (v0+1))] []) H fun H =>
   b1 H
 exact vx_exit<|fx_seq_exit<|e1<|fx_blk_exit rfl<|n0 H
def u157 (a0:Y199) (a1:Y199):Option (Bool) :=
 if (!decide (a0.1=a1.1))=true then
  some false
 else
  if (a0.2.1 != a1.2.1)=true then
   some false
  else
   if (a0.2.2 != a1.2.2)=true then
    some false
   else
    some true
def k157:Ct:=lct 157 [.agg y199,.agg y199] (fun x=>u157 x.1 x.2.1) (fun r:Bool=>B r) (fun _=>())
theorem o157:Ok Tryz.prog k157:=by
 refine okL [.tmp 4] Tryz.func157 Tryz.ntmps157 Tryz.results157 ?_
 intro y ⟨a0,a1,_⟩ r H Q hn hr
 have:HT _ _:=⟨@tn Tryz.prog⟩
 refine qA (Z [p 2 (R 2),p 3 (R 3)] [(3,K 199 y199 a1),(2,K 199 y199 a0)]) <|
  vx_seq <|
  qA (Z [p 2 (R 2),p 3 (R 3),p 9 (B !decide (a0.1=a1.1))] [(3,K 199 y199 a1),(2,K 199 y199 a0)]) <|
  cD H (fun H=>?_) (fun H=>?_)
 ·refine qA (Z [p 4 (B false)] [(3,K 199 y199 a1),(2,K 199 y199 a0)]) <|
   vx_ret<|fx_seq_ret<|hr H
 refine vx_skip<|fx_seq<|vx_seq <|
  qA (Z [p 2 (R 2),p 3 (R 3),p 14 (B (a0.2.1 != a1.2.1))] [(3,K 199 y199 a1),(2,K 199 y199 a0)]) <|
  cD H (fun H=>?_) (fun H=>?_)
 ·refine qA (Z [p 4 (B false)] [(3,K 199 y199 a1),(2,K 199 y199 a0)]) <|
   vx_ret<|fx_seq_ret<|hr H
 refine vx_skip<|fx_seq<|vx_seq <|
  qA (Z [p 19 (B (a0.2.2 != a1.2.2))] [(3,K 199 y199 a1),(2,K 199 y199 a0)]) <|
  cD H (fun H=>?_) (fun H=>?_)
 ·refine qA (Z [p 4 (B false)] [(3,K 199 y199 a1),(2,K 199 y199 a0)]) <|
   vx_ret<|fx_seq_ret<|hr H
 refine vx_skip<|fx_seq <|
  qA (Z [p 4 (B true)] [(3,K 199 y199 a1),(2,K 199 y199 a0)]) <|
  vx_ret<|hr H
def u106J0:Unit→Option (Bool)
 | _ =>
 some true
def u106L1 (a0:List Y199) (a1:List Y199) (g1:Int→Option (Bool)):Int→Option (Bool)
 | v0 =>
 if (decide (v0 < (↑a0.length:Int)))=true then
  gd (ix v0 a0.length∧ix v0 a1.length∧(u157 (a0.getD v0.toNat (dflt y199)) (a1.getD v0.toNat (dflt y199))).isSome=true∧True) <|
  if (!vl (u157 (a0.getD v0.toNat (dflt y199)) (a1.getD v0.toNat (dflt y199))))=true then
   some false
  else
   gd (in64 (v0+1)∧True) <|
   g1 (v0+1)
 else
  u106J0 ()
def u106 (a0:List Y199) (a1:List Y199):Option (Bool) :=
 if ((↑a0.length:Int) != (↑a1.length:Int))=true then
  some false
 else
  lp (u106L1 a0 a1) 0
def k106:Ct:=lct 106 [.dat y199.sl,.dat y199.sl] (fun x=>u106 x.1 x.2.1) (fun r:Bool=>B r) (fun _=>())
theorem o106:Ok Tryz.prog k106:=by
 refine okL [.tmp 4] Tryz.func106 Tryz.ntmps106 Tryz.results106 ?_
 intro y ⟨a0,a1,_⟩ r H Q hn hr
 have:HT _ _:=⟨tc o157 tn⟩
 refine qA (Z [p 0 (L y199 a0),p 1 (L y199 a1)] []) <|
  vx_seq <|
  qA (Z [p 0 (L y199 a0),p 1 (L y199 a1),p 10 (B ((↑a0.length:Int) != (↑a1.length:Int)))] []) <|
  cD H (fun H=>?_) (fun H=>?_)
 ·refine qA (Z [p 4 (B false)] []) <|
   vx_ret<|fx_seq_ret<|hr H
 refine vx_skip<|fx_seq <|
  jN r (fun (_:Unit)=>Z [] []) (u106J0) (fun _ H=>?_) (fun _ n0 e0 t0=>?_)
 ·refine qA (Z [p 4 (B true)] []) <|
   vx_ret<|hr H
 refine qA (Z [p 0 (L y199 a0),p 1 (L y199 a1),p 5 (I 0)] []) <|
  vx_block <|
  lX (fun (v0:Int)=>Z [p 0 (L y199 a0),p 1 (L y199 a1),p 5 (I v0)] []) 0 H fun _ g1 b1 e1 t1 v0 H =>
  vx_seq <|
  qA (Z [p 0 (L y199 a0),p 1 (L y199 a1),p 5 (I v0),p 14 (B (decide (v0 < (↑a0.length:Int))))] []) <|
  cD H (fun H=>?_) (fun H=>?_)
 ·refine vx_skip<|fx_seq<|vx_seq<|vx_block <|
   qB (Z [p 0 (L y199 a0),p 1 (L y199 a1),p 5 (I v0),p 26 (B !vl (u157 (a0.getD v0.toNat (dflt y199)) (a1.getD v0.toNat (dflt y199))))] []) H fun H =>
   cD H (fun H=>?_) (fun H=>?_)
  ·refine qA (Z [p 4 (B false)] []) <|
    vx_ret<|fx_blk_ret<|fx_seq_ret<|t1<|fx_blk_ret<|t0<|hr H
  refine vx_skip<|fx_blk<|fx_seq <|
   zB (Z [p 0 (L y199 a0),p 1 (L y199 a1),p 5 (I (v0+1))] []) H fun H =>
   b1 H
 exact vx_exit<|fx_seq_exit<|e1<|fx_blk_exit rfl<|n0 H
def u105J0:Unit→Option (Bool)
 | _ =>
 some true
def u105L1 (a0:List ByteArray) (a1:List ByteArray) (g1:Int→Option (Bool)):Int→Option (Bool)
 | v0 =>
 if (decide (v0 < (↑a0.length:Int)))=true then
  gd (ix v0 a0.length∧ix v0 a1.length∧True) <|
  if (!decide (a0.getD v0.toNat (dflt Ty.str)=a1.getD v0.toNat (dflt Ty.str)))=true then
   some false
  else
   gd (in64 (v0+1)∧True) <|
   g1 (v0+1)
 else
  u105J0 ()
def u105 (a0:List ByteArray) (a1:List ByteArray):Option (Bool) :=
 if ((↑a0.length:Int) != (↑a1.length:Int))=true then
  some false
 else
  lp (u105L1 a0 a1) 0
def k105:Ct:=lct 105 [.dat Ty.str.sl,.dat Ty.str.sl] (fun x=>u105 x.1 x.2.1) (fun r:Bool=>B r) (fun _=>())
theorem o105:Ok Tryz.prog k105:=by
 refine okL [.tmp 4] Tryz.func105 Tryz.ntmps105 Tryz.results105 ?_
 intro y ⟨a0,a1,_⟩ r H Q hn hr
 have:HT _ _:=⟨@tn Tryz.prog⟩
 refine qA (Z [p 0 (L Ty.str a0),p 1 (L Ty.str a1)] []) <|
  vx_seq <|
  qA (Z [p 0 (L Ty.str a0),p 1 (L Ty.str a1),p 10 (B ((↑a0.length:Int) != (↑a1.length:Int)))] []) <|
  cD H (fun H=>?_) (fun H=>?_)
 ·refine qA (Z [p 4 (B false)] []) <|
   vx_ret<|fx_seq_ret<|hr H
 refine vx_skip<|fx_seq <|
  jN r (fun (_:Unit)=>Z [] []) (u105J0) (fun _ H=>?_) (fun _ n0 e0 t0=>?_)
 ·refine qA (Z [p 4 (B true)] []) <|
   vx_ret<|hr H
 refine qA (Z [p 0 (L Ty.str a0),p 1 (L Ty.str a1),p 5 (I 0)] []) <|
  vx_block <|
  lX (fun (v0:Int)=>Z [p 0 (L Ty.str a0),p 1 (L Ty.str a1),p 5 (I v0)] []) 0 H fun _ g1 b1 e1 t1 v0 H =>
  vx_seq <|
  qA (Z [p 0 (L Ty.str a0),p 1 (L Ty.str a1),p 5 (I v0),p 14 (B (decide (v0 < (↑a0.length:Int))))] []) <|
  cD H (fun H=>?_) (fun H=>?_)
 ·refine vx_skip<|fx_seq<|vx_seq<|vx_block <|
   qB (Z [p 0 (L Ty.str a0),p 1 (L Ty.str a1),p 5 (I v0),p 25 (B !decide (a0.getD v0.toNat (dflt Ty.str)=a1.getD v0.toNat (dflt Ty.str)))] []) H fun H =>
   cD H (fun H=>?_) (fun H=>?_)
  ·refine qA (Z [p 4 (B false)] []) <|
    vx_ret<|fx_blk_ret<|fx_seq_ret<|t1<|fx_blk_ret<|t0<|hr H
  refine vx_skip<|fx_blk<|fx_seq <|
   zB (Z [p 0 (L Ty.str a0),p 1 (L Ty.str a1),p 5 (I (v0+1))] []) H fun H =>
   b1 H
 exact vx_exit<|fx_seq_exit<|e1<|fx_blk_exit rfl<|n0 H
def u156 (a0:Y147) (a1:Y147):Option (Bool) :=
 if (!decide (a0.1=a1.1))=true then
  some false
 else
  if (a0.2.1 != a1.2.1)=true then
   some false
  else
   gd ((u25 a0.2.2 a1.2.2).isSome=true∧True) <|
   if (!vl (u25 a0.2.2 a1.2.2))=true then
    some false
   else
    some true
def k156:Ct:=lct 156 [.agg y147,.agg y147] (fun x=>u156 x.1 x.2.1) (fun r:Bool=>B r) (fun _=>())
theorem o156:Ok Tryz.prog k156:=by
 refine okL [.tmp 4] Tryz.func156 Tryz.ntmps156 Tryz.results156 ?_
 intro y ⟨a0,a1,_⟩ r H Q hn hr
 have:HT _ _:=⟨tc o25 tn⟩
 refine qA (Z [p 2 (R 2),p 3 (R 3)] [(3,K 147 y147 a1),(2,K 147 y147 a0)]) <|
  vx_seq <|
  qA (Z [p 2 (R 2),p 3 (R 3),p 9 (B !decide (a0.1=a1.1))] [(3,K 147 y147 a1),(2,K 147 y147 a0)]) <|
  cD H (fun H=>?_) (fun H=>?_)
 ·refine qA (Z [p 4 (B false)] [(3,K 147 y147 a1),(2,K 147 y147 a0)]) <|
   vx_ret<|fx_seq_ret<|hr H
 refine vx_skip<|fx_seq<|vx_seq <|
  qA (Z [p 2 (R 2),p 3 (R 3),p 14 (B (a0.2.1 != a1.2.1))] [(3,K 147 y147 a1),(2,K 147 y147 a0)]) <|
  cD H (fun H=>?_) (fun H=>?_)
 ·refine qA (Z [p 4 (B false)] [(3,K 147 y147 a1),(2,K 147 y147 a0)]) <|
   vx_ret<|fx_seq_ret<|hr H
 refine vx_skip<|fx_seq<|vx_seq <|
  qB (Z [p 20 (B !vl (u25 a0.2.2 a1.2.2))] [(3,K 147 y147 a1),(2,K 147 y147 a0)]) H fun H =>
  cD H (fun H=>?_) (fun H=>?_)
 ·refine qA (Z [p 4 (B false)] [(3,K 147 y147 a1),(2,K 147 y147 a0)]) <|
   vx_ret<|fx_seq_ret<|hr H
 refine vx_skip<|fx_seq <|
  qA (Z [p 4 (B true)] [(3,K 147 y147 a1),(2,K 147 y147 a0)]) <|
  vx_ret<|hr H
def u104J0:Unit→Option (Bool)
 | _ =>
 some true
def u104L1 (a0:List Y147) (a1:List Y147) (g1:Int→Option (Bool)):Int→Option (Bool)
 | v0 =>
 if (decide (v0 < (↑a0.length:Int)))=true then
  gd (ix v0 a0.length∧ix v0 a1.length∧(u156 (a0.getD v0.toNat (dflt y147)) (a1.getD v0.toNat (dflt y147))).isSome=true∧True) <|
  if (!vl (u156 (a0.getD v0.toNat (dflt y147)) (a1.getD v0.toNat (dflt y147))))=true then
   some false
  else
   gd (in64 (v0+1)∧True) <|
   g1 (v0+1)
 else
  u104J0 ()
def u104 (a0:List Y147) (a1:List Y147):Option (Bool) :=
 if ((↑a0.length:Int) != (↑a1.length:Int))=true then
  some false
 else
  lp (u104L1 a0 a1) 0
def k104:Ct:=lct 104 [.dat y147.sl,.dat y147.sl] (fun x=>u104 x.1 x.2.1) (fun r:Bool=>B r) (fun _=>())
theorem o104:Ok Tryz.prog k104:=by
 refine okL [.tmp 4] Tryz.func104 Tryz.ntmps104 Tryz.results104 ?_
 intro y ⟨a0,a1,_⟩ r H Q hn hr
 have:HT _ _:=⟨tc o156 tn⟩
 refine qA (Z [p 0 (L y147 a0),p 1 (L y147 a1)] []) <|
  vx_seq <|
  qA (Z [p 0 (L y147 a0),p 1 (L y147 a1),p 10 (B ((↑a0.length:Int) != (↑a1.length:Int)))] []) <|
  cD H (fun H=>?_) (fun H=>?_)
 ·refine qA (Z [p 4 (B false)] []) <|
   vx_ret<|fx_seq_ret<|hr H
 refine vx_skip<|fx_seq <|
  jN r (fun (_:Unit)=>Z [] []) (u104J0) (fun _ H=>?_) (fun _ n0 e0 t0=>?_)
 ·refine qA (Z [p 4 (B true)] []) <|
   vx_ret<|hr H
 refine qA (Z [p 0 (L y147 a0),p 1 (L y147 a1),p 5 (I 0)] []) <|
  vx_block <|
  lX (fun (v0:Int)=>Z [p 0 (L y147 a0),p 1 (L y147 a1),p 5 (I v0)] []) 0 H fun _ g1 b1 e1 t1 v0 H =>
  vx_seq <|
  qA (Z [p 0 (L y147 a0),p 1 (L y147 a1),p 5 (I v0),p 14 (B (decide (v0 < (↑a0.length:Int))))] []) <|
  cD H (fun H=>?_) (fun H=>?_)
 ·refine vx_skip<|fx_seq<|vx_seq<|vx_block <|
   qB (Z [p 0 (L y147 a0),p 1 (L y147 a1),p 5 (I v0),p 26 (B !vl (u156 (a0.getD v0.toNat (dflt y147)) (a1.getD v0.toNat (dflt y147))))] []) H fun H =>
   cD H (fun H=>?_) (fun H=>?_)
  ·refine qA (Z [p 4 (B false)] []) <|
    vx_ret<|fx_blk_ret<|fx_seq_ret<|t1<|fx_blk_ret<|t0<|hr H
  refine vx_skip<|fx_blk<|fx_seq <|
   zB (Z [p 0 (L y147 a0),p 1 (L y147 a1),p 5 (I (v0+1))] []) H fun H =>
   b1 H
 exact vx_exit<|fx_seq_exit<|e1<|fx_blk_exit rfl<|n0 H
def u50 (a0:Y42) (a1:Y42):Option (Bool) :=
 gd ((u104 a0.1 a1.1).isSome=true∧True) <|
 if (!vl (u104 a0.1 a1.1))=true then
  some false
 else
  gd ((u105 a0.2.1 a1.2.1).isSome=true∧True) <|
  if (!vl (u105 a0.2.1 a1.2.1))=true then
   some false
  else
   gd ((u106 a0.2.2 a1.2.2).isSome=true∧True) <|
   if (!vl (u106 a0.2.2 a1.2.2))=true then
    some false
   else
    some true
def k50:Ct:=lct 50 [.agg y42,.agg y42] (fun x=>u50 x.1 x.2.1) (fun r:Bool=>B r) (fun _=>())
theorem o50:Ok Tryz.prog k50:=by
 refine okL [.tmp 4] Tryz.func50 Tryz.ntmps50 Tryz.results50 ?_
 intro y ⟨a0,a1,_⟩ r H Q hn hr
 have:HT _ _:=⟨tc o106 (tc o105 (tc o104 tn))⟩
 refine qA (Z [p 2 (R 2),p 3 (R 3)] [(3,K 42 y42 a1),(2,K 42 y42 a0)]) <|
  vx_seq <|
  qB (Z [p 2 (R 2),p 3 (R 3),p 10 (B !vl (u104 a0.1 a1.1))] [(3,K 42 y42 a1),(2,K 42 y42 a0)]) H fun H =>
  cD H (fun H=>?_) (fun H=>?_)
 ·refine qA (Z [p 4 (B false)] [(3,K 42 y42 a1),(2,K 42 y42 a0)]) <|
   vx_ret<|fx_seq_ret<|hr H
 refine vx_skip<|fx_seq<|vx_seq <|
  qB (Z [p 2 (R 2),p 3 (R 3),p 16 (B !vl (u105 a0.2.1 a1.2.1))] [(3,K 42 y42 a1),(2,K 42 y42 a0)]) H fun H =>
  cD H (fun H=>?_) (fun H=>?_)
 ·refine qA (Z [p 4 (B false)] [(3,K 42 y42 a1),(2,K 42 y42 a0)]) <|
   vx_ret<|fx_seq_ret<|hr H
 refine vx_skip<|fx_seq<|vx_seq <|
  qB (Z [p 22 (B !vl (u106 a0.2.2 a1.2.2))] [(3,K 42 y42 a1),(2,K 42 y42 a0)]) H fun H =>
  cD H (fun H=>?_) (fun H=>?_)
 ·refine qA (Z [p 4 (B false)] [(3,K 42 y42 a1),(2,K 42 y42 a0)]) <|
   vx_ret<|fx_seq_ret<|hr H
 refine vx_skip<|fx_seq <|
  qA (Z [p 4 (B true)] [(3,K 42 y42 a1),(2,K 42 y42 a0)]) <|
  vx_ret<|hr H
def u241 (a0:Y106) (a1:Y106):Option (Bool) :=
 gd ((u25 a0.1 a1.1).isSome=true∧True) <|
 if (!vl (u25 a0.1 a1.1))=true then
  some false
 else
  gd ((u25 a0.2.1 a1.2.1).isSome=true∧True) <|
  if (!vl (u25 a0.2.1 a1.2.1))=true then
   some false
  else
   gd ((u25 a0.2.2 a1.2.2).isSome=true∧True) <|
   if (!vl (u25 a0.2.2 a1.2.2))=true then
    some false
   else
    some true
def k241:Ct:=lct 241 [.agg y106,.agg y106] (fun x=>u241 x.1 x.2.1) (fun r:Bool=>B r) (fun _=>())
theorem o241:Ok Tryz.prog k241:=by
 refine okL [.tmp 4] Tryz.func241 Tryz.ntmps241 Tryz.results241 ?_
 intro y ⟨a0,a1,_⟩ r H Q hn hr
 have:HT _ _:=⟨tc o25 tn⟩
 refine qA (Z [p 2 (R 2),p 3 (R 3)] [(3,K 106 y106 a1),(2,K 106 y106 a0)]) <|
  vx_seq <|
  qB (Z [p 2 (R 2),p 3 (R 3),p 10 (B !vl (u25 a0.1 a1.1))] [(3,K 106 y106 a1),(2,K 106 y106 a0)]) H fun H =>
  cD H (fun H=>?_) (fun H=>?_)
 ·refine qA (Z [p 4 (B false)] [(3,K 106 y106 a1),(2,K 106 y106 a0)]) <|
   vx_ret<|fx_seq_ret<|hr H
 refine vx_skip<|fx_seq<|vx_seq <|
  qB (Z [p 2 (R 2),p 3 (R 3),p 16 (B !vl (u25 a0.2.1 a1.2.1))] [(3,K 106 y106 a1),(2,K 106 y106 a0)]) H fun H =>
  cD H (fun H=>?_) (fun H=>?_)
 ·refine qA (Z [p 4 (B false)] [(3,K 106 y106 a1),(2,K 106 y106 a0)]) <|
   vx_ret<|fx_seq_ret<|hr H
 refine vx_skip<|fx_seq<|vx_seq <|
  qB (Z [p 22 (B !vl (u25 a0.2.2 a1.2.2))] [(3,K 106 y106 a1),(2,K 106 y106 a0)]) H fun H =>
  cD H (fun H=>?_) (fun H=>?_)
 ·refine qA (Z [p 4 (B false)] [(3,K 106 y106 a1),(2,K 106 y106 a0)]) <|
   vx_ret<|fx_seq_ret<|hr H
 refine vx_skip<|fx_seq <|
  qA (Z [p 4 (B true)] [(3,K 106 y106 a1),(2,K 106 y106 a0)]) <|
  vx_ret<|hr H
def u228J0:Unit→Option (Bool)
 | _ =>
 some true
def u228L1 (a0:List Y106) (a1:List Y106) (g1:Int→Option (Bool)):Int→Option (Bool)
 | v0 =>
 if (decide (v0 < (↑a0.length:Int)))=true then
  gd (ix v0 a0.length∧ix v0 a1.length∧(u241 (a0.getD v0.toNat (dflt y106)) (a1.getD v0.toNat (dflt y106))).isSome=true∧True) <|
  if (!vl (u241 (a0.getD v0.toNat (dflt y106)) (a1.getD v0.toNat (dflt y106))))=true then
   some false
  else
   gd (in64 (v0+1)∧True) <|
   g1 (v0+1)
 else
  u228J0 ()
def u228 (a0:List Y106) (a1:List Y106):Option (Bool) :=
 if ((↑a0.length:Int) != (↑a1.length:Int))=true then
  some false
 else
  lp (u228L1 a0 a1) 0
def k228:Ct:=lct 228 [.dat y106.sl,.dat y106.sl] (fun x=>u228 x.1 x.2.1) (fun r:Bool=>B r) (fun _=>())
theorem o228:Ok Tryz.prog k228:=by
 refine okL [.tmp 4] Tryz.func228 Tryz.ntmps228 Tryz.results228 ?_
 intro y ⟨a0,a1,_⟩ r H Q hn hr
 have:HT _ _:=⟨tc o241 tn⟩
 refine qA (Z [p 0 (L y106 a0),p 1 (L y106 a1)] []) <|
  vx_seq <|
  qA (Z [p 0 (L y106 a0),p 1 (L y106 a1),p 10 (B ((↑a0.length:Int) != (↑a1.length:Int)))] []) <|
  cD H (fun H=>?_) (fun H=>?_)
 ·refine qA (Z [p 4 (B false)] []) <|
   vx_ret<|fx_seq_ret<|hr H
 refine vx_skip<|fx_seq <|
  jN r (fun (_:Unit)=>Z [] []) (u228J0) (fun _ H=>?_) (fun _ n0 e0 t0=>?_)
 ·refine qA (Z [p 4 (B true)] []) <|
   vx_ret<|hr H
 refine qA (Z [p 0 (L y106 a0),p 1 (L y106 a1),p 5 (I 0)] []) <|
  vx_block <|
  lX (fun (v0:Int)=>Z [p 0 (L y106 a0),p 1 (L y106 a1),p 5 (I v0)] []) 0 H fun _ g1 b1 e1 t1 v0 H =>
  vx_seq <|
  qA (Z [p 0 (L y106 a0),p 1 (L y106 a1),p 5 (I v0),p 14 (B (decide (v0 < (↑a0.length:Int))))] []) <|
  cD H (fun H=>?_) (fun H=>?_)
 ·refine vx_skip<|fx_seq<|vx_seq<|vx_block <|
   qB (Z [p 0 (L y106 a0),p 1 (L y106 a1),p 5 (I v0),p 26 (B !vl (u241 (a0.getD v0.toNat (dflt y106)) (a1.getD v0.toNat (dflt y106))))] []) H fun H =>
   cD H (fun H=>?_) (fun H=>?_)
  ·refine qA (Z [p 4 (B false)] []) <|
    vx_ret<|fx_blk_ret<|fx_seq_ret<|t1<|fx_blk_ret<|t0<|hr H
  refine vx_skip<|fx_blk<|fx_seq <|
   zB (Z [p 0 (L y106 a0),p 1 (L y106 a1),p 5 (I (v0+1))] []) H fun H =>
   b1 H
 exact vx_exit<|fx_seq_exit<|e1<|fx_blk_exit rfl<|n0 H
def u211 (a0:Y102) (a1:Y102):Option (Bool) :=
 if (a0.1 != a1.1)=true then
  some false
 else
  if (a0.2.1 != a1.2.1)=true then
   some false
  else
   if (a0.2.2.1 != a1.2.2.1)=true then
    some false
   else
    if (a0.2.2.2.1 != a1.2.2.2.1)=true then
     some false
    else
     gd ((u228 a0.2.2.2.2.1 a1.2.2.2.2.1).isSome=true∧True) <|
     if (!vl (u228 a0.2.2.2.2.1 a1.2.2.2.2.1))=true then
      some false
     else
      gd ((u228 a0.2.2.2.2.2 a1.2.2.2.2.2).isSome=true∧True) <|
      if (!vl (u228 a0.2.2.2.2.2 a1.2.2.2.2.2))=true then
       some false
      else
       some true
def k211:Ct:=lct 211 [.agg y102,.agg y102] (fun x=>u211 x.1 x.2.1) (fun r:Bool=>B r) (fun _=>())
theorem o211:Ok Tryz.prog k211:=by
 refine okL [.tmp 4] Tryz.func211 Tryz.ntmps211 Tryz.results211 ?_
 intro y ⟨a0,a1,_⟩ r H Q hn hr
 have:HT _ _:=⟨tc o228 tn⟩
 refine qA (Z [p 2 (R 2),p 3 (R 3)] [(3,K 102 y102 a1),(2,K 102 y102 a0)]) <|
  vx_seq <|
  qA (Z [p 2 (R 2),p 3 (R 3),p 9 (B (a0.1 != a1.1))] [(3,K 102 y102 a1),(2,K 102 y102 a0)]) <|
  cD H (fun H=>?_) (fun H=>?_)
 ·refine qA (Z [p 4 (B false)] [(3,K 102 y102 a1),(2,K 102 y102 a0)]) <|
   vx_ret<|fx_seq_ret<|hr H
 refine vx_skip<|fx_seq<|vx_seq <|
  qA (Z [p 2 (R 2),p 3 (R 3),p 14 (B (a0.2.1 != a1.2.1))] [(3,K 102 y102 a1),(2,K 102 y102 a0)]) <|
  cD H (fun H=>?_) (fun H=>?_)
 ·refine qA (Z [p 4 (B false)] [(3,K 102 y102 a1),(2,K 102 y102 a0)]) <|
   vx_ret<|fx_seq_ret<|hr H
 refine vx_skip<|fx_seq<|vx_seq <|
  qA (Z [p 2 (R 2),p 3 (R 3),p 19 (B (a0.2.2.1 != a1.2.2.1))] [(3,K 102 y102 a1),(2,K 102 y102 a0)]) <|
  cD H (fun H=>?_) (fun H=>?_)
 ·refine qA (Z [p 4 (B false)] [(3,K 102 y102 a1),(2,K 102 y102 a0)]) <|
   vx_ret<|fx_seq_ret<|hr H
 refine vx_skip<|fx_seq<|vx_seq <|
  qA (Z [p 2 (R 2),p 3 (R 3),p 24 (B (a0.2.2.2.1 != a1.2.2.2.1))] [(3,K 102 y102 a1),(2,K 102 y102 a0)]) <|
  cD H (fun H=>?_) (fun H=>?_)
 ·refine qA (Z [p 4 (B false)] [(3,K 102 y102 a1),(2,K 102 y102 a0)]) <|
   vx_ret<|fx_seq_ret<|hr H
 refine vx_skip<|fx_seq<|vx_seq <|
  qB (Z [p 2 (R 2),p 3 (R 3),p 30 (B !vl (u228 a0.2.2.2.2.1 a1.2.2.2.2.1))] [(3,K 102 y102 a1),(2,K 102 y102 a0)]) H fun H =>
  cD H (fun H=>?_) (fun H=>?_)
 ·refine qA (Z [p 4 (B false)] [(3,K 102 y102 a1),(2,K 102 y102 a0)]) <|
   vx_ret<|fx_seq_ret<|hr H
 refine vx_skip<|fx_seq<|vx_seq <|
  qB (Z [p 36 (B !vl (u228 a0.2.2.2.2.2 a1.2.2.2.2.2))] [(3,K 102 y102 a1),(2,K 102 y102 a0)]) H fun H =>
  cD H (fun H=>?_) (fun H=>?_)
 ·refine qA (Z [p 4 (B false)] [(3,K 102 y102 a1),(2,K 102 y102 a0)]) <|
   vx_ret<|fx_seq_ret<|hr H
 refine vx_skip<|fx_seq <|
  qA (Z [p 4 (B true)] [(3,K 102 y102 a1),(2,K 102 y102 a0)]) <|
  vx_ret<|hr H
def u185J0:Unit→Option (Bool)
 | _ =>
 some true
def u185L1 (a0:List Y102) (a1:List Y102) (g1:Int→Option (Bool)):Int→Option (Bool)
 | v0 =>
 if (decide (v0 < (↑a0.length:Int)))=true then
  gd (ix v0 a0.length∧ix v0 a1.length∧(u211 (a0.getD v0.toNat (dflt y102)) (a1.getD v0.toNat (dflt y102))).isSome=true∧True) <|
  if (!vl (u211 (a0.getD v0.toNat (dflt y102)) (a1.getD v0.toNat (dflt y102))))=true then
   some false
  else
   gd (in64 (v0+1)∧True) <|
   g1 (v0+1)
 else
  u185J0 ()
def u185 (a0:List Y102) (a1:List Y102):Option (Bool) :=
 if ((↑a0.length:Int) != (↑a1.length:Int))=true then
  some false
 else
  lp (u185L1 a0 a1) 0
def k185:Ct:=lct 185 [.dat y102.sl,.dat y102.sl] (fun x=>u185 x.1 x.2.1) (fun r:Bool=>B r) (fun _=>())
theorem o185:Ok Tryz.prog k185:=by
 refine okL [.tmp 4] Tryz.func185 Tryz.ntmps185 Tryz.results185 ?_
 intro y ⟨a0,a1,_⟩ r H Q hn hr
 have:HT _ _:=⟨tc o211 tn⟩
 refine qA (Z [p 0 (L y102 a0),p 1 (L y102 a1)] []) <|
  vx_seq <|
  qA (Z [p 0 (L y102 a0),p 1 (L y102 a1),p 10 (B ((↑a0.length:Int) != (↑a1.length:Int)))] []) <|
  cD H (fun H=>?_) (fun H=>?_)
 ·refine qA (Z [p 4 (B false)] []) <|
   vx_ret<|fx_seq_ret<|hr H
 refine vx_skip<|fx_seq <|
  jN r (fun (_:Unit)=>Z [] []) (u185J0) (fun _ H=>?_) (fun _ n0 e0 t0=>?_)
 ·refine qA (Z [p 4 (B true)] []) <|
   vx_ret<|hr H
 refine qA (Z [p 0 (L y102 a0),p 1 (L y102 a1),p 5 (I 0)] []) <|
  vx_block <|
  lX (fun (v0:Int)=>Z [p 0 (L y102 a0),p 1 (L y102 a1),p 5 (I v0)] []) 0 H fun _ g1 b1 e1 t1 v0 H =>
  vx_seq <|
  qA (Z [p 0 (L y102 a0),p 1 (L y102 a1),p 5 (I v0),p 14 (B (decide (v0 < (↑a0.length:Int))))] []) <|
  cD H (fun H=>?_) (fun H=>?_)
 ·refine vx_skip<|fx_seq<|vx_seq<|vx_block <|
   qB (Z [p 0 (L y102 a0),p 1 (L y102 a1),p 5 (I v0),p 26 (B !vl (u211 (a0.getD v0.toNat (dflt y102)) (a1.getD v0.toNat (dflt y102))))] []) H fun H =>
   cD H (fun H=>?_) (fun H=>?_)
  ·refine qA (Z [p 4 (B false)] []) <|
    vx_ret<|fx_blk_ret<|fx_seq_ret<|t1<|fx_blk_ret<|t0<|hr H
  refine vx_skip<|fx_blk<|fx_seq <|
   zB (Z [p 0 (L y102 a0),p 1 (L y102 a1),p 5 (I (v0+1))] []) H fun H =>
   b1 H
 exact vx_exit<|fx_seq_exit<|e1<|fx_blk_exit rfl<|n0 H
def u210 (a0:Y241) (a1:Y241):Option (Bool) :=
 if (!decide (a0.1=a1.1))=true then
  some false
 else
  if (a0.2.1 != a1.2.1)=true then
   some false
  else
   if (a0.2.2.1 != a1.2.2.1)=true then
    some false
   else
    if (!a0.2.2.2==a1.2.2.2)=true then
     some false
    else
     some true
def k210:Ct:=lct 210 [.agg y241,.agg y241] (fun x=>u210 x.1 x.2.1) (fun r:Bool=>B r) (fun _=>())
theorem o210:Ok Tryz.prog k210:=by
 refine okL [.tmp 4] Tryz.func210 Tryz.ntmps210 Tryz.results210 ?_
 intro y ⟨a0,a1,_⟩ r H Q hn hr
 have:HT _ _:=⟨@tn Tryz.prog⟩
 refine qA (Z [p 2 (R 2),p 3 (R 3)] [(3,K 241 y241 a1),(2,K 241 y241 a0)]) <|
  vx_seq <|
  qA (Z [p 2 (R 2),p 3 (R 3),p 9 (B !decide (a0.1=a1.1))] [(3,K 241 y241 a1),(2,K 241 y241 a0)]) <|
  cD H (fun H=>?_) (fun H=>?_)
 ·refine qA (Z [p 4 (B false)] [(3,K 241 y241 a1),(2,K 241 y241 a0)]) <|
   vx_ret<|fx_seq_ret<|hr H
 refine vx_skip<|fx_seq<|vx_seq <|
  qA (Z [p 2 (R 2),p 3 (R 3),p 14 (B (a0.2.1 != a1.2.1))] [(3,K 241 y241 a1),(2,K 241 y241 a0)]) <|
  cD H (fun H=>?_) (fun H=>?_)
 ·refine qA (Z [p 4 (B false)] [(3,K 241 y241 a1),(2,K 241 y241 a0)]) <|
   vx_ret<|fx_seq_ret<|hr H
 refine vx_skip<|fx_seq<|vx_seq <|
  qA (Z [p 2 (R 2),p 3 (R 3),p 19 (B (a0.2.2.1 != a1.2.2.1))] [(3,K 241 y241 a1),(2,K 241 y241 a0)]) <|
  cD H (fun H=>?_) (fun H=>?_)
 ·refine qA (Z [p 4 (B false)] [(3,K 241 y241 a1),(2,K 241 y241 a0)]) <|
   vx_ret<|fx_seq_ret<|hr H
 refine vx_skip<|fx_seq<|vx_seq <|
  qA (Z [p 24 (B !a0.2.2.2==a1.2.2.2)] [(3,K 241 y241 a1),(2,K 241 y241 a0)]) <|
  cD H (fun H=>?_) (fun H=>?_)
 ·refine qA (Z [p 4 (B false)] [(3,K 241 y241 a1),(2,K 241 y241 a0)]) <|
   vx_ret<|fx_seq_ret<|hr H
 refine vx_skip<|fx_seq <|
  qA (Z [p 4 (B true)] [(3,K 241 y241 a1),(2,K 241 y241 a0)]) <|
  vx_ret<|hr H
def u184J0:Unit→Option (Bool)
 | _ =>
 some true
def u184L1 (a0:List Y241) (a1:List Y241) (g1:Int→Option (Bool)):Int→Option (Bool)
 | v0 =>
 if (decide (v0 < (↑a0.length:Int)))=true then
  gd (ix v0 a0.length∧ix v0 a1.length∧(u210 (a0.getD v0.toNat (dflt y241)) (a1.getD v0.toNat (dflt y241))).isSome=true∧True) <|
  if (!vl (u210 (a0.getD v0.toNat (dflt y241)) (a1.getD v0.toNat (dflt y241))))=true then
   some false
  else
   gd (in64 (v0+1)∧True) <|
   g1 (v0+1)
 else
  u184J0 ()
def u184 (a0:List Y241) (a1:List Y241):Option (Bool) :=
 if ((↑a0.length:Int) != (↑a1.length:Int))=true then
  some false
 else
  lp (u184L1 a0 a1) 0
def k184:Ct:=lct 184 [.dat y241.sl,.dat y241.sl] (fun x=>u184 x.1 x.2.1) (fun r:Bool=>B r) (fun _=>())
theorem o184:Ok Tryz.prog k184:=by
 refine okL [.tmp 4] Tryz.func184 Tryz.ntmps184 Tryz.results184 ?_
 intro y ⟨a0,a1,_⟩ r H Q hn hr
 have:HT _ _:=⟨tc o210 tn⟩
 refine qA (Z [p 0 (L y241 a0),p 1 (L y241 a1)] []) <|
  vx_seq <|
  qA (Z [p 0 (L y241 a0),p 1 (L y241 a1),p 10 (B ((↑a0.length:Int) != (↑a1.length:Int)))] []) <|
  cD H (fun H=>?_) (fun H=>?_)
 ·refine qA (Z [p 4 (B false)] []) <|
   vx_ret<|fx_seq_ret<|hr H
 refine vx_skip<|fx_seq <|
  jN r (fun (_:Unit)=>Z [] []) (u184J0) (fun _ H=>?_) (fun _ n0 e0 t0=>?_)
 ·refine qA (Z [p 4 (B true)] []) <|
   vx_ret<|hr H
 refine qA (Z [p 0 (L y241 a0),p 1 (L y241 a1),p 5 (I 0)] []) <|
  vx_block <|
  lX (fun (v0:Int)=>Z [p 0 (L y241 a0),p 1 (L y241 a1),p 5 (I v0)] []) 0 H fun _ g1 b1 e1 t1 v0 H =>
  vx_seq <|
  qA (Z [p 0 (L y241 a0),p 1 (L y241 a1),p 5 (I v0),p 14 (B (decide (v0 < (↑a0.length:Int))))] []) <|
  cD H (fun H=>?_) (fun H=>?_)
 ·refine vx_skip<|fx_seq<|vx_seq<|vx_block <|
   qB (Z [p 0 (L y241 a0),p 1 (L y241 a1),p 5 (I v0),p 26 (B !vl (u210 (a0.getD v0.toNat (dflt y241)) (a1.getD v0.toNat (dflt y241))))] []) H fun H =>
   cD H (fun H=>?_) (fun H=>?_)
  ·refine qA (Z [p 4 (B false)] []) <|
    vx_ret<|fx_blk_ret<|fx_seq_ret<|t1<|fx_blk_ret<|t0<|hr H
  refine vx_skip<|fx_blk<|fx_seq <|
   zB (Z [p 0 (L y241 a0),p 1 (L y241 a1),p 5 (I (v0+1))] []) H fun H =>
   b1 H
 exact vx_exit<|fx_seq_exit<|e1<|fx_blk_exit rfl<|n0 H
def u155 (a0:Y145) (a1:Y145):Option (Bool) :=
 if (!decide (a0.1=a1.1))=true then
  some false
 else
  if (a0.2.1 != a1.2.1)=true then
   some false
  else
   gd ((u184 a0.2.2.1 a1.2.2.1).isSome=true∧True) <|
   if (!vl (u184 a0.2.2.1 a1.2.2.1))=true then
    some false
   else
    gd ((u185 a0.2.2.2.1 a1.2.2.2.1).isSome=true∧True) <|
    if (!vl (u185 a0.2.2.2.1 a1.2.2.2.1))=true then
     some false
    else
     gd ((u25 a0.2.2.2.2.1 a1.2.2.2.2.1).isSome=true∧True) <|
     if (!vl (u25 a0.2.2.2.2.1 a1.2.2.2.2.1))=true then
      some false
     else
      if (a0.2.2.2.2.2.1 != a1.2.2.2.2.2.1)=true then
       some false
      else
       if (a0.2.2.2.2.2.2 != a1.2.2.2.2.2.2)=true then
        some false
       else
        some true
def k155:Ct:=lct 155 [.agg y145,.agg y145] (fun x=>u155 x.1 x.2.1) (fun r:Bool=>B r) (fun _=>())
theorem o155:Ok Tryz.prog k155:=by
 refine okL [.tmp 4] Tryz.func155 Tryz.ntmps155 Tryz.results155 ?_
 intro y ⟨a0,a1,_⟩ r H Q hn hr
 have:HT _ _:=⟨tc o25 (tc o185 (tc o184 tn))⟩
 refine qA (Z [p 2 (R 2),p 3 (R 3)] [(3,K 145 y145 a1),(2,K 145 y145 a0)]) <|
  vx_seq <|
  qA (Z [p 2 (R 2),p 3 (R 3),p 9 (B !decide (a0.1=a1.1))] [(3,K 145 y145 a1),(2,K 145 y145 a0)]) <|
  cD H (fun H=>?_) (fun H=>?_)
 ·refine qA (Z [p 4 (B false)] [(3,K 145 y145 a1),(2,K 145 y145 a0)]) <|
   vx_ret<|fx_seq_ret<|hr H
 refine vx_skip<|fx_seq<|vx_seq <|
  qA (Z [p 2 (R 2),p 3 (R 3),p 14 (B (a0.2.1 != a1.2.1))] [(3,K 145 y145 a1),(2,K 145 y145 a0)]) <|
  cD H (fun H=>?_) (fun H=>?_)
 ·refine qA (Z [p 4 (B false)] [(3,K 145 y145 a1),(2,K 145 y145 a0)]) <|
   vx_ret<|fx_seq_ret<|hr H
 refine vx_skip<|fx_seq<|vx_seq <|
  qB (Z [p 2 (R 2),p 3 (R 3),p 20 (B !vl (u184 a0.2.2.1 a1.2.2.1))] [(3,K 145 y145 a1),(2,K 145 y145 a0)]) H fun H =>
  cD H (fun H=>?_) (fun H=>?_)
 ·refine qA (Z [p 4 (B false)] [(3,K 145 y145 a1),(2,K 145 y145 a0)]) <|
   vx_ret<|fx_seq_ret<|hr H
 refine vx_skip<|fx_seq<|vx_seq <|
  qB (Z [p 2 (R 2),p 3 (R 3),p 26 (B !vl (u185 a0.2.2.2.1 a1.2.2.2.1))] [(3,K 145 y145 a1),(2,K 145 y145 a0)]) H fun H =>
  cD H (fun H=>?_) (fun H=>?_)
 ·refine qA (Z [p 4 (B false)] [(3,K 145 y145 a1),(2,K 145 y145 a0)]) <|
   vx_ret<|fx_seq_ret<|hr H
 refine vx_skip<|fx_seq<|vx_seq <|
  qB (Z [p 2 (R 2),p 3 (R 3),p 32 (B !vl (u25 a0.2.2.2.2.1 a1.2.2.2.2.1))] [(3,K 145 y145 a1),(2,K 145 y145 a0)]) H fun H =>
  cD H (fun H=>?_) (fun H=>?_)
 ·refine qA (Z [p 4 (B false)] [(3,K 145 y145 a1),(2,K 145 y145 a0)]) <|
   vx_ret<|fx_seq_ret<|hr H
 refine vx_skip<|fx_seq<|vx_seq <|
  qA (Z [p 2 (R 2),p 3 (R 3),p 37 (B (a0.2.2.2.2.2.1 != a1.2.2.2.2.2.1))] [(3,K 145 y145 a1),(2,K 145 y145 a0)]) <|
  cD H (fun H=>?_) (fun H=>?_)
 ·refine qA (Z [p 4 (B false)] [(3,K 145 y145 a1),(2,K 145 y145 a0)]) <|
   vx_ret<|fx_seq_ret<|hr H
 refine vx_skip<|fx_seq<|vx_seq <|
  qA (Z [p 42 (B (a0.2.2.2.2.2.2 != a1.2.2.2.2.2.2))] [(3,K 145 y145 a1),(2,K 145 y145 a0)]) <|
  cD H (fun H=>?_) (fun H=>?_)
 ·refine qA (Z [p 4 (B false)] [(3,K 145 y145 a1),(2,K 145 y145 a0)]) <|
   vx_ret<|fx_seq_ret<|hr H
 refine vx_skip<|fx_seq <|
  qA (Z [p 4 (B true)] [(3,K 145 y145 a1),(2,K 145 y145 a0)]) <|
  vx_ret<|hr H
def u103J0:Unit→Option (Bool)
 | _ =>
 some true
def u103L1 (a0:List Y145) (a1:List Y145) (g1:Int→Option (Bool)):Int→Option (Bool)
 | v0 =>
 if (decide (v0 < (↑a0.length:Int)))=true then
  gd (ix v0 a0.length∧ix v0 a1.length∧(u155 (a0.getD v0.toNat (dflt y145)) (a1.getD v0.toNat (dflt y145))).isSome=true∧True) <|
  if (!vl (u155 (a0.getD v0.toNat (dflt y145)) (a1.getD v0.toNat (dflt y145))))=true then
   some false
  else
   gd (in64 (v0+1)∧True) <|
   g1 (v0+1)
 else
  u103J0 ()
def u103 (a0:List Y145) (a1:List Y145):Option (Bool) :=
 if ((↑a0.length:Int) != (↑a1.length:Int))=true then
  some false
 else
  lp (u103L1 a0 a1) 0
def k103:Ct:=lct 103 [.dat y145.sl,.dat y145.sl] (fun x=>u103 x.1 x.2.1) (fun r:Bool=>B r) (fun _=>())
theorem o103:Ok Tryz.prog k103:=by
 refine okL [.tmp 4] Tryz.func103 Tryz.ntmps103 Tryz.results103 ?_
 intro y ⟨a0,a1,_⟩ r H Q hn hr
 have:HT _ _:=⟨tc o155 tn⟩
 refine qA (Z [p 0 (L y145 a0),p 1 (L y145 a1)] []) <|
  vx_seq <|
  qA (Z [p 0 (L y145 a0),p 1 (L y145 a1),p 10 (B ((↑a0.length:Int) != (↑a1.length:Int)))] []) <|
  cD H (fun H=>?_) (fun H=>?_)
 ·refine qA (Z [p 4 (B false)] []) <|
   vx_ret<|fx_seq_ret<|hr H
 refine vx_skip<|fx_seq <|
  jN r (fun (_:Unit)=>Z [] []) (u103J0) (fun _ H=>?_) (fun _ n0 e0 t0=>?_)
 ·refine qA (Z [p 4 (B true)] []) <|
   vx_ret<|hr H
 refine qA (Z [p 0 (L y145 a0),p 1 (L y145 a1),p 5 (I 0)] []) <|
  vx_block <|
  lX (fun (v0:Int)=>Z [p 0 (L y145 a0),p 1 (L y145 a1),p 5 (I v0)] []) 0 H fun _ g1 b1 e1 t1 v0 H =>
  vx_seq <|
  qA (Z [p 0 (L y145 a0),p 1 (L y145 a1),p 5 (I v0),p 14 (B (decide (v0 < (↑a0.length:Int))))] []) <|
  cD H (fun H=>?_) (fun H=>?_)
 ·refine vx_skip<|fx_seq<|vx_seq<|vx_block <|
   qB (Z [p 0 (L y145 a0),p 1 (L y145 a1),p 5 (I v0),p 26 (B !vl (u155 (a0.getD v0.toNat (dflt y145)) (a1.getD v0.toNat (dflt y145))))] []) H fun H =>
   cD H (fun H=>?_) (fun H=>?_)
  ·refine qA (Z [p 4 (B false)] []) <|
    vx_ret<|fx_blk_ret<|fx_seq_ret<|t1<|fx_blk_ret<|t0<|hr H
  refine vx_skip<|fx_blk<|fx_seq <|
   zB (Z [p 0 (L y145 a0),p 1 (L y145 a1),p 5 (I (v0+1))] []) H fun H =>
   b1 H
 exact vx_exit<|fx_seq_exit<|e1<|fx_blk_exit rfl<|n0 H
def u49 (a0:List Y145) (a1:List Y145):Option (Bool) :=
 gd ((u103 a0 a1).isSome=true∧True) <|
 if (!vl (u103 a0 a1))=true then
  some false
 else
  some true
def k49:Ct:=lct 49 [.agg y145.sl,.agg y145.sl] (fun x=>u49 x.1 x.2.1) (fun r:Bool=>B r) (fun _=>())
theorem o49:Ok Tryz.prog k49:=by
 refine okL [.tmp 4] Tryz.func49 Tryz.ntmps49 Tryz.results49 ?_
 intro y ⟨a0,a1,_⟩ r H Q hn hr
 have:HT _ _:=⟨tc o103 tn⟩
 refine qA (Z [p 2 (R 2),p 3 (R 3)] [(3,Ob.box 38 [L y145 a1]),(2,Ob.box 38 [L y145 a0])]) <|
  vx_seq <|
  qB (Z [p 10 (B !vl (u103 a0 a1))] [(3,Ob.box 38 [L y145 a1]),(2,Ob.box 38 [L y145 a0])]) H fun H =>
  cD H (fun H=>?_) (fun H=>?_)
 ·refine qA (Z [p 4 (B false)] [(3,Ob.box 38 [L y145 a1]),(2,Ob.box 38 [L y145 a0])]) <|
   vx_ret<|fx_seq_ret<|hr H
 refine vx_skip<|fx_seq <|
  qA (Z [p 4 (B true)] [(3,Ob.box 38 [L y145 a1]),(2,Ob.box 38 [L y145 a0])]) <|
  vx_ret<|hr H
def u14 (a0:Y45) (a1:Y45):Option (Bool) :=
 gd ((u49 a0.1 a1.1).isSome=true∧True) <|
 if (!vl (u49 a0.1 a1.1))=true then
  some false
 else
  gd ((u50 a0.2.1 a1.2.1).isSome=true∧True) <|
  if (!vl (u50 a0.2.1 a1.2.1))=true then
   some false
  else
   gd ((u51 a0.2.2 a1.2.2).isSome=true∧True) <|
   if (!vl (u51 a0.2.2 a1.2.2))=true then
    some false
   else
    some true
def k14:Ct:=lct 14 [.agg y45,.agg y45] (fun x=>u14 x.1 x.2.1) (fun r:Bool=>B r) (fun _=>())
theorem o14:Ok Tryz.prog k14:=by
 refine okL [.tmp 4] Tryz.func14 Tryz.ntmps14 Tryz.results14 ?_
 intro y ⟨a0,a1,_⟩ r H Q hn hr
 have:HT _ _:=⟨tc o51 (tc o50 (tc o49 tn))⟩
 refine qA (Z [p 2 (R 2),p 3 (R 3)] [(3,K 45 y45 a1),(2,K 45 y45 a0)]) <|
  vx_seq <|
  qB (Z [p 2 (R 2),p 3 (R 3),p 10 (B !vl (u49 a0.1 a1.1))] [(3,K 45 y45 a1),(2,K 45 y45 a0)]) H fun H =>
  cD H (fun H=>?_) (fun H=>?_)
 ·refine qA (Z [p 4 (B false)] [(3,K 45 y45 a1),(2,K 45 y45 a0)]) <|
   vx_ret<|fx_seq_ret<|hr H
 refine vx_skip<|fx_seq<|vx_seq <|
  qB (Z [p 2 (R 2),p 3 (R 3),p 16 (B !vl (u50 a0.2.1 a1.2.1))] [(3,K 45 y45 a1),(2,K 45 y45 a0)]) H fun H =>
  cD H (fun H=>?_) (fun H=>?_)
 ·refine qA (Z [p 4 (B false)] [(3,K 45 y45 a1),(2,K 45 y45 a0)]) <|
   vx_ret<|fx_seq_ret<|hr H
 refine vx_skip<|fx_seq<|vx_seq <|
  qB (Z [p 22 (B !vl (u51 a0.2.2 a1.2.2))] [(3,K 45 y45 a1),(2,K 45 y45 a0)]) H fun H =>
  cD H (fun H=>?_) (fun H=>?_)
 ·refine qA (Z [p 4 (B false)] [(3,K 45 y45 a1),(2,K 45 y45 a0)]) <|
   vx_ret<|fx_seq_ret<|hr H
 refine vx_skip<|fx_seq <|
  qA (Z [p 4 (B true)] [(3,K 45 y45 a1),(2,K 45 y45 a0)]) <|
  vx_ret<|hr H
def u23J0:List Int→Option (List Int)
 | v3 =>
 some v3
def u23L1 (a0:List Int) (g1:Int×List Int→Option (List Int)):Int×List Int→Option (List Int)
 | (v1,v2) =>
 if (decide (v1 < (↑a0.length:Int)))=true then
  gd (ix v1 a0.length∧ix v1 v2.length∧v1.toNat < v2.length∧True) <|
  gd (in64 (v1+1)∧True) <|
  g1 ((v1+1,v2.set v1.toNat (a0.getD v1.toNat 0)))
 else
  u23J0 v2
def u23 (a0:List Int):Option (List Int) :=
 gd ((0≤(↑a0.length:Int)∧(↑a0.length:Int)=(↑a0.length:Int)∧(↑a0.length:Int).toNat*8≤281474976710656∧(↑a0.length:Int)≤9223372036854775807)∧True) <|
 lp (u23L1 a0) ((0,List.replicate (↑a0.length:Int).toNat 0))
def k23:Ct:=lct 23 [.dat i64.sl] (fun x=>u23 x.1) (fun r:List Int=>AV.ow 2 true i64 r) (fun _=>())
theorem o23:Ok Tryz.prog k23:=by
 refine okL [.tmp 2] Tryz.func23 Tryz.ntmps23 Tryz.results23 ?_
 intro y ⟨a0,_⟩ r H Q hn hr
 have:HT _ _:=⟨@tn Tryz.prog⟩
 refine qA (Z [p 0 (L i64 a0)] []) <|
  qB (Z [p 0 (L i64 a0),p 3 (O 7)] [(7,A 2 i64 (List.replicate (↑a0.length:Int).toNat 0) 0)]) H fun H =>
  jN r (fun (v3:List Int)=>Z [p 3 (O 7)] [(7,A 2 i64 v3 0)]) (u23J0) (fun v3 H=>?_) (fun _ n0 e0 t0=>?_)
 ·refine qA (Z [p 2 (O 7)] [(7,A 2 i64 v3 0)]) <|
   vx_ret<|hr H
 refine qA (Z [p 0 (L i64 a0),p 3 (O 7),p 4 (I 0)] [(7,A 2 i64 (List.replicate (↑a0.length:Int).toNat 0) 0)]) <|
  vx_block <|
  lX (fun ((v1,v2):Int×List Int)=>Z [p 0 (L i64 a0),p 3 (O 7),p 4 (I v1)] [(7,A 2 i64 v2 0)]) ((0,List.replicate (↑a0.length:Int).toNat 0)) H fun _ g1 b1 e1 t1 ⟨v1,v2⟩ H =>
  vx_seq <|
  qA (Z [p 0 (L i64 a0),p 3 (O 7),p 4 (I v1),p 11 (B (decide (v1 < (↑a0.length:Int))))] [(7,A 2 i64 v2 0)]) <|
  cD H (fun H=>?_) (fun H=>?_)
 ·refine vx_skip<|fx_seq<|vx_seq<|vx_block <|
   zB (Z [p 0 (L i64 a0),p 3 (O 7),p 4 (I v1)] [(7,A 2 i64 (v2.set v1.toNat (a0.getD v1.toNat 0)) 0)]) H fun H =>
   fx_blk<|fx_seq <|
   zB (Z [p 0 (L i64 a0),p 3 (O 7),p 4 (I (v1+1))] [(7,A 2 i64 (v2.set v1.toNat (a0.getD v1.toNat 0)) 0)]) H fun H =>
   b1 H
 exact vx_exit<|fx_seq_exit<|e1<|fx_blk_exit rfl<|n0 H
def u90 (a0:Y134):Option (Y137) :=
 gd ((u23 a0.1).isSome=true∧True)<|lt (vl (u23 a0.1)) fun v0 =>
 gd ((u23 a0.2.1).isSome=true∧True)<|lt (vl (u23 a0.2.1)) fun v1 =>
 gd ((u23 a0.2.2.1).isSome=true∧True)<|lt (vl (u23 a0.2.2.1)) fun v2 =>
 gd ((u23 a0.2.2.2).isSome=true∧True)<|lt (vl (u23 a0.2.2.2)) fun v3 =>
 some (v0,v1,v2,v3)
def k90:Ct:=lct 90 [.agg y134] (fun x=>u90 x.1) (fun r:Y137=>AV.agg [AV.ow 2 true i64 r.1,AV.ow 2 true i64 r.2.1,AV.ow 2 true i64 r.2.2.1,AV.ow 2 true i64 r.2.2.2]) (fun _=>())
theorem o90:Ok Tryz.prog k90:=by
 refine okL [.cell 2 137] Tryz.func90 Tryz.ntmps90 Tryz.results90 ?_
 intro y ⟨a0,_⟩ r H Q hn hr
 have:HT _ _:=⟨tc o23 tn⟩
 refine qA (Z [p 1 (R 1),p 2 (R 2)] [(2,Ob.box 137 [nil,nil,nil,nil]),(1,K 134 y134 a0)]) <|
  qA (Z [p 1 (R 1),p 2 (R 2),p 3 (R 3)] [(3,Ob.box 137 [nil,nil,nil,nil]),(2,Ob.box 137 [nil,nil,nil,nil]),(1,K 134 y134 a0)]) <|
  qD (fun v0=>Z [p 1 (R 1),p 2 (R 2),p 3 (R 3)] [(3,Ob.box 137 [AV.os 6 0,nil,nil,nil]),(6,A 2 i64 v0 0),(2,Ob.box 137 [nil,nil,nil,nil]),(1,K 134 y134 a0)]) H fun v0 H =>
  qD (fun v1=>Z [p 1 (R 1),p 2 (R 2),p 3 (R 3)] [(3,Ob.box 137 [AV.os 6 0,AV.os 10 0,nil,nil]),(10,A 2 i64 v1 0),(6,A 2 i64 v0 0),(2,Ob.box 137 [nil,nil,nil,nil]),(1,K 134 y134 a0)]) H fun v1 H =>
  qD (fun v2=>Z [p 1 (R 1),p 2 (R 2),p 3 (R 3)] [(3,Ob.box 137 [AV.os 6 0,AV.os 10 0,AV.os 14 0,nil]),(14,A 2 i64 v2 0),(10,A 2 i64 v1 0),(6,A 2 i64 v0 0),(2,Ob.box 137 [nil,nil,nil,nil]),(1,K 134 y134 a0)]) H fun v2 H =>
  qD (fun v3=>Z [p 2 (R 2),p 3 (R 3)] [(3,Ob.box 137 [AV.os 6 0,AV.os 10 0,AV.os 14 0,AV.os 18 0]),(18,A 2 i64 v3 0),(14,A 2 i64 v2 0),(10,A 2 i64 v1 0),(6,A 2 i64 v0 0),(2,Ob.box 137 [nil,nil,nil,nil]),(1,K 134 y134 a0)]) H fun v3 H =>
  qA (Z [p 2 (R 2)] [(2,Ob.box 137 [AV.os 6 0,AV.os 10 0,AV.os 14 0,AV.os 18 0]),(3,Ob.box 137 [AV.os 6 0,AV.os 10 0,AV.os 14 0,AV.os 18 0]),(18,A 2 i64 v3 0),(14,A 2 i64 v2 0),(10,A 2 i64 v1 0),(6,A 2 i64 v0 0),(1,K 134 y134 a0)]) <|
  vx_ret<|hr H
def k90d:Ct:=lct 90 [.agg y134] (fun x=>u90 x.1) (fun r=>frz ((fun r:Y137=>AV.agg [AV.ow 2 true i64 r.1,AV.ow 2 true i64 r.2.1,AV.ow 2 true i64 r.2.2.1,AV.ow 2 true i64 r.2.2.2]) r)) (fun _=>())
theorem o90d:Ok Tryz.prog k90d:=ok_frz o90
def u42J0:List Y137→Option (List Y137)
 | v5 =>
 some v5
def u42L1 (a0:List Y134) (g1:Int×List Y137→Option (List Y137)):Int×List Y137→Option (List Y137)
 | (v2,v3) =>
 if (decide (v2 < (↑a0.length:Int)))=true then
  gd (ix v2 a0.length∧(u90 (a0.getD v2.toNat (dflt y134))).isSome=true∧ix v2 v3.length∧v2.toNat < v3.length∧True)<|lt (vl (u90 (a0.getD v2.toNat (dflt y134)))) fun v4 =>
  gd (in64 (v2+1)∧True) <|
  g1 (v2+1,v3.set v2.toNat v4)
 else
  u42J0 v3
def u42 (a0:List Y134):Option (List Y137) :=
 gd ((0≤(↑a0.length:Int)∧(↑a0.length:Int)=(↑a0.length:Int)∧(↑a0.length:Int).toNat*96≤281474976710656∧(↑a0.length:Int)≤9223372036854775807)∧True) <|
 lp (u42L1 a0) ((0,List.replicate (↑a0.length:Int).toNat ([],[],[],[])))
def k42:Ct:=lct 42 [.dat y134.sl] (fun x=>u42 x.1) (fun r:List Y137=>AV.ow 137 true y137 r) (fun _=>())
theorem o42:Ok Tryz.prog k42:=by
 refine okL [.tmp 2] Tryz.func42 Tryz.ntmps42 Tryz.results42 ?_
 intro y ⟨a0,_⟩ r H Q hn hr
 have:HT _ _:=⟨tc o90d tn⟩
 refine qA (Z [p 0 (L y134 a0)] []) <|
  qB (Z [p 0 (L y134 a0),p 3 (O 7)] [(7,A 137 y137 (List.replicate (↑a0.length:Int).toNat ([],[],[],[])) 0)]) H fun H =>
  jN r (fun (v5:List Y137)=>Z [p 3 (O 7)] [(7,A 137 y137 v5 0)]) (u42J0) (fun v5 H=>?_) (fun _ n0 e0 t0=>?_)
 ·refine qA (Z [p 2 (O 7)] [(7,A 137 y137 v5 0)]) <|
   vx_ret<|hr H
 refine qA (Z [p 0 (L y134 a0),p 3 (O 7),p 4 (I 0)] [(7,A 137 y137 (List.replicate (↑a0.length:Int).toNat ([],[],[],[])) 0)]) <|
  vx_block <|
  lX (fun ((v2,v3):Int×List Y137)=>Z [p 0 (L y134 a0),p 3 (O 7),p 4 (I v2)] [(7,A 137 y137 v3 0)]) ((0,List.replicate (↑a0.length:Int).toNat ([],[],[],[]))) H fun _ g1 b1 e1 t1 ⟨v2,v3⟩ H =>
  vx_seq <|
  qA (Z [p 0 (L y134 a0),p 3 (O 7),p 4 (I v2),p 11 (B (decide (v2 < (↑a0.length:Int))))] [(7,A 137 y137 v3 0)]) <|
  cD H (fun H=>?_) (fun H=>?_)
 ·refine vx_skip<|fx_seq<|vx_seq<|vx_block <|
   zD (fun v4=>Z [p 0 (L y134 a0),p 3 (O 7),p 4 (I v2)] [(7,A 137 y137 (v3.set v2.toNat v4) 0)]) H fun v4 H =>
   fx_blk<|fx_seq <|
   zB (Z [p 0 (L y134 a0),p 3 (O 7),p 4 (I (v2+1))] [(7,A 137 y137 (v3.set v2.toNat v4) 0)]) H fun H =>
   b1 H
 exact vx_exit<|fx_seq_exit<|e1<|fx_blk_exit rfl<|n0 H
def u139 (a0:Y196):Option (Y199) :=
 some a0
def k139:Ct:=lct 139 [.agg y196] (fun x=>u139 x.1) (fun r:Y199=>AV.agg [S r.1,I r.2.1,I r.2.2]) (fun _=>())
theorem o139:Ok Tryz.prog k139:=by
 refine okL [.cell 2 199] Tryz.func139 Tryz.ntmps139 Tryz.results139 ?_
 intro y ⟨a0,_⟩ r H Q hn hr
 have:HT _ _:=⟨@tn Tryz.prog⟩
 refine qA (Z [p 1 (R 1),p 2 (R 2)] [(2,Ob.box 199 [S (ByteArray.mk #[]),I 0,I 0]),(1,K 196 y196 a0)]) <|
  qA (Z [p 1 (R 1),p 2 (R 2),p 3 (R 3)] [(3,Ob.box 199 [S (ByteArray.mk #[]),I 0,I 0]),(2,Ob.box 199 [S (ByteArray.mk #[]),I 0,I 0]),(1,K 196 y196 a0)]) <|
  qA (Z [p 1 (R 1),p 2 (R 2),p 3 (R 3)] [(3,Ob.box 199 [U a0.1,I 0,I 0]),(2,Ob.box 199 [S (ByteArray.mk #[]),I 0,I 0]),(1,K 196 y196 a0)]) <|
  qA (Z [p 1 (R 1),p 2 (R 2),p 3 (R 3)] [(3,Ob.box 199 [U a0.1,J a0.2.1,I 0]),(2,Ob.box 199 [S (ByteArray.mk #[]),I 0,I 0]),(1,K 196 y196 a0)]) <|
  qA (Z [p 2 (R 2),p 3 (R 3)] [(3,K 199 y199 a0),(2,Ob.box 199 [S (ByteArray.mk #[]),I 0,I 0]),(1,K 196 y196 a0)]) <|
  qA (Z [p 2 (R 2)] [(2,K 199 y199 a0),(3,K 199 y199 a0),(1,K 196 y196 a0)]) <|
  vx_ret<|hr H
def u89J0:List Y199→Option (List Y199)
 | v5 =>
 some v5
def u89L1 (a0:List Y196) (g1:Int×List Y199→Option (List Y199)):Int×List Y199→Option (List Y199)
 | (v2,v3) =>
 if (decide (v2 < (↑a0.length:Int)))=true then
  gd (ix v2 a0.length∧(u139 (a0.getD v2.toNat (dflt y196))).isSome=true∧ix v2 v3.length∧v2.toNat < v3.length∧True)<|lt (vl (u139 (a0.getD v2.toNat (dflt y196)))) fun v4 =>
  gd (in64 (v2+1)∧True) <|
  g1 (v2+1,v3.set v2.toNat v4)
 else
  u89J0 v3
def u89 (a0:List Y196):Option (List Y199) :=
 gd ((0≤(↑a0.length:Int)∧(↑a0.length:Int)=(↑a0.length:Int)∧(↑a0.length:Int).toNat*32≤281474976710656∧(↑a0.length:Int)≤9223372036854775807)∧True)<|lt (List.replicate (↑a0.length:Int).toNat (ByteArray.mk #[],(0:Int),(0:Int))) fun v0 =>
 lp (u89L1 a0) (0,v0)
def k89:Ct:=lct 89 [.dat y196.sl] (fun x=>u89 x.1) (fun r:List Y199=>AV.ow 199 true y199 r) (fun _=>())
theorem o89:Ok Tryz.prog k89:=by
 refine okL [.tmp 2] Tryz.func89 Tryz.ntmps89 Tryz.results89 ?_
 intro y ⟨a0,_⟩ r H Q hn hr
 have:HT _ _:=⟨tc o139 tn⟩
 refine qA (Z [p 0 (L y196 a0)] []) <|
  qD (fun v0=>Z [p 0 (L y196 a0),p 3 (O 7)] [(7,A 199 y199 v0 0)]) H fun v0 H =>
  jN r (fun (v5:List Y199)=>Z [p 3 (O 7)] [(7,A 199 y199 v5 0)]) (u89J0) (fun v5 H=>?_) (fun _ n0 e0 t0=>?_)
 ·refine qA (Z [p 2 (O 7)] [(7,A 199 y199 v5 0)]) <|
   vx_ret<|hr H
 refine qA (Z [p 0 (L y196 a0),p 3 (O 7),p 4 (I 0)] [(7,A 199 y199 v0 0)]) <|
  vx_block <|
  lX (fun ((v2,v3):Int×List Y199)=>Z [p 0 (L y196 a0),p 3 (O 7),p 4 (I v2)] [(7,A 199 y199 v3 0)]) (0,v0) H fun _ g1 b1 e1 t1 ⟨v2,v3⟩ H =>
  vx_seq <|
  qA (Z [p 0 (L y196 a0),p 3 (O 7),p 4 (I v2),p 11 (B (decide (v2 < (↑a0.length:Int))))] [(7,A 199 y199 v3 0)]) <|
  cD H (fun H=>?_) (fun H=>?_)
 ·refine vx_skip<|fx_seq<|vx_seq<|vx_block <|
   zD (fun v4=>Z [p 0 (L y196 a0),p 3 (O 7),p 4 (I v2)] [(7,A 199 y199 (v3.set v2.toNat v4) 0)]) H fun v4 H =>
   fx_blk<|fx_seq <|
   zB (Z [p 0 (L y196 a0),p 3 (O 7),p 4 (I (v2+1))] [(7,A 199 y199 (v3.set v2.toNat v4) 0)]) H fun H =>
   b1 H
 exact vx_exit<|fx_seq_exit<|e1<|fx_blk_exit rfl<|n0 H
def u88J0:List ByteArray→Option (List ByteArray)
 | v3 =>
 some v3
def u88L1 (a0:List ByteArray) (g1:Int×List ByteArray→Option (List ByteArray)):Int×List ByteArray→Option (List ByteArray)
 | (v1,v2) =>
 if (decide (v1 < (↑a0.length:Int)))=true then
  gd (ix v1 a0.length∧ix v1 v2.length∧v1.toNat < v2.length∧True) <|
  gd (in64 (v1+1)∧True) <|
  g1 ((v1+1,v2.set v1.toNat (a0.getD v1.toNat (dflt Ty.str))))
 else
  u88J0 v2
def u88 (a0:List ByteArray):Option (List ByteArray) :=
 gd ((0≤(↑a0.length:Int)∧(↑a0.length:Int)=(↑a0.length:Int)∧(↑a0.length:Int).toNat*16≤281474976710656∧(↑a0.length:Int)≤9223372036854775807)∧True) <|
 lp (u88L1 a0) ((0,List.replicate (↑a0.length:Int).toNat (ByteArray.mk #[])))
def k88:Ct:=lct 88 [.dat Ty.str.sl] (fun x=>u88 x.1) (fun r:List ByteArray=>AV.ow 9 true Ty.str r) (fun _=>())
theorem o88:Ok Tryz.prog k88:=by
 refine okL [.tmp 2] Tryz.func88 Tryz.ntmps88 Tryz.results88 ?_
 intro y ⟨a0,_⟩ r H Q hn hr
 have:HT _ _:=⟨@tn Tryz.prog⟩
 refine qA (Z [p 0 (L Ty.str a0)] []) <|
  qB (Z [p 0 (L Ty.str a0),p 3 (O 7)] [(7,A 9 Ty.str (List.replicate (↑a0.length:Int).toNat (ByteArray.mk #[])) 0)]) H fun H =>
  jN r (fun (v3:List ByteArray)=>Z [p 3 (O 7)] [(7,A 9 Ty.str v3 0)]) (u88J0) (fun v3 H=>?_) (fun _ n0 e0 t0=>?_)
 ·refine qA (Z [p 2 (O 7)] [(7,A 9 Ty.str v3 0)]) <|
   vx_ret<|hr H
 refine qA (Z [p 0 (L Ty.str a0),p 3 (O 7),p 4 (I 0)] [(7,A 9 Ty.str (List.replicate (↑a0.length:Int).toNat (ByteArray.mk #[])) 0)]) <|
  vx_block <|
  lX (fun ((v1,v2):Int×List ByteArray)=>Z [p 0 (L Ty.str a0),p 3 (O 7),p 4 (I v1)] [(7,A 9 Ty.str v2 0)]) ((0,List.replicate (↑a0.length:Int).toNat (ByteArray.mk #[]))) H fun _ g1 b1 e1 t1 ⟨v1,v2⟩ H =>
  vx_seq <|
  qA (Z [p 0 (L Ty.str a0),p 3 (O 7),p 4 (I v1),p 11 (B (decide (v1 < (↑a0.length:Int))))] [(7,A 9 Ty.str v2 0)]) <|
  cD H (fun H=>?_) (fun H=>?_)
 ·refine vx_skip<|fx_seq<|vx_seq<|vx_block <|
   zB (Z [p 0 (L Ty.str a0),p 3 (O 7),p 4 (I v1)] [(7,A 9 Ty.str (v2.set v1.toNat (a0.getD v1.toNat (dflt Ty.str))) 0)]) H fun H =>
   fx_blk<|fx_seq <|
   zB (Z [p 0 (L Ty.str a0),p 3 (O 7),p 4 (I (v1+1))] [(7,A 9 Ty.str (v2.set v1.toNat (a0.getD v1.toNat (dflt Ty.str))) 0)]) H fun H =>
   b1 H
 exact vx_exit<|fx_seq_exit<|e1<|fx_blk_exit rfl<|n0 H
def u138 (a0:Y193):Option (Y147) :=
 gd ((u23 a0.2.2).isSome=true∧True)<|lt (vl (u23 a0.2.2)) fun v0 =>
 some (a0.1,a0.2.1,v0)
def k138:Ct:=lct 138 [.agg y193] (fun x=>u138 x.1) (fun r:Y147=>AV.agg [S r.1,I r.2.1,AV.ow 2 true i64 r.2.2]) (fun _=>())
theorem o138:Ok Tryz.prog k138:=by
 refine okL [.cell 2 147] Tryz.func138 Tryz.ntmps138 Tryz.results138 ?_
 intro y ⟨a0,_⟩ r H Q hn hr
 have:HT _ _:=⟨tc o23 tn⟩
 refine qA (Z [p 1 (R 1),p 2 (R 2)] [(2,Ob.box 147 [S (ByteArray.mk #[]),I 0,nil]),(1,K 193 y193 a0)]) <|
  qA (Z [p 1 (R 1),p 2 (R 2),p 3 (R 3)] [(3,Ob.box 147 [S (ByteArray.mk #[]),I 0,nil]),(2,Ob.box 147 [S (ByteArray.mk #[]),I 0,nil]),(1,K 193 y193 a0)]) <|
  qA (Z [p 1 (R 1),p 2 (R 2),p 3 (R 3)] [(3,Ob.box 147 [U a0.1,I 0,nil]),(2,Ob.box 147 [S (ByteArray.mk #[]),I 0,nil]),(1,K 193 y193 a0)]) <|
  qA (Z [p 1 (R 1),p 2 (R 2),p 3 (R 3)] [(3,Ob.box 147 [U a0.1,J a0.2.1,nil]),(2,Ob.box 147 [S (ByteArray.mk #[]),I 0,nil]),(1,K 193 y193 a0)]) <|
  qD (fun v0=>Z [p 2 (R 2),p 3 (R 3)] [(3,Ob.box 147 [U a0.1,J a0.2.1,AV.os 12 0]),(12,A 2 i64 v0 0),(2,Ob.box 147 [S (ByteArray.mk #[]),I 0,nil]),(1,K 193 y193 a0)]) H fun v0 H =>
  qA (Z [p 2 (R 2)] [(2,Ob.box 147 [U a0.1,J a0.2.1,AV.os 12 0]),(3,Ob.box 147 [U a0.1,J a0.2.1,AV.os 12 0]),(12,A 2 i64 v0 0),(1,K 193 y193 a0)]) <|
  vx_ret<|hr H
def k138d:Ct:=lct 138 [.agg y193] (fun x=>u138 x.1) (fun r=>frz ((fun r:Y147=>AV.agg [S r.1,I r.2.1,AV.ow 2 true i64 r.2.2]) r)) (fun _=>())
theorem o138d:Ok Tryz.prog k138d:=ok_frz o138
def u87J0:List Y147→Option (List Y147)
 | v5 =>
 some v5
def u87L1 (a0:List Y193) (g1:Int×List Y147→Option (List Y147)):Int×List Y147→Option (List Y147)
 | (v2,v3) =>
 if (decide (v2 < (↑a0.length:Int)))=true then
  gd (ix v2 a0.length∧(u138 (a0.getD v2.toNat (dflt y193))).isSome=true∧ix v2 v3.length∧v2.toNat < v3.length∧True)<|lt (vl (u138 (a0.getD v2.toNat (dflt y193)))) fun v4 =>
  gd (in64 (v2+1)∧True) <|
  g1 (v2+1,v3.set v2.toNat v4)
 else
  u87J0 v3
def u87 (a0:List Y193):Option (List Y147) :=
 gd ((0≤(↑a0.length:Int)∧(↑a0.length:Int)=(↑a0.length:Int)∧(↑a0.length:Int).toNat*48≤281474976710656∧(↑a0.length:Int)≤9223372036854775807)∧True)<|lt (List.replicate (↑a0.length:Int).toNat (ByteArray.mk #[],(0:Int),[])) fun v0 =>
 lp (u87L1 a0) (0,v0)
def k87:Ct:=lct 87 [.dat y193.sl] (fun x=>u87 x.1) (fun r:List Y147=>AV.ow 147 true y147 r) (fun _=>())
theorem o87:Ok Tryz.prog k87:=by
 refine okL [.tmp 2] Tryz.func87 Tryz.ntmps87 Tryz.results87 ?_
 intro y ⟨a0,_⟩ r H Q hn hr
 have:HT _ _:=⟨tc o138d tn⟩
 refine qA (Z [p 0 (L y193 a0)] []) <|
  qD (fun v0=>Z [p 0 (L y193 a0),p 3 (O 7)] [(7,A 147 y147 v0 0)]) H fun v0 H =>
  jN r (fun (v5:List Y147)=>Z [p 3 (O 7)] [(7,A 147 y147 v5 0)]) (u87J0) (fun v5 H=>?_) (fun _ n0 e0 t0=>?_)
 ·refine qA (Z [p 2 (O 7)] [(7,A 147 y147 v5 0)]) <|
   vx_ret<|hr H
 refine qA (Z [p 0 (L y193 a0),p 3 (O 7),p 4 (I 0)] [(7,A 147 y147 v0 0)]) <|
  vx_block <|
  lX (fun ((v2,v3):Int×List Y147)=>Z [p 0 (L y193 a0),p 3 (O 7),p 4 (I v2)] [(7,A 147 y147 v3 0)]) (0,v0) H fun _ g1 b1 e1 t1 ⟨v2,v3⟩ H =>
  vx_seq <|
  qA (Z [p 0 (L y193 a0),p 3 (O 7),p 4 (I v2),p 11 (B (decide (v2 < (↑a0.length:Int))))] [(7,A 147 y147 v3 0)]) <|
  cD H (fun H=>?_) (fun H=>?_)
 ·refine vx_skip<|fx_seq<|vx_seq<|vx_block <|
   zD (fun v4=>Z [p 0 (L y193 a0),p 3 (O 7),p 4 (I v2)] [(7,A 147 y147 (v3.set v2.toNat v4) 0)]) H fun v4 H =>
   fx_blk<|fx_seq <|
   zB (Z [p 0 (L y193 a0),p 3 (O 7),p 4 (I (v2+1))] [(7,A 147 y147 (v3.set v2.toNat v4) 0)]) H fun H =>
   b1 H
 exact vx_exit<|fx_seq_exit<|e1<|fx_blk_exit rfl<|n0 H
def u41 (a0:Y29):Option (Y42) :=
 gd ((u87 a0.1).isSome=true∧True)<|lt (vl (u87 a0.1)) fun v0 =>
 gd ((u88 a0.2.1).isSome=true∧True)<|lt (vl (u88 a0.2.1)) fun v1 =>
 gd ((u89 a0.2.2).isSome=true∧True)<|lt (vl (u89 a0.2.2)) fun v2 =>
 some (v0,v1,v2)
def k41:Ct:=lct 41 [.agg y29] (fun x=>u41 x.1) (fun r:Y42=>AV.agg [AV.ow 147 true y147 r.1,AV.ow 9 true Ty.str r.2.1,AV.ow 199 true y199 r.2.2]) (fun _=>())
theorem o41:Ok Tryz.prog k41:=by
 refine okL [.cell 2 42] Tryz.func41 Tryz.ntmps41 Tryz.results41 ?_
 intro y ⟨a0,_⟩ r H Q hn hr
 have:HT _ _:=⟨tc o89 (tc o88 (tc o87 tn))⟩
 refine qA (Z [p 1 (R 1),p 2 (R 2)] [(2,Ob.box 42 [nil,nil,nil]),(1,K 29 y29 a0)]) <|
  qA (Z [p 1 (R 1),p 2 (R 2),p 3 (R 3)] [(3,Ob.box 42 [nil,nil,nil]),(2,Ob.box 42 [nil,nil,nil]),(1,K 29 y29 a0)]) <|
  qD (fun v0=>Z [p 1 (R 1),p 2 (R 2),p 3 (R 3)] [(3,Ob.box 42 [AV.os 6 0,nil,nil]),(6,A 147 y147 v0 0),(2,Ob.box 42 [nil,nil,nil]),(1,K 29 y29 a0)]) H fun v0 H =>
  qD (fun v1=>Z [p 1 (R 1),p 2 (R 2),p 3 (R 3)] [(3,Ob.box 42 [AV.os 6 0,AV.os 10 0,nil]),(10,A 9 Ty.str v1 0),(6,A 147 y147 v0 0),(2,Ob.box 42 [nil,nil,nil]),(1,K 29 y29 a0)]) H fun v1 H =>
  qD (fun v2=>Z [p 2 (R 2),p 3 (R 3)] [(3,Ob.box 42 [AV.os 6 0,AV.os 10 0,AV.os 14 0]),(14,A 199 y199 v2 0),(10,A 9 Ty.str v1 0),(6,A 147 y147 v0 0),(2,Ob.box 42 [nil,nil,nil]),(1,K 29 y29 a0)]) H fun v2 H =>
  qA (Z [p 2 (R 2)] [(2,Ob.box 42 [AV.os 6 0,AV.os 10 0,AV.os 14 0]),(3,Ob.box 42 [AV.os 6 0,AV.os 10 0,AV.os 14 0]),(14,A 199 y199 v2 0),(10,A 9 Ty.str v1 0),(6,A 147 y147 v0 0),(1,K 29 y29 a0)]) <|
  vx_ret<|hr H
def u234 (a0:Y285):Option (Y106) :=
 gd ((u23 a0.1).isSome=true∧True)<|lt (vl (u23 a0.1)) fun v0 =>
 gd ((u23 a0.2.1).isSome=true∧True)<|lt (vl (u23 a0.2.1)) fun v1 =>
 gd ((u23 a0.2.2).isSome=true∧True)<|lt (vl (u23 a0.2.2)) fun v2 =>
 some (v0,v1,v2)
def k234:Ct:=lct 234 [.agg y285] (fun x=>u234 x.1) (fun r:Y106=>AV.agg [AV.ow 2 true i64 r.1,AV.ow 2 true i64 r.2.1,AV.ow 2 true i64 r.2.2]) (fun _=>())
theorem o234:Ok Tryz.prog k234:=by
 refine okL [.cell 2 106] Tryz.func234 Tryz.ntmps234 Tryz.results234 ?_
 intro y ⟨a0,_⟩ r H Q hn hr
 have:HT _ _:=⟨tc o23 tn⟩
 refine qA (Z [p 1 (R 1),p 2 (R 2)] [(2,Ob.box 106 [nil,nil,nil]),(1,K 285 y285 a0)]) <|
  qA (Z [p 1 (R 1),p 2 (R 2),p 3 (R 3)] [(3,Ob.box 106 [nil,nil,nil]),(2,Ob.box 106 [nil,nil,nil]),(1,K 285 y285 a0)]) <|
  qD (fun v0=>Z [p 1 (R 1),p 2 (R 2),p 3 (R 3)] [(3,Ob.box 106 [AV.os 6 0,nil,nil]),(6,A 2 i64 v0 0),(2,Ob.box 106 [nil,nil,nil]),(1,K 285 y285 a0)]) H fun v0 H =>
  qD (fun v1=>Z [p 1 (R 1),p 2 (R 2),p 3 (R 3)] [(3,Ob.box 106 [AV.os 6 0,AV.os 10 0,nil]),(10,A 2 i64 v1 0),(6,A 2 i64 v0 0),(2,Ob.box 106 [nil,nil,nil]),(1,K 285 y285 a0)]) H fun v1 H =>
  qD (fun v2=>Z [p 2 (R 2),p 3 (R 3)] [(3,Ob.box 106 [AV.os 6 0,AV.os 10 0,AV.os 14 0]),(14,A 2 i64 v2 0),(10,A 2 i64 v1 0),(6,A 2 i64 v0 0),(2,Ob.box 106 [nil,nil,nil]),(1,K 285 y285 a0)]) H fun v2 H =>
  qA (Z [p 2 (R 2)] [(2,Ob.box 106 [AV.os 6 0,AV.os 10 0,AV.os 14 0]),(3,Ob.box 106 [AV.os 6 0,AV.os 10 0,AV.os 14 0]),(14,A 2 i64 v2 0),(10,A 2 i64 v1 0),(6,A 2 i64 v0 0),(1,K 285 y285 a0)]) <|
  vx_ret<|hr H
def k234d:Ct:=lct 234 [.agg y285] (fun x=>u234 x.1) (fun r=>frz ((fun r:Y106=>AV.agg [AV.ow 2 true i64 r.1,AV.ow 2 true i64 r.2.1,AV.ow 2 true i64 r.2.2]) r)) (fun _=>())
theorem o234d:Ok Tryz.prog k234d:=ok_frz o234
def u219J0:List Y106→Option (List Y106)
 | v5 =>
 some v5
def u219L1 (a0:List Y285) (g1:Int×List Y106→Option (List Y106)):Int×List Y106→Option (List Y106)
 | (v2,v3) =>
 if (decide (v2 < (↑a0.length:Int)))=true then
  gd (ix v2 a0.length∧(u234 (a0.getD v2.toNat (dflt y285))).isSome=true∧ix v2 v3.length∧v2.toNat < v3.length∧True)<|lt (vl (u234 (a0.getD v2.toNat (dflt y285)))) fun v4 =>
  gd (in64 (v2+1)∧True) <|
  g1 (v2+1,v3.set v2.toNat v4)
 else
  u219J0 v3
def u219 (a0:List Y285):Option (List Y106) :=
 gd ((0≤(↑a0.length:Int)∧(↑a0.length:Int)=(↑a0.length:Int)∧(↑a0.length:Int).toNat*72≤281474976710656∧(↑a0.length:Int)≤9223372036854775807)∧True) <|
 lp (u219L1 a0) ((0,List.replicate (↑a0.length:Int).toNat ([],[],[])))
def k219:Ct:=lct 219 [.dat y285.sl] (fun x=>u219 x.1) (fun r:List Y106=>AV.ow 106 true y106 r) (fun _=>())
theorem o219:Ok Tryz.prog k219:=by
 refine okL [.tmp 2] Tryz.func219 Tryz.ntmps219 Tryz.results219 ?_
 intro y ⟨a0,_⟩ r H Q hn hr
 have:HT _ _:=⟨tc o234d tn⟩
 refine qA (Z [p 0 (L y285 a0)] []) <|
  qB (Z [p 0 (L y285 a0),p 3 (O 7)] [(7,A 106 y106 (List.replicate (↑a0.length:Int).toNat ([],[],[])) 0)]) H fun H =>
  jN r (fun (v5:List Y106)=>Z [p 3 (O 7)] [(7,A 106 y106 v5 0)]) (u219J0) (fun v5 H=>?_) (fun _ n0 e0 t0=>?_)
 ·refine qA (Z [p 2 (O 7)] [(7,A 106 y106 v5 0)]) <|
   vx_ret<|hr H
 refine qA (Z [p 0 (L y285 a0),p 3 (O 7),p 4 (I 0)] [(7,A 106 y106 (List.replicate (↑a0.length:Int).toNat ([],[],[])) 0)]) <|
  vx_block <|
  lX (fun ((v2,v3):Int×List Y106)=>Z [p 0 (L y285 a0),p 3 (O 7),p 4 (I v2)] [(7,A 106 y106 v3 0)]) ((0,List.replicate (↑a0.length:Int).toNat ([],[],[]))) H fun _ g1 b1 e1 t1 ⟨v2,v3⟩ H =>
  vx_seq <|
  qA (Z [p 0 (L y285 a0),p 3 (O 7),p 4 (I v2),p 11 (B (decide (v2 < (↑a0.length:Int))))] [(7,A 106 y106 v3 0)]) <|
  cD H (fun H=>?_) (fun H=>?_)
 ·refine vx_skip<|fx_seq<|vx_seq<|vx_block <|
   zD (fun v4=>Z [p 0 (L y285 a0),p 3 (O 7),p 4 (I v2)] [(7,A 106 y106 (v3.set v2.toNat v4) 0)]) H fun v4 H =>
   fx_blk<|fx_seq <|
   zB (Z [p 0 (L y285 a0),p 3 (O 7),p 4 (I (v2+1))] [(7,A 106 y106 (v3.set v2.toNat v4) 0)]) H fun H =>
   b1 H
 exact vx_exit<|fx_seq_exit<|e1<|fx_blk_exit rfl<|n0 H
def u202 (a0:Y259):Option (Y102) :=
 gd ((u219 a0.2.2.2.2.1).isSome=true∧True)<|lt (vl (u219 a0.2.2.2.2.1)) fun v0 =>
 gd ((u219 a0.2.2.2.2.2).isSome=true∧True)<|lt (vl (u219 a0.2.2.2.2.2)) fun v1 =>
 some (a0.1,a0.2.1,a0.2.2.1,a0.2.2.2.1,v0,v1)
def k202:Ct:=lct 202 [.agg y259] (fun x=>u202 x.1) (fun r:Y102=>AV.agg [I r.1,I r.2.1,I r.2.2.1,I r.2.2.2.1,AV.ow 106 true y106 r.2.2.2.2.1,AV.ow 106 true y106 r.2.2.2.2.2]) (fun _=>())
theorem o202:Ok Tryz.prog k202:=by
 refine okL [.cell 2 102] Tryz.func202 Tryz.ntmps202 Tryz.results202 ?_
 intro y ⟨a0,_⟩ r H Q hn hr
 have:HT _ _:=⟨tc o219 tn⟩
 refine qA (Z [p 1 (R 1),p 2 (R 2)] [(2,Ob.box 102 [I 0,I 0,I 0,I 0,nil,nil]),(1,K 259 y259 a0)]) <|
  qA (Z [p 1 (R 1),p 2 (R 2),p 3 (R 3)] [(3,Ob.box 102 [I 0,I 0,I 0,I 0,nil,nil]),(2,Ob.box 102 [I 0,I 0,I 0,I 0,nil,nil]),(1,K 259 y259 a0)]) <|
  qA (Z [p 1 (R 1),p 2 (R 2),p 3 (R 3)] [(3,Ob.box 102 [J a0.1,I 0,I 0,I 0,nil,nil]),(2,Ob.box 102 [I 0,I 0,I 0,I 0,nil,nil]),(1,K 259 y259 a0)]) <|
  qA (Z [p 1 (R 1),p 2 (R 2),p 3 (R 3)] [(3,Ob.box 102 [J a0.1,J a0.2.1,I 0,I 0,nil,nil]),(2,Ob.box 102 [I 0,I 0,I 0,I 0,nil,nil]),(1,K 259 y259 a0)]) <|
  qA (Z [p 1 (R 1),p 2 (R 2),p 3 (R 3)] [(3,Ob.box 102 [J a0.1,J a0.2.1,J a0.2.2.1,I 0,nil,nil]),(2,Ob.box 102 [I 0,I 0,I 0,I 0,nil,nil]),(1,K 259 y259 a0)]) <|
  qA (Z [p 1 (R 1),p 2 (R 2),p 3 (R 3)] [(3,Ob.box 102 [J a0.1,J a0.2.1,J a0.2.2.1,J a0.2.2.2.1,nil,nil]),(2,Ob.box 102 [I 0,I 0,I 0,I 0,nil,nil]),(1,K 259 y259 a0)]) <|
  qD (fun v0=>Z [p 1 (R 1),p 2 (R 2),p 3 (R 3)] [(3,Ob.box 102 [J a0.1,J a0.2.1,J a0.2.2.1,J a0.2.2.2.1,AV.os 18 0,nil]),(18,A 106 y106 v0 0),(2,Ob.box 102 [I 0,I 0,I 0,I 0,nil,nil]),(1,K 259 y259 a0)]) H fun v0 H =>
  qD (fun v1=>Z [p 2 (R 2),p 3 (R 3)] [(3,Ob.box 102 [J a0.1,J a0.2.1,J a0.2.2.1,J a0.2.2.2.1,AV.os 18 0,AV.os 22 0]),(22,A 106 y106 v1 0),(18,A 106 y106 v0 0),(2,Ob.box 102 [I 0,I 0,I 0,I 0,nil,nil]),(1,K 259 y259 a0)]) H fun v1 H =>
  qA (Z [p 2 (R 2)] [(2,Ob.box 102 [J a0.1,J a0.2.1,J a0.2.2.1,J a0.2.2.2.1,AV.os 18 0,AV.os 22 0]),(3,Ob.box 102 [J a0.1,J a0.2.1,J a0.2.2.1,J a0.2.2.2.1,AV.os 18 0,AV.os 22 0]),(22,A 106 y106 v1 0),(18,A 106 y106 v0 0),(1,K 259 y259 a0)]) <|
  vx_ret<|hr H
def k202d:Ct:=lct 202 [.agg y259] (fun x=>u202 x.1) (fun r=>frz ((fun r:Y102=>AV.agg [I r.1,I r.2.1,I r.2.2.1,I r.2.2.2.1,AV.ow 106 true y106 r.2.2.2.2.1,AV.ow 106 true y106 r.2.2.2.2.2]) r)) (fun _=>())
theorem o202d:Ok Tryz.prog k202d:=ok_frz o202
def u174J0:List Y102→Option (List Y102)
 | v5 =>
 some v5
def u174L1 (a0:List Y259) (g1:Int×List Y102→Option (List Y102)):Int×List Y102→Option (List Y102)
 | (v2,v3) =>
 if (decide (v2 < (↑a0.length:Int)))=true then
  gd (ix v2 a0.length∧(u202 (a0.getD v2.toNat (dflt y259))).isSome=true∧ix v2 v3.length∧v2.toNat < v3.length∧True)<|lt (vl (u202 (a0.getD v2.toNat (dflt y259)))) fun v4 =>
  gd (in64 (v2+1)∧True) <|
  g1 (v2+1,v3.set v2.toNat v4)
 else
  u174J0 v3
def u174 (a0:List Y259):Option (List Y102) :=
 gd ((0≤(↑a0.length:Int)∧(↑a0.length:Int)=(↑a0.length:Int)∧(↑a0.length:Int).toNat*80≤281474976710656∧(↑a0.length:Int)≤9223372036854775807)∧True)<|lt (List.replicate (↑a0.length:Int).toNat ((0:Int),(0:Int),(0:Int),(0:Int),[],[])) fun v0 =>
 lp (u174L1 a0) (0,v0)
def k174:Ct:=lct 174 [.dat y259.sl] (fun x=>u174 x.1) (fun r:List Y102=>AV.ow 102 true y102 r) (fun _=>())
theorem o174:Ok Tryz.prog k174:=by
 refine okL [.tmp 2] Tryz.func174 Tryz.ntmps174 Tryz.results174 ?_
 intro y ⟨a0,_⟩ r H Q hn hr
 have:HT _ _:=⟨tc o202d tn⟩
 refine qA (Z [p 0 (L y259 a0)] []) <|
  qD (fun v0=>Z [p 0 (L y259 a0),p 3 (O 7)] [(7,A 102 y102 v0 0)]) H fun v0 H =>
  jN r (fun (v5:List Y102)=>Z [p 3 (O 7)] [(7,A 102 y102 v5 0)]) (u174J0) (fun v5 H=>?_) (fun _ n0 e0 t0=>?_)
 ·refine qA (Z [p 2 (O 7)] [(7,A 102 y102 v5 0)]) <|
   vx_ret<|hr H
 refine qA (Z [p 0 (L y259 a0),p 3 (O 7),p 4 (I 0)] [(7,A 102 y102 v0 0)]) <|
  vx_block <|
  lX (fun ((v2,v3):Int×List Y102)=>Z [p 0 (L y259 a0),p 3 (O 7),p 4 (I v2)] [(7,A 102 y102 v3 0)]) (0,v0) H fun _ g1 b1 e1 t1 ⟨v2,v3⟩ H =>
  vx_seq <|
  qA (Z [p 0 (L y259 a0),p 3 (O 7),p 4 (I v2),p 11 (B (decide (v2 < (↑a0.length:Int))))] [(7,A 102 y102 v3 0)]) <|
  cD H (fun H=>?_) (fun H=>?_)
 ·refine vx_skip<|fx_seq<|vx_seq<|vx_block <|
   zD (fun v4=>Z [p 0 (L y259 a0),p 3 (O 7),p 4 (I v2)] [(7,A 102 y102 (v3.set v2.toNat v4) 0)]) H fun v4 H =>
   fx_blk<|fx_seq <|
   zB (Z [p 0 (L y259 a0),p 3 (O 7),p 4 (I (v2+1))] [(7,A 102 y102 (v3.set v2.toNat v4) 0)]) H fun H =>
   b1 H
 exact vx_exit<|fx_seq_exit<|e1<|fx_blk_exit rfl<|n0 H
def u201 (a0:Y255):Option (Y241) :=
 some a0
def k201:Ct:=lct 201 [.agg y255] (fun x=>u201 x.1) (fun r:Y241=>AV.agg [S r.1,I r.2.1,I r.2.2.1,B r.2.2.2]) (fun _=>())
theorem o201:Ok Tryz.prog k201:=by
 refine okL [.cell 2 241] Tryz.func201 Tryz.ntmps201 Tryz.results201 ?_
 intro y ⟨a0,_⟩ r H Q hn hr
 have:HT _ _:=⟨@tn Tryz.prog⟩
 refine qA (Z [p 1 (R 1),p 2 (R 2)] [(2,Ob.box 241 [S (ByteArray.mk #[]),I 0,I 0,B false]),(1,K 255 y255 a0)]) <|
  qA (Z [p 1 (R 1),p 2 (R 2),p 3 (R 3)] [(3,Ob.box 241 [S (ByteArray.mk #[]),I 0,I 0,B false]),(2,Ob.box 241 [S (ByteArray.mk #[]),I 0,I 0,B false]),(1,K 255 y255 a0)]) <|
  qA (Z [p 1 (R 1),p 2 (R 2),p 3 (R 3)] [(3,Ob.box 241 [U a0.1,I 0,I 0,B false]),(2,Ob.box 241 [S (ByteArray.mk #[]),I 0,I 0,B false]),(1,K 255 y255 a0)]) <|
  qA (Z [p 1 (R 1),p 2 (R 2),p 3 (R 3)] [(3,Ob.box 241 [U a0.1,J a0.2.1,I 0,B false]),(2,Ob.box 241 [S (ByteArray.mk #[]),I 0,I 0,B false]),(1,K 255 y255 a0)]) <|
  qA (Z [p 1 (R 1),p 2 (R 2),p 3 (R 3)] [(3,Ob.box 241 [U a0.1,J a0.2.1,J a0.2.2.1,B false]),(2,Ob.box 241 [S (ByteArray.mk #[]),I 0,I 0,B false]),(1,K 255 y255 a0)]) <|
  qA (Z [p 2 (R 2),p 3 (R 3)] [(3,K 241 y241 a0),(2,Ob.box 241 [S (ByteArray.mk #[]),I 0,I 0,B false]),(1,K 255 y255 a0)]) <|
  qA (Z [p 2 (R 2)] [(2,K 241 y241 a0),(3,K 241 y241 a0),(1,K 255 y255 a0)]) <|
  vx_ret<|hr H
def u173J0:List Y241→Option (List Y241)
 | v5 =>
 some v5
def u173L1 (a0:List Y255) (g1:Int×List Y241→Option (List Y241)):Int×List Y241→Option (List Y241)
 | (v2,v3) =>
 if (decide (v2 < (↑a0.length:Int)))=true then
  gd (ix v2 a0.length∧(u201 (a0.getD v2.toNat (dflt y255))).isSome=true∧ix v2 v3.length∧v2.toNat < v3.length∧True)<|lt (vl (u201 (a0.getD v2.toNat (dflt y255)))) fun v4 =>
  gd (in64 (v2+1)∧True) <|
  g1 (v2+1,v3.set v2.toNat v4)
 else
  u173J0 v3
def u173 (a0:List Y255):Option (List Y241) :=
 gd ((0≤(↑a0.length:Int)∧(↑a0.length:Int)=(↑a0.length:Int)∧(↑a0.length:Int).toNat*40≤281474976710656∧(↑a0.length:Int)≤9223372036854775807)∧True)<|lt (List.replicate (↑a0.length:Int).toNat (ByteArray.mk #[],(0:Int),(0:Int),false)) fun v0 =>
 lp (u173L1 a0) (0,v0)
def k173:Ct:=lct 173 [.dat y255.sl] (fun x=>u173 x.1) (fun r:List Y241=>AV.ow 241 true y241 r) (fun _=>())
theorem o173:Ok Tryz.prog k173:=by
 refine okL [.tmp 2] Tryz.func173 Tryz.ntmps173 Tryz.results173 ?_
 intro y ⟨a0,_⟩ r H Q hn hr
 have:HT _ _:=⟨tc o201 tn⟩
 refine qA (Z [p 0 (L y255 a0)] []) <|
  qD (fun v0=>Z [p 0 (L y255 a0),p 3 (O 7)] [(7,A 241 y241 v0 0)]) H fun v0 H =>
  jN r (fun (v5:List Y241)=>Z [p 3 (O 7)] [(7,A 241 y241 v5 0)]) (u173J0) (fun v5 H=>?_) (fun _ n0 e0 t0=>?_)
 ·refine qA (Z [p 2 (O 7)] [(7,A 241 y241 v5 0)]) <|
   vx_ret<|hr H
 refine qA (Z [p 0 (L y255 a0),p 3 (O 7),p 4 (I 0)] [(7,A 241 y241 v0 0)]) <|
  vx_block <|
  lX (fun ((v2,v3):Int×List Y241)=>Z [p 0 (L y255 a0),p 3 (O 7),p 4 (I v2)] [(7,A 241 y241 v3 0)]) (0,v0) H fun _ g1 b1 e1 t1 ⟨v2,v3⟩ H =>
  vx_seq <|
  qA (Z [p 0 (L y255 a0),p 3 (O 7),p 4 (I v2),p 11 (B (decide (v2 < (↑a0.length:Int))))] [(7,A 241 y241 v3 0)]) <|
  cD H (fun H=>?_) (fun H=>?_)
 ·refine vx_skip<|fx_seq<|vx_seq<|vx_block <|
   zD (fun v4=>Z [p 0 (L y255 a0),p 3 (O 7),p 4 (I v2)] [(7,A 241 y241 (v3.set v2.toNat v4) 0)]) H fun v4 H =>
   fx_blk<|fx_seq <|
   zB (Z [p 0 (L y255 a0),p 3 (O 7),p 4 (I (v2+1))] [(7,A 241 y241 (v3.set v2.toNat v4) 0)]) H fun H =>
   b1 H
 exact vx_exit<|fx_seq_exit<|e1<|fx_blk_exit rfl<|n0 H
def u137 (a0:Y191):Option (Y145) :=
 gd ((u173 a0.2.2.1).isSome=true∧True)<|lt (vl (u173 a0.2.2.1)) fun v0 =>
 gd ((u174 a0.2.2.2.1).isSome=true∧True)<|lt (vl (u174 a0.2.2.2.1)) fun v1 =>
 gd ((u23 a0.2.2.2.2.1).isSome=true∧True)<|lt (vl (u23 a0.2.2.2.2.1)) fun v2 =>
 some (a0.1,a0.2.1,v0,v1,v2,a0.2.2.2.2.2)
def k137:Ct:=lct 137 [.agg y191] (fun x=>u137 x.1) (fun r:Y145=>AV.agg [S r.1,I r.2.1,AV.ow 241 true y241 r.2.2.1,AV.ow 102 true y102 r.2.2.2.1,AV.ow 2 true i64 r.2.2.2.2.1,I r.2.2.2.2.2.1,I r.2.2.2.2.2.2]) (fun _=>())
theorem o137:Ok Tryz.prog k137:=by
 refine okL [.cell 2 145] Tryz.func137 Tryz.ntmps137 Tryz.results137 ?_
 intro y ⟨a0,_⟩ r H Q hn hr
 have:HT _ _:=⟨tc o23 (tc o174 (tc o173 tn))⟩
 refine qA (Z [p 1 (R 1),p 2 (R 2)] [(2,Ob.box 145 [S (ByteArray.mk #[]),I 0,nil,nil,nil,I 0,I 0]),(1,K 191 y191 a0)]) <|
  qA (Z [p 1 (R 1),p 2 (R 2),p 3 (R 3)] [(3,Ob.box 145 [S (ByteArray.mk #[]),I 0,nil,nil,nil,I 0,I 0]),(2,Ob.box 145 [S (ByteArray.mk #[]),I 0,nil,nil,nil,I 0,I 0]),(1,K 191 y191 a0)]) <|
  qA (Z [p 1 (R 1),p 2 (R 2),p 3 (R 3)] [(3,Ob.box 145 [U a0.1,I 0,nil,nil,nil,I 0,I 0]),(2,Ob.box 145 [S (ByteArray.mk #[]),I 0,nil,nil,nil,I 0,I 0]),(1,K 191 y191 a0)]) <|
  qA (Z [p 1 (R 1),p 2 (R 2),p 3 (R 3)] [(3,Ob.box 145 [U a0.1,J a0.2.1,nil,nil,nil,I 0,I 0]),(2,Ob.box 145 [S (ByteArray.mk #[]),I 0,nil,nil,nil,I 0,I 0]),(1,K 191 y191 a0)]) <|
  qD (fun v0=>Z [p 1 (R 1),p 2 (R 2),p 3 (R 3)] [(3,Ob.box 145 [U a0.1,J a0.2.1,AV.os 12 0,nil,nil,I 0,I 0]),(12,A 241 y241 v0 0),(2,Ob.box 145 [S (ByteArray.mk #[]),I 0,nil,nil,nil,I 0,I 0]),(1,K 191 y191 a0)]) H fun v0 H =>
  qD (fun v1=>Z [p 1 (R 1),p 2 (R 2),p 3 (R 3)] [(3,Ob.box 145 [U a0.1,J a0.2.1,AV.os 12 0,AV.os 16 0,nil,I 0,I 0]),(16,A 102 y102 v1 0),(12,A 241 y241 v0 0),(2,Ob.box 145 [S (ByteArray.mk #[]),I 0,nil,nil,nil,I 0,I 0]),(1,K 191 y191 a0)]) H fun v1 H =>
  qD (fun v2=>Z [p 1 (R 1),p 2 (R 2),p 3 (R 3)] [(3,Ob.box 145 [U a0.1,J a0.2.1,AV.os 12 0,AV.os 16 0,AV.os 20 0,I 0,I 0]),(20,A 2 i64 v2 0),(16,A 102 y102 v1 0),(12,A 241 y241 v0 0),(2,Ob.box 145 [S (ByteArray.mk #[]),I 0,nil,nil,nil,I 0,I 0]),(1,K 191 y191 a0)]) H fun v2 H =>
  qA (Z [p 1 (R 1),p 2 (R 2),p 3 (R 3)] [(3,Ob.box 145 [U a0.1,J a0.2.1,AV.os 12 0,AV.os 16 0,AV.os 20 0,J a0.2.2.2.2.2.1,I 0]),(20,A 2 i64 v2 0),(16,A 102 y102 v1 0),(12,A 241 y241 v0 0),(2,Ob.box 145 [S (ByteArray.mk #[]),I 0,nil,nil,nil,I 0,I 0]),(1,K 191 y191 a0)]) <|
  qA (Z [p 2 (R 2),p 3 (R 3)] [(3,Ob.box 145 [U a0.1,J a0.2.1,AV.os 12 0,AV.os 16 0,AV.os 20 0,J a0.2.2.2.2.2.1,J a0.2.2.2.2.2.2]),(20,A 2 i64 v2 0),(16,A 102 y102 v1 0),(12,A 241 y241 v0 0),(2,Ob.box 145 [S (ByteArray.mk #[]),I 0,nil,nil,nil,I 0,I 0]),(1,K 191 y191 a0)]) <|
  qA (Z [p 2 (R 2)] [(2,Ob.box 145 [U a0.1,J a0.2.1,AV.os 12 0,AV.os 16 0,AV.os 20 0,J a0.2.2.2.2.2.1,J a0.2.2.2.2.2.2]),(3,Ob.box 145 [U a0.1,J a0.2.1,AV.os 12 0,AV.os 16 0,AV.os 20 0,J a0.2.2.2.2.2.1,J a0.2.2.2.2.2.2]),(20,A 2 i64 v2 0),(16,A 102 y102 v1 0),(12,A 241 y241 v0 0),(1,K 191 y191 a0)]) ?_
 exact vx_ret<|hr H
def k137d:Ct:=lct 137 [.agg y191] (fun x=>u137 x.1) (fun r=>frz ((fun r:Y145=>AV.agg [S r.1,I r.2.1,AV.ow 241 true y241 r.2.2.1,AV.ow 102 true y102 r.2.2.2.1,AV.ow 2 true i64 r.2.2.2.2.1,I r.2.2.2.2.2.1,I r.2.2.2.2.2.2]) r)) (fun _=>())
theorem o137d:Ok Tryz.prog k137d:=ok_frz o137
def u86J0:List Y145→Option (List Y145)
 | v5 =>
 some v5
def u86L1 (a0:List Y191) (g1:Int×List Y145→Option (List Y145)):Int×List Y145→Option (List Y145)
 | (v2,v3) =>
 if (decide (v2 < (↑a0.length:Int)))=true then
  gd (ix v2 a0.length∧(u137 (a0.getD v2.toNat (dflt y191))).isSome=true∧ix v2 v3.length∧v2.toNat < v3.length∧True)<|lt (vl (u137 (a0.getD v2.toNat (dflt y191)))) fun v4 =>
  gd (in64 (v2+1)∧True) <|
  g1 (v2+1,v3.set v2.toNat v4)
 else
  u86J0 v3
def u86 (a0:List Y191):Option (List Y145) :=
 gd ((0≤(↑a0.length:Int)∧(↑a0.length:Int)=(↑a0.length:Int)∧(↑a0.length:Int).toNat*112≤281474976710656∧(↑a0.length:Int)≤9223372036854775807)∧True)<|lt (List.replicate (↑a0.length:Int).toNat (ByteArray.mk #[],(0:Int),[],[],[],(0:Int),(0:Int))) fun v0 =>
 lp (u86L1 a0) (0,v0)
def k86:Ct:=lct 86 [.dat y191.sl] (fun x=>u86 x.1) (fun r:List Y145=>AV.ow 145 true y145 r) (fun _=>())
theorem o86:Ok Tryz.prog k86:=by
 refine okL [.tmp 2] Tryz.func86 Tryz.ntmps86 Tryz.results86 ?_
 intro y ⟨a0,_⟩ r H Q hn hr
 have:HT _ _:=⟨tc o137d tn⟩
 refine qA (Z [p 0 (L y191 a0)] []) <|
  qD (fun v0=>Z [p 0 (L y191 a0),p 3 (O 7)] [(7,A 145 y145 v0 0)]) H fun v0 H =>
  jN r (fun (v5:List Y145)=>Z [p 3 (O 7)] [(7,A 145 y145 v5 0)]) (u86J0) (fun v5 H=>?_) (fun _ n0 e0 t0=>?_)
 ·refine qA (Z [p 2 (O 7)] [(7,A 145 y145 v5 0)]) <|
   vx_ret<|hr H
 refine qA (Z [p 0 (L y191 a0),p 3 (O 7),p 4 (I 0)] [(7,A 145 y145 v0 0)]) <|
  vx_block <|
  lX (fun ((v2,v3):Int×List Y145)=>Z [p 0 (L y191 a0),p 3 (O 7),p 4 (I v2)] [(7,A 145 y145 v3 0)]) (0,v0) H fun _ g1 b1 e1 t1 ⟨v2,v3⟩ H =>
  vx_seq <|
  qA (Z [p 0 (L y191 a0),p 3 (O 7),p 4 (I v2),p 11 (B (decide (v2 < (↑a0.length:Int))))] [(7,A 145 y145 v3 0)]) <|
  cD H (fun H=>?_) (fun H=>?_)
 ·refine vx_skip<|fx_seq<|vx_seq<|vx_block <|
   zD (fun v4=>Z [p 0 (L y191 a0),p 3 (O 7),p 4 (I v2)] [(7,A 145 y145 (v3.set v2.toNat v4) 0)]) H fun v4 H =>
   fx_blk<|fx_seq <|
   zB (Z [p 0 (L y191 a0),p 3 (O 7),p 4 (I (v2+1))] [(7,A 145 y145 (v3.set v2.toNat v4) 0)]) H fun H =>
   b1 H
 exact vx_exit<|fx_seq_exit<|e1<|fx_blk_exit rfl<|n0 H
def u40 (a0:List Y191):Option (List Y145) :=
 gd ((u86 a0).isSome=true∧True)<|lt (vl (u86 a0)) fun v0 =>
 some v0
def k40:Ct:=lct 40 [.agg y191.sl] (fun x=>u40 x.1) (fun r:List Y145=>AV.agg [AV.ow 145 true y145 r]) (fun _=>())
theorem o40:Ok Tryz.prog k40:=by
 refine okL [.cell 2 38] Tryz.func40 Tryz.ntmps40 Tryz.results40 ?_
 intro y ⟨a0,_⟩ r H Q hn hr
 have:HT _ _:=⟨tc o86 tn⟩
 refine qA (Z [p 1 (R 1),p 2 (R 2)] [(2,Ob.box 38 [nil]),(1,Ob.box 24 [L y191 a0])]) <|
  qA (Z [p 1 (R 1),p 2 (R 2),p 3 (R 3)] [(3,Ob.box 38 [nil]),(2,Ob.box 38 [nil]),(1,Ob.box 24 [L y191 a0])]) <|
  qD (fun v0=>Z [p 2 (R 2),p 3 (R 3)] [(3,Ob.box 38 [AV.os 6 0]),(6,A 145 y145 v0 0),(2,Ob.box 38 [nil]),(1,Ob.box 24 [L y191 a0])]) H fun v0 H =>
  qA (Z [p 2 (R 2)] [(2,Ob.box 38 [AV.os 6 0]),(3,Ob.box 38 [AV.os 6 0]),(6,A 145 y145 v0 0),(1,Ob.box 24 [L y191 a0])]) <|
  vx_ret<|hr H
def u12 (a0:Y32):Option (Y45) :=
 gd ((u40 a0.1).isSome=true∧True)<|lt (vl (u40 a0.1)) fun v0 =>
 gd ((u41 a0.2.1).isSome=true∧True)<|lt (vl (u41 a0.2.1)) fun v1 =>
 gd ((u42 a0.2.2).isSome=true∧True)<|lt (vl (u42 a0.2.2)) fun v2 =>
 some (v0,v1,v2)
def k12:Ct:=lct 12 [.agg y32] (fun x=>u12 x.1) (fun r:Y45=>AV.agg [AV.ow 145 true y145 r.1,AV.ow 147 true y147 r.2.1.1,AV.ow 9 true Ty.str r.2.1.2.1,AV.ow 199 true y199 r.2.1.2.2,AV.ow 137 true y137 r.2.2]) (fun _=>())
theorem o12:Ok Tryz.prog k12:=by
 refine okL [.cell 2 45] Tryz.func12 Tryz.ntmps12 Tryz.results12 ?_
 intro y ⟨a0,_⟩ r H Q hn hr
 have:HT _ _:=⟨tc o42 (tc o41 (tc o40 tn))⟩
 refine qA (Z [p 1 (R 1),p 2 (R 2)] [(2,Ob.box 45 [nil,nil,nil,nil,nil]),(1,K 32 y32 a0)]) <|
  qA (Z [p 1 (R 1),p 2 (R 2),p 3 (R 3)] [(3,Ob.box 45 [nil,nil,nil,nil,nil]),(2,Ob.box 45 [nil,nil,nil,nil,nil]),(1,K 32 y32 a0)]) <|
  qD (fun v0=>Z [p 1 (R 1),p 2 (R 2),p 3 (R 3)] [(3,Ob.box 45 [AV.os 6 0,nil,nil,nil,nil]),(6,A 145 y145 v0 0),(2,Ob.box 45 [nil,nil,nil,nil,nil]),(1,K 32 y32 a0)]) H fun v0 H =>
  qD (fun v1=>Z [p 1 (R 1),p 2 (R 2),p 3 (R 3)] [(3,Ob.box 45 [AV.os 6 0,AV.os 10 0,AV.os 1010 0,AV.os 2010 0,nil]),(2010,A 199 y199 v1.2.2 0),(1010,A 9 Ty.str v1.2.1 0),(10,A 147 y147 v1.1 0),(6,A 145 y145 v0 0),(2,Ob.box 45 [nil,nil,nil,nil,nil]),(1,K 32 y32 a0)]) H fun v1 H =>
  qD (fun v2=>Z [p 2 (R 2),p 3 (R 3)] [(3,Ob.box 45 [AV.os 6 0,AV.os 10 0,AV.os 1010 0,AV.os 2010 0,AV.os 14 0]),(14,A 137 y137 v2 0),(2010,A 199 y199 v1.2.2 0),(1010,A 9 Ty.str v1.2.1 0),(10,A 147 y147 v1.1 0),(6,A 145 y145 v0 0),(2,Ob.box 45 [nil,nil,nil,nil,nil]),(1,K 32 y32 a0)]) H fun v2 H =>
  qA (Z [p 2 (R 2)] [(2,Ob.box 45 [AV.os 6 0,AV.os 10 0,AV.os 1010 0,AV.os 2010 0,AV.os 14 0]),(3,Ob.box 45 [AV.os 6 0,AV.os 10 0,AV.os 1010 0,AV.os 2010 0,AV.os 14 0]),(14,A 137 y137 v2 0),(2010,A 199 y199 v1.2.2 0),(1010,A 9 Ty.str v1.2.1 0),(10,A 147 y147 v1.1 0),(6,A 145 y145 v0 0),(1,K 32 y32 a0)]) <|
  vx_ret<|hr H
def u114 (a0:Int) (a1:Int) (a2:Int):Option (Int) :=
 gd (0 < a1∧0 < a1∧True) <|
 if (a2==0&&decide (a0.tmod a1 < 0))=true then
  gd (in64 (a0.tdiv a1 - 1)∧True) <|
  some (a0.tdiv a1 - 1)
 else
  if (a2==1&&decide (0 < a0.tmod a1))=true then
   gd (in64 (a0.tdiv a1+1)∧True) <|
   some (a0.tdiv a1+1)
  else
   some (a0.tdiv a1)
def u154J0:Int→Option (Int)
 | v2 =>
 some v2
def u154L1 (a0:Int) (g1:Int×Int→Option (Int)):Int×Int→Option (Int)
 | (v0,v1) =>
 if (decide (v0 < v1))=true then
  gd (in64 (v0+v1)∧in64 (v0+v1+(1:Int))∧(0:Int) < (2:Int)∧True) <|
  gd (in64 ((v0+v1+1).tdiv 2*(v0+v1+1).tdiv 2)∧True) <|
  if (decide ((v0+v1+1).tdiv 2*(v0+v1+1).tdiv 2≤a0))=true then
   g1 (((v0+v1+1).tdiv 2,v1))
  else
   gd (in64 ((v0+v1+1).tdiv 2 - 1)∧True) <|
   g1 ((v0,(v0+v1+1).tdiv 2 - 1))
 else
  u154J0 v0
def u154 (a0:Int):Option (Int) :=
 lp (u154L1 a0) (0,3000000000)
def u102 (a0:Int) (a1:Int) (a2:Int):Option (Int) :=
 gd (in64 (500*a0)∧in64 (500*a0*500)∧in64 (500*a0*500*a0)∧in64 (a1*a1)∧in64 (500*a0*500*a0+a1*a1)∧True) <|
 gd ((u154 (500*a0*500*a0+a1*a1)).isSome=true∧True)<|lt (vl (u154 (500*a0*500*a0+a1*a1))) fun v0 =>
 gd (((a2==1)=true∧True→in64 (v0*v0))∧True) <|
 if (a2==1&&decide (v0*v0 < 500*a0*500*a0+a1*a1))=true then
  gd ((0:Int) < (500:Int)∧in64 (v0.tdiv (500:Int)+(1:Int))∧True) <|
  some (v0.tdiv 500+1)
 else
  gd ((u114 v0 500 a2).isSome=true∧True)<|lt (vl (u114 v0 500 a2)) fun v1 =>
  some v1
def u209 (a0:Int):Option (Bool) :=
 some (a0 != a0)
def u227 (a0:Int):Option (Bool) :=
 some (a0 != a0)
def u208 (a0:Int) (a1:Int):Option (Bool) :=
 gd ((u227 a0).isSome=true∧(vl (u227 a0)=true∧True→(u227 a1).isSome=true)∧True) <|
 some (vl (u227 a0)&&!vl (u227 a1)||decide (a0 < a1))
def u183J0 (a0:List Int) (a1:Int):Int→Option (Int×Bool)
 | v3 =>
 gd ((decide (v3 < (↑a0.length:Int))=true∧True→ix v3 a0.length)∧((a0.getD v3.toNat 0==a1)=false∧decide (v3 < (↑a0.length:Int))=true∧True→ix v3 a0.length)∧((a0.getD v3.toNat 0==a1)=false∧decide (v3 < (↑a0.length:Int))=true∧True→(u209 (a0.getD v3.toNat 0)).isSome=true)∧(vl (u209 (a0.getD v3.toNat 0))=true∧(a0.getD v3.toNat 0==a1)=false∧decide (v3 < (↑a0.length:Int))=true∧True→(u209 a1).isSome=true)∧True) <|
 some ((v3,decide (v3 < (↑a0.length:Int))&&(a0.getD v3.toNat 0==a1||vl (u209 (a0.getD v3.toNat 0))&&vl (u209 a1))))
def u183L1 (a0:List Int) (a1:Int) (g1:Int×Int→Option (Int×Bool)):Int×Int→Option (Int×Bool)
 | (v1,v2) =>
 if (decide (v1 < v2))=true then
  gd (in64 (v1+v2)∧((0:Int)≤v1+v2∧v1+v2≤(18446744073709551615:Int))∧(((0:Int)≤(1:Int)∧(1:Int)≤(62:Int))∧(0:Int)≤(v1+v2).fdiv ((2:Int) ^ Int.toNat (1:Int))∧(v1+v2).fdiv ((2:Int) ^ Int.toNat (1:Int))≤(18446744073709551615:Int))∧in64 ((v1+v2).fdiv ((2:Int) ^ Int.toNat (1:Int)))∧True) <|
  gd (ix ((v1+v2).fdiv ((2:Int) ^ Int.toNat (1:Int))) a0.length∧(u208 (a0.getD ((v1+v2).fdiv ((2:Int) ^ Int.toNat (1:Int))).toNat (0:Int)) a1).isSome=true∧True) <|
  if (vl (u208 (a0.getD ((v1+v2).fdiv ((2:Int) ^ Int.toNat (1:Int))).toNat (0:Int)) a1))=true then
   gd (in64 ((v1+v2).fdiv ((2:Int) ^ Int.toNat (1:Int))+(1:Int))∧True) <|
   g1 (((v1+v2).fdiv ((2:Int) ^ Int.toNat (1:Int))+(1:Int),v2))
  else
   g1 ((v1,(v1+v2).fdiv ((2:Int) ^ Int.toNat (1:Int))))
 else
  u183J0 a0 a1 v1
def u183 (a0:List Int) (a1:Int):Option (Int×Bool) :=
 lp (u183L1 a0 a1) ((0,(↑a0.length:Int)))
def u153 (a0:List Int) (a1:Int):Option (List Y219×Int) :=
 gd (ix 0 a0.length∧in64 ((↑a0.length:Int) - 1)∧ix ((↑a0.length:Int) - 1) a0.length∧True)<|lt (min (max a1 (a0.getD (Int.toNat (0:Int)) (0:Int))) (a0.getD ((↑a0.length:Int) - (1:Int)).toNat (0:Int))) fun v0 =>
 gd ((u183 a0 v0).isSome=true∧True)<|lt (vl (u183 a0 v0)) fun v1 =>
 if v1.2=true then
  some (([(v1.1,(1:Int))],(1:Int)))
 else
  gd (in64 (v1.1 - 1)∧ix v1.1 a0.length∧in64 (a0.getD v1.1.toNat 0 - v0)∧in64 (v1.1 - 1)∧ix (v1.1 - 1) a0.length∧in64 (v0 - a0.getD (v1.1 - 1).toNat 0)∧ix v1.1 a0.length∧in64 (v1.1 - 1)∧ix (v1.1 - 1) a0.length∧in64 (a0.getD v1.1.toNat 0 - a0.getD (v1.1 - 1).toNat 0)∧True)<|lt ([(v1.1 - 1,a0.getD v1.1.toNat 0 - v0),(v1.1,v0 - a0.getD (v1.1 - 1).toNat 0)]) fun v2 =>
  some ((v2,a0.getD v1.1.toNat 0 - a0.getD (v1.1 - 1).toNat 0))
def u101J0 (v0:List Y219×Int) (v1:List Y219×Int) (a3:Int):Int→Option (Int)
 | v20 =>
 gd (in64 (v0.2*v1.2)∧(u114 v20 (v0.2*v1.2) a3).isSome=true∧True)<|lt (vl (u114 v20 (v0.2*v1.2) a3)) fun v21 =>
 some v21
def u101J2 (v11:Int) (g1:Int×Int→Option (Int)):Int→Option (Int)
 | v19 =>
 gd (in64 (v11+1)∧True) <|
 g1 (v19,v11+1)
def u101L3 (a0:Y106) (v12:Y219) (v1:List Y219×Int) (v11:Int) (g1:Int×Int→Option (Int)) (g3:Int×Int→Option (Int)):Int×Int→Option (Int)
 | (v15,v16) =>
 if (decide (v16 < (↑v1.1.length:Int)))=true then
  gd (ix v16 v1.1.length∧v16.toNat < v1.1.length∧True)<|lt (v1.1.getD v16.toNat (dflt y219)) fun v17 =>
  gd (in64 (v12.1*(↑a0.2.1.length:Int))∧in64 (v12.1*(↑a0.2.1.length:Int)+v17.1)∧ix (v12.1*(↑a0.2.1.length:Int)+v17.1) a0.2.2.length∧in64 (a0.2.2.getD (v12.1*(↑a0.2.1.length:Int)+v17.1).toNat 0*v12.2)∧in64 (a0.2.2.getD (v12.1*(↑a0.2.1.length:Int)+v17.1).toNat 0*v12.2*v17.2)∧in64 (v15+a0.2.2.getD (v12.1*(↑a0.2.1.length:Int)+v17.1).toNat 0*v12.2*v17.2)∧True)<|lt (v15+a0.2.2.getD (v12.1*(↑a0.2.1.length:Int)+v17.1).toNat 0*v12.2*v17.2) fun v18 =>
  gd (in64 (v16+1)∧True) <|
  g3 (v18,v16+1)
 else
  u101J2 v11 g1 v15
def u101L1 (a0:Y106) (v1:List Y219×Int) (v0:List Y219×Int) (a3:Int) (g1:Int×Int→Option (Int)):Int×Int→Option (Int)
 | (v10,v11) =>
 if (decide (v11 < (↑v0.1.length:Int)))=true then
  gd (ix v11 v0.1.length∧v11.toNat < v0.1.length∧True)<|lt (v0.1.getD v11.toNat (dflt y219)) fun v12 =>
  lp (u101L3 a0 v12 v1 v11 g1) (v10,0)
 else
  u101J0 v0 v1 a3 v10
def u101 (a0:Y106) (a1:Int) (a2:Int) (a3:Int):Option (Int) :=
 gd ((u153 a0.1 a1).isSome=true∧True)<|lt (vl (u153 a0.1 a1)) fun v0 =>
 gd ((u153 a0.2.1 a2).isSome=true∧True)<|lt (vl (u153 a0.2.1 a2)) fun v1 =>
 lp (u101L1 a0 v1 v0 a3) (0,0)
def u58 (a0:Y110) (a1:Y83):Option (Y102) :=
 gd ((0:Int) < (2:Int)∧ix (a1.2.1.tdiv (2:Int)) a0.2.1.length∧ix (a0.2.1.getD (a1.2.1.tdiv (2:Int)).toNat (dflt y159)).1 a0.1.2.1.1.length∧True)<|lt (a0.1.2.1.1.getD (a0.2.1.getD (a1.2.1.tdiv 2).toNat (dflt y159)).1.toNat (dflt y147)) fun v0 =>
 gd (ix v0.2.1 a0.1.1.length∧ix a1.2.2.2 (a0.1.1.getD v0.2.1.toNat (dflt y145)).2.2.2.1.length∧True)<|lt ((a0.1.1.getD v0.2.1.toNat (dflt y145)).2.2.2.1.getD a1.2.2.2.toNat (dflt y102)) fun v1 =>
 some v1
def u100 (a0:Y110) (a1:Y83):Option (Int) :=
 gd ((0:Int) < (2:Int)∧ix (a1.2.1.tdiv (2:Int)) a0.2.1.length∧True)<|lt (a0.2.1.getD (a1.2.1.tdiv 2).toNat (dflt y159)) fun v0 =>
 some v0.2.2.1
def u48 (a0:Y110) (a1:Int) (a2:Int) (a3:Int):Option (Int) :=
 gd (ix a1 a0.2.2.1.length∧True)<|lt (a0.2.2.1.getD a1.toNat (dflt y83)) fun v0 =>
 gd ((u100 a0 v0).isSome=true∧True)<|lt (vl (u100 a0 v0)) fun v1 =>
 if (v0.2.2.1==1)=true then
  gd ((u58 a0 v0).isSome=true∧(0:Int) < (2:Int)∧ix (v0.2.1.tmod (2:Int)) (vl (u58 a0 v0)).2.2.2.2.2.length∧ix v1 a0.2.2.2.1.length∧(u101 ((vl (u58 a0 v0)).2.2.2.2.2.getD (v0.2.1.tmod (2:Int)).toNat (dflt y106)) a2 (a0.2.2.2.1.getD v1.toNat (0:Int)) a3).isSome=true∧True)<|lt (vl (u101 ((vl (u58 a0 v0)).2.2.2.2.2.getD (v0.2.1.tmod 2).toNat (dflt y106)) a2 (a0.2.2.2.1.getD v1.toNat 0) a3)) fun v2 =>
  some (min v2 1000000)
 else
  gd (ix v1 a0.2.2.2.2.1.length∧ix v0.2.2.2 (List.length (a0.2.2.2.2.1.getD v1.toNat []))∧(u102 a2 (List.getD (a0.2.2.2.2.1.getD v1.toNat []) v0.2.2.2.toNat 0) a3).isSome=true∧True)<|lt (vl (u102 a2 (List.getD (a0.2.2.2.2.1.getD v1.toNat []) v0.2.2.2.toNat 0) a3)) fun v3 =>
  some (min v3 1000000)
def u47 (a0:Int):Option (Bool) :=
 some (a0==0||a0==1)
def u98 (a0:Int) (a1:Int) (a2:Int):Option (Bool) :=
 some (decide (a1≤a0)&&decide (a0≤a2))
def k98:Ct:=lct 98 [.dat i64,.dat i64,.dat i64] (fun x=>u98 x.1 x.2.1 x.2.2.1) (fun r:Bool=>B r) (fun _=>())
theorem o98:Ok Tryz.prog k98:=by
 refine okL [.tmp 6] Tryz.func98 Tryz.ntmps98 Tryz.results98 ?_
 intro y ⟨a0,a1,a2,_⟩ r H Q hn hr
 have:HT _ _:=⟨@tn Tryz.prog⟩
 refine qA (Z [p 0 (J a0),p 1 (J a1),p 2 (J a2)] []) <|
  qA (Z [p 6 (B (decide (a1≤a0)&&decide (a0≤a2)))] []) <|
  vx_ret<|hr H
def u46 (a0:Int):Option (Bool) :=
 gd ((u98 a0 0 1000000).isSome=true∧True) <|
 some (vl (u98 a0 0 1000000))
def u99 (a0:List Y83):Option (Int) :=
 some (↑a0.length:Int)
def k99:Ct:=lct 99 [.dat y83.sl] (fun x=>u99 x.1) (fun r:Int=>I r) (fun _=>())
theorem o99:Ok Tryz.prog k99:=by
 refine okL [.tmp 2] Tryz.func99 Tryz.ntmps99 Tryz.results99 ?_
 intro y ⟨a0,_⟩ r H Q hn hr
 have:HT _ _:=⟨@tn Tryz.prog⟩
 refine qA (Z [p 0 (L y83 a0)] []) <|
  qA (Z [p 2 (I (↑a0.length:Int))] []) <|
  vx_ret<|hr H
def u45 (a0:Y110) (a1:Int):Option (Bool) :=
 gd ((u99 a0.2.2.1).isSome=true∧in64 (vl (u99 a0.2.2.1) - 1)∧(u98 a1 0 (vl (u99 a0.2.2.1) - 1)).isSome=true∧True) <|
 some (vl (u98 a1 0 (vl (u99 a0.2.2.1) - 1)))
def k45:Ct:=lct 45 [.dat y110.pt,.dat i64] (fun x=>u45 x.1 x.2.1) (fun r:Bool=>B r) (fun _=>())
def u151 (a0:Y42) (a1:List Y145) (a2:Y159):Option (Int) :=
 if (decide (a2.1 < 0))=true then
  some 0
 else
  gd (ix a2.1 a0.1.length∧ix (a0.1.getD a2.1.toNat (dflt y147)).2.1 a1.length∧ix a2.2.1 (a1.getD (a0.1.getD a2.1.toNat (dflt y147)).2.1.toNat (dflt y145)).2.2.1.length∧True)<|lt ((a1.getD (a0.1.getD a2.1.toNat (dflt y147)).2.1.toNat (dflt y145)).2.2.1.getD a2.2.1.toNat (dflt y241)) fun v0 =>
  some v0.2.2.1
def k151:Ct:=lct 151 [.agg y42,.agg y145.sl,.agg y159] (fun x=>u151 x.1 x.2.1 x.2.2.1) (fun r:Int=>I r) (fun _=>())
theorem o151:Ok Tryz.prog k151:=by
 refine okL [.tmp 6] Tryz.func151 Tryz.ntmps151 Tryz.results151 ?_
 intro y ⟨a0,a1,a2,_⟩ r H Q hn hr
 have:HT _ _:=⟨@tn Tryz.prog⟩
 refine qA (Z [p 3 (R 3),p 4 (R 4),p 5 (R 5)] [(5,K 159 y159 a2),(4,Ob.box 38 [L y145 a1]),(3,K 42 y42 a0)]) <|
  vx_seq <|
  qA (Z [p 3 (R 3),p 4 (R 4),p 5 (R 5),p 9 (B (decide (a2.1 < 0)))] [(5,K 159 y159 a2),(4,Ob.box 38 [L y145 a1]),(3,K 42 y42 a0)]) <|
  cD H (fun H=>?_) (fun H=>?_)
 ·refine qA (Z [p 6 (I 0)] [(5,K 159 y159 a2),(4,Ob.box 38 [L y145 a1]),(3,K 42 y42 a0)]) <|
   vx_ret<|fx_seq_ret<|hr H
 refine vx_skip<|fx_seq <|
  qD (fun v0=>Z [p 6 (J v0.2.2.1)] [(5,K 159 y159 a2),(4,Ob.box 38 [L y145 a1]),(3,K 42 y42 a0)]) H fun v0 H =>
  vx_ret<|hr H
def u92J4:List Y159→Option (List Y159)
 | v24 =>
 some v24
def u92L5 (a0:Y42) (g5:Int×List Y159→Option (List Y159)):Int×List Y159→Option (List Y159)
 | (v21,v22) =>
 if (decide (v21 < (↑a0.2.2.length:Int)))=true then
  gd (ix v21 a0.2.2.length∧True)<|lt (a0.2.2.getD v21.toNat (dflt y199)) fun v23 =>
  gd ((v22.length+[(-1,v21,v23.2.2,v23.2.1==1)].length≤9223372036854775807∧(v22.length+[(-1,v21,v23.2.2,v23.2.1==1)].length)*32≤140737488355328)∧True) <|
  gd (in64 (v21+1)∧True) <|
  g5 ((v21+1,v22++[(-1,v21,v23.2.2,v23.2.1==1)]))
 else
  u92J4 v22
def u92J0 (a0:Y42):List Y159→Option (List Y159)
 | v17 =>
 lp (u92L5 a0) (0,v17)
def u92J2 (v8:Int) (g1:List Y159×Int→Option (List Y159)):List Y159→Option (List Y159)
 | v16 =>
 gd (in64 (v8+1)∧True) <|
 g1 (v16,v8+1)
def u92L3 (v8:Int) (v9:Y147) (g1:List Y159×Int→Option (List Y159)) (g3:Int×List Y159→Option (List Y159)):Int×List Y159→Option (List Y159)
 | (v12,v13) =>
 if (decide (v12 < (↑v9.2.2.length:Int)))=true then
  gd (ix v12 v9.2.2.length∧True) <|
  gd (in64 ((↑v9.2.2.length:Int) - 1)∧(v13.length+[(v8,v12,v9.2.2.getD v12.toNat 0,v12==(↑v9.2.2.length:Int) - 1)].length≤9223372036854775807∧(v13.length+[(v8,v12,v9.2.2.getD v12.toNat 0,v12==(↑v9.2.2.length:Int) - 1)].length)*32≤140737488355328)∧True)<|lt ((v13++[(v8,v12,v9.2.2.getD v12.toNat 0,v12==(↑v9.2.2.length:Int) - 1)],[(v8,v12,v9.2.2.getD v12.toNat 0,v12==(↑v9.2.2.length:Int) - 1)])) fun (v14,v15) =>
  gd (in64 (v12+1)∧True) <|
  g3 (v12+1,v14)
 else
  u92J2 v8 g1 v13
def u92L1 (a0:Y42) (g1:List Y159×Int→Option (List Y159)):List Y159×Int→Option (List Y159)
 | (v7,v8) =>
 if (decide (v8 < (↑a0.1.length:Int)))=true then
  gd (ix v8 a0.1.length∧True)<|lt (a0.1.getD v8.toNat (dflt y147)) fun v9 =>
  lp (u92L3 v8 v9 g1) (0,v7)
 else
  u92J0 a0 v7
def u92 (a0:Y42):Option (List Y159) :=
 lp (u92L1 a0) ([],0)
def k92:Ct:=lct 92 [.agg y42] (fun x=>u92 x.1) (fun r:List Y159=>AV.ow 159 true y159 r) (fun _=>())
theorem o92:Ok Tryz.prog k92:=by
 refine okL [.tmp 2] Tryz.func92 Tryz.ntmps92 Tryz.results92 ?_
 intro y ⟨a0,_⟩ r H Q hn hr
 have:HT _ _:=⟨@tn Tryz.prog⟩
 refine qA (Z [p 1 (R 1)] [(1,K 42 y42 a0)]) <|
  qA (Z [p 1 (R 1),p 3 (nil)] [(1,K 42 y42 a0)]) <|
  jN r (fun (v17:List Y159)=>Z [p 1 (R 1),p 3 (O 38)] [(1,K 42 y42 a0),(38,A 159 y159 v17 0)]) (u92J0 a0) (fun v17 H=>?_) (fun _ n0 e0 t0=>?_)
 ·refine jN r (fun (v24:List Y159)=>Z [p 3 (O 38)] [(38,A 159 y159 v24 0)]) (u92J4) (fun v24 H=>?_) (fun _ n4 e4 t4=>?_)
  ·refine qA (Z [p 2 (O 38)] [(38,A 159 y159 v24 0)]) <|
    vx_ret<|hr H
  refine qA (Z [p 3 (O 38),p 42 (L y199 a0.2.2),p 43 (I (↑a0.2.2.length:Int)),p 44 (I 0)] [(1,K 42 y42 a0),(38,A 159 y159 v17 0)]) <|
   vx_block <|
   lX (fun ((v21,v22):Int×List Y159)=>Z [p 3 (O 38),p 42 (L y199 a0.2.2),p 43 (I (↑a0.2.2.length:Int)),p 44 (I v21)] [(38,A 159 y159 v22 0)]) (0,v17) H fun _ g5 b5 e5 t5 ⟨v21,v22⟩ H =>
   qA (Z [p 3 (O 38),p 42 (L y199 a0.2.2),p 43 (I (↑a0.2.2.length:Int)),p 44 (I v21),p 45 (B (decide (v21 < (↑a0.2.2.length:Int))))] [(38,A 159 y159 v22 0)]) <|
   vx_seq <|
   cD H (fun H=>?_) (fun H=>?_)
  ·refine vx_skip<|fx_seq<|vx_seq<|vx_block <|
    qD (fun v23=>Z [p 3 (O 38),p 8 (I v21),p 9 (R 9),p 42 (L y199 a0.2.2),p 43 (I (↑a0.2.2.length:Int)),p 44 (I v21)] [(9,K 199 y199 v23),(38,A 159 y159 v22 0)]) H fun v23 H =>
    zB (Z [p 3 (AV.os 38 1),p 42 (L y199 a0.2.2),p 43 (I (↑a0.2.2.length:Int)),p 44 (I v21)] [(38,A 159 y159 (v22++[(-1,v21,v23.2.2,v23.2.1==1)]) 1),(57,A 159 y159 [(-1,v21,v23.2.2,v23.2.1==1)] 0),(9,K 199 y199 v23)]) H fun H =>
    fx_blk<|fx_seq <|
    zB (Z [p 3 (AV.os 38 1),p 42 (L y199 a0.2.2),p 43 (I (↑a0.2.2.length:Int)),p 44 (I (v21+1))] [(38,A 159 y159 (v22++[(-1,v21,v23.2.2,v23.2.1==1)]) 1),(57,A 159 y159 [(-1,v21,v23.2.2,v23.2.1==1)] 0),(9,K 199 y199 v23)]) H fun H =>
    b5 H
  exact vx_exit<|fx_seq_exit<|e5<|fx_blk_exit rfl<|n4 H
 refine qA (Z [p 1 (R 1),p 3 (nil),p 11 (L y147 a0.1),p 12 (I (↑a0.1.length:Int)),p 13 (I 0)] [(1,K 42 y42 a0)]) <|
  vx_block <|
  lX (fun ((v7,v8):List Y159×Int)=>Z [p 1 (R 1),p 3 (O 38),p 11 (L y147 a0.1),p 12 (I (↑a0.1.length:Int)),p 13 (I v8)] [(1,K 42 y42 a0),(38,A 159 y159 v7 0)]) ([],0) H fun _ g1 b1 e1 t1 ⟨v7,v8⟩ H =>
  qA (Z [p 1 (R 1),p 3 (O 38),p 11 (L y147 a0.1),p 12 (I (↑a0.1.length:Int)),p 13 (I v8),p 14 (B (decide (v8 < (↑a0.1.length:Int))))] [(1,K 42 y42 a0),(38,A 159 y159 v7 0)]) <|
  vx_seq <|
  cD H (fun H=>?_) (fun H=>?_)
 ·refine vx_skip<|fx_seq <|
   jN r (fun (v16:List Y159)=>Z [p 1 (R 1),p 3 (O 38),p 11 (L y147 a0.1),p 12 (I (↑a0.1.length:Int)),p 13 (I v8)] [(1,K 42 y42 a0),(38,A 159 y159 v16 0)]) (u92J2 v8 g1) (fun v16 H=>?_) (fun _ n2 e2 t2=>?_)
  ·refine zB (Z [p 1 (R 1),p 3 (O 38),p 11 (L y147 a0.1),p 12 (I (↑a0.1.length:Int)),p 13 (I (v8+1))] [(1,K 42 y42 a0),(38,A 159 y159 v16 0)]) H fun H =>
    b1 H
  refine vx_block <|
   qD (fun v9=>Z [p 1 (R 1),p 3 (O 38),p 4 (I v8),p 5 (R 5),p 11 (L y147 a0.1),p 12 (I (↑a0.1.length:Int)),p 13 (I v8)] [(5,K 147 y147 v9),(1,K 42 y42 a0),(38,A 159 y159 v7 0)]) H fun v9 H =>
   qA (Z [p 1 (R 1),p 3 (O 38),p 4 (I v8),p 5 (R 5),p 11 (L y147 a0.1),p 12 (I (↑a0.1.length:Int)),p 13 (I v8),p 19 (L i64 v9.2.2),p 20 (I (↑v9.2.2.length:Int)),p 21 (I 0)] [(5,K 147 y147 v9),(1,K 42 y42 a0),(38,A 159 y159 v7 0)]) <|
   vx_block <|
   lX (fun ((v12,v13):Int×List Y159)=>Z [p 1 (R 1),p 3 (O 38),p 4 (I v8),p 5 (R 5),p 11 (L y147 a0.1),p 12 (I (↑a0.1.length:Int)),p 13 (I v8),p 19 (L i64 v9.2.2),p 20 (I (↑v9.2.2.length:Int)),p 21 (I v12)] [(5,K 147 y147 v9),(1,K 42 y42 a0),(38,A 159 y159 v13 0)]) (0,v7) H fun _ g3 b3 e3 t3 ⟨v12,v13⟩ H =>
   qA (Z [p 1 (R 1),p 3 (O 38),p 4 (I v8),p 5 (R 5),p 11 (L y147 a0.1),p 12 (I (↑a0.1.length:Int)),p 13 (I v8),p 19 (L i64 v9.2.2),p 20 (I (↑v9.2.2.length:Int)),p 21 (I v12),p 22 (B (decide (v12 < (↑v9.2.2.length:Int))))] [(5,K 147 y147 v9),(1,K 42 y42 a0),(38,A 159 y159 v13 0)]) <|
   vx_seq <|
   cD H (fun H=>?_) (fun H=>?_)
  ·refine vx_skip<|fx_seq<|vx_seq<|vx_block <|
    qB (Z [p 1 (R 1),p 3 (O 38),p 4 (I v8),p 5 (R 5),p 6 (I v12),p 7 (J (v9.2.2.getD v12.toNat 0)),p 11 (L y147 a0.1),p 12 (I (↑a0.1.length:Int)),p 13 (I v8),p 19 (L i64 v9.2.2),p 20 (I (↑v9.2.2.length:Int)),p 21 (I v12)] [(5,K 147 y147 v9),(1,K 42 y42 a0),(38,A 159 y159 v13 0)]) H fun H =>
    zD (fun (v14,v15)=>Z [p 1 (R 1),p 3 (AV.os 38 1),p 4 (I v8),p 5 (R 5),p 11 (L y147 a0.1),p 12 (I (↑a0.1.length:Int)),p 13 (I v8),p 19 (L i64 v9.2.2),p 20 (I (↑v9.2.2.length:Int)),p 21 (I v12)] [(38,A 159 y159 v14 1),(37,A 159 y159 v15 0),(5,K 147 y147 v9),(1,K 42 y42 a0)]) H fun ⟨v14,v15⟩ H =>
    fx_blk<|fx_seq <|
    zB (Z [p 1 (R 1),p 3 (AV.os 38 1),p 4 (I v8),p 5 (R 5),p 11 (L y147 a0.1),p 12 (I (↑a0.1.length:Int)),p 13 (I v8),p 19 (L i64 v9.2.2),p 20 (I (↑v9.2.2.length:Int)),p 21 (I (v12+1))] [(38,A 159 y159 v14 1),(37,A 159 y159 v15 0),(5,K 147 y147 v9),(1,K 42 y42 a0)]) H fun H =>
    b3 H
  exact vx_exit<|fx_seq_exit<|e3<|fx_blk_exit rfl<|fx_blk<|n2 H
 exact vx_exit<|fx_seq_exit<|e1<|fx_blk_exit rfl<|n0 H
def u150J0:List Int→Option (List Int)
 | v7 =>
 some v7
def u150J2 (v4:Int) (g1:List Int×Int→Option (List Int)):List Int→Option (List Int)
 | v6 =>
 gd (in64 (v4+1)∧True) <|
 g1 (v6,v4+1)
def u150L1 (a1:Int) (v0:List Y159) (g1:List Int×Int→Option (List Int)):List Int×Int→Option (List Int)
 | (v3,v4) =>
 if (decide (v4 < (↑v0.length:Int)))=true then
  gd (ix v4 v0.length∧v4.toNat < v0.length∧True)<|lt (v0.getD v4.toNat (dflt y159)) fun v5 =>
  if (v5.2.2.1==a1&&!v5.2.2.2)=true then
   gd ((v3.length+[v4].length≤9223372036854775807∧(v3.length+[v4].length)*8≤140737488355328)∧True) <|
   u150J2 v4 g1 (v3++[v4])
  else
   u150J2 v4 g1 v3
 else
  u150J0 v3
def u150 (a0:Y42) (a1:Int):Option (List Int) :=
 gd ((u92 a0).isSome=true∧True)<|lt (vl (u92 a0)) fun v0 =>
 lp (u150L1 a1 v0) ([],0)
def k150:Ct:=lct 150 [.agg y42,.dat i64] (fun x=>u150 x.1 x.2.1) (fun r:List Int=>AV.ow 2 true i64 r) (fun _=>())
theorem o150:Ok Tryz.prog k150:=by
 refine okL [.tmp 4] Tryz.func150 Tryz.ntmps150 Tryz.results150 ?_
 intro y ⟨a0,a1,_⟩ r H Q hn hr
 have:HT _ _:=⟨tc o92 tn⟩
 refine qA (Z [p 1 (J a1),p 2 (R 2)] [(2,K 42 y42 a0)]) <|
  qA (Z [p 1 (J a1),p 2 (R 2),p 5 (nil)] [(2,K 42 y42 a0)]) <|
  jN r (fun (v7:List Int)=>Z [p 5 (O 28)] [(28,A 2 i64 v7 0)]) (u150J0) (fun v7 H=>?_) (fun _ n0 e0 t0=>?_)
 ·refine qA (Z [p 4 (O 28)] [(28,A 2 i64 v7 0)]) <|
   vx_ret<|hr H
 refine qD (fun v0=>Z [p 1 (J a1),p 5 (nil),p 9 (O 9),p 10 (I (↑v0.length:Int)),p 11 (I 0)] [(9,A 159 y159 v0 0),(2,K 42 y42 a0)]) H fun v0 H =>
  vx_block <|
  lX (fun ((v3,v4):List Int×Int)=>Z [p 1 (J a1),p 5 (O 28),p 9 (O 9),p 10 (I (↑v0.length:Int)),p 11 (I v4)] [(9,A 159 y159 v0 0),(28,A 2 i64 v3 0)]) ([],0) H fun _ g1 b1 e1 t1 ⟨v3,v4⟩ H =>
  qA (Z [p 1 (J a1),p 5 (O 28),p 9 (O 9),p 10 (I (↑v0.length:Int)),p 11 (I v4),p 12 (B (decide (v4 < (↑v0.length:Int))))] [(9,A 159 y159 v0 0),(28,A 2 i64 v3 0)]) <|
  vx_seq <|
  cD H (fun H=>?_) (fun H=>?_)
 ·refine vx_skip<|fx_seq <|
   jN r (fun (v6:List Int)=>Z [p 1 (J a1),p 5 (O 28),p 9 (O 9),p 10 (I (↑v0.length:Int)),p 11 (I v4)] [(28,A 2 i64 v6 0),(9,A 159 y159 v0 0)]) (u150J2 v4 g1) (fun v6 H=>?_) (fun _ n2 e2 t2=>?_)
  ·refine zB (Z [p 1 (J a1),p 5 (O 28),p 9 (O 9),p 10 (I (↑v0.length:Int)),p 11 (I (v4+1))] [(28,A 2 i64 v6 0),(9,A 159 y159 v0 0)]) H fun H =>
    b1 H
  refine vx_block <|
   qD (fun v5=>Z [p 1 (J a1),p 5 (O 28),p 6 (I v4),p 7 (R 7),p 9 (O 9),p 10 (I (↑v0.length:Int)),p 11 (I v4)] [(7,Ob.box 159 (cellsD true y159 v5)),(9,A 159 y159 v0 0),(28,A 2 i64 v3 0)]) H fun v5 H =>
   qA (Z [p 1 (J a1),p 5 (O 28),p 6 (I v4),p 9 (O 9),p 10 (I (↑v0.length:Int)),p 11 (I v4),p 24 (B (v5.2.2.1==a1&&!v5.2.2.2))] [(7,Ob.box 159 (cellsD true y159 v5)),(9,A 159 y159 v0 0),(28,A 2 i64 v3 0)]) <|
   cD H (fun H=>?_) (fun H=>?_)
  ·refine zB (Z [p 1 (J a1),p 5 (AV.os 28 1),p 9 (O 9),p 10 (I (↑v0.length:Int)),p 11 (I v4)] [(28,A 2 i64 (v3++[v4]) 1),(27,A 2 i64 [v4] 0),(7,Ob.box 159 (cellsD true y159 v5)),(9,A 159 y159 v0 0)]) H fun H =>
    fx_blk<|n2 H
  exact vx_skip<|fx_blk<|n2 H
 exact vx_exit<|fx_seq_exit<|e1<|fx_blk_exit rfl<|n0 H
def u96J2:List Int→Option (List Int)
 | v15 =>
 some v15
def u96L3 (v0:Y137) (g3:Int×List Int→Option (List Int)):Int×List Int→Option (List Int)
 | (v12,v13) =>
 if (decide (0 < v12))=true then
  gd (ix v12 v0.1.length∧ix (v0.1.getD v12.toNat 0) v13.length∧Int.toNat (v0.1.getD v12.toNat 0) < v13.length∧ix v12 v13.length∧v12.toNat < v13.length∧in64 (v13.getD (Int.toNat (v0.1.getD v12.toNat 0)) 0+v13.getD v12.toNat 0)∧ix (v0.1.getD v12.toNat 0) v13.length∧Int.toNat (v0.1.getD v12.toNat 0) < v13.length∧True)<|lt (v13.set (Int.toNat (v0.1.getD v12.toNat 0)) (v13.getD (Int.toNat (v0.1.getD v12.toNat 0)) 0+v13.getD v12.toNat 0)) fun v14 =>
  gd (in64 (v12 - 1)∧True) <|
  g3 (v12 - 1,v14)
 else
  u96J2 v13
def u96J0 (v0:Y137):List Int→Option (List Int)
 | v10 =>
 gd (in64 ((↑v10.length:Int) - 1)∧True) <|
 lp (u96L3 v0) (((↑v10.length:Int) - 1,v10))
def u96L1 (a0:Y45) (v2:List Y159) (v3:List Int) (v0:Y137) (g1:Int×List Int→Option (List Int)):Int×List Int→Option (List Int)
 | (v6,v7) =>
 if (decide (v6 < (↑v3.length:Int)))=true then
  gd (ix v6 v3.length∧v6.toNat < v3.length∧True) <|
  gd (ix v6 v0.2.2.2.length∧ix (v0.2.2.2.getD v6.toNat 0) v7.length∧Int.toNat (v0.2.2.2.getD v6.toNat 0) < v7.length∧ix (v3.getD v6.toNat 0) v2.length∧Int.toNat (v3.getD v6.toNat 0) < v2.length∧(u151 a0.2.1 a0.1 (v2.getD (Int.toNat (v3.getD v6.toNat 0)) (dflt y159))).isSome=true∧in64 (v7.getD (Int.toNat (v0.2.2.2.getD v6.toNat 0)) 0+vl (u151 a0.2.1 a0.1 (v2.getD (Int.toNat (v3.getD v6.toNat 0)) (dflt y159))))∧ix (v0.2.2.2.getD v6.toNat 0) v7.length∧Int.toNat (v0.2.2.2.getD v6.toNat 0) < v7.length∧True)<|lt ((vl (u151 a0.2.1 a0.1 (v2.getD (Int.toNat (v3.getD v6.toNat 0)) (dflt y159))),v7.set (Int.toNat (v0.2.2.2.getD v6.toNat 0)) (v7.getD (Int.toNat (v0.2.2.2.getD v6.toNat 0)) 0+vl (u151 a0.2.1 a0.1 (v2.getD (Int.toNat (v3.getD v6.toNat 0)) (dflt y159)))))) fun (v8,v9) =>
  gd (in64 (v6+1)∧True) <|
  g1 (v6+1,v9)
 else
  u96J0 v0 v7
def u96 (a0:Y45) (a1:Int):Option (List Int) :=
 gd (ix a1 a0.2.2.length∧True)<|lt (a0.2.2.getD a1.toNat (dflt y137)) fun v0 =>
 gd ((u149 v0.2.2.1).isSome=true∧True)<|lt (vl (u149 v0.2.2.1)) fun v1 =>
 gd ((u92 a0.2.1).isSome=true∧True)<|lt (vl (u92 a0.2.1)) fun v2 =>
 gd ((u150 a0.2.1 a1).isSome=true∧True)<|lt (vl (u150 a0.2.1 a1)) fun v3 =>
 lp (u96L1 a0 v2 v3 v0) (0,v1)
def k96:Ct:=lct 96 [.agg y45,.dat i64] (fun x=>u96 x.1 x.2.1) (fun r:List Int=>AV.ow 2 true i64 r) (fun _=>())
theorem o96:Ok Tryz.prog k96:=by
 refine okL [.tmp 4] Tryz.func96 Tryz.ntmps96 Tryz.results96 ?_
 intro y ⟨a0,a1,_⟩ r H Q hn hr
 have:HT _ _:=⟨tc o151 (tc o150 (tc o92 (tc o149 tn)))⟩
 refine qA (Z [p 1 (J a1),p 2 (R 2)] [(2,K 45 y45 a0)]) <|
  qD (fun v0=>Z [p 1 (J a1),p 2 (R 2),p 5 (R 5)] [(5,K 137 y137 v0),(2,K 45 y45 a0)]) H fun v0 H =>
  qD (fun v1=>Z [p 1 (J a1),p 2 (R 2),p 5 (R 5),p 6 (O 18)] [(18,A 2 i64 v1 0),(5,K 137 y137 v0),(2,K 45 y45 a0)]) H fun v1 H =>
  qD (fun v2=>Z [p 1 (J a1),p 2 (R 2),p 5 (R 5),p 6 (O 18),p 7 (O 21)] [(21,A 159 y159 v2 0),(18,A 2 i64 v1 0),(5,K 137 y137 v0),(2,K 45 y45 a0)]) H fun v2 H =>
  jN r (fun (v10:List Int)=>Z [p 5 (R 5),p 6 (O 18)] [(18,A 2 i64 v10 0),(5,K 137 y137 v0)]) (u96J0 v0) (fun v10 H=>?_) (fun _ n0 e0 t0=>?_)
 ·refine jN r (fun (v15:List Int)=>Z [p 6 (O 18)] [(18,A 2 i64 v15 0)]) (u96J2) (fun v15 H=>?_) (fun _ n2 e2 t2=>?_)
  ·refine qA (Z [p 4 (O 18)] [(18,A 2 i64 v15 0)]) <|
    vx_ret<|hr H
  refine qB (Z [p 5 (R 5),p 6 (O 18),p 10 (I ((↑v10.length:Int) - 1))] [(18,A 2 i64 v10 0),(5,K 137 y137 v0)]) H fun H =>
   vx_block <|
   lX (fun ((v12,v13):Int×List Int)=>Z [p 5 (R 5),p 6 (O 18),p 10 (I v12)] [(18,A 2 i64 v13 0),(5,K 137 y137 v0)]) (((↑v10.length:Int) - 1,v10)) H fun _ g3 b3 e3 t3 ⟨v12,v13⟩ H =>
   vx_seq <|
   qA (Z [p 5 (R 5),p 6 (O 18),p 10 (I v12),p 56 (B (decide (0 < v12)))] [(18,A 2 i64 v13 0),(5,K 137 y137 v0)]) <|
   cD H (fun H=>?_) (fun H=>?_)
  ·refine vx_skip<|fx_seq<|vx_seq<|vx_block <|
    zD (fun v14=>Z [p 5 (R 5),p 6 (O 18),p 10 (I v12)] [(18,A 2 i64 v14 0),(5,K 137 y137 v0)]) H fun v14 H =>
    fx_blk<|fx_seq <|
    zB (Z [p 5 (R 5),p 6 (O 18),p 10 (I (v12 - 1))] [(18,A 2 i64 v14 0),(5,K 137 y137 v0)]) H fun H =>
    b3 H
  exact vx_exit<|fx_seq_exit<|e3<|fx_blk_exit rfl<|n2 H
 refine qD (fun v3=>Z [p 2 (R 2),p 5 (R 5),p 6 (O 18),p 7 (O 21),p 25 (O 25),p 26 (I (↑v3.length:Int)),p 27 (I 0)] [(25,A 2 i64 v3 0),(21,A 159 y159 v2 0),(18,A 2 i64 v1 0),(5,K 137 y137 v0),(2,K 45 y45 a0)]) H fun v3 H =>
  vx_block <|
  lX (fun ((v6,v7):Int×List Int)=>Z [p 2 (R 2),p 5 (R 5),p 6 (O 18),p 7 (O 21),p 25 (O 25),p 26 (I (↑v3.length:Int)),p 27 (I v6)] [(25,A 2 i64 v3 0),(21,A 159 y159 v2 0),(18,A 2 i64 v7 0),(5,K 137 y137 v0),(2,K 45 y45 a0)]) (0,v1) H fun _ g1 b1 e1 t1 ⟨v6,v7⟩ H =>
  qA (Z [p 2 (R 2),p 5 (R 5),p 6 (O 18),p 7 (O 21),p 25 (O 25),p 26 (I (↑v3.length:Int)),p 27 (I v6),p 28 (B (decide (v6 < (↑v3.length:Int))))] [(25,A 2 i64 v3 0),(21,A 159 y159 v2 0),(18,A 2 i64 v7 0),(5,K 137 y137 v0),(2,K 45 y45 a0)]) <|
  vx_seq <|
  cD H (fun H=>?_) (fun H=>?_)
 ·refine vx_skip<|fx_seq<|vx_seq<|vx_block <|
   qB (Z [p 2 (R 2),p 5 (R 5),p 6 (O 18),p 7 (O 21),p 8 (I v6),p 9 (I (v3.getD v6.toNat 0)),p 25 (O 25),p 26 (I (↑v3.length:Int)),p 27 (I v6)] [(25,A 2 i64 v3 0),(21,A 159 y159 v2 0),(18,A 2 i64 v7 0),(5,K 137 y137 v0),(2,K 45 y45 a0)]) H fun H =>
   zD (fun (v8,v9)=>Z [p 2 (R 2),p 5 (R 5),p 6 (O 18),p 7 (O 21),p 25 (O 25),p 26 (I (↑v3.length:Int)),p 27 (I v6)] [(18,A 2 i64 v9 0),(25,A 2 i64 v3 0),(21,A 159 y159 v2 0),(5,K 137 y137 v0),(2,K 45 y45 a0)]) H fun ⟨v8,v9⟩ H =>
   fx_blk<|fx_seq <|
   zB (Z [p 2 (R 2),p 5 (R 5),p 6 (O 18),p 7 (O 21),p 25 (O 25),p 26 (I (↑v3.length:Int)),p 27 (I (v6+1))] [(18,A 2 i64 v9 0),(25,A 2 i64 v3 0),(21,A 159 y159 v2 0),(5,K 137 y137 v0),(2,K 45 y45 a0)]) H fun H =>
   b1 H
 exact vx_exit<|fx_seq_exit<|e1<|fx_blk_exit rfl<|n0 H
def u152J0:List Int→Option (List Int)
 | v6 =>
 some v6
def u152L1 (v1:Y137) (v0:List Int) (g1:Int×List Int→Option (List Int)):Int×List Int→Option (List Int)
 | (v3,v4) =>
 if (decide (v3 < (↑v4.length:Int)))=true then
  gd (ix v3 v1.1.length∧ix (v1.1.getD v3.toNat 0) v4.length∧Int.toNat (v1.1.getD v3.toNat 0) < v4.length∧ix v3 v1.2.1.length∧ix v3 v0.length∧v3.toNat < v0.length∧in64 (v1.2.1.getD v3.toNat 0*v0.getD v3.toNat 0)∧in64 (v4.getD (Int.toNat (v1.1.getD v3.toNat 0)) 0+v1.2.1.getD v3.toNat 0*v0.getD v3.toNat 0)∧ix v3 v4.length∧v3.toNat < v4.length∧True)<|lt (v4.set v3.toNat (v4.getD (Int.toNat (v1.1.getD v3.toNat 0)) 0+v1.2.1.getD v3.toNat 0*v0.getD v3.toNat 0)) fun v5 =>
  gd (in64 (v3+1)∧True) <|
  g1 (v3+1,v5)
 else
  u152J0 v4
def u152 (a0:Y45) (a1:Int):Option (List Int) :=
 gd (ix a1 a0.2.2.length∧(u96 a0 a1).isSome=true∧True)<|lt ((vl (u96 a0 a1),a0.2.2.getD a1.toNat (dflt y137))) fun (v0,v1) =>
 gd ((0≤(↑v0.length:Int)∧(↑v0.length:Int)=(↑v0.length:Int)∧(↑v0.length:Int).toNat*8≤281474976710656∧(↑v0.length:Int)≤9223372036854775807)∧True) <|
 lp (u152L1 v1 v0) ((1,List.replicate (↑v0.length:Int).toNat 0))
def k152:Ct:=lct 152 [.agg y45,.dat i64] (fun x=>u152 x.1 x.2.1) (fun r:List Int=>AV.ow 2 true i64 r) (fun _=>())
theorem o152:Ok Tryz.prog k152:=by
 refine okL [.tmp 4] Tryz.func152 Tryz.ntmps152 Tryz.results152 ?_
 intro y ⟨a0,a1,_⟩ r H Q hn hr
 have:HT _ _:=⟨tc o96 tn⟩
 refine qA (Z [p 1 (J a1),p 2 (R 2)] [(2,K 45 y45 a0)]) <|
  qD (fun (v0,v1)=>Z [p 5 (R 5),p 6 (O 16)] [(5,K 137 y137 v1),(16,A 2 i64 v0 0),(2,K 45 y45 a0)]) H fun ⟨v0,v1⟩ H =>
  qB (Z [p 5 (R 5),p 6 (O 16),p 7 (O 19)] [(19,A 2 i64 (List.replicate (↑v0.length:Int).toNat 0) 0),(5,K 137 y137 v1),(16,A 2 i64 v0 0),(2,K 45 y45 a0)]) H fun H =>
  jN r (fun (v6:List Int)=>Z [p 7 (O 19)] [(19,A 2 i64 v6 0)]) (u152J0) (fun v6 H=>?_) (fun _ n0 e0 t0=>?_)
 ·refine qA (Z [p 4 (O 19)] [(19,A 2 i64 v6 0)]) <|
   vx_ret<|hr H
 refine qA (Z [p 5 (R 5),p 6 (O 16),p 7 (O 19),p 8 (I 1)] [(19,A 2 i64 (List.replicate (↑v0.length:Int).toNat 0) 0),(5,K 137 y137 v1),(16,A 2 i64 v0 0),(2,K 45 y45 a0)]) <|
  vx_block <|
  lX (fun ((v3,v4):Int×List Int)=>Z [p 5 (R 5),p 6 (O 16),p 7 (O 19),p 8 (I v3)] [(19,A 2 i64 v4 0),(5,K 137 y137 v1),(16,A 2 i64 v0 0)]) ((1,List.replicate (↑v0.length:Int).toNat 0)) H fun _ g1 b1 e1 t1 ⟨v3,v4⟩ H =>
  vx_seq <|
  qA (Z [p 5 (R 5),p 6 (O 16),p 7 (O 19),p 8 (I v3),p 23 (B (decide (v3 < (↑v4.length:Int))))] [(19,A 2 i64 v4 0),(5,K 137 y137 v1),(16,A 2 i64 v0 0)]) <|
  cD H (fun H=>?_) (fun H=>?_)
 ·refine vx_skip<|fx_seq<|vx_seq<|vx_block <|
   zD (fun v5=>Z [p 5 (R 5),p 6 (O 16),p 7 (O 19),p 8 (I v3)] [(19,A 2 i64 v5 0),(5,K 137 y137 v1),(16,A 2 i64 v0 0)]) H fun v5 H =>
   fx_blk<|fx_seq <|
   zB (Z [p 5 (R 5),p 6 (O 16),p 7 (O 19),p 8 (I (v3+1))] [(19,A 2 i64 v5 0),(5,K 137 y137 v1),(16,A 2 i64 v0 0)]) H fun H =>
   b1 H
 exact vx_exit<|fx_seq_exit<|e1<|fx_blk_exit rfl<|n0 H
def u97J0:List Int→Option (List Int)
 | v6 =>
 some v6
def u97L1 (v0:List Int) (v1:Y137) (g1:List Int×Int→Option (List Int)):List Int×Int→Option (List Int)
 | (v3,v4) =>
 if (decide (v4 < (↑v1.2.2.2.length:Int)))=true then
  gd (ix v4 v1.2.2.2.length∧True) <|
  gd (ix (v1.2.2.2.getD v4.toNat 0) v0.length∧Int.toNat (v1.2.2.2.getD v4.toNat 0) < v0.length∧(v3.length+[v0.getD (Int.toNat (v1.2.2.2.getD v4.toNat 0)) 0].length≤9223372036854775807∧(v3.length+[v0.getD (Int.toNat (v1.2.2.2.getD v4.toNat 0)) 0].length)*8≤140737488355328)∧True)<|lt (v3++[v0.getD (Int.toNat (v1.2.2.2.getD v4.toNat 0)) 0]) fun v5 =>
  gd (in64 (v4+1)∧True) <|
  g1 (v5,v4+1)
 else
  u97J0 v3
def u97 (a0:Y45) (a1:Int):Option (List Int) :=
 gd ((u152 a0 a1).isSome=true∧True)<|lt (vl (u152 a0 a1)) fun v0 =>
 gd (ix a1 a0.2.2.length∧True)<|lt (a0.2.2.getD a1.toNat (dflt y137)) fun v1 =>
 lp (u97L1 v0 v1) ([],0)
def k97:Ct:=lct 97 [.agg y45,.dat i64] (fun x=>u97 x.1 x.2.1) (fun r:List Int=>AV.ow 2 true i64 r) (fun _=>())
theorem o97:Ok Tryz.prog k97:=by
 refine okL [.tmp 4] Tryz.func97 Tryz.ntmps97 Tryz.results97 ?_
 intro y ⟨a0,a1,_⟩ r H Q hn hr
 have:HT _ _:=⟨tc o152 tn⟩
 refine qA (Z [p 1 (J a1),p 2 (R 2)] [(2,K 45 y45 a0)]) <|
  qD (fun v0=>Z [p 1 (J a1),p 2 (R 2),p 5 (O 11)] [(11,A 2 i64 v0 0),(2,K 45 y45 a0)]) H fun v0 H =>
  qA (Z [p 1 (J a1),p 2 (R 2),p 5 (O 11),p 6 (nil)] [(11,A 2 i64 v0 0),(2,K 45 y45 a0)]) <|
  jN r (fun (v6:List Int)=>Z [p 6 (O 29)] [(29,A 2 i64 v6 0)]) (u97J0) (fun v6 H=>?_) (fun _ n0 e0 t0=>?_)
 ·refine qA (Z [p 4 (O 29)] [(29,A 2 i64 v6 0)]) <|
   vx_ret<|hr H
 refine qD (fun v1=>Z [p 5 (O 11),p 6 (nil),p 17 (L i64 v1.2.2.2),p 18 (I (↑v1.2.2.2.length:Int)),p 19 (I 0)] [(11,A 2 i64 v0 0),(2,K 45 y45 a0)]) H fun v1 H =>
  vx_block <|
  lX (fun ((v3,v4):List Int×Int)=>Z [p 5 (O 11),p 6 (O 29),p 17 (L i64 v1.2.2.2),p 18 (I (↑v1.2.2.2.length:Int)),p 19 (I v4)] [(11,A 2 i64 v0 0),(29,A 2 i64 v3 0)]) ([],0) H fun _ g1 b1 e1 t1 ⟨v3,v4⟩ H =>
  qA (Z [p 5 (O 11),p 6 (O 29),p 17 (L i64 v1.2.2.2),p 18 (I (↑v1.2.2.2.length:Int)),p 19 (I v4),p 20 (B (decide (v4 < (↑v1.2.2.2.length:Int))))] [(11,A 2 i64 v0 0),(29,A 2 i64 v3 0)]) <|
  vx_seq <|
  cD H (fun H=>?_) (fun H=>?_)
 ·refine vx_skip<|fx_seq<|vx_seq<|vx_block <|
   qB (Z [p 5 (O 11),p 6 (O 29),p 8 (J (v1.2.2.2.getD v4.toNat 0)),p 17 (L i64 v1.2.2.2),p 18 (I (↑v1.2.2.2.length:Int)),p 19 (I v4)] [(11,A 2 i64 v0 0),(29,A 2 i64 v3 0)]) H fun H =>
   zD (fun v5=>Z [p 5 (O 11),p 6 (AV.os 29 1),p 17 (L i64 v1.2.2.2),p 18 (I (↑v1.2.2.2.length:Int)),p 19 (I v4)] [(29,A 2 i64 v5 1),(28,A 2 i64 [v0.getD (Int.toNat (v1.2.2.2.getD v4.toNat 0)) 0] 0),(11,A 2 i64 v0 0)]) H fun v5 H =>
   fx_blk<|fx_seq <|
   zB (Z [p 5 (O 11),p 6 (AV.os 29 1),p 17 (L i64 v1.2.2.2),p 18 (I (↑v1.2.2.2.length:Int)),p 19 (I (v4+1))] [(29,A 2 i64 v5 1),(28,A 2 i64 [v0.getD (Int.toNat (v1.2.2.2.getD v4.toNat 0)) 0] 0),(11,A 2 i64 v0 0)]) H fun H =>
   b1 H
 exact vx_exit<|fx_seq_exit<|e1<|fx_blk_exit rfl<|n0 H
def k97d:Ct:=lct 97 [.agg y45,.dat i64] (fun x=>u97 x.1 x.2.1) (fun r=>frz ((fun r:List Int=>AV.ow 2 true i64 r) r)) (fun _=>())
theorem o97d:Ok Tryz.prog k97d:=ok_frz o97
def u95 (a0:List Int):Option (Int) :=
 some (↑a0.length:Int)
def k95:Ct:=lct 95 [.dat i64.sl] (fun x=>u95 x.1) (fun r:Int=>I r) (fun _=>())
theorem o95:Ok Tryz.prog k95:=by
 refine okL [.tmp 2] Tryz.func95 Tryz.ntmps95 Tryz.results95 ?_
 intro y ⟨a0,_⟩ r H Q hn hr
 have:HT _ _:=⟨@tn Tryz.prog⟩
 refine qA (Z [p 0 (L i64 a0)] []) <|
  qA (Z [p 2 (I (↑a0.length:Int))] []) <|
  vx_ret<|hr H
def u148 (a0:Y102):Option (List (Int×Int)) :=
 if (a0.1==2)=true then
  some ([((0:Int),(0:Int)),((0:Int),(1:Int))])
 else
  if (a0.1==3)=true then
   some ([((1:Int),(0:Int)),((1:Int),(1:Int))])
  else
   if (a0.1 != 1)=true then
    some []
   else
    if (a0.2.2.2.1==1)=true then
     some ([((0:Int),(0:Int)),((1:Int),(1:Int))])
    else
     if (a0.2.2.2.1==2)=true then
      some ([((0:Int),(1:Int)),((1:Int),(0:Int))])
     else
      lt ([((0:Int),(0:Int)),((0:Int),(1:Int)),((1:Int),(0:Int)),((1:Int),(1:Int))]) fun v0 =>
      some v0
def k148:Ct:=lct 148 [.agg y102] (fun x=>u148 x.1) (fun r:List (Int×Int)=>AV.ow 213 true (i64.pr i64) r) (fun _=>())
theorem o148:Ok Tryz.prog k148:=by
 refine okL [.tmp 2] Tryz.func148 Tryz.ntmps148 Tryz.results148 ?_
 intro y ⟨a0,_⟩ r H Q hn hr
 have:HT _ _:=⟨@tn Tryz.prog⟩
 refine qA (Z [p 1 (R 1)] [(1,K 102 y102 a0)]) <|
  qA (Z [p 1 (R 1),p 3 (O 7)] [(7,A 213 (i64.pr i64) [((0:Int),(0:Int)),((1:Int),(1:Int))] 0),(1,K 102 y102 a0)]) <|
  qA (Z [p 1 (R 1),p 3 (O 7),p 4 (O 10)] [(10,A 213 (i64.pr i64) [((0:Int),(1:Int)),((1:Int),(0:Int))] 0),(7,A 213 (i64.pr i64) [((0:Int),(0:Int)),((1:Int),(1:Int))] 0),(1,K 102 y102 a0)]) <|
  vx_seq<|vx_block <|
  qA (Z [p 1 (R 1),p 3 (O 7),p 4 (O 10),p 11 (B (a0.1==(2:Int)))] [(10,A 213 (i64.pr i64) [((0:Int),(1:Int)),((1:Int),(0:Int))] 0),(7,A 213 (i64.pr i64) [((0:Int),(0:Int)),((1:Int),(1:Int))] 0),(1,K 102 y102 a0)]) <|
  cD H (fun H=>?_) (fun H=>?_)
 ·refine qA (Z [p 2 (O 17)] [(17,A 213 (i64.pr i64) [((0:Int),(0:Int)),((0:Int),(1:Int))] 0),(10,A 213 (i64.pr i64) [((0:Int),(1:Int)),((1:Int),(0:Int))] 0),(7,A 213 (i64.pr i64) [((0:Int),(0:Int)),((1:Int),(1:Int))] 0),(1,K 102 y102 a0)]) <|
   vx_ret<|fx_blk_ret<|fx_seq_ret<|hr H
 refine qA (Z [p 1 (R 1),p 3 (O 7),p 4 (O 10),p 18 (B (a0.1==(3:Int)))] [(10,A 213 (i64.pr i64) [((0:Int),(1:Int)),((1:Int),(0:Int))] 0),(7,A 213 (i64.pr i64) [((0:Int),(0:Int)),((1:Int),(1:Int))] 0),(1,K 102 y102 a0)]) <|
  cD H (fun H=>?_) (fun H=>?_)
 ·refine qA (Z [p 2 (O 24)] [(24,A 213 (i64.pr i64) [((1:Int),(0:Int)),((1:Int),(1:Int))] 0),(10,A 213 (i64.pr i64) [((0:Int),(1:Int)),((1:Int),(0:Int))] 0),(7,A 213 (i64.pr i64) [((0:Int),(0:Int)),((1:Int),(1:Int))] 0),(1,K 102 y102 a0)]) <|
   vx_ret<|fx_blk_ret<|fx_seq_ret<|hr H
 refine qA (Z [p 1 (R 1),p 3 (O 7),p 4 (O 10),p 25 (B (a0.1 != (1:Int)))] [(10,A 213 (i64.pr i64) [((0:Int),(1:Int)),((1:Int),(0:Int))] 0),(7,A 213 (i64.pr i64) [((0:Int),(0:Int)),((1:Int),(1:Int))] 0),(1,K 102 y102 a0)]) <|
  cD H (fun H=>?_) (fun H=>?_)
 ·refine qA (Z [p 2 (nil)] [(10,A 213 (i64.pr i64) [((0:Int),(1:Int)),((1:Int),(0:Int))] 0),(7,A 213 (i64.pr i64) [((0:Int),(0:Int)),((1:Int),(1:Int))] 0),(1,K 102 y102 a0)]) <|
   vx_ret<|fx_blk_ret<|fx_seq_ret<|hr H
 refine qA (Z [p 1 (R 1),p 3 (O 7),p 4 (O 10),p 29 (B (a0.2.2.2.1==(1:Int)))] [(10,A 213 (i64.pr i64) [((0:Int),(1:Int)),((1:Int),(0:Int))] 0),(7,A 213 (i64.pr i64) [((0:Int),(0:Int)),((1:Int),(1:Int))] 0),(1,K 102 y102 a0)]) <|
  cD H (fun H=>?_) (fun H=>?_)
 ·refine qA (Z [p 2 (O 7)] [(10,A 213 (i64.pr i64) [((0:Int),(1:Int)),((1:Int),(0:Int))] 0),(7,A 213 (i64.pr i64) [((0:Int),(0:Int)),((1:Int),(1:Int))] 0),(1,K 102 y102 a0)]) <|
   vx_ret<|fx_blk_ret<|fx_seq_ret<|hr H
 refine qA (Z [p 4 (O 10),p 34 (B (a0.2.2.2.1==(2:Int)))] [(10,A 213 (i64.pr i64) [((0:Int),(1:Int)),((1:Int),(0:Int))] 0),(7,A 213 (i64.pr i64) [((0:Int),(0:Int)),((1:Int),(1:Int))] 0),(1,K 102 y102 a0)]) <|
  cD H (fun H=>?_) (fun H=>?_)
 ·refine qA (Z [p 2 (O 10)] [(10,A 213 (i64.pr i64) [((0:Int),(1:Int)),((1:Int),(0:Int))] 0),(7,A 213 (i64.pr i64) [((0:Int),(0:Int)),((1:Int),(1:Int))] 0),(1,K 102 y102 a0)]) <|
   vx_ret<|fx_blk_ret<|fx_seq_ret<|hr H
 refine vx_skip<|fx_blk<|fx_seq <|
  qC (fun v0=>Z [p 2 (O 43)] [(43,A 213 (i64.pr i64) v0 0),(10,A 213 (i64.pr i64) [((0:Int),(1:Int)),((1:Int),(0:Int))] 0),(7,A 213 (i64.pr i64) [((0:Int),(0:Int)),((1:Int),(1:Int))] 0),(1,K 102 y102 a0)]) H fun v0 H =>
  vx_ret<|hr H
def u94J0:List Y83→Option (List Y83)
 | v24 =>
 some v24
def u94J2 (v12:Int) (g1:List Y83×Int→Option (List Y83)):List Y83→Option (List Y83)
 | v23 =>
 gd (in64 (v12+1)∧True) <|
 g1 (v23,v12+1)
def u94L3 (a2:Int) (v13:Y102) (v12:Int) (v14:List (Int×Int)) (g1:List Y83×Int→Option (List Y83)) (g3:Int×List Y83→Option (List Y83)):Int×List Y83→Option (List Y83)
 | (v18,v19) =>
 if (decide (v18 < (↑v14.length:Int)))=true then
  gd (ix v18 v14.length∧v18.toNat < v14.length∧True)<|lt (v14.getD v18.toNat (dflt (i64.pr i64))) fun v20 =>
  gd (in64 (a2+v13.2.1)∧in64 ((2:Int)*(a2+v13.2.1))∧ix (0:Int) 2∧in64 ((2:Int)*(a2+v13.2.1)+v20.1)∧in64 (a2+v13.2.2.1)∧in64 ((2:Int)*(a2+v13.2.2.1))∧ix (1:Int) 2∧in64 ((2:Int)*(a2+v13.2.2.1)+v20.2)∧(v19.length+[((2:Int)*(a2+v13.2.1)+v20.1,(2:Int)*(a2+v13.2.2.1)+v20.2,(1:Int),v12)].length≤9223372036854775807∧(v19.length+[((2:Int)*(a2+v13.2.1)+v20.1,(2:Int)*(a2+v13.2.2.1)+v20.2,(1:Int),v12)].length)*32≤140737488355328)∧True)<|lt ((v19++[((2:Int)*(a2+v13.2.1)+v20.1,(2:Int)*(a2+v13.2.2.1)+v20.2,(1:Int),v12)],[((2:Int)*(a2+v13.2.1)+v20.1,(2:Int)*(a2+v13.2.2.1)+v20.2,(1:Int),v12)])) fun (v21,v22) =>
  gd (in64 (v18+1)∧True) <|
  g3 (v18+1,v21)
 else
  u94J2 v12 g1 v19
def u94L1 (a2:Int) (v0:Y145) (g1:List Y83×Int→Option (List Y83)):List Y83×Int→Option (List Y83)
 | (v11,v12) =>
 if (decide (v12 < (↑v0.2.2.2.1.length:Int)))=true then
  gd (ix v12 v0.2.2.2.1.length∧True)<|lt (v0.2.2.2.1.getD v12.toNat (dflt y102)) fun v13 =>
  gd ((u148 v13).isSome=true∧True)<|lt (vl (u148 v13)) fun v14 =>
  lp (u94L3 a2 v13 v12 v14 g1) (0,v11)
 else
  u94J0 v11
def u94 (a0:Y45) (a1:Y147) (a2:Int):Option (List Y83) :=
 gd (ix a1.2.1 a0.1.length∧True)<|lt (a0.1.getD a1.2.1.toNat (dflt y145)) fun v0 =>
 lp (u94L1 a2 v0) ([],0)
def k94:Ct:=lct 94 [.agg y45,.agg y147,.dat i64] (fun x=>u94 x.1 x.2.1 x.2.2.1) (fun r:List Y83=>AV.ow 83 true y83 r) (fun _=>())
theorem o94:Ok Tryz.prog k94:=by
 refine okL [.tmp 6] Tryz.func94 Tryz.ntmps94 Tryz.results94 ?_
 intro y ⟨a0,a1,a2,_⟩ r H Q hn hr
 have:HT _ _:=⟨tc o148 tn⟩
 refine qA (Z [p 2 (J a2),p 3 (R 3),p 4 (R 4)] [(4,K 147 y147 a1),(3,K 45 y45 a0)]) <|
  qA (Z [p 2 (J a2),p 3 (R 3),p 4 (R 4),p 7 (nil)] [(4,K 147 y147 a1),(3,K 45 y45 a0)]) <|
  jN r (fun (v24:List Y83)=>Z [p 7 (O 53)] [(53,A 83 y83 v24 0)]) (u94J0) (fun v24 H=>?_) (fun _ n0 e0 t0=>?_)
 ·refine qA (Z [p 6 (O 53)] [(53,A 83 y83 v24 0)]) <|
   vx_ret<|hr H
 refine qD (fun v0=>Z [p 2 (J a2),p 7 (nil),p 19 (L y102 v0.2.2.2.1),p 20 (I (↑v0.2.2.2.1.length:Int)),p 21 (I 0)] [(4,K 147 y147 a1),(3,K 45 y45 a0)]) H fun v0 H =>
  vx_block <|
  lX (fun ((v11,v12):List Y83×Int)=>Z [p 2 (J a2),p 7 (O 53),p 19 (L y102 v0.2.2.2.1),p 20 (I (↑v0.2.2.2.1.length:Int)),p 21 (I v12)] [(53,A 83 y83 v11 0)]) ([],0) H fun _ g1 b1 e1 t1 ⟨v11,v12⟩ H =>
  qA (Z [p 2 (J a2),p 7 (O 53),p 19 (L y102 v0.2.2.2.1),p 20 (I (↑v0.2.2.2.1.length:Int)),p 21 (I v12),p 22 (B (decide (v12 < (↑v0.2.2.2.1.length:Int))))] [(53,A 83 y83 v11 0)]) <|
  vx_seq <|
  cD H (fun H=>?_) (fun H=>?_)
 ·refine vx_skip<|fx_seq <|
   jN r (fun (v23:List Y83)=>Z [p 2 (J a2),p 7 (O 53),p 19 (L y102 v0.2.2.2.1),p 20 (I (↑v0.2.2.2.1.length:Int)),p 21 (I v12)] [(53,A 83 y83 v23 0)]) (u94J2 v12 g1) (fun v23 H=>?_) (fun _ n2 e2 t2=>?_)
  ·refine zB (Z [p 2 (J a2),p 7 (O 53),p 19 (L y102 v0.2.2.2.1),p 20 (I (↑v0.2.2.2.1.length:Int)),p 21 (I (v12+1))] [(53,A 83 y83 v23 0)]) H fun H =>
    b1 H
  refine vx_block <|
   qD (fun v13=>Z [p 2 (J a2),p 7 (O 53),p 8 (I v12),p 9 (R 9),p 19 (L y102 v0.2.2.2.1),p 20 (I (↑v0.2.2.2.1.length:Int)),p 21 (I v12)] [(9,K 102 y102 v13),(53,A 83 y83 v11 0)]) H fun v13 H =>
   qD (fun v14=>Z [p 2 (J a2),p 7 (O 53),p 8 (I v12),p 9 (R 9),p 19 (L y102 v0.2.2.2.1),p 20 (I (↑v0.2.2.2.1.length:Int)),p 21 (I v12),p 27 (O 27),p 28 (I (↑v14.length:Int)),p 29 (I 0)] [(27,A 213 (i64.pr i64) v14 0),(9,K 102 y102 v13),(53,A 83 y83 v11 0)]) H fun v14 H =>
   vx_block <|
   lX (fun ((v18,v19):Int×List Y83)=>Z [p 2 (J a2),p 7 (O 53),p 8 (I v12),p 9 (R 9),p 19 (L y102 v0.2.2.2.1),p 20 (I (↑v0.2.2.2.1.length:Int)),p 21 (I v12),p 27 (O 27),p 28 (I (↑v14.length:Int)),p 29 (I v18)] [(27,A 213 (i64.pr i64) v14 0),(9,K 102 y102 v13),(53,A 83 y83 v19 0)]) (0,v11) H fun _ g3 b3 e3 t3 ⟨v18,v19⟩ H =>
   qA (Z [p 2 (J a2),p 7 (O 53),p 8 (I v12),p 9 (R 9),p 19 (L y102 v0.2.2.2.1),p 20 (I (↑v0.2.2.2.1.length:Int)),p 21 (I v12),p 27 (O 27),p 28 (I (↑v14.length:Int)),p 29 (I v18),p 30 (B (decide (v18 < (↑v14.length:Int))))] [(27,A 213 (i64.pr i64) v14 0),(9,K 102 y102 v13),(53,A 83 y83 v19 0)]) <|
   vx_seq <|
   cD H (fun H=>?_) (fun H=>?_)
  ·refine vx_skip<|fx_seq<|vx_seq<|vx_block <|
    qD (fun v20=>Z [p 2 (J a2),p 7 (O 53),p 8 (I v12),p 9 (R 9),p 11 (R 11),p 19 (L y102 v0.2.2.2.1),p 20 (I (↑v0.2.2.2.1.length:Int)),p 21 (I v12),p 27 (O 27),p 28 (I (↑v14.length:Int)),p 29 (I v18)] [(11,Ob.box 213 (cellsD true (i64.pr i64) v20)),(27,A 213 (i64.pr i64) v14 0),(9,K 102 y102 v13),(53,A 83 y83 v19 0)]) H fun v20 H =>
    zD (fun (v21,v22)=>Z [p 2 (J a2),p 7 (AV.os 53 1),p 8 (I v12),p 9 (R 9),p 19 (L y102 v0.2.2.2.1),p 20 (I (↑v0.2.2.2.1.length:Int)),p 21 (I v12),p 27 (O 27),p 28 (I (↑v14.length:Int)),p 29 (I v18)] [(53,A 83 y83 v21 1),(52,A 83 y83 v22 0),(11,Ob.box 213 (cellsD true (i64.pr i64) v20)),(27,A 213 (i64.pr i64) v14 0),(9,K 102 y102 v13)]) H fun ⟨v21,v22⟩ H =>
    fx_blk<|fx_seq <|
    zB (Z [p 2 (J a2),p 7 (AV.os 53 1),p 8 (I v12),p 9 (R 9),p 19 (L y102 v0.2.2.2.1),p 20 (I (↑v0.2.2.2.1.length:Int)),p 21 (I v12),p 27 (O 27),p 28 (I (↑v14.length:Int)),p 29 (I (v18+1))] [(53,A 83 y83 v21 1),(52,A 83 y83 v22 0),(11,Ob.box 213 (cellsD true (i64.pr i64) v20)),(27,A 213 (i64.pr i64) v14 0),(9,K 102 y102 v13)]) H fun H =>
    b3 H
  exact vx_exit<|fx_seq_exit<|e3<|fx_blk_exit rfl<|fx_blk<|n2 H
 exact vx_exit<|fx_seq_exit<|e1<|fx_blk_exit rfl<|n0 H
def u44J5 (a0:Y45) (v0:List Y159):List Y83×List Int×List (List Int)→Option (Y110)
 | (v97,v98,v99) =>
 some (a0,v0,v97,v98,v99,[])
def u44J7 (v71:Int) (g6:Int×List Int×List (List Int)×List Y83→Option (Y110)):List (List Int)×List Int×List Y83→Option (Y110)
 | (v94,v95,v96) =>
 gd (in64 (v71+1)∧True) <|
 g6 (v71+1,v95,v94,v96)
def u44J9 (v85:Int) (g8:Int×List Y83→Option (Y110)):List Y83→Option (Y110)
 | v93 =>
 gd (in64 (v85+1)∧True) <|
 g8 (v85+1,v93)
def u44L10 (v24:List Int) (v71:Int) (v23:List (List Int)) (v85:Int) (g8:Int×List Y83→Option (Y110)) (g10:Int×List Y83→Option (Y110)):Int×List Y83→Option (Y110)
 | (v89,v90) =>
 if (decide (v89 < 2))=true then
  gd (ix v71 v24.length∧v71.toNat < v24.length∧in64 ((2:Int)*v24.getD v71.toNat (0:Int))∧in64 ((2:Int)*v24.getD v71.toNat (0:Int)+v89)∧in64 ((2:Int)*List.getD (v23.getD v71.toNat []) v85.toNat (0:Int))∧in64 ((2:Int)*List.getD (v23.getD v71.toNat []) v85.toNat (0:Int)+v89)∧(v90.length+[((2:Int)*v24.getD v71.toNat (0:Int)+v89,(2:Int)*List.getD (v23.getD v71.toNat []) v85.toNat (0:Int)+v89,(2:Int),v85)].length≤9223372036854775807∧(v90.length+[((2:Int)*v24.getD v71.toNat (0:Int)+v89,(2:Int)*List.getD (v23.getD v71.toNat []) v85.toNat (0:Int)+v89,(2:Int),v85)].length)*32≤140737488355328)∧True)<|lt ((v90++[((2:Int)*v24.getD v71.toNat (0:Int)+v89,(2:Int)*List.getD (v23.getD v71.toNat []) v85.toNat (0:Int)+v89,(2:Int),v85)],[((2:Int)*v24.getD v71.toNat (0:Int)+v89,(2:Int)*List.getD (v23.getD v71.toNat []) v85.toNat (0:Int)+v89,(2:Int),v85)])) fun (v91,v92) =>
  gd (in64 (v89+1)∧True) <|
  g10 (v89+1,v91)
 else
  u44J9 v85 g8 v90
def u44L8 (v24:List Int) (v71:Int) (v23:List (List Int)) (v73:List (List Int)) (v76:List Int) (v72:List Int) (v75:List Int) (g6:Int×List Int×List (List Int)×List Y83→Option (Y110)) (g8:Int×List Y83→Option (Y110)):Int×List Y83→Option (Y110)
 | (v85,v86) =>
 if (decide (v85 < (↑(List.length (v23.getD v71.toNat [])):Int)))=true then
  gd (ix v85 (List.length (v23.getD v71.toNat []))∧True) <|
  lp (u44L10 v24 v71 v23 v85 g8) (0,v86)
 else
  u44J7 v71 g6 ((v73++[v76],v72++[v75.getD (Int.toNat (0:Int)) (0:Int)],v86))
def u44L6 (v24:List Int) (v23:List (List Int)) (a0:Y45) (v0:List Y159) (g6:Int×List Int×List (List Int)×List Y83→Option (Y110)):Int×List Int×List (List Int)×List Y83→Option (Y110)
 | (v71,v72,v73,v74) =>
 if (decide (v71 < (↑a0.2.2.length:Int)))=true then
  gd ((u96 a0 v71).isSome=true∧ix (0:Int) (vl (u96 a0 v71)).length∧Int.toNat (0:Int) < (vl (u96 a0 v71)).length∧(v72.length+[(vl (u96 a0 v71)).getD (Int.toNat (0:Int)) (0:Int)].length≤9223372036854775807∧(v72.length+[(vl (u96 a0 v71)).getD (Int.toNat (0:Int)) (0:Int)].length)*8≤140737488355328)∧True)<|lt (vl (u96 a0 v71)) fun v75 =>
  gd ((u97 a0 v71).isSome=true∧(v73.length+[vl (u97 a0 v71)].length≤9223372036854775807∧(v73.length+[vl (u97 a0 v71)].length)*24≤140737488355328)∧True)<|lt (vl (u97 a0 v71)) fun v76 =>
  gd (ix v71 v23.length∧True) <|
  lp (u44L8 v24 v71 v23 v73 v76 v72 v75 g6) (0,v74)
 else
  u44J5 a0 v0 (v74,v72,v73)
def u44J2 (a0:Y45) (v0:List Y159) (v10:List Y83):List (List Int)×List Int→Option (Y110)
 | (v23,v24) =>
 lp (u44L6 v24 v23 a0 v0) (0,[],[],v10)
def u44J4 (v16:Int) (g3:Int×List (List Int)×List Int→Option (Y110)):List Int×List (List Int)→Option (Y110)
 | (v21,v22) =>
 gd (in64 (v16+1)∧True) <|
 g3 (v16+1,v22,v21)
def u44L3 (v0:List Y159) (a0:Y45) (v10:List Y83) (g3:Int×List (List Int)×List Int→Option (Y110)):Int×List (List Int)×List Int→Option (Y110)
 | (v16,v17,v18) =>
 if (decide (v16 < (↑v0.length:Int)))=true then
  gd (ix v16 v0.length∧v16.toNat < v0.length∧True)<|lt (v0.getD v16.toNat (dflt y159)) fun v19 =>
  if v19.2.2.2=true then
   gd (ix v19.2.2.1 v18.length∧v19.2.2.1.toNat < v18.length∧True) <|
   u44J4 v16 g3 (v18.set v19.2.2.1.toNat v16,v17)
  else
   gd (ix v19.2.2.1 v17.length∧v19.2.2.1.toNat < v17.length∧((v17.getD v19.2.2.1.toNat []).length+[v16].length≤9223372036854775807∧((v17.getD v19.2.2.1.toNat []).length+[v16].length)*8≤140737488355328)∧ix v19.2.2.1 v17.length∧(v19.2.2.1.toNat < v17.length∧v19.2.2.1.toNat=v19.2.2.1.toNat)∧True)<|lt (v17.set v19.2.2.1.toNat (v17.getD v19.2.2.1.toNat []++[v16])) fun v20 =>
   u44J4 v16 g3 (v18,v20)
 else
  u44J2 a0 v0 v10 (v17,v18)
def u44J0 (v0:List Y159) (a0:Y45):List Y83→Option (Y110)
 | v10 =>
 gd ((0≤(↑a0.2.2.length:Int)∧(↑a0.2.2.length:Int)=(↑a0.2.2.length:Int)∧(↑a0.2.2.length:Int).toNat*8≤281474976710656∧(↑a0.2.2.length:Int)≤9223372036854775807)∧True) <|
 gd ((0≤(↑a0.2.2.length:Int)∧(↑a0.2.2.length:Int)=(↑a0.2.2.length:Int)∧(↑a0.2.2.length:Int).toNat*24≤281474976710656∧(↑a0.2.2.length:Int)≤9223372036854775807)∧True) <|
 lp (u44L3 v0 a0 v10) ((0,List.replicate (↑a0.2.2.length:Int).toNat [],List.replicate (↑a0.2.2.length:Int).toNat 0))
def u44L1 (a0:Y45) (v0:List Y159) (g1:Int×Int×List Y83→Option (Y110)):Int×Int×List Y83→Option (Y110)
 | (v4,v5,v6) =>
 if (decide (v5 < (↑a0.2.1.1.length:Int)))=true then
  gd (ix v5 a0.2.1.1.length∧True)<|lt (a0.2.1.1.getD v5.toNat (dflt y147)) fun v7 =>
  gd ((u94 a0 v7 v4).isSome=true∧(v6.length+(vl (u94 a0 v7 v4)).length≤9223372036854775807∧(v6.length+(vl (u94 a0 v7 v4)).length)*32≤140737488355328)∧True)<|lt (vl (u94 a0 v7 v4)) fun v8 =>
  gd ((u95 v7.2.2).isSome=true∧in64 (v4+vl (u95 v7.2.2))∧True)<|lt (vl (u95 v7.2.2)) fun v9 =>
  gd (in64 (v5+1)∧True) <|
  g1 (v4+v9,v5+1,v6++v8)
 else
  u44J0 v0 a0 v6
def u44 (a0:Y45):Option (Y110) :=
 gd ((u92 a0.2.1).isSome=true∧True)<|lt (vl (u92 a0.2.1)) fun v0 =>
 lp (u44L1 a0 v0) (0,0,[])
def k44:Ct:=lct 44 [.agg y45] (fun x=>u44 x.1) (fun r:Y110=>D y110.pt r) (fun _=>())
theorem o44:Ok Tryz.prog k44:=by
 refine okL [.tmp 2] Tryz.func44 Tryz.ntmps44 Tryz.results44 ?_
 intro y ⟨a0,_⟩ r H Q hn hr
 have:HT _ _:=⟨tc o97d (tc o96 (tc o95 (tc o94 (tc o92 tn))))⟩
 refine qA (Z [p 1 (R 1)] [(1,K 45 y45 a0)]) <|
  qD (fun v0=>Z [p 1 (R 1),p 3 (R 20)] [(20,Ob.box 110 [L y145 a0.1,L y147 a0.2.1.1,L Ty.str a0.2.1.2.1,L y199 a0.2.1.2.2,L y137 a0.2.2,AV.os 18 0,nil,nil,nil,nil]),(18,A 159 y159 v0 0),(1,K 45 y45 a0)]) H fun v0 H =>
  qA (Z [p 1 (R 1),p 3 (R 20),p 4 (I 0)] [(20,Ob.box 110 [L y145 a0.1,L y147 a0.2.1.1,L Ty.str a0.2.1.2.1,L y199 a0.2.1.2.2,L y137 a0.2.2,AV.os 18 0,nil,nil,nil,nil]),(18,A 159 y159 v0 0),(1,K 45 y45 a0)]) <|
  jN r (fun (v10:List Y83)=>Z [p 1 (R 1),p 3 (R 20)] [(20,Ob.box 110 [L y145 a0.1,L y147 a0.2.1.1,L Ty.str a0.2.1.2.1,L y199 a0.2.1.2.2,L y137 a0.2.2,AV.os 18 0,AV.os 38 0,nil,nil,nil]),(18,A 159 y159 v0 0),(1,K 45 y45 a0),(38,A 83 y83 v10 0)]) (u44J0 v0 a0) (fun v10 H=>?_) (fun _ n0 e0 t0=>?_)
 ·refine qB (Z [p 1 (R 1),p 3 (R 20),p 7 (O 50)] [(50,A 2 i64 (List.replicate (↑a0.2.2.length:Int).toNat 0) 0),(20,Ob.box 110 [L y145 a0.1,L y147 a0.2.1.1,L Ty.str a0.2.1.2.1,L y199 a0.2.1.2.2,L y137 a0.2.2,AV.os 18 0,AV.os 38 0,nil,nil,nil]),(18,A 159 y159 v0 0),(1,K 45 y45 a0),(38,A 83 y83 v10 0)]) H fun H =>
   qB (Z [p 1 (R 1),p 3 (R 20),p 7 (O 50),p 8 (AV.og 54)] [(54,Ob.grd 62 2 true i64 (List.replicate (↑a0.2.2.length:Int).toNat []) none),(50,A 2 i64 (List.replicate (↑a0.2.2.length:Int).toNat 0) 0),(20,Ob.box 110 [L y145 a0.1,L y147 a0.2.1.1,L Ty.str a0.2.1.2.1,L y199 a0.2.1.2.2,L y137 a0.2.2,AV.os 18 0,AV.os 38 0,nil,nil,nil]),(18,A 159 y159 v0 0),(1,K 45 y45 a0),(38,A 83 y83 v10 0)]) H fun H =>
   jN r (fun ((v23,v24):List (List Int)×List Int)=>Z [p 1 (R 1),p 3 (R 20),p 7 (O 50),p 8 (AV.og 54)] [(54,Ob.grd 62 2 true i64 v23 none),(50,A 2 i64 v24 0),(20,Ob.box 110 [L y145 a0.1,L y147 a0.2.1.1,L Ty.str a0.2.1.2.1,L y199 a0.2.1.2.2,L y137 a0.2.2,AV.os 18 0,AV.os 38 0,nil,nil,nil]),(18,A 159 y159 v0 0),(1,K 45 y45 a0),(38,A 83 y83 v10 0)]) (u44J2 a0 v0 v10) (fun ⟨v23,v24⟩ H=>?_) (fun _ n2 e2 t2=>?_)
  ·refine jN r (fun ((v97,v98,v99):List Y83×List Int×List (List Int))=>Z [p 3 (R 20)] [(20,Ob.box 110 [L y145 a0.1,L y147 a0.2.1.1,L Ty.str a0.2.1.2.1,L y199 a0.2.1.2.2,L y137 a0.2.2,AV.os 18 0,AV.os 38 0,AV.os 102 0,AV.os 114 0,nil]),(18,A 159 y159 v0 0),(38,A 83 y83 v97 0),(102,A 2 i64 v98 0),(114,A 62 i64.sl v99 0)]) (u44J5 a0 v0) (fun ⟨v97,v98,v99⟩ H=>?_) (fun _ n5 e5 t5=>?_)
   ·refine qA (Z [p 2 (R 20)] [(20,Ob.box 110 [L y145 a0.1,L y147 a0.2.1.1,L Ty.str a0.2.1.2.1,L y199 a0.2.1.2.2,L y137 a0.2.2,AV.os 18 0,AV.os 38 0,AV.os 102 0,AV.os 114 0,nil]),(18,A 159 y159 v0 0),(38,A 83 y83 v97 0),(102,A 2 i64 v98 0),(114,A 62 i64.sl v99 0)]) <|
     vx_ret<|hr H
   refine qA (Z [p 1 (R 1),p 3 (R 20),p 7 (O 50),p 8 (AV.og 54),p 87 (I (↑a0.2.2.length:Int)),p 88 (I 0)] [(54,Ob.grd 62 2 true i64 v23 none),(50,A 2 i64 v24 0),(20,Ob.box 110 [L y145 a0.1,L y147 a0.2.1.1,L Ty.str a0.2.1.2.1,L y199 a0.2.1.2.2,L y137 a0.2.2,AV.os 18 0,AV.os 38 0,nil,nil,nil]),(18,A 159 y159 v0 0),(1,K 45 y45 a0),(38,A 83 y83 v10 0)]) <|
    vx_block <|
    fZ 54 (Z [p 1 (R 1),p 3 (R 20),p 7 (O 50),p 8 (M i64.sl v23),p 87 (I (↑a0.2.2.length:Int)),p 88 (I 0)] [(50,A 2 i64 v24 0),(20,Ob.box 110 [L y145 a0.1,L y147 a0.2.1.1,L Ty.str a0.2.1.2.1,L y199 a0.2.1.2.2,L y137 a0.2.2,AV.os 18 0,AV.os 38 0,nil,nil,nil]),(18,A 159 y159 v0 0),(1,K 45 y45 a0),(38,A 83 y83 v10 0)]) <|
    lX (fun ((v71,v72,v73,v74):Int×List Int×List (List Int)×List Y83)=>Z [p 1 (R 1),p 3 (R 20),p 7 (O 50),p 8 (M i64.sl v23),p 87 (I (↑a0.2.2.length:Int)),p 88 (I v71)] [(50,A 2 i64 v24 0),(20,Ob.box 110 [L y145 a0.1,L y147 a0.2.1.1,L Ty.str a0.2.1.2.1,L y199 a0.2.1.2.2,L y137 a0.2.2,AV.os 18 0,AV.os 38 0,AV.os 102 0,AV.os 114 0,nil]),(18,A 159 y159 v0 0),(1,K 45 y45 a0),(38,A 83 y83 v74 0),(102,A 2 i64 v72 0),(114,A 62 i64.sl v73 0)]) (0,[],[],v10) H fun _ g6 b6 e6 t6 ⟨v71,v72,v73,v74⟩ H =>
    qA (Z [p 1 (R 1),p 3 (R 20),p 7 (O 50),p 8 (M i64.sl v23),p 87 (I (↑a0.2.2.length:Int)),p 88 (I v71),p 89 (B (decide (v71 < (↑a0.2.2.length:Int))))] [(50,A 2 i64 v24 0),(20,Ob.box 110 [L y145 a0.1,L y147 a0.2.1.1,L Ty.str a0.2.1.2.1,L y199 a0.2.1.2.2,L y137 a0.2.2,AV.os 18 0,AV.os 38 0,AV.os 102 0,AV.os 114 0,nil]),(18,A 159 y159 v0 0),(1,K 45 y45 a0),(38,A 83 y83 v74 0),(102,A 2 i64 v72 0),(114,A 62 i64.sl v73 0)]) <|
    vx_seq <|
    cD H (fun H=>?_) (fun H=>?_)
   ·refine vx_skip<|fx_seq <|
     jN r (fun ((v94,v95,v96):List (List Int)×List Int×List Y83)=>Z [p 1 (R 1),p 3 (R 20),p 7 (O 50),p 8 (M i64.sl v23),p 87 (I (↑a0.2.2.length:Int)),p 88 (I v71)] [(20,Ob.box 110 [L y145 a0.1,L y147 a0.2.1.1,L Ty.str a0.2.1.2.1,L y199 a0.2.1.2.2,L y137 a0.2.2,AV.os 18 0,AV.os 38 0,AV.os 102 0,AV.os 114 0,nil]),(114,A 62 i64.sl v94 0),(102,A 2 i64 v95 0),(50,A 2 i64 v24 0),(18,A 159 y159 v0 0),(1,K 45 y45 a0),(38,A 83 y83 v96 0)]) (u44J7 v71 g6) (fun ⟨v94,v95,v96⟩ H=>?_) (fun _ n7 e7 t7=>?_)
    ·refine zB (Z [p 1 (R 1),p 3 (R 20),p 7 (O 50),p 8 (M i64.sl v23),p 87 (I (↑a0.2.2.length:Int)),p 88 (I (v71+1))] [(20,Ob.box 110 [L y145 a0.1,L y147 a0.2.1.1,L Ty.str a0.2.1.2.1,L y199 a0.2.1.2.2,L y137 a0.2.2,AV.os 18 0,AV.os 38 0,AV.os 102 0,AV.os 114 0,nil]),(114,A 62 i64.sl v94 0),(102,A 2 i64 v95 0),(50,A 2 i64 v24 0),(18,A 159 y159 v0 0),(1,K 45 y45 a0),(38,A 83 y83 v96 0)]) H fun H =>
      b6 H
    refine vx_block <|
     qA (Z [p 1 (R 1),p 3 (R 20),p 7 (O 50),p 8 (M i64.sl v23),p 11 (I v71),p 87 (I (↑a0.2.2.length:Int)),p 88 (I v71)] [(50,A 2 i64 v24 0),(20,Ob.box 110 [L y145 a0.1,L y147 a0.2.1.1,L Ty.str a0.2.1.2.1,L y199 a0.2.1.2.2,L y137 a0.2.2,AV.os 18 0,AV.os 38 0,AV.os 102 0,AV.os 114 0,nil]),(18,A 159 y159 v0 0),(1,K 45 y45 a0),(38,A 83 y83 v74 0),(102,A 2 i64 v72 0),(114,A 62 i64.sl v73 0)]) <|
     qD (fun v75=>Z [p 1 (R 1),p 3 (R 20),p 7 (O 50),p 8 (M i64.sl v23),p 11 (I v71),p 87 (I (↑a0.2.2.length:Int)),p 88 (I v71)] [(20,Ob.box 110 [L y145 a0.1,L y147 a0.2.1.1,L Ty.str a0.2.1.2.1,L y199 a0.2.1.2.2,L y137 a0.2.2,AV.os 18 0,AV.os 38 0,AV.os 102 1,AV.os 114 0,nil]),(102,A 2 i64 (v72++[v75.getD (Int.toNat (0:Int)) (0:Int)]) 1),(101,A 2 i64 [v75.getD (Int.toNat (0:Int)) (0:Int)] 0),(98,A 2 i64 v75 0),(50,A 2 i64 v24 0),(18,A 159 y159 v0 0),(1,K 45 y45 a0),(38,A 83 y83 v74 0),(114,A 62 i64.sl v73 0)]) H fun v75 H =>
     qD (fun v76=>Z [p 1 (R 1),p 3 (R 20),p 7 (O 50),p 8 (M i64.sl v23),p 11 (I v71),p 87 (I (↑a0.2.2.length:Int)),p 88 (I v71)] [(20,Ob.box 110 [L y145 a0.1,L y147 a0.2.1.1,L Ty.str a0.2.1.2.1,L y199 a0.2.1.2.2,L y137 a0.2.2,AV.os 18 0,AV.os 38 0,AV.os 102 1,AV.os 114 1,nil]),(114,A 62 i64.sl (v73++[v76]) 1),(113,A 62 i64.sl [v76] 0),(102,A 2 i64 (v72++[v75.getD (Int.toNat (0:Int)) (0:Int)]) 1),(101,A 2 i64 [v75.getD (Int.toNat (0:Int)) (0:Int)] 0),(98,A 2 i64 v75 0),(50,A 2 i64 v24 0),(18,A 159 y159 v0 0),(1,K 45 y45 a0),(38,A 83 y83 v74 0)]) H fun v76 H =>
     qB (Z [p 1 (R 1),p 3 (R 20),p 7 (O 50),p 8 (M i64.sl v23),p 11 (I v71),p 87 (I (↑a0.2.2.length:Int)),p 88 (I v71),p 120 (M i64 (v23.getD v71.toNat [])),p 121 (I (↑(List.length (v23.getD v71.toNat [])):Int)),p 122 (I (0:Int))] [(20,Ob.box 110 [L y145 a0.1,L y147 a0.2.1.1,L Ty.str a0.2.1.2.1,L y199 a0.2.1.2.2,L y137 a0.2.2,AV.os 18 0,AV.os 38 0,AV.os 102 1,AV.os 114 1,nil]),(114,A 62 i64.sl (v73++[v76]) 1),(113,A 62 i64.sl [v76] 0),(102,A 2 i64 (v72++[v75.getD (Int.toNat (0:Int)) (0:Int)]) 1),(101,A 2 i64 [v75.getD (Int.toNat (0:Int)) (0:Int)] 0),(98,A 2 i64 v75 0),(50,A 2 i64 v24 0),(18,A 159 y159 v0 0),(1,K 45 y45 a0),(38,A 83 y83 v74 0)]) H fun H =>
     vx_block <|
     lX (fun ((v85,v86):Int×List Y83)=>Z [p 1 (R 1),p 3 (R 20),p 7 (O 50),p 8 (M i64.sl v23),p 11 (I v71),p 87 (I (↑a0.2.2.length:Int)),p 88 (I v71),p 120 (M i64 (v23.getD v71.toNat [])),p 121 (I (↑(List.length (v23.getD v71.toNat [])):Int)),p 122 (I v85)] [(20,Ob.box 110 [L y145 a0.1,L y147 a0.2.1.1,L Ty.str a0.2.1.2.1,L y199 a0.2.1.2.2,L y137 a0.2.2,AV.os 18 0,AV.os 38 0,AV.os 102 0,AV.os 114 0,nil]),(114,A 62 i64.sl (v73++[v76]) 0),(102,A 2 i64 (v72++[v75.getD (Int.toNat (0:Int)) (0:Int)]) 0),(50,A 2 i64 v24 0),(18,A 159 y159 v0 0),(1,K 45 y45 a0),(38,A 83 y83 v86 0)]) (0,v74) H fun _ g8 b8 e8 t8 ⟨v85,v86⟩ H =>
     qA (Z [p 1 (R 1),p 3 (R 20),p 7 (O 50),p 8 (M i64.sl v23),p 11 (I v71),p 87 (I (↑a0.2.2.length:Int)),p 88 (I v71),p 120 (M i64 (v23.getD v71.toNat [])),p 121 (I (↑(List.length (v23.getD v71.toNat [])):Int)),p 122 (I v85),p 123 (B (decide (v85 < (↑(List.length (v23.getD v71.toNat [])):Int))))] [(20,Ob.box 110 [L y145 a0.1,L y147 a0.2.1.1,L Ty.str a0.2.1.2.1,L y199 a0.2.1.2.2,L y137 a0.2.2,AV.os 18 0,AV.os 38 0,AV.os 102 0,AV.os 114 0,nil]),(114,A 62 i64.sl (v73++[v76]) 0),(102,A 2 i64 (v72++[v75.getD (Int.toNat (0:Int)) (0:Int)]) 0),(50,A 2 i64 v24 0),(18,A 159 y159 v0 0),(1,K 45 y45 a0),(38,A 83 y83 v86 0)]) <|
     vx_seq <|
     cD H (fun H=>?_) (fun H=>?_)
    ·refine vx_skip<|fx_seq <|
      jN r (fun (v93:List Y83)=>Z [p 1 (R 1),p 3 (R 20),p 7 (O 50),p 8 (M i64.sl v23),p 11 (I v71),p 87 (I (↑a0.2.2.length:Int)),p 88 (I v71),p 120 (M i64 (v23.getD v71.toNat [])),p 121 (I (↑(List.length (v23.getD v71.toNat [])):Int)),p 122 (I v85)] [(20,Ob.box 110 [L y145 a0.1,L y147 a0.2.1.1,L Ty.str a0.2.1.2.1,L y199 a0.2.1.2.2,L y137 a0.2.2,AV.os 18 0,AV.os 38 0,AV.os 102 0,AV.os 114 0,nil]),(114,A 62 i64.sl (v73++[v76]) 0),(102,A 2 i64 (v72++[v75.getD (Int.toNat (0:Int)) (0:Int)]) 0),(50,A 2 i64 v24 0),(18,A 159 y159 v0 0),(1,K 45 y45 a0),(38,A 83 y83 v93 0)]) (u44J9 v85 g8) (fun v93 H=>?_) (fun _ n9 e9 t9=>?_)
     ·refine zB (Z [p 1 (R 1),p 3 (R 20),p 7 (O 50),p 8 (M i64.sl v23),p 11 (I v71),p 87 (I (↑a0.2.2.length:Int)),p 88 (I v71),p 120 (M i64 (v23.getD v71.toNat [])),p 121 (I (↑(List.length (v23.getD v71.toNat [])):Int)),p 122 (I (v85+(1:Int)))] [(20,Ob.box 110 [L y145 a0.1,L y147 a0.2.1.1,L Ty.str a0.2.1.2.1,L y199 a0.2.1.2.2,L y137 a0.2.2,AV.os 18 0,AV.os 38 0,AV.os 102 0,AV.os 114 0,nil]),(114,A 62 i64.sl (v73++[v76]) 0),(102,A 2 i64 (v72++[v75.getD (Int.toNat (0:Int)) (0:Int)]) 0),(50,A 2 i64 v24 0),(18,A 159 y159 v0 0),(1,K 45 y45 a0),(38,A 83 y83 v93 0)]) H fun H =>
       b8 H
     refine vx_block <|
      qB (Z [p 1 (R 1),p 3 (R 20),p 7 (O 50),p 8 (M i64.sl v23),p 11 (I v71),p 12 (I v85),p 13 (I (List.getD (v23.getD v71.toNat []) v85.toNat (0:Int))),p 87 (I (↑a0.2.2.length:Int)),p 88 (I v71),p 120 (M i64 (v23.getD v71.toNat [])),p 121 (I (↑(List.length (v23.getD v71.toNat [])):Int)),p 122 (I v85)] [(20,Ob.box 110 [L y145 a0.1,L y147 a0.2.1.1,L Ty.str a0.2.1.2.1,L y199 a0.2.1.2.2,L y137 a0.2.2,AV.os 18 0,AV.os 38 0,AV.os 102 0,AV.os 114 0,nil]),(114,A 62 i64.sl (v73++[v76]) 0),(102,A 2 i64 (v72++[v75.getD (Int.toNat (0:Int)) (0:Int)]) 0),(50,A 2 i64 v24 0),(18,A 159 y159 v0 0),(1,K 45 y45 a0),(38,A 83 y83 v86 0)]) H fun H =>
      qA (Z [p 1 (R 1),p 3 (R 20),p 7 (O 50),p 8 (M i64.sl v23),p 11 (I v71),p 12 (I v85),p 13 (I (List.getD (v23.getD v71.toNat []) v85.toNat (0:Int))),p 87 (I (↑a0.2.2.length:Int)),p 88 (I v71),p 120 (M i64 (v23.getD v71.toNat [])),p 121 (I (↑(List.length (v23.getD v71.toNat [])):Int)),p 122 (I v85),p 127 (I (0:Int))] [(20,Ob.box 110 [L y145 a0.1,L y147 a0.2.1.1,L Ty.str a0.2.1.2.1,L y199 a0.2.1.2.2,L y137 a0.2.2,AV.os 18 0,AV.os 38 0,AV.os 102 0,AV.os 114 0,nil]),(114,A 62 i64.sl (v73++[v76]) 0),(102,A 2 i64 (v72++[v75.getD (Int.toNat (0:Int)) (0:Int)]) 0),(50,A 2 i64 v24 0),(18,A 159 y159 v0 0),(1,K 45 y45 a0),(38,A 83 y83 v86 0)]) <|
      vx_block <|
      lX (fun ((v89,v90):Int×List Y83)=>Z [p 1 (R 1),p 3 (R 20),p 7 (O 50),p 8 (M i64.sl v23),p 11 (I v71),p 12 (I v85),p 13 (I (List.getD (v23.getD v71.toNat []) v85.toNat (0:Int))),p 87 (I (↑a0.2.2.length:Int)),p 88 (I v71),p 120 (M i64 (v23.getD v71.toNat [])),p 121 (I (↑(List.length (v23.getD v71.toNat [])):Int)),p 122 (I v85),p 127 (I v89)] [(20,Ob.box 110 [L y145 a0.1,L y147 a0.2.1.1,L Ty.str a0.2.1.2.1,L y199 a0.2.1.2.2,L y137 a0.2.2,AV.os 18 0,AV.os 38 0,AV.os 102 0,AV.os 114 0,nil]),(114,A 62 i64.sl (v73++[v76]) 0),(102,A 2 i64 (v72++[v75.getD (Int.toNat (0:Int)) (0:Int)]) 0),(50,A 2 i64 v24 0),(18,A 159 y159 v0 0),(1,K 45 y45 a0),(38,A 83 y83 v90 0)]) (0,v86) H fun _ g10 b10 e10 t10 ⟨v89,v90⟩ H =>
      qA (Z [p 1 (R 1),p 3 (R 20),p 7 (O 50),p 8 (M i64.sl v23),p 11 (I v71),p 12 (I v85),p 13 (I (List.getD (v23.getD v71.toNat []) v85.toNat (0:Int))),p 87 (I (↑a0.2.2.length:Int)),p 88 (I v71),p 120 (M i64 (v23.getD v71.toNat [])),p 121 (I (↑(List.length (v23.getD v71.toNat [])):Int)),p 122 (I v85),p 127 (I v89),p 128 (B (decide (v89 < (2:Int))))] [(20,Ob.box 110 [L y145 a0.1,L y147 a0.2.1.1,L Ty.str a0.2.1.2.1,L y199 a0.2.1.2.2,L y137 a0.2.2,AV.os 18 0,AV.os 38 0,AV.os 102 0,AV.os 114 0,nil]),(114,A 62 i64.sl (v73++[v76]) 0),(102,A 2 i64 (v72++[v75.getD (Int.toNat (0:Int)) (0:Int)]) 0),(50,A 2 i64 v24 0),(18,A 159 y159 v0 0),(1,K 45 y45 a0),(38,A 83 y83 v90 0)]) <|
      vx_seq <|
      cD H (fun H=>?_) (fun H=>?_)
     ·refine vx_skip<|fx_seq<|vx_seq<|vx_block <|
       qA (Z [p 1 (R 1),p 3 (R 20),p 7 (O 50),p 8 (M i64.sl v23),p 11 (I v71),p 12 (I v85),p 13 (I (List.getD (v23.getD v71.toNat []) v85.toNat (0:Int))),p 14 (I v89),p 87 (I (↑a0.2.2.length:Int)),p 88 (I v71),p 120 (M i64 (v23.getD v71.toNat [])),p 121 (I (↑(List.length (v23.getD v71.toNat [])):Int)),p 122 (I v85),p 127 (I v89)] [(20,Ob.box 110 [L y145 a0.1,L y147 a0.2.1.1,L Ty.str a0.2.1.2.1,L y199 a0.2.1.2.2,L y137 a0.2.2,AV.os 18 0,AV.os 38 0,AV.os 102 0,AV.os 114 0,nil]),(114,A 62 i64.sl (v73++[v76]) 0),(102,A 2 i64 (v72++[v75.getD (Int.toNat (0:Int)) (0:Int)]) 0),(50,A 2 i64 v24 0),(18,A 159 y159 v0 0),(1,K 45 y45 a0),(38,A 83 y83 v90 0)]) <|
       zD (fun (v91,v92)=>Z [p 1 (R 1),p 3 (R 20),p 7 (O 50),p 8 (M i64.sl v23),p 11 (I v71),p 12 (I v85),p 13 (I (List.getD (v23.getD v71.toNat []) v85.toNat (0:Int))),p 87 (I (↑a0.2.2.length:Int)),p 88 (I v71),p 120 (M i64 (v23.getD v71.toNat [])),p 121 (I (↑(List.length (v23.getD v71.toNat [])):Int)),p 122 (I v85),p 127 (I v89)] [(20,Ob.box 110 [L y145 a0.1,L y147 a0.2.1.1,L Ty.str a0.2.1.2.1,L y199 a0.2.1.2.2,L y137 a0.2.2,AV.os 18 0,AV.os 38 1,AV.os 102 0,AV.os 114 0,nil]),(38,A 83 y83 v91 1),(148,A 83 y83 v92 0),(114,A 62 i64.sl (v73++[v76]) 0),(102,A 2 i64 (v72++[v75.getD (Int.toNat (0:Int)) (0:Int)]) 0),(50,A 2 i64 v24 0),(18,A 159 y159 v0 0),(1,K 45 y45 a0)]) H fun ⟨v91,v92⟩ H =>
       fx_blk<|fx_seq <|
       zB (Z [p 1 (R 1),p 3 (R 20),p 7 (O 50),p 8 (M i64.sl v23),p 11 (I v71),p 12 (I v85),p 13 (I (List.getD (v23.getD v71.toNat []) v85.toNat (0:Int))),p 87 (I (↑a0.2.2.length:Int)),p 88 (I v71),p 120 (M i64 (v23.getD v71.toNat [])),p 121 (I (↑(List.length (v23.getD v71.toNat [])):Int)),p 122 (I v85),p 127 (I (v89+(1:Int)))] [(20,Ob.box 110 [L y145 a0.1,L y147 a0.2.1.1,L Ty.str a0.2.1.2.1,L y199 a0.2.1.2.2,L y137 a0.2.2,AV.os 18 0,AV.os 38 1,AV.os 102 0,AV.os 114 0,nil]),(38,A 83 y83 v91 1),(148,A 83 y83 v92 0),(114,A 62 i64.sl (v73++[v76]) 0),(102,A 2 i64 (v72++[v75.getD (Int.toNat (0:Int)) (0:Int)]) 0),(50,A 2 i64 v24 0),(18,A 159 y159 v0 0),(1,K 45 y45 a0)]) H fun H =>
       b10 H
     exact vx_exit<|fx_seq_exit<|e10<|fx_blk_exit rfl<|fx_blk<|n9 H
    exact vx_exit<|fx_seq_exit<|e8<|fx_blk_exit rfl<|fx_blk<|n7 H
   exact vx_exit<|fx_seq_exit<|e6<|fx_blk_exit rfl<|n5 H
  refine qA (Z [p 1 (R 1),p 3 (R 20),p 7 (O 50),p 8 (AV.og 54),p 58 (O 18),p 59 (I (↑v0.length:Int)),p 60 (I 0)] [(54,Ob.grd 62 2 true i64 (List.replicate (↑a0.2.2.length:Int).toNat []) none),(50,A 2 i64 (List.replicate (↑a0.2.2.length:Int).toNat 0) 0),(20,Ob.box 110 [L y145 a0.1,L y147 a0.2.1.1,L Ty.str a0.2.1.2.1,L y199 a0.2.1.2.2,L y137 a0.2.2,AV.os 18 0,AV.os 38 0,nil,nil,nil]),(18,A 159 y159 v0 0),(1,K 45 y45 a0),(38,A 83 y83 v10 0)]) <|
   vx_block <|
   lX (fun ((v16,v17,v18):Int×List (List Int)×List Int)=>Z [p 1 (R 1),p 3 (R 20),p 7 (O 50),p 8 (AV.og 54),p 58 (O 18),p 59 (I (↑v0.length:Int)),p 60 (I v16)] [(54,Ob.grd 62 2 true i64 v17 none),(50,A 2 i64 v18 0),(20,Ob.box 110 [L y145 a0.1,L y147 a0.2.1.1,L Ty.str a0.2.1.2.1,L y199 a0.2.1.2.2,L y137 a0.2.2,AV.os 18 0,AV.os 38 0,nil,nil,nil]),(18,A 159 y159 v0 0),(1,K 45 y45 a0),(38,A 83 y83 v10 0)]) ((0,List.replicate (↑a0.2.2.length:Int).toNat [],List.replicate (↑a0.2.2.length:Int).toNat 0)) H fun _ g3 b3 e3 t3 ⟨v16,v17,v18⟩ H =>
   qA (Z [p 1 (R 1),p 3 (R 20),p 7 (O 50),p 8 (AV.og 54),p 58 (O 18),p 59 (I (↑v0.length:Int)),p 60 (I v16),p 61 (B (decide (v16 < (↑v0.length:Int))))] [(54,Ob.grd 62 2 true i64 v17 none),(50,A 2 i64 v18 0),(20,Ob.box 110 [L y145 a0.1,L y147 a0.2.1.1,L Ty.str a0.2.1.2.1,L y199 a0.2.1.2.2,L y137 a0.2.2,AV.os 18 0,AV.os 38 0,nil,nil,nil]),(18,A 159 y159 v0 0),(1,K 45 y45 a0),(38,A 83 y83 v10 0)]) <|
   vx_seq <|
   cD H (fun H=>?_) (fun H=>?_)
  ·refine vx_skip<|fx_seq <|
    jN r (fun ((v21,v22):List Int×List (List Int))=>Z [p 1 (R 1),p 3 (R 20),p 7 (O 50),p 8 (AV.og 54),p 58 (O 18),p 59 (I (↑v0.length:Int)),p 60 (I v16)] [(50,A 2 i64 v21 0),(54,Ob.grd 62 2 true i64 v22 none),(20,Ob.box 110 [L y145 a0.1,L y147 a0.2.1.1,L Ty.str a0.2.1.2.1,L y199 a0.2.1.2.2,L y137 a0.2.2,AV.os 18 0,AV.os 38 0,nil,nil,nil]),(18,A 159 y159 v0 0),(1,K 45 y45 a0),(38,A 83 y83 v10 0)]) (u44J4 v16 g3) (fun ⟨v21,v22⟩ H=>?_) (fun _ n4 e4 t4=>?_)
   ·refine zB (Z [p 1 (R 1),p 3 (R 20),p 7 (O 50),p 8 (AV.og 54),p 58 (O 18),p 59 (I (↑v0.length:Int)),p 60 (I (v16+1))] [(50,A 2 i64 v21 0),(54,Ob.grd 62 2 true i64 v22 none),(20,Ob.box 110 [L y145 a0.1,L y147 a0.2.1.1,L Ty.str a0.2.1.2.1,L y199 a0.2.1.2.2,L y137 a0.2.2,AV.os 18 0,AV.os 38 0,nil,nil,nil]),(18,A 159 y159 v0 0),(1,K 45 y45 a0),(38,A 83 y83 v10 0)]) H fun H =>
     b3 H
   refine vx_block <|
    qD (fun v19=>Z [p 1 (R 1),p 3 (R 20),p 7 (O 50),p 8 (AV.og 54),p 9 (I v16),p 10 (R 10),p 58 (O 18),p 59 (I (↑v0.length:Int)),p 60 (I v16)] [(10,Ob.box 159 (cellsD true y159 v19)),(54,Ob.grd 62 2 true i64 v17 none),(50,A 2 i64 v18 0),(20,Ob.box 110 [L y145 a0.1,L y147 a0.2.1.1,L Ty.str a0.2.1.2.1,L y199 a0.2.1.2.2,L y137 a0.2.2,AV.os 18 0,AV.os 38 0,nil,nil,nil]),(18,A 159 y159 v0 0),(1,K 45 y45 a0),(38,A 83 y83 v10 0)]) H fun v19 H =>
    qA (Z [p 1 (R 1),p 3 (R 20),p 7 (O 50),p 8 (AV.og 54),p 9 (I v16),p 10 (R 10),p 58 (O 18),p 59 (I (↑v0.length:Int)),p 60 (I v16),p 66 (B v19.2.2.2)] [(10,Ob.box 159 (cellsD true y159 v19)),(54,Ob.grd 62 2 true i64 v17 none),(50,A 2 i64 v18 0),(20,Ob.box 110 [L y145 a0.1,L y147 a0.2.1.1,L Ty.str a0.2.1.2.1,L y199 a0.2.1.2.2,L y137 a0.2.2,AV.os 18 0,AV.os 38 0,nil,nil,nil]),(18,A 159 y159 v0 0),(1,K 45 y45 a0),(38,A 83 y83 v10 0)]) <|
    cD H (fun H=>?_) (fun H=>?_)
   ·refine zB (Z [p 1 (R 1),p 3 (R 20),p 7 (O 50),p 8 (AV.og 54),p 58 (O 18),p 59 (I (↑v0.length:Int)),p 60 (I v16)] [(50,A 2 i64 (v18.set v19.2.2.1.toNat v16) 0),(10,Ob.box 159 (cellsD true y159 v19)),(54,Ob.grd 62 2 true i64 v17 none),(20,Ob.box 110 [L y145 a0.1,L y147 a0.2.1.1,L Ty.str a0.2.1.2.1,L y199 a0.2.1.2.2,L y137 a0.2.2,AV.os 18 0,AV.os 38 0,nil,nil,nil]),(18,A 159 y159 v0 0),(1,K 45 y45 a0),(38,A 83 y83 v10 0)]) H fun H =>
     fx_blk<|n4 H
   refine zD (fun v20=>Z [p 1 (R 1),p 3 (R 20),p 7 (O 50),p 8 (AV.og 54),p 58 (O 18),p 59 (I (↑v0.length:Int)),p 60 (I v16)] [(54,Ob.grd 62 2 true i64 v20 none),(79,A 2 i64 [] 2),(81,A 2 i64 [v16] 0),(10,Ob.box 159 (cellsD true y159 v19)),(50,A 2 i64 v18 0),(20,Ob.box 110 [L y145 a0.1,L y147 a0.2.1.1,L Ty.str a0.2.1.2.1,L y199 a0.2.1.2.2,L y137 a0.2.2,AV.os 18 0,AV.os 38 0,nil,nil,nil]),(18,A 159 y159 v0 0),(1,K 45 y45 a0),(38,A 83 y83 v10 0)]) H fun v20 H =>
    fx_blk<|n4 H
  exact vx_exit<|fx_seq_exit<|e3<|fx_blk_exit rfl<|n2 H
 refine qA (Z [p 1 (R 1),p 3 (R 20),p 4 (I 0),p 23 (L y147 a0.2.1.1),p 24 (I (↑a0.2.1.1.length:Int)),p 25 (I 0)] [(20,Ob.box 110 [L y145 a0.1,L y147 a0.2.1.1,L Ty.str a0.2.1.2.1,L y199 a0.2.1.2.2,L y137 a0.2.2,AV.os 18 0,nil,nil,nil,nil]),(18,A 159 y159 v0 0),(1,K 45 y45 a0)]) <|
  vx_block <|
  lX (fun ((v4,v5,v6):Int×Int×List Y83)=>Z [p 1 (R 1),p 3 (R 20),p 4 (I v4),p 23 (L y147 a0.2.1.1),p 24 (I (↑a0.2.1.1.length:Int)),p 25 (I v5)] [(20,Ob.box 110 [L y145 a0.1,L y147 a0.2.1.1,L Ty.str a0.2.1.2.1,L y199 a0.2.1.2.2,L y137 a0.2.2,AV.os 18 0,AV.os 38 0,nil,nil,nil]),(18,A 159 y159 v0 0),(1,K 45 y45 a0),(38,A 83 y83 v6 0)]) (0,0,[]) H fun _ g1 b1 e1 t1 ⟨v4,v5,v6⟩ H =>
  qA (Z [p 1 (R 1),p 3 (R 20),p 4 (I v4),p 23 (L y147 a0.2.1.1),p 24 (I (↑a0.2.1.1.length:Int)),p 25 (I v5),p 26 (B (decide (v5 < (↑a0.2.1.1.length:Int))))] [(20,Ob.box 110 [L y145 a0.1,L y147 a0.2.1.1,L Ty.str a0.2.1.2.1,L y199 a0.2.1.2.2,L y137 a0.2.2,AV.os 18 0,AV.os 38 0,nil,nil,nil]),(18,A 159 y159 v0 0),(1,K 45 y45 a0),(38,A 83 y83 v6 0)]) <|
  vx_seq <|
  cD H (fun H=>?_) (fun H=>?_)
 ·refine vx_skip<|fx_seq<|vx_seq<|vx_block <|
   qD (fun v7=>Z [p 1 (R 1),p 3 (R 20),p 4 (I v4),p 6 (R 6),p 23 (L y147 a0.2.1.1),p 24 (I (↑a0.2.1.1.length:Int)),p 25 (I v5)] [(6,K 147 y147 v7),(20,Ob.box 110 [L y145 a0.1,L y147 a0.2.1.1,L Ty.str a0.2.1.2.1,L y199 a0.2.1.2.2,L y137 a0.2.2,AV.os 18 0,AV.os 38 0,nil,nil,nil]),(18,A 159 y159 v0 0),(1,K 45 y45 a0),(38,A 83 y83 v6 0)]) H fun v7 H =>
   qD (fun v8=>Z [p 1 (R 1),p 3 (R 20),p 4 (I v4),p 6 (R 6),p 23 (L y147 a0.2.1.1),p 24 (I (↑a0.2.1.1.length:Int)),p 25 (I v5)] [(20,Ob.box 110 [L y145 a0.1,L y147 a0.2.1.1,L Ty.str a0.2.1.2.1,L y199 a0.2.1.2.2,L y137 a0.2.2,AV.os 18 0,AV.os 38 1,nil,nil,nil]),(38,A 83 y83 (v6++v8) 1),(37,A 83 y83 v8 0),(6,K 147 y147 v7),(18,A 159 y159 v0 0),(1,K 45 y45 a0)]) H fun v8 H =>
   zD (fun v9=>Z [p 1 (R 1),p 3 (R 20),p 4 (I (v4+v9)),p 23 (L y147 a0.2.1.1),p 24 (I (↑a0.2.1.1.length:Int)),p 25 (I v5)] [(20,Ob.box 110 [L y145 a0.1,L y147 a0.2.1.1,L Ty.str a0.2.1.2.1,L y199 a0.2.1.2.2,L y137 a0.2.2,AV.os 18 0,AV.os 38 1,nil,nil,nil]),(38,A 83 y83 (v6++v8) 1),(37,A 83 y83 v8 0),(6,K 147 y147 v7),(18,A 159 y159 v0 0),(1,K 45 y45 a0)]) H fun v9 H =>
   fx_blk<|fx_seq <|
   zB (Z [p 1 (R 1),p 3 (R 20),p 4 (I (v4+v9)),p 23 (L y147 a0.2.1.1),p 24 (I (↑a0.2.1.1.length:Int)),p 25 (I (v5+1))] [(20,Ob.box 110 [L y145 a0.1,L y147 a0.2.1.1,L Ty.str a0.2.1.2.1,L y199 a0.2.1.2.2,L y137 a0.2.2,AV.os 18 0,AV.os 38 1,nil,nil,nil]),(38,A 83 y83 (v6++v8) 1),(37,A 83 y83 v8 0),(6,K 147 y147 v7),(18,A 159 y159 v0 0),(1,K 45 y45 a0)]) H fun H =>
   b1 H
 exact vx_exit<|fx_seq_exit<|e1<|fx_blk_exit rfl<|n0 H
def u182 (a0:Int) (a1:Int) (a2:Int):Option (Bool) :=
 gd ((u98 a0 a1 a2).isSome=true∧True) <|
 some (!vl (u98 a0 a1 a2))
def k182:Ct:=lct 182 [.dat i64,.dat (.pt i64),.dat (.pt i64)] (fun x=>u182 x.1 x.2.1 x.2.2.1) (fun r:Bool=>B r) (fun _=>())
theorem o182:Ok Tryz.prog k182:=by
 refine okL [.tmp 4] Tryz.func182 Tryz.ntmps182 Tryz.results182 ?_
 intro y ⟨a0,a1,a2,_⟩ r H Q hn hr
 have:HT _ _:=⟨tc o98 tn⟩
 refine qA (Z [p 0 (J a0),p 1 (D i64.pt a1),p 2 (D i64.pt a2)] []) <|
  qB (Z [p 4 (B !vl (u98 a0 a1 a2))] []) H fun H =>
  vx_ret<|hr H
def u207c182J0:Unit→Option (Int)
 | _ =>
 some (-1)
def u207c182L1 (a0:List Int) (a1:Int×Int) (g1:Int→Option (Int)):Int→Option (Int)
 | v0 =>
 if (decide (v0 < (↑a0.length:Int)))=true then
  gd (ix v0 a0.length∧(u182 (a0.getD v0.toNat 0) a1.1 a1.2).isSome=true∧True) <|
  if (vl (u182 (a0.getD v0.toNat 0) a1.1 a1.2))=true then
   some v0
  else
   gd (in64 (v0+1)∧True) <|
   g1 (v0+1)
 else
  u207c182J0 ()
def u207c182 (a0:List Int) (a1:Int×Int):Option (Int) :=
 lp (u207c182L1 a0 a1) 0
def k207c182:Ct:=lct 207 [.dat i64.sl,.fn 182 (.pr i64.pt i64.pt)] (fun x=>u207c182 x.1 x.2.1) (fun r:Int=>I r) (fun _=>())
theorem o207c182:Ok Tryz.prog k207c182:=by
 refine okL [.tmp 4] Tryz.func207 Tryz.ntmps207 Tryz.results207 ?_
 intro y ⟨a0,a1,_⟩ r H Q hn hr
 have:HT _ _:=⟨tc o182 tn⟩
 refine qA (Z [p 0 (L i64 a0),p 1 (AV.fn 182 [D i64.pt a1.1,D i64.pt a1.2])] []) <|
  jN r (fun (_:Unit)=>Z [] []) (u207c182J0) (fun _ H=>?_) (fun _ n0 e0 t0=>?_)
 ·refine qA (Z [p 4 (I (-1))] []) <|
   vx_ret<|hr H
 refine qA (Z [p 0 (L i64 a0),p 1 (AV.fn 182 [D i64.pt a1.1,D i64.pt a1.2]),p 7 (I (↑a0.length:Int)),p 8 (I 0)] []) <|
  vx_block <|
  lX (fun (v0:Int)=>Z [p 0 (L i64 a0),p 1 (AV.fn 182 [D i64.pt a1.1,D i64.pt a1.2]),p 7 (I (↑a0.length:Int)),p 8 (I v0)] []) 0 H fun _ g1 b1 e1 t1 v0 H =>
  qA (Z [p 0 (L i64 a0),p 1 (AV.fn 182 [D i64.pt a1.1,D i64.pt a1.2]),p 7 (I (↑a0.length:Int)),p 8 (I v0),p 9 (B (decide (v0 < (↑a0.length:Int))))] []) <|
  vx_seq <|
  cD H (fun H=>?_) (fun H=>?_)
 ·refine vx_skip<|fx_seq<|vx_seq<|vx_block <|
   qA (Z [p 0 (L i64 a0),p 1 (AV.fn 182 [D i64.pt a1.1,D i64.pt a1.2]),p 5 (I v0),p 7 (I (↑a0.length:Int)),p 8 (I v0)] []) <|
   qB (Z [p 0 (L i64 a0),p 1 (AV.fn 182 [D i64.pt a1.1,D i64.pt a1.2]),p 5 (I v0),p 7 (I (↑a0.length:Int)),p 8 (I v0),p 16 (B (vl (u182 (a0.getD v0.toNat 0) a1.1 a1.2)))] []) H fun H =>
   cD H (fun H=>?_) (fun H=>?_)
  ·refine qA (Z [p 4 (I v0)] []) <|
    vx_ret<|fx_blk_ret<|fx_seq_ret<|t1<|fx_blk_ret<|t0<|hr H
  refine vx_skip<|fx_blk<|fx_seq <|
   zB (Z [p 0 (L i64 a0),p 1 (AV.fn 182 [D i64.pt a1.1,D i64.pt a1.2]),p 7 (I (↑a0.length:Int)),p 8 (I (v0+1))] []) H fun H =>
   b1 H
 exact vx_exit<|fx_seq_exit<|e1<|fx_blk_exit rfl<|n0 H
def u178c182 (a0:List Int) (a1:Int×Int):Option (Bool) :=
 gd ((u207c182 a0 a1).isSome=true∧True)<|lt (vl (u207c182 a0 a1)) fun v0 =>
 some (decide (0≤v0))
def k178c182:Ct:=lct 178 [.dat i64.sl,.fn 182 (.pr (.pt i64) (.pt i64))] (fun x=>u178c182 x.1 x.2.1) (fun r:Bool=>B r) (fun _=>())
theorem o178c182:Ok Tryz.prog k178c182:=by
 refine okL [.tmp 4] Tryz.func178 Tryz.ntmps178 Tryz.results178 ?_
 intro y ⟨a0,a1,_⟩ r H Q hn hr
 have:HT _ _:=⟨tc o207c182 (tc o182 tn)⟩
 refine qA (Z [p 0 (L i64 a0),p 1 (AV.fn 182 [D i64.pt a1.1,D i64.pt a1.2])] []) <|
  qD (fun v0=>Z [p 4 (B (decide (0≤v0)))] []) H fun v0 H =>
  vx_ret<|hr H
def u147 (a0:List Int) (a1:Int) (a2:Int):Option (Bool) :=
 gd ((u178c182 a0 (a1,a2)).isSome=true∧True) <|
 some (!vl (u178c182 a0 (a1,a2)))
def k147:Ct:=lct 147 [.dat i64.sl,.dat i64,.dat i64] (fun x=>u147 x.1 x.2.1 x.2.2.1) (fun r:Bool=>B r) (fun _=>())
theorem o147:Ok Tryz.prog k147:=by
 refine okL [.tmp 6] Tryz.func147 Tryz.ntmps147 Tryz.results147 ?_
 intro y ⟨a0,a1,a2,_⟩ r H Q hn hr
 have:HT _ _:=⟨tc o178c182 (tc o182 tn)⟩
 refine qA (Z [p 0 (L i64 a0),p 4 (R 4),p 5 (R 5)] [(5,Ob.box 2 [J a2]),(4,Ob.box 2 [J a1])]) <|
  qB (Z [p 6 (B !vl (u178c182 a0 (a1,a2)))] [(5,Ob.box 2 [J a2]),(4,Ob.box 2 [J a1])]) H fun H =>
  vx_ret<|hr H
def u146J0:Unit→Option (Bool)
 | _ =>
 some true
def u146L1 (a0:Y137) (g1:Int→Option (Bool)):Int→Option (Bool)
 | v0 =>
 if (decide (v0 < (↑a0.1.length:Int)))=true then
  gd (ix v0 a0.1.length∧True) <|
  gd (((a0.1.getD v0.toNat (0:Int) != (-1:Int))=false∧(v0==(0:Int))=true∧True→ix (0:Int) a0.2.1.length)∧(decide ((0:Int) < v0)=true∧(v0==(0:Int)&&(a0.1.getD v0.toNat (0:Int) != (-1:Int)||a0.2.1.getD (Int.toNat (0:Int)) (0:Int) != (0:Int)))=false∧True→in64 (v0 - (1:Int)))∧(decide ((0:Int) < v0)=true∧(v0==(0:Int)&&(a0.1.getD v0.toNat (0:Int) != (-1:Int)||a0.2.1.getD (Int.toNat (0:Int)) (0:Int) != (0:Int)))=false∧True→(u98 (a0.1.getD v0.toNat (0:Int)) (0:Int) (v0 - (1:Int))).isSome=true)∧True) <|
  if (v0==(0:Int)&&(a0.1.getD v0.toNat (0:Int) != (-1:Int)||a0.2.1.getD (Int.toNat (0:Int)) (0:Int) != (0:Int))||decide ((0:Int) < v0)&&!vl (u98 (a0.1.getD v0.toNat (0:Int)) (0:Int) (v0 - (1:Int))))=true then
   some false
  else
   gd (in64 (v0+1)∧True) <|
   g1 (v0+1)
 else
  u146J0 ()
def u146 (a0:Y137):Option (Bool) :=
 lp (u146L1 a0) 0
def k146:Ct:=lct 146 [.agg y137] (fun x=>u146 x.1) (fun r:Bool=>B r) (fun _=>())
theorem o146:Ok Tryz.prog k146:=by
 refine okL [.tmp 2] Tryz.func146 Tryz.ntmps146 Tryz.results146 ?_
 intro y ⟨a0,_⟩ r H Q hn hr
 have:HT _ _:=⟨tc o98 tn⟩
 refine qA (Z [p 1 (R 1)] [(1,K 137 y137 a0)]) <|
  jN r (fun (_:Unit)=>Z [] []) (u146J0) (fun _ H=>?_) (fun _ n0 e0 t0=>?_)
 ·refine qA (Z [p 2 (B true)] []) <|
   vx_ret<|hr H
 refine qA (Z [p 1 (R 1),p 6 (L i64 a0.1),p 7 (I (↑a0.1.length:Int)),p 8 (I 0)] [(1,K 137 y137 a0)]) <|
  vx_block <|
  lX (fun (v0:Int)=>Z [p 1 (R 1),p 6 (L i64 a0.1),p 7 (I (↑a0.1.length:Int)),p 8 (I v0)] [(1,K 137 y137 a0)]) 0 H fun _ g1 b1 e1 t1 v0 H =>
  qA (Z [p 1 (R 1),p 6 (L i64 a0.1),p 7 (I (↑a0.1.length:Int)),p 8 (I v0),p 9 (B (decide (v0 < (↑a0.1.length:Int))))] [(1,K 137 y137 a0)]) <|
  vx_seq <|
  cD H (fun H=>?_) (fun H=>?_)
 ·refine vx_skip<|fx_seq<|vx_seq<|vx_block <|
   qB (Z [p 1 (R 1),p 3 (I v0),p 4 (J (a0.1.getD v0.toNat 0)),p 6 (L i64 a0.1),p 7 (I (↑a0.1.length:Int)),p 8 (I v0)] [(1,K 137 y137 a0)]) H fun H =>
   qB (Z [p 1 (R 1),p 6 (L i64 a0.1),p 7 (I (↑a0.1.length:Int)),p 8 (I v0),p 36 (B (v0==(0:Int)&&(a0.1.getD v0.toNat (0:Int) != (-1:Int)||a0.2.1.getD (Int.toNat (0:Int)) (0:Int) != (0:Int))||decide ((0:Int) < v0)&&!vl (u98 (a0.1.getD v0.toNat (0:Int)) (0:Int) (v0 - (1:Int)))))] [(1,K 137 y137 a0)]) H fun H =>
   cD H (fun H=>?_) (fun H=>?_)
  ·refine qA (Z [p 2 (B false)] [(1,K 137 y137 a0)]) <|
    vx_ret<|fx_blk_ret<|fx_seq_ret<|t1<|fx_blk_ret<|t0<|hr H
  refine vx_skip<|fx_blk<|fx_seq <|
   zB (Z [p 1 (R 1),p 6 (L i64 a0.1),p 7 (I (↑a0.1.length:Int)),p 8 (I (v0+1))] [(1,K 137 y137 a0)]) H fun H =>
   b1 H
 exact vx_exit<|fx_seq_exit<|e1<|fx_blk_exit rfl<|n0 H
def u93 (a0:Y137) (a1:Int):Option (Bool) :=
 gd ((u95 a0.1).isSome=true∧True)<|lt (vl (u95 a0.1)) fun v0 =>
 gd ((u98 v0 1 8).isSome=true∧(vl (u98 v0 1 8)=true∧True→(u95 a0.2.1).isSome=true)∧((vl (u98 v0 1 8)&&vl (u95 a0.2.1)==v0)=true∧True→(u95 a0.2.2.1).isSome=true)∧((vl (u98 v0 1 8)&&vl (u95 a0.2.1)==v0&&vl (u95 a0.2.2.1)==v0)=true∧True→(u146 a0).isSome=true)∧((vl (u98 v0 1 8)&&vl (u95 a0.2.1)==v0&&vl (u95 a0.2.2.1)==v0&&vl (u146 a0))=true∧True→(u147 a0.2.1 0 1000).isSome=true)∧((vl (u98 v0 1 8)&&vl (u95 a0.2.1)==v0&&vl (u95 a0.2.2.1)==v0&&vl (u146 a0)&&vl (u147 a0.2.1 0 1000))=true∧True→(u147 a0.2.2.1 0 500).isSome=true)∧((vl (u98 v0 1 8)&&vl (u95 a0.2.1)==v0&&vl (u95 a0.2.2.1)==v0&&vl (u146 a0)&&vl (u147 a0.2.1 0 1000)&&vl (u147 a0.2.2.1 0 500))=true∧True→(u95 a0.2.2.2).isSome=true)∧((vl (u98 v0 1 8)&&vl (u95 a0.2.1)==v0&&vl (u95 a0.2.2.1)==v0&&vl (u146 a0)&&vl (u147 a0.2.1 0 1000)&&vl (u147 a0.2.2.1 0 500)&&vl (u95 a0.2.2.2)==a1)=true∧True→in64 (v0 - 1))∧((vl (u98 v0 1 8)&&vl (u95 a0.2.1)==v0&&vl (u95 a0.2.2.1)==v0&&vl (u146 a0)&&vl (u147 a0.2.1 0 1000)&&vl (u147 a0.2.2.1 0 500)&&vl (u95 a0.2.2.2)==a1)=true∧True→(u147 a0.2.2.2 0 (v0 - 1)).isSome=true)∧True)<|lt ((vl (u95 a0.2.1),vl (u95 a0.2.2.1),vl (u95 a0.2.2.2))) fun (v1,v2,v3) =>
 some (vl (u98 v0 1 8)&&v1==v0&&v2==v0&&vl (u146 a0)&&vl (u147 a0.2.1 0 1000)&&vl (u147 a0.2.2.1 0 500)&&v3==a1&&vl (u147 a0.2.2.2 0 (v0 - 1)))
def k93:Ct:=lct 93 [.agg y137,.dat i64] (fun x=>u93 x.1 x.2.1) (fun r:Bool=>B r) (fun _=>())
theorem o93:Ok Tryz.prog k93:=by
 refine okL [.tmp 4] Tryz.func93 Tryz.ntmps93 Tryz.results93 ?_
 intro y ⟨a0,a1,_⟩ r H Q hn hr
 have:HT _ _:=⟨tc o147 (tc o95 (tc o146 (tc o98 tn)))⟩
 refine qA (Z [p 1 (J a1),p 2 (R 2)] [(2,K 137 y137 a0)]) <|
  qD (fun v0=>Z [p 1 (J a1),p 2 (R 2),p 5 (I v0)] [(2,K 137 y137 a0)]) H fun v0 H =>
  qD (fun (v1,v2,v3)=>Z [p 4 (B (vl (u98 v0 1 8)&&v1==v0&&v2==v0&&vl (u146 a0)&&vl (u147 a0.2.1 0 1000)&&vl (u147 a0.2.2.1 0 500)&&v3==a1&&vl (u147 a0.2.2.2 0 (v0 - 1))))] [(2,K 137 y137 a0)]) H fun ⟨v1,v2,v3⟩ H =>
  vx_ret<|hr H
def u145 (a0:Int):Option (Bool) :=
 some (a0 != 1)
def k145:Ct:=lct 145 [.dat i64] (fun x=>u145 x.1) (fun r:Bool=>B r) (fun _=>())
theorem o145:Ok Tryz.prog k145:=by
 refine okL [.tmp 2] Tryz.func145 Tryz.ntmps145 Tryz.results145 ?_
 intro y ⟨a0,_⟩ r H Q hn hr
 have:HT _ _:=⟨@tn Tryz.prog⟩
 refine qA (Z [p 0 (J a0)] []) <|
  qA (Z [p 2 (B (a0 != 1))] []) <|
  vx_ret<|hr H
def u180 (a0:List ByteArray):Option (Int) :=
 some (↑a0.length:Int)
def k180:Ct:=lct 180 [.dat Ty.str.sl] (fun x=>u180 x.1) (fun r:Int=>I r) (fun _=>())
theorem o180:Ok Tryz.prog k180:=by
 refine okL [.tmp 2] Tryz.func180 Tryz.ntmps180 Tryz.results180 ?_
 intro y ⟨a0,_⟩ r H Q hn hr
 have:HT _ _:=⟨@tn Tryz.prog⟩
 refine qA (Z [p 0 (L Ty.str a0)] []) <|
  qA (Z [p 2 (I (↑a0.length:Int))] []) <|
  vx_ret<|hr H
def u143 (a0:Y42) (a1:Int):Option (Bool) :=
 gd ((u180 a0.2.1).isSome=true∧in64 (vl (u180 a0.2.1) - 1)∧(u98 a1 0 (vl (u180 a0.2.1) - 1)).isSome=true∧True) <|
 some (vl (u98 a1 0 (vl (u180 a0.2.1) - 1)))
def k143:Ct:=lct 143 [.agg y42,.dat i64] (fun x=>u143 x.1 x.2.1) (fun r:Bool=>B r) (fun _=>())
theorem o143:Ok Tryz.prog k143:=by
 refine okL [.tmp 4] Tryz.func143 Tryz.ntmps143 Tryz.results143 ?_
 intro y ⟨a0,a1,_⟩ r H Q hn hr
 have:HT _ _:=⟨tc o98 (tc o180 tn)⟩
 refine qA (Z [p 1 (J a1),p 2 (R 2)] [(2,K 42 y42 a0)]) <|
  qB (Z [p 4 (B (vl (u98 a1 0 (vl (u180 a0.2.1) - 1))))] [(2,K 42 y42 a0)]) H fun H =>
  vx_ret<|hr H
def u177 (a0:List Y145):Option (Int) :=
 some (↑a0.length:Int)
def k177:Ct:=lct 177 [.dat y145.sl] (fun x=>u177 x.1) (fun r:Int=>I r) (fun _=>())
theorem o177:Ok Tryz.prog k177:=by
 refine okL [.tmp 2] Tryz.func177 Tryz.ntmps177 Tryz.results177 ?_
 intro y ⟨a0,_⟩ r H Q hn hr
 have:HT _ _:=⟨@tn Tryz.prog⟩
 refine qA (Z [p 0 (L y145 a0)] []) <|
  qA (Z [p 2 (I (↑a0.length:Int))] []) <|
  vx_ret<|hr H
def u179 (a0:Int) (a1:Y42):Option (Bool) :=
 gd ((u143 a1 a0).isSome=true∧True) <|
 some (!vl (u143 a1 a0))
def k179:Ct:=lct 179 [.dat i64,.dat (.pt y42)] (fun x=>u179 x.1 x.2.1) (fun r:Bool=>B r) (fun _=>())
theorem o179:Ok Tryz.prog k179:=by
 refine okL [.tmp 3] Tryz.func179 Tryz.ntmps179 Tryz.results179 ?_
 intro y ⟨a0,a1,_⟩ r H Q hn hr
 have:HT _ _:=⟨tc o143 tn⟩
 refine qA (Z [p 0 (J a0),p 1 (D y42.pt a1)] []) <|
  qB (Z [p 3 (B !vl (u143 a1 a0))] []) H fun H =>
  vx_ret<|hr H
end Go.Proofs.YticmgmebjmblgaaGreatDoor
