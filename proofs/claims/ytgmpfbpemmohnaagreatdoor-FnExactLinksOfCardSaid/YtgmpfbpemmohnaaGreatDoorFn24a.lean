/- Functions of this program as plain functions of data, and that they are so: printed by program. -/
import Derived.Test.YtgmpfbpemmohnaaGreatDoorXE
import Derived.Test.YtgmpfbpemmohnaaGreatDoorXF
import Derived.Test.YtgmpfbpemmohnaaGreatDoorTY
import Derived.Test.YtgmpfbpemmohnaaGreatDoorLB
namespace Go.Proofs.YtgmpfbpemmohnaaGreatDoor
open Go Go.Proofs Go.Proofs.Sv Go.Proofs.Xv Go.Proofs.Xl Go.RowKit
instance:HG Tryz.prog Γ:=⟨tok⟩
def u115 (a0:List Int) (a1:Int):Option (Int) :=
 gd (in64 (a1 - (↑a0.length:Int))∧True) <|
 if (decide (a1 - (↑a0.length:Int) < 0))=true then
  some (-1)
 else
  some (a1 - (↑a0.length:Int))
def k115:Ct:=lct 115 [.dat i64.sl,.dat i64] (fun x=>u115 x.1 x.2.1) (fun r:Int=>I r) (fun _=>())
theorem o115:Ok Tryz.prog k115:=by
 refine okL [.tmp 4] Tryz.func115 Tryz.ntmps115 Tryz.results115 ?_
 intro y ⟨a0,a1,_⟩ r H Q hn hr
 have:HT _ _:=⟨@tn Tryz.prog⟩
 refine qA (Z [p 0 (L i64 a0),p 1 (J a1)] []) <|
  qB (Z [p 1 (I (a1 - (↑a0.length:Int)))] []) H fun H =>
  vx_seq <|
  qA (Z [p 1 (I (a1 - (↑a0.length:Int))),p 10 (B (decide (a1 - (↑a0.length:Int) < 0)))] []) <|
  cD H (fun H=>?_) (fun H=>?_)
 ·refine qA (Z [p 4 (I (-1))] []) <|
   vx_ret<|fx_seq_ret<|hr H
 refine vx_skip<|fx_seq <|
  qA (Z [p 4 (I (a1 - (↑a0.length:Int)))] []) <|
  vx_ret<|hr H
def u68 (a0:Y111) (a1:Int):Option (Int) :=
 gd ((u115 a0.1 a1).isSome=true∧True)<|lt (vl (u115 a0.1 a1)) fun v0 =>
 if (decide (v0 < 0))=true then
  some (-1)
 else
  gd ((u115 a0.2.1 v0).isSome=true∧True)<|lt (vl (u115 a0.2.1 v0)) fun v1 =>
  if (decide (v1 < 0))=true then
   some (-1)
  else
   gd ((u115 a0.2.2.1 v1).isSome=true∧True)<|lt (vl (u115 a0.2.2.1 v1)) fun v2 =>
   if (decide (v2 < 0))=true then
    some (-1)
   else
    gd ((u115 a0.2.2.2 v2).isSome=true∧True)<|lt (vl (u115 a0.2.2.2 v2)) fun v3 =>
    if (decide (v3 < 0))=true then
     some (-1)
    else
     some v3
def k68:Ct:=lct 68 [.agg y111,.dat i64] (fun x=>u68 x.1 x.2.1) (fun r:Int=>I r) (fun _=>())
theorem o68:Ok Tryz.prog k68:=by
 refine okL [.tmp 4] Tryz.func68 Tryz.ntmps68 Tryz.results68 ?_
 intro y ⟨a0,a1,_⟩ r H Q hn hr
 have:HT _ _:=⟨tc o115 tn⟩
 refine qA (Z [p 1 (J a1),p 2 (R 2)] [(2,K 111 y111 a0)]) <|
  qD (fun v0=>Z [p 1 (I v0),p 2 (R 2)] [(2,K 111 y111 a0)]) H fun v0 H =>
  vx_seq <|
  qA (Z [p 1 (I v0),p 2 (R 2),p 10 (B (decide (v0 < 0)))] [(2,K 111 y111 a0)]) <|
  cD H (fun H=>?_) (fun H=>?_)
 ·refine qA (Z [p 4 (I (-1))] [(2,K 111 y111 a0)]) <|
   vx_ret<|fx_seq_ret<|hr H
 refine vx_skip<|fx_seq <|
  qD (fun v1=>Z [p 1 (I v1),p 2 (R 2)] [(2,K 111 y111 a0)]) H fun v1 H =>
  vx_seq <|
  qA (Z [p 1 (I v1),p 2 (R 2),p 16 (B (decide (v1 < 0)))] [(2,K 111 y111 a0)]) <|
  cD H (fun H=>?_) (fun H=>?_)
 ·refine qA (Z [p 4 (I (-1))] [(2,K 111 y111 a0)]) <|
   vx_ret<|fx_seq_ret<|hr H
 refine vx_skip<|fx_seq <|
  qD (fun v2=>Z [p 1 (I v2),p 2 (R 2)] [(2,K 111 y111 a0)]) H fun v2 H =>
  vx_seq <|
  qA (Z [p 1 (I v2),p 2 (R 2),p 22 (B (decide (v2 < 0)))] [(2,K 111 y111 a0)]) <|
  cD H (fun H=>?_) (fun H=>?_)
 ·refine qA (Z [p 4 (I (-1))] [(2,K 111 y111 a0)]) <|
   vx_ret<|fx_seq_ret<|hr H
 refine vx_skip<|fx_seq <|
  qD (fun v3=>Z [p 1 (I v3)] [(2,K 111 y111 a0)]) H fun v3 H =>
  vx_seq <|
  qA (Z [p 1 (I v3),p 28 (B (decide (v3 < 0)))] [(2,K 111 y111 a0)]) <|
  cD H (fun H=>?_) (fun H=>?_)
 ·refine qA (Z [p 4 (I (-1))] [(2,K 111 y111 a0)]) <|
   vx_ret<|fx_seq_ret<|hr H
 refine vx_skip<|fx_seq <|
  qA (Z [p 4 (I v3)] [(2,K 111 y111 a0)]) <|
  vx_ret<|hr H
def u31J0:Int→Option (Int)
 | v4 =>
 some v4
def u31L1 (a0:List Y111) (g1:Int×Int→Option (Int)):Int×Int→Option (Int)
 | (v1,v2) =>
 if (decide (v2 < (↑a0.length:Int)))=true then
  gd (ix v2 a0.length∧(u68 (a0.getD v2.toNat (dflt y111)) v1).isSome=true∧True)<|lt (vl (u68 (a0.getD v2.toNat (dflt y111)) v1)) fun v3 =>
  if (decide (v3 < 0))=true then
   some (-1)
  else
   gd (in64 (v2+1)∧True) <|
   g1 (v3,v2+1)
 else
  u31J0 v1
def u31 (a0:List Y111) (a1:Int):Option (Int) :=
 gd (in64 (a1 - (↑a0.length:Int))∧True) <|
 if (decide (a1 - (↑a0.length:Int) < 0))=true then
  some (-1)
 else
  lp (u31L1 a0) ((a1 - (↑a0.length:Int),0))
def k31:Ct:=lct 31 [.dat y111.sl,.dat i64] (fun x=>u31 x.1 x.2.1) (fun r:Int=>I r) (fun _=>())
theorem o31:Ok Tryz.prog k31:=by
 refine okL [.tmp 4] Tryz.func31 Tryz.ntmps31 Tryz.results31 ?_
 intro y ⟨a0,a1,_⟩ r H Q hn hr
 have:HT _ _:=⟨tc o68 tn⟩
 refine qA (Z [p 0 (L y111 a0),p 1 (J a1)] []) <|
  qB (Z [p 0 (L y111 a0),p 1 (I (a1 - (↑a0.length:Int)))] []) H fun H =>
  vx_seq <|
  qA (Z [p 0 (L y111 a0),p 1 (I (a1 - (↑a0.length:Int))),p 11 (B (decide (a1 - (↑a0.length:Int) < 0)))] []) <|
  cD H (fun H=>?_) (fun H=>?_)
 ·refine qA (Z [p 4 (I (-1))] []) <|
   vx_ret<|fx_seq_ret<|hr H
 refine vx_skip<|fx_seq <|
  jN r (fun (v4:Int)=>Z [p 1 (I v4)] []) (u31J0) (fun v4 H=>?_) (fun _ n0 e0 t0=>?_)
 ·refine qA (Z [p 4 (I v4)] []) <|
   vx_ret<|hr H
 refine qA (Z [p 0 (L y111 a0),p 1 (I (a1 - (↑a0.length:Int))),p 5 (I 0)] []) <|
  vx_block <|
  lX (fun ((v1,v2):Int×Int)=>Z [p 0 (L y111 a0),p 1 (I v1),p 5 (I v2)] []) ((a1 - (↑a0.length:Int),0)) H fun _ g1 b1 e1 t1 ⟨v1,v2⟩ H =>
  vx_seq <|
  qA (Z [p 0 (L y111 a0),p 1 (I v1),p 5 (I v2),p 15 (B (decide (v2 < (↑a0.length:Int))))] []) <|
  cD H (fun H=>?_) (fun H=>?_)
 ·refine vx_skip<|fx_seq<|vx_seq<|vx_block <|
   qD (fun v3=>Z [p 0 (L y111 a0),p 1 (I v3),p 5 (I v2)] []) H fun v3 H =>
   qA (Z [p 0 (L y111 a0),p 1 (I v3),p 5 (I v2),p 25 (B (decide (v3 < 0)))] []) <|
   cD H (fun H=>?_) (fun H=>?_)
  ·refine qA (Z [p 4 (I (-1))] []) <|
    vx_ret<|fx_blk_ret<|fx_seq_ret<|t1<|fx_blk_ret<|t0<|hr H
  refine vx_skip<|fx_blk<|fx_seq <|
   zB (Z [p 0 (L y111 a0),p 1 (I v3),p 5 (I (v2+1))] []) H fun H =>
   b1 H
 exact vx_exit<|fx_seq_exit<|e1<|fx_blk_exit rfl<|n0 H
def u114 (a0:Y169) (a1:Int):Option (Int) :=
 gd (in64 (a1 - (↑a0.1.size:Int))∧True) <|
 if (decide (a1 - (↑a0.1.size:Int) < 0))=true then
  some (-1)
 else
  some (a1 - (↑a0.1.size:Int))
def k114:Ct:=lct 114 [.agg y169,.dat i64] (fun x=>u114 x.1 x.2.1) (fun r:Int=>I r) (fun _=>())
theorem o114:Ok Tryz.prog k114:=by
 refine okL [.tmp 4] Tryz.func114 Tryz.ntmps114 Tryz.results114 ?_
 intro y ⟨a0,a1,_⟩ r H Q hn hr
 have:HT _ _:=⟨@tn Tryz.prog⟩
 refine qA (Z [p 1 (J a1),p 2 (R 2)] [(2,K 169 y169 a0)]) <|
  qB (Z [p 1 (I (a1 - (↑a0.1.size:Int)))] [(2,K 169 y169 a0)]) H fun H =>
  vx_seq <|
  qA (Z [p 1 (I (a1 - (↑a0.1.size:Int))),p 11 (B (decide (a1 - (↑a0.1.size:Int) < 0)))] [(2,K 169 y169 a0)]) <|
  cD H (fun H=>?_) (fun H=>?_)
 ·refine qA (Z [p 4 (I (-1))] [(2,K 169 y169 a0)]) <|
   vx_ret<|fx_seq_ret<|hr H
 refine vx_skip<|fx_seq <|
  qA (Z [p 4 (I (a1 - (↑a0.1.size:Int)))] [(2,K 169 y169 a0)]) <|
  vx_ret<|hr H
def u67J0:Int→Option (Int)
 | v4 =>
 some v4
def u67L1 (a0:List Y169) (g1:Int×Int→Option (Int)):Int×Int→Option (Int)
 | (v1,v2) =>
 if (decide (v2 < (↑a0.length:Int)))=true then
  gd (ix v2 a0.length∧(u114 (a0.getD v2.toNat (dflt y169)) v1).isSome=true∧True)<|lt (vl (u114 (a0.getD v2.toNat (dflt y169)) v1)) fun v3 =>
  if (decide (v3 < 0))=true then
   some (-1)
  else
   gd (in64 (v2+1)∧True) <|
   g1 (v3,v2+1)
 else
  u67J0 v1
def u67 (a0:List Y169) (a1:Int):Option (Int) :=
 gd (in64 (a1 - (↑a0.length:Int))∧True) <|
 if (decide (a1 - (↑a0.length:Int) < 0))=true then
  some (-1)
 else
  lp (u67L1 a0) ((a1 - (↑a0.length:Int),0))
def k67:Ct:=lct 67 [.dat y169.sl,.dat i64] (fun x=>u67 x.1 x.2.1) (fun r:Int=>I r) (fun _=>())
theorem o67:Ok Tryz.prog k67:=by
 refine okL [.tmp 4] Tryz.func67 Tryz.ntmps67 Tryz.results67 ?_
 intro y ⟨a0,a1,_⟩ r H Q hn hr
 have:HT _ _:=⟨tc o114 tn⟩
 refine qA (Z [p 0 (L y169 a0),p 1 (J a1)] []) <|
  qB (Z [p 0 (L y169 a0),p 1 (I (a1 - (↑a0.length:Int)))] []) H fun H =>
  vx_seq <|
  qA (Z [p 0 (L y169 a0),p 1 (I (a1 - (↑a0.length:Int))),p 11 (B (decide (a1 - (↑a0.length:Int) < 0)))] []) <|
  cD H (fun H=>?_) (fun H=>?_)
 ·refine qA (Z [p 4 (I (-1))] []) <|
   vx_ret<|fx_seq_ret<|hr H
 refine vx_skip<|fx_seq <|
  jN r (fun (v4:Int)=>Z [p 1 (I v4)] []) (u67J0) (fun v4 H=>?_) (fun _ n0 e0 t0=>?_)
 ·refine qA (Z [p 4 (I v4)] []) <|
   vx_ret<|hr H
 refine qA (Z [p 0 (L y169 a0),p 1 (I (a1 - (↑a0.length:Int))),p 5 (I 0)] []) <|
  vx_block <|
  lX (fun ((v1,v2):Int×Int)=>Z [p 0 (L y169 a0),p 1 (I v1),p 5 (I v2)] []) ((a1 - (↑a0.length:Int),0)) H fun _ g1 b1 e1 t1 ⟨v1,v2⟩ H =>
  vx_seq <|
  qA (Z [p 0 (L y169 a0),p 1 (I v1),p 5 (I v2),p 15 (B (decide (v2 < (↑a0.length:Int))))] []) <|
  cD H (fun H=>?_) (fun H=>?_)
 ·refine vx_skip<|fx_seq<|vx_seq<|vx_block <|
   qD (fun v3=>Z [p 0 (L y169 a0),p 1 (I v3),p 5 (I v2)] []) H fun v3 H =>
   qA (Z [p 0 (L y169 a0),p 1 (I v3),p 5 (I v2),p 25 (B (decide (v3 < 0)))] []) <|
   cD H (fun H=>?_) (fun H=>?_)
  ·refine qA (Z [p 4 (I (-1))] []) <|
    vx_ret<|fx_blk_ret<|fx_seq_ret<|t1<|fx_blk_ret<|t0<|hr H
  refine vx_skip<|fx_blk<|fx_seq <|
   zB (Z [p 0 (L y169 a0),p 1 (I v3),p 5 (I (v2+1))] []) H fun H =>
   b1 H
 exact vx_exit<|fx_seq_exit<|e1<|fx_blk_exit rfl<|n0 H
def u66J0:Int→Option (Int)
 | v4 =>
 some v4
def u66L1 (a0:List ByteArray) (g1:Int×Int→Option (Int)):Int×Int→Option (Int)
 | (v1,v2) =>
 if (decide (v2 < (↑a0.length:Int)))=true then
  gd (ix v2 a0.length∧in64 (v1 - (↑(ByteArray.size (a0.getD v2.toNat (dflt Ty.str))):Int))∧True)<|lt (v1 - (↑(ByteArray.size (a0.getD v2.toNat (dflt Ty.str))):Int)) fun v3 =>
  if (decide (v3 < 0))=true then
   some (-1)
  else
   gd (in64 (v2+1)∧True) <|
   g1 (v3,v2+1)
 else
  u66J0 v1
def u66 (a0:List ByteArray) (a1:Int):Option (Int) :=
 gd (in64 (a1 - (↑a0.length:Int))∧True) <|
 if (decide (a1 - (↑a0.length:Int) < 0))=true then
  some (-1)
 else
  lp (u66L1 a0) ((a1 - (↑a0.length:Int),0))
def k66:Ct:=lct 66 [.dat Ty.str.sl,.dat i64] (fun x=>u66 x.1 x.2.1) (fun r:Int=>I r) (fun _=>())
theorem o66:Ok Tryz.prog k66:=by
 refine okL [.tmp 4] Tryz.func66 Tryz.ntmps66 Tryz.results66 ?_
 intro y ⟨a0,a1,_⟩ r H Q hn hr
 have:HT _ _:=⟨@tn Tryz.prog⟩
 refine qA (Z [p 0 (L Ty.str a0),p 1 (J a1)] []) <|
  qB (Z [p 0 (L Ty.str a0),p 1 (I (a1 - (↑a0.length:Int)))] []) H fun H =>
  vx_seq <|
  qA (Z [p 0 (L Ty.str a0),p 1 (I (a1 - (↑a0.length:Int))),p 11 (B (decide (a1 - (↑a0.length:Int) < 0)))] []) <|
  cD H (fun H=>?_) (fun H=>?_)
 ·refine qA (Z [p 4 (I (-1))] []) <|
   vx_ret<|fx_seq_ret<|hr H
 refine vx_skip<|fx_seq <|
  jN r (fun (v4:Int)=>Z [p 1 (I v4)] []) (u66J0) (fun v4 H=>?_) (fun _ n0 e0 t0=>?_)
 ·refine qA (Z [p 4 (I v4)] []) <|
   vx_ret<|hr H
 refine qA (Z [p 0 (L Ty.str a0),p 1 (I (a1 - (↑a0.length:Int))),p 5 (I 0)] []) <|
  vx_block <|
  lX (fun ((v1,v2):Int×Int)=>Z [p 0 (L Ty.str a0),p 1 (I v1),p 5 (I v2)] []) ((a1 - (↑a0.length:Int),0)) H fun _ g1 b1 e1 t1 ⟨v1,v2⟩ H =>
  vx_seq <|
  qA (Z [p 0 (L Ty.str a0),p 1 (I v1),p 5 (I v2),p 15 (B (decide (v2 < (↑a0.length:Int))))] []) <|
  cD H (fun H=>?_) (fun H=>?_)
 ·refine vx_skip<|fx_seq<|vx_seq<|vx_block <|
   qD (fun v3=>Z [p 0 (L Ty.str a0),p 1 (I v3),p 5 (I v2)] []) H fun v3 H =>
   qA (Z [p 0 (L Ty.str a0),p 1 (I v3),p 5 (I v2),p 26 (B (decide (v3 < 0)))] []) <|
   cD H (fun H=>?_) (fun H=>?_)
  ·refine qA (Z [p 4 (I (-1))] []) <|
    vx_ret<|fx_blk_ret<|fx_seq_ret<|t1<|fx_blk_ret<|t0<|hr H
  refine vx_skip<|fx_blk<|fx_seq <|
   zB (Z [p 0 (L Ty.str a0),p 1 (I v3),p 5 (I (v2+1))] []) H fun H =>
   b1 H
 exact vx_exit<|fx_seq_exit<|e1<|fx_blk_exit rfl<|n0 H
def u113 (a0:Y166) (a1:Int):Option (Int) :=
 gd (in64 (a1 - (↑a0.1.size:Int))∧True) <|
 if (decide (a1 - (↑a0.1.size:Int) < 0))=true then
  some (-1)
 else
  gd ((u115 a0.2.2 (a1 - (↑a0.1.size:Int))).isSome=true∧True)<|lt (vl (u115 a0.2.2 (a1 - (↑a0.1.size:Int)))) fun v0 =>
  if (decide (v0 < 0))=true then
   some (-1)
  else
   some v0
def k113:Ct:=lct 113 [.agg y166,.dat i64] (fun x=>u113 x.1 x.2.1) (fun r:Int=>I r) (fun _=>())
theorem o113:Ok Tryz.prog k113:=by
 refine okL [.tmp 4] Tryz.func113 Tryz.ntmps113 Tryz.results113 ?_
 intro y ⟨a0,a1,_⟩ r H Q hn hr
 have:HT _ _:=⟨tc o115 tn⟩
 refine qA (Z [p 1 (J a1),p 2 (R 2)] [(2,K 166 y166 a0)]) <|
  qB (Z [p 1 (I (a1 - (↑a0.1.size:Int))),p 2 (R 2)] [(2,K 166 y166 a0)]) H fun H =>
  vx_seq <|
  qA (Z [p 1 (I (a1 - (↑a0.1.size:Int))),p 2 (R 2),p 11 (B (decide (a1 - (↑a0.1.size:Int) < 0)))] [(2,K 166 y166 a0)]) <|
  cD H (fun H=>?_) (fun H=>?_)
 ·refine qA (Z [p 4 (I (-1))] [(2,K 166 y166 a0)]) <|
   vx_ret<|fx_seq_ret<|hr H
 refine vx_skip<|fx_seq <|
  qD (fun v0=>Z [p 1 (I v0)] [(2,K 166 y166 a0)]) H fun v0 H =>
  vx_seq <|
  qA (Z [p 1 (I v0),p 17 (B (decide (v0 < 0)))] [(2,K 166 y166 a0)]) <|
  cD H (fun H=>?_) (fun H=>?_)
 ·refine qA (Z [p 4 (I (-1))] [(2,K 166 y166 a0)]) <|
   vx_ret<|fx_seq_ret<|hr H
 refine vx_skip<|fx_seq <|
  qA (Z [p 4 (I v0)] [(2,K 166 y166 a0)]) <|
  vx_ret<|hr H
def u65J0:Int→Option (Int)
 | v4 =>
 some v4
def u65L1 (a0:List Y166) (g1:Int×Int→Option (Int)):Int×Int→Option (Int)
 | (v1,v2) =>
 if (decide (v2 < (↑a0.length:Int)))=true then
  gd (ix v2 a0.length∧(u113 (a0.getD v2.toNat (dflt y166)) v1).isSome=true∧True)<|lt (vl (u113 (a0.getD v2.toNat (dflt y166)) v1)) fun v3 =>
  if (decide (v3 < 0))=true then
   some (-1)
  else
   gd (in64 (v2+1)∧True) <|
   g1 (v3,v2+1)
 else
  u65J0 v1
def u65 (a0:List Y166) (a1:Int):Option (Int) :=
 gd (in64 (a1 - (↑a0.length:Int))∧True) <|
 if (decide (a1 - (↑a0.length:Int) < 0))=true then
  some (-1)
 else
  lp (u65L1 a0) ((a1 - (↑a0.length:Int),0))
def k65:Ct:=lct 65 [.dat y166.sl,.dat i64] (fun x=>u65 x.1 x.2.1) (fun r:Int=>I r) (fun _=>())
theorem o65:Ok Tryz.prog k65:=by
 refine okL [.tmp 4] Tryz.func65 Tryz.ntmps65 Tryz.results65 ?_
 intro y ⟨a0,a1,_⟩ r H Q hn hr
 have:HT _ _:=⟨tc o113 tn⟩
 refine qA (Z [p 0 (L y166 a0),p 1 (J a1)] []) <|
  qB (Z [p 0 (L y166 a0),p 1 (I (a1 - (↑a0.length:Int)))] []) H fun H =>
  vx_seq <|
  qA (Z [p 0 (L y166 a0),p 1 (I (a1 - (↑a0.length:Int))),p 11 (B (decide (a1 - (↑a0.length:Int) < 0)))] []) <|
  cD H (fun H=>?_) (fun H=>?_)
 ·refine qA (Z [p 4 (I (-1))] []) <|
   vx_ret<|fx_seq_ret<|hr H
 refine vx_skip<|fx_seq <|
  jN r (fun (v4:Int)=>Z [p 1 (I v4)] []) (u65J0) (fun v4 H=>?_) (fun _ n0 e0 t0=>?_)
 ·refine qA (Z [p 4 (I v4)] []) <|
   vx_ret<|hr H
 refine qA (Z [p 0 (L y166 a0),p 1 (I (a1 - (↑a0.length:Int))),p 5 (I 0)] []) <|
  vx_block <|
  lX (fun ((v1,v2):Int×Int)=>Z [p 0 (L y166 a0),p 1 (I v1),p 5 (I v2)] []) ((a1 - (↑a0.length:Int),0)) H fun _ g1 b1 e1 t1 ⟨v1,v2⟩ H =>
  vx_seq <|
  qA (Z [p 0 (L y166 a0),p 1 (I v1),p 5 (I v2),p 15 (B (decide (v2 < (↑a0.length:Int))))] []) <|
  cD H (fun H=>?_) (fun H=>?_)
 ·refine vx_skip<|fx_seq<|vx_seq<|vx_block <|
   qD (fun v3=>Z [p 0 (L y166 a0),p 1 (I v3),p 5 (I v2)] []) H fun v3 H =>
   qA (Z [p 0 (L y166 a0),p 1 (I v3),p 5 (I v2),p 25 (B (decide (v3 < 0)))] []) <|
   cD H (fun H=>?_) (fun H=>?_)
  ·refine qA (Z [p 4 (I (-1))] []) <|
    vx_ret<|fx_blk_ret<|fx_seq_ret<|t1<|fx_blk_ret<|t0<|hr H
  refine vx_skip<|fx_blk<|fx_seq <|
   zB (Z [p 0 (L y166 a0),p 1 (I v3),p 5 (I (v2+1))] []) H fun H =>
   b1 H
 exact vx_exit<|fx_seq_exit<|e1<|fx_blk_exit rfl<|n0 H
def u30 (a0:Y29) (a1:Int):Option (Int) :=
 gd ((u65 a0.1 a1).isSome=true∧True)<|lt (vl (u65 a0.1 a1)) fun v0 =>
 if (decide (v0 < 0))=true then
  some (-1)
 else
  gd ((u66 a0.2.1 v0).isSome=true∧True)<|lt (vl (u66 a0.2.1 v0)) fun v1 =>
  if (decide (v1 < 0))=true then
   some (-1)
  else
   gd ((u67 a0.2.2 v1).isSome=true∧True)<|lt (vl (u67 a0.2.2 v1)) fun v2 =>
   if (decide (v2 < 0))=true then
    some (-1)
   else
    some v2
def k30:Ct:=lct 30 [.agg y29,.dat i64] (fun x=>u30 x.1 x.2.1) (fun r:Int=>I r) (fun _=>())
theorem o30:Ok Tryz.prog k30:=by
 refine okL [.tmp 4] Tryz.func30 Tryz.ntmps30 Tryz.results30 ?_
 intro y ⟨a0,a1,_⟩ r H Q hn hr
 have:HT _ _:=⟨tc o67 (tc o66 (tc o65 tn))⟩
 refine qA (Z [p 1 (J a1),p 2 (R 2)] [(2,K 29 y29 a0)]) <|
  qD (fun v0=>Z [p 1 (I v0),p 2 (R 2)] [(2,K 29 y29 a0)]) H fun v0 H =>
  vx_seq <|
  qA (Z [p 1 (I v0),p 2 (R 2),p 10 (B (decide (v0 < 0)))] [(2,K 29 y29 a0)]) <|
  cD H (fun H=>?_) (fun H=>?_)
 ·refine qA (Z [p 4 (I (-1))] [(2,K 29 y29 a0)]) <|
   vx_ret<|fx_seq_ret<|hr H
 refine vx_skip<|fx_seq <|
  qD (fun v1=>Z [p 1 (I v1),p 2 (R 2)] [(2,K 29 y29 a0)]) H fun v1 H =>
  vx_seq <|
  qA (Z [p 1 (I v1),p 2 (R 2),p 16 (B (decide (v1 < 0)))] [(2,K 29 y29 a0)]) <|
  cD H (fun H=>?_) (fun H=>?_)
 ·refine qA (Z [p 4 (I (-1))] [(2,K 29 y29 a0)]) <|
   vx_ret<|fx_seq_ret<|hr H
 refine vx_skip<|fx_seq <|
  qD (fun v2=>Z [p 1 (I v2)] [(2,K 29 y29 a0)]) H fun v2 H =>
  vx_seq <|
  qA (Z [p 1 (I v2),p 22 (B (decide (v2 < 0)))] [(2,K 29 y29 a0)]) <|
  cD H (fun H=>?_) (fun H=>?_)
 ·refine qA (Z [p 4 (I (-1))] [(2,K 29 y29 a0)]) <|
   vx_ret<|fx_seq_ret<|hr H
 refine vx_skip<|fx_seq <|
  qA (Z [p 4 (I v2)] [(2,K 29 y29 a0)]) <|
  vx_ret<|hr H
def u191 (a0:Y243) (a1:Int):Option (Int) :=
 gd ((u115 a0.1 a1).isSome=true∧True)<|lt (vl (u115 a0.1 a1)) fun v0 =>
 if (decide (v0 < 0))=true then
  some (-1)
 else
  gd ((u115 a0.2.1 v0).isSome=true∧True)<|lt (vl (u115 a0.2.1 v0)) fun v1 =>
  if (decide (v1 < 0))=true then
   some (-1)
  else
   gd ((u115 a0.2.2 v1).isSome=true∧True)<|lt (vl (u115 a0.2.2 v1)) fun v2 =>
   if (decide (v2 < 0))=true then
    some (-1)
   else
    some v2
def k191:Ct:=lct 191 [.agg y243,.dat i64] (fun x=>u191 x.1 x.2.1) (fun r:Int=>I r) (fun _=>())
theorem o191:Ok Tryz.prog k191:=by
 refine okL [.tmp 4] Tryz.func191 Tryz.ntmps191 Tryz.results191 ?_
 intro y ⟨a0,a1,_⟩ r H Q hn hr
 have:HT _ _:=⟨tc o115 tn⟩
 refine qA (Z [p 1 (J a1),p 2 (R 2)] [(2,K 243 y243 a0)]) <|
  qD (fun v0=>Z [p 1 (I v0),p 2 (R 2)] [(2,K 243 y243 a0)]) H fun v0 H =>
  vx_seq <|
  qA (Z [p 1 (I v0),p 2 (R 2),p 10 (B (decide (v0 < 0)))] [(2,K 243 y243 a0)]) <|
  cD H (fun H=>?_) (fun H=>?_)
 ·refine qA (Z [p 4 (I (-1))] [(2,K 243 y243 a0)]) <|
   vx_ret<|fx_seq_ret<|hr H
 refine vx_skip<|fx_seq <|
  qD (fun v1=>Z [p 1 (I v1),p 2 (R 2)] [(2,K 243 y243 a0)]) H fun v1 H =>
  vx_seq <|
  qA (Z [p 1 (I v1),p 2 (R 2),p 16 (B (decide (v1 < 0)))] [(2,K 243 y243 a0)]) <|
  cD H (fun H=>?_) (fun H=>?_)
 ·refine qA (Z [p 4 (I (-1))] [(2,K 243 y243 a0)]) <|
   vx_ret<|fx_seq_ret<|hr H
 refine vx_skip<|fx_seq <|
  qD (fun v2=>Z [p 1 (I v2)] [(2,K 243 y243 a0)]) H fun v2 H =>
  vx_seq <|
  qA (Z [p 1 (I v2),p 22 (B (decide (v2 < 0)))] [(2,K 243 y243 a0)]) <|
  cD H (fun H=>?_) (fun H=>?_)
 ·refine qA (Z [p 4 (I (-1))] [(2,K 243 y243 a0)]) <|
   vx_ret<|fx_seq_ret<|hr H
 refine vx_skip<|fx_seq <|
  qA (Z [p 4 (I v2)] [(2,K 243 y243 a0)]) <|
  vx_ret<|hr H
def u178J0:Int→Option (Int)
 | v4 =>
 some v4
def u178L1 (a0:List Y243) (g1:Int×Int→Option (Int)):Int×Int→Option (Int)
 | (v1,v2) =>
 if (decide (v2 < (↑a0.length:Int)))=true then
  gd (ix v2 a0.length∧(u191 (a0.getD v2.toNat (dflt y243)) v1).isSome=true∧True)<|lt (vl (u191 (a0.getD v2.toNat (dflt y243)) v1)) fun v3 =>
  if (decide (v3 < 0))=true then
   some (-1)
  else
   gd (in64 (v2+1)∧True) <|
   g1 (v3,v2+1)
 else
  u178J0 v1
def u178 (a0:List Y243) (a1:Int):Option (Int) :=
 gd (in64 (a1 - (↑a0.length:Int))∧True) <|
 if (decide (a1 - (↑a0.length:Int) < 0))=true then
  some (-1)
 else
  lp (u178L1 a0) ((a1 - (↑a0.length:Int),0))
def k178:Ct:=lct 178 [.dat y243.sl,.dat i64] (fun x=>u178 x.1 x.2.1) (fun r:Int=>I r) (fun _=>())
theorem o178:Ok Tryz.prog k178:=by
 refine okL [.tmp 4] Tryz.func178 Tryz.ntmps178 Tryz.results178 ?_
 intro y ⟨a0,a1,_⟩ r H Q hn hr
 have:HT _ _:=⟨tc o191 tn⟩
 refine qA (Z [p 0 (L y243 a0),p 1 (J a1)] []) <|
  qB (Z [p 0 (L y243 a0),p 1 (I (a1 - (↑a0.length:Int)))] []) H fun H =>
  vx_seq <|
  qA (Z [p 0 (L y243 a0),p 1 (I (a1 - (↑a0.length:Int))),p 11 (B (decide (a1 - (↑a0.length:Int) < 0)))] []) <|
  cD H (fun H=>?_) (fun H=>?_)
 ·refine qA (Z [p 4 (I (-1))] []) <|
   vx_ret<|fx_seq_ret<|hr H
 refine vx_skip<|fx_seq <|
  jN r (fun (v4:Int)=>Z [p 1 (I v4)] []) (u178J0) (fun v4 H=>?_) (fun _ n0 e0 t0=>?_)
 ·refine qA (Z [p 4 (I v4)] []) <|
   vx_ret<|hr H
 refine qA (Z [p 0 (L y243 a0),p 1 (I (a1 - (↑a0.length:Int))),p 5 (I 0)] []) <|
  vx_block <|
  lX (fun ((v1,v2):Int×Int)=>Z [p 0 (L y243 a0),p 1 (I v1),p 5 (I v2)] []) ((a1 - (↑a0.length:Int),0)) H fun _ g1 b1 e1 t1 ⟨v1,v2⟩ H =>
  vx_seq <|
  qA (Z [p 0 (L y243 a0),p 1 (I v1),p 5 (I v2),p 15 (B (decide (v2 < (↑a0.length:Int))))] []) <|
  cD H (fun H=>?_) (fun H=>?_)
 ·refine vx_skip<|fx_seq<|vx_seq<|vx_block <|
   qD (fun v3=>Z [p 0 (L y243 a0),p 1 (I v3),p 5 (I v2)] []) H fun v3 H =>
   qA (Z [p 0 (L y243 a0),p 1 (I v3),p 5 (I v2),p 25 (B (decide (v3 < 0)))] []) <|
   cD H (fun H=>?_) (fun H=>?_)
  ·refine qA (Z [p 4 (I (-1))] []) <|
    vx_ret<|fx_blk_ret<|fx_seq_ret<|t1<|fx_blk_ret<|t0<|hr H
  refine vx_skip<|fx_blk<|fx_seq <|
   zB (Z [p 0 (L y243 a0),p 1 (I v3),p 5 (I (v2+1))] []) H fun H =>
   b1 H
 exact vx_exit<|fx_seq_exit<|e1<|fx_blk_exit rfl<|n0 H
def u164 (a0:Y217) (a1:Int):Option (Int) :=
 gd ((u178 a0.2.2.2.2.1 a1).isSome=true∧True)<|lt (vl (u178 a0.2.2.2.2.1 a1)) fun v0 =>
 if (decide (v0 < 0))=true then
  some (-1)
 else
  gd ((u178 a0.2.2.2.2.2 v0).isSome=true∧True)<|lt (vl (u178 a0.2.2.2.2.2 v0)) fun v1 =>
  if (decide (v1 < 0))=true then
   some (-1)
  else
   some v1
def k164:Ct:=lct 164 [.agg y217,.dat i64] (fun x=>u164 x.1 x.2.1) (fun r:Int=>I r) (fun _=>())
theorem o164:Ok Tryz.prog k164:=by
 refine okL [.tmp 4] Tryz.func164 Tryz.ntmps164 Tryz.results164 ?_
 intro y ⟨a0,a1,_⟩ r H Q hn hr
 have:HT _ _:=⟨tc o178 tn⟩
 refine qA (Z [p 1 (J a1),p 2 (R 2)] [(2,K 217 y217 a0)]) <|
  qD (fun v0=>Z [p 1 (I v0),p 2 (R 2)] [(2,K 217 y217 a0)]) H fun v0 H =>
  vx_seq <|
  qA (Z [p 1 (I v0),p 2 (R 2),p 10 (B (decide (v0 < 0)))] [(2,K 217 y217 a0)]) <|
  cD H (fun H=>?_) (fun H=>?_)
 ·refine qA (Z [p 4 (I (-1))] [(2,K 217 y217 a0)]) <|
   vx_ret<|fx_seq_ret<|hr H
 refine vx_skip<|fx_seq <|
  qD (fun v1=>Z [p 1 (I v1)] [(2,K 217 y217 a0)]) H fun v1 H =>
  vx_seq <|
  qA (Z [p 1 (I v1),p 16 (B (decide (v1 < 0)))] [(2,K 217 y217 a0)]) <|
  cD H (fun H=>?_) (fun H=>?_)
 ·refine qA (Z [p 4 (I (-1))] [(2,K 217 y217 a0)]) <|
   vx_ret<|fx_seq_ret<|hr H
 refine vx_skip<|fx_seq <|
  qA (Z [p 4 (I v1)] [(2,K 217 y217 a0)]) <|
  vx_ret<|hr H
def u146J0:Int→Option (Int)
 | v4 =>
 some v4
def u146L1 (a0:List Y217) (g1:Int×Int→Option (Int)):Int×Int→Option (Int)
 | (v1,v2) =>
 if (decide (v2 < (↑a0.length:Int)))=true then
  gd (ix v2 a0.length∧(u164 (a0.getD v2.toNat (dflt y217)) v1).isSome=true∧True)<|lt (vl (u164 (a0.getD v2.toNat (dflt y217)) v1)) fun v3 =>
  if (decide (v3 < 0))=true then
   some (-1)
  else
   gd (in64 (v2+1)∧True) <|
   g1 (v3,v2+1)
 else
  u146J0 v1
def u146 (a0:List Y217) (a1:Int):Option (Int) :=
 gd (in64 (a1 - (↑a0.length:Int))∧True) <|
 if (decide (a1 - (↑a0.length:Int) < 0))=true then
  some (-1)
 else
  lp (u146L1 a0) ((a1 - (↑a0.length:Int),0))
def k146:Ct:=lct 146 [.dat y217.sl,.dat i64] (fun x=>u146 x.1 x.2.1) (fun r:Int=>I r) (fun _=>())
theorem o146:Ok Tryz.prog k146:=by
 refine okL [.tmp 4] Tryz.func146 Tryz.ntmps146 Tryz.results146 ?_
 intro y ⟨a0,a1,_⟩ r H Q hn hr
 have:HT _ _:=⟨tc o164 tn⟩
 refine qA (Z [p 0 (L y217 a0),p 1 (J a1)] []) <|
  qB (Z [p 0 (L y217 a0),p 1 (I (a1 - (↑a0.length:Int)))] []) H fun H =>
  vx_seq <|
  qA (Z [p 0 (L y217 a0),p 1 (I (a1 - (↑a0.length:Int))),p 11 (B (decide (a1 - (↑a0.length:Int) < 0)))] []) <|
  cD H (fun H=>?_) (fun H=>?_)
 ·refine qA (Z [p 4 (I (-1))] []) <|
   vx_ret<|fx_seq_ret<|hr H
 refine vx_skip<|fx_seq <|
  jN r (fun (v4:Int)=>Z [p 1 (I v4)] []) (u146J0) (fun v4 H=>?_) (fun _ n0 e0 t0=>?_)
 ·refine qA (Z [p 4 (I v4)] []) <|
   vx_ret<|hr H
 refine qA (Z [p 0 (L y217 a0),p 1 (I (a1 - (↑a0.length:Int))),p 5 (I 0)] []) <|
  vx_block <|
  lX (fun ((v1,v2):Int×Int)=>Z [p 0 (L y217 a0),p 1 (I v1),p 5 (I v2)] []) ((a1 - (↑a0.length:Int),0)) H fun _ g1 b1 e1 t1 ⟨v1,v2⟩ H =>
  vx_seq <|
  qA (Z [p 0 (L y217 a0),p 1 (I v1),p 5 (I v2),p 15 (B (decide (v2 < (↑a0.length:Int))))] []) <|
  cD H (fun H=>?_) (fun H=>?_)
 ·refine vx_skip<|fx_seq<|vx_seq<|vx_block <|
   qD (fun v3=>Z [p 0 (L y217 a0),p 1 (I v3),p 5 (I v2)] []) H fun v3 H =>
   qA (Z [p 0 (L y217 a0),p 1 (I v3),p 5 (I v2),p 25 (B (decide (v3 < 0)))] []) <|
   cD H (fun H=>?_) (fun H=>?_)
  ·refine qA (Z [p 4 (I (-1))] []) <|
    vx_ret<|fx_blk_ret<|fx_seq_ret<|t1<|fx_blk_ret<|t0<|hr H
  refine vx_skip<|fx_blk<|fx_seq <|
   zB (Z [p 0 (L y217 a0),p 1 (I v3),p 5 (I (v2+1))] []) H fun H =>
   b1 H
 exact vx_exit<|fx_seq_exit<|e1<|fx_blk_exit rfl<|n0 H
def u163 (a0:Y213) (a1:Int):Option (Int) :=
 gd (in64 (a1 - (↑a0.1.size:Int))∧True) <|
 if (decide (a1 - (↑a0.1.size:Int) < 0))=true then
  some (-1)
 else
  some (a1 - (↑a0.1.size:Int))
def k163:Ct:=lct 163 [.agg y213,.dat i64] (fun x=>u163 x.1 x.2.1) (fun r:Int=>I r) (fun _=>())
theorem o163:Ok Tryz.prog k163:=by
 refine okL [.tmp 4] Tryz.func163 Tryz.ntmps163 Tryz.results163 ?_
 intro y ⟨a0,a1,_⟩ r H Q hn hr
 have:HT _ _:=⟨@tn Tryz.prog⟩
 refine qA (Z [p 1 (J a1),p 2 (R 2)] [(2,K 213 y213 a0)]) <|
  qB (Z [p 1 (I (a1 - (↑a0.1.size:Int)))] [(2,K 213 y213 a0)]) H fun H =>
  vx_seq <|
  qA (Z [p 1 (I (a1 - (↑a0.1.size:Int))),p 11 (B (decide (a1 - (↑a0.1.size:Int) < 0)))] [(2,K 213 y213 a0)]) <|
  cD H (fun H=>?_) (fun H=>?_)
 ·refine qA (Z [p 4 (I (-1))] [(2,K 213 y213 a0)]) <|
   vx_ret<|fx_seq_ret<|hr H
 refine vx_skip<|fx_seq <|
  qA (Z [p 4 (I (a1 - (↑a0.1.size:Int)))] [(2,K 213 y213 a0)]) <|
  vx_ret<|hr H
def u145J0:Int→Option (Int)
 | v4 =>
 some v4
def u145L1 (a0:List Y213) (g1:Int×Int→Option (Int)):Int×Int→Option (Int)
 | (v1,v2) =>
 if (decide (v2 < (↑a0.length:Int)))=true then
  gd (ix v2 a0.length∧(u163 (a0.getD v2.toNat (dflt y213)) v1).isSome=true∧True)<|lt (vl (u163 (a0.getD v2.toNat (dflt y213)) v1)) fun v3 =>
  if (decide (v3 < 0))=true then
   some (-1)
  else
   gd (in64 (v2+1)∧True) <|
   g1 (v3,v2+1)
 else
  u145J0 v1
def u145 (a0:List Y213) (a1:Int):Option (Int) :=
 gd (in64 (a1 - (↑a0.length:Int))∧True) <|
 if (decide (a1 - (↑a0.length:Int) < 0))=true then
  some (-1)
 else
  lp (u145L1 a0) ((a1 - (↑a0.length:Int),0))
def k145:Ct:=lct 145 [.dat y213.sl,.dat i64] (fun x=>u145 x.1 x.2.1) (fun r:Int=>I r) (fun _=>())
theorem o145:Ok Tryz.prog k145:=by
 refine okL [.tmp 4] Tryz.func145 Tryz.ntmps145 Tryz.results145 ?_
 intro y ⟨a0,a1,_⟩ r H Q hn hr
 have:HT _ _:=⟨tc o163 tn⟩
 refine qA (Z [p 0 (L y213 a0),p 1 (J a1)] []) <|
  qB (Z [p 0 (L y213 a0),p 1 (I (a1 - (↑a0.length:Int)))] []) H fun H =>
  vx_seq <|
  qA (Z [p 0 (L y213 a0),p 1 (I (a1 - (↑a0.length:Int))),p 11 (B (decide (a1 - (↑a0.length:Int) < 0)))] []) <|
  cD H (fun H=>?_) (fun H=>?_)
 ·refine qA (Z [p 4 (I (-1))] []) <|
   vx_ret<|fx_seq_ret<|hr H
 refine vx_skip<|fx_seq <|
  jN r (fun (v4:Int)=>Z [p 1 (I v4)] []) (u145J0) (fun v4 H=>?_) (fun _ n0 e0 t0=>?_)
 ·refine qA (Z [p 4 (I v4)] []) <|
   vx_ret<|hr H
 refine qA (Z [p 0 (L y213 a0),p 1 (I (a1 - (↑a0.length:Int))),p 5 (I 0)] []) <|
  vx_block <|
  lX (fun ((v1,v2):Int×Int)=>Z [p 0 (L y213 a0),p 1 (I v1),p 5 (I v2)] []) ((a1 - (↑a0.length:Int),0)) H fun _ g1 b1 e1 t1 ⟨v1,v2⟩ H =>
  vx_seq <|
  qA (Z [p 0 (L y213 a0),p 1 (I v1),p 5 (I v2),p 15 (B (decide (v2 < (↑a0.length:Int))))] []) <|
  cD H (fun H=>?_) (fun H=>?_)
 ·refine vx_skip<|fx_seq<|vx_seq<|vx_block <|
   qD (fun v3=>Z [p 0 (L y213 a0),p 1 (I v3),p 5 (I v2)] []) H fun v3 H =>
   qA (Z [p 0 (L y213 a0),p 1 (I v3),p 5 (I v2),p 25 (B (decide (v3 < 0)))] []) <|
   cD H (fun H=>?_) (fun H=>?_)
  ·refine qA (Z [p 4 (I (-1))] []) <|
    vx_ret<|fx_blk_ret<|fx_seq_ret<|t1<|fx_blk_ret<|t0<|hr H
  refine vx_skip<|fx_blk<|fx_seq <|
   zB (Z [p 0 (L y213 a0),p 1 (I v3),p 5 (I (v2+1))] []) H fun H =>
   b1 H
 exact vx_exit<|fx_seq_exit<|e1<|fx_blk_exit rfl<|n0 H
def u112 (a0:Y164) (a1:Int):Option (Int) :=
 gd (in64 (a1 - (↑a0.1.size:Int))∧True) <|
 if (decide (a1 - (↑a0.1.size:Int) < 0))=true then
  some (-1)
 else
  gd ((u145 a0.2.2.1 (a1 - (↑a0.1.size:Int))).isSome=true∧True)<|lt (vl (u145 a0.2.2.1 (a1 - (↑a0.1.size:Int)))) fun v0 =>
  if (decide (v0 < 0))=true then
   some (-1)
  else
   gd ((u146 a0.2.2.2.1 v0).isSome=true∧True)<|lt (vl (u146 a0.2.2.2.1 v0)) fun v1 =>
   if (decide (v1 < 0))=true then
    some (-1)
   else
    gd ((u115 a0.2.2.2.2.1 v1).isSome=true∧True)<|lt (vl (u115 a0.2.2.2.2.1 v1)) fun v2 =>
    if (decide (v2 < 0))=true then
     some (-1)
    else
     some v2
def k112:Ct:=lct 112 [.agg y164,.dat i64] (fun x=>u112 x.1 x.2.1) (fun r:Int=>I r) (fun _=>())
theorem o112:Ok Tryz.prog k112:=by
 refine okL [.tmp 4] Tryz.func112 Tryz.ntmps112 Tryz.results112 ?_
 intro y ⟨a0,a1,_⟩ r H Q hn hr
 have:HT _ _:=⟨tc o115 (tc o146 (tc o145 tn))⟩
 refine qA (Z [p 1 (J a1),p 2 (R 2)] [(2,K 164 y164 a0)]) <|
  qB (Z [p 1 (I (a1 - (↑a0.1.size:Int))),p 2 (R 2)] [(2,K 164 y164 a0)]) H fun H =>
  vx_seq <|
  qA (Z [p 1 (I (a1 - (↑a0.1.size:Int))),p 2 (R 2),p 11 (B (decide (a1 - (↑a0.1.size:Int) < 0)))] [(2,K 164 y164 a0)]) <|
  cD H (fun H=>?_) (fun H=>?_)
 ·refine qA (Z [p 4 (I (-1))] [(2,K 164 y164 a0)]) <|
   vx_ret<|fx_seq_ret<|hr H
 refine vx_skip<|fx_seq <|
  qD (fun v0=>Z [p 1 (I v0),p 2 (R 2)] [(2,K 164 y164 a0)]) H fun v0 H =>
  vx_seq <|
  qA (Z [p 1 (I v0),p 2 (R 2),p 17 (B (decide (v0 < 0)))] [(2,K 164 y164 a0)]) <|
  cD H (fun H=>?_) (fun H=>?_)
 ·refine qA (Z [p 4 (I (-1))] [(2,K 164 y164 a0)]) <|
   vx_ret<|fx_seq_ret<|hr H
 refine vx_skip<|fx_seq <|
  qD (fun v1=>Z [p 1 (I v1),p 2 (R 2)] [(2,K 164 y164 a0)]) H fun v1 H =>
  vx_seq <|
  qA (Z [p 1 (I v1),p 2 (R 2),p 23 (B (decide (v1 < 0)))] [(2,K 164 y164 a0)]) <|
  cD H (fun H=>?_) (fun H=>?_)
 ·refine qA (Z [p 4 (I (-1))] [(2,K 164 y164 a0)]) <|
   vx_ret<|fx_seq_ret<|hr H
 refine vx_skip<|fx_seq <|
  qD (fun v2=>Z [p 1 (I v2)] [(2,K 164 y164 a0)]) H fun v2 H =>
  vx_seq <|
  qA (Z [p 1 (I v2),p 29 (B (decide (v2 < 0)))] [(2,K 164 y164 a0)]) <|
  cD H (fun H=>?_) (fun H=>?_)
 ·refine qA (Z [p 4 (I (-1))] [(2,K 164 y164 a0)]) <|
   vx_ret<|fx_seq_ret<|hr H
 refine vx_skip<|fx_seq <|
  qA (Z [p 4 (I v2)] [(2,K 164 y164 a0)]) <|
  vx_ret<|hr H
def u64J0:Int→Option (Int)
 | v4 =>
 some v4
def u64L1 (a0:List Y164) (g1:Int×Int→Option (Int)):Int×Int→Option (Int)
 | (v1,v2) =>
 if (decide (v2 < (↑a0.length:Int)))=true then
  gd (ix v2 a0.length∧(u112 (a0.getD v2.toNat (dflt y164)) v1).isSome=true∧True)<|lt (vl (u112 (a0.getD v2.toNat (dflt y164)) v1)) fun v3 =>
  if (decide (v3 < 0))=true then
   some (-1)
  else
   gd (in64 (v2+1)∧True) <|
   g1 (v3,v2+1)
 else
  u64J0 v1
def u64 (a0:List Y164) (a1:Int):Option (Int) :=
 gd (in64 (a1 - (↑a0.length:Int))∧True) <|
 if (decide (a1 - (↑a0.length:Int) < 0))=true then
  some (-1)
 else
  lp (u64L1 a0) ((a1 - (↑a0.length:Int),0))
def k64:Ct:=lct 64 [.dat y164.sl,.dat i64] (fun x=>u64 x.1 x.2.1) (fun r:Int=>I r) (fun _=>())
theorem o64:Ok Tryz.prog k64:=by
 refine okL [.tmp 4] Tryz.func64 Tryz.ntmps64 Tryz.results64 ?_
 intro y ⟨a0,a1,_⟩ r H Q hn hr
 have:HT _ _:=⟨tc o112 tn⟩
 refine qA (Z [p 0 (L y164 a0),p 1 (J a1)] []) <|
  qB (Z [p 0 (L y164 a0),p 1 (I (a1 - (↑a0.length:Int)))] []) H fun H =>
  vx_seq <|
  qA (Z [p 0 (L y164 a0),p 1 (I (a1 - (↑a0.length:Int))),p 11 (B (decide (a1 - (↑a0.length:Int) < 0)))] []) <|
  cD H (fun H=>?_) (fun H=>?_)
 ·refine qA (Z [p 4 (I (-1))] []) <|
   vx_ret<|fx_seq_ret<|hr H
 refine vx_skip<|fx_seq <|
  jN r (fun (v4:Int)=>Z [p 1 (I v4)] []) (u64J0) (fun v4 H=>?_) (fun _ n0 e0 t0=>?_)
 ·refine qA (Z [p 4 (I v4)] []) <|
   vx_ret<|hr H
 refine qA (Z [p 0 (L y164 a0),p 1 (I (a1 - (↑a0.length:Int))),p 5 (I 0)] []) <|
  vx_block <|
  lX (fun ((v1,v2):Int×Int)=>Z [p 0 (L y164 a0),p 1 (I v1),p 5 (I v2)] []) ((a1 - (↑a0.length:Int),0)) H fun _ g1 b1 e1 t1 ⟨v1,v2⟩ H =>
  vx_seq <|
  qA (Z [p 0 (L y164 a0),p 1 (I v1),p 5 (I v2),p 15 (B (decide (v2 < (↑a0.length:Int))))] []) <|
  cD H (fun H=>?_) (fun H=>?_)
 ·refine vx_skip<|fx_seq<|vx_seq<|vx_block <|
   qD (fun v3=>Z [p 0 (L y164 a0),p 1 (I v3),p 5 (I v2)] []) H fun v3 H =>
   qA (Z [p 0 (L y164 a0),p 1 (I v3),p 5 (I v2),p 25 (B (decide (v3 < 0)))] []) <|
   cD H (fun H=>?_) (fun H=>?_)
  ·refine qA (Z [p 4 (I (-1))] []) <|
    vx_ret<|fx_blk_ret<|fx_seq_ret<|t1<|fx_blk_ret<|t0<|hr H
  refine vx_skip<|fx_blk<|fx_seq <|
   zB (Z [p 0 (L y164 a0),p 1 (I v3),p 5 (I (v2+1))] []) H fun H =>
   b1 H
 exact vx_exit<|fx_seq_exit<|e1<|fx_blk_exit rfl<|n0 H
def u29 (a0:List Y164) (a1:Int):Option (Int) :=
 gd ((u64 a0 a1).isSome=true∧True)<|lt (vl (u64 a0 a1)) fun v0 =>
 if (decide (v0 < 0))=true then
  some (-1)
 else
  some v0
def k29:Ct:=lct 29 [.agg y164.sl,.dat i64] (fun x=>u29 x.1 x.2.1) (fun r:Int=>I r) (fun _=>())
theorem o29:Ok Tryz.prog k29:=by
 refine okL [.tmp 4] Tryz.func29 Tryz.ntmps29 Tryz.results29 ?_
 intro y ⟨a0,a1,_⟩ r H Q hn hr
 have:HT _ _:=⟨tc o64 tn⟩
 refine qA (Z [p 1 (J a1),p 2 (R 2)] [(2,Ob.box 24 [L y164 a0])]) <|
  qD (fun v0=>Z [p 1 (I v0)] [(2,Ob.box 24 [L y164 a0])]) H fun v0 H =>
  vx_seq <|
  qA (Z [p 1 (I v0),p 10 (B (decide (v0 < 0)))] [(2,Ob.box 24 [L y164 a0])]) <|
  cD H (fun H=>?_) (fun H=>?_)
 ·refine qA (Z [p 4 (I (-1))] [(2,Ob.box 24 [L y164 a0])]) <|
   vx_ret<|fx_seq_ret<|hr H
 refine vx_skip<|fx_seq <|
  qA (Z [p 4 (I v0)] [(2,Ob.box 24 [L y164 a0])]) <|
  vx_ret<|hr H
def u8 (a0:Y32) (a1:Int):Option (Int) :=
 gd ((u29 a0.1 a1).isSome=true∧True)<|lt (vl (u29 a0.1 a1)) fun v0 =>
 if (decide (v0 < 0))=true then
  some (-1)
 else
  gd ((u30 a0.2.1 v0).isSome=true∧True)<|lt (vl (u30 a0.2.1 v0)) fun v1 =>
  if (decide (v1 < 0))=true then
   some (-1)
  else
   gd ((u31 a0.2.2 v1).isSome=true∧True)<|lt (vl (u31 a0.2.2 v1)) fun v2 =>
   if (decide (v2 < 0))=true then
    some (-1)
   else
    some v2
def k8:Ct:=lct 8 [.agg y32,.dat i64] (fun x=>u8 x.1 x.2.1) (fun r:Int=>I r) (fun _=>())
theorem o8:Ok Tryz.prog k8:=by
 refine okL [.tmp 4] Tryz.func8 Tryz.ntmps8 Tryz.results8 ?_
 intro y ⟨a0,a1,_⟩ r H Q hn hr
 have:HT _ _:=⟨tc o31 (tc o30 (tc o29 tn))⟩
 refine qA (Z [p 1 (J a1),p 2 (R 2)] [(2,K 32 y32 a0)]) <|
  qD (fun v0=>Z [p 1 (I v0),p 2 (R 2)] [(2,K 32 y32 a0)]) H fun v0 H =>
  vx_seq <|
  qA (Z [p 1 (I v0),p 2 (R 2),p 10 (B (decide (v0 < 0)))] [(2,K 32 y32 a0)]) <|
  cD H (fun H=>?_) (fun H=>?_)
 ·refine qA (Z [p 4 (I (-1))] [(2,K 32 y32 a0)]) <|
   vx_ret<|fx_seq_ret<|hr H
 refine vx_skip<|fx_seq <|
  qD (fun v1=>Z [p 1 (I v1),p 2 (R 2)] [(2,K 32 y32 a0)]) H fun v1 H =>
  vx_seq <|
  qA (Z [p 1 (I v1),p 2 (R 2),p 16 (B (decide (v1 < 0)))] [(2,K 32 y32 a0)]) <|
  cD H (fun H=>?_) (fun H=>?_)
 ·refine qA (Z [p 4 (I (-1))] [(2,K 32 y32 a0)]) <|
   vx_ret<|fx_seq_ret<|hr H
 refine vx_skip<|fx_seq <|
  qD (fun v2=>Z [p 1 (I v2)] [(2,K 32 y32 a0)]) H fun v2 H =>
  vx_seq <|
  qA (Z [p 1 (I v2),p 22 (B (decide (v2 < 0)))] [(2,K 32 y32 a0)]) <|
  cD H (fun H=>?_) (fun H=>?_)
 ·refine qA (Z [p 4 (I (-1))] [(2,K 32 y32 a0)]) <|
   vx_ret<|fx_seq_ret<|hr H
 refine vx_skip<|fx_seq <|
  qA (Z [p 4 (I v2)] [(2,K 32 y32 a0)]) <|
  vx_ret<|hr H
def u106J4:List Y184→Option (List Y184)
 | v25 =>
 some v25
def u106L5 (a0:Y43) (g5:Int×List Y184→Option (List Y184)):Int×List Y184→Option (List Y184)
 | (v21,v22) =>
 if (decide (v21 < (↑a0.2.2.length:Int)))=true then
  gd (ix v21 a0.2.2.length∧ix v21 a0.2.2.length∧(v22.length+[(-1,v21,(a0.2.2.getD v21.toNat (dflt y172)).2.2,(a0.2.2.getD v21.toNat (dflt y172)).2.1==1)].length≤9223372036854775807∧(v22.length+[(-1,v21,(a0.2.2.getD v21.toNat (dflt y172)).2.2,(a0.2.2.getD v21.toNat (dflt y172)).2.1==1)].length)*32≤140737488355328)∧True)<|lt ((v22++[(-1,v21,(a0.2.2.getD v21.toNat (dflt y172)).2.2,(a0.2.2.getD v21.toNat (dflt y172)).2.1==1)],[(-1,v21,(a0.2.2.getD v21.toNat (dflt y172)).2.2,(a0.2.2.getD v21.toNat (dflt y172)).2.1==1)])) fun (v23,v24) =>
  gd (in64 (v21+1)∧True) <|
  g5 (v21+1,v23)
 else
  u106J4 v22
def u106J0 (a0:Y43):List Y184→Option (List Y184)
 | v18 =>
 lp (u106L5 a0) (0,v18)
def u106J2 (v8:Int) (g1:Int×List Y184→Option (List Y184)):List Y184→Option (List Y184)
 | v17 =>
 gd (in64 (v8+1)∧True) <|
 g1 (v8+1,v17)
def u106L3 (v8:Int) (v10:Y136) (g1:Int×List Y184→Option (List Y184)) (g3:Int×List Y184→Option (List Y184)):Int×List Y184→Option (List Y184)
 | (v13,v14) =>
 if (decide (v13 < (↑v10.2.2.length:Int)))=true then
  gd (ix v13 v10.2.2.length∧in64 ((↑v10.2.2.length:Int) - 1)∧(v14.length+[(v8,v13,v10.2.2.getD v13.toNat 0,v13==(↑v10.2.2.length:Int) - 1)].length≤9223372036854775807∧(v14.length+[(v8,v13,v10.2.2.getD v13.toNat 0,v13==(↑v10.2.2.length:Int) - 1)].length)*32≤140737488355328)∧True)<|lt ((v14++[(v8,v13,v10.2.2.getD v13.toNat 0,v13==(↑v10.2.2.length:Int) - 1)],[(v8,v13,v10.2.2.getD v13.toNat 0,v13==(↑v10.2.2.length:Int) - 1)])) fun (v15,v16) =>
  gd (in64 (v13+1)∧True) <|
  g3 (v13+1,v15)
 else
  u106J2 v8 g1 v14
def u106L1 (a0:Y43) (g1:Int×List Y184→Option (List Y184)):Int×List Y184→Option (List Y184)
 | (v8,v9) =>
 if (decide (v8 < (↑a0.1.length:Int)))=true then
  gd (ix v8 a0.1.length∧True)<|lt (a0.1.getD v8.toNat (dflt y136)) fun v10 =>
  lp (u106L3 v8 v10 g1) (0,v9)
 else
  u106J0 a0 v9
def u106 (a0:Y43):Option (List Y184) :=
 lp (u106L1 a0) (0,[])
def k106:Ct:=lct 106 [.agg y43] (fun x=>u106 x.1) (fun r:List Y184=>AV.ow 184 true y184 r) (fun _=>())
theorem o106:Ok Tryz.prog k106:=by
 refine okL [.tmp 2] Tryz.func106 Tryz.ntmps106 Tryz.results106 ?_
 intro y ⟨a0,_⟩ r H Q hn hr
 have:HT _ _:=⟨@tn Tryz.prog⟩
 refine qA (Z [p 1 (R 1)] [(1,K 43 y43 a0)]) <|
  qA (Z [p 1 (R 1),p 3 (O 8)] [(8,A 184 y184 [] 0),(1,K 43 y43 a0)]) <|
  jN r (fun (v18:List Y184)=>Z [p 1 (R 1),p 3 (O 8)] [(8,A 184 y184 v18 0),(1,K 43 y43 a0)]) (u106J0 a0) (fun v18 H=>?_) (fun _ n0 e0 t0=>?_)
 ·refine jN r (fun (v25:List Y184)=>Z [p 3 (O 8)] [(8,A 184 y184 v25 0)]) (u106J4) (fun v25 H=>?_) (fun _ n4 e4 t4=>?_)
  ·refine qA (Z [p 2 (O 8)] [(8,A 184 y184 v25 0)]) <|
    vx_ret<|hr H
  refine qA (Z [p 1 (R 1),p 3 (O 8),p 7 (I 0)] [(8,A 184 y184 v18 0),(1,K 43 y43 a0)]) <|
   vx_block <|
   lX (fun ((v21,v22):Int×List Y184)=>Z [p 1 (R 1),p 3 (O 8),p 7 (I v21)] [(8,A 184 y184 v22 0),(1,K 43 y43 a0)]) (0,v18) H fun _ g5 b5 e5 t5 ⟨v21,v22⟩ H =>
   vx_seq <|
   qA (Z [p 1 (R 1),p 3 (O 8),p 7 (I v21),p 47 (B (decide (v21 < (↑a0.2.2.length:Int))))] [(8,A 184 y184 v22 0),(1,K 43 y43 a0)]) <|
   cD H (fun H=>?_) (fun H=>?_)
  ·refine vx_skip<|fx_seq<|vx_seq<|vx_block <|
    zD (fun (v23,v24)=>Z [p 1 (R 1),p 3 (AV.os 8 1),p 7 (I v21)] [(8,A 184 y184 v23 1),(66,A 184 y184 v24 0),(1,K 43 y43 a0)]) H fun ⟨v23,v24⟩ H =>
    fx_blk<|fx_seq <|
    zB (Z [p 1 (R 1),p 3 (AV.os 8 1),p 7 (I (v21+1))] [(8,A 184 y184 v23 1),(66,A 184 y184 v24 0),(1,K 43 y43 a0)]) H fun H =>
    b5 H
  exact vx_exit<|fx_seq_exit<|e5<|fx_blk_exit rfl<|n4 H
 refine qA (Z [p 1 (R 1),p 3 (O 8),p 4 (I 0)] [(8,A 184 y184 [] 0),(1,K 43 y43 a0)]) <|
  vx_block <|
  lX (fun ((v8,v9):Int×List Y184)=>Z [p 1 (R 1),p 3 (O 8),p 4 (I v8)] [(8,A 184 y184 v9 0),(1,K 43 y43 a0)]) (0,[]) H fun _ g1 b1 e1 t1 ⟨v8,v9⟩ H =>
  vx_seq <|
  qA (Z [p 1 (R 1),p 3 (O 8),p 4 (I v8),p 13 (B (decide (v8 < (↑a0.1.length:Int))))] [(8,A 184 y184 v9 0),(1,K 43 y43 a0)]) <|
  cD H (fun H=>?_) (fun H=>?_)
 ·refine vx_skip<|fx_seq <|
   jN r (fun (v17:List Y184)=>Z [p 1 (R 1),p 3 (O 8),p 4 (I v8)] [(8,A 184 y184 v17 0),(1,K 43 y43 a0)]) (u106J2 v8 g1) (fun v17 H=>?_) (fun _ n2 e2 t2=>?_)
  ·refine zB (Z [p 1 (R 1),p 3 (O 8),p 4 (I (v8+1))] [(8,A 184 y184 v17 0),(1,K 43 y43 a0)]) H fun H =>
    b1 H
  refine vx_block <|
   qD (fun v10=>Z [p 1 (R 1),p 3 (O 8),p 4 (I v8),p 5 (L i64 v10.2.2)] [(8,A 184 y184 v9 0),(1,K 43 y43 a0)]) H fun v10 H =>
   qA (Z [p 1 (R 1),p 3 (O 8),p 4 (I v8),p 5 (L i64 v10.2.2),p 6 (I 0)] [(8,A 184 y184 v9 0),(1,K 43 y43 a0)]) <|
   vx_block <|
   lX (fun ((v13,v14):Int×List Y184)=>Z [p 1 (R 1),p 3 (O 8),p 4 (I v8),p 5 (L i64 v10.2.2),p 6 (I v13)] [(8,A 184 y184 v14 0),(1,K 43 y43 a0)]) (0,v9) H fun _ g3 b3 e3 t3 ⟨v13,v14⟩ H =>
   vx_seq <|
   qA (Z [p 1 (R 1),p 3 (O 8),p 4 (I v8),p 5 (L i64 v10.2.2),p 6 (I v13),p 25 (B (decide (v13 < (↑v10.2.2.length:Int))))] [(8,A 184 y184 v14 0),(1,K 43 y43 a0)]) <|
   cD H (fun H=>?_) (fun H=>?_)
  ·refine vx_skip<|fx_seq<|vx_seq<|vx_block <|
    zD (fun (v15,v16)=>Z [p 1 (R 1),p 3 (AV.os 8 1),p 4 (I v8),p 5 (L i64 v10.2.2),p 6 (I v13)] [(8,A 184 y184 v15 1),(41,A 184 y184 v16 0),(1,K 43 y43 a0)]) H fun ⟨v15,v16⟩ H =>
    fx_blk<|fx_seq <|
    zB (Z [p 1 (R 1),p 3 (AV.os 8 1),p 4 (I v8),p 5 (L i64 v10.2.2),p 6 (I (v13+1))] [(8,A 184 y184 v15 1),(41,A 184 y184 v16 0),(1,K 43 y43 a0)]) H fun H =>
    b3 H
  exact vx_exit<|fx_seq_exit<|e3<|fx_blk_exit rfl<|fx_blk<|n2 H
 exact vx_exit<|fx_seq_exit<|e1<|fx_blk_exit rfl<|n0 H
def u90J0:List Int→Option (List Int)
 | v5 =>
 some v5
def u90J2 (v2:Int) (g1:Int×List Int→Option (List Int)):List Int→Option (List Int)
 | v4 =>
 gd (in64 (v2+1)∧True) <|
 g1 (v2+1,v4)
def u90L1 (v0:List Y184) (a1:Int) (g1:Int×List Int→Option (List Int)):Int×List Int→Option (List Int)
 | (v2,v3) =>
 if (decide (v2 < (↑v0.length:Int)))=true then
  gd (ix v2 v0.length∧v2.toNat < v0.length∧(((v0.getD v2.toNat (dflt y184)).2.2.1==a1)=true∧True→ix v2 v0.length)∧(((v0.getD v2.toNat (dflt y184)).2.2.1==a1)=true∧True→v2.toNat < v0.length)∧True) <|
  if ((v0.getD v2.toNat (dflt y184)).2.2.1==a1&&!(v0.getD v2.toNat (dflt y184)).2.2.2)=true then
   gd ((v3.length+[v2].length≤9223372036854775807∧(v3.length+[v2].length)*8≤140737488355328)∧True) <|
   u90J2 v2 g1 (v3++[v2])
  else
   u90J2 v2 g1 v3
 else
  u90J0 v3
def u90 (a0:Y43) (a1:Int):Option (List Int) :=
 gd ((u106 a0).isSome=true∧True)<|lt (vl (u106 a0)) fun v0 =>
 lp (u90L1 v0 a1) (0,[])
def k90:Ct:=lct 90 [.agg y43,.dat i64] (fun x=>u90 x.1 x.2.1) (fun r:List Int=>AV.ow 2 true i64 r) (fun _=>())
theorem o90:Ok Tryz.prog k90:=by
 refine okL [.tmp 4] Tryz.func90 Tryz.ntmps90 Tryz.results90 ?_
 intro y ⟨a0,a1,_⟩ r H Q hn hr
 have:HT _ _:=⟨tc o106 tn⟩
 refine qA (Z [p 1 (J a1),p 2 (R 2)] [(2,K 43 y43 a0)]) <|
  qA (Z [p 1 (J a1),p 2 (R 2),p 5 (O 8)] [(8,A 2 i64 [] 0),(2,K 43 y43 a0)]) <|
  qD (fun v0=>Z [p 1 (J a1),p 5 (O 8),p 6 (O 10)] [(10,A 184 y184 v0 0),(8,A 2 i64 [] 0),(2,K 43 y43 a0)]) H fun v0 H =>
  jN r (fun (v5:List Int)=>Z [p 5 (O 8)] [(8,A 2 i64 v5 0)]) (u90J0) (fun v5 H=>?_) (fun _ n0 e0 t0=>?_)
 ·refine qA (Z [p 4 (O 8)] [(8,A 2 i64 v5 0)]) <|
   vx_ret<|hr H
 refine qA (Z [p 1 (J a1),p 5 (O 8),p 6 (O 10),p 7 (I 0)] [(10,A 184 y184 v0 0),(8,A 2 i64 [] 0),(2,K 43 y43 a0)]) <|
  vx_block <|
  lX (fun ((v2,v3):Int×List Int)=>Z [p 1 (J a1),p 5 (O 8),p 6 (O 10),p 7 (I v2)] [(10,A 184 y184 v0 0),(8,A 2 i64 v3 0)]) (0,[]) H fun _ g1 b1 e1 t1 ⟨v2,v3⟩ H =>
  vx_seq <|
  qA (Z [p 1 (J a1),p 5 (O 8),p 6 (O 10),p 7 (I v2),p 14 (B (decide (v2 < (↑v0.length:Int))))] [(10,A 184 y184 v0 0),(8,A 2 i64 v3 0)]) <|
  cD H (fun H=>?_) (fun H=>?_)
 ·refine vx_skip<|fx_seq <|
   jN r (fun (v4:List Int)=>Z [p 1 (J a1),p 5 (O 8),p 6 (O 10),p 7 (I v2)] [(8,A 2 i64 v4 0),(10,A 184 y184 v0 0)]) (u90J2 v2 g1) (fun v4 H=>?_) (fun _ n2 e2 t2=>?_)
  ·refine zB (Z [p 1 (J a1),p 5 (O 8),p 6 (O 10),p 7 (I (v2+1))] [(8,A 2 i64 v4 0),(10,A 184 y184 v0 0)]) H fun H =>
    b1 H
  refine vx_block <|
   qB (Z [p 1 (J a1),p 5 (O 8),p 6 (O 10),p 7 (I v2),p 31 (B ((v0.getD v2.toNat (dflt y184)).2.2.1==a1&&!(v0.getD v2.toNat (dflt y184)).2.2.2))] [(10,A 184 y184 v0 0),(8,A 2 i64 v3 0)]) H fun H =>
   cD H (fun H=>?_) (fun H=>?_)
  ·refine zB (Z [p 1 (J a1),p 5 (AV.os 8 1),p 6 (O 10),p 7 (I v2)] [(8,A 2 i64 (v3++[v2]) 1),(34,A 2 i64 [v2] 0),(10,A 184 y184 v0 0)]) H fun H =>
    fx_blk<|n2 H
  exact vx_skip<|fx_blk<|n2 H
 exact vx_exit<|fx_seq_exit<|e1<|fx_blk_exit rfl<|n0 H
def u69 (a0:Int) (a1:Int) (a2:Int):Option (Bool) :=
 some (decide (a1≤a0)&&decide (a0≤a2))
def k69:Ct:=lct 69 [.dat i64,.dat i64,.dat i64] (fun x=>u69 x.1 x.2.1 x.2.2.1) (fun r:Bool=>B r) (fun _=>())
theorem o69:Ok Tryz.prog k69:=by
 refine okL [.tmp 6] Tryz.func69 Tryz.ntmps69 Tryz.results69 ?_
 intro y ⟨a0,a1,a2,_⟩ r H Q hn hr
 have:HT _ _:=⟨@tn Tryz.prog⟩
 refine qA (Z [p 0 (J a0),p 1 (J a1),p 2 (J a2)] []) <|
  qA (Z [p 6 (B (decide (a1≤a0)&&decide (a0≤a2)))] []) <|
  vx_ret<|hr H
def u89J2:Unit→Option (Bool)
 | _ =>
 some true
def u89L3 (a0:Y114) (g3:Int→Option (Bool)):Int→Option (Bool)
 | v1 =>
 if (decide (v1 < (↑a0.2.2.2.length:Int)))=true then
  gd (ix v1 a0.2.2.2.length∧in64 ((↑a0.1.length:Int) - 1)∧(u69 (a0.2.2.2.getD v1.toNat 0) 0 ((↑a0.1.length:Int) - 1)).isSome=true∧True) <|
  if (!vl (u69 (a0.2.2.2.getD v1.toNat 0) 0 ((↑a0.1.length:Int) - 1)))=true then
   some false
  else
   gd (in64 (v1+1)∧True) <|
   g3 (v1+1)
 else
  u89J2 ()
def u89J0 (a0:Y114):Unit→Option (Bool)
 | _ =>
 lp (u89L3 a0) 0
def u89L1 (a0:Y114) (g1:Int→Option (Bool)):Int→Option (Bool)
 | v0 =>
 if (decide (v0 < (↑a0.1.length:Int)))=true then
  gd (ix v0 a0.2.2.1.length∧(u69 (a0.2.2.1.getD v0.toNat 0) 0 500).isSome=true∧((!vl (u69 (a0.2.2.1.getD v0.toNat 0) 0 500))=false∧True→ix v0 a0.2.1.length)∧((!vl (u69 (a0.2.2.1.getD v0.toNat 0) 0 500))=false∧True→(u69 (a0.2.1.getD v0.toNat 0) 0 1000).isSome=true)∧True) <|
  if (!vl (u69 (a0.2.2.1.getD v0.toNat 0) 0 500)||!vl (u69 (a0.2.1.getD v0.toNat 0) 0 1000))=true then
   some false
  else
   gd (((v0==0)=true∧True→ix v0 a0.1.length)∧((a0.1.getD v0.toNat 0 != -1)=false∧(v0==0)=true∧True→ix v0 a0.2.1.length)∧(decide (0 < v0)=true∧(v0==0&&(a0.1.getD v0.toNat 0 != -1||a0.2.1.getD v0.toNat 0 != 0))=false∧True→ix v0 a0.1.length)∧(decide (0 < v0)=true∧(v0==0&&(a0.1.getD v0.toNat 0 != -1||a0.2.1.getD v0.toNat 0 != 0))=false∧True→in64 (v0 - 1))∧(decide (0 < v0)=true∧(v0==0&&(a0.1.getD v0.toNat 0 != -1||a0.2.1.getD v0.toNat 0 != 0))=false∧True→(u69 (a0.1.getD v0.toNat 0) 0 (v0 - 1)).isSome=true)∧True) <|
   if (v0==0&&(a0.1.getD v0.toNat 0 != -1||a0.2.1.getD v0.toNat 0 != 0)||decide (0 < v0)&&!vl (u69 (a0.1.getD v0.toNat 0) 0 (v0 - 1)))=true then
    some false
   else
    gd (in64 (v0+1)∧True) <|
    g1 (v0+1)
 else
  u89J0 a0 ()
def u89 (a0:Y114) (a1:Int):Option (Bool) :=
 if (decide ((↑a0.1.length:Int) < 1)||decide (8 < (↑a0.1.length:Int))||(↑a0.2.1.length:Int) != (↑a0.1.length:Int)||(↑a0.2.2.1.length:Int) != (↑a0.1.length:Int)||(↑a0.2.2.2.length:Int) != a1)=true then
  some false
 else
  lp (u89L1 a0) 0
def k89:Ct:=lct 89 [.agg y114,.dat i64] (fun x=>u89 x.1 x.2.1) (fun r:Bool=>B r) (fun _=>())
theorem o89:Ok Tryz.prog k89:=by
 refine okL [.tmp 4] Tryz.func89 Tryz.ntmps89 Tryz.results89 ?_
 intro y ⟨a0,a1,_⟩ r H Q hn hr
 have:HT _ _:=⟨tc o69 tn⟩
 refine qA (Z [p 1 (J a1),p 2 (R 2)] [(2,K 114 y114 a0)]) <|
  qA (Z [p 1 (J a1),p 2 (R 2),p 5 (I (↑a0.1.length:Int))] [(2,K 114 y114 a0)]) <|
  vx_seq <|
  qA (Z [p 2 (R 2),p 5 (I (↑a0.1.length:Int)),p 37 (B (decide ((↑a0.1.length:Int) < 1)||decide (8 < (↑a0.1.length:Int))||(↑a0.2.1.length:Int) != (↑a0.1.length:Int)||(↑a0.2.2.1.length:Int) != (↑a0.1.length:Int)||(↑a0.2.2.2.length:Int) != a1))] [(2,K 114 y114 a0)]) <|
  cD H (fun H=>?_) (fun H=>?_)
 ·refine qA (Z [p 4 (B false)] [(2,K 114 y114 a0)]) <|
   vx_ret<|fx_seq_ret<|hr H
 refine vx_skip<|fx_seq <|
  jN r (fun (_:Unit)=>Z [p 2 (R 2),p 5 (I (↑a0.1.length:Int))] [(2,K 114 y114 a0)]) (u89J0 a0) (fun _ H=>?_) (fun _ n0 e0 t0=>?_)
 ·refine jN r (fun (_:Unit)=>Z [] []) (u89J2) (fun _ H=>?_) (fun _ n2 e2 t2=>?_)
  ·refine qA (Z [p 4 (B true)] []) <|
    vx_ret<|hr H
  refine qA (Z [p 2 (R 2),p 5 (I (↑a0.1.length:Int)),p 7 (I 0)] [(2,K 114 y114 a0)]) <|
   vx_block <|
   lX (fun (v1:Int)=>Z [p 2 (R 2),p 5 (I (↑a0.1.length:Int)),p 7 (I v1)] [(2,K 114 y114 a0)]) 0 H fun _ g3 b3 e3 t3 v1 H =>
   vx_seq <|
   qA (Z [p 2 (R 2),p 5 (I (↑a0.1.length:Int)),p 7 (I v1),p 96 (B (decide (v1 < (↑a0.2.2.2.length:Int))))] [(2,K 114 y114 a0)]) <|
   cD H (fun H=>?_) (fun H=>?_)
  ·refine vx_skip<|fx_seq<|vx_seq<|vx_block <|
    qB (Z [p 2 (R 2),p 5 (I (↑a0.1.length:Int)),p 7 (I v1),p 107 (B !vl (u69 (a0.2.2.2.getD v1.toNat 0) 0 ((↑a0.1.length:Int) - 1)))] [(2,K 114 y114 a0)]) H fun H =>
    cD H (fun H=>?_) (fun H=>?_)
   ·refine qA (Z [p 4 (B false)] [(2,K 114 y114 a0)]) <|
     vx_ret<|fx_blk_ret<|fx_seq_ret<|t3<|fx_blk_ret<|t2<|hr H
   refine vx_skip<|fx_blk<|fx_seq <|
    zB (Z [p 2 (R 2),p 5 (I (↑a0.1.length:Int)),p 7 (I (v1+1))] [(2,K 114 y114 a0)]) H fun H =>
    b3 H
  exact vx_exit<|fx_seq_exit<|e3<|fx_blk_exit rfl<|n2 H
 refine qA (Z [p 2 (R 2),p 5 (I (↑a0.1.length:Int)),p 6 (I 0)] [(2,K 114 y114 a0)]) <|
  vx_block <|
  lX (fun (v0:Int)=>Z [p 2 (R 2),p 5 (I (↑a0.1.length:Int)),p 6 (I v0)] [(2,K 114 y114 a0)]) 0 H fun _ g1 b1 e1 t1 v0 H =>
  vx_seq <|
  qA (Z [p 2 (R 2),p 5 (I (↑a0.1.length:Int)),p 6 (I v0),p 40 (B (decide (v0 < (↑a0.1.length:Int))))] [(2,K 114 y114 a0)]) <|
  cD H (fun H=>?_) (fun H=>?_)
 ·refine vx_skip<|fx_seq<|vx_seq<|vx_block<|vx_seq <|
   qB (Z [p 2 (R 2),p 5 (I (↑a0.1.length:Int)),p 6 (I v0),p 58 (B (!vl (u69 (a0.2.2.1.getD v0.toNat 0) 0 500)||!vl (u69 (a0.2.1.getD v0.toNat 0) 0 1000)))] [(2,K 114 y114 a0)]) H fun H =>
   cD H (fun H=>?_) (fun H=>?_)
  ·refine qA (Z [p 4 (B false)] [(2,K 114 y114 a0)]) <|
    vx_ret<|fx_seq_ret<|fx_blk_ret<|fx_seq_ret<|t1<|fx_blk_ret<|t0<|hr H
  refine vx_skip<|fx_seq <|
   qB (Z [p 2 (R 2),p 5 (I (↑a0.1.length:Int)),p 6 (I v0),p 91 (B (v0==0&&(a0.1.getD v0.toNat 0 != -1||a0.2.1.getD v0.toNat 0 != 0)||decide (0 < v0)&&!vl (u69 (a0.1.getD v0.toNat 0) 0 (v0 - 1))))] [(2,K 114 y114 a0)]) H fun H =>
   cD H (fun H=>?_) (fun H=>?_)
  ·refine qA (Z [p 4 (B false)] [(2,K 114 y114 a0)]) <|
    vx_ret<|fx_blk_ret<|fx_seq_ret<|t1<|fx_blk_ret<|t0<|hr H
  refine vx_skip<|fx_blk<|fx_seq <|
   zB (Z [p 2 (R 2),p 5 (I (↑a0.1.length:Int)),p 6 (I (v0+1))] [(2,K 114 y114 a0)]) H fun H =>
   b1 H
 exact vx_exit<|fx_seq_exit<|e1<|fx_blk_exit rfl<|n0 H
def u155J0 (a0:ByteArray):Unit→Option (Bool)
 | _ =>
 some (decide (1≤(↑a0.size:Int))&&decide ((↑a0.size:Int)≤8))
def u155L1 (a0:ByteArray) (g1:Int→Option (Bool)):Int→Option (Bool)
 | v0 =>
 if (decide (v0 < (↑a0.size:Int)))=true then
  gd (ix v0 a0.size∧(decide (97≤byteAt a0 v0.toNat)=true∧True→ix v0 a0.size)∧True) <|
  gd (ix v0 a0.size∧(decide (48≤byteAt a0 v0.toNat)=true∧True→ix v0 a0.size)∧True) <|
  if (!(decide (97≤byteAt a0 v0.toNat)&&decide (byteAt a0 v0.toNat≤122))&&!(decide (48≤byteAt a0 v0.toNat)&&decide (byteAt a0 v0.toNat≤57)&&decide (0 < v0)))=true then
   some false
  else
   gd (in64 (v0+1)∧True) <|
   g1 (v0+1)
 else
  u155J0 a0 ()
def u155 (a0:ByteArray):Option (Bool) :=
 lp (u155L1 a0) 0
def k155:Ct:=lct 155 [.dat Ty.str] (fun x=>u155 x.1) (fun r:Bool=>B r) (fun _=>())
theorem o155:Ok Tryz.prog k155:=by
 refine okL [.tmp 2] Tryz.func155 Tryz.ntmps155 Tryz.results155 ?_
 intro y ⟨a0,_⟩ r H Q hn hr
 have:HT _ _:=⟨@tn Tryz.prog⟩
 refine qA (Z [p 0 (U a0)] []) <|
  jN r (fun (_:Unit)=>Z [p 0 (U a0)] []) (u155J0 a0) (fun _ H=>?_) (fun _ n0 e0 t0=>?_)
 ·refine qA (Z [p 2 (B (decide (1≤(↑a0.size:Int))&&decide ((↑a0.size:Int)≤8)))] []) <|
   vx_ret<|hr H
 refine qA (Z [p 0 (U a0),p 3 (I 0)] []) <|
  vx_block <|
  lX (fun (v0:Int)=>Z [p 0 (U a0),p 3 (I v0)] []) 0 H fun _ g1 b1 e1 t1 v0 H =>
  vx_seq <|
  qA (Z [p 0 (U a0),p 3 (I v0),p 9 (B (decide (v0 < (↑a0.size:Int))))] []) <|
  cD H (fun H=>?_) (fun H=>?_)
 ·refine vx_skip<|fx_seq<|vx_seq<|vx_block <|
   qB (Z [p 0 (U a0),p 3 (I v0),p 4 (B (decide (97≤byteAt a0 v0.toNat)&&decide (byteAt a0 v0.toNat≤122)))] []) H fun H =>
   qB (Z [p 0 (U a0),p 3 (I v0),p 4 (B (decide (97≤byteAt a0 v0.toNat)&&decide (byteAt a0 v0.toNat≤122))),p 5 (B (decide (48≤byteAt a0 v0.toNat)&&decide (byteAt a0 v0.toNat≤57)))] []) H fun H =>
   qA (Z [p 0 (U a0),p 3 (I v0),p 41 (B (!(decide (97≤byteAt a0 v0.toNat)&&decide (byteAt a0 v0.toNat≤122))&&!(decide (48≤byteAt a0 v0.toNat)&&decide (byteAt a0 v0.toNat≤57)&&decide (0 < v0))))] []) <|
   cD H (fun H=>?_) (fun H=>?_)
  ·refine qA (Z [p 2 (B false)] []) <|
    vx_ret<|fx_blk_ret<|fx_seq_ret<|t1<|fx_blk_ret<|t0<|hr H
  refine vx_skip<|fx_blk<|fx_seq <|
   zB (Z [p 0 (U a0),p 3 (I (v0+1))] []) H fun H =>
   b1 H
 exact vx_exit<|fx_seq_exit<|e1<|fx_blk_exit rfl<|n0 H
def u130J0:Unit→Option (Bool)
 | _ =>
 some true
def u130J2 (v1:Int) (g1:Int→Option (Bool)):Unit→Option (Bool)
 | _ =>
 gd (in64 (v1+1)∧True) <|
 g1 (v1+1)
def u130L3 (a0:List ByteArray) (v1:Int) (g1:Int→Option (Bool)) (g3:Int→Option (Bool)):Int→Option (Bool)
 | v2 =>
 if (decide (v2 < v1))=true then
  gd (ix v2 a0.length∧ix v1 a0.length∧True) <|
  if (decide (a0.getD v2.toNat (dflt Ty.str)=a0.getD v1.toNat (dflt Ty.str)))=true then
   some false
  else
   gd (in64 (v2+1)∧True) <|
   g3 (v2+1)
 else
  u130J2 v1 g1 ()
def u130L1 (a0:List ByteArray) (g1:Int→Option (Bool)):Int→Option (Bool)
 | v1 =>
 if (decide (v1 < (↑a0.length:Int)))=true then
  gd (ix v1 a0.length∧(u155 (a0.getD v1.toNat (dflt Ty.str))).isSome=true∧True) <|
  if (!vl (u155 (a0.getD v1.toNat (dflt Ty.str))))=true then
   some false
  else
   lp (u130L3 a0 v1 g1) 0
 else
  u130J0 ()
def u130 (a0:List ByteArray):Option (Bool) :=
 lp (u130L1 a0) 0
def k130:Ct:=lct 130 [.dat Ty.str.sl] (fun x=>u130 x.1) (fun r:Bool=>B r) (fun _=>())
theorem o130:Ok Tryz.prog k130:=by
 refine okL [.tmp 2] Tryz.func130 Tryz.ntmps130 Tryz.results130 ?_
 intro y ⟨a0,_⟩ r H Q hn hr
 have:HT _ _:=⟨tc o155 tn⟩
 refine qA (Z [p 0 (L Ty.str a0)] []) <|
  jN r (fun (_:Unit)=>Z [] []) (u130J0) (fun _ H=>?_) (fun _ n0 e0 t0=>?_)
 ·refine qA (Z [p 2 (B true)] []) <|
   vx_ret<|hr H
 refine qA (Z [p 0 (L Ty.str a0),p 3 (I 0)] []) <|
  vx_block <|
  lX (fun (v1:Int)=>Z [p 0 (L Ty.str a0),p 3 (I v1)] []) 0 H fun _ g1 b1 e1 t1 v1 H =>
  vx_seq <|
  qA (Z [p 0 (L Ty.str a0),p 3 (I v1),p 8 (B (decide (v1 < (↑a0.length:Int))))] []) <|
  cD H (fun H=>?_) (fun H=>?_)
 ·refine vx_skip<|fx_seq <|
   jN r (fun (_:Unit)=>Z [p 0 (L Ty.str a0),p 3 (I v1)] []) (u130J2 v1 g1) (fun _ H=>?_) (fun _ n2 e2 t2=>?_)
  ·refine zB (Z [p 0 (L Ty.str a0),p 3 (I (v1+1))] []) H fun H =>
    b1 H
  refine vx_block<|vx_seq <|
   qB (Z [p 0 (L Ty.str a0),p 3 (I v1),p 16 (B !vl (u155 (a0.getD v1.toNat (dflt Ty.str))))] []) H fun H =>
   cD H (fun H=>?_) (fun H=>?_)
  ·refine qA (Z [p 2 (B false)] []) <|
    vx_ret<|fx_seq_ret<|fx_blk_ret<|t2<|t1<|fx_blk_ret<|t0<|hr H
  refine vx_skip<|fx_seq <|
   qA (Z [p 0 (L Ty.str a0),p 3 (I v1),p 4 (I 0)] []) <|
   vx_block <|
   lX (fun (v2:Int)=>Z [p 0 (L Ty.str a0),p 3 (I v1),p 4 (I v2)] []) 0 H fun _ g3 b3 e3 t3 v2 H =>
   vx_seq <|
   qA (Z [p 0 (L Ty.str a0),p 3 (I v1),p 4 (I v2),p 19 (B (decide (v2 < v1)))] []) <|
   cD H (fun H=>?_) (fun H=>?_)
  ·refine vx_skip<|fx_seq<|vx_seq<|vx_block <|
    qB (Z [p 0 (L Ty.str a0),p 3 (I v1),p 4 (I v2),p 30 (B (decide (a0.getD v2.toNat (dflt Ty.str)=a0.getD v1.toNat (dflt Ty.str))))] []) H fun H =>
    cD H (fun H=>?_) (fun H=>?_)
   ·refine qA (Z [p 2 (B false)] []) <|
     vx_ret<|fx_blk_ret<|fx_seq_ret<|t3<|fx_blk_ret<|fx_blk_ret<|t2<|t1<|fx_blk_ret<|t0<|hr H
   refine vx_skip<|fx_blk<|fx_seq <|
    zB (Z [p 0 (L Ty.str a0),p 3 (I v1),p 4 (I (v2+1))] []) H fun H =>
    b3 H
  exact vx_exit<|fx_seq_exit<|e3<|fx_blk_exit rfl<|fx_blk<|n2 H
 exact vx_exit<|fx_seq_exit<|e1<|fx_blk_exit rfl<|n0 H
def u129J4:Unit→Option (Bool)
 | _ =>
 some true
def u129L5 (a1:Y43) (g5:Int→Option (Bool)):Int→Option (Bool)
 | v5 =>
 if (decide (v5 < (↑a1.2.2.length:Int)))=true then
  gd (ix v5 a1.2.2.length∧(u69 (a1.2.2.getD v5.toNat (dflt y172)).2.1 1 2).isSome=true∧((!vl (u69 (a1.2.2.getD v5.toNat (dflt y172)).2.1 1 2))=false∧True→ix v5 a1.2.2.length)∧((!vl (u69 (a1.2.2.getD v5.toNat (dflt y172)).2.1 1 2))=false∧True→in64 ((↑a1.2.1.length:Int) - 1))∧((!vl (u69 (a1.2.2.getD v5.toNat (dflt y172)).2.1 1 2))=false∧True→(u69 (a1.2.2.getD v5.toNat (dflt y172)).2.2 0 ((↑a1.2.1.length:Int) - 1)).isSome=true)∧True) <|
  if (!vl (u69 (a1.2.2.getD v5.toNat (dflt y172)).2.1 1 2)||!vl (u69 (a1.2.2.getD v5.toNat (dflt y172)).2.2 0 ((↑a1.2.1.length:Int) - 1)))=true then
   some false
  else
   gd (in64 (v5+1)∧True) <|
   g5 (v5+1)
 else
  u129J4 ()
def u129J0 (a1:Y43):Unit→Option (Bool)
 | _ =>
 lp (u129L5 a1) 0
def u129J2 (v2:Int) (g1:Int→Option (Bool)):Unit→Option (Bool)
 | _ =>
 gd (in64 (v2+1)∧True) <|
 g1 (v2+1)
def u129L3 (v3:Y136) (a1:Y43) (v2:Int) (g1:Int→Option (Bool)) (g3:Int→Option (Bool)):Int→Option (Bool)
 | v4 =>
 if (decide (v4 < (↑v3.2.2.length:Int)))=true then
  gd (ix v4 v3.2.2.length∧in64 ((↑a1.2.1.length:Int) - 1)∧(u69 (v3.2.2.getD v4.toNat 0) 0 ((↑a1.2.1.length:Int) - 1)).isSome=true∧True) <|
  if (!vl (u69 (v3.2.2.getD v4.toNat 0) 0 ((↑a1.2.1.length:Int) - 1)))=true then
   some false
  else
   gd (in64 (v4+1)∧True) <|
   g3 (v4+1)
 else
  u129J2 v2 g1 ()
def u129L1 (a1:Y43) (a0:List Y134) (g1:Int→Option (Bool)):Int→Option (Bool)
 | v2 =>
 if (decide (v2 < (↑a1.1.length:Int)))=true then
  gd (ix v2 a1.1.length∧True)<|lt (a1.1.getD v2.toNat (dflt y136)) fun v3 =>
  gd (in64 ((↑a0.length:Int) - 1)∧(u69 v3.2.1 0 ((↑a0.length:Int) - 1)).isSome=true∧((!vl (u69 v3.2.1 0 ((↑a0.length:Int) - 1)))=false∧True→ix v3.2.1 a0.length)∧True) <|
  if (!vl (u69 v3.2.1 0 ((↑a0.length:Int) - 1))||(↑v3.2.2.length:Int) != (↑(a0.getD v3.2.1.toNat (dflt y134)).2.2.1.length:Int))=true then
   some false
  else
   lp (u129L3 v3 a1 v2 g1) 0
 else
  u129J0 a1 ()
def u129 (a0:List Y134) (a1:Y43):Option (Bool) :=
 lp (u129L1 a1 a0) 0
def k129:Ct:=lct 129 [.agg y134.sl,.agg y43] (fun x=>u129 x.1 x.2.1) (fun r:Bool=>B r) (fun _=>())
theorem o129:Ok Tryz.prog k129:=by
 refine okL [.tmp 4] Tryz.func129 Tryz.ntmps129 Tryz.results129 ?_
 intro y ⟨a0,a1,_⟩ r H Q hn hr
 have:HT _ _:=⟨tc o69 tn⟩
 refine qA (Z [p 2 (R 2),p 3 (R 3)] [(3,K 43 y43 a1),(2,Ob.box 39 [L y134 a0])]) <|
  qA (Z [p 2 (R 2),p 3 (R 3),p 5 (I (↑a1.2.1.length:Int))] [(3,K 43 y43 a1),(2,Ob.box 39 [L y134 a0])]) <|
  jN r (fun (_:Unit)=>Z [p 3 (R 3),p 5 (I (↑a1.2.1.length:Int))] [(3,K 43 y43 a1)]) (u129J0 a1) (fun _ H=>?_) (fun _ n0 e0 t0=>?_)
 ·refine jN r (fun (_:Unit)=>Z [] []) (u129J4) (fun _ H=>?_) (fun _ n4 e4 t4=>?_)
  ·refine qA (Z [p 4 (B true)] []) <|
    vx_ret<|hr H
  refine qA (Z [p 3 (R 3),p 5 (I (↑a1.2.1.length:Int)),p 9 (I 0)] [(3,K 43 y43 a1)]) <|
   vx_block <|
   lX (fun (v5:Int)=>Z [p 3 (R 3),p 5 (I (↑a1.2.1.length:Int)),p 9 (I v5)] [(3,K 43 y43 a1)]) 0 H fun _ g5 b5 e5 t5 v5 H =>
   vx_seq <|
   qA (Z [p 3 (R 3),p 5 (I (↑a1.2.1.length:Int)),p 9 (I v5),p 67 (B (decide (v5 < (↑a1.2.2.length:Int))))] [(3,K 43 y43 a1)]) <|
   cD H (fun H=>?_) (fun H=>?_)
  ·refine vx_skip<|fx_seq<|vx_seq<|vx_block <|
    qB (Z [p 3 (R 3),p 5 (I (↑a1.2.1.length:Int)),p 9 (I v5),p 89 (B (!vl (u69 (a1.2.2.getD v5.toNat (dflt y172)).2.1 1 2)||!vl (u69 (a1.2.2.getD v5.toNat (dflt y172)).2.2 0 ((↑a1.2.1.length:Int) - 1))))] [(3,K 43 y43 a1)]) H fun H =>
    cD H (fun H=>?_) (fun H=>?_)
   ·refine qA (Z [p 4 (B false)] [(3,K 43 y43 a1)]) <|
     vx_ret<|fx_blk_ret<|fx_seq_ret<|t5<|fx_blk_ret<|t4<|hr H
   refine vx_skip<|fx_blk<|fx_seq <|
    zB (Z [p 3 (R 3),p 5 (I (↑a1.2.1.length:Int)),p 9 (I (v5+1))] [(3,K 43 y43 a1)]) H fun H =>
    b5 H
  exact vx_exit<|fx_seq_exit<|e5<|fx_blk_exit rfl<|n4 H
 refine qA (Z [p 2 (R 2),p 3 (R 3),p 5 (I (↑a1.2.1.length:Int)),p 6 (I 0)] [(3,K 43 y43 a1),(2,Ob.box 39 [L y134 a0])]) <|
  vx_block <|
  lX (fun (v2:Int)=>Z [p 2 (R 2),p 3 (R 3),p 5 (I (↑a1.2.1.length:Int)),p 6 (I v2)] [(3,K 43 y43 a1),(2,Ob.box 39 [L y134 a0])]) 0 H fun _ g1 b1 e1 t1 v2 H =>
  vx_seq <|
  qA (Z [p 2 (R 2),p 3 (R 3),p 5 (I (↑a1.2.1.length:Int)),p 6 (I v2),p 17 (B (decide (v2 < (↑a1.1.length:Int))))] [(3,K 43 y43 a1),(2,Ob.box 39 [L y134 a0])]) <|
  cD H (fun H=>?_) (fun H=>?_)
 ·refine vx_skip<|fx_seq <|
   jN r (fun (_:Unit)=>Z [p 2 (R 2),p 3 (R 3),p 5 (I (↑a1.2.1.length:Int)),p 6 (I v2)] [(3,K 43 y43 a1),(2,Ob.box 39 [L y134 a0])]) (u129J2 v2 g1) (fun _ H=>?_) (fun _ n2 e2 t2=>?_)
  ·refine zB (Z [p 2 (R 2),p 3 (R 3),p 5 (I (↑a1.2.1.length:Int)),p 6 (I (v2+1))] [(3,K 43 y43 a1),(2,Ob.box 39 [L y134 a0])]) H fun H =>
    b1 H
  refine vx_block <|
   qD (fun v3=>Z [p 2 (R 2),p 3 (R 3),p 5 (I (↑a1.2.1.length:Int)),p 6 (I v2),p 7 (R 7)] [(7,K 136 y136 v3),(3,K 43 y43 a1),(2,Ob.box 39 [L y134 a0])]) H fun v3 H =>
   vx_seq <|
   qB (Z [p 2 (R 2),p 3 (R 3),p 5 (I (↑a1.2.1.length:Int)),p 6 (I v2),p 7 (R 7),p 46 (B (!vl (u69 v3.2.1 0 ((↑a0.length:Int) - 1))||(↑v3.2.2.length:Int) != (↑(a0.getD v3.2.1.toNat (dflt y134)).2.2.1.length:Int)))] [(7,K 136 y136 v3),(3,K 43 y43 a1),(2,Ob.box 39 [L y134 a0])]) H fun H =>
   cD H (fun H=>?_) (fun H=>?_)
  ·refine qA (Z [p 4 (B false)] [(7,K 136 y136 v3),(3,K 43 y43 a1),(2,Ob.box 39 [L y134 a0])]) <|
    vx_ret<|fx_seq_ret<|fx_blk_ret<|t2<|t1<|fx_blk_ret<|t0<|hr H
  refine vx_skip<|fx_seq <|
   qA (Z [p 2 (R 2),p 3 (R 3),p 5 (I (↑a1.2.1.length:Int)),p 6 (I v2),p 7 (R 7),p 8 (I 0)] [(7,K 136 y136 v3),(3,K 43 y43 a1),(2,Ob.box 39 [L y134 a0])]) <|
   vx_block <|
   lX (fun (v4:Int)=>Z [p 2 (R 2),p 3 (R 3),p 5 (I (↑a1.2.1.length:Int)),p 6 (I v2),p 7 (R 7),p 8 (I v4)] [(7,K 136 y136 v3),(3,K 43 y43 a1),(2,Ob.box 39 [L y134 a0])]) 0 H fun _ g3 b3 e3 t3 v4 H =>
   vx_seq <|
   qA (Z [p 2 (R 2),p 3 (R 3),p 5 (I (↑a1.2.1.length:Int)),p 6 (I v2),p 7 (R 7),p 8 (I v4),p 51 (B (decide (v4 < (↑v3.2.2.length:Int))))] [(7,K 136 y136 v3),(3,K 43 y43 a1),(2,Ob.box 39 [L y134 a0])]) <|
   cD H (fun H=>?_) (fun H=>?_)
  ·refine vx_skip<|fx_seq<|vx_seq<|vx_block <|
    qB (Z [p 2 (R 2),p 3 (R 3),p 5 (I (↑a1.2.1.length:Int)),p 6 (I v2),p 7 (R 7),p 8 (I v4),p 62 (B !vl (u69 (v3.2.2.getD v4.toNat 0) 0 ((↑a1.2.1.length:Int) - 1)))] [(7,K 136 y136 v3),(3,K 43 y43 a1),(2,Ob.box 39 [L y134 a0])]) H fun H =>
    cD H (fun H=>?_) (fun H=>?_)
   ·refine qA (Z [p 4 (B false)] [(7,K 136 y136 v3),(3,K 43 y43 a1),(2,Ob.box 39 [L y134 a0])]) <|
     vx_ret<|fx_blk_ret<|fx_seq_ret<|t3<|fx_blk_ret<|fx_blk_ret<|t2<|t1<|fx_blk_ret<|t0<|hr H
   refine vx_skip<|fx_blk<|fx_seq <|
    zB (Z [p 2 (R 2),p 3 (R 3),p 5 (I (↑a1.2.1.length:Int)),p 6 (I v2),p 7 (R 7),p 8 (I (v4+1))] [(7,K 136 y136 v3),(3,K 43 y43 a1),(2,Ob.box 39 [L y134 a0])]) H fun H =>
    b3 H
  exact vx_exit<|fx_seq_exit<|e3<|fx_blk_exit rfl<|fx_blk<|n2 H
 exact vx_exit<|fx_seq_exit<|e1<|fx_blk_exit rfl<|n0 H
def u171J0:List Int→Option (List Int)
 | v4 =>
 some v4
def u171L1 (a0:Y134) (g1:Int×List Int→Option (List Int)):Int×List Int→Option (List Int)
 | (v1,v2) =>
 if (decide (v1 < (↑a0.2.2.2.1.length:Int)))=true then
  gd (ix v1 a0.2.2.2.1.length∧ix (a0.2.2.2.1.getD v1.toNat (dflt y139)).1 v2.length∧(a0.2.2.2.1.getD v1.toNat (dflt y139)).1.toNat < v2.length∧in64 (v2.getD (a0.2.2.2.1.getD v1.toNat (dflt y139)).1.toNat 0+1)∧ix (a0.2.2.2.1.getD v1.toNat (dflt y139)).1 v2.length∧(a0.2.2.2.1.getD v1.toNat (dflt y139)).1.toNat < v2.length∧True)<|lt (v2.set (a0.2.2.2.1.getD v1.toNat (dflt y139)).1.toNat (v2.getD (a0.2.2.2.1.getD v1.toNat (dflt y139)).1.toNat 0+1)) fun v3 =>
  gd (in64 (v1+1)∧True) <|
  g1 (v1+1,v3)
 else
  u171J0 v2
def u171 (a0:Y134):Option (List Int) :=
 gd (((0:Int)≤(6:Int)∧(6:Int)=(6:Int)∧Int.toNat (6:Int)*8≤281474976710656∧(6:Int)≤(9223372036854775807:Int))∧True) <|
 lp (u171L1 a0) ((0,List.replicate (Int.toNat (6:Int)) (0:Int)))
def k171:Ct:=lct 171 [.agg y134] (fun x=>u171 x.1) (fun r:List Int=>AV.ow 2 true i64 r) (fun _=>())
theorem o171:Ok Tryz.prog k171:=by
 refine okL [.tmp 2] Tryz.func171 Tryz.ntmps171 Tryz.results171 ?_
 intro y ⟨a0,_⟩ r H Q hn hr
 have:HT _ _:=⟨@tn Tryz.prog⟩
 refine qA (Z [p 1 (R 1)] [(1,K 134 y134 a0)]) <|
  qB (Z [p 1 (R 1),p 3 (O 5)] [(5,A 2 i64 (List.replicate (Int.toNat (6:Int)) (0:Int)) 0),(1,K 134 y134 a0)]) H fun H =>
  jN r (fun (v4:List Int)=>Z [p 3 (O 5)] [(5,A 2 i64 v4 0)]) (u171J0) (fun v4 H=>?_) (fun _ n0 e0 t0=>?_)
 ·refine qA (Z [p 2 (O 5)] [(5,A 2 i64 v4 0)]) <|
   vx_ret<|hr H
 refine qA (Z [p 1 (R 1),p 3 (O 5),p 4 (I (0:Int))] [(5,A 2 i64 (List.replicate (Int.toNat (6:Int)) (0:Int)) 0),(1,K 134 y134 a0)]) <|
  vx_block <|
  lX (fun ((v1,v2):Int×List Int)=>Z [p 1 (R 1),p 3 (O 5),p 4 (I v1)] [(5,A 2 i64 v2 0),(1,K 134 y134 a0)]) ((0,List.replicate (Int.toNat (6:Int)) (0:Int))) H fun _ g1 b1 e1 t1 ⟨v1,v2⟩ H =>
  vx_seq <|
  qA (Z [p 1 (R 1),p 3 (O 5),p 4 (I v1),p 10 (B (decide (v1 < (↑a0.2.2.2.1.length:Int))))] [(5,A 2 i64 v2 0),(1,K 134 y134 a0)]) <|
  cD H (fun H=>?_) (fun H=>?_)
 ·refine vx_skip<|fx_seq<|vx_seq<|vx_block <|
   zD (fun v3=>Z [p 1 (R 1),p 3 (O 5),p 4 (I v1)] [(5,A 2 i64 v3 0),(1,K 134 y134 a0)]) H fun v3 H =>
   fx_blk<|fx_seq <|
   zB (Z [p 1 (R 1),p 3 (O 5),p 4 (I (v1+1))] [(5,A 2 i64 v3 0),(1,K 134 y134 a0)]) H fun H =>
   b1 H
 exact vx_exit<|fx_seq_exit<|e1<|fx_blk_exit rfl<|n0 H
def u221J0 (a0:List Int):Unit→Option (Bool)
 | _ =>
 some (decide (1≤(↑a0.length:Int))&&decide ((↑a0.length:Int)≤4))
def u221L1 (a0:List Int) (g1:Int→Option (Bool)):Int→Option (Bool)
 | v0 =>
 if (decide (v0 < (↑a0.length:Int)))=true then
  gd (ix v0 a0.length∧(u69 (a0.getD v0.toNat 0) 0 100000).isSome=true∧(decide (0 < v0)=true∧(!vl (u69 (a0.getD v0.toNat 0) 0 100000))=false∧True→in64 (v0 - 1))∧(decide (0 < v0)=true∧(!vl (u69 (a0.getD v0.toNat 0) 0 100000))=false∧True→ix (v0 - 1) a0.length)∧(decide (0 < v0)=true∧(!vl (u69 (a0.getD v0.toNat 0) 0 100000))=false∧True→ix v0 a0.length)∧True) <|
  if (!vl (u69 (a0.getD v0.toNat 0) 0 100000)||decide (0 < v0)&&decide (a0.getD v0.toNat 0≤a0.getD (v0 - 1).toNat 0))=true then
   some false
  else
   gd (in64 (v0+1)∧True) <|
   g1 (v0+1)
 else
  u221J0 a0 ()
def u221 (a0:List Int):Option (Bool) :=
 lp (u221L1 a0) 0
def k221:Ct:=lct 221 [.dat i64.sl] (fun x=>u221 x.1) (fun r:Bool=>B r) (fun _=>())
theorem o221:Ok Tryz.prog k221:=by
 refine okL [.tmp 2] Tryz.func221 Tryz.ntmps221 Tryz.results221 ?_
 intro y ⟨a0,_⟩ r H Q hn hr
 have:HT _ _:=⟨tc o69 tn⟩
 refine qA (Z [p 0 (L i64 a0)] []) <|
  jN r (fun (_:Unit)=>Z [p 0 (L i64 a0)] []) (u221J0 a0) (fun _ H=>?_) (fun _ n0 e0 t0=>?_)
 ·refine qA (Z [p 2 (B (decide (1≤(↑a0.length:Int))&&decide ((↑a0.length:Int)≤4)))] []) <|
   vx_ret<|hr H
 refine qA (Z [p 0 (L i64 a0),p 3 (I 0)] []) <|
  vx_block <|
  lX (fun (v0:Int)=>Z [p 0 (L i64 a0),p 3 (I v0)] []) 0 H fun _ g1 b1 e1 t1 v0 H =>
  vx_seq <|
  qA (Z [p 0 (L i64 a0),p 3 (I v0),p 7 (B (decide (v0 < (↑a0.length:Int))))] []) <|
  cD H (fun H=>?_) (fun H=>?_)
 ·refine vx_skip<|fx_seq<|vx_seq<|vx_block <|
   qB (Z [p 0 (L i64 a0),p 3 (I v0),p 31 (B (!vl (u69 (a0.getD v0.toNat 0) 0 100000)||decide (0 < v0)&&decide (a0.getD v0.toNat 0≤a0.getD (v0 - 1).toNat 0)))] []) H fun H =>
   cD H (fun H=>?_) (fun H=>?_)
  ·refine qA (Z [p 2 (B false)] []) <|
    vx_ret<|fx_blk_ret<|fx_seq_ret<|t1<|fx_blk_ret<|t0<|hr H
  refine vx_skip<|fx_blk<|fx_seq <|
   zB (Z [p 0 (L i64 a0),p 3 (I (v0+1))] []) H fun H =>
   b1 H
 exact vx_exit<|fx_seq_exit<|e1<|fx_blk_exit rfl<|n0 H
def u209J0:Unit→Option (Bool)
 | _ =>
 some true
def u209L1 (a0:Y223) (g1:Int→Option (Bool)):Int→Option (Bool)
 | v0 =>
 if (decide (v0 < (↑a0.2.2.length:Int)))=true then
  gd (ix v0 a0.2.2.length∧(u69 (a0.2.2.getD v0.toNat 0) (-1000000) 1000000).isSome=true∧True) <|
  if (!vl (u69 (a0.2.2.getD v0.toNat 0) (-1000000) 1000000))=true then
   some false
  else
   gd (in64 (v0+1)∧True) <|
   g1 (v0+1)
 else
  u209J0 ()
def u209 (a0:Y223):Option (Bool) :=
 gd ((u221 a0.1).isSome=true∧((!vl (u221 a0.1))=false∧True→(u221 a0.2.1).isSome=true)∧((!vl (u221 a0.1)||!vl (u221 a0.2.1))=false∧True→in64 ((↑a0.1.length:Int)*(↑a0.2.1.length:Int)))∧True) <|
 if (!vl (u221 a0.1)||!vl (u221 a0.2.1)||(↑a0.2.2.length:Int) != (↑a0.1.length:Int)*(↑a0.2.1.length:Int))=true then
  some false
 else
  lp (u209L1 a0) 0
def k209:Ct:=lct 209 [.agg y223] (fun x=>u209 x.1) (fun r:Bool=>B r) (fun _=>())
theorem o209:Ok Tryz.prog k209:=by
 refine okL [.tmp 2] Tryz.func209 Tryz.ntmps209 Tryz.results209 ?_
 intro y ⟨a0,_⟩ r H Q hn hr
 have:HT _ _:=⟨tc o69 (tc o221 tn)⟩
 refine qA (Z [p 1 (R 1)] [(1,K 223 y223 a0)]) <|
  vx_seq <|
  qB (Z [p 1 (R 1),p 26 (B (!vl (u221 a0.1)||!vl (u221 a0.2.1)||(↑a0.2.2.length:Int) != (↑a0.1.length:Int)*(↑a0.2.1.length:Int)))] [(1,K 223 y223 a0)]) H fun H =>
  cD H (fun H=>?_) (fun H=>?_)
 ·refine qA (Z [p 2 (B false)] [(1,K 223 y223 a0)]) <|
   vx_ret<|fx_seq_ret<|hr H
 refine vx_skip<|fx_seq <|
  jN r (fun (_:Unit)=>Z [] []) (u209J0) (fun _ H=>?_) (fun _ n0 e0 t0=>?_)
 ·refine qA (Z [p 2 (B true)] []) <|
   vx_ret<|hr H
 refine qA (Z [p 1 (R 1),p 3 (I 0)] [(1,K 223 y223 a0)]) <|
  vx_block <|
  lX (fun (v0:Int)=>Z [p 1 (R 1),p 3 (I v0)] [(1,K 223 y223 a0)]) 0 H fun _ g1 b1 e1 t1 v0 H =>
  vx_seq <|
  qA (Z [p 1 (R 1),p 3 (I v0),p 31 (B (decide (v0 < (↑a0.2.2.length:Int))))] [(1,K 223 y223 a0)]) <|
  cD H (fun H=>?_) (fun H=>?_)
 ·refine vx_skip<|fx_seq<|vx_seq<|vx_block <|
   qB (Z [p 1 (R 1),p 3 (I v0),p 40 (B !vl (u69 (a0.2.2.getD v0.toNat 0) (-1000000) 1000000))] [(1,K 223 y223 a0)]) H fun H =>
   cD H (fun H=>?_) (fun H=>?_)
  ·refine qA (Z [p 2 (B false)] [(1,K 223 y223 a0)]) <|
    vx_ret<|fx_blk_ret<|fx_seq_ret<|t1<|fx_blk_ret<|t0<|hr H
  refine vx_skip<|fx_blk<|fx_seq <|
   zB (Z [p 1 (R 1),p 3 (I (v0+1))] [(1,K 223 y223 a0)]) H fun H =>
   b1 H
 exact vx_exit<|fx_seq_exit<|e1<|fx_blk_exit rfl<|n0 H
def u194J0:Int×Int→Option (Y247×Int)
 | (v5,v6) =>
 some (((v5,v6),(0:Int)))
def u194L1 (a0:Y223) (g1:Int×Int×Int→Option (Y247×Int)):Int×Int×Int→Option (Y247×Int)
 | (v2,v3,v4) =>
 if (decide (v2 < (↑a0.2.2.length:Int)))=true then
  gd (ix v2 a0.2.2.length∧True) <|
  gd (ix v2 a0.2.2.length∧True) <|
  gd (in64 (v2+1)∧True) <|
  g1 ((v2+1,min v3 (a0.2.2.getD v2.toNat 0),max v4 (a0.2.2.getD v2.toNat 0)))
 else
  u194J0 (v3,v4)
def u194 (a0:Y223):Option (Y247×Int) :=
 gd ((u209 a0).isSome=true∧True) <|
 if (!vl (u209 a0))=true then
  some ((((0:Int),(0:Int)),(1:Int)))
 else
  gd (ix 0 a0.2.2.length∧ix 0 a0.2.2.length∧True) <|
  lp (u194L1 a0) ((1,a0.2.2.getD (Int.toNat (0:Int)) (0:Int),a0.2.2.getD (Int.toNat (0:Int)) (0:Int)))
def k194:Ct:=lct 194 [.agg y223] (fun x=>u194 x.1) (fun r:Y247×Int=>AV.tup [AV.agg [I r.1.1,I r.1.2],I r.2]) (fun _=>())
theorem o194:Ok Tryz.prog k194:=by
 refine okL [.cell 2 247,.tmp 3] Tryz.func194 Tryz.ntmps194 Tryz.results194 ?_
 intro y ⟨a0,_⟩ r H Q hn hr
 have:HT _ _:=⟨tc o209 tn⟩
 refine qA (Z [p 1 (R 1),p 2 (R 2)] [(2,Ob.box 247 [I 0,I 0]),(1,K 223 y223 a0)]) <|
  vx_seq <|
  qB (Z [p 1 (R 1),p 2 (R 2),p 8 (B !vl (u209 a0))] [(2,Ob.box 247 [I 0,I 0]),(1,K 223 y223 a0)]) H fun H =>
  cD H (fun H=>?_) (fun H=>?_)
 ·refine qA (Z [p 2 (R 2),p 3 (I 1)] [(2,Ob.box 247 [I 0,I 0]),(1,K 223 y223 a0)]) <|
   vx_ret<|fx_seq_ret<|hr H
 refine vx_skip<|fx_seq <|
  qB (Z [p 1 (R 1),p 2 (R 2),p 4 (R 4)] [(4,Ob.box 247 [J (a0.2.2.getD (Int.toNat (0:Int)) (0:Int)),J (a0.2.2.getD (Int.toNat (0:Int)) (0:Int))]),(2,Ob.box 247 [I (0:Int),I (0:Int)]),(1,K 223 y223 a0)]) H fun H =>
  jN r (fun ((v5,v6):Int×Int)=>Z [p 2 (R 2),p 4 (R 4)] [(4,Ob.box 247 [J v5,J v6]),(2,Ob.box 247 [I 0,I 0])]) (u194J0) (fun ⟨v5,v6⟩ H=>?_) (fun _ n0 e0 t0=>?_)
 ·refine qA (Z [p 2 (R 2),p 3 (I 0)] [(2,Ob.box 247 [J v5,J v6]),(4,Ob.box 247 [J v5,J v6])]) <|
   vx_ret<|hr H
 refine qA (Z [p 1 (R 1),p 2 (R 2),p 4 (R 4),p 5 (I (1:Int))] [(4,Ob.box 247 [J (a0.2.2.getD (Int.toNat (0:Int)) (0:Int)),J (a0.2.2.getD (Int.toNat (0:Int)) (0:Int))]),(2,Ob.box 247 [I (0:Int),I (0:Int)]),(1,K 223 y223 a0)]) <|
  vx_block <|
  lX (fun ((v2,v3,v4):Int×Int×Int)=>Z [p 1 (R 1),p 2 (R 2),p 4 (R 4),p 5 (I v2)] [(4,Ob.box 247 [J v3,J v4]),(2,Ob.box 247 [I 0,I 0]),(1,K 223 y223 a0)]) ((1,a0.2.2.getD (Int.toNat (0:Int)) (0:Int),a0.2.2.getD (Int.toNat (0:Int)) (0:Int))) H fun _ g1 b1 e1 t1 ⟨v2,v3,v4⟩ H =>
  vx_seq <|
  qA (Z [p 1 (R 1),p 2 (R 2),p 4 (R 4),p 5 (I v2),p 23 (B (decide (v2 < (↑a0.2.2.length:Int))))] [(4,Ob.box 247 [J v3,J v4]),(2,Ob.box 247 [I 0,I 0]),(1,K 223 y223 a0)]) <|
  cD H (fun H=>?_) (fun H=>?_)
 ·refine vx_skip<|fx_seq<|vx_seq<|vx_block <|
   qB (Z [p 1 (R 1),p 2 (R 2),p 4 (R 4),p 5 (I v2)] [(4,Ob.box 247 [I (min v3 (a0.2.2.getD v2.toNat 0)),J v4]),(2,Ob.box 247 [I 0,I 0]),(1,K 223 y223 a0)]) H fun H =>
   zB (Z [p 1 (R 1),p 2 (R 2),p 4 (R 4),p 5 (I v2)] [(4,Ob.box 247 [I (min v3 (a0.2.2.getD v2.toNat 0)),I (max v4 (a0.2.2.getD v2.toNat 0))]),(2,Ob.box 247 [I 0,I 0]),(1,K 223 y223 a0)]) H fun H =>
   fx_blk<|fx_seq <|
   zB (Z [p 1 (R 1),p 2 (R 2),p 4 (R 4),p 5 (I (v2+1))] [(4,Ob.box 247 [I (min v3 (a0.2.2.getD v2.toNat 0)),I (max v4 (a0.2.2.getD v2.toNat 0))]),(2,Ob.box 247 [I 0,I 0]),(1,K 223 y223 a0)]) H fun H =>
   b1 H
 exact vx_exit<|fx_seq_exit<|e1<|fx_blk_exit rfl<|n0 H
def u181J0:Unit→Option (Bool)
 | _ =>
 some true
def u181L1 (a1:Bool) (a0:List Y223) (g1:Int→Option (Bool)):Int→Option (Bool)
 | v1 =>
 if (decide (v1 < 2))=true then
  gd (ix v1 a0.length∧(u194 (a0.getD v1.toNat (dflt y223))).isSome=true∧True)<|lt (vl (u194 (a0.getD v1.toNat (dflt y223)))) fun v2 =>
  if (v2.2 != 0||a1&&decide (v2.1.1 < 0))=true then
   some false
  else
   gd (in64 (v1+1)∧True) <|
   g1 (v1+1)
 else
  u181J0 ()
def u181 (a0:List Y223) (a1:Bool):Option (Bool) :=
 if ((↑a0.length:Int) != 2)=true then
  some false
 else
  lp (u181L1 a1 a0) 0
def k181:Ct:=lct 181 [.dat y223.sl,.dat Ty.bool] (fun x=>u181 x.1 x.2.1) (fun r:Bool=>B r) (fun _=>())
theorem o181:Ok Tryz.prog k181:=by
 refine okL [.tmp 4] Tryz.func181 Tryz.ntmps181 Tryz.results181 ?_
 intro y ⟨a0,a1,_⟩ r H Q hn hr
 have:HT _ _:=⟨tc o194 tn⟩
 refine qA (Z [p 0 (L y223 a0),p 1 (C a1)] []) <|
  vx_seq <|
  qA (Z [p 0 (L y223 a0),p 1 (C a1),p 10 (B ((↑a0.length:Int) != 2))] []) <|
  cD H (fun H=>?_) (fun H=>?_)
 ·refine qA (Z [p 4 (B false)] []) <|
   vx_ret<|fx_seq_ret<|hr H
 refine vx_skip<|fx_seq <|
  jN r (fun (_:Unit)=>Z [] []) (u181J0) (fun _ H=>?_) (fun _ n0 e0 t0=>?_)
 ·refine qA (Z [p 4 (B true)] []) <|
   vx_ret<|hr H
 refine qA (Z [p 0 (L y223 a0),p 1 (C a1),p 5 (I 0)] []) <|
  vx_block <|
  lX (fun (v1:Int)=>Z [p 0 (L y223 a0),p 1 (C a1),p 5 (I v1)] []) 0 H fun _ g1 b1 e1 t1 v1 H =>
  vx_seq <|
  qA (Z [p 0 (L y223 a0),p 1 (C a1),p 5 (I v1),p 12 (B (decide (v1 < 2)))] []) <|
  cD H (fun H=>?_) (fun H=>?_)
 ·refine vx_skip<|fx_seq<|vx_seq<|vx_block <|
   qD (fun v2=>Z [p 0 (L y223 a0),p 1 (C a1),p 5 (I v1),p 6 (R 6),p 7 (I v2.2)] [(6,Ob.box 247 (cellsD true y247 v2.1))]) H fun v2 H =>
   qA (Z [p 0 (L y223 a0),p 1 (C a1),p 5 (I v1),p 32 (B (v2.2 != 0||a1&&decide (v2.1.1 < 0)))] [(6,Ob.box 247 (cellsD true y247 v2.1))]) <|
   cD H (fun H=>?_) (fun H=>?_)
  ·refine qA (Z [p 4 (B false)] [(6,Ob.box 247 (cellsD true y247 v2.1))]) <|
    vx_ret<|fx_blk_ret<|fx_seq_ret<|t1<|fx_blk_ret<|t0<|hr H
  refine vx_skip<|fx_blk<|fx_seq <|
   zB (Z [p 0 (L y223 a0),p 1 (C a1),p 5 (I (v1+1))] [(6,Ob.box 247 (cellsD true y247 v2.1))]) H fun H =>
   b1 H
 exact vx_exit<|fx_seq_exit<|e1<|fx_blk_exit rfl<|n0 H
def u170J1 (v0:Y205) (a1:Y139) (a0:Y134):Bool→Option (Bool)
 | v2 =>
 if v2=true then
  gd (((v0.2.2.2&&decide (a1.2.2.1 < (↑a0.2.2.1.length:Int) - 1))=true∧True→ix a1.2.2.1 a0.2.2.1.length)∧((v0.2.2.2&&decide (a1.2.2.1 < (↑a0.2.2.1.length:Int) - 1)&&!(a0.2.2.1.getD a1.2.2.1.toNat (dflt y205)).2.2.2&&a1.2.2.2.1==0)=true∧True→(u181 a1.2.2.2.2.1 false).isSome=true)∧True) <|
  some (v0.2.2.2&&decide (a1.2.2.1 < (↑a0.2.2.1.length:Int) - 1)&&!(a0.2.2.1.getD a1.2.2.1.toNat (dflt y205)).2.2.2&&a1.2.2.2.1==0&&vl (u181 a1.2.2.2.2.1 false)&&(↑a1.2.2.2.2.2.length:Int)==0)
 else
  some false
def u170J0 (v0:Y205) (a1:Y139) (a0:Y134):Bool→Option (Bool)
 | v1 =>
 if v1=true then
  gd (((v0.2.2.2&&a1.2.2.1==(↑a0.2.2.1.length:Int) - 1&&a1.2.2.2.1==0)=true∧True→(u181 a1.2.2.2.2.1 true).isSome=true)∧((v0.2.2.2&&a1.2.2.1==(↑a0.2.2.1.length:Int) - 1&&a1.2.2.2.1==0&&vl (u181 a1.2.2.2.2.1 true))=true∧True→(u181 a1.2.2.2.2.2 true).isSome=true)∧True) <|
  some (v0.2.2.2&&a1.2.2.1==(↑a0.2.2.1.length:Int) - 1&&a1.2.2.2.1==0&&vl (u181 a1.2.2.2.2.1 true)&&vl (u181 a1.2.2.2.2.2 true))
 else
  if (a1.1==4)=true then
   u170J1 v0 a1 a0 (a1.1==4)
  else
   u170J1 v0 a1 a0 (a1.1==5)
def u170 (a0:Y134) (a1:Y139):Option (Bool) :=
 gd (in64 ((↑a0.2.2.1.length:Int) - 1)∧True) <|
 gd (in64 ((↑a0.2.2.1.length:Int) - 1 - 1)∧(u69 a1.2.1 0 ((↑a0.2.2.1.length:Int) - 1 - 1)).isSome=true∧((!vl (u69 a1.2.1 0 ((↑a0.2.2.1.length:Int) - 1 - 1)))=false∧True→(u69 a1.2.2.1 0 ((↑a0.2.2.1.length:Int) - 1)).isSome=true)∧True) <|
 if (!vl (u69 a1.2.1 0 ((↑a0.2.2.1.length:Int) - 1 - 1))||!vl (u69 a1.2.2.1 0 ((↑a0.2.2.1.length:Int) - 1)))=true then
  some false
 else
  gd (ix a1.2.1 a0.2.2.1.length∧True)<|lt (a0.2.2.1.getD a1.2.1.toNat (dflt y205)) fun v0 =>
  if (a1.1==1)=true then
   gd (((!v0.2.2.2&&a1.2.2.1==(↑a0.2.2.1.length:Int) - 1)=true∧True→(u69 a1.2.2.2.1 1 3).isSome=true)∧((!v0.2.2.2&&a1.2.2.1==(↑a0.2.2.1.length:Int) - 1&&vl (u69 a1.2.2.2.1 1 3))=true∧True→(u181 a1.2.2.2.2.1 true).isSome=true)∧((!v0.2.2.2&&a1.2.2.1==(↑a0.2.2.1.length:Int) - 1&&vl (u69 a1.2.2.2.1 1 3)&&vl (u181 a1.2.2.2.2.1 true))=true∧True→(u181 a1.2.2.2.2.2 true).isSome=true)∧True) <|
   some (!v0.2.2.2&&a1.2.2.1==(↑a0.2.2.1.length:Int) - 1&&vl (u69 a1.2.2.2.1 1 3)&&vl (u181 a1.2.2.2.2.1 true)&&vl (u181 a1.2.2.2.2.2 true))
  else
   if (a1.1==2)=true then
    u170J0 v0 a1 a0 (a1.1==2)
   else
    u170J0 v0 a1 a0 (a1.1==3)
def k170:Ct:=lct 170 [.agg y134,.agg y139] (fun x=>u170 x.1 x.2.1) (fun r:Bool=>B r) (fun _=>())
theorem o170:Ok Tryz.prog k170:=by
 refine okL [.tmp 4] Tryz.func170 Tryz.ntmps170 Tryz.results170 ?_
 intro y ⟨a0,a1,_⟩ r H Q hn hr
 have:HT _ _:=⟨tc o181 (tc o69 tn)⟩
 refine qA (Z [p 2 (R 2),p 3 (R 3)] [(3,K 139 y139 a1),(2,K 134 y134 a0)]) <|
  qB (Z [p 2 (R 2),p 3 (R 3),p 5 (I ((↑a0.2.2.1.length:Int) - 1))] [(3,K 139 y139 a1),(2,K 134 y134 a0)]) H fun H =>
  vx_seq <|
  qB (Z [p 2 (R 2),p 3 (R 3),p 5 (I ((↑a0.2.2.1.length:Int) - 1)),p 23 (B (!vl (u69 a1.2.1 0 ((↑a0.2.2.1.length:Int) - 1 - 1))||!vl (u69 a1.2.2.1 0 ((↑a0.2.2.1.length:Int) - 1))))] [(3,K 139 y139 a1),(2,K 134 y134 a0)]) H fun H =>
  cD H (fun H=>?_) (fun H=>?_)
 ·refine qA (Z [p 4 (B false)] [(3,K 139 y139 a1),(2,K 134 y134 a0)]) <|
   vx_ret<|fx_seq_ret<|hr H
 refine vx_skip<|fx_seq <|
  qD (fun v0=>Z [p 2 (R 2),p 3 (R 3),p 5 (I ((↑a0.2.2.1.length:Int) - 1)),p 6 (C v0.2.2.2)] [(3,K 139 y139 a1),(2,K 134 y134 a0)]) H fun v0 H =>
  vx_seq <|
  qA (Z [p 2 (R 2),p 3 (R 3),p 5 (I ((↑a0.2.2.1.length:Int) - 1)),p 6 (C v0.2.2.2),p 32 (J a1.1)] [(3,K 139 y139 a1),(2,K 134 y134 a0)]) <|
  vx_block <|
  qA (Z [p 2 (R 2),p 3 (R 3),p 5 (I ((↑a0.2.2.1.length:Int) - 1)),p 6 (C v0.2.2.2),p 32 (J a1.1),p 33 (B (a1.1==1))] [(3,K 139 y139 a1),(2,K 134 y134 a0)]) <|
  cD H (fun H=>?_) (fun H=>?_)
 ·refine qB (Z [p 4 (B (!v0.2.2.2&&a1.2.2.1==(↑a0.2.2.1.length:Int) - 1&&vl (u69 a1.2.2.2.1 1 3)&&vl (u181 a1.2.2.2.2.1 true)&&vl (u181 a1.2.2.2.2.2 true)))] [(3,K 139 y139 a1),(2,K 134 y134 a0)]) H fun H =>
   vx_ret<|fx_blk_ret<|fx_seq_ret<|hr H
 refine jN r (fun (v1:Bool)=>Z [p 2 (R 2),p 3 (R 3),p 5 (I ((↑a0.2.2.1.length:Int) - 1)),p 6 (C v0.2.2.2),p 32 (J a1.1),p 58 (B v1)] [(3,K 139 y139 a1),(2,K 134 y134 a0)]) (u170J0 v0 a1 a0) (fun v1 H=>?_) (fun _ n0 e0 t0=>?_)
 ·refine cD H (fun H=>?_) (fun H=>?_)
  ·refine qB (Z [p 4 (B (v0.2.2.2&&a1.2.2.1==(↑a0.2.2.1.length:Int) - 1&&a1.2.2.2.1==0&&vl (u181 a1.2.2.2.2.1 true)&&vl (u181 a1.2.2.2.2.2 true)))] [(3,K 139 y139 a1),(2,K 134 y134 a0)]) H fun H =>
    vx_ret<|fx_blk_ret<|fx_seq_ret<|hr H
  refine jN r (fun (v2:Bool)=>Z [p 2 (R 2),p 3 (R 3),p 5 (I ((↑a0.2.2.1.length:Int) - 1)),p 6 (C v0.2.2.2),p 83 (B v2)] [(3,K 139 y139 a1),(2,K 134 y134 a0)]) (u170J1 v0 a1 a0) (fun v2 H=>?_) (fun _ n1 e1 t1=>?_)
  ·refine cD H (fun H=>?_) (fun H=>?_)
   ·refine qB (Z [p 4 (B (v0.2.2.2&&decide (a1.2.2.1 < (↑a0.2.2.1.length:Int) - 1)&&!(a0.2.2.1.getD a1.2.2.1.toNat (dflt y205)).2.2.2&&a1.2.2.2.1==0&&vl (u181 a1.2.2.2.2.1 false)&&(↑a1.2.2.2.2.2.length:Int)==0))] [(3,K 139 y139 a1),(2,K 134 y134 a0)]) H fun H =>
     vx_ret<|fx_blk_ret<|fx_seq_ret<|hr H
   refine vx_skip<|fx_blk<|fx_seq <|
    qA (Z [p 4 (B false)] [(3,K 139 y139 a1),(2,K 134 y134 a0)]) <|
    vx_ret<|hr H
  refine qA (Z [p 2 (R 2),p 3 (R 3),p 5 (I ((↑a0.2.2.1.length:Int) - 1)),p 6 (C v0.2.2.2),p 32 (J a1.1),p 83 (B (a1.1==4))] [(3,K 139 y139 a1),(2,K 134 y134 a0)]) <|
   cD H (fun H=>?_) (fun H=>?_)
  ·exact vx_skip<|n1 H
  refine zA (Z [p 2 (R 2),p 3 (R 3),p 5 (I ((↑a0.2.2.1.length:Int) - 1)),p 6 (C v0.2.2.2),p 83 (B (a1.1==5))] [(3,K 139 y139 a1),(2,K 134 y134 a0)]) <|
   n1 H
 refine qA (Z [p 2 (R 2),p 3 (R 3),p 5 (I ((↑a0.2.2.1.length:Int) - 1)),p 6 (C v0.2.2.2),p 32 (J a1.1),p 58 (B (a1.1==2))] [(3,K 139 y139 a1),(2,K 134 y134 a0)]) <|
  cD H (fun H=>?_) (fun H=>?_)
 ·exact vx_skip<|n0 H
 refine zA (Z [p 2 (R 2),p 3 (R 3),p 5 (I ((↑a0.2.2.1.length:Int) - 1)),p 6 (C v0.2.2.2),p 32 (J a1.1),p 58 (B (a1.1==3))] [(3,K 139 y139 a1),(2,K 134 y134 a0)]) <|
  n0 H
def u169J0:Int→Option (Int×Bool)
 | v8 =>
 some (v8,true)
def u169J2 (v4:Int) (g1:Int×Int→Option (Int×Bool)):Int→Option (Int×Bool)
 | v7 =>
 gd (in64 (v4+1)∧True) <|
 g1 (v7,v4+1)
def u169J3 (v4:Int) (v3:Int) (v5:Y205) (a0:Y134) (g1:Int×Int→Option (Int×Bool)):Unit→Option (Int×Bool)
 | _ =>
 gd ((u155 v5.1).isSome=true∧((!vl (u155 v5.1))=false∧True→(u69 v5.2.2.1 0 500).isSome=true)∧True) <|
 if (!vl (u155 v5.1)||!vl (u69 v5.2.2.1 0 500))=true then
  some (((0:Int),false))
 else
  gd (in64 ((↑a0.2.2.1.length:Int) - 1)∧((v4==(↑a0.2.2.1.length:Int) - 1&&(v5.2.1 != 2||v5.2.2.1 != 0||v5.2.2.2))=false∧True→in64 ((↑a0.2.2.1.length:Int) - 1))∧True) <|
  if (v4==(↑a0.2.2.1.length:Int) - 1&&(v5.2.1 != 2||v5.2.2.1 != 0||v5.2.2.2)||decide (v4 < (↑a0.2.2.1.length:Int) - 1)&&v5.2.1 != 1)=true then
   some (((0:Int),false))
  else
   if v5.2.2.2=true then
    gd (in64 (v3+1)∧True) <|
    u169J2 v4 g1 (v3+1)
   else
    u169J2 v4 g1 v3
def u169L4 (a0:Y134) (v5:Y205) (v4:Int) (v3:Int) (g1:Int×Int→Option (Int×Bool)) (g4:Int→Option (Int×Bool)):Int→Option (Int×Bool)
 | v6 =>
 if (decide (v6 < v4))=true then
  gd (ix v6 a0.2.2.1.length∧True) <|
  if (decide ((a0.2.2.1.getD v6.toNat (dflt y205)).1=v5.1))=true then
   some (((0:Int),false))
  else
   gd (in64 (v6+1)∧True) <|
   g4 (v6+1)
 else
  u169J3 v4 v3 v5 a0 g1 ()
def u169L1 (a0:Y134) (g1:Int×Int→Option (Int×Bool)):Int×Int→Option (Int×Bool)
 | (v3,v4) =>
 if (decide (v4 < (↑a0.2.2.1.length:Int)))=true then
  gd (ix v4 a0.2.2.1.length∧True)<|lt (a0.2.2.1.getD v4.toNat (dflt y205)) fun v5 =>
  lp (u169L4 a0 v5 v4 v3 g1) 0
 else
  u169J0 v3
def u169 (a0:Y134):Option (Int×Bool) :=
 if (decide ((↑a0.2.2.1.length:Int) < 2)||decide (5 < (↑a0.2.2.1.length:Int)))=true then
  some (((0:Int),false))
 else
  lp (u169L1 a0) (0,0)
def k169:Ct:=lct 169 [.agg y134] (fun x=>u169 x.1) (fun r:Int×Bool=>AV.tup [I r.1,B r.2]) (fun _=>())
theorem o169:Ok Tryz.prog k169:=by
 refine okL [.tmp 2,.tmp 3] Tryz.func169 Tryz.ntmps169 Tryz.results169 ?_
 intro y ⟨a0,_⟩ r H Q hn hr
 have:HT _ _:=⟨tc o69 (tc o155 tn)⟩
 refine qA (Z [p 1 (R 1)] [(1,K 134 y134 a0)]) <|
  qA (Z [p 1 (R 1),p 4 (I (↑a0.2.2.1.length:Int))] [(1,K 134 y134 a0)]) <|
  vx_seq <|
  qA (Z [p 1 (R 1),p 4 (I (↑a0.2.2.1.length:Int)),p 17 (B (decide ((↑a0.2.2.1.length:Int) < 2)||decide (5 < (↑a0.2.2.1.length:Int))))] [(1,K 134 y134 a0)]) <|
  cD H (fun H=>?_) (fun H=>?_)
 ·refine qA (Z [p 2 (I 0),p 3 (B false)] [(1,K 134 y134 a0)]) <|
   vx_ret<|fx_seq_ret<|hr H
 refine vx_skip<|fx_seq <|
  qA (Z [p 1 (R 1),p 4 (I (↑a0.2.2.1.length:Int)),p 5 (I 0)] [(1,K 134 y134 a0)]) <|
  jN r (fun (v8:Int)=>Z [p 5 (I v8)] []) (u169J0) (fun v8 H=>?_) (fun _ n0 e0 t0=>?_)
 ·refine qA (Z [p 2 (I v8),p 3 (B true)] []) <|
   vx_ret<|hr H
 refine qA (Z [p 1 (R 1),p 4 (I (↑a0.2.2.1.length:Int)),p 5 (I 0),p 6 (I 0)] [(1,K 134 y134 a0)]) <|
  vx_block <|
  lX (fun ((v3,v4):Int×Int)=>Z [p 1 (R 1),p 4 (I (↑a0.2.2.1.length:Int)),p 5 (I v3),p 6 (I v4)] [(1,K 134 y134 a0)]) (0,0) H fun _ g1 b1 e1 t1 ⟨v3,v4⟩ H =>
  vx_seq <|
  qA (Z [p 1 (R 1),p 4 (I (↑a0.2.2.1.length:Int)),p 5 (I v3),p 6 (I v4),p 20 (B (decide (v4 < (↑a0.2.2.1.length:Int))))] [(1,K 134 y134 a0)]) <|
  cD H (fun H=>?_) (fun H=>?_)
 ·refine vx_skip<|fx_seq <|
   jN r (fun (v7:Int)=>Z [p 1 (R 1),p 4 (I (↑a0.2.2.1.length:Int)),p 5 (I v7),p 6 (I v4)] [(1,K 134 y134 a0)]) (u169J2 v4 g1) (fun v7 H=>?_) (fun _ n2 e2 t2=>?_)
  ·refine zB (Z [p 1 (R 1),p 4 (I (↑a0.2.2.1.length:Int)),p 5 (I v7),p 6 (I (v4+1))] [(1,K 134 y134 a0)]) H fun H =>
    b1 H
  refine vx_block <|
   qD (fun v5=>Z [p 1 (R 1),p 4 (I (↑a0.2.2.1.length:Int)),p 5 (I v3),p 6 (I v4),p 7 (R 7)] [(7,K 205 y205 v5),(1,K 134 y134 a0)]) H fun v5 H =>
   jN r (fun (_:Unit)=>Z [p 1 (R 1),p 4 (I (↑a0.2.2.1.length:Int)),p 5 (I v3),p 6 (I v4),p 7 (R 7)] [(7,K 205 y205 v5),(1,K 134 y134 a0)]) (u169J3 v4 v3 v5 a0 g1) (fun _ H=>?_) (fun _ n3 e3 t3=>?_)
  ·refine vx_seq <|
    qB (Z [p 1 (R 1),p 4 (I (↑a0.2.2.1.length:Int)),p 5 (I v3),p 6 (I v4),p 7 (R 7),p 51 (B (!vl (u155 v5.1)||!vl (u69 v5.2.2.1 0 500)))] [(7,K 205 y205 v5),(1,K 134 y134 a0)]) H fun H =>
    cD H (fun H=>?_) (fun H=>?_)
   ·refine qA (Z [p 2 (I 0),p 3 (B false)] [(7,K 205 y205 v5),(1,K 134 y134 a0)]) <|
     vx_ret<|fx_seq_ret<|fx_blk_ret<|t2<|t1<|fx_blk_ret<|t0<|hr H
   refine vx_skip<|fx_seq<|vx_seq <|
    qB (Z [p 1 (R 1),p 4 (I (↑a0.2.2.1.length:Int)),p 5 (I v3),p 6 (I v4),p 7 (R 7),p 80 (B (v4==(↑a0.2.2.1.length:Int) - 1&&(v5.2.1 != 2||v5.2.2.1 != 0||v5.2.2.2)||decide (v4 < (↑a0.2.2.1.length:Int) - 1)&&v5.2.1 != 1))] [(7,K 205 y205 v5),(1,K 134 y134 a0)]) H fun H =>
    cD H (fun H=>?_) (fun H=>?_)
   ·refine qA (Z [p 2 (I 0),p 3 (B false)] [(7,K 205 y205 v5),(1,K 134 y134 a0)]) <|
     vx_ret<|fx_seq_ret<|fx_blk_ret<|t2<|t1<|fx_blk_ret<|t0<|hr H
   refine vx_skip<|fx_seq <|
    qA (Z [p 1 (R 1),p 4 (I (↑a0.2.2.1.length:Int)),p 5 (I v3),p 6 (I v4),p 82 (C v5.2.2.2)] [(7,K 205 y205 v5),(1,K 134 y134 a0)]) <|
    cD H (fun H=>?_) (fun H=>?_)
   ·refine zB (Z [p 1 (R 1),p 4 (I (↑a0.2.2.1.length:Int)),p 5 (I (v3+1)),p 6 (I v4)] [(7,K 205 y205 v5),(1,K 134 y134 a0)]) H fun H =>
     fx_blk<|n2 H
   exact vx_skip<|fx_blk<|n2 H
  refine qA (Z [p 1 (R 1),p 4 (I (↑a0.2.2.1.length:Int)),p 5 (I v3),p 6 (I v4),p 7 (R 7),p 8 (I 0)] [(7,K 205 y205 v5),(1,K 134 y134 a0)]) <|
   vx_block <|
   lX (fun (v6:Int)=>Z [p 1 (R 1),p 4 (I (↑a0.2.2.1.length:Int)),p 5 (I v3),p 6 (I v4),p 7 (R 7),p 8 (I v6)] [(7,K 205 y205 v5),(1,K 134 y134 a0)]) 0 H fun _ g4 b4 e4 t4 v6 H =>
   vx_seq <|
   qA (Z [p 1 (R 1),p 4 (I (↑a0.2.2.1.length:Int)),p 5 (I v3),p 6 (I v4),p 7 (R 7),p 8 (I v6),p 30 (B (decide (v6 < v4)))] [(7,K 205 y205 v5),(1,K 134 y134 a0)]) <|
   cD H (fun H=>?_) (fun H=>?_)
  ·refine vx_skip<|fx_seq<|vx_seq<|vx_block <|
    qB (Z [p 1 (R 1),p 4 (I (↑a0.2.2.1.length:Int)),p 5 (I v3),p 6 (I v4),p 7 (R 7),p 8 (I v6),p 41 (B (decide ((a0.2.2.1.getD v6.toNat (dflt y205)).1=v5.1)))] [(7,K 205 y205 v5),(1,K 134 y134 a0)]) H fun H =>
    cD H (fun H=>?_) (fun H=>?_)
   ·refine qA (Z [p 2 (I 0),p 3 (B false)] [(7,K 205 y205 v5),(1,K 134 y134 a0)]) <|
     vx_ret<|fx_blk_ret<|fx_seq_ret<|t4<|fx_blk_ret<|t3<|fx_blk_ret<|t2<|t1<|fx_blk_ret<|t0<|hr H
   refine vx_skip<|fx_blk<|fx_seq <|
    zB (Z [p 1 (R 1),p 4 (I (↑a0.2.2.1.length:Int)),p 5 (I v3),p 6 (I v4),p 7 (R 7),p 8 (I (v6+1))] [(7,K 205 y205 v5),(1,K 134 y134 a0)]) H fun H =>
    b4 H
  exact vx_exit<|fx_seq_exit<|e4<|fx_blk_exit rfl<|n3 H
 exact vx_exit<|fx_seq_exit<|e1<|fx_blk_exit rfl<|n0 H
def u154J4:Unit→Option (Bool)
 | _ =>
 some false
def u154J5 (v0:Int×Bool) (a0:Y134):Unit→Option (Bool)
 | _ =>
 gd (((v0.1==0)=true∧True→in64 ((↑a0.2.2.1.length:Int) - 1))∧((v0.1==0)=true∧True→0≤(↑a0.2.2.1.length:Int) - 1∧(↑a0.2.2.1.length:Int) - 1≤18446744073709551615)∧((v0.1==0)=true∧True→(0≤(↑a0.2.2.1.length:Int) - 1∧(↑a0.2.2.1.length:Int) - 1≤62)∧in64 (1*2 ^ ((↑a0.2.2.1.length:Int) - 1).toNat))∧True) <|
 some (v0.1==0&&(↑a0.2.2.2.2.1.length:Int)==1*2 ^ ((↑a0.2.2.1.length:Int) - 1).toNat)
def u154L6 (a0:Y134) (v0:Int×Bool) (g6:Int→Option (Bool)):Int→Option (Bool)
 | v7 =>
 if (decide (v7 < (↑a0.2.2.2.2.1.length:Int)))=true then
  gd (ix v7 a0.2.2.2.2.1.length∧(u69 (a0.2.2.2.2.1.getD v7.toNat 0) 0 1).isSome=true∧True) <|
  if (!vl (u69 (a0.2.2.2.2.1.getD v7.toNat 0) 0 1))=true then
   some false
  else
   gd (in64 (v7+1)∧True) <|
   g6 (v7+1)
 else
  u154J5 v0 a0 ()
def u154J0 (a0:Y134) (v0:Int×Bool):Unit→Option (Bool)
 | _ =>
 gd ((u171 a0).isSome=true∧True)<|lt (vl (u171 a0)) fun v6 =>
 if (a0.2.1==1)=true then
  lp (u154L6 a0 v0) 0
 else
  if (a0.2.1==2)=true then
   gd (((v0.1==(1:Int))=true∧True→ix (1:Int) v6.length)∧((v0.1==(1:Int))=true∧True→Int.toNat (1:Int) < v6.length)∧((v0.1==(1:Int)&&v6.getD (Int.toNat (1:Int)) (0:Int)==(0:Int))=true∧True→ix (2:Int) v6.length)∧((v0.1==(1:Int)&&v6.getD (Int.toNat (1:Int)) (0:Int)==(0:Int))=true∧True→Int.toNat (2:Int) < v6.length)∧((v0.1==(1:Int)&&v6.getD (Int.toNat (1:Int)) (0:Int)==(0:Int))=true∧True→ix (3:Int) v6.length)∧((v0.1==(1:Int)&&v6.getD (Int.toNat (1:Int)) (0:Int)==(0:Int))=true∧True→Int.toNat (3:Int) < v6.length)∧True) <|
   some (v0.1==(1:Int)&&v6.getD (Int.toNat (1:Int)) (0:Int)==(0:Int)&&!decide ((0:Int) < v6.getD (Int.toNat (2:Int)) (0:Int))==decide ((0:Int) < v6.getD (Int.toNat (3:Int)) (0:Int))&&(↑a0.2.2.2.2.1.length:Int)==(0:Int))
  else
   if (a0.2.1==3)=true then
    gd (((v0.1==(1:Int))=true∧True→ix (1:Int) v6.length)∧((v0.1==(1:Int))=true∧True→Int.toNat (1:Int) < v6.length)∧((v0.1==(1:Int)&&decide ((0:Int) < v6.getD (Int.toNat (1:Int)) (0:Int)))=true∧True→ix (2:Int) v6.length)∧((v0.1==(1:Int)&&decide ((0:Int) < v6.getD (Int.toNat (1:Int)) (0:Int)))=true∧True→Int.toNat (2:Int) < v6.length)∧((v0.1==(1:Int)&&decide ((0:Int) < v6.getD (Int.toNat (1:Int)) (0:Int))&&decide ((0:Int) < v6.getD (Int.toNat (2:Int)) (0:Int)))=true∧True→ix (3:Int) v6.length)∧((v0.1==(1:Int)&&decide ((0:Int) < v6.getD (Int.toNat (1:Int)) (0:Int))&&decide ((0:Int) < v6.getD (Int.toNat (2:Int)) (0:Int)))=true∧True→Int.toNat (3:Int) < v6.length)∧True) <|
    some (v0.1==(1:Int)&&decide ((0:Int) < v6.getD (Int.toNat (1:Int)) (0:Int))&&decide ((0:Int) < v6.getD (Int.toNat (2:Int)) (0:Int))&&v6.getD (Int.toNat (3:Int)) (0:Int)==(0:Int)&&(↑a0.2.2.2.2.1.length:Int)==(0:Int))
   else
    u154J4 ()
def u154J2 (v3:Int) (g1:Int→Option (Bool)):Unit→Option (Bool)
 | _ =>
 gd (in64 (v3+1)∧True) <|
 g1 (v3+1)
def u154L3 (a0:Y134) (v4:Y139) (v3:Int) (g1:Int→Option (Bool)) (g3:Int→Option (Bool)):Int→Option (Bool)
 | v5 =>
 if (decide (v5 < v3))=true then
  gd (ix v5 a0.2.2.2.1.length∧(((a0.2.2.2.1.getD v5.toNat (dflt y139)).1==v4.1)=true∧True→ix v5 a0.2.2.2.1.length)∧(((a0.2.2.2.1.getD v5.toNat (dflt y139)).1==v4.1&&(a0.2.2.2.1.getD v5.toNat (dflt y139)).2.1==v4.2.1)=true∧True→ix v5 a0.2.2.2.1.length)∧True) <|
  if ((a0.2.2.2.1.getD v5.toNat (dflt y139)).1==v4.1&&(a0.2.2.2.1.getD v5.toNat (dflt y139)).2.1==v4.2.1&&(a0.2.2.2.1.getD v5.toNat (dflt y139)).2.2.1==v4.2.2.1)=true then
   some false
  else
   gd (in64 (v5+1)∧True) <|
   g3 (v5+1)
 else
  u154J2 v3 g1 ()
def u154L1 (a0:Y134) (v0:Int×Bool) (g1:Int→Option (Bool)):Int→Option (Bool)
 | v3 =>
 if (decide (v3 < (↑a0.2.2.2.1.length:Int)))=true then
  gd (ix v3 a0.2.2.2.1.length∧True)<|lt (a0.2.2.2.1.getD v3.toNat (dflt y139)) fun v4 =>
  gd ((u170 a0 v4).isSome=true∧True) <|
  if (!vl (u170 a0 v4))=true then
   some false
  else
   lp (u154L3 a0 v4 v3 g1) 0
 else
  u154J0 a0 v0 ()
def u154 (a0:Y134):Option (Bool) :=
 gd ((u169 a0).isSome=true∧True)<|lt (vl (u169 a0)) fun v0 =>
 gd (((!v0.2)=false∧True→(u155 a0.1).isSome=true)∧((!v0.2||!vl (u155 a0.1)||decide (8 < (↑a0.2.2.2.1.length:Int)))=false∧True→(u69 a0.2.2.2.2.2.1 0 100000).isSome=true)∧((!v0.2||!vl (u155 a0.1)||decide (8 < (↑a0.2.2.2.1.length:Int))||!vl (u69 a0.2.2.2.2.2.1 0 100000))=false∧True→(u69 a0.2.2.2.2.2.2 0 100000).isSome=true)∧True) <|
 if (!v0.2||!vl (u155 a0.1)||decide (8 < (↑a0.2.2.2.1.length:Int))||!vl (u69 a0.2.2.2.2.2.1 0 100000)||!vl (u69 a0.2.2.2.2.2.2 0 100000))=true then
  some false
 else
  lp (u154L1 a0 v0) 0
def k154:Ct:=lct 154 [.agg y134] (fun x=>u154 x.1) (fun r:Bool=>B r) (fun _=>())
theorem o154:Ok Tryz.prog k154:=by
 refine okL [.tmp 2] Tryz.func154 Tryz.ntmps154 Tryz.results154 ?_
 intro y ⟨a0,_⟩ r H Q hn hr
 have:HT _ _:=⟨tc o69 (tc o171 (tc o170 (tc o155 (tc o169 tn))))⟩
 refine qA (Z [p 1 (R 1)] [(1,K 134 y134 a0)]) <|
  qD (fun v0=>Z [p 1 (R 1),p 3 (I v0.1),p 4 (B v0.2)] [(1,K 134 y134 a0)]) H fun v0 H =>
  vx_seq <|
  qB (Z [p 1 (R 1),p 3 (I v0.1),p 40 (B (!v0.2||!vl (u155 a0.1)||decide (8 < (↑a0.2.2.2.1.length:Int))||!vl (u69 a0.2.2.2.2.2.1 0 100000)||!vl (u69 a0.2.2.2.2.2.2 0 100000)))] [(1,K 134 y134 a0)]) H fun H =>
  cD H (fun H=>?_) (fun H=>?_)
 ·refine qA (Z [p 2 (B false)] [(1,K 134 y134 a0)]) <|
   vx_ret<|fx_seq_ret<|hr H
 refine vx_skip<|fx_seq <|
  jN r (fun (_:Unit)=>Z [p 1 (R 1),p 3 (I v0.1)] [(1,K 134 y134 a0)]) (u154J0 a0 v0) (fun _ H=>?_) (fun _ n0 e0 t0=>?_)
 ·refine qD (fun v6=>Z [p 1 (R 1),p 3 (I v0.1),p 8 (O 94)] [(94,A 2 i64 v6 0),(1,K 134 y134 a0)]) H fun v6 H =>
   jN r (fun (_:Unit)=>Z [] []) (u154J4) (fun _ H=>?_) (fun _ n4 e4 t4=>?_)
  ·refine qA (Z [p 2 (B false)] []) <|
    vx_ret<|hr H
  refine qA (Z [p 1 (R 1),p 3 (I v0.1),p 8 (O 94),p 96 (J a0.2.1)] [(94,A 2 i64 v6 0),(1,K 134 y134 a0)]) <|
   vx_block <|
   qA (Z [p 1 (R 1),p 3 (I v0.1),p 8 (O 94),p 96 (J a0.2.1),p 97 (B (a0.2.1==1))] [(94,A 2 i64 v6 0),(1,K 134 y134 a0)]) <|
   cD H (fun H=>?_) (fun H=>?_)
  ·refine jN r (fun (_:Unit)=>Z [p 1 (R 1),p 3 (I v0.1)] [(1,K 134 y134 a0)]) (u154J5 v0 a0) (fun _ H=>?_) (fun _ n5 e5 t5=>?_)
   ·refine qB (Z [p 2 (B (v0.1==0&&(↑a0.2.2.2.2.1.length:Int)==1*2 ^ ((↑a0.2.2.1.length:Int) - 1).toNat))] [(1,K 134 y134 a0)]) H fun H =>
     vx_ret<|fx_blk_ret<|t4<|hr H
   refine qA (Z [p 1 (R 1),p 3 (I v0.1),p 9 (I 0)] [(94,A 2 i64 v6 0),(1,K 134 y134 a0)]) <|
    vx_block <|
    lX (fun (v7:Int)=>Z [p 1 (R 1),p 3 (I v0.1),p 9 (I v7)] [(1,K 134 y134 a0)]) 0 H fun _ g6 b6 e6 t6 v7 H =>
    vx_seq <|
    qA (Z [p 1 (R 1),p 3 (I v0.1),p 9 (I v7),p 103 (B (decide (v7 < (↑a0.2.2.2.2.1.length:Int))))] [(1,K 134 y134 a0)]) <|
    cD H (fun H=>?_) (fun H=>?_)
   ·refine vx_skip<|fx_seq<|vx_seq<|vx_block <|
     qB (Z [p 1 (R 1),p 3 (I v0.1),p 9 (I v7),p 112 (B !vl (u69 (a0.2.2.2.2.1.getD v7.toNat 0) 0 1))] [(1,K 134 y134 a0)]) H fun H =>
     cD H (fun H=>?_) (fun H=>?_)
    ·refine qA (Z [p 2 (B false)] [(1,K 134 y134 a0)]) <|
      vx_ret<|fx_blk_ret<|fx_seq_ret<|t6<|fx_blk_ret<|t5<|fx_blk_ret<|t4<|hr H
    refine vx_skip<|fx_blk<|fx_seq <|
     zB (Z [p 1 (R 1),p 3 (I v0.1),p 9 (I (v7+1))] [(1,K 134 y134 a0)]) H fun H =>
     b6 H
   exact vx_exit<|fx_seq_exit<|e6<|fx_blk_exit rfl<|n5 H
  refine qA (Z [p 1 (R 1),p 3 (I v0.1),p 8 (O 94),p 96 (J a0.2.1),p 127 (B (a0.2.1==2))] [(94,A 2 i64 v6 0),(1,K 134 y134 a0)]) <|
   cD H (fun H=>?_) (fun H=>?_)
  ·refine qB (Z [p 2 (B (v0.1==(1:Int)&&v6.getD (Int.toNat (1:Int)) (0:Int)==(0:Int)&&!decide ((0:Int) < v6.getD (Int.toNat (2:Int)) (0:Int))==decide ((0:Int) < v6.getD (Int.toNat (3:Int)) (0:Int))&&(↑a0.2.2.2.2.1.length:Int)==(0:Int)))] [(94,A 2 i64 v6 0),(1,K 134 y134 a0)]) H fun H =>
    vx_ret<|fx_blk_ret<|t4<|hr H
  refine qA (Z [p 1 (R 1),p 3 (I v0.1),p 8 (O 94),p 154 (B (a0.2.1==3))] [(94,A 2 i64 v6 0),(1,K 134 y134 a0)]) <|
   cD H (fun H=>?_) (fun H=>?_)
  ·refine qB (Z [p 2 (B (v0.1==(1:Int)&&decide ((0:Int) < v6.getD (Int.toNat (1:Int)) (0:Int))&&decide ((0:Int) < v6.getD (Int.toNat (2:Int)) (0:Int))&&v6.getD (Int.toNat (3:Int)) (0:Int)==(0:Int)&&(↑a0.2.2.2.2.1.length:Int)==(0:Int)))] [(94,A 2 i64 v6 0),(1,K 134 y134 a0)]) H fun H =>
    vx_ret<|fx_blk_ret<|t4<|hr H
  exact vx_skip<|fx_blk<|n4 H
 refine qA (Z [p 1 (R 1),p 3 (I v0.1),p 5 (I 0)] [(1,K 134 y134 a0)]) <|
  vx_block <|
  lX (fun (v3:Int)=>Z [p 1 (R 1),p 3 (I v0.1),p 5 (I v3)] [(1,K 134 y134 a0)]) 0 H fun _ g1 b1 e1 t1 v3 H =>
  vx_seq <|
  qA (Z [p 1 (R 1),p 3 (I v0.1),p 5 (I v3),p 45 (B (decide (v3 < (↑a0.2.2.2.1.length:Int))))] [(1,K 134 y134 a0)]) <|
  cD H (fun H=>?_) (fun H=>?_)
 ·refine vx_skip<|fx_seq <|
   jN r (fun (_:Unit)=>Z [p 1 (R 1),p 3 (I v0.1),p 5 (I v3)] [(1,K 134 y134 a0)]) (u154J2 v3 g1) (fun _ H=>?_) (fun _ n2 e2 t2=>?_)
  ·refine zB (Z [p 1 (R 1),p 3 (I v0.1),p 5 (I (v3+1))] [(1,K 134 y134 a0)]) H fun H =>
    b1 H
  refine vx_block <|
   qD (fun v4=>Z [p 1 (R 1),p 3 (I v0.1),p 5 (I v3),p 6 (R 6)] [(6,K 139 y139 v4),(1,K 134 y134 a0)]) H fun v4 H =>
   vx_seq <|
   qB (Z [p 1 (R 1),p 3 (I v0.1),p 5 (I v3),p 6 (R 6),p 56 (B !vl (u170 a0 v4))] [(6,K 139 y139 v4),(1,K 134 y134 a0)]) H fun H =>
   cD H (fun H=>?_) (fun H=>?_)
  ·refine qA (Z [p 2 (B false)] [(6,K 139 y139 v4),(1,K 134 y134 a0)]) <|
    vx_ret<|fx_seq_ret<|fx_blk_ret<|t2<|t1<|fx_blk_ret<|t0<|hr H
  refine vx_skip<|fx_seq <|
   qA (Z [p 1 (R 1),p 3 (I v0.1),p 5 (I v3),p 6 (R 6),p 7 (I 0)] [(6,K 139 y139 v4),(1,K 134 y134 a0)]) <|
   vx_block <|
   lX (fun (v5:Int)=>Z [p 1 (R 1),p 3 (I v0.1),p 5 (I v3),p 6 (R 6),p 7 (I v5)] [(6,K 139 y139 v4),(1,K 134 y134 a0)]) 0 H fun _ g3 b3 e3 t3 v5 H =>
   vx_seq <|
   qA (Z [p 1 (R 1),p 3 (I v0.1),p 5 (I v3),p 6 (R 6),p 7 (I v5),p 59 (B (decide (v5 < v3)))] [(6,K 139 y139 v4),(1,K 134 y134 a0)]) <|
   cD H (fun H=>?_) (fun H=>?_)
  ·refine vx_skip<|fx_seq<|vx_seq<|vx_block <|
    qB (Z [p 1 (R 1),p 3 (I v0.1),p 5 (I v3),p 6 (R 6),p 7 (I v5),p 92 (B ((a0.2.2.2.1.getD v5.toNat (dflt y139)).1==v4.1&&(a0.2.2.2.1.getD v5.toNat (dflt y139)).2.1==v4.2.1&&(a0.2.2.2.1.getD v5.toNat (dflt y139)).2.2.1==v4.2.2.1))] [(6,K 139 y139 v4),(1,K 134 y134 a0)]) H fun H =>
    cD H (fun H=>?_) (fun H=>?_)
   ·refine qA (Z [p 2 (B false)] [(6,K 139 y139 v4),(1,K 134 y134 a0)]) <|
     vx_ret<|fx_blk_ret<|fx_seq_ret<|t3<|fx_blk_ret<|fx_blk_ret<|t2<|t1<|fx_blk_ret<|t0<|hr H
   refine vx_skip<|fx_blk<|fx_seq <|
    zB (Z [p 1 (R 1),p 3 (I v0.1),p 5 (I v3),p 6 (R 6),p 7 (I (v5+1))] [(6,K 139 y139 v4),(1,K 134 y134 a0)]) H fun H =>
    b3 H
  exact vx_exit<|fx_seq_exit<|e3<|fx_blk_exit rfl<|fx_blk<|n2 H
 exact vx_exit<|fx_seq_exit<|e1<|fx_blk_exit rfl<|n0 H
def u128J0 (a0:List Y134):Unit→Option (Bool)
 | _ =>
 some (decide ((↑a0.length:Int)≤8))
def u128J2 (v1:Int) (g1:Int→Option (Bool)):Unit→Option (Bool)
 | _ =>
 gd (in64 (v1+1)∧True) <|
 g1 (v1+1)
def u128L3 (a0:List Y134) (v1:Int) (g1:Int→Option (Bool)) (g3:Int→Option (Bool)):Int→Option (Bool)
 | v2 =>
 if (decide (v2 < v1))=true then
  gd (ix v2 a0.length∧ix v1 a0.length∧True) <|
  if (decide ((a0.getD v2.toNat (dflt y134)).1=(a0.getD v1.toNat (dflt y134)).1))=true then
   some false
  else
   gd (in64 (v2+1)∧True) <|
   g3 (v2+1)
 else
  u128J2 v1 g1 ()
def u128L1 (a0:List Y134) (g1:Int→Option (Bool)):Int→Option (Bool)
 | v1 =>
 if (decide (v1 < (↑a0.length:Int)))=true then
  gd (ix v1 a0.length∧(u154 (a0.getD v1.toNat (dflt y134))).isSome=true∧True) <|
  if (!vl (u154 (a0.getD v1.toNat (dflt y134))))=true then
   some false
  else
   lp (u128L3 a0 v1 g1) 0
 else
  u128J0 a0 ()
def u128 (a0:List Y134):Option (Bool) :=
 lp (u128L1 a0) 0
def k128:Ct:=lct 128 [.agg y134.sl] (fun x=>u128 x.1) (fun r:Bool=>B r) (fun _=>())
theorem o128:Ok Tryz.prog k128:=by
 refine okL [.tmp 2] Tryz.func128 Tryz.ntmps128 Tryz.results128 ?_
 intro y ⟨a0,_⟩ r H Q hn hr
 have:HT _ _:=⟨tc o154 tn⟩
 refine qA (Z [p 1 (R 1)] [(1,Ob.box 39 [L y134 a0])]) <|
  jN r (fun (_:Unit)=>Z [p 1 (R 1)] [(1,Ob.box 39 [L y134 a0])]) (u128J0 a0) (fun _ H=>?_) (fun _ n0 e0 t0=>?_)
 ·refine qA (Z [p 2 (B (decide ((↑a0.length:Int)≤8)))] [(1,Ob.box 39 [L y134 a0])]) <|
   vx_ret<|hr H
 refine qA (Z [p 1 (R 1),p 3 (I 0)] [(1,Ob.box 39 [L y134 a0])]) <|
  vx_block <|
  lX (fun (v1:Int)=>Z [p 1 (R 1),p 3 (I v1)] [(1,Ob.box 39 [L y134 a0])]) 0 H fun _ g1 b1 e1 t1 v1 H =>
  vx_seq <|
  qA (Z [p 1 (R 1),p 3 (I v1),p 9 (B (decide (v1 < (↑a0.length:Int))))] [(1,Ob.box 39 [L y134 a0])]) <|
  cD H (fun H=>?_) (fun H=>?_)
 ·refine vx_skip<|fx_seq <|
   jN r (fun (_:Unit)=>Z [p 1 (R 1),p 3 (I v1)] [(1,Ob.box 39 [L y134 a0])]) (u128J2 v1 g1) (fun _ H=>?_) (fun _ n2 e2 t2=>?_)
  ·refine zB (Z [p 1 (R 1),p 3 (I (v1+1))] [(1,Ob.box 39 [L y134 a0])]) H fun H =>
    b1 H
  refine vx_block<|vx_seq <|
   qB (Z [p 1 (R 1),p 3 (I v1),p 18 (B !vl (u154 (a0.getD v1.toNat (dflt y134))))] [(1,Ob.box 39 [L y134 a0])]) H fun H =>
   cD H (fun H=>?_) (fun H=>?_)
  ·refine qA (Z [p 2 (B false)] [(1,Ob.box 39 [L y134 a0])]) <|
    vx_ret<|fx_seq_ret<|fx_blk_ret<|t2<|t1<|fx_blk_ret<|t0<|hr H
  refine vx_skip<|fx_seq <|
   qA (Z [p 1 (R 1),p 3 (I v1),p 4 (I 0)] [(1,Ob.box 39 [L y134 a0])]) <|
   vx_block <|
   lX (fun (v2:Int)=>Z [p 1 (R 1),p 3 (I v1),p 4 (I v2)] [(1,Ob.box 39 [L y134 a0])]) 0 H fun _ g3 b3 e3 t3 v2 H =>
   vx_seq <|
   qA (Z [p 1 (R 1),p 3 (I v1),p 4 (I v2),p 21 (B (decide (v2 < v1)))] [(1,Ob.box 39 [L y134 a0])]) <|
   cD H (fun H=>?_) (fun H=>?_)
  ·refine vx_skip<|fx_seq<|vx_seq<|vx_block <|
    qB (Z [p 1 (R 1),p 3 (I v1),p 4 (I v2),p 36 (B (decide ((a0.getD v2.toNat (dflt y134)).1=(a0.getD v1.toNat (dflt y134)).1)))] [(1,Ob.box 39 [L y134 a0])]) H fun H =>
    cD H (fun H=>?_) (fun H=>?_)
   ·refine qA (Z [p 2 (B false)] [(1,Ob.box 39 [L y134 a0])]) <|
     vx_ret<|fx_blk_ret<|fx_seq_ret<|t3<|fx_blk_ret<|fx_blk_ret<|t2<|t1<|fx_blk_ret<|t0<|hr H
   refine vx_skip<|fx_blk<|fx_seq <|
    zB (Z [p 1 (R 1),p 3 (I v1),p 4 (I (v2+1))] [(1,Ob.box 39 [L y134 a0])]) H fun H =>
    b3 H
  exact vx_exit<|fx_seq_exit<|e3<|fx_blk_exit rfl<|fx_blk<|n2 H
 exact vx_exit<|fx_seq_exit<|e1<|fx_blk_exit rfl<|n0 H
def u88J9:Unit→Option (Bool)
 | _ =>
 some true
def u88L10 (v20:List Int) (g10:Int→Option (Bool)):Int→Option (Bool)
 | v21 =>
 if (decide (v21 < (↑v20.length:Int)))=true then
  gd (ix v21 v20.length∧v21.toNat < v20.length∧True) <|
  if (v20.getD v21.toNat 0 != 1)=true then
   some false
  else
   gd (in64 (v21+1)∧True) <|
   g10 (v21+1)
 else
  u88J9 ()
def u88J6:List Int→Option (Bool)
 | v20 =>
 lp (u88L10 v20) 0
def u88J8 (v16:Int) (g7:Int×List Int→Option (Bool)):List Int→Option (Bool)
 | v19 =>
 gd (in64 (v16+1)∧True) <|
 g7 (v16+1,v19)
def u88L7 (a1:Y43) (g7:Int×List Int→Option (Bool)):Int×List Int→Option (Bool)
 | (v16,v17) =>
 if (decide (v16 < (↑a1.2.2.length:Int)))=true then
  gd (ix v16 a1.2.2.length∧True) <|
  if ((a1.2.2.getD v16.toNat (dflt y172)).2.1==1)=true then
   gd (ix v16 a1.2.2.length∧ix (a1.2.2.getD v16.toNat (dflt y172)).2.2 v17.length∧(a1.2.2.getD v16.toNat (dflt y172)).2.2.toNat < v17.length∧in64 (v17.getD (a1.2.2.getD v16.toNat (dflt y172)).2.2.toNat 0+1)∧ix (a1.2.2.getD v16.toNat (dflt y172)).2.2 v17.length∧(a1.2.2.getD v16.toNat (dflt y172)).2.2.toNat < v17.length∧True)<|lt (v17.set (a1.2.2.getD v16.toNat (dflt y172)).2.2.toNat (v17.getD (a1.2.2.getD v16.toNat (dflt y172)).2.2.toNat 0+1)) fun v18 =>
   u88J8 v16 g7 v18
  else
   u88J8 v16 g7 v17
 else
  u88J6 v17
def u88J4 (a1:Y43):List Int→Option (Bool)
 | v13 =>
 lp (u88L7 a1) (0,v13)
def u88L5 (a1:Y43) (g5:Int×List Int→Option (Bool)):Int×List Int→Option (Bool)
 | (v9,v10) =>
 if (decide (v9 < (↑a1.1.length:Int)))=true then
  gd (ix v9 a1.1.length∧True)<|lt (a1.1.getD v9.toNat (dflt y136)) fun v11 =>
  gd (in64 ((↑v11.2.2.length:Int) - 1)∧ix ((↑v11.2.2.length:Int) - 1) v11.2.2.length∧ix (v11.2.2.getD ((↑v11.2.2.length:Int) - 1).toNat 0) v10.length∧Int.toNat (v11.2.2.getD ((↑v11.2.2.length:Int) - 1).toNat 0) < v10.length∧in64 (v10.getD (Int.toNat (v11.2.2.getD ((↑v11.2.2.length:Int) - 1).toNat 0)) 0+1)∧ix (v11.2.2.getD ((↑v11.2.2.length:Int) - 1).toNat 0) v10.length∧Int.toNat (v11.2.2.getD ((↑v11.2.2.length:Int) - 1).toNat 0) < v10.length∧True)<|lt (v10.set (Int.toNat (v11.2.2.getD ((↑v11.2.2.length:Int) - 1).toNat 0)) (v10.getD (Int.toNat (v11.2.2.getD ((↑v11.2.2.length:Int) - 1).toNat 0)) 0+1)) fun v12 =>
  gd (in64 (v9+1)∧True) <|
  g5 (v9+1,v12)
 else
  u88J4 a1 v10
def u88J2 (a1:Y43) (v2:List ByteArray):List ByteArray→Option (Bool)
 | v6 =>
 gd ((u130 v2).isSome=true∧((!vl (u130 v2))=false∧True→(u130 v6).isSome=true)∧((!vl (u130 v2)||!vl (u130 v6))=false∧True→(u130 a1.2.1).isSome=true)∧True) <|
 if (!vl (u130 v2)||!vl (u130 v6)||!vl (u130 a1.2.1))=true then
  some false
 else
  gd ((0≤(↑a1.2.1.length:Int)∧(↑a1.2.1.length:Int)=(↑a1.2.1.length:Int)∧(↑a1.2.1.length:Int).toNat*8≤281474976710656∧(↑a1.2.1.length:Int)≤9223372036854775807)∧True) <|
  lp (u88L5 a1) ((0,List.replicate (↑a1.2.1.length:Int).toNat 0))
def u88L3 (a1:Y43) (v2:List ByteArray) (g3:Int×List ByteArray→Option (Bool)):Int×List ByteArray→Option (Bool)
 | (v4,v5) =>
 if (decide (v4 < (↑a1.2.2.length:Int)))=true then
  gd (ix v4 a1.2.2.length∧(v5.length+[(a1.2.2.getD v4.toNat (dflt y172)).1].length≤9223372036854775807∧(v5.length+[(a1.2.2.getD v4.toNat (dflt y172)).1].length)*16≤140737488355328)∧True) <|
  gd (in64 (v4+1)∧True) <|
  g3 ((v4+1,v5++[(a1.2.2.getD v4.toNat (dflt y172)).1]))
 else
  u88J2 a1 v2 v5
def u88J0 (a1:Y43):List ByteArray→Option (Bool)
 | v2 =>
 lp (u88L3 a1 v2) (0,[])
def u88L1 (a1:Y43) (g1:Int×List ByteArray→Option (Bool)):Int×List ByteArray→Option (Bool)
 | (v0,v1) =>
 if (decide (v0 < (↑a1.1.length:Int)))=true then
  gd (ix v0 a1.1.length∧(v1.length+[(a1.1.getD v0.toNat (dflt y136)).1].length≤9223372036854775807∧(v1.length+[(a1.1.getD v0.toNat (dflt y136)).1].length)*16≤140737488355328)∧True) <|
  gd (in64 (v0+1)∧True) <|
  g1 ((v0+1,v1++[(a1.1.getD v0.toNat (dflt y136)).1]))
 else
  u88J0 a1 v1
def u88 (a0:List Y134) (a1:Y43):Option (Bool) :=
 gd ((u128 a0).isSome=true∧((!vl (u128 a0)||decide (14 < (↑a1.1.length:Int))||decide (30 < (↑a1.2.1.length:Int))||decide (8 < (↑a1.2.2.length:Int)))=false∧True→(u129 a0 a1).isSome=true)∧True) <|
 if (!vl (u128 a0)||decide (14 < (↑a1.1.length:Int))||decide (30 < (↑a1.2.1.length:Int))||decide (8 < (↑a1.2.2.length:Int))||!vl (u129 a0 a1))=true then
  some false
 else
  lp (u88L1 a1) (0,[])
def k88:Ct:=lct 88 [.agg y134.sl,.agg y43] (fun x=>u88 x.1 x.2.1) (fun r:Bool=>B r) (fun _=>())
theorem o88:Ok Tryz.prog k88:=by
 refine okL [.tmp 4] Tryz.func88 Tryz.ntmps88 Tryz.results88 ?_
 intro y ⟨a0,a1,_⟩ r H Q hn hr
 have:HT _ _:=⟨tc o130 (tc o129 (tc o128 tn))⟩
 refine qA (Z [p 2 (R 2),p 3 (R 3)] [(3,K 43 y43 a1),(2,Ob.box 39 [L y134 a0])]) <|
  vx_seq <|
  qB (Z [p 3 (R 3),p 40 (B (!vl (u128 a0)||decide (14 < (↑a1.1.length:Int))||decide (30 < (↑a1.2.1.length:Int))||decide (8 < (↑a1.2.2.length:Int))||!vl (u129 a0 a1)))] [(3,K 43 y43 a1),(2,Ob.box 39 [L y134 a0])]) H fun H =>
  cD H (fun H=>?_) (fun H=>?_)
 ·refine qA (Z [p 4 (B false)] [(3,K 43 y43 a1),(2,Ob.box 39 [L y134 a0])]) <|
   vx_ret<|fx_seq_ret<|hr H
 refine vx_skip<|fx_seq <|
  qA (Z [p 3 (R 3),p 5 (O 41)] [(41,A 9 Ty.str [] 0),(3,K 43 y43 a1),(2,Ob.box 39 [L y134 a0])]) <|
  jN r (fun (v2:List ByteArray)=>Z [p 3 (R 3),p 5 (O 41)] [(41,A 9 Ty.str v2 0),(3,K 43 y43 a1)]) (u88J0 a1) (fun v2 H=>?_) (fun _ n0 e0 t0=>?_)
 ·refine qA (Z [p 3 (R 3),p 5 (O 41),p 7 (O 58)] [(58,A 9 Ty.str [] 0),(41,A 9 Ty.str v2 0),(3,K 43 y43 a1)]) <|
   jN r (fun (v6:List ByteArray)=>Z [p 3 (R 3),p 5 (O 41),p 7 (O 58)] [(58,A 9 Ty.str v6 0),(41,A 9 Ty.str v2 0),(3,K 43 y43 a1)]) (u88J2 a1 v2) (fun v6 H=>?_) (fun _ n2 e2 t2=>?_)
  ·refine vx_seq <|
    qB (Z [p 3 (R 3),p 88 (B (!vl (u130 v2)||!vl (u130 v6)||!vl (u130 a1.2.1)))] [(58,A 9 Ty.str v6 0),(41,A 9 Ty.str v2 0),(3,K 43 y43 a1)]) H fun H =>
    cD H (fun H=>?_) (fun H=>?_)
   ·refine qA (Z [p 4 (B false)] [(58,A 9 Ty.str v6 0),(41,A 9 Ty.str v2 0),(3,K 43 y43 a1)]) <|
     vx_ret<|fx_seq_ret<|hr H
   refine vx_skip<|fx_seq <|
    qB (Z [p 3 (R 3),p 9 (O 92)] [(92,A 2 i64 (List.replicate (↑a1.2.1.length:Int).toNat 0) 0),(58,A 9 Ty.str v6 0),(41,A 9 Ty.str v2 0),(3,K 43 y43 a1)]) H fun H =>
    jN r (fun (v13:List Int)=>Z [p 3 (R 3),p 9 (O 92)] [(92,A 2 i64 v13 0),(3,K 43 y43 a1)]) (u88J4 a1) (fun v13 H=>?_) (fun _ n4 e4 t4=>?_)
   ·refine jN r (fun (v20:List Int)=>Z [p 9 (O 92)] [(92,A 2 i64 v20 0)]) (u88J6) (fun v20 H=>?_) (fun _ n6 e6 t6=>?_)
    ·refine jN r (fun (_:Unit)=>Z [] []) (u88J9) (fun _ H=>?_) (fun _ n9 e9 t9=>?_)
     ·refine qA (Z [p 4 (B true)] []) <|
       vx_ret<|hr H
     refine qA (Z [p 9 (O 92),p 13 (I 0)] [(92,A 2 i64 v20 0)]) <|
      vx_block <|
      lX (fun (v21:Int)=>Z [p 9 (O 92),p 13 (I v21)] [(92,A 2 i64 v20 0)]) 0 H fun _ g10 b10 e10 t10 v21 H =>
      vx_seq <|
      qA (Z [p 9 (O 92),p 13 (I v21),p 145 (B (decide (v21 < (↑v20.length:Int))))] [(92,A 2 i64 v20 0)]) <|
      cD H (fun H=>?_) (fun H=>?_)
     ·refine vx_skip<|fx_seq<|vx_seq<|vx_block <|
       qB (Z [p 9 (O 92),p 13 (I v21),p 152 (B (v20.getD v21.toNat 0 != 1))] [(92,A 2 i64 v20 0)]) H fun H =>
       cD H (fun H=>?_) (fun H=>?_)
      ·refine qA (Z [p 4 (B false)] [(92,A 2 i64 v20 0)]) <|
        vx_ret<|fx_blk_ret<|fx_seq_ret<|t10<|fx_blk_ret<|t9<|hr H
      refine vx_skip<|fx_blk<|fx_seq <|
       zB (Z [p 9 (O 92),p 13 (I (v21+1))] [(92,A 2 i64 v20 0)]) H fun H =>
       b10 H
     exact vx_exit<|fx_seq_exit<|e10<|fx_blk_exit rfl<|n9 H
    refine qA (Z [p 3 (R 3),p 9 (O 92),p 12 (I 0)] [(92,A 2 i64 v13 0),(3,K 43 y43 a1)]) <|
     vx_block <|
     lX (fun ((v16,v17):Int×List Int)=>Z [p 3 (R 3),p 9 (O 92),p 12 (I v16)] [(92,A 2 i64 v17 0),(3,K 43 y43 a1)]) (0,v13) H fun _ g7 b7 e7 t7 ⟨v16,v17⟩ H =>
     vx_seq <|
     qA (Z [p 3 (R 3),p 9 (O 92),p 12 (I v16),p 121 (B (decide (v16 < (↑a1.2.2.length:Int))))] [(92,A 2 i64 v17 0),(3,K 43 y43 a1)]) <|
     cD H (fun H=>?_) (fun H=>?_)
    ·refine vx_skip<|fx_seq <|
      jN r (fun (v19:List Int)=>Z [p 3 (R 3),p 9 (O 92),p 12 (I v16)] [(92,A 2 i64 v19 0),(3,K 43 y43 a1)]) (u88J8 v16 g7) (fun v19 H=>?_) (fun _ n8 e8 t8=>?_)
     ·refine zB (Z [p 3 (R 3),p 9 (O 92),p 12 (I (v16+1))] [(92,A 2 i64 v19 0),(3,K 43 y43 a1)]) H fun H =>
       b7 H
     refine vx_block <|
      qB (Z [p 3 (R 3),p 9 (O 92),p 12 (I v16),p 130 (B ((a1.2.2.getD v16.toNat (dflt y172)).2.1==1))] [(92,A 2 i64 v17 0),(3,K 43 y43 a1)]) H fun H =>
      cD H (fun H=>?_) (fun H=>?_)
     ·refine zD (fun v18=>Z [p 3 (R 3),p 9 (O 92),p 12 (I v16)] [(92,A 2 i64 v18 0),(3,K 43 y43 a1)]) H fun v18 H =>
       fx_blk<|n8 H
     exact vx_skip<|fx_blk<|n8 H
    exact vx_exit<|fx_seq_exit<|e7<|fx_blk_exit rfl<|n6 H
   refine qA (Z [p 3 (R 3),p 9 (O 92),p 10 (I 0)] [(92,A 2 i64 (List.replicate (↑a1.2.1.length:Int).toNat 0) 0),(58,A 9 Ty.str v6 0),(41,A 9 Ty.str v2 0),(3,K 43 y43 a1)]) <|
    vx_block <|
    lX (fun ((v9,v10):Int×List Int)=>Z [p 3 (R 3),p 9 (O 92),p 10 (I v9)] [(92,A 2 i64 v10 0),(3,K 43 y43 a1)]) ((0,List.replicate (↑a1.2.1.length:Int).toNat 0)) H fun _ g5 b5 e5 t5 ⟨v9,v10⟩ H =>
    vx_seq <|
    qA (Z [p 3 (R 3),p 9 (O 92),p 10 (I v9),p 97 (B (decide (v9 < (↑a1.1.length:Int))))] [(92,A 2 i64 v10 0),(3,K 43 y43 a1)]) <|
    cD H (fun H=>?_) (fun H=>?_)
   ·refine vx_skip<|fx_seq<|vx_seq<|vx_block <|
     qD (fun v11=>Z [p 3 (R 3),p 9 (O 92),p 10 (I v9),p 11 (L i64 v11.2.2)] [(92,A 2 i64 v10 0),(3,K 43 y43 a1)]) H fun v11 H =>
     zD (fun v12=>Z [p 3 (R 3),p 9 (O 92),p 10 (I v9)] [(92,A 2 i64 v12 0),(3,K 43 y43 a1)]) H fun v12 H =>
     fx_blk<|fx_seq <|
     zB (Z [p 3 (R 3),p 9 (O 92),p 10 (I (v9+1))] [(92,A 2 i64 v12 0),(3,K 43 y43 a1)]) H fun H =>
     b5 H
   exact vx_exit<|fx_seq_exit<|e5<|fx_blk_exit rfl<|n4 H
  refine qA (Z [p 3 (R 3),p 5 (O 41),p 7 (O 58),p 8 (I 0)] [(58,A 9 Ty.str [] 0),(41,A 9 Ty.str v2 0),(3,K 43 y43 a1)]) <|
   vx_block <|
   lX (fun ((v4,v5):Int×List ByteArray)=>Z [p 3 (R 3),p 5 (O 41),p 7 (O 58),p 8 (I v4)] [(58,A 9 Ty.str v5 0),(41,A 9 Ty.str v2 0),(3,K 43 y43 a1)]) (0,[]) H fun _ g3 b3 e3 t3 ⟨v4,v5⟩ H =>
   vx_seq <|
   qA (Z [p 3 (R 3),p 5 (O 41),p 7 (O 58),p 8 (I v4),p 63 (B (decide (v4 < (↑a1.2.2.length:Int))))] [(58,A 9 Ty.str v5 0),(41,A 9 Ty.str v2 0),(3,K 43 y43 a1)]) <|
   cD H (fun H=>?_) (fun H=>?_)
  ·refine vx_skip<|fx_seq<|vx_seq<|vx_block <|
    zB (Z [p 3 (R 3),p 5 (O 41),p 7 (AV.os 58 1),p 8 (I v4)] [(58,A 9 Ty.str (v5++[(a1.2.2.getD v4.toNat (dflt y172)).1]) 1),(73,A 9 Ty.str [(a1.2.2.getD v4.toNat (dflt y172)).1] 0),(41,A 9 Ty.str v2 0),(3,K 43 y43 a1)]) H fun H =>
    fx_blk<|fx_seq <|
    zB (Z [p 3 (R 3),p 5 (O 41),p 7 (AV.os 58 1),p 8 (I (v4+1))] [(58,A 9 Ty.str (v5++[(a1.2.2.getD v4.toNat (dflt y172)).1]) 1),(73,A 9 Ty.str [(a1.2.2.getD v4.toNat (dflt y172)).1] 0),(41,A 9 Ty.str v2 0),(3,K 43 y43 a1)]) H fun H =>
    b3 H
  exact vx_exit<|fx_seq_exit<|e3<|fx_blk_exit rfl<|n2 H
 refine qA (Z [p 3 (R 3),p 5 (O 41),p 6 (I 0)] [(41,A 9 Ty.str [] 0),(3,K 43 y43 a1),(2,Ob.box 39 [L y134 a0])]) <|
  vx_block <|
  lX (fun ((v0,v1):Int×List ByteArray)=>Z [p 3 (R 3),p 5 (O 41),p 6 (I v0)] [(41,A 9 Ty.str v1 0),(3,K 43 y43 a1)]) (0,[]) H fun _ g1 b1 e1 t1 ⟨v0,v1⟩ H =>
  vx_seq <|
  qA (Z [p 3 (R 3),p 5 (O 41),p 6 (I v0),p 46 (B (decide (v0 < (↑a1.1.length:Int))))] [(41,A 9 Ty.str v1 0),(3,K 43 y43 a1)]) <|
  cD H (fun H=>?_) (fun H=>?_)
 ·refine vx_skip<|fx_seq<|vx_seq<|vx_block <|
   zB (Z [p 3 (R 3),p 5 (AV.os 41 1),p 6 (I v0)] [(41,A 9 Ty.str (v1++[(a1.1.getD v0.toNat (dflt y136)).1]) 1),(56,A 9 Ty.str [(a1.1.getD v0.toNat (dflt y136)).1] 0),(3,K 43 y43 a1)]) H fun H =>
   fx_blk<|fx_seq <|
   zB (Z [p 3 (R 3),p 5 (AV.os 41 1),p 6 (I (v0+1))] [(41,A 9 Ty.str (v1++[(a1.1.getD v0.toNat (dflt y136)).1]) 1),(56,A 9 Ty.str [(a1.1.getD v0.toNat (dflt y136)).1] 0),(3,K 43 y43 a1)]) H fun H =>
   b1 H
 exact vx_exit<|fx_seq_exit<|e1<|fx_blk_exit rfl<|n0 H
def u48J0:Unit→Option (Bool)
 | _ =>
 some true
def u48L1 (a0:Y46) (g1:Int→Option (Bool)):Int→Option (Bool)
 | v1 =>
 if (decide (v1 < (↑a0.2.2.length:Int)))=true then
  gd (ix v1 a0.2.2.length∧(u90 a0.2.1 v1).isSome=true∧(u89 (a0.2.2.getD v1.toNat (dflt y114)) (↑(vl (u90 a0.2.1 v1)).length:Int)).isSome=true∧True)<|lt (vl (u90 a0.2.1 v1)) fun v2 =>
  if (!vl (u89 (a0.2.2.getD v1.toNat (dflt y114)) (↑v2.length:Int)))=true then
   some false
  else
   gd (in64 (v1+1)∧True) <|
   g1 (v1+1)
 else
  u48J0 ()
def u48 (a0:Y46):Option (Bool) :=
 gd ((u88 a0.1 a0.2.1).isSome=true∧True) <|
 if (!vl (u88 a0.1 a0.2.1)||(↑a0.2.2.length:Int) != (↑a0.2.1.2.1.length:Int))=true then
  some false
 else
  lp (u48L1 a0) 0
def k48:Ct:=lct 48 [.agg y46] (fun x=>u48 x.1) (fun r:Bool=>B r) (fun _=>())
theorem o48:Ok Tryz.prog k48:=by
 refine okL [.tmp 2] Tryz.func48 Tryz.ntmps48 Tryz.results48 ?_
 intro y ⟨a0,_⟩ r H Q hn hr
 have:HT _ _:=⟨tc o89 (tc o90 (tc o88 tn))⟩
 refine qA (Z [p 1 (R 1)] [(1,K 46 y46 a0)]) <|
  vx_seq <|
  qB (Z [p 1 (R 1),p 19 (B (!vl (u88 a0.1 a0.2.1)||(↑a0.2.2.length:Int) != (↑a0.2.1.2.1.length:Int)))] [(1,K 46 y46 a0)]) H fun H =>
  cD H (fun H=>?_) (fun H=>?_)
 ·refine qA (Z [p 2 (B false)] [(1,K 46 y46 a0)]) <|
   vx_ret<|fx_seq_ret<|hr H
 refine vx_skip<|fx_seq <|
  jN r (fun (_:Unit)=>Z [] []) (u48J0) (fun _ H=>?_) (fun _ n0 e0 t0=>?_)
 ·refine qA (Z [p 2 (B true)] []) <|
   vx_ret<|hr H
 refine qA (Z [p 1 (R 1),p 3 (I 0)] [(1,K 46 y46 a0)]) <|
  vx_block <|
  lX (fun (v1:Int)=>Z [p 1 (R 1),p 3 (I v1)] [(1,K 46 y46 a0)]) 0 H fun _ g1 b1 e1 t1 v1 H =>
  vx_seq <|
  qA (Z [p 1 (R 1),p 3 (I v1),p 24 (B (decide (v1 < (↑a0.2.2.length:Int))))] [(1,K 46 y46 a0)]) <|
  cD H (fun H=>?_) (fun H=>?_)
 ·refine vx_skip<|fx_seq<|vx_seq<|vx_block <|
   qD (fun v2=>Z [p 1 (R 1),p 3 (I v1),p 38 (B !vl (u89 (a0.2.2.getD v1.toNat (dflt y114)) (↑v2.length:Int)))] [(35,A 2 i64 v2 0),(1,K 46 y46 a0)]) H fun v2 H =>
   cD H (fun H=>?_) (fun H=>?_)
  ·refine qA (Z [p 2 (B false)] [(35,A 2 i64 v2 0),(1,K 46 y46 a0)]) <|
    vx_ret<|fx_blk_ret<|fx_seq_ret<|t1<|fx_blk_ret<|t0<|hr H
  refine vx_skip<|fx_blk<|fx_seq <|
   zB (Z [p 1 (R 1),p 3 (I (v1+1))] [(35,A 2 i64 v2 0),(1,K 46 y46 a0)]) H fun H =>
   b1 H
 exact vx_exit<|fx_seq_exit<|e1<|fx_blk_exit rfl<|n0 H
def u23J0:List Int→Option (List Int)
 | v3 =>
 some v3
def u23L1 (a0:List Int) (g1:Int×List Int→Option (List Int)):Int×List Int→Option (List Int)
 | (v1,v2) =>
 if (decide (v1 < (↑a0.length:Int)))=true then
  gd (ix v1 a0.length∧ix v1 v2.length∧v1.toNat < v2.length∧True) <|
  gd (in64 (v1+1)∧True) <|
  g1 ((v1+1,v2.set v1.toNat (a0.getD v1.toNat 0)))
 else
  u23J0 v2
def u23 (a0:List Int):Option (List Int) :=
 gd ((0≤(↑a0.length:Int)∧(↑a0.length:Int)=(↑a0.length:Int)∧(↑a0.length:Int).toNat*8≤281474976710656∧(↑a0.length:Int)≤9223372036854775807)∧True) <|
 lp (u23L1 a0) ((0,List.replicate (↑a0.length:Int).toNat 0))
def k23:Ct:=lct 23 [.dat i64.sl] (fun x=>u23 x.1) (fun r:List Int=>AV.ow 2 true i64 r) (fun _=>())
theorem o23:Ok Tryz.prog k23:=by
 refine okL [.tmp 2] Tryz.func23 Tryz.ntmps23 Tryz.results23 ?_
 intro y ⟨a0,_⟩ r H Q hn hr
 have:HT _ _:=⟨@tn Tryz.prog⟩
 refine qA (Z [p 0 (L i64 a0)] []) <|
  qB (Z [p 0 (L i64 a0),p 3 (O 7)] [(7,A 2 i64 (List.replicate (↑a0.length:Int).toNat 0) 0)]) H fun H =>
  jN r (fun (v3:List Int)=>Z [p 3 (O 7)] [(7,A 2 i64 v3 0)]) (u23J0) (fun v3 H=>?_) (fun _ n0 e0 t0=>?_)
 ·refine qA (Z [p 2 (O 7)] [(7,A 2 i64 v3 0)]) <|
   vx_ret<|hr H
 refine qA (Z [p 0 (L i64 a0),p 3 (O 7),p 4 (I 0)] [(7,A 2 i64 (List.replicate (↑a0.length:Int).toNat 0) 0)]) <|
  vx_block <|
  lX (fun ((v1,v2):Int×List Int)=>Z [p 0 (L i64 a0),p 3 (O 7),p 4 (I v1)] [(7,A 2 i64 v2 0)]) ((0,List.replicate (↑a0.length:Int).toNat 0)) H fun _ g1 b1 e1 t1 ⟨v1,v2⟩ H =>
  vx_seq <|
  qA (Z [p 0 (L i64 a0),p 3 (O 7),p 4 (I v1),p 11 (B (decide (v1 < (↑a0.length:Int))))] [(7,A 2 i64 v2 0)]) <|
  cD H (fun H=>?_) (fun H=>?_)
 ·refine vx_skip<|fx_seq<|vx_seq<|vx_block <|
   zB (Z [p 0 (L i64 a0),p 3 (O 7),p 4 (I v1)] [(7,A 2 i64 (v2.set v1.toNat (a0.getD v1.toNat 0)) 0)]) H fun H =>
   fx_blk<|fx_seq <|
   zB (Z [p 0 (L i64 a0),p 3 (O 7),p 4 (I (v1+1))] [(7,A 2 i64 (v2.set v1.toNat (a0.getD v1.toNat 0)) 0)]) H fun H =>
   b1 H
 exact vx_exit<|fx_seq_exit<|e1<|fx_blk_exit rfl<|n0 H
def u76 (a0:Y111):Option (Y114) :=
 gd ((u23 a0.1).isSome=true∧True)<|lt (vl (u23 a0.1)) fun v0 =>
 gd ((u23 a0.2.1).isSome=true∧True)<|lt (vl (u23 a0.2.1)) fun v1 =>
 gd ((u23 a0.2.2.1).isSome=true∧True)<|lt (vl (u23 a0.2.2.1)) fun v2 =>
 gd ((u23 a0.2.2.2).isSome=true∧True)<|lt (vl (u23 a0.2.2.2)) fun v3 =>
 some (v0,v1,v2,v3)
def k76:Ct:=lct 76 [.agg y111] (fun x=>u76 x.1) (fun r:Y114=>AV.agg [AV.ow 2 true i64 r.1,AV.ow 2 true i64 r.2.1,AV.ow 2 true i64 r.2.2.1,AV.ow 2 true i64 r.2.2.2]) (fun _=>())
theorem o76:Ok Tryz.prog k76:=by
 refine okL [.cell 2 114] Tryz.func76 Tryz.ntmps76 Tryz.results76 ?_
 intro y ⟨a0,_⟩ r H Q hn hr
 have:HT _ _:=⟨tc o23 tn⟩
 refine qA (Z [p 1 (R 1),p 2 (R 2)] [(2,Ob.box 114 [nil,nil,nil,nil]),(1,K 111 y111 a0)]) <|
  qA (Z [p 1 (R 1),p 2 (R 2),p 3 (R 3)] [(3,Ob.box 114 [nil,nil,nil,nil]),(2,Ob.box 114 [nil,nil,nil,nil]),(1,K 111 y111 a0)]) <|
  qD (fun v0=>Z [p 1 (R 1),p 2 (R 2),p 3 (R 3)] [(3,Ob.box 114 [AV.os 6 0,nil,nil,nil]),(6,A 2 i64 v0 0),(2,Ob.box 114 [nil,nil,nil,nil]),(1,K 111 y111 a0)]) H fun v0 H =>
  qD (fun v1=>Z [p 1 (R 1),p 2 (R 2),p 3 (R 3)] [(3,Ob.box 114 [AV.os 6 0,AV.os 10 0,nil,nil]),(10,A 2 i64 v1 0),(6,A 2 i64 v0 0),(2,Ob.box 114 [nil,nil,nil,nil]),(1,K 111 y111 a0)]) H fun v1 H =>
  qD (fun v2=>Z [p 1 (R 1),p 2 (R 2),p 3 (R 3)] [(3,Ob.box 114 [AV.os 6 0,AV.os 10 0,AV.os 14 0,nil]),(14,A 2 i64 v2 0),(10,A 2 i64 v1 0),(6,A 2 i64 v0 0),(2,Ob.box 114 [nil,nil,nil,nil]),(1,K 111 y111 a0)]) H fun v2 H =>
  qD (fun v3=>Z [p 2 (R 2),p 3 (R 3)] [(3,Ob.box 114 [AV.os 6 0,AV.os 10 0,AV.os 14 0,AV.os 18 0]),(18,A 2 i64 v3 0),(14,A 2 i64 v2 0),(10,A 2 i64 v1 0),(6,A 2 i64 v0 0),(2,Ob.box 114 [nil,nil,nil,nil]),(1,K 111 y111 a0)]) H fun v3 H =>
  qA (Z [p 2 (R 2)] [(2,Ob.box 114 [AV.os 6 0,AV.os 10 0,AV.os 14 0,AV.os 18 0]),(3,Ob.box 114 [AV.os 6 0,AV.os 10 0,AV.os 14 0,AV.os 18 0]),(18,A 2 i64 v3 0),(14,A 2 i64 v2 0),(10,A 2 i64 v1 0),(6,A 2 i64 v0 0),(1,K 111 y111 a0)]) <|
  vx_ret<|hr H
def k76d:Ct:=lct 76 [.agg y111] (fun x=>u76 x.1) (fun r=>frz ((fun r:Y114=>AV.agg [AV.ow 2 true i64 r.1,AV.ow 2 true i64 r.2.1,AV.ow 2 true i64 r.2.2.1,AV.ow 2 true i64 r.2.2.2]) r)) (fun _=>())
theorem o76d:Ok Tryz.prog k76d:=ok_frz o76
def u37J0:List Y114→Option (List Y114)
 | v5 =>
 some v5
def u37L1 (a0:List Y111) (g1:Int×List Y114→Option (List Y114)):Int×List Y114→Option (List Y114)
 | (v2,v3) =>
 if (decide (v2 < (↑a0.length:Int)))=true then
  gd (ix v2 a0.length∧(u76 (a0.getD v2.toNat (dflt y111))).isSome=true∧ix v2 v3.length∧v2.toNat < v3.length∧True)<|lt (vl (u76 (a0.getD v2.toNat (dflt y111)))) fun v4 =>
  gd (in64 (v2+1)∧True) <|
  g1 (v2+1,v3.set v2.toNat v4)
 else
  u37J0 v3
def u37 (a0:List Y111):Option (List Y114) :=
 gd ((0≤(↑a0.length:Int)∧(↑a0.length:Int)=(↑a0.length:Int)∧(↑a0.length:Int).toNat*96≤281474976710656∧(↑a0.length:Int)≤9223372036854775807)∧True) <|
 lp (u37L1 a0) ((0,List.replicate (↑a0.length:Int).toNat ([],[],[],[])))
def k37:Ct:=lct 37 [.dat y111.sl] (fun x=>u37 x.1) (fun r:List Y114=>AV.ow 114 true y114 r) (fun _=>())
theorem o37:Ok Tryz.prog k37:=by
 refine okL [.tmp 2] Tryz.func37 Tryz.ntmps37 Tryz.results37 ?_
 intro y ⟨a0,_⟩ r H Q hn hr
 have:HT _ _:=⟨tc o76d tn⟩
 refine qA (Z [p 0 (L y111 a0)] []) <|
  qB (Z [p 0 (L y111 a0),p 3 (O 7)] [(7,A 114 y114 (List.replicate (↑a0.length:Int).toNat ([],[],[],[])) 0)]) H fun H =>
  jN r (fun (v5:List Y114)=>Z [p 3 (O 7)] [(7,A 114 y114 v5 0)]) (u37J0) (fun v5 H=>?_) (fun _ n0 e0 t0=>?_)
 ·refine qA (Z [p 2 (O 7)] [(7,A 114 y114 v5 0)]) <|
   vx_ret<|hr H
 refine qA (Z [p 0 (L y111 a0),p 3 (O 7),p 4 (I 0)] [(7,A 114 y114 (List.replicate (↑a0.length:Int).toNat ([],[],[],[])) 0)]) <|
  vx_block <|
  lX (fun ((v2,v3):Int×List Y114)=>Z [p 0 (L y111 a0),p 3 (O 7),p 4 (I v2)] [(7,A 114 y114 v3 0)]) ((0,List.replicate (↑a0.length:Int).toNat ([],[],[],[]))) H fun _ g1 b1 e1 t1 ⟨v2,v3⟩ H =>
  vx_seq <|
  qA (Z [p 0 (L y111 a0),p 3 (O 7),p 4 (I v2),p 11 (B (decide (v2 < (↑a0.length:Int))))] [(7,A 114 y114 v3 0)]) <|
  cD H (fun H=>?_) (fun H=>?_)
 ·refine vx_skip<|fx_seq<|vx_seq<|vx_block <|
   zD (fun v4=>Z [p 0 (L y111 a0),p 3 (O 7),p 4 (I v2)] [(7,A 114 y114 (v3.set v2.toNat v4) 0)]) H fun v4 H =>
   fx_blk<|fx_seq <|
   zB (Z [p 0 (L y111 a0),p 3 (O 7),p 4 (I (v2+1))] [(7,A 114 y114 (v3.set v2.toNat v4) 0)]) H fun H =>
   b1 H
 exact vx_exit<|fx_seq_exit<|e1<|fx_blk_exit rfl<|n0 H
def u119 (a0:Y169):Option (Y172) :=
 some a0
def k119:Ct:=lct 119 [.agg y169] (fun x=>u119 x.1) (fun r:Y172=>AV.agg [S r.1,I r.2.1,I r.2.2]) (fun _=>())
theorem o119:Ok Tryz.prog k119:=by
 refine okL [.cell 2 172] Tryz.func119 Tryz.ntmps119 Tryz.results119 ?_
 intro y ⟨a0,_⟩ r H Q hn hr
 have:HT _ _:=⟨@tn Tryz.prog⟩
 refine qA (Z [p 1 (R 1),p 2 (R 2)] [(2,Ob.box 172 [S (ByteArray.mk #[]),I 0,I 0]),(1,K 169 y169 a0)]) <|
  qA (Z [p 1 (R 1),p 2 (R 2),p 3 (R 3)] [(3,Ob.box 172 [S (ByteArray.mk #[]),I 0,I 0]),(2,Ob.box 172 [S (ByteArray.mk #[]),I 0,I 0]),(1,K 169 y169 a0)]) <|
  qA (Z [p 1 (R 1),p 2 (R 2),p 3 (R 3)] [(3,Ob.box 172 [U a0.1,I 0,I 0]),(2,Ob.box 172 [S (ByteArray.mk #[]),I 0,I 0]),(1,K 169 y169 a0)]) <|
  qA (Z [p 1 (R 1),p 2 (R 2),p 3 (R 3)] [(3,Ob.box 172 [U a0.1,J a0.2.1,I 0]),(2,Ob.box 172 [S (ByteArray.mk #[]),I 0,I 0]),(1,K 169 y169 a0)]) <|
  qA (Z [p 2 (R 2),p 3 (R 3)] [(3,K 172 y172 a0),(2,Ob.box 172 [S (ByteArray.mk #[]),I 0,I 0]),(1,K 169 y169 a0)]) <|
  qA (Z [p 2 (R 2)] [(2,K 172 y172 a0),(3,K 172 y172 a0),(1,K 169 y169 a0)]) <|
  vx_ret<|hr H
def u75J0:List Y172→Option (List Y172)
 | v5 =>
 some v5
def u75L1 (a0:List Y169) (g1:Int×List Y172→Option (List Y172)):Int×List Y172→Option (List Y172)
 | (v2,v3) =>
 if (decide (v2 < (↑a0.length:Int)))=true then
  gd (ix v2 a0.length∧(u119 (a0.getD v2.toNat (dflt y169))).isSome=true∧ix v2 v3.length∧v2.toNat < v3.length∧True)<|lt (vl (u119 (a0.getD v2.toNat (dflt y169)))) fun v4 =>
  gd (in64 (v2+1)∧True) <|
  g1 (v2+1,v3.set v2.toNat v4)
 else
  u75J0 v3
def u75 (a0:List Y169):Option (List Y172) :=
 gd ((0≤(↑a0.length:Int)∧(↑a0.length:Int)=(↑a0.length:Int)∧(↑a0.length:Int).toNat*32≤281474976710656∧(↑a0.length:Int)≤9223372036854775807)∧True)<|lt (List.replicate (↑a0.length:Int).toNat (ByteArray.mk #[],(0:Int),(0:Int))) fun v0 =>
 lp (u75L1 a0) (0,v0)
def k75:Ct:=lct 75 [.dat y169.sl] (fun x=>u75 x.1) (fun r:List Y172=>AV.ow 172 true y172 r) (fun _=>())
theorem o75:Ok Tryz.prog k75:=by
 refine okL [.tmp 2] Tryz.func75 Tryz.ntmps75 Tryz.results75 ?_
 intro y ⟨a0,_⟩ r H Q hn hr
 have:HT _ _:=⟨tc o119 tn⟩
 refine qA (Z [p 0 (L y169 a0)] []) <|
  qD (fun v0=>Z [p 0 (L y169 a0),p 3 (O 7)] [(7,A 172 y172 v0 0)]) H fun v0 H =>
  jN r (fun (v5:List Y172)=>Z [p 3 (O 7)] [(7,A 172 y172 v5 0)]) (u75J0) (fun v5 H=>?_) (fun _ n0 e0 t0=>?_)
 ·refine qA (Z [p 2 (O 7)] [(7,A 172 y172 v5 0)]) <|
   vx_ret<|hr H
 refine qA (Z [p 0 (L y169 a0),p 3 (O 7),p 4 (I 0)] [(7,A 172 y172 v0 0)]) <|
  vx_block <|
  lX (fun ((v2,v3):Int×List Y172)=>Z [p 0 (L y169 a0),p 3 (O 7),p 4 (I v2)] [(7,A 172 y172 v3 0)]) (0,v0) H fun _ g1 b1 e1 t1 ⟨v2,v3⟩ H =>
  vx_seq <|
  qA (Z [p 0 (L y169 a0),p 3 (O 7),p 4 (I v2),p 11 (B (decide (v2 < (↑a0.length:Int))))] [(7,A 172 y172 v3 0)]) <|
  cD H (fun H=>?_) (fun H=>?_)
 ·refine vx_skip<|fx_seq<|vx_seq<|vx_block <|
   zD (fun v4=>Z [p 0 (L y169 a0),p 3 (O 7),p 4 (I v2)] [(7,A 172 y172 (v3.set v2.toNat v4) 0)]) H fun v4 H =>
   fx_blk<|fx_seq <|
   zB (Z [p 0 (L y169 a0),p 3 (O 7),p 4 (I (v2+1))] [(7,A 172 y172 (v3.set v2.toNat v4) 0)]) H fun H =>
   b1 H
 exact vx_exit<|fx_seq_exit<|e1<|fx_blk_exit rfl<|n0 H
def u74J0:List ByteArray→Option (List ByteArray)
 | v3 =>
 some v3
def u74L1 (a0:List ByteArray) (g1:Int×List ByteArray→Option (List ByteArray)):Int×List ByteArray→Option (List ByteArray)
 | (v1,v2) =>
 if (decide (v1 < (↑a0.length:Int)))=true then
  gd (ix v1 a0.length∧ix v1 v2.length∧v1.toNat < v2.length∧True) <|
  gd (in64 (v1+1)∧True) <|
  g1 ((v1+1,v2.set v1.toNat (a0.getD v1.toNat (dflt Ty.str))))
 else
  u74J0 v2
def u74 (a0:List ByteArray):Option (List ByteArray) :=
 gd ((0≤(↑a0.length:Int)∧(↑a0.length:Int)=(↑a0.length:Int)∧(↑a0.length:Int).toNat*16≤281474976710656∧(↑a0.length:Int)≤9223372036854775807)∧True) <|
 lp (u74L1 a0) ((0,List.replicate (↑a0.length:Int).toNat (ByteArray.mk #[])))
def k74:Ct:=lct 74 [.dat Ty.str.sl] (fun x=>u74 x.1) (fun r:List ByteArray=>AV.ow 9 true Ty.str r) (fun _=>())
theorem o74:Ok Tryz.prog k74:=by
 refine okL [.tmp 2] Tryz.func74 Tryz.ntmps74 Tryz.results74 ?_
 intro y ⟨a0,_⟩ r H Q hn hr
 have:HT _ _:=⟨@tn Tryz.prog⟩
 refine qA (Z [p 0 (L Ty.str a0)] []) <|
  qB (Z [p 0 (L Ty.str a0),p 3 (O 7)] [(7,A 9 Ty.str (List.replicate (↑a0.length:Int).toNat (ByteArray.mk #[])) 0)]) H fun H =>
  jN r (fun (v3:List ByteArray)=>Z [p 3 (O 7)] [(7,A 9 Ty.str v3 0)]) (u74J0) (fun v3 H=>?_) (fun _ n0 e0 t0=>?_)
 ·refine qA (Z [p 2 (O 7)] [(7,A 9 Ty.str v3 0)]) <|
   vx_ret<|hr H
 refine qA (Z [p 0 (L Ty.str a0),p 3 (O 7),p 4 (I 0)] [(7,A 9 Ty.str (List.replicate (↑a0.length:Int).toNat (ByteArray.mk #[])) 0)]) <|
  vx_block <|
  lX (fun ((v1,v2):Int×List ByteArray)=>Z [p 0 (L Ty.str a0),p 3 (O 7),p 4 (I v1)] [(7,A 9 Ty.str v2 0)]) ((0,List.replicate (↑a0.length:Int).toNat (ByteArray.mk #[]))) H fun _ g1 b1 e1 t1 ⟨v1,v2⟩ H =>
  vx_seq <|
  qA (Z [p 0 (L Ty.str a0),p 3 (O 7),p 4 (I v1),p 11 (B (decide (v1 < (↑a0.length:Int))))] [(7,A 9 Ty.str v2 0)]) <|
  cD H (fun H=>?_) (fun H=>?_)
 ·refine vx_skip<|fx_seq<|vx_seq<|vx_block <|
   zB (Z [p 0 (L Ty.str a0),p 3 (O 7),p 4 (I v1)] [(7,A 9 Ty.str (v2.set v1.toNat (a0.getD v1.toNat (dflt Ty.str))) 0)]) H fun H =>
   fx_blk<|fx_seq <|
   zB (Z [p 0 (L Ty.str a0),p 3 (O 7),p 4 (I (v1+1))] [(7,A 9 Ty.str (v2.set v1.toNat (a0.getD v1.toNat (dflt Ty.str))) 0)]) H fun H =>
   b1 H
 exact vx_exit<|fx_seq_exit<|e1<|fx_blk_exit rfl<|n0 H
def u118 (a0:Y166):Option (Y136) :=
 gd ((u23 a0.2.2).isSome=true∧True)<|lt (vl (u23 a0.2.2)) fun v0 =>
 some (a0.1,a0.2.1,v0)
def k118:Ct:=lct 118 [.agg y166] (fun x=>u118 x.1) (fun r:Y136=>AV.agg [S r.1,I r.2.1,AV.ow 2 true i64 r.2.2]) (fun _=>())
theorem o118:Ok Tryz.prog k118:=by
 refine okL [.cell 2 136] Tryz.func118 Tryz.ntmps118 Tryz.results118 ?_
 intro y ⟨a0,_⟩ r H Q hn hr
 have:HT _ _:=⟨tc o23 tn⟩
 refine qA (Z [p 1 (R 1),p 2 (R 2)] [(2,Ob.box 136 [S (ByteArray.mk #[]),I 0,nil]),(1,K 166 y166 a0)]) <|
  qA (Z [p 1 (R 1),p 2 (R 2),p 3 (R 3)] [(3,Ob.box 136 [S (ByteArray.mk #[]),I 0,nil]),(2,Ob.box 136 [S (ByteArray.mk #[]),I 0,nil]),(1,K 166 y166 a0)]) <|
  qA (Z [p 1 (R 1),p 2 (R 2),p 3 (R 3)] [(3,Ob.box 136 [U a0.1,I 0,nil]),(2,Ob.box 136 [S (ByteArray.mk #[]),I 0,nil]),(1,K 166 y166 a0)]) <|
  qA (Z [p 1 (R 1),p 2 (R 2),p 3 (R 3)] [(3,Ob.box 136 [U a0.1,J a0.2.1,nil]),(2,Ob.box 136 [S (ByteArray.mk #[]),I 0,nil]),(1,K 166 y166 a0)]) <|
  qD (fun v0=>Z [p 2 (R 2),p 3 (R 3)] [(3,Ob.box 136 [U a0.1,J a0.2.1,AV.os 12 0]),(12,A 2 i64 v0 0),(2,Ob.box 136 [S (ByteArray.mk #[]),I 0,nil]),(1,K 166 y166 a0)]) H fun v0 H =>
  qA (Z [p 2 (R 2)] [(2,Ob.box 136 [U a0.1,J a0.2.1,AV.os 12 0]),(3,Ob.box 136 [U a0.1,J a0.2.1,AV.os 12 0]),(12,A 2 i64 v0 0),(1,K 166 y166 a0)]) <|
  vx_ret<|hr H
def k118d:Ct:=lct 118 [.agg y166] (fun x=>u118 x.1) (fun r=>frz ((fun r:Y136=>AV.agg [S r.1,I r.2.1,AV.ow 2 true i64 r.2.2]) r)) (fun _=>())
theorem o118d:Ok Tryz.prog k118d:=ok_frz o118
def u73J0:List Y136→Option (List Y136)
 | v5 =>
 some v5
def u73L1 (a0:List Y166) (g1:Int×List Y136→Option (List Y136)):Int×List Y136→Option (List Y136)
 | (v2,v3) =>
 if (decide (v2 < (↑a0.length:Int)))=true then
  gd (ix v2 a0.length∧(u118 (a0.getD v2.toNat (dflt y166))).isSome=true∧ix v2 v3.length∧v2.toNat < v3.length∧True)<|lt (vl (u118 (a0.getD v2.toNat (dflt y166)))) fun v4 =>
  gd (in64 (v2+1)∧True) <|
  g1 (v2+1,v3.set v2.toNat v4)
 else
  u73J0 v3
def u73 (a0:List Y166):Option (List Y136) :=
 gd ((0≤(↑a0.length:Int)∧(↑a0.length:Int)=(↑a0.length:Int)∧(↑a0.length:Int).toNat*48≤281474976710656∧(↑a0.length:Int)≤9223372036854775807)∧True)<|lt (List.replicate (↑a0.length:Int).toNat (ByteArray.mk #[],(0:Int),[])) fun v0 =>
 lp (u73L1 a0) (0,v0)
def k73:Ct:=lct 73 [.dat y166.sl] (fun x=>u73 x.1) (fun r:List Y136=>AV.ow 136 true y136 r) (fun _=>())
theorem o73:Ok Tryz.prog k73:=by
 refine okL [.tmp 2] Tryz.func73 Tryz.ntmps73 Tryz.results73 ?_
 intro y ⟨a0,_⟩ r H Q hn hr
 have:HT _ _:=⟨tc o118d tn⟩
 refine qA (Z [p 0 (L y166 a0)] []) <|
  qD (fun v0=>Z [p 0 (L y166 a0),p 3 (O 7)] [(7,A 136 y136 v0 0)]) H fun v0 H =>
  jN r (fun (v5:List Y136)=>Z [p 3 (O 7)] [(7,A 136 y136 v5 0)]) (u73J0) (fun v5 H=>?_) (fun _ n0 e0 t0=>?_)
 ·refine qA (Z [p 2 (O 7)] [(7,A 136 y136 v5 0)]) <|
   vx_ret<|hr H
 refine qA (Z [p 0 (L y166 a0),p 3 (O 7),p 4 (I 0)] [(7,A 136 y136 v0 0)]) <|
  vx_block <|
  lX (fun ((v2,v3):Int×List Y136)=>Z [p 0 (L y166 a0),p 3 (O 7),p 4 (I v2)] [(7,A 136 y136 v3 0)]) (0,v0) H fun _ g1 b1 e1 t1 ⟨v2,v3⟩ H =>
  vx_seq <|
  qA (Z [p 0 (L y166 a0),p 3 (O 7),p 4 (I v2),p 11 (B (decide (v2 < (↑a0.length:Int))))] [(7,A 136 y136 v3 0)]) <|
  cD H (fun H=>?_) (fun H=>?_)
 ·refine vx_skip<|fx_seq<|vx_seq<|vx_block <|
   zD (fun v4=>Z [p 0 (L y166 a0),p 3 (O 7),p 4 (I v2)] [(7,A 136 y136 (v3.set v2.toNat v4) 0)]) H fun v4 H =>
   fx_blk<|fx_seq <|
   zB (Z [p 0 (L y166 a0),p 3 (O 7),p 4 (I (v2+1))] [(7,A 136 y136 (v3.set v2.toNat v4) 0)]) H fun H =>
   b1 H
 exact vx_exit<|fx_seq_exit<|e1<|fx_blk_exit rfl<|n0 H
def u36 (a0:Y29):Option (Y43) :=
 gd ((u73 a0.1).isSome=true∧True)<|lt (vl (u73 a0.1)) fun v0 =>
 gd ((u74 a0.2.1).isSome=true∧True)<|lt (vl (u74 a0.2.1)) fun v1 =>
 gd ((u75 a0.2.2).isSome=true∧True)<|lt (vl (u75 a0.2.2)) fun v2 =>
 some (v0,v1,v2)
def k36:Ct:=lct 36 [.agg y29] (fun x=>u36 x.1) (fun r:Y43=>AV.agg [AV.ow 136 true y136 r.1,AV.ow 9 true Ty.str r.2.1,AV.ow 172 true y172 r.2.2]) (fun _=>())
theorem o36:Ok Tryz.prog k36:=by
 refine okL [.cell 2 43] Tryz.func36 Tryz.ntmps36 Tryz.results36 ?_
 intro y ⟨a0,_⟩ r H Q hn hr
 have:HT _ _:=⟨tc o75 (tc o74 (tc o73 tn))⟩
 refine qA (Z [p 1 (R 1),p 2 (R 2)] [(2,Ob.box 43 [nil,nil,nil]),(1,K 29 y29 a0)]) <|
  qA (Z [p 1 (R 1),p 2 (R 2),p 3 (R 3)] [(3,Ob.box 43 [nil,nil,nil]),(2,Ob.box 43 [nil,nil,nil]),(1,K 29 y29 a0)]) <|
  qD (fun v0=>Z [p 1 (R 1),p 2 (R 2),p 3 (R 3)] [(3,Ob.box 43 [AV.os 6 0,nil,nil]),(6,A 136 y136 v0 0),(2,Ob.box 43 [nil,nil,nil]),(1,K 29 y29 a0)]) H fun v0 H =>
  qD (fun v1=>Z [p 1 (R 1),p 2 (R 2),p 3 (R 3)] [(3,Ob.box 43 [AV.os 6 0,AV.os 10 0,nil]),(10,A 9 Ty.str v1 0),(6,A 136 y136 v0 0),(2,Ob.box 43 [nil,nil,nil]),(1,K 29 y29 a0)]) H fun v1 H =>
  qD (fun v2=>Z [p 2 (R 2),p 3 (R 3)] [(3,Ob.box 43 [AV.os 6 0,AV.os 10 0,AV.os 14 0]),(14,A 172 y172 v2 0),(10,A 9 Ty.str v1 0),(6,A 136 y136 v0 0),(2,Ob.box 43 [nil,nil,nil]),(1,K 29 y29 a0)]) H fun v2 H =>
  qA (Z [p 2 (R 2)] [(2,Ob.box 43 [AV.os 6 0,AV.os 10 0,AV.os 14 0]),(3,Ob.box 43 [AV.os 6 0,AV.os 10 0,AV.os 14 0]),(14,A 172 y172 v2 0),(10,A 9 Ty.str v1 0),(6,A 136 y136 v0 0),(1,K 29 y29 a0)]) <|
  vx_ret<|hr H
def u192 (a0:Y243):Option (Y223) :=
 gd ((u23 a0.1).isSome=true∧True)<|lt (vl (u23 a0.1)) fun v0 =>
 gd ((u23 a0.2.1).isSome=true∧True)<|lt (vl (u23 a0.2.1)) fun v1 =>
 gd ((u23 a0.2.2).isSome=true∧True)<|lt (vl (u23 a0.2.2)) fun v2 =>
 some (v0,v1,v2)
def k192:Ct:=lct 192 [.agg y243] (fun x=>u192 x.1) (fun r:Y223=>AV.agg [AV.ow 2 true i64 r.1,AV.ow 2 true i64 r.2.1,AV.ow 2 true i64 r.2.2]) (fun _=>())
theorem o192:Ok Tryz.prog k192:=by
 refine okL [.cell 2 223] Tryz.func192 Tryz.ntmps192 Tryz.results192 ?_
 intro y ⟨a0,_⟩ r H Q hn hr
 have:HT _ _:=⟨tc o23 tn⟩
 refine qA (Z [p 1 (R 1),p 2 (R 2)] [(2,Ob.box 223 [nil,nil,nil]),(1,K 243 y243 a0)]) <|
  qA (Z [p 1 (R 1),p 2 (R 2),p 3 (R 3)] [(3,Ob.box 223 [nil,nil,nil]),(2,Ob.box 223 [nil,nil,nil]),(1,K 243 y243 a0)]) <|
  qD (fun v0=>Z [p 1 (R 1),p 2 (R 2),p 3 (R 3)] [(3,Ob.box 223 [AV.os 6 0,nil,nil]),(6,A 2 i64 v0 0),(2,Ob.box 223 [nil,nil,nil]),(1,K 243 y243 a0)]) H fun v0 H =>
  qD (fun v1=>Z [p 1 (R 1),p 2 (R 2),p 3 (R 3)] [(3,Ob.box 223 [AV.os 6 0,AV.os 10 0,nil]),(10,A 2 i64 v1 0),(6,A 2 i64 v0 0),(2,Ob.box 223 [nil,nil,nil]),(1,K 243 y243 a0)]) H fun v1 H =>
  qD (fun v2=>Z [p 2 (R 2),p 3 (R 3)] [(3,Ob.box 223 [AV.os 6 0,AV.os 10 0,AV.os 14 0]),(14,A 2 i64 v2 0),(10,A 2 i64 v1 0),(6,A 2 i64 v0 0),(2,Ob.box 223 [nil,nil,nil]),(1,K 243 y243 a0)]) H fun v2 H =>
  qA (Z [p 2 (R 2)] [(2,Ob.box 223 [AV.os 6 0,AV.os 10 0,AV.os 14 0]),(3,Ob.box 223 [AV.os 6 0,AV.os 10 0,AV.os 14 0]),(14,A 2 i64 v2 0),(10,A 2 i64 v1 0),(6,A 2 i64 v0 0),(1,K 243 y243 a0)]) <|
  vx_ret<|hr H
def k192d:Ct:=lct 192 [.agg y243] (fun x=>u192 x.1) (fun r=>frz ((fun r:Y223=>AV.agg [AV.ow 2 true i64 r.1,AV.ow 2 true i64 r.2.1,AV.ow 2 true i64 r.2.2]) r)) (fun _=>())
theorem o192d:Ok Tryz.prog k192d:=ok_frz o192
def u179J0:List Y223→Option (List Y223)
 | v5 =>
 some v5
def u179L1 (a0:List Y243) (g1:Int×List Y223→Option (List Y223)):Int×List Y223→Option (List Y223)
 | (v2,v3) =>
 if (decide (v2 < (↑a0.length:Int)))=true then
  gd (ix v2 a0.length∧(u192 (a0.getD v2.toNat (dflt y243))).isSome=true∧ix v2 v3.length∧v2.toNat < v3.length∧True)<|lt (vl (u192 (a0.getD v2.toNat (dflt y243)))) fun v4 =>
  gd (in64 (v2+1)∧True) <|
  g1 (v2+1,v3.set v2.toNat v4)
 else
  u179J0 v3
def u179 (a0:List Y243):Option (List Y223) :=
 gd ((0≤(↑a0.length:Int)∧(↑a0.length:Int)=(↑a0.length:Int)∧(↑a0.length:Int).toNat*72≤281474976710656∧(↑a0.length:Int)≤9223372036854775807)∧True) <|
 lp (u179L1 a0) ((0,List.replicate (↑a0.length:Int).toNat ([],[],[])))
def k179:Ct:=lct 179 [.dat y243.sl] (fun x=>u179 x.1) (fun r:List Y223=>AV.ow 223 true y223 r) (fun _=>())
theorem o179:Ok Tryz.prog k179:=by
 refine okL [.tmp 2] Tryz.func179 Tryz.ntmps179 Tryz.results179 ?_
 intro y ⟨a0,_⟩ r H Q hn hr
 have:HT _ _:=⟨tc o192d tn⟩
 refine qA (Z [p 0 (L y243 a0)] []) <|
  qB (Z [p 0 (L y243 a0),p 3 (O 7)] [(7,A 223 y223 (List.replicate (↑a0.length:Int).toNat ([],[],[])) 0)]) H fun H =>
  jN r (fun (v5:List Y223)=>Z [p 3 (O 7)] [(7,A 223 y223 v5 0)]) (u179J0) (fun v5 H=>?_) (fun _ n0 e0 t0=>?_)
 ·refine qA (Z [p 2 (O 7)] [(7,A 223 y223 v5 0)]) <|
   vx_ret<|hr H
 refine qA (Z [p 0 (L y243 a0),p 3 (O 7),p 4 (I 0)] [(7,A 223 y223 (List.replicate (↑a0.length:Int).toNat ([],[],[])) 0)]) <|
  vx_block <|
  lX (fun ((v2,v3):Int×List Y223)=>Z [p 0 (L y243 a0),p 3 (O 7),p 4 (I v2)] [(7,A 223 y223 v3 0)]) ((0,List.replicate (↑a0.length:Int).toNat ([],[],[]))) H fun _ g1 b1 e1 t1 ⟨v2,v3⟩ H =>
  vx_seq <|
  qA (Z [p 0 (L y243 a0),p 3 (O 7),p 4 (I v2),p 11 (B (decide (v2 < (↑a0.length:Int))))] [(7,A 223 y223 v3 0)]) <|
  cD H (fun H=>?_) (fun H=>?_)
 ·refine vx_skip<|fx_seq<|vx_seq<|vx_block <|
   zD (fun v4=>Z [p 0 (L y243 a0),p 3 (O 7),p 4 (I v2)] [(7,A 223 y223 (v3.set v2.toNat v4) 0)]) H fun v4 H =>
   fx_blk<|fx_seq <|
   zB (Z [p 0 (L y243 a0),p 3 (O 7),p 4 (I (v2+1))] [(7,A 223 y223 (v3.set v2.toNat v4) 0)]) H fun H =>
   b1 H
 exact vx_exit<|fx_seq_exit<|e1<|fx_blk_exit rfl<|n0 H
def u166 (a0:Y217):Option (Y139) :=
 gd ((u179 a0.2.2.2.2.1).isSome=true∧True)<|lt (vl (u179 a0.2.2.2.2.1)) fun v0 =>
 gd ((u179 a0.2.2.2.2.2).isSome=true∧True)<|lt (vl (u179 a0.2.2.2.2.2)) fun v1 =>
 some (a0.1,a0.2.1,a0.2.2.1,a0.2.2.2.1,v0,v1)
def k166:Ct:=lct 166 [.agg y217] (fun x=>u166 x.1) (fun r:Y139=>AV.agg [I r.1,I r.2.1,I r.2.2.1,I r.2.2.2.1,AV.ow 223 true y223 r.2.2.2.2.1,AV.ow 223 true y223 r.2.2.2.2.2]) (fun _=>())
theorem o166:Ok Tryz.prog k166:=by
 refine okL [.cell 2 139] Tryz.func166 Tryz.ntmps166 Tryz.results166 ?_
 intro y ⟨a0,_⟩ r H Q hn hr
 have:HT _ _:=⟨tc o179 tn⟩
 refine qA (Z [p 1 (R 1),p 2 (R 2)] [(2,Ob.box 139 [I 0,I 0,I 0,I 0,nil,nil]),(1,K 217 y217 a0)]) <|
  qA (Z [p 1 (R 1),p 2 (R 2),p 3 (R 3)] [(3,Ob.box 139 [I 0,I 0,I 0,I 0,nil,nil]),(2,Ob.box 139 [I 0,I 0,I 0,I 0,nil,nil]),(1,K 217 y217 a0)]) <|
  qA (Z [p 1 (R 1),p 2 (R 2),p 3 (R 3)] [(3,Ob.box 139 [J a0.1,I 0,I 0,I 0,nil,nil]),(2,Ob.box 139 [I 0,I 0,I 0,I 0,nil,nil]),(1,K 217 y217 a0)]) <|
  qA (Z [p 1 (R 1),p 2 (R 2),p 3 (R 3)] [(3,Ob.box 139 [J a0.1,J a0.2.1,I 0,I 0,nil,nil]),(2,Ob.box 139 [I 0,I 0,I 0,I 0,nil,nil]),(1,K 217 y217 a0)]) <|
  qA (Z [p 1 (R 1),p 2 (R 2),p 3 (R 3)] [(3,Ob.box 139 [J a0.1,J a0.2.1,J a0.2.2.1,I 0,nil,nil]),(2,Ob.box 139 [I 0,I 0,I 0,I 0,nil,nil]),(1,K 217 y217 a0)]) <|
  qA (Z [p 1 (R 1),p 2 (R 2),p 3 (R 3)] [(3,Ob.box 139 [J a0.1,J a0.2.1,J a0.2.2.1,J a0.2.2.2.1,nil,nil]),(2,Ob.box 139 [I 0,I 0,I 0,I 0,nil,nil]),(1,K 217 y217 a0)]) <|
  qD (fun v0=>Z [p 1 (R 1),p 2 (R 2),p 3 (R 3)] [(3,Ob.box 139 [J a0.1,J a0.2.1,J a0.2.2.1,J a0.2.2.2.1,AV.os 18 0,nil]),(18,A 223 y223 v0 0),(2,Ob.box 139 [I 0,I 0,I 0,I 0,nil,nil]),(1,K 217 y217 a0)]) H fun v0 H =>
  qD (fun v1=>Z [p 2 (R 2),p 3 (R 3)] [(3,Ob.box 139 [J a0.1,J a0.2.1,J a0.2.2.1,J a0.2.2.2.1,AV.os 18 0,AV.os 22 0]),(22,A 223 y223 v1 0),(18,A 223 y223 v0 0),(2,Ob.box 139 [I 0,I 0,I 0,I 0,nil,nil]),(1,K 217 y217 a0)]) H fun v1 H =>
  qA (Z [p 2 (R 2)] [(2,Ob.box 139 [J a0.1,J a0.2.1,J a0.2.2.1,J a0.2.2.2.1,AV.os 18 0,AV.os 22 0]),(3,Ob.box 139 [J a0.1,J a0.2.1,J a0.2.2.1,J a0.2.2.2.1,AV.os 18 0,AV.os 22 0]),(22,A 223 y223 v1 0),(18,A 223 y223 v0 0),(1,K 217 y217 a0)]) <|
  vx_ret<|hr H
def k166d:Ct:=lct 166 [.agg y217] (fun x=>u166 x.1) (fun r=>frz ((fun r:Y139=>AV.agg [I r.1,I r.2.1,I r.2.2.1,I r.2.2.2.1,AV.ow 223 true y223 r.2.2.2.2.1,AV.ow 223 true y223 r.2.2.2.2.2]) r)) (fun _=>())
theorem o166d:Ok Tryz.prog k166d:=ok_frz o166
def u150J0:List Y139→Option (List Y139)
 | v5 =>
 some v5
def u150L1 (a0:List Y217) (g1:Int×List Y139→Option (List Y139)):Int×List Y139→Option (List Y139)
 | (v2,v3) =>
 if (decide (v2 < (↑a0.length:Int)))=true then
  gd (ix v2 a0.length∧(u166 (a0.getD v2.toNat (dflt y217))).isSome=true∧ix v2 v3.length∧v2.toNat < v3.length∧True)<|lt (vl (u166 (a0.getD v2.toNat (dflt y217)))) fun v4 =>
  gd (in64 (v2+1)∧True) <|
  g1 (v2+1,v3.set v2.toNat v4)
 else
  u150J0 v3
def u150 (a0:List Y217):Option (List Y139) :=
 gd ((0≤(↑a0.length:Int)∧(↑a0.length:Int)=(↑a0.length:Int)∧(↑a0.length:Int).toNat*80≤281474976710656∧(↑a0.length:Int)≤9223372036854775807)∧True)<|lt (List.replicate (↑a0.length:Int).toNat ((0:Int),(0:Int),(0:Int),(0:Int),[],[])) fun v0 =>
 lp (u150L1 a0) (0,v0)
def k150:Ct:=lct 150 [.dat y217.sl] (fun x=>u150 x.1) (fun r:List Y139=>AV.ow 139 true y139 r) (fun _=>())
theorem o150:Ok Tryz.prog k150:=by
 refine okL [.tmp 2] Tryz.func150 Tryz.ntmps150 Tryz.results150 ?_
 intro y ⟨a0,_⟩ r H Q hn hr
 have:HT _ _:=⟨tc o166d tn⟩
 refine qA (Z [p 0 (L y217 a0)] []) <|
  qD (fun v0=>Z [p 0 (L y217 a0),p 3 (O 7)] [(7,A 139 y139 v0 0)]) H fun v0 H =>
  jN r (fun (v5:List Y139)=>Z [p 3 (O 7)] [(7,A 139 y139 v5 0)]) (u150J0) (fun v5 H=>?_) (fun _ n0 e0 t0=>?_)
 ·refine qA (Z [p 2 (O 7)] [(7,A 139 y139 v5 0)]) <|
   vx_ret<|hr H
 refine qA (Z [p 0 (L y217 a0),p 3 (O 7),p 4 (I 0)] [(7,A 139 y139 v0 0)]) <|
  vx_block <|
  lX (fun ((v2,v3):Int×List Y139)=>Z [p 0 (L y217 a0),p 3 (O 7),p 4 (I v2)] [(7,A 139 y139 v3 0)]) (0,v0) H fun _ g1 b1 e1 t1 ⟨v2,v3⟩ H =>
  vx_seq <|
  qA (Z [p 0 (L y217 a0),p 3 (O 7),p 4 (I v2),p 11 (B (decide (v2 < (↑a0.length:Int))))] [(7,A 139 y139 v3 0)]) <|
  cD H (fun H=>?_) (fun H=>?_)
 ·refine vx_skip<|fx_seq<|vx_seq<|vx_block <|
   zD (fun v4=>Z [p 0 (L y217 a0),p 3 (O 7),p 4 (I v2)] [(7,A 139 y139 (v3.set v2.toNat v4) 0)]) H fun v4 H =>
   fx_blk<|fx_seq <|
   zB (Z [p 0 (L y217 a0),p 3 (O 7),p 4 (I (v2+1))] [(7,A 139 y139 (v3.set v2.toNat v4) 0)]) H fun H =>
   b1 H
 exact vx_exit<|fx_seq_exit<|e1<|fx_blk_exit rfl<|n0 H
def u165 (a0:Y213):Option (Y205) :=
 some a0
def k165:Ct:=lct 165 [.agg y213] (fun x=>u165 x.1) (fun r:Y205=>AV.agg [S r.1,I r.2.1,I r.2.2.1,B r.2.2.2]) (fun _=>())
theorem o165:Ok Tryz.prog k165:=by
 refine okL [.cell 2 205] Tryz.func165 Tryz.ntmps165 Tryz.results165 ?_
 intro y ⟨a0,_⟩ r H Q hn hr
 have:HT _ _:=⟨@tn Tryz.prog⟩
 refine qA (Z [p 1 (R 1),p 2 (R 2)] [(2,Ob.box 205 [S (ByteArray.mk #[]),I 0,I 0,B false]),(1,K 213 y213 a0)]) <|
  qA (Z [p 1 (R 1),p 2 (R 2),p 3 (R 3)] [(3,Ob.box 205 [S (ByteArray.mk #[]),I 0,I 0,B false]),(2,Ob.box 205 [S (ByteArray.mk #[]),I 0,I 0,B false]),(1,K 213 y213 a0)]) <|
  qA (Z [p 1 (R 1),p 2 (R 2),p 3 (R 3)] [(3,Ob.box 205 [U a0.1,I 0,I 0,B false]),(2,Ob.box 205 [S (ByteArray.mk #[]),I 0,I 0,B false]),(1,K 213 y213 a0)]) <|
  qA (Z [p 1 (R 1),p 2 (R 2),p 3 (R 3)] [(3,Ob.box 205 [U a0.1,J a0.2.1,I 0,B false]),(2,Ob.box 205 [S (ByteArray.mk #[]),I 0,I 0,B false]),(1,K 213 y213 a0)]) <|
  qA (Z [p 1 (R 1),p 2 (R 2),p 3 (R 3)] [(3,Ob.box 205 [U a0.1,J a0.2.1,J a0.2.2.1,B false]),(2,Ob.box 205 [S (ByteArray.mk #[]),I 0,I 0,B false]),(1,K 213 y213 a0)]) <|
  qA (Z [p 2 (R 2),p 3 (R 3)] [(3,K 205 y205 a0),(2,Ob.box 205 [S (ByteArray.mk #[]),I 0,I 0,B false]),(1,K 213 y213 a0)]) <|
  qA (Z [p 2 (R 2)] [(2,K 205 y205 a0),(3,K 205 y205 a0),(1,K 213 y213 a0)]) <|
  vx_ret<|hr H
def u149J0:List Y205→Option (List Y205)
 | v5 =>
 some v5
def u149L1 (a0:List Y213) (g1:Int×List Y205→Option (List Y205)):Int×List Y205→Option (List Y205)
 | (v2,v3) =>
 if (decide (v2 < (↑a0.length:Int)))=true then
  gd (ix v2 a0.length∧(u165 (a0.getD v2.toNat (dflt y213))).isSome=true∧ix v2 v3.length∧v2.toNat < v3.length∧True)<|lt (vl (u165 (a0.getD v2.toNat (dflt y213)))) fun v4 =>
  gd (in64 (v2+1)∧True) <|
  g1 (v2+1,v3.set v2.toNat v4)
 else
  u149J0 v3
def u149 (a0:List Y213):Option (List Y205) :=
 gd ((0≤(↑a0.length:Int)∧(↑a0.length:Int)=(↑a0.length:Int)∧(↑a0.length:Int).toNat*40≤281474976710656∧(↑a0.length:Int)≤9223372036854775807)∧True)<|lt (List.replicate (↑a0.length:Int).toNat (ByteArray.mk #[],(0:Int),(0:Int),false)) fun v0 =>
 lp (u149L1 a0) (0,v0)
def k149:Ct:=lct 149 [.dat y213.sl] (fun x=>u149 x.1) (fun r:List Y205=>AV.ow 205 true y205 r) (fun _=>())
theorem o149:Ok Tryz.prog k149:=by
 refine okL [.tmp 2] Tryz.func149 Tryz.ntmps149 Tryz.results149 ?_
 intro y ⟨a0,_⟩ r H Q hn hr
 have:HT _ _:=⟨tc o165 tn⟩
 refine qA (Z [p 0 (L y213 a0)] []) <|
  qD (fun v0=>Z [p 0 (L y213 a0),p 3 (O 7)] [(7,A 205 y205 v0 0)]) H fun v0 H =>
  jN r (fun (v5:List Y205)=>Z [p 3 (O 7)] [(7,A 205 y205 v5 0)]) (u149J0) (fun v5 H=>?_) (fun _ n0 e0 t0=>?_)
 ·refine qA (Z [p 2 (O 7)] [(7,A 205 y205 v5 0)]) <|
   vx_ret<|hr H
 refine qA (Z [p 0 (L y213 a0),p 3 (O 7),p 4 (I 0)] [(7,A 205 y205 v0 0)]) <|
  vx_block <|
  lX (fun ((v2,v3):Int×List Y205)=>Z [p 0 (L y213 a0),p 3 (O 7),p 4 (I v2)] [(7,A 205 y205 v3 0)]) (0,v0) H fun _ g1 b1 e1 t1 ⟨v2,v3⟩ H =>
  vx_seq <|
  qA (Z [p 0 (L y213 a0),p 3 (O 7),p 4 (I v2),p 11 (B (decide (v2 < (↑a0.length:Int))))] [(7,A 205 y205 v3 0)]) <|
  cD H (fun H=>?_) (fun H=>?_)
 ·refine vx_skip<|fx_seq<|vx_seq<|vx_block <|
   zD (fun v4=>Z [p 0 (L y213 a0),p 3 (O 7),p 4 (I v2)] [(7,A 205 y205 (v3.set v2.toNat v4) 0)]) H fun v4 H =>
   fx_blk<|fx_seq <|
   zB (Z [p 0 (L y213 a0),p 3 (O 7),p 4 (I (v2+1))] [(7,A 205 y205 (v3.set v2.toNat v4) 0)]) H fun H =>
   b1 H
 exact vx_exit<|fx_seq_exit<|e1<|fx_blk_exit rfl<|n0 H
def u117 (a0:Y164):Option (Y134) :=
 gd ((u149 a0.2.2.1).isSome=true∧True)<|lt (vl (u149 a0.2.2.1)) fun v0 =>
 gd ((u150 a0.2.2.2.1).isSome=true∧True)<|lt (vl (u150 a0.2.2.2.1)) fun v1 =>
 gd ((u23 a0.2.2.2.2.1).isSome=true∧True)<|lt (vl (u23 a0.2.2.2.2.1)) fun v2 =>
 some (a0.1,a0.2.1,v0,v1,v2,a0.2.2.2.2.2)
def k117:Ct:=lct 117 [.agg y164] (fun x=>u117 x.1) (fun r:Y134=>AV.agg [S r.1,I r.2.1,AV.ow 205 true y205 r.2.2.1,AV.ow 139 true y139 r.2.2.2.1,AV.ow 2 true i64 r.2.2.2.2.1,I r.2.2.2.2.2.1,I r.2.2.2.2.2.2]) (fun _=>())
theorem o117:Ok Tryz.prog k117:=by
 refine okL [.cell 2 134] Tryz.func117 Tryz.ntmps117 Tryz.results117 ?_
 intro y ⟨a0,_⟩ r H Q hn hr
 have:HT _ _:=⟨tc o23 (tc o150 (tc o149 tn))⟩
 refine qA (Z [p 1 (R 1),p 2 (R 2)] [(2,Ob.box 134 [S (ByteArray.mk #[]),I 0,nil,nil,nil,I 0,I 0]),(1,K 164 y164 a0)]) <|
  qA (Z [p 1 (R 1),p 2 (R 2),p 3 (R 3)] [(3,Ob.box 134 [S (ByteArray.mk #[]),I 0,nil,nil,nil,I 0,I 0]),(2,Ob.box 134 [S (ByteArray.mk #[]),I 0,nil,nil,nil,I 0,I 0]),(1,K 164 y164 a0)]) <|
  qA (Z [p 1 (R 1),p 2 (R 2),p 3 (R 3)] [(3,Ob.box 134 [U a0.1,I 0,nil,nil,nil,I 0,I 0]),(2,Ob.box 134 [S (ByteArray.mk #[]),I 0,nil,nil,nil,I 0,I 0]),(1,K 164 y164 a0)]) <|
  qA (Z [p 1 (R 1),p 2 (R 2),p 3 (R 3)] [(3,Ob.box 134 [U a0.1,J a0.2.1,nil,nil,nil,I 0,I 0]),(2,Ob.box 134 [S (ByteArray.mk #[]),I 0,nil,nil,nil,I 0,I 0]),(1,K 164 y164 a0)]) <|
  qD (fun v0=>Z [p 1 (R 1),p 2 (R 2),p 3 (R 3)] [(3,Ob.box 134 [U a0.1,J a0.2.1,AV.os 12 0,nil,nil,I 0,I 0]),(12,A 205 y205 v0 0),(2,Ob.box 134 [S (ByteArray.mk #[]),I 0,nil,nil,nil,I 0,I 0]),(1,K 164 y164 a0)]) H fun v0 H =>
  qD (fun v1=>Z [p 1 (R 1),p 2 (R 2),p 3 (R 3)] [(3,Ob.box 134 [U a0.1,J a0.2.1,AV.os 12 0,AV.os 16 0,nil,I 0,I 0]),(16,A 139 y139 v1 0),(12,A 205 y205 v0 0),(2,Ob.box 134 [S (ByteArray.mk #[]),I 0,nil,nil,nil,I 0,I 0]),(1,K 164 y164 a0)]) H fun v1 H =>
  qD (fun v2=>Z [p 1 (R 1),p 2 (R 2),p 3 (R 3)] [(3,Ob.box 134 [U a0.1,J a0.2.1,AV.os 12 0,AV.os 16 0,AV.os 20 0,I 0,I 0]),(20,A 2 i64 v2 0),(16,A 139 y139 v1 0),(12,A 205 y205 v0 0),(2,Ob.box 134 [S (ByteArray.mk #[]),I 0,nil,nil,nil,I 0,I 0]),(1,K 164 y164 a0)]) H fun v2 H =>
  qA (Z [p 1 (R 1),p 2 (R 2),p 3 (R 3)] [(3,Ob.box 134 [U a0.1,J a0.2.1,AV.os 12 0,AV.os 16 0,AV.os 20 0,J a0.2.2.2.2.2.1,I 0]),(20,A 2 i64 v2 0),(16,A 139 y139 v1 0),(12,A 205 y205 v0 0),(2,Ob.box 134 [S (ByteArray.mk #[]),I 0,nil,nil,nil,I 0,I 0]),(1,K 164 y164 a0)]) <|
  qA (Z [p 2 (R 2),p 3 (R 3)] [(3,Ob.box 134 [U a0.1,J a0.2.1,AV.os 12 0,AV.os 16 0,AV.os 20 0,J a0.2.2.2.2.2.1,J a0.2.2.2.2.2.2]),(20,A 2 i64 v2 0),(16,A 139 y139 v1 0),(12,A 205 y205 v0 0),(2,Ob.box 134 [S (ByteArray.mk #[]),I 0,nil,nil,nil,I 0,I 0]),(1,K 164 y164 a0)]) <|
  qA (Z [p 2 (R 2)] [(2,Ob.box 134 [U a0.1,J a0.2.1,AV.os 12 0,AV.os 16 0,AV.os 20 0,J a0.2.2.2.2.2.1,J a0.2.2.2.2.2.2]),(3,Ob.box 134 [U a0.1,J a0.2.1,AV.os 12 0,AV.os 16 0,AV.os 20 0,J a0.2.2.2.2.2.1,J a0.2.2.2.2.2.2]),(20,A 2 i64 v2 0),(16,A 139 y139 v1 0),(12,A 205 y205 v0 0),(1,K 164 y164 a0)]) ?_
 exact vx_ret<|hr H
def k117d:Ct:=lct 117 [.agg y164] (fun x=>u117 x.1) (fun r=>frz ((fun r:Y134=>AV.agg [S r.1,I r.2.1,AV.ow 205 true y205 r.2.2.1,AV.ow 139 true y139 r.2.2.2.1,AV.ow 2 true i64 r.2.2.2.2.1,I r.2.2.2.2.2.1,I r.2.2.2.2.2.2]) r)) (fun _=>())
theorem o117d:Ok Tryz.prog k117d:=ok_frz o117
def u72J0:List Y134→Option (List Y134)
 | v5 =>
 some v5
def u72L1 (a0:List Y164) (g1:Int×List Y134→Option (List Y134)):Int×List Y134→Option (List Y134)
 | (v2,v3) =>
 if (decide (v2 < (↑a0.length:Int)))=true then
  gd (ix v2 a0.length∧(u117 (a0.getD v2.toNat (dflt y164))).isSome=true∧ix v2 v3.length∧v2.toNat < v3.length∧True)<|lt (vl (u117 (a0.getD v2.toNat (dflt y164)))) fun v4 =>
  gd (in64 (v2+1)∧True) <|
  g1 (v2+1,v3.set v2.toNat v4)
 else
  u72J0 v3
def u72 (a0:List Y164):Option (List Y134) :=
 gd ((0≤(↑a0.length:Int)∧(↑a0.length:Int)=(↑a0.length:Int)∧(↑a0.length:Int).toNat*112≤281474976710656∧(↑a0.length:Int)≤9223372036854775807)∧True)<|lt (List.replicate (↑a0.length:Int).toNat (ByteArray.mk #[],(0:Int),[],[],[],(0:Int),(0:Int))) fun v0 =>
 lp (u72L1 a0) (0,v0)
def k72:Ct:=lct 72 [.dat y164.sl] (fun x=>u72 x.1) (fun r:List Y134=>AV.ow 134 true y134 r) (fun _=>())
theorem o72:Ok Tryz.prog k72:=by
 refine okL [.tmp 2] Tryz.func72 Tryz.ntmps72 Tryz.results72 ?_
 intro y ⟨a0,_⟩ r H Q hn hr
 have:HT _ _:=⟨tc o117d tn⟩
 refine qA (Z [p 0 (L y164 a0)] []) <|
  qD (fun v0=>Z [p 0 (L y164 a0),p 3 (O 7)] [(7,A 134 y134 v0 0)]) H fun v0 H =>
  jN r (fun (v5:List Y134)=>Z [p 3 (O 7)] [(7,A 134 y134 v5 0)]) (u72J0) (fun v5 H=>?_) (fun _ n0 e0 t0=>?_)
 ·refine qA (Z [p 2 (O 7)] [(7,A 134 y134 v5 0)]) <|
   vx_ret<|hr H
 refine qA (Z [p 0 (L y164 a0),p 3 (O 7),p 4 (I 0)] [(7,A 134 y134 v0 0)]) <|
  vx_block <|
  lX (fun ((v2,v3):Int×List Y134)=>Z [p 0 (L y164 a0),p 3 (O 7),p 4 (I v2)] [(7,A 134 y134 v3 0)]) (0,v0) H fun _ g1 b1 e1 t1 ⟨v2,v3⟩ H =>
  vx_seq <|
  qA (Z [p 0 (L y164 a0),p 3 (O 7),p 4 (I v2),p 11 (B (decide (v2 < (↑a0.length:Int))))] [(7,A 134 y134 v3 0)]) <|
  cD H (fun H=>?_) (fun H=>?_)
 ·refine vx_skip<|fx_seq<|vx_seq<|vx_block <|
   zD (fun v4=>Z [p 0 (L y164 a0),p 3 (O 7),p 4 (I v2)] [(7,A 134 y134 (v3.set v2.toNat v4) 0)]) H fun v4 H =>
   fx_blk<|fx_seq <|
   zB (Z [p 0 (L y164 a0),p 3 (O 7),p 4 (I (v2+1))] [(7,A 134 y134 (v3.set v2.toNat v4) 0)]) H fun H =>
   b1 H
 exact vx_exit<|fx_seq_exit<|e1<|fx_blk_exit rfl<|n0 H
def u35 (a0:List Y164):Option (List Y134) :=
 gd ((u72 a0).isSome=true∧True)<|lt (vl (u72 a0)) fun v0 =>
 some v0
def k35:Ct:=lct 35 [.agg y164.sl] (fun x=>u35 x.1) (fun r:List Y134=>AV.agg [AV.ow 134 true y134 r]) (fun _=>())
theorem o35:Ok Tryz.prog k35:=by
 refine okL [.cell 2 39] Tryz.func35 Tryz.ntmps35 Tryz.results35 ?_
 intro y ⟨a0,_⟩ r H Q hn hr
 have:HT _ _:=⟨tc o72 tn⟩
 refine qA (Z [p 1 (R 1),p 2 (R 2)] [(2,Ob.box 39 [nil]),(1,Ob.box 24 [L y164 a0])]) <|
  qA (Z [p 1 (R 1),p 2 (R 2),p 3 (R 3)] [(3,Ob.box 39 [nil]),(2,Ob.box 39 [nil]),(1,Ob.box 24 [L y164 a0])]) <|
  qD (fun v0=>Z [p 2 (R 2),p 3 (R 3)] [(3,Ob.box 39 [AV.os 6 0]),(6,A 134 y134 v0 0),(2,Ob.box 39 [nil]),(1,Ob.box 24 [L y164 a0])]) H fun v0 H =>
  qA (Z [p 2 (R 2)] [(2,Ob.box 39 [AV.os 6 0]),(3,Ob.box 39 [AV.os 6 0]),(6,A 134 y134 v0 0),(1,Ob.box 24 [L y164 a0])]) <|
  vx_ret<|hr H
def u10 (a0:Y32):Option (Y46) :=
 gd ((u35 a0.1).isSome=true∧True)<|lt (vl (u35 a0.1)) fun v0 =>
 gd ((u36 a0.2.1).isSome=true∧True)<|lt (vl (u36 a0.2.1)) fun v1 =>
 gd ((u37 a0.2.2).isSome=true∧True)<|lt (vl (u37 a0.2.2)) fun v2 =>
 some (v0,v1,v2)
def k10:Ct:=lct 10 [.agg y32] (fun x=>u10 x.1) (fun r:Y46=>AV.agg [AV.ow 134 true y134 r.1,AV.ow 136 true y136 r.2.1.1,AV.ow 9 true Ty.str r.2.1.2.1,AV.ow 172 true y172 r.2.1.2.2,AV.ow 114 true y114 r.2.2]) (fun _=>())
theorem o10:Ok Tryz.prog k10:=by
 refine okL [.cell 2 46] Tryz.func10 Tryz.ntmps10 Tryz.results10 ?_
 intro y ⟨a0,_⟩ r H Q hn hr
 have:HT _ _:=⟨tc o37 (tc o36 (tc o35 tn))⟩
 refine qA (Z [p 1 (R 1),p 2 (R 2)] [(2,Ob.box 46 [nil,nil,nil,nil,nil]),(1,K 32 y32 a0)]) <|
  qA (Z [p 1 (R 1),p 2 (R 2),p 3 (R 3)] [(3,Ob.box 46 [nil,nil,nil,nil,nil]),(2,Ob.box 46 [nil,nil,nil,nil,nil]),(1,K 32 y32 a0)]) <|
  qD (fun v0=>Z [p 1 (R 1),p 2 (R 2),p 3 (R 3)] [(3,Ob.box 46 [AV.os 6 0,nil,nil,nil,nil]),(6,A 134 y134 v0 0),(2,Ob.box 46 [nil,nil,nil,nil,nil]),(1,K 32 y32 a0)]) H fun v0 H =>
  qD (fun v1=>Z [p 1 (R 1),p 2 (R 2),p 3 (R 3)] [(3,Ob.box 46 [AV.os 6 0,AV.os 10 0,AV.os 1010 0,AV.os 2010 0,nil]),(2010,A 172 y172 v1.2.2 0),(1010,A 9 Ty.str v1.2.1 0),(10,A 136 y136 v1.1 0),(6,A 134 y134 v0 0),(2,Ob.box 46 [nil,nil,nil,nil,nil]),(1,K 32 y32 a0)]) H fun v1 H =>
  qD (fun v2=>Z [p 2 (R 2),p 3 (R 3)] [(3,Ob.box 46 [AV.os 6 0,AV.os 10 0,AV.os 1010 0,AV.os 2010 0,AV.os 14 0]),(14,A 114 y114 v2 0),(2010,A 172 y172 v1.2.2 0),(1010,A 9 Ty.str v1.2.1 0),(10,A 136 y136 v1.1 0),(6,A 134 y134 v0 0),(2,Ob.box 46 [nil,nil,nil,nil,nil]),(1,K 32 y32 a0)]) H fun v2 H =>
  qA (Z [p 2 (R 2)] [(2,Ob.box 46 [AV.os 6 0,AV.os 10 0,AV.os 1010 0,AV.os 2010 0,AV.os 14 0]),(3,Ob.box 46 [AV.os 6 0,AV.os 10 0,AV.os 1010 0,AV.os 2010 0,AV.os 14 0]),(14,A 114 y114 v2 0),(2010,A 172 y172 v1.2.2 0),(1010,A 9 Ty.str v1.2.1 0),(10,A 136 y136 v1.1 0),(6,A 134 y134 v0 0),(1,K 32 y32 a0)]) <|
  vx_ret<|hr H
def u141 (a0:Y43) (a1:List Y134) (a2:Y146):Option (Int) :=
 if (decide (a2.1 < 0))=true then
  some 0
 else
  gd (ix a2.1 a0.1.length∧ix (a0.1.getD a2.1.toNat (dflt y136)).2.1 a1.length∧ix a2.2.1 (a1.getD (a0.1.getD a2.1.toNat (dflt y136)).2.1.toNat (dflt y134)).2.2.1.length∧True)<|lt ((a1.getD (a0.1.getD a2.1.toNat (dflt y136)).2.1.toNat (dflt y134)).2.2.1.getD a2.2.1.toNat (dflt y205)) fun v0 =>
  some v0.2.2.1
def k141:Ct:=lct 141 [.agg y43,.agg y134.sl,.agg y146] (fun x=>u141 x.1 x.2.1 x.2.2.1) (fun r:Int=>I r) (fun _=>())
theorem o141:Ok Tryz.prog k141:=by
 refine okL [.tmp 6] Tryz.func141 Tryz.ntmps141 Tryz.results141 ?_
 intro y ⟨a0,a1,a2,_⟩ r H Q hn hr
 have:HT _ _:=⟨@tn Tryz.prog⟩
 refine qA (Z [p 3 (R 3),p 4 (R 4),p 5 (R 5)] [(5,K 146 y146 a2),(4,Ob.box 39 [L y134 a1]),(3,K 43 y43 a0)]) <|
  vx_seq <|
  qA (Z [p 3 (R 3),p 4 (R 4),p 5 (R 5),p 9 (B (decide (a2.1 < 0)))] [(5,K 146 y146 a2),(4,Ob.box 39 [L y134 a1]),(3,K 43 y43 a0)]) <|
  cD H (fun H=>?_) (fun H=>?_)
 ·refine qA (Z [p 6 (I 0)] [(5,K 146 y146 a2),(4,Ob.box 39 [L y134 a1]),(3,K 43 y43 a0)]) <|
   vx_ret<|fx_seq_ret<|hr H
 refine vx_skip<|fx_seq <|
  qD (fun v0=>Z [p 6 (J v0.2.2.1)] [(5,K 146 y146 a2),(4,Ob.box 39 [L y134 a1]),(3,K 43 y43 a0)]) H fun v0 H =>
  vx_ret<|hr H
def u96J4:List Y146→Option (List Y146)
 | v24 =>
 some v24
def u96L5 (a0:Y43) (g5:Int×List Y146→Option (List Y146)):Int×List Y146→Option (List Y146)
 | (v21,v22) =>
 if (decide (v21 < (↑a0.2.2.length:Int)))=true then
  gd (ix v21 a0.2.2.length∧True)<|lt (a0.2.2.getD v21.toNat (dflt y172)) fun v23 =>
  gd ((v22.length+[(-1,v21,v23.2.2,v23.2.1==1)].length≤9223372036854775807∧(v22.length+[(-1,v21,v23.2.2,v23.2.1==1)].length)*32≤140737488355328)∧True) <|
  gd (in64 (v21+1)∧True) <|
  g5 ((v21+1,v22++[(-1,v21,v23.2.2,v23.2.1==1)]))
 else
  u96J4 v22
def u96J0 (a0:Y43):List Y146→Option (List Y146)
 | v17 =>
 lp (u96L5 a0) (0,v17)
def u96J2 (v8:Int) (g1:List Y146×Int→Option (List Y146)):List Y146→Option (List Y146)
 | v16 =>
 gd (in64 (v8+1)∧True) <|
 g1 (v16,v8+1)
def u96L3 (v8:Int) (v9:Y136) (g1:List Y146×Int→Option (List Y146)) (g3:Int×List Y146→Option (List Y146)):Int×List Y146→Option (List Y146)
 | (v12,v13) =>
 if (decide (v12 < (↑v9.2.2.length:Int)))=true then
  gd (ix v12 v9.2.2.length∧True) <|
  gd (in64 ((↑v9.2.2.length:Int) - 1)∧(v13.length+[(v8,v12,v9.2.2.getD v12.toNat 0,v12==(↑v9.2.2.length:Int) - 1)].length≤9223372036854775807∧(v13.length+[(v8,v12,v9.2.2.getD v12.toNat 0,v12==(↑v9.2.2.length:Int) - 1)].length)*32≤140737488355328)∧True)<|lt ((v13++[(v8,v12,v9.2.2.getD v12.toNat 0,v12==(↑v9.2.2.length:Int) - 1)],[(v8,v12,v9.2.2.getD v12.toNat 0,v12==(↑v9.2.2.length:Int) - 1)])) fun (v14,v15) =>
  gd (in64 (v12+1)∧True) <|
  g3 (v12+1,v14)
 else
  u96J2 v8 g1 v13
def u96L1 (a0:Y43) (g1:List Y146×Int→Option (List Y146)):List Y146×Int→Option (List Y146)
 | (v7,v8) =>
 if (decide (v8 < (↑a0.1.length:Int)))=true then
  gd (ix v8 a0.1.length∧True)<|lt (a0.1.getD v8.toNat (dflt y136)) fun v9 =>
  lp (u96L3 v8 v9 g1) (0,v7)
 else
  u96J0 a0 v7
def u96 (a0:Y43):Option (List Y146) :=
 lp (u96L1 a0) ([],0)
def k96:Ct:=lct 96 [.agg y43] (fun x=>u96 x.1) (fun r:List Y146=>AV.ow 146 true y146 r) (fun _=>())
theorem o96:Ok Tryz.prog k96:=by
 refine okL [.tmp 2] Tryz.func96 Tryz.ntmps96 Tryz.results96 ?_
 intro y ⟨a0,_⟩ r H Q hn hr
 have:HT _ _:=⟨@tn Tryz.prog⟩
 refine qA (Z [p 1 (R 1)] [(1,K 43 y43 a0)]) <|
  qA (Z [p 1 (R 1),p 3 (nil)] [(1,K 43 y43 a0)]) <|
  jN r (fun (v17:List Y146)=>Z [p 1 (R 1),p 3 (O 38)] [(1,K 43 y43 a0),(38,A 146 y146 v17 0)]) (u96J0 a0) (fun v17 H=>?_) (fun _ n0 e0 t0=>?_)
 ·refine jN r (fun (v24:List Y146)=>Z [p 3 (O 38)] [(38,A 146 y146 v24 0)]) (u96J4) (fun v24 H=>?_) (fun _ n4 e4 t4=>?_)
  ·refine qA (Z [p 2 (O 38)] [(38,A 146 y146 v24 0)]) <|
    vx_ret<|hr H
  refine qA (Z [p 3 (O 38),p 42 (L y172 a0.2.2),p 43 (I (↑a0.2.2.length:Int)),p 44 (I 0)] [(1,K 43 y43 a0),(38,A 146 y146 v17 0)]) <|
   vx_block <|
   lX (fun ((v21,v22):Int×List Y146)=>Z [p 3 (O 38),p 42 (L y172 a0.2.2),p 43 (I (↑a0.2.2.length:Int)),p 44 (I v21)] [(38,A 146 y146 v22 0)]) (0,v17) H fun _ g5 b5 e5 t5 ⟨v21,v22⟩ H =>
   qA (Z [p 3 (O 38),p 42 (L y172 a0.2.2),p 43 (I (↑a0.2.2.length:Int)),p 44 (I v21),p 45 (B (decide (v21 < (↑a0.2.2.length:Int))))] [(38,A 146 y146 v22 0)]) <|
   vx_seq <|
   cD H (fun H=>?_) (fun H=>?_)
  ·refine vx_skip<|fx_seq<|vx_seq<|vx_block <|
    qD (fun v23=>Z [p 3 (O 38),p 8 (I v21),p 9 (R 9),p 42 (L y172 a0.2.2),p 43 (I (↑a0.2.2.length:Int)),p 44 (I v21)] [(9,K 172 y172 v23),(38,A 146 y146 v22 0)]) H fun v23 H =>
    zB (Z [p 3 (AV.os 38 1),p 42 (L y172 a0.2.2),p 43 (I (↑a0.2.2.length:Int)),p 44 (I v21)] [(38,A 146 y146 (v22++[(-1,v21,v23.2.2,v23.2.1==1)]) 1),(57,A 146 y146 [(-1,v21,v23.2.2,v23.2.1==1)] 0),(9,K 172 y172 v23)]) H fun H =>
    fx_blk<|fx_seq <|
    zB (Z [p 3 (AV.os 38 1),p 42 (L y172 a0.2.2),p 43 (I (↑a0.2.2.length:Int)),p 44 (I (v21+1))] [(38,A 146 y146 (v22++[(-1,v21,v23.2.2,v23.2.1==1)]) 1),(57,A 146 y146 [(-1,v21,v23.2.2,v23.2.1==1)] 0),(9,K 172 y172 v23)]) H fun H =>
    b5 H
  exact vx_exit<|fx_seq_exit<|e5<|fx_blk_exit rfl<|n4 H
 refine qA (Z [p 1 (R 1),p 3 (nil),p 11 (L y136 a0.1),p 12 (I (↑a0.1.length:Int)),p 13 (I 0)] [(1,K 43 y43 a0)]) <|
  vx_block <|
  lX (fun ((v7,v8):List Y146×Int)=>Z [p 1 (R 1),p 3 (O 38),p 11 (L y136 a0.1),p 12 (I (↑a0.1.length:Int)),p 13 (I v8)] [(1,K 43 y43 a0),(38,A 146 y146 v7 0)]) ([],0) H fun _ g1 b1 e1 t1 ⟨v7,v8⟩ H =>
  qA (Z [p 1 (R 1),p 3 (O 38),p 11 (L y136 a0.1),p 12 (I (↑a0.1.length:Int)),p 13 (I v8),p 14 (B (decide (v8 < (↑a0.1.length:Int))))] [(1,K 43 y43 a0),(38,A 146 y146 v7 0)]) <|
  vx_seq <|
  cD H (fun H=>?_) (fun H=>?_)
 ·refine vx_skip<|fx_seq <|
   jN r (fun (v16:List Y146)=>Z [p 1 (R 1),p 3 (O 38),p 11 (L y136 a0.1),p 12 (I (↑a0.1.length:Int)),p 13 (I v8)] [(1,K 43 y43 a0),(38,A 146 y146 v16 0)]) (u96J2 v8 g1) (fun v16 H=>?_) (fun _ n2 e2 t2=>?_)
  ·refine zB (Z [p 1 (R 1),p 3 (O 38),p 11 (L y136 a0.1),p 12 (I (↑a0.1.length:Int)),p 13 (I (v8+1))] [(1,K 43 y43 a0),(38,A 146 y146 v16 0)]) H fun H =>
    b1 H
  refine vx_block <|
   qD (fun v9=>Z [p 1 (R 1),p 3 (O 38),p 4 (I v8),p 5 (R 5),p 11 (L y136 a0.1),p 12 (I (↑a0.1.length:Int)),p 13 (I v8)] [(5,K 136 y136 v9),(1,K 43 y43 a0),(38,A 146 y146 v7 0)]) H fun v9 H =>
   qA (Z [p 1 (R 1),p 3 (O 38),p 4 (I v8),p 5 (R 5),p 11 (L y136 a0.1),p 12 (I (↑a0.1.length:Int)),p 13 (I v8),p 19 (L i64 v9.2.2),p 20 (I (↑v9.2.2.length:Int)),p 21 (I 0)] [(5,K 136 y136 v9),(1,K 43 y43 a0),(38,A 146 y146 v7 0)]) <|
   vx_block <|
   lX (fun ((v12,v13):Int×List Y146)=>Z [p 1 (R 1),p 3 (O 38),p 4 (I v8),p 5 (R 5),p 11 (L y136 a0.1),p 12 (I (↑a0.1.length:Int)),p 13 (I v8),p 19 (L i64 v9.2.2),p 20 (I (↑v9.2.2.length:Int)),p 21 (I v12)] [(5,K 136 y136 v9),(1,K 43 y43 a0),(38,A 146 y146 v13 0)]) (0,v7) H fun _ g3 b3 e3 t3 ⟨v12,v13⟩ H =>
   qA (Z [p 1 (R 1),p 3 (O 38),p 4 (I v8),p 5 (R 5),p 11 (L y136 a0.1),p 12 (I (↑a0.1.length:Int)),p 13 (I v8),p 19 (L i64 v9.2.2),p 20 (I (↑v9.2.2.length:Int)),p 21 (I v12),p 22 (B (decide (v12 < (↑v9.2.2.length:Int))))] [(5,K 136 y136 v9),(1,K 43 y43 a0),(38,A 146 y146 v13 0)]) <|
   vx_seq <|
   cD H (fun H=>?_) (fun H=>?_)
  ·refine vx_skip<|fx_seq<|vx_seq<|vx_block <|
    qB (Z [p 1 (R 1),p 3 (O 38),p 4 (I v8),p 5 (R 5),p 6 (I v12),p 7 (J (v9.2.2.getD v12.toNat 0)),p 11 (L y136 a0.1),p 12 (I (↑a0.1.length:Int)),p 13 (I v8),p 19 (L i64 v9.2.2),p 20 (I (↑v9.2.2.length:Int)),p 21 (I v12)] [(5,K 136 y136 v9),(1,K 43 y43 a0),(38,A 146 y146 v13 0)]) H fun H =>
    zD (fun (v14,v15)=>Z [p 1 (R 1),p 3 (AV.os 38 1),p 4 (I v8),p 5 (R 5),p 11 (L y136 a0.1),p 12 (I (↑a0.1.length:Int)),p 13 (I v8),p 19 (L i64 v9.2.2),p 20 (I (↑v9.2.2.length:Int)),p 21 (I v12)] [(38,A 146 y146 v14 1),(37,A 146 y146 v15 0),(5,K 136 y136 v9),(1,K 43 y43 a0)]) H fun ⟨v14,v15⟩ H =>
    fx_blk<|fx_seq <|
    zB (Z [p 1 (R 1),p 3 (AV.os 38 1),p 4 (I v8),p 5 (R 5),p 11 (L y136 a0.1),p 12 (I (↑a0.1.length:Int)),p 13 (I v8),p 19 (L i64 v9.2.2),p 20 (I (↑v9.2.2.length:Int)),p 21 (I (v12+1))] [(38,A 146 y146 v14 1),(37,A 146 y146 v15 0),(5,K 136 y136 v9),(1,K 43 y43 a0)]) H fun H =>
    b3 H
  exact vx_exit<|fx_seq_exit<|e3<|fx_blk_exit rfl<|fx_blk<|n2 H
 exact vx_exit<|fx_seq_exit<|e1<|fx_blk_exit rfl<|n0 H
end Go.Proofs.YtgmpfbpemmohnaaGreatDoor
