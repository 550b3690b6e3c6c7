/- Functions of this program as plain functions of data, and that they are so: printed by program. -/
import Derived.Test.YticmgmebjmblgaaGreatDoorFn15a
namespace Go.Proofs.YticmgmebjmblgaaGreatDoor
open Go Go.Proofs Go.Proofs.Sv Go.Proofs.Xv Go.Proofs.Xl Go.RowKit
def u207c179J0:Unit→Option (Int)
 | _ =>
 some (-1)
def u207c179L1 (a0:List Int) (a1:Y42) (g1:Int→Option (Int)):Int→Option (Int)
 | v0 =>
 if (decide (v0 < (↑a0.length:Int)))=true then
  gd (ix v0 a0.length∧(u179 (a0.getD v0.toNat 0) a1).isSome=true∧True) <|
  if (vl (u179 (a0.getD v0.toNat 0) a1))=true then
   some v0
  else
   gd (in64 (v0+1)∧True) <|
   g1 (v0+1)
 else
  u207c179J0 ()
def u207c179 (a0:List Int) (a1:Y42):Option (Int) :=
 lp (u207c179L1 a0 a1) 0
def k207c179:Ct:=lct 207 [.dat i64.sl,.fn 179 y42.pt] (fun x=>u207c179 x.1 x.2.1) (fun r:Int=>I r) (fun _=>())
theorem o207c179:Ok Tryz.prog k207c179:=by
 refine okL [.tmp 4] Tryz.func207 Tryz.ntmps207 Tryz.results207 ?_
 intro y ⟨a0,a1,_⟩ r H Q hn hr
 have:HT _ _:=⟨tc o179 tn⟩
 refine qA (Z [p 0 (L i64 a0),p 1 (AV.fn 179 [D y42.pt a1])] []) <|
  jN r (fun (_:Unit)=>Z [] []) (u207c179J0) (fun _ H=>?_) (fun _ n0 e0 t0=>?_)
 ·refine qA (Z [p 4 (I (-1))] []) <|
   vx_ret<|hr H
 refine qA (Z [p 0 (L i64 a0),p 1 (AV.fn 179 [D y42.pt a1]),p 7 (I (↑a0.length:Int)),p 8 (I 0)] []) <|
  vx_block <|
  lX (fun (v0:Int)=>Z [p 0 (L i64 a0),p 1 (AV.fn 179 [D y42.pt a1]),p 7 (I (↑a0.length:Int)),p 8 (I v0)] []) 0 H fun _ g1 b1 e1 t1 v0 H =>
  qA (Z [p 0 (L i64 a0),p 1 (AV.fn 179 [D y42.pt a1]),p 7 (I (↑a0.length:Int)),p 8 (I v0),p 9 (B (decide (v0 < (↑a0.length:Int))))] []) <|
  vx_seq <|
  cD H (fun H=>?_) (fun H=>?_)
 ·refine vx_skip<|fx_seq<|vx_seq<|vx_block <|
   qA (Z [p 0 (L i64 a0),p 1 (AV.fn 179 [D y42.pt a1]),p 5 (I v0),p 7 (I (↑a0.length:Int)),p 8 (I v0)] []) <|
   qB (Z [p 0 (L i64 a0),p 1 (AV.fn 179 [D y42.pt a1]),p 5 (I v0),p 7 (I (↑a0.length:Int)),p 8 (I v0),p 16 (B (vl (u179 (a0.getD v0.toNat 0) a1)))] []) H fun H =>
   cD H (fun H=>?_) (fun H=>?_)
  ·refine qA (Z [p 4 (I v0)] []) <|
    vx_ret<|fx_blk_ret<|fx_seq_ret<|t1<|fx_blk_ret<|t0<|hr H
  refine vx_skip<|fx_blk<|fx_seq <|
   zB (Z [p 0 (L i64 a0),p 1 (AV.fn 179 [D y42.pt a1]),p 7 (I (↑a0.length:Int)),p 8 (I (v0+1))] []) H fun H =>
   b1 H
 exact vx_exit<|fx_seq_exit<|e1<|fx_blk_exit rfl<|n0 H
def u178c179 (a0:List Int) (a1:Y42):Option (Bool) :=
 gd ((u207c179 a0 a1).isSome=true∧True)<|lt (vl (u207c179 a0 a1)) fun v0 =>
 some (decide (0≤v0))
def k178c179:Ct:=lct 178 [.dat i64.sl,.fn 179 (.pt y42)] (fun x=>u178c179 x.1 x.2.1) (fun r:Bool=>B r) (fun _=>())
theorem o178c179:Ok Tryz.prog k178c179:=by
 refine okL [.tmp 4] Tryz.func178 Tryz.ntmps178 Tryz.results178 ?_
 intro y ⟨a0,a1,_⟩ r H Q hn hr
 have:HT _ _:=⟨tc o207c182 (tc o207c179 (tc o179 tn))⟩
 refine qA (Z [p 0 (L i64 a0),p 1 (AV.fn 179 [D y42.pt a1])] []) <|
  qD (fun v0=>Z [p 4 (B (decide (0≤v0)))] []) H fun v0 H =>
  vx_ret<|hr H
def u142 (a0:Y42) (a1:List Y145) (a2:Y147):Option (Bool) :=
 gd ((u177 a1).isSome=true∧in64 (vl (u177 a1) - 1)∧(u98 a2.2.1 0 (vl (u177 a1) - 1)).isSome=true∧(vl (u98 a2.2.1 0 (vl (u177 a1) - 1))=true∧True→ix a2.2.1 a1.length)∧((vl (u98 a2.2.1 0 (vl (u177 a1) - 1))&&(↑a2.2.2.length:Int)==(↑(a1.getD a2.2.1.toNat (dflt y145)).2.2.1.length:Int))=true∧True→(u178c179 a2.2.2 a0).isSome=true)∧True) <|
 some (vl (u98 a2.2.1 0 (vl (u177 a1) - 1))&&(↑a2.2.2.length:Int)==(↑(a1.getD a2.2.1.toNat (dflt y145)).2.2.1.length:Int)&&!vl (u178c179 a2.2.2 a0))
def k142:Ct:=lct 142 [.agg y42,.agg y145.sl,.agg y147] (fun x=>u142 x.1 x.2.1 x.2.2.1) (fun r:Bool=>B r) (fun _=>())
theorem o142:Ok Tryz.prog k142:=by
 refine okL [.tmp 6] Tryz.func142 Tryz.ntmps142 Tryz.results142 ?_
 intro y ⟨a0,a1,a2,_⟩ r H Q hn hr
 have:HT _ _:=⟨tc o178c182 (tc o178c179 (tc o179 (tc o98 (tc o177 tn))))⟩
 refine qA (Z [p 3 (R 3),p 4 (R 4),p 5 (R 5)] [(5,K 147 y147 a2),(4,Ob.box 38 [L y145 a1]),(3,K 42 y42 a0)]) <|
  qB (Z [p 6 (B (vl (u98 a2.2.1 0 (vl (u177 a1) - 1))&&(↑a2.2.2.length:Int)==(↑(a1.getD a2.2.1.toNat (dflt y145)).2.2.1.length:Int)&&!vl (u178c179 a2.2.2 a0)))] [(5,K 147 y147 a2),(4,Ob.box 38 [L y145 a1]),(3,K 42 y42 a0)]) H fun H =>
  vx_ret<|hr H
def u226J0:Unit→Option (Int)
 | _ =>
 some (-1)
def u226L1 (a1:ByteArray) (a0:List ByteArray) (g1:Int→Option (Int)):Int→Option (Int)
 | v0 =>
 if (decide (v0 < (↑a0.length:Int)))=true then
  gd (ix v0 a0.length∧True) <|
  if (decide (a1=a0.getD v0.toNat (dflt Ty.str)))=true then
   some v0
  else
   gd (in64 (v0+1)∧True) <|
   g1 (v0+1)
 else
  u226J0 ()
def u226 (a0:List ByteArray) (a1:ByteArray):Option (Int) :=
 lp (u226L1 a1 a0) 0
def k226:Ct:=lct 226 [.dat Ty.str.sl,.dat Ty.str] (fun x=>u226 x.1 x.2.1) (fun r:Int=>I r) (fun _=>())
theorem o226:Ok Tryz.prog k226:=by
 refine okL [.tmp 4] Tryz.func226 Tryz.ntmps226 Tryz.results226 ?_
 intro y ⟨a0,a1,_⟩ r H Q hn hr
 have:HT _ _:=⟨@tn Tryz.prog⟩
 refine qA (Z [p 0 (L Ty.str a0),p 1 (U a1)] []) <|
  jN r (fun (_:Unit)=>Z [] []) (u226J0) (fun _ H=>?_) (fun _ n0 e0 t0=>?_)
 ·refine qA (Z [p 4 (I (-1))] []) <|
   vx_ret<|hr H
 refine qA (Z [p 0 (L Ty.str a0),p 1 (U a1),p 7 (I (↑a0.length:Int)),p 8 (I 0)] []) <|
  vx_block <|
  lX (fun (v0:Int)=>Z [p 0 (L Ty.str a0),p 1 (U a1),p 7 (I (↑a0.length:Int)),p 8 (I v0)] []) 0 H fun _ g1 b1 e1 t1 v0 H =>
  qA (Z [p 0 (L Ty.str a0),p 1 (U a1),p 7 (I (↑a0.length:Int)),p 8 (I v0),p 9 (B (decide (v0 < (↑a0.length:Int))))] []) <|
  vx_seq <|
  cD H (fun H=>?_) (fun H=>?_)
 ·refine vx_skip<|fx_seq<|vx_seq<|vx_block <|
   qA (Z [p 0 (L Ty.str a0),p 1 (U a1),p 5 (I v0),p 7 (I (↑a0.length:Int)),p 8 (I v0)] []) <|
   qB (Z [p 0 (L Ty.str a0),p 1 (U a1),p 5 (I v0),p 7 (I (↑a0.length:Int)),p 8 (I v0),p 16 (B (decide (a1=a0.getD v0.toNat (dflt Ty.str))))] []) H fun H =>
   cD H (fun H=>?_) (fun H=>?_)
  ·refine qA (Z [p 4 (I v0)] []) <|
    vx_ret<|fx_blk_ret<|fx_seq_ret<|t1<|fx_blk_ret<|t0<|hr H
  refine vx_skip<|fx_blk<|fx_seq <|
   zB (Z [p 0 (L Ty.str a0),p 1 (U a1),p 7 (I (↑a0.length:Int)),p 8 (I (v0+1))] []) H fun H =>
   b1 H
 exact vx_exit<|fx_seq_exit<|e1<|fx_blk_exit rfl<|n0 H
def u206 (a0:List ByteArray) (a1:ByteArray):Option (Bool) :=
 gd ((u226 a0 a1).isSome=true∧True)<|lt (vl (u226 a0 a1)) fun v0 =>
 some (decide (0≤v0))
def k206:Ct:=lct 206 [.dat Ty.str.sl,.dat Ty.str] (fun x=>u206 x.1 x.2.1) (fun r:Bool=>B r) (fun _=>())
theorem o206:Ok Tryz.prog k206:=by
 refine okL [.tmp 4] Tryz.func206 Tryz.ntmps206 Tryz.results206 ?_
 intro y ⟨a0,a1,_⟩ r H Q hn hr
 have:HT _ _:=⟨tc o226 tn⟩
 refine qA (Z [p 0 (L Ty.str a0),p 1 (U a1)] []) <|
  qD (fun v0=>Z [p 4 (B (decide (0≤v0)))] []) H fun v0 H =>
  vx_ret<|hr H
def u112 (a0:ByteArray):Option (Bool) :=
 gd ((u98 (↑a0.size:Int) (1:Int) (8:Int)).isSome=true∧(vl (u98 (↑a0.size:Int) (1:Int) (8:Int))=true∧True→(u158 a0 (ByteArray.mk #[(97:UInt8),(98:UInt8),(99:UInt8),(100:UInt8),(101:UInt8),(102:UInt8),(103:UInt8),(104:UInt8),(105:UInt8),(106:UInt8),(107:UInt8),(108:UInt8),(109:UInt8),(110:UInt8),(111:UInt8),(112:UInt8),(113:UInt8),(114:UInt8),(115:UInt8),(116:UInt8),(117:UInt8),(118:UInt8),(119:UInt8),(120:UInt8),(121:UInt8),(122:UInt8),(48:UInt8),(49:UInt8),(50:UInt8),(51:UInt8),(52:UInt8),(53:UInt8),(54:UInt8),(55:UInt8),(56:UInt8),(57:UInt8)])).isSome=true)∧((vl (u98 (↑a0.size:Int) (1:Int) (8:Int))&&decide (vl (u158 a0 (ByteArray.mk #[(97:UInt8),(98:UInt8),(99:UInt8),(100:UInt8),(101:UInt8),(102:UInt8),(103:UInt8),(104:UInt8),(105:UInt8),(106:UInt8),(107:UInt8),(108:UInt8),(109:UInt8),(110:UInt8),(111:UInt8),(112:UInt8),(113:UInt8),(114:UInt8),(115:UInt8),(116:UInt8),(117:UInt8),(118:UInt8),(119:UInt8),(120:UInt8),(121:UInt8),(122:UInt8),(48:UInt8),(49:UInt8),(50:UInt8),(51:UInt8),(52:UInt8),(53:UInt8),(54:UInt8),(55:UInt8),(56:UInt8),(57:UInt8)]))=ByteArray.mk #[]))=true∧True→ix (0:Int) a0.size)∧((vl (u98 (↑a0.size:Int) (1:Int) (8:Int))&&decide (vl (u158 a0 (ByteArray.mk #[(97:UInt8),(98:UInt8),(99:UInt8),(100:UInt8),(101:UInt8),(102:UInt8),(103:UInt8),(104:UInt8),(105:UInt8),(106:UInt8),(107:UInt8),(108:UInt8),(109:UInt8),(110:UInt8),(111:UInt8),(112:UInt8),(113:UInt8),(114:UInt8),(115:UInt8),(116:UInt8),(117:UInt8),(118:UInt8),(119:UInt8),(120:UInt8),(121:UInt8),(122:UInt8),(48:UInt8),(49:UInt8),(50:UInt8),(51:UInt8),(52:UInt8),(53:UInt8),(54:UInt8),(55:UInt8),(56:UInt8),(57:UInt8)]))=ByteArray.mk #[]))=true∧True→(u159 (ByteArray.mk #[(97:UInt8),(98:UInt8),(99:UInt8),(100:UInt8),(101:UInt8),(102:UInt8),(103:UInt8),(104:UInt8),(105:UInt8),(106:UInt8),(107:UInt8),(108:UInt8),(109:UInt8),(110:UInt8),(111:UInt8),(112:UInt8),(113:UInt8),(114:UInt8),(115:UInt8),(116:UInt8),(117:UInt8),(118:UInt8),(119:UInt8),(120:UInt8),(121:UInt8),(122:UInt8)]) (byteAt a0 (Int.toNat (0:Int)))).isSome=true)∧True)<|lt ((vl (u158 a0 (ByteArray.mk #[97,98,99,100,101,102,103,104,105,106,107,108,109,110,111,112,113,114,115,116,117,118,119,120,121,122,48,49,50,51,52,53,54,55,56,57])),vl (u159 (ByteArray.mk #[(97:UInt8),(98:UInt8),(99:UInt8),(100:UInt8),(101:UInt8),(102:UInt8),(103:UInt8),(104:UInt8),(105:UInt8),(106:UInt8),(107:UInt8),(108:UInt8),(109:UInt8),(110:UInt8),(111:UInt8),(112:UInt8),(113:UInt8),(114:UInt8),(115:UInt8),(116:UInt8),(117:UInt8),(118:UInt8),(119:UInt8),(120:UInt8),(121:UInt8),(122:UInt8)]) (byteAt a0 (Int.toNat (0:Int)))))) fun (v0,v1) =>
 some (vl (u98 (↑a0.size:Int) 1 8)&&decide (v0=ByteArray.mk #[])&&decide (0≤v1))
def k112:Ct:=lct 112 [.dat Ty.str] (fun x=>u112 x.1) (fun r:Bool=>B r) (fun _=>())
theorem o112:Ok Tryz.prog k112:=by
 refine okL [.tmp 2] Tryz.func112 Tryz.ntmps112 Tryz.results112 ?_
 intro y ⟨a0,_⟩ r H Q hn hr
 have:HT _ _:=⟨tc o159 (tc o158 (tc o98 tn))⟩
 refine qA (Z [p 0 (U a0)] []) <|
  qD (fun (v0,v1)=>Z [p 2 (B (vl (u98 (↑a0.size:Int) 1 8)&&decide (v0=ByteArray.mk #[])&&decide (0≤v1)))] []) H fun ⟨v0,v1⟩ H =>
  vx_ret<|hr H
def u176J0:Unit→Option (Bool)
 | _ =>
 some true
def u176L1 (a0:List ByteArray) (g1:Int→Option (Bool)):Int→Option (Bool)
 | v0 =>
 if (decide (v0 < (↑a0.length:Int)))=true then
  gd (ix v0 a0.length∧True) <|
  gd ((u112 (a0.getD v0.toNat (dflt Ty.str))).isSome=true∧((!vl (u112 (a0.getD v0.toNat (dflt Ty.str))))=false∧True→(0:Int)≤(0:Int)∧(0:Int)≤v0∧v0≤(↑a0.length:Int))∧((!vl (u112 (a0.getD v0.toNat (dflt Ty.str))))=false∧True→(u206 (List.take v0.toNat a0) (a0.getD v0.toNat (dflt Ty.str))).isSome=true)∧True) <|
  if (!vl (u112 (a0.getD v0.toNat (dflt Ty.str)))||vl (u206 (List.take v0.toNat a0) (a0.getD v0.toNat (dflt Ty.str))))=true then
   some false
  else
   gd (in64 (v0+1)∧True) <|
   g1 (v0+1)
 else
  u176J0 ()
def u176 (a0:List ByteArray):Option (Bool) :=
 lp (u176L1 a0) 0
def k176:Ct:=lct 176 [.dat Ty.str.sl] (fun x=>u176 x.1) (fun r:Bool=>B r) (fun _=>())
theorem o176:Ok Tryz.prog k176:=by
 refine okL [.tmp 2] Tryz.func176 Tryz.ntmps176 Tryz.results176 ?_
 intro y ⟨a0,_⟩ r H Q hn hr
 have:HT _ _:=⟨tc o206 (tc o112 tn)⟩
 refine qA (Z [p 0 (L Ty.str a0)] []) <|
  jN r (fun (_:Unit)=>Z [] []) (u176J0) (fun _ H=>?_) (fun _ n0 e0 t0=>?_)
 ·refine qA (Z [p 2 (B true)] []) <|
   vx_ret<|hr H
 refine qA (Z [p 0 (L Ty.str a0),p 5 (L Ty.str a0),p 6 (I (↑a0.length:Int)),p 7 (I 0)] []) <|
  vx_block <|
  lX (fun (v0:Int)=>Z [p 0 (L Ty.str a0),p 5 (L Ty.str a0),p 6 (I (↑a0.length:Int)),p 7 (I v0)] []) 0 H fun _ g1 b1 e1 t1 v0 H =>
  qA (Z [p 0 (L Ty.str a0),p 5 (L Ty.str a0),p 6 (I (↑a0.length:Int)),p 7 (I v0),p 8 (B (decide (v0 < (↑a0.length:Int))))] []) <|
  vx_seq <|
  cD H (fun H=>?_) (fun H=>?_)
 ·refine vx_skip<|fx_seq<|vx_seq<|vx_block <|
   qB (Z [p 0 (L Ty.str a0),p 3 (I v0),p 4 (U (a0.getD v0.toNat (dflt Ty.str))),p 5 (L Ty.str a0),p 6 (I (↑a0.length:Int)),p 7 (I v0)] []) H fun H =>
   qB (Z [p 0 (L Ty.str a0),p 5 (L Ty.str a0),p 6 (I (↑a0.length:Int)),p 7 (I v0),p 21 (B (!vl (u112 (a0.getD v0.toNat (dflt Ty.str)))||vl (u206 (List.take v0.toNat a0) (a0.getD v0.toNat (dflt Ty.str)))))] []) H fun H =>
   cD H (fun H=>?_) (fun H=>?_)
  ·refine qA (Z [p 2 (B false)] []) <|
    vx_ret<|fx_blk_ret<|fx_seq_ret<|t1<|fx_blk_ret<|t0<|hr H
  refine vx_skip<|fx_blk<|fx_seq <|
   zB (Z [p 0 (L Ty.str a0),p 5 (L Ty.str a0),p 6 (I (↑a0.length:Int)),p 7 (I (v0+1))] []) H fun H =>
   b1 H
 exact vx_exit<|fx_seq_exit<|e1<|fx_blk_exit rfl<|n0 H
def u141J2 (v4:List ByteArray) (a0:Y42):List ByteArray→Option (Bool)
 | v9 =>
 gd (((decide ((↑v4.length:Int)≤14)&&decide ((↑a0.2.1.length:Int)≤30)&&decide ((↑v9.length:Int)≤8))=true∧True→(u176 v4).isSome=true)∧((decide ((↑v4.length:Int)≤14)&&decide ((↑a0.2.1.length:Int)≤30)&&decide ((↑v9.length:Int)≤8)&&vl (u176 v4))=true∧True→(u176 a0.2.1).isSome=true)∧((decide ((↑v4.length:Int)≤14)&&decide ((↑a0.2.1.length:Int)≤30)&&decide ((↑v9.length:Int)≤8)&&vl (u176 v4)&&vl (u176 a0.2.1))=true∧True→(u176 v9).isSome=true)∧True) <|
 some (decide ((↑v4.length:Int)≤14)&&decide ((↑a0.2.1.length:Int)≤30)&&decide ((↑v9.length:Int)≤8)&&vl (u176 v4)&&vl (u176 a0.2.1)&&vl (u176 v9))
def u141L3 (a0:Y42) (v4:List ByteArray) (g3:List ByteArray×Int→Option (Bool)):List ByteArray×Int→Option (Bool)
 | (v6,v7) =>
 if (decide (v7 < (↑a0.2.2.length:Int)))=true then
  gd (ix v7 a0.2.2.length∧True)<|lt (a0.2.2.getD v7.toNat (dflt y199)) fun v8 =>
  gd ((v6.length+[v8.1].length≤9223372036854775807∧(v6.length+[v8.1].length)*16≤140737488355328)∧True) <|
  gd (in64 (v7+1)∧True) <|
  g3 (v6++[v8.1],v7+1)
 else
  u141J2 v4 a0 v6
def u141J0 (a0:Y42):List ByteArray→Option (Bool)
 | v4 =>
 lp (u141L3 a0 v4) ([],0)
def u141L1 (a0:Y42) (g1:List ByteArray×Int→Option (Bool)):List ByteArray×Int→Option (Bool)
 | (v1,v2) =>
 if (decide (v2 < (↑a0.1.length:Int)))=true then
  gd (ix v2 a0.1.length∧True)<|lt (a0.1.getD v2.toNat (dflt y147)) fun v3 =>
  gd ((v1.length+[v3.1].length≤9223372036854775807∧(v1.length+[v3.1].length)*16≤140737488355328)∧True) <|
  gd (in64 (v2+1)∧True) <|
  g1 (v1++[v3.1],v2+1)
 else
  u141J0 a0 v1
def u141 (a0:Y42):Option (Bool) :=
 lp (u141L1 a0) ([],0)
def k141:Ct:=lct 141 [.agg y42] (fun x=>u141 x.1) (fun r:Bool=>B r) (fun _=>())
theorem o141:Ok Tryz.prog k141:=by
 refine okL [.tmp 2] Tryz.func141 Tryz.ntmps141 Tryz.results141 ?_
 intro y ⟨a0,_⟩ r H Q hn hr
 have:HT _ _:=⟨tc o176 tn⟩
 refine qA (Z [p 1 (R 1)] [(1,K 42 y42 a0)]) <|
  qA (Z [p 1 (R 1),p 3 (nil),p 4 (nil)] [(1,K 42 y42 a0)]) <|
  jN r (fun (v4:List ByteArray)=>Z [p 1 (R 1),p 3 (O 20),p 4 (nil)] [(1,K 42 y42 a0),(20,A 9 Ty.str v4 0)]) (u141J0 a0) (fun v4 H=>?_) (fun _ n0 e0 t0=>?_)
 ·refine jN r (fun (v9:List ByteArray)=>Z [p 1 (R 1),p 3 (O 20),p 4 (O 33)] [(1,K 42 y42 a0),(20,A 9 Ty.str v4 0),(33,A 9 Ty.str v9 0)]) (u141J2 v4 a0) (fun v9 H=>?_) (fun _ n2 e2 t2=>?_)
  ·refine qB (Z [p 2 (B (decide ((↑v4.length:Int)≤14)&&decide ((↑a0.2.1.length:Int)≤30)&&decide ((↑v9.length:Int)≤8)&&vl (u176 v4)&&vl (u176 a0.2.1)&&vl (u176 v9)))] [(1,K 42 y42 a0),(20,A 9 Ty.str v4 0),(33,A 9 Ty.str v9 0)]) H fun H =>
    vx_ret<|hr H
  refine qA (Z [p 1 (R 1),p 3 (O 20),p 4 (nil),p 23 (L y199 a0.2.2),p 24 (I (↑a0.2.2.length:Int)),p 25 (I 0)] [(1,K 42 y42 a0),(20,A 9 Ty.str v4 0)]) <|
   vx_block <|
   lX (fun ((v6,v7):List ByteArray×Int)=>Z [p 1 (R 1),p 3 (O 20),p 4 (O 33),p 23 (L y199 a0.2.2),p 24 (I (↑a0.2.2.length:Int)),p 25 (I v7)] [(1,K 42 y42 a0),(20,A 9 Ty.str v4 0),(33,A 9 Ty.str v6 0)]) ([],0) H fun _ g3 b3 e3 t3 ⟨v6,v7⟩ H =>
   qA (Z [p 1 (R 1),p 3 (O 20),p 4 (O 33),p 23 (L y199 a0.2.2),p 24 (I (↑a0.2.2.length:Int)),p 25 (I v7),p 26 (B (decide (v7 < (↑a0.2.2.length:Int))))] [(1,K 42 y42 a0),(20,A 9 Ty.str v4 0),(33,A 9 Ty.str v6 0)]) <|
   vx_seq <|
   cD H (fun H=>?_) (fun H=>?_)
  ·refine vx_skip<|fx_seq<|vx_seq<|vx_block <|
    qD (fun v8=>Z [p 1 (R 1),p 3 (O 20),p 4 (O 33),p 8 (R 8),p 23 (L y199 a0.2.2),p 24 (I (↑a0.2.2.length:Int)),p 25 (I v7)] [(8,K 199 y199 v8),(1,K 42 y42 a0),(20,A 9 Ty.str v4 0),(33,A 9 Ty.str v6 0)]) H fun v8 H =>
    zB (Z [p 1 (R 1),p 3 (O 20),p 4 (AV.os 33 1),p 23 (L y199 a0.2.2),p 24 (I (↑a0.2.2.length:Int)),p 25 (I v7)] [(33,A 9 Ty.str (v6++[v8.1]) 1),(32,A 9 Ty.str [v8.1] 0),(8,K 199 y199 v8),(1,K 42 y42 a0),(20,A 9 Ty.str v4 0)]) H fun H =>
    fx_blk<|fx_seq <|
    zB (Z [p 1 (R 1),p 3 (O 20),p 4 (AV.os 33 1),p 23 (L y199 a0.2.2),p 24 (I (↑a0.2.2.length:Int)),p 25 (I (v7+1))] [(33,A 9 Ty.str (v6++[v8.1]) 1),(32,A 9 Ty.str [v8.1] 0),(8,K 199 y199 v8),(1,K 42 y42 a0),(20,A 9 Ty.str v4 0)]) H fun H =>
    b3 H
  exact vx_exit<|fx_seq_exit<|e3<|fx_blk_exit rfl<|n2 H
 refine qA (Z [p 1 (R 1),p 3 (nil),p 4 (nil),p 10 (L y147 a0.1),p 11 (I (↑a0.1.length:Int)),p 12 (I 0)] [(1,K 42 y42 a0)]) <|
  vx_block <|
  lX (fun ((v1,v2):List ByteArray×Int)=>Z [p 1 (R 1),p 3 (O 20),p 4 (nil),p 10 (L y147 a0.1),p 11 (I (↑a0.1.length:Int)),p 12 (I v2)] [(1,K 42 y42 a0),(20,A 9 Ty.str v1 0)]) ([],0) H fun _ g1 b1 e1 t1 ⟨v1,v2⟩ H =>
  qA (Z [p 1 (R 1),p 3 (O 20),p 4 (nil),p 10 (L y147 a0.1),p 11 (I (↑a0.1.length:Int)),p 12 (I v2),p 13 (B (decide (v2 < (↑a0.1.length:Int))))] [(1,K 42 y42 a0),(20,A 9 Ty.str v1 0)]) <|
  vx_seq <|
  cD H (fun H=>?_) (fun H=>?_)
 ·refine vx_skip<|fx_seq<|vx_seq<|vx_block <|
   qD (fun v3=>Z [p 1 (R 1),p 3 (O 20),p 4 (nil),p 6 (R 6),p 10 (L y147 a0.1),p 11 (I (↑a0.1.length:Int)),p 12 (I v2)] [(6,K 147 y147 v3),(1,K 42 y42 a0),(20,A 9 Ty.str v1 0)]) H fun v3 H =>
   zB (Z [p 1 (R 1),p 3 (AV.os 20 1),p 4 (nil),p 10 (L y147 a0.1),p 11 (I (↑a0.1.length:Int)),p 12 (I v2)] [(20,A 9 Ty.str (v1++[v3.1]) 1),(19,A 9 Ty.str [v3.1] 0),(6,K 147 y147 v3),(1,K 42 y42 a0)]) H fun H =>
   fx_blk<|fx_seq <|
   zB (Z [p 1 (R 1),p 3 (AV.os 20 1),p 4 (nil),p 10 (L y147 a0.1),p 11 (I (↑a0.1.length:Int)),p 12 (I (v2+1))] [(20,A 9 Ty.str (v1++[v3.1]) 1),(19,A 9 Ty.str [v3.1] 0),(6,K 147 y147 v3),(1,K 42 y42 a0)]) H fun H =>
   b1 H
 exact vx_exit<|fx_seq_exit<|e1<|fx_blk_exit rfl<|n0 H
def u240 (a0:Y102) (a1:Int):Option (Bool) :=
 some (a0.1==a1)
def k240:Ct:=lct 240 [.agg y102,.dat (.pt i64)] (fun x=>u240 x.1 x.2.1) (fun r:Bool=>B r) (fun _=>())
theorem o240:Ok Tryz.prog k240:=by
 refine okL [.tmp 3] Tryz.func240 Tryz.ntmps240 Tryz.results240 ?_
 intro y ⟨a0,a1,_⟩ r H Q hn hr
 have:HT _ _:=⟨@tn Tryz.prog⟩
 refine qA (Z [p 1 (D i64.pt a1),p 2 (R 2)] [(2,K 102 y102 a0)]) <|
  qA (Z [p 3 (B (a0.1==a1))] [(2,K 102 y102 a0)]) <|
  vx_ret<|hr H
def u239c240J0:Unit→Option (Int)
 | _ =>
 some (-1)
def u239c240L1 (a0:List Y102) (a1:Int) (g1:Int→Option (Int)):Int→Option (Int)
 | v0 =>
 if (decide (v0 < (↑a0.length:Int)))=true then
  gd (ix v0 a0.length∧(u240 (a0.getD v0.toNat (dflt y102)) a1).isSome=true∧True) <|
  if (vl (u240 (a0.getD v0.toNat (dflt y102)) a1))=true then
   some v0
  else
   gd (in64 (v0+1)∧True) <|
   g1 (v0+1)
 else
  u239c240J0 ()
def u239c240 (a0:List Y102) (a1:Int):Option (Int) :=
 lp (u239c240L1 a0 a1) 0
def k239c240:Ct:=lct 239 [.dat y102.sl,.fn 240 i64.pt] (fun x=>u239c240 x.1 x.2.1) (fun r:Int=>I r) (fun _=>())
theorem o239c240:Ok Tryz.prog k239c240:=by
 refine okL [.tmp 4] Tryz.func239 Tryz.ntmps239 Tryz.results239 ?_
 intro y ⟨a0,a1,_⟩ r H Q hn hr
 have:HT _ _:=⟨tc o240 tn⟩
 refine qA (Z [p 0 (L y102 a0),p 1 (AV.fn 240 [D i64.pt a1])] []) <|
  jN r (fun (_:Unit)=>Z [] []) (u239c240J0) (fun _ H=>?_) (fun _ n0 e0 t0=>?_)
 ·refine qA (Z [p 4 (I (-1))] []) <|
   vx_ret<|hr H
 refine qA (Z [p 0 (L y102 a0),p 1 (AV.fn 240 [D i64.pt a1]),p 7 (I (↑a0.length:Int)),p 8 (I 0)] []) <|
  vx_block <|
  lX (fun (v0:Int)=>Z [p 0 (L y102 a0),p 1 (AV.fn 240 [D i64.pt a1]),p 7 (I (↑a0.length:Int)),p 8 (I v0)] []) 0 H fun _ g1 b1 e1 t1 v0 H =>
  qA (Z [p 0 (L y102 a0),p 1 (AV.fn 240 [D i64.pt a1]),p 7 (I (↑a0.length:Int)),p 8 (I v0),p 9 (B (decide (v0 < (↑a0.length:Int))))] []) <|
  vx_seq <|
  cD H (fun H=>?_) (fun H=>?_)
 ·refine vx_skip<|fx_seq<|vx_seq<|vx_block <|
   qA (Z [p 0 (L y102 a0),p 1 (AV.fn 240 [D i64.pt a1]),p 5 (I v0),p 7 (I (↑a0.length:Int)),p 8 (I v0)] []) <|
   qB (Z [p 0 (L y102 a0),p 1 (AV.fn 240 [D i64.pt a1]),p 5 (I v0),p 7 (I (↑a0.length:Int)),p 8 (I v0),p 16 (B (vl (u240 (a0.getD v0.toNat (dflt y102)) a1)))] []) H fun H =>
   cD H (fun H=>?_) (fun H=>?_)
  ·refine qA (Z [p 4 (I v0)] []) <|
    vx_ret<|fx_blk_ret<|fx_seq_ret<|t1<|fx_blk_ret<|t0<|hr H
  refine vx_skip<|fx_blk<|fx_seq <|
   zB (Z [p 0 (L y102 a0),p 1 (AV.fn 240 [D i64.pt a1]),p 7 (I (↑a0.length:Int)),p 8 (I (v0+1))] []) H fun H =>
   b1 H
 exact vx_exit<|fx_seq_exit<|e1<|fx_blk_exit rfl<|n0 H
def u222c240 (a0:List Y102) (a1:Int):Option (Bool) :=
 gd ((u239c240 a0 a1).isSome=true∧True)<|lt (vl (u239c240 a0 a1)) fun v0 =>
 some (decide (0≤v0))
def k222c240:Ct:=lct 222 [.dat y102.sl,.fn 240 (.pt i64)] (fun x=>u222c240 x.1 x.2.1) (fun r:Bool=>B r) (fun _=>())
theorem o222c240:Ok Tryz.prog k222c240:=by
 refine okL [.tmp 4] Tryz.func222 Tryz.ntmps222 Tryz.results222 ?_
 intro y ⟨a0,a1,_⟩ r H Q hn hr
 have:HT _ _:=⟨tc o239c240 (tc o240 tn)⟩
 refine qA (Z [p 0 (L y102 a0),p 1 (AV.fn 240 [D i64.pt a1])] []) <|
  qD (fun v0=>Z [p 4 (B (decide (0≤v0)))] []) H fun v0 H =>
  vx_ret<|hr H
def u225 (a0:Y145) (a1:Int):Option (Bool) :=
 gd ((u222c240 a0.2.2.2.1 a1).isSome=true∧True) <|
 some (vl (u222c240 a0.2.2.2.1 a1))
def k225:Ct:=lct 225 [.agg y145,.dat i64] (fun x=>u225 x.1 x.2.1) (fun r:Bool=>B r) (fun _=>())
theorem o225:Ok Tryz.prog k225:=by
 refine okL [.tmp 4] Tryz.func225 Tryz.ntmps225 Tryz.results225 ?_
 intro y ⟨a0,a1,_⟩ r H Q hn hr
 have:HT _ _:=⟨tc o222c240 (tc o240 tn)⟩
 refine qA (Z [p 2 (R 2),p 3 (R 3)] [(3,Ob.box 2 [J a1]),(2,K 145 y145 a0)]) <|
  qB (Z [p 4 (B (vl (u222c240 a0.2.2.2.1 a1)))] [(3,Ob.box 2 [J a1]),(2,K 145 y145 a0)]) H fun H =>
  vx_ret<|hr H
def u220 (a0:List Y241):Option (Int) :=
 some (↑a0.length:Int)
def k220:Ct:=lct 220 [.dat y241.sl] (fun x=>u220 x.1) (fun r:Int=>I r) (fun _=>())
theorem o220:Ok Tryz.prog k220:=by
 refine okL [.tmp 2] Tryz.func220 Tryz.ntmps220 Tryz.results220 ?_
 intro y ⟨a0,_⟩ r H Q hn hr
 have:HT _ _:=⟨@tn Tryz.prog⟩
 refine qA (Z [p 0 (L y241 a0)] []) <|
  qA (Z [p 2 (I (↑a0.length:Int))] []) <|
  vx_ret<|hr H
def u224 (a0:Y145):Option (Int) :=
 gd ((u220 a0.2.2.1).isSome=true∧in64 (vl (u220 a0.2.2.1) - 1)∧True)<|lt (vl (u220 a0.2.2.1)) fun v0 =>
 some (v0 - 1)
def k224:Ct:=lct 224 [.agg y145] (fun x=>u224 x.1) (fun r:Int=>I r) (fun _=>())
theorem o224:Ok Tryz.prog k224:=by
 refine okL [.tmp 2] Tryz.func224 Tryz.ntmps224 Tryz.results224 ?_
 intro y ⟨a0,_⟩ r H Q hn hr
 have:HT _ _:=⟨tc o220 tn⟩
 refine qA (Z [p 1 (R 1)] [(1,K 145 y145 a0)]) <|
  qD (fun v0=>Z [p 2 (I (v0 - 1))] [(1,K 145 y145 a0)]) H fun v0 H =>
  vx_ret<|hr H
def u205J0 (a0:Y145):Int→Option (Bool)
 | v6 =>
 if (a0.2.1==1)=true then
  gd (((v6==0)=true∧True→(u224 a0).isSome=true)∧((v6==0)=true∧True→(0≤vl (u224 a0)∧vl (u224 a0)≤62)∧in64 (1*2 ^ (vl (u224 a0)).toNat))∧((v6==0&&(↑a0.2.2.2.2.1.length:Int)==1*2 ^ (vl (u224 a0)).toNat)=true∧True→(u147 a0.2.2.2.2.1 0 1).isSome=true)∧True)<|lt (vl (u224 a0)) fun v7 =>
  some (v6==0&&(↑a0.2.2.2.2.1.length:Int)==1*2 ^ v7.toNat&&vl (u147 a0.2.2.2.2.1 0 1))
 else
  if (a0.2.1==2)=true then
   gd (((v6==1&&(↑a0.2.2.2.2.1.length:Int)==0)=true∧True→(u225 a0 1).isSome=true)∧((v6==1&&(↑a0.2.2.2.2.1.length:Int)==0&&!vl (u225 a0 1))=true∧True→(u225 a0 2).isSome=true)∧((v6==1&&(↑a0.2.2.2.2.1.length:Int)==0&&!vl (u225 a0 1))=true∧True→(u225 a0 3).isSome=true)∧True) <|
   some (v6==1&&(↑a0.2.2.2.2.1.length:Int)==0&&!vl (u225 a0 1)&&!vl (u225 a0 2)==vl (u225 a0 3))
  else
   if (a0.2.1==3)=true then
    gd (((v6==1&&(↑a0.2.2.2.2.1.length:Int)==0)=true∧True→(u225 a0 1).isSome=true)∧((v6==1&&(↑a0.2.2.2.2.1.length:Int)==0&&vl (u225 a0 1))=true∧True→(u225 a0 2).isSome=true)∧((v6==1&&(↑a0.2.2.2.2.1.length:Int)==0&&vl (u225 a0 1)&&vl (u225 a0 2))=true∧True→(u225 a0 3).isSome=true)∧True) <|
    some (v6==1&&(↑a0.2.2.2.2.1.length:Int)==0&&vl (u225 a0 1)&&vl (u225 a0 2)&&!vl (u225 a0 3))
   else
    some false
def u205J2 (v3:Int) (g1:Int×Int→Option (Bool)):Int→Option (Bool)
 | v5 =>
 gd (in64 (v3+1)∧True) <|
 g1 (v5,v3+1)
def u205L1 (a0:Y145) (g1:Int×Int→Option (Bool)):Int×Int→Option (Bool)
 | (v2,v3) =>
 if (decide (v3 < (↑a0.2.2.1.length:Int)))=true then
  gd (ix v3 a0.2.2.1.length∧True)<|lt (a0.2.2.1.getD v3.toNat (dflt y241)) fun v4 =>
  if v4.2.2.2=true then
   gd (in64 (v2+1)∧True) <|
   u205J2 v3 g1 (v2+1)
  else
   u205J2 v3 g1 v2
 else
  u205J0 a0 v2
def u205 (a0:Y145):Option (Bool) :=
 lp (u205L1 a0) (0,0)
def k205:Ct:=lct 205 [.agg y145] (fun x=>u205 x.1) (fun r:Bool=>B r) (fun _=>())
theorem o205:Ok Tryz.prog k205:=by
 refine okL [.tmp 2] Tryz.func205 Tryz.ntmps205 Tryz.results205 ?_
 intro y ⟨a0,_⟩ r H Q hn hr
 have:HT _ _:=⟨tc o225 (tc o147 (tc o224 tn))⟩
 refine qA (Z [p 1 (R 1)] [(1,K 145 y145 a0)]) <|
  qA (Z [p 1 (R 1),p 3 (I 0)] [(1,K 145 y145 a0)]) <|
  jN r (fun (v6:Int)=>Z [p 1 (R 1),p 3 (I v6)] [(1,K 145 y145 a0)]) (u205J0 a0) (fun v6 H=>?_) (fun _ n0 e0 t0=>?_)
 ·refine vx_seq <|
   qA (Z [p 1 (R 1),p 3 (I v6),p 19 (J a0.2.1)] [(1,K 145 y145 a0)]) <|
   vx_block <|
   qA (Z [p 1 (R 1),p 3 (I v6),p 19 (J a0.2.1),p 20 (B (a0.2.1==1))] [(1,K 145 y145 a0)]) <|
   cD H (fun H=>?_) (fun H=>?_)
  ·refine qD (fun v7=>Z [p 2 (B (v6==0&&(↑a0.2.2.2.2.1.length:Int)==1*2 ^ v7.toNat&&vl (u147 a0.2.2.2.2.1 0 1)))] [(1,K 145 y145 a0)]) H fun v7 H =>
    vx_ret<|fx_blk_ret<|fx_seq_ret<|hr H
  refine qA (Z [p 1 (R 1),p 3 (I v6),p 19 (J a0.2.1),p 38 (B (a0.2.1==2))] [(1,K 145 y145 a0)]) <|
   cD H (fun H=>?_) (fun H=>?_)
  ·refine qB (Z [p 2 (B (v6==1&&(↑a0.2.2.2.2.1.length:Int)==0&&!vl (u225 a0 1)&&!vl (u225 a0 2)==vl (u225 a0 3)))] [(1,K 145 y145 a0)]) H fun H =>
    vx_ret<|fx_blk_ret<|fx_seq_ret<|hr H
  refine qA (Z [p 1 (R 1),p 3 (I v6),p 60 (B (a0.2.1==3))] [(1,K 145 y145 a0)]) <|
   cD H (fun H=>?_) (fun H=>?_)
  ·refine qB (Z [p 2 (B (v6==1&&(↑a0.2.2.2.2.1.length:Int)==0&&vl (u225 a0 1)&&vl (u225 a0 2)&&!vl (u225 a0 3)))] [(1,K 145 y145 a0)]) H fun H =>
    vx_ret<|fx_blk_ret<|fx_seq_ret<|hr H
  refine vx_skip<|fx_blk<|fx_seq <|
   qA (Z [p 2 (B false)] [(1,K 145 y145 a0)]) <|
   vx_ret<|hr H
 refine qA (Z [p 1 (R 1),p 3 (I 0),p 7 (L y241 a0.2.2.1),p 8 (I (↑a0.2.2.1.length:Int)),p 9 (I 0)] [(1,K 145 y145 a0)]) <|
  vx_block <|
  lX (fun ((v2,v3):Int×Int)=>Z [p 1 (R 1),p 3 (I v2),p 7 (L y241 a0.2.2.1),p 8 (I (↑a0.2.2.1.length:Int)),p 9 (I v3)] [(1,K 145 y145 a0)]) (0,0) H fun _ g1 b1 e1 t1 ⟨v2,v3⟩ H =>
  qA (Z [p 1 (R 1),p 3 (I v2),p 7 (L y241 a0.2.2.1),p 8 (I (↑a0.2.2.1.length:Int)),p 9 (I v3),p 10 (B (decide (v3 < (↑a0.2.2.1.length:Int))))] [(1,K 145 y145 a0)]) <|
  vx_seq <|
  cD H (fun H=>?_) (fun H=>?_)
 ·refine vx_skip<|fx_seq <|
   jN r (fun (v5:Int)=>Z [p 1 (R 1),p 3 (I v5),p 7 (L y241 a0.2.2.1),p 8 (I (↑a0.2.2.1.length:Int)),p 9 (I v3)] [(1,K 145 y145 a0)]) (u205J2 v3 g1) (fun v5 H=>?_) (fun _ n2 e2 t2=>?_)
  ·refine zB (Z [p 1 (R 1),p 3 (I v5),p 7 (L y241 a0.2.2.1),p 8 (I (↑a0.2.2.1.length:Int)),p 9 (I (v3+1))] [(1,K 145 y145 a0)]) H fun H =>
    b1 H
  refine vx_block <|
   qD (fun v4=>Z [p 1 (R 1),p 3 (I v2),p 5 (R 5),p 7 (L y241 a0.2.2.1),p 8 (I (↑a0.2.2.1.length:Int)),p 9 (I v3)] [(5,K 241 y241 v4),(1,K 145 y145 a0)]) H fun v4 H =>
   qA (Z [p 1 (R 1),p 3 (I v2),p 7 (L y241 a0.2.2.1),p 8 (I (↑a0.2.2.1.length:Int)),p 9 (I v3),p 14 (C v4.2.2.2)] [(5,K 241 y241 v4),(1,K 145 y145 a0)]) <|
   cD H (fun H=>?_) (fun H=>?_)
  ·refine zB (Z [p 1 (R 1),p 3 (I (v2+1)),p 7 (L y241 a0.2.2.1),p 8 (I (↑a0.2.2.1.length:Int)),p 9 (I v3)] [(5,K 241 y241 v4),(1,K 145 y145 a0)]) H fun H =>
    fx_blk<|n2 H
  exact vx_skip<|fx_blk<|n2 H
 exact vx_exit<|fx_seq_exit<|e1<|fx_blk_exit rfl<|n0 H
def u238 (a0:Y145) (a1:Int):Option (Bool) :=
 gd ((u224 a0).isSome=true∧in64 (vl (u224 a0) - 1)∧(u98 a1 0 (vl (u224 a0) - 1)).isSome=true∧True) <|
 some (vl (u98 a1 0 (vl (u224 a0) - 1)))
def k238:Ct:=lct 238 [.agg y145,.dat i64] (fun x=>u238 x.1 x.2.1) (fun r:Bool=>B r) (fun _=>())
theorem o238:Ok Tryz.prog k238:=by
 refine okL [.tmp 4] Tryz.func238 Tryz.ntmps238 Tryz.results238 ?_
 intro y ⟨a0,a1,_⟩ r H Q hn hr
 have:HT _ _:=⟨tc o98 (tc o224 tn)⟩
 refine qA (Z [p 1 (J a1),p 2 (R 2)] [(2,K 145 y145 a0)]) <|
  qB (Z [p 4 (B (vl (u98 a1 0 (vl (u224 a0) - 1))))] [(2,K 145 y145 a0)]) H fun H =>
  vx_ret<|hr H
def u249J1:Int→Option (Int)
 | v3 =>
 some v3
def u249L2 (a0:List Int) (g2:Int×Int→Option (Int)):Int×Int→Option (Int)
 | (v1,v2) =>
 if (decide (v2 < (↑a0.length:Int)))=true then
  gd (ix v2 a0.length∧True) <|
  gd (in64 (v2+1)∧True) <|
  g2 ((min v1 (a0.getD v2.toNat 0),v2+1))
 else
  u249J1 v1
def u249J0 (a0:List Int):Unit→Option (Int)
 | _ =>
 gd (ix 0 a0.length∧True) <|
 lp (u249L2 a0) ((a0.getD (Int.toNat (0:Int)) (0:Int),1))
def u249 (a0:List Int):Option (Int) :=
 if (decide ((↑a0.length:Int) < 1))=true then
  none
 else
  u249J0 a0 ()
def k249:Ct:=lct 249 [.dat i64.sl] (fun x=>u249 x.1) (fun r:Int=>I r) (fun _=>())
theorem o249:Ok Tryz.prog k249:=by
 refine okL [.tmp 2] Tryz.func249 Tryz.ntmps249 Tryz.results249 ?_
 intro y ⟨a0,_⟩ r H Q hn hr
 have:HT _ _:=⟨@tn Tryz.prog⟩
 refine qA (Z [p 0 (L i64 a0)] []) <|
  jN r (fun (_:Unit)=>Z [p 0 (L i64 a0)] []) (u249J0 a0) (fun _ H=>?_) (fun _ n0 e0 t0=>?_)
 ·refine qB (Z [p 0 (L i64 a0),p 3 (J (a0.getD (Int.toNat (0:Int)) (0:Int)))] []) H fun H =>
   jN r (fun (v3:Int)=>Z [p 3 (J v3)] []) (u249J1) (fun v3 H=>?_) (fun _ n1 e1 t1=>?_)
  ·refine qA (Z [p 2 (J v3)] []) <|
    vx_ret<|hr H
  refine qA (Z [p 0 (L i64 a0),p 3 (J (a0.getD (Int.toNat (0:Int)) (0:Int))),p 4 (I (1:Int))] []) <|
   vx_block <|
   lX (fun ((v1,v2):Int×Int)=>Z [p 0 (L i64 a0),p 3 (J v1),p 4 (I v2)] []) ((a0.getD (Int.toNat (0:Int)) (0:Int),1)) H fun _ g2 b2 e2 t2 ⟨v1,v2⟩ H =>
   vx_seq <|
   qA (Z [p 0 (L i64 a0),p 3 (J v1),p 4 (I v2),p 15 (B (decide (v2 < (↑a0.length:Int))))] []) <|
   cD H (fun H=>?_) (fun H=>?_)
  ·refine vx_skip<|fx_seq<|vx_seq<|vx_block <|
    zB (Z [p 0 (L i64 a0),p 3 (I (min v1 (a0.getD v2.toNat 0))),p 4 (I v2)] []) H fun H =>
    fx_blk<|fx_seq <|
    zB (Z [p 0 (L i64 a0),p 3 (I (min v1 (a0.getD v2.toNat 0))),p 4 (I (v2+1))] []) H fun H =>
    b2 H
  exact vx_exit<|fx_seq_exit<|e2<|fx_blk_exit rfl<|n1 H
 refine qA (Z [p 0 (L i64 a0),p 7 (B (decide ((↑a0.length:Int) < 1)))] []) <|
  cD H (fun H=>?_) (fun H=>?_)
 ·exact dead H
 exact vx_skip<|n0 H
def u164J0:Unit→Option (Bool)
 | _ =>
 some true
def u164L1 (a0:List Int) (g1:Int→Option (Bool)):Int→Option (Bool)
 | v0 =>
 if (decide (v0 < (↑a0.length:Int)))=true then
  gd (in64 (v0 - 1)∧ix (v0 - 1) a0.length∧ix v0 a0.length∧True) <|
  if (decide (a0.getD v0.toNat 0≤a0.getD (v0 - 1).toNat 0))=true then
   some false
  else
   gd (in64 (v0+1)∧True) <|
   g1 (v0+1)
 else
  u164J0 ()
def u164 (a0:List Int):Option (Bool) :=
 lp (u164L1 a0) 1
def k164:Ct:=lct 164 [.dat i64.sl] (fun x=>u164 x.1) (fun r:Bool=>B r) (fun _=>())
theorem o164:Ok Tryz.prog k164:=by
 refine okL [.tmp 2] Tryz.func164 Tryz.ntmps164 Tryz.results164 ?_
 intro y ⟨a0,_⟩ r H Q hn hr
 have:HT _ _:=⟨@tn Tryz.prog⟩
 refine qA (Z [p 0 (L i64 a0)] []) <|
  jN r (fun (_:Unit)=>Z [] []) (u164J0) (fun _ H=>?_) (fun _ n0 e0 t0=>?_)
 ·refine qA (Z [p 2 (B true)] []) <|
   vx_ret<|hr H
 refine qA (Z [p 0 (L i64 a0),p 3 (I 1)] []) <|
  vx_block <|
  lX (fun (v0:Int)=>Z [p 0 (L i64 a0),p 3 (I v0)] []) 1 H fun _ g1 b1 e1 t1 v0 H =>
  vx_seq <|
  qA (Z [p 0 (L i64 a0),p 3 (I v0),p 7 (B (decide (v0 < (↑a0.length:Int))))] []) <|
  cD H (fun H=>?_) (fun H=>?_)
 ·refine vx_skip<|fx_seq<|vx_seq<|vx_block <|
   qB (Z [p 0 (L i64 a0),p 3 (I v0),p 19 (B (decide (a0.getD v0.toNat 0≤a0.getD (v0 - 1).toNat 0)))] []) H fun H =>
   cD H (fun H=>?_) (fun H=>?_)
  ·refine qA (Z [p 2 (B false)] []) <|
    vx_ret<|fx_blk_ret<|fx_seq_ret<|t1<|fx_blk_ret<|t0<|hr H
  refine vx_skip<|fx_blk<|fx_seq <|
   zB (Z [p 0 (L i64 a0),p 3 (I (v0+1))] []) H fun H =>
   b1 H
 exact vx_exit<|fx_seq_exit<|e1<|fx_blk_exit rfl<|n0 H
def u254 (a0:List Int):Option (Bool) :=
 gd ((u95 a0).isSome=true∧(u98 (vl (u95 a0)) 1 4).isSome=true∧(vl (u98 (vl (u95 a0)) 1 4)=true∧True→(u147 a0 0 100000).isSome=true)∧((vl (u98 (vl (u95 a0)) 1 4)&&vl (u147 a0 0 100000))=true∧True→(u164 a0).isSome=true)∧True) <|
 some (vl (u98 (vl (u95 a0)) 1 4)&&vl (u147 a0 0 100000)&&vl (u164 a0))
def k254:Ct:=lct 254 [.dat i64.sl] (fun x=>u254 x.1) (fun r:Bool=>B r) (fun _=>())
theorem o254:Ok Tryz.prog k254:=by
 refine okL [.tmp 2] Tryz.func254 Tryz.ntmps254 Tryz.results254 ?_
 intro y ⟨a0,_⟩ r H Q hn hr
 have:HT _ _:=⟨tc o164 (tc o147 (tc o98 (tc o95 tn)))⟩
 refine qA (Z [p 0 (L i64 a0)] []) <|
  qB (Z [p 2 (B (vl (u98 (vl (u95 a0)) 1 4)&&vl (u147 a0 0 100000)&&vl (u164 a0)))] []) H fun H =>
  vx_ret<|hr H
def u248 (a0:Y106):Option (Bool) :=
 gd ((u254 a0.1).isSome=true∧(vl (u254 a0.1)=true∧True→(u254 a0.2.1).isSome=true)∧((vl (u254 a0.1)&&vl (u254 a0.2.1))=true∧True→in64 ((↑a0.1.length:Int)*(↑a0.2.1.length:Int)))∧((vl (u254 a0.1)&&vl (u254 a0.2.1)&&(↑a0.2.2.length:Int)==(↑a0.1.length:Int)*(↑a0.2.1.length:Int))=true∧True→(u147 a0.2.2 (-1000000) 1000000).isSome=true)∧True) <|
 some (vl (u254 a0.1)&&vl (u254 a0.2.1)&&(↑a0.2.2.length:Int)==(↑a0.1.length:Int)*(↑a0.2.1.length:Int)&&vl (u147 a0.2.2 (-1000000) 1000000))
def k248:Ct:=lct 248 [.agg y106] (fun x=>u248 x.1) (fun r:Bool=>B r) (fun _=>())
theorem o248:Ok Tryz.prog k248:=by
 refine okL [.tmp 2] Tryz.func248 Tryz.ntmps248 Tryz.results248 ?_
 intro y ⟨a0,_⟩ r H Q hn hr
 have:HT _ _:=⟨tc o147 (tc o254 tn)⟩
 refine qA (Z [p 1 (R 1)] [(1,K 106 y106 a0)]) <|
  qB (Z [p 2 (B (vl (u254 a0.1)&&vl (u254 a0.2.1)&&(↑a0.2.2.length:Int)==(↑a0.1.length:Int)*(↑a0.2.1.length:Int)&&vl (u147 a0.2.2 (-1000000) 1000000)))] [(1,K 106 y106 a0)]) H fun H =>
  vx_ret<|hr H
def u247 (a0:Y106) (a1:Bool):Option (Bool) :=
 gd ((u248 a0).isSome=true∧(a1=true∧(!vl (u248 a0))=false∧True→(u249 a0.2.2).isSome=true)∧True)<|lt (vl (u249 a0.2.2)) fun v0 =>
 some (!vl (u248 a0)||a1&&decide (v0 < 0))
def k247:Ct:=lct 247 [.agg y106,.dat (.pt Ty.bool)] (fun x=>u247 x.1 x.2.1) (fun r:Bool=>B r) (fun _=>())
theorem o247:Ok Tryz.prog k247:=by
 refine okL [.tmp 3] Tryz.func247 Tryz.ntmps247 Tryz.results247 ?_
 intro y ⟨a0,a1,_⟩ r H Q hn hr
 have:HT _ _:=⟨tc o249 (tc o248 tn)⟩
 refine qA (Z [p 1 (D Ty.bool.pt a1),p 2 (R 2)] [(2,K 106 y106 a0)]) <|
  qD (fun v0=>Z [p 3 (B (!vl (u248 a0)||a1&&decide (v0 < 0)))] [(2,K 106 y106 a0)]) H fun v0 H =>
  vx_ret<|hr H
def u253c247J0:Unit→Option (Int)
 | _ =>
 some (-1)
def u253c247L1 (a0:List Y106) (a1:Bool) (g1:Int→Option (Int)):Int→Option (Int)
 | v0 =>
 if (decide (v0 < (↑a0.length:Int)))=true then
  gd (ix v0 a0.length∧(u247 (a0.getD v0.toNat (dflt y106)) a1).isSome=true∧True) <|
  if (vl (u247 (a0.getD v0.toNat (dflt y106)) a1))=true then
   some v0
  else
   gd (in64 (v0+1)∧True) <|
   g1 (v0+1)
 else
  u253c247J0 ()
def u253c247 (a0:List Y106) (a1:Bool):Option (Int) :=
 lp (u253c247L1 a0 a1) 0
def k253c247:Ct:=lct 253 [.dat y106.sl,.fn 247 Ty.bool.pt] (fun x=>u253c247 x.1 x.2.1) (fun r:Int=>I r) (fun _=>())
theorem o253c247:Ok Tryz.prog k253c247:=by
 refine okL [.tmp 4] Tryz.func253 Tryz.ntmps253 Tryz.results253 ?_
 intro y ⟨a0,a1,_⟩ r H Q hn hr
 have:HT _ _:=⟨tc o247 tn⟩
 refine qA (Z [p 0 (L y106 a0),p 1 (AV.fn 247 [D Ty.bool.pt a1])] []) <|
  jN r (fun (_:Unit)=>Z [] []) (u253c247J0) (fun _ H=>?_) (fun _ n0 e0 t0=>?_)
 ·refine qA (Z [p 4 (I (-1))] []) <|
   vx_ret<|hr H
 refine qA (Z [p 0 (L y106 a0),p 1 (AV.fn 247 [D Ty.bool.pt a1]),p 7 (I (↑a0.length:Int)),p 8 (I 0)] []) <|
  vx_block <|
  lX (fun (v0:Int)=>Z [p 0 (L y106 a0),p 1 (AV.fn 247 [D Ty.bool.pt a1]),p 7 (I (↑a0.length:Int)),p 8 (I v0)] []) 0 H fun _ g1 b1 e1 t1 v0 H =>
  qA (Z [p 0 (L y106 a0),p 1 (AV.fn 247 [D Ty.bool.pt a1]),p 7 (I (↑a0.length:Int)),p 8 (I v0),p 9 (B (decide (v0 < (↑a0.length:Int))))] []) <|
  vx_seq <|
  cD H (fun H=>?_) (fun H=>?_)
 ·refine vx_skip<|fx_seq<|vx_seq<|vx_block <|
   qA (Z [p 0 (L y106 a0),p 1 (AV.fn 247 [D Ty.bool.pt a1]),p 5 (I v0),p 7 (I (↑a0.length:Int)),p 8 (I v0)] []) <|
   qB (Z [p 0 (L y106 a0),p 1 (AV.fn 247 [D Ty.bool.pt a1]),p 5 (I v0),p 7 (I (↑a0.length:Int)),p 8 (I v0),p 16 (B (vl (u247 (a0.getD v0.toNat (dflt y106)) a1)))] []) H fun H =>
   cD H (fun H=>?_) (fun H=>?_)
  ·refine qA (Z [p 4 (I v0)] []) <|
    vx_ret<|fx_blk_ret<|fx_seq_ret<|t1<|fx_blk_ret<|t0<|hr H
  refine vx_skip<|fx_blk<|fx_seq <|
   zB (Z [p 0 (L y106 a0),p 1 (AV.fn 247 [D Ty.bool.pt a1]),p 7 (I (↑a0.length:Int)),p 8 (I (v0+1))] []) H fun H =>
   b1 H
 exact vx_exit<|fx_seq_exit<|e1<|fx_blk_exit rfl<|n0 H
def u246c247 (a0:List Y106) (a1:Bool):Option (Bool) :=
 gd ((u253c247 a0 a1).isSome=true∧True)<|lt (vl (u253c247 a0 a1)) fun v0 =>
 some (decide (0≤v0))
def k246c247:Ct:=lct 246 [.dat y106.sl,.fn 247 (.pt Ty.bool)] (fun x=>u246c247 x.1 x.2.1) (fun r:Bool=>B r) (fun _=>())
theorem o246c247:Ok Tryz.prog k246c247:=by
 refine okL [.tmp 4] Tryz.func246 Tryz.ntmps246 Tryz.results246 ?_
 intro y ⟨a0,a1,_⟩ r H Q hn hr
 have:HT _ _:=⟨tc o253c247 (tc o247 tn)⟩
 refine qA (Z [p 0 (L y106 a0),p 1 (AV.fn 247 [D Ty.bool.pt a1])] []) <|
  qD (fun v0=>Z [p 4 (B (decide (0≤v0)))] []) H fun v0 H =>
  vx_ret<|hr H
def u236 (a0:List Y106) (a1:Bool):Option (Bool) :=
 gd ((((↑a0.length:Int)==2)=true∧True→(u246c247 a0 a1).isSome=true)∧True) <|
 some ((↑a0.length:Int)==2&&!vl (u246c247 a0 a1))
def k236:Ct:=lct 236 [.dat y106.sl,.dat Ty.bool] (fun x=>u236 x.1 x.2.1) (fun r:Bool=>B r) (fun _=>())
theorem o236:Ok Tryz.prog k236:=by
 refine okL [.tmp 4] Tryz.func236 Tryz.ntmps236 Tryz.results236 ?_
 intro y ⟨a0,a1,_⟩ r H Q hn hr
 have:HT _ _:=⟨tc o246c247 (tc o247 tn)⟩
 refine qA (Z [p 0 (L y106 a0),p 3 (R 3)] [(3,Ob.box 4 [C a1])]) <|
  qB (Z [p 4 (B ((↑a0.length:Int)==2&&!vl (u246c247 a0 a1)))] [(3,Ob.box 4 [C a1])]) H fun H =>
  vx_ret<|hr H
def u251 (a0:Y241):Option (Bool) :=
 some a0.2.2.2
def k251:Ct:=lct 251 [.agg y241] (fun x=>u251 x.1) (fun r:Bool=>B r) (fun _=>())
theorem o251:Ok Tryz.prog k251:=by
 refine okL [.tmp 2] Tryz.func251 Tryz.ntmps251 Tryz.results251 ?_
 intro y ⟨a0,_⟩ r H Q hn hr
 have:HT _ _:=⟨@tn Tryz.prog⟩
 refine qA (Z [p 1 (R 1)] [(1,K 241 y241 a0)]) <|
  qA (Z [p 2 (C a0.2.2.2)] [(1,K 241 y241 a0)]) <|
  vx_ret<|hr H
def u250c251J0:Unit→Option (Int)
 | _ =>
 some (-1)
def u250c251L1 (a0:List Y241) (g1:Int→Option (Int)):Int→Option (Int)
 | v0 =>
 if (decide (v0 < (↑a0.length:Int)))=true then
  gd (ix v0 a0.length∧(u251 (a0.getD v0.toNat (dflt y241))).isSome=true∧True) <|
  if (vl (u251 (a0.getD v0.toNat (dflt y241))))=true then
   some v0
  else
   gd (in64 (v0+1)∧True) <|
   g1 (v0+1)
 else
  u250c251J0 ()
def u250c251 (a0:List Y241):Option (Int) :=
 lp (u250c251L1 a0) 0
def k250c251:Ct:=lct 250 [.dat y241.sl,.nof 251] (fun x=>u250c251 x.1) (fun r:Int=>I r) (fun _=>())
theorem o250c251:Ok Tryz.prog k250c251:=by
 refine okL [.tmp 4] Tryz.func250 Tryz.ntmps250 Tryz.results250 ?_
 intro y ⟨a0,_,_⟩ r H Q hn hr
 have:HT _ _:=⟨tc o251 tn⟩
 refine qA (Z [p 0 (L y241 a0),p 1 (AV.fn 251 [])] []) <|
  jN r (fun (_:Unit)=>Z [] []) (u250c251J0) (fun _ H=>?_) (fun _ n0 e0 t0=>?_)
 ·refine qA (Z [p 4 (I (-1))] []) <|
   vx_ret<|hr H
 refine qA (Z [p 0 (L y241 a0),p 1 (AV.fn 251 []),p 7 (I (↑a0.length:Int)),p 8 (I 0)] []) <|
  vx_block <|
  lX (fun (v0:Int)=>Z [p 0 (L y241 a0),p 1 (AV.fn 251 []),p 7 (I (↑a0.length:Int)),p 8 (I v0)] []) 0 H fun _ g1 b1 e1 t1 v0 H =>
  qA (Z [p 0 (L y241 a0),p 1 (AV.fn 251 []),p 7 (I (↑a0.length:Int)),p 8 (I v0),p 9 (B (decide (v0 < (↑a0.length:Int))))] []) <|
  vx_seq <|
  cD H (fun H=>?_) (fun H=>?_)
 ·refine vx_skip<|fx_seq<|vx_seq<|vx_block <|
   qA (Z [p 0 (L y241 a0),p 1 (AV.fn 251 []),p 5 (I v0),p 7 (I (↑a0.length:Int)),p 8 (I v0)] []) <|
   qB (Z [p 0 (L y241 a0),p 1 (AV.fn 251 []),p 5 (I v0),p 7 (I (↑a0.length:Int)),p 8 (I v0),p 16 (B (vl (u251 (a0.getD v0.toNat (dflt y241)))))] []) H fun H =>
   cD H (fun H=>?_) (fun H=>?_)
  ·refine qA (Z [p 4 (I v0)] []) <|
    vx_ret<|fx_blk_ret<|fx_seq_ret<|t1<|fx_blk_ret<|t0<|hr H
  refine vx_skip<|fx_blk<|fx_seq <|
   zB (Z [p 0 (L y241 a0),p 1 (AV.fn 251 []),p 7 (I (↑a0.length:Int)),p 8 (I (v0+1))] []) H fun H =>
   b1 H
 exact vx_exit<|fx_seq_exit<|e1<|fx_blk_exit rfl<|n0 H
def u237 (a0:Y145):Option (Int) :=
 gd ((u250c251 a0.2.2.1).isSome=true∧True)<|lt (vl (u250c251 a0.2.2.1)) fun v0 =>
 some v0
def k237:Ct:=lct 237 [.agg y145] (fun x=>u237 x.1) (fun r:Int=>I r) (fun _=>())
theorem o237:Ok Tryz.prog k237:=by
 refine okL [.tmp 2] Tryz.func237 Tryz.ntmps237 Tryz.results237 ?_
 intro y ⟨a0,_⟩ r H Q hn hr
 have:HT _ _:=⟨tc o251 (tc o250c251 tn)⟩
 refine qA (Z [p 1 (R 1)] [(1,K 145 y145 a0)]) <|
  qD (fun v0=>Z [p 2 (I v0)] [(1,K 145 y145 a0)]) H fun v0 H =>
  vx_ret<|hr H
def u235 (a0:Int):Option (Bool) :=
 some (a0==4||a0==5)
def k235:Ct:=lct 235 [.dat i64] (fun x=>u235 x.1) (fun r:Bool=>B r) (fun _=>())
theorem o235:Ok Tryz.prog k235:=by
 refine okL [.tmp 2] Tryz.func235 Tryz.ntmps235 Tryz.results235 ?_
 intro y ⟨a0,_⟩ r H Q hn hr
 have:HT _ _:=⟨@tn Tryz.prog⟩
 refine qA (Z [p 0 (J a0)] []) <|
  qA (Z [p 2 (B (a0==4||a0==5))] []) <|
  vx_ret<|hr H
def u221J0 (a0:Y145) (a1:Y102):Bool→Option (Bool)
 | v2 =>
 if v2=true then
  gd (ix a1.2.1 a0.2.2.1.length∧True) <|
  some ((a0.2.2.1.getD a1.2.1.toNat (dflt y241)).2.2.2&&a1.2.2.2.1==0)
 else
  some false
def u221 (a0:Y145) (a1:Y102):Option (Bool) :=
 gd ((u235 a1.1).isSome=true∧True) <|
 if (vl (u235 a1.1))=true then
  gd (((a1.2.2.2.1==0&&(↑a1.2.2.2.2.2.length:Int)==0)=true∧True→(u236 a1.2.2.2.2.1 false).isSome=true)∧((a1.2.2.2.1==0&&(↑a1.2.2.2.2.2.length:Int)==0&&vl (u236 a1.2.2.2.2.1 false))=true∧True→(u237 a0).isSome=true)∧((a1.2.2.2.1==0&&(↑a1.2.2.2.2.2.length:Int)==0&&vl (u236 a1.2.2.2.2.1 false)&&a1.2.1==vl (u237 a0)&&decide (0≤a1.2.1))=true∧True→(u238 a0 a1.2.2.1).isSome=true)∧True)<|lt (vl (u237 a0)) fun v0 =>
  some (a1.2.2.2.1==0&&(↑a1.2.2.2.2.2.length:Int)==0&&vl (u236 a1.2.2.2.2.1 false)&&a1.2.1==v0&&decide (0≤a1.2.1)&&vl (u238 a0 a1.2.2.1)&&a1.2.2.1 != a1.2.1)
 else
  gd ((u236 a1.2.2.2.2.1 true).isSome=true∧((!vl (u236 a1.2.2.2.2.1 true))=false∧True→(u236 a1.2.2.2.2.2 true).isSome=true)∧((!vl (u236 a1.2.2.2.2.1 true)||!vl (u236 a1.2.2.2.2.2 true))=false∧True→(u224 a0).isSome=true)∧((!vl (u236 a1.2.2.2.2.1 true)||!vl (u236 a1.2.2.2.2.2 true)||a1.2.2.1 != vl (u224 a0))=false∧True→(u238 a0 a1.2.1).isSome=true)∧True)<|lt (vl (u224 a0)) fun v1 =>
  if (!vl (u236 a1.2.2.2.2.1 true)||!vl (u236 a1.2.2.2.2.2 true)||a1.2.2.1 != v1||!vl (u238 a0 a1.2.1))=true then
   some false
  else
   if (a1.1==1)=true then
    gd (ix a1.2.1 a0.2.2.1.length∧((!(a0.2.2.1.getD a1.2.1.toNat (dflt y241)).2.2.2)=true∧True→(u98 a1.2.2.2.1 1 3).isSome=true)∧True) <|
    some (!(a0.2.2.1.getD a1.2.1.toNat (dflt y241)).2.2.2&&vl (u98 a1.2.2.2.1 1 3))
   else
    if (a1.1==2)=true then
     u221J0 a0 a1 (a1.1==2)
    else
     u221J0 a0 a1 (a1.1==3)
def k221:Ct:=lct 221 [.agg y145,.agg y102] (fun x=>u221 x.1 x.2.1) (fun r:Bool=>B r) (fun _=>())
theorem o221:Ok Tryz.prog k221:=by
 refine okL [.tmp 4] Tryz.func221 Tryz.ntmps221 Tryz.results221 ?_
 intro y ⟨a0,a1,_⟩ r H Q hn hr
 have:HT _ _:=⟨tc o98 (tc o238 (tc o224 (tc o236 (tc o237 (tc o235 tn)))))⟩
 refine qA (Z [p 2 (R 2),p 3 (R 3)] [(3,K 102 y102 a1),(2,K 145 y145 a0)]) <|
  vx_seq <|
  qB (Z [p 2 (R 2),p 3 (R 3),p 7 (B (vl (u235 a1.1)))] [(3,K 102 y102 a1),(2,K 145 y145 a0)]) H fun H =>
  cD H (fun H=>?_) (fun H=>?_)
 ·refine qD (fun v0=>Z [p 4 (B (a1.2.2.2.1==0&&(↑a1.2.2.2.2.2.length:Int)==0&&vl (u236 a1.2.2.2.2.1 false)&&a1.2.1==v0&&decide (0≤a1.2.1)&&vl (u238 a0 a1.2.2.1)&&a1.2.2.1 != a1.2.1))] [(3,K 102 y102 a1),(2,K 145 y145 a0)]) H fun v0 H =>
   vx_ret<|fx_seq_ret<|hr H
 refine vx_skip<|fx_seq<|vx_seq <|
  qD (fun v1=>Z [p 2 (R 2),p 3 (R 3),p 70 (B (!vl (u236 a1.2.2.2.2.1 true)||!vl (u236 a1.2.2.2.2.2 true)||a1.2.2.1 != v1||!vl (u238 a0 a1.2.1)))] [(3,K 102 y102 a1),(2,K 145 y145 a0)]) H fun v1 H =>
  cD H (fun H=>?_) (fun H=>?_)
 ·refine qA (Z [p 4 (B false)] [(3,K 102 y102 a1),(2,K 145 y145 a0)]) <|
   vx_ret<|fx_seq_ret<|hr H
 refine vx_skip<|fx_seq<|vx_seq <|
  qA (Z [p 2 (R 2),p 3 (R 3),p 72 (J a1.1)] [(3,K 102 y102 a1),(2,K 145 y145 a0)]) <|
  vx_block <|
  qA (Z [p 2 (R 2),p 3 (R 3),p 72 (J a1.1),p 73 (B (a1.1==1))] [(3,K 102 y102 a1),(2,K 145 y145 a0)]) <|
  cD H (fun H=>?_) (fun H=>?_)
 ·refine qB (Z [p 4 (B (!(a0.2.2.1.getD a1.2.1.toNat (dflt y241)).2.2.2&&vl (u98 a1.2.2.2.1 1 3)))] [(3,K 102 y102 a1),(2,K 145 y145 a0)]) H fun H =>
   vx_ret<|fx_blk_ret<|fx_seq_ret<|hr H
 refine jN r (fun (v2:Bool)=>Z [p 2 (R 2),p 3 (R 3),p 88 (B v2)] [(3,K 102 y102 a1),(2,K 145 y145 a0)]) (u221J0 a0 a1) (fun v2 H=>?_) (fun _ n0 e0 t0=>?_)
 ·refine cD H (fun H=>?_) (fun H=>?_)
  ·refine qB (Z [p 4 (B ((a0.2.2.1.getD a1.2.1.toNat (dflt y241)).2.2.2&&a1.2.2.2.1==0))] [(3,K 102 y102 a1),(2,K 145 y145 a0)]) H fun H =>
    vx_ret<|fx_blk_ret<|fx_seq_ret<|hr H
  refine vx_skip<|fx_blk<|fx_seq <|
   qA (Z [p 4 (B false)] [(3,K 102 y102 a1),(2,K 145 y145 a0)]) <|
   vx_ret<|hr H
 refine qA (Z [p 2 (R 2),p 3 (R 3),p 72 (J a1.1),p 88 (B (a1.1==2))] [(3,K 102 y102 a1),(2,K 145 y145 a0)]) <|
  cD H (fun H=>?_) (fun H=>?_)
 ·exact vx_skip<|n0 H
 refine zA (Z [p 2 (R 2),p 3 (R 3),p 88 (B (a1.1==3))] [(3,K 102 y102 a1),(2,K 145 y145 a0)]) <|
  n0 H
def u223 (a0:Y102) (a1:Y102):Option (Bool) :=
 some (a0.1==a1.1&&a0.2.1==a1.2.1&&a0.2.2.1==a1.2.2.1)
def k223:Ct:=lct 223 [.agg y102,.dat (.pt y102)] (fun x=>u223 x.1 x.2.1) (fun r:Bool=>B r) (fun _=>())
theorem o223:Ok Tryz.prog k223:=by
 refine okL [.tmp 3] Tryz.func223 Tryz.ntmps223 Tryz.results223 ?_
 intro y ⟨a0,a1,_⟩ r H Q hn hr
 have:HT _ _:=⟨@tn Tryz.prog⟩
 refine qA (Z [p 1 (D y102.pt a1),p 2 (R 2)] [(2,K 102 y102 a0)]) <|
  qA (Z [p 3 (B (a0.1==a1.1&&a0.2.1==a1.2.1&&a0.2.2.1==a1.2.2.1))] [(2,K 102 y102 a0)]) <|
  vx_ret<|hr H
def u239c223J0:Unit→Option (Int)
 | _ =>
 some (-1)
def u239c223L1 (a0:List Y102) (a1:Y102) (g1:Int→Option (Int)):Int→Option (Int)
 | v0 =>
 if (decide (v0 < (↑a0.length:Int)))=true then
  gd (ix v0 a0.length∧(u223 (a0.getD v0.toNat (dflt y102)) a1).isSome=true∧True) <|
  if (vl (u223 (a0.getD v0.toNat (dflt y102)) a1))=true then
   some v0
  else
   gd (in64 (v0+1)∧True) <|
   g1 (v0+1)
 else
  u239c223J0 ()
def u239c223 (a0:List Y102) (a1:Y102):Option (Int) :=
 lp (u239c223L1 a0 a1) 0
def k239c223:Ct:=lct 239 [.dat y102.sl,.fn 223 y102.pt] (fun x=>u239c223 x.1 x.2.1) (fun r:Int=>I r) (fun _=>())
theorem o239c223:Ok Tryz.prog k239c223:=by
 refine okL [.tmp 4] Tryz.func239 Tryz.ntmps239 Tryz.results239 ?_
 intro y ⟨a0,a1,_⟩ r H Q hn hr
 have:HT _ _:=⟨tc o223 tn⟩
 refine qA (Z [p 0 (L y102 a0),p 1 (AV.fn 223 [D y102.pt a1])] []) <|
  jN r (fun (_:Unit)=>Z [] []) (u239c223J0) (fun _ H=>?_) (fun _ n0 e0 t0=>?_)
 ·refine qA (Z [p 4 (I (-1))] []) <|
   vx_ret<|hr H
 refine qA (Z [p 0 (L y102 a0),p 1 (AV.fn 223 [D y102.pt a1]),p 7 (I (↑a0.length:Int)),p 8 (I 0)] []) <|
  vx_block <|
  lX (fun (v0:Int)=>Z [p 0 (L y102 a0),p 1 (AV.fn 223 [D y102.pt a1]),p 7 (I (↑a0.length:Int)),p 8 (I v0)] []) 0 H fun _ g1 b1 e1 t1 v0 H =>
  qA (Z [p 0 (L y102 a0),p 1 (AV.fn 223 [D y102.pt a1]),p 7 (I (↑a0.length:Int)),p 8 (I v0),p 9 (B (decide (v0 < (↑a0.length:Int))))] []) <|
  vx_seq <|
  cD H (fun H=>?_) (fun H=>?_)
 ·refine vx_skip<|fx_seq<|vx_seq<|vx_block <|
   qA (Z [p 0 (L y102 a0),p 1 (AV.fn 223 [D y102.pt a1]),p 5 (I v0),p 7 (I (↑a0.length:Int)),p 8 (I v0)] []) <|
   qB (Z [p 0 (L y102 a0),p 1 (AV.fn 223 [D y102.pt a1]),p 5 (I v0),p 7 (I (↑a0.length:Int)),p 8 (I v0),p 16 (B (vl (u223 (a0.getD v0.toNat (dflt y102)) a1)))] []) H fun H =>
   cD H (fun H=>?_) (fun H=>?_)
  ·refine qA (Z [p 4 (I v0)] []) <|
    vx_ret<|fx_blk_ret<|fx_seq_ret<|t1<|fx_blk_ret<|t0<|hr H
  refine vx_skip<|fx_blk<|fx_seq <|
   zB (Z [p 0 (L y102 a0),p 1 (AV.fn 223 [D y102.pt a1]),p 7 (I (↑a0.length:Int)),p 8 (I (v0+1))] []) H fun H =>
   b1 H
 exact vx_exit<|fx_seq_exit<|e1<|fx_blk_exit rfl<|n0 H
def u222c223 (a0:List Y102) (a1:Y102):Option (Bool) :=
 gd ((u239c223 a0 a1).isSome=true∧True)<|lt (vl (u239c223 a0 a1)) fun v0 =>
 some (decide (0≤v0))
def k222c223:Ct:=lct 222 [.dat y102.sl,.fn 223 (.pt y102)] (fun x=>u222c223 x.1 x.2.1) (fun r:Bool=>B r) (fun _=>())
theorem o222c223:Ok Tryz.prog k222c223:=by
 refine okL [.tmp 4] Tryz.func222 Tryz.ntmps222 Tryz.results222 ?_
 intro y ⟨a0,a1,_⟩ r H Q hn hr
 have:HT _ _:=⟨tc o239c240 (tc o239c223 (tc o223 tn))⟩
 refine qA (Z [p 0 (L y102 a0),p 1 (AV.fn 223 [D y102.pt a1])] []) <|
  qD (fun v0=>Z [p 4 (B (decide (0≤v0)))] []) H fun v0 H =>
  vx_ret<|hr H
def u204J0 (a0:Y145):Unit→Option (Bool)
 | _ =>
 some (decide ((↑a0.2.2.2.1.length:Int)≤8))
def u204L1 (a0:Y145) (g1:Int→Option (Bool)):Int→Option (Bool)
 | v1 =>
 if (decide (v1 < (↑a0.2.2.2.1.length:Int)))=true then
  gd (ix v1 a0.2.2.2.1.length∧True)<|lt (a0.2.2.2.1.getD v1.toNat (dflt y102)) fun v2 =>
  gd ((u221 a0 v2).isSome=true∧((!vl (u221 a0 v2))=false∧True→(0:Int)≤(0:Int)∧(0:Int)≤v1∧v1≤(↑a0.2.2.2.1.length:Int))∧((!vl (u221 a0 v2))=false∧True→(u222c223 (List.take v1.toNat a0.2.2.2.1) v2).isSome=true)∧True) <|
  if (!vl (u221 a0 v2)||vl (u222c223 (List.take v1.toNat a0.2.2.2.1) v2))=true then
   some false
  else
   gd (in64 (v1+1)∧True) <|
   g1 (v1+1)
 else
  u204J0 a0 ()
def u204 (a0:Y145):Option (Bool) :=
 lp (u204L1 a0) 0
def k204:Ct:=lct 204 [.agg y145] (fun x=>u204 x.1) (fun r:Bool=>B r) (fun _=>())
theorem o204:Ok Tryz.prog k204:=by
 refine okL [.tmp 2] Tryz.func204 Tryz.ntmps204 Tryz.results204 ?_
 intro y ⟨a0,_⟩ r H Q hn hr
 have:HT _ _:=⟨tc o222c240 (tc o222c223 (tc o223 (tc o221 tn)))⟩
 refine qA (Z [p 1 (R 1)] [(1,K 145 y145 a0)]) <|
  jN r (fun (_:Unit)=>Z [p 1 (R 1)] [(1,K 145 y145 a0)]) (u204J0 a0) (fun _ H=>?_) (fun _ n0 e0 t0=>?_)
 ·refine qA (Z [p 2 (B (decide ((↑a0.2.2.2.1.length:Int)≤8)))] [(1,K 145 y145 a0)]) <|
   vx_ret<|hr H
 refine qA (Z [p 1 (R 1),p 6 (L y102 a0.2.2.2.1),p 7 (I (↑a0.2.2.2.1.length:Int)),p 8 (I 0)] [(1,K 145 y145 a0)]) <|
  vx_block <|
  lX (fun (v1:Int)=>Z [p 1 (R 1),p 6 (L y102 a0.2.2.2.1),p 7 (I (↑a0.2.2.2.1.length:Int)),p 8 (I v1)] [(1,K 145 y145 a0)]) 0 H fun _ g1 b1 e1 t1 v1 H =>
  qA (Z [p 1 (R 1),p 6 (L y102 a0.2.2.2.1),p 7 (I (↑a0.2.2.2.1.length:Int)),p 8 (I v1),p 9 (B (decide (v1 < (↑a0.2.2.2.1.length:Int))))] [(1,K 145 y145 a0)]) <|
  vx_seq <|
  cD H (fun H=>?_) (fun H=>?_)
 ·refine vx_skip<|fx_seq<|vx_seq<|vx_block <|
   qD (fun v2=>Z [p 1 (R 1),p 3 (I v1),p 4 (R 4),p 6 (L y102 a0.2.2.2.1),p 7 (I (↑a0.2.2.2.1.length:Int)),p 8 (I v1)] [(4,K 102 y102 v2),(1,K 145 y145 a0)]) H fun v2 H =>
   qB (Z [p 1 (R 1),p 6 (L y102 a0.2.2.2.1),p 7 (I (↑a0.2.2.2.1.length:Int)),p 8 (I v1),p 24 (B (!vl (u221 a0 v2)||vl (u222c223 (List.take v1.toNat a0.2.2.2.1) v2)))] [(4,K 102 y102 v2),(1,K 145 y145 a0)]) H fun H =>
   cD H (fun H=>?_) (fun H=>?_)
  ·refine qA (Z [p 2 (B false)] [(4,K 102 y102 v2),(1,K 145 y145 a0)]) <|
    vx_ret<|fx_blk_ret<|fx_seq_ret<|t1<|fx_blk_ret<|t0<|hr H
  refine vx_skip<|fx_blk<|fx_seq <|
   zB (Z [p 1 (R 1),p 6 (L y102 a0.2.2.2.1),p 7 (I (↑a0.2.2.2.1.length:Int)),p 8 (I (v1+1))] [(4,K 102 y102 v2),(1,K 145 y145 a0)]) H fun H =>
   b1 H
 exact vx_exit<|fx_seq_exit<|e1<|fx_blk_exit rfl<|n0 H
def u203J0 (a0:List Y241):List ByteArray→Option (Bool)
 | v6 =>
 gd ((u220 a0).isSome=true∧(u98 (vl (u220 a0)) 2 5).isSome=true∧(vl (u98 (vl (u220 a0)) 2 5)=true∧True→(u176 v6).isSome=true)∧True) <|
 some (vl (u98 (vl (u220 a0)) 2 5)&&vl (u176 v6))
def u203J2 (v3:Int) (g1:List ByteArray×Int→Option (Bool)):List ByteArray→Option (Bool)
 | v5 =>
 gd (in64 (v3+1)∧True) <|
 g1 (v5,v3+1)
def u203L1 (a0:List Y241) (g1:List ByteArray×Int→Option (Bool)):List ByteArray×Int→Option (Bool)
 | (v2,v3) =>
 if (decide (v3 < (↑a0.length:Int)))=true then
  gd (ix v3 a0.length∧True)<|lt (a0.getD v3.toNat (dflt y241)) fun v4 =>
  gd ((v2.length+[v4.1].length≤9223372036854775807∧(v2.length+[v4.1].length)*16≤140737488355328)∧True) <|
  gd (in64 ((↑a0.length:Int) - 1)∧True) <|
  if (v3==(↑a0.length:Int) - 1)=true then
   if (v4.2.1 != 2||v4.2.2.1 != 0||v4.2.2.2)=true then
    some false
   else
    u203J2 v3 g1 (v2++[v4.1])
  else
   gd (((v4.2.1 != 1)=false∧True→(u98 v4.2.2.1 0 500).isSome=true)∧True) <|
   if (v4.2.1 != 1||!vl (u98 v4.2.2.1 0 500))=true then
    some false
   else
    u203J2 v3 g1 (v2++[v4.1])
 else
  u203J0 a0 v2
def u203 (a0:List Y241):Option (Bool) :=
 lp (u203L1 a0) ([],0)
def k203:Ct:=lct 203 [.dat y241.sl] (fun x=>u203 x.1) (fun r:Bool=>B r) (fun _=>())
theorem o203:Ok Tryz.prog k203:=by
 refine okL [.tmp 2] Tryz.func203 Tryz.ntmps203 Tryz.results203 ?_
 intro y ⟨a0,_⟩ r H Q hn hr
 have:HT _ _:=⟨tc o176 (tc o98 (tc o220 tn))⟩
 refine qA (Z [p 0 (L y241 a0)] []) <|
  qA (Z [p 0 (L y241 a0),p 3 (nil)] []) <|
  jN r (fun (v6:List ByteArray)=>Z [p 0 (L y241 a0),p 3 (O 17)] [(17,A 9 Ty.str v6 0)]) (u203J0 a0) (fun v6 H=>?_) (fun _ n0 e0 t0=>?_)
 ·refine qB (Z [p 2 (B (vl (u98 (vl (u220 a0)) 2 5)&&vl (u176 v6)))] [(17,A 9 Ty.str v6 0)]) H fun H =>
   vx_ret<|hr H
 refine qA (Z [p 0 (L y241 a0),p 3 (nil),p 6 (L y241 a0),p 7 (I (↑a0.length:Int)),p 8 (I 0)] []) <|
  vx_block <|
  lX (fun ((v2,v3):List ByteArray×Int)=>Z [p 0 (L y241 a0),p 3 (O 17),p 6 (L y241 a0),p 7 (I (↑a0.length:Int)),p 8 (I v3)] [(17,A 9 Ty.str v2 0)]) ([],0) H fun _ g1 b1 e1 t1 ⟨v2,v3⟩ H =>
  qA (Z [p 0 (L y241 a0),p 3 (O 17),p 6 (L y241 a0),p 7 (I (↑a0.length:Int)),p 8 (I v3),p 9 (B (decide (v3 < (↑a0.length:Int))))] [(17,A 9 Ty.str v2 0)]) <|
  vx_seq <|
  cD H (fun H=>?_) (fun H=>?_)
 ·refine vx_skip<|fx_seq <|
   jN r (fun (v5:List ByteArray)=>Z [p 0 (L y241 a0),p 3 (O 17),p 6 (L y241 a0),p 7 (I (↑a0.length:Int)),p 8 (I v3)] [(17,A 9 Ty.str v5 0)]) (u203J2 v3 g1) (fun v5 H=>?_) (fun _ n2 e2 t2=>?_)
  ·refine zB (Z [p 0 (L y241 a0),p 3 (O 17),p 6 (L y241 a0),p 7 (I (↑a0.length:Int)),p 8 (I (v3+1))] [(17,A 9 Ty.str v5 0)]) H fun H =>
    b1 H
  refine vx_block <|
   qD (fun v4=>Z [p 0 (L y241 a0),p 3 (O 17),p 4 (I v3),p 5 (R 5),p 6 (L y241 a0),p 7 (I (↑a0.length:Int)),p 8 (I v3)] [(5,K 241 y241 v4),(17,A 9 Ty.str v2 0)]) H fun v4 H =>
   qB (Z [p 0 (L y241 a0),p 3 (AV.os 17 1),p 4 (I v3),p 5 (R 5),p 6 (L y241 a0),p 7 (I (↑a0.length:Int)),p 8 (I v3)] [(17,A 9 Ty.str (v2++[v4.1]) 1),(16,A 9 Ty.str [v4.1] 0),(5,K 241 y241 v4)]) H fun H =>
   qB (Z [p 0 (L y241 a0),p 3 (AV.os 17 1),p 5 (R 5),p 6 (L y241 a0),p 7 (I (↑a0.length:Int)),p 8 (I v3),p 22 (B (v3==(↑a0.length:Int) - 1))] [(17,A 9 Ty.str (v2++[v4.1]) 1),(16,A 9 Ty.str [v4.1] 0),(5,K 241 y241 v4)]) H fun H =>
   cD H (fun H=>?_) (fun H=>?_)
  ·refine qA (Z [p 0 (L y241 a0),p 3 (AV.os 17 1),p 6 (L y241 a0),p 7 (I (↑a0.length:Int)),p 8 (I v3),p 34 (B (v4.2.1 != 2||v4.2.2.1 != 0||v4.2.2.2))] [(17,A 9 Ty.str (v2++[v4.1]) 1),(16,A 9 Ty.str [v4.1] 0),(5,K 241 y241 v4)]) <|
    cD H (fun H=>?_) (fun H=>?_)
   ·refine qA (Z [p 2 (B false)] [(17,A 9 Ty.str (v2++[v4.1]) 1),(16,A 9 Ty.str [v4.1] 0),(5,K 241 y241 v4)]) <|
     vx_ret<|fx_blk_ret<|t2<|t1<|fx_blk_ret<|t0<|hr H
   exact vx_skip<|fx_blk<|n2 H
  refine qB (Z [p 0 (L y241 a0),p 3 (AV.os 17 1),p 6 (L y241 a0),p 7 (I (↑a0.length:Int)),p 8 (I v3),p 43 (B (v4.2.1 != 1||!vl (u98 v4.2.2.1 0 500)))] [(17,A 9 Ty.str (v2++[v4.1]) 1),(16,A 9 Ty.str [v4.1] 0),(5,K 241 y241 v4)]) H fun H =>
   cD H (fun H=>?_) (fun H=>?_)
  ·refine qA (Z [p 2 (B false)] [(17,A 9 Ty.str (v2++[v4.1]) 1),(16,A 9 Ty.str [v4.1] 0),(5,K 241 y241 v4)]) <|
    vx_ret<|fx_blk_ret<|t2<|t1<|fx_blk_ret<|t0<|hr H
  exact vx_skip<|fx_blk<|n2 H
 exact vx_exit<|fx_seq_exit<|e1<|fx_blk_exit rfl<|n0 H
def u175 (a0:Y145):Option (Bool) :=
 gd ((u112 a0.1).isSome=true∧(vl (u112 a0.1)=true∧True→(u203 a0.2.2.1).isSome=true)∧((vl (u112 a0.1)&&vl (u203 a0.2.2.1))=true∧True→(u204 a0).isSome=true)∧((vl (u112 a0.1)&&vl (u203 a0.2.2.1)&&vl (u204 a0))=true∧True→(u98 a0.2.2.2.2.2.1 0 100000).isSome=true)∧((vl (u112 a0.1)&&vl (u203 a0.2.2.1)&&vl (u204 a0)&&vl (u98 a0.2.2.2.2.2.1 0 100000))=true∧True→(u98 a0.2.2.2.2.2.2 0 100000).isSome=true)∧((vl (u112 a0.1)&&vl (u203 a0.2.2.1)&&vl (u204 a0)&&vl (u98 a0.2.2.2.2.2.1 0 100000)&&vl (u98 a0.2.2.2.2.2.2 0 100000))=true∧True→(u205 a0).isSome=true)∧True) <|
 some (vl (u112 a0.1)&&vl (u203 a0.2.2.1)&&vl (u204 a0)&&vl (u98 a0.2.2.2.2.2.1 0 100000)&&vl (u98 a0.2.2.2.2.2.2 0 100000)&&vl (u205 a0))
def k175:Ct:=lct 175 [.agg y145] (fun x=>u175 x.1) (fun r:Bool=>B r) (fun _=>())
theorem o175:Ok Tryz.prog k175:=by
 refine okL [.tmp 2] Tryz.func175 Tryz.ntmps175 Tryz.results175 ?_
 intro y ⟨a0,_⟩ r H Q hn hr
 have:HT _ _:=⟨tc o205 (tc o98 (tc o204 (tc o203 (tc o112 tn))))⟩
 refine qA (Z [p 1 (R 1)] [(1,K 145 y145 a0)]) <|
  qB (Z [p 2 (B (vl (u112 a0.1)&&vl (u203 a0.2.2.1)&&vl (u204 a0)&&vl (u98 a0.2.2.2.2.2.1 0 100000)&&vl (u98 a0.2.2.2.2.2.2 0 100000)&&vl (u205 a0)))] [(1,K 145 y145 a0)]) H fun H =>
  vx_ret<|hr H
def u140J0 (a0:List Y145):List ByteArray→Option (Bool)
 | v4 =>
 gd ((decide ((↑a0.length:Int)≤8)=true∧True→(u176 v4).isSome=true)∧True) <|
 some (decide ((↑a0.length:Int)≤8)&&vl (u176 v4))
def u140L1 (a0:List Y145) (g1:List ByteArray×Int→Option (Bool)):List ByteArray×Int→Option (Bool)
 | (v1,v2) =>
 if (decide (v2 < (↑a0.length:Int)))=true then
  gd (ix v2 a0.length∧True)<|lt (a0.getD v2.toNat (dflt y145)) fun v3 =>
  gd ((u175 v3).isSome=true∧True) <|
  if (!vl (u175 v3))=true then
   some false
  else
   gd ((v1.length+[v3.1].length≤9223372036854775807∧(v1.length+[v3.1].length)*16≤140737488355328)∧True) <|
   gd (in64 (v2+1)∧True) <|
   g1 (v1++[v3.1],v2+1)
 else
  u140J0 a0 v1
def u140 (a0:List Y145):Option (Bool) :=
 lp (u140L1 a0) ([],0)
def k140:Ct:=lct 140 [.agg y145.sl] (fun x=>u140 x.1) (fun r:Bool=>B r) (fun _=>())
theorem o140:Ok Tryz.prog k140:=by
 refine okL [.tmp 2] Tryz.func140 Tryz.ntmps140 Tryz.results140 ?_
 intro y ⟨a0,_⟩ r H Q hn hr
 have:HT _ _:=⟨tc o176 (tc o175 tn)⟩
 refine qA (Z [p 1 (R 1)] [(1,Ob.box 38 [L y145 a0])]) <|
  qA (Z [p 1 (R 1),p 3 (nil)] [(1,Ob.box 38 [L y145 a0])]) <|
  jN r (fun (v4:List ByteArray)=>Z [p 1 (R 1),p 3 (O 20)] [(1,Ob.box 38 [L y145 a0]),(20,A 9 Ty.str v4 0)]) (u140J0 a0) (fun v4 H=>?_) (fun _ n0 e0 t0=>?_)
 ·refine qB (Z [p 2 (B (decide ((↑a0.length:Int)≤8)&&vl (u176 v4)))] [(1,Ob.box 38 [L y145 a0]),(20,A 9 Ty.str v4 0)]) H fun H =>
   vx_ret<|hr H
 refine qA (Z [p 1 (R 1),p 3 (nil),p 7 (L y145 a0),p 8 (I (↑a0.length:Int)),p 9 (I 0)] [(1,Ob.box 38 [L y145 a0])]) <|
  vx_block <|
  lX (fun ((v1,v2):List ByteArray×Int)=>Z [p 1 (R 1),p 3 (O 20),p 7 (L y145 a0),p 8 (I (↑a0.length:Int)),p 9 (I v2)] [(1,Ob.box 38 [L y145 a0]),(20,A 9 Ty.str v1 0)]) ([],0) H fun _ g1 b1 e1 t1 ⟨v1,v2⟩ H =>
  qA (Z [p 1 (R 1),p 3 (O 20),p 7 (L y145 a0),p 8 (I (↑a0.length:Int)),p 9 (I v2),p 10 (B (decide (v2 < (↑a0.length:Int))))] [(1,Ob.box 38 [L y145 a0]),(20,A 9 Ty.str v1 0)]) <|
  vx_seq <|
  cD H (fun H=>?_) (fun H=>?_)
 ·refine vx_skip<|fx_seq<|vx_seq<|vx_block <|
   qD (fun v3=>Z [p 1 (R 1),p 3 (O 20),p 5 (R 5),p 7 (L y145 a0),p 8 (I (↑a0.length:Int)),p 9 (I v2)] [(5,K 145 y145 v3),(1,Ob.box 38 [L y145 a0]),(20,A 9 Ty.str v1 0)]) H fun v3 H =>
   vx_seq <|
   qB (Z [p 1 (R 1),p 3 (O 20),p 5 (R 5),p 7 (L y145 a0),p 8 (I (↑a0.length:Int)),p 9 (I v2),p 15 (B !vl (u175 v3))] [(5,K 145 y145 v3),(1,Ob.box 38 [L y145 a0]),(20,A 9 Ty.str v1 0)]) H fun H =>
   cD H (fun H=>?_) (fun H=>?_)
  ·refine qA (Z [p 2 (B false)] [(5,K 145 y145 v3),(1,Ob.box 38 [L y145 a0]),(20,A 9 Ty.str v1 0)]) <|
    vx_ret<|fx_seq_ret<|fx_blk_ret<|fx_seq_ret<|t1<|fx_blk_ret<|t0<|hr H
  refine vx_skip<|fx_seq <|
   zB (Z [p 1 (R 1),p 3 (AV.os 20 1),p 7 (L y145 a0),p 8 (I (↑a0.length:Int)),p 9 (I v2)] [(20,A 9 Ty.str (v1++[v3.1]) 1),(19,A 9 Ty.str [v3.1] 0),(5,K 145 y145 v3),(1,Ob.box 38 [L y145 a0])]) H fun H =>
   fx_blk<|fx_seq <|
   zB (Z [p 1 (R 1),p 3 (AV.os 20 1),p 7 (L y145 a0),p 8 (I (↑a0.length:Int)),p 9 (I (v2+1))] [(20,A 9 Ty.str (v1++[v3.1]) 1),(19,A 9 Ty.str [v3.1] 0),(5,K 145 y145 v3),(1,Ob.box 38 [L y145 a0])]) H fun H =>
   b1 H
 exact vx_exit<|fx_seq_exit<|e1<|fx_blk_exit rfl<|n0 H
def u181c145J0:Unit→Option (Int)
 | _ =>
 some (-1)
def u181c145L1 (a0:List Int) (g1:Int→Option (Int)):Int→Option (Int)
 | v0 =>
 if (decide (v0 < (↑a0.length:Int)))=true then
  gd (ix v0 a0.length∧(u145 (a0.getD v0.toNat 0)).isSome=true∧True) <|
  if (vl (u145 (a0.getD v0.toNat 0)))=true then
   some v0
  else
   gd (in64 (v0+1)∧True) <|
   g1 (v0+1)
 else
  u181c145J0 ()
def u181c145 (a0:List Int):Option (Int) :=
 lp (u181c145L1 a0) 0
def k181c145:Ct:=lct 181 [.dat i64.sl,.nof 145] (fun x=>u181c145 x.1) (fun r:Int=>I r) (fun _=>())
theorem o181c145:Ok Tryz.prog k181c145:=by
 refine okL [.tmp 4] Tryz.func181 Tryz.ntmps181 Tryz.results181 ?_
 intro y ⟨a0,_,_⟩ r H Q hn hr
 have:HT _ _:=⟨tc o145 tn⟩
 refine qA (Z [p 0 (L i64 a0),p 1 (AV.fn 145 [])] []) <|
  jN r (fun (_:Unit)=>Z [] []) (u181c145J0) (fun _ H=>?_) (fun _ n0 e0 t0=>?_)
 ·refine qA (Z [p 4 (I (-1))] []) <|
   vx_ret<|hr H
 refine qA (Z [p 0 (L i64 a0),p 1 (AV.fn 145 []),p 7 (I (↑a0.length:Int)),p 8 (I 0)] []) <|
  vx_block <|
  lX (fun (v0:Int)=>Z [p 0 (L i64 a0),p 1 (AV.fn 145 []),p 7 (I (↑a0.length:Int)),p 8 (I v0)] []) 0 H fun _ g1 b1 e1 t1 v0 H =>
  qA (Z [p 0 (L i64 a0),p 1 (AV.fn 145 []),p 7 (I (↑a0.length:Int)),p 8 (I v0),p 9 (B (decide (v0 < (↑a0.length:Int))))] []) <|
  vx_seq <|
  cD H (fun H=>?_) (fun H=>?_)
 ·refine vx_skip<|fx_seq<|vx_seq<|vx_block <|
   qA (Z [p 0 (L i64 a0),p 1 (AV.fn 145 []),p 5 (I v0),p 7 (I (↑a0.length:Int)),p 8 (I v0)] []) <|
   qB (Z [p 0 (L i64 a0),p 1 (AV.fn 145 []),p 5 (I v0),p 7 (I (↑a0.length:Int)),p 8 (I v0),p 16 (B (vl (u145 (a0.getD v0.toNat 0))))] []) H fun H =>
   cD H (fun H=>?_) (fun H=>?_)
  ·refine qA (Z [p 4 (I v0)] []) <|
    vx_ret<|fx_blk_ret<|fx_seq_ret<|t1<|fx_blk_ret<|t0<|hr H
  refine vx_skip<|fx_blk<|fx_seq <|
   zB (Z [p 0 (L i64 a0),p 1 (AV.fn 145 []),p 7 (I (↑a0.length:Int)),p 8 (I (v0+1))] []) H fun H =>
   b1 H
 exact vx_exit<|fx_seq_exit<|e1<|fx_blk_exit rfl<|n0 H
def u144c145 (a0:List Int):Option (Bool) :=
 gd ((u181c145 a0).isSome=true∧True)<|lt (vl (u181c145 a0)) fun v0 =>
 some (decide (0≤v0))
def k144c145:Ct:=lct 144 [.dat i64.sl,.nof 145] (fun x=>u144c145 x.1) (fun r:Bool=>B r) (fun _=>())
theorem o144c145:Ok Tryz.prog k144c145:=by
 refine okL [.tmp 4] Tryz.func144 Tryz.ntmps144 Tryz.results144 ?_
 intro y ⟨a0,_,_⟩ r H Q hn hr
 have:HT _ _:=⟨tc o181c145 (tc o145 tn)⟩
 refine qA (Z [p 0 (L i64 a0),p 1 (AV.fn 145 [])] []) <|
  qD (fun v0=>Z [p 4 (B (decide (0≤v0)))] []) H fun v0 H =>
  vx_ret<|hr H
def u91J2:List Int→Option (Bool)
 | v13 =>
 gd ((u144c145 v13).isSome=true∧True) <|
 some (!vl (u144c145 v13))
def u91J4 (v9:Int) (g3:Int×List Int→Option (Bool)):List Int→Option (Bool)
 | v12 =>
 gd (in64 (v9+1)∧True) <|
 g3 (v9+1,v12)
def u91L3 (a1:Y42) (g3:Int×List Int→Option (Bool)):Int×List Int→Option (Bool)
 | (v9,v10) =>
 if (decide (v9 < (↑a1.2.2.length:Int)))=true then
  gd (ix v9 a1.2.2.length∧True)<|lt (a1.2.2.getD v9.toNat (dflt y199)) fun v11 =>
  gd (((v11.2.1 != 1&&v11.2.1 != 2)=false∧True→(u143 a1 v11.2.2).isSome=true)∧True) <|
  if (v11.2.1 != 1&&v11.2.1 != 2||!vl (u143 a1 v11.2.2))=true then
   some false
  else
   if (v11.2.1==1)=true then
    gd (ix v11.2.2 v10.length∧v11.2.2.toNat < v10.length∧in64 (v10.getD v11.2.2.toNat 0+1)∧ix v11.2.2 v10.length∧v11.2.2.toNat < v10.length∧True) <|
    u91J4 v9 g3 (v10.set v11.2.2.toNat (v10.getD v11.2.2.toNat 0+1))
   else
    u91J4 v9 g3 v10
 else
  u91J2 v10
def u91J0 (a1:Y42):List Int→Option (Bool)
 | v6 =>
 lp (u91L3 a1) (0,v6)
def u91L1 (a1:Y42) (a0:List Y145) (g1:Int×List Int→Option (Bool)):Int×List Int→Option (Bool)
 | (v2,v3) =>
 if (decide (v2 < (↑a1.1.length:Int)))=true then
  gd (ix v2 a1.1.length∧True)<|lt (a1.1.getD v2.toNat (dflt y147)) fun v4 =>
  gd ((u142 a1 a0 v4).isSome=true∧True) <|
  if (!vl (u142 a1 a0 v4))=true then
   some false
  else
   gd (in64 ((↑v4.2.2.length:Int) - 1)∧ix ((↑v4.2.2.length:Int) - 1) v4.2.2.length∧ix (v4.2.2.getD ((↑v4.2.2.length:Int) - 1).toNat 0) v3.length∧Int.toNat (v4.2.2.getD ((↑v4.2.2.length:Int) - 1).toNat 0) < v3.length∧in64 (v3.getD (Int.toNat (v4.2.2.getD ((↑v4.2.2.length:Int) - 1).toNat 0)) 0+1)∧ix (v4.2.2.getD ((↑v4.2.2.length:Int) - 1).toNat 0) v3.length∧Int.toNat (v4.2.2.getD ((↑v4.2.2.length:Int) - 1).toNat 0) < v3.length∧True)<|lt (v3.set (Int.toNat (v4.2.2.getD ((↑v4.2.2.length:Int) - 1).toNat 0)) (v3.getD (Int.toNat (v4.2.2.getD ((↑v4.2.2.length:Int) - 1).toNat 0)) 0+1)) fun v5 =>
   gd (in64 (v2+1)∧True) <|
   g1 (v2+1,v5)
 else
  u91J0 a1 v3
def u91 (a0:List Y145) (a1:Y42):Option (Bool) :=
 gd ((u140 a0).isSome=true∧((!vl (u140 a0))=false∧True→(u141 a1).isSome=true)∧True) <|
 if (!vl (u140 a0)||!vl (u141 a1))=true then
  some false
 else
  gd ((0≤(↑a1.2.1.length:Int)∧(↑a1.2.1.length:Int)=(↑a1.2.1.length:Int)∧(↑a1.2.1.length:Int).toNat*8≤281474976710656∧(↑a1.2.1.length:Int)≤9223372036854775807)∧True) <|
  lp (u91L1 a1 a0) ((0,List.replicate (↑a1.2.1.length:Int).toNat 0))
def k91:Ct:=lct 91 [.agg y145.sl,.agg y42] (fun x=>u91 x.1 x.2.1) (fun r:Bool=>B r) (fun _=>())
theorem o91:Ok Tryz.prog k91:=by
 refine okL [.tmp 4] Tryz.func91 Tryz.ntmps91 Tryz.results91 ?_
 intro y ⟨a0,a1,_⟩ r H Q hn hr
 have:HT _ _:=⟨tc o145 (tc o144c145 (tc o143 (tc o142 (tc o141 (tc o140 tn)))))⟩
 refine qA (Z [p 2 (R 2),p 3 (R 3)] [(3,K 42 y42 a1),(2,Ob.box 38 [L y145 a0])]) <|
  vx_seq <|
  qB (Z [p 2 (R 2),p 3 (R 3),p 17 (B (!vl (u140 a0)||!vl (u141 a1)))] [(3,K 42 y42 a1),(2,Ob.box 38 [L y145 a0])]) H fun H =>
  cD H (fun H=>?_) (fun H=>?_)
 ·refine qA (Z [p 4 (B false)] [(3,K 42 y42 a1),(2,Ob.box 38 [L y145 a0])]) <|
   vx_ret<|fx_seq_ret<|hr H
 refine vx_skip<|fx_seq <|
  qB (Z [p 2 (R 2),p 3 (R 3),p 5 (O 21)] [(21,A 3 i64 (List.replicate (↑a1.2.1.length:Int).toNat 0) 0),(3,K 42 y42 a1),(2,Ob.box 38 [L y145 a0])]) H fun H =>
  jN r (fun (v6:List Int)=>Z [p 3 (R 3),p 5 (O 21)] [(21,A 3 i64 v6 0),(3,K 42 y42 a1)]) (u91J0 a1) (fun v6 H=>?_) (fun _ n0 e0 t0=>?_)
 ·refine jN r (fun (v13:List Int)=>Z [p 5 (O 21)] [(21,A 3 i64 v13 0)]) (u91J2) (fun v13 H=>?_) (fun _ n2 e2 t2=>?_)
  ·refine qB (Z [p 4 (B !vl (u144c145 v13))] [(21,A 3 i64 v13 0)]) H fun H =>
    vx_ret<|hr H
  refine qA (Z [p 3 (R 3),p 5 (O 21),p 49 (L y199 a1.2.2),p 50 (I (↑a1.2.2.length:Int)),p 51 (I 0)] [(21,A 3 i64 v6 0),(3,K 42 y42 a1)]) <|
   vx_block <|
   lX (fun ((v9,v10):Int×List Int)=>Z [p 3 (R 3),p 5 (O 21),p 49 (L y199 a1.2.2),p 50 (I (↑a1.2.2.length:Int)),p 51 (I v9)] [(21,A 3 i64 v10 0),(3,K 42 y42 a1)]) (0,v6) H fun _ g3 b3 e3 t3 ⟨v9,v10⟩ H =>
   qA (Z [p 3 (R 3),p 5 (O 21),p 49 (L y199 a1.2.2),p 50 (I (↑a1.2.2.length:Int)),p 51 (I v9),p 52 (B (decide (v9 < (↑a1.2.2.length:Int))))] [(21,A 3 i64 v10 0),(3,K 42 y42 a1)]) <|
   vx_seq <|
   cD H (fun H=>?_) (fun H=>?_)
  ·refine vx_skip<|fx_seq <|
    jN r (fun (v12:List Int)=>Z [p 3 (R 3),p 5 (O 21),p 49 (L y199 a1.2.2),p 50 (I (↑a1.2.2.length:Int)),p 51 (I v9)] [(21,A 3 i64 v12 0),(3,K 42 y42 a1)]) (u91J4 v9 g3) (fun v12 H=>?_) (fun _ n4 e4 t4=>?_)
   ·refine zB (Z [p 3 (R 3),p 5 (O 21),p 49 (L y199 a1.2.2),p 50 (I (↑a1.2.2.length:Int)),p 51 (I (v9+1))] [(21,A 3 i64 v12 0),(3,K 42 y42 a1)]) H fun H =>
     b3 H
   refine vx_block <|
    qD (fun v11=>Z [p 3 (R 3),p 5 (O 21),p 9 (R 9),p 49 (L y199 a1.2.2),p 50 (I (↑a1.2.2.length:Int)),p 51 (I v9)] [(9,K 199 y199 v11),(21,A 3 i64 v10 0),(3,K 42 y42 a1)]) H fun v11 H =>
    vx_seq <|
    qB (Z [p 3 (R 3),p 5 (O 21),p 9 (R 9),p 49 (L y199 a1.2.2),p 50 (I (↑a1.2.2.length:Int)),p 51 (I v9),p 69 (B (v11.2.1 != 1&&v11.2.1 != 2||!vl (u143 a1 v11.2.2)))] [(9,K 199 y199 v11),(21,A 3 i64 v10 0),(3,K 42 y42 a1)]) H fun H =>
    cD H (fun H=>?_) (fun H=>?_)
   ·refine qA (Z [p 4 (B false)] [(9,K 199 y199 v11),(21,A 3 i64 v10 0),(3,K 42 y42 a1)]) <|
     vx_ret<|fx_seq_ret<|fx_blk_ret<|t4<|t3<|fx_blk_ret<|t2<|hr H
   refine vx_skip<|fx_seq <|
    qA (Z [p 3 (R 3),p 5 (O 21),p 9 (R 9),p 49 (L y199 a1.2.2),p 50 (I (↑a1.2.2.length:Int)),p 51 (I v9),p 72 (B (v11.2.1==1))] [(9,K 199 y199 v11),(21,A 3 i64 v10 0),(3,K 42 y42 a1)]) <|
    cD H (fun H=>?_) (fun H=>?_)
   ·refine zB (Z [p 3 (R 3),p 5 (O 21),p 49 (L y199 a1.2.2),p 50 (I (↑a1.2.2.length:Int)),p 51 (I v9)] [(21,A 3 i64 (v10.set v11.2.2.toNat (v10.getD v11.2.2.toNat 0+1)) 0),(9,K 199 y199 v11),(3,K 42 y42 a1)]) H fun H =>
     fx_blk<|n4 H
   exact vx_skip<|fx_blk<|n4 H
  exact vx_exit<|fx_seq_exit<|e3<|fx_blk_exit rfl<|n2 H
 refine qA (Z [p 2 (R 2),p 3 (R 3),p 5 (O 21),p 23 (L y147 a1.1),p 24 (I (↑a1.1.length:Int)),p 25 (I 0)] [(21,A 3 i64 (List.replicate (↑a1.2.1.length:Int).toNat 0) 0),(3,K 42 y42 a1),(2,Ob.box 38 [L y145 a0])]) <|
  vx_block <|
  lX (fun ((v2,v3):Int×List Int)=>Z [p 2 (R 2),p 3 (R 3),p 5 (O 21),p 23 (L y147 a1.1),p 24 (I (↑a1.1.length:Int)),p 25 (I v2)] [(21,A 3 i64 v3 0),(3,K 42 y42 a1),(2,Ob.box 38 [L y145 a0])]) ((0,List.replicate (↑a1.2.1.length:Int).toNat 0)) H fun _ g1 b1 e1 t1 ⟨v2,v3⟩ H =>
  qA (Z [p 2 (R 2),p 3 (R 3),p 5 (O 21),p 23 (L y147 a1.1),p 24 (I (↑a1.1.length:Int)),p 25 (I v2),p 26 (B (decide (v2 < (↑a1.1.length:Int))))] [(21,A 3 i64 v3 0),(3,K 42 y42 a1),(2,Ob.box 38 [L y145 a0])]) <|
  vx_seq <|
  cD H (fun H=>?_) (fun H=>?_)
 ·refine vx_skip<|fx_seq<|vx_seq<|vx_block <|
   qD (fun v4=>Z [p 2 (R 2),p 3 (R 3),p 5 (O 21),p 7 (R 7),p 23 (L y147 a1.1),p 24 (I (↑a1.1.length:Int)),p 25 (I v2)] [(7,K 147 y147 v4),(21,A 3 i64 v3 0),(3,K 42 y42 a1),(2,Ob.box 38 [L y145 a0])]) H fun v4 H =>
   vx_seq <|
   qB (Z [p 2 (R 2),p 3 (R 3),p 5 (O 21),p 7 (R 7),p 23 (L y147 a1.1),p 24 (I (↑a1.1.length:Int)),p 25 (I v2),p 33 (B !vl (u142 a1 a0 v4))] [(7,K 147 y147 v4),(21,A 3 i64 v3 0),(3,K 42 y42 a1),(2,Ob.box 38 [L y145 a0])]) H fun H =>
   cD H (fun H=>?_) (fun H=>?_)
  ·refine qA (Z [p 4 (B false)] [(7,K 147 y147 v4),(21,A 3 i64 v3 0),(3,K 42 y42 a1),(2,Ob.box 38 [L y145 a0])]) <|
    vx_ret<|fx_seq_ret<|fx_blk_ret<|fx_seq_ret<|t1<|fx_blk_ret<|t0<|hr H
  refine vx_skip<|fx_seq <|
   zD (fun v5=>Z [p 2 (R 2),p 3 (R 3),p 5 (O 21),p 23 (L y147 a1.1),p 24 (I (↑a1.1.length:Int)),p 25 (I v2)] [(21,A 3 i64 v5 0),(7,K 147 y147 v4),(3,K 42 y42 a1),(2,Ob.box 38 [L y145 a0])]) H fun v5 H =>
   fx_blk<|fx_seq <|
   zB (Z [p 2 (R 2),p 3 (R 3),p 5 (O 21),p 23 (L y147 a1.1),p 24 (I (↑a1.1.length:Int)),p 25 (I (v2+1))] [(21,A 3 i64 v5 0),(7,K 147 y147 v4),(3,K 42 y42 a1),(2,Ob.box 38 [L y145 a0])]) H fun H =>
   b1 H
 exact vx_exit<|fx_seq_exit<|e1<|fx_blk_exit rfl<|n0 H
def u43J3:Unit→Option (Bool)
 | _ =>
 some true
def u43L4 (v9:List Int) (a0:Y45) (g4:Int→Option (Bool)):Int→Option (Bool)
 | v11 =>
 if (decide (v11 < (↑a0.2.2.length:Int)))=true then
  gd (ix v11 a0.2.2.length∧True)<|lt (a0.2.2.getD v11.toNat (dflt y137)) fun v12 =>
  gd (ix v11 v9.length∧v11.toNat < v9.length∧(u93 v12 (v9.getD v11.toNat 0)).isSome=true∧True) <|
  if (!vl (u93 v12 (v9.getD v11.toNat 0)))=true then
   some false
  else
   gd (in64 (v11+1)∧True) <|
   g4 (v11+1)
 else
  u43J3 ()
def u43J0 (a0:Y45):List Int→Option (Bool)
 | v9 =>
 lp (u43L4 v9 a0) 0
def u43J2 (v4:Int) (g1:Int×List Int→Option (Bool)):List Int→Option (Bool)
 | v8 =>
 gd (in64 (v4+1)∧True) <|
 g1 (v4+1,v8)
def u43L1 (v0:List Y159) (a0:Y45) (g1:Int×List Int→Option (Bool)):Int×List Int→Option (Bool)
 | (v4,v5) =>
 if (decide (v4 < (↑v0.length:Int)))=true then
  gd (ix v4 v0.length∧v4.toNat < v0.length∧True)<|lt (v0.getD v4.toNat (dflt y159)) fun v6 =>
  if (!v6.2.2.2)=true then
   gd (ix v6.2.2.1 v5.length∧v6.2.2.1.toNat < v5.length∧in64 (v5.getD v6.2.2.1.toNat 0+1)∧ix v6.2.2.1 v5.length∧v6.2.2.1.toNat < v5.length∧True)<|lt (v5.set v6.2.2.1.toNat (v5.getD v6.2.2.1.toNat 0+1)) fun v7 =>
   u43J2 v4 g1 v7
  else
   u43J2 v4 g1 v5
 else
  u43J0 a0 v5
def u43 (a0:Y45):Option (Bool) :=
 gd ((u91 a0.1 a0.2.1).isSome=true∧True) <|
 if (!vl (u91 a0.1 a0.2.1)||(↑a0.2.2.length:Int) != (↑a0.2.1.2.1.length:Int))=true then
  some false
 else
  gd ((0≤(↑a0.2.2.length:Int)∧(↑a0.2.2.length:Int)=(↑a0.2.2.length:Int)∧(↑a0.2.2.length:Int).toNat*8≤281474976710656∧(↑a0.2.2.length:Int)≤9223372036854775807)∧True) <|
  gd ((u92 a0.2.1).isSome=true∧True)<|lt (vl (u92 a0.2.1)) fun v0 =>
  lp (u43L1 v0 a0) ((0,List.replicate (↑a0.2.2.length:Int).toNat 0))
def k43:Ct:=lct 43 [.agg y45] (fun x=>u43 x.1) (fun r:Bool=>B r) (fun _=>())
theorem o43:Ok Tryz.prog k43:=by
 refine okL [.tmp 2] Tryz.func43 Tryz.ntmps43 Tryz.results43 ?_
 intro y ⟨a0,_⟩ r H Q hn hr
 have:HT _ _:=⟨tc o93 (tc o92 (tc o91 tn))⟩
 refine qA (Z [p 1 (R 1)] [(1,K 45 y45 a0)]) <|
  vx_seq <|
  qB (Z [p 1 (R 1),p 23 (B (!vl (u91 a0.1 a0.2.1)||(↑a0.2.2.length:Int) != (↑a0.2.1.2.1.length:Int)))] [(1,K 45 y45 a0)]) H fun H =>
  cD H (fun H=>?_) (fun H=>?_)
 ·refine qA (Z [p 2 (B false)] [(1,K 45 y45 a0)]) <|
   vx_ret<|fx_seq_ret<|hr H
 refine vx_skip<|fx_seq <|
  qB (Z [p 1 (R 1),p 3 (O 27)] [(27,A 2 i64 (List.replicate (↑a0.2.2.length:Int).toNat 0) 0),(1,K 45 y45 a0)]) H fun H =>
  jN r (fun (v9:List Int)=>Z [p 1 (R 1),p 3 (O 27)] [(27,A 2 i64 v9 0),(1,K 45 y45 a0)]) (u43J0 a0) (fun v9 H=>?_) (fun _ n0 e0 t0=>?_)
 ·refine jN r (fun (_:Unit)=>Z [] []) (u43J3) (fun _ H=>?_) (fun _ n3 e3 t3=>?_)
  ·refine qA (Z [p 2 (B true)] []) <|
    vx_ret<|hr H
  refine qA (Z [p 3 (O 27),p 48 (L y137 a0.2.2),p 49 (I (↑a0.2.2.length:Int)),p 50 (I 0)] [(27,A 2 i64 v9 0),(1,K 45 y45 a0)]) <|
   vx_block <|
   lX (fun (v11:Int)=>Z [p 3 (O 27),p 48 (L y137 a0.2.2),p 49 (I (↑a0.2.2.length:Int)),p 50 (I v11)] [(27,A 2 i64 v9 0)]) 0 H fun _ g4 b4 e4 t4 v11 H =>
   qA (Z [p 3 (O 27),p 48 (L y137 a0.2.2),p 49 (I (↑a0.2.2.length:Int)),p 50 (I v11),p 51 (B (decide (v11 < (↑a0.2.2.length:Int))))] [(27,A 2 i64 v9 0)]) <|
   vx_seq <|
   cD H (fun H=>?_) (fun H=>?_)
  ·refine vx_skip<|fx_seq<|vx_seq<|vx_block <|
    qD (fun v12=>Z [p 3 (O 27),p 6 (I v11),p 7 (R 7),p 48 (L y137 a0.2.2),p 49 (I (↑a0.2.2.length:Int)),p 50 (I v11)] [(7,K 137 y137 v12),(27,A 2 i64 v9 0)]) H fun v12 H =>
    qB (Z [p 3 (O 27),p 48 (L y137 a0.2.2),p 49 (I (↑a0.2.2.length:Int)),p 50 (I v11),p 61 (B !vl (u93 v12 (v9.getD v11.toNat 0)))] [(7,K 137 y137 v12),(27,A 2 i64 v9 0)]) H fun H =>
    cD H (fun H=>?_) (fun H=>?_)
   ·refine qA (Z [p 2 (B false)] [(7,K 137 y137 v12),(27,A 2 i64 v9 0)]) <|
     vx_ret<|fx_blk_ret<|fx_seq_ret<|t4<|fx_blk_ret<|t3<|hr H
   refine vx_skip<|fx_blk<|fx_seq <|
    zB (Z [p 3 (O 27),p 48 (L y137 a0.2.2),p 49 (I (↑a0.2.2.length:Int)),p 50 (I (v11+1))] [(7,K 137 y137 v12),(27,A 2 i64 v9 0)]) H fun H =>
    b4 H
  exact vx_exit<|fx_seq_exit<|e4<|fx_blk_exit rfl<|n3 H
 refine qD (fun v0=>Z [p 1 (R 1),p 3 (O 27),p 30 (O 30),p 31 (I (↑v0.length:Int)),p 32 (I 0)] [(30,A 159 y159 v0 0),(27,A 2 i64 (List.replicate (↑a0.2.2.length:Int).toNat 0) 0),(1,K 45 y45 a0)]) H fun v0 H =>
  vx_block <|
  lX (fun ((v4,v5):Int×List Int)=>Z [p 1 (R 1),p 3 (O 27),p 30 (O 30),p 31 (I (↑v0.length:Int)),p 32 (I v4)] [(30,A 159 y159 v0 0),(27,A 2 i64 v5 0),(1,K 45 y45 a0)]) ((0,List.replicate (↑a0.2.2.length:Int).toNat 0)) H fun _ g1 b1 e1 t1 ⟨v4,v5⟩ H =>
  qA (Z [p 1 (R 1),p 3 (O 27),p 30 (O 30),p 31 (I (↑v0.length:Int)),p 32 (I v4),p 33 (B (decide (v4 < (↑v0.length:Int))))] [(30,A 159 y159 v0 0),(27,A 2 i64 v5 0),(1,K 45 y45 a0)]) <|
  vx_seq <|
  cD H (fun H=>?_) (fun H=>?_)
 ·refine vx_skip<|fx_seq <|
   jN r (fun (v8:List Int)=>Z [p 1 (R 1),p 3 (O 27),p 30 (O 30),p 31 (I (↑v0.length:Int)),p 32 (I v4)] [(27,A 2 i64 v8 0),(30,A 159 y159 v0 0),(1,K 45 y45 a0)]) (u43J2 v4 g1) (fun v8 H=>?_) (fun _ n2 e2 t2=>?_)
  ·refine zB (Z [p 1 (R 1),p 3 (O 27),p 30 (O 30),p 31 (I (↑v0.length:Int)),p 32 (I (v4+1))] [(27,A 2 i64 v8 0),(30,A 159 y159 v0 0),(1,K 45 y45 a0)]) H fun H =>
    b1 H
  refine vx_block <|
   qD (fun v6=>Z [p 1 (R 1),p 3 (O 27),p 5 (R 5),p 30 (O 30),p 31 (I (↑v0.length:Int)),p 32 (I v4)] [(5,Ob.box 159 (cellsD true y159 v6)),(30,A 159 y159 v0 0),(27,A 2 i64 v5 0),(1,K 45 y45 a0)]) H fun v6 H =>
   qA (Z [p 1 (R 1),p 3 (O 27),p 5 (R 5),p 30 (O 30),p 31 (I (↑v0.length:Int)),p 32 (I v4),p 38 (B !v6.2.2.2)] [(5,Ob.box 159 (cellsD true y159 v6)),(30,A 159 y159 v0 0),(27,A 2 i64 v5 0),(1,K 45 y45 a0)]) <|
   cD H (fun H=>?_) (fun H=>?_)
  ·refine zD (fun v7=>Z [p 1 (R 1),p 3 (O 27),p 30 (O 30),p 31 (I (↑v0.length:Int)),p 32 (I v4)] [(27,A 2 i64 v7 0),(5,Ob.box 159 (cellsD true y159 v6)),(30,A 159 y159 v0 0),(1,K 45 y45 a0)]) H fun v7 H =>
    fx_blk<|n2 H
  exact vx_skip<|fx_blk<|n2 H
 exact vx_exit<|fx_seq_exit<|e1<|fx_blk_exit rfl<|n0 H
def u13 (a0:Y45) (a1:Int) (a2:Int) (a3:Int):Option (Int×Int) :=
 gd ((u43 a0).isSome=true∧True) <|
 if (!vl (u43 a0))=true then
  some (((0:Int),(1:Int)))
 else
  gd ((u44 a0).isSome=true∧True)<|lt (vl (u44 a0)) fun v0 =>
  gd ((u45 v0 a1).isSome=true∧True) <|
  if (!vl (u45 v0 a1))=true then
   some (((0:Int),(4:Int)))
  else
   gd ((u46 a2).isSome=true∧((!vl (u46 a2))=false∧True→(u47 a3).isSome=true)∧True) <|
   if (!vl (u46 a2)||!vl (u47 a3))=true then
    some (((0:Int),(2:Int)))
   else
    gd ((u48 v0 a1 a2 a3).isSome=true∧True)<|lt (vl (u48 v0 a1 a2 a3)) fun v1 =>
    some ((v1,(0:Int)))
def u110 (a0:Int) (a1:Int) (a2:Int):Option (Int) :=
 gd (0 < a1∧True) <|
 gd (0 < a1∧True) <|
 if (decide (a0.tmod a1 < 0)&&a2==0)=true then
  gd (in64 (a0.tdiv a1 - 1)∧True) <|
  some (a0.tdiv a1 - 1)
 else
  if (decide (0 < a0.tmod a1)&&a2==1)=true then
   gd (in64 (a0.tdiv a1+1)∧True) <|
   some (a0.tdiv a1+1)
  else
   some (a0.tdiv a1)
def u136J2:Int→Option (Int)
 | v3 =>
 some v3
def u136J0 (a1:Int) (a0:Int):Int→Option (Int)
 | v2 =>
 gd (((a1==1)=true∧True→in64 (v2*v2))∧True) <|
 if (a1==1&&decide (v2*v2 < a0))=true then
  gd (in64 (v2+1)∧True) <|
  u136J2 (v2+1)
 else
  u136J2 v2
def u136L1 (a0:Int) (a1:Int) (g1:Int×Int→Option (Int)):Int×Int→Option (Int)
 | (v0,v1) =>
 if (decide (v0 < v1))=true then
  gd (in64 (v0+v1)∧in64 (v0+v1+(1:Int))∧(0:Int) < (2:Int)∧True) <|
  gd (in64 ((v0+v1+1).tdiv 2*(v0+v1+1).tdiv 2)∧True) <|
  if (decide ((v0+v1+1).tdiv 2*(v0+v1+1).tdiv 2≤a0))=true then
   g1 (((v0+v1+1).tdiv 2,v1))
  else
   gd (in64 ((v0+v1+1).tdiv 2 - 1)∧True) <|
   g1 ((v0,(v0+v1+1).tdiv 2 - 1))
 else
  u136J0 a1 a0 v0
def u136 (a0:Int) (a1:Int):Option (Int) :=
 lp (u136L1 a0 a1) (0,2000000000)
def u161 (a0:List Y145) (a1:Y42) (a2:Y176):Option (Int) :=
 if (decide (a2.1 < 0))=true then
  some 0
 else
  gd (ix a2.1 a1.1.length∧ix (a1.1.getD a2.1.toNat (dflt y147)).2.1 a0.length∧ix a2.2.1 (a0.getD (a1.1.getD a2.1.toNat (dflt y147)).2.1.toNat (dflt y145)).2.2.1.length∧True)<|lt ((a0.getD (a1.1.getD a2.1.toNat (dflt y147)).2.1.toNat (dflt y145)).2.2.1.getD a2.2.1.toNat (dflt y241)) fun v0 =>
  some v0.2.2.1
def u117J4:List Y176→Option (List Y176)
 | v25 =>
 some v25
def u117L5 (a0:Y42) (g5:Int×List Y176→Option (List Y176)):Int×List Y176→Option (List Y176)
 | (v21,v22) =>
 if (decide (v21 < (↑a0.2.2.length:Int)))=true then
  gd (ix v21 a0.2.2.length∧ix v21 a0.2.2.length∧(v22.length+[(-1,v21,(a0.2.2.getD v21.toNat (dflt y199)).2.2,(a0.2.2.getD v21.toNat (dflt y199)).2.1==1)].length≤9223372036854775807∧(v22.length+[(-1,v21,(a0.2.2.getD v21.toNat (dflt y199)).2.2,(a0.2.2.getD v21.toNat (dflt y199)).2.1==1)].length)*32≤140737488355328)∧True)<|lt ((v22++[(-1,v21,(a0.2.2.getD v21.toNat (dflt y199)).2.2,(a0.2.2.getD v21.toNat (dflt y199)).2.1==1)],[(-1,v21,(a0.2.2.getD v21.toNat (dflt y199)).2.2,(a0.2.2.getD v21.toNat (dflt y199)).2.1==1)])) fun (v23,v24) =>
  gd (in64 (v21+1)∧True) <|
  g5 (v21+1,v23)
 else
  u117J4 v22
def u117J0 (a0:Y42):List Y176→Option (List Y176)
 | v18 =>
 lp (u117L5 a0) (0,v18)
def u117J2 (v8:Int) (g1:Int×List Y176→Option (List Y176)):List Y176→Option (List Y176)
 | v17 =>
 gd (in64 (v8+1)∧True) <|
 g1 (v8+1,v17)
def u117L3 (v8:Int) (v10:Y147) (g1:Int×List Y176→Option (List Y176)) (g3:Int×List Y176→Option (List Y176)):Int×List Y176→Option (List Y176)
 | (v13,v14) =>
 if (decide (v13 < (↑v10.2.2.length:Int)))=true then
  gd (ix v13 v10.2.2.length∧in64 ((↑v10.2.2.length:Int) - 1)∧(v14.length+[(v8,v13,v10.2.2.getD v13.toNat 0,v13==(↑v10.2.2.length:Int) - 1)].length≤9223372036854775807∧(v14.length+[(v8,v13,v10.2.2.getD v13.toNat 0,v13==(↑v10.2.2.length:Int) - 1)].length)*32≤140737488355328)∧True)<|lt ((v14++[(v8,v13,v10.2.2.getD v13.toNat 0,v13==(↑v10.2.2.length:Int) - 1)],[(v8,v13,v10.2.2.getD v13.toNat 0,v13==(↑v10.2.2.length:Int) - 1)])) fun (v15,v16) =>
  gd (in64 (v13+1)∧True) <|
  g3 (v13+1,v15)
 else
  u117J2 v8 g1 v14
def u117L1 (a0:Y42) (g1:Int×List Y176→Option (List Y176)):Int×List Y176→Option (List Y176)
 | (v8,v9) =>
 if (decide (v8 < (↑a0.1.length:Int)))=true then
  gd (ix v8 a0.1.length∧True)<|lt (a0.1.getD v8.toNat (dflt y147)) fun v10 =>
  lp (u117L3 v8 v10 g1) (0,v9)
 else
  u117J0 a0 v9
def u117 (a0:Y42):Option (List Y176) :=
 lp (u117L1 a0) (0,[])
def k117:Ct:=lct 117 [.agg y42] (fun x=>u117 x.1) (fun r:List Y176=>AV.ow 176 true y176 r) (fun _=>())
theorem o117:Ok Tryz.prog k117:=by
 refine okL [.tmp 2] Tryz.func117 Tryz.ntmps117 Tryz.results117 ?_
 intro y ⟨a0,_⟩ r H Q hn hr
 have:HT _ _:=⟨@tn Tryz.prog⟩
 refine qA (Z [p 1 (R 1)] [(1,K 42 y42 a0)]) <|
  qA (Z [p 1 (R 1),p 3 (O 8)] [(8,A 176 y176 [] 0),(1,K 42 y42 a0)]) <|
  jN r (fun (v18:List Y176)=>Z [p 1 (R 1),p 3 (O 8)] [(8,A 176 y176 v18 0),(1,K 42 y42 a0)]) (u117J0 a0) (fun v18 H=>?_) (fun _ n0 e0 t0=>?_)
 ·refine jN r (fun (v25:List Y176)=>Z [p 3 (O 8)] [(8,A 176 y176 v25 0)]) (u117J4) (fun v25 H=>?_) (fun _ n4 e4 t4=>?_)
  ·refine qA (Z [p 2 (O 8)] [(8,A 176 y176 v25 0)]) <|
    vx_ret<|hr H
  refine qA (Z [p 1 (R 1),p 3 (O 8),p 7 (I 0)] [(8,A 176 y176 v18 0),(1,K 42 y42 a0)]) <|
   vx_block <|
   lX (fun ((v21,v22):Int×List Y176)=>Z [p 1 (R 1),p 3 (O 8),p 7 (I v21)] [(8,A 176 y176 v22 0),(1,K 42 y42 a0)]) (0,v18) H fun _ g5 b5 e5 t5 ⟨v21,v22⟩ H =>
   vx_seq <|
   qA (Z [p 1 (R 1),p 3 (O 8),p 7 (I v21),p 47 (B (decide (v21 < (↑a0.2.2.length:Int))))] [(8,A 176 y176 v22 0),(1,K 42 y42 a0)]) <|
   cD H (fun H=>?_) (fun H=>?_)
  ·refine vx_skip<|fx_seq<|vx_seq<|vx_block <|
    zD (fun (v23,v24)=>Z [p 1 (R 1),p 3 (AV.os 8 1),p 7 (I v21)] [(8,A 176 y176 v23 1),(66,A 176 y176 v24 0),(1,K 42 y42 a0)]) H fun ⟨v23,v24⟩ H =>
    fx_blk<|fx_seq <|
    zB (Z [p 1 (R 1),p 3 (AV.os 8 1),p 7 (I (v21+1))] [(8,A 176 y176 v23 1),(66,A 176 y176 v24 0),(1,K 42 y42 a0)]) H fun H =>
    b5 H
  exact vx_exit<|fx_seq_exit<|e5<|fx_blk_exit rfl<|n4 H
 refine qA (Z [p 1 (R 1),p 3 (O 8),p 4 (I 0)] [(8,A 176 y176 [] 0),(1,K 42 y42 a0)]) <|
  vx_block <|
  lX (fun ((v8,v9):Int×List Y176)=>Z [p 1 (R 1),p 3 (O 8),p 4 (I v8)] [(8,A 176 y176 v9 0),(1,K 42 y42 a0)]) (0,[]) H fun _ g1 b1 e1 t1 ⟨v8,v9⟩ H =>
  vx_seq <|
  qA (Z [p 1 (R 1),p 3 (O 8),p 4 (I v8),p 13 (B (decide (v8 < (↑a0.1.length:Int))))] [(8,A 176 y176 v9 0),(1,K 42 y42 a0)]) <|
  cD H (fun H=>?_) (fun H=>?_)
 ·refine vx_skip<|fx_seq <|
   jN r (fun (v17:List Y176)=>Z [p 1 (R 1),p 3 (O 8),p 4 (I v8)] [(8,A 176 y176 v17 0),(1,K 42 y42 a0)]) (u117J2 v8 g1) (fun v17 H=>?_) (fun _ n2 e2 t2=>?_)
  ·refine zB (Z [p 1 (R 1),p 3 (O 8),p 4 (I (v8+1))] [(8,A 176 y176 v17 0),(1,K 42 y42 a0)]) H fun H =>
    b1 H
  refine vx_block <|
   qD (fun v10=>Z [p 1 (R 1),p 3 (O 8),p 4 (I v8),p 5 (L i64 v10.2.2)] [(8,A 176 y176 v9 0),(1,K 42 y42 a0)]) H fun v10 H =>
   qA (Z [p 1 (R 1),p 3 (O 8),p 4 (I v8),p 5 (L i64 v10.2.2),p 6 (I 0)] [(8,A 176 y176 v9 0),(1,K 42 y42 a0)]) <|
   vx_block <|
   lX (fun ((v13,v14):Int×List Y176)=>Z [p 1 (R 1),p 3 (O 8),p 4 (I v8),p 5 (L i64 v10.2.2),p 6 (I v13)] [(8,A 176 y176 v14 0),(1,K 42 y42 a0)]) (0,v9) H fun _ g3 b3 e3 t3 ⟨v13,v14⟩ H =>
   vx_seq <|
   qA (Z [p 1 (R 1),p 3 (O 8),p 4 (I v8),p 5 (L i64 v10.2.2),p 6 (I v13),p 25 (B (decide (v13 < (↑v10.2.2.length:Int))))] [(8,A 176 y176 v14 0),(1,K 42 y42 a0)]) <|
   cD H (fun H=>?_) (fun H=>?_)
  ·refine vx_skip<|fx_seq<|vx_seq<|vx_block <|
    zD (fun (v15,v16)=>Z [p 1 (R 1),p 3 (AV.os 8 1),p 4 (I v8),p 5 (L i64 v10.2.2),p 6 (I v13)] [(8,A 176 y176 v15 1),(41,A 176 y176 v16 0),(1,K 42 y42 a0)]) H fun ⟨v15,v16⟩ H =>
    fx_blk<|fx_seq <|
    zB (Z [p 1 (R 1),p 3 (AV.os 8 1),p 4 (I v8),p 5 (L i64 v10.2.2),p 6 (I (v13+1))] [(8,A 176 y176 v15 1),(41,A 176 y176 v16 0),(1,K 42 y42 a0)]) H fun H =>
    b3 H
  exact vx_exit<|fx_seq_exit<|e3<|fx_blk_exit rfl<|fx_blk<|n2 H
 exact vx_exit<|fx_seq_exit<|e1<|fx_blk_exit rfl<|n0 H
def u78J0:List Int→Option (List Int)
 | v5 =>
 some v5
def u78J2 (v2:Int) (g1:Int×List Int→Option (List Int)):List Int→Option (List Int)
 | v4 =>
 gd (in64 (v2+1)∧True) <|
 g1 (v2+1,v4)
def u78L1 (v0:List Y176) (a1:Int) (g1:Int×List Int→Option (List Int)):Int×List Int→Option (List Int)
 | (v2,v3) =>
 if (decide (v2 < (↑v0.length:Int)))=true then
  gd (ix v2 v0.length∧v2.toNat < v0.length∧(((v0.getD v2.toNat (dflt y176)).2.2.1==a1)=true∧True→ix v2 v0.length)∧(((v0.getD v2.toNat (dflt y176)).2.2.1==a1)=true∧True→v2.toNat < v0.length)∧True) <|
  if ((v0.getD v2.toNat (dflt y176)).2.2.1==a1&&!(v0.getD v2.toNat (dflt y176)).2.2.2)=true then
   gd ((v3.length+[v2].length≤9223372036854775807∧(v3.length+[v2].length)*8≤140737488355328)∧True) <|
   u78J2 v2 g1 (v3++[v2])
  else
   u78J2 v2 g1 v3
 else
  u78J0 v3
def u78 (a0:Y42) (a1:Int):Option (List Int) :=
 gd ((u117 a0).isSome=true∧True)<|lt (vl (u117 a0)) fun v0 =>
 lp (u78L1 v0 a1) (0,[])
def k78:Ct:=lct 78 [.agg y42,.dat i64] (fun x=>u78 x.1 x.2.1) (fun r:List Int=>AV.ow 2 true i64 r) (fun _=>())
theorem o78:Ok Tryz.prog k78:=by
 refine okL [.tmp 4] Tryz.func78 Tryz.ntmps78 Tryz.results78 ?_
 intro y ⟨a0,a1,_⟩ r H Q hn hr
 have:HT _ _:=⟨tc o117 tn⟩
 refine qA (Z [p 1 (J a1),p 2 (R 2)] [(2,K 42 y42 a0)]) <|
  qA (Z [p 1 (J a1),p 2 (R 2),p 5 (O 8)] [(8,A 2 i64 [] 0),(2,K 42 y42 a0)]) <|
  qD (fun v0=>Z [p 1 (J a1),p 5 (O 8),p 6 (O 10)] [(10,A 176 y176 v0 0),(8,A 2 i64 [] 0),(2,K 42 y42 a0)]) H fun v0 H =>
  jN r (fun (v5:List Int)=>Z [p 5 (O 8)] [(8,A 2 i64 v5 0)]) (u78J0) (fun v5 H=>?_) (fun _ n0 e0 t0=>?_)
 ·refine qA (Z [p 4 (O 8)] [(8,A 2 i64 v5 0)]) <|
   vx_ret<|hr H
 refine qA (Z [p 1 (J a1),p 5 (O 8),p 6 (O 10),p 7 (I 0)] [(10,A 176 y176 v0 0),(8,A 2 i64 [] 0),(2,K 42 y42 a0)]) <|
  vx_block <|
  lX (fun ((v2,v3):Int×List Int)=>Z [p 1 (J a1),p 5 (O 8),p 6 (O 10),p 7 (I v2)] [(10,A 176 y176 v0 0),(8,A 2 i64 v3 0)]) (0,[]) H fun _ g1 b1 e1 t1 ⟨v2,v3⟩ H =>
  vx_seq <|
  qA (Z [p 1 (J a1),p 5 (O 8),p 6 (O 10),p 7 (I v2),p 14 (B (decide (v2 < (↑v0.length:Int))))] [(10,A 176 y176 v0 0),(8,A 2 i64 v3 0)]) <|
  cD H (fun H=>?_) (fun H=>?_)
 ·refine vx_skip<|fx_seq <|
   jN r (fun (v4:List Int)=>Z [p 1 (J a1),p 5 (O 8),p 6 (O 10),p 7 (I v2)] [(8,A 2 i64 v4 0),(10,A 176 y176 v0 0)]) (u78J2 v2 g1) (fun v4 H=>?_) (fun _ n2 e2 t2=>?_)
  ·refine zB (Z [p 1 (J a1),p 5 (O 8),p 6 (O 10),p 7 (I (v2+1))] [(8,A 2 i64 v4 0),(10,A 176 y176 v0 0)]) H fun H =>
    b1 H
  refine vx_block <|
   qB (Z [p 1 (J a1),p 5 (O 8),p 6 (O 10),p 7 (I v2),p 31 (B ((v0.getD v2.toNat (dflt y176)).2.2.1==a1&&!(v0.getD v2.toNat (dflt y176)).2.2.2))] [(10,A 176 y176 v0 0),(8,A 2 i64 v3 0)]) H fun H =>
   cD H (fun H=>?_) (fun H=>?_)
  ·refine zB (Z [p 1 (J a1),p 5 (AV.os 8 1),p 6 (O 10),p 7 (I v2)] [(8,A 2 i64 (v3++[v2]) 1),(34,A 2 i64 [v2] 0),(10,A 176 y176 v0 0)]) H fun H =>
    fx_blk<|n2 H
  exact vx_skip<|fx_blk<|n2 H
 exact vx_exit<|fx_seq_exit<|e1<|fx_blk_exit rfl<|n0 H
def u160 (a0:List Int):Option (List Int) :=
 gd ((0+a0.length≤9223372036854775807∧(0+a0.length)*8≤140737488355328)∧True) <|
 some ([]++a0)
def u118J2:List Int→Option (List Int)
 | v15 =>
 some v15
def u118L3 (v0:Y137) (g3:Int×List Int→Option (List Int)):Int×List Int→Option (List Int)
 | (v12,v13) =>
 if (decide (0 < v12))=true then
  gd (ix v12 v0.1.length∧ix (v0.1.getD v12.toNat 0) v13.length∧Int.toNat (v0.1.getD v12.toNat 0) < v13.length∧ix v12 v13.length∧v12.toNat < v13.length∧in64 (v13.getD (Int.toNat (v0.1.getD v12.toNat 0)) 0+v13.getD v12.toNat 0)∧ix (v0.1.getD v12.toNat 0) v13.length∧Int.toNat (v0.1.getD v12.toNat 0) < v13.length∧True)<|lt (v13.set (Int.toNat (v0.1.getD v12.toNat 0)) (v13.getD (Int.toNat (v0.1.getD v12.toNat 0)) 0+v13.getD v12.toNat 0)) fun v14 =>
  gd (in64 (v12 - 1)∧True) <|
  g3 (v12 - 1,v14)
 else
  u118J2 v13
def u118J0 (v0:Y137):List Int→Option (List Int)
 | v10 =>
 gd (in64 ((↑v10.length:Int) - 1)∧True) <|
 lp (u118L3 v0) (((↑v10.length:Int) - 1,v10))
def u118L1 (a0:Y45) (v2:List Y176) (v3:List Int) (v0:Y137) (g1:Int×List Int→Option (List Int)):Int×List Int→Option (List Int)
 | (v6,v7) =>
 if (decide (v6 < (↑v3.length:Int)))=true then
  gd (ix v6 v0.2.2.2.length∧ix (v0.2.2.2.getD v6.toNat 0) v7.length∧Int.toNat (v0.2.2.2.getD v6.toNat 0) < v7.length∧ix v6 v3.length∧v6.toNat < v3.length∧ix (v3.getD v6.toNat 0) v2.length∧Int.toNat (v3.getD v6.toNat 0) < v2.length∧(u161 a0.1 a0.2.1 (v2.getD (Int.toNat (v3.getD v6.toNat 0)) (dflt y176))).isSome=true∧in64 (v7.getD (Int.toNat (v0.2.2.2.getD v6.toNat 0)) 0+vl (u161 a0.1 a0.2.1 (v2.getD (Int.toNat (v3.getD v6.toNat 0)) (dflt y176))))∧ix (v0.2.2.2.getD v6.toNat 0) v7.length∧Int.toNat (v0.2.2.2.getD v6.toNat 0) < v7.length∧True)<|lt ((vl (u161 a0.1 a0.2.1 (v2.getD (Int.toNat (v3.getD v6.toNat 0)) (dflt y176))),v7.set (Int.toNat (v0.2.2.2.getD v6.toNat 0)) (v7.getD (Int.toNat (v0.2.2.2.getD v6.toNat 0)) 0+vl (u161 a0.1 a0.2.1 (v2.getD (Int.toNat (v3.getD v6.toNat 0)) (dflt y176)))))) fun (v8,v9) =>
  gd (in64 (v6+1)∧True) <|
  g1 (v6+1,v9)
 else
  u118J0 v0 v7
def u118 (a0:Y45) (a1:Int):Option (List Int) :=
 gd (ix a1 a0.2.2.length∧True)<|lt (a0.2.2.getD a1.toNat (dflt y137)) fun v0 =>
 gd ((u160 v0.2.2.1).isSome=true∧True)<|lt (vl (u160 v0.2.2.1)) fun v1 =>
 gd ((u117 a0.2.1).isSome=true∧True)<|lt (vl (u117 a0.2.1)) fun v2 =>
 gd ((u78 a0.2.1 a1).isSome=true∧True)<|lt (vl (u78 a0.2.1 a1)) fun v3 =>
 lp (u118L1 a0 v2 v3 v0) (0,v1)
def u135J0:List Int→Option (List Int)
 | v8 =>
 some v8
def u135L1 (v0:Y137) (v1:List Int) (g1:Int×List Int→Option (List Int)):Int×List Int→Option (List Int)
 | (v4,v5) =>
 if (decide (v4 < (↑v1.length:Int)))=true then
  gd (ix v4 v0.1.length∧ix (v0.1.getD v4.toNat 0) v5.length∧Int.toNat (v0.1.getD v4.toNat 0) < v5.length∧ix v4 v0.2.1.length∧ix v4 v1.length∧v4.toNat < v1.length∧in64 (v0.2.1.getD v4.toNat 0*v1.getD v4.toNat 0)∧in64 (v5.getD (Int.toNat (v0.1.getD v4.toNat 0)) 0+v0.2.1.getD v4.toNat 0*v1.getD v4.toNat 0)∧(v5.length+[v5.getD (Int.toNat (v0.1.getD v4.toNat 0)) 0+v0.2.1.getD v4.toNat 0*v1.getD v4.toNat 0].length≤9223372036854775807∧(v5.length+[v5.getD (Int.toNat (v0.1.getD v4.toNat 0)) 0+v0.2.1.getD v4.toNat 0*v1.getD v4.toNat 0].length)*8≤140737488355328)∧True)<|lt ((v5++[v5.getD (Int.toNat (v0.1.getD v4.toNat 0)) 0+v0.2.1.getD v4.toNat 0*v1.getD v4.toNat 0],[v5.getD (Int.toNat (v0.1.getD v4.toNat 0)) 0+v0.2.1.getD v4.toNat 0*v1.getD v4.toNat 0])) fun (v6,v7) =>
  gd (in64 (v4+1)∧True) <|
  g1 (v4+1,v6)
 else
  u135J0 v5
def u135 (a0:Y45) (a1:Int):Option (List Int) :=
 gd (ix a1 a0.2.2.length∧True)<|lt (a0.2.2.getD a1.toNat (dflt y137)) fun v0 =>
 gd ((u118 a0 a1).isSome=true∧True)<|lt (vl (u118 a0 a1)) fun v1 =>
 lp (u135L1 v0 v1) (1,[0])
def u80 (a0:Y45) (a1:Int) (a2:Int) (a3:Int) (a4:Int):Option (Int) :=
 gd ((u135 a0 a1).isSome=true∧ix a1 a0.2.2.length∧ix a2 (a0.2.2.getD a1.toNat (dflt y137)).2.2.2.length∧ix ((a0.2.2.getD a1.toNat (dflt y137)).2.2.2.getD a2.toNat 0) (vl (u135 a0 a1)).length∧Int.toNat ((a0.2.2.getD a1.toNat (dflt y137)).2.2.2.getD a2.toNat 0) < (vl (u135 a0 a1)).length∧True)<|lt ((vl (u135 a0 a1),(vl (u135 a0 a1)).getD (Int.toNat ((a0.2.2.getD a1.toNat (dflt y137)).2.2.2.getD a2.toNat 0)) 0)) fun (v0,v1) =>
 gd (in64 (1000000*a3)∧in64 (1000000*a3*a3)∧in64 (4*v1)∧in64 (4*v1*v1)∧in64 (1000000*a3*a3+4*v1*v1)∧(u136 (1000000*a3*a3+4*v1*v1) a4).isSome=true∧(u110 (vl (u136 (1000000*a3*a3+4*v1*v1) a4)) 1000 a4).isSome=true∧True)<|lt (vl (u110 (vl (u136 (1000000*a3*a3+4*v1*v1) a4)) 1000 a4)) fun v2 =>
 some v2
def u81 (a0:Y45) (a1:Y83):Option (Int) :=
 gd ((u117 a0.2.1).isSome=true∧(0:Int) < (2:Int)∧ix (a1.2.1.tdiv (2:Int)) (vl (u117 a0.2.1)).length∧(a1.2.1.tdiv (2:Int)).toNat < (vl (u117 a0.2.1)).length∧True)<|lt ((vl (u117 a0.2.1),(vl (u117 a0.2.1)).getD (a1.2.1.tdiv 2).toNat (dflt y176))) fun (v0,v1) =>
 some v1.2.2.1
def u134J0:Unit→Option (Int×Int×Int)
 | _ =>
 some (((0:Int),(1:Int),(0:Int)))
def u134L1 (a0:List Int) (v0:Int) (g1:Int→Option (Int×Int×Int)):Int→Option (Int×Int×Int)
 | v1 =>
 if (decide (0≤v1))=true then
  gd (ix v1 a0.length∧True) <|
  if (v0==a0.getD v1.toNat 0)=true then
   some ((v1,(1:Int),(0:Int)))
  else
   gd (ix v1 a0.length∧True) <|
   if (decide (a0.getD v1.toNat 0 < v0))=true then
    gd (in64 (v1+1)∧ix (v1+1) a0.length∧in64 (a0.getD (v1+1).toNat 0 - v0)∧ix v1 a0.length∧in64 (v0 - a0.getD v1.toNat 0)∧True) <|
    some ((v1,a0.getD (v1+1).toNat 0 - v0,v0 - a0.getD v1.toNat 0))
   else
    gd (in64 (v1 - 1)∧True) <|
    g1 (v1 - 1)
 else
  u134J0 ()
def u134 (a0:List Int) (a1:Int):Option (Int×Int×Int) :=
 gd (ix 0 a0.length∧True) <|
 gd (in64 ((↑a0.length:Int) - 1)∧ix ((↑a0.length:Int) - 1) a0.length∧True)<|lt (min (max a1 (a0.getD (Int.toNat (0:Int)) (0:Int))) (a0.getD ((↑a0.length:Int) - (1:Int)).toNat (0:Int))) fun v0 =>
 gd (in64 ((↑a0.length:Int) - 1)∧True) <|
 lp (u134L1 a0 v0) ((↑a0.length:Int) - 1)
def u79J0 (v0:Int×Int×Int) (v1:Int×Int×Int) (a3:Int):Int→Option (Int)
 | v26 =>
 gd (in64 (v0.2.1+v0.2.2)∧in64 (v1.2.1+v1.2.2)∧in64 ((v0.2.1+v0.2.2)*(v1.2.1+v1.2.2))∧(u110 v26 ((v0.2.1+v0.2.2)*(v1.2.1+v1.2.2)) a3).isSome=true∧True)<|lt (vl (u110 v26 ((v0.2.1+v0.2.2)*(v1.2.1+v1.2.2)) a3)) fun v27 =>
 some v27
def u79J2 (v14:Int) (g1:Int×Int→Option (Int)):Int→Option (Int)
 | v25 =>
 gd (in64 (v14+1)∧True) <|
 g1 (v25,v14+1)
def u79J4 (v20:Int) (g3:Int×Int→Option (Int)):Int→Option (Int)
 | v24 =>
 gd (in64 (v20+1)∧True) <|
 g3 (v24,v20+1)
def u79J6 (v20:Int) (v19:Int) (a0:Y106) (v0:Int×Int×Int) (v14:Int) (v1:Int×Int×Int) (g3:Int×Int→Option (Int)):Int→Option (Int)
 | v22 =>
 if (decide (0 < v22))=true then
  gd (in64 (v0.1+v14)∧in64 ((v0.1+v14)*(↑a0.2.1.length:Int))∧in64 ((v0.1+v14)*(↑a0.2.1.length:Int)+v1.1)∧in64 ((v0.1+v14)*(↑a0.2.1.length:Int)+v1.1+v20)∧ix ((v0.1+v14)*(↑a0.2.1.length:Int)+v1.1+v20) a0.2.2.length∧in64 (v22*a0.2.2.getD ((v0.1+v14)*(↑a0.2.1.length:Int)+v1.1+v20).toNat 0)∧in64 (v19+v22*a0.2.2.getD ((v0.1+v14)*(↑a0.2.1.length:Int)+v1.1+v20).toNat 0)∧True)<|lt (v19+v22*a0.2.2.getD ((v0.1+v14)*(↑a0.2.1.length:Int)+v1.1+v20).toNat 0) fun v23 =>
  u79J4 v20 g3 v23
 else
  u79J4 v20 g3 v19
def u79J5 (v20:Int) (v19:Int) (a0:Y106) (v0:Int×Int×Int) (v14:Int) (v1:Int×Int×Int) (g3:Int×Int→Option (Int)):Int→Option (Int)
 | v21 =>
 if (v20==0)=true then
  gd (in64 (v21*v1.2.1)∧True) <|
  u79J6 v20 v19 a0 v0 v14 v1 g3 (v21*v1.2.1)
 else
  gd (in64 (v21*v1.2.2)∧True) <|
  u79J6 v20 v19 a0 v0 v14 v1 g3 (v21*v1.2.2)
def u79L3 (a0:Y106) (v0:Int×Int×Int) (v14:Int) (v1:Int×Int×Int) (g1:Int×Int→Option (Int)) (g3:Int×Int→Option (Int)):Int×Int→Option (Int)
 | (v19,v20) =>
 if (decide (v20 < 2))=true then
  if (v14==1)=true then
   u79J5 v20 v19 a0 v0 v14 v1 g3 v0.2.2
  else
   u79J5 v20 v19 a0 v0 v14 v1 g3 v0.2.1
 else
  u79J2 v14 g1 v19
def u79L1 (a0:Y106) (v0:Int×Int×Int) (v1:Int×Int×Int) (a3:Int) (g1:Int×Int→Option (Int)):Int×Int→Option (Int)
 | (v13,v14) =>
 if (decide (v14 < 2))=true then
  lp (u79L3 a0 v0 v14 v1 g1) (v13,0)
 else
  u79J0 v0 v1 a3 v13
def u79 (a0:Y106) (a1:Int) (a2:Int) (a3:Int):Option (Int) :=
 gd ((u134 a0.1 a1).isSome=true∧True)<|lt (vl (u134 a0.1 a1)) fun v0 =>
 gd ((u134 a0.2.1 a2).isSome=true∧True)<|lt (vl (u134 a0.2.1 a2)) fun v1 =>
 lp (u79L1 a0 v0 v1 a3) (0,0)
def u57 (a0:Y45) (a1:Y83):Option (Y102×Int) :=
 gd ((u117 a0.2.1).isSome=true∧(0:Int) < (2:Int)∧ix (a1.2.1.tdiv (2:Int)) (vl (u117 a0.2.1)).length∧(a1.2.1.tdiv (2:Int)).toNat < (vl (u117 a0.2.1)).length∧True)<|lt ((vl (u117 a0.2.1),(vl (u117 a0.2.1)).getD (a1.2.1.tdiv 2).toNat (dflt y176))) fun (v0,v1) =>
 gd (ix v1.1 a0.2.1.1.length∧ix (a0.2.1.1.getD v1.1.toNat (dflt y147)).2.1 a0.1.length∧ix a1.2.2.2 (a0.1.getD (a0.2.1.1.getD v1.1.toNat (dflt y147)).2.1.toNat (dflt y145)).2.2.2.1.length∧(u118 a0 v1.2.2.1).isSome=true∧ix (0:Int) (vl (u118 a0 v1.2.2.1)).length∧Int.toNat (0:Int) < (vl (u118 a0 v1.2.2.1)).length∧True)<|lt ((vl (u118 a0 v1.2.2.1),(a0.1.getD (a0.2.1.1.getD v1.1.toNat (dflt y147)).2.1.toNat (dflt y145)).2.2.2.1.getD a1.2.2.2.toNat (dflt y102))) fun (v2,v3) =>
 some ((v3,v2.getD (Int.toNat (0:Int)) (0:Int)))
def u38 (a0:Y45) (a1:Y83) (a2:Int) (a3:Int):Option (Int) :=
 if (a1.2.2.1==1)=true then
  gd ((u57 a0 a1).isSome=true∧True)<|lt (vl (u57 a0 a1)) fun v0 =>
  gd ((0:Int) < (2:Int)∧ix (a1.2.1.tmod (2:Int)) v0.1.2.2.2.2.2.length∧(u79 (v0.1.2.2.2.2.2.getD (a1.2.1.tmod (2:Int)).toNat (dflt y106)) a2 v0.2 a3).isSome=true∧True)<|lt (vl (u79 (v0.1.2.2.2.2.2.getD (a1.2.1.tmod 2).toNat (dflt y106)) a2 v0.2 a3)) fun v1 =>
  some v1
 else
  gd ((u81 a0 a1).isSome=true∧(u80 a0 (vl (u81 a0 a1)) a1.2.2.2 a2 a3).isSome=true∧True)<|lt (vl (u80 a0 (vl (u81 a0 a1)) a1.2.2.2 a2 a3)) fun v2 =>
  some (min 1000000 v2)
def u85 (a0:List Y83) (a1:Int) (a2:Int) (a3:Int) (a4:Int) (a5:Int) (a6:Int):Option (List Y83) :=
 gd (in64 (2*a1)∧in64 (2*a1+a3)∧in64 (2*a2)∧in64 (2*a2+a4)∧(a0.length+[(2*a1+a3,2*a2+a4,a5,a6)].length≤9223372036854775807∧(a0.length+[(2*a1+a3,2*a2+a4,a5,a6)].length)*32≤140737488355328)∧True) <|
 some (a0++[(2*a1+a3,2*a2+a4,a5,a6)])
def k85:Ct:=lct 85 [.os 83 y83,.dat i64,.dat i64,.dat i64,.dat i64,.dat i64,.dat i64] (fun x=>u85 x.1 x.2.1 x.2.2.1 x.2.2.2.1 x.2.2.2.2.1 x.2.2.2.2.2.1 x.2.2.2.2.2.2.1) (fun r:List Y83=>AV.ow 83 true y83 r) (fun _=>())
theorem o85:Ok Tryz.prog k85:=by
 refine okL [.tmp 14] Tryz.func85 Tryz.ntmps85 Tryz.results85 ?_
 intro y ⟨a0,a1,a2,a3,a4,a5,a6,_⟩ r H Q hn hr
 have:HT _ _:=⟨@tn Tryz.prog⟩
 refine qA (Z [p 0 (O 500000),p 1 (J a1),p 2 (J a2),p 3 (J a3),p 4 (J a4),p 5 (J a5),p 6 (J a6)] [(500000,A 83 y83 a0 0)]) <|
  qB (Z [p 14 (AV.os 500000 1)] [(500000,A 83 y83 (a0++[(2*a1+a3,2*a2+a4,a5,a6)]) 1),(27,A 83 y83 [(2*a1+a3,2*a2+a4,a5,a6)] 0)]) H fun H =>
  vx_ret<|hr H
def u84J0:Unit→Option (Int)
 | _ =>
 some (-1)
def u84L1 (v0:List Y176) (a1:Int) (g1:Int→Option (Int)):Int→Option (Int)
 | v1 =>
 if (decide (v1 < (↑v0.length:Int)))=true then
  gd (ix v1 v0.length∧v1.toNat < v0.length∧(((v0.getD v1.toNat (dflt y176)).2.2.1==a1)=true∧True→ix v1 v0.length)∧(((v0.getD v1.toNat (dflt y176)).2.2.1==a1)=true∧True→v1.toNat < v0.length)∧True) <|
  if ((v0.getD v1.toNat (dflt y176)).2.2.1==a1&&(v0.getD v1.toNat (dflt y176)).2.2.2)=true then
   some v1
  else
   gd (in64 (v1+1)∧True) <|
   g1 (v1+1)
 else
  u84J0 ()
def u84 (a0:Y42) (a1:Int):Option (Int) :=
 gd ((u117 a0).isSome=true∧True)<|lt (vl (u117 a0)) fun v0 =>
 lp (u84L1 v0 a1) 0
def k84:Ct:=lct 84 [.agg y42,.dat i64] (fun x=>u84 x.1 x.2.1) (fun r:Int=>I r) (fun _=>())
theorem o84:Ok Tryz.prog k84:=by
 refine okL [.tmp 4] Tryz.func84 Tryz.ntmps84 Tryz.results84 ?_
 intro y ⟨a0,a1,_⟩ r H Q hn hr
 have:HT _ _:=⟨tc o117 tn⟩
 refine qA (Z [p 1 (J a1),p 2 (R 2)] [(2,K 42 y42 a0)]) <|
  qD (fun v0=>Z [p 1 (J a1),p 5 (O 8)] [(8,A 176 y176 v0 0),(2,K 42 y42 a0)]) H fun v0 H =>
  jN r (fun (_:Unit)=>Z [] []) (u84J0) (fun _ H=>?_) (fun _ n0 e0 t0=>?_)
 ·refine qA (Z [p 4 (I (-1))] []) <|
   vx_ret<|hr H
 refine qA (Z [p 1 (J a1),p 5 (O 8),p 6 (I 0)] [(8,A 176 y176 v0 0),(2,K 42 y42 a0)]) <|
  vx_block <|
  lX (fun (v1:Int)=>Z [p 1 (J a1),p 5 (O 8),p 6 (I v1)] [(8,A 176 y176 v0 0)]) 0 H fun _ g1 b1 e1 t1 v1 H =>
  vx_seq <|
  qA (Z [p 1 (J a1),p 5 (O 8),p 6 (I v1),p 12 (B (decide (v1 < (↑v0.length:Int))))] [(8,A 176 y176 v0 0)]) <|
  cD H (fun H=>?_) (fun H=>?_)
 ·refine vx_skip<|fx_seq<|vx_seq<|vx_block <|
   qB (Z [p 1 (J a1),p 5 (O 8),p 6 (I v1),p 28 (B ((v0.getD v1.toNat (dflt y176)).2.2.1==a1&&(v0.getD v1.toNat (dflt y176)).2.2.2))] [(8,A 176 y176 v0 0)]) H fun H =>
   cD H (fun H=>?_) (fun H=>?_)
  ·refine qA (Z [p 4 (I v1)] [(8,A 176 y176 v0 0)]) <|
    vx_ret<|fx_blk_ret<|fx_seq_ret<|t1<|fx_blk_ret<|t0<|hr H
  refine vx_skip<|fx_blk<|fx_seq <|
   zB (Z [p 1 (J a1),p 5 (O 8),p 6 (I (v1+1))] [(8,A 176 y176 v0 0)]) H fun H =>
   b1 H
 exact vx_exit<|fx_seq_exit<|e1<|fx_blk_exit rfl<|n0 H
def u82J0:List Y83→Option (List Y83)
 | v20 =>
 some v20
def u82J2 (v9:Int) (g1:Int×List Y83→Option (List Y83)):List Y83→Option (List Y83)
 | v19 =>
 gd (in64 (v9+1)∧True) <|
 g1 (v9+1,v19)
def u82J4 (v14:Int) (g3:Int×List Y83→Option (List Y83)):List Y83→Option (List Y83)
 | v18 =>
 gd (in64 (v14+1)∧True) <|
 g3 (v14+1,v18)
def u82J5 (v14:Int) (v15:List Y83) (a2:Int) (a3:Int) (v9:Int) (a4:Int) (g3:Int×List Y83→Option (List Y83)):Bool→Option (List Y83)
 | v16 =>
 if v16=true then
  gd ((u85 v15 a2 a3 v9 v14 1 a4).isSome=true∧True)<|lt (vl (u85 v15 a2 a3 v9 v14 1 a4)) fun v17 =>
  u82J4 v14 g3 v17
 else
  u82J4 v14 g3 v15
def u82L3 (a2:Int) (a3:Int) (v9:Int) (a4:Int) (a1:Y102) (g1:Int×List Y83→Option (List Y83)) (g3:Int×List Y83→Option (List Y83)):Int×List Y83→Option (List Y83)
 | (v14,v15) =>
 if (decide (v14≤1))=true then
  if (a1.1==1)=true then
   u82J5 v14 v15 a2 a3 v9 a4 g3 (a1.2.2.2.1==3||(a1.2.2.2.1==1)==(v9==v14))
  else
   if (a1.1==2)=true then
    u82J5 v14 v15 a2 a3 v9 a4 g3 (v9==0)
   else
    if (a1.1==3)=true then
     u82J5 v14 v15 a2 a3 v9 a4 g3 (v9==1)
    else
     u82J5 v14 v15 a2 a3 v9 a4 g3 false
 else
  u82J2 v9 g1 v15
def u82L1 (a2:Int) (a3:Int) (a4:Int) (a1:Y102) (g1:Int×List Y83→Option (List Y83)):Int×List Y83→Option (List Y83)
 | (v9,v10) =>
 if (decide (v9≤1))=true then
  lp (u82L3 a2 a3 v9 a4 a1 g1) (0,v10)
 else
  u82J0 v10
def u82 (a0:List Y83) (a1:Y102) (a2:Int) (a3:Int) (a4:Int):Option (List Y83) :=
 lp (u82L1 a2 a3 a4 a1) (0,a0)
def k82:Ct:=lct 82 [.os 83 y83,.agg y102,.dat i64,.dat i64,.dat i64] (fun x=>u82 x.1 x.2.1 x.2.2.1 x.2.2.2.1 x.2.2.2.2.1) (fun r:List Y83=>AV.ow 83 true y83 r) (fun _=>())
theorem o82:Ok Tryz.prog k82:=by
 refine okL [.tmp 10] Tryz.func82 Tryz.ntmps82 Tryz.results82 ?_
 intro y ⟨a0,a1,a2,a3,a4,_⟩ r H Q hn hr
 have:HT _ _:=⟨tc o85 tn⟩
 refine qA (Z [p 0 (O 500000),p 2 (J a2),p 3 (J a3),p 4 (J a4),p 6 (R 6)] [(6,K 102 y102 a1),(500000,A 83 y83 a0 0)]) <|
  jN r (fun (v20:List Y83)=>Z [p 0 (O 500000)] [(500000,A 83 y83 v20 0)]) (u82J0) (fun v20 H=>?_) (fun _ n0 e0 t0=>?_)
 ·refine qA (Z [p 10 (O 500000)] [(500000,A 83 y83 v20 0)]) <|
   vx_ret<|hr H
 refine qA (Z [p 0 (O 500000),p 2 (J a2),p 3 (J a3),p 4 (J a4),p 6 (R 6),p 11 (I 0)] [(6,K 102 y102 a1),(500000,A 83 y83 a0 0)]) <|
  vx_block <|
  lX (fun ((v9,v10):Int×List Y83)=>Z [p 0 (O 500000),p 2 (J a2),p 3 (J a3),p 4 (J a4),p 6 (R 6),p 11 (I v9)] [(6,K 102 y102 a1),(500000,A 83 y83 v10 0)]) (0,a0) H fun _ g1 b1 e1 t1 ⟨v9,v10⟩ H =>
  vx_seq <|
  qA (Z [p 0 (O 500000),p 2 (J a2),p 3 (J a3),p 4 (J a4),p 6 (R 6),p 11 (I v9),p 15 (B (decide (v9≤1)))] [(6,K 102 y102 a1),(500000,A 83 y83 v10 0)]) <|
  cD H (fun H=>?_) (fun H=>?_)
 ·refine vx_skip<|fx_seq <|
   jN r (fun (v19:List Y83)=>Z [p 0 (O 500000),p 2 (J a2),p 3 (J a3),p 4 (J a4),p 6 (R 6),p 11 (I v9)] [(6,K 102 y102 a1),(500000,A 83 y83 v19 0)]) (u82J2 v9 g1) (fun v19 H=>?_) (fun _ n2 e2 t2=>?_)
  ·refine zB (Z [p 0 (O 500000),p 2 (J a2),p 3 (J a3),p 4 (J a4),p 6 (R 6),p 11 (I (v9+1))] [(6,K 102 y102 a1),(500000,A 83 y83 v19 0)]) H fun H =>
    b1 H
  refine vx_block <|
   qA (Z [p 0 (O 500000),p 2 (J a2),p 3 (J a3),p 4 (J a4),p 6 (R 6),p 11 (I v9),p 12 (I 0)] [(6,K 102 y102 a1),(500000,A 83 y83 v10 0)]) <|
   vx_block <|
   lX (fun ((v14,v15):Int×List Y83)=>Z [p 0 (O 500000),p 2 (J a2),p 3 (J a3),p 4 (J a4),p 6 (R 6),p 11 (I v9),p 12 (I v14)] [(6,K 102 y102 a1),(500000,A 83 y83 v15 0)]) (0,v10) H fun _ g3 b3 e3 t3 ⟨v14,v15⟩ H =>
   vx_seq <|
   qA (Z [p 0 (O 500000),p 2 (J a2),p 3 (J a3),p 4 (J a4),p 6 (R 6),p 11 (I v9),p 12 (I v14),p 19 (B (decide (v14≤1)))] [(6,K 102 y102 a1),(500000,A 83 y83 v15 0)]) <|
   cD H (fun H=>?_) (fun H=>?_)
  ·refine vx_skip<|fx_seq <|
    jN r (fun (v18:List Y83)=>Z [p 0 (O 500000),p 2 (J a2),p 3 (J a3),p 4 (J a4),p 6 (R 6),p 11 (I v9),p 12 (I v14)] [(500000,A 83 y83 v18 0),(6,K 102 y102 a1)]) (u82J4 v14 g3) (fun v18 H=>?_) (fun _ n4 e4 t4=>?_)
   ·refine zB (Z [p 0 (O 500000),p 2 (J a2),p 3 (J a3),p 4 (J a4),p 6 (R 6),p 11 (I v9),p 12 (I (v14+1))] [(500000,A 83 y83 v18 0),(6,K 102 y102 a1)]) H fun H =>
     b3 H
   refine vx_block <|
    qA (Z [p 0 (O 500000),p 2 (J a2),p 3 (J a3),p 4 (J a4),p 6 (R 6),p 11 (I v9),p 12 (I v14),p 13 (B false)] [(6,K 102 y102 a1),(500000,A 83 y83 v15 0)]) <|
    jN r (fun (v16:Bool)=>Z [p 0 (O 500000),p 2 (J a2),p 3 (J a3),p 4 (J a4),p 6 (R 6),p 11 (I v9),p 12 (I v14),p 13 (B v16)] [(6,K 102 y102 a1),(500000,A 83 y83 v15 0)]) (u82J5 v14 v15 a2 a3 v9 a4 g3) (fun v16 H=>?_) (fun _ n5 e5 t5=>?_)
   ·refine qA (Z [p 0 (O 500000),p 2 (J a2),p 3 (J a3),p 4 (J a4),p 6 (R 6),p 11 (I v9),p 12 (I v14),p 46 (B v16)] [(6,K 102 y102 a1),(500000,A 83 y83 v15 0)]) <|
     cD H (fun H=>?_) (fun H=>?_)
    ·refine zD (fun v17=>Z [p 0 (AV.os 500000 1),p 2 (J a2),p 3 (J a3),p 4 (J a4),p 6 (R 6),p 11 (I v9),p 12 (I v14)] [(500000,A 83 y83 v17 1),(6,K 102 y102 a1)]) H fun v17 H =>
      fx_blk<|n4 H
    exact vx_skip<|fx_blk<|n4 H
   refine qA (Z [p 0 (O 500000),p 2 (J a2),p 3 (J a3),p 4 (J a4),p 6 (R 6),p 11 (I v9),p 12 (I v14),p 13 (B false),p 23 (J a1.1)] [(6,K 102 y102 a1),(500000,A 83 y83 v15 0)]) <|
    vx_block <|
    qA (Z [p 0 (O 500000),p 2 (J a2),p 3 (J a3),p 4 (J a4),p 6 (R 6),p 11 (I v9),p 12 (I v14),p 13 (B false),p 23 (J a1.1),p 24 (B (a1.1==1))] [(6,K 102 y102 a1),(500000,A 83 y83 v15 0)]) <|
    cD H (fun H=>?_) (fun H=>?_)
   ·refine zA (Z [p 0 (O 500000),p 2 (J a2),p 3 (J a3),p 4 (J a4),p 6 (R 6),p 11 (I v9),p 12 (I v14),p 13 (B (a1.2.2.2.1==3||(a1.2.2.2.1==1)==(v9==v14)))] [(6,K 102 y102 a1),(500000,A 83 y83 v15 0)]) <|
     fx_blk<|n5 H
   refine qA (Z [p 0 (O 500000),p 2 (J a2),p 3 (J a3),p 4 (J a4),p 6 (R 6),p 11 (I v9),p 12 (I v14),p 13 (B false),p 23 (J a1.1),p 38 (B (a1.1==2))] [(6,K 102 y102 a1),(500000,A 83 y83 v15 0)]) <|
    cD H (fun H=>?_) (fun H=>?_)
   ·refine zA (Z [p 0 (O 500000),p 2 (J a2),p 3 (J a3),p 4 (J a4),p 6 (R 6),p 11 (I v9),p 12 (I v14),p 13 (B (v9==0))] [(6,K 102 y102 a1),(500000,A 83 y83 v15 0)]) <|
     fx_blk<|n5 H
   refine qA (Z [p 0 (O 500000),p 2 (J a2),p 3 (J a3),p 4 (J a4),p 6 (R 6),p 11 (I v9),p 12 (I v14),p 13 (B false),p 42 (B (a1.1==3))] [(6,K 102 y102 a1),(500000,A 83 y83 v15 0)]) <|
    cD H (fun H=>?_) (fun H=>?_)
   ·refine zA (Z [p 0 (O 500000),p 2 (J a2),p 3 (J a3),p 4 (J a4),p 6 (R 6),p 11 (I v9),p 12 (I v14),p 13 (B (v9==1))] [(6,K 102 y102 a1),(500000,A 83 y83 v15 0)]) <|
     fx_blk<|n5 H
   exact vx_skip<|fx_blk<|n5 H
  exact vx_exit<|fx_seq_exit<|e3<|fx_blk_exit rfl<|fx_blk<|n2 H
 exact vx_exit<|fx_seq_exit<|e1<|fx_blk_exit rfl<|n0 H
def u83J0:Unit→Option (Int)
 | _ =>
 some (-1)
def u83L1 (v0:List Y176) (a1:Int) (a2:Int) (g1:Int→Option (Int)):Int→Option (Int)
 | v1 =>
 if (decide (v1 < (↑v0.length:Int)))=true then
  gd (ix v1 v0.length∧v1.toNat < v0.length∧(((v0.getD v1.toNat (dflt y176)).1==a1)=true∧True→ix v1 v0.length)∧(((v0.getD v1.toNat (dflt y176)).1==a1)=true∧True→v1.toNat < v0.length)∧True) <|
  if ((v0.getD v1.toNat (dflt y176)).1==a1&&(v0.getD v1.toNat (dflt y176)).2.1==a2)=true then
   some v1
  else
   gd (in64 (v1+1)∧True) <|
   g1 (v1+1)
 else
  u83J0 ()
def u83 (a0:Y42) (a1:Int) (a2:Int):Option (Int) :=
 gd ((u117 a0).isSome=true∧True)<|lt (vl (u117 a0)) fun v0 =>
 lp (u83L1 v0 a1 a2) 0
def k83:Ct:=lct 83 [.agg y42,.dat i64,.dat i64] (fun x=>u83 x.1 x.2.1 x.2.2.1) (fun r:Int=>I r) (fun _=>())
theorem o83:Ok Tryz.prog k83:=by
 refine okL [.tmp 6] Tryz.func83 Tryz.ntmps83 Tryz.results83 ?_
 intro y ⟨a0,a1,a2,_⟩ r H Q hn hr
 have:HT _ _:=⟨tc o117 tn⟩
 refine qA (Z [p 1 (J a1),p 2 (J a2),p 3 (R 3)] [(3,K 42 y42 a0)]) <|
  qD (fun v0=>Z [p 1 (J a1),p 2 (J a2),p 7 (O 10)] [(10,A 176 y176 v0 0),(3,K 42 y42 a0)]) H fun v0 H =>
  jN r (fun (_:Unit)=>Z [] []) (u83J0) (fun _ H=>?_) (fun _ n0 e0 t0=>?_)
 ·refine qA (Z [p 6 (I (-1))] []) <|
   vx_ret<|hr H
 refine qA (Z [p 1 (J a1),p 2 (J a2),p 7 (O 10),p 8 (I 0)] [(10,A 176 y176 v0 0),(3,K 42 y42 a0)]) <|
  vx_block <|
  lX (fun (v1:Int)=>Z [p 1 (J a1),p 2 (J a2),p 7 (O 10),p 8 (I v1)] [(10,A 176 y176 v0 0)]) 0 H fun _ g1 b1 e1 t1 v1 H =>
  vx_seq <|
  qA (Z [p 1 (J a1),p 2 (J a2),p 7 (O 10),p 8 (I v1),p 14 (B (decide (v1 < (↑v0.length:Int))))] [(10,A 176 y176 v0 0)]) <|
  cD H (fun H=>?_) (fun H=>?_)
 ·refine vx_skip<|fx_seq<|vx_seq<|vx_block <|
   qB (Z [p 1 (J a1),p 2 (J a2),p 7 (O 10),p 8 (I v1),p 32 (B ((v0.getD v1.toNat (dflt y176)).1==a1&&(v0.getD v1.toNat (dflt y176)).2.1==a2))] [(10,A 176 y176 v0 0)]) H fun H =>
   cD H (fun H=>?_) (fun H=>?_)
  ·refine qA (Z [p 6 (I v1)] [(10,A 176 y176 v0 0)]) <|
    vx_ret<|fx_blk_ret<|fx_seq_ret<|t1<|fx_blk_ret<|t0<|hr H
  refine vx_skip<|fx_blk<|fx_seq <|
   zB (Z [p 1 (J a1),p 2 (J a2),p 7 (O 10),p 8 (I (v1+1))] [(10,A 176 y176 v0 0)]) H fun H =>
   b1 H
 exact vx_exit<|fx_seq_exit<|e1<|fx_blk_exit rfl<|n0 H
def u39J5:List Y83→Option (List Y83)
 | v39 =>
 some v39
def u39J7 (v28:Int) (g6:Int×List Y83→Option (List Y83)):List Y83→Option (List Y83)
 | v38 =>
 gd (in64 (v28+1)∧True) <|
 g6 (v28+1,v38)
def u39L8 (v30:Int) (v31:List Int) (v28:Int) (g6:Int×List Y83→Option (List Y83)) (g8:Int×List Y83→Option (List Y83)):Int×List Y83→Option (List Y83)
 | (v34,v35) =>
 if (decide (v34 < (↑v31.length:Int)))=true then
  gd (ix v34 v31.length∧v34.toNat < v31.length∧(u85 v35 v30 (v31.getD v34.toNat 0) 0 0 2 v34).isSome=true∧True)<|lt (vl (u85 v35 v30 (v31.getD v34.toNat 0) 0 0 2 v34)) fun v36 =>
  gd (ix v34 v31.length∧v34.toNat < v31.length∧(u85 v36 v30 (v31.getD v34.toNat 0) 1 1 2 v34).isSome=true∧True)<|lt (vl (u85 v36 v30 (v31.getD v34.toNat 0) 1 1 2 v34)) fun v37 =>
  gd (in64 (v34+1)∧True) <|
  g8 (v34+1,v37)
 else
  u39J7 v28 g6 v35
def u39L6 (a0:Y45) (g6:Int×List Y83→Option (List Y83)):Int×List Y83→Option (List Y83)
 | (v28,v29) =>
 if (decide (v28 < (↑a0.2.1.2.1.length:Int)))=true then
  gd ((u84 a0.2.1 v28).isSome=true∧True)<|lt (vl (u84 a0.2.1 v28)) fun v30 =>
  gd ((u78 a0.2.1 v28).isSome=true∧True)<|lt (vl (u78 a0.2.1 v28)) fun v31 =>
  lp (u39L8 v30 v31 v28 g6) (0,v29)
 else
  u39J5 v29
def u39J0 (a0:Y45):List Y83→Option (List Y83)
 | v18 =>
 lp (u39L6 a0) (0,v18)
def u39J2 (v8:Int) (g1:Int×List Y83→Option (List Y83)):List Y83→Option (List Y83)
 | v17 =>
 gd (in64 (v8+1)∧True) <|
 g1 (v8+1,v17)
def u39J4 (v13:Int) (g3:Int×List Y83→Option (List Y83)):List Y83→Option (List Y83)
 | v16 =>
 gd (in64 (v13+1)∧True) <|
 g3 (v13+1,v16)
def u39L3 (v10:Y145) (a0:Y45) (v8:Int) (g1:Int×List Y83→Option (List Y83)) (g3:Int×List Y83→Option (List Y83)):Int×List Y83→Option (List Y83)
 | (v13,v14) =>
 if (decide (v13 < (↑v10.2.2.2.1.length:Int)))=true then
  gd (ix v13 v10.2.2.2.1.length∧True) <|
  if (decide ((v10.2.2.2.1.getD v13.toNat (dflt y102)).1≤3))=true then
   gd (ix v13 v10.2.2.2.1.length∧ix v13 v10.2.2.2.1.length∧(u83 a0.2.1 v8 (v10.2.2.2.1.getD v13.toNat (dflt y102)).2.1).isSome=true∧ix v13 v10.2.2.2.1.length∧(u83 a0.2.1 v8 (v10.2.2.2.1.getD v13.toNat (dflt y102)).2.2.1).isSome=true∧(u82 v14 (v10.2.2.2.1.getD v13.toNat (dflt y102)) (vl (u83 a0.2.1 v8 (v10.2.2.2.1.getD v13.toNat (dflt y102)).2.1)) (vl (u83 a0.2.1 v8 (v10.2.2.2.1.getD v13.toNat (dflt y102)).2.2.1)) v13).isSome=true∧True)<|lt (vl (u82 v14 (v10.2.2.2.1.getD v13.toNat (dflt y102)) (vl (u83 a0.2.1 v8 (v10.2.2.2.1.getD v13.toNat (dflt y102)).2.1)) (vl (u83 a0.2.1 v8 (v10.2.2.2.1.getD v13.toNat (dflt y102)).2.2.1)) v13)) fun v15 =>
   u39J4 v13 g3 v15
  else
   u39J4 v13 g3 v14
 else
  u39J2 v8 g1 v14
def u39L1 (a0:Y45) (g1:Int×List Y83→Option (List Y83)):Int×List Y83→Option (List Y83)
 | (v8,v9) =>
 if (decide (v8 < (↑a0.2.1.1.length:Int)))=true then
  gd (ix v8 a0.2.1.1.length∧ix (a0.2.1.1.getD v8.toNat (dflt y147)).2.1 a0.1.length∧True)<|lt (a0.1.getD (a0.2.1.1.getD v8.toNat (dflt y147)).2.1.toNat (dflt y145)) fun v10 =>
  lp (u39L3 v10 a0 v8 g1) (0,v9)
 else
  u39J0 a0 v9
def u39 (a0:Y45):Option (List Y83) :=
 lp (u39L1 a0) (0,[])
def k39:Ct:=lct 39 [.agg y45] (fun x=>u39 x.1) (fun r:List Y83=>AV.ow 83 true y83 r) (fun _=>())
theorem o39:Ok Tryz.prog k39:=by
 refine okL [.tmp 2] Tryz.func39 Tryz.ntmps39 Tryz.results39 ?_
 intro y ⟨a0,_⟩ r H Q hn hr
 have:HT _ _:=⟨tc o85 (tc o78 (tc o84 (tc o82 (tc o83 tn))))⟩
 refine qA (Z [p 1 (R 1)] [(1,K 45 y45 a0)]) <|
  qA (Z [p 1 (R 1),p 3 (O 12)] [(12,A 83 y83 [] 0),(1,K 45 y45 a0)]) <|
  qA (Z [p 1 (R 1),p 3 (O 12),p 4 (R 4)] [(4,K 42 y42 a0.2.1),(12,A 83 y83 [] 0),(1,K 45 y45 a0)]) <|
  jN r (fun (v18:List Y83)=>Z [p 3 (O 12),p 4 (R 4)] [(4,K 42 y42 a0.2.1),(12,A 83 y83 v18 0)]) (u39J0 a0) (fun v18 H=>?_) (fun _ n0 e0 t0=>?_)
 ·refine jN r (fun (v39:List Y83)=>Z [p 3 (O 12)] [(12,A 83 y83 v39 0)]) (u39J5) (fun v39 H=>?_) (fun _ n5 e5 t5=>?_)
  ·refine qA (Z [p 2 (O 12)] [(12,A 83 y83 v39 0)]) <|
    vx_ret<|hr H
  refine qA (Z [p 3 (O 12),p 4 (R 4),p 8 (I 0)] [(4,K 42 y42 a0.2.1),(12,A 83 y83 v18 0)]) <|
   vx_block <|
   lX (fun ((v28,v29):Int×List Y83)=>Z [p 3 (O 12),p 4 (R 4),p 8 (I v28)] [(4,K 42 y42 a0.2.1),(12,A 83 y83 v29 0)]) (0,v18) H fun _ g6 b6 e6 t6 ⟨v28,v29⟩ H =>
   vx_seq <|
   qA (Z [p 3 (O 12),p 4 (R 4),p 8 (I v28),p 73 (B (decide (v28 < (↑a0.2.1.2.1.length:Int))))] [(4,K 42 y42 a0.2.1),(12,A 83 y83 v29 0)]) <|
   cD H (fun H=>?_) (fun H=>?_)
  ·refine vx_skip<|fx_seq <|
    jN r (fun (v38:List Y83)=>Z [p 3 (O 12),p 4 (R 4),p 8 (I v28)] [(4,K 42 y42 a0.2.1),(12,A 83 y83 v38 0)]) (u39J7 v28 g6) (fun v38 H=>?_) (fun _ n7 e7 t7=>?_)
   ·refine zB (Z [p 3 (O 12),p 4 (R 4),p 8 (I (v28+1))] [(4,K 42 y42 a0.2.1),(12,A 83 y83 v38 0)]) H fun H =>
     b6 H
   refine vx_block <|
    qD (fun v30=>Z [p 3 (O 12),p 4 (R 4),p 8 (I v28),p 9 (I v30)] [(4,K 42 y42 a0.2.1),(12,A 83 y83 v29 0)]) H fun v30 H =>
    qD (fun v31=>Z [p 3 (O 12),p 4 (R 4),p 8 (I v28),p 9 (I v30),p 10 (O 81)] [(81,A 2 i64 v31 0),(4,K 42 y42 a0.2.1),(12,A 83 y83 v29 0)]) H fun v31 H =>
    qA (Z [p 3 (O 12),p 4 (R 4),p 8 (I v28),p 9 (I v30),p 10 (O 81),p 11 (I 0)] [(81,A 2 i64 v31 0),(4,K 42 y42 a0.2.1),(12,A 83 y83 v29 0)]) <|
    vx_block <|
    lX (fun ((v34,v35):Int×List Y83)=>Z [p 3 (O 12),p 4 (R 4),p 8 (I v28),p 9 (I v30),p 10 (O 81),p 11 (I v34)] [(81,A 2 i64 v31 0),(4,K 42 y42 a0.2.1),(12,A 83 y83 v35 0)]) (0,v29) H fun _ g8 b8 e8 t8 ⟨v34,v35⟩ H =>
    vx_seq <|
    qA (Z [p 3 (O 12),p 4 (R 4),p 8 (I v28),p 9 (I v30),p 10 (O 81),p 11 (I v34),p 85 (B (decide (v34 < (↑v31.length:Int))))] [(81,A 2 i64 v31 0),(4,K 42 y42 a0.2.1),(12,A 83 y83 v35 0)]) <|
    cD H (fun H=>?_) (fun H=>?_)
   ·refine vx_skip<|fx_seq<|vx_seq<|vx_block <|
     qD (fun v36=>Z [p 3 (AV.os 12 1),p 4 (R 4),p 8 (I v28),p 9 (I v30),p 10 (O 81),p 11 (I v34)] [(12,A 83 y83 v36 1),(81,A 2 i64 v31 0),(4,K 42 y42 a0.2.1)]) H fun v36 H =>
     zD (fun v37=>Z [p 3 (AV.os 12 2),p 4 (R 4),p 8 (I v28),p 9 (I v30),p 10 (O 81),p 11 (I v34)] [(12,A 83 y83 v37 2),(81,A 2 i64 v31 0),(4,K 42 y42 a0.2.1)]) H fun v37 H =>
     fx_blk<|fx_seq <|
     zB (Z [p 3 (AV.os 12 2),p 4 (R 4),p 8 (I v28),p 9 (I v30),p 10 (O 81),p 11 (I (v34+1))] [(12,A 83 y83 v37 2),(81,A 2 i64 v31 0),(4,K 42 y42 a0.2.1)]) H fun H =>
     b8 H
   exact vx_exit<|fx_seq_exit<|e8<|fx_blk_exit rfl<|fx_blk<|n7 H
  exact vx_exit<|fx_seq_exit<|e6<|fx_blk_exit rfl<|n5 H
 refine qA (Z [p 1 (R 1),p 3 (O 12),p 4 (R 4),p 5 (I 0)] [(4,K 42 y42 a0.2.1),(12,A 83 y83 [] 0),(1,K 45 y45 a0)]) <|
  vx_block <|
  lX (fun ((v8,v9):Int×List Y83)=>Z [p 1 (R 1),p 3 (O 12),p 4 (R 4),p 5 (I v8)] [(4,K 42 y42 a0.2.1),(12,A 83 y83 v9 0),(1,K 45 y45 a0)]) (0,[]) H fun _ g1 b1 e1 t1 ⟨v8,v9⟩ H =>
  vx_seq <|
  qA (Z [p 1 (R 1),p 3 (O 12),p 4 (R 4),p 5 (I v8),p 19 (B (decide (v8 < (↑a0.2.1.1.length:Int))))] [(4,K 42 y42 a0.2.1),(12,A 83 y83 v9 0),(1,K 45 y45 a0)]) <|
  cD H (fun H=>?_) (fun H=>?_)
 ·refine vx_skip<|fx_seq <|
   jN r (fun (v17:List Y83)=>Z [p 1 (R 1),p 3 (O 12),p 4 (R 4),p 5 (I v8)] [(4,K 42 y42 a0.2.1),(12,A 83 y83 v17 0),(1,K 45 y45 a0)]) (u39J2 v8 g1) (fun v17 H=>?_) (fun _ n2 e2 t2=>?_)
  ·refine zB (Z [p 1 (R 1),p 3 (O 12),p 4 (R 4),p 5 (I (v8+1))] [(4,K 42 y42 a0.2.1),(12,A 83 y83 v17 0),(1,K 45 y45 a0)]) H fun H =>
    b1 H
  refine vx_block <|
   qD (fun v10=>Z [p 1 (R 1),p 3 (O 12),p 4 (R 4),p 5 (I v8),p 6 (L y102 v10.2.2.2.1)] [(4,K 42 y42 a0.2.1),(12,A 83 y83 v9 0),(1,K 45 y45 a0)]) H fun v10 H =>
   qA (Z [p 1 (R 1),p 3 (O 12),p 4 (R 4),p 5 (I v8),p 6 (L y102 v10.2.2.2.1),p 7 (I 0)] [(4,K 42 y42 a0.2.1),(12,A 83 y83 v9 0),(1,K 45 y45 a0)]) <|
   vx_block <|
   lX (fun ((v13,v14):Int×List Y83)=>Z [p 1 (R 1),p 3 (O 12),p 4 (R 4),p 5 (I v8),p 6 (L y102 v10.2.2.2.1),p 7 (I v13)] [(4,K 42 y42 a0.2.1),(12,A 83 y83 v14 0),(1,K 45 y45 a0)]) (0,v9) H fun _ g3 b3 e3 t3 ⟨v13,v14⟩ H =>
   vx_seq <|
   qA (Z [p 1 (R 1),p 3 (O 12),p 4 (R 4),p 5 (I v8),p 6 (L y102 v10.2.2.2.1),p 7 (I v13),p 37 (B (decide (v13 < (↑v10.2.2.2.1.length:Int))))] [(4,K 42 y42 a0.2.1),(12,A 83 y83 v14 0),(1,K 45 y45 a0)]) <|
   cD H (fun H=>?_) (fun H=>?_)
  ·refine vx_skip<|fx_seq <|
    jN r (fun (v16:List Y83)=>Z [p 1 (R 1),p 3 (O 12),p 4 (R 4),p 5 (I v8),p 6 (L y102 v10.2.2.2.1),p 7 (I v13)] [(12,A 83 y83 v16 0),(4,K 42 y42 a0.2.1),(1,K 45 y45 a0)]) (u39J4 v13 g3) (fun v16 H=>?_) (fun _ n4 e4 t4=>?_)
   ·refine zB (Z [p 1 (R 1),p 3 (O 12),p 4 (R 4),p 5 (I v8),p 6 (L y102 v10.2.2.2.1),p 7 (I (v13+1))] [(12,A 83 y83 v16 0),(4,K 42 y42 a0.2.1),(1,K 45 y45 a0)]) H fun H =>
     b3 H
   refine vx_block <|
    qB (Z [p 1 (R 1),p 3 (O 12),p 4 (R 4),p 5 (I v8),p 6 (L y102 v10.2.2.2.1),p 7 (I v13),p 45 (B (decide ((v10.2.2.2.1.getD v13.toNat (dflt y102)).1≤3)))] [(4,K 42 y42 a0.2.1),(12,A 83 y83 v14 0),(1,K 45 y45 a0)]) H fun H =>
    cD H (fun H=>?_) (fun H=>?_)
   ·refine zD (fun v15=>Z [p 1 (R 1),p 3 (AV.os 12 1),p 4 (R 4),p 5 (I v8),p 6 (L y102 v10.2.2.2.1),p 7 (I v13)] [(12,A 83 y83 v15 1),(4,K 42 y42 a0.2.1),(1,K 45 y45 a0)]) H fun v15 H =>
     fx_blk<|n4 H
   exact vx_skip<|fx_blk<|n4 H
  exact vx_exit<|fx_seq_exit<|e3<|fx_blk_exit rfl<|fx_blk<|n2 H
 exact vx_exit<|fx_seq_exit<|e1<|fx_blk_exit rfl<|n0 H
def u59 (a0:Int):Option (Bool) :=
 some (a0==0||a0==1)
def u56 (a0:Int) (a1:Int) (a2:Int):Option (Bool) :=
 some (decide (a1≤a0)&&decide (a0≤a2))
def k56:Ct:=lct 56 [.dat i64,.dat i64,.dat i64] (fun x=>u56 x.1 x.2.1 x.2.2.1) (fun r:Bool=>B r) (fun _=>())
theorem o56:Ok Tryz.prog k56:=by
 refine okL [.tmp 6] Tryz.func56 Tryz.ntmps56 Tryz.results56 ?_
 intro y ⟨a0,a1,a2,_⟩ r H Q hn hr
 have:HT _ _:=⟨@tn Tryz.prog⟩
 refine qA (Z [p 0 (J a0),p 1 (J a1),p 2 (J a2)] []) <|
  qA (Z [p 6 (B (decide (a1≤a0)&&decide (a0≤a2)))] []) <|
  vx_ret<|hr H
def u37 (a0:Y45) (a1:Int) (a2:Int) (a3:Int):Option (Int) :=
 gd ((u39 a0).isSome=true∧in64 ((↑(vl (u39 a0)).length:Int) - 1)∧(u56 a1 0 ((↑(vl (u39 a0)).length:Int) - 1)).isSome=true∧True)<|lt (vl (u39 a0)) fun v0 =>
 if (!vl (u56 a1 0 ((↑v0.length:Int) - 1)))=true then
  some 4
 else
  gd ((u56 a2 0 1000000).isSome=true∧((!vl (u56 a2 0 1000000))=false∧True→(u59 a3).isSome=true)∧True) <|
  if (!vl (u56 a2 0 1000000)||!vl (u59 a3))=true then
   some 2
  else
   some 0
def u77J2:Unit→Option (Bool)
 | _ =>
 some true
def u77L3 (a0:Y137) (g3:Int→Option (Bool)):Int→Option (Bool)
 | v1 =>
 if (decide (v1 < (↑a0.2.2.2.length:Int)))=true then
  gd (ix v1 a0.2.2.2.length∧in64 ((↑a0.1.length:Int) - 1)∧(u56 (a0.2.2.2.getD v1.toNat 0) 0 ((↑a0.1.length:Int) - 1)).isSome=true∧True) <|
  if (!vl (u56 (a0.2.2.2.getD v1.toNat 0) 0 ((↑a0.1.length:Int) - 1)))=true then
   some false
  else
   gd (in64 (v1+1)∧True) <|
   g3 (v1+1)
 else
  u77J2 ()
def u77J0 (a0:Y137):Unit→Option (Bool)
 | _ =>
 lp (u77L3 a0) 0
def u77L1 (a0:Y137) (g1:Int→Option (Bool)):Int→Option (Bool)
 | v0 =>
 if (decide (v0 < (↑a0.1.length:Int)))=true then
  gd (ix v0 a0.2.2.1.length∧(u56 (a0.2.2.1.getD v0.toNat 0) 0 500).isSome=true∧((!vl (u56 (a0.2.2.1.getD v0.toNat 0) 0 500))=false∧True→ix v0 a0.2.1.length)∧((!vl (u56 (a0.2.2.1.getD v0.toNat 0) 0 500))=false∧True→(u56 (a0.2.1.getD v0.toNat 0) 0 1000).isSome=true)∧True) <|
  if (!vl (u56 (a0.2.2.1.getD v0.toNat 0) 0 500)||!vl (u56 (a0.2.1.getD v0.toNat 0) 0 1000))=true then
   some false
  else
   gd (((v0==0)=true∧True→ix v0 a0.1.length)∧((a0.1.getD v0.toNat 0 != -1)=false∧(v0==0)=true∧True→ix v0 a0.2.1.length)∧(decide (0 < v0)=true∧(v0==0&&(a0.1.getD v0.toNat 0 != -1||a0.2.1.getD v0.toNat 0 != 0))=false∧True→ix v0 a0.1.length)∧(decide (0 < v0)=true∧(v0==0&&(a0.1.getD v0.toNat 0 != -1||a0.2.1.getD v0.toNat 0 != 0))=false∧True→in64 (v0 - 1))∧(decide (0 < v0)=true∧(v0==0&&(a0.1.getD v0.toNat 0 != -1||a0.2.1.getD v0.toNat 0 != 0))=false∧True→(u56 (a0.1.getD v0.toNat 0) 0 (v0 - 1)).isSome=true)∧True) <|
   if (v0==0&&(a0.1.getD v0.toNat 0 != -1||a0.2.1.getD v0.toNat 0 != 0)||decide (0 < v0)&&!vl (u56 (a0.1.getD v0.toNat 0) 0 (v0 - 1)))=true then
    some false
   else
    gd (in64 (v0+1)∧True) <|
    g1 (v0+1)
 else
  u77J0 a0 ()
def u77 (a0:Y137) (a1:Int):Option (Bool) :=
 if (decide ((↑a0.1.length:Int) < 1)||decide (8 < (↑a0.1.length:Int))||(↑a0.2.1.length:Int) != (↑a0.1.length:Int)||(↑a0.2.2.1.length:Int) != (↑a0.1.length:Int)||(↑a0.2.2.2.length:Int) != a1)=true then
  some false
 else
  lp (u77L1 a0) 0
def k77:Ct:=lct 77 [.agg y137,.dat i64] (fun x=>u77 x.1 x.2.1) (fun r:Bool=>B r) (fun _=>())
theorem o77:Ok Tryz.prog k77:=by
 refine okL [.tmp 4] Tryz.func77 Tryz.ntmps77 Tryz.results77 ?_
 intro y ⟨a0,a1,_⟩ r H Q hn hr
 have:HT _ _:=⟨tc o56 tn⟩
 refine qA (Z [p 1 (J a1),p 2 (R 2)] [(2,K 137 y137 a0)]) <|
  qA (Z [p 1 (J a1),p 2 (R 2),p 5 (I (↑a0.1.length:Int))] [(2,K 137 y137 a0)]) <|
  vx_seq <|
  qA (Z [p 2 (R 2),p 5 (I (↑a0.1.length:Int)),p 37 (B (decide ((↑a0.1.length:Int) < 1)||decide (8 < (↑a0.1.length:Int))||(↑a0.2.1.length:Int) != (↑a0.1.length:Int)||(↑a0.2.2.1.length:Int) != (↑a0.1.length:Int)||(↑a0.2.2.2.length:Int) != a1))] [(2,K 137 y137 a0)]) <|
  cD H (fun H=>?_) (fun H=>?_)
 ·refine qA (Z [p 4 (B false)] [(2,K 137 y137 a0)]) <|
   vx_ret<|fx_seq_ret<|hr H
 refine vx_skip<|fx_seq <|
  jN r (fun (_:Unit)=>Z [p 2 (R 2),p 5 (I (↑a0.1.length:Int))] [(2,K 137 y137 a0)]) (u77J0 a0) (fun _ H=>?_) (fun _ n0 e0 t0=>?_)
 ·refine jN r (fun (_:Unit)=>Z [] []) (u77J2) (fun _ H=>?_) (fun _ n2 e2 t2=>?_)
  ·refine qA (Z [p 4 (B true)] []) <|
    vx_ret<|hr H
  refine qA (Z [p 2 (R 2),p 5 (I (↑a0.1.length:Int)),p 7 (I 0)] [(2,K 137 y137 a0)]) <|
   vx_block <|
   lX (fun (v1:Int)=>Z [p 2 (R 2),p 5 (I (↑a0.1.length:Int)),p 7 (I v1)] [(2,K 137 y137 a0)]) 0 H fun _ g3 b3 e3 t3 v1 H =>
   vx_seq <|
   qA (Z [p 2 (R 2),p 5 (I (↑a0.1.length:Int)),p 7 (I v1),p 96 (B (decide (v1 < (↑a0.2.2.2.length:Int))))] [(2,K 137 y137 a0)]) <|
   cD H (fun H=>?_) (fun H=>?_)
  ·refine vx_skip<|fx_seq<|vx_seq<|vx_block <|
    qB (Z [p 2 (R 2),p 5 (I (↑a0.1.length:Int)),p 7 (I v1),p 107 (B !vl (u56 (a0.2.2.2.getD v1.toNat 0) 0 ((↑a0.1.length:Int) - 1)))] [(2,K 137 y137 a0)]) H fun H =>
    cD H (fun H=>?_) (fun H=>?_)
   ·refine qA (Z [p 4 (B false)] [(2,K 137 y137 a0)]) <|
     vx_ret<|fx_blk_ret<|fx_seq_ret<|t3<|fx_blk_ret<|t2<|hr H
   refine vx_skip<|fx_blk<|fx_seq <|
    zB (Z [p 2 (R 2),p 5 (I (↑a0.1.length:Int)),p 7 (I (v1+1))] [(2,K 137 y137 a0)]) H fun H =>
    b3 H
  exact vx_exit<|fx_seq_exit<|e3<|fx_blk_exit rfl<|n2 H
 refine qA (Z [p 2 (R 2),p 5 (I (↑a0.1.length:Int)),p 6 (I 0)] [(2,K 137 y137 a0)]) <|
  vx_block <|
  lX (fun (v0:Int)=>Z [p 2 (R 2),p 5 (I (↑a0.1.length:Int)),p 6 (I v0)] [(2,K 137 y137 a0)]) 0 H fun _ g1 b1 e1 t1 v0 H =>
  vx_seq <|
  qA (Z [p 2 (R 2),p 5 (I (↑a0.1.length:Int)),p 6 (I v0),p 40 (B (decide (v0 < (↑a0.1.length:Int))))] [(2,K 137 y137 a0)]) <|
  cD H (fun H=>?_) (fun H=>?_)
 ·refine vx_skip<|fx_seq<|vx_seq<|vx_block<|vx_seq <|
   qB (Z [p 2 (R 2),p 5 (I (↑a0.1.length:Int)),p 6 (I v0),p 58 (B (!vl (u56 (a0.2.2.1.getD v0.toNat 0) 0 500)||!vl (u56 (a0.2.1.getD v0.toNat 0) 0 1000)))] [(2,K 137 y137 a0)]) H fun H =>
   cD H (fun H=>?_) (fun H=>?_)
  ·refine qA (Z [p 4 (B false)] [(2,K 137 y137 a0)]) <|
    vx_ret<|fx_seq_ret<|fx_blk_ret<|fx_seq_ret<|t1<|fx_blk_ret<|t0<|hr H
  refine vx_skip<|fx_seq <|
   qB (Z [p 2 (R 2),p 5 (I (↑a0.1.length:Int)),p 6 (I v0),p 91 (B (v0==0&&(a0.1.getD v0.toNat 0 != -1||a0.2.1.getD v0.toNat 0 != 0)||decide (0 < v0)&&!vl (u56 (a0.1.getD v0.toNat 0) 0 (v0 - 1))))] [(2,K 137 y137 a0)]) H fun H =>
   cD H (fun H=>?_) (fun H=>?_)
  ·refine qA (Z [p 4 (B false)] [(2,K 137 y137 a0)]) <|
    vx_ret<|fx_blk_ret<|fx_seq_ret<|t1<|fx_blk_ret<|t0<|hr H
  refine vx_skip<|fx_blk<|fx_seq <|
   zB (Z [p 2 (R 2),p 5 (I (↑a0.1.length:Int)),p 6 (I (v0+1))] [(2,K 137 y137 a0)]) H fun H =>
   b1 H
 exact vx_exit<|fx_seq_exit<|e1<|fx_blk_exit rfl<|n0 H
def u108J0 (a0:ByteArray):Unit→Option (Bool)
 | _ =>
 some (decide (1≤(↑a0.size:Int))&&decide ((↑a0.size:Int)≤8))
def u108L1 (a0:ByteArray) (g1:Int→Option (Bool)):Int→Option (Bool)
 | v0 =>
 if (decide (v0 < (↑a0.size:Int)))=true then
  gd (ix v0 a0.size∧(decide (97≤byteAt a0 v0.toNat)=true∧True→ix v0 a0.size)∧True) <|
  gd (ix v0 a0.size∧(decide (48≤byteAt a0 v0.toNat)=true∧True→ix v0 a0.size)∧True) <|
  if (!(decide (97≤byteAt a0 v0.toNat)&&decide (byteAt a0 v0.toNat≤122))&&!(decide (48≤byteAt a0 v0.toNat)&&decide (byteAt a0 v0.toNat≤57)&&decide (0 < v0)))=true then
   some false
  else
   gd (in64 (v0+1)∧True) <|
   g1 (v0+1)
 else
  u108J0 a0 ()
def u108 (a0:ByteArray):Option (Bool) :=
 lp (u108L1 a0) 0
def k108:Ct:=lct 108 [.dat Ty.str] (fun x=>u108 x.1) (fun r:Bool=>B r) (fun _=>())
theorem o108:Ok Tryz.prog k108:=by
 refine okL [.tmp 2] Tryz.func108 Tryz.ntmps108 Tryz.results108 ?_
 intro y ⟨a0,_⟩ r H Q hn hr
 have:HT _ _:=⟨@tn Tryz.prog⟩
 refine qA (Z [p 0 (U a0)] []) <|
  jN r (fun (_:Unit)=>Z [p 0 (U a0)] []) (u108J0 a0) (fun _ H=>?_) (fun _ n0 e0 t0=>?_)
 ·refine qA (Z [p 2 (B (decide (1≤(↑a0.size:Int))&&decide ((↑a0.size:Int)≤8)))] []) <|
   vx_ret<|hr H
 refine qA (Z [p 0 (U a0),p 3 (I 0)] []) <|
  vx_block <|
  lX (fun (v0:Int)=>Z [p 0 (U a0),p 3 (I v0)] []) 0 H fun _ g1 b1 e1 t1 v0 H =>
  vx_seq <|
  qA (Z [p 0 (U a0),p 3 (I v0),p 9 (B (decide (v0 < (↑a0.size:Int))))] []) <|
  cD H (fun H=>?_) (fun H=>?_)
 ·refine vx_skip<|fx_seq<|vx_seq<|vx_block <|
   qB (Z [p 0 (U a0),p 3 (I v0),p 4 (B (decide (97≤byteAt a0 v0.toNat)&&decide (byteAt a0 v0.toNat≤122)))] []) H fun H =>
   qB (Z [p 0 (U a0),p 3 (I v0),p 4 (B (decide (97≤byteAt a0 v0.toNat)&&decide (byteAt a0 v0.toNat≤122))),p 5 (B (decide (48≤byteAt a0 v0.toNat)&&decide (byteAt a0 v0.toNat≤57)))] []) H fun H =>
   qA (Z [p 0 (U a0),p 3 (I v0),p 41 (B (!(decide (97≤byteAt a0 v0.toNat)&&decide (byteAt a0 v0.toNat≤122))&&!(decide (48≤byteAt a0 v0.toNat)&&decide (byteAt a0 v0.toNat≤57)&&decide (0 < v0))))] []) <|
   cD H (fun H=>?_) (fun H=>?_)
  ·refine qA (Z [p 2 (B false)] []) <|
    vx_ret<|fx_blk_ret<|fx_seq_ret<|t1<|fx_blk_ret<|t0<|hr H
  refine vx_skip<|fx_blk<|fx_seq <|
   zB (Z [p 0 (U a0),p 3 (I (v0+1))] []) H fun H =>
   b1 H
 exact vx_exit<|fx_seq_exit<|e1<|fx_blk_exit rfl<|n0 H
def u133J0:Unit→Option (Bool)
 | _ =>
 some true
def u133J2 (v1:Int) (g1:Int→Option (Bool)):Unit→Option (Bool)
 | _ =>
 gd (in64 (v1+1)∧True) <|
 g1 (v1+1)
def u133L3 (a0:List ByteArray) (v1:Int) (g1:Int→Option (Bool)) (g3:Int→Option (Bool)):Int→Option (Bool)
 | v2 =>
 if (decide (v2 < v1))=true then
  gd (ix v2 a0.length∧ix v1 a0.length∧True) <|
  if (decide (a0.getD v2.toNat (dflt Ty.str)=a0.getD v1.toNat (dflt Ty.str)))=true then
   some false
  else
   gd (in64 (v2+1)∧True) <|
   g3 (v2+1)
 else
  u133J2 v1 g1 ()
def u133L1 (a0:List ByteArray) (g1:Int→Option (Bool)):Int→Option (Bool)
 | v1 =>
 if (decide (v1 < (↑a0.length:Int)))=true then
  gd (ix v1 a0.length∧(u108 (a0.getD v1.toNat (dflt Ty.str))).isSome=true∧True) <|
  if (!vl (u108 (a0.getD v1.toNat (dflt Ty.str))))=true then
   some false
  else
   lp (u133L3 a0 v1 g1) 0
 else
  u133J0 ()
def u133 (a0:List ByteArray):Option (Bool) :=
 lp (u133L1 a0) 0
def k133:Ct:=lct 133 [.dat Ty.str.sl] (fun x=>u133 x.1) (fun r:Bool=>B r) (fun _=>())
theorem o133:Ok Tryz.prog k133:=by
 refine okL [.tmp 2] Tryz.func133 Tryz.ntmps133 Tryz.results133 ?_
 intro y ⟨a0,_⟩ r H Q hn hr
 have:HT _ _:=⟨tc o108 tn⟩
 refine qA (Z [p 0 (L Ty.str a0)] []) <|
  jN r (fun (_:Unit)=>Z [] []) (u133J0) (fun _ H=>?_) (fun _ n0 e0 t0=>?_)
 ·refine qA (Z [p 2 (B true)] []) <|
   vx_ret<|hr H
 refine qA (Z [p 0 (L Ty.str a0),p 3 (I 0)] []) <|
  vx_block <|
  lX (fun (v1:Int)=>Z [p 0 (L Ty.str a0),p 3 (I v1)] []) 0 H fun _ g1 b1 e1 t1 v1 H =>
  vx_seq <|
  qA (Z [p 0 (L Ty.str a0),p 3 (I v1),p 8 (B (decide (v1 < (↑a0.length:Int))))] []) <|
  cD H (fun H=>?_) (fun H=>?_)
 ·refine vx_skip<|fx_seq <|
   jN r (fun (_:Unit)=>Z [p 0 (L Ty.str a0),p 3 (I v1)] []) (u133J2 v1 g1) (fun _ H=>?_) (fun _ n2 e2 t2=>?_)
  ·refine zB (Z [p 0 (L Ty.str a0),p 3 (I (v1+1))] []) H fun H =>
    b1 H
  refine vx_block<|vx_seq <|
   qB (Z [p 0 (L Ty.str a0),p 3 (I v1),p 16 (B !vl (u108 (a0.getD v1.toNat (dflt Ty.str))))] []) H fun H =>
   cD H (fun H=>?_) (fun H=>?_)
  ·refine qA (Z [p 2 (B false)] []) <|
    vx_ret<|fx_seq_ret<|fx_blk_ret<|t2<|t1<|fx_blk_ret<|t0<|hr H
  refine vx_skip<|fx_seq <|
   qA (Z [p 0 (L Ty.str a0),p 3 (I v1),p 4 (I 0)] []) <|
   vx_block <|
   lX (fun (v2:Int)=>Z [p 0 (L Ty.str a0),p 3 (I v1),p 4 (I v2)] []) 0 H fun _ g3 b3 e3 t3 v2 H =>
   vx_seq <|
   qA (Z [p 0 (L Ty.str a0),p 3 (I v1),p 4 (I v2),p 19 (B (decide (v2 < v1)))] []) <|
   cD H (fun H=>?_) (fun H=>?_)
  ·refine vx_skip<|fx_seq<|vx_seq<|vx_block <|
    qB (Z [p 0 (L Ty.str a0),p 3 (I v1),p 4 (I v2),p 30 (B (decide (a0.getD v2.toNat (dflt Ty.str)=a0.getD v1.toNat (dflt Ty.str))))] []) H fun H =>
    cD H (fun H=>?_) (fun H=>?_)
   ·refine qA (Z [p 2 (B false)] []) <|
     vx_ret<|fx_blk_ret<|fx_seq_ret<|t3<|fx_blk_ret<|fx_blk_ret<|t2<|t1<|fx_blk_ret<|t0<|hr H
   refine vx_skip<|fx_blk<|fx_seq <|
    zB (Z [p 0 (L Ty.str a0),p 3 (I v1),p 4 (I (v2+1))] []) H fun H =>
    b3 H
  exact vx_exit<|fx_seq_exit<|e3<|fx_blk_exit rfl<|fx_blk<|n2 H
 exact vx_exit<|fx_seq_exit<|e1<|fx_blk_exit rfl<|n0 H
def u132J4:Unit→Option (Bool)
 | _ =>
 some true
def u132L5 (a1:Y42) (g5:Int→Option (Bool)):Int→Option (Bool)
 | v5 =>
 if (decide (v5 < (↑a1.2.2.length:Int)))=true then
  gd (ix v5 a1.2.2.length∧(u56 (a1.2.2.getD v5.toNat (dflt y199)).2.1 1 2).isSome=true∧((!vl (u56 (a1.2.2.getD v5.toNat (dflt y199)).2.1 1 2))=false∧True→ix v5 a1.2.2.length)∧((!vl (u56 (a1.2.2.getD v5.toNat (dflt y199)).2.1 1 2))=false∧True→in64 ((↑a1.2.1.length:Int) - 1))∧((!vl (u56 (a1.2.2.getD v5.toNat (dflt y199)).2.1 1 2))=false∧True→(u56 (a1.2.2.getD v5.toNat (dflt y199)).2.2 0 ((↑a1.2.1.length:Int) - 1)).isSome=true)∧True) <|
  if (!vl (u56 (a1.2.2.getD v5.toNat (dflt y199)).2.1 1 2)||!vl (u56 (a1.2.2.getD v5.toNat (dflt y199)).2.2 0 ((↑a1.2.1.length:Int) - 1)))=true then
   some false
  else
   gd (in64 (v5+1)∧True) <|
   g5 (v5+1)
 else
  u132J4 ()
def u132J0 (a1:Y42):Unit→Option (Bool)
 | _ =>
 lp (u132L5 a1) 0
def u132J2 (v2:Int) (g1:Int→Option (Bool)):Unit→Option (Bool)
 | _ =>
 gd (in64 (v2+1)∧True) <|
 g1 (v2+1)
def u132L3 (v3:Y147) (a1:Y42) (v2:Int) (g1:Int→Option (Bool)) (g3:Int→Option (Bool)):Int→Option (Bool)
 | v4 =>
 if (decide (v4 < (↑v3.2.2.length:Int)))=true then
  gd (ix v4 v3.2.2.length∧in64 ((↑a1.2.1.length:Int) - 1)∧(u56 (v3.2.2.getD v4.toNat 0) 0 ((↑a1.2.1.length:Int) - 1)).isSome=true∧True) <|
  if (!vl (u56 (v3.2.2.getD v4.toNat 0) 0 ((↑a1.2.1.length:Int) - 1)))=true then
   some false
  else
   gd (in64 (v4+1)∧True) <|
   g3 (v4+1)
 else
  u132J2 v2 g1 ()
def u132L1 (a1:Y42) (a0:List Y145) (g1:Int→Option (Bool)):Int→Option (Bool)
 | v2 =>
 if (decide (v2 < (↑a1.1.length:Int)))=true then
  gd (ix v2 a1.1.length∧True)<|lt (a1.1.getD v2.toNat (dflt y147)) fun v3 =>
  gd (in64 ((↑a0.length:Int) - 1)∧(u56 v3.2.1 0 ((↑a0.length:Int) - 1)).isSome=true∧((!vl (u56 v3.2.1 0 ((↑a0.length:Int) - 1)))=false∧True→ix v3.2.1 a0.length)∧True) <|
  if (!vl (u56 v3.2.1 0 ((↑a0.length:Int) - 1))||(↑v3.2.2.length:Int) != (↑(a0.getD v3.2.1.toNat (dflt y145)).2.2.1.length:Int))=true then
   some false
  else
   lp (u132L3 v3 a1 v2 g1) 0
 else
  u132J0 a1 ()
def u132 (a0:List Y145) (a1:Y42):Option (Bool) :=
 lp (u132L1 a1 a0) 0
def k132:Ct:=lct 132 [.agg y145.sl,.agg y42] (fun x=>u132 x.1 x.2.1) (fun r:Bool=>B r) (fun _=>())
theorem o132:Ok Tryz.prog k132:=by
 refine okL [.tmp 4] Tryz.func132 Tryz.ntmps132 Tryz.results132 ?_
 intro y ⟨a0,a1,_⟩ r H Q hn hr
 have:HT _ _:=⟨tc o56 tn⟩
 refine qA (Z [p 2 (R 2),p 3 (R 3)] [(3,K 42 y42 a1),(2,Ob.box 38 [L y145 a0])]) <|
  qA (Z [p 2 (R 2),p 3 (R 3),p 5 (I (↑a1.2.1.length:Int))] [(3,K 42 y42 a1),(2,Ob.box 38 [L y145 a0])]) <|
  jN r (fun (_:Unit)=>Z [p 3 (R 3),p 5 (I (↑a1.2.1.length:Int))] [(3,K 42 y42 a1)]) (u132J0 a1) (fun _ H=>?_) (fun _ n0 e0 t0=>?_)
 ·refine jN r (fun (_:Unit)=>Z [] []) (u132J4) (fun _ H=>?_) (fun _ n4 e4 t4=>?_)
  ·refine qA (Z [p 4 (B true)] []) <|
    vx_ret<|hr H
  refine qA (Z [p 3 (R 3),p 5 (I (↑a1.2.1.length:Int)),p 9 (I 0)] [(3,K 42 y42 a1)]) <|
   vx_block <|
   lX (fun (v5:Int)=>Z [p 3 (R 3),p 5 (I (↑a1.2.1.length:Int)),p 9 (I v5)] [(3,K 42 y42 a1)]) 0 H fun _ g5 b5 e5 t5 v5 H =>
   vx_seq <|
   qA (Z [p 3 (R 3),p 5 (I (↑a1.2.1.length:Int)),p 9 (I v5),p 67 (B (decide (v5 < (↑a1.2.2.length:Int))))] [(3,K 42 y42 a1)]) <|
   cD H (fun H=>?_) (fun H=>?_)
  ·refine vx_skip<|fx_seq<|vx_seq<|vx_block <|
    qB (Z [p 3 (R 3),p 5 (I (↑a1.2.1.length:Int)),p 9 (I v5),p 89 (B (!vl (u56 (a1.2.2.getD v5.toNat (dflt y199)).2.1 1 2)||!vl (u56 (a1.2.2.getD v5.toNat (dflt y199)).2.2 0 ((↑a1.2.1.length:Int) - 1))))] [(3,K 42 y42 a1)]) H fun H =>
    cD H (fun H=>?_) (fun H=>?_)
   ·refine qA (Z [p 4 (B false)] [(3,K 42 y42 a1)]) <|
     vx_ret<|fx_blk_ret<|fx_seq_ret<|t5<|fx_blk_ret<|t4<|hr H
   refine vx_skip<|fx_blk<|fx_seq <|
    zB (Z [p 3 (R 3),p 5 (I (↑a1.2.1.length:Int)),p 9 (I (v5+1))] [(3,K 42 y42 a1)]) H fun H =>
    b5 H
  exact vx_exit<|fx_seq_exit<|e5<|fx_blk_exit rfl<|n4 H
 refine qA (Z [p 2 (R 2),p 3 (R 3),p 5 (I (↑a1.2.1.length:Int)),p 6 (I 0)] [(3,K 42 y42 a1),(2,Ob.box 38 [L y145 a0])]) <|
  vx_block <|
  lX (fun (v2:Int)=>Z [p 2 (R 2),p 3 (R 3),p 5 (I (↑a1.2.1.length:Int)),p 6 (I v2)] [(3,K 42 y42 a1),(2,Ob.box 38 [L y145 a0])]) 0 H fun _ g1 b1 e1 t1 v2 H =>
  vx_seq <|
  qA (Z [p 2 (R 2),p 3 (R 3),p 5 (I (↑a1.2.1.length:Int)),p 6 (I v2),p 17 (B (decide (v2 < (↑a1.1.length:Int))))] [(3,K 42 y42 a1),(2,Ob.box 38 [L y145 a0])]) <|
  cD H (fun H=>?_) (fun H=>?_)
 ·refine vx_skip<|fx_seq <|
   jN r (fun (_:Unit)=>Z [p 2 (R 2),p 3 (R 3),p 5 (I (↑a1.2.1.length:Int)),p 6 (I v2)] [(3,K 42 y42 a1),(2,Ob.box 38 [L y145 a0])]) (u132J2 v2 g1) (fun _ H=>?_) (fun _ n2 e2 t2=>?_)
  ·refine zB (Z [p 2 (R 2),p 3 (R 3),p 5 (I (↑a1.2.1.length:Int)),p 6 (I (v2+1))] [(3,K 42 y42 a1),(2,Ob.box 38 [L y145 a0])]) H fun H =>
    b1 H
  refine vx_block <|
   qD (fun v3=>Z [p 2 (R 2),p 3 (R 3),p 5 (I (↑a1.2.1.length:Int)),p 6 (I v2),p 7 (R 7)] [(7,K 147 y147 v3),(3,K 42 y42 a1),(2,Ob.box 38 [L y145 a0])]) H fun v3 H =>
   vx_seq <|
   qB (Z [p 2 (R 2),p 3 (R 3),p 5 (I (↑a1.2.1.length:Int)),p 6 (I v2),p 7 (R 7),p 46 (B (!vl (u56 v3.2.1 0 ((↑a0.length:Int) - 1))||(↑v3.2.2.length:Int) != (↑(a0.getD v3.2.1.toNat (dflt y145)).2.2.1.length:Int)))] [(7,K 147 y147 v3),(3,K 42 y42 a1),(2,Ob.box 38 [L y145 a0])]) H fun H =>
   cD H (fun H=>?_) (fun H=>?_)
  ·refine qA (Z [p 4 (B false)] [(7,K 147 y147 v3),(3,K 42 y42 a1),(2,Ob.box 38 [L y145 a0])]) <|
    vx_ret<|fx_seq_ret<|fx_blk_ret<|t2<|t1<|fx_blk_ret<|t0<|hr H
  refine vx_skip<|fx_seq <|
   qA (Z [p 2 (R 2),p 3 (R 3),p 5 (I (↑a1.2.1.length:Int)),p 6 (I v2),p 7 (R 7),p 8 (I 0)] [(7,K 147 y147 v3),(3,K 42 y42 a1),(2,Ob.box 38 [L y145 a0])]) <|
   vx_block <|
   lX (fun (v4:Int)=>Z [p 2 (R 2),p 3 (R 3),p 5 (I (↑a1.2.1.length:Int)),p 6 (I v2),p 7 (R 7),p 8 (I v4)] [(7,K 147 y147 v3),(3,K 42 y42 a1),(2,Ob.box 38 [L y145 a0])]) 0 H fun _ g3 b3 e3 t3 v4 H =>
   vx_seq <|
   qA (Z [p 2 (R 2),p 3 (R 3),p 5 (I (↑a1.2.1.length:Int)),p 6 (I v2),p 7 (R 7),p 8 (I v4),p 51 (B (decide (v4 < (↑v3.2.2.length:Int))))] [(7,K 147 y147 v3),(3,K 42 y42 a1),(2,Ob.box 38 [L y145 a0])]) <|
   cD H (fun H=>?_) (fun H=>?_)
  ·refine vx_skip<|fx_seq<|vx_seq<|vx_block <|
    qB (Z [p 2 (R 2),p 3 (R 3),p 5 (I (↑a1.2.1.length:Int)),p 6 (I v2),p 7 (R 7),p 8 (I v4),p 62 (B !vl (u56 (v3.2.2.getD v4.toNat 0) 0 ((↑a1.2.1.length:Int) - 1)))] [(7,K 147 y147 v3),(3,K 42 y42 a1),(2,Ob.box 38 [L y145 a0])]) H fun H =>
    cD H (fun H=>?_) (fun H=>?_)
   ·refine qA (Z [p 4 (B false)] [(7,K 147 y147 v3),(3,K 42 y42 a1),(2,Ob.box 38 [L y145 a0])]) <|
     vx_ret<|fx_blk_ret<|fx_seq_ret<|t3<|fx_blk_ret<|fx_blk_ret<|t2<|t1<|fx_blk_ret<|t0<|hr H
   refine vx_skip<|fx_blk<|fx_seq <|
    zB (Z [p 2 (R 2),p 3 (R 3),p 5 (I (↑a1.2.1.length:Int)),p 6 (I v2),p 7 (R 7),p 8 (I (v4+1))] [(7,K 147 y147 v3),(3,K 42 y42 a1),(2,Ob.box 38 [L y145 a0])]) H fun H =>
    b3 H
  exact vx_exit<|fx_seq_exit<|e3<|fx_blk_exit rfl<|fx_blk<|n2 H
 exact vx_exit<|fx_seq_exit<|e1<|fx_blk_exit rfl<|n0 H
def u200J0:List Int→Option (List Int)
 | v4 =>
 some v4
def u200L1 (a0:Y145) (g1:Int×List Int→Option (List Int)):Int×List Int→Option (List Int)
 | (v1,v2) =>
 if (decide (v1 < (↑a0.2.2.2.1.length:Int)))=true then
  gd (ix v1 a0.2.2.2.1.length∧ix (a0.2.2.2.1.getD v1.toNat (dflt y102)).1 v2.length∧(a0.2.2.2.1.getD v1.toNat (dflt y102)).1.toNat < v2.length∧in64 (v2.getD (a0.2.2.2.1.getD v1.toNat (dflt y102)).1.toNat 0+1)∧ix (a0.2.2.2.1.getD v1.toNat (dflt y102)).1 v2.length∧(a0.2.2.2.1.getD v1.toNat (dflt y102)).1.toNat < v2.length∧True)<|lt (v2.set (a0.2.2.2.1.getD v1.toNat (dflt y102)).1.toNat (v2.getD (a0.2.2.2.1.getD v1.toNat (dflt y102)).1.toNat 0+1)) fun v3 =>
  gd (in64 (v1+1)∧True) <|
  g1 (v1+1,v3)
 else
  u200J0 v2
def u200 (a0:Y145):Option (List Int) :=
 gd (((0:Int)≤(6:Int)∧(6:Int)=(6:Int)∧Int.toNat (6:Int)*8≤281474976710656∧(6:Int)≤(9223372036854775807:Int))∧True) <|
 lp (u200L1 a0) ((0,List.replicate (Int.toNat (6:Int)) (0:Int)))
def k200:Ct:=lct 200 [.agg y145] (fun x=>u200 x.1) (fun r:List Int=>AV.ow 2 true i64 r) (fun _=>())
theorem o200:Ok Tryz.prog k200:=by
 refine okL [.tmp 2] Tryz.func200 Tryz.ntmps200 Tryz.results200 ?_
 intro y ⟨a0,_⟩ r H Q hn hr
 have:HT _ _:=⟨@tn Tryz.prog⟩
 refine qA (Z [p 1 (R 1)] [(1,K 145 y145 a0)]) <|
  qB (Z [p 1 (R 1),p 3 (O 5)] [(5,A 2 i64 (List.replicate (Int.toNat (6:Int)) (0:Int)) 0),(1,K 145 y145 a0)]) H fun H =>
  jN r (fun (v4:List Int)=>Z [p 3 (O 5)] [(5,A 2 i64 v4 0)]) (u200J0) (fun v4 H=>?_) (fun _ n0 e0 t0=>?_)
 ·refine qA (Z [p 2 (O 5)] [(5,A 2 i64 v4 0)]) <|
   vx_ret<|hr H
 refine qA (Z [p 1 (R 1),p 3 (O 5),p 4 (I (0:Int))] [(5,A 2 i64 (List.replicate (Int.toNat (6:Int)) (0:Int)) 0),(1,K 145 y145 a0)]) <|
  vx_block <|
  lX (fun ((v1,v2):Int×List Int)=>Z [p 1 (R 1),p 3 (O 5),p 4 (I v1)] [(5,A 2 i64 v2 0),(1,K 145 y145 a0)]) ((0,List.replicate (Int.toNat (6:Int)) (0:Int))) H fun _ g1 b1 e1 t1 ⟨v1,v2⟩ H =>
  vx_seq <|
  qA (Z [p 1 (R 1),p 3 (O 5),p 4 (I v1),p 10 (B (decide (v1 < (↑a0.2.2.2.1.length:Int))))] [(5,A 2 i64 v2 0),(1,K 145 y145 a0)]) <|
  cD H (fun H=>?_) (fun H=>?_)
 ·refine vx_skip<|fx_seq<|vx_seq<|vx_block <|
   zD (fun v3=>Z [p 1 (R 1),p 3 (O 5),p 4 (I v1)] [(5,A 2 i64 v3 0),(1,K 145 y145 a0)]) H fun v3 H =>
   fx_blk<|fx_seq <|
   zB (Z [p 1 (R 1),p 3 (O 5),p 4 (I (v1+1))] [(5,A 2 i64 v3 0),(1,K 145 y145 a0)]) H fun H =>
   b1 H
 exact vx_exit<|fx_seq_exit<|e1<|fx_blk_exit rfl<|n0 H
def u252J0 (a0:List Int):Unit→Option (Bool)
 | _ =>
 some (decide (1≤(↑a0.length:Int))&&decide ((↑a0.length:Int)≤4))
def u252L1 (a0:List Int) (g1:Int→Option (Bool)):Int→Option (Bool)
 | v0 =>
 if (decide (v0 < (↑a0.length:Int)))=true then
  gd (ix v0 a0.length∧(u56 (a0.getD v0.toNat 0) 0 100000).isSome=true∧(decide (0 < v0)=true∧(!vl (u56 (a0.getD v0.toNat 0) 0 100000))=false∧True→in64 (v0 - 1))∧(decide (0 < v0)=true∧(!vl (u56 (a0.getD v0.toNat 0) 0 100000))=false∧True→ix (v0 - 1) a0.length)∧(decide (0 < v0)=true∧(!vl (u56 (a0.getD v0.toNat 0) 0 100000))=false∧True→ix v0 a0.length)∧True) <|
  if (!vl (u56 (a0.getD v0.toNat 0) 0 100000)||decide (0 < v0)&&decide (a0.getD v0.toNat 0≤a0.getD (v0 - 1).toNat 0))=true then
   some false
  else
   gd (in64 (v0+1)∧True) <|
   g1 (v0+1)
 else
  u252J0 a0 ()
def u252 (a0:List Int):Option (Bool) :=
 lp (u252L1 a0) 0
def k252:Ct:=lct 252 [.dat i64.sl] (fun x=>u252 x.1) (fun r:Bool=>B r) (fun _=>())
theorem o252:Ok Tryz.prog k252:=by
 refine okL [.tmp 2] Tryz.func252 Tryz.ntmps252 Tryz.results252 ?_
 intro y ⟨a0,_⟩ r H Q hn hr
 have:HT _ _:=⟨tc o56 tn⟩
 refine qA (Z [p 0 (L i64 a0)] []) <|
  jN r (fun (_:Unit)=>Z [p 0 (L i64 a0)] []) (u252J0 a0) (fun _ H=>?_) (fun _ n0 e0 t0=>?_)
 ·refine qA (Z [p 2 (B (decide (1≤(↑a0.length:Int))&&decide ((↑a0.length:Int)≤4)))] []) <|
   vx_ret<|hr H
 refine qA (Z [p 0 (L i64 a0),p 3 (I 0)] []) <|
  vx_block <|
  lX (fun (v0:Int)=>Z [p 0 (L i64 a0),p 3 (I v0)] []) 0 H fun _ g1 b1 e1 t1 v0 H =>
  vx_seq <|
  qA (Z [p 0 (L i64 a0),p 3 (I v0),p 7 (B (decide (v0 < (↑a0.length:Int))))] []) <|
  cD H (fun H=>?_) (fun H=>?_)
 ·refine vx_skip<|fx_seq<|vx_seq<|vx_block <|
   qB (Z [p 0 (L i64 a0),p 3 (I v0),p 31 (B (!vl (u56 (a0.getD v0.toNat 0) 0 100000)||decide (0 < v0)&&decide (a0.getD v0.toNat 0≤a0.getD (v0 - 1).toNat 0)))] []) H fun H =>
   cD H (fun H=>?_) (fun H=>?_)
  ·refine qA (Z [p 2 (B false)] []) <|
    vx_ret<|fx_blk_ret<|fx_seq_ret<|t1<|fx_blk_ret<|t0<|hr H
  refine vx_skip<|fx_blk<|fx_seq <|
   zB (Z [p 0 (L i64 a0),p 3 (I (v0+1))] []) H fun H =>
   b1 H
 exact vx_exit<|fx_seq_exit<|e1<|fx_blk_exit rfl<|n0 H
def u245J0:Unit→Option (Bool)
 | _ =>
 some true
def u245L1 (a0:Y106) (g1:Int→Option (Bool)):Int→Option (Bool)
 | v0 =>
 if (decide (v0 < (↑a0.2.2.length:Int)))=true then
  gd (ix v0 a0.2.2.length∧(u56 (a0.2.2.getD v0.toNat 0) (-1000000) 1000000).isSome=true∧True) <|
  if (!vl (u56 (a0.2.2.getD v0.toNat 0) (-1000000) 1000000))=true then
   some false
  else
   gd (in64 (v0+1)∧True) <|
   g1 (v0+1)
 else
  u245J0 ()
def u245 (a0:Y106):Option (Bool) :=
 gd ((u252 a0.1).isSome=true∧((!vl (u252 a0.1))=false∧True→(u252 a0.2.1).isSome=true)∧((!vl (u252 a0.1)||!vl (u252 a0.2.1))=false∧True→in64 ((↑a0.1.length:Int)*(↑a0.2.1.length:Int)))∧True) <|
 if (!vl (u252 a0.1)||!vl (u252 a0.2.1)||(↑a0.2.2.length:Int) != (↑a0.1.length:Int)*(↑a0.2.1.length:Int))=true then
  some false
 else
  lp (u245L1 a0) 0
def k245:Ct:=lct 245 [.agg y106] (fun x=>u245 x.1) (fun r:Bool=>B r) (fun _=>())
theorem o245:Ok Tryz.prog k245:=by
 refine okL [.tmp 2] Tryz.func245 Tryz.ntmps245 Tryz.results245 ?_
 intro y ⟨a0,_⟩ r H Q hn hr
 have:HT _ _:=⟨tc o56 (tc o252 tn)⟩
 refine qA (Z [p 1 (R 1)] [(1,K 106 y106 a0)]) <|
  vx_seq <|
  qB (Z [p 1 (R 1),p 26 (B (!vl (u252 a0.1)||!vl (u252 a0.2.1)||(↑a0.2.2.length:Int) != (↑a0.1.length:Int)*(↑a0.2.1.length:Int)))] [(1,K 106 y106 a0)]) H fun H =>
  cD H (fun H=>?_) (fun H=>?_)
 ·refine qA (Z [p 2 (B false)] [(1,K 106 y106 a0)]) <|
   vx_ret<|fx_seq_ret<|hr H
 refine vx_skip<|fx_seq <|
  jN r (fun (_:Unit)=>Z [] []) (u245J0) (fun _ H=>?_) (fun _ n0 e0 t0=>?_)
 ·refine qA (Z [p 2 (B true)] []) <|
   vx_ret<|hr H
 refine qA (Z [p 1 (R 1),p 3 (I 0)] [(1,K 106 y106 a0)]) <|
  vx_block <|
  lX (fun (v0:Int)=>Z [p 1 (R 1),p 3 (I v0)] [(1,K 106 y106 a0)]) 0 H fun _ g1 b1 e1 t1 v0 H =>
  vx_seq <|
  qA (Z [p 1 (R 1),p 3 (I v0),p 31 (B (decide (v0 < (↑a0.2.2.length:Int))))] [(1,K 106 y106 a0)]) <|
  cD H (fun H=>?_) (fun H=>?_)
 ·refine vx_skip<|fx_seq<|vx_seq<|vx_block <|
   qB (Z [p 1 (R 1),p 3 (I v0),p 40 (B !vl (u56 (a0.2.2.getD v0.toNat 0) (-1000000) 1000000))] [(1,K 106 y106 a0)]) H fun H =>
   cD H (fun H=>?_) (fun H=>?_)
  ·refine qA (Z [p 2 (B false)] [(1,K 106 y106 a0)]) <|
    vx_ret<|fx_blk_ret<|fx_seq_ret<|t1<|fx_blk_ret<|t0<|hr H
  refine vx_skip<|fx_blk<|fx_seq <|
   zB (Z [p 1 (R 1),p 3 (I (v0+1))] [(1,K 106 y106 a0)]) H fun H =>
   b1 H
 exact vx_exit<|fx_seq_exit<|e1<|fx_blk_exit rfl<|n0 H
def u233J0:Int×Int→Option (Y57×Int)
 | (v5,v6) =>
 some (((v5,v6),(0:Int)))
def u233L1 (a0:Y106) (g1:Int×Int×Int→Option (Y57×Int)):Int×Int×Int→Option (Y57×Int)
 | (v2,v3,v4) =>
 if (decide (v2 < (↑a0.2.2.length:Int)))=true then
  gd (ix v2 a0.2.2.length∧True) <|
  gd (ix v2 a0.2.2.length∧True) <|
  gd (in64 (v2+1)∧True) <|
  g1 ((v2+1,min v3 (a0.2.2.getD v2.toNat 0),max v4 (a0.2.2.getD v2.toNat 0)))
 else
  u233J0 (v3,v4)
def u233 (a0:Y106):Option (Y57×Int) :=
 gd ((u245 a0).isSome=true∧True) <|
 if (!vl (u245 a0))=true then
  some ((((0:Int),(0:Int)),(1:Int)))
 else
  gd (ix 0 a0.2.2.length∧ix 0 a0.2.2.length∧True) <|
  lp (u233L1 a0) ((1,a0.2.2.getD (Int.toNat (0:Int)) (0:Int),a0.2.2.getD (Int.toNat (0:Int)) (0:Int)))
def k233:Ct:=lct 233 [.agg y106] (fun x=>u233 x.1) (fun r:Y57×Int=>AV.tup [AV.agg [I r.1.1,I r.1.2],I r.2]) (fun _=>())
theorem o233:Ok Tryz.prog k233:=by
 refine okL [.cell 2 57,.tmp 3] Tryz.func233 Tryz.ntmps233 Tryz.results233 ?_
 intro y ⟨a0,_⟩ r H Q hn hr
 have:HT _ _:=⟨tc o245 tn⟩
 refine qA (Z [p 1 (R 1),p 2 (R 2)] [(2,Ob.box 57 [I 0,I 0]),(1,K 106 y106 a0)]) <|
  vx_seq <|
  qB (Z [p 1 (R 1),p 2 (R 2),p 8 (B !vl (u245 a0))] [(2,Ob.box 57 [I 0,I 0]),(1,K 106 y106 a0)]) H fun H =>
  cD H (fun H=>?_) (fun H=>?_)
 ·refine qA (Z [p 2 (R 2),p 3 (I 1)] [(2,Ob.box 57 [I 0,I 0]),(1,K 106 y106 a0)]) <|
   vx_ret<|fx_seq_ret<|hr H
 refine vx_skip<|fx_seq <|
  qB (Z [p 1 (R 1),p 2 (R 2),p 4 (R 4)] [(4,Ob.box 57 [J (a0.2.2.getD (Int.toNat (0:Int)) (0:Int)),J (a0.2.2.getD (Int.toNat (0:Int)) (0:Int))]),(2,Ob.box 57 [I (0:Int),I (0:Int)]),(1,K 106 y106 a0)]) H fun H =>
  jN r (fun ((v5,v6):Int×Int)=>Z [p 2 (R 2),p 4 (R 4)] [(4,Ob.box 57 [J v5,J v6]),(2,Ob.box 57 [I 0,I 0])]) (u233J0) (fun ⟨v5,v6⟩ H=>?_) (fun _ n0 e0 t0=>?_)
 ·refine qA (Z [p 2 (R 2),p 3 (I 0)] [(2,Ob.box 57 [J v5,J v6]),(4,Ob.box 57 [J v5,J v6])]) <|
   vx_ret<|hr H
 refine qA (Z [p 1 (R 1),p 2 (R 2),p 4 (R 4),p 5 (I (1:Int))] [(4,Ob.box 57 [J (a0.2.2.getD (Int.toNat (0:Int)) (0:Int)),J (a0.2.2.getD (Int.toNat (0:Int)) (0:Int))]),(2,Ob.box 57 [I (0:Int),I (0:Int)]),(1,K 106 y106 a0)]) <|
  vx_block <|
  lX (fun ((v2,v3,v4):Int×Int×Int)=>Z [p 1 (R 1),p 2 (R 2),p 4 (R 4),p 5 (I v2)] [(4,Ob.box 57 [J v3,J v4]),(2,Ob.box 57 [I 0,I 0]),(1,K 106 y106 a0)]) ((1,a0.2.2.getD (Int.toNat (0:Int)) (0:Int),a0.2.2.getD (Int.toNat (0:Int)) (0:Int))) H fun _ g1 b1 e1 t1 ⟨v2,v3,v4⟩ H =>
  vx_seq <|
  qA (Z [p 1 (R 1),p 2 (R 2),p 4 (R 4),p 5 (I v2),p 23 (B (decide (v2 < (↑a0.2.2.length:Int))))] [(4,Ob.box 57 [J v3,J v4]),(2,Ob.box 57 [I 0,I 0]),(1,K 106 y106 a0)]) <|
  cD H (fun H=>?_) (fun H=>?_)
 ·refine vx_skip<|fx_seq<|vx_seq<|vx_block <|
   qB (Z [p 1 (R 1),p 2 (R 2),p 4 (R 4),p 5 (I v2)] [(4,Ob.box 57 [I (min v3 (a0.2.2.getD v2.toNat 0)),J v4]),(2,Ob.box 57 [I 0,I 0]),(1,K 106 y106 a0)]) H fun H =>
   zB (Z [p 1 (R 1),p 2 (R 2),p 4 (R 4),p 5 (I v2)] [(4,Ob.box 57 [I (min v3 (a0.2.2.getD v2.toNat 0)),I (max v4 (a0.2.2.getD v2.toNat 0))]),(2,Ob.box 57 [I 0,I 0]),(1,K 106 y106 a0)]) H fun H =>
   fx_blk<|fx_seq <|
   zB (Z [p 1 (R 1),p 2 (R 2),p 4 (R 4),p 5 (I (v2+1))] [(4,Ob.box 57 [I (min v3 (a0.2.2.getD v2.toNat 0)),I (max v4 (a0.2.2.getD v2.toNat 0))]),(2,Ob.box 57 [I 0,I 0]),(1,K 106 y106 a0)]) H fun H =>
   b1 H
 exact vx_exit<|fx_seq_exit<|e1<|fx_blk_exit rfl<|n0 H
def u218J0:Unit→Option (Bool)
 | _ =>
 some true
def u218L1 (a1:Bool) (a0:List Y106) (g1:Int→Option (Bool)):Int→Option (Bool)
 | v1 =>
 if (decide (v1 < 2))=true then
  gd (ix v1 a0.length∧(u233 (a0.getD v1.toNat (dflt y106))).isSome=true∧True)<|lt (vl (u233 (a0.getD v1.toNat (dflt y106)))) fun v2 =>
  if (v2.2 != 0||a1&&decide (v2.1.1 < 0))=true then
   some false
  else
   gd (in64 (v1+1)∧True) <|
   g1 (v1+1)
 else
  u218J0 ()
def u218 (a0:List Y106) (a1:Bool):Option (Bool) :=
 if ((↑a0.length:Int) != 2)=true then
  some false
 else
  lp (u218L1 a1 a0) 0
def k218:Ct:=lct 218 [.dat y106.sl,.dat Ty.bool] (fun x=>u218 x.1 x.2.1) (fun r:Bool=>B r) (fun _=>())
theorem o218:Ok Tryz.prog k218:=by
 refine okL [.tmp 4] Tryz.func218 Tryz.ntmps218 Tryz.results218 ?_
 intro y ⟨a0,a1,_⟩ r H Q hn hr
 have:HT _ _:=⟨tc o233 tn⟩
 refine qA (Z [p 0 (L y106 a0),p 1 (C a1)] []) <|
  vx_seq <|
  qA (Z [p 0 (L y106 a0),p 1 (C a1),p 10 (B ((↑a0.length:Int) != 2))] []) <|
  cD H (fun H=>?_) (fun H=>?_)
 ·refine qA (Z [p 4 (B false)] []) <|
   vx_ret<|fx_seq_ret<|hr H
 refine vx_skip<|fx_seq <|
  jN r (fun (_:Unit)=>Z [] []) (u218J0) (fun _ H=>?_) (fun _ n0 e0 t0=>?_)
 ·refine qA (Z [p 4 (B true)] []) <|
   vx_ret<|hr H
 refine qA (Z [p 0 (L y106 a0),p 1 (C a1),p 5 (I 0)] []) <|
  vx_block <|
  lX (fun (v1:Int)=>Z [p 0 (L y106 a0),p 1 (C a1),p 5 (I v1)] []) 0 H fun _ g1 b1 e1 t1 v1 H =>
  vx_seq <|
  qA (Z [p 0 (L y106 a0),p 1 (C a1),p 5 (I v1),p 12 (B (decide (v1 < 2)))] []) <|
  cD H (fun H=>?_) (fun H=>?_)
 ·refine vx_skip<|fx_seq<|vx_seq<|vx_block <|
   qD (fun v2=>Z [p 0 (L y106 a0),p 1 (C a1),p 5 (I v1),p 6 (R 6),p 7 (I v2.2)] [(6,Ob.box 57 (cellsD true y57 v2.1))]) H fun v2 H =>
   qA (Z [p 0 (L y106 a0),p 1 (C a1),p 5 (I v1),p 32 (B (v2.2 != 0||a1&&decide (v2.1.1 < 0)))] [(6,Ob.box 57 (cellsD true y57 v2.1))]) <|
   cD H (fun H=>?_) (fun H=>?_)
  ·refine qA (Z [p 4 (B false)] [(6,Ob.box 57 (cellsD true y57 v2.1))]) <|
    vx_ret<|fx_blk_ret<|fx_seq_ret<|t1<|fx_blk_ret<|t0<|hr H
  refine vx_skip<|fx_blk<|fx_seq <|
   zB (Z [p 0 (L y106 a0),p 1 (C a1),p 5 (I (v1+1))] [(6,Ob.box 57 (cellsD true y57 v2.1))]) H fun H =>
   b1 H
 exact vx_exit<|fx_seq_exit<|e1<|fx_blk_exit rfl<|n0 H
def u199J1 (v0:Y241) (a1:Y102) (a0:Y145):Bool→Option (Bool)
 | v2 =>
 if v2=true then
  gd (((v0.2.2.2&&decide (a1.2.2.1 < (↑a0.2.2.1.length:Int) - 1))=true∧True→ix a1.2.2.1 a0.2.2.1.length)∧((v0.2.2.2&&decide (a1.2.2.1 < (↑a0.2.2.1.length:Int) - 1)&&!(a0.2.2.1.getD a1.2.2.1.toNat (dflt y241)).2.2.2&&a1.2.2.2.1==0)=true∧True→(u218 a1.2.2.2.2.1 false).isSome=true)∧True) <|
  some (v0.2.2.2&&decide (a1.2.2.1 < (↑a0.2.2.1.length:Int) - 1)&&!(a0.2.2.1.getD a1.2.2.1.toNat (dflt y241)).2.2.2&&a1.2.2.2.1==0&&vl (u218 a1.2.2.2.2.1 false)&&(↑a1.2.2.2.2.2.length:Int)==0)
 else
  some false
def u199J0 (v0:Y241) (a1:Y102) (a0:Y145):Bool→Option (Bool)
 | v1 =>
 if v1=true then
  gd (((v0.2.2.2&&a1.2.2.1==(↑a0.2.2.1.length:Int) - 1&&a1.2.2.2.1==0)=true∧True→(u218 a1.2.2.2.2.1 true).isSome=true)∧((v0.2.2.2&&a1.2.2.1==(↑a0.2.2.1.length:Int) - 1&&a1.2.2.2.1==0&&vl (u218 a1.2.2.2.2.1 true))=true∧True→(u218 a1.2.2.2.2.2 true).isSome=true)∧True) <|
  some (v0.2.2.2&&a1.2.2.1==(↑a0.2.2.1.length:Int) - 1&&a1.2.2.2.1==0&&vl (u218 a1.2.2.2.2.1 true)&&vl (u218 a1.2.2.2.2.2 true))
 else
  if (a1.1==4)=true then
   u199J1 v0 a1 a0 (a1.1==4)
  else
   u199J1 v0 a1 a0 (a1.1==5)
def u199 (a0:Y145) (a1:Y102):Option (Bool) :=
 gd (in64 ((↑a0.2.2.1.length:Int) - 1)∧True) <|
 gd (in64 ((↑a0.2.2.1.length:Int) - 1 - 1)∧(u56 a1.2.1 0 ((↑a0.2.2.1.length:Int) - 1 - 1)).isSome=true∧((!vl (u56 a1.2.1 0 ((↑a0.2.2.1.length:Int) - 1 - 1)))=false∧True→(u56 a1.2.2.1 0 ((↑a0.2.2.1.length:Int) - 1)).isSome=true)∧True) <|
 if (!vl (u56 a1.2.1 0 ((↑a0.2.2.1.length:Int) - 1 - 1))||!vl (u56 a1.2.2.1 0 ((↑a0.2.2.1.length:Int) - 1)))=true then
  some false
 else
  gd (ix a1.2.1 a0.2.2.1.length∧True)<|lt (a0.2.2.1.getD a1.2.1.toNat (dflt y241)) fun v0 =>
  if (a1.1==1)=true then
   gd (((!v0.2.2.2&&a1.2.2.1==(↑a0.2.2.1.length:Int) - 1)=true∧True→(u56 a1.2.2.2.1 1 3).isSome=true)∧((!v0.2.2.2&&a1.2.2.1==(↑a0.2.2.1.length:Int) - 1&&vl (u56 a1.2.2.2.1 1 3))=true∧True→(u218 a1.2.2.2.2.1 true).isSome=true)∧((!v0.2.2.2&&a1.2.2.1==(↑a0.2.2.1.length:Int) - 1&&vl (u56 a1.2.2.2.1 1 3)&&vl (u218 a1.2.2.2.2.1 true))=true∧True→(u218 a1.2.2.2.2.2 true).isSome=true)∧True) <|
   some (!v0.2.2.2&&a1.2.2.1==(↑a0.2.2.1.length:Int) - 1&&vl (u56 a1.2.2.2.1 1 3)&&vl (u218 a1.2.2.2.2.1 true)&&vl (u218 a1.2.2.2.2.2 true))
  else
   if (a1.1==2)=true then
    u199J0 v0 a1 a0 (a1.1==2)
   else
    u199J0 v0 a1 a0 (a1.1==3)
def k199:Ct:=lct 199 [.agg y145,.agg y102] (fun x=>u199 x.1 x.2.1) (fun r:Bool=>B r) (fun _=>())
theorem o199:Ok Tryz.prog k199:=by
 refine okL [.tmp 4] Tryz.func199 Tryz.ntmps199 Tryz.results199 ?_
 intro y ⟨a0,a1,_⟩ r H Q hn hr
 have:HT _ _:=⟨tc o218 (tc o56 tn)⟩
 refine qA (Z [p 2 (R 2),p 3 (R 3)] [(3,K 102 y102 a1),(2,K 145 y145 a0)]) <|
  qB (Z [p 2 (R 2),p 3 (R 3),p 5 (I ((↑a0.2.2.1.length:Int) - 1))] [(3,K 102 y102 a1),(2,K 145 y145 a0)]) H fun H =>
  vx_seq <|
  qB (Z [p 2 (R 2),p 3 (R 3),p 5 (I ((↑a0.2.2.1.length:Int) - 1)),p 23 (B (!vl (u56 a1.2.1 0 ((↑a0.2.2.1.length:Int) - 1 - 1))||!vl (u56 a1.2.2.1 0 ((↑a0.2.2.1.length:Int) - 1))))] [(3,K 102 y102 a1),(2,K 145 y145 a0)]) H fun H =>
  cD H (fun H=>?_) (fun H=>?_)
 ·refine qA (Z [p 4 (B false)] [(3,K 102 y102 a1),(2,K 145 y145 a0)]) <|
   vx_ret<|fx_seq_ret<|hr H
 refine vx_skip<|fx_seq <|
  qD (fun v0=>Z [p 2 (R 2),p 3 (R 3),p 5 (I ((↑a0.2.2.1.length:Int) - 1)),p 6 (C v0.2.2.2)] [(3,K 102 y102 a1),(2,K 145 y145 a0)]) H fun v0 H =>
  vx_seq <|
  qA (Z [p 2 (R 2),p 3 (R 3),p 5 (I ((↑a0.2.2.1.length:Int) - 1)),p 6 (C v0.2.2.2),p 32 (J a1.1)] [(3,K 102 y102 a1),(2,K 145 y145 a0)]) <|
  vx_block <|
  qA (Z [p 2 (R 2),p 3 (R 3),p 5 (I ((↑a0.2.2.1.length:Int) - 1)),p 6 (C v0.2.2.2),p 32 (J a1.1),p 33 (B (a1.1==1))] [(3,K 102 y102 a1),(2,K 145 y145 a0)]) <|
  cD H (fun H=>?_) (fun H=>?_)
 ·refine qB (Z [p 4 (B (!v0.2.2.2&&a1.2.2.1==(↑a0.2.2.1.length:Int) - 1&&vl (u56 a1.2.2.2.1 1 3)&&vl (u218 a1.2.2.2.2.1 true)&&vl (u218 a1.2.2.2.2.2 true)))] [(3,K 102 y102 a1),(2,K 145 y145 a0)]) H fun H =>
   vx_ret<|fx_blk_ret<|fx_seq_ret<|hr H
 refine jN r (fun (v1:Bool)=>Z [p 2 (R 2),p 3 (R 3),p 5 (I ((↑a0.2.2.1.length:Int) - 1)),p 6 (C v0.2.2.2),p 32 (J a1.1),p 58 (B v1)] [(3,K 102 y102 a1),(2,K 145 y145 a0)]) (u199J0 v0 a1 a0) (fun v1 H=>?_) (fun _ n0 e0 t0=>?_)
 ·refine cD H (fun H=>?_) (fun H=>?_)
  ·refine qB (Z [p 4 (B (v0.2.2.2&&a1.2.2.1==(↑a0.2.2.1.length:Int) - 1&&a1.2.2.2.1==0&&vl (u218 a1.2.2.2.2.1 true)&&vl (u218 a1.2.2.2.2.2 true)))] [(3,K 102 y102 a1),(2,K 145 y145 a0)]) H fun H =>
    vx_ret<|fx_blk_ret<|fx_seq_ret<|hr H
  refine jN r (fun (v2:Bool)=>Z [p 2 (R 2),p 3 (R 3),p 5 (I ((↑a0.2.2.1.length:Int) - 1)),p 6 (C v0.2.2.2),p 83 (B v2)] [(3,K 102 y102 a1),(2,K 145 y145 a0)]) (u199J1 v0 a1 a0) (fun v2 H=>?_) (fun _ n1 e1 t1=>?_)
  ·refine cD H (fun H=>?_) (fun H=>?_)
   ·refine qB (Z [p 4 (B (v0.2.2.2&&decide (a1.2.2.1 < (↑a0.2.2.1.length:Int) - 1)&&!(a0.2.2.1.getD a1.2.2.1.toNat (dflt y241)).2.2.2&&a1.2.2.2.1==0&&vl (u218 a1.2.2.2.2.1 false)&&(↑a1.2.2.2.2.2.length:Int)==0))] [(3,K 102 y102 a1),(2,K 145 y145 a0)]) H fun H =>
     vx_ret<|fx_blk_ret<|fx_seq_ret<|hr H
   refine vx_skip<|fx_blk<|fx_seq <|
    qA (Z [p 4 (B false)] [(3,K 102 y102 a1),(2,K 145 y145 a0)]) <|
    vx_ret<|hr H
  refine qA (Z [p 2 (R 2),p 3 (R 3),p 5 (I ((↑a0.2.2.1.length:Int) - 1)),p 6 (C v0.2.2.2),p 32 (J a1.1),p 83 (B (a1.1==4))] [(3,K 102 y102 a1),(2,K 145 y145 a0)]) <|
   cD H (fun H=>?_) (fun H=>?_)
  ·exact vx_skip<|n1 H
  refine zA (Z [p 2 (R 2),p 3 (R 3),p 5 (I ((↑a0.2.2.1.length:Int) - 1)),p 6 (C v0.2.2.2),p 83 (B (a1.1==5))] [(3,K 102 y102 a1),(2,K 145 y145 a0)]) <|
   n1 H
 refine qA (Z [p 2 (R 2),p 3 (R 3),p 5 (I ((↑a0.2.2.1.length:Int) - 1)),p 6 (C v0.2.2.2),p 32 (J a1.1),p 58 (B (a1.1==2))] [(3,K 102 y102 a1),(2,K 145 y145 a0)]) <|
  cD H (fun H=>?_) (fun H=>?_)
 ·exact vx_skip<|n0 H
 refine zA (Z [p 2 (R 2),p 3 (R 3),p 5 (I ((↑a0.2.2.1.length:Int) - 1)),p 6 (C v0.2.2.2),p 32 (J a1.1),p 58 (B (a1.1==3))] [(3,K 102 y102 a1),(2,K 145 y145 a0)]) <|
  n0 H
def u198J0:Int→Option (Int×Bool)
 | v8 =>
 some (v8,true)
def u198J2 (v4:Int) (g1:Int×Int→Option (Int×Bool)):Int→Option (Int×Bool)
 | v7 =>
 gd (in64 (v4+1)∧True) <|
 g1 (v7,v4+1)
def u198J3 (v4:Int) (v3:Int) (v5:Y241) (a0:Y145) (g1:Int×Int→Option (Int×Bool)):Unit→Option (Int×Bool)
 | _ =>
 gd ((u108 v5.1).isSome=true∧((!vl (u108 v5.1))=false∧True→(u56 v5.2.2.1 0 500).isSome=true)∧True) <|
 if (!vl (u108 v5.1)||!vl (u56 v5.2.2.1 0 500))=true then
  some (((0:Int),false))
 else
  gd (in64 ((↑a0.2.2.1.length:Int) - 1)∧((v4==(↑a0.2.2.1.length:Int) - 1&&(v5.2.1 != 2||v5.2.2.1 != 0||v5.2.2.2))=false∧True→in64 ((↑a0.2.2.1.length:Int) - 1))∧True) <|
  if (v4==(↑a0.2.2.1.length:Int) - 1&&(v5.2.1 != 2||v5.2.2.1 != 0||v5.2.2.2)||decide (v4 < (↑a0.2.2.1.length:Int) - 1)&&v5.2.1 != 1)=true then
   some (((0:Int),false))
  else
   if v5.2.2.2=true then
    gd (in64 (v3+1)∧True) <|
    u198J2 v4 g1 (v3+1)
   else
    u198J2 v4 g1 v3
def u198L4 (a0:Y145) (v5:Y241) (v4:Int) (v3:Int) (g1:Int×Int→Option (Int×Bool)) (g4:Int→Option (Int×Bool)):Int→Option (Int×Bool)
 | v6 =>
 if (decide (v6 < v4))=true then
  gd (ix v6 a0.2.2.1.length∧True) <|
  if (decide ((a0.2.2.1.getD v6.toNat (dflt y241)).1=v5.1))=true then
   some (((0:Int),false))
  else
   gd (in64 (v6+1)∧True) <|
   g4 (v6+1)
 else
  u198J3 v4 v3 v5 a0 g1 ()
def u198L1 (a0:Y145) (g1:Int×Int→Option (Int×Bool)):Int×Int→Option (Int×Bool)
 | (v3,v4) =>
 if (decide (v4 < (↑a0.2.2.1.length:Int)))=true then
  gd (ix v4 a0.2.2.1.length∧True)<|lt (a0.2.2.1.getD v4.toNat (dflt y241)) fun v5 =>
  lp (u198L4 a0 v5 v4 v3 g1) 0
 else
  u198J0 v3
def u198 (a0:Y145):Option (Int×Bool) :=
 if (decide ((↑a0.2.2.1.length:Int) < 2)||decide (5 < (↑a0.2.2.1.length:Int)))=true then
  some (((0:Int),false))
 else
  lp (u198L1 a0) (0,0)
def k198:Ct:=lct 198 [.agg y145] (fun x=>u198 x.1) (fun r:Int×Bool=>AV.tup [I r.1,B r.2]) (fun _=>())
theorem o198:Ok Tryz.prog k198:=by
 refine okL [.tmp 2,.tmp 3] Tryz.func198 Tryz.ntmps198 Tryz.results198 ?_
 intro y ⟨a0,_⟩ r H Q hn hr
 have:HT _ _:=⟨tc o56 (tc o108 tn)⟩
 refine qA (Z [p 1 (R 1)] [(1,K 145 y145 a0)]) <|
  qA (Z [p 1 (R 1),p 4 (I (↑a0.2.2.1.length:Int))] [(1,K 145 y145 a0)]) <|
  vx_seq <|
  qA (Z [p 1 (R 1),p 4 (I (↑a0.2.2.1.length:Int)),p 17 (B (decide ((↑a0.2.2.1.length:Int) < 2)||decide (5 < (↑a0.2.2.1.length:Int))))] [(1,K 145 y145 a0)]) <|
  cD H (fun H=>?_) (fun H=>?_)
 ·refine qA (Z [p 2 (I 0),p 3 (B false)] [(1,K 145 y145 a0)]) <|
   vx_ret<|fx_seq_ret<|hr H
 refine vx_skip<|fx_seq <|
  qA (Z [p 1 (R 1),p 4 (I (↑a0.2.2.1.length:Int)),p 5 (I 0)] [(1,K 145 y145 a0)]) <|
  jN r (fun (v8:Int)=>Z [p 5 (I v8)] []) (u198J0) (fun v8 H=>?_) (fun _ n0 e0 t0=>?_)
 ·refine qA (Z [p 2 (I v8),p 3 (B true)] []) <|
   vx_ret<|hr H
 refine qA (Z [p 1 (R 1),p 4 (I (↑a0.2.2.1.length:Int)),p 5 (I 0),p 6 (I 0)] [(1,K 145 y145 a0)]) <|
  vx_block <|
  lX (fun ((v3,v4):Int×Int)=>Z [p 1 (R 1),p 4 (I (↑a0.2.2.1.length:Int)),p 5 (I v3),p 6 (I v4)] [(1,K 145 y145 a0)]) (0,0) H fun _ g1 b1 e1 t1 ⟨v3,v4⟩ H =>
  vx_seq <|
  qA (Z [p 1 (R 1),p 4 (I (↑a0.2.2.1.length:Int)),p 5 (I v3),p 6 (I v4),p 20 (B (decide (v4 < (↑a0.2.2.1.length:Int))))] [(1,K 145 y145 a0)]) <|
  cD H (fun H=>?_) (fun H=>?_)
 ·refine vx_skip<|fx_seq <|
   jN r (fun (v7:Int)=>Z [p 1 (R 1),p 4 (I (↑a0.2.2.1.length:Int)),p 5 (I v7),p 6 (I v4)] [(1,K 145 y145 a0)]) (u198J2 v4 g1) (fun v7 H=>?_) (fun _ n2 e2 t2=>?_)
  ·refine zB (Z [p 1 (R 1),p 4 (I (↑a0.2.2.1.length:Int)),p 5 (I v7),p 6 (I (v4+1))] [(1,K 145 y145 a0)]) H fun H =>
    b1 H
  refine vx_block <|
   qD (fun v5=>Z [p 1 (R 1),p 4 (I (↑a0.2.2.1.length:Int)),p 5 (I v3),p 6 (I v4),p 7 (R 7)] [(7,K 241 y241 v5),(1,K 145 y145 a0)]) H fun v5 H =>
   jN r (fun (_:Unit)=>Z [p 1 (R 1),p 4 (I (↑a0.2.2.1.length:Int)),p 5 (I v3),p 6 (I v4),p 7 (R 7)] [(7,K 241 y241 v5),(1,K 145 y145 a0)]) (u198J3 v4 v3 v5 a0 g1) (fun _ H=>?_) (fun _ n3 e3 t3=>?_)
  ·refine vx_seq <|
    qB (Z [p 1 (R 1),p 4 (I (↑a0.2.2.1.length:Int)),p 5 (I v3),p 6 (I v4),p 7 (R 7),p 51 (B (!vl (u108 v5.1)||!vl (u56 v5.2.2.1 0 500)))] [(7,K 241 y241 v5),(1,K 145 y145 a0)]) H fun H =>
    cD H (fun H=>?_) (fun H=>?_)
   ·refine qA (Z [p 2 (I 0),p 3 (B false)] [(7,K 241 y241 v5),(1,K 145 y145 a0)]) <|
     vx_ret<|fx_seq_ret<|fx_blk_ret<|t2<|t1<|fx_blk_ret<|t0<|hr H
   refine vx_skip<|fx_seq<|vx_seq <|
    qB (Z [p 1 (R 1),p 4 (I (↑a0.2.2.1.length:Int)),p 5 (I v3),p 6 (I v4),p 7 (R 7),p 80 (B (v4==(↑a0.2.2.1.length:Int) - 1&&(v5.2.1 != 2||v5.2.2.1 != 0||v5.2.2.2)||decide (v4 < (↑a0.2.2.1.length:Int) - 1)&&v5.2.1 != 1))] [(7,K 241 y241 v5),(1,K 145 y145 a0)]) H fun H =>
    cD H (fun H=>?_) (fun H=>?_)
   ·refine qA (Z [p 2 (I 0),p 3 (B false)] [(7,K 241 y241 v5),(1,K 145 y145 a0)]) <|
     vx_ret<|fx_seq_ret<|fx_blk_ret<|t2<|t1<|fx_blk_ret<|t0<|hr H
   refine vx_skip<|fx_seq <|
    qA (Z [p 1 (R 1),p 4 (I (↑a0.2.2.1.length:Int)),p 5 (I v3),p 6 (I v4),p 82 (C v5.2.2.2)] [(7,K 241 y241 v5),(1,K 145 y145 a0)]) <|
    cD H (fun H=>?_) (fun H=>?_)
   ·refine zB (Z [p 1 (R 1),p 4 (I (↑a0.2.2.1.length:Int)),p 5 (I (v3+1)),p 6 (I v4)] [(7,K 241 y241 v5),(1,K 145 y145 a0)]) H fun H =>
     fx_blk<|n2 H
   exact vx_skip<|fx_blk<|n2 H
  refine qA (Z [p 1 (R 1),p 4 (I (↑a0.2.2.1.length:Int)),p 5 (I v3),p 6 (I v4),p 7 (R 7),p 8 (I 0)] [(7,K 241 y241 v5),(1,K 145 y145 a0)]) <|
   vx_block <|
   lX (fun (v6:Int)=>Z [p 1 (R 1),p 4 (I (↑a0.2.2.1.length:Int)),p 5 (I v3),p 6 (I v4),p 7 (R 7),p 8 (I v6)] [(7,K 241 y241 v5),(1,K 145 y145 a0)]) 0 H fun _ g4 b4 e4 t4 v6 H =>
   vx_seq <|
   qA (Z [p 1 (R 1),p 4 (I (↑a0.2.2.1.length:Int)),p 5 (I v3),p 6 (I v4),p 7 (R 7),p 8 (I v6),p 30 (B (decide (v6 < v4)))] [(7,K 241 y241 v5),(1,K 145 y145 a0)]) <|
   cD H (fun H=>?_) (fun H=>?_)
  ·refine vx_skip<|fx_seq<|vx_seq<|vx_block <|
    qB (Z [p 1 (R 1),p 4 (I (↑a0.2.2.1.length:Int)),p 5 (I v3),p 6 (I v4),p 7 (R 7),p 8 (I v6),p 41 (B (decide ((a0.2.2.1.getD v6.toNat (dflt y241)).1=v5.1)))] [(7,K 241 y241 v5),(1,K 145 y145 a0)]) H fun H =>
    cD H (fun H=>?_) (fun H=>?_)
   ·refine qA (Z [p 2 (I 0),p 3 (B false)] [(7,K 241 y241 v5),(1,K 145 y145 a0)]) <|
     vx_ret<|fx_blk_ret<|fx_seq_ret<|t4<|fx_blk_ret<|t3<|fx_blk_ret<|t2<|t1<|fx_blk_ret<|t0<|hr H
   refine vx_skip<|fx_blk<|fx_seq <|
    zB (Z [p 1 (R 1),p 4 (I (↑a0.2.2.1.length:Int)),p 5 (I v3),p 6 (I v4),p 7 (R 7),p 8 (I (v6+1))] [(7,K 241 y241 v5),(1,K 145 y145 a0)]) H fun H =>
    b4 H
  exact vx_exit<|fx_seq_exit<|e4<|fx_blk_exit rfl<|n3 H
 exact vx_exit<|fx_seq_exit<|e1<|fx_blk_exit rfl<|n0 H
end Go.Proofs.YticmgmebjmblgaaGreatDoor
