/- Functions of this program as plain functions of data, and that they are so: printed by program. -/
import Derived.Test.YtgmpfbpemmohnaaGreatDoorFn18b
namespace Go.Proofs.YtgmpfbpemmohnaaGreatDoor
open Go Go.Proofs Go.Proofs.Sv Go.Proofs.Xv Go.Proofs.Xl Go.RowKit
def u138 (a0:Y139):Option (List (Int×Int)) :=
 if (a0.1==2)=true then
  some ([((0:Int),(0:Int)),((0:Int),(1:Int))])
 else
  if (a0.1==3)=true then
   some ([((1:Int),(0:Int)),((1:Int),(1:Int))])
  else
   if (a0.1 != 1)=true then
    some []
   else
    if (a0.2.2.2.1==1)=true then
     some ([((0:Int),(0:Int)),((1:Int),(1:Int))])
    else
     if (a0.2.2.2.1==2)=true then
      some ([((0:Int),(1:Int)),((1:Int),(0:Int))])
     else
      lt ([((0:Int),(0:Int)),((0:Int),(1:Int)),((1:Int),(0:Int)),((1:Int),(1:Int))]) fun v0 =>
      some v0
def k138:Ct:=lct 138 [.agg y139] (fun x=>u138 x.1) (fun r:List (Int×Int)=>AV.ow 192 true (i64.pr i64) r) (fun _=>())
theorem o138:Ok Tryz.prog k138:=by
 refine okL [.tmp 2] Tryz.func138 Tryz.ntmps138 Tryz.results138 ?_
 intro y ⟨a0,_⟩ r H Q hn hr
 have:HT _ _:=⟨@tn Tryz.prog⟩
 refine qA (Z [p 1 (R 1)] [(1,K 139 y139 a0)]) <|
  qA (Z [p 1 (R 1),p 3 (O 7)] [(7,A 192 (i64.pr i64) [((0:Int),(0:Int)),((1:Int),(1:Int))] 0),(1,K 139 y139 a0)]) <|
  qA (Z [p 1 (R 1),p 3 (O 7),p 4 (O 10)] [(10,A 192 (i64.pr i64) [((0:Int),(1:Int)),((1:Int),(0:Int))] 0),(7,A 192 (i64.pr i64) [((0:Int),(0:Int)),((1:Int),(1:Int))] 0),(1,K 139 y139 a0)]) <|
  vx_seq<|vx_block <|
  qA (Z [p 1 (R 1),p 3 (O 7),p 4 (O 10),p 11 (B (a0.1==(2:Int)))] [(10,A 192 (i64.pr i64) [((0:Int),(1:Int)),((1:Int),(0:Int))] 0),(7,A 192 (i64.pr i64) [((0:Int),(0:Int)),((1:Int),(1:Int))] 0),(1,K 139 y139 a0)]) <|
  cD H (fun H=>?_) (fun H=>?_)
 ·refine qA (Z [p 2 (O 17)] [(17,A 192 (i64.pr i64) [((0:Int),(0:Int)),((0:Int),(1:Int))] 0),(10,A 192 (i64.pr i64) [((0:Int),(1:Int)),((1:Int),(0:Int))] 0),(7,A 192 (i64.pr i64) [((0:Int),(0:Int)),((1:Int),(1:Int))] 0),(1,K 139 y139 a0)]) <|
   vx_ret<|fx_blk_ret<|fx_seq_ret<|hr H
 refine qA (Z [p 1 (R 1),p 3 (O 7),p 4 (O 10),p 18 (B (a0.1==(3:Int)))] [(10,A 192 (i64.pr i64) [((0:Int),(1:Int)),((1:Int),(0:Int))] 0),(7,A 192 (i64.pr i64) [((0:Int),(0:Int)),((1:Int),(1:Int))] 0),(1,K 139 y139 a0)]) <|
  cD H (fun H=>?_) (fun H=>?_)
 ·refine qA (Z [p 2 (O 24)] [(24,A 192 (i64.pr i64) [((1:Int),(0:Int)),((1:Int),(1:Int))] 0),(10,A 192 (i64.pr i64) [((0:Int),(1:Int)),((1:Int),(0:Int))] 0),(7,A 192 (i64.pr i64) [((0:Int),(0:Int)),((1:Int),(1:Int))] 0),(1,K 139 y139 a0)]) <|
   vx_ret<|fx_blk_ret<|fx_seq_ret<|hr H
 refine qA (Z [p 1 (R 1),p 3 (O 7),p 4 (O 10),p 25 (B (a0.1 != (1:Int)))] [(10,A 192 (i64.pr i64) [((0:Int),(1:Int)),((1:Int),(0:Int))] 0),(7,A 192 (i64.pr i64) [((0:Int),(0:Int)),((1:Int),(1:Int))] 0),(1,K 139 y139 a0)]) <|
  cD H (fun H=>?_) (fun H=>?_)
 ·refine qA (Z [p 2 (nil)] [(10,A 192 (i64.pr i64) [((0:Int),(1:Int)),((1:Int),(0:Int))] 0),(7,A 192 (i64.pr i64) [((0:Int),(0:Int)),((1:Int),(1:Int))] 0),(1,K 139 y139 a0)]) <|
   vx_ret<|fx_blk_ret<|fx_seq_ret<|hr H
 refine qA (Z [p 1 (R 1),p 3 (O 7),p 4 (O 10),p 29 (B (a0.2.2.2.1==(1:Int)))] [(10,A 192 (i64.pr i64) [((0:Int),(1:Int)),((1:Int),(0:Int))] 0),(7,A 192 (i64.pr i64) [((0:Int),(0:Int)),((1:Int),(1:Int))] 0),(1,K 139 y139 a0)]) <|
  cD H (fun H=>?_) (fun H=>?_)
 ·refine qA (Z [p 2 (O 7)] [(10,A 192 (i64.pr i64) [((0:Int),(1:Int)),((1:Int),(0:Int))] 0),(7,A 192 (i64.pr i64) [((0:Int),(0:Int)),((1:Int),(1:Int))] 0),(1,K 139 y139 a0)]) <|
   vx_ret<|fx_blk_ret<|fx_seq_ret<|hr H
 refine qA (Z [p 4 (O 10),p 34 (B (a0.2.2.2.1==(2:Int)))] [(10,A 192 (i64.pr i64) [((0:Int),(1:Int)),((1:Int),(0:Int))] 0),(7,A 192 (i64.pr i64) [((0:Int),(0:Int)),((1:Int),(1:Int))] 0),(1,K 139 y139 a0)]) <|
  cD H (fun H=>?_) (fun H=>?_)
 ·refine qA (Z [p 2 (O 10)] [(10,A 192 (i64.pr i64) [((0:Int),(1:Int)),((1:Int),(0:Int))] 0),(7,A 192 (i64.pr i64) [((0:Int),(0:Int)),((1:Int),(1:Int))] 0),(1,K 139 y139 a0)]) <|
   vx_ret<|fx_blk_ret<|fx_seq_ret<|hr H
 refine vx_skip<|fx_blk<|fx_seq <|
  qC (fun v0=>Z [p 2 (O 43)] [(43,A 192 (i64.pr i64) v0 0),(10,A 192 (i64.pr i64) [((0:Int),(1:Int)),((1:Int),(0:Int))] 0),(7,A 192 (i64.pr i64) [((0:Int),(0:Int)),((1:Int),(1:Int))] 0),(1,K 139 y139 a0)]) H fun v0 H =>
  vx_ret<|hr H
def u98J0:List Y91→Option (List Y91)
 | v24 =>
 some v24
def u98J2 (v12:Int) (g1:List Y91×Int→Option (List Y91)):List Y91→Option (List Y91)
 | v23 =>
 gd (in64 (v12+1)∧True) <|
 g1 (v23,v12+1)
def u98L3 (a2:Int) (v13:Y139) (v12:Int) (v14:List (Int×Int)) (g1:List Y91×Int→Option (List Y91)) (g3:Int×List Y91→Option (List Y91)):Int×List Y91→Option (List Y91)
 | (v18,v19) =>
 if (decide (v18 < (↑v14.length:Int)))=true then
  gd (ix v18 v14.length∧v18.toNat < v14.length∧True)<|lt (v14.getD v18.toNat (dflt (i64.pr i64))) fun v20 =>
  gd (in64 (a2+v13.2.1)∧in64 ((2:Int)*(a2+v13.2.1))∧ix (0:Int) 2∧in64 ((2:Int)*(a2+v13.2.1)+v20.1)∧in64 (a2+v13.2.2.1)∧in64 ((2:Int)*(a2+v13.2.2.1))∧ix (1:Int) 2∧in64 ((2:Int)*(a2+v13.2.2.1)+v20.2)∧(v19.length+[((2:Int)*(a2+v13.2.1)+v20.1,(2:Int)*(a2+v13.2.2.1)+v20.2,(1:Int),v12)].length≤9223372036854775807∧(v19.length+[((2:Int)*(a2+v13.2.1)+v20.1,(2:Int)*(a2+v13.2.2.1)+v20.2,(1:Int),v12)].length)*32≤140737488355328)∧True)<|lt ((v19++[((2:Int)*(a2+v13.2.1)+v20.1,(2:Int)*(a2+v13.2.2.1)+v20.2,(1:Int),v12)],[((2:Int)*(a2+v13.2.1)+v20.1,(2:Int)*(a2+v13.2.2.1)+v20.2,(1:Int),v12)])) fun (v21,v22) =>
  gd (in64 (v18+1)∧True) <|
  g3 (v18+1,v21)
 else
  u98J2 v12 g1 v19
def u98L1 (a2:Int) (v0:Y134) (g1:List Y91×Int→Option (List Y91)):List Y91×Int→Option (List Y91)
 | (v11,v12) =>
 if (decide (v12 < (↑v0.2.2.2.1.length:Int)))=true then
  gd (ix v12 v0.2.2.2.1.length∧True)<|lt (v0.2.2.2.1.getD v12.toNat (dflt y139)) fun v13 =>
  gd ((u138 v13).isSome=true∧True)<|lt (vl (u138 v13)) fun v14 =>
  lp (u98L3 a2 v13 v12 v14 g1) (0,v11)
 else
  u98J0 v11
def u98 (a0:Y46) (a1:Y136) (a2:Int):Option (List Y91) :=
 gd (ix a1.2.1 a0.1.length∧True)<|lt (a0.1.getD a1.2.1.toNat (dflt y134)) fun v0 =>
 lp (u98L1 a2 v0) ([],0)
def k98:Ct:=lct 98 [.agg y46,.agg y136,.dat i64] (fun x=>u98 x.1 x.2.1 x.2.2.1) (fun r:List Y91=>AV.ow 91 true y91 r) (fun _=>())
theorem o98:Ok Tryz.prog k98:=by
 refine okL [.tmp 6] Tryz.func98 Tryz.ntmps98 Tryz.results98 ?_
 intro y ⟨a0,a1,a2,_⟩ r H Q hn hr
 have:HT _ _:=⟨tc o138 tn⟩
 refine qA (Z [p 2 (J a2),p 3 (R 3),p 4 (R 4)] [(4,K 136 y136 a1),(3,K 46 y46 a0)]) <|
  qA (Z [p 2 (J a2),p 3 (R 3),p 4 (R 4),p 7 (nil)] [(4,K 136 y136 a1),(3,K 46 y46 a0)]) <|
  jN r (fun (v24:List Y91)=>Z [p 7 (O 53)] [(53,A 91 y91 v24 0)]) (u98J0) (fun v24 H=>?_) (fun _ n0 e0 t0=>?_)
 ·refine qA (Z [p 6 (O 53)] [(53,A 91 y91 v24 0)]) <|
   vx_ret<|hr H
 refine qD (fun v0=>Z [p 2 (J a2),p 7 (nil),p 19 (L y139 v0.2.2.2.1),p 20 (I (↑v0.2.2.2.1.length:Int)),p 21 (I 0)] [(4,K 136 y136 a1),(3,K 46 y46 a0)]) H fun v0 H =>
  vx_block <|
  lX (fun ((v11,v12):List Y91×Int)=>Z [p 2 (J a2),p 7 (O 53),p 19 (L y139 v0.2.2.2.1),p 20 (I (↑v0.2.2.2.1.length:Int)),p 21 (I v12)] [(53,A 91 y91 v11 0)]) ([],0) H fun _ g1 b1 e1 t1 ⟨v11,v12⟩ H =>
  qA (Z [p 2 (J a2),p 7 (O 53),p 19 (L y139 v0.2.2.2.1),p 20 (I (↑v0.2.2.2.1.length:Int)),p 21 (I v12),p 22 (B (decide (v12 < (↑v0.2.2.2.1.length:Int))))] [(53,A 91 y91 v11 0)]) <|
  vx_seq <|
  cD H (fun H=>?_) (fun H=>?_)
 ·refine vx_skip<|fx_seq <|
   jN r (fun (v23:List Y91)=>Z [p 2 (J a2),p 7 (O 53),p 19 (L y139 v0.2.2.2.1),p 20 (I (↑v0.2.2.2.1.length:Int)),p 21 (I v12)] [(53,A 91 y91 v23 0)]) (u98J2 v12 g1) (fun v23 H=>?_) (fun _ n2 e2 t2=>?_)
  ·refine zB (Z [p 2 (J a2),p 7 (O 53),p 19 (L y139 v0.2.2.2.1),p 20 (I (↑v0.2.2.2.1.length:Int)),p 21 (I (v12+1))] [(53,A 91 y91 v23 0)]) H fun H =>
    b1 H
  refine vx_block <|
   qD (fun v13=>Z [p 2 (J a2),p 7 (O 53),p 8 (I v12),p 9 (R 9),p 19 (L y139 v0.2.2.2.1),p 20 (I (↑v0.2.2.2.1.length:Int)),p 21 (I v12)] [(9,K 139 y139 v13),(53,A 91 y91 v11 0)]) H fun v13 H =>
   qD (fun v14=>Z [p 2 (J a2),p 7 (O 53),p 8 (I v12),p 9 (R 9),p 19 (L y139 v0.2.2.2.1),p 20 (I (↑v0.2.2.2.1.length:Int)),p 21 (I v12),p 27 (O 27),p 28 (I (↑v14.length:Int)),p 29 (I 0)] [(27,A 192 (i64.pr i64) v14 0),(9,K 139 y139 v13),(53,A 91 y91 v11 0)]) H fun v14 H =>
   vx_block <|
   lX (fun ((v18,v19):Int×List Y91)=>Z [p 2 (J a2),p 7 (O 53),p 8 (I v12),p 9 (R 9),p 19 (L y139 v0.2.2.2.1),p 20 (I (↑v0.2.2.2.1.length:Int)),p 21 (I v12),p 27 (O 27),p 28 (I (↑v14.length:Int)),p 29 (I v18)] [(27,A 192 (i64.pr i64) v14 0),(9,K 139 y139 v13),(53,A 91 y91 v19 0)]) (0,v11) H fun _ g3 b3 e3 t3 ⟨v18,v19⟩ H =>
   qA (Z [p 2 (J a2),p 7 (O 53),p 8 (I v12),p 9 (R 9),p 19 (L y139 v0.2.2.2.1),p 20 (I (↑v0.2.2.2.1.length:Int)),p 21 (I v12),p 27 (O 27),p 28 (I (↑v14.length:Int)),p 29 (I v18),p 30 (B (decide (v18 < (↑v14.length:Int))))] [(27,A 192 (i64.pr i64) v14 0),(9,K 139 y139 v13),(53,A 91 y91 v19 0)]) <|
   vx_seq <|
   cD H (fun H=>?_) (fun H=>?_)
  ·refine vx_skip<|fx_seq<|vx_seq<|vx_block <|
    qD (fun v20=>Z [p 2 (J a2),p 7 (O 53),p 8 (I v12),p 9 (R 9),p 11 (R 11),p 19 (L y139 v0.2.2.2.1),p 20 (I (↑v0.2.2.2.1.length:Int)),p 21 (I v12),p 27 (O 27),p 28 (I (↑v14.length:Int)),p 29 (I v18)] [(11,Ob.box 192 (cellsD true (i64.pr i64) v20)),(27,A 192 (i64.pr i64) v14 0),(9,K 139 y139 v13),(53,A 91 y91 v19 0)]) H fun v20 H =>
    zD (fun (v21,v22)=>Z [p 2 (J a2),p 7 (AV.os 53 1),p 8 (I v12),p 9 (R 9),p 19 (L y139 v0.2.2.2.1),p 20 (I (↑v0.2.2.2.1.length:Int)),p 21 (I v12),p 27 (O 27),p 28 (I (↑v14.length:Int)),p 29 (I v18)] [(53,A 91 y91 v21 1),(52,A 91 y91 v22 0),(11,Ob.box 192 (cellsD true (i64.pr i64) v20)),(27,A 192 (i64.pr i64) v14 0),(9,K 139 y139 v13)]) H fun ⟨v21,v22⟩ H =>
    fx_blk<|fx_seq <|
    zB (Z [p 2 (J a2),p 7 (AV.os 53 1),p 8 (I v12),p 9 (R 9),p 19 (L y139 v0.2.2.2.1),p 20 (I (↑v0.2.2.2.1.length:Int)),p 21 (I v12),p 27 (O 27),p 28 (I (↑v14.length:Int)),p 29 (I (v18+1))] [(53,A 91 y91 v21 1),(52,A 91 y91 v22 0),(11,Ob.box 192 (cellsD true (i64.pr i64) v20)),(27,A 192 (i64.pr i64) v14 0),(9,K 139 y139 v13)]) H fun H =>
    b3 H
  exact vx_exit<|fx_seq_exit<|e3<|fx_blk_exit rfl<|fx_blk<|n2 H
 exact vx_exit<|fx_seq_exit<|e1<|fx_blk_exit rfl<|n0 H
def u51J5 (a0:Y46) (v0:List Y146):List Y91×List Int×List (List Int)→Option (Y86)
 | (v97,v98,v99) =>
 some (a0,v0,v97,v98,v99,[])
def u51J7 (v71:Int) (g6:Int×List Int×List (List Int)×List Y91→Option (Y86)):List (List Int)×List Int×List Y91→Option (Y86)
 | (v94,v95,v96) =>
 gd (in64 (v71+1)∧True) <|
 g6 (v71+1,v95,v94,v96)
def u51J9 (v85:Int) (g8:Int×List Y91→Option (Y86)):List Y91→Option (Y86)
 | v93 =>
 gd (in64 (v85+1)∧True) <|
 g8 (v85+1,v93)
def u51L10 (v24:List Int) (v71:Int) (v23:List (List Int)) (v85:Int) (g8:Int×List Y91→Option (Y86)) (g10:Int×List Y91→Option (Y86)):Int×List Y91→Option (Y86)
 | (v89,v90) =>
 if (decide (v89 < 2))=true then
  gd (ix v71 v24.length∧v71.toNat < v24.length∧in64 ((2:Int)*v24.getD v71.toNat (0:Int))∧in64 ((2:Int)*v24.getD v71.toNat (0:Int)+v89)∧in64 ((2:Int)*List.getD (v23.getD v71.toNat []) v85.toNat (0:Int))∧in64 ((2:Int)*List.getD (v23.getD v71.toNat []) v85.toNat (0:Int)+v89)∧(v90.length+[((2:Int)*v24.getD v71.toNat (0:Int)+v89,(2:Int)*List.getD (v23.getD v71.toNat []) v85.toNat (0:Int)+v89,(2:Int),v85)].length≤9223372036854775807∧(v90.length+[((2:Int)*v24.getD v71.toNat (0:Int)+v89,(2:Int)*List.getD (v23.getD v71.toNat []) v85.toNat (0:Int)+v89,(2:Int),v85)].length)*32≤140737488355328)∧True)<|lt ((v90++[((2:Int)*v24.getD v71.toNat (0:Int)+v89,(2:Int)*List.getD (v23.getD v71.toNat []) v85.toNat (0:Int)+v89,(2:Int),v85)],[((2:Int)*v24.getD v71.toNat (0:Int)+v89,(2:Int)*List.getD (v23.getD v71.toNat []) v85.toNat (0:Int)+v89,(2:Int),v85)])) fun (v91,v92) =>
  gd (in64 (v89+1)∧True) <|
  g10 (v89+1,v91)
 else
  u51J9 v85 g8 v90
def u51L8 (v24:List Int) (v71:Int) (v23:List (List Int)) (v73:List (List Int)) (v76:List Int) (v72:List Int) (v75:List Int) (g6:Int×List Int×List (List Int)×List Y91→Option (Y86)) (g8:Int×List Y91→Option (Y86)):Int×List Y91→Option (Y86)
 | (v85,v86) =>
 if (decide (v85 < (↑(List.length (v23.getD v71.toNat [])):Int)))=true then
  gd (ix v85 (List.length (v23.getD v71.toNat []))∧True) <|
  lp (u51L10 v24 v71 v23 v85 g8) (0,v86)
 else
  u51J7 v71 g6 ((v73++[v76],v72++[v75.getD (Int.toNat (0:Int)) (0:Int)],v86))
def u51L6 (v24:List Int) (v23:List (List Int)) (a0:Y46) (v0:List Y146) (g6:Int×List Int×List (List Int)×List Y91→Option (Y86)):Int×List Int×List (List Int)×List Y91→Option (Y86)
 | (v71,v72,v73,v74) =>
 if (decide (v71 < (↑a0.2.2.length:Int)))=true then
  gd ((u100 a0 v71).isSome=true∧ix (0:Int) (vl (u100 a0 v71)).length∧Int.toNat (0:Int) < (vl (u100 a0 v71)).length∧(v72.length+[(vl (u100 a0 v71)).getD (Int.toNat (0:Int)) (0:Int)].length≤9223372036854775807∧(v72.length+[(vl (u100 a0 v71)).getD (Int.toNat (0:Int)) (0:Int)].length)*8≤140737488355328)∧True)<|lt (vl (u100 a0 v71)) fun v75 =>
  gd ((u40 a0 v71).isSome=true∧(v73.length+[vl (u40 a0 v71)].length≤9223372036854775807∧(v73.length+[vl (u40 a0 v71)].length)*24≤140737488355328)∧True)<|lt (vl (u40 a0 v71)) fun v76 =>
  gd (ix v71 v23.length∧True) <|
  lp (u51L8 v24 v71 v23 v73 v76 v72 v75 g6) (0,v74)
 else
  u51J5 a0 v0 (v74,v72,v73)
def u51J2 (a0:Y46) (v0:List Y146) (v10:List Y91):List (List Int)×List Int→Option (Y86)
 | (v23,v24) =>
 lp (u51L6 v24 v23 a0 v0) (0,[],[],v10)
def u51J4 (v16:Int) (g3:Int×List (List Int)×List Int→Option (Y86)):List Int×List (List Int)→Option (Y86)
 | (v21,v22) =>
 gd (in64 (v16+1)∧True) <|
 g3 (v16+1,v22,v21)
def u51L3 (v0:List Y146) (a0:Y46) (v10:List Y91) (g3:Int×List (List Int)×List Int→Option (Y86)):Int×List (List Int)×List Int→Option (Y86)
 | (v16,v17,v18) =>
 if (decide (v16 < (↑v0.length:Int)))=true then
  gd (ix v16 v0.length∧v16.toNat < v0.length∧True)<|lt (v0.getD v16.toNat (dflt y146)) fun v19 =>
  if v19.2.2.2=true then
   gd (ix v19.2.2.1 v18.length∧v19.2.2.1.toNat < v18.length∧True) <|
   u51J4 v16 g3 (v18.set v19.2.2.1.toNat v16,v17)
  else
   gd (ix v19.2.2.1 v17.length∧v19.2.2.1.toNat < v17.length∧((v17.getD v19.2.2.1.toNat []).length+[v16].length≤9223372036854775807∧((v17.getD v19.2.2.1.toNat []).length+[v16].length)*8≤140737488355328)∧ix v19.2.2.1 v17.length∧(v19.2.2.1.toNat < v17.length∧v19.2.2.1.toNat=v19.2.2.1.toNat)∧True)<|lt (v17.set v19.2.2.1.toNat (v17.getD v19.2.2.1.toNat []++[v16])) fun v20 =>
   u51J4 v16 g3 (v18,v20)
 else
  u51J2 a0 v0 v10 (v17,v18)
def u51J0 (v0:List Y146) (a0:Y46):List Y91→Option (Y86)
 | v10 =>
 gd ((0≤(↑a0.2.2.length:Int)∧(↑a0.2.2.length:Int)=(↑a0.2.2.length:Int)∧(↑a0.2.2.length:Int).toNat*8≤281474976710656∧(↑a0.2.2.length:Int)≤9223372036854775807)∧True) <|
 gd ((0≤(↑a0.2.2.length:Int)∧(↑a0.2.2.length:Int)=(↑a0.2.2.length:Int)∧(↑a0.2.2.length:Int).toNat*24≤281474976710656∧(↑a0.2.2.length:Int)≤9223372036854775807)∧True) <|
 lp (u51L3 v0 a0 v10) ((0,List.replicate (↑a0.2.2.length:Int).toNat [],List.replicate (↑a0.2.2.length:Int).toNat 0))
def u51L1 (a0:Y46) (v0:List Y146) (g1:Int×Int×List Y91→Option (Y86)):Int×Int×List Y91→Option (Y86)
 | (v4,v5,v6) =>
 if (decide (v5 < (↑a0.2.1.1.length:Int)))=true then
  gd (ix v5 a0.2.1.1.length∧True)<|lt (a0.2.1.1.getD v5.toNat (dflt y136)) fun v7 =>
  gd ((u98 a0 v7 v4).isSome=true∧(v6.length+(vl (u98 a0 v7 v4)).length≤9223372036854775807∧(v6.length+(vl (u98 a0 v7 v4)).length)*32≤140737488355328)∧True)<|lt (vl (u98 a0 v7 v4)) fun v8 =>
  gd ((u99 v7.2.2).isSome=true∧in64 (v4+vl (u99 v7.2.2))∧True)<|lt (vl (u99 v7.2.2)) fun v9 =>
  gd (in64 (v5+1)∧True) <|
  g1 (v4+v9,v5+1,v6++v8)
 else
  u51J0 v0 a0 v6
def u51 (a0:Y46):Option (Y86) :=
 gd ((u96 a0.2.1).isSome=true∧True)<|lt (vl (u96 a0.2.1)) fun v0 =>
 lp (u51L1 a0 v0) (0,0,[])
def k51:Ct:=lct 51 [.agg y46] (fun x=>u51 x.1) (fun r:Y86=>D y86.pt r) (fun _=>())
theorem o51:Ok Tryz.prog k51:=by
 refine okL [.tmp 2] Tryz.func51 Tryz.ntmps51 Tryz.results51 ?_
 intro y ⟨a0,_⟩ r H Q hn hr
 have:HT _ _:=⟨tc o40d (tc o100 (tc o99 (tc o98 (tc o96 tn))))⟩
 refine qA (Z [p 1 (R 1)] [(1,K 46 y46 a0)]) <|
  qD (fun v0=>Z [p 1 (R 1),p 3 (R 20)] [(20,Ob.box 86 [L y134 a0.1,L y136 a0.2.1.1,L Ty.str a0.2.1.2.1,L y172 a0.2.1.2.2,L y114 a0.2.2,AV.os 18 0,nil,nil,nil,nil]),(18,A 146 y146 v0 0),(1,K 46 y46 a0)]) H fun v0 H =>
  qA (Z [p 1 (R 1),p 3 (R 20),p 4 (I 0)] [(20,Ob.box 86 [L y134 a0.1,L y136 a0.2.1.1,L Ty.str a0.2.1.2.1,L y172 a0.2.1.2.2,L y114 a0.2.2,AV.os 18 0,nil,nil,nil,nil]),(18,A 146 y146 v0 0),(1,K 46 y46 a0)]) <|
  jN r (fun (v10:List Y91)=>Z [p 1 (R 1),p 3 (R 20)] [(20,Ob.box 86 [L y134 a0.1,L y136 a0.2.1.1,L Ty.str a0.2.1.2.1,L y172 a0.2.1.2.2,L y114 a0.2.2,AV.os 18 0,AV.os 38 0,nil,nil,nil]),(18,A 146 y146 v0 0),(1,K 46 y46 a0),(38,A 91 y91 v10 0)]) (u51J0 v0 a0) (fun v10 H=>?_) (fun _ n0 e0 t0=>?_)
 ·refine qB (Z [p 1 (R 1),p 3 (R 20),p 7 (O 50)] [(50,A 2 i64 (List.replicate (↑a0.2.2.length:Int).toNat 0) 0),(20,Ob.box 86 [L y134 a0.1,L y136 a0.2.1.1,L Ty.str a0.2.1.2.1,L y172 a0.2.1.2.2,L y114 a0.2.2,AV.os 18 0,AV.os 38 0,nil,nil,nil]),(18,A 146 y146 v0 0),(1,K 46 y46 a0),(38,A 91 y91 v10 0)]) H fun H =>
   qB (Z [p 1 (R 1),p 3 (R 20),p 7 (O 50),p 8 (AV.og 54)] [(54,Ob.grd 34 2 true i64 (List.replicate (↑a0.2.2.length:Int).toNat []) none),(50,A 2 i64 (List.replicate (↑a0.2.2.length:Int).toNat 0) 0),(20,Ob.box 86 [L y134 a0.1,L y136 a0.2.1.1,L Ty.str a0.2.1.2.1,L y172 a0.2.1.2.2,L y114 a0.2.2,AV.os 18 0,AV.os 38 0,nil,nil,nil]),(18,A 146 y146 v0 0),(1,K 46 y46 a0),(38,A 91 y91 v10 0)]) H fun H =>
   jN r (fun ((v23,v24):List (List Int)×List Int)=>Z [p 1 (R 1),p 3 (R 20),p 7 (O 50),p 8 (AV.og 54)] [(54,Ob.grd 34 2 true i64 v23 none),(50,A 2 i64 v24 0),(20,Ob.box 86 [L y134 a0.1,L y136 a0.2.1.1,L Ty.str a0.2.1.2.1,L y172 a0.2.1.2.2,L y114 a0.2.2,AV.os 18 0,AV.os 38 0,nil,nil,nil]),(18,A 146 y146 v0 0),(1,K 46 y46 a0),(38,A 91 y91 v10 0)]) (u51J2 a0 v0 v10) (fun ⟨v23,v24⟩ H=>?_) (fun _ n2 e2 t2=>?_)
  ·refine jN r (fun ((v97,v98,v99):List Y91×List Int×List (List Int))=>Z [p 3 (R 20)] [(20,Ob.box 86 [L y134 a0.1,L y136 a0.2.1.1,L Ty.str a0.2.1.2.1,L y172 a0.2.1.2.2,L y114 a0.2.2,AV.os 18 0,AV.os 38 0,AV.os 102 0,AV.os 114 0,nil]),(18,A 146 y146 v0 0),(38,A 91 y91 v97 0),(102,A 2 i64 v98 0),(114,A 34 i64.sl v99 0)]) (u51J5 a0 v0) (fun ⟨v97,v98,v99⟩ H=>?_) (fun _ n5 e5 t5=>?_)
   ·refine qA (Z [p 2 (R 20)] [(20,Ob.box 86 [L y134 a0.1,L y136 a0.2.1.1,L Ty.str a0.2.1.2.1,L y172 a0.2.1.2.2,L y114 a0.2.2,AV.os 18 0,AV.os 38 0,AV.os 102 0,AV.os 114 0,nil]),(18,A 146 y146 v0 0),(38,A 91 y91 v97 0),(102,A 2 i64 v98 0),(114,A 34 i64.sl v99 0)]) <|
     vx_ret<|hr H
   refine qA (Z [p 1 (R 1),p 3 (R 20),p 7 (O 50),p 8 (AV.og 54),p 87 (I (↑a0.2.2.length:Int)),p 88 (I 0)] [(54,Ob.grd 34 2 true i64 v23 none),(50,A 2 i64 v24 0),(20,Ob.box 86 [L y134 a0.1,L y136 a0.2.1.1,L Ty.str a0.2.1.2.1,L y172 a0.2.1.2.2,L y114 a0.2.2,AV.os 18 0,AV.os 38 0,nil,nil,nil]),(18,A 146 y146 v0 0),(1,K 46 y46 a0),(38,A 91 y91 v10 0)]) <|
    vx_block <|
    fZ 54 (Z [p 1 (R 1),p 3 (R 20),p 7 (O 50),p 8 (M i64.sl v23),p 87 (I (↑a0.2.2.length:Int)),p 88 (I 0)] [(50,A 2 i64 v24 0),(20,Ob.box 86 [L y134 a0.1,L y136 a0.2.1.1,L Ty.str a0.2.1.2.1,L y172 a0.2.1.2.2,L y114 a0.2.2,AV.os 18 0,AV.os 38 0,nil,nil,nil]),(18,A 146 y146 v0 0),(1,K 46 y46 a0),(38,A 91 y91 v10 0)]) <|
    lX (fun ((v71,v72,v73,v74):Int×List Int×List (List Int)×List Y91)=>Z [p 1 (R 1),p 3 (R 20),p 7 (O 50),p 8 (M i64.sl v23),p 87 (I (↑a0.2.2.length:Int)),p 88 (I v71)] [(50,A 2 i64 v24 0),(20,Ob.box 86 [L y134 a0.1,L y136 a0.2.1.1,L Ty.str a0.2.1.2.1,L y172 a0.2.1.2.2,L y114 a0.2.2,AV.os 18 0,AV.os 38 0,AV.os 102 0,AV.os 114 0,nil]),(18,A 146 y146 v0 0),(1,K 46 y46 a0),(38,A 91 y91 v74 0),(102,A 2 i64 v72 0),(114,A 34 i64.sl v73 0)]) (0,[],[],v10) H fun _ g6 b6 e6 t6 ⟨v71,v72,v73,v74⟩ H =>
    qA (Z [p 1 (R 1),p 3 (R 20),p 7 (O 50),p 8 (M i64.sl v23),p 87 (I (↑a0.2.2.length:Int)),p 88 (I v71),p 89 (B (decide (v71 < (↑a0.2.2.length:Int))))] [(50,A 2 i64 v24 0),(20,Ob.box 86 [L y134 a0.1,L y136 a0.2.1.1,L Ty.str a0.2.1.2.1,L y172 a0.2.1.2.2,L y114 a0.2.2,AV.os 18 0,AV.os 38 0,AV.os 102 0,AV.os 114 0,nil]),(18,A 146 y146 v0 0),(1,K 46 y46 a0),(38,A 91 y91 v74 0),(102,A 2 i64 v72 0),(114,A 34 i64.sl v73 0)]) <|
    vx_seq <|
    cD H (fun H=>?_) (fun H=>?_)
   ·refine vx_skip<|fx_seq <|
     jN r (fun ((v94,v95,v96):List (List Int)×List Int×List Y91)=>Z [p 1 (R 1),p 3 (R 20),p 7 (O 50),p 8 (M i64.sl v23),p 87 (I (↑a0.2.2.length:Int)),p 88 (I v71)] [(20,Ob.box 86 [L y134 a0.1,L y136 a0.2.1.1,L Ty.str a0.2.1.2.1,L y172 a0.2.1.2.2,L y114 a0.2.2,AV.os 18 0,AV.os 38 0,AV.os 102 0,AV.os 114 0,nil]),(114,A 34 i64.sl v94 0),(102,A 2 i64 v95 0),(50,A 2 i64 v24 0),(18,A 146 y146 v0 0),(1,K 46 y46 a0),(38,A 91 y91 v96 0)]) (u51J7 v71 g6) (fun ⟨v94,v95,v96⟩ H=>?_) (fun _ n7 e7 t7=>?_)
    ·refine zB (Z [p 1 (R 1),p 3 (R 20),p 7 (O 50),p 8 (M i64.sl v23),p 87 (I (↑a0.2.2.length:Int)),p 88 (I (v71+1))] [(20,Ob.box 86 [L y134 a0.1,L y136 a0.2.1.1,L Ty.str a0.2.1.2.1,L y172 a0.2.1.2.2,L y114 a0.2.2,AV.os 18 0,AV.os 38 0,AV.os 102 0,AV.os 114 0,nil]),(114,A 34 i64.sl v94 0),(102,A 2 i64 v95 0),(50,A 2 i64 v24 0),(18,A 146 y146 v0 0),(1,K 46 y46 a0),(38,A 91 y91 v96 0)]) H fun H =>
      b6 H
    refine vx_block <|
     qA (Z [p 1 (R 1),p 3 (R 20),p 7 (O 50),p 8 (M i64.sl v23),p 11 (I v71),p 87 (I (↑a0.2.2.length:Int)),p 88 (I v71)] [(50,A 2 i64 v24 0),(20,Ob.box 86 [L y134 a0.1,L y136 a0.2.1.1,L Ty.str a0.2.1.2.1,L y172 a0.2.1.2.2,L y114 a0.2.2,AV.os 18 0,AV.os 38 0,AV.os 102 0,AV.os 114 0,nil]),(18,A 146 y146 v0 0),(1,K 46 y46 a0),(38,A 91 y91 v74 0),(102,A 2 i64 v72 0),(114,A 34 i64.sl v73 0)]) <|
     qD (fun v75=>Z [p 1 (R 1),p 3 (R 20),p 7 (O 50),p 8 (M i64.sl v23),p 11 (I v71),p 87 (I (↑a0.2.2.length:Int)),p 88 (I v71)] [(20,Ob.box 86 [L y134 a0.1,L y136 a0.2.1.1,L Ty.str a0.2.1.2.1,L y172 a0.2.1.2.2,L y114 a0.2.2,AV.os 18 0,AV.os 38 0,AV.os 102 1,AV.os 114 0,nil]),(102,A 2 i64 (v72++[v75.getD (Int.toNat (0:Int)) (0:Int)]) 1),(101,A 2 i64 [v75.getD (Int.toNat (0:Int)) (0:Int)] 0),(98,A 2 i64 v75 0),(50,A 2 i64 v24 0),(18,A 146 y146 v0 0),(1,K 46 y46 a0),(38,A 91 y91 v74 0),(114,A 34 i64.sl v73 0)]) H fun v75 H =>
     qD (fun v76=>Z [p 1 (R 1),p 3 (R 20),p 7 (O 50),p 8 (M i64.sl v23),p 11 (I v71),p 87 (I (↑a0.2.2.length:Int)),p 88 (I v71)] [(20,Ob.box 86 [L y134 a0.1,L y136 a0.2.1.1,L Ty.str a0.2.1.2.1,L y172 a0.2.1.2.2,L y114 a0.2.2,AV.os 18 0,AV.os 38 0,AV.os 102 1,AV.os 114 1,nil]),(114,A 34 i64.sl (v73++[v76]) 1),(113,A 34 i64.sl [v76] 0),(102,A 2 i64 (v72++[v75.getD (Int.toNat (0:Int)) (0:Int)]) 1),(101,A 2 i64 [v75.getD (Int.toNat (0:Int)) (0:Int)] 0),(98,A 2 i64 v75 0),(50,A 2 i64 v24 0),(18,A 146 y146 v0 0),(1,K 46 y46 a0),(38,A 91 y91 v74 0)]) H fun v76 H =>
     qB (Z [p 1 (R 1),p 3 (R 20),p 7 (O 50),p 8 (M i64.sl v23),p 11 (I v71),p 87 (I (↑a0.2.2.length:Int)),p 88 (I v71),p 120 (M i64 (v23.getD v71.toNat [])),p 121 (I (↑(List.length (v23.getD v71.toNat [])):Int)),p 122 (I (0:Int))] [(20,Ob.box 86 [L y134 a0.1,L y136 a0.2.1.1,L Ty.str a0.2.1.2.1,L y172 a0.2.1.2.2,L y114 a0.2.2,AV.os 18 0,AV.os 38 0,AV.os 102 1,AV.os 114 1,nil]),(114,A 34 i64.sl (v73++[v76]) 1),(113,A 34 i64.sl [v76] 0),(102,A 2 i64 (v72++[v75.getD (Int.toNat (0:Int)) (0:Int)]) 1),(101,A 2 i64 [v75.getD (Int.toNat (0:Int)) (0:Int)] 0),(98,A 2 i64 v75 0),(50,A 2 i64 v24 0),(18,A 146 y146 v0 0),(1,K 46 y46 a0),(38,A 91 y91 v74 0)]) H fun H =>
     vx_block <|
     lX (fun ((v85,v86):Int×List Y91)=>Z [p 1 (R 1),p 3 (R 20),p 7 (O 50),p 8 (M i64.sl v23),p 11 (I v71),p 87 (I (↑a0.2.2.length:Int)),p 88 (I v71),p 120 (M i64 (v23.getD v71.toNat [])),p 121 (I (↑(List.length (v23.getD v71.toNat [])):Int)),p 122 (I v85)] [(20,Ob.box 86 [L y134 a0.1,L y136 a0.2.1.1,L Ty.str a0.2.1.2.1,L y172 a0.2.1.2.2,L y114 a0.2.2,AV.os 18 0,AV.os 38 0,AV.os 102 0,AV.os 114 0,nil]),(114,A 34 i64.sl (v73++[v76]) 0),(102,A 2 i64 (v72++[v75.getD (Int.toNat (0:Int)) (0:Int)]) 0),(50,A 2 i64 v24 0),(18,A 146 y146 v0 0),(1,K 46 y46 a0),(38,A 91 y91 v86 0)]) (0,v74) H fun _ g8 b8 e8 t8 ⟨v85,v86⟩ H =>
     qA (Z [p 1 (R 1),p 3 (R 20),p 7 (O 50),p 8 (M i64.sl v23),p 11 (I v71),p 87 (I (↑a0.2.2.length:Int)),p 88 (I v71),p 120 (M i64 (v23.getD v71.toNat [])),p 121 (I (↑(List.length (v23.getD v71.toNat [])):Int)),p 122 (I v85),p 123 (B (decide (v85 < (↑(List.length (v23.getD v71.toNat [])):Int))))] [(20,Ob.box 86 [L y134 a0.1,L y136 a0.2.1.1,L Ty.str a0.2.1.2.1,L y172 a0.2.1.2.2,L y114 a0.2.2,AV.os 18 0,AV.os 38 0,AV.os 102 0,AV.os 114 0,nil]),(114,A 34 i64.sl (v73++[v76]) 0),(102,A 2 i64 (v72++[v75.getD (Int.toNat (0:Int)) (0:Int)]) 0),(50,A 2 i64 v24 0),(18,A 146 y146 v0 0),(1,K 46 y46 a0),(38,A 91 y91 v86 0)]) <|
     vx_seq <|
     cD H (fun H=>?_) (fun H=>?_)
    ·refine vx_skip<|fx_seq <|
      jN r (fun (v93:List Y91)=>Z [p 1 (R 1),p 3 (R 20),p 7 (O 50),p 8 (M i64.sl v23),p 11 (I v71),p 87 (I (↑a0.2.2.length:Int)),p 88 (I v71),p 120 (M i64 (v23.getD v71.toNat [])),p 121 (I (↑(List.length (v23.getD v71.toNat [])):Int)),p 122 (I v85)] [(20,Ob.box 86 [L y134 a0.1,L y136 a0.2.1.1,L Ty.str a0.2.1.2.1,L y172 a0.2.1.2.2,L y114 a0.2.2,AV.os 18 0,AV.os 38 0,AV.os 102 0,AV.os 114 0,nil]),(114,A 34 i64.sl (v73++[v76]) 0),(102,A 2 i64 (v72++[v75.getD (Int.toNat (0:Int)) (0:Int)]) 0),(50,A 2 i64 v24 0),(18,A 146 y146 v0 0),(1,K 46 y46 a0),(38,A 91 y91 v93 0)]) (u51J9 v85 g8) (fun v93 H=>?_) (fun _ n9 e9 t9=>?_)
     ·refine zB (Z [p 1 (R 1),p 3 (R 20),p 7 (O 50),p 8 (M i64.sl v23),p 11 (I v71),p 87 (I (↑a0.2.2.length:Int)),p 88 (I v71),p 120 (M i64 (v23.getD v71.toNat [])),p 121 (I (↑(List.length (v23.getD v71.toNat [])):Int)),p 122 (I (v85+(1:Int)))] [(20,Ob.box 86 [L y134 a0.1,L y136 a0.2.1.1,L Ty.str a0.2.1.2.1,L y172 a0.2.1.2.2,L y114 a0.2.2,AV.os 18 0,AV.os 38 0,AV.os 102 0,AV.os 114 0,nil]),(114,A 34 i64.sl (v73++[v76]) 0),(102,A 2 i64 (v72++[v75.getD (Int.toNat (0:Int)) (0:Int)]) 0),(50,A 2 i64 v24 0),(18,A 146 y146 v0 0),(1,K 46 y46 a0),(38,A 91 y91 v93 0)]) H fun H =>
       b8 H
     refine vx_block <|
      qB (Z [p 1 (R 1),p 3 (R 20),p 7 (O 50),p 8 (M i64.sl v23),p 11 (I v71),p 12 (I v85),p 13 (I (List.getD (v23.getD v71.toNat []) v85.toNat (0:Int))),p 87 (I (↑a0.2.2.length:Int)),p 88 (I v71),p 120 (M i64 (v23.getD v71.toNat [])),p 121 (I (↑(List.length (v23.getD v71.toNat [])):Int)),p 122 (I v85)] [(20,Ob.box 86 [L y134 a0.1,L y136 a0.2.1.1,L Ty.str a0.2.1.2.1,L y172 a0.2.1.2.2,L y114 a0.2.2,AV.os 18 0,AV.os 38 0,AV.os 102 0,AV.os 114 0,nil]),(114,A 34 i64.sl (v73++[v76]) 0),(102,A 2 i64 (v72++[v75.getD (Int.toNat (0:Int)) (0:Int)]) 0),(50,A 2 i64 v24 0),(18,A 146 y146 v0 0),(1,K 46 y46 a0),(38,A 91 y91 v86 0)]) H fun H =>
      qA (Z [p 1 (R 1),p 3 (R 20),p 7 (O 50),p 8 (M i64.sl v23),p 11 (I v71),p 12 (I v85),p 13 (I (List.getD (v23.getD v71.toNat []) v85.toNat (0:Int))),p 87 (I (↑a0.2.2.length:Int)),p 88 (I v71),p 120 (M i64 (v23.getD v71.toNat [])),p 121 (I (↑(List.length (v23.getD v71.toNat [])):Int)),p 122 (I v85),p 127 (I (0:Int))] [(20,Ob.box 86 [L y134 a0.1,L y136 a0.2.1.1,L Ty.str a0.2.1.2.1,L y172 a0.2.1.2.2,L y114 a0.2.2,AV.os 18 0,AV.os 38 0,AV.os 102 0,AV.os 114 0,nil]),(114,A 34 i64.sl (v73++[v76]) 0),(102,A 2 i64 (v72++[v75.getD (Int.toNat (0:Int)) (0:Int)]) 0),(50,A 2 i64 v24 0),(18,A 146 y146 v0 0),(1,K 46 y46 a0),(38,A 91 y91 v86 0)]) <|
      vx_block <|
      lX (fun ((v89,v90):Int×List Y91)=>Z [p 1 (R 1),p 3 (R 20),p 7 (O 50),p 8 (M i64.sl v23),p 11 (I v71),p 12 (I v85),p 13 (I (List.getD (v23.getD v71.toNat []) v85.toNat (0:Int))),p 87 (I (↑a0.2.2.length:Int)),p 88 (I v71),p 120 (M i64 (v23.getD v71.toNat [])),p 121 (I (↑(List.length (v23.getD v71.toNat [])):Int)),p 122 (I v85),p 127 (I v89)] [(20,Ob.box 86 [L y134 a0.1,L y136 a0.2.1.1,L Ty.str a0.2.1.2.1,L y172 a0.2.1.2.2,L y114 a0.2.2,AV.os 18 0,AV.os 38 0,AV.os 102 0,AV.os 114 0,nil]),(114,A 34 i64.sl (v73++[v76]) 0),(102,A 2 i64 (v72++[v75.getD (Int.toNat (0:Int)) (0:Int)]) 0),(50,A 2 i64 v24 0),(18,A 146 y146 v0 0),(1,K 46 y46 a0),(38,A 91 y91 v90 0)]) (0,v86) H fun _ g10 b10 e10 t10 ⟨v89,v90⟩ H =>
      qA (Z [p 1 (R 1),p 3 (R 20),p 7 (O 50),p 8 (M i64.sl v23),p 11 (I v71),p 12 (I v85),p 13 (I (List.getD (v23.getD v71.toNat []) v85.toNat (0:Int))),p 87 (I (↑a0.2.2.length:Int)),p 88 (I v71),p 120 (M i64 (v23.getD v71.toNat [])),p 121 (I (↑(List.length (v23.getD v71.toNat [])):Int)),p 122 (I v85),p 127 (I v89),p 128 (B (decide (v89 < (2:Int))))] [(20,Ob.box 86 [L y134 a0.1,L y136 a0.2.1.1,L Ty.str a0.2.1.2.1,L y172 a0.2.1.2.2,L y114 a0.2.2,AV.os 18 0,AV.os 38 0,AV.os 102 0,AV.os 114 0,nil]),(114,A 34 i64.sl (v73++[v76]) 0),(102,A 2 i64 (v72++[v75.getD (Int.toNat (0:Int)) (0:Int)]) 0),(50,A 2 i64 v24 0),(18,A 146 y146 v0 0),(1,K 46 y46 a0),(38,A 91 y91 v90 0)]) <|
      vx_seq <|
      cD H (fun H=>?_) (fun H=>?_)
     ·refine vx_skip<|fx_seq<|vx_seq<|vx_block <|
       qA (Z [p 1 (R 1),p 3 (R 20),p 7 (O 50),p 8 (M i64.sl v23),p 11 (I v71),p 12 (I v85),p 13 (I (List.getD (v23.getD v71.toNat []) v85.toNat (0:Int))),p 14 (I v89),p 87 (I (↑a0.2.2.length:Int)),p 88 (I v71),p 120 (M i64 (v23.getD v71.toNat [])),p 121 (I (↑(List.length (v23.getD v71.toNat [])):Int)),p 122 (I v85),p 127 (I v89)] [(20,Ob.box 86 [L y134 a0.1,L y136 a0.2.1.1,L Ty.str a0.2.1.2.1,L y172 a0.2.1.2.2,L y114 a0.2.2,AV.os 18 0,AV.os 38 0,AV.os 102 0,AV.os 114 0,nil]),(114,A 34 i64.sl (v73++[v76]) 0),(102,A 2 i64 (v72++[v75.getD (Int.toNat (0:Int)) (0:Int)]) 0),(50,A 2 i64 v24 0),(18,A 146 y146 v0 0),(1,K 46 y46 a0),(38,A 91 y91 v90 0)]) <|
       zD (fun (v91,v92)=>Z [p 1 (R 1),p 3 (R 20),p 7 (O 50),p 8 (M i64.sl v23),p 11 (I v71),p 12 (I v85),p 13 (I (List.getD (v23.getD v71.toNat []) v85.toNat (0:Int))),p 87 (I (↑a0.2.2.length:Int)),p 88 (I v71),p 120 (M i64 (v23.getD v71.toNat [])),p 121 (I (↑(List.length (v23.getD v71.toNat [])):Int)),p 122 (I v85),p 127 (I v89)] [(20,Ob.box 86 [L y134 a0.1,L y136 a0.2.1.1,L Ty.str a0.2.1.2.1,L y172 a0.2.1.2.2,L y114 a0.2.2,AV.os 18 0,AV.os 38 1,AV.os 102 0,AV.os 114 0,nil]),(38,A 91 y91 v91 1),(148,A 91 y91 v92 0),(114,A 34 i64.sl (v73++[v76]) 0),(102,A 2 i64 (v72++[v75.getD (Int.toNat (0:Int)) (0:Int)]) 0),(50,A 2 i64 v24 0),(18,A 146 y146 v0 0),(1,K 46 y46 a0)]) H fun ⟨v91,v92⟩ H =>
       fx_blk<|fx_seq <|
       zB (Z [p 1 (R 1),p 3 (R 20),p 7 (O 50),p 8 (M i64.sl v23),p 11 (I v71),p 12 (I v85),p 13 (I (List.getD (v23.getD v71.toNat []) v85.toNat (0:Int))),p 87 (I (↑a0.2.2.length:Int)),p 88 (I v71),p 120 (M i64 (v23.getD v71.toNat [])),p 121 (I (↑(List.length (v23.getD v71.toNat [])):Int)),p 122 (I v85),p 127 (I (v89+(1:Int)))] [(20,Ob.box 86 [L y134 a0.1,L y136 a0.2.1.1,L Ty.str a0.2.1.2.1,L y172 a0.2.1.2.2,L y114 a0.2.2,AV.os 18 0,AV.os 38 1,AV.os 102 0,AV.os 114 0,nil]),(38,A 91 y91 v91 1),(148,A 91 y91 v92 0),(114,A 34 i64.sl (v73++[v76]) 0),(102,A 2 i64 (v72++[v75.getD (Int.toNat (0:Int)) (0:Int)]) 0),(50,A 2 i64 v24 0),(18,A 146 y146 v0 0),(1,K 46 y46 a0)]) H fun H =>
       b10 H
     exact vx_exit<|fx_seq_exit<|e10<|fx_blk_exit rfl<|fx_blk<|n9 H
    exact vx_exit<|fx_seq_exit<|e8<|fx_blk_exit rfl<|fx_blk<|n7 H
   exact vx_exit<|fx_seq_exit<|e6<|fx_blk_exit rfl<|n5 H
  refine qA (Z [p 1 (R 1),p 3 (R 20),p 7 (O 50),p 8 (AV.og 54),p 58 (O 18),p 59 (I (↑v0.length:Int)),p 60 (I 0)] [(54,Ob.grd 34 2 true i64 (List.replicate (↑a0.2.2.length:Int).toNat []) none),(50,A 2 i64 (List.replicate (↑a0.2.2.length:Int).toNat 0) 0),(20,Ob.box 86 [L y134 a0.1,L y136 a0.2.1.1,L Ty.str a0.2.1.2.1,L y172 a0.2.1.2.2,L y114 a0.2.2,AV.os 18 0,AV.os 38 0,nil,nil,nil]),(18,A 146 y146 v0 0),(1,K 46 y46 a0),(38,A 91 y91 v10 0)]) <|
   vx_block <|
   lX (fun ((v16,v17,v18):Int×List (List Int)×List Int)=>Z [p 1 (R 1),p 3 (R 20),p 7 (O 50),p 8 (AV.og 54),p 58 (O 18),p 59 (I (↑v0.length:Int)),p 60 (I v16)] [(54,Ob.grd 34 2 true i64 v17 none),(50,A 2 i64 v18 0),(20,Ob.box 86 [L y134 a0.1,L y136 a0.2.1.1,L Ty.str a0.2.1.2.1,L y172 a0.2.1.2.2,L y114 a0.2.2,AV.os 18 0,AV.os 38 0,nil,nil,nil]),(18,A 146 y146 v0 0),(1,K 46 y46 a0),(38,A 91 y91 v10 0)]) ((0,List.replicate (↑a0.2.2.length:Int).toNat [],List.replicate (↑a0.2.2.length:Int).toNat 0)) H fun _ g3 b3 e3 t3 ⟨v16,v17,v18⟩ H =>
   qA (Z [p 1 (R 1),p 3 (R 20),p 7 (O 50),p 8 (AV.og 54),p 58 (O 18),p 59 (I (↑v0.length:Int)),p 60 (I v16),p 61 (B (decide (v16 < (↑v0.length:Int))))] [(54,Ob.grd 34 2 true i64 v17 none),(50,A 2 i64 v18 0),(20,Ob.box 86 [L y134 a0.1,L y136 a0.2.1.1,L Ty.str a0.2.1.2.1,L y172 a0.2.1.2.2,L y114 a0.2.2,AV.os 18 0,AV.os 38 0,nil,nil,nil]),(18,A 146 y146 v0 0),(1,K 46 y46 a0),(38,A 91 y91 v10 0)]) <|
   vx_seq <|
   cD H (fun H=>?_) (fun H=>?_)
  ·refine vx_skip<|fx_seq <|
    jN r (fun ((v21,v22):List Int×List (List Int))=>Z [p 1 (R 1),p 3 (R 20),p 7 (O 50),p 8 (AV.og 54),p 58 (O 18),p 59 (I (↑v0.length:Int)),p 60 (I v16)] [(50,A 2 i64 v21 0),(54,Ob.grd 34 2 true i64 v22 none),(20,Ob.box 86 [L y134 a0.1,L y136 a0.2.1.1,L Ty.str a0.2.1.2.1,L y172 a0.2.1.2.2,L y114 a0.2.2,AV.os 18 0,AV.os 38 0,nil,nil,nil]),(18,A 146 y146 v0 0),(1,K 46 y46 a0),(38,A 91 y91 v10 0)]) (u51J4 v16 g3) (fun ⟨v21,v22⟩ H=>?_) (fun _ n4 e4 t4=>?_)
   ·refine zB (Z [p 1 (R 1),p 3 (R 20),p 7 (O 50),p 8 (AV.og 54),p 58 (O 18),p 59 (I (↑v0.length:Int)),p 60 (I (v16+1))] [(50,A 2 i64 v21 0),(54,Ob.grd 34 2 true i64 v22 none),(20,Ob.box 86 [L y134 a0.1,L y136 a0.2.1.1,L Ty.str a0.2.1.2.1,L y172 a0.2.1.2.2,L y114 a0.2.2,AV.os 18 0,AV.os 38 0,nil,nil,nil]),(18,A 146 y146 v0 0),(1,K 46 y46 a0),(38,A 91 y91 v10 0)]) H fun H =>
     b3 H
   refine vx_block <|
    qD (fun v19=>Z [p 1 (R 1),p 3 (R 20),p 7 (O 50),p 8 (AV.og 54),p 9 (I v16),p 10 (R 10),p 58 (O 18),p 59 (I (↑v0.length:Int)),p 60 (I v16)] [(10,Ob.box 146 (cellsD true y146 v19)),(54,Ob.grd 34 2 true i64 v17 none),(50,A 2 i64 v18 0),(20,Ob.box 86 [L y134 a0.1,L y136 a0.2.1.1,L Ty.str a0.2.1.2.1,L y172 a0.2.1.2.2,L y114 a0.2.2,AV.os 18 0,AV.os 38 0,nil,nil,nil]),(18,A 146 y146 v0 0),(1,K 46 y46 a0),(38,A 91 y91 v10 0)]) H fun v19 H =>
    qA (Z [p 1 (R 1),p 3 (R 20),p 7 (O 50),p 8 (AV.og 54),p 9 (I v16),p 10 (R 10),p 58 (O 18),p 59 (I (↑v0.length:Int)),p 60 (I v16),p 66 (B v19.2.2.2)] [(10,Ob.box 146 (cellsD true y146 v19)),(54,Ob.grd 34 2 true i64 v17 none),(50,A 2 i64 v18 0),(20,Ob.box 86 [L y134 a0.1,L y136 a0.2.1.1,L Ty.str a0.2.1.2.1,L y172 a0.2.1.2.2,L y114 a0.2.2,AV.os 18 0,AV.os 38 0,nil,nil,nil]),(18,A 146 y146 v0 0),(1,K 46 y46 a0),(38,A 91 y91 v10 0)]) <|
    cD H (fun H=>?_) (fun H=>?_)
   ·refine zB (Z [p 1 (R 1),p 3 (R 20),p 7 (O 50),p 8 (AV.og 54),p 58 (O 18),p 59 (I (↑v0.length:Int)),p 60 (I v16)] [(50,A 2 i64 (v18.set v19.2.2.1.toNat v16) 0),(10,Ob.box 146 (cellsD true y146 v19)),(54,Ob.grd 34 2 true i64 v17 none),(20,Ob.box 86 [L y134 a0.1,L y136 a0.2.1.1,L Ty.str a0.2.1.2.1,L y172 a0.2.1.2.2,L y114 a0.2.2,AV.os 18 0,AV.os 38 0,nil,nil,nil]),(18,A 146 y146 v0 0),(1,K 46 y46 a0),(38,A 91 y91 v10 0)]) H fun H =>
     fx_blk<|n4 H
   refine zD (fun v20=>Z [p 1 (R 1),p 3 (R 20),p 7 (O 50),p 8 (AV.og 54),p 58 (O 18),p 59 (I (↑v0.length:Int)),p 60 (I v16)] [(54,Ob.grd 34 2 true i64 v20 none),(79,A 2 i64 [] 2),(81,A 2 i64 [v16] 0),(10,Ob.box 146 (cellsD true y146 v19)),(50,A 2 i64 v18 0),(20,Ob.box 86 [L y134 a0.1,L y136 a0.2.1.1,L Ty.str a0.2.1.2.1,L y172 a0.2.1.2.2,L y114 a0.2.2,AV.os 18 0,AV.os 38 0,nil,nil,nil]),(18,A 146 y146 v0 0),(1,K 46 y46 a0),(38,A 91 y91 v10 0)]) H fun v20 H =>
    fx_blk<|n4 H
  exact vx_exit<|fx_seq_exit<|e3<|fx_blk_exit rfl<|n2 H
 refine qA (Z [p 1 (R 1),p 3 (R 20),p 4 (I 0),p 23 (L y136 a0.2.1.1),p 24 (I (↑a0.2.1.1.length:Int)),p 25 (I 0)] [(20,Ob.box 86 [L y134 a0.1,L y136 a0.2.1.1,L Ty.str a0.2.1.2.1,L y172 a0.2.1.2.2,L y114 a0.2.2,AV.os 18 0,nil,nil,nil,nil]),(18,A 146 y146 v0 0),(1,K 46 y46 a0)]) <|
  vx_block <|
  lX (fun ((v4,v5,v6):Int×Int×List Y91)=>Z [p 1 (R 1),p 3 (R 20),p 4 (I v4),p 23 (L y136 a0.2.1.1),p 24 (I (↑a0.2.1.1.length:Int)),p 25 (I v5)] [(20,Ob.box 86 [L y134 a0.1,L y136 a0.2.1.1,L Ty.str a0.2.1.2.1,L y172 a0.2.1.2.2,L y114 a0.2.2,AV.os 18 0,AV.os 38 0,nil,nil,nil]),(18,A 146 y146 v0 0),(1,K 46 y46 a0),(38,A 91 y91 v6 0)]) (0,0,[]) H fun _ g1 b1 e1 t1 ⟨v4,v5,v6⟩ H =>
  qA (Z [p 1 (R 1),p 3 (R 20),p 4 (I v4),p 23 (L y136 a0.2.1.1),p 24 (I (↑a0.2.1.1.length:Int)),p 25 (I v5),p 26 (B (decide (v5 < (↑a0.2.1.1.length:Int))))] [(20,Ob.box 86 [L y134 a0.1,L y136 a0.2.1.1,L Ty.str a0.2.1.2.1,L y172 a0.2.1.2.2,L y114 a0.2.2,AV.os 18 0,AV.os 38 0,nil,nil,nil]),(18,A 146 y146 v0 0),(1,K 46 y46 a0),(38,A 91 y91 v6 0)]) <|
  vx_seq <|
  cD H (fun H=>?_) (fun H=>?_)
 ·refine vx_skip<|fx_seq<|vx_seq<|vx_block <|
   qD (fun v7=>Z [p 1 (R 1),p 3 (R 20),p 4 (I v4),p 6 (R 6),p 23 (L y136 a0.2.1.1),p 24 (I (↑a0.2.1.1.length:Int)),p 25 (I v5)] [(6,K 136 y136 v7),(20,Ob.box 86 [L y134 a0.1,L y136 a0.2.1.1,L Ty.str a0.2.1.2.1,L y172 a0.2.1.2.2,L y114 a0.2.2,AV.os 18 0,AV.os 38 0,nil,nil,nil]),(18,A 146 y146 v0 0),(1,K 46 y46 a0),(38,A 91 y91 v6 0)]) H fun v7 H =>
   qD (fun v8=>Z [p 1 (R 1),p 3 (R 20),p 4 (I v4),p 6 (R 6),p 23 (L y136 a0.2.1.1),p 24 (I (↑a0.2.1.1.length:Int)),p 25 (I v5)] [(20,Ob.box 86 [L y134 a0.1,L y136 a0.2.1.1,L Ty.str a0.2.1.2.1,L y172 a0.2.1.2.2,L y114 a0.2.2,AV.os 18 0,AV.os 38 1,nil,nil,nil]),(38,A 91 y91 (v6++v8) 1),(37,A 91 y91 v8 0),(6,K 136 y136 v7),(18,A 146 y146 v0 0),(1,K 46 y46 a0)]) H fun v8 H =>
   zD (fun v9=>Z [p 1 (R 1),p 3 (R 20),p 4 (I (v4+v9)),p 23 (L y136 a0.2.1.1),p 24 (I (↑a0.2.1.1.length:Int)),p 25 (I v5)] [(20,Ob.box 86 [L y134 a0.1,L y136 a0.2.1.1,L Ty.str a0.2.1.2.1,L y172 a0.2.1.2.2,L y114 a0.2.2,AV.os 18 0,AV.os 38 1,nil,nil,nil]),(38,A 91 y91 (v6++v8) 1),(37,A 91 y91 v8 0),(6,K 136 y136 v7),(18,A 146 y146 v0 0),(1,K 46 y46 a0)]) H fun v9 H =>
   fx_blk<|fx_seq <|
   zB (Z [p 1 (R 1),p 3 (R 20),p 4 (I (v4+v9)),p 23 (L y136 a0.2.1.1),p 24 (I (↑a0.2.1.1.length:Int)),p 25 (I (v5+1))] [(20,Ob.box 86 [L y134 a0.1,L y136 a0.2.1.1,L Ty.str a0.2.1.2.1,L y172 a0.2.1.2.2,L y114 a0.2.2,AV.os 18 0,AV.os 38 1,nil,nil,nil]),(38,A 91 y91 (v6++v8) 1),(37,A 91 y91 v8 0),(6,K 136 y136 v7),(18,A 146 y146 v0 0),(1,K 46 y46 a0)]) H fun H =>
   b1 H
 exact vx_exit<|fx_seq_exit<|e1<|fx_blk_exit rfl<|n0 H
def u54J0:Unit→Option (Bool)
 | _ =>
 some false
def u54L1 (a0:List Int) (a1:Int) (g1:Int→Option (Bool)):Int→Option (Bool)
 | v0 =>
 if (decide (v0 < (↑a0.length:Int)))=true then
  gd (ix v0 a0.length∧True) <|
  if (a0.getD v0.toNat 0==a1)=true then
   some true
  else
   gd (in64 (v0+1)∧True) <|
   g1 (v0+1)
 else
  u54J0 ()
def u54 (a0:List Int) (a1:Int):Option (Bool) :=
 lp (u54L1 a0 a1) 0
def k54:Ct:=lct 54 [.dat i64.sl,.dat i64] (fun x=>u54 x.1 x.2.1) (fun r:Bool=>B r) (fun _=>())
theorem o54:Ok Tryz.prog k54:=by
 refine okL [.tmp 4] Tryz.func54 Tryz.ntmps54 Tryz.results54 ?_
 intro y ⟨a0,a1,_⟩ r H Q hn hr
 have:HT _ _:=⟨@tn Tryz.prog⟩
 refine qA (Z [p 0 (L i64 a0),p 1 (J a1)] []) <|
  jN r (fun (_:Unit)=>Z [] []) (u54J0) (fun _ H=>?_) (fun _ n0 e0 t0=>?_)
 ·refine qA (Z [p 4 (B false)] []) <|
   vx_ret<|hr H
 refine qA (Z [p 0 (L i64 a0),p 1 (J a1),p 5 (I 0)] []) <|
  vx_block <|
  lX (fun (v0:Int)=>Z [p 0 (L i64 a0),p 1 (J a1),p 5 (I v0)] []) 0 H fun _ g1 b1 e1 t1 v0 H =>
  vx_seq <|
  qA (Z [p 0 (L i64 a0),p 1 (J a1),p 5 (I v0),p 9 (B (decide (v0 < (↑a0.length:Int))))] []) <|
  cD H (fun H=>?_) (fun H=>?_)
 ·refine vx_skip<|fx_seq<|vx_seq<|vx_block <|
   qB (Z [p 0 (L i64 a0),p 1 (J a1),p 5 (I v0),p 17 (B (a0.getD v0.toNat 0==a1))] []) H fun H =>
   cD H (fun H=>?_) (fun H=>?_)
  ·refine qA (Z [p 4 (B true)] []) <|
    vx_ret<|fx_blk_ret<|fx_seq_ret<|t1<|fx_blk_ret<|t0<|hr H
  refine vx_skip<|fx_blk<|fx_seq <|
   zB (Z [p 0 (L i64 a0),p 1 (J a1),p 5 (I (v0+1))] []) H fun H =>
   b1 H
 exact vx_exit<|fx_seq_exit<|e1<|fx_blk_exit rfl<|n0 H
def u60 (a0:Y46):Option (Int) :=
 gd ((u106 a0.2.1).isSome=true∧in64 (2*(↑(vl (u106 a0.2.1)).length:Int))∧True)<|lt (vl (u106 a0.2.1)) fun v0 =>
 some (2*(↑v0.length:Int))
def k60:Ct:=lct 60 [.agg y46] (fun x=>u60 x.1) (fun r:Int=>I r) (fun _=>())
theorem o60:Ok Tryz.prog k60:=by
 refine okL [.tmp 2] Tryz.func60 Tryz.ntmps60 Tryz.results60 ?_
 intro y ⟨a0,_⟩ r H Q hn hr
 have:HT _ _:=⟨tc o106 tn⟩
 refine qA (Z [p 1 (R 1)] [(1,K 46 y46 a0)]) <|
  qD (fun v0=>Z [p 2 (I (2*(↑v0.length:Int)))] [(5,A 184 y184 v0 0),(1,K 46 y46 a0)]) H fun v0 H =>
  vx_ret<|hr H
def u105J0:Unit→Option (Bool)
 | _ =>
 some true
def u105L1 (a0:List Int) (a1:Int) (g1:Int→Option (Bool)):Int→Option (Bool)
 | v0 =>
 if (decide (v0 < (↑a0.length:Int)))=true then
  gd (ix v0 a0.length∧in64 (a1 - 1)∧(u69 (a0.getD v0.toNat 0) 0 (a1 - 1)).isSome=true∧(decide (0 < v0)=true∧(!vl (u69 (a0.getD v0.toNat 0) 0 (a1 - 1)))=false∧True→in64 (v0 - 1))∧(decide (0 < v0)=true∧(!vl (u69 (a0.getD v0.toNat 0) 0 (a1 - 1)))=false∧True→ix (v0 - 1) a0.length)∧(decide (0 < v0)=true∧(!vl (u69 (a0.getD v0.toNat 0) 0 (a1 - 1)))=false∧True→ix v0 a0.length)∧True) <|
  if (!vl (u69 (a0.getD v0.toNat 0) 0 (a1 - 1))||decide (0 < v0)&&decide (a0.getD v0.toNat 0≤a0.getD (v0 - 1).toNat 0))=true then
   some false
  else
   gd (in64 (v0+1)∧True) <|
   g1 (v0+1)
 else
  u105J0 ()
def u105 (a0:List Int) (a1:Int):Option (Bool) :=
 lp (u105L1 a0 a1) 0
def k105:Ct:=lct 105 [.dat i64.sl,.dat i64] (fun x=>u105 x.1 x.2.1) (fun r:Bool=>B r) (fun _=>())
theorem o105:Ok Tryz.prog k105:=by
 refine okL [.tmp 4] Tryz.func105 Tryz.ntmps105 Tryz.results105 ?_
 intro y ⟨a0,a1,_⟩ r H Q hn hr
 have:HT _ _:=⟨tc o69 tn⟩
 refine qA (Z [p 0 (L i64 a0),p 1 (J a1)] []) <|
  jN r (fun (_:Unit)=>Z [] []) (u105J0) (fun _ H=>?_) (fun _ n0 e0 t0=>?_)
 ·refine qA (Z [p 4 (B true)] []) <|
   vx_ret<|hr H
 refine qA (Z [p 0 (L i64 a0),p 1 (J a1),p 5 (I 0)] []) <|
  vx_block <|
  lX (fun (v0:Int)=>Z [p 0 (L i64 a0),p 1 (J a1),p 5 (I v0)] []) 0 H fun _ g1 b1 e1 t1 v0 H =>
  vx_seq <|
  qA (Z [p 0 (L i64 a0),p 1 (J a1),p 5 (I v0),p 9 (B (decide (v0 < (↑a0.length:Int))))] []) <|
  cD H (fun H=>?_) (fun H=>?_)
 ·refine vx_skip<|fx_seq<|vx_seq<|vx_block <|
   qB (Z [p 0 (L i64 a0),p 1 (J a1),p 5 (I v0),p 35 (B (!vl (u69 (a0.getD v0.toNat 0) 0 (a1 - 1))||decide (0 < v0)&&decide (a0.getD v0.toNat 0≤a0.getD (v0 - 1).toNat 0)))] []) H fun H =>
   cD H (fun H=>?_) (fun H=>?_)
  ·refine qA (Z [p 4 (B false)] []) <|
    vx_ret<|fx_blk_ret<|fx_seq_ret<|t1<|fx_blk_ret<|t0<|hr H
  refine vx_skip<|fx_blk<|fx_seq <|
   zB (Z [p 0 (L i64 a0),p 1 (J a1),p 5 (I (v0+1))] []) H fun H =>
   b1 H
 exact vx_exit<|fx_seq_exit<|e1<|fx_blk_exit rfl<|n0 H
def u58 (a0:Y46) (a1:List Int):Option (Int) :=
 gd ((u48 a0).isSome=true∧True) <|
 if (!vl (u48 a0))=true then
  some 1
 else
  gd ((u49 a0).isSome=true∧(u105 a1 (↑(vl (u49 a0)).length:Int)).isSome=true∧True)<|lt (vl (u49 a0)) fun v0 =>
  if (!vl (u105 a1 (↑v0.length:Int)))=true then
   some 2
  else
   some 0
def k58:Ct:=lct 58 [.agg y46,.dat i64.sl] (fun x=>u58 x.1 x.2.1) (fun r:Int=>I r) (fun _=>())
theorem o58:Ok Tryz.prog k58:=by
 refine okL [.tmp 4] Tryz.func58 Tryz.ntmps58 Tryz.results58 ?_
 intro y ⟨a0,a1,_⟩ r H Q hn hr
 have:HT _ _:=⟨tc o105 (tc o49 (tc o48 tn))⟩
 refine qA (Z [p 1 (L i64 a1),p 2 (R 2)] [(2,K 46 y46 a0)]) <|
  vx_seq <|
  qB (Z [p 1 (L i64 a1),p 2 (R 2),p 7 (B !vl (u48 a0))] [(2,K 46 y46 a0)]) H fun H =>
  cD H (fun H=>?_) (fun H=>?_)
 ·refine qA (Z [p 4 (I 1)] [(2,K 46 y46 a0)]) <|
   vx_ret<|fx_seq_ret<|hr H
 refine vx_skip<|fx_seq<|vx_seq <|
  qD (fun v0=>Z [p 13 (B !vl (u105 a1 (↑v0.length:Int)))] [(10,A 91 y91 v0 0),(2,K 46 y46 a0)]) H fun v0 H =>
  cD H (fun H=>?_) (fun H=>?_)
 ·refine qA (Z [p 4 (I 2)] [(10,A 91 y91 v0 0),(2,K 46 y46 a0)]) <|
   vx_ret<|fx_seq_ret<|hr H
 refine vx_skip<|fx_seq <|
  qA (Z [p 4 (I 0)] [(10,A 91 y91 v0 0),(2,K 46 y46 a0)]) <|
  vx_ret<|hr H
def u53 (a0:Y46) (a1:List Int) (a2:Int):Option (Int) :=
 gd ((u58 a0 a1).isSome=true∧True)<|lt (vl (u58 a0 a1)) fun v0 =>
 if (v0 != 0)=true then
  some v0
 else
  gd ((u60 a0).isSome=true∧in64 (vl (u60 a0) - 1)∧(u69 a2 0 (vl (u60 a0) - 1)).isSome=true∧True) <|
  if (!vl (u69 a2 0 (vl (u60 a0) - 1)))=true then
   some 4
  else
   some 0
def k53:Ct:=lct 53 [.agg y46,.dat i64.sl,.dat i64] (fun x=>u53 x.1 x.2.1 x.2.2.1) (fun r:Int=>I r) (fun _=>())
theorem o53:Ok Tryz.prog k53:=by
 refine okL [.tmp 6] Tryz.func53 Tryz.ntmps53 Tryz.results53 ?_
 intro y ⟨a0,a1,a2,_⟩ r H Q hn hr
 have:HT _ _:=⟨tc o69 (tc o60 (tc o58 tn))⟩
 refine qA (Z [p 1 (L i64 a1),p 2 (J a2),p 3 (R 3)] [(3,K 46 y46 a0)]) <|
  vx_seq <|
  qD (fun v0=>Z [p 2 (J a2),p 3 (R 3),p 7 (I v0)] [(3,K 46 y46 a0)]) H fun v0 H =>
  qA (Z [p 2 (J a2),p 3 (R 3),p 7 (I v0),p 12 (B (v0 != 0))] [(3,K 46 y46 a0)]) <|
  cD H (fun H=>?_) (fun H=>?_)
 ·refine qA (Z [p 6 (I v0)] [(3,K 46 y46 a0)]) <|
   vx_ret<|fx_seq_ret<|hr H
 refine vx_skip<|fx_seq<|vx_seq <|
  qB (Z [p 19 (B !vl (u69 a2 0 (vl (u60 a0) - 1)))] [(3,K 46 y46 a0)]) H fun H =>
  cD H (fun H=>?_) (fun H=>?_)
 ·refine qA (Z [p 6 (I 4)] [(3,K 46 y46 a0)]) <|
   vx_ret<|fx_seq_ret<|hr H
 refine vx_skip<|fx_seq <|
  qA (Z [p 6 (I 0)] [(3,K 46 y46 a0)]) <|
  vx_ret<|hr H
def u103 (a0:Y91) (a1:Int):Option (Bool) :=
 some (a0.1==a1)
def k103:Ct:=lct 103 [.agg y91,.dat (.pt i64)] (fun x=>u103 x.1 x.2.1) (fun r:Bool=>B r) (fun _=>())
theorem o103:Ok Tryz.prog k103:=by
 refine okL [.tmp 3] Tryz.func103 Tryz.ntmps103 Tryz.results103 ?_
 intro y ⟨a0,a1,_⟩ r H Q hn hr
 have:HT _ _:=⟨@tn Tryz.prog⟩
 refine qA (Z [p 1 (D i64.pt a1),p 2 (R 2)] [(2,K 91 y91 a0)]) <|
  qA (Z [p 3 (B (a0.1==a1))] [(2,K 91 y91 a0)]) <|
  vx_ret<|hr H
def u102c103J0:List Int→Option (List Int)
 | v6 =>
 some v6
def u102c103J2 (v3:Int) (g1:List Int×Int→Option (List Int)):List Int→Option (List Int)
 | v5 =>
 gd (in64 (v3+1)∧True) <|
 g1 (v5,v3+1)
def u102c103L1 (a0:Y150) (a1:Int) (g1:List Int×Int→Option (List Int)):List Int×Int→Option (List Int)
 | (v2,v3) =>
 if (decide (v3 < (↑a0.1.2.2.1.length:Int)))=true then
  gd (ix v3 a0.1.2.2.1.length∧True)<|lt (a0.1.2.2.1.getD v3.toNat (dflt y91)) fun v4 =>
  gd (ix v3 a0.2.length∧(a0.2.getD v3.toNat false=true∧True→(u103 v4 a1).isSome=true)∧True) <|
  if (a0.2.getD v3.toNat false&&vl (u103 v4 a1))=true then
   gd ((v2.length+[v3].length≤9223372036854775807∧(v2.length+[v3].length)*8≤140737488355328)∧True) <|
   u102c103J2 v3 g1 (v2++[v3])
  else
   u102c103J2 v3 g1 v2
 else
  u102c103J0 v2
def u102c103 (a0:Y150) (a1:Int):Option (List Int) :=
 lp (u102c103L1 a0 a1) ([],0)
def k102c103:Ct:=lct 102 [.dat y150.pt,.fn 103 (.pt i64)] (fun x=>u102c103 x.1 x.2.1) (fun r:List Int=>AV.ow 2 true i64 r) (fun _=>())
theorem o102c103:Ok Tryz.prog k102c103:=by
 refine okL [.tmp 4] Tryz.func102 Tryz.ntmps102 Tryz.results102 ?_
 intro y ⟨a0,a1,_⟩ r H Q hn hr
 have:HT _ _:=⟨tc o103 tn⟩
 refine qA (Z [p 0 (D y150.pt a0),p 1 (AV.fn 103 [D i64.pt a1])] []) <|
  qA (Z [p 0 (D y150.pt a0),p 1 (AV.fn 103 [D i64.pt a1]),p 5 (nil)] []) <|
  jN r (fun (v6:List Int)=>Z [p 5 (O 36)] [(36,A 2 i64 v6 0)]) (u102c103J0) (fun v6 H=>?_) (fun _ n0 e0 t0=>?_)
 ·refine qA (Z [p 4 (O 36)] [(36,A 2 i64 v6 0)]) <|
   vx_ret<|hr H
 refine qA (Z [p 0 (D y150.pt a0),p 1 (AV.fn 103 [D i64.pt a1]),p 5 (nil),p 14 (L y91 a0.1.2.2.1),p 15 (I (↑a0.1.2.2.1.length:Int)),p 16 (I 0)] []) <|
  vx_block <|
  lX (fun ((v2,v3):List Int×Int)=>Z [p 0 (D y150.pt a0),p 1 (AV.fn 103 [D i64.pt a1]),p 5 (O 36),p 14 (L y91 a0.1.2.2.1),p 15 (I (↑a0.1.2.2.1.length:Int)),p 16 (I v3)] [(36,A 2 i64 v2 0)]) ([],0) H fun _ g1 b1 e1 t1 ⟨v2,v3⟩ H =>
  qA (Z [p 0 (D y150.pt a0),p 1 (AV.fn 103 [D i64.pt a1]),p 5 (O 36),p 14 (L y91 a0.1.2.2.1),p 15 (I (↑a0.1.2.2.1.length:Int)),p 16 (I v3),p 17 (B (decide (v3 < (↑a0.1.2.2.1.length:Int))))] [(36,A 2 i64 v2 0)]) <|
  vx_seq <|
  cD H (fun H=>?_) (fun H=>?_)
 ·refine vx_skip<|fx_seq <|
   jN r (fun (v5:List Int)=>Z [p 0 (D y150.pt a0),p 1 (AV.fn 103 [D i64.pt a1]),p 5 (O 36),p 14 (L y91 a0.1.2.2.1),p 15 (I (↑a0.1.2.2.1.length:Int)),p 16 (I v3)] [(36,A 2 i64 v5 0)]) (u102c103J2 v3 g1) (fun v5 H=>?_) (fun _ n2 e2 t2=>?_)
  ·refine zB (Z [p 0 (D y150.pt a0),p 1 (AV.fn 103 [D i64.pt a1]),p 5 (O 36),p 14 (L y91 a0.1.2.2.1),p 15 (I (↑a0.1.2.2.1.length:Int)),p 16 (I (v3+1))] [(36,A 2 i64 v5 0)]) H fun H =>
    b1 H
  refine vx_block <|
   qD (fun v4=>Z [p 0 (D y150.pt a0),p 1 (AV.fn 103 [D i64.pt a1]),p 5 (O 36),p 6 (I v3),p 7 (R 7),p 14 (L y91 a0.1.2.2.1),p 15 (I (↑a0.1.2.2.1.length:Int)),p 16 (I v3)] [(7,K 91 y91 v4),(36,A 2 i64 v2 0)]) H fun v4 H =>
   qB (Z [p 0 (D y150.pt a0),p 1 (AV.fn 103 [D i64.pt a1]),p 5 (O 36),p 6 (I v3),p 14 (L y91 a0.1.2.2.1),p 15 (I (↑a0.1.2.2.1.length:Int)),p 16 (I v3),p 32 (B (a0.2.getD v3.toNat false&&vl (u103 v4 a1)))] [(7,K 91 y91 v4),(36,A 2 i64 v2 0)]) H fun H =>
   cD H (fun H=>?_) (fun H=>?_)
  ·refine zB (Z [p 0 (D y150.pt a0),p 1 (AV.fn 103 [D i64.pt a1]),p 5 (AV.os 36 1),p 14 (L y91 a0.1.2.2.1),p 15 (I (↑a0.1.2.2.1.length:Int)),p 16 (I v3)] [(36,A 2 i64 (v2++[v3]) 1),(35,A 2 i64 [v3] 0),(7,K 91 y91 v4)]) H fun H =>
    fx_blk<|n2 H
  exact vx_skip<|fx_blk<|n2 H
 exact vx_exit<|fx_seq_exit<|e1<|fx_blk_exit rfl<|n0 H
def u144 (a0:List Y146):Option (Int) :=
 some (↑a0.length:Int)
def k144:Ct:=lct 144 [.dat y146.sl] (fun x=>u144 x.1) (fun r:Int=>I r) (fun _=>())
theorem o144:Ok Tryz.prog k144:=by
 refine okL [.tmp 2] Tryz.func144 Tryz.ntmps144 Tryz.results144 ?_
 intro y ⟨a0,_⟩ r H Q hn hr
 have:HT _ _:=⟨@tn Tryz.prog⟩
 refine qA (Z [p 0 (L y146 a0)] []) <|
  qA (Z [p 2 (I (↑a0.length:Int))] []) <|
  vx_ret<|hr H
def u109 (a0:Y86):Option (Int) :=
 gd ((u144 a0.2.1).isSome=true∧in64 (2*vl (u144 a0.2.1))∧True)<|lt (vl (u144 a0.2.1)) fun v0 =>
 some (2*v0)
def k109:Ct:=lct 109 [.dat y86.pt] (fun x=>u109 x.1) (fun r:Int=>I r) (fun _=>())
theorem o109:Ok Tryz.prog k109:=by
 refine okL [.tmp 2] Tryz.func109 Tryz.ntmps109 Tryz.results109 ?_
 intro y ⟨a0,_⟩ r H Q hn hr
 have:HT _ _:=⟨tc o144 tn⟩
 refine qA (Z [p 0 (D y86.pt a0)] []) <|
  qD (fun v0=>Z [p 2 (I (2*v0))] []) H fun v0 H =>
  vx_ret<|hr H
def u101 (a0:Y86) (a1:Int):Option (Bool) :=
 gd ((u109 a0).isSome=true∧in64 (vl (u109 a0) - 1)∧(u120 a1 0 (vl (u109 a0) - 1)).isSome=true∧True) <|
 some (vl (u120 a1 0 (vl (u109 a0) - 1)))
def k101:Ct:=lct 101 [.dat y86.pt,.dat i64] (fun x=>u101 x.1 x.2.1) (fun r:Bool=>B r) (fun _=>())
theorem o101:Ok Tryz.prog k101:=by
 refine okL [.tmp 4] Tryz.func101 Tryz.ntmps101 Tryz.results101 ?_
 intro y ⟨a0,a1,_⟩ r H Q hn hr
 have:HT _ _:=⟨tc o120 (tc o109 tn)⟩
 refine qA (Z [p 0 (D y86.pt a0),p 1 (J a1)] []) <|
  qB (Z [p 4 (B (vl (u120 a1 0 (vl (u109 a0) - 1))))] []) H fun H =>
  vx_ret<|hr H
def u108J2 (a0:Y86):List Bool→Option (Y86×List Bool)
 | v8 =>
 some (a0,v8)
def u108L3 (a1:List Int) (a0:Y86) (g3:Int×List Bool→Option (Y86×List Bool)):Int×List Bool→Option (Y86×List Bool)
 | (v6,v7) =>
 if (decide (v6 < (↑a1.length:Int)))=true then
  gd (ix v6 a1.length∧True) <|
  gd (ix (a1.getD v6.toNat 0) v7.length∧Int.toNat (a1.getD v6.toNat 0) < v7.length∧True) <|
  gd (in64 (v6+1)∧True) <|
  g3 ((v6+1,v7.set (Int.toNat (a1.getD v6.toNat 0)) false))
 else
  u108J2 a0 v7
def u108J0 (a1:List Int) (a0:Y86):List Bool→Option (Y86×List Bool)
 | v4 =>
 lp (u108L3 a1 a0) (0,v4)
def u108L1 (a1:List Int) (a0:Y86) (v0:Int) (g1:Int×List Bool→Option (Y86×List Bool)):Int×List Bool→Option (Y86×List Bool)
 | (v2,v3) =>
 if (decide (v2 < v0))=true then
  gd (ix v2 v3.length∧v2.toNat < v3.length∧True) <|
  gd (in64 (v2+1)∧True) <|
  g1 (v2+1,v3.set v2.toNat true)
 else
  u108J0 a1 a0 v3
def u108 (a0:Y86) (a1:List Int):Option (Y86×List Bool) :=
 gd ((0≤(↑a0.2.2.1.length:Int)∧(↑a0.2.2.1.length:Int)=(↑a0.2.2.1.length:Int)∧(↑a0.2.2.1.length:Int).toNat*1≤281474976710656∧(↑a0.2.2.1.length:Int)≤9223372036854775807)∧True) <|
 lt ((↑(List.replicate (↑a0.2.2.1.length:Int).toNat false).length:Int)) fun v0 =>
 lp (u108L1 a1 a0 v0) ((0,List.replicate (↑a0.2.2.1.length:Int).toNat false))
def k108:Ct:=lct 108 [.dat y86.pt,.dat i64.sl] (fun x=>u108 x.1 x.2.1) (fun r:Y86×List Bool=>AV.ob 150 [D y86.pt r.1,AV.ow 4 true Ty.bool r.2]) (fun _=>())
theorem o108:Ok Tryz.prog k108:=by
 refine okL [.tmp 4] Tryz.func108 Tryz.ntmps108 Tryz.results108 ?_
 intro y ⟨a0,a1,_⟩ r H Q hn hr
 have:HT _ _:=⟨@tn Tryz.prog⟩
 refine qA (Z [p 0 (D y86.pt a0),p 1 (L i64 a1)] []) <|
  qB (Z [p 1 (L i64 a1),p 5 (R 17)] [(17,Ob.box 150 [D y86.pt a0,AV.os 15 0]),(15,A 4 Ty.bool (List.replicate (↑a0.2.2.1.length:Int).toNat false) 0)]) H fun H =>
  jN r (fun (v4:List Bool)=>Z [p 1 (L i64 a1),p 5 (R 17)] [(17,Ob.box 150 [D y86.pt a0,AV.os 15 0]),(15,A 4 Ty.bool v4 0)]) (u108J0 a1 a0) (fun v4 H=>?_) (fun _ n0 e0 t0=>?_)
 ·refine jN r (fun (v8:List Bool)=>Z [p 5 (R 17)] [(17,Ob.box 150 [D y86.pt a0,AV.os 15 0]),(15,A 4 Ty.bool v8 0)]) (u108J2 a0) (fun v8 H=>?_) (fun _ n2 e2 t2=>?_)
  ·refine qA (Z [p 4 (R 17)] [(17,Ob.box 150 [D y86.pt a0,AV.os 15 0]),(15,A 4 Ty.bool v8 0)]) <|
    vx_ret<|hr H
  refine qA (Z [p 5 (R 17),p 33 (L i64 a1),p 34 (I (↑a1.length:Int)),p 35 (I 0)] [(17,Ob.box 150 [D y86.pt a0,AV.os 15 0]),(15,A 4 Ty.bool v4 0)]) <|
   vx_block <|
   lX (fun ((v6,v7):Int×List Bool)=>Z [p 5 (R 17),p 33 (L i64 a1),p 34 (I (↑a1.length:Int)),p 35 (I v6)] [(17,Ob.box 150 [D y86.pt a0,AV.os 15 0]),(15,A 4 Ty.bool v7 0)]) (0,v4) H fun _ g3 b3 e3 t3 ⟨v6,v7⟩ H =>
   qA (Z [p 5 (R 17),p 33 (L i64 a1),p 34 (I (↑a1.length:Int)),p 35 (I v6),p 36 (B (decide (v6 < (↑a1.length:Int))))] [(17,Ob.box 150 [D y86.pt a0,AV.os 15 0]),(15,A 4 Ty.bool v7 0)]) <|
   vx_seq <|
   cD H (fun H=>?_) (fun H=>?_)
  ·refine vx_skip<|fx_seq<|vx_seq<|vx_block <|
    qB (Z [p 5 (R 17),p 8 (J (a1.getD v6.toNat 0)),p 33 (L i64 a1),p 34 (I (↑a1.length:Int)),p 35 (I v6)] [(17,Ob.box 150 [D y86.pt a0,AV.os 15 0]),(15,A 4 Ty.bool v7 0)]) H fun H =>
    zB (Z [p 5 (R 17),p 33 (L i64 a1),p 34 (I (↑a1.length:Int)),p 35 (I v6)] [(15,A 4 Ty.bool (v7.set (Int.toNat (a1.getD v6.toNat 0)) false) 0),(17,Ob.box 150 [D y86.pt a0,AV.os 15 0])]) H fun H =>
    fx_blk<|fx_seq <|
    zB (Z [p 5 (R 17),p 33 (L i64 a1),p 34 (I (↑a1.length:Int)),p 35 (I (v6+1))] [(15,A 4 Ty.bool (v7.set (Int.toNat (a1.getD v6.toNat 0)) false) 0),(17,Ob.box 150 [D y86.pt a0,AV.os 15 0])]) H fun H =>
    b3 H
  exact vx_exit<|fx_seq_exit<|e3<|fx_blk_exit rfl<|n2 H
 refine qC (fun v0=>Z [p 1 (L i64 a1),p 5 (R 17),p 22 (I v0),p 23 (I 0)] [(17,Ob.box 150 [D y86.pt a0,AV.os 15 0]),(15,A 4 Ty.bool (List.replicate (↑a0.2.2.1.length:Int).toNat false) 0)]) H fun v0 H =>
  vx_block <|
  lX (fun ((v2,v3):Int×List Bool)=>Z [p 1 (L i64 a1),p 5 (R 17),p 22 (I v0),p 23 (I v2)] [(17,Ob.box 150 [D y86.pt a0,AV.os 15 0]),(15,A 4 Ty.bool v3 0)]) ((0,List.replicate (↑a0.2.2.1.length:Int).toNat false)) H fun _ g1 b1 e1 t1 ⟨v2,v3⟩ H =>
  qA (Z [p 1 (L i64 a1),p 5 (R 17),p 22 (I v0),p 23 (I v2),p 24 (B (decide (v2 < v0)))] [(17,Ob.box 150 [D y86.pt a0,AV.os 15 0]),(15,A 4 Ty.bool v3 0)]) <|
  vx_seq <|
  cD H (fun H=>?_) (fun H=>?_)
 ·refine vx_skip<|fx_seq<|vx_seq<|vx_block <|
   qA (Z [p 1 (L i64 a1),p 5 (R 17),p 6 (I v2),p 22 (I v0),p 23 (I v2)] [(17,Ob.box 150 [D y86.pt a0,AV.os 15 0]),(15,A 4 Ty.bool v3 0)]) <|
   zB (Z [p 1 (L i64 a1),p 5 (R 17),p 22 (I v0),p 23 (I v2)] [(15,A 4 Ty.bool (v3.set v2.toNat true) 0),(17,Ob.box 150 [D y86.pt a0,AV.os 15 0])]) H fun H =>
   fx_blk<|fx_seq <|
   zB (Z [p 1 (L i64 a1),p 5 (R 17),p 22 (I v0),p 23 (I (v2+1))] [(15,A 4 Ty.bool (v3.set v2.toNat true) 0),(17,Ob.box 150 [D y86.pt a0,AV.os 15 0])]) H fun H =>
   b1 H
 exact vx_exit<|fx_seq_exit<|e1<|fx_blk_exit rfl<|n0 H
def u142 (a0:List Y91):Option (Int) :=
 some (↑a0.length:Int)
def k142:Ct:=lct 142 [.dat y91.sl] (fun x=>u142 x.1) (fun r:Int=>I r) (fun _=>())
theorem o142:Ok Tryz.prog k142:=by
 refine okL [.tmp 2] Tryz.func142 Tryz.ntmps142 Tryz.results142 ?_
 intro y ⟨a0,_⟩ r H Q hn hr
 have:HT _ _:=⟨@tn Tryz.prog⟩
 refine qA (Z [p 0 (L y91 a0)] []) <|
  qA (Z [p 2 (I (↑a0.length:Int))] []) <|
  vx_ret<|hr H
def u107 (a0:Y86) (a1:List Int):Option (Bool) :=
 gd ((u142 a0.2.2.1).isSome=true∧in64 (vl (u142 a0.2.2.1) - 1)∧(u137 a1 0 (vl (u142 a0.2.2.1) - 1)).isSome=true∧(vl (u137 a1 0 (vl (u142 a0.2.2.1) - 1))=true∧True→(u143 a1).isSome=true)∧True) <|
 some (vl (u137 a1 0 (vl (u142 a0.2.2.1) - 1))&&vl (u143 a1))
def k107:Ct:=lct 107 [.dat y86.pt,.dat i64.sl] (fun x=>u107 x.1 x.2.1) (fun r:Bool=>B r) (fun _=>())
theorem o107:Ok Tryz.prog k107:=by
 refine okL [.tmp 4] Tryz.func107 Tryz.ntmps107 Tryz.results107 ?_
 intro y ⟨a0,a1,_⟩ r H Q hn hr
 have:HT _ _:=⟨tc o143 (tc o137 (tc o142 tn))⟩
 refine qA (Z [p 0 (D y86.pt a0),p 1 (L i64 a1)] []) <|
  qB (Z [p 4 (B (vl (u137 a1 0 (vl (u142 a0.2.2.1) - 1))&&vl (u143 a1)))] []) H fun H =>
  vx_ret<|hr H
def u62 (a0:Y46) (a1:List Int):Option (Int ⊕ (Y86×List Bool)×Int) :=
 gd ((u50 a0).isSome=true∧True) <|
 if (!vl (u50 a0))=true then
  some (Sum.inl 1)
 else
  gd ((u51 a0).isSome=true∧True)<|lt (vl (u51 a0)) fun v0 =>
  gd ((u107 v0 a1).isSome=true∧True) <|
  if (!vl (u107 v0 a1))=true then
   some (Sum.inl 2)
  else
   gd ((u108 v0 a1).isSome=true∧True)<|lt (vl (u108 v0 a1)) fun v1 =>
   some (Sum.inr (v1,(0:Int)))
def k62:Ct:=lct 62 [.agg y46,.dat i64.sl] (fun x=>u62 x.1 x.2.1) (two (fun r:Int=>AV.tup [AV.v (Value.pointer none),I r]) (fun r:(Y86×List Bool)×Int=>AV.tup [AV.ob 150 [D y86.pt r.1.1,AV.ow 4 true Ty.bool r.1.2],I r.2])) (fun _=>())
def k62L:Ct:=lctL 62 [.agg y46,.dat i64.sl] (fun x=>u62 x.1 x.2.1) (fun r:Int=>AV.tup [AV.v (Value.pointer none),I r]) ()
def k62R:Ct:=lctR 62 [.agg y46,.dat i64.sl] (fun x=>u62 x.1 x.2.1) (fun r:(Y86×List Bool)×Int=>AV.tup [AV.ob 150 [D y86.pt r.1.1,AV.ow 4 true Ty.bool r.1.2],I r.2]) ()
theorem o62:Ok Tryz.prog k62:=by
 refine okL [.tmp 4,.tmp 5] Tryz.func62 Tryz.ntmps62 Tryz.results62 ?_
 intro y ⟨a0,a1,_⟩ r H Q hn hr
 have:HT _ _:=⟨tc o108 (tc o107 (tc o51 (tc o50 tn)))⟩
 refine qA (Z [p 1 (L i64 a1),p 2 (R 2)] [(2,K 46 y46 a0)]) <|
  vx_seq <|
  qB (Z [p 1 (L i64 a1),p 2 (R 2),p 9 (B !vl (u50 a0))] [(2,K 46 y46 a0)]) H fun H =>
  cD H (fun H=>?_) (fun H=>?_)
 ·refine qA (Z [p 4 (AV.v (Value.pointer none)),p 5 (I 1)] [(2,K 46 y46 a0)]) <|
   vx_ret<|fx_seq_ret<|hr H
 refine vx_skip<|fx_seq <|
  qD (fun v0=>Z [p 1 (L i64 a1),p 6 (D y86.pt v0)] [(2,K 46 y46 a0)]) H fun v0 H =>
  vx_seq <|
  qB (Z [p 1 (L i64 a1),p 6 (D y86.pt v0),p 15 (B !vl (u107 v0 a1))] [(2,K 46 y46 a0)]) H fun H =>
  cD H (fun H=>?_) (fun H=>?_)
 ·refine qA (Z [p 4 (AV.v (Value.pointer none)),p 5 (I 2)] [(2,K 46 y46 a0)]) <|
   vx_ret<|fx_seq_ret<|hr H
 refine vx_skip<|fx_seq <|
  qD (fun v1=>Z [p 4 (R 1018),p 5 (I 0)] [(1018,Ob.box 150 [D y86.pt v1.1,AV.os 18 0]),(18,A 4 Ty.bool v1.2 0),(2,K 46 y46 a0)]) H fun v1 H =>
  vx_ret<|hr H
theorem o62L:Ok Tryz.prog k62L:=ok_l o62
theorem o62R:Ok Tryz.prog k62R:=ok_r o62
def u55 (a0:Y46) (a1:List Int) (a2:Int):Option (Int ⊕ (Y86×List Bool)×Int) :=
 if (isL (u62 a0 a1))=true then
  gd (isL (u62 a0 a1)=true∧True) <|
  if (vL (u62 a0 a1)==0)=true then
   none
  else
   some (Sum.inl (vL (u62 a0 a1)))
 else
  gd (isR (u62 a0 a1)=true∧True) <|
  gd ((((vR (u62 a0 a1)).2==0)=true∧True→(u101 (vR (u62 a0 a1)).1.1 a2).isSome=true)∧True) <|
  if ((vR (u62 a0 a1)).2==0&&!vl (u101 (vR (u62 a0 a1)).1.1 a2))=true then
   some (Sum.inl 4)
  else
   some (Sum.inr (vR (u62 a0 a1)))
def k55:Ct:=lct 55 [.agg y46,.dat i64.sl,.dat i64] (fun x=>u55 x.1 x.2.1 x.2.2.1) (two (fun r:Int=>AV.tup [AV.v (Value.pointer none),I r]) (fun r:(Y86×List Bool)×Int=>AV.tup [AV.ob 150 [D y86.pt r.1.1,AV.ow 4 true Ty.bool r.1.2],I r.2])) (fun _=>())
def k55L:Ct:=lctL 55 [.agg y46,.dat i64.sl,.dat i64] (fun x=>u55 x.1 x.2.1 x.2.2.1) (fun r:Int=>AV.tup [AV.v (Value.pointer none),I r]) ()
def k55R:Ct:=lctR 55 [.agg y46,.dat i64.sl,.dat i64] (fun x=>u55 x.1 x.2.1 x.2.2.1) (fun r:(Y86×List Bool)×Int=>AV.tup [AV.ob 150 [D y86.pt r.1.1,AV.ow 4 true Ty.bool r.1.2],I r.2]) ()
theorem o55:Ok Tryz.prog k55:=by
 refine okL [.tmp 6,.tmp 7] Tryz.func55 Tryz.ntmps55 Tryz.results55 ?_
 intro y ⟨a0,a1,a2,_⟩ r H Q hn hr
 have:HT _ _:=⟨tc o101 tn⟩
 refine qA (Z [p 1 (L i64 a1),p 2 (J a2),p 3 (R 3)] [(3,K 46 y46 a0)]) <|
  sp H (fun H=>?_) (fun H=>?_)
 ·have:HT _ _:=⟨tc o62L (HT.h)⟩
  refine qB (Z [p 2 (J a2),p 8 (AV.v (Value.pointer none)),p 9 (I (vL (u62 a0 a1)))] [(3,K 46 y46 a0)]) H fun H=>?_
  by_cases hz:(vL (u62 a0 a1)==0)=true
  ·rw [if_pos hz] at H
   exact vx_seq<|dead H
  rw [if_neg hz] at H
  have hz:(vL (u62 a0 a1)==0)=false:=by simpa using hz
  refine vx_seq (vx_seq (sv_nil (tp:=8) (tc:=9) (tb:=26) (z:=vL (u62 a0 a1)) rfl rfl rfl (fun w Q' k=>?_) (fx_seq ?_)))
  ·refine vs_region (vo_pure rfl rfl (vo_pure rfl rfl (vo_isF' hz (vo_pure rfl rfl ?_))))
   iterate 7 refine vo_guard_skip rfl rfl rfl rfl ?_
   refine vo_pure rfl rfl (vo_nil ?_)
   exact fin_sub (by ((repeat (refine sub_cons rfl ?_)); exact sub_nil)) k
  refine cf (by kernel_rfl) <|
   vx_skip<|fx_seq <|
   qA (Z [p 6 (AV.v (Value.pointer none)),p 7 (I (vL (u62 a0 a1)))] [(3,K 46 y46 a0)]) <|
   vx_ret<|hr H
 have:HT _ _:=⟨tc o62R (HT.h)⟩
 refine qB (Z [p 2 (J a2),p 8 (R 1013),p 9 (I (vR (u62 a0 a1)).2)] [(1013,Ob.box 150 [D y86.pt (vR (u62 a0 a1)).1.1,AV.os 13 0]),(13,A 4 Ty.bool (vR (u62 a0 a1)).1.2 0),(3,K 46 y46 a0)]) H fun H =>
  vx_seq <|
  qB (Z [p 8 (R 1013),p 9 (I (vR (u62 a0 a1)).2),p 26 (B ((vR (u62 a0 a1)).2==0&&!vl (u101 (vR (u62 a0 a1)).1.1 a2)))] [(1013,Ob.box 150 [D y86.pt (vR (u62 a0 a1)).1.1,AV.os 13 0]),(13,A 4 Ty.bool (vR (u62 a0 a1)).1.2 0),(3,K 46 y46 a0)]) H fun H =>
  cD H (fun H=>?_) (fun H=>?_)
 ·refine qA (Z [p 6 (AV.v (Value.pointer none)),p 7 (I 4)] [(1013,Ob.box 150 [D y86.pt (vR (u62 a0 a1)).1.1,AV.os 13 0]),(13,A 4 Ty.bool (vR (u62 a0 a1)).1.2 0),(3,K 46 y46 a0)]) <|
   vx_ret<|fx_seq_ret<|hr H
 refine vx_skip<|fx_seq <|
  qA (Z [p 6 (R 1013),p 7 (I (vR (u62 a0 a1)).2)] [(1013,Ob.box 150 [D y86.pt (vR (u62 a0 a1)).1.1,AV.os 13 0]),(13,A 4 Ty.bool (vR (u62 a0 a1)).1.2 0),(3,K 46 y46 a0)]) <|
  vx_ret<|hr H
theorem o55L:Ok Tryz.prog k55L:=ok_l o55
theorem o55R:Ok Tryz.prog k55R:=ok_r o55
def u25J0:List Int→Option (List Int×Int)
 | v6 =>
 some ((v6,(0:Int)))
def u25J2 (v3:Int) (g1:Int×List Int→Option (List Int×Int)):List Int→Option (List Int×Int)
 | v5 =>
 gd (in64 (v3+1)∧True) <|
 g1 (v3+1,v5)
def u25L1 (v1:List Y91) (a2:Int) (a1:List Int) (g1:Int×List Int→Option (List Int×Int)):Int×List Int→Option (List Int×Int)
 | (v3,v4) =>
 if (decide (v3 < (↑v1.length:Int)))=true then
  gd (ix v3 v1.length∧v3.toNat < v1.length∧(((v1.getD v3.toNat (dflt y91)).2.1==a2)=true∧True→(u54 a1 v3).isSome=true)∧True) <|
  if ((v1.getD v3.toNat (dflt y91)).2.1==a2&&!vl (u54 a1 v3))=true then
   gd ((v4.length+[v3].length≤9223372036854775807∧(v4.length+[v3].length)*8≤140737488355328)∧True) <|
   u25J2 v3 g1 (v4++[v3])
  else
   u25J2 v3 g1 v4
 else
  u25J0 v4
def u25 (a0:Y46) (a1:List Int) (a2:Int):Option (List Int×Int) :=
 gd ((u53 a0 a1 a2).isSome=true∧True)<|lt (vl (u53 a0 a1 a2)) fun v0 =>
 if (v0 != 0)=true then
  some ([],v0)
 else
  gd ((u49 a0).isSome=true∧True)<|lt (vl (u49 a0)) fun v1 =>
  lp (u25L1 v1 a2 a1) (0,[])
def k25:Ct:=lct 25 [.agg y46,.dat i64.sl,.dat i64] (fun x=>u25 x.1 x.2.1 x.2.2.1) (fun r:List Int×Int=>AV.tup [AV.ow 2 true i64 r.1,I r.2]) (fun _=>())
theorem o25:Ok Tryz.prog k25:=by
 refine okL [.tmp 6,.tmp 7] Tryz.func25 Tryz.ntmps25 Tryz.results25 ?_
 intro y ⟨a0,a1,a2,_⟩ r H Q hn hr
 have:HT _ _:=⟨tc o54 (tc o49 (tc o53 tn))⟩
 refine qA (Z [p 1 (L i64 a1),p 2 (J a2),p 3 (R 3)] [(3,K 46 y46 a0)]) <|
  qA (Z [p 1 (L i64 a1),p 2 (J a2),p 3 (R 3),p 8 (O 12)] [(12,A 2 i64 [] 0),(3,K 46 y46 a0)]) <|
  vx_seq <|
  qD (fun v0=>Z [p 1 (L i64 a1),p 2 (J a2),p 3 (R 3),p 8 (O 12),p 9 (I v0)] [(12,A 2 i64 [] 0),(3,K 46 y46 a0)]) H fun v0 H =>
  qA (Z [p 1 (L i64 a1),p 2 (J a2),p 3 (R 3),p 8 (O 12),p 9 (I v0),p 18 (B (v0 != 0))] [(12,A 2 i64 [] 0),(3,K 46 y46 a0)]) <|
  cD H (fun H=>?_) (fun H=>?_)
 ·refine qA (Z [p 6 (O 12),p 7 (I v0)] [(12,A 2 i64 [] 0),(3,K 46 y46 a0)]) <|
   vx_ret<|fx_seq_ret<|hr H
 refine vx_skip<|fx_seq <|
  qD (fun v1=>Z [p 1 (L i64 a1),p 2 (J a2),p 8 (O 12),p 10 (O 22)] [(22,A 91 y91 v1 0),(12,A 2 i64 [] 0),(3,K 46 y46 a0)]) H fun v1 H =>
  jN r (fun (v6:List Int)=>Z [p 8 (O 12)] [(12,A 2 i64 v6 0)]) (u25J0) (fun v6 H=>?_) (fun _ n0 e0 t0=>?_)
 ·refine qA (Z [p 6 (O 12),p 7 (I 0)] [(12,A 2 i64 v6 0)]) <|
   vx_ret<|hr H
 refine qA (Z [p 1 (L i64 a1),p 2 (J a2),p 8 (O 12),p 10 (O 22),p 11 (I 0)] [(22,A 91 y91 v1 0),(12,A 2 i64 [] 0),(3,K 46 y46 a0)]) <|
  vx_block <|
  lX (fun ((v3,v4):Int×List Int)=>Z [p 1 (L i64 a1),p 2 (J a2),p 8 (O 12),p 10 (O 22),p 11 (I v3)] [(22,A 91 y91 v1 0),(12,A 2 i64 v4 0)]) (0,[]) H fun _ g1 b1 e1 t1 ⟨v3,v4⟩ H =>
  vx_seq <|
  qA (Z [p 1 (L i64 a1),p 2 (J a2),p 8 (O 12),p 10 (O 22),p 11 (I v3),p 26 (B (decide (v3 < (↑v1.length:Int))))] [(22,A 91 y91 v1 0),(12,A 2 i64 v4 0)]) <|
  cD H (fun H=>?_) (fun H=>?_)
 ·refine vx_skip<|fx_seq <|
   jN r (fun (v5:List Int)=>Z [p 1 (L i64 a1),p 2 (J a2),p 8 (O 12),p 10 (O 22),p 11 (I v3)] [(12,A 2 i64 v5 0),(22,A 91 y91 v1 0)]) (u25J2 v3 g1) (fun v5 H=>?_) (fun _ n2 e2 t2=>?_)
  ·refine zB (Z [p 1 (L i64 a1),p 2 (J a2),p 8 (O 12),p 10 (O 22),p 11 (I (v3+1))] [(12,A 2 i64 v5 0),(22,A 91 y91 v1 0)]) H fun H =>
    b1 H
  refine vx_block <|
   qB (Z [p 1 (L i64 a1),p 2 (J a2),p 8 (O 12),p 10 (O 22),p 11 (I v3),p 41 (B ((v1.getD v3.toNat (dflt y91)).2.1==a2&&!vl (u54 a1 v3)))] [(22,A 91 y91 v1 0),(12,A 2 i64 v4 0)]) H fun H =>
   cD H (fun H=>?_) (fun H=>?_)
  ·refine zB (Z [p 1 (L i64 a1),p 2 (J a2),p 8 (AV.os 12 1),p 10 (O 22),p 11 (I v3)] [(12,A 2 i64 (v4++[v3]) 1),(44,A 2 i64 [v3] 0),(22,A 91 y91 v1 0)]) H fun H =>
    fx_blk<|n2 H
  exact vx_skip<|fx_blk<|n2 H
 exact vx_exit<|fx_seq_exit<|e1<|fx_blk_exit rfl<|n0 H
def u104 (a0:Y91) (a1:Int):Option (Bool) :=
 some (a0.2.1==a1)
def k104:Ct:=lct 104 [.agg y91,.dat (.pt i64)] (fun x=>u104 x.1 x.2.1) (fun r:Bool=>B r) (fun _=>())
theorem o104:Ok Tryz.prog k104:=by
 refine okL [.tmp 3] Tryz.func104 Tryz.ntmps104 Tryz.results104 ?_
 intro y ⟨a0,a1,_⟩ r H Q hn hr
 have:HT _ _:=⟨@tn Tryz.prog⟩
 refine qA (Z [p 1 (D i64.pt a1),p 2 (R 2)] [(2,K 91 y91 a0)]) <|
  qA (Z [p 3 (B (a0.2.1==a1))] [(2,K 91 y91 a0)]) <|
  vx_ret<|hr H
def u102c104J0:List Int→Option (List Int)
 | v6 =>
 some v6
def u102c104J2 (v3:Int) (g1:List Int×Int→Option (List Int)):List Int→Option (List Int)
 | v5 =>
 gd (in64 (v3+1)∧True) <|
 g1 (v5,v3+1)
def u102c104L1 (a0:Y150) (a1:Int) (g1:List Int×Int→Option (List Int)):List Int×Int→Option (List Int)
 | (v2,v3) =>
 if (decide (v3 < (↑a0.1.2.2.1.length:Int)))=true then
  gd (ix v3 a0.1.2.2.1.length∧True)<|lt (a0.1.2.2.1.getD v3.toNat (dflt y91)) fun v4 =>
  gd (ix v3 a0.2.length∧(a0.2.getD v3.toNat false=true∧True→(u104 v4 a1).isSome=true)∧True) <|
  if (a0.2.getD v3.toNat false&&vl (u104 v4 a1))=true then
   gd ((v2.length+[v3].length≤9223372036854775807∧(v2.length+[v3].length)*8≤140737488355328)∧True) <|
   u102c104J2 v3 g1 (v2++[v3])
  else
   u102c104J2 v3 g1 v2
 else
  u102c104J0 v2
def u102c104 (a0:Y150) (a1:Int):Option (List Int) :=
 lp (u102c104L1 a0 a1) ([],0)
def k102c104:Ct:=lct 102 [.dat y150.pt,.fn 104 (.pt i64)] (fun x=>u102c104 x.1 x.2.1) (fun r:List Int=>AV.ow 2 true i64 r) (fun _=>())
theorem o102c104:Ok Tryz.prog k102c104:=by
 refine okL [.tmp 4] Tryz.func102 Tryz.ntmps102 Tryz.results102 ?_
 intro y ⟨a0,a1,_⟩ r H Q hn hr
 have:HT _ _:=⟨tc o104 tn⟩
 refine qA (Z [p 0 (D y150.pt a0),p 1 (AV.fn 104 [D i64.pt a1])] []) <|
  qA (Z [p 0 (D y150.pt a0),p 1 (AV.fn 104 [D i64.pt a1]),p 5 (nil)] []) <|
  jN r (fun (v6:List Int)=>Z [p 5 (O 36)] [(36,A 2 i64 v6 0)]) (u102c104J0) (fun v6 H=>?_) (fun _ n0 e0 t0=>?_)
 ·refine qA (Z [p 4 (O 36)] [(36,A 2 i64 v6 0)]) <|
   vx_ret<|hr H
 refine qA (Z [p 0 (D y150.pt a0),p 1 (AV.fn 104 [D i64.pt a1]),p 5 (nil),p 14 (L y91 a0.1.2.2.1),p 15 (I (↑a0.1.2.2.1.length:Int)),p 16 (I 0)] []) <|
  vx_block <|
  lX (fun ((v2,v3):List Int×Int)=>Z [p 0 (D y150.pt a0),p 1 (AV.fn 104 [D i64.pt a1]),p 5 (O 36),p 14 (L y91 a0.1.2.2.1),p 15 (I (↑a0.1.2.2.1.length:Int)),p 16 (I v3)] [(36,A 2 i64 v2 0)]) ([],0) H fun _ g1 b1 e1 t1 ⟨v2,v3⟩ H =>
  qA (Z [p 0 (D y150.pt a0),p 1 (AV.fn 104 [D i64.pt a1]),p 5 (O 36),p 14 (L y91 a0.1.2.2.1),p 15 (I (↑a0.1.2.2.1.length:Int)),p 16 (I v3),p 17 (B (decide (v3 < (↑a0.1.2.2.1.length:Int))))] [(36,A 2 i64 v2 0)]) <|
  vx_seq <|
  cD H (fun H=>?_) (fun H=>?_)
 ·refine vx_skip<|fx_seq <|
   jN r (fun (v5:List Int)=>Z [p 0 (D y150.pt a0),p 1 (AV.fn 104 [D i64.pt a1]),p 5 (O 36),p 14 (L y91 a0.1.2.2.1),p 15 (I (↑a0.1.2.2.1.length:Int)),p 16 (I v3)] [(36,A 2 i64 v5 0)]) (u102c104J2 v3 g1) (fun v5 H=>?_) (fun _ n2 e2 t2=>?_)
  ·refine zB (Z [p 0 (D y150.pt a0),p 1 (AV.fn 104 [D i64.pt a1]),p 5 (O 36),p 14 (L y91 a0.1.2.2.1),p 15 (I (↑a0.1.2.2.1.length:Int)),p 16 (I (v3+1))] [(36,A 2 i64 v5 0)]) H fun H =>
    b1 H
  refine vx_block <|
   qD (fun v4=>Z [p 0 (D y150.pt a0),p 1 (AV.fn 104 [D i64.pt a1]),p 5 (O 36),p 6 (I v3),p 7 (R 7),p 14 (L y91 a0.1.2.2.1),p 15 (I (↑a0.1.2.2.1.length:Int)),p 16 (I v3)] [(7,K 91 y91 v4),(36,A 2 i64 v2 0)]) H fun v4 H =>
   qB (Z [p 0 (D y150.pt a0),p 1 (AV.fn 104 [D i64.pt a1]),p 5 (O 36),p 6 (I v3),p 14 (L y91 a0.1.2.2.1),p 15 (I (↑a0.1.2.2.1.length:Int)),p 16 (I v3),p 32 (B (a0.2.getD v3.toNat false&&vl (u104 v4 a1)))] [(7,K 91 y91 v4),(36,A 2 i64 v2 0)]) H fun H =>
   cD H (fun H=>?_) (fun H=>?_)
  ·refine zB (Z [p 0 (D y150.pt a0),p 1 (AV.fn 104 [D i64.pt a1]),p 5 (AV.os 36 1),p 14 (L y91 a0.1.2.2.1),p 15 (I (↑a0.1.2.2.1.length:Int)),p 16 (I v3)] [(36,A 2 i64 (v2++[v3]) 1),(35,A 2 i64 [v3] 0),(7,K 91 y91 v4)]) H fun H =>
    fx_blk<|n2 H
  exact vx_skip<|fx_blk<|n2 H
 exact vx_exit<|fx_seq_exit<|e1<|fx_blk_exit rfl<|n0 H
def u57 (a0:Y150) (a1:Int):Option (List Int) :=
 gd ((u102c104 a0 a1).isSome=true∧True)<|lt (vl (u102c104 a0 a1)) fun v0 =>
 some v0
def k57:Ct:=lct 57 [.dat y150.pt,.dat i64] (fun x=>u57 x.1 x.2.1) (fun r:List Int=>AV.ow 2 true i64 r) (fun _=>())
theorem o57:Ok Tryz.prog k57:=by
 refine okL [.tmp 4] Tryz.func57 Tryz.ntmps57 Tryz.results57 ?_
 intro y ⟨a0,a1,_⟩ r H Q hn hr
 have:HT _ _:=⟨tc o102c103 (tc o102c104 (tc o104 tn))⟩
 refine qA (Z [p 0 (D y150.pt a0),p 3 (R 3)] [(3,Ob.box 2 [J a1])]) <|
  qD (fun v0=>Z [p 4 (O 7)] [(7,A 2 i64 v0 0),(3,Ob.box 2 [J a1])]) H fun v0 H =>
  vx_ret<|hr H
def u26 (a0:Y46) (a1:List Int) (a2:Int):Option (List Int×Int) :=
 if (isL (u55 a0 a1 a2))=true then
  gd (isL (u55 a0 a1 a2)=true∧True) <|
  if (vL (u55 a0 a1 a2) != 0)=true then
   some (([],vL (u55 a0 a1 a2)))
  else
   none
 else
  gd (isR (u55 a0 a1 a2)=true∧True)<|lt (vR (u55 a0 a1 a2)) fun v0 =>
  if (v0.2 != 0)=true then
   some ([],v0.2)
  else
   gd ((u57 v0.1 a2).isSome=true∧True)<|lt (vl (u57 v0.1 a2)) fun v1 =>
   some ((v1,(0:Int)))
def k26:Ct:=lct 26 [.agg y46,.dat i64.sl,.dat i64] (fun x=>u26 x.1 x.2.1 x.2.2.1) (fun r:List Int×Int=>AV.tup [AV.ow 2 true i64 r.1,I r.2]) (fun _=>())
theorem o26:Ok Tryz.prog k26:=by
 refine okL [.tmp 6,.tmp 7] Tryz.func26 Tryz.ntmps26 Tryz.results26 ?_
 intro y ⟨a0,a1,a2,_⟩ r H Q hn hr
 have:HT _ _:=⟨tc o57 tn⟩
 refine qA (Z [p 1 (L i64 a1),p 2 (J a2),p 3 (R 3)] [(3,K 46 y46 a0)]) <|
  sp H (fun H=>?_) (fun H=>?_)
 ·have:HT _ _:=⟨tc o55L (HT.h)⟩
  refine qB (Z [p 2 (J a2),p 8 (AV.v (Value.pointer none)),p 9 (I (vL (u55 a0 a1 a2)))] [(3,K 46 y46 a0)]) H fun H =>
   vx_seq <|
   qA (Z [p 2 (J a2),p 8 (AV.v (Value.pointer none)),p 9 (I (vL (u55 a0 a1 a2))),p 18 (B (vL (u55 a0 a1 a2) != 0))] [(3,K 46 y46 a0)]) <|
   cD H (fun H=>?_) (fun H=>?_)
  ·refine qA (Z [p 6 (nil),p 7 (I (vL (u55 a0 a1 a2)))] [(3,K 46 y46 a0)]) <|
    vx_ret<|fx_seq_ret<|hr H
  exact vx_skip<|fx_seq<|dead H
 have:HT _ _:=⟨tc o55R (HT.h)⟩
 refine qD (fun v0=>Z [p 2 (J a2),p 8 (R 1014),p 9 (I v0.2)] [(1014,Ob.box 150 [D y86.pt v0.1.1,AV.os 14 0]),(14,A 4 Ty.bool v0.1.2 0),(3,K 46 y46 a0)]) H fun v0 H =>
  vx_seq <|
  qA (Z [p 2 (J a2),p 8 (R 1014),p 9 (I v0.2),p 18 (B (v0.2 != 0))] [(1014,Ob.box 150 [D y86.pt v0.1.1,AV.os 14 0]),(14,A 4 Ty.bool v0.1.2 0),(3,K 46 y46 a0)]) <|
  cD H (fun H=>?_) (fun H=>?_)
 ·refine qA (Z [p 6 (nil),p 7 (I v0.2)] [(1014,Ob.box 150 [D y86.pt v0.1.1,AV.os 14 0]),(14,A 4 Ty.bool v0.1.2 0),(3,K 46 y46 a0)]) <|
   vx_ret<|fx_seq_ret<|hr H
 refine vx_skip<|fx_seq <|
  qD (fun v1=>Z [p 6 (O 22),p 7 (I 0)] [(22,A 2 i64 v1 0),(1014,Ob.box 150 [D y86.pt v0.1.1,AV.os 14 0]),(14,A 4 Ty.bool v0.1.2 0),(3,K 46 y46 a0)]) H fun v1 H =>
  vx_ret<|hr H
end Go.Proofs.YtgmpfbpemmohnaaGreatDoor
