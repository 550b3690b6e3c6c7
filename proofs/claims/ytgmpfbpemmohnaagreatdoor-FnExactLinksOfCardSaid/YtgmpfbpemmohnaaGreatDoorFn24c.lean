/- Functions of this program as plain functions of data, and that they are so: printed by program. -/
import Derived.Test.YtgmpfbpemmohnaaGreatDoorFn24b
namespace Go.Proofs.YtgmpfbpemmohnaaGreatDoor
open Go Go.Proofs Go.Proofs.Sv Go.Proofs.Xv Go.Proofs.Xl Go.RowKit
def u138 (a0:Y139):Option (List (Int×Int)) :=
 if (a0.1==2)=true then
  some ([((0:Int),(0:Int)),((0:Int),(1:Int))])
 else
  if (a0.1==3)=true then
   some ([((1:Int),(0:Int)),((1:Int),(1:Int))])
  else
   if (a0.1 != 1)=true then
    some []
   else
    if (a0.2.2.2.1==1)=true then
     some ([((0:Int),(0:Int)),((1:Int),(1:Int))])
    else
     if (a0.2.2.2.1==2)=true then
      some ([((0:Int),(1:Int)),((1:Int),(0:Int))])
     else
      lt ([((0:Int),(0:Int)),((0:Int),(1:Int)),((1:Int),(0:Int)),((1:Int),(1:Int))]) fun v0 =>
      some v0
def k138:Ct:=lct 138 [.agg y139] (fun x=>u138 x.1) (fun r:List (Int×Int)=>AV.ow 192 true (i64.pr i64) r) (fun _=>())
theorem o138:Ok Tryz.prog k138:=by
 refine okL [.tmp 2] Tryz.func138 Tryz.ntmps138 Tryz.results138 ?_
 intro y ⟨a0,_⟩ r H Q hn hr
 have:HT _ _:=⟨@tn Tryz.prog⟩
 refine qA (Z [p 1 (R 1)] [(1,K 139 y139 a0)]) <|
  qA (Z [p 1 (R 1),p 3 (O 7)] [(7,A 192 (i64.pr i64) [((0:Int),(0:Int)),((1:Int),(1:Int))] 0),(1,K 139 y139 a0)]) <|
  qA (Z [p 1 (R 1),p 3 (O 7),p 4 (O 10)] [(10,A 192 (i64.pr i64) [((0:Int),(1:Int)),((1:Int),(0:Int))] 0),(7,A 192 (i64.pr i64) [((0:Int),(0:Int)),((1:Int),(1:Int))] 0),(1,K 139 y139 a0)]) <|
  vx_seq<|vx_block <|
  qA (Z [p 1 (R 1),p 3 (O 7),p 4 (O 10),p 11 (B (a0.1==(2:Int)))] [(10,A 192 (i64.pr i64) [((0:Int),(1:Int)),((1:Int),(0:Int))] 0),(7,A 192 (i64.pr i64) [((0:Int),(0:Int)),((1:Int),(1:Int))] 0),(1,K 139 y139 a0)]) <|
  cD H (fun H=>?_) (fun H=>?_)
 ·refine qA (Z [p 2 (O 17)] [(17,A 192 (i64.pr i64) [((0:Int),(0:Int)),((0:Int),(1:Int))] 0),(10,A 192 (i64.pr i64) [((0:Int),(1:Int)),((1:Int),(0:Int))] 0),(7,A 192 (i64.pr i64) [((0:Int),(0:Int)),((1:Int),(1:Int))] 0),(1,K 139 y139 a0)]) <|
   vx_ret<|fx_blk_ret<|fx_seq_ret<|hr H
 refine qA (Z [p 1 (R 1),p 3 (O 7),p 4 (O 10),p 18 (B (a0.1==(3:Int)))] [(10,A 192 (i64.pr i64) [((0:Int),(1:Int)),((1:Int),(0:Int))] 0),(7,A 192 (i64.pr i64) [((0:Int),(0:Int)),((1:Int),(1:Int))] 0),(1,K 139 y139 a0)]) <|
  cD H (fun H=>?_) (fun H=>?_)
 ·refine qA (Z [p 2 (O 24)] [(24,A 192 (i64.pr i64) [((1:Int),(0:Int)),((1:Int),(1:Int))] 0),(10,A 192 (i64.pr i64) [((0:Int),(1:Int)),((1:Int),(0:Int))] 0),(7,A 192 (i64.pr i64) [((0:Int),(0:Int)),((1:Int),(1:Int))] 0),(1,K 139 y139 a0)]) <|
   vx_ret<|fx_blk_ret<|fx_seq_ret<|hr H
 refine qA (Z [p 1 (R 1),p 3 (O 7),p 4 (O 10),p 25 (B (a0.1 != (1:Int)))] [(10,A 192 (i64.pr i64) [((0:Int),(1:Int)),((1:Int),(0:Int))] 0),(7,A 192 (i64.pr i64) [((0:Int),(0:Int)),((1:Int),(1:Int))] 0),(1,K 139 y139 a0)]) <|
  cD H (fun H=>?_) (fun H=>?_)
 ·refine qA (Z [p 2 (nil)] [(10,A 192 (i64.pr i64) [((0:Int),(1:Int)),((1:Int),(0:Int))] 0),(7,A 192 (i64.pr i64) [((0:Int),(0:Int)),((1:Int),(1:Int))] 0),(1,K 139 y139 a0)]) <|
   vx_ret<|fx_blk_ret<|fx_seq_ret<|hr H
 refine qA (Z [p 1 (R 1),p 3 (O 7),p 4 (O 10),p 29 (B (a0.2.2.2.1==(1:Int)))] [(10,A 192 (i64.pr i64) [((0:Int),(1:Int)),((1:Int),(0:Int))] 0),(7,A 192 (i64.pr i64) [((0:Int),(0:Int)),((1:Int),(1:Int))] 0),(1,K 139 y139 a0)]) <|
  cD H (fun H=>?_) (fun H=>?_)
 ·refine qA (Z [p 2 (O 7)] [(10,A 192 (i64.pr i64) [((0:Int),(1:Int)),((1:Int),(0:Int))] 0),(7,A 192 (i64.pr i64) [((0:Int),(0:Int)),((1:Int),(1:Int))] 0),(1,K 139 y139 a0)]) <|
   vx_ret<|fx_blk_ret<|fx_seq_ret<|hr H
 refine qA (Z [p 4 (O 10),p 34 (B (a0.2.2.2.1==(2:Int)))] [(10,A 192 (i64.pr i64) [((0:Int),(1:Int)),((1:Int),(0:Int))] 0),(7,A 192 (i64.pr i64) [((0:Int),(0:Int)),((1:Int),(1:Int))] 0),(1,K 139 y139 a0)]) <|
  cD H (fun H=>?_) (fun H=>?_)
 ·refine qA (Z [p 2 (O 10)] [(10,A 192 (i64.pr i64) [((0:Int),(1:Int)),((1:Int),(0:Int))] 0),(7,A 192 (i64.pr i64) [((0:Int),(0:Int)),((1:Int),(1:Int))] 0),(1,K 139 y139 a0)]) <|
   vx_ret<|fx_blk_ret<|fx_seq_ret<|hr H
 refine vx_skip<|fx_blk<|fx_seq <|
  qC (fun v0=>Z [p 2 (O 43)] [(43,A 192 (i64.pr i64) v0 0),(10,A 192 (i64.pr i64) [((0:Int),(1:Int)),((1:Int),(0:Int))] 0),(7,A 192 (i64.pr i64) [((0:Int),(0:Int)),((1:Int),(1:Int))] 0),(1,K 139 y139 a0)]) H fun v0 H =>
  vx_ret<|hr H
def u98J0:List Y91→Option (List Y91)
 | v24 =>
 some v24
def u98J2 (v12:Int) (g1:List Y91×Int→Option (List Y91)):List Y91→Option (List Y91)
 | v23 =>
 gd (in64 (v12+1)∧True) <|
 g1 (v23,v12+1)
def u98L3 (a2:Int) (v13:Y139) (v12:Int) (v14:List (Int×Int)) (g1:List Y91×Int→Option (List Y91)) (g3:Int×List Y91→Option (List Y91)):Int×List Y91→Option (List Y91)
 | (v18,v19) =>
 if (decide (v18 < (↑v14.length:Int)))=true then
  gd (ix v18 v14.length∧v18.toNat < v14.length∧True)<|lt (v14.getD v18.toNat (dflt (i64.pr i64))) fun v20 =>
  gd (in64 (a2+v13.2.1)∧in64 ((2:Int)*(a2+v13.2.1))∧ix (0:Int) 2∧in64 ((2:Int)*(a2+v13.2.1)+v20.1)∧in64 (a2+v13.2.2.1)∧in64 ((2:Int)*(a2+v13.2.2.1))∧ix (1:Int) 2∧in64 ((2:Int)*(a2+v13.2.2.1)+v20.2)∧(v19.length+[((2:Int)*(a2+v13.2.1)+v20.1,(2:Int)*(a2+v13.2.2.1)+v20.2,(1:Int),v12)].length≤9223372036854775807∧(v19.length+[((2:Int)*(a2+v13.2.1)+v20.1,(2:Int)*(a2+v13.2.2.1)+v20.2,(1:Int),v12)].length)*32≤140737488355328)∧True)<|lt ((v19++[((2:Int)*(a2+v13.2.1)+v20.1,(2:Int)*(a2+v13.2.2.1)+v20.2,(1:Int),v12)],[((2:Int)*(a2+v13.2.1)+v20.1,(2:Int)*(a2+v13.2.2.1)+v20.2,(1:Int),v12)])) fun (v21,v22) =>
  gd (in64 (v18+1)∧True) <|
  g3 (v18+1,v21)
 else
  u98J2 v12 g1 v19
def u98L1 (a2:Int) (v0:Y134) (g1:List Y91×Int→Option (List Y91)):List Y91×Int→Option (List Y91)
 | (v11,v12) =>
 if (decide (v12 < (↑v0.2.2.2.1.length:Int)))=true then
  gd (ix v12 v0.2.2.2.1.length∧True)<|lt (v0.2.2.2.1.getD v12.toNat (dflt y139)) fun v13 =>
  gd ((u138 v13).isSome=true∧True)<|lt (vl (u138 v13)) fun v14 =>
  lp (u98L3 a2 v13 v12 v14 g1) (0,v11)
 else
  u98J0 v11
def u98 (a0:Y46) (a1:Y136) (a2:Int):Option (List Y91) :=
 gd (ix a1.2.1 a0.1.length∧True)<|lt (a0.1.getD a1.2.1.toNat (dflt y134)) fun v0 =>
 lp (u98L1 a2 v0) ([],0)
def k98:Ct:=lct 98 [.agg y46,.agg y136,.dat i64] (fun x=>u98 x.1 x.2.1 x.2.2.1) (fun r:List Y91=>AV.ow 91 true y91 r) (fun _=>())
theorem o98:Ok Tryz.prog k98:=by
 refine okL [.tmp 6] Tryz.func98 Tryz.ntmps98 Tryz.results98 ?_
 intro y ⟨a0,a1,a2,_⟩ r H Q hn hr
 have:HT _ _:=⟨tc o138 tn⟩
 refine qA (Z [p 2 (J a2),p 3 (R 3),p 4 (R 4)] [(4,K 136 y136 a1),(3,K 46 y46 a0)]) <|
  qA (Z [p 2 (J a2),p 3 (R 3),p 4 (R 4),p 7 (nil)] [(4,K 136 y136 a1),(3,K 46 y46 a0)]) <|
  jN r (fun (v24:List Y91)=>Z [p 7 (O 53)] [(53,A 91 y91 v24 0)]) (u98J0) (fun v24 H=>?_) (fun _ n0 e0 t0=>?_)
 ·refine qA (Z [p 6 (O 53)] [(53,A 91 y91 v24 0)]) <|
   vx_ret<|hr H
 refine qD (fun v0=>Z [p 2 (J a2),p 7 (nil),p 19 (L y139 v0.2.2.2.1),p 20 (I (↑v0.2.2.2.1.length:Int)),p 21 (I 0)] [(4,K 136 y136 a1),(3,K 46 y46 a0)]) H fun v0 H =>
  vx_block <|
  lX (fun ((v11,v12):List Y91×Int)=>Z [p 2 (J a2),p 7 (O 53),p 19 (L y139 v0.2.2.2.1),p 20 (I (↑v0.2.2.2.1.length:Int)),p 21 (I v12)] [(53,A 91 y91 v11 0)]) ([],0) H fun _ g1 b1 e1 t1 ⟨v11,v12⟩ H =>
  qA (Z [p 2 (J a2),p 7 (O 53),p 19 (L y139 v0.2.2.2.1),p 20 (I (↑v0.2.2.2.1.length:Int)),p 21 (I v12),p 22 (B (decide (v12 < (↑v0.2.2.2.1.length:Int))))] [(53,A 91 y91 v11 0)]) <|
  vx_seq <|
  cD H (fun H=>?_) (fun H=>?_)
 ·refine vx_skip<|fx_seq <|
   jN r (fun (v23:List Y91)=>Z [p 2 (J a2),p 7 (O 53),p 19 (L y139 v0.2.2.2.1),p 20 (I (↑v0.2.2.2.1.length:Int)),p 21 (I v12)] [(53,A 91 y91 v23 0)]) (u98J2 v12 g1) (fun v23 H=>?_) (fun _ n2 e2 t2=>?_)
  ·refine zB (Z [p 2 (J a2),p 7 (O 53),p 19 (L y139 v0.2.2.2.1),p 20 (I (↑v0.2.2.2.1.length:Int)),p 21 (I (v12+1))] [(53,A 91 y91 v23 0)]) H fun H =>
    b1 H
  refine vx_block <|
   qD (fun v13=>Z [p 2 (J a2),p 7 (O 53),p 8 (I v12),p 9 (R 9),p 19 (L y139 v0.2.2.2.1),p 20 (I (↑v0.2.2.2.1.length:Int)),p 21 (I v12)] [(9,K 139 y139 v13),(53,A 91 y91 v11 0)]) H fun v13 H =>
   qD (fun v14=>Z [p 2 (J a2),p 7 (O 53),p 8 (I v12),p 9 (R 9),p 19 (L y139 v0.2.2.2.1),p 20 (I (↑v0.2.2.2.1.length:Int)),p 21 (I v12),p 27 (O 27),p 28 (I (↑v14.length:Int)),p 29 (I 0)] [(27,A 192 (i64.pr i64) v14 0),(9,K 139 y139 v13),(53,A 91 y91 v11 0)]) H fun v14 H =>
   vx_block <|
   lX (fun ((v18,v19):Int×List Y91)=>Z [p 2 (J a2),p 7 (O 53),p 8 (I v12),p 9 (R 9),p 19 (L y139 v0.2.2.2.1),p 20 (I (↑v0.2.2.2.1.length:Int)),p 21 (I v12),p 27 (O 27),p 28 (I (↑v14.length:Int)),p 29 (I v18)] [(27,A 192 (i64.pr i64) v14 0),(9,K 139 y139 v13),(53,A 91 y91 v19 0)]) (0,v11) H fun _ g3 b3 e3 t3 ⟨v18,v19⟩ H =>
   qA (Z [p 2 (J a2),p 7 (O 53),p 8 (I v12),p 9 (R 9),p 19 (L y139 v0.2.2.2.1),p 20 (I (↑v0.2.2.2.1.length:Int)),p 21 (I v12),p 27 (O 27),p 28 (I (↑v14.length:Int)),p 29 (I v18),p 30 (B (decide (v18 < (↑v14.length:Int))))] [(27,A 192 (i64.pr i64) v14 0),(9,K 139 y139 v13),(53,A 91 y91 v19 0)]) <|
   vx_seq <|
   cD H (fun H=>?_) (fun H=>?_)
  ·refine vx_skip<|fx_seq<|vx_seq<|vx_block <|
    qD (fun v20=>Z [p 2 (J a2),p 7 (O 53),p 8 (I v12),p 9 (R 9),p 11 (R 11),p 19 (L y139 v0.2.2.2.1),p 20 (I (↑v0.2.2.2.1.length:Int)),p 21 (I v12),p 27 (O 27),p 28 (I (↑v14.length:Int)),p 29 (I v18)] [(11,Ob.box 192 (cellsD true (i64.pr i64) v20)),(27,A 192 (i64.pr i64) v14 0),(9,K 139 y139 v13),(53,A 91 y91 v19 0)]) H fun v20 H =>
    zD (fun (v21,v22)=>Z [p 2 (J a2),p 7 (AV.os 53 1),p 8 (I v12),p 9 (R 9),p 19 (L y139 v0.2.2.2.1),p 20 (I (↑v0.2.2.2.1.length:Int)),p 21 (I v12),p 27 (O 27),p 28 (I (↑v14.length:Int)),p 29 (I v18)] [(53,A 91 y91 v21 1),(52,A 91 y91 v22 0),(11,Ob.box 192 (cellsD true (i64.pr i64) v20)),(27,A 192 (i64.pr i64) v14 0),(9,K 139 y139 v13)]) H fun ⟨v21,v22⟩ H =>
    fx_blk<|fx_seq <|
    zB (Z [p 2 (J a2),p 7 (AV.os 53 1),p 8 (I v12),p 9 (R 9),p 19 (L y139 v0.2.2.2.1),p 20 (I (↑v0.2.2.2.1.length:Int)),p 21 (I v12),p 27 (O 27),p 28 (I (↑v14.length:Int)),p 29 (I (v18+1))] [(53,A 91 y91 v21 1),(52,A 91 y91 v22 0),(11,Ob.box 192 (cellsD true (i64.pr i64) v20)),(27,A 192 (i64.pr i64) v14 0),(9,K 139 y139 v13)]) H fun H =>
    b3 H
  exact vx_exit<|fx_seq_exit<|e3<|fx_blk_exit rfl<|fx_blk<|n2 H
 exact vx_exit<|fx_seq_exit<|e1<|fx_blk_exit rfl<|n0 H
def u51J5 (a0:Y46) (v0:List Y146):List Y91×List Int×List (List Int)→Option (Y86)
 | (v97,v98,v99) =>
 some (a0,v0,v97,v98,v99,[])
def u51J7 (v71:Int) (g6:Int×List Int×List (List Int)×List Y91→Option (Y86)):List (List Int)×List Int×List Y91→Option (Y86)
 | (v94,v95,v96) =>
 gd (in64 (v71+1)∧True) <|
 g6 (v71+1,v95,v94,v96)
def u51J9 (v85:Int) (g8:Int×List Y91→Option (Y86)):List Y91→Option (Y86)
 | v93 =>
 gd (in64 (v85+1)∧True) <|
 g8 (v85+1,v93)
def u51L10 (v24:List Int) (v71:Int) (v23:List (List Int)) (v85:Int) (g8:Int×List Y91→Option (Y86)) (g10:Int×List Y91→Option (Y86)):Int×List Y91→Option (Y86)
 | (v89,v90) =>
 if (decide (v89 < 2))=true then
  gd (ix v71 v24.length∧v71.toNat < v24.length∧in64 ((2:Int)*v24.getD v71.toNat (0:Int))∧in64 ((2:Int)*v24.getD v71.toNat (0:Int)+v89)∧in64 ((2:Int)*List.getD (v23.getD v71.toNat []) v85.toNat (0:Int))∧in64 ((2:Int)*List.getD (v23.getD v71.toNat []) v85.toNat (0:Int)+v89)∧(v90.length+[((2:Int)*v24.getD v71.toNat (0:Int)+v89,(2:Int)*List.getD (v23.getD v71.toNat []) v85.toNat (0:Int)+v89,(2:Int),v85)].length≤9223372036854775807∧(v90.length+[((2:Int)*v24.getD v71.toNat (0:Int)+v89,(2:Int)*List.getD (v23.getD v71.toNat []) v85.toNat (0:Int)+v89,(2:Int),v85)].length)*32≤140737488355328)∧True)<|lt ((v90++[((2:Int)*v24.getD v71.toNat (0:Int)+v89,(2:Int)*List.getD (v23.getD v71.toNat []) v85.toNat (0:Int)+v89,(2:Int),v85)],[((2:Int)*v24.getD v71.toNat (0:Int)+v89,(2:Int)*List.getD (v23.getD v71.toNat []) v85.toNat (0:Int)+v89,(2:Int),v85)])) fun (v91,v92) =>
  gd (in64 (v89+1)∧True) <|
  g10 (v89+1,v91)
 else
  u51J9 v85 g8 v90
def u51L8 (v24:List Int) (v71:Int) (v23:List (List Int)) (v73:List (List Int)) (v76:List Int) (v72:List Int) (v75:List Int) (g6:Int×List Int×List (List Int)×List Y91→Option (Y86)) (g8:Int×List Y91→Option (Y86)):Int×List Y91→Option (Y86)
 | (v85,v86) =>
 if (decide (v85 < (↑(List.length (v23.getD v71.toNat [])):Int)))=true then
  gd (ix v85 (List.length (v23.getD v71.toNat []))∧True) <|
  lp (u51L10 v24 v71 v23 v85 g8) (0,v86)
 else
  u51J7 v71 g6 ((v73++[v76],v72++[v75.getD (Int.toNat (0:Int)) (0:Int)],v86))
def u51L6 (v24:List Int) (v23:List (List Int)) (a0:Y46) (v0:List Y146) (g6:Int×List Int×List (List Int)×List Y91→Option (Y86)):Int×List Int×List (List Int)×List Y91→Option (Y86)
 | (v71,v72,v73,v74) =>
 if (decide (v71 < (↑a0.2.2.length:Int)))=true then
  gd ((u100 a0 v71).isSome=true∧ix (0:Int) (vl (u100 a0 v71)).length∧Int.toNat (0:Int) < (vl (u100 a0 v71)).length∧(v72.length+[(vl (u100 a0 v71)).getD (Int.toNat (0:Int)) (0:Int)].length≤9223372036854775807∧(v72.length+[(vl (u100 a0 v71)).getD (Int.toNat (0:Int)) (0:Int)].length)*8≤140737488355328)∧True)<|lt (vl (u100 a0 v71)) fun v75 =>
  gd ((u40 a0 v71).isSome=true∧(v73.length+[vl (u40 a0 v71)].length≤9223372036854775807∧(v73.length+[vl (u40 a0 v71)].length)*24≤140737488355328)∧True)<|lt (vl (u40 a0 v71)) fun v76 =>
  gd (ix v71 v23.length∧True) <|
  lp (u51L8 v24 v71 v23 v73 v76 v72 v75 g6) (0,v74)
 else
  u51J5 a0 v0 (v74,v72,v73)
def u51J2 (a0:Y46) (v0:List Y146) (v10:List Y91):List (List Int)×List Int→Option (Y86)
 | (v23,v24) =>
 lp (u51L6 v24 v23 a0 v0) (0,[],[],v10)
def u51J4 (v16:Int) (g3:Int×List (List Int)×List Int→Option (Y86)):List Int×List (List Int)→Option (Y86)
 | (v21,v22) =>
 gd (in64 (v16+1)∧True) <|
 g3 (v16+1,v22,v21)
def u51L3 (v0:List Y146) (a0:Y46) (v10:List Y91) (g3:Int×List (List Int)×List Int→Option (Y86)):Int×List (List Int)×List Int→Option (Y86)
 | (v16,v17,v18) =>
 if (decide (v16 < (↑v0.length:Int)))=true then
  gd (ix v16 v0.length∧v16.toNat < v0.length∧True)<|lt (v0.getD v16.toNat (dflt y146)) fun v19 =>
  if v19.2.2.2=true then
   gd (ix v19.2.2.1 v18.length∧v19.2.2.1.toNat < v18.length∧True) <|
   u51J4 v16 g3 (v18.set v19.2.2.1.toNat v16,v17)
  else
   gd (ix v19.2.2.1 v17.length∧v19.2.2.1.toNat < v17.length∧((v17.getD v19.2.2.1.toNat []).length+[v16].length≤9223372036854775807∧((v17.getD v19.2.2.1.toNat []).length+[v16].length)*8≤140737488355328)∧ix v19.2.2.1 v17.length∧(v19.2.2.1.toNat < v17.length∧v19.2.2.1.toNat=v19.2.2.1.toNat)∧True)<|lt (v17.set v19.2.2.1.toNat (v17.getD v19.2.2.1.toNat []++[v16])) fun v20 =>
   u51J4 v16 g3 (v18,v20)
 else
  u51J2 a0 v0 v10 (v17,v18)
def u51J0 (v0:List Y146) (a0:Y46):List Y91→Option (Y86)
 | v10 =>
 gd ((0≤(↑a0.2.2.length:Int)∧(↑a0.2.2.length:Int)=(↑a0.2.2.length:Int)∧(↑a0.2.2.length:Int).toNat*8≤281474976710656∧(↑a0.2.2.length:Int)≤9223372036854775807)∧True) <|
 gd ((0≤(↑a0.2.2.length:Int)∧(↑a0.2.2.length:Int)=(↑a0.2.2.length:Int)∧(↑a0.2.2.length:Int).toNat*24≤281474976710656∧(↑a0.2.2.length:Int)≤9223372036854775807)∧True) <|
 lp (u51L3 v0 a0 v10) ((0,List.replicate (↑a0.2.2.length:Int).toNat [],List.replicate (↑a0.2.2.length:Int).toNat 0))
def u51L1 (a0:Y46) (v0:List Y146) (g1:Int×Int×List Y91→Option (Y86)):Int×Int×List Y91→Option (Y86)
 | (v4,v5,v6) =>
 if (decide (v5 < (↑a0.2.1.1.length:Int)))=true then
  gd (ix v5 a0.2.1.1.length∧True)<|lt (a0.2.1.1.getD v5.toNat (dflt y136)) fun v7 =>
  gd ((u98 a0 v7 v4).isSome=true∧(v6.length+(vl (u98 a0 v7 v4)).length≤9223372036854775807∧(v6.length+(vl (u98 a0 v7 v4)).length)*32≤140737488355328)∧True)<|lt (vl (u98 a0 v7 v4)) fun v8 =>
  gd ((u99 v7.2.2).isSome=true∧in64 (v4+vl (u99 v7.2.2))∧True)<|lt (vl (u99 v7.2.2)) fun v9 =>
  gd (in64 (v5+1)∧True) <|
  g1 (v4+v9,v5+1,v6++v8)
 else
  u51J0 v0 a0 v6
def u51 (a0:Y46):Option (Y86) :=
 gd ((u96 a0.2.1).isSome=true∧True)<|lt (vl (u96 a0.2.1)) fun v0 =>
 lp (u51L1 a0 v0) (0,0,[])
def k51:Ct:=lct 51 [.agg y46] (fun x=>u51 x.1) (fun r:Y86=>D y86.pt r) (fun _=>())
theorem o51:Ok Tryz.prog k51:=by
 refine okL [.tmp 2] Tryz.func51 Tryz.ntmps51 Tryz.results51 ?_
 intro y ⟨a0,_⟩ r H Q hn hr
 have:HT _ _:=⟨tc o40d (tc o100 (tc o99 (tc o98 (tc o96 tn))))⟩
 refine qA (Z [p 1 (R 1)] [(1,K 46 y46 a0)]) <|
  qD (fun v0=>Z [p 1 (R 1),p 3 (R 20)] [(20,Ob.box 86 [L y134 a0.1,L y136 a0.2.1.1,L Ty.str a0.2.1.2.1,L y172 a0.2.1.2.2,L y114 a0.2.2,AV.os 18 0,nil,nil,nil,nil]),(18,A 146 y146 v0 0),(1,K 46 y46 a0)]) H fun v0 H =>
  qA (Z [p 1 (R 1),p 3 (R 20),p 4 (I 0)] [(20,Ob.box 86 [L y134 a0.1,L y136 a0.2.1.1,L Ty.str a0.2.1.2.1,L y172 a0.2.1.2.2,L y114 a0.2.2,AV.os 18 0,nil,nil,nil,nil]),(18,A 146 y146 v0 0),(1,K 46 y46 a0)]) <|
  jN r (fun (v10:List Y91)=>Z [p 1 (R 1),p 3 (R 20)] [(20,Ob.box 86 [L y134 a0.1,L y136 a0.2.1.1,L Ty.str a0.2.1.2.1,L y172 a0.2.1.2.2,L y114 a0.2.2,AV.os 18 0,AV.os 38 0,nil,nil,nil]),(18,A 146 y146 v0 0),(1,K 46 y46 a0),(38,A 91 y91 v10 0)]) (u51J0 v0 a0) (fun v10 H=>?_) (fun _ n0 e0 t0=>?_)
 ·refine qB (Z [p 1 (R 1),p 3 (R 20),p 7 (O 50)] [(50,A 2 i64 (List.replicate (↑a0.2.2.length:Int).toNat 0) 0),(20,Ob.box 86 [L y134 a0.1,L y136 a0.2.1.1,L Ty.str a0.2.1.2.1,L y172 a0.2.1.2.2,L y114 a0.2.2,AV.os 18 0,AV.os 38 0,nil,nil,nil]),(18,A 146 y146 v0 0),(1,K 46 y46 a0),(38,A 91 y91 v10 0)]) H fun H =>
   qB (Z [p 1 (R 1),p 3 (R 20),p 7 (O 50),p 8 (AV.og 54)] [(54,Ob.grd 34 2 true i64 (List.replicate (↑a0.2.2.length:Int).toNat []) none),(50,A 2 i64 (List.replicate (↑a0.2.2.length:Int).toNat 0) 0),(20,Ob.box 86 [L y134 a0.1,L y136 a0.2.1.1,L Ty.str a0.2.1.2.1,L y172 a0.2.1.2.2,L y114 a0.2.2,AV.os 18 0,AV.os 38 0,nil,nil,nil]),(18,A 146 y146 v0 0),(1,K 46 y46 a0),(38,A 91 y91 v10 0)]) H fun H =>
   jN r (fun ((v23,v24):List (List Int)×List Int)=>Z [p 1 (R 1),p 3 (R 20),p 7 (O 50),p 8 (AV.og 54)] [(54,Ob.grd 34 2 true i64 v23 none),(50,A 2 i64 v24 0),(20,Ob.box 86 [L y134 a0.1,L y136 a0.2.1.1,L Ty.str a0.2.1.2.1,L y172 a0.2.1.2.2,L y114 a0.2.2,AV.os 18 0,AV.os 38 0,nil,nil,nil]),(18,A 146 y146 v0 0),(1,K 46 y46 a0),(38,A 91 y91 v10 0)]) (u51J2 a0 v0 v10) (fun ⟨v23,v24⟩ H=>?_) (fun _ n2 e2 t2=>?_)
  ·refine jN r (fun ((v97,v98,v99):List Y91×List Int×List (List Int))=>Z [p 3 (R 20)] [(20,Ob.box 86 [L y134 a0.1,L y136 a0.2.1.1,L Ty.str a0.2.1.2.1,L y172 a0.2.1.2.2,L y114 a0.2.2,AV.os 18 0,AV.os 38 0,AV.os 102 0,AV.os 114 0,nil]),(18,A 146 y146 v0 0),(38,A 91 y91 v97 0),(102,A 2 i64 v98 0),(114,A 34 i64.sl v99 0)]) (u51J5 a0 v0) (fun ⟨v97,v98,v99⟩ H=>?_) (fun _ n5 e5 t5=>?_)
   ·refine qA (Z [p 2 (R 20)] [(20,Ob.box 86 [L y134 a0.1,L y136 a0.2.1.1,L Ty.str a0.2.1.2.1,L y172 a0.2.1.2.2,L y114 a0.2.2,AV.os 18 0,AV.os 38 0,AV.os 102 0,AV.os 114 0,nil]),(18,A 146 y146 v0 0),(38,A 91 y91 v97 0),(102,A 2 i64 v98 0),(114,A 34 i64.sl v99 0)]) <|
     vx_ret<|hr H
   refine qA (Z [p 1 (R 1),p 3 (R 20),p 7 (O 50),p 8 (AV.og 54),p 87 (I (↑a0.2.2.length:Int)),p 88 (I 0)] [(54,Ob.grd 34 2 true i64 v23 none),(50,A 2 i64 v24 0),(20,Ob.box 86 [L y134 a0.1,L y136 a0.2.1.1,L Ty.str a0.2.1.2.1,L y172 a0.2.1.2.2,L y114 a0.2.2,AV.os 18 0,AV.os 38 0,nil,nil,nil]),(18,A 146 y146 v0 0),(1,K 46 y46 a0),(38,A 91 y91 v10 0)]) <|
    vx_block <|
    fZ 54 (Z [p 1 (R 1),p 3 (R 20),p 7 (O 50),p 8 (M i64.sl v23),p 87 (I (↑a0.2.2.length:Int)),p 88 (I 0)] [(50,A 2 i64 v24 0),(20,Ob.box 86 [L y134 a0.1,L y136 a0.2.1.1,L Ty.str a0.2.1.2.1,L y172 a0.2.1.2.2,L y114 a0.2.2,AV.os 18 0,AV.os 38 0,nil,nil,nil]),(18,A 146 y146 v0 0),(1,K 46 y46 a0),(38,A 91 y91 v10 0)]) <|
    lX (fun ((v71,v72,v73,v74):Int×List Int×List (List Int)×List Y91)=>Z [p 1 (R 1),p 3 (R 20),p 7 (O 50),p 8 (M i64.sl v23),p 87 (I (↑a0.2.2.length:Int)),p 88 (I v71)] [(50,A 2 i64 v24 0),(20,Ob.box 86 [L y134 a0.1,L y136 a0.2.1.1,L Ty.str a0.2.1.2.1,L y172 a0.2.1.2.2,L y114 a0.2.2,AV.os 18 0,AV.os 38 0,AV.os 102 0,AV.os 114 0,nil]),(18,A 146 y146 v0 0),(1,K 46 y46 a0),(38,A 91 y91 v74 0),(102,A 2 i64 v72 0),(114,A 34 i64.sl v73 0)]) (0,[],[],v10) H fun _ g6 b6 e6 t6 ⟨v71,v72,v73,v74⟩ H =>
    qA (Z [p 1 (R 1),p 3 (R 20),p 7 (O 50),p 8 (M i64.sl v23),p 87 (I (↑a0.2.2.length:Int)),p 88 (I v71),p 89 (B (decide (v71 < (↑a0.2.2.length:Int))))] [(50,A 2 i64 v24 0),(20,Ob.box 86 [L y134 a0.1,L y136 a0.2.1.1,L Ty.str a0.2.1.2.1,L y172 a0.2.1.2.2,L y114 a0.2.2,AV.os 18 0,AV.os 38 0,AV.os 102 0,AV.os 114 0,nil]),(18,A 146 y146 v0 0),(1,K 46 y46 a0),(38,A 91 y91 v74 0),(102,A 2 i64 v72 0),(114,A 34 i64.sl v73 0)]) <|
    vx_seq <|
    cD H (fun H=>?_) (fun H=>?_)
   ·refine vx_skip<|fx_seq <|
     jN r (fun ((v94,v95,v96):List (List Int)×List Int×List Y91)=>Z [p 1 (R 1),p 3 (R 20),p 7 (O 50),p 8 (M i64.sl v23),p 87 (I (↑a0.2.2.length:Int)),p 88 (I v71)] [(20,Ob.box 86 [L y134 a0.1,L y136 a0.2.1.1,L Ty.str a0.2.1.2.1,L y172 a0.2.1.2.2,L y114 a0.2.2,AV.os 18 0,AV.os 38 0,AV.os 102 0,AV.os 114 0,nil]),(114,A 34 i64.sl v94 0),(102,A 2 i64 v95 0),(50,A 2 i64 v24 0),(18,A 146 y146 v0 0),(1,K 46 y46 a0),(38,A 91 y91 v96 0)]) (u51J7 v71 g6) (fun ⟨v94,v95,v96⟩ H=>?_) (fun _ n7 e7 t7=>?_)
    ·refine zB (Z [p 1 (R 1),p 3 (R 20),p 7 (O 50),p 8 (M i64.sl v23),p 87 (I (↑a0.2.2.length:Int)),p 88 (I (v71+1))] [(20,Ob.box 86 [L y134 a0.1,L y136 a0.2.1.1,L Ty.str a0.2.1.2.1,L y172 a0.2.1.2.2,L y114 a0.2.2,AV.os 18 0,AV.os 38 0,AV.os 102 0,AV.os 114 0,nil]),(114,A 34 i64.sl v94 0),(102,A 2 i64 v95 0),(50,A 2 i64 v24 0),(18,A 146 y146 v0 0),(1,K 46 y46 a0),(38,A 91 y91 v96 0)]) H fun H =>
      b6 H
    refine vx_block <|
     qA (Z [p 1 (R 1),p 3 (R 20),p 7 (O 50),p 8 (M i64.sl v23),p 11 (I v71),p 87 (I (↑a0.2.2.length:Int)),p 88 (I v71)] [(50,A 2 i64 v24 0),(20,Ob.box 86 [L y134 a0.1,L y136 a0.2.1.1,L Ty.str a0.2.1.2.1,L y172 a0.2.1.2.2,L y114 a0.2.2,AV.os 18 0,AV.os 38 0,AV.os 102 0,AV.os 114 0,nil]),(18,A 146 y146 v0 0),(1,K 46 y46 a0),(38,A 91 y91 v74 0),(102,A 2 i64 v72 0),(114,A 34 i64.sl v73 0)]) <|
     qD (fun v75=>Z [p 1 (R 1),p 3 (R 20),p 7 (O 50),p 8 (M i64.sl v23),p 11 (I v71),p 87 (I (↑a0.2.2.length:Int)),p 88 (I v71)] [(20,Ob.box 86 [L y134 a0.1,L y136 a0.2.1.1,L Ty.str a0.2.1.2.1,L y172 a0.2.1.2.2,L y114 a0.2.2,AV.os 18 0,AV.os 38 0,AV.os 102 1,AV.os 114 0,nil]),(102,A 2 i64 (v72++[v75.getD (Int.toNat (0:Int)) (0:Int)]) 1),(101,A 2 i64 [v75.getD (Int.toNat (0:Int)) (0:Int)] 0),(98,A 2 i64 v75 0),(50,A 2 i64 v24 0),(18,A 146 y146 v0 0),(1,K 46 y46 a0),(38,A 91 y91 v74 0),(114,A 34 i64.sl v73 0)]) H fun v75 H =>
     qD (fun v76=>Z [p 1 (R 1),p 3 (R 20),p 7 (O 50),p 8 (M i64.sl v23),p 11 (I v71),p 87 (I (↑a0.2.2.length:Int)),p 88 (I v71)] [(20,Ob.box 86 [L y134 a0.1,L y136 a0.2.1.1,L Ty.str a0.2.1.2.1,L y172 a0.2.1.2.2,L y114 a0.2.2,AV.os 18 0,AV.os 38 0,AV.os 102 1,AV.os 114 1,nil]),(114,A 34 i64.sl (v73++[v76]) 1),(113,A 34 i64.sl [v76] 0),(102,A 2 i64 (v72++[v75.getD (Int.toNat (0:Int)) (0:Int)]) 1),(101,A 2 i64 [v75.getD (Int.toNat (0:Int)) (0:Int)] 0),(98,A 2 i64 v75 0),(50,A 2 i64 v24 0),(18,A 146 y146 v0 0),(1,K 46 y46 a0),(38,A 91 y91 v74 0)]) H fun v76 H =>
     qB (Z [p 1 (R 1),p 3 (R 20),p 7 (O 50),p 8 (M i64.sl v23),p 11 (I v71),p 87 (I (↑a0.2.2.length:Int)),p 88 (I v71),p 120 (M i64 (v23.getD v71.toNat [])),p 121 (I (↑(List.length (v23.getD v71.toNat [])):Int)),p 122 (I (0:Int))] [(20,Ob.box 86 [L y134 a0.1,L y136 a0.2.1.1,L Ty.str a0.2.1.2.1,L y172 a0.2.1.2.2,L y114 a0.2.2,AV.os 18 0,AV.os 38 0,AV.os 102 1,AV.os 114 1,nil]),(114,A 34 i64.sl (v73++[v76]) 1),(113,A 34 i64.sl [v76] 0),(102,A 2 i64 (v72++[v75.getD (Int.toNat (0:Int)) (0:Int)]) 1),(101,A 2 i64 [v75.getD (Int.toNat (0:Int)) (0:Int)] 0),(98,A 2 i64 v75 0),(50,A 2 i64 v24 0),(18,A 146 y146 v0 0),(1,K 46 y46 a0),(38,A 91 y91 v74 0)]) H fun H =>
     vx_block <|
     lX (fun ((v85,v86):Int×List Y91)=>Z [p 1 (R 1),p 3 (R 20),p 7 (O 50),p 8 (M i64.sl v23),p 11 (I v71),p 87 (I (↑a0.2.2.length:Int)),p 88 (I v71),p 120 (M i64 (v23.getD v71.toNat [])),p 121 (I (↑(List.length (v23.getD v71.toNat [])):Int)),p 122 (I v85)] [(20,Ob.box 86 [L y134 a0.1,L y136 a0.2.1.1,L Ty.str a0.2.1.2.1,L y172 a0.2.1.2.2,L y114 a0.2.2,AV.os 18 0,AV.os 38 0,AV.os 102 0,AV.os 114 0,nil]),(114,A 34 i64.sl (v73++[v76]) 0),(102,A 2 i64 (v72++[v75.getD (Int.toNat (0:Int)) (0:Int)]) 0),(50,A 2 i64 v24 0),(18,A 146 y146 v0 0),(1,K 46 y46 a0),(38,A 91 y91 v86 0)]) (0,v74) H fun _ g8 b8 e8 t8 ⟨v85,v86⟩ H =>
     qA (Z [p 1 (R 1),p 3 (R 20),p 7 (O 50),p 8 (M i64.sl v23),p 11 (I v71),p 87 (I (↑a0.2.2.length:Int)),p 88 (I v71),p 120 (M i64 (v23.getD v71.toNat [])),p 121 (I (↑(List.length (v23.getD v71.toNat [])):Int)),p 122 (I v85),p 123 (B (decide (v85 < (↑(List.length (v23.getD v71.toNat [])):Int))))] [(20,Ob.box 86 [L y134 a0.1,L y136 a0.2.1.1,L Ty.str a0.2.1.2.1,L y172 a0.2.1.2.2,L y114 a0.2.2,AV.os 18 0,AV.os 38 0,AV.os 102 0,AV.os 114 0,nil]),(114,A 34 i64.sl (v73++[v76]) 0),(102,A 2 i64 (v72++[v75.getD (Int.toNat (0:Int)) (0:Int)]) 0),(50,A 2 i64 v24 0),(18,A 146 y146 v0 0),(1,K 46 y46 a0),(38,A 91 y91 v86 0)]) <|
     vx_seq <|
     cD H (fun H=>?_) (fun H=>?_)
    ·refine vx_skip<|fx_seq <|
      jN r (fun (v93:List Y91)=>Z [p 1 (R 1),p 3 (R 20),p 7 (O 50),p 8 (M i64.sl v23),p 11 (I v71),p 87 (I (↑a0.2.2.length:Int)),p 88 (I v71),p 120 (M i64 (v23.getD v71.toNat [])),p 121 (I (↑(List.length (v23.getD v71.toNat [])):Int)),p 122 (I v85)] [(20,Ob.box 86 [L y134 a0.1,L y136 a0.2.1.1,L Ty.str a0.2.1.2.1,L y172 a0.2.1.2.2,L y114 a0.2.2,AV.os 18 0,AV.os 38 0,AV.os 102 0,AV.os 114 0,nil]),(114,A 34 i64.sl (v73++[v76]) 0),(102,A 2 i64 (v72++[v75.getD (Int.toNat (0:Int)) (0:Int)]) 0),(50,A 2 i64 v24 0),(18,A 146 y146 v0 0),(1,K 46 y46 a0),(38,A 91 y91 v93 0)]) (u51J9 v85 g8) (fun v93 H=>?_) (fun _ n9 e9 t9=>?_)
     ·refine zB (Z [p 1 (R 1),p 3 (R 20),p 7 (O 50),p 8 (M i64.sl v23),p 11 (I v71),p 87 (I (↑a0.2.2.length:Int)),p 88 (I v71),p 120 (M i64 (v23.getD v71.toNat [])),p 121 (I (↑(List.length (v23.getD v71.toNat [])):Int)),p 122 (I (v85+(1:Int)))] [(20,Ob.box 86 [L y134 a0.1,L y136 a0.2.1.1,L Ty.str a0.2.1.2.1,L y172 a0.2.1.2.2,L y114 a0.2.2,AV.os 18 0,AV.os 38 0,AV.os 102 0,AV.os 114 0,nil]),(114,A 34 i64.sl (v73++[v76]) 0),(102,A 2 i64 (v72++[v75.getD (Int.toNat (0:Int)) (0:Int)]) 0),(50,A 2 i64 v24 0),(18,A 146 y146 v0 0),(1,K 46 y46 a0),(38,A 91 y91 v93 0)]) H fun H =>
       b8 H
     refine vx_block <|
      qB (Z [p 1 (R 1),p 3 (R 20),p 7 (O 50),p 8 (M i64.sl v23),p 11 (I v71),p 12 (I v85),p 13 (I (List.getD (v23.getD v71.toNat []) v85.toNat (0:Int))),p 87 (I (↑a0.2.2.length:Int)),p 88 (I v71),p 120 (M i64 (v23.getD v71.toNat [])),p 121 (I (↑(List.length (v23.getD v71.toNat [])):Int)),p 122 (I v85)] [(20,Ob.box 86 [L y134 a0.1,L y136 a0.2.1.1,L Ty.str a0.2.1.2.1,L y172 a0.2.1.2.2,L y114 a0.2.2,AV.os 18 0,AV.os 38 0,AV.os 102 0,AV.os 114 0,nil]),(114,A 34 i64.sl (v73++[v76]) 0),(102,A 2 i64 (v72++[v75.getD (Int.toNat (0:Int)) (0:Int)]) 0),(50,A 2 i64 v24 0),(18,A 146 y146 v0 0),(1,K 46 y46 a0),(38,A 91 y91 v86 0)]) H fun H =>
      qA (Z [p 1 (R 1),p 3 (R 20),p 7 (O 50),p 8 (M i64.sl v23),p 11 (I v71),p 12 (I v85),p 13 (I (List.getD (v23.getD v71.toNat []) v85.toNat (0:Int))),p 87 (I (↑a0.2.2.length:Int)),p 88 (I v71),p 120 (M i64 (v23.getD v71.toNat [])),p 121 (I (↑(List.length (v23.getD v71.toNat [])):Int)),p 122 (I v85),p 127 (I (0:Int))] [(20,Ob.box 86 [L y134 a0.1,L y136 a0.2.1.1,L Ty.str a0.2.1.2.1,L y172 a0.2.1.2.2,L y114 a0.2.2,AV.os 18 0,AV.os 38 0,AV.os 102 0,AV.os 114 0,nil]),(114,A 34 i64.sl (v73++[v76]) 0),(102,A 2 i64 (v72++[v75.getD (Int.toNat (0:Int)) (0:Int)]) 0),(50,A 2 i64 v24 0),(18,A 146 y146 v0 0),(1,K 46 y46 a0),(38,A 91 y91 v86 0)]) <|
      vx_block <|
      lX (fun ((v89,v90):Int×List Y91)=>Z [p 1 (R 1),p 3 (R 20),p 7 (O 50),p 8 (M i64.sl v23),p 11 (I v71),p 12 (I v85),p 13 (I (List.getD (v23.getD v71.toNat []) v85.toNat (0:Int))),p 87 (I (↑a0.2.2.length:Int)),p 88 (I v71),p 120 (M i64 (v23.getD v71.toNat [])),p 121 (I (↑(List.length (v23.getD v71.toNat [])):Int)),p 122 (I v85),p 127 (I v89)] [(20,Ob.box 86 [L y134 a0.1,L y136 a0.2.1.1,L Ty.str a0.2.1.2.1,L y172 a0.2.1.2.2,L y114 a0.2.2,AV.os 18 0,AV.os 38 0,AV.os 102 0,AV.os 114 0,nil]),(114,A 34 i64.sl (v73++[v76]) 0),(102,A 2 i64 (v72++[v75.getD (Int.toNat (0:Int)) (0:Int)]) 0),(50,A 2 i64 v24 0),(18,A 146 y146 v0 0),(1,K 46 y46 a0),(38,A 91 y91 v90 0)]) (0,v86) H fun _ g10 b10 e10 t10 ⟨v89,v90⟩ H =>
      qA (Z [p 1 (R 1),p 3 (R 20),p 7 (O 50),p 8 (M i64.sl v23),p 11 (I v71),p 12 (I v85),p 13 (I (List.getD (v23.getD v71.toNat []) v85.toNat (0:Int))),p 87 (I (↑a0.2.2.length:Int)),p 88 (I v71),p 120 (M i64 (v23.getD v71.toNat [])),p 121 (I (↑(List.length (v23.getD v71.toNat [])):Int)),p 122 (I v85),p 127 (I v89),p 128 (B (decide (v89 < (2:Int))))] [(20,Ob.box 86 [L y134 a0.1,L y136 a0.2.1.1,L Ty.str a0.2.1.2.1,L y172 a0.2.1.2.2,L y114 a0.2.2,AV.os 18 0,AV.os 38 0,AV.os 102 0,AV.os 114 0,nil]),(114,A 34 i64.sl (v73++[v76]) 0),(102,A 2 i64 (v72++[v75.getD (Int.toNat (0:Int)) (0:Int)]) 0),(50,A 2 i64 v24 0),(18,A 146 y146 v0 0),(1,K 46 y46 a0),(38,A 91 y91 v90 0)]) <|
      vx_seq <|
      cD H (fun H=>?_) (fun H=>?_)
     ·refine vx_skip<|fx_seq<|vx_seq<|vx_block <|
       qA (Z [p 1 (R 1),p 3 (R 20),p 7 (O 50),p 8 (M i64.sl v23),p 11 (I v71),p 12 (I v85),p 13 (I (List.getD (v23.getD v71.toNat []) v85.toNat (0:Int))),p 14 (I v89),p 87 (I (↑a0.2.2.length:Int)),p 88 (I v71),p 120 (M i64 (v23.getD v71.toNat [])),p 121 (I (↑(List.length (v23.getD v71.toNat [])):Int)),p 122 (I v85),p 127 (I v89)] [(20,Ob.box 86 [L y134 a0.1,L y136 a0.2.1.1,L Ty.str a0.2.1.2.1,L y172 a0.2.1.2.2,L y114 a0.2.2,AV.os 18 0,AV.os 38 0,AV.os 102 0,AV.os 114 0,nil]),(114,A 34 i64.sl (v73++[v76]) 0),(102,A 2 i64 (v72++[v75.getD (Int.toNat (0:Int)) (0:Int)]) 0),(50,A 2 i64 v24 0),(18,A 146 y146 v0 0),(1,K 46 y46 a0),(38,A 91 y91 v90 0)]) <|
       zD (fun (v91,v92)=>Z [p 1 (R 1),p 3 (R 20),p 7 (O 50),p 8 (M i64.sl v23),p 11 (I v71),p 12 (I v85),p 13 (I (List.getD (v23.getD v71.toNat []) v85.toNat (0:Int))),p 87 (I (↑a0.2.2.length:Int)),p 88 (I v71),p 120 (M i64 (v23.getD v71.toNat [])),p 121 (I (↑(List.length (v23.getD v71.toNat [])):Int)),p 122 (I v85),p 127 (I v89)] [(20,Ob.box 86 [L y134 a0.1,L y136 a0.2.1.1,L Ty.str a0.2.1.2.1,L y172 a0.2.1.2.2,L y114 a0.2.2,AV.os 18 0,AV.os 38 1,AV.os 102 0,AV.os 114 0,nil]),(38,A 91 y91 v91 1),(148,A 91 y91 v92 0),(114,A 34 i64.sl (v73++[v76]) 0),(102,A 2 i64 (v72++[v75.getD (Int.toNat (0:Int)) (0:Int)]) 0),(50,A 2 i64 v24 0),(18,A 146 y146 v0 0),(1,K 46 y46 a0)]) H fun ⟨v91,v92⟩ H =>
       fx_blk<|fx_seq <|
       zB (Z [p 1 (R 1),p 3 (R 20),p 7 (O 50),p 8 (M i64.sl v23),p 11 (I v71),p 12 (I v85),p 13 (I (List.getD (v23.getD v71.toNat []) v85.toNat (0:Int))),p 87 (I (↑a0.2.2.length:Int)),p 88 (I v71),p 120 (M i64 (v23.getD v71.toNat [])),p 121 (I (↑(List.length (v23.getD v71.toNat [])):Int)),p 122 (I v85),p 127 (I (v89+(1:Int)))] [(20,Ob.box 86 [L y134 a0.1,L y136 a0.2.1.1,L Ty.str a0.2.1.2.1,L y172 a0.2.1.2.2,L y114 a0.2.2,AV.os 18 0,AV.os 38 1,AV.os 102 0,AV.os 114 0,nil]),(38,A 91 y91 v91 1),(148,A 91 y91 v92 0),(114,A 34 i64.sl (v73++[v76]) 0),(102,A 2 i64 (v72++[v75.getD (Int.toNat (0:Int)) (0:Int)]) 0),(50,A 2 i64 v24 0),(18,A 146 y146 v0 0),(1,K 46 y46 a0)]) H fun H =>
       b10 H
     exact vx_exit<|fx_seq_exit<|e10<|fx_blk_exit rfl<|fx_blk<|n9 H
    exact vx_exit<|fx_seq_exit<|e8<|fx_blk_exit rfl<|fx_blk<|n7 H
   exact vx_exit<|fx_seq_exit<|e6<|fx_blk_exit rfl<|n5 H
  refine qA (Z [p 1 (R 1),p 3 (R 20),p 7 (O 50),p 8 (AV.og 54),p 58 (O 18),p 59 (I (↑v0.length:Int)),p 60 (I 0)] [(54,Ob.grd 34 2 true i64 (List.replicate (↑a0.2.2.length:Int).toNat []) none),(50,A 2 i64 (List.replicate (↑a0.2.2.length:Int).toNat 0) 0),(20,Ob.box 86 [L y134 a0.1,L y136 a0.2.1.1,L Ty.str a0.2.1.2.1,L y172 a0.2.1.2.2,L y114 a0.2.2,AV.os 18 0,AV.os 38 0,nil,nil,nil]),(18,A 146 y146 v0 0),(1,K 46 y46 a0),(38,A 91 y91 v10 0)]) <|
   vx_block <|
   lX (fun ((v16,v17,v18):Int×List (List Int)×List Int)=>Z [p 1 (R 1),p 3 (R 20),p 7 (O 50),p 8 (AV.og 54),p 58 (O 18),p 59 (I (↑v0.length:Int)),p 60 (I v16)] [(54,Ob.grd 34 2 true i64 v17 none),(50,A 2 i64 v18 0),(20,Ob.box 86 [L y134 a0.1,L y136 a0.2.1.1,L Ty.str a0.2.1.2.1,L y172 a0.2.1.2.2,L y114 a0.2.2,AV.os 18 0,AV.os 38 0,nil,nil,nil]),(18,A 146 y146 v0 0),(1,K 46 y46 a0),(38,A 91 y91 v10 0)]) ((0,List.replicate (↑a0.2.2.length:Int).toNat [],List.replicate (↑a0.2.2.length:Int).toNat 0)) H fun _ g3 b3 e3 t3 ⟨v16,v17,v18⟩ H =>
   qA (Z [p 1 (R 1),p 3 (R 20),p 7 (O 50),p 8 (AV.og 54),p 58 (O 18),p 59 (I (↑v0.length:Int)),p 60 (I v16),p 61 (B (decide (v16 < (↑v0.length:Int))))] [(54,Ob.grd 34 2 true i64 v17 none),(50,A 2 i64 v18 0),(20,Ob.box 86 [L y134 a0.1,L y136 a0.2.1.1,L Ty.str a0.2.1.2.1,L y172 a0.2.1.2.2,L y114 a0.2.2,AV.os 18 0,AV.os 38 0,nil,nil,nil]),(18,A 146 y146 v0 0),(1,K 46 y46 a0),(38,A 91 y91 v10 0)]) <|
   vx_seq <|
   cD H (fun H=>?_) (fun H=>?_)
  ·refine vx_skip<|fx_seq <|
    jN r (fun ((v21,v22):List Int×List (List Int))=>Z [p 1 (R 1),p 3 (R 20),p 7 (O 50),p 8 (AV.og 54),p 58 (O 18),p 59 (I (↑v0.length:Int)),p 60 (I v16)] [(50,A 2 i64 v21 0),(54,Ob.grd 34 2 true i64 v22 none),(20,Ob.box 86 [L y134 a0.1,L y136 a0.2.1.1,L Ty.str a0.2.1.2.1,L y172 a0.2.1.2.2,L y114 a0.2.2,AV.os 18 0,AV.os 38 0,nil,nil,nil]),(18,A 146 y146 v0 0),(1,K 46 y46 a0),(38,A 91 y91 v10 0)]) (u51J4 v16 g3) (fun ⟨v21,v22⟩ H=>?_) (fun _ n4 e4 t4=>?_)
   ·refine zB (Z [p 1 (R 1),p 3 (R 20),p 7 (O 50),p 8 (AV.og 54),p 58 (O 18),p 59 (I (↑v0.length:Int)),p 60 (I (v16+1))] [(50,A 2 i64 v21 0),(54,Ob.grd 34 2 true i64 v22 none),(20,Ob.box 86 [L y134 a0.1,L y136 a0.2.1.1,L Ty.str a0.2.1.2.1,L y172 a0.2.1.2.2,L y114 a0.2.2,AV.os 18 0,AV.os 38 0,nil,nil,nil]),(18,A 146 y146 v0 0),(1,K 46 y46 a0),(38,A 91 y91 v10 0)]) H fun H =>
     b3 H
   refine vx_block <|
    qD (fun v19=>Z [p 1 (R 1),p 3 (R 20),p 7 (O 50),p 8 (AV.og 54),p 9 (I v16),p 10 (R 10),p 58 (O 18),p 59 (I (↑v0.length:Int)),p 60 (I v16)] [(10,Ob.box 146 (cellsD true y146 v19)),(54,Ob.grd 34 2 true i64 v17 none),(50,A 2 i64 v18 0),(20,Ob.box 86 [L y134 a0.1,L y136 a0.2.1.1,L Ty.str a0.2.1.2.1,L y172 a0.2.1.2.2,L y114 a0.2.2,AV.os 18 0,AV.os 38 0,nil,nil,nil]),(18,A 146 y146 v0 0),(1,K 46 y46 a0),(38,A 91 y91 v10 0)]) H fun v19 H =>
    qA (Z [p 1 (R 1),p 3 (R 20),p 7 (O 50),p 8 (AV.og 54),p 9 (I v16),p 10 (R 10),p 58 (O 18),p 59 (I (↑v0.length:Int)),p 60 (I v16),p 66 (B v19.2.2.2)] [(10,Ob.box 146 (cellsD true y146 v19)),(54,Ob.grd 34 2 true i64 v17 none),(50,A 2 i64 v18 0),(20,Ob.box 86 [L y134 a0.1,L y136 a0.2.1.1,L Ty.str a0.2.1.2.1,L y172 a0.2.1.2.2,L y114 a0.2.2,AV.os 18 0,AV.os 38 0,nil,nil,nil]),(18,A 146 y146 v0 0),(1,K 46 y46 a0),(38,A 91 y91 v10 0)]) <|
    cD H (fun H=>?_) (fun H=>?_)
   ·refine zB (Z [p 1 (R 1),p 3 (R 20),p 7 (O 50),p 8 (AV.og 54),p 58 (O 18),p 59 (I (↑v0.length:Int)),p 60 (I v16)] [(50,A 2 i64 (v18.set v19.2.2.1.toNat v16) 0),(10,Ob.box 146 (cellsD true y146 v19)),(54,Ob.grd 34 2 true i64 v17 none),(20,Ob.box 86 [L y134 a0.1,L y136 a0.2.1.1,L Ty.str a0.2.1.2.1,L y172 a0.2.1.2.2,L y114 a0.2.2,AV.os 18 0,AV.os 38 0,nil,nil,nil]),(18,A 146 y146 v0 0),(1,K 46 y46 a0),(38,A 91 y91 v10 0)]) H fun H =>
     fx_blk<|n4 H
   refine zD (fun v20=>Z [p 1 (R 1),p 3 (R 20),p 7 (O 50),p 8 (AV.og 54),p 58 (O 18),p 59 (I (↑v0.length:Int)),p 60 (I v16)] [(54,Ob.grd 34 2 true i64 v20 none),(79,A 2 i64 [] 2),(81,A 2 i64 [v16] 0),(10,Ob.box 146 (cellsD true y146 v19)),(50,A 2 i64 v18 0),(20,Ob.box 86 [L y134 a0.1,L y136 a0.2.1.1,L Ty.str a0.2.1.2.1,L y172 a0.2.1.2.2,L y114 a0.2.2,AV.os 18 0,AV.os 38 0,nil,nil,nil]),(18,A 146 y146 v0 0),(1,K 46 y46 a0),(38,A 91 y91 v10 0)]) H fun v20 H =>
    fx_blk<|n4 H
  exact vx_exit<|fx_seq_exit<|e3<|fx_blk_exit rfl<|n2 H
 refine qA (Z [p 1 (R 1),p 3 (R 20),p 4 (I 0),p 23 (L y136 a0.2.1.1),p 24 (I (↑a0.2.1.1.length:Int)),p 25 (I 0)] [(20,Ob.box 86 [L y134 a0.1,L y136 a0.2.1.1,L Ty.str a0.2.1.2.1,L y172 a0.2.1.2.2,L y114 a0.2.2,AV.os 18 0,nil,nil,nil,nil]),(18,A 146 y146 v0 0),(1,K 46 y46 a0)]) <|
  vx_block <|
  lX (fun ((v4,v5,v6):Int×Int×List Y91)=>Z [p 1 (R 1),p 3 (R 20),p 4 (I v4),p 23 (L y136 a0.2.1.1),p 24 (I (↑a0.2.1.1.length:Int)),p 25 (I v5)] [(20,Ob.box 86 [L y134 a0.1,L y136 a0.2.1.1,L Ty.str a0.2.1.2.1,L y172 a0.2.1.2.2,L y114 a0.2.2,AV.os 18 0,AV.os 38 0,nil,nil,nil]),(18,A 146 y146 v0 0),(1,K 46 y46 a0),(38,A 91 y91 v6 0)]) (0,0,[]) H fun _ g1 b1 e1 t1 ⟨v4,v5,v6⟩ H =>
  qA (Z [p 1 (R 1),p 3 (R 20),p 4 (I v4),p 23 (L y136 a0.2.1.1),p 24 (I (↑a0.2.1.1.length:Int)),p 25 (I v5),p 26 (B (decide (v5 < (↑a0.2.1.1.length:Int))))] [(20,Ob.box 86 [L y134 a0.1,L y136 a0.2.1.1,L Ty.str a0.2.1.2.1,L y172 a0.2.1.2.2,L y114 a0.2.2,AV.os 18 0,AV.os 38 0,nil,nil,nil]),(18,A 146 y146 v0 0),(1,K 46 y46 a0),(38,A 91 y91 v6 0)]) <|
  vx_seq <|
  cD H (fun H=>?_) (fun H=>?_)
 ·refine vx_skip<|fx_seq<|vx_seq<|vx_block <|
   qD (fun v7=>Z [p 1 (R 1),p 3 (R 20),p 4 (I v4),p 6 (R 6),p 23 (L y136 a0.2.1.1),p 24 (I (↑a0.2.1.1.length:Int)),p 25 (I v5)] [(6,K 136 y136 v7),(20,Ob.box 86 [L y134 a0.1,L y136 a0.2.1.1,L Ty.str a0.2.1.2.1,L y172 a0.2.1.2.2,L y114 a0.2.2,AV.os 18 0,AV.os 38 0,nil,nil,nil]),(18,A 146 y146 v0 0),(1,K 46 y46 a0),(38,A 91 y91 v6 0)]) H fun v7 H =>
   qD (fun v8=>Z [p 1 (R 1),p 3 (R 20),p 4 (I v4),p 6 (R 6),p 23 (L y136 a0.2.1.1),p 24 (I (↑a0.2.1.1.length:Int)),p 25 (I v5)] [(20,Ob.box 86 [L y134 a0.1,L y136 a0.2.1.1,L Ty.str a0.2.1.2.1,L y172 a0.2.1.2.2,L y114 a0.2.2,AV.os 18 0,AV.os 38 1,nil,nil,nil]),(38,A 91 y91 (v6++v8) 1),(37,A 91 y91 v8 0),(6,K 136 y136 v7),(18,A 146 y146 v0 0),(1,K 46 y46 a0)]) H fun v8 H =>
   zD (fun v9=>Z [p 1 (R 1),p 3 (R 20),p 4 (I (v4+v9)),p 23 (L y136 a0.2.1.1),p 24 (I (↑a0.2.1.1.length:Int)),p 25 (I v5)] [(20,Ob.box 86 [L y134 a0.1,L y136 a0.2.1.1,L Ty.str a0.2.1.2.1,L y172 a0.2.1.2.2,L y114 a0.2.2,AV.os 18 0,AV.os 38 1,nil,nil,nil]),(38,A 91 y91 (v6++v8) 1),(37,A 91 y91 v8 0),(6,K 136 y136 v7),(18,A 146 y146 v0 0),(1,K 46 y46 a0)]) H fun v9 H =>
   fx_blk<|fx_seq <|
   zB (Z [p 1 (R 1),p 3 (R 20),p 4 (I (v4+v9)),p 23 (L y136 a0.2.1.1),p 24 (I (↑a0.2.1.1.length:Int)),p 25 (I (v5+1))] [(20,Ob.box 86 [L y134 a0.1,L y136 a0.2.1.1,L Ty.str a0.2.1.2.1,L y172 a0.2.1.2.2,L y114 a0.2.2,AV.os 18 0,AV.os 38 1,nil,nil,nil]),(38,A 91 y91 (v6++v8) 1),(37,A 91 y91 v8 0),(6,K 136 y136 v7),(18,A 146 y146 v0 0),(1,K 46 y46 a0)]) H fun H =>
   b1 H
 exact vx_exit<|fx_seq_exit<|e1<|fx_blk_exit rfl<|n0 H
def u52 (a0:Y91) (a1:Y91):Option (Bool) :=
 if (a0.1 != a1.1)=true then
  some false
 else
  if (a0.2.1 != a1.2.1)=true then
   some false
  else
   if (a0.2.2.1 != a1.2.2.1)=true then
    some false
   else
    if (a0.2.2.2 != a1.2.2.2)=true then
     some false
    else
     some true
def k52:Ct:=lct 52 [.agg y91,.agg y91] (fun x=>u52 x.1 x.2.1) (fun r:Bool=>B r) (fun _=>())
theorem o52:Ok Tryz.prog k52:=by
 refine okL [.tmp 4] Tryz.func52 Tryz.ntmps52 Tryz.results52 ?_
 intro y ⟨a0,a1,_⟩ r H Q hn hr
 have:HT _ _:=⟨@tn Tryz.prog⟩
 refine qA (Z [p 2 (R 2),p 3 (R 3)] [(3,K 91 y91 a1),(2,K 91 y91 a0)]) <|
  vx_seq <|
  qA (Z [p 2 (R 2),p 3 (R 3),p 9 (B (a0.1 != a1.1))] [(3,K 91 y91 a1),(2,K 91 y91 a0)]) <|
  cD H (fun H=>?_) (fun H=>?_)
 ·refine qA (Z [p 4 (B false)] [(3,K 91 y91 a1),(2,K 91 y91 a0)]) <|
   vx_ret<|fx_seq_ret<|hr H
 refine vx_skip<|fx_seq<|vx_seq <|
  qA (Z [p 2 (R 2),p 3 (R 3),p 14 (B (a0.2.1 != a1.2.1))] [(3,K 91 y91 a1),(2,K 91 y91 a0)]) <|
  cD H (fun H=>?_) (fun H=>?_)
 ·refine qA (Z [p 4 (B false)] [(3,K 91 y91 a1),(2,K 91 y91 a0)]) <|
   vx_ret<|fx_seq_ret<|hr H
 refine vx_skip<|fx_seq<|vx_seq <|
  qA (Z [p 2 (R 2),p 3 (R 3),p 19 (B (a0.2.2.1 != a1.2.2.1))] [(3,K 91 y91 a1),(2,K 91 y91 a0)]) <|
  cD H (fun H=>?_) (fun H=>?_)
 ·refine qA (Z [p 4 (B false)] [(3,K 91 y91 a1),(2,K 91 y91 a0)]) <|
   vx_ret<|fx_seq_ret<|hr H
 refine vx_skip<|fx_seq<|vx_seq <|
  qA (Z [p 24 (B (a0.2.2.2 != a1.2.2.2))] [(3,K 91 y91 a1),(2,K 91 y91 a0)]) <|
  cD H (fun H=>?_) (fun H=>?_)
 ·refine qA (Z [p 4 (B false)] [(3,K 91 y91 a1),(2,K 91 y91 a0)]) <|
   vx_ret<|fx_seq_ret<|hr H
 refine vx_skip<|fx_seq <|
  qA (Z [p 4 (B true)] [(3,K 91 y91 a1),(2,K 91 y91 a0)]) <|
  vx_ret<|hr H
def u19J0:Unit→Option (Bool)
 | _ =>
 some true
def u19L1 (a0:List Y91) (a1:List Y91) (g1:Int→Option (Bool)):Int→Option (Bool)
 | v0 =>
 if (decide (v0 < (↑a0.length:Int)))=true then
  gd (ix v0 a0.length∧ix v0 a1.length∧(u52 (a0.getD v0.toNat (dflt y91)) (a1.getD v0.toNat (dflt y91))).isSome=true∧True) <|
  if (!vl (u52 (a0.getD v0.toNat (dflt y91)) (a1.getD v0.toNat (dflt y91))))=true then
   some false
  else
   gd (in64 (v0+1)∧True) <|
   g1 (v0+1)
 else
  u19J0 ()
def u19 (a0:List Y91) (a1:List Y91):Option (Bool) :=
 if ((↑a0.length:Int) != (↑a1.length:Int))=true then
  some false
 else
  lp (u19L1 a0 a1) 0
def k19:Ct:=lct 19 [.dat y91.sl,.dat y91.sl] (fun x=>u19 x.1 x.2.1) (fun r:Bool=>B r) (fun _=>())
theorem o19:Ok Tryz.prog k19:=by
 refine okL [.tmp 4] Tryz.func19 Tryz.ntmps19 Tryz.results19 ?_
 intro y ⟨a0,a1,_⟩ r H Q hn hr
 have:HT _ _:=⟨tc o52 tn⟩
 refine qA (Z [p 0 (L y91 a0),p 1 (L y91 a1)] []) <|
  vx_seq <|
  qA (Z [p 0 (L y91 a0),p 1 (L y91 a1),p 10 (B ((↑a0.length:Int) != (↑a1.length:Int)))] []) <|
  cD H (fun H=>?_) (fun H=>?_)
 ·refine qA (Z [p 4 (B false)] []) <|
   vx_ret<|fx_seq_ret<|hr H
 refine vx_skip<|fx_seq <|
  jN r (fun (_:Unit)=>Z [] []) (u19J0) (fun _ H=>?_) (fun _ n0 e0 t0=>?_)
 ·refine qA (Z [p 4 (B true)] []) <|
   vx_ret<|hr H
 refine qA (Z [p 0 (L y91 a0),p 1 (L y91 a1),p 5 (I 0)] []) <|
  vx_block <|
  lX (fun (v0:Int)=>Z [p 0 (L y91 a0),p 1 (L y91 a1),p 5 (I v0)] []) 0 H fun _ g1 b1 e1 t1 v0 H =>
  vx_seq <|
  qA (Z [p 0 (L y91 a0),p 1 (L y91 a1),p 5 (I v0),p 14 (B (decide (v0 < (↑a0.length:Int))))] []) <|
  cD H (fun H=>?_) (fun H=>?_)
 ·refine vx_skip<|fx_seq<|vx_seq<|vx_block <|
   qB (Z [p 0 (L y91 a0),p 1 (L y91 a1),p 5 (I v0),p 26 (B !vl (u52 (a0.getD v0.toNat (dflt y91)) (a1.getD v0.toNat (dflt y91))))] []) H fun H =>
   cD H (fun H=>?_) (fun H=>?_)
  ·refine qA (Z [p 4 (B false)] []) <|
    vx_ret<|fx_blk_ret<|fx_seq_ret<|t1<|fx_blk_ret<|t0<|hr H
  refine vx_skip<|fx_blk<|fx_seq <|
   zB (Z [p 0 (L y91 a0),p 1 (L y91 a1),p 5 (I (v0+1))] []) H fun H =>
   b1 H
 exact vx_exit<|fx_seq_exit<|e1<|fx_blk_exit rfl<|n0 H
def u21J0:Int→Option (Int)
 | v2 =>
 some v2
def u21L1 (a0:List Y91) (g1:Int×Int→Option (Int)):Int×Int→Option (Int)
 | (v0,v1) =>
 if (decide (v1 < (↑a0.length:Int)))=true then
  gd (ix v1 a0.length∧True) <|
  if ((a0.getD v1.toNat (dflt y91)).1 != v0)=true then
   some (-1)
  else
   gd (in64 (v0+1)∧True) <|
   gd (ix v1 a0.length∧True) <|
   if ((a0.getD v1.toNat (dflt y91)).2.1 != v0+1)=true then
    some (-1)
   else
    gd (in64 (v0+1+1)∧True) <|
    gd (ix v1 a0.length∧True) <|
    if ((a0.getD v1.toNat (dflt y91)).2.2.1 != v0+1+1)=true then
     some (-1)
    else
     gd (in64 (v0+1+1+1)∧True) <|
     gd (ix v1 a0.length∧True) <|
     if ((a0.getD v1.toNat (dflt y91)).2.2.2 != v0+1+1+1)=true then
      some (-1)
     else
      gd (in64 (v0+1+1+1+1)∧True) <|
      gd (in64 (v1+1)∧True) <|
      g1 (v0+1+1+1+1,v1+1)
 else
  u21J0 v0
def u21 (a0:List Y91) (a1:Int):Option (Int) :=
 lp (u21L1 a0) (a1,0)
def k21:Ct:=lct 21 [.dat y91.sl,.dat i64] (fun x=>u21 x.1 x.2.1) (fun r:Int=>I r) (fun _=>())
theorem o21:Ok Tryz.prog k21:=by
 refine okL [.tmp 4] Tryz.func21 Tryz.ntmps21 Tryz.results21 ?_
 intro y ⟨a0,a1,_⟩ r H Q hn hr
 have:HT _ _:=⟨@tn Tryz.prog⟩
 refine qA (Z [p 0 (L y91 a0),p 1 (J a1)] []) <|
  jN r (fun (v2:Int)=>Z [p 1 (J v2)] []) (u21J0) (fun v2 H=>?_) (fun _ n0 e0 t0=>?_)
 ·refine qA (Z [p 4 (J v2)] []) <|
   vx_ret<|hr H
 refine qA (Z [p 0 (L y91 a0),p 1 (J a1),p 5 (I 0)] []) <|
  vx_block <|
  lX (fun ((v0,v1):Int×Int)=>Z [p 0 (L y91 a0),p 1 (J v0),p 5 (I v1)] []) (a1,0) H fun _ g1 b1 e1 t1 ⟨v0,v1⟩ H =>
  vx_seq <|
  qA (Z [p 0 (L y91 a0),p 1 (J v0),p 5 (I v1),p 9 (B (decide (v1 < (↑a0.length:Int))))] []) <|
  cD H (fun H=>?_) (fun H=>?_)
 ·refine vx_skip<|fx_seq<|vx_seq<|vx_block<|vx_seq <|
   qB (Z [p 0 (L y91 a0),p 1 (J v0),p 5 (I v1),p 18 (B ((a0.getD v1.toNat (dflt y91)).1 != v0))] []) H fun H =>
   cD H (fun H=>?_) (fun H=>?_)
  ·refine qA (Z [p 4 (I (-1))] []) <|
    vx_ret<|fx_seq_ret<|fx_blk_ret<|fx_seq_ret<|t1<|fx_blk_ret<|t0<|hr H
  refine vx_skip<|fx_seq <|
   qB (Z [p 0 (L y91 a0),p 1 (I (v0+1)),p 5 (I v1)] []) H fun H =>
   vx_seq <|
   qB (Z [p 0 (L y91 a0),p 1 (I (v0+1)),p 5 (I v1),p 27 (B ((a0.getD v1.toNat (dflt y91)).2.1 != v0+1))] []) H fun H =>
   cD H (fun H=>?_) (fun H=>?_)
  ·refine qA (Z [p 4 (I (-1))] []) <|
    vx_ret<|fx_seq_ret<|fx_blk_ret<|fx_seq_ret<|t1<|fx_blk_ret<|t0<|hr H
  refine vx_skip<|fx_seq <|
   qB (Z [p 0 (L y91 a0),p 1 (I (v0+1+1)),p 5 (I v1)] []) H fun H =>
   vx_seq <|
   qB (Z [p 0 (L y91 a0),p 1 (I (v0+1+1)),p 5 (I v1),p 36 (B ((a0.getD v1.toNat (dflt y91)).2.2.1 != v0+1+1))] []) H fun H =>
   cD H (fun H=>?_) (fun H=>?_)
  ·refine qA (Z [p 4 (I (-1))] []) <|
    vx_ret<|fx_seq_ret<|fx_blk_ret<|fx_seq_ret<|t1<|fx_blk_ret<|t0<|hr H
  refine vx_skip<|fx_seq <|
   qB (Z [p 0 (L y91 a0),p 1 (I (v0+1+1+1)),p 5 (I v1)] []) H fun H =>
   vx_seq <|
   qB (Z [p 0 (L y91 a0),p 1 (I (v0+1+1+1)),p 5 (I v1),p 45 (B ((a0.getD v1.toNat (dflt y91)).2.2.2 != v0+1+1+1))] []) H fun H =>
   cD H (fun H=>?_) (fun H=>?_)
  ·refine qA (Z [p 4 (I (-1))] []) <|
    vx_ret<|fx_seq_ret<|fx_blk_ret<|fx_seq_ret<|t1<|fx_blk_ret<|t0<|hr H
  refine vx_skip<|fx_seq <|
   zB (Z [p 0 (L y91 a0),p 1 (I (v0+1+1+1+1)),p 5 (I v1)] []) H fun H =>
   fx_blk<|fx_seq <|
   zB (Z [p 0 (L y91 a0),p 1 (I (v0+1+1+1+1)),p 5 (I (v1+1))] []) H fun H =>
   b1 H
 exact vx_exit<|fx_seq_exit<|e1<|fx_blk_exit rfl<|n0 H
def u51oJ5 (a0:Y46) (v0:List Y146):List Y91×List Int×List (List Int)→Option (List Y134×List Y136×List ByteArray×List Y172×List Y114×List Y146×List Y91×List Int×List (List Int))
 | (v97,v98,v99) =>
 some (a0.1,a0.2.1.1,a0.2.1.2.1,a0.2.1.2.2,a0.2.2,v0,v97,v98,v99)
def u51oJ7 (v71:Int) (g6:Int×List Int×List (List Int)×List Y91→Option (List Y134×List Y136×List ByteArray×List Y172×List Y114×List Y146×List Y91×List Int×List (List Int))):List (List Int)×List Int×List Y91→Option (List Y134×List Y136×List ByteArray×List Y172×List Y114×List Y146×List Y91×List Int×List (List Int))
 | (v94,v95,v96) =>
 gd (in64 (v71+1)∧True) <|
 g6 (v71+1,v95,v94,v96)
def u51oJ9 (v85:Int) (g8:Int×List Y91→Option (List Y134×List Y136×List ByteArray×List Y172×List Y114×List Y146×List Y91×List Int×List (List Int))):List Y91→Option (List Y134×List Y136×List ByteArray×List Y172×List Y114×List Y146×List Y91×List Int×List (List Int))
 | v93 =>
 gd (in64 (v85+1)∧True) <|
 g8 (v85+1,v93)
def u51oL10 (v24:List Int) (v71:Int) (v23:List (List Int)) (v85:Int) (g8:Int×List Y91→Option (List Y134×List Y136×List ByteArray×List Y172×List Y114×List Y146×List Y91×List Int×List (List Int))) (g10:Int×List Y91→Option (List Y134×List Y136×List ByteArray×List Y172×List Y114×List Y146×List Y91×List Int×List (List Int))):Int×List Y91→Option (List Y134×List Y136×List ByteArray×List Y172×List Y114×List Y146×List Y91×List Int×List (List Int))
 | (v89,v90) =>
 if (decide (v89 < 2))=true then
  gd (ix v71 v24.length∧v71.toNat < v24.length∧in64 ((2:Int)*v24.getD v71.toNat (0:Int))∧in64 ((2:Int)*v24.getD v71.toNat (0:Int)+v89)∧in64 ((2:Int)*List.getD (v23.getD v71.toNat []) v85.toNat (0:Int))∧in64 ((2:Int)*List.getD (v23.getD v71.toNat []) v85.toNat (0:Int)+v89)∧(v90.length+[((2:Int)*v24.getD v71.toNat (0:Int)+v89,(2:Int)*List.getD (v23.getD v71.toNat []) v85.toNat (0:Int)+v89,(2:Int),v85)].length≤9223372036854775807∧(v90.length+[((2:Int)*v24.getD v71.toNat (0:Int)+v89,(2:Int)*List.getD (v23.getD v71.toNat []) v85.toNat (0:Int)+v89,(2:Int),v85)].length)*32≤140737488355328)∧True)<|lt ((v90++[((2:Int)*v24.getD v71.toNat (0:Int)+v89,(2:Int)*List.getD (v23.getD v71.toNat []) v85.toNat (0:Int)+v89,(2:Int),v85)],[((2:Int)*v24.getD v71.toNat (0:Int)+v89,(2:Int)*List.getD (v23.getD v71.toNat []) v85.toNat (0:Int)+v89,(2:Int),v85)])) fun (v91,v92) =>
  gd (in64 (v89+1)∧True) <|
  g10 (v89+1,v91)
 else
  u51oJ9 v85 g8 v90
def u51oL8 (v24:List Int) (v71:Int) (v23:List (List Int)) (v73:List (List Int)) (v76:List Int) (v72:List Int) (v75:List Int) (g6:Int×List Int×List (List Int)×List Y91→Option (List Y134×List Y136×List ByteArray×List Y172×List Y114×List Y146×List Y91×List Int×List (List Int))) (g8:Int×List Y91→Option (List Y134×List Y136×List ByteArray×List Y172×List Y114×List Y146×List Y91×List Int×List (List Int))):Int×List Y91→Option (List Y134×List Y136×List ByteArray×List Y172×List Y114×List Y146×List Y91×List Int×List (List Int))
 | (v85,v86) =>
 if (decide (v85 < (↑(List.length (v23.getD v71.toNat [])):Int)))=true then
  gd (ix v85 (List.length (v23.getD v71.toNat []))∧True) <|
  lp (u51oL10 v24 v71 v23 v85 g8) (0,v86)
 else
  u51oJ7 v71 g6 ((v73++[v76],v72++[v75.getD (Int.toNat (0:Int)) (0:Int)],v86))
def u51oL6 (v24:List Int) (v23:List (List Int)) (a0:Y46) (v0:List Y146) (g6:Int×List Int×List (List Int)×List Y91→Option (List Y134×List Y136×List ByteArray×List Y172×List Y114×List Y146×List Y91×List Int×List (List Int))):Int×List Int×List (List Int)×List Y91→Option (List Y134×List Y136×List ByteArray×List Y172×List Y114×List Y146×List Y91×List Int×List (List Int))
 | (v71,v72,v73,v74) =>
 if (decide (v71 < (↑a0.2.2.length:Int)))=true then
  gd ((u100 a0 v71).isSome=true∧ix (0:Int) (vl (u100 a0 v71)).length∧Int.toNat (0:Int) < (vl (u100 a0 v71)).length∧(v72.length+[(vl (u100 a0 v71)).getD (Int.toNat (0:Int)) (0:Int)].length≤9223372036854775807∧(v72.length+[(vl (u100 a0 v71)).getD (Int.toNat (0:Int)) (0:Int)].length)*8≤140737488355328)∧True)<|lt (vl (u100 a0 v71)) fun v75 =>
  gd ((u40 a0 v71).isSome=true∧(v73.length+[vl (u40 a0 v71)].length≤9223372036854775807∧(v73.length+[vl (u40 a0 v71)].length)*24≤140737488355328)∧True)<|lt (vl (u40 a0 v71)) fun v76 =>
  gd (ix v71 v23.length∧True) <|
  lp (u51oL8 v24 v71 v23 v73 v76 v72 v75 g6) (0,v74)
 else
  u51oJ5 a0 v0 (v74,v72,v73)
def u51oJ2 (a0:Y46) (v0:List Y146) (v10:List Y91):List (List Int)×List Int→Option (List Y134×List Y136×List ByteArray×List Y172×List Y114×List Y146×List Y91×List Int×List (List Int))
 | (v23,v24) =>
 lp (u51oL6 v24 v23 a0 v0) (0,[],[],v10)
def u51oJ4 (v16:Int) (g3:Int×List (List Int)×List Int→Option (List Y134×List Y136×List ByteArray×List Y172×List Y114×List Y146×List Y91×List Int×List (List Int))):List Int×List (List Int)→Option (List Y134×List Y136×List ByteArray×List Y172×List Y114×List Y146×List Y91×List Int×List (List Int))
 | (v21,v22) =>
 gd (in64 (v16+1)∧True) <|
 g3 (v16+1,v22,v21)
def u51oL3 (v0:List Y146) (a0:Y46) (v10:List Y91) (g3:Int×List (List Int)×List Int→Option (List Y134×List Y136×List ByteArray×List Y172×List Y114×List Y146×List Y91×List Int×List (List Int))):Int×List (List Int)×List Int→Option (List Y134×List Y136×List ByteArray×List Y172×List Y114×List Y146×List Y91×List Int×List (List Int))
 | (v16,v17,v18) =>
 if (decide (v16 < (↑v0.length:Int)))=true then
  gd (ix v16 v0.length∧v16.toNat < v0.length∧True)<|lt (v0.getD v16.toNat (dflt y146)) fun v19 =>
  if v19.2.2.2=true then
   gd (ix v19.2.2.1 v18.length∧v19.2.2.1.toNat < v18.length∧True) <|
   u51oJ4 v16 g3 (v18.set v19.2.2.1.toNat v16,v17)
  else
   gd (ix v19.2.2.1 v17.length∧v19.2.2.1.toNat < v17.length∧((v17.getD v19.2.2.1.toNat []).length+[v16].length≤9223372036854775807∧((v17.getD v19.2.2.1.toNat []).length+[v16].length)*8≤140737488355328)∧ix v19.2.2.1 v17.length∧(v19.2.2.1.toNat < v17.length∧v19.2.2.1.toNat=v19.2.2.1.toNat)∧True)<|lt (v17.set v19.2.2.1.toNat (v17.getD v19.2.2.1.toNat []++[v16])) fun v20 =>
   u51oJ4 v16 g3 (v18,v20)
 else
  u51oJ2 a0 v0 v10 (v17,v18)
def u51oJ0 (v0:List Y146) (a0:Y46):List Y91→Option (List Y134×List Y136×List ByteArray×List Y172×List Y114×List Y146×List Y91×List Int×List (List Int))
 | v10 =>
 gd ((0≤(↑a0.2.2.length:Int)∧(↑a0.2.2.length:Int)=(↑a0.2.2.length:Int)∧(↑a0.2.2.length:Int).toNat*8≤281474976710656∧(↑a0.2.2.length:Int)≤9223372036854775807)∧True) <|
 gd ((0≤(↑a0.2.2.length:Int)∧(↑a0.2.2.length:Int)=(↑a0.2.2.length:Int)∧(↑a0.2.2.length:Int).toNat*24≤281474976710656∧(↑a0.2.2.length:Int)≤9223372036854775807)∧True) <|
 lp (u51oL3 v0 a0 v10) ((0,List.replicate (↑a0.2.2.length:Int).toNat [],List.replicate (↑a0.2.2.length:Int).toNat 0))
def u51oL1 (a0:Y46) (v0:List Y146) (g1:Int×Int×List Y91→Option (List Y134×List Y136×List ByteArray×List Y172×List Y114×List Y146×List Y91×List Int×List (List Int))):Int×Int×List Y91→Option (List Y134×List Y136×List ByteArray×List Y172×List Y114×List Y146×List Y91×List Int×List (List Int))
 | (v4,v5,v6) =>
 if (decide (v5 < (↑a0.2.1.1.length:Int)))=true then
  gd (ix v5 a0.2.1.1.length∧True)<|lt (a0.2.1.1.getD v5.toNat (dflt y136)) fun v7 =>
  gd ((u98 a0 v7 v4).isSome=true∧(v6.length+(vl (u98 a0 v7 v4)).length≤9223372036854775807∧(v6.length+(vl (u98 a0 v7 v4)).length)*32≤140737488355328)∧True)<|lt (vl (u98 a0 v7 v4)) fun v8 =>
  gd ((u99 v7.2.2).isSome=true∧in64 (v4+vl (u99 v7.2.2))∧True)<|lt (vl (u99 v7.2.2)) fun v9 =>
  gd (in64 (v5+1)∧True) <|
  g1 (v4+v9,v5+1,v6++v8)
 else
  u51oJ0 v0 a0 v6
def u51o (a0:Y46):Option (List Y134×List Y136×List ByteArray×List Y172×List Y114×List Y146×List Y91×List Int×List (List Int)) :=
 gd ((u96 a0.2.1).isSome=true∧True)<|lt (vl (u96 a0.2.1)) fun v0 =>
 lp (u51oL1 a0 v0) (0,0,[])
def k51o:Ct:=lct 51 [.agg y46] (fun x=>u51o x.1) (fun r:List Y134×List Y136×List ByteArray×List Y172×List Y114×List Y146×List Y91×List Int×List (List Int)=>AV.ob 86 [L y134 r.1,L y136 r.2.1,L Ty.str r.2.2.1,L y172 r.2.2.2.1,L y114 r.2.2.2.2.1,AV.ow 146 true y146 r.2.2.2.2.2.1,AV.ow 91 true y91 r.2.2.2.2.2.2.1,AV.ow 2 true i64 r.2.2.2.2.2.2.2.1,AV.ow 34 true i64.sl r.2.2.2.2.2.2.2.2,AV.v (Value.slice none 0 0)]) (fun _=>())
theorem o51o:Ok Tryz.prog k51o:=by
 refine okL [.tmp 2] Tryz.func51 Tryz.ntmps51 Tryz.results51 ?_
 intro y ⟨a0,_⟩ r H Q hn hr
 have:HT _ _:=⟨tc o40d (tc o100 (tc o99 (tc o98 (tc o96 tn))))⟩
 refine qA (Z [p 1 (R 1)] [(1,K 46 y46 a0)]) <|
  qD (fun v0=>Z [p 1 (R 1),p 3 (R 20)] [(20,Ob.box 86 [L y134 a0.1,L y136 a0.2.1.1,L Ty.str a0.2.1.2.1,L y172 a0.2.1.2.2,L y114 a0.2.2,AV.os 18 0,nil,nil,nil,nil]),(18,A 146 y146 v0 0),(1,K 46 y46 a0)]) H fun v0 H =>
  qA (Z [p 1 (R 1),p 3 (R 20),p 4 (I 0)] [(20,Ob.box 86 [L y134 a0.1,L y136 a0.2.1.1,L Ty.str a0.2.1.2.1,L y172 a0.2.1.2.2,L y114 a0.2.2,AV.os 18 0,nil,nil,nil,nil]),(18,A 146 y146 v0 0),(1,K 46 y46 a0)]) <|
  jN r (fun (v10:List Y91)=>Z [p 1 (R 1),p 3 (R 20)] [(20,Ob.box 86 [L y134 a0.1,L y136 a0.2.1.1,L Ty.str a0.2.1.2.1,L y172 a0.2.1.2.2,L y114 a0.2.2,AV.os 18 0,AV.os 38 0,nil,nil,nil]),(18,A 146 y146 v0 0),(1,K 46 y46 a0),(38,A 91 y91 v10 0)]) (u51oJ0 v0 a0) (fun v10 H=>?_) (fun _ n0 e0 t0=>?_)
 ·refine qB (Z [p 1 (R 1),p 3 (R 20),p 7 (O 50)] [(50,A 2 i64 (List.replicate (↑a0.2.2.length:Int).toNat 0) 0),(20,Ob.box 86 [L y134 a0.1,L y136 a0.2.1.1,L Ty.str a0.2.1.2.1,L y172 a0.2.1.2.2,L y114 a0.2.2,AV.os 18 0,AV.os 38 0,nil,nil,nil]),(18,A 146 y146 v0 0),(1,K 46 y46 a0),(38,A 91 y91 v10 0)]) H fun H =>
   qB (Z [p 1 (R 1),p 3 (R 20),p 7 (O 50),p 8 (AV.og 54)] [(54,Ob.grd 34 2 true i64 (List.replicate (↑a0.2.2.length:Int).toNat []) none),(50,A 2 i64 (List.replicate (↑a0.2.2.length:Int).toNat 0) 0),(20,Ob.box 86 [L y134 a0.1,L y136 a0.2.1.1,L Ty.str a0.2.1.2.1,L y172 a0.2.1.2.2,L y114 a0.2.2,AV.os 18 0,AV.os 38 0,nil,nil,nil]),(18,A 146 y146 v0 0),(1,K 46 y46 a0),(38,A 91 y91 v10 0)]) H fun H =>
   jN r (fun ((v23,v24):List (List Int)×List Int)=>Z [p 1 (R 1),p 3 (R 20),p 7 (O 50),p 8 (AV.og 54)] [(54,Ob.grd 34 2 true i64 v23 none),(50,A 2 i64 v24 0),(20,Ob.box 86 [L y134 a0.1,L y136 a0.2.1.1,L Ty.str a0.2.1.2.1,L y172 a0.2.1.2.2,L y114 a0.2.2,AV.os 18 0,AV.os 38 0,nil,nil,nil]),(18,A 146 y146 v0 0),(1,K 46 y46 a0),(38,A 91 y91 v10 0)]) (u51oJ2 a0 v0 v10) (fun ⟨v23,v24⟩ H=>?_) (fun _ n2 e2 t2=>?_)
  ·refine jN r (fun ((v97,v98,v99):List Y91×List Int×List (List Int))=>Z [p 3 (R 20)] [(20,Ob.box 86 [L y134 a0.1,L y136 a0.2.1.1,L Ty.str a0.2.1.2.1,L y172 a0.2.1.2.2,L y114 a0.2.2,AV.os 18 0,AV.os 38 0,AV.os 102 0,AV.os 114 0,nil]),(18,A 146 y146 v0 0),(38,A 91 y91 v97 0),(102,A 2 i64 v98 0),(114,A 34 i64.sl v99 0)]) (u51oJ5 a0 v0) (fun ⟨v97,v98,v99⟩ H=>?_) (fun _ n5 e5 t5=>?_)
   ·refine qA (Z [p 2 (R 20)] [(20,Ob.box 86 [L y134 a0.1,L y136 a0.2.1.1,L Ty.str a0.2.1.2.1,L y172 a0.2.1.2.2,L y114 a0.2.2,AV.os 18 0,AV.os 38 0,AV.os 102 0,AV.os 114 0,nil]),(18,A 146 y146 v0 0),(38,A 91 y91 v97 0),(102,A 2 i64 v98 0),(114,A 34 i64.sl v99 0)]) <|
     vx_ret<|hr H
   refine qA (Z [p 1 (R 1),p 3 (R 20),p 7 (O 50),p 8 (AV.og 54),p 87 (I (↑a0.2.2.length:Int)),p 88 (I 0)] [(54,Ob.grd 34 2 true i64 v23 none),(50,A 2 i64 v24 0),(20,Ob.box 86 [L y134 a0.1,L y136 a0.2.1.1,L Ty.str a0.2.1.2.1,L y172 a0.2.1.2.2,L y114 a0.2.2,AV.os 18 0,AV.os 38 0,nil,nil,nil]),(18,A 146 y146 v0 0),(1,K 46 y46 a0),(38,A 91 y91 v10 0)]) <|
    vx_block <|
    fZ 54 (Z [p 1 (R 1),p 3 (R 20),p 7 (O 50),p 8 (M i64.sl v23),p 87 (I (↑a0.2.2.length:Int)),p 88 (I 0)] [(50,A 2 i64 v24 0),(20,Ob.box 86 [L y134 a0.1,L y136 a0.2.1.1,L Ty.str a0.2.1.2.1,L y172 a0.2.1.2.2,L y114 a0.2.2,AV.os 18 0,AV.os 38 0,nil,nil,nil]),(18,A 146 y146 v0 0),(1,K 46 y46 a0),(38,A 91 y91 v10 0)]) <|
    lX (fun ((v71,v72,v73,v74):Int×List Int×List (List Int)×List Y91)=>Z [p 1 (R 1),p 3 (R 20),p 7 (O 50),p 8 (M i64.sl v23),p 87 (I (↑a0.2.2.length:Int)),p 88 (I v71)] [(50,A 2 i64 v24 0),(20,Ob.box 86 [L y134 a0.1,L y136 a0.2.1.1,L Ty.str a0.2.1.2.1,L y172 a0.2.1.2.2,L y114 a0.2.2,AV.os 18 0,AV.os 38 0,AV.os 102 0,AV.os 114 0,nil]),(18,A 146 y146 v0 0),(1,K 46 y46 a0),(38,A 91 y91 v74 0),(102,A 2 i64 v72 0),(114,A 34 i64.sl v73 0)]) (0,[],[],v10) H fun _ g6 b6 e6 t6 ⟨v71,v72,v73,v74⟩ H =>
    qA (Z [p 1 (R 1),p 3 (R 20),p 7 (O 50),p 8 (M i64.sl v23),p 87 (I (↑a0.2.2.length:Int)),p 88 (I v71),p 89 (B (decide (v71 < (↑a0.2.2.length:Int))))] [(50,A 2 i64 v24 0),(20,Ob.box 86 [L y134 a0.1,L y136 a0.2.1.1,L Ty.str a0.2.1.2.1,L y172 a0.2.1.2.2,L y114 a0.2.2,AV.os 18 0,AV.os 38 0,AV.os 102 0,AV.os 114 0,nil]),(18,A 146 y146 v0 0),(1,K 46 y46 a0),(38,A 91 y91 v74 0),(102,A 2 i64 v72 0),(114,A 34 i64.sl v73 0)]) <|
    vx_seq <|
    cD H (fun H=>?_) (fun H=>?_)
   ·refine vx_skip<|fx_seq <|
     jN r (fun ((v94,v95,v96):List (List Int)×List Int×List Y91)=>Z [p 1 (R 1),p 3 (R 20),p 7 (O 50),p 8 (M i64.sl v23),p 87 (I (↑a0.2.2.length:Int)),p 88 (I v71)] [(20,Ob.box 86 [L y134 a0.1,L y136 a0.2.1.1,L Ty.str a0.2.1.2.1,L y172 a0.2.1.2.2,L y114 a0.2.2,AV.os 18 0,AV.os 38 0,AV.os 102 0,AV.os 114 0,nil]),(114,A 34 i64.sl v94 0),(102,A 2 i64 v95 0),(50,A 2 i64 v24 0),(18,A 146 y146 v0 0),(1,K 46 y46 a0),(38,A 91 y91 v96 0)]) (u51oJ7 v71 g6) (fun ⟨v94,v95,v96⟩ H=>?_) (fun _ n7 e7 t7=>?_)
    ·refine zB (Z [p 1 (R 1),p 3 (R 20),p 7 (O 50),p 8 (M i64.sl v23),p 87 (I (↑a0.2.2.length:Int)),p 88 (I (v71+1))] [(20,Ob.box 86 [L y134 a0.1,L y136 a0.2.1.1,L Ty.str a0.2.1.2.1,L y172 a0.2.1.2.2,L y114 a0.2.2,AV.os 18 0,AV.os 38 0,AV.os 102 0,AV.os 114 0,nil]),(114,A 34 i64.sl v94 0),(102,A 2 i64 v95 0),(50,A 2 i64 v24 0),(18,A 146 y146 v0 0),(1,K 46 y46 a0),(38,A 91 y91 v96 0)]) H fun H =>
      b6 H
    refine vx_block <|
     qA (Z [p 1 (R 1),p 3 (R 20),p 7 (O 50),p 8 (M i64.sl v23),p 11 (I v71),p 87 (I (↑a0.2.2.length:Int)),p 88 (I v71)] [(50,A 2 i64 v24 0),(20,Ob.box 86 [L y134 a0.1,L y136 a0.2.1.1,L Ty.str a0.2.1.2.1,L y172 a0.2.1.2.2,L y114 a0.2.2,AV.os 18 0,AV.os 38 0,AV.os 102 0,AV.os 114 0,nil]),(18,A 146 y146 v0 0),(1,K 46 y46 a0),(38,A 91 y91 v74 0),(102,A 2 i64 v72 0),(114,A 34 i64.sl v73 0)]) <|
     qD (fun v75=>Z [p 1 (R 1),p 3 (R 20),p 7 (O 50),p 8 (M i64.sl v23),p 11 (I v71),p 87 (I (↑a0.2.2.length:Int)),p 88 (I v71)] [(20,Ob.box 86 [L y134 a0.1,L y136 a0.2.1.1,L Ty.str a0.2.1.2.1,L y172 a0.2.1.2.2,L y114 a0.2.2,AV.os 18 0,AV.os 38 0,AV.os 102 1,AV.os 114 0,nil]),(102,A 2 i64 (v72++[v75.getD (Int.toNat (0:Int)) (0:Int)]) 1),(101,A 2 i64 [v75.getD (Int.toNat (0:Int)) (0:Int)] 0),(98,A 2 i64 v75 0),(50,A 2 i64 v24 0),(18,A 146 y146 v0 0),(1,K 46 y46 a0),(38,A 91 y91 v74 0),(114,A 34 i64.sl v73 0)]) H fun v75 H =>
     qD (fun v76=>Z [p 1 (R 1),p 3 (R 20),p 7 (O 50),p 8 (M i64.sl v23),p 11 (I v71),p 87 (I (↑a0.2.2.length:Int)),p 88 (I v71)] [(20,Ob.box 86 [L y134 a0.1,L y136 a0.2.1.1,L Ty.str a0.2.1.2.1,L y172 a0.2.1.2.2,L y114 a0.2.2,AV.os 18 0,AV.os 38 0,AV.os 102 1,AV.os 114 1,nil]),(114,A 34 i64.sl (v73++[v76]) 1),(113,A 34 i64.sl [v76] 0),(102,A 2 i64 (v72++[v75.getD (Int.toNat (0:Int)) (0:Int)]) 1),(101,A 2 i64 [v75.getD (Int.toNat (0:Int)) (0:Int)] 0),(98,A 2 i64 v75 0),(50,A 2 i64 v24 0),(18,A 146 y146 v0 0),(1,K 46 y46 a0),(38,A 91 y91 v74 0)]) H fun v76 H =>
     qB (Z [p 1 (R 1),p 3 (R 20),p 7 (O 50),p 8 (M i64.sl v23),p 11 (I v71),p 87 (I (↑a0.2.2.length:Int)),p 88 (I v71),p 120 (M i64 (v23.getD v71.toNat [])),p 121 (I (↑(List.length (v23.getD v71.toNat [])):Int)),p 122 (I (0:Int))] [(20,Ob.box 86 [L y134 a0.1,L y136 a0.2.1.1,L Ty.str a0.2.1.2.1,L y172 a0.2.1.2.2,L y114 a0.2.2,AV.os 18 0,AV.os 38 0,AV.os 102 1,AV.os 114 1,nil]),(114,A 34 i64.sl (v73++[v76]) 1),(113,A 34 i64.sl [v76] 0),(102,A 2 i64 (v72++[v75.getD (Int.toNat (0:Int)) (0:Int)]) 1),(101,A 2 i64 [v75.getD (Int.toNat (0:Int)) (0:Int)] 0),(98,A 2 i64 v75 0),(50,A 2 i64 v24 0),(18,A 146 y146 v0 0),(1,K 46 y46 a0),(38,A 91 y91 v74 0)]) H fun H =>
     vx_block <|
     lX (fun ((v85,v86):Int×List Y91)=>Z [p 1 (R 1),p 3 (R 20),p 7 (O 50),p 8 (M i64.sl v23),p 11 (I v71),p 87 (I (↑a0.2.2.length:Int)),p 88 (I v71),p 120 (M i64 (v23.getD v71.toNat [])),p 121 (I (↑(List.length (v23.getD v71.toNat [])):Int)),p 122 (I v85)] [(20,Ob.box 86 [L y134 a0.1,L y136 a0.2.1.1,L Ty.str a0.2.1.2.1,L y172 a0.2.1.2.2,L y114 a0.2.2,AV.os 18 0,AV.os 38 0,AV.os 102 0,AV.os 114 0,nil]),(114,A 34 i64.sl (v73++[v76]) 0),(102,A 2 i64 (v72++[v75.getD (Int.toNat (0:Int)) (0:Int)]) 0),(50,A 2 i64 v24 0),(18,A 146 y146 v0 0),(1,K 46 y46 a0),(38,A 91 y91 v86 0)]) (0,v74) H fun _ g8 b8 e8 t8 ⟨v85,v86⟩ H =>
     qA (Z [p 1 (R 1),p 3 (R 20),p 7 (O 50),p 8 (M i64.sl v23),p 11 (I v71),p 87 (I (↑a0.2.2.length:Int)),p 88 (I v71),p 120 (M i64 (v23.getD v71.toNat [])),p 121 (I (↑(List.length (v23.getD v71.toNat [])):Int)),p 122 (I v85),p 123 (B (decide (v85 < (↑(List.length (v23.getD v71.toNat [])):Int))))] [(20,Ob.box 86 [L y134 a0.1,L y136 a0.2.1.1,L Ty.str a0.2.1.2.1,L y172 a0.2.1.2.2,L y114 a0.2.2,AV.os 18 0,AV.os 38 0,AV.os 102 0,AV.os 114 0,nil]),(114,A 34 i64.sl (v73++[v76]) 0),(102,A 2 i64 (v72++[v75.getD (Int.toNat (0:Int)) (0:Int)]) 0),(50,A 2 i64 v24 0),(18,A 146 y146 v0 0),(1,K 46 y46 a0),(38,A 91 y91 v86 0)]) <|
     vx_seq <|
     cD H (fun H=>?_) (fun H=>?_)
    ·refine vx_skip<|fx_seq <|
      jN r (fun (v93:List Y91)=>Z [p 1 (R 1),p 3 (R 20),p 7 (O 50),p 8 (M i64.sl v23),p 11 (I v71),p 87 (I (↑a0.2.2.length:Int)),p 88 (I v71),p 120 (M i64 (v23.getD v71.toNat [])),p 121 (I (↑(List.length (v23.getD v71.toNat [])):Int)),p 122 (I v85)] [(20,Ob.box 86 [L y134 a0.1,L y136 a0.2.1.1,L Ty.str a0.2.1.2.1,L y172 a0.2.1.2.2,L y114 a0.2.2,AV.os 18 0,AV.os 38 0,AV.os 102 0,AV.os 114 0,nil]),(114,A 34 i64.sl (v73++[v76]) 0),(102,A 2 i64 (v72++[v75.getD (Int.toNat (0:Int)) (0:Int)]) 0),(50,A 2 i64 v24 0),(18,A 146 y146 v0 0),(1,K 46 y46 a0),(38,A 91 y91 v93 0)]) (u51oJ9 v85 g8) (fun v93 H=>?_) (fun _ n9 e9 t9=>?_)
     ·refine zB (Z [p 1 (R 1),p 3 (R 20),p 7 (O 50),p 8 (M i64.sl v23),p 11 (I v71),p 87 (I (↑a0.2.2.length:Int)),p 88 (I v71),p 120 (M i64 (v23.getD v71.toNat [])),p 121 (I (↑(List.length (v23.getD v71.toNat [])):Int)),p 122 (I (v85+(1:Int)))] [(20,Ob.box 86 [L y134 a0.1,L y136 a0.2.1.1,L Ty.str a0.2.1.2.1,L y172 a0.2.1.2.2,L y114 a0.2.2,AV.os 18 0,AV.os 38 0,AV.os 102 0,AV.os 114 0,nil]),(114,A 34 i64.sl (v73++[v76]) 0),(102,A 2 i64 (v72++[v75.getD (Int.toNat (0:Int)) (0:Int)]) 0),(50,A 2 i64 v24 0),(18,A 146 y146 v0 0),(1,K 46 y46 a0),(38,A 91 y91 v93 0)]) H fun H =>
       b8 H
     refine vx_block <|
      qB (Z [p 1 (R 1),p 3 (R 20),p 7 (O 50),p 8 (M i64.sl v23),p 11 (I v71),p 12 (I v85),p 13 (I (List.getD (v23.getD v71.toNat []) v85.toNat (0:Int))),p 87 (I (↑a0.2.2.length:Int)),p 88 (I v71),p 120 (M i64 (v23.getD v71.toNat [])),p 121 (I (↑(List.length (v23.getD v71.toNat [])):Int)),p 122 (I v85)] [(20,Ob.box 86 [L y134 a0.1,L y136 a0.2.1.1,L Ty.str a0.2.1.2.1,L y172 a0.2.1.2.2,L y114 a0.2.2,AV.os 18 0,AV.os 38 0,AV.os 102 0,AV.os 114 0,nil]),(114,A 34 i64.sl (v73++[v76]) 0),(102,A 2 i64 (v72++[v75.getD (Int.toNat (0:Int)) (0:Int)]) 0),(50,A 2 i64 v24 0),(18,A 146 y146 v0 0),(1,K 46 y46 a0),(38,A 91 y91 v86 0)]) H fun H =>
      qA (Z [p 1 (R 1),p 3 (R 20),p 7 (O 50),p 8 (M i64.sl v23),p 11 (I v71),p 12 (I v85),p 13 (I (List.getD (v23.getD v71.toNat []) v85.toNat (0:Int))),p 87 (I (↑a0.2.2.length:Int)),p 88 (I v71),p 120 (M i64 (v23.getD v71.toNat [])),p 121 (I (↑(List.length (v23.getD v71.toNat [])):Int)),p 122 (I v85),p 127 (I (0:Int))] [(20,Ob.box 86 [L y134 a0.1,L y136 a0.2.1.1,L Ty.str a0.2.1.2.1,L y172 a0.2.1.2.2,L y114 a0.2.2,AV.os 18 0,AV.os 38 0,AV.os 102 0,AV.os 114 0,nil]),(114,A 34 i64.sl (v73++[v76]) 0),(102,A 2 i64 (v72++[v75.getD (Int.toNat (0:Int)) (0:Int)]) 0),(50,A 2 i64 v24 0),(18,A 146 y146 v0 0),(1,K 46 y46 a0),(38,A 91 y91 v86 0)]) <|
      vx_block <|
      lX (fun ((v89,v90):Int×List Y91)=>Z [p 1 (R 1),p 3 (R 20),p 7 (O 50),p 8 (M i64.sl v23),p 11 (I v71),p 12 (I v85),p 13 (I (List.getD (v23.getD v71.toNat []) v85.toNat (0:Int))),p 87 (I (↑a0.2.2.length:Int)),p 88 (I v71),p 120 (M i64 (v23.getD v71.toNat [])),p 121 (I (↑(List.length (v23.getD v71.toNat [])):Int)),p 122 (I v85),p 127 (I v89)] [(20,Ob.box 86 [L y134 a0.1,L y136 a0.2.1.1,L Ty.str a0.2.1.2.1,L y172 a0.2.1.2.2,L y114 a0.2.2,AV.os 18 0,AV.os 38 0,AV.os 102 0,AV.os 114 0,nil]),(114,A 34 i64.sl (v73++[v76]) 0),(102,A 2 i64 (v72++[v75.getD (Int.toNat (0:Int)) (0:Int)]) 0),(50,A 2 i64 v24 0),(18,A 146 y146 v0 0),(1,K 46 y46 a0),(38,A 91 y91 v90 0)]) (0,v86) H fun _ g10 b10 e10 t10 ⟨v89,v90⟩ H =>
      qA (Z [p 1 (R 1),p 3 (R 20),p 7 (O 50),p 8 (M i64.sl v23),p 11 (I v71),p 12 (I v85),p 13 (I (List.getD (v23.getD v71.toNat []) v85.toNat (0:Int))),p 87 (I (↑a0.2.2.length:Int)),p 88 (I v71),p 120 (M i64 (v23.getD v71.toNat [])),p 121 (I (↑(List.length (v23.getD v71.toNat [])):Int)),p 122 (I v85),p 127 (I v89),p 128 (B (decide (v89 < (2:Int))))] [(20,Ob.box 86 [L y134 a0.1,L y136 a0.2.1.1,L Ty.str a0.2.1.2.1,L y172 a0.2.1.2.2,L y114 a0.2.2,AV.os 18 0,AV.os 38 0,AV.os 102 0,AV.os 114 0,nil]),(114,A 34 i64.sl (v73++[v76]) 0),(102,A 2 i64 (v72++[v75.getD (Int.toNat (0:Int)) (0:Int)]) 0),(50,A 2 i64 v24 0),(18,A 146 y146 v0 0),(1,K 46 y46 a0),(38,A 91 y91 v90 0)]) <|
      vx_seq <|
      cD H (fun H=>?_) (fun H=>?_)
     ·refine vx_skip<|fx_seq<|vx_seq<|vx_block <|
       qA (Z [p 1 (R 1),p 3 (R 20),p 7 (O 50),p 8 (M i64.sl v23),p 11 (I v71),p 12 (I v85),p 13 (I (List.getD (v23.getD v71.toNat []) v85.toNat (0:Int))),p 14 (I v89),p 87 (I (↑a0.2.2.length:Int)),p 88 (I v71),p 120 (M i64 (v23.getD v71.toNat [])),p 121 (I (↑(List.length (v23.getD v71.toNat [])):Int)),p 122 (I v85),p 127 (I v89)] [(20,Ob.box 86 [L y134 a0.1,L y136 a0.2.1.1,L Ty.str a0.2.1.2.1,L y172 a0.2.1.2.2,L y114 a0.2.2,AV.os 18 0,AV.os 38 0,AV.os 102 0,AV.os 114 0,nil]),(114,A 34 i64.sl (v73++[v76]) 0),(102,A 2 i64 (v72++[v75.getD (Int.toNat (0:Int)) (0:Int)]) 0),(50,A 2 i64 v24 0),(18,A 146 y146 v0 0),(1,K 46 y46 a0),(38,A 91 y91 v90 0)]) <|
       zD (fun (v91,v92)=>Z [p 1 (R 1),p 3 (R 20),p 7 (O 50),p 8 (M i64.sl v23),p 11 (I v71),p 12 (I v85),p 13 (I (List.getD (v23.getD v71.toNat []) v85.toNat (0:Int))),p 87 (I (↑a0.2.2.length:Int)),p 88 (I v71),p 120 (M i64 (v23.getD v71.toNat [])),p 121 (I (↑(List.length (v23.getD v71.toNat [])):Int)),p 122 (I v85),p 127 (I v89)] [(20,Ob.box 86 [L y134 a0.1,L y136 a0.2.1.1,L Ty.str a0.2.1.2.1,L y172 a0.2.1.2.2,L y114 a0.2.2,AV.os 18 0,AV.os 38 1,AV.os 102 0,AV.os 114 0,nil]),(38,A 91 y91 v91 1),(148,A 91 y91 v92 0),(114,A 34 i64.sl (v73++[v76]) 0),(102,A 2 i64 (v72++[v75.getD (Int.toNat (0:Int)) (0:Int)]) 0),(50,A 2 i64 v24 0),(18,A 146 y146 v0 0),(1,K 46 y46 a0)]) H fun ⟨v91,v92⟩ H =>
       fx_blk<|fx_seq <|
       zB (Z [p 1 (R 1),p 3 (R 20),p 7 (O 50),p 8 (M i64.sl v23),p 11 (I v71),p 12 (I v85),p 13 (I (List.getD (v23.getD v71.toNat []) v85.toNat (0:Int))),p 87 (I (↑a0.2.2.length:Int)),p 88 (I v71),p 120 (M i64 (v23.getD v71.toNat [])),p 121 (I (↑(List.length (v23.getD v71.toNat [])):Int)),p 122 (I v85),p 127 (I (v89+(1:Int)))] [(20,Ob.box 86 [L y134 a0.1,L y136 a0.2.1.1,L Ty.str a0.2.1.2.1,L y172 a0.2.1.2.2,L y114 a0.2.2,AV.os 18 0,AV.os 38 1,AV.os 102 0,AV.os 114 0,nil]),(38,A 91 y91 v91 1),(148,A 91 y91 v92 0),(114,A 34 i64.sl (v73++[v76]) 0),(102,A 2 i64 (v72++[v75.getD (Int.toNat (0:Int)) (0:Int)]) 0),(50,A 2 i64 v24 0),(18,A 146 y146 v0 0),(1,K 46 y46 a0)]) H fun H =>
       b10 H
     exact vx_exit<|fx_seq_exit<|e10<|fx_blk_exit rfl<|fx_blk<|n9 H
    exact vx_exit<|fx_seq_exit<|e8<|fx_blk_exit rfl<|fx_blk<|n7 H
   exact vx_exit<|fx_seq_exit<|e6<|fx_blk_exit rfl<|n5 H
  refine qA (Z [p 1 (R 1),p 3 (R 20),p 7 (O 50),p 8 (AV.og 54),p 58 (O 18),p 59 (I (↑v0.length:Int)),p 60 (I 0)] [(54,Ob.grd 34 2 true i64 (List.replicate (↑a0.2.2.length:Int).toNat []) none),(50,A 2 i64 (List.replicate (↑a0.2.2.length:Int).toNat 0) 0),(20,Ob.box 86 [L y134 a0.1,L y136 a0.2.1.1,L Ty.str a0.2.1.2.1,L y172 a0.2.1.2.2,L y114 a0.2.2,AV.os 18 0,AV.os 38 0,nil,nil,nil]),(18,A 146 y146 v0 0),(1,K 46 y46 a0),(38,A 91 y91 v10 0)]) <|
   vx_block <|
   lX (fun ((v16,v17,v18):Int×List (List Int)×List Int)=>Z [p 1 (R 1),p 3 (R 20),p 7 (O 50),p 8 (AV.og 54),p 58 (O 18),p 59 (I (↑v0.length:Int)),p 60 (I v16)] [(54,Ob.grd 34 2 true i64 v17 none),(50,A 2 i64 v18 0),(20,Ob.box 86 [L y134 a0.1,L y136 a0.2.1.1,L Ty.str a0.2.1.2.1,L y172 a0.2.1.2.2,L y114 a0.2.2,AV.os 18 0,AV.os 38 0,nil,nil,nil]),(18,A 146 y146 v0 0),(1,K 46 y46 a0),(38,A 91 y91 v10 0)]) ((0,List.replicate (↑a0.2.2.length:Int).toNat [],List.replicate (↑a0.2.2.length:Int).toNat 0)) H fun _ g3 b3 e3 t3 ⟨v16,v17,v18⟩ H =>
   qA (Z [p 1 (R 1),p 3 (R 20),p 7 (O 50),p 8 (AV.og 54),p 58 (O 18),p 59 (I (↑v0.length:Int)),p 60 (I v16),p 61 (B (decide (v16 < (↑v0.length:Int))))] [(54,Ob.grd 34 2 true i64 v17 none),(50,A 2 i64 v18 0),(20,Ob.box 86 [L y134 a0.1,L y136 a0.2.1.1,L Ty.str a0.2.1.2.1,L y172 a0.2.1.2.2,L y114 a0.2.2,AV.os 18 0,AV.os 38 0,nil,nil,nil]),(18,A 146 y146 v0 0),(1,K 46 y46 a0),(38,A 91 y91 v10 0)]) <|
   vx_seq <|
   cD H (fun H=>?_) (fun H=>?_)
  ·refine vx_skip<|fx_seq <|
    jN r (fun ((v21,v22):List Int×List (List Int))=>Z [p 1 (R 1),p 3 (R 20),p 7 (O 50),p 8 (AV.og 54),p 58 (O 18),p 59 (I (↑v0.length:Int)),p 60 (I v16)] [(50,A 2 i64 v21 0),(54,Ob.grd 34 2 true i64 v22 none),(20,Ob.box 86 [L y134 a0.1,L y136 a0.2.1.1,L Ty.str a0.2.1.2.1,L y172 a0.2.1.2.2,L y114 a0.2.2,AV.os 18 0,AV.os 38 0,nil,nil,nil]),(18,A 146 y146 v0 0),(1,K 46 y46 a0),(38,A 91 y91 v10 0)]) (u51oJ4 v16 g3) (fun ⟨v21,v22⟩ H=>?_) (fun _ n4 e4 t4=>?_)
   ·refine zB (Z [p 1 (R 1),p 3 (R 20),p 7 (O 50),p 8 (AV.og 54),p 58 (O 18),p 59 (I (↑v0.length:Int)),p 60 (I (v16+1))] [(50,A 2 i64 v21 0),(54,Ob.grd 34 2 true i64 v22 none),(20,Ob.box 86 [L y134 a0.1,L y136 a0.2.1.1,L Ty.str a0.2.1.2.1,L y172 a0.2.1.2.2,L y114 a0.2.2,AV.os 18 0,AV.os 38 0,nil,nil,nil]),(18,A 146 y146 v0 0),(1,K 46 y46 a0),(38,A 91 y91 v10 0)]) H fun H =>
     b3 H
   refine vx_block <|
    qD (fun v19=>Z [p 1 (R 1),p 3 (R 20),p 7 (O 50),p 8 (AV.og 54),p 9 (I v16),p 10 (R 10),p 58 (O 18),p 59 (I (↑v0.length:Int)),p 60 (I v16)] [(10,Ob.box 146 (cellsD true y146 v19)),(54,Ob.grd 34 2 true i64 v17 none),(50,A 2 i64 v18 0),(20,Ob.box 86 [L y134 a0.1,L y136 a0.2.1.1,L Ty.str a0.2.1.2.1,L y172 a0.2.1.2.2,L y114 a0.2.2,AV.os 18 0,AV.os 38 0,nil,nil,nil]),(18,A 146 y146 v0 0),(1,K 46 y46 a0),(38,A 91 y91 v10 0)]) H fun v19 H =>
    qA (Z [p 1 (R 1),p 3 (R 20),p 7 (O 50),p 8 (AV.og 54),p 9 (I v16),p 10 (R 10),p 58 (O 18),p 59 (I (↑v0.length:Int)),p 60 (I v16),p 66 (B v19.2.2.2)] [(10,Ob.box 146 (cellsD true y146 v19)),(54,Ob.grd 34 2 true i64 v17 none),(50,A 2 i64 v18 0),(20,Ob.box 86 [L y134 a0.1,L y136 a0.2.1.1,L Ty.str a0.2.1.2.1,L y172 a0.2.1.2.2,L y114 a0.2.2,AV.os 18 0,AV.os 38 0,nil,nil,nil]),(18,A 146 y146 v0 0),(1,K 46 y46 a0),(38,A 91 y91 v10 0)]) <|
    cD H (fun H=>?_) (fun H=>?_)
   ·refine zB (Z [p 1 (R 1),p 3 (R 20),p 7 (O 50),p 8 (AV.og 54),p 58 (O 18),p 59 (I (↑v0.length:Int)),p 60 (I v16)] [(50,A 2 i64 (v18.set v19.2.2.1.toNat v16) 0),(10,Ob.box 146 (cellsD true y146 v19)),(54,Ob.grd 34 2 true i64 v17 none),(20,Ob.box 86 [L y134 a0.1,L y136 a0.2.1.1,L Ty.str a0.2.1.2.1,L y172 a0.2.1.2.2,L y114 a0.2.2,AV.os 18 0,AV.os 38 0,nil,nil,nil]),(18,A 146 y146 v0 0),(1,K 46 y46 a0),(38,A 91 y91 v10 0)]) H fun H =>
     fx_blk<|n4 H
   refine zD (fun v20=>Z [p 1 (R 1),p 3 (R 20),p 7 (O 50),p 8 (AV.og 54),p 58 (O 18),p 59 (I (↑v0.length:Int)),p 60 (I v16)] [(54,Ob.grd 34 2 true i64 v20 none),(79,A 2 i64 [] 2),(81,A 2 i64 [v16] 0),(10,Ob.box 146 (cellsD true y146 v19)),(50,A 2 i64 v18 0),(20,Ob.box 86 [L y134 a0.1,L y136 a0.2.1.1,L Ty.str a0.2.1.2.1,L y172 a0.2.1.2.2,L y114 a0.2.2,AV.os 18 0,AV.os 38 0,nil,nil,nil]),(18,A 146 y146 v0 0),(1,K 46 y46 a0),(38,A 91 y91 v10 0)]) H fun v20 H =>
    fx_blk<|n4 H
  exact vx_exit<|fx_seq_exit<|e3<|fx_blk_exit rfl<|n2 H
 refine qA (Z [p 1 (R 1),p 3 (R 20),p 4 (I 0),p 23 (L y136 a0.2.1.1),p 24 (I (↑a0.2.1.1.length:Int)),p 25 (I 0)] [(20,Ob.box 86 [L y134 a0.1,L y136 a0.2.1.1,L Ty.str a0.2.1.2.1,L y172 a0.2.1.2.2,L y114 a0.2.2,AV.os 18 0,nil,nil,nil,nil]),(18,A 146 y146 v0 0),(1,K 46 y46 a0)]) <|
  vx_block <|
  lX (fun ((v4,v5,v6):Int×Int×List Y91)=>Z [p 1 (R 1),p 3 (R 20),p 4 (I v4),p 23 (L y136 a0.2.1.1),p 24 (I (↑a0.2.1.1.length:Int)),p 25 (I v5)] [(20,Ob.box 86 [L y134 a0.1,L y136 a0.2.1.1,L Ty.str a0.2.1.2.1,L y172 a0.2.1.2.2,L y114 a0.2.2,AV.os 18 0,AV.os 38 0,nil,nil,nil]),(18,A 146 y146 v0 0),(1,K 46 y46 a0),(38,A 91 y91 v6 0)]) (0,0,[]) H fun _ g1 b1 e1 t1 ⟨v4,v5,v6⟩ H =>
  qA (Z [p 1 (R 1),p 3 (R 20),p 4 (I v4),p 23 (L y136 a0.2.1.1),p 24 (I (↑a0.2.1.1.length:Int)),p 25 (I v5),p 26 (B (decide (v5 < (↑a0.2.1.1.length:Int))))] [(20,Ob.box 86 [L y134 a0.1,L y136 a0.2.1.1,L Ty.str a0.2.1.2.1,L y172 a0.2.1.2.2,L y114 a0.2.2,AV.os 18 0,AV.os 38 0,nil,nil,nil]),(18,A 146 y146 v0 0),(1,K 46 y46 a0),(38,A 91 y91 v6 0)]) <|
  vx_seq <|
  cD H (fun H=>?_) (fun H=>?_)
 ·refine vx_skip<|fx_seq<|vx_seq<|vx_block <|
   qD (fun v7=>Z [p 1 (R 1),p 3 (R 20),p 4 (I v4),p 6 (R 6),p 23 (L y136 a0.2.1.1),p 24 (I (↑a0.2.1.1.length:Int)),p 25 (I v5)] [(6,K 136 y136 v7),(20,Ob.box 86 [L y134 a0.1,L y136 a0.2.1.1,L Ty.str a0.2.1.2.1,L y172 a0.2.1.2.2,L y114 a0.2.2,AV.os 18 0,AV.os 38 0,nil,nil,nil]),(18,A 146 y146 v0 0),(1,K 46 y46 a0),(38,A 91 y91 v6 0)]) H fun v7 H =>
   qD (fun v8=>Z [p 1 (R 1),p 3 (R 20),p 4 (I v4),p 6 (R 6),p 23 (L y136 a0.2.1.1),p 24 (I (↑a0.2.1.1.length:Int)),p 25 (I v5)] [(20,Ob.box 86 [L y134 a0.1,L y136 a0.2.1.1,L Ty.str a0.2.1.2.1,L y172 a0.2.1.2.2,L y114 a0.2.2,AV.os 18 0,AV.os 38 1,nil,nil,nil]),(38,A 91 y91 (v6++v8) 1),(37,A 91 y91 v8 0),(6,K 136 y136 v7),(18,A 146 y146 v0 0),(1,K 46 y46 a0)]) H fun v8 H =>
   zD (fun v9=>Z [p 1 (R 1),p 3 (R 20),p 4 (I (v4+v9)),p 23 (L y136 a0.2.1.1),p 24 (I (↑a0.2.1.1.length:Int)),p 25 (I v5)] [(20,Ob.box 86 [L y134 a0.1,L y136 a0.2.1.1,L Ty.str a0.2.1.2.1,L y172 a0.2.1.2.2,L y114 a0.2.2,AV.os 18 0,AV.os 38 1,nil,nil,nil]),(38,A 91 y91 (v6++v8) 1),(37,A 91 y91 v8 0),(6,K 136 y136 v7),(18,A 146 y146 v0 0),(1,K 46 y46 a0)]) H fun v9 H =>
   fx_blk<|fx_seq <|
   zB (Z [p 1 (R 1),p 3 (R 20),p 4 (I (v4+v9)),p 23 (L y136 a0.2.1.1),p 24 (I (↑a0.2.1.1.length:Int)),p 25 (I (v5+1))] [(20,Ob.box 86 [L y134 a0.1,L y136 a0.2.1.1,L Ty.str a0.2.1.2.1,L y172 a0.2.1.2.2,L y114 a0.2.2,AV.os 18 0,AV.os 38 1,nil,nil,nil]),(38,A 91 y91 (v6++v8) 1),(37,A 91 y91 v8 0),(6,K 136 y136 v7),(18,A 146 y146 v0 0),(1,K 46 y46 a0)]) H fun H =>
   b1 H
 exact vx_exit<|fx_seq_exit<|e1<|fx_blk_exit rfl<|n0 H
def u18o (a0:Y46):Option (List Y91×Int) :=
 gd ((u50 a0).isSome=true∧True) <|
 if (!vl (u50 a0))=true then
  some (([],(1:Int)))
 else
  gd ((u51o a0).isSome=true∧True)<|lt (vl (u51o a0)) fun v0 =>
  some ((v0.2.2.2.2.2.2.1,(0:Int)))
def k18o:Ct:=lct 18 [.agg y46] (fun x=>u18o x.1) (fun r:List Y91×Int=>AV.tup [AV.ow 91 true y91 r.1,I r.2]) (fun _=>())
theorem o18o:Ok Tryz.prog k18o:=by
 refine okL [.tmp 2,.tmp 3] Tryz.func18 Tryz.ntmps18 Tryz.results18 ?_
 intro y ⟨a0,_⟩ r H Q hn hr
 have:HT _ _:=⟨tc o51o (tc o51 (tc o50 tn))⟩
 refine qA (Z [p 1 (R 1)] [(1,K 46 y46 a0)]) <|
  vx_seq <|
  qB (Z [p 1 (R 1),p 6 (B !vl (u50 a0))] [(1,K 46 y46 a0)]) H fun H =>
  cD H (fun H=>?_) (fun H=>?_)
 ·refine qA (Z [p 2 (nil),p 3 (I 1)] [(1,K 46 y46 a0)]) <|
   vx_ret<|fx_seq_ret<|hr H
 refine vx_skip<|fx_seq <|
  qD (fun v0=>Z [p 2 (O 1008),p 3 (I 0)] [(4008,Ob.box 86 [L y134 v0.1,L y136 v0.2.1,L Ty.str v0.2.2.1,L y172 v0.2.2.2.1,L y114 v0.2.2.2.2.1,AV.os 8 0,AV.os 1008 0,AV.os 2008 0,AV.os 3008 0,nil]),(3008,A 34 i64.sl v0.2.2.2.2.2.2.2.2 0),(2008,A 2 i64 v0.2.2.2.2.2.2.2.1 0),(1008,A 91 y91 v0.2.2.2.2.2.2.1 0),(8,A 146 y146 v0.2.2.2.2.2.1 0),(1,K 46 y46 a0)]) H fun v0 H =>
  vx_ret<|hr H
end Go.Proofs.YtgmpfbpemmohnaaGreatDoor
