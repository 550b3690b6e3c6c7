/- Functions of this program as plain functions of data, and that they are so: printed by program. -/
import Derived.Test.YtgmpfbpemmohnaaGreatDoorFn24a
namespace Go.Proofs.YtgmpfbpemmohnaaGreatDoor
open Go Go.Proofs Go.Proofs.Sv Go.Proofs.Xv Go.Proofs.Xl Go.RowKit
def u140J0:List Int→Option (List Int)
 | v7 =>
 some v7
def u140J2 (v4:Int) (g1:List Int×Int→Option (List Int)):List Int→Option (List Int)
 | v6 =>
 gd (in64 (v4+1)∧True) <|
 g1 (v6,v4+1)
def u140L1 (a1:Int) (v0:List Y146) (g1:List Int×Int→Option (List Int)):List Int×Int→Option (List Int)
 | (v3,v4) =>
 if (decide (v4 < (↑v0.length:Int)))=true then
  gd (ix v4 v0.length∧v4.toNat < v0.length∧True)<|lt (v0.getD v4.toNat (dflt y146)) fun v5 =>
  if (v5.2.2.1==a1&&!v5.2.2.2)=true then
   gd ((v3.length+[v4].length≤9223372036854775807∧(v3.length+[v4].length)*8≤140737488355328)∧True) <|
   u140J2 v4 g1 (v3++[v4])
  else
   u140J2 v4 g1 v3
 else
  u140J0 v3
def u140 (a0:Y43) (a1:Int):Option (List Int) :=
 gd ((u96 a0).isSome=true∧True)<|lt (vl (u96 a0)) fun v0 =>
 lp (u140L1 a1 v0) ([],0)
def k140:Ct:=lct 140 [.agg y43,.dat i64] (fun x=>u140 x.1 x.2.1) (fun r:List Int=>AV.ow 2 true i64 r) (fun _=>())
theorem o140:Ok Tryz.prog k140:=by
 refine okL [.tmp 4] Tryz.func140 Tryz.ntmps140 Tryz.results140 ?_
 intro y ⟨a0,a1,_⟩ r H Q hn hr
 have:HT _ _:=⟨tc o96 tn⟩
 refine qA (Z [p 1 (J a1),p 2 (R 2)] [(2,K 43 y43 a0)]) <|
  qA (Z [p 1 (J a1),p 2 (R 2),p 5 (nil)] [(2,K 43 y43 a0)]) <|
  jN r (fun (v7:List Int)=>Z [p 5 (O 28)] [(28,A 2 i64 v7 0)]) (u140J0) (fun v7 H=>?_) (fun _ n0 e0 t0=>?_)
 ·refine qA (Z [p 4 (O 28)] [(28,A 2 i64 v7 0)]) <|
   vx_ret<|hr H
 refine qD (fun v0=>Z [p 1 (J a1),p 5 (nil),p 9 (O 9),p 10 (I (↑v0.length:Int)),p 11 (I 0)] [(9,A 146 y146 v0 0),(2,K 43 y43 a0)]) H fun v0 H =>
  vx_block <|
  lX (fun ((v3,v4):List Int×Int)=>Z [p 1 (J a1),p 5 (O 28),p 9 (O 9),p 10 (I (↑v0.length:Int)),p 11 (I v4)] [(9,A 146 y146 v0 0),(28,A 2 i64 v3 0)]) ([],0) H fun _ g1 b1 e1 t1 ⟨v3,v4⟩ H =>
  qA (Z [p 1 (J a1),p 5 (O 28),p 9 (O 9),p 10 (I (↑v0.length:Int)),p 11 (I v4),p 12 (B (decide (v4 < (↑v0.length:Int))))] [(9,A 146 y146 v0 0),(28,A 2 i64 v3 0)]) <|
  vx_seq <|
  cD H (fun H=>?_) (fun H=>?_)
 ·refine vx_skip<|fx_seq <|
   jN r (fun (v6:List Int)=>Z [p 1 (J a1),p 5 (O 28),p 9 (O 9),p 10 (I (↑v0.length:Int)),p 11 (I v4)] [(28,A 2 i64 v6 0),(9,A 146 y146 v0 0)]) (u140J2 v4 g1) (fun v6 H=>?_) (fun _ n2 e2 t2=>?_)
  ·refine zB (Z [p 1 (J a1),p 5 (O 28),p 9 (O 9),p 10 (I (↑v0.length:Int)),p 11 (I (v4+1))] [(28,A 2 i64 v6 0),(9,A 146 y146 v0 0)]) H fun H =>
    b1 H
  refine vx_block <|
   qD (fun v5=>Z [p 1 (J a1),p 5 (O 28),p 6 (I v4),p 7 (R 7),p 9 (O 9),p 10 (I (↑v0.length:Int)),p 11 (I v4)] [(7,Ob.box 146 (cellsD true y146 v5)),(9,A 146 y146 v0 0),(28,A 2 i64 v3 0)]) H fun v5 H =>
   qA (Z [p 1 (J a1),p 5 (O 28),p 6 (I v4),p 9 (O 9),p 10 (I (↑v0.length:Int)),p 11 (I v4),p 24 (B (v5.2.2.1==a1&&!v5.2.2.2))] [(7,Ob.box 146 (cellsD true y146 v5)),(9,A 146 y146 v0 0),(28,A 2 i64 v3 0)]) <|
   cD H (fun H=>?_) (fun H=>?_)
  ·refine zB (Z [p 1 (J a1),p 5 (AV.os 28 1),p 9 (O 9),p 10 (I (↑v0.length:Int)),p 11 (I v4)] [(28,A 2 i64 (v3++[v4]) 1),(27,A 2 i64 [v4] 0),(7,Ob.box 146 (cellsD true y146 v5)),(9,A 146 y146 v0 0)]) H fun H =>
    fx_blk<|n2 H
  exact vx_skip<|fx_blk<|n2 H
 exact vx_exit<|fx_seq_exit<|e1<|fx_blk_exit rfl<|n0 H
def u100J2:List Int→Option (List Int)
 | v15 =>
 some v15
def u100L3 (v0:Y114) (g3:Int×List Int→Option (List Int)):Int×List Int→Option (List Int)
 | (v12,v13) =>
 if (decide (0 < v12))=true then
  gd (ix v12 v0.1.length∧ix (v0.1.getD v12.toNat 0) v13.length∧Int.toNat (v0.1.getD v12.toNat 0) < v13.length∧ix v12 v13.length∧v12.toNat < v13.length∧in64 (v13.getD (Int.toNat (v0.1.getD v12.toNat 0)) 0+v13.getD v12.toNat 0)∧ix (v0.1.getD v12.toNat 0) v13.length∧Int.toNat (v0.1.getD v12.toNat 0) < v13.length∧True)<|lt (v13.set (Int.toNat (v0.1.getD v12.toNat 0)) (v13.getD (Int.toNat (v0.1.getD v12.toNat 0)) 0+v13.getD v12.toNat 0)) fun v14 =>
  gd (in64 (v12 - 1)∧True) <|
  g3 (v12 - 1,v14)
 else
  u100J2 v13
def u100J0 (v0:Y114):List Int→Option (List Int)
 | v10 =>
 gd (in64 ((↑v10.length:Int) - 1)∧True) <|
 lp (u100L3 v0) (((↑v10.length:Int) - 1,v10))
def u100L1 (a0:Y46) (v2:List Y146) (v3:List Int) (v0:Y114) (g1:Int×List Int→Option (List Int)):Int×List Int→Option (List Int)
 | (v6,v7) =>
 if (decide (v6 < (↑v3.length:Int)))=true then
  gd (ix v6 v3.length∧v6.toNat < v3.length∧True) <|
  gd (ix v6 v0.2.2.2.length∧ix (v0.2.2.2.getD v6.toNat 0) v7.length∧Int.toNat (v0.2.2.2.getD v6.toNat 0) < v7.length∧ix (v3.getD v6.toNat 0) v2.length∧Int.toNat (v3.getD v6.toNat 0) < v2.length∧(u141 a0.2.1 a0.1 (v2.getD (Int.toNat (v3.getD v6.toNat 0)) (dflt y146))).isSome=true∧in64 (v7.getD (Int.toNat (v0.2.2.2.getD v6.toNat 0)) 0+vl (u141 a0.2.1 a0.1 (v2.getD (Int.toNat (v3.getD v6.toNat 0)) (dflt y146))))∧ix (v0.2.2.2.getD v6.toNat 0) v7.length∧Int.toNat (v0.2.2.2.getD v6.toNat 0) < v7.length∧True)<|lt ((vl (u141 a0.2.1 a0.1 (v2.getD (Int.toNat (v3.getD v6.toNat 0)) (dflt y146))),v7.set (Int.toNat (v0.2.2.2.getD v6.toNat 0)) (v7.getD (Int.toNat (v0.2.2.2.getD v6.toNat 0)) 0+vl (u141 a0.2.1 a0.1 (v2.getD (Int.toNat (v3.getD v6.toNat 0)) (dflt y146)))))) fun (v8,v9) =>
  gd (in64 (v6+1)∧True) <|
  g1 (v6+1,v9)
 else
  u100J0 v0 v7
def u100 (a0:Y46) (a1:Int):Option (List Int) :=
 gd (ix a1 a0.2.2.length∧True)<|lt (a0.2.2.getD a1.toNat (dflt y114)) fun v0 =>
 gd ((u139 v0.2.2.1).isSome=true∧True)<|lt (vl (u139 v0.2.2.1)) fun v1 =>
 gd ((u96 a0.2.1).isSome=true∧True)<|lt (vl (u96 a0.2.1)) fun v2 =>
 gd ((u140 a0.2.1 a1).isSome=true∧True)<|lt (vl (u140 a0.2.1 a1)) fun v3 =>
 lp (u100L1 a0 v2 v3 v0) (0,v1)
def k100:Ct:=lct 100 [.agg y46,.dat i64] (fun x=>u100 x.1 x.2.1) (fun r:List Int=>AV.ow 2 true i64 r) (fun _=>())
theorem o100:Ok Tryz.prog k100:=by
 refine okL [.tmp 4] Tryz.func100 Tryz.ntmps100 Tryz.results100 ?_
 intro y ⟨a0,a1,_⟩ r H Q hn hr
 have:HT _ _:=⟨tc o141 (tc o140 (tc o96 (tc o139 tn)))⟩
 refine qA (Z [p 1 (J a1),p 2 (R 2)] [(2,K 46 y46 a0)]) <|
  qD (fun v0=>Z [p 1 (J a1),p 2 (R 2),p 5 (R 5)] [(5,K 114 y114 v0),(2,K 46 y46 a0)]) H fun v0 H =>
  qD (fun v1=>Z [p 1 (J a1),p 2 (R 2),p 5 (R 5),p 6 (O 18)] [(18,A 2 i64 v1 0),(5,K 114 y114 v0),(2,K 46 y46 a0)]) H fun v1 H =>
  qD (fun v2=>Z [p 1 (J a1),p 2 (R 2),p 5 (R 5),p 6 (O 18),p 7 (O 21)] [(21,A 146 y146 v2 0),(18,A 2 i64 v1 0),(5,K 114 y114 v0),(2,K 46 y46 a0)]) H fun v2 H =>
  jN r (fun (v10:List Int)=>Z [p 5 (R 5),p 6 (O 18)] [(18,A 2 i64 v10 0),(5,K 114 y114 v0)]) (u100J0 v0) (fun v10 H=>?_) (fun _ n0 e0 t0=>?_)
 ·refine jN r (fun (v15:List Int)=>Z [p 6 (O 18)] [(18,A 2 i64 v15 0)]) (u100J2) (fun v15 H=>?_) (fun _ n2 e2 t2=>?_)
  ·refine qA (Z [p 4 (O 18)] [(18,A 2 i64 v15 0)]) <|
    vx_ret<|hr H
  refine qB (Z [p 5 (R 5),p 6 (O 18),p 10 (I ((↑v10.length:Int) - 1))] [(18,A 2 i64 v10 0),(5,K 114 y114 v0)]) H fun H =>
   vx_block <|
   lX (fun ((v12,v13):Int×List Int)=>Z [p 5 (R 5),p 6 (O 18),p 10 (I v12)] [(18,A 2 i64 v13 0),(5,K 114 y114 v0)]) (((↑v10.length:Int) - 1,v10)) H fun _ g3 b3 e3 t3 ⟨v12,v13⟩ H =>
   vx_seq <|
   qA (Z [p 5 (R 5),p 6 (O 18),p 10 (I v12),p 56 (B (decide (0 < v12)))] [(18,A 2 i64 v13 0),(5,K 114 y114 v0)]) <|
   cD H (fun H=>?_) (fun H=>?_)
  ·refine vx_skip<|fx_seq<|vx_seq<|vx_block <|
    zD (fun v14=>Z [p 5 (R 5),p 6 (O 18),p 10 (I v12)] [(18,A 2 i64 v14 0),(5,K 114 y114 v0)]) H fun v14 H =>
    fx_blk<|fx_seq <|
    zB (Z [p 5 (R 5),p 6 (O 18),p 10 (I (v12 - 1))] [(18,A 2 i64 v14 0),(5,K 114 y114 v0)]) H fun H =>
    b3 H
  exact vx_exit<|fx_seq_exit<|e3<|fx_blk_exit rfl<|n2 H
 refine qD (fun v3=>Z [p 2 (R 2),p 5 (R 5),p 6 (O 18),p 7 (O 21),p 25 (O 25),p 26 (I (↑v3.length:Int)),p 27 (I 0)] [(25,A 2 i64 v3 0),(21,A 146 y146 v2 0),(18,A 2 i64 v1 0),(5,K 114 y114 v0),(2,K 46 y46 a0)]) H fun v3 H =>
  vx_block <|
  lX (fun ((v6,v7):Int×List Int)=>Z [p 2 (R 2),p 5 (R 5),p 6 (O 18),p 7 (O 21),p 25 (O 25),p 26 (I (↑v3.length:Int)),p 27 (I v6)] [(25,A 2 i64 v3 0),(21,A 146 y146 v2 0),(18,A 2 i64 v7 0),(5,K 114 y114 v0),(2,K 46 y46 a0)]) (0,v1) H fun _ g1 b1 e1 t1 ⟨v6,v7⟩ H =>
  qA (Z [p 2 (R 2),p 5 (R 5),p 6 (O 18),p 7 (O 21),p 25 (O 25),p 26 (I (↑v3.length:Int)),p 27 (I v6),p 28 (B (decide (v6 < (↑v3.length:Int))))] [(25,A 2 i64 v3 0),(21,A 146 y146 v2 0),(18,A 2 i64 v7 0),(5,K 114 y114 v0),(2,K 46 y46 a0)]) <|
  vx_seq <|
  cD H (fun H=>?_) (fun H=>?_)
 ·refine vx_skip<|fx_seq<|vx_seq<|vx_block <|
   qB (Z [p 2 (R 2),p 5 (R 5),p 6 (O 18),p 7 (O 21),p 8 (I v6),p 9 (I (v3.getD v6.toNat 0)),p 25 (O 25),p 26 (I (↑v3.length:Int)),p 27 (I v6)] [(25,A 2 i64 v3 0),(21,A 146 y146 v2 0),(18,A 2 i64 v7 0),(5,K 114 y114 v0),(2,K 46 y46 a0)]) H fun H =>
   zD (fun (v8,v9)=>Z [p 2 (R 2),p 5 (R 5),p 6 (O 18),p 7 (O 21),p 25 (O 25),p 26 (I (↑v3.length:Int)),p 27 (I v6)] [(18,A 2 i64 v9 0),(25,A 2 i64 v3 0),(21,A 146 y146 v2 0),(5,K 114 y114 v0),(2,K 46 y46 a0)]) H fun ⟨v8,v9⟩ H =>
   fx_blk<|fx_seq <|
   zB (Z [p 2 (R 2),p 5 (R 5),p 6 (O 18),p 7 (O 21),p 25 (O 25),p 26 (I (↑v3.length:Int)),p 27 (I (v6+1))] [(18,A 2 i64 v9 0),(25,A 2 i64 v3 0),(21,A 146 y146 v2 0),(5,K 114 y114 v0),(2,K 46 y46 a0)]) H fun H =>
   b1 H
 exact vx_exit<|fx_seq_exit<|e1<|fx_blk_exit rfl<|n0 H
def u78J0:List Int→Option (List Int)
 | v6 =>
 some v6
def u78L1 (v1:Y114) (v0:List Int) (g1:Int×List Int→Option (List Int)):Int×List Int→Option (List Int)
 | (v3,v4) =>
 if (decide (v3 < (↑v4.length:Int)))=true then
  gd (ix v3 v1.1.length∧ix (v1.1.getD v3.toNat 0) v4.length∧Int.toNat (v1.1.getD v3.toNat 0) < v4.length∧ix v3 v1.2.1.length∧ix v3 v0.length∧v3.toNat < v0.length∧in64 (v1.2.1.getD v3.toNat 0*v0.getD v3.toNat 0)∧in64 (v4.getD (Int.toNat (v1.1.getD v3.toNat 0)) 0+v1.2.1.getD v3.toNat 0*v0.getD v3.toNat 0)∧ix v3 v4.length∧v3.toNat < v4.length∧True)<|lt (v4.set v3.toNat (v4.getD (Int.toNat (v1.1.getD v3.toNat 0)) 0+v1.2.1.getD v3.toNat 0*v0.getD v3.toNat 0)) fun v5 =>
  gd (in64 (v3+1)∧True) <|
  g1 (v3+1,v5)
 else
  u78J0 v4
def u78 (a0:Y46) (a1:Int):Option (List Int) :=
 gd (ix a1 a0.2.2.length∧(u100 a0 a1).isSome=true∧True)<|lt ((vl (u100 a0 a1),a0.2.2.getD a1.toNat (dflt y114))) fun (v0,v1) =>
 gd ((0≤(↑v0.length:Int)∧(↑v0.length:Int)=(↑v0.length:Int)∧(↑v0.length:Int).toNat*8≤281474976710656∧(↑v0.length:Int)≤9223372036854775807)∧True) <|
 lp (u78L1 v1 v0) ((1,List.replicate (↑v0.length:Int).toNat 0))
def k78:Ct:=lct 78 [.agg y46,.dat i64] (fun x=>u78 x.1 x.2.1) (fun r:List Int=>AV.ow 2 true i64 r) (fun _=>())
theorem o78:Ok Tryz.prog k78:=by
 refine okL [.tmp 4] Tryz.func78 Tryz.ntmps78 Tryz.results78 ?_
 intro y ⟨a0,a1,_⟩ r H Q hn hr
 have:HT _ _:=⟨tc o100 tn⟩
 refine qA (Z [p 1 (J a1),p 2 (R 2)] [(2,K 46 y46 a0)]) <|
  qD (fun (v0,v1)=>Z [p 5 (R 5),p 6 (O 16)] [(5,K 114 y114 v1),(16,A 2 i64 v0 0),(2,K 46 y46 a0)]) H fun w H=>?_
 obtain ⟨v0,v1⟩:=w
 refine qB (Z [p 5 (R 5),p 6 (O 16),p 7 (O 19)] [(19,A 2 i64 (List.replicate (↑v0.length:Int).toNat 0) 0),(5,K 114 y114 v1),(16,A 2 i64 v0 0),(2,K 46 y46 a0)]) H fun H =>
  jN r (fun (v6:List Int)=>Z [p 7 (O 19)] [(19,A 2 i64 v6 0)]) (u78J0) (fun v6 H=>?_) (fun _ n0 e0 t0=>?_)
 ·refine qA (Z [p 4 (O 19)] [(19,A 2 i64 v6 0)]) <|
   vx_ret<|hr H
 refine qA (Z [p 5 (R 5),p 6 (O 16),p 7 (O 19),p 8 (I 1)] [(19,A 2 i64 (List.replicate (↑v0.length:Int).toNat 0) 0),(5,K 114 y114 v1),(16,A 2 i64 v0 0),(2,K 46 y46 a0)]) <|
  vx_block <|
  lX (fun ((v3,v4):Int×List Int)=>Z [p 5 (R 5),p 6 (O 16),p 7 (O 19),p 8 (I v3)] [(19,A 2 i64 v4 0),(5,K 114 y114 v1),(16,A 2 i64 v0 0)]) ((1,List.replicate (↑v0.length:Int).toNat 0)) H fun _ g1 b1 e1 t1 ⟨v3,v4⟩ H =>
  vx_seq <|
  qA (Z [p 5 (R 5),p 6 (O 16),p 7 (O 19),p 8 (I v3),p 23 (B (decide (v3 < (↑v4.length:Int))))] [(19,A 2 i64 v4 0),(5,K 114 y114 v1),(16,A 2 i64 v0 0)]) <|
  cD H (fun H=>?_) (fun H=>?_)
 ·refine vx_skip<|fx_seq<|vx_seq<|vx_block <|
   zD (fun v5=>Z [p 5 (R 5),p 6 (O 16),p 7 (O 19),p 8 (I v3)] [(19,A 2 i64 v5 0),(5,K 114 y114 v1),(16,A 2 i64 v0 0)]) H fun v5 H =>
   fx_blk<|fx_seq <|
   zB (Z [p 5 (R 5),p 6 (O 16),p 7 (O 19),p 8 (I (v3+1))] [(19,A 2 i64 v5 0),(5,K 114 y114 v1),(16,A 2 i64 v0 0)]) H fun H =>
   b1 H
 exact vx_exit<|fx_seq_exit<|e1<|fx_blk_exit rfl<|n0 H
def u40J0:List Int→Option (List Int)
 | v6 =>
 some v6
def u40L1 (v0:List Int) (v1:Y114) (g1:List Int×Int→Option (List Int)):List Int×Int→Option (List Int)
 | (v3,v4) =>
 if (decide (v4 < (↑v1.2.2.2.length:Int)))=true then
  gd (ix v4 v1.2.2.2.length∧True) <|
  gd (ix (v1.2.2.2.getD v4.toNat 0) v0.length∧Int.toNat (v1.2.2.2.getD v4.toNat 0) < v0.length∧(v3.length+[v0.getD (Int.toNat (v1.2.2.2.getD v4.toNat 0)) 0].length≤9223372036854775807∧(v3.length+[v0.getD (Int.toNat (v1.2.2.2.getD v4.toNat 0)) 0].length)*8≤140737488355328)∧True)<|lt (v3++[v0.getD (Int.toNat (v1.2.2.2.getD v4.toNat 0)) 0]) fun v5 =>
  gd (in64 (v4+1)∧True) <|
  g1 (v5,v4+1)
 else
  u40J0 v3
def u40 (a0:Y46) (a1:Int):Option (List Int) :=
 gd ((u78 a0 a1).isSome=true∧True)<|lt (vl (u78 a0 a1)) fun v0 =>
 gd (ix a1 a0.2.2.length∧True)<|lt (a0.2.2.getD a1.toNat (dflt y114)) fun v1 =>
 lp (u40L1 v0 v1) ([],0)
def k40:Ct:=lct 40 [.agg y46,.dat i64] (fun x=>u40 x.1 x.2.1) (fun r:List Int=>AV.ow 2 true i64 r) (fun _=>())
theorem o40:Ok Tryz.prog k40:=by
 refine okL [.tmp 4] Tryz.func40 Tryz.ntmps40 Tryz.results40 ?_
 intro y ⟨a0,a1,_⟩ r H Q hn hr
 have:HT _ _:=⟨tc o78 tn⟩
 refine qA (Z [p 1 (J a1),p 2 (R 2)] [(2,K 46 y46 a0)]) <|
  qD (fun v0=>Z [p 1 (J a1),p 2 (R 2),p 5 (O 11)] [(11,A 2 i64 v0 0),(2,K 46 y46 a0)]) H fun v0 H =>
  qA (Z [p 1 (J a1),p 2 (R 2),p 5 (O 11),p 6 (nil)] [(11,A 2 i64 v0 0),(2,K 46 y46 a0)]) <|
  jN r (fun (v6:List Int)=>Z [p 6 (O 29)] [(29,A 2 i64 v6 0)]) (u40J0) (fun v6 H=>?_) (fun _ n0 e0 t0=>?_)
 ·refine qA (Z [p 4 (O 29)] [(29,A 2 i64 v6 0)]) <|
   vx_ret<|hr H
 refine qD (fun v1=>Z [p 5 (O 11),p 6 (nil),p 17 (L i64 v1.2.2.2),p 18 (I (↑v1.2.2.2.length:Int)),p 19 (I 0)] [(11,A 2 i64 v0 0),(2,K 46 y46 a0)]) H fun v1 H =>
  vx_block <|
  lX (fun ((v3,v4):List Int×Int)=>Z [p 5 (O 11),p 6 (O 29),p 17 (L i64 v1.2.2.2),p 18 (I (↑v1.2.2.2.length:Int)),p 19 (I v4)] [(11,A 2 i64 v0 0),(29,A 2 i64 v3 0)]) ([],0) H fun _ g1 b1 e1 t1 ⟨v3,v4⟩ H =>
  qA (Z [p 5 (O 11),p 6 (O 29),p 17 (L i64 v1.2.2.2),p 18 (I (↑v1.2.2.2.length:Int)),p 19 (I v4),p 20 (B (decide (v4 < (↑v1.2.2.2.length:Int))))] [(11,A 2 i64 v0 0),(29,A 2 i64 v3 0)]) <|
  vx_seq <|
  cD H (fun H=>?_) (fun H=>?_)
 ·refine vx_skip<|fx_seq<|vx_seq<|vx_block <|
   qB (Z [p 5 (O 11),p 6 (O 29),p 8 (J (v1.2.2.2.getD v4.toNat 0)),p 17 (L i64 v1.2.2.2),p 18 (I (↑v1.2.2.2.length:Int)),p 19 (I v4)] [(11,A 2 i64 v0 0),(29,A 2 i64 v3 0)]) H fun H =>
   zD (fun v5=>Z [p 5 (O 11),p 6 (AV.os 29 1),p 17 (L i64 v1.2.2.2),p 18 (I (↑v1.2.2.2.length:Int)),p 19 (I v4)] [(29,A 2 i64 v5 1),(28,A 2 i64 [v0.getD (Int.toNat (v1.2.2.2.getD v4.toNat 0)) 0] 0),(11,A 2 i64 v0 0)]) H fun v5 H =>
   fx_blk<|fx_seq <|
   zB (Z [p 5 (O 11),p 6 (AV.os 29 1),p 17 (L i64 v1.2.2.2),p 18 (I (↑v1.2.2.2.length:Int)),p 19 (I (v4+1))] [(29,A 2 i64 v5 1),(28,A 2 i64 [v0.getD (Int.toNat (v1.2.2.2.getD v4.toNat 0)) 0] 0),(11,A 2 i64 v0 0)]) H fun H =>
   b1 H
 exact vx_exit<|fx_seq_exit<|e1<|fx_blk_exit rfl<|n0 H
def k40d:Ct:=lct 40 [.agg y46,.dat i64] (fun x=>u40 x.1 x.2.1) (fun r=>frz ((fun r:List Int=>AV.ow 2 true i64 r) r)) (fun _=>())
theorem o40d:Ok Tryz.prog k40d:=ok_frz o40
def u120 (a0:Int) (a1:Int) (a2:Int):Option (Bool) :=
 some (decide (a1≤a0)&&decide (a0≤a2))
def k120:Ct:=lct 120 [.dat i64,.dat i64,.dat i64] (fun x=>u120 x.1 x.2.1 x.2.2.1) (fun r:Bool=>B r) (fun _=>())
theorem o120:Ok Tryz.prog k120:=by
 refine okL [.tmp 6] Tryz.func120 Tryz.ntmps120 Tryz.results120 ?_
 intro y ⟨a0,a1,a2,_⟩ r H Q hn hr
 have:HT _ _:=⟨@tn Tryz.prog⟩
 refine qA (Z [p 0 (J a0),p 1 (J a1),p 2 (J a2)] []) <|
  qA (Z [p 6 (B (decide (a1≤a0)&&decide (a0≤a2)))] []) <|
  vx_ret<|hr H
def u121 (a0:List ByteArray):Option (Int) :=
 some (↑a0.length:Int)
def k121:Ct:=lct 121 [.dat Ty.str.sl] (fun x=>u121 x.1) (fun r:Int=>I r) (fun _=>())
theorem o121:Ok Tryz.prog k121:=by
 refine okL [.tmp 2] Tryz.func121 Tryz.ntmps121 Tryz.results121 ?_
 intro y ⟨a0,_⟩ r H Q hn hr
 have:HT _ _:=⟨@tn Tryz.prog⟩
 refine qA (Z [p 0 (L Ty.str a0)] []) <|
  qA (Z [p 2 (I (↑a0.length:Int))] []) <|
  vx_ret<|hr H
def u77 (a0:Y43) (a1:Int):Option (Bool) :=
 gd ((u121 a0.2.1).isSome=true∧in64 (vl (u121 a0.2.1) - 1)∧(u120 a1 0 (vl (u121 a0.2.1) - 1)).isSome=true∧True) <|
 some (vl (u120 a1 0 (vl (u121 a0.2.1) - 1)))
def k77:Ct:=lct 77 [.agg y43,.dat i64] (fun x=>u77 x.1 x.2.1) (fun r:Bool=>B r) (fun _=>())
theorem o77:Ok Tryz.prog k77:=by
 refine okL [.tmp 4] Tryz.func77 Tryz.ntmps77 Tryz.results77 ?_
 intro y ⟨a0,a1,_⟩ r H Q hn hr
 have:HT _ _:=⟨tc o120 (tc o121 tn)⟩
 refine qA (Z [p 1 (J a1),p 2 (R 2)] [(2,K 43 y43 a0)]) <|
  qB (Z [p 4 (B (vl (u120 a1 0 (vl (u121 a0.2.1) - 1))))] [(2,K 43 y43 a0)]) H fun H =>
  vx_ret<|hr H
def u162 (a0:Int) (a1:Int) (a2:Int):Option (Bool) :=
 gd ((u120 a0 a1 a2).isSome=true∧True) <|
 some (!vl (u120 a0 a1 a2))
def k162:Ct:=lct 162 [.dat i64,.dat (.pt i64),.dat (.pt i64)] (fun x=>u162 x.1 x.2.1 x.2.2.1) (fun r:Bool=>B r) (fun _=>())
theorem o162:Ok Tryz.prog k162:=by
 refine okL [.tmp 4] Tryz.func162 Tryz.ntmps162 Tryz.results162 ?_
 intro y ⟨a0,a1,a2,_⟩ r H Q hn hr
 have:HT _ _:=⟨tc o120 tn⟩
 refine qA (Z [p 0 (J a0),p 1 (D i64.pt a1),p 2 (D i64.pt a2)] []) <|
  qB (Z [p 4 (B !vl (u120 a0 a1 a2))] []) H fun H =>
  vx_ret<|hr H
def u177c162J0:Unit→Option (Int)
 | _ =>
 some (-1)
def u177c162L1 (a0:List Int) (a1:Int×Int) (g1:Int→Option (Int)):Int→Option (Int)
 | v0 =>
 if (decide (v0 < (↑a0.length:Int)))=true then
  gd (ix v0 a0.length∧(u162 (a0.getD v0.toNat 0) a1.1 a1.2).isSome=true∧True) <|
  if (vl (u162 (a0.getD v0.toNat 0) a1.1 a1.2))=true then
   some v0
  else
   gd (in64 (v0+1)∧True) <|
   g1 (v0+1)
 else
  u177c162J0 ()
def u177c162 (a0:List Int) (a1:Int×Int):Option (Int) :=
 lp (u177c162L1 a0 a1) 0
def k177c162:Ct:=lct 177 [.dat i64.sl,.fn 162 (.pr i64.pt i64.pt)] (fun x=>u177c162 x.1 x.2.1) (fun r:Int=>I r) (fun _=>())
theorem o177c162:Ok Tryz.prog k177c162:=by
 refine okL [.tmp 4] Tryz.func177 Tryz.ntmps177 Tryz.results177 ?_
 intro y ⟨a0,a1,_⟩ r H Q hn hr
 have:HT _ _:=⟨tc o162 tn⟩
 refine qA (Z [p 0 (L i64 a0),p 1 (AV.fn 162 [D i64.pt a1.1,D i64.pt a1.2])] []) <|
  jN r (fun (_:Unit)=>Z [] []) (u177c162J0) (fun _ H=>?_) (fun _ n0 e0 t0=>?_)
 ·refine qA (Z [p 4 (I (-1))] []) <|
   vx_ret<|hr H
 refine qA (Z [p 0 (L i64 a0),p 1 (AV.fn 162 [D i64.pt a1.1,D i64.pt a1.2]),p 7 (I (↑a0.length:Int)),p 8 (I 0)] []) <|
  vx_block <|
  lX (fun (v0:Int)=>Z [p 0 (L i64 a0),p 1 (AV.fn 162 [D i64.pt a1.1,D i64.pt a1.2]),p 7 (I (↑a0.length:Int)),p 8 (I v0)] []) 0 H fun _ g1 b1 e1 t1 v0 H =>
  qA (Z [p 0 (L i64 a0),p 1 (AV.fn 162 [D i64.pt a1.1,D i64.pt a1.2]),p 7 (I (↑a0.length:Int)),p 8 (I v0),p 9 (B (decide (v0 < (↑a0.length:Int))))] []) <|
  vx_seq <|
  cD H (fun H=>?_) (fun H=>?_)
 ·refine vx_skip<|fx_seq<|vx_seq<|vx_block <|
   qA (Z [p 0 (L i64 a0),p 1 (AV.fn 162 [D i64.pt a1.1,D i64.pt a1.2]),p 5 (I v0),p 7 (I (↑a0.length:Int)),p 8 (I v0)] []) <|
   qB (Z [p 0 (L i64 a0),p 1 (AV.fn 162 [D i64.pt a1.1,D i64.pt a1.2]),p 5 (I v0),p 7 (I (↑a0.length:Int)),p 8 (I v0),p 16 (B (vl (u162 (a0.getD v0.toNat 0) a1.1 a1.2)))] []) H fun H =>
   cD H (fun H=>?_) (fun H=>?_)
  ·refine qA (Z [p 4 (I v0)] []) <|
    vx_ret<|fx_blk_ret<|fx_seq_ret<|t1<|fx_blk_ret<|t0<|hr H
  refine vx_skip<|fx_blk<|fx_seq <|
   zB (Z [p 0 (L i64 a0),p 1 (AV.fn 162 [D i64.pt a1.1,D i64.pt a1.2]),p 7 (I (↑a0.length:Int)),p 8 (I (v0+1))] []) H fun H =>
   b1 H
 exact vx_exit<|fx_seq_exit<|e1<|fx_blk_exit rfl<|n0 H
def u159c162 (a0:List Int) (a1:Int×Int):Option (Bool) :=
 gd ((u177c162 a0 a1).isSome=true∧True)<|lt (vl (u177c162 a0 a1)) fun v0 =>
 some (decide (0≤v0))
def k159c162:Ct:=lct 159 [.dat i64.sl,.fn 162 (.pr (.pt i64) (.pt i64))] (fun x=>u159c162 x.1 x.2.1) (fun r:Bool=>B r) (fun _=>())
theorem o159c162:Ok Tryz.prog k159c162:=by
 refine okL [.tmp 4] Tryz.func159 Tryz.ntmps159 Tryz.results159 ?_
 intro y ⟨a0,a1,_⟩ r H Q hn hr
 have:HT _ _:=⟨tc o177c162 (tc o162 tn)⟩
 refine qA (Z [p 0 (L i64 a0),p 1 (AV.fn 162 [D i64.pt a1.1,D i64.pt a1.2])] []) <|
  qD (fun v0=>Z [p 4 (B (decide (0≤v0)))] []) H fun v0 H =>
  vx_ret<|hr H
def u137 (a0:List Int) (a1:Int) (a2:Int):Option (Bool) :=
 gd ((u159c162 a0 (a1,a2)).isSome=true∧True) <|
 some (!vl (u159c162 a0 (a1,a2)))
def k137:Ct:=lct 137 [.dat i64.sl,.dat i64,.dat i64] (fun x=>u137 x.1 x.2.1 x.2.2.1) (fun r:Bool=>B r) (fun _=>())
theorem o137:Ok Tryz.prog k137:=by
 refine okL [.tmp 6] Tryz.func137 Tryz.ntmps137 Tryz.results137 ?_
 intro y ⟨a0,a1,a2,_⟩ r H Q hn hr
 have:HT _ _:=⟨tc o159c162 (tc o162 tn)⟩
 refine qA (Z [p 0 (L i64 a0),p 4 (R 4),p 5 (R 5)] [(5,Ob.box 2 [J a2]),(4,Ob.box 2 [J a1])]) <|
  qB (Z [p 6 (B !vl (u159c162 a0 (a1,a2)))] [(5,Ob.box 2 [J a2]),(4,Ob.box 2 [J a1])]) H fun H =>
  vx_ret<|hr H
def u99 (a0:List Int):Option (Int) :=
 some (↑a0.length:Int)
def k99:Ct:=lct 99 [.dat i64.sl] (fun x=>u99 x.1) (fun r:Int=>I r) (fun _=>())
theorem o99:Ok Tryz.prog k99:=by
 refine okL [.tmp 2] Tryz.func99 Tryz.ntmps99 Tryz.results99 ?_
 intro y ⟨a0,_⟩ r H Q hn hr
 have:HT _ _:=⟨@tn Tryz.prog⟩
 refine qA (Z [p 0 (L i64 a0)] []) <|
  qA (Z [p 2 (I (↑a0.length:Int))] []) <|
  vx_ret<|hr H
def u136J0:Unit→Option (Bool)
 | _ =>
 some true
def u136L1 (a0:Y114) (g1:Int→Option (Bool)):Int→Option (Bool)
 | v0 =>
 if (decide (v0 < (↑a0.1.length:Int)))=true then
  gd (ix v0 a0.1.length∧True) <|
  gd (((a0.1.getD v0.toNat (0:Int) != (-1:Int))=false∧(v0==(0:Int))=true∧True→ix (0:Int) a0.2.1.length)∧(decide ((0:Int) < v0)=true∧(v0==(0:Int)&&(a0.1.getD v0.toNat (0:Int) != (-1:Int)||a0.2.1.getD (Int.toNat (0:Int)) (0:Int) != (0:Int)))=false∧True→in64 (v0 - (1:Int)))∧(decide ((0:Int) < v0)=true∧(v0==(0:Int)&&(a0.1.getD v0.toNat (0:Int) != (-1:Int)||a0.2.1.getD (Int.toNat (0:Int)) (0:Int) != (0:Int)))=false∧True→(u120 (a0.1.getD v0.toNat (0:Int)) (0:Int) (v0 - (1:Int))).isSome=true)∧True) <|
  if (v0==(0:Int)&&(a0.1.getD v0.toNat (0:Int) != (-1:Int)||a0.2.1.getD (Int.toNat (0:Int)) (0:Int) != (0:Int))||decide ((0:Int) < v0)&&!vl (u120 (a0.1.getD v0.toNat (0:Int)) (0:Int) (v0 - (1:Int))))=true then
   some false
  else
   gd (in64 (v0+1)∧True) <|
   g1 (v0+1)
 else
  u136J0 ()
def u136 (a0:Y114):Option (Bool) :=
 lp (u136L1 a0) 0
def k136:Ct:=lct 136 [.agg y114] (fun x=>u136 x.1) (fun r:Bool=>B r) (fun _=>())
theorem o136:Ok Tryz.prog k136:=by
 refine okL [.tmp 2] Tryz.func136 Tryz.ntmps136 Tryz.results136 ?_
 intro y ⟨a0,_⟩ r H Q hn hr
 have:HT _ _:=⟨tc o120 tn⟩
 refine qA (Z [p 1 (R 1)] [(1,K 114 y114 a0)]) <|
  jN r (fun (_:Unit)=>Z [] []) (u136J0) (fun _ H=>?_) (fun _ n0 e0 t0=>?_)
 ·refine qA (Z [p 2 (B true)] []) <|
   vx_ret<|hr H
 refine qA (Z [p 1 (R 1),p 6 (L i64 a0.1),p 7 (I (↑a0.1.length:Int)),p 8 (I 0)] [(1,K 114 y114 a0)]) <|
  vx_block <|
  lX (fun (v0:Int)=>Z [p 1 (R 1),p 6 (L i64 a0.1),p 7 (I (↑a0.1.length:Int)),p 8 (I v0)] [(1,K 114 y114 a0)]) 0 H fun _ g1 b1 e1 t1 v0 H =>
  qA (Z [p 1 (R 1),p 6 (L i64 a0.1),p 7 (I (↑a0.1.length:Int)),p 8 (I v0),p 9 (B (decide (v0 < (↑a0.1.length:Int))))] [(1,K 114 y114 a0)]) <|
  vx_seq <|
  cD H (fun H=>?_) (fun H=>?_)
 ·refine vx_skip<|fx_seq<|vx_seq<|vx_block <|
   qB (Z [p 1 (R 1),p 3 (I v0),p 4 (J (a0.1.getD v0.toNat 0)),p 6 (L i64 a0.1),p 7 (I (↑a0.1.length:Int)),p 8 (I v0)] [(1,K 114 y114 a0)]) H fun H =>
   qB (Z [p 1 (R 1),p 6 (L i64 a0.1),p 7 (I (↑a0.1.length:Int)),p 8 (I v0),p 36 (B (v0==(0:Int)&&(a0.1.getD v0.toNat (0:Int) != (-1:Int)||a0.2.1.getD (Int.toNat (0:Int)) (0:Int) != (0:Int))||decide ((0:Int) < v0)&&!vl (u120 (a0.1.getD v0.toNat (0:Int)) (0:Int) (v0 - (1:Int)))))] [(1,K 114 y114 a0)]) H fun H =>
   cD H (fun H=>?_) (fun H=>?_)
  ·refine qA (Z [p 2 (B false)] [(1,K 114 y114 a0)]) <|
    vx_ret<|fx_blk_ret<|fx_seq_ret<|t1<|fx_blk_ret<|t0<|hr H
  refine vx_skip<|fx_blk<|fx_seq <|
   zB (Z [p 1 (R 1),p 6 (L i64 a0.1),p 7 (I (↑a0.1.length:Int)),p 8 (I (v0+1))] [(1,K 114 y114 a0)]) H fun H =>
   b1 H
 exact vx_exit<|fx_seq_exit<|e1<|fx_blk_exit rfl<|n0 H
def u97 (a0:Y114) (a1:Int):Option (Bool) :=
 gd ((u99 a0.1).isSome=true∧True)<|lt (vl (u99 a0.1)) fun v0 =>
 gd ((u120 v0 1 8).isSome=true∧(vl (u120 v0 1 8)=true∧True→(u99 a0.2.1).isSome=true)∧((vl (u120 v0 1 8)&&vl (u99 a0.2.1)==v0)=true∧True→(u99 a0.2.2.1).isSome=true)∧((vl (u120 v0 1 8)&&vl (u99 a0.2.1)==v0&&vl (u99 a0.2.2.1)==v0)=true∧True→(u136 a0).isSome=true)∧((vl (u120 v0 1 8)&&vl (u99 a0.2.1)==v0&&vl (u99 a0.2.2.1)==v0&&vl (u136 a0))=true∧True→(u137 a0.2.1 0 1000).isSome=true)∧((vl (u120 v0 1 8)&&vl (u99 a0.2.1)==v0&&vl (u99 a0.2.2.1)==v0&&vl (u136 a0)&&vl (u137 a0.2.1 0 1000))=true∧True→(u137 a0.2.2.1 0 500).isSome=true)∧((vl (u120 v0 1 8)&&vl (u99 a0.2.1)==v0&&vl (u99 a0.2.2.1)==v0&&vl (u136 a0)&&vl (u137 a0.2.1 0 1000)&&vl (u137 a0.2.2.1 0 500))=true∧True→(u99 a0.2.2.2).isSome=true)∧((vl (u120 v0 1 8)&&vl (u99 a0.2.1)==v0&&vl (u99 a0.2.2.1)==v0&&vl (u136 a0)&&vl (u137 a0.2.1 0 1000)&&vl (u137 a0.2.2.1 0 500)&&vl (u99 a0.2.2.2)==a1)=true∧True→in64 (v0 - 1))∧((vl (u120 v0 1 8)&&vl (u99 a0.2.1)==v0&&vl (u99 a0.2.2.1)==v0&&vl (u136 a0)&&vl (u137 a0.2.1 0 1000)&&vl (u137 a0.2.2.1 0 500)&&vl (u99 a0.2.2.2)==a1)=true∧True→(u137 a0.2.2.2 0 (v0 - 1)).isSome=true)∧True)<|lt ((vl (u99 a0.2.1),vl (u99 a0.2.2.1),vl (u99 a0.2.2.2))) fun (v1,v2,v3) =>
 some (vl (u120 v0 1 8)&&v1==v0&&v2==v0&&vl (u136 a0)&&vl (u137 a0.2.1 0 1000)&&vl (u137 a0.2.2.1 0 500)&&v3==a1&&vl (u137 a0.2.2.2 0 (v0 - 1)))
def k97:Ct:=lct 97 [.agg y114,.dat i64] (fun x=>u97 x.1 x.2.1) (fun r:Bool=>B r) (fun _=>())
theorem o97:Ok Tryz.prog k97:=by
 refine okL [.tmp 4] Tryz.func97 Tryz.ntmps97 Tryz.results97 ?_
 intro y ⟨a0,a1,_⟩ r H Q hn hr
 have:HT _ _:=⟨tc o137 (tc o99 (tc o136 (tc o120 tn)))⟩
 refine qA (Z [p 1 (J a1),p 2 (R 2)] [(2,K 114 y114 a0)]) <|
  qD (fun v0=>Z [p 1 (J a1),p 2 (R 2),p 5 (I v0)] [(2,K 114 y114 a0)]) H fun v0 H =>
  qD (fun (v1,v2,v3)=>Z [p 4 (B (vl (u120 v0 1 8)&&v1==v0&&v2==v0&&vl (u136 a0)&&vl (u137 a0.2.1 0 1000)&&vl (u137 a0.2.2.1 0 500)&&v3==a1&&vl (u137 a0.2.2.2 0 (v0 - 1))))] [(2,K 114 y114 a0)]) H fun ⟨v1,v2,v3⟩ H =>
  vx_ret<|hr H
def u135 (a0:Int):Option (Bool) :=
 some (a0 != 1)
def k135:Ct:=lct 135 [.dat i64] (fun x=>u135 x.1) (fun r:Bool=>B r) (fun _=>())
theorem o135:Ok Tryz.prog k135:=by
 refine okL [.tmp 2] Tryz.func135 Tryz.ntmps135 Tryz.results135 ?_
 intro y ⟨a0,_⟩ r H Q hn hr
 have:HT _ _:=⟨@tn Tryz.prog⟩
 refine qA (Z [p 0 (J a0)] []) <|
  qA (Z [p 2 (B (a0 != 1))] []) <|
  vx_ret<|hr H
def u158 (a0:List Y134):Option (Int) :=
 some (↑a0.length:Int)
def k158:Ct:=lct 158 [.dat y134.sl] (fun x=>u158 x.1) (fun r:Int=>I r) (fun _=>())
theorem o158:Ok Tryz.prog k158:=by
 refine okL [.tmp 2] Tryz.func158 Tryz.ntmps158 Tryz.results158 ?_
 intro y ⟨a0,_⟩ r H Q hn hr
 have:HT _ _:=⟨@tn Tryz.prog⟩
 refine qA (Z [p 0 (L y134 a0)] []) <|
  qA (Z [p 2 (I (↑a0.length:Int))] []) <|
  vx_ret<|hr H
def u160 (a0:Int) (a1:Y43):Option (Bool) :=
 gd ((u77 a1 a0).isSome=true∧True) <|
 some (!vl (u77 a1 a0))
def k160:Ct:=lct 160 [.dat i64,.dat (.pt y43)] (fun x=>u160 x.1 x.2.1) (fun r:Bool=>B r) (fun _=>())
theorem o160:Ok Tryz.prog k160:=by
 refine okL [.tmp 3] Tryz.func160 Tryz.ntmps160 Tryz.results160 ?_
 intro y ⟨a0,a1,_⟩ r H Q hn hr
 have:HT _ _:=⟨tc o77 tn⟩
 refine qA (Z [p 0 (J a0),p 1 (D y43.pt a1)] []) <|
  qB (Z [p 3 (B !vl (u77 a1 a0))] []) H fun H =>
  vx_ret<|hr H
def u177c160J0:Unit→Option (Int)
 | _ =>
 some (-1)
def u177c160L1 (a0:List Int) (a1:Y43) (g1:Int→Option (Int)):Int→Option (Int)
 | v0 =>
 if (decide (v0 < (↑a0.length:Int)))=true then
  gd (ix v0 a0.length∧(u160 (a0.getD v0.toNat 0) a1).isSome=true∧True) <|
  if (vl (u160 (a0.getD v0.toNat 0) a1))=true then
   some v0
  else
   gd (in64 (v0+1)∧True) <|
   g1 (v0+1)
 else
  u177c160J0 ()
def u177c160 (a0:List Int) (a1:Y43):Option (Int) :=
 lp (u177c160L1 a0 a1) 0
def k177c160:Ct:=lct 177 [.dat i64.sl,.fn 160 y43.pt] (fun x=>u177c160 x.1 x.2.1) (fun r:Int=>I r) (fun _=>())
theorem o177c160:Ok Tryz.prog k177c160:=by
 refine okL [.tmp 4] Tryz.func177 Tryz.ntmps177 Tryz.results177 ?_
 intro y ⟨a0,a1,_⟩ r H Q hn hr
 have:HT _ _:=⟨tc o160 tn⟩
 refine qA (Z [p 0 (L i64 a0),p 1 (AV.fn 160 [D y43.pt a1])] []) <|
  jN r (fun (_:Unit)=>Z [] []) (u177c160J0) (fun _ H=>?_) (fun _ n0 e0 t0=>?_)
 ·refine qA (Z [p 4 (I (-1))] []) <|
   vx_ret<|hr H
 refine qA (Z [p 0 (L i64 a0),p 1 (AV.fn 160 [D y43.pt a1]),p 7 (I (↑a0.length:Int)),p 8 (I 0)] []) <|
  vx_block <|
  lX (fun (v0:Int)=>Z [p 0 (L i64 a0),p 1 (AV.fn 160 [D y43.pt a1]),p 7 (I (↑a0.length:Int)),p 8 (I v0)] []) 0 H fun _ g1 b1 e1 t1 v0 H =>
  qA (Z [p 0 (L i64 a0),p 1 (AV.fn 160 [D y43.pt a1]),p 7 (I (↑a0.length:Int)),p 8 (I v0),p 9 (B (decide (v0 < (↑a0.length:Int))))] []) <|
  vx_seq <|
  cD H (fun H=>?_) (fun H=>?_)
 ·refine vx_skip<|fx_seq<|vx_seq<|vx_block <|
   qA (Z [p 0 (L i64 a0),p 1 (AV.fn 160 [D y43.pt a1]),p 5 (I v0),p 7 (I (↑a0.length:Int)),p 8 (I v0)] []) <|
   qB (Z [p 0 (L i64 a0),p 1 (AV.fn 160 [D y43.pt a1]),p 5 (I v0),p 7 (I (↑a0.length:Int)),p 8 (I v0),p 16 (B (vl (u160 (a0.getD v0.toNat 0) a1)))] []) H fun H =>
   cD H (fun H=>?_) (fun H=>?_)
  ·refine qA (Z [p 4 (I v0)] []) <|
    vx_ret<|fx_blk_ret<|fx_seq_ret<|t1<|fx_blk_ret<|t0<|hr H
  refine vx_skip<|fx_blk<|fx_seq <|
   zB (Z [p 0 (L i64 a0),p 1 (AV.fn 160 [D y43.pt a1]),p 7 (I (↑a0.length:Int)),p 8 (I (v0+1))] []) H fun H =>
   b1 H
 exact vx_exit<|fx_seq_exit<|e1<|fx_blk_exit rfl<|n0 H
def u159c160 (a0:List Int) (a1:Y43):Option (Bool) :=
 gd ((u177c160 a0 a1).isSome=true∧True)<|lt (vl (u177c160 a0 a1)) fun v0 =>
 some (decide (0≤v0))
def k159c160:Ct:=lct 159 [.dat i64.sl,.fn 160 (.pt y43)] (fun x=>u159c160 x.1 x.2.1) (fun r:Bool=>B r) (fun _=>())
theorem o159c160:Ok Tryz.prog k159c160:=by
 refine okL [.tmp 4] Tryz.func159 Tryz.ntmps159 Tryz.results159 ?_
 intro y ⟨a0,a1,_⟩ r H Q hn hr
 have:HT _ _:=⟨tc o177c162 (tc o177c160 (tc o160 tn))⟩
 refine qA (Z [p 0 (L i64 a0),p 1 (AV.fn 160 [D y43.pt a1])] []) <|
  qD (fun v0=>Z [p 4 (B (decide (0≤v0)))] []) H fun v0 H =>
  vx_ret<|hr H
def u133 (a0:Y43) (a1:List Y134) (a2:Y136):Option (Bool) :=
 gd ((u158 a1).isSome=true∧in64 (vl (u158 a1) - 1)∧(u120 a2.2.1 0 (vl (u158 a1) - 1)).isSome=true∧(vl (u120 a2.2.1 0 (vl (u158 a1) - 1))=true∧True→ix a2.2.1 a1.length)∧((vl (u120 a2.2.1 0 (vl (u158 a1) - 1))&&(↑a2.2.2.length:Int)==(↑(a1.getD a2.2.1.toNat (dflt y134)).2.2.1.length:Int))=true∧True→(u159c160 a2.2.2 a0).isSome=true)∧True) <|
 some (vl (u120 a2.2.1 0 (vl (u158 a1) - 1))&&(↑a2.2.2.length:Int)==(↑(a1.getD a2.2.1.toNat (dflt y134)).2.2.1.length:Int)&&!vl (u159c160 a2.2.2 a0))
def k133:Ct:=lct 133 [.agg y43,.agg y134.sl,.agg y136] (fun x=>u133 x.1 x.2.1 x.2.2.1) (fun r:Bool=>B r) (fun _=>())
theorem o133:Ok Tryz.prog k133:=by
 refine okL [.tmp 6] Tryz.func133 Tryz.ntmps133 Tryz.results133 ?_
 intro y ⟨a0,a1,a2,_⟩ r H Q hn hr
 have:HT _ _:=⟨tc o159c162 (tc o159c160 (tc o160 (tc o120 (tc o158 tn))))⟩
 refine qA (Z [p 3 (R 3),p 4 (R 4),p 5 (R 5)] [(5,K 136 y136 a2),(4,Ob.box 39 [L y134 a1]),(3,K 43 y43 a0)]) <|
  qB (Z [p 6 (B (vl (u120 a2.2.1 0 (vl (u158 a1) - 1))&&(↑a2.2.2.length:Int)==(↑(a1.getD a2.2.1.toNat (dflt y134)).2.2.1.length:Int)&&!vl (u159c160 a2.2.2 a0)))] [(5,K 136 y136 a2),(4,Ob.box 39 [L y134 a1]),(3,K 43 y43 a0)]) H fun H =>
  vx_ret<|hr H
def u190J0:Unit→Option (Int)
 | _ =>
 some (-1)
def u190L1 (a1:ByteArray) (a0:List ByteArray) (g1:Int→Option (Int)):Int→Option (Int)
 | v0 =>
 if (decide (v0 < (↑a0.length:Int)))=true then
  gd (ix v0 a0.length∧True) <|
  if (decide (a1=a0.getD v0.toNat (dflt Ty.str)))=true then
   some v0
  else
   gd (in64 (v0+1)∧True) <|
   g1 (v0+1)
 else
  u190J0 ()
def u190 (a0:List ByteArray) (a1:ByteArray):Option (Int) :=
 lp (u190L1 a1 a0) 0
def k190:Ct:=lct 190 [.dat Ty.str.sl,.dat Ty.str] (fun x=>u190 x.1 x.2.1) (fun r:Int=>I r) (fun _=>())
theorem o190:Ok Tryz.prog k190:=by
 refine okL [.tmp 4] Tryz.func190 Tryz.ntmps190 Tryz.results190 ?_
 intro y ⟨a0,a1,_⟩ r H Q hn hr
 have:HT _ _:=⟨@tn Tryz.prog⟩
 refine qA (Z [p 0 (L Ty.str a0),p 1 (U a1)] []) <|
  jN r (fun (_:Unit)=>Z [] []) (u190J0) (fun _ H=>?_) (fun _ n0 e0 t0=>?_)
 ·refine qA (Z [p 4 (I (-1))] []) <|
   vx_ret<|hr H
 refine qA (Z [p 0 (L Ty.str a0),p 1 (U a1),p 7 (I (↑a0.length:Int)),p 8 (I 0)] []) <|
  vx_block <|
  lX (fun (v0:Int)=>Z [p 0 (L Ty.str a0),p 1 (U a1),p 7 (I (↑a0.length:Int)),p 8 (I v0)] []) 0 H fun _ g1 b1 e1 t1 v0 H =>
  qA (Z [p 0 (L Ty.str a0),p 1 (U a1),p 7 (I (↑a0.length:Int)),p 8 (I v0),p 9 (B (decide (v0 < (↑a0.length:Int))))] []) <|
  vx_seq <|
  cD H (fun H=>?_) (fun H=>?_)
 ·refine vx_skip<|fx_seq<|vx_seq<|vx_block <|
   qA (Z [p 0 (L Ty.str a0),p 1 (U a1),p 5 (I v0),p 7 (I (↑a0.length:Int)),p 8 (I v0)] []) <|
   qB (Z [p 0 (L Ty.str a0),p 1 (U a1),p 5 (I v0),p 7 (I (↑a0.length:Int)),p 8 (I v0),p 16 (B (decide (a1=a0.getD v0.toNat (dflt Ty.str))))] []) H fun H =>
   cD H (fun H=>?_) (fun H=>?_)
  ·refine qA (Z [p 4 (I v0)] []) <|
    vx_ret<|fx_blk_ret<|fx_seq_ret<|t1<|fx_blk_ret<|t0<|hr H
  refine vx_skip<|fx_blk<|fx_seq <|
   zB (Z [p 0 (L Ty.str a0),p 1 (U a1),p 7 (I (↑a0.length:Int)),p 8 (I (v0+1))] []) H fun H =>
   b1 H
 exact vx_exit<|fx_seq_exit<|e1<|fx_blk_exit rfl<|n0 H
def u176 (a0:List ByteArray) (a1:ByteArray):Option (Bool) :=
 gd ((u190 a0 a1).isSome=true∧True)<|lt (vl (u190 a0 a1)) fun v0 =>
 some (decide (0≤v0))
def k176:Ct:=lct 176 [.dat Ty.str.sl,.dat Ty.str] (fun x=>u176 x.1 x.2.1) (fun r:Bool=>B r) (fun _=>())
theorem o176:Ok Tryz.prog k176:=by
 refine okL [.tmp 4] Tryz.func176 Tryz.ntmps176 Tryz.results176 ?_
 intro y ⟨a0,a1,_⟩ r H Q hn hr
 have:HT _ _:=⟨tc o190 tn⟩
 refine qA (Z [p 0 (L Ty.str a0),p 1 (U a1)] []) <|
  qD (fun v0=>Z [p 4 (B (decide (0≤v0)))] []) H fun v0 H =>
  vx_ret<|hr H
def u172 (a0:ByteArray):Option (Bool) :=
 gd ((u120 (↑a0.size:Int) (1:Int) (8:Int)).isSome=true∧(vl (u120 (↑a0.size:Int) (1:Int) (8:Int))=true∧True→(u182 a0 (ByteArray.mk #[(97:UInt8),(98:UInt8),(99:UInt8),(100:UInt8),(101:UInt8),(102:UInt8),(103:UInt8),(104:UInt8),(105:UInt8),(106:UInt8),(107:UInt8),(108:UInt8),(109:UInt8),(110:UInt8),(111:UInt8),(112:UInt8),(113:UInt8),(114:UInt8),(115:UInt8),(116:UInt8),(117:UInt8),(118:UInt8),(119:UInt8),(120:UInt8),(121:UInt8),(122:UInt8),(48:UInt8),(49:UInt8),(50:UInt8),(51:UInt8),(52:UInt8),(53:UInt8),(54:UInt8),(55:UInt8),(56:UInt8),(57:UInt8)])).isSome=true)∧((vl (u120 (↑a0.size:Int) (1:Int) (8:Int))&&decide (vl (u182 a0 (ByteArray.mk #[(97:UInt8),(98:UInt8),(99:UInt8),(100:UInt8),(101:UInt8),(102:UInt8),(103:UInt8),(104:UInt8),(105:UInt8),(106:UInt8),(107:UInt8),(108:UInt8),(109:UInt8),(110:UInt8),(111:UInt8),(112:UInt8),(113:UInt8),(114:UInt8),(115:UInt8),(116:UInt8),(117:UInt8),(118:UInt8),(119:UInt8),(120:UInt8),(121:UInt8),(122:UInt8),(48:UInt8),(49:UInt8),(50:UInt8),(51:UInt8),(52:UInt8),(53:UInt8),(54:UInt8),(55:UInt8),(56:UInt8),(57:UInt8)]))=ByteArray.mk #[]))=true∧True→ix (0:Int) a0.size)∧((vl (u120 (↑a0.size:Int) (1:Int) (8:Int))&&decide (vl (u182 a0 (ByteArray.mk #[(97:UInt8),(98:UInt8),(99:UInt8),(100:UInt8),(101:UInt8),(102:UInt8),(103:UInt8),(104:UInt8),(105:UInt8),(106:UInt8),(107:UInt8),(108:UInt8),(109:UInt8),(110:UInt8),(111:UInt8),(112:UInt8),(113:UInt8),(114:UInt8),(115:UInt8),(116:UInt8),(117:UInt8),(118:UInt8),(119:UInt8),(120:UInt8),(121:UInt8),(122:UInt8),(48:UInt8),(49:UInt8),(50:UInt8),(51:UInt8),(52:UInt8),(53:UInt8),(54:UInt8),(55:UInt8),(56:UInt8),(57:UInt8)]))=ByteArray.mk #[]))=true∧True→(u183 (ByteArray.mk #[(97:UInt8),(98:UInt8),(99:UInt8),(100:UInt8),(101:UInt8),(102:UInt8),(103:UInt8),(104:UInt8),(105:UInt8),(106:UInt8),(107:UInt8),(108:UInt8),(109:UInt8),(110:UInt8),(111:UInt8),(112:UInt8),(113:UInt8),(114:UInt8),(115:UInt8),(116:UInt8),(117:UInt8),(118:UInt8),(119:UInt8),(120:UInt8),(121:UInt8),(122:UInt8)]) (byteAt a0 (Int.toNat (0:Int)))).isSome=true)∧True)<|lt ((vl (u182 a0 (ByteArray.mk #[97,98,99,100,101,102,103,104,105,106,107,108,109,110,111,112,113,114,115,116,117,118,119,120,121,122,48,49,50,51,52,53,54,55,56,57])),vl (u183 (ByteArray.mk #[(97:UInt8),(98:UInt8),(99:UInt8),(100:UInt8),(101:UInt8),(102:UInt8),(103:UInt8),(104:UInt8),(105:UInt8),(106:UInt8),(107:UInt8),(108:UInt8),(109:UInt8),(110:UInt8),(111:UInt8),(112:UInt8),(113:UInt8),(114:UInt8),(115:UInt8),(116:UInt8),(117:UInt8),(118:UInt8),(119:UInt8),(120:UInt8),(121:UInt8),(122:UInt8)]) (byteAt a0 (Int.toNat (0:Int)))))) fun (v0,v1) =>
 some (vl (u120 (↑a0.size:Int) 1 8)&&decide (v0=ByteArray.mk #[])&&decide (0≤v1))
def k172:Ct:=lct 172 [.dat Ty.str] (fun x=>u172 x.1) (fun r:Bool=>B r) (fun _=>())
theorem o172:Ok Tryz.prog k172:=by
 refine okL [.tmp 2] Tryz.func172 Tryz.ntmps172 Tryz.results172 ?_
 intro y ⟨a0,_⟩ r H Q hn hr
 have:HT _ _:=⟨tc o183 (tc o182 (tc o120 tn))⟩
 refine qA (Z [p 0 (U a0)] []) <|
  qD (fun (v0,v1)=>Z [p 2 (B (vl (u120 (↑a0.size:Int) 1 8)&&decide (v0=ByteArray.mk #[])&&decide (0≤v1)))] []) H fun ⟨v0,v1⟩ H =>
  vx_ret<|hr H
def u157J0:Unit→Option (Bool)
 | _ =>
 some true
def u157L1 (a0:List ByteArray) (g1:Int→Option (Bool)):Int→Option (Bool)
 | v0 =>
 if (decide (v0 < (↑a0.length:Int)))=true then
  gd (ix v0 a0.length∧True) <|
  gd ((u172 (a0.getD v0.toNat (dflt Ty.str))).isSome=true∧((!vl (u172 (a0.getD v0.toNat (dflt Ty.str))))=false∧True→(0:Int)≤(0:Int)∧(0:Int)≤v0∧v0≤(↑a0.length:Int))∧((!vl (u172 (a0.getD v0.toNat (dflt Ty.str))))=false∧True→(u176 (List.take v0.toNat a0) (a0.getD v0.toNat (dflt Ty.str))).isSome=true)∧True) <|
  if (!vl (u172 (a0.getD v0.toNat (dflt Ty.str)))||vl (u176 (List.take v0.toNat a0) (a0.getD v0.toNat (dflt Ty.str))))=true then
   some false
  else
   gd (in64 (v0+1)∧True) <|
   g1 (v0+1)
 else
  u157J0 ()
def u157 (a0:List ByteArray):Option (Bool) :=
 lp (u157L1 a0) 0
def k157:Ct:=lct 157 [.dat Ty.str.sl] (fun x=>u157 x.1) (fun r:Bool=>B r) (fun _=>())
theorem o157:Ok Tryz.prog k157:=by
 refine okL [.tmp 2] Tryz.func157 Tryz.ntmps157 Tryz.results157 ?_
 intro y ⟨a0,_⟩ r H Q hn hr
 have:HT _ _:=⟨tc o176 (tc o172 tn)⟩
 refine qA (Z [p 0 (L Ty.str a0)] []) <|
  jN r (fun (_:Unit)=>Z [] []) (u157J0) (fun _ H=>?_) (fun _ n0 e0 t0=>?_)
 ·refine qA (Z [p 2 (B true)] []) <|
   vx_ret<|hr H
 refine qA (Z [p 0 (L Ty.str a0),p 5 (L Ty.str a0),p 6 (I (↑a0.length:Int)),p 7 (I 0)] []) <|
  vx_block <|
  lX (fun (v0:Int)=>Z [p 0 (L Ty.str a0),p 5 (L Ty.str a0),p 6 (I (↑a0.length:Int)),p 7 (I v0)] []) 0 H fun _ g1 b1 e1 t1 v0 H =>
  qA (Z [p 0 (L Ty.str a0),p 5 (L Ty.str a0),p 6 (I (↑a0.length:Int)),p 7 (I v0),p 8 (B (decide (v0 < (↑a0.length:Int))))] []) <|
  vx_seq <|
  cD H (fun H=>?_) (fun H=>?_)
 ·refine vx_skip<|fx_seq<|vx_seq<|vx_block <|
   qB (Z [p 0 (L Ty.str a0),p 3 (I v0),p 4 (U (a0.getD v0.toNat (dflt Ty.str))),p 5 (L Ty.str a0),p 6 (I (↑a0.length:Int)),p 7 (I v0)] []) H fun H =>
   qB (Z [p 0 (L Ty.str a0),p 5 (L Ty.str a0),p 6 (I (↑a0.length:Int)),p 7 (I v0),p 21 (B (!vl (u172 (a0.getD v0.toNat (dflt Ty.str)))||vl (u176 (List.take v0.toNat a0) (a0.getD v0.toNat (dflt Ty.str)))))] []) H fun H =>
   cD H (fun H=>?_) (fun H=>?_)
  ·refine qA (Z [p 2 (B false)] []) <|
    vx_ret<|fx_blk_ret<|fx_seq_ret<|t1<|fx_blk_ret<|t0<|hr H
  refine vx_skip<|fx_blk<|fx_seq <|
   zB (Z [p 0 (L Ty.str a0),p 5 (L Ty.str a0),p 6 (I (↑a0.length:Int)),p 7 (I (v0+1))] []) H fun H =>
   b1 H
 exact vx_exit<|fx_seq_exit<|e1<|fx_blk_exit rfl<|n0 H
def u132J2 (v4:List ByteArray) (a0:Y43):List ByteArray→Option (Bool)
 | v9 =>
 gd (((decide ((↑v4.length:Int)≤14)&&decide ((↑a0.2.1.length:Int)≤30)&&decide ((↑v9.length:Int)≤8))=true∧True→(u157 v4).isSome=true)∧((decide ((↑v4.length:Int)≤14)&&decide ((↑a0.2.1.length:Int)≤30)&&decide ((↑v9.length:Int)≤8)&&vl (u157 v4))=true∧True→(u157 a0.2.1).isSome=true)∧((decide ((↑v4.length:Int)≤14)&&decide ((↑a0.2.1.length:Int)≤30)&&decide ((↑v9.length:Int)≤8)&&vl (u157 v4)&&vl (u157 a0.2.1))=true∧True→(u157 v9).isSome=true)∧True) <|
 some (decide ((↑v4.length:Int)≤14)&&decide ((↑a0.2.1.length:Int)≤30)&&decide ((↑v9.length:Int)≤8)&&vl (u157 v4)&&vl (u157 a0.2.1)&&vl (u157 v9))
def u132L3 (a0:Y43) (v4:List ByteArray) (g3:List ByteArray×Int→Option (Bool)):List ByteArray×Int→Option (Bool)
 | (v6,v7) =>
 if (decide (v7 < (↑a0.2.2.length:Int)))=true then
  gd (ix v7 a0.2.2.length∧True)<|lt (a0.2.2.getD v7.toNat (dflt y172)) fun v8 =>
  gd ((v6.length+[v8.1].length≤9223372036854775807∧(v6.length+[v8.1].length)*16≤140737488355328)∧True) <|
  gd (in64 (v7+1)∧True) <|
  g3 (v6++[v8.1],v7+1)
 else
  u132J2 v4 a0 v6
def u132J0 (a0:Y43):List ByteArray→Option (Bool)
 | v4 =>
 lp (u132L3 a0 v4) ([],0)
def u132L1 (a0:Y43) (g1:List ByteArray×Int→Option (Bool)):List ByteArray×Int→Option (Bool)
 | (v1,v2) =>
 if (decide (v2 < (↑a0.1.length:Int)))=true then
  gd (ix v2 a0.1.length∧True)<|lt (a0.1.getD v2.toNat (dflt y136)) fun v3 =>
  gd ((v1.length+[v3.1].length≤9223372036854775807∧(v1.length+[v3.1].length)*16≤140737488355328)∧True) <|
  gd (in64 (v2+1)∧True) <|
  g1 (v1++[v3.1],v2+1)
 else
  u132J0 a0 v1
def u132 (a0:Y43):Option (Bool) :=
 lp (u132L1 a0) ([],0)
def k132:Ct:=lct 132 [.agg y43] (fun x=>u132 x.1) (fun r:Bool=>B r) (fun _=>())
theorem o132:Ok Tryz.prog k132:=by
 refine okL [.tmp 2] Tryz.func132 Tryz.ntmps132 Tryz.results132 ?_
 intro y ⟨a0,_⟩ r H Q hn hr
 have:HT _ _:=⟨tc o157 tn⟩
 refine qA (Z [p 1 (R 1)] [(1,K 43 y43 a0)]) <|
  qA (Z [p 1 (R 1),p 3 (nil),p 4 (nil)] [(1,K 43 y43 a0)]) <|
  jN r (fun (v4:List ByteArray)=>Z [p 1 (R 1),p 3 (O 20),p 4 (nil)] [(1,K 43 y43 a0),(20,A 9 Ty.str v4 0)]) (u132J0 a0) (fun v4 H=>?_) (fun _ n0 e0 t0=>?_)
 ·refine jN r (fun (v9:List ByteArray)=>Z [p 1 (R 1),p 3 (O 20),p 4 (O 33)] [(1,K 43 y43 a0),(20,A 9 Ty.str v4 0),(33,A 9 Ty.str v9 0)]) (u132J2 v4 a0) (fun v9 H=>?_) (fun _ n2 e2 t2=>?_)
  ·refine qB (Z [p 2 (B (decide ((↑v4.length:Int)≤14)&&decide ((↑a0.2.1.length:Int)≤30)&&decide ((↑v9.length:Int)≤8)&&vl (u157 v4)&&vl (u157 a0.2.1)&&vl (u157 v9)))] [(1,K 43 y43 a0),(20,A 9 Ty.str v4 0),(33,A 9 Ty.str v9 0)]) H fun H =>
    vx_ret<|hr H
  refine qA (Z [p 1 (R 1),p 3 (O 20),p 4 (nil),p 23 (L y172 a0.2.2),p 24 (I (↑a0.2.2.length:Int)),p 25 (I 0)] [(1,K 43 y43 a0),(20,A 9 Ty.str v4 0)]) <|
   vx_block <|
   lX (fun ((v6,v7):List ByteArray×Int)=>Z [p 1 (R 1),p 3 (O 20),p 4 (O 33),p 23 (L y172 a0.2.2),p 24 (I (↑a0.2.2.length:Int)),p 25 (I v7)] [(1,K 43 y43 a0),(20,A 9 Ty.str v4 0),(33,A 9 Ty.str v6 0)]) ([],0) H fun _ g3 b3 e3 t3 ⟨v6,v7⟩ H =>
   qA (Z [p 1 (R 1),p 3 (O 20),p 4 (O 33),p 23 (L y172 a0.2.2),p 24 (I (↑a0.2.2.length:Int)),p 25 (I v7),p 26 (B (decide (v7 < (↑a0.2.2.length:Int))))] [(1,K 43 y43 a0),(20,A 9 Ty.str v4 0),(33,A 9 Ty.str v6 0)]) <|
   vx_seq <|
   cD H (fun H=>?_) (fun H=>?_)
  ·refine vx_skip<|fx_seq<|vx_seq<|vx_block <|
    qD (fun v8=>Z [p 1 (R 1),p 3 (O 20),p 4 (O 33),p 8 (R 8),p 23 (L y172 a0.2.2),p 24 (I (↑a0.2.2.length:Int)),p 25 (I v7)] [(8,K 172 y172 v8),(1,K 43 y43 a0),(20,A 9 Ty.str v4 0),(33,A 9 Ty.str v6 0)]) H fun v8 H =>
    zB (Z [p 1 (R 1),p 3 (O 20),p 4 (AV.os 33 1),p 23 (L y172 a0.2.2),p 24 (I (↑a0.2.2.length:Int)),p 25 (I v7)] [(33,A 9 Ty.str (v6++[v8.1]) 1),(32,A 9 Ty.str [v8.1] 0),(8,K 172 y172 v8),(1,K 43 y43 a0),(20,A 9 Ty.str v4 0)]) H fun H =>
    fx_blk<|fx_seq <|
    zB (Z [p 1 (R 1),p 3 (O 20),p 4 (AV.os 33 1),p 23 (L y172 a0.2.2),p 24 (I (↑a0.2.2.length:Int)),p 25 (I (v7+1))] [(33,A 9 Ty.str (v6++[v8.1]) 1),(32,A 9 Ty.str [v8.1] 0),(8,K 172 y172 v8),(1,K 43 y43 a0),(20,A 9 Ty.str v4 0)]) H fun H =>
    b3 H
  exact vx_exit<|fx_seq_exit<|e3<|fx_blk_exit rfl<|n2 H
 refine qA (Z [p 1 (R 1),p 3 (nil),p 4 (nil),p 10 (L y136 a0.1),p 11 (I (↑a0.1.length:Int)),p 12 (I 0)] [(1,K 43 y43 a0)]) <|
  vx_block <|
  lX (fun ((v1,v2):List ByteArray×Int)=>Z [p 1 (R 1),p 3 (O 20),p 4 (nil),p 10 (L y136 a0.1),p 11 (I (↑a0.1.length:Int)),p 12 (I v2)] [(1,K 43 y43 a0),(20,A 9 Ty.str v1 0)]) ([],0) H fun _ g1 b1 e1 t1 ⟨v1,v2⟩ H =>
  qA (Z [p 1 (R 1),p 3 (O 20),p 4 (nil),p 10 (L y136 a0.1),p 11 (I (↑a0.1.length:Int)),p 12 (I v2),p 13 (B (decide (v2 < (↑a0.1.length:Int))))] [(1,K 43 y43 a0),(20,A 9 Ty.str v1 0)]) <|
  vx_seq <|
  cD H (fun H=>?_) (fun H=>?_)
 ·refine vx_skip<|fx_seq<|vx_seq<|vx_block <|
   qD (fun v3=>Z [p 1 (R 1),p 3 (O 20),p 4 (nil),p 6 (R 6),p 10 (L y136 a0.1),p 11 (I (↑a0.1.length:Int)),p 12 (I v2)] [(6,K 136 y136 v3),(1,K 43 y43 a0),(20,A 9 Ty.str v1 0)]) H fun v3 H =>
   zB (Z [p 1 (R 1),p 3 (AV.os 20 1),p 4 (nil),p 10 (L y136 a0.1),p 11 (I (↑a0.1.length:Int)),p 12 (I v2)] [(20,A 9 Ty.str (v1++[v3.1]) 1),(19,A 9 Ty.str [v3.1] 0),(6,K 136 y136 v3),(1,K 43 y43 a0)]) H fun H =>
   fx_blk<|fx_seq <|
   zB (Z [p 1 (R 1),p 3 (AV.os 20 1),p 4 (nil),p 10 (L y136 a0.1),p 11 (I (↑a0.1.length:Int)),p 12 (I (v2+1))] [(20,A 9 Ty.str (v1++[v3.1]) 1),(19,A 9 Ty.str [v3.1] 0),(6,K 136 y136 v3),(1,K 43 y43 a0)]) H fun H =>
   b1 H
 exact vx_exit<|fx_seq_exit<|e1<|fx_blk_exit rfl<|n0 H
def u208 (a0:Y139) (a1:Int):Option (Bool) :=
 some (a0.1==a1)
def k208:Ct:=lct 208 [.agg y139,.dat (.pt i64)] (fun x=>u208 x.1 x.2.1) (fun r:Bool=>B r) (fun _=>())
theorem o208:Ok Tryz.prog k208:=by
 refine okL [.tmp 3] Tryz.func208 Tryz.ntmps208 Tryz.results208 ?_
 intro y ⟨a0,a1,_⟩ r H Q hn hr
 have:HT _ _:=⟨@tn Tryz.prog⟩
 refine qA (Z [p 1 (D i64.pt a1),p 2 (R 2)] [(2,K 139 y139 a0)]) <|
  qA (Z [p 3 (B (a0.1==a1))] [(2,K 139 y139 a0)]) <|
  vx_ret<|hr H
def u207c208J0:Unit→Option (Int)
 | _ =>
 some (-1)
def u207c208L1 (a0:List Y139) (a1:Int) (g1:Int→Option (Int)):Int→Option (Int)
 | v0 =>
 if (decide (v0 < (↑a0.length:Int)))=true then
  gd (ix v0 a0.length∧(u208 (a0.getD v0.toNat (dflt y139)) a1).isSome=true∧True) <|
  if (vl (u208 (a0.getD v0.toNat (dflt y139)) a1))=true then
   some v0
  else
   gd (in64 (v0+1)∧True) <|
   g1 (v0+1)
 else
  u207c208J0 ()
def u207c208 (a0:List Y139) (a1:Int):Option (Int) :=
 lp (u207c208L1 a0 a1) 0
def k207c208:Ct:=lct 207 [.dat y139.sl,.fn 208 i64.pt] (fun x=>u207c208 x.1 x.2.1) (fun r:Int=>I r) (fun _=>())
theorem o207c208:Ok Tryz.prog k207c208:=by
 refine okL [.tmp 4] Tryz.func207 Tryz.ntmps207 Tryz.results207 ?_
 intro y ⟨a0,a1,_⟩ r H Q hn hr
 have:HT _ _:=⟨tc o208 tn⟩
 refine qA (Z [p 0 (L y139 a0),p 1 (AV.fn 208 [D i64.pt a1])] []) <|
  jN r (fun (_:Unit)=>Z [] []) (u207c208J0) (fun _ H=>?_) (fun _ n0 e0 t0=>?_)
 ·refine qA (Z [p 4 (I (-1))] []) <|
   vx_ret<|hr H
 refine qA (Z [p 0 (L y139 a0),p 1 (AV.fn 208 [D i64.pt a1]),p 7 (I (↑a0.length:Int)),p 8 (I 0)] []) <|
  vx_block <|
  lX (fun (v0:Int)=>Z [p 0 (L y139 a0),p 1 (AV.fn 208 [D i64.pt a1]),p 7 (I (↑a0.length:Int)),p 8 (I v0)] []) 0 H fun _ g1 b1 e1 t1 v0 H =>
  qA (Z [p 0 (L y139 a0),p 1 (AV.fn 208 [D i64.pt a1]),p 7 (I (↑a0.length:Int)),p 8 (I v0),p 9 (B (decide (v0 < (↑a0.length:Int))))] []) <|
  vx_seq <|
  cD H (fun H=>?_) (fun H=>?_)
 ·refine vx_skip<|fx_seq<|vx_seq<|vx_block <|
   qA (Z [p 0 (L y139 a0),p 1 (AV.fn 208 [D i64.pt a1]),p 5 (I v0),p 7 (I (↑a0.length:Int)),p 8 (I v0)] []) <|
   qB (Z [p 0 (L y139 a0),p 1 (AV.fn 208 [D i64.pt a1]),p 5 (I v0),p 7 (I (↑a0.length:Int)),p 8 (I v0),p 16 (B (vl (u208 (a0.getD v0.toNat (dflt y139)) a1)))] []) H fun H =>
   cD H (fun H=>?_) (fun H=>?_)
  ·refine qA (Z [p 4 (I v0)] []) <|
    vx_ret<|fx_blk_ret<|fx_seq_ret<|t1<|fx_blk_ret<|t0<|hr H
  refine vx_skip<|fx_blk<|fx_seq <|
   zB (Z [p 0 (L y139 a0),p 1 (AV.fn 208 [D i64.pt a1]),p 7 (I (↑a0.length:Int)),p 8 (I (v0+1))] []) H fun H =>
   b1 H
 exact vx_exit<|fx_seq_exit<|e1<|fx_blk_exit rfl<|n0 H
def u186c208 (a0:List Y139) (a1:Int):Option (Bool) :=
 gd ((u207c208 a0 a1).isSome=true∧True)<|lt (vl (u207c208 a0 a1)) fun v0 =>
 some (decide (0≤v0))
def k186c208:Ct:=lct 186 [.dat y139.sl,.fn 208 (.pt i64)] (fun x=>u186c208 x.1 x.2.1) (fun r:Bool=>B r) (fun _=>())
theorem o186c208:Ok Tryz.prog k186c208:=by
 refine okL [.tmp 4] Tryz.func186 Tryz.ntmps186 Tryz.results186 ?_
 intro y ⟨a0,a1,_⟩ r H Q hn hr
 have:HT _ _:=⟨tc o207c208 (tc o208 tn)⟩
 refine qA (Z [p 0 (L y139 a0),p 1 (AV.fn 208 [D i64.pt a1])] []) <|
  qD (fun v0=>Z [p 4 (B (decide (0≤v0)))] []) H fun v0 H =>
  vx_ret<|hr H
def u189 (a0:Y134) (a1:Int):Option (Bool) :=
 gd ((u186c208 a0.2.2.2.1 a1).isSome=true∧True) <|
 some (vl (u186c208 a0.2.2.2.1 a1))
def k189:Ct:=lct 189 [.agg y134,.dat i64] (fun x=>u189 x.1 x.2.1) (fun r:Bool=>B r) (fun _=>())
theorem o189:Ok Tryz.prog k189:=by
 refine okL [.tmp 4] Tryz.func189 Tryz.ntmps189 Tryz.results189 ?_
 intro y ⟨a0,a1,_⟩ r H Q hn hr
 have:HT _ _:=⟨tc o186c208 (tc o208 tn)⟩
 refine qA (Z [p 2 (R 2),p 3 (R 3)] [(3,Ob.box 2 [J a1]),(2,K 134 y134 a0)]) <|
  qB (Z [p 4 (B (vl (u186c208 a0.2.2.2.1 a1)))] [(3,Ob.box 2 [J a1]),(2,K 134 y134 a0)]) H fun H =>
  vx_ret<|hr H
def u184 (a0:List Y205):Option (Int) :=
 some (↑a0.length:Int)
def k184:Ct:=lct 184 [.dat y205.sl] (fun x=>u184 x.1) (fun r:Int=>I r) (fun _=>())
theorem o184:Ok Tryz.prog k184:=by
 refine okL [.tmp 2] Tryz.func184 Tryz.ntmps184 Tryz.results184 ?_
 intro y ⟨a0,_⟩ r H Q hn hr
 have:HT _ _:=⟨@tn Tryz.prog⟩
 refine qA (Z [p 0 (L y205 a0)] []) <|
  qA (Z [p 2 (I (↑a0.length:Int))] []) <|
  vx_ret<|hr H
def u188 (a0:Y134):Option (Int) :=
 gd ((u184 a0.2.2.1).isSome=true∧in64 (vl (u184 a0.2.2.1) - 1)∧True)<|lt (vl (u184 a0.2.2.1)) fun v0 =>
 some (v0 - 1)
def k188:Ct:=lct 188 [.agg y134] (fun x=>u188 x.1) (fun r:Int=>I r) (fun _=>())
theorem o188:Ok Tryz.prog k188:=by
 refine okL [.tmp 2] Tryz.func188 Tryz.ntmps188 Tryz.results188 ?_
 intro y ⟨a0,_⟩ r H Q hn hr
 have:HT _ _:=⟨tc o184 tn⟩
 refine qA (Z [p 1 (R 1)] [(1,K 134 y134 a0)]) <|
  qD (fun v0=>Z [p 2 (I (v0 - 1))] [(1,K 134 y134 a0)]) H fun v0 H =>
  vx_ret<|hr H
def u175J0 (a0:Y134):Int→Option (Bool)
 | v6 =>
 if (a0.2.1==1)=true then
  gd (((v6==0)=true∧True→(u188 a0).isSome=true)∧((v6==0)=true∧True→(0≤vl (u188 a0)∧vl (u188 a0)≤62)∧in64 (1*2 ^ (vl (u188 a0)).toNat))∧((v6==0&&(↑a0.2.2.2.2.1.length:Int)==1*2 ^ (vl (u188 a0)).toNat)=true∧True→(u137 a0.2.2.2.2.1 0 1).isSome=true)∧True)<|lt (vl (u188 a0)) fun v7 =>
  some (v6==0&&(↑a0.2.2.2.2.1.length:Int)==1*2 ^ v7.toNat&&vl (u137 a0.2.2.2.2.1 0 1))
 else
  if (a0.2.1==2)=true then
   gd (((v6==1&&(↑a0.2.2.2.2.1.length:Int)==0)=true∧True→(u189 a0 1).isSome=true)∧((v6==1&&(↑a0.2.2.2.2.1.length:Int)==0&&!vl (u189 a0 1))=true∧True→(u189 a0 2).isSome=true)∧((v6==1&&(↑a0.2.2.2.2.1.length:Int)==0&&!vl (u189 a0 1))=true∧True→(u189 a0 3).isSome=true)∧True) <|
   some (v6==1&&(↑a0.2.2.2.2.1.length:Int)==0&&!vl (u189 a0 1)&&!vl (u189 a0 2)==vl (u189 a0 3))
  else
   if (a0.2.1==3)=true then
    gd (((v6==1&&(↑a0.2.2.2.2.1.length:Int)==0)=true∧True→(u189 a0 1).isSome=true)∧((v6==1&&(↑a0.2.2.2.2.1.length:Int)==0&&vl (u189 a0 1))=true∧True→(u189 a0 2).isSome=true)∧((v6==1&&(↑a0.2.2.2.2.1.length:Int)==0&&vl (u189 a0 1)&&vl (u189 a0 2))=true∧True→(u189 a0 3).isSome=true)∧True) <|
    some (v6==1&&(↑a0.2.2.2.2.1.length:Int)==0&&vl (u189 a0 1)&&vl (u189 a0 2)&&!vl (u189 a0 3))
   else
    some false
def u175J2 (v3:Int) (g1:Int×Int→Option (Bool)):Int→Option (Bool)
 | v5 =>
 gd (in64 (v3+1)∧True) <|
 g1 (v5,v3+1)
def u175L1 (a0:Y134) (g1:Int×Int→Option (Bool)):Int×Int→Option (Bool)
 | (v2,v3) =>
 if (decide (v3 < (↑a0.2.2.1.length:Int)))=true then
  gd (ix v3 a0.2.2.1.length∧True)<|lt (a0.2.2.1.getD v3.toNat (dflt y205)) fun v4 =>
  if v4.2.2.2=true then
   gd (in64 (v2+1)∧True) <|
   u175J2 v3 g1 (v2+1)
  else
   u175J2 v3 g1 v2
 else
  u175J0 a0 v2
def u175 (a0:Y134):Option (Bool) :=
 lp (u175L1 a0) (0,0)
def k175:Ct:=lct 175 [.agg y134] (fun x=>u175 x.1) (fun r:Bool=>B r) (fun _=>())
theorem o175:Ok Tryz.prog k175:=by
 refine okL [.tmp 2] Tryz.func175 Tryz.ntmps175 Tryz.results175 ?_
 intro y ⟨a0,_⟩ r H Q hn hr
 have:HT _ _:=⟨tc o189 (tc o137 (tc o188 tn))⟩
 refine qA (Z [p 1 (R 1)] [(1,K 134 y134 a0)]) <|
  qA (Z [p 1 (R 1),p 3 (I 0)] [(1,K 134 y134 a0)]) <|
  jN r (fun (v6:Int)=>Z [p 1 (R 1),p 3 (I v6)] [(1,K 134 y134 a0)]) (u175J0 a0) (fun v6 H=>?_) (fun _ n0 e0 t0=>?_)
 ·refine vx_seq <|
   qA (Z [p 1 (R 1),p 3 (I v6),p 19 (J a0.2.1)] [(1,K 134 y134 a0)]) <|
   vx_block <|
   qA (Z [p 1 (R 1),p 3 (I v6),p 19 (J a0.2.1),p 20 (B (a0.2.1==1))] [(1,K 134 y134 a0)]) <|
   cD H (fun H=>?_) (fun H=>?_)
  ·refine qD (fun v7=>Z [p 2 (B (v6==0&&(↑a0.2.2.2.2.1.length:Int)==1*2 ^ v7.toNat&&vl (u137 a0.2.2.2.2.1 0 1)))] [(1,K 134 y134 a0)]) H fun v7 H =>
    vx_ret<|fx_blk_ret<|fx_seq_ret<|hr H
  refine qA (Z [p 1 (R 1),p 3 (I v6),p 19 (J a0.2.1),p 38 (B (a0.2.1==2))] [(1,K 134 y134 a0)]) <|
   cD H (fun H=>?_) (fun H=>?_)
  ·refine qB (Z [p 2 (B (v6==1&&(↑a0.2.2.2.2.1.length:Int)==0&&!vl (u189 a0 1)&&!vl (u189 a0 2)==vl (u189 a0 3)))] [(1,K 134 y134 a0)]) H fun H =>
    vx_ret<|fx_blk_ret<|fx_seq_ret<|hr H
  refine qA (Z [p 1 (R 1),p 3 (I v6),p 60 (B (a0.2.1==3))] [(1,K 134 y134 a0)]) <|
   cD H (fun H=>?_) (fun H=>?_)
  ·refine qB (Z [p 2 (B (v6==1&&(↑a0.2.2.2.2.1.length:Int)==0&&vl (u189 a0 1)&&vl (u189 a0 2)&&!vl (u189 a0 3)))] [(1,K 134 y134 a0)]) H fun H =>
    vx_ret<|fx_blk_ret<|fx_seq_ret<|hr H
  refine vx_skip<|fx_blk<|fx_seq <|
   qA (Z [p 2 (B false)] [(1,K 134 y134 a0)]) <|
   vx_ret<|hr H
 refine qA (Z [p 1 (R 1),p 3 (I 0),p 7 (L y205 a0.2.2.1),p 8 (I (↑a0.2.2.1.length:Int)),p 9 (I 0)] [(1,K 134 y134 a0)]) <|
  vx_block <|
  lX (fun ((v2,v3):Int×Int)=>Z [p 1 (R 1),p 3 (I v2),p 7 (L y205 a0.2.2.1),p 8 (I (↑a0.2.2.1.length:Int)),p 9 (I v3)] [(1,K 134 y134 a0)]) (0,0) H fun _ g1 b1 e1 t1 ⟨v2,v3⟩ H =>
  qA (Z [p 1 (R 1),p 3 (I v2),p 7 (L y205 a0.2.2.1),p 8 (I (↑a0.2.2.1.length:Int)),p 9 (I v3),p 10 (B (decide (v3 < (↑a0.2.2.1.length:Int))))] [(1,K 134 y134 a0)]) <|
  vx_seq <|
  cD H (fun H=>?_) (fun H=>?_)
 ·refine vx_skip<|fx_seq <|
   jN r (fun (v5:Int)=>Z [p 1 (R 1),p 3 (I v5),p 7 (L y205 a0.2.2.1),p 8 (I (↑a0.2.2.1.length:Int)),p 9 (I v3)] [(1,K 134 y134 a0)]) (u175J2 v3 g1) (fun v5 H=>?_) (fun _ n2 e2 t2=>?_)
  ·refine zB (Z [p 1 (R 1),p 3 (I v5),p 7 (L y205 a0.2.2.1),p 8 (I (↑a0.2.2.1.length:Int)),p 9 (I (v3+1))] [(1,K 134 y134 a0)]) H fun H =>
    b1 H
  refine vx_block <|
   qD (fun v4=>Z [p 1 (R 1),p 3 (I v2),p 5 (R 5),p 7 (L y205 a0.2.2.1),p 8 (I (↑a0.2.2.1.length:Int)),p 9 (I v3)] [(5,K 205 y205 v4),(1,K 134 y134 a0)]) H fun v4 H =>
   qA (Z [p 1 (R 1),p 3 (I v2),p 7 (L y205 a0.2.2.1),p 8 (I (↑a0.2.2.1.length:Int)),p 9 (I v3),p 14 (C v4.2.2.2)] [(5,K 205 y205 v4),(1,K 134 y134 a0)]) <|
   cD H (fun H=>?_) (fun H=>?_)
  ·refine zB (Z [p 1 (R 1),p 3 (I (v2+1)),p 7 (L y205 a0.2.2.1),p 8 (I (↑a0.2.2.1.length:Int)),p 9 (I v3)] [(5,K 205 y205 v4),(1,K 134 y134 a0)]) H fun H =>
    fx_blk<|n2 H
  exact vx_skip<|fx_blk<|n2 H
 exact vx_exit<|fx_seq_exit<|e1<|fx_blk_exit rfl<|n0 H
def u206 (a0:Y134) (a1:Int):Option (Bool) :=
 gd ((u188 a0).isSome=true∧in64 (vl (u188 a0) - 1)∧(u120 a1 0 (vl (u188 a0) - 1)).isSome=true∧True) <|
 some (vl (u120 a1 0 (vl (u188 a0) - 1)))
def k206:Ct:=lct 206 [.agg y134,.dat i64] (fun x=>u206 x.1 x.2.1) (fun r:Bool=>B r) (fun _=>())
theorem o206:Ok Tryz.prog k206:=by
 refine okL [.tmp 4] Tryz.func206 Tryz.ntmps206 Tryz.results206 ?_
 intro y ⟨a0,a1,_⟩ r H Q hn hr
 have:HT _ _:=⟨tc o120 (tc o188 tn)⟩
 refine qA (Z [p 1 (J a1),p 2 (R 2)] [(2,K 134 y134 a0)]) <|
  qB (Z [p 4 (B (vl (u120 a1 0 (vl (u188 a0) - 1))))] [(2,K 134 y134 a0)]) H fun H =>
  vx_ret<|hr H
def u218J1:Int→Option (Int)
 | v3 =>
 some v3
def u218L2 (a0:List Int) (g2:Int×Int→Option (Int)):Int×Int→Option (Int)
 | (v1,v2) =>
 if (decide (v2 < (↑a0.length:Int)))=true then
  gd (ix v2 a0.length∧True) <|
  gd (in64 (v2+1)∧True) <|
  g2 ((min v1 (a0.getD v2.toNat 0),v2+1))
 else
  u218J1 v1
def u218J0 (a0:List Int):Unit→Option (Int)
 | _ =>
 gd (ix 0 a0.length∧True) <|
 lp (u218L2 a0) ((a0.getD (Int.toNat (0:Int)) (0:Int),1))
def u218 (a0:List Int):Option (Int) :=
 if (decide ((↑a0.length:Int) < 1))=true then
  none
 else
  u218J0 a0 ()
def k218:Ct:=lct 218 [.dat i64.sl] (fun x=>u218 x.1) (fun r:Int=>I r) (fun _=>())
theorem o218:Ok Tryz.prog k218:=by
 refine okL [.tmp 2] Tryz.func218 Tryz.ntmps218 Tryz.results218 ?_
 intro y ⟨a0,_⟩ r H Q hn hr
 have:HT _ _:=⟨@tn Tryz.prog⟩
 refine qA (Z [p 0 (L i64 a0)] []) <|
  jN r (fun (_:Unit)=>Z [p 0 (L i64 a0)] []) (u218J0 a0) (fun _ H=>?_) (fun _ n0 e0 t0=>?_)
 ·refine qB (Z [p 0 (L i64 a0),p 3 (J (a0.getD (Int.toNat (0:Int)) (0:Int)))] []) H fun H =>
   jN r (fun (v3:Int)=>Z [p 3 (J v3)] []) (u218J1) (fun v3 H=>?_) (fun _ n1 e1 t1=>?_)
  ·refine qA (Z [p 2 (J v3)] []) <|
    vx_ret<|hr H
  refine qA (Z [p 0 (L i64 a0),p 3 (J (a0.getD (Int.toNat (0:Int)) (0:Int))),p 4 (I (1:Int))] []) <|
   vx_block <|
   lX (fun ((v1,v2):Int×Int)=>Z [p 0 (L i64 a0),p 3 (J v1),p 4 (I v2)] []) ((a0.getD (Int.toNat (0:Int)) (0:Int),1)) H fun _ g2 b2 e2 t2 ⟨v1,v2⟩ H =>
   vx_seq <|
   qA (Z [p 0 (L i64 a0),p 3 (J v1),p 4 (I v2),p 15 (B (decide (v2 < (↑a0.length:Int))))] []) <|
   cD H (fun H=>?_) (fun H=>?_)
  ·refine vx_skip<|fx_seq<|vx_seq<|vx_block <|
    zB (Z [p 0 (L i64 a0),p 3 (I (min v1 (a0.getD v2.toNat 0))),p 4 (I v2)] []) H fun H =>
    fx_blk<|fx_seq <|
    zB (Z [p 0 (L i64 a0),p 3 (I (min v1 (a0.getD v2.toNat 0))),p 4 (I (v2+1))] []) H fun H =>
    b2 H
  exact vx_exit<|fx_seq_exit<|e2<|fx_blk_exit rfl<|n1 H
 refine qA (Z [p 0 (L i64 a0),p 7 (B (decide ((↑a0.length:Int) < 1)))] []) <|
  cD H (fun H=>?_) (fun H=>?_)
 ·exact dead H
 exact vx_skip<|n0 H
def u143J0:Unit→Option (Bool)
 | _ =>
 some true
def u143L1 (a0:List Int) (g1:Int→Option (Bool)):Int→Option (Bool)
 | v0 =>
 if (decide (v0 < (↑a0.length:Int)))=true then
  gd (in64 (v0 - 1)∧ix (v0 - 1) a0.length∧ix v0 a0.length∧True) <|
  if (decide (a0.getD v0.toNat 0≤a0.getD (v0 - 1).toNat 0))=true then
   some false
  else
   gd (in64 (v0+1)∧True) <|
   g1 (v0+1)
 else
  u143J0 ()
def u143 (a0:List Int):Option (Bool) :=
 lp (u143L1 a0) 1
def k143:Ct:=lct 143 [.dat i64.sl] (fun x=>u143 x.1) (fun r:Bool=>B r) (fun _=>())
theorem o143:Ok Tryz.prog k143:=by
 refine okL [.tmp 2] Tryz.func143 Tryz.ntmps143 Tryz.results143 ?_
 intro y ⟨a0,_⟩ r H Q hn hr
 have:HT _ _:=⟨@tn Tryz.prog⟩
 refine qA (Z [p 0 (L i64 a0)] []) <|
  jN r (fun (_:Unit)=>Z [] []) (u143J0) (fun _ H=>?_) (fun _ n0 e0 t0=>?_)
 ·refine qA (Z [p 2 (B true)] []) <|
   vx_ret<|hr H
 refine qA (Z [p 0 (L i64 a0),p 3 (I 1)] []) <|
  vx_block <|
  lX (fun (v0:Int)=>Z [p 0 (L i64 a0),p 3 (I v0)] []) 1 H fun _ g1 b1 e1 t1 v0 H =>
  vx_seq <|
  qA (Z [p 0 (L i64 a0),p 3 (I v0),p 7 (B (decide (v0 < (↑a0.length:Int))))] []) <|
  cD H (fun H=>?_) (fun H=>?_)
 ·refine vx_skip<|fx_seq<|vx_seq<|vx_block <|
   qB (Z [p 0 (L i64 a0),p 3 (I v0),p 19 (B (decide (a0.getD v0.toNat 0≤a0.getD (v0 - 1).toNat 0)))] []) H fun H =>
   cD H (fun H=>?_) (fun H=>?_)
  ·refine qA (Z [p 2 (B false)] []) <|
    vx_ret<|fx_blk_ret<|fx_seq_ret<|t1<|fx_blk_ret<|t0<|hr H
  refine vx_skip<|fx_blk<|fx_seq <|
   zB (Z [p 0 (L i64 a0),p 3 (I (v0+1))] []) H fun H =>
   b1 H
 exact vx_exit<|fx_seq_exit<|e1<|fx_blk_exit rfl<|n0 H
def u226 (a0:List Int):Option (Bool) :=
 gd ((u99 a0).isSome=true∧(u120 (vl (u99 a0)) 1 4).isSome=true∧(vl (u120 (vl (u99 a0)) 1 4)=true∧True→(u137 a0 0 100000).isSome=true)∧((vl (u120 (vl (u99 a0)) 1 4)&&vl (u137 a0 0 100000))=true∧True→(u143 a0).isSome=true)∧True) <|
 some (vl (u120 (vl (u99 a0)) 1 4)&&vl (u137 a0 0 100000)&&vl (u143 a0))
def k226:Ct:=lct 226 [.dat i64.sl] (fun x=>u226 x.1) (fun r:Bool=>B r) (fun _=>())
theorem o226:Ok Tryz.prog k226:=by
 refine okL [.tmp 2] Tryz.func226 Tryz.ntmps226 Tryz.results226 ?_
 intro y ⟨a0,_⟩ r H Q hn hr
 have:HT _ _:=⟨tc o143 (tc o137 (tc o120 (tc o99 tn)))⟩
 refine qA (Z [p 0 (L i64 a0)] []) <|
  qB (Z [p 2 (B (vl (u120 (vl (u99 a0)) 1 4)&&vl (u137 a0 0 100000)&&vl (u143 a0)))] []) H fun H =>
  vx_ret<|hr H
def u217 (a0:Y223):Option (Bool) :=
 gd ((u226 a0.1).isSome=true∧(vl (u226 a0.1)=true∧True→(u226 a0.2.1).isSome=true)∧((vl (u226 a0.1)&&vl (u226 a0.2.1))=true∧True→in64 ((↑a0.1.length:Int)*(↑a0.2.1.length:Int)))∧((vl (u226 a0.1)&&vl (u226 a0.2.1)&&(↑a0.2.2.length:Int)==(↑a0.1.length:Int)*(↑a0.2.1.length:Int))=true∧True→(u137 a0.2.2 (-1000000) 1000000).isSome=true)∧True) <|
 some (vl (u226 a0.1)&&vl (u226 a0.2.1)&&(↑a0.2.2.length:Int)==(↑a0.1.length:Int)*(↑a0.2.1.length:Int)&&vl (u137 a0.2.2 (-1000000) 1000000))
def k217:Ct:=lct 217 [.agg y223] (fun x=>u217 x.1) (fun r:Bool=>B r) (fun _=>())
theorem o217:Ok Tryz.prog k217:=by
 refine okL [.tmp 2] Tryz.func217 Tryz.ntmps217 Tryz.results217 ?_
 intro y ⟨a0,_⟩ r H Q hn hr
 have:HT _ _:=⟨tc o137 (tc o226 tn)⟩
 refine qA (Z [p 1 (R 1)] [(1,K 223 y223 a0)]) <|
  qB (Z [p 2 (B (vl (u226 a0.1)&&vl (u226 a0.2.1)&&(↑a0.2.2.length:Int)==(↑a0.1.length:Int)*(↑a0.2.1.length:Int)&&vl (u137 a0.2.2 (-1000000) 1000000)))] [(1,K 223 y223 a0)]) H fun H =>
  vx_ret<|hr H
def u216 (a0:Y223) (a1:Bool):Option (Bool) :=
 gd ((u217 a0).isSome=true∧(a1=true∧(!vl (u217 a0))=false∧True→(u218 a0.2.2).isSome=true)∧True)<|lt (vl (u218 a0.2.2)) fun v0 =>
 some (!vl (u217 a0)||a1&&decide (v0 < 0))
def k216:Ct:=lct 216 [.agg y223,.dat (.pt Ty.bool)] (fun x=>u216 x.1 x.2.1) (fun r:Bool=>B r) (fun _=>())
theorem o216:Ok Tryz.prog k216:=by
 refine okL [.tmp 3] Tryz.func216 Tryz.ntmps216 Tryz.results216 ?_
 intro y ⟨a0,a1,_⟩ r H Q hn hr
 have:HT _ _:=⟨tc o218 (tc o217 tn)⟩
 refine qA (Z [p 1 (D Ty.bool.pt a1),p 2 (R 2)] [(2,K 223 y223 a0)]) <|
  qD (fun v0=>Z [p 3 (B (!vl (u217 a0)||a1&&decide (v0 < 0)))] [(2,K 223 y223 a0)]) H fun v0 H =>
  vx_ret<|hr H
def u225c216J0:Unit→Option (Int)
 | _ =>
 some (-1)
def u225c216L1 (a0:List Y223) (a1:Bool) (g1:Int→Option (Int)):Int→Option (Int)
 | v0 =>
 if (decide (v0 < (↑a0.length:Int)))=true then
  gd (ix v0 a0.length∧(u216 (a0.getD v0.toNat (dflt y223)) a1).isSome=true∧True) <|
  if (vl (u216 (a0.getD v0.toNat (dflt y223)) a1))=true then
   some v0
  else
   gd (in64 (v0+1)∧True) <|
   g1 (v0+1)
 else
  u225c216J0 ()
def u225c216 (a0:List Y223) (a1:Bool):Option (Int) :=
 lp (u225c216L1 a0 a1) 0
def k225c216:Ct:=lct 225 [.dat y223.sl,.fn 216 Ty.bool.pt] (fun x=>u225c216 x.1 x.2.1) (fun r:Int=>I r) (fun _=>())
theorem o225c216:Ok Tryz.prog k225c216:=by
 refine okL [.tmp 4] Tryz.func225 Tryz.ntmps225 Tryz.results225 ?_
 intro y ⟨a0,a1,_⟩ r H Q hn hr
 have:HT _ _:=⟨tc o216 tn⟩
 refine qA (Z [p 0 (L y223 a0),p 1 (AV.fn 216 [D Ty.bool.pt a1])] []) <|
  jN r (fun (_:Unit)=>Z [] []) (u225c216J0) (fun _ H=>?_) (fun _ n0 e0 t0=>?_)
 ·refine qA (Z [p 4 (I (-1))] []) <|
   vx_ret<|hr H
 refine qA (Z [p 0 (L y223 a0),p 1 (AV.fn 216 [D Ty.bool.pt a1]),p 7 (I (↑a0.length:Int)),p 8 (I 0)] []) <|
  vx_block <|
  lX (fun (v0:Int)=>Z [p 0 (L y223 a0),p 1 (AV.fn 216 [D Ty.bool.pt a1]),p 7 (I (↑a0.length:Int)),p 8 (I v0)] []) 0 H fun _ g1 b1 e1 t1 v0 H =>
  qA (Z [p 0 (L y223 a0),p 1 (AV.fn 216 [D Ty.bool.pt a1]),p 7 (I (↑a0.length:Int)),p 8 (I v0),p 9 (B (decide (v0 < (↑a0.length:Int))))] []) <|
  vx_seq <|
  cD H (fun H=>?_) (fun H=>?_)
 ·refine vx_skip<|fx_seq<|vx_seq<|vx_block <|
   qA (Z [p 0 (L y223 a0),p 1 (AV.fn 216 [D Ty.bool.pt a1]),p 5 (I v0),p 7 (I (↑a0.length:Int)),p 8 (I v0)] []) <|
   qB (Z [p 0 (L y223 a0),p 1 (AV.fn 216 [D Ty.bool.pt a1]),p 5 (I v0),p 7 (I (↑a0.length:Int)),p 8 (I v0),p 16 (B (vl (u216 (a0.getD v0.toNat (dflt y223)) a1)))] []) H fun H =>
   cD H (fun H=>?_) (fun H=>?_)
  ·refine qA (Z [p 4 (I v0)] []) <|
    vx_ret<|fx_blk_ret<|fx_seq_ret<|t1<|fx_blk_ret<|t0<|hr H
  refine vx_skip<|fx_blk<|fx_seq <|
   zB (Z [p 0 (L y223 a0),p 1 (AV.fn 216 [D Ty.bool.pt a1]),p 7 (I (↑a0.length:Int)),p 8 (I (v0+1))] []) H fun H =>
   b1 H
 exact vx_exit<|fx_seq_exit<|e1<|fx_blk_exit rfl<|n0 H
def u215c216 (a0:List Y223) (a1:Bool):Option (Bool) :=
 gd ((u225c216 a0 a1).isSome=true∧True)<|lt (vl (u225c216 a0 a1)) fun v0 =>
 some (decide (0≤v0))
def k215c216:Ct:=lct 215 [.dat y223.sl,.fn 216 (.pt Ty.bool)] (fun x=>u215c216 x.1 x.2.1) (fun r:Bool=>B r) (fun _=>())
theorem o215c216:Ok Tryz.prog k215c216:=by
 refine okL [.tmp 4] Tryz.func215 Tryz.ntmps215 Tryz.results215 ?_
 intro y ⟨a0,a1,_⟩ r H Q hn hr
 have:HT _ _:=⟨tc o225c216 (tc o216 tn)⟩
 refine qA (Z [p 0 (L y223 a0),p 1 (AV.fn 216 [D Ty.bool.pt a1])] []) <|
  qD (fun v0=>Z [p 4 (B (decide (0≤v0)))] []) H fun v0 H =>
  vx_ret<|hr H
def u204 (a0:List Y223) (a1:Bool):Option (Bool) :=
 gd ((((↑a0.length:Int)==2)=true∧True→(u215c216 a0 a1).isSome=true)∧True) <|
 some ((↑a0.length:Int)==2&&!vl (u215c216 a0 a1))
def k204:Ct:=lct 204 [.dat y223.sl,.dat Ty.bool] (fun x=>u204 x.1 x.2.1) (fun r:Bool=>B r) (fun _=>())
theorem o204:Ok Tryz.prog k204:=by
 refine okL [.tmp 4] Tryz.func204 Tryz.ntmps204 Tryz.results204 ?_
 intro y ⟨a0,a1,_⟩ r H Q hn hr
 have:HT _ _:=⟨tc o215c216 (tc o216 tn)⟩
 refine qA (Z [p 0 (L y223 a0),p 3 (R 3)] [(3,Ob.box 4 [C a1])]) <|
  qB (Z [p 4 (B ((↑a0.length:Int)==2&&!vl (u215c216 a0 a1)))] [(3,Ob.box 4 [C a1])]) H fun H =>
  vx_ret<|hr H
def u220 (a0:Y205):Option (Bool) :=
 some a0.2.2.2
def k220:Ct:=lct 220 [.agg y205] (fun x=>u220 x.1) (fun r:Bool=>B r) (fun _=>())
theorem o220:Ok Tryz.prog k220:=by
 refine okL [.tmp 2] Tryz.func220 Tryz.ntmps220 Tryz.results220 ?_
 intro y ⟨a0,_⟩ r H Q hn hr
 have:HT _ _:=⟨@tn Tryz.prog⟩
 refine qA (Z [p 1 (R 1)] [(1,K 205 y205 a0)]) <|
  qA (Z [p 2 (C a0.2.2.2)] [(1,K 205 y205 a0)]) <|
  vx_ret<|hr H
def u219c220J0:Unit→Option (Int)
 | _ =>
 some (-1)
def u219c220L1 (a0:List Y205) (g1:Int→Option (Int)):Int→Option (Int)
 | v0 =>
 if (decide (v0 < (↑a0.length:Int)))=true then
  gd (ix v0 a0.length∧(u220 (a0.getD v0.toNat (dflt y205))).isSome=true∧True) <|
  if (vl (u220 (a0.getD v0.toNat (dflt y205))))=true then
   some v0
  else
   gd (in64 (v0+1)∧True) <|
   g1 (v0+1)
 else
  u219c220J0 ()
def u219c220 (a0:List Y205):Option (Int) :=
 lp (u219c220L1 a0) 0
def k219c220:Ct:=lct 219 [.dat y205.sl,.nof 220] (fun x=>u219c220 x.1) (fun r:Int=>I r) (fun _=>())
theorem o219c220:Ok Tryz.prog k219c220:=by
 refine okL [.tmp 4] Tryz.func219 Tryz.ntmps219 Tryz.results219 ?_
 intro y ⟨a0,_,_⟩ r H Q hn hr
 have:HT _ _:=⟨tc o220 tn⟩
 refine qA (Z [p 0 (L y205 a0),p 1 (AV.fn 220 [])] []) <|
  jN r (fun (_:Unit)=>Z [] []) (u219c220J0) (fun _ H=>?_) (fun _ n0 e0 t0=>?_)
 ·refine qA (Z [p 4 (I (-1))] []) <|
   vx_ret<|hr H
 refine qA (Z [p 0 (L y205 a0),p 1 (AV.fn 220 []),p 7 (I (↑a0.length:Int)),p 8 (I 0)] []) <|
  vx_block <|
  lX (fun (v0:Int)=>Z [p 0 (L y205 a0),p 1 (AV.fn 220 []),p 7 (I (↑a0.length:Int)),p 8 (I v0)] []) 0 H fun _ g1 b1 e1 t1 v0 H =>
  qA (Z [p 0 (L y205 a0),p 1 (AV.fn 220 []),p 7 (I (↑a0.length:Int)),p 8 (I v0),p 9 (B (decide (v0 < (↑a0.length:Int))))] []) <|
  vx_seq <|
  cD H (fun H=>?_) (fun H=>?_)
 ·refine vx_skip<|fx_seq<|vx_seq<|vx_block <|
   qA (Z [p 0 (L y205 a0),p 1 (AV.fn 220 []),p 5 (I v0),p 7 (I (↑a0.length:Int)),p 8 (I v0)] []) <|
   qB (Z [p 0 (L y205 a0),p 1 (AV.fn 220 []),p 5 (I v0),p 7 (I (↑a0.length:Int)),p 8 (I v0),p 16 (B (vl (u220 (a0.getD v0.toNat (dflt y205)))))] []) H fun H =>
   cD H (fun H=>?_) (fun H=>?_)
  ·refine qA (Z [p 4 (I v0)] []) <|
    vx_ret<|fx_blk_ret<|fx_seq_ret<|t1<|fx_blk_ret<|t0<|hr H
  refine vx_skip<|fx_blk<|fx_seq <|
   zB (Z [p 0 (L y205 a0),p 1 (AV.fn 220 []),p 7 (I (↑a0.length:Int)),p 8 (I (v0+1))] []) H fun H =>
   b1 H
 exact vx_exit<|fx_seq_exit<|e1<|fx_blk_exit rfl<|n0 H
def u205 (a0:Y134):Option (Int) :=
 gd ((u219c220 a0.2.2.1).isSome=true∧True)<|lt (vl (u219c220 a0.2.2.1)) fun v0 =>
 some v0
def k205:Ct:=lct 205 [.agg y134] (fun x=>u205 x.1) (fun r:Int=>I r) (fun _=>())
theorem o205:Ok Tryz.prog k205:=by
 refine okL [.tmp 2] Tryz.func205 Tryz.ntmps205 Tryz.results205 ?_
 intro y ⟨a0,_⟩ r H Q hn hr
 have:HT _ _:=⟨tc o220 (tc o219c220 tn)⟩
 refine qA (Z [p 1 (R 1)] [(1,K 134 y134 a0)]) <|
  qD (fun v0=>Z [p 2 (I v0)] [(1,K 134 y134 a0)]) H fun v0 H =>
  vx_ret<|hr H
def u203 (a0:Int):Option (Bool) :=
 some (a0==4||a0==5)
def k203:Ct:=lct 203 [.dat i64] (fun x=>u203 x.1) (fun r:Bool=>B r) (fun _=>())
theorem o203:Ok Tryz.prog k203:=by
 refine okL [.tmp 2] Tryz.func203 Tryz.ntmps203 Tryz.results203 ?_
 intro y ⟨a0,_⟩ r H Q hn hr
 have:HT _ _:=⟨@tn Tryz.prog⟩
 refine qA (Z [p 0 (J a0)] []) <|
  qA (Z [p 2 (B (a0==4||a0==5))] []) <|
  vx_ret<|hr H
def u185J0 (a0:Y134) (a1:Y139):Bool→Option (Bool)
 | v2 =>
 if v2=true then
  gd (ix a1.2.1 a0.2.2.1.length∧True) <|
  some ((a0.2.2.1.getD a1.2.1.toNat (dflt y205)).2.2.2&&a1.2.2.2.1==0)
 else
  some false
def u185 (a0:Y134) (a1:Y139):Option (Bool) :=
 gd ((u203 a1.1).isSome=true∧True) <|
 if (vl (u203 a1.1))=true then
  gd (((a1.2.2.2.1==0&&(↑a1.2.2.2.2.2.length:Int)==0)=true∧True→(u204 a1.2.2.2.2.1 false).isSome=true)∧((a1.2.2.2.1==0&&(↑a1.2.2.2.2.2.length:Int)==0&&vl (u204 a1.2.2.2.2.1 false))=true∧True→(u205 a0).isSome=true)∧((a1.2.2.2.1==0&&(↑a1.2.2.2.2.2.length:Int)==0&&vl (u204 a1.2.2.2.2.1 false)&&a1.2.1==vl (u205 a0)&&decide (0≤a1.2.1))=true∧True→(u206 a0 a1.2.2.1).isSome=true)∧True)<|lt (vl (u205 a0)) fun v0 =>
  some (a1.2.2.2.1==0&&(↑a1.2.2.2.2.2.length:Int)==0&&vl (u204 a1.2.2.2.2.1 false)&&a1.2.1==v0&&decide (0≤a1.2.1)&&vl (u206 a0 a1.2.2.1)&&a1.2.2.1 != a1.2.1)
 else
  gd ((u204 a1.2.2.2.2.1 true).isSome=true∧((!vl (u204 a1.2.2.2.2.1 true))=false∧True→(u204 a1.2.2.2.2.2 true).isSome=true)∧((!vl (u204 a1.2.2.2.2.1 true)||!vl (u204 a1.2.2.2.2.2 true))=false∧True→(u188 a0).isSome=true)∧((!vl (u204 a1.2.2.2.2.1 true)||!vl (u204 a1.2.2.2.2.2 true)||a1.2.2.1 != vl (u188 a0))=false∧True→(u206 a0 a1.2.1).isSome=true)∧True)<|lt (vl (u188 a0)) fun v1 =>
  if (!vl (u204 a1.2.2.2.2.1 true)||!vl (u204 a1.2.2.2.2.2 true)||a1.2.2.1 != v1||!vl (u206 a0 a1.2.1))=true then
   some false
  else
   if (a1.1==1)=true then
    gd (ix a1.2.1 a0.2.2.1.length∧((!(a0.2.2.1.getD a1.2.1.toNat (dflt y205)).2.2.2)=true∧True→(u120 a1.2.2.2.1 1 3).isSome=true)∧True) <|
    some (!(a0.2.2.1.getD a1.2.1.toNat (dflt y205)).2.2.2&&vl (u120 a1.2.2.2.1 1 3))
   else
    if (a1.1==2)=true then
     u185J0 a0 a1 (a1.1==2)
    else
     u185J0 a0 a1 (a1.1==3)
def k185:Ct:=lct 185 [.agg y134,.agg y139] (fun x=>u185 x.1 x.2.1) (fun r:Bool=>B r) (fun _=>())
theorem o185:Ok Tryz.prog k185:=by
 refine okL [.tmp 4] Tryz.func185 Tryz.ntmps185 Tryz.results185 ?_
 intro y ⟨a0,a1,_⟩ r H Q hn hr
 have:HT _ _:=⟨tc o120 (tc o206 (tc o188 (tc o204 (tc o205 (tc o203 tn)))))⟩
 refine qA (Z [p 2 (R 2),p 3 (R 3)] [(3,K 139 y139 a1),(2,K 134 y134 a0)]) <|
  vx_seq <|
  qB (Z [p 2 (R 2),p 3 (R 3),p 7 (B (vl (u203 a1.1)))] [(3,K 139 y139 a1),(2,K 134 y134 a0)]) H fun H =>
  cD H (fun H=>?_) (fun H=>?_)
 ·refine qD (fun v0=>Z [p 4 (B (a1.2.2.2.1==0&&(↑a1.2.2.2.2.2.length:Int)==0&&vl (u204 a1.2.2.2.2.1 false)&&a1.2.1==v0&&decide (0≤a1.2.1)&&vl (u206 a0 a1.2.2.1)&&a1.2.2.1 != a1.2.1))] [(3,K 139 y139 a1),(2,K 134 y134 a0)]) H fun v0 H =>
   vx_ret<|fx_seq_ret<|hr H
 refine vx_skip<|fx_seq<|vx_seq <|
  qD (fun v1=>Z [p 2 (R 2),p 3 (R 3),p 70 (B (!vl (u204 a1.2.2.2.2.1 true)||!vl (u204 a1.2.2.2.2.2 true)||a1.2.2.1 != v1||!vl (u206 a0 a1.2.1)))] [(3,K 139 y139 a1),(2,K 134 y134 a0)]) H fun v1 H =>
  cD H (fun H=>?_) (fun H=>?_)
 ·refine qA (Z [p 4 (B false)] [(3,K 139 y139 a1),(2,K 134 y134 a0)]) <|
   vx_ret<|fx_seq_ret<|hr H
 refine vx_skip<|fx_seq<|vx_seq <|
  qA (Z [p 2 (R 2),p 3 (R 3),p 72 (J a1.1)] [(3,K 139 y139 a1),(2,K 134 y134 a0)]) <|
  vx_block <|
  qA (Z [p 2 (R 2),p 3 (R 3),p 72 (J a1.1),p 73 (B (a1.1==1))] [(3,K 139 y139 a1),(2,K 134 y134 a0)]) <|
  cD H (fun H=>?_) (fun H=>?_)
 ·refine qB (Z [p 4 (B (!(a0.2.2.1.getD a1.2.1.toNat (dflt y205)).2.2.2&&vl (u120 a1.2.2.2.1 1 3)))] [(3,K 139 y139 a1),(2,K 134 y134 a0)]) H fun H =>
   vx_ret<|fx_blk_ret<|fx_seq_ret<|hr H
 refine jN r (fun (v2:Bool)=>Z [p 2 (R 2),p 3 (R 3),p 88 (B v2)] [(3,K 139 y139 a1),(2,K 134 y134 a0)]) (u185J0 a0 a1) (fun v2 H=>?_) (fun _ n0 e0 t0=>?_)
 ·refine cD H (fun H=>?_) (fun H=>?_)
  ·refine qB (Z [p 4 (B ((a0.2.2.1.getD a1.2.1.toNat (dflt y205)).2.2.2&&a1.2.2.2.1==0))] [(3,K 139 y139 a1),(2,K 134 y134 a0)]) H fun H =>
    vx_ret<|fx_blk_ret<|fx_seq_ret<|hr H
  refine vx_skip<|fx_blk<|fx_seq <|
   qA (Z [p 4 (B false)] [(3,K 139 y139 a1),(2,K 134 y134 a0)]) <|
   vx_ret<|hr H
 refine qA (Z [p 2 (R 2),p 3 (R 3),p 72 (J a1.1),p 88 (B (a1.1==2))] [(3,K 139 y139 a1),(2,K 134 y134 a0)]) <|
  cD H (fun H=>?_) (fun H=>?_)
 ·exact vx_skip<|n0 H
 refine zA (Z [p 2 (R 2),p 3 (R 3),p 88 (B (a1.1==3))] [(3,K 139 y139 a1),(2,K 134 y134 a0)]) <|
  n0 H
def u187 (a0:Y139) (a1:Y139):Option (Bool) :=
 some (a0.1==a1.1&&a0.2.1==a1.2.1&&a0.2.2.1==a1.2.2.1)
def k187:Ct:=lct 187 [.agg y139,.dat (.pt y139)] (fun x=>u187 x.1 x.2.1) (fun r:Bool=>B r) (fun _=>())
theorem o187:Ok Tryz.prog k187:=by
 refine okL [.tmp 3] Tryz.func187 Tryz.ntmps187 Tryz.results187 ?_
 intro y ⟨a0,a1,_⟩ r H Q hn hr
 have:HT _ _:=⟨@tn Tryz.prog⟩
 refine qA (Z [p 1 (D y139.pt a1),p 2 (R 2)] [(2,K 139 y139 a0)]) <|
  qA (Z [p 3 (B (a0.1==a1.1&&a0.2.1==a1.2.1&&a0.2.2.1==a1.2.2.1))] [(2,K 139 y139 a0)]) <|
  vx_ret<|hr H
def u207c187J0:Unit→Option (Int)
 | _ =>
 some (-1)
def u207c187L1 (a0:List Y139) (a1:Y139) (g1:Int→Option (Int)):Int→Option (Int)
 | v0 =>
 if (decide (v0 < (↑a0.length:Int)))=true then
  gd (ix v0 a0.length∧(u187 (a0.getD v0.toNat (dflt y139)) a1).isSome=true∧True) <|
  if (vl (u187 (a0.getD v0.toNat (dflt y139)) a1))=true then
   some v0
  else
   gd (in64 (v0+1)∧True) <|
   g1 (v0+1)
 else
  u207c187J0 ()
def u207c187 (a0:List Y139) (a1:Y139):Option (Int) :=
 lp (u207c187L1 a0 a1) 0
def k207c187:Ct:=lct 207 [.dat y139.sl,.fn 187 y139.pt] (fun x=>u207c187 x.1 x.2.1) (fun r:Int=>I r) (fun _=>())
theorem o207c187:Ok Tryz.prog k207c187:=by
 refine okL [.tmp 4] Tryz.func207 Tryz.ntmps207 Tryz.results207 ?_
 intro y ⟨a0,a1,_⟩ r H Q hn hr
 have:HT _ _:=⟨tc o187 tn⟩
 refine qA (Z [p 0 (L y139 a0),p 1 (AV.fn 187 [D y139.pt a1])] []) <|
  jN r (fun (_:Unit)=>Z [] []) (u207c187J0) (fun _ H=>?_) (fun _ n0 e0 t0=>?_)
 ·refine qA (Z [p 4 (I (-1))] []) <|
   vx_ret<|hr H
 refine qA (Z [p 0 (L y139 a0),p 1 (AV.fn 187 [D y139.pt a1]),p 7 (I (↑a0.length:Int)),p 8 (I 0)] []) <|
  vx_block <|
  lX (fun (v0:Int)=>Z [p 0 (L y139 a0),p 1 (AV.fn 187 [D y139.pt a1]),p 7 (I (↑a0.length:Int)),p 8 (I v0)] []) 0 H fun _ g1 b1 e1 t1 v0 H =>
  qA (Z [p 0 (L y139 a0),p 1 (AV.fn 187 [D y139.pt a1]),p 7 (I (↑a0.length:Int)),p 8 (I v0),p 9 (B (decide (v0 < (↑a0.length:Int))))] []) <|
  vx_seq <|
  cD H (fun H=>?_) (fun H=>?_)
 ·refine vx_skip<|fx_seq<|vx_seq<|vx_block <|
   qA (Z [p 0 (L y139 a0),p 1 (AV.fn 187 [D y139.pt a1]),p 5 (I v0),p 7 (I (↑a0.length:Int)),p 8 (I v0)] []) <|
   qB (Z [p 0 (L y139 a0),p 1 (AV.fn 187 [D y139.pt a1]),p 5 (I v0),p 7 (I (↑a0.length:Int)),p 8 (I v0),p 16 (B (vl (u187 (a0.getD v0.toNat (dflt y139)) a1)))] []) H fun H =>
   cD H (fun H=>?_) (fun H=>?_)
  ·refine qA (Z [p 4 (I v0)] []) <|
    vx_ret<|fx_blk_ret<|fx_seq_ret<|t1<|fx_blk_ret<|t0<|hr H
  refine vx_skip<|fx_blk<|fx_seq <|
   zB (Z [p 0 (L y139 a0),p 1 (AV.fn 187 [D y139.pt a1]),p 7 (I (↑a0.length:Int)),p 8 (I (v0+1))] []) H fun H =>
   b1 H
 exact vx_exit<|fx_seq_exit<|e1<|fx_blk_exit rfl<|n0 H
def u186c187 (a0:List Y139) (a1:Y139):Option (Bool) :=
 gd ((u207c187 a0 a1).isSome=true∧True)<|lt (vl (u207c187 a0 a1)) fun v0 =>
 some (decide (0≤v0))
def k186c187:Ct:=lct 186 [.dat y139.sl,.fn 187 (.pt y139)] (fun x=>u186c187 x.1 x.2.1) (fun r:Bool=>B r) (fun _=>())
theorem o186c187:Ok Tryz.prog k186c187:=by
 refine okL [.tmp 4] Tryz.func186 Tryz.ntmps186 Tryz.results186 ?_
 intro y ⟨a0,a1,_⟩ r H Q hn hr
 have:HT _ _:=⟨tc o207c208 (tc o207c187 (tc o187 tn))⟩
 refine qA (Z [p 0 (L y139 a0),p 1 (AV.fn 187 [D y139.pt a1])] []) <|
  qD (fun v0=>Z [p 4 (B (decide (0≤v0)))] []) H fun v0 H =>
  vx_ret<|hr H
def u174J0 (a0:Y134):Unit→Option (Bool)
 | _ =>
 some (decide ((↑a0.2.2.2.1.length:Int)≤8))
def u174L1 (a0:Y134) (g1:Int→Option (Bool)):Int→Option (Bool)
 | v1 =>
 if (decide (v1 < (↑a0.2.2.2.1.length:Int)))=true then
  gd (ix v1 a0.2.2.2.1.length∧True)<|lt (a0.2.2.2.1.getD v1.toNat (dflt y139)) fun v2 =>
  gd ((u185 a0 v2).isSome=true∧((!vl (u185 a0 v2))=false∧True→(0:Int)≤(0:Int)∧(0:Int)≤v1∧v1≤(↑a0.2.2.2.1.length:Int))∧((!vl (u185 a0 v2))=false∧True→(u186c187 (List.take v1.toNat a0.2.2.2.1) v2).isSome=true)∧True) <|
  if (!vl (u185 a0 v2)||vl (u186c187 (List.take v1.toNat a0.2.2.2.1) v2))=true then
   some false
  else
   gd (in64 (v1+1)∧True) <|
   g1 (v1+1)
 else
  u174J0 a0 ()
def u174 (a0:Y134):Option (Bool) :=
 lp (u174L1 a0) 0
def k174:Ct:=lct 174 [.agg y134] (fun x=>u174 x.1) (fun r:Bool=>B r) (fun _=>())
theorem o174:Ok Tryz.prog k174:=by
 refine okL [.tmp 2] Tryz.func174 Tryz.ntmps174 Tryz.results174 ?_
 intro y ⟨a0,_⟩ r H Q hn hr
 have:HT _ _:=⟨tc o186c208 (tc o186c187 (tc o187 (tc o185 tn)))⟩
 refine qA (Z [p 1 (R 1)] [(1,K 134 y134 a0)]) <|
  jN r (fun (_:Unit)=>Z [p 1 (R 1)] [(1,K 134 y134 a0)]) (u174J0 a0) (fun _ H=>?_) (fun _ n0 e0 t0=>?_)
 ·refine qA (Z [p 2 (B (decide ((↑a0.2.2.2.1.length:Int)≤8)))] [(1,K 134 y134 a0)]) <|
   vx_ret<|hr H
 refine qA (Z [p 1 (R 1),p 6 (L y139 a0.2.2.2.1),p 7 (I (↑a0.2.2.2.1.length:Int)),p 8 (I 0)] [(1,K 134 y134 a0)]) <|
  vx_block <|
  lX (fun (v1:Int)=>Z [p 1 (R 1),p 6 (L y139 a0.2.2.2.1),p 7 (I (↑a0.2.2.2.1.length:Int)),p 8 (I v1)] [(1,K 134 y134 a0)]) 0 H fun _ g1 b1 e1 t1 v1 H =>
  qA (Z [p 1 (R 1),p 6 (L y139 a0.2.2.2.1),p 7 (I (↑a0.2.2.2.1.length:Int)),p 8 (I v1),p 9 (B (decide (v1 < (↑a0.2.2.2.1.length:Int))))] [(1,K 134 y134 a0)]) <|
  vx_seq <|
  cD H (fun H=>?_) (fun H=>?_)
 ·refine vx_skip<|fx_seq<|vx_seq<|vx_block <|
   qD (fun v2=>Z [p 1 (R 1),p 3 (I v1),p 4 (R 4),p 6 (L y139 a0.2.2.2.1),p 7 (I (↑a0.2.2.2.1.length:Int)),p 8 (I v1)] [(4,K 139 y139 v2),(1,K 134 y134 a0)]) H fun v2 H =>
   qB (Z [p 1 (R 1),p 6 (L y139 a0.2.2.2.1),p 7 (I (↑a0.2.2.2.1.length:Int)),p 8 (I v1),p 24 (B (!vl (u185 a0 v2)||vl (u186c187 (List.take v1.toNat a0.2.2.2.1) v2)))] [(4,K 139 y139 v2),(1,K 134 y134 a0)]) H fun H =>
   cD H (fun H=>?_) (fun H=>?_)
  ·refine qA (Z [p 2 (B false)] [(4,K 139 y139 v2),(1,K 134 y134 a0)]) <|
    vx_ret<|fx_blk_ret<|fx_seq_ret<|t1<|fx_blk_ret<|t0<|hr H
  refine vx_skip<|fx_blk<|fx_seq <|
   zB (Z [p 1 (R 1),p 6 (L y139 a0.2.2.2.1),p 7 (I (↑a0.2.2.2.1.length:Int)),p 8 (I (v1+1))] [(4,K 139 y139 v2),(1,K 134 y134 a0)]) H fun H =>
   b1 H
 exact vx_exit<|fx_seq_exit<|e1<|fx_blk_exit rfl<|n0 H
def u173J0 (a0:List Y205):List ByteArray→Option (Bool)
 | v6 =>
 gd ((u184 a0).isSome=true∧(u120 (vl (u184 a0)) 2 5).isSome=true∧(vl (u120 (vl (u184 a0)) 2 5)=true∧True→(u157 v6).isSome=true)∧True) <|
 some (vl (u120 (vl (u184 a0)) 2 5)&&vl (u157 v6))
def u173J2 (v3:Int) (g1:List ByteArray×Int→Option (Bool)):List ByteArray→Option (Bool)
 | v5 =>
 gd (in64 (v3+1)∧True) <|
 g1 (v5,v3+1)
def u173L1 (a0:List Y205) (g1:List ByteArray×Int→Option (Bool)):List ByteArray×Int→Option (Bool)
 | (v2,v3) =>
 if (decide (v3 < (↑a0.length:Int)))=true then
  gd (ix v3 a0.length∧True)<|lt (a0.getD v3.toNat (dflt y205)) fun v4 =>
  gd ((v2.length+[v4.1].length≤9223372036854775807∧(v2.length+[v4.1].length)*16≤140737488355328)∧True) <|
  gd (in64 ((↑a0.length:Int) - 1)∧True) <|
  if (v3==(↑a0.length:Int) - 1)=true then
   if (v4.2.1 != 2||v4.2.2.1 != 0||v4.2.2.2)=true then
    some false
   else
    u173J2 v3 g1 (v2++[v4.1])
  else
   gd (((v4.2.1 != 1)=false∧True→(u120 v4.2.2.1 0 500).isSome=true)∧True) <|
   if (v4.2.1 != 1||!vl (u120 v4.2.2.1 0 500))=true then
    some false
   else
    u173J2 v3 g1 (v2++[v4.1])
 else
  u173J0 a0 v2
def u173 (a0:List Y205):Option (Bool) :=
 lp (u173L1 a0) ([],0)
def k173:Ct:=lct 173 [.dat y205.sl] (fun x=>u173 x.1) (fun r:Bool=>B r) (fun _=>())
theorem o173:Ok Tryz.prog k173:=by
 refine okL [.tmp 2] Tryz.func173 Tryz.ntmps173 Tryz.results173 ?_
 intro y ⟨a0,_⟩ r H Q hn hr
 have:HT _ _:=⟨tc o157 (tc o120 (tc o184 tn))⟩
 refine qA (Z [p 0 (L y205 a0)] []) <|
  qA (Z [p 0 (L y205 a0),p 3 (nil)] []) <|
  jN r (fun (v6:List ByteArray)=>Z [p 0 (L y205 a0),p 3 (O 17)] [(17,A 9 Ty.str v6 0)]) (u173J0 a0) (fun v6 H=>?_) (fun _ n0 e0 t0=>?_)
 ·refine qB (Z [p 2 (B (vl (u120 (vl (u184 a0)) 2 5)&&vl (u157 v6)))] [(17,A 9 Ty.str v6 0)]) H fun H =>
   vx_ret<|hr H
 refine qA (Z [p 0 (L y205 a0),p 3 (nil),p 6 (L y205 a0),p 7 (I (↑a0.length:Int)),p 8 (I 0)] []) <|
  vx_block <|
  lX (fun ((v2,v3):List ByteArray×Int)=>Z [p 0 (L y205 a0),p 3 (O 17),p 6 (L y205 a0),p 7 (I (↑a0.length:Int)),p 8 (I v3)] [(17,A 9 Ty.str v2 0)]) ([],0) H fun _ g1 b1 e1 t1 ⟨v2,v3⟩ H =>
  qA (Z [p 0 (L y205 a0),p 3 (O 17),p 6 (L y205 a0),p 7 (I (↑a0.length:Int)),p 8 (I v3),p 9 (B (decide (v3 < (↑a0.length:Int))))] [(17,A 9 Ty.str v2 0)]) <|
  vx_seq <|
  cD H (fun H=>?_) (fun H=>?_)
 ·refine vx_skip<|fx_seq <|
   jN r (fun (v5:List ByteArray)=>Z [p 0 (L y205 a0),p 3 (O 17),p 6 (L y205 a0),p 7 (I (↑a0.length:Int)),p 8 (I v3)] [(17,A 9 Ty.str v5 0)]) (u173J2 v3 g1) (fun v5 H=>?_) (fun _ n2 e2 t2=>?_)
  ·refine zB (Z [p 0 (L y205 a0),p 3 (O 17),p 6 (L y205 a0),p 7 (I (↑a0.length:Int)),p 8 (I (v3+1))] [(17,A 9 Ty.str v5 0)]) H fun H =>
    b1 H
  refine vx_block <|
   qD (fun v4=>Z [p 0 (L y205 a0),p 3 (O 17),p 4 (I v3),p 5 (R 5),p 6 (L y205 a0),p 7 (I (↑a0.length:Int)),p 8 (I v3)] [(5,K 205 y205 v4),(17,A 9 Ty.str v2 0)]) H fun v4 H =>
   qB (Z [p 0 (L y205 a0),p 3 (AV.os 17 1),p 4 (I v3),p 5 (R 5),p 6 (L y205 a0),p 7 (I (↑a0.length:Int)),p 8 (I v3)] [(17,A 9 Ty.str (v2++[v4.1]) 1),(16,A 9 Ty.str [v4.1] 0),(5,K 205 y205 v4)]) H fun H =>
   qB (Z [p 0 (L y205 a0),p 3 (AV.os 17 1),p 5 (R 5),p 6 (L y205 a0),p 7 (I (↑a0.length:Int)),p 8 (I v3),p 22 (B (v3==(↑a0.length:Int) - 1))] [(17,A 9 Ty.str (v2++[v4.1]) 1),(16,A 9 Ty.str [v4.1] 0),(5,K 205 y205 v4)]) H fun H =>
   cD H (fun H=>?_) (fun H=>?_)
  ·refine qA (Z [p 0 (L y205 a0),p 3 (AV.os 17 1),p 6 (L y205 a0),p 7 (I (↑a0.length:Int)),p 8 (I v3),p 34 (B (v4.2.1 != 2||v4.2.2.1 != 0||v4.2.2.2))] [(17,A 9 Ty.str (v2++[v4.1]) 1),(16,A 9 Ty.str [v4.1] 0),(5,K 205 y205 v4)]) <|
    cD H (fun H=>?_) (fun H=>?_)
   ·refine qA (Z [p 2 (B false)] [(17,A 9 Ty.str (v2++[v4.1]) 1),(16,A 9 Ty.str [v4.1] 0),(5,K 205 y205 v4)]) <|
     vx_ret<|fx_blk_ret<|t2<|t1<|fx_blk_ret<|t0<|hr H
   exact vx_skip<|fx_blk<|n2 H
  refine qB (Z [p 0 (L y205 a0),p 3 (AV.os 17 1),p 6 (L y205 a0),p 7 (I (↑a0.length:Int)),p 8 (I v3),p 43 (B (v4.2.1 != 1||!vl (u120 v4.2.2.1 0 500)))] [(17,A 9 Ty.str (v2++[v4.1]) 1),(16,A 9 Ty.str [v4.1] 0),(5,K 205 y205 v4)]) H fun H =>
   cD H (fun H=>?_) (fun H=>?_)
  ·refine qA (Z [p 2 (B false)] [(17,A 9 Ty.str (v2++[v4.1]) 1),(16,A 9 Ty.str [v4.1] 0),(5,K 205 y205 v4)]) <|
    vx_ret<|fx_blk_ret<|t2<|t1<|fx_blk_ret<|t0<|hr H
  exact vx_skip<|fx_blk<|n2 H
 exact vx_exit<|fx_seq_exit<|e1<|fx_blk_exit rfl<|n0 H
def u156 (a0:Y134):Option (Bool) :=
 gd ((u172 a0.1).isSome=true∧(vl (u172 a0.1)=true∧True→(u173 a0.2.2.1).isSome=true)∧((vl (u172 a0.1)&&vl (u173 a0.2.2.1))=true∧True→(u174 a0).isSome=true)∧((vl (u172 a0.1)&&vl (u173 a0.2.2.1)&&vl (u174 a0))=true∧True→(u120 a0.2.2.2.2.2.1 0 100000).isSome=true)∧((vl (u172 a0.1)&&vl (u173 a0.2.2.1)&&vl (u174 a0)&&vl (u120 a0.2.2.2.2.2.1 0 100000))=true∧True→(u120 a0.2.2.2.2.2.2 0 100000).isSome=true)∧((vl (u172 a0.1)&&vl (u173 a0.2.2.1)&&vl (u174 a0)&&vl (u120 a0.2.2.2.2.2.1 0 100000)&&vl (u120 a0.2.2.2.2.2.2 0 100000))=true∧True→(u175 a0).isSome=true)∧True) <|
 some (vl (u172 a0.1)&&vl (u173 a0.2.2.1)&&vl (u174 a0)&&vl (u120 a0.2.2.2.2.2.1 0 100000)&&vl (u120 a0.2.2.2.2.2.2 0 100000)&&vl (u175 a0))
def k156:Ct:=lct 156 [.agg y134] (fun x=>u156 x.1) (fun r:Bool=>B r) (fun _=>())
theorem o156:Ok Tryz.prog k156:=by
 refine okL [.tmp 2] Tryz.func156 Tryz.ntmps156 Tryz.results156 ?_
 intro y ⟨a0,_⟩ r H Q hn hr
 have:HT _ _:=⟨tc o175 (tc o120 (tc o174 (tc o173 (tc o172 tn))))⟩
 refine qA (Z [p 1 (R 1)] [(1,K 134 y134 a0)]) <|
  qB (Z [p 2 (B (vl (u172 a0.1)&&vl (u173 a0.2.2.1)&&vl (u174 a0)&&vl (u120 a0.2.2.2.2.2.1 0 100000)&&vl (u120 a0.2.2.2.2.2.2 0 100000)&&vl (u175 a0)))] [(1,K 134 y134 a0)]) H fun H =>
  vx_ret<|hr H
def u131J0 (a0:List Y134):List ByteArray→Option (Bool)
 | v4 =>
 gd ((decide ((↑a0.length:Int)≤8)=true∧True→(u157 v4).isSome=true)∧True) <|
 some (decide ((↑a0.length:Int)≤8)&&vl (u157 v4))
def u131L1 (a0:List Y134) (g1:List ByteArray×Int→Option (Bool)):List ByteArray×Int→Option (Bool)
 | (v1,v2) =>
 if (decide (v2 < (↑a0.length:Int)))=true then
  gd (ix v2 a0.length∧True)<|lt (a0.getD v2.toNat (dflt y134)) fun v3 =>
  gd ((u156 v3).isSome=true∧True) <|
  if (!vl (u156 v3))=true then
   some false
  else
   gd ((v1.length+[v3.1].length≤9223372036854775807∧(v1.length+[v3.1].length)*16≤140737488355328)∧True) <|
   gd (in64 (v2+1)∧True) <|
   g1 (v1++[v3.1],v2+1)
 else
  u131J0 a0 v1
def u131 (a0:List Y134):Option (Bool) :=
 lp (u131L1 a0) ([],0)
def k131:Ct:=lct 131 [.agg y134.sl] (fun x=>u131 x.1) (fun r:Bool=>B r) (fun _=>())
theorem o131:Ok Tryz.prog k131:=by
 refine okL [.tmp 2] Tryz.func131 Tryz.ntmps131 Tryz.results131 ?_
 intro y ⟨a0,_⟩ r H Q hn hr
 have:HT _ _:=⟨tc o157 (tc o156 tn)⟩
 refine qA (Z [p 1 (R 1)] [(1,Ob.box 39 [L y134 a0])]) <|
  qA (Z [p 1 (R 1),p 3 (nil)] [(1,Ob.box 39 [L y134 a0])]) <|
  jN r (fun (v4:List ByteArray)=>Z [p 1 (R 1),p 3 (O 20)] [(1,Ob.box 39 [L y134 a0]),(20,A 9 Ty.str v4 0)]) (u131J0 a0) (fun v4 H=>?_) (fun _ n0 e0 t0=>?_)
 ·refine qB (Z [p 2 (B (decide ((↑a0.length:Int)≤8)&&vl (u157 v4)))] [(1,Ob.box 39 [L y134 a0]),(20,A 9 Ty.str v4 0)]) H fun H =>
   vx_ret<|hr H
 refine qA (Z [p 1 (R 1),p 3 (nil),p 7 (L y134 a0),p 8 (I (↑a0.length:Int)),p 9 (I 0)] [(1,Ob.box 39 [L y134 a0])]) <|
  vx_block <|
  lX (fun ((v1,v2):List ByteArray×Int)=>Z [p 1 (R 1),p 3 (O 20),p 7 (L y134 a0),p 8 (I (↑a0.length:Int)),p 9 (I v2)] [(1,Ob.box 39 [L y134 a0]),(20,A 9 Ty.str v1 0)]) ([],0) H fun _ g1 b1 e1 t1 ⟨v1,v2⟩ H =>
  qA (Z [p 1 (R 1),p 3 (O 20),p 7 (L y134 a0),p 8 (I (↑a0.length:Int)),p 9 (I v2),p 10 (B (decide (v2 < (↑a0.length:Int))))] [(1,Ob.box 39 [L y134 a0]),(20,A 9 Ty.str v1 0)]) <|
  vx_seq <|
  cD H (fun H=>?_) (fun H=>?_)
 ·refine vx_skip<|fx_seq<|vx_seq<|vx_block <|
   qD (fun v3=>Z [p 1 (R 1),p 3 (O 20),p 5 (R 5),p 7 (L y134 a0),p 8 (I (↑a0.length:Int)),p 9 (I v2)] [(5,K 134 y134 v3),(1,Ob.box 39 [L y134 a0]),(20,A 9 Ty.str v1 0)]) H fun v3 H =>
   vx_seq <|
   qB (Z [p 1 (R 1),p 3 (O 20),p 5 (R 5),p 7 (L y134 a0),p 8 (I (↑a0.length:Int)),p 9 (I v2),p 15 (B !vl (u156 v3))] [(5,K 134 y134 v3),(1,Ob.box 39 [L y134 a0]),(20,A 9 Ty.str v1 0)]) H fun H =>
   cD H (fun H=>?_) (fun H=>?_)
  ·refine qA (Z [p 2 (B false)] [(5,K 134 y134 v3),(1,Ob.box 39 [L y134 a0]),(20,A 9 Ty.str v1 0)]) <|
    vx_ret<|fx_seq_ret<|fx_blk_ret<|fx_seq_ret<|t1<|fx_blk_ret<|t0<|hr H
  refine vx_skip<|fx_seq <|
   zB (Z [p 1 (R 1),p 3 (AV.os 20 1),p 7 (L y134 a0),p 8 (I (↑a0.length:Int)),p 9 (I v2)] [(20,A 9 Ty.str (v1++[v3.1]) 1),(19,A 9 Ty.str [v3.1] 0),(5,K 134 y134 v3),(1,Ob.box 39 [L y134 a0])]) H fun H =>
   fx_blk<|fx_seq <|
   zB (Z [p 1 (R 1),p 3 (AV.os 20 1),p 7 (L y134 a0),p 8 (I (↑a0.length:Int)),p 9 (I (v2+1))] [(20,A 9 Ty.str (v1++[v3.1]) 1),(19,A 9 Ty.str [v3.1] 0),(5,K 134 y134 v3),(1,Ob.box 39 [L y134 a0])]) H fun H =>
   b1 H
 exact vx_exit<|fx_seq_exit<|e1<|fx_blk_exit rfl<|n0 H
def u161c135J0:Unit→Option (Int)
 | _ =>
 some (-1)
def u161c135L1 (a0:List Int) (g1:Int→Option (Int)):Int→Option (Int)
 | v0 =>
 if (decide (v0 < (↑a0.length:Int)))=true then
  gd (ix v0 a0.length∧(u135 (a0.getD v0.toNat 0)).isSome=true∧True) <|
  if (vl (u135 (a0.getD v0.toNat 0)))=true then
   some v0
  else
   gd (in64 (v0+1)∧True) <|
   g1 (v0+1)
 else
  u161c135J0 ()
def u161c135 (a0:List Int):Option (Int) :=
 lp (u161c135L1 a0) 0
def k161c135:Ct:=lct 161 [.dat i64.sl,.nof 135] (fun x=>u161c135 x.1) (fun r:Int=>I r) (fun _=>())
theorem o161c135:Ok Tryz.prog k161c135:=by
 refine okL [.tmp 4] Tryz.func161 Tryz.ntmps161 Tryz.results161 ?_
 intro y ⟨a0,_,_⟩ r H Q hn hr
 have:HT _ _:=⟨tc o135 tn⟩
 refine qA (Z [p 0 (L i64 a0),p 1 (AV.fn 135 [])] []) <|
  jN r (fun (_:Unit)=>Z [] []) (u161c135J0) (fun _ H=>?_) (fun _ n0 e0 t0=>?_)
 ·refine qA (Z [p 4 (I (-1))] []) <|
   vx_ret<|hr H
 refine qA (Z [p 0 (L i64 a0),p 1 (AV.fn 135 []),p 7 (I (↑a0.length:Int)),p 8 (I 0)] []) <|
  vx_block <|
  lX (fun (v0:Int)=>Z [p 0 (L i64 a0),p 1 (AV.fn 135 []),p 7 (I (↑a0.length:Int)),p 8 (I v0)] []) 0 H fun _ g1 b1 e1 t1 v0 H =>
  qA (Z [p 0 (L i64 a0),p 1 (AV.fn 135 []),p 7 (I (↑a0.length:Int)),p 8 (I v0),p 9 (B (decide (v0 < (↑a0.length:Int))))] []) <|
  vx_seq <|
  cD H (fun H=>?_) (fun H=>?_)
 ·refine vx_skip<|fx_seq<|vx_seq<|vx_block <|
   qA (Z [p 0 (L i64 a0),p 1 (AV.fn 135 []),p 5 (I v0),p 7 (I (↑a0.length:Int)),p 8 (I v0)] []) <|
   qB (Z [p 0 (L i64 a0),p 1 (AV.fn 135 []),p 5 (I v0),p 7 (I (↑a0.length:Int)),p 8 (I v0),p 16 (B (vl (u135 (a0.getD v0.toNat 0))))] []) H fun H =>
   cD H (fun H=>?_) (fun H=>?_)
  ·refine qA (Z [p 4 (I v0)] []) <|
    vx_ret<|fx_blk_ret<|fx_seq_ret<|t1<|fx_blk_ret<|t0<|hr H
  refine vx_skip<|fx_blk<|fx_seq <|
   zB (Z [p 0 (L i64 a0),p 1 (AV.fn 135 []),p 7 (I (↑a0.length:Int)),p 8 (I (v0+1))] []) H fun H =>
   b1 H
 exact vx_exit<|fx_seq_exit<|e1<|fx_blk_exit rfl<|n0 H
def u134c135 (a0:List Int):Option (Bool) :=
 gd ((u161c135 a0).isSome=true∧True)<|lt (vl (u161c135 a0)) fun v0 =>
 some (decide (0≤v0))
def k134c135:Ct:=lct 134 [.dat i64.sl,.nof 135] (fun x=>u134c135 x.1) (fun r:Bool=>B r) (fun _=>())
theorem o134c135:Ok Tryz.prog k134c135:=by
 refine okL [.tmp 4] Tryz.func134 Tryz.ntmps134 Tryz.results134 ?_
 intro y ⟨a0,_,_⟩ r H Q hn hr
 have:HT _ _:=⟨tc o161c135 (tc o135 tn)⟩
 refine qA (Z [p 0 (L i64 a0),p 1 (AV.fn 135 [])] []) <|
  qD (fun v0=>Z [p 4 (B (decide (0≤v0)))] []) H fun v0 H =>
  vx_ret<|hr H
def u95J2:List Int→Option (Bool)
 | v13 =>
 gd ((u134c135 v13).isSome=true∧True) <|
 some (!vl (u134c135 v13))
def u95J4 (v9:Int) (g3:Int×List Int→Option (Bool)):List Int→Option (Bool)
 | v12 =>
 gd (in64 (v9+1)∧True) <|
 g3 (v9+1,v12)
def u95L3 (a1:Y43) (g3:Int×List Int→Option (Bool)):Int×List Int→Option (Bool)
 | (v9,v10) =>
 if (decide (v9 < (↑a1.2.2.length:Int)))=true then
  gd (ix v9 a1.2.2.length∧True)<|lt (a1.2.2.getD v9.toNat (dflt y172)) fun v11 =>
  gd (((v11.2.1 != 1&&v11.2.1 != 2)=false∧True→(u77 a1 v11.2.2).isSome=true)∧True) <|
  if (v11.2.1 != 1&&v11.2.1 != 2||!vl (u77 a1 v11.2.2))=true then
   some false
  else
   if (v11.2.1==1)=true then
    gd (ix v11.2.2 v10.length∧v11.2.2.toNat < v10.length∧in64 (v10.getD v11.2.2.toNat 0+1)∧ix v11.2.2 v10.length∧v11.2.2.toNat < v10.length∧True) <|
    u95J4 v9 g3 (v10.set v11.2.2.toNat (v10.getD v11.2.2.toNat 0+1))
   else
    u95J4 v9 g3 v10
 else
  u95J2 v10
def u95J0 (a1:Y43):List Int→Option (Bool)
 | v6 =>
 lp (u95L3 a1) (0,v6)
def u95L1 (a1:Y43) (a0:List Y134) (g1:Int×List Int→Option (Bool)):Int×List Int→Option (Bool)
 | (v2,v3) =>
 if (decide (v2 < (↑a1.1.length:Int)))=true then
  gd (ix v2 a1.1.length∧True)<|lt (a1.1.getD v2.toNat (dflt y136)) fun v4 =>
  gd ((u133 a1 a0 v4).isSome=true∧True) <|
  if (!vl (u133 a1 a0 v4))=true then
   some false
  else
   gd (in64 ((↑v4.2.2.length:Int) - 1)∧ix ((↑v4.2.2.length:Int) - 1) v4.2.2.length∧ix (v4.2.2.getD ((↑v4.2.2.length:Int) - 1).toNat 0) v3.length∧Int.toNat (v4.2.2.getD ((↑v4.2.2.length:Int) - 1).toNat 0) < v3.length∧in64 (v3.getD (Int.toNat (v4.2.2.getD ((↑v4.2.2.length:Int) - 1).toNat 0)) 0+1)∧ix (v4.2.2.getD ((↑v4.2.2.length:Int) - 1).toNat 0) v3.length∧Int.toNat (v4.2.2.getD ((↑v4.2.2.length:Int) - 1).toNat 0) < v3.length∧True)<|lt (v3.set (Int.toNat (v4.2.2.getD ((↑v4.2.2.length:Int) - 1).toNat 0)) (v3.getD (Int.toNat (v4.2.2.getD ((↑v4.2.2.length:Int) - 1).toNat 0)) 0+1)) fun v5 =>
   gd (in64 (v2+1)∧True) <|
   g1 (v2+1,v5)
 else
  u95J0 a1 v3
def u95 (a0:List Y134) (a1:Y43):Option (Bool) :=
 gd ((u131 a0).isSome=true∧((!vl (u131 a0))=false∧True→(u132 a1).isSome=true)∧True) <|
 if (!vl (u131 a0)||!vl (u132 a1))=true then
  some false
 else
  gd ((0≤(↑a1.2.1.length:Int)∧(↑a1.2.1.length:Int)=(↑a1.2.1.length:Int)∧(↑a1.2.1.length:Int).toNat*8≤281474976710656∧(↑a1.2.1.length:Int)≤9223372036854775807)∧True) <|
  lp (u95L1 a1 a0) ((0,List.replicate (↑a1.2.1.length:Int).toNat 0))
def k95:Ct:=lct 95 [.agg y134.sl,.agg y43] (fun x=>u95 x.1 x.2.1) (fun r:Bool=>B r) (fun _=>())
theorem o95:Ok Tryz.prog k95:=by
 refine okL [.tmp 4] Tryz.func95 Tryz.ntmps95 Tryz.results95 ?_
 intro y ⟨a0,a1,_⟩ r H Q hn hr
 have:HT _ _:=⟨tc o135 (tc o134c135 (tc o77 (tc o133 (tc o132 (tc o131 tn)))))⟩
 refine qA (Z [p 2 (R 2),p 3 (R 3)] [(3,K 43 y43 a1),(2,Ob.box 39 [L y134 a0])]) <|
  vx_seq <|
  qB (Z [p 2 (R 2),p 3 (R 3),p 17 (B (!vl (u131 a0)||!vl (u132 a1)))] [(3,K 43 y43 a1),(2,Ob.box 39 [L y134 a0])]) H fun H =>
  cD H (fun H=>?_) (fun H=>?_)
 ·refine qA (Z [p 4 (B false)] [(3,K 43 y43 a1),(2,Ob.box 39 [L y134 a0])]) <|
   vx_ret<|fx_seq_ret<|hr H
 refine vx_skip<|fx_seq <|
  qB (Z [p 2 (R 2),p 3 (R 3),p 5 (O 21)] [(21,A 3 i64 (List.replicate (↑a1.2.1.length:Int).toNat 0) 0),(3,K 43 y43 a1),(2,Ob.box 39 [L y134 a0])]) H fun H =>
  jN r (fun (v6:List Int)=>Z [p 3 (R 3),p 5 (O 21)] [(21,A 3 i64 v6 0),(3,K 43 y43 a1)]) (u95J0 a1) (fun v6 H=>?_) (fun _ n0 e0 t0=>?_)
 ·refine jN r (fun (v13:List Int)=>Z [p 5 (O 21)] [(21,A 3 i64 v13 0)]) (u95J2) (fun v13 H=>?_) (fun _ n2 e2 t2=>?_)
  ·refine qB (Z [p 4 (B !vl (u134c135 v13))] [(21,A 3 i64 v13 0)]) H fun H =>
    vx_ret<|hr H
  refine qA (Z [p 3 (R 3),p 5 (O 21),p 49 (L y172 a1.2.2),p 50 (I (↑a1.2.2.length:Int)),p 51 (I 0)] [(21,A 3 i64 v6 0),(3,K 43 y43 a1)]) <|
   vx_block <|
   lX (fun ((v9,v10):Int×List Int)=>Z [p 3 (R 3),p 5 (O 21),p 49 (L y172 a1.2.2),p 50 (I (↑a1.2.2.length:Int)),p 51 (I v9)] [(21,A 3 i64 v10 0),(3,K 43 y43 a1)]) (0,v6) H fun _ g3 b3 e3 t3 ⟨v9,v10⟩ H =>
   qA (Z [p 3 (R 3),p 5 (O 21),p 49 (L y172 a1.2.2),p 50 (I (↑a1.2.2.length:Int)),p 51 (I v9),p 52 (B (decide (v9 < (↑a1.2.2.length:Int))))] [(21,A 3 i64 v10 0),(3,K 43 y43 a1)]) <|
   vx_seq <|
   cD H (fun H=>?_) (fun H=>?_)
  ·refine vx_skip<|fx_seq <|
    jN r (fun (v12:List Int)=>Z [p 3 (R 3),p 5 (O 21),p 49 (L y172 a1.2.2),p 50 (I (↑a1.2.2.length:Int)),p 51 (I v9)] [(21,A 3 i64 v12 0),(3,K 43 y43 a1)]) (u95J4 v9 g3) (fun v12 H=>?_) (fun _ n4 e4 t4=>?_)
   ·refine zB (Z [p 3 (R 3),p 5 (O 21),p 49 (L y172 a1.2.2),p 50 (I (↑a1.2.2.length:Int)),p 51 (I (v9+1))] [(21,A 3 i64 v12 0),(3,K 43 y43 a1)]) H fun H =>
     b3 H
   refine vx_block <|
    qD (fun v11=>Z [p 3 (R 3),p 5 (O 21),p 9 (R 9),p 49 (L y172 a1.2.2),p 50 (I (↑a1.2.2.length:Int)),p 51 (I v9)] [(9,K 172 y172 v11),(21,A 3 i64 v10 0),(3,K 43 y43 a1)]) H fun v11 H =>
    vx_seq <|
    qB (Z [p 3 (R 3),p 5 (O 21),p 9 (R 9),p 49 (L y172 a1.2.2),p 50 (I (↑a1.2.2.length:Int)),p 51 (I v9),p 69 (B (v11.2.1 != 1&&v11.2.1 != 2||!vl (u77 a1 v11.2.2)))] [(9,K 172 y172 v11),(21,A 3 i64 v10 0),(3,K 43 y43 a1)]) H fun H =>
    cD H (fun H=>?_) (fun H=>?_)
   ·refine qA (Z [p 4 (B false)] [(9,K 172 y172 v11),(21,A 3 i64 v10 0),(3,K 43 y43 a1)]) <|
     vx_ret<|fx_seq_ret<|fx_blk_ret<|t4<|t3<|fx_blk_ret<|t2<|hr H
   refine vx_skip<|fx_seq <|
    qA (Z [p 3 (R 3),p 5 (O 21),p 9 (R 9),p 49 (L y172 a1.2.2),p 50 (I (↑a1.2.2.length:Int)),p 51 (I v9),p 72 (B (v11.2.1==1))] [(9,K 172 y172 v11),(21,A 3 i64 v10 0),(3,K 43 y43 a1)]) <|
    cD H (fun H=>?_) (fun H=>?_)
   ·refine zB (Z [p 3 (R 3),p 5 (O 21),p 49 (L y172 a1.2.2),p 50 (I (↑a1.2.2.length:Int)),p 51 (I v9)] [(21,A 3 i64 (v10.set v11.2.2.toNat (v10.getD v11.2.2.toNat 0+1)) 0),(9,K 172 y172 v11),(3,K 43 y43 a1)]) H fun H =>
     fx_blk<|n4 H
   exact vx_skip<|fx_blk<|n4 H
  exact vx_exit<|fx_seq_exit<|e3<|fx_blk_exit rfl<|n2 H
 refine qA (Z [p 2 (R 2),p 3 (R 3),p 5 (O 21),p 23 (L y136 a1.1),p 24 (I (↑a1.1.length:Int)),p 25 (I 0)] [(21,A 3 i64 (List.replicate (↑a1.2.1.length:Int).toNat 0) 0),(3,K 43 y43 a1),(2,Ob.box 39 [L y134 a0])]) <|
  vx_block <|
  lX (fun ((v2,v3):Int×List Int)=>Z [p 2 (R 2),p 3 (R 3),p 5 (O 21),p 23 (L y136 a1.1),p 24 (I (↑a1.1.length:Int)),p 25 (I v2)] [(21,A 3 i64 v3 0),(3,K 43 y43 a1),(2,Ob.box 39 [L y134 a0])]) ((0,List.replicate (↑a1.2.1.length:Int).toNat 0)) H fun _ g1 b1 e1 t1 ⟨v2,v3⟩ H =>
  qA (Z [p 2 (R 2),p 3 (R 3),p 5 (O 21),p 23 (L y136 a1.1),p 24 (I (↑a1.1.length:Int)),p 25 (I v2),p 26 (B (decide (v2 < (↑a1.1.length:Int))))] [(21,A 3 i64 v3 0),(3,K 43 y43 a1),(2,Ob.box 39 [L y134 a0])]) <|
  vx_seq <|
  cD H (fun H=>?_) (fun H=>?_)
 ·refine vx_skip<|fx_seq<|vx_seq<|vx_block <|
   qD (fun v4=>Z [p 2 (R 2),p 3 (R 3),p 5 (O 21),p 7 (R 7),p 23 (L y136 a1.1),p 24 (I (↑a1.1.length:Int)),p 25 (I v2)] [(7,K 136 y136 v4),(21,A 3 i64 v3 0),(3,K 43 y43 a1),(2,Ob.box 39 [L y134 a0])]) H fun v4 H =>
   vx_seq <|
   qB (Z [p 2 (R 2),p 3 (R 3),p 5 (O 21),p 7 (R 7),p 23 (L y136 a1.1),p 24 (I (↑a1.1.length:Int)),p 25 (I v2),p 33 (B !vl (u133 a1 a0 v4))] [(7,K 136 y136 v4),(21,A 3 i64 v3 0),(3,K 43 y43 a1),(2,Ob.box 39 [L y134 a0])]) H fun H =>
   cD H (fun H=>?_) (fun H=>?_)
  ·refine qA (Z [p 4 (B false)] [(7,K 136 y136 v4),(21,A 3 i64 v3 0),(3,K 43 y43 a1),(2,Ob.box 39 [L y134 a0])]) <|
    vx_ret<|fx_seq_ret<|fx_blk_ret<|fx_seq_ret<|t1<|fx_blk_ret<|t0<|hr H
  refine vx_skip<|fx_seq <|
   zD (fun v5=>Z [p 2 (R 2),p 3 (R 3),p 5 (O 21),p 23 (L y136 a1.1),p 24 (I (↑a1.1.length:Int)),p 25 (I v2)] [(21,A 3 i64 v5 0),(7,K 136 y136 v4),(3,K 43 y43 a1),(2,Ob.box 39 [L y134 a0])]) H fun v5 H =>
   fx_blk<|fx_seq <|
   zB (Z [p 2 (R 2),p 3 (R 3),p 5 (O 21),p 23 (L y136 a1.1),p 24 (I (↑a1.1.length:Int)),p 25 (I (v2+1))] [(21,A 3 i64 v5 0),(7,K 136 y136 v4),(3,K 43 y43 a1),(2,Ob.box 39 [L y134 a0])]) H fun H =>
   b1 H
 exact vx_exit<|fx_seq_exit<|e1<|fx_blk_exit rfl<|n0 H
def u50J3:Unit→Option (Bool)
 | _ =>
 some true
def u50L4 (v9:List Int) (a0:Y46) (g4:Int→Option (Bool)):Int→Option (Bool)
 | v11 =>
 if (decide (v11 < (↑a0.2.2.length:Int)))=true then
  gd (ix v11 a0.2.2.length∧True)<|lt (a0.2.2.getD v11.toNat (dflt y114)) fun v12 =>
  gd (ix v11 v9.length∧v11.toNat < v9.length∧(u97 v12 (v9.getD v11.toNat 0)).isSome=true∧True) <|
  if (!vl (u97 v12 (v9.getD v11.toNat 0)))=true then
   some false
  else
   gd (in64 (v11+1)∧True) <|
   g4 (v11+1)
 else
  u50J3 ()
def u50J0 (a0:Y46):List Int→Option (Bool)
 | v9 =>
 lp (u50L4 v9 a0) 0
def u50J2 (v4:Int) (g1:Int×List Int→Option (Bool)):List Int→Option (Bool)
 | v8 =>
 gd (in64 (v4+1)∧True) <|
 g1 (v4+1,v8)
def u50L1 (v0:List Y146) (a0:Y46) (g1:Int×List Int→Option (Bool)):Int×List Int→Option (Bool)
 | (v4,v5) =>
 if (decide (v4 < (↑v0.length:Int)))=true then
  gd (ix v4 v0.length∧v4.toNat < v0.length∧True)<|lt (v0.getD v4.toNat (dflt y146)) fun v6 =>
  if (!v6.2.2.2)=true then
   gd (ix v6.2.2.1 v5.length∧v6.2.2.1.toNat < v5.length∧in64 (v5.getD v6.2.2.1.toNat 0+1)∧ix v6.2.2.1 v5.length∧v6.2.2.1.toNat < v5.length∧True)<|lt (v5.set v6.2.2.1.toNat (v5.getD v6.2.2.1.toNat 0+1)) fun v7 =>
   u50J2 v4 g1 v7
  else
   u50J2 v4 g1 v5
 else
  u50J0 a0 v5
def u50 (a0:Y46):Option (Bool) :=
 gd ((u95 a0.1 a0.2.1).isSome=true∧True) <|
 if (!vl (u95 a0.1 a0.2.1)||(↑a0.2.2.length:Int) != (↑a0.2.1.2.1.length:Int))=true then
  some false
 else
  gd ((0≤(↑a0.2.2.length:Int)∧(↑a0.2.2.length:Int)=(↑a0.2.2.length:Int)∧(↑a0.2.2.length:Int).toNat*8≤281474976710656∧(↑a0.2.2.length:Int)≤9223372036854775807)∧True) <|
  gd ((u96 a0.2.1).isSome=true∧True)<|lt (vl (u96 a0.2.1)) fun v0 =>
  lp (u50L1 v0 a0) ((0,List.replicate (↑a0.2.2.length:Int).toNat 0))
def k50:Ct:=lct 50 [.agg y46] (fun x=>u50 x.1) (fun r:Bool=>B r) (fun _=>())
theorem o50:Ok Tryz.prog k50:=by
 refine okL [.tmp 2] Tryz.func50 Tryz.ntmps50 Tryz.results50 ?_
 intro y ⟨a0,_⟩ r H Q hn hr
 have:HT _ _:=⟨tc o97 (tc o96 (tc o95 tn))⟩
 refine qA (Z [p 1 (R 1)] [(1,K 46 y46 a0)]) <|
  vx_seq <|
  qB (Z [p 1 (R 1),p 23 (B (!vl (u95 a0.1 a0.2.1)||(↑a0.2.2.length:Int) != (↑a0.2.1.2.1.length:Int)))] [(1,K 46 y46 a0)]) H fun H =>
  cD H (fun H=>?_) (fun H=>?_)
 ·refine qA (Z [p 2 (B false)] [(1,K 46 y46 a0)]) <|
   vx_ret<|fx_seq_ret<|hr H
 refine vx_skip<|fx_seq <|
  qB (Z [p 1 (R 1),p 3 (O 27)] [(27,A 2 i64 (List.replicate (↑a0.2.2.length:Int).toNat 0) 0),(1,K 46 y46 a0)]) H fun H =>
  jN r (fun (v9:List Int)=>Z [p 1 (R 1),p 3 (O 27)] [(27,A 2 i64 v9 0),(1,K 46 y46 a0)]) (u50J0 a0) (fun v9 H=>?_) (fun _ n0 e0 t0=>?_)
 ·refine jN r (fun (_:Unit)=>Z [] []) (u50J3) (fun _ H=>?_) (fun _ n3 e3 t3=>?_)
  ·refine qA (Z [p 2 (B true)] []) <|
    vx_ret<|hr H
  refine qA (Z [p 3 (O 27),p 48 (L y114 a0.2.2),p 49 (I (↑a0.2.2.length:Int)),p 50 (I 0)] [(27,A 2 i64 v9 0),(1,K 46 y46 a0)]) <|
   vx_block <|
   lX (fun (v11:Int)=>Z [p 3 (O 27),p 48 (L y114 a0.2.2),p 49 (I (↑a0.2.2.length:Int)),p 50 (I v11)] [(27,A 2 i64 v9 0)]) 0 H fun _ g4 b4 e4 t4 v11 H =>
   qA (Z [p 3 (O 27),p 48 (L y114 a0.2.2),p 49 (I (↑a0.2.2.length:Int)),p 50 (I v11),p 51 (B (decide (v11 < (↑a0.2.2.length:Int))))] [(27,A 2 i64 v9 0)]) <|
   vx_seq <|
   cD H (fun H=>?_) (fun H=>?_)
  ·refine vx_skip<|fx_seq<|vx_seq<|vx_block <|
    qD (fun v12=>Z [p 3 (O 27),p 6 (I v11),p 7 (R 7),p 48 (L y114 a0.2.2),p 49 (I (↑a0.2.2.length:Int)),p 50 (I v11)] [(7,K 114 y114 v12),(27,A 2 i64 v9 0)]) H fun v12 H =>
    qB (Z [p 3 (O 27),p 48 (L y114 a0.2.2),p 49 (I (↑a0.2.2.length:Int)),p 50 (I v11),p 61 (B !vl (u97 v12 (v9.getD v11.toNat 0)))] [(7,K 114 y114 v12),(27,A 2 i64 v9 0)]) H fun H =>
    cD H (fun H=>?_) (fun H=>?_)
   ·refine qA (Z [p 2 (B false)] [(7,K 114 y114 v12),(27,A 2 i64 v9 0)]) <|
     vx_ret<|fx_blk_ret<|fx_seq_ret<|t4<|fx_blk_ret<|t3<|hr H
   refine vx_skip<|fx_blk<|fx_seq <|
    zB (Z [p 3 (O 27),p 48 (L y114 a0.2.2),p 49 (I (↑a0.2.2.length:Int)),p 50 (I (v11+1))] [(7,K 114 y114 v12),(27,A 2 i64 v9 0)]) H fun H =>
    b4 H
  exact vx_exit<|fx_seq_exit<|e4<|fx_blk_exit rfl<|n3 H
 refine qD (fun v0=>Z [p 1 (R 1),p 3 (O 27),p 30 (O 30),p 31 (I (↑v0.length:Int)),p 32 (I 0)] [(30,A 146 y146 v0 0),(27,A 2 i64 (List.replicate (↑a0.2.2.length:Int).toNat 0) 0),(1,K 46 y46 a0)]) H fun v0 H =>
  vx_block <|
  lX (fun ((v4,v5):Int×List Int)=>Z [p 1 (R 1),p 3 (O 27),p 30 (O 30),p 31 (I (↑v0.length:Int)),p 32 (I v4)] [(30,A 146 y146 v0 0),(27,A 2 i64 v5 0),(1,K 46 y46 a0)]) ((0,List.replicate (↑a0.2.2.length:Int).toNat 0)) H fun _ g1 b1 e1 t1 ⟨v4,v5⟩ H =>
  qA (Z [p 1 (R 1),p 3 (O 27),p 30 (O 30),p 31 (I (↑v0.length:Int)),p 32 (I v4),p 33 (B (decide (v4 < (↑v0.length:Int))))] [(30,A 146 y146 v0 0),(27,A 2 i64 v5 0),(1,K 46 y46 a0)]) <|
  vx_seq <|
  cD H (fun H=>?_) (fun H=>?_)
 ·refine vx_skip<|fx_seq <|
   jN r (fun (v8:List Int)=>Z [p 1 (R 1),p 3 (O 27),p 30 (O 30),p 31 (I (↑v0.length:Int)),p 32 (I v4)] [(27,A 2 i64 v8 0),(30,A 146 y146 v0 0),(1,K 46 y46 a0)]) (u50J2 v4 g1) (fun v8 H=>?_) (fun _ n2 e2 t2=>?_)
  ·refine zB (Z [p 1 (R 1),p 3 (O 27),p 30 (O 30),p 31 (I (↑v0.length:Int)),p 32 (I (v4+1))] [(27,A 2 i64 v8 0),(30,A 146 y146 v0 0),(1,K 46 y46 a0)]) H fun H =>
    b1 H
  refine vx_block <|
   qD (fun v6=>Z [p 1 (R 1),p 3 (O 27),p 5 (R 5),p 30 (O 30),p 31 (I (↑v0.length:Int)),p 32 (I v4)] [(5,Ob.box 146 (cellsD true y146 v6)),(30,A 146 y146 v0 0),(27,A 2 i64 v5 0),(1,K 46 y46 a0)]) H fun v6 H =>
   qA (Z [p 1 (R 1),p 3 (O 27),p 5 (R 5),p 30 (O 30),p 31 (I (↑v0.length:Int)),p 32 (I v4),p 38 (B !v6.2.2.2)] [(5,Ob.box 146 (cellsD true y146 v6)),(30,A 146 y146 v0 0),(27,A 2 i64 v5 0),(1,K 46 y46 a0)]) <|
   cD H (fun H=>?_) (fun H=>?_)
  ·refine zD (fun v7=>Z [p 1 (R 1),p 3 (O 27),p 30 (O 30),p 31 (I (↑v0.length:Int)),p 32 (I v4)] [(27,A 2 i64 v7 0),(5,Ob.box 146 (cellsD true y146 v6)),(30,A 146 y146 v0 0),(1,K 46 y46 a0)]) H fun v7 H =>
    fx_blk<|n2 H
  exact vx_skip<|fx_blk<|n2 H
 exact vx_exit<|fx_seq_exit<|e1<|fx_blk_exit rfl<|n0 H
def u12J0:Unit→Option (Bool)
 | _ =>
 some true
def u12L1 (a0:List Int) (a1:List Int) (g1:Int→Option (Bool)):Int→Option (Bool)
 | v0 =>
 if (decide (v0 < (↑a0.length:Int)))=true then
  gd (ix v0 a0.length∧ix v0 a1.length∧True) <|
  if (a0.getD v0.toNat 0 != a1.getD v0.toNat 0)=true then
   some false
  else
   gd (in64 (v0+1)∧True) <|
   g1 (v0+1)
 else
  u12J0 ()
def u12 (a0:List Int) (a1:List Int):Option (Bool) :=
 if ((↑a0.length:Int) != (↑a1.length:Int))=true then
  some false
 else
  lp (u12L1 a0 a1) 0
def k12:Ct:=lct 12 [.dat i64.sl,.dat i64.sl] (fun x=>u12 x.1 x.2.1) (fun r:Bool=>B r) (fun _=>())
theorem o12:Ok Tryz.prog k12:=by
 refine okL [.tmp 4] Tryz.func12 Tryz.ntmps12 Tryz.results12 ?_
 intro y ⟨a0,a1,_⟩ r H Q hn hr
 have:HT _ _:=⟨@tn Tryz.prog⟩
 refine qA (Z [p 0 (L i64 a0),p 1 (L i64 a1)] []) <|
  vx_seq <|
  qA (Z [p 0 (L i64 a0),p 1 (L i64 a1),p 10 (B ((↑a0.length:Int) != (↑a1.length:Int)))] []) <|
  cD H (fun H=>?_) (fun H=>?_)
 ·refine qA (Z [p 4 (B false)] []) <|
   vx_ret<|fx_seq_ret<|hr H
 refine vx_skip<|fx_seq <|
  jN r (fun (_:Unit)=>Z [] []) (u12J0) (fun _ H=>?_) (fun _ n0 e0 t0=>?_)
 ·refine qA (Z [p 4 (B true)] []) <|
   vx_ret<|hr H
 refine qA (Z [p 0 (L i64 a0),p 1 (L i64 a1),p 5 (I 0)] []) <|
  vx_block <|
  lX (fun (v0:Int)=>Z [p 0 (L i64 a0),p 1 (L i64 a1),p 5 (I v0)] []) 0 H fun _ g1 b1 e1 t1 v0 H =>
  vx_seq <|
  qA (Z [p 0 (L i64 a0),p 1 (L i64 a1),p 5 (I v0),p 14 (B (decide (v0 < (↑a0.length:Int))))] []) <|
  cD H (fun H=>?_) (fun H=>?_)
 ·refine vx_skip<|fx_seq<|vx_seq<|vx_block <|
   qB (Z [p 0 (L i64 a0),p 1 (L i64 a1),p 5 (I v0),p 25 (B (a0.getD v0.toNat 0 != a1.getD v0.toNat 0))] []) H fun H =>
   cD H (fun H=>?_) (fun H=>?_)
  ·refine qA (Z [p 4 (B false)] []) <|
    vx_ret<|fx_blk_ret<|fx_seq_ret<|t1<|fx_blk_ret<|t0<|hr H
  refine vx_skip<|fx_blk<|fx_seq <|
   zB (Z [p 0 (L i64 a0),p 1 (L i64 a1),p 5 (I (v0+1))] []) H fun H =>
   b1 H
 exact vx_exit<|fx_seq_exit<|e1<|fx_blk_exit rfl<|n0 H
def u83 (a0:Y114) (a1:Y114):Option (Bool) :=
 gd ((u12 a0.1 a1.1).isSome=true∧True) <|
 if (!vl (u12 a0.1 a1.1))=true then
  some false
 else
  gd ((u12 a0.2.1 a1.2.1).isSome=true∧True) <|
  if (!vl (u12 a0.2.1 a1.2.1))=true then
   some false
  else
   gd ((u12 a0.2.2.1 a1.2.2.1).isSome=true∧True) <|
   if (!vl (u12 a0.2.2.1 a1.2.2.1))=true then
    some false
   else
    gd ((u12 a0.2.2.2 a1.2.2.2).isSome=true∧True) <|
    if (!vl (u12 a0.2.2.2 a1.2.2.2))=true then
     some false
    else
     some true
def k83:Ct:=lct 83 [.agg y114,.agg y114] (fun x=>u83 x.1 x.2.1) (fun r:Bool=>B r) (fun _=>())
theorem o83:Ok Tryz.prog k83:=by
 refine okL [.tmp 4] Tryz.func83 Tryz.ntmps83 Tryz.results83 ?_
 intro y ⟨a0,a1,_⟩ r H Q hn hr
 have:HT _ _:=⟨tc o12 tn⟩
 refine qA (Z [p 2 (R 2),p 3 (R 3)] [(3,K 114 y114 a1),(2,K 114 y114 a0)]) <|
  vx_seq <|
  qB (Z [p 2 (R 2),p 3 (R 3),p 10 (B !vl (u12 a0.1 a1.1))] [(3,K 114 y114 a1),(2,K 114 y114 a0)]) H fun H =>
  cD H (fun H=>?_) (fun H=>?_)
 ·refine qA (Z [p 4 (B false)] [(3,K 114 y114 a1),(2,K 114 y114 a0)]) <|
   vx_ret<|fx_seq_ret<|hr H
 refine vx_skip<|fx_seq<|vx_seq <|
  qB (Z [p 2 (R 2),p 3 (R 3),p 16 (B !vl (u12 a0.2.1 a1.2.1))] [(3,K 114 y114 a1),(2,K 114 y114 a0)]) H fun H =>
  cD H (fun H=>?_) (fun H=>?_)
 ·refine qA (Z [p 4 (B false)] [(3,K 114 y114 a1),(2,K 114 y114 a0)]) <|
   vx_ret<|fx_seq_ret<|hr H
 refine vx_skip<|fx_seq<|vx_seq <|
  qB (Z [p 2 (R 2),p 3 (R 3),p 22 (B !vl (u12 a0.2.2.1 a1.2.2.1))] [(3,K 114 y114 a1),(2,K 114 y114 a0)]) H fun H =>
  cD H (fun H=>?_) (fun H=>?_)
 ·refine qA (Z [p 4 (B false)] [(3,K 114 y114 a1),(2,K 114 y114 a0)]) <|
   vx_ret<|fx_seq_ret<|hr H
 refine vx_skip<|fx_seq<|vx_seq <|
  qB (Z [p 28 (B !vl (u12 a0.2.2.2 a1.2.2.2))] [(3,K 114 y114 a1),(2,K 114 y114 a0)]) H fun H =>
  cD H (fun H=>?_) (fun H=>?_)
 ·refine qA (Z [p 4 (B false)] [(3,K 114 y114 a1),(2,K 114 y114 a0)]) <|
   vx_ret<|fx_seq_ret<|hr H
 refine vx_skip<|fx_seq <|
  qA (Z [p 4 (B true)] [(3,K 114 y114 a1),(2,K 114 y114 a0)]) <|
  vx_ret<|hr H
def u44J0:Unit→Option (Bool)
 | _ =>
 some true
def u44L1 (a0:List Y114) (a1:List Y114) (g1:Int→Option (Bool)):Int→Option (Bool)
 | v0 =>
 if (decide (v0 < (↑a0.length:Int)))=true then
  gd (ix v0 a0.length∧ix v0 a1.length∧(u83 (a0.getD v0.toNat (dflt y114)) (a1.getD v0.toNat (dflt y114))).isSome=true∧True) <|
  if (!vl (u83 (a0.getD v0.toNat (dflt y114)) (a1.getD v0.toNat (dflt y114))))=true then
   some false
  else
   gd (in64 (v0+1)∧True) <|
   g1 (v0+1)
 else
  u44J0 ()
def u44 (a0:List Y114) (a1:List Y114):Option (Bool) :=
 if ((↑a0.length:Int) != (↑a1.length:Int))=true then
  some false
 else
  lp (u44L1 a0 a1) 0
def k44:Ct:=lct 44 [.dat y114.sl,.dat y114.sl] (fun x=>u44 x.1 x.2.1) (fun r:Bool=>B r) (fun _=>())
theorem o44:Ok Tryz.prog k44:=by
 refine okL [.tmp 4] Tryz.func44 Tryz.ntmps44 Tryz.results44 ?_
 intro y ⟨a0,a1,_⟩ r H Q hn hr
 have:HT _ _:=⟨tc o83 tn⟩
 refine qA (Z [p 0 (L y114 a0),p 1 (L y114 a1)] []) <|
  vx_seq <|
  qA (Z [p 0 (L y114 a0),p 1 (L y114 a1),p 10 (B ((↑a0.length:Int) != (↑a1.length:Int)))] []) <|
  cD H (fun H=>?_) (fun H=>?_)
 ·refine qA (Z [p 4 (B false)] []) <|
   vx_ret<|fx_seq_ret<|hr H
 refine vx_skip<|fx_seq <|
  jN r (fun (_:Unit)=>Z [] []) (u44J0) (fun _ H=>?_) (fun _ n0 e0 t0=>?_)
 ·refine qA (Z [p 4 (B true)] []) <|
   vx_ret<|hr H
 refine qA (Z [p 0 (L y114 a0),p 1 (L y114 a1),p 5 (I 0)] []) <|
  vx_block <|
  lX (fun (v0:Int)=>Z [p 0 (L y114 a0),p 1 (L y114 a1),p 5 (I v0)] []) 0 H fun _ g1 b1 e1 t1 v0 H =>
  vx_seq <|
  qA (Z [p 0 (L y114 a0),p 1 (L y114 a1),p 5 (I v0),p 14 (B (decide (v0 < (↑a0.length:Int))))] []) <|
  cD H (fun H=>?_) (fun H=>?_)
 ·refine vx_skip<|fx_seq<|vx_seq<|vx_block <|
   qB (Z [p 0 (L y114 a0),p 1 (L y114 a1),p 5 (I v0),p 26 (B !vl (u83 (a0.getD v0.toNat (dflt y114)) (a1.getD v0.toNat (dflt y114))))] []) H fun H =>
   cD H (fun H=>?_) (fun H=>?_)
  ·refine qA (Z [p 4 (B false)] []) <|
    vx_ret<|fx_blk_ret<|fx_seq_ret<|t1<|fx_blk_ret<|t0<|hr H
  refine vx_skip<|fx_blk<|fx_seq <|
   zB (Z [p 0 (L y114 a0),p 1 (L y114 a1),p 5 (I (v0+1))] []) H fun H =>
   b1 H
 exact vx_exit<|fx_seq_exit<|e1<|fx_blk_exit rfl<|n0 H
def u124 (a0:Y172) (a1:Y172):Option (Bool) :=
 if (!decide (a0.1=a1.1))=true then
  some false
 else
  if (a0.2.1 != a1.2.1)=true then
   some false
  else
   if (a0.2.2 != a1.2.2)=true then
    some false
   else
    some true
def k124:Ct:=lct 124 [.agg y172,.agg y172] (fun x=>u124 x.1 x.2.1) (fun r:Bool=>B r) (fun _=>())
theorem o124:Ok Tryz.prog k124:=by
 refine okL [.tmp 4] Tryz.func124 Tryz.ntmps124 Tryz.results124 ?_
 intro y ⟨a0,a1,_⟩ r H Q hn hr
 have:HT _ _:=⟨@tn Tryz.prog⟩
 refine qA (Z [p 2 (R 2),p 3 (R 3)] [(3,K 172 y172 a1),(2,K 172 y172 a0)]) <|
  vx_seq <|
  qA (Z [p 2 (R 2),p 3 (R 3),p 9 (B !decide (a0.1=a1.1))] [(3,K 172 y172 a1),(2,K 172 y172 a0)]) <|
  cD H (fun H=>?_) (fun H=>?_)
 ·refine qA (Z [p 4 (B false)] [(3,K 172 y172 a1),(2,K 172 y172 a0)]) <|
   vx_ret<|fx_seq_ret<|hr H
 refine vx_skip<|fx_seq<|vx_seq <|
  qA (Z [p 2 (R 2),p 3 (R 3),p 14 (B (a0.2.1 != a1.2.1))] [(3,K 172 y172 a1),(2,K 172 y172 a0)]) <|
  cD H (fun H=>?_) (fun H=>?_)
 ·refine qA (Z [p 4 (B false)] [(3,K 172 y172 a1),(2,K 172 y172 a0)]) <|
   vx_ret<|fx_seq_ret<|hr H
 refine vx_skip<|fx_seq<|vx_seq <|
  qA (Z [p 19 (B (a0.2.2 != a1.2.2))] [(3,K 172 y172 a1),(2,K 172 y172 a0)]) <|
  cD H (fun H=>?_) (fun H=>?_)
 ·refine qA (Z [p 4 (B false)] [(3,K 172 y172 a1),(2,K 172 y172 a0)]) <|
   vx_ret<|fx_seq_ret<|hr H
 refine vx_skip<|fx_seq <|
  qA (Z [p 4 (B true)] [(3,K 172 y172 a1),(2,K 172 y172 a0)]) <|
  vx_ret<|hr H
def u82J0:Unit→Option (Bool)
 | _ =>
 some true
def u82L1 (a0:List Y172) (a1:List Y172) (g1:Int→Option (Bool)):Int→Option (Bool)
 | v0 =>
 if (decide (v0 < (↑a0.length:Int)))=true then
  gd (ix v0 a0.length∧ix v0 a1.length∧(u124 (a0.getD v0.toNat (dflt y172)) (a1.getD v0.toNat (dflt y172))).isSome=true∧True) <|
  if (!vl (u124 (a0.getD v0.toNat (dflt y172)) (a1.getD v0.toNat (dflt y172))))=true then
   some false
  else
   gd (in64 (v0+1)∧True) <|
   g1 (v0+1)
 else
  u82J0 ()
def u82 (a0:List Y172) (a1:List Y172):Option (Bool) :=
 if ((↑a0.length:Int) != (↑a1.length:Int))=true then
  some false
 else
  lp (u82L1 a0 a1) 0
def k82:Ct:=lct 82 [.dat y172.sl,.dat y172.sl] (fun x=>u82 x.1 x.2.1) (fun r:Bool=>B r) (fun _=>())
theorem o82:Ok Tryz.prog k82:=by
 refine okL [.tmp 4] Tryz.func82 Tryz.ntmps82 Tryz.results82 ?_
 intro y ⟨a0,a1,_⟩ r H Q hn hr
 have:HT _ _:=⟨tc o124 tn⟩
 refine qA (Z [p 0 (L y172 a0),p 1 (L y172 a1)] []) <|
  vx_seq <|
  qA (Z [p 0 (L y172 a0),p 1 (L y172 a1),p 10 (B ((↑a0.length:Int) != (↑a1.length:Int)))] []) <|
  cD H (fun H=>?_) (fun H=>?_)
 ·refine qA (Z [p 4 (B false)] []) <|
   vx_ret<|fx_seq_ret<|hr H
 refine vx_skip<|fx_seq <|
  jN r (fun (_:Unit)=>Z [] []) (u82J0) (fun _ H=>?_) (fun _ n0 e0 t0=>?_)
 ·refine qA (Z [p 4 (B true)] []) <|
   vx_ret<|hr H
 refine qA (Z [p 0 (L y172 a0),p 1 (L y172 a1),p 5 (I 0)] []) <|
  vx_block <|
  lX (fun (v0:Int)=>Z [p 0 (L y172 a0),p 1 (L y172 a1),p 5 (I v0)] []) 0 H fun _ g1 b1 e1 t1 v0 H =>
  vx_seq <|
  qA (Z [p 0 (L y172 a0),p 1 (L y172 a1),p 5 (I v0),p 14 (B (decide (v0 < (↑a0.length:Int))))] []) <|
  cD H (fun H=>?_) (fun H=>?_)
 ·refine vx_skip<|fx_seq<|vx_seq<|vx_block <|
   qB (Z [p 0 (L y172 a0),p 1 (L y172 a1),p 5 (I v0),p 26 (B !vl (u124 (a0.getD v0.toNat (dflt y172)) (a1.getD v0.toNat (dflt y172))))] []) H fun H =>
   cD H (fun H=>?_) (fun H=>?_)
  ·refine qA (Z [p 4 (B false)] []) <|
    vx_ret<|fx_blk_ret<|fx_seq_ret<|t1<|fx_blk_ret<|t0<|hr H
  refine vx_skip<|fx_blk<|fx_seq <|
   zB (Z [p 0 (L y172 a0),p 1 (L y172 a1),p 5 (I (v0+1))] []) H fun H =>
   b1 H
 exact vx_exit<|fx_seq_exit<|e1<|fx_blk_exit rfl<|n0 H
def u81J0:Unit→Option (Bool)
 | _ =>
 some true
def u81L1 (a0:List ByteArray) (a1:List ByteArray) (g1:Int→Option (Bool)):Int→Option (Bool)
 | v0 =>
 if (decide (v0 < (↑a0.length:Int)))=true then
  gd (ix v0 a0.length∧ix v0 a1.length∧True) <|
  if (!decide (a0.getD v0.toNat (dflt Ty.str)=a1.getD v0.toNat (dflt Ty.str)))=true then
   some false
  else
   gd (in64 (v0+1)∧True) <|
   g1 (v0+1)
 else
  u81J0 ()
def u81 (a0:List ByteArray) (a1:List ByteArray):Option (Bool) :=
 if ((↑a0.length:Int) != (↑a1.length:Int))=true then
  some false
 else
  lp (u81L1 a0 a1) 0
def k81:Ct:=lct 81 [.dat Ty.str.sl,.dat Ty.str.sl] (fun x=>u81 x.1 x.2.1) (fun r:Bool=>B r) (fun _=>())
theorem o81:Ok Tryz.prog k81:=by
 refine okL [.tmp 4] Tryz.func81 Tryz.ntmps81 Tryz.results81 ?_
 intro y ⟨a0,a1,_⟩ r H Q hn hr
 have:HT _ _:=⟨@tn Tryz.prog⟩
 refine qA (Z [p 0 (L Ty.str a0),p 1 (L Ty.str a1)] []) <|
  vx_seq <|
  qA (Z [p 0 (L Ty.str a0),p 1 (L Ty.str a1),p 10 (B ((↑a0.length:Int) != (↑a1.length:Int)))] []) <|
  cD H (fun H=>?_) (fun H=>?_)
 ·refine qA (Z [p 4 (B false)] []) <|
   vx_ret<|fx_seq_ret<|hr H
 refine vx_skip<|fx_seq <|
  jN r (fun (_:Unit)=>Z [] []) (u81J0) (fun _ H=>?_) (fun _ n0 e0 t0=>?_)
 ·refine qA (Z [p 4 (B true)] []) <|
   vx_ret<|hr H
 refine qA (Z [p 0 (L Ty.str a0),p 1 (L Ty.str a1),p 5 (I 0)] []) <|
  vx_block <|
  lX (fun (v0:Int)=>Z [p 0 (L Ty.str a0),p 1 (L Ty.str a1),p 5 (I v0)] []) 0 H fun _ g1 b1 e1 t1 v0 H =>
  vx_seq <|
  qA (Z [p 0 (L Ty.str a0),p 1 (L Ty.str a1),p 5 (I v0),p 14 (B (decide (v0 < (↑a0.length:Int))))] []) <|
  cD H (fun H=>?_) (fun H=>?_)
 ·refine vx_skip<|fx_seq<|vx_seq<|vx_block <|
   qB (Z [p 0 (L Ty.str a0),p 1 (L Ty.str a1),p 5 (I v0),p 25 (B !decide (a0.getD v0.toNat (dflt Ty.str)=a1.getD v0.toNat (dflt Ty.str)))] []) H fun H =>
   cD H (fun H=>?_) (fun H=>?_)
  ·refine qA (Z [p 4 (B false)] []) <|
    vx_ret<|fx_blk_ret<|fx_seq_ret<|t1<|fx_blk_ret<|t0<|hr H
  refine vx_skip<|fx_blk<|fx_seq <|
   zB (Z [p 0 (L Ty.str a0),p 1 (L Ty.str a1),p 5 (I (v0+1))] []) H fun H =>
   b1 H
 exact vx_exit<|fx_seq_exit<|e1<|fx_blk_exit rfl<|n0 H
def u123 (a0:Y136) (a1:Y136):Option (Bool) :=
 if (!decide (a0.1=a1.1))=true then
  some false
 else
  if (a0.2.1 != a1.2.1)=true then
   some false
  else
   gd ((u12 a0.2.2 a1.2.2).isSome=true∧True) <|
   if (!vl (u12 a0.2.2 a1.2.2))=true then
    some false
   else
    some true
def k123:Ct:=lct 123 [.agg y136,.agg y136] (fun x=>u123 x.1 x.2.1) (fun r:Bool=>B r) (fun _=>())
theorem o123:Ok Tryz.prog k123:=by
 refine okL [.tmp 4] Tryz.func123 Tryz.ntmps123 Tryz.results123 ?_
 intro y ⟨a0,a1,_⟩ r H Q hn hr
 have:HT _ _:=⟨tc o12 tn⟩
 refine qA (Z [p 2 (R 2),p 3 (R 3)] [(3,K 136 y136 a1),(2,K 136 y136 a0)]) <|
  vx_seq <|
  qA (Z [p 2 (R 2),p 3 (R 3),p 9 (B !decide (a0.1=a1.1))] [(3,K 136 y136 a1),(2,K 136 y136 a0)]) <|
  cD H (fun H=>?_) (fun H=>?_)
 ·refine qA (Z [p 4 (B false)] [(3,K 136 y136 a1),(2,K 136 y136 a0)]) <|
   vx_ret<|fx_seq_ret<|hr H
 refine vx_skip<|fx_seq<|vx_seq <|
  qA (Z [p 2 (R 2),p 3 (R 3),p 14 (B (a0.2.1 != a1.2.1))] [(3,K 136 y136 a1),(2,K 136 y136 a0)]) <|
  cD H (fun H=>?_) (fun H=>?_)
 ·refine qA (Z [p 4 (B false)] [(3,K 136 y136 a1),(2,K 136 y136 a0)]) <|
   vx_ret<|fx_seq_ret<|hr H
 refine vx_skip<|fx_seq<|vx_seq <|
  qB (Z [p 20 (B !vl (u12 a0.2.2 a1.2.2))] [(3,K 136 y136 a1),(2,K 136 y136 a0)]) H fun H =>
  cD H (fun H=>?_) (fun H=>?_)
 ·refine qA (Z [p 4 (B false)] [(3,K 136 y136 a1),(2,K 136 y136 a0)]) <|
   vx_ret<|fx_seq_ret<|hr H
 refine vx_skip<|fx_seq <|
  qA (Z [p 4 (B true)] [(3,K 136 y136 a1),(2,K 136 y136 a0)]) <|
  vx_ret<|hr H
def u80J0:Unit→Option (Bool)
 | _ =>
 some true
def u80L1 (a0:List Y136) (a1:List Y136) (g1:Int→Option (Bool)):Int→Option (Bool)
 | v0 =>
 if (decide (v0 < (↑a0.length:Int)))=true then
  gd (ix v0 a0.length∧ix v0 a1.length∧(u123 (a0.getD v0.toNat (dflt y136)) (a1.getD v0.toNat (dflt y136))).isSome=true∧True) <|
  if (!vl (u123 (a0.getD v0.toNat (dflt y136)) (a1.getD v0.toNat (dflt y136))))=true then
   some false
  else
   gd (in64 (v0+1)∧True) <|
   g1 (v0+1)
 else
  u80J0 ()
def u80 (a0:List Y136) (a1:List Y136):Option (Bool) :=
 if ((↑a0.length:Int) != (↑a1.length:Int))=true then
  some false
 else
  lp (u80L1 a0 a1) 0
def k80:Ct:=lct 80 [.dat y136.sl,.dat y136.sl] (fun x=>u80 x.1 x.2.1) (fun r:Bool=>B r) (fun _=>())
theorem o80:Ok Tryz.prog k80:=by
 refine okL [.tmp 4] Tryz.func80 Tryz.ntmps80 Tryz.results80 ?_
 intro y ⟨a0,a1,_⟩ r H Q hn hr
 have:HT _ _:=⟨tc o123 tn⟩
 refine qA (Z [p 0 (L y136 a0),p 1 (L y136 a1)] []) <|
  vx_seq <|
  qA (Z [p 0 (L y136 a0),p 1 (L y136 a1),p 10 (B ((↑a0.length:Int) != (↑a1.length:Int)))] []) <|
  cD H (fun H=>?_) (fun H=>?_)
 ·refine qA (Z [p 4 (B false)] []) <|
   vx_ret<|fx_seq_ret<|hr H
 refine vx_skip<|fx_seq <|
  jN r (fun (_:Unit)=>Z [] []) (u80J0) (fun _ H=>?_) (fun _ n0 e0 t0=>?_)
 ·refine qA (Z [p 4 (B true)] []) <|
   vx_ret<|hr H
 refine qA (Z [p 0 (L y136 a0),p 1 (L y136 a1),p 5 (I 0)] []) <|
  vx_block <|
  lX (fun (v0:Int)=>Z [p 0 (L y136 a0),p 1 (L y136 a1),p 5 (I v0)] []) 0 H fun _ g1 b1 e1 t1 v0 H =>
  vx_seq <|
  qA (Z [p 0 (L y136 a0),p 1 (L y136 a1),p 5 (I v0),p 14 (B (decide (v0 < (↑a0.length:Int))))] []) <|
  cD H (fun H=>?_) (fun H=>?_)
 ·refine vx_skip<|fx_seq<|vx_seq<|vx_block <|
   qB (Z [p 0 (L y136 a0),p 1 (L y136 a1),p 5 (I v0),p 26 (B !vl (u123 (a0.getD v0.toNat (dflt y136)) (a1.getD v0.toNat (dflt y136))))] []) H fun H =>
   cD H (fun H=>?_) (fun H=>?_)
  ·refine qA (Z [p 4 (B false)] []) <|
    vx_ret<|fx_blk_ret<|fx_seq_ret<|t1<|fx_blk_ret<|t0<|hr H
  refine vx_skip<|fx_blk<|fx_seq <|
   zB (Z [p 0 (L y136 a0),p 1 (L y136 a1),p 5 (I (v0+1))] []) H fun H =>
   b1 H
 exact vx_exit<|fx_seq_exit<|e1<|fx_blk_exit rfl<|n0 H
def u43 (a0:Y43) (a1:Y43):Option (Bool) :=
 gd ((u80 a0.1 a1.1).isSome=true∧True) <|
 if (!vl (u80 a0.1 a1.1))=true then
  some false
 else
  gd ((u81 a0.2.1 a1.2.1).isSome=true∧True) <|
  if (!vl (u81 a0.2.1 a1.2.1))=true then
   some false
  else
   gd ((u82 a0.2.2 a1.2.2).isSome=true∧True) <|
   if (!vl (u82 a0.2.2 a1.2.2))=true then
    some false
   else
    some true
def k43:Ct:=lct 43 [.agg y43,.agg y43] (fun x=>u43 x.1 x.2.1) (fun r:Bool=>B r) (fun _=>())
theorem o43:Ok Tryz.prog k43:=by
 refine okL [.tmp 4] Tryz.func43 Tryz.ntmps43 Tryz.results43 ?_
 intro y ⟨a0,a1,_⟩ r H Q hn hr
 have:HT _ _:=⟨tc o82 (tc o81 (tc o80 tn))⟩
 refine qA (Z [p 2 (R 2),p 3 (R 3)] [(3,K 43 y43 a1),(2,K 43 y43 a0)]) <|
  vx_seq <|
  qB (Z [p 2 (R 2),p 3 (R 3),p 10 (B !vl (u80 a0.1 a1.1))] [(3,K 43 y43 a1),(2,K 43 y43 a0)]) H fun H =>
  cD H (fun H=>?_) (fun H=>?_)
 ·refine qA (Z [p 4 (B false)] [(3,K 43 y43 a1),(2,K 43 y43 a0)]) <|
   vx_ret<|fx_seq_ret<|hr H
 refine vx_skip<|fx_seq<|vx_seq <|
  qB (Z [p 2 (R 2),p 3 (R 3),p 16 (B !vl (u81 a0.2.1 a1.2.1))] [(3,K 43 y43 a1),(2,K 43 y43 a0)]) H fun H =>
  cD H (fun H=>?_) (fun H=>?_)
 ·refine qA (Z [p 4 (B false)] [(3,K 43 y43 a1),(2,K 43 y43 a0)]) <|
   vx_ret<|fx_seq_ret<|hr H
 refine vx_skip<|fx_seq<|vx_seq <|
  qB (Z [p 22 (B !vl (u82 a0.2.2 a1.2.2))] [(3,K 43 y43 a1),(2,K 43 y43 a0)]) H fun H =>
  cD H (fun H=>?_) (fun H=>?_)
 ·refine qA (Z [p 4 (B false)] [(3,K 43 y43 a1),(2,K 43 y43 a0)]) <|
   vx_ret<|fx_seq_ret<|hr H
 refine vx_skip<|fx_seq <|
  qA (Z [p 4 (B true)] [(3,K 43 y43 a1),(2,K 43 y43 a0)]) <|
  vx_ret<|hr H
def u193 (a0:Y223) (a1:Y223):Option (Bool) :=
 gd ((u12 a0.1 a1.1).isSome=true∧True) <|
 if (!vl (u12 a0.1 a1.1))=true then
  some false
 else
  gd ((u12 a0.2.1 a1.2.1).isSome=true∧True) <|
  if (!vl (u12 a0.2.1 a1.2.1))=true then
   some false
  else
   gd ((u12 a0.2.2 a1.2.2).isSome=true∧True) <|
   if (!vl (u12 a0.2.2 a1.2.2))=true then
    some false
   else
    some true
def k193:Ct:=lct 193 [.agg y223,.agg y223] (fun x=>u193 x.1 x.2.1) (fun r:Bool=>B r) (fun _=>())
theorem o193:Ok Tryz.prog k193:=by
 refine okL [.tmp 4] Tryz.func193 Tryz.ntmps193 Tryz.results193 ?_
 intro y ⟨a0,a1,_⟩ r H Q hn hr
 have:HT _ _:=⟨tc o12 tn⟩
 refine qA (Z [p 2 (R 2),p 3 (R 3)] [(3,K 223 y223 a1),(2,K 223 y223 a0)]) <|
  vx_seq <|
  qB (Z [p 2 (R 2),p 3 (R 3),p 10 (B !vl (u12 a0.1 a1.1))] [(3,K 223 y223 a1),(2,K 223 y223 a0)]) H fun H =>
  cD H (fun H=>?_) (fun H=>?_)
 ·refine qA (Z [p 4 (B false)] [(3,K 223 y223 a1),(2,K 223 y223 a0)]) <|
   vx_ret<|fx_seq_ret<|hr H
 refine vx_skip<|fx_seq<|vx_seq <|
  qB (Z [p 2 (R 2),p 3 (R 3),p 16 (B !vl (u12 a0.2.1 a1.2.1))] [(3,K 223 y223 a1),(2,K 223 y223 a0)]) H fun H =>
  cD H (fun H=>?_) (fun H=>?_)
 ·refine qA (Z [p 4 (B false)] [(3,K 223 y223 a1),(2,K 223 y223 a0)]) <|
   vx_ret<|fx_seq_ret<|hr H
 refine vx_skip<|fx_seq<|vx_seq <|
  qB (Z [p 22 (B !vl (u12 a0.2.2 a1.2.2))] [(3,K 223 y223 a1),(2,K 223 y223 a0)]) H fun H =>
  cD H (fun H=>?_) (fun H=>?_)
 ·refine qA (Z [p 4 (B false)] [(3,K 223 y223 a1),(2,K 223 y223 a0)]) <|
   vx_ret<|fx_seq_ret<|hr H
 refine vx_skip<|fx_seq <|
  qA (Z [p 4 (B true)] [(3,K 223 y223 a1),(2,K 223 y223 a0)]) <|
  vx_ret<|hr H
def u180J0:Unit→Option (Bool)
 | _ =>
 some true
def u180L1 (a0:List Y223) (a1:List Y223) (g1:Int→Option (Bool)):Int→Option (Bool)
 | v0 =>
 if (decide (v0 < (↑a0.length:Int)))=true then
  gd (ix v0 a0.length∧ix v0 a1.length∧(u193 (a0.getD v0.toNat (dflt y223)) (a1.getD v0.toNat (dflt y223))).isSome=true∧True) <|
  if (!vl (u193 (a0.getD v0.toNat (dflt y223)) (a1.getD v0.toNat (dflt y223))))=true then
   some false
  else
   gd (in64 (v0+1)∧True) <|
   g1 (v0+1)
 else
  u180J0 ()
def u180 (a0:List Y223) (a1:List Y223):Option (Bool) :=
 if ((↑a0.length:Int) != (↑a1.length:Int))=true then
  some false
 else
  lp (u180L1 a0 a1) 0
def k180:Ct:=lct 180 [.dat y223.sl,.dat y223.sl] (fun x=>u180 x.1 x.2.1) (fun r:Bool=>B r) (fun _=>())
theorem o180:Ok Tryz.prog k180:=by
 refine okL [.tmp 4] Tryz.func180 Tryz.ntmps180 Tryz.results180 ?_
 intro y ⟨a0,a1,_⟩ r H Q hn hr
 have:HT _ _:=⟨tc o193 tn⟩
 refine qA (Z [p 0 (L y223 a0),p 1 (L y223 a1)] []) <|
  vx_seq <|
  qA (Z [p 0 (L y223 a0),p 1 (L y223 a1),p 10 (B ((↑a0.length:Int) != (↑a1.length:Int)))] []) <|
  cD H (fun H=>?_) (fun H=>?_)
 ·refine qA (Z [p 4 (B false)] []) <|
   vx_ret<|fx_seq_ret<|hr H
 refine vx_skip<|fx_seq <|
  jN r (fun (_:Unit)=>Z [] []) (u180J0) (fun _ H=>?_) (fun _ n0 e0 t0=>?_)
 ·refine qA (Z [p 4 (B true)] []) <|
   vx_ret<|hr H
 refine qA (Z [p 0 (L y223 a0),p 1 (L y223 a1),p 5 (I 0)] []) <|
  vx_block <|
  lX (fun (v0:Int)=>Z [p 0 (L y223 a0),p 1 (L y223 a1),p 5 (I v0)] []) 0 H fun _ g1 b1 e1 t1 v0 H =>
  vx_seq <|
  qA (Z [p 0 (L y223 a0),p 1 (L y223 a1),p 5 (I v0),p 14 (B (decide (v0 < (↑a0.length:Int))))] []) <|
  cD H (fun H=>?_) (fun H=>?_)
 ·refine vx_skip<|fx_seq<|vx_seq<|vx_block <|
   qB (Z [p 0 (L y223 a0),p 1 (L y223 a1),p 5 (I v0),p 26 (B !vl (u193 (a0.getD v0.toNat (dflt y223)) (a1.getD v0.toNat (dflt y223))))] []) H fun H =>
   cD H (fun H=>?_) (fun H=>?_)
  ·refine qA (Z [p 4 (B false)] []) <|
    vx_ret<|fx_blk_ret<|fx_seq_ret<|t1<|fx_blk_ret<|t0<|hr H
  refine vx_skip<|fx_blk<|fx_seq <|
   zB (Z [p 0 (L y223 a0),p 1 (L y223 a1),p 5 (I (v0+1))] []) H fun H =>
   b1 H
 exact vx_exit<|fx_seq_exit<|e1<|fx_blk_exit rfl<|n0 H
def u168 (a0:Y139) (a1:Y139):Option (Bool) :=
 if (a0.1 != a1.1)=true then
  some false
 else
  if (a0.2.1 != a1.2.1)=true then
   some false
  else
   if (a0.2.2.1 != a1.2.2.1)=true then
    some false
   else
    if (a0.2.2.2.1 != a1.2.2.2.1)=true then
     some false
    else
     gd ((u180 a0.2.2.2.2.1 a1.2.2.2.2.1).isSome=true∧True) <|
     if (!vl (u180 a0.2.2.2.2.1 a1.2.2.2.2.1))=true then
      some false
     else
      gd ((u180 a0.2.2.2.2.2 a1.2.2.2.2.2).isSome=true∧True) <|
      if (!vl (u180 a0.2.2.2.2.2 a1.2.2.2.2.2))=true then
       some false
      else
       some true
def k168:Ct:=lct 168 [.agg y139,.agg y139] (fun x=>u168 x.1 x.2.1) (fun r:Bool=>B r) (fun _=>())
theorem o168:Ok Tryz.prog k168:=by
 refine okL [.tmp 4] Tryz.func168 Tryz.ntmps168 Tryz.results168 ?_
 intro y ⟨a0,a1,_⟩ r H Q hn hr
 have:HT _ _:=⟨tc o180 tn⟩
 refine qA (Z [p 2 (R 2),p 3 (R 3)] [(3,K 139 y139 a1),(2,K 139 y139 a0)]) <|
  vx_seq <|
  qA (Z [p 2 (R 2),p 3 (R 3),p 9 (B (a0.1 != a1.1))] [(3,K 139 y139 a1),(2,K 139 y139 a0)]) <|
  cD H (fun H=>?_) (fun H=>?_)
 ·refine qA (Z [p 4 (B false)] [(3,K 139 y139 a1),(2,K 139 y139 a0)]) <|
   vx_ret<|fx_seq_ret<|hr H
 refine vx_skip<|fx_seq<|vx_seq <|
  qA (Z [p 2 (R 2),p 3 (R 3),p 14 (B (a0.2.1 != a1.2.1))] [(3,K 139 y139 a1),(2,K 139 y139 a0)]) <|
  cD H (fun H=>?_) (fun H=>?_)
 ·refine qA (Z [p 4 (B false)] [(3,K 139 y139 a1),(2,K 139 y139 a0)]) <|
   vx_ret<|fx_seq_ret<|hr H
 refine vx_skip<|fx_seq<|vx_seq <|
  qA (Z [p 2 (R 2),p 3 (R 3),p 19 (B (a0.2.2.1 != a1.2.2.1))] [(3,K 139 y139 a1),(2,K 139 y139 a0)]) <|
  cD H (fun H=>?_) (fun H=>?_)
 ·refine qA (Z [p 4 (B false)] [(3,K 139 y139 a1),(2,K 139 y139 a0)]) <|
   vx_ret<|fx_seq_ret<|hr H
 refine vx_skip<|fx_seq<|vx_seq <|
  qA (Z [p 2 (R 2),p 3 (R 3),p 24 (B (a0.2.2.2.1 != a1.2.2.2.1))] [(3,K 139 y139 a1),(2,K 139 y139 a0)]) <|
  cD H (fun H=>?_) (fun H=>?_)
 ·refine qA (Z [p 4 (B false)] [(3,K 139 y139 a1),(2,K 139 y139 a0)]) <|
   vx_ret<|fx_seq_ret<|hr H
 refine vx_skip<|fx_seq<|vx_seq <|
  qB (Z [p 2 (R 2),p 3 (R 3),p 30 (B !vl (u180 a0.2.2.2.2.1 a1.2.2.2.2.1))] [(3,K 139 y139 a1),(2,K 139 y139 a0)]) H fun H =>
  cD H (fun H=>?_) (fun H=>?_)
 ·refine qA (Z [p 4 (B false)] [(3,K 139 y139 a1),(2,K 139 y139 a0)]) <|
   vx_ret<|fx_seq_ret<|hr H
 refine vx_skip<|fx_seq<|vx_seq <|
  qB (Z [p 36 (B !vl (u180 a0.2.2.2.2.2 a1.2.2.2.2.2))] [(3,K 139 y139 a1),(2,K 139 y139 a0)]) H fun H =>
  cD H (fun H=>?_) (fun H=>?_)
 ·refine qA (Z [p 4 (B false)] [(3,K 139 y139 a1),(2,K 139 y139 a0)]) <|
   vx_ret<|fx_seq_ret<|hr H
 refine vx_skip<|fx_seq <|
  qA (Z [p 4 (B true)] [(3,K 139 y139 a1),(2,K 139 y139 a0)]) <|
  vx_ret<|hr H
def u152J0:Unit→Option (Bool)
 | _ =>
 some true
def u152L1 (a0:List Y139) (a1:List Y139) (g1:Int→Option (Bool)):Int→Option (Bool)
 | v0 =>
 if (decide (v0 < (↑a0.length:Int)))=true then
  gd (ix v0 a0.length∧ix v0 a1.length∧(u168 (a0.getD v0.toNat (dflt y139)) (a1.getD v0.toNat (dflt y139))).isSome=true∧True) <|
  if (!vl (u168 (a0.getD v0.toNat (dflt y139)) (a1.getD v0.toNat (dflt y139))))=true then
   some false
  else
   gd (in64 (v0+1)∧True) <|
   g1 (v0+1)
 else
  u152J0 ()
def u152 (a0:List Y139) (a1:List Y139):Option (Bool) :=
 if ((↑a0.length:Int) != (↑a1.length:Int))=true then
  some false
 else
  lp (u152L1 a0 a1) 0
def k152:Ct:=lct 152 [.dat y139.sl,.dat y139.sl] (fun x=>u152 x.1 x.2.1) (fun r:Bool=>B r) (fun _=>())
theorem o152:Ok Tryz.prog k152:=by
 refine okL [.tmp 4] Tryz.func152 Tryz.ntmps152 Tryz.results152 ?_
 intro y ⟨a0,a1,_⟩ r H Q hn hr
 have:HT _ _:=⟨tc o168 tn⟩
 refine qA (Z [p 0 (L y139 a0),p 1 (L y139 a1)] []) <|
  vx_seq <|
  qA (Z [p 0 (L y139 a0),p 1 (L y139 a1),p 10 (B ((↑a0.length:Int) != (↑a1.length:Int)))] []) <|
  cD H (fun H=>?_) (fun H=>?_)
 ·refine qA (Z [p 4 (B false)] []) <|
   vx_ret<|fx_seq_ret<|hr H
 refine vx_skip<|fx_seq <|
  jN r (fun (_:Unit)=>Z [] []) (u152J0) (fun _ H=>?_) (fun _ n0 e0 t0=>?_)
 ·refine qA (Z [p 4 (B true)] []) <|
   vx_ret<|hr H
 refine qA (Z [p 0 (L y139 a0),p 1 (L y139 a1),p 5 (I 0)] []) <|
  vx_block <|
  lX (fun (v0:Int)=>Z [p 0 (L y139 a0),p 1 (L y139 a1),p 5 (I v0)] []) 0 H fun _ g1 b1 e1 t1 v0 H =>
  vx_seq <|
  qA (Z [p 0 (L y139 a0),p 1 (L y139 a1),p 5 (I v0),p 14 (B (decide (v0 < (↑a0.length:Int))))] []) <|
  cD H (fun H=>?_) (fun H=>?_)
 ·refine vx_skip<|fx_seq<|vx_seq<|vx_block <|
   qB (Z [p 0 (L y139 a0),p 1 (L y139 a1),p 5 (I v0),p 26 (B !vl (u168 (a0.getD v0.toNat (dflt y139)) (a1.getD v0.toNat (dflt y139))))] []) H fun H =>
   cD H (fun H=>?_) (fun H=>?_)
  ·refine qA (Z [p 4 (B false)] []) <|
    vx_ret<|fx_blk_ret<|fx_seq_ret<|t1<|fx_blk_ret<|t0<|hr H
  refine vx_skip<|fx_blk<|fx_seq <|
   zB (Z [p 0 (L y139 a0),p 1 (L y139 a1),p 5 (I (v0+1))] []) H fun H =>
   b1 H
 exact vx_exit<|fx_seq_exit<|e1<|fx_blk_exit rfl<|n0 H
def u167 (a0:Y205) (a1:Y205):Option (Bool) :=
 if (!decide (a0.1=a1.1))=true then
  some false
 else
  if (a0.2.1 != a1.2.1)=true then
   some false
  else
   if (a0.2.2.1 != a1.2.2.1)=true then
    some false
   else
    if (!a0.2.2.2==a1.2.2.2)=true then
     some false
    else
     some true
def k167:Ct:=lct 167 [.agg y205,.agg y205] (fun x=>u167 x.1 x.2.1) (fun r:Bool=>B r) (fun _=>())
theorem o167:Ok Tryz.prog k167:=by
 refine okL [.tmp 4] Tryz.func167 Tryz.ntmps167 Tryz.results167 ?_
 intro y ⟨a0,a1,_⟩ r H Q hn hr
 have:HT _ _:=⟨@tn Tryz.prog⟩
 refine qA (Z [p 2 (R 2),p 3 (R 3)] [(3,K 205 y205 a1),(2,K 205 y205 a0)]) <|
  vx_seq <|
  qA (Z [p 2 (R 2),p 3 (R 3),p 9 (B !decide (a0.1=a1.1))] [(3,K 205 y205 a1),(2,K 205 y205 a0)]) <|
  cD H (fun H=>?_) (fun H=>?_)
 ·refine qA (Z [p 4 (B false)] [(3,K 205 y205 a1),(2,K 205 y205 a0)]) <|
   vx_ret<|fx_seq_ret<|hr H
 refine vx_skip<|fx_seq<|vx_seq <|
  qA (Z [p 2 (R 2),p 3 (R 3),p 14 (B (a0.2.1 != a1.2.1))] [(3,K 205 y205 a1),(2,K 205 y205 a0)]) <|
  cD H (fun H=>?_) (fun H=>?_)
 ·refine qA (Z [p 4 (B false)] [(3,K 205 y205 a1),(2,K 205 y205 a0)]) <|
   vx_ret<|fx_seq_ret<|hr H
 refine vx_skip<|fx_seq<|vx_seq <|
  qA (Z [p 2 (R 2),p 3 (R 3),p 19 (B (a0.2.2.1 != a1.2.2.1))] [(3,K 205 y205 a1),(2,K 205 y205 a0)]) <|
  cD H (fun H=>?_) (fun H=>?_)
 ·refine qA (Z [p 4 (B false)] [(3,K 205 y205 a1),(2,K 205 y205 a0)]) <|
   vx_ret<|fx_seq_ret<|hr H
 refine vx_skip<|fx_seq<|vx_seq <|
  qA (Z [p 24 (B !a0.2.2.2==a1.2.2.2)] [(3,K 205 y205 a1),(2,K 205 y205 a0)]) <|
  cD H (fun H=>?_) (fun H=>?_)
 ·refine qA (Z [p 4 (B false)] [(3,K 205 y205 a1),(2,K 205 y205 a0)]) <|
   vx_ret<|fx_seq_ret<|hr H
 refine vx_skip<|fx_seq <|
  qA (Z [p 4 (B true)] [(3,K 205 y205 a1),(2,K 205 y205 a0)]) <|
  vx_ret<|hr H
def u151J0:Unit→Option (Bool)
 | _ =>
 some true
def u151L1 (a0:List Y205) (a1:List Y205) (g1:Int→Option (Bool)):Int→Option (Bool)
 | v0 =>
 if (decide (v0 < (↑a0.length:Int)))=true then
  gd (ix v0 a0.length∧ix v0 a1.length∧(u167 (a0.getD v0.toNat (dflt y205)) (a1.getD v0.toNat (dflt y205))).isSome=true∧True) <|
  if (!vl (u167 (a0.getD v0.toNat (dflt y205)) (a1.getD v0.toNat (dflt y205))))=true then
   some false
  else
   gd (in64 (v0+1)∧True) <|
   g1 (v0+1)
 else
  u151J0 ()
def u151 (a0:List Y205) (a1:List Y205):Option (Bool) :=
 if ((↑a0.length:Int) != (↑a1.length:Int))=true then
  some false
 else
  lp (u151L1 a0 a1) 0
def k151:Ct:=lct 151 [.dat y205.sl,.dat y205.sl] (fun x=>u151 x.1 x.2.1) (fun r:Bool=>B r) (fun _=>())
theorem o151:Ok Tryz.prog k151:=by
 refine okL [.tmp 4] Tryz.func151 Tryz.ntmps151 Tryz.results151 ?_
 intro y ⟨a0,a1,_⟩ r H Q hn hr
 have:HT _ _:=⟨tc o167 tn⟩
 refine qA (Z [p 0 (L y205 a0),p 1 (L y205 a1)] []) <|
  vx_seq <|
  qA (Z [p 0 (L y205 a0),p 1 (L y205 a1),p 10 (B ((↑a0.length:Int) != (↑a1.length:Int)))] []) <|
  cD H (fun H=>?_) (fun H=>?_)
 ·refine qA (Z [p 4 (B false)] []) <|
   vx_ret<|fx_seq_ret<|hr H
 refine vx_skip<|fx_seq <|
  jN r (fun (_:Unit)=>Z [] []) (u151J0) (fun _ H=>?_) (fun _ n0 e0 t0=>?_)
 ·refine qA (Z [p 4 (B true)] []) <|
   vx_ret<|hr H
 refine qA (Z [p 0 (L y205 a0),p 1 (L y205 a1),p 5 (I 0)] []) <|
  vx_block <|
  lX (fun (v0:Int)=>Z [p 0 (L y205 a0),p 1 (L y205 a1),p 5 (I v0)] []) 0 H fun _ g1 b1 e1 t1 v0 H =>
  vx_seq <|
  qA (Z [p 0 (L y205 a0),p 1 (L y205 a1),p 5 (I v0),p 14 (B (decide (v0 < (↑a0.length:Int))))] []) <|
  cD H (fun H=>?_) (fun H=>?_)
 ·refine vx_skip<|fx_seq<|vx_seq<|vx_block <|
   qB (Z [p 0 (L y205 a0),p 1 (L y205 a1),p 5 (I v0),p 26 (B !vl (u167 (a0.getD v0.toNat (dflt y205)) (a1.getD v0.toNat (dflt y205))))] []) H fun H =>
   cD H (fun H=>?_) (fun H=>?_)
  ·refine qA (Z [p 4 (B false)] []) <|
    vx_ret<|fx_blk_ret<|fx_seq_ret<|t1<|fx_blk_ret<|t0<|hr H
  refine vx_skip<|fx_blk<|fx_seq <|
   zB (Z [p 0 (L y205 a0),p 1 (L y205 a1),p 5 (I (v0+1))] []) H fun H =>
   b1 H
 exact vx_exit<|fx_seq_exit<|e1<|fx_blk_exit rfl<|n0 H
def u122 (a0:Y134) (a1:Y134):Option (Bool) :=
 if (!decide (a0.1=a1.1))=true then
  some false
 else
  if (a0.2.1 != a1.2.1)=true then
   some false
  else
   gd ((u151 a0.2.2.1 a1.2.2.1).isSome=true∧True) <|
   if (!vl (u151 a0.2.2.1 a1.2.2.1))=true then
    some false
   else
    gd ((u152 a0.2.2.2.1 a1.2.2.2.1).isSome=true∧True) <|
    if (!vl (u152 a0.2.2.2.1 a1.2.2.2.1))=true then
     some false
    else
     gd ((u12 a0.2.2.2.2.1 a1.2.2.2.2.1).isSome=true∧True) <|
     if (!vl (u12 a0.2.2.2.2.1 a1.2.2.2.2.1))=true then
      some false
     else
      if (a0.2.2.2.2.2.1 != a1.2.2.2.2.2.1)=true then
       some false
      else
       if (a0.2.2.2.2.2.2 != a1.2.2.2.2.2.2)=true then
        some false
       else
        some true
def k122:Ct:=lct 122 [.agg y134,.agg y134] (fun x=>u122 x.1 x.2.1) (fun r:Bool=>B r) (fun _=>())
theorem o122:Ok Tryz.prog k122:=by
 refine okL [.tmp 4] Tryz.func122 Tryz.ntmps122 Tryz.results122 ?_
 intro y ⟨a0,a1,_⟩ r H Q hn hr
 have:HT _ _:=⟨tc o12 (tc o152 (tc o151 tn))⟩
 refine qA (Z [p 2 (R 2),p 3 (R 3)] [(3,K 134 y134 a1),(2,K 134 y134 a0)]) <|
  vx_seq <|
  qA (Z [p 2 (R 2),p 3 (R 3),p 9 (B !decide (a0.1=a1.1))] [(3,K 134 y134 a1),(2,K 134 y134 a0)]) <|
  cD H (fun H=>?_) (fun H=>?_)
 ·refine qA (Z [p 4 (B false)] [(3,K 134 y134 a1),(2,K 134 y134 a0)]) <|
   vx_ret<|fx_seq_ret<|hr H
 refine vx_skip<|fx_seq<|vx_seq <|
  qA (Z [p 2 (R 2),p 3 (R 3),p 14 (B (a0.2.1 != a1.2.1))] [(3,K 134 y134 a1),(2,K 134 y134 a0)]) <|
  cD H (fun H=>?_) (fun H=>?_)
 ·refine qA (Z [p 4 (B false)] [(3,K 134 y134 a1),(2,K 134 y134 a0)]) <|
   vx_ret<|fx_seq_ret<|hr H
 refine vx_skip<|fx_seq<|vx_seq <|
  qB (Z [p 2 (R 2),p 3 (R 3),p 20 (B !vl (u151 a0.2.2.1 a1.2.2.1))] [(3,K 134 y134 a1),(2,K 134 y134 a0)]) H fun H =>
  cD H (fun H=>?_) (fun H=>?_)
 ·refine qA (Z [p 4 (B false)] [(3,K 134 y134 a1),(2,K 134 y134 a0)]) <|
   vx_ret<|fx_seq_ret<|hr H
 refine vx_skip<|fx_seq<|vx_seq <|
  qB (Z [p 2 (R 2),p 3 (R 3),p 26 (B !vl (u152 a0.2.2.2.1 a1.2.2.2.1))] [(3,K 134 y134 a1),(2,K 134 y134 a0)]) H fun H =>
  cD H (fun H=>?_) (fun H=>?_)
 ·refine qA (Z [p 4 (B false)] [(3,K 134 y134 a1),(2,K 134 y134 a0)]) <|
   vx_ret<|fx_seq_ret<|hr H
 refine vx_skip<|fx_seq<|vx_seq <|
  qB (Z [p 2 (R 2),p 3 (R 3),p 32 (B !vl (u12 a0.2.2.2.2.1 a1.2.2.2.2.1))] [(3,K 134 y134 a1),(2,K 134 y134 a0)]) H fun H =>
  cD H (fun H=>?_) (fun H=>?_)
 ·refine qA (Z [p 4 (B false)] [(3,K 134 y134 a1),(2,K 134 y134 a0)]) <|
   vx_ret<|fx_seq_ret<|hr H
 refine vx_skip<|fx_seq<|vx_seq <|
  qA (Z [p 2 (R 2),p 3 (R 3),p 37 (B (a0.2.2.2.2.2.1 != a1.2.2.2.2.2.1))] [(3,K 134 y134 a1),(2,K 134 y134 a0)]) <|
  cD H (fun H=>?_) (fun H=>?_)
 ·refine qA (Z [p 4 (B false)] [(3,K 134 y134 a1),(2,K 134 y134 a0)]) <|
   vx_ret<|fx_seq_ret<|hr H
 refine vx_skip<|fx_seq<|vx_seq <|
  qA (Z [p 42 (B (a0.2.2.2.2.2.2 != a1.2.2.2.2.2.2))] [(3,K 134 y134 a1),(2,K 134 y134 a0)]) <|
  cD H (fun H=>?_) (fun H=>?_)
 ·refine qA (Z [p 4 (B false)] [(3,K 134 y134 a1),(2,K 134 y134 a0)]) <|
   vx_ret<|fx_seq_ret<|hr H
 refine vx_skip<|fx_seq <|
  qA (Z [p 4 (B true)] [(3,K 134 y134 a1),(2,K 134 y134 a0)]) <|
  vx_ret<|hr H
def u79J0:Unit→Option (Bool)
 | _ =>
 some true
def u79L1 (a0:List Y134) (a1:List Y134) (g1:Int→Option (Bool)):Int→Option (Bool)
 | v0 =>
 if (decide (v0 < (↑a0.length:Int)))=true then
  gd (ix v0 a0.length∧ix v0 a1.length∧(u122 (a0.getD v0.toNat (dflt y134)) (a1.getD v0.toNat (dflt y134))).isSome=true∧True) <|
  if (!vl (u122 (a0.getD v0.toNat (dflt y134)) (a1.getD v0.toNat (dflt y134))))=true then
   some false
  else
   gd (in64 (v0+1)∧True) <|
   g1 (v0+1)
 else
  u79J0 ()
def u79 (a0:List Y134) (a1:List Y134):Option (Bool) :=
 if ((↑a0.length:Int) != (↑a1.length:Int))=true then
  some false
 else
  lp (u79L1 a0 a1) 0
def k79:Ct:=lct 79 [.dat y134.sl,.dat y134.sl] (fun x=>u79 x.1 x.2.1) (fun r:Bool=>B r) (fun _=>())
theorem o79:Ok Tryz.prog k79:=by
 refine okL [.tmp 4] Tryz.func79 Tryz.ntmps79 Tryz.results79 ?_
 intro y ⟨a0,a1,_⟩ r H Q hn hr
 have:HT _ _:=⟨tc o122 tn⟩
 refine qA (Z [p 0 (L y134 a0),p 1 (L y134 a1)] []) <|
  vx_seq <|
  qA (Z [p 0 (L y134 a0),p 1 (L y134 a1),p 10 (B ((↑a0.length:Int) != (↑a1.length:Int)))] []) <|
  cD H (fun H=>?_) (fun H=>?_)
 ·refine qA (Z [p 4 (B false)] []) <|
   vx_ret<|fx_seq_ret<|hr H
 refine vx_skip<|fx_seq <|
  jN r (fun (_:Unit)=>Z [] []) (u79J0) (fun _ H=>?_) (fun _ n0 e0 t0=>?_)
 ·refine qA (Z [p 4 (B true)] []) <|
   vx_ret<|hr H
 refine qA (Z [p 0 (L y134 a0),p 1 (L y134 a1),p 5 (I 0)] []) <|
  vx_block <|
  lX (fun (v0:Int)=>Z [p 0 (L y134 a0),p 1 (L y134 a1),p 5 (I v0)] []) 0 H fun _ g1 b1 e1 t1 v0 H =>
  vx_seq <|
  qA (Z [p 0 (L y134 a0),p 1 (L y134 a1),p 5 (I v0),p 14 (B (decide (v0 < (↑a0.length:Int))))] []) <|
  cD H (fun H=>?_) (fun H=>?_)
 ·refine vx_skip<|fx_seq<|vx_seq<|vx_block <|
   qB (Z [p 0 (L y134 a0),p 1 (L y134 a1),p 5 (I v0),p 26 (B !vl (u122 (a0.getD v0.toNat (dflt y134)) (a1.getD v0.toNat (dflt y134))))] []) H fun H =>
   cD H (fun H=>?_) (fun H=>?_)
  ·refine qA (Z [p 4 (B false)] []) <|
    vx_ret<|fx_blk_ret<|fx_seq_ret<|t1<|fx_blk_ret<|t0<|hr H
  refine vx_skip<|fx_blk<|fx_seq <|
   zB (Z [p 0 (L y134 a0),p 1 (L y134 a1),p 5 (I (v0+1))] []) H fun H =>
   b1 H
 exact vx_exit<|fx_seq_exit<|e1<|fx_blk_exit rfl<|n0 H
def u42 (a0:List Y134) (a1:List Y134):Option (Bool) :=
 gd ((u79 a0 a1).isSome=true∧True) <|
 if (!vl (u79 a0 a1))=true then
  some false
 else
  some true
def k42:Ct:=lct 42 [.agg y134.sl,.agg y134.sl] (fun x=>u42 x.1 x.2.1) (fun r:Bool=>B r) (fun _=>())
theorem o42:Ok Tryz.prog k42:=by
 refine okL [.tmp 4] Tryz.func42 Tryz.ntmps42 Tryz.results42 ?_
 intro y ⟨a0,a1,_⟩ r H Q hn hr
 have:HT _ _:=⟨tc o79 tn⟩
 refine qA (Z [p 2 (R 2),p 3 (R 3)] [(3,Ob.box 39 [L y134 a1]),(2,Ob.box 39 [L y134 a0])]) <|
  vx_seq <|
  qB (Z [p 10 (B !vl (u79 a0 a1))] [(3,Ob.box 39 [L y134 a1]),(2,Ob.box 39 [L y134 a0])]) H fun H =>
  cD H (fun H=>?_) (fun H=>?_)
 ·refine qA (Z [p 4 (B false)] [(3,Ob.box 39 [L y134 a1]),(2,Ob.box 39 [L y134 a0])]) <|
   vx_ret<|fx_seq_ret<|hr H
 refine vx_skip<|fx_seq <|
  qA (Z [p 4 (B true)] [(3,Ob.box 39 [L y134 a1]),(2,Ob.box 39 [L y134 a0])]) <|
  vx_ret<|hr H
def u13 (a0:Y46) (a1:Y46):Option (Bool) :=
 gd ((u42 a0.1 a1.1).isSome=true∧True) <|
 if (!vl (u42 a0.1 a1.1))=true then
  some false
 else
  gd ((u43 a0.2.1 a1.2.1).isSome=true∧True) <|
  if (!vl (u43 a0.2.1 a1.2.1))=true then
   some false
  else
   gd ((u44 a0.2.2 a1.2.2).isSome=true∧True) <|
   if (!vl (u44 a0.2.2 a1.2.2))=true then
    some false
   else
    some true
def k13:Ct:=lct 13 [.agg y46,.agg y46] (fun x=>u13 x.1 x.2.1) (fun r:Bool=>B r) (fun _=>())
theorem o13:Ok Tryz.prog k13:=by
 refine okL [.tmp 4] Tryz.func13 Tryz.ntmps13 Tryz.results13 ?_
 intro y ⟨a0,a1,_⟩ r H Q hn hr
 have:HT _ _:=⟨tc o44 (tc o43 (tc o42 tn))⟩
 refine qA (Z [p 2 (R 2),p 3 (R 3)] [(3,K 46 y46 a1),(2,K 46 y46 a0)]) <|
  vx_seq <|
  qB (Z [p 2 (R 2),p 3 (R 3),p 10 (B !vl (u42 a0.1 a1.1))] [(3,K 46 y46 a1),(2,K 46 y46 a0)]) H fun H =>
  cD H (fun H=>?_) (fun H=>?_)
 ·refine qA (Z [p 4 (B false)] [(3,K 46 y46 a1),(2,K 46 y46 a0)]) <|
   vx_ret<|fx_seq_ret<|hr H
 refine vx_skip<|fx_seq<|vx_seq <|
  qB (Z [p 2 (R 2),p 3 (R 3),p 16 (B !vl (u43 a0.2.1 a1.2.1))] [(3,K 46 y46 a1),(2,K 46 y46 a0)]) H fun H =>
  cD H (fun H=>?_) (fun H=>?_)
 ·refine qA (Z [p 4 (B false)] [(3,K 46 y46 a1),(2,K 46 y46 a0)]) <|
   vx_ret<|fx_seq_ret<|hr H
 refine vx_skip<|fx_seq<|vx_seq <|
  qB (Z [p 22 (B !vl (u44 a0.2.2 a1.2.2))] [(3,K 46 y46 a1),(2,K 46 y46 a0)]) H fun H =>
  cD H (fun H=>?_) (fun H=>?_)
 ·refine qA (Z [p 4 (B false)] [(3,K 46 y46 a1),(2,K 46 y46 a0)]) <|
   vx_ret<|fx_seq_ret<|hr H
 refine vx_skip<|fx_seq <|
  qA (Z [p 4 (B true)] [(3,K 46 y46 a1),(2,K 46 y46 a0)]) <|
  vx_ret<|hr H
def u94 (a0:List Y91) (a1:Int) (a2:Int) (a3:Int) (a4:Int) (a5:Int) (a6:Int):Option (List Y91) :=
 gd (in64 (2*a1)∧in64 (2*a1+a3)∧in64 (2*a2)∧in64 (2*a2+a4)∧(a0.length+[(2*a1+a3,2*a2+a4,a5,a6)].length≤9223372036854775807∧(a0.length+[(2*a1+a3,2*a2+a4,a5,a6)].length)*32≤140737488355328)∧True) <|
 some (a0++[(2*a1+a3,2*a2+a4,a5,a6)])
def k94:Ct:=lct 94 [.os 91 y91,.dat i64,.dat i64,.dat i64,.dat i64,.dat i64,.dat i64] (fun x=>u94 x.1 x.2.1 x.2.2.1 x.2.2.2.1 x.2.2.2.2.1 x.2.2.2.2.2.1 x.2.2.2.2.2.2.1) (fun r:List Y91=>AV.ow 91 true y91 r) (fun _=>())
theorem o94:Ok Tryz.prog k94:=by
 refine okL [.tmp 14] Tryz.func94 Tryz.ntmps94 Tryz.results94 ?_
 intro y ⟨a0,a1,a2,a3,a4,a5,a6,_⟩ r H Q hn hr
 have:HT _ _:=⟨@tn Tryz.prog⟩
 refine qA (Z [p 0 (O 500000),p 1 (J a1),p 2 (J a2),p 3 (J a3),p 4 (J a4),p 5 (J a5),p 6 (J a6)] [(500000,A 91 y91 a0 0)]) <|
  qB (Z [p 14 (AV.os 500000 1)] [(500000,A 91 y91 (a0++[(2*a1+a3,2*a2+a4,a5,a6)]) 1),(27,A 91 y91 [(2*a1+a3,2*a2+a4,a5,a6)] 0)]) H fun H =>
  vx_ret<|hr H
def u93J0:Unit→Option (Int)
 | _ =>
 some (-1)
def u93L1 (v0:List Y184) (a1:Int) (g1:Int→Option (Int)):Int→Option (Int)
 | v1 =>
 if (decide (v1 < (↑v0.length:Int)))=true then
  gd (ix v1 v0.length∧v1.toNat < v0.length∧(((v0.getD v1.toNat (dflt y184)).2.2.1==a1)=true∧True→ix v1 v0.length)∧(((v0.getD v1.toNat (dflt y184)).2.2.1==a1)=true∧True→v1.toNat < v0.length)∧True) <|
  if ((v0.getD v1.toNat (dflt y184)).2.2.1==a1&&(v0.getD v1.toNat (dflt y184)).2.2.2)=true then
   some v1
  else
   gd (in64 (v1+1)∧True) <|
   g1 (v1+1)
 else
  u93J0 ()
def u93 (a0:Y43) (a1:Int):Option (Int) :=
 gd ((u106 a0).isSome=true∧True)<|lt (vl (u106 a0)) fun v0 =>
 lp (u93L1 v0 a1) 0
def k93:Ct:=lct 93 [.agg y43,.dat i64] (fun x=>u93 x.1 x.2.1) (fun r:Int=>I r) (fun _=>())
theorem o93:Ok Tryz.prog k93:=by
 refine okL [.tmp 4] Tryz.func93 Tryz.ntmps93 Tryz.results93 ?_
 intro y ⟨a0,a1,_⟩ r H Q hn hr
 have:HT _ _:=⟨tc o106 tn⟩
 refine qA (Z [p 1 (J a1),p 2 (R 2)] [(2,K 43 y43 a0)]) <|
  qD (fun v0=>Z [p 1 (J a1),p 5 (O 8)] [(8,A 184 y184 v0 0),(2,K 43 y43 a0)]) H fun v0 H =>
  jN r (fun (_:Unit)=>Z [] []) (u93J0) (fun _ H=>?_) (fun _ n0 e0 t0=>?_)
 ·refine qA (Z [p 4 (I (-1))] []) <|
   vx_ret<|hr H
 refine qA (Z [p 1 (J a1),p 5 (O 8),p 6 (I 0)] [(8,A 184 y184 v0 0),(2,K 43 y43 a0)]) <|
  vx_block <|
  lX (fun (v1:Int)=>Z [p 1 (J a1),p 5 (O 8),p 6 (I v1)] [(8,A 184 y184 v0 0)]) 0 H fun _ g1 b1 e1 t1 v1 H =>
  vx_seq <|
  qA (Z [p 1 (J a1),p 5 (O 8),p 6 (I v1),p 12 (B (decide (v1 < (↑v0.length:Int))))] [(8,A 184 y184 v0 0)]) <|
  cD H (fun H=>?_) (fun H=>?_)
 ·refine vx_skip<|fx_seq<|vx_seq<|vx_block <|
   qB (Z [p 1 (J a1),p 5 (O 8),p 6 (I v1),p 28 (B ((v0.getD v1.toNat (dflt y184)).2.2.1==a1&&(v0.getD v1.toNat (dflt y184)).2.2.2))] [(8,A 184 y184 v0 0)]) H fun H =>
   cD H (fun H=>?_) (fun H=>?_)
  ·refine qA (Z [p 4 (I v1)] [(8,A 184 y184 v0 0)]) <|
    vx_ret<|fx_blk_ret<|fx_seq_ret<|t1<|fx_blk_ret<|t0<|hr H
  refine vx_skip<|fx_blk<|fx_seq <|
   zB (Z [p 1 (J a1),p 5 (O 8),p 6 (I (v1+1))] [(8,A 184 y184 v0 0)]) H fun H =>
   b1 H
 exact vx_exit<|fx_seq_exit<|e1<|fx_blk_exit rfl<|n0 H
def u91J0:List Y91→Option (List Y91)
 | v20 =>
 some v20
def u91J2 (v9:Int) (g1:Int×List Y91→Option (List Y91)):List Y91→Option (List Y91)
 | v19 =>
 gd (in64 (v9+1)∧True) <|
 g1 (v9+1,v19)
def u91J4 (v14:Int) (g3:Int×List Y91→Option (List Y91)):List Y91→Option (List Y91)
 | v18 =>
 gd (in64 (v14+1)∧True) <|
 g3 (v14+1,v18)
def u91J5 (v14:Int) (v15:List Y91) (a2:Int) (a3:Int) (v9:Int) (a4:Int) (g3:Int×List Y91→Option (List Y91)):Bool→Option (List Y91)
 | v16 =>
 if v16=true then
  gd ((u94 v15 a2 a3 v9 v14 1 a4).isSome=true∧True)<|lt (vl (u94 v15 a2 a3 v9 v14 1 a4)) fun v17 =>
  u91J4 v14 g3 v17
 else
  u91J4 v14 g3 v15
def u91L3 (a2:Int) (a3:Int) (v9:Int) (a4:Int) (a1:Y139) (g1:Int×List Y91→Option (List Y91)) (g3:Int×List Y91→Option (List Y91)):Int×List Y91→Option (List Y91)
 | (v14,v15) =>
 if (decide (v14≤1))=true then
  if (a1.1==1)=true then
   u91J5 v14 v15 a2 a3 v9 a4 g3 (a1.2.2.2.1==3||(a1.2.2.2.1==1)==(v9==v14))
  else
   if (a1.1==2)=true then
    u91J5 v14 v15 a2 a3 v9 a4 g3 (v9==0)
   else
    if (a1.1==3)=true then
     u91J5 v14 v15 a2 a3 v9 a4 g3 (v9==1)
    else
     u91J5 v14 v15 a2 a3 v9 a4 g3 false
 else
  u91J2 v9 g1 v15
def u91L1 (a2:Int) (a3:Int) (a4:Int) (a1:Y139) (g1:Int×List Y91→Option (List Y91)):Int×List Y91→Option (List Y91)
 | (v9,v10) =>
 if (decide (v9≤1))=true then
  lp (u91L3 a2 a3 v9 a4 a1 g1) (0,v10)
 else
  u91J0 v10
def u91 (a0:List Y91) (a1:Y139) (a2:Int) (a3:Int) (a4:Int):Option (List Y91) :=
 lp (u91L1 a2 a3 a4 a1) (0,a0)
def k91:Ct:=lct 91 [.os 91 y91,.agg y139,.dat i64,.dat i64,.dat i64] (fun x=>u91 x.1 x.2.1 x.2.2.1 x.2.2.2.1 x.2.2.2.2.1) (fun r:List Y91=>AV.ow 91 true y91 r) (fun _=>())
theorem o91:Ok Tryz.prog k91:=by
 refine okL [.tmp 10] Tryz.func91 Tryz.ntmps91 Tryz.results91 ?_
 intro y ⟨a0,a1,a2,a3,a4,_⟩ r H Q hn hr
 have:HT _ _:=⟨tc o94 tn⟩
 refine qA (Z [p 0 (O 500000),p 2 (J a2),p 3 (J a3),p 4 (J a4),p 6 (R 6)] [(6,K 139 y139 a1),(500000,A 91 y91 a0 0)]) <|
  jN r (fun (v20:List Y91)=>Z [p 0 (O 500000)] [(500000,A 91 y91 v20 0)]) (u91J0) (fun v20 H=>?_) (fun _ n0 e0 t0=>?_)
 ·refine qA (Z [p 10 (O 500000)] [(500000,A 91 y91 v20 0)]) <|
   vx_ret<|hr H
 refine qA (Z [p 0 (O 500000),p 2 (J a2),p 3 (J a3),p 4 (J a4),p 6 (R 6),p 11 (I 0)] [(6,K 139 y139 a1),(500000,A 91 y91 a0 0)]) <|
  vx_block <|
  lX (fun ((v9,v10):Int×List Y91)=>Z [p 0 (O 500000),p 2 (J a2),p 3 (J a3),p 4 (J a4),p 6 (R 6),p 11 (I v9)] [(6,K 139 y139 a1),(500000,A 91 y91 v10 0)]) (0,a0) H fun _ g1 b1 e1 t1 ⟨v9,v10⟩ H =>
  vx_seq <|
  qA (Z [p 0 (O 500000),p 2 (J a2),p 3 (J a3),p 4 (J a4),p 6 (R 6),p 11 (I v9),p 15 (B (decide (v9≤1)))] [(6,K 139 y139 a1),(500000,A 91 y91 v10 0)]) <|
  cD H (fun H=>?_) (fun H=>?_)
 ·refine vx_skip<|fx_seq <|
   jN r (fun (v19:List Y91)=>Z [p 0 (O 500000),p 2 (J a2),p 3 (J a3),p 4 (J a4),p 6 (R 6),p 11 (I v9)] [(6,K 139 y139 a1),(500000,A 91 y91 v19 0)]) (u91J2 v9 g1) (fun v19 H=>?_) (fun _ n2 e2 t2=>?_)
  ·refine zB (Z [p 0 (O 500000),p 2 (J a2),p 3 (J a3),p 4 (J a4),p 6 (R 6),p 11 (I (v9+1))] [(6,K 139 y139 a1),(500000,A 91 y91 v19 0)]) H fun H =>
    b1 H
  refine vx_block <|
   qA (Z [p 0 (O 500000),p 2 (J a2),p 3 (J a3),p 4 (J a4),p 6 (R 6),p 11 (I v9),p 12 (I 0)] [(6,K 139 y139 a1),(500000,A 91 y91 v10 0)]) <|
   vx_block <|
   lX (fun ((v14,v15):Int×List Y91)=>Z [p 0 (O 500000),p 2 (J a2),p 3 (J a3),p 4 (J a4),p 6 (R 6),p 11 (I v9),p 12 (I v14)] [(6,K 139 y139 a1),(500000,A 91 y91 v15 0)]) (0,v10) H fun _ g3 b3 e3 t3 ⟨v14,v15⟩ H =>
   vx_seq <|
   qA (Z [p 0 (O 500000),p 2 (J a2),p 3 (J a3),p 4 (J a4),p 6 (R 6),p 11 (I v9),p 12 (I v14),p 19 (B (decide (v14≤1)))] [(6,K 139 y139 a1),(500000,A 91 y91 v15 0)]) <|
   cD H (fun H=>?_) (fun H=>?_)
  ·refine vx_skip<|fx_seq <|
    jN r (fun (v18:List Y91)=>Z [p 0 (O 500000),p 2 (J a2),p 3 (J a3),p 4 (J a4),p 6 (R 6),p 11 (I v9),p 12 (I v14)] [(500000,A 91 y91 v18 0),(6,K 139 y139 a1)]) (u91J4 v14 g3) (fun v18 H=>?_) (fun _ n4 e4 t4=>?_)
   ·refine zB (Z [p 0 (O 500000),p 2 (J a2),p 3 (J a3),p 4 (J a4),p 6 (R 6),p 11 (I v9),p 12 (I (v14+1))] [(500000,A 91 y91 v18 0),(6,K 139 y139 a1)]) H fun H =>
     b3 H
   refine vx_block <|
    qA (Z [p 0 (O 500000),p 2 (J a2),p 3 (J a3),p 4 (J a4),p 6 (R 6),p 11 (I v9),p 12 (I v14),p 13 (B false)] [(6,K 139 y139 a1),(500000,A 91 y91 v15 0)]) <|
    jN r (fun (v16:Bool)=>Z [p 0 (O 500000),p 2 (J a2),p 3 (J a3),p 4 (J a4),p 6 (R 6),p 11 (I v9),p 12 (I v14),p 13 (B v16)] [(6,K 139 y139 a1),(500000,A 91 y91 v15 0)]) (u91J5 v14 v15 a2 a3 v9 a4 g3) (fun v16 H=>?_) (fun _ n5 e5 t5=>?_)
   ·refine qA (Z [p 0 (O 500000),p 2 (J a2),p 3 (J a3),p 4 (J a4),p 6 (R 6),p 11 (I v9),p 12 (I v14),p 46 (B v16)] [(6,K 139 y139 a1),(500000,A 91 y91 v15 0)]) <|
     cD H (fun H=>?_) (fun H=>?_)
    ·refine zD (fun v17=>Z [p 0 (AV.os 500000 1),p 2 (J a2),p 3 (J a3),p 4 (J a4),p 6 (R 6),p 11 (I v9),p 12 (I v14)] [(500000,A 91 y91 v17 1),(6,K 139 y139 a1)]) H fun v17 H =>
      fx_blk<|n4 H
    exact vx_skip<|fx_blk<|n4 H
   refine qA (Z [p 0 (O 500000),p 2 (J a2),p 3 (J a3),p 4 (J a4),p 6 (R 6),p 11 (I v9),p 12 (I v14),p 13 (B false),p 23 (J a1.1)] [(6,K 139 y139 a1),(500000,A 91 y91 v15 0)]) <|
    vx_block <|
    qA (Z [p 0 (O 500000),p 2 (J a2),p 3 (J a3),p 4 (J a4),p 6 (R 6),p 11 (I v9),p 12 (I v14),p 13 (B false),p 23 (J a1.1),p 24 (B (a1.1==1))] [(6,K 139 y139 a1),(500000,A 91 y91 v15 0)]) <|
    cD H (fun H=>?_) (fun H=>?_)
   ·refine zA (Z [p 0 (O 500000),p 2 (J a2),p 3 (J a3),p 4 (J a4),p 6 (R 6),p 11 (I v9),p 12 (I v14),p 13 (B (a1.2.2.2.1==3||(a1.2.2.2.1==1)==(v9==v14)))] [(6,K 139 y139 a1),(500000,A 91 y91 v15 0)]) <|
     fx_blk<|n5 H
   refine qA (Z [p 0 (O 500000),p 2 (J a2),p 3 (J a3),p 4 (J a4),p 6 (R 6),p 11 (I v9),p 12 (I v14),p 13 (B false),p 23 (J a1.1),p 38 (B (a1.1==2))] [(6,K 139 y139 a1),(500000,A 91 y91 v15 0)]) <|
    cD H (fun H=>?_) (fun H=>?_)
   ·refine zA (Z [p 0 (O 500000),p 2 (J a2),p 3 (J a3),p 4 (J a4),p 6 (R 6),p 11 (I v9),p 12 (I v14),p 13 (B (v9==0))] [(6,K 139 y139 a1),(500000,A 91 y91 v15 0)]) <|
     fx_blk<|n5 H
   refine qA (Z [p 0 (O 500000),p 2 (J a2),p 3 (J a3),p 4 (J a4),p 6 (R 6),p 11 (I v9),p 12 (I v14),p 13 (B false),p 42 (B (a1.1==3))] [(6,K 139 y139 a1),(500000,A 91 y91 v15 0)]) <|
    cD H (fun H=>?_) (fun H=>?_)
   ·refine zA (Z [p 0 (O 500000),p 2 (J a2),p 3 (J a3),p 4 (J a4),p 6 (R 6),p 11 (I v9),p 12 (I v14),p 13 (B (v9==1))] [(6,K 139 y139 a1),(500000,A 91 y91 v15 0)]) <|
     fx_blk<|n5 H
   exact vx_skip<|fx_blk<|n5 H
  exact vx_exit<|fx_seq_exit<|e3<|fx_blk_exit rfl<|fx_blk<|n2 H
 exact vx_exit<|fx_seq_exit<|e1<|fx_blk_exit rfl<|n0 H
def u92J0:Unit→Option (Int)
 | _ =>
 some (-1)
def u92L1 (v0:List Y184) (a1:Int) (a2:Int) (g1:Int→Option (Int)):Int→Option (Int)
 | v1 =>
 if (decide (v1 < (↑v0.length:Int)))=true then
  gd (ix v1 v0.length∧v1.toNat < v0.length∧(((v0.getD v1.toNat (dflt y184)).1==a1)=true∧True→ix v1 v0.length)∧(((v0.getD v1.toNat (dflt y184)).1==a1)=true∧True→v1.toNat < v0.length)∧True) <|
  if ((v0.getD v1.toNat (dflt y184)).1==a1&&(v0.getD v1.toNat (dflt y184)).2.1==a2)=true then
   some v1
  else
   gd (in64 (v1+1)∧True) <|
   g1 (v1+1)
 else
  u92J0 ()
def u92 (a0:Y43) (a1:Int) (a2:Int):Option (Int) :=
 gd ((u106 a0).isSome=true∧True)<|lt (vl (u106 a0)) fun v0 =>
 lp (u92L1 v0 a1 a2) 0
def k92:Ct:=lct 92 [.agg y43,.dat i64,.dat i64] (fun x=>u92 x.1 x.2.1 x.2.2.1) (fun r:Int=>I r) (fun _=>())
theorem o92:Ok Tryz.prog k92:=by
 refine okL [.tmp 6] Tryz.func92 Tryz.ntmps92 Tryz.results92 ?_
 intro y ⟨a0,a1,a2,_⟩ r H Q hn hr
 have:HT _ _:=⟨tc o106 tn⟩
 refine qA (Z [p 1 (J a1),p 2 (J a2),p 3 (R 3)] [(3,K 43 y43 a0)]) <|
  qD (fun v0=>Z [p 1 (J a1),p 2 (J a2),p 7 (O 10)] [(10,A 184 y184 v0 0),(3,K 43 y43 a0)]) H fun v0 H =>
  jN r (fun (_:Unit)=>Z [] []) (u92J0) (fun _ H=>?_) (fun _ n0 e0 t0=>?_)
 ·refine qA (Z [p 6 (I (-1))] []) <|
   vx_ret<|hr H
 refine qA (Z [p 1 (J a1),p 2 (J a2),p 7 (O 10),p 8 (I 0)] [(10,A 184 y184 v0 0),(3,K 43 y43 a0)]) <|
  vx_block <|
  lX (fun (v1:Int)=>Z [p 1 (J a1),p 2 (J a2),p 7 (O 10),p 8 (I v1)] [(10,A 184 y184 v0 0)]) 0 H fun _ g1 b1 e1 t1 v1 H =>
  vx_seq <|
  qA (Z [p 1 (J a1),p 2 (J a2),p 7 (O 10),p 8 (I v1),p 14 (B (decide (v1 < (↑v0.length:Int))))] [(10,A 184 y184 v0 0)]) <|
  cD H (fun H=>?_) (fun H=>?_)
 ·refine vx_skip<|fx_seq<|vx_seq<|vx_block <|
   qB (Z [p 1 (J a1),p 2 (J a2),p 7 (O 10),p 8 (I v1),p 32 (B ((v0.getD v1.toNat (dflt y184)).1==a1&&(v0.getD v1.toNat (dflt y184)).2.1==a2))] [(10,A 184 y184 v0 0)]) H fun H =>
   cD H (fun H=>?_) (fun H=>?_)
  ·refine qA (Z [p 6 (I v1)] [(10,A 184 y184 v0 0)]) <|
    vx_ret<|fx_blk_ret<|fx_seq_ret<|t1<|fx_blk_ret<|t0<|hr H
  refine vx_skip<|fx_blk<|fx_seq <|
   zB (Z [p 1 (J a1),p 2 (J a2),p 7 (O 10),p 8 (I (v1+1))] [(10,A 184 y184 v0 0)]) H fun H =>
   b1 H
 exact vx_exit<|fx_seq_exit<|e1<|fx_blk_exit rfl<|n0 H
def u49J5:List Y91→Option (List Y91)
 | v39 =>
 some v39
def u49J7 (v28:Int) (g6:Int×List Y91→Option (List Y91)):List Y91→Option (List Y91)
 | v38 =>
 gd (in64 (v28+1)∧True) <|
 g6 (v28+1,v38)
def u49L8 (v30:Int) (v31:List Int) (v28:Int) (g6:Int×List Y91→Option (List Y91)) (g8:Int×List Y91→Option (List Y91)):Int×List Y91→Option (List Y91)
 | (v34,v35) =>
 if (decide (v34 < (↑v31.length:Int)))=true then
  gd (ix v34 v31.length∧v34.toNat < v31.length∧(u94 v35 v30 (v31.getD v34.toNat 0) 0 0 2 v34).isSome=true∧True)<|lt (vl (u94 v35 v30 (v31.getD v34.toNat 0) 0 0 2 v34)) fun v36 =>
  gd (ix v34 v31.length∧v34.toNat < v31.length∧(u94 v36 v30 (v31.getD v34.toNat 0) 1 1 2 v34).isSome=true∧True)<|lt (vl (u94 v36 v30 (v31.getD v34.toNat 0) 1 1 2 v34)) fun v37 =>
  gd (in64 (v34+1)∧True) <|
  g8 (v34+1,v37)
 else
  u49J7 v28 g6 v35
def u49L6 (a0:Y46) (g6:Int×List Y91→Option (List Y91)):Int×List Y91→Option (List Y91)
 | (v28,v29) =>
 if (decide (v28 < (↑a0.2.1.2.1.length:Int)))=true then
  gd ((u93 a0.2.1 v28).isSome=true∧True)<|lt (vl (u93 a0.2.1 v28)) fun v30 =>
  gd ((u90 a0.2.1 v28).isSome=true∧True)<|lt (vl (u90 a0.2.1 v28)) fun v31 =>
  lp (u49L8 v30 v31 v28 g6) (0,v29)
 else
  u49J5 v29
def u49J0 (a0:Y46):List Y91→Option (List Y91)
 | v18 =>
 lp (u49L6 a0) (0,v18)
def u49J2 (v8:Int) (g1:Int×List Y91→Option (List Y91)):List Y91→Option (List Y91)
 | v17 =>
 gd (in64 (v8+1)∧True) <|
 g1 (v8+1,v17)
def u49J4 (v13:Int) (g3:Int×List Y91→Option (List Y91)):List Y91→Option (List Y91)
 | v16 =>
 gd (in64 (v13+1)∧True) <|
 g3 (v13+1,v16)
def u49L3 (v10:Y134) (a0:Y46) (v8:Int) (g1:Int×List Y91→Option (List Y91)) (g3:Int×List Y91→Option (List Y91)):Int×List Y91→Option (List Y91)
 | (v13,v14) =>
 if (decide (v13 < (↑v10.2.2.2.1.length:Int)))=true then
  gd (ix v13 v10.2.2.2.1.length∧True) <|
  if (decide ((v10.2.2.2.1.getD v13.toNat (dflt y139)).1≤3))=true then
   gd (ix v13 v10.2.2.2.1.length∧ix v13 v10.2.2.2.1.length∧(u92 a0.2.1 v8 (v10.2.2.2.1.getD v13.toNat (dflt y139)).2.1).isSome=true∧ix v13 v10.2.2.2.1.length∧(u92 a0.2.1 v8 (v10.2.2.2.1.getD v13.toNat (dflt y139)).2.2.1).isSome=true∧(u91 v14 (v10.2.2.2.1.getD v13.toNat (dflt y139)) (vl (u92 a0.2.1 v8 (v10.2.2.2.1.getD v13.toNat (dflt y139)).2.1)) (vl (u92 a0.2.1 v8 (v10.2.2.2.1.getD v13.toNat (dflt y139)).2.2.1)) v13).isSome=true∧True)<|lt (vl (u91 v14 (v10.2.2.2.1.getD v13.toNat (dflt y139)) (vl (u92 a0.2.1 v8 (v10.2.2.2.1.getD v13.toNat (dflt y139)).2.1)) (vl (u92 a0.2.1 v8 (v10.2.2.2.1.getD v13.toNat (dflt y139)).2.2.1)) v13)) fun v15 =>
   u49J4 v13 g3 v15
  else
   u49J4 v13 g3 v14
 else
  u49J2 v8 g1 v14
def u49L1 (a0:Y46) (g1:Int×List Y91→Option (List Y91)):Int×List Y91→Option (List Y91)
 | (v8,v9) =>
 if (decide (v8 < (↑a0.2.1.1.length:Int)))=true then
  gd (ix v8 a0.2.1.1.length∧ix (a0.2.1.1.getD v8.toNat (dflt y136)).2.1 a0.1.length∧True)<|lt (a0.1.getD (a0.2.1.1.getD v8.toNat (dflt y136)).2.1.toNat (dflt y134)) fun v10 =>
  lp (u49L3 v10 a0 v8 g1) (0,v9)
 else
  u49J0 a0 v9
def u49 (a0:Y46):Option (List Y91) :=
 lp (u49L1 a0) (0,[])
def k49:Ct:=lct 49 [.agg y46] (fun x=>u49 x.1) (fun r:List Y91=>AV.ow 91 true y91 r) (fun _=>())
theorem o49:Ok Tryz.prog k49:=by
 refine okL [.tmp 2] Tryz.func49 Tryz.ntmps49 Tryz.results49 ?_
 intro y ⟨a0,_⟩ r H Q hn hr
 have:HT _ _:=⟨tc o94 (tc o90 (tc o93 (tc o91 (tc o92 tn))))⟩
 refine qA (Z [p 1 (R 1)] [(1,K 46 y46 a0)]) <|
  qA (Z [p 1 (R 1),p 3 (O 12)] [(12,A 91 y91 [] 0),(1,K 46 y46 a0)]) <|
  qA (Z [p 1 (R 1),p 3 (O 12),p 4 (R 4)] [(4,K 43 y43 a0.2.1),(12,A 91 y91 [] 0),(1,K 46 y46 a0)]) <|
  jN r (fun (v18:List Y91)=>Z [p 3 (O 12),p 4 (R 4)] [(4,K 43 y43 a0.2.1),(12,A 91 y91 v18 0)]) (u49J0 a0) (fun v18 H=>?_) (fun _ n0 e0 t0=>?_)
 ·refine jN r (fun (v39:List Y91)=>Z [p 3 (O 12)] [(12,A 91 y91 v39 0)]) (u49J5) (fun v39 H=>?_) (fun _ n5 e5 t5=>?_)
  ·refine qA (Z [p 2 (O 12)] [(12,A 91 y91 v39 0)]) <|
    vx_ret<|hr H
  refine qA (Z [p 3 (O 12),p 4 (R 4),p 8 (I 0)] [(4,K 43 y43 a0.2.1),(12,A 91 y91 v18 0)]) <|
   vx_block <|
   lX (fun ((v28,v29):Int×List Y91)=>Z [p 3 (O 12),p 4 (R 4),p 8 (I v28)] [(4,K 43 y43 a0.2.1),(12,A 91 y91 v29 0)]) (0,v18) H fun _ g6 b6 e6 t6 ⟨v28,v29⟩ H =>
   vx_seq <|
   qA (Z [p 3 (O 12),p 4 (R 4),p 8 (I v28),p 73 (B (decide (v28 < (↑a0.2.1.2.1.length:Int))))] [(4,K 43 y43 a0.2.1),(12,A 91 y91 v29 0)]) <|
   cD H (fun H=>?_) (fun H=>?_)
  ·refine vx_skip<|fx_seq <|
    jN r (fun (v38:List Y91)=>Z [p 3 (O 12),p 4 (R 4),p 8 (I v28)] [(4,K 43 y43 a0.2.1),(12,A 91 y91 v38 0)]) (u49J7 v28 g6) (fun v38 H=>?_) (fun _ n7 e7 t7=>?_)
   ·refine zB (Z [p 3 (O 12),p 4 (R 4),p 8 (I (v28+1))] [(4,K 43 y43 a0.2.1),(12,A 91 y91 v38 0)]) H fun H =>
     b6 H
   refine vx_block <|
    qD (fun v30=>Z [p 3 (O 12),p 4 (R 4),p 8 (I v28),p 9 (I v30)] [(4,K 43 y43 a0.2.1),(12,A 91 y91 v29 0)]) H fun v30 H =>
    qD (fun v31=>Z [p 3 (O 12),p 4 (R 4),p 8 (I v28),p 9 (I v30),p 10 (O 81)] [(81,A 2 i64 v31 0),(4,K 43 y43 a0.2.1),(12,A 91 y91 v29 0)]) H fun v31 H =>
    qA (Z [p 3 (O 12),p 4 (R 4),p 8 (I v28),p 9 (I v30),p 10 (O 81),p 11 (I 0)] [(81,A 2 i64 v31 0),(4,K 43 y43 a0.2.1),(12,A 91 y91 v29 0)]) <|
    vx_block <|
    lX (fun ((v34,v35):Int×List Y91)=>Z [p 3 (O 12),p 4 (R 4),p 8 (I v28),p 9 (I v30),p 10 (O 81),p 11 (I v34)] [(81,A 2 i64 v31 0),(4,K 43 y43 a0.2.1),(12,A 91 y91 v35 0)]) (0,v29) H fun _ g8 b8 e8 t8 ⟨v34,v35⟩ H =>
    vx_seq <|
    qA (Z [p 3 (O 12),p 4 (R 4),p 8 (I v28),p 9 (I v30),p 10 (O 81),p 11 (I v34),p 85 (B (decide (v34 < (↑v31.length:Int))))] [(81,A 2 i64 v31 0),(4,K 43 y43 a0.2.1),(12,A 91 y91 v35 0)]) <|
    cD H (fun H=>?_) (fun H=>?_)
   ·refine vx_skip<|fx_seq<|vx_seq<|vx_block <|
     qD (fun v36=>Z [p 3 (AV.os 12 1),p 4 (R 4),p 8 (I v28),p 9 (I v30),p 10 (O 81),p 11 (I v34)] [(12,A 91 y91 v36 1),(81,A 2 i64 v31 0),(4,K 43 y43 a0.2.1)]) H fun v36 H =>
     zD (fun v37=>Z [p 3 (AV.os 12 2),p 4 (R 4),p 8 (I v28),p 9 (I v30),p 10 (O 81),p 11 (I v34)] [(12,A 91 y91 v37 2),(81,A 2 i64 v31 0),(4,K 43 y43 a0.2.1)]) H fun v37 H =>
     fx_blk<|fx_seq <|
     zB (Z [p 3 (AV.os 12 2),p 4 (R 4),p 8 (I v28),p 9 (I v30),p 10 (O 81),p 11 (I (v34+1))] [(12,A 91 y91 v37 2),(81,A 2 i64 v31 0),(4,K 43 y43 a0.2.1)]) H fun H =>
     b8 H
   exact vx_exit<|fx_seq_exit<|e8<|fx_blk_exit rfl<|fx_blk<|n7 H
  exact vx_exit<|fx_seq_exit<|e6<|fx_blk_exit rfl<|n5 H
 refine qA (Z [p 1 (R 1),p 3 (O 12),p 4 (R 4),p 5 (I 0)] [(4,K 43 y43 a0.2.1),(12,A 91 y91 [] 0),(1,K 46 y46 a0)]) <|
  vx_block <|
  lX (fun ((v8,v9):Int×List Y91)=>Z [p 1 (R 1),p 3 (O 12),p 4 (R 4),p 5 (I v8)] [(4,K 43 y43 a0.2.1),(12,A 91 y91 v9 0),(1,K 46 y46 a0)]) (0,[]) H fun _ g1 b1 e1 t1 ⟨v8,v9⟩ H =>
  vx_seq <|
  qA (Z [p 1 (R 1),p 3 (O 12),p 4 (R 4),p 5 (I v8),p 19 (B (decide (v8 < (↑a0.2.1.1.length:Int))))] [(4,K 43 y43 a0.2.1),(12,A 91 y91 v9 0),(1,K 46 y46 a0)]) <|
  cD H (fun H=>?_) (fun H=>?_)
 ·refine vx_skip<|fx_seq <|
   jN r (fun (v17:List Y91)=>Z [p 1 (R 1),p 3 (O 12),p 4 (R 4),p 5 (I v8)] [(4,K 43 y43 a0.2.1),(12,A 91 y91 v17 0),(1,K 46 y46 a0)]) (u49J2 v8 g1) (fun v17 H=>?_) (fun _ n2 e2 t2=>?_)
  ·refine zB (Z [p 1 (R 1),p 3 (O 12),p 4 (R 4),p 5 (I (v8+1))] [(4,K 43 y43 a0.2.1),(12,A 91 y91 v17 0),(1,K 46 y46 a0)]) H fun H =>
    b1 H
  refine vx_block <|
   qD (fun v10=>Z [p 1 (R 1),p 3 (O 12),p 4 (R 4),p 5 (I v8),p 6 (L y139 v10.2.2.2.1)] [(4,K 43 y43 a0.2.1),(12,A 91 y91 v9 0),(1,K 46 y46 a0)]) H fun v10 H =>
   qA (Z [p 1 (R 1),p 3 (O 12),p 4 (R 4),p 5 (I v8),p 6 (L y139 v10.2.2.2.1),p 7 (I 0)] [(4,K 43 y43 a0.2.1),(12,A 91 y91 v9 0),(1,K 46 y46 a0)]) <|
   vx_block <|
   lX (fun ((v13,v14):Int×List Y91)=>Z [p 1 (R 1),p 3 (O 12),p 4 (R 4),p 5 (I v8),p 6 (L y139 v10.2.2.2.1),p 7 (I v13)] [(4,K 43 y43 a0.2.1),(12,A 91 y91 v14 0),(1,K 46 y46 a0)]) (0,v9) H fun _ g3 b3 e3 t3 ⟨v13,v14⟩ H =>
   vx_seq <|
   qA (Z [p 1 (R 1),p 3 (O 12),p 4 (R 4),p 5 (I v8),p 6 (L y139 v10.2.2.2.1),p 7 (I v13),p 37 (B (decide (v13 < (↑v10.2.2.2.1.length:Int))))] [(4,K 43 y43 a0.2.1),(12,A 91 y91 v14 0),(1,K 46 y46 a0)]) <|
   cD H (fun H=>?_) (fun H=>?_)
  ·refine vx_skip<|fx_seq <|
    jN r (fun (v16:List Y91)=>Z [p 1 (R 1),p 3 (O 12),p 4 (R 4),p 5 (I v8),p 6 (L y139 v10.2.2.2.1),p 7 (I v13)] [(12,A 91 y91 v16 0),(4,K 43 y43 a0.2.1),(1,K 46 y46 a0)]) (u49J4 v13 g3) (fun v16 H=>?_) (fun _ n4 e4 t4=>?_)
   ·refine zB (Z [p 1 (R 1),p 3 (O 12),p 4 (R 4),p 5 (I v8),p 6 (L y139 v10.2.2.2.1),p 7 (I (v13+1))] [(12,A 91 y91 v16 0),(4,K 43 y43 a0.2.1),(1,K 46 y46 a0)]) H fun H =>
     b3 H
   refine vx_block <|
    qB (Z [p 1 (R 1),p 3 (O 12),p 4 (R 4),p 5 (I v8),p 6 (L y139 v10.2.2.2.1),p 7 (I v13),p 45 (B (decide ((v10.2.2.2.1.getD v13.toNat (dflt y139)).1≤3)))] [(4,K 43 y43 a0.2.1),(12,A 91 y91 v14 0),(1,K 46 y46 a0)]) H fun H =>
    cD H (fun H=>?_) (fun H=>?_)
   ·refine zD (fun v15=>Z [p 1 (R 1),p 3 (AV.os 12 1),p 4 (R 4),p 5 (I v8),p 6 (L y139 v10.2.2.2.1),p 7 (I v13)] [(12,A 91 y91 v15 1),(4,K 43 y43 a0.2.1),(1,K 46 y46 a0)]) H fun v15 H =>
     fx_blk<|n4 H
   exact vx_skip<|fx_blk<|n4 H
  exact vx_exit<|fx_seq_exit<|e3<|fx_blk_exit rfl<|fx_blk<|n2 H
 exact vx_exit<|fx_seq_exit<|e1<|fx_blk_exit rfl<|n0 H
def u17 (a0:Y46):Option (List Y91×Int) :=
 gd ((u48 a0).isSome=true∧True) <|
 if (!vl (u48 a0))=true then
  some (([],(1:Int)))
 else
  gd ((u49 a0).isSome=true∧True)<|lt (vl (u49 a0)) fun v0 =>
  some ((v0,(0:Int)))
def k17:Ct:=lct 17 [.agg y46] (fun x=>u17 x.1) (fun r:List Y91×Int=>AV.tup [AV.ow 91 true y91 r.1,I r.2]) (fun _=>())
theorem o17:Ok Tryz.prog k17:=by
 refine okL [.tmp 2,.tmp 3] Tryz.func17 Tryz.ntmps17 Tryz.results17 ?_
 intro y ⟨a0,_⟩ r H Q hn hr
 have:HT _ _:=⟨tc o49 (tc o48 tn)⟩
 refine qA (Z [p 1 (R 1)] [(1,K 46 y46 a0)]) <|
  vx_seq <|
  qB (Z [p 1 (R 1),p 6 (B !vl (u48 a0))] [(1,K 46 y46 a0)]) H fun H =>
  cD H (fun H=>?_) (fun H=>?_)
 ·refine qA (Z [p 2 (O 7),p 3 (I 1)] [(7,A 91 y91 [] 0),(1,K 46 y46 a0)]) <|
   vx_ret<|fx_seq_ret<|hr H
 refine vx_skip<|fx_seq <|
  qD (fun v0=>Z [p 2 (O 9),p 3 (I 0)] [(9,A 91 y91 v0 0),(1,K 46 y46 a0)]) H fun v0 H =>
  vx_ret<|hr H
end Go.Proofs.YtgmpfbpemmohnaaGreatDoor
