/- Functions of this program as plain functions of data, and that they are so: printed by program. -/
import Derived.Test.YthobjlocnkienaaGreatDoorFn22b
namespace Go.Proofs.YthobjlocnkienaaGreatDoor
open Go Go.Proofs Go.Proofs.Sv Go.Proofs.Xv Go.Proofs.Xl Go.RowKit
def u190c164J0:Unit→Option (Int)
 | _ =>
 some (-1)
def u190c164L1 (a0:List Int) (g1:Int→Option (Int)):Int→Option (Int)
 | v0 =>
 if (decide (v0 < (↑a0.length:Int)))=true then
  gd (ix v0 a0.length∧(u164 (a0.getD v0.toNat 0)).isSome=true∧True) <|
  if (vl (u164 (a0.getD v0.toNat 0)))=true then
   some v0
  else
   gd (in64 (v0+1)∧True) <|
   g1 (v0+1)
 else
  u190c164J0 ()
def u190c164 (a0:List Int):Option (Int) :=
 lp (u190c164L1 a0) 0
def k190c164:Ct:=lct 190 [.dat i64.sl,.nof 164] (fun x=>u190c164 x.1) (fun r:Int=>I r) (fun _=>())
theorem o190c164:Ok Tryz.prog k190c164:=by
 refine okL [.tmp 4] Tryz.func190 Tryz.ntmps190 Tryz.results190 ?_
 intro y ⟨a0,_,_⟩ r H Q hn hr
 have:HT _ _:=⟨tc o164 tn⟩
 refine qA (Z [p 0 (L i64 a0),p 1 (AV.fn 164 [])] []) <|
  jN r (fun (_:Unit)=>Z [] []) (u190c164J0) (fun _ H=>?_) (fun _ n0 e0 t0=>?_)
 ·refine qA (Z [p 4 (I (-1))] []) <|
   vx_ret<|hr H
 refine qA (Z [p 0 (L i64 a0),p 1 (AV.fn 164 []),p 7 (I (↑a0.length:Int)),p 8 (I 0)] []) <|
  vx_block <|
  lX (fun (v0:Int)=>Z [p 0 (L i64 a0),p 1 (AV.fn 164 []),p 7 (I (↑a0.length:Int)),p 8 (I v0)] []) 0 H fun _ g1 b1 e1 t1 v0 H =>
  qA (Z [p 0 (L i64 a0),p 1 (AV.fn 164 []),p 7 (I (↑a0.length:Int)),p 8 (I v0),p 9 (B (decide (v0 < (↑a0.length:Int))))] []) <|
  vx_seq <|
  cD H (fun H=>?_) (fun H=>?_)
 ·refine vx_skip<|fx_seq<|vx_seq<|vx_block <|
   qA (Z [p 0 (L i64 a0),p 1 (AV.fn 164 []),p 5 (I v0),p 7 (I (↑a0.length:Int)),p 8 (I v0)] []) <|
   qB (Z [p 0 (L i64 a0),p 1 (AV.fn 164 []),p 5 (I v0),p 7 (I (↑a0.length:Int)),p 8 (I v0),p 16 (B (vl (u164 (a0.getD v0.toNat 0))))] []) H fun H =>
   cD H (fun H=>?_) (fun H=>?_)
  ·refine qA (Z [p 4 (I v0)] []) <|
    vx_ret<|fx_blk_ret<|fx_seq_ret<|t1<|fx_blk_ret<|t0<|hr H
  refine vx_skip<|fx_blk<|fx_seq <|
   zB (Z [p 0 (L i64 a0),p 1 (AV.fn 164 []),p 7 (I (↑a0.length:Int)),p 8 (I (v0+1))] []) H fun H =>
   b1 H
 exact vx_exit<|fx_seq_exit<|e1<|fx_blk_exit rfl<|n0 H
def u163c164 (a0:List Int):Option (Bool) :=
 gd ((u190c164 a0).isSome=true∧True)<|lt (vl (u190c164 a0)) fun v0 =>
 some (decide (0≤v0))
def k163c164:Ct:=lct 163 [.dat i64.sl,.nof 164] (fun x=>u163c164 x.1) (fun r:Bool=>B r) (fun _=>())
theorem o163c164:Ok Tryz.prog k163c164:=by
 refine okL [.tmp 4] Tryz.func163 Tryz.ntmps163 Tryz.results163 ?_
 intro y ⟨a0,_,_⟩ r H Q hn hr
 have:HT _ _:=⟨tc o190c164 (tc o164 tn)⟩
 refine qA (Z [p 0 (L i64 a0),p 1 (AV.fn 164 [])] []) <|
  qD (fun v0=>Z [p 4 (B (decide (0≤v0)))] []) H fun v0 H =>
  vx_ret<|hr H
def u119J2:List Int→Option (Bool)
 | v13 =>
 gd ((u163c164 v13).isSome=true∧True) <|
 some (!vl (u163c164 v13))
def u119J4 (v9:Int) (g3:Int×List Int→Option (Bool)):List Int→Option (Bool)
 | v12 =>
 gd (in64 (v9+1)∧True) <|
 g3 (v9+1,v12)
def u119L3 (a1:Y43) (g3:Int×List Int→Option (Bool)):Int×List Int→Option (Bool)
 | (v9,v10) =>
 if (decide (v9 < (↑a1.2.2.length:Int)))=true then
  gd (ix v9 a1.2.2.length∧True)<|lt (a1.2.2.getD v9.toNat (dflt y190)) fun v11 =>
  gd (((v11.2.1 != 1&&v11.2.1 != 2)=false∧True→(u162 a1 v11.2.2).isSome=true)∧True) <|
  if (v11.2.1 != 1&&v11.2.1 != 2||!vl (u162 a1 v11.2.2))=true then
   some false
  else
   if (v11.2.1==1)=true then
    gd (ix v11.2.2 v10.length∧v11.2.2.toNat < v10.length∧in64 (v10.getD v11.2.2.toNat 0+1)∧ix v11.2.2 v10.length∧v11.2.2.toNat < v10.length∧True) <|
    u119J4 v9 g3 (v10.set v11.2.2.toNat (v10.getD v11.2.2.toNat 0+1))
   else
    u119J4 v9 g3 v10
 else
  u119J2 v10
def u119J0 (a1:Y43):List Int→Option (Bool)
 | v6 =>
 lp (u119L3 a1) (0,v6)
def u119L1 (a1:Y43) (a0:List Y148) (g1:Int×List Int→Option (Bool)):Int×List Int→Option (Bool)
 | (v2,v3) =>
 if (decide (v2 < (↑a1.1.length:Int)))=true then
  gd (ix v2 a1.1.length∧True)<|lt (a1.1.getD v2.toNat (dflt y150)) fun v4 =>
  gd ((u161 a1 a0 v4).isSome=true∧True) <|
  if (!vl (u161 a1 a0 v4))=true then
   some false
  else
   gd (in64 ((↑v4.2.2.length:Int) - 1)∧ix ((↑v4.2.2.length:Int) - 1) v4.2.2.length∧ix (v4.2.2.getD ((↑v4.2.2.length:Int) - 1).toNat 0) v3.length∧Int.toNat (v4.2.2.getD ((↑v4.2.2.length:Int) - 1).toNat 0) < v3.length∧in64 (v3.getD (Int.toNat (v4.2.2.getD ((↑v4.2.2.length:Int) - 1).toNat 0)) 0+1)∧ix (v4.2.2.getD ((↑v4.2.2.length:Int) - 1).toNat 0) v3.length∧Int.toNat (v4.2.2.getD ((↑v4.2.2.length:Int) - 1).toNat 0) < v3.length∧True)<|lt (v3.set (Int.toNat (v4.2.2.getD ((↑v4.2.2.length:Int) - 1).toNat 0)) (v3.getD (Int.toNat (v4.2.2.getD ((↑v4.2.2.length:Int) - 1).toNat 0)) 0+1)) fun v5 =>
   gd (in64 (v2+1)∧True) <|
   g1 (v2+1,v5)
 else
  u119J0 a1 v3
def u119 (a0:List Y148) (a1:Y43):Option (Bool) :=
 gd ((u159 a0).isSome=true∧((!vl (u159 a0))=false∧True→(u160 a1).isSome=true)∧True) <|
 if (!vl (u159 a0)||!vl (u160 a1))=true then
  some false
 else
  gd ((0≤(↑a1.2.1.length:Int)∧(↑a1.2.1.length:Int)=(↑a1.2.1.length:Int)∧(↑a1.2.1.length:Int).toNat*8≤281474976710656∧(↑a1.2.1.length:Int)≤9223372036854775807)∧True) <|
  lp (u119L1 a1 a0) ((0,List.replicate (↑a1.2.1.length:Int).toNat 0))
def k119:Ct:=lct 119 [.agg y148.sl,.agg y43] (fun x=>u119 x.1 x.2.1) (fun r:Bool=>B r) (fun _=>())
theorem o119:Ok Tryz.prog k119:=by
 refine okL [.tmp 4] Tryz.func119 Tryz.ntmps119 Tryz.results119 ?_
 intro y ⟨a0,a1,_⟩ r H Q hn hr
 have:HT _ _:=⟨tc o164 (tc o163c164 (tc o162 (tc o161 (tc o160 (tc o159 tn)))))⟩
 refine qA (Z [p 2 (R 2),p 3 (R 3)] [(3,K 43 y43 a1),(2,Ob.box 39 [L y148 a0])]) <|
  vx_seq <|
  qB (Z [p 2 (R 2),p 3 (R 3),p 17 (B (!vl (u159 a0)||!vl (u160 a1)))] [(3,K 43 y43 a1),(2,Ob.box 39 [L y148 a0])]) H fun H =>
  cD H (fun H=>?_) (fun H=>?_)
 ·refine qA (Z [p 4 (B false)] [(3,K 43 y43 a1),(2,Ob.box 39 [L y148 a0])]) <|
   vx_ret<|fx_seq_ret<|hr H
 refine vx_skip<|fx_seq <|
  qB (Z [p 2 (R 2),p 3 (R 3),p 5 (O 21)] [(21,A 3 i64 (List.replicate (↑a1.2.1.length:Int).toNat 0) 0),(3,K 43 y43 a1),(2,Ob.box 39 [L y148 a0])]) H fun H =>
  jN r (fun (v6:List Int)=>Z [p 3 (R 3),p 5 (O 21)] [(21,A 3 i64 v6 0),(3,K 43 y43 a1)]) (u119J0 a1) (fun v6 H=>?_) (fun _ n0 e0 t0=>?_)
 ·refine jN r (fun (v13:List Int)=>Z [p 5 (O 21)] [(21,A 3 i64 v13 0)]) (u119J2) (fun v13 H=>?_) (fun _ n2 e2 t2=>?_)
  ·refine qB (Z [p 4 (B !vl (u163c164 v13))] [(21,A 3 i64 v13 0)]) H fun H =>
    vx_ret<|hr H
  refine qA (Z [p 3 (R 3),p 5 (O 21),p 49 (L y190 a1.2.2),p 50 (I (↑a1.2.2.length:Int)),p 51 (I 0)] [(21,A 3 i64 v6 0),(3,K 43 y43 a1)]) <|
   vx_block <|
   lX (fun ((v9,v10):Int×List Int)=>Z [p 3 (R 3),p 5 (O 21),p 49 (L y190 a1.2.2),p 50 (I (↑a1.2.2.length:Int)),p 51 (I v9)] [(21,A 3 i64 v10 0),(3,K 43 y43 a1)]) (0,v6) H fun _ g3 b3 e3 t3 ⟨v9,v10⟩ H =>
   qA (Z [p 3 (R 3),p 5 (O 21),p 49 (L y190 a1.2.2),p 50 (I (↑a1.2.2.length:Int)),p 51 (I v9),p 52 (B (decide (v9 < (↑a1.2.2.length:Int))))] [(21,A 3 i64 v10 0),(3,K 43 y43 a1)]) <|
   vx_seq <|
   cD H (fun H=>?_) (fun H=>?_)
  ·refine vx_skip<|fx_seq <|
    jN r (fun (v12:List Int)=>Z [p 3 (R 3),p 5 (O 21),p 49 (L y190 a1.2.2),p 50 (I (↑a1.2.2.length:Int)),p 51 (I v9)] [(21,A 3 i64 v12 0),(3,K 43 y43 a1)]) (u119J4 v9 g3) (fun v12 H=>?_) (fun _ n4 e4 t4=>?_)
   ·refine zB (Z [p 3 (R 3),p 5 (O 21),p 49 (L y190 a1.2.2),p 50 (I (↑a1.2.2.length:Int)),p 51 (I (v9+1))] [(21,A 3 i64 v12 0),(3,K 43 y43 a1)]) H fun H =>
     b3 H
   refine vx_block <|
    qD (fun v11=>Z [p 3 (R 3),p 5 (O 21),p 9 (R 9),p 49 (L y190 a1.2.2),p 50 (I (↑a1.2.2.length:Int)),p 51 (I v9)] [(9,K 190 y190 v11),(21,A 3 i64 v10 0),(3,K 43 y43 a1)]) H fun v11 H =>
    vx_seq <|
    qB (Z [p 3 (R 3),p 5 (O 21),p 9 (R 9),p 49 (L y190 a1.2.2),p 50 (I (↑a1.2.2.length:Int)),p 51 (I v9),p 69 (B (v11.2.1 != 1&&v11.2.1 != 2||!vl (u162 a1 v11.2.2)))] [(9,K 190 y190 v11),(21,A 3 i64 v10 0),(3,K 43 y43 a1)]) H fun H =>
    cD H (fun H=>?_) (fun H=>?_)
   ·refine qA (Z [p 4 (B false)] [(9,K 190 y190 v11),(21,A 3 i64 v10 0),(3,K 43 y43 a1)]) <|
     vx_ret<|fx_seq_ret<|fx_blk_ret<|t4<|t3<|fx_blk_ret<|t2<|hr H
   refine vx_skip<|fx_seq <|
    qA (Z [p 3 (R 3),p 5 (O 21),p 9 (R 9),p 49 (L y190 a1.2.2),p 50 (I (↑a1.2.2.length:Int)),p 51 (I v9),p 72 (B (v11.2.1==1))] [(9,K 190 y190 v11),(21,A 3 i64 v10 0),(3,K 43 y43 a1)]) <|
    cD H (fun H=>?_) (fun H=>?_)
   ·refine zB (Z [p 3 (R 3),p 5 (O 21),p 49 (L y190 a1.2.2),p 50 (I (↑a1.2.2.length:Int)),p 51 (I v9)] [(21,A 3 i64 (v10.set v11.2.2.toNat (v10.getD v11.2.2.toNat 0+1)) 0),(9,K 190 y190 v11),(3,K 43 y43 a1)]) H fun H =>
     fx_blk<|n4 H
   exact vx_skip<|fx_blk<|n4 H
  exact vx_exit<|fx_seq_exit<|e3<|fx_blk_exit rfl<|n2 H
 refine qA (Z [p 2 (R 2),p 3 (R 3),p 5 (O 21),p 23 (L y150 a1.1),p 24 (I (↑a1.1.length:Int)),p 25 (I 0)] [(21,A 3 i64 (List.replicate (↑a1.2.1.length:Int).toNat 0) 0),(3,K 43 y43 a1),(2,Ob.box 39 [L y148 a0])]) <|
  vx_block <|
  lX (fun ((v2,v3):Int×List Int)=>Z [p 2 (R 2),p 3 (R 3),p 5 (O 21),p 23 (L y150 a1.1),p 24 (I (↑a1.1.length:Int)),p 25 (I v2)] [(21,A 3 i64 v3 0),(3,K 43 y43 a1),(2,Ob.box 39 [L y148 a0])]) ((0,List.replicate (↑a1.2.1.length:Int).toNat 0)) H fun _ g1 b1 e1 t1 ⟨v2,v3⟩ H =>
  qA (Z [p 2 (R 2),p 3 (R 3),p 5 (O 21),p 23 (L y150 a1.1),p 24 (I (↑a1.1.length:Int)),p 25 (I v2),p 26 (B (decide (v2 < (↑a1.1.length:Int))))] [(21,A 3 i64 v3 0),(3,K 43 y43 a1),(2,Ob.box 39 [L y148 a0])]) <|
  vx_seq <|
  cD H (fun H=>?_) (fun H=>?_)
 ·refine vx_skip<|fx_seq<|vx_seq<|vx_block <|
   qD (fun v4=>Z [p 2 (R 2),p 3 (R 3),p 5 (O 21),p 7 (R 7),p 23 (L y150 a1.1),p 24 (I (↑a1.1.length:Int)),p 25 (I v2)] [(7,K 150 y150 v4),(21,A 3 i64 v3 0),(3,K 43 y43 a1),(2,Ob.box 39 [L y148 a0])]) H fun v4 H =>
   vx_seq <|
   qB (Z [p 2 (R 2),p 3 (R 3),p 5 (O 21),p 7 (R 7),p 23 (L y150 a1.1),p 24 (I (↑a1.1.length:Int)),p 25 (I v2),p 33 (B !vl (u161 a1 a0 v4))] [(7,K 150 y150 v4),(21,A 3 i64 v3 0),(3,K 43 y43 a1),(2,Ob.box 39 [L y148 a0])]) H fun H =>
   cD H (fun H=>?_) (fun H=>?_)
  ·refine qA (Z [p 4 (B false)] [(7,K 150 y150 v4),(21,A 3 i64 v3 0),(3,K 43 y43 a1),(2,Ob.box 39 [L y148 a0])]) <|
    vx_ret<|fx_seq_ret<|fx_blk_ret<|fx_seq_ret<|t1<|fx_blk_ret<|t0<|hr H
  refine vx_skip<|fx_seq <|
   zD (fun v5=>Z [p 2 (R 2),p 3 (R 3),p 5 (O 21),p 23 (L y150 a1.1),p 24 (I (↑a1.1.length:Int)),p 25 (I v2)] [(21,A 3 i64 v5 0),(7,K 150 y150 v4),(3,K 43 y43 a1),(2,Ob.box 39 [L y148 a0])]) H fun v5 H =>
   fx_blk<|fx_seq <|
   zB (Z [p 2 (R 2),p 3 (R 3),p 5 (O 21),p 23 (L y150 a1.1),p 24 (I (↑a1.1.length:Int)),p 25 (I (v2+1))] [(21,A 3 i64 v5 0),(7,K 150 y150 v4),(3,K 43 y43 a1),(2,Ob.box 39 [L y148 a0])]) H fun H =>
   b1 H
 exact vx_exit<|fx_seq_exit<|e1<|fx_blk_exit rfl<|n0 H
def u69J3:Unit→Option (Bool)
 | _ =>
 some true
def u69L4 (v9:List Int) (a0:Y46) (g4:Int→Option (Bool)):Int→Option (Bool)
 | v11 =>
 if (decide (v11 < (↑a0.2.2.length:Int)))=true then
  gd (ix v11 a0.2.2.length∧True)<|lt (a0.2.2.getD v11.toNat (dflt y126)) fun v12 =>
  gd (ix v11 v9.length∧v11.toNat < v9.length∧(u121 v12 (v9.getD v11.toNat 0)).isSome=true∧True) <|
  if (!vl (u121 v12 (v9.getD v11.toNat 0)))=true then
   some false
  else
   gd (in64 (v11+1)∧True) <|
   g4 (v11+1)
 else
  u69J3 ()
def u69J0 (a0:Y46):List Int→Option (Bool)
 | v9 =>
 lp (u69L4 v9 a0) 0
def u69J2 (v4:Int) (g1:Int×List Int→Option (Bool)):List Int→Option (Bool)
 | v8 =>
 gd (in64 (v4+1)∧True) <|
 g1 (v4+1,v8)
def u69L1 (v0:List Y171) (a0:Y46) (g1:Int×List Int→Option (Bool)):Int×List Int→Option (Bool)
 | (v4,v5) =>
 if (decide (v4 < (↑v0.length:Int)))=true then
  gd (ix v4 v0.length∧v4.toNat < v0.length∧True)<|lt (v0.getD v4.toNat (dflt y171)) fun v6 =>
  if (!v6.2.2.2)=true then
   gd (ix v6.2.2.1 v5.length∧v6.2.2.1.toNat < v5.length∧in64 (v5.getD v6.2.2.1.toNat 0+1)∧ix v6.2.2.1 v5.length∧v6.2.2.1.toNat < v5.length∧True)<|lt (v5.set v6.2.2.1.toNat (v5.getD v6.2.2.1.toNat 0+1)) fun v7 =>
   u69J2 v4 g1 v7
  else
   u69J2 v4 g1 v5
 else
  u69J0 a0 v5
def u69 (a0:Y46):Option (Bool) :=
 gd ((u119 a0.1 a0.2.1).isSome=true∧True) <|
 if (!vl (u119 a0.1 a0.2.1)||(↑a0.2.2.length:Int) != (↑a0.2.1.2.1.length:Int))=true then
  some false
 else
  gd ((0≤(↑a0.2.2.length:Int)∧(↑a0.2.2.length:Int)=(↑a0.2.2.length:Int)∧(↑a0.2.2.length:Int).toNat*8≤281474976710656∧(↑a0.2.2.length:Int)≤9223372036854775807)∧True) <|
  gd ((u120 a0.2.1).isSome=true∧True)<|lt (vl (u120 a0.2.1)) fun v0 =>
  lp (u69L1 v0 a0) ((0,List.replicate (↑a0.2.2.length:Int).toNat 0))
def k69:Ct:=lct 69 [.agg y46] (fun x=>u69 x.1) (fun r:Bool=>B r) (fun _=>())
theorem o69:Ok Tryz.prog k69:=by
 refine okL [.tmp 2] Tryz.func69 Tryz.ntmps69 Tryz.results69 ?_
 intro y ⟨a0,_⟩ r H Q hn hr
 have:HT _ _:=⟨tc o121 (tc o120 (tc o119 tn))⟩
 refine qA (Z [p 1 (R 1)] [(1,K 46 y46 a0)]) <|
  vx_seq <|
  qB (Z [p 1 (R 1),p 23 (B (!vl (u119 a0.1 a0.2.1)||(↑a0.2.2.length:Int) != (↑a0.2.1.2.1.length:Int)))] [(1,K 46 y46 a0)]) H fun H =>
  cD H (fun H=>?_) (fun H=>?_)
 ·refine qA (Z [p 2 (B false)] [(1,K 46 y46 a0)]) <|
   vx_ret<|fx_seq_ret<|hr H
 refine vx_skip<|fx_seq <|
  qB (Z [p 1 (R 1),p 3 (O 27)] [(27,A 2 i64 (List.replicate (↑a0.2.2.length:Int).toNat 0) 0),(1,K 46 y46 a0)]) H fun H =>
  jN r (fun (v9:List Int)=>Z [p 1 (R 1),p 3 (O 27)] [(27,A 2 i64 v9 0),(1,K 46 y46 a0)]) (u69J0 a0) (fun v9 H=>?_) (fun _ n0 e0 t0=>?_)
 ·refine jN r (fun (_:Unit)=>Z [] []) (u69J3) (fun _ H=>?_) (fun _ n3 e3 t3=>?_)
  ·refine qA (Z [p 2 (B true)] []) <|
    vx_ret<|hr H
  refine qA (Z [p 3 (O 27),p 48 (L y126 a0.2.2),p 49 (I (↑a0.2.2.length:Int)),p 50 (I 0)] [(27,A 2 i64 v9 0),(1,K 46 y46 a0)]) <|
   vx_block <|
   lX (fun (v11:Int)=>Z [p 3 (O 27),p 48 (L y126 a0.2.2),p 49 (I (↑a0.2.2.length:Int)),p 50 (I v11)] [(27,A 2 i64 v9 0)]) 0 H fun _ g4 b4 e4 t4 v11 H =>
   qA (Z [p 3 (O 27),p 48 (L y126 a0.2.2),p 49 (I (↑a0.2.2.length:Int)),p 50 (I v11),p 51 (B (decide (v11 < (↑a0.2.2.length:Int))))] [(27,A 2 i64 v9 0)]) <|
   vx_seq <|
   cD H (fun H=>?_) (fun H=>?_)
  ·refine vx_skip<|fx_seq<|vx_seq<|vx_block <|
    qD (fun v12=>Z [p 3 (O 27),p 6 (I v11),p 7 (R 7),p 48 (L y126 a0.2.2),p 49 (I (↑a0.2.2.length:Int)),p 50 (I v11)] [(7,K 126 y126 v12),(27,A 2 i64 v9 0)]) H fun v12 H =>
    qB (Z [p 3 (O 27),p 48 (L y126 a0.2.2),p 49 (I (↑a0.2.2.length:Int)),p 50 (I v11),p 61 (B !vl (u121 v12 (v9.getD v11.toNat 0)))] [(7,K 126 y126 v12),(27,A 2 i64 v9 0)]) H fun H =>
    cD H (fun H=>?_) (fun H=>?_)
   ·refine qA (Z [p 2 (B false)] [(7,K 126 y126 v12),(27,A 2 i64 v9 0)]) <|
     vx_ret<|fx_blk_ret<|fx_seq_ret<|t4<|fx_blk_ret<|t3<|hr H
   refine vx_skip<|fx_blk<|fx_seq <|
    zB (Z [p 3 (O 27),p 48 (L y126 a0.2.2),p 49 (I (↑a0.2.2.length:Int)),p 50 (I (v11+1))] [(7,K 126 y126 v12),(27,A 2 i64 v9 0)]) H fun H =>
    b4 H
  exact vx_exit<|fx_seq_exit<|e4<|fx_blk_exit rfl<|n3 H
 refine qD (fun v0=>Z [p 1 (R 1),p 3 (O 27),p 30 (O 30),p 31 (I (↑v0.length:Int)),p 32 (I 0)] [(30,A 171 y171 v0 0),(27,A 2 i64 (List.replicate (↑a0.2.2.length:Int).toNat 0) 0),(1,K 46 y46 a0)]) H fun v0 H =>
  vx_block <|
  lX (fun ((v4,v5):Int×List Int)=>Z [p 1 (R 1),p 3 (O 27),p 30 (O 30),p 31 (I (↑v0.length:Int)),p 32 (I v4)] [(30,A 171 y171 v0 0),(27,A 2 i64 v5 0),(1,K 46 y46 a0)]) ((0,List.replicate (↑a0.2.2.length:Int).toNat 0)) H fun _ g1 b1 e1 t1 ⟨v4,v5⟩ H =>
  qA (Z [p 1 (R 1),p 3 (O 27),p 30 (O 30),p 31 (I (↑v0.length:Int)),p 32 (I v4),p 33 (B (decide (v4 < (↑v0.length:Int))))] [(30,A 171 y171 v0 0),(27,A 2 i64 v5 0),(1,K 46 y46 a0)]) <|
  vx_seq <|
  cD H (fun H=>?_) (fun H=>?_)
 ·refine vx_skip<|fx_seq <|
   jN r (fun (v8:List Int)=>Z [p 1 (R 1),p 3 (O 27),p 30 (O 30),p 31 (I (↑v0.length:Int)),p 32 (I v4)] [(27,A 2 i64 v8 0),(30,A 171 y171 v0 0),(1,K 46 y46 a0)]) (u69J2 v4 g1) (fun v8 H=>?_) (fun _ n2 e2 t2=>?_)
  ·refine zB (Z [p 1 (R 1),p 3 (O 27),p 30 (O 30),p 31 (I (↑v0.length:Int)),p 32 (I (v4+1))] [(27,A 2 i64 v8 0),(30,A 171 y171 v0 0),(1,K 46 y46 a0)]) H fun H =>
    b1 H
  refine vx_block <|
   qD (fun v6=>Z [p 1 (R 1),p 3 (O 27),p 5 (R 5),p 30 (O 30),p 31 (I (↑v0.length:Int)),p 32 (I v4)] [(5,Ob.box 171 (cellsD true y171 v6)),(30,A 171 y171 v0 0),(27,A 2 i64 v5 0),(1,K 46 y46 a0)]) H fun v6 H =>
   qA (Z [p 1 (R 1),p 3 (O 27),p 5 (R 5),p 30 (O 30),p 31 (I (↑v0.length:Int)),p 32 (I v4),p 38 (B !v6.2.2.2)] [(5,Ob.box 171 (cellsD true y171 v6)),(30,A 171 y171 v0 0),(27,A 2 i64 v5 0),(1,K 46 y46 a0)]) <|
   cD H (fun H=>?_) (fun H=>?_)
  ·refine zD (fun v7=>Z [p 1 (R 1),p 3 (O 27),p 30 (O 30),p 31 (I (↑v0.length:Int)),p 32 (I v4)] [(27,A 2 i64 v7 0),(5,Ob.box 171 (cellsD true y171 v6)),(30,A 171 y171 v0 0),(1,K 46 y46 a0)]) H fun v7 H =>
    fx_blk<|n2 H
  exact vx_skip<|fx_blk<|n2 H
 exact vx_exit<|fx_seq_exit<|e1<|fx_blk_exit rfl<|n0 H
def u56 (a0:Y46) (a1:List Int):Option (Int ⊕ (Y113×List Bool)×Int) :=
 gd ((u69 a0).isSome=true∧True) <|
 if (!vl (u69 a0))=true then
  some (Sum.inl 1)
 else
  gd ((u70 a0).isSome=true∧True)<|lt (vl (u70 a0)) fun v0 =>
  gd ((u99 v0 a1).isSome=true∧True) <|
  if (!vl (u99 v0 a1))=true then
   some (Sum.inl 2)
  else
   gd ((u100 v0 a1).isSome=true∧True)<|lt (vl (u100 v0 a1)) fun v1 =>
   some (Sum.inr (v1,(0:Int)))
def k56:Ct:=lct 56 [.agg y46,.dat i64.sl] (fun x=>u56 x.1 x.2.1) (two (fun r:Int=>AV.tup [AV.v (Value.pointer none),I r]) (fun r:(Y113×List Bool)×Int=>AV.tup [AV.ob 92 [D y113.pt r.1.1,AV.ow 4 true Ty.bool r.1.2],I r.2])) (fun _=>())
def k56L:Ct:=lctL 56 [.agg y46,.dat i64.sl] (fun x=>u56 x.1 x.2.1) (fun r:Int=>AV.tup [AV.v (Value.pointer none),I r]) ()
def k56R:Ct:=lctR 56 [.agg y46,.dat i64.sl] (fun x=>u56 x.1 x.2.1) (fun r:(Y113×List Bool)×Int=>AV.tup [AV.ob 92 [D y113.pt r.1.1,AV.ow 4 true Ty.bool r.1.2],I r.2]) ()
theorem o56:Ok Tryz.prog k56:=by
 refine okL [.tmp 4,.tmp 5] Tryz.func56 Tryz.ntmps56 Tryz.results56 ?_
 intro y ⟨a0,a1,_⟩ r H Q hn hr
 have:HT _ _:=⟨tc o100 (tc o99 (tc o70 (tc o69 tn)))⟩
 refine qA (Z [p 1 (L i64 a1),p 2 (R 2)] [(2,K 46 y46 a0)]) <|
  vx_seq <|
  qB (Z [p 1 (L i64 a1),p 2 (R 2),p 9 (B !vl (u69 a0))] [(2,K 46 y46 a0)]) H fun H =>
  cD H (fun H=>?_) (fun H=>?_)
 ·refine qA (Z [p 4 (AV.v (Value.pointer none)),p 5 (I 1)] [(2,K 46 y46 a0)]) <|
   vx_ret<|fx_seq_ret<|hr H
 refine vx_skip<|fx_seq <|
  qD (fun v0=>Z [p 1 (L i64 a1),p 6 (D y113.pt v0)] [(2,K 46 y46 a0)]) H fun v0 H =>
  vx_seq <|
  qB (Z [p 1 (L i64 a1),p 6 (D y113.pt v0),p 15 (B !vl (u99 v0 a1))] [(2,K 46 y46 a0)]) H fun H =>
  cD H (fun H=>?_) (fun H=>?_)
 ·refine qA (Z [p 4 (AV.v (Value.pointer none)),p 5 (I 2)] [(2,K 46 y46 a0)]) <|
   vx_ret<|fx_seq_ret<|hr H
 refine vx_skip<|fx_seq <|
  qD (fun v1=>Z [p 4 (R 1018),p 5 (I 0)] [(1018,Ob.box 92 [D y113.pt v1.1,AV.os 18 0]),(18,A 4 Ty.bool v1.2 0),(2,K 46 y46 a0)]) H fun v1 H =>
  vx_ret<|hr H
theorem o56L:Ok Tryz.prog k56L:=ok_l o56
theorem o56R:Ok Tryz.prog k56R:=ok_r o56
def u15J0:Unit→Option (Bool)
 | _ =>
 some true
def u15L1 (a0:List Int) (a1:List Int) (g1:Int→Option (Bool)):Int→Option (Bool)
 | v0 =>
 if (decide (v0 < (↑a0.length:Int)))=true then
  gd (ix v0 a0.length∧ix v0 a1.length∧True) <|
  if (a0.getD v0.toNat 0 != a1.getD v0.toNat 0)=true then
   some false
  else
   gd (in64 (v0+1)∧True) <|
   g1 (v0+1)
 else
  u15J0 ()
def u15 (a0:List Int) (a1:List Int):Option (Bool) :=
 if ((↑a0.length:Int) != (↑a1.length:Int))=true then
  some false
 else
  lp (u15L1 a0 a1) 0
def k15:Ct:=lct 15 [.dat i64.sl,.dat i64.sl] (fun x=>u15 x.1 x.2.1) (fun r:Bool=>B r) (fun _=>())
theorem o15:Ok Tryz.prog k15:=by
 refine okL [.tmp 4] Tryz.func15 Tryz.ntmps15 Tryz.results15 ?_
 intro y ⟨a0,a1,_⟩ r H Q hn hr
 have:HT _ _:=⟨@tn Tryz.prog⟩
 refine qA (Z [p 0 (L i64 a0),p 1 (L i64 a1)] []) <|
  vx_seq <|
  qA (Z [p 0 (L i64 a0),p 1 (L i64 a1),p 10 (B ((↑a0.length:Int) != (↑a1.length:Int)))] []) <|
  cD H (fun H=>?_) (fun H=>?_)
 ·refine qA (Z [p 4 (B false)] []) <|
   vx_ret<|fx_seq_ret<|hr H
 refine vx_skip<|fx_seq <|
  jN r (fun (_:Unit)=>Z [] []) (u15J0) (fun _ H=>?_) (fun _ n0 e0 t0=>?_)
 ·refine qA (Z [p 4 (B true)] []) <|
   vx_ret<|hr H
 refine qA (Z [p 0 (L i64 a0),p 1 (L i64 a1),p 5 (I 0)] []) <|
  vx_block <|
  lX (fun (v0:Int)=>Z [p 0 (L i64 a0),p 1 (L i64 a1),p 5 (I v0)] []) 0 H fun _ g1 b1 e1 t1 v0 H =>
  vx_seq <|
  qA (Z [p 0 (L i64 a0),p 1 (L i64 a1),p 5 (I v0),p 14 (B (decide (v0 < (↑a0.length:Int))))] []) <|
  cD H (fun H=>?_) (fun H=>?_)
 ·refine vx_skip<|fx_seq<|vx_seq<|vx_block <|
   qB (Z [p 0 (L i64 a0),p 1 (L i64 a1),p 5 (I v0),p 25 (B (a0.getD v0.toNat 0 != a1.getD v0.toNat 0))] []) H fun H =>
   cD H (fun H=>?_) (fun H=>?_)
  ·refine qA (Z [p 4 (B false)] []) <|
    vx_ret<|fx_blk_ret<|fx_seq_ret<|t1<|fx_blk_ret<|t0<|hr H
  refine vx_skip<|fx_blk<|fx_seq <|
   zB (Z [p 0 (L i64 a0),p 1 (L i64 a1),p 5 (I (v0+1))] []) H fun H =>
   b1 H
 exact vx_exit<|fx_seq_exit<|e1<|fx_blk_exit rfl<|n0 H
def u92 (a0:Y126) (a1:Y126):Option (Bool) :=
 gd ((u15 a0.1 a1.1).isSome=true∧True) <|
 if (!vl (u15 a0.1 a1.1))=true then
  some false
 else
  gd ((u15 a0.2.1 a1.2.1).isSome=true∧True) <|
  if (!vl (u15 a0.2.1 a1.2.1))=true then
   some false
  else
   gd ((u15 a0.2.2.1 a1.2.2.1).isSome=true∧True) <|
   if (!vl (u15 a0.2.2.1 a1.2.2.1))=true then
    some false
   else
    gd ((u15 a0.2.2.2 a1.2.2.2).isSome=true∧True) <|
    if (!vl (u15 a0.2.2.2 a1.2.2.2))=true then
     some false
    else
     some true
def k92:Ct:=lct 92 [.agg y126,.agg y126] (fun x=>u92 x.1 x.2.1) (fun r:Bool=>B r) (fun _=>())
theorem o92:Ok Tryz.prog k92:=by
 refine okL [.tmp 4] Tryz.func92 Tryz.ntmps92 Tryz.results92 ?_
 intro y ⟨a0,a1,_⟩ r H Q hn hr
 have:HT _ _:=⟨tc o15 tn⟩
 refine qA (Z [p 2 (R 2),p 3 (R 3)] [(3,K 126 y126 a1),(2,K 126 y126 a0)]) <|
  vx_seq <|
  qB (Z [p 2 (R 2),p 3 (R 3),p 10 (B !vl (u15 a0.1 a1.1))] [(3,K 126 y126 a1),(2,K 126 y126 a0)]) H fun H =>
  cD H (fun H=>?_) (fun H=>?_)
 ·refine qA (Z [p 4 (B false)] [(3,K 126 y126 a1),(2,K 126 y126 a0)]) <|
   vx_ret<|fx_seq_ret<|hr H
 refine vx_skip<|fx_seq<|vx_seq <|
  qB (Z [p 2 (R 2),p 3 (R 3),p 16 (B !vl (u15 a0.2.1 a1.2.1))] [(3,K 126 y126 a1),(2,K 126 y126 a0)]) H fun H =>
  cD H (fun H=>?_) (fun H=>?_)
 ·refine qA (Z [p 4 (B false)] [(3,K 126 y126 a1),(2,K 126 y126 a0)]) <|
   vx_ret<|fx_seq_ret<|hr H
 refine vx_skip<|fx_seq<|vx_seq <|
  qB (Z [p 2 (R 2),p 3 (R 3),p 22 (B !vl (u15 a0.2.2.1 a1.2.2.1))] [(3,K 126 y126 a1),(2,K 126 y126 a0)]) H fun H =>
  cD H (fun H=>?_) (fun H=>?_)
 ·refine qA (Z [p 4 (B false)] [(3,K 126 y126 a1),(2,K 126 y126 a0)]) <|
   vx_ret<|fx_seq_ret<|hr H
 refine vx_skip<|fx_seq<|vx_seq <|
  qB (Z [p 28 (B !vl (u15 a0.2.2.2 a1.2.2.2))] [(3,K 126 y126 a1),(2,K 126 y126 a0)]) H fun H =>
  cD H (fun H=>?_) (fun H=>?_)
 ·refine qA (Z [p 4 (B false)] [(3,K 126 y126 a1),(2,K 126 y126 a0)]) <|
   vx_ret<|fx_seq_ret<|hr H
 refine vx_skip<|fx_seq <|
  qA (Z [p 4 (B true)] [(3,K 126 y126 a1),(2,K 126 y126 a0)]) <|
  vx_ret<|hr H
def u48J0:Unit→Option (Bool)
 | _ =>
 some true
def u48L1 (a0:List Y126) (a1:List Y126) (g1:Int→Option (Bool)):Int→Option (Bool)
 | v0 =>
 if (decide (v0 < (↑a0.length:Int)))=true then
  gd (ix v0 a0.length∧ix v0 a1.length∧(u92 (a0.getD v0.toNat (dflt y126)) (a1.getD v0.toNat (dflt y126))).isSome=true∧True) <|
  if (!vl (u92 (a0.getD v0.toNat (dflt y126)) (a1.getD v0.toNat (dflt y126))))=true then
   some false
  else
   gd (in64 (v0+1)∧True) <|
   g1 (v0+1)
 else
  u48J0 ()
def u48 (a0:List Y126) (a1:List Y126):Option (Bool) :=
 if ((↑a0.length:Int) != (↑a1.length:Int))=true then
  some false
 else
  lp (u48L1 a0 a1) 0
def k48:Ct:=lct 48 [.dat y126.sl,.dat y126.sl] (fun x=>u48 x.1 x.2.1) (fun r:Bool=>B r) (fun _=>())
theorem o48:Ok Tryz.prog k48:=by
 refine okL [.tmp 4] Tryz.func48 Tryz.ntmps48 Tryz.results48 ?_
 intro y ⟨a0,a1,_⟩ r H Q hn hr
 have:HT _ _:=⟨tc o92 tn⟩
 refine qA (Z [p 0 (L y126 a0),p 1 (L y126 a1)] []) <|
  vx_seq <|
  qA (Z [p 0 (L y126 a0),p 1 (L y126 a1),p 10 (B ((↑a0.length:Int) != (↑a1.length:Int)))] []) <|
  cD H (fun H=>?_) (fun H=>?_)
 ·refine qA (Z [p 4 (B false)] []) <|
   vx_ret<|fx_seq_ret<|hr H
 refine vx_skip<|fx_seq <|
  jN r (fun (_:Unit)=>Z [] []) (u48J0) (fun _ H=>?_) (fun _ n0 e0 t0=>?_)
 ·refine qA (Z [p 4 (B true)] []) <|
   vx_ret<|hr H
 refine qA (Z [p 0 (L y126 a0),p 1 (L y126 a1),p 5 (I 0)] []) <|
  vx_block <|
  lX (fun (v0:Int)=>Z [p 0 (L y126 a0),p 1 (L y126 a1),p 5 (I v0)] []) 0 H fun _ g1 b1 e1 t1 v0 H =>
  vx_seq <|
  qA (Z [p 0 (L y126 a0),p 1 (L y126 a1),p 5 (I v0),p 14 (B (decide (v0 < (↑a0.length:Int))))] []) <|
  cD H (fun H=>?_) (fun H=>?_)
 ·refine vx_skip<|fx_seq<|vx_seq<|vx_block <|
   qB (Z [p 0 (L y126 a0),p 1 (L y126 a1),p 5 (I v0),p 26 (B !vl (u92 (a0.getD v0.toNat (dflt y126)) (a1.getD v0.toNat (dflt y126))))] []) H fun H =>
   cD H (fun H=>?_) (fun H=>?_)
  ·refine qA (Z [p 4 (B false)] []) <|
    vx_ret<|fx_blk_ret<|fx_seq_ret<|t1<|fx_blk_ret<|t0<|hr H
  refine vx_skip<|fx_blk<|fx_seq <|
   zB (Z [p 0 (L y126 a0),p 1 (L y126 a1),p 5 (I (v0+1))] []) H fun H =>
   b1 H
 exact vx_exit<|fx_seq_exit<|e1<|fx_blk_exit rfl<|n0 H
def u142 (a0:Y190) (a1:Y190):Option (Bool) :=
 if (!decide (a0.1=a1.1))=true then
  some false
 else
  if (a0.2.1 != a1.2.1)=true then
   some false
  else
   if (a0.2.2 != a1.2.2)=true then
    some false
   else
    some true
def k142:Ct:=lct 142 [.agg y190,.agg y190] (fun x=>u142 x.1 x.2.1) (fun r:Bool=>B r) (fun _=>())
theorem o142:Ok Tryz.prog k142:=by
 refine okL [.tmp 4] Tryz.func142 Tryz.ntmps142 Tryz.results142 ?_
 intro y ⟨a0,a1,_⟩ r H Q hn hr
 have:HT _ _:=⟨@tn Tryz.prog⟩
 refine qA (Z [p 2 (R 2),p 3 (R 3)] [(3,K 190 y190 a1),(2,K 190 y190 a0)]) <|
  vx_seq <|
  qA (Z [p 2 (R 2),p 3 (R 3),p 9 (B !decide (a0.1=a1.1))] [(3,K 190 y190 a1),(2,K 190 y190 a0)]) <|
  cD H (fun H=>?_) (fun H=>?_)
 ·refine qA (Z [p 4 (B false)] [(3,K 190 y190 a1),(2,K 190 y190 a0)]) <|
   vx_ret<|fx_seq_ret<|hr H
 refine vx_skip<|fx_seq<|vx_seq <|
  qA (Z [p 2 (R 2),p 3 (R 3),p 14 (B (a0.2.1 != a1.2.1))] [(3,K 190 y190 a1),(2,K 190 y190 a0)]) <|
  cD H (fun H=>?_) (fun H=>?_)
 ·refine qA (Z [p 4 (B false)] [(3,K 190 y190 a1),(2,K 190 y190 a0)]) <|
   vx_ret<|fx_seq_ret<|hr H
 refine vx_skip<|fx_seq<|vx_seq <|
  qA (Z [p 19 (B (a0.2.2 != a1.2.2))] [(3,K 190 y190 a1),(2,K 190 y190 a0)]) <|
  cD H (fun H=>?_) (fun H=>?_)
 ·refine qA (Z [p 4 (B false)] [(3,K 190 y190 a1),(2,K 190 y190 a0)]) <|
   vx_ret<|fx_seq_ret<|hr H
 refine vx_skip<|fx_seq <|
  qA (Z [p 4 (B true)] [(3,K 190 y190 a1),(2,K 190 y190 a0)]) <|
  vx_ret<|hr H
def u91J0:Unit→Option (Bool)
 | _ =>
 some true
def u91L1 (a0:List Y190) (a1:List Y190) (g1:Int→Option (Bool)):Int→Option (Bool)
 | v0 =>
 if (decide (v0 < (↑a0.length:Int)))=true then
  gd (ix v0 a0.length∧ix v0 a1.length∧(u142 (a0.getD v0.toNat (dflt y190)) (a1.getD v0.toNat (dflt y190))).isSome=true∧True) <|
  if (!vl (u142 (a0.getD v0.toNat (dflt y190)) (a1.getD v0.toNat (dflt y190))))=true then
   some false
  else
   gd (in64 (v0+1)∧True) <|
   g1 (v0+1)
 else
  u91J0 ()
def u91 (a0:List Y190) (a1:List Y190):Option (Bool) :=
 if ((↑a0.length:Int) != (↑a1.length:Int))=true then
  some false
 else
  lp (u91L1 a0 a1) 0
def k91:Ct:=lct 91 [.dat y190.sl,.dat y190.sl] (fun x=>u91 x.1 x.2.1) (fun r:Bool=>B r) (fun _=>())
theorem o91:Ok Tryz.prog k91:=by
 refine okL [.tmp 4] Tryz.func91 Tryz.ntmps91 Tryz.results91 ?_
 intro y ⟨a0,a1,_⟩ r H Q hn hr
 have:HT _ _:=⟨tc o142 tn⟩
 refine qA (Z [p 0 (L y190 a0),p 1 (L y190 a1)] []) <|
  vx_seq <|
  qA (Z [p 0 (L y190 a0),p 1 (L y190 a1),p 10 (B ((↑a0.length:Int) != (↑a1.length:Int)))] []) <|
  cD H (fun H=>?_) (fun H=>?_)
 ·refine qA (Z [p 4 (B false)] []) <|
   vx_ret<|fx_seq_ret<|hr H
 refine vx_skip<|fx_seq <|
  jN r (fun (_:Unit)=>Z [] []) (u91J0) (fun _ H=>?_) (fun _ n0 e0 t0=>?_)
 ·refine qA (Z [p 4 (B true)] []) <|
   vx_ret<|hr H
 refine qA (Z [p 0 (L y190 a0),p 1 (L y190 a1),p 5 (I 0)] []) <|
  vx_block <|
  lX (fun (v0:Int)=>Z [p 0 (L y190 a0),p 1 (L y190 a1),p 5 (I v0)] []) 0 H fun _ g1 b1 e1 t1 v0 H =>
  vx_seq <|
  qA (Z [p 0 (L y190 a0),p 1 (L y190 a1),p 5 (I v0),p 14 (B (decide (v0 < (↑a0.length:Int))))] []) <|
  cD H (fun H=>?_) (fun H=>?_)
 ·refine vx_skip<|fx_seq<|vx_seq<|vx_block <|
   qB (Z [p 0 (L y190 a0),p 1 (L y190 a1),p 5 (I v0),p 26 (B !vl (u142 (a0.getD v0.toNat (dflt y190)) (a1.getD v0.toNat (dflt y190))))] []) H fun H =>
   cD H (fun H=>?_) (fun H=>?_)
  ·refine qA (Z [p 4 (B false)] []) <|
    vx_ret<|fx_blk_ret<|fx_seq_ret<|t1<|fx_blk_ret<|t0<|hr H
  refine vx_skip<|fx_blk<|fx_seq <|
   zB (Z [p 0 (L y190 a0),p 1 (L y190 a1),p 5 (I (v0+1))] []) H fun H =>
   b1 H
 exact vx_exit<|fx_seq_exit<|e1<|fx_blk_exit rfl<|n0 H
def u90J0:Unit→Option (Bool)
 | _ =>
 some true
def u90L1 (a0:List ByteArray) (a1:List ByteArray) (g1:Int→Option (Bool)):Int→Option (Bool)
 | v0 =>
 if (decide (v0 < (↑a0.length:Int)))=true then
  gd (ix v0 a0.length∧ix v0 a1.length∧True) <|
  if (!decide (a0.getD v0.toNat (dflt Ty.str)=a1.getD v0.toNat (dflt Ty.str)))=true then
   some false
  else
   gd (in64 (v0+1)∧True) <|
   g1 (v0+1)
 else
  u90J0 ()
def u90 (a0:List ByteArray) (a1:List ByteArray):Option (Bool) :=
 if ((↑a0.length:Int) != (↑a1.length:Int))=true then
  some false
 else
  lp (u90L1 a0 a1) 0
def k90:Ct:=lct 90 [.dat Ty.str.sl,.dat Ty.str.sl] (fun x=>u90 x.1 x.2.1) (fun r:Bool=>B r) (fun _=>())
theorem o90:Ok Tryz.prog k90:=by
 refine okL [.tmp 4] Tryz.func90 Tryz.ntmps90 Tryz.results90 ?_
 intro y ⟨a0,a1,_⟩ r H Q hn hr
 have:HT _ _:=⟨@tn Tryz.prog⟩
 refine qA (Z [p 0 (L Ty.str a0),p 1 (L Ty.str a1)] []) <|
  vx_seq <|
  qA (Z [p 0 (L Ty.str a0),p 1 (L Ty.str a1),p 10 (B ((↑a0.length:Int) != (↑a1.length:Int)))] []) <|
  cD H (fun H=>?_) (fun H=>?_)
 ·refine qA (Z [p 4 (B false)] []) <|
   vx_ret<|fx_seq_ret<|hr H
 refine vx_skip<|fx_seq <|
  jN r (fun (_:Unit)=>Z [] []) (u90J0) (fun _ H=>?_) (fun _ n0 e0 t0=>?_)
 ·refine qA (Z [p 4 (B true)] []) <|
   vx_ret<|hr H
 refine qA (Z [p 0 (L Ty.str a0),p 1 (L Ty.str a1),p 5 (I 0)] []) <|
  vx_block <|
  lX (fun (v0:Int)=>Z [p 0 (L Ty.str a0),p 1 (L Ty.str a1),p 5 (I v0)] []) 0 H fun _ g1 b1 e1 t1 v0 H =>
  vx_seq <|
  qA (Z [p 0 (L Ty.str a0),p 1 (L Ty.str a1),p 5 (I v0),p 14 (B (decide (v0 < (↑a0.length:Int))))] []) <|
  cD H (fun H=>?_) (fun H=>?_)
 ·refine vx_skip<|fx_seq<|vx_seq<|vx_block <|
   qB (Z [p 0 (L Ty.str a0),p 1 (L Ty.str a1),p 5 (I v0),p 25 (B !decide (a0.getD v0.toNat (dflt Ty.str)=a1.getD v0.toNat (dflt Ty.str)))] []) H fun H =>
   cD H (fun H=>?_) (fun H=>?_)
  ·refine qA (Z [p 4 (B false)] []) <|
    vx_ret<|fx_blk_ret<|fx_seq_ret<|t1<|fx_blk_ret<|t0<|hr H
  refine vx_skip<|fx_blk<|fx_seq <|
   zB (Z [p 0 (L Ty.str a0),p 1 (L Ty.str a1),p 5 (I (v0+1))] []) H fun H =>
   b1 H
 exact vx_exit<|fx_seq_exit<|e1<|fx_blk_exit rfl<|n0 H
def u141 (a0:Y150) (a1:Y150):Option (Bool) :=
 if (!decide (a0.1=a1.1))=true then
  some false
 else
  if (a0.2.1 != a1.2.1)=true then
   some false
  else
   gd ((u15 a0.2.2 a1.2.2).isSome=true∧True) <|
   if (!vl (u15 a0.2.2 a1.2.2))=true then
    some false
   else
    some true
def k141:Ct:=lct 141 [.agg y150,.agg y150] (fun x=>u141 x.1 x.2.1) (fun r:Bool=>B r) (fun _=>())
theorem o141:Ok Tryz.prog k141:=by
 refine okL [.tmp 4] Tryz.func141 Tryz.ntmps141 Tryz.results141 ?_
 intro y ⟨a0,a1,_⟩ r H Q hn hr
 have:HT _ _:=⟨tc o15 tn⟩
 refine qA (Z [p 2 (R 2),p 3 (R 3)] [(3,K 150 y150 a1),(2,K 150 y150 a0)]) <|
  vx_seq <|
  qA (Z [p 2 (R 2),p 3 (R 3),p 9 (B !decide (a0.1=a1.1))] [(3,K 150 y150 a1),(2,K 150 y150 a0)]) <|
  cD H (fun H=>?_) (fun H=>?_)
 ·refine qA (Z [p 4 (B false)] [(3,K 150 y150 a1),(2,K 150 y150 a0)]) <|
   vx_ret<|fx_seq_ret<|hr H
 refine vx_skip<|fx_seq<|vx_seq <|
  qA (Z [p 2 (R 2),p 3 (R 3),p 14 (B (a0.2.1 != a1.2.1))] [(3,K 150 y150 a1),(2,K 150 y150 a0)]) <|
  cD H (fun H=>?_) (fun H=>?_)
 ·refine qA (Z [p 4 (B false)] [(3,K 150 y150 a1),(2,K 150 y150 a0)]) <|
   vx_ret<|fx_seq_ret<|hr H
 refine vx_skip<|fx_seq<|vx_seq <|
  qB (Z [p 20 (B !vl (u15 a0.2.2 a1.2.2))] [(3,K 150 y150 a1),(2,K 150 y150 a0)]) H fun H =>
  cD H (fun H=>?_) (fun H=>?_)
 ·refine qA (Z [p 4 (B false)] [(3,K 150 y150 a1),(2,K 150 y150 a0)]) <|
   vx_ret<|fx_seq_ret<|hr H
 refine vx_skip<|fx_seq <|
  qA (Z [p 4 (B true)] [(3,K 150 y150 a1),(2,K 150 y150 a0)]) <|
  vx_ret<|hr H
def u89J0:Unit→Option (Bool)
 | _ =>
 some true
def u89L1 (a0:List Y150) (a1:List Y150) (g1:Int→Option (Bool)):Int→Option (Bool)
 | v0 =>
 if (decide (v0 < (↑a0.length:Int)))=true then
  gd (ix v0 a0.length∧ix v0 a1.length∧(u141 (a0.getD v0.toNat (dflt y150)) (a1.getD v0.toNat (dflt y150))).isSome=true∧True) <|
  if (!vl (u141 (a0.getD v0.toNat (dflt y150)) (a1.getD v0.toNat (dflt y150))))=true then
   some false
  else
   gd (in64 (v0+1)∧True) <|
   g1 (v0+1)
 else
  u89J0 ()
def u89 (a0:List Y150) (a1:List Y150):Option (Bool) :=
 if ((↑a0.length:Int) != (↑a1.length:Int))=true then
  some false
 else
  lp (u89L1 a0 a1) 0
def k89:Ct:=lct 89 [.dat y150.sl,.dat y150.sl] (fun x=>u89 x.1 x.2.1) (fun r:Bool=>B r) (fun _=>())
theorem o89:Ok Tryz.prog k89:=by
 refine okL [.tmp 4] Tryz.func89 Tryz.ntmps89 Tryz.results89 ?_
 intro y ⟨a0,a1,_⟩ r H Q hn hr
 have:HT _ _:=⟨tc o141 tn⟩
 refine qA (Z [p 0 (L y150 a0),p 1 (L y150 a1)] []) <|
  vx_seq <|
  qA (Z [p 0 (L y150 a0),p 1 (L y150 a1),p 10 (B ((↑a0.length:Int) != (↑a1.length:Int)))] []) <|
  cD H (fun H=>?_) (fun H=>?_)
 ·refine qA (Z [p 4 (B false)] []) <|
   vx_ret<|fx_seq_ret<|hr H
 refine vx_skip<|fx_seq <|
  jN r (fun (_:Unit)=>Z [] []) (u89J0) (fun _ H=>?_) (fun _ n0 e0 t0=>?_)
 ·refine qA (Z [p 4 (B true)] []) <|
   vx_ret<|hr H
 refine qA (Z [p 0 (L y150 a0),p 1 (L y150 a1),p 5 (I 0)] []) <|
  vx_block <|
  lX (fun (v0:Int)=>Z [p 0 (L y150 a0),p 1 (L y150 a1),p 5 (I v0)] []) 0 H fun _ g1 b1 e1 t1 v0 H =>
  vx_seq <|
  qA (Z [p 0 (L y150 a0),p 1 (L y150 a1),p 5 (I v0),p 14 (B (decide (v0 < (↑a0.length:Int))))] []) <|
  cD H (fun H=>?_) (fun H=>?_)
 ·refine vx_skip<|fx_seq<|vx_seq<|vx_block <|
   qB (Z [p 0 (L y150 a0),p 1 (L y150 a1),p 5 (I v0),p 26 (B !vl (u141 (a0.getD v0.toNat (dflt y150)) (a1.getD v0.toNat (dflt y150))))] []) H fun H =>
   cD H (fun H=>?_) (fun H=>?_)
  ·refine qA (Z [p 4 (B false)] []) <|
    vx_ret<|fx_blk_ret<|fx_seq_ret<|t1<|fx_blk_ret<|t0<|hr H
  refine vx_skip<|fx_blk<|fx_seq <|
   zB (Z [p 0 (L y150 a0),p 1 (L y150 a1),p 5 (I (v0+1))] []) H fun H =>
   b1 H
 exact vx_exit<|fx_seq_exit<|e1<|fx_blk_exit rfl<|n0 H
def u47 (a0:Y43) (a1:Y43):Option (Bool) :=
 gd ((u89 a0.1 a1.1).isSome=true∧True) <|
 if (!vl (u89 a0.1 a1.1))=true then
  some false
 else
  gd ((u90 a0.2.1 a1.2.1).isSome=true∧True) <|
  if (!vl (u90 a0.2.1 a1.2.1))=true then
   some false
  else
   gd ((u91 a0.2.2 a1.2.2).isSome=true∧True) <|
   if (!vl (u91 a0.2.2 a1.2.2))=true then
    some false
   else
    some true
def k47:Ct:=lct 47 [.agg y43,.agg y43] (fun x=>u47 x.1 x.2.1) (fun r:Bool=>B r) (fun _=>())
theorem o47:Ok Tryz.prog k47:=by
 refine okL [.tmp 4] Tryz.func47 Tryz.ntmps47 Tryz.results47 ?_
 intro y ⟨a0,a1,_⟩ r H Q hn hr
 have:HT _ _:=⟨tc o91 (tc o90 (tc o89 tn))⟩
 refine qA (Z [p 2 (R 2),p 3 (R 3)] [(3,K 43 y43 a1),(2,K 43 y43 a0)]) <|
  vx_seq <|
  qB (Z [p 2 (R 2),p 3 (R 3),p 10 (B !vl (u89 a0.1 a1.1))] [(3,K 43 y43 a1),(2,K 43 y43 a0)]) H fun H =>
  cD H (fun H=>?_) (fun H=>?_)
 ·refine qA (Z [p 4 (B false)] [(3,K 43 y43 a1),(2,K 43 y43 a0)]) <|
   vx_ret<|fx_seq_ret<|hr H
 refine vx_skip<|fx_seq<|vx_seq <|
  qB (Z [p 2 (R 2),p 3 (R 3),p 16 (B !vl (u90 a0.2.1 a1.2.1))] [(3,K 43 y43 a1),(2,K 43 y43 a0)]) H fun H =>
  cD H (fun H=>?_) (fun H=>?_)
 ·refine qA (Z [p 4 (B false)] [(3,K 43 y43 a1),(2,K 43 y43 a0)]) <|
   vx_ret<|fx_seq_ret<|hr H
 refine vx_skip<|fx_seq<|vx_seq <|
  qB (Z [p 22 (B !vl (u91 a0.2.2 a1.2.2))] [(3,K 43 y43 a1),(2,K 43 y43 a0)]) H fun H =>
  cD H (fun H=>?_) (fun H=>?_)
 ·refine qA (Z [p 4 (B false)] [(3,K 43 y43 a1),(2,K 43 y43 a0)]) <|
   vx_ret<|fx_seq_ret<|hr H
 refine vx_skip<|fx_seq <|
  qA (Z [p 4 (B true)] [(3,K 43 y43 a1),(2,K 43 y43 a0)]) <|
  vx_ret<|hr H
def u239 (a0:Y261) (a1:Y261):Option (Bool) :=
 gd ((u15 a0.1 a1.1).isSome=true∧True) <|
 if (!vl (u15 a0.1 a1.1))=true then
  some false
 else
  gd ((u15 a0.2.1 a1.2.1).isSome=true∧True) <|
  if (!vl (u15 a0.2.1 a1.2.1))=true then
   some false
  else
   gd ((u15 a0.2.2 a1.2.2).isSome=true∧True) <|
   if (!vl (u15 a0.2.2 a1.2.2))=true then
    some false
   else
    some true
def k239:Ct:=lct 239 [.agg y261,.agg y261] (fun x=>u239 x.1 x.2.1) (fun r:Bool=>B r) (fun _=>())
theorem o239:Ok Tryz.prog k239:=by
 refine okL [.tmp 4] Tryz.func239 Tryz.ntmps239 Tryz.results239 ?_
 intro y ⟨a0,a1,_⟩ r H Q hn hr
 have:HT _ _:=⟨tc o15 tn⟩
 refine qA (Z [p 2 (R 2),p 3 (R 3)] [(3,K 261 y261 a1),(2,K 261 y261 a0)]) <|
  vx_seq <|
  qB (Z [p 2 (R 2),p 3 (R 3),p 10 (B !vl (u15 a0.1 a1.1))] [(3,K 261 y261 a1),(2,K 261 y261 a0)]) H fun H =>
  cD H (fun H=>?_) (fun H=>?_)
 ·refine qA (Z [p 4 (B false)] [(3,K 261 y261 a1),(2,K 261 y261 a0)]) <|
   vx_ret<|fx_seq_ret<|hr H
 refine vx_skip<|fx_seq<|vx_seq <|
  qB (Z [p 2 (R 2),p 3 (R 3),p 16 (B !vl (u15 a0.2.1 a1.2.1))] [(3,K 261 y261 a1),(2,K 261 y261 a0)]) H fun H =>
  cD H (fun H=>?_) (fun H=>?_)
 ·refine qA (Z [p 4 (B false)] [(3,K 261 y261 a1),(2,K 261 y261 a0)]) <|
   vx_ret<|fx_seq_ret<|hr H
 refine vx_skip<|fx_seq<|vx_seq <|
  qB (Z [p 22 (B !vl (u15 a0.2.2 a1.2.2))] [(3,K 261 y261 a1),(2,K 261 y261 a0)]) H fun H =>
  cD H (fun H=>?_) (fun H=>?_)
 ·refine qA (Z [p 4 (B false)] [(3,K 261 y261 a1),(2,K 261 y261 a0)]) <|
   vx_ret<|fx_seq_ret<|hr H
 refine vx_skip<|fx_seq <|
  qA (Z [p 4 (B true)] [(3,K 261 y261 a1),(2,K 261 y261 a0)]) <|
  vx_ret<|hr H
def u225J0:Unit→Option (Bool)
 | _ =>
 some true
def u225L1 (a0:List Y261) (a1:List Y261) (g1:Int→Option (Bool)):Int→Option (Bool)
 | v0 =>
 if (decide (v0 < (↑a0.length:Int)))=true then
  gd (ix v0 a0.length∧ix v0 a1.length∧(u239 (a0.getD v0.toNat (dflt y261)) (a1.getD v0.toNat (dflt y261))).isSome=true∧True) <|
  if (!vl (u239 (a0.getD v0.toNat (dflt y261)) (a1.getD v0.toNat (dflt y261))))=true then
   some false
  else
   gd (in64 (v0+1)∧True) <|
   g1 (v0+1)
 else
  u225J0 ()
def u225 (a0:List Y261) (a1:List Y261):Option (Bool) :=
 if ((↑a0.length:Int) != (↑a1.length:Int))=true then
  some false
 else
  lp (u225L1 a0 a1) 0
def k225:Ct:=lct 225 [.dat y261.sl,.dat y261.sl] (fun x=>u225 x.1 x.2.1) (fun r:Bool=>B r) (fun _=>())
theorem o225:Ok Tryz.prog k225:=by
 refine okL [.tmp 4] Tryz.func225 Tryz.ntmps225 Tryz.results225 ?_
 intro y ⟨a0,a1,_⟩ r H Q hn hr
 have:HT _ _:=⟨tc o239 tn⟩
 refine qA (Z [p 0 (L y261 a0),p 1 (L y261 a1)] []) <|
  vx_seq <|
  qA (Z [p 0 (L y261 a0),p 1 (L y261 a1),p 10 (B ((↑a0.length:Int) != (↑a1.length:Int)))] []) <|
  cD H (fun H=>?_) (fun H=>?_)
 ·refine qA (Z [p 4 (B false)] []) <|
   vx_ret<|fx_seq_ret<|hr H
 refine vx_skip<|fx_seq <|
  jN r (fun (_:Unit)=>Z [] []) (u225J0) (fun _ H=>?_) (fun _ n0 e0 t0=>?_)
 ·refine qA (Z [p 4 (B true)] []) <|
   vx_ret<|hr H
 refine qA (Z [p 0 (L y261 a0),p 1 (L y261 a1),p 5 (I 0)] []) <|
  vx_block <|
  lX (fun (v0:Int)=>Z [p 0 (L y261 a0),p 1 (L y261 a1),p 5 (I v0)] []) 0 H fun _ g1 b1 e1 t1 v0 H =>
  vx_seq <|
  qA (Z [p 0 (L y261 a0),p 1 (L y261 a1),p 5 (I v0),p 14 (B (decide (v0 < (↑a0.length:Int))))] []) <|
  cD H (fun H=>?_) (fun H=>?_)
 ·refine vx_skip<|fx_seq<|vx_seq<|vx_block <|
   qB (Z [p 0 (L y261 a0),p 1 (L y261 a1),p 5 (I v0),p 26 (B !vl (u239 (a0.getD v0.toNat (dflt y261)) (a1.getD v0.toNat (dflt y261))))] []) H fun H =>
   cD H (fun H=>?_) (fun H=>?_)
  ·refine qA (Z [p 4 (B false)] []) <|
    vx_ret<|fx_blk_ret<|fx_seq_ret<|t1<|fx_blk_ret<|t0<|hr H
  refine vx_skip<|fx_blk<|fx_seq <|
   zB (Z [p 0 (L y261 a0),p 1 (L y261 a1),p 5 (I (v0+1))] []) H fun H =>
   b1 H
 exact vx_exit<|fx_seq_exit<|e1<|fx_blk_exit rfl<|n0 H
def u207 (a0:Y153) (a1:Y153):Option (Bool) :=
 if (a0.1 != a1.1)=true then
  some false
 else
  if (a0.2.1 != a1.2.1)=true then
   some false
  else
   if (a0.2.2.1 != a1.2.2.1)=true then
    some false
   else
    if (a0.2.2.2.1 != a1.2.2.2.1)=true then
     some false
    else
     gd ((u225 a0.2.2.2.2.1 a1.2.2.2.2.1).isSome=true∧True) <|
     if (!vl (u225 a0.2.2.2.2.1 a1.2.2.2.2.1))=true then
      some false
     else
      gd ((u225 a0.2.2.2.2.2 a1.2.2.2.2.2).isSome=true∧True) <|
      if (!vl (u225 a0.2.2.2.2.2 a1.2.2.2.2.2))=true then
       some false
      else
       some true
def k207:Ct:=lct 207 [.agg y153,.agg y153] (fun x=>u207 x.1 x.2.1) (fun r:Bool=>B r) (fun _=>())
theorem o207:Ok Tryz.prog k207:=by
 refine okL [.tmp 4] Tryz.func207 Tryz.ntmps207 Tryz.results207 ?_
 intro y ⟨a0,a1,_⟩ r H Q hn hr
 have:HT _ _:=⟨tc o225 tn⟩
 refine qA (Z [p 2 (R 2),p 3 (R 3)] [(3,K 153 y153 a1),(2,K 153 y153 a0)]) <|
  vx_seq <|
  qA (Z [p 2 (R 2),p 3 (R 3),p 9 (B (a0.1 != a1.1))] [(3,K 153 y153 a1),(2,K 153 y153 a0)]) <|
  cD H (fun H=>?_) (fun H=>?_)
 ·refine qA (Z [p 4 (B false)] [(3,K 153 y153 a1),(2,K 153 y153 a0)]) <|
   vx_ret<|fx_seq_ret<|hr H
 refine vx_skip<|fx_seq<|vx_seq <|
  qA (Z [p 2 (R 2),p 3 (R 3),p 14 (B (a0.2.1 != a1.2.1))] [(3,K 153 y153 a1),(2,K 153 y153 a0)]) <|
  cD H (fun H=>?_) (fun H=>?_)
 ·refine qA (Z [p 4 (B false)] [(3,K 153 y153 a1),(2,K 153 y153 a0)]) <|
   vx_ret<|fx_seq_ret<|hr H
 refine vx_skip<|fx_seq<|vx_seq <|
  qA (Z [p 2 (R 2),p 3 (R 3),p 19 (B (a0.2.2.1 != a1.2.2.1))] [(3,K 153 y153 a1),(2,K 153 y153 a0)]) <|
  cD H (fun H=>?_) (fun H=>?_)
 ·refine qA (Z [p 4 (B false)] [(3,K 153 y153 a1),(2,K 153 y153 a0)]) <|
   vx_ret<|fx_seq_ret<|hr H
 refine vx_skip<|fx_seq<|vx_seq <|
  qA (Z [p 2 (R 2),p 3 (R 3),p 24 (B (a0.2.2.2.1 != a1.2.2.2.1))] [(3,K 153 y153 a1),(2,K 153 y153 a0)]) <|
  cD H (fun H=>?_) (fun H=>?_)
 ·refine qA (Z [p 4 (B false)] [(3,K 153 y153 a1),(2,K 153 y153 a0)]) <|
   vx_ret<|fx_seq_ret<|hr H
 refine vx_skip<|fx_seq<|vx_seq <|
  qB (Z [p 2 (R 2),p 3 (R 3),p 30 (B !vl (u225 a0.2.2.2.2.1 a1.2.2.2.2.1))] [(3,K 153 y153 a1),(2,K 153 y153 a0)]) H fun H =>
  cD H (fun H=>?_) (fun H=>?_)
 ·refine qA (Z [p 4 (B false)] [(3,K 153 y153 a1),(2,K 153 y153 a0)]) <|
   vx_ret<|fx_seq_ret<|hr H
 refine vx_skip<|fx_seq<|vx_seq <|
  qB (Z [p 36 (B !vl (u225 a0.2.2.2.2.2 a1.2.2.2.2.2))] [(3,K 153 y153 a1),(2,K 153 y153 a0)]) H fun H =>
  cD H (fun H=>?_) (fun H=>?_)
 ·refine qA (Z [p 4 (B false)] [(3,K 153 y153 a1),(2,K 153 y153 a0)]) <|
   vx_ret<|fx_seq_ret<|hr H
 refine vx_skip<|fx_seq <|
  qA (Z [p 4 (B true)] [(3,K 153 y153 a1),(2,K 153 y153 a0)]) <|
  vx_ret<|hr H
def u178J0:Unit→Option (Bool)
 | _ =>
 some true
def u178L1 (a0:List Y153) (a1:List Y153) (g1:Int→Option (Bool)):Int→Option (Bool)
 | v0 =>
 if (decide (v0 < (↑a0.length:Int)))=true then
  gd (ix v0 a0.length∧ix v0 a1.length∧(u207 (a0.getD v0.toNat (dflt y153)) (a1.getD v0.toNat (dflt y153))).isSome=true∧True) <|
  if (!vl (u207 (a0.getD v0.toNat (dflt y153)) (a1.getD v0.toNat (dflt y153))))=true then
   some false
  else
   gd (in64 (v0+1)∧True) <|
   g1 (v0+1)
 else
  u178J0 ()
def u178 (a0:List Y153) (a1:List Y153):Option (Bool) :=
 if ((↑a0.length:Int) != (↑a1.length:Int))=true then
  some false
 else
  lp (u178L1 a0 a1) 0
def k178:Ct:=lct 178 [.dat y153.sl,.dat y153.sl] (fun x=>u178 x.1 x.2.1) (fun r:Bool=>B r) (fun _=>())
theorem o178:Ok Tryz.prog k178:=by
 refine okL [.tmp 4] Tryz.func178 Tryz.ntmps178 Tryz.results178 ?_
 intro y ⟨a0,a1,_⟩ r H Q hn hr
 have:HT _ _:=⟨tc o207 tn⟩
 refine qA (Z [p 0 (L y153 a0),p 1 (L y153 a1)] []) <|
  vx_seq <|
  qA (Z [p 0 (L y153 a0),p 1 (L y153 a1),p 10 (B ((↑a0.length:Int) != (↑a1.length:Int)))] []) <|
  cD H (fun H=>?_) (fun H=>?_)
 ·refine qA (Z [p 4 (B false)] []) <|
   vx_ret<|fx_seq_ret<|hr H
 refine vx_skip<|fx_seq <|
  jN r (fun (_:Unit)=>Z [] []) (u178J0) (fun _ H=>?_) (fun _ n0 e0 t0=>?_)
 ·refine qA (Z [p 4 (B true)] []) <|
   vx_ret<|hr H
 refine qA (Z [p 0 (L y153 a0),p 1 (L y153 a1),p 5 (I 0)] []) <|
  vx_block <|
  lX (fun (v0:Int)=>Z [p 0 (L y153 a0),p 1 (L y153 a1),p 5 (I v0)] []) 0 H fun _ g1 b1 e1 t1 v0 H =>
  vx_seq <|
  qA (Z [p 0 (L y153 a0),p 1 (L y153 a1),p 5 (I v0),p 14 (B (decide (v0 < (↑a0.length:Int))))] []) <|
  cD H (fun H=>?_) (fun H=>?_)
 ·refine vx_skip<|fx_seq<|vx_seq<|vx_block <|
   qB (Z [p 0 (L y153 a0),p 1 (L y153 a1),p 5 (I v0),p 26 (B !vl (u207 (a0.getD v0.toNat (dflt y153)) (a1.getD v0.toNat (dflt y153))))] []) H fun H =>
   cD H (fun H=>?_) (fun H=>?_)
  ·refine qA (Z [p 4 (B false)] []) <|
    vx_ret<|fx_blk_ret<|fx_seq_ret<|t1<|fx_blk_ret<|t0<|hr H
  refine vx_skip<|fx_blk<|fx_seq <|
   zB (Z [p 0 (L y153 a0),p 1 (L y153 a1),p 5 (I (v0+1))] []) H fun H =>
   b1 H
 exact vx_exit<|fx_seq_exit<|e1<|fx_blk_exit rfl<|n0 H
def u206 (a0:Y222) (a1:Y222):Option (Bool) :=
 if (!decide (a0.1=a1.1))=true then
  some false
 else
  if (a0.2.1 != a1.2.1)=true then
   some false
  else
   if (a0.2.2.1 != a1.2.2.1)=true then
    some false
   else
    if (!a0.2.2.2==a1.2.2.2)=true then
     some false
    else
     some true
def k206:Ct:=lct 206 [.agg y222,.agg y222] (fun x=>u206 x.1 x.2.1) (fun r:Bool=>B r) (fun _=>())
theorem o206:Ok Tryz.prog k206:=by
 refine okL [.tmp 4] Tryz.func206 Tryz.ntmps206 Tryz.results206 ?_
 intro y ⟨a0,a1,_⟩ r H Q hn hr
 have:HT _ _:=⟨@tn Tryz.prog⟩
 refine qA (Z [p 2 (R 2),p 3 (R 3)] [(3,K 222 y222 a1),(2,K 222 y222 a0)]) <|
  vx_seq <|
  qA (Z [p 2 (R 2),p 3 (R 3),p 9 (B !decide (a0.1=a1.1))] [(3,K 222 y222 a1),(2,K 222 y222 a0)]) <|
  cD H (fun H=>?_) (fun H=>?_)
 ·refine qA (Z [p 4 (B false)] [(3,K 222 y222 a1),(2,K 222 y222 a0)]) <|
   vx_ret<|fx_seq_ret<|hr H
 refine vx_skip<|fx_seq<|vx_seq <|
  qA (Z [p 2 (R 2),p 3 (R 3),p 14 (B (a0.2.1 != a1.2.1))] [(3,K 222 y222 a1),(2,K 222 y222 a0)]) <|
  cD H (fun H=>?_) (fun H=>?_)
 ·refine qA (Z [p 4 (B false)] [(3,K 222 y222 a1),(2,K 222 y222 a0)]) <|
   vx_ret<|fx_seq_ret<|hr H
 refine vx_skip<|fx_seq<|vx_seq <|
  qA (Z [p 2 (R 2),p 3 (R 3),p 19 (B (a0.2.2.1 != a1.2.2.1))] [(3,K 222 y222 a1),(2,K 222 y222 a0)]) <|
  cD H (fun H=>?_) (fun H=>?_)
 ·refine qA (Z [p 4 (B false)] [(3,K 222 y222 a1),(2,K 222 y222 a0)]) <|
   vx_ret<|fx_seq_ret<|hr H
 refine vx_skip<|fx_seq<|vx_seq <|
  qA (Z [p 24 (B !a0.2.2.2==a1.2.2.2)] [(3,K 222 y222 a1),(2,K 222 y222 a0)]) <|
  cD H (fun H=>?_) (fun H=>?_)
 ·refine qA (Z [p 4 (B false)] [(3,K 222 y222 a1),(2,K 222 y222 a0)]) <|
   vx_ret<|fx_seq_ret<|hr H
 refine vx_skip<|fx_seq <|
  qA (Z [p 4 (B true)] [(3,K 222 y222 a1),(2,K 222 y222 a0)]) <|
  vx_ret<|hr H
def u177J0:Unit→Option (Bool)
 | _ =>
 some true
def u177L1 (a0:List Y222) (a1:List Y222) (g1:Int→Option (Bool)):Int→Option (Bool)
 | v0 =>
 if (decide (v0 < (↑a0.length:Int)))=true then
  gd (ix v0 a0.length∧ix v0 a1.length∧(u206 (a0.getD v0.toNat (dflt y222)) (a1.getD v0.toNat (dflt y222))).isSome=true∧True) <|
  if (!vl (u206 (a0.getD v0.toNat (dflt y222)) (a1.getD v0.toNat (dflt y222))))=true then
   some false
  else
   gd (in64 (v0+1)∧True) <|
   g1 (v0+1)
 else
  u177J0 ()
def u177 (a0:List Y222) (a1:List Y222):Option (Bool) :=
 if ((↑a0.length:Int) != (↑a1.length:Int))=true then
  some false
 else
  lp (u177L1 a0 a1) 0
def k177:Ct:=lct 177 [.dat y222.sl,.dat y222.sl] (fun x=>u177 x.1 x.2.1) (fun r:Bool=>B r) (fun _=>())
theorem o177:Ok Tryz.prog k177:=by
 refine okL [.tmp 4] Tryz.func177 Tryz.ntmps177 Tryz.results177 ?_
 intro y ⟨a0,a1,_⟩ r H Q hn hr
 have:HT _ _:=⟨tc o206 tn⟩
 refine qA (Z [p 0 (L y222 a0),p 1 (L y222 a1)] []) <|
  vx_seq <|
  qA (Z [p 0 (L y222 a0),p 1 (L y222 a1),p 10 (B ((↑a0.length:Int) != (↑a1.length:Int)))] []) <|
  cD H (fun H=>?_) (fun H=>?_)
 ·refine qA (Z [p 4 (B false)] []) <|
   vx_ret<|fx_seq_ret<|hr H
 refine vx_skip<|fx_seq <|
  jN r (fun (_:Unit)=>Z [] []) (u177J0) (fun _ H=>?_) (fun _ n0 e0 t0=>?_)
 ·refine qA (Z [p 4 (B true)] []) <|
   vx_ret<|hr H
 refine qA (Z [p 0 (L y222 a0),p 1 (L y222 a1),p 5 (I 0)] []) <|
  vx_block <|
  lX (fun (v0:Int)=>Z [p 0 (L y222 a0),p 1 (L y222 a1),p 5 (I v0)] []) 0 H fun _ g1 b1 e1 t1 v0 H =>
  vx_seq <|
  qA (Z [p 0 (L y222 a0),p 1 (L y222 a1),p 5 (I v0),p 14 (B (decide (v0 < (↑a0.length:Int))))] []) <|
  cD H (fun H=>?_) (fun H=>?_)
 ·refine vx_skip<|fx_seq<|vx_seq<|vx_block <|
   qB (Z [p 0 (L y222 a0),p 1 (L y222 a1),p 5 (I v0),p 26 (B !vl (u206 (a0.getD v0.toNat (dflt y222)) (a1.getD v0.toNat (dflt y222))))] []) H fun H =>
   cD H (fun H=>?_) (fun H=>?_)
  ·refine qA (Z [p 4 (B false)] []) <|
    vx_ret<|fx_blk_ret<|fx_seq_ret<|t1<|fx_blk_ret<|t0<|hr H
  refine vx_skip<|fx_blk<|fx_seq <|
   zB (Z [p 0 (L y222 a0),p 1 (L y222 a1),p 5 (I (v0+1))] []) H fun H =>
   b1 H
 exact vx_exit<|fx_seq_exit<|e1<|fx_blk_exit rfl<|n0 H
def u140 (a0:Y148) (a1:Y148):Option (Bool) :=
 if (!decide (a0.1=a1.1))=true then
  some false
 else
  if (a0.2.1 != a1.2.1)=true then
   some false
  else
   gd ((u177 a0.2.2.1 a1.2.2.1).isSome=true∧True) <|
   if (!vl (u177 a0.2.2.1 a1.2.2.1))=true then
    some false
   else
    gd ((u178 a0.2.2.2.1 a1.2.2.2.1).isSome=true∧True) <|
    if (!vl (u178 a0.2.2.2.1 a1.2.2.2.1))=true then
     some false
    else
     gd ((u15 a0.2.2.2.2.1 a1.2.2.2.2.1).isSome=true∧True) <|
     if (!vl (u15 a0.2.2.2.2.1 a1.2.2.2.2.1))=true then
      some false
     else
      if (a0.2.2.2.2.2.1 != a1.2.2.2.2.2.1)=true then
       some false
      else
       if (a0.2.2.2.2.2.2 != a1.2.2.2.2.2.2)=true then
        some false
       else
        some true
def k140:Ct:=lct 140 [.agg y148,.agg y148] (fun x=>u140 x.1 x.2.1) (fun r:Bool=>B r) (fun _=>())
theorem o140:Ok Tryz.prog k140:=by
 refine okL [.tmp 4] Tryz.func140 Tryz.ntmps140 Tryz.results140 ?_
 intro y ⟨a0,a1,_⟩ r H Q hn hr
 have:HT _ _:=⟨tc o15 (tc o178 (tc o177 tn))⟩
 refine qA (Z [p 2 (R 2),p 3 (R 3)] [(3,K 148 y148 a1),(2,K 148 y148 a0)]) <|
  vx_seq <|
  qA (Z [p 2 (R 2),p 3 (R 3),p 9 (B !decide (a0.1=a1.1))] [(3,K 148 y148 a1),(2,K 148 y148 a0)]) <|
  cD H (fun H=>?_) (fun H=>?_)
 ·refine qA (Z [p 4 (B false)] [(3,K 148 y148 a1),(2,K 148 y148 a0)]) <|
   vx_ret<|fx_seq_ret<|hr H
 refine vx_skip<|fx_seq<|vx_seq <|
  qA (Z [p 2 (R 2),p 3 (R 3),p 14 (B (a0.2.1 != a1.2.1))] [(3,K 148 y148 a1),(2,K 148 y148 a0)]) <|
  cD H (fun H=>?_) (fun H=>?_)
 ·refine qA (Z [p 4 (B false)] [(3,K 148 y148 a1),(2,K 148 y148 a0)]) <|
   vx_ret<|fx_seq_ret<|hr H
 refine vx_skip<|fx_seq<|vx_seq <|
  qB (Z [p 2 (R 2),p 3 (R 3),p 20 (B !vl (u177 a0.2.2.1 a1.2.2.1))] [(3,K 148 y148 a1),(2,K 148 y148 a0)]) H fun H =>
  cD H (fun H=>?_) (fun H=>?_)
 ·refine qA (Z [p 4 (B false)] [(3,K 148 y148 a1),(2,K 148 y148 a0)]) <|
   vx_ret<|fx_seq_ret<|hr H
 refine vx_skip<|fx_seq<|vx_seq <|
  qB (Z [p 2 (R 2),p 3 (R 3),p 26 (B !vl (u178 a0.2.2.2.1 a1.2.2.2.1))] [(3,K 148 y148 a1),(2,K 148 y148 a0)]) H fun H =>
  cD H (fun H=>?_) (fun H=>?_)
 ·refine qA (Z [p 4 (B false)] [(3,K 148 y148 a1),(2,K 148 y148 a0)]) <|
   vx_ret<|fx_seq_ret<|hr H
 refine vx_skip<|fx_seq<|vx_seq <|
  qB (Z [p 2 (R 2),p 3 (R 3),p 32 (B !vl (u15 a0.2.2.2.2.1 a1.2.2.2.2.1))] [(3,K 148 y148 a1),(2,K 148 y148 a0)]) H fun H =>
  cD H (fun H=>?_) (fun H=>?_)
 ·refine qA (Z [p 4 (B false)] [(3,K 148 y148 a1),(2,K 148 y148 a0)]) <|
   vx_ret<|fx_seq_ret<|hr H
 refine vx_skip<|fx_seq<|vx_seq <|
  qA (Z [p 2 (R 2),p 3 (R 3),p 37 (B (a0.2.2.2.2.2.1 != a1.2.2.2.2.2.1))] [(3,K 148 y148 a1),(2,K 148 y148 a0)]) <|
  cD H (fun H=>?_) (fun H=>?_)
 ·refine qA (Z [p 4 (B false)] [(3,K 148 y148 a1),(2,K 148 y148 a0)]) <|
   vx_ret<|fx_seq_ret<|hr H
 refine vx_skip<|fx_seq<|vx_seq <|
  qA (Z [p 42 (B (a0.2.2.2.2.2.2 != a1.2.2.2.2.2.2))] [(3,K 148 y148 a1),(2,K 148 y148 a0)]) <|
  cD H (fun H=>?_) (fun H=>?_)
 ·refine qA (Z [p 4 (B false)] [(3,K 148 y148 a1),(2,K 148 y148 a0)]) <|
   vx_ret<|fx_seq_ret<|hr H
 refine vx_skip<|fx_seq <|
  qA (Z [p 4 (B true)] [(3,K 148 y148 a1),(2,K 148 y148 a0)]) <|
  vx_ret<|hr H
def u88J0:Unit→Option (Bool)
 | _ =>
 some true
def u88L1 (a0:List Y148) (a1:List Y148) (g1:Int→Option (Bool)):Int→Option (Bool)
 | v0 =>
 if (decide (v0 < (↑a0.length:Int)))=true then
  gd (ix v0 a0.length∧ix v0 a1.length∧(u140 (a0.getD v0.toNat (dflt y148)) (a1.getD v0.toNat (dflt y148))).isSome=true∧True) <|
  if (!vl (u140 (a0.getD v0.toNat (dflt y148)) (a1.getD v0.toNat (dflt y148))))=true then
   some false
  else
   gd (in64 (v0+1)∧True) <|
   g1 (v0+1)
 else
  u88J0 ()
def u88 (a0:List Y148) (a1:List Y148):Option (Bool) :=
 if ((↑a0.length:Int) != (↑a1.length:Int))=true then
  some false
 else
  lp (u88L1 a0 a1) 0
def k88:Ct:=lct 88 [.dat y148.sl,.dat y148.sl] (fun x=>u88 x.1 x.2.1) (fun r:Bool=>B r) (fun _=>())
theorem o88:Ok Tryz.prog k88:=by
 refine okL [.tmp 4] Tryz.func88 Tryz.ntmps88 Tryz.results88 ?_
 intro y ⟨a0,a1,_⟩ r H Q hn hr
 have:HT _ _:=⟨tc o140 tn⟩
 refine qA (Z [p 0 (L y148 a0),p 1 (L y148 a1)] []) <|
  vx_seq <|
  qA (Z [p 0 (L y148 a0),p 1 (L y148 a1),p 10 (B ((↑a0.length:Int) != (↑a1.length:Int)))] []) <|
  cD H (fun H=>?_) (fun H=>?_)
 ·refine qA (Z [p 4 (B false)] []) <|
   vx_ret<|fx_seq_ret<|hr H
 refine vx_skip<|fx_seq <|
  jN r (fun (_:Unit)=>Z [] []) (u88J0) (fun _ H=>?_) (fun _ n0 e0 t0=>?_)
 ·refine qA (Z [p 4 (B true)] []) <|
   vx_ret<|hr H
 refine qA (Z [p 0 (L y148 a0),p 1 (L y148 a1),p 5 (I 0)] []) <|
  vx_block <|
  lX (fun (v0:Int)=>Z [p 0 (L y148 a0),p 1 (L y148 a1),p 5 (I v0)] []) 0 H fun _ g1 b1 e1 t1 v0 H =>
  vx_seq <|
  qA (Z [p 0 (L y148 a0),p 1 (L y148 a1),p 5 (I v0),p 14 (B (decide (v0 < (↑a0.length:Int))))] []) <|
  cD H (fun H=>?_) (fun H=>?_)
 ·refine vx_skip<|fx_seq<|vx_seq<|vx_block <|
   qB (Z [p 0 (L y148 a0),p 1 (L y148 a1),p 5 (I v0),p 26 (B !vl (u140 (a0.getD v0.toNat (dflt y148)) (a1.getD v0.toNat (dflt y148))))] []) H fun H =>
   cD H (fun H=>?_) (fun H=>?_)
  ·refine qA (Z [p 4 (B false)] []) <|
    vx_ret<|fx_blk_ret<|fx_seq_ret<|t1<|fx_blk_ret<|t0<|hr H
  refine vx_skip<|fx_blk<|fx_seq <|
   zB (Z [p 0 (L y148 a0),p 1 (L y148 a1),p 5 (I (v0+1))] []) H fun H =>
   b1 H
 exact vx_exit<|fx_seq_exit<|e1<|fx_blk_exit rfl<|n0 H
def u46 (a0:List Y148) (a1:List Y148):Option (Bool) :=
 gd ((u88 a0 a1).isSome=true∧True) <|
 if (!vl (u88 a0 a1))=true then
  some false
 else
  some true
def k46:Ct:=lct 46 [.agg y148.sl,.agg y148.sl] (fun x=>u46 x.1 x.2.1) (fun r:Bool=>B r) (fun _=>())
theorem o46:Ok Tryz.prog k46:=by
 refine okL [.tmp 4] Tryz.func46 Tryz.ntmps46 Tryz.results46 ?_
 intro y ⟨a0,a1,_⟩ r H Q hn hr
 have:HT _ _:=⟨tc o88 tn⟩
 refine qA (Z [p 2 (R 2),p 3 (R 3)] [(3,Ob.box 39 [L y148 a1]),(2,Ob.box 39 [L y148 a0])]) <|
  vx_seq <|
  qB (Z [p 10 (B !vl (u88 a0 a1))] [(3,Ob.box 39 [L y148 a1]),(2,Ob.box 39 [L y148 a0])]) H fun H =>
  cD H (fun H=>?_) (fun H=>?_)
 ·refine qA (Z [p 4 (B false)] [(3,Ob.box 39 [L y148 a1]),(2,Ob.box 39 [L y148 a0])]) <|
   vx_ret<|fx_seq_ret<|hr H
 refine vx_skip<|fx_seq <|
  qA (Z [p 4 (B true)] [(3,Ob.box 39 [L y148 a1]),(2,Ob.box 39 [L y148 a0])]) <|
  vx_ret<|hr H
def u16 (a0:Y46) (a1:Y46):Option (Bool) :=
 gd ((u46 a0.1 a1.1).isSome=true∧True) <|
 if (!vl (u46 a0.1 a1.1))=true then
  some false
 else
  gd ((u47 a0.2.1 a1.2.1).isSome=true∧True) <|
  if (!vl (u47 a0.2.1 a1.2.1))=true then
   some false
  else
   gd ((u48 a0.2.2 a1.2.2).isSome=true∧True) <|
   if (!vl (u48 a0.2.2 a1.2.2))=true then
    some false
   else
    some true
def k16:Ct:=lct 16 [.agg y46,.agg y46] (fun x=>u16 x.1 x.2.1) (fun r:Bool=>B r) (fun _=>())
theorem o16:Ok Tryz.prog k16:=by
 refine okL [.tmp 4] Tryz.func16 Tryz.ntmps16 Tryz.results16 ?_
 intro y ⟨a0,a1,_⟩ r H Q hn hr
 have:HT _ _:=⟨tc o48 (tc o47 (tc o46 tn))⟩
 refine qA (Z [p 2 (R 2),p 3 (R 3)] [(3,K 46 y46 a1),(2,K 46 y46 a0)]) <|
  vx_seq <|
  qB (Z [p 2 (R 2),p 3 (R 3),p 10 (B !vl (u46 a0.1 a1.1))] [(3,K 46 y46 a1),(2,K 46 y46 a0)]) H fun H =>
  cD H (fun H=>?_) (fun H=>?_)
 ·refine qA (Z [p 4 (B false)] [(3,K 46 y46 a1),(2,K 46 y46 a0)]) <|
   vx_ret<|fx_seq_ret<|hr H
 refine vx_skip<|fx_seq<|vx_seq <|
  qB (Z [p 2 (R 2),p 3 (R 3),p 16 (B !vl (u47 a0.2.1 a1.2.1))] [(3,K 46 y46 a1),(2,K 46 y46 a0)]) H fun H =>
  cD H (fun H=>?_) (fun H=>?_)
 ·refine qA (Z [p 4 (B false)] [(3,K 46 y46 a1),(2,K 46 y46 a0)]) <|
   vx_ret<|fx_seq_ret<|hr H
 refine vx_skip<|fx_seq<|vx_seq <|
  qB (Z [p 22 (B !vl (u48 a0.2.2 a1.2.2))] [(3,K 46 y46 a1),(2,K 46 y46 a0)]) H fun H =>
  cD H (fun H=>?_) (fun H=>?_)
 ·refine qA (Z [p 4 (B false)] [(3,K 46 y46 a1),(2,K 46 y46 a0)]) <|
   vx_ret<|fx_seq_ret<|hr H
 refine vx_skip<|fx_seq <|
  qA (Z [p 4 (B true)] [(3,K 46 y46 a1),(2,K 46 y46 a0)]) <|
  vx_ret<|hr H
def u19J0:Int→Option (Int)
 | v2 =>
 some v2
def u19L1 (a0:List Int) (g1:Int×Int→Option (Int)):Int×Int→Option (Int)
 | (v0,v1) =>
 if (decide (v1 < (↑a0.length:Int)))=true then
  gd (ix v1 a0.length∧True) <|
  if (a0.getD v1.toNat 0 != v0)=true then
   some (-1)
  else
   gd (in64 (v0+1)∧True) <|
   gd (in64 (v1+1)∧True) <|
   g1 (v0+1,v1+1)
 else
  u19J0 v0
def u19 (a0:List Int) (a1:Int):Option (Int) :=
 lp (u19L1 a0) (a1,0)
def k19:Ct:=lct 19 [.dat i64.sl,.dat i64] (fun x=>u19 x.1 x.2.1) (fun r:Int=>I r) (fun _=>())
theorem o19:Ok Tryz.prog k19:=by
 refine okL [.tmp 4] Tryz.func19 Tryz.ntmps19 Tryz.results19 ?_
 intro y ⟨a0,a1,_⟩ r H Q hn hr
 have:HT _ _:=⟨@tn Tryz.prog⟩
 refine qA (Z [p 0 (L i64 a0),p 1 (J a1)] []) <|
  jN r (fun (v2:Int)=>Z [p 1 (J v2)] []) (u19J0) (fun v2 H=>?_) (fun _ n0 e0 t0=>?_)
 ·refine qA (Z [p 4 (J v2)] []) <|
   vx_ret<|hr H
 refine qA (Z [p 0 (L i64 a0),p 1 (J a1),p 5 (I 0)] []) <|
  vx_block <|
  lX (fun ((v0,v1):Int×Int)=>Z [p 0 (L i64 a0),p 1 (J v0),p 5 (I v1)] []) (a1,0) H fun _ g1 b1 e1 t1 ⟨v0,v1⟩ H =>
  vx_seq <|
  qA (Z [p 0 (L i64 a0),p 1 (J v0),p 5 (I v1),p 9 (B (decide (v1 < (↑a0.length:Int))))] []) <|
  cD H (fun H=>?_) (fun H=>?_)
 ·refine vx_skip<|fx_seq<|vx_seq<|vx_block<|vx_seq <|
   qB (Z [p 0 (L i64 a0),p 1 (J v0),p 5 (I v1),p 17 (B (a0.getD v1.toNat 0 != v0))] []) H fun H =>
   cD H (fun H=>?_) (fun H=>?_)
  ·refine qA (Z [p 4 (I (-1))] []) <|
    vx_ret<|fx_seq_ret<|fx_blk_ret<|fx_seq_ret<|t1<|fx_blk_ret<|t0<|hr H
  refine vx_skip<|fx_seq <|
   zB (Z [p 0 (L i64 a0),p 1 (I (v0+1)),p 5 (I v1)] []) H fun H =>
   fx_blk<|fx_seq <|
   zB (Z [p 0 (L i64 a0),p 1 (I (v0+1)),p 5 (I (v1+1))] []) H fun H =>
   b1 H
 exact vx_exit<|fx_seq_exit<|e1<|fx_blk_exit rfl<|n0 H
def u98J0:List Int→Option (List Int×Bool)
 | v18 =>
 some (v18,true)
def u98J5 (v8:List Bool) (v9:List Int) (a0:Int) (g1:List Bool×List Int→Option (List Int×Bool)):Int→Option (List Int×Bool)
 | v17 =>
 if (v17==a0)=true then
  some ([],false)
 else
  gd (ix v17 v8.length∧v17.toNat < v8.length∧True) <|
  gd ((v9.length+[v17].length≤9223372036854775807∧(v9.length+[v17].length)*8≤140737488355328)∧True) <|
  g1 (v8.set v17.toNat true,v9++[v17])
def u98L6 (v8:List Bool) (v9:List Int) (a0:Int) (v15:List Bool) (g1:List Bool×List Int→Option (List Int×Bool)) (g6:Int→Option (List Int×Bool)):Int→Option (List Int×Bool)
 | v16 =>
 gd ((decide (v16 < a0)=true∧True→ix v16 v8.length)∧(decide (v16 < a0)=true∧True→v16.toNat < v8.length)∧(v8.getD v16.toNat false=false∧decide (v16 < a0)=true∧True→ix v16 v15.length)∧(v8.getD v16.toNat false=false∧decide (v16 < a0)=true∧True→v16.toNat < v15.length)∧True) <|
 if (decide (v16 < a0)&&(v8.getD v16.toNat false||v15.getD v16.toNat false))=true then
  gd (in64 (v16+1)∧True) <|
  g6 (v16+1)
 else
  u98J5 v8 v9 a0 g1 v16
def u98J2 (v8:List Bool) (v9:List Int) (a0:Int) (g1:List Bool×List Int→Option (List Int×Bool)):List Bool→Option (List Int×Bool)
 | v15 =>
 lp (u98L6 v8 v9 a0 v15 g1) 0
def u98J4 (v12:Int) (g3:Int×List Bool→Option (List Int×Bool)):List Bool→Option (List Int×Bool)
 | v14 =>
 gd (in64 (v12+1)∧True) <|
 g3 (v12+1,v14)
def u98L3 (a1:List Y107) (a2:List Bool) (v8:List Bool) (v9:List Int) (a0:Int) (g1:List Bool×List Int→Option (List Int×Bool)) (g3:Int×List Bool→Option (List Int×Bool)):Int×List Bool→Option (List Int×Bool)
 | (v12,v13) =>
 if (decide (v12 < (↑a1.length:Int)))=true then
  gd (ix v12 a2.length∧(a2.getD v12.toNat false=true∧True→ix v12 a1.length)∧(a2.getD v12.toNat false=true∧True→ix (a1.getD v12.toNat (dflt y107)).1 v8.length)∧(a2.getD v12.toNat false=true∧True→(a1.getD v12.toNat (dflt y107)).1.toNat < v8.length)∧True) <|
  if (a2.getD v12.toNat false&&!v8.getD (a1.getD v12.toNat (dflt y107)).1.toNat false)=true then
   gd (ix v12 a1.length∧ix (a1.getD v12.toNat (dflt y107)).2.1 v13.length∧(a1.getD v12.toNat (dflt y107)).2.1.toNat < v13.length∧True) <|
   u98J4 v12 g3 (v13.set (a1.getD v12.toNat (dflt y107)).2.1.toNat true)
  else
   u98J4 v12 g3 v13
 else
  u98J2 v8 v9 a0 g1 v13
def u98L1 (a1:List Y107) (a2:List Bool) (a0:Int) (g1:List Bool×List Int→Option (List Int×Bool)):List Bool×List Int→Option (List Int×Bool)
 | (v8,v9) =>
 if (decide ((↑v9.length:Int) < a0))=true then
  gd ((0≤a0∧a0=a0∧a0.toNat*1≤281474976710656∧a0≤9223372036854775807)∧True) <|
  lp (u98L3 a1 a2 v8 v9 a0 g1) (0,List.replicate a0.toNat false)
 else
  u98J0 v9
def u98 (a0:Int) (a1:List Y107) (a2:List Bool):Option (List Int×Bool) :=
 gd ((0≤a0∧a0=a0∧a0.toNat*1≤281474976710656∧a0≤9223372036854775807)∧True) <|
 lp (u98L1 a1 a2 a0) (List.replicate a0.toNat false,[])
def k98:Ct:=lct 98 [.dat i64,.dat y107.sl,.dat Ty.bool.sl] (fun x=>u98 x.1 x.2.1 x.2.2.1) (fun r:List Int×Bool=>AV.tup [AV.ow 2 true i64 r.1,B r.2]) (fun _=>())
theorem o98:Ok Tryz.prog k98:=by
 refine okL [.tmp 6,.tmp 7] Tryz.func98 Tryz.ntmps98 Tryz.results98 ?_
 intro y ⟨a0,a1,a2,_⟩ r H Q hn hr
 have:HT _ _:=⟨@tn Tryz.prog⟩
 refine qA (Z [p 0 (J a0),p 1 (L y107 a1),p 2 (L Ty.bool a2)] []) <|
  qA (Z [p 0 (J a0),p 1 (L y107 a1),p 2 (L Ty.bool a2),p 8 (O 13)] [(13,A 2 i64 [] 0)]) <|
  qB (Z [p 0 (J a0),p 1 (L y107 a1),p 2 (L Ty.bool a2),p 8 (O 13),p 9 (O 15)] [(15,A 4 Ty.bool (List.replicate a0.toNat false) 0),(13,A 2 i64 [] 0)]) H fun H =>
  jN r (fun (v18:List Int)=>Z [p 8 (O 13)] [(13,A 2 i64 v18 0)]) (u98J0) (fun v18 H=>?_) (fun _ n0 e0 t0=>?_)
 ·refine qA (Z [p 6 (O 13),p 7 (B true)] [(13,A 2 i64 v18 0)]) <|
   vx_ret<|hr H
 refine vx_block <|
  lX (fun ((v8,v9):List Bool×List Int)=>Z [p 0 (J a0),p 1 (L y107 a1),p 2 (L Ty.bool a2),p 8 (O 13),p 9 (O 15)] [(15,A 4 Ty.bool v8 0),(13,A 2 i64 v9 0)]) (List.replicate a0.toNat false,[]) H fun _ g1 b1 e1 t1 ⟨v8,v9⟩ H =>
  vx_seq <|
  qA (Z [p 0 (J a0),p 1 (L y107 a1),p 2 (L Ty.bool a2),p 8 (O 13),p 9 (O 15),p 19 (B (decide ((↑v9.length:Int) < a0)))] [(15,A 4 Ty.bool v8 0),(13,A 2 i64 v9 0)]) <|
  cD H (fun H=>?_) (fun H=>?_)
 ·refine vx_skip<|fx_seq<|vx_block <|
   qB (Z [p 0 (J a0),p 1 (L y107 a1),p 2 (L Ty.bool a2),p 8 (O 13),p 9 (O 15),p 10 (O 21)] [(21,A 4 Ty.bool (List.replicate a0.toNat false) 0),(15,A 4 Ty.bool v8 0),(13,A 2 i64 v9 0)]) H fun H =>
   jN r (fun (v15:List Bool)=>Z [p 0 (J a0),p 1 (L y107 a1),p 2 (L Ty.bool a2),p 8 (O 13),p 9 (O 15),p 10 (O 21)] [(21,A 4 Ty.bool v15 0),(15,A 4 Ty.bool v8 0),(13,A 2 i64 v9 0)]) (u98J2 v8 v9 a0 g1) (fun v15 H=>?_) (fun _ n2 e2 t2=>?_)
  ·refine qA (Z [p 0 (J a0),p 1 (L y107 a1),p 2 (L Ty.bool a2),p 8 (O 13),p 9 (O 15),p 10 (O 21),p 12 (I 0)] [(21,A 4 Ty.bool v15 0),(15,A 4 Ty.bool v8 0),(13,A 2 i64 v9 0)]) <|
    jN r (fun (v17:Int)=>Z [p 0 (J a0),p 1 (L y107 a1),p 2 (L Ty.bool a2),p 8 (O 13),p 9 (O 15),p 12 (I v17)] [(15,A 4 Ty.bool v8 0),(13,A 2 i64 v9 0)]) (u98J5 v8 v9 a0 g1) (fun v17 H=>?_) (fun _ n5 e5 t5=>?_)
   ·refine vx_seq <|
     qA (Z [p 0 (J a0),p 1 (L y107 a1),p 2 (L Ty.bool a2),p 8 (O 13),p 9 (O 15),p 12 (I v17),p 69 (B (v17==a0))] [(15,A 4 Ty.bool v8 0),(13,A 2 i64 v9 0)]) <|
     cD H (fun H=>?_) (fun H=>?_)
    ·refine qA (Z [p 6 (O 70),p 7 (B false)] [(70,A 2 i64 [] 0),(15,A 4 Ty.bool v8 0),(13,A 2 i64 v9 0)]) <|
      vx_ret<|fx_seq_ret<|fx_blk_ret<|t1<|fx_blk_ret<|t0<|hr H
    refine vx_skip<|fx_seq <|
     qB (Z [p 0 (J a0),p 1 (L y107 a1),p 2 (L Ty.bool a2),p 8 (O 13),p 9 (O 15),p 12 (I v17)] [(15,A 4 Ty.bool (v8.set v17.toNat true) 0),(13,A 2 i64 v9 0)]) H fun H =>
     zB (Z [p 0 (J a0),p 1 (L y107 a1),p 2 (L Ty.bool a2),p 8 (AV.os 13 1),p 9 (O 15)] [(13,A 2 i64 (v9++[v17]) 1),(76,A 2 i64 [v17] 0),(15,A 4 Ty.bool (v8.set v17.toNat true) 0)]) H fun H =>
     fx_blk<|b1 H
   refine vx_block <|
    lX (fun (v16:Int)=>Z [p 0 (J a0),p 1 (L y107 a1),p 2 (L Ty.bool a2),p 8 (O 13),p 9 (O 15),p 10 (O 21),p 12 (I v16)] [(21,A 4 Ty.bool v15 0),(15,A 4 Ty.bool v8 0),(13,A 2 i64 v9 0)]) 0 H fun _ g6 b6 e6 t6 v16 H =>
    vx_seq <|
    qB (Z [p 0 (J a0),p 1 (L y107 a1),p 2 (L Ty.bool a2),p 8 (O 13),p 9 (O 15),p 10 (O 21),p 12 (I v16),p 64 (B (decide (v16 < a0)&&(v8.getD v16.toNat false||v15.getD v16.toNat false)))] [(21,A 4 Ty.bool v15 0),(15,A 4 Ty.bool v8 0),(13,A 2 i64 v9 0)]) H fun H =>
    cD H (fun H=>?_) (fun H=>?_)
   ·refine vx_skip<|fx_seq<|vx_block <|
     zB (Z [p 0 (J a0),p 1 (L y107 a1),p 2 (L Ty.bool a2),p 8 (O 13),p 9 (O 15),p 10 (O 21),p 12 (I (v16+1))] [(21,A 4 Ty.bool v15 0),(15,A 4 Ty.bool v8 0),(13,A 2 i64 v9 0)]) H fun H =>
     fx_blk<|b6 H
   exact vx_exit<|fx_seq_exit<|e6<|fx_blk_exit rfl<|n5 H
  refine qA (Z [p 0 (J a0),p 1 (L y107 a1),p 2 (L Ty.bool a2),p 8 (O 13),p 9 (O 15),p 10 (O 21),p 11 (I 0)] [(21,A 4 Ty.bool (List.replicate a0.toNat false) 0),(15,A 4 Ty.bool v8 0),(13,A 2 i64 v9 0)]) <|
   vx_block <|
   lX (fun ((v12,v13):Int×List Bool)=>Z [p 0 (J a0),p 1 (L y107 a1),p 2 (L Ty.bool a2),p 8 (O 13),p 9 (O 15),p 10 (O 21),p 11 (I v12)] [(21,A 4 Ty.bool v13 0),(15,A 4 Ty.bool v8 0),(13,A 2 i64 v9 0)]) (0,List.replicate a0.toNat false) H fun _ g3 b3 e3 t3 ⟨v12,v13⟩ H =>
   vx_seq <|
   qA (Z [p 0 (J a0),p 1 (L y107 a1),p 2 (L Ty.bool a2),p 8 (O 13),p 9 (O 15),p 10 (O 21),p 11 (I v12),p 25 (B (decide (v12 < (↑a1.length:Int))))] [(21,A 4 Ty.bool v13 0),(15,A 4 Ty.bool v8 0),(13,A 2 i64 v9 0)]) <|
   cD H (fun H=>?_) (fun H=>?_)
  ·refine vx_skip<|fx_seq <|
    jN r (fun (v14:List Bool)=>Z [p 0 (J a0),p 1 (L y107 a1),p 2 (L Ty.bool a2),p 8 (O 13),p 9 (O 15),p 10 (O 21),p 11 (I v12)] [(21,A 4 Ty.bool v14 0),(15,A 4 Ty.bool v8 0),(13,A 2 i64 v9 0)]) (u98J4 v12 g3) (fun v14 H=>?_) (fun _ n4 e4 t4=>?_)
   ·refine zB (Z [p 0 (J a0),p 1 (L y107 a1),p 2 (L Ty.bool a2),p 8 (O 13),p 9 (O 15),p 10 (O 21),p 11 (I (v12+1))] [(21,A 4 Ty.bool v14 0),(15,A 4 Ty.bool v8 0),(13,A 2 i64 v9 0)]) H fun H =>
     b3 H
   refine vx_block <|
    qB (Z [p 0 (J a0),p 1 (L y107 a1),p 2 (L Ty.bool a2),p 8 (O 13),p 9 (O 15),p 10 (O 21),p 11 (I v12),p 42 (B (a2.getD v12.toNat false&&!v8.getD (a1.getD v12.toNat (dflt y107)).1.toNat false))] [(21,A 4 Ty.bool v13 0),(15,A 4 Ty.bool v8 0),(13,A 2 i64 v9 0)]) H fun H =>
    cD H (fun H=>?_) (fun H=>?_)
   ·refine zB (Z [p 0 (J a0),p 1 (L y107 a1),p 2 (L Ty.bool a2),p 8 (O 13),p 9 (O 15),p 10 (O 21),p 11 (I v12)] [(21,A 4 Ty.bool (v13.set (a1.getD v12.toNat (dflt y107)).2.1.toNat true) 0),(15,A 4 Ty.bool v8 0),(13,A 2 i64 v9 0)]) H fun H =>
     fx_blk<|n4 H
   exact vx_skip<|fx_blk<|n4 H
  exact vx_exit<|fx_seq_exit<|e3<|fx_blk_exit rfl<|n2 H
 exact vx_exit<|fx_seq_exit<|e1<|fx_blk_exit rfl<|n0 H
def u54 (a0:Y46) (a1:List Int):Option (Bool) :=
 gd ((u59 a0).isSome=true∧True)<|lt (vl (u59 a0)) fun v0 =>
 gd ((u61 a0).isSome=true∧(u62 v0 a1).isSome=true∧(u98 (vl (u61 a0)) v0 (vl (u62 v0 a1))).isSome=true∧True)<|lt ((vl (u98 (vl (u61 a0)) v0 (vl (u62 v0 a1))),vl (u62 v0 a1))) fun (v1,v2) =>
 some (!v1.2)
def k54:Ct:=lct 54 [.agg y46,.dat i64.sl] (fun x=>u54 x.1 x.2.1) (fun r:Bool=>B r) (fun _=>())
theorem o54:Ok Tryz.prog k54:=by
 refine okL [.tmp 4] Tryz.func54 Tryz.ntmps54 Tryz.results54 ?_
 intro y ⟨a0,a1,_⟩ r H Q hn hr
 have:HT _ _:=⟨tc o98 (tc o62 (tc o61 (tc o59 tn)))⟩
 refine qA (Z [p 1 (L i64 a1),p 2 (R 2)] [(2,K 46 y46 a0)]) <|
  qD (fun v0=>Z [p 1 (L i64 a1),p 2 (R 2),p 5 (O 9)] [(9,A 107 y107 v0 0),(2,K 46 y46 a0)]) H fun v0 H =>
  qD (fun (v1,v2)=>Z [p 7 (B v1.2)] [(17,A 2 i64 v1.1 0),(16,A 4 Ty.bool v2 0),(9,A 107 y107 v0 0),(2,K 46 y46 a0)]) H fun ⟨v1,v2⟩ H =>
  qA (Z [p 4 (B !v1.2)] [(17,A 2 i64 v1.1 0),(16,A 4 Ty.bool v2 0),(9,A 107 y107 v0 0),(2,K 46 y46 a0)]) <|
  vx_ret<|hr H
def u55 (a0:List Int) (a1:Int):Option (List Int) :=
 gd (((0:Int)≤(0:Int)∧(0:Int)≤a1∧a1≤(↑a0.length:Int))∧(0+(List.take a1.toNat a0).length≤9223372036854775807∧(0+(List.take a1.toNat a0).length)*8≤140737488355328)∧in64 (a1+(1:Int))∧((0:Int)≤a1+(1:Int)∧a1+(1:Int)≤(↑a0.length:Int)∧(↑a0.length:Int)≤(↑a0.length:Int))∧(([]++List.take a1.toNat a0).length+(List.drop (a1+(1:Int)).toNat a0).length≤9223372036854775807∧(([]++List.take a1.toNat a0).length+(List.drop (a1+(1:Int)).toNat a0).length)*8≤140737488355328)∧True) <|
 some ([]++List.take a1.toNat a0++List.drop (a1+1).toNat a0)
def k55:Ct:=lct 55 [.dat i64.sl,.dat i64] (fun x=>u55 x.1 x.2.1) (fun r:List Int=>AV.ow 2 true i64 r) (fun _=>())
theorem o55:Ok Tryz.prog k55:=by
 refine okL [.tmp 4] Tryz.func55 Tryz.ntmps55 Tryz.results55 ?_
 intro y ⟨a0,a1,_⟩ r H Q hn hr
 have:HT _ _:=⟨@tn Tryz.prog⟩
 refine qA (Z [p 0 (L i64 a0),p 1 (J a1)] []) <|
  qB (Z [p 4 (AV.os 5 2)] [(5,A 2 i64 ([]++List.take a1.toNat a0++List.drop (a1+1).toNat a0) 2)]) H fun H =>
  vx_ret<|hr H
def u152 (a0:Y107) (a1:Int):Option (Bool) :=
 some (a0.1==a1)
def k152:Ct:=lct 152 [.agg y107,.dat (.pt i64)] (fun x=>u152 x.1 x.2.1) (fun r:Bool=>B r) (fun _=>())
theorem o152:Ok Tryz.prog k152:=by
 refine okL [.tmp 3] Tryz.func152 Tryz.ntmps152 Tryz.results152 ?_
 intro y ⟨a0,a1,_⟩ r H Q hn hr
 have:HT _ _:=⟨@tn Tryz.prog⟩
 refine qA (Z [p 1 (D i64.pt a1),p 2 (R 2)] [(2,K 107 y107 a0)]) <|
  qA (Z [p 3 (B (a0.1==a1))] [(2,K 107 y107 a0)]) <|
  vx_ret<|hr H
def u126c152J0:List Int→Option (List Int)
 | v6 =>
 some v6
def u126c152J2 (v3:Int) (g1:List Int×Int→Option (List Int)):List Int→Option (List Int)
 | v5 =>
 gd (in64 (v3+1)∧True) <|
 g1 (v5,v3+1)
def u126c152L1 (a0:Y92) (a1:Int) (g1:List Int×Int→Option (List Int)):List Int×Int→Option (List Int)
 | (v2,v3) =>
 if (decide (v3 < (↑a0.1.2.2.1.length:Int)))=true then
  gd (ix v3 a0.1.2.2.1.length∧True)<|lt (a0.1.2.2.1.getD v3.toNat (dflt y107)) fun v4 =>
  gd (ix v3 a0.2.length∧(a0.2.getD v3.toNat false=true∧True→(u152 v4 a1).isSome=true)∧True) <|
  if (a0.2.getD v3.toNat false&&vl (u152 v4 a1))=true then
   gd ((v2.length+[v3].length≤9223372036854775807∧(v2.length+[v3].length)*8≤140737488355328)∧True) <|
   u126c152J2 v3 g1 (v2++[v3])
  else
   u126c152J2 v3 g1 v2
 else
  u126c152J0 v2
def u126c152 (a0:Y92) (a1:Int):Option (List Int) :=
 lp (u126c152L1 a0 a1) ([],0)
def k126c152:Ct:=lct 126 [.dat y92.pt,.fn 152 (.pt i64)] (fun x=>u126c152 x.1 x.2.1) (fun r:List Int=>AV.ow 2 true i64 r) (fun _=>())
theorem o126c152:Ok Tryz.prog k126c152:=by
 refine okL [.tmp 4] Tryz.func126 Tryz.ntmps126 Tryz.results126 ?_
 intro y ⟨a0,a1,_⟩ r H Q hn hr
 have:HT _ _:=⟨tc o152 tn⟩
 refine qA (Z [p 0 (D y92.pt a0),p 1 (AV.fn 152 [D i64.pt a1])] []) <|
  qA (Z [p 0 (D y92.pt a0),p 1 (AV.fn 152 [D i64.pt a1]),p 5 (nil)] []) <|
  jN r (fun (v6:List Int)=>Z [p 5 (O 36)] [(36,A 2 i64 v6 0)]) (u126c152J0) (fun v6 H=>?_) (fun _ n0 e0 t0=>?_)
 ·refine qA (Z [p 4 (O 36)] [(36,A 2 i64 v6 0)]) <|
   vx_ret<|hr H
 refine qA (Z [p 0 (D y92.pt a0),p 1 (AV.fn 152 [D i64.pt a1]),p 5 (nil),p 14 (L y107 a0.1.2.2.1),p 15 (I (↑a0.1.2.2.1.length:Int)),p 16 (I 0)] []) <|
  vx_block <|
  lX (fun ((v2,v3):List Int×Int)=>Z [p 0 (D y92.pt a0),p 1 (AV.fn 152 [D i64.pt a1]),p 5 (O 36),p 14 (L y107 a0.1.2.2.1),p 15 (I (↑a0.1.2.2.1.length:Int)),p 16 (I v3)] [(36,A 2 i64 v2 0)]) ([],0) H fun _ g1 b1 e1 t1 ⟨v2,v3⟩ H =>
  qA (Z [p 0 (D y92.pt a0),p 1 (AV.fn 152 [D i64.pt a1]),p 5 (O 36),p 14 (L y107 a0.1.2.2.1),p 15 (I (↑a0.1.2.2.1.length:Int)),p 16 (I v3),p 17 (B (decide (v3 < (↑a0.1.2.2.1.length:Int))))] [(36,A 2 i64 v2 0)]) <|
  vx_seq <|
  cD H (fun H=>?_) (fun H=>?_)
 ·refine vx_skip<|fx_seq <|
   jN r (fun (v5:List Int)=>Z [p 0 (D y92.pt a0),p 1 (AV.fn 152 [D i64.pt a1]),p 5 (O 36),p 14 (L y107 a0.1.2.2.1),p 15 (I (↑a0.1.2.2.1.length:Int)),p 16 (I v3)] [(36,A 2 i64 v5 0)]) (u126c152J2 v3 g1) (fun v5 H=>?_) (fun _ n2 e2 t2=>?_)
  ·refine zB (Z [p 0 (D y92.pt a0),p 1 (AV.fn 152 [D i64.pt a1]),p 5 (O 36),p 14 (L y107 a0.1.2.2.1),p 15 (I (↑a0.1.2.2.1.length:Int)),p 16 (I (v3+1))] [(36,A 2 i64 v5 0)]) H fun H =>
    b1 H
  refine vx_block <|
   qD (fun v4=>Z [p 0 (D y92.pt a0),p 1 (AV.fn 152 [D i64.pt a1]),p 5 (O 36),p 6 (I v3),p 7 (R 7),p 14 (L y107 a0.1.2.2.1),p 15 (I (↑a0.1.2.2.1.length:Int)),p 16 (I v3)] [(7,K 107 y107 v4),(36,A 2 i64 v2 0)]) H fun v4 H =>
   qB (Z [p 0 (D y92.pt a0),p 1 (AV.fn 152 [D i64.pt a1]),p 5 (O 36),p 6 (I v3),p 14 (L y107 a0.1.2.2.1),p 15 (I (↑a0.1.2.2.1.length:Int)),p 16 (I v3),p 32 (B (a0.2.getD v3.toNat false&&vl (u152 v4 a1)))] [(7,K 107 y107 v4),(36,A 2 i64 v2 0)]) H fun H =>
   cD H (fun H=>?_) (fun H=>?_)
  ·refine zB (Z [p 0 (D y92.pt a0),p 1 (AV.fn 152 [D i64.pt a1]),p 5 (AV.os 36 1),p 14 (L y107 a0.1.2.2.1),p 15 (I (↑a0.1.2.2.1.length:Int)),p 16 (I v3)] [(36,A 2 i64 (v2++[v3]) 1),(35,A 2 i64 [v3] 0),(7,K 107 y107 v4)]) H fun H =>
    fx_blk<|n2 H
  exact vx_skip<|fx_blk<|n2 H
 exact vx_exit<|fx_seq_exit<|e1<|fx_blk_exit rfl<|n0 H
def u113 (a0:Y92) (a1:Int):Option (List Int) :=
 gd ((u126c152 a0 a1).isSome=true∧True)<|lt (vl (u126c152 a0 a1)) fun v0 =>
 some v0
def k113:Ct:=lct 113 [.dat y92.pt,.dat i64] (fun x=>u113 x.1 x.2.1) (fun r:List Int=>AV.ow 2 true i64 r) (fun _=>())
theorem o113:Ok Tryz.prog k113:=by
 refine okL [.tmp 4] Tryz.func113 Tryz.ntmps113 Tryz.results113 ?_
 intro y ⟨a0,a1,_⟩ r H Q hn hr
 have:HT _ _:=⟨tc o126c152 (tc o152 tn)⟩
 refine qA (Z [p 0 (D y92.pt a0),p 3 (R 3)] [(3,Ob.box 2 [J a1])]) <|
  qD (fun v0=>Z [p 4 (O 7)] [(7,A 2 i64 v0 0),(3,Ob.box 2 [J a1])]) H fun v0 H =>
  vx_ret<|hr H
def u150J0:Unit→Option (Int)
 | _ =>
 some (-1)
def u150L1 (a1:Int) (a0:List Int) (g1:Int→Option (Int)):Int→Option (Int)
 | v0 =>
 if (decide (v0 < (↑a0.length:Int)))=true then
  gd (ix v0 a0.length∧True) <|
  if (a1==a0.getD v0.toNat 0)=true then
   some v0
  else
   gd (in64 (v0+1)∧True) <|
   g1 (v0+1)
 else
  u150J0 ()
def u150 (a0:List Int) (a1:Int):Option (Int) :=
 lp (u150L1 a1 a0) 0
def k150:Ct:=lct 150 [.dat i64.sl,.dat i64] (fun x=>u150 x.1 x.2.1) (fun r:Int=>I r) (fun _=>())
theorem o150:Ok Tryz.prog k150:=by
 refine okL [.tmp 4] Tryz.func150 Tryz.ntmps150 Tryz.results150 ?_
 intro y ⟨a0,a1,_⟩ r H Q hn hr
 have:HT _ _:=⟨@tn Tryz.prog⟩
 refine qA (Z [p 0 (L i64 a0),p 1 (J a1)] []) <|
  jN r (fun (_:Unit)=>Z [] []) (u150J0) (fun _ H=>?_) (fun _ n0 e0 t0=>?_)
 ·refine qA (Z [p 4 (I (-1))] []) <|
   vx_ret<|hr H
 refine qA (Z [p 0 (L i64 a0),p 1 (J a1),p 7 (I (↑a0.length:Int)),p 8 (I 0)] []) <|
  vx_block <|
  lX (fun (v0:Int)=>Z [p 0 (L i64 a0),p 1 (J a1),p 7 (I (↑a0.length:Int)),p 8 (I v0)] []) 0 H fun _ g1 b1 e1 t1 v0 H =>
  qA (Z [p 0 (L i64 a0),p 1 (J a1),p 7 (I (↑a0.length:Int)),p 8 (I v0),p 9 (B (decide (v0 < (↑a0.length:Int))))] []) <|
  vx_seq <|
  cD H (fun H=>?_) (fun H=>?_)
 ·refine vx_skip<|fx_seq<|vx_seq<|vx_block <|
   qA (Z [p 0 (L i64 a0),p 1 (J a1),p 5 (I v0),p 7 (I (↑a0.length:Int)),p 8 (I v0)] []) <|
   qB (Z [p 0 (L i64 a0),p 1 (J a1),p 5 (I v0),p 7 (I (↑a0.length:Int)),p 8 (I v0),p 16 (B (a1==a0.getD v0.toNat 0))] []) H fun H =>
   cD H (fun H=>?_) (fun H=>?_)
  ·refine qA (Z [p 4 (I v0)] []) <|
    vx_ret<|fx_blk_ret<|fx_seq_ret<|t1<|fx_blk_ret<|t0<|hr H
  refine vx_skip<|fx_blk<|fx_seq <|
   zB (Z [p 0 (L i64 a0),p 1 (J a1),p 7 (I (↑a0.length:Int)),p 8 (I (v0+1))] []) H fun H =>
   b1 H
 exact vx_exit<|fx_seq_exit<|e1<|fx_blk_exit rfl<|n0 H
def u149 (a0:Y107):Option (Bool) :=
 some true
def k149:Ct:=lct 149 [.agg y107] (fun x=>u149 x.1) (fun r:Bool=>B r) (fun _=>())
theorem o149:Ok Tryz.prog k149:=by
 refine okL [.tmp 2] Tryz.func149 Tryz.ntmps149 Tryz.results149 ?_
 intro y ⟨a0,_⟩ r H Q hn hr
 have:HT _ _:=⟨@tn Tryz.prog⟩
 refine qA (Z [] [(1,K 107 y107 a0)]) <|
  qA (Z [p 2 (B true)] [(1,K 107 y107 a0)]) <|
  vx_ret<|hr H
def u126c149J0:List Int→Option (List Int)
 | v6 =>
 some v6
def u126c149J2 (v3:Int) (g1:List Int×Int→Option (List Int)):List Int→Option (List Int)
 | v5 =>
 gd (in64 (v3+1)∧True) <|
 g1 (v5,v3+1)
def u126c149L1 (a0:Y92) (g1:List Int×Int→Option (List Int)):List Int×Int→Option (List Int)
 | (v2,v3) =>
 if (decide (v3 < (↑a0.1.2.2.1.length:Int)))=true then
  gd (ix v3 a0.1.2.2.1.length∧True)<|lt (a0.1.2.2.1.getD v3.toNat (dflt y107)) fun v4 =>
  gd (ix v3 a0.2.length∧(a0.2.getD v3.toNat false=true∧True→(u149 v4).isSome=true)∧True) <|
  if (a0.2.getD v3.toNat false&&vl (u149 v4))=true then
   gd ((v2.length+[v3].length≤9223372036854775807∧(v2.length+[v3].length)*8≤140737488355328)∧True) <|
   u126c149J2 v3 g1 (v2++[v3])
  else
   u126c149J2 v3 g1 v2
 else
  u126c149J0 v2
def u126c149 (a0:Y92):Option (List Int) :=
 lp (u126c149L1 a0) ([],0)
def k126c149:Ct:=lct 126 [.dat y92.pt,.nof 149] (fun x=>u126c149 x.1) (fun r:List Int=>AV.ow 2 true i64 r) (fun _=>())
theorem o126c149:Ok Tryz.prog k126c149:=by
 refine okL [.tmp 4] Tryz.func126 Tryz.ntmps126 Tryz.results126 ?_
 intro y ⟨a0,_,_⟩ r H Q hn hr
 have:HT _ _:=⟨tc o149 tn⟩
 refine qA (Z [p 0 (D y92.pt a0),p 1 (AV.fn 149 [])] []) <|
  qA (Z [p 0 (D y92.pt a0),p 1 (AV.fn 149 []),p 5 (nil)] []) <|
  jN r (fun (v6:List Int)=>Z [p 5 (O 36)] [(36,A 2 i64 v6 0)]) (u126c149J0) (fun v6 H=>?_) (fun _ n0 e0 t0=>?_)
 ·refine qA (Z [p 4 (O 36)] [(36,A 2 i64 v6 0)]) <|
   vx_ret<|hr H
 refine qA (Z [p 0 (D y92.pt a0),p 1 (AV.fn 149 []),p 5 (nil),p 14 (L y107 a0.1.2.2.1),p 15 (I (↑a0.1.2.2.1.length:Int)),p 16 (I 0)] []) <|
  vx_block <|
  lX (fun ((v2,v3):List Int×Int)=>Z [p 0 (D y92.pt a0),p 1 (AV.fn 149 []),p 5 (O 36),p 14 (L y107 a0.1.2.2.1),p 15 (I (↑a0.1.2.2.1.length:Int)),p 16 (I v3)] [(36,A 2 i64 v2 0)]) ([],0) H fun _ g1 b1 e1 t1 ⟨v2,v3⟩ H =>
  qA (Z [p 0 (D y92.pt a0),p 1 (AV.fn 149 []),p 5 (O 36),p 14 (L y107 a0.1.2.2.1),p 15 (I (↑a0.1.2.2.1.length:Int)),p 16 (I v3),p 17 (B (decide (v3 < (↑a0.1.2.2.1.length:Int))))] [(36,A 2 i64 v2 0)]) <|
  vx_seq <|
  cD H (fun H=>?_) (fun H=>?_)
 ·refine vx_skip<|fx_seq <|
   jN r (fun (v5:List Int)=>Z [p 0 (D y92.pt a0),p 1 (AV.fn 149 []),p 5 (O 36),p 14 (L y107 a0.1.2.2.1),p 15 (I (↑a0.1.2.2.1.length:Int)),p 16 (I v3)] [(36,A 2 i64 v5 0)]) (u126c149J2 v3 g1) (fun v5 H=>?_) (fun _ n2 e2 t2=>?_)
  ·refine zB (Z [p 0 (D y92.pt a0),p 1 (AV.fn 149 []),p 5 (O 36),p 14 (L y107 a0.1.2.2.1),p 15 (I (↑a0.1.2.2.1.length:Int)),p 16 (I (v3+1))] [(36,A 2 i64 v5 0)]) H fun H =>
    b1 H
  refine vx_block <|
   qD (fun v4=>Z [p 0 (D y92.pt a0),p 1 (AV.fn 149 []),p 5 (O 36),p 6 (I v3),p 7 (R 7),p 14 (L y107 a0.1.2.2.1),p 15 (I (↑a0.1.2.2.1.length:Int)),p 16 (I v3)] [(7,K 107 y107 v4),(36,A 2 i64 v2 0)]) H fun v4 H =>
   qB (Z [p 0 (D y92.pt a0),p 1 (AV.fn 149 []),p 5 (O 36),p 6 (I v3),p 14 (L y107 a0.1.2.2.1),p 15 (I (↑a0.1.2.2.1.length:Int)),p 16 (I v3),p 32 (B (a0.2.getD v3.toNat false&&vl (u149 v4)))] [(7,K 107 y107 v4),(36,A 2 i64 v2 0)]) H fun H =>
   cD H (fun H=>?_) (fun H=>?_)
  ·refine zB (Z [p 0 (D y92.pt a0),p 1 (AV.fn 149 []),p 5 (AV.os 36 1),p 14 (L y107 a0.1.2.2.1),p 15 (I (↑a0.1.2.2.1.length:Int)),p 16 (I v3)] [(36,A 2 i64 (v2++[v3]) 1),(35,A 2 i64 [v3] 0),(7,K 107 y107 v4)]) H fun H =>
    fx_blk<|n2 H
  exact vx_skip<|fx_blk<|n2 H
 exact vx_exit<|fx_seq_exit<|e1<|fx_blk_exit rfl<|n0 H
def u101J2:List Int→Option (List Int×Bool)
 | v26 =>
 some (v26,true)
def u101J4 (v16:Int) (g3:List Int×Int×List Int→Option (List Int×Bool)):List Int×List Int→Option (List Int×Bool)
 | (v24,v25) =>
 gd (in64 (v16+1)∧True) <|
 g3 (v24,v16+1,v25)
def u101L5 (a0:Y92) (v19:List Int) (v16:Int) (v15:List Int) (v18:Int) (g3:List Int×Int×List Int→Option (List Int×Bool)) (g5:Int×List Int→Option (List Int×Bool)):Int×List Int→Option (List Int×Bool)
 | (v21,v22) =>
 if (decide (v21 < (↑v19.length:Int)))=true then
  gd (ix v21 v19.length∧v21.toNat < v19.length∧True) <|
  gd (ix (v19.getD v21.toNat 0) a0.1.2.2.1.length∧ix (a0.1.2.2.1.getD (Int.toNat (v19.getD v21.toNat 0)) (dflt y107)).2.1 v22.length∧(a0.1.2.2.1.getD (Int.toNat (v19.getD v21.toNat 0)) (dflt y107)).2.1.toNat < v22.length∧in64 (v22.getD (a0.1.2.2.1.getD (Int.toNat (v19.getD v21.toNat 0)) (dflt y107)).2.1.toNat 0 - 1)∧ix (a0.1.2.2.1.getD (Int.toNat (v19.getD v21.toNat 0)) (dflt y107)).2.1 v22.length∧(a0.1.2.2.1.getD (Int.toNat (v19.getD v21.toNat 0)) (dflt y107)).2.1.toNat < v22.length∧True)<|lt (v22.set (a0.1.2.2.1.getD (Int.toNat (v19.getD v21.toNat 0)) (dflt y107)).2.1.toNat (v22.getD (a0.1.2.2.1.getD (Int.toNat (v19.getD v21.toNat 0)) (dflt y107)).2.1.toNat 0 - 1)) fun v23 =>
  gd (in64 (v21+1)∧True) <|
  g5 (v21+1,v23)
 else
  u101J4 v16 g3 (v15++[v18],v22)
def u101L3 (a0:Y92) (v6:List Int) (g3:List Int×Int×List Int→Option (List Int×Bool)):List Int×Int×List Int→Option (List Int×Bool)
 | (v15,v16,v17) =>
 if (decide (v16 < (↑v6.length:Int)))=true then
  gd ((u150 v17 0).isSome=true∧True)<|lt (vl (u150 v17 0)) fun v18 =>
  if (decide (v18 < 0))=true then
   some ([],false)
  else
   gd (ix v18 v17.length∧v18.toNat < v17.length∧True) <|
   gd ((v15.length+[v18].length≤9223372036854775807∧(v15.length+[v18].length)*8≤140737488355328)∧True) <|
   gd ((u113 a0 v18).isSome=true∧True)<|lt (vl (u113 a0 v18)) fun v19 =>
   lp (u101L5 a0 v19 v16 v15 v18 g3) ((0,v17.set v18.toNat (-1)))
 else
  u101J2 v15
def u101J0 (a0:Y92):List Int→Option (List Int×Bool)
 | v6 =>
 lp (u101L3 a0 v6) ([],0,v6)
def u101L1 (a0:Y92) (v1:List Int) (g1:Int×List Int→Option (List Int×Bool)):Int×List Int→Option (List Int×Bool)
 | (v3,v4) =>
 if (decide (v3 < (↑v1.length:Int)))=true then
  gd (ix v3 v1.length∧v3.toNat < v1.length∧True) <|
  gd (ix (v1.getD v3.toNat 0) a0.1.2.2.1.length∧ix (a0.1.2.2.1.getD (Int.toNat (v1.getD v3.toNat 0)) (dflt y107)).2.1 v4.length∧(a0.1.2.2.1.getD (Int.toNat (v1.getD v3.toNat 0)) (dflt y107)).2.1.toNat < v4.length∧in64 (v4.getD (a0.1.2.2.1.getD (Int.toNat (v1.getD v3.toNat 0)) (dflt y107)).2.1.toNat 0+1)∧ix (a0.1.2.2.1.getD (Int.toNat (v1.getD v3.toNat 0)) (dflt y107)).2.1 v4.length∧(a0.1.2.2.1.getD (Int.toNat (v1.getD v3.toNat 0)) (dflt y107)).2.1.toNat < v4.length∧True)<|lt (v4.set (a0.1.2.2.1.getD (Int.toNat (v1.getD v3.toNat 0)) (dflt y107)).2.1.toNat (v4.getD (a0.1.2.2.1.getD (Int.toNat (v1.getD v3.toNat 0)) (dflt y107)).2.1.toNat 0+1)) fun v5 =>
  gd (in64 (v3+1)∧True) <|
  g1 (v3+1,v5)
 else
  u101J0 a0 v4
def u101 (a0:Y92):Option (List Int×Bool) :=
 gd ((u86 a0.1).isSome=true∧(0≤vl (u86 a0.1)∧vl (u86 a0.1)=vl (u86 a0.1)∧(vl (u86 a0.1)).toNat*8≤281474976710656∧vl (u86 a0.1)≤9223372036854775807)∧True)<|lt (vl (u86 a0.1)) fun v0 =>
 gd ((u126c149 a0).isSome=true∧True)<|lt (vl (u126c149 a0)) fun v1 =>
 lp (u101L1 a0 v1) (0,List.replicate v0.toNat 0)
def k101:Ct:=lct 101 [.dat y92.pt] (fun x=>u101 x.1) (fun r:List Int×Bool=>AV.tup [AV.ow 2 true i64 r.1,B r.2]) (fun _=>())
theorem o101:Ok Tryz.prog k101:=by
 refine okL [.tmp 2,.tmp 3] Tryz.func101 Tryz.ntmps101 Tryz.results101 ?_
 intro y ⟨a0,_⟩ r H Q hn hr
 have:HT _ _:=⟨tc o113 (tc o150 (tc o149 (tc o126c152 (tc o126c149 (tc o86 tn)))))⟩
 refine qA (Z [p 0 (D y92.pt a0)] []) <|
  qD (fun v0=>Z [p 0 (D y92.pt a0),p 4 (O 16)] [(16,A 3 i64 (List.replicate v0.toNat 0) 0)]) H fun v0 H =>
  jN r (fun (v6:List Int)=>Z [p 0 (D y92.pt a0),p 4 (O 16)] [(16,A 3 i64 v6 0)]) (u101J0 a0) (fun v6 H=>?_) (fun _ n0 e0 t0=>?_)
 ·refine qA (Z [p 0 (D y92.pt a0),p 4 (O 16),p 7 (nil)] [(16,A 3 i64 v6 0)]) <|
   jN r (fun (v26:List Int)=>Z [p 7 (O 55)] [(55,A 2 i64 v26 0)]) (u101J2) (fun v26 H=>?_) (fun _ n2 e2 t2=>?_)
  ·refine qA (Z [p 2 (O 55),p 3 (B true)] [(55,A 2 i64 v26 0)]) <|
    vx_ret<|hr H
  refine qA (Z [p 0 (D y92.pt a0),p 4 (O 16),p 7 (nil),p 42 (I (↑v6.length:Int)),p 43 (I 0)] [(16,A 3 i64 v6 0)]) <|
   vx_block <|
   lX (fun ((v15,v16,v17):List Int×Int×List Int)=>Z [p 0 (D y92.pt a0),p 4 (O 16),p 7 (O 55),p 42 (I (↑v6.length:Int)),p 43 (I v16)] [(16,A 3 i64 v17 0),(55,A 2 i64 v15 0)]) ([],0,v6) H fun _ g3 b3 e3 t3 ⟨v15,v16,v17⟩ H =>
   qA (Z [p 0 (D y92.pt a0),p 4 (O 16),p 7 (O 55),p 42 (I (↑v6.length:Int)),p 43 (I v16),p 44 (B (decide (v16 < (↑v6.length:Int))))] [(16,A 3 i64 v17 0),(55,A 2 i64 v15 0)]) <|
   vx_seq <|
   cD H (fun H=>?_) (fun H=>?_)
  ·refine vx_skip<|fx_seq <|
    jN r (fun ((v24,v25):List Int×List Int)=>Z [p 0 (D y92.pt a0),p 4 (O 16),p 7 (O 55),p 42 (I (↑v6.length:Int)),p 43 (I v16)] [(55,A 2 i64 v24 0),(16,A 3 i64 v25 0)]) (u101J4 v16 g3) (fun ⟨v24,v25⟩ H=>?_) (fun _ n4 e4 t4=>?_)
   ·refine zB (Z [p 0 (D y92.pt a0),p 4 (O 16),p 7 (O 55),p 42 (I (↑v6.length:Int)),p 43 (I (v16+1))] [(55,A 2 i64 v24 0),(16,A 3 i64 v25 0)]) H fun H =>
     b3 H
   refine vx_block <|
    qD (fun v18=>Z [p 0 (D y92.pt a0),p 4 (O 16),p 7 (O 55),p 8 (I v18),p 42 (I (↑v6.length:Int)),p 43 (I v16)] [(16,A 3 i64 v17 0),(55,A 2 i64 v15 0)]) H fun v18 H =>
    vx_seq <|
    qA (Z [p 0 (D y92.pt a0),p 4 (O 16),p 7 (O 55),p 8 (I v18),p 42 (I (↑v6.length:Int)),p 43 (I v16),p 48 (B (decide (v18 < 0)))] [(16,A 3 i64 v17 0),(55,A 2 i64 v15 0)]) <|
    cD H (fun H=>?_) (fun H=>?_)
   ·refine qA (Z [p 2 (nil),p 3 (B false)] [(16,A 3 i64 v17 0),(55,A 2 i64 v15 0)]) <|
     vx_ret<|fx_seq_ret<|fx_blk_ret<|t4<|t3<|fx_blk_ret<|t2<|hr H
   refine vx_skip<|fx_seq <|
    qB (Z [p 0 (D y92.pt a0),p 4 (O 16),p 7 (O 55),p 8 (I v18),p 42 (I (↑v6.length:Int)),p 43 (I v16)] [(16,A 3 i64 (v17.set v18.toNat (-1)) 0),(55,A 2 i64 v15 0)]) H fun H =>
    qB (Z [p 0 (D y92.pt a0),p 4 (O 16),p 7 (AV.os 55 1),p 8 (I v18),p 42 (I (↑v6.length:Int)),p 43 (I v16)] [(55,A 2 i64 (v15++[v18]) 1),(54,A 2 i64 [v18] 0),(16,A 3 i64 (v17.set v18.toNat (-1)) 0)]) H fun H =>
    qD (fun v19=>Z [p 0 (D y92.pt a0),p 4 (O 16),p 7 (AV.os 55 1),p 42 (I (↑v6.length:Int)),p 43 (I v16),p 58 (O 58),p 59 (I (↑v19.length:Int)),p 60 (I 0)] [(58,A 2 i64 v19 0),(55,A 2 i64 (v15++[v18]) 1),(54,A 2 i64 [v18] 0),(16,A 3 i64 (v17.set v18.toNat (-1)) 0)]) H fun v19 H =>
    vx_block <|
    lX (fun ((v21,v22):Int×List Int)=>Z [p 0 (D y92.pt a0),p 4 (O 16),p 7 (O 55),p 42 (I (↑v6.length:Int)),p 43 (I v16),p 58 (O 58),p 59 (I (↑v19.length:Int)),p 60 (I v21)] [(58,A 2 i64 v19 0),(55,A 2 i64 (v15++[v18]) 0),(16,A 3 i64 v22 0)]) ((0,v17.set v18.toNat (-1))) H fun _ g5 b5 e5 t5 ⟨v21,v22⟩ H =>
    qA (Z [p 0 (D y92.pt a0),p 4 (O 16),p 7 (O 55),p 42 (I (↑v6.length:Int)),p 43 (I v16),p 58 (O 58),p 59 (I (↑v19.length:Int)),p 60 (I v21),p 61 (B (decide (v21 < (↑v19.length:Int))))] [(58,A 2 i64 v19 0),(55,A 2 i64 (v15++[v18]) 0),(16,A 3 i64 v22 0)]) <|
    vx_seq <|
    cD H (fun H=>?_) (fun H=>?_)
   ·refine vx_skip<|fx_seq<|vx_seq<|vx_block <|
     qB (Z [p 0 (D y92.pt a0),p 4 (O 16),p 7 (O 55),p 10 (I (v19.getD v21.toNat 0)),p 42 (I (↑v6.length:Int)),p 43 (I v16),p 58 (O 58),p 59 (I (↑v19.length:Int)),p 60 (I v21)] [(58,A 2 i64 v19 0),(55,A 2 i64 (v15++[v18]) 0),(16,A 3 i64 v22 0)]) H fun H =>
     zD (fun v23=>Z [p 0 (D y92.pt a0),p 4 (O 16),p 7 (O 55),p 42 (I (↑v6.length:Int)),p 43 (I v16),p 58 (O 58),p 59 (I (↑v19.length:Int)),p 60 (I v21)] [(16,A 3 i64 v23 0),(58,A 2 i64 v19 0),(55,A 2 i64 (v15++[v18]) 0)]) H fun v23 H =>
     fx_blk<|fx_seq <|
     zB (Z [p 0 (D y92.pt a0),p 4 (O 16),p 7 (O 55),p 42 (I (↑v6.length:Int)),p 43 (I v16),p 58 (O 58),p 59 (I (↑v19.length:Int)),p 60 (I (v21+1))] [(16,A 3 i64 v23 0),(58,A 2 i64 v19 0),(55,A 2 i64 (v15++[v18]) 0)]) H fun H =>
     b5 H
   exact vx_exit<|fx_seq_exit<|e5<|fx_blk_exit rfl<|fx_blk<|n4 H
  exact vx_exit<|fx_seq_exit<|e3<|fx_blk_exit rfl<|n2 H
 refine qD (fun v1=>Z [p 0 (D y92.pt a0),p 4 (O 16),p 18 (O 18),p 19 (I (↑v1.length:Int)),p 20 (I 0)] [(18,A 2 i64 v1 0),(16,A 3 i64 (List.replicate v0.toNat 0) 0)]) H fun v1 H =>
  vx_block <|
  lX (fun ((v3,v4):Int×List Int)=>Z [p 0 (D y92.pt a0),p 4 (O 16),p 18 (O 18),p 19 (I (↑v1.length:Int)),p 20 (I v3)] [(18,A 2 i64 v1 0),(16,A 3 i64 v4 0)]) (0,List.replicate v0.toNat 0) H fun _ g1 b1 e1 t1 ⟨v3,v4⟩ H =>
  qA (Z [p 0 (D y92.pt a0),p 4 (O 16),p 18 (O 18),p 19 (I (↑v1.length:Int)),p 20 (I v3),p 21 (B (decide (v3 < (↑v1.length:Int))))] [(18,A 2 i64 v1 0),(16,A 3 i64 v4 0)]) <|
  vx_seq <|
  cD H (fun H=>?_) (fun H=>?_)
 ·refine vx_skip<|fx_seq<|vx_seq<|vx_block <|
   qB (Z [p 0 (D y92.pt a0),p 4 (O 16),p 6 (I (v1.getD v3.toNat 0)),p 18 (O 18),p 19 (I (↑v1.length:Int)),p 20 (I v3)] [(18,A 2 i64 v1 0),(16,A 3 i64 v4 0)]) H fun H =>
   zD (fun v5=>Z [p 0 (D y92.pt a0),p 4 (O 16),p 18 (O 18),p 19 (I (↑v1.length:Int)),p 20 (I v3)] [(16,A 3 i64 v5 0),(18,A 2 i64 v1 0)]) H fun v5 H =>
   fx_blk<|fx_seq <|
   zB (Z [p 0 (D y92.pt a0),p 4 (O 16),p 18 (O 18),p 19 (I (↑v1.length:Int)),p 20 (I (v3+1))] [(16,A 3 i64 v5 0),(18,A 2 i64 v1 0)]) H fun H =>
   b1 H
 exact vx_exit<|fx_seq_exit<|e1<|fx_blk_exit rfl<|n0 H
def u57 (a0:Y92):Option (Bool) :=
 gd ((u101 a0).isSome=true∧True)<|lt (vl (u101 a0)) fun v0 =>
 some (!v0.2)
def k57:Ct:=lct 57 [.dat y92.pt] (fun x=>u57 x.1) (fun r:Bool=>B r) (fun _=>())
theorem o57:Ok Tryz.prog k57:=by
 refine okL [.tmp 2] Tryz.func57 Tryz.ntmps57 Tryz.results57 ?_
 intro y ⟨a0,_⟩ r H Q hn hr
 have:HT _ _:=⟨tc o101 tn⟩
 refine qA (Z [p 0 (D y92.pt a0)] []) <|
  qD (fun v0=>Z [p 4 (B v0.2)] [(7,A 2 i64 v0.1 0)]) H fun v0 H =>
  qA (Z [p 2 (B !v0.2)] [(7,A 2 i64 v0.1 0)]) <|
  vx_ret<|hr H
def u23J0:List Int→Option (List Int×Int)
 | v10 =>
 some ((v10,(0:Int)))
def u23J2 (v5:Int) (g1:List Int×Int×List Bool→Option (List Int×Int)):List Bool×List Int→Option (List Int×Int)
 | (v8,v9) =>
 gd (in64 (v5+1)∧True) <|
 g1 (v9,v5+1,v8)
def u23L1 (a1:List Int) (a0:Y46) (g1:List Int×Int×List Bool→Option (List Int×Int)):List Int×Int×List Bool→Option (List Int×Int)
 | (v4,v5,v6) =>
 if (decide (v5 < (↑a1.length:Int)))=true then
  gd (ix v5 a1.length∧True) <|
  gd (ix (a1.getD v5.toNat 0) v6.length∧Int.toNat (a1.getD v5.toNat 0) < v6.length∧True) <|
  gd ((u57 ((vR (u56 a0 a1)).1.1,v6.set (Int.toNat (a1.getD v5.toNat 0)) true)).isSome=true∧True) <|
  if (vl (u57 ((vR (u56 a0 a1)).1.1,v6.set (Int.toNat (a1.getD v5.toNat 0)) true)))=true then
   gd (ix (a1.getD v5.toNat 0) (v6.set (Int.toNat (a1.getD v5.toNat 0)) true).length∧Int.toNat (a1.getD v5.toNat 0) < (v6.set (Int.toNat (a1.getD v5.toNat 0)) true).length∧True)<|lt ((v6.set (Int.toNat (a1.getD v5.toNat 0)) true).set (Int.toNat (a1.getD v5.toNat 0)) false) fun v7 =>
   gd ((v4.length+[a1.getD v5.toNat 0].length≤9223372036854775807∧(v4.length+[a1.getD v5.toNat 0].length)*8≤140737488355328)∧True) <|
   u23J2 v5 g1 (v7,v4++[a1.getD v5.toNat 0])
  else
   u23J2 v5 g1 ((v6.set (Int.toNat (a1.getD v5.toNat 0)) true,v4))
 else
  u23J0 v4
def u23 (a0:Y46) (a1:List Int):Option (List Int×Int) :=
 if (isL (u56 a0 a1))=true then
  gd (isL (u56 a0 a1)=true∧True) <|
  if (vL (u56 a0 a1) != 0)=true then
   some (([],vL (u56 a0 a1)))
  else
   none
 else
  gd (isR (u56 a0 a1)=true∧True) <|
  if ((vR (u56 a0 a1)).2 != 0)=true then
   some (([],(vR (u56 a0 a1)).2))
  else
   gd ((u57 (vR (u56 a0 a1)).1).isSome=true∧True) <|
   if (vl (u57 (vR (u56 a0 a1)).1))=true then
    some (([],(7:Int)))
   else
    lp (u23L1 a1 a0) (([],0,(vR (u56 a0 a1)).1.2))
def k23:Ct:=lct 23 [.agg y46,.dat i64.sl] (fun x=>u23 x.1 x.2.1) (fun r:List Int×Int=>AV.tup [AV.ow 2 true i64 r.1,I r.2]) (fun _=>())
theorem o23:Ok Tryz.prog k23:=by
 refine okL [.tmp 4,.tmp 5] Tryz.func23 Tryz.ntmps23 Tryz.results23 ?_
 intro y ⟨a0,a1,_⟩ r H Q hn hr
 have:HT _ _:=⟨tc o57 tn⟩
 refine qA (Z [p 1 (L i64 a1),p 2 (R 2)] [(2,K 46 y46 a0)]) <|
  sp H (fun H=>?_) (fun H=>?_)
 ·have:HT _ _:=⟨tc o56L (HT.h)⟩
  refine qB (Z [p 1 (L i64 a1),p 6 (AV.v (Value.pointer none)),p 7 (I (vL (u56 a0 a1)))] [(2,K 46 y46 a0)]) H fun H =>
   vx_seq<|vx_block <|
   qA (Z [p 1 (L i64 a1),p 6 (AV.v (Value.pointer none)),p 7 (I (vL (u56 a0 a1))),p 17 (B (vL (u56 a0 a1) != 0))] [(2,K 46 y46 a0)]) <|
   cD H (fun H=>?_) (fun H=>?_)
  ·refine qA (Z [p 4 (nil),p 5 (I (vL (u56 a0 a1)))] [(2,K 46 y46 a0)]) <|
    vx_ret<|fx_blk_ret<|fx_seq_ret<|hr H
  exact dead H
 have:HT _ _:=⟨tc o56R (HT.h)⟩
 refine qB (Z [p 1 (L i64 a1),p 6 (R 1014),p 7 (I (vR (u56 a0 a1)).2)] [(1014,Ob.box 92 [D y113.pt (vR (u56 a0 a1)).1.1,AV.os 14 0]),(14,A 4 Ty.bool (vR (u56 a0 a1)).1.2 0),(2,K 46 y46 a0)]) H fun H =>
  vx_seq<|vx_block <|
  qA (Z [p 1 (L i64 a1),p 6 (R 1014),p 7 (I (vR (u56 a0 a1)).2),p 17 (B ((vR (u56 a0 a1)).2 != 0))] [(1014,Ob.box 92 [D y113.pt (vR (u56 a0 a1)).1.1,AV.os 14 0]),(14,A 4 Ty.bool (vR (u56 a0 a1)).1.2 0),(2,K 46 y46 a0)]) <|
  cD H (fun H=>?_) (fun H=>?_)
 ·refine qA (Z [p 4 (nil),p 5 (I (vR (u56 a0 a1)).2)] [(1014,Ob.box 92 [D y113.pt (vR (u56 a0 a1)).1.1,AV.os 14 0]),(14,A 4 Ty.bool (vR (u56 a0 a1)).1.2 0),(2,K 46 y46 a0)]) <|
   vx_ret<|fx_blk_ret<|fx_seq_ret<|hr H
 refine qB (Z [p 1 (L i64 a1),p 6 (R 1014),p 21 (B (vl (u57 (vR (u56 a0 a1)).1)))] [(1014,Ob.box 92 [D y113.pt (vR (u56 a0 a1)).1.1,AV.os 14 0]),(14,A 4 Ty.bool (vR (u56 a0 a1)).1.2 0),(2,K 46 y46 a0)]) H fun H =>
  cD H (fun H=>?_) (fun H=>?_)
 ·refine qA (Z [p 4 (nil),p 5 (I 7)] [(1014,Ob.box 92 [D y113.pt (vR (u56 a0 a1)).1.1,AV.os 14 0]),(14,A 4 Ty.bool (vR (u56 a0 a1)).1.2 0),(2,K 46 y46 a0)]) <|
   vx_ret<|fx_blk_ret<|fx_seq_ret<|hr H
 refine vx_skip<|fx_blk<|fx_seq <|
  qA (Z [p 1 (L i64 a1),p 6 (R 1014),p 8 (nil)] [(1014,Ob.box 92 [D y113.pt (vR (u56 a0 a1)).1.1,AV.os 14 0]),(14,A 4 Ty.bool (vR (u56 a0 a1)).1.2 0),(2,K 46 y46 a0)]) <|
  jN r (fun (v10:List Int)=>Z [p 8 (O 47)] [(47,A 2 i64 v10 0)]) (u23J0) (fun v10 H=>?_) (fun _ n0 e0 t0=>?_)
 ·refine qA (Z [p 4 (O 47),p 5 (I 0)] [(47,A 2 i64 v10 0)]) <|
   vx_ret<|hr H
 refine qA (Z [p 6 (R 1014),p 8 (nil),p 24 (L i64 a1),p 25 (I (↑a1.length:Int)),p 26 (I 0)] [(1014,Ob.box 92 [D y113.pt (vR (u56 a0 a1)).1.1,AV.os 14 0]),(14,A 4 Ty.bool (vR (u56 a0 a1)).1.2 0),(2,K 46 y46 a0)]) <|
  vx_block <|
  lX (fun ((v4,v5,v6):List Int×Int×List Bool)=>Z [p 6 (R 1014),p 8 (O 47),p 24 (L i64 a1),p 25 (I (↑a1.length:Int)),p 26 (I v5)] [(1014,Ob.box 92 [D y113.pt (vR (u56 a0 a1)).1.1,AV.os 14 0]),(14,A 4 Ty.bool v6 0),(47,A 2 i64 v4 0)]) (([],0,(vR (u56 a0 a1)).1.2)) H fun _ g1 b1 e1 t1 ⟨v4,v5,v6⟩ H =>
  qA (Z [p 6 (R 1014),p 8 (O 47),p 24 (L i64 a1),p 25 (I (↑a1.length:Int)),p 26 (I v5),p 27 (B (decide (v5 < (↑a1.length:Int))))] [(1014,Ob.box 92 [D y113.pt (vR (u56 a0 a1)).1.1,AV.os 14 0]),(14,A 4 Ty.bool v6 0),(47,A 2 i64 v4 0)]) <|
  vx_seq <|
  cD H (fun H=>?_) (fun H=>?_)
 ·refine vx_skip<|fx_seq <|
   jN r (fun ((v8,v9):List Bool×List Int)=>Z [p 6 (R 1014),p 8 (O 47),p 24 (L i64 a1),p 25 (I (↑a1.length:Int)),p 26 (I v5)] [(47,A 2 i64 v9 0),(14,A 4 Ty.bool v8 0),(1014,Ob.box 92 [D y113.pt (vR (u56 a0 a1)).1.1,AV.os 14 0])]) (u23J2 v5 g1) (fun ⟨v8,v9⟩ H=>?_) (fun _ n2 e2 t2=>?_)
  ·refine zB (Z [p 6 (R 1014),p 8 (O 47),p 24 (L i64 a1),p 25 (I (↑a1.length:Int)),p 26 (I (v5+1))] [(47,A 2 i64 v9 0),(14,A 4 Ty.bool v8 0),(1014,Ob.box 92 [D y113.pt (vR (u56 a0 a1)).1.1,AV.os 14 0])]) H fun H =>
    b1 H
  refine vx_block <|
   qB (Z [p 6 (R 1014),p 8 (O 47),p 10 (J (a1.getD v5.toNat 0)),p 24 (L i64 a1),p 25 (I (↑a1.length:Int)),p 26 (I v5)] [(1014,Ob.box 92 [D y113.pt (vR (u56 a0 a1)).1.1,AV.os 14 0]),(14,A 4 Ty.bool v6 0),(47,A 2 i64 v4 0)]) H fun H =>
   qB (Z [p 6 (R 1014),p 8 (O 47),p 10 (J (a1.getD v5.toNat 0)),p 24 (L i64 a1),p 25 (I (↑a1.length:Int)),p 26 (I v5)] [(14,A 4 Ty.bool (v6.set (Int.toNat (a1.getD v5.toNat 0)) true) 0),(1014,Ob.box 92 [D y113.pt (vR (u56 a0 a1)).1.1,AV.os 14 0]),(47,A 2 i64 v4 0)]) H fun H =>
   qB (Z [p 6 (R 1014),p 8 (O 47),p 10 (J (a1.getD v5.toNat 0)),p 24 (L i64 a1),p 25 (I (↑a1.length:Int)),p 26 (I v5),p 37 (B (vl (u57 ((vR (u56 a0 a1)).1.1,v6.set (Int.toNat (a1.getD v5.toNat 0)) true))))] [(14,A 4 Ty.bool (v6.set (Int.toNat (a1.getD v5.toNat 0)) true) 0),(1014,Ob.box 92 [D y113.pt (vR (u56 a0 a1)).1.1,AV.os 14 0]),(47,A 2 i64 v4 0)]) H fun H =>
   cD H (fun H=>?_) (fun H=>?_)
  ·refine qD (fun v7=>Z [p 6 (R 1014),p 8 (O 47),p 10 (J (a1.getD v5.toNat 0)),p 24 (L i64 a1),p 25 (I (↑a1.length:Int)),p 26 (I v5)] [(14,A 4 Ty.bool v7 0),(1014,Ob.box 92 [D y113.pt (vR (u56 a0 a1)).1.1,AV.os 14 0]),(47,A 2 i64 v4 0)]) H fun v7 H =>
    zB (Z [p 6 (R 1014),p 8 (AV.os 47 1),p 24 (L i64 a1),p 25 (I (↑a1.length:Int)),p 26 (I v5)] [(47,A 2 i64 (v4++[a1.getD v5.toNat 0]) 1),(46,A 2 i64 [a1.getD v5.toNat 0] 0),(14,A 4 Ty.bool v7 0),(1014,Ob.box 92 [D y113.pt (vR (u56 a0 a1)).1.1,AV.os 14 0])]) H fun H =>
    fx_blk<|n2 H
  exact vx_skip<|fx_blk<|n2 H
 exact vx_exit<|fx_seq_exit<|e1<|fx_blk_exit rfl<|n0 H
def u22J0:List Int→Option (List Int×Int)
 | v6 =>
 some ((v6,(0:Int)))
def u22L1 (a0:Y46) (g1:Int×List Int→Option (List Int×Int)):Int×List Int→Option (List Int×Int)
 | (v3,v4) =>
 if (decide (v3 < (↑v4.length:Int)))=true then
  gd ((u55 v4 v3).isSome=true∧True)<|lt (vl (u55 v4 v3)) fun v5 =>
  gd ((u54 a0 v5).isSome=true∧True) <|
  if (vl (u54 a0 v5))=true then
   gd (in64 (v3+1)∧True) <|
   g1 (v3+1,v4)
  else
   g1 (v3,v5)
 else
  u22J0 v4
def u22 (a0:Y46) (a1:List Int):Option (List Int×Int) :=
 gd ((u53 a0 a1).isSome=true∧True)<|lt (vl (u53 a0 a1)) fun v0 =>
 if (v0 != 0)=true then
  some ([],v0)
 else
  gd ((u54 a0 a1).isSome=true∧True) <|
  if (vl (u54 a0 a1))=true then
   some (([],(7:Int)))
  else
   gd ((0+a1.length≤9223372036854775807∧(0+a1.length)*8≤140737488355328)∧True) <|
   lp (u22L1 a0) (0,[]++a1)
def k22:Ct:=lct 22 [.agg y46,.dat i64.sl] (fun x=>u22 x.1 x.2.1) (fun r:List Int×Int=>AV.tup [M i64 r.1,I r.2]) (fun _=>())
theorem o22:Ok Tryz.prog k22:=by
 refine okL [.tmp 4,.tmp 5] Tryz.func22 Tryz.ntmps22 Tryz.results22 ?_
 intro y ⟨a0,a1,_⟩ r H Q hn hr
 have:HT _ _:=⟨tc o54 (tc o55 (tc o53 tn))⟩
 refine qA (Z [p 1 (L i64 a1),p 2 (R 2)] [(2,K 46 y46 a0)]) <|
  vx_seq <|
  qD (fun v0=>Z [p 1 (L i64 a1),p 2 (R 2),p 6 (I v0)] [(2,K 46 y46 a0)]) H fun v0 H =>
  qA (Z [p 1 (L i64 a1),p 2 (R 2),p 6 (I v0),p 14 (B (v0 != 0))] [(2,K 46 y46 a0)]) <|
  cD H (fun H=>?_) (fun H=>?_)
 ·refine qA (Z [p 4 (O 15),p 5 (I v0)] [(15,A 2 i64 [] 0),(2,K 46 y46 a0)]) <|
   vx_ret<|fx_seq_ret<|hr H
 refine vx_skip<|fx_seq<|vx_seq <|
  qB (Z [p 1 (L i64 a1),p 2 (R 2),p 19 (B (vl (u54 a0 a1)))] [(2,K 46 y46 a0)]) H fun H =>
  cD H (fun H=>?_) (fun H=>?_)
 ·refine qA (Z [p 4 (O 20),p 5 (I 7)] [(20,A 2 i64 [] 0),(2,K 46 y46 a0)]) <|
   vx_ret<|fx_seq_ret<|hr H
 refine vx_skip<|fx_seq <|
  qB (Z [p 2 (R 2),p 7 (AV.os 21 1)] [(21,A 2 i64 ([]++a1) 1),(2,K 46 y46 a0)]) H fun H =>
  jN r (fun (v6:List Int)=>Z [p 7 (M i64 v6)] []) (u22J0) (fun v6 H=>?_) (fun _ n0 e0 t0=>?_)
 ·refine qA (Z [p 4 (M i64 v6),p 5 (I 0)] []) <|
   vx_ret<|hr H
 refine qA (Z [p 2 (R 2),p 7 (AV.os 21 1),p 8 (I 0)] [(21,A 2 i64 ([]++a1) 1),(2,K 46 y46 a0)]) <|
  vx_block <|
  fZ 21 (Z [p 2 (R 2),p 7 (M i64 ([]++a1)),p 8 (I 0)] [(2,K 46 y46 a0)]) <|
  lX (fun ((v3,v4):Int×List Int)=>Z [p 2 (R 2),p 7 (M i64 v4),p 8 (I v3)] [(2,K 46 y46 a0)]) (0,[]++a1) H fun _ g1 b1 e1 t1 ⟨v3,v4⟩ H =>
  vx_seq <|
  qA (Z [p 2 (R 2),p 7 (M i64 v4),p 8 (I v3),p 27 (B (decide (v3 < (↑v4.length:Int))))] [(2,K 46 y46 a0)]) <|
  cD H (fun H=>?_) (fun H=>?_)
 ·refine vx_skip<|fx_seq<|vx_block <|
   qD (fun v5=>Z [p 2 (R 2),p 7 (M i64 v4),p 8 (I v3),p 9 (O 30)] [(30,A 2 i64 v5 0),(2,K 46 y46 a0)]) H fun v5 H =>
   qB (Z [p 2 (R 2),p 7 (M i64 v4),p 8 (I v3),p 9 (O 30),p 33 (B (vl (u54 a0 v5)))] [(30,A 2 i64 v5 0),(2,K 46 y46 a0)]) H fun H =>
   cD H (fun H=>?_) (fun H=>?_)
  ·refine zB (Z [p 2 (R 2),p 7 (M i64 v4),p 8 (I (v3+1))] [(30,A 2 i64 v5 0),(2,K 46 y46 a0)]) H fun H =>
    fx_blk<|b1 H
  refine zA (Z [p 2 (R 2),p 7 (O 30),p 8 (I v3)] [(30,A 2 i64 v5 0),(2,K 46 y46 a0)]) <|
   fx_blk<|fzF 30 (Z [p 2 (R 2),p 7 (M i64 v5),p 8 (I v3)] [(2,K 46 y46 a0)]) (by kernel_rfl) rfl<|b1 H
 exact vx_exit<|fx_seq_exit<|e1<|fx_blk_exit rfl<|n0 H
end Go.Proofs.YthobjlocnkienaaGreatDoor
