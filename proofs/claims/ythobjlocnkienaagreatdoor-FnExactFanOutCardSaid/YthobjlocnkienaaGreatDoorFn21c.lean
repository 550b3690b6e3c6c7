/- Functions of this program as plain functions of data, and that they are so: printed by program. -/
import Derived.Test.YthobjlocnkienaaGreatDoorFn21b
namespace Go.Proofs.YthobjlocnkienaaGreatDoor
open Go Go.Proofs Go.Proofs.Sv Go.Proofs.Xv Go.Proofs.Xl Go.RowKit
def u253c232J0:Unit→Option (Int)
 | _ =>
 some (-1)
def u253c232L1 (a0:List Y153) (a1:Y153) (g1:Int→Option (Int)):Int→Option (Int)
 | v0 =>
 if (decide (v0 < (↑a0.length:Int)))=true then
  gd (ix v0 a0.length∧(u232 (a0.getD v0.toNat (dflt y153)) a1).isSome=true∧True) <|
  if (vl (u232 (a0.getD v0.toNat (dflt y153)) a1))=true then
   some v0
  else
   gd (in64 (v0+1)∧True) <|
   g1 (v0+1)
 else
  u253c232J0 ()
def u253c232 (a0:List Y153) (a1:Y153):Option (Int) :=
 lp (u253c232L1 a0 a1) 0
def k253c232:Ct:=lct 253 [.dat y153.sl,.fn 232 y153.pt] (fun x=>u253c232 x.1 x.2.1) (fun r:Int=>I r) (fun _=>())
theorem o253c232:Ok Tryz.prog k253c232:=by
 refine okL [.tmp 4] Tryz.func253 Tryz.ntmps253 Tryz.results253 ?_
 intro y ⟨a0,a1,_⟩ r H Q hn hr
 have:HT _ _:=⟨tc o232 tn⟩
 refine qA (Z [p 0 (L y153 a0),p 1 (AV.fn 232 [D y153.pt a1])] []) <|
  jN r (fun (_:Unit)=>Z [] []) (u253c232J0) (fun _ H=>?_) (fun _ n0 e0 t0=>?_)
 ·refine qA (Z [p 4 (I (-1))] []) <|
   vx_ret<|hr H
 refine qA (Z [p 0 (L y153 a0),p 1 (AV.fn 232 [D y153.pt a1]),p 7 (I (↑a0.length:Int)),p 8 (I 0)] []) <|
  vx_block <|
  lX (fun (v0:Int)=>Z [p 0 (L y153 a0),p 1 (AV.fn 232 [D y153.pt a1]),p 7 (I (↑a0.length:Int)),p 8 (I v0)] []) 0 H fun _ g1 b1 e1 t1 v0 H =>
  qA (Z [p 0 (L y153 a0),p 1 (AV.fn 232 [D y153.pt a1]),p 7 (I (↑a0.length:Int)),p 8 (I v0),p 9 (B (decide (v0 < (↑a0.length:Int))))] []) <|
  vx_seq <|
  cD H (fun H=>?_) (fun H=>?_)
 ·refine vx_skip<|fx_seq<|vx_seq<|vx_block <|
   qA (Z [p 0 (L y153 a0),p 1 (AV.fn 232 [D y153.pt a1]),p 5 (I v0),p 7 (I (↑a0.length:Int)),p 8 (I v0)] []) <|
   qB (Z [p 0 (L y153 a0),p 1 (AV.fn 232 [D y153.pt a1]),p 5 (I v0),p 7 (I (↑a0.length:Int)),p 8 (I v0),p 16 (B (vl (u232 (a0.getD v0.toNat (dflt y153)) a1)))] []) H fun H =>
   cD H (fun H=>?_) (fun H=>?_)
  ·refine qA (Z [p 4 (I v0)] []) <|
    vx_ret<|fx_blk_ret<|fx_seq_ret<|t1<|fx_blk_ret<|t0<|hr H
  refine vx_skip<|fx_blk<|fx_seq <|
   zB (Z [p 0 (L y153 a0),p 1 (AV.fn 232 [D y153.pt a1]),p 7 (I (↑a0.length:Int)),p 8 (I (v0+1))] []) H fun H =>
   b1 H
 exact vx_exit<|fx_seq_exit<|e1<|fx_blk_exit rfl<|n0 H
def u231c232 (a0:List Y153) (a1:Y153):Option (Bool) :=
 gd ((u253c232 a0 a1).isSome=true∧True)<|lt (vl (u253c232 a0 a1)) fun v0 =>
 some (decide (0≤v0))
def k231c232:Ct:=lct 231 [.dat y153.sl,.fn 232 (.pt y153)] (fun x=>u231c232 x.1 x.2.1) (fun r:Bool=>B r) (fun _=>())
theorem o231c232:Ok Tryz.prog k231c232:=by
 refine okL [.tmp 4] Tryz.func231 Tryz.ntmps231 Tryz.results231 ?_
 intro y ⟨a0,a1,_⟩ r H Q hn hr
 have:HT _ _:=⟨tc o253c254 (tc o253c232 (tc o232 tn))⟩
 refine qA (Z [p 0 (L y153 a0),p 1 (AV.fn 232 [D y153.pt a1])] []) <|
  qD (fun v0=>Z [p 4 (B (decide (0≤v0)))] []) H fun v0 H =>
  vx_ret<|hr H
def u214J0 (a0:Y148):Unit→Option (Bool)
 | _ =>
 some (decide ((↑a0.2.2.2.1.length:Int)≤8))
def u214L1 (a0:Y148) (g1:Int→Option (Bool)):Int→Option (Bool)
 | v1 =>
 if (decide (v1 < (↑a0.2.2.2.1.length:Int)))=true then
  gd (ix v1 a0.2.2.2.1.length∧True)<|lt (a0.2.2.2.1.getD v1.toNat (dflt y153)) fun v2 =>
  gd ((u230 a0 v2).isSome=true∧((!vl (u230 a0 v2))=false∧True→(0:Int)≤(0:Int)∧(0:Int)≤v1∧v1≤(↑a0.2.2.2.1.length:Int))∧((!vl (u230 a0 v2))=false∧True→(u231c232 (List.take v1.toNat a0.2.2.2.1) v2).isSome=true)∧True) <|
  if (!vl (u230 a0 v2)||vl (u231c232 (List.take v1.toNat a0.2.2.2.1) v2))=true then
   some false
  else
   gd (in64 (v1+1)∧True) <|
   g1 (v1+1)
 else
  u214J0 a0 ()
def u214 (a0:Y148):Option (Bool) :=
 lp (u214L1 a0) 0
def k214:Ct:=lct 214 [.agg y148] (fun x=>u214 x.1) (fun r:Bool=>B r) (fun _=>())
theorem o214:Ok Tryz.prog k214:=by
 refine okL [.tmp 2] Tryz.func214 Tryz.ntmps214 Tryz.results214 ?_
 intro y ⟨a0,_⟩ r H Q hn hr
 have:HT _ _:=⟨tc o231c254 (tc o231c232 (tc o232 (tc o230 tn)))⟩
 refine qA (Z [p 1 (R 1)] [(1,K 148 y148 a0)]) <|
  jN r (fun (_:Unit)=>Z [p 1 (R 1)] [(1,K 148 y148 a0)]) (u214J0 a0) (fun _ H=>?_) (fun _ n0 e0 t0=>?_)
 ·refine qA (Z [p 2 (B (decide ((↑a0.2.2.2.1.length:Int)≤8)))] [(1,K 148 y148 a0)]) <|
   vx_ret<|hr H
 refine qA (Z [p 1 (R 1),p 6 (L y153 a0.2.2.2.1),p 7 (I (↑a0.2.2.2.1.length:Int)),p 8 (I 0)] [(1,K 148 y148 a0)]) <|
  vx_block <|
  lX (fun (v1:Int)=>Z [p 1 (R 1),p 6 (L y153 a0.2.2.2.1),p 7 (I (↑a0.2.2.2.1.length:Int)),p 8 (I v1)] [(1,K 148 y148 a0)]) 0 H fun _ g1 b1 e1 t1 v1 H =>
  qA (Z [p 1 (R 1),p 6 (L y153 a0.2.2.2.1),p 7 (I (↑a0.2.2.2.1.length:Int)),p 8 (I v1),p 9 (B (decide (v1 < (↑a0.2.2.2.1.length:Int))))] [(1,K 148 y148 a0)]) <|
  vx_seq <|
  cD H (fun H=>?_) (fun H=>?_)
 ·refine vx_skip<|fx_seq<|vx_seq<|vx_block <|
   qD (fun v2=>Z [p 1 (R 1),p 3 (I v1),p 4 (R 4),p 6 (L y153 a0.2.2.2.1),p 7 (I (↑a0.2.2.2.1.length:Int)),p 8 (I v1)] [(4,K 153 y153 v2),(1,K 148 y148 a0)]) H fun v2 H =>
   qB (Z [p 1 (R 1),p 6 (L y153 a0.2.2.2.1),p 7 (I (↑a0.2.2.2.1.length:Int)),p 8 (I v1),p 24 (B (!vl (u230 a0 v2)||vl (u231c232 (List.take v1.toNat a0.2.2.2.1) v2)))] [(4,K 153 y153 v2),(1,K 148 y148 a0)]) H fun H =>
   cD H (fun H=>?_) (fun H=>?_)
  ·refine qA (Z [p 2 (B false)] [(4,K 153 y153 v2),(1,K 148 y148 a0)]) <|
    vx_ret<|fx_blk_ret<|fx_seq_ret<|t1<|fx_blk_ret<|t0<|hr H
  refine vx_skip<|fx_blk<|fx_seq <|
   zB (Z [p 1 (R 1),p 6 (L y153 a0.2.2.2.1),p 7 (I (↑a0.2.2.2.1.length:Int)),p 8 (I (v1+1))] [(4,K 153 y153 v2),(1,K 148 y148 a0)]) H fun H =>
   b1 H
 exact vx_exit<|fx_seq_exit<|e1<|fx_blk_exit rfl<|n0 H
def u213J0 (a0:List Y222):List ByteArray→Option (Bool)
 | v6 =>
 gd ((u229 a0).isSome=true∧(u138 (vl (u229 a0)) 2 5).isSome=true∧(vl (u138 (vl (u229 a0)) 2 5)=true∧True→(u186 v6).isSome=true)∧True) <|
 some (vl (u138 (vl (u229 a0)) 2 5)&&vl (u186 v6))
def u213J2 (v3:Int) (g1:List ByteArray×Int→Option (Bool)):List ByteArray→Option (Bool)
 | v5 =>
 gd (in64 (v3+1)∧True) <|
 g1 (v5,v3+1)
def u213L1 (a0:List Y222) (g1:List ByteArray×Int→Option (Bool)):List ByteArray×Int→Option (Bool)
 | (v2,v3) =>
 if (decide (v3 < (↑a0.length:Int)))=true then
  gd (ix v3 a0.length∧True)<|lt (a0.getD v3.toNat (dflt y222)) fun v4 =>
  gd ((v2.length+[v4.1].length≤9223372036854775807∧(v2.length+[v4.1].length)*16≤140737488355328)∧True) <|
  gd (in64 ((↑a0.length:Int) - 1)∧True) <|
  if (v3==(↑a0.length:Int) - 1)=true then
   if (v4.2.1 != 2||v4.2.2.1 != 0||v4.2.2.2)=true then
    some false
   else
    u213J2 v3 g1 (v2++[v4.1])
  else
   gd (((v4.2.1 != 1)=false∧True→(u138 v4.2.2.1 0 500).isSome=true)∧True) <|
   if (v4.2.1 != 1||!vl (u138 v4.2.2.1 0 500))=true then
    some false
   else
    u213J2 v3 g1 (v2++[v4.1])
 else
  u213J0 a0 v2
def u213 (a0:List Y222):Option (Bool) :=
 lp (u213L1 a0) ([],0)
def k213:Ct:=lct 213 [.dat y222.sl] (fun x=>u213 x.1) (fun r:Bool=>B r) (fun _=>())
theorem o213:Ok Tryz.prog k213:=by
 refine okL [.tmp 2] Tryz.func213 Tryz.ntmps213 Tryz.results213 ?_
 intro y ⟨a0,_⟩ r H Q hn hr
 have:HT _ _:=⟨tc o186 (tc o138 (tc o229 tn))⟩
 refine qA (Z [p 0 (L y222 a0)] []) <|
  qA (Z [p 0 (L y222 a0),p 3 (nil)] []) <|
  jN r (fun (v6:List ByteArray)=>Z [p 0 (L y222 a0),p 3 (O 17)] [(17,A 9 Ty.str v6 0)]) (u213J0 a0) (fun v6 H=>?_) (fun _ n0 e0 t0=>?_)
 ·refine qB (Z [p 2 (B (vl (u138 (vl (u229 a0)) 2 5)&&vl (u186 v6)))] [(17,A 9 Ty.str v6 0)]) H fun H =>
   vx_ret<|hr H
 refine qA (Z [p 0 (L y222 a0),p 3 (nil),p 6 (L y222 a0),p 7 (I (↑a0.length:Int)),p 8 (I 0)] []) <|
  vx_block <|
  lX (fun ((v2,v3):List ByteArray×Int)=>Z [p 0 (L y222 a0),p 3 (O 17),p 6 (L y222 a0),p 7 (I (↑a0.length:Int)),p 8 (I v3)] [(17,A 9 Ty.str v2 0)]) ([],0) H fun _ g1 b1 e1 t1 ⟨v2,v3⟩ H =>
  qA (Z [p 0 (L y222 a0),p 3 (O 17),p 6 (L y222 a0),p 7 (I (↑a0.length:Int)),p 8 (I v3),p 9 (B (decide (v3 < (↑a0.length:Int))))] [(17,A 9 Ty.str v2 0)]) <|
  vx_seq <|
  cD H (fun H=>?_) (fun H=>?_)
 ·refine vx_skip<|fx_seq <|
   jN r (fun (v5:List ByteArray)=>Z [p 0 (L y222 a0),p 3 (O 17),p 6 (L y222 a0),p 7 (I (↑a0.length:Int)),p 8 (I v3)] [(17,A 9 Ty.str v5 0)]) (u213J2 v3 g1) (fun v5 H=>?_) (fun _ n2 e2 t2=>?_)
  ·refine zB (Z [p 0 (L y222 a0),p 3 (O 17),p 6 (L y222 a0),p 7 (I (↑a0.length:Int)),p 8 (I (v3+1))] [(17,A 9 Ty.str v5 0)]) H fun H =>
    b1 H
  refine vx_block <|
   qD (fun v4=>Z [p 0 (L y222 a0),p 3 (O 17),p 4 (I v3),p 5 (R 5),p 6 (L y222 a0),p 7 (I (↑a0.length:Int)),p 8 (I v3)] [(5,K 222 y222 v4),(17,A 9 Ty.str v2 0)]) H fun v4 H =>
   qB (Z [p 0 (L y222 a0),p 3 (AV.os 17 1),p 4 (I v3),p 5 (R 5),p 6 (L y222 a0),p 7 (I (↑a0.length:Int)),p 8 (I v3)] [(17,A 9 Ty.str (v2++[v4.1]) 1),(16,A 9 Ty.str [v4.1] 0),(5,K 222 y222 v4)]) H fun H =>
   qB (Z [p 0 (L y222 a0),p 3 (AV.os 17 1),p 5 (R 5),p 6 (L y222 a0),p 7 (I (↑a0.length:Int)),p 8 (I v3),p 22 (B (v3==(↑a0.length:Int) - 1))] [(17,A 9 Ty.str (v2++[v4.1]) 1),(16,A 9 Ty.str [v4.1] 0),(5,K 222 y222 v4)]) H fun H =>
   cD H (fun H=>?_) (fun H=>?_)
  ·refine qA (Z [p 0 (L y222 a0),p 3 (AV.os 17 1),p 6 (L y222 a0),p 7 (I (↑a0.length:Int)),p 8 (I v3),p 34 (B (v4.2.1 != 2||v4.2.2.1 != 0||v4.2.2.2))] [(17,A 9 Ty.str (v2++[v4.1]) 1),(16,A 9 Ty.str [v4.1] 0),(5,K 222 y222 v4)]) <|
    cD H (fun H=>?_) (fun H=>?_)
   ·refine qA (Z [p 2 (B false)] [(17,A 9 Ty.str (v2++[v4.1]) 1),(16,A 9 Ty.str [v4.1] 0),(5,K 222 y222 v4)]) <|
     vx_ret<|fx_blk_ret<|t2<|t1<|fx_blk_ret<|t0<|hr H
   exact vx_skip<|fx_blk<|n2 H
  refine qB (Z [p 0 (L y222 a0),p 3 (AV.os 17 1),p 6 (L y222 a0),p 7 (I (↑a0.length:Int)),p 8 (I v3),p 43 (B (v4.2.1 != 1||!vl (u138 v4.2.2.1 0 500)))] [(17,A 9 Ty.str (v2++[v4.1]) 1),(16,A 9 Ty.str [v4.1] 0),(5,K 222 y222 v4)]) H fun H =>
   cD H (fun H=>?_) (fun H=>?_)
  ·refine qA (Z [p 2 (B false)] [(17,A 9 Ty.str (v2++[v4.1]) 1),(16,A 9 Ty.str [v4.1] 0),(5,K 222 y222 v4)]) <|
    vx_ret<|fx_blk_ret<|t2<|t1<|fx_blk_ret<|t0<|hr H
  exact vx_skip<|fx_blk<|n2 H
 exact vx_exit<|fx_seq_exit<|e1<|fx_blk_exit rfl<|n0 H
def u185 (a0:Y148):Option (Bool) :=
 gd ((u212 a0.1).isSome=true∧(vl (u212 a0.1)=true∧True→(u213 a0.2.2.1).isSome=true)∧((vl (u212 a0.1)&&vl (u213 a0.2.2.1))=true∧True→(u214 a0).isSome=true)∧((vl (u212 a0.1)&&vl (u213 a0.2.2.1)&&vl (u214 a0))=true∧True→(u138 a0.2.2.2.2.2.1 0 100000).isSome=true)∧((vl (u212 a0.1)&&vl (u213 a0.2.2.1)&&vl (u214 a0)&&vl (u138 a0.2.2.2.2.2.1 0 100000))=true∧True→(u138 a0.2.2.2.2.2.2 0 100000).isSome=true)∧((vl (u212 a0.1)&&vl (u213 a0.2.2.1)&&vl (u214 a0)&&vl (u138 a0.2.2.2.2.2.1 0 100000)&&vl (u138 a0.2.2.2.2.2.2 0 100000))=true∧True→(u215 a0).isSome=true)∧True) <|
 some (vl (u212 a0.1)&&vl (u213 a0.2.2.1)&&vl (u214 a0)&&vl (u138 a0.2.2.2.2.2.1 0 100000)&&vl (u138 a0.2.2.2.2.2.2 0 100000)&&vl (u215 a0))
def k185:Ct:=lct 185 [.agg y148] (fun x=>u185 x.1) (fun r:Bool=>B r) (fun _=>())
theorem o185:Ok Tryz.prog k185:=by
 refine okL [.tmp 2] Tryz.func185 Tryz.ntmps185 Tryz.results185 ?_
 intro y ⟨a0,_⟩ r H Q hn hr
 have:HT _ _:=⟨tc o215 (tc o138 (tc o214 (tc o213 (tc o212 tn))))⟩
 refine qA (Z [p 1 (R 1)] [(1,K 148 y148 a0)]) <|
  qB (Z [p 2 (B (vl (u212 a0.1)&&vl (u213 a0.2.2.1)&&vl (u214 a0)&&vl (u138 a0.2.2.2.2.2.1 0 100000)&&vl (u138 a0.2.2.2.2.2.2 0 100000)&&vl (u215 a0)))] [(1,K 148 y148 a0)]) H fun H =>
  vx_ret<|hr H
def u159J0 (a0:List Y148):List ByteArray→Option (Bool)
 | v4 =>
 gd ((decide ((↑a0.length:Int)≤8)=true∧True→(u186 v4).isSome=true)∧True) <|
 some (decide ((↑a0.length:Int)≤8)&&vl (u186 v4))
def u159L1 (a0:List Y148) (g1:List ByteArray×Int→Option (Bool)):List ByteArray×Int→Option (Bool)
 | (v1,v2) =>
 if (decide (v2 < (↑a0.length:Int)))=true then
  gd (ix v2 a0.length∧True)<|lt (a0.getD v2.toNat (dflt y148)) fun v3 =>
  gd ((u185 v3).isSome=true∧True) <|
  if (!vl (u185 v3))=true then
   some false
  else
   gd ((v1.length+[v3.1].length≤9223372036854775807∧(v1.length+[v3.1].length)*16≤140737488355328)∧True) <|
   gd (in64 (v2+1)∧True) <|
   g1 (v1++[v3.1],v2+1)
 else
  u159J0 a0 v1
def u159 (a0:List Y148):Option (Bool) :=
 lp (u159L1 a0) ([],0)
def k159:Ct:=lct 159 [.agg y148.sl] (fun x=>u159 x.1) (fun r:Bool=>B r) (fun _=>())
theorem o159:Ok Tryz.prog k159:=by
 refine okL [.tmp 2] Tryz.func159 Tryz.ntmps159 Tryz.results159 ?_
 intro y ⟨a0,_⟩ r H Q hn hr
 have:HT _ _:=⟨tc o186 (tc o185 tn)⟩
 refine qA (Z [p 1 (R 1)] [(1,Ob.box 39 [L y148 a0])]) <|
  qA (Z [p 1 (R 1),p 3 (nil)] [(1,Ob.box 39 [L y148 a0])]) <|
  jN r (fun (v4:List ByteArray)=>Z [p 1 (R 1),p 3 (O 20)] [(1,Ob.box 39 [L y148 a0]),(20,A 9 Ty.str v4 0)]) (u159J0 a0) (fun v4 H=>?_) (fun _ n0 e0 t0=>?_)
 ·refine qB (Z [p 2 (B (decide ((↑a0.length:Int)≤8)&&vl (u186 v4)))] [(1,Ob.box 39 [L y148 a0]),(20,A 9 Ty.str v4 0)]) H fun H =>
   vx_ret<|hr H
 refine qA (Z [p 1 (R 1),p 3 (nil),p 7 (L y148 a0),p 8 (I (↑a0.length:Int)),p 9 (I 0)] [(1,Ob.box 39 [L y148 a0])]) <|
  vx_block <|
  lX (fun ((v1,v2):List ByteArray×Int)=>Z [p 1 (R 1),p 3 (O 20),p 7 (L y148 a0),p 8 (I (↑a0.length:Int)),p 9 (I v2)] [(1,Ob.box 39 [L y148 a0]),(20,A 9 Ty.str v1 0)]) ([],0) H fun _ g1 b1 e1 t1 ⟨v1,v2⟩ H =>
  qA (Z [p 1 (R 1),p 3 (O 20),p 7 (L y148 a0),p 8 (I (↑a0.length:Int)),p 9 (I v2),p 10 (B (decide (v2 < (↑a0.length:Int))))] [(1,Ob.box 39 [L y148 a0]),(20,A 9 Ty.str v1 0)]) <|
  vx_seq <|
  cD H (fun H=>?_) (fun H=>?_)
 ·refine vx_skip<|fx_seq<|vx_seq<|vx_block <|
   qD (fun v3=>Z [p 1 (R 1),p 3 (O 20),p 5 (R 5),p 7 (L y148 a0),p 8 (I (↑a0.length:Int)),p 9 (I v2)] [(5,K 148 y148 v3),(1,Ob.box 39 [L y148 a0]),(20,A 9 Ty.str v1 0)]) H fun v3 H =>
   vx_seq <|
   qB (Z [p 1 (R 1),p 3 (O 20),p 5 (R 5),p 7 (L y148 a0),p 8 (I (↑a0.length:Int)),p 9 (I v2),p 15 (B !vl (u185 v3))] [(5,K 148 y148 v3),(1,Ob.box 39 [L y148 a0]),(20,A 9 Ty.str v1 0)]) H fun H =>
   cD H (fun H=>?_) (fun H=>?_)
  ·refine qA (Z [p 2 (B false)] [(5,K 148 y148 v3),(1,Ob.box 39 [L y148 a0]),(20,A 9 Ty.str v1 0)]) <|
    vx_ret<|fx_seq_ret<|fx_blk_ret<|fx_seq_ret<|t1<|fx_blk_ret<|t0<|hr H
  refine vx_skip<|fx_seq <|
   zB (Z [p 1 (R 1),p 3 (AV.os 20 1),p 7 (L y148 a0),p 8 (I (↑a0.length:Int)),p 9 (I v2)] [(20,A 9 Ty.str (v1++[v3.1]) 1),(19,A 9 Ty.str [v3.1] 0),(5,K 148 y148 v3),(1,Ob.box 39 [L y148 a0])]) H fun H =>
   fx_blk<|fx_seq <|
   zB (Z [p 1 (R 1),p 3 (AV.os 20 1),p 7 (L y148 a0),p 8 (I (↑a0.length:Int)),p 9 (I (v2+1))] [(20,A 9 Ty.str (v1++[v3.1]) 1),(19,A 9 Ty.str [v3.1] 0),(5,K 148 y148 v3),(1,Ob.box 39 [L y148 a0])]) H fun H =>
   b1 H
 exact vx_exit<|fx_seq_exit<|e1<|fx_blk_exit rfl<|n0 H
def u190c164J0:Unit→Option (Int)
 | _ =>
 some (-1)
def u190c164L1 (a0:List Int) (g1:Int→Option (Int)):Int→Option (Int)
 | v0 =>
 if (decide (v0 < (↑a0.length:Int)))=true then
  gd (ix v0 a0.length∧(u164 (a0.getD v0.toNat 0)).isSome=true∧True) <|
  if (vl (u164 (a0.getD v0.toNat 0)))=true then
   some v0
  else
   gd (in64 (v0+1)∧True) <|
   g1 (v0+1)
 else
  u190c164J0 ()
def u190c164 (a0:List Int):Option (Int) :=
 lp (u190c164L1 a0) 0
def k190c164:Ct:=lct 190 [.dat i64.sl,.nof 164] (fun x=>u190c164 x.1) (fun r:Int=>I r) (fun _=>())
theorem o190c164:Ok Tryz.prog k190c164:=by
 refine okL [.tmp 4] Tryz.func190 Tryz.ntmps190 Tryz.results190 ?_
 intro y ⟨a0,_,_⟩ r H Q hn hr
 have:HT _ _:=⟨tc o164 tn⟩
 refine qA (Z [p 0 (L i64 a0),p 1 (AV.fn 164 [])] []) <|
  jN r (fun (_:Unit)=>Z [] []) (u190c164J0) (fun _ H=>?_) (fun _ n0 e0 t0=>?_)
 ·refine qA (Z [p 4 (I (-1))] []) <|
   vx_ret<|hr H
 refine qA (Z [p 0 (L i64 a0),p 1 (AV.fn 164 []),p 7 (I (↑a0.length:Int)),p 8 (I 0)] []) <|
  vx_block <|
  lX (fun (v0:Int)=>Z [p 0 (L i64 a0),p 1 (AV.fn 164 []),p 7 (I (↑a0.length:Int)),p 8 (I v0)] []) 0 H fun _ g1 b1 e1 t1 v0 H =>
  qA (Z [p 0 (L i64 a0),p 1 (AV.fn 164 []),p 7 (I (↑a0.length:Int)),p 8 (I v0),p 9 (B (decide (v0 < (↑a0.length:Int))))] []) <|
  vx_seq <|
  cD H (fun H=>?_) (fun H=>?_)
 ·refine vx_skip<|fx_seq<|vx_seq<|vx_block <|
   qA (Z [p 0 (L i64 a0),p 1 (AV.fn 164 []),p 5 (I v0),p 7 (I (↑a0.length:Int)),p 8 (I v0)] []) <|
   qB (Z [p 0 (L i64 a0),p 1 (AV.fn 164 []),p 5 (I v0),p 7 (I (↑a0.length:Int)),p 8 (I v0),p 16 (B (vl (u164 (a0.getD v0.toNat 0))))] []) H fun H =>
   cD H (fun H=>?_) (fun H=>?_)
  ·refine qA (Z [p 4 (I v0)] []) <|
    vx_ret<|fx_blk_ret<|fx_seq_ret<|t1<|fx_blk_ret<|t0<|hr H
  refine vx_skip<|fx_blk<|fx_seq <|
   zB (Z [p 0 (L i64 a0),p 1 (AV.fn 164 []),p 7 (I (↑a0.length:Int)),p 8 (I (v0+1))] []) H fun H =>
   b1 H
 exact vx_exit<|fx_seq_exit<|e1<|fx_blk_exit rfl<|n0 H
def u163c164 (a0:List Int):Option (Bool) :=
 gd ((u190c164 a0).isSome=true∧True)<|lt (vl (u190c164 a0)) fun v0 =>
 some (decide (0≤v0))
def k163c164:Ct:=lct 163 [.dat i64.sl,.nof 164] (fun x=>u163c164 x.1) (fun r:Bool=>B r) (fun _=>())
theorem o163c164:Ok Tryz.prog k163c164:=by
 refine okL [.tmp 4] Tryz.func163 Tryz.ntmps163 Tryz.results163 ?_
 intro y ⟨a0,_,_⟩ r H Q hn hr
 have:HT _ _:=⟨tc o190c164 (tc o164 tn)⟩
 refine qA (Z [p 0 (L i64 a0),p 1 (AV.fn 164 [])] []) <|
  qD (fun v0=>Z [p 4 (B (decide (0≤v0)))] []) H fun v0 H =>
  vx_ret<|hr H
def u119J2:List Int→Option (Bool)
 | v13 =>
 gd ((u163c164 v13).isSome=true∧True) <|
 some (!vl (u163c164 v13))
def u119J4 (v9:Int) (g3:Int×List Int→Option (Bool)):List Int→Option (Bool)
 | v12 =>
 gd (in64 (v9+1)∧True) <|
 g3 (v9+1,v12)
def u119L3 (a1:Y43) (g3:Int×List Int→Option (Bool)):Int×List Int→Option (Bool)
 | (v9,v10) =>
 if (decide (v9 < (↑a1.2.2.length:Int)))=true then
  gd (ix v9 a1.2.2.length∧True)<|lt (a1.2.2.getD v9.toNat (dflt y190)) fun v11 =>
  gd (((v11.2.1 != 1&&v11.2.1 != 2)=false∧True→(u162 a1 v11.2.2).isSome=true)∧True) <|
  if (v11.2.1 != 1&&v11.2.1 != 2||!vl (u162 a1 v11.2.2))=true then
   some false
  else
   if (v11.2.1==1)=true then
    gd (ix v11.2.2 v10.length∧v11.2.2.toNat < v10.length∧in64 (v10.getD v11.2.2.toNat 0+1)∧ix v11.2.2 v10.length∧v11.2.2.toNat < v10.length∧True) <|
    u119J4 v9 g3 (v10.set v11.2.2.toNat (v10.getD v11.2.2.toNat 0+1))
   else
    u119J4 v9 g3 v10
 else
  u119J2 v10
def u119J0 (a1:Y43):List Int→Option (Bool)
 | v6 =>
 lp (u119L3 a1) (0,v6)
def u119L1 (a1:Y43) (a0:List Y148) (g1:Int×List Int→Option (Bool)):Int×List Int→Option (Bool)
 | (v2,v3) =>
 if (decide (v2 < (↑a1.1.length:Int)))=true then
  gd (ix v2 a1.1.length∧True)<|lt (a1.1.getD v2.toNat (dflt y150)) fun v4 =>
  gd ((u161 a1 a0 v4).isSome=true∧True) <|
  if (!vl (u161 a1 a0 v4))=true then
   some false
  else
   gd (in64 ((↑v4.2.2.length:Int) - 1)∧ix ((↑v4.2.2.length:Int) - 1) v4.2.2.length∧ix (v4.2.2.getD ((↑v4.2.2.length:Int) - 1).toNat 0) v3.length∧Int.toNat (v4.2.2.getD ((↑v4.2.2.length:Int) - 1).toNat 0) < v3.length∧in64 (v3.getD (Int.toNat (v4.2.2.getD ((↑v4.2.2.length:Int) - 1).toNat 0)) 0+1)∧ix (v4.2.2.getD ((↑v4.2.2.length:Int) - 1).toNat 0) v3.length∧Int.toNat (v4.2.2.getD ((↑v4.2.2.length:Int) - 1).toNat 0) < v3.length∧True)<|lt (v3.set (Int.toNat (v4.2.2.getD ((↑v4.2.2.length:Int) - 1).toNat 0)) (v3.getD (Int.toNat (v4.2.2.getD ((↑v4.2.2.length:Int) - 1).toNat 0)) 0+1)) fun v5 =>
   gd (in64 (v2+1)∧True) <|
   g1 (v2+1,v5)
 else
  u119J0 a1 v3
def u119 (a0:List Y148) (a1:Y43):Option (Bool) :=
 gd ((u159 a0).isSome=true∧((!vl (u159 a0))=false∧True→(u160 a1).isSome=true)∧True) <|
 if (!vl (u159 a0)||!vl (u160 a1))=true then
  some false
 else
  gd ((0≤(↑a1.2.1.length:Int)∧(↑a1.2.1.length:Int)=(↑a1.2.1.length:Int)∧(↑a1.2.1.length:Int).toNat*8≤281474976710656∧(↑a1.2.1.length:Int)≤9223372036854775807)∧True) <|
  lp (u119L1 a1 a0) ((0,List.replicate (↑a1.2.1.length:Int).toNat 0))
def k119:Ct:=lct 119 [.agg y148.sl,.agg y43] (fun x=>u119 x.1 x.2.1) (fun r:Bool=>B r) (fun _=>())
theorem o119:Ok Tryz.prog k119:=by
 refine okL [.tmp 4] Tryz.func119 Tryz.ntmps119 Tryz.results119 ?_
 intro y ⟨a0,a1,_⟩ r H Q hn hr
 have:HT _ _:=⟨tc o164 (tc o163c164 (tc o162 (tc o161 (tc o160 (tc o159 tn)))))⟩
 refine qA (Z [p 2 (R 2),p 3 (R 3)] [(3,K 43 y43 a1),(2,Ob.box 39 [L y148 a0])]) <|
  vx_seq <|
  qB (Z [p 2 (R 2),p 3 (R 3),p 17 (B (!vl (u159 a0)||!vl (u160 a1)))] [(3,K 43 y43 a1),(2,Ob.box 39 [L y148 a0])]) H fun H =>
  cD H (fun H=>?_) (fun H=>?_)
 ·refine qA (Z [p 4 (B false)] [(3,K 43 y43 a1),(2,Ob.box 39 [L y148 a0])]) <|
   vx_ret<|fx_seq_ret<|hr H
 refine vx_skip<|fx_seq <|
  qB (Z [p 2 (R 2),p 3 (R 3),p 5 (O 21)] [(21,A 3 i64 (List.replicate (↑a1.2.1.length:Int).toNat 0) 0),(3,K 43 y43 a1),(2,Ob.box 39 [L y148 a0])]) H fun H =>
  jN r (fun (v6:List Int)=>Z [p 3 (R 3),p 5 (O 21)] [(21,A 3 i64 v6 0),(3,K 43 y43 a1)]) (u119J0 a1) (fun v6 H=>?_) (fun _ n0 e0 t0=>?_)
 ·refine jN r (fun (v13:List Int)=>Z [p 5 (O 21)] [(21,A 3 i64 v13 0)]) (u119J2) (fun v13 H=>?_) (fun _ n2 e2 t2=>?_)
  ·refine qB (Z [p 4 (B !vl (u163c164 v13))] [(21,A 3 i64 v13 0)]) H fun H =>
    vx_ret<|hr H
  refine qA (Z [p 3 (R 3),p 5 (O 21),p 49 (L y190 a1.2.2),p 50 (I (↑a1.2.2.length:Int)),p 51 (I 0)] [(21,A 3 i64 v6 0),(3,K 43 y43 a1)]) <|
   vx_block <|
   lX (fun ((v9,v10):Int×List Int)=>Z [p 3 (R 3),p 5 (O 21),p 49 (L y190 a1.2.2),p 50 (I (↑a1.2.2.length:Int)),p 51 (I v9)] [(21,A 3 i64 v10 0),(3,K 43 y43 a1)]) (0,v6) H fun _ g3 b3 e3 t3 ⟨v9,v10⟩ H =>
   qA (Z [p 3 (R 3),p 5 (O 21),p 49 (L y190 a1.2.2),p 50 (I (↑a1.2.2.length:Int)),p 51 (I v9),p 52 (B (decide (v9 < (↑a1.2.2.length:Int))))] [(21,A 3 i64 v10 0),(3,K 43 y43 a1)]) <|
   vx_seq <|
   cD H (fun H=>?_) (fun H=>?_)
  ·refine vx_skip<|fx_seq <|
    jN r (fun (v12:List Int)=>Z [p 3 (R 3),p 5 (O 21),p 49 (L y190 a1.2.2),p 50 (I (↑a1.2.2.length:Int)),p 51 (I v9)] [(21,A 3 i64 v12 0),(3,K 43 y43 a1)]) (u119J4 v9 g3) (fun v12 H=>?_) (fun _ n4 e4 t4=>?_)
   ·refine zB (Z [p 3 (R 3),p 5 (O 21),p 49 (L y190 a1.2.2),p 50 (I (↑a1.2.2.length:Int)),p 51 (I (v9+1))] [(21,A 3 i64 v12 0),(3,K 43 y43 a1)]) H fun H =>
     b3 H
   refine vx_block <|
    qD (fun v11=>Z [p 3 (R 3),p 5 (O 21),p 9 (R 9),p 49 (L y190 a1.2.2),p 50 (I (↑a1.2.2.length:Int)),p 51 (I v9)] [(9,K 190 y190 v11),(21,A 3 i64 v10 0),(3,K 43 y43 a1)]) H fun v11 H =>
    vx_seq <|
    qB (Z [p 3 (R 3),p 5 (O 21),p 9 (R 9),p 49 (L y190 a1.2.2),p 50 (I (↑a1.2.2.length:Int)),p 51 (I v9),p 69 (B (v11.2.1 != 1&&v11.2.1 != 2||!vl (u162 a1 v11.2.2)))] [(9,K 190 y190 v11),(21,A 3 i64 v10 0),(3,K 43 y43 a1)]) H fun H =>
    cD H (fun H=>?_) (fun H=>?_)
   ·refine qA (Z [p 4 (B false)] [(9,K 190 y190 v11),(21,A 3 i64 v10 0),(3,K 43 y43 a1)]) <|
     vx_ret<|fx_seq_ret<|fx_blk_ret<|t4<|t3<|fx_blk_ret<|t2<|hr H
   refine vx_skip<|fx_seq <|
    qA (Z [p 3 (R 3),p 5 (O 21),p 9 (R 9),p 49 (L y190 a1.2.2),p 50 (I (↑a1.2.2.length:Int)),p 51 (I v9),p 72 (B (v11.2.1==1))] [(9,K 190 y190 v11),(21,A 3 i64 v10 0),(3,K 43 y43 a1)]) <|
    cD H (fun H=>?_) (fun H=>?_)
   ·refine zB (Z [p 3 (R 3),p 5 (O 21),p 49 (L y190 a1.2.2),p 50 (I (↑a1.2.2.length:Int)),p 51 (I v9)] [(21,A 3 i64 (v10.set v11.2.2.toNat (v10.getD v11.2.2.toNat 0+1)) 0),(9,K 190 y190 v11),(3,K 43 y43 a1)]) H fun H =>
     fx_blk<|n4 H
   exact vx_skip<|fx_blk<|n4 H
  exact vx_exit<|fx_seq_exit<|e3<|fx_blk_exit rfl<|n2 H
 refine qA (Z [p 2 (R 2),p 3 (R 3),p 5 (O 21),p 23 (L y150 a1.1),p 24 (I (↑a1.1.length:Int)),p 25 (I 0)] [(21,A 3 i64 (List.replicate (↑a1.2.1.length:Int).toNat 0) 0),(3,K 43 y43 a1),(2,Ob.box 39 [L y148 a0])]) <|
  vx_block <|
  lX (fun ((v2,v3):Int×List Int)=>Z [p 2 (R 2),p 3 (R 3),p 5 (O 21),p 23 (L y150 a1.1),p 24 (I (↑a1.1.length:Int)),p 25 (I v2)] [(21,A 3 i64 v3 0),(3,K 43 y43 a1),(2,Ob.box 39 [L y148 a0])]) ((0,List.replicate (↑a1.2.1.length:Int).toNat 0)) H fun _ g1 b1 e1 t1 ⟨v2,v3⟩ H =>
  qA (Z [p 2 (R 2),p 3 (R 3),p 5 (O 21),p 23 (L y150 a1.1),p 24 (I (↑a1.1.length:Int)),p 25 (I v2),p 26 (B (decide (v2 < (↑a1.1.length:Int))))] [(21,A 3 i64 v3 0),(3,K 43 y43 a1),(2,Ob.box 39 [L y148 a0])]) <|
  vx_seq <|
  cD H (fun H=>?_) (fun H=>?_)
 ·refine vx_skip<|fx_seq<|vx_seq<|vx_block <|
   qD (fun v4=>Z [p 2 (R 2),p 3 (R 3),p 5 (O 21),p 7 (R 7),p 23 (L y150 a1.1),p 24 (I (↑a1.1.length:Int)),p 25 (I v2)] [(7,K 150 y150 v4),(21,A 3 i64 v3 0),(3,K 43 y43 a1),(2,Ob.box 39 [L y148 a0])]) H fun v4 H =>
   vx_seq <|
   qB (Z [p 2 (R 2),p 3 (R 3),p 5 (O 21),p 7 (R 7),p 23 (L y150 a1.1),p 24 (I (↑a1.1.length:Int)),p 25 (I v2),p 33 (B !vl (u161 a1 a0 v4))] [(7,K 150 y150 v4),(21,A 3 i64 v3 0),(3,K 43 y43 a1),(2,Ob.box 39 [L y148 a0])]) H fun H =>
   cD H (fun H=>?_) (fun H=>?_)
  ·refine qA (Z [p 4 (B false)] [(7,K 150 y150 v4),(21,A 3 i64 v3 0),(3,K 43 y43 a1),(2,Ob.box 39 [L y148 a0])]) <|
    vx_ret<|fx_seq_ret<|fx_blk_ret<|fx_seq_ret<|t1<|fx_blk_ret<|t0<|hr H
  refine vx_skip<|fx_seq <|
   zD (fun v5=>Z [p 2 (R 2),p 3 (R 3),p 5 (O 21),p 23 (L y150 a1.1),p 24 (I (↑a1.1.length:Int)),p 25 (I v2)] [(21,A 3 i64 v5 0),(7,K 150 y150 v4),(3,K 43 y43 a1),(2,Ob.box 39 [L y148 a0])]) H fun v5 H =>
   fx_blk<|fx_seq <|
   zB (Z [p 2 (R 2),p 3 (R 3),p 5 (O 21),p 23 (L y150 a1.1),p 24 (I (↑a1.1.length:Int)),p 25 (I (v2+1))] [(21,A 3 i64 v5 0),(7,K 150 y150 v4),(3,K 43 y43 a1),(2,Ob.box 39 [L y148 a0])]) H fun H =>
   b1 H
 exact vx_exit<|fx_seq_exit<|e1<|fx_blk_exit rfl<|n0 H
def u69J3:Unit→Option (Bool)
 | _ =>
 some true
def u69L4 (v9:List Int) (a0:Y46) (g4:Int→Option (Bool)):Int→Option (Bool)
 | v11 =>
 if (decide (v11 < (↑a0.2.2.length:Int)))=true then
  gd (ix v11 a0.2.2.length∧True)<|lt (a0.2.2.getD v11.toNat (dflt y126)) fun v12 =>
  gd (ix v11 v9.length∧v11.toNat < v9.length∧(u121 v12 (v9.getD v11.toNat 0)).isSome=true∧True) <|
  if (!vl (u121 v12 (v9.getD v11.toNat 0)))=true then
   some false
  else
   gd (in64 (v11+1)∧True) <|
   g4 (v11+1)
 else
  u69J3 ()
def u69J0 (a0:Y46):List Int→Option (Bool)
 | v9 =>
 lp (u69L4 v9 a0) 0
def u69J2 (v4:Int) (g1:Int×List Int→Option (Bool)):List Int→Option (Bool)
 | v8 =>
 gd (in64 (v4+1)∧True) <|
 g1 (v4+1,v8)
def u69L1 (v0:List Y171) (a0:Y46) (g1:Int×List Int→Option (Bool)):Int×List Int→Option (Bool)
 | (v4,v5) =>
 if (decide (v4 < (↑v0.length:Int)))=true then
  gd (ix v4 v0.length∧v4.toNat < v0.length∧True)<|lt (v0.getD v4.toNat (dflt y171)) fun v6 =>
  if (!v6.2.2.2)=true then
   gd (ix v6.2.2.1 v5.length∧v6.2.2.1.toNat < v5.length∧in64 (v5.getD v6.2.2.1.toNat 0+1)∧ix v6.2.2.1 v5.length∧v6.2.2.1.toNat < v5.length∧True)<|lt (v5.set v6.2.2.1.toNat (v5.getD v6.2.2.1.toNat 0+1)) fun v7 =>
   u69J2 v4 g1 v7
  else
   u69J2 v4 g1 v5
 else
  u69J0 a0 v5
def u69 (a0:Y46):Option (Bool) :=
 gd ((u119 a0.1 a0.2.1).isSome=true∧True) <|
 if (!vl (u119 a0.1 a0.2.1)||(↑a0.2.2.length:Int) != (↑a0.2.1.2.1.length:Int))=true then
  some false
 else
  gd ((0≤(↑a0.2.2.length:Int)∧(↑a0.2.2.length:Int)=(↑a0.2.2.length:Int)∧(↑a0.2.2.length:Int).toNat*8≤281474976710656∧(↑a0.2.2.length:Int)≤9223372036854775807)∧True) <|
  gd ((u120 a0.2.1).isSome=true∧True)<|lt (vl (u120 a0.2.1)) fun v0 =>
  lp (u69L1 v0 a0) ((0,List.replicate (↑a0.2.2.length:Int).toNat 0))
def k69:Ct:=lct 69 [.agg y46] (fun x=>u69 x.1) (fun r:Bool=>B r) (fun _=>())
theorem o69:Ok Tryz.prog k69:=by
 refine okL [.tmp 2] Tryz.func69 Tryz.ntmps69 Tryz.results69 ?_
 intro y ⟨a0,_⟩ r H Q hn hr
 have:HT _ _:=⟨tc o121 (tc o120 (tc o119 tn))⟩
 refine qA (Z [p 1 (R 1)] [(1,K 46 y46 a0)]) <|
  vx_seq <|
  qB (Z [p 1 (R 1),p 23 (B (!vl (u119 a0.1 a0.2.1)||(↑a0.2.2.length:Int) != (↑a0.2.1.2.1.length:Int)))] [(1,K 46 y46 a0)]) H fun H =>
  cD H (fun H=>?_) (fun H=>?_)
 ·refine qA (Z [p 2 (B false)] [(1,K 46 y46 a0)]) <|
   vx_ret<|fx_seq_ret<|hr H
 refine vx_skip<|fx_seq <|
  qB (Z [p 1 (R 1),p 3 (O 27)] [(27,A 2 i64 (List.replicate (↑a0.2.2.length:Int).toNat 0) 0),(1,K 46 y46 a0)]) H fun H =>
  jN r (fun (v9:List Int)=>Z [p 1 (R 1),p 3 (O 27)] [(27,A 2 i64 v9 0),(1,K 46 y46 a0)]) (u69J0 a0) (fun v9 H=>?_) (fun _ n0 e0 t0=>?_)
 ·refine jN r (fun (_:Unit)=>Z [] []) (u69J3) (fun _ H=>?_) (fun _ n3 e3 t3=>?_)
  ·refine qA (Z [p 2 (B true)] []) <|
    vx_ret<|hr H
  refine qA (Z [p 3 (O 27),p 48 (L y126 a0.2.2),p 49 (I (↑a0.2.2.length:Int)),p 50 (I 0)] [(27,A 2 i64 v9 0),(1,K 46 y46 a0)]) <|
   vx_block <|
   lX (fun (v11:Int)=>Z [p 3 (O 27),p 48 (L y126 a0.2.2),p 49 (I (↑a0.2.2.length:Int)),p 50 (I v11)] [(27,A 2 i64 v9 0)]) 0 H fun _ g4 b4 e4 t4 v11 H =>
   qA (Z [p 3 (O 27),p 48 (L y126 a0.2.2),p 49 (I (↑a0.2.2.length:Int)),p 50 (I v11),p 51 (B (decide (v11 < (↑a0.2.2.length:Int))))] [(27,A 2 i64 v9 0)]) <|
   vx_seq <|
   cD H (fun H=>?_) (fun H=>?_)
  ·refine vx_skip<|fx_seq<|vx_seq<|vx_block <|
    qD (fun v12=>Z [p 3 (O 27),p 6 (I v11),p 7 (R 7),p 48 (L y126 a0.2.2),p 49 (I (↑a0.2.2.length:Int)),p 50 (I v11)] [(7,K 126 y126 v12),(27,A 2 i64 v9 0)]) H fun v12 H =>
    qB (Z [p 3 (O 27),p 48 (L y126 a0.2.2),p 49 (I (↑a0.2.2.length:Int)),p 50 (I v11),p 61 (B !vl (u121 v12 (v9.getD v11.toNat 0)))] [(7,K 126 y126 v12),(27,A 2 i64 v9 0)]) H fun H =>
    cD H (fun H=>?_) (fun H=>?_)
   ·refine qA (Z [p 2 (B false)] [(7,K 126 y126 v12),(27,A 2 i64 v9 0)]) <|
     vx_ret<|fx_blk_ret<|fx_seq_ret<|t4<|fx_blk_ret<|t3<|hr H
   refine vx_skip<|fx_blk<|fx_seq <|
    zB (Z [p 3 (O 27),p 48 (L y126 a0.2.2),p 49 (I (↑a0.2.2.length:Int)),p 50 (I (v11+1))] [(7,K 126 y126 v12),(27,A 2 i64 v9 0)]) H fun H =>
    b4 H
  exact vx_exit<|fx_seq_exit<|e4<|fx_blk_exit rfl<|n3 H
 refine qD (fun v0=>Z [p 1 (R 1),p 3 (O 27),p 30 (O 30),p 31 (I (↑v0.length:Int)),p 32 (I 0)] [(30,A 171 y171 v0 0),(27,A 2 i64 (List.replicate (↑a0.2.2.length:Int).toNat 0) 0),(1,K 46 y46 a0)]) H fun v0 H =>
  vx_block <|
  lX (fun ((v4,v5):Int×List Int)=>Z [p 1 (R 1),p 3 (O 27),p 30 (O 30),p 31 (I (↑v0.length:Int)),p 32 (I v4)] [(30,A 171 y171 v0 0),(27,A 2 i64 v5 0),(1,K 46 y46 a0)]) ((0,List.replicate (↑a0.2.2.length:Int).toNat 0)) H fun _ g1 b1 e1 t1 ⟨v4,v5⟩ H =>
  qA (Z [p 1 (R 1),p 3 (O 27),p 30 (O 30),p 31 (I (↑v0.length:Int)),p 32 (I v4),p 33 (B (decide (v4 < (↑v0.length:Int))))] [(30,A 171 y171 v0 0),(27,A 2 i64 v5 0),(1,K 46 y46 a0)]) <|
  vx_seq <|
  cD H (fun H=>?_) (fun H=>?_)
 ·refine vx_skip<|fx_seq <|
   jN r (fun (v8:List Int)=>Z [p 1 (R 1),p 3 (O 27),p 30 (O 30),p 31 (I (↑v0.length:Int)),p 32 (I v4)] [(27,A 2 i64 v8 0),(30,A 171 y171 v0 0),(1,K 46 y46 a0)]) (u69J2 v4 g1) (fun v8 H=>?_) (fun _ n2 e2 t2=>?_)
  ·refine zB (Z [p 1 (R 1),p 3 (O 27),p 30 (O 30),p 31 (I (↑v0.length:Int)),p 32 (I (v4+1))] [(27,A 2 i64 v8 0),(30,A 171 y171 v0 0),(1,K 46 y46 a0)]) H fun H =>
    b1 H
  refine vx_block <|
   qD (fun v6=>Z [p 1 (R 1),p 3 (O 27),p 5 (R 5),p 30 (O 30),p 31 (I (↑v0.length:Int)),p 32 (I v4)] [(5,Ob.box 171 (cellsD true y171 v6)),(30,A 171 y171 v0 0),(27,A 2 i64 v5 0),(1,K 46 y46 a0)]) H fun v6 H =>
   qA (Z [p 1 (R 1),p 3 (O 27),p 5 (R 5),p 30 (O 30),p 31 (I (↑v0.length:Int)),p 32 (I v4),p 38 (B !v6.2.2.2)] [(5,Ob.box 171 (cellsD true y171 v6)),(30,A 171 y171 v0 0),(27,A 2 i64 v5 0),(1,K 46 y46 a0)]) <|
   cD H (fun H=>?_) (fun H=>?_)
  ·refine zD (fun v7=>Z [p 1 (R 1),p 3 (O 27),p 30 (O 30),p 31 (I (↑v0.length:Int)),p 32 (I v4)] [(27,A 2 i64 v7 0),(5,Ob.box 171 (cellsD true y171 v6)),(30,A 171 y171 v0 0),(1,K 46 y46 a0)]) H fun v7 H =>
    fx_blk<|n2 H
  exact vx_skip<|fx_blk<|n2 H
 exact vx_exit<|fx_seq_exit<|e1<|fx_blk_exit rfl<|n0 H
def u56 (a0:Y46) (a1:List Int):Option (Int ⊕ (Y113×List Bool)×Int) :=
 gd ((u69 a0).isSome=true∧True) <|
 if (!vl (u69 a0))=true then
  some (Sum.inl 1)
 else
  gd ((u70 a0).isSome=true∧True)<|lt (vl (u70 a0)) fun v0 =>
  gd ((u99 v0 a1).isSome=true∧True) <|
  if (!vl (u99 v0 a1))=true then
   some (Sum.inl 2)
  else
   gd ((u100 v0 a1).isSome=true∧True)<|lt (vl (u100 v0 a1)) fun v1 =>
   some (Sum.inr (v1,(0:Int)))
def k56:Ct:=lct 56 [.agg y46,.dat i64.sl] (fun x=>u56 x.1 x.2.1) (two (fun r:Int=>AV.tup [AV.v (Value.pointer none),I r]) (fun r:(Y113×List Bool)×Int=>AV.tup [AV.ob 92 [D y113.pt r.1.1,AV.ow 4 true Ty.bool r.1.2],I r.2])) (fun _=>())
def k56L:Ct:=lctL 56 [.agg y46,.dat i64.sl] (fun x=>u56 x.1 x.2.1) (fun r:Int=>AV.tup [AV.v (Value.pointer none),I r]) ()
def k56R:Ct:=lctR 56 [.agg y46,.dat i64.sl] (fun x=>u56 x.1 x.2.1) (fun r:(Y113×List Bool)×Int=>AV.tup [AV.ob 92 [D y113.pt r.1.1,AV.ow 4 true Ty.bool r.1.2],I r.2]) ()
theorem o56:Ok Tryz.prog k56:=by
 refine okL [.tmp 4,.tmp 5] Tryz.func56 Tryz.ntmps56 Tryz.results56 ?_
 intro y ⟨a0,a1,_⟩ r H Q hn hr
 have:HT _ _:=⟨tc o100 (tc o99 (tc o70 (tc o69 tn)))⟩
 refine qA (Z [p 1 (L i64 a1),p 2 (R 2)] [(2,K 46 y46 a0)]) <|
  vx_seq <|
  qB (Z [p 1 (L i64 a1),p 2 (R 2),p 9 (B !vl (u69 a0))] [(2,K 46 y46 a0)]) H fun H =>
  cD H (fun H=>?_) (fun H=>?_)
 ·refine qA (Z [p 4 (AV.v (Value.pointer none)),p 5 (I 1)] [(2,K 46 y46 a0)]) <|
   vx_ret<|fx_seq_ret<|hr H
 refine vx_skip<|fx_seq <|
  qD (fun v0=>Z [p 1 (L i64 a1),p 6 (D y113.pt v0)] [(2,K 46 y46 a0)]) H fun v0 H =>
  vx_seq <|
  qB (Z [p 1 (L i64 a1),p 6 (D y113.pt v0),p 15 (B !vl (u99 v0 a1))] [(2,K 46 y46 a0)]) H fun H =>
  cD H (fun H=>?_) (fun H=>?_)
 ·refine qA (Z [p 4 (AV.v (Value.pointer none)),p 5 (I 2)] [(2,K 46 y46 a0)]) <|
   vx_ret<|fx_seq_ret<|hr H
 refine vx_skip<|fx_seq <|
  qD (fun v1=>Z [p 4 (R 1018),p 5 (I 0)] [(1018,Ob.box 92 [D y113.pt v1.1,AV.os 18 0]),(18,A 4 Ty.bool v1.2 0),(2,K 46 y46 a0)]) H fun v1 H =>
  vx_ret<|hr H
theorem o56L:Ok Tryz.prog k56L:=ok_l o56
theorem o56R:Ok Tryz.prog k56R:=ok_r o56
def u42 (a0:Y46) (a1:List Int) (a2:Int):Option (Int ⊕ (Y113×List Bool)×Int) :=
 if (isL (u56 a0 a1))=true then
  gd (isL (u56 a0 a1)=true∧True) <|
  if (vL (u56 a0 a1)==0)=true then
   none
  else
   some (Sum.inl (vL (u56 a0 a1)))
 else
  gd (isR (u56 a0 a1)=true∧True) <|
  gd ((((vR (u56 a0 a1)).2==0)=true∧True→(u85 (vR (u56 a0 a1)).1.1 a2).isSome=true)∧True) <|
  if ((vR (u56 a0 a1)).2==0&&!vl (u85 (vR (u56 a0 a1)).1.1 a2))=true then
   some (Sum.inl 4)
  else
   some (Sum.inr (vR (u56 a0 a1)))
def k42:Ct:=lct 42 [.agg y46,.dat i64.sl,.dat i64] (fun x=>u42 x.1 x.2.1 x.2.2.1) (two (fun r:Int=>AV.tup [AV.v (Value.pointer none),I r]) (fun r:(Y113×List Bool)×Int=>AV.tup [AV.ob 92 [D y113.pt r.1.1,AV.ow 4 true Ty.bool r.1.2],I r.2])) (fun _=>())
def k42L:Ct:=lctL 42 [.agg y46,.dat i64.sl,.dat i64] (fun x=>u42 x.1 x.2.1 x.2.2.1) (fun r:Int=>AV.tup [AV.v (Value.pointer none),I r]) ()
def k42R:Ct:=lctR 42 [.agg y46,.dat i64.sl,.dat i64] (fun x=>u42 x.1 x.2.1 x.2.2.1) (fun r:(Y113×List Bool)×Int=>AV.tup [AV.ob 92 [D y113.pt r.1.1,AV.ow 4 true Ty.bool r.1.2],I r.2]) ()
theorem o42:Ok Tryz.prog k42:=by
 refine okL [.tmp 6,.tmp 7] Tryz.func42 Tryz.ntmps42 Tryz.results42 ?_
 intro y ⟨a0,a1,a2,_⟩ r H Q hn hr
 have:HT _ _:=⟨tc o85 tn⟩
 refine qA (Z [p 1 (L i64 a1),p 2 (J a2),p 3 (R 3)] [(3,K 46 y46 a0)]) <|
  sp H (fun H=>?_) (fun H=>?_)
 ·have:HT _ _:=⟨tc o56L (HT.h)⟩
  refine qB (Z [p 2 (J a2),p 8 (AV.v (Value.pointer none)),p 9 (I (vL (u56 a0 a1)))] [(3,K 46 y46 a0)]) H fun H=>?_
  by_cases hz:(vL (u56 a0 a1)==0)=true
  ·rw [if_pos hz] at H
   exact vx_seq<|dead H
  rw [if_neg hz] at H
  have hz:(vL (u56 a0 a1)==0)=false:=by simpa using hz
  refine vx_seq (vx_seq (sv_nil (tp:=8) (tc:=9) (tb:=26) (z:=vL (u56 a0 a1)) rfl rfl rfl (fun w Q' k=>?_) (fx_seq ?_)))
  ·refine vs_region (vo_pure rfl rfl (vo_pure rfl rfl (vo_isF' hz (vo_pure rfl rfl ?_))))
   iterate 7 refine vo_guard_skip rfl rfl rfl rfl ?_
   refine vo_pure rfl rfl (vo_nil ?_)
   exact fin_sub (by ((repeat (refine sub_cons rfl ?_)); exact sub_nil)) k
  refine cf (by kernel_rfl) <|
   vx_skip<|fx_seq <|
   qA (Z [p 6 (AV.v (Value.pointer none)),p 7 (I (vL (u56 a0 a1)))] [(3,K 46 y46 a0)]) <|
   vx_ret<|hr H
 have:HT _ _:=⟨tc o56R (HT.h)⟩
 refine qB (Z [p 2 (J a2),p 8 (R 1013),p 9 (I (vR (u56 a0 a1)).2)] [(1013,Ob.box 92 [D y113.pt (vR (u56 a0 a1)).1.1,AV.os 13 0]),(13,A 4 Ty.bool (vR (u56 a0 a1)).1.2 0),(3,K 46 y46 a0)]) H fun H =>
  vx_seq <|
  qB (Z [p 8 (R 1013),p 9 (I (vR (u56 a0 a1)).2),p 26 (B ((vR (u56 a0 a1)).2==0&&!vl (u85 (vR (u56 a0 a1)).1.1 a2)))] [(1013,Ob.box 92 [D y113.pt (vR (u56 a0 a1)).1.1,AV.os 13 0]),(13,A 4 Ty.bool (vR (u56 a0 a1)).1.2 0),(3,K 46 y46 a0)]) H fun H =>
  cD H (fun H=>?_) (fun H=>?_)
 ·refine qA (Z [p 6 (AV.v (Value.pointer none)),p 7 (I 4)] [(1013,Ob.box 92 [D y113.pt (vR (u56 a0 a1)).1.1,AV.os 13 0]),(13,A 4 Ty.bool (vR (u56 a0 a1)).1.2 0),(3,K 46 y46 a0)]) <|
   vx_ret<|fx_seq_ret<|hr H
 refine vx_skip<|fx_seq <|
  qA (Z [p 6 (R 1013),p 7 (I (vR (u56 a0 a1)).2)] [(1013,Ob.box 92 [D y113.pt (vR (u56 a0 a1)).1.1,AV.os 13 0]),(13,A 4 Ty.bool (vR (u56 a0 a1)).1.2 0),(3,K 46 y46 a0)]) <|
  vx_ret<|hr H
theorem o42L:Ok Tryz.prog k42L:=ok_l o42
theorem o42R:Ok Tryz.prog k42R:=ok_r o42
def u44c45J3:List Bool→Option (List Bool)
 | v21 =>
 some v21
def u44c45L4 (v10:List (List Int)) (g4:List Int×List Bool→Option (List Bool)):List Int×List Bool→Option (List Bool)
 | (v17,v18) =>
 if (decide (0 < (↑v17.length:Int)))=true then
  gd (ix (0:Int) v17.length∧Int.toNat (0:Int) < v17.length∧True) <|
  gd (((0:Int)≤(1:Int)∧(1:Int)≤(↑v17.length:Int)∧(↑v17.length:Int)≤(↑v17.length:Int))∧True) <|
  gd (ix (v17.getD (Int.toNat (0:Int)) (0:Int)) v18.length∧Int.toNat (v17.getD (Int.toNat (0:Int)) (0:Int)) < v18.length∧True) <|
  if (!v18.getD (Int.toNat (v17.getD (Int.toNat (0:Int)) (0:Int))) false)=true then
   gd (ix (v17.getD (Int.toNat (0:Int)) (0:Int)) v18.length∧Int.toNat (v17.getD (Int.toNat (0:Int)) (0:Int)) < v18.length∧True)<|lt (v18.set (Int.toNat (v17.getD (Int.toNat (0:Int)) (0:Int))) true) fun v19 =>
   gd (ix (v17.getD (Int.toNat (0:Int)) (0:Int)) v10.length∧((List.drop (Int.toNat (1:Int)) v17).length+List.length (v10.getD (Int.toNat (v17.getD (Int.toNat (0:Int)) (0:Int))) [])≤9223372036854775807∧((List.drop (Int.toNat (1:Int)) v17).length+List.length (v10.getD (Int.toNat (v17.getD (Int.toNat (0:Int)) (0:Int))) []))*8≤140737488355328)∧True)<|lt (List.drop (Int.toNat (1:Int)) v17++v10.getD (Int.toNat (v17.getD (Int.toNat (0:Int)) (0:Int))) []) fun v20 =>
   g4 (v20,v19)
  else
   g4 ((List.drop (Int.toNat (1:Int)) v17,v18))
 else
  u44c45J3 v18
def u44c45J0 (a1:List Int) (a0:Y92):List (List Int)→Option (List Bool)
 | v10 =>
 gd ((u86 a0.1).isSome=true∧(0≤vl (u86 a0.1)∧vl (u86 a0.1)=vl (u86 a0.1)∧(vl (u86 a0.1)).toNat*1≤281474976710656∧vl (u86 a0.1)≤9223372036854775807)∧True)<|lt (vl (u86 a0.1)) fun v11 =>
 gd ((u87 a1).isSome=true∧True)<|lt (vl (u87 a1)) fun v12 =>
 lp (u44c45L4 v10) (v12,List.replicate v11.toNat false)
def u44c45J2 (v5:Int) (g1:Int×List (List Int)→Option (List Bool)):List (List Int)→Option (List Bool)
 | v9 =>
 gd (in64 (v5+1)∧True) <|
 g1 (v5+1,v9)
def u44c45L1 (a0:Y92) (a1:List Int) (g1:Int×List (List Int)→Option (List Bool)):Int×List (List Int)→Option (List Bool)
 | (v5,v6) =>
 if (decide (v5 < (↑a0.1.2.2.1.length:Int)))=true then
  gd (ix v5 a0.1.2.2.1.length∧True)<|lt (a0.1.2.2.1.getD v5.toNat (dflt y107)) fun v7 =>
  gd ((u45 v7).isSome=true∧True)<|lt (vl (u45 v7)) fun v8 =>
  gd (ix v5 a0.2.length∧True) <|
  if (a0.2.getD v5.toNat false)=true then
   gd (ix v8.1 v6.length∧v8.1.toNat < v6.length∧((v6.getD v8.1.toNat []).length+[v8.2].length≤9223372036854775807∧((v6.getD v8.1.toNat []).length+[v8.2].length)*8≤140737488355328)∧ix v8.1 v6.length∧(v8.1.toNat < v6.length∧v8.1.toNat=v8.1.toNat)∧True) <|
   u44c45J2 v5 g1 (v6.set v8.1.toNat (v6.getD v8.1.toNat []++[v8.2]))
  else
   u44c45J2 v5 g1 v6
 else
  u44c45J0 a1 a0 v6
def u44c45 (a0:Y92) (a1:List Int):Option (List Bool) :=
 gd ((u86 a0.1).isSome=true∧(0≤vl (u86 a0.1)∧vl (u86 a0.1)=vl (u86 a0.1)∧(vl (u86 a0.1)).toNat*24≤281474976710656∧vl (u86 a0.1)≤9223372036854775807)∧True)<|lt (vl (u86 a0.1)) fun v0 =>
 lp (u44c45L1 a0 a1) (0,List.replicate v0.toNat [])
def k44c45:Ct:=lct 44 [.dat y92.pt,.dat i64.sl,.nof 45] (fun x=>u44c45 x.1 x.2.1) (fun r:List Bool=>AV.ow 4 true Ty.bool r) (fun _=>())
theorem o44c45:Ok Tryz.prog k44c45:=by
 refine okL [.tmp 6] Tryz.func44 Tryz.ntmps44 Tryz.results44 ?_
 intro y ⟨a0,a1,_,_⟩ r H Q hn hr
 have:HT _ _:=⟨tc o87 (tc o86 (tc o45 tn))⟩
 refine qA (Z [p 0 (D y92.pt a0),p 1 (L i64 a1),p 2 (AV.fn 45 [])] []) <|
  qD (fun v0=>Z [p 0 (D y92.pt a0),p 1 (L i64 a1),p 2 (AV.fn 45 []),p 7 (AV.og 20)] [(20,Ob.grd 33 2 true i64 (List.replicate v0.toNat []) none)]) H fun v0 H =>
  jN r (fun (v10:List (List Int))=>Z [p 0 (D y92.pt a0),p 1 (L i64 a1),p 7 (AV.og 20)] [(20,Ob.grd 33 2 true i64 v10 none)]) (u44c45J0 a1 a0) (fun v10 H=>?_) (fun _ n0 e0 t0=>?_)
 ·refine qD (fun v11=>Z [p 1 (L i64 a1),p 7 (AV.og 20),p 12 (O 63)] [(63,A 4 Ty.bool (List.replicate v11.toNat false) 0),(20,Ob.grd 33 2 true i64 v10 none)]) H fun v11 H =>
   qD (fun v12=>Z [p 7 (AV.og 20),p 12 (O 63),p 13 (O 65)] [(65,A 2 i64 v12 0),(63,A 4 Ty.bool (List.replicate v11.toNat false) 0),(20,Ob.grd 33 2 true i64 v10 none)]) H fun v12 H =>
   jN r (fun (v21:List Bool)=>Z [p 12 (O 63)] [(63,A 4 Ty.bool v21 0)]) (u44c45J3) (fun v21 H=>?_) (fun _ n3 e3 t3=>?_)
  ·refine qA (Z [p 6 (O 63)] [(63,A 4 Ty.bool v21 0)]) <|
    vx_ret<|hr H
  refine vx_block <|
   fZ 20 (Z [p 7 (M i64.sl v10),p 12 (O 63),p 13 (O 65)] [(65,A 2 i64 v12 0),(63,A 4 Ty.bool (List.replicate v11.toNat false) 0)]) <|
   lX (fun ((v17,v18):List Int×List Bool)=>Z [p 7 (M i64.sl v10),p 12 (O 63),p 13 (O 65)] [(65,A 2 i64 v17 0),(63,A 4 Ty.bool v18 0)]) (v12,List.replicate v11.toNat false) H fun _ g4 b4 e4 t4 ⟨v17,v18⟩ H =>
   vx_seq <|
   qA (Z [p 7 (M i64.sl v10),p 12 (O 63),p 13 (O 65),p 68 (B (decide (0 < (↑v17.length:Int))))] [(65,A 2 i64 v17 0),(63,A 4 Ty.bool v18 0)]) <|
   cD H (fun H=>?_) (fun H=>?_)
  ·refine vx_skip<|fx_seq<|vx_block <|
    qB (Z [p 7 (M i64.sl v10),p 12 (O 63),p 13 (O 65),p 14 (I (v17.getD (Int.toNat (0:Int)) (0:Int)))] [(65,A 2 i64 v17 0),(63,A 4 Ty.bool v18 0)]) H fun H =>
    qB (Z [p 7 (M i64.sl v10),p 12 (O 63),p 13 (AV.os 65 1),p 14 (I (v17.getD (Int.toNat (0:Int)) (0:Int)))] [(65,A 2 i64 (List.drop (Int.toNat (1:Int)) v17) 1),(63,A 4 Ty.bool v18 0)]) H fun H =>
    qB (Z [p 7 (M i64.sl v10),p 12 (O 63),p 13 (AV.os 65 1),p 14 (I (v17.getD (Int.toNat (0:Int)) (0:Int))),p 78 (B !v18.getD (Int.toNat (v17.getD (Int.toNat (0:Int)) (0:Int))) false)] [(65,A 2 i64 (List.drop (Int.toNat (1:Int)) v17) 1),(63,A 4 Ty.bool v18 0)]) H fun H =>
    cD H (fun H=>?_) (fun H=>?_)
   ·refine qD (fun v19=>Z [p 7 (M i64.sl v10),p 12 (O 63),p 13 (AV.os 65 1),p 14 (I (v17.getD (Int.toNat (0:Int)) (0:Int)))] [(63,A 4 Ty.bool v19 0),(65,A 2 i64 (List.drop (Int.toNat (1:Int)) v17) 1)]) H fun v19 H =>
     zD (fun v20=>Z [p 7 (M i64.sl v10),p 12 (O 63),p 13 (AV.os 65 2)] [(65,A 2 i64 v20 2),(63,A 4 Ty.bool v19 0)]) H fun v20 H =>
     fx_blk<|b4 H
   exact vx_skip<|fx_blk<|b4 H
  exact vx_exit<|fx_seq_exit<|e4<|fx_blk_exit rfl<|n3 H
 refine qA (Z [p 0 (D y92.pt a0),p 1 (L i64 a1),p 2 (AV.fn 45 []),p 7 (AV.og 20),p 27 (L y107 a0.1.2.2.1),p 28 (I (↑a0.1.2.2.1.length:Int)),p 29 (I 0)] [(20,Ob.grd 33 2 true i64 (List.replicate v0.toNat []) none)]) <|
  vx_block <|
  lX (fun ((v5,v6):Int×List (List Int))=>Z [p 0 (D y92.pt a0),p 1 (L i64 a1),p 2 (AV.fn 45 []),p 7 (AV.og 20),p 27 (L y107 a0.1.2.2.1),p 28 (I (↑a0.1.2.2.1.length:Int)),p 29 (I v5)] [(20,Ob.grd 33 2 true i64 v6 none)]) (0,List.replicate v0.toNat []) H fun _ g1 b1 e1 t1 ⟨v5,v6⟩ H =>
  qA (Z [p 0 (D y92.pt a0),p 1 (L i64 a1),p 2 (AV.fn 45 []),p 7 (AV.og 20),p 27 (L y107 a0.1.2.2.1),p 28 (I (↑a0.1.2.2.1.length:Int)),p 29 (I v5),p 30 (B (decide (v5 < (↑a0.1.2.2.1.length:Int))))] [(20,Ob.grd 33 2 true i64 v6 none)]) <|
  vx_seq <|
  cD H (fun H=>?_) (fun H=>?_)
 ·refine vx_skip<|fx_seq <|
   jN r (fun (v9:List (List Int))=>Z [p 0 (D y92.pt a0),p 1 (L i64 a1),p 2 (AV.fn 45 []),p 7 (AV.og 20),p 27 (L y107 a0.1.2.2.1),p 28 (I (↑a0.1.2.2.1.length:Int)),p 29 (I v5)] [(20,Ob.grd 33 2 true i64 v9 none)]) (u44c45J2 v5 g1) (fun v9 H=>?_) (fun _ n2 e2 t2=>?_)
  ·refine zB (Z [p 0 (D y92.pt a0),p 1 (L i64 a1),p 2 (AV.fn 45 []),p 7 (AV.og 20),p 27 (L y107 a0.1.2.2.1),p 28 (I (↑a0.1.2.2.1.length:Int)),p 29 (I (v5+1))] [(20,Ob.grd 33 2 true i64 v9 none)]) H fun H =>
    b1 H
  refine vx_block <|
   qD (fun v7=>Z [p 0 (D y92.pt a0),p 1 (L i64 a1),p 2 (AV.fn 45 []),p 7 (AV.og 20),p 8 (I v5),p 9 (R 9),p 27 (L y107 a0.1.2.2.1),p 28 (I (↑a0.1.2.2.1.length:Int)),p 29 (I v5)] [(9,K 107 y107 v7),(20,Ob.grd 33 2 true i64 v6 none)]) H fun v7 H =>
   qD (fun v8=>Z [p 0 (D y92.pt a0),p 1 (L i64 a1),p 2 (AV.fn 45 []),p 7 (AV.og 20),p 8 (I v5),p 10 (I v8.1),p 11 (I v8.2),p 27 (L y107 a0.1.2.2.1),p 28 (I (↑a0.1.2.2.1.length:Int)),p 29 (I v5)] [(9,K 107 y107 v7),(20,Ob.grd 33 2 true i64 v6 none)]) H fun v8 H =>
   qB (Z [p 0 (D y92.pt a0),p 1 (L i64 a1),p 2 (AV.fn 45 []),p 7 (AV.og 20),p 10 (I v8.1),p 11 (I v8.2),p 27 (L y107 a0.1.2.2.1),p 28 (I (↑a0.1.2.2.1.length:Int)),p 29 (I v5),p 46 (C (a0.2.getD v5.toNat false))] [(9,K 107 y107 v7),(20,Ob.grd 33 2 true i64 v6 none)]) H fun H =>
   cD H (fun H=>?_) (fun H=>?_)
  ·refine zB (Z [p 0 (D y92.pt a0),p 1 (L i64 a1),p 2 (AV.fn 45 []),p 7 (AV.og 20),p 27 (L y107 a0.1.2.2.1),p 28 (I (↑a0.1.2.2.1.length:Int)),p 29 (I v5)] [(20,Ob.grd 33 2 true i64 (v6.set v8.1.toNat (v6.getD v8.1.toNat []++[v8.2])) none),(52,A 2 i64 [] 2),(54,A 2 i64 [v8.2] 0),(9,K 107 y107 v7)]) H fun H =>
    fx_blk<|n2 H
  exact vx_skip<|fx_blk<|n2 H
 exact vx_exit<|fx_seq_exit<|e1<|fx_blk_exit rfl<|n0 H
def u15J0:Unit→Option (Bool)
 | _ =>
 some true
def u15L1 (a0:List Int) (a1:List Int) (g1:Int→Option (Bool)):Int→Option (Bool)
 | v0 =>
 if (decide (v0 < (↑a0.length:Int)))=true then
  gd (ix v0 a0.length∧ix v0 a1.length∧True) <|
  if (a0.getD v0.toNat 0 != a1.getD v0.toNat 0)=true then
   some false
  else
   gd (in64 (v0+1)∧True) <|
   g1 (v0+1)
 else
  u15J0 ()
def u15 (a0:List Int) (a1:List Int):Option (Bool) :=
 if ((↑a0.length:Int) != (↑a1.length:Int))=true then
  some false
 else
  lp (u15L1 a0 a1) 0
def k15:Ct:=lct 15 [.dat i64.sl,.dat i64.sl] (fun x=>u15 x.1 x.2.1) (fun r:Bool=>B r) (fun _=>())
theorem o15:Ok Tryz.prog k15:=by
 refine okL [.tmp 4] Tryz.func15 Tryz.ntmps15 Tryz.results15 ?_
 intro y ⟨a0,a1,_⟩ r H Q hn hr
 have:HT _ _:=⟨@tn Tryz.prog⟩
 refine qA (Z [p 0 (L i64 a0),p 1 (L i64 a1)] []) <|
  vx_seq <|
  qA (Z [p 0 (L i64 a0),p 1 (L i64 a1),p 10 (B ((↑a0.length:Int) != (↑a1.length:Int)))] []) <|
  cD H (fun H=>?_) (fun H=>?_)
 ·refine qA (Z [p 4 (B false)] []) <|
   vx_ret<|fx_seq_ret<|hr H
 refine vx_skip<|fx_seq <|
  jN r (fun (_:Unit)=>Z [] []) (u15J0) (fun _ H=>?_) (fun _ n0 e0 t0=>?_)
 ·refine qA (Z [p 4 (B true)] []) <|
   vx_ret<|hr H
 refine qA (Z [p 0 (L i64 a0),p 1 (L i64 a1),p 5 (I 0)] []) <|
  vx_block <|
  lX (fun (v0:Int)=>Z [p 0 (L i64 a0),p 1 (L i64 a1),p 5 (I v0)] []) 0 H fun _ g1 b1 e1 t1 v0 H =>
  vx_seq <|
  qA (Z [p 0 (L i64 a0),p 1 (L i64 a1),p 5 (I v0),p 14 (B (decide (v0 < (↑a0.length:Int))))] []) <|
  cD H (fun H=>?_) (fun H=>?_)
 ·refine vx_skip<|fx_seq<|vx_seq<|vx_block <|
   qB (Z [p 0 (L i64 a0),p 1 (L i64 a1),p 5 (I v0),p 25 (B (a0.getD v0.toNat 0 != a1.getD v0.toNat 0))] []) H fun H =>
   cD H (fun H=>?_) (fun H=>?_)
  ·refine qA (Z [p 4 (B false)] []) <|
    vx_ret<|fx_blk_ret<|fx_seq_ret<|t1<|fx_blk_ret<|t0<|hr H
  refine vx_skip<|fx_blk<|fx_seq <|
   zB (Z [p 0 (L i64 a0),p 1 (L i64 a1),p 5 (I (v0+1))] []) H fun H =>
   b1 H
 exact vx_exit<|fx_seq_exit<|e1<|fx_blk_exit rfl<|n0 H
def u92 (a0:Y126) (a1:Y126):Option (Bool) :=
 gd ((u15 a0.1 a1.1).isSome=true∧True) <|
 if (!vl (u15 a0.1 a1.1))=true then
  some false
 else
  gd ((u15 a0.2.1 a1.2.1).isSome=true∧True) <|
  if (!vl (u15 a0.2.1 a1.2.1))=true then
   some false
  else
   gd ((u15 a0.2.2.1 a1.2.2.1).isSome=true∧True) <|
   if (!vl (u15 a0.2.2.1 a1.2.2.1))=true then
    some false
   else
    gd ((u15 a0.2.2.2 a1.2.2.2).isSome=true∧True) <|
    if (!vl (u15 a0.2.2.2 a1.2.2.2))=true then
     some false
    else
     some true
def k92:Ct:=lct 92 [.agg y126,.agg y126] (fun x=>u92 x.1 x.2.1) (fun r:Bool=>B r) (fun _=>())
theorem o92:Ok Tryz.prog k92:=by
 refine okL [.tmp 4] Tryz.func92 Tryz.ntmps92 Tryz.results92 ?_
 intro y ⟨a0,a1,_⟩ r H Q hn hr
 have:HT _ _:=⟨tc o15 tn⟩
 refine qA (Z [p 2 (R 2),p 3 (R 3)] [(3,K 126 y126 a1),(2,K 126 y126 a0)]) <|
  vx_seq <|
  qB (Z [p 2 (R 2),p 3 (R 3),p 10 (B !vl (u15 a0.1 a1.1))] [(3,K 126 y126 a1),(2,K 126 y126 a0)]) H fun H =>
  cD H (fun H=>?_) (fun H=>?_)
 ·refine qA (Z [p 4 (B false)] [(3,K 126 y126 a1),(2,K 126 y126 a0)]) <|
   vx_ret<|fx_seq_ret<|hr H
 refine vx_skip<|fx_seq<|vx_seq <|
  qB (Z [p 2 (R 2),p 3 (R 3),p 16 (B !vl (u15 a0.2.1 a1.2.1))] [(3,K 126 y126 a1),(2,K 126 y126 a0)]) H fun H =>
  cD H (fun H=>?_) (fun H=>?_)
 ·refine qA (Z [p 4 (B false)] [(3,K 126 y126 a1),(2,K 126 y126 a0)]) <|
   vx_ret<|fx_seq_ret<|hr H
 refine vx_skip<|fx_seq<|vx_seq <|
  qB (Z [p 2 (R 2),p 3 (R 3),p 22 (B !vl (u15 a0.2.2.1 a1.2.2.1))] [(3,K 126 y126 a1),(2,K 126 y126 a0)]) H fun H =>
  cD H (fun H=>?_) (fun H=>?_)
 ·refine qA (Z [p 4 (B false)] [(3,K 126 y126 a1),(2,K 126 y126 a0)]) <|
   vx_ret<|fx_seq_ret<|hr H
 refine vx_skip<|fx_seq<|vx_seq <|
  qB (Z [p 28 (B !vl (u15 a0.2.2.2 a1.2.2.2))] [(3,K 126 y126 a1),(2,K 126 y126 a0)]) H fun H =>
  cD H (fun H=>?_) (fun H=>?_)
 ·refine qA (Z [p 4 (B false)] [(3,K 126 y126 a1),(2,K 126 y126 a0)]) <|
   vx_ret<|fx_seq_ret<|hr H
 refine vx_skip<|fx_seq <|
  qA (Z [p 4 (B true)] [(3,K 126 y126 a1),(2,K 126 y126 a0)]) <|
  vx_ret<|hr H
def u48J0:Unit→Option (Bool)
 | _ =>
 some true
def u48L1 (a0:List Y126) (a1:List Y126) (g1:Int→Option (Bool)):Int→Option (Bool)
 | v0 =>
 if (decide (v0 < (↑a0.length:Int)))=true then
  gd (ix v0 a0.length∧ix v0 a1.length∧(u92 (a0.getD v0.toNat (dflt y126)) (a1.getD v0.toNat (dflt y126))).isSome=true∧True) <|
  if (!vl (u92 (a0.getD v0.toNat (dflt y126)) (a1.getD v0.toNat (dflt y126))))=true then
   some false
  else
   gd (in64 (v0+1)∧True) <|
   g1 (v0+1)
 else
  u48J0 ()
def u48 (a0:List Y126) (a1:List Y126):Option (Bool) :=
 if ((↑a0.length:Int) != (↑a1.length:Int))=true then
  some false
 else
  lp (u48L1 a0 a1) 0
def k48:Ct:=lct 48 [.dat y126.sl,.dat y126.sl] (fun x=>u48 x.1 x.2.1) (fun r:Bool=>B r) (fun _=>())
theorem o48:Ok Tryz.prog k48:=by
 refine okL [.tmp 4] Tryz.func48 Tryz.ntmps48 Tryz.results48 ?_
 intro y ⟨a0,a1,_⟩ r H Q hn hr
 have:HT _ _:=⟨tc o92 tn⟩
 refine qA (Z [p 0 (L y126 a0),p 1 (L y126 a1)] []) <|
  vx_seq <|
  qA (Z [p 0 (L y126 a0),p 1 (L y126 a1),p 10 (B ((↑a0.length:Int) != (↑a1.length:Int)))] []) <|
  cD H (fun H=>?_) (fun H=>?_)
 ·refine qA (Z [p 4 (B false)] []) <|
   vx_ret<|fx_seq_ret<|hr H
 refine vx_skip<|fx_seq <|
  jN r (fun (_:Unit)=>Z [] []) (u48J0) (fun _ H=>?_) (fun _ n0 e0 t0=>?_)
 ·refine qA (Z [p 4 (B true)] []) <|
   vx_ret<|hr H
 refine qA (Z [p 0 (L y126 a0),p 1 (L y126 a1),p 5 (I 0)] []) <|
  vx_block <|
  lX (fun (v0:Int)=>Z [p 0 (L y126 a0),p 1 (L y126 a1),p 5 (I v0)] []) 0 H fun _ g1 b1 e1 t1 v0 H =>
  vx_seq <|
  qA (Z [p 0 (L y126 a0),p 1 (L y126 a1),p 5 (I v0),p 14 (B (decide (v0 < (↑a0.length:Int))))] []) <|
  cD H (fun H=>?_) (fun H=>?_)
 ·refine vx_skip<|fx_seq<|vx_seq<|vx_block <|
   qB (Z [p 0 (L y126 a0),p 1 (L y126 a1),p 5 (I v0),p 26 (B !vl (u92 (a0.getD v0.toNat (dflt y126)) (a1.getD v0.toNat (dflt y126))))] []) H fun H =>
   cD H (fun H=>?_) (fun H=>?_)
  ·refine qA (Z [p 4 (B false)] []) <|
    vx_ret<|fx_blk_ret<|fx_seq_ret<|t1<|fx_blk_ret<|t0<|hr H
  refine vx_skip<|fx_blk<|fx_seq <|
   zB (Z [p 0 (L y126 a0),p 1 (L y126 a1),p 5 (I (v0+1))] []) H fun H =>
   b1 H
 exact vx_exit<|fx_seq_exit<|e1<|fx_blk_exit rfl<|n0 H
def u142 (a0:Y190) (a1:Y190):Option (Bool) :=
 if (!decide (a0.1=a1.1))=true then
  some false
 else
  if (a0.2.1 != a1.2.1)=true then
   some false
  else
   if (a0.2.2 != a1.2.2)=true then
    some false
   else
    some true
def k142:Ct:=lct 142 [.agg y190,.agg y190] (fun x=>u142 x.1 x.2.1) (fun r:Bool=>B r) (fun _=>())
theorem o142:Ok Tryz.prog k142:=by
 refine okL [.tmp 4] Tryz.func142 Tryz.ntmps142 Tryz.results142 ?_
 intro y ⟨a0,a1,_⟩ r H Q hn hr
 have:HT _ _:=⟨@tn Tryz.prog⟩
 refine qA (Z [p 2 (R 2),p 3 (R 3)] [(3,K 190 y190 a1),(2,K 190 y190 a0)]) <|
  vx_seq <|
  qA (Z [p 2 (R 2),p 3 (R 3),p 9 (B !decide (a0.1=a1.1))] [(3,K 190 y190 a1),(2,K 190 y190 a0)]) <|
  cD H (fun H=>?_) (fun H=>?_)
 ·refine qA (Z [p 4 (B false)] [(3,K 190 y190 a1),(2,K 190 y190 a0)]) <|
   vx_ret<|fx_seq_ret<|hr H
 refine vx_skip<|fx_seq<|vx_seq <|
  qA (Z [p 2 (R 2),p 3 (R 3),p 14 (B (a0.2.1 != a1.2.1))] [(3,K 190 y190 a1),(2,K 190 y190 a0)]) <|
  cD H (fun H=>?_) (fun H=>?_)
 ·refine qA (Z [p 4 (B false)] [(3,K 190 y190 a1),(2,K 190 y190 a0)]) <|
   vx_ret<|fx_seq_ret<|hr H
 refine vx_skip<|fx_seq<|vx_seq <|
  qA (Z [p 19 (B (a0.2.2 != a1.2.2))] [(3,K 190 y190 a1),(2,K 190 y190 a0)]) <|
  cD H (fun H=>?_) (fun H=>?_)
 ·refine qA (Z [p 4 (B false)] [(3,K 190 y190 a1),(2,K 190 y190 a0)]) <|
   vx_ret<|fx_seq_ret<|hr H
 refine vx_skip<|fx_seq <|
  qA (Z [p 4 (B true)] [(3,K 190 y190 a1),(2,K 190 y190 a0)]) <|
  vx_ret<|hr H
def u91J0:Unit→Option (Bool)
 | _ =>
 some true
def u91L1 (a0:List Y190) (a1:List Y190) (g1:Int→Option (Bool)):Int→Option (Bool)
 | v0 =>
 if (decide (v0 < (↑a0.length:Int)))=true then
  gd (ix v0 a0.length∧ix v0 a1.length∧(u142 (a0.getD v0.toNat (dflt y190)) (a1.getD v0.toNat (dflt y190))).isSome=true∧True) <|
  if (!vl (u142 (a0.getD v0.toNat (dflt y190)) (a1.getD v0.toNat (dflt y190))))=true then
   some false
  else
   gd (in64 (v0+1)∧True) <|
   g1 (v0+1)
 else
  u91J0 ()
def u91 (a0:List Y190) (a1:List Y190):Option (Bool) :=
 if ((↑a0.length:Int) != (↑a1.length:Int))=true then
  some false
 else
  lp (u91L1 a0 a1) 0
def k91:Ct:=lct 91 [.dat y190.sl,.dat y190.sl] (fun x=>u91 x.1 x.2.1) (fun r:Bool=>B r) (fun _=>())
theorem o91:Ok Tryz.prog k91:=by
 refine okL [.tmp 4] Tryz.func91 Tryz.ntmps91 Tryz.results91 ?_
 intro y ⟨a0,a1,_⟩ r H Q hn hr
 have:HT _ _:=⟨tc o142 tn⟩
 refine qA (Z [p 0 (L y190 a0),p 1 (L y190 a1)] []) <|
  vx_seq <|
  qA (Z [p 0 (L y190 a0),p 1 (L y190 a1),p 10 (B ((↑a0.length:Int) != (↑a1.length:Int)))] []) <|
  cD H (fun H=>?_) (fun H=>?_)
 ·refine qA (Z [p 4 (B false)] []) <|
   vx_ret<|fx_seq_ret<|hr H
 refine vx_skip<|fx_seq <|
  jN r (fun (_:Unit)=>Z [] []) (u91J0) (fun _ H=>?_) (fun _ n0 e0 t0=>?_)
 ·refine qA (Z [p 4 (B true)] []) <|
   vx_ret<|hr H
 refine qA (Z [p 0 (L y190 a0),p 1 (L y190 a1),p 5 (I 0)] []) <|
  vx_block <|
  lX (fun (v0:Int)=>Z [p 0 (L y190 a0),p 1 (L y190 a1),p 5 (I v0)] []) 0 H fun _ g1 b1 e1 t1 v0 H =>
  vx_seq <|
  qA (Z [p 0 (L y190 a0),p 1 (L y190 a1),p 5 (I v0),p 14 (B (decide (v0 < (↑a0.length:Int))))] []) <|
  cD H (fun H=>?_) (fun H=>?_)
 ·refine vx_skip<|fx_seq<|vx_seq<|vx_block <|
   qB (Z [p 0 (L y190 a0),p 1 (L y190 a1),p 5 (I v0),p 26 (B !vl (u142 (a0.getD v0.toNat (dflt y190)) (a1.getD v0.toNat (dflt y190))))] []) H fun H =>
   cD H (fun H=>?_) (fun H=>?_)
  ·refine qA (Z [p 4 (B false)] []) <|
    vx_ret<|fx_blk_ret<|fx_seq_ret<|t1<|fx_blk_ret<|t0<|hr H
  refine vx_skip<|fx_blk<|fx_seq <|
   zB (Z [p 0 (L y190 a0),p 1 (L y190 a1),p 5 (I (v0+1))] []) H fun H =>
   b1 H
 exact vx_exit<|fx_seq_exit<|e1<|fx_blk_exit rfl<|n0 H
def u90J0:Unit→Option (Bool)
 | _ =>
 some true
def u90L1 (a0:List ByteArray) (a1:List ByteArray) (g1:Int→Option (Bool)):Int→Option (Bool)
 | v0 =>
 if (decide (v0 < (↑a0.length:Int)))=true then
  gd (ix v0 a0.length∧ix v0 a1.length∧True) <|
  if (!decide (a0.getD v0.toNat (dflt Ty.str)=a1.getD v0.toNat (dflt Ty.str)))=true then
   some false
  else
   gd (in64 (v0+1)∧True) <|
   g1 (v0+1)
 else
  u90J0 ()
def u90 (a0:List ByteArray) (a1:List ByteArray):Option (Bool) :=
 if ((↑a0.length:Int) != (↑a1.length:Int))=true then
  some false
 else
  lp (u90L1 a0 a1) 0
def k90:Ct:=lct 90 [.dat Ty.str.sl,.dat Ty.str.sl] (fun x=>u90 x.1 x.2.1) (fun r:Bool=>B r) (fun _=>())
theorem o90:Ok Tryz.prog k90:=by
 refine okL [.tmp 4] Tryz.func90 Tryz.ntmps90 Tryz.results90 ?_
 intro y ⟨a0,a1,_⟩ r H Q hn hr
 have:HT _ _:=⟨@tn Tryz.prog⟩
 refine qA (Z [p 0 (L Ty.str a0),p 1 (L Ty.str a1)] []) <|
  vx_seq <|
  qA (Z [p 0 (L Ty.str a0),p 1 (L Ty.str a1),p 10 (B ((↑a0.length:Int) != (↑a1.length:Int)))] []) <|
  cD H (fun H=>?_) (fun H=>?_)
 ·refine qA (Z [p 4 (B false)] []) <|
   vx_ret<|fx_seq_ret<|hr H
 refine vx_skip<|fx_seq <|
  jN r (fun (_:Unit)=>Z [] []) (u90J0) (fun _ H=>?_) (fun _ n0 e0 t0=>?_)
 ·refine qA (Z [p 4 (B true)] []) <|
   vx_ret<|hr H
 refine qA (Z [p 0 (L Ty.str a0),p 1 (L Ty.str a1),p 5 (I 0)] []) <|
  vx_block <|
  lX (fun (v0:Int)=>Z [p 0 (L Ty.str a0),p 1 (L Ty.str a1),p 5 (I v0)] []) 0 H fun _ g1 b1 e1 t1 v0 H =>
  vx_seq <|
  qA (Z [p 0 (L Ty.str a0),p 1 (L Ty.str a1),p 5 (I v0),p 14 (B (decide (v0 < (↑a0.length:Int))))] []) <|
  cD H (fun H=>?_) (fun H=>?_)
 ·refine vx_skip<|fx_seq<|vx_seq<|vx_block <|
   qB (Z [p 0 (L Ty.str a0),p 1 (L Ty.str a1),p 5 (I v0),p 25 (B !decide (a0.getD v0.toNat (dflt Ty.str)=a1.getD v0.toNat (dflt Ty.str)))] []) H fun H =>
   cD H (fun H=>?_) (fun H=>?_)
  ·refine qA (Z [p 4 (B false)] []) <|
    vx_ret<|fx_blk_ret<|fx_seq_ret<|t1<|fx_blk_ret<|t0<|hr H
  refine vx_skip<|fx_blk<|fx_seq <|
   zB (Z [p 0 (L Ty.str a0),p 1 (L Ty.str a1),p 5 (I (v0+1))] []) H fun H =>
   b1 H
 exact vx_exit<|fx_seq_exit<|e1<|fx_blk_exit rfl<|n0 H
def u141 (a0:Y150) (a1:Y150):Option (Bool) :=
 if (!decide (a0.1=a1.1))=true then
  some false
 else
  if (a0.2.1 != a1.2.1)=true then
   some false
  else
   gd ((u15 a0.2.2 a1.2.2).isSome=true∧True) <|
   if (!vl (u15 a0.2.2 a1.2.2))=true then
    some false
   else
    some true
def k141:Ct:=lct 141 [.agg y150,.agg y150] (fun x=>u141 x.1 x.2.1) (fun r:Bool=>B r) (fun _=>())
theorem o141:Ok Tryz.prog k141:=by
 refine okL [.tmp 4] Tryz.func141 Tryz.ntmps141 Tryz.results141 ?_
 intro y ⟨a0,a1,_⟩ r H Q hn hr
 have:HT _ _:=⟨tc o15 tn⟩
 refine qA (Z [p 2 (R 2),p 3 (R 3)] [(3,K 150 y150 a1),(2,K 150 y150 a0)]) <|
  vx_seq <|
  qA (Z [p 2 (R 2),p 3 (R 3),p 9 (B !decide (a0.1=a1.1))] [(3,K 150 y150 a1),(2,K 150 y150 a0)]) <|
  cD H (fun H=>?_) (fun H=>?_)
 ·refine qA (Z [p 4 (B false)] [(3,K 150 y150 a1),(2,K 150 y150 a0)]) <|
   vx_ret<|fx_seq_ret<|hr H
 refine vx_skip<|fx_seq<|vx_seq <|
  qA (Z [p 2 (R 2),p 3 (R 3),p 14 (B (a0.2.1 != a1.2.1))] [(3,K 150 y150 a1),(2,K 150 y150 a0)]) <|
  cD H (fun H=>?_) (fun H=>?_)
 ·refine qA (Z [p 4 (B false)] [(3,K 150 y150 a1),(2,K 150 y150 a0)]) <|
   vx_ret<|fx_seq_ret<|hr H
 refine vx_skip<|fx_seq<|vx_seq <|
  qB (Z [p 20 (B !vl (u15 a0.2.2 a1.2.2))] [(3,K 150 y150 a1),(2,K 150 y150 a0)]) H fun H =>
  cD H (fun H=>?_) (fun H=>?_)
 ·refine qA (Z [p 4 (B false)] [(3,K 150 y150 a1),(2,K 150 y150 a0)]) <|
   vx_ret<|fx_seq_ret<|hr H
 refine vx_skip<|fx_seq <|
  qA (Z [p 4 (B true)] [(3,K 150 y150 a1),(2,K 150 y150 a0)]) <|
  vx_ret<|hr H
def u89J0:Unit→Option (Bool)
 | _ =>
 some true
def u89L1 (a0:List Y150) (a1:List Y150) (g1:Int→Option (Bool)):Int→Option (Bool)
 | v0 =>
 if (decide (v0 < (↑a0.length:Int)))=true then
  gd (ix v0 a0.length∧ix v0 a1.length∧(u141 (a0.getD v0.toNat (dflt y150)) (a1.getD v0.toNat (dflt y150))).isSome=true∧True) <|
  if (!vl (u141 (a0.getD v0.toNat (dflt y150)) (a1.getD v0.toNat (dflt y150))))=true then
   some false
  else
   gd (in64 (v0+1)∧True) <|
   g1 (v0+1)
 else
  u89J0 ()
def u89 (a0:List Y150) (a1:List Y150):Option (Bool) :=
 if ((↑a0.length:Int) != (↑a1.length:Int))=true then
  some false
 else
  lp (u89L1 a0 a1) 0
def k89:Ct:=lct 89 [.dat y150.sl,.dat y150.sl] (fun x=>u89 x.1 x.2.1) (fun r:Bool=>B r) (fun _=>())
theorem o89:Ok Tryz.prog k89:=by
 refine okL [.tmp 4] Tryz.func89 Tryz.ntmps89 Tryz.results89 ?_
 intro y ⟨a0,a1,_⟩ r H Q hn hr
 have:HT _ _:=⟨tc o141 tn⟩
 refine qA (Z [p 0 (L y150 a0),p 1 (L y150 a1)] []) <|
  vx_seq <|
  qA (Z [p 0 (L y150 a0),p 1 (L y150 a1),p 10 (B ((↑a0.length:Int) != (↑a1.length:Int)))] []) <|
  cD H (fun H=>?_) (fun H=>?_)
 ·refine qA (Z [p 4 (B false)] []) <|
   vx_ret<|fx_seq_ret<|hr H
 refine vx_skip<|fx_seq <|
  jN r (fun (_:Unit)=>Z [] []) (u89J0) (fun _ H=>?_) (fun _ n0 e0 t0=>?_)
 ·refine qA (Z [p 4 (B true)] []) <|
   vx_ret<|hr H
 refine qA (Z [p 0 (L y150 a0),p 1 (L y150 a1),p 5 (I 0)] []) <|
  vx_block <|
  lX (fun (v0:Int)=>Z [p 0 (L y150 a0),p 1 (L y150 a1),p 5 (I v0)] []) 0 H fun _ g1 b1 e1 t1 v0 H =>
  vx_seq <|
  qA (Z [p 0 (L y150 a0),p 1 (L y150 a1),p 5 (I v0),p 14 (B (decide (v0 < (↑a0.length:Int))))] []) <|
  cD H (fun H=>?_) (fun H=>?_)
 ·refine vx_skip<|fx_seq<|vx_seq<|vx_block <|
   qB (Z [p 0 (L y150 a0),p 1 (L y150 a1),p 5 (I v0),p 26 (B !vl (u141 (a0.getD v0.toNat (dflt y150)) (a1.getD v0.toNat (dflt y150))))] []) H fun H =>
   cD H (fun H=>?_) (fun H=>?_)
  ·refine qA (Z [p 4 (B false)] []) <|
    vx_ret<|fx_blk_ret<|fx_seq_ret<|t1<|fx_blk_ret<|t0<|hr H
  refine vx_skip<|fx_blk<|fx_seq <|
   zB (Z [p 0 (L y150 a0),p 1 (L y150 a1),p 5 (I (v0+1))] []) H fun H =>
   b1 H
 exact vx_exit<|fx_seq_exit<|e1<|fx_blk_exit rfl<|n0 H
def u47 (a0:Y43) (a1:Y43):Option (Bool) :=
 gd ((u89 a0.1 a1.1).isSome=true∧True) <|
 if (!vl (u89 a0.1 a1.1))=true then
  some false
 else
  gd ((u90 a0.2.1 a1.2.1).isSome=true∧True) <|
  if (!vl (u90 a0.2.1 a1.2.1))=true then
   some false
  else
   gd ((u91 a0.2.2 a1.2.2).isSome=true∧True) <|
   if (!vl (u91 a0.2.2 a1.2.2))=true then
    some false
   else
    some true
def k47:Ct:=lct 47 [.agg y43,.agg y43] (fun x=>u47 x.1 x.2.1) (fun r:Bool=>B r) (fun _=>())
theorem o47:Ok Tryz.prog k47:=by
 refine okL [.tmp 4] Tryz.func47 Tryz.ntmps47 Tryz.results47 ?_
 intro y ⟨a0,a1,_⟩ r H Q hn hr
 have:HT _ _:=⟨tc o91 (tc o90 (tc o89 tn))⟩
 refine qA (Z [p 2 (R 2),p 3 (R 3)] [(3,K 43 y43 a1),(2,K 43 y43 a0)]) <|
  vx_seq <|
  qB (Z [p 2 (R 2),p 3 (R 3),p 10 (B !vl (u89 a0.1 a1.1))] [(3,K 43 y43 a1),(2,K 43 y43 a0)]) H fun H =>
  cD H (fun H=>?_) (fun H=>?_)
 ·refine qA (Z [p 4 (B false)] [(3,K 43 y43 a1),(2,K 43 y43 a0)]) <|
   vx_ret<|fx_seq_ret<|hr H
 refine vx_skip<|fx_seq<|vx_seq <|
  qB (Z [p 2 (R 2),p 3 (R 3),p 16 (B !vl (u90 a0.2.1 a1.2.1))] [(3,K 43 y43 a1),(2,K 43 y43 a0)]) H fun H =>
  cD H (fun H=>?_) (fun H=>?_)
 ·refine qA (Z [p 4 (B false)] [(3,K 43 y43 a1),(2,K 43 y43 a0)]) <|
   vx_ret<|fx_seq_ret<|hr H
 refine vx_skip<|fx_seq<|vx_seq <|
  qB (Z [p 22 (B !vl (u91 a0.2.2 a1.2.2))] [(3,K 43 y43 a1),(2,K 43 y43 a0)]) H fun H =>
  cD H (fun H=>?_) (fun H=>?_)
 ·refine qA (Z [p 4 (B false)] [(3,K 43 y43 a1),(2,K 43 y43 a0)]) <|
   vx_ret<|fx_seq_ret<|hr H
 refine vx_skip<|fx_seq <|
  qA (Z [p 4 (B true)] [(3,K 43 y43 a1),(2,K 43 y43 a0)]) <|
  vx_ret<|hr H
def u239 (a0:Y261) (a1:Y261):Option (Bool) :=
 gd ((u15 a0.1 a1.1).isSome=true∧True) <|
 if (!vl (u15 a0.1 a1.1))=true then
  some false
 else
  gd ((u15 a0.2.1 a1.2.1).isSome=true∧True) <|
  if (!vl (u15 a0.2.1 a1.2.1))=true then
   some false
  else
   gd ((u15 a0.2.2 a1.2.2).isSome=true∧True) <|
   if (!vl (u15 a0.2.2 a1.2.2))=true then
    some false
   else
    some true
def k239:Ct:=lct 239 [.agg y261,.agg y261] (fun x=>u239 x.1 x.2.1) (fun r:Bool=>B r) (fun _=>())
theorem o239:Ok Tryz.prog k239:=by
 refine okL [.tmp 4] Tryz.func239 Tryz.ntmps239 Tryz.results239 ?_
 intro y ⟨a0,a1,_⟩ r H Q hn hr
 have:HT _ _:=⟨tc o15 tn⟩
 refine qA (Z [p 2 (R 2),p 3 (R 3)] [(3,K 261 y261 a1),(2,K 261 y261 a0)]) <|
  vx_seq <|
  qB (Z [p 2 (R 2),p 3 (R 3),p 10 (B !vl (u15 a0.1 a1.1))] [(3,K 261 y261 a1),(2,K 261 y261 a0)]) H fun H =>
  cD H (fun H=>?_) (fun H=>?_)
 ·refine qA (Z [p 4 (B false)] [(3,K 261 y261 a1),(2,K 261 y261 a0)]) <|
   vx_ret<|fx_seq_ret<|hr H
 refine vx_skip<|fx_seq<|vx_seq <|
  qB (Z [p 2 (R 2),p 3 (R 3),p 16 (B !vl (u15 a0.2.1 a1.2.1))] [(3,K 261 y261 a1),(2,K 261 y261 a0)]) H fun H =>
  cD H (fun H=>?_) (fun H=>?_)
 ·refine qA (Z [p 4 (B false)] [(3,K 261 y261 a1),(2,K 261 y261 a0)]) <|
   vx_ret<|fx_seq_ret<|hr H
 refine vx_skip<|fx_seq<|vx_seq <|
  qB (Z [p 22 (B !vl (u15 a0.2.2 a1.2.2))] [(3,K 261 y261 a1),(2,K 261 y261 a0)]) H fun H =>
  cD H (fun H=>?_) (fun H=>?_)
 ·refine qA (Z [p 4 (B false)] [(3,K 261 y261 a1),(2,K 261 y261 a0)]) <|
   vx_ret<|fx_seq_ret<|hr H
 refine vx_skip<|fx_seq <|
  qA (Z [p 4 (B true)] [(3,K 261 y261 a1),(2,K 261 y261 a0)]) <|
  vx_ret<|hr H
def u225J0:Unit→Option (Bool)
 | _ =>
 some true
def u225L1 (a0:List Y261) (a1:List Y261) (g1:Int→Option (Bool)):Int→Option (Bool)
 | v0 =>
 if (decide (v0 < (↑a0.length:Int)))=true then
  gd (ix v0 a0.length∧ix v0 a1.length∧(u239 (a0.getD v0.toNat (dflt y261)) (a1.getD v0.toNat (dflt y261))).isSome=true∧True) <|
  if (!vl (u239 (a0.getD v0.toNat (dflt y261)) (a1.getD v0.toNat (dflt y261))))=true then
   some false
  else
   gd (in64 (v0+1)∧True) <|
   g1 (v0+1)
 else
  u225J0 ()
def u225 (a0:List Y261) (a1:List Y261):Option (Bool) :=
 if ((↑a0.length:Int) != (↑a1.length:Int))=true then
  some false
 else
  lp (u225L1 a0 a1) 0
def k225:Ct:=lct 225 [.dat y261.sl,.dat y261.sl] (fun x=>u225 x.1 x.2.1) (fun r:Bool=>B r) (fun _=>())
theorem o225:Ok Tryz.prog k225:=by
 refine okL [.tmp 4] Tryz.func225 Tryz.ntmps225 Tryz.results225 ?_
 intro y ⟨a0,a1,_⟩ r H Q hn hr
 have:HT _ _:=⟨tc o239 tn⟩
 refine qA (Z [p 0 (L y261 a0),p 1 (L y261 a1)] []) <|
  vx_seq <|
  qA (Z [p 0 (L y261 a0),p 1 (L y261 a1),p 10 (B ((↑a0.length:Int) != (↑a1.length:Int)))] []) <|
  cD H (fun H=>?_) (fun H=>?_)
 ·refine qA (Z [p 4 (B false)] []) <|
   vx_ret<|fx_seq_ret<|hr H
 refine vx_skip<|fx_seq <|
  jN r (fun (_:Unit)=>Z [] []) (u225J0) (fun _ H=>?_) (fun _ n0 e0 t0=>?_)
 ·refine qA (Z [p 4 (B true)] []) <|
   vx_ret<|hr H
 refine qA (Z [p 0 (L y261 a0),p 1 (L y261 a1),p 5 (I 0)] []) <|
  vx_block <|
  lX (fun (v0:Int)=>Z [p 0 (L y261 a0),p 1 (L y261 a1),p 5 (I v0)] []) 0 H fun _ g1 b1 e1 t1 v0 H =>
  vx_seq <|
  qA (Z [p 0 (L y261 a0),p 1 (L y261 a1),p 5 (I v0),p 14 (B (decide (v0 < (↑a0.length:Int))))] []) <|
  cD H (fun H=>?_) (fun H=>?_)
 ·refine vx_skip<|fx_seq<|vx_seq<|vx_block <|
   qB (Z [p 0 (L y261 a0),p 1 (L y261 a1),p 5 (I v0),p 26 (B !vl (u239 (a0.getD v0.toNat (dflt y261)) (a1.getD v0.toNat (dflt y261))))] []) H fun H =>
   cD H (fun H=>?_) (fun H=>?_)
  ·refine qA (Z [p 4 (B false)] []) <|
    vx_ret<|fx_blk_ret<|fx_seq_ret<|t1<|fx_blk_ret<|t0<|hr H
  refine vx_skip<|fx_blk<|fx_seq <|
   zB (Z [p 0 (L y261 a0),p 1 (L y261 a1),p 5 (I (v0+1))] []) H fun H =>
   b1 H
 exact vx_exit<|fx_seq_exit<|e1<|fx_blk_exit rfl<|n0 H
def u207 (a0:Y153) (a1:Y153):Option (Bool) :=
 if (a0.1 != a1.1)=true then
  some false
 else
  if (a0.2.1 != a1.2.1)=true then
   some false
  else
   if (a0.2.2.1 != a1.2.2.1)=true then
    some false
   else
    if (a0.2.2.2.1 != a1.2.2.2.1)=true then
     some false
    else
     gd ((u225 a0.2.2.2.2.1 a1.2.2.2.2.1).isSome=true∧True) <|
     if (!vl (u225 a0.2.2.2.2.1 a1.2.2.2.2.1))=true then
      some false
     else
      gd ((u225 a0.2.2.2.2.2 a1.2.2.2.2.2).isSome=true∧True) <|
      if (!vl (u225 a0.2.2.2.2.2 a1.2.2.2.2.2))=true then
       some false
      else
       some true
def k207:Ct:=lct 207 [.agg y153,.agg y153] (fun x=>u207 x.1 x.2.1) (fun r:Bool=>B r) (fun _=>())
theorem o207:Ok Tryz.prog k207:=by
 refine okL [.tmp 4] Tryz.func207 Tryz.ntmps207 Tryz.results207 ?_
 intro y ⟨a0,a1,_⟩ r H Q hn hr
 have:HT _ _:=⟨tc o225 tn⟩
 refine qA (Z [p 2 (R 2),p 3 (R 3)] [(3,K 153 y153 a1),(2,K 153 y153 a0)]) <|
  vx_seq <|
  qA (Z [p 2 (R 2),p 3 (R 3),p 9 (B (a0.1 != a1.1))] [(3,K 153 y153 a1),(2,K 153 y153 a0)]) <|
  cD H (fun H=>?_) (fun H=>?_)
 ·refine qA (Z [p 4 (B false)] [(3,K 153 y153 a1),(2,K 153 y153 a0)]) <|
   vx_ret<|fx_seq_ret<|hr H
 refine vx_skip<|fx_seq<|vx_seq <|
  qA (Z [p 2 (R 2),p 3 (R 3),p 14 (B (a0.2.1 != a1.2.1))] [(3,K 153 y153 a1),(2,K 153 y153 a0)]) <|
  cD H (fun H=>?_) (fun H=>?_)
 ·refine qA (Z [p 4 (B false)] [(3,K 153 y153 a1),(2,K 153 y153 a0)]) <|
   vx_ret<|fx_seq_ret<|hr H
 refine vx_skip<|fx_seq<|vx_seq <|
  qA (Z [p 2 (R 2),p 3 (R 3),p 19 (B (a0.2.2.1 != a1.2.2.1))] [(3,K 153 y153 a1),(2,K 153 y153 a0)]) <|
  cD H (fun H=>?_) (fun H=>?_)
 ·refine qA (Z [p 4 (B false)] [(3,K 153 y153 a1),(2,K 153 y153 a0)]) <|
   vx_ret<|fx_seq_ret<|hr H
 refine vx_skip<|fx_seq<|vx_seq <|
  qA (Z [p 2 (R 2),p 3 (R 3),p 24 (B (a0.2.2.2.1 != a1.2.2.2.1))] [(3,K 153 y153 a1),(2,K 153 y153 a0)]) <|
  cD H (fun H=>?_) (fun H=>?_)
 ·refine qA (Z [p 4 (B false)] [(3,K 153 y153 a1),(2,K 153 y153 a0)]) <|
   vx_ret<|fx_seq_ret<|hr H
 refine vx_skip<|fx_seq<|vx_seq <|
  qB (Z [p 2 (R 2),p 3 (R 3),p 30 (B !vl (u225 a0.2.2.2.2.1 a1.2.2.2.2.1))] [(3,K 153 y153 a1),(2,K 153 y153 a0)]) H fun H =>
  cD H (fun H=>?_) (fun H=>?_)
 ·refine qA (Z [p 4 (B false)] [(3,K 153 y153 a1),(2,K 153 y153 a0)]) <|
   vx_ret<|fx_seq_ret<|hr H
 refine vx_skip<|fx_seq<|vx_seq <|
  qB (Z [p 36 (B !vl (u225 a0.2.2.2.2.2 a1.2.2.2.2.2))] [(3,K 153 y153 a1),(2,K 153 y153 a0)]) H fun H =>
  cD H (fun H=>?_) (fun H=>?_)
 ·refine qA (Z [p 4 (B false)] [(3,K 153 y153 a1),(2,K 153 y153 a0)]) <|
   vx_ret<|fx_seq_ret<|hr H
 refine vx_skip<|fx_seq <|
  qA (Z [p 4 (B true)] [(3,K 153 y153 a1),(2,K 153 y153 a0)]) <|
  vx_ret<|hr H
def u178J0:Unit→Option (Bool)
 | _ =>
 some true
def u178L1 (a0:List Y153) (a1:List Y153) (g1:Int→Option (Bool)):Int→Option (Bool)
 | v0 =>
 if (decide (v0 < (↑a0.length:Int)))=true then
  gd (ix v0 a0.length∧ix v0 a1.length∧(u207 (a0.getD v0.toNat (dflt y153)) (a1.getD v0.toNat (dflt y153))).isSome=true∧True) <|
  if (!vl (u207 (a0.getD v0.toNat (dflt y153)) (a1.getD v0.toNat (dflt y153))))=true then
   some false
  else
   gd (in64 (v0+1)∧True) <|
   g1 (v0+1)
 else
  u178J0 ()
def u178 (a0:List Y153) (a1:List Y153):Option (Bool) :=
 if ((↑a0.length:Int) != (↑a1.length:Int))=true then
  some false
 else
  lp (u178L1 a0 a1) 0
def k178:Ct:=lct 178 [.dat y153.sl,.dat y153.sl] (fun x=>u178 x.1 x.2.1) (fun r:Bool=>B r) (fun _=>())
theorem o178:Ok Tryz.prog k178:=by
 refine okL [.tmp 4] Tryz.func178 Tryz.ntmps178 Tryz.results178 ?_
 intro y ⟨a0,a1,_⟩ r H Q hn hr
 have:HT _ _:=⟨tc o207 tn⟩
 refine qA (Z [p 0 (L y153 a0),p 1 (L y153 a1)] []) <|
  vx_seq <|
  qA (Z [p 0 (L y153 a0),p 1 (L y153 a1),p 10 (B ((↑a0.length:Int) != (↑a1.length:Int)))] []) <|
  cD H (fun H=>?_) (fun H=>?_)
 ·refine qA (Z [p 4 (B false)] []) <|
   vx_ret<|fx_seq_ret<|hr H
 refine vx_skip<|fx_seq <|
  jN r (fun (_:Unit)=>Z [] []) (u178J0) (fun _ H=>?_) (fun _ n0 e0 t0=>?_)
 ·refine qA (Z [p 4 (B true)] []) <|
   vx_ret<|hr H
 refine qA (Z [p 0 (L y153 a0),p 1 (L y153 a1),p 5 (I 0)] []) <|
  vx_block <|
  lX (fun (v0:Int)=>Z [p 0 (L y153 a0),p 1 (L y153 a1),p 5 (I v0)] []) 0 H fun _ g1 b1 e1 t1 v0 H =>
  vx_seq <|
  qA (Z [p 0 (L y153 a0),p 1 (L y153 a1),p 5 (I v0),p 14 (B (decide (v0 < (↑a0.length:Int))))] []) <|
  cD H (fun H=>?_) (fun H=>?_)
 ·refine vx_skip<|fx_seq<|vx_seq<|vx_block <|
   qB (Z [p 0 (L y153 a0),p 1 (L y153 a1),p 5 (I v0),p 26 (B !vl (u207 (a0.getD v0.toNat (dflt y153)) (a1.getD v0.toNat (dflt y153))))] []) H fun H =>
   cD H (fun H=>?_) (fun H=>?_)
  ·refine qA (Z [p 4 (B false)] []) <|
    vx_ret<|fx_blk_ret<|fx_seq_ret<|t1<|fx_blk_ret<|t0<|hr H
  refine vx_skip<|fx_blk<|fx_seq <|
   zB (Z [p 0 (L y153 a0),p 1 (L y153 a1),p 5 (I (v0+1))] []) H fun H =>
   b1 H
 exact vx_exit<|fx_seq_exit<|e1<|fx_blk_exit rfl<|n0 H
def u206 (a0:Y222) (a1:Y222):Option (Bool) :=
 if (!decide (a0.1=a1.1))=true then
  some false
 else
  if (a0.2.1 != a1.2.1)=true then
   some false
  else
   if (a0.2.2.1 != a1.2.2.1)=true then
    some false
   else
    if (!a0.2.2.2==a1.2.2.2)=true then
     some false
    else
     some true
def k206:Ct:=lct 206 [.agg y222,.agg y222] (fun x=>u206 x.1 x.2.1) (fun r:Bool=>B r) (fun _=>())
theorem o206:Ok Tryz.prog k206:=by
 refine okL [.tmp 4] Tryz.func206 Tryz.ntmps206 Tryz.results206 ?_
 intro y ⟨a0,a1,_⟩ r H Q hn hr
 have:HT _ _:=⟨@tn Tryz.prog⟩
 refine qA (Z [p 2 (R 2),p 3 (R 3)] [(3,K 222 y222 a1),(2,K 222 y222 a0)]) <|
  vx_seq <|
  qA (Z [p 2 (R 2),p 3 (R 3),p 9 (B !decide (a0.1=a1.1))] [(3,K 222 y222 a1),(2,K 222 y222 a0)]) <|
  cD H (fun H=>?_) (fun H=>?_)
 ·refine qA (Z [p 4 (B false)] [(3,K 222 y222 a1),(2,K 222 y222 a0)]) <|
   vx_ret<|fx_seq_ret<|hr H
 refine vx_skip<|fx_seq<|vx_seq <|
  qA (Z [p 2 (R 2),p 3 (R 3),p 14 (B (a0.2.1 != a1.2.1))] [(3,K 222 y222 a1),(2,K 222 y222 a0)]) <|
  cD H (fun H=>?_) (fun H=>?_)
 ·refine qA (Z [p 4 (B false)] [(3,K 222 y222 a1),(2,K 222 y222 a0)]) <|
   vx_ret<|fx_seq_ret<|hr H
 refine vx_skip<|fx_seq<|vx_seq <|
  qA (Z [p 2 (R 2),p 3 (R 3),p 19 (B (a0.2.2.1 != a1.2.2.1))] [(3,K 222 y222 a1),(2,K 222 y222 a0)]) <|
  cD H (fun H=>?_) (fun H=>?_)
 ·refine qA (Z [p 4 (B false)] [(3,K 222 y222 a1),(2,K 222 y222 a0)]) <|
   vx_ret<|fx_seq_ret<|hr H
 refine vx_skip<|fx_seq<|vx_seq <|
  qA (Z [p 24 (B !a0.2.2.2==a1.2.2.2)] [(3,K 222 y222 a1),(2,K 222 y222 a0)]) <|
  cD H (fun H=>?_) (fun H=>?_)
 ·refine qA (Z [p 4 (B false)] [(3,K 222 y222 a1),(2,K 222 y222 a0)]) <|
   vx_ret<|fx_seq_ret<|hr H
 refine vx_skip<|fx_seq <|
  qA (Z [p 4 (B true)] [(3,K 222 y222 a1),(2,K 222 y222 a0)]) <|
  vx_ret<|hr H
def u177J0:Unit→Option (Bool)
 | _ =>
 some true
def u177L1 (a0:List Y222) (a1:List Y222) (g1:Int→Option (Bool)):Int→Option (Bool)
 | v0 =>
 if (decide (v0 < (↑a0.length:Int)))=true then
  gd (ix v0 a0.length∧ix v0 a1.length∧(u206 (a0.getD v0.toNat (dflt y222)) (a1.getD v0.toNat (dflt y222))).isSome=true∧True) <|
  if (!vl (u206 (a0.getD v0.toNat (dflt y222)) (a1.getD v0.toNat (dflt y222))))=true then
   some false
  else
   gd (in64 (v0+1)∧True) <|
   g1 (v0+1)
 else
  u177J0 ()
def u177 (a0:List Y222) (a1:List Y222):Option (Bool) :=
 if ((↑a0.length:Int) != (↑a1.length:Int))=true then
  some false
 else
  lp (u177L1 a0 a1) 0
def k177:Ct:=lct 177 [.dat y222.sl,.dat y222.sl] (fun x=>u177 x.1 x.2.1) (fun r:Bool=>B r) (fun _=>())
theorem o177:Ok Tryz.prog k177:=by
 refine okL [.tmp 4] Tryz.func177 Tryz.ntmps177 Tryz.results177 ?_
 intro y ⟨a0,a1,_⟩ r H Q hn hr
 have:HT _ _:=⟨tc o206 tn⟩
 refine qA (Z [p 0 (L y222 a0),p 1 (L y222 a1)] []) <|
  vx_seq <|
  qA (Z [p 0 (L y222 a0),p 1 (L y222 a1),p 10 (B ((↑a0.length:Int) != (↑a1.length:Int)))] []) <|
  cD H (fun H=>?_) (fun H=>?_)
 ·refine qA (Z [p 4 (B false)] []) <|
   vx_ret<|fx_seq_ret<|hr H
 refine vx_skip<|fx_seq <|
  jN r (fun (_:Unit)=>Z [] []) (u177J0) (fun _ H=>?_) (fun _ n0 e0 t0=>?_)
 ·refine qA (Z [p 4 (B true)] []) <|
   vx_ret<|hr H
 refine qA (Z [p 0 (L y222 a0),p 1 (L y222 a1),p 5 (I 0)] []) <|
  vx_block <|
  lX (fun (v0:Int)=>Z [p 0 (L y222 a0),p 1 (L y222 a1),p 5 (I v0)] []) 0 H fun _ g1 b1 e1 t1 v0 H =>
  vx_seq <|
  qA (Z [p 0 (L y222 a0),p 1 (L y222 a1),p 5 (I v0),p 14 (B (decide (v0 < (↑a0.length:Int))))] []) <|
  cD H (fun H=>?_) (fun H=>?_)
 ·refine vx_skip<|fx_seq<|vx_seq<|vx_block <|
   qB (Z [p 0 (L y222 a0),p 1 (L y222 a1),p 5 (I v0),p 26 (B !vl (u206 (a0.getD v0.toNat (dflt y222)) (a1.getD v0.toNat (dflt y222))))] []) H fun H =>
   cD H (fun H=>?_) (fun H=>?_)
  ·refine qA (Z [p 4 (B false)] []) <|
    vx_ret<|fx_blk_ret<|fx_seq_ret<|t1<|fx_blk_ret<|t0<|hr H
  refine vx_skip<|fx_blk<|fx_seq <|
   zB (Z [p 0 (L y222 a0),p 1 (L y222 a1),p 5 (I (v0+1))] []) H fun H =>
   b1 H
 exact vx_exit<|fx_seq_exit<|e1<|fx_blk_exit rfl<|n0 H
def u140 (a0:Y148) (a1:Y148):Option (Bool) :=
 if (!decide (a0.1=a1.1))=true then
  some false
 else
  if (a0.2.1 != a1.2.1)=true then
   some false
  else
   gd ((u177 a0.2.2.1 a1.2.2.1).isSome=true∧True) <|
   if (!vl (u177 a0.2.2.1 a1.2.2.1))=true then
    some false
   else
    gd ((u178 a0.2.2.2.1 a1.2.2.2.1).isSome=true∧True) <|
    if (!vl (u178 a0.2.2.2.1 a1.2.2.2.1))=true then
     some false
    else
     gd ((u15 a0.2.2.2.2.1 a1.2.2.2.2.1).isSome=true∧True) <|
     if (!vl (u15 a0.2.2.2.2.1 a1.2.2.2.2.1))=true then
      some false
     else
      if (a0.2.2.2.2.2.1 != a1.2.2.2.2.2.1)=true then
       some false
      else
       if (a0.2.2.2.2.2.2 != a1.2.2.2.2.2.2)=true then
        some false
       else
        some true
def k140:Ct:=lct 140 [.agg y148,.agg y148] (fun x=>u140 x.1 x.2.1) (fun r:Bool=>B r) (fun _=>())
theorem o140:Ok Tryz.prog k140:=by
 refine okL [.tmp 4] Tryz.func140 Tryz.ntmps140 Tryz.results140 ?_
 intro y ⟨a0,a1,_⟩ r H Q hn hr
 have:HT _ _:=⟨tc o15 (tc o178 (tc o177 tn))⟩
 refine qA (Z [p 2 (R 2),p 3 (R 3)] [(3,K 148 y148 a1),(2,K 148 y148 a0)]) <|
  vx_seq <|
  qA (Z [p 2 (R 2),p 3 (R 3),p 9 (B !decide (a0.1=a1.1))] [(3,K 148 y148 a1),(2,K 148 y148 a0)]) <|
  cD H (fun H=>?_) (fun H=>?_)
 ·refine qA (Z [p 4 (B false)] [(3,K 148 y148 a1),(2,K 148 y148 a0)]) <|
   vx_ret<|fx_seq_ret<|hr H
 refine vx_skip<|fx_seq<|vx_seq <|
  qA (Z [p 2 (R 2),p 3 (R 3),p 14 (B (a0.2.1 != a1.2.1))] [(3,K 148 y148 a1),(2,K 148 y148 a0)]) <|
  cD H (fun H=>?_) (fun H=>?_)
 ·refine qA (Z [p 4 (B false)] [(3,K 148 y148 a1),(2,K 148 y148 a0)]) <|
   vx_ret<|fx_seq_ret<|hr H
 refine vx_skip<|fx_seq<|vx_seq <|
  qB (Z [p 2 (R 2),p 3 (R 3),p 20 (B !vl (u177 a0.2.2.1 a1.2.2.1))] [(3,K 148 y148 a1),(2,K 148 y148 a0)]) H fun H =>
  cD H (fun H=>?_) (fun H=>?_)
 ·refine qA (Z [p 4 (B false)] [(3,K 148 y148 a1),(2,K 148 y148 a0)]) <|
   vx_ret<|fx_seq_ret<|hr H
 refine vx_skip<|fx_seq<|vx_seq <|
  qB (Z [p 2 (R 2),p 3 (R 3),p 26 (B !vl (u178 a0.2.2.2.1 a1.2.2.2.1))] [(3,K 148 y148 a1),(2,K 148 y148 a0)]) H fun H =>
  cD H (fun H=>?_) (fun H=>?_)
 ·refine qA (Z [p 4 (B false)] [(3,K 148 y148 a1),(2,K 148 y148 a0)]) <|
   vx_ret<|fx_seq_ret<|hr H
 refine vx_skip<|fx_seq<|vx_seq <|
  qB (Z [p 2 (R 2),p 3 (R 3),p 32 (B !vl (u15 a0.2.2.2.2.1 a1.2.2.2.2.1))] [(3,K 148 y148 a1),(2,K 148 y148 a0)]) H fun H =>
  cD H (fun H=>?_) (fun H=>?_)
 ·refine qA (Z [p 4 (B false)] [(3,K 148 y148 a1),(2,K 148 y148 a0)]) <|
   vx_ret<|fx_seq_ret<|hr H
 refine vx_skip<|fx_seq<|vx_seq <|
  qA (Z [p 2 (R 2),p 3 (R 3),p 37 (B (a0.2.2.2.2.2.1 != a1.2.2.2.2.2.1))] [(3,K 148 y148 a1),(2,K 148 y148 a0)]) <|
  cD H (fun H=>?_) (fun H=>?_)
 ·refine qA (Z [p 4 (B false)] [(3,K 148 y148 a1),(2,K 148 y148 a0)]) <|
   vx_ret<|fx_seq_ret<|hr H
 refine vx_skip<|fx_seq<|vx_seq <|
  qA (Z [p 42 (B (a0.2.2.2.2.2.2 != a1.2.2.2.2.2.2))] [(3,K 148 y148 a1),(2,K 148 y148 a0)]) <|
  cD H (fun H=>?_) (fun H=>?_)
 ·refine qA (Z [p 4 (B false)] [(3,K 148 y148 a1),(2,K 148 y148 a0)]) <|
   vx_ret<|fx_seq_ret<|hr H
 refine vx_skip<|fx_seq <|
  qA (Z [p 4 (B true)] [(3,K 148 y148 a1),(2,K 148 y148 a0)]) <|
  vx_ret<|hr H
def u88J0:Unit→Option (Bool)
 | _ =>
 some true
def u88L1 (a0:List Y148) (a1:List Y148) (g1:Int→Option (Bool)):Int→Option (Bool)
 | v0 =>
 if (decide (v0 < (↑a0.length:Int)))=true then
  gd (ix v0 a0.length∧ix v0 a1.length∧(u140 (a0.getD v0.toNat (dflt y148)) (a1.getD v0.toNat (dflt y148))).isSome=true∧True) <|
  if (!vl (u140 (a0.getD v0.toNat (dflt y148)) (a1.getD v0.toNat (dflt y148))))=true then
   some false
  else
   gd (in64 (v0+1)∧True) <|
   g1 (v0+1)
 else
  u88J0 ()
def u88 (a0:List Y148) (a1:List Y148):Option (Bool) :=
 if ((↑a0.length:Int) != (↑a1.length:Int))=true then
  some false
 else
  lp (u88L1 a0 a1) 0
def k88:Ct:=lct 88 [.dat y148.sl,.dat y148.sl] (fun x=>u88 x.1 x.2.1) (fun r:Bool=>B r) (fun _=>())
theorem o88:Ok Tryz.prog k88:=by
 refine okL [.tmp 4] Tryz.func88 Tryz.ntmps88 Tryz.results88 ?_
 intro y ⟨a0,a1,_⟩ r H Q hn hr
 have:HT _ _:=⟨tc o140 tn⟩
 refine qA (Z [p 0 (L y148 a0),p 1 (L y148 a1)] []) <|
  vx_seq <|
  qA (Z [p 0 (L y148 a0),p 1 (L y148 a1),p 10 (B ((↑a0.length:Int) != (↑a1.length:Int)))] []) <|
  cD H (fun H=>?_) (fun H=>?_)
 ·refine qA (Z [p 4 (B false)] []) <|
   vx_ret<|fx_seq_ret<|hr H
 refine vx_skip<|fx_seq <|
  jN r (fun (_:Unit)=>Z [] []) (u88J0) (fun _ H=>?_) (fun _ n0 e0 t0=>?_)
 ·refine qA (Z [p 4 (B true)] []) <|
   vx_ret<|hr H
 refine qA (Z [p 0 (L y148 a0),p 1 (L y148 a1),p 5 (I 0)] []) <|
  vx_block <|
  lX (fun (v0:Int)=>Z [p 0 (L y148 a0),p 1 (L y148 a1),p 5 (I v0)] []) 0 H fun _ g1 b1 e1 t1 v0 H =>
  vx_seq <|
  qA (Z [p 0 (L y148 a0),p 1 (L y148 a1),p 5 (I v0),p 14 (B (decide (v0 < (↑a0.length:Int))))] []) <|
  cD H (fun H=>?_) (fun H=>?_)
 ·refine vx_skip<|fx_seq<|vx_seq<|vx_block <|
   qB (Z [p 0 (L y148 a0),p 1 (L y148 a1),p 5 (I v0),p 26 (B !vl (u140 (a0.getD v0.toNat (dflt y148)) (a1.getD v0.toNat (dflt y148))))] []) H fun H =>
   cD H (fun H=>?_) (fun H=>?_)
  ·refine qA (Z [p 4 (B false)] []) <|
    vx_ret<|fx_blk_ret<|fx_seq_ret<|t1<|fx_blk_ret<|t0<|hr H
  refine vx_skip<|fx_blk<|fx_seq <|
   zB (Z [p 0 (L y148 a0),p 1 (L y148 a1),p 5 (I (v0+1))] []) H fun H =>
   b1 H
 exact vx_exit<|fx_seq_exit<|e1<|fx_blk_exit rfl<|n0 H
def u46 (a0:List Y148) (a1:List Y148):Option (Bool) :=
 gd ((u88 a0 a1).isSome=true∧True) <|
 if (!vl (u88 a0 a1))=true then
  some false
 else
  some true
def k46:Ct:=lct 46 [.agg y148.sl,.agg y148.sl] (fun x=>u46 x.1 x.2.1) (fun r:Bool=>B r) (fun _=>())
theorem o46:Ok Tryz.prog k46:=by
 refine okL [.tmp 4] Tryz.func46 Tryz.ntmps46 Tryz.results46 ?_
 intro y ⟨a0,a1,_⟩ r H Q hn hr
 have:HT _ _:=⟨tc o88 tn⟩
 refine qA (Z [p 2 (R 2),p 3 (R 3)] [(3,Ob.box 39 [L y148 a1]),(2,Ob.box 39 [L y148 a0])]) <|
  vx_seq <|
  qB (Z [p 10 (B !vl (u88 a0 a1))] [(3,Ob.box 39 [L y148 a1]),(2,Ob.box 39 [L y148 a0])]) H fun H =>
  cD H (fun H=>?_) (fun H=>?_)
 ·refine qA (Z [p 4 (B false)] [(3,Ob.box 39 [L y148 a1]),(2,Ob.box 39 [L y148 a0])]) <|
   vx_ret<|fx_seq_ret<|hr H
 refine vx_skip<|fx_seq <|
  qA (Z [p 4 (B true)] [(3,Ob.box 39 [L y148 a1]),(2,Ob.box 39 [L y148 a0])]) <|
  vx_ret<|hr H
def u16 (a0:Y46) (a1:Y46):Option (Bool) :=
 gd ((u46 a0.1 a1.1).isSome=true∧True) <|
 if (!vl (u46 a0.1 a1.1))=true then
  some false
 else
  gd ((u47 a0.2.1 a1.2.1).isSome=true∧True) <|
  if (!vl (u47 a0.2.1 a1.2.1))=true then
   some false
  else
   gd ((u48 a0.2.2 a1.2.2).isSome=true∧True) <|
   if (!vl (u48 a0.2.2 a1.2.2))=true then
    some false
   else
    some true
def k16:Ct:=lct 16 [.agg y46,.agg y46] (fun x=>u16 x.1 x.2.1) (fun r:Bool=>B r) (fun _=>())
theorem o16:Ok Tryz.prog k16:=by
 refine okL [.tmp 4] Tryz.func16 Tryz.ntmps16 Tryz.results16 ?_
 intro y ⟨a0,a1,_⟩ r H Q hn hr
 have:HT _ _:=⟨tc o48 (tc o47 (tc o46 tn))⟩
 refine qA (Z [p 2 (R 2),p 3 (R 3)] [(3,K 46 y46 a1),(2,K 46 y46 a0)]) <|
  vx_seq <|
  qB (Z [p 2 (R 2),p 3 (R 3),p 10 (B !vl (u46 a0.1 a1.1))] [(3,K 46 y46 a1),(2,K 46 y46 a0)]) H fun H =>
  cD H (fun H=>?_) (fun H=>?_)
 ·refine qA (Z [p 4 (B false)] [(3,K 46 y46 a1),(2,K 46 y46 a0)]) <|
   vx_ret<|fx_seq_ret<|hr H
 refine vx_skip<|fx_seq<|vx_seq <|
  qB (Z [p 2 (R 2),p 3 (R 3),p 16 (B !vl (u47 a0.2.1 a1.2.1))] [(3,K 46 y46 a1),(2,K 46 y46 a0)]) H fun H =>
  cD H (fun H=>?_) (fun H=>?_)
 ·refine qA (Z [p 4 (B false)] [(3,K 46 y46 a1),(2,K 46 y46 a0)]) <|
   vx_ret<|fx_seq_ret<|hr H
 refine vx_skip<|fx_seq<|vx_seq <|
  qB (Z [p 22 (B !vl (u48 a0.2.2 a1.2.2))] [(3,K 46 y46 a1),(2,K 46 y46 a0)]) H fun H =>
  cD H (fun H=>?_) (fun H=>?_)
 ·refine qA (Z [p 4 (B false)] [(3,K 46 y46 a1),(2,K 46 y46 a0)]) <|
   vx_ret<|fx_seq_ret<|hr H
 refine vx_skip<|fx_seq <|
  qA (Z [p 4 (B true)] [(3,K 46 y46 a1),(2,K 46 y46 a0)]) <|
  vx_ret<|hr H
def u19J0:Int→Option (Int)
 | v2 =>
 some v2
def u19L1 (a0:List Int) (g1:Int×Int→Option (Int)):Int×Int→Option (Int)
 | (v0,v1) =>
 if (decide (v1 < (↑a0.length:Int)))=true then
  gd (ix v1 a0.length∧True) <|
  if (a0.getD v1.toNat 0 != v0)=true then
   some (-1)
  else
   gd (in64 (v0+1)∧True) <|
   gd (in64 (v1+1)∧True) <|
   g1 (v0+1,v1+1)
 else
  u19J0 v0
def u19 (a0:List Int) (a1:Int):Option (Int) :=
 lp (u19L1 a0) (a1,0)
def k19:Ct:=lct 19 [.dat i64.sl,.dat i64] (fun x=>u19 x.1 x.2.1) (fun r:Int=>I r) (fun _=>())
theorem o19:Ok Tryz.prog k19:=by
 refine okL [.tmp 4] Tryz.func19 Tryz.ntmps19 Tryz.results19 ?_
 intro y ⟨a0,a1,_⟩ r H Q hn hr
 have:HT _ _:=⟨@tn Tryz.prog⟩
 refine qA (Z [p 0 (L i64 a0),p 1 (J a1)] []) <|
  jN r (fun (v2:Int)=>Z [p 1 (J v2)] []) (u19J0) (fun v2 H=>?_) (fun _ n0 e0 t0=>?_)
 ·refine qA (Z [p 4 (J v2)] []) <|
   vx_ret<|hr H
 refine qA (Z [p 0 (L i64 a0),p 1 (J a1),p 5 (I 0)] []) <|
  vx_block <|
  lX (fun ((v0,v1):Int×Int)=>Z [p 0 (L i64 a0),p 1 (J v0),p 5 (I v1)] []) (a1,0) H fun _ g1 b1 e1 t1 ⟨v0,v1⟩ H =>
  vx_seq <|
  qA (Z [p 0 (L i64 a0),p 1 (J v0),p 5 (I v1),p 9 (B (decide (v1 < (↑a0.length:Int))))] []) <|
  cD H (fun H=>?_) (fun H=>?_)
 ·refine vx_skip<|fx_seq<|vx_seq<|vx_block<|vx_seq <|
   qB (Z [p 0 (L i64 a0),p 1 (J v0),p 5 (I v1),p 17 (B (a0.getD v1.toNat 0 != v0))] []) H fun H =>
   cD H (fun H=>?_) (fun H=>?_)
  ·refine qA (Z [p 4 (I (-1))] []) <|
    vx_ret<|fx_seq_ret<|fx_blk_ret<|fx_seq_ret<|t1<|fx_blk_ret<|t0<|hr H
  refine vx_skip<|fx_seq <|
   zB (Z [p 0 (L i64 a0),p 1 (I (v0+1)),p 5 (I v1)] []) H fun H =>
   fx_blk<|fx_seq <|
   zB (Z [p 0 (L i64 a0),p 1 (I (v0+1)),p 5 (I (v1+1))] []) H fun H =>
   b1 H
 exact vx_exit<|fx_seq_exit<|e1<|fx_blk_exit rfl<|n0 H
def u20 (a0:Y46) (a1:List Int) (a2:Int):Option (List Int×Int) :=
 gd ((u38 a0 a1 a2 true).isSome=true∧True)<|lt (vl (u38 a0 a1 a2 true)) fun v0 =>
 some v0
def k20:Ct:=lct 20 [.agg y46,.dat i64.sl,.dat i64] (fun x=>u20 x.1 x.2.1 x.2.2.1) (fun r:List Int×Int=>AV.tup [AV.ow 2 true i64 r.1,I r.2]) (fun _=>())
theorem o20:Ok Tryz.prog k20:=by
 refine okL [.tmp 6,.tmp 7] Tryz.func20 Tryz.ntmps20 Tryz.results20 ?_
 intro y ⟨a0,a1,a2,_⟩ r H Q hn hr
 have:HT _ _:=⟨tc o38 tn⟩
 refine qA (Z [p 1 (L i64 a1),p 2 (J a2),p 3 (R 3)] [(3,K 46 y46 a0)]) <|
  qD (fun v0=>Z [p 6 (O 11),p 7 (I v0.2)] [(11,A 2 i64 v0.1 0),(3,K 46 y46 a0)]) H fun v0 H =>
  vx_ret<|hr H
def u52 (a0:Y107):Option (Int×Int) :=
 some (a0.1,a0.2.1)
def k52:Ct:=lct 52 [.agg y107] (fun x=>u52 x.1) (fun r:Int×Int=>AV.tup [I r.1,I r.2]) (fun _=>())
theorem o52:Ok Tryz.prog k52:=by
 refine okL [.tmp 2,.tmp 3] Tryz.func52 Tryz.ntmps52 Tryz.results52 ?_
 intro y ⟨a0,_⟩ r H Q hn hr
 have:HT _ _:=⟨@tn Tryz.prog⟩
 refine qA (Z [p 1 (R 1)] [(1,K 107 y107 a0)]) <|
  qA (Z [p 2 (J a0.1),p 3 (J a0.2.1)] [(1,K 107 y107 a0)]) <|
  vx_ret<|hr H
def u44c52J3:List Bool→Option (List Bool)
 | v21 =>
 some v21
def u44c52L4 (v10:List (List Int)) (g4:List Int×List Bool→Option (List Bool)):List Int×List Bool→Option (List Bool)
 | (v17,v18) =>
 if (decide (0 < (↑v17.length:Int)))=true then
  gd (ix (0:Int) v17.length∧Int.toNat (0:Int) < v17.length∧True) <|
  gd (((0:Int)≤(1:Int)∧(1:Int)≤(↑v17.length:Int)∧(↑v17.length:Int)≤(↑v17.length:Int))∧True) <|
  gd (ix (v17.getD (Int.toNat (0:Int)) (0:Int)) v18.length∧Int.toNat (v17.getD (Int.toNat (0:Int)) (0:Int)) < v18.length∧True) <|
  if (!v18.getD (Int.toNat (v17.getD (Int.toNat (0:Int)) (0:Int))) false)=true then
   gd (ix (v17.getD (Int.toNat (0:Int)) (0:Int)) v18.length∧Int.toNat (v17.getD (Int.toNat (0:Int)) (0:Int)) < v18.length∧True)<|lt (v18.set (Int.toNat (v17.getD (Int.toNat (0:Int)) (0:Int))) true) fun v19 =>
   gd (ix (v17.getD (Int.toNat (0:Int)) (0:Int)) v10.length∧((List.drop (Int.toNat (1:Int)) v17).length+List.length (v10.getD (Int.toNat (v17.getD (Int.toNat (0:Int)) (0:Int))) [])≤9223372036854775807∧((List.drop (Int.toNat (1:Int)) v17).length+List.length (v10.getD (Int.toNat (v17.getD (Int.toNat (0:Int)) (0:Int))) []))*8≤140737488355328)∧True)<|lt (List.drop (Int.toNat (1:Int)) v17++v10.getD (Int.toNat (v17.getD (Int.toNat (0:Int)) (0:Int))) []) fun v20 =>
   g4 (v20,v19)
  else
   g4 ((List.drop (Int.toNat (1:Int)) v17,v18))
 else
  u44c52J3 v18
def u44c52J0 (a1:List Int) (a0:Y92):List (List Int)→Option (List Bool)
 | v10 =>
 gd ((u86 a0.1).isSome=true∧(0≤vl (u86 a0.1)∧vl (u86 a0.1)=vl (u86 a0.1)∧(vl (u86 a0.1)).toNat*1≤281474976710656∧vl (u86 a0.1)≤9223372036854775807)∧True)<|lt (vl (u86 a0.1)) fun v11 =>
 gd ((u87 a1).isSome=true∧True)<|lt (vl (u87 a1)) fun v12 =>
 lp (u44c52L4 v10) (v12,List.replicate v11.toNat false)
def u44c52J2 (v5:Int) (g1:Int×List (List Int)→Option (List Bool)):List (List Int)→Option (List Bool)
 | v9 =>
 gd (in64 (v5+1)∧True) <|
 g1 (v5+1,v9)
def u44c52L1 (a0:Y92) (a1:List Int) (g1:Int×List (List Int)→Option (List Bool)):Int×List (List Int)→Option (List Bool)
 | (v5,v6) =>
 if (decide (v5 < (↑a0.1.2.2.1.length:Int)))=true then
  gd (ix v5 a0.1.2.2.1.length∧True)<|lt (a0.1.2.2.1.getD v5.toNat (dflt y107)) fun v7 =>
  gd ((u52 v7).isSome=true∧True)<|lt (vl (u52 v7)) fun v8 =>
  gd (ix v5 a0.2.length∧True) <|
  if (a0.2.getD v5.toNat false)=true then
   gd (ix v8.1 v6.length∧v8.1.toNat < v6.length∧((v6.getD v8.1.toNat []).length+[v8.2].length≤9223372036854775807∧((v6.getD v8.1.toNat []).length+[v8.2].length)*8≤140737488355328)∧ix v8.1 v6.length∧(v8.1.toNat < v6.length∧v8.1.toNat=v8.1.toNat)∧True) <|
   u44c52J2 v5 g1 (v6.set v8.1.toNat (v6.getD v8.1.toNat []++[v8.2]))
  else
   u44c52J2 v5 g1 v6
 else
  u44c52J0 a1 a0 v6
def u44c52 (a0:Y92) (a1:List Int):Option (List Bool) :=
 gd ((u86 a0.1).isSome=true∧(0≤vl (u86 a0.1)∧vl (u86 a0.1)=vl (u86 a0.1)∧(vl (u86 a0.1)).toNat*24≤281474976710656∧vl (u86 a0.1)≤9223372036854775807)∧True)<|lt (vl (u86 a0.1)) fun v0 =>
 lp (u44c52L1 a0 a1) (0,List.replicate v0.toNat [])
def k44c52:Ct:=lct 44 [.dat y92.pt,.dat i64.sl,.nof 52] (fun x=>u44c52 x.1 x.2.1) (fun r:List Bool=>AV.ow 4 true Ty.bool r) (fun _=>())
theorem o44c52:Ok Tryz.prog k44c52:=by
 refine okL [.tmp 6] Tryz.func44 Tryz.ntmps44 Tryz.results44 ?_
 intro y ⟨a0,a1,_,_⟩ r H Q hn hr
 have:HT _ _:=⟨tc o87 (tc o86 (tc o52 tn))⟩
 refine qA (Z [p 0 (D y92.pt a0),p 1 (L i64 a1),p 2 (AV.fn 52 [])] []) <|
  qD (fun v0=>Z [p 0 (D y92.pt a0),p 1 (L i64 a1),p 2 (AV.fn 52 []),p 7 (AV.og 20)] [(20,Ob.grd 33 2 true i64 (List.replicate v0.toNat []) none)]) H fun v0 H =>
  jN r (fun (v10:List (List Int))=>Z [p 0 (D y92.pt a0),p 1 (L i64 a1),p 7 (AV.og 20)] [(20,Ob.grd 33 2 true i64 v10 none)]) (u44c52J0 a1 a0) (fun v10 H=>?_) (fun _ n0 e0 t0=>?_)
 ·refine qD (fun v11=>Z [p 1 (L i64 a1),p 7 (AV.og 20),p 12 (O 63)] [(63,A 4 Ty.bool (List.replicate v11.toNat false) 0),(20,Ob.grd 33 2 true i64 v10 none)]) H fun v11 H =>
   qD (fun v12=>Z [p 7 (AV.og 20),p 12 (O 63),p 13 (O 65)] [(65,A 2 i64 v12 0),(63,A 4 Ty.bool (List.replicate v11.toNat false) 0),(20,Ob.grd 33 2 true i64 v10 none)]) H fun v12 H =>
   jN r (fun (v21:List Bool)=>Z [p 12 (O 63)] [(63,A 4 Ty.bool v21 0)]) (u44c52J3) (fun v21 H=>?_) (fun _ n3 e3 t3=>?_)
  ·refine qA (Z [p 6 (O 63)] [(63,A 4 Ty.bool v21 0)]) <|
    vx_ret<|hr H
  refine vx_block <|
   fZ 20 (Z [p 7 (M i64.sl v10),p 12 (O 63),p 13 (O 65)] [(65,A 2 i64 v12 0),(63,A 4 Ty.bool (List.replicate v11.toNat false) 0)]) <|
   lX (fun ((v17,v18):List Int×List Bool)=>Z [p 7 (M i64.sl v10),p 12 (O 63),p 13 (O 65)] [(65,A 2 i64 v17 0),(63,A 4 Ty.bool v18 0)]) (v12,List.replicate v11.toNat false) H fun _ g4 b4 e4 t4 ⟨v17,v18⟩ H =>
   vx_seq <|
   qA (Z [p 7 (M i64.sl v10),p 12 (O 63),p 13 (O 65),p 68 (B (decide (0 < (↑v17.length:Int))))] [(65,A 2 i64 v17 0),(63,A 4 Ty.bool v18 0)]) <|
   cD H (fun H=>?_) (fun H=>?_)
  ·refine vx_skip<|fx_seq<|vx_block <|
    qB (Z [p 7 (M i64.sl v10),p 12 (O 63),p 13 (O 65),p 14 (I (v17.getD (Int.toNat (0:Int)) (0:Int)))] [(65,A 2 i64 v17 0),(63,A 4 Ty.bool v18 0)]) H fun H =>
    qB (Z [p 7 (M i64.sl v10),p 12 (O 63),p 13 (AV.os 65 1),p 14 (I (v17.getD (Int.toNat (0:Int)) (0:Int)))] [(65,A 2 i64 (List.drop (Int.toNat (1:Int)) v17) 1),(63,A 4 Ty.bool v18 0)]) H fun H =>
    qB (Z [p 7 (M i64.sl v10),p 12 (O 63),p 13 (AV.os 65 1),p 14 (I (v17.getD (Int.toNat (0:Int)) (0:Int))),p 78 (B !v18.getD (Int.toNat (v17.getD (Int.toNat (0:Int)) (0:Int))) false)] [(65,A 2 i64 (List.drop (Int.toNat (1:Int)) v17) 1),(63,A 4 Ty.bool v18 0)]) H fun H =>
    cD H (fun H=>?_) (fun H=>?_)
   ·refine qD (fun v19=>Z [p 7 (M i64.sl v10),p 12 (O 63),p 13 (AV.os 65 1),p 14 (I (v17.getD (Int.toNat (0:Int)) (0:Int)))] [(63,A 4 Ty.bool v19 0),(65,A 2 i64 (List.drop (Int.toNat (1:Int)) v17) 1)]) H fun v19 H =>
     zD (fun v20=>Z [p 7 (M i64.sl v10),p 12 (O 63),p 13 (AV.os 65 2)] [(65,A 2 i64 v20 2),(63,A 4 Ty.bool v19 0)]) H fun v20 H =>
     fx_blk<|b4 H
   exact vx_skip<|fx_blk<|b4 H
  exact vx_exit<|fx_seq_exit<|e4<|fx_blk_exit rfl<|n3 H
 refine qA (Z [p 0 (D y92.pt a0),p 1 (L i64 a1),p 2 (AV.fn 52 []),p 7 (AV.og 20),p 27 (L y107 a0.1.2.2.1),p 28 (I (↑a0.1.2.2.1.length:Int)),p 29 (I 0)] [(20,Ob.grd 33 2 true i64 (List.replicate v0.toNat []) none)]) <|
  vx_block <|
  lX (fun ((v5,v6):Int×List (List Int))=>Z [p 0 (D y92.pt a0),p 1 (L i64 a1),p 2 (AV.fn 52 []),p 7 (AV.og 20),p 27 (L y107 a0.1.2.2.1),p 28 (I (↑a0.1.2.2.1.length:Int)),p 29 (I v5)] [(20,Ob.grd 33 2 true i64 v6 none)]) (0,List.replicate v0.toNat []) H fun _ g1 b1 e1 t1 ⟨v5,v6⟩ H =>
  qA (Z [p 0 (D y92.pt a0),p 1 (L i64 a1),p 2 (AV.fn 52 []),p 7 (AV.og 20),p 27 (L y107 a0.1.2.2.1),p 28 (I (↑a0.1.2.2.1.length:Int)),p 29 (I v5),p 30 (B (decide (v5 < (↑a0.1.2.2.1.length:Int))))] [(20,Ob.grd 33 2 true i64 v6 none)]) <|
  vx_seq <|
  cD H (fun H=>?_) (fun H=>?_)
 ·refine vx_skip<|fx_seq <|
   jN r (fun (v9:List (List Int))=>Z [p 0 (D y92.pt a0),p 1 (L i64 a1),p 2 (AV.fn 52 []),p 7 (AV.og 20),p 27 (L y107 a0.1.2.2.1),p 28 (I (↑a0.1.2.2.1.length:Int)),p 29 (I v5)] [(20,Ob.grd 33 2 true i64 v9 none)]) (u44c52J2 v5 g1) (fun v9 H=>?_) (fun _ n2 e2 t2=>?_)
  ·refine zB (Z [p 0 (D y92.pt a0),p 1 (L i64 a1),p 2 (AV.fn 52 []),p 7 (AV.og 20),p 27 (L y107 a0.1.2.2.1),p 28 (I (↑a0.1.2.2.1.length:Int)),p 29 (I (v5+1))] [(20,Ob.grd 33 2 true i64 v9 none)]) H fun H =>
    b1 H
  refine vx_block <|
   qD (fun v7=>Z [p 0 (D y92.pt a0),p 1 (L i64 a1),p 2 (AV.fn 52 []),p 7 (AV.og 20),p 8 (I v5),p 9 (R 9),p 27 (L y107 a0.1.2.2.1),p 28 (I (↑a0.1.2.2.1.length:Int)),p 29 (I v5)] [(9,K 107 y107 v7),(20,Ob.grd 33 2 true i64 v6 none)]) H fun v7 H =>
   qD (fun v8=>Z [p 0 (D y92.pt a0),p 1 (L i64 a1),p 2 (AV.fn 52 []),p 7 (AV.og 20),p 8 (I v5),p 10 (I v8.1),p 11 (I v8.2),p 27 (L y107 a0.1.2.2.1),p 28 (I (↑a0.1.2.2.1.length:Int)),p 29 (I v5)] [(9,K 107 y107 v7),(20,Ob.grd 33 2 true i64 v6 none)]) H fun v8 H =>
   qB (Z [p 0 (D y92.pt a0),p 1 (L i64 a1),p 2 (AV.fn 52 []),p 7 (AV.og 20),p 10 (I v8.1),p 11 (I v8.2),p 27 (L y107 a0.1.2.2.1),p 28 (I (↑a0.1.2.2.1.length:Int)),p 29 (I v5),p 46 (C (a0.2.getD v5.toNat false))] [(9,K 107 y107 v7),(20,Ob.grd 33 2 true i64 v6 none)]) H fun H =>
   cD H (fun H=>?_) (fun H=>?_)
  ·refine zB (Z [p 0 (D y92.pt a0),p 1 (L i64 a1),p 2 (AV.fn 52 []),p 7 (AV.og 20),p 27 (L y107 a0.1.2.2.1),p 28 (I (↑a0.1.2.2.1.length:Int)),p 29 (I v5)] [(20,Ob.grd 33 2 true i64 (v6.set v8.1.toNat (v6.getD v8.1.toNat []++[v8.2])) none),(52,A 2 i64 [] 2),(54,A 2 i64 [v8.2] 0),(9,K 107 y107 v7)]) H fun H =>
    fx_blk<|n2 H
  exact vx_skip<|fx_blk<|n2 H
 exact vx_exit<|fx_seq_exit<|e1<|fx_blk_exit rfl<|n0 H
def u21 (a0:Y46) (a1:List Int) (a2:Int):Option (List Int×Int) :=
 if (isL (u42 a0 a1 a2))=true then
  gd (isL (u42 a0 a1 a2)=true∧True) <|
  if (vL (u42 a0 a1 a2) != 0)=true then
   some (([],vL (u42 a0 a1 a2)))
  else
   none
 else
  gd (isR (u42 a0 a1 a2)=true∧True)<|lt (vR (u42 a0 a1 a2)) fun v0 =>
  if (v0.2 != 0)=true then
   some ([],v0.2)
  else
   gd ((u44c52 v0.1 [a2]).isSome=true∧(u43 (vl (u44c52 v0.1 [a2]))).isSome=true∧True)<|lt ((vl (u43 (vl (u44c52 v0.1 [a2]))),vl (u44c52 v0.1 [a2]))) fun (v1,v2) =>
   some ((v1,(0:Int)))
def k21:Ct:=lct 21 [.agg y46,.dat i64.sl,.dat i64] (fun x=>u21 x.1 x.2.1 x.2.2.1) (fun r:List Int×Int=>AV.tup [AV.ow 2 true i64 r.1,I r.2]) (fun _=>())
theorem o21:Ok Tryz.prog k21:=by
 refine okL [.tmp 6,.tmp 7] Tryz.func21 Tryz.ntmps21 Tryz.results21 ?_
 intro y ⟨a0,a1,a2,_⟩ r H Q hn hr
 have:HT _ _:=⟨tc o43 (tc o52 (tc o44c45 (tc o44c52 tn)))⟩
 refine qA (Z [p 1 (L i64 a1),p 2 (J a2),p 3 (R 3)] [(3,K 46 y46 a0)]) <|
  sp H (fun H=>?_) (fun H=>?_)
 ·have:HT _ _:=⟨tc o42L (HT.h)⟩
  refine qB (Z [p 2 (J a2),p 8 (AV.v (Value.pointer none)),p 9 (I (vL (u42 a0 a1 a2)))] [(3,K 46 y46 a0)]) H fun H =>
   vx_seq <|
   qA (Z [p 2 (J a2),p 8 (AV.v (Value.pointer none)),p 9 (I (vL (u42 a0 a1 a2))),p 18 (B (vL (u42 a0 a1 a2) != 0))] [(3,K 46 y46 a0)]) <|
   cD H (fun H=>?_) (fun H=>?_)
  ·refine qA (Z [p 6 (nil),p 7 (I (vL (u42 a0 a1 a2)))] [(3,K 46 y46 a0)]) <|
    vx_ret<|fx_seq_ret<|hr H
  exact vx_skip<|fx_seq<|dead H
 have:HT _ _:=⟨tc o42R (HT.h)⟩
 refine qD (fun v0=>Z [p 2 (J a2),p 8 (R 1014),p 9 (I v0.2)] [(1014,Ob.box 92 [D y113.pt v0.1.1,AV.os 14 0]),(14,A 4 Ty.bool v0.1.2 0),(3,K 46 y46 a0)]) H fun v0 H =>
  vx_seq <|
  qA (Z [p 2 (J a2),p 8 (R 1014),p 9 (I v0.2),p 18 (B (v0.2 != 0))] [(1014,Ob.box 92 [D y113.pt v0.1.1,AV.os 14 0]),(14,A 4 Ty.bool v0.1.2 0),(3,K 46 y46 a0)]) <|
  cD H (fun H=>?_) (fun H=>?_)
 ·refine qA (Z [p 6 (nil),p 7 (I v0.2)] [(1014,Ob.box 92 [D y113.pt v0.1.1,AV.os 14 0]),(14,A 4 Ty.bool v0.1.2 0),(3,K 46 y46 a0)]) <|
   vx_ret<|fx_seq_ret<|hr H
 refine vx_skip<|fx_seq <|
  qD (fun (v1,v2)=>Z [p 6 (O 24),p 7 (I 0)] [(24,A 2 i64 v1 0),(23,A 4 Ty.bool v2 0),(22,A 2 i64 [a2] 0),(1014,Ob.box 92 [D y113.pt v0.1.1,AV.os 14 0]),(14,A 4 Ty.bool v0.1.2 0),(3,K 46 y46 a0)]) H fun ⟨v1,v2⟩ H =>
  vx_ret<|hr H
def u152 (a0:Y107) (a1:Int):Option (Bool) :=
 some (a0.1==a1)
def u126c152J0:List Int→Option (List Int)
 | v6 =>
 some v6
def u126c152J2 (v3:Int) (g1:List Int×Int→Option (List Int)):List Int→Option (List Int)
 | v5 =>
 gd (in64 (v3+1)∧True) <|
 g1 (v5,v3+1)
def u126c152L1 (a0:Y92) (a1:Int) (g1:List Int×Int→Option (List Int)):List Int×Int→Option (List Int)
 | (v2,v3) =>
 if (decide (v3 < (↑a0.1.2.2.1.length:Int)))=true then
  gd (ix v3 a0.1.2.2.1.length∧True)<|lt (a0.1.2.2.1.getD v3.toNat (dflt y107)) fun v4 =>
  gd (ix v3 a0.2.length∧(a0.2.getD v3.toNat false=true∧True→(u152 v4 a1).isSome=true)∧True) <|
  if (a0.2.getD v3.toNat false&&vl (u152 v4 a1))=true then
   gd ((v2.length+[v3].length≤9223372036854775807∧(v2.length+[v3].length)*8≤140737488355328)∧True) <|
   u126c152J2 v3 g1 (v2++[v3])
  else
   u126c152J2 v3 g1 v2
 else
  u126c152J0 v2
def u126c152 (a0:Y92) (a1:Int):Option (List Int) :=
 lp (u126c152L1 a0 a1) ([],0)
def u113 (a0:Y92) (a1:Int):Option (List Int) :=
 gd ((u126c152 a0 a1).isSome=true∧True)<|lt (vl (u126c152 a0 a1)) fun v0 =>
 some v0
def u150J0:Unit→Option (Int)
 | _ =>
 some (-1)
def u150L1 (a1:Int) (a0:List Int) (g1:Int→Option (Int)):Int→Option (Int)
 | v0 =>
 if (decide (v0 < (↑a0.length:Int)))=true then
  gd (ix v0 a0.length∧True) <|
  if (a1==a0.getD v0.toNat 0)=true then
   some v0
  else
   gd (in64 (v0+1)∧True) <|
   g1 (v0+1)
 else
  u150J0 ()
def u150 (a0:List Int) (a1:Int):Option (Int) :=
 lp (u150L1 a1 a0) 0
def u149 (a0:Y107):Option (Bool) :=
 some true
def u126c149J0:List Int→Option (List Int)
 | v6 =>
 some v6
def u126c149J2 (v3:Int) (g1:List Int×Int→Option (List Int)):List Int→Option (List Int)
 | v5 =>
 gd (in64 (v3+1)∧True) <|
 g1 (v5,v3+1)
def u126c149L1 (a0:Y92) (g1:List Int×Int→Option (List Int)):List Int×Int→Option (List Int)
 | (v2,v3) =>
 if (decide (v3 < (↑a0.1.2.2.1.length:Int)))=true then
  gd (ix v3 a0.1.2.2.1.length∧True)<|lt (a0.1.2.2.1.getD v3.toNat (dflt y107)) fun v4 =>
  gd (ix v3 a0.2.length∧(a0.2.getD v3.toNat false=true∧True→(u149 v4).isSome=true)∧True) <|
  if (a0.2.getD v3.toNat false&&vl (u149 v4))=true then
   gd ((v2.length+[v3].length≤9223372036854775807∧(v2.length+[v3].length)*8≤140737488355328)∧True) <|
   u126c149J2 v3 g1 (v2++[v3])
  else
   u126c149J2 v3 g1 v2
 else
  u126c149J0 v2
def u126c149 (a0:Y92):Option (List Int) :=
 lp (u126c149L1 a0) ([],0)
def u101J2:List Int→Option (List Int×Bool)
 | v26 =>
 some (v26,true)
def u101J4 (v16:Int) (g3:List Int×Int×List Int→Option (List Int×Bool)):List Int×List Int→Option (List Int×Bool)
 | (v24,v25) =>
 gd (in64 (v16+1)∧True) <|
 g3 (v24,v16+1,v25)
def u101L5 (a0:Y92) (v19:List Int) (v16:Int) (v15:List Int) (v18:Int) (g3:List Int×Int×List Int→Option (List Int×Bool)) (g5:Int×List Int→Option (List Int×Bool)):Int×List Int→Option (List Int×Bool)
 | (v21,v22) =>
 if (decide (v21 < (↑v19.length:Int)))=true then
  gd (ix v21 v19.length∧v21.toNat < v19.length∧True) <|
  gd (ix (v19.getD v21.toNat 0) a0.1.2.2.1.length∧ix (a0.1.2.2.1.getD (Int.toNat (v19.getD v21.toNat 0)) (dflt y107)).2.1 v22.length∧(a0.1.2.2.1.getD (Int.toNat (v19.getD v21.toNat 0)) (dflt y107)).2.1.toNat < v22.length∧in64 (v22.getD (a0.1.2.2.1.getD (Int.toNat (v19.getD v21.toNat 0)) (dflt y107)).2.1.toNat 0 - 1)∧ix (a0.1.2.2.1.getD (Int.toNat (v19.getD v21.toNat 0)) (dflt y107)).2.1 v22.length∧(a0.1.2.2.1.getD (Int.toNat (v19.getD v21.toNat 0)) (dflt y107)).2.1.toNat < v22.length∧True)<|lt (v22.set (a0.1.2.2.1.getD (Int.toNat (v19.getD v21.toNat 0)) (dflt y107)).2.1.toNat (v22.getD (a0.1.2.2.1.getD (Int.toNat (v19.getD v21.toNat 0)) (dflt y107)).2.1.toNat 0 - 1)) fun v23 =>
  gd (in64 (v21+1)∧True) <|
  g5 (v21+1,v23)
 else
  u101J4 v16 g3 (v15++[v18],v22)
def u101L3 (a0:Y92) (v6:List Int) (g3:List Int×Int×List Int→Option (List Int×Bool)):List Int×Int×List Int→Option (List Int×Bool)
 | (v15,v16,v17) =>
 if (decide (v16 < (↑v6.length:Int)))=true then
  gd ((u150 v17 0).isSome=true∧True)<|lt (vl (u150 v17 0)) fun v18 =>
  if (decide (v18 < 0))=true then
   some ([],false)
  else
   gd (ix v18 v17.length∧v18.toNat < v17.length∧True) <|
   gd ((v15.length+[v18].length≤9223372036854775807∧(v15.length+[v18].length)*8≤140737488355328)∧True) <|
   gd ((u113 a0 v18).isSome=true∧True)<|lt (vl (u113 a0 v18)) fun v19 =>
   lp (u101L5 a0 v19 v16 v15 v18 g3) ((0,v17.set v18.toNat (-1)))
 else
  u101J2 v15
def u101J0 (a0:Y92):List Int→Option (List Int×Bool)
 | v6 =>
 lp (u101L3 a0 v6) ([],0,v6)
def u101L1 (a0:Y92) (v1:List Int) (g1:Int×List Int→Option (List Int×Bool)):Int×List Int→Option (List Int×Bool)
 | (v3,v4) =>
 if (decide (v3 < (↑v1.length:Int)))=true then
  gd (ix v3 v1.length∧v3.toNat < v1.length∧True) <|
  gd (ix (v1.getD v3.toNat 0) a0.1.2.2.1.length∧ix (a0.1.2.2.1.getD (Int.toNat (v1.getD v3.toNat 0)) (dflt y107)).2.1 v4.length∧(a0.1.2.2.1.getD (Int.toNat (v1.getD v3.toNat 0)) (dflt y107)).2.1.toNat < v4.length∧in64 (v4.getD (a0.1.2.2.1.getD (Int.toNat (v1.getD v3.toNat 0)) (dflt y107)).2.1.toNat 0+1)∧ix (a0.1.2.2.1.getD (Int.toNat (v1.getD v3.toNat 0)) (dflt y107)).2.1 v4.length∧(a0.1.2.2.1.getD (Int.toNat (v1.getD v3.toNat 0)) (dflt y107)).2.1.toNat < v4.length∧True)<|lt (v4.set (a0.1.2.2.1.getD (Int.toNat (v1.getD v3.toNat 0)) (dflt y107)).2.1.toNat (v4.getD (a0.1.2.2.1.getD (Int.toNat (v1.getD v3.toNat 0)) (dflt y107)).2.1.toNat 0+1)) fun v5 =>
  gd (in64 (v3+1)∧True) <|
  g1 (v3+1,v5)
 else
  u101J0 a0 v4
def u101 (a0:Y92):Option (List Int×Bool) :=
 gd ((u86 a0.1).isSome=true∧(0≤vl (u86 a0.1)∧vl (u86 a0.1)=vl (u86 a0.1)∧(vl (u86 a0.1)).toNat*8≤281474976710656∧vl (u86 a0.1)≤9223372036854775807)∧True)<|lt (vl (u86 a0.1)) fun v0 =>
 gd ((u126c149 a0).isSome=true∧True)<|lt (vl (u126c149 a0)) fun v1 =>
 lp (u101L1 a0 v1) (0,List.replicate v0.toNat 0)
def u57 (a0:Y92):Option (Bool) :=
 gd ((u101 a0).isSome=true∧True)<|lt (vl (u101 a0)) fun v0 =>
 some (!v0.2)
def u23J0:List Int→Option (List Int×Int)
 | v10 =>
 some ((v10,(0:Int)))
def u23J2 (v5:Int) (g1:List Int×Int×List Bool→Option (List Int×Int)):List Bool×List Int→Option (List Int×Int)
 | (v8,v9) =>
 gd (in64 (v5+1)∧True) <|
 g1 (v9,v5+1,v8)
def u23L1 (a1:List Int) (a0:Y46) (g1:List Int×Int×List Bool→Option (List Int×Int)):List Int×Int×List Bool→Option (List Int×Int)
 | (v4,v5,v6) =>
 if (decide (v5 < (↑a1.length:Int)))=true then
  gd (ix v5 a1.length∧True) <|
  gd (ix (a1.getD v5.toNat 0) v6.length∧Int.toNat (a1.getD v5.toNat 0) < v6.length∧True) <|
  gd ((u57 ((vR (u56 a0 a1)).1.1,v6.set (Int.toNat (a1.getD v5.toNat 0)) true)).isSome=true∧True) <|
  if (vl (u57 ((vR (u56 a0 a1)).1.1,v6.set (Int.toNat (a1.getD v5.toNat 0)) true)))=true then
   gd (ix (a1.getD v5.toNat 0) (v6.set (Int.toNat (a1.getD v5.toNat 0)) true).length∧Int.toNat (a1.getD v5.toNat 0) < (v6.set (Int.toNat (a1.getD v5.toNat 0)) true).length∧True)<|lt ((v6.set (Int.toNat (a1.getD v5.toNat 0)) true).set (Int.toNat (a1.getD v5.toNat 0)) false) fun v7 =>
   gd ((v4.length+[a1.getD v5.toNat 0].length≤9223372036854775807∧(v4.length+[a1.getD v5.toNat 0].length)*8≤140737488355328)∧True) <|
   u23J2 v5 g1 (v7,v4++[a1.getD v5.toNat 0])
  else
   u23J2 v5 g1 ((v6.set (Int.toNat (a1.getD v5.toNat 0)) true,v4))
 else
  u23J0 v4
def u23 (a0:Y46) (a1:List Int):Option (List Int×Int) :=
 if (isL (u56 a0 a1))=true then
  gd (isL (u56 a0 a1)=true∧True) <|
  if (vL (u56 a0 a1) != 0)=true then
   some (([],vL (u56 a0 a1)))
  else
   none
 else
  gd (isR (u56 a0 a1)=true∧True) <|
  if ((vR (u56 a0 a1)).2 != 0)=true then
   some (([],(vR (u56 a0 a1)).2))
  else
   gd ((u57 (vR (u56 a0 a1)).1).isSome=true∧True) <|
   if (vl (u57 (vR (u56 a0 a1)).1))=true then
    some (([],(7:Int)))
   else
    lp (u23L1 a1 a0) (([],0,(vR (u56 a0 a1)).1.2))
def k23:Ct:=lct 23 [.agg y46,.dat i64.sl] (fun x=>u23 x.1 x.2.1) (fun r:List Int×Int=>AV.tup [AV.ow 2 true i64 r.1,I r.2]) (fun _=>())
end Go.Proofs.YthobjlocnkienaaGreatDoor
