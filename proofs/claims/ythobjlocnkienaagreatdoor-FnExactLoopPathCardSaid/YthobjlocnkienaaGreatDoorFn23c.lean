/- Functions of this program as plain functions of data, and that they are so: printed by program. -/
import Derived.Test.YthobjlocnkienaaGreatDoorFn23b
section
namespace Go.Proofs.YthobjlocnkienaaGreatDoor
open Go Go.Proofs Go.Proofs.Sv Go.Proofs.Xv Go.Proofs.Xl Go.RowKit
open Tryz
def u190c164J0:Unit->Option (Int)
 | _ =>
 some (-1)
def u190c164L1 (a0:List Int) (g1:Int->Option (Int)):Int->Option (Int)
 | v0 =>
 if (decide (v0 < (a0.length:Int)))=true then
  gd (ix v0 a0.length/\(u164 (a0.getD v0.toNat 0)).isSome=true/\True) <|
  if (vl (u164 (a0.getD v0.toNat 0)))=true then
   some v0
  else
   gd (in64 (v0+1)/\True) <|
   g1 (v0+1)
 else
  u190c164J0 ()
def u190c164 (a0:List Int):Option (Int) :=
 lp (u190c164L1 a0) 0
def k190c164:Ct:=lct 190 [.dat i64.sl,.nof 164] (fun x=>u190c164 x.1) (fun r:Int=>I r) (fun _=>())
theorem o190c164:Ok prog k190c164:=by
 refine okL [.tmp 4] func190 ntmps190 results190 ?_
 intro y ⟨a0,_,_⟩ r H Q hn hr
 have:HT _ _:=⟨tc o164 tn⟩
 refine qA (Z [p 0 (L i64 a0),p 1 (AV.fn 164 [])] []) <|
  jN r (fun (_:Unit)=>Z [] []) (u190c164J0) (fun _ H=>?_) (fun _ n0 e0 t0=>?_)
 ·refine qA (Z [p 4 (I (-1))] []) <|
   vTT<|hr H
 refine qA (Z [p 0 (L i64 a0),p 1 (AV.fn 164 []),p 7 (I (a0.length:Int)),p 8 (I 0)] []) <|
  vB <|
  lX (fun (v0:Int)=>Z [p 0 (L i64 a0),p 1 (AV.fn 164 []),p 7 (I (a0.length:Int)),p 8 (I v0)] []) 0 H fun _ g1 b1 e1 t1 v0 H =>
  qA (Z [p 0 (L i64 a0),p 1 (AV.fn 164 []),p 7 (I (a0.length:Int)),p 8 (I v0),p 9 (B (decide (v0 < (a0.length:Int))))] []) <|
  vQ <|
  cD H (fun H=>?_) (fun H=>?_)
 ·refine vK<|fQ<|vQ<|vB <|
   qA (Z [p 0 (L i64 a0),p 1 (AV.fn 164 []),p 5 (I v0),p 7 (I (a0.length:Int)),p 8 (I v0)] []) <|
   qB (Z [p 0 (L i64 a0),p 1 (AV.fn 164 []),p 5 (I v0),p 7 (I (a0.length:Int)),p 8 (I v0),p 16 (B (vl (u164 (a0.getD v0.toNat 0))))] []) H fun H =>
   cD H (fun H=>?_) (fun H=>?_)
  ·refine qA (Z [p 4 (I v0)] []) <|
    vTT<|fDD<|fR<|t1<|fDD<|t0<|hr H
  refine vK<|fK<|fQ <|
   zB (Z [p 0 (L i64 a0),p 1 (AV.fn 164 []),p 7 (I (a0.length:Int)),p 8 (I (v0+1))] []) H fun H =>
   b1 H
 exact vE<|fE<|e1<|fX rfl<|n0 H
def u163c164 (a0:List Int):Option (Bool) :=
 gd ((u190c164 a0).isSome=true/\True)<|lt (vl (u190c164 a0)) fun v0 =>
 some (decide (0<=v0))
def k163c164:Ct:=lct 163 [.dat i64.sl,.nof 164] (fun x=>u163c164 x.1) (fun r:Bool=>B r) (fun _=>())
theorem o163c164:Ok prog k163c164:=by
 refine okL [.tmp 4] func163 ntmps163 results163 ?_
 intro y ⟨a0,_,_⟩ r H Q hn hr
 have:HT _ _:=⟨tc o190c164 (tc o164 tn)⟩
 refine qA (Z [p 0 (L i64 a0),p 1 (AV.fn 164 [])] []) <|
  qD (fun v0=>Z [p 4 (B (decide (0<=v0)))] []) H fun v0 H =>
  vTT<|hr H
def u119J2:List Int->Option (Bool)
 | v13 =>
 gd ((u163c164 v13).isSome=true/\True) <|
 some (!vl (u163c164 v13))
def u119J4 (v9:Int) (g3:Int×List Int->Option (Bool)):List Int->Option (Bool)
 | v12 =>
 gd (in64 (v9+1)/\True) <|
 g3 (v9+1,v12)
def u119L3 (a1:Y43) (g3:Int×List Int->Option (Bool)):Int×List Int->Option (Bool)
 | (v9,v10) =>
 if (decide (v9 < (a1.2.2.length:Int)))=true then
  gd (ix v9 a1.2.2.length/\True)<|lt (a1.2.2.getD v9.toNat (dflt y190)) fun v11 =>
  gd (((v11.2.1 != 1&&v11.2.1 != 2)=false/\True->(u162 a1 v11.2.2).isSome=true)/\True) <|
  if (v11.2.1 != 1&&v11.2.1 != 2||!vl (u162 a1 v11.2.2))=true then
   some false
  else
   if (v11.2.1==1)=true then
    gd (ix v11.2.2 v10.length/\v11.2.2.toNat < v10.length/\in64 (v10.getD v11.2.2.toNat 0+1)/\ix v11.2.2 v10.length/\v11.2.2.toNat < v10.length/\True) <|
    u119J4 v9 g3 (v10.set v11.2.2.toNat (v10.getD v11.2.2.toNat 0+1))
   else
    u119J4 v9 g3 v10
 else
  u119J2 v10
def u119J0 (a1:Y43):List Int->Option (Bool)
 | v6 =>
 lp (u119L3 a1) (0,v6)
def u119L1 (a1:Y43) (a0:List Y148) (g1:Int×List Int->Option (Bool)):Int×List Int->Option (Bool)
 | (v2,v3) =>
 if (decide (v2 < (a1.1.length:Int)))=true then
  gd (ix v2 a1.1.length/\True)<|lt (a1.1.getD v2.toNat (dflt y150)) fun v4 =>
  gd ((u161 a1 a0 v4).isSome=true/\True) <|
  if (!vl (u161 a1 a0 v4))=true then
   some false
  else
   gd (in64 ((v4.2.2.length:Int) - 1)/\ix ((v4.2.2.length:Int) - 1) v4.2.2.length/\ix (v4.2.2.getD ((v4.2.2.length:Int) - 1).toNat 0) v3.length/\Int.toNat (v4.2.2.getD ((v4.2.2.length:Int) - 1).toNat 0) < v3.length/\in64 (v3.getD (Int.toNat (v4.2.2.getD ((v4.2.2.length:Int) - 1).toNat 0)) 0+1)/\ix (v4.2.2.getD ((v4.2.2.length:Int) - 1).toNat 0) v3.length/\Int.toNat (v4.2.2.getD ((v4.2.2.length:Int) - 1).toNat 0) < v3.length/\True)<|lt (v3.set (Int.toNat (v4.2.2.getD ((v4.2.2.length:Int) - 1).toNat 0)) (v3.getD (Int.toNat (v4.2.2.getD ((v4.2.2.length:Int) - 1).toNat 0)) 0+1)) fun v5 =>
   gd (in64 (v2+1)/\True) <|
   g1 (v2+1,v5)
 else
  u119J0 a1 v3
def u119 (a0:List Y148) (a1:Y43):Option (Bool) :=
 gd ((u159 a0).isSome=true/\((!vl (u159 a0))=false/\True->(u160 a1).isSome=true)/\True) <|
 if (!vl (u159 a0)||!vl (u160 a1))=true then
  some false
 else
  gd ((0<=(a1.2.1.length:Int)/\(a1.2.1.length:Int)=(a1.2.1.length:Int)/\(a1.2.1.length:Int).toNat*8<=281474976710656/\(a1.2.1.length:Int)<=9223372036854775807)/\True) <|
  lp (u119L1 a1 a0) ((0,List.replicate (a1.2.1.length:Int).toNat 0))
def k119:Ct:=lct 119 [.agg y148.sl,.agg y43] (fun x=>u119 x.1 x.2.1) (fun r:Bool=>B r) (fun _=>())
theorem o119:Ok prog k119:=by
 refine okL [.tmp 4] func119 ntmps119 results119 ?_
 intro y ⟨a0,a1,_⟩ r H Q hn hr
 have:HT _ _:=⟨tc o164 (tc o163c164 (tc o162 (tc o161 (tc o160 (tc o159 tn)))))⟩
 refine qA (Z [p 2 (R 2),p 3 (R 3)] [(3,K 43 y43 a1),(2,Ob.box 39 [L y148 a0])]) <|
  vQ <|
  qB (Z [p 2 (R 2),p 3 (R 3),p 17 (B (!vl (u159 a0)||!vl (u160 a1)))] [(3,K 43 y43 a1),(2,Ob.box 39 [L y148 a0])]) H fun H =>
  cD H (fun H=>?_) (fun H=>?_)
 ·refine qA (Z [p 4 (B false)] [(3,K 43 y43 a1),(2,Ob.box 39 [L y148 a0])]) <|
   vTT<|fR<|hr H
 refine vK<|fQ <|
  qB (Z [p 2 (R 2),p 3 (R 3),p 5 (O 21)] [(21,A 3 i64 (List.replicate (a1.2.1.length:Int).toNat 0) 0),(3,K 43 y43 a1),(2,Ob.box 39 [L y148 a0])]) H fun H =>
  jN r (fun (v6:List Int)=>Z [p 3 (R 3),p 5 (O 21)] [(21,A 3 i64 v6 0),(3,K 43 y43 a1)]) (u119J0 a1) (fun v6 H=>?_) (fun _ n0 e0 t0=>?_)
 ·refine jN r (fun (v13:List Int)=>Z [p 5 (O 21)] [(21,A 3 i64 v13 0)]) (u119J2) (fun v13 H=>?_) (fun _ n2 e2 t2=>?_)
  ·refine qB (Z [p 4 (B !vl (u163c164 v13))] [(21,A 3 i64 v13 0)]) H fun H =>
    vTT<|hr H
  refine qA (Z [p 3 (R 3),p 5 (O 21),p 49 (L y190 a1.2.2),p 50 (I (a1.2.2.length:Int)),p 51 (I 0)] [(21,A 3 i64 v6 0),(3,K 43 y43 a1)]) <|
   vB <|
   lX (fun ((v9,v10):Int×List Int)=>Z [p 3 (R 3),p 5 (O 21),p 49 (L y190 a1.2.2),p 50 (I (a1.2.2.length:Int)),p 51 (I v9)] [(21,A 3 i64 v10 0),(3,K 43 y43 a1)]) (0,v6) H fun _ g3 b3 e3 t3 ⟨v9,v10⟩ H =>
   qA (Z [p 3 (R 3),p 5 (O 21),p 49 (L y190 a1.2.2),p 50 (I (a1.2.2.length:Int)),p 51 (I v9),p 52 (B (decide (v9 < (a1.2.2.length:Int))))] [(21,A 3 i64 v10 0),(3,K 43 y43 a1)]) <|
   vQ <|
   cD H (fun H=>?_) (fun H=>?_)
  ·refine vK<|fQ <|
    jN r (fun (v12:List Int)=>Z [p 3 (R 3),p 5 (O 21),p 49 (L y190 a1.2.2),p 50 (I (a1.2.2.length:Int)),p 51 (I v9)] [(21,A 3 i64 v12 0),(3,K 43 y43 a1)]) (u119J4 v9 g3) (fun v12 H=>?_) (fun _ n4 e4 t4=>?_)
   ·refine zB (Z [p 3 (R 3),p 5 (O 21),p 49 (L y190 a1.2.2),p 50 (I (a1.2.2.length:Int)),p 51 (I (v9+1))] [(21,A 3 i64 v12 0),(3,K 43 y43 a1)]) H fun H =>
     b3 H
   refine vB <|
    qD (fun v11=>Z [p 3 (R 3),p 5 (O 21),p 9 (R 9),p 49 (L y190 a1.2.2),p 50 (I (a1.2.2.length:Int)),p 51 (I v9)] [(9,K 190 y190 v11),(21,A 3 i64 v10 0),(3,K 43 y43 a1)]) H fun v11 H =>
    vQ <|
    qB (Z [p 3 (R 3),p 5 (O 21),p 9 (R 9),p 49 (L y190 a1.2.2),p 50 (I (a1.2.2.length:Int)),p 51 (I v9),p 69 (B (v11.2.1 != 1&&v11.2.1 != 2||!vl (u162 a1 v11.2.2)))] [(9,K 190 y190 v11),(21,A 3 i64 v10 0),(3,K 43 y43 a1)]) H fun H =>
    cD H (fun H=>?_) (fun H=>?_)
   ·refine qA (Z [p 4 (B false)] [(9,K 190 y190 v11),(21,A 3 i64 v10 0),(3,K 43 y43 a1)]) <|
     vTT<|fR<|fDD<|t4<|t3<|fDD<|t2<|hr H
   refine vK<|fQ <|
    qA (Z [p 3 (R 3),p 5 (O 21),p 9 (R 9),p 49 (L y190 a1.2.2),p 50 (I (a1.2.2.length:Int)),p 51 (I v9),p 72 (B (v11.2.1==1))] [(9,K 190 y190 v11),(21,A 3 i64 v10 0),(3,K 43 y43 a1)]) <|
    cD H (fun H=>?_) (fun H=>?_)
   ·refine zB (Z [p 3 (R 3),p 5 (O 21),p 49 (L y190 a1.2.2),p 50 (I (a1.2.2.length:Int)),p 51 (I v9)] [(21,A 3 i64 (v10.set v11.2.2.toNat (v10.getD v11.2.2.toNat 0+1)) 0),(9,K 190 y190 v11),(3,K 43 y43 a1)]) H fun H =>
     fK<|n4 H
   exact vK<|fK<|n4 H
  exact vE<|fE<|e3<|fX rfl<|n2 H
 refine qA (Z [p 2 (R 2),p 3 (R 3),p 5 (O 21),p 23 (L y150 a1.1),p 24 (I (a1.1.length:Int)),p 25 (I 0)] [(21,A 3 i64 (List.replicate (a1.2.1.length:Int).toNat 0) 0),(3,K 43 y43 a1),(2,Ob.box 39 [L y148 a0])]) <|
  vB <|
  lX (fun ((v2,v3):Int×List Int)=>Z [p 2 (R 2),p 3 (R 3),p 5 (O 21),p 23 (L y150 a1.1),p 24 (I (a1.1.length:Int)),p 25 (I v2)] [(21,A 3 i64 v3 0),(3,K 43 y43 a1),(2,Ob.box 39 [L y148 a0])]) ((0,List.replicate (a1.2.1.length:Int).toNat 0)) H fun _ g1 b1 e1 t1 ⟨v2,v3⟩ H =>
  qA (Z [p 2 (R 2),p 3 (R 3),p 5 (O 21),p 23 (L y150 a1.1),p 24 (I (a1.1.length:Int)),p 25 (I v2),p 26 (B (decide (v2 < (a1.1.length:Int))))] [(21,A 3 i64 v3 0),(3,K 43 y43 a1),(2,Ob.box 39 [L y148 a0])]) <|
  vQ <|
  cD H (fun H=>?_) (fun H=>?_)
 ·refine vK<|fQ<|vQ<|vB <|
   qD (fun v4=>Z [p 2 (R 2),p 3 (R 3),p 5 (O 21),p 7 (R 7),p 23 (L y150 a1.1),p 24 (I (a1.1.length:Int)),p 25 (I v2)] [(7,K 150 y150 v4),(21,A 3 i64 v3 0),(3,K 43 y43 a1),(2,Ob.box 39 [L y148 a0])]) H fun v4 H =>
   vQ <|
   qB (Z [p 2 (R 2),p 3 (R 3),p 5 (O 21),p 7 (R 7),p 23 (L y150 a1.1),p 24 (I (a1.1.length:Int)),p 25 (I v2),p 33 (B !vl (u161 a1 a0 v4))] [(7,K 150 y150 v4),(21,A 3 i64 v3 0),(3,K 43 y43 a1),(2,Ob.box 39 [L y148 a0])]) H fun H =>
   cD H (fun H=>?_) (fun H=>?_)
  ·refine qA (Z [p 4 (B false)] [(7,K 150 y150 v4),(21,A 3 i64 v3 0),(3,K 43 y43 a1),(2,Ob.box 39 [L y148 a0])]) <|
    vTT<|fR<|fDD<|fR<|t1<|fDD<|t0<|hr H
  refine vK<|fQ <|
   zD (fun v5=>Z [p 2 (R 2),p 3 (R 3),p 5 (O 21),p 23 (L y150 a1.1),p 24 (I (a1.1.length:Int)),p 25 (I v2)] [(21,A 3 i64 v5 0),(7,K 150 y150 v4),(3,K 43 y43 a1),(2,Ob.box 39 [L y148 a0])]) H fun v5 H =>
   fK<|fQ <|
   zB (Z [p 2 (R 2),p 3 (R 3),p 5 (O 21),p 23 (L y150 a1.1),p 24 (I (a1.1.length:Int)),p 25 (I (v2+1))] [(21,A 3 i64 v5 0),(7,K 150 y150 v4),(3,K 43 y43 a1),(2,Ob.box 39 [L y148 a0])]) H fun H =>
   b1 H
 exact vE<|fE<|e1<|fX rfl<|n0 H
def u69J3:Unit->Option (Bool)
 | _ =>
 some true
def u69L4 (v9:List Int) (a0:Y46) (g4:Int->Option (Bool)):Int->Option (Bool)
 | v11 =>
 if (decide (v11 < (a0.2.2.length:Int)))=true then
  gd (ix v11 a0.2.2.length/\True)<|lt (a0.2.2.getD v11.toNat (dflt y126)) fun v12 =>
  gd (ix v11 v9.length/\v11.toNat < v9.length/\(u121 v12 (v9.getD v11.toNat 0)).isSome=true/\True) <|
  if (!vl (u121 v12 (v9.getD v11.toNat 0)))=true then
   some false
  else
   gd (in64 (v11+1)/\True) <|
   g4 (v11+1)
 else
  u69J3 ()
def u69J0 (a0:Y46):List Int->Option (Bool)
 | v9 =>
 lp (u69L4 v9 a0) 0
def u69J2 (v4:Int) (g1:Int×List Int->Option (Bool)):List Int->Option (Bool)
 | v8 =>
 gd (in64 (v4+1)/\True) <|
 g1 (v4+1,v8)
def u69L1 (v0:List Y171) (a0:Y46) (g1:Int×List Int->Option (Bool)):Int×List Int->Option (Bool)
 | (v4,v5) =>
 if (decide (v4 < (v0.length:Int)))=true then
  gd (ix v4 v0.length/\v4.toNat < v0.length/\True)<|lt (v0.getD v4.toNat (dflt y171)) fun v6 =>
  if (!v6.2.2.2)=true then
   gd (ix v6.2.2.1 v5.length/\v6.2.2.1.toNat < v5.length/\in64 (v5.getD v6.2.2.1.toNat 0+1)/\ix v6.2.2.1 v5.length/\v6.2.2.1.toNat < v5.length/\True)<|lt (v5.set v6.2.2.1.toNat (v5.getD v6.2.2.1.toNat 0+1)) fun v7 =>
   u69J2 v4 g1 v7
  else
   u69J2 v4 g1 v5
 else
  u69J0 a0 v5
def u69 (a0:Y46):Option (Bool) :=
 gd ((u119 a0.1 a0.2.1).isSome=true/\True) <|
 if (!vl (u119 a0.1 a0.2.1)||(a0.2.2.length:Int) != (a0.2.1.2.1.length:Int))=true then
  some false
 else
  gd ((0<=(a0.2.2.length:Int)/\(a0.2.2.length:Int)=(a0.2.2.length:Int)/\(a0.2.2.length:Int).toNat*8<=281474976710656/\(a0.2.2.length:Int)<=9223372036854775807)/\True) <|
  gd ((u120 a0.2.1).isSome=true/\True)<|lt (vl (u120 a0.2.1)) fun v0 =>
  lp (u69L1 v0 a0) ((0,List.replicate (a0.2.2.length:Int).toNat 0))
def k69:Ct:=lct 69 [.agg y46] (fun x=>u69 x.1) (fun r:Bool=>B r) (fun _=>())
theorem o69:Ok prog k69:=by
 refine okL [.tmp 2] func69 ntmps69 results69 ?_
 intro y ⟨a0,_⟩ r H Q hn hr
 have:HT _ _:=⟨tc o121 (tc o120 (tc o119 tn))⟩
 refine qA (Z [p 1 (R 1)] [(1,K 46 y46 a0)]) <|
  vQ <|
  qB (Z [p 1 (R 1),p 23 (B (!vl (u119 a0.1 a0.2.1)||(a0.2.2.length:Int) != (a0.2.1.2.1.length:Int)))] [(1,K 46 y46 a0)]) H fun H =>
  cD H (fun H=>?_) (fun H=>?_)
 ·refine qA (Z [p 2 (B false)] [(1,K 46 y46 a0)]) <|
   vTT<|fR<|hr H
 refine vK<|fQ <|
  qB (Z [p 1 (R 1),p 3 (O 27)] [(27,A 2 i64 (List.replicate (a0.2.2.length:Int).toNat 0) 0),(1,K 46 y46 a0)]) H fun H =>
  jN r (fun (v9:List Int)=>Z [p 1 (R 1),p 3 (O 27)] [(27,A 2 i64 v9 0),(1,K 46 y46 a0)]) (u69J0 a0) (fun v9 H=>?_) (fun _ n0 e0 t0=>?_)
 ·refine jN r (fun (_:Unit)=>Z [] []) (u69J3) (fun _ H=>?_) (fun _ n3 e3 t3=>?_)
  ·refine qA (Z [p 2 (B true)] []) <|
    vTT<|hr H
  refine qA (Z [p 3 (O 27),p 48 (L y126 a0.2.2),p 49 (I (a0.2.2.length:Int)),p 50 (I 0)] [(27,A 2 i64 v9 0),(1,K 46 y46 a0)]) <|
   vB <|
   lX (fun (v11:Int)=>Z [p 3 (O 27),p 48 (L y126 a0.2.2),p 49 (I (a0.2.2.length:Int)),p 50 (I v11)] [(27,A 2 i64 v9 0)]) 0 H fun _ g4 b4 e4 t4 v11 H =>
   qA (Z [p 3 (O 27),p 48 (L y126 a0.2.2),p 49 (I (a0.2.2.length:Int)),p 50 (I v11),p 51 (B (decide (v11 < (a0.2.2.length:Int))))] [(27,A 2 i64 v9 0)]) <|
   vQ <|
   cD H (fun H=>?_) (fun H=>?_)
  ·refine vK<|fQ<|vQ<|vB <|
    qD (fun v12=>Z [p 3 (O 27),p 6 (I v11),p 7 (R 7),p 48 (L y126 a0.2.2),p 49 (I (a0.2.2.length:Int)),p 50 (I v11)] [(7,K 126 y126 v12),(27,A 2 i64 v9 0)]) H fun v12 H =>
    qB (Z [p 3 (O 27),p 48 (L y126 a0.2.2),p 49 (I (a0.2.2.length:Int)),p 50 (I v11),p 61 (B !vl (u121 v12 (v9.getD v11.toNat 0)))] [(7,K 126 y126 v12),(27,A 2 i64 v9 0)]) H fun H =>
    cD H (fun H=>?_) (fun H=>?_)
   ·refine qA (Z [p 2 (B false)] [(7,K 126 y126 v12),(27,A 2 i64 v9 0)]) <|
     vTT<|fDD<|fR<|t4<|fDD<|t3<|hr H
   refine vK<|fK<|fQ <|
    zB (Z [p 3 (O 27),p 48 (L y126 a0.2.2),p 49 (I (a0.2.2.length:Int)),p 50 (I (v11+1))] [(7,K 126 y126 v12),(27,A 2 i64 v9 0)]) H fun H =>
    b4 H
  exact vE<|fE<|e4<|fX rfl<|n3 H
 refine qD (fun v0=>Z [p 1 (R 1),p 3 (O 27),p 30 (O 30),p 31 (I (v0.length:Int)),p 32 (I 0)] [(30,A 171 y171 v0 0),(27,A 2 i64 (List.replicate (a0.2.2.length:Int).toNat 0) 0),(1,K 46 y46 a0)]) H fun v0 H =>
  vB <|
  lX (fun ((v4,v5):Int×List Int)=>Z [p 1 (R 1),p 3 (O 27),p 30 (O 30),p 31 (I (v0.length:Int)),p 32 (I v4)] [(30,A 171 y171 v0 0),(27,A 2 i64 v5 0),(1,K 46 y46 a0)]) ((0,List.replicate (a0.2.2.length:Int).toNat 0)) H fun _ g1 b1 e1 t1 ⟨v4,v5⟩ H =>
  qA (Z [p 1 (R 1),p 3 (O 27),p 30 (O 30),p 31 (I (v0.length:Int)),p 32 (I v4),p 33 (B (decide (v4 < (v0.length:Int))))] [(30,A 171 y171 v0 0),(27,A 2 i64 v5 0),(1,K 46 y46 a0)]) <|
  vQ <|
  cD H (fun H=>?_) (fun H=>?_)
 ·refine vK<|fQ <|
   jN r (fun (v8:List Int)=>Z [p 1 (R 1),p 3 (O 27),p 30 (O 30),p 31 (I (v0.length:Int)),p 32 (I v4)] [(27,A 2 i64 v8 0),(30,A 171 y171 v0 0),(1,K 46 y46 a0)]) (u69J2 v4 g1) (fun v8 H=>?_) (fun _ n2 e2 t2=>?_)
  ·refine zB (Z [p 1 (R 1),p 3 (O 27),p 30 (O 30),p 31 (I (v0.length:Int)),p 32 (I (v4+1))] [(27,A 2 i64 v8 0),(30,A 171 y171 v0 0),(1,K 46 y46 a0)]) H fun H =>
    b1 H
  refine vB <|
   qD (fun v6=>Z [p 1 (R 1),p 3 (O 27),p 5 (R 5),p 30 (O 30),p 31 (I (v0.length:Int)),p 32 (I v4)] [(5,Ob.box 171 (cellsD true y171 v6)),(30,A 171 y171 v0 0),(27,A 2 i64 v5 0),(1,K 46 y46 a0)]) H fun v6 H =>
   qA (Z [p 1 (R 1),p 3 (O 27),p 5 (R 5),p 30 (O 30),p 31 (I (v0.length:Int)),p 32 (I v4),p 38 (B !v6.2.2.2)] [(5,Ob.box 171 (cellsD true y171 v6)),(30,A 171 y171 v0 0),(27,A 2 i64 v5 0),(1,K 46 y46 a0)]) <|
   cD H (fun H=>?_) (fun H=>?_)
  ·refine zD (fun v7=>Z [p 1 (R 1),p 3 (O 27),p 30 (O 30),p 31 (I (v0.length:Int)),p 32 (I v4)] [(27,A 2 i64 v7 0),(5,Ob.box 171 (cellsD true y171 v6)),(30,A 171 y171 v0 0),(1,K 46 y46 a0)]) H fun v7 H =>
    fK<|n2 H
  exact vK<|fK<|n2 H
 exact vE<|fE<|e1<|fX rfl<|n0 H
def u56 (a0:Y46) (a1:List Int):Option (Int ⊕ (Y113×List Bool)×Int) :=
 gd ((u69 a0).isSome=true/\True) <|
 if (!vl (u69 a0))=true then
  some (Sum.inl 1)
 else
  gd ((u70 a0).isSome=true/\True)<|lt (vl (u70 a0)) fun v0 =>
  gd ((u99 v0 a1).isSome=true/\True) <|
  if (!vl (u99 v0 a1))=true then
   some (Sum.inl 2)
  else
   gd ((u100 v0 a1).isSome=true/\True)<|lt (vl (u100 v0 a1)) fun v1 =>
   some (Sum.inr (v1,(0:Int)))
def k56:Ct:=lct 56 [.agg y46,.dat i64.sl] (fun x=>u56 x.1 x.2.1) (two (fun r:Int=>AV.tup [AV.v (Value.pointer none),I r]) (fun r:(Y113×List Bool)×Int=>AV.tup [AV.ob 92 [D y113.pt r.1.1,AV.ow 4 true Ty.bool r.1.2],I r.2])) (fun _=>())
def k56L:Ct:=lctL 56 [.agg y46,.dat i64.sl] (fun x=>u56 x.1 x.2.1) (fun r:Int=>AV.tup [AV.v (Value.pointer none),I r]) ()
def k56R:Ct:=lctR 56 [.agg y46,.dat i64.sl] (fun x=>u56 x.1 x.2.1) (fun r:(Y113×List Bool)×Int=>AV.tup [AV.ob 92 [D y113.pt r.1.1,AV.ow 4 true Ty.bool r.1.2],I r.2]) ()
theorem o56:Ok prog k56:=by
 refine okL [.tmp 4,.tmp 5] func56 ntmps56 results56 ?_
 intro y ⟨a0,a1,_⟩ r H Q hn hr
 have:HT _ _:=⟨tc o100 (tc o99 (tc o70 (tc o69 tn)))⟩
 refine qA (Z [p 1 (L i64 a1),p 2 (R 2)] [(2,K 46 y46 a0)]) <|
  vQ <|
  qB (Z [p 1 (L i64 a1),p 2 (R 2),p 9 (B !vl (u69 a0))] [(2,K 46 y46 a0)]) H fun H =>
  cD H (fun H=>?_) (fun H=>?_)
 ·refine qA (Z [p 4 (AV.v (Value.pointer none)),p 5 (I 1)] [(2,K 46 y46 a0)]) <|
   vTT<|fR<|hr H
 refine vK<|fQ <|
  qD (fun v0=>Z [p 1 (L i64 a1),p 6 (D y113.pt v0)] [(2,K 46 y46 a0)]) H fun v0 H =>
  vQ <|
  qB (Z [p 1 (L i64 a1),p 6 (D y113.pt v0),p 15 (B !vl (u99 v0 a1))] [(2,K 46 y46 a0)]) H fun H =>
  cD H (fun H=>?_) (fun H=>?_)
 ·refine qA (Z [p 4 (AV.v (Value.pointer none)),p 5 (I 2)] [(2,K 46 y46 a0)]) <|
   vTT<|fR<|hr H
 refine vK<|fQ <|
  qD (fun v1=>Z [p 4 (R 1018),p 5 (I 0)] [(1018,Ob.box 92 [D y113.pt v1.1,AV.os 18 0]),(18,A 4 Ty.bool v1.2 0),(2,K 46 y46 a0)]) H fun v1 H =>
  vTT<|hr H
theorem o56L:Ok prog k56L:=ok_l o56
theorem o56R:Ok prog k56R:=ok_r o56
def u42 (a0:Y46) (a1:List Int) (a2:Int):Option (Int ⊕ (Y113×List Bool)×Int) :=
 if (isL (u56 a0 a1))=true then
  gd (isL (u56 a0 a1)=true/\True) <|
  if (vL (u56 a0 a1)==0)=true then
   none
  else
   some (Sum.inl (vL (u56 a0 a1)))
 else
  gd (isR (u56 a0 a1)=true/\True) <|
  gd ((((vR (u56 a0 a1)).2==0)=true/\True->(u85 (vR (u56 a0 a1)).1.1 a2).isSome=true)/\True) <|
  if ((vR (u56 a0 a1)).2==0&&!vl (u85 (vR (u56 a0 a1)).1.1 a2))=true then
   some (Sum.inl 4)
  else
   some (Sum.inr (vR (u56 a0 a1)))
def k42:Ct:=lct 42 [.agg y46,.dat i64.sl,.dat i64] (fun x=>u42 x.1 x.2.1 x.2.2.1) (two (fun r:Int=>AV.tup [AV.v (Value.pointer none),I r]) (fun r:(Y113×List Bool)×Int=>AV.tup [AV.ob 92 [D y113.pt r.1.1,AV.ow 4 true Ty.bool r.1.2],I r.2])) (fun _=>())
def k42L:Ct:=lctL 42 [.agg y46,.dat i64.sl,.dat i64] (fun x=>u42 x.1 x.2.1 x.2.2.1) (fun r:Int=>AV.tup [AV.v (Value.pointer none),I r]) ()
def k42R:Ct:=lctR 42 [.agg y46,.dat i64.sl,.dat i64] (fun x=>u42 x.1 x.2.1 x.2.2.1) (fun r:(Y113×List Bool)×Int=>AV.tup [AV.ob 92 [D y113.pt r.1.1,AV.ow 4 true Ty.bool r.1.2],I r.2]) ()
theorem o42:Ok prog k42:=by
 refine okL [.tmp 6,.tmp 7] func42 ntmps42 results42 ?_
 intro y ⟨a0,a1,a2,_⟩ r H Q hn hr
 have:HT _ _:=⟨tc o85 tn⟩
 refine qA (Z [p 1 (L i64 a1),p 2 (J a2),p 3 (R 3)] [(3,K 46 y46 a0)]) <|
  sp H (fun H=>?_) (fun H=>?_)
 ·have:HT _ _:=⟨tc o56L (HT.h)⟩
  refine qB (Z [p 2 (J a2),p 8 (AV.v (Value.pointer none)),p 9 (I (vL (u56 a0 a1)))] [(3,K 46 y46 a0)]) H fun H=>?_
  by_cases hz:(vL (u56 a0 a1)==0)=true
  ·rw [if_pos hz] at H
   exact vQ<|dead H
  rw [if_neg hz] at H
  have hz:(vL (u56 a0 a1)==0)=false:=by simpa using hz
  refine vQ (vQ (sv_nil (tp:=8) (tc:=9) (tb:=26) (z:=vL (u56 a0 a1)) rfl rfl rfl (fun w Q' k=>?_) (fQ ?_)))
  ·refine vs_region (vo_pure rfl rfl (vo_pure rfl rfl (vo_isF' hz (vo_pure rfl rfl ?_))))
   iterate 7 refine vo_guard_skip rfl rfl rfl rfl ?_
   refine vo_pure rfl rfl (oN ?_)
   exact fin_sub (by ((repeat (refine sub_cons rfl ?_)); exact sub_nil)) k
  refine cf (by kernel_rfl) <|
   vK<|fQ <|
   qA (Z [p 6 (AV.v (Value.pointer none)),p 7 (I (vL (u56 a0 a1)))] [(3,K 46 y46 a0)]) <|
   vTT<|hr H
 have:HT _ _:=⟨tc o56R (HT.h)⟩
 refine qB (Z [p 2 (J a2),p 8 (R 1013),p 9 (I (vR (u56 a0 a1)).2)] [(1013,Ob.box 92 [D y113.pt (vR (u56 a0 a1)).1.1,AV.os 13 0]),(13,A 4 Ty.bool (vR (u56 a0 a1)).1.2 0),(3,K 46 y46 a0)]) H fun H =>
  vQ <|
  qB (Z [p 8 (R 1013),p 9 (I (vR (u56 a0 a1)).2),p 26 (B ((vR (u56 a0 a1)).2==0&&!vl (u85 (vR (u56 a0 a1)).1.1 a2)))] [(1013,Ob.box 92 [D y113.pt (vR (u56 a0 a1)).1.1,AV.os 13 0]),(13,A 4 Ty.bool (vR (u56 a0 a1)).1.2 0),(3,K 46 y46 a0)]) H fun H =>
  cD H (fun H=>?_) (fun H=>?_)
 ·refine qA (Z [p 6 (AV.v (Value.pointer none)),p 7 (I 4)] [(1013,Ob.box 92 [D y113.pt (vR (u56 a0 a1)).1.1,AV.os 13 0]),(13,A 4 Ty.bool (vR (u56 a0 a1)).1.2 0),(3,K 46 y46 a0)]) <|
   vTT<|fR<|hr H
 refine vK<|fQ <|
  qA (Z [p 6 (R 1013),p 7 (I (vR (u56 a0 a1)).2)] [(1013,Ob.box 92 [D y113.pt (vR (u56 a0 a1)).1.1,AV.os 13 0]),(13,A 4 Ty.bool (vR (u56 a0 a1)).1.2 0),(3,K 46 y46 a0)]) <|
  vTT<|hr H
theorem o42L:Ok prog k42L:=ok_l o42
theorem o42R:Ok prog k42R:=ok_r o42
def u15J0:Unit->Option (Bool)
 | _ =>
 some true
def u15L1 (a0:List Int) (a1:List Int) (g1:Int->Option (Bool)):Int->Option (Bool)
 | v0 =>
 if (decide (v0 < (a0.length:Int)))=true then
  gd (ix v0 a0.length/\ix v0 a1.length/\True) <|
  if (a0.getD v0.toNat 0 != a1.getD v0.toNat 0)=true then
   some false
  else
   gd (in64 (v0+1)/\True) <|
   g1 (v0+1)
 else
  u15J0 ()
def u15 (a0:List Int) (a1:List Int):Option (Bool) :=
 if ((a0.length:Int) != (a1.length:Int))=true then
  some false
 else
  lp (u15L1 a0 a1) 0
def k15:Ct:=lct 15 [.dat i64.sl,.dat i64.sl] (fun x=>u15 x.1 x.2.1) (fun r:Bool=>B r) (fun _=>())
theorem o15:Ok prog k15:=by
 refine okL [.tmp 4] func15 ntmps15 results15 ?_
 intro y ⟨a0,a1,_⟩ r H Q hn hr
 have:HT _ _:=⟨@tn prog⟩
 refine qA (Z [p 0 (L i64 a0),p 1 (L i64 a1)] []) <|
  vQ <|
  qA (Z [p 0 (L i64 a0),p 1 (L i64 a1),p 10 (B ((a0.length:Int) != (a1.length:Int)))] []) <|
  cD H (fun H=>?_) (fun H=>?_)
 ·refine qA (Z [p 4 (B false)] []) <|
   vTT<|fR<|hr H
 refine vK<|fQ <|
  jN r (fun (_:Unit)=>Z [] []) (u15J0) (fun _ H=>?_) (fun _ n0 e0 t0=>?_)
 ·refine qA (Z [p 4 (B true)] []) <|
   vTT<|hr H
 refine qA (Z [p 0 (L i64 a0),p 1 (L i64 a1),p 5 (I 0)] []) <|
  vB <|
  lX (fun (v0:Int)=>Z [p 0 (L i64 a0),p 1 (L i64 a1),p 5 (I v0)] []) 0 H fun _ g1 b1 e1 t1 v0 H =>
  vQ <|
  qA (Z [p 0 (L i64 a0),p 1 (L i64 a1),p 5 (I v0),p 14 (B (decide (v0 < (a0.length:Int))))] []) <|
  cD H (fun H=>?_) (fun H=>?_)
 ·refine vK<|fQ<|vQ<|vB <|
   qB (Z [p 0 (L i64 a0),p 1 (L i64 a1),p 5 (I v0),p 25 (B (a0.getD v0.toNat 0 != a1.getD v0.toNat 0))] []) H fun H =>
   cD H (fun H=>?_) (fun H=>?_)
  ·refine qA (Z [p 4 (B false)] []) <|
    vTT<|fDD<|fR<|t1<|fDD<|t0<|hr H
  refine vK<|fK<|fQ <|
   zB (Z [p 0 (L i64 a0),p 1 (L i64 a1),p 5 (I (v0+1))] []) H fun H =>
   b1 H
 exact vE<|fE<|e1<|fX rfl<|n0 H
def u92 (a0:Y126) (a1:Y126):Option (Bool) :=
 gd ((u15 a0.1 a1.1).isSome=true/\True) <|
 if (!vl (u15 a0.1 a1.1))=true then
  some false
 else
  gd ((u15 a0.2.1 a1.2.1).isSome=true/\True) <|
  if (!vl (u15 a0.2.1 a1.2.1))=true then
   some false
  else
   gd ((u15 a0.2.2.1 a1.2.2.1).isSome=true/\True) <|
   if (!vl (u15 a0.2.2.1 a1.2.2.1))=true then
    some false
   else
    gd ((u15 a0.2.2.2 a1.2.2.2).isSome=true/\True) <|
    if (!vl (u15 a0.2.2.2 a1.2.2.2))=true then
     some false
    else
     some true
def k92:Ct:=lct 92 [.agg y126,.agg y126] (fun x=>u92 x.1 x.2.1) (fun r:Bool=>B r) (fun _=>())
theorem o92:Ok prog k92:=by
 refine okL [.tmp 4] func92 ntmps92 results92 ?_
 intro y ⟨a0,a1,_⟩ r H Q hn hr
 have:HT _ _:=⟨tc o15 tn⟩
 refine qA (Z [p 2 (R 2),p 3 (R 3)] [(3,K 126 y126 a1),(2,K 126 y126 a0)]) <|
  vQ <|
  qB (Z [p 2 (R 2),p 3 (R 3),p 10 (B !vl (u15 a0.1 a1.1))] [(3,K 126 y126 a1),(2,K 126 y126 a0)]) H fun H =>
  cD H (fun H=>?_) (fun H=>?_)
 ·refine qA (Z [p 4 (B false)] [(3,K 126 y126 a1),(2,K 126 y126 a0)]) <|
   vTT<|fR<|hr H
 refine vK<|fQ<|vQ <|
  qB (Z [p 2 (R 2),p 3 (R 3),p 16 (B !vl (u15 a0.2.1 a1.2.1))] [(3,K 126 y126 a1),(2,K 126 y126 a0)]) H fun H =>
  cD H (fun H=>?_) (fun H=>?_)
 ·refine qA (Z [p 4 (B false)] [(3,K 126 y126 a1),(2,K 126 y126 a0)]) <|
   vTT<|fR<|hr H
 refine vK<|fQ<|vQ <|
  qB (Z [p 2 (R 2),p 3 (R 3),p 22 (B !vl (u15 a0.2.2.1 a1.2.2.1))] [(3,K 126 y126 a1),(2,K 126 y126 a0)]) H fun H =>
  cD H (fun H=>?_) (fun H=>?_)
 ·refine qA (Z [p 4 (B false)] [(3,K 126 y126 a1),(2,K 126 y126 a0)]) <|
   vTT<|fR<|hr H
 refine vK<|fQ<|vQ <|
  qB (Z [p 28 (B !vl (u15 a0.2.2.2 a1.2.2.2))] [(3,K 126 y126 a1),(2,K 126 y126 a0)]) H fun H =>
  cD H (fun H=>?_) (fun H=>?_)
 ·refine qA (Z [p 4 (B false)] [(3,K 126 y126 a1),(2,K 126 y126 a0)]) <|
   vTT<|fR<|hr H
 refine vK<|fQ <|
  qA (Z [p 4 (B true)] [(3,K 126 y126 a1),(2,K 126 y126 a0)]) <|
  vTT<|hr H
def u48J0:Unit->Option (Bool)
 | _ =>
 some true
def u48L1 (a0:List Y126) (a1:List Y126) (g1:Int->Option (Bool)):Int->Option (Bool)
 | v0 =>
 if (decide (v0 < (a0.length:Int)))=true then
  gd (ix v0 a0.length/\ix v0 a1.length/\(u92 (a0.getD v0.toNat (dflt y126)) (a1.getD v0.toNat (dflt y126))).isSome=true/\True) <|
  if (!vl (u92 (a0.getD v0.toNat (dflt y126)) (a1.getD v0.toNat (dflt y126))))=true then
   some false
  else
   gd (in64 (v0+1)/\True) <|
   g1 (v0+1)
 else
  u48J0 ()
def u48 (a0:List Y126) (a1:List Y126):Option (Bool) :=
 if ((a0.length:Int) != (a1.length:Int))=true then
  some false
 else
  lp (u48L1 a0 a1) 0
def k48:Ct:=lct 48 [.dat y126.sl,.dat y126.sl] (fun x=>u48 x.1 x.2.1) (fun r:Bool=>B r) (fun _=>())
theorem o48:Ok prog k48:=by
 refine okL [.tmp 4] func48 ntmps48 results48 ?_
 intro y ⟨a0,a1,_⟩ r H Q hn hr
 have:HT _ _:=⟨tc o92 tn⟩
 refine qA (Z [p 0 (L y126 a0),p 1 (L y126 a1)] []) <|
  vQ <|
  qA (Z [p 0 (L y126 a0),p 1 (L y126 a1),p 10 (B ((a0.length:Int) != (a1.length:Int)))] []) <|
  cD H (fun H=>?_) (fun H=>?_)
 ·refine qA (Z [p 4 (B false)] []) <|
   vTT<|fR<|hr H
 refine vK<|fQ <|
  jN r (fun (_:Unit)=>Z [] []) (u48J0) (fun _ H=>?_) (fun _ n0 e0 t0=>?_)
 ·refine qA (Z [p 4 (B true)] []) <|
   vTT<|hr H
 refine qA (Z [p 0 (L y126 a0),p 1 (L y126 a1),p 5 (I 0)] []) <|
  vB <|
  lX (fun (v0:Int)=>Z [p 0 (L y126 a0),p 1 (L y126 a1),p 5 (I v0)] []) 0 H fun _ g1 b1 e1 t1 v0 H =>
  vQ <|
  qA (Z [p 0 (L y126 a0),p 1 (L y126 a1),p 5 (I v0),p 14 (B (decide (v0 < (a0.length:Int))))] []) <|
  cD H (fun H=>?_) (fun H=>?_)
 ·refine vK<|fQ<|vQ<|vB <|
   qB (Z [p 0 (L y126 a0),p 1 (L y126 a1),p 5 (I v0),p 26 (B !vl (u92 (a0.getD v0.toNat (dflt y126)) (a1.getD v0.toNat (dflt y126))))] []) H fun H =>
   cD H (fun H=>?_) (fun H=>?_)
  ·refine qA (Z [p 4 (B false)] []) <|
    vTT<|fDD<|fR<|t1<|fDD<|t0<|hr H
  refine vK<|fK<|fQ <|
   zB (Z [p 0 (L y126 a0),p 1 (L y126 a1),p 5 (I (v0+1))] []) H fun H =>
   b1 H
 exact vE<|fE<|e1<|fX rfl<|n0 H
def u142 (a0:Y190) (a1:Y190):Option (Bool) :=
 if (!decide (a0.1=a1.1))=true then
  some false
 else
  if (a0.2.1 != a1.2.1)=true then
   some false
  else
   if (a0.2.2 != a1.2.2)=true then
    some false
   else
    some true
def k142:Ct:=lct 142 [.agg y190,.agg y190] (fun x=>u142 x.1 x.2.1) (fun r:Bool=>B r) (fun _=>())
theorem o142:Ok prog k142:=by
 refine okL [.tmp 4] func142 ntmps142 results142 ?_
 intro y ⟨a0,a1,_⟩ r H Q hn hr
 have:HT _ _:=⟨@tn prog⟩
 refine qA (Z [p 2 (R 2),p 3 (R 3)] [(3,K 190 y190 a1),(2,K 190 y190 a0)]) <|
  vQ <|
  qA (Z [p 2 (R 2),p 3 (R 3),p 9 (B !decide (a0.1=a1.1))] [(3,K 190 y190 a1),(2,K 190 y190 a0)]) <|
  cD H (fun H=>?_) (fun H=>?_)
 ·refine qA (Z [p 4 (B false)] [(3,K 190 y190 a1),(2,K 190 y190 a0)]) <|
   vTT<|fR<|hr H
 refine vK<|fQ<|vQ <|
  qA (Z [p 2 (R 2),p 3 (R 3),p 14 (B (a0.2.1 != a1.2.1))] [(3,K 190 y190 a1),(2,K 190 y190 a0)]) <|
  cD H (fun H=>?_) (fun H=>?_)
 ·refine qA (Z [p 4 (B false)] [(3,K 190 y190 a1),(2,K 190 y190 a0)]) <|
   vTT<|fR<|hr H
 refine vK<|fQ<|vQ <|
  qA (Z [p 19 (B (a0.2.2 != a1.2.2))] [(3,K 190 y190 a1),(2,K 190 y190 a0)]) <|
  cD H (fun H=>?_) (fun H=>?_)
 ·refine qA (Z [p 4 (B false)] [(3,K 190 y190 a1),(2,K 190 y190 a0)]) <|
   vTT<|fR<|hr H
 refine vK<|fQ <|
  qA (Z [p 4 (B true)] [(3,K 190 y190 a1),(2,K 190 y190 a0)]) <|
  vTT<|hr H
def u91J0:Unit->Option (Bool)
 | _ =>
 some true
def u91L1 (a0:List Y190) (a1:List Y190) (g1:Int->Option (Bool)):Int->Option (Bool)
 | v0 =>
 if (decide (v0 < (a0.length:Int)))=true then
  gd (ix v0 a0.length/\ix v0 a1.length/\(u142 (a0.getD v0.toNat (dflt y190)) (a1.getD v0.toNat (dflt y190))).isSome=true/\True) <|
  if (!vl (u142 (a0.getD v0.toNat (dflt y190)) (a1.getD v0.toNat (dflt y190))))=true then
   some false
  else
   gd (in64 (v0+1)/\True) <|
   g1 (v0+1)
 else
  u91J0 ()
def u91 (a0:List Y190) (a1:List Y190):Option (Bool) :=
 if ((a0.length:Int) != (a1.length:Int))=true then
  some false
 else
  lp (u91L1 a0 a1) 0
def k91:Ct:=lct 91 [.dat y190.sl,.dat y190.sl] (fun x=>u91 x.1 x.2.1) (fun r:Bool=>B r) (fun _=>())
theorem o91:Ok prog k91:=by
 refine okL [.tmp 4] func91 ntmps91 results91 ?_
 intro y ⟨a0,a1,_⟩ r H Q hn hr
 have:HT _ _:=⟨tc o142 tn⟩
 refine qA (Z [p 0 (L y190 a0),p 1 (L y190 a1)] []) <|
  vQ <|
  qA (Z [p 0 (L y190 a0),p 1 (L y190 a1),p 10 (B ((a0.length:Int) != (a1.length:Int)))] []) <|
  cD H (fun H=>?_) (fun H=>?_)
 ·refine qA (Z [p 4 (B false)] []) <|
   vTT<|fR<|hr H
 refine vK<|fQ <|
  jN r (fun (_:Unit)=>Z [] []) (u91J0) (fun _ H=>?_) (fun _ n0 e0 t0=>?_)
 ·refine qA (Z [p 4 (B true)] []) <|
   vTT<|hr H
 refine qA (Z [p 0 (L y190 a0),p 1 (L y190 a1),p 5 (I 0)] []) <|
  vB <|
  lX (fun (v0:Int)=>Z [p 0 (L y190 a0),p 1 (L y190 a1),p 5 (I v0)] []) 0 H fun _ g1 b1 e1 t1 v0 H =>
  vQ <|
  qA (Z [p 0 (L y190 a0),p 1 (L y190 a1),p 5 (I v0),p 14 (B (decide (v0 < (a0.length:Int))))] []) <|
  cD H (fun H=>?_) (fun H=>?_)
 ·refine vK<|fQ<|vQ<|vB <|
   qB (Z [p 0 (L y190 a0),p 1 (L y190 a1),p 5 (I v0),p 26 (B !vl (u142 (a0.getD v0.toNat (dflt y190)) (a1.getD v0.toNat (dflt y190))))] []) H fun H =>
   cD H (fun H=>?_) (fun H=>?_)
  ·refine qA (Z [p 4 (B false)] []) <|
    vTT<|fDD<|fR<|t1<|fDD<|t0<|hr H
  refine vK<|fK<|fQ <|
   zB (Z [p 0 (L y190 a0),p 1 (L y190 a1),p 5 (I (v0+1))] []) H fun H =>
   b1 H
 exact vE<|fE<|e1<|fX rfl<|n0 H
def u90J0:Unit->Option (Bool)
 | _ =>
 some true
def u90L1 (a0:List ByteArray) (a1:List ByteArray) (g1:Int->Option (Bool)):Int->Option (Bool)
 | v0 =>
 if (decide (v0 < (a0.length:Int)))=true then
  gd (ix v0 a0.length/\ix v0 a1.length/\True) <|
  if (!decide (a0.getD v0.toNat (dflt Ty.str)=a1.getD v0.toNat (dflt Ty.str)))=true then
   some false
  else
   gd (in64 (v0+1)/\True) <|
   g1 (v0+1)
 else
  u90J0 ()
def u90 (a0:List ByteArray) (a1:List ByteArray):Option (Bool) :=
 if ((a0.length:Int) != (a1.length:Int))=true then
  some false
 else
  lp (u90L1 a0 a1) 0
def k90:Ct:=lct 90 [.dat Ty.str.sl,.dat Ty.str.sl] (fun x=>u90 x.1 x.2.1) (fun r:Bool=>B r) (fun _=>())
theorem o90:Ok prog k90:=by
 refine okL [.tmp 4] func90 ntmps90 results90 ?_
 intro y ⟨a0,a1,_⟩ r H Q hn hr
 have:HT _ _:=⟨@tn prog⟩
 refine qA (Z [p 0 (L Ty.str a0),p 1 (L Ty.str a1)] []) <|
  vQ <|
  qA (Z [p 0 (L Ty.str a0),p 1 (L Ty.str a1),p 10 (B ((a0.length:Int) != (a1.length:Int)))] []) <|
  cD H (fun H=>?_) (fun H=>?_)
 ·refine qA (Z [p 4 (B false)] []) <|
   vTT<|fR<|hr H
 refine vK<|fQ <|
  jN r (fun (_:Unit)=>Z [] []) (u90J0) (fun _ H=>?_) (fun _ n0 e0 t0=>?_)
 ·refine qA (Z [p 4 (B true)] []) <|
   vTT<|hr H
 refine qA (Z [p 0 (L Ty.str a0),p 1 (L Ty.str a1),p 5 (I 0)] []) <|
  vB <|
  lX (fun (v0:Int)=>Z [p 0 (L Ty.str a0),p 1 (L Ty.str a1),p 5 (I v0)] []) 0 H fun _ g1 b1 e1 t1 v0 H =>
  vQ <|
  qA (Z [p 0 (L Ty.str a0),p 1 (L Ty.str a1),p 5 (I v0),p 14 (B (decide (v0 < (a0.length:Int))))] []) <|
  cD H (fun H=>?_) (fun H=>?_)
 ·refine vK<|fQ<|vQ<|vB <|
   qB (Z [p 0 (L Ty.str a0),p 1 (L Ty.str a1),p 5 (I v0),p 25 (B !decide (a0.getD v0.toNat (dflt Ty.str)=a1.getD v0.toNat (dflt Ty.str)))] []) H fun H =>
   cD H (fun H=>?_) (fun H=>?_)
  ·refine qA (Z [p 4 (B false)] []) <|
    vTT<|fDD<|fR<|t1<|fDD<|t0<|hr H
  refine vK<|fK<|fQ <|
   zB (Z [p 0 (L Ty.str a0),p 1 (L Ty.str a1),p 5 (I (v0+1))] []) H fun H =>
   b1 H
 exact vE<|fE<|e1<|fX rfl<|n0 H
def u141 (a0:Y150) (a1:Y150):Option (Bool) :=
 if (!decide (a0.1=a1.1))=true then
  some false
 else
  if (a0.2.1 != a1.2.1)=true then
   some false
  else
   gd ((u15 a0.2.2 a1.2.2).isSome=true/\True) <|
   if (!vl (u15 a0.2.2 a1.2.2))=true then
    some false
   else
    some true
def k141:Ct:=lct 141 [.agg y150,.agg y150] (fun x=>u141 x.1 x.2.1) (fun r:Bool=>B r) (fun _=>())
theorem o141:Ok prog k141:=by
 refine okL [.tmp 4] func141 ntmps141 results141 ?_
 intro y ⟨a0,a1,_⟩ r H Q hn hr
 have:HT _ _:=⟨tc o15 tn⟩
 refine qA (Z [p 2 (R 2),p 3 (R 3)] [(3,K 150 y150 a1),(2,K 150 y150 a0)]) <|
  vQ <|
  qA (Z [p 2 (R 2),p 3 (R 3),p 9 (B !decide (a0.1=a1.1))] [(3,K 150 y150 a1),(2,K 150 y150 a0)]) <|
  cD H (fun H=>?_) (fun H=>?_)
 ·refine qA (Z [p 4 (B false)] [(3,K 150 y150 a1),(2,K 150 y150 a0)]) <|
   vTT<|fR<|hr H
 refine vK<|fQ<|vQ <|
  qA (Z [p 2 (R 2),p 3 (R 3),p 14 (B (a0.2.1 != a1.2.1))] [(3,K 150 y150 a1),(2,K 150 y150 a0)]) <|
  cD H (fun H=>?_) (fun H=>?_)
 ·refine qA (Z [p 4 (B false)] [(3,K 150 y150 a1),(2,K 150 y150 a0)]) <|
   vTT<|fR<|hr H
 refine vK<|fQ<|vQ <|
  qB (Z [p 20 (B !vl (u15 a0.2.2 a1.2.2))] [(3,K 150 y150 a1),(2,K 150 y150 a0)]) H fun H =>
  cD H (fun H=>?_) (fun H=>?_)
 ·refine qA (Z [p 4 (B false)] [(3,K 150 y150 a1),(2,K 150 y150 a0)]) <|
   vTT<|fR<|hr H
 refine vK<|fQ <|
  qA (Z [p 4 (B true)] [(3,K 150 y150 a1),(2,K 150 y150 a0)]) <|
  vTT<|hr H
def u89J0:Unit->Option (Bool)
 | _ =>
 some true
def u89L1 (a0:List Y150) (a1:List Y150) (g1:Int->Option (Bool)):Int->Option (Bool)
 | v0 =>
 if (decide (v0 < (a0.length:Int)))=true then
  gd (ix v0 a0.length/\ix v0 a1.length/\(u141 (a0.getD v0.toNat (dflt y150)) (a1.getD v0.toNat (dflt y150))).isSome=true/\True) <|
  if (!vl (u141 (a0.getD v0.toNat (dflt y150)) (a1.getD v0.toNat (dflt y150))))=true then
   some false
  else
   gd (in64 (v0+1)/\True) <|
   g1 (v0+1)
 else
  u89J0 ()
def u89 (a0:List Y150) (a1:List Y150):Option (Bool) :=
 if ((a0.length:Int) != (a1.length:Int))=true then
  some false
 else
  lp (u89L1 a0 a1) 0
def k89:Ct:=lct 89 [.dat y150.sl,.dat y150.sl] (fun x=>u89 x.1 x.2.1) (fun r:Bool=>B r) (fun _=>())
theorem o89:Ok prog k89:=by
 refine okL [.tmp 4] func89 ntmps89 results89 ?_
 intro y ⟨a0,a1,_⟩ r H Q hn hr
 have:HT _ _:=⟨tc o141 tn⟩
 refine qA (Z [p 0 (L y150 a0),p 1 (L y150 a1)] []) <|
  vQ <|
  qA (Z [p 0 (L y150 a0),p 1 (L y150 a1),p 10 (B ((a0.length:Int) != (a1.length:Int)))] []) <|
  cD H (fun H=>?_) (fun H=>?_)
 ·refine qA (Z [p 4 (B false)] []) <|
   vTT<|fR<|hr H
 refine vK<|fQ <|
  jN r (fun (_:Unit)=>Z [] []) (u89J0) (fun _ H=>?_) (fun _ n0 e0 t0=>?_)
 ·refine qA (Z [p 4 (B true)] []) <|
   vTT<|hr H
 refine qA (Z [p 0 (L y150 a0),p 1 (L y150 a1),p 5 (I 0)] []) <|
  vB <|
  lX (fun (v0:Int)=>Z [p 0 (L y150 a0),p 1 (L y150 a1),p 5 (I v0)] []) 0 H fun _ g1 b1 e1 t1 v0 H =>
  vQ <|
  qA (Z [p 0 (L y150 a0),p 1 (L y150 a1),p 5 (I v0),p 14 (B (decide (v0 < (a0.length:Int))))] []) <|
  cD H (fun H=>?_) (fun H=>?_)
 ·refine vK<|fQ<|vQ<|vB <|
   qB (Z [p 0 (L y150 a0),p 1 (L y150 a1),p 5 (I v0),p 26 (B !vl (u141 (a0.getD v0.toNat (dflt y150)) (a1.getD v0.toNat (dflt y150))))] []) H fun H =>
   cD H (fun H=>?_) (fun H=>?_)
  ·refine qA (Z [p 4 (B false)] []) <|
    vTT<|fDD<|fR<|t1<|fDD<|t0<|hr H
  refine vK<|fK<|fQ <|
   zB (Z [p 0 (L y150 a0),p 1 (L y150 a1),p 5 (I (v0+1))] []) H fun H =>
   b1 H
 exact vE<|fE<|e1<|fX rfl<|n0 H
def u47 (a0:Y43) (a1:Y43):Option (Bool) :=
 gd ((u89 a0.1 a1.1).isSome=true/\True) <|
 if (!vl (u89 a0.1 a1.1))=true then
  some false
 else
  gd ((u90 a0.2.1 a1.2.1).isSome=true/\True) <|
  if (!vl (u90 a0.2.1 a1.2.1))=true then
   some false
  else
   gd ((u91 a0.2.2 a1.2.2).isSome=true/\True) <|
   if (!vl (u91 a0.2.2 a1.2.2))=true then
    some false
   else
    some true
def k47:Ct:=lct 47 [.agg y43,.agg y43] (fun x=>u47 x.1 x.2.1) (fun r:Bool=>B r) (fun _=>())
theorem o47:Ok prog k47:=by
 refine okL [.tmp 4] func47 ntmps47 results47 ?_
 intro y ⟨a0,a1,_⟩ r H Q hn hr
 have:HT _ _:=⟨tc o91 (tc o90 (tc o89 tn))⟩
 refine qA (Z [p 2 (R 2),p 3 (R 3)] [(3,K 43 y43 a1),(2,K 43 y43 a0)]) <|
  vQ <|
  qB (Z [p 2 (R 2),p 3 (R 3),p 10 (B !vl (u89 a0.1 a1.1))] [(3,K 43 y43 a1),(2,K 43 y43 a0)]) H fun H =>
  cD H (fun H=>?_) (fun H=>?_)
 ·refine qA (Z [p 4 (B false)] [(3,K 43 y43 a1),(2,K 43 y43 a0)]) <|
   vTT<|fR<|hr H
 refine vK<|fQ<|vQ <|
  qB (Z [p 2 (R 2),p 3 (R 3),p 16 (B !vl (u90 a0.2.1 a1.2.1))] [(3,K 43 y43 a1),(2,K 43 y43 a0)]) H fun H =>
  cD H (fun H=>?_) (fun H=>?_)
 ·refine qA (Z [p 4 (B false)] [(3,K 43 y43 a1),(2,K 43 y43 a0)]) <|
   vTT<|fR<|hr H
 refine vK<|fQ<|vQ <|
  qB (Z [p 22 (B !vl (u91 a0.2.2 a1.2.2))] [(3,K 43 y43 a1),(2,K 43 y43 a0)]) H fun H =>
  cD H (fun H=>?_) (fun H=>?_)
 ·refine qA (Z [p 4 (B false)] [(3,K 43 y43 a1),(2,K 43 y43 a0)]) <|
   vTT<|fR<|hr H
 refine vK<|fQ <|
  qA (Z [p 4 (B true)] [(3,K 43 y43 a1),(2,K 43 y43 a0)]) <|
  vTT<|hr H
def u239 (a0:Y261) (a1:Y261):Option (Bool) :=
 gd ((u15 a0.1 a1.1).isSome=true/\True) <|
 if (!vl (u15 a0.1 a1.1))=true then
  some false
 else
  gd ((u15 a0.2.1 a1.2.1).isSome=true/\True) <|
  if (!vl (u15 a0.2.1 a1.2.1))=true then
   some false
  else
   gd ((u15 a0.2.2 a1.2.2).isSome=true/\True) <|
   if (!vl (u15 a0.2.2 a1.2.2))=true then
    some false
   else
    some true
def k239:Ct:=lct 239 [.agg y261,.agg y261] (fun x=>u239 x.1 x.2.1) (fun r:Bool=>B r) (fun _=>())
theorem o239:Ok prog k239:=by
 refine okL [.tmp 4] func239 ntmps239 results239 ?_
 intro y ⟨a0,a1,_⟩ r H Q hn hr
 have:HT _ _:=⟨tc o15 tn⟩
 refine qA (Z [p 2 (R 2),p 3 (R 3)] [(3,K 261 y261 a1),(2,K 261 y261 a0)]) <|
  vQ <|
  qB (Z [p 2 (R 2),p 3 (R 3),p 10 (B !vl (u15 a0.1 a1.1))] [(3,K 261 y261 a1),(2,K 261 y261 a0)]) H fun H =>
  cD H (fun H=>?_) (fun H=>?_)
 ·refine qA (Z [p 4 (B false)] [(3,K 261 y261 a1),(2,K 261 y261 a0)]) <|
   vTT<|fR<|hr H
 refine vK<|fQ<|vQ <|
  qB (Z [p 2 (R 2),p 3 (R 3),p 16 (B !vl (u15 a0.2.1 a1.2.1))] [(3,K 261 y261 a1),(2,K 261 y261 a0)]) H fun H =>
  cD H (fun H=>?_) (fun H=>?_)
 ·refine qA (Z [p 4 (B false)] [(3,K 261 y261 a1),(2,K 261 y261 a0)]) <|
   vTT<|fR<|hr H
 refine vK<|fQ<|vQ <|
  qB (Z [p 22 (B !vl (u15 a0.2.2 a1.2.2))] [(3,K 261 y261 a1),(2,K 261 y261 a0)]) H fun H =>
  cD H (fun H=>?_) (fun H=>?_)
 ·refine qA (Z [p 4 (B false)] [(3,K 261 y261 a1),(2,K 261 y261 a0)]) <|
   vTT<|fR<|hr H
 refine vK<|fQ <|
  qA (Z [p 4 (B true)] [(3,K 261 y261 a1),(2,K 261 y261 a0)]) <|
  vTT<|hr H
def u225J0:Unit->Option (Bool)
 | _ =>
 some true
def u225L1 (a0:List Y261) (a1:List Y261) (g1:Int->Option (Bool)):Int->Option (Bool)
 | v0 =>
 if (decide (v0 < (a0.length:Int)))=true then
  gd (ix v0 a0.length/\ix v0 a1.length/\(u239 (a0.getD v0.toNat (dflt y261)) (a1.getD v0.toNat (dflt y261))).isSome=true/\True) <|
  if (!vl (u239 (a0.getD v0.toNat (dflt y261)) (a1.getD v0.toNat (dflt y261))))=true then
   some false
  else
   gd (in64 (v0+1)/\True) <|
   g1 (v0+1)
 else
  u225J0 ()
def u225 (a0:List Y261) (a1:List Y261):Option (Bool) :=
 if ((a0.length:Int) != (a1.length:Int))=true then
  some false
 else
  lp (u225L1 a0 a1) 0
def k225:Ct:=lct 225 [.dat y261.sl,.dat y261.sl] (fun x=>u225 x.1 x.2.1) (fun r:Bool=>B r) (fun _=>())
theorem o225:Ok prog k225:=by
 refine okL [.tmp 4] func225 ntmps225 results225 ?_
 intro y ⟨a0,a1,_⟩ r H Q hn hr
 have:HT _ _:=⟨tc o239 tn⟩
 refine qA (Z [p 0 (L y261 a0),p 1 (L y261 a1)] []) <|
  vQ <|
  qA (Z [p 0 (L y261 a0),p 1 (L y261 a1),p 10 (B ((a0.length:Int) != (a1.length:Int)))] []) <|
  cD H (fun H=>?_) (fun H=>?_)
 ·refine qA (Z [p 4 (B false)] []) <|
   vTT<|fR<|hr H
 refine vK<|fQ <|
  jN r (fun (_:Unit)=>Z [] []) (u225J0) (fun _ H=>?_) (fun _ n0 e0 t0=>?_)
 ·refine qA (Z [p 4 (B true)] []) <|
   vTT<|hr H
 refine qA (Z [p 0 (L y261 a0),p 1 (L y261 a1),p 5 (I 0)] []) <|
  vB <|
  lX (fun (v0:Int)=>Z [p 0 (L y261 a0),p 1 (L y261 a1),p 5 (I v0)] []) 0 H fun _ g1 b1 e1 t1 v0 H =>
  vQ <|
  qA (Z [p 0 (L y261 a0),p 1 (L y261 a1),p 5 (I v0),p 14 (B (decide (v0 < (a0.length:Int))))] []) <|
  cD H (fun H=>?_) (fun H=>?_)
 ·refine vK<|fQ<|vQ<|vB <|
   qB (Z [p 0 (L y261 a0),p 1 (L y261 a1),p 5 (I v0),p 26 (B !vl (u239 (a0.getD v0.toNat (dflt y261)) (a1.getD v0.toNat (dflt y261))))] []) H fun H =>
   cD H (fun H=>?_) (fun H=>?_)
  ·refine qA (Z [p 4 (B false)] []) <|
    vTT<|fDD<|fR<|t1<|fDD<|t0<|hr H
  refine vK<|fK<|fQ <|
   zB (Z [p 0 (L y261 a0),p 1 (L y261 a1),p 5 (I (v0+1))] []) H fun H =>
   b1 H
 exact vE<|fE<|e1<|fX rfl<|n0 H
def u207 (a0:Y153) (a1:Y153):Option (Bool) :=
 if (a0.1 != a1.1)=true then
  some false
 else
  if (a0.2.1 != a1.2.1)=true then
   some false
  else
   if (a0.2.2.1 != a1.2.2.1)=true then
    some false
   else
    if (a0.2.2.2.1 != a1.2.2.2.1)=true then
     some false
    else
     gd ((u225 a0.2.2.2.2.1 a1.2.2.2.2.1).isSome=true/\True) <|
     if (!vl (u225 a0.2.2.2.2.1 a1.2.2.2.2.1))=true then
      some false
     else
      gd ((u225 a0.2.2.2.2.2 a1.2.2.2.2.2).isSome=true/\True) <|
      if (!vl (u225 a0.2.2.2.2.2 a1.2.2.2.2.2))=true then
       some false
      else
       some true
def k207:Ct:=lct 207 [.agg y153,.agg y153] (fun x=>u207 x.1 x.2.1) (fun r:Bool=>B r) (fun _=>())
theorem o207:Ok prog k207:=by
 refine okL [.tmp 4] func207 ntmps207 results207 ?_
 intro y ⟨a0,a1,_⟩ r H Q hn hr
 have:HT _ _:=⟨tc o225 tn⟩
 refine qA (Z [p 2 (R 2),p 3 (R 3)] [(3,K 153 y153 a1),(2,K 153 y153 a0)]) <|
  vQ <|
  qA (Z [p 2 (R 2),p 3 (R 3),p 9 (B (a0.1 != a1.1))] [(3,K 153 y153 a1),(2,K 153 y153 a0)]) <|
  cD H (fun H=>?_) (fun H=>?_)
 ·refine qA (Z [p 4 (B false)] [(3,K 153 y153 a1),(2,K 153 y153 a0)]) <|
   vTT<|fR<|hr H
 refine vK<|fQ<|vQ <|
  qA (Z [p 2 (R 2),p 3 (R 3),p 14 (B (a0.2.1 != a1.2.1))] [(3,K 153 y153 a1),(2,K 153 y153 a0)]) <|
  cD H (fun H=>?_) (fun H=>?_)
 ·refine qA (Z [p 4 (B false)] [(3,K 153 y153 a1),(2,K 153 y153 a0)]) <|
   vTT<|fR<|hr H
 refine vK<|fQ<|vQ <|
  qA (Z [p 2 (R 2),p 3 (R 3),p 19 (B (a0.2.2.1 != a1.2.2.1))] [(3,K 153 y153 a1),(2,K 153 y153 a0)]) <|
  cD H (fun H=>?_) (fun H=>?_)
 ·refine qA (Z [p 4 (B false)] [(3,K 153 y153 a1),(2,K 153 y153 a0)]) <|
   vTT<|fR<|hr H
 refine vK<|fQ<|vQ <|
  qA (Z [p 2 (R 2),p 3 (R 3),p 24 (B (a0.2.2.2.1 != a1.2.2.2.1))] [(3,K 153 y153 a1),(2,K 153 y153 a0)]) <|
  cD H (fun H=>?_) (fun H=>?_)
 ·refine qA (Z [p 4 (B false)] [(3,K 153 y153 a1),(2,K 153 y153 a0)]) <|
   vTT<|fR<|hr H
 refine vK<|fQ<|vQ <|
  qB (Z [p 2 (R 2),p 3 (R 3),p 30 (B !vl (u225 a0.2.2.2.2.1 a1.2.2.2.2.1))] [(3,K 153 y153 a1),(2,K 153 y153 a0)]) H fun H =>
  cD H (fun H=>?_) (fun H=>?_)
 ·refine qA (Z [p 4 (B false)] [(3,K 153 y153 a1),(2,K 153 y153 a0)]) <|
   vTT<|fR<|hr H
 refine vK<|fQ<|vQ <|
  qB (Z [p 36 (B !vl (u225 a0.2.2.2.2.2 a1.2.2.2.2.2))] [(3,K 153 y153 a1),(2,K 153 y153 a0)]) H fun H =>
  cD H (fun H=>?_) (fun H=>?_)
 ·refine qA (Z [p 4 (B false)] [(3,K 153 y153 a1),(2,K 153 y153 a0)]) <|
   vTT<|fR<|hr H
 refine vK<|fQ <|
  qA (Z [p 4 (B true)] [(3,K 153 y153 a1),(2,K 153 y153 a0)]) <|
  vTT<|hr H
def u178J0:Unit->Option (Bool)
 | _ =>
 some true
def u178L1 (a0:List Y153) (a1:List Y153) (g1:Int->Option (Bool)):Int->Option (Bool)
 | v0 =>
 if (decide (v0 < (a0.length:Int)))=true then
  gd (ix v0 a0.length/\ix v0 a1.length/\(u207 (a0.getD v0.toNat (dflt y153)) (a1.getD v0.toNat (dflt y153))).isSome=true/\True) <|
  if (!vl (u207 (a0.getD v0.toNat (dflt y153)) (a1.getD v0.toNat (dflt y153))))=true then
   some false
  else
   gd (in64 (v0+1)/\True) <|
   g1 (v0+1)
 else
  u178J0 ()
def u178 (a0:List Y153) (a1:List Y153):Option (Bool) :=
 if ((a0.length:Int) != (a1.length:Int))=true then
  some false
 else
  lp (u178L1 a0 a1) 0
def k178:Ct:=lct 178 [.dat y153.sl,.dat y153.sl] (fun x=>u178 x.1 x.2.1) (fun r:Bool=>B r) (fun _=>())
theorem o178:Ok prog k178:=by
 refine okL [.tmp 4] func178 ntmps178 results178 ?_
 intro y ⟨a0,a1,_⟩ r H Q hn hr
 have:HT _ _:=⟨tc o207 tn⟩
 refine qA (Z [p 0 (L y153 a0),p 1 (L y153 a1)] []) <|
  vQ <|
  qA (Z [p 0 (L y153 a0),p 1 (L y153 a1),p 10 (B ((a0.length:Int) != (a1.length:Int)))] []) <|
  cD H (fun H=>?_) (fun H=>?_)
 ·refine qA (Z [p 4 (B false)] []) <|
   vTT<|fR<|hr H
 refine vK<|fQ <|
  jN r (fun (_:Unit)=>Z [] []) (u178J0) (fun _ H=>?_) (fun _ n0 e0 t0=>?_)
 ·refine qA (Z [p 4 (B true)] []) <|
   vTT<|hr H
 refine qA (Z [p 0 (L y153 a0),p 1 (L y153 a1),p 5 (I 0)] []) <|
  vB <|
  lX (fun (v0:Int)=>Z [p 0 (L y153 a0),p 1 (L y153 a1),p 5 (I v0)] []) 0 H fun _ g1 b1 e1 t1 v0 H =>
  vQ <|
  qA (Z [p 0 (L y153 a0),p 1 (L y153 a1),p 5 (I v0),p 14 (B (decide (v0 < (a0.length:Int))))] []) <|
  cD H (fun H=>?_) (fun H=>?_)
 ·refine vK<|fQ<|vQ<|vB <|
   qB (Z [p 0 (L y153 a0),p 1 (L y153 a1),p 5 (I v0),p 26 (B !vl (u207 (a0.getD v0.toNat (dflt y153)) (a1.getD v0.toNat (dflt y153))))] []) H fun H =>
   cD H (fun H=>?_) (fun H=>?_)
  ·refine qA (Z [p 4 (B false)] []) <|
    vTT<|fDD<|fR<|t1<|fDD<|t0<|hr H
  refine vK<|fK<|fQ <|
   zB (Z [p 0 (L y153 a0),p 1 (L y153 a1),p 5 (I (v0+1))] []) H fun H =>
   b1 H
 exact vE<|fE<|e1<|fX rfl<|n0 H
def u206 (a0:Y222) (a1:Y222):Option (Bool) :=
 if (!decide (a0.1=a1.1))=true then
  some false
 else
  if (a0.2.1 != a1.2.1)=true then
   some false
  else
   if (a0.2.2.1 != a1.2.2.1)=true then
    some false
   else
    if (!a0.2.2.2==a1.2.2.2)=true then
     some false
    else
     some true
def k206:Ct:=lct 206 [.agg y222,.agg y222] (fun x=>u206 x.1 x.2.1) (fun r:Bool=>B r) (fun _=>())
theorem o206:Ok prog k206:=by
 refine okL [.tmp 4] func206 ntmps206 results206 ?_
 intro y ⟨a0,a1,_⟩ r H Q hn hr
 have:HT _ _:=⟨@tn prog⟩
 refine qA (Z [p 2 (R 2),p 3 (R 3)] [(3,K 222 y222 a1),(2,K 222 y222 a0)]) <|
  vQ <|
  qA (Z [p 2 (R 2),p 3 (R 3),p 9 (B !decide (a0.1=a1.1))] [(3,K 222 y222 a1),(2,K 222 y222 a0)]) <|
  cD H (fun H=>?_) (fun H=>?_)
 ·refine qA (Z [p 4 (B false)] [(3,K 222 y222 a1),(2,K 222 y222 a0)]) <|
   vTT<|fR<|hr H
 refine vK<|fQ<|vQ <|
  qA (Z [p 2 (R 2),p 3 (R 3),p 14 (B (a0.2.1 != a1.2.1))] [(3,K 222 y222 a1),(2,K 222 y222 a0)]) <|
  cD H (fun H=>?_) (fun H=>?_)
 ·refine qA (Z [p 4 (B false)] [(3,K 222 y222 a1),(2,K 222 y222 a0)]) <|
   vTT<|fR<|hr H
 refine vK<|fQ<|vQ <|
  qA (Z [p 2 (R 2),p 3 (R 3),p 19 (B (a0.2.2.1 != a1.2.2.1))] [(3,K 222 y222 a1),(2,K 222 y222 a0)]) <|
  cD H (fun H=>?_) (fun H=>?_)
 ·refine qA (Z [p 4 (B false)] [(3,K 222 y222 a1),(2,K 222 y222 a0)]) <|
   vTT<|fR<|hr H
 refine vK<|fQ<|vQ <|
  qA (Z [p 24 (B !a0.2.2.2==a1.2.2.2)] [(3,K 222 y222 a1),(2,K 222 y222 a0)]) <|
  cD H (fun H=>?_) (fun H=>?_)
 ·refine qA (Z [p 4 (B false)] [(3,K 222 y222 a1),(2,K 222 y222 a0)]) <|
   vTT<|fR<|hr H
 refine vK<|fQ <|
  qA (Z [p 4 (B true)] [(3,K 222 y222 a1),(2,K 222 y222 a0)]) <|
  vTT<|hr H
def u177J0:Unit->Option (Bool)
 | _ =>
 some true
def u177L1 (a0:List Y222) (a1:List Y222) (g1:Int->Option (Bool)):Int->Option (Bool)
 | v0 =>
 if (decide (v0 < (a0.length:Int)))=true then
  gd (ix v0 a0.length/\ix v0 a1.length/\(u206 (a0.getD v0.toNat (dflt y222)) (a1.getD v0.toNat (dflt y222))).isSome=true/\True) <|
  if (!vl (u206 (a0.getD v0.toNat (dflt y222)) (a1.getD v0.toNat (dflt y222))))=true then
   some false
  else
   gd (in64 (v0+1)/\True) <|
   g1 (v0+1)
 else
  u177J0 ()
def u177 (a0:List Y222) (a1:List Y222):Option (Bool) :=
 if ((a0.length:Int) != (a1.length:Int))=true then
  some false
 else
  lp (u177L1 a0 a1) 0
def k177:Ct:=lct 177 [.dat y222.sl,.dat y222.sl] (fun x=>u177 x.1 x.2.1) (fun r:Bool=>B r) (fun _=>())
theorem o177:Ok prog k177:=by
 refine okL [.tmp 4] func177 ntmps177 results177 ?_
 intro y ⟨a0,a1,_⟩ r H Q hn hr
 have:HT _ _:=⟨tc o206 tn⟩
 refine qA (Z [p 0 (L y222 a0),p 1 (L y222 a1)] []) <|
  vQ <|
  qA (Z [p 0 (L y222 a0),p 1 (L y222 a1),p 10 (B ((a0.length:Int) != (a1.length:Int)))] []) <|
  cD H (fun H=>?_) (fun H=>?_)
 ·refine qA (Z [p 4 (B false)] []) <|
   vTT<|fR<|hr H
 refine vK<|fQ <|
  jN r (fun (_:Unit)=>Z [] []) (u177J0) (fun _ H=>?_) (fun _ n0 e0 t0=>?_)
 ·refine qA (Z [p 4 (B true)] []) <|
   vTT<|hr H
 refine qA (Z [p 0 (L y222 a0),p 1 (L y222 a1),p 5 (I 0)] []) <|
  vB <|
  lX (fun (v0:Int)=>Z [p 0 (L y222 a0),p 1 (L y222 a1),p 5 (I v0)] []) 0 H fun _ g1 b1 e1 t1 v0 H =>
  vQ <|
  qA (Z [p 0 (L y222 a0),p 1 (L y222 a1),p 5 (I v0),p 14 (B (decide (v0 < (a0.length:Int))))] []) <|
  cD H (fun H=>?_) (fun H=>?_)
 ·refine vK<|fQ<|vQ<|vB <|
   qB (Z [p 0 (L y222 a0),p 1 (L y222 a1),p 5 (I v0),p 26 (B !vl (u206 (a0.getD v0.toNat (dflt y222)) (a1.getD v0.toNat (dflt y222))))] []) H fun H =>
   cD H (fun H=>?_) (fun H=>?_)
  ·refine qA (Z [p 4 (B false)] []) <|
    vTT<|fDD<|fR<|t1<|fDD<|t0<|hr H
  refine vK<|fK<|fQ <|
   zB (Z [p 0 (L y222 a0),p 1 (L y222 a1),p 5 (I (v0+1))] []) H fun H =>
   b1 H
 exact vE<|fE<|e1<|fX rfl<|n0 H
def u140 (a0:Y148) (a1:Y148):Option (Bool) :=
 if (!decide (a0.1=a1.1))=true then
  some false
 else
  if (a0.2.1 != a1.2.1)=true then
   some false
  else
   gd ((u177 a0.2.2.1 a1.2.2.1).isSome=true/\True) <|
   if (!vl (u177 a0.2.2.1 a1.2.2.1))=true then
    some false
   else
    gd ((u178 a0.2.2.2.1 a1.2.2.2.1).isSome=true/\True) <|
    if (!vl (u178 a0.2.2.2.1 a1.2.2.2.1))=true then
     some false
    else
     gd ((u15 a0.2.2.2.2.1 a1.2.2.2.2.1).isSome=true/\True) <|
     if (!vl (u15 a0.2.2.2.2.1 a1.2.2.2.2.1))=true then
      some false
     else
      if (a0.2.2.2.2.2.1 != a1.2.2.2.2.2.1)=true then
       some false
      else
       if (a0.2.2.2.2.2.2 != a1.2.2.2.2.2.2)=true then
        some false
       else
        some true
def k140:Ct:=lct 140 [.agg y148,.agg y148] (fun x=>u140 x.1 x.2.1) (fun r:Bool=>B r) (fun _=>())
theorem o140:Ok prog k140:=by
 refine okL [.tmp 4] func140 ntmps140 results140 ?_
 intro y ⟨a0,a1,_⟩ r H Q hn hr
 have:HT _ _:=⟨tc o15 (tc o178 (tc o177 tn))⟩
 refine qA (Z [p 2 (R 2),p 3 (R 3)] [(3,K 148 y148 a1),(2,K 148 y148 a0)]) <|
  vQ <|
  qA (Z [p 2 (R 2),p 3 (R 3),p 9 (B !decide (a0.1=a1.1))] [(3,K 148 y148 a1),(2,K 148 y148 a0)]) <|
  cD H (fun H=>?_) (fun H=>?_)
 ·refine qA (Z [p 4 (B false)] [(3,K 148 y148 a1),(2,K 148 y148 a0)]) <|
   vTT<|fR<|hr H
 refine vK<|fQ<|vQ <|
  qA (Z [p 2 (R 2),p 3 (R 3),p 14 (B (a0.2.1 != a1.2.1))] [(3,K 148 y148 a1),(2,K 148 y148 a0)]) <|
  cD H (fun H=>?_) (fun H=>?_)
 ·refine qA (Z [p 4 (B false)] [(3,K 148 y148 a1),(2,K 148 y148 a0)]) <|
   vTT<|fR<|hr H
 refine vK<|fQ<|vQ <|
  qB (Z [p 2 (R 2),p 3 (R 3),p 20 (B !vl (u177 a0.2.2.1 a1.2.2.1))] [(3,K 148 y148 a1),(2,K 148 y148 a0)]) H fun H =>
  cD H (fun H=>?_) (fun H=>?_)
 ·refine qA (Z [p 4 (B false)] [(3,K 148 y148 a1),(2,K 148 y148 a0)]) <|
   vTT<|fR<|hr H
 refine vK<|fQ<|vQ <|
  qB (Z [p 2 (R 2),p 3 (R 3),p 26 (B !vl (u178 a0.2.2.2.1 a1.2.2.2.1))] [(3,K 148 y148 a1),(2,K 148 y148 a0)]) H fun H =>
  cD H (fun H=>?_) (fun H=>?_)
 ·refine qA (Z [p 4 (B false)] [(3,K 148 y148 a1),(2,K 148 y148 a0)]) <|
   vTT<|fR<|hr H
 refine vK<|fQ<|vQ <|
  qB (Z [p 2 (R 2),p 3 (R 3),p 32 (B !vl (u15 a0.2.2.2.2.1 a1.2.2.2.2.1))] [(3,K 148 y148 a1),(2,K 148 y148 a0)]) H fun H =>
  cD H (fun H=>?_) (fun H=>?_)
 ·refine qA (Z [p 4 (B false)] [(3,K 148 y148 a1),(2,K 148 y148 a0)]) <|
   vTT<|fR<|hr H
 refine vK<|fQ<|vQ <|
  qA (Z [p 2 (R 2),p 3 (R 3),p 37 (B (a0.2.2.2.2.2.1 != a1.2.2.2.2.2.1))] [(3,K 148 y148 a1),(2,K 148 y148 a0)]) <|
  cD H (fun H=>?_) (fun H=>?_)
 ·refine qA (Z [p 4 (B false)] [(3,K 148 y148 a1),(2,K 148 y148 a0)]) <|
   vTT<|fR<|hr H
 refine vK<|fQ<|vQ <|
  qA (Z [p 42 (B (a0.2.2.2.2.2.2 != a1.2.2.2.2.2.2))] [(3,K 148 y148 a1),(2,K 148 y148 a0)]) <|
  cD H (fun H=>?_) (fun H=>?_)
 ·refine qA (Z [p 4 (B false)] [(3,K 148 y148 a1),(2,K 148 y148 a0)]) <|
   vTT<|fR<|hr H
 refine vK<|fQ <|
  qA (Z [p 4 (B true)] [(3,K 148 y148 a1),(2,K 148 y148 a0)]) <|
  vTT<|hr H
def u88J0:Unit->Option (Bool)
 | _ =>
 some true
def u88L1 (a0:List Y148) (a1:List Y148) (g1:Int->Option (Bool)):Int->Option (Bool)
 | v0 =>
 if (decide (v0 < (a0.length:Int)))=true then
  gd (ix v0 a0.length/\ix v0 a1.length/\(u140 (a0.getD v0.toNat (dflt y148)) (a1.getD v0.toNat (dflt y148))).isSome=true/\True) <|
  if (!vl (u140 (a0.getD v0.toNat (dflt y148)) (a1.getD v0.toNat (dflt y148))))=true then
   some false
  else
   gd (in64 (v0+1)/\True) <|
   g1 (v0+1)
 else
  u88J0 ()
def u88 (a0:List Y148) (a1:List Y148):Option (Bool) :=
 if ((a0.length:Int) != (a1.length:Int))=true then
  some false
 else
  lp (u88L1 a0 a1) 0
def k88:Ct:=lct 88 [.dat y148.sl,.dat y148.sl] (fun x=>u88 x.1 x.2.1) (fun r:Bool=>B r) (fun _=>())
theorem o88:Ok prog k88:=by
 refine okL [.tmp 4] func88 ntmps88 results88 ?_
 intro y ⟨a0,a1,_⟩ r H Q hn hr
 have:HT _ _:=⟨tc o140 tn⟩
 refine qA (Z [p 0 (L y148 a0),p 1 (L y148 a1)] []) <|
  vQ <|
  qA (Z [p 0 (L y148 a0),p 1 (L y148 a1),p 10 (B ((a0.length:Int) != (a1.length:Int)))] []) <|
  cD H (fun H=>?_) (fun H=>?_)
 ·refine qA (Z [p 4 (B false)] []) <|
   vTT<|fR<|hr H
 refine vK<|fQ <|
  jN r (fun (_:Unit)=>Z [] []) (u88J0) (fun _ H=>?_) (fun _ n0 e0 t0=>?_)
 ·refine qA (Z [p 4 (B true)] []) <|
   vTT<|hr H
 refine qA (Z [p 0 (L y148 a0),p 1 (L y148 a1),p 5 (I 0)] []) <|
  vB <|
  lX (fun (v0:Int)=>Z [p 0 (L y148 a0),p 1 (L y148 a1),p 5 (I v0)] []) 0 H fun _ g1 b1 e1 t1 v0 H =>
  vQ <|
  qA (Z [p 0 (L y148 a0),p 1 (L y148 a1),p 5 (I v0),p 14 (B (decide (v0 < (a0.length:Int))))] []) <|
  cD H (fun H=>?_) (fun H=>?_)
 ·refine vK<|fQ<|vQ<|vB <|
   qB (Z [p 0 (L y148 a0),p 1 (L y148 a1),p 5 (I v0),p 26 (B !vl (u140 (a0.getD v0.toNat (dflt y148)) (a1.getD v0.toNat (dflt y148))))] []) H fun H =>
   cD H (fun H=>?_) (fun H=>?_)
  ·refine qA (Z [p 4 (B false)] []) <|
    vTT<|fDD<|fR<|t1<|fDD<|t0<|hr H
  refine vK<|fK<|fQ <|
   zB (Z [p 0 (L y148 a0),p 1 (L y148 a1),p 5 (I (v0+1))] []) H fun H =>
   b1 H
 exact vE<|fE<|e1<|fX rfl<|n0 H
def u46 (a0:List Y148) (a1:List Y148):Option (Bool) :=
 gd ((u88 a0 a1).isSome=true/\True) <|
 if (!vl (u88 a0 a1))=true then
  some false
 else
  some true
def k46:Ct:=lct 46 [.agg y148.sl,.agg y148.sl] (fun x=>u46 x.1 x.2.1) (fun r:Bool=>B r) (fun _=>())
theorem o46:Ok prog k46:=by
 refine okL [.tmp 4] func46 ntmps46 results46 ?_
 intro y ⟨a0,a1,_⟩ r H Q hn hr
 have:HT _ _:=⟨tc o88 tn⟩
 refine qA (Z [p 2 (R 2),p 3 (R 3)] [(3,Ob.box 39 [L y148 a1]),(2,Ob.box 39 [L y148 a0])]) <|
  vQ <|
  qB (Z [p 10 (B !vl (u88 a0 a1))] [(3,Ob.box 39 [L y148 a1]),(2,Ob.box 39 [L y148 a0])]) H fun H =>
  cD H (fun H=>?_) (fun H=>?_)
 ·refine qA (Z [p 4 (B false)] [(3,Ob.box 39 [L y148 a1]),(2,Ob.box 39 [L y148 a0])]) <|
   vTT<|fR<|hr H
 refine vK<|fQ <|
  qA (Z [p 4 (B true)] [(3,Ob.box 39 [L y148 a1]),(2,Ob.box 39 [L y148 a0])]) <|
  vTT<|hr H
def u16 (a0:Y46) (a1:Y46):Option (Bool) :=
 gd ((u46 a0.1 a1.1).isSome=true/\True) <|
 if (!vl (u46 a0.1 a1.1))=true then
  some false
 else
  gd ((u47 a0.2.1 a1.2.1).isSome=true/\True) <|
  if (!vl (u47 a0.2.1 a1.2.1))=true then
   some false
  else
   gd ((u48 a0.2.2 a1.2.2).isSome=true/\True) <|
   if (!vl (u48 a0.2.2 a1.2.2))=true then
    some false
   else
    some true
def k16:Ct:=lct 16 [.agg y46,.agg y46] (fun x=>u16 x.1 x.2.1) (fun r:Bool=>B r) (fun _=>())
theorem o16:Ok prog k16:=by
 refine okL [.tmp 4] func16 ntmps16 results16 ?_
 intro y ⟨a0,a1,_⟩ r H Q hn hr
 have:HT _ _:=⟨tc o48 (tc o47 (tc o46 tn))⟩
 refine qA (Z [p 2 (R 2),p 3 (R 3)] [(3,K 46 y46 a1),(2,K 46 y46 a0)]) <|
  vQ <|
  qB (Z [p 2 (R 2),p 3 (R 3),p 10 (B !vl (u46 a0.1 a1.1))] [(3,K 46 y46 a1),(2,K 46 y46 a0)]) H fun H =>
  cD H (fun H=>?_) (fun H=>?_)
 ·refine qA (Z [p 4 (B false)] [(3,K 46 y46 a1),(2,K 46 y46 a0)]) <|
   vTT<|fR<|hr H
 refine vK<|fQ<|vQ <|
  qB (Z [p 2 (R 2),p 3 (R 3),p 16 (B !vl (u47 a0.2.1 a1.2.1))] [(3,K 46 y46 a1),(2,K 46 y46 a0)]) H fun H =>
  cD H (fun H=>?_) (fun H=>?_)
 ·refine qA (Z [p 4 (B false)] [(3,K 46 y46 a1),(2,K 46 y46 a0)]) <|
   vTT<|fR<|hr H
 refine vK<|fQ<|vQ <|
  qB (Z [p 22 (B !vl (u48 a0.2.2 a1.2.2))] [(3,K 46 y46 a1),(2,K 46 y46 a0)]) H fun H =>
  cD H (fun H=>?_) (fun H=>?_)
 ·refine qA (Z [p 4 (B false)] [(3,K 46 y46 a1),(2,K 46 y46 a0)]) <|
   vTT<|fR<|hr H
 refine vK<|fQ <|
  qA (Z [p 4 (B true)] [(3,K 46 y46 a1),(2,K 46 y46 a0)]) <|
  vTT<|hr H
def u19J0:Int->Option (Int)
 | v2 =>
 some v2
def u19L1 (a0:List Int) (g1:Int×Int->Option (Int)):Int×Int->Option (Int)
 | (v0,v1) =>
 if (decide (v1 < (a0.length:Int)))=true then
  gd (ix v1 a0.length/\True) <|
  if (a0.getD v1.toNat 0 != v0)=true then
   some (-1)
  else
   gd (in64 (v0+1)/\True) <|
   gd (in64 (v1+1)/\True) <|
   g1 (v0+1,v1+1)
 else
  u19J0 v0
def u19 (a0:List Int) (a1:Int):Option (Int) :=
 lp (u19L1 a0) (a1,0)
def k19:Ct:=lct 19 [.dat i64.sl,.dat i64] (fun x=>u19 x.1 x.2.1) (fun r:Int=>I r) (fun _=>())
theorem o19:Ok prog k19:=by
 refine okL [.tmp 4] func19 ntmps19 results19 ?_
 intro y ⟨a0,a1,_⟩ r H Q hn hr
 have:HT _ _:=⟨@tn prog⟩
 refine qA (Z [p 0 (L i64 a0),p 1 (J a1)] []) <|
  jN r (fun (v2:Int)=>Z [p 1 (J v2)] []) (u19J0) (fun v2 H=>?_) (fun _ n0 e0 t0=>?_)
 ·refine qA (Z [p 4 (J v2)] []) <|
   vTT<|hr H
 refine qA (Z [p 0 (L i64 a0),p 1 (J a1),p 5 (I 0)] []) <|
  vB <|
  lX (fun ((v0,v1):Int×Int)=>Z [p 0 (L i64 a0),p 1 (J v0),p 5 (I v1)] []) (a1,0) H fun _ g1 b1 e1 t1 ⟨v0,v1⟩ H =>
  vQ <|
  qA (Z [p 0 (L i64 a0),p 1 (J v0),p 5 (I v1),p 9 (B (decide (v1 < (a0.length:Int))))] []) <|
  cD H (fun H=>?_) (fun H=>?_)
 ·refine vK<|fQ<|vQ<|vB<|vQ <|
   qB (Z [p 0 (L i64 a0),p 1 (J v0),p 5 (I v1),p 17 (B (a0.getD v1.toNat 0 != v0))] []) H fun H =>
   cD H (fun H=>?_) (fun H=>?_)
  ·refine qA (Z [p 4 (I (-1))] []) <|
    vTT<|fR<|fDD<|fR<|t1<|fDD<|t0<|hr H
  refine vK<|fQ <|
   zB (Z [p 0 (L i64 a0),p 1 (I (v0+1)),p 5 (I v1)] []) H fun H =>
   fK<|fQ <|
   zB (Z [p 0 (L i64 a0),p 1 (I (v0+1)),p 5 (I (v1+1))] []) H fun H =>
   b1 H
 exact vE<|fE<|e1<|fX rfl<|n0 H
def u152 (a0:Y107) (a1:Int):Option (Bool) :=
 some (a0.1==a1)
def k152:Ct:=lct 152 [.agg y107,.dat (.pt i64)] (fun x=>u152 x.1 x.2.1) (fun r:Bool=>B r) (fun _=>())
theorem o152:Ok prog k152:=by
 refine okL [.tmp 3] func152 ntmps152 results152 ?_
 intro y ⟨a0,a1,_⟩ r H Q hn hr
 have:HT _ _:=⟨@tn prog⟩
 refine qA (Z [p 1 (D i64.pt a1),p 2 (R 2)] [(2,K 107 y107 a0)]) <|
  qA (Z [p 3 (B (a0.1==a1))] [(2,K 107 y107 a0)]) <|
  vTT<|hr H
def u126c152J0:List Int->Option (List Int)
 | v6 =>
 some v6
def u126c152J2 (v3:Int) (g1:List Int×Int->Option (List Int)):List Int->Option (List Int)
 | v5 =>
 gd (in64 (v3+1)/\True) <|
 g1 (v5,v3+1)
def u126c152L1 (a0:Y92) (a1:Int) (g1:List Int×Int->Option (List Int)):List Int×Int->Option (List Int)
 | (v2,v3) =>
 if (decide (v3 < (a0.1.2.2.1.length:Int)))=true then
  gd (ix v3 a0.1.2.2.1.length/\True)<|lt (a0.1.2.2.1.getD v3.toNat (dflt y107)) fun v4 =>
  gd (ix v3 a0.2.length/\(a0.2.getD v3.toNat false=true/\True->(u152 v4 a1).isSome=true)/\True) <|
  if (a0.2.getD v3.toNat false&&vl (u152 v4 a1))=true then
   gd ((v2.length+[v3].length<=9223372036854775807/\(v2.length+[v3].length)*8<=140737488355328)/\True) <|
   u126c152J2 v3 g1 (v2++[v3])
  else
   u126c152J2 v3 g1 v2
 else
  u126c152J0 v2
def u126c152 (a0:Y92) (a1:Int):Option (List Int) :=
 lp (u126c152L1 a0 a1) ([],0)
def k126c152:Ct:=lct 126 [.dat y92.pt,.fn 152 (.pt i64)] (fun x=>u126c152 x.1 x.2.1) (fun r:List Int=>AV.ow 2 true i64 r) (fun _=>())
theorem o126c152:Ok prog k126c152:=by
 refine okL [.tmp 4] func126 ntmps126 results126 ?_
 intro y ⟨a0,a1,_⟩ r H Q hn hr
 have:HT _ _:=⟨tc o152 tn⟩
 refine qA (Z [p 0 (D y92.pt a0),p 1 (AV.fn 152 [D i64.pt a1])] []) <|
  qA (Z [p 0 (D y92.pt a0),p 1 (AV.fn 152 [D i64.pt a1]),p 5 (nil)] []) <|
  jN r (fun (v6:List Int)=>Z [p 5 (O 36)] [(36,A 2 i64 v6 0)]) (u126c152J0) (fun v6 H=>?_) (fun _ n0 e0 t0=>?_)
 ·refine qA (Z [p 4 (O 36)] [(36,A 2 i64 v6 0)]) <|
   vTT<|hr H
 refine qA (Z [p 0 (D y92.pt a0),p 1 (AV.fn 152 [D i64.pt a1]),p 5 (nil),p 14 (L y107 a0.1.2.2.1),p 15 (I (a0.1.2.2.1.length:Int)),p 16 (I 0)] []) <|
  vB <|
  lX (fun ((v2,v3):List Int×Int)=>Z [p 0 (D y92.pt a0),p 1 (AV.fn 152 [D i64.pt a1]),p 5 (O 36),p 14 (L y107 a0.1.2.2.1),p 15 (I (a0.1.2.2.1.length:Int)),p 16 (I v3)] [(36,A 2 i64 v2 0)]) ([],0) H fun _ g1 b1 e1 t1 ⟨v2,v3⟩ H =>
  qA (Z [p 0 (D y92.pt a0),p 1 (AV.fn 152 [D i64.pt a1]),p 5 (O 36),p 14 (L y107 a0.1.2.2.1),p 15 (I (a0.1.2.2.1.length:Int)),p 16 (I v3),p 17 (B (decide (v3 < (a0.1.2.2.1.length:Int))))] [(36,A 2 i64 v2 0)]) <|
  vQ <|
  cD H (fun H=>?_) (fun H=>?_)
 ·refine vK<|fQ <|
   jN r (fun (v5:List Int)=>Z [p 0 (D y92.pt a0),p 1 (AV.fn 152 [D i64.pt a1]),p 5 (O 36),p 14 (L y107 a0.1.2.2.1),p 15 (I (a0.1.2.2.1.length:Int)),p 16 (I v3)] [(36,A 2 i64 v5 0)]) (u126c152J2 v3 g1) (fun v5 H=>?_) (fun _ n2 e2 t2=>?_)
  ·refine zB (Z [p 0 (D y92.pt a0),p 1 (AV.fn 152 [D i64.pt a1]),p 5 (O 36),p 14 (L y107 a0.1.2.2.1),p 15 (I (a0.1.2.2.1.length:Int)),p 16 (I (v3+1))] [(36,A 2 i64 v5 0)]) H fun H =>
    b1 H
  refine vB <|
   qD (fun v4=>Z [p 0 (D y92.pt a0),p 1 (AV.fn 152 [D i64.pt a1]),p 5 (O 36),p 6 (I v3),p 7 (R 7),p 14 (L y107 a0.1.2.2.1),p 15 (I (a0.1.2.2.1.length:Int)),p 16 (I v3)] [(7,K 107 y107 v4),(36,A 2 i64 v2 0)]) H fun v4 H =>
   qB (Z [p 0 (D y92.pt a0),p 1 (AV.fn 152 [D i64.pt a1]),p 5 (O 36),p 6 (I v3),p 14 (L y107 a0.1.2.2.1),p 15 (I (a0.1.2.2.1.length:Int)),p 16 (I v3),p 32 (B (a0.2.getD v3.toNat false&&vl (u152 v4 a1)))] [(7,K 107 y107 v4),(36,A 2 i64 v2 0)]) H fun H =>
   cD H (fun H=>?_) (fun H=>?_)
  ·refine zB (Z [p 0 (D y92.pt a0),p 1 (AV.fn 152 [D i64.pt a1]),p 5 (AV.os 36 1),p 14 (L y107 a0.1.2.2.1),p 15 (I (a0.1.2.2.1.length:Int)),p 16 (I v3)] [(36,A 2 i64 (v2++[v3]) 1),(35,A 2 i64 [v3] 0),(7,K 107 y107 v4)]) H fun H =>
    fK<|n2 H
  exact vK<|fK<|n2 H
 exact vE<|fE<|e1<|fX rfl<|n0 H
def u113 (a0:Y92) (a1:Int):Option (List Int) :=
 gd ((u126c152 a0 a1).isSome=true/\True)<|lt (vl (u126c152 a0 a1)) fun v0 =>
 some v0
def k113:Ct:=lct 113 [.dat y92.pt,.dat i64] (fun x=>u113 x.1 x.2.1) (fun r:List Int=>AV.ow 2 true i64 r) (fun _=>())
theorem o113:Ok prog k113:=by
 refine okL [.tmp 4] func113 ntmps113 results113 ?_
 intro y ⟨a0,a1,_⟩ r H Q hn hr
 have:HT _ _:=⟨tc o126c152 (tc o152 tn)⟩
 refine qA (Z [p 0 (D y92.pt a0),p 3 (R 3)] [(3,Ob.box 2 [J a1])]) <|
  qD (fun v0=>Z [p 4 (O 7)] [(7,A 2 i64 v0 0),(3,Ob.box 2 [J a1])]) H fun v0 H =>
  vTT<|hr H
def u150J0:Unit->Option (Int)
 | _ =>
 some (-1)
def u150L1 (a1:Int) (a0:List Int) (g1:Int->Option (Int)):Int->Option (Int)
 | v0 =>
 if (decide (v0 < (a0.length:Int)))=true then
  gd (ix v0 a0.length/\True) <|
  if (a1==a0.getD v0.toNat 0)=true then
   some v0
  else
   gd (in64 (v0+1)/\True) <|
   g1 (v0+1)
 else
  u150J0 ()
def u150 (a0:List Int) (a1:Int):Option (Int) :=
 lp (u150L1 a1 a0) 0
def u149 (a0:Y107):Option (Bool) :=
 some true
def k149:Ct:=lct 149 [.agg y107] (fun x=>u149 x.1) (fun r:Bool=>B r) (fun _=>())
theorem o149:Ok prog k149:=by
 refine okL [.tmp 2] func149 ntmps149 results149 ?_
 intro y ⟨a0,_⟩ r H Q hn hr
 have:HT _ _:=⟨@tn prog⟩
 refine qA (Z [] [(1,K 107 y107 a0)]) <|
  qA (Z [p 2 (B true)] [(1,K 107 y107 a0)]) <|
  vTT<|hr H
def u126c149J0:List Int->Option (List Int)
 | v6 =>
 some v6
def u126c149J2 (v3:Int) (g1:List Int×Int->Option (List Int)):List Int->Option (List Int)
 | v5 =>
 gd (in64 (v3+1)/\True) <|
 g1 (v5,v3+1)
def u126c149L1 (a0:Y92) (g1:List Int×Int->Option (List Int)):List Int×Int->Option (List Int)
 | (v2,v3) =>
 if (decide (v3 < (a0.1.2.2.1.length:Int)))=true then
  gd (ix v3 a0.1.2.2.1.length/\True)<|lt (a0.1.2.2.1.getD v3.toNat (dflt y107)) fun v4 =>
  gd (ix v3 a0.2.length/\(a0.2.getD v3.toNat false=true/\True->(u149 v4).isSome=true)/\True) <|
  if (a0.2.getD v3.toNat false&&vl (u149 v4))=true then
   gd ((v2.length+[v3].length<=9223372036854775807/\(v2.length+[v3].length)*8<=140737488355328)/\True) <|
   u126c149J2 v3 g1 (v2++[v3])
  else
   u126c149J2 v3 g1 v2
 else
  u126c149J0 v2
def u126c149 (a0:Y92):Option (List Int) :=
 lp (u126c149L1 a0) ([],0)
def k126c149:Ct:=lct 126 [.dat y92.pt,.nof 149] (fun x=>u126c149 x.1) (fun r:List Int=>AV.ow 2 true i64 r) (fun _=>())
theorem o126c149:Ok prog k126c149:=by
 refine okL [.tmp 4] func126 ntmps126 results126 ?_
 intro y ⟨a0,_,_⟩ r H Q hn hr
 have:HT _ _:=⟨tc o149 tn⟩
 refine qA (Z [p 0 (D y92.pt a0),p 1 (AV.fn 149 [])] []) <|
  qA (Z [p 0 (D y92.pt a0),p 1 (AV.fn 149 []),p 5 (nil)] []) <|
  jN r (fun (v6:List Int)=>Z [p 5 (O 36)] [(36,A 2 i64 v6 0)]) (u126c149J0) (fun v6 H=>?_) (fun _ n0 e0 t0=>?_)
 ·refine qA (Z [p 4 (O 36)] [(36,A 2 i64 v6 0)]) <|
   vTT<|hr H
 refine qA (Z [p 0 (D y92.pt a0),p 1 (AV.fn 149 []),p 5 (nil),p 14 (L y107 a0.1.2.2.1),p 15 (I (a0.1.2.2.1.length:Int)),p 16 (I 0)] []) <|
  vB <|
  lX (fun ((v2,v3):List Int×Int)=>Z [p 0 (D y92.pt a0),p 1 (AV.fn 149 []),p 5 (O 36),p 14 (L y107 a0.1.2.2.1),p 15 (I (a0.1.2.2.1.length:Int)),p 16 (I v3)] [(36,A 2 i64 v2 0)]) ([],0) H fun _ g1 b1 e1 t1 ⟨v2,v3⟩ H =>
  qA (Z [p 0 (D y92.pt a0),p 1 (AV.fn 149 []),p 5 (O 36),p 14 (L y107 a0.1.2.2.1),p 15 (I (a0.1.2.2.1.length:Int)),p 16 (I v3),p 17 (B (decide (v3 < (a0.1.2.2.1.length:Int))))] [(36,A 2 i64 v2 0)]) <|
  vQ <|
  cD H (fun H=>?_) (fun H=>?_)
 ·refine vK<|fQ <|
   jN r (fun (v5:List Int)=>Z [p 0 (D y92.pt a0),p 1 (AV.fn 149 []),p 5 (O 36),p 14 (L y107 a0.1.2.2.1),p 15 (I (a0.1.2.2.1.length:Int)),p 16 (I v3)] [(36,A 2 i64 v5 0)]) (u126c149J2 v3 g1) (fun v5 H=>?_) (fun _ n2 e2 t2=>?_)
  ·refine zB (Z [p 0 (D y92.pt a0),p 1 (AV.fn 149 []),p 5 (O 36),p 14 (L y107 a0.1.2.2.1),p 15 (I (a0.1.2.2.1.length:Int)),p 16 (I (v3+1))] [(36,A 2 i64 v5 0)]) H fun H =>
    b1 H
  refine vB <|
   qD (fun v4=>Z [p 0 (D y92.pt a0),p 1 (AV.fn 149 []),p 5 (O 36),p 6 (I v3),p 7 (R 7),p 14 (L y107 a0.1.2.2.1),p 15 (I (a0.1.2.2.1.length:Int)),p 16 (I v3)] [(7,K 107 y107 v4),(36,A 2 i64 v2 0)]) H fun v4 H =>
   qB (Z [p 0 (D y92.pt a0),p 1 (AV.fn 149 []),p 5 (O 36),p 6 (I v3),p 14 (L y107 a0.1.2.2.1),p 15 (I (a0.1.2.2.1.length:Int)),p 16 (I v3),p 32 (B (a0.2.getD v3.toNat false&&vl (u149 v4)))] [(7,K 107 y107 v4),(36,A 2 i64 v2 0)]) H fun H =>
   cD H (fun H=>?_) (fun H=>?_)
  ·refine zB (Z [p 0 (D y92.pt a0),p 1 (AV.fn 149 []),p 5 (AV.os 36 1),p 14 (L y107 a0.1.2.2.1),p 15 (I (a0.1.2.2.1.length:Int)),p 16 (I v3)] [(36,A 2 i64 (v2++[v3]) 1),(35,A 2 i64 [v3] 0),(7,K 107 y107 v4)]) H fun H =>
    fK<|n2 H
  exact vK<|fK<|n2 H
 exact vE<|fE<|e1<|fX rfl<|n0 H
def u101J2:List Int->Option (List Int×Bool)
 | v26 =>
 some (v26,true)
def u101J4 (v16:Int) (g3:List Int×Int×List Int->Option (List Int×Bool)):List Int×List Int->Option (List Int×Bool)
 | (v24,v25) =>
 gd (in64 (v16+1)/\True) <|
 g3 (v24,v16+1,v25)
def u101L5 (a0:Y92) (v19:List Int) (v16:Int) (v15:List Int) (v18:Int) (g3:List Int×Int×List Int->Option (List Int×Bool)) (g5:Int×List Int->Option (List Int×Bool)):Int×List Int->Option (List Int×Bool)
 | (v21,v22) =>
 if (decide (v21 < (v19.length:Int)))=true then
  gd (ix v21 v19.length/\v21.toNat < v19.length/\True) <|
  gd (ix (v19.getD v21.toNat 0) a0.1.2.2.1.length/\ix (a0.1.2.2.1.getD (Int.toNat (v19.getD v21.toNat 0)) (dflt y107)).2.1 v22.length/\(a0.1.2.2.1.getD (Int.toNat (v19.getD v21.toNat 0)) (dflt y107)).2.1.toNat < v22.length/\in64 (v22.getD (a0.1.2.2.1.getD (Int.toNat (v19.getD v21.toNat 0)) (dflt y107)).2.1.toNat 0 - 1)/\ix (a0.1.2.2.1.getD (Int.toNat (v19.getD v21.toNat 0)) (dflt y107)).2.1 v22.length/\(a0.1.2.2.1.getD (Int.toNat (v19.getD v21.toNat 0)) (dflt y107)).2.1.toNat < v22.length/\True)<|lt (v22.set (a0.1.2.2.1.getD (Int.toNat (v19.getD v21.toNat 0)) (dflt y107)).2.1.toNat (v22.getD (a0.1.2.2.1.getD (Int.toNat (v19.getD v21.toNat 0)) (dflt y107)).2.1.toNat 0 - 1)) fun v23 =>
  gd (in64 (v21+1)/\True) <|
  g5 (v21+1,v23)
 else
  u101J4 v16 g3 (v15++[v18],v22)
def u101L3 (a0:Y92) (v6:List Int) (g3:List Int×Int×List Int->Option (List Int×Bool)):List Int×Int×List Int->Option (List Int×Bool)
 | (v15,v16,v17) =>
 if (decide (v16 < (v6.length:Int)))=true then
  gd ((u150 v17 0).isSome=true/\True)<|lt (vl (u150 v17 0)) fun v18 =>
  if (decide (v18 < 0))=true then
   some ([],false)
  else
   gd (ix v18 v17.length/\v18.toNat < v17.length/\True) <|
   gd ((v15.length+[v18].length<=9223372036854775807/\(v15.length+[v18].length)*8<=140737488355328)/\True) <|
   gd ((u113 a0 v18).isSome=true/\True)<|lt (vl (u113 a0 v18)) fun v19 =>
   lp (u101L5 a0 v19 v16 v15 v18 g3) ((0,v17.set v18.toNat (-1)))
 else
  u101J2 v15
def u101J0 (a0:Y92):List Int->Option (List Int×Bool)
 | v6 =>
 lp (u101L3 a0 v6) ([],0,v6)
def u101L1 (a0:Y92) (v1:List Int) (g1:Int×List Int->Option (List Int×Bool)):Int×List Int->Option (List Int×Bool)
 | (v3,v4) =>
 if (decide (v3 < (v1.length:Int)))=true then
  gd (ix v3 v1.length/\v3.toNat < v1.length/\True) <|
  gd (ix (v1.getD v3.toNat 0) a0.1.2.2.1.length/\ix (a0.1.2.2.1.getD (Int.toNat (v1.getD v3.toNat 0)) (dflt y107)).2.1 v4.length/\(a0.1.2.2.1.getD (Int.toNat (v1.getD v3.toNat 0)) (dflt y107)).2.1.toNat < v4.length/\in64 (v4.getD (a0.1.2.2.1.getD (Int.toNat (v1.getD v3.toNat 0)) (dflt y107)).2.1.toNat 0+1)/\ix (a0.1.2.2.1.getD (Int.toNat (v1.getD v3.toNat 0)) (dflt y107)).2.1 v4.length/\(a0.1.2.2.1.getD (Int.toNat (v1.getD v3.toNat 0)) (dflt y107)).2.1.toNat < v4.length/\True)<|lt (v4.set (a0.1.2.2.1.getD (Int.toNat (v1.getD v3.toNat 0)) (dflt y107)).2.1.toNat (v4.getD (a0.1.2.2.1.getD (Int.toNat (v1.getD v3.toNat 0)) (dflt y107)).2.1.toNat 0+1)) fun v5 =>
  gd (in64 (v3+1)/\True) <|
  g1 (v3+1,v5)
 else
  u101J0 a0 v4
def u101 (a0:Y92):Option (List Int×Bool) :=
 gd ((u86 a0.1).isSome=true/\(0<=vl (u86 a0.1)/\vl (u86 a0.1)=vl (u86 a0.1)/\(vl (u86 a0.1)).toNat*8<=281474976710656/\vl (u86 a0.1)<=9223372036854775807)/\True)<|lt (vl (u86 a0.1)) fun v0 =>
 gd ((u126c149 a0).isSome=true/\True)<|lt (vl (u126c149 a0)) fun v1 =>
 lp (u101L1 a0 v1) (0,List.replicate v0.toNat 0)
def u57 (a0:Y92):Option (Bool) :=
 gd ((u101 a0).isSome=true/\True)<|lt (vl (u101 a0)) fun v0 =>
 some (!v0.2)
def u23J0:List Int->Option (List Int×Int)
 | v10 =>
 some ((v10,(0:Int)))
def u23J2 (v5:Int) (g1:List Int×Int×List Bool->Option (List Int×Int)):List Bool×List Int->Option (List Int×Int)
 | (v8,v9) =>
 gd (in64 (v5+1)/\True) <|
 g1 (v9,v5+1,v8)
def u23L1 (a1:List Int) (a0:Y46) (g1:List Int×Int×List Bool->Option (List Int×Int)):List Int×Int×List Bool->Option (List Int×Int)
 | (v4,v5,v6) =>
 if (decide (v5 < (a1.length:Int)))=true then
  gd (ix v5 a1.length/\True) <|
  gd (ix (a1.getD v5.toNat 0) v6.length/\Int.toNat (a1.getD v5.toNat 0) < v6.length/\True) <|
  gd ((u57 ((vR (u56 a0 a1)).1.1,v6.set (Int.toNat (a1.getD v5.toNat 0)) true)).isSome=true/\True) <|
  if (vl (u57 ((vR (u56 a0 a1)).1.1,v6.set (Int.toNat (a1.getD v5.toNat 0)) true)))=true then
   gd (ix (a1.getD v5.toNat 0) (v6.set (Int.toNat (a1.getD v5.toNat 0)) true).length/\Int.toNat (a1.getD v5.toNat 0) < (v6.set (Int.toNat (a1.getD v5.toNat 0)) true).length/\True)<|lt ((v6.set (Int.toNat (a1.getD v5.toNat 0)) true).set (Int.toNat (a1.getD v5.toNat 0)) false) fun v7 =>
   gd ((v4.length+[a1.getD v5.toNat 0].length<=9223372036854775807/\(v4.length+[a1.getD v5.toNat 0].length)*8<=140737488355328)/\True) <|
   u23J2 v5 g1 (v7,v4++[a1.getD v5.toNat 0])
  else
   u23J2 v5 g1 ((v6.set (Int.toNat (a1.getD v5.toNat 0)) true,v4))
 else
  u23J0 v4
def u23 (a0:Y46) (a1:List Int):Option (List Int×Int) :=
 if (isL (u56 a0 a1))=true then
  gd (isL (u56 a0 a1)=true/\True) <|
  if (vL (u56 a0 a1) != 0)=true then
   some (([],vL (u56 a0 a1)))
  else
   none
 else
  gd (isR (u56 a0 a1)=true/\True) <|
  if ((vR (u56 a0 a1)).2 != 0)=true then
   some (([],(vR (u56 a0 a1)).2))
  else
   gd ((u57 (vR (u56 a0 a1)).1).isSome=true/\True) <|
   if (vl (u57 (vR (u56 a0 a1)).1))=true then
    some (([],(7:Int)))
   else
    lp (u23L1 a1 a0) (([],0,(vR (u56 a0 a1)).1.2))
def k23:Ct:=lct 23 [.agg y46,.dat i64.sl] (fun x=>u23 x.1 x.2.1) (fun r:List Int×Int=>AV.tup [AV.ow 2 true i64 r.1,I r.2]) (fun _=>())
def u108J2:List Int->Option (List Int)
 | v29 =>
 some v29
def u108J4 (v15:Int) (g3:Int×List Int×List Int->Option (List Int)):List Int×List Int->Option (List Int)
 | (v27,v28) =>
 gd (in64 (v15+1)/\True) <|
 g3 (v15+1,v27,v28)
def u108J6 (v21:Int) (g5:Int×List Int×List Int->Option (List Int)):List Int×List Int->Option (List Int)
 | (v25,v26) =>
 gd (in64 (v21+1)/\True) <|
 g5 (v21+1,v26,v25)
def u108L5 (a1:List Y107) (v15:Int) (a2:List Bool) (g3:Int×List Int×List Int->Option (List Int)) (g5:Int×List Int×List Int->Option (List Int)):Int×List Int×List Int->Option (List Int)
 | (v21,v22,v23) =>
 if (decide (v21 < (a1.length:Int)))=true then
  gd (ix v21 a2.length/\(a2.getD v21.toNat false=true/\True->ix v21 a1.length)/\(a2.getD v21.toNat false=true/\True->ix v15 v22.length)/\(a2.getD v21.toNat false=true/\True->v15.toNat < v22.length)/\((a2.getD v21.toNat false&&(a1.getD v21.toNat (dflt y107)).2.1==v22.getD v15.toNat 0)=true/\True->ix v21 a1.length)/\((a2.getD v21.toNat false&&(a1.getD v21.toNat (dflt y107)).2.1==v22.getD v15.toNat 0)=true/\True->ix (a1.getD v21.toNat (dflt y107)).1 v23.length)/\((a2.getD v21.toNat false&&(a1.getD v21.toNat (dflt y107)).2.1==v22.getD v15.toNat 0)=true/\True->(a1.getD v21.toNat (dflt y107)).1.toNat < v23.length)/\True) <|
  if (a2.getD v21.toNat false&&(a1.getD v21.toNat (dflt y107)).2.1==v22.getD v15.toNat 0&&decide (v23.getD (a1.getD v21.toNat (dflt y107)).1.toNat 0 < 0))=true then
   gd (ix v21 a1.length/\ix v15 v22.length/\v15.toNat < v22.length/\ix (v22.getD v15.toNat 0) v23.length/\Int.toNat (v22.getD v15.toNat 0) < v23.length/\in64 (v23.getD (Int.toNat (v22.getD v15.toNat 0)) 0+1)/\ix (a1.getD v21.toNat (dflt y107)).1 v23.length/\(a1.getD v21.toNat (dflt y107)).1.toNat < v23.length/\True)<|lt (v23.set (a1.getD v21.toNat (dflt y107)).1.toNat (v23.getD (Int.toNat (v22.getD v15.toNat 0)) 0+1)) fun v24 =>
   gd (ix v21 a1.length/\(v22.length+[(a1.getD v21.toNat (dflt y107)).1].length<=9223372036854775807/\(v22.length+[(a1.getD v21.toNat (dflt y107)).1].length)*8<=140737488355328)/\True) <|
   u108J6 v21 g5 ((v24,v22++[(a1.getD v21.toNat (dflt y107)).1]))
  else
   u108J6 v21 g5 (v23,v22)
 else
  u108J4 v15 g3 (v22,v23)
def u108L3 (a1:List Y107) (a2:List Bool) (g3:Int×List Int×List Int->Option (List Int)):Int×List Int×List Int->Option (List Int)
 | (v15,v16,v17) =>
 if (decide (v15 < (v16.length:Int)))=true then
  lp (u108L5 a1 v15 a2 g3) (0,v16,v17)
 else
  u108J2 v17
def u108J0 (a1:List Y107) (a2:List Bool) (a3:Int):List Int->Option (List Int)
 | v3 =>
 gd (ix a3 v3.length/\a3.toNat < v3.length/\True) <|
 lp (u108L3 a1 a2) (0,[a3],v3.set a3.toNat 0)
def u108L1 (a1:List Y107) (a2:List Bool) (a3:Int) (a0:Int) (g1:Int×List Int->Option (List Int)):Int×List Int->Option (List Int)
 | (v1,v2) =>
 if (decide (v1 < a0))=true then
  gd (ix v1 v2.length/\v1.toNat < v2.length/\True) <|
  gd (in64 (v1+1)/\True) <|
  g1 ((v1+1,v2.set v1.toNat (-1)))
 else
  u108J0 a1 a2 a3 v2
def u108 (a0:Int) (a1:List Y107) (a2:List Bool) (a3:Int):Option (List Int) :=
 gd ((0<=a0/\a0=a0/\a0.toNat*8<=281474976710656/\a0<=9223372036854775807)/\True) <|
 lp (u108L1 a1 a2 a3 a0) (0,List.replicate a0.toNat 0)
def k108:Ct:=lct 108 [.dat i64,.dat y107.sl,.dat Ty.bool.sl,.dat i64] (fun x=>u108 x.1 x.2.1 x.2.2.1 x.2.2.2.1) (fun r:List Int=>AV.ow 2 true i64 r) (fun _=>())
theorem o108:Ok prog k108:=by
 refine okL [.tmp 8] func108 ntmps108 results108 ?_
 intro y ⟨a0,a1,a2,a3,_⟩ r H Q hn hr
 have:HT _ _:=⟨@tn prog⟩
 refine qA (Z [p 0 (J a0),p 1 (L y107 a1),p 2 (L Ty.bool a2),p 3 (J a3)] []) <|
  qB (Z [p 0 (J a0),p 1 (L y107 a1),p 2 (L Ty.bool a2),p 3 (J a3),p 9 (O 15)] [(15,A 2 i64 (List.replicate a0.toNat 0) 0)]) H fun H =>
  jN r (fun (v3:List Int)=>Z [p 1 (L y107 a1),p 2 (L Ty.bool a2),p 3 (J a3),p 9 (O 15)] [(15,A 2 i64 v3 0)]) (u108J0 a1 a2 a3) (fun v3 H=>?_) (fun _ n0 e0 t0=>?_)
 ·refine qB (Z [p 1 (L y107 a1),p 2 (L Ty.bool a2),p 3 (J a3),p 9 (O 15)] [(15,A 2 i64 (v3.set a3.toNat 0) 0)]) H fun H =>
   qA (Z [p 1 (L y107 a1),p 2 (L Ty.bool a2),p 9 (O 15),p 11 (O 28)] [(28,A 2 i64 [a3] 0),(15,A 2 i64 (v3.set a3.toNat 0) 0)]) <|
   jN r (fun (v29:List Int)=>Z [p 9 (O 15)] [(15,A 2 i64 v29 0)]) (u108J2) (fun v29 H=>?_) (fun _ n2 e2 t2=>?_)
  ·refine qA (Z [p 8 (O 15)] [(15,A 2 i64 v29 0)]) <|
    vTT<|hr H
  refine qA (Z [p 1 (L y107 a1),p 2 (L Ty.bool a2),p 9 (O 15),p 11 (O 28),p 12 (I 0)] [(28,A 2 i64 [a3] 0),(15,A 2 i64 (v3.set a3.toNat 0) 0)]) <|
   vB <|
   lX (fun ((v15,v16,v17):Int×List Int×List Int)=>Z [p 1 (L y107 a1),p 2 (L Ty.bool a2),p 9 (O 15),p 11 (O 28),p 12 (I v15)] [(28,A 2 i64 v16 0),(15,A 2 i64 v17 0)]) (0,[a3],v3.set a3.toNat 0) H fun _ g3 b3 e3 t3 ⟨v15,v16,v17⟩ H =>
   vQ <|
   qA (Z [p 1 (L y107 a1),p 2 (L Ty.bool a2),p 9 (O 15),p 11 (O 28),p 12 (I v15),p 32 (B (decide (v15 < (v16.length:Int))))] [(28,A 2 i64 v16 0),(15,A 2 i64 v17 0)]) <|
   cD H (fun H=>?_) (fun H=>?_)
  ·refine vK<|fQ <|
    jN r (fun ((v27,v28):List Int×List Int)=>Z [p 1 (L y107 a1),p 2 (L Ty.bool a2),p 9 (O 15),p 11 (O 28),p 12 (I v15)] [(28,A 2 i64 v27 0),(15,A 2 i64 v28 0)]) (u108J4 v15 g3) (fun ⟨v27,v28⟩ H=>?_) (fun _ n4 e4 t4=>?_)
   ·refine zB (Z [p 1 (L y107 a1),p 2 (L Ty.bool a2),p 9 (O 15),p 11 (O 28),p 12 (I (v15+1))] [(28,A 2 i64 v27 0),(15,A 2 i64 v28 0)]) H fun H =>
     b3 H
   refine vB <|
    qA (Z [p 1 (L y107 a1),p 2 (L Ty.bool a2),p 9 (O 15),p 11 (O 28),p 12 (I v15),p 13 (I 0)] [(28,A 2 i64 v16 0),(15,A 2 i64 v17 0)]) <|
    vB <|
    lX (fun ((v21,v22,v23):Int×List Int×List Int)=>Z [p 1 (L y107 a1),p 2 (L Ty.bool a2),p 9 (O 15),p 11 (O 28),p 12 (I v15),p 13 (I v21)] [(28,A 2 i64 v22 0),(15,A 2 i64 v23 0)]) (0,v16,v17) H fun _ g5 b5 e5 t5 ⟨v21,v22,v23⟩ H =>
    vQ <|
    qA (Z [p 1 (L y107 a1),p 2 (L Ty.bool a2),p 9 (O 15),p 11 (O 28),p 12 (I v15),p 13 (I v21),p 38 (B (decide (v21 < (a1.length:Int))))] [(28,A 2 i64 v22 0),(15,A 2 i64 v23 0)]) <|
    cD H (fun H=>?_) (fun H=>?_)
   ·refine vK<|fQ <|
     jN r (fun ((v25,v26):List Int×List Int)=>Z [p 1 (L y107 a1),p 2 (L Ty.bool a2),p 9 (O 15),p 11 (O 28),p 12 (I v15),p 13 (I v21)] [(28,A 2 i64 v26 0),(15,A 2 i64 v25 0)]) (u108J6 v21 g5) (fun ⟨v25,v26⟩ H=>?_) (fun _ n6 e6 t6=>?_)
    ·refine zB (Z [p 1 (L y107 a1),p 2 (L Ty.bool a2),p 9 (O 15),p 11 (O 28),p 12 (I v15),p 13 (I (v21+1))] [(28,A 2 i64 v26 0),(15,A 2 i64 v25 0)]) H fun H =>
      b5 H
    refine vB <|
     qB (Z [p 1 (L y107 a1),p 2 (L Ty.bool a2),p 9 (O 15),p 11 (O 28),p 12 (I v15),p 13 (I v21),p 67 (B (a2.getD v21.toNat false&&(a1.getD v21.toNat (dflt y107)).2.1==v22.getD v15.toNat 0&&decide (v23.getD (a1.getD v21.toNat (dflt y107)).1.toNat 0 < 0)))] [(28,A 2 i64 v22 0),(15,A 2 i64 v23 0)]) H fun H =>
     cD H (fun H=>?_) (fun H=>?_)
    ·refine qD (fun v24=>Z [p 1 (L y107 a1),p 2 (L Ty.bool a2),p 9 (O 15),p 11 (O 28),p 12 (I v15),p 13 (I v21)] [(15,A 2 i64 v24 0),(28,A 2 i64 v22 0)]) H fun v24 H =>
      zB (Z [p 1 (L y107 a1),p 2 (L Ty.bool a2),p 9 (O 15),p 11 (AV.os 28 1),p 12 (I v15),p 13 (I v21)] [(28,A 2 i64 (v22++[(a1.getD v21.toNat (dflt y107)).1]) 1),(89,A 2 i64 [(a1.getD v21.toNat (dflt y107)).1] 0),(15,A 2 i64 v24 0)]) H fun H =>
      fK<|n6 H
    exact vK<|fK<|n6 H
   exact vE<|fE<|e5<|fX rfl<|fK<|n4 H
  exact vE<|fE<|e3<|fX rfl<|n2 H
 refine qA (Z [p 0 (J a0),p 1 (L y107 a1),p 2 (L Ty.bool a2),p 3 (J a3),p 9 (O 15),p 10 (I 0)] [(15,A 2 i64 (List.replicate a0.toNat 0) 0)]) <|
  vB <|
  lX (fun ((v1,v2):Int×List Int)=>Z [p 0 (J a0),p 1 (L y107 a1),p 2 (L Ty.bool a2),p 3 (J a3),p 9 (O 15),p 10 (I v1)] [(15,A 2 i64 v2 0)]) (0,List.replicate a0.toNat 0) H fun _ g1 b1 e1 t1 ⟨v1,v2⟩ H =>
  vQ <|
  qA (Z [p 0 (J a0),p 1 (L y107 a1),p 2 (L Ty.bool a2),p 3 (J a3),p 9 (O 15),p 10 (I v1),p 18 (B (decide (v1 < a0)))] [(15,A 2 i64 v2 0)]) <|
  cD H (fun H=>?_) (fun H=>?_)
 ·refine vK<|fQ<|vQ<|vB <|
   zB (Z [p 0 (J a0),p 1 (L y107 a1),p 2 (L Ty.bool a2),p 3 (J a3),p 9 (O 15),p 10 (I v1)] [(15,A 2 i64 (v2.set v1.toNat (-1)) 0)]) H fun H =>
   fK<|fQ <|
   zB (Z [p 0 (J a0),p 1 (L y107 a1),p 2 (L Ty.bool a2),p 3 (J a3),p 9 (O 15),p 10 (I (v1+1))] [(15,A 2 i64 (v2.set v1.toNat (-1)) 0)]) H fun H =>
   b1 H
 exact vE<|fE<|e1<|fX rfl<|n0 H
def u60J3:List Int->Option (List Int×Bool)
 | v20 =>
 some ((v20,decide (0 < (v20.length:Int))))
def u60J5 (v13:Int) (g4:Int×Int×List Int->Option (List Int×Bool)):Int×List Int->Option (List Int×Bool)
 | (v18,v19) =>
 gd (in64 (v13 - 1)/\True) <|
 g4 (v18,v13 - 1,v19)
def u60L6 (v13:Int) (v14:List Int) (a1:List Y107) (a2:List Bool) (v12:Int) (v0:List Int) (g4:Int×Int×List Int->Option (List Int×Bool)) (g6:Int->Option (List Int×Bool)):Int->Option (List Int×Bool)
 | v16 =>
 if (decide (v16 < (a1.length:Int)))=true then
  gd (ix v16 a2.length/\(a2.getD v16.toNat false=true/\True->ix v16 a1.length)/\((a2.getD v16.toNat false&&(a1.getD v16.toNat (dflt y107)).1==v12)=true/\True->ix v16 a1.length)/\((a2.getD v16.toNat false&&(a1.getD v16.toNat (dflt y107)).1==v12)=true/\True->ix (a1.getD v16.toNat (dflt y107)).2.1 v0.length)/\((a2.getD v16.toNat false&&(a1.getD v16.toNat (dflt y107)).1==v12)=true/\True->(a1.getD v16.toNat (dflt y107)).2.1.toNat < v0.length)/\((a2.getD v16.toNat false&&(a1.getD v16.toNat (dflt y107)).1==v12)=true/\True->in64 (v13 - 1))/\True) <|
  if (a2.getD v16.toNat false&&(a1.getD v16.toNat (dflt y107)).1==v12&&v0.getD (a1.getD v16.toNat (dflt y107)).2.1.toNat 0==v13 - 1)=true then
   gd ((v14.length+[v16].length<=9223372036854775807/\(v14.length+[v16].length)*8<=140737488355328)/\True) <|
   gd (ix v16 a1.length/\True)<|lt (a1.getD v16.toNat (dflt y107)) fun v17 =>
   u60J5 v13 g4 (v17.2.1,v14++[v16])
  else
   gd (in64 (v16+1)/\True) <|
   g6 (v16+1)
 else
  u60J5 v13 g4 (v12,v14)
def u60L4 (a1:List Y107) (a2:List Bool) (v0:List Int) (g4:Int×Int×List Int->Option (List Int×Bool)):Int×Int×List Int->Option (List Int×Bool)
 | (v12,v13,v14) =>
 if (decide (0 < v13))=true then
  lp (u60L6 v13 v14 a1 a2 v12 v0 g4) 0
 else
  u60J3 v14
def u60J0 (a1:List Y107) (a2:List Bool) (v0:List Int) (a3:Int):Int->Option (List Int×Bool)
 | v6 =>
 lp (u60L4 a1 a2 v0) (a3,v6,[])
def u60J2 (v4:Int) (g1:Int×Int->Option (List Int×Bool)):Int->Option (List Int×Bool)
 | v5 =>
 gd (in64 (v4+1)/\True) <|
 g1 (v5,v4+1)
def u60L1 (v0:List Int) (a1:List Y107) (a2:List Bool) (a3:Int) (g1:Int×Int->Option (List Int×Bool)):Int×Int->Option (List Int×Bool)
 | (v3,v4) =>
 if (decide (v4 < (a1.length:Int)))=true then
  gd (ix v4 a1.length/\ix (a1.getD v4.toNat (dflt y107)).2.1 v0.length/\(a1.getD v4.toNat (dflt y107)).2.1.toNat < v0.length/\True) <|
  gd (ix v4 a2.length/\(a2.getD v4.toNat false=true/\True->ix v4 a1.length)/\(decide (v3 < 0)=false/\(a2.getD v4.toNat false&&(a1.getD v4.toNat (dflt y107)).1==a3&&decide (0<=v0.getD (a1.getD v4.toNat (dflt y107)).2.1.toNat 0))=true/\True->in64 (v0.getD (a1.getD v4.toNat (dflt y107)).2.1.toNat 0+1))/\True) <|
  if (a2.getD v4.toNat false&&(a1.getD v4.toNat (dflt y107)).1==a3&&decide (0<=v0.getD (a1.getD v4.toNat (dflt y107)).2.1.toNat 0)&&(decide (v3 < 0)||decide (v0.getD (a1.getD v4.toNat (dflt y107)).2.1.toNat 0+1 < v3)))=true then
   gd (in64 (v0.getD (a1.getD v4.toNat (dflt y107)).2.1.toNat 0+1)/\True) <|
   u60J2 v4 g1 (v0.getD (a1.getD v4.toNat (dflt y107)).2.1.toNat 0+1)
  else
   u60J2 v4 g1 v3
 else
  u60J0 a1 a2 v0 a3 v3
def u60 (a0:Int) (a1:List Y107) (a2:List Bool) (a3:Int):Option (List Int×Bool) :=
 gd ((u108 a0 a1 a2 a3).isSome=true/\True)<|lt (vl (u108 a0 a1 a2 a3)) fun v0 =>
 lp (u60L1 v0 a1 a2 a3) (-1,0)
def k60:Ct:=lct 60 [.dat i64,.dat y107.sl,.dat Ty.bool.sl,.dat i64] (fun x=>u60 x.1 x.2.1 x.2.2.1 x.2.2.2.1) (fun r:List Int×Bool=>AV.tup [AV.ow 2 true i64 r.1,B r.2]) (fun _=>())
theorem o60:Ok prog k60:=by
 refine okL [.tmp 8,.tmp 9] func60 ntmps60 results60 ?_
 intro y ⟨a0,a1,a2,a3,_⟩ r H Q hn hr
 have:HT _ _:=⟨tc o108 tn⟩
 refine qA (Z [p 0 (J a0),p 1 (L y107 a1),p 2 (L Ty.bool a2),p 3 (J a3)] []) <|
  qD (fun v0=>Z [p 1 (L y107 a1),p 2 (L Ty.bool a2),p 3 (J a3),p 10 (O 21)] [(21,A 2 i64 v0 0)]) H fun v0 H =>
  qA (Z [p 1 (L y107 a1),p 2 (L Ty.bool a2),p 3 (J a3),p 10 (O 21),p 11 (O 22)] [(22,A 2 i64 [] 0),(21,A 2 i64 v0 0)]) <|
  qA (Z [p 1 (L y107 a1),p 2 (L Ty.bool a2),p 3 (J a3),p 10 (O 21),p 11 (O 22),p 12 (J a3)] [(22,A 2 i64 [] 0),(21,A 2 i64 v0 0)]) <|
  qA (Z [p 1 (L y107 a1),p 2 (L Ty.bool a2),p 3 (J a3),p 10 (O 21),p 11 (O 22),p 12 (J a3),p 13 (I (-1))] [(22,A 2 i64 [] 0),(21,A 2 i64 v0 0)]) <|
  jN r (fun (v6:Int)=>Z [p 1 (L y107 a1),p 2 (L Ty.bool a2),p 10 (O 21),p 11 (O 22),p 12 (J a3),p 13 (I v6)] [(22,A 2 i64 [] 0),(21,A 2 i64 v0 0)]) (u60J0 a1 a2 v0 a3) (fun v6 H=>?_) (fun _ n0 e0 t0=>?_)
 ·refine jN r (fun (v20:List Int)=>Z [p 11 (O 22)] [(22,A 2 i64 v20 0)]) (u60J3) (fun v20 H=>?_) (fun _ n3 e3 t3=>?_)
  ·refine qA (Z [p 8 (O 22),p 9 (B (decide (0 < (v20.length:Int))))] [(22,A 2 i64 v20 0)]) <|
    vTT<|hr H
  refine vB <|
   lX (fun ((v12,v13,v14):Int×Int×List Int)=>Z [p 1 (L y107 a1),p 2 (L Ty.bool a2),p 10 (O 21),p 11 (O 22),p 12 (J v12),p 13 (I v13)] [(22,A 2 i64 v14 0),(21,A 2 i64 v0 0)]) (a3,v6,[]) H fun _ g4 b4 e4 t4 ⟨v12,v13,v14⟩ H =>
   vQ <|
   qA (Z [p 1 (L y107 a1),p 2 (L Ty.bool a2),p 10 (O 21),p 11 (O 22),p 12 (J v12),p 13 (I v13),p 68 (B (decide (0 < v13)))] [(22,A 2 i64 v14 0),(21,A 2 i64 v0 0)]) <|
   cD H (fun H=>?_) (fun H=>?_)
  ·refine vK<|fQ<|vB <|
    jN r (fun ((v18,v19):Int×List Int)=>Z [p 1 (L y107 a1),p 2 (L Ty.bool a2),p 10 (O 21),p 11 (O 22),p 12 (J v18),p 13 (I v13)] [(22,A 2 i64 v19 0),(21,A 2 i64 v0 0)]) (u60J5 v13 g4) (fun ⟨v18,v19⟩ H=>?_) (fun _ n5 e5 t5=>?_)
   ·refine zB (Z [p 1 (L y107 a1),p 2 (L Ty.bool a2),p 10 (O 21),p 11 (O 22),p 12 (J v18),p 13 (I (v13 - 1))] [(22,A 2 i64 v19 0),(21,A 2 i64 v0 0)]) H fun H =>
     fK<|b4 H
   refine qA (Z [p 1 (L y107 a1),p 2 (L Ty.bool a2),p 10 (O 21),p 11 (O 22),p 12 (J v12),p 13 (I v13),p 16 (I 0)] [(22,A 2 i64 v14 0),(21,A 2 i64 v0 0)]) <|
    vB <|
    lX (fun (v16:Int)=>Z [p 1 (L y107 a1),p 2 (L Ty.bool a2),p 10 (O 21),p 11 (O 22),p 12 (J v12),p 13 (I v13),p 16 (I v16)] [(22,A 2 i64 v14 0),(21,A 2 i64 v0 0)]) 0 H fun _ g6 b6 e6 t6 v16 H =>
    vQ <|
    qA (Z [p 1 (L y107 a1),p 2 (L Ty.bool a2),p 10 (O 21),p 11 (O 22),p 12 (J v12),p 13 (I v13),p 16 (I v16),p 72 (B (decide (v16 < (a1.length:Int))))] [(22,A 2 i64 v14 0),(21,A 2 i64 v0 0)]) <|
    cD H (fun H=>?_) (fun H=>?_)
   ·refine vK<|fQ<|vQ<|vB <|
     qB (Z [p 1 (L y107 a1),p 2 (L Ty.bool a2),p 10 (O 21),p 11 (O 22),p 12 (J v12),p 13 (I v13),p 16 (I v16),p 100 (B (a2.getD v16.toNat false&&(a1.getD v16.toNat (dflt y107)).1==v12&&v0.getD (a1.getD v16.toNat (dflt y107)).2.1.toNat 0==v13 - 1))] [(22,A 2 i64 v14 0),(21,A 2 i64 v0 0)]) H fun H =>
     cD H (fun H=>?_) (fun H=>?_)
    ·refine qB (Z [p 1 (L y107 a1),p 2 (L Ty.bool a2),p 10 (O 21),p 11 (AV.os 22 1),p 13 (I v13),p 16 (I v16)] [(22,A 2 i64 (v14++[v16]) 1),(103,A 2 i64 [v16] 0),(21,A 2 i64 v0 0)]) H fun H =>
      qD (fun v17=>Z [p 1 (L y107 a1),p 2 (L Ty.bool a2),p 10 (O 21),p 11 (AV.os 22 1),p 12 (J v17.2.1),p 13 (I v13)] [(22,A 2 i64 (v14++[v16]) 1),(103,A 2 i64 [v16] 0),(21,A 2 i64 v0 0)]) H fun v17 H =>
      vE<|fx_blk_other rfl<|fE<|e6<|fX rfl<|n5 H
    refine vK<|fK<|fQ <|
     zB (Z [p 1 (L y107 a1),p 2 (L Ty.bool a2),p 10 (O 21),p 11 (O 22),p 12 (J v12),p 13 (I v13),p 16 (I (v16+1))] [(22,A 2 i64 v14 0),(21,A 2 i64 v0 0)]) H fun H =>
     b6 H
   exact vE<|fE<|e6<|fX rfl<|n5 H
  exact vE<|fE<|e4<|fX rfl<|n3 H
 refine qA (Z [p 1 (L y107 a1),p 2 (L Ty.bool a2),p 3 (J a3),p 10 (O 21),p 11 (O 22),p 12 (J a3),p 13 (I (-1)),p 14 (I 0)] [(22,A 2 i64 [] 0),(21,A 2 i64 v0 0)]) <|
  vB <|
  lX (fun ((v3,v4):Int×Int)=>Z [p 1 (L y107 a1),p 2 (L Ty.bool a2),p 3 (J a3),p 10 (O 21),p 11 (O 22),p 12 (J a3),p 13 (I v3),p 14 (I v4)] [(22,A 2 i64 [] 0),(21,A 2 i64 v0 0)]) (-1,0) H fun _ g1 b1 e1 t1 ⟨v3,v4⟩ H =>
  vQ <|
  qA (Z [p 1 (L y107 a1),p 2 (L Ty.bool a2),p 3 (J a3),p 10 (O 21),p 11 (O 22),p 12 (J a3),p 13 (I v3),p 14 (I v4),p 27 (B (decide (v4 < (a1.length:Int))))] [(22,A 2 i64 [] 0),(21,A 2 i64 v0 0)]) <|
  cD H (fun H=>?_) (fun H=>?_)
 ·refine vK<|fQ <|
   jN r (fun (v5:Int)=>Z [p 1 (L y107 a1),p 2 (L Ty.bool a2),p 3 (J a3),p 10 (O 21),p 11 (O 22),p 12 (J a3),p 13 (I v5),p 14 (I v4)] [(22,A 2 i64 [] 0),(21,A 2 i64 v0 0)]) (u60J2 v4 g1) (fun v5 H=>?_) (fun _ n2 e2 t2=>?_)
  ·refine zB (Z [p 1 (L y107 a1),p 2 (L Ty.bool a2),p 3 (J a3),p 10 (O 21),p 11 (O 22),p 12 (J a3),p 13 (I v5),p 14 (I (v4+1))] [(22,A 2 i64 [] 0),(21,A 2 i64 v0 0)]) H fun H =>
    b1 H
  refine vB <|
   qB (Z [p 1 (L y107 a1),p 2 (L Ty.bool a2),p 3 (J a3),p 10 (O 21),p 11 (O 22),p 12 (J a3),p 13 (I v3),p 14 (I v4),p 15 (I (v0.getD (a1.getD v4.toNat (dflt y107)).2.1.toNat 0))] [(22,A 2 i64 [] 0),(21,A 2 i64 v0 0)]) H fun H =>
   qB (Z [p 1 (L y107 a1),p 2 (L Ty.bool a2),p 3 (J a3),p 10 (O 21),p 11 (O 22),p 12 (J a3),p 13 (I v3),p 14 (I v4),p 15 (I (v0.getD (a1.getD v4.toNat (dflt y107)).2.1.toNat 0)),p 64 (B (a2.getD v4.toNat false&&(a1.getD v4.toNat (dflt y107)).1==a3&&decide (0<=v0.getD (a1.getD v4.toNat (dflt y107)).2.1.toNat 0)&&(decide (v3 < 0)||decide (v0.getD (a1.getD v4.toNat (dflt y107)).2.1.toNat 0+1 < v3))))] [(22,A 2 i64 [] 0),(21,A 2 i64 v0 0)]) H fun H =>
   cD H (fun H=>?_) (fun H=>?_)
  ·refine zB (Z [p 1 (L y107 a1),p 2 (L Ty.bool a2),p 3 (J a3),p 10 (O 21),p 11 (O 22),p 12 (J a3),p 13 (I (v0.getD (a1.getD v4.toNat (dflt y107)).2.1.toNat 0+1)),p 14 (I v4)] [(22,A 2 i64 [] 0),(21,A 2 i64 v0 0)]) H fun H =>
    fK<|n2 H
  exact vK<|fK<|n2 H
 exact vE<|fE<|e1<|fX rfl<|n0 H
def u24 (a0:Y46) (a1:List Int) (a2:Int):Option (List Int×Int) :=
 gd ((u58 a0 a1 a2).isSome=true/\True)<|lt (vl (u58 a0 a1 a2)) fun v0 =>
 if (v0 != 0)=true then
  some ([],v0)
 else
  gd ((u59 a0).isSome=true/\True)<|lt (vl (u59 a0)) fun v1 =>
  gd ((u61 a0).isSome=true/\(u62 v1 a1).isSome=true/\(u60 (vl (u61 a0)) v1 (vl (u62 v1 a1)) a2).isSome=true/\True)<|lt ((vl (u60 (vl (u61 a0)) v1 (vl (u62 v1 a1)) a2),vl (u62 v1 a1))) fun (v2,v3) =>
  if (!v2.2)=true then
   some (([],(5:Int)))
  else
   some ((v2.1,(0:Int)))
def k24:Ct:=lct 24 [.agg y46,.dat i64.sl,.dat i64] (fun x=>u24 x.1 x.2.1 x.2.2.1) (fun r:List Int×Int=>AV.tup [AV.ow 2 true i64 r.1,I r.2]) (fun _=>())
theorem o24:Ok prog k24:=by
 refine okL [.tmp 6,.tmp 7] func24 ntmps24 results24 ?_
 intro y ⟨a0,a1,a2,_⟩ r H Q hn hr
 have:HT _ _:=⟨tc o60 (tc o62 (tc o61 (tc o59 (tc o58 tn))))⟩
 refine qA (Z [p 1 (L i64 a1),p 2 (J a2),p 3 (R 3)] [(3,K 46 y46 a0)]) <|
  vQ <|
  qD (fun v0=>Z [p 1 (L i64 a1),p 2 (J a2),p 3 (R 3),p 8 (I v0)] [(3,K 46 y46 a0)]) H fun v0 H =>
  qA (Z [p 1 (L i64 a1),p 2 (J a2),p 3 (R 3),p 8 (I v0),p 17 (B (v0 != 0))] [(3,K 46 y46 a0)]) <|
  cD H (fun H=>?_) (fun H=>?_)
 ·refine qA (Z [p 6 (O 18),p 7 (I v0)] [(18,A 2 i64 [] 0),(3,K 46 y46 a0)]) <|
   vTT<|fR<|hr H
 refine vK<|fQ <|
  qD (fun v1=>Z [p 1 (L i64 a1),p 2 (J a2),p 3 (R 3),p 9 (O 21)] [(21,A 107 y107 v1 0),(3,K 46 y46 a0)]) H fun v1 H =>
  qD (fun (v2,v3)=>Z [p 10 (O 30),p 11 (B v2.2)] [(30,A 2 i64 v2.1 0),(28,A 4 Ty.bool v3 0),(21,A 107 y107 v1 0),(3,K 46 y46 a0)]) H fun ⟨v2,v3⟩ H =>
  vQ <|
  qA (Z [p 10 (O 30),p 34 (B !v2.2)] [(30,A 2 i64 v2.1 0),(28,A 4 Ty.bool v3 0),(21,A 107 y107 v1 0),(3,K 46 y46 a0)]) <|
  cD H (fun H=>?_) (fun H=>?_)
 ·refine qA (Z [p 6 (O 35),p 7 (I 5)] [(35,A 2 i64 [] 0),(30,A 2 i64 v2.1 0),(28,A 4 Ty.bool v3 0),(21,A 107 y107 v1 0),(3,K 46 y46 a0)]) <|
   vTT<|fR<|hr H
 refine vK<|fQ <|
  qA (Z [p 6 (O 30),p 7 (I 0)] [(30,A 2 i64 v2.1 0),(28,A 4 Ty.bool v3 0),(21,A 107 y107 v1 0),(3,K 46 y46 a0)]) <|
  vTT<|hr H
def u182 (a0:Y107) (a1:Int):Option (Bool) :=
 some (a0.2.1==a1)
def k182:Ct:=lct 182 [.agg y107,.dat (.pt i64)] (fun x=>u182 x.1 x.2.1) (fun r:Bool=>B r) (fun _=>())
theorem o182:Ok prog k182:=by
 refine okL [.tmp 3] func182 ntmps182 results182 ?_
 intro y ⟨a0,a1,_⟩ r H Q hn hr
 have:HT _ _:=⟨@tn prog⟩
 refine qA (Z [p 1 (D i64.pt a1),p 2 (R 2)] [(2,K 107 y107 a0)]) <|
  qA (Z [p 3 (B (a0.2.1==a1))] [(2,K 107 y107 a0)]) <|
  vTT<|hr H
def u126c182J0:List Int->Option (List Int)
 | v6 =>
 some v6
def u126c182J2 (v3:Int) (g1:List Int×Int->Option (List Int)):List Int->Option (List Int)
 | v5 =>
 gd (in64 (v3+1)/\True) <|
 g1 (v5,v3+1)
def u126c182L1 (a0:Y92) (a1:Int) (g1:List Int×Int->Option (List Int)):List Int×Int->Option (List Int)
 | (v2,v3) =>
 if (decide (v3 < (a0.1.2.2.1.length:Int)))=true then
  gd (ix v3 a0.1.2.2.1.length/\True)<|lt (a0.1.2.2.1.getD v3.toNat (dflt y107)) fun v4 =>
  gd (ix v3 a0.2.length/\(a0.2.getD v3.toNat false=true/\True->(u182 v4 a1).isSome=true)/\True) <|
  if (a0.2.getD v3.toNat false&&vl (u182 v4 a1))=true then
   gd ((v2.length+[v3].length<=9223372036854775807/\(v2.length+[v3].length)*8<=140737488355328)/\True) <|
   u126c182J2 v3 g1 (v2++[v3])
  else
   u126c182J2 v3 g1 v2
 else
  u126c182J0 v2
def u126c182 (a0:Y92) (a1:Int):Option (List Int) :=
 lp (u126c182L1 a0 a1) ([],0)
def k126c182:Ct:=lct 126 [.dat y92.pt,.fn 182 (.pt i64)] (fun x=>u126c182 x.1 x.2.1) (fun r:List Int=>AV.ow 2 true i64 r) (fun _=>())
theorem o126c182:Ok prog k126c182:=by
 refine okL [.tmp 4] func126 ntmps126 results126 ?_
 intro y ⟨a0,a1,_⟩ r H Q hn hr
 have:HT _ _:=⟨tc o182 tn⟩
 refine qA (Z [p 0 (D y92.pt a0),p 1 (AV.fn 182 [D i64.pt a1])] []) <|
  qA (Z [p 0 (D y92.pt a0),p 1 (AV.fn 182 [D i64.pt a1]),p 5 (nil)] []) <|
  jN r (fun (v6:List Int)=>Z [p 5 (O 36)] [(36,A 2 i64 v6 0)]) (u126c182J0) (fun v6 H=>?_) (fun _ n0 e0 t0=>?_)
 ·refine qA (Z [p 4 (O 36)] [(36,A 2 i64 v6 0)]) <|
   vTT<|hr H
 refine qA (Z [p 0 (D y92.pt a0),p 1 (AV.fn 182 [D i64.pt a1]),p 5 (nil),p 14 (L y107 a0.1.2.2.1),p 15 (I (a0.1.2.2.1.length:Int)),p 16 (I 0)] []) <|
  vB <|
  lX (fun ((v2,v3):List Int×Int)=>Z [p 0 (D y92.pt a0),p 1 (AV.fn 182 [D i64.pt a1]),p 5 (O 36),p 14 (L y107 a0.1.2.2.1),p 15 (I (a0.1.2.2.1.length:Int)),p 16 (I v3)] [(36,A 2 i64 v2 0)]) ([],0) H fun _ g1 b1 e1 t1 ⟨v2,v3⟩ H =>
  qA (Z [p 0 (D y92.pt a0),p 1 (AV.fn 182 [D i64.pt a1]),p 5 (O 36),p 14 (L y107 a0.1.2.2.1),p 15 (I (a0.1.2.2.1.length:Int)),p 16 (I v3),p 17 (B (decide (v3 < (a0.1.2.2.1.length:Int))))] [(36,A 2 i64 v2 0)]) <|
  vQ <|
  cD H (fun H=>?_) (fun H=>?_)
 ·refine vK<|fQ <|
   jN r (fun (v5:List Int)=>Z [p 0 (D y92.pt a0),p 1 (AV.fn 182 [D i64.pt a1]),p 5 (O 36),p 14 (L y107 a0.1.2.2.1),p 15 (I (a0.1.2.2.1.length:Int)),p 16 (I v3)] [(36,A 2 i64 v5 0)]) (u126c182J2 v3 g1) (fun v5 H=>?_) (fun _ n2 e2 t2=>?_)
  ·refine zB (Z [p 0 (D y92.pt a0),p 1 (AV.fn 182 [D i64.pt a1]),p 5 (O 36),p 14 (L y107 a0.1.2.2.1),p 15 (I (a0.1.2.2.1.length:Int)),p 16 (I (v3+1))] [(36,A 2 i64 v5 0)]) H fun H =>
    b1 H
  refine vB <|
   qD (fun v4=>Z [p 0 (D y92.pt a0),p 1 (AV.fn 182 [D i64.pt a1]),p 5 (O 36),p 6 (I v3),p 7 (R 7),p 14 (L y107 a0.1.2.2.1),p 15 (I (a0.1.2.2.1.length:Int)),p 16 (I v3)] [(7,K 107 y107 v4),(36,A 2 i64 v2 0)]) H fun v4 H =>
   qB (Z [p 0 (D y92.pt a0),p 1 (AV.fn 182 [D i64.pt a1]),p 5 (O 36),p 6 (I v3),p 14 (L y107 a0.1.2.2.1),p 15 (I (a0.1.2.2.1.length:Int)),p 16 (I v3),p 32 (B (a0.2.getD v3.toNat false&&vl (u182 v4 a1)))] [(7,K 107 y107 v4),(36,A 2 i64 v2 0)]) H fun H =>
   cD H (fun H=>?_) (fun H=>?_)
  ·refine zB (Z [p 0 (D y92.pt a0),p 1 (AV.fn 182 [D i64.pt a1]),p 5 (AV.os 36 1),p 14 (L y107 a0.1.2.2.1),p 15 (I (a0.1.2.2.1.length:Int)),p 16 (I v3)] [(36,A 2 i64 (v2++[v3]) 1),(35,A 2 i64 [v3] 0),(7,K 107 y107 v4)]) H fun H =>
    fK<|n2 H
  exact vK<|fK<|n2 H
 exact vE<|fE<|e1<|fX rfl<|n0 H
def u151 (a0:Y92) (a1:Int):Option (List Int) :=
 gd ((u126c182 a0 a1).isSome=true/\True)<|lt (vl (u126c182 a0 a1)) fun v0 =>
 some v0
def k151:Ct:=lct 151 [.dat y92.pt,.dat i64] (fun x=>u151 x.1 x.2.1) (fun r:List Int=>AV.ow 2 true i64 r) (fun _=>())
theorem o151:Ok prog k151:=by
 refine okL [.tmp 4] func151 ntmps151 results151 ?_
 intro y ⟨a0,a1,_⟩ r H Q hn hr
 have:HT _ _:=⟨tc o126c152 (tc o126c149 (tc o126c182 (tc o182 tn)))⟩
 refine qA (Z [p 0 (D y92.pt a0),p 3 (R 3)] [(3,Ob.box 2 [J a1])]) <|
  qD (fun v0=>Z [p 4 (O 7)] [(7,A 2 i64 v0 0),(3,Ob.box 2 [J a1])]) H fun v0 H =>
  vTT<|hr H
def u111J2:List Int->Option (List Int)
 | v35 =>
 some v35
def u111J4 (g3:List Int×List Int->Option (List Int)):List Int×List Int->Option (List Int)
 | (v33,v34) =>
 gd (((0:Int)<=(1:Int)/\(1:Int)<=(v33.length:Int)/\(v33.length:Int)<=(v33.length:Int))/\True) <|
 g3 ((List.drop (Int.toNat (1:Int)) v33,v34))
def u111J6 (v26:Int) (g5:Int×List Int×List Int->Option (List Int)):List Int×List Int->Option (List Int)
 | (v31,v32) =>
 gd (in64 (v26+1)/\True) <|
 g5 (v26+1,v31,v32)
def u111L5 (a0:Y92) (v21:List Int) (g3:List Int×List Int->Option (List Int)) (g5:Int×List Int×List Int->Option (List Int)):Int×List Int×List Int->Option (List Int)
 | (v26,v27,v28) =>
 if (decide (v26 < (v21.length:Int)))=true then
  gd (ix v26 v21.length/\v26.toNat < v21.length/\True) <|
  gd (ix (v21.getD v26.toNat 0) a0.1.2.2.1.length/\True)<|lt (a0.1.2.2.1.getD (Int.toNat (v21.getD v26.toNat 0)) (dflt y107)) fun v29 =>
  gd (ix v29.1 v28.length/\v29.1.toNat < v28.length/\True) <|
  if (decide (v28.getD v29.1.toNat 0 < 0))=true then
   gd (ix (0:Int) v27.length/\Int.toNat (0:Int) < v27.length/\ix (v27.getD (Int.toNat (0:Int)) (0:Int)) v28.length/\Int.toNat (v27.getD (Int.toNat (0:Int)) (0:Int)) < v28.length/\in64 (v28.getD (Int.toNat (v27.getD (Int.toNat (0:Int)) (0:Int))) (0:Int)+(1:Int))/\ix v29.1 v28.length/\v29.1.toNat < v28.length/\True)<|lt (v28.set v29.1.toNat (v28.getD (Int.toNat (v27.getD (Int.toNat (0:Int)) (0:Int))) (0:Int)+(1:Int))) fun v30 =>
   gd ((v27.length+[v29.1].length<=9223372036854775807/\(v27.length+[v29.1].length)*8<=140737488355328)/\True) <|
   u111J6 v26 g5 (v27++[v29.1],v30)
  else
   u111J6 v26 g5 (v27,v28)
 else
  u111J4 g3 (v27,v28)
def u111L3 (a0:Y92) (g3:List Int×List Int->Option (List Int)):List Int×List Int->Option (List Int)
 | (v19,v20) =>
 if (decide (0 < (v19.length:Int)))=true then
  gd (ix (0:Int) v19.length/\Int.toNat (0:Int) < v19.length/\(u151 a0 (v19.getD (Int.toNat (0:Int)) (0:Int))).isSome=true/\True)<|lt (vl (u151 a0 (v19.getD (Int.toNat (0:Int)) (0:Int)))) fun v21 =>
  lp (u111L5 a0 v21 g3) (0,v19,v20)
 else
  u111J2 v20
def u111J0 (a0:Y92) (a1:Int):List Int->Option (List Int)
 | v4 =>
 gd (ix a1 v4.length/\a1.toNat < v4.length/\True) <|
 lp (u111L3 a0) ([a1],v4.set a1.toNat 0)
def u111L1 (a0:Y92) (a1:Int) (v0:Int) (g1:Int×List Int->Option (List Int)):Int×List Int->Option (List Int)
 | (v2,v3) =>
 if (decide (v2 < (↑(List.replicate v0.toNat (0:Int)).length:Int)))=true then
  gd (ix v2 v3.length/\v2.toNat < v3.length/\True) <|
  gd (in64 (v2+1)/\True) <|
  g1 ((v2+1,v3.set v2.toNat (-1)))
 else
  u111J0 a0 a1 v3
def u111 (a0:Y92) (a1:Int):Option (List Int) :=
 gd ((u86 a0.1).isSome=true/\(0<=vl (u86 a0.1)/\vl (u86 a0.1)=vl (u86 a0.1)/\(vl (u86 a0.1)).toNat*8<=281474976710656/\vl (u86 a0.1)<=9223372036854775807)/\True)<|lt (vl (u86 a0.1)) fun v0 =>
 lp (u111L1 a0 a1 v0) (0,List.replicate v0.toNat 0)
def k111:Ct:=lct 111 [.dat y92.pt,.dat i64] (fun x=>u111 x.1 x.2.1) (fun r:List Int=>AV.ow 2 true i64 r) (fun _=>())
theorem o111:Ok prog k111:=by
 refine okL [.tmp 4] func111 ntmps111 results111 ?_
 intro y ⟨a0,a1,_⟩ r H Q hn hr
 have:HT _ _:=⟨tc o151 (tc o86 tn)⟩
 refine qA (Z [p 0 (D y92.pt a0),p 1 (J a1)] []) <|
  qD (fun v0=>Z [p 0 (D y92.pt a0),p 1 (J a1),p 5 (O 16)] [(16,A 2 i64 (List.replicate v0.toNat 0) 0)]) H fun v0 H =>
  jN r (fun (v4:List Int)=>Z [p 0 (D y92.pt a0),p 1 (J a1),p 5 (O 16)] [(16,A 2 i64 v4 0)]) (u111J0 a0 a1) (fun v4 H=>?_) (fun _ n0 e0 t0=>?_)
 ·refine qB (Z [p 0 (D y92.pt a0),p 1 (J a1),p 5 (O 16)] [(16,A 2 i64 (v4.set a1.toNat 0) 0)]) H fun H =>
   jN r (fun (v35:List Int)=>Z [p 5 (O 16)] [(16,A 2 i64 v35 0)]) (u111J2) (fun v35 H=>?_) (fun _ n2 e2 t2=>?_)
  ·refine qA (Z [p 4 (O 16)] [(16,A 2 i64 v35 0)]) <|
    vTT<|hr H
  refine qA (Z [p 0 (D y92.pt a0),p 5 (O 16),p 7 (O 30)] [(30,A 2 i64 [a1] 0),(16,A 2 i64 (v4.set a1.toNat 0) 0)]) <|
   vB <|
   lX (fun ((v19,v20):List Int×List Int)=>Z [p 0 (D y92.pt a0),p 5 (O 16),p 7 (O 30)] [(30,A 2 i64 v19 0),(16,A 2 i64 v20 0)]) ([a1],v4.set a1.toNat 0) H fun _ g3 b3 e3 t3 ⟨v19,v20⟩ H =>
   vQ <|
   qA (Z [p 0 (D y92.pt a0),p 5 (O 16),p 7 (O 30),p 33 (B (decide (0 < (v19.length:Int))))] [(30,A 2 i64 v19 0),(16,A 2 i64 v20 0)]) <|
   cD H (fun H=>?_) (fun H=>?_)
  ·refine vK<|fQ <|
    jN r (fun ((v33,v34):List Int×List Int)=>Z [p 0 (D y92.pt a0),p 5 (O 16),p 7 (O 30)] [(30,A 2 i64 v33 0),(16,A 2 i64 v34 0)]) (u111J4 g3) (fun ⟨v33,v34⟩ H=>?_) (fun _ n4 e4 t4=>?_)
   ·refine zB (Z [p 0 (D y92.pt a0),p 5 (O 16),p 7 (AV.os 30 1)] [(30,A 2 i64 (List.drop (Int.toNat (1:Int)) v33) 1),(16,A 2 i64 v34 0)]) H fun H =>
     b3 H
   refine vB <|
    qD (fun v21=>Z [p 0 (D y92.pt a0),p 5 (O 16),p 7 (O 30),p 40 (O 40),p 41 (I (v21.length:Int)),p 42 (I 0)] [(40,A 2 i64 v21 0),(30,A 2 i64 v19 0),(16,A 2 i64 v20 0)]) H fun v21 H =>
    vB <|
    lX (fun ((v26,v27,v28):Int×List Int×List Int)=>Z [p 0 (D y92.pt a0),p 5 (O 16),p 7 (O 30),p 40 (O 40),p 41 (I (v21.length:Int)),p 42 (I v26)] [(40,A 2 i64 v21 0),(30,A 2 i64 v27 0),(16,A 2 i64 v28 0)]) (0,v19,v20) H fun _ g5 b5 e5 t5 ⟨v26,v27,v28⟩ H =>
    qA (Z [p 0 (D y92.pt a0),p 5 (O 16),p 7 (O 30),p 40 (O 40),p 41 (I (v21.length:Int)),p 42 (I v26),p 43 (B (decide (v26 < (v21.length:Int))))] [(40,A 2 i64 v21 0),(30,A 2 i64 v27 0),(16,A 2 i64 v28 0)]) <|
    vQ <|
    cD H (fun H=>?_) (fun H=>?_)
   ·refine vK<|fQ <|
     jN r (fun ((v31,v32):List Int×List Int)=>Z [p 0 (D y92.pt a0),p 5 (O 16),p 7 (O 30),p 40 (O 40),p 41 (I (v21.length:Int)),p 42 (I v26)] [(30,A 2 i64 v31 0),(16,A 2 i64 v32 0),(40,A 2 i64 v21 0)]) (u111J6 v26 g5) (fun ⟨v31,v32⟩ H=>?_) (fun _ n6 e6 t6=>?_)
    ·refine zB (Z [p 0 (D y92.pt a0),p 5 (O 16),p 7 (O 30),p 40 (O 40),p 41 (I (v21.length:Int)),p 42 (I (v26+1))] [(30,A 2 i64 v31 0),(16,A 2 i64 v32 0),(40,A 2 i64 v21 0)]) H fun H =>
      b5 H
    refine vB <|
     qB (Z [p 0 (D y92.pt a0),p 5 (O 16),p 7 (O 30),p 9 (I (v21.getD v26.toNat 0)),p 40 (O 40),p 41 (I (v21.length:Int)),p 42 (I v26)] [(40,A 2 i64 v21 0),(30,A 2 i64 v27 0),(16,A 2 i64 v28 0)]) H fun H =>
     qD (fun v29=>Z [p 0 (D y92.pt a0),p 5 (O 16),p 7 (O 30),p 10 (J v29.1),p 40 (O 40),p 41 (I (v21.length:Int)),p 42 (I v26)] [(40,A 2 i64 v21 0),(30,A 2 i64 v27 0),(16,A 2 i64 v28 0)]) H fun v29 H =>
     qB (Z [p 0 (D y92.pt a0),p 5 (O 16),p 7 (O 30),p 10 (J v29.1),p 40 (O 40),p 41 (I (v21.length:Int)),p 42 (I v26),p 61 (B (decide (v28.getD v29.1.toNat 0 < 0)))] [(40,A 2 i64 v21 0),(30,A 2 i64 v27 0),(16,A 2 i64 v28 0)]) H fun H =>
     cD H (fun H=>?_) (fun H=>?_)
    ·refine qD (fun v30=>Z [p 0 (D y92.pt a0),p 5 (O 16),p 7 (O 30),p 10 (J v29.1),p 40 (O 40),p 41 (I (v21.length:Int)),p 42 (I v26)] [(16,A 2 i64 v30 0),(40,A 2 i64 v21 0),(30,A 2 i64 v27 0)]) H fun v30 H =>
      zB (Z [p 0 (D y92.pt a0),p 5 (O 16),p 7 (AV.os 30 1),p 40 (O 40),p 41 (I (v21.length:Int)),p 42 (I v26)] [(30,A 2 i64 (v27++[v29.1]) 1),(74,A 2 i64 [v29.1] 0),(16,A 2 i64 v30 0),(40,A 2 i64 v21 0)]) H fun H =>
      fK<|n6 H
    exact vK<|fK<|n6 H
   exact vE<|fE<|e5<|fX rfl<|fK<|n4 H
  exact vE<|fE<|e3<|fX rfl<|n2 H
 refine qA (Z [p 0 (D y92.pt a0),p 1 (J a1),p 5 (O 16),p 18 (I (↑(List.replicate v0.toNat (0:Int)).length:Int)),p 19 (I (0:Int))] [(16,A 2 i64 (List.replicate v0.toNat (0:Int)) 0)]) <|
  vB <|
  lX (fun ((v2,v3):Int×List Int)=>Z [p 0 (D y92.pt a0),p 1 (J a1),p 5 (O 16),p 18 (I (↑(List.replicate v0.toNat (0:Int)).length:Int)),p 19 (I v2)] [(16,A 2 i64 v3 0)]) (0,List.replicate v0.toNat 0) H fun _ g1 b1 e1 t1 ⟨v2,v3⟩ H =>
  qA (Z [p 0 (D y92.pt a0),p 1 (J a1),p 5 (O 16),p 18 (I (↑(List.replicate v0.toNat (0:Int)).length:Int)),p 19 (I v2),p 20 (B (decide (v2 < (↑(List.replicate v0.toNat (0:Int)).length:Int))))] [(16,A 2 i64 v3 0)]) <|
  vQ <|
  cD H (fun H=>?_) (fun H=>?_)
 ·refine vK<|fQ<|vQ<|vB <|
   qA (Z [p 0 (D y92.pt a0),p 1 (J a1),p 5 (O 16),p 6 (I v2),p 18 (I (↑(List.replicate v0.toNat (0:Int)).length:Int)),p 19 (I v2)] [(16,A 2 i64 v3 0)]) <|
   zB (Z [p 0 (D y92.pt a0),p 1 (J a1),p 5 (O 16),p 18 (I (↑(List.replicate v0.toNat (0:Int)).length:Int)),p 19 (I v2)] [(16,A 2 i64 (v3.set v2.toNat (-1:Int)) 0)]) H fun H =>
   fK<|fQ <|
   zB (Z [p 0 (D y92.pt a0),p 1 (J a1),p 5 (O 16),p 18 (I (↑(List.replicate v0.toNat (0:Int)).length:Int)),p 19 (I (v2+(1:Int)))] [(16,A 2 i64 (v3.set v2.toNat (-1:Int)) 0)]) H fun H =>
   b1 H
 exact vE<|fE<|e1<|fX rfl<|n0 H
def u112J0:Int->Option (Int×Bool)
 | v7 =>
 some ((v7,decide (0<=v7)))
def u112J2 (v4:Int) (g1:Int×Int->Option (Int×Bool)):Int->Option (Int×Bool)
 | v6 =>
 gd (in64 (v4+1)/\True) <|
 g1 (v6,v4+1)
def u112L1 (v0:List Int) (a2:List Int) (a1:Y92) (g1:Int×Int->Option (Int×Bool)):Int×Int->Option (Int×Bool)
 | (v3,v4) =>
 if (decide (v4 < (v0.length:Int)))=true then
  gd (ix v4 v0.length/\v4.toNat < v0.length/\True) <|
  gd (ix (v0.getD v4.toNat 0) a1.1.2.2.1.length/\ix (a1.1.2.2.1.getD (Int.toNat (v0.getD v4.toNat 0)) (dflt y107)).2.1 a2.length/\True)<|lt (a2.getD (a1.1.2.2.1.getD (Int.toNat (v0.getD v4.toNat 0)) (dflt y107)).2.1.toNat 0) fun v5 =>
  gd ((decide (v3 < 0)=false/\decide (0<=v5)=true/\True->ix v3 a1.1.2.2.1.length)/\(decide (v3 < 0)=false/\decide (0<=v5)=true/\True->ix (a1.1.2.2.1.getD v3.toNat (dflt y107)).2.1 a2.length)/\True) <|
  if (decide (0<=v5)&&(decide (v3 < 0)||decide (v5 < a2.getD (a1.1.2.2.1.getD v3.toNat (dflt y107)).2.1.toNat 0)))=true then
   u112J2 v4 g1 (v0.getD v4.toNat 0)
  else
   u112J2 v4 g1 v3
 else
  u112J0 v3
def u112 (a0:Int) (a1:Y92) (a2:List Int):Option (Int×Bool) :=
 gd ((u113 a1 a0).isSome=true/\True)<|lt (vl (u113 a1 a0)) fun v0 =>
 lp (u112L1 v0 a2 a1) (-1,0)
def k112:Ct:=lct 112 [.dat i64,.dat (.pt y92.pt),.dat (.pt i64.sl)] (fun x=>u112 x.1 x.2.1 x.2.2.1) (fun r:Int×Bool=>AV.tup [I r.1,B r.2]) (fun _=>())
theorem o112:Ok prog k112:=by
 refine okL [.tmp 4,.tmp 5] func112 ntmps112 results112 ?_
 intro y ⟨a0,a1,a2,_⟩ r H Q hn hr
 have:HT _ _:=⟨tc o113 tn⟩
 refine qA (Z [p 0 (J a0),p 1 (D y92.pt.pt a1),p 2 (D i64.sl.pt a2)] []) <|
  qA (Z [p 0 (J a0),p 1 (D y92.pt.pt a1),p 2 (D i64.sl.pt a2),p 6 (I (-1))] []) <|
  jN r (fun (v7:Int)=>Z [p 6 (I v7)] []) (u112J0) (fun v7 H=>?_) (fun _ n0 e0 t0=>?_)
 ·refine qA (Z [p 4 (I v7),p 5 (B (decide (0<=v7)))] []) <|
   vTT<|hr H
 refine qD (fun v0=>Z [p 1 (D y92.pt.pt a1),p 2 (D i64.sl.pt a2),p 6 (I (-1)),p 12 (O 12),p 13 (I (v0.length:Int)),p 14 (I 0)] [(12,A 2 i64 v0 0)]) H fun v0 H =>
  vB <|
  lX (fun ((v3,v4):Int×Int)=>Z [p 1 (D y92.pt.pt a1),p 2 (D i64.sl.pt a2),p 6 (I v3),p 12 (O 12),p 13 (I (v0.length:Int)),p 14 (I v4)] [(12,A 2 i64 v0 0)]) (-1,0) H fun _ g1 b1 e1 t1 ⟨v3,v4⟩ H =>
  qA (Z [p 1 (D y92.pt.pt a1),p 2 (D i64.sl.pt a2),p 6 (I v3),p 12 (O 12),p 13 (I (v0.length:Int)),p 14 (I v4),p 15 (B (decide (v4 < (v0.length:Int))))] [(12,A 2 i64 v0 0)]) <|
  vQ <|
  cD H (fun H=>?_) (fun H=>?_)
 ·refine vK<|fQ <|
   jN r (fun (v6:Int)=>Z [p 1 (D y92.pt.pt a1),p 2 (D i64.sl.pt a2),p 6 (I v6),p 12 (O 12),p 13 (I (v0.length:Int)),p 14 (I v4)] [(12,A 2 i64 v0 0)]) (u112J2 v4 g1) (fun v6 H=>?_) (fun _ n2 e2 t2=>?_)
  ·refine zB (Z [p 1 (D y92.pt.pt a1),p 2 (D i64.sl.pt a2),p 6 (I v6),p 12 (O 12),p 13 (I (v0.length:Int)),p 14 (I (v4+1))] [(12,A 2 i64 v0 0)]) H fun H =>
    b1 H
  refine vB <|
   qB (Z [p 1 (D y92.pt.pt a1),p 2 (D i64.sl.pt a2),p 6 (I v3),p 8 (I (v0.getD v4.toNat 0)),p 12 (O 12),p 13 (I (v0.length:Int)),p 14 (I v4)] [(12,A 2 i64 v0 0)]) H fun H =>
   qD (fun v5=>Z [p 1 (D y92.pt.pt a1),p 2 (D i64.sl.pt a2),p 6 (I v3),p 8 (I (v0.getD v4.toNat 0)),p 9 (J v5),p 12 (O 12),p 13 (I (v0.length:Int)),p 14 (I v4)] [(12,A 2 i64 v0 0)]) H fun v5 H =>
   qB (Z [p 1 (D y92.pt.pt a1),p 2 (D i64.sl.pt a2),p 6 (I v3),p 8 (I (v0.getD v4.toNat 0)),p 12 (O 12),p 13 (I (v0.length:Int)),p 14 (I v4),p 55 (B (decide (0<=v5)&&(decide (v3 < 0)||decide (v5 < a2.getD (a1.1.2.2.1.getD v3.toNat (dflt y107)).2.1.toNat 0))))] [(12,A 2 i64 v0 0)]) H fun H =>
   cD H (fun H=>?_) (fun H=>?_)
  ·refine zA (Z [p 1 (D y92.pt.pt a1),p 2 (D i64.sl.pt a2),p 6 (I (v0.getD v4.toNat 0)),p 12 (O 12),p 13 (I (v0.length:Int)),p 14 (I v4)] [(12,A 2 i64 v0 0)]) <|
    fK<|n2 H
  exact vK<|fK<|n2 H
 exact vE<|fE<|e1<|fX rfl<|n0 H
def u63L0 (a1:Int) (a0:Y92) (v0:List Int) (g0:List Int×Int->Option (Unit ⊕ List Int)):List Int×Int->Option (Unit ⊕ List Int)
 | (v3,v4) =>
 gd ((u112 v4 a0 v0).isSome=true/\True)<|lt (vl (u112 v4 a0 v0)) fun v5 =>
 if (!v5.2)=true then
  some (Sum.inl ())
 else
  gd ((v3.length+[v5.1].length<=9223372036854775807/\(v3.length+[v5.1].length)*8<=140737488355328)/\True) <|
  gd (ix v5.1 a0.1.2.2.1.length/\True)<|lt (a0.1.2.2.1.getD v5.1.toNat (dflt y107)) fun v6 =>
  if (v6.2.1==a1)=true then
   some (Sum.inr (v3++[v5.1]))
  else
   g0 (v3++[v5.1],v6.2.1)
def u63 (a0:Y92) (a1:Int):Option (Unit ⊕ List Int) :=
 gd ((u111 a0 a1).isSome=true/\True)<|lt (vl (u111 a0 a1)) fun v0 =>
 lp (u63L0 a1 a0 v0) ([],a1)
def k63:Ct:=lct 63 [.dat y92.pt,.dat i64] (fun x=>u63 x.1 x.2.1) (two (fun r:Unit=>AV.v (Value.slice none 0 0)) (fun r:List Int=>AV.ow 2 true i64 r)) (fun _=>())
def k63L:Ct:=lctL 63 [.dat y92.pt,.dat i64] (fun x=>u63 x.1 x.2.1) (fun r:Unit=>AV.v (Value.slice none 0 0)) ()
def k63R:Ct:=lctR 63 [.dat y92.pt,.dat i64] (fun x=>u63 x.1 x.2.1) (fun r:List Int=>AV.ow 2 true i64 r) ()
theorem o63:Ok prog k63:=by
 refine okL [.tmp 4] func63 ntmps63 results63 ?_
 intro y ⟨a0,a1,_⟩ r H Q hn hr
 have:HT _ _:=⟨tc o112 (tc o111 tn)⟩
 refine qA (Z [p 1 (J a1),p 2 (R 2)] [(2,Ob.box 72 [D y92.pt a0])]) <|
  qD (fun v0=>Z [p 1 (J a1),p 2 (R 2),p 5 (R 5)] [(5,Ob.box 33 [AV.os 13 0]),(13,A 2 i64 v0 0),(2,Ob.box 72 [D y92.pt a0])]) H fun v0 H =>
  qA (Z [p 1 (J a1),p 2 (R 2),p 6 (AV.fn 112 [AV.ptr 2 0,AV.ptr 5 0])] [(5,Ob.box 33 [AV.os 13 0]),(13,A 2 i64 v0 0),(2,Ob.box 72 [D y92.pt a0])]) <|
  qA (Z [p 1 (J a1),p 2 (R 2),p 6 (AV.fn 112 [AV.ptr 2 0,AV.ptr 5 0]),p 7 (nil)] [(5,Ob.box 33 [AV.os 13 0]),(13,A 2 i64 v0 0),(2,Ob.box 72 [D y92.pt a0])]) <|
  qA (Z [p 1 (J a1),p 2 (R 2),p 6 (AV.fn 112 [AV.ptr 2 0,AV.ptr 5 0]),p 7 (nil),p 8 (J a1)] [(5,Ob.box 33 [AV.os 13 0]),(13,A 2 i64 v0 0),(2,Ob.box 72 [D y92.pt a0])]) <|
  vB <|
  lX (fun ((v3,v4):List Int×Int)=>Z [p 1 (J a1),p 2 (R 2),p 6 (AV.fn 112 [AV.ptr 2 0,AV.ptr 5 0]),p 7 (O 27),p 8 (J v4)] [(5,Ob.box 33 [AV.os 13 0]),(13,A 2 i64 v0 0),(2,Ob.box 72 [D y92.pt a0]),(27,A 2 i64 v3 0)]) ([],a1) H fun _ g0 b0 e0 t0 ⟨v3,v4⟩ H =>
  vB <|
  qD (fun v5=>Z [p 1 (J a1),p 2 (R 2),p 6 (AV.fn 112 [AV.ptr 2 0,AV.ptr 5 0]),p 7 (O 27),p 9 (I v5.1),p 10 (B v5.2)] [(5,Ob.box 33 [AV.os 13 0]),(13,A 2 i64 v0 0),(2,Ob.box 72 [D y92.pt a0]),(27,A 2 i64 v3 0)]) H fun v5 H =>
  vQ<|?_
 refine qA (Z [p 1 (J a1),p 2 (R 2),p 6 (AV.fn 112 [AV.ptr 2 0,AV.ptr 5 0]),p 7 (O 27),p 9 (I v5.1),p 23 (B !v5.2)] [(5,Ob.box 33 [AV.os 13 0]),(13,A 2 i64 v0 0),(2,Ob.box 72 [D y92.pt a0]),(27,A 2 i64 v3 0)]) <|
  cD H (fun H=>?_) (fun H=>?_)
 ·refine qA (Z [p 4 (nil)] [(5,Ob.box 33 [AV.os 13 0]),(13,A 2 i64 v0 0),(2,Ob.box 72 [D y92.pt a0]),(27,A 2 i64 v3 0)]) <|
   vTT<|fR<|fDD<|t0<|fDD<|hr H
 refine vK<|fQ <|
  qB (Z [p 1 (J a1),p 2 (R 2),p 6 (AV.fn 112 [AV.ptr 2 0,AV.ptr 5 0]),p 7 (AV.os 27 1),p 9 (I v5.1)] [(27,A 2 i64 (v3++[v5.1]) 1),(26,A 2 i64 [v5.1] 0),(5,Ob.box 33 [AV.os 13 0]),(13,A 2 i64 v0 0),(2,Ob.box 72 [D y92.pt a0])]) H fun H =>
  qD (fun v6=>Z [p 1 (J a1),p 2 (R 2),p 6 (AV.fn 112 [AV.ptr 2 0,AV.ptr 5 0]),p 7 (AV.os 27 1),p 8 (J v6.2.1)] [(27,A 2 i64 (v3++[v5.1]) 1),(26,A 2 i64 [v5.1] 0),(5,Ob.box 33 [AV.os 13 0]),(13,A 2 i64 v0 0),(2,Ob.box 72 [D y92.pt a0])]) H fun v6 H =>
  qA (Z [p 1 (J a1),p 2 (R 2),p 6 (AV.fn 112 [AV.ptr 2 0,AV.ptr 5 0]),p 7 (AV.os 27 1),p 8 (J v6.2.1),p 41 (B (v6.2.1==a1))] [(27,A 2 i64 (v3++[v5.1]) 1),(26,A 2 i64 [v5.1] 0),(5,Ob.box 33 [AV.os 13 0]),(13,A 2 i64 v0 0),(2,Ob.box 72 [D y92.pt a0])]) <|
  cD H (fun H=>?_) (fun H=>?_)
 ·refine qA (Z [p 4 (AV.os 27 1)] [(27,A 2 i64 (v3++[v5.1]) 1),(26,A 2 i64 [v5.1] 0),(5,Ob.box 33 [AV.os 13 0]),(13,A 2 i64 v0 0),(2,Ob.box 72 [D y92.pt a0])]) <|
   vTT<|fDD<|t0<|fDD<|hr H
 exact vK<|fK<|b0 H
theorem o63L:Ok prog k63L:=ok_l o63
theorem o63R:Ok prog k63R:=ok_r o63
def u25 (a0:Y46) (a1:List Int) (a2:Int):Option (List Int×Int) :=
 if (isL (u42 a0 a1 a2))=true then
  gd (isL (u42 a0 a1 a2)=true/\True) <|
  if (vL (u42 a0 a1 a2) != 0)=true then
   some (([],vL (u42 a0 a1 a2)))
  else
   none
 else
  gd (isR (u42 a0 a1 a2)=true/\True)<|lt (vR (u42 a0 a1 a2)) fun v0 =>
  if (v0.2 != 0)=true then
   some ([],v0.2)
  else
   if (isL (u63 v0.1 a2))=true then
    gd (isL (u63 v0.1 a2)=true/\True) <|
    some (([],(5:Int)))
   else
    gd (isR (u63 v0.1 a2)=true/\True) <|
    gd (0 < (vR (u63 v0.1 a2)).length/\True) <|
    some ((vR (u63 v0.1 a2),(0:Int)))
def k25:Ct:=lct 25 [.agg y46,.dat i64.sl,.dat i64] (fun x=>u25 x.1 x.2.1 x.2.2.1) (fun r:List Int×Int=>AV.tup [M i64 r.1,I r.2]) (fun _=>())
theorem o25:Ok prog k25:=by
 refine okL [.tmp 6,.tmp 7] func25 ntmps25 results25 ?_
 intro y ⟨a0,a1,a2,_⟩ r H Q hn hr
 have:HT _ _:=⟨@tn prog⟩
 refine qA (Z [p 1 (L i64 a1),p 2 (J a2),p 3 (R 3)] [(3,K 46 y46 a0)]) <|
  sp H (fun H=>?_) (fun H=>?_)
 ·have:HT _ _:=⟨tc o42L (HT.h)⟩
  refine qB (Z [p 2 (J a2),p 8 (AV.v (Value.pointer none)),p 9 (I (vL (u42 a0 a1 a2)))] [(3,K 46 y46 a0)]) H fun H =>
   vQ <|
   qA (Z [p 2 (J a2),p 8 (AV.v (Value.pointer none)),p 9 (I (vL (u42 a0 a1 a2))),p 19 (B (vL (u42 a0 a1 a2) != 0))] [(3,K 46 y46 a0)]) <|
   cD H (fun H=>?_) (fun H=>?_)
  ·refine qA (Z [p 6 (nil),p 7 (I (vL (u42 a0 a1 a2)))] [(3,K 46 y46 a0)]) <|
    vTT<|fR<|hr H
  exact vK<|fQ<|dead H
 have:HT _ _:=⟨tc o42R (HT.h)⟩
 refine qD (fun v0=>Z [p 2 (J a2),p 8 (R 1015),p 9 (I v0.2)] [(1015,Ob.box 92 [D y113.pt v0.1.1,AV.os 15 0]),(15,A 4 Ty.bool v0.1.2 0),(3,K 46 y46 a0)]) H fun v0 H =>
  vQ <|
  qA (Z [p 2 (J a2),p 8 (R 1015),p 9 (I v0.2),p 19 (B (v0.2 != 0))] [(1015,Ob.box 92 [D y113.pt v0.1.1,AV.os 15 0]),(15,A 4 Ty.bool v0.1.2 0),(3,K 46 y46 a0)]) <|
  cD H (fun H=>?_) (fun H=>?_)
 ·refine qA (Z [p 6 (nil),p 7 (I v0.2)] [(1015,Ob.box 92 [D y113.pt v0.1.1,AV.os 15 0]),(15,A 4 Ty.bool v0.1.2 0),(3,K 46 y46 a0)]) <|
   vTT<|fR<|hr H
 refine vK<|fQ <|
  sp H (fun H=>?_) (fun H=>?_)
 ·have:HT _ _:=⟨tc o63L (HT.h)⟩
  refine qB (Z [p 10 (nil)] [(1015,Ob.box 92 [D y113.pt v0.1.1,AV.os 15 0]),(15,A 4 Ty.bool v0.1.2 0),(3,K 46 y46 a0)]) H fun H =>
   vQ<|vQ<|vx_nilV (T:=33) (tok 33 i33 rfl).2.2.2.2.2 rfl rfl rfl rfl<|fQ<|ct (by kernel_rfl) <|
   qA (Z [p 6 (nil),p 7 (I 5)] [(1015,Ob.box 92 [D y113.pt v0.1.1,AV.os 15 0]),(15,A 4 Ty.bool v0.1.2 0),(3,K 46 y46 a0)]) <|
   vTT<|fR<|hr H
 have:HT _ _:=⟨tc o63R (HT.h)⟩
 refine qB (Z [p 10 (O 23)] [(23,A 2 i64 (vR (u63 v0.1 a2)) 0),(1015,Ob.box 92 [D y113.pt v0.1.1,AV.os 15 0]),(15,A 4 Ty.bool v0.1.2 0),(3,K 46 y46 a0)]) H fun H =>
  vQ <|
  fZ 23 (Z [p 10 (M i64 (vR (u63 v0.1 a2)))] [(1015,Ob.box 92 [D y113.pt v0.1.1,AV.os 15 0]),(15,A 4 Ty.bool v0.1.2 0),(3,K 46 y46 a0)]) <|
  vQ<|nlG (T:=33) (tok 33 i33 rfl).2.2.2.2.2 rfl rfl rfl rfl H fun H=>fQ <|
  cf (by kernel_rfl)<|vK<|fQ <|
  qA (Z [p 6 (M i64 (vR (u63 v0.1 a2))),p 7 (I 0)] [(1015,Ob.box 92 [D y113.pt v0.1.1,AV.os 15 0]),(15,A 4 Ty.bool v0.1.2 0),(3,K 46 y46 a0)]) <|
  vTT<|hr H
end Go.Proofs.YthobjlocnkienaaGreatDoor
end
