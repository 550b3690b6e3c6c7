/- Functions of this program as plain functions of data, and that they are so: printed by program. -/
import Derived.Test.YthobjlocnkienaaGreatDoorFn25b
section
namespace Go.Proofs.YthobjlocnkienaaGreatDoor
open Go Go.Proofs Go.Proofs.Sv Go.Proofs.Xv Go.Proofs.Xl Go.RowKit
open Tryz
def u159J0(a0:List Y148):List ByteArray->Option (Bool)
 | v4 =>
 gd ((decide ((a0.length:Int)<=8)=true/\True->(u186 v4).isSome=true)/\True) <|
 some (decide ((a0.length:Int)<=8)&&vl (u186 v4))
def u159L1(a0:List Y148)(g1:List ByteArray×Int->Option (Bool)):List ByteArray×Int->Option (Bool)
 | (v1,v2) =>
 if(decide (v2 < (a0.length:Int)))=true then
  gd (ix v2 a0.length/\True)<|lt (a0.getD v2.toNat (dflt y148)) fun v3 =>
  gd ((u185 v3).isSome=true/\True) <|
  if(!vl (u185 v3))=true then
   some false
  else
   gd ((v1.length+[v3.1].length<=9223372036854775807/\(v1.length+[v3.1].length)*16<=140737488355328)/\True) <|
   gd (in64 (v2+1)/\True) <|
   g1 (v1++[v3.1],v2+1)
 else
  u159J0 a0 v1
def u159(a0:List Y148):Option (Bool) :=
 lp (u159L1 a0) ([],0)
def k159:Ct:=lct 159 [.agg y148.sl] (fun x=>u159 x.1) (fun r:Bool=>B r) (fun _=>())
theorem o159:Ok prog k159:=by
 refine okL [.tmp 2] func159 ntmps159 results159 ?_;intro y ⟨a0,_⟩ r H Q hn hr;have:HT _ _:=⟨tc o186 (tc o185 tn)⟩;refine qA (Z [p 1 (R 1)] [(1,Ob.box 39 [L y148 a0])])<|qA (Z [p 1 (R 1),p 3 (nil)] [(1,Ob.box 39 [L y148 a0])])<|jN r (fun(v4:List ByteArray)=>Z [p 1 (R 1),p 3 (O 20)] [(1,Ob.box 39 [L y148 a0]),(20,A 9 Ty.str v4 0)]) (u159J0 a0) (fun v4 H=>?_) (fun _ n0 e0 t0=>?_)
 ·refine qB (Z [p 2 (B (decide ((a0.length:Int)<=8)&&vl (u186 v4)))] [(1,Ob.box 39 [L y148 a0]),(20,A 9 Ty.str v4 0)]) H fun H=>vTT<|hr H
 refine qA (Z [p 1 (R 1),p 3 (nil),p 7 (L y148 a0),p 8 (I (a0.length:Int)),p 9 (I 0)] [(1,Ob.box 39 [L y148 a0])])<|vB<|lX (fun((v1,v2):List ByteArray×Int)=>Z [p 1 (R 1),p 3 (O 20),p 7 (L y148 a0),p 8 (I (a0.length:Int)),p 9 (I v2)] [(1,Ob.box 39 [L y148 a0]),(20,A 9 Ty.str v1 0)]) ([],0) H fun _ g1 b1 e1 t1 ⟨v1,v2⟩ H=>qA (Z [p 1 (R 1),p 3 (O 20),p 7 (L y148 a0),p 8 (I (a0.length:Int)),p 9 (I v2),p 10 (B (decide (v2 < (a0.length:Int))))] [(1,Ob.box 39 [L y148 a0]),(20,A 9 Ty.str v1 0)])<|vQ<|cD H (fun H=>?_) (fun H=>?_)
 ·refine vK<|fQ<|vQ<|vB<|qD (fun v3=>Z [p 1 (R 1),p 3 (O 20),p 5 (R 5),p 7 (L y148 a0),p 8 (I (a0.length:Int)),p 9 (I v2)] [(5,K 148 y148 v3),(1,Ob.box 39 [L y148 a0]),(20,A 9 Ty.str v1 0)]) H fun v3 H=>vQ<|qB (Z [p 1 (R 1),p 3 (O 20),p 5 (R 5),p 7 (L y148 a0),p 8 (I (a0.length:Int)),p 9 (I v2),p 15 (B !vl (u185 v3))] [(5,K 148 y148 v3),(1,Ob.box 39 [L y148 a0]),(20,A 9 Ty.str v1 0)]) H fun H=>cD H (fun H=>?_) (fun H=>?_)
  ·refine qA (Z [p 2 (B false)] [(5,K 148 y148 v3),(1,Ob.box 39 [L y148 a0]),(20,A 9 Ty.str v1 0)])<|vTT<|fR<|fDD<|fR<|t1<|fDD<|t0<|hr H
  refine vK<|fQ<|zB (Z [p 1 (R 1),p 3 (AV.os 20 1),p 7 (L y148 a0),p 8 (I (a0.length:Int)),p 9 (I v2)] [(20,A 9 Ty.str (v1++[v3.1]) 1),(19,A 9 Ty.str [v3.1] 0),(5,K 148 y148 v3),(1,Ob.box 39 [L y148 a0])]) H fun H=>fK<|fQ<|zB (Z [p 1 (R 1),p 3 (AV.os 20 1),p 7 (L y148 a0),p 8 (I (a0.length:Int)),p 9 (I (v2+1))] [(20,A 9 Ty.str (v1++[v3.1]) 1),(19,A 9 Ty.str [v3.1] 0),(5,K 148 y148 v3),(1,Ob.box 39 [L y148 a0])]) H fun H=>b1 H
 exact vE<|fE<|e1<|fX rfl<|n0 H
def u190c164J0:Unit->Option (Int)
 | _ =>
 some (-1)
def u190c164L1(a0:List Int)(g1:Int->Option (Int)):Int->Option (Int)
 | v0 =>
 if(decide (v0 < (a0.length:Int)))=true then
  gd (ix v0 a0.length/\(u164 (a0.getD v0.toNat 0)).isSome=true/\True) <|
  if(vl (u164 (a0.getD v0.toNat 0)))=true then
   some v0
  else
   gd (in64 (v0+1)/\True) <|
   g1 (v0+1)
 else
  u190c164J0 ()
def u190c164(a0:List Int):Option (Int) :=
 lp (u190c164L1 a0) 0
def k190c164:Ct:=lct 190 [.dat i64.sl,.nof 164] (fun x=>u190c164 x.1) (fun r:Int=>I r) (fun _=>())
theorem o190c164:Ok prog k190c164:=by
 refine okL [.tmp 4] func190 ntmps190 results190 ?_;intro y ⟨a0,_,_⟩ r H Q hn hr;have:HT _ _:=⟨tc o164 tn⟩;refine qA (Z [p 0 (L i64 a0),p 1 (AV.fn 164 [])] [])<|jN r (fun(_:Unit)=>Z [] []) (u190c164J0) (fun _ H=>?_) (fun _ n0 e0 t0=>?_)
 ·refine qA (Z [p 4 (I (-1))] [])<|vTT<|hr H
 refine qA (Z [p 0 (L i64 a0),p 1 (AV.fn 164 []),p 7 (I (a0.length:Int)),p 8 (I 0)] [])<|vB<|lX (fun(v0:Int)=>Z [p 0 (L i64 a0),p 1 (AV.fn 164 []),p 7 (I (a0.length:Int)),p 8 (I v0)] []) 0 H fun _ g1 b1 e1 t1 v0 H=>qA (Z [p 0 (L i64 a0),p 1 (AV.fn 164 []),p 7 (I (a0.length:Int)),p 8 (I v0),p 9 (B (decide (v0 < (a0.length:Int))))] [])<|vQ<|cD H (fun H=>?_) (fun H=>?_)
 ·refine vK<|fQ<|vQ<|vB<|qA (Z [p 0 (L i64 a0),p 1 (AV.fn 164 []),p 5 (I v0),p 7 (I (a0.length:Int)),p 8 (I v0)] [])<|qB (Z [p 0 (L i64 a0),p 1 (AV.fn 164 []),p 5 (I v0),p 7 (I (a0.length:Int)),p 8 (I v0),p 16 (B (vl (u164 (a0.getD v0.toNat 0))))] []) H fun H=>cD H (fun H=>?_) (fun H=>?_)
  ·refine qA (Z [p 4 (I v0)] [])<|vTT<|fDD<|fR<|t1<|fDD<|t0<|hr H
  refine vK<|fK<|fQ<|zB (Z [p 0 (L i64 a0),p 1 (AV.fn 164 []),p 7 (I (a0.length:Int)),p 8 (I (v0+1))] []) H fun H=>b1 H
 exact vE<|fE<|e1<|fX rfl<|n0 H
def u163c164(a0:List Int):Option (Bool) :=
 gd ((u190c164 a0).isSome=true/\True)<|lt (vl (u190c164 a0)) fun v0 =>
 some (decide (0<=v0))
def k163c164:Ct:=lct 163 [.dat i64.sl,.nof 164] (fun x=>u163c164 x.1) (fun r:Bool=>B r) (fun _=>())
theorem o163c164:Ok prog k163c164:=by
 refine okL [.tmp 4] func163 ntmps163 results163 ?_;intro y ⟨a0,_,_⟩ r H Q hn hr;have:HT _ _:=⟨tc o190c164 (tc o164 tn)⟩;refine qA (Z [p 0 (L i64 a0),p 1 (AV.fn 164 [])] [])<|qD (fun v0=>Z [p 4 (B (decide (0<=v0)))] []) H fun v0 H=>vTT<|hr H
def u119J2:List Int->Option (Bool)
 | v13 =>
 gd ((u163c164 v13).isSome=true/\True) <|
 some (!vl (u163c164 v13))
def u119J4(v9:Int)(g3:Int×List Int->Option (Bool)):List Int->Option (Bool)
 | v12 =>
 gd (in64 (v9+1)/\True) <|
 g3 (v9+1,v12)
def u119L3(a1:Y43)(g3:Int×List Int->Option (Bool)):Int×List Int->Option (Bool)
 | (v9,v10) =>
 if(decide (v9 < (a1.2.2.length:Int)))=true then
  gd (ix v9 a1.2.2.length/\True)<|lt (a1.2.2.getD v9.toNat (dflt y190)) fun v11 =>
  gd (((v11.2.1 != 1&&v11.2.1 != 2)=false/\True->(u162 a1 v11.2.2).isSome=true)/\True) <|
  if(v11.2.1 != 1&&v11.2.1 != 2||!vl (u162 a1 v11.2.2))=true then
   some false
  else
   if(v11.2.1==1)=true then
    gd (ix v11.2.2 v10.length/\v11.2.2.toNat<v10.length/\in64 (v10.getD v11.2.2.toNat 0+1)/\ix v11.2.2 v10.length/\v11.2.2.toNat<v10.length/\True) <|
    u119J4 v9 g3 (v10.set v11.2.2.toNat (v10.getD v11.2.2.toNat 0+1))
   else
    u119J4 v9 g3 v10
 else
  u119J2 v10
def u119J0(a1:Y43):List Int->Option (Bool)
 | v6 =>
 lp (u119L3 a1) (0,v6)
def u119L1(a1:Y43)(a0:List Y148)(g1:Int×List Int->Option (Bool)):Int×List Int->Option (Bool)
 | (v2,v3) =>
 if(decide (v2 < (a1.1.length:Int)))=true then
  gd (ix v2 a1.1.length/\True)<|lt (a1.1.getD v2.toNat (dflt y150)) fun v4 =>
  gd ((u161 a1 a0 v4).isSome=true/\True) <|
  if(!vl (u161 a1 a0 v4))=true then
   some false
  else
   gd (in64 ((v4.2.2.length:Int)-1)/\ix ((v4.2.2.length:Int)-1) v4.2.2.length/\ix (v4.2.2.getD ((v4.2.2.length:Int)-1).toNat 0) v3.length/\Int.toNat (v4.2.2.getD ((v4.2.2.length:Int)-1).toNat 0)<v3.length/\in64 (v3.getD (Int.toNat (v4.2.2.getD ((v4.2.2.length:Int)-1).toNat 0)) 0+1)/\ix (v4.2.2.getD ((v4.2.2.length:Int)-1).toNat 0) v3.length/\Int.toNat (v4.2.2.getD ((v4.2.2.length:Int)-1).toNat 0)<v3.length/\True)<|lt (v3.set (Int.toNat (v4.2.2.getD ((v4.2.2.length:Int)-1).toNat 0)) (v3.getD (Int.toNat (v4.2.2.getD ((v4.2.2.length:Int)-1).toNat 0)) 0+1)) fun v5 =>
   gd (in64 (v2+1)/\True) <|
   g1 (v2+1,v5)
 else
  u119J0 a1 v3
def u119(a0:List Y148)(a1:Y43):Option (Bool) :=
 gd ((u159 a0).isSome=true/\((!vl (u159 a0))=false/\True->(u160 a1).isSome=true)/\True) <|
 if(!vl (u159 a0)||!vl (u160 a1))=true then
  some false
 else
  gd ((0<=(a1.2.1.length:Int)/\(a1.2.1.length:Int)=(a1.2.1.length:Int)/\(a1.2.1.length:Int).toNat*8<=281474976710656/\(a1.2.1.length:Int)<=9223372036854775807)/\True) <|
  lp (u119L1 a1 a0) ((0,List.replicate (a1.2.1.length:Int).toNat 0))
def k119:Ct:=lct 119 [.agg y148.sl,.agg y43] (fun x=>u119 x.1 x.2.1) (fun r:Bool=>B r) (fun _=>())
theorem o119:Ok prog k119:=by
 refine okL [.tmp 4] func119 ntmps119 results119 ?_;intro y ⟨a0,a1,_⟩ r H Q hn hr;have:HT _ _:=⟨tc o164 (tc o163c164 (tc o162 (tc o161 (tc o160 (tc o159 tn)))))⟩;refine qA (Z [p 2 (R 2),p 3 (R 3)] [(3,K 43 y43 a1),(2,Ob.box 39 [L y148 a0])])<|vQ<|qB (Z [p 2 (R 2),p 3 (R 3),p 17 (B (!vl (u159 a0)||!vl (u160 a1)))] [(3,K 43 y43 a1),(2,Ob.box 39 [L y148 a0])]) H fun H=>cD H (fun H=>?_) (fun H=>?_)
 ·refine qA (Z [p 4 (B false)] [(3,K 43 y43 a1),(2,Ob.box 39 [L y148 a0])])<|vTT<|fR<|hr H
 refine vK<|fQ<|qB (Z [p 2 (R 2),p 3 (R 3),p 5 (O 21)] [(21,A 3 i64 (List.replicate (a1.2.1.length:Int).toNat 0) 0),(3,K 43 y43 a1),(2,Ob.box 39 [L y148 a0])]) H fun H=>jN r (fun(v6:List Int)=>Z [p 3 (R 3),p 5 (O 21)] [(21,A 3 i64 v6 0),(3,K 43 y43 a1)]) (u119J0 a1) (fun v6 H=>?_) (fun _ n0 e0 t0=>?_)
 ·refine jN r (fun(v13:List Int)=>Z [p 5 (O 21)] [(21,A 3 i64 v13 0)]) (u119J2) (fun v13 H=>?_) (fun _ n2 e2 t2=>?_)
  ·refine qB (Z [p 4 (B !vl (u163c164 v13))] [(21,A 3 i64 v13 0)]) H fun H=>vTT<|hr H
  refine qA (Z [p 3 (R 3),p 5 (O 21),p 49 (L y190 a1.2.2),p 50 (I (a1.2.2.length:Int)),p 51 (I 0)] [(21,A 3 i64 v6 0),(3,K 43 y43 a1)])<|vB<|lX (fun((v9,v10):Int×List Int)=>Z [p 3 (R 3),p 5 (O 21),p 49 (L y190 a1.2.2),p 50 (I (a1.2.2.length:Int)),p 51 (I v9)] [(21,A 3 i64 v10 0),(3,K 43 y43 a1)]) (0,v6) H fun _ g3 b3 e3 t3 ⟨v9,v10⟩ H=>qA (Z [p 3 (R 3),p 5 (O 21),p 49 (L y190 a1.2.2),p 50 (I (a1.2.2.length:Int)),p 51 (I v9),p 52 (B (decide (v9 < (a1.2.2.length:Int))))] [(21,A 3 i64 v10 0),(3,K 43 y43 a1)])<|vQ<|cD H (fun H=>?_) (fun H=>?_)
  ·refine vK<|fQ<|jN r (fun(v12:List Int)=>Z [p 3 (R 3),p 5 (O 21),p 49 (L y190 a1.2.2),p 50 (I (a1.2.2.length:Int)),p 51 (I v9)] [(21,A 3 i64 v12 0),(3,K 43 y43 a1)]) (u119J4 v9 g3) (fun v12 H=>?_) (fun _ n4 e4 t4=>?_)
   ·refine zB (Z [p 3 (R 3),p 5 (O 21),p 49 (L y190 a1.2.2),p 50 (I (a1.2.2.length:Int)),p 51 (I (v9+1))] [(21,A 3 i64 v12 0),(3,K 43 y43 a1)]) H fun H=>b3 H
   refine vB<|qD (fun v11=>Z [p 3 (R 3),p 5 (O 21),p 9 (R 9),p 49 (L y190 a1.2.2),p 50 (I (a1.2.2.length:Int)),p 51 (I v9)] [(9,K 190 y190 v11),(21,A 3 i64 v10 0),(3,K 43 y43 a1)]) H fun v11 H=>vQ<|qB (Z [p 3 (R 3),p 5 (O 21),p 9 (R 9),p 49 (L y190 a1.2.2),p 50 (I (a1.2.2.length:Int)),p 51 (I v9),p 69 (B (v11.2.1 != 1&&v11.2.1 != 2||!vl (u162 a1 v11.2.2)))] [(9,K 190 y190 v11),(21,A 3 i64 v10 0),(3,K 43 y43 a1)]) H fun H=>cD H (fun H=>?_) (fun H=>?_)
   ·refine qA (Z [p 4 (B false)] [(9,K 190 y190 v11),(21,A 3 i64 v10 0),(3,K 43 y43 a1)])<|vTT<|fR<|fDD<|t4<|t3<|fDD<|t2<|hr H
   refine vK<|fQ<|qA (Z [p 3 (R 3),p 5 (O 21),p 9 (R 9),p 49 (L y190 a1.2.2),p 50 (I (a1.2.2.length:Int)),p 51 (I v9),p 72 (B (v11.2.1==1))] [(9,K 190 y190 v11),(21,A 3 i64 v10 0),(3,K 43 y43 a1)])<|cD H (fun H=>?_) (fun H=>?_)
   ·refine zB (Z [p 3 (R 3),p 5 (O 21),p 49 (L y190 a1.2.2),p 50 (I (a1.2.2.length:Int)),p 51 (I v9)] [(21,A 3 i64 (v10.set v11.2.2.toNat (v10.getD v11.2.2.toNat 0+1)) 0),(9,K 190 y190 v11),(3,K 43 y43 a1)]) H fun H=>fK<|n4 H
   exact vK<|fK<|n4 H
  exact vE<|fE<|e3<|fX rfl<|n2 H
 refine qA (Z [p 2 (R 2),p 3 (R 3),p 5 (O 21),p 23 (L y150 a1.1),p 24 (I (a1.1.length:Int)),p 25 (I 0)] [(21,A 3 i64 (List.replicate (a1.2.1.length:Int).toNat 0) 0),(3,K 43 y43 a1),(2,Ob.box 39 [L y148 a0])])<|vB<|lX (fun((v2,v3):Int×List Int)=>Z [p 2 (R 2),p 3 (R 3),p 5 (O 21),p 23 (L y150 a1.1),p 24 (I (a1.1.length:Int)),p 25 (I v2)] [(21,A 3 i64 v3 0),(3,K 43 y43 a1),(2,Ob.box 39 [L y148 a0])]) ((0,List.replicate (a1.2.1.length:Int).toNat 0)) H fun _ g1 b1 e1 t1 ⟨v2,v3⟩ H=>qA (Z [p 2 (R 2),p 3 (R 3),p 5 (O 21),p 23 (L y150 a1.1),p 24 (I (a1.1.length:Int)),p 25 (I v2),p 26 (B (decide (v2 < (a1.1.length:Int))))] [(21,A 3 i64 v3 0),(3,K 43 y43 a1),(2,Ob.box 39 [L y148 a0])])<|vQ<|cD H (fun H=>?_) (fun H=>?_)
 ·refine vK<|fQ<|vQ<|vB<|qD (fun v4=>Z [p 2 (R 2),p 3 (R 3),p 5 (O 21),p 7 (R 7),p 23 (L y150 a1.1),p 24 (I (a1.1.length:Int)),p 25 (I v2)] [(7,K 150 y150 v4),(21,A 3 i64 v3 0),(3,K 43 y43 a1),(2,Ob.box 39 [L y148 a0])]) H fun v4 H=>vQ<|qB (Z [p 2 (R 2),p 3 (R 3),p 5 (O 21),p 7 (R 7),p 23 (L y150 a1.1),p 24 (I (a1.1.length:Int)),p 25 (I v2),p 33 (B !vl (u161 a1 a0 v4))] [(7,K 150 y150 v4),(21,A 3 i64 v3 0),(3,K 43 y43 a1),(2,Ob.box 39 [L y148 a0])]) H fun H=>cD H (fun H=>?_) (fun H=>?_)
  ·refine qA (Z [p 4 (B false)] [(7,K 150 y150 v4),(21,A 3 i64 v3 0),(3,K 43 y43 a1),(2,Ob.box 39 [L y148 a0])])<|vTT<|fR<|fDD<|fR<|t1<|fDD<|t0<|hr H
  refine vK<|fQ<|zD (fun v5=>Z [p 2 (R 2),p 3 (R 3),p 5 (O 21),p 23 (L y150 a1.1),p 24 (I (a1.1.length:Int)),p 25 (I v2)] [(21,A 3 i64 v5 0),(7,K 150 y150 v4),(3,K 43 y43 a1),(2,Ob.box 39 [L y148 a0])]) H fun v5 H=>fK<|fQ<|zB (Z [p 2 (R 2),p 3 (R 3),p 5 (O 21),p 23 (L y150 a1.1),p 24 (I (a1.1.length:Int)),p 25 (I (v2+1))] [(21,A 3 i64 v5 0),(7,K 150 y150 v4),(3,K 43 y43 a1),(2,Ob.box 39 [L y148 a0])]) H fun H=>b1 H
 exact vE<|fE<|e1<|fX rfl<|n0 H
def u69J3:Unit->Option (Bool)
 | _ =>
 some true
def u69L4(v9:List Int)(a0:Y46)(g4:Int->Option (Bool)):Int->Option (Bool)
 | v11 =>
 if(decide (v11 < (a0.2.2.length:Int)))=true then
  gd (ix v11 a0.2.2.length/\True)<|lt (a0.2.2.getD v11.toNat (dflt y126)) fun v12 =>
  gd (ix v11 v9.length/\v11.toNat<v9.length/\(u121 v12 (v9.getD v11.toNat 0)).isSome=true/\True) <|
  if(!vl (u121 v12 (v9.getD v11.toNat 0)))=true then
   some false
  else
   gd (in64 (v11+1)/\True) <|
   g4 (v11+1)
 else
  u69J3 ()
def u69J0(a0:Y46):List Int->Option (Bool)
 | v9 =>
 lp (u69L4 v9 a0) 0
def u69J2(v4:Int)(g1:Int×List Int->Option (Bool)):List Int->Option (Bool)
 | v8 =>
 gd (in64 (v4+1)/\True) <|
 g1 (v4+1,v8)
def u69L1(v0:List Y171)(a0:Y46)(g1:Int×List Int->Option (Bool)):Int×List Int->Option (Bool)
 | (v4,v5) =>
 if(decide (v4 < (v0.length:Int)))=true then
  gd (ix v4 v0.length/\v4.toNat<v0.length/\True)<|lt (v0.getD v4.toNat (dflt y171)) fun v6 =>
  if(!v6.2.2.2)=true then
   gd (ix v6.2.2.1 v5.length/\v6.2.2.1.toNat<v5.length/\in64 (v5.getD v6.2.2.1.toNat 0+1)/\ix v6.2.2.1 v5.length/\v6.2.2.1.toNat<v5.length/\True)<|lt (v5.set v6.2.2.1.toNat (v5.getD v6.2.2.1.toNat 0+1)) fun v7 =>
   u69J2 v4 g1 v7
  else
   u69J2 v4 g1 v5
 else
  u69J0 a0 v5
def u69(a0:Y46):Option (Bool) :=
 gd ((u119 a0.1 a0.2.1).isSome=true/\True) <|
 if(!vl (u119 a0.1 a0.2.1)||(a0.2.2.length:Int) != (a0.2.1.2.1.length:Int))=true then
  some false
 else
  gd ((0<=(a0.2.2.length:Int)/\(a0.2.2.length:Int)=(a0.2.2.length:Int)/\(a0.2.2.length:Int).toNat*8<=281474976710656/\(a0.2.2.length:Int)<=9223372036854775807)/\True) <|
  gd ((u120 a0.2.1).isSome=true/\True)<|lt (vl (u120 a0.2.1)) fun v0 =>
  lp (u69L1 v0 a0) ((0,List.replicate (a0.2.2.length:Int).toNat 0))
def k69:Ct:=lct 69 [.agg y46] (fun x=>u69 x.1) (fun r:Bool=>B r) (fun _=>())
theorem o69:Ok prog k69:=by
 refine okL [.tmp 2] func69 ntmps69 results69 ?_;intro y ⟨a0,_⟩ r H Q hn hr;have:HT _ _:=⟨tc o121 (tc o120 (tc o119 tn))⟩;refine qA (Z [p 1 (R 1)] [(1,K 46 y46 a0)])<|vQ<|qB (Z [p 1 (R 1),p 23 (B (!vl (u119 a0.1 a0.2.1)||(a0.2.2.length:Int) != (a0.2.1.2.1.length:Int)))] [(1,K 46 y46 a0)]) H fun H=>cD H (fun H=>?_) (fun H=>?_)
 ·refine qA (Z [p 2 (B false)] [(1,K 46 y46 a0)])<|vTT<|fR<|hr H
 refine vK<|fQ<|qB (Z [p 1 (R 1),p 3 (O 27)] [(27,A 2 i64 (List.replicate (a0.2.2.length:Int).toNat 0) 0),(1,K 46 y46 a0)]) H fun H=>jN r (fun(v9:List Int)=>Z [p 1 (R 1),p 3 (O 27)] [(27,A 2 i64 v9 0),(1,K 46 y46 a0)]) (u69J0 a0) (fun v9 H=>?_) (fun _ n0 e0 t0=>?_)
 ·refine jN r (fun(_:Unit)=>Z [] []) (u69J3) (fun _ H=>?_) (fun _ n3 e3 t3=>?_)
  ·refine qA (Z [p 2 (B true)] [])<|vTT<|hr H
  refine qA (Z [p 3 (O 27),p 48 (L y126 a0.2.2),p 49 (I (a0.2.2.length:Int)),p 50 (I 0)] [(27,A 2 i64 v9 0),(1,K 46 y46 a0)])<|vB<|lX (fun(v11:Int)=>Z [p 3 (O 27),p 48 (L y126 a0.2.2),p 49 (I (a0.2.2.length:Int)),p 50 (I v11)] [(27,A 2 i64 v9 0)]) 0 H fun _ g4 b4 e4 t4 v11 H=>qA (Z [p 3 (O 27),p 48 (L y126 a0.2.2),p 49 (I (a0.2.2.length:Int)),p 50 (I v11),p 51 (B (decide (v11 < (a0.2.2.length:Int))))] [(27,A 2 i64 v9 0)])<|vQ<|cD H (fun H=>?_) (fun H=>?_)
  ·refine vK<|fQ<|vQ<|vB<|qD (fun v12=>Z [p 3 (O 27),p 6 (I v11),p 7 (R 7),p 48 (L y126 a0.2.2),p 49 (I (a0.2.2.length:Int)),p 50 (I v11)] [(7,K 126 y126 v12),(27,A 2 i64 v9 0)]) H fun v12 H=>qB (Z [p 3 (O 27),p 48 (L y126 a0.2.2),p 49 (I (a0.2.2.length:Int)),p 50 (I v11),p 61 (B !vl (u121 v12 (v9.getD v11.toNat 0)))] [(7,K 126 y126 v12),(27,A 2 i64 v9 0)]) H fun H=>cD H (fun H=>?_) (fun H=>?_)
   ·refine qA (Z [p 2 (B false)] [(7,K 126 y126 v12),(27,A 2 i64 v9 0)])<|vTT<|fDD<|fR<|t4<|fDD<|t3<|hr H
   refine vK<|fK<|fQ<|zB (Z [p 3 (O 27),p 48 (L y126 a0.2.2),p 49 (I (a0.2.2.length:Int)),p 50 (I (v11+1))] [(7,K 126 y126 v12),(27,A 2 i64 v9 0)]) H fun H=>b4 H
  exact vE<|fE<|e4<|fX rfl<|n3 H
 refine qD (fun v0=>Z [p 1 (R 1),p 3 (O 27),p 30 (O 30),p 31 (I (v0.length:Int)),p 32 (I 0)] [(30,A 171 y171 v0 0),(27,A 2 i64 (List.replicate (a0.2.2.length:Int).toNat 0) 0),(1,K 46 y46 a0)]) H fun v0 H=>vB<|lX (fun((v4,v5):Int×List Int)=>Z [p 1 (R 1),p 3 (O 27),p 30 (O 30),p 31 (I (v0.length:Int)),p 32 (I v4)] [(30,A 171 y171 v0 0),(27,A 2 i64 v5 0),(1,K 46 y46 a0)]) ((0,List.replicate (a0.2.2.length:Int).toNat 0)) H fun _ g1 b1 e1 t1 ⟨v4,v5⟩ H=>qA (Z [p 1 (R 1),p 3 (O 27),p 30 (O 30),p 31 (I (v0.length:Int)),p 32 (I v4),p 33 (B (decide (v4 < (v0.length:Int))))] [(30,A 171 y171 v0 0),(27,A 2 i64 v5 0),(1,K 46 y46 a0)])<|vQ<|cD H (fun H=>?_) (fun H=>?_)
 ·refine vK<|fQ<|jN r (fun(v8:List Int)=>Z [p 1 (R 1),p 3 (O 27),p 30 (O 30),p 31 (I (v0.length:Int)),p 32 (I v4)] [(27,A 2 i64 v8 0),(30,A 171 y171 v0 0),(1,K 46 y46 a0)]) (u69J2 v4 g1) (fun v8 H=>?_) (fun _ n2 e2 t2=>?_)
  ·refine zB (Z [p 1 (R 1),p 3 (O 27),p 30 (O 30),p 31 (I (v0.length:Int)),p 32 (I (v4+1))] [(27,A 2 i64 v8 0),(30,A 171 y171 v0 0),(1,K 46 y46 a0)]) H fun H=>b1 H
  refine vB<|qD (fun v6=>Z [p 1 (R 1),p 3 (O 27),p 5 (R 5),p 30 (O 30),p 31 (I (v0.length:Int)),p 32 (I v4)] [(5,Ob.box 171 (cellsD true y171 v6)),(30,A 171 y171 v0 0),(27,A 2 i64 v5 0),(1,K 46 y46 a0)]) H fun v6 H=>qA (Z [p 1 (R 1),p 3 (O 27),p 5 (R 5),p 30 (O 30),p 31 (I (v0.length:Int)),p 32 (I v4),p 38 (B !v6.2.2.2)] [(5,Ob.box 171 (cellsD true y171 v6)),(30,A 171 y171 v0 0),(27,A 2 i64 v5 0),(1,K 46 y46 a0)])<|cD H (fun H=>?_) (fun H=>?_)
  ·refine zD (fun v7=>Z [p 1 (R 1),p 3 (O 27),p 30 (O 30),p 31 (I (v0.length:Int)),p 32 (I v4)] [(27,A 2 i64 v7 0),(5,Ob.box 171 (cellsD true y171 v6)),(30,A 171 y171 v0 0),(1,K 46 y46 a0)]) H fun v7 H=>fK<|n2 H
  exact vK<|fK<|n2 H
 exact vE<|fE<|e1<|fX rfl<|n0 H
def u56(a0:Y46)(a1:List Int):Option (Int ⊕ (Y113×List Bool)×Int) :=
 gd ((u69 a0).isSome=true/\True) <|
 if(!vl (u69 a0))=true then
  some (Sum.inl 1)
 else
  gd ((u70 a0).isSome=true/\True)<|lt (vl (u70 a0)) fun v0 =>
  gd ((u99 v0 a1).isSome=true/\True) <|
  if(!vl (u99 v0 a1))=true then
   some (Sum.inl 2)
  else
   gd ((u100 v0 a1).isSome=true/\True)<|lt (vl (u100 v0 a1)) fun v1 =>
   some (Sum.inr (v1,(0:Int)))
def u44c45J3:List Bool->Option (List Bool)
 | v21 =>
 some v21
def u44c45L4(v10:List (List Int))(g4:List Int×List Bool->Option (List Bool)):List Int×List Bool->Option (List Bool)
 | (v17,v18) =>
 if(decide (0 < (v17.length:Int)))=true then
  gd (ix (0:Int) v17.length/\Int.toNat (0:Int)<v17.length/\True) <|
  gd (((0:Int)<=(1:Int)/\(1:Int)<=(v17.length:Int)/\(v17.length:Int)<=(v17.length:Int))/\True) <|
  gd (ix (v17.getD (Int.toNat (0:Int)) (0:Int)) v18.length/\Int.toNat (v17.getD (Int.toNat (0:Int)) (0:Int))<v18.length/\True) <|
  if(!v18.getD (Int.toNat (v17.getD (Int.toNat (0:Int)) (0:Int))) false)=true then
   gd (ix (v17.getD (Int.toNat (0:Int)) (0:Int)) v18.length/\Int.toNat (v17.getD (Int.toNat (0:Int)) (0:Int))<v18.length/\True)<|lt (v18.set (Int.toNat (v17.getD (Int.toNat (0:Int)) (0:Int))) true) fun v19 =>
   gd (ix (v17.getD (Int.toNat (0:Int)) (0:Int)) v10.length/\((List.drop (Int.toNat (1:Int)) v17).length+List.length (v10.getD (Int.toNat (v17.getD (Int.toNat (0:Int)) (0:Int))) [])<=9223372036854775807/\((List.drop (Int.toNat (1:Int)) v17).length+List.length (v10.getD (Int.toNat (v17.getD (Int.toNat (0:Int)) (0:Int))) []))*8<=140737488355328)/\True)<|lt (List.drop (Int.toNat (1:Int)) v17++v10.getD (Int.toNat (v17.getD (Int.toNat (0:Int)) (0:Int))) []) fun v20 =>
   g4 (v20,v19)
  else
   g4 ((List.drop (Int.toNat (1:Int)) v17,v18))
 else
  u44c45J3 v18
def u44c45J0(a1:List Int)(a0:Y92):List (List Int)->Option (List Bool)
 | v10 =>
 gd ((u86 a0.1).isSome=true/\(0<=vl (u86 a0.1)/\vl (u86 a0.1)=vl (u86 a0.1)/\(vl (u86 a0.1)).toNat*1<=281474976710656/\vl (u86 a0.1)<=9223372036854775807)/\True)<|lt (vl (u86 a0.1)) fun v11 =>
 gd ((u87 a1).isSome=true/\True)<|lt (vl (u87 a1)) fun v12 =>
 lp (u44c45L4 v10) (v12,List.replicate v11.toNat false)
def u44c45J2(v5:Int)(g1:Int×List (List Int)->Option (List Bool)):List (List Int)->Option (List Bool)
 | v9 =>
 gd (in64 (v5+1)/\True) <|
 g1 (v5+1,v9)
def u44c45L1(a0:Y92)(a1:List Int)(g1:Int×List (List Int)->Option (List Bool)):Int×List (List Int)->Option (List Bool)
 | (v5,v6) =>
 if(decide (v5 < (a0.1.2.2.1.length:Int)))=true then
  gd (ix v5 a0.1.2.2.1.length/\True)<|lt (a0.1.2.2.1.getD v5.toNat (dflt y107)) fun v7 =>
  gd ((u45 v7).isSome=true/\True)<|lt (vl (u45 v7)) fun v8 =>
  gd (ix v5 a0.2.length/\True) <|
  if(a0.2.getD v5.toNat false)=true then
   gd (ix v8.1 v6.length/\v8.1.toNat<v6.length/\((v6.getD v8.1.toNat []).length+[v8.2].length<=9223372036854775807/\((v6.getD v8.1.toNat []).length+[v8.2].length)*8<=140737488355328)/\ix v8.1 v6.length/\(v8.1.toNat<v6.length/\v8.1.toNat=v8.1.toNat)/\True) <|
   u44c45J2 v5 g1 (v6.set v8.1.toNat (v6.getD v8.1.toNat []++[v8.2]))
  else
   u44c45J2 v5 g1 v6
 else
  u44c45J0 a1 a0 v6
def u44c45(a0:Y92)(a1:List Int):Option (List Bool) :=
 gd ((u86 a0.1).isSome=true/\(0<=vl (u86 a0.1)/\vl (u86 a0.1)=vl (u86 a0.1)/\(vl (u86 a0.1)).toNat*24<=281474976710656/\vl (u86 a0.1)<=9223372036854775807)/\True)<|lt (vl (u86 a0.1)) fun v0 =>
 lp (u44c45L1 a0 a1) (0,List.replicate v0.toNat [])
def k44c45:Ct:=lct 44 [.dat y92.pt,.dat i64.sl,.nof 45] (fun x=>u44c45 x.1 x.2.1) (fun r:List Bool=>AV.ow 4 true Ty.bool r) (fun _=>())
theorem o44c45:Ok prog k44c45:=by
 refine okL [.tmp 6] func44 ntmps44 results44 ?_;intro y ⟨a0,a1,_,_⟩ r H Q hn hr;have:HT _ _:=⟨tc o87 (tc o86 (tc o45 tn))⟩;refine qA (Z [p 0 (D y92.pt a0),p 1 (L i64 a1),p 2 (AV.fn 45 [])] [])<|qD (fun v0=>Z [p 0 (D y92.pt a0),p 1 (L i64 a1),p 2 (AV.fn 45 []),p 7 (AV.og 20)] [(20,Ob.grd 33 2 true i64 (List.replicate v0.toNat []) none)]) H fun v0 H=>jN r (fun(v10:List (List Int))=>Z [p 0 (D y92.pt a0),p 1 (L i64 a1),p 7 (AV.og 20)] [(20,Ob.grd 33 2 true i64 v10 none)]) (u44c45J0 a1 a0) (fun v10 H=>?_) (fun _ n0 e0 t0=>?_)
 ·refine qD (fun v11=>Z [p 1 (L i64 a1),p 7 (AV.og 20),p 12 (O 63)] [(63,A 4 Ty.bool (List.replicate v11.toNat false) 0),(20,Ob.grd 33 2 true i64 v10 none)]) H fun v11 H=>qD (fun v12=>Z [p 7 (AV.og 20),p 12 (O 63),p 13 (O 65)] [(65,A 2 i64 v12 0),(63,A 4 Ty.bool (List.replicate v11.toNat false) 0),(20,Ob.grd 33 2 true i64 v10 none)]) H fun v12 H=>jN r (fun(v21:List Bool)=>Z [p 12 (O 63)] [(63,A 4 Ty.bool v21 0)]) (u44c45J3) (fun v21 H=>?_) (fun _ n3 e3 t3=>?_)
  ·refine qA (Z [p 6 (O 63)] [(63,A 4 Ty.bool v21 0)])<|vTT<|hr H
  refine vB<|fZ 20 (Z [p 7 (M i64.sl v10),p 12 (O 63),p 13 (O 65)] [(65,A 2 i64 v12 0),(63,A 4 Ty.bool (List.replicate v11.toNat false) 0)])<|lX (fun((v17,v18):List Int×List Bool)=>Z [p 7 (M i64.sl v10),p 12 (O 63),p 13 (O 65)] [(65,A 2 i64 v17 0),(63,A 4 Ty.bool v18 0)]) (v12,List.replicate v11.toNat false) H fun _ g4 b4 e4 t4 ⟨v17,v18⟩ H=>vQ<|qA (Z [p 7 (M i64.sl v10),p 12 (O 63),p 13 (O 65),p 68 (B (decide (0 < (v17.length:Int))))] [(65,A 2 i64 v17 0),(63,A 4 Ty.bool v18 0)])<|cD H (fun H=>?_) (fun H=>?_)
  ·refine vK<|fQ<|vB<|qB (Z [p 7 (M i64.sl v10),p 12 (O 63),p 13 (O 65),p 14 (I (v17.getD (Int.toNat (0:Int)) (0:Int)))] [(65,A 2 i64 v17 0),(63,A 4 Ty.bool v18 0)]) H fun H=>qB (Z [p 7 (M i64.sl v10),p 12 (O 63),p 13 (AV.os 65 1),p 14 (I (v17.getD (Int.toNat (0:Int)) (0:Int)))] [(65,A 2 i64 (List.drop (Int.toNat (1:Int)) v17) 1),(63,A 4 Ty.bool v18 0)]) H fun H=>qB (Z [p 7 (M i64.sl v10),p 12 (O 63),p 13 (AV.os 65 1),p 14 (I (v17.getD (Int.toNat (0:Int)) (0:Int))),p 78 (B !v18.getD (Int.toNat (v17.getD (Int.toNat (0:Int)) (0:Int))) false)] [(65,A 2 i64 (List.drop (Int.toNat (1:Int)) v17) 1),(63,A 4 Ty.bool v18 0)]) H fun H=>cD H (fun H=>?_) (fun H=>?_)
   ·refine qD (fun v19=>Z [p 7 (M i64.sl v10),p 12 (O 63),p 13 (AV.os 65 1),p 14 (I (v17.getD (Int.toNat (0:Int)) (0:Int)))] [(63,A 4 Ty.bool v19 0),(65,A 2 i64 (List.drop (Int.toNat (1:Int)) v17) 1)]) H fun v19 H=>zD (fun v20=>Z [p 7 (M i64.sl v10),p 12 (O 63),p 13 (AV.os 65 2)] [(65,A 2 i64 v20 2),(63,A 4 Ty.bool v19 0)]) H fun v20 H=>fK<|b4 H
   exact vK<|fK<|b4 H
  exact vE<|fE<|e4<|fX rfl<|n3 H
 refine qA (Z [p 0 (D y92.pt a0),p 1 (L i64 a1),p 2 (AV.fn 45 []),p 7 (AV.og 20),p 27 (L y107 a0.1.2.2.1),p 28 (I (a0.1.2.2.1.length:Int)),p 29 (I 0)] [(20,Ob.grd 33 2 true i64 (List.replicate v0.toNat []) none)])<|vB<|lX (fun((v5,v6):Int×List (List Int))=>Z [p 0 (D y92.pt a0),p 1 (L i64 a1),p 2 (AV.fn 45 []),p 7 (AV.og 20),p 27 (L y107 a0.1.2.2.1),p 28 (I (a0.1.2.2.1.length:Int)),p 29 (I v5)] [(20,Ob.grd 33 2 true i64 v6 none)]) (0,List.replicate v0.toNat []) H fun _ g1 b1 e1 t1 ⟨v5,v6⟩ H=>qA (Z [p 0 (D y92.pt a0),p 1 (L i64 a1),p 2 (AV.fn 45 []),p 7 (AV.og 20),p 27 (L y107 a0.1.2.2.1),p 28 (I (a0.1.2.2.1.length:Int)),p 29 (I v5),p 30 (B (decide (v5 < (a0.1.2.2.1.length:Int))))] [(20,Ob.grd 33 2 true i64 v6 none)])<|vQ<|cD H (fun H=>?_) (fun H=>?_)
 ·refine vK<|fQ<|jN r (fun(v9:List (List Int))=>Z [p 0 (D y92.pt a0),p 1 (L i64 a1),p 2 (AV.fn 45 []),p 7 (AV.og 20),p 27 (L y107 a0.1.2.2.1),p 28 (I (a0.1.2.2.1.length:Int)),p 29 (I v5)] [(20,Ob.grd 33 2 true i64 v9 none)]) (u44c45J2 v5 g1) (fun v9 H=>?_) (fun _ n2 e2 t2=>?_)
  ·refine zB (Z [p 0 (D y92.pt a0),p 1 (L i64 a1),p 2 (AV.fn 45 []),p 7 (AV.og 20),p 27 (L y107 a0.1.2.2.1),p 28 (I (a0.1.2.2.1.length:Int)),p 29 (I (v5+1))] [(20,Ob.grd 33 2 true i64 v9 none)]) H fun H=>b1 H
  refine vB<|qD (fun v7=>Z [p 0 (D y92.pt a0),p 1 (L i64 a1),p 2 (AV.fn 45 []),p 7 (AV.og 20),p 8 (I v5),p 9 (R 9),p 27 (L y107 a0.1.2.2.1),p 28 (I (a0.1.2.2.1.length:Int)),p 29 (I v5)] [(9,K 107 y107 v7),(20,Ob.grd 33 2 true i64 v6 none)]) H fun v7 H=>qD (fun v8=>Z [p 0 (D y92.pt a0),p 1 (L i64 a1),p 2 (AV.fn 45 []),p 7 (AV.og 20),p 8 (I v5),p 10 (I v8.1),p 11 (I v8.2),p 27 (L y107 a0.1.2.2.1),p 28 (I (a0.1.2.2.1.length:Int)),p 29 (I v5)] [(9,K 107 y107 v7),(20,Ob.grd 33 2 true i64 v6 none)]) H fun v8 H=>qB (Z [p 0 (D y92.pt a0),p 1 (L i64 a1),p 2 (AV.fn 45 []),p 7 (AV.og 20),p 10 (I v8.1),p 11 (I v8.2),p 27 (L y107 a0.1.2.2.1),p 28 (I (a0.1.2.2.1.length:Int)),p 29 (I v5),p 46 (C (a0.2.getD v5.toNat false))] [(9,K 107 y107 v7),(20,Ob.grd 33 2 true i64 v6 none)]) H fun H=>cD H (fun H=>?_) (fun H=>?_)
  ·refine zB (Z [p 0 (D y92.pt a0),p 1 (L i64 a1),p 2 (AV.fn 45 []),p 7 (AV.og 20),p 27 (L y107 a0.1.2.2.1),p 28 (I (a0.1.2.2.1.length:Int)),p 29 (I v5)] [(20,Ob.grd 33 2 true i64 (v6.set v8.1.toNat (v6.getD v8.1.toNat []++[v8.2])) none),(52,A 2 i64 [] 2),(54,A 2 i64 [v8.2] 0),(9,K 107 y107 v7)]) H fun H=>fK<|n2 H
  exact vK<|fK<|n2 H
 exact vE<|fE<|e1<|fX rfl<|n0 H
def k44c45d:Ct:=lct 44 [.dat y92.pt,.dat i64.sl,.nof 45] (fun x=>u44c45 x.1 x.2.1) (fun r=>frz ((fun r:List Bool=>AV.ow 4 true Ty.bool r) r)) (fun _=>())
theorem o44c45d:Ok prog k44c45d:=ok_frz o44c45
def u15J0:Unit->Option (Bool)
 | _ =>
 some true
def u15L1(a0:List Int)(a1:List Int)(g1:Int->Option (Bool)):Int->Option (Bool)
 | v0 =>
 if(decide (v0 < (a0.length:Int)))=true then
  gd (ix v0 a0.length/\ix v0 a1.length/\True) <|
  if(a0.getD v0.toNat 0 != a1.getD v0.toNat 0)=true then
   some false
  else
   gd (in64 (v0+1)/\True) <|
   g1 (v0+1)
 else
  u15J0 ()
def u15(a0:List Int)(a1:List Int):Option (Bool) :=
 if((a0.length:Int) != (a1.length:Int))=true then
  some false
 else
  lp (u15L1 a0 a1) 0
def k15:Ct:=lct 15 [.dat i64.sl,.dat i64.sl] (fun x=>u15 x.1 x.2.1) (fun r:Bool=>B r) (fun _=>())
theorem o15:Ok prog k15:=by
 refine okL [.tmp 4] func15 ntmps15 results15 ?_;intro y ⟨a0,a1,_⟩ r H Q hn hr;have:HT _ _:=⟨@tn prog⟩;refine qA (Z [p 0 (L i64 a0),p 1 (L i64 a1)] [])<|vQ<|qA (Z [p 0 (L i64 a0),p 1 (L i64 a1),p 10 (B ((a0.length:Int) != (a1.length:Int)))] [])<|cD H (fun H=>?_) (fun H=>?_)
 ·refine qA (Z [p 4 (B false)] [])<|vTT<|fR<|hr H
 refine vK<|fQ<|jN r (fun(_:Unit)=>Z [] []) (u15J0) (fun _ H=>?_) (fun _ n0 e0 t0=>?_)
 ·refine qA (Z [p 4 (B true)] [])<|vTT<|hr H
 refine qA (Z [p 0 (L i64 a0),p 1 (L i64 a1),p 5 (I 0)] [])<|vB<|lX (fun(v0:Int)=>Z [p 0 (L i64 a0),p 1 (L i64 a1),p 5 (I v0)] []) 0 H fun _ g1 b1 e1 t1 v0 H=>vQ<|qA (Z [p 0 (L i64 a0),p 1 (L i64 a1),p 5 (I v0),p 14 (B (decide (v0 < (a0.length:Int))))] [])<|cD H (fun H=>?_) (fun H=>?_)
 ·refine vK<|fQ<|vQ<|vB<|qB (Z [p 0 (L i64 a0),p 1 (L i64 a1),p 5 (I v0),p 25 (B (a0.getD v0.toNat 0 != a1.getD v0.toNat 0))] []) H fun H=>cD H (fun H=>?_) (fun H=>?_)
  ·refine qA (Z [p 4 (B false)] [])<|vTT<|fDD<|fR<|t1<|fDD<|t0<|hr H
  refine vK<|fK<|fQ<|zB (Z [p 0 (L i64 a0),p 1 (L i64 a1),p 5 (I (v0+1))] []) H fun H=>b1 H
 exact vE<|fE<|e1<|fX rfl<|n0 H
def u92(a0:Y126)(a1:Y126):Option (Bool) :=
 gd ((u15 a0.1 a1.1).isSome=true/\True) <|
 if(!vl (u15 a0.1 a1.1))=true then
  some false
 else
  gd ((u15 a0.2.1 a1.2.1).isSome=true/\True) <|
  if(!vl (u15 a0.2.1 a1.2.1))=true then
   some false
  else
   gd ((u15 a0.2.2.1 a1.2.2.1).isSome=true/\True) <|
   if(!vl (u15 a0.2.2.1 a1.2.2.1))=true then
    some false
   else
    gd ((u15 a0.2.2.2 a1.2.2.2).isSome=true/\True) <|
    if(!vl (u15 a0.2.2.2 a1.2.2.2))=true then
     some false
    else
     some true
def k92:Ct:=lct 92 [.agg y126,.agg y126] (fun x=>u92 x.1 x.2.1) (fun r:Bool=>B r) (fun _=>())
theorem o92:Ok prog k92:=by
 refine okL [.tmp 4] func92 ntmps92 results92 ?_;intro y ⟨a0,a1,_⟩ r H Q hn hr;have:HT _ _:=⟨tc o15 tn⟩;refine qA (Z [p 2 (R 2),p 3 (R 3)] [(3,K 126 y126 a1),(2,K 126 y126 a0)])<|vQ<|qB (Z [p 2 (R 2),p 3 (R 3),p 10 (B !vl (u15 a0.1 a1.1))] [(3,K 126 y126 a1),(2,K 126 y126 a0)]) H fun H=>cD H (fun H=>?_) (fun H=>?_)
 ·refine qA (Z [p 4 (B false)] [(3,K 126 y126 a1),(2,K 126 y126 a0)])<|vTT<|fR<|hr H
 refine vK<|fQ<|vQ<|qB (Z [p 2 (R 2),p 3 (R 3),p 16 (B !vl (u15 a0.2.1 a1.2.1))] [(3,K 126 y126 a1),(2,K 126 y126 a0)]) H fun H=>cD H (fun H=>?_) (fun H=>?_)
 ·refine qA (Z [p 4 (B false)] [(3,K 126 y126 a1),(2,K 126 y126 a0)])<|vTT<|fR<|hr H
 refine vK<|fQ<|vQ<|qB (Z [p 2 (R 2),p 3 (R 3),p 22 (B !vl (u15 a0.2.2.1 a1.2.2.1))] [(3,K 126 y126 a1),(2,K 126 y126 a0)]) H fun H=>cD H (fun H=>?_) (fun H=>?_)
 ·refine qA (Z [p 4 (B false)] [(3,K 126 y126 a1),(2,K 126 y126 a0)])<|vTT<|fR<|hr H
 refine vK<|fQ<|vQ<|qB (Z [p 28 (B !vl (u15 a0.2.2.2 a1.2.2.2))] [(3,K 126 y126 a1),(2,K 126 y126 a0)]) H fun H=>cD H (fun H=>?_) (fun H=>?_)
 ·refine qA (Z [p 4 (B false)] [(3,K 126 y126 a1),(2,K 126 y126 a0)])<|vTT<|fR<|hr H
 refine vK<|fQ<|qA (Z [p 4 (B true)] [(3,K 126 y126 a1),(2,K 126 y126 a0)])<|vTT<|hr H
def u48J0:Unit->Option (Bool)
 | _ =>
 some true
def u48L1(a0:List Y126)(a1:List Y126)(g1:Int->Option (Bool)):Int->Option (Bool)
 | v0 =>
 if(decide (v0 < (a0.length:Int)))=true then
  gd (ix v0 a0.length/\ix v0 a1.length/\(u92 (a0.getD v0.toNat (dflt y126)) (a1.getD v0.toNat (dflt y126))).isSome=true/\True) <|
  if(!vl (u92 (a0.getD v0.toNat (dflt y126)) (a1.getD v0.toNat (dflt y126))))=true then
   some false
  else
   gd (in64 (v0+1)/\True) <|
   g1 (v0+1)
 else
  u48J0 ()
def u48(a0:List Y126)(a1:List Y126):Option (Bool) :=
 if((a0.length:Int) != (a1.length:Int))=true then
  some false
 else
  lp (u48L1 a0 a1) 0
def k48:Ct:=lct 48 [.dat y126.sl,.dat y126.sl] (fun x=>u48 x.1 x.2.1) (fun r:Bool=>B r) (fun _=>())
theorem o48:Ok prog k48:=by
 refine okL [.tmp 4] func48 ntmps48 results48 ?_;intro y ⟨a0,a1,_⟩ r H Q hn hr;have:HT _ _:=⟨tc o92 tn⟩;refine qA (Z [p 0 (L y126 a0),p 1 (L y126 a1)] [])<|vQ<|qA (Z [p 0 (L y126 a0),p 1 (L y126 a1),p 10 (B ((a0.length:Int) != (a1.length:Int)))] [])<|cD H (fun H=>?_) (fun H=>?_)
 ·refine qA (Z [p 4 (B false)] [])<|vTT<|fR<|hr H
 refine vK<|fQ<|jN r (fun(_:Unit)=>Z [] []) (u48J0) (fun _ H=>?_) (fun _ n0 e0 t0=>?_)
 ·refine qA (Z [p 4 (B true)] [])<|vTT<|hr H
 refine qA (Z [p 0 (L y126 a0),p 1 (L y126 a1),p 5 (I 0)] [])<|vB<|lX (fun(v0:Int)=>Z [p 0 (L y126 a0),p 1 (L y126 a1),p 5 (I v0)] []) 0 H fun _ g1 b1 e1 t1 v0 H=>vQ<|qA (Z [p 0 (L y126 a0),p 1 (L y126 a1),p 5 (I v0),p 14 (B (decide (v0 < (a0.length:Int))))] [])<|cD H (fun H=>?_) (fun H=>?_)
 ·refine vK<|fQ<|vQ<|vB<|qB (Z [p 0 (L y126 a0),p 1 (L y126 a1),p 5 (I v0),p 26 (B !vl (u92 (a0.getD v0.toNat (dflt y126)) (a1.getD v0.toNat (dflt y126))))] []) H fun H=>cD H (fun H=>?_) (fun H=>?_)
  ·refine qA (Z [p 4 (B false)] [])<|vTT<|fDD<|fR<|t1<|fDD<|t0<|hr H
  refine vK<|fK<|fQ<|zB (Z [p 0 (L y126 a0),p 1 (L y126 a1),p 5 (I (v0+1))] []) H fun H=>b1 H
 exact vE<|fE<|e1<|fX rfl<|n0 H
def u142(a0:Y190)(a1:Y190):Option (Bool) :=
 if(!decide (a0.1=a1.1))=true then
  some false
 else
  if(a0.2.1 != a1.2.1)=true then
   some false
  else
   if(a0.2.2 != a1.2.2)=true then
    some false
   else
    some true
def k142:Ct:=lct 142 [.agg y190,.agg y190] (fun x=>u142 x.1 x.2.1) (fun r:Bool=>B r) (fun _=>())
theorem o142:Ok prog k142:=by
 refine okL [.tmp 4] func142 ntmps142 results142 ?_;intro y ⟨a0,a1,_⟩ r H Q hn hr;have:HT _ _:=⟨@tn prog⟩;refine qA (Z [p 2 (R 2),p 3 (R 3)] [(3,K 190 y190 a1),(2,K 190 y190 a0)])<|vQ<|qA (Z [p 2 (R 2),p 3 (R 3),p 9 (B !decide (a0.1=a1.1))] [(3,K 190 y190 a1),(2,K 190 y190 a0)])<|cD H (fun H=>?_) (fun H=>?_)
 ·refine qA (Z [p 4 (B false)] [(3,K 190 y190 a1),(2,K 190 y190 a0)])<|vTT<|fR<|hr H
 refine vK<|fQ<|vQ<|qA (Z [p 2 (R 2),p 3 (R 3),p 14 (B (a0.2.1 != a1.2.1))] [(3,K 190 y190 a1),(2,K 190 y190 a0)])<|cD H (fun H=>?_) (fun H=>?_)
 ·refine qA (Z [p 4 (B false)] [(3,K 190 y190 a1),(2,K 190 y190 a0)])<|vTT<|fR<|hr H
 refine vK<|fQ<|vQ<|qA (Z [p 19 (B (a0.2.2 != a1.2.2))] [(3,K 190 y190 a1),(2,K 190 y190 a0)])<|cD H (fun H=>?_) (fun H=>?_)
 ·refine qA (Z [p 4 (B false)] [(3,K 190 y190 a1),(2,K 190 y190 a0)])<|vTT<|fR<|hr H
 refine vK<|fQ<|qA (Z [p 4 (B true)] [(3,K 190 y190 a1),(2,K 190 y190 a0)])<|vTT<|hr H
def u91J0:Unit->Option (Bool)
 | _ =>
 some true
def u91L1(a0:List Y190)(a1:List Y190)(g1:Int->Option (Bool)):Int->Option (Bool)
 | v0 =>
 if(decide (v0 < (a0.length:Int)))=true then
  gd (ix v0 a0.length/\ix v0 a1.length/\(u142 (a0.getD v0.toNat (dflt y190)) (a1.getD v0.toNat (dflt y190))).isSome=true/\True) <|
  if(!vl (u142 (a0.getD v0.toNat (dflt y190)) (a1.getD v0.toNat (dflt y190))))=true then
   some false
  else
   gd (in64 (v0+1)/\True) <|
   g1 (v0+1)
 else
  u91J0 ()
def u91(a0:List Y190)(a1:List Y190):Option (Bool) :=
 if((a0.length:Int) != (a1.length:Int))=true then
  some false
 else
  lp (u91L1 a0 a1) 0
def k91:Ct:=lct 91 [.dat y190.sl,.dat y190.sl] (fun x=>u91 x.1 x.2.1) (fun r:Bool=>B r) (fun _=>())
theorem o91:Ok prog k91:=by
 refine okL [.tmp 4] func91 ntmps91 results91 ?_;intro y ⟨a0,a1,_⟩ r H Q hn hr;have:HT _ _:=⟨tc o142 tn⟩;refine qA (Z [p 0 (L y190 a0),p 1 (L y190 a1)] [])<|vQ<|qA (Z [p 0 (L y190 a0),p 1 (L y190 a1),p 10 (B ((a0.length:Int) != (a1.length:Int)))] [])<|cD H (fun H=>?_) (fun H=>?_)
 ·refine qA (Z [p 4 (B false)] [])<|vTT<|fR<|hr H
 refine vK<|fQ<|jN r (fun(_:Unit)=>Z [] []) (u91J0) (fun _ H=>?_) (fun _ n0 e0 t0=>?_)
 ·refine qA (Z [p 4 (B true)] [])<|vTT<|hr H
 refine qA (Z [p 0 (L y190 a0),p 1 (L y190 a1),p 5 (I 0)] [])<|vB<|lX (fun(v0:Int)=>Z [p 0 (L y190 a0),p 1 (L y190 a1),p 5 (I v0)] []) 0 H fun _ g1 b1 e1 t1 v0 H=>vQ<|qA (Z [p 0 (L y190 a0),p 1 (L y190 a1),p 5 (I v0),p 14 (B (decide (v0 < (a0.length:Int))))] [])<|cD H (fun H=>?_) (fun H=>?_)
 ·refine vK<|fQ<|vQ<|vB<|qB (Z [p 0 (L y190 a0),p 1 (L y190 a1),p 5 (I v0),p 26 (B !vl (u142 (a0.getD v0.toNat (dflt y190)) (a1.getD v0.toNat (dflt y190))))] []) H fun H=>cD H (fun H=>?_) (fun H=>?_)
  ·refine qA (Z [p 4 (B false)] [])<|vTT<|fDD<|fR<|t1<|fDD<|t0<|hr H
  refine vK<|fK<|fQ<|zB (Z [p 0 (L y190 a0),p 1 (L y190 a1),p 5 (I (v0+1))] []) H fun H=>b1 H
 exact vE<|fE<|e1<|fX rfl<|n0 H
def u90J0:Unit->Option (Bool)
 | _ =>
 some true
def u90L1(a0:List ByteArray)(a1:List ByteArray)(g1:Int->Option (Bool)):Int->Option (Bool)
 | v0 =>
 if(decide (v0 < (a0.length:Int)))=true then
  gd (ix v0 a0.length/\ix v0 a1.length/\True) <|
  if(!decide (a0.getD v0.toNat (dflt Ty.str)=a1.getD v0.toNat (dflt Ty.str)))=true then
   some false
  else
   gd (in64 (v0+1)/\True) <|
   g1 (v0+1)
 else
  u90J0 ()
def u90(a0:List ByteArray)(a1:List ByteArray):Option (Bool) :=
 if((a0.length:Int) != (a1.length:Int))=true then
  some false
 else
  lp (u90L1 a0 a1) 0
def k90:Ct:=lct 90 [.dat Ty.str.sl,.dat Ty.str.sl] (fun x=>u90 x.1 x.2.1) (fun r:Bool=>B r) (fun _=>())
theorem o90:Ok prog k90:=by
 refine okL [.tmp 4] func90 ntmps90 results90 ?_;intro y ⟨a0,a1,_⟩ r H Q hn hr;have:HT _ _:=⟨@tn prog⟩;refine qA (Z [p 0 (L Ty.str a0),p 1 (L Ty.str a1)] [])<|vQ<|qA (Z [p 0 (L Ty.str a0),p 1 (L Ty.str a1),p 10 (B ((a0.length:Int) != (a1.length:Int)))] [])<|cD H (fun H=>?_) (fun H=>?_)
 ·refine qA (Z [p 4 (B false)] [])<|vTT<|fR<|hr H
 refine vK<|fQ<|jN r (fun(_:Unit)=>Z [] []) (u90J0) (fun _ H=>?_) (fun _ n0 e0 t0=>?_)
 ·refine qA (Z [p 4 (B true)] [])<|vTT<|hr H
 refine qA (Z [p 0 (L Ty.str a0),p 1 (L Ty.str a1),p 5 (I 0)] [])<|vB<|lX (fun(v0:Int)=>Z [p 0 (L Ty.str a0),p 1 (L Ty.str a1),p 5 (I v0)] []) 0 H fun _ g1 b1 e1 t1 v0 H=>vQ<|qA (Z [p 0 (L Ty.str a0),p 1 (L Ty.str a1),p 5 (I v0),p 14 (B (decide (v0 < (a0.length:Int))))] [])<|cD H (fun H=>?_) (fun H=>?_)
 ·refine vK<|fQ<|vQ<|vB<|qB (Z [p 0 (L Ty.str a0),p 1 (L Ty.str a1),p 5 (I v0),p 25 (B !decide (a0.getD v0.toNat (dflt Ty.str)=a1.getD v0.toNat (dflt Ty.str)))] []) H fun H=>cD H (fun H=>?_) (fun H=>?_)
  ·refine qA (Z [p 4 (B false)] [])<|vTT<|fDD<|fR<|t1<|fDD<|t0<|hr H
  refine vK<|fK<|fQ<|zB (Z [p 0 (L Ty.str a0),p 1 (L Ty.str a1),p 5 (I (v0+1))] []) H fun H=>b1 H
 exact vE<|fE<|e1<|fX rfl<|n0 H
def u141(a0:Y150)(a1:Y150):Option (Bool) :=
 if(!decide (a0.1=a1.1))=true then
  some false
 else
  if(a0.2.1 != a1.2.1)=true then
   some false
  else
   gd ((u15 a0.2.2 a1.2.2).isSome=true/\True) <|
   if(!vl (u15 a0.2.2 a1.2.2))=true then
    some false
   else
    some true
def k141:Ct:=lct 141 [.agg y150,.agg y150] (fun x=>u141 x.1 x.2.1) (fun r:Bool=>B r) (fun _=>())
theorem o141:Ok prog k141:=by
 refine okL [.tmp 4] func141 ntmps141 results141 ?_;intro y ⟨a0,a1,_⟩ r H Q hn hr;have:HT _ _:=⟨tc o15 tn⟩;refine qA (Z [p 2 (R 2),p 3 (R 3)] [(3,K 150 y150 a1),(2,K 150 y150 a0)])<|vQ<|qA (Z [p 2 (R 2),p 3 (R 3),p 9 (B !decide (a0.1=a1.1))] [(3,K 150 y150 a1),(2,K 150 y150 a0)])<|cD H (fun H=>?_) (fun H=>?_)
 ·refine qA (Z [p 4 (B false)] [(3,K 150 y150 a1),(2,K 150 y150 a0)])<|vTT<|fR<|hr H
 refine vK<|fQ<|vQ<|qA (Z [p 2 (R 2),p 3 (R 3),p 14 (B (a0.2.1 != a1.2.1))] [(3,K 150 y150 a1),(2,K 150 y150 a0)])<|cD H (fun H=>?_) (fun H=>?_)
 ·refine qA (Z [p 4 (B false)] [(3,K 150 y150 a1),(2,K 150 y150 a0)])<|vTT<|fR<|hr H
 refine vK<|fQ<|vQ<|qB (Z [p 20 (B !vl (u15 a0.2.2 a1.2.2))] [(3,K 150 y150 a1),(2,K 150 y150 a0)]) H fun H=>cD H (fun H=>?_) (fun H=>?_)
 ·refine qA (Z [p 4 (B false)] [(3,K 150 y150 a1),(2,K 150 y150 a0)])<|vTT<|fR<|hr H
 refine vK<|fQ<|qA (Z [p 4 (B true)] [(3,K 150 y150 a1),(2,K 150 y150 a0)])<|vTT<|hr H
def u89J0:Unit->Option (Bool)
 | _ =>
 some true
def u89L1(a0:List Y150)(a1:List Y150)(g1:Int->Option (Bool)):Int->Option (Bool)
 | v0 =>
 if(decide (v0 < (a0.length:Int)))=true then
  gd (ix v0 a0.length/\ix v0 a1.length/\(u141 (a0.getD v0.toNat (dflt y150)) (a1.getD v0.toNat (dflt y150))).isSome=true/\True) <|
  if(!vl (u141 (a0.getD v0.toNat (dflt y150)) (a1.getD v0.toNat (dflt y150))))=true then
   some false
  else
   gd (in64 (v0+1)/\True) <|
   g1 (v0+1)
 else
  u89J0 ()
def u89(a0:List Y150)(a1:List Y150):Option (Bool) :=
 if((a0.length:Int) != (a1.length:Int))=true then
  some false
 else
  lp (u89L1 a0 a1) 0
def k89:Ct:=lct 89 [.dat y150.sl,.dat y150.sl] (fun x=>u89 x.1 x.2.1) (fun r:Bool=>B r) (fun _=>())
theorem o89:Ok prog k89:=by
 refine okL [.tmp 4] func89 ntmps89 results89 ?_;intro y ⟨a0,a1,_⟩ r H Q hn hr;have:HT _ _:=⟨tc o141 tn⟩;refine qA (Z [p 0 (L y150 a0),p 1 (L y150 a1)] [])<|vQ<|qA (Z [p 0 (L y150 a0),p 1 (L y150 a1),p 10 (B ((a0.length:Int) != (a1.length:Int)))] [])<|cD H (fun H=>?_) (fun H=>?_)
 ·refine qA (Z [p 4 (B false)] [])<|vTT<|fR<|hr H
 refine vK<|fQ<|jN r (fun(_:Unit)=>Z [] []) (u89J0) (fun _ H=>?_) (fun _ n0 e0 t0=>?_)
 ·refine qA (Z [p 4 (B true)] [])<|vTT<|hr H
 refine qA (Z [p 0 (L y150 a0),p 1 (L y150 a1),p 5 (I 0)] [])<|vB<|lX (fun(v0:Int)=>Z [p 0 (L y150 a0),p 1 (L y150 a1),p 5 (I v0)] []) 0 H fun _ g1 b1 e1 t1 v0 H=>vQ<|qA (Z [p 0 (L y150 a0),p 1 (L y150 a1),p 5 (I v0),p 14 (B (decide (v0 < (a0.length:Int))))] [])<|cD H (fun H=>?_) (fun H=>?_)
 ·refine vK<|fQ<|vQ<|vB<|qB (Z [p 0 (L y150 a0),p 1 (L y150 a1),p 5 (I v0),p 26 (B !vl (u141 (a0.getD v0.toNat (dflt y150)) (a1.getD v0.toNat (dflt y150))))] []) H fun H=>cD H (fun H=>?_) (fun H=>?_)
  ·refine qA (Z [p 4 (B false)] [])<|vTT<|fDD<|fR<|t1<|fDD<|t0<|hr H
  refine vK<|fK<|fQ<|zB (Z [p 0 (L y150 a0),p 1 (L y150 a1),p 5 (I (v0+1))] []) H fun H=>b1 H
 exact vE<|fE<|e1<|fX rfl<|n0 H
def u47(a0:Y43)(a1:Y43):Option (Bool) :=
 gd ((u89 a0.1 a1.1).isSome=true/\True) <|
 if(!vl (u89 a0.1 a1.1))=true then
  some false
 else
  gd ((u90 a0.2.1 a1.2.1).isSome=true/\True) <|
  if(!vl (u90 a0.2.1 a1.2.1))=true then
   some false
  else
   gd ((u91 a0.2.2 a1.2.2).isSome=true/\True) <|
   if(!vl (u91 a0.2.2 a1.2.2))=true then
    some false
   else
    some true
def k47:Ct:=lct 47 [.agg y43,.agg y43] (fun x=>u47 x.1 x.2.1) (fun r:Bool=>B r) (fun _=>())
theorem o47:Ok prog k47:=by
 refine okL [.tmp 4] func47 ntmps47 results47 ?_;intro y ⟨a0,a1,_⟩ r H Q hn hr;have:HT _ _:=⟨tc o91 (tc o90 (tc o89 tn))⟩;refine qA (Z [p 2 (R 2),p 3 (R 3)] [(3,K 43 y43 a1),(2,K 43 y43 a0)])<|vQ<|qB (Z [p 2 (R 2),p 3 (R 3),p 10 (B !vl (u89 a0.1 a1.1))] [(3,K 43 y43 a1),(2,K 43 y43 a0)]) H fun H=>cD H (fun H=>?_) (fun H=>?_)
 ·refine qA (Z [p 4 (B false)] [(3,K 43 y43 a1),(2,K 43 y43 a0)])<|vTT<|fR<|hr H
 refine vK<|fQ<|vQ<|qB (Z [p 2 (R 2),p 3 (R 3),p 16 (B !vl (u90 a0.2.1 a1.2.1))] [(3,K 43 y43 a1),(2,K 43 y43 a0)]) H fun H=>cD H (fun H=>?_) (fun H=>?_)
 ·refine qA (Z [p 4 (B false)] [(3,K 43 y43 a1),(2,K 43 y43 a0)])<|vTT<|fR<|hr H
 refine vK<|fQ<|vQ<|qB (Z [p 22 (B !vl (u91 a0.2.2 a1.2.2))] [(3,K 43 y43 a1),(2,K 43 y43 a0)]) H fun H=>cD H (fun H=>?_) (fun H=>?_)
 ·refine qA (Z [p 4 (B false)] [(3,K 43 y43 a1),(2,K 43 y43 a0)])<|vTT<|fR<|hr H
 refine vK<|fQ<|qA (Z [p 4 (B true)] [(3,K 43 y43 a1),(2,K 43 y43 a0)])<|vTT<|hr H
def u239(a0:Y261)(a1:Y261):Option (Bool) :=
 gd ((u15 a0.1 a1.1).isSome=true/\True) <|
 if(!vl (u15 a0.1 a1.1))=true then
  some false
 else
  gd ((u15 a0.2.1 a1.2.1).isSome=true/\True) <|
  if(!vl (u15 a0.2.1 a1.2.1))=true then
   some false
  else
   gd ((u15 a0.2.2 a1.2.2).isSome=true/\True) <|
   if(!vl (u15 a0.2.2 a1.2.2))=true then
    some false
   else
    some true
def k239:Ct:=lct 239 [.agg y261,.agg y261] (fun x=>u239 x.1 x.2.1) (fun r:Bool=>B r) (fun _=>())
theorem o239:Ok prog k239:=by
 refine okL [.tmp 4] func239 ntmps239 results239 ?_;intro y ⟨a0,a1,_⟩ r H Q hn hr;have:HT _ _:=⟨tc o15 tn⟩;refine qA (Z [p 2 (R 2),p 3 (R 3)] [(3,K 261 y261 a1),(2,K 261 y261 a0)])<|vQ<|qB (Z [p 2 (R 2),p 3 (R 3),p 10 (B !vl (u15 a0.1 a1.1))] [(3,K 261 y261 a1),(2,K 261 y261 a0)]) H fun H=>cD H (fun H=>?_) (fun H=>?_)
 ·refine qA (Z [p 4 (B false)] [(3,K 261 y261 a1),(2,K 261 y261 a0)])<|vTT<|fR<|hr H
 refine vK<|fQ<|vQ<|qB (Z [p 2 (R 2),p 3 (R 3),p 16 (B !vl (u15 a0.2.1 a1.2.1))] [(3,K 261 y261 a1),(2,K 261 y261 a0)]) H fun H=>cD H (fun H=>?_) (fun H=>?_)
 ·refine qA (Z [p 4 (B false)] [(3,K 261 y261 a1),(2,K 261 y261 a0)])<|vTT<|fR<|hr H
 refine vK<|fQ<|vQ<|qB (Z [p 22 (B !vl (u15 a0.2.2 a1.2.2))] [(3,K 261 y261 a1),(2,K 261 y261 a0)]) H fun H=>cD H (fun H=>?_) (fun H=>?_)
 ·refine qA (Z [p 4 (B false)] [(3,K 261 y261 a1),(2,K 261 y261 a0)])<|vTT<|fR<|hr H
 refine vK<|fQ<|qA (Z [p 4 (B true)] [(3,K 261 y261 a1),(2,K 261 y261 a0)])<|vTT<|hr H
def u225J0:Unit->Option (Bool)
 | _ =>
 some true
def u225L1(a0:List Y261)(a1:List Y261)(g1:Int->Option (Bool)):Int->Option (Bool)
 | v0 =>
 if(decide (v0 < (a0.length:Int)))=true then
  gd (ix v0 a0.length/\ix v0 a1.length/\(u239 (a0.getD v0.toNat (dflt y261)) (a1.getD v0.toNat (dflt y261))).isSome=true/\True) <|
  if(!vl (u239 (a0.getD v0.toNat (dflt y261)) (a1.getD v0.toNat (dflt y261))))=true then
   some false
  else
   gd (in64 (v0+1)/\True) <|
   g1 (v0+1)
 else
  u225J0 ()
def u225(a0:List Y261)(a1:List Y261):Option (Bool) :=
 if((a0.length:Int) != (a1.length:Int))=true then
  some false
 else
  lp (u225L1 a0 a1) 0
def k225:Ct:=lct 225 [.dat y261.sl,.dat y261.sl] (fun x=>u225 x.1 x.2.1) (fun r:Bool=>B r) (fun _=>())
theorem o225:Ok prog k225:=by
 refine okL [.tmp 4] func225 ntmps225 results225 ?_;intro y ⟨a0,a1,_⟩ r H Q hn hr;have:HT _ _:=⟨tc o239 tn⟩;refine qA (Z [p 0 (L y261 a0),p 1 (L y261 a1)] [])<|vQ<|qA (Z [p 0 (L y261 a0),p 1 (L y261 a1),p 10 (B ((a0.length:Int) != (a1.length:Int)))] [])<|cD H (fun H=>?_) (fun H=>?_)
 ·refine qA (Z [p 4 (B false)] [])<|vTT<|fR<|hr H
 refine vK<|fQ<|jN r (fun(_:Unit)=>Z [] []) (u225J0) (fun _ H=>?_) (fun _ n0 e0 t0=>?_)
 ·refine qA (Z [p 4 (B true)] [])<|vTT<|hr H
 refine qA (Z [p 0 (L y261 a0),p 1 (L y261 a1),p 5 (I 0)] [])<|vB<|lX (fun(v0:Int)=>Z [p 0 (L y261 a0),p 1 (L y261 a1),p 5 (I v0)] []) 0 H fun _ g1 b1 e1 t1 v0 H=>vQ<|qA (Z [p 0 (L y261 a0),p 1 (L y261 a1),p 5 (I v0),p 14 (B (decide (v0 < (a0.length:Int))))] [])<|cD H (fun H=>?_) (fun H=>?_)
 ·refine vK<|fQ<|vQ<|vB<|qB (Z [p 0 (L y261 a0),p 1 (L y261 a1),p 5 (I v0),p 26 (B !vl (u239 (a0.getD v0.toNat (dflt y261)) (a1.getD v0.toNat (dflt y261))))] []) H fun H=>cD H (fun H=>?_) (fun H=>?_)
  ·refine qA (Z [p 4 (B false)] [])<|vTT<|fDD<|fR<|t1<|fDD<|t0<|hr H
  refine vK<|fK<|fQ<|zB (Z [p 0 (L y261 a0),p 1 (L y261 a1),p 5 (I (v0+1))] []) H fun H=>b1 H
 exact vE<|fE<|e1<|fX rfl<|n0 H
def u207(a0:Y153)(a1:Y153):Option (Bool) :=
 if(a0.1 != a1.1)=true then
  some false
 else
  if(a0.2.1 != a1.2.1)=true then
   some false
  else
   if(a0.2.2.1 != a1.2.2.1)=true then
    some false
   else
    if(a0.2.2.2.1 != a1.2.2.2.1)=true then
     some false
    else
     gd ((u225 a0.2.2.2.2.1 a1.2.2.2.2.1).isSome=true/\True) <|
     if(!vl (u225 a0.2.2.2.2.1 a1.2.2.2.2.1))=true then
      some false
     else
      gd ((u225 a0.2.2.2.2.2 a1.2.2.2.2.2).isSome=true/\True) <|
      if(!vl (u225 a0.2.2.2.2.2 a1.2.2.2.2.2))=true then
       some false
      else
       some true
def k207:Ct:=lct 207 [.agg y153,.agg y153] (fun x=>u207 x.1 x.2.1) (fun r:Bool=>B r) (fun _=>())
theorem o207:Ok prog k207:=by
 refine okL [.tmp 4] func207 ntmps207 results207 ?_;intro y ⟨a0,a1,_⟩ r H Q hn hr;have:HT _ _:=⟨tc o225 tn⟩;refine qA (Z [p 2 (R 2),p 3 (R 3)] [(3,K 153 y153 a1),(2,K 153 y153 a0)])<|vQ<|qA (Z [p 2 (R 2),p 3 (R 3),p 9 (B (a0.1 != a1.1))] [(3,K 153 y153 a1),(2,K 153 y153 a0)])<|cD H (fun H=>?_) (fun H=>?_)
 ·refine qA (Z [p 4 (B false)] [(3,K 153 y153 a1),(2,K 153 y153 a0)])<|vTT<|fR<|hr H
 refine vK<|fQ<|vQ<|qA (Z [p 2 (R 2),p 3 (R 3),p 14 (B (a0.2.1 != a1.2.1))] [(3,K 153 y153 a1),(2,K 153 y153 a0)])<|cD H (fun H=>?_) (fun H=>?_)
 ·refine qA (Z [p 4 (B false)] [(3,K 153 y153 a1),(2,K 153 y153 a0)])<|vTT<|fR<|hr H
 refine vK<|fQ<|vQ<|qA (Z [p 2 (R 2),p 3 (R 3),p 19 (B (a0.2.2.1 != a1.2.2.1))] [(3,K 153 y153 a1),(2,K 153 y153 a0)])<|cD H (fun H=>?_) (fun H=>?_)
 ·refine qA (Z [p 4 (B false)] [(3,K 153 y153 a1),(2,K 153 y153 a0)])<|vTT<|fR<|hr H
 refine vK<|fQ<|vQ<|qA (Z [p 2 (R 2),p 3 (R 3),p 24 (B (a0.2.2.2.1 != a1.2.2.2.1))] [(3,K 153 y153 a1),(2,K 153 y153 a0)])<|cD H (fun H=>?_) (fun H=>?_)
 ·refine qA (Z [p 4 (B false)] [(3,K 153 y153 a1),(2,K 153 y153 a0)])<|vTT<|fR<|hr H
 refine vK<|fQ<|vQ<|qB (Z [p 2 (R 2),p 3 (R 3),p 30 (B !vl (u225 a0.2.2.2.2.1 a1.2.2.2.2.1))] [(3,K 153 y153 a1),(2,K 153 y153 a0)]) H fun H=>cD H (fun H=>?_) (fun H=>?_)
 ·refine qA (Z [p 4 (B false)] [(3,K 153 y153 a1),(2,K 153 y153 a0)])<|vTT<|fR<|hr H
 refine vK<|fQ<|vQ<|qB (Z [p 36 (B !vl (u225 a0.2.2.2.2.2 a1.2.2.2.2.2))] [(3,K 153 y153 a1),(2,K 153 y153 a0)]) H fun H=>cD H (fun H=>?_) (fun H=>?_)
 ·refine qA (Z [p 4 (B false)] [(3,K 153 y153 a1),(2,K 153 y153 a0)])<|vTT<|fR<|hr H
 refine vK<|fQ<|qA (Z [p 4 (B true)] [(3,K 153 y153 a1),(2,K 153 y153 a0)])<|vTT<|hr H
def u178J0:Unit->Option (Bool)
 | _ =>
 some true
def u178L1(a0:List Y153)(a1:List Y153)(g1:Int->Option (Bool)):Int->Option (Bool)
 | v0 =>
 if(decide (v0 < (a0.length:Int)))=true then
  gd (ix v0 a0.length/\ix v0 a1.length/\(u207 (a0.getD v0.toNat (dflt y153)) (a1.getD v0.toNat (dflt y153))).isSome=true/\True) <|
  if(!vl (u207 (a0.getD v0.toNat (dflt y153)) (a1.getD v0.toNat (dflt y153))))=true then
   some false
  else
   gd (in64 (v0+1)/\True) <|
   g1 (v0+1)
 else
  u178J0 ()
def u178(a0:List Y153)(a1:List Y153):Option (Bool) :=
 if((a0.length:Int) != (a1.length:Int))=true then
  some false
 else
  lp (u178L1 a0 a1) 0
def k178:Ct:=lct 178 [.dat y153.sl,.dat y153.sl] (fun x=>u178 x.1 x.2.1) (fun r:Bool=>B r) (fun _=>())
theorem o178:Ok prog k178:=by
 refine okL [.tmp 4] func178 ntmps178 results178 ?_;intro y ⟨a0,a1,_⟩ r H Q hn hr;have:HT _ _:=⟨tc o207 tn⟩;refine qA (Z [p 0 (L y153 a0),p 1 (L y153 a1)] [])<|vQ<|qA (Z [p 0 (L y153 a0),p 1 (L y153 a1),p 10 (B ((a0.length:Int) != (a1.length:Int)))] [])<|cD H (fun H=>?_) (fun H=>?_)
 ·refine qA (Z [p 4 (B false)] [])<|vTT<|fR<|hr H
 refine vK<|fQ<|jN r (fun(_:Unit)=>Z [] []) (u178J0) (fun _ H=>?_) (fun _ n0 e0 t0=>?_)
 ·refine qA (Z [p 4 (B true)] [])<|vTT<|hr H
 refine qA (Z [p 0 (L y153 a0),p 1 (L y153 a1),p 5 (I 0)] [])<|vB<|lX (fun(v0:Int)=>Z [p 0 (L y153 a0),p 1 (L y153 a1),p 5 (I v0)] []) 0 H fun _ g1 b1 e1 t1 v0 H=>vQ<|qA (Z [p 0 (L y153 a0),p 1 (L y153 a1),p 5 (I v0),p 14 (B (decide (v0 < (a0.length:Int))))] [])<|cD H (fun H=>?_) (fun H=>?_)
 ·refine vK<|fQ<|vQ<|vB<|qB (Z [p 0 (L y153 a0),p 1 (L y153 a1),p 5 (I v0),p 26 (B !vl (u207 (a0.getD v0.toNat (dflt y153)) (a1.getD v0.toNat (dflt y153))))] []) H fun H=>cD H (fun H=>?_) (fun H=>?_)
  ·refine qA (Z [p 4 (B false)] [])<|vTT<|fDD<|fR<|t1<|fDD<|t0<|hr H
  refine vK<|fK<|fQ<|zB (Z [p 0 (L y153 a0),p 1 (L y153 a1),p 5 (I (v0+1))] []) H fun H=>b1 H
 exact vE<|fE<|e1<|fX rfl<|n0 H
def u206(a0:Y222)(a1:Y222):Option (Bool) :=
 if(!decide (a0.1=a1.1))=true then
  some false
 else
  if(a0.2.1 != a1.2.1)=true then
   some false
  else
   if(a0.2.2.1 != a1.2.2.1)=true then
    some false
   else
    if(!a0.2.2.2==a1.2.2.2)=true then
     some false
    else
     some true
def k206:Ct:=lct 206 [.agg y222,.agg y222] (fun x=>u206 x.1 x.2.1) (fun r:Bool=>B r) (fun _=>())
theorem o206:Ok prog k206:=by
 refine okL [.tmp 4] func206 ntmps206 results206 ?_;intro y ⟨a0,a1,_⟩ r H Q hn hr;have:HT _ _:=⟨@tn prog⟩;refine qA (Z [p 2 (R 2),p 3 (R 3)] [(3,K 222 y222 a1),(2,K 222 y222 a0)])<|vQ<|qA (Z [p 2 (R 2),p 3 (R 3),p 9 (B !decide (a0.1=a1.1))] [(3,K 222 y222 a1),(2,K 222 y222 a0)])<|cD H (fun H=>?_) (fun H=>?_)
 ·refine qA (Z [p 4 (B false)] [(3,K 222 y222 a1),(2,K 222 y222 a0)])<|vTT<|fR<|hr H
 refine vK<|fQ<|vQ<|qA (Z [p 2 (R 2),p 3 (R 3),p 14 (B (a0.2.1 != a1.2.1))] [(3,K 222 y222 a1),(2,K 222 y222 a0)])<|cD H (fun H=>?_) (fun H=>?_)
 ·refine qA (Z [p 4 (B false)] [(3,K 222 y222 a1),(2,K 222 y222 a0)])<|vTT<|fR<|hr H
 refine vK<|fQ<|vQ<|qA (Z [p 2 (R 2),p 3 (R 3),p 19 (B (a0.2.2.1 != a1.2.2.1))] [(3,K 222 y222 a1),(2,K 222 y222 a0)])<|cD H (fun H=>?_) (fun H=>?_)
 ·refine qA (Z [p 4 (B false)] [(3,K 222 y222 a1),(2,K 222 y222 a0)])<|vTT<|fR<|hr H
 refine vK<|fQ<|vQ<|qA (Z [p 24 (B !a0.2.2.2==a1.2.2.2)] [(3,K 222 y222 a1),(2,K 222 y222 a0)])<|cD H (fun H=>?_) (fun H=>?_)
 ·refine qA (Z [p 4 (B false)] [(3,K 222 y222 a1),(2,K 222 y222 a0)])<|vTT<|fR<|hr H
 refine vK<|fQ<|qA (Z [p 4 (B true)] [(3,K 222 y222 a1),(2,K 222 y222 a0)])<|vTT<|hr H
def u177J0:Unit->Option (Bool)
 | _ =>
 some true
def u177L1(a0:List Y222)(a1:List Y222)(g1:Int->Option (Bool)):Int->Option (Bool)
 | v0 =>
 if(decide (v0 < (a0.length:Int)))=true then
  gd (ix v0 a0.length/\ix v0 a1.length/\(u206 (a0.getD v0.toNat (dflt y222)) (a1.getD v0.toNat (dflt y222))).isSome=true/\True) <|
  if(!vl (u206 (a0.getD v0.toNat (dflt y222)) (a1.getD v0.toNat (dflt y222))))=true then
   some false
  else
   gd (in64 (v0+1)/\True) <|
   g1 (v0+1)
 else
  u177J0 ()
def u177(a0:List Y222)(a1:List Y222):Option (Bool) :=
 if((a0.length:Int) != (a1.length:Int))=true then
  some false
 else
  lp (u177L1 a0 a1) 0
def k177:Ct:=lct 177 [.dat y222.sl,.dat y222.sl] (fun x=>u177 x.1 x.2.1) (fun r:Bool=>B r) (fun _=>())
theorem o177:Ok prog k177:=by
 refine okL [.tmp 4] func177 ntmps177 results177 ?_;intro y ⟨a0,a1,_⟩ r H Q hn hr;have:HT _ _:=⟨tc o206 tn⟩;refine qA (Z [p 0 (L y222 a0),p 1 (L y222 a1)] [])<|vQ<|qA (Z [p 0 (L y222 a0),p 1 (L y222 a1),p 10 (B ((a0.length:Int) != (a1.length:Int)))] [])<|cD H (fun H=>?_) (fun H=>?_)
 ·refine qA (Z [p 4 (B false)] [])<|vTT<|fR<|hr H
 refine vK<|fQ<|jN r (fun(_:Unit)=>Z [] []) (u177J0) (fun _ H=>?_) (fun _ n0 e0 t0=>?_)
 ·refine qA (Z [p 4 (B true)] [])<|vTT<|hr H
 refine qA (Z [p 0 (L y222 a0),p 1 (L y222 a1),p 5 (I 0)] [])<|vB<|lX (fun(v0:Int)=>Z [p 0 (L y222 a0),p 1 (L y222 a1),p 5 (I v0)] []) 0 H fun _ g1 b1 e1 t1 v0 H=>vQ<|qA (Z [p 0 (L y222 a0),p 1 (L y222 a1),p 5 (I v0),p 14 (B (decide (v0 < (a0.length:Int))))] [])<|cD H (fun H=>?_) (fun H=>?_)
 ·refine vK<|fQ<|vQ<|vB<|qB (Z [p 0 (L y222 a0),p 1 (L y222 a1),p 5 (I v0),p 26 (B !vl (u206 (a0.getD v0.toNat (dflt y222)) (a1.getD v0.toNat (dflt y222))))] []) H fun H=>cD H (fun H=>?_) (fun H=>?_)
  ·refine qA (Z [p 4 (B false)] [])<|vTT<|fDD<|fR<|t1<|fDD<|t0<|hr H
  refine vK<|fK<|fQ<|zB (Z [p 0 (L y222 a0),p 1 (L y222 a1),p 5 (I (v0+1))] []) H fun H=>b1 H
 exact vE<|fE<|e1<|fX rfl<|n0 H
def u140(a0:Y148)(a1:Y148):Option (Bool) :=
 if(!decide (a0.1=a1.1))=true then
  some false
 else
  if(a0.2.1 != a1.2.1)=true then
   some false
  else
   gd ((u177 a0.2.2.1 a1.2.2.1).isSome=true/\True) <|
   if(!vl (u177 a0.2.2.1 a1.2.2.1))=true then
    some false
   else
    gd ((u178 a0.2.2.2.1 a1.2.2.2.1).isSome=true/\True) <|
    if(!vl (u178 a0.2.2.2.1 a1.2.2.2.1))=true then
     some false
    else
     gd ((u15 a0.2.2.2.2.1 a1.2.2.2.2.1).isSome=true/\True) <|
     if(!vl (u15 a0.2.2.2.2.1 a1.2.2.2.2.1))=true then
      some false
     else
      if(a0.2.2.2.2.2.1 != a1.2.2.2.2.2.1)=true then
       some false
      else
       if(a0.2.2.2.2.2.2 != a1.2.2.2.2.2.2)=true then
        some false
       else
        some true
def k140:Ct:=lct 140 [.agg y148,.agg y148] (fun x=>u140 x.1 x.2.1) (fun r:Bool=>B r) (fun _=>())
theorem o140:Ok prog k140:=by
 refine okL [.tmp 4] func140 ntmps140 results140 ?_;intro y ⟨a0,a1,_⟩ r H Q hn hr;have:HT _ _:=⟨tc o15 (tc o178 (tc o177 tn))⟩;refine qA (Z [p 2 (R 2),p 3 (R 3)] [(3,K 148 y148 a1),(2,K 148 y148 a0)])<|vQ<|qA (Z [p 2 (R 2),p 3 (R 3),p 9 (B !decide (a0.1=a1.1))] [(3,K 148 y148 a1),(2,K 148 y148 a0)])<|cD H (fun H=>?_) (fun H=>?_)
 ·refine qA (Z [p 4 (B false)] [(3,K 148 y148 a1),(2,K 148 y148 a0)])<|vTT<|fR<|hr H
 refine vK<|fQ<|vQ<|qA (Z [p 2 (R 2),p 3 (R 3),p 14 (B (a0.2.1 != a1.2.1))] [(3,K 148 y148 a1),(2,K 148 y148 a0)])<|cD H (fun H=>?_) (fun H=>?_)
 ·refine qA (Z [p 4 (B false)] [(3,K 148 y148 a1),(2,K 148 y148 a0)])<|vTT<|fR<|hr H
 refine vK<|fQ<|vQ<|qB (Z [p 2 (R 2),p 3 (R 3),p 20 (B !vl (u177 a0.2.2.1 a1.2.2.1))] [(3,K 148 y148 a1),(2,K 148 y148 a0)]) H fun H=>cD H (fun H=>?_) (fun H=>?_)
 ·refine qA (Z [p 4 (B false)] [(3,K 148 y148 a1),(2,K 148 y148 a0)])<|vTT<|fR<|hr H
 refine vK<|fQ<|vQ<|qB (Z [p 2 (R 2),p 3 (R 3),p 26 (B !vl (u178 a0.2.2.2.1 a1.2.2.2.1))] [(3,K 148 y148 a1),(2,K 148 y148 a0)]) H fun H=>cD H (fun H=>?_) (fun H=>?_)
 ·refine qA (Z [p 4 (B false)] [(3,K 148 y148 a1),(2,K 148 y148 a0)])<|vTT<|fR<|hr H
 refine vK<|fQ<|vQ<|qB (Z [p 2 (R 2),p 3 (R 3),p 32 (B !vl (u15 a0.2.2.2.2.1 a1.2.2.2.2.1))] [(3,K 148 y148 a1),(2,K 148 y148 a0)]) H fun H=>cD H (fun H=>?_) (fun H=>?_)
 ·refine qA (Z [p 4 (B false)] [(3,K 148 y148 a1),(2,K 148 y148 a0)])<|vTT<|fR<|hr H
 refine vK<|fQ<|vQ<|qA (Z [p 2 (R 2),p 3 (R 3),p 37 (B (a0.2.2.2.2.2.1 != a1.2.2.2.2.2.1))] [(3,K 148 y148 a1),(2,K 148 y148 a0)])<|cD H (fun H=>?_) (fun H=>?_)
 ·refine qA (Z [p 4 (B false)] [(3,K 148 y148 a1),(2,K 148 y148 a0)])<|vTT<|fR<|hr H
 refine vK<|fQ<|vQ<|qA (Z [p 42 (B (a0.2.2.2.2.2.2 != a1.2.2.2.2.2.2))] [(3,K 148 y148 a1),(2,K 148 y148 a0)])<|cD H (fun H=>?_) (fun H=>?_)
 ·refine qA (Z [p 4 (B false)] [(3,K 148 y148 a1),(2,K 148 y148 a0)])<|vTT<|fR<|hr H
 refine vK<|fQ<|qA (Z [p 4 (B true)] [(3,K 148 y148 a1),(2,K 148 y148 a0)])<|vTT<|hr H
def u88J0:Unit->Option (Bool)
 | _ =>
 some true
def u88L1(a0:List Y148)(a1:List Y148)(g1:Int->Option (Bool)):Int->Option (Bool)
 | v0 =>
 if(decide (v0 < (a0.length:Int)))=true then
  gd (ix v0 a0.length/\ix v0 a1.length/\(u140 (a0.getD v0.toNat (dflt y148)) (a1.getD v0.toNat (dflt y148))).isSome=true/\True) <|
  if(!vl (u140 (a0.getD v0.toNat (dflt y148)) (a1.getD v0.toNat (dflt y148))))=true then
   some false
  else
   gd (in64 (v0+1)/\True) <|
   g1 (v0+1)
 else
  u88J0 ()
def u88(a0:List Y148)(a1:List Y148):Option (Bool) :=
 if((a0.length:Int) != (a1.length:Int))=true then
  some false
 else
  lp (u88L1 a0 a1) 0
def k88:Ct:=lct 88 [.dat y148.sl,.dat y148.sl] (fun x=>u88 x.1 x.2.1) (fun r:Bool=>B r) (fun _=>())
theorem o88:Ok prog k88:=by
 refine okL [.tmp 4] func88 ntmps88 results88 ?_;intro y ⟨a0,a1,_⟩ r H Q hn hr;have:HT _ _:=⟨tc o140 tn⟩;refine qA (Z [p 0 (L y148 a0),p 1 (L y148 a1)] [])<|vQ<|qA (Z [p 0 (L y148 a0),p 1 (L y148 a1),p 10 (B ((a0.length:Int) != (a1.length:Int)))] [])<|cD H (fun H=>?_) (fun H=>?_)
 ·refine qA (Z [p 4 (B false)] [])<|vTT<|fR<|hr H
 refine vK<|fQ<|jN r (fun(_:Unit)=>Z [] []) (u88J0) (fun _ H=>?_) (fun _ n0 e0 t0=>?_)
 ·refine qA (Z [p 4 (B true)] [])<|vTT<|hr H
 refine qA (Z [p 0 (L y148 a0),p 1 (L y148 a1),p 5 (I 0)] [])<|vB<|lX (fun(v0:Int)=>Z [p 0 (L y148 a0),p 1 (L y148 a1),p 5 (I v0)] []) 0 H fun _ g1 b1 e1 t1 v0 H=>vQ<|qA (Z [p 0 (L y148 a0),p 1 (L y148 a1),p 5 (I v0),p 14 (B (decide (v0 < (a0.length:Int))))] [])<|cD H (fun H=>?_) (fun H=>?_)
 ·refine vK<|fQ<|vQ<|vB<|qB (Z [p 0 (L y148 a0),p 1 (L y148 a1),p 5 (I v0),p 26 (B !vl (u140 (a0.getD v0.toNat (dflt y148)) (a1.getD v0.toNat (dflt y148))))] []) H fun H=>cD H (fun H=>?_) (fun H=>?_)
  ·refine qA (Z [p 4 (B false)] [])<|vTT<|fDD<|fR<|t1<|fDD<|t0<|hr H
  refine vK<|fK<|fQ<|zB (Z [p 0 (L y148 a0),p 1 (L y148 a1),p 5 (I (v0+1))] []) H fun H=>b1 H
 exact vE<|fE<|e1<|fX rfl<|n0 H
def u46(a0:List Y148)(a1:List Y148):Option (Bool) :=
 gd ((u88 a0 a1).isSome=true/\True) <|
 if(!vl (u88 a0 a1))=true then
  some false
 else
  some true
def k46:Ct:=lct 46 [.agg y148.sl,.agg y148.sl] (fun x=>u46 x.1 x.2.1) (fun r:Bool=>B r) (fun _=>())
theorem o46:Ok prog k46:=by
 refine okL [.tmp 4] func46 ntmps46 results46 ?_;intro y ⟨a0,a1,_⟩ r H Q hn hr;have:HT _ _:=⟨tc o88 tn⟩;refine qA (Z [p 2 (R 2),p 3 (R 3)] [(3,Ob.box 39 [L y148 a1]),(2,Ob.box 39 [L y148 a0])])<|vQ<|qB (Z [p 10 (B !vl (u88 a0 a1))] [(3,Ob.box 39 [L y148 a1]),(2,Ob.box 39 [L y148 a0])]) H fun H=>cD H (fun H=>?_) (fun H=>?_)
 ·refine qA (Z [p 4 (B false)] [(3,Ob.box 39 [L y148 a1]),(2,Ob.box 39 [L y148 a0])])<|vTT<|fR<|hr H
 refine vK<|fQ<|qA (Z [p 4 (B true)] [(3,Ob.box 39 [L y148 a1]),(2,Ob.box 39 [L y148 a0])])<|vTT<|hr H
def u16(a0:Y46)(a1:Y46):Option (Bool) :=
 gd ((u46 a0.1 a1.1).isSome=true/\True) <|
 if(!vl (u46 a0.1 a1.1))=true then
  some false
 else
  gd ((u47 a0.2.1 a1.2.1).isSome=true/\True) <|
  if(!vl (u47 a0.2.1 a1.2.1))=true then
   some false
  else
   gd ((u48 a0.2.2 a1.2.2).isSome=true/\True) <|
   if(!vl (u48 a0.2.2 a1.2.2))=true then
    some false
   else
    some true
def k16:Ct:=lct 16 [.agg y46,.agg y46] (fun x=>u16 x.1 x.2.1) (fun r:Bool=>B r) (fun _=>())
theorem o16:Ok prog k16:=by
 refine okL [.tmp 4] func16 ntmps16 results16 ?_;intro y ⟨a0,a1,_⟩ r H Q hn hr;have:HT _ _:=⟨tc o48 (tc o47 (tc o46 tn))⟩;refine qA (Z [p 2 (R 2),p 3 (R 3)] [(3,K 46 y46 a1),(2,K 46 y46 a0)])<|vQ<|qB (Z [p 2 (R 2),p 3 (R 3),p 10 (B !vl (u46 a0.1 a1.1))] [(3,K 46 y46 a1),(2,K 46 y46 a0)]) H fun H=>cD H (fun H=>?_) (fun H=>?_)
 ·refine qA (Z [p 4 (B false)] [(3,K 46 y46 a1),(2,K 46 y46 a0)])<|vTT<|fR<|hr H
 refine vK<|fQ<|vQ<|qB (Z [p 2 (R 2),p 3 (R 3),p 16 (B !vl (u47 a0.2.1 a1.2.1))] [(3,K 46 y46 a1),(2,K 46 y46 a0)]) H fun H=>cD H (fun H=>?_) (fun H=>?_)
 ·refine qA (Z [p 4 (B false)] [(3,K 46 y46 a1),(2,K 46 y46 a0)])<|vTT<|fR<|hr H
 refine vK<|fQ<|vQ<|qB (Z [p 22 (B !vl (u48 a0.2.2 a1.2.2))] [(3,K 46 y46 a1),(2,K 46 y46 a0)]) H fun H=>cD H (fun H=>?_) (fun H=>?_)
 ·refine qA (Z [p 4 (B false)] [(3,K 46 y46 a1),(2,K 46 y46 a0)])<|vTT<|fR<|hr H
 refine vK<|fQ<|qA (Z [p 4 (B true)] [(3,K 46 y46 a1),(2,K 46 y46 a0)])<|vTT<|hr H
def u52(a0:Y107):Option (Int×Int) :=
 some (a0.1,a0.2.1)
def k52:Ct:=lct 52 [.agg y107] (fun x=>u52 x.1) (fun r:Int×Int=>AV.tup [I r.1,I r.2]) (fun _=>())
theorem o52:Ok prog k52:=by
 refine okL [.tmp 2,.tmp 3] func52 ntmps52 results52 ?_;intro y ⟨a0,_⟩ r H Q hn hr;have:HT _ _:=⟨@tn prog⟩;refine qA (Z [p 1 (R 1)] [(1,K 107 y107 a0)])<|qA (Z [p 2 (J a0.1),p 3 (J a0.2.1)] [(1,K 107 y107 a0)])<|vTT<|hr H
def u44c52J3:List Bool->Option (List Bool)
 | v21 =>
 some v21
def u44c52L4(v10:List (List Int))(g4:List Int×List Bool->Option (List Bool)):List Int×List Bool->Option (List Bool)
 | (v17,v18) =>
 if(decide (0 < (v17.length:Int)))=true then
  gd (ix (0:Int) v17.length/\Int.toNat (0:Int)<v17.length/\True) <|
  gd (((0:Int)<=(1:Int)/\(1:Int)<=(v17.length:Int)/\(v17.length:Int)<=(v17.length:Int))/\True) <|
  gd (ix (v17.getD (Int.toNat (0:Int)) (0:Int)) v18.length/\Int.toNat (v17.getD (Int.toNat (0:Int)) (0:Int))<v18.length/\True) <|
  if(!v18.getD (Int.toNat (v17.getD (Int.toNat (0:Int)) (0:Int))) false)=true then
   gd (ix (v17.getD (Int.toNat (0:Int)) (0:Int)) v18.length/\Int.toNat (v17.getD (Int.toNat (0:Int)) (0:Int))<v18.length/\True)<|lt (v18.set (Int.toNat (v17.getD (Int.toNat (0:Int)) (0:Int))) true) fun v19 =>
   gd (ix (v17.getD (Int.toNat (0:Int)) (0:Int)) v10.length/\((List.drop (Int.toNat (1:Int)) v17).length+List.length (v10.getD (Int.toNat (v17.getD (Int.toNat (0:Int)) (0:Int))) [])<=9223372036854775807/\((List.drop (Int.toNat (1:Int)) v17).length+List.length (v10.getD (Int.toNat (v17.getD (Int.toNat (0:Int)) (0:Int))) []))*8<=140737488355328)/\True)<|lt (List.drop (Int.toNat (1:Int)) v17++v10.getD (Int.toNat (v17.getD (Int.toNat (0:Int)) (0:Int))) []) fun v20 =>
   g4 (v20,v19)
  else
   g4 ((List.drop (Int.toNat (1:Int)) v17,v18))
 else
  u44c52J3 v18
def u44c52J0(a1:List Int)(a0:Y92):List (List Int)->Option (List Bool)
 | v10 =>
 gd ((u86 a0.1).isSome=true/\(0<=vl (u86 a0.1)/\vl (u86 a0.1)=vl (u86 a0.1)/\(vl (u86 a0.1)).toNat*1<=281474976710656/\vl (u86 a0.1)<=9223372036854775807)/\True)<|lt (vl (u86 a0.1)) fun v11 =>
 gd ((u87 a1).isSome=true/\True)<|lt (vl (u87 a1)) fun v12 =>
 lp (u44c52L4 v10) (v12,List.replicate v11.toNat false)
def u44c52J2(v5:Int)(g1:Int×List (List Int)->Option (List Bool)):List (List Int)->Option (List Bool)
 | v9 =>
 gd (in64 (v5+1)/\True) <|
 g1 (v5+1,v9)
def u44c52L1(a0:Y92)(a1:List Int)(g1:Int×List (List Int)->Option (List Bool)):Int×List (List Int)->Option (List Bool)
 | (v5,v6) =>
 if(decide (v5 < (a0.1.2.2.1.length:Int)))=true then
  gd (ix v5 a0.1.2.2.1.length/\True)<|lt (a0.1.2.2.1.getD v5.toNat (dflt y107)) fun v7 =>
  gd ((u52 v7).isSome=true/\True)<|lt (vl (u52 v7)) fun v8 =>
  gd (ix v5 a0.2.length/\True) <|
  if(a0.2.getD v5.toNat false)=true then
   gd (ix v8.1 v6.length/\v8.1.toNat<v6.length/\((v6.getD v8.1.toNat []).length+[v8.2].length<=9223372036854775807/\((v6.getD v8.1.toNat []).length+[v8.2].length)*8<=140737488355328)/\ix v8.1 v6.length/\(v8.1.toNat<v6.length/\v8.1.toNat=v8.1.toNat)/\True) <|
   u44c52J2 v5 g1 (v6.set v8.1.toNat (v6.getD v8.1.toNat []++[v8.2]))
  else
   u44c52J2 v5 g1 v6
 else
  u44c52J0 a1 a0 v6
def u44c52(a0:Y92)(a1:List Int):Option (List Bool) :=
 gd ((u86 a0.1).isSome=true/\(0<=vl (u86 a0.1)/\vl (u86 a0.1)=vl (u86 a0.1)/\(vl (u86 a0.1)).toNat*24<=281474976710656/\vl (u86 a0.1)<=9223372036854775807)/\True)<|lt (vl (u86 a0.1)) fun v0 =>
 lp (u44c52L1 a0 a1) (0,List.replicate v0.toNat [])
def k44c52:Ct:=lct 44 [.dat y92.pt,.dat i64.sl,.nof 52] (fun x=>u44c52 x.1 x.2.1) (fun r:List Bool=>AV.ow 4 true Ty.bool r) (fun _=>())
theorem o44c52:Ok prog k44c52:=by
 refine okL [.tmp 6] func44 ntmps44 results44 ?_;intro y ⟨a0,a1,_,_⟩ r H Q hn hr;have:HT _ _:=⟨tc o87 (tc o86 (tc o52 tn))⟩;refine qA (Z [p 0 (D y92.pt a0),p 1 (L i64 a1),p 2 (AV.fn 52 [])] [])<|qD (fun v0=>Z [p 0 (D y92.pt a0),p 1 (L i64 a1),p 2 (AV.fn 52 []),p 7 (AV.og 20)] [(20,Ob.grd 33 2 true i64 (List.replicate v0.toNat []) none)]) H fun v0 H=>jN r (fun(v10:List (List Int))=>Z [p 0 (D y92.pt a0),p 1 (L i64 a1),p 7 (AV.og 20)] [(20,Ob.grd 33 2 true i64 v10 none)]) (u44c52J0 a1 a0) (fun v10 H=>?_) (fun _ n0 e0 t0=>?_)
 ·refine qD (fun v11=>Z [p 1 (L i64 a1),p 7 (AV.og 20),p 12 (O 63)] [(63,A 4 Ty.bool (List.replicate v11.toNat false) 0),(20,Ob.grd 33 2 true i64 v10 none)]) H fun v11 H=>qD (fun v12=>Z [p 7 (AV.og 20),p 12 (O 63),p 13 (O 65)] [(65,A 2 i64 v12 0),(63,A 4 Ty.bool (List.replicate v11.toNat false) 0),(20,Ob.grd 33 2 true i64 v10 none)]) H fun v12 H=>jN r (fun(v21:List Bool)=>Z [p 12 (O 63)] [(63,A 4 Ty.bool v21 0)]) (u44c52J3) (fun v21 H=>?_) (fun _ n3 e3 t3=>?_)
  ·refine qA (Z [p 6 (O 63)] [(63,A 4 Ty.bool v21 0)])<|vTT<|hr H
  refine vB<|fZ 20 (Z [p 7 (M i64.sl v10),p 12 (O 63),p 13 (O 65)] [(65,A 2 i64 v12 0),(63,A 4 Ty.bool (List.replicate v11.toNat false) 0)])<|lX (fun((v17,v18):List Int×List Bool)=>Z [p 7 (M i64.sl v10),p 12 (O 63),p 13 (O 65)] [(65,A 2 i64 v17 0),(63,A 4 Ty.bool v18 0)]) (v12,List.replicate v11.toNat false) H fun _ g4 b4 e4 t4 ⟨v17,v18⟩ H=>vQ<|qA (Z [p 7 (M i64.sl v10),p 12 (O 63),p 13 (O 65),p 68 (B (decide (0 < (v17.length:Int))))] [(65,A 2 i64 v17 0),(63,A 4 Ty.bool v18 0)])<|cD H (fun H=>?_) (fun H=>?_)
  ·refine vK<|fQ<|vB<|qB (Z [p 7 (M i64.sl v10),p 12 (O 63),p 13 (O 65),p 14 (I (v17.getD (Int.toNat (0:Int)) (0:Int)))] [(65,A 2 i64 v17 0),(63,A 4 Ty.bool v18 0)]) H fun H=>qB (Z [p 7 (M i64.sl v10),p 12 (O 63),p 13 (AV.os 65 1),p 14 (I (v17.getD (Int.toNat (0:Int)) (0:Int)))] [(65,A 2 i64 (List.drop (Int.toNat (1:Int)) v17) 1),(63,A 4 Ty.bool v18 0)]) H fun H=>qB (Z [p 7 (M i64.sl v10),p 12 (O 63),p 13 (AV.os 65 1),p 14 (I (v17.getD (Int.toNat (0:Int)) (0:Int))),p 78 (B !v18.getD (Int.toNat (v17.getD (Int.toNat (0:Int)) (0:Int))) false)] [(65,A 2 i64 (List.drop (Int.toNat (1:Int)) v17) 1),(63,A 4 Ty.bool v18 0)]) H fun H=>cD H (fun H=>?_) (fun H=>?_)
   ·refine qD (fun v19=>Z [p 7 (M i64.sl v10),p 12 (O 63),p 13 (AV.os 65 1),p 14 (I (v17.getD (Int.toNat (0:Int)) (0:Int)))] [(63,A 4 Ty.bool v19 0),(65,A 2 i64 (List.drop (Int.toNat (1:Int)) v17) 1)]) H fun v19 H=>zD (fun v20=>Z [p 7 (M i64.sl v10),p 12 (O 63),p 13 (AV.os 65 2)] [(65,A 2 i64 v20 2),(63,A 4 Ty.bool v19 0)]) H fun v20 H=>fK<|b4 H
   exact vK<|fK<|b4 H
  exact vE<|fE<|e4<|fX rfl<|n3 H
 refine qA (Z [p 0 (D y92.pt a0),p 1 (L i64 a1),p 2 (AV.fn 52 []),p 7 (AV.og 20),p 27 (L y107 a0.1.2.2.1),p 28 (I (a0.1.2.2.1.length:Int)),p 29 (I 0)] [(20,Ob.grd 33 2 true i64 (List.replicate v0.toNat []) none)])<|vB<|lX (fun((v5,v6):Int×List (List Int))=>Z [p 0 (D y92.pt a0),p 1 (L i64 a1),p 2 (AV.fn 52 []),p 7 (AV.og 20),p 27 (L y107 a0.1.2.2.1),p 28 (I (a0.1.2.2.1.length:Int)),p 29 (I v5)] [(20,Ob.grd 33 2 true i64 v6 none)]) (0,List.replicate v0.toNat []) H fun _ g1 b1 e1 t1 ⟨v5,v6⟩ H=>qA (Z [p 0 (D y92.pt a0),p 1 (L i64 a1),p 2 (AV.fn 52 []),p 7 (AV.og 20),p 27 (L y107 a0.1.2.2.1),p 28 (I (a0.1.2.2.1.length:Int)),p 29 (I v5),p 30 (B (decide (v5 < (a0.1.2.2.1.length:Int))))] [(20,Ob.grd 33 2 true i64 v6 none)])<|vQ<|cD H (fun H=>?_) (fun H=>?_)
 ·refine vK<|fQ<|jN r (fun(v9:List (List Int))=>Z [p 0 (D y92.pt a0),p 1 (L i64 a1),p 2 (AV.fn 52 []),p 7 (AV.og 20),p 27 (L y107 a0.1.2.2.1),p 28 (I (a0.1.2.2.1.length:Int)),p 29 (I v5)] [(20,Ob.grd 33 2 true i64 v9 none)]) (u44c52J2 v5 g1) (fun v9 H=>?_) (fun _ n2 e2 t2=>?_)
  ·refine zB (Z [p 0 (D y92.pt a0),p 1 (L i64 a1),p 2 (AV.fn 52 []),p 7 (AV.og 20),p 27 (L y107 a0.1.2.2.1),p 28 (I (a0.1.2.2.1.length:Int)),p 29 (I (v5+1))] [(20,Ob.grd 33 2 true i64 v9 none)]) H fun H=>b1 H
  refine vB<|qD (fun v7=>Z [p 0 (D y92.pt a0),p 1 (L i64 a1),p 2 (AV.fn 52 []),p 7 (AV.og 20),p 8 (I v5),p 9 (R 9),p 27 (L y107 a0.1.2.2.1),p 28 (I (a0.1.2.2.1.length:Int)),p 29 (I v5)] [(9,K 107 y107 v7),(20,Ob.grd 33 2 true i64 v6 none)]) H fun v7 H=>qD (fun v8=>Z [p 0 (D y92.pt a0),p 1 (L i64 a1),p 2 (AV.fn 52 []),p 7 (AV.og 20),p 8 (I v5),p 10 (I v8.1),p 11 (I v8.2),p 27 (L y107 a0.1.2.2.1),p 28 (I (a0.1.2.2.1.length:Int)),p 29 (I v5)] [(9,K 107 y107 v7),(20,Ob.grd 33 2 true i64 v6 none)]) H fun v8 H=>qB (Z [p 0 (D y92.pt a0),p 1 (L i64 a1),p 2 (AV.fn 52 []),p 7 (AV.og 20),p 10 (I v8.1),p 11 (I v8.2),p 27 (L y107 a0.1.2.2.1),p 28 (I (a0.1.2.2.1.length:Int)),p 29 (I v5),p 46 (C (a0.2.getD v5.toNat false))] [(9,K 107 y107 v7),(20,Ob.grd 33 2 true i64 v6 none)]) H fun H=>cD H (fun H=>?_) (fun H=>?_)
  ·refine zB (Z [p 0 (D y92.pt a0),p 1 (L i64 a1),p 2 (AV.fn 52 []),p 7 (AV.og 20),p 27 (L y107 a0.1.2.2.1),p 28 (I (a0.1.2.2.1.length:Int)),p 29 (I v5)] [(20,Ob.grd 33 2 true i64 (v6.set v8.1.toNat (v6.getD v8.1.toNat []++[v8.2])) none),(52,A 2 i64 [] 2),(54,A 2 i64 [v8.2] 0),(9,K 107 y107 v7)]) H fun H=>fK<|n2 H
  exact vK<|fK<|n2 H
 exact vE<|fE<|e1<|fX rfl<|n0 H
def k44c52d:Ct:=lct 44 [.dat y92.pt,.dat i64.sl,.nof 52] (fun x=>u44c52 x.1 x.2.1) (fun r=>frz ((fun r:List Bool=>AV.ow 4 true Ty.bool r) r)) (fun _=>())
theorem o44c52d:Ok prog k44c52d:=ok_frz o44c52
def u152(a0:Y107)(a1:Int):Option (Bool) :=
 some (a0.1==a1)
def k152:Ct:=lct 152 [.agg y107,.dat (.pt i64)] (fun x=>u152 x.1 x.2.1) (fun r:Bool=>B r) (fun _=>())
theorem o152:Ok prog k152:=by
 refine okL [.tmp 3] func152 ntmps152 results152 ?_;intro y ⟨a0,a1,_⟩ r H Q hn hr;have:HT _ _:=⟨@tn prog⟩;refine qA (Z [p 1 (D i64.pt a1),p 2 (R 2)] [(2,K 107 y107 a0)])<|qA (Z [p 3 (B (a0.1==a1))] [(2,K 107 y107 a0)])<|vTT<|hr H
def u126c152J0:List Int->Option (List Int)
 | v6 =>
 some v6
def u126c152J2(v3:Int)(g1:List Int×Int->Option (List Int)):List Int->Option (List Int)
 | v5 =>
 gd (in64 (v3+1)/\True) <|
 g1 (v5,v3+1)
def u126c152L1(a0:Y92)(a1:Int)(g1:List Int×Int->Option (List Int)):List Int×Int->Option (List Int)
 | (v2,v3) =>
 if(decide (v3 < (a0.1.2.2.1.length:Int)))=true then
  gd (ix v3 a0.1.2.2.1.length/\True)<|lt (a0.1.2.2.1.getD v3.toNat (dflt y107)) fun v4 =>
  gd (ix v3 a0.2.length/\(a0.2.getD v3.toNat false=true/\True->(u152 v4 a1).isSome=true)/\True) <|
  if(a0.2.getD v3.toNat false&&vl (u152 v4 a1))=true then
   gd ((v2.length+[v3].length<=9223372036854775807/\(v2.length+[v3].length)*8<=140737488355328)/\True) <|
   u126c152J2 v3 g1 (v2++[v3])
  else
   u126c152J2 v3 g1 v2
 else
  u126c152J0 v2
def u126c152(a0:Y92)(a1:Int):Option (List Int) :=
 lp (u126c152L1 a0 a1) ([],0)
def k126c152:Ct:=lct 126 [.dat y92.pt,.fn 152 (.pt i64)] (fun x=>u126c152 x.1 x.2.1) (fun r:List Int=>AV.ow 2 true i64 r) (fun _=>())
theorem o126c152:Ok prog k126c152:=by
 refine okL [.tmp 4] func126 ntmps126 results126 ?_;intro y ⟨a0,a1,_⟩ r H Q hn hr;have:HT _ _:=⟨tc o152 tn⟩;refine qA (Z [p 0 (D y92.pt a0),p 1 (AV.fn 152 [D i64.pt a1])] [])<|qA (Z [p 0 (D y92.pt a0),p 1 (AV.fn 152 [D i64.pt a1]),p 5 (nil)] [])<|jN r (fun(v6:List Int)=>Z [p 5 (O 36)] [(36,A 2 i64 v6 0)]) (u126c152J0) (fun v6 H=>?_) (fun _ n0 e0 t0=>?_)
 ·refine qA (Z [p 4 (O 36)] [(36,A 2 i64 v6 0)])<|vTT<|hr H
 refine qA (Z [p 0 (D y92.pt a0),p 1 (AV.fn 152 [D i64.pt a1]),p 5 (nil),p 14 (L y107 a0.1.2.2.1),p 15 (I (a0.1.2.2.1.length:Int)),p 16 (I 0)] [])<|vB<|lX (fun((v2,v3):List Int×Int)=>Z [p 0 (D y92.pt a0),p 1 (AV.fn 152 [D i64.pt a1]),p 5 (O 36),p 14 (L y107 a0.1.2.2.1),p 15 (I (a0.1.2.2.1.length:Int)),p 16 (I v3)] [(36,A 2 i64 v2 0)]) ([],0) H fun _ g1 b1 e1 t1 ⟨v2,v3⟩ H=>qA (Z [p 0 (D y92.pt a0),p 1 (AV.fn 152 [D i64.pt a1]),p 5 (O 36),p 14 (L y107 a0.1.2.2.1),p 15 (I (a0.1.2.2.1.length:Int)),p 16 (I v3),p 17 (B (decide (v3 < (a0.1.2.2.1.length:Int))))] [(36,A 2 i64 v2 0)])<|vQ<|cD H (fun H=>?_) (fun H=>?_)
 ·refine vK<|fQ<|jN r (fun(v5:List Int)=>Z [p 0 (D y92.pt a0),p 1 (AV.fn 152 [D i64.pt a1]),p 5 (O 36),p 14 (L y107 a0.1.2.2.1),p 15 (I (a0.1.2.2.1.length:Int)),p 16 (I v3)] [(36,A 2 i64 v5 0)]) (u126c152J2 v3 g1) (fun v5 H=>?_) (fun _ n2 e2 t2=>?_)
  ·refine zB (Z [p 0 (D y92.pt a0),p 1 (AV.fn 152 [D i64.pt a1]),p 5 (O 36),p 14 (L y107 a0.1.2.2.1),p 15 (I (a0.1.2.2.1.length:Int)),p 16 (I (v3+1))] [(36,A 2 i64 v5 0)]) H fun H=>b1 H
  refine vB<|qD (fun v4=>Z [p 0 (D y92.pt a0),p 1 (AV.fn 152 [D i64.pt a1]),p 5 (O 36),p 6 (I v3),p 7 (R 7),p 14 (L y107 a0.1.2.2.1),p 15 (I (a0.1.2.2.1.length:Int)),p 16 (I v3)] [(7,K 107 y107 v4),(36,A 2 i64 v2 0)]) H fun v4 H=>qB (Z [p 0 (D y92.pt a0),p 1 (AV.fn 152 [D i64.pt a1]),p 5 (O 36),p 6 (I v3),p 14 (L y107 a0.1.2.2.1),p 15 (I (a0.1.2.2.1.length:Int)),p 16 (I v3),p 32 (B (a0.2.getD v3.toNat false&&vl (u152 v4 a1)))] [(7,K 107 y107 v4),(36,A 2 i64 v2 0)]) H fun H=>cD H (fun H=>?_) (fun H=>?_)
  ·refine zB (Z [p 0 (D y92.pt a0),p 1 (AV.fn 152 [D i64.pt a1]),p 5 (AV.os 36 1),p 14 (L y107 a0.1.2.2.1),p 15 (I (a0.1.2.2.1.length:Int)),p 16 (I v3)] [(36,A 2 i64 (v2++[v3]) 1),(35,A 2 i64 [v3] 0),(7,K 107 y107 v4)]) H fun H=>fK<|n2 H
  exact vK<|fK<|n2 H
 exact vE<|fE<|e1<|fX rfl<|n0 H
def u113(a0:Y92)(a1:Int):Option (List Int) :=
 gd ((u126c152 a0 a1).isSome=true/\True)<|lt (vl (u126c152 a0 a1)) fun v0 =>
 some v0
def k113:Ct:=lct 113 [.dat y92.pt,.dat i64] (fun x=>u113 x.1 x.2.1) (fun r:List Int=>AV.ow 2 true i64 r) (fun _=>())
theorem o113:Ok prog k113:=by
 refine okL [.tmp 4] func113 ntmps113 results113 ?_;intro y ⟨a0,a1,_⟩ r H Q hn hr;have:HT _ _:=⟨tc o126c152 (tc o152 tn)⟩;refine qA (Z [p 0 (D y92.pt a0),p 3 (R 3)] [(3,Ob.box 2 [J a1])])<|qD (fun v0=>Z [p 4 (O 7)] [(7,A 2 i64 v0 0),(3,Ob.box 2 [J a1])]) H fun v0 H=>vTT<|hr H
def u150J0:Unit->Option (Int)
 | _ =>
 some (-1)
def u150L1(a1:Int)(a0:List Int)(g1:Int->Option (Int)):Int->Option (Int)
 | v0 =>
 if(decide (v0 < (a0.length:Int)))=true then
  gd (ix v0 a0.length/\True) <|
  if(a1==a0.getD v0.toNat 0)=true then
   some v0
  else
   gd (in64 (v0+1)/\True) <|
   g1 (v0+1)
 else
  u150J0 ()
def u150(a0:List Int)(a1:Int):Option (Int) :=
 lp (u150L1 a1 a0) 0
def k150:Ct:=lct 150 [.dat i64.sl,.dat i64] (fun x=>u150 x.1 x.2.1) (fun r:Int=>I r) (fun _=>())
theorem o150:Ok prog k150:=by
 refine okL [.tmp 4] func150 ntmps150 results150 ?_;intro y ⟨a0,a1,_⟩ r H Q hn hr;have:HT _ _:=⟨@tn prog⟩;refine qA (Z [p 0 (L i64 a0),p 1 (J a1)] [])<|jN r (fun(_:Unit)=>Z [] []) (u150J0) (fun _ H=>?_) (fun _ n0 e0 t0=>?_)
 ·refine qA (Z [p 4 (I (-1))] [])<|vTT<|hr H
 refine qA (Z [p 0 (L i64 a0),p 1 (J a1),p 7 (I (a0.length:Int)),p 8 (I 0)] [])<|vB<|lX (fun(v0:Int)=>Z [p 0 (L i64 a0),p 1 (J a1),p 7 (I (a0.length:Int)),p 8 (I v0)] []) 0 H fun _ g1 b1 e1 t1 v0 H=>qA (Z [p 0 (L i64 a0),p 1 (J a1),p 7 (I (a0.length:Int)),p 8 (I v0),p 9 (B (decide (v0 < (a0.length:Int))))] [])<|vQ<|cD H (fun H=>?_) (fun H=>?_)
 ·refine vK<|fQ<|vQ<|vB<|qA (Z [p 0 (L i64 a0),p 1 (J a1),p 5 (I v0),p 7 (I (a0.length:Int)),p 8 (I v0)] [])<|qB (Z [p 0 (L i64 a0),p 1 (J a1),p 5 (I v0),p 7 (I (a0.length:Int)),p 8 (I v0),p 16 (B (a1==a0.getD v0.toNat 0))] []) H fun H=>cD H (fun H=>?_) (fun H=>?_)
  ·refine qA (Z [p 4 (I v0)] [])<|vTT<|fDD<|fR<|t1<|fDD<|t0<|hr H
  refine vK<|fK<|fQ<|zB (Z [p 0 (L i64 a0),p 1 (J a1),p 7 (I (a0.length:Int)),p 8 (I (v0+1))] []) H fun H=>b1 H
 exact vE<|fE<|e1<|fX rfl<|n0 H
def u149(a0:Y107):Option (Bool) :=
 some true
def k149:Ct:=lct 149 [.agg y107] (fun x=>u149 x.1) (fun r:Bool=>B r) (fun _=>())
theorem o149:Ok prog k149:=by
 refine okL [.tmp 2] func149 ntmps149 results149 ?_;intro y ⟨a0,_⟩ r H Q hn hr;have:HT _ _:=⟨@tn prog⟩;refine qA (Z [] [(1,K 107 y107 a0)])<|qA (Z [p 2 (B true)] [(1,K 107 y107 a0)])<|vTT<|hr H
def u126c149J0:List Int->Option (List Int)
 | v6 =>
 some v6
def u126c149J2(v3:Int)(g1:List Int×Int->Option (List Int)):List Int->Option (List Int)
 | v5 =>
 gd (in64 (v3+1)/\True) <|
 g1 (v5,v3+1)
def u126c149L1(a0:Y92)(g1:List Int×Int->Option (List Int)):List Int×Int->Option (List Int)
 | (v2,v3) =>
 if(decide (v3 < (a0.1.2.2.1.length:Int)))=true then
  gd (ix v3 a0.1.2.2.1.length/\True)<|lt (a0.1.2.2.1.getD v3.toNat (dflt y107)) fun v4 =>
  gd (ix v3 a0.2.length/\(a0.2.getD v3.toNat false=true/\True->(u149 v4).isSome=true)/\True) <|
  if(a0.2.getD v3.toNat false&&vl (u149 v4))=true then
   gd ((v2.length+[v3].length<=9223372036854775807/\(v2.length+[v3].length)*8<=140737488355328)/\True) <|
   u126c149J2 v3 g1 (v2++[v3])
  else
   u126c149J2 v3 g1 v2
 else
  u126c149J0 v2
def u126c149(a0:Y92):Option (List Int) :=
 lp (u126c149L1 a0) ([],0)
def k126c149:Ct:=lct 126 [.dat y92.pt,.nof 149] (fun x=>u126c149 x.1) (fun r:List Int=>AV.ow 2 true i64 r) (fun _=>())
theorem o126c149:Ok prog k126c149:=by
 refine okL [.tmp 4] func126 ntmps126 results126 ?_;intro y ⟨a0,_,_⟩ r H Q hn hr;have:HT _ _:=⟨tc o149 tn⟩;refine qA (Z [p 0 (D y92.pt a0),p 1 (AV.fn 149 [])] [])<|qA (Z [p 0 (D y92.pt a0),p 1 (AV.fn 149 []),p 5 (nil)] [])<|jN r (fun(v6:List Int)=>Z [p 5 (O 36)] [(36,A 2 i64 v6 0)]) (u126c149J0) (fun v6 H=>?_) (fun _ n0 e0 t0=>?_)
 ·refine qA (Z [p 4 (O 36)] [(36,A 2 i64 v6 0)])<|vTT<|hr H
 refine qA (Z [p 0 (D y92.pt a0),p 1 (AV.fn 149 []),p 5 (nil),p 14 (L y107 a0.1.2.2.1),p 15 (I (a0.1.2.2.1.length:Int)),p 16 (I 0)] [])<|vB<|lX (fun((v2,v3):List Int×Int)=>Z [p 0 (D y92.pt a0),p 1 (AV.fn 149 []),p 5 (O 36),p 14 (L y107 a0.1.2.2.1),p 15 (I (a0.1.2.2.1.length:Int)),p 16 (I v3)] [(36,A 2 i64 v2 0)]) ([],0) H fun _ g1 b1 e1 t1 ⟨v2,v3⟩ H=>qA (Z [p 0 (D y92.pt a0),p 1 (AV.fn 149 []),p 5 (O 36),p 14 (L y107 a0.1.2.2.1),p 15 (I (a0.1.2.2.1.length:Int)),p 16 (I v3),p 17 (B (decide (v3 < (a0.1.2.2.1.length:Int))))] [(36,A 2 i64 v2 0)])<|vQ<|cD H (fun H=>?_) (fun H=>?_)
 ·refine vK<|fQ<|jN r (fun(v5:List Int)=>Z [p 0 (D y92.pt a0),p 1 (AV.fn 149 []),p 5 (O 36),p 14 (L y107 a0.1.2.2.1),p 15 (I (a0.1.2.2.1.length:Int)),p 16 (I v3)] [(36,A 2 i64 v5 0)]) (u126c149J2 v3 g1) (fun v5 H=>?_) (fun _ n2 e2 t2=>?_)
  ·refine zB (Z [p 0 (D y92.pt a0),p 1 (AV.fn 149 []),p 5 (O 36),p 14 (L y107 a0.1.2.2.1),p 15 (I (a0.1.2.2.1.length:Int)),p 16 (I (v3+1))] [(36,A 2 i64 v5 0)]) H fun H=>b1 H
  refine vB<|qD (fun v4=>Z [p 0 (D y92.pt a0),p 1 (AV.fn 149 []),p 5 (O 36),p 6 (I v3),p 7 (R 7),p 14 (L y107 a0.1.2.2.1),p 15 (I (a0.1.2.2.1.length:Int)),p 16 (I v3)] [(7,K 107 y107 v4),(36,A 2 i64 v2 0)]) H fun v4 H=>qB (Z [p 0 (D y92.pt a0),p 1 (AV.fn 149 []),p 5 (O 36),p 6 (I v3),p 14 (L y107 a0.1.2.2.1),p 15 (I (a0.1.2.2.1.length:Int)),p 16 (I v3),p 32 (B (a0.2.getD v3.toNat false&&vl (u149 v4)))] [(7,K 107 y107 v4),(36,A 2 i64 v2 0)]) H fun H=>cD H (fun H=>?_) (fun H=>?_)
  ·refine zB (Z [p 0 (D y92.pt a0),p 1 (AV.fn 149 []),p 5 (AV.os 36 1),p 14 (L y107 a0.1.2.2.1),p 15 (I (a0.1.2.2.1.length:Int)),p 16 (I v3)] [(36,A 2 i64 (v2++[v3]) 1),(35,A 2 i64 [v3] 0),(7,K 107 y107 v4)]) H fun H=>fK<|n2 H
  exact vK<|fK<|n2 H
 exact vE<|fE<|e1<|fX rfl<|n0 H
def u101J2:List Int->Option (List Int×Bool)
 | v26 =>
 some (v26,true)
def u101J4(v16:Int)(g3:List Int×Int×List Int->Option (List Int×Bool)):List Int×List Int->Option (List Int×Bool)
 | (v24,v25) =>
 gd (in64 (v16+1)/\True) <|
 g3 (v24,v16+1,v25)
def u101L5(a0:Y92)(v19:List Int)(v16:Int)(v15:List Int)(v18:Int)(g3:List Int×Int×List Int->Option (List Int×Bool))(g5:Int×List Int->Option (List Int×Bool)):Int×List Int->Option (List Int×Bool)
 | (v21,v22) =>
 if(decide (v21 < (v19.length:Int)))=true then
  gd (ix v21 v19.length/\v21.toNat<v19.length/\True) <|
  gd (ix (v19.getD v21.toNat 0) a0.1.2.2.1.length/\ix (a0.1.2.2.1.getD (Int.toNat (v19.getD v21.toNat 0)) (dflt y107)).2.1 v22.length/\(a0.1.2.2.1.getD (Int.toNat (v19.getD v21.toNat 0)) (dflt y107)).2.1.toNat<v22.length/\in64 (v22.getD (a0.1.2.2.1.getD (Int.toNat (v19.getD v21.toNat 0)) (dflt y107)).2.1.toNat 0-1)/\ix (a0.1.2.2.1.getD (Int.toNat (v19.getD v21.toNat 0)) (dflt y107)).2.1 v22.length/\(a0.1.2.2.1.getD (Int.toNat (v19.getD v21.toNat 0)) (dflt y107)).2.1.toNat<v22.length/\True)<|lt (v22.set (a0.1.2.2.1.getD (Int.toNat (v19.getD v21.toNat 0)) (dflt y107)).2.1.toNat (v22.getD (a0.1.2.2.1.getD (Int.toNat (v19.getD v21.toNat 0)) (dflt y107)).2.1.toNat 0-1)) fun v23 =>
  gd (in64 (v21+1)/\True) <|
  g5 (v21+1,v23)
 else
  u101J4 v16 g3 (v15++[v18],v22)
def u101L3(a0:Y92)(v6:List Int)(g3:List Int×Int×List Int->Option (List Int×Bool)):List Int×Int×List Int->Option (List Int×Bool)
 | (v15,v16,v17) =>
 if(decide (v16 < (v6.length:Int)))=true then
  gd ((u150 v17 0).isSome=true/\True)<|lt (vl (u150 v17 0)) fun v18 =>
  if(decide (v18<0))=true then
   some ([],false)
  else
   gd (ix v18 v17.length/\v18.toNat<v17.length/\True) <|
   gd ((v15.length+[v18].length<=9223372036854775807/\(v15.length+[v18].length)*8<=140737488355328)/\True) <|
   gd ((u113 a0 v18).isSome=true/\True)<|lt (vl (u113 a0 v18)) fun v19 =>
   lp (u101L5 a0 v19 v16 v15 v18 g3) ((0,v17.set v18.toNat (-1)))
 else
  u101J2 v15
def u101J0(a0:Y92):List Int->Option (List Int×Bool)
 | v6 =>
 lp (u101L3 a0 v6) ([],0,v6)
def u101L1(a0:Y92)(v1:List Int)(g1:Int×List Int->Option (List Int×Bool)):Int×List Int->Option (List Int×Bool)
 | (v3,v4) =>
 if(decide (v3 < (v1.length:Int)))=true then
  gd (ix v3 v1.length/\v3.toNat<v1.length/\True) <|
  gd (ix (v1.getD v3.toNat 0) a0.1.2.2.1.length/\ix (a0.1.2.2.1.getD (Int.toNat (v1.getD v3.toNat 0)) (dflt y107)).2.1 v4.length/\(a0.1.2.2.1.getD (Int.toNat (v1.getD v3.toNat 0)) (dflt y107)).2.1.toNat<v4.length/\in64 (v4.getD (a0.1.2.2.1.getD (Int.toNat (v1.getD v3.toNat 0)) (dflt y107)).2.1.toNat 0+1)/\ix (a0.1.2.2.1.getD (Int.toNat (v1.getD v3.toNat 0)) (dflt y107)).2.1 v4.length/\(a0.1.2.2.1.getD (Int.toNat (v1.getD v3.toNat 0)) (dflt y107)).2.1.toNat<v4.length/\True)<|lt (v4.set (a0.1.2.2.1.getD (Int.toNat (v1.getD v3.toNat 0)) (dflt y107)).2.1.toNat (v4.getD (a0.1.2.2.1.getD (Int.toNat (v1.getD v3.toNat 0)) (dflt y107)).2.1.toNat 0+1)) fun v5 =>
  gd (in64 (v3+1)/\True) <|
  g1 (v3+1,v5)
 else
  u101J0 a0 v4
def u101(a0:Y92):Option (List Int×Bool) :=
 gd ((u86 a0.1).isSome=true/\(0<=vl (u86 a0.1)/\vl (u86 a0.1)=vl (u86 a0.1)/\(vl (u86 a0.1)).toNat*8<=281474976710656/\vl (u86 a0.1)<=9223372036854775807)/\True)<|lt (vl (u86 a0.1)) fun v0 =>
 gd ((u126c149 a0).isSome=true/\True)<|lt (vl (u126c149 a0)) fun v1 =>
 lp (u101L1 a0 v1) (0,List.replicate v0.toNat 0)
def k101:Ct:=lct 101 [.dat y92.pt] (fun x=>u101 x.1) (fun r:List Int×Bool=>AV.tup [AV.ow 2 true i64 r.1,B r.2]) (fun _=>())
theorem o101:Ok prog k101:=by
 refine okL [.tmp 2,.tmp 3] func101 ntmps101 results101 ?_;intro y ⟨a0,_⟩ r H Q hn hr;have:HT _ _:=⟨tc o113 (tc o150 (tc o149 (tc o126c152 (tc o126c149 (tc o86 tn)))))⟩;refine qA (Z [p 0 (D y92.pt a0)] [])<|qD (fun v0=>Z [p 0 (D y92.pt a0),p 4 (O 16)] [(16,A 3 i64 (List.replicate v0.toNat 0) 0)]) H fun v0 H=>jN r (fun(v6:List Int)=>Z [p 0 (D y92.pt a0),p 4 (O 16)] [(16,A 3 i64 v6 0)]) (u101J0 a0) (fun v6 H=>?_) (fun _ n0 e0 t0=>?_)
 ·refine qA (Z [p 0 (D y92.pt a0),p 4 (O 16),p 7 (nil)] [(16,A 3 i64 v6 0)])<|jN r (fun(v26:List Int)=>Z [p 7 (O 55)] [(55,A 2 i64 v26 0)]) (u101J2) (fun v26 H=>?_) (fun _ n2 e2 t2=>?_)
  ·refine qA (Z [p 2 (O 55),p 3 (B true)] [(55,A 2 i64 v26 0)])<|vTT<|hr H
  refine qA (Z [p 0 (D y92.pt a0),p 4 (O 16),p 7 (nil),p 42 (I (v6.length:Int)),p 43 (I 0)] [(16,A 3 i64 v6 0)])<|vB<|lX (fun((v15,v16,v17):List Int×Int×List Int)=>Z [p 0 (D y92.pt a0),p 4 (O 16),p 7 (O 55),p 42 (I (v6.length:Int)),p 43 (I v16)] [(16,A 3 i64 v17 0),(55,A 2 i64 v15 0)]) ([],0,v6) H fun _ g3 b3 e3 t3 ⟨v15,v16,v17⟩ H=>qA (Z [p 0 (D y92.pt a0),p 4 (O 16),p 7 (O 55),p 42 (I (v6.length:Int)),p 43 (I v16),p 44 (B (decide (v16 < (v6.length:Int))))] [(16,A 3 i64 v17 0),(55,A 2 i64 v15 0)])<|vQ<|cD H (fun H=>?_) (fun H=>?_)
  ·refine vK<|fQ<|jN r (fun((v24,v25):List Int×List Int)=>Z [p 0 (D y92.pt a0),p 4 (O 16),p 7 (O 55),p 42 (I (v6.length:Int)),p 43 (I v16)] [(55,A 2 i64 v24 0),(16,A 3 i64 v25 0)]) (u101J4 v16 g3) (fun⟨v24,v25⟩ H=>?_) (fun _ n4 e4 t4=>?_)
   ·refine zB (Z [p 0 (D y92.pt a0),p 4 (O 16),p 7 (O 55),p 42 (I (v6.length:Int)),p 43 (I (v16+1))] [(55,A 2 i64 v24 0),(16,A 3 i64 v25 0)]) H fun H=>b3 H
   refine vB<|qD (fun v18=>Z [p 0 (D y92.pt a0),p 4 (O 16),p 7 (O 55),p 8 (I v18),p 42 (I (v6.length:Int)),p 43 (I v16)] [(16,A 3 i64 v17 0),(55,A 2 i64 v15 0)]) H fun v18 H=>vQ<|qA (Z [p 0 (D y92.pt a0),p 4 (O 16),p 7 (O 55),p 8 (I v18),p 42 (I (v6.length:Int)),p 43 (I v16),p 48 (B (decide (v18<0)))] [(16,A 3 i64 v17 0),(55,A 2 i64 v15 0)])<|cD H (fun H=>?_) (fun H=>?_)
   ·refine qA (Z [p 2 (nil),p 3 (B false)] [(16,A 3 i64 v17 0),(55,A 2 i64 v15 0)])<|vTT<|fR<|fDD<|t4<|t3<|fDD<|t2<|hr H
   refine vK<|fQ<|qB (Z [p 0 (D y92.pt a0),p 4 (O 16),p 7 (O 55),p 8 (I v18),p 42 (I (v6.length:Int)),p 43 (I v16)] [(16,A 3 i64 (v17.set v18.toNat (-1)) 0),(55,A 2 i64 v15 0)]) H fun H=>qB (Z [p 0 (D y92.pt a0),p 4 (O 16),p 7 (AV.os 55 1),p 8 (I v18),p 42 (I (v6.length:Int)),p 43 (I v16)] [(55,A 2 i64 (v15++[v18]) 1),(54,A 2 i64 [v18] 0),(16,A 3 i64 (v17.set v18.toNat (-1)) 0)]) H fun H=>qD (fun v19=>Z [p 0 (D y92.pt a0),p 4 (O 16),p 7 (AV.os 55 1),p 42 (I (v6.length:Int)),p 43 (I v16),p 58 (O 58),p 59 (I (v19.length:Int)),p 60 (I 0)] [(58,A 2 i64 v19 0),(55,A 2 i64 (v15++[v18]) 1),(54,A 2 i64 [v18] 0),(16,A 3 i64 (v17.set v18.toNat (-1)) 0)]) H fun v19 H=>vB<|lX (fun((v21,v22):Int×List Int)=>Z [p 0 (D y92.pt a0),p 4 (O 16),p 7 (O 55),p 42 (I (v6.length:Int)),p 43 (I v16),p 58 (O 58),p 59 (I (v19.length:Int)),p 60 (I v21)] [(58,A 2 i64 v19 0),(55,A 2 i64 (v15++[v18]) 0),(16,A 3 i64 v22 0)]) ((0,v17.set v18.toNat (-1))) H fun _ g5 b5 e5 t5 ⟨v21,v22⟩ H=>qA (Z [p 0 (D y92.pt a0),p 4 (O 16),p 7 (O 55),p 42 (I (v6.length:Int)),p 43 (I v16),p 58 (O 58),p 59 (I (v19.length:Int)),p 60 (I v21),p 61 (B (decide (v21 < (v19.length:Int))))] [(58,A 2 i64 v19 0),(55,A 2 i64 (v15++[v18]) 0),(16,A 3 i64 v22 0)])<|vQ<|cD H (fun H=>?_) (fun H=>?_)
   ·refine vK<|fQ<|vQ<|vB<|qB (Z [p 0 (D y92.pt a0),p 4 (O 16),p 7 (O 55),p 10 (I (v19.getD v21.toNat 0)),p 42 (I (v6.length:Int)),p 43 (I v16),p 58 (O 58),p 59 (I (v19.length:Int)),p 60 (I v21)] [(58,A 2 i64 v19 0),(55,A 2 i64 (v15++[v18]) 0),(16,A 3 i64 v22 0)]) H fun H=>zD (fun v23=>Z [p 0 (D y92.pt a0),p 4 (O 16),p 7 (O 55),p 42 (I (v6.length:Int)),p 43 (I v16),p 58 (O 58),p 59 (I (v19.length:Int)),p 60 (I v21)] [(16,A 3 i64 v23 0),(58,A 2 i64 v19 0),(55,A 2 i64 (v15++[v18]) 0)]) H fun v23 H=>fK<|fQ<|zB (Z [p 0 (D y92.pt a0),p 4 (O 16),p 7 (O 55),p 42 (I (v6.length:Int)),p 43 (I v16),p 58 (O 58),p 59 (I (v19.length:Int)),p 60 (I (v21+1))] [(16,A 3 i64 v23 0),(58,A 2 i64 v19 0),(55,A 2 i64 (v15++[v18]) 0)]) H fun H=>b5 H
   exact vE<|fE<|e5<|fX rfl<|fK<|n4 H
  exact vE<|fE<|e3<|fX rfl<|n2 H
 refine qD (fun v1=>Z [p 0 (D y92.pt a0),p 4 (O 16),p 18 (O 18),p 19 (I (v1.length:Int)),p 20 (I 0)] [(18,A 2 i64 v1 0),(16,A 3 i64 (List.replicate v0.toNat 0) 0)]) H fun v1 H=>vB<|lX (fun((v3,v4):Int×List Int)=>Z [p 0 (D y92.pt a0),p 4 (O 16),p 18 (O 18),p 19 (I (v1.length:Int)),p 20 (I v3)] [(18,A 2 i64 v1 0),(16,A 3 i64 v4 0)]) (0,List.replicate v0.toNat 0) H fun _ g1 b1 e1 t1 ⟨v3,v4⟩ H=>qA (Z [p 0 (D y92.pt a0),p 4 (O 16),p 18 (O 18),p 19 (I (v1.length:Int)),p 20 (I v3),p 21 (B (decide (v3 < (v1.length:Int))))] [(18,A 2 i64 v1 0),(16,A 3 i64 v4 0)])<|vQ<|cD H (fun H=>?_) (fun H=>?_)
 ·refine vK<|fQ<|vQ<|vB<|qB (Z [p 0 (D y92.pt a0),p 4 (O 16),p 6 (I (v1.getD v3.toNat 0)),p 18 (O 18),p 19 (I (v1.length:Int)),p 20 (I v3)] [(18,A 2 i64 v1 0),(16,A 3 i64 v4 0)]) H fun H=>zD (fun v5=>Z [p 0 (D y92.pt a0),p 4 (O 16),p 18 (O 18),p 19 (I (v1.length:Int)),p 20 (I v3)] [(16,A 3 i64 v5 0),(18,A 2 i64 v1 0)]) H fun v5 H=>fK<|fQ<|zB (Z [p 0 (D y92.pt a0),p 4 (O 16),p 18 (O 18),p 19 (I (v1.length:Int)),p 20 (I (v3+1))] [(16,A 3 i64 v5 0),(18,A 2 i64 v1 0)]) H fun H=>b1 H
 exact vE<|fE<|e1<|fX rfl<|n0 H
def u57(a0:Y92):Option (Bool) :=
 gd ((u101 a0).isSome=true/\True)<|lt (vl (u101 a0)) fun v0 =>
 some (!v0.2)
def k57:Ct:=lct 57 [.dat y92.pt] (fun x=>u57 x.1) (fun r:Bool=>B r) (fun _=>())
theorem o57:Ok prog k57:=by
 refine okL [.tmp 2] func57 ntmps57 results57 ?_;intro y ⟨a0,_⟩ r H Q hn hr;have:HT _ _:=⟨tc o101 tn⟩;refine qA (Z [p 0 (D y92.pt a0)] [])<|qD (fun v0=>Z [p 4 (B v0.2)] [(7,A 2 i64 v0.1 0)]) H fun v0 H=>qA (Z [p 2 (B !v0.2)] [(7,A 2 i64 v0.1 0)])<|vTT<|hr H
def u23J0:List Int->Option (List Int×Int)
 | v10 =>
 some ((v10,(0:Int)))
def u23J2(v5:Int)(g1:List Int×Int×List Bool->Option (List Int×Int)):List Bool×List Int->Option (List Int×Int)
 | (v8,v9) =>
 gd (in64 (v5+1)/\True) <|
 g1 (v9,v5+1,v8)
def u23L1(a1:List Int)(a0:Y46)(g1:List Int×Int×List Bool->Option (List Int×Int)):List Int×Int×List Bool->Option (List Int×Int)
 | (v4,v5,v6) =>
 if(decide (v5 < (a1.length:Int)))=true then
  gd (ix v5 a1.length/\True) <|
  gd (ix (a1.getD v5.toNat 0) v6.length/\Int.toNat (a1.getD v5.toNat 0)<v6.length/\True) <|
  gd ((u57 ((vR (u56 a0 a1)).1.1,v6.set (Int.toNat (a1.getD v5.toNat 0)) true)).isSome=true/\True) <|
  if(vl (u57 ((vR (u56 a0 a1)).1.1,v6.set (Int.toNat (a1.getD v5.toNat 0)) true)))=true then
   gd (ix (a1.getD v5.toNat 0) (v6.set (Int.toNat (a1.getD v5.toNat 0)) true).length/\Int.toNat (a1.getD v5.toNat 0) < (v6.set (Int.toNat (a1.getD v5.toNat 0)) true).length/\True)<|lt ((v6.set (Int.toNat (a1.getD v5.toNat 0)) true).set (Int.toNat (a1.getD v5.toNat 0)) false) fun v7 =>
   gd ((v4.length+[a1.getD v5.toNat 0].length<=9223372036854775807/\(v4.length+[a1.getD v5.toNat 0].length)*8<=140737488355328)/\True) <|
   u23J2 v5 g1 (v7,v4++[a1.getD v5.toNat 0])
  else
   u23J2 v5 g1 ((v6.set (Int.toNat (a1.getD v5.toNat 0)) true,v4))
 else
  u23J0 v4
def u23(a0:Y46)(a1:List Int):Option (List Int×Int) :=
 if(isL (u56 a0 a1))=true then
  gd (isL (u56 a0 a1)=true/\True) <|
  if(vL (u56 a0 a1) != 0)=true then
   some (([],vL (u56 a0 a1)))
  else
   none
 else
  gd (isR (u56 a0 a1)=true/\True) <|
  if((vR (u56 a0 a1)).2 != 0)=true then
   some (([],(vR (u56 a0 a1)).2))
  else
   gd ((u57 (vR (u56 a0 a1)).1).isSome=true/\True) <|
   if(vl (u57 (vR (u56 a0 a1)).1))=true then
    some (([],(7:Int)))
   else
    lp (u23L1 a1 a0) (([],0,(vR (u56 a0 a1)).1.2))
def k23:Ct:=lct 23 [.agg y46,.dat i64.sl] (fun x=>u23 x.1 x.2.1) (fun r:List Int×Int=>AV.tup [AV.ow 2 true i64 r.1,I r.2]) (fun _=>())
def u182(a0:Y107)(a1:Int):Option (Bool) :=
 some (a0.2.1==a1)
def k182:Ct:=lct 182 [.agg y107,.dat (.pt i64)] (fun x=>u182 x.1 x.2.1) (fun r:Bool=>B r) (fun _=>())
theorem o182:Ok prog k182:=by
 refine okL [.tmp 3] func182 ntmps182 results182 ?_;intro y ⟨a0,a1,_⟩ r H Q hn hr;have:HT _ _:=⟨@tn prog⟩;refine qA (Z [p 1 (D i64.pt a1),p 2 (R 2)] [(2,K 107 y107 a0)])<|qA (Z [p 3 (B (a0.2.1==a1))] [(2,K 107 y107 a0)])<|vTT<|hr H
def u126c182J0:List Int->Option (List Int)
 | v6 =>
 some v6
def u126c182J2(v3:Int)(g1:List Int×Int->Option (List Int)):List Int->Option (List Int)
 | v5 =>
 gd (in64 (v3+1)/\True) <|
 g1 (v5,v3+1)
def u126c182L1(a0:Y92)(a1:Int)(g1:List Int×Int->Option (List Int)):List Int×Int->Option (List Int)
 | (v2,v3) =>
 if(decide (v3 < (a0.1.2.2.1.length:Int)))=true then
  gd (ix v3 a0.1.2.2.1.length/\True)<|lt (a0.1.2.2.1.getD v3.toNat (dflt y107)) fun v4 =>
  gd (ix v3 a0.2.length/\(a0.2.getD v3.toNat false=true/\True->(u182 v4 a1).isSome=true)/\True) <|
  if(a0.2.getD v3.toNat false&&vl (u182 v4 a1))=true then
   gd ((v2.length+[v3].length<=9223372036854775807/\(v2.length+[v3].length)*8<=140737488355328)/\True) <|
   u126c182J2 v3 g1 (v2++[v3])
  else
   u126c182J2 v3 g1 v2
 else
  u126c182J0 v2
def u126c182(a0:Y92)(a1:Int):Option (List Int) :=
 lp (u126c182L1 a0 a1) ([],0)
def k126c182:Ct:=lct 126 [.dat y92.pt,.fn 182 (.pt i64)] (fun x=>u126c182 x.1 x.2.1) (fun r:List Int=>AV.ow 2 true i64 r) (fun _=>())
theorem o126c182:Ok prog k126c182:=by
 refine okL [.tmp 4] func126 ntmps126 results126 ?_;intro y ⟨a0,a1,_⟩ r H Q hn hr;have:HT _ _:=⟨tc o182 tn⟩;refine qA (Z [p 0 (D y92.pt a0),p 1 (AV.fn 182 [D i64.pt a1])] [])<|qA (Z [p 0 (D y92.pt a0),p 1 (AV.fn 182 [D i64.pt a1]),p 5 (nil)] [])<|jN r (fun(v6:List Int)=>Z [p 5 (O 36)] [(36,A 2 i64 v6 0)]) (u126c182J0) (fun v6 H=>?_) (fun _ n0 e0 t0=>?_)
 ·refine qA (Z [p 4 (O 36)] [(36,A 2 i64 v6 0)])<|vTT<|hr H
 refine qA (Z [p 0 (D y92.pt a0),p 1 (AV.fn 182 [D i64.pt a1]),p 5 (nil),p 14 (L y107 a0.1.2.2.1),p 15 (I (a0.1.2.2.1.length:Int)),p 16 (I 0)] [])<|vB<|lX (fun((v2,v3):List Int×Int)=>Z [p 0 (D y92.pt a0),p 1 (AV.fn 182 [D i64.pt a1]),p 5 (O 36),p 14 (L y107 a0.1.2.2.1),p 15 (I (a0.1.2.2.1.length:Int)),p 16 (I v3)] [(36,A 2 i64 v2 0)]) ([],0) H fun _ g1 b1 e1 t1 ⟨v2,v3⟩ H=>qA (Z [p 0 (D y92.pt a0),p 1 (AV.fn 182 [D i64.pt a1]),p 5 (O 36),p 14 (L y107 a0.1.2.2.1),p 15 (I (a0.1.2.2.1.length:Int)),p 16 (I v3),p 17 (B (decide (v3 < (a0.1.2.2.1.length:Int))))] [(36,A 2 i64 v2 0)])<|vQ<|cD H (fun H=>?_) (fun H=>?_)
 ·refine vK<|fQ<|jN r (fun(v5:List Int)=>Z [p 0 (D y92.pt a0),p 1 (AV.fn 182 [D i64.pt a1]),p 5 (O 36),p 14 (L y107 a0.1.2.2.1),p 15 (I (a0.1.2.2.1.length:Int)),p 16 (I v3)] [(36,A 2 i64 v5 0)]) (u126c182J2 v3 g1) (fun v5 H=>?_) (fun _ n2 e2 t2=>?_)
  ·refine zB (Z [p 0 (D y92.pt a0),p 1 (AV.fn 182 [D i64.pt a1]),p 5 (O 36),p 14 (L y107 a0.1.2.2.1),p 15 (I (a0.1.2.2.1.length:Int)),p 16 (I (v3+1))] [(36,A 2 i64 v5 0)]) H fun H=>b1 H
  refine vB<|qD (fun v4=>Z [p 0 (D y92.pt a0),p 1 (AV.fn 182 [D i64.pt a1]),p 5 (O 36),p 6 (I v3),p 7 (R 7),p 14 (L y107 a0.1.2.2.1),p 15 (I (a0.1.2.2.1.length:Int)),p 16 (I v3)] [(7,K 107 y107 v4),(36,A 2 i64 v2 0)]) H fun v4 H=>qB (Z [p 0 (D y92.pt a0),p 1 (AV.fn 182 [D i64.pt a1]),p 5 (O 36),p 6 (I v3),p 14 (L y107 a0.1.2.2.1),p 15 (I (a0.1.2.2.1.length:Int)),p 16 (I v3),p 32 (B (a0.2.getD v3.toNat false&&vl (u182 v4 a1)))] [(7,K 107 y107 v4),(36,A 2 i64 v2 0)]) H fun H=>cD H (fun H=>?_) (fun H=>?_)
  ·refine zB (Z [p 0 (D y92.pt a0),p 1 (AV.fn 182 [D i64.pt a1]),p 5 (AV.os 36 1),p 14 (L y107 a0.1.2.2.1),p 15 (I (a0.1.2.2.1.length:Int)),p 16 (I v3)] [(36,A 2 i64 (v2++[v3]) 1),(35,A 2 i64 [v3] 0),(7,K 107 y107 v4)]) H fun H=>fK<|n2 H
  exact vK<|fK<|n2 H
 exact vE<|fE<|e1<|fX rfl<|n0 H
def u114J0:Unit->Option (Bool)
 | _ =>
 some false
def u114L1(a1:List Bool)(a0:List Y107)(a2:Int)(g1:Int->Option (Bool)):Int->Option (Bool)
 | v0 =>
 if(decide (v0 < (a0.length:Int)))=true then
  gd (ix v0 a1.length/\(a1.getD v0.toNat false=true/\True->ix v0 a0.length)/\((a1.getD v0.toNat false&&(a0.getD v0.toNat (dflt y107)).1==a2)=true/\True->ix v0 a0.length)/\True) <|
  if(a1.getD v0.toNat false&&(a0.getD v0.toNat (dflt y107)).1==a2&&(a0.getD v0.toNat (dflt y107)).2.1==a2)=true then
   some true
  else
   gd (in64 (v0+1)/\True) <|
   g1 (v0+1)
 else
  u114J0 ()
def u114(a0:List Y107)(a1:List Bool)(a2:Int):Option (Bool) :=
 lp (u114L1 a1 a0 a2) 0
def k114:Ct:=lct 114 [.dat y107.sl,.dat Ty.bool.sl,.dat i64] (fun x=>u114 x.1 x.2.1 x.2.2.1) (fun r:Bool=>B r) (fun _=>())
theorem o114:Ok prog k114:=by
 refine okL [.tmp 6] func114 ntmps114 results114 ?_;intro y ⟨a0,a1,a2,_⟩ r H Q hn hr;have:HT _ _:=⟨@tn prog⟩;refine qA (Z [p 0 (L y107 a0),p 1 (L Ty.bool a1),p 2 (J a2)] [])<|jN r (fun(_:Unit)=>Z [] []) (u114J0) (fun _ H=>?_) (fun _ n0 e0 t0=>?_)
 ·refine qA (Z [p 6 (B false)] [])<|vTT<|hr H
 refine qA (Z [p 0 (L y107 a0),p 1 (L Ty.bool a1),p 2 (J a2),p 7 (I 0)] [])<|vB<|lX (fun(v0:Int)=>Z [p 0 (L y107 a0),p 1 (L Ty.bool a1),p 2 (J a2),p 7 (I v0)] []) 0 H fun _ g1 b1 e1 t1 v0 H=>vQ<|qA (Z [p 0 (L y107 a0),p 1 (L Ty.bool a1),p 2 (J a2),p 7 (I v0),p 11 (B (decide (v0 < (a0.length:Int))))] [])<|cD H (fun H=>?_) (fun H=>?_)
 ·refine vK<|fQ<|vQ<|vB<|qB (Z [p 0 (L y107 a0),p 1 (L Ty.bool a1),p 2 (J a2),p 7 (I v0),p 35 (B (a1.getD v0.toNat false&&(a0.getD v0.toNat (dflt y107)).1==a2&&(a0.getD v0.toNat (dflt y107)).2.1==a2))] []) H fun H=>cD H (fun H=>?_) (fun H=>?_)
  ·refine qA (Z [p 6 (B true)] [])<|vTT<|fDD<|fR<|t1<|fDD<|t0<|hr H
  refine vK<|fK<|fQ<|zB (Z [p 0 (L y107 a0),p 1 (L Ty.bool a1),p 2 (J a2),p 7 (I (v0+1))] []) H fun H=>b1 H
 exact vE<|fE<|e1<|fX rfl<|n0 H
def u64J0:List (List Int)->Option (List (List Int))
 | v30 =>
 some v30
def u64J2(v14:Int)(g1:Int×List Bool×List (List Int)->Option (List (List Int))):List Bool×List (List Int)->Option (List (List Int))
 | (v28,v29) =>
 gd (in64 (v14+1)/\True) <|
 g1 (v14+1,v28,v29)
def u64J3(v14:Int)(v16:List (List Int))(a1:List Y107)(a2:List Bool)(g1:Int×List Bool×List (List Int)->Option (List (List Int))):List Int×List Bool->Option (List (List Int))
 | (v26,v27) =>
 gd ((decide (1 < (v26.length:Int))=false/\True->(u114 a1 a2 v14).isSome=true)/\True) <|
 if(decide (1 < (v26.length:Int))||vl (u114 a1 a2 v14))=true then
  gd ((v16.length+[v26].length<=9223372036854775807/\(v16.length+[v26].length)*24<=140737488355328)/\True) <|
  u64J2 v14 g1 (v27,v16++[v26])
 else
  u64J2 v14 g1 (v27,v16)
def u64J5(v21:Int)(g4:Int×List Int×List Bool->Option (List (List Int))):List Bool×List Int->Option (List (List Int))
 | (v24,v25) =>
 gd (in64 (v21+1)/\True) <|
 g4 (v21+1,v25,v24)
def u64L4(v18:List Bool)(v17:List Bool)(v14:Int)(v16:List (List Int))(a1:List Y107)(a2:List Bool)(a0:Int)(g1:Int×List Bool×List (List Int)->Option (List (List Int)))(g4:Int×List Int×List Bool->Option (List (List Int))):Int×List Int×List Bool->Option (List (List Int))
 | (v21,v22,v23) =>
 if(decide (v21<a0))=true then
  gd (ix v21 v18.length/\v21.toNat<v18.length/\(v18.getD v21.toNat false=true/\True->ix v21 v17.length)/\(v18.getD v21.toNat false=true/\True->v21.toNat<v17.length)/\True) <|
  if(v18.getD v21.toNat false&&v17.getD v21.toNat false)=true then
   gd ((v22.length+[v21].length<=9223372036854775807/\(v22.length+[v21].length)*8<=140737488355328)/\True) <|
   gd (ix v21 v23.length/\v21.toNat<v23.length/\True) <|
   u64J5 v21 g4 (v23.set v21.toNat true,v22++[v21])
  else
   u64J5 v21 g4 (v23,v22)
 else
  u64J3 v14 v16 a1 a2 g1 (v22,v23)
def u64L1(a1:List Y107)(a2:List Bool)(a0:Int)(g1:Int×List Bool×List (List Int)->Option (List (List Int))):Int×List Bool×List (List Int)->Option (List (List Int))
 | (v14,v15,v16) =>
 if(decide (v14<a0))=true then
  gd (ix v14 v15.length/\v14.toNat<v15.length/\True) <|
  if(v15.getD v14.toNat false)=true then
   u64J2 v14 g1 (v15,v16)
  else
   gd ((u79 a0 a1 a2 v14 true).isSome=true/\(u79 a0 a1 a2 v14 false).isSome=true/\True)<|lt ((vl (u79 a0 a1 a2 v14 false),vl (u79 a0 a1 a2 v14 true))) fun(v17,v18) =>
   lp (u64L4 v18 v17 v14 v16 a1 a2 a0 g1) (0,[],v15)
 else
  u64J0 v16
def u64(a0:Int)(a1:List Y107)(a2:List Bool):Option (List (List Int)) :=
 gd ((0<=a0/\a0=a0/\a0.toNat*1<=281474976710656/\a0<=9223372036854775807)/\True) <|
 lp (u64L1 a1 a2 a0) (0,List.replicate a0.toNat false,[])
def k64:Ct:=lct 64 [.dat i64,.dat y107.sl,.dat Ty.bool.sl] (fun x=>u64 x.1 x.2.1 x.2.2.1) (fun r:List (List Int)=>AV.ow 33 true i64.sl r) (fun _=>())
theorem o64:Ok prog k64:=by
 refine okL [.tmp 6] func64 ntmps64 results64 ?_;intro y ⟨a0,a1,a2,_⟩ r H Q hn hr;have:HT _ _:=⟨tc o114 (tc o79 tn)⟩;refine qA (Z [p 0 (J a0),p 1 (L y107 a1),p 2 (L Ty.bool a2)] [])<|qA (Z [p 0 (J a0),p 1 (L y107 a1),p 2 (L Ty.bool a2),p 7 (O 14)] [(14,A 33 i64.sl [] 0)])<|qB (Z [p 0 (J a0),p 1 (L y107 a1),p 2 (L Ty.bool a2),p 7 (O 14),p 8 (O 16)] [(16,A 4 Ty.bool (List.replicate a0.toNat false) 0),(14,A 33 i64.sl [] 0)]) H fun H=>jN r (fun(v30:List (List Int))=>Z [p 7 (O 14)] [(14,A 33 i64.sl v30 0)]) (u64J0) (fun v30 H=>?_) (fun _ n0 e0 t0=>?_)
 ·refine qA (Z [p 6 (O 14)] [(14,A 33 i64.sl v30 0)])<|vTT<|hr H
 refine qA (Z [p 0 (J a0),p 1 (L y107 a1),p 2 (L Ty.bool a2),p 7 (O 14),p 8 (O 16),p 9 (I 0)] [(16,A 4 Ty.bool (List.replicate a0.toNat false) 0),(14,A 33 i64.sl [] 0)])<|vB<|lX (fun((v14,v15,v16):Int×List Bool×List (List Int))=>Z [p 0 (J a0),p 1 (L y107 a1),p 2 (L Ty.bool a2),p 7 (O 14),p 8 (O 16),p 9 (I v14)] [(16,A 4 Ty.bool v15 0),(14,A 33 i64.sl v16 0)]) (0,List.replicate a0.toNat false,[]) H fun _ g1 b1 e1 t1 ⟨v14,v15,v16⟩ H=>vQ<|qA (Z [p 0 (J a0),p 1 (L y107 a1),p 2 (L Ty.bool a2),p 7 (O 14),p 8 (O 16),p 9 (I v14),p 19 (B (decide (v14<a0)))] [(16,A 4 Ty.bool v15 0),(14,A 33 i64.sl v16 0)])<|cD H (fun H=>?_) (fun H=>?_)
 ·refine vK<|fQ<|jN r (fun((v28,v29):List Bool×List (List Int))=>Z [p 0 (J a0),p 1 (L y107 a1),p 2 (L Ty.bool a2),p 7 (O 14),p 8 (O 16),p 9 (I v14)] [(16,A 4 Ty.bool v28 0),(14,A 33 i64.sl v29 0)]) (u64J2 v14 g1) (fun⟨v28,v29⟩ H=>?_) (fun _ n2 e2 t2=>?_)
  ·refine zB (Z [p 0 (J a0),p 1 (L y107 a1),p 2 (L Ty.bool a2),p 7 (O 14),p 8 (O 16),p 9 (I (v14+1))] [(16,A 4 Ty.bool v28 0),(14,A 33 i64.sl v29 0)]) H fun H=>b1 H
  refine vB<|vQ<|qB (Z [p 0 (J a0),p 1 (L y107 a1),p 2 (L Ty.bool a2),p 7 (O 14),p 8 (O 16),p 9 (I v14),p 25 (B (v15.getD v14.toNat false))] [(16,A 4 Ty.bool v15 0),(14,A 33 i64.sl v16 0)]) H fun H=>cD H (fun H=>?_) (fun H=>?_)
  ·exact vE<|fE<|fX rfl<|n2 H
  refine vK<|fQ<|qD (fun(v17,v18)=>Z [p 0 (J a0),p 1 (L y107 a1),p 2 (L Ty.bool a2),p 7 (O 14),p 8 (O 16),p 9 (I v14),p 10 (O 30),p 11 (O 35)] [(35,A 4 Ty.bool v17 0),(30,A 4 Ty.bool v18 0),(16,A 4 Ty.bool v15 0),(14,A 33 i64.sl v16 0)]) H fun w H=>?_
  obtain⟨v17,v18⟩:=w;refine qA (Z [p 0 (J a0),p 1 (L y107 a1),p 2 (L Ty.bool a2),p 7 (O 14),p 8 (O 16),p 9 (I v14),p 10 (O 30),p 11 (O 35),p 12 (O 36)] [(36,A 2 i64 [] 0),(35,A 4 Ty.bool v17 0),(30,A 4 Ty.bool v18 0),(16,A 4 Ty.bool v15 0),(14,A 33 i64.sl v16 0)])<|jN r (fun((v26,v27):List Int×List Bool)=>Z [p 0 (J a0),p 1 (L y107 a1),p 2 (L Ty.bool a2),p 7 (O 14),p 8 (O 16),p 9 (I v14),p 12 (O 36)] [(36,A 2 i64 v26 0),(16,A 4 Ty.bool v27 0),(14,A 33 i64.sl v16 0)]) (u64J3 v14 v16 a1 a2 g1) (fun⟨v26,v27⟩ H=>?_) (fun _ n3 e3 t3=>?_)
  ·refine qB (Z [p 0 (J a0),p 1 (L y107 a1),p 2 (L Ty.bool a2),p 7 (O 14),p 8 (O 16),p 9 (I v14),p 12 (O 36),p 67 (B (decide (1 < (v26.length:Int))||vl (u114 a1 a2 v14)))] [(36,A 2 i64 v26 0),(16,A 4 Ty.bool v27 0),(14,A 33 i64.sl v16 0)]) H fun H=>cD H (fun H=>?_) (fun H=>?_)
   ·refine fZ 36 (Z [p 0 (J a0),p 1 (L y107 a1),p 2 (L Ty.bool a2),p 7 (O 14),p 8 (O 16),p 9 (I v14),p 12 (M i64 v26),p 67 (B (decide (1 < (v26.length:Int))||vl (u114 a1 a2 v14)))] [(16,A 4 Ty.bool v27 0),(14,A 33 i64.sl v16 0)])<|zB (Z [p 0 (J a0),p 1 (L y107 a1),p 2 (L Ty.bool a2),p 7 (AV.os 14 1),p 8 (O 16),p 9 (I v14)] [(14,A 33 i64.sl (v16++[v26]) 1),(70,A 33 i64.sl [v26] 0),(16,A 4 Ty.bool v27 0)]) H fun H=>fK<|n2 H
   exact vK<|fK<|n2 H
  refine qA (Z [p 0 (J a0),p 1 (L y107 a1),p 2 (L Ty.bool a2),p 7 (O 14),p 8 (O 16),p 9 (I v14),p 10 (O 30),p 11 (O 35),p 12 (O 36),p 13 (I 0)] [(36,A 2 i64 [] 0),(35,A 4 Ty.bool v17 0),(30,A 4 Ty.bool v18 0),(16,A 4 Ty.bool v15 0),(14,A 33 i64.sl v16 0)])<|vB<|lX (fun((v21,v22,v23):Int×List Int×List Bool)=>Z [p 0 (J a0),p 1 (L y107 a1),p 2 (L Ty.bool a2),p 7 (O 14),p 8 (O 16),p 9 (I v14),p 10 (O 30),p 11 (O 35),p 12 (O 36),p 13 (I v21)] [(36,A 2 i64 v22 0),(35,A 4 Ty.bool v17 0),(30,A 4 Ty.bool v18 0),(16,A 4 Ty.bool v23 0),(14,A 33 i64.sl v16 0)]) (0,[],v15) H fun _ g4 b4 e4 t4 ⟨v21,v22,v23⟩ H=>vQ<|qA (Z [p 0 (J a0),p 1 (L y107 a1),p 2 (L Ty.bool a2),p 7 (O 14),p 8 (O 16),p 9 (I v14),p 10 (O 30),p 11 (O 35),p 12 (O 36),p 13 (I v21),p 39 (B (decide (v21<a0)))] [(36,A 2 i64 v22 0),(35,A 4 Ty.bool v17 0),(30,A 4 Ty.bool v18 0),(16,A 4 Ty.bool v23 0),(14,A 33 i64.sl v16 0)])<|cD H (fun H=>?_) (fun H=>?_)
  ·refine vK<|fQ<|jN r (fun((v24,v25):List Bool×List Int)=>Z [p 0 (J a0),p 1 (L y107 a1),p 2 (L Ty.bool a2),p 7 (O 14),p 8 (O 16),p 9 (I v14),p 10 (O 30),p 11 (O 35),p 12 (O 36),p 13 (I v21)] [(16,A 4 Ty.bool v24 0),(36,A 2 i64 v25 0),(35,A 4 Ty.bool v17 0),(30,A 4 Ty.bool v18 0),(14,A 33 i64.sl v16 0)]) (u64J5 v21 g4) (fun⟨v24,v25⟩ H=>?_) (fun _ n5 e5 t5=>?_)
   ·refine zB (Z [p 0 (J a0),p 1 (L y107 a1),p 2 (L Ty.bool a2),p 7 (O 14),p 8 (O 16),p 9 (I v14),p 10 (O 30),p 11 (O 35),p 12 (O 36),p 13 (I (v21+1))] [(16,A 4 Ty.bool v24 0),(36,A 2 i64 v25 0),(35,A 4 Ty.bool v17 0),(30,A 4 Ty.bool v18 0),(14,A 33 i64.sl v16 0)]) H fun H=>b4 H
   refine vB<|qB (Z [p 0 (J a0),p 1 (L y107 a1),p 2 (L Ty.bool a2),p 7 (O 14),p 8 (O 16),p 9 (I v14),p 10 (O 30),p 11 (O 35),p 12 (O 36),p 13 (I v21),p 51 (B (v18.getD v21.toNat false&&v17.getD v21.toNat false))] [(36,A 2 i64 v22 0),(35,A 4 Ty.bool v17 0),(30,A 4 Ty.bool v18 0),(16,A 4 Ty.bool v23 0),(14,A 33 i64.sl v16 0)]) H fun H=>cD H (fun H=>?_) (fun H=>?_)
   ·refine qB (Z [p 0 (J a0),p 1 (L y107 a1),p 2 (L Ty.bool a2),p 7 (O 14),p 8 (O 16),p 9 (I v14),p 10 (O 30),p 11 (O 35),p 12 (AV.os 36 1),p 13 (I v21)] [(36,A 2 i64 (v22++[v21]) 1),(54,A 2 i64 [v21] 0),(35,A 4 Ty.bool v17 0),(30,A 4 Ty.bool v18 0),(16,A 4 Ty.bool v23 0),(14,A 33 i64.sl v16 0)]) H fun H=>zB (Z [p 0 (J a0),p 1 (L y107 a1),p 2 (L Ty.bool a2),p 7 (O 14),p 8 (O 16),p 9 (I v14),p 10 (O 30),p 11 (O 35),p 12 (AV.os 36 1),p 13 (I v21)] [(16,A 4 Ty.bool (v23.set v21.toNat true) 0),(36,A 2 i64 (v22++[v21]) 1),(54,A 2 i64 [v21] 0),(35,A 4 Ty.bool v17 0),(30,A 4 Ty.bool v18 0),(14,A 33 i64.sl v16 0)]) H fun H=>fK<|n5 H
   exact vK<|fK<|n5 H
  exact vE<|fE<|e4<|fX rfl<|n3 H
 exact vE<|fE<|e1<|fX rfl<|n0 H
def u153(a0:Y107)(a1:Int):Option (Bool) :=
 some (a0.1==a1&&a0.2.1==a1)
def k153:Ct:=lct 153 [.agg y107,.dat (.pt i64)] (fun x=>u153 x.1 x.2.1) (fun r:Bool=>B r) (fun _=>())
theorem o153:Ok prog k153:=by
 refine okL [.tmp 3] func153 ntmps153 results153 ?_;intro y ⟨a0,a1,_⟩ r H Q hn hr;have:HT _ _:=⟨@tn prog⟩;refine qA (Z [p 1 (D i64.pt a1),p 2 (R 2)] [(2,K 107 y107 a0)])<|qA (Z [p 3 (B (a0.1==a1&&a0.2.1==a1))] [(2,K 107 y107 a0)])<|vTT<|hr H
def u126c153J0:List Int->Option (List Int)
 | v6 =>
 some v6
def u126c153J2(v3:Int)(g1:List Int×Int->Option (List Int)):List Int->Option (List Int)
 | v5 =>
 gd (in64 (v3+1)/\True) <|
 g1 (v5,v3+1)
def u126c153L1(a0:Y92)(a1:Int)(g1:List Int×Int->Option (List Int)):List Int×Int->Option (List Int)
 | (v2,v3) =>
 if(decide (v3 < (a0.1.2.2.1.length:Int)))=true then
  gd (ix v3 a0.1.2.2.1.length/\True)<|lt (a0.1.2.2.1.getD v3.toNat (dflt y107)) fun v4 =>
  gd (ix v3 a0.2.length/\(a0.2.getD v3.toNat false=true/\True->(u153 v4 a1).isSome=true)/\True) <|
  if(a0.2.getD v3.toNat false&&vl (u153 v4 a1))=true then
   gd ((v2.length+[v3].length<=9223372036854775807/\(v2.length+[v3].length)*8<=140737488355328)/\True) <|
   u126c153J2 v3 g1 (v2++[v3])
  else
   u126c153J2 v3 g1 v2
 else
  u126c153J0 v2
def u126c153(a0:Y92)(a1:Int):Option (List Int) :=
 lp (u126c153L1 a0 a1) ([],0)
def k126c153:Ct:=lct 126 [.dat y92.pt,.fn 153 (.pt i64)] (fun x=>u126c153 x.1 x.2.1) (fun r:List Int=>AV.ow 2 true i64 r) (fun _=>())
theorem o126c153:Ok prog k126c153:=by
 refine okL [.tmp 4] func126 ntmps126 results126 ?_;intro y ⟨a0,a1,_⟩ r H Q hn hr;have:HT _ _:=⟨tc o153 tn⟩;refine qA (Z [p 0 (D y92.pt a0),p 1 (AV.fn 153 [D i64.pt a1])] [])<|qA (Z [p 0 (D y92.pt a0),p 1 (AV.fn 153 [D i64.pt a1]),p 5 (nil)] [])<|jN r (fun(v6:List Int)=>Z [p 5 (O 36)] [(36,A 2 i64 v6 0)]) (u126c153J0) (fun v6 H=>?_) (fun _ n0 e0 t0=>?_)
 ·refine qA (Z [p 4 (O 36)] [(36,A 2 i64 v6 0)])<|vTT<|hr H
 refine qA (Z [p 0 (D y92.pt a0),p 1 (AV.fn 153 [D i64.pt a1]),p 5 (nil),p 14 (L y107 a0.1.2.2.1),p 15 (I (a0.1.2.2.1.length:Int)),p 16 (I 0)] [])<|vB<|lX (fun((v2,v3):List Int×Int)=>Z [p 0 (D y92.pt a0),p 1 (AV.fn 153 [D i64.pt a1]),p 5 (O 36),p 14 (L y107 a0.1.2.2.1),p 15 (I (a0.1.2.2.1.length:Int)),p 16 (I v3)] [(36,A 2 i64 v2 0)]) ([],0) H fun _ g1 b1 e1 t1 ⟨v2,v3⟩ H=>qA (Z [p 0 (D y92.pt a0),p 1 (AV.fn 153 [D i64.pt a1]),p 5 (O 36),p 14 (L y107 a0.1.2.2.1),p 15 (I (a0.1.2.2.1.length:Int)),p 16 (I v3),p 17 (B (decide (v3 < (a0.1.2.2.1.length:Int))))] [(36,A 2 i64 v2 0)])<|vQ<|cD H (fun H=>?_) (fun H=>?_)
 ·refine vK<|fQ<|jN r (fun(v5:List Int)=>Z [p 0 (D y92.pt a0),p 1 (AV.fn 153 [D i64.pt a1]),p 5 (O 36),p 14 (L y107 a0.1.2.2.1),p 15 (I (a0.1.2.2.1.length:Int)),p 16 (I v3)] [(36,A 2 i64 v5 0)]) (u126c153J2 v3 g1) (fun v5 H=>?_) (fun _ n2 e2 t2=>?_)
  ·refine zB (Z [p 0 (D y92.pt a0),p 1 (AV.fn 153 [D i64.pt a1]),p 5 (O 36),p 14 (L y107 a0.1.2.2.1),p 15 (I (a0.1.2.2.1.length:Int)),p 16 (I (v3+1))] [(36,A 2 i64 v5 0)]) H fun H=>b1 H
  refine vB<|qD (fun v4=>Z [p 0 (D y92.pt a0),p 1 (AV.fn 153 [D i64.pt a1]),p 5 (O 36),p 6 (I v3),p 7 (R 7),p 14 (L y107 a0.1.2.2.1),p 15 (I (a0.1.2.2.1.length:Int)),p 16 (I v3)] [(7,K 107 y107 v4),(36,A 2 i64 v2 0)]) H fun v4 H=>qB (Z [p 0 (D y92.pt a0),p 1 (AV.fn 153 [D i64.pt a1]),p 5 (O 36),p 6 (I v3),p 14 (L y107 a0.1.2.2.1),p 15 (I (a0.1.2.2.1.length:Int)),p 16 (I v3),p 32 (B (a0.2.getD v3.toNat false&&vl (u153 v4 a1)))] [(7,K 107 y107 v4),(36,A 2 i64 v2 0)]) H fun H=>cD H (fun H=>?_) (fun H=>?_)
  ·refine zB (Z [p 0 (D y92.pt a0),p 1 (AV.fn 153 [D i64.pt a1]),p 5 (AV.os 36 1),p 14 (L y107 a0.1.2.2.1),p 15 (I (a0.1.2.2.1.length:Int)),p 16 (I v3)] [(36,A 2 i64 (v2++[v3]) 1),(35,A 2 i64 [v3] 0),(7,K 107 y107 v4)]) H fun H=>fK<|n2 H
  exact vK<|fK<|n2 H
 exact vE<|fE<|e1<|fX rfl<|n0 H
def u115(a0:Y92)(a1:Int):Option (Bool) :=
 gd ((u126c153 a0 a1).isSome=true/\True)<|lt (vl (u126c153 a0 a1)) fun v0 =>
 some (decide (0 < (v0.length:Int)))
def k115:Ct:=lct 115 [.dat y92.pt,.dat i64] (fun x=>u115 x.1 x.2.1) (fun r:Bool=>B r) (fun _=>())
theorem o115:Ok prog k115:=by
 refine okL [.tmp 4] func115 ntmps115 results115 ?_;intro y ⟨a0,a1,_⟩ r H Q hn hr;have:HT _ _:=⟨tc o126c152 (tc o126c149 (tc o126c182 (tc o126c153 (tc o153 tn))))⟩;refine qA (Z [p 0 (D y92.pt a0),p 3 (R 3)] [(3,Ob.box 2 [J a1])])<|qD (fun v0=>Z [p 4 (B (decide (0 < (v0.length:Int))))] [(7,A 2 i64 v0 0),(3,Ob.box 2 [J a1])]) H fun v0 H=>vTT<|hr H
def u158(a0:List Y148)(a1:Y43)(a2:Y204):Option (ByteArray) :=
 if(decide (a2.1<0))=true then
  gd (ix a2.2.1 a1.2.2.length/\True)<|lt (a1.2.2.getD a2.2.1.toNat (dflt y190)) fun v0 =>
  some v0.1
 else
  gd (ix a2.1 a1.1.length/\True)<|lt (a1.1.getD a2.1.toNat (dflt y150)) fun v1 =>
  gd (v1.1.size+(ByteArray.mk #[47]).size<=9223372036854775807/\ix v1.2.1 a0.length/\ix a2.2.1 (a0.getD v1.2.1.toNat (dflt y148)).2.2.1.length/\(v1.1++ByteArray.mk #[47]).size+((a0.getD v1.2.1.toNat (dflt y148)).2.2.1.getD a2.2.1.toNat (dflt y222)).1.size<=9223372036854775807/\True)<|lt (v1.1++ByteArray.mk #[47]++((a0.getD v1.2.1.toNat (dflt y148)).2.2.1.getD a2.2.1.toNat (dflt y222)).1) fun v2 =>
  some v2
def k158:Ct:=lct 158 [.agg y148.sl,.agg y43,.agg y204] (fun x=>u158 x.1 x.2.1 x.2.2.1) (fun r:ByteArray=>S r) (fun _=>())
theorem o158:Ok prog k158:=by
 refine okL [.tmp 6] func158 ntmps158 results158 ?_;intro y ⟨a0,a1,a2,_⟩ r H Q hn hr;have:HT _ _:=⟨@tn prog⟩;refine qA (Z [p 3 (R 3),p 4 (R 4),p 5 (R 5)] [(5,K 204 y204 a2),(4,K 43 y43 a1),(3,Ob.box 39 [L y148 a0])])<|vQ<|qA (Z [p 3 (R 3),p 4 (R 4),p 5 (R 5),p 10 (B (decide (a2.1<0)))] [(5,K 204 y204 a2),(4,K 43 y43 a1),(3,Ob.box 39 [L y148 a0])])<|cD H (fun H=>?_) (fun H=>?_)
 ·refine qD (fun v0=>Z [p 6 (U v0.1)] [(5,K 204 y204 a2),(4,K 43 y43 a1),(3,Ob.box 39 [L y148 a0])]) H fun v0 H=>vTT<|fR<|hr H
 refine vK<|fQ<|qD (fun v1=>Z [p 3 (R 3),p 5 (R 5),p 7 (R 7)] [(7,K 150 y150 v1),(5,K 204 y204 a2),(4,K 43 y43 a1),(3,Ob.box 39 [L y148 a0])]) H fun v1 H=>qD (fun v2=>Z [p 6 (S v2)] [(7,K 150 y150 v1),(5,K 204 y204 a2),(4,K 43 y43 a1),(3,Ob.box 39 [L y148 a0])]) H fun v2 H=>vTT<|hr H
def u157(a0:List Y148)(a1:Y43)(a2:Int):Option (Y204×Bool) :=
 gd ((u116 a0 a1).isSome=true/\True) <|
 if(!vl (u116 a0 a1))=true then
  some ((((0:Int),(0:Int),(0:Int),false),false))
 else
  gd ((u109 a1).isSome=true/\True)<|lt (vl (u109 a1)) fun v0 =>
  gd (in64 ((v0.length:Int)-1)/\(u102 a2 0 ((v0.length:Int)-1)).isSome=true/\True) <|
  if(!vl (u102 a2 0 ((v0.length:Int)-1)))=true then
   some ((((0:Int),(0:Int),(0:Int),false),false))
  else
   gd (ix a2 v0.length/\a2.toNat<v0.length/\True)<|lt (v0.getD a2.toNat (dflt y204)) fun v1 =>
   some (v1,true)
def k157:Ct:=lct 157 [.agg y148.sl,.agg y43,.dat i64] (fun x=>u157 x.1 x.2.1 x.2.2.1) (fun r:Y204×Bool=>AV.tup [AV.agg [I r.1.1,I r.1.2.1,I r.1.2.2.1,B r.1.2.2.2],B r.2]) (fun _=>())
theorem o157:Ok prog k157:=by
 refine okL [.cell 6 204,.tmp 7] func157 ntmps157 results157 ?_;intro y ⟨a0,a1,a2,_⟩ r H Q hn hr;have:HT _ _:=⟨tc o102 (tc o109 (tc o116 tn))⟩;refine qA (Z [p 2 (J a2),p 3 (R 3),p 4 (R 4),p 6 (R 6)] [(6,Ob.box 204 [I 0,I 0,I 0,B false]),(4,K 43 y43 a1),(3,Ob.box 39 [L y148 a0])])<|vQ<|qB (Z [p 2 (J a2),p 4 (R 4),p 6 (R 6),p 12 (B !vl (u116 a0 a1))] [(6,Ob.box 204 [I 0,I 0,I 0,B false]),(4,K 43 y43 a1),(3,Ob.box 39 [L y148 a0])]) H fun H=>cD H (fun H=>?_) (fun H=>?_)
 ·refine qA (Z [p 6 (R 6),p 7 (B false)] [(6,Ob.box 204 [I 0,I 0,I 0,B false]),(4,K 43 y43 a1),(3,Ob.box 39 [L y148 a0])])<|vTT<|fR<|hr H
 refine vK<|fQ<|qD (fun v0=>Z [p 2 (J a2),p 6 (R 6),p 8 (O 15)] [(15,A 204 y204 v0 0),(6,Ob.box 204 [I 0,I 0,I 0,B false]),(4,K 43 y43 a1),(3,Ob.box 39 [L y148 a0])]) H fun v0 H=>vQ<|qB (Z [p 2 (J a2),p 6 (R 6),p 8 (O 15),p 21 (B !vl (u102 a2 0 ((v0.length:Int)-1)))] [(15,A 204 y204 v0 0),(6,Ob.box 204 [I 0,I 0,I 0,B false]),(4,K 43 y43 a1),(3,Ob.box 39 [L y148 a0])]) H fun H=>cD H (fun H=>?_) (fun H=>?_)
 ·refine qA (Z [p 6 (R 6),p 7 (B false)] [(6,Ob.box 204 [I 0,I 0,I 0,B false]),(15,A 204 y204 v0 0),(4,K 43 y43 a1),(3,Ob.box 39 [L y148 a0])])<|vTT<|fR<|hr H
 refine vK<|fQ<|qD (fun v1=>Z [p 6 (R 6),p 7 (B true)] [(6,Ob.box 204 (cellsD true y204 v1)),(15,A 204 y204 v0 0),(4,K 43 y43 a1),(3,Ob.box 39 [L y148 a0])]) H fun v1 H=>vTT<|hr H
def u118(a0:List Y148)(a1:Y43)(a2:Int):Option (ByteArray) :=
 gd ((u157 a0 a1 a2).isSome=true/\True)<|lt (vl (u157 a0 a1 a2)) fun v0 =>
 if(!v0.2)=true then
  some (ByteArray.mk #[])
 else
  gd ((u158 a0 a1 v0.1).isSome=true/\True)<|lt (vl (u158 a0 a1 v0.1)) fun v1 =>
  some v1
def k118:Ct:=lct 118 [.agg y148.sl,.agg y43,.dat i64] (fun x=>u118 x.1 x.2.1 x.2.2.1) (fun r:ByteArray=>S r) (fun _=>())
theorem o118:Ok prog k118:=by
 refine okL [.tmp 6] func118 ntmps118 results118 ?_;intro y ⟨a0,a1,a2,_⟩ r H Q hn hr;have:HT _ _:=⟨tc o158 (tc o157 tn)⟩;refine qA (Z [p 2 (J a2),p 3 (R 3),p 4 (R 4)] [(4,K 43 y43 a1),(3,Ob.box 39 [L y148 a0])])<|qD (fun v0=>Z [p 3 (R 3),p 4 (R 4),p 7 (R 7),p 8 (B v0.2)] [(7,Ob.box 204 (cellsD true y204 v0.1)),(4,K 43 y43 a1),(3,Ob.box 39 [L y148 a0])]) H fun v0 H=>vQ<|qA (Z [p 3 (R 3),p 4 (R 4),p 7 (R 7),p 17 (B !v0.2)] [(7,Ob.box 204 (cellsD true y204 v0.1)),(4,K 43 y43 a1),(3,Ob.box 39 [L y148 a0])])<|cD H (fun H=>?_) (fun H=>?_)
 ·refine qA (Z [p 6 (S (ByteArray.mk #[]))] [(7,Ob.box 204 (cellsD true y204 v0.1)),(4,K 43 y43 a1),(3,Ob.box 39 [L y148 a0])])<|vTT<|fR<|hr H
 refine vK<|fQ<|qD (fun v1=>Z [p 6 (S v1)] [(7,Ob.box 204 (cellsD true y204 v0.1)),(4,K 43 y43 a1),(3,Ob.box 39 [L y148 a0])]) H fun v1 H=>vTT<|hr H
def u68(a0:Y46)(a1:Int):Option (ByteArray) :=
 gd ((u66 a0).isSome=true/\((!vl (u66 a0))=false/\True->(u61 a0).isSome=true)/\((!vl (u66 a0))=false/\True->in64 (vl (u61 a0)-1))/\((!vl (u66 a0))=false/\True->(u102 a1 0 (vl (u61 a0)-1)).isSome=true)/\True) <|
 if(!vl (u66 a0)||!vl (u102 a1 0 (vl (u61 a0)-1)))=true then
  some (ByteArray.mk #[])
 else
  gd ((0:Int) < (2:Int)/\(u118 a0.1 a0.2.1 (a1.tdiv (2:Int))).isSome=true/\(0:Int) < (2:Int)/\ix (a1.tmod (2:Int)) [ByteArray.mk #[(58:UInt8),(114:UInt8)],ByteArray.mk #[(58:UInt8),(102:UInt8)]].length/\(a1.tmod (2:Int)).toNat<[ByteArray.mk #[(58:UInt8),(114:UInt8)],ByteArray.mk #[(58:UInt8),(102:UInt8)]].length/\(vl (u118 a0.1 a0.2.1 (a1.tdiv (2:Int)))).size+ByteArray.size ([ByteArray.mk #[(58:UInt8),(114:UInt8)],ByteArray.mk #[(58:UInt8),(102:UInt8)]].getD (a1.tmod (2:Int)).toNat (dflt Ty.str))<=9223372036854775807/\True)<|lt ((vl (u118 a0.1 a0.2.1 (a1.tdiv 2)),vl (u118 a0.1 a0.2.1 (a1.tdiv 2))++[ByteArray.mk #[58,114],ByteArray.mk #[58,102]].getD (a1.tmod 2).toNat (dflt Ty.str))) fun(v0,v1) =>
  some v1
def k68:Ct:=lct 68 [.agg y46,.dat i64] (fun x=>u68 x.1 x.2.1) (fun r:ByteArray=>S r) (fun _=>())
theorem o68:Ok prog k68:=by
 refine okL [.tmp 4] func68 ntmps68 results68 ?_;intro y ⟨a0,a1,_⟩ r H Q hn hr;have:HT _ _:=⟨tc o118 (tc o102 (tc o61 (tc o66 tn)))⟩;refine qA (Z [p 1 (J a1),p 2 (R 2)] [(2,K 46 y46 a0)])<|vQ<|qB (Z [p 1 (J a1),p 2 (R 2),p 15 (B (!vl (u66 a0)||!vl (u102 a1 0 (vl (u61 a0)-1))))] [(2,K 46 y46 a0)]) H fun H=>cD H (fun H=>?_) (fun H=>?_)
 ·refine qA (Z [p 4 (S (ByteArray.mk #[]))] [(2,K 46 y46 a0)])<|vTT<|fR<|hr H
 refine vK<|fQ<|qD (fun(v0,v1)=>Z [p 4 (S v1)] [(23,A 9 Ty.str [ByteArray.mk #[58,114],ByteArray.mk #[58,102]] 0),(2,K 46 y46 a0)]) H fun⟨v0,v1⟩ H =>
  vTT<|hr H
def u67J5:List Int->Option (List Int)
 | v23 =>
 some v23
def u67J7(v20:Int)(g6:Int×List Int->Option (List Int)):List Int->Option (List Int)
 | v22 =>
 gd (in64 (v20+1)/\True) <|
 g6 (v20+1,v22)
def u67L6(v18:List Bool)(g6:Int×List Int->Option (List Int)):Int×List Int->Option (List Int)
 | (v20,v21) =>
 if(decide (v20 < (v18.length:Int)))=true then
  gd (ix v20 v18.length/\v20.toNat<v18.length/\True) <|
  if(!v18.getD v20.toNat false)=true then
   gd ((v21.length+[v20].length<=9223372036854775807/\(v21.length+[v20].length)*8<=140737488355328)/\True) <|
   u67J7 v20 g6 (v21++[v20])
  else
   u67J7 v20 g6 v21
 else
  u67J5 v21
def u67J0:List Bool->Option (List Int)
 | v18 =>
 lp (u67L6 v18) (0,[])
def u67J2(v10:List Bool)(g1:List Bool->Option (List Int)):Int->Option (List Int)
 | v17 =>
 gd (ix v17 v10.length/\v17.toNat<v10.length/\True) <|
 g1 (v10.set v17.toNat false)
def u67J4(v15:Int)(g3:Int×Int->Option (List Int)):Int->Option (List Int)
 | v16 =>
 gd (in64 (v15+1)/\True) <|
 g3 (v16,v15+1)
def u67L3(v10:List Bool)(v0:List Y107)(v11:List (List Int))(g1:List Bool->Option (List Int))(g3:Int×Int->Option (List Int)):Int×Int->Option (List Int)
 | (v14,v15) =>
 if(decide (v15 < (v0.length:Int)))=true then
  gd (ix v15 v10.length/\v15.toNat<v10.length/\(v10.getD v15.toNat false=true/\True->ix v15 v0.length)/\(v10.getD v15.toNat false=true/\True->v15.toNat<v0.length)/\((v10.getD v15.toNat false&&(v0.getD v15.toNat (dflt y107)).2.2.1==(1:Int))=true/\True->ix (0:Int) v11.length)/\((v10.getD v15.toNat false&&(v0.getD v15.toNat (dflt y107)).2.2.1==(1:Int))=true/\True->Int.toNat (0:Int)<v11.length)/\((v10.getD v15.toNat false&&(v0.getD v15.toNat (dflt y107)).2.2.1==(1:Int))=true/\True->ix v15 v0.length)/\((v10.getD v15.toNat false&&(v0.getD v15.toNat (dflt y107)).2.2.1==(1:Int))=true/\True->v15.toNat<v0.length)/\((v10.getD v15.toNat false&&(v0.getD v15.toNat (dflt y107)).2.2.1==(1:Int))=true/\True->(u110 (v11.getD (Int.toNat (0:Int)) []) (v0.getD v15.toNat (dflt y107)).1).isSome=true)/\((v10.getD v15.toNat false&&(v0.getD v15.toNat (dflt y107)).2.2.1==(1:Int)&&vl (u110 (v11.getD (Int.toNat (0:Int)) []) (v0.getD v15.toNat (dflt y107)).1))=true/\True->ix (0:Int) v11.length)/\((v10.getD v15.toNat false&&(v0.getD v15.toNat (dflt y107)).2.2.1==(1:Int)&&vl (u110 (v11.getD (Int.toNat (0:Int)) []) (v0.getD v15.toNat (dflt y107)).1))=true/\True->Int.toNat (0:Int)<v11.length)/\((v10.getD v15.toNat false&&(v0.getD v15.toNat (dflt y107)).2.2.1==(1:Int)&&vl (u110 (v11.getD (Int.toNat (0:Int)) []) (v0.getD v15.toNat (dflt y107)).1))=true/\True->ix v15 v0.length)/\((v10.getD v15.toNat false&&(v0.getD v15.toNat (dflt y107)).2.2.1==(1:Int)&&vl (u110 (v11.getD (Int.toNat (0:Int)) []) (v0.getD v15.toNat (dflt y107)).1))=true/\True->v15.toNat<v0.length)/\((v10.getD v15.toNat false&&(v0.getD v15.toNat (dflt y107)).2.2.1==(1:Int)&&vl (u110 (v11.getD (Int.toNat (0:Int)) []) (v0.getD v15.toNat (dflt y107)).1))=true/\True->(u110 (v11.getD (Int.toNat (0:Int)) []) (v0.getD v15.toNat (dflt y107)).2.1).isSome=true)/\True) <|
  if(v10.getD v15.toNat false&&(v0.getD v15.toNat (dflt y107)).2.2.1==(1:Int)&&vl (u110 (v11.getD (Int.toNat (0:Int)) []) (v0.getD v15.toNat (dflt y107)).1)&&vl (u110 (v11.getD (Int.toNat (0:Int)) []) (v0.getD v15.toNat (dflt y107)).2.1))=true then
   u67J4 v15 g3 v15
  else
   u67J4 v15 g3 v14
 else
  u67J2 v10 g1 v14
def u67L1(v0:List Y107)(v2:Int)(g1:List Bool->Option (List Int)):List Bool->Option (List Int)
 | v10 =>
 gd ((u64 v2 v0 v10).isSome=true/\True)<|lt (vl (u64 v2 v0 v10)) fun v11 =>
 if((v11.length:Int)==0)=true then
  u67J0 v10
 else
  lp (u67L3 v10 v0 v11 g1) (-1,0)
def u67(a0:Y46):Option (List Int) :=
 gd ((u59 a0).isSome=true/\True)<|lt (vl (u59 a0)) fun v0 =>
 gd ((u62 v0 []).isSome=true/\True)<|lt (vl (u62 v0 [])) fun v1 =>
 gd ((u61 a0).isSome=true/\True)<|lt (vl (u61 a0)) fun v2 =>
 lp (u67L1 v0 v2) v1
def k67:Ct:=lct 67 [.agg y46] (fun x=>u67 x.1) (fun r:List Int=>AV.ow 2 true i64 r) (fun _=>())
theorem o67:Ok prog k67:=by
 refine okL [.tmp 2] func67 ntmps67 results67 ?_;intro y ⟨a0,_⟩ r H Q hn hr;have:HT _ _:=⟨tc o110 (tc o64 (tc o61 (tc o62 (tc o59 tn))))⟩;refine qA (Z [p 1 (R 1)] [(1,K 46 y46 a0)])<|qD (fun v0=>Z [p 1 (R 1),p 3 (O 12)] [(12,A 107 y107 v0 0),(1,K 46 y46 a0)]) H fun v0 H=>qD (fun v1=>Z [p 1 (R 1),p 3 (O 12),p 4 (O 15)] [(15,A 4 Ty.bool v1 0),(14,A 2 i64 [] 0),(12,A 107 y107 v0 0),(1,K 46 y46 a0)]) H fun v1 H=>qD (fun v2=>Z [p 3 (O 12),p 4 (O 15),p 5 (I v2)] [(15,A 4 Ty.bool v1 0),(14,A 2 i64 [] 0),(12,A 107 y107 v0 0),(1,K 46 y46 a0)]) H fun v2 H=>jN r (fun(v18:List Bool)=>Z [p 4 (O 15)] [(15,A 4 Ty.bool v18 0)]) (u67J0) (fun v18 H=>?_) (fun _ n0 e0 t0=>?_)
 ·refine qA (Z [p 4 (O 15),p 9 (O 69)] [(69,A 2 i64 [] 0),(15,A 4 Ty.bool v18 0)])<|jN r (fun(v23:List Int)=>Z [p 9 (O 69)] [(69,A 2 i64 v23 0)]) (u67J5) (fun v23 H=>?_) (fun _ n5 e5 t5=>?_)
  ·refine qA (Z [p 2 (O 69)] [(69,A 2 i64 v23 0)])<|vTT<|hr H
  refine qA (Z [p 4 (O 15),p 9 (O 69),p 10 (I 0)] [(69,A 2 i64 [] 0),(15,A 4 Ty.bool v18 0)])<|vB<|lX (fun((v20,v21):Int×List Int)=>Z [p 4 (O 15),p 9 (O 69),p 10 (I v20)] [(69,A 2 i64 v21 0),(15,A 4 Ty.bool v18 0)]) (0,[]) H fun _ g6 b6 e6 t6 ⟨v20,v21⟩ H=>vQ<|qA (Z [p 4 (O 15),p 9 (O 69),p 10 (I v20),p 73 (B (decide (v20 < (v18.length:Int))))] [(69,A 2 i64 v21 0),(15,A 4 Ty.bool v18 0)])<|cD H (fun H=>?_) (fun H=>?_)
  ·refine vK<|fQ<|jN r (fun(v22:List Int)=>Z [p 4 (O 15),p 9 (O 69),p 10 (I v20)] [(69,A 2 i64 v22 0),(15,A 4 Ty.bool v18 0)]) (u67J7 v20 g6) (fun v22 H=>?_) (fun _ n7 e7 t7=>?_)
   ·refine zB (Z [p 4 (O 15),p 9 (O 69),p 10 (I (v20+1))] [(69,A 2 i64 v22 0),(15,A 4 Ty.bool v18 0)]) H fun H=>b6 H
   refine vB<|qB (Z [p 4 (O 15),p 9 (O 69),p 10 (I v20),p 80 (B !v18.getD v20.toNat false)] [(69,A 2 i64 v21 0),(15,A 4 Ty.bool v18 0)]) H fun H=>cD H (fun H=>?_) (fun H=>?_)
   ·refine zB (Z [p 4 (O 15),p 9 (AV.os 69 1),p 10 (I v20)] [(69,A 2 i64 (v21++[v20]) 1),(83,A 2 i64 [v20] 0),(15,A 4 Ty.bool v18 0)]) H fun H=>fK<|n7 H
   exact vK<|fK<|n7 H
  exact vE<|fE<|e6<|fX rfl<|n5 H
 refine vB<|lX (fun(v10:List Bool)=>Z [p 3 (O 12),p 4 (O 15),p 5 (I v2)] [(15,A 4 Ty.bool v10 0),(12,A 107 y107 v0 0)]) v1 H fun _ g1 b1 e1 t1 v10 H=>vB<|qD (fun v11=>Z [p 3 (O 12),p 4 (O 15),p 5 (I v2),p 6 (O 21)] [(21,A 33 i64.sl v11 0),(15,A 4 Ty.bool v10 0),(12,A 107 y107 v0 0)]) H fun v11 H=>vQ<|qA (Z [p 3 (O 12),p 4 (O 15),p 5 (I v2),p 6 (O 21),p 24 (B ((v11.length:Int)==0))] [(21,A 33 i64.sl v11 0),(15,A 4 Ty.bool v10 0),(12,A 107 y107 v0 0)])<|cD H (fun H=>?_) (fun H=>?_)
 ·exact vE<|fE<|fx_blk_other rfl<|e1<|fX rfl<|n0 H
 refine vK<|fQ<|qA (Z [p 3 (O 12),p 4 (O 15),p 5 (I v2),p 6 (O 21),p 7 (I (-1))] [(21,A 33 i64.sl v11 0),(15,A 4 Ty.bool v10 0),(12,A 107 y107 v0 0)])<|jN r (fun(v17:Int)=>Z [p 3 (O 12),p 4 (O 15),p 5 (I v2),p 7 (I v17)] [(15,A 4 Ty.bool v10 0),(12,A 107 y107 v0 0)]) (u67J2 v10 g1) (fun v17 H=>?_) (fun _ n2 e2 t2=>?_)
 ·refine zB (Z [p 3 (O 12),p 4 (O 15),p 5 (I v2)] [(15,A 4 Ty.bool (v10.set v17.toNat false) 0),(12,A 107 y107 v0 0)]) H fun H=>fK<|b1 H
 refine qA (Z [p 3 (O 12),p 4 (O 15),p 5 (I v2),p 6 (O 21),p 7 (I (-1)),p 8 (I 0)] [(21,A 33 i64.sl v11 0),(15,A 4 Ty.bool v10 0),(12,A 107 y107 v0 0)])<|vB<|lX (fun((v14,v15):Int×Int)=>Z [p 3 (O 12),p 4 (O 15),p 5 (I v2),p 6 (O 21),p 7 (I v14),p 8 (I v15)] [(21,A 33 i64.sl v11 0),(15,A 4 Ty.bool v10 0),(12,A 107 y107 v0 0)]) (-1,0) H fun _ g3 b3 e3 t3 ⟨v14,v15⟩ H=>vQ<|qA (Z [p 3 (O 12),p 4 (O 15),p 5 (I v2),p 6 (O 21),p 7 (I v14),p 8 (I v15),p 28 (B (decide (v15 < (v0.length:Int))))] [(21,A 33 i64.sl v11 0),(15,A 4 Ty.bool v10 0),(12,A 107 y107 v0 0)])<|cD H (fun H=>?_) (fun H=>?_)
 ·refine vK<|fQ<|jN r (fun(v16:Int)=>Z [p 3 (O 12),p 4 (O 15),p 5 (I v2),p 6 (O 21),p 7 (I v16),p 8 (I v15)] [(21,A 33 i64.sl v11 0),(15,A 4 Ty.bool v10 0),(12,A 107 y107 v0 0)]) (u67J4 v15 g3) (fun v16 H=>?_) (fun _ n4 e4 t4=>?_)
  ·refine zB (Z [p 3 (O 12),p 4 (O 15),p 5 (I v2),p 6 (O 21),p 7 (I v16),p 8 (I (v15+1))] [(21,A 33 i64.sl v11 0),(15,A 4 Ty.bool v10 0),(12,A 107 y107 v0 0)]) H fun H=>b3 H
  refine vB<|qB (Z [p 3 (O 12),p 4 (O 15),p 5 (I v2),p 6 (O 21),p 7 (I v14),p 8 (I v15),p 64 (B (v10.getD v15.toNat false&&(v0.getD v15.toNat (dflt y107)).2.2.1==(1:Int)&&vl (u110 (v11.getD (Int.toNat (0:Int)) []) (v0.getD v15.toNat (dflt y107)).1)&&vl (u110 (v11.getD (Int.toNat (0:Int)) []) (v0.getD v15.toNat (dflt y107)).2.1)))] [(21,A 33 i64.sl v11 0),(15,A 4 Ty.bool v10 0),(12,A 107 y107 v0 0)]) H fun H=>cD H (fun H=>?_) (fun H=>?_)
  ·refine zA (Z [p 3 (O 12),p 4 (O 15),p 5 (I v2),p 6 (O 21),p 7 (I v15),p 8 (I v15)] [(21,A 33 i64.sl v11 0),(15,A 4 Ty.bool v10 0),(12,A 107 y107 v0 0)])<|fK<|n4 H
  exact vK<|fK<|n4 H
 exact vE<|fE<|e3<|fX rfl<|n2 H
def u31J0:ByteArray->Option (ByteArray×Int)
 | v10 =>
 some ((v10,(0:Int)))
def u31L1(a0:Y46)(v0:List Y107)(v1:List Int)(g1:ByteArray×Int->Option (ByteArray×Int)):ByteArray×Int->Option (ByteArray×Int)
 | (v5,v6) =>
 if(decide (v6 < (v1.length:Int)))=true then
  gd (ix v6 v1.length/\v6.toNat<v1.length/\True) <|
  gd (v5.size+(ByteArray.mk #[98,114,101,97,107,32]).size<=9223372036854775807/\ix (v1.getD v6.toNat 0) v0.length/\Int.toNat (v1.getD v6.toNat 0)<v0.length/\(u68 a0 (v0.getD (Int.toNat (v1.getD v6.toNat 0)) (dflt y107)).1).isSome=true/\(v5++ByteArray.mk #[98,114,101,97,107,32]).size+(vl (u68 a0 (v0.getD (Int.toNat (v1.getD v6.toNat 0)) (dflt y107)).1)).size<=9223372036854775807/\(v5++ByteArray.mk #[98,114,101,97,107,32]++vl (u68 a0 (v0.getD (Int.toNat (v1.getD v6.toNat 0)) (dflt y107)).1)).size+(ByteArray.mk #[32]).size<=9223372036854775807/\ix (v1.getD v6.toNat 0) v0.length/\Int.toNat (v1.getD v6.toNat 0)<v0.length/\(u68 a0 (v0.getD (Int.toNat (v1.getD v6.toNat 0)) (dflt y107)).2.1).isSome=true/\(v5++ByteArray.mk #[98,114,101,97,107,32]++vl (u68 a0 (v0.getD (Int.toNat (v1.getD v6.toNat 0)) (dflt y107)).1)++ByteArray.mk #[32]).size+(vl (u68 a0 (v0.getD (Int.toNat (v1.getD v6.toNat 0)) (dflt y107)).2.1)).size<=9223372036854775807/\(v5++ByteArray.mk #[98,114,101,97,107,32]++vl (u68 a0 (v0.getD (Int.toNat (v1.getD v6.toNat 0)) (dflt y107)).1)++ByteArray.mk #[32]++vl (u68 a0 (v0.getD (Int.toNat (v1.getD v6.toNat 0)) (dflt y107)).2.1)).size+(ByteArray.mk #[10]).size<=9223372036854775807/\True)<|lt ((vl (u68 a0 (v0.getD (Int.toNat (v1.getD v6.toNat 0)) (dflt y107)).1),vl (u68 a0 (v0.getD (Int.toNat (v1.getD v6.toNat 0)) (dflt y107)).2.1),v5++ByteArray.mk #[98,114,101,97,107,32]++vl (u68 a0 (v0.getD (Int.toNat (v1.getD v6.toNat 0)) (dflt y107)).1)++ByteArray.mk #[32]++vl (u68 a0 (v0.getD (Int.toNat (v1.getD v6.toNat 0)) (dflt y107)).2.1)++ByteArray.mk #[10])) fun(v7,v8,v9) =>
  gd (in64 (v6+1)/\True) <|
  g1 (v9,v6+1)
 else
  u31J0 v5
def u31(a0:Y46):Option (ByteArray×Int) :=
 gd ((u66 a0).isSome=true/\True) <|
 if(!vl (u66 a0))=true then
  some ((ByteArray.mk #[],(1:Int)))
 else
  gd ((u59 a0).isSome=true/\True)<|lt (vl (u59 a0)) fun v0 =>
  gd ((u67 a0).isSome=true/\True)<|lt (vl (u67 a0)) fun v1 =>
  lp (u31L1 a0 v0 v1) (ByteArray.mk #[],0)
def k31:Ct:=lct 31 [.agg y46] (fun x=>u31 x.1) (fun r:ByteArray×Int=>AV.tup [S r.1,I r.2]) (fun _=>())
theorem o31:Ok prog k31:=by
 refine okL [.tmp 2,.tmp 3] func31 ntmps31 results31 ?_;intro y ⟨a0,_⟩ r H Q hn hr;have:HT _ _:=⟨tc o68 (tc o67 (tc o59 (tc o66 tn)))⟩;refine qA (Z [p 1 (R 1)] [(1,K 46 y46 a0)])<|vQ<|qB (Z [p 1 (R 1),p 11 (B !vl (u66 a0))] [(1,K 46 y46 a0)]) H fun H=>cD H (fun H=>?_) (fun H=>?_)
 ·refine qA (Z [p 2 (S (ByteArray.mk #[])),p 3 (I 1)] [(1,K 46 y46 a0)])<|vTT<|fR<|hr H
 refine vK<|fQ<|qD (fun v0=>Z [p 1 (R 1),p 4 (O 13)] [(13,A 107 y107 v0 0),(1,K 46 y46 a0)]) H fun v0 H=>qD (fun v1=>Z [p 1 (R 1),p 4 (O 13),p 5 (O 15)] [(15,A 2 i64 v1 0),(13,A 107 y107 v0 0),(1,K 46 y46 a0)]) H fun v1 H=>qA (Z [p 1 (R 1),p 4 (O 13),p 5 (O 15),p 6 (S (ByteArray.mk #[]))] [(15,A 2 i64 v1 0),(13,A 107 y107 v0 0),(1,K 46 y46 a0)])<|jN r (fun(v10:ByteArray)=>Z [p 6 (S v10)] []) (u31J0) (fun v10 H=>?_) (fun _ n0 e0 t0=>?_)
 ·refine qA (Z [p 2 (S v10),p 3 (I 0)] [])<|vTT<|hr H
 refine qA (Z [p 1 (R 1),p 4 (O 13),p 5 (O 15),p 6 (S (ByteArray.mk #[])),p 7 (I 0)] [(15,A 2 i64 v1 0),(13,A 107 y107 v0 0),(1,K 46 y46 a0)])<|vB<|lX (fun((v5,v6):ByteArray×Int)=>Z [p 1 (R 1),p 4 (O 13),p 5 (O 15),p 6 (S v5),p 7 (I v6)] [(15,A 2 i64 v1 0),(13,A 107 y107 v0 0),(1,K 46 y46 a0)]) (ByteArray.mk #[],0) H fun _ g1 b1 e1 t1 ⟨v5,v6⟩ H=>vQ<|qA (Z [p 1 (R 1),p 4 (O 13),p 5 (O 15),p 6 (S v5),p 7 (I v6),p 19 (B (decide (v6 < (v1.length:Int))))] [(15,A 2 i64 v1 0),(13,A 107 y107 v0 0),(1,K 46 y46 a0)])<|cD H (fun H=>?_) (fun H=>?_)
 ·refine vK<|fQ<|vQ<|vB<|qB (Z [p 1 (R 1),p 4 (O 13),p 5 (O 15),p 6 (S v5),p 7 (I v6),p 8 (I (v1.getD v6.toNat 0))] [(15,A 2 i64 v1 0),(13,A 107 y107 v0 0),(1,K 46 y46 a0)]) H fun H=>zD (fun(v7,v8,v9)=>Z [p 1 (R 1),p 4 (O 13),p 5 (O 15),p 6 (S v9),p 7 (I v6)] [(15,A 2 i64 v1 0),(13,A 107 y107 v0 0),(1,K 46 y46 a0)]) H fun⟨v7,v8,v9⟩ H =>
   fK<|fQ <|
   zB (Z [p 1 (R 1),p 4 (O 13),p 5 (O 15),p 6 (S v9),p 7 (I (v6+1))] [(15,A 2 i64 v1 0),(13,A 107 y107 v0 0),(1,K 46 y46 a0)]) H fun H =>
   b1 H
 exact vE<|fE<|e1<|fX rfl<|n0 H
def u130(a0:Y43)(a1:List Y148)(a2:Y171):Option (ByteArray) :=
 if(decide (a2.1<0))=true then
  gd (ix a2.2.1 a0.2.2.length/\True)<|lt (a0.2.2.getD a2.2.1.toNat (dflt y190)) fun v0 =>
  some v0.1
 else
  gd (ix a2.1 a0.1.length/\True)<|lt (a0.1.getD a2.1.toNat (dflt y150)) fun v1 =>
  gd (v1.1.size+(ByteArray.mk #[47]).size<=9223372036854775807/\ix v1.2.1 a1.length/\ix a2.2.1 (a1.getD v1.2.1.toNat (dflt y148)).2.2.1.length/\(v1.1++ByteArray.mk #[47]).size+((a1.getD v1.2.1.toNat (dflt y148)).2.2.1.getD a2.2.1.toNat (dflt y222)).1.size<=9223372036854775807/\True)<|lt (v1.1++ByteArray.mk #[47]++((a1.getD v1.2.1.toNat (dflt y148)).2.2.1.getD a2.2.1.toNat (dflt y222)).1) fun v2 =>
  some v2
def k130:Ct:=lct 130 [.agg y43,.agg y148.sl,.agg y171] (fun x=>u130 x.1 x.2.1 x.2.2.1) (fun r:ByteArray=>S r) (fun _=>())
theorem o130:Ok prog k130:=by
 refine okL [.tmp 6] func130 ntmps130 results130 ?_;intro y ⟨a0,a1,a2,_⟩ r H Q hn hr;have:HT _ _:=⟨@tn prog⟩;refine qA (Z [p 3 (R 3),p 4 (R 4),p 5 (R 5)] [(5,K 171 y171 a2),(4,Ob.box 39 [L y148 a1]),(3,K 43 y43 a0)])<|vQ<|qA (Z [p 3 (R 3),p 4 (R 4),p 5 (R 5),p 10 (B (decide (a2.1<0)))] [(5,K 171 y171 a2),(4,Ob.box 39 [L y148 a1]),(3,K 43 y43 a0)])<|cD H (fun H=>?_) (fun H=>?_)
 ·refine qD (fun v0=>Z [p 6 (U v0.1)] [(5,K 171 y171 a2),(4,Ob.box 39 [L y148 a1]),(3,K 43 y43 a0)]) H fun v0 H=>vTT<|fR<|hr H
 refine vK<|fQ<|qD (fun v1=>Z [p 4 (R 4),p 5 (R 5),p 7 (R 7)] [(7,K 150 y150 v1),(5,K 171 y171 a2),(4,Ob.box 39 [L y148 a1]),(3,K 43 y43 a0)]) H fun v1 H=>qD (fun v2=>Z [p 6 (S v2)] [(7,K 150 y150 v1),(5,K 171 y171 a2),(4,Ob.box 39 [L y148 a1]),(3,K 43 y43 a0)]) H fun v2 H=>vTT<|hr H
def u72(a0:Y113)(a1:Int):Option (ByteArray) :=
 gd ((0:Int) < (2:Int)/\ix (a1.tdiv (2:Int)) a0.2.1.length/\(u130 a0.1.2.1 a0.1.1 (a0.2.1.getD (a1.tdiv (2:Int)).toNat (dflt y171))).isSome=true/\(0:Int) < (2:Int)/\ix (a1.tmod (2:Int)) [ByteArray.mk #[(58:UInt8),(114:UInt8)],ByteArray.mk #[(58:UInt8),(102:UInt8)]].length/\(a1.tmod (2:Int)).toNat<[ByteArray.mk #[(58:UInt8),(114:UInt8)],ByteArray.mk #[(58:UInt8),(102:UInt8)]].length/\(vl (u130 a0.1.2.1 a0.1.1 (a0.2.1.getD (a1.tdiv (2:Int)).toNat (dflt y171)))).size+ByteArray.size ([ByteArray.mk #[(58:UInt8),(114:UInt8)],ByteArray.mk #[(58:UInt8),(102:UInt8)]].getD (a1.tmod (2:Int)).toNat (dflt Ty.str))<=9223372036854775807/\True)<|lt ((vl (u130 a0.1.2.1 a0.1.1 (a0.2.1.getD (a1.tdiv 2).toNat (dflt y171))),vl (u130 a0.1.2.1 a0.1.1 (a0.2.1.getD (a1.tdiv 2).toNat (dflt y171)))++[ByteArray.mk #[58,114],ByteArray.mk #[58,102]].getD (a1.tmod 2).toNat (dflt Ty.str))) fun(v0,v1) =>
 some v1
def k72:Ct:=lct 72 [.dat y113.pt,.dat i64] (fun x=>u72 x.1 x.2.1) (fun r:ByteArray=>S r) (fun _=>())
theorem o72:Ok prog k72:=by
 refine okL [.tmp 4] func72 ntmps72 results72 ?_;intro y ⟨a0,a1,_⟩ r H Q hn hr;have:HT _ _:=⟨tc o130 tn⟩;refine qA (Z [p 0 (D y113.pt a0),p 1 (J a1)] [])<|qD (fun(v0,v1)=>Z [p 4 (S v1)] [(24,A 9 Ty.str [ByteArray.mk #[58,114],ByteArray.mk #[58,102]] 0)]) H fun⟨v0,v1⟩ H =>
  vTT<|hr H
def u170J0:Unit->Option (Int)
 | _ =>
 some (-1)
def u170L1(a1:Int)(a0:List Int)(g1:Int->Option (Int)):Int->Option (Int)
 | v0 =>
 if(decide (v0 < (a0.length:Int)))=true then
  gd (ix v0 a0.length/\True) <|
  if(a1==a0.getD v0.toNat 0)=true then
   some v0
  else
   gd (in64 (v0+1)/\True) <|
   g1 (v0+1)
 else
  u170J0 ()
def u170(a0:List Int)(a1:Int):Option (Int) :=
 lp (u170L1 a1 a0) 0
def k170:Ct:=lct 170 [.dat i64.sl,.dat i64] (fun x=>u170 x.1 x.2.1) (fun r:Int=>I r) (fun _=>())
theorem o170:Ok prog k170:=by
 refine okL [.tmp 4] func170 ntmps170 results170 ?_;intro y ⟨a0,a1,_⟩ r H Q hn hr;have:HT _ _:=⟨@tn prog⟩;refine qA (Z [p 0 (L i64 a0),p 1 (J a1)] [])<|jN r (fun(_:Unit)=>Z [] []) (u170J0) (fun _ H=>?_) (fun _ n0 e0 t0=>?_)
 ·refine qA (Z [p 4 (I (-1))] [])<|vTT<|hr H
 refine qA (Z [p 0 (L i64 a0),p 1 (J a1),p 7 (I (a0.length:Int)),p 8 (I 0)] [])<|vB<|lX (fun(v0:Int)=>Z [p 0 (L i64 a0),p 1 (J a1),p 7 (I (a0.length:Int)),p 8 (I v0)] []) 0 H fun _ g1 b1 e1 t1 v0 H=>qA (Z [p 0 (L i64 a0),p 1 (J a1),p 7 (I (a0.length:Int)),p 8 (I v0),p 9 (B (decide (v0 < (a0.length:Int))))] [])<|vQ<|cD H (fun H=>?_) (fun H=>?_)
 ·refine vK<|fQ<|vQ<|vB<|qA (Z [p 0 (L i64 a0),p 1 (J a1),p 5 (I v0),p 7 (I (a0.length:Int)),p 8 (I v0)] [])<|qB (Z [p 0 (L i64 a0),p 1 (J a1),p 5 (I v0),p 7 (I (a0.length:Int)),p 8 (I v0),p 16 (B (a1==a0.getD v0.toNat 0))] []) H fun H=>cD H (fun H=>?_) (fun H=>?_)
  ·refine qA (Z [p 4 (I v0)] [])<|vTT<|fDD<|fR<|t1<|fDD<|t0<|hr H
  refine vK<|fK<|fQ<|zB (Z [p 0 (L i64 a0),p 1 (J a1),p 7 (I (a0.length:Int)),p 8 (I (v0+1))] []) H fun H=>b1 H
 exact vE<|fE<|e1<|fX rfl<|n0 H
def u128(a0:List Int)(a1:Int):Option (Bool) :=
 gd ((u170 a0 a1).isSome=true/\True)<|lt (vl (u170 a0 a1)) fun v0 =>
 some (decide (0<=v0))
def k128:Ct:=lct 128 [.dat i64.sl,.dat i64] (fun x=>u128 x.1 x.2.1) (fun r:Bool=>B r) (fun _=>())
theorem o128:Ok prog k128:=by
 refine okL [.tmp 4] func128 ntmps128 results128 ?_;intro y ⟨a0,a1,_⟩ r H Q hn hr;have:HT _ _:=⟨tc o170 tn⟩;refine qA (Z [p 0 (L i64 a0),p 1 (J a1)] [])<|qD (fun v0=>Z [p 4 (B (decide (0<=v0)))] []) H fun v0 H=>vTT<|hr H
def u65J2:List (List Int)->Option (List (List Int))
 | v31 =>
 some v31
def u65J4(v18:Int)(g3:List (List Int)×Int×List Bool->Option (List (List Int))):List Bool×List (List Int)->Option (List (List Int))
 | (v29,v30) =>
 gd (in64 (v18+1)/\True) <|
 g3 (v30,v18+1,v29)
def u65J8(v18:Int)(v17:List (List Int))(v24:List Int)(g3:List (List Int)×Int×List Bool->Option (List (List Int))):List Bool->Option (List (List Int))
 | v28 =>
 gd ((v17.length+[v24].length<=9223372036854775807/\(v17.length+[v24].length)*24<=140737488355328)/\True) <|
 u65J4 v18 g3 (v28,v17++[v24])
def u65L9(v24:List Int)(v18:Int)(v17:List (List Int))(g3:List (List Int)×Int×List Bool->Option (List (List Int)))(g9:Int×List Bool->Option (List (List Int))):Int×List Bool->Option (List (List Int))
 | (v26,v27) =>
 if(decide (v26 < (v24.length:Int)))=true then
  gd (ix v26 v24.length/\v26.toNat<v24.length/\True) <|
  gd (ix (v24.getD v26.toNat 0) v27.length/\Int.toNat (v24.getD v26.toNat 0)<v27.length/\True) <|
  gd (in64 (v26+1)/\True) <|
  g9 ((v26+1,v27.set (Int.toNat (v24.getD v26.toNat 0)) true))
 else
  u65J8 v18 v17 v24 g3 v27
def u65J5(v18:Int)(v19:List Bool)(v17:List (List Int))(a0:Y92)(g3:List (List Int)×Int×List Bool->Option (List (List Int))):List Int->Option (List (List Int))
 | v24 =>
 gd ((decide ((v24.length:Int)<2)=true/\True->(u115 a0 v18).isSome=true)/\True) <|
 if(decide ((v24.length:Int)<2)&&!vl (u115 a0 v18))=true then
  u65J4 v18 g3 (v19,v17)
 else
  lp (u65L9 v24 v18 v17 g3) (0,v19)
def u65J7(v22:Int)(g6:List Int×Int->Option (List (List Int))):List Int->Option (List (List Int))
 | v23 =>
 gd (in64 (v22+1)/\True) <|
 g6 (v23,v22+1)
def u65L6(v5:List (List Bool))(v18:Int)(v19:List Bool)(v17:List (List Int))(a0:Y92)(v0:Int)(g3:List (List Int)×Int×List Bool->Option (List (List Int)))(g6:List Int×Int->Option (List (List Int))):List Int×Int->Option (List (List Int))
 | (v21,v22) =>
 if(decide (v22<v0))=true then
  gd (ix v18 v5.length/\v18.toNat<v5.length/\ix v22 (List.length (v5.getD v18.toNat []))/\(List.getD (v5.getD v18.toNat []) v22.toNat false=true/\True->ix v22 v5.length)/\(List.getD (v5.getD v18.toNat []) v22.toNat false=true/\True->v22.toNat<v5.length)/\(List.getD (v5.getD v18.toNat []) v22.toNat false=true/\True->ix v18 (List.length (v5.getD v22.toNat [])))/\True) <|
  if(List.getD (v5.getD v18.toNat []) v22.toNat false&&List.getD (v5.getD v22.toNat []) v18.toNat false)=true then
   gd ((v21.length+[v22].length<=9223372036854775807/\(v21.length+[v22].length)*8<=140737488355328)/\True) <|
   u65J7 v22 g6 (v21++[v22])
  else
   u65J7 v22 g6 v21
 else
  u65J5 v18 v19 v17 a0 g3 v21
def u65L3(v5:List (List Bool))(a0:Y92)(v0:Int)(g3:List (List Int)×Int×List Bool->Option (List (List Int))):List (List Int)×Int×List Bool->Option (List (List Int))
 | (v17,v18,v19) =>
 if(decide (v18<v0))=true then
  gd (ix v18 v19.length/\v18.toNat<v19.length/\True) <|
  if(v19.getD v18.toNat false)=true then
   u65J4 v18 g3 (v19,v17)
  else
   lp (u65L6 v5 v18 v19 v17 a0 v0 g3) ([],0)
 else
  u65J2 v17
def u65J0(a0:Y92)(v0:Int):List (List Bool)->Option (List (List Int))
 | v5 =>
 gd ((0<=v0/\v0=v0/\v0.toNat*1<=281474976710656/\v0<=9223372036854775807)/\True) <|
 lp (u65L3 v5 a0 v0) ([],0,List.replicate v0.toNat false)
def u65L1(a0:Y92)(v0:Int)(g1:List (List Bool)×Int->Option (List (List Int))):List (List Bool)×Int->Option (List (List Int))
 | (v2,v3) =>
 if(decide (v3<v0))=true then
  gd ((u44c52 a0 [v3]).isSome=true/\(v2.length+[vl (u44c52 a0 [v3])].length<=9223372036854775807/\(v2.length+[vl (u44c52 a0 [v3])].length)*24<=140737488355328)/\True)<|lt (vl (u44c52 a0 [v3])) fun v4 =>
  gd (in64 (v3+1)/\True) <|
  g1 (v2++[v4],v3+1)
 else
  u65J0 a0 v0 v2
def u65(a0:Y92):Option (List (List Int)) :=
 gd ((u86 a0.1).isSome=true/\True)<|lt (vl (u86 a0.1)) fun v0 =>
 lp (u65L1 a0 v0) ([],0)
def k65:Ct:=lct 65 [.dat y92.pt] (fun x=>u65 x.1) (fun r:List (List Int)=>AV.ow 33 true i64.sl r) (fun _=>())
theorem o65:Ok prog k65:=by
 refine okL [.tmp 2] func65 ntmps65 results65 ?_;intro y ⟨a0,_⟩ r H Q hn hr;have:HT _ _:=⟨tc o115 (tc o52 (tc o44c45d (tc o44c52d (tc o86 tn))))⟩;refine qA (Z [p 0 (D y92.pt a0)] [])<|qD (fun v0=>Z [p 0 (D y92.pt a0),p 3 (I v0)] []) H fun v0 H=>qA (Z [p 0 (D y92.pt a0),p 3 (I v0),p 4 (nil)] [])<|jN r (fun(v5:List (List Bool))=>Z [p 0 (D y92.pt a0),p 3 (I v0),p 4 (O 28)] [(28,A 76 Ty.bool.sl v5 0)]) (u65J0 a0 v0) (fun v5 H=>?_) (fun _ n0 e0 t0=>?_)
 ·refine qB (Z [p 0 (D y92.pt a0),p 3 (I v0),p 4 (O 28),p 6 (O 31)] [(31,A 4 Ty.bool (List.replicate v0.toNat false) 0),(28,A 76 Ty.bool.sl v5 0)]) H fun H=>qA (Z [p 0 (D y92.pt a0),p 3 (I v0),p 4 (O 28),p 6 (O 31),p 7 (nil)] [(31,A 4 Ty.bool (List.replicate v0.toNat false) 0),(28,A 76 Ty.bool.sl v5 0)])<|jN r (fun(v31:List (List Int))=>Z [p 7 (O 87)] [(87,A 33 i64.sl v31 0)]) (u65J2) (fun v31 H=>?_) (fun _ n2 e2 t2=>?_)
  ·refine qA (Z [p 2 (O 87)] [(87,A 33 i64.sl v31 0)])<|vTT<|hr H
  refine qA (Z [p 0 (D y92.pt a0),p 3 (I v0),p 4 (O 28),p 6 (O 31),p 7 (nil),p 32 (I v0),p 33 (I 0)] [(31,A 4 Ty.bool (List.replicate v0.toNat false) 0),(28,A 76 Ty.bool.sl v5 0)])<|vB<|lX (fun((v17,v18,v19):List (List Int)×Int×List Bool)=>Z [p 0 (D y92.pt a0),p 3 (I v0),p 4 (O 28),p 6 (O 31),p 7 (O 87),p 32 (I v0),p 33 (I v18)] [(31,A 4 Ty.bool v19 0),(28,A 76 Ty.bool.sl v5 0),(87,A 33 i64.sl v17 0)]) ([],0,List.replicate v0.toNat false) H fun _ g3 b3 e3 t3 ⟨v17,v18,v19⟩ H=>qA (Z [p 0 (D y92.pt a0),p 3 (I v0),p 4 (O 28),p 6 (O 31),p 7 (O 87),p 32 (I v0),p 33 (I v18),p 34 (B (decide (v18<v0)))] [(31,A 4 Ty.bool v19 0),(28,A 76 Ty.bool.sl v5 0),(87,A 33 i64.sl v17 0)])<|vQ<|cD H (fun H=>?_) (fun H=>?_)
  ·refine vK<|fQ<|jN r (fun((v29,v30):List Bool×List (List Int))=>Z [p 0 (D y92.pt a0),p 3 (I v0),p 4 (O 28),p 6 (O 31),p 7 (O 87),p 32 (I v0),p 33 (I v18)] [(31,A 4 Ty.bool v29 0),(28,A 76 Ty.bool.sl v5 0),(87,A 33 i64.sl v30 0)]) (u65J4 v18 g3) (fun⟨v29,v30⟩ H=>?_) (fun _ n4 e4 t4=>?_)
   ·refine zB (Z [p 0 (D y92.pt a0),p 3 (I v0),p 4 (O 28),p 6 (O 31),p 7 (O 87),p 32 (I v0),p 33 (I (v18+1))] [(31,A 4 Ty.bool v29 0),(28,A 76 Ty.bool.sl v5 0),(87,A 33 i64.sl v30 0)]) H fun H=>b3 H
   refine vB<|qA (Z [p 0 (D y92.pt a0),p 3 (I v0),p 4 (O 28),p 6 (O 31),p 7 (O 87),p 8 (I v18),p 32 (I v0),p 33 (I v18)] [(31,A 4 Ty.bool v19 0),(28,A 76 Ty.bool.sl v5 0),(87,A 33 i64.sl v17 0)])<|vQ<|qB (Z [p 0 (D y92.pt a0),p 3 (I v0),p 4 (O 28),p 6 (O 31),p 7 (O 87),p 8 (I v18),p 32 (I v0),p 33 (I v18),p 39 (B (v19.getD v18.toNat false))] [(31,A 4 Ty.bool v19 0),(28,A 76 Ty.bool.sl v5 0),(87,A 33 i64.sl v17 0)]) H fun H=>cD H (fun H=>?_) (fun H=>?_)
   ·exact vE<|fE<|fX rfl<|n4 H
   refine vK<|fQ<|qA (Z [p 0 (D y92.pt a0),p 3 (I v0),p 4 (O 28),p 6 (O 31),p 7 (O 87),p 8 (I v18),p 9 (nil),p 32 (I v0),p 33 (I v18)] [(31,A 4 Ty.bool v19 0),(28,A 76 Ty.bool.sl v5 0),(87,A 33 i64.sl v17 0)])<|jN r (fun(v24:List Int)=>Z [p 0 (D y92.pt a0),p 3 (I v0),p 4 (O 28),p 6 (O 31),p 7 (O 87),p 8 (I v18),p 9 (O 63),p 32 (I v0),p 33 (I v18)] [(31,A 4 Ty.bool v19 0),(28,A 76 Ty.bool.sl v5 0),(87,A 33 i64.sl v17 0),(63,A 2 i64 v24 0)]) (u65J5 v18 v19 v17 a0 g3) (fun v24 H=>?_) (fun _ n5 e5 t5=>?_)
   ·refine vQ<|qB (Z [p 0 (D y92.pt a0),p 3 (I v0),p 4 (O 28),p 6 (O 31),p 7 (O 87),p 9 (O 63),p 32 (I v0),p 33 (I v18),p 73 (B (decide ((v24.length:Int)<2)&&!vl (u115 a0 v18)))] [(31,A 4 Ty.bool v19 0),(28,A 76 Ty.bool.sl v5 0),(87,A 33 i64.sl v17 0),(63,A 2 i64 v24 0)]) H fun H=>cD H (fun H=>?_) (fun H=>?_)
    ·exact vE<|fE<|fX rfl<|n4 H
    refine vK<|fQ<|jN r (fun(v28:List Bool)=>Z [p 0 (D y92.pt a0),p 3 (I v0),p 4 (O 28),p 6 (O 31),p 7 (O 87),p 9 (O 63),p 32 (I v0),p 33 (I v18)] [(31,A 4 Ty.bool v28 0),(28,A 76 Ty.bool.sl v5 0),(87,A 33 i64.sl v17 0),(63,A 2 i64 v24 0)]) (u65J8 v18 v17 v24 g3) (fun v28 H=>?_) (fun _ n8 e8 t8=>?_)
    ·refine fZ 63 (Z [p 0 (D y92.pt a0),p 3 (I v0),p 4 (O 28),p 6 (O 31),p 7 (O 87),p 9 (M i64 v24),p 32 (I v0),p 33 (I v18)] [(31,A 4 Ty.bool v28 0),(28,A 76 Ty.bool.sl v5 0),(87,A 33 i64.sl v17 0)])<|zB (Z [p 0 (D y92.pt a0),p 3 (I v0),p 4 (O 28),p 6 (O 31),p 7 (AV.os 87 1),p 32 (I v0),p 33 (I v18)] [(87,A 33 i64.sl (v17++[v24]) 1),(86,A 33 i64.sl [v24] 0),(31,A 4 Ty.bool v28 0),(28,A 76 Ty.bool.sl v5 0)]) H fun H=>fK<|n4 H
    refine qA (Z [p 0 (D y92.pt a0),p 3 (I v0),p 4 (O 28),p 6 (O 31),p 7 (O 87),p 9 (O 63),p 32 (I v0),p 33 (I v18),p 74 (O 63),p 75 (I (v24.length:Int)),p 76 (I 0)] [(31,A 4 Ty.bool v19 0),(28,A 76 Ty.bool.sl v5 0),(87,A 33 i64.sl v17 0),(63,A 2 i64 v24 0)])<|vB<|lX (fun((v26,v27):Int×List Bool)=>Z [p 0 (D y92.pt a0),p 3 (I v0),p 4 (O 28),p 6 (O 31),p 7 (O 87),p 9 (O 63),p 32 (I v0),p 33 (I v18),p 74 (O 63),p 75 (I (v24.length:Int)),p 76 (I v26)] [(31,A 4 Ty.bool v27 0),(28,A 76 Ty.bool.sl v5 0),(87,A 33 i64.sl v17 0),(63,A 2 i64 v24 0)]) (0,v19) H fun _ g9 b9 e9 t9 ⟨v26,v27⟩ H=>qA (Z [p 0 (D y92.pt a0),p 3 (I v0),p 4 (O 28),p 6 (O 31),p 7 (O 87),p 9 (O 63),p 32 (I v0),p 33 (I v18),p 74 (O 63),p 75 (I (v24.length:Int)),p 76 (I v26),p 77 (B (decide (v26 < (v24.length:Int))))] [(31,A 4 Ty.bool v27 0),(28,A 76 Ty.bool.sl v5 0),(87,A 33 i64.sl v17 0),(63,A 2 i64 v24 0)])<|vQ<|cD H (fun H=>?_) (fun H=>?_)
    ·refine vK<|fQ<|vQ<|vB<|qB (Z [p 0 (D y92.pt a0),p 3 (I v0),p 4 (O 28),p 6 (O 31),p 7 (O 87),p 9 (O 63),p 12 (I (v24.getD v26.toNat 0)),p 32 (I v0),p 33 (I v18),p 74 (O 63),p 75 (I (v24.length:Int)),p 76 (I v26)] [(31,A 4 Ty.bool v27 0),(28,A 76 Ty.bool.sl v5 0),(87,A 33 i64.sl v17 0),(63,A 2 i64 v24 0)]) H fun H=>zB (Z [p 0 (D y92.pt a0),p 3 (I v0),p 4 (O 28),p 6 (O 31),p 7 (O 87),p 9 (O 63),p 32 (I v0),p 33 (I v18),p 74 (O 63),p 75 (I (v24.length:Int)),p 76 (I v26)] [(31,A 4 Ty.bool (v27.set (Int.toNat (v24.getD v26.toNat 0)) true) 0),(28,A 76 Ty.bool.sl v5 0),(87,A 33 i64.sl v17 0),(63,A 2 i64 v24 0)]) H fun H=>fK<|fQ<|zB (Z [p 0 (D y92.pt a0),p 3 (I v0),p 4 (O 28),p 6 (O 31),p 7 (O 87),p 9 (O 63),p 32 (I v0),p 33 (I v18),p 74 (O 63),p 75 (I (v24.length:Int)),p 76 (I (v26+1))] [(31,A 4 Ty.bool (v27.set (Int.toNat (v24.getD v26.toNat 0)) true) 0),(28,A 76 Ty.bool.sl v5 0),(87,A 33 i64.sl v17 0),(63,A 2 i64 v24 0)]) H fun H=>b9 H
    exact vE<|fE<|e9<|fX rfl<|n8 H
   refine qA (Z [p 0 (D y92.pt a0),p 3 (I v0),p 4 (O 28),p 6 (O 31),p 7 (O 87),p 8 (I v18),p 9 (nil),p 32 (I v0),p 33 (I v18),p 40 (I v0),p 41 (I 0)] [(31,A 4 Ty.bool v19 0),(28,A 76 Ty.bool.sl v5 0),(87,A 33 i64.sl v17 0)])<|vB<|lX (fun((v21,v22):List Int×Int)=>Z [p 0 (D y92.pt a0),p 3 (I v0),p 4 (O 28),p 6 (O 31),p 7 (O 87),p 8 (I v18),p 9 (O 63),p 32 (I v0),p 33 (I v18),p 40 (I v0),p 41 (I v22)] [(31,A 4 Ty.bool v19 0),(28,A 76 Ty.bool.sl v5 0),(87,A 33 i64.sl v17 0),(63,A 2 i64 v21 0)]) ([],0) H fun _ g6 b6 e6 t6 ⟨v21,v22⟩ H=>qA (Z [p 0 (D y92.pt a0),p 3 (I v0),p 4 (O 28),p 6 (O 31),p 7 (O 87),p 8 (I v18),p 9 (O 63),p 32 (I v0),p 33 (I v18),p 40 (I v0),p 41 (I v22),p 42 (B (decide (v22<v0)))] [(31,A 4 Ty.bool v19 0),(28,A 76 Ty.bool.sl v5 0),(87,A 33 i64.sl v17 0),(63,A 2 i64 v21 0)])<|vQ<|cD H (fun H=>?_) (fun H=>?_)
   ·refine vK<|fQ<|jN r (fun(v23:List Int)=>Z [p 0 (D y92.pt a0),p 3 (I v0),p 4 (O 28),p 6 (O 31),p 7 (O 87),p 8 (I v18),p 9 (O 63),p 32 (I v0),p 33 (I v18),p 40 (I v0),p 41 (I v22)] [(63,A 2 i64 v23 0),(31,A 4 Ty.bool v19 0),(28,A 76 Ty.bool.sl v5 0),(87,A 33 i64.sl v17 0)]) (u65J7 v22 g6) (fun v23 H=>?_) (fun _ n7 e7 t7=>?_)
    ·refine zB (Z [p 0 (D y92.pt a0),p 3 (I v0),p 4 (O 28),p 6 (O 31),p 7 (O 87),p 8 (I v18),p 9 (O 63),p 32 (I v0),p 33 (I v18),p 40 (I v0),p 41 (I (v22+1))] [(63,A 2 i64 v23 0),(31,A 4 Ty.bool v19 0),(28,A 76 Ty.bool.sl v5 0),(87,A 33 i64.sl v17 0)]) H fun H=>b6 H
    refine vB<|qA (Z [p 0 (D y92.pt a0),p 3 (I v0),p 4 (O 28),p 6 (O 31),p 7 (O 87),p 8 (I v18),p 9 (O 63),p 10 (I v22),p 32 (I v0),p 33 (I v18),p 40 (I v0),p 41 (I v22)] [(31,A 4 Ty.bool v19 0),(28,A 76 Ty.bool.sl v5 0),(87,A 33 i64.sl v17 0),(63,A 2 i64 v21 0)])<|qB (Z [p 0 (D y92.pt a0),p 3 (I v0),p 4 (O 28),p 6 (O 31),p 7 (O 87),p 8 (I v18),p 9 (O 63),p 10 (I v22),p 32 (I v0),p 33 (I v18),p 40 (I v0),p 41 (I v22),p 59 (B (List.getD (v5.getD v18.toNat []) v22.toNat false&&List.getD (v5.getD v22.toNat []) v18.toNat false))] [(31,A 4 Ty.bool v19 0),(28,A 76 Ty.bool.sl v5 0),(87,A 33 i64.sl v17 0),(63,A 2 i64 v21 0)]) H fun H=>cD H (fun H=>?_) (fun H=>?_)
    ·refine zB (Z [p 0 (D y92.pt a0),p 3 (I v0),p 4 (O 28),p 6 (O 31),p 7 (O 87),p 8 (I v18),p 9 (AV.os 63 1),p 32 (I v0),p 33 (I v18),p 40 (I v0),p 41 (I v22)] [(63,A 2 i64 (v21++[v22]) 1),(62,A 2 i64 [v22] 0),(31,A 4 Ty.bool v19 0),(28,A 76 Ty.bool.sl v5 0),(87,A 33 i64.sl v17 0)]) H fun H=>fK<|n7 H
    exact vK<|fK<|n7 H
   exact vE<|fE<|e6<|fX rfl<|n5 H
  exact vE<|fE<|e3<|fX rfl<|n2 H
 refine qA (Z [p 0 (D y92.pt a0),p 3 (I v0),p 4 (nil),p 18 (I v0),p 19 (I 0)] [])<|vB<|lX (fun((v2,v3):List (List Bool)×Int)=>Z [p 0 (D y92.pt a0),p 3 (I v0),p 4 (O 28),p 18 (I v0),p 19 (I v3)] [(28,A 76 Ty.bool.sl v2 0)]) ([],0) H fun _ g1 b1 e1 t1 ⟨v2,v3⟩ H=>qA (Z [p 0 (D y92.pt a0),p 3 (I v0),p 4 (O 28),p 18 (I v0),p 19 (I v3),p 20 (B (decide (v3<v0)))] [(28,A 76 Ty.bool.sl v2 0)])<|vQ<|cD H (fun H=>?_) (fun H=>?_)
 ·refine vK<|fQ<|vQ<|vB<|qA (Z [p 0 (D y92.pt a0),p 3 (I v0),p 4 (O 28),p 5 (I v3),p 18 (I v0),p 19 (I v3)] [(28,A 76 Ty.bool.sl v2 0)])<|zD (fun v4=>Z [p 0 (D y92.pt a0),p 3 (I v0),p 4 (AV.os 28 1),p 18 (I v0),p 19 (I v3)] [(28,A 76 Ty.bool.sl (v2++[v4]) 1),(27,A 76 Ty.bool.sl [v4] 0),(25,A 2 i64 [v3] 0)]) H fun v4 H=>fK<|fQ<|zB (Z [p 0 (D y92.pt a0),p 3 (I v0),p 4 (AV.os 28 1),p 18 (I v0),p 19 (I (v3+1))] [(28,A 76 Ty.bool.sl (v2++[v4]) 1),(27,A 76 Ty.bool.sl [v4] 0),(25,A 2 i64 [v3] 0)]) H fun H=>b1 H
 exact vE<|fE<|e1<|fX rfl<|n0 H
def u127(a0:Y107)(a1:List Int):Option (Bool) :=
 gd (((a0.2.2.1==1)=true/\True->(u128 a1 a0.1).isSome=true)/\((a0.2.2.1==1&&vl (u128 a1 a0.1))=true/\True->(u128 a1 a0.2.1).isSome=true)/\True) <|
 some (a0.2.2.1==1&&vl (u128 a1 a0.1)&&vl (u128 a1 a0.2.1))
def k127:Ct:=lct 127 [.agg y107,.dat (.pt i64.sl)] (fun x=>u127 x.1 x.2.1) (fun r:Bool=>B r) (fun _=>())
theorem o127:Ok prog k127:=by
 refine okL [.tmp 3] func127 ntmps127 results127 ?_;intro y ⟨a0,a1,_⟩ r H Q hn hr;have:HT _ _:=⟨tc o128 tn⟩;refine qA (Z [p 1 (D i64.sl.pt a1),p 2 (R 2)] [(2,K 107 y107 a0)])<|qB (Z [p 3 (B (a0.2.2.1==1&&vl (u128 a1 a0.1)&&vl (u128 a1 a0.2.1)))] [(2,K 107 y107 a0)]) H fun H=>vTT<|hr H
def u126c127J0:List Int->Option (List Int)
 | v6 =>
 some v6
def u126c127J2(v3:Int)(g1:List Int×Int->Option (List Int)):List Int->Option (List Int)
 | v5 =>
 gd (in64 (v3+1)/\True) <|
 g1 (v5,v3+1)
def u126c127L1(a0:Y92)(a1:List Int)(g1:List Int×Int->Option (List Int)):List Int×Int->Option (List Int)
 | (v2,v3) =>
 if(decide (v3 < (a0.1.2.2.1.length:Int)))=true then
  gd (ix v3 a0.1.2.2.1.length/\True)<|lt (a0.1.2.2.1.getD v3.toNat (dflt y107)) fun v4 =>
  gd (ix v3 a0.2.length/\(a0.2.getD v3.toNat false=true/\True->(u127 v4 a1).isSome=true)/\True) <|
  if(a0.2.getD v3.toNat false&&vl (u127 v4 a1))=true then
   gd ((v2.length+[v3].length<=9223372036854775807/\(v2.length+[v3].length)*8<=140737488355328)/\True) <|
   u126c127J2 v3 g1 (v2++[v3])
  else
   u126c127J2 v3 g1 v2
 else
  u126c127J0 v2
def u126c127(a0:Y92)(a1:List Int):Option (List Int) :=
 lp (u126c127L1 a0 a1) ([],0)
def k126c127:Ct:=lct 126 [.dat y92.pt,.fn 127 (.pt i64.sl)] (fun x=>u126c127 x.1 x.2.1) (fun r:List Int=>AV.ow 2 true i64 r) (fun _=>())
theorem o126c127:Ok prog k126c127:=by
 refine okL [.tmp 4] func126 ntmps126 results126 ?_;intro y ⟨a0,a1,_⟩ r H Q hn hr;have:HT _ _:=⟨tc o127 tn⟩;refine qA (Z [p 0 (D y92.pt a0),p 1 (AV.fn 127 [D i64.sl.pt a1])] [])<|qA (Z [p 0 (D y92.pt a0),p 1 (AV.fn 127 [D i64.sl.pt a1]),p 5 (nil)] [])<|jN r (fun(v6:List Int)=>Z [p 5 (O 36)] [(36,A 2 i64 v6 0)]) (u126c127J0) (fun v6 H=>?_) (fun _ n0 e0 t0=>?_)
 ·refine qA (Z [p 4 (O 36)] [(36,A 2 i64 v6 0)])<|vTT<|hr H
 refine qA (Z [p 0 (D y92.pt a0),p 1 (AV.fn 127 [D i64.sl.pt a1]),p 5 (nil),p 14 (L y107 a0.1.2.2.1),p 15 (I (a0.1.2.2.1.length:Int)),p 16 (I 0)] [])<|vB<|lX (fun((v2,v3):List Int×Int)=>Z [p 0 (D y92.pt a0),p 1 (AV.fn 127 [D i64.sl.pt a1]),p 5 (O 36),p 14 (L y107 a0.1.2.2.1),p 15 (I (a0.1.2.2.1.length:Int)),p 16 (I v3)] [(36,A 2 i64 v2 0)]) ([],0) H fun _ g1 b1 e1 t1 ⟨v2,v3⟩ H=>qA (Z [p 0 (D y92.pt a0),p 1 (AV.fn 127 [D i64.sl.pt a1]),p 5 (O 36),p 14 (L y107 a0.1.2.2.1),p 15 (I (a0.1.2.2.1.length:Int)),p 16 (I v3),p 17 (B (decide (v3 < (a0.1.2.2.1.length:Int))))] [(36,A 2 i64 v2 0)])<|vQ<|cD H (fun H=>?_) (fun H=>?_)
 ·refine vK<|fQ<|jN r (fun(v5:List Int)=>Z [p 0 (D y92.pt a0),p 1 (AV.fn 127 [D i64.sl.pt a1]),p 5 (O 36),p 14 (L y107 a0.1.2.2.1),p 15 (I (a0.1.2.2.1.length:Int)),p 16 (I v3)] [(36,A 2 i64 v5 0)]) (u126c127J2 v3 g1) (fun v5 H=>?_) (fun _ n2 e2 t2=>?_)
  ·refine zB (Z [p 0 (D y92.pt a0),p 1 (AV.fn 127 [D i64.sl.pt a1]),p 5 (O 36),p 14 (L y107 a0.1.2.2.1),p 15 (I (a0.1.2.2.1.length:Int)),p 16 (I (v3+1))] [(36,A 2 i64 v5 0)]) H fun H=>b1 H
  refine vB<|qD (fun v4=>Z [p 0 (D y92.pt a0),p 1 (AV.fn 127 [D i64.sl.pt a1]),p 5 (O 36),p 6 (I v3),p 7 (R 7),p 14 (L y107 a0.1.2.2.1),p 15 (I (a0.1.2.2.1.length:Int)),p 16 (I v3)] [(7,K 107 y107 v4),(36,A 2 i64 v2 0)]) H fun v4 H=>qB (Z [p 0 (D y92.pt a0),p 1 (AV.fn 127 [D i64.sl.pt a1]),p 5 (O 36),p 6 (I v3),p 14 (L y107 a0.1.2.2.1),p 15 (I (a0.1.2.2.1.length:Int)),p 16 (I v3),p 32 (B (a0.2.getD v3.toNat false&&vl (u127 v4 a1)))] [(7,K 107 y107 v4),(36,A 2 i64 v2 0)]) H fun H=>cD H (fun H=>?_) (fun H=>?_)
  ·refine zB (Z [p 0 (D y92.pt a0),p 1 (AV.fn 127 [D i64.sl.pt a1]),p 5 (AV.os 36 1),p 14 (L y107 a0.1.2.2.1),p 15 (I (a0.1.2.2.1.length:Int)),p 16 (I v3)] [(36,A 2 i64 (v2++[v3]) 1),(35,A 2 i64 [v3] 0),(7,K 107 y107 v4)]) H fun H=>fK<|n2 H
  exact vK<|fK<|n2 H
 exact vE<|fE<|e1<|fX rfl<|n0 H
def u71J0:List Int->Option (List Int)
 | v9 =>
 gd ((s129 v9).isSome=true/\True)<|lt (vl (s129 v9)) fun v10 =>
 some v10
def u71L1(v0:Y113×List Bool)(g1:List Int×List Bool->Option (List Int)):List Int×List Bool->Option (List Int)
 | (v4,v5) =>
 gd ((u57 (v0.1,v5)).isSome=true/\True) <|
 if(vl (u57 (v0.1,v5)))=true then
  gd ((u65 (v0.1,v5)).isSome=true/\ix (0:Int) (vl (u65 (v0.1,v5))).length/\Int.toNat (0:Int) < (vl (u65 (v0.1,v5))).length/\True)<|lt (vl (u65 (v0.1,v5))) fun v6 =>
  gd ((u126c127 (v0.1,v5) (v6.getD (Int.toNat (0:Int)) [])).isSome=true/\True)<|lt (vl (u126c127 (v0.1,v5) (v6.getD (Int.toNat (0:Int)) []))) fun v7 =>
  gd (in64 ((v7.length:Int)-1)/\ix ((v7.length:Int)-1) v7.length/\((v7.length:Int)-1).toNat<v7.length/\True) <|
  gd (ix (v7.getD ((v7.length:Int)-1).toNat 0) v5.length/\Int.toNat (v7.getD ((v7.length:Int)-1).toNat 0)<v5.length/\True)<|lt (v5.set (Int.toNat (v7.getD ((v7.length:Int)-1).toNat 0)) false) fun v8 =>
  gd ((v4.length+[v7.getD ((v7.length:Int)-1).toNat 0].length<=9223372036854775807/\(v4.length+[v7.getD ((v7.length:Int)-1).toNat 0].length)*8<=140737488355328)/\True) <|
  g1 ((v4++[v7.getD ((v7.length:Int)-1).toNat 0],v8))
 else
  u71J0 v4
def u71(a0:Y113):Option (List Int) :=
 gd ((u100 a0 []).isSome=true/\True)<|lt (vl (u100 a0 [])) fun v0 =>
 lp (u71L1 v0) ([],v0.2)
def k71:Ct:=lct 71 [.dat y113.pt] (fun x=>u71 x.1) (fun r:List Int=>AV.ow 2 true i64 r) (fun _=>())
theorem o71:Ok prog k71:=by
 refine okL [.tmp 2] func71 ntmps71 results71 ?_;intro y ⟨a0,_⟩ r H Q hn hr;have:HT _ _:=⟨tc o126c149 (tc o126c152 (tc o126c153 (tc o126c182 (tc o126c127 (tc o127 (tc o65 (tc o57 (tc o100 tn))))))))⟩;refine qA (Z [p 0 (D y113.pt a0)] [])<|qD (fun v0=>Z [p 3 (R 1009)] [(1009,Ob.box 92 [D y113.pt v0.1,AV.os 9 0]),(9,A 4 Ty.bool v0.2 0)]) H fun v0 H=>qA (Z [p 3 (R 1009),p 4 (nil)] [(1009,Ob.box 92 [D y113.pt v0.1,AV.os 9 0]),(9,A 4 Ty.bool v0.2 0)])<|jN r (fun(v9:List Int)=>Z [p 4 (O 34)] [(34,A 2 i64 v9 0)]) (u71J0) (fun v9 H=>?_) (fun _ n0 e0 t0=>?_)
 ·refine vQ<|vx_inpl p129 rfl rfl rfl rfl rfl H fun v10 H=>fQ<|qA (Z [p 2 (O 34)] [(34,A 2 i64 v10 0)])<|vTT<|hr H
 refine vB<|lX (fun((v4,v5):List Int×List Bool)=>Z [p 3 (R 1009),p 4 (O 34)] [(1009,Ob.box 92 [D y113.pt v0.1,AV.os 9 0]),(9,A 4 Ty.bool v5 0),(34,A 2 i64 v4 0)]) ([],v0.2) H fun _ g1 b1 e1 t1 ⟨v4,v5⟩ H=>vQ<|qB (Z [p 3 (R 1009),p 4 (O 34),p 11 (B (vl (u57 (v0.1,v5))))] [(1009,Ob.box 92 [D y113.pt v0.1,AV.os 9 0]),(9,A 4 Ty.bool v5 0),(34,A 2 i64 v4 0)]) H fun H=>cD H (fun H=>?_) (fun H=>?_)
 ·refine vK<|fQ<|vB<|qD (fun v6=>Z [p 3 (R 1009),p 4 (O 34),p 5 (R 5)] [(5,Ob.box 33 [M i64 (v6.getD (Int.toNat (0:Int)) [])]),(13,A 33 i64.sl v6 0),(1009,Ob.box 92 [D y113.pt v0.1,AV.os 9 0]),(9,A 4 Ty.bool v5 0),(34,A 2 i64 v4 0)]) H fun v6 H=>qD (fun v7=>Z [p 3 (R 1009),p 4 (O 34),p 6 (O 18)] [(18,A 2 i64 v7 0),(5,Ob.box 33 [M i64 (v6.getD (Int.toNat (0:Int)) [])]),(13,A 33 i64.sl v6 0),(1009,Ob.box 92 [D y113.pt v0.1,AV.os 9 0]),(9,A 4 Ty.bool v5 0),(34,A 2 i64 v4 0)]) H fun v7 H=>qB (Z [p 3 (R 1009),p 4 (O 34),p 7 (I (v7.getD ((v7.length:Int)-(1:Int)).toNat (0:Int)))] [(18,A 2 i64 v7 0),(5,Ob.box 33 [M i64 (v6.getD (Int.toNat (0:Int)) [])]),(13,A 33 i64.sl v6 0),(1009,Ob.box 92 [D y113.pt v0.1,AV.os 9 0]),(9,A 4 Ty.bool v5 0),(34,A 2 i64 v4 0)]) H fun H=>qD (fun v8=>Z [p 3 (R 1009),p 4 (O 34),p 7 (I (v7.getD ((v7.length:Int)-(1:Int)).toNat (0:Int)))] [(9,A 4 Ty.bool v8 0),(18,A 2 i64 v7 0),(5,Ob.box 33 [M i64 (v6.getD (Int.toNat (0:Int)) [])]),(13,A 33 i64.sl v6 0),(1009,Ob.box 92 [D y113.pt v0.1,AV.os 9 0]),(34,A 2 i64 v4 0)]) H fun v8 H=>zB (Z [p 3 (R 1009),p 4 (AV.os 34 1)] [(34,A 2 i64 (v4++[v7.getD ((v7.length:Int)-(1:Int)).toNat (0:Int)]) 1),(33,A 2 i64 [v7.getD ((v7.length:Int)-(1:Int)).toNat (0:Int)] 0),(9,A 4 Ty.bool v8 0),(18,A 2 i64 v7 0),(5,Ob.box 33 [M i64 (v6.getD (Int.toNat (0:Int)) [])]),(13,A 33 i64.sl v6 0),(1009,Ob.box 92 [D y113.pt v0.1,AV.os 9 0])]) H fun H=>fK<|b1 H
 exact vE<|fE<|e1<|fX rfl<|n0 H
end Go.Proofs.YthobjlocnkienaaGreatDoor
end
