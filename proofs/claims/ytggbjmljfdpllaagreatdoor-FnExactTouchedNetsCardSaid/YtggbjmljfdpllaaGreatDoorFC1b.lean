/- Functions of this program as plain functions of data, and that they are so: printed by program. -/
import Derived.Test.YtggbjmljfdpllaaGreatDoorFC1a
section
namespace Go.Proofs.YtggbjmljfdpllaaGreatDoor
open Go Go.Proofs Go.Proofs.Sv Go.Proofs.Xv Go.Proofs.Xl Go.RowKit
open Tryz
def u172J0(a0:Y134):Unit->Option Bool
 | _ =>
 some (decide ((a0.2.2.2.1.length:Int)<=8))
def u172L1(a0:Y134)(g1:Int->Option Bool):Int->Option Bool
 | v1 =>
 if(decide (v1 < (a0.2.2.2.1.length:Int))) then
  gd (ix v1 a0.2.2.2.1.length/\True)<|lt (a0.2.2.2.1.getD v1.toNat (dflt y190)) fun v2 =>
  gd ((u191 a0 v2).isSome/\((!vl (u191 a0 v2))=false/\True->(0:Int)<=(0:Int)/\(0:Int)<=v1/\v1<=(a0.2.2.2.1.length:Int))/\((!vl (u191 a0 v2))=false/\True->(u192c193 (List.take v1.toNat a0.2.2.2.1) v2).isSome)/\True) <|
  if(!vl (u191 a0 v2)||vl (u192c193 (List.take v1.toNat a0.2.2.2.1) v2)) then
   some false
  else
   gd (in64 (v1+1)/\True) <|
   g1 (v1+1)
 else
  u172J0 a0 ()
def u172(a0:Y134):Option Bool :=
 lp (u172L1 a0) 0
def k172:Ct:=lct 172 [.agg y134] (fun x=>u172 x.1) (fun r:Bool=>B r) (fun _=>())
theorem o172:Ok prog k172:=by
 refine okM [.tmp 2] func172 ?_;intro y ⟨a0,_⟩ r H Q hn hr;have:=hz (tc o192c208 (tc o192c193 (tc o193 (tc o191 tn))));refine iA [1]<|jN r (fun(_:Unit)=>Z [p 1 (R 1)] [(1,K 134 y134 a0)]) (u172J0 a0) (fun _ H=>?_) (fun _ n0 e0 t0=>?_)
 ·refine iA [2]<|vTT<|hr H
 refine iA [1,6,7,8]<|vB<|lX (fun(v1:Int)=>Z [p 1 (R 1),p 6 (L y190 a0.2.2.2.1),p 7 (I (a0.2.2.2.1.length:Int)),p 8 (I v1)] [(1,K 134 y134 a0)]) 0 H fun _ g1 b1 e1 t1 v1 H=>iA [1,6,7,8,9]<|vQ<|cD H (fun H=>?_) (fun H=>?_)
 ·refine vK<|fQ<|vQ<|vB<|qD (fun v2=>Z (G1 v1 [p 4 (R 4),p 6 (L y190 a0.2.2.2.1),p 7 (I (a0.2.2.2.1.length:Int)),p 8 (I v1)]) [(4,K 190 y190 v2),(1,K 134 y134 a0)]) H fun v2 H=>iB [1,6,7,8,24] H fun H=>cD H (fun H=>iA [2]<|vTT<|fDD<|fR<|t1<|fDD<|t0<|hr H) fun H=>vK<|fK<|fQ<|jB [1,6,7,8] H fun H=>b1 H
 exact vE<|fE<|e1<|fX rfl<|n0 H
def u171J0(a0:List Y155):List ByteArray->Option Bool
 | v6 =>
 gd ((u190 a0).isSome/\(u112 (vl (u190 a0)) 2 5).isSome/\(vl (u112 (vl (u190 a0)) 2 5)=true/\True->(u145 v6).isSome)/\True) <|
 some (vl (u112 (vl (u190 a0)) 2 5)&&vl (u145 v6))
def u171J2(v3:Int)(g1:List ByteArray×Int->Option Bool):List ByteArray->Option Bool
 | v5 =>
 gd (in64 (v3+1)/\True) <|
 g1 (v5,v3+1)
def u171L1(a0:List Y155)(g1:List ByteArray×Int->Option Bool):List ByteArray×Int->Option Bool
 | (v2,v3) =>
 if(decide (v3 < (a0.length:Int))) then
  gd (ix v3 a0.length/\True)<|lt (a0.getD v3.toNat (dflt y155)) fun v4 =>
  gd ((v2.length+[v4.1].length<=9223372036854775807/\(v2.length+[v4.1].length)*16<=140737488355328)/\True) <|
  gd (in64 ((a0.length:Int)-1)/\True) <|
  if(v3==(a0.length:Int)-1) then
   if(v4.2.1 != 2||v4.2.2.1 != 0||v4.2.2.2) then
    some false
   else
    u171J2 v3 g1 (v2++[v4.1])
  else
   gd (((v4.2.1 != 1)=false/\True->(u112 v4.2.2.1 0 500).isSome)/\True) <|
   if(v4.2.1 != 1||!vl (u112 v4.2.2.1 0 500)) then
    some false
   else
    u171J2 v3 g1 (v2++[v4.1])
 else
  u171J0 a0 v2
def u171(a0:List Y155):Option Bool :=
 lp (u171L1 a0) ([],0)
def k171:Ct:=lct 171 [.dat y155.sl] (fun x=>u171 x.1) (fun r:Bool=>B r) (fun _=>())
theorem o171:Ok prog k171:=by
 refine okM [.tmp 2] func171 ?_;intro y ⟨a0,_⟩ r H Q hn hr;have:=hz (tc o145 (tc o112 (tc o190 tn)));refine iA [0]<|iA [0,3]<|jN r (fun(v6:List ByteArray)=>Z [p 0 (L y155 a0),p 3 (O 17)] [(17,A 9 Ty.str v6 0)]) (u171J0 a0) (fun v6 H=>?_) (fun _ n0 e0 t0=>?_)
 ·refine iB [2] H fun H=>vTT<|hr H
 refine iA [0,3,6,7,8]<|vB<|lX (fun((v2,v3):List ByteArray×Int)=>Z [p 0 (L y155 a0),p 3 (O 17),p 6 (L y155 a0),p 7 (I (a0.length:Int)),p 8 (I v3)] [(17,A 9 Ty.str v2 0)]) ([],0) H fun _ g1 b1 e1 t1 ⟨v2,v3⟩ H=>iA [0,3,6,7,8,9]<|vQ<|cD H (fun H=>?_) (fun H=>?_)
 ·refine vK<|fQ<|jN r (fun(v5:List ByteArray)=>Z [p 0 (L y155 a0),p 3 (O 17),p 6 (L y155 a0),p 7 (I (a0.length:Int)),p 8 (I v3)] [(17,A 9 Ty.str v5 0)]) (u171J2 v3 g1) (fun v5 H=>?_) (fun _ n2 e2 t2=>?_)
  ·refine jB [0,3,6,7,8] H fun H=>b1 H
  refine vB<|qD (fun v4=>Z [p 0 (L y155 a0),p 3 (O 17),p 4 (I v3),p 5 (R 5),p 6 (L y155 a0),p 7 (I (a0.length:Int)),p 8 (I v3)] [(5,K 155 y155 v4),(17,A 9 Ty.str v2 0)]) H fun v4 H=>iB [0,3,4,5,6,7,8] H fun H=>iB [0,3,5,6,7,8,22] H fun H=>cD H (fun H=>?_) (fun H=>?_)
  ·refine iA [0,3,6,7,8,34]<|cD H (fun H=>iA [2]<|vTT<|fDD<|t2<|t1<|fDD<|t0<|hr H) fun H=>vK<|fK<|n2 H
  refine iB [0,3,6,7,8,43] H fun H=>cD H (fun H=>iA [2]<|vTT<|fDD<|t2<|t1<|fDD<|t0<|hr H) fun H=>vK<|fK<|n2 H
 exact vE<|fE<|e1<|fX rfl<|n0 H
def u144(a0:Y134):Option Bool :=
 gd ((u121 a0.1).isSome/\(vl (u121 a0.1)=true/\True->(u171 a0.2.2.1).isSome)/\((vl (u121 a0.1)&&vl (u171 a0.2.2.1))=true/\True->(u172 a0).isSome)/\((vl (u121 a0.1)&&vl (u171 a0.2.2.1)&&vl (u172 a0))=true/\True->(u112 a0.2.2.2.2.2.1 0 100000).isSome)/\((vl (u121 a0.1)&&vl (u171 a0.2.2.1)&&vl (u172 a0)&&vl (u112 a0.2.2.2.2.2.1 0 100000))=true/\True->(u112 a0.2.2.2.2.2.2 0 100000).isSome)/\((vl (u121 a0.1)&&vl (u171 a0.2.2.1)&&vl (u172 a0)&&vl (u112 a0.2.2.2.2.2.1 0 100000)&&vl (u112 a0.2.2.2.2.2.2 0 100000))=true/\True->(u173 a0).isSome)/\True) <|
 some (vl (u121 a0.1)&&vl (u171 a0.2.2.1)&&vl (u172 a0)&&vl (u112 a0.2.2.2.2.2.1 0 100000)&&vl (u112 a0.2.2.2.2.2.2 0 100000)&&vl (u173 a0))
def k144:Ct:=lct 144 [.agg y134] (fun x=>u144 x.1) (fun r:Bool=>B r) (fun _=>())
theorem o144:Ok prog k144:=by
 refine okM [.tmp 2] func144 ?_;intro y ⟨_,_⟩ r H Q hn hr;have:=hz (tc o173 (tc o112 (tc o172 (tc o171 (tc o121 tn)))));refine iA [1]<|iB [2] H fun H=>vTT<|hr H
def u105J0(a0:List Y134):List ByteArray->Option Bool
 | v4 =>
 gd ((decide ((a0.length:Int)<=8)=true/\True->(u145 v4).isSome)/\True) <|
 some (decide ((a0.length:Int)<=8)&&vl (u145 v4))
def u105L1(a0:List Y134)(g1:List ByteArray×Int->Option Bool):List ByteArray×Int->Option Bool
 | (v1,v2) =>
 if(decide (v2 < (a0.length:Int))) then
  gd (ix v2 a0.length/\True)<|lt (a0.getD v2.toNat (dflt y134)) fun v3 =>
  gd ((u144 v3).isSome/\True) <|
  if(!vl (u144 v3)) then
   some false
  else
   gd ((v1.length+[v3.1].length<=9223372036854775807/\(v1.length+[v3.1].length)*16<=140737488355328)/\True) <|
   gd (in64 (v2+1)/\True) <|
   g1 (v1++[v3.1],v2+1)
 else
  u105J0 a0 v1
def u105(a0:List Y134):Option Bool :=
 lp (u105L1 a0) ([],0)
def k105:Ct:=lct 105 [.agg y134.sl] (fun x=>u105 x.1) (fun r:Bool=>B r) (fun _=>())
theorem o105:Ok prog k105:=by
 refine okM [.tmp 2] func105 ?_;intro y ⟨a0,_⟩ r H Q hn hr;have:=hz (tc o145 (tc o144 tn));refine iA [1]<|iA [1,3]<|jN r (fun(v4:List ByteArray)=>Z (G4 []) [(1,bx 44 [L y134 a0]),(20,A 9 Ty.str v4 0)]) (u105J0 a0) (fun v4 H=>?_) (fun _ n0 e0 t0=>?_)
 ·refine iB [2] H fun H=>vTT<|hr H
 refine iA [1,3,7,8,9]<|vB<|lX (fun((v1,v2):List ByteArray×Int)=>Z (G4 [p 7 (L y134 a0),p 8 (I (a0.length:Int)),p 9 (I v2)]) [(1,bx 44 [L y134 a0]),(20,A 9 Ty.str v1 0)]) ([],0) H fun _ g1 b1 e1 t1 ⟨v1,v2⟩ H=>iA [1,3,7,8,9,10]<|vQ<|cD H (fun H=>?_) (fun H=>?_)
 ·refine vK<|fQ<|vQ<|vB<|qD (fun v3=>Z (G4 [p 5 (R 5),p 7 (L y134 a0),p 8 (I (a0.length:Int)),p 9 (I v2)]) [(5,K 134 y134 v3),(1,bx 44 [L y134 a0]),(20,A 9 Ty.str v1 0)]) H fun v3 H=>vQ<|iB [1,3,5,7,8,9,15] H fun H=>cD H (fun H=>iA [2]<|vTT<|fR<|fDD<|fR<|t1<|fDD<|t0<|hr H) fun H=>vK<|fQ<|jB [1,3,7,8,9] H fun H=>fK<|fQ<|jB [1,3,7,8,9] H fun H=>b1 H
 exact vE<|fE<|e1<|fX rfl<|n0 H
def u148c110J0:Unit->Option Int
 | _ =>
 some (-1)
def u148c110L1(a0:List Int)(g1:Int->Option Int):Int->Option Int
 | v0 =>
 if(decide (v0 < (a0.length:Int))) then
  gd (ix v0 a0.length/\(u110 (a0.getD v0.toNat 0)).isSome/\True) <|
  if(vl (u110 (a0.getD v0.toNat 0))) then
   some v0
  else
   gd (in64 (v0+1)/\True) <|
   g1 (v0+1)
 else
  u148c110J0 ()
def u148c110(a0:List Int):Option Int :=
 lp (u148c110L1 a0) 0
def k148c110:Ct:=lct 148 [.dat i64.sl,.nof 110] (fun x=>u148c110 x.1) (fun r:Int=>I r) (fun _=>())
theorem o148c110:Ok prog k148c110:=by
 refine okM [.tmp 4] func148 ?_;intro y ⟨a0,_,_⟩ r H Q hn hr;have:=hz (tc o110 tn);refine iA [0,1]<|jN r (fun(_:Unit)=>Z [] []) (u148c110J0) (fun _ H=>?_) (fun _ n0 e0 t0=>?_)
 ·refine iA [4]<|vTT<|hr H
 refine iA [0,1,7,8]<|vB<|lX (fun(v0:Int)=>Z [p 0 (L i64 a0),p 1 (AV.fn 110 []),p 7 (I (a0.length:Int)),p 8 (I v0)] []) 0 H fun _ g1 b1 e1 t1 v0 H=>iA [0,1,7,8,9]<|vQ<|cD H (fun H=>?_) (fun H=>?_)
 ·refine vK<|fQ<|vQ<|vB<|iA [0,1,5,7,8]<|iB [0,1,5,7,8,16] H fun H=>cD H (fun H=>iA [4]<|vTT<|fDD<|fR<|t1<|fDD<|t0<|hr H) fun H=>vK<|fK<|fQ<|jB [0,1,7,8] H fun H=>b1 H
 exact vE<|fE<|e1<|fX rfl<|n0 H
def u109c110(a0:List Int):Option Bool :=
 gd ((u148c110 a0).isSome/\True)<|lt (vl (u148c110 a0)) fun v0 =>
 some (decide (0<=v0))
def k109c110:Ct:=lct 109 [.dat i64.sl,.nof 110] (fun x=>u109c110 x.1) (fun r:Bool=>B r) (fun _=>())
theorem o109c110:Ok prog k109c110:=by
 refine okM [.tmp 4] func109 ?_;intro y ⟨_,_,_⟩ r H Q hn hr;have:=hz (tc o148c110 (tc o110 tn));refine iA [0,1]<|iD o148c110 [4] H fun _ H=>vTT<|hr H
def u84J2:List Int->Option Bool
 | v13 =>
 gd ((u109c110 v13).isSome/\True) <|
 some (!vl (u109c110 v13))
def u84J4(v9:Int)(g3:Int×List Int->Option Bool):List Int->Option Bool
 | v12 =>
 gd (in64 (v9+1)/\True) <|
 g3 (v9+1,v12)
def u84L3(a1:Y48)(g3:Int×List Int->Option Bool):Int×List Int->Option Bool
 | (v9,v10) =>
 if(decide (v9 < (a1.2.2.length:Int))) then
  gd (ix v9 a1.2.2.length/\True)<|lt (a1.2.2.getD v9.toNat (dflt y138)) fun v11 =>
  gd (((v11.2.1 != 1&&v11.2.1 != 2)=false/\True->(u108 a1 v11.2.2).isSome)/\True) <|
  if(v11.2.1 != 1&&v11.2.1 != 2||!vl (u108 a1 v11.2.2)) then
   some false
  else
   if(v11.2.1==1) then
    gd (ix v11.2.2 v10.length/\v11.2.2.toNat<v10.length/\in64 (v10.getD v11.2.2.toNat 0+1)/\ix v11.2.2 v10.length/\v11.2.2.toNat<v10.length/\True) <|
    u84J4 v9 g3 (v10.set v11.2.2.toNat (v10.getD v11.2.2.toNat 0+1))
   else
    u84J4 v9 g3 v10
 else
  u84J2 v10
def u84J0(a1:Y48):List Int->Option Bool
 | v6 =>
 lp (u84L3 a1) (0,v6)
def u84L1(a1:Y48)(a0:List Y134)(g1:Int×List Int->Option Bool):Int×List Int->Option Bool
 | (v2,v3) =>
 if(decide (v2 < (a1.1.length:Int))) then
  gd (ix v2 a1.1.length/\True)<|lt (a1.1.getD v2.toNat (dflt y94)) fun v4 =>
  gd ((u107 a1 a0 v4).isSome/\True) <|
  if(!vl (u107 a1 a0 v4)) then
   some false
  else
   gd (in64 ((v4.2.2.length:Int)-1)/\ix ((v4.2.2.length:Int)-1) v4.2.2.length/\ix (v4.2.2.getD ((v4.2.2.length:Int)-1).toNat 0) v3.length/\Int.toNat (v4.2.2.getD ((v4.2.2.length:Int)-1).toNat 0)<v3.length/\in64 (v3.getD (Int.toNat (v4.2.2.getD ((v4.2.2.length:Int)-1).toNat 0)) 0+1)/\ix (v4.2.2.getD ((v4.2.2.length:Int)-1).toNat 0) v3.length/\Int.toNat (v4.2.2.getD ((v4.2.2.length:Int)-1).toNat 0)<v3.length/\True)<|lt (v3.set (Int.toNat (v4.2.2.getD ((v4.2.2.length:Int)-1).toNat 0)) (v3.getD (Int.toNat (v4.2.2.getD ((v4.2.2.length:Int)-1).toNat 0)) 0+1)) fun v5 =>
   gd (in64 (v2+1)/\True) <|
   g1 (v2+1,v5)
 else
  u84J0 a1 v3
def u84(a0:List Y134)(a1:Y48):Option Bool :=
 gd ((u105 a0).isSome/\((!vl (u105 a0))=false/\True->(u106 a1).isSome)/\True) <|
 if(!vl (u105 a0)||!vl (u106 a1)) then
  some false
 else
  gd ((0<=(a1.2.1.length:Int)/\(a1.2.1.length:Int)=(a1.2.1.length:Int)/\(a1.2.1.length:Int).toNat*8<=281474976710656/\(a1.2.1.length:Int)<=9223372036854775807)/\True) <|
  lp (u84L1 a1 a0) ((0,List.replicate (a1.2.1.length:Int).toNat 0))
def k84:Ct:=lct 84 [.agg y134.sl,.agg y48] (fun x=>u84 x.1 x.2.1) (fun r:Bool=>B r) (fun _=>())
theorem o84:Ok prog k84:=by
 refine okM [.tmp 4] func84 ?_;intro y ⟨a0,a1,_⟩ r H Q hn hr;have:=hz (tc o110 (tc o109c110 (tc o108 (tc o107 (tc o106 (tc o105 tn))))));refine iA [2,3]<|vQ<|iB [2,3,17] H fun H=>cD H (fun H=>iA [4]<|vTT<|fR<|hr H) fun H=>vK<|fQ<|iB [2,3,5] H fun H=>jN r (fun(v6:List Int)=>Z [p 3 (R 3),p 5 (O 21)] [(21,A 3 i64 v6 0),(3,K 48 y48 a1)]) (u84J0 a1) (fun v6 H=>?_) (fun _ n0 e0 t0=>?_)
 ·refine jN r (fun(v13:List Int)=>Z [p 5 (O 21)] [(21,A 3 i64 v13 0)]) (u84J2) (fun v13 H=>?_) (fun _ n2 e2 t2=>?_)
  ·refine iB [4] H fun H=>vTT<|hr H
  refine iA [3,5,49,50,51]<|vB<|lX (fun((v9,v10):Int×List Int)=>Z [p 3 (R 3),p 5 (O 21),p 49 (L y138 a1.2.2),p 50 (I (a1.2.2.length:Int)),p 51 (I v9)] [(21,A 3 i64 v10 0),(3,K 48 y48 a1)]) (0,v6) H fun _ g3 b3 e3 t3 ⟨v9,v10⟩ H=>iA [3,5,49,50,51,52]<|vQ<|cD H (fun H=>?_) (fun H=>?_)
  ·refine vK<|fQ<|jN r (fun(v12:List Int)=>Z [p 3 (R 3),p 5 (O 21),p 49 (L y138 a1.2.2),p 50 (I (a1.2.2.length:Int)),p 51 (I v9)] [(21,A 3 i64 v12 0),(3,K 48 y48 a1)]) (u84J4 v9 g3) (fun v12 H=>?_) (fun _ n4 e4 t4=>?_)
   ·refine jB [3,5,49,50,51] H fun H=>b3 H
   refine vB<|qD (fun v11=>Z [p 3 (R 3),p 5 (O 21),p 9 (R 9),p 49 (L y138 a1.2.2),p 50 (I (a1.2.2.length:Int)),p 51 (I v9)] [(9,K 138 y138 v11),(21,A 3 i64 v10 0),(3,K 48 y48 a1)]) H fun v11 H=>vQ<|iB [3,5,9,49,50,51,69] H fun H=>cD H (fun H=>iA [4]<|vTT<|fR<|fDD<|t4<|t3<|fDD<|t2<|hr H) fun H=>vK<|fQ<|iA [3,5,9,49,50,51,72]<|cD H (fun H=>jB [3,5,49,50,51] H fun H=>fK<|n4 H) fun H=>vK<|fK<|n4 H
  exact vE<|fE<|e3<|fX rfl<|n2 H
 refine iA [2,3,5,23,24,25]<|vB<|lX (fun((v2,v3):Int×List Int)=>Z (G0 [p 5 (O 21),p 23 (L y94 a1.1),p 24 (I (a1.1.length:Int)),p 25 (I v2)]) ((21,A 3 i64 v3 0)::W2 a1 a0)) ((0,List.replicate (a1.2.1.length:Int).toNat 0)) H fun _ g1 b1 e1 t1 ⟨v2,v3⟩ H=>iA [2,3,5,23,24,25,26]<|vQ<|cD H (fun H=>?_) (fun H=>?_)
 ·refine vK<|fQ<|vQ<|vB<|qD (fun v4=>Z (G0 [p 5 (O 21),p 7 (R 7),p 23 (L y94 a1.1),p 24 (I (a1.1.length:Int)),p 25 (I v2)]) ((7,K 94 y94 v4)::(21,A 3 i64 v3 0)::W2 a1 a0)) H fun v4 H=>vQ<|iB [2,3,5,7,23,24,25,33] H fun H=>cD H (fun H=>iA [4]<|vTT<|fR<|fDD<|fR<|t1<|fDD<|t0<|hr H) fun H=>vK<|fQ<|zD (fun v5=>Z (G0 [p 5 (O 21),p 23 (L y94 a1.1),p 24 (I (a1.1.length:Int)),p 25 (I v2)]) ((21,A 3 i64 v5 0)::(7,K 94 y94 v4)::W2 a1 a0)) H fun v5 H=>fK<|fQ<|jB [2,3,5,23,24,25] H fun H=>b1 H
 exact vE<|fE<|e1<|fX rfl<|n0 H
def u53J3:Unit->Option Bool
 | _ =>
 some true
def u53L4(v9:List Int)(a0:Y51)(g4:Int->Option Bool):Int->Option Bool
 | v11 =>
 if(decide (v11 < (a0.2.2.length:Int))) then
  gd (ix v11 a0.2.2.length/\True)<|lt (a0.2.2.getD v11.toNat (dflt y53)) fun v12 =>
  gd (ix v11 v9.length/\v11.toNat<v9.length/\(u85 v12 (v9.getD v11.toNat 0)).isSome/\True) <|
  if(!vl (u85 v12 (v9.getD v11.toNat 0))) then
   some false
  else
   gd (in64 (v11+1)/\True) <|
   g4 (v11+1)
 else
  u53J3 ()
def u53J0(a0:Y51):List Int->Option Bool
 | v9 =>
 lp (u53L4 v9 a0) 0
def u53J2(v4:Int)(g1:Int×List Int->Option Bool):List Int->Option Bool
 | v8 =>
 gd (in64 (v4+1)/\True) <|
 g1 (v4+1,v8)
def u53L1(v0:List Y104)(a0:Y51)(g1:Int×List Int->Option Bool):Int×List Int->Option Bool
 | (v4,v5) =>
 if(decide (v4 < (v0.length:Int))) then
  gd (ix v4 v0.length/\v4.toNat<v0.length/\True)<|lt (v0.getD v4.toNat (dflt y104)) fun v6 =>
  if(!v6.2.2.2) then
   gd (ix v6.2.2.1 v5.length/\v6.2.2.1.toNat<v5.length/\in64 (v5.getD v6.2.2.1.toNat 0+1)/\ix v6.2.2.1 v5.length/\v6.2.2.1.toNat<v5.length/\True)<|lt (v5.set v6.2.2.1.toNat (v5.getD v6.2.2.1.toNat 0+1)) fun v7 =>
   u53J2 v4 g1 v7
  else
   u53J2 v4 g1 v5
 else
  u53J0 a0 v5
def u53(a0:Y51):Option Bool :=
 gd ((u84 a0.1 a0.2.1).isSome/\True) <|
 if(!vl (u84 a0.1 a0.2.1)||(a0.2.2.length:Int) != (a0.2.1.2.1.length:Int)) then
  some false
 else
  gd ((0<=(a0.2.2.length:Int)/\(a0.2.2.length:Int)=(a0.2.2.length:Int)/\(a0.2.2.length:Int).toNat*8<=281474976710656/\(a0.2.2.length:Int)<=9223372036854775807)/\True) <|
  gd ((u56 a0.2.1).isSome/\True)<|lt (vl (u56 a0.2.1)) fun v0 =>
  lp (u53L1 v0 a0) ((0,List.replicate (a0.2.2.length:Int).toNat 0))
def k53:Ct:=lct 53 [.agg y51] (fun x=>u53 x.1) (fun r:Bool=>B r) (fun _=>())
theorem o53:Ok prog k53:=by
 refine okM [.tmp 2] func53 ?_;intro y ⟨a0,_⟩ r H Q hn hr;have:=hz (tc o85 (tc o56 (tc o84 tn)));refine iA [1]<|vQ<|iB [1,23] H fun H=>cD H (fun H=>iA [2]<|vTT<|fR<|hr H) fun H=>vK<|fQ<|iB [1,3] H fun H=>jN r (fun(v9:List Int)=>Z [p 1 (R 1),p 3 (O 27)] [(27,A 2 i64 v9 0),(1,K 51 y51 a0)]) (u53J0 a0) (fun v9 H=>?_) (fun _ n0 e0 t0=>?_)
 ·refine jN r (fun(_:Unit)=>Z [] []) (u53J3) (fun _ H=>?_) (fun _ n3 e3 t3=>?_)
  ·refine iA [2]<|vTT<|hr H
  refine iA [3,48,49,50]<|vB<|lX (fun(v11:Int)=>Z [p 3 (O 27),p 48 (L y53 a0.2.2),p 49 (I (a0.2.2.length:Int)),p 50 (I v11)] [(27,A 2 i64 v9 0)]) 0 H fun _ g4 b4 e4 t4 v11 H=>iA [3,48,49,50,51]<|vQ<|cD H (fun H=>?_) (fun H=>?_)
  ·refine vK<|fQ<|vQ<|vB<|qD (fun v12=>Z [p 3 (O 27),p 6 (I v11),p 7 (R 7),p 48 (L y53 a0.2.2),p 49 (I (a0.2.2.length:Int)),p 50 (I v11)] [(7,K 53 y53 v12),(27,A 2 i64 v9 0)]) H fun v12 H=>iB [3,48,49,50,61] H fun H=>cD H (fun H=>iA [2]<|vTT<|fDD<|fR<|t4<|fDD<|t3<|hr H) fun H=>vK<|fK<|fQ<|jB [3,48,49,50] H fun H=>b4 H
  exact vE<|fE<|e4<|fX rfl<|n3 H
 refine iD o56 [1,3,30,31,32] H fun v0 H=>vB<|lX (fun((v4,v5):Int×List Int)=>Z [p 1 (R 1),p 3 (O 27),p 30 (O 30),p 31 (I (v0.length:Int)),p 32 (I v4)] [(30,A 104 y104 v0 0),(27,A 2 i64 v5 0),(1,K 51 y51 a0)]) ((0,List.replicate (a0.2.2.length:Int).toNat 0)) H fun _ g1 b1 e1 t1 ⟨v4,v5⟩ H=>iA [1,3,30,31,32,33]<|vQ<|cD H (fun H=>?_) (fun H=>?_)
 ·refine vK<|fQ<|jN r (fun(v8:List Int)=>Z [p 1 (R 1),p 3 (O 27),p 30 (O 30),p 31 (I (v0.length:Int)),p 32 (I v4)] [(27,A 2 i64 v8 0),(30,A 104 y104 v0 0),(1,K 51 y51 a0)]) (u53J2 v4 g1) (fun v8 H=>?_) (fun _ n2 e2 t2=>?_)
  ·refine jB [1,3,30,31,32] H fun H=>b1 H
  refine vB<|qD (fun v6=>Z [p 1 (R 1),p 3 (O 27),p 5 (R 5),p 30 (O 30),p 31 (I (v0.length:Int)),p 32 (I v4)] [(5,bx 104 (cellsD true y104 v6)),(30,A 104 y104 v0 0),(27,A 2 i64 v5 0),(1,K 51 y51 a0)]) H fun v6 H=>iA [1,3,5,30,31,32,38]<|cD H (fun H=>zD (fun v7=>Z [p 1 (R 1),p 3 (O 27),p 30 (O 30),p 31 (I (v0.length:Int)),p 32 (I v4)] [(27,A 2 i64 v7 0),(5,bx 104 (cellsD true y104 v6)),(30,A 104 y104 v0 0),(1,K 51 y51 a0)]) H fun v7 H=>fK<|n2 H) fun H=>vK<|fK<|n2 H
 exact vE<|fE<|e1<|fX rfl<|n0 H
def u28(a0:Y51)(a1:Y55):Option Int :=
 gd ((u53 a0).isSome/\True) <|
 if(!vl (u53 a0)) then
  some 1
 else
  gd ((u54 a1 a0).isSome/\True)<|lt (vl (u54 a1 a0)) fun v0 =>
  some v0
def k28:Ct:=lct 28 [.agg y51,.agg y55] (fun x=>u28 x.1 x.2.1) (fun r:Int=>I r) (fun _=>())
theorem o28:Ok prog k28:=by
 refine okM [.tmp 4] func28 ?_;intro y ⟨_,_,_⟩ r H Q hn hr;have:=hz (tc o54 (tc o53 tn));refine iA [2,3]<|vQ<|iB [2,3,7] H fun H=>cD H (fun H=>iA [4]<|vTT<|fR<|hr H) fun H=>vK<|fQ<|iD o54 [4] H fun _ H=>vTT<|hr H
def u10J0:Unit->Option Bool
 | _ =>
 some true
def u10L1(a0:List Int)(a1:List Int)(g1:Int->Option Bool):Int->Option Bool
 | v0 =>
 if(decide (v0 < (a0.length:Int))) then
  gd (ix v0 a0.length/\ix v0 a1.length/\True) <|
  if(a0.getD v0.toNat 0 != a1.getD v0.toNat 0) then
   some false
  else
   gd (in64 (v0+1)/\True) <|
   g1 (v0+1)
 else
  u10J0 ()
def u10(a0:List Int)(a1:List Int):Option Bool :=
 if((a0.length:Int) != (a1.length:Int)) then
  some false
 else
  lp (u10L1 a0 a1) 0
def k10:Ct:=lct 10 [.dat i64.sl,.dat i64.sl] (fun x=>u10 x.1 x.2.1) (fun r:Bool=>B r) (fun _=>())
theorem o10:Ok prog k10:=by
 refine okM [.tmp 4] func10 ?_;intro y ⟨a0,a1,_⟩ r H Q hn hr;refine iA [0,1]<|vQ<|iA [0,1,10]<|cD H (fun H=>iA [4]<|vTT<|fR<|hr H) fun H=>vK<|fQ<|jN r (fun(_:Unit)=>Z [] []) (u10J0) (fun _ H=>?_) (fun _ n0 e0 t0=>?_)
 ·refine iA [4]<|vTT<|hr H
 refine iA [0,1,5]<|vB<|lX (fun(v0:Int)=>Z [p 0 (L i64 a0),p 1 (L i64 a1),p 5 (I v0)] []) 0 H fun _ g1 b1 e1 t1 v0 H=>vQ<|iA [0,1,5,14]<|cD H (fun H=>?_) (fun H=>?_)
 ·refine vK<|fQ<|vQ<|vB<|iB [0,1,5,25] H fun H=>cD H (fun H=>iA [4]<|vTT<|fDD<|fR<|t1<|fDD<|t0<|hr H) fun H=>vK<|fK<|fQ<|jB [0,1,5] H fun H=>b1 H
 exact vE<|fE<|e1<|fX rfl<|n0 H
def u33(a0:Y53)(a1:Y53):Option Bool :=
 gd ((u10 a0.1 a1.1).isSome/\True) <|
 if(!vl (u10 a0.1 a1.1)) then
  some false
 else
  gd ((u10 a0.2.1 a1.2.1).isSome/\True) <|
  if(!vl (u10 a0.2.1 a1.2.1)) then
   some false
  else
   gd ((u10 a0.2.2.1 a1.2.2.1).isSome/\True) <|
   if(!vl (u10 a0.2.2.1 a1.2.2.1)) then
    some false
   else
    gd ((u10 a0.2.2.2 a1.2.2.2).isSome/\True) <|
    if(!vl (u10 a0.2.2.2 a1.2.2.2)) then
     some false
    else
     some true
def k33:Ct:=lct 33 [.agg y53,.agg y53] (fun x=>u33 x.1 x.2.1) (fun r:Bool=>B r) (fun _=>())
theorem o33:Ok prog k33:=by
 refine okM [.tmp 4] func33 ?_;intro y ⟨_,_,_⟩ r H Q hn hr;have:=hz (tc o10 tn);refine iA [2,3]<|vQ<|iB [2,3,10] H fun H=>cD H (fun H=>iA [4]<|vTT<|fR<|hr H) fun H=>vK<|fQ<|vQ<|iB [2,3,16] H fun H=>cD H (fun H=>iA [4]<|vTT<|fR<|hr H) fun H=>vK<|fQ<|vQ<|iB [2,3,22] H fun H=>cD H (fun H=>iA [4]<|vTT<|fR<|hr H) fun H=>vK<|fQ<|vQ<|iB [28] H fun H=>cD H (fun H=>iA [4]<|vTT<|fR<|hr H) fun H=>vK<|fQ<|iA [4]<|vTT<|hr H
def u32J0:Unit->Option Bool
 | _ =>
 some true
def u32L1(a0:List Y53)(a1:List Y53)(g1:Int->Option Bool):Int->Option Bool
 | v0 =>
 if(decide (v0 < (a0.length:Int))) then
  gd (ix v0 a0.length/\ix v0 a1.length/\(u33 (a0.getD v0.toNat (dflt y53)) (a1.getD v0.toNat (dflt y53))).isSome/\True) <|
  if(!vl (u33 (a0.getD v0.toNat (dflt y53)) (a1.getD v0.toNat (dflt y53)))) then
   some false
  else
   gd (in64 (v0+1)/\True) <|
   g1 (v0+1)
 else
  u32J0 ()
def u32(a0:List Y53)(a1:List Y53):Option Bool :=
 if((a0.length:Int) != (a1.length:Int)) then
  some false
 else
  lp (u32L1 a0 a1) 0
def k32:Ct:=lct 32 [.dat y53.sl,.dat y53.sl] (fun x=>u32 x.1 x.2.1) (fun r:Bool=>B r) (fun _=>())
theorem o32:Ok prog k32:=by
 refine okM [.tmp 4] func32 ?_;intro y ⟨a0,a1,_⟩ r H Q hn hr;have:=hz (tc o33 tn);refine iA [0,1]<|vQ<|iA [0,1,10]<|cD H (fun H=>iA [4]<|vTT<|fR<|hr H) fun H=>vK<|fQ<|jN r (fun(_:Unit)=>Z [] []) (u32J0) (fun _ H=>?_) (fun _ n0 e0 t0=>?_)
 ·refine iA [4]<|vTT<|hr H
 refine iA [0,1,5]<|vB<|lX (fun(v0:Int)=>Z [p 0 (L y53 a0),p 1 (L y53 a1),p 5 (I v0)] []) 0 H fun _ g1 b1 e1 t1 v0 H=>vQ<|iA [0,1,5,14]<|cD H (fun H=>?_) (fun H=>?_)
 ·refine vK<|fQ<|vQ<|vB<|iB [0,1,5,26] H fun H=>cD H (fun H=>iA [4]<|vTT<|fDD<|fR<|t1<|fDD<|t0<|hr H) fun H=>vK<|fK<|fQ<|jB [0,1,5] H fun H=>b1 H
 exact vE<|fE<|e1<|fX rfl<|n0 H
def u92(a0:Y138)(a1:Y138):Option Bool :=
 if(!decide (a0.1=a1.1)) then
  some false
 else
  if(a0.2.1 != a1.2.1) then
   some false
  else
   if(a0.2.2 != a1.2.2) then
    some false
   else
    some true
def k92:Ct:=lct 92 [.agg y138,.agg y138] (fun x=>u92 x.1 x.2.1) (fun r:Bool=>B r) (fun _=>())
theorem o92:Ok prog k92:=by
 refine okM [.tmp 4] func92 ?_;intro y ⟨_,_,_⟩ r H Q hn hr;refine iA [2,3]<|vQ<|iA [2,3,9]<|cD H (fun H=>iA [4]<|vTT<|fR<|hr H) fun H=>vK<|fQ<|vQ<|iA [2,3,14]<|cD H (fun H=>iA [4]<|vTT<|fR<|hr H) fun H=>vK<|fQ<|vQ<|iA [19]<|cD H (fun H=>iA [4]<|vTT<|fR<|hr H) fun H=>vK<|fQ<|iA [4]<|vTT<|hr H
def u63J0:Unit->Option Bool
 | _ =>
 some true
def u63L1(a0:List Y138)(a1:List Y138)(g1:Int->Option Bool):Int->Option Bool
 | v0 =>
 if(decide (v0 < (a0.length:Int))) then
  gd (ix v0 a0.length/\ix v0 a1.length/\(u92 (a0.getD v0.toNat (dflt y138)) (a1.getD v0.toNat (dflt y138))).isSome/\True) <|
  if(!vl (u92 (a0.getD v0.toNat (dflt y138)) (a1.getD v0.toNat (dflt y138)))) then
   some false
  else
   gd (in64 (v0+1)/\True) <|
   g1 (v0+1)
 else
  u63J0 ()
def u63(a0:List Y138)(a1:List Y138):Option Bool :=
 if((a0.length:Int) != (a1.length:Int)) then
  some false
 else
  lp (u63L1 a0 a1) 0
def k63:Ct:=lct 63 [.dat y138.sl,.dat y138.sl] (fun x=>u63 x.1 x.2.1) (fun r:Bool=>B r) (fun _=>())
theorem o63:Ok prog k63:=by
 refine okM [.tmp 4] func63 ?_;intro y ⟨a0,a1,_⟩ r H Q hn hr;have:=hz (tc o92 tn);refine iA [0,1]<|vQ<|iA [0,1,10]<|cD H (fun H=>iA [4]<|vTT<|fR<|hr H) fun H=>vK<|fQ<|jN r (fun(_:Unit)=>Z [] []) (u63J0) (fun _ H=>?_) (fun _ n0 e0 t0=>?_)
 ·refine iA [4]<|vTT<|hr H
 refine iA [0,1,5]<|vB<|lX (fun(v0:Int)=>Z [p 0 (L y138 a0),p 1 (L y138 a1),p 5 (I v0)] []) 0 H fun _ g1 b1 e1 t1 v0 H=>vQ<|iA [0,1,5,14]<|cD H (fun H=>?_) (fun H=>?_)
 ·refine vK<|fQ<|vQ<|vB<|iB [0,1,5,26] H fun H=>cD H (fun H=>iA [4]<|vTT<|fDD<|fR<|t1<|fDD<|t0<|hr H) fun H=>vK<|fK<|fQ<|jB [0,1,5] H fun H=>b1 H
 exact vE<|fE<|e1<|fX rfl<|n0 H
def u62J0:Unit->Option Bool
 | _ =>
 some true
def u62L1(a0:List ByteArray)(a1:List ByteArray)(g1:Int->Option Bool):Int->Option Bool
 | v0 =>
 if(decide (v0 < (a0.length:Int))) then
  gd (ix v0 a0.length/\ix v0 a1.length/\True) <|
  if(!decide (a0.getD v0.toNat (dflt Ty.str)=a1.getD v0.toNat (dflt Ty.str))) then
   some false
  else
   gd (in64 (v0+1)/\True) <|
   g1 (v0+1)
 else
  u62J0 ()
def u62(a0:List ByteArray)(a1:List ByteArray):Option Bool :=
 if((a0.length:Int) != (a1.length:Int)) then
  some false
 else
  lp (u62L1 a0 a1) 0
def k62:Ct:=lct 62 [.dat Ty.str.sl,.dat Ty.str.sl] (fun x=>u62 x.1 x.2.1) (fun r:Bool=>B r) (fun _=>())
theorem o62:Ok prog k62:=by
 refine okM [.tmp 4] func62 ?_;intro y ⟨a0,a1,_⟩ r H Q hn hr;refine iA [0,1]<|vQ<|iA [0,1,10]<|cD H (fun H=>iA [4]<|vTT<|fR<|hr H) fun H=>vK<|fQ<|jN r (fun(_:Unit)=>Z [] []) (u62J0) (fun _ H=>?_) (fun _ n0 e0 t0=>?_)
 ·refine iA [4]<|vTT<|hr H
 refine iA [0,1,5]<|vB<|lX (fun(v0:Int)=>Z [p 0 (L Ty.str a0),p 1 (L Ty.str a1),p 5 (I v0)] []) 0 H fun _ g1 b1 e1 t1 v0 H=>vQ<|iA [0,1,5,14]<|cD H (fun H=>?_) (fun H=>?_)
 ·refine vK<|fQ<|vQ<|vB<|iB [0,1,5,25] H fun H=>cD H (fun H=>iA [4]<|vTT<|fDD<|fR<|t1<|fDD<|t0<|hr H) fun H=>vK<|fK<|fQ<|jB [0,1,5] H fun H=>b1 H
 exact vE<|fE<|e1<|fX rfl<|n0 H
def u91(a0:Y94)(a1:Y94):Option Bool :=
 if(!decide (a0.1=a1.1)) then
  some false
 else
  if(a0.2.1 != a1.2.1) then
   some false
  else
   gd ((u10 a0.2.2 a1.2.2).isSome/\True) <|
   if(!vl (u10 a0.2.2 a1.2.2)) then
    some false
   else
    some true
def k91:Ct:=lct 91 [.agg y94,.agg y94] (fun x=>u91 x.1 x.2.1) (fun r:Bool=>B r) (fun _=>())
theorem o91:Ok prog k91:=by
 refine okM [.tmp 4] func91 ?_;intro y ⟨_,_,_⟩ r H Q hn hr;have:=hz (tc o10 tn);refine iA [2,3]<|vQ<|iA [2,3,9]<|cD H (fun H=>iA [4]<|vTT<|fR<|hr H) fun H=>vK<|fQ<|vQ<|iA [2,3,14]<|cD H (fun H=>iA [4]<|vTT<|fR<|hr H) fun H=>vK<|fQ<|vQ<|iB [20] H fun H=>cD H (fun H=>iA [4]<|vTT<|fR<|hr H) fun H=>vK<|fQ<|iA [4]<|vTT<|hr H
def u61J0:Unit->Option Bool
 | _ =>
 some true
def u61L1(a0:List Y94)(a1:List Y94)(g1:Int->Option Bool):Int->Option Bool
 | v0 =>
 if(decide (v0 < (a0.length:Int))) then
  gd (ix v0 a0.length/\ix v0 a1.length/\(u91 (a0.getD v0.toNat (dflt y94)) (a1.getD v0.toNat (dflt y94))).isSome/\True) <|
  if(!vl (u91 (a0.getD v0.toNat (dflt y94)) (a1.getD v0.toNat (dflt y94)))) then
   some false
  else
   gd (in64 (v0+1)/\True) <|
   g1 (v0+1)
 else
  u61J0 ()
def u61(a0:List Y94)(a1:List Y94):Option Bool :=
 if((a0.length:Int) != (a1.length:Int)) then
  some false
 else
  lp (u61L1 a0 a1) 0
def k61:Ct:=lct 61 [.dat y94.sl,.dat y94.sl] (fun x=>u61 x.1 x.2.1) (fun r:Bool=>B r) (fun _=>())
theorem o61:Ok prog k61:=by
 refine okM [.tmp 4] func61 ?_;intro y ⟨a0,a1,_⟩ r H Q hn hr;have:=hz (tc o91 tn);refine iA [0,1]<|vQ<|iA [0,1,10]<|cD H (fun H=>iA [4]<|vTT<|fR<|hr H) fun H=>vK<|fQ<|jN r (fun(_:Unit)=>Z [] []) (u61J0) (fun _ H=>?_) (fun _ n0 e0 t0=>?_)
 ·refine iA [4]<|vTT<|hr H
 refine iA [0,1,5]<|vB<|lX (fun(v0:Int)=>Z [p 0 (L y94 a0),p 1 (L y94 a1),p 5 (I v0)] []) 0 H fun _ g1 b1 e1 t1 v0 H=>vQ<|iA [0,1,5,14]<|cD H (fun H=>?_) (fun H=>?_)
 ·refine vK<|fQ<|vQ<|vB<|iB [0,1,5,26] H fun H=>cD H (fun H=>iA [4]<|vTT<|fDD<|fR<|t1<|fDD<|t0<|hr H) fun H=>vK<|fK<|fQ<|jB [0,1,5] H fun H=>b1 H
 exact vE<|fE<|e1<|fX rfl<|n0 H
def u31(a0:Y48)(a1:Y48):Option Bool :=
 gd ((u61 a0.1 a1.1).isSome/\True) <|
 if(!vl (u61 a0.1 a1.1)) then
  some false
 else
  gd ((u62 a0.2.1 a1.2.1).isSome/\True) <|
  if(!vl (u62 a0.2.1 a1.2.1)) then
   some false
  else
   gd ((u63 a0.2.2 a1.2.2).isSome/\True) <|
   if(!vl (u63 a0.2.2 a1.2.2)) then
    some false
   else
    some true
def k31:Ct:=lct 31 [.agg y48,.agg y48] (fun x=>u31 x.1 x.2.1) (fun r:Bool=>B r) (fun _=>())
theorem o31:Ok prog k31:=by
 refine okM [.tmp 4] func31 ?_;intro y ⟨_,_,_⟩ r H Q hn hr;have:=hz (tc o63 (tc o62 (tc o61 tn)));refine iA [2,3]<|vQ<|iB [2,3,10] H fun H=>cD H (fun H=>iA [4]<|vTT<|fR<|hr H) fun H=>vK<|fQ<|vQ<|iB [2,3,16] H fun H=>cD H (fun H=>iA [4]<|vTT<|fR<|hr H) fun H=>vK<|fQ<|vQ<|iB [22] H fun H=>cD H (fun H=>iA [4]<|vTT<|fR<|hr H) fun H=>vK<|fQ<|iA [4]<|vTT<|hr H
def u201(a0:Y217)(a1:Y217):Option Bool :=
 gd ((u10 a0.1 a1.1).isSome/\True) <|
 if(!vl (u10 a0.1 a1.1)) then
  some false
 else
  gd ((u10 a0.2.1 a1.2.1).isSome/\True) <|
  if(!vl (u10 a0.2.1 a1.2.1)) then
   some false
  else
   gd ((u10 a0.2.2 a1.2.2).isSome/\True) <|
   if(!vl (u10 a0.2.2 a1.2.2)) then
    some false
   else
    some true
def k201:Ct:=lct 201 [.agg y217,.agg y217] (fun x=>u201 x.1 x.2.1) (fun r:Bool=>B r) (fun _=>())
theorem o201:Ok prog k201:=by
 refine okM [.tmp 4] func201 ?_;intro y ⟨_,_,_⟩ r H Q hn hr;have:=hz (tc o10 tn);refine iA [2,3]<|vQ<|iB [2,3,10] H fun H=>cD H (fun H=>iA [4]<|vTT<|fR<|hr H) fun H=>vK<|fQ<|vQ<|iB [2,3,16] H fun H=>cD H (fun H=>iA [4]<|vTT<|fR<|hr H) fun H=>vK<|fQ<|vQ<|iB [22] H fun H=>cD H (fun H=>iA [4]<|vTT<|fR<|hr H) fun H=>vK<|fQ<|iA [4]<|vTT<|hr H
def u186J0:Unit->Option Bool
 | _ =>
 some true
def u186L1(a0:List Y217)(a1:List Y217)(g1:Int->Option Bool):Int->Option Bool
 | v0 =>
 if(decide (v0 < (a0.length:Int))) then
  gd (ix v0 a0.length/\ix v0 a1.length/\(u201 (a0.getD v0.toNat (dflt y217)) (a1.getD v0.toNat (dflt y217))).isSome/\True) <|
  if(!vl (u201 (a0.getD v0.toNat (dflt y217)) (a1.getD v0.toNat (dflt y217)))) then
   some false
  else
   gd (in64 (v0+1)/\True) <|
   g1 (v0+1)
 else
  u186J0 ()
def u186(a0:List Y217)(a1:List Y217):Option Bool :=
 if((a0.length:Int) != (a1.length:Int)) then
  some false
 else
  lp (u186L1 a0 a1) 0
def k186:Ct:=lct 186 [.dat y217.sl,.dat y217.sl] (fun x=>u186 x.1 x.2.1) (fun r:Bool=>B r) (fun _=>())
theorem o186:Ok prog k186:=by
 refine okM [.tmp 4] func186 ?_;intro y ⟨a0,a1,_⟩ r H Q hn hr;have:=hz (tc o201 tn);refine iA [0,1]<|vQ<|iA [0,1,10]<|cD H (fun H=>iA [4]<|vTT<|fR<|hr H) fun H=>vK<|fQ<|jN r (fun(_:Unit)=>Z [] []) (u186J0) (fun _ H=>?_) (fun _ n0 e0 t0=>?_)
 ·refine iA [4]<|vTT<|hr H
 refine iA [0,1,5]<|vB<|lX (fun(v0:Int)=>Z [p 0 (L y217 a0),p 1 (L y217 a1),p 5 (I v0)] []) 0 H fun _ g1 b1 e1 t1 v0 H=>vQ<|iA [0,1,5,14]<|cD H (fun H=>?_) (fun H=>?_)
 ·refine vK<|fQ<|vQ<|vB<|iB [0,1,5,26] H fun H=>cD H (fun H=>iA [4]<|vTT<|fDD<|fR<|t1<|fDD<|t0<|hr H) fun H=>vK<|fK<|fQ<|jB [0,1,5] H fun H=>b1 H
 exact vE<|fE<|e1<|fX rfl<|n0 H
def u165(a0:Y190)(a1:Y190):Option Bool :=
 if(a0.1 != a1.1) then
  some false
 else
  if(a0.2.1 != a1.2.1) then
   some false
  else
   if(a0.2.2.1 != a1.2.2.1) then
    some false
   else
    if(a0.2.2.2.1 != a1.2.2.2.1) then
     some false
    else
     gd ((u186 a0.2.2.2.2.1 a1.2.2.2.2.1).isSome/\True) <|
     if(!vl (u186 a0.2.2.2.2.1 a1.2.2.2.2.1)) then
      some false
     else
      gd ((u186 a0.2.2.2.2.2 a1.2.2.2.2.2).isSome/\True) <|
      if(!vl (u186 a0.2.2.2.2.2 a1.2.2.2.2.2)) then
       some false
      else
       some true
def k165:Ct:=lct 165 [.agg y190,.agg y190] (fun x=>u165 x.1 x.2.1) (fun r:Bool=>B r) (fun _=>())
theorem o165:Ok prog k165:=by
 refine okM [.tmp 4] func165 ?_;intro y ⟨_,_,_⟩ r H Q hn hr;have:=hz (tc o186 tn);refine iA [2,3]<|vQ<|iA [2,3,9]<|cD H (fun H=>iA [4]<|vTT<|fR<|hr H) fun H=>vK<|fQ<|vQ<|iA [2,3,14]<|cD H (fun H=>iA [4]<|vTT<|fR<|hr H) fun H=>vK<|fQ<|vQ<|iA [2,3,19]<|cD H (fun H=>iA [4]<|vTT<|fR<|hr H) fun H=>vK<|fQ<|vQ<|iA [2,3,24]<|cD H (fun H=>iA [4]<|vTT<|fR<|hr H) fun H=>vK<|fQ<|vQ<|iB [2,3,30] H fun H=>cD H (fun H=>iA [4]<|vTT<|fR<|hr H) fun H=>vK<|fQ<|vQ<|iB [36] H fun H=>cD H (fun H=>iA [4]<|vTT<|fR<|hr H) fun H=>vK<|fQ<|iA [4]<|vTT<|hr H
def u137J0:Unit->Option Bool
 | _ =>
 some true
def u137L1(a0:List Y190)(a1:List Y190)(g1:Int->Option Bool):Int->Option Bool
 | v0 =>
 if(decide (v0 < (a0.length:Int))) then
  gd (ix v0 a0.length/\ix v0 a1.length/\(u165 (a0.getD v0.toNat (dflt y190)) (a1.getD v0.toNat (dflt y190))).isSome/\True) <|
  if(!vl (u165 (a0.getD v0.toNat (dflt y190)) (a1.getD v0.toNat (dflt y190)))) then
   some false
  else
   gd (in64 (v0+1)/\True) <|
   g1 (v0+1)
 else
  u137J0 ()
def u137(a0:List Y190)(a1:List Y190):Option Bool :=
 if((a0.length:Int) != (a1.length:Int)) then
  some false
 else
  lp (u137L1 a0 a1) 0
def k137:Ct:=lct 137 [.dat y190.sl,.dat y190.sl] (fun x=>u137 x.1 x.2.1) (fun r:Bool=>B r) (fun _=>())
theorem o137:Ok prog k137:=by
 refine okM [.tmp 4] func137 ?_;intro y ⟨a0,a1,_⟩ r H Q hn hr;have:=hz (tc o165 tn);refine iA [0,1]<|vQ<|iA [0,1,10]<|cD H (fun H=>iA [4]<|vTT<|fR<|hr H) fun H=>vK<|fQ<|jN r (fun(_:Unit)=>Z [] []) (u137J0) (fun _ H=>?_) (fun _ n0 e0 t0=>?_)
 ·refine iA [4]<|vTT<|hr H
 refine iA [0,1,5]<|vB<|lX (fun(v0:Int)=>Z [p 0 (L y190 a0),p 1 (L y190 a1),p 5 (I v0)] []) 0 H fun _ g1 b1 e1 t1 v0 H=>vQ<|iA [0,1,5,14]<|cD H (fun H=>?_) (fun H=>?_)
 ·refine vK<|fQ<|vQ<|vB<|iB [0,1,5,26] H fun H=>cD H (fun H=>iA [4]<|vTT<|fDD<|fR<|t1<|fDD<|t0<|hr H) fun H=>vK<|fK<|fQ<|jB [0,1,5] H fun H=>b1 H
 exact vE<|fE<|e1<|fX rfl<|n0 H
def u164(a0:Y155)(a1:Y155):Option Bool :=
 if(!decide (a0.1=a1.1)) then
  some false
 else
  if(a0.2.1 != a1.2.1) then
   some false
  else
   if(a0.2.2.1 != a1.2.2.1) then
    some false
   else
    if(!a0.2.2.2==a1.2.2.2) then
     some false
    else
     some true
def k164:Ct:=lct 164 [.agg y155,.agg y155] (fun x=>u164 x.1 x.2.1) (fun r:Bool=>B r) (fun _=>())
theorem o164:Ok prog k164:=by
 refine okM [.tmp 4] func164 ?_;intro y ⟨_,_,_⟩ r H Q hn hr;refine iA [2,3]<|vQ<|iA [2,3,9]<|cD H (fun H=>iA [4]<|vTT<|fR<|hr H) fun H=>vK<|fQ<|vQ<|iA [2,3,14]<|cD H (fun H=>iA [4]<|vTT<|fR<|hr H) fun H=>vK<|fQ<|vQ<|iA [2,3,19]<|cD H (fun H=>iA [4]<|vTT<|fR<|hr H) fun H=>vK<|fQ<|vQ<|iA [24]<|cD H (fun H=>iA [4]<|vTT<|fR<|hr H) fun H=>vK<|fQ<|iA [4]<|vTT<|hr H
def u136J0:Unit->Option Bool
 | _ =>
 some true
def u136L1(a0:List Y155)(a1:List Y155)(g1:Int->Option Bool):Int->Option Bool
 | v0 =>
 if(decide (v0 < (a0.length:Int))) then
  gd (ix v0 a0.length/\ix v0 a1.length/\(u164 (a0.getD v0.toNat (dflt y155)) (a1.getD v0.toNat (dflt y155))).isSome/\True) <|
  if(!vl (u164 (a0.getD v0.toNat (dflt y155)) (a1.getD v0.toNat (dflt y155)))) then
   some false
  else
   gd (in64 (v0+1)/\True) <|
   g1 (v0+1)
 else
  u136J0 ()
def u136(a0:List Y155)(a1:List Y155):Option Bool :=
 if((a0.length:Int) != (a1.length:Int)) then
  some false
 else
  lp (u136L1 a0 a1) 0
def k136:Ct:=lct 136 [.dat y155.sl,.dat y155.sl] (fun x=>u136 x.1 x.2.1) (fun r:Bool=>B r) (fun _=>())
theorem o136:Ok prog k136:=by
 refine okM [.tmp 4] func136 ?_;intro y ⟨a0,a1,_⟩ r H Q hn hr;have:=hz (tc o164 tn);refine iA [0,1]<|vQ<|iA [0,1,10]<|cD H (fun H=>iA [4]<|vTT<|fR<|hr H) fun H=>vK<|fQ<|jN r (fun(_:Unit)=>Z [] []) (u136J0) (fun _ H=>?_) (fun _ n0 e0 t0=>?_)
 ·refine iA [4]<|vTT<|hr H
 refine iA [0,1,5]<|vB<|lX (fun(v0:Int)=>Z [p 0 (L y155 a0),p 1 (L y155 a1),p 5 (I v0)] []) 0 H fun _ g1 b1 e1 t1 v0 H=>vQ<|iA [0,1,5,14]<|cD H (fun H=>?_) (fun H=>?_)
 ·refine vK<|fQ<|vQ<|vB<|iB [0,1,5,26] H fun H=>cD H (fun H=>iA [4]<|vTT<|fDD<|fR<|t1<|fDD<|t0<|hr H) fun H=>vK<|fK<|fQ<|jB [0,1,5] H fun H=>b1 H
 exact vE<|fE<|e1<|fX rfl<|n0 H
def u90(a0:Y134)(a1:Y134):Option Bool :=
 if(!decide (a0.1=a1.1)) then
  some false
 else
  if(a0.2.1 != a1.2.1) then
   some false
  else
   gd ((u136 a0.2.2.1 a1.2.2.1).isSome/\True) <|
   if(!vl (u136 a0.2.2.1 a1.2.2.1)) then
    some false
   else
    gd ((u137 a0.2.2.2.1 a1.2.2.2.1).isSome/\True) <|
    if(!vl (u137 a0.2.2.2.1 a1.2.2.2.1)) then
     some false
    else
     gd ((u10 a0.2.2.2.2.1 a1.2.2.2.2.1).isSome/\True) <|
     if(!vl (u10 a0.2.2.2.2.1 a1.2.2.2.2.1)) then
      some false
     else
      if(a0.2.2.2.2.2.1 != a1.2.2.2.2.2.1) then
       some false
      else
       if(a0.2.2.2.2.2.2 != a1.2.2.2.2.2.2) then
        some false
       else
        some true
def k90:Ct:=lct 90 [.agg y134,.agg y134] (fun x=>u90 x.1 x.2.1) (fun r:Bool=>B r) (fun _=>())
theorem o90:Ok prog k90:=by
 refine okM [.tmp 4] func90 ?_;intro y ⟨_,_,_⟩ r H Q hn hr;have:=hz (tc o10 (tc o137 (tc o136 tn)));refine iA [2,3]<|vQ<|iA [2,3,9]<|cD H (fun H=>iA [4]<|vTT<|fR<|hr H) fun H=>vK<|fQ<|vQ<|iA [2,3,14]<|cD H (fun H=>iA [4]<|vTT<|fR<|hr H) fun H=>vK<|fQ<|vQ<|iB [2,3,20] H fun H=>cD H (fun H=>iA [4]<|vTT<|fR<|hr H) fun H=>vK<|fQ<|vQ<|iB [2,3,26] H fun H=>cD H (fun H=>iA [4]<|vTT<|fR<|hr H) fun H=>vK<|fQ<|vQ<|iB [2,3,32] H fun H=>cD H (fun H=>iA [4]<|vTT<|fR<|hr H) fun H=>vK<|fQ<|vQ<|iA [2,3,37]<|cD H (fun H=>iA [4]<|vTT<|fR<|hr H) fun H=>vK<|fQ<|vQ<|iA [42]<|cD H (fun H=>iA [4]<|vTT<|fR<|hr H) fun H=>vK<|fQ<|iA [4]<|vTT<|hr H
def u60J0:Unit->Option Bool
 | _ =>
 some true
def u60L1(a0:List Y134)(a1:List Y134)(g1:Int->Option Bool):Int->Option Bool
 | v0 =>
 if(decide (v0 < (a0.length:Int))) then
  gd (ix v0 a0.length/\ix v0 a1.length/\(u90 (a0.getD v0.toNat (dflt y134)) (a1.getD v0.toNat (dflt y134))).isSome/\True) <|
  if(!vl (u90 (a0.getD v0.toNat (dflt y134)) (a1.getD v0.toNat (dflt y134)))) then
   some false
  else
   gd (in64 (v0+1)/\True) <|
   g1 (v0+1)
 else
  u60J0 ()
def u60(a0:List Y134)(a1:List Y134):Option Bool :=
 if((a0.length:Int) != (a1.length:Int)) then
  some false
 else
  lp (u60L1 a0 a1) 0
def k60:Ct:=lct 60 [.dat y134.sl,.dat y134.sl] (fun x=>u60 x.1 x.2.1) (fun r:Bool=>B r) (fun _=>())
theorem o60:Ok prog k60:=by
 refine okM [.tmp 4] func60 ?_;intro y ⟨a0,a1,_⟩ r H Q hn hr;have:=hz (tc o90 tn);refine iA [0,1]<|vQ<|iA [0,1,10]<|cD H (fun H=>iA [4]<|vTT<|fR<|hr H) fun H=>vK<|fQ<|jN r (fun(_:Unit)=>Z [] []) (u60J0) (fun _ H=>?_) (fun _ n0 e0 t0=>?_)
 ·refine iA [4]<|vTT<|hr H
 refine iA [0,1,5]<|vB<|lX (fun(v0:Int)=>Z [p 0 (L y134 a0),p 1 (L y134 a1),p 5 (I v0)] []) 0 H fun _ g1 b1 e1 t1 v0 H=>vQ<|iA [0,1,5,14]<|cD H (fun H=>?_) (fun H=>?_)
 ·refine vK<|fQ<|vQ<|vB<|iB [0,1,5,26] H fun H=>cD H (fun H=>iA [4]<|vTT<|fDD<|fR<|t1<|fDD<|t0<|hr H) fun H=>vK<|fK<|fQ<|jB [0,1,5] H fun H=>b1 H
 exact vE<|fE<|e1<|fX rfl<|n0 H
def u30(a0:List Y134)(a1:List Y134):Option Bool :=
 gd ((u60 a0 a1).isSome/\True) <|
 if(!vl (u60 a0 a1)) then
  some false
 else
  some true
def k30:Ct:=lct 30 [.agg y134.sl,.agg y134.sl] (fun x=>u30 x.1 x.2.1) (fun r:Bool=>B r) (fun _=>())
theorem o30:Ok prog k30:=by
 refine okM [.tmp 4] func30 ?_;intro y ⟨_,_,_⟩ r H Q hn hr;have:=hz (tc o60 tn);refine iA [2,3]<|vQ<|iB [10] H fun H=>cD H (fun H=>iA [4]<|vTT<|fR<|hr H) fun H=>vK<|fQ<|iA [4]<|vTT<|hr H
def u11(a0:Y51)(a1:Y51):Option Bool :=
 gd ((u30 a0.1 a1.1).isSome/\True) <|
 if(!vl (u30 a0.1 a1.1)) then
  some false
 else
  gd ((u31 a0.2.1 a1.2.1).isSome/\True) <|
  if(!vl (u31 a0.2.1 a1.2.1)) then
   some false
  else
   gd ((u32 a0.2.2 a1.2.2).isSome/\True) <|
   if(!vl (u32 a0.2.2 a1.2.2)) then
    some false
   else
    some true
def k11:Ct:=lct 11 [.agg y51,.agg y51] (fun x=>u11 x.1 x.2.1) (fun r:Bool=>B r) (fun _=>())
theorem o11:Ok prog k11:=by
 refine okM [.tmp 4] func11 ?_;intro y ⟨_,_,_⟩ r H Q hn hr;have:=hz (tc o32 (tc o31 (tc o30 tn)));refine iA [2,3]<|vQ<|iB [2,3,10] H fun H=>cD H (fun H=>iA [4]<|vTT<|fR<|hr H) fun H=>vK<|fQ<|vQ<|iB [2,3,16] H fun H=>cD H (fun H=>iA [4]<|vTT<|fR<|hr H) fun H=>vK<|fQ<|vQ<|iB [22] H fun H=>cD H (fun H=>iA [4]<|vTT<|fR<|hr H) fun H=>vK<|fQ<|iA [4]<|vTT<|hr H
def u12(a0:Y55)(a1:Y55):Option Bool :=
 if(a0.1 != a1.1) then
  some false
 else
  if(a0.2.1 != a1.2.1) then
   some false
  else
   if(a0.2.2.1 != a1.2.2.1) then
    some false
   else
    if(a0.2.2.2.1 != a1.2.2.2.1) then
     some false
    else
     if(a0.2.2.2.2.1 != a1.2.2.2.2.1) then
      some false
     else
      if(!decide (a0.2.2.2.2.2.1=a1.2.2.2.2.2.1)) then
       some false
      else
       gd ((u33 a0.2.2.2.2.2.2 a1.2.2.2.2.2.2).isSome/\True) <|
       if(!vl (u33 a0.2.2.2.2.2.2 a1.2.2.2.2.2.2)) then
        some false
       else
        some true
def k12:Ct:=lct 12 [.agg y55,.agg y55] (fun x=>u12 x.1 x.2.1) (fun r:Bool=>B r) (fun _=>())
theorem o12:Ok prog k12:=by
 refine okM [.tmp 4] func12 ?_;intro y ⟨_,_,_⟩ r H Q hn hr;have:=hz (tc o33 tn);refine iA [2,3]<|vQ<|iA [2,3,9]<|cD H (fun H=>iA [4]<|vTT<|fR<|hr H) fun H=>vK<|fQ<|vQ<|iA [2,3,14]<|cD H (fun H=>iA [4]<|vTT<|fR<|hr H) fun H=>vK<|fQ<|vQ<|iA [2,3,19]<|cD H (fun H=>iA [4]<|vTT<|fR<|hr H) fun H=>vK<|fQ<|vQ<|iA [2,3,24]<|cD H (fun H=>iA [4]<|vTT<|fR<|hr H) fun H=>vK<|fQ<|vQ<|iA [2,3,29]<|cD H (fun H=>iA [4]<|vTT<|fR<|hr H) fun H=>vK<|fQ<|vQ<|iA [2,3,34]<|cD H (fun H=>iA [4]<|vTT<|fR<|hr H) fun H=>vK<|fQ<|vQ<|iB [40] H fun H=>cD H (fun H=>iA [4]<|vTT<|fR<|hr H) fun H=>vK<|fQ<|iA [4]<|vTT<|hr H
def u16J0:Int->Option Int
 | v2 =>
 some v2
def u16L1(a0:List Int)(g1:Int×Int->Option Int):Int×Int->Option Int
 | (v0,v1) =>
 if(decide (v1 < (a0.length:Int))) then
  gd (ix v1 a0.length/\True) <|
  if(a0.getD v1.toNat 0 != v0) then
   some (-1)
  else
   gd (in64 (v0+1)/\True) <|
   gd (in64 (v1+1)/\True) <|
   g1 (v0+1,v1+1)
 else
  u16J0 v0
def u16(a0:List Int)(a1:Int):Option Int :=
 lp (u16L1 a0) (a1,0)
def k16:Ct:=lct 16 [.dat i64.sl,.dat i64] (fun x=>u16 x.1 x.2.1) (fun r:Int=>I r) (fun _=>())
theorem o16:Ok prog k16:=by
 refine okM [.tmp 4] func16 ?_;intro y ⟨a0,a1,_⟩ r H Q hn hr;refine iA [0,1]<|jN r (fun(v2:Int)=>Z [p 1 (J v2)] []) (u16J0) (fun v2 H=>?_) (fun _ n0 e0 t0=>?_)
 ·refine iA [4]<|vTT<|hr H
 refine iA [0,1,5]<|vB<|lX (fun((v0,v1):Int×Int)=>Z [p 0 (L i64 a0),p 1 (J v0),p 5 (I v1)] []) (a1,0) H fun _ g1 b1 e1 t1 ⟨v0,v1⟩ H=>vQ<|iA [0,1,5,9]<|cD H (fun H=>?_) (fun H=>?_)
 ·refine vK<|fQ<|vQ<|vB<|vQ<|iB [0,1,5,17] H fun H=>cD H (fun H=>iA [4]<|vTT<|fR<|fDD<|fR<|t1<|fDD<|t0<|hr H) fun H=>vK<|fQ<|jB [0,1,5] H fun H=>fK<|fQ<|jB [0,1,5] H fun H=>b1 H
 exact vE<|fE<|e1<|fX rfl<|n0 H
def u29(a0:Y55)(a1:Y51):Option (List Int) :=
 if(a0.1==1) then
  gd ((u56 a1.2.1).isSome/\ix a0.2.1 (vl (u56 a1.2.1)).length/\a0.2.1.toNat < (vl (u56 a1.2.1)).length/\ix ((vl (u56 a1.2.1)).getD a0.2.1.toNat (dflt y104)).1 a1.2.1.1.length/\(u55 (a1.2.1.1.getD ((vl (u56 a1.2.1)).getD a0.2.1.toNat (dflt y104)).1.toNat (dflt y94)).2.2).isSome/\True)<|lt ((vl (u55 (a1.2.1.1.getD ((vl (u56 a1.2.1)).getD a0.2.1.toNat (dflt y104)).1.toNat (dflt y94)).2.2),vl (u56 a1.2.1))) fun(v0,_) =>
  gd ((s58 v0).isSome/\True)<|lt (vl (s58 v0)) fun v2 =>
  gd ((s59 v2).isSome/\True)<|lt (vl (s59 v2)) fun v3 =>
  some v3
 else
  if(a0.1==2) then
   gd ((u56 a1.2.1).isSome/\ix a0.2.1 (vl (u56 a1.2.1)).length/\a0.2.1.toNat < (vl (u56 a1.2.1)).length/\(u57 a1.2.1.2.1).isSome/\True)<|lt ((vl (u56 a1.2.1),vl (u57 a1.2.1.2.1))) fun(v4,v5) =>
   gd ((s58 [(v4.getD a0.2.1.toNat (dflt y104)).2.2.1,v5]).isSome/\True)<|lt (vl (s58 [(v4.getD a0.2.1.toNat (dflt y104)).2.2.1,v5])) fun v6 =>
   gd ((s59 v6).isSome/\True)<|lt (vl (s59 v6)) fun v7 =>
   some v7
  else
   if(a0.1==3) then
    gd (in64 ((a1.2.1.1.length:Int)-1)/\ix ((a1.2.1.1.length:Int)-1) a1.2.1.1.length/\ix 0 (a1.2.1.1.getD ((a1.2.1.1.length:Int)-1).toNat (dflt y94)).2.2.length/\True)<|lt ([(a1.2.1.1.getD ((a1.2.1.1.length:Int)-(1:Int)).toNat (dflt y94)).2.2.getD (Int.toNat (0:Int)) (0:Int)]) fun v8 =>
    gd ((s58 v8).isSome/\True)<|lt (vl (s58 v8)) fun v9 =>
    gd ((s59 v9).isSome/\True)<|lt (vl (s59 v9)) fun v10 =>
    some v10
   else
    if(a0.1==4) then
     gd ((u56 a1.2.1).isSome/\ix a0.2.1 (vl (u56 a1.2.1)).length/\a0.2.1.toNat < (vl (u56 a1.2.1)).length/\True)<|lt ((vl (u56 a1.2.1),[((vl (u56 a1.2.1)).getD a0.2.1.toNat (dflt y104)).2.2.1,a0.2.2.2.1])) fun(_,v12) =>
     gd ((s58 v12).isSome/\True)<|lt (vl (s58 v12)) fun v13 =>
     gd ((s59 v13).isSome/\True)<|lt (vl (s59 v13)) fun v14 =>
     some v14
    else
     if(a0.1==5) then
      gd ((s58 [a0.2.2.2.1]).isSome/\True)<|lt (vl (s58 [a0.2.2.2.1])) fun v15 =>
      gd ((s59 v15).isSome/\True)<|lt (vl (s59 v15)) fun v16 =>
      some v16
     else
      none
def k29:Ct:=lct 29 [.agg y55,.agg y51] (fun x=>u29 x.1 x.2.1) (fun r:List Int=>AV.ow 2 true i64 r) (fun _=>())
theorem o29:Ok prog k29:=by
 refine okM [.tmp 4] func29 ?_;intro y ⟨a0,a1,_⟩ r H Q hn hr;have:=hz (tc o56 (tc o57 (tc o55 tn)));refine iA [2,3]<|iA [2,5]<|iA [2,5,6]<|vQ<|iA [2,5,6,10]<|vB<|iA [2,5,6,10,11]<|cD H (fun H=>?_) (fun H=>?_)
 ·refine zD (fun(v0,v1)=>Z [p 6 (O 25)] ((25,A 2 i64 v0 0)::(16,A 104 y104 v1 0)::W3 a1.2.1 a1 a0)) H fun⟨v0,v1⟩ H =>
   fK<|fQ <|
   vQ<|vx_inpl p58 rfl rfl rfl rfl rfl H fun _ H=>fQ <|
   vQ<|vx_inprA pr59 rfl rfl rfl rfl rfl rfl H fun _ H=>fQ <|
   vTT<|hr H
 refine iA [2,5,6,10,26]<|cD H (fun H=>?_) (fun H=>?_)
 ·refine zD (fun(v4,v5)=>Z [p 6 (O 38)] ((38,A 2 i64 [(v4.getD a0.2.1.toNat (dflt y104)).2.2.1,v5] 0)::(29,A 104 y104 v4 0)::W3 a1.2.1 a1 a0)) H fun⟨v4,v5⟩ H =>
   fK<|fQ <|
   vQ<|vx_inpl p58 rfl rfl rfl rfl rfl H fun _ H=>fQ <|
   vQ<|vx_inprA pr59 rfl rfl rfl rfl rfl rfl H fun _ H=>fQ <|
   vTT<|hr H
 refine qa tok this.h [2,5,6,10,39] (Z [p 2 (AV.ptr 2 0),p 5 (AV.ptr 5 0),p 6 (AV.v (Value.slice none 0 0)),p 10 (J a0.1),p 39 (B (a0.1==3))] (W3 a1.2.1 a1 a0)) (by kernel_rfl) ?_
 refine cD H (fun H=>?_) (fun H=>?_)
 ·refine zD (fun v8=>Z [p 6 (O 52)] ((52,A 2 i64 v8 0)::W3 a1.2.1 a1 a0)) H fun v8 H =>
   fK<|fQ <|
   vQ<|vx_inpl p58 rfl rfl rfl rfl rfl H fun _ H=>fQ <|
   vQ<|vx_inprA pr59 rfl rfl rfl rfl rfl rfl H fun _ H=>fQ <|
   vTT<|hr H
 refine qa tok this.h [2,5,6,10,53] (Z [p 2 (AV.ptr 2 0),p 5 (AV.ptr 5 0),p 6 (AV.v (Value.slice none 0 0)),p 10 (J a0.1),p 53 (B (a0.1==4))] (W3 a1.2.1 a1 a0)) (by kernel_rfl) ?_
 refine cD H (fun H=>?_) (fun H=>?_)
 ·refine zD (fun(v11,v12)=>Z [p 6 (O 64)] ((64,A 2 i64 v12 0)::(56,A 104 y104 v11 0)::W3 a1.2.1 a1 a0)) H fun⟨v11,v12⟩ H =>
   fK<|fQ <|
   vQ<|vx_inpl p58 rfl rfl rfl rfl rfl H fun _ H=>fQ <|
   vQ<|vx_inprA pr59 rfl rfl rfl rfl rfl rfl H fun _ H=>fQ <|
   vTT<|hr H
 refine qa tok this.h [2,6,65] (Z [p 2 (AV.ptr 2 0),p 6 (AV.v (Value.slice none 0 0)),p 65 (B (a0.1==5))] (W3 a1.2.1 a1 a0)) (by kernel_rfl) ?_
 refine cD H (fun H=>?_) (fun H=>vK<|fK<|fQ<|dead H)
 refine za tok this.h [6] (Z [p 6 (O 69)] ((69,A 2 i64 [a0.2.2.2.1] 0)::W3 a1.2.1 a1 a0)) (by kernel_rfl) ?_
 refine fK<|fQ <|
   vQ<|vx_inpl p58 rfl rfl rfl rfl rfl H fun _ H=>fQ <|
   vQ<|vx_inprA pr59 rfl rfl rfl rfl rfl rfl H fun _ H=>fQ <|
   vTT<|hr H
def u9(a0:Y51)(a1:Y55):Option (List Int×Int) :=
 gd ((u28 a0 a1).isSome/\True)<|lt (vl (u28 a0 a1)) fun v0 =>
 if(v0 != 0) then
  some ([],v0)
 else
  gd ((u29 a1 a0).isSome/\True)<|lt (vl (u29 a1 a0)) fun v1 =>
  some ((v1,(0:Int)))
def k9:Ct:=lct 9 [.agg y51,.agg y55] (fun x=>u9 x.1 x.2.1) (fun r:List Int×Int=>AV.tup [AV.ow 2 true i64 r.1,I r.2]) (fun _=>())
theorem o9:Ok prog k9:=by
 refine okM [.tmp 4,.tmp 5] func9 ?_;intro y ⟨_,_,_⟩ r H Q hn hr;have:=hz (tc o29 (tc o28 tn));refine iA [2,3]<|vQ<|iD o28 [2,3,6] H fun _ H=>iA [2,3,6,11]<|cD H (fun H=>iA [4,5]<|vTT<|fR<|hr H) fun H=>vK<|fQ<|iD o29 [4,5] H fun _ H=>vTT<|hr H
end Go.Proofs.YtggbjmljfdpllaaGreatDoor
end
