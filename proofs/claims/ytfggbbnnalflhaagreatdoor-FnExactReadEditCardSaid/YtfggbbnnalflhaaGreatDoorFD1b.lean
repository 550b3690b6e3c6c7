/- Functions of this program as plain functions of data, and that they are so: printed by program. -/
import Derived.Test.YtfggbbnnalflhaaGreatDoorFD1a
section
namespace Go.Proofs.YtfggbbnnalflhaaGreatDoor
open Go Go.Proofs Go.Proofs.Sv Go.Proofs.Xv Go.Proofs.Xl Go.RowKit
open Tryz
def u33(a0:Y38)(a1:Y50):Option ByteArray :=
 if(a0.1==1) then
  gd ((u86 a1 a0).isSome/\(ByteArray.mk #[115,119,97,112,32]).size+(vl (u86 a1 a0)).size<=9223372036854775807/\(ByteArray.mk #[115,119,97,112,32]++vl (u86 a1 a0)).size+(ByteArray.mk #[32]).size<=9223372036854775807/\ix a0.2.2.1 a1.1.length/\(ByteArray.mk #[115,119,97,112,32]++vl (u86 a1 a0)++ByteArray.mk #[32]).size+(a1.1.getD a0.2.2.1.toNat (dflt y115)).1.size<=9223372036854775807/\True)<|lt ((vl (u86 a1 a0),ByteArray.mk #[115,119,97,112,32]++vl (u86 a1 a0)++ByteArray.mk #[32]++(a1.1.getD a0.2.2.1.toNat (dflt y115)).1)) fun(_,v1) =>
  some v1
 else
  if(a0.1==2) then
   gd ((u86 a1 a0).isSome/\(ByteArray.mk #[98,117,102,102,101,114,32]).size+(vl (u86 a1 a0)).size<=9223372036854775807/\(ByteArray.mk #[98,117,102,102,101,114,32]++vl (u86 a1 a0)).size+(ByteArray.mk #[32]).size<=9223372036854775807/\ix a0.2.2.1 a1.1.length/\(ByteArray.mk #[98,117,102,102,101,114,32]++vl (u86 a1 a0)++ByteArray.mk #[32]).size+(a1.1.getD a0.2.2.1.toNat (dflt y115)).1.size<=9223372036854775807/\(ByteArray.mk #[98,117,102,102,101,114,32]++vl (u86 a1 a0)++ByteArray.mk #[32]++(a1.1.getD a0.2.2.1.toNat (dflt y115)).1).size+(ByteArray.mk #[32]).size<=9223372036854775807/\(ByteArray.mk #[98,117,102,102,101,114,32]++vl (u86 a1 a0)++ByteArray.mk #[32]++(a1.1.getD a0.2.2.1.toNat (dflt y115)).1++ByteArray.mk #[32]).size+a0.2.2.2.2.2.1.size<=9223372036854775807/\True)<|lt ((vl (u86 a1 a0),ByteArray.mk #[98,117,102,102,101,114,32]++vl (u86 a1 a0)++ByteArray.mk #[32]++(a1.1.getD a0.2.2.1.toNat (dflt y115)).1++ByteArray.mk #[32]++a0.2.2.2.2.2.1)) fun(_,v3) =>
   some v3
  else
   if(a0.1==3) then
    some (ByteArray.mk #[117,110,98,117,102,102,101,114])
   else
    if(a0.1==4) then
     gd ((u86 a1 a0).isSome/\(ByteArray.mk #[109,111,118,101,32]).size+(vl (u86 a1 a0)).size<=9223372036854775807/\(ByteArray.mk #[109,111,118,101,32]++vl (u86 a1 a0)).size+(ByteArray.mk #[32]).size<=9223372036854775807/\ix a0.2.2.2.1 a1.2.1.2.1.length/\(ByteArray.mk #[109,111,118,101,32]++vl (u86 a1 a0)++ByteArray.mk #[32]).size+ByteArray.size (a1.2.1.2.1.getD a0.2.2.2.1.toNat (dflt Ty.str))<=9223372036854775807/\(ByteArray.mk #[109,111,118,101,32]++vl (u86 a1 a0)++ByteArray.mk #[32]++a1.2.1.2.1.getD a0.2.2.2.1.toNat (dflt Ty.str)).size+(ByteArray.mk #[32]).size<=9223372036854775807/\(u88 a0.2.2.2.2.1).isSome/\(ByteArray.mk #[109,111,118,101,32]++vl (u86 a1 a0)++ByteArray.mk #[32]++a1.2.1.2.1.getD a0.2.2.2.1.toNat (dflt Ty.str)++ByteArray.mk #[32]).size+(vl (u88 a0.2.2.2.2.1)).size<=9223372036854775807/\True)<|lt ((vl (u86 a1 a0),vl (u88 a0.2.2.2.2.1),ByteArray.mk #[109,111,118,101,32]++vl (u86 a1 a0)++ByteArray.mk #[32]++a1.2.1.2.1.getD a0.2.2.2.1.toNat (dflt Ty.str)++ByteArray.mk #[32]++vl (u88 a0.2.2.2.2.1))) fun(_,_,v6) =>
     some v6
    else
     gd (ix a0.2.2.2.1 a1.2.1.2.1.length/\(ByteArray.mk #[119,105,114,101,32]).size+ByteArray.size (a1.2.1.2.1.getD a0.2.2.2.1.toNat (dflt Ty.str))<=9223372036854775807/\(ByteArray.mk #[119,105,114,101,32]++a1.2.1.2.1.getD a0.2.2.2.1.toNat (dflt Ty.str)).size+(ByteArray.mk #[32]).size<=9223372036854775807/\(u89 a0.2.2.2.2.2.2).isSome/\(ByteArray.mk #[119,105,114,101,32]++a1.2.1.2.1.getD a0.2.2.2.1.toNat (dflt Ty.str)++ByteArray.mk #[32]).size+(vl (u89 a0.2.2.2.2.2.2)).size<=9223372036854775807/\True)<|lt ((vl (u89 a0.2.2.2.2.2.2),ByteArray.mk #[119,105,114,101,32]++a1.2.1.2.1.getD a0.2.2.2.1.toNat (dflt Ty.str)++ByteArray.mk #[32]++vl (u89 a0.2.2.2.2.2.2))) fun(_,v8) =>
     some v8
def k33:Ct:=lct 33 [.agg y38,.agg y50] (fun x=>u33 x.1 x.2.1) (fun r:ByteArray=>S r) (fun _=>())
theorem o33:Ok prog k33:=by
 refine okM [.tmp 4] func33 ?_;intro y ⟨a0,a1,_⟩ r H Q hn hr;have:=hz (tc o89 (tc o88 (tc o86 tn)));refine iA [2,3]<|iA [2,3,5]<|vQ<|iA [2,3,5,8]<|vB<|iA [2,3,5,8,9]<|cD H (fun H=>?_) (fun H=>?_)
 ·refine qD (fun(v0,v1)=>Z [p 4 (S v1)] [(3,K 50 y50 a1),(2,K 38 y38 a0)]) H fun⟨v0,v1⟩ H =>
   vTT<|fDD<|fR<|hr H
 refine iA [2,3,5,8,24]<|cD H (fun H=>?_) (fun H=>?_)
 ·refine qD (fun(v2,v3)=>Z [p 4 (S v3)] [(3,K 50 y50 a1),(2,K 38 y38 a0)]) H fun⟨v2,v3⟩ H =>
   vTT<|fDD<|fR<|hr H
 refine iA [2,3,5,8,43]<|cD H (fun H=>iA [4]<|vTT<|fDD<|fR<|hr H) fun H=>iA [2,3,5,45]<|cD H (fun H=>?_) (fun H=>?_)
 ·refine qD (fun(v4,v5,v6)=>Z [p 4 (S v6)] [(3,K 50 y50 a1),(2,K 38 y38 a0)]) H fun⟨v4,v5,v6⟩ H =>
   vTT<|fDD<|fR<|hr H
 refine vK<|fK<|fQ<|qD (fun(v7,v8)=>Z [p 4 (S v8)] [(3,K 50 y50 a1),(2,K 38 y38 a0)]) H fun⟨v7,v8⟩ H =>
  vTT<|hr H
def u130(a0:Int)(a1:Int)(a2:Int):Option Bool :=
 some (decide (a1<=a0)&&decide (a0<=a2))
def k130:Ct:=lct 130 [.dat i64,.dat i64,.dat i64] (fun x=>u130 x.1 x.2.1 x.2.2.1) (fun r:Bool=>B r) (fun _=>())
theorem o130:Ok prog k130:=by
 refine okM [.tmp 6] func130 ?_;intro y ⟨_,_,_,_⟩ r H Q hn hr;refine iA [0,1,2]<|iA [6]<|vTT<|hr H
def u181(a0:Int)(a1:Int)(a2:Int):Option Bool :=
 gd ((u130 a0 a1 a2).isSome/\True) <|
 some (!vl (u130 a0 a1 a2))
def k181:Ct:=lct 181 [.dat i64,.dat (.pt i64),.dat (.pt i64)] (fun x=>u181 x.1 x.2.1 x.2.2.1) (fun r:Bool=>B r) (fun _=>())
theorem o181:Ok prog k181:=by
 refine okM [.tmp 4] func181 ?_;intro y ⟨_,_,_,_⟩ r H Q hn hr;have:=hz (tc o130 tn);refine iA [0,1,2]<|iB [4] H fun H=>vTT<|hr H
def u220c181J0:Unit->Option Int
 | _ =>
 some (-1)
def u220c181L1(a0:List Int)(a1:Int×Int)(g1:Int->Option Int):Int->Option Int
 | v0 =>
 if(decide (v0 < (a0.length:Int))) then
  gd (ix v0 a0.length/\(u181 (a0.getD v0.toNat 0) a1.1 a1.2).isSome/\True) <|
  if(vl (u181 (a0.getD v0.toNat 0) a1.1 a1.2)) then
   some v0
  else
   gd (in64 (v0+1)/\True) <|
   g1 (v0+1)
 else
  u220c181J0 ()
def u220c181(a0:List Int)(a1:Int×Int):Option Int :=
 lp (u220c181L1 a0 a1) 0
def k220c181:Ct:=lct 220 [.dat i64.sl,.fn 181 (.pr i64.pt i64.pt)] (fun x=>u220c181 x.1 x.2.1) (fun r:Int=>I r) (fun _=>())
theorem o220c181:Ok prog k220c181:=by
 refine okM [.tmp 4] func220 ?_;intro y ⟨a0,a1,_⟩ r H Q hn hr;have:=hz (tc o181 tn);refine iA [0,1]<|jN r (fun(_:Unit)=>Z [] []) (u220c181J0) (fun _ H=>?_) (fun _ n0 e0 t0=>?_)
 ·refine iA [4]<|vTT<|hr H
 refine iA [0,1,7,8]<|vB<|lX (fun(v0:Int)=>Z [p 0 (L i64 a0),p 1 (AV.fn 181 [D i64.pt a1.1,D i64.pt a1.2]),p 7 (I (a0.length:Int)),p 8 (I v0)] []) 0 H fun _ g1 b1 e1 t1 v0 H=>iA [0,1,7,8,9]<|vQ<|cD H (fun H=>?_) (fun H=>?_)
 ·refine vK<|fQ<|vQ<|vB<|iA [0,1,5,7,8]<|iB [0,1,5,7,8,16] H fun H=>cD H (fun H=>iA [4]<|vTT<|fDD<|fR<|t1<|fDD<|t0<|hr H) fun H=>vK<|fK<|fQ<|jB [0,1,7,8] H fun H=>b1 H
 exact vE<|fE<|e1<|fX rfl<|n0 H
def u177c181(a0:List Int)(a1:Int×Int):Option Bool :=
 gd ((u220c181 a0 a1).isSome/\True)<|lt (vl (u220c181 a0 a1)) fun v0 =>
 some (decide (0<=v0))
def k177c181:Ct:=lct 177 [.dat i64.sl,.fn 181 (.pr (.pt i64) (.pt i64))] (fun x=>u177c181 x.1 x.2.1) (fun r:Bool=>B r) (fun _=>())
theorem o177c181:Ok prog k177c181:=by
 refine okM [.tmp 4] func177 ?_;intro y ⟨_,_,_⟩ r H Q hn hr;have:=hz (tc o220c181 (tc o181 tn));refine iA [0,1]<|iD o220c181 [4] H fun _ H=>vTT<|hr H
def u132(a0:List Int)(a1:Int)(a2:Int):Option Bool :=
 gd ((u177c181 a0 (a1,a2)).isSome/\True) <|
 some (!vl (u177c181 a0 (a1,a2)))
def k132:Ct:=lct 132 [.dat i64.sl,.dat i64,.dat i64] (fun x=>u132 x.1 x.2.1 x.2.2.1) (fun r:Bool=>B r) (fun _=>())
theorem o132:Ok prog k132:=by
 refine okM [.tmp 6] func132 ?_;intro y ⟨_,_,_,_⟩ r H Q hn hr;have:=hz (tc o177c181 (tc o181 tn));refine iA [0,4,5]<|iB [6] H fun H=>vTT<|hr H
def u79(a0:List Int):Option Int :=
 some (a0.length:Int)
def k79:Ct:=lct 79 [.dat i64.sl] (fun x=>u79 x.1) (fun r:Int=>I r) (fun _=>())
theorem o79:Ok prog k79:=by
 refine okM [.tmp 2] func79 ?_;intro y ⟨_,_⟩ r H Q hn hr;refine iA [0]<|iA [2]<|vTT<|hr H
def u131J0:Unit->Option Bool
 | _ =>
 some true
def u131L1(a0:Y36)(g1:Int->Option Bool):Int->Option Bool
 | v0 =>
 if(decide (v0 < (a0.1.length:Int))) then
  gd (ix v0 a0.1.length/\True) <|
  gd (((a0.1.getD v0.toNat (0:Int) != (-1:Int))=false/\(v0==(0:Int))=true/\True->ix (0:Int) a0.2.1.length)/\(decide ((0:Int)<v0)=true/\(v0==(0:Int)&&(a0.1.getD v0.toNat (0:Int) != (-1:Int)||a0.2.1.getD (Int.toNat (0:Int)) (0:Int) != (0:Int)))=false/\True->in64 (v0-(1:Int)))/\(decide ((0:Int)<v0)=true/\(v0==(0:Int)&&(a0.1.getD v0.toNat (0:Int) != (-1:Int)||a0.2.1.getD (Int.toNat (0:Int)) (0:Int) != (0:Int)))=false/\True->(u130 (a0.1.getD v0.toNat (0:Int)) (0:Int) (v0-(1:Int))).isSome)/\True) <|
  if(v0==(0:Int)&&(a0.1.getD v0.toNat (0:Int) != (-1:Int)||a0.2.1.getD (Int.toNat (0:Int)) (0:Int) != (0:Int))||decide ((0:Int)<v0)&&!vl (u130 (a0.1.getD v0.toNat (0:Int)) (0:Int) (v0-(1:Int)))) then
   some false
  else
   gd (in64 (v0+1)/\True) <|
   g1 (v0+1)
 else
  u131J0 ()
def u131(a0:Y36):Option Bool :=
 lp (u131L1 a0) 0
def k131:Ct:=lct 131 [.agg y36] (fun x=>u131 x.1) (fun r:Bool=>B r) (fun _=>())
theorem o131:Ok prog k131:=by
 refine okM [.tmp 2] func131 ?_;intro y ⟨a0,_⟩ r H Q hn hr;have:=hz (tc o130 tn);refine iA [1]<|jN r (fun(_:Unit)=>Z [] []) (u131J0) (fun _ H=>?_) (fun _ n0 e0 t0=>?_)
 ·refine iA [2]<|vTT<|hr H
 refine iA [1,6,7,8]<|vB<|lX (fun(v0:Int)=>Z [p 1 (R 1),p 6 (L i64 a0.1),p 7 (I (a0.1.length:Int)),p 8 (I v0)] [(1,K 36 y36 a0)]) 0 H fun _ g1 b1 e1 t1 v0 H=>iA [1,6,7,8,9]<|vQ<|cD H (fun H=>?_) (fun H=>?_)
 ·refine vK<|fQ<|vQ<|vB<|iB [1,3,4,6,7,8] H fun H=>iB [1,6,7,8,36] H fun H=>cD H (fun H=>iA [2]<|vTT<|fDD<|fR<|t1<|fDD<|t0<|hr H) fun H=>vK<|fK<|fQ<|jB [1,6,7,8] H fun H=>b1 H
 exact vE<|fE<|e1<|fX rfl<|n0 H
def u76(a0:Y36)(a1:Int):Option Bool :=
 gd ((u79 a0.1).isSome/\True)<|lt (vl (u79 a0.1)) fun v0 =>
 gd ((u130 v0 1 8).isSome/\(vl (u130 v0 1 8)=true/\True->(u79 a0.2.1).isSome)/\((vl (u130 v0 1 8)&&vl (u79 a0.2.1)==v0)=true/\True->(u79 a0.2.2.1).isSome)/\((vl (u130 v0 1 8)&&vl (u79 a0.2.1)==v0&&vl (u79 a0.2.2.1)==v0)=true/\True->(u131 a0).isSome)/\((vl (u130 v0 1 8)&&vl (u79 a0.2.1)==v0&&vl (u79 a0.2.2.1)==v0&&vl (u131 a0))=true/\True->(u132 a0.2.1 0 1000).isSome)/\((vl (u130 v0 1 8)&&vl (u79 a0.2.1)==v0&&vl (u79 a0.2.2.1)==v0&&vl (u131 a0)&&vl (u132 a0.2.1 0 1000))=true/\True->(u132 a0.2.2.1 0 500).isSome)/\((vl (u130 v0 1 8)&&vl (u79 a0.2.1)==v0&&vl (u79 a0.2.2.1)==v0&&vl (u131 a0)&&vl (u132 a0.2.1 0 1000)&&vl (u132 a0.2.2.1 0 500))=true/\True->(u79 a0.2.2.2).isSome)/\((vl (u130 v0 1 8)&&vl (u79 a0.2.1)==v0&&vl (u79 a0.2.2.1)==v0&&vl (u131 a0)&&vl (u132 a0.2.1 0 1000)&&vl (u132 a0.2.2.1 0 500)&&vl (u79 a0.2.2.2)==a1)=true/\True->in64 (v0-1))/\((vl (u130 v0 1 8)&&vl (u79 a0.2.1)==v0&&vl (u79 a0.2.2.1)==v0&&vl (u131 a0)&&vl (u132 a0.2.1 0 1000)&&vl (u132 a0.2.2.1 0 500)&&vl (u79 a0.2.2.2)==a1)=true/\True->(u132 a0.2.2.2 0 (v0-1)).isSome)/\True)<|lt ((vl (u79 a0.2.1),vl (u79 a0.2.2.1),vl (u79 a0.2.2.2))) fun(v1,v2,v3) =>
 some (vl (u130 v0 1 8)&&v1==v0&&v2==v0&&vl (u131 a0)&&vl (u132 a0.2.1 0 1000)&&vl (u132 a0.2.2.1 0 500)&&v3==a1&&vl (u132 a0.2.2.2 0 (v0-1)))
def k76:Ct:=lct 76 [.agg y36,.dat i64] (fun x=>u76 x.1 x.2.1) (fun r:Bool=>B r) (fun _=>())
theorem o76:Ok prog k76:=by
 refine okM [.tmp 4] func76 ?_;intro y ⟨a0,a1,_⟩ r H Q hn hr;have:=hz (tc o132 (tc o79 (tc o131 (tc o130 tn))));refine iA [1,2]<|iD o79 [1,2,5] H fun v0 H=>qD (fun(v1,v2,v3)=>Z [p 4 (B (vl (u130 v0 1 8)&&v1==v0&&v2==v0&&vl (u131 a0)&&vl (u132 a0.2.1 0 1000)&&vl (u132 a0.2.2.1 0 500)&&v3==a1&&vl (u132 a0.2.2.2 0 (v0-1))))] [(2,K 36 y36 a0)]) H fun⟨v1,v2,v3⟩ H =>
  vTT<|hr H
def u148(a0:Y115):Option Bool :=
 some (a0.2.1==1&&(a0.2.2.1.length:Int)==2)
def k148:Ct:=lct 148 [.agg y115] (fun x=>u148 x.1) (fun r:Bool=>B r) (fun _=>())
theorem o148:Ok prog k148:=by
 refine okM [.tmp 2] func148 ?_;intro y ⟨_,_⟩ r H Q hn hr;refine iA [1]<|iA [2]<|vTT<|hr H
def u179(a0:List ByteArray):Option Int :=
 some (a0.length:Int)
def k179:Ct:=lct 179 [.dat Ty.str.sl] (fun x=>u179 x.1) (fun r:Int=>I r) (fun _=>())
theorem o179:Ok prog k179:=by
 refine okM [.tmp 2] func179 ?_;intro y ⟨_,_⟩ r H Q hn hr;refine iA [0]<|iA [2]<|vTT<|hr H
def u151(a0:Y50):Option Bool :=
 if((a0.2.1.1.length:Int)==0) then
  some false
 else
  gd (in64 ((a0.2.1.1.length:Int)-1)/\ix ((a0.2.1.1.length:Int)-1) a0.2.1.1.length/\True)<|lt (a0.2.1.1.getD ((a0.2.1.1.length:Int)-1).toNat (dflt y152)) fun v0 =>
  gd ((u179 a0.2.1.2.1).isSome/\in64 (vl (u179 a0.2.1.2.1)-1)/\True)<|lt (vl (u179 a0.2.1.2.1)) fun v1 =>
  gd (ix v0.2.1 a0.1.length/\(u148 (a0.1.getD v0.2.1.toNat (dflt y115))).isSome/\((!vl (u148 (a0.1.getD v0.2.1.toNat (dflt y115))))=false/\True->ix (1:Int) v0.2.2.length)/\((!vl (u148 (a0.1.getD v0.2.1.toNat (dflt y115)))||v0.2.2.getD (Int.toNat (1:Int)) (0:Int) != v1-(1:Int))=false/\True->ix (0:Int) v0.2.2.length)/\((!vl (u148 (a0.1.getD v0.2.1.toNat (dflt y115)))||v0.2.2.getD (Int.toNat (1:Int)) (0:Int) != v1-(1:Int)||v0.2.2.getD (Int.toNat (0:Int)) (0:Int)==v1-(1:Int))=false/\True->ix (v1-(1:Int)) a0.2.1.2.1.length)/\True) <|
  if(!vl (u148 (a0.1.getD v0.2.1.toNat (dflt y115)))||v0.2.2.getD (Int.toNat (1:Int)) (0:Int) != v1-(1:Int)||v0.2.2.getD (Int.toNat (0:Int)) (0:Int)==v1-(1:Int)||!decide (a0.2.1.2.1.getD (v1-(1:Int)).toNat (dflt Ty.str)=v0.1)) then
   some false
  else
   gd (ix (v1-1) a0.2.2.length/\True)<|lt (a0.2.2.getD (v1-1).toNat (dflt y36)) fun v2 =>
   gd ((((v2.2.2.2.length:Int)==1&&(v2.1.length:Int)==1)=true/\True->ix 0 v2.2.2.1.length)/\True) <|
   some ((v2.2.2.2.length:Int)==(1:Int)&&(v2.1.length:Int)==(1:Int)&&v2.2.2.1.getD (Int.toNat (0:Int)) (0:Int)==(0:Int))
def k151:Ct:=lct 151 [.agg y50] (fun x=>u151 x.1) (fun r:Bool=>B r) (fun _=>())
theorem o151:Ok prog k151:=by
 refine okM [.tmp 2] func151 ?_;intro y ⟨a0,_⟩ r H Q hn hr;have:=hz (tc o148 (tc o179 tn));refine iA [1]<|iA [1,3]<|vQ<|iA [1,3,12]<|cD H (fun H=>iA [2]<|vTT<|fR<|hr H) fun H=>vK<|fQ<|qD (fun v0=>Z [p 1 (R 1),p 3 (R 3),p 4 (R 4)] [(4,K 152 y152 v0),(3,K 47 y47 a0.2.1),(1,K 50 y50 a0)]) H fun v0 H=>iD o179 [1,3,4,5] H fun _ H=>vQ<|iB [1,5,59] H fun H=>cD H (fun H=>iA [2]<|vTT<|fR<|hr H) fun H=>vK<|fQ<|qD (fun v2=>Z [p 6 (R 6)] [(6,K 36 y36 v2),(4,K 152 y152 v0),(3,K 47 y47 a0.2.1),(1,K 50 y50 a0)]) H fun v2 H=>iB [2] H fun H=>vTT<|hr H
def u133J0:Unit->Option Int
 | _ =>
 some (-1)
def u133L1(a1:ByteArray)(a0:List ByteArray)(g1:Int->Option Int):Int->Option Int
 | v0 =>
 if(decide (v0 < (a0.length:Int))) then
  gd (ix v0 a0.length/\True) <|
  if(decide (a1=a0.getD v0.toNat (dflt Ty.str))) then
   some v0
  else
   gd (in64 (v0+1)/\True) <|
   g1 (v0+1)
 else
  u133J0 ()
def u133(a0:List ByteArray)(a1:ByteArray):Option Int :=
 lp (u133L1 a1 a0) 0
def k133:Ct:=lct 133 [.dat Ty.str.sl,.dat Ty.str] (fun x=>u133 x.1 x.2.1) (fun r:Int=>I r) (fun _=>())
theorem o133:Ok prog k133:=by
 refine okM [.tmp 4] func133 ?_;intro y ⟨a0,a1,_⟩ r H Q hn hr;refine iA [0,1]<|jN r (fun(_:Unit)=>Z [] []) (u133J0) (fun _ H=>?_) (fun _ n0 e0 t0=>?_)
 ·refine iA [4]<|vTT<|hr H
 refine iA [0,1,7,8]<|vB<|lX (fun(v0:Int)=>Z [p 0 (L Ty.str a0),p 1 (U a1),p 7 (I (a0.length:Int)),p 8 (I v0)] []) 0 H fun _ g1 b1 e1 t1 v0 H=>iA [0,1,7,8,9]<|vQ<|cD H (fun H=>?_) (fun H=>?_)
 ·refine vK<|fQ<|vQ<|vB<|iA [0,1,5,7,8]<|iB [0,1,5,7,8,16] H fun H=>cD H (fun H=>iA [4]<|vTT<|fDD<|fR<|t1<|fDD<|t0<|hr H) fun H=>vK<|fK<|fQ<|jB [0,1,7,8] H fun H=>b1 H
 exact vE<|fE<|e1<|fX rfl<|n0 H
def u77(a0:Y47)(a1:ByteArray):Option Int :=
 gd ((u133 a0.2.1 a1).isSome/\True)<|lt (vl (u133 a0.2.1 a1)) fun v0 =>
 some v0
def k77:Ct:=lct 77 [.agg y47,.dat Ty.str] (fun x=>u77 x.1 x.2.1) (fun r:Int=>I r) (fun _=>())
theorem o77:Ok prog k77:=by
 refine okM [.tmp 4] func77 ?_;intro y ⟨_,_,_⟩ r H Q hn hr;have:=hz (tc o133 tn);refine iA [1,2]<|iD o133 [4] H fun _ H=>vTT<|hr H
def u194(a0:Y152)(a1:ByteArray):Option Bool :=
 some (decide (a0.1=a1))
def k194:Ct:=lct 194 [.agg y152,.dat (.pt Ty.str)] (fun x=>u194 x.1 x.2.1) (fun r:Bool=>B r) (fun _=>())
theorem o194:Ok prog k194:=by
 refine okM [.tmp 3] func194 ?_;intro y ⟨_,_,_⟩ r H Q hn hr;refine iA [1,2]<|iA [3]<|vTT<|hr H
def u193c194J0:Unit->Option Int
 | _ =>
 some (-1)
def u193c194L1(a0:List Y152)(a1:ByteArray)(g1:Int->Option Int):Int->Option Int
 | v0 =>
 if(decide (v0 < (a0.length:Int))) then
  gd (ix v0 a0.length/\(u194 (a0.getD v0.toNat (dflt y152)) a1).isSome/\True) <|
  if(vl (u194 (a0.getD v0.toNat (dflt y152)) a1)) then
   some v0
  else
   gd (in64 (v0+1)/\True) <|
   g1 (v0+1)
 else
  u193c194J0 ()
def u193c194(a0:List Y152)(a1:ByteArray):Option Int :=
 lp (u193c194L1 a0 a1) 0
def k193c194:Ct:=lct 193 [.dat y152.sl,.fn 194 (.pt Ty.str)] (fun x=>u193c194 x.1 x.2.1) (fun r:Int=>I r) (fun _=>())
theorem o193c194:Ok prog k193c194:=by
 refine okM [.tmp 4] func193 ?_;intro y ⟨a0,a1,_⟩ r H Q hn hr;have:=hz (tc o194 tn);refine iA [0,1]<|jN r (fun(_:Unit)=>Z [] []) (u193c194J0) (fun _ H=>?_) (fun _ n0 e0 t0=>?_)
 ·refine iA [4]<|vTT<|hr H
 refine iA [0,1,7,8]<|vB<|lX (fun(v0:Int)=>Z [p 0 (L y152 a0),p 1 (AV.fn 194 [D Ty.str.pt a1]),p 7 (I (a0.length:Int)),p 8 (I v0)] []) 0 H fun _ g1 b1 e1 t1 v0 H=>iA [0,1,7,8,9]<|vQ<|cD H (fun H=>?_) (fun H=>?_)
 ·refine vK<|fQ<|vQ<|vB<|iA [0,1,5,7,8]<|iB [0,1,5,7,8,16] H fun H=>cD H (fun H=>iA [4]<|vTT<|fDD<|fR<|t1<|fDD<|t0<|hr H) fun H=>vK<|fK<|fQ<|jB [0,1,7,8] H fun H=>b1 H
 exact vE<|fE<|e1<|fX rfl<|n0 H
def u150(a0:Y47)(a1:ByteArray):Option Int :=
 gd ((u193c194 a0.1 a1).isSome/\True)<|lt (vl (u193c194 a0.1 a1)) fun v0 =>
 some v0
def k150:Ct:=lct 150 [.agg y47,.dat Ty.str] (fun x=>u150 x.1 x.2.1) (fun r:Int=>I r) (fun _=>())
theorem o150:Ok prog k150:=by
 refine okM [.tmp 4] func150 ?_;intro y ⟨_,_,_⟩ r H Q hn hr;have:=hz (tc o193c194 (tc o194 tn));refine iA [2,3]<|iD o193c194 [4] H fun _ H=>vTT<|hr H
def u149(a0:ByteArray):Option Bool :=
 gd ((u130 (a0.size:Int) (1:Int) (8:Int)).isSome/\(vl (u130 (a0.size:Int) (1:Int) (8:Int))=true/\True->(u191 a0 (ByteArray.mk #[(97:UInt8),(98:UInt8),(99:UInt8),(100:UInt8),(101:UInt8),(102:UInt8),(103:UInt8),(104:UInt8),(105:UInt8),(106:UInt8),(107:UInt8),(108:UInt8),(109:UInt8),(110:UInt8),(111:UInt8),(112:UInt8),(113:UInt8),(114:UInt8),(115:UInt8),(116:UInt8),(117:UInt8),(118:UInt8),(119:UInt8),(120:UInt8),(121:UInt8),(122:UInt8),(48:UInt8),(49:UInt8),(50:UInt8),(51:UInt8),(52:UInt8),(53:UInt8),(54:UInt8),(55:UInt8),(56:UInt8),(57:UInt8)])).isSome)/\((vl (u130 (a0.size:Int) (1:Int) (8:Int))&&decide (vl (u191 a0 (ByteArray.mk #[(97:UInt8),(98:UInt8),(99:UInt8),(100:UInt8),(101:UInt8),(102:UInt8),(103:UInt8),(104:UInt8),(105:UInt8),(106:UInt8),(107:UInt8),(108:UInt8),(109:UInt8),(110:UInt8),(111:UInt8),(112:UInt8),(113:UInt8),(114:UInt8),(115:UInt8),(116:UInt8),(117:UInt8),(118:UInt8),(119:UInt8),(120:UInt8),(121:UInt8),(122:UInt8),(48:UInt8),(49:UInt8),(50:UInt8),(51:UInt8),(52:UInt8),(53:UInt8),(54:UInt8),(55:UInt8),(56:UInt8),(57:UInt8)]))=ByteArray.mk #[]))=true/\True->ix (0:Int) a0.size)/\((vl (u130 (a0.size:Int) (1:Int) (8:Int))&&decide (vl (u191 a0 (ByteArray.mk #[(97:UInt8),(98:UInt8),(99:UInt8),(100:UInt8),(101:UInt8),(102:UInt8),(103:UInt8),(104:UInt8),(105:UInt8),(106:UInt8),(107:UInt8),(108:UInt8),(109:UInt8),(110:UInt8),(111:UInt8),(112:UInt8),(113:UInt8),(114:UInt8),(115:UInt8),(116:UInt8),(117:UInt8),(118:UInt8),(119:UInt8),(120:UInt8),(121:UInt8),(122:UInt8),(48:UInt8),(49:UInt8),(50:UInt8),(51:UInt8),(52:UInt8),(53:UInt8),(54:UInt8),(55:UInt8),(56:UInt8),(57:UInt8)]))=ByteArray.mk #[]))=true/\True->(u192 (ByteArray.mk #[(97:UInt8),(98:UInt8),(99:UInt8),(100:UInt8),(101:UInt8),(102:UInt8),(103:UInt8),(104:UInt8),(105:UInt8),(106:UInt8),(107:UInt8),(108:UInt8),(109:UInt8),(110:UInt8),(111:UInt8),(112:UInt8),(113:UInt8),(114:UInt8),(115:UInt8),(116:UInt8),(117:UInt8),(118:UInt8),(119:UInt8),(120:UInt8),(121:UInt8),(122:UInt8)]) (byteAt a0 (Int.toNat (0:Int)))).isSome)/\True)<|lt ((vl (u191 a0 (ByteArray.mk #[97,98,99,100,101,102,103,104,105,106,107,108,109,110,111,112,113,114,115,116,117,118,119,120,121,122,48,49,50,51,52,53,54,55,56,57])),vl (u192 (ByteArray.mk #[(97:UInt8),(98:UInt8),(99:UInt8),(100:UInt8),(101:UInt8),(102:UInt8),(103:UInt8),(104:UInt8),(105:UInt8),(106:UInt8),(107:UInt8),(108:UInt8),(109:UInt8),(110:UInt8),(111:UInt8),(112:UInt8),(113:UInt8),(114:UInt8),(115:UInt8),(116:UInt8),(117:UInt8),(118:UInt8),(119:UInt8),(120:UInt8),(121:UInt8),(122:UInt8)]) (byteAt a0 (Int.toNat (0:Int)))))) fun(v0,v1) =>
 some (vl (u130 (a0.size:Int) 1 8)&&decide (v0=ByteArray.mk #[])&&decide (0<=v1))
def k149:Ct:=lct 149 [.dat Ty.str] (fun x=>u149 x.1) (fun r:Bool=>B r) (fun _=>())
theorem o149:Ok prog k149:=by
 refine okM [.tmp 2] func149 ?_;intro y ⟨a0,_⟩ r H Q hn hr;have:=hz (tc o192 (tc o191 (tc o130 tn)));refine iA [0]<|qD (fun(v0,v1)=>Z [p 2 (B (vl (u130 (a0.size:Int) 1 8)&&decide (v0=ByteArray.mk #[])&&decide (0<=v1)))] []) H fun⟨v0,v1⟩ H =>
  vTT<|hr H
def u190(a0:Y170)(a1:Y170):Option Bool :=
 some (a0.2.2.2==a1.2.2.2)
def k190:Ct:=lct 190 [.agg y170,.agg y170] (fun x=>u190 x.1 x.2.1) (fun r:Bool=>B r) (fun _=>())
theorem o190:Ok prog k190:=by
 refine okM [.tmp 4] func190 ?_;intro y ⟨_,_,_⟩ r H Q hn hr;refine iA [2,3]<|iA [4]<|vTT<|hr H
def u189c190J0:Unit->Option Bool
 | _ =>
 some true
def u189c190L1(a1:List Y170)(a0:List Y170)(g1:Int->Option Bool):Int->Option Bool
 | v2 =>
 if(decide (v2 < (a0.length:Int))) then
  gd (ix v2 a0.length/\True)<|lt (a0.getD v2.toNat (dflt y170)) fun v3 =>
  gd (ix v2 a1.length/\True)<|lt (a1.getD v2.toNat (dflt y170)) fun v4 =>
  gd ((u190 v3 v4).isSome/\True) <|
  if(!vl (u190 v3 v4)) then
   some false
  else
   gd (in64 (v2+1)/\True) <|
   g1 (v2+1)
 else
  u189c190J0 ()
def u189c190(a0:List Y170)(a1:List Y170):Option Bool :=
 if((a0.length:Int) != (a1.length:Int)) then
  some false
 else
  lp (u189c190L1 a1 a0) 0
def k189c190:Ct:=lct 189 [.dat y170.sl,.dat y170.sl,.nof 190] (fun x=>u189c190 x.1 x.2.1) (fun r:Bool=>B r) (fun _=>())
theorem o189c190:Ok prog k189c190:=by
 refine okM [.tmp 6] func189 ?_;intro y ⟨a0,a1,_,_⟩ r H Q hn hr;have:=hz (tc o190 tn);refine iA [0,1,2]<|vQ<|iA [0,1,2,14]<|cD H (fun H=>iA [6]<|vTT<|fR<|hr H) fun H=>vK<|fQ<|jN r (fun(_:Unit)=>Z [] []) (u189c190J0) (fun _ H=>?_) (fun _ n0 e0 t0=>?_)
 ·refine iA [6]<|vTT<|hr H
 refine iA [1,2,15,16,17]<|vB<|lX (fun(v2:Int)=>Z [p 1 (L y170 a1),p 2 (AV.fn 190 []),p 15 (L y170 a0),p 16 (I (a0.length:Int)),p 17 (I v2)] []) 0 H fun _ g1 b1 e1 t1 v2 H=>iA [1,2,15,16,17,18]<|vQ<|cD H (fun H=>?_) (fun H=>?_)
 ·refine vK<|fQ<|vQ<|vB<|qD (fun v3=>Z [p 1 (L y170 a1),p 2 (AV.fn 190 []),p 7 (I v2),p 8 (R 8),p 15 (L y170 a0),p 16 (I (a0.length:Int)),p 17 (I v2)] [(8,K 170 y170 v3)]) H fun v3 H=>qD (fun v4=>Z [p 1 (L y170 a1),p 2 (AV.fn 190 []),p 8 (R 8),p 9 (R 9),p 15 (L y170 a0),p 16 (I (a0.length:Int)),p 17 (I v2)] [(9,K 170 y170 v4),(8,K 170 y170 v3)]) H fun v4 H=>iB [1,2,15,16,17,30] H fun H=>cD H (fun H=>iA [6]<|vTT<|fDD<|fR<|t1<|fDD<|t0<|hr H) fun H=>vK<|fK<|fQ<|jB [1,2,15,16,17] H fun H=>b1 H
 exact vE<|fE<|e1<|fX rfl<|n0 H
def u147(a0:Y115)(a1:Y115):Option Bool :=
 gd (((a0.2.1==a1.2.1)=true/\True->(u189c190 a0.2.2.1 a1.2.2.1).isSome)/\True) <|
 some (a0.2.1==a1.2.1&&vl (u189c190 a0.2.2.1 a1.2.2.1))
def k147:Ct:=lct 147 [.agg y115,.agg y115] (fun x=>u147 x.1 x.2.1) (fun r:Bool=>B r) (fun _=>())
theorem o147:Ok prog k147:=by
 refine okM [.tmp 4] func147 ?_;intro y ⟨_,_,_⟩ r H Q hn hr;have:=hz (tc o190 (tc o189c190 tn));refine iA [2,3]<|iB [4] H fun H=>vTT<|hr H
def u85(a0:Y38)(a1:Y50):Option Bool :=
 gd ((u75 a1.2.1).isSome/\True)<|lt (vl (u75 a1.2.1)) fun v0 =>
 if(a0.1==1) then
  gd (ix a0.2.1 v0.length/\a0.2.1.toNat<v0.length/\True)<|lt (v0.getD a0.2.1.toNat (dflt y126)) fun v1 =>
  gd (((decide (0<=v1.1)&&v1.2.2.2)=true/\True->ix v1.1 a1.2.1.1.length)/\((decide (0<=v1.1)&&v1.2.2.2)=true/\True->ix (a1.2.1.1.getD v1.1.toNat (dflt y152)).2.1 a1.1.length)/\((decide (0<=v1.1)&&v1.2.2.2)=true/\True->ix a0.2.2.1 a1.1.length)/\((decide (0<=v1.1)&&v1.2.2.2)=true/\True->(u147 (a1.1.getD (a1.2.1.1.getD v1.1.toNat (dflt y152)).2.1.toNat (dflt y115)) (a1.1.getD a0.2.2.1.toNat (dflt y115))).isSome)/\True) <|
  some (decide (0<=v1.1)&&v1.2.2.2&&vl (u147 (a1.1.getD (a1.2.1.1.getD v1.1.toNat (dflt y152)).2.1.toNat (dflt y115)) (a1.1.getD a0.2.2.1.toNat (dflt y115))))
 else
  if(a0.1==2) then
   gd (ix a0.2.1 v0.length/\a0.2.1.toNat<v0.length/\((!(v0.getD a0.2.1.toNat (dflt y126)).2.2.2)=true/\True->ix a0.2.2.1 a1.1.length)/\((!(v0.getD a0.2.1.toNat (dflt y126)).2.2.2)=true/\True->(u148 (a1.1.getD a0.2.2.1.toNat (dflt y115))).isSome)/\((!(v0.getD a0.2.1.toNat (dflt y126)).2.2.2&&vl (u148 (a1.1.getD a0.2.2.1.toNat (dflt y115))))=true/\True->(u149 a0.2.2.2.2.2.1).isSome)/\((!(v0.getD a0.2.1.toNat (dflt y126)).2.2.2&&vl (u148 (a1.1.getD a0.2.2.1.toNat (dflt y115)))&&vl (u149 a0.2.2.2.2.2.1))=true/\True->(u150 a1.2.1 a0.2.2.2.2.2.1).isSome)/\((!(v0.getD a0.2.1.toNat (dflt y126)).2.2.2&&vl (u148 (a1.1.getD a0.2.2.1.toNat (dflt y115)))&&vl (u149 a0.2.2.2.2.2.1)&&decide (vl (u150 a1.2.1 a0.2.2.2.2.2.1)<0))=true/\True->(u77 a1.2.1 a0.2.2.2.2.2.1).isSome)/\True)<|lt ((vl (u150 a1.2.1 a0.2.2.2.2.2.1),vl (u77 a1.2.1 a0.2.2.2.2.2.1))) fun(v2,v3) =>
   some (!(v0.getD a0.2.1.toNat (dflt y126)).2.2.2&&vl (u148 (a1.1.getD a0.2.2.1.toNat (dflt y115)))&&vl (u149 a0.2.2.2.2.2.1)&&decide (v2<0)&&decide (v3<0))
  else
   if(a0.1==3) then
    gd ((u151 a1).isSome/\True) <|
    some (vl (u151 a1))
   else
    if(a0.1==4) then
     gd (ix a0.2.1 v0.length/\a0.2.1.toNat<v0.length/\((!(v0.getD a0.2.1.toNat (dflt y126)).2.2.2)=true/\True->ix a0.2.1 v0.length)/\((!(v0.getD a0.2.1.toNat (dflt y126)).2.2.2)=true/\True->a0.2.1.toNat<v0.length)/\True) <|
     some (!(v0.getD a0.2.1.toNat (dflt y126)).2.2.2&&(v0.getD a0.2.1.toNat (dflt y126)).2.2.1 != a0.2.2.2.1)
    else
     gd (ix a0.2.2.2.1 a1.2.2.length/\(u79 (a1.2.2.getD a0.2.2.2.1.toNat (dflt y36)).2.2.2).isSome/\(u76 a0.2.2.2.2.2.2 (vl (u79 (a1.2.2.getD a0.2.2.2.1.toNat (dflt y36)).2.2.2))).isSome/\True) <|
     some (vl (u76 a0.2.2.2.2.2.2 (vl (u79 (a1.2.2.getD a0.2.2.2.1.toNat (dflt y36)).2.2.2))))
def k85:Ct:=lct 85 [.agg y38,.agg y50] (fun x=>u85 x.1 x.2.1) (fun r:Bool=>B r) (fun _=>())
theorem o85:Ok prog k85:=by
 refine okM [.tmp 4] func85 ?_;intro y ⟨a0,a1,_⟩ r H Q hn hr;have:=hz (tc o76 (tc o79 (tc o151 (tc o77 (tc o150 (tc o149 (tc o148 (tc o147 (tc o75 tn)))))))));refine iA [2,3]<|iA [2,3,5]<|iD o75 [2,3,5,6] H fun v0 H=>vQ<|iA [2,3,5,6,13]<|vB<|iA [2,3,5,6,13,14]<|cD H (fun H=>qD (fun v1=>Z (G0 [p 5 (R 5),p 7 (R 7)]) [(7,bx 126 (cellsD true y126 v1)),(11,A 126 y126 v0 0),(5,K 47 y47 a1.2.1),(3,K 50 y50 a1),(2,K 38 y38 a0)]) H fun v1 H=>iB [4] H fun H=>vTT<|fDD<|fR<|hr H) fun H=>iA [2,3,5,6,13,50]<|cD H (fun H=>?_) (fun H=>?_)
 ·refine qD (fun(v2,v3)=>Z [p 4 (B (!(v0.getD a0.2.1.toNat (dflt y126)).2.2.2&&vl (u148 (a1.1.getD a0.2.2.1.toNat (dflt y115)))&&vl (u149 a0.2.2.2.2.2.1)&&decide (v2<0)&&decide (v3<0)))] [(11,A 126 y126 v0 0),(5,K 47 y47 a1.2.1),(3,K 50 y50 a1),(2,K 38 y38 a0)]) H fun⟨v2,v3⟩ H =>
   vTT<|fDD<|fR<|hr H
 refine iA [2,3,6,13,88]<|cD H (fun H=>iB [4] H fun H=>vTT<|fDD<|fR<|hr H) fun H=>iA [2,3,6,92]<|cD H (fun H=>iB [4] H fun H=>vTT<|fDD<|fR<|hr H) fun H=>vK<|fK<|fQ<|iB [4] H fun H=>vTT<|hr H
def u127(a0:Y47)(a1:Int):Option Bool :=
 gd ((u179 a0.2.1).isSome/\in64 (vl (u179 a0.2.1)-1)/\(u130 a1 0 (vl (u179 a0.2.1)-1)).isSome/\True) <|
 some (vl (u130 a1 0 (vl (u179 a0.2.1)-1)))
def k127:Ct:=lct 127 [.agg y47,.dat i64] (fun x=>u127 x.1 x.2.1) (fun r:Bool=>B r) (fun _=>())
theorem o127:Ok prog k127:=by
 refine okM [.tmp 4] func127 ?_;intro y ⟨_,_,_⟩ r H Q hn hr;have:=hz (tc o130 (tc o179 tn));refine iA [1,2]<|iB [4] H fun H=>vTT<|hr H
def u146(a0:List Y115):Option Int :=
 some (a0.length:Int)
def k146:Ct:=lct 146 [.dat y115.sl] (fun x=>u146 x.1) (fun r:Int=>I r) (fun _=>())
theorem o146:Ok prog k146:=by
 refine okM [.tmp 2] func146 ?_;intro y ⟨_,_⟩ r H Q hn hr;refine iA [0]<|iA [2]<|vTT<|hr H
def u145(a0:List Y126):Option Int :=
 some (a0.length:Int)
def k145:Ct:=lct 145 [.dat y126.sl] (fun x=>u145 x.1) (fun r:Int=>I r) (fun _=>())
theorem o145:Ok prog k145:=by
 refine okM [.tmp 2] func145 ?_;intro y ⟨_,_⟩ r H Q hn hr;refine iA [0]<|iA [2]<|vTT<|hr H
def u231J0:Unit->Option Bool
 | _ =>
 some true
def u231L1(a0:List Int)(a1:List Int)(g1:Int->Option Bool):Int->Option Bool
 | v0 =>
 if(decide (v0 < (a0.length:Int))) then
  gd (ix v0 a0.length/\ix v0 a1.length/\True) <|
  if(a0.getD v0.toNat 0 != a1.getD v0.toNat 0) then
   some false
  else
   gd (in64 (v0+1)/\True) <|
   g1 (v0+1)
 else
  u231J0 ()
def u231(a0:List Int)(a1:List Int):Option Bool :=
 if((a0.length:Int) != (a1.length:Int)) then
  some false
 else
  lp (u231L1 a0 a1) 0
def k231:Ct:=lct 231 [.dat i64.sl,.dat i64.sl] (fun x=>u231 x.1 x.2.1) (fun r:Bool=>B r) (fun _=>())
theorem o231:Ok prog k231:=by
 refine okM [.tmp 4] func231 ?_;intro y ⟨a0,a1,_⟩ r H Q hn hr;refine iA [0,1]<|vQ<|iA [0,1,10]<|cD H (fun H=>iA [4]<|vTT<|fR<|hr H) fun H=>vK<|fQ<|jN r (fun(_:Unit)=>Z [] []) (u231J0) (fun _ H=>?_) (fun _ n0 e0 t0=>?_)
 ·refine iA [4]<|vTT<|hr H
 refine iA [0,1,12,13]<|vB<|lX (fun(v0:Int)=>Z [p 0 (L i64 a0),p 1 (L i64 a1),p 12 (I (a0.length:Int)),p 13 (I v0)] []) 0 H fun _ g1 b1 e1 t1 v0 H=>iA [0,1,12,13,14]<|vQ<|cD H (fun H=>?_) (fun H=>?_)
 ·refine vK<|fQ<|vQ<|vB<|iA [0,1,5,12,13]<|iB [0,1,12,13,24] H fun H=>cD H (fun H=>iA [4]<|vTT<|fDD<|fR<|t1<|fDD<|t0<|hr H) fun H=>vK<|fK<|fQ<|jB [0,1,12,13] H fun H=>b1 H
 exact vE<|fE<|e1<|fX rfl<|n0 H
def u188(a0:Y36)(a1:Y36):Option Bool :=
 gd ((u231 a0.1 a1.1).isSome/\(vl (u231 a0.1 a1.1)=true/\True->(u231 a0.2.1 a1.2.1).isSome)/\((vl (u231 a0.1 a1.1)&&vl (u231 a0.2.1 a1.2.1))=true/\True->(u231 a0.2.2.1 a1.2.2.1).isSome)/\((vl (u231 a0.1 a1.1)&&vl (u231 a0.2.1 a1.2.1)&&vl (u231 a0.2.2.1 a1.2.2.1))=true/\True->(u231 a0.2.2.2 a1.2.2.2).isSome)/\True) <|
 some (vl (u231 a0.1 a1.1)&&vl (u231 a0.2.1 a1.2.1)&&vl (u231 a0.2.2.1 a1.2.2.1)&&vl (u231 a0.2.2.2 a1.2.2.2))
def k188:Ct:=lct 188 [.agg y36,.agg y36] (fun x=>u188 x.1 x.2.1) (fun r:Bool=>B r) (fun _=>())
theorem o188:Ok prog k188:=by
 refine okM [.tmp 4] func188 ?_;intro y ⟨_,_,_⟩ r H Q hn hr;have:=hz (tc o231 tn);refine iA [2,3]<|iB [4] H fun H=>vTT<|hr H
def u143(a0:Y38)(a1:Y38):Option Bool :=
 gd (((a0.1==a1.1&&a0.2.1==a1.2.1&&a0.2.2.1==a1.2.2.1&&a0.2.2.2.1==a1.2.2.2.1&&a0.2.2.2.2.1==a1.2.2.2.2.1&&decide (a0.2.2.2.2.2.1=a1.2.2.2.2.2.1))=true/\True->(u188 a0.2.2.2.2.2.2 a1.2.2.2.2.2.2).isSome)/\True)<|lt (a0.1==a1.1&&a0.2.1==a1.2.1&&a0.2.2.1==a1.2.2.1&&a0.2.2.2.1==a1.2.2.2.1&&a0.2.2.2.2.1==a1.2.2.2.2.1&&decide (a0.2.2.2.2.2.1=a1.2.2.2.2.2.1)&&vl (u188 a0.2.2.2.2.2.2 a1.2.2.2.2.2.2)) fun v0 =>
 some v0
def k143:Ct:=lct 143 [.agg y38,.agg y38] (fun x=>u143 x.1 x.2.1) (fun r:Bool=>B r) (fun _=>())
theorem o143:Ok prog k143:=by
 refine okM [.tmp 4] func143 ?_;intro y ⟨a0,a1,_⟩ r H Q hn hr;have:=hz (tc o188 tn);refine iA [2,3]<|qD (fun v0=>Z [p 4 (B v0)] [(3,K 38 y38 a1),(2,K 38 y38 a0)]) H fun v0 H=>vTT<|hr H
def u144(a0:Y38):Option Y38 :=
 if(a0.1==1) then
  some ((a0.1,a0.2.1,a0.2.2.1,(0:Int),(0:Int),ByteArray.mk #[],[],[],[],[]))
 else
  if(a0.1==2) then
   some ((a0.1,a0.2.1,a0.2.2.1,(0:Int),(0:Int),a0.2.2.2.2.2.1,[],[],[],[]))
  else
   if(a0.1==4) then
    some ((a0.1,a0.2.1,(0:Int),a0.2.2.2.1,a0.2.2.2.2.1,ByteArray.mk #[],[],[],[],[]))
   else
    if(a0.1==5) then
     some ((a0.1,(0:Int),(0:Int),a0.2.2.2.1,(0:Int),ByteArray.mk #[],a0.2.2.2.2.2.2))
    else
     some ((a0.1,(0:Int),(0:Int),(0:Int),(0:Int),ByteArray.mk #[],[],[],[],[]))
def k144:Ct:=lct 144 [.agg y38] (fun x=>u144 x.1) (fun r:Y38=>AV.agg [I r.1,I r.2.1,I r.2.2.1,I r.2.2.2.1,I r.2.2.2.2.1,S r.2.2.2.2.2.1,L i64 r.2.2.2.2.2.2.1,L i64 r.2.2.2.2.2.2.2.1,L i64 r.2.2.2.2.2.2.2.2.1,L i64 r.2.2.2.2.2.2.2.2.2]) (fun _=>())
theorem o144:Ok prog k144:=by
 refine okM [.cell 2 38] func144 ?_;intro y ⟨_,_⟩ r H Q hn hr;refine iA [1,2]<|vQ<|iA [1,2,4]<|vB<|iA [1,2,4,5]<|cD H (fun H=>iA [2]<|vTT<|fDD<|fR<|hr H) fun H=>iA [1,2,4,14]<|cD H (fun H=>iA [2]<|vTT<|fDD<|fR<|hr H) fun H=>iA [1,2,4,25]<|cD H (fun H=>iA [2]<|vTT<|fDD<|fR<|hr H) fun H=>iA [1,2,36]<|cD H (fun H=>iA [2]<|vTT<|fDD<|fR<|hr H) fun H=>vK<|fK<|fQ<|iA [2]<|vTT<|hr H
def u84J0(a0:Y38)(v0:List Y126)(a1:Y50):Bool->Option Bool
 | v1 =>
 if v1 then
  gd ((vl (u130 a0.2.1 0 (vl (u145 v0)-1))=true/\True->(u146 a1.1).isSome)/\(vl (u130 a0.2.1 0 (vl (u145 v0)-1))=true/\True->in64 (vl (u146 a1.1)-1))/\(vl (u130 a0.2.1 0 (vl (u145 v0)-1))=true/\True->(u130 a0.2.2.1 0 (vl (u146 a1.1)-1)).isSome)/\True) <|
  some (vl (u130 a0.2.1 0 (vl (u145 v0)-1))&&vl (u130 a0.2.2.1 0 (vl (u146 a1.1)-1)))
 else
  if(a0.1==4) then
   gd ((vl (u130 a0.2.1 0 (vl (u145 v0)-1))=true/\True->(u127 a1.2.1 a0.2.2.2.1).isSome)/\((vl (u130 a0.2.1 0 (vl (u145 v0)-1))&&vl (u127 a1.2.1 a0.2.2.2.1))=true/\True->ix a0.2.2.2.1 a1.2.2.length)/\((vl (u130 a0.2.1 0 (vl (u145 v0)-1))&&vl (u127 a1.2.1 a0.2.2.2.1))=true/\True->(u79 (a1.2.2.getD a0.2.2.2.1.toNat (dflt y36)).1).isSome)/\((vl (u130 a0.2.1 0 (vl (u145 v0)-1))&&vl (u127 a1.2.1 a0.2.2.2.1))=true/\True->in64 (vl (u79 (a1.2.2.getD a0.2.2.2.1.toNat (dflt y36)).1)-1))/\((vl (u130 a0.2.1 0 (vl (u145 v0)-1))&&vl (u127 a1.2.1 a0.2.2.2.1))=true/\True->(u130 a0.2.2.2.2.1 0 (vl (u79 (a1.2.2.getD a0.2.2.2.1.toNat (dflt y36)).1)-1)).isSome)/\True) <|
   some (vl (u130 a0.2.1 0 (vl (u145 v0)-1))&&vl (u127 a1.2.1 a0.2.2.2.1)&&vl (u130 a0.2.2.2.2.1 0 (vl (u79 (a1.2.2.getD a0.2.2.2.1.toNat (dflt y36)).1)-1)))
  else
   if(a0.1==5) then
    gd ((u127 a1.2.1 a0.2.2.2.1).isSome/\True) <|
    some (vl (u127 a1.2.1 a0.2.2.2.1))
   else
    some true
def u84(a0:Y38)(a1:Y50):Option Bool :=
 gd ((u130 a0.1 1 5).isSome/\((!vl (u130 a0.1 1 5))=false/\True->(u144 a0).isSome)/\((!vl (u130 a0.1 1 5))=false/\True->(u143 a0 (vl (u144 a0))).isSome)/\True) <|
 if(!vl (u130 a0.1 1 5)||!vl (u143 a0 (vl (u144 a0)))) then
  some false
 else
  gd ((u75 a1.2.1).isSome/\(u145 (vl (u75 a1.2.1))).isSome/\in64 (vl (u145 (vl (u75 a1.2.1)))-1)/\(u130 a0.2.1 0 (vl (u145 (vl (u75 a1.2.1)))-1)).isSome/\True)<|lt (vl (u75 a1.2.1)) fun v0 =>
  if(a0.1==1) then
   u84J0 a0 v0 a1 (a0.1==1)
  else
   u84J0 a0 v0 a1 (a0.1==2)
def k84:Ct:=lct 84 [.agg y38,.agg y50] (fun x=>u84 x.1 x.2.1) (fun r:Bool=>B r) (fun _=>())
theorem o84:Ok prog k84:=by
 refine okM [.tmp 4] func84 ?_;intro y ⟨a0,a1,_⟩ r H Q hn hr;have:=hz (tc o127 (tc o130 (tc o79 (tc o146 (tc o145 (tc o75 (tc o143 (tc o144 tn))))))));refine iA [2,3]<|vQ<|iB [2,3,16] H fun H=>cD H (fun H=>iA [4]<|vTT<|fR<|hr H) fun H=>vK<|fQ<|iD o75 [2,3,5] H fun v0 H=>vQ<|iA [2,3,5,26]<|vB<|jN r (fun(v1:Bool)=>Z (G0 [p 5 (B (vl (u130 a0.2.1 0 (vl (u145 v0)-1)))),p 26 (J a0.1),p 27 (B v1)]) [(3,K 50 y50 a1),(2,K 38 y38 a0)]) (u84J0 a0 v0 a1) (fun v1 H=>?_) (fun _ n0 e0 t0=>?_)
 ·refine cD H (fun H=>iB [4] H fun H=>vTT<|fDD<|fR<|hr H) fun H=>iA [2,3,5,26,41]<|cD H (fun H=>iB [4] H fun H=>vTT<|fDD<|fR<|hr H) fun H=>iA [2,3,65]<|cD H (fun H=>iB [4] H fun H=>vTT<|fDD<|fR<|hr H) fun H=>vK<|fK<|fQ<|iA [4]<|vTT<|hr H
 refine iA [2,3,5,26,27]<|cD H (fun H=>vK<|n0 H) fun H=>jA [2,3,5,26,27]<|n0 H
def u32(a0:Y38)(a1:Y50):Option Int :=
 gd ((u84 a0 a1).isSome/\True) <|
 if(!vl (u84 a0 a1)) then
  some 2
 else
  gd ((u85 a0 a1).isSome/\True) <|
  if(!vl (u85 a0 a1)) then
   some 5
  else
   if(a0.1==2&&((a1.2.1.1.length:Int)==14||(a1.2.1.2.1.length:Int)==30)) then
    some 3
   else
    some 0
def k32:Ct:=lct 32 [.agg y38,.agg y50] (fun x=>u32 x.1 x.2.1) (fun r:Int=>I r) (fun _=>())
theorem o32:Ok prog k32:=by
 refine okM [.tmp 4] func32 ?_;intro y ⟨_,_,_⟩ r H Q hn hr;have:=hz (tc o85 (tc o84 tn));refine iA [2,3]<|vQ<|vB<|iB [2,3,5] H fun H=>cD H (fun H=>iA [4]<|vTT<|fDD<|fR<|hr H) fun H=>iB [2,3,10] H fun H=>cD H (fun H=>iA [4]<|vTT<|fDD<|fR<|hr H) fun H=>iA [15]<|cD H (fun H=>iA [4]<|vTT<|fDD<|fR<|hr H) fun H=>vK<|fK<|fQ<|iA [4]<|vTT<|hr H
def u129(a0:Int):Option Bool :=
 some (a0 != 1)
def k129:Ct:=lct 129 [.dat i64] (fun x=>u129 x.1) (fun r:Bool=>B r) (fun _=>())
theorem o129:Ok prog k129:=by
 refine okM [.tmp 2] func129 ?_;intro y ⟨_,_⟩ r H Q hn hr;refine iA [0]<|iA [2]<|vTT<|hr H
def u178(a0:Int)(a1:Y47):Option Bool :=
 gd ((u127 a1 a0).isSome/\True) <|
 some (!vl (u127 a1 a0))
def k178:Ct:=lct 178 [.dat i64,.dat (.pt y47)] (fun x=>u178 x.1 x.2.1) (fun r:Bool=>B r) (fun _=>())
theorem o178:Ok prog k178:=by
 refine okM [.tmp 3] func178 ?_;intro y ⟨_,_,_⟩ r H Q hn hr;have:=hz (tc o127 tn);refine iA [0,1]<|iB [3] H fun H=>vTT<|hr H
def u220c178J0:Unit->Option Int
 | _ =>
 some (-1)
def u220c178L1(a0:List Int)(a1:Y47)(g1:Int->Option Int):Int->Option Int
 | v0 =>
 if(decide (v0 < (a0.length:Int))) then
  gd (ix v0 a0.length/\(u178 (a0.getD v0.toNat 0) a1).isSome/\True) <|
  if(vl (u178 (a0.getD v0.toNat 0) a1)) then
   some v0
  else
   gd (in64 (v0+1)/\True) <|
   g1 (v0+1)
 else
  u220c178J0 ()
def u220c178(a0:List Int)(a1:Y47):Option Int :=
 lp (u220c178L1 a0 a1) 0
def k220c178:Ct:=lct 220 [.dat i64.sl,.fn 178 y47.pt] (fun x=>u220c178 x.1 x.2.1) (fun r:Int=>I r) (fun _=>())
theorem o220c178:Ok prog k220c178:=by
 refine okM [.tmp 4] func220 ?_;intro y ⟨a0,a1,_⟩ r H Q hn hr;have:=hz (tc o178 tn);refine iA [0,1]<|jN r (fun(_:Unit)=>Z [] []) (u220c178J0) (fun _ H=>?_) (fun _ n0 e0 t0=>?_)
 ·refine iA [4]<|vTT<|hr H
 refine iA [0,1,7,8]<|vB<|lX (fun(v0:Int)=>Z [p 0 (L i64 a0),p 1 (AV.fn 178 [D y47.pt a1]),p 7 (I (a0.length:Int)),p 8 (I v0)] []) 0 H fun _ g1 b1 e1 t1 v0 H=>iA [0,1,7,8,9]<|vQ<|cD H (fun H=>?_) (fun H=>?_)
 ·refine vK<|fQ<|vQ<|vB<|iA [0,1,5,7,8]<|iB [0,1,5,7,8,16] H fun H=>cD H (fun H=>iA [4]<|vTT<|fDD<|fR<|t1<|fDD<|t0<|hr H) fun H=>vK<|fK<|fQ<|jB [0,1,7,8] H fun H=>b1 H
 exact vE<|fE<|e1<|fX rfl<|n0 H
def u177c178(a0:List Int)(a1:Y47):Option Bool :=
 gd ((u220c178 a0 a1).isSome/\True)<|lt (vl (u220c178 a0 a1)) fun v0 =>
 some (decide (0<=v0))
def k177c178:Ct:=lct 177 [.dat i64.sl,.fn 178 (.pt y47)] (fun x=>u177c178 x.1 x.2.1) (fun r:Bool=>B r) (fun _=>())
theorem o177c178:Ok prog k177c178:=by
 refine okM [.tmp 4] func177 ?_;intro y ⟨_,_,_⟩ r H Q hn hr;have:=hz (tc o220c181 (tc o220c178 (tc o178 tn)));refine iA [0,1]<|iD o220c178 [4] H fun _ H=>vTT<|hr H
def u126(a0:Y47)(a1:List Y115)(a2:Y152):Option Bool :=
 gd ((u146 a1).isSome/\in64 (vl (u146 a1)-1)/\(u130 a2.2.1 0 (vl (u146 a1)-1)).isSome/\(vl (u130 a2.2.1 0 (vl (u146 a1)-1))=true/\True->ix a2.2.1 a1.length)/\((vl (u130 a2.2.1 0 (vl (u146 a1)-1))&&(a2.2.2.length:Int)==(↑(a1.getD a2.2.1.toNat (dflt y115)).2.2.1.length:Int))=true/\True->(u177c178 a2.2.2 a0).isSome)/\True) <|
 some (vl (u130 a2.2.1 0 (vl (u146 a1)-1))&&(a2.2.2.length:Int)==(↑(a1.getD a2.2.1.toNat (dflt y115)).2.2.1.length:Int)&&!vl (u177c178 a2.2.2 a0))
def k126:Ct:=lct 126 [.agg y47,.agg y115.sl,.agg y152] (fun x=>u126 x.1 x.2.1 x.2.2.1) (fun r:Bool=>B r) (fun _=>())
theorem o126:Ok prog k126:=by
 refine okM [.tmp 6] func126 ?_;intro y ⟨_,_,_,_⟩ r H Q hn hr;have:=hz (tc o177c181 (tc o177c178 (tc o178 (tc o130 (tc o146 tn)))));refine iA [3,4,5]<|iB [6] H fun H=>vTT<|hr H
def u219(a0:List ByteArray)(a1:ByteArray):Option Bool :=
 gd ((u133 a0 a1).isSome/\True)<|lt (vl (u133 a0 a1)) fun v0 =>
 some (decide (0<=v0))
def k219:Ct:=lct 219 [.dat Ty.str.sl,.dat Ty.str] (fun x=>u219 x.1 x.2.1) (fun r:Bool=>B r) (fun _=>())
theorem o219:Ok prog k219:=by
 refine okM [.tmp 4] func219 ?_;intro y ⟨_,_,_⟩ r H Q hn hr;have:=hz (tc o133 tn);refine iA [0,1]<|iD o133 [4] H fun _ H=>vTT<|hr H
def u176J0:Unit->Option Bool
 | _ =>
 some true
def u176L1(a0:List ByteArray)(g1:Int->Option Bool):Int->Option Bool
 | v0 =>
 if(decide (v0 < (a0.length:Int))) then
  gd (ix v0 a0.length/\True) <|
  gd ((u149 (a0.getD v0.toNat (dflt Ty.str))).isSome/\((!vl (u149 (a0.getD v0.toNat (dflt Ty.str))))=false/\True->(0:Int)<=(0:Int)/\(0:Int)<=v0/\v0<=(a0.length:Int))/\((!vl (u149 (a0.getD v0.toNat (dflt Ty.str))))=false/\True->(u219 (List.take v0.toNat a0) (a0.getD v0.toNat (dflt Ty.str))).isSome)/\True) <|
  if(!vl (u149 (a0.getD v0.toNat (dflt Ty.str)))||vl (u219 (List.take v0.toNat a0) (a0.getD v0.toNat (dflt Ty.str)))) then
   some false
  else
   gd (in64 (v0+1)/\True) <|
   g1 (v0+1)
 else
  u176J0 ()
def u176(a0:List ByteArray):Option Bool :=
 lp (u176L1 a0) 0
def k176:Ct:=lct 176 [.dat Ty.str.sl] (fun x=>u176 x.1) (fun r:Bool=>B r) (fun _=>())
theorem o176:Ok prog k176:=by
 refine okM [.tmp 2] func176 ?_;intro y ⟨a0,_⟩ r H Q hn hr;have:=hz (tc o219 (tc o149 tn));refine iA [0]<|jN r (fun(_:Unit)=>Z [] []) (u176J0) (fun _ H=>?_) (fun _ n0 e0 t0=>?_)
 ·refine iA [2]<|vTT<|hr H
 refine iA [0,5,6,7]<|vB<|lX (fun(v0:Int)=>Z [p 0 (L Ty.str a0),p 5 (L Ty.str a0),p 6 (I (a0.length:Int)),p 7 (I v0)] []) 0 H fun _ g1 b1 e1 t1 v0 H=>iA [0,5,6,7,8]<|vQ<|cD H (fun H=>?_) (fun H=>?_)
 ·refine vK<|fQ<|vQ<|vB<|iB [0,3,4,5,6,7] H fun H=>iB [0,5,6,7,21] H fun H=>cD H (fun H=>iA [2]<|vTT<|fDD<|fR<|t1<|fDD<|t0<|hr H) fun H=>vK<|fK<|fQ<|jB [0,5,6,7] H fun H=>b1 H
 exact vE<|fE<|e1<|fX rfl<|n0 H
def u125J2(v4:List ByteArray)(a0:Y47):List ByteArray->Option Bool
 | v9 =>
 gd (((decide ((v4.length:Int)<=14)&&decide ((a0.2.1.length:Int)<=30)&&decide ((v9.length:Int)<=8))=true/\True->(u176 v4).isSome)/\((decide ((v4.length:Int)<=14)&&decide ((a0.2.1.length:Int)<=30)&&decide ((v9.length:Int)<=8)&&vl (u176 v4))=true/\True->(u176 a0.2.1).isSome)/\((decide ((v4.length:Int)<=14)&&decide ((a0.2.1.length:Int)<=30)&&decide ((v9.length:Int)<=8)&&vl (u176 v4)&&vl (u176 a0.2.1))=true/\True->(u176 v9).isSome)/\True) <|
 some (decide ((v4.length:Int)<=14)&&decide ((a0.2.1.length:Int)<=30)&&decide ((v9.length:Int)<=8)&&vl (u176 v4)&&vl (u176 a0.2.1)&&vl (u176 v9))
def u125L3(a0:Y47)(v4:List ByteArray)(g3:List ByteArray×Int->Option Bool):List ByteArray×Int->Option Bool
 | (v6,v7) =>
 if(decide (v7 < (a0.2.2.length:Int))) then
  gd (ix v7 a0.2.2.length/\True)<|lt (a0.2.2.getD v7.toNat (dflt y166)) fun v8 =>
  gd ((v6.length+[v8.1].length<=9223372036854775807/\(v6.length+[v8.1].length)*16<=140737488355328)/\True) <|
  gd (in64 (v7+1)/\True) <|
  g3 (v6++[v8.1],v7+1)
 else
  u125J2 v4 a0 v6
def u125J0(a0:Y47):List ByteArray->Option Bool
 | v4 =>
 lp (u125L3 a0 v4) ([],0)
def u125L1(a0:Y47)(g1:List ByteArray×Int->Option Bool):List ByteArray×Int->Option Bool
 | (v1,v2) =>
 if(decide (v2 < (a0.1.length:Int))) then
  gd (ix v2 a0.1.length/\True)<|lt (a0.1.getD v2.toNat (dflt y152)) fun v3 =>
  gd ((v1.length+[v3.1].length<=9223372036854775807/\(v1.length+[v3.1].length)*16<=140737488355328)/\True) <|
  gd (in64 (v2+1)/\True) <|
  g1 (v1++[v3.1],v2+1)
 else
  u125J0 a0 v1
def u125(a0:Y47):Option Bool :=
 lp (u125L1 a0) ([],0)
def k125:Ct:=lct 125 [.agg y47] (fun x=>u125 x.1) (fun r:Bool=>B r) (fun _=>())
theorem o125:Ok prog k125:=by
 refine okM [.tmp 2] func125 ?_;intro y ⟨a0,_⟩ r H Q hn hr;have:=hz (tc o176 tn);refine iA [1]<|iA [1,3,4]<|jN r (fun(v4:List ByteArray)=>Z (G5 [p 4 (nil)]) [(1,K 47 y47 a0),(20,A 9 Ty.str v4 0)]) (u125J0 a0) (fun v4 H=>?_) (fun _ n0 e0 t0=>?_)
 ·refine jN r (fun(v9:List ByteArray)=>Z (G5 [p 4 (O 33)]) [(1,K 47 y47 a0),(20,A 9 Ty.str v4 0),(33,A 9 Ty.str v9 0)]) (u125J2 v4 a0) (fun v9 H=>?_) (fun _ n2 e2 t2=>?_)
  ·refine iB [2] H fun H=>vTT<|hr H
  refine iA [1,3,4,23,24,25]<|vB<|lX (fun((v6,v7):List ByteArray×Int)=>Z (G5 [p 4 (O 33),p 23 (L y166 a0.2.2),p 24 (I (a0.2.2.length:Int)),p 25 (I v7)]) [(1,K 47 y47 a0),(20,A 9 Ty.str v4 0),(33,A 9 Ty.str v6 0)]) ([],0) H fun _ g3 b3 e3 t3 ⟨v6,v7⟩ H=>iA [1,3,4,23,24,25,26]<|vQ<|cD H (fun H=>vK<|fQ<|vQ<|vB<|qD (fun v8=>Z (G5 [p 4 (O 33),p 8 (R 8),p 23 (L y166 a0.2.2),p 24 (I (a0.2.2.length:Int)),p 25 (I v7)]) [(8,K 166 y166 v8),(1,K 47 y47 a0),(20,A 9 Ty.str v4 0),(33,A 9 Ty.str v6 0)]) H fun v8 H=>jB [1,3,4,23,24,25] H fun H=>fK<|fQ<|jB [1,3,4,23,24,25] H fun H=>b3 H) fun H=>vE<|fE<|e3<|fX rfl<|n2 H
 refine iA [1,3,4,10,11,12]<|vB<|lX (fun((v1,v2):List ByteArray×Int)=>Z (G5 [p 4 (nil),p 10 (L y152 a0.1),p 11 (I (a0.1.length:Int)),p 12 (I v2)]) [(1,K 47 y47 a0),(20,A 9 Ty.str v1 0)]) ([],0) H fun _ g1 b1 e1 t1 ⟨v1,v2⟩ H=>iA [1,3,4,10,11,12,13]<|vQ<|cD H (fun H=>vK<|fQ<|vQ<|vB<|qD (fun v3=>Z (G5 [p 4 (nil),p 6 (R 6),p 10 (L y152 a0.1),p 11 (I (a0.1.length:Int)),p 12 (I v2)]) [(6,K 152 y152 v3),(1,K 47 y47 a0),(20,A 9 Ty.str v1 0)]) H fun v3 H=>jB [1,3,4,10,11,12] H fun H=>fK<|fQ<|jB [1,3,4,10,11,12] H fun H=>b1 H) fun H=>vE<|fE<|e1<|fX rfl<|n0 H
def u293(a0:Y243)(a1:Int):Option Bool :=
 some (a0.1==a1)
def k293:Ct:=lct 293 [.agg y243,.dat (.pt i64)] (fun x=>u293 x.1 x.2.1) (fun r:Bool=>B r) (fun _=>())
theorem o293:Ok prog k293:=by
 refine okM [.tmp 3] func293 ?_;intro y ⟨_,_,_⟩ r H Q hn hr;refine iA [1,2]<|iA [3]<|vTT<|hr H
def u292c293J0:Unit->Option Int
 | _ =>
 some (-1)
def u292c293L1(a0:List Y243)(a1:Int)(g1:Int->Option Int):Int->Option Int
 | v0 =>
 if(decide (v0 < (a0.length:Int))) then
  gd (ix v0 a0.length/\(u293 (a0.getD v0.toNat (dflt y243)) a1).isSome/\True) <|
  if(vl (u293 (a0.getD v0.toNat (dflt y243)) a1)) then
   some v0
  else
   gd (in64 (v0+1)/\True) <|
   g1 (v0+1)
 else
  u292c293J0 ()
def u292c293(a0:List Y243)(a1:Int):Option Int :=
 lp (u292c293L1 a0 a1) 0
def k292c293:Ct:=lct 292 [.dat y243.sl,.fn 293 i64.pt] (fun x=>u292c293 x.1 x.2.1) (fun r:Int=>I r) (fun _=>())
theorem o292c293:Ok prog k292c293:=by
 refine okM [.tmp 4] func292 ?_;intro y ⟨a0,a1,_⟩ r H Q hn hr;have:=hz (tc o293 tn);refine iA [0,1]<|jN r (fun(_:Unit)=>Z [] []) (u292c293J0) (fun _ H=>?_) (fun _ n0 e0 t0=>?_)
 ·refine iA [4]<|vTT<|hr H
 refine iA [0,1,7,8]<|vB<|lX (fun(v0:Int)=>Z [p 0 (L y243 a0),p 1 (AV.fn 293 [D i64.pt a1]),p 7 (I (a0.length:Int)),p 8 (I v0)] []) 0 H fun _ g1 b1 e1 t1 v0 H=>iA [0,1,7,8,9]<|vQ<|cD H (fun H=>?_) (fun H=>?_)
 ·refine vK<|fQ<|vQ<|vB<|iA [0,1,5,7,8]<|iB [0,1,5,7,8,16] H fun H=>cD H (fun H=>iA [4]<|vTT<|fDD<|fR<|t1<|fDD<|t0<|hr H) fun H=>vK<|fK<|fQ<|jB [0,1,7,8] H fun H=>b1 H
 exact vE<|fE<|e1<|fX rfl<|n0 H
def u260c293(a0:List Y243)(a1:Int):Option Bool :=
 gd ((u292c293 a0 a1).isSome/\True)<|lt (vl (u292c293 a0 a1)) fun v0 =>
 some (decide (0<=v0))
def k260c293:Ct:=lct 260 [.dat y243.sl,.fn 293 (.pt i64)] (fun x=>u260c293 x.1 x.2.1) (fun r:Bool=>B r) (fun _=>())
theorem o260c293:Ok prog k260c293:=by
 refine okM [.tmp 4] func260 ?_;intro y ⟨_,_,_⟩ r H Q hn hr;have:=hz (tc o292c293 (tc o293 tn));refine iA [0,1]<|iD o292c293 [4] H fun _ H=>vTT<|hr H
def u263(a0:Y115)(a1:Int):Option Bool :=
 gd ((u260c293 a0.2.2.2.1 a1).isSome/\True) <|
 some (vl (u260c293 a0.2.2.2.1 a1))
def k263:Ct:=lct 263 [.agg y115,.dat i64] (fun x=>u263 x.1 x.2.1) (fun r:Bool=>B r) (fun _=>())
theorem o263:Ok prog k263:=by
 refine okM [.tmp 4] func263 ?_;intro y ⟨_,_,_⟩ r H Q hn hr;have:=hz (tc o260c293 (tc o293 tn));refine iA [2,3]<|iB [4] H fun H=>vTT<|hr H
def u258(a0:List Y170):Option Int :=
 some (a0.length:Int)
def k258:Ct:=lct 258 [.dat y170.sl] (fun x=>u258 x.1) (fun r:Int=>I r) (fun _=>())
theorem o258:Ok prog k258:=by
 refine okM [.tmp 2] func258 ?_;intro y ⟨_,_⟩ r H Q hn hr;refine iA [0]<|iA [2]<|vTT<|hr H
def u262(a0:Y115):Option Int :=
 gd ((u258 a0.2.2.1).isSome/\in64 (vl (u258 a0.2.2.1)-1)/\True)<|lt (vl (u258 a0.2.2.1)) fun v0 =>
 some (v0-1)
def k262:Ct:=lct 262 [.agg y115] (fun x=>u262 x.1) (fun r:Int=>I r) (fun _=>())
theorem o262:Ok prog k262:=by
 refine okM [.tmp 2] func262 ?_;intro y ⟨_,_⟩ r H Q hn hr;have:=hz (tc o258 tn);refine iA [1]<|iD o258 [2] H fun _ H=>vTT<|hr H
def u218J0(a0:Y115):Int->Option Bool
 | v6 =>
 if(a0.2.1==1) then
  gd (((v6==(0:Int))=true/\True->(u262 a0).isSome)/\((v6==(0:Int))=true/\True->((0:Int)<=vl (u262 a0)/\vl (u262 a0)<=(62:Int))/\in64 ((1:Int)*(2:Int) ^ (vl (u262 a0)).toNat))/\((v6==(0:Int)&&(a0.2.2.2.2.1.length:Int)==(1:Int)*(2:den i64) ^ (vl (u262 a0)).toNat)=true/\True->(u132 a0.2.2.2.2.1 (0:Int) (1:Int)).isSome)/\True)<|lt (vl (u262 a0)) fun v7 =>
  some (v6==(0:Int)&&(a0.2.2.2.2.1.length:Int)==(1:Int)*(2:den i64) ^ v7.toNat&&vl (u132 a0.2.2.2.2.1 (0:Int) (1:Int)))
 else
  if(a0.2.1==2) then
   gd (((v6==1&&(a0.2.2.2.2.1.length:Int)==0)=true/\True->(u263 a0 1).isSome)/\((v6==1&&(a0.2.2.2.2.1.length:Int)==0&&!vl (u263 a0 1))=true/\True->(u263 a0 2).isSome)/\((v6==1&&(a0.2.2.2.2.1.length:Int)==0&&!vl (u263 a0 1))=true/\True->(u263 a0 3).isSome)/\True) <|
   some (v6==1&&(a0.2.2.2.2.1.length:Int)==0&&!vl (u263 a0 1)&&!vl (u263 a0 2)==vl (u263 a0 3))
  else
   if(a0.2.1==3) then
    gd (((v6==1&&(a0.2.2.2.2.1.length:Int)==0)=true/\True->(u263 a0 1).isSome)/\((v6==1&&(a0.2.2.2.2.1.length:Int)==0&&vl (u263 a0 1))=true/\True->(u263 a0 2).isSome)/\((v6==1&&(a0.2.2.2.2.1.length:Int)==0&&vl (u263 a0 1)&&vl (u263 a0 2))=true/\True->(u263 a0 3).isSome)/\True) <|
    some (v6==1&&(a0.2.2.2.2.1.length:Int)==0&&vl (u263 a0 1)&&vl (u263 a0 2)&&!vl (u263 a0 3))
   else
    some false
def u218J2(v3:Int)(g1:Int×Int->Option Bool):Int->Option Bool
 | v5 =>
 gd (in64 (v3+1)/\True) <|
 g1 (v5,v3+1)
def u218L1(a0:Y115)(g1:Int×Int->Option Bool):Int×Int->Option Bool
 | (v2,v3) =>
 if(decide (v3 < (a0.2.2.1.length:Int))) then
  gd (ix v3 a0.2.2.1.length/\True)<|lt (a0.2.2.1.getD v3.toNat (dflt y170)) fun v4 =>
  if v4.2.2.2 then
   gd (in64 (v2+1)/\True) <|
   u218J2 v3 g1 (v2+1)
  else
   u218J2 v3 g1 v2
 else
  u218J0 a0 v2
def u218(a0:Y115):Option Bool :=
 lp (u218L1 a0) (0,0)
def k218:Ct:=lct 218 [.agg y115] (fun x=>u218 x.1) (fun r:Bool=>B r) (fun _=>())
theorem o218:Ok prog k218:=by
 refine okM [.tmp 2] func218 ?_;intro y ⟨a0,_⟩ r H Q hn hr;have:=hz (tc o263 (tc o132 (tc o262 tn)));refine iA [1]<|iA [1,3]<|jN r (fun(v6:Int)=>Z (G2 v6 []) [(1,K 115 y115 a0)]) (u218J0 a0) (fun v6 H=>?_) (fun _ n0 e0 t0=>?_)
 ·refine vQ<|iA [1,3,19]<|vB<|iA [1,3,19,20]<|cD H (fun H=>iD o262 [2] H fun _ H=>vTT<|fDD<|fR<|hr H) fun H=>iA [1,3,19,38]<|cD H (fun H=>iB [2] H fun H=>vTT<|fDD<|fR<|hr H) fun H=>iA [1,3,60]<|cD H (fun H=>iB [2] H fun H=>vTT<|fDD<|fR<|hr H) fun H=>vK<|fK<|fQ<|iA [2]<|vTT<|hr H
 refine iA [1,3,7,8,9]<|vB<|lX (fun((v2,v3):Int×Int)=>Z (G2 v2 [p 7 (L y170 a0.2.2.1),p 8 (I (a0.2.2.1.length:Int)),p 9 (I v3)]) [(1,K 115 y115 a0)]) (0,0) H fun _ g1 b1 e1 t1 ⟨v2,v3⟩ H=>iA [1,3,7,8,9,10]<|vQ<|cD H (fun H=>?_) (fun H=>?_)
 ·refine vK<|fQ<|jN r (fun(v5:Int)=>Z (G2 v5 [p 7 (L y170 a0.2.2.1),p 8 (I (a0.2.2.1.length:Int)),p 9 (I v3)]) [(1,K 115 y115 a0)]) (u218J2 v3 g1) (fun v5 H=>?_) (fun _ n2 e2 t2=>?_)
  ·refine jB [1,3,7,8,9] H fun H=>b1 H
  refine vB<|qD (fun v4=>Z (G2 v2 [p 5 (R 5),p 7 (L y170 a0.2.2.1),p 8 (I (a0.2.2.1.length:Int)),p 9 (I v3)]) [(5,K 170 y170 v4),(1,K 115 y115 a0)]) H fun v4 H=>iA [1,3,7,8,9,14]<|cD H (fun H=>jB [1,3,7,8,9] H fun H=>fK<|n2 H) fun H=>vK<|fK<|n2 H
 exact vE<|fE<|e1<|fX rfl<|n0 H
def u291(a0:Y115)(a1:Int):Option Bool :=
 gd ((u262 a0).isSome/\in64 (vl (u262 a0)-1)/\(u130 a1 0 (vl (u262 a0)-1)).isSome/\True) <|
 some (vl (u130 a1 0 (vl (u262 a0)-1)))
def k291:Ct:=lct 291 [.agg y115,.dat i64] (fun x=>u291 x.1 x.2.1) (fun r:Bool=>B r) (fun _=>())
theorem o291:Ok prog k291:=by
 refine okM [.tmp 4] func291 ?_;intro y ⟨_,_,_⟩ r H Q hn hr;have:=hz (tc o130 (tc o262 tn));refine iA [1,2]<|iB [4] H fun H=>vTT<|hr H
def u306J1:Int->Option Int
 | v3 =>
 some v3
def u306L2(a0:List Int)(g2:Int×Int->Option Int):Int×Int->Option Int
 | (v1,v2) =>
 if(decide (v2 < (a0.length:Int))) then
  gd (ix v2 a0.length/\True) <|
  gd (in64 (v2+1)/\True) <|
  g2 ((min v1 (a0.getD v2.toNat 0),v2+1))
 else
  u306J1 v1
def u306J0(a0:List Int):Unit->Option Int
 | _ =>
 gd (ix 0 a0.length/\True) <|
 lp (u306L2 a0) ((a0.getD (Int.toNat (0:Int)) (0:Int),1))
def u306(a0:List Int):Option Int :=
 if(decide ((a0.length:Int)<1)) then
  none
 else
  u306J0 a0 ()
def k306:Ct:=lct 306 [.dat i64.sl] (fun x=>u306 x.1) (fun r:Int=>I r) (fun _=>())
theorem o306:Ok prog k306:=by
 refine okM [.tmp 2] func306 ?_;intro y ⟨a0,_⟩ r H Q hn hr;refine iA [0]<|jN r (fun(_:Unit)=>Z [p 0 (L i64 a0)] []) (u306J0 a0) (fun _ H=>?_) (fun _ n0 e0 t0=>?_)
 ·refine iB [0,3] H fun H=>jN r (fun(v3:Int)=>Z [p 3 (J v3)] []) (u306J1) (fun v3 H=>?_) (fun _ n1 e1 t1=>?_)
  ·refine iA [2]<|vTT<|hr H
  refine iA [0,3,4]<|vB<|lX (fun((v1,v2):Int×Int)=>Z [p 0 (L i64 a0),p 3 (J v1),p 4 (I v2)] []) ((a0.getD (Int.toNat (0:Int)) (0:Int),1)) H fun _ g2 b2 e2 t2 ⟨v1,v2⟩ H=>vQ<|iA [0,3,4,15]<|cD H (fun H=>vK<|fQ<|vQ<|vB<|jB [0,3,4] H fun H=>fK<|fQ<|jB [0,3,4] H fun H=>b2 H) fun H=>vE<|fE<|e2<|fX rfl<|n1 H
 refine iA [0,7]<|cD H (fun H=>dead H) fun H=>vK<|n0 H
def u315J0:Unit->Option Bool
 | _ =>
 some true
def u315L1(a0:List Int)(g1:Int->Option Bool):Int->Option Bool
 | v0 =>
 if(decide (v0 < (a0.length:Int))) then
  gd (in64 (v0-1)/\ix (v0-1) a0.length/\ix v0 a0.length/\True) <|
  if(decide (a0.getD v0.toNat 0<=a0.getD (v0-1).toNat 0)) then
   some false
  else
   gd (in64 (v0+1)/\True) <|
   g1 (v0+1)
 else
  u315J0 ()
def u315(a0:List Int):Option Bool :=
 lp (u315L1 a0) 1
def k315:Ct:=lct 315 [.dat i64.sl] (fun x=>u315 x.1) (fun r:Bool=>B r) (fun _=>())
theorem o315:Ok prog k315:=by
 refine okM [.tmp 2] func315 ?_;intro y ⟨a0,_⟩ r H Q hn hr;refine iA [0]<|jN r (fun(_:Unit)=>Z [] []) (u315J0) (fun _ H=>?_) (fun _ n0 e0 t0=>?_)
 ·refine iA [2]<|vTT<|hr H
 refine iA [0,3]<|vB<|lX (fun(v0:Int)=>Z [p 0 (L i64 a0),p 3 (I v0)] []) 1 H fun _ g1 b1 e1 t1 v0 H=>vQ<|iA [0,3,7]<|cD H (fun H=>?_) (fun H=>?_)
 ·refine vK<|fQ<|vQ<|vB<|iB [0,3,19] H fun H=>cD H (fun H=>iA [2]<|vTT<|fDD<|fR<|t1<|fDD<|t0<|hr H) fun H=>vK<|fK<|fQ<|jB [0,3] H fun H=>b1 H
 exact vE<|fE<|e1<|fX rfl<|n0 H
def u313(a0:List Int):Option Bool :=
 gd ((u79 a0).isSome/\(u130 (vl (u79 a0)) 1 4).isSome/\(vl (u130 (vl (u79 a0)) 1 4)=true/\True->(u132 a0 0 100000).isSome)/\((vl (u130 (vl (u79 a0)) 1 4)&&vl (u132 a0 0 100000))=true/\True->(u315 a0).isSome)/\True) <|
 some (vl (u130 (vl (u79 a0)) 1 4)&&vl (u132 a0 0 100000)&&vl (u315 a0))
def k313:Ct:=lct 313 [.dat i64.sl] (fun x=>u313 x.1) (fun r:Bool=>B r) (fun _=>())
theorem o313:Ok prog k313:=by
 refine okM [.tmp 2] func313 ?_;intro y ⟨_,_⟩ r H Q hn hr;have:=hz (tc o315 (tc o132 (tc o130 (tc o79 tn))));refine iA [0]<|iB [2] H fun H=>vTT<|hr H
def u305(a0:Y291):Option Bool :=
 gd ((u313 a0.1).isSome/\(vl (u313 a0.1)=true/\True->(u313 a0.2.1).isSome)/\((vl (u313 a0.1)&&vl (u313 a0.2.1))=true/\True->in64 ((a0.1.length:Int)*(a0.2.1.length:Int)))/\((vl (u313 a0.1)&&vl (u313 a0.2.1)&&(a0.2.2.length:Int)==(a0.1.length:Int)*(a0.2.1.length:Int))=true/\True->(u132 a0.2.2 (-1000000) 1000000).isSome)/\True) <|
 some (vl (u313 a0.1)&&vl (u313 a0.2.1)&&(a0.2.2.length:Int)==(a0.1.length:Int)*(a0.2.1.length:Int)&&vl (u132 a0.2.2 (-1000000) 1000000))
def k305:Ct:=lct 305 [.agg y291] (fun x=>u305 x.1) (fun r:Bool=>B r) (fun _=>())
theorem o305:Ok prog k305:=by
 refine okM [.tmp 2] func305 ?_;intro y ⟨_,_⟩ r H Q hn hr;have:=hz (tc o132 (tc o313 tn));refine iA [1]<|iB [2] H fun H=>vTT<|hr H
def u304(a0:Y291)(a1:Bool):Option Bool :=
 gd ((u305 a0).isSome/\(a1=true/\(!vl (u305 a0))=false/\True->(u306 a0.2.2).isSome)/\True)<|lt (vl (u306 a0.2.2)) fun v0 =>
 some (!vl (u305 a0)||a1&&decide (v0<0))
def k304:Ct:=lct 304 [.agg y291,.dat (.pt Ty.bool)] (fun x=>u304 x.1 x.2.1) (fun r:Bool=>B r) (fun _=>())
theorem o304:Ok prog k304:=by
 refine okM [.tmp 3] func304 ?_;intro y ⟨_,_,_⟩ r H Q hn hr;have:=hz (tc o306 (tc o305 tn));refine iA [1,2]<|iD o306 [3] H fun _ H=>vTT<|hr H
def u312c304J0:Unit->Option Int
 | _ =>
 some (-1)
def u312c304L1(a0:List Y291)(a1:Bool)(g1:Int->Option Int):Int->Option Int
 | v0 =>
 if(decide (v0 < (a0.length:Int))) then
  gd (ix v0 a0.length/\(u304 (a0.getD v0.toNat (dflt y291)) a1).isSome/\True) <|
  if(vl (u304 (a0.getD v0.toNat (dflt y291)) a1)) then
   some v0
  else
   gd (in64 (v0+1)/\True) <|
   g1 (v0+1)
 else
  u312c304J0 ()
def u312c304(a0:List Y291)(a1:Bool):Option Int :=
 lp (u312c304L1 a0 a1) 0
def k312c304:Ct:=lct 312 [.dat y291.sl,.fn 304 Ty.bool.pt] (fun x=>u312c304 x.1 x.2.1) (fun r:Int=>I r) (fun _=>())
theorem o312c304:Ok prog k312c304:=by
 refine okM [.tmp 4] func312 ?_;intro y ⟨a0,a1,_⟩ r H Q hn hr;have:=hz (tc o304 tn);refine iA [0,1]<|jN r (fun(_:Unit)=>Z [] []) (u312c304J0) (fun _ H=>?_) (fun _ n0 e0 t0=>?_)
 ·refine iA [4]<|vTT<|hr H
 refine iA [0,1,7,8]<|vB<|lX (fun(v0:Int)=>Z [p 0 (L y291 a0),p 1 (AV.fn 304 [D Ty.bool.pt a1]),p 7 (I (a0.length:Int)),p 8 (I v0)] []) 0 H fun _ g1 b1 e1 t1 v0 H=>iA [0,1,7,8,9]<|vQ<|cD H (fun H=>?_) (fun H=>?_)
 ·refine vK<|fQ<|vQ<|vB<|iA [0,1,5,7,8]<|iB [0,1,5,7,8,16] H fun H=>cD H (fun H=>iA [4]<|vTT<|fDD<|fR<|t1<|fDD<|t0<|hr H) fun H=>vK<|fK<|fQ<|jB [0,1,7,8] H fun H=>b1 H
 exact vE<|fE<|e1<|fX rfl<|n0 H
def u303c304(a0:List Y291)(a1:Bool):Option Bool :=
 gd ((u312c304 a0 a1).isSome/\True)<|lt (vl (u312c304 a0 a1)) fun v0 =>
 some (decide (0<=v0))
def k303c304:Ct:=lct 303 [.dat y291.sl,.fn 304 (.pt Ty.bool)] (fun x=>u303c304 x.1 x.2.1) (fun r:Bool=>B r) (fun _=>())
theorem o303c304:Ok prog k303c304:=by
 refine okM [.tmp 4] func303 ?_;intro y ⟨_,_,_⟩ r H Q hn hr;have:=hz (tc o312c304 (tc o304 tn));refine iA [0,1]<|iD o312c304 [4] H fun _ H=>vTT<|hr H
def u289(a0:List Y291)(a1:Bool):Option Bool :=
 gd ((((a0.length:Int)==2)=true/\True->(u303c304 a0 a1).isSome)/\True) <|
 some ((a0.length:Int)==2&&!vl (u303c304 a0 a1))
def k289:Ct:=lct 289 [.dat y291.sl,.dat Ty.bool] (fun x=>u289 x.1 x.2.1) (fun r:Bool=>B r) (fun _=>())
theorem o289:Ok prog k289:=by
 refine okM [.tmp 4] func289 ?_;intro y ⟨_,_,_⟩ r H Q hn hr;have:=hz (tc o303c304 (tc o304 tn));refine iA [0,3]<|iB [4] H fun H=>vTT<|hr H
def u308(a0:Y170):Option Bool :=
 some a0.2.2.2
def k308:Ct:=lct 308 [.agg y170] (fun x=>u308 x.1) (fun r:Bool=>B r) (fun _=>())
theorem o308:Ok prog k308:=by
 refine okM [.tmp 2] func308 ?_;intro y ⟨_,_⟩ r H Q hn hr;refine iA [1]<|iA [2]<|vTT<|hr H
def u307c308J0:Unit->Option Int
 | _ =>
 some (-1)
def u307c308L1(a0:List Y170)(g1:Int->Option Int):Int->Option Int
 | v0 =>
 if(decide (v0 < (a0.length:Int))) then
  gd (ix v0 a0.length/\(u308 (a0.getD v0.toNat (dflt y170))).isSome/\True) <|
  if(vl (u308 (a0.getD v0.toNat (dflt y170)))) then
   some v0
  else
   gd (in64 (v0+1)/\True) <|
   g1 (v0+1)
 else
  u307c308J0 ()
def u307c308(a0:List Y170):Option Int :=
 lp (u307c308L1 a0) 0
def k307c308:Ct:=lct 307 [.dat y170.sl,.nof 308] (fun x=>u307c308 x.1) (fun r:Int=>I r) (fun _=>())
theorem o307c308:Ok prog k307c308:=by
 refine okM [.tmp 4] func307 ?_;intro y ⟨a0,_,_⟩ r H Q hn hr;have:=hz (tc o308 tn);refine iA [0,1]<|jN r (fun(_:Unit)=>Z [] []) (u307c308J0) (fun _ H=>?_) (fun _ n0 e0 t0=>?_)
 ·refine iA [4]<|vTT<|hr H
 refine iA [0,1,7,8]<|vB<|lX (fun(v0:Int)=>Z [p 0 (L y170 a0),p 1 (AV.fn 308 []),p 7 (I (a0.length:Int)),p 8 (I v0)] []) 0 H fun _ g1 b1 e1 t1 v0 H=>iA [0,1,7,8,9]<|vQ<|cD H (fun H=>?_) (fun H=>?_)
 ·refine vK<|fQ<|vQ<|vB<|iA [0,1,5,7,8]<|iB [0,1,5,7,8,16] H fun H=>cD H (fun H=>iA [4]<|vTT<|fDD<|fR<|t1<|fDD<|t0<|hr H) fun H=>vK<|fK<|fQ<|jB [0,1,7,8] H fun H=>b1 H
 exact vE<|fE<|e1<|fX rfl<|n0 H
def u290(a0:Y115):Option Int :=
 gd ((u307c308 a0.2.2.1).isSome/\True)<|lt (vl (u307c308 a0.2.2.1)) fun v0 =>
 some v0
def k290:Ct:=lct 290 [.agg y115] (fun x=>u290 x.1) (fun r:Int=>I r) (fun _=>())
theorem o290:Ok prog k290:=by
 refine okM [.tmp 2] func290 ?_;intro y ⟨_,_⟩ r H Q hn hr;have:=hz (tc o308 (tc o307c308 tn));refine iA [1]<|iD o307c308 [2] H fun _ H=>vTT<|hr H
def u288(a0:Int):Option Bool :=
 some (a0==4||a0==5)
def k288:Ct:=lct 288 [.dat i64] (fun x=>u288 x.1) (fun r:Bool=>B r) (fun _=>())
theorem o288:Ok prog k288:=by
 refine okM [.tmp 2] func288 ?_;intro y ⟨_,_⟩ r H Q hn hr;refine iA [0]<|iA [2]<|vTT<|hr H
def u259J0(a0:Y115)(a1:Y243):Bool->Option Bool
 | v2 =>
 if v2 then
  gd (ix a1.2.1 a0.2.2.1.length/\True) <|
  some ((a0.2.2.1.getD a1.2.1.toNat (dflt y170)).2.2.2&&a1.2.2.2.1==0)
 else
  some false
def u259(a0:Y115)(a1:Y243):Option Bool :=
 gd ((u288 a1.1).isSome/\True) <|
 if(vl (u288 a1.1)) then
  gd (((a1.2.2.2.1==0&&(a1.2.2.2.2.2.length:Int)==0)=true/\True->(u289 a1.2.2.2.2.1 false).isSome)/\((a1.2.2.2.1==0&&(a1.2.2.2.2.2.length:Int)==0&&vl (u289 a1.2.2.2.2.1 false))=true/\True->(u290 a0).isSome)/\((a1.2.2.2.1==0&&(a1.2.2.2.2.2.length:Int)==0&&vl (u289 a1.2.2.2.2.1 false)&&a1.2.1==vl (u290 a0)&&decide (0<=a1.2.1))=true/\True->(u291 a0 a1.2.2.1).isSome)/\True)<|lt (vl (u290 a0)) fun v0 =>
  some (a1.2.2.2.1==0&&(a1.2.2.2.2.2.length:Int)==0&&vl (u289 a1.2.2.2.2.1 false)&&a1.2.1==v0&&decide (0<=a1.2.1)&&vl (u291 a0 a1.2.2.1)&&a1.2.2.1 != a1.2.1)
 else
  gd ((u289 a1.2.2.2.2.1 true).isSome/\((!vl (u289 a1.2.2.2.2.1 true))=false/\True->(u289 a1.2.2.2.2.2 true).isSome)/\((!vl (u289 a1.2.2.2.2.1 true)||!vl (u289 a1.2.2.2.2.2 true))=false/\True->(u262 a0).isSome)/\((!vl (u289 a1.2.2.2.2.1 true)||!vl (u289 a1.2.2.2.2.2 true)||a1.2.2.1 != vl (u262 a0))=false/\True->(u291 a0 a1.2.1).isSome)/\True)<|lt (vl (u262 a0)) fun v1 =>
  if(!vl (u289 a1.2.2.2.2.1 true)||!vl (u289 a1.2.2.2.2.2 true)||a1.2.2.1 != v1||!vl (u291 a0 a1.2.1)) then
   some false
  else
   if(a1.1==1) then
    gd (ix a1.2.1 a0.2.2.1.length/\((!(a0.2.2.1.getD a1.2.1.toNat (dflt y170)).2.2.2)=true/\True->(u130 a1.2.2.2.1 1 3).isSome)/\True) <|
    some (!(a0.2.2.1.getD a1.2.1.toNat (dflt y170)).2.2.2&&vl (u130 a1.2.2.2.1 1 3))
   else
    if(a1.1==2) then
     u259J0 a0 a1 (a1.1==2)
    else
     u259J0 a0 a1 (a1.1==3)
def k259:Ct:=lct 259 [.agg y115,.agg y243] (fun x=>u259 x.1 x.2.1) (fun r:Bool=>B r) (fun _=>())
theorem o259:Ok prog k259:=by
 refine okM [.tmp 4] func259 ?_;intro y ⟨a0,a1,_⟩ r H Q hn hr;have:=hz (tc o130 (tc o291 (tc o262 (tc o289 (tc o290 (tc o288 tn))))));refine iA [2,3]<|vQ<|iB [2,3,7] H fun H=>cD H (fun H=>iD o290 [4] H fun _ H=>vTT<|fR<|hr H) fun H=>vK<|fQ<|vQ<|iD o262 [2,3,70] H fun _ H=>cD H (fun H=>iA [4]<|vTT<|fR<|hr H) fun H=>vK<|fQ<|vQ<|iA [2,3,72]<|vB<|iA [2,3,72,73]<|cD H (fun H=>iB [4] H fun H=>vTT<|fDD<|fR<|hr H) fun H=>jN r (fun(v2:Bool)=>Z (G0 [p 88 (B v2)]) [(3,K 243 y243 a1),(2,K 115 y115 a0)]) (u259J0 a0 a1) (fun v2 H=>?_) (fun _ n0 e0 t0=>?_)
 ·refine cD H (fun H=>iB [4] H fun H=>vTT<|fDD<|fR<|hr H) fun H=>vK<|fK<|fQ<|iA [4]<|vTT<|hr H
 refine iA [2,3,72,88]<|cD H (fun H=>vK<|n0 H) fun H=>jA [2,3,88]<|n0 H
def u261(a0:Y243)(a1:Y243):Option Bool :=
 some (a0.1==a1.1&&a0.2.1==a1.2.1&&a0.2.2.1==a1.2.2.1)
def k261:Ct:=lct 261 [.agg y243,.dat (.pt y243)] (fun x=>u261 x.1 x.2.1) (fun r:Bool=>B r) (fun _=>())
theorem o261:Ok prog k261:=by
 refine okM [.tmp 3] func261 ?_;intro y ⟨_,_,_⟩ r H Q hn hr;refine iA [1,2]<|iA [3]<|vTT<|hr H
def u292c261J0:Unit->Option Int
 | _ =>
 some (-1)
def u292c261L1(a0:List Y243)(a1:Y243)(g1:Int->Option Int):Int->Option Int
 | v0 =>
 if(decide (v0 < (a0.length:Int))) then
  gd (ix v0 a0.length/\(u261 (a0.getD v0.toNat (dflt y243)) a1).isSome/\True) <|
  if(vl (u261 (a0.getD v0.toNat (dflt y243)) a1)) then
   some v0
  else
   gd (in64 (v0+1)/\True) <|
   g1 (v0+1)
 else
  u292c261J0 ()
def u292c261(a0:List Y243)(a1:Y243):Option Int :=
 lp (u292c261L1 a0 a1) 0
def k292c261:Ct:=lct 292 [.dat y243.sl,.fn 261 y243.pt] (fun x=>u292c261 x.1 x.2.1) (fun r:Int=>I r) (fun _=>())
theorem o292c261:Ok prog k292c261:=by
 refine okM [.tmp 4] func292 ?_;intro y ⟨a0,a1,_⟩ r H Q hn hr;have:=hz (tc o261 tn);refine iA [0,1]<|jN r (fun(_:Unit)=>Z [] []) (u292c261J0) (fun _ H=>?_) (fun _ n0 e0 t0=>?_)
 ·refine iA [4]<|vTT<|hr H
 refine iA [0,1,7,8]<|vB<|lX (fun(v0:Int)=>Z [p 0 (L y243 a0),p 1 (AV.fn 261 [D y243.pt a1]),p 7 (I (a0.length:Int)),p 8 (I v0)] []) 0 H fun _ g1 b1 e1 t1 v0 H=>iA [0,1,7,8,9]<|vQ<|cD H (fun H=>?_) (fun H=>?_)
 ·refine vK<|fQ<|vQ<|vB<|iA [0,1,5,7,8]<|iB [0,1,5,7,8,16] H fun H=>cD H (fun H=>iA [4]<|vTT<|fDD<|fR<|t1<|fDD<|t0<|hr H) fun H=>vK<|fK<|fQ<|jB [0,1,7,8] H fun H=>b1 H
 exact vE<|fE<|e1<|fX rfl<|n0 H
def u260c261(a0:List Y243)(a1:Y243):Option Bool :=
 gd ((u292c261 a0 a1).isSome/\True)<|lt (vl (u292c261 a0 a1)) fun v0 =>
 some (decide (0<=v0))
def k260c261:Ct:=lct 260 [.dat y243.sl,.fn 261 (.pt y243)] (fun x=>u260c261 x.1 x.2.1) (fun r:Bool=>B r) (fun _=>())
theorem o260c261:Ok prog k260c261:=by
 refine okM [.tmp 4] func260 ?_;intro y ⟨_,_,_⟩ r H Q hn hr;have:=hz (tc o292c293 (tc o292c261 (tc o261 tn)));refine iA [0,1]<|iD o292c261 [4] H fun _ H=>vTT<|hr H
def u217J0(a0:Y115):Unit->Option Bool
 | _ =>
 some (decide ((a0.2.2.2.1.length:Int)<=8))
def u217L1(a0:Y115)(g1:Int->Option Bool):Int->Option Bool
 | v1 =>
 if(decide (v1 < (a0.2.2.2.1.length:Int))) then
  gd (ix v1 a0.2.2.2.1.length/\True)<|lt (a0.2.2.2.1.getD v1.toNat (dflt y243)) fun v2 =>
  gd ((u259 a0 v2).isSome/\((!vl (u259 a0 v2))=false/\True->(0:Int)<=(0:Int)/\(0:Int)<=v1/\v1<=(a0.2.2.2.1.length:Int))/\((!vl (u259 a0 v2))=false/\True->(u260c261 (List.take v1.toNat a0.2.2.2.1) v2).isSome)/\True) <|
  if(!vl (u259 a0 v2)||vl (u260c261 (List.take v1.toNat a0.2.2.2.1) v2)) then
   some false
  else
   gd (in64 (v1+1)/\True) <|
   g1 (v1+1)
 else
  u217J0 a0 ()
def u217(a0:Y115):Option Bool :=
 lp (u217L1 a0) 0
def k217:Ct:=lct 217 [.agg y115] (fun x=>u217 x.1) (fun r:Bool=>B r) (fun _=>())
theorem o217:Ok prog k217:=by
 refine okM [.tmp 2] func217 ?_;intro y ⟨a0,_⟩ r H Q hn hr;have:=hz (tc o260c293 (tc o260c261 (tc o261 (tc o259 tn))));refine iA [1]<|jN r (fun(_:Unit)=>Z [p 1 (R 1)] [(1,K 115 y115 a0)]) (u217J0 a0) (fun _ H=>?_) (fun _ n0 e0 t0=>?_)
 ·refine iA [2]<|vTT<|hr H
 refine iA [1,6,7,8]<|vB<|lX (fun(v1:Int)=>Z [p 1 (R 1),p 6 (L y243 a0.2.2.2.1),p 7 (I (a0.2.2.2.1.length:Int)),p 8 (I v1)] [(1,K 115 y115 a0)]) 0 H fun _ g1 b1 e1 t1 v1 H=>iA [1,6,7,8,9]<|vQ<|cD H (fun H=>?_) (fun H=>?_)
 ·refine vK<|fQ<|vQ<|vB<|qD (fun v2=>Z (G2 v1 [p 4 (R 4),p 6 (L y243 a0.2.2.2.1),p 7 (I (a0.2.2.2.1.length:Int)),p 8 (I v1)]) [(4,K 243 y243 v2),(1,K 115 y115 a0)]) H fun v2 H=>iB [1,6,7,8,24] H fun H=>cD H (fun H=>iA [2]<|vTT<|fDD<|fR<|t1<|fDD<|t0<|hr H) fun H=>vK<|fK<|fQ<|jB [1,6,7,8] H fun H=>b1 H
 exact vE<|fE<|e1<|fX rfl<|n0 H
def u216J0(a0:List Y170):List ByteArray->Option Bool
 | v6 =>
 gd ((u258 a0).isSome/\(u130 (vl (u258 a0)) 2 5).isSome/\(vl (u130 (vl (u258 a0)) 2 5)=true/\True->(u176 v6).isSome)/\True) <|
 some (vl (u130 (vl (u258 a0)) 2 5)&&vl (u176 v6))
def u216J2(v3:Int)(g1:List ByteArray×Int->Option Bool):List ByteArray->Option Bool
 | v5 =>
 gd (in64 (v3+1)/\True) <|
 g1 (v5,v3+1)
def u216L1(a0:List Y170)(g1:List ByteArray×Int->Option Bool):List ByteArray×Int->Option Bool
 | (v2,v3) =>
 if(decide (v3 < (a0.length:Int))) then
  gd (ix v3 a0.length/\True)<|lt (a0.getD v3.toNat (dflt y170)) fun v4 =>
  gd ((v2.length+[v4.1].length<=9223372036854775807/\(v2.length+[v4.1].length)*16<=140737488355328)/\True) <|
  gd (in64 ((a0.length:Int)-1)/\True) <|
  if(v3==(a0.length:Int)-1) then
   if(v4.2.1 != 2||v4.2.2.1 != 0||v4.2.2.2) then
    some false
   else
    u216J2 v3 g1 (v2++[v4.1])
  else
   gd (((v4.2.1 != 1)=false/\True->(u130 v4.2.2.1 0 500).isSome)/\True) <|
   if(v4.2.1 != 1||!vl (u130 v4.2.2.1 0 500)) then
    some false
   else
    u216J2 v3 g1 (v2++[v4.1])
 else
  u216J0 a0 v2
def u216(a0:List Y170):Option Bool :=
 lp (u216L1 a0) ([],0)
def k216:Ct:=lct 216 [.dat y170.sl] (fun x=>u216 x.1) (fun r:Bool=>B r) (fun _=>())
theorem o216:Ok prog k216:=by
 refine okM [.tmp 2] func216 ?_;intro y ⟨a0,_⟩ r H Q hn hr;have:=hz (tc o176 (tc o130 (tc o258 tn)));refine iA [0]<|iA [0,3]<|jN r (fun(v6:List ByteArray)=>Z [p 0 (L y170 a0),p 3 (O 17)] [(17,A 9 Ty.str v6 0)]) (u216J0 a0) (fun v6 H=>?_) (fun _ n0 e0 t0=>?_)
 ·refine iB [2] H fun H=>vTT<|hr H
 refine iA [0,3,6,7,8]<|vB<|lX (fun((v2,v3):List ByteArray×Int)=>Z [p 0 (L y170 a0),p 3 (O 17),p 6 (L y170 a0),p 7 (I (a0.length:Int)),p 8 (I v3)] [(17,A 9 Ty.str v2 0)]) ([],0) H fun _ g1 b1 e1 t1 ⟨v2,v3⟩ H=>iA [0,3,6,7,8,9]<|vQ<|cD H (fun H=>?_) (fun H=>?_)
 ·refine vK<|fQ<|jN r (fun(v5:List ByteArray)=>Z [p 0 (L y170 a0),p 3 (O 17),p 6 (L y170 a0),p 7 (I (a0.length:Int)),p 8 (I v3)] [(17,A 9 Ty.str v5 0)]) (u216J2 v3 g1) (fun v5 H=>?_) (fun _ n2 e2 t2=>?_)
  ·refine jB [0,3,6,7,8] H fun H=>b1 H
  refine vB<|qD (fun v4=>Z [p 0 (L y170 a0),p 3 (O 17),p 4 (I v3),p 5 (R 5),p 6 (L y170 a0),p 7 (I (a0.length:Int)),p 8 (I v3)] [(5,K 170 y170 v4),(17,A 9 Ty.str v2 0)]) H fun v4 H=>iB [0,3,4,5,6,7,8] H fun H=>iB [0,3,5,6,7,8,22] H fun H=>cD H (fun H=>?_) (fun H=>?_)
  ·refine iA [0,3,6,7,8,34]<|cD H (fun H=>iA [2]<|vTT<|fDD<|t2<|t1<|fDD<|t0<|hr H) fun H=>vK<|fK<|n2 H
  refine iB [0,3,6,7,8,43] H fun H=>cD H (fun H=>iA [2]<|vTT<|fDD<|t2<|t1<|fDD<|t0<|hr H) fun H=>vK<|fK<|n2 H
 exact vE<|fE<|e1<|fX rfl<|n0 H
def u175(a0:Y115):Option Bool :=
 gd ((u149 a0.1).isSome/\(vl (u149 a0.1)=true/\True->(u216 a0.2.2.1).isSome)/\((vl (u149 a0.1)&&vl (u216 a0.2.2.1))=true/\True->(u217 a0).isSome)/\((vl (u149 a0.1)&&vl (u216 a0.2.2.1)&&vl (u217 a0))=true/\True->(u130 a0.2.2.2.2.2.1 0 100000).isSome)/\((vl (u149 a0.1)&&vl (u216 a0.2.2.1)&&vl (u217 a0)&&vl (u130 a0.2.2.2.2.2.1 0 100000))=true/\True->(u130 a0.2.2.2.2.2.2 0 100000).isSome)/\((vl (u149 a0.1)&&vl (u216 a0.2.2.1)&&vl (u217 a0)&&vl (u130 a0.2.2.2.2.2.1 0 100000)&&vl (u130 a0.2.2.2.2.2.2 0 100000))=true/\True->(u218 a0).isSome)/\True) <|
 some (vl (u149 a0.1)&&vl (u216 a0.2.2.1)&&vl (u217 a0)&&vl (u130 a0.2.2.2.2.2.1 0 100000)&&vl (u130 a0.2.2.2.2.2.2 0 100000)&&vl (u218 a0))
def k175:Ct:=lct 175 [.agg y115] (fun x=>u175 x.1) (fun r:Bool=>B r) (fun _=>())
theorem o175:Ok prog k175:=by
 refine okM [.tmp 2] func175 ?_;intro y ⟨_,_⟩ r H Q hn hr;have:=hz (tc o218 (tc o130 (tc o217 (tc o216 (tc o149 tn)))));refine iA [1]<|iB [2] H fun H=>vTT<|hr H
def u124J0(a0:List Y115):List ByteArray->Option Bool
 | v4 =>
 gd ((decide ((a0.length:Int)<=8)=true/\True->(u176 v4).isSome)/\True) <|
 some (decide ((a0.length:Int)<=8)&&vl (u176 v4))
def u124L1(a0:List Y115)(g1:List ByteArray×Int->Option Bool):List ByteArray×Int->Option Bool
 | (v1,v2) =>
 if(decide (v2 < (a0.length:Int))) then
  gd (ix v2 a0.length/\True)<|lt (a0.getD v2.toNat (dflt y115)) fun v3 =>
  gd ((u175 v3).isSome/\True) <|
  if(!vl (u175 v3)) then
   some false
  else
   gd ((v1.length+[v3.1].length<=9223372036854775807/\(v1.length+[v3.1].length)*16<=140737488355328)/\True) <|
   gd (in64 (v2+1)/\True) <|
   g1 (v1++[v3.1],v2+1)
 else
  u124J0 a0 v1
def u124(a0:List Y115):Option Bool :=
 lp (u124L1 a0) ([],0)
def k124:Ct:=lct 124 [.agg y115.sl] (fun x=>u124 x.1) (fun r:Bool=>B r) (fun _=>())
theorem o124:Ok prog k124:=by
 refine okM [.tmp 2] func124 ?_;intro y ⟨a0,_⟩ r H Q hn hr;have:=hz (tc o176 (tc o175 tn));refine iA [1]<|iA [1,3]<|jN r (fun(v4:List ByteArray)=>Z (G5 []) [(1,bx 43 [L y115 a0]),(20,A 9 Ty.str v4 0)]) (u124J0 a0) (fun v4 H=>?_) (fun _ n0 e0 t0=>?_)
 ·refine iB [2] H fun H=>vTT<|hr H
 refine iA [1,3,7,8,9]<|vB<|lX (fun((v1,v2):List ByteArray×Int)=>Z (G5 [p 7 (L y115 a0),p 8 (I (a0.length:Int)),p 9 (I v2)]) [(1,bx 43 [L y115 a0]),(20,A 9 Ty.str v1 0)]) ([],0) H fun _ g1 b1 e1 t1 ⟨v1,v2⟩ H=>iA [1,3,7,8,9,10]<|vQ<|cD H (fun H=>?_) (fun H=>?_)
 ·refine vK<|fQ<|vQ<|vB<|qD (fun v3=>Z (G5 [p 5 (R 5),p 7 (L y115 a0),p 8 (I (a0.length:Int)),p 9 (I v2)]) [(5,K 115 y115 v3),(1,bx 43 [L y115 a0]),(20,A 9 Ty.str v1 0)]) H fun v3 H=>vQ<|iB [1,3,5,7,8,9,15] H fun H=>cD H (fun H=>iA [2]<|vTT<|fR<|fDD<|fR<|t1<|fDD<|t0<|hr H) fun H=>vK<|fQ<|jB [1,3,7,8,9] H fun H=>fK<|fQ<|jB [1,3,7,8,9] H fun H=>b1 H
 exact vE<|fE<|e1<|fX rfl<|n0 H
def u180c129J0:Unit->Option Int
 | _ =>
 some (-1)
def u180c129L1(a0:List Int)(g1:Int->Option Int):Int->Option Int
 | v0 =>
 if(decide (v0 < (a0.length:Int))) then
  gd (ix v0 a0.length/\(u129 (a0.getD v0.toNat 0)).isSome/\True) <|
  if(vl (u129 (a0.getD v0.toNat 0))) then
   some v0
  else
   gd (in64 (v0+1)/\True) <|
   g1 (v0+1)
 else
  u180c129J0 ()
def u180c129(a0:List Int):Option Int :=
 lp (u180c129L1 a0) 0
def k180c129:Ct:=lct 180 [.dat i64.sl,.nof 129] (fun x=>u180c129 x.1) (fun r:Int=>I r) (fun _=>())
theorem o180c129:Ok prog k180c129:=by
 refine okM [.tmp 4] func180 ?_;intro y ⟨a0,_,_⟩ r H Q hn hr;have:=hz (tc o129 tn);refine iA [0,1]<|jN r (fun(_:Unit)=>Z [] []) (u180c129J0) (fun _ H=>?_) (fun _ n0 e0 t0=>?_)
 ·refine iA [4]<|vTT<|hr H
 refine iA [0,1,7,8]<|vB<|lX (fun(v0:Int)=>Z [p 0 (L i64 a0),p 1 (AV.fn 129 []),p 7 (I (a0.length:Int)),p 8 (I v0)] []) 0 H fun _ g1 b1 e1 t1 v0 H=>iA [0,1,7,8,9]<|vQ<|cD H (fun H=>?_) (fun H=>?_)
 ·refine vK<|fQ<|vQ<|vB<|iA [0,1,5,7,8]<|iB [0,1,5,7,8,16] H fun H=>cD H (fun H=>iA [4]<|vTT<|fDD<|fR<|t1<|fDD<|t0<|hr H) fun H=>vK<|fK<|fQ<|jB [0,1,7,8] H fun H=>b1 H
 exact vE<|fE<|e1<|fX rfl<|n0 H
def u128c129(a0:List Int):Option Bool :=
 gd ((u180c129 a0).isSome/\True)<|lt (vl (u180c129 a0)) fun v0 =>
 some (decide (0<=v0))
def k128c129:Ct:=lct 128 [.dat i64.sl,.nof 129] (fun x=>u128c129 x.1) (fun r:Bool=>B r) (fun _=>())
theorem o128c129:Ok prog k128c129:=by
 refine okM [.tmp 4] func128 ?_;intro y ⟨_,_,_⟩ r H Q hn hr;have:=hz (tc o180c129 (tc o129 tn));refine iA [0,1]<|iD o180c129 [4] H fun _ H=>vTT<|hr H
def u74J2:List Int->Option Bool
 | v13 =>
 gd ((u128c129 v13).isSome/\True) <|
 some (!vl (u128c129 v13))
def u74J4(v9:Int)(g3:Int×List Int->Option Bool):List Int->Option Bool
 | v12 =>
 gd (in64 (v9+1)/\True) <|
 g3 (v9+1,v12)
def u74L3(a1:Y47)(g3:Int×List Int->Option Bool):Int×List Int->Option Bool
 | (v9,v10) =>
 if(decide (v9 < (a1.2.2.length:Int))) then
  gd (ix v9 a1.2.2.length/\True)<|lt (a1.2.2.getD v9.toNat (dflt y166)) fun v11 =>
  gd (((v11.2.1 != 1&&v11.2.1 != 2)=false/\True->(u127 a1 v11.2.2).isSome)/\True) <|
  if(v11.2.1 != 1&&v11.2.1 != 2||!vl (u127 a1 v11.2.2)) then
   some false
  else
   if(v11.2.1==1) then
    gd (ix v11.2.2 v10.length/\v11.2.2.toNat<v10.length/\in64 (v10.getD v11.2.2.toNat 0+1)/\ix v11.2.2 v10.length/\v11.2.2.toNat<v10.length/\True) <|
    u74J4 v9 g3 (v10.set v11.2.2.toNat (v10.getD v11.2.2.toNat 0+1))
   else
    u74J4 v9 g3 v10
 else
  u74J2 v10
def u74J0(a1:Y47):List Int->Option Bool
 | v6 =>
 lp (u74L3 a1) (0,v6)
def u74L1(a1:Y47)(a0:List Y115)(g1:Int×List Int->Option Bool):Int×List Int->Option Bool
 | (v2,v3) =>
 if(decide (v2 < (a1.1.length:Int))) then
  gd (ix v2 a1.1.length/\True)<|lt (a1.1.getD v2.toNat (dflt y152)) fun v4 =>
  gd ((u126 a1 a0 v4).isSome/\True) <|
  if(!vl (u126 a1 a0 v4)) then
   some false
  else
   gd (in64 ((v4.2.2.length:Int)-1)/\ix ((v4.2.2.length:Int)-1) v4.2.2.length/\ix (v4.2.2.getD ((v4.2.2.length:Int)-1).toNat 0) v3.length/\Int.toNat (v4.2.2.getD ((v4.2.2.length:Int)-1).toNat 0)<v3.length/\in64 (v3.getD (Int.toNat (v4.2.2.getD ((v4.2.2.length:Int)-1).toNat 0)) 0+1)/\ix (v4.2.2.getD ((v4.2.2.length:Int)-1).toNat 0) v3.length/\Int.toNat (v4.2.2.getD ((v4.2.2.length:Int)-1).toNat 0)<v3.length/\True)<|lt (v3.set (Int.toNat (v4.2.2.getD ((v4.2.2.length:Int)-1).toNat 0)) (v3.getD (Int.toNat (v4.2.2.getD ((v4.2.2.length:Int)-1).toNat 0)) 0+1)) fun v5 =>
   gd (in64 (v2+1)/\True) <|
   g1 (v2+1,v5)
 else
  u74J0 a1 v3
def u74(a0:List Y115)(a1:Y47):Option Bool :=
 gd ((u124 a0).isSome/\((!vl (u124 a0))=false/\True->(u125 a1).isSome)/\True) <|
 if(!vl (u124 a0)||!vl (u125 a1)) then
  some false
 else
  gd ((0<=(a1.2.1.length:Int)/\(a1.2.1.length:Int)=(a1.2.1.length:Int)/\(a1.2.1.length:Int).toNat*8<=281474976710656/\(a1.2.1.length:Int)<=9223372036854775807)/\True) <|
  lp (u74L1 a1 a0) ((0,List.replicate (a1.2.1.length:Int).toNat 0))
def k74:Ct:=lct 74 [.agg y115.sl,.agg y47] (fun x=>u74 x.1 x.2.1) (fun r:Bool=>B r) (fun _=>())
theorem o74:Ok prog k74:=by
 refine okM [.tmp 4] func74 ?_;intro y ⟨a0,a1,_⟩ r H Q hn hr;have:=hz (tc o129 (tc o128c129 (tc o127 (tc o126 (tc o125 (tc o124 tn))))));refine iA [2,3]<|vQ<|iB [2,3,17] H fun H=>cD H (fun H=>iA [4]<|vTT<|fR<|hr H) fun H=>vK<|fQ<|iB [2,3,5] H fun H=>jN r (fun(v6:List Int)=>Z [p 3 (R 3),p 5 (O 21)] [(21,A 3 i64 v6 0),(3,K 47 y47 a1)]) (u74J0 a1) (fun v6 H=>?_) (fun _ n0 e0 t0=>?_)
 ·refine jN r (fun(v13:List Int)=>Z [p 5 (O 21)] [(21,A 3 i64 v13 0)]) (u74J2) (fun v13 H=>?_) (fun _ n2 e2 t2=>?_)
  ·refine iB [4] H fun H=>vTT<|hr H
  refine iA [3,5,49,50,51]<|vB<|lX (fun((v9,v10):Int×List Int)=>Z [p 3 (R 3),p 5 (O 21),p 49 (L y166 a1.2.2),p 50 (I (a1.2.2.length:Int)),p 51 (I v9)] [(21,A 3 i64 v10 0),(3,K 47 y47 a1)]) (0,v6) H fun _ g3 b3 e3 t3 ⟨v9,v10⟩ H=>iA [3,5,49,50,51,52]<|vQ<|cD H (fun H=>?_) (fun H=>?_)
  ·refine vK<|fQ<|jN r (fun(v12:List Int)=>Z [p 3 (R 3),p 5 (O 21),p 49 (L y166 a1.2.2),p 50 (I (a1.2.2.length:Int)),p 51 (I v9)] [(21,A 3 i64 v12 0),(3,K 47 y47 a1)]) (u74J4 v9 g3) (fun v12 H=>?_) (fun _ n4 e4 t4=>?_)
   ·refine jB [3,5,49,50,51] H fun H=>b3 H
   refine vB<|qD (fun v11=>Z [p 3 (R 3),p 5 (O 21),p 9 (R 9),p 49 (L y166 a1.2.2),p 50 (I (a1.2.2.length:Int)),p 51 (I v9)] [(9,K 166 y166 v11),(21,A 3 i64 v10 0),(3,K 47 y47 a1)]) H fun v11 H=>vQ<|iB [3,5,9,49,50,51,69] H fun H=>cD H (fun H=>iA [4]<|vTT<|fR<|fDD<|t4<|t3<|fDD<|t2<|hr H) fun H=>vK<|fQ<|iA [3,5,9,49,50,51,72]<|cD H (fun H=>jB [3,5,49,50,51] H fun H=>fK<|n4 H) fun H=>vK<|fK<|n4 H
  exact vE<|fE<|e3<|fX rfl<|n2 H
 refine iA [2,3,5,23,24,25]<|vB<|lX (fun((v2,v3):Int×List Int)=>Z (G0 [p 5 (O 21),p 23 (L y152 a1.1),p 24 (I (a1.1.length:Int)),p 25 (I v2)]) ((21,A 3 i64 v3 0)::W3 a1 a0)) ((0,List.replicate (a1.2.1.length:Int).toNat 0)) H fun _ g1 b1 e1 t1 ⟨v2,v3⟩ H=>iA [2,3,5,23,24,25,26]<|vQ<|cD H (fun H=>?_) (fun H=>?_)
 ·refine vK<|fQ<|vQ<|vB<|qD (fun v4=>Z (G0 [p 5 (O 21),p 7 (R 7),p 23 (L y152 a1.1),p 24 (I (a1.1.length:Int)),p 25 (I v2)]) ((7,K 152 y152 v4)::(21,A 3 i64 v3 0)::W3 a1 a0)) H fun v4 H=>vQ<|iB [2,3,5,7,23,24,25,33] H fun H=>cD H (fun H=>iA [4]<|vTT<|fR<|fDD<|fR<|t1<|fDD<|t0<|hr H) fun H=>vK<|fQ<|zD (fun v5=>Z (G0 [p 5 (O 21),p 23 (L y152 a1.1),p 24 (I (a1.1.length:Int)),p 25 (I v2)]) ((21,A 3 i64 v5 0)::(7,K 152 y152 v4)::W3 a1 a0)) H fun v5 H=>fK<|fQ<|jB [2,3,5,23,24,25] H fun H=>b1 H
 exact vE<|fE<|e1<|fX rfl<|n0 H
def u29J3:Unit->Option Bool
 | _ =>
 some true
def u29L4(v9:List Int)(a0:Y50)(g4:Int->Option Bool):Int->Option Bool
 | v11 =>
 if(decide (v11 < (a0.2.2.length:Int))) then
  gd (ix v11 a0.2.2.length/\True)<|lt (a0.2.2.getD v11.toNat (dflt y36)) fun v12 =>
  gd (ix v11 v9.length/\v11.toNat<v9.length/\(u76 v12 (v9.getD v11.toNat 0)).isSome/\True) <|
  if(!vl (u76 v12 (v9.getD v11.toNat 0))) then
   some false
  else
   gd (in64 (v11+1)/\True) <|
   g4 (v11+1)
 else
  u29J3 ()
def u29J0(a0:Y50):List Int->Option Bool
 | v9 =>
 lp (u29L4 v9 a0) 0
def u29J2(v4:Int)(g1:Int×List Int->Option Bool):List Int->Option Bool
 | v8 =>
 gd (in64 (v4+1)/\True) <|
 g1 (v4+1,v8)
def u29L1(v0:List Y126)(a0:Y50)(g1:Int×List Int->Option Bool):Int×List Int->Option Bool
 | (v4,v5) =>
 if(decide (v4 < (v0.length:Int))) then
  gd (ix v4 v0.length/\v4.toNat<v0.length/\True)<|lt (v0.getD v4.toNat (dflt y126)) fun v6 =>
  if(!v6.2.2.2) then
   gd (ix v6.2.2.1 v5.length/\v6.2.2.1.toNat<v5.length/\in64 (v5.getD v6.2.2.1.toNat 0+1)/\ix v6.2.2.1 v5.length/\v6.2.2.1.toNat<v5.length/\True)<|lt (v5.set v6.2.2.1.toNat (v5.getD v6.2.2.1.toNat 0+1)) fun v7 =>
   u29J2 v4 g1 v7
  else
   u29J2 v4 g1 v5
 else
  u29J0 a0 v5
def u29(a0:Y50):Option Bool :=
 gd ((u74 a0.1 a0.2.1).isSome/\True) <|
 if(!vl (u74 a0.1 a0.2.1)||(a0.2.2.length:Int) != (a0.2.1.2.1.length:Int)) then
  some false
 else
  gd ((0<=(a0.2.2.length:Int)/\(a0.2.2.length:Int)=(a0.2.2.length:Int)/\(a0.2.2.length:Int).toNat*8<=281474976710656/\(a0.2.2.length:Int)<=9223372036854775807)/\True) <|
  gd ((u75 a0.2.1).isSome/\True)<|lt (vl (u75 a0.2.1)) fun v0 =>
  lp (u29L1 v0 a0) ((0,List.replicate (a0.2.2.length:Int).toNat 0))
def k29:Ct:=lct 29 [.agg y50] (fun x=>u29 x.1) (fun r:Bool=>B r) (fun _=>())
theorem o29:Ok prog k29:=by
 refine okM [.tmp 2] func29 ?_;intro y ⟨a0,_⟩ r H Q hn hr;have:=hz (tc o76 (tc o75 (tc o74 tn)));refine iA [1]<|vQ<|iB [1,23] H fun H=>cD H (fun H=>iA [2]<|vTT<|fR<|hr H) fun H=>vK<|fQ<|iB [1,3] H fun H=>jN r (fun(v9:List Int)=>Z [p 1 (R 1),p 3 (O 27)] [(27,A 2 i64 v9 0),(1,K 50 y50 a0)]) (u29J0 a0) (fun v9 H=>?_) (fun _ n0 e0 t0=>?_)
 ·refine jN r (fun(_:Unit)=>Z [] []) (u29J3) (fun _ H=>?_) (fun _ n3 e3 t3=>?_)
  ·refine iA [2]<|vTT<|hr H
  refine iA [3,48,49,50]<|vB<|lX (fun(v11:Int)=>Z [p 3 (O 27),p 48 (L y36 a0.2.2),p 49 (I (a0.2.2.length:Int)),p 50 (I v11)] [(27,A 2 i64 v9 0)]) 0 H fun _ g4 b4 e4 t4 v11 H=>iA [3,48,49,50,51]<|vQ<|cD H (fun H=>?_) (fun H=>?_)
  ·refine vK<|fQ<|vQ<|vB<|qD (fun v12=>Z [p 3 (O 27),p 6 (I v11),p 7 (R 7),p 48 (L y36 a0.2.2),p 49 (I (a0.2.2.length:Int)),p 50 (I v11)] [(7,K 36 y36 v12),(27,A 2 i64 v9 0)]) H fun v12 H=>iB [3,48,49,50,61] H fun H=>cD H (fun H=>iA [2]<|vTT<|fDD<|fR<|t4<|fDD<|t3<|hr H) fun H=>vK<|fK<|fQ<|jB [3,48,49,50] H fun H=>b4 H
  exact vE<|fE<|e4<|fX rfl<|n3 H
 refine iD o75 [1,3,30,31,32] H fun v0 H=>vB<|lX (fun((v4,v5):Int×List Int)=>Z [p 1 (R 1),p 3 (O 27),p 30 (O 30),p 31 (I (v0.length:Int)),p 32 (I v4)] [(30,A 126 y126 v0 0),(27,A 2 i64 v5 0),(1,K 50 y50 a0)]) ((0,List.replicate (a0.2.2.length:Int).toNat 0)) H fun _ g1 b1 e1 t1 ⟨v4,v5⟩ H=>iA [1,3,30,31,32,33]<|vQ<|cD H (fun H=>?_) (fun H=>?_)
 ·refine vK<|fQ<|jN r (fun(v8:List Int)=>Z [p 1 (R 1),p 3 (O 27),p 30 (O 30),p 31 (I (v0.length:Int)),p 32 (I v4)] [(27,A 2 i64 v8 0),(30,A 126 y126 v0 0),(1,K 50 y50 a0)]) (u29J2 v4 g1) (fun v8 H=>?_) (fun _ n2 e2 t2=>?_)
  ·refine jB [1,3,30,31,32] H fun H=>b1 H
  refine vB<|qD (fun v6=>Z [p 1 (R 1),p 3 (O 27),p 5 (R 5),p 30 (O 30),p 31 (I (v0.length:Int)),p 32 (I v4)] [(5,bx 126 (cellsD true y126 v6)),(30,A 126 y126 v0 0),(27,A 2 i64 v5 0),(1,K 50 y50 a0)]) H fun v6 H=>iA [1,3,5,30,31,32,38]<|cD H (fun H=>zD (fun v7=>Z [p 1 (R 1),p 3 (O 27),p 30 (O 30),p 31 (I (v0.length:Int)),p 32 (I v4)] [(27,A 2 i64 v7 0),(5,bx 126 (cellsD true y126 v6)),(30,A 126 y126 v0 0),(1,K 50 y50 a0)]) H fun v7 H=>fK<|n2 H) fun H=>vK<|fK<|n2 H
 exact vE<|fE<|e1<|fX rfl<|n0 H
def u45(a0:Y50)(a1:Y38):Option Int :=
 gd ((u29 a0).isSome/\True) <|
 if(!vl (u29 a0)) then
  some 1
 else
  gd ((u32 a1 a0).isSome/\True)<|lt (vl (u32 a1 a0)) fun v0 =>
  some v0
def u136(a0:Y126)(a1:Y47)(a2:List Y115)(a3:ByteArray):Option Bool :=
 gd ((u87 a1 a2 a0).isSome/\True)<|lt (vl (u87 a1 a2 a0)) fun v0 =>
 some (decide (v0=a3))
def k136:Ct:=lct 136 [.agg y126,.dat (.pt y47),.dat (.pt y115.sl),.dat (.pt Ty.str)] (fun x=>u136 x.1 x.2.1 x.2.2.1 x.2.2.2.1) (fun r:Bool=>B r) (fun _=>())
theorem o136:Ok prog k136:=by
 refine okM [.tmp 5] func136 ?_;intro y ⟨_,_,_,_,_⟩ r H Q hn hr;have:=hz (tc o87 tn);refine iA [1,2,3,4]<|iD o87 [5] H fun _ H=>vTT<|hr H
def u135c136J0:Unit->Option Int
 | _ =>
 some (-1)
def u135c136L1(a0:List Y126)(a1:Y47×List Y115×ByteArray)(g1:Int->Option Int):Int->Option Int
 | v0 =>
 if(decide (v0 < (a0.length:Int))) then
  gd (ix v0 a0.length/\(u136 (a0.getD v0.toNat (dflt y126)) a1.1 a1.2.1 a1.2.2).isSome/\True) <|
  if(vl (u136 (a0.getD v0.toNat (dflt y126)) a1.1 a1.2.1 a1.2.2)) then
   some v0
  else
   gd (in64 (v0+1)/\True) <|
   g1 (v0+1)
 else
  u135c136J0 ()
def u135c136(a0:List Y126)(a1:Y47×List Y115×ByteArray):Option Int :=
 lp (u135c136L1 a0 a1) 0
def k135c136:Ct:=lct 135 [.dat y126.sl,.fn 136 (.pr (.pt y47) (.pr (.pt y115.sl) (.pt Ty.str)))] (fun x=>u135c136 x.1 x.2.1) (fun r:Int=>I r) (fun _=>())
theorem o135c136:Ok prog k135c136:=by
 refine okM [.tmp 4] func135 ?_;intro y ⟨a0,a1,_⟩ r H Q hn hr;have:=hz (tc o136 tn);refine iA [0,1]<|jN r (fun(_:Unit)=>Z [] []) (u135c136J0) (fun _ H=>?_) (fun _ n0 e0 t0=>?_)
 ·refine iA [4]<|vTT<|hr H
 refine iA [0,1,7,8]<|vB<|lX (fun(v0:Int)=>Z [p 0 (L y126 a0),p 1 (AV.fn 136 [D y47.pt a1.1,D y115.sl.pt a1.2.1,D Ty.str.pt a1.2.2]),p 7 (I (a0.length:Int)),p 8 (I v0)] []) 0 H fun _ g1 b1 e1 t1 v0 H=>iA [0,1,7,8,9]<|vQ<|cD H (fun H=>?_) (fun H=>?_)
 ·refine vK<|fQ<|vQ<|vB<|iA [0,1,5,7,8]<|iB [0,1,5,7,8,16] H fun H=>cD H (fun H=>iA [4]<|vTT<|fDD<|fR<|t1<|fDD<|t0<|hr H) fun H=>vK<|fK<|fQ<|jB [0,1,7,8] H fun H=>b1 H
 exact vE<|fE<|e1<|fX rfl<|n0 H
def u80(a0:Y47)(a1:List Y115)(a2:ByteArray):Option Int :=
 gd ((u75 a0).isSome/\(u135c136 (vl (u75 a0)) (a0,a1,a2)).isSome/\True)<|lt ((vl (u135c136 (vl (u75 a0)) (a0,a1,a2)),vl (u75 a0))) fun(v0,_) =>
 some v0
def k80:Ct:=lct 80 [.agg y47,.agg y115.sl,.dat Ty.str] (fun x=>u80 x.1 x.2.1 x.2.2.1) (fun r:Int=>I r) (fun _=>())
theorem o80:Ok prog k80:=by
 refine okM [.tmp 6] func80 ?_;intro y ⟨a0,a1,a2,_⟩ r H Q hn hr;have:=hz (tc o135c136 (tc o136 (tc o75 tn)));refine iA [3,4,5]<|qD (fun(v0,v1)=>Z [p 6 (I v0)] [(8,A 126 y126 v1 0),(5,bx 9 [U a2]),(4,bx 43 [L y115 a1]),(3,K 47 y47 a0)]) H fun⟨v0,v1⟩ H =>
  vTT<|hr H
def u138(a0:Y115)(a1:ByteArray):Option Bool :=
 some (decide (a0.1=a1))
def k138:Ct:=lct 138 [.agg y115,.dat (.pt Ty.str)] (fun x=>u138 x.1 x.2.1) (fun r:Bool=>B r) (fun _=>())
theorem o138:Ok prog k138:=by
 refine okM [.tmp 3] func138 ?_;intro y ⟨_,_,_⟩ r H Q hn hr;refine iA [1,2]<|iA [3]<|vTT<|hr H
def u137c138J0:Unit->Option Int
 | _ =>
 some (-1)
def u137c138L1(a0:List Y115)(a1:ByteArray)(g1:Int->Option Int):Int->Option Int
 | v0 =>
 if(decide (v0 < (a0.length:Int))) then
  gd (ix v0 a0.length/\(u138 (a0.getD v0.toNat (dflt y115)) a1).isSome/\True) <|
  if(vl (u138 (a0.getD v0.toNat (dflt y115)) a1)) then
   some v0
  else
   gd (in64 (v0+1)/\True) <|
   g1 (v0+1)
 else
  u137c138J0 ()
def u137c138(a0:List Y115)(a1:ByteArray):Option Int :=
 lp (u137c138L1 a0 a1) 0
def k137c138:Ct:=lct 137 [.dat y115.sl,.fn 138 (.pt Ty.str)] (fun x=>u137c138 x.1 x.2.1) (fun r:Int=>I r) (fun _=>())
theorem o137c138:Ok prog k137c138:=by
 refine okM [.tmp 4] func137 ?_;intro y ⟨a0,a1,_⟩ r H Q hn hr;have:=hz (tc o138 tn);refine iA [0,1]<|jN r (fun(_:Unit)=>Z [] []) (u137c138J0) (fun _ H=>?_) (fun _ n0 e0 t0=>?_)
 ·refine iA [4]<|vTT<|hr H
 refine iA [0,1,7,8]<|vB<|lX (fun(v0:Int)=>Z [p 0 (L y115 a0),p 1 (AV.fn 138 [D Ty.str.pt a1]),p 7 (I (a0.length:Int)),p 8 (I v0)] []) 0 H fun _ g1 b1 e1 t1 v0 H=>iA [0,1,7,8,9]<|vQ<|cD H (fun H=>?_) (fun H=>?_)
 ·refine vK<|fQ<|vQ<|vB<|iA [0,1,5,7,8]<|iB [0,1,5,7,8,16] H fun H=>cD H (fun H=>iA [4]<|vTT<|fDD<|fR<|t1<|fDD<|t0<|hr H) fun H=>vK<|fK<|fQ<|jB [0,1,7,8] H fun H=>b1 H
 exact vE<|fE<|e1<|fX rfl<|n0 H
def u81(a0:List Y115)(a1:ByteArray):Option Int :=
 gd ((u137c138 a0 a1).isSome/\True)<|lt (vl (u137c138 a0 a1)) fun v0 =>
 some v0
def k81:Ct:=lct 81 [.agg y115.sl,.dat Ty.str] (fun x=>u81 x.1 x.2.1) (fun r:Int=>I r) (fun _=>())
theorem o81:Ok prog k81:=by
 refine okM [.tmp 4] func81 ?_;intro y ⟨_,_,_⟩ r H Q hn hr;have:=hz (tc o137c138 (tc o138 tn));refine iA [2,3]<|iD o137c138 [4] H fun _ H=>vTT<|hr H
def u134J0:List Int->Option (List Int×Bool)
 | v5 =>
 some (v5,true)
def u134L1(v0:List ByteArray)(g1:List Int×Int->Option (List Int×Bool)):List Int×Int->Option (List Int×Bool)
 | (v2,v3) =>
 if(decide (v3 < (v0.length:Int))) then
  gd (ix v3 v0.length/\v3.toNat<v0.length/\True) <|
  gd ((u82 (v0.getD v3.toNat (dflt Ty.str))).isSome/\True)<|lt (vl (u82 (v0.getD v3.toNat (dflt Ty.str)))) fun v4 =>
  if(!v4.2) then
   some ([],false)
  else
   gd ((v2.length+[v4.1].length<=9223372036854775807/\(v2.length+[v4.1].length)*8<=140737488355328)/\True) <|
   gd (in64 (v3+1)/\True) <|
   g1 (v2++[v4.1],v3+1)
 else
  u134J0 v2
def u134(a0:ByteArray)(a1:ByteArray):Option (List Int×Bool) :=
 gd ((u31 a0 a1).isSome/\True)<|lt (vl (u31 a0 a1)) fun v0 =>
 lp (u134L1 v0) ([],0)
def k134:Ct:=lct 134 [.dat Ty.str,.dat Ty.str] (fun x=>u134 x.1 x.2.1) (fun r:List Int×Bool=>AV.tup [AV.ow 2 true i64 r.1,B r.2]) (fun _=>())
theorem o134:Ok prog k134:=by
 refine okM [.tmp 4,.tmp 5] func134 ?_;intro y ⟨_,_,_⟩ r H Q hn hr;have:=hz (tc o82 (tc o31 tn));refine iA [0,1]<|iA [0,1,6]<|jN r (fun(v5:List Int)=>Z [p 6 (O 29)] [(29,A 2 i64 v5 0)]) (u134J0) (fun v5 H=>?_) (fun _ n0 e0 t0=>?_)
 ·refine iA [4,5]<|vTT<|hr H
 refine iD o31 [6,13,14,15] H fun v0 H=>vB<|lX (fun((v2,v3):List Int×Int)=>Z [p 6 (O 29),p 13 (O 13),p 14 (I (v0.length:Int)),p 15 (I v3)] [(13,A 9 Ty.str v0 0),(29,A 2 i64 v2 0)]) ([],0) H fun _ g1 b1 e1 t1 ⟨v2,v3⟩ H=>iA [6,13,14,15,16]<|vQ<|cD H (fun H=>?_) (fun H=>?_)
 ·refine vK<|fQ<|vQ<|vB<|iB [6,8,13,14,15] H fun H=>iD o82 [6,9,10,13,14,15] H fun _ H=>vQ<|iA [6,9,13,14,15,25]<|cD H (fun H=>iA [4,5]<|vTT<|fR<|fDD<|fR<|t1<|fDD<|t0<|hr H) fun H=>vK<|fQ<|jB [6,13,14,15] H fun H=>fK<|fQ<|jB [6,13,14,15] H fun H=>b1 H
 exact vE<|fE<|e1<|fX rfl<|n0 H
end Go.Proofs.YtfggbbnnalflhaaGreatDoor
end
