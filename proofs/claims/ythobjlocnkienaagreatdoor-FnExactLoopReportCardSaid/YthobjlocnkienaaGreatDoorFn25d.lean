/- Functions of this program as plain functions of data, and that they are so: printed by program. -/
import Derived.Test.YthobjlocnkienaaGreatDoorFn25c
section
namespace Go.Proofs.YthobjlocnkienaaGreatDoor
open Go Go.Proofs Go.Proofs.Sv Go.Proofs.Xv Go.Proofs.Xl Go.RowKit
open Tryz
def u32J0:ByteArray->Option (ByteArray×Int)
 | v10 =>
 some ((v10,(0:Int)))
def u32L1(v0:Y113)(v1:List Int)(g1:ByteArray×Int->Option (ByteArray×Int)):ByteArray×Int->Option (ByteArray×Int)
 | (v5,v6) =>
 if(decide (v6 < (v1.length:Int)))=true then
  gd (ix v6 v1.length/\v6.toNat<v1.length/\True) <|
  gd (ix (v1.getD v6.toNat 0) v0.2.2.1.length/\(u72 v0 (v0.2.2.1.getD (Int.toNat (v1.getD v6.toNat 0)) (dflt y107)).1).isSome=true/\(ByteArray.mk #[98,114,101,97,107,32]).size+(vl (u72 v0 (v0.2.2.1.getD (Int.toNat (v1.getD v6.toNat 0)) (dflt y107)).1)).size<=9223372036854775807/\(ByteArray.mk #[98,114,101,97,107,32]++vl (u72 v0 (v0.2.2.1.getD (Int.toNat (v1.getD v6.toNat 0)) (dflt y107)).1)).size+(ByteArray.mk #[32]).size<=9223372036854775807/\ix (v1.getD v6.toNat 0) v0.2.2.1.length/\(u72 v0 (v0.2.2.1.getD (Int.toNat (v1.getD v6.toNat 0)) (dflt y107)).2.1).isSome=true/\(ByteArray.mk #[98,114,101,97,107,32]++vl (u72 v0 (v0.2.2.1.getD (Int.toNat (v1.getD v6.toNat 0)) (dflt y107)).1)++ByteArray.mk #[32]).size+(vl (u72 v0 (v0.2.2.1.getD (Int.toNat (v1.getD v6.toNat 0)) (dflt y107)).2.1)).size<=9223372036854775807/\(ByteArray.mk #[98,114,101,97,107,32]++vl (u72 v0 (v0.2.2.1.getD (Int.toNat (v1.getD v6.toNat 0)) (dflt y107)).1)++ByteArray.mk #[32]++vl (u72 v0 (v0.2.2.1.getD (Int.toNat (v1.getD v6.toNat 0)) (dflt y107)).2.1)).size+(ByteArray.mk #[10]).size<=9223372036854775807/\v5.size+(ByteArray.mk #[98,114,101,97,107,32]++vl (u72 v0 (v0.2.2.1.getD (Int.toNat (v1.getD v6.toNat 0)) (dflt y107)).1)++ByteArray.mk #[32]++vl (u72 v0 (v0.2.2.1.getD (Int.toNat (v1.getD v6.toNat 0)) (dflt y107)).2.1)++ByteArray.mk #[10]).size<=9223372036854775807/\True)<|lt ((vl (u72 v0 (v0.2.2.1.getD (Int.toNat (v1.getD v6.toNat 0)) (dflt y107)).1),vl (u72 v0 (v0.2.2.1.getD (Int.toNat (v1.getD v6.toNat 0)) (dflt y107)).2.1),v5++(ByteArray.mk #[98,114,101,97,107,32]++vl (u72 v0 (v0.2.2.1.getD (Int.toNat (v1.getD v6.toNat 0)) (dflt y107)).1)++ByteArray.mk #[32]++vl (u72 v0 (v0.2.2.1.getD (Int.toNat (v1.getD v6.toNat 0)) (dflt y107)).2.1)++ByteArray.mk #[10]))) fun(v7,v8,v9) =>
  gd (in64 (v6+1)/\True) <|
  g1 (v9,v6+1)
 else
  u32J0 v5
def u32(a0:Y46):Option (ByteArray×Int) :=
 gd ((u69 a0).isSome=true/\True) <|
 if(!vl (u69 a0))=true then
  some ((ByteArray.mk #[],(1:Int)))
 else
  gd ((u70 a0).isSome=true/\True)<|lt (vl (u70 a0)) fun v0 =>
  gd ((u71 v0).isSome=true/\True)<|lt (vl (u71 v0)) fun v1 =>
  lp (u32L1 v0 v1) (ByteArray.mk #[],0)
def k32:Ct:=lct 32 [.agg y46] (fun x=>u32 x.1) (fun r:ByteArray×Int=>AV.tup [S r.1,I r.2]) (fun _=>())
theorem o32:Ok prog k32:=by
 refine okL [.tmp 2,.tmp 3] func32 ntmps32 results32 ?_;intro y ⟨a0,_⟩ r H Q hn hr;have:HT _ _:=⟨tc o72 (tc o71 (tc o70 (tc o69 tn)))⟩;refine qA (Z [p 1 (R 1)] [(1,K 46 y46 a0)])<|vQ<|qB (Z [p 1 (R 1),p 10 (B !vl (u69 a0))] [(1,K 46 y46 a0)]) H fun H=>cD H (fun H=>?_) (fun H=>?_)
 ·refine qA (Z [p 2 (S (ByteArray.mk #[])),p 3 (I 1)] [(1,K 46 y46 a0)])<|vTT<|fR<|hr H
 refine vK<|fQ<|qD (fun v0=>Z [p 4 (D y113.pt v0)] [(1,K 46 y46 a0)]) H fun v0 H=>qA (Z [p 4 (D y113.pt v0),p 5 (S (ByteArray.mk #[]))] [(1,K 46 y46 a0)])<|jN r (fun(v10:ByteArray)=>Z [p 5 (S v10)] []) (u32J0) (fun v10 H=>?_) (fun _ n0 e0 t0=>?_)
 ·refine qA (Z [p 2 (S v10),p 3 (I 0)] [])<|vTT<|hr H
 refine qD (fun v1=>Z [p 4 (D y113.pt v0),p 5 (S (ByteArray.mk #[])),p 14 (O 14),p 15 (I (v1.length:Int)),p 16 (I 0)] [(14,A 2 i64 v1 0),(1,K 46 y46 a0)]) H fun v1 H=>vB<|lX (fun((v5,v6):ByteArray×Int)=>Z [p 4 (D y113.pt v0),p 5 (S v5),p 14 (O 14),p 15 (I (v1.length:Int)),p 16 (I v6)] [(14,A 2 i64 v1 0)]) (ByteArray.mk #[],0) H fun _ g1 b1 e1 t1 ⟨v5,v6⟩ H=>qA (Z [p 4 (D y113.pt v0),p 5 (S v5),p 14 (O 14),p 15 (I (v1.length:Int)),p 16 (I v6),p 17 (B (decide (v6 < (v1.length:Int))))] [(14,A 2 i64 v1 0)])<|vQ<|cD H (fun H=>?_) (fun H=>?_)
 ·refine vK<|fQ<|vQ<|vB<|qB (Z [p 4 (D y113.pt v0),p 5 (S v5),p 7 (I (v1.getD v6.toNat 0)),p 14 (O 14),p 15 (I (v1.length:Int)),p 16 (I v6)] [(14,A 2 i64 v1 0)]) H fun H=>zD (fun(v7,v8,v9)=>Z [p 4 (D y113.pt v0),p 5 (S v9),p 14 (O 14),p 15 (I (v1.length:Int)),p 16 (I v6)] [(14,A 2 i64 v1 0)]) H fun⟨v7,v8,v9⟩ H =>
   fK<|fQ <|
   zB (Z [p 4 (D y113.pt v0),p 5 (S v9),p 14 (O 14),p 15 (I (v1.length:Int)),p 16 (I (v6+1))] [(14,A 2 i64 v1 0)]) H fun H =>
   b1 H
 exact vE<|fE<|e1<|fX rfl<|n0 H
def u8(a0:Y32):Option (Bool) :=
 gd ((u10 a0 1048576).isSome=true/\True)<|lt (vl (u10 a0 1048576)) fun v0 =>
 if(decide (v0<0))=true then
  some true
 else
  gd ((u12 a0).isSome=true/\(u31 (vl (u12 a0))).isSome=true/\True)<|lt ((vl (u31 (vl (u12 a0))),vl (u12 a0))) fun(v1,v2) =>
  gd ((u12 a0).isSome=true/\True)<|lt (vl (u12 a0)) fun v3 =>
  gd ((u32 v3).isSome=true/\True)<|lt (vl (u32 v3)) fun v4 =>
  if(!decide (v4.1=v1.1)||v4.2 != v1.2)=true then
   some false
  else
   gd ((u12 a0).isSome=true/\(u16 v3 (vl (u12 a0))).isSome=true/\True)<|lt (vl (u12 a0)) fun v5 =>
   if(!vl (u16 v3 v5))=true then
    some false
   else
    some true
def k8:Ct:=lct 8 [.agg y32] (fun x=>u8 x.1) (fun r:Bool=>B r) (fun _=>())
theorem o8:Ok prog k8:=by
 refine okL [.tmp 2] func8 ntmps8 results8 ?_;intro y ⟨a0,_⟩ r H Q hn hr;have:HT _ _:=⟨tc o16 (tc o12 (tc o32 (tc o31 (tc o10 tn))))⟩;refine qA (Z [p 1 (R 1)] [(1,K 32 y32 a0)])<|qA (Z [p 1 (R 1),p 3 (I 1048576)] [(1,K 32 y32 a0)])<|qD (fun v0=>Z [p 1 (R 1),p 3 (I v0)] [(1,K 32 y32 a0)]) H fun v0 H=>vQ<|qA (Z [p 1 (R 1),p 13 (B (decide (v0<0)))] [(1,K 32 y32 a0)])<|cD H (fun H=>?_) (fun H=>?_)
 ·refine qA (Z [p 2 (B true)] [(1,K 32 y32 a0)])<|vTT<|fR<|hr H
 refine vK<|fQ<|qD (fun(v1,v2)=>Z [p 1 (R 1),p 4 (S v1.1),p 5 (I v1.2)] [(4016,A 126 y126 v2.2.2 0),(3016,A 190 y190 v2.2.1.2.2 0),(2016,A 9 Ty.str v2.2.1.2.1 0),(1016,A 150 y150 v2.2.1.1 0),(16,A 148 y148 v2.1 0),(1,K 32 y32 a0)]) H fun⟨v1,v2⟩ H =>
  qD (fun v3=>Z [p 1 (R 1),p 4 (S v1.1),p 5 (I v1.2),p 6 (R 6)] [(6,Ob.box 46 [AV.os 21 0,AV.os 1021 0,AV.os 2021 0,AV.os 3021 0,AV.os 4021 0]),(4021,A 126 y126 v3.2.2 0),(3021,A 190 y190 v3.2.1.2.2 0),(2021,A 9 Ty.str v3.2.1.2.1 0),(1021,A 150 y150 v3.2.1.1 0),(21,A 148 y148 v3.1 0),(4016,A 126 y126 v2.2.2 0),(3016,A 190 y190 v2.2.1.2.2 0),(2016,A 9 Ty.str v2.2.1.2.1 0),(1016,A 150 y150 v2.2.1.1 0),(16,A 148 y148 v2.1 0),(1,K 32 y32 a0)]) H fun v3 H =>
  qD (fun v4=>Z [p 1 (R 1),p 4 (S v1.1),p 5 (I v1.2),p 6 (R 6),p 7 (S v4.1),p 8 (I v4.2)] [(6,Ob.box 46 [AV.os 21 0,AV.os 1021 0,AV.os 2021 0,AV.os 3021 0,AV.os 4021 0]),(4021,A 126 y126 v3.2.2 0),(3021,A 190 y190 v3.2.1.2.2 0),(2021,A 9 Ty.str v3.2.1.2.1 0),(1021,A 150 y150 v3.2.1.1 0),(21,A 148 y148 v3.1 0),(4016,A 126 y126 v2.2.2 0),(3016,A 190 y190 v2.2.1.2.2 0),(2016,A 9 Ty.str v2.2.1.2.1 0),(1016,A 150 y150 v2.2.1.1 0),(16,A 148 y148 v2.1 0),(1,K 32 y32 a0)]) H fun v4 H =>
  vQ <|
  qA (Z [p 1 (R 1),p 6 (R 6),p 34 (B (!decide (v4.1=v1.1)||v4.2 != v1.2))] [(6,Ob.box 46 [AV.os 21 0,AV.os 1021 0,AV.os 2021 0,AV.os 3021 0,AV.os 4021 0]),(4021,A 126 y126 v3.2.2 0),(3021,A 190 y190 v3.2.1.2.2 0),(2021,A 9 Ty.str v3.2.1.2.1 0),(1021,A 150 y150 v3.2.1.1 0),(21,A 148 y148 v3.1 0),(4016,A 126 y126 v2.2.2 0),(3016,A 190 y190 v2.2.1.2.2 0),(2016,A 9 Ty.str v2.2.1.2.1 0),(1016,A 150 y150 v2.2.1.1 0),(16,A 148 y148 v2.1 0),(1,K 32 y32 a0)]) <|
  cD H (fun H=>?_) (fun H=>?_)
 ·refine qA (Z [p 2 (B false)] [(6,Ob.box 46 [AV.os 21 0,AV.os 1021 0,AV.os 2021 0,AV.os 3021 0,AV.os 4021 0]),(4021,A 126 y126 v3.2.2 0),(3021,A 190 y190 v3.2.1.2.2 0),(2021,A 9 Ty.str v3.2.1.2.1 0),(1021,A 150 y150 v3.2.1.1 0),(21,A 148 y148 v3.1 0),(4016,A 126 y126 v2.2.2 0),(3016,A 190 y190 v2.2.1.2.2 0),(2016,A 9 Ty.str v2.2.1.2.1 0),(1016,A 150 y150 v2.2.1.1 0),(16,A 148 y148 v2.1 0),(1,K 32 y32 a0)])<|vTT<|fR<|hr H
 refine vK<|fQ<|vQ<|qD (fun v5=>Z [p 39 (B !vl (u16 v3 v5))] [(4037,A 126 y126 v5.2.2 0),(3037,A 190 y190 v5.2.1.2.2 0),(2037,A 9 Ty.str v5.2.1.2.1 0),(1037,A 150 y150 v5.2.1.1 0),(37,A 148 y148 v5.1 0),(6,Ob.box 46 [AV.os 21 0,AV.os 1021 0,AV.os 2021 0,AV.os 3021 0,AV.os 4021 0]),(4021,A 126 y126 v3.2.2 0),(3021,A 190 y190 v3.2.1.2.2 0),(2021,A 9 Ty.str v3.2.1.2.1 0),(1021,A 150 y150 v3.2.1.1 0),(21,A 148 y148 v3.1 0),(4016,A 126 y126 v2.2.2 0),(3016,A 190 y190 v2.2.1.2.2 0),(2016,A 9 Ty.str v2.2.1.2.1 0),(1016,A 150 y150 v2.2.1.1 0),(16,A 148 y148 v2.1 0),(1,K 32 y32 a0)]) H fun v5 H=>cD H (fun H=>?_) (fun H=>?_)
 ·refine qA (Z [p 2 (B false)] [(4037,A 126 y126 v5.2.2 0),(3037,A 190 y190 v5.2.1.2.2 0),(2037,A 9 Ty.str v5.2.1.2.1 0),(1037,A 150 y150 v5.2.1.1 0),(37,A 148 y148 v5.1 0),(6,Ob.box 46 [AV.os 21 0,AV.os 1021 0,AV.os 2021 0,AV.os 3021 0,AV.os 4021 0]),(4021,A 126 y126 v3.2.2 0),(3021,A 190 y190 v3.2.1.2.2 0),(2021,A 9 Ty.str v3.2.1.2.1 0),(1021,A 150 y150 v3.2.1.1 0),(21,A 148 y148 v3.1 0),(4016,A 126 y126 v2.2.2 0),(3016,A 190 y190 v2.2.1.2.2 0),(2016,A 9 Ty.str v2.2.1.2.1 0),(1016,A 150 y150 v2.2.1.1 0),(16,A 148 y148 v2.1 0),(1,K 32 y32 a0)])<|vTT<|fR<|hr H
 refine vK<|fQ<|qA (Z [p 2 (B true)] [(4037,A 126 y126 v5.2.2 0),(3037,A 190 y190 v5.2.1.2.2 0),(2037,A 9 Ty.str v5.2.1.2.1 0),(1037,A 150 y150 v5.2.1.1 0),(37,A 148 y148 v5.1 0),(6,Ob.box 46 [AV.os 21 0,AV.os 1021 0,AV.os 2021 0,AV.os 3021 0,AV.os 4021 0]),(4021,A 126 y126 v3.2.2 0),(3021,A 190 y190 v3.2.1.2.2 0),(2021,A 9 Ty.str v3.2.1.2.1 0),(1021,A 150 y150 v3.2.1.1 0),(21,A 148 y148 v3.1 0),(4016,A 126 y126 v2.2.2 0),(3016,A 190 y190 v2.2.1.2.2 0),(2016,A 9 Ty.str v2.2.1.2.1 0),(1016,A 150 y150 v2.2.1.1 0),(16,A 148 y148 v2.1 0),(1,K 32 y32 a0)])<|vTT<|hr H
end Go.Proofs.YthobjlocnkienaaGreatDoor
end
