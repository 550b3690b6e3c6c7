/- Functions of this program as plain functions of data, and that they are so: printed by program. -/
import Derived.Test.YtekfdfcnjlfgiaaGreatDoorFA4a
section
namespace Go.Proofs.YtekfdfcnjlfgiaaGreatDoor
open Go Go.Proofs Go.Proofs.Sv Go.Proofs.Xv Go.Proofs.Xl Go.RowKit
open Tryz
def u14(a0:Y57)(a1:Y57):Option Bool :=
 if(a0.1 != a1.1) then
  some false
 else
  if(a0.2.1 != a1.2.1) then
   some false
  else
   if(a0.2.2.1 != a1.2.2.1) then
    some false
   else
    if(a0.2.2.2.1 != a1.2.2.2.1) then
     some false
    else
     if(a0.2.2.2.2.1 != a1.2.2.2.2.1) then
      some false
     else
      if(!decide (a0.2.2.2.2.2.1=a1.2.2.2.2.2.1)) then
       some false
      else
       gd ((u38 a0.2.2.2.2.2.2 a1.2.2.2.2.2.2).isSome/\True) <|
       if(!vl (u38 a0.2.2.2.2.2.2 a1.2.2.2.2.2.2)) then
        some false
       else
        some true
def k14:Ct:=lct 14 [.agg y57,.agg y57] (fun x=>u14 x.1 x.2.1) (fun r:Bool=>B r) (fun _=>())
theorem o14:Ok prog k14:=by
 refine okM [.tmp 4] func14 ?_;intro y ⟨_,_,_⟩ r H Q hn hr;have:=hz (tc o38 tn);refine iA [2,3]<|vQ<|iA [2,3,9]<|cD H (fun H=>iA [4]<|vTT<|fR<|hr H) fun H=>vK<|fQ<|vQ<|iA [2,3,14]<|cD H (fun H=>iA [4]<|vTT<|fR<|hr H) fun H=>vK<|fQ<|vQ<|iA [2,3,19]<|cD H (fun H=>iA [4]<|vTT<|fR<|hr H) fun H=>vK<|fQ<|vQ<|iA [2,3,24]<|cD H (fun H=>iA [4]<|vTT<|fR<|hr H) fun H=>vK<|fQ<|vQ<|iA [2,3,29]<|cD H (fun H=>iA [4]<|vTT<|fR<|hr H) fun H=>vK<|fQ<|vQ<|iA [2,3,34]<|cD H (fun H=>iA [4]<|vTT<|fR<|hr H) fun H=>vK<|fQ<|vQ<|iB [40] H fun H=>cD H (fun H=>iA [4]<|vTT<|fR<|hr H) fun H=>vK<|fQ<|iA [4]<|vTT<|hr H
def u12(a0:Y52):Option Y57 :=
 gd ((u35 a0.2.2.2.2.2.2).isSome/\True)<|lt (vl (u35 a0.2.2.2.2.2.2)) fun v0 =>
 some (a0.1,a0.2.1,a0.2.2.1,a0.2.2.2.1,a0.2.2.2.2.1,a0.2.2.2.2.2.1,v0)
def k12:Ct:=lct 12 [.agg y52] (fun x=>u12 x.1) (fun r:Y57=>AV.agg [I r.1,I r.2.1,I r.2.2.1,I r.2.2.2.1,I r.2.2.2.2.1,S r.2.2.2.2.2.1,AV.ow 2 true i64 r.2.2.2.2.2.2.1,AV.ow 2 true i64 r.2.2.2.2.2.2.2.1,AV.ow 2 true i64 r.2.2.2.2.2.2.2.2.1,AV.ow 2 true i64 r.2.2.2.2.2.2.2.2.2]) (fun _=>())
theorem o12:Ok prog k12:=by
 refine okM [.cell 2 57] func12 ?_;intro y ⟨_,_⟩ r H Q hn hr;have:=hz (tc o35 tn);refine iA [1,2]<|iA [1,2,3]<|iA [1,2,3]<|iA [1,2,3]<|iA [1,2,3]<|iA [1,2,3]<|iA [1,2,3]<|iA [1,2,3]<|iD o35 [2,3] H fun _ H=>iA [2] ?_
 exact vTT<|hr H
def u68(a0:Y41)(a1:List Y82)(a2:Y102):Option ByteArray :=
 if(decide (a2.1<0)) then
  gd (ix a2.2.1 a0.2.2.length/\True)<|lt (a0.2.2.getD a2.2.1.toNat (dflt y114)) fun v0 =>
  some v0.1
 else
  gd (ix a2.1 a0.1.length/\True)<|lt (a0.1.getD a2.1.toNat (dflt y112)) fun v1 =>
  gd (v1.1.size+(ByteArray.mk #[47]).size<=9223372036854775807/\ix v1.2.1 a1.length/\ix a2.2.1 (a1.getD v1.2.1.toNat (dflt y82)).2.2.1.length/\(v1.1++ByteArray.mk #[47]).size+((a1.getD v1.2.1.toNat (dflt y82)).2.2.1.getD a2.2.1.toNat (dflt y116)).1.size<=9223372036854775807/\True)<|lt (v1.1++ByteArray.mk #[47]++((a1.getD v1.2.1.toNat (dflt y82)).2.2.1.getD a2.2.1.toNat (dflt y116)).1) fun v2 =>
  some v2
def k68:Ct:=lct 68 [.agg y41,.agg y82.sl,.agg y102] (fun x=>u68 x.1 x.2.1 x.2.2.1) (fun r:ByteArray=>S r) (fun _=>())
theorem o68:Ok prog k68:=by
 refine okM [.tmp 6] func68 ?_;intro y ⟨a0,a1,a2,_⟩ r H Q hn hr;refine iA [3,4,5]<|vQ<|iA [3,4,5,10]<|cD H (fun H=>qD (fun v0=>Z [p 6 (U v0.1)] [(5,K 102 y102 a2),(4,bx 37 [L y82 a1]),(3,K 41 y41 a0)]) H fun v0 H=>vTT<|fR<|hr H) fun H=>vK<|fQ<|qD (fun v1=>Z [p 4 (R 4),p 5 (R 5),p 7 (R 7)] [(7,K 112 y112 v1),(5,K 102 y102 a2),(4,bx 37 [L y82 a1]),(3,K 41 y41 a0)]) H fun v1 H=>qD (fun v2=>Z [p 6 (S v2)] [(7,K 112 y112 v1),(5,K 102 y102 a2),(4,bx 37 [L y82 a1]),(3,K 41 y41 a0)]) H fun v2 H=>vTT<|hr H
def u67(a0:Y44)(a1:Y57):Option ByteArray :=
 gd ((u52 a0.2.1).isSome/\ix a1.2.1 (vl (u52 a0.2.1)).length/\a1.2.1.toNat < (vl (u52 a0.2.1)).length/\(u68 a0.2.1 a0.1 ((vl (u52 a0.2.1)).getD a1.2.1.toNat (dflt y102))).isSome/\True)<|lt ((vl (u68 a0.2.1 a0.1 ((vl (u52 a0.2.1)).getD a1.2.1.toNat (dflt y102))),vl (u52 a0.2.1))) fun(v0,_) =>
 some v0
def k67:Ct:=lct 67 [.dat (.pt y44),.dat (.pt y57)] (fun x=>u67 x.1 x.2.1) (fun r:ByteArray=>S r) (fun _=>())
theorem o67:Ok prog k67:=by
 refine okM [.tmp 2] func67 ?_;intro y ⟨_,_,_⟩ r H Q hn hr;have:=hz (tc o68 (tc o52 tn));refine iA [0,1]<|qD (fun(v0,v1)=>Z [p 2 (S v0)] [(9,A 102 y102 v1 0)]) H fun⟨v0,v1⟩ H =>
  vTT<|hr H
def u37(a0:Y57)(a1:Y44):Option ByteArray :=
 if(a0.1==1) then
  gd ((u67 a1 a0).isSome/\(ByteArray.mk #[115,119,97,112,32]).size+(vl (u67 a1 a0)).size<=9223372036854775807/\(ByteArray.mk #[115,119,97,112,32]++vl (u67 a1 a0)).size+(ByteArray.mk #[32]).size<=9223372036854775807/\ix a0.2.2.1 a1.1.length/\(ByteArray.mk #[115,119,97,112,32]++vl (u67 a1 a0)++ByteArray.mk #[32]).size+(a1.1.getD a0.2.2.1.toNat (dflt y82)).1.size<=9223372036854775807/\True)<|lt ((vl (u67 a1 a0),ByteArray.mk #[115,119,97,112,32]++vl (u67 a1 a0)++ByteArray.mk #[32]++(a1.1.getD a0.2.2.1.toNat (dflt y82)).1)) fun(_,v1) =>
  some v1
 else
  if(a0.1==2) then
   gd ((u67 a1 a0).isSome/\(ByteArray.mk #[98,117,102,102,101,114,32]).size+(vl (u67 a1 a0)).size<=9223372036854775807/\(ByteArray.mk #[98,117,102,102,101,114,32]++vl (u67 a1 a0)).size+(ByteArray.mk #[32]).size<=9223372036854775807/\ix a0.2.2.1 a1.1.length/\(ByteArray.mk #[98,117,102,102,101,114,32]++vl (u67 a1 a0)++ByteArray.mk #[32]).size+(a1.1.getD a0.2.2.1.toNat (dflt y82)).1.size<=9223372036854775807/\(ByteArray.mk #[98,117,102,102,101,114,32]++vl (u67 a1 a0)++ByteArray.mk #[32]++(a1.1.getD a0.2.2.1.toNat (dflt y82)).1).size+(ByteArray.mk #[32]).size<=9223372036854775807/\(ByteArray.mk #[98,117,102,102,101,114,32]++vl (u67 a1 a0)++ByteArray.mk #[32]++(a1.1.getD a0.2.2.1.toNat (dflt y82)).1++ByteArray.mk #[32]).size+a0.2.2.2.2.2.1.size<=9223372036854775807/\True)<|lt ((vl (u67 a1 a0),ByteArray.mk #[98,117,102,102,101,114,32]++vl (u67 a1 a0)++ByteArray.mk #[32]++(a1.1.getD a0.2.2.1.toNat (dflt y82)).1++ByteArray.mk #[32]++a0.2.2.2.2.2.1)) fun(_,v3) =>
   some v3
  else
   if(a0.1==3) then
    some (ByteArray.mk #[117,110,98,117,102,102,101,114])
   else
    if(a0.1==4) then
     gd ((u67 a1 a0).isSome/\(ByteArray.mk #[109,111,118,101,32]).size+(vl (u67 a1 a0)).size<=9223372036854775807/\(ByteArray.mk #[109,111,118,101,32]++vl (u67 a1 a0)).size+(ByteArray.mk #[32]).size<=9223372036854775807/\ix a0.2.2.2.1 a1.2.1.2.1.length/\(ByteArray.mk #[109,111,118,101,32]++vl (u67 a1 a0)++ByteArray.mk #[32]).size+ByteArray.size (a1.2.1.2.1.getD a0.2.2.2.1.toNat (dflt Ty.str))<=9223372036854775807/\(ByteArray.mk #[109,111,118,101,32]++vl (u67 a1 a0)++ByteArray.mk #[32]++a1.2.1.2.1.getD a0.2.2.2.1.toNat (dflt Ty.str)).size+(ByteArray.mk #[32]).size<=9223372036854775807/\(u69 a0.2.2.2.2.1).isSome/\(ByteArray.mk #[109,111,118,101,32]++vl (u67 a1 a0)++ByteArray.mk #[32]++a1.2.1.2.1.getD a0.2.2.2.1.toNat (dflt Ty.str)++ByteArray.mk #[32]).size+(vl (u69 a0.2.2.2.2.1)).size<=9223372036854775807/\True)<|lt ((vl (u67 a1 a0),vl (u69 a0.2.2.2.2.1),ByteArray.mk #[109,111,118,101,32]++vl (u67 a1 a0)++ByteArray.mk #[32]++a1.2.1.2.1.getD a0.2.2.2.1.toNat (dflt Ty.str)++ByteArray.mk #[32]++vl (u69 a0.2.2.2.2.1))) fun(_,_,v6) =>
     some v6
    else
     gd (ix a0.2.2.2.1 a1.2.1.2.1.length/\(ByteArray.mk #[119,105,114,101,32]).size+ByteArray.size (a1.2.1.2.1.getD a0.2.2.2.1.toNat (dflt Ty.str))<=9223372036854775807/\(ByteArray.mk #[119,105,114,101,32]++a1.2.1.2.1.getD a0.2.2.2.1.toNat (dflt Ty.str)).size+(ByteArray.mk #[32]).size<=9223372036854775807/\(u55 a0.2.2.2.2.2.2).isSome/\(ByteArray.mk #[119,105,114,101,32]++a1.2.1.2.1.getD a0.2.2.2.1.toNat (dflt Ty.str)++ByteArray.mk #[32]).size+(vl (u55 a0.2.2.2.2.2.2)).size<=9223372036854775807/\True)<|lt ((vl (u55 a0.2.2.2.2.2.2),ByteArray.mk #[119,105,114,101,32]++a1.2.1.2.1.getD a0.2.2.2.1.toNat (dflt Ty.str)++ByteArray.mk #[32]++vl (u55 a0.2.2.2.2.2.2))) fun(_,v8) =>
     some v8
def k37:Ct:=lct 37 [.agg y57,.agg y44] (fun x=>u37 x.1 x.2.1) (fun r:ByteArray=>S r) (fun _=>())
theorem o37:Ok prog k37:=by
 refine okM [.tmp 4] func37 ?_;intro y ⟨a0,a1,_⟩ r H Q hn hr;have:=hz (tc o55 (tc o69 (tc o67 tn)));refine iA [2,3]<|iA [2,3,5]<|vQ<|iA [2,3,5,8]<|vB<|iA [2,3,5,8,9]<|cD H (fun H=>?_) (fun H=>?_)
 ·refine qD (fun(v0,v1)=>Z [p 4 (S v1)] [(3,K 44 y44 a1),(2,K 57 y57 a0)]) H fun⟨v0,v1⟩ H =>
   vTT<|fDD<|fR<|hr H
 refine iA [2,3,5,8,24]<|cD H (fun H=>?_) (fun H=>?_)
 ·refine qD (fun(v2,v3)=>Z [p 4 (S v3)] [(3,K 44 y44 a1),(2,K 57 y57 a0)]) H fun⟨v2,v3⟩ H =>
   vTT<|fDD<|fR<|hr H
 refine iA [2,3,5,8,43]<|cD H (fun H=>iA [4]<|vTT<|fDD<|fR<|hr H) fun H=>iA [2,3,5,45]<|cD H (fun H=>?_) (fun H=>?_)
 ·refine qD (fun(v4,v5,v6)=>Z [p 4 (S v6)] [(3,K 44 y44 a1),(2,K 57 y57 a0)]) H fun⟨v4,v5,v6⟩ H =>
   vTT<|fDD<|fR<|hr H
 refine vK<|fK<|fQ<|qD (fun(v7,v8)=>Z [p 4 (S v8)] [(3,K 44 y44 a1),(2,K 57 y57 a0)]) H fun⟨v7,v8⟩ H =>
  vTT<|hr H
def u131(a0:Y82):Option Bool :=
 some (a0.2.1==1&&(a0.2.2.1.length:Int)==2)
def k131:Ct:=lct 131 [.agg y82] (fun x=>u131 x.1) (fun r:Bool=>B r) (fun _=>())
theorem o131:Ok prog k131:=by
 refine okM [.tmp 2] func131 ?_;intro y ⟨_,_⟩ r H Q hn hr;refine iA [1]<|iA [2]<|vTT<|hr H
def u135(a0:Y44):Option Bool :=
 if((a0.2.1.1.length:Int)==0) then
  some false
 else
  gd (in64 ((a0.2.1.1.length:Int)-1)/\ix ((a0.2.1.1.length:Int)-1) a0.2.1.1.length/\True)<|lt (a0.2.1.1.getD ((a0.2.1.1.length:Int)-1).toNat (dflt y112)) fun v0 =>
  gd ((u117 a0.2.1.2.1).isSome/\in64 (vl (u117 a0.2.1.2.1)-1)/\True)<|lt (vl (u117 a0.2.1.2.1)) fun v1 =>
  gd (ix v0.2.1 a0.1.length/\(u131 (a0.1.getD v0.2.1.toNat (dflt y82))).isSome/\((!vl (u131 (a0.1.getD v0.2.1.toNat (dflt y82))))=false/\True->ix (1:Int) v0.2.2.length)/\((!vl (u131 (a0.1.getD v0.2.1.toNat (dflt y82)))||v0.2.2.getD (Int.toNat (1:Int)) (0:Int) != v1-(1:Int))=false/\True->ix (0:Int) v0.2.2.length)/\((!vl (u131 (a0.1.getD v0.2.1.toNat (dflt y82)))||v0.2.2.getD (Int.toNat (1:Int)) (0:Int) != v1-(1:Int)||v0.2.2.getD (Int.toNat (0:Int)) (0:Int)==v1-(1:Int))=false/\True->ix (v1-(1:Int)) a0.2.1.2.1.length)/\True) <|
  if(!vl (u131 (a0.1.getD v0.2.1.toNat (dflt y82)))||v0.2.2.getD (Int.toNat (1:Int)) (0:Int) != v1-(1:Int)||v0.2.2.getD (Int.toNat (0:Int)) (0:Int)==v1-(1:Int)||!decide (a0.2.1.2.1.getD (v1-(1:Int)).toNat (dflt Ty.str)=v0.1)) then
   some false
  else
   gd (ix (v1-1) a0.2.2.length/\True)<|lt (a0.2.2.getD (v1-1).toNat (dflt y55)) fun v2 =>
   gd ((((v2.2.2.2.length:Int)==1&&(v2.1.length:Int)==1)=true/\True->ix 0 v2.2.2.1.length)/\True) <|
   some ((v2.2.2.2.length:Int)==(1:Int)&&(v2.1.length:Int)==(1:Int)&&v2.2.2.1.getD (Int.toNat (0:Int)) (0:Int)==(0:Int))
def k135:Ct:=lct 135 [.agg y44] (fun x=>u135 x.1) (fun r:Bool=>B r) (fun _=>())
theorem o135:Ok prog k135:=by
 refine okM [.tmp 2] func135 ?_;intro y ⟨a0,_⟩ r H Q hn hr;have:=hz (tc o131 (tc o117 tn));refine iA [1]<|iA [1,3]<|vQ<|iA [1,3,12]<|cD H (fun H=>iA [2]<|vTT<|fR<|hr H) fun H=>vK<|fQ<|qD (fun v0=>Z [p 1 (R 1),p 3 (R 3),p 4 (R 4)] [(4,K 112 y112 v0),(3,K 41 y41 a0.2.1),(1,K 44 y44 a0)]) H fun v0 H=>iD o117 [1,3,4,5] H fun _ H=>vQ<|iB [1,5,59] H fun H=>cD H (fun H=>iA [2]<|vTT<|fR<|hr H) fun H=>vK<|fQ<|qD (fun v2=>Z [p 6 (R 6)] [(6,K 55 y55 v2),(4,K 112 y112 v0),(3,K 41 y41 a0.2.1),(1,K 44 y44 a0)]) H fun v2 H=>iB [2] H fun H=>vTT<|hr H
def u134(a0:Y41)(a1:ByteArray):Option Int :=
 gd ((u160 a0.2.1 a1).isSome/\True)<|lt (vl (u160 a0.2.1 a1)) fun v0 =>
 some v0
def k134:Ct:=lct 134 [.agg y41,.dat Ty.str] (fun x=>u134 x.1 x.2.1) (fun r:Int=>I r) (fun _=>())
theorem o134:Ok prog k134:=by
 refine okM [.tmp 4] func134 ?_;intro y ⟨_,_,_⟩ r H Q hn hr;have:=hz (tc o160 tn);refine iA [1,2]<|iD o160 [4] H fun _ H=>vTT<|hr H
def u159(a0:Y112)(a1:ByteArray):Option Bool :=
 some (decide (a0.1=a1))
def k159:Ct:=lct 159 [.agg y112,.dat (.pt Ty.str)] (fun x=>u159 x.1 x.2.1) (fun r:Bool=>B r) (fun _=>())
theorem o159:Ok prog k159:=by
 refine okM [.tmp 3] func159 ?_;intro y ⟨_,_,_⟩ r H Q hn hr;refine iA [1,2]<|iA [3]<|vTT<|hr H
def u158c159J0:Unit->Option Int
 | _ =>
 some (-1)
def u158c159L1(a0:List Y112)(a1:ByteArray)(g1:Int->Option Int):Int->Option Int
 | v0 =>
 if(decide (v0 < (a0.length:Int))) then
  gd (ix v0 a0.length/\(u159 (a0.getD v0.toNat (dflt y112)) a1).isSome/\True) <|
  if(vl (u159 (a0.getD v0.toNat (dflt y112)) a1)) then
   some v0
  else
   gd (in64 (v0+1)/\True) <|
   g1 (v0+1)
 else
  u158c159J0 ()
def u158c159(a0:List Y112)(a1:ByteArray):Option Int :=
 lp (u158c159L1 a0 a1) 0
def k158c159:Ct:=lct 158 [.dat y112.sl,.fn 159 (.pt Ty.str)] (fun x=>u158c159 x.1 x.2.1) (fun r:Int=>I r) (fun _=>())
theorem o158c159:Ok prog k158c159:=by
 refine okM [.tmp 4] func158 ?_;intro y ⟨a0,a1,_⟩ r H Q hn hr;have:=hz (tc o159 tn);refine iA [0,1]<|jN r (fun(_:Unit)=>Z [] []) (u158c159J0) (fun _ H=>?_) (fun _ n0 e0 t0=>?_)
 ·refine iA [4]<|vTT<|hr H
 refine iA [0,1,7,8]<|vB<|lX (fun(v0:Int)=>Z [p 0 (L y112 a0),p 1 (AV.fn 159 [D Ty.str.pt a1]),p 7 (I (a0.length:Int)),p 8 (I v0)] []) 0 H fun _ g1 b1 e1 t1 v0 H=>iA [0,1,7,8,9]<|vQ<|cD H (fun H=>?_) (fun H=>?_)
 ·refine vK<|fQ<|vQ<|vB<|iA [0,1,5,7,8]<|iB [0,1,5,7,8,16] H fun H=>cD H (fun H=>iA [4]<|vTT<|fDD<|fR<|t1<|fDD<|t0<|hr H) fun H=>vK<|fK<|fQ<|jB [0,1,7,8] H fun H=>b1 H
 exact vE<|fE<|e1<|fX rfl<|n0 H
def u133(a0:Y41)(a1:ByteArray):Option Int :=
 gd ((u158c159 a0.1 a1).isSome/\True)<|lt (vl (u158c159 a0.1 a1)) fun v0 =>
 some v0
def k133:Ct:=lct 133 [.agg y41,.dat Ty.str] (fun x=>u133 x.1 x.2.1) (fun r:Int=>I r) (fun _=>())
theorem o133:Ok prog k133:=by
 refine okM [.tmp 4] func133 ?_;intro y ⟨_,_,_⟩ r H Q hn hr;have:=hz (tc o158c159 (tc o159 tn));refine iA [2,3]<|iD o158c159 [4] H fun _ H=>vTT<|hr H
def u155(a0:Y116)(a1:Y116):Option Bool :=
 some (a0.2.2.2==a1.2.2.2)
def k155:Ct:=lct 155 [.agg y116,.agg y116] (fun x=>u155 x.1 x.2.1) (fun r:Bool=>B r) (fun _=>())
theorem o155:Ok prog k155:=by
 refine okM [.tmp 4] func155 ?_;intro y ⟨_,_,_⟩ r H Q hn hr;refine iA [2,3]<|iA [4]<|vTT<|hr H
def u154c155J0:Unit->Option Bool
 | _ =>
 some true
def u154c155L1(a1:List Y116)(a0:List Y116)(g1:Int->Option Bool):Int->Option Bool
 | v2 =>
 if(decide (v2 < (a0.length:Int))) then
  gd (ix v2 a0.length/\True)<|lt (a0.getD v2.toNat (dflt y116)) fun v3 =>
  gd (ix v2 a1.length/\True)<|lt (a1.getD v2.toNat (dflt y116)) fun v4 =>
  gd ((u155 v3 v4).isSome/\True) <|
  if(!vl (u155 v3 v4)) then
   some false
  else
   gd (in64 (v2+1)/\True) <|
   g1 (v2+1)
 else
  u154c155J0 ()
def u154c155(a0:List Y116)(a1:List Y116):Option Bool :=
 if((a0.length:Int) != (a1.length:Int)) then
  some false
 else
  lp (u154c155L1 a1 a0) 0
def k154c155:Ct:=lct 154 [.dat y116.sl,.dat y116.sl,.nof 155] (fun x=>u154c155 x.1 x.2.1) (fun r:Bool=>B r) (fun _=>())
theorem o154c155:Ok prog k154c155:=by
 refine okM [.tmp 6] func154 ?_;intro y ⟨a0,a1,_,_⟩ r H Q hn hr;have:=hz (tc o155 tn);refine iA [0,1,2]<|vQ<|iA [0,1,2,14]<|cD H (fun H=>iA [6]<|vTT<|fR<|hr H) fun H=>vK<|fQ<|jN r (fun(_:Unit)=>Z [] []) (u154c155J0) (fun _ H=>?_) (fun _ n0 e0 t0=>?_)
 ·refine iA [6]<|vTT<|hr H
 refine iA [1,2,15,16,17]<|vB<|lX (fun(v2:Int)=>Z [p 1 (L y116 a1),p 2 (AV.fn 155 []),p 15 (L y116 a0),p 16 (I (a0.length:Int)),p 17 (I v2)] []) 0 H fun _ g1 b1 e1 t1 v2 H=>iA [1,2,15,16,17,18]<|vQ<|cD H (fun H=>?_) (fun H=>?_)
 ·refine vK<|fQ<|vQ<|vB<|qD (fun v3=>Z [p 1 (L y116 a1),p 2 (AV.fn 155 []),p 7 (I v2),p 8 (R 8),p 15 (L y116 a0),p 16 (I (a0.length:Int)),p 17 (I v2)] [(8,K 116 y116 v3)]) H fun v3 H=>qD (fun v4=>Z [p 1 (L y116 a1),p 2 (AV.fn 155 []),p 8 (R 8),p 9 (R 9),p 15 (L y116 a0),p 16 (I (a0.length:Int)),p 17 (I v2)] [(9,K 116 y116 v4),(8,K 116 y116 v3)]) H fun v4 H=>iB [1,2,15,16,17,30] H fun H=>cD H (fun H=>iA [6]<|vTT<|fDD<|fR<|t1<|fDD<|t0<|hr H) fun H=>vK<|fK<|fQ<|jB [1,2,15,16,17] H fun H=>b1 H
 exact vE<|fE<|e1<|fX rfl<|n0 H
def u130(a0:Y82)(a1:Y82):Option Bool :=
 gd (((a0.2.1==a1.2.1)=true/\True->(u154c155 a0.2.2.1 a1.2.2.1).isSome)/\True) <|
 some (a0.2.1==a1.2.1&&vl (u154c155 a0.2.2.1 a1.2.2.1))
def k130:Ct:=lct 130 [.agg y82,.agg y82] (fun x=>u130 x.1 x.2.1) (fun r:Bool=>B r) (fun _=>())
theorem o130:Ok prog k130:=by
 refine okM [.tmp 4] func130 ?_;intro y ⟨_,_,_⟩ r H Q hn hr;have:=hz (tc o155 (tc o154c155 tn));refine iA [2,3]<|iB [4] H fun H=>vTT<|hr H
def u105(a0:Y57)(a1:Y44):Option Bool :=
 gd ((u52 a1.2.1).isSome/\True)<|lt (vl (u52 a1.2.1)) fun v0 =>
 if(a0.1==1) then
  gd (ix a0.2.1 v0.length/\a0.2.1.toNat<v0.length/\True)<|lt (v0.getD a0.2.1.toNat (dflt y102)) fun v1 =>
  gd (((decide (0<=v1.1)&&v1.2.2.2)=true/\True->ix v1.1 a1.2.1.1.length)/\((decide (0<=v1.1)&&v1.2.2.2)=true/\True->ix (a1.2.1.1.getD v1.1.toNat (dflt y112)).2.1 a1.1.length)/\((decide (0<=v1.1)&&v1.2.2.2)=true/\True->ix a0.2.2.1 a1.1.length)/\((decide (0<=v1.1)&&v1.2.2.2)=true/\True->(u130 (a1.1.getD (a1.2.1.1.getD v1.1.toNat (dflt y112)).2.1.toNat (dflt y82)) (a1.1.getD a0.2.2.1.toNat (dflt y82))).isSome)/\True) <|
  some (decide (0<=v1.1)&&v1.2.2.2&&vl (u130 (a1.1.getD (a1.2.1.1.getD v1.1.toNat (dflt y112)).2.1.toNat (dflt y82)) (a1.1.getD a0.2.2.1.toNat (dflt y82))))
 else
  if(a0.1==2) then
   gd (ix a0.2.1 v0.length/\a0.2.1.toNat<v0.length/\((!(v0.getD a0.2.1.toNat (dflt y102)).2.2.2)=true/\True->ix a0.2.2.1 a1.1.length)/\((!(v0.getD a0.2.1.toNat (dflt y102)).2.2.2)=true/\True->(u131 (a1.1.getD a0.2.2.1.toNat (dflt y82))).isSome)/\((!(v0.getD a0.2.1.toNat (dflt y102)).2.2.2&&vl (u131 (a1.1.getD a0.2.2.1.toNat (dflt y82))))=true/\True->(u132 a0.2.2.2.2.2.1).isSome)/\((!(v0.getD a0.2.1.toNat (dflt y102)).2.2.2&&vl (u131 (a1.1.getD a0.2.2.1.toNat (dflt y82)))&&vl (u132 a0.2.2.2.2.2.1))=true/\True->(u133 a1.2.1 a0.2.2.2.2.2.1).isSome)/\((!(v0.getD a0.2.1.toNat (dflt y102)).2.2.2&&vl (u131 (a1.1.getD a0.2.2.1.toNat (dflt y82)))&&vl (u132 a0.2.2.2.2.2.1)&&decide (vl (u133 a1.2.1 a0.2.2.2.2.2.1)<0))=true/\True->(u134 a1.2.1 a0.2.2.2.2.2.1).isSome)/\True)<|lt ((vl (u133 a1.2.1 a0.2.2.2.2.2.1),vl (u134 a1.2.1 a0.2.2.2.2.2.1))) fun(v2,v3) =>
   some (!(v0.getD a0.2.1.toNat (dflt y102)).2.2.2&&vl (u131 (a1.1.getD a0.2.2.1.toNat (dflt y82)))&&vl (u132 a0.2.2.2.2.2.1)&&decide (v2<0)&&decide (v3<0))
  else
   if(a0.1==3) then
    gd ((u135 a1).isSome/\True) <|
    some (vl (u135 a1))
   else
    if(a0.1==4) then
     gd (ix a0.2.1 v0.length/\a0.2.1.toNat<v0.length/\((!(v0.getD a0.2.1.toNat (dflt y102)).2.2.2)=true/\True->ix a0.2.1 v0.length)/\((!(v0.getD a0.2.1.toNat (dflt y102)).2.2.2)=true/\True->a0.2.1.toNat<v0.length)/\True) <|
     some (!(v0.getD a0.2.1.toNat (dflt y102)).2.2.2&&(v0.getD a0.2.1.toNat (dflt y102)).2.2.1 != a0.2.2.2.1)
    else
     gd (ix a0.2.2.2.1 a1.2.2.length/\(u88 (a1.2.2.getD a0.2.2.2.1.toNat (dflt y55)).2.2.2).isSome/\(u53 a0.2.2.2.2.2.2 (vl (u88 (a1.2.2.getD a0.2.2.2.1.toNat (dflt y55)).2.2.2))).isSome/\True) <|
     some (vl (u53 a0.2.2.2.2.2.2 (vl (u88 (a1.2.2.getD a0.2.2.2.1.toNat (dflt y55)).2.2.2))))
def k105:Ct:=lct 105 [.agg y57,.agg y44] (fun x=>u105 x.1 x.2.1) (fun r:Bool=>B r) (fun _=>())
theorem o105:Ok prog k105:=by
 refine okM [.tmp 4] func105 ?_;intro y ⟨a0,a1,_⟩ r H Q hn hr;have:=hz (tc o53 (tc o88 (tc o135 (tc o134 (tc o133 (tc o132 (tc o131 (tc o130 (tc o52 tn)))))))));refine iA [2,3]<|iA [2,3,5]<|iD o52 [2,3,5,6] H fun v0 H=>vQ<|iA [2,3,5,6,13]<|vB<|iA [2,3,5,6,13,14]<|cD H (fun H=>qD (fun v1=>Z (G0 [p 5 (R 5),p 7 (R 7)]) [(7,bx 102 (cellsD true y102 v1)),(11,A 102 y102 v0 0),(5,K 41 y41 a1.2.1),(3,K 44 y44 a1),(2,K 57 y57 a0)]) H fun v1 H=>iB [4] H fun H=>vTT<|fDD<|fR<|hr H) fun H=>iA [2,3,5,6,13,50]<|cD H (fun H=>?_) (fun H=>?_)
 ·refine qD (fun(v2,v3)=>Z [p 4 (B (!(v0.getD a0.2.1.toNat (dflt y102)).2.2.2&&vl (u131 (a1.1.getD a0.2.2.1.toNat (dflt y82)))&&vl (u132 a0.2.2.2.2.2.1)&&decide (v2<0)&&decide (v3<0)))] [(11,A 102 y102 v0 0),(5,K 41 y41 a1.2.1),(3,K 44 y44 a1),(2,K 57 y57 a0)]) H fun⟨v2,v3⟩ H =>
   vTT<|fDD<|fR<|hr H
 refine iA [2,3,6,13,88]<|cD H (fun H=>iB [4] H fun H=>vTT<|fDD<|fR<|hr H) fun H=>iA [2,3,6,92]<|cD H (fun H=>iB [4] H fun H=>vTT<|fDD<|fR<|hr H) fun H=>vK<|fK<|fQ<|iB [4] H fun H=>vTT<|hr H
def u129(a0:List Y102):Option Int :=
 some (a0.length:Int)
def k129:Ct:=lct 129 [.dat y102.sl] (fun x=>u129 x.1) (fun r:Int=>I r) (fun _=>())
theorem o129:Ok prog k129:=by
 refine okM [.tmp 2] func129 ?_;intro y ⟨_,_⟩ r H Q hn hr;refine iA [0]<|iA [2]<|vTT<|hr H
def u177J0:Unit->Option Bool
 | _ =>
 some true
def u177L1(a0:List Int)(a1:List Int)(g1:Int->Option Bool):Int->Option Bool
 | v0 =>
 if(decide (v0 < (a0.length:Int))) then
  gd (ix v0 a0.length/\ix v0 a1.length/\True) <|
  if(a0.getD v0.toNat 0 != a1.getD v0.toNat 0) then
   some false
  else
   gd (in64 (v0+1)/\True) <|
   g1 (v0+1)
 else
  u177J0 ()
def u177(a0:List Int)(a1:List Int):Option Bool :=
 if((a0.length:Int) != (a1.length:Int)) then
  some false
 else
  lp (u177L1 a0 a1) 0
def k177:Ct:=lct 177 [.dat i64.sl,.dat i64.sl] (fun x=>u177 x.1 x.2.1) (fun r:Bool=>B r) (fun _=>())
theorem o177:Ok prog k177:=by
 refine okM [.tmp 4] func177 ?_;intro y ⟨a0,a1,_⟩ r H Q hn hr;refine iA [0,1]<|vQ<|iA [0,1,10]<|cD H (fun H=>iA [4]<|vTT<|fR<|hr H) fun H=>vK<|fQ<|jN r (fun(_:Unit)=>Z [] []) (u177J0) (fun _ H=>?_) (fun _ n0 e0 t0=>?_)
 ·refine iA [4]<|vTT<|hr H
 refine iA [0,1,12,13]<|vB<|lX (fun(v0:Int)=>Z [p 0 (L i64 a0),p 1 (L i64 a1),p 12 (I (a0.length:Int)),p 13 (I v0)] []) 0 H fun _ g1 b1 e1 t1 v0 H=>iA [0,1,12,13,14]<|vQ<|cD H (fun H=>?_) (fun H=>?_)
 ·refine vK<|fQ<|vQ<|vB<|iA [0,1,5,12,13]<|iB [0,1,12,13,24] H fun H=>cD H (fun H=>iA [4]<|vTT<|fDD<|fR<|t1<|fDD<|t0<|hr H) fun H=>vK<|fK<|fQ<|jB [0,1,12,13] H fun H=>b1 H
 exact vE<|fE<|e1<|fX rfl<|n0 H
def u153(a0:Y55)(a1:Y55):Option Bool :=
 gd ((u177 a0.1 a1.1).isSome/\(vl (u177 a0.1 a1.1)=true/\True->(u177 a0.2.1 a1.2.1).isSome)/\((vl (u177 a0.1 a1.1)&&vl (u177 a0.2.1 a1.2.1))=true/\True->(u177 a0.2.2.1 a1.2.2.1).isSome)/\((vl (u177 a0.1 a1.1)&&vl (u177 a0.2.1 a1.2.1)&&vl (u177 a0.2.2.1 a1.2.2.1))=true/\True->(u177 a0.2.2.2 a1.2.2.2).isSome)/\True) <|
 some (vl (u177 a0.1 a1.1)&&vl (u177 a0.2.1 a1.2.1)&&vl (u177 a0.2.2.1 a1.2.2.1)&&vl (u177 a0.2.2.2 a1.2.2.2))
def k153:Ct:=lct 153 [.agg y55,.agg y55] (fun x=>u153 x.1 x.2.1) (fun r:Bool=>B r) (fun _=>())
theorem o153:Ok prog k153:=by
 refine okM [.tmp 4] func153 ?_;intro y ⟨_,_,_⟩ r H Q hn hr;have:=hz (tc o177 tn);refine iA [2,3]<|iB [4] H fun H=>vTT<|hr H
def u127(a0:Y57)(a1:Y57):Option Bool :=
 gd (((a0.1==a1.1&&a0.2.1==a1.2.1&&a0.2.2.1==a1.2.2.1&&a0.2.2.2.1==a1.2.2.2.1&&a0.2.2.2.2.1==a1.2.2.2.2.1&&decide (a0.2.2.2.2.2.1=a1.2.2.2.2.2.1))=true/\True->(u153 a0.2.2.2.2.2.2 a1.2.2.2.2.2.2).isSome)/\True)<|lt (a0.1==a1.1&&a0.2.1==a1.2.1&&a0.2.2.1==a1.2.2.1&&a0.2.2.2.1==a1.2.2.2.1&&a0.2.2.2.2.1==a1.2.2.2.2.1&&decide (a0.2.2.2.2.2.1=a1.2.2.2.2.2.1)&&vl (u153 a0.2.2.2.2.2.2 a1.2.2.2.2.2.2)) fun v0 =>
 some v0
def k127:Ct:=lct 127 [.agg y57,.agg y57] (fun x=>u127 x.1 x.2.1) (fun r:Bool=>B r) (fun _=>())
theorem o127:Ok prog k127:=by
 refine okM [.tmp 4] func127 ?_;intro y ⟨a0,a1,_⟩ r H Q hn hr;have:=hz (tc o153 tn);refine iA [2,3]<|qD (fun v0=>Z [p 4 (B v0)] [(3,K 57 y57 a1),(2,K 57 y57 a0)]) H fun v0 H=>vTT<|hr H
def u128(a0:Y57):Option Y57 :=
 if(a0.1==1) then
  some ((a0.1,a0.2.1,a0.2.2.1,(0:Int),(0:Int),ByteArray.mk #[],[],[],[],[]))
 else
  if(a0.1==2) then
   some ((a0.1,a0.2.1,a0.2.2.1,(0:Int),(0:Int),a0.2.2.2.2.2.1,[],[],[],[]))
  else
   if(a0.1==4) then
    some ((a0.1,a0.2.1,(0:Int),a0.2.2.2.1,a0.2.2.2.2.1,ByteArray.mk #[],[],[],[],[]))
   else
    if(a0.1==5) then
     some ((a0.1,(0:Int),(0:Int),a0.2.2.2.1,(0:Int),ByteArray.mk #[],a0.2.2.2.2.2.2))
    else
     some ((a0.1,(0:Int),(0:Int),(0:Int),(0:Int),ByteArray.mk #[],[],[],[],[]))
def k128:Ct:=lct 128 [.agg y57] (fun x=>u128 x.1) (fun r:Y57=>AV.agg [I r.1,I r.2.1,I r.2.2.1,I r.2.2.2.1,I r.2.2.2.2.1,S r.2.2.2.2.2.1,L i64 r.2.2.2.2.2.2.1,L i64 r.2.2.2.2.2.2.2.1,L i64 r.2.2.2.2.2.2.2.2.1,L i64 r.2.2.2.2.2.2.2.2.2]) (fun _=>())
theorem o128:Ok prog k128:=by
 refine okM [.cell 2 57] func128 ?_;intro y ⟨_,_⟩ r H Q hn hr;refine iA [1,2]<|vQ<|iA [1,2,4]<|vB<|iA [1,2,4,5]<|cD H (fun H=>iA [2]<|vTT<|fDD<|fR<|hr H) fun H=>iA [1,2,4,14]<|cD H (fun H=>iA [2]<|vTT<|fDD<|fR<|hr H) fun H=>iA [1,2,4,25]<|cD H (fun H=>iA [2]<|vTT<|fDD<|fR<|hr H) fun H=>iA [1,2,36]<|cD H (fun H=>iA [2]<|vTT<|fDD<|fR<|hr H) fun H=>vK<|fK<|fQ<|iA [2]<|vTT<|hr H
def u104J0(a0:Y57)(v0:List Y102)(a1:Y44):Bool->Option Bool
 | v1 =>
 if v1 then
  gd ((vl (u89 a0.2.1 0 (vl (u129 v0)-1))=true/\True->(u114 a1.1).isSome)/\(vl (u89 a0.2.1 0 (vl (u129 v0)-1))=true/\True->in64 (vl (u114 a1.1)-1))/\(vl (u89 a0.2.1 0 (vl (u129 v0)-1))=true/\True->(u89 a0.2.2.1 0 (vl (u114 a1.1)-1)).isSome)/\True) <|
  some (vl (u89 a0.2.1 0 (vl (u129 v0)-1))&&vl (u89 a0.2.2.1 0 (vl (u114 a1.1)-1)))
 else
  if(a0.1==4) then
   gd ((vl (u89 a0.2.1 0 (vl (u129 v0)-1))=true/\True->(u85 a1.2.1 a0.2.2.2.1).isSome)/\((vl (u89 a0.2.1 0 (vl (u129 v0)-1))&&vl (u85 a1.2.1 a0.2.2.2.1))=true/\True->ix a0.2.2.2.1 a1.2.2.length)/\((vl (u89 a0.2.1 0 (vl (u129 v0)-1))&&vl (u85 a1.2.1 a0.2.2.2.1))=true/\True->(u88 (a1.2.2.getD a0.2.2.2.1.toNat (dflt y55)).1).isSome)/\((vl (u89 a0.2.1 0 (vl (u129 v0)-1))&&vl (u85 a1.2.1 a0.2.2.2.1))=true/\True->in64 (vl (u88 (a1.2.2.getD a0.2.2.2.1.toNat (dflt y55)).1)-1))/\((vl (u89 a0.2.1 0 (vl (u129 v0)-1))&&vl (u85 a1.2.1 a0.2.2.2.1))=true/\True->(u89 a0.2.2.2.2.1 0 (vl (u88 (a1.2.2.getD a0.2.2.2.1.toNat (dflt y55)).1)-1)).isSome)/\True) <|
   some (vl (u89 a0.2.1 0 (vl (u129 v0)-1))&&vl (u85 a1.2.1 a0.2.2.2.1)&&vl (u89 a0.2.2.2.2.1 0 (vl (u88 (a1.2.2.getD a0.2.2.2.1.toNat (dflt y55)).1)-1)))
  else
   if(a0.1==5) then
    gd ((u85 a1.2.1 a0.2.2.2.1).isSome/\True) <|
    some (vl (u85 a1.2.1 a0.2.2.2.1))
   else
    some true
def u104(a0:Y57)(a1:Y44):Option Bool :=
 gd ((u89 a0.1 1 5).isSome/\((!vl (u89 a0.1 1 5))=false/\True->(u128 a0).isSome)/\((!vl (u89 a0.1 1 5))=false/\True->(u127 a0 (vl (u128 a0))).isSome)/\True) <|
 if(!vl (u89 a0.1 1 5)||!vl (u127 a0 (vl (u128 a0)))) then
  some false
 else
  gd ((u52 a1.2.1).isSome/\(u129 (vl (u52 a1.2.1))).isSome/\in64 (vl (u129 (vl (u52 a1.2.1)))-1)/\(u89 a0.2.1 0 (vl (u129 (vl (u52 a1.2.1)))-1)).isSome/\True)<|lt (vl (u52 a1.2.1)) fun v0 =>
  if(a0.1==1) then
   u104J0 a0 v0 a1 (a0.1==1)
  else
   u104J0 a0 v0 a1 (a0.1==2)
def k104:Ct:=lct 104 [.agg y57,.agg y44] (fun x=>u104 x.1 x.2.1) (fun r:Bool=>B r) (fun _=>())
theorem o104:Ok prog k104:=by
 refine okM [.tmp 4] func104 ?_;intro y ⟨a0,a1,_⟩ r H Q hn hr;have:=hz (tc o85 (tc o89 (tc o88 (tc o114 (tc o129 (tc o52 (tc o127 (tc o128 tn))))))));refine iA [2,3]<|vQ<|iB [2,3,16] H fun H=>cD H (fun H=>iA [4]<|vTT<|fR<|hr H) fun H=>vK<|fQ<|iD o52 [2,3,5] H fun v0 H=>vQ<|iA [2,3,5,26]<|vB<|jN r (fun(v1:Bool)=>Z (G0 [p 5 (B (vl (u89 a0.2.1 0 (vl (u129 v0)-1)))),p 26 (J a0.1),p 27 (B v1)]) [(3,K 44 y44 a1),(2,K 57 y57 a0)]) (u104J0 a0 v0 a1) (fun v1 H=>?_) (fun _ n0 e0 t0=>?_)
 ·refine cD H (fun H=>iB [4] H fun H=>vTT<|fDD<|fR<|hr H) fun H=>iA [2,3,5,26,41]<|cD H (fun H=>iB [4] H fun H=>vTT<|fDD<|fR<|hr H) fun H=>iA [2,3,65]<|cD H (fun H=>iB [4] H fun H=>vTT<|fDD<|fR<|hr H) fun H=>vK<|fK<|fQ<|iA [4]<|vTT<|hr H
 refine iA [2,3,5,26,27]<|cD H (fun H=>vK<|n0 H) fun H=>jA [2,3,5,26,27]<|n0 H
def u66(a0:Y57)(a1:Y44):Option Int :=
 gd ((u104 a0 a1).isSome/\True) <|
 if(!vl (u104 a0 a1)) then
  some 2
 else
  gd ((u105 a0 a1).isSome/\True) <|
  if(!vl (u105 a0 a1)) then
   some 5
  else
   if(a0.1==2&&((a1.2.1.1.length:Int)==14||(a1.2.1.2.1.length:Int)==30)) then
    some 3
   else
    some 0
def k66:Ct:=lct 66 [.agg y57,.agg y44] (fun x=>u66 x.1 x.2.1) (fun r:Int=>I r) (fun _=>())
theorem o66:Ok prog k66:=by
 refine okM [.tmp 4] func66 ?_;intro y ⟨_,_,_⟩ r H Q hn hr;have:=hz (tc o105 (tc o104 tn));refine iA [2,3]<|vQ<|vB<|iB [2,3,5] H fun H=>cD H (fun H=>iA [4]<|vTT<|fDD<|fR<|hr H) fun H=>iB [2,3,10] H fun H=>cD H (fun H=>iA [4]<|vTT<|fDD<|fR<|hr H) fun H=>iA [15]<|cD H (fun H=>iA [4]<|vTT<|fDD<|fR<|hr H) fun H=>vK<|fK<|fQ<|iA [4]<|vTT<|hr H
def u36(a0:Y44)(a1:Y57):Option Int :=
 gd ((u23 a0).isSome/\True) <|
 if(!vl (u23 a0)) then
  some 1
 else
  gd ((u66 a1 a0).isSome/\True)<|lt (vl (u66 a1 a0)) fun v0 =>
  some v0
def k36:Ct:=lct 36 [.agg y44,.agg y57] (fun x=>u36 x.1 x.2.1) (fun r:Int=>I r) (fun _=>())
theorem o36:Ok prog k36:=by
 refine okM [.tmp 4] func36 ?_;intro y ⟨_,_,_⟩ r H Q hn hr;have:=hz (tc o66 (tc o23 tn));refine iA [2,3]<|vQ<|iB [2,3,7] H fun H=>cD H (fun H=>iA [4]<|vTT<|fR<|hr H) fun H=>vK<|fQ<|iD o66 [4] H fun _ H=>vTT<|hr H
def u13(a0:Y44)(a1:Y57):Option ByteArray :=
 gd ((u36 a0 a1).isSome/\True)<|lt (vl (u36 a0 a1)) fun v0 =>
 if(v0 != 0) then
  some (ByteArray.mk #[])
 else
  gd ((u37 a1 a0).isSome/\True)<|lt (vl (u37 a1 a0)) fun v1 =>
  some v1
def k13:Ct:=lct 13 [.agg y44,.agg y57] (fun x=>u13 x.1 x.2.1) (fun r:ByteArray=>S r) (fun _=>())
theorem o13:Ok prog k13:=by
 refine okM [.tmp 4] func13 ?_;intro y ⟨_,_,_⟩ r H Q hn hr;have:=hz (tc o37 (tc o36 tn));refine iA [2,3]<|vQ<|iD o36 [2,3,8] H fun _ H=>cD H (fun H=>iA [4]<|vTT<|fR<|hr H) fun H=>vK<|fQ<|iD o37 [4] H fun _ H=>vTT<|hr H
def u32(a0:List Y82)(a1:Y41)(a2:Y78):Option ByteArray :=
 if(decide (a2.1<0)) then
  gd (ix a2.2.1 a1.2.2.length/\True)<|lt (a1.2.2.getD a2.2.1.toNat (dflt y114)) fun v0 =>
  some v0.1
 else
  gd (ix a2.1 a1.1.length/\True)<|lt (a1.1.getD a2.1.toNat (dflt y112)) fun v1 =>
  gd (v1.1.size+(ByteArray.mk #[47]).size<=9223372036854775807/\ix v1.2.1 a0.length/\ix a2.2.1 (a0.getD v1.2.1.toNat (dflt y82)).2.2.1.length/\(v1.1++ByteArray.mk #[47]).size+((a0.getD v1.2.1.toNat (dflt y82)).2.2.1.getD a2.2.1.toNat (dflt y116)).1.size<=9223372036854775807/\True)<|lt (v1.1++ByteArray.mk #[47]++((a0.getD v1.2.1.toNat (dflt y82)).2.2.1.getD a2.2.1.toNat (dflt y116)).1) fun v2 =>
  some v2
def k32:Ct:=lct 32 [.agg y82.sl,.agg y41,.agg y78] (fun x=>u32 x.1 x.2.1 x.2.2.1) (fun r:ByteArray=>S r) (fun _=>())
theorem o32:Ok prog k32:=by
 refine okM [.tmp 6] func32 ?_;intro y ⟨a0,a1,a2,_⟩ r H Q hn hr;refine iA [3,4,5]<|vQ<|iA [3,4,5,10]<|cD H (fun H=>qD (fun v0=>Z [p 6 (U v0.1)] [(5,K 78 y78 a2),(4,K 41 y41 a1),(3,bx 37 [L y82 a0])]) H fun v0 H=>vTT<|fR<|hr H) fun H=>vK<|fQ<|qD (fun v1=>Z [p 3 (R 3),p 5 (R 5),p 7 (R 7)] [(7,K 112 y112 v1),(5,K 78 y78 a2),(4,K 41 y41 a1),(3,bx 37 [L y82 a0])]) H fun v1 H=>qD (fun v2=>Z [p 6 (S v2)] [(7,K 112 y112 v1),(5,K 78 y78 a2),(4,K 41 y41 a1),(3,bx 37 [L y82 a0])]) H fun v2 H=>vTT<|hr H
def u126(a0:Y55):Option Bool :=
 gd ((((a0.1.length:Int)==1)=true/\True->ix 0 a0.2.2.1.length)/\True) <|
 some ((a0.1.length:Int)==(1:Int)&&a0.2.2.1.getD (Int.toNat (0:Int)) (0:Int)==(0:Int))
def k126:Ct:=lct 126 [.agg y55] (fun x=>u126 x.1) (fun r:Bool=>B r) (fun _=>())
theorem o126:Ok prog k126:=by
 refine okM [.tmp 2] func126 ?_;intro y ⟨_,_⟩ r H Q hn hr;refine iA [1]<|iB [2] H fun H=>vTT<|hr H
def u99(a0:Y82):Option Bool :=
 some (a0.2.1==1&&(a0.2.2.1.length:Int)==2)
def k99:Ct:=lct 99 [.agg y82] (fun x=>u99 x.1) (fun r:Bool=>B r) (fun _=>())
theorem o99:Ok prog k99:=by
 refine okM [.tmp 2] func99 ?_;intro y ⟨_,_⟩ r H Q hn hr;refine iA [1]<|iA [2]<|vTT<|hr H
def u103(a0:Y44):Option Bool :=
 gd (in64 ((a0.2.1.1.length:Int)-1)/\True) <|
 gd (in64 ((a0.2.2.length:Int)-1)/\True) <|
 if(decide ((a0.2.1.1.length:Int)-1<0)) then
  some false
 else
  gd (ix ((a0.2.1.1.length:Int)-1) a0.2.1.1.length/\True)<|lt (a0.2.1.1.getD ((a0.2.1.1.length:Int)-1).toNat (dflt y112)) fun v0 =>
  gd (ix v0.2.1 a0.1.length/\(u99 (a0.1.getD v0.2.1.toNat (dflt y82))).isSome/\((!vl (u99 (a0.1.getD v0.2.1.toNat (dflt y82))))=false/\True->ix (1:Int) v0.2.2.length)/\((!vl (u99 (a0.1.getD v0.2.1.toNat (dflt y82)))||v0.2.2.getD (Int.toNat (1:Int)) (0:Int) != (a0.2.2.length:Int)-(1:Int))=false/\True->ix ((a0.2.2.length:Int)-(1:Int)) a0.2.1.2.1.length)/\((!vl (u99 (a0.1.getD v0.2.1.toNat (dflt y82)))||v0.2.2.getD (Int.toNat (1:Int)) (0:Int) != (a0.2.2.length:Int)-(1:Int)||!decide (a0.2.1.2.1.getD ((a0.2.2.length:Int)-(1:Int)).toNat (dflt Ty.str)=v0.1))=false/\True->ix (0:Int) v0.2.2.length)/\True)<|lt (!vl (u99 (a0.1.getD v0.2.1.toNat (dflt y82)))||v0.2.2.getD (Int.toNat (1:Int)) (0:Int) != (a0.2.2.length:Int)-(1:Int)||!decide (a0.2.1.2.1.getD ((a0.2.2.length:Int)-(1:Int)).toNat (dflt Ty.str)=v0.1)||v0.2.2.getD (Int.toNat (0:Int)) (0:Int)==(a0.2.2.length:Int)-(1:Int)) fun v1 =>
  if v1 then
   some false
  else
   gd ((u45 a0.2.1 ((a0.2.2.length:Int)-1)).isSome/\(((↑(vl (u45 a0.2.1 ((a0.2.2.length:Int)-1))).length:Int)==1)=true/\True->ix ((a0.2.2.length:Int)-1) a0.2.2.length)/\(((↑(vl (u45 a0.2.1 ((a0.2.2.length:Int)-1))).length:Int)==1)=true/\True->(u126 (a0.2.2.getD ((a0.2.2.length:Int)-1).toNat (dflt y55))).isSome)/\True)<|lt (vl (u45 a0.2.1 ((a0.2.2.length:Int)-1))) fun v2 =>
   some ((v2.length:Int)==1&&vl (u126 (a0.2.2.getD ((a0.2.2.length:Int)-1).toNat (dflt y55))))
def k103:Ct:=lct 103 [.agg y44] (fun x=>u103 x.1) (fun r:Bool=>B r) (fun _=>())
theorem o103:Ok prog k103:=by
 refine okM [.tmp 2] func103 ?_;intro y ⟨a0,_⟩ r H Q hn hr;have:=hz (tc o126 (tc o45 (tc o99 tn)));refine iA [1]<|iB [1,3] H fun H=>iB [1,3,4] H fun H=>vQ<|iA [1,3,4,16]<|cD H (fun H=>iA [2]<|vTT<|fR<|hr H) fun H=>vK<|fQ<|qD (fun v0=>Z [p 1 (R 1),p 4 (I ((a0.2.2.length:Int)-1)),p 5 (R 5)] [(5,K 112 y112 v0),(1,K 44 y44 a0)]) H fun v0 H=>vQ<|qD (fun v1=>Z [p 1 (R 1),p 4 (I ((a0.2.2.length:Int)-1)),p 58 (B v1)] [(5,K 112 y112 v0),(1,K 44 y44 a0)]) H fun v1 H=>cD H (fun H=>iA [2]<|vTT<|fR<|hr H) fun H=>vK<|fQ<|iD o45 [2] H fun _ H=>vTT<|hr H
def u125J0:Unit->Option Int
 | _ =>
 some (-1)
def u125L1(a0:List ByteArray)(a1:ByteArray)(g1:Int->Option Int):Int->Option Int
 | v0 =>
 if(decide (v0 < (a0.length:Int))) then
  gd (ix v0 a0.length/\True) <|
  if(decide (a0.getD v0.toNat (dflt Ty.str)=a1)) then
   some v0
  else
   gd (in64 (v0+1)/\True) <|
   g1 (v0+1)
 else
  u125J0 ()
def u125(a0:List ByteArray)(a1:ByteArray):Option Int :=
 lp (u125L1 a0 a1) 0
def k125:Ct:=lct 125 [.dat Ty.str.sl,.dat Ty.str] (fun x=>u125 x.1 x.2.1) (fun r:Int=>I r) (fun _=>())
theorem o125:Ok prog k125:=by
 refine okM [.tmp 4] func125 ?_;intro y ⟨a0,a1,_⟩ r H Q hn hr;refine iA [0,1]<|jN r (fun(_:Unit)=>Z [] []) (u125J0) (fun _ H=>?_) (fun _ n0 e0 t0=>?_)
 ·refine iA [4]<|vTT<|hr H
 refine iA [0,1,5]<|vB<|lX (fun(v0:Int)=>Z [p 0 (L Ty.str a0),p 1 (U a1),p 5 (I v0)] []) 0 H fun _ g1 b1 e1 t1 v0 H=>vQ<|iA [0,1,5,9]<|cD H (fun H=>?_) (fun H=>?_)
 ·refine vK<|fQ<|vQ<|vB<|iB [0,1,5,17] H fun H=>cD H (fun H=>iA [4]<|vTT<|fDD<|fR<|t1<|fDD<|t0<|hr H) fun H=>vK<|fK<|fQ<|jB [0,1,5] H fun H=>b1 H
 exact vE<|fE<|e1<|fX rfl<|n0 H
def u102(a0:Y41)(a1:ByteArray):Option Int :=
 gd ((u125 a0.2.1 a1).isSome/\True)<|lt (vl (u125 a0.2.1 a1)) fun v0 =>
 some v0
def k102:Ct:=lct 102 [.agg y41,.dat Ty.str] (fun x=>u102 x.1 x.2.1) (fun r:Int=>I r) (fun _=>())
theorem o102:Ok prog k102:=by
 refine okM [.tmp 4] func102 ?_;intro y ⟨_,_,_⟩ r H Q hn hr;have:=hz (tc o125 tn);refine iA [1,2]<|iD o125 [4] H fun _ H=>vTT<|hr H
def u101J0:Unit->Option Int
 | _ =>
 some (-1)
def u101L1(a0:Y41)(a1:ByteArray)(g1:Int->Option Int):Int->Option Int
 | v0 =>
 if(decide (v0 < (a0.1.length:Int))) then
  gd (ix v0 a0.1.length/\True) <|
  if(decide ((a0.1.getD v0.toNat (dflt y112)).1=a1)) then
   some v0
  else
   gd (in64 (v0+1)/\True) <|
   g1 (v0+1)
 else
  u101J0 ()
def u101(a0:Y41)(a1:ByteArray):Option Int :=
 lp (u101L1 a0 a1) 0
def k101:Ct:=lct 101 [.agg y41,.dat Ty.str] (fun x=>u101 x.1 x.2.1) (fun r:Int=>I r) (fun _=>())
theorem o101:Ok prog k101:=by
 refine okM [.tmp 4] func101 ?_;intro y ⟨a0,a1,_⟩ r H Q hn hr;refine iA [1,2]<|jN r (fun(_:Unit)=>Z [] []) (u101J0) (fun _ H=>?_) (fun _ n0 e0 t0=>?_)
 ·refine iA [4]<|vTT<|hr H
 refine iA [1,2,5]<|vB<|lX (fun(v0:Int)=>Z [p 1 (U a1),p 2 (R 2),p 5 (I v0)] [(2,K 41 y41 a0)]) 0 H fun _ g1 b1 e1 t1 v0 H=>vQ<|iA [1,2,5,10]<|cD H (fun H=>?_) (fun H=>?_)
 ·refine vK<|fQ<|vQ<|vB<|iB [1,2,5,20] H fun H=>cD H (fun H=>iA [4]<|vTT<|fDD<|fR<|t1<|fDD<|t0<|hr H) fun H=>vK<|fK<|fQ<|jB [1,2,5] H fun H=>b1 H
 exact vE<|fE<|e1<|fX rfl<|n0 H
def u98J0:Unit->Option Bool
 | _ =>
 some true
def u98L1(a0:Y82)(a1:Y82)(g1:Int->Option Bool):Int->Option Bool
 | v0 =>
 if(decide (v0 < (a0.2.2.1.length:Int))) then
  gd (ix v0 a0.2.2.1.length/\ix v0 a1.2.2.1.length/\True) <|
  if(!(a0.2.2.1.getD v0.toNat (dflt y116)).2.2.2==(a1.2.2.1.getD v0.toNat (dflt y116)).2.2.2) then
   some false
  else
   gd (in64 (v0+1)/\True) <|
   g1 (v0+1)
 else
  u98J0 ()
def u98(a0:Y82)(a1:Y82):Option Bool :=
 if(a0.2.1 != a1.2.1||(a0.2.2.1.length:Int) != (a1.2.2.1.length:Int)) then
  some false
 else
  lp (u98L1 a0 a1) 0
def k98:Ct:=lct 98 [.agg y82,.agg y82] (fun x=>u98 x.1 x.2.1) (fun r:Bool=>B r) (fun _=>())
theorem o98:Ok prog k98:=by
 refine okM [.tmp 4] func98 ?_;intro y ⟨a0,a1,_⟩ r H Q hn hr;refine iA [2,3]<|vQ<|iA [2,3,19]<|cD H (fun H=>iA [4]<|vTT<|fR<|hr H) fun H=>vK<|fQ<|jN r (fun(_:Unit)=>Z [] []) (u98J0) (fun _ H=>?_) (fun _ n0 e0 t0=>?_)
 ·refine iA [4]<|vTT<|hr H
 refine iA [2,3,5]<|vB<|lX (fun(v0:Int)=>Z (G0 [p 5 (I v0)]) [(3,K 82 y82 a1),(2,K 82 y82 a0)]) 0 H fun _ g1 b1 e1 t1 v0 H=>vQ<|iA [2,3,5,24]<|cD H (fun H=>?_) (fun H=>?_)
 ·refine vK<|fQ<|vQ<|vB<|iB [2,3,5,39] H fun H=>cD H (fun H=>iA [4]<|vTT<|fDD<|fR<|t1<|fDD<|t0<|hr H) fun H=>vK<|fK<|fQ<|jB [2,3,5] H fun H=>b1 H
 exact vE<|fE<|e1<|fX rfl<|n0 H
def u63(a0:Y44)(a1:Y57):Option Bool :=
 gd ((u30 a0.2.1).isSome/\True)<|lt (vl (u30 a0.2.1)) fun v0 =>
 if(a1.1==1) then
  gd (ix a1.2.1 v0.length/\a1.2.1.toNat<v0.length/\True)<|lt (v0.getD a1.2.1.toNat (dflt y78)) fun v1 =>
  gd (((decide (0<=v1.1)&&v1.2.2.2)=true/\True->ix v1.1 a0.2.1.1.length)/\((decide (0<=v1.1)&&v1.2.2.2)=true/\True->ix (a0.2.1.1.getD v1.1.toNat (dflt y112)).2.1 a0.1.length)/\((decide (0<=v1.1)&&v1.2.2.2)=true/\True->ix a1.2.2.1 a0.1.length)/\((decide (0<=v1.1)&&v1.2.2.2)=true/\True->(u98 (a0.1.getD (a0.2.1.1.getD v1.1.toNat (dflt y112)).2.1.toNat (dflt y82)) (a0.1.getD a1.2.2.1.toNat (dflt y82))).isSome)/\True) <|
  some (decide (0<=v1.1)&&v1.2.2.2&&vl (u98 (a0.1.getD (a0.2.1.1.getD v1.1.toNat (dflt y112)).2.1.toNat (dflt y82)) (a0.1.getD a1.2.2.1.toNat (dflt y82))))
 else
  if(a1.1==2) then
   gd (ix a1.2.1 v0.length/\a1.2.1.toNat<v0.length/\((!(v0.getD a1.2.1.toNat (dflt y78)).2.2.2)=true/\True->ix a1.2.2.1 a0.1.length)/\((!(v0.getD a1.2.1.toNat (dflt y78)).2.2.2)=true/\True->(u99 (a0.1.getD a1.2.2.1.toNat (dflt y82))).isSome)/\((!(v0.getD a1.2.1.toNat (dflt y78)).2.2.2&&vl (u99 (a0.1.getD a1.2.2.1.toNat (dflt y82))))=true/\True->(u100 a1.2.2.2.2.2.1).isSome)/\((!(v0.getD a1.2.1.toNat (dflt y78)).2.2.2&&vl (u99 (a0.1.getD a1.2.2.1.toNat (dflt y82)))&&vl (u100 a1.2.2.2.2.2.1))=true/\True->(u101 a0.2.1 a1.2.2.2.2.2.1).isSome)/\((!(v0.getD a1.2.1.toNat (dflt y78)).2.2.2&&vl (u99 (a0.1.getD a1.2.2.1.toNat (dflt y82)))&&vl (u100 a1.2.2.2.2.2.1)&&decide (vl (u101 a0.2.1 a1.2.2.2.2.2.1)<0))=true/\True->(u102 a0.2.1 a1.2.2.2.2.2.1).isSome)/\True)<|lt ((vl (u101 a0.2.1 a1.2.2.2.2.2.1),vl (u102 a0.2.1 a1.2.2.2.2.2.1))) fun(v2,v3) =>
   some (!(v0.getD a1.2.1.toNat (dflt y78)).2.2.2&&vl (u99 (a0.1.getD a1.2.2.1.toNat (dflt y82)))&&vl (u100 a1.2.2.2.2.2.1)&&decide (v2<0)&&decide (v3<0))
  else
   if(a1.1==3) then
    gd ((u103 a0).isSome/\True) <|
    some (vl (u103 a0))
   else
    if(a1.1==4) then
     gd (ix a1.2.1 v0.length/\a1.2.1.toNat<v0.length/\((!(v0.getD a1.2.1.toNat (dflt y78)).2.2.2)=true/\True->ix a1.2.1 v0.length)/\((!(v0.getD a1.2.1.toNat (dflt y78)).2.2.2)=true/\True->a1.2.1.toNat<v0.length)/\True) <|
     some (!(v0.getD a1.2.1.toNat (dflt y78)).2.2.2&&(v0.getD a1.2.1.toNat (dflt y78)).2.2.1 != a1.2.2.2.1)
    else
     gd ((u45 a0.2.1 a1.2.2.2.1).isSome/\(u44 a1.2.2.2.2.2.2 (↑(vl (u45 a0.2.1 a1.2.2.2.1)).length:Int)).isSome/\True)<|lt (vl (u45 a0.2.1 a1.2.2.2.1)) fun v4 =>
     some (vl (u44 a1.2.2.2.2.2.2 (v4.length:Int)))
def k63:Ct:=lct 63 [.agg y44,.agg y57] (fun x=>u63 x.1 x.2.1) (fun r:Bool=>B r) (fun _=>())
theorem o63:Ok prog k63:=by
 refine okM [.tmp 4] func63 ?_;intro y ⟨a0,a1,_⟩ r H Q hn hr;have:=hz (tc o44 (tc o45 (tc o103 (tc o102 (tc o101 (tc o100 (tc o99 (tc o98 (tc o30 tn)))))))));refine iA [2,3]<|iD o30 [2,3,5] H fun v0 H=>vQ<|iA [2,3,5,11]<|vB<|iA [2,3,5,11,12]<|cD H (fun H=>qD (fun v1=>Z (G0 [p 6 (R 6)]) [(6,bx 78 (cellsD true y78 v1)),(9,A 78 y78 v0 0),(3,K 57 y57 a1),(2,K 44 y44 a0)]) H fun v1 H=>iB [4] H fun H=>vTT<|fDD<|fR<|hr H) fun H=>iA [2,3,5,11,49]<|cD H (fun H=>?_) (fun H=>?_)
 ·refine qD (fun(v2,v3)=>Z [p 4 (B (!(v0.getD a1.2.1.toNat (dflt y78)).2.2.2&&vl (u99 (a0.1.getD a1.2.2.1.toNat (dflt y82)))&&vl (u100 a1.2.2.2.2.2.1)&&decide (v2<0)&&decide (v3<0)))] [(9,A 78 y78 v0 0),(3,K 57 y57 a1),(2,K 44 y44 a0)]) H fun⟨v2,v3⟩ H =>
   vTT<|fDD<|fR<|hr H
 refine iA [2,3,5,11,89]<|cD H (fun H=>iB [4] H fun H=>vTT<|fDD<|fR<|hr H) fun H=>iA [2,3,5,93]<|cD H (fun H=>iB [4] H fun H=>vTT<|fDD<|fR<|hr H) fun H=>vK<|fK<|fQ<|iD o45 [4] H fun _ H=>vTT<|hr H
def u62J0(a1:Y57)(v0:List Y78)(a0:Y44):Bool->Option Bool
 | v1 =>
 if v1 then
  gd (in64 ((v0.length:Int)-1)/\(u77 a1.2.1 0 ((v0.length:Int)-1)).isSome/\(vl (u77 a1.2.1 0 ((v0.length:Int)-1))=true/\True->in64 ((a0.1.length:Int)-1))/\(vl (u77 a1.2.1 0 ((v0.length:Int)-1))=true/\True->(u77 a1.2.2.1 0 ((a0.1.length:Int)-1)).isSome)/\True) <|
  some (vl (u77 a1.2.1 0 ((v0.length:Int)-1))&&vl (u77 a1.2.2.1 0 ((a0.1.length:Int)-1)))
 else
  if(a1.1==4) then
   gd (in64 ((v0.length:Int)-1)/\(u77 a1.2.1 0 ((v0.length:Int)-1)).isSome/\(vl (u77 a1.2.1 0 ((v0.length:Int)-1))=true/\True->in64 ((a0.2.2.length:Int)-1))/\(vl (u77 a1.2.1 0 ((v0.length:Int)-1))=true/\True->(u77 a1.2.2.2.1 0 ((a0.2.2.length:Int)-1)).isSome)/\((vl (u77 a1.2.1 0 ((v0.length:Int)-1))&&vl (u77 a1.2.2.2.1 0 ((a0.2.2.length:Int)-1)))=true/\True->ix a1.2.2.2.1 a0.2.2.length)/\((vl (u77 a1.2.1 0 ((v0.length:Int)-1))&&vl (u77 a1.2.2.2.1 0 ((a0.2.2.length:Int)-1)))=true/\True->in64 ((↑(a0.2.2.getD a1.2.2.2.1.toNat (dflt y55)).1.length:Int)-1))/\((vl (u77 a1.2.1 0 ((v0.length:Int)-1))&&vl (u77 a1.2.2.2.1 0 ((a0.2.2.length:Int)-1)))=true/\True->(u77 a1.2.2.2.2.1 0 ((↑(a0.2.2.getD a1.2.2.2.1.toNat (dflt y55)).1.length:Int)-1)).isSome)/\True) <|
   some (vl (u77 a1.2.1 0 ((v0.length:Int)-1))&&vl (u77 a1.2.2.2.1 0 ((a0.2.2.length:Int)-1))&&vl (u77 a1.2.2.2.2.1 0 ((↑(a0.2.2.getD a1.2.2.2.1.toNat (dflt y55)).1.length:Int)-1)))
  else
   if(a1.1==5) then
    gd (in64 ((a0.2.2.length:Int)-1)/\(u77 a1.2.2.2.1 0 ((a0.2.2.length:Int)-1)).isSome/\True) <|
    some (vl (u77 a1.2.2.2.1 0 ((a0.2.2.length:Int)-1)))
   else
    some true
def u62(a0:Y44)(a1:Y57):Option Bool :=
 gd ((u30 a0.2.1).isSome/\True)<|lt (vl (u30 a0.2.1)) fun v0 =>
 if(a1.1==1) then
  u62J0 a1 v0 a0 (a1.1==1)
 else
  u62J0 a1 v0 a0 (a1.1==2)
def k62:Ct:=lct 62 [.agg y44,.agg y57] (fun x=>u62 x.1 x.2.1) (fun r:Bool=>B r) (fun _=>())
theorem o62:Ok prog k62:=by
 refine okM [.tmp 4] func62 ?_;intro y ⟨a0,a1,_⟩ r H Q hn hr;have:=hz (tc o77 (tc o30 tn));refine iA [2,3]<|iD o30 [2,3,5] H fun v0 H=>iA [2,3,5,6]<|iA [2,3,5,6,7]<|vQ<|iA [2,3,5,6,7,20]<|vB<|jN r (fun(v1:Bool)=>Z (G0 [p 5 (I (v0.length:Int)),p 6 (I (a0.1.length:Int)),p 7 (I (a0.2.2.length:Int)),p 20 (J a1.1),p 21 (B v1)]) [(3,K 57 y57 a1),(2,K 44 y44 a0)]) (u62J0 a1 v0 a0) (fun v1 H=>?_) (fun _ n0 e0 t0=>?_)
 ·refine cD H (fun H=>iB [4] H fun H=>vTT<|fDD<|fR<|hr H) fun H=>iA [2,3,5,7,20,36]<|cD H (fun H=>iB [4] H fun H=>vTT<|fDD<|fR<|hr H) fun H=>iA [3,7,64]<|cD H (fun H=>iB [4] H fun H=>vTT<|fDD<|fR<|hr H) fun H=>vK<|fK<|fQ<|iA [4]<|vTT<|hr H
 refine iA [2,3,5,6,7,20,21]<|cD H (fun H=>vK<|n0 H) fun H=>jA [2,3,5,6,7,20,21]<|n0 H
def u61(a0:Y57):Option Bool :=
 gd (in64 ((a0.2.2.2.2.2.2.1.length:Int)+(a0.2.2.2.2.2.2.2.1.length:Int))/\in64 ((a0.2.2.2.2.2.2.1.length:Int)+(a0.2.2.2.2.2.2.2.1.length:Int)+(a0.2.2.2.2.2.2.2.2.1.length:Int))/\in64 ((a0.2.2.2.2.2.2.1.length:Int)+(a0.2.2.2.2.2.2.2.1.length:Int)+(a0.2.2.2.2.2.2.2.2.1.length:Int)+(a0.2.2.2.2.2.2.2.2.2.length:Int))/\True) <|
 if(a0.1==1) then
  lt (a0.2.2.2.1==0&&a0.2.2.2.2.1==0&&decide (a0.2.2.2.2.2.1=ByteArray.mk #[])&&(a0.2.2.2.2.2.2.1.length:Int)+(a0.2.2.2.2.2.2.2.1.length:Int)+(a0.2.2.2.2.2.2.2.2.1.length:Int)+(a0.2.2.2.2.2.2.2.2.2.length:Int)==0) fun v0 =>
  some v0
 else
  if(a0.1==2) then
   some (a0.2.2.2.1==0&&a0.2.2.2.2.1==0&&(a0.2.2.2.2.2.2.1.length:Int)+(a0.2.2.2.2.2.2.2.1.length:Int)+(a0.2.2.2.2.2.2.2.2.1.length:Int)+(a0.2.2.2.2.2.2.2.2.2.length:Int)==0)
  else
   if(a0.1==3) then
    lt (a0.2.1==0&&a0.2.2.1==0&&a0.2.2.2.1==0&&a0.2.2.2.2.1==0&&decide (a0.2.2.2.2.2.1=ByteArray.mk #[])&&(a0.2.2.2.2.2.2.1.length:Int)+(a0.2.2.2.2.2.2.2.1.length:Int)+(a0.2.2.2.2.2.2.2.2.1.length:Int)+(a0.2.2.2.2.2.2.2.2.2.length:Int)==0) fun v1 =>
    some v1
   else
    if(a0.1==4) then
     some (a0.2.2.1==0&&decide (a0.2.2.2.2.2.1=ByteArray.mk #[])&&(a0.2.2.2.2.2.2.1.length:Int)+(a0.2.2.2.2.2.2.2.1.length:Int)+(a0.2.2.2.2.2.2.2.2.1.length:Int)+(a0.2.2.2.2.2.2.2.2.2.length:Int)==0)
    else
     if(a0.1==5) then
      some (a0.2.1==0&&a0.2.2.1==0&&a0.2.2.2.2.1==0&&decide (a0.2.2.2.2.2.1=ByteArray.mk #[]))
     else
      some false
def k61:Ct:=lct 61 [.agg y57] (fun x=>u61 x.1) (fun r:Bool=>B r) (fun _=>())
theorem o61:Ok prog k61:=by
 refine okM [.tmp 2] func61 ?_;intro y ⟨a0,_⟩ r H Q hn hr;refine iA [1]<|iB [1,3] H fun H=>vQ<|iA [1,3,25]<|vB<|iA [1,3,25,26]<|cD H (fun H=>qC (fun v0=>Z [p 2 (B v0)] [(1,K 57 y57 a0)]) H fun v0 H=>vTT<|fDD<|fR<|hr H) fun H=>iA [1,3,25,44]<|cD H (fun H=>iA [2]<|vTT<|fDD<|fR<|hr H) fun H=>iA [1,3,25,57]<|cD H (fun H=>qC (fun v1=>Z [p 2 (B v1)] [(1,K 57 y57 a0)]) H fun v1 H=>vTT<|fDD<|fR<|hr H) fun H=>iA [1,3,25,85]<|cD H (fun H=>iA [2]<|vTT<|fDD<|fR<|hr H) fun H=>iA [1,98]<|cD H (fun H=>iA [2]<|vTT<|fDD<|fR<|hr H) fun H=>vK<|fK<|fQ<|iA [2]<|vTT<|hr H
def u29(a0:Y44)(a1:Y57):Option Int :=
 gd ((u18 a0).isSome/\True) <|
 if(!vl (u18 a0)) then
  some 1
 else
  gd ((u61 a1).isSome/\((!vl (u61 a1))=false/\True->(u62 a0 a1).isSome)/\True) <|
  if(!vl (u61 a1)||!vl (u62 a0 a1)) then
   some 2
  else
   gd ((u63 a0 a1).isSome/\True) <|
   if(!vl (u63 a0 a1)) then
    some 5
   else
    if(a1.1==2&&((a0.2.1.1.length:Int)==14||(a0.2.2.length:Int)==30)) then
     some 3
    else
     some 0
def k29:Ct:=lct 29 [.agg y44,.agg y57] (fun x=>u29 x.1 x.2.1) (fun r:Int=>I r) (fun _=>())
theorem o29:Ok prog k29:=by
 refine okM [.tmp 4] func29 ?_;intro y ⟨_,_,_⟩ r H Q hn hr;have:=hz (tc o63 (tc o62 (tc o61 (tc o18 tn))));refine iA [2,3]<|vQ<|vB<|iB [2,3,5] H fun H=>cD H (fun H=>iA [4]<|vTT<|fDD<|fR<|hr H) fun H=>iB [2,3,9] H fun H=>cD H (fun H=>iA [4]<|vTT<|fDD<|fR<|hr H) fun H=>iB [2,3,19] H fun H=>cD H (fun H=>iA [4]<|vTT<|fDD<|fR<|hr H) fun H=>iA [24]<|cD H (fun H=>iA [4]<|vTT<|fDD<|fR<|hr H) fun H=>vK<|fK<|fQ<|iA [4]<|vTT<|hr H
def u10(a0:Y52)(a1:Int):Option Int :=
 gd (in64 (a1-(a0.2.2.2.2.2.1.size:Int))/\True) <|
 if(decide (a1-(a0.2.2.2.2.2.1.size:Int)<0)) then
  some (-1)
 else
  gd ((u28 a0.2.2.2.2.2.2 (a1-(a0.2.2.2.2.2.1.size:Int))).isSome/\True)<|lt (vl (u28 a0.2.2.2.2.2.2 (a1-(a0.2.2.2.2.2.1.size:Int)))) fun v0 =>
  if(decide (v0<0)) then
   some (-1)
  else
   some v0
def k10:Ct:=lct 10 [.agg y52,.dat i64] (fun x=>u10 x.1 x.2.1) (fun r:Int=>I r) (fun _=>())
theorem o10:Ok prog k10:=by
 refine okM [.tmp 4] func10 ?_;intro y ⟨_,_,_⟩ r H Q hn hr;have:=hz (tc o28 tn);refine iA [1,2]<|iB [1,2] H fun H=>vQ<|iA [1,2,11]<|cD H (fun H=>iA [4]<|vTT<|fR<|hr H) fun H=>vK<|fQ<|iD o28 [1] H fun _ H=>vQ<|iA [1,17]<|cD H (fun H=>iA [4]<|vTT<|fR<|hr H) fun H=>vK<|fQ<|iA [4]<|vTT<|hr H
def u31:Option (List ByteArray) :=
 lt ([ByteArray.mk #[115,119,97,112],ByteArray.mk #[98,117,102,102,101,114],ByteArray.mk #[117,110,98,117,102,102,101,114],ByteArray.mk #[109,111,118,101],ByteArray.mk #[119,105,114,101]]) fun v0 =>
 some v0
def k31:Ct:=lct 31 [] (fun _=>u31) (fun r:List ByteArray=>AV.ow 9 true Ty.str r) (fun _=>())
theorem o31:Ok prog k31:=by
 refine okM [.tmp 0] func31 ?_;intro y _ r H Q hn hr;refine iA []<|qC (fun v0=>Z [p 0 (O 1)] [(1,A 9 Ty.str v0 0)]) H fun v0 H=>vTT<|hr H
def u11(a0:Y44)(a1:Y57):Option ByteArray :=
 gd ((u29 a0 a1).isSome/\True)<|lt (vl (u29 a0 a1)) fun v0 =>
 if(v0 != 0) then
  some (ByteArray.mk #[])
 else
  gd ((u30 a0.2.1).isSome/\True)<|lt (vl (u30 a0.2.1)) fun v1 =>
  gd (u31.isSome/\in64 (a1.1-1)/\ix (a1.1-1) (vl u31).length/\(a1.1-1).toNat < (vl u31).length/\True)<|lt (vl u31) fun v2 =>
  if(a1.1==1) then
   gd (ByteArray.size (v2.getD (a1.1-1).toNat (dflt Ty.str))+(ByteArray.mk #[32]).size<=9223372036854775807/\ix a1.2.1 v1.length/\a1.2.1.toNat<v1.length/\(u32 a0.1 a0.2.1 (v1.getD a1.2.1.toNat (dflt y78))).isSome/\(v2.getD (a1.1-1).toNat (dflt Ty.str)++ByteArray.mk #[32]).size+(vl (u32 a0.1 a0.2.1 (v1.getD a1.2.1.toNat (dflt y78)))).size<=9223372036854775807/\(v2.getD (a1.1-1).toNat (dflt Ty.str)++ByteArray.mk #[32]++vl (u32 a0.1 a0.2.1 (v1.getD a1.2.1.toNat (dflt y78)))).size+(ByteArray.mk #[32]).size<=9223372036854775807/\ix a1.2.2.1 a0.1.length/\(v2.getD (a1.1-1).toNat (dflt Ty.str)++ByteArray.mk #[32]++vl (u32 a0.1 a0.2.1 (v1.getD a1.2.1.toNat (dflt y78)))++ByteArray.mk #[32]).size+(a0.1.getD a1.2.2.1.toNat (dflt y82)).1.size<=9223372036854775807/\True)<|lt ((vl (u32 a0.1 a0.2.1 (v1.getD a1.2.1.toNat (dflt y78))),v2.getD (a1.1-1).toNat (dflt Ty.str)++ByteArray.mk #[32]++vl (u32 a0.1 a0.2.1 (v1.getD a1.2.1.toNat (dflt y78)))++ByteArray.mk #[32]++(a0.1.getD a1.2.2.1.toNat (dflt y82)).1)) fun(_,v4) =>
   some v4
  else
   if(a1.1==2) then
    gd (ByteArray.size (v2.getD (a1.1-1).toNat (dflt Ty.str))+(ByteArray.mk #[32]).size<=9223372036854775807/\ix a1.2.1 v1.length/\a1.2.1.toNat<v1.length/\(u32 a0.1 a0.2.1 (v1.getD a1.2.1.toNat (dflt y78))).isSome/\(v2.getD (a1.1-1).toNat (dflt Ty.str)++ByteArray.mk #[32]).size+(vl (u32 a0.1 a0.2.1 (v1.getD a1.2.1.toNat (dflt y78)))).size<=9223372036854775807/\(v2.getD (a1.1-1).toNat (dflt Ty.str)++ByteArray.mk #[32]++vl (u32 a0.1 a0.2.1 (v1.getD a1.2.1.toNat (dflt y78)))).size+(ByteArray.mk #[32]).size<=9223372036854775807/\ix a1.2.2.1 a0.1.length/\(v2.getD (a1.1-1).toNat (dflt Ty.str)++ByteArray.mk #[32]++vl (u32 a0.1 a0.2.1 (v1.getD a1.2.1.toNat (dflt y78)))++ByteArray.mk #[32]).size+(a0.1.getD a1.2.2.1.toNat (dflt y82)).1.size<=9223372036854775807/\(v2.getD (a1.1-1).toNat (dflt Ty.str)++ByteArray.mk #[32]++vl (u32 a0.1 a0.2.1 (v1.getD a1.2.1.toNat (dflt y78)))++ByteArray.mk #[32]++(a0.1.getD a1.2.2.1.toNat (dflt y82)).1).size+(ByteArray.mk #[32]).size<=9223372036854775807/\(v2.getD (a1.1-1).toNat (dflt Ty.str)++ByteArray.mk #[32]++vl (u32 a0.1 a0.2.1 (v1.getD a1.2.1.toNat (dflt y78)))++ByteArray.mk #[32]++(a0.1.getD a1.2.2.1.toNat (dflt y82)).1++ByteArray.mk #[32]).size+a1.2.2.2.2.2.1.size<=9223372036854775807/\True)<|lt ((vl (u32 a0.1 a0.2.1 (v1.getD a1.2.1.toNat (dflt y78))),v2.getD (a1.1-1).toNat (dflt Ty.str)++ByteArray.mk #[32]++vl (u32 a0.1 a0.2.1 (v1.getD a1.2.1.toNat (dflt y78)))++ByteArray.mk #[32]++(a0.1.getD a1.2.2.1.toNat (dflt y82)).1++ByteArray.mk #[32]++a1.2.2.2.2.2.1)) fun(_,v6) =>
    some v6
   else
    if(a1.1==4) then
     gd (ByteArray.size (v2.getD (a1.1-1).toNat (dflt Ty.str))+(ByteArray.mk #[32]).size<=9223372036854775807/\ix a1.2.1 v1.length/\a1.2.1.toNat<v1.length/\(u32 a0.1 a0.2.1 (v1.getD a1.2.1.toNat (dflt y78))).isSome/\(v2.getD (a1.1-1).toNat (dflt Ty.str)++ByteArray.mk #[32]).size+(vl (u32 a0.1 a0.2.1 (v1.getD a1.2.1.toNat (dflt y78)))).size<=9223372036854775807/\(v2.getD (a1.1-1).toNat (dflt Ty.str)++ByteArray.mk #[32]++vl (u32 a0.1 a0.2.1 (v1.getD a1.2.1.toNat (dflt y78)))).size+(ByteArray.mk #[32]).size<=9223372036854775807/\ix a1.2.2.2.1 a0.2.1.2.1.length/\(v2.getD (a1.1-1).toNat (dflt Ty.str)++ByteArray.mk #[32]++vl (u32 a0.1 a0.2.1 (v1.getD a1.2.1.toNat (dflt y78)))++ByteArray.mk #[32]).size+ByteArray.size (a0.2.1.2.1.getD a1.2.2.2.1.toNat (dflt Ty.str))<=9223372036854775807/\(v2.getD (a1.1-1).toNat (dflt Ty.str)++ByteArray.mk #[32]++vl (u32 a0.1 a0.2.1 (v1.getD a1.2.1.toNat (dflt y78)))++ByteArray.mk #[32]++a0.2.1.2.1.getD a1.2.2.2.1.toNat (dflt Ty.str)).size+(ByteArray.mk #[32]).size<=9223372036854775807/\(u33 a1.2.2.2.2.1).isSome/\(v2.getD (a1.1-1).toNat (dflt Ty.str)++ByteArray.mk #[32]++vl (u32 a0.1 a0.2.1 (v1.getD a1.2.1.toNat (dflt y78)))++ByteArray.mk #[32]++a0.2.1.2.1.getD a1.2.2.2.1.toNat (dflt Ty.str)++ByteArray.mk #[32]).size+(vl (u33 a1.2.2.2.2.1)).size<=9223372036854775807/\True)<|lt ((vl (u32 a0.1 a0.2.1 (v1.getD a1.2.1.toNat (dflt y78))),vl (u33 a1.2.2.2.2.1),v2.getD (a1.1-1).toNat (dflt Ty.str)++ByteArray.mk #[32]++vl (u32 a0.1 a0.2.1 (v1.getD a1.2.1.toNat (dflt y78)))++ByteArray.mk #[32]++a0.2.1.2.1.getD a1.2.2.2.1.toNat (dflt Ty.str)++ByteArray.mk #[32]++vl (u33 a1.2.2.2.2.1))) fun(_,_,v9) =>
     some v9
    else
     if(a1.1==5) then
      gd (ByteArray.size (v2.getD (a1.1-1).toNat (dflt Ty.str))+(ByteArray.mk #[32]).size<=9223372036854775807/\ix a1.2.2.2.1 a0.2.1.2.1.length/\(v2.getD (a1.1-1).toNat (dflt Ty.str)++ByteArray.mk #[32]).size+ByteArray.size (a0.2.1.2.1.getD a1.2.2.2.1.toNat (dflt Ty.str))<=9223372036854775807/\(v2.getD (a1.1-1).toNat (dflt Ty.str)++ByteArray.mk #[32]++a0.2.1.2.1.getD a1.2.2.2.1.toNat (dflt Ty.str)).size+(ByteArray.mk #[32]).size<=9223372036854775807/\(u34 a1.2.2.2.2.2.2 (a1.2.2.2.2.2.2.2.2.2.length:Int)).isSome/\(v2.getD (a1.1-1).toNat (dflt Ty.str)++ByteArray.mk #[32]++a0.2.1.2.1.getD a1.2.2.2.1.toNat (dflt Ty.str)++ByteArray.mk #[32]).size+(vl (u34 a1.2.2.2.2.2.2 (a1.2.2.2.2.2.2.2.2.2.length:Int))).size<=9223372036854775807/\True)<|lt ((vl (u34 a1.2.2.2.2.2.2 (a1.2.2.2.2.2.2.2.2.2.length:Int)),v2.getD (a1.1-1).toNat (dflt Ty.str)++ByteArray.mk #[32]++a0.2.1.2.1.getD a1.2.2.2.1.toNat (dflt Ty.str)++ByteArray.mk #[32]++vl (u34 a1.2.2.2.2.2.2 (a1.2.2.2.2.2.2.2.2.2.length:Int)))) fun(_,v11) =>
      some v11
     else
      some (v2.getD (a1.1-1).toNat (dflt Ty.str))
def k11:Ct:=lct 11 [.agg y44,.agg y57] (fun x=>u11 x.1 x.2.1) (fun r:ByteArray=>S r) (fun _=>())
theorem o11:Ok prog k11:=by
 refine okM [.tmp 4] func11 ?_;intro y ⟨a0,a1,_⟩ r H Q hn hr;have:=hz (tc o34 (tc o33 (tc o32 (tc o31 (tc o30 (tc o29 tn))))));refine iA [2,3]<|vQ<|iD o29 [2,3,10] H fun _ H=>cD H (fun H=>iA [4]<|vTT<|fR<|hr H) fun H=>vK<|fQ<|iD o30 [2,3,5] H fun v1 H=>qD (fun v2=>Z (G0 [p 5 (O 13),p 6 (S (v2.getD (a1.1-1).toNat (dflt Ty.str)))]) (W3 v2 v1 a1 a0)) H fun v2 H=>vQ<|iA [2,3,5,6,21]<|vB<|iA [2,3,5,6,21,22]<|cD H (fun H=>?_) (fun H=>?_)
 ·refine qD (fun(v3,v4)=>Z [p 4 (S v4)] (W3 v2 v1 a1 a0)) H fun⟨v3,v4⟩ H =>
   vTT<|fDD<|fR<|hr H
 refine iA [2,3,5,6,21,47]<|cD H (fun H=>?_) (fun H=>?_)
 ·refine qD (fun(v5,v6)=>Z [p 4 (S v6)] (W3 v2 v1 a1 a0)) H fun⟨v5,v6⟩ H =>
   vTT<|fDD<|fR<|hr H
 refine iA [2,3,5,6,21,76]<|cD H (fun H=>?_) (fun H=>?_)
 ·refine qD (fun(v7,v8,v9)=>Z [p 4 (S v9)] (W3 v2 v1 a1 a0)) H fun⟨v7,v8,v9⟩ H =>
   vTT<|fDD<|fR<|hr H
 refine iA [2,3,6,105]<|cD H (fun H=>?_) (fun H=>?_)
 ·refine qD (fun(v10,v11)=>Z [p 4 (S v11)] (W3 v2 v1 a1 a0)) H fun⟨v10,v11⟩ H =>
   vTT<|fDD<|fR<|hr H
 refine vK<|fK<|fQ<|iA [4]<|vTT<|hr H
def u4(a0:Y32)(a1:Y52):Option Bool :=
 gd ((u5 a0 1048576).isSome/\True)<|lt (vl (u5 a0 1048576)) fun v0 =>
 if(decide (v0<0)) then
  some true
 else
  gd ((u10 a1 v0).isSome/\True)<|lt (vl (u10 a1 v0)) fun v1 =>
  if(decide (v1<0)) then
   some true
  else
   gd ((u7 a0).isSome/\(u12 a1).isSome/\(u11 (vl (u7 a0)) (vl (u12 a1))).isSome/\True)<|lt ((vl (u11 (vl (u7 a0)) (vl (u12 a1))),vl (u12 a1),vl (u7 a0))) fun(v2,_,_) =>
   gd ((u7 a0).isSome/\True)<|lt (vl (u7 a0)) fun v5 =>
   gd ((u12 a1).isSome/\True)<|lt (vl (u12 a1)) fun v6 =>
   gd ((u13 v5 v6).isSome/\True)<|lt (vl (u13 v5 v6)) fun v7 =>
   if(!decide (v7=v2)) then
    some false
   else
    gd ((u7 a0).isSome/\(u9 v5 (vl (u7 a0))).isSome/\True)<|lt (vl (u7 a0)) fun v8 =>
    if(!vl (u9 v5 v8)) then
     some false
    else
     gd ((u12 a1).isSome/\(u14 v6 (vl (u12 a1))).isSome/\True)<|lt (vl (u12 a1)) fun v9 =>
     if(!vl (u14 v6 v9)) then
      some false
     else
      some true
def k4:Ct:=lct 4 [.agg y32,.agg y52] (fun x=>u4 x.1 x.2.1) (fun r:Bool=>B r) (fun _=>())
theorem o4:Ok prog k4:=by
 refine okM [.tmp 4] func4 ?_;intro y ⟨a0,a1,_⟩ r H Q hn hr;have:=hz (tc o14 (tc o12 (tc o9 (tc o7 (tc o13 (tc o11 (tc o10 (tc o5 tn))))))));refine iA [2,3]<|iA [2,3,5]<|iD o5 [2,3,5] H fun _ H=>vQ<|iA [2,3,5,14]<|cD H (fun H=>iA [4]<|vTT<|fR<|hr H) fun H=>vK<|fQ<|iD o10 [2,3,5] H fun _ H=>vQ<|iA [2,3,19]<|cD H (fun H=>iA [4]<|vTT<|fR<|hr H) fun H=>vK<|fQ<|qD (fun(v2,v3,v4)=>Z (G0 [p 6 (S v2)]) [(3023,A 2 i64 v3.2.2.2.2.2.2.2.2.2 0),(2023,A 2 i64 v3.2.2.2.2.2.2.2.2.1 0),(1023,A 2 i64 v3.2.2.2.2.2.2.2.1 0),(23,A 2 i64 v3.2.2.2.2.2.2.1 0),(4021,A 55 y55 v4.2.2 0),(3021,A 114 y114 v4.2.1.2.2 0),(2021,A 9 Ty.str v4.2.1.2.1 0),(1021,A 112 y112 v4.2.1.1 0),(21,A 82 y82 v4.1 0),(3,K 52 y52 a1),(2,K 32 y32 a0)]) H fun⟨v2,v3,v4⟩ H =>
  iD o7 [2,3,6,7] H fun _ H =>
  iD o12 [2,3,6,7,8] H fun _ H =>
  iD o13 [2,3,6,7,8,9] H fun _ H =>
  vQ <|
  iA [2,3,7,8,34] <|
  cD H (fun H=>iA [4]<|vTT<|fR<|hr H) fun H=>vK<|fQ<|vQ<|iD o7 [3,8,39] H fun _ H=>cD H (fun H=>iA [4]<|vTT<|fR<|hr H) fun H=>vK<|fQ<|vQ<|iD o12 [44] H fun _ H=>cD H (fun H=>iA [4]<|vTT<|fR<|hr H) fun H=>vK<|fQ<|iA [4]<|vTT<|hr H
end Go.Proofs.YtekfdfcnjlfgiaaGreatDoor
end
