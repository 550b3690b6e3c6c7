/- Functions of this program as plain functions of data, and that they are so: printed by program. -/
import Derived.Test.YtechodbafnmddaaGreatDoorXD
import Derived.Test.YtechodbafnmddaaGreatDoorXF
import Derived.Test.YtechodbafnmddaaGreatDoorTY
import Derived.Test.YtechodbafnmddaaGreatDoorLB
section
namespace Go.Proofs.YtechodbafnmddaaGreatDoor
open Go Go.Proofs Go.Proofs.Sv Go.Proofs.Xv Go.Proofs.Xl Go.RowKit
open Tryz
instance:HG Tryz.prog Γ:=⟨Bu⟩
abbrev bx(T:TypeId)(c:List AV):Ob:=.box T c
abbrev b8:Ty:=.int .u8
abbrev Q0(x:c7 (.sl y153)×(c7 (.sl y155)×c7 (.sl Ty.str)×c7 (.sl y231))×c7 (.sl y172)):List AV:=[L y153 x.1,L y155 x.2.1.1,L Ty.str x.2.1.2.1,L y231 x.2.1.2.2,L y172 x.2.2,AV.os 18 0,AV.os 38 0,nil,nil,nil]
abbrev Q1(x:c7 (.sl y153)×(c7 (.sl y155)×c7 (.sl Ty.str)×c7 (.sl y231))×c7 (.sl y172)):List AV:=[L y153 x.1,L y155 x.2.1.1,L Ty.str x.2.1.2.1,L y231 x.2.1.2.2,L y172 x.2.2,AV.os 18 0,AV.os 38 0,AV.os 102 0,AV.os 114 0,nil]
abbrev Q2(x:Int×(Int×Int)×Int×Int):List AV:=[I x.1,I x.2.1.1,I x.2.1.2,I x.2.2.1,I x.2.2.2]
abbrev Pr(x1:Int):List AV:=[AV.v (Value.pointer none),AV.v (Value.slice none 0 0),I x1]
abbrev W0(y0:Int)(y1:Int)(y2:Int)(y3:Int)(y4:Int)(y5:c7 y65)(y6:c7 q4)(y7:c7 j3):List (Nat×Ob):=[(17,bx 75 [J y0,J y1,J y2,J y3,J y4]),(15,bx 75 [I 0,I 0,I 0,I 0,I 0]),(12,K 65 y65 y5),(8,K 58 q4 y6),(7,K 56 j3 y7)]
abbrev W1(y0:List (c7 y235))(y1:c7 j3)(y2:List (c7 y138)):List (Nat×Ob):=[(18,A 235 y235 y0 0),(1,K 56 j3 y1),(38,A 138 y138 y2 0)]
abbrev G2(y0:Int)(y1:Int)(y2:Int)(y3:Int)(y4:Int)(y5:Int)(y6:Int)(y7:Int)(y8:Int)(t:List (Nat×Sl)):List (Nat×Sl):=p 3 (J y0) :: p 4 (R 4) :: p 9 (I y1) :: p 10 (I y2) :: p 11 (I y3) :: p 12 (I y4) :: p 13 (I y5) :: p 14 (I y6) :: p 15 (I y7) :: p 16 (I y8) :: t
abbrev G3(t:List (Nat×Sl)):List (Nat×Sl):=p 1 (R 1) :: p 3 (R 20) :: p 7 (O 50) :: t
abbrev G4(y0:List (c7 y138))(y1:List (c7 Ty.bool))(t:List (Nat×Sl)):List (Nat×Sl):=p 2 (L y138 y0) :: p 3 (L Ty.bool y1) :: t
abbrev W5(y0:c7 y65)(y1:c7 q4):List (Nat×Ob):=[(11,bx 75 [I 0,I 0,I 0,I 0,I 0]),(8,K 65 y65 y0),(6,K 58 q4 y1)]
abbrev G6(y0:Int)(y1:List (c7 y138))(y2:List (c7 Ty.bool))(t:List (Nat×Sl)):List (Nat×Sl):=p 0 (J y0) :: p 1 (L y138 y1) :: p 2 (L Ty.bool y2) :: p 8 (O 13) :: p 9 (O 15) :: t
abbrev G7(y0:Int)(y1:Int)(y2:Int)(y3:Int)(t:List (Nat×Sl)):List (Nat×Sl):=p 3 (J y0) :: p 4 (R 4) :: p 10 (I y1) :: p 11 (O 29) :: p 12 (I y2) :: p 13 (I y3) :: t
abbrev G8(y0:Int)(t:List (Nat×Sl)):List (Nat×Sl):=p 1 (R 1) :: p 3 (I y0) :: t
abbrev W9(y0:c7 y189.pt)(y1:List (c7 Ty.bool)):List (Nat×Ob):=[(17,bx 126 [D y189.pt y0,AV.os 15 0]),(15,A 4 Ty.bool y1 0)]
abbrev Ps(y0:c7 y126.pt)(t:List (Nat×Sl)):List (Nat×Sl):=p 0 (D y126.pt y0) :: p 6 (R 6) :: p 8 (R 8) :: p 11 (R 11) :: p 12 (R 12) :: p 13 (R 13) :: t
abbrev Jq(y0:List (c7 V4))(y1:List (c7 V4))(y2:c7 y269):List (Nat×Ob):=[(29,A 322 V4 y0 0),(22,A 322 V4 y1 0),(4,K 269 y269 y2)]
abbrev Bv(t:List (Nat×Sl)):List (Nat×Sl):=p 2 (R 2) :: p 3 (R 3) :: t
abbrev Hi(y0:c7 y53)(y1:List (c7 y153)):List (Nat×Ob):=[(3,K 53 y53 y0),(2,bx 49 [L y153 y1])]
abbrev Lr(y0:Int)(y1:Int)(y2:Int)(y3:Int)(t:List (Nat×Sl)):List (Nat×Sl):=p 0 (O 500000) :: p 2 (J y0) :: p 3 (J y1) :: p 4 (J y2) :: p 6 (R 6) :: p 11 (I y3) :: t
abbrev Jr(y0:c7 y65)(y1:c7 q4)(y2:c7 j3):List (Nat×Ob):=[(13,K 65 y65 y0),(9,K 58 q4 y1),(8,K 56 j3 y2)]
abbrev DT(t:List (Nat×Sl)):List (Nat×Sl):=p 1 (R 1) :: p 3 (O 20) :: t
abbrev Ls(y0:Int)(t:List (Nat×Sl)):List (Nat×Sl):=p 1 (R 1) :: p 3 (O 12) :: p 4 (R 4) :: p 5 (I y0) :: t
abbrev Hj(y0:List (c7 i64))(y1:c7 y53):List (Nat×Ob):=[(92,A 2 i64 y0 0),(3,K 53 y53 y1)]
def P0(a:List Int)(b:Int):Option Int :=
 gd (b7 (b-(a.length:Int))/\True) <|
 if(decide (b-(a.length:Int)<0)) then
  some (-1)
 else
  some (b-(a.length:Int))
def T0S:Ct:=b9 137 [.dat i64.sl,.dat i64] (fun x=>P0 x.1 x.2.1) (fun r:Int=>I r) (fun _=>())
theorem AS:Ok prog T0S:=by
 refine c8 [.tmp 4] func137 ?_;intro y ⟨_,_,_⟩ r H Q hn hr;refine iA [0,1]<|iB [1] H fun H=>vQ<|iA [1,10]<|cD H (fun H=>iA [4]<|a7<|fR<|hr H) fun H=>vK<|fQ<|iA [4]<|a7<|hr H
def Lt(a:Ce)(e:Int):Option Int :=
 gd ((P0 a.1 e).isSome/\True)<|lt (vl (P0 a.1 e)) fun d =>
 if(decide (d<0)) then
  some (-1)
 else
  gd ((P0 a.2.1 d).isSome/\True)<|lt (vl (P0 a.2.1 d)) fun b =>
  if(decide (b<0)) then
   some (-1)
  else
   gd ((P0 a.2.2.1 b).isSome/\True)<|lt (vl (P0 a.2.2.1 b)) fun c =>
   if(decide (c<0)) then
    some (-1)
   else
    gd ((P0 a.2.2.2 c).isSome/\True)<|lt (vl (P0 a.2.2.2 c)) fun f =>
    if(decide (f<0)) then
     some (-1)
    else
     some f
def k82:Ct:=b9 82 [.agg y146,.dat i64] (fun x=>Lt x.1 x.2.1) (fun r:Int=>I r) (fun _=>())
theorem YF:Ok prog k82:=by
 refine c8 [.tmp 4] func82 ?_;intro y ⟨_,_,_⟩ r H Q hn hr;have:=hz (tc AS tn);refine iA [1,2]<|iD AS [1,2] H fun _ H=>vQ<|iA [1,2,10]<|cD H (fun H=>iA [4]<|a7<|fR<|hr H) fun H=>vK<|fQ<|iD AS [1,2] H fun _ H=>vQ<|iA [1,2,16]<|cD H (fun H=>iA [4]<|a7<|fR<|hr H) fun H=>vK<|fQ<|iD AS [1,2] H fun _ H=>vQ<|iA [1,2,22]<|cD H (fun H=>iA [4]<|a7<|fR<|hr H) fun H=>vK<|fQ<|iD AS [1] H fun _ H=>vQ<|iA [1,28]<|cD H (fun H=>iA [4]<|a7<|fR<|hr H) fun H=>vK<|fQ<|iA [4]<|a7<|hr H
def YG:Int->Option Int
 | a =>
 some a
def K0Q(b:List Ce)(e:Int×Int->Option Int):Int×Int->Option Int
 | (c,a) =>
 if(decide (a < (b.length:Int))) then
  gd (ix a b.length/\(Lt (b.getD a.toNat (a6 y146)) c).isSome/\True)<|lt (vl (Lt (b.getD a.toNat (a6 y146)) c)) fun d =>
  if(decide (d<0)) then
   some (-1)
  else
   gd (b7 (a+1)/\True) <|
   e (d,a+1)
 else
  YG c
def Lu(a:List Ce)(b:Int):Option Int :=
 gd (b7 (b-(a.length:Int))/\True) <|
 if(decide (b-(a.length:Int)<0)) then
  some (-1)
 else
  lp (K0Q a) ((b-(a.length:Int),0))
def k37:Ct:=b9 37 [.dat y146.sl,.dat i64] (fun x=>Lu x.1 x.2.1) (fun r:Int=>I r) (fun _=>())
theorem YH:Ok prog k37:=by
 refine c8 [.tmp 4] func37 ?_;intro y ⟨a,g,_⟩ r H Q hn hr;have:=hz (tc YF tn);refine iA [0,1]<|iB [0,1] H fun H=>vQ<|iA [0,1,11]<|cD H (fun H=>iA [4]<|a7<|fR<|hr H) fun H=>vK<|fQ<|jN r (fun(d:Int)=>Z [p 1 (I d)] []) (YG) (fun d H=>?_) (fun _ i k e=>?_)
 ·refine iA [4]<|a7<|hr H
 refine iA [0,1,5]<|vB<|lX (fun((b,c):Int×Int)=>Z [p 0 (L y146 a),p 1 (I b),p 5 (I c)] []) ((g-(a.length:Int),0)) H fun _ l j h f ⟨b,c⟩ H=>vQ<|iA [0,1,5,15]<|cD H (fun H=>?_) (fun H=>?_)
 ·refine vK<|fQ<|vQ<|vB<|iD YF [0,1,5] H fun _ H=>iA [0,1,5,25]<|cD H (fun H=>iA [4]<|a7<|c9<|fR<|f<|c9<|e<|hr H) fun H=>vK<|fK<|fQ<|jB [0,1,5] H fun H=>j H
 exact vE<|fE<|h<|fX rfl<|i H
def Lv(a:Cf)(b:Int):Option Int :=
 gd (b7 (b-(a.1.size:Int))/\True) <|
 if(decide (b-(a.1.size:Int)<0)) then
  some (-1)
 else
  some (b-(a.1.size:Int))
def T0T:Ct:=b9 136 [.agg y221,.dat i64] (fun x=>Lv x.1 x.2.1) (fun r:Int=>I r) (fun _=>())
theorem YI:Ok prog T0T:=by
 refine c8 [.tmp 4] func136 ?_;intro y ⟨_,_,_⟩ r H Q hn hr;refine iA [1,2]<|iB [1] H fun H=>vQ<|iA [1,11]<|cD H (fun H=>iA [4]<|a7<|fR<|hr H) fun H=>vK<|fQ<|iA [4]<|a7<|hr H
def YJ:Int->Option Int
 | a =>
 some a
def K0D(b:List Cf)(e:Int×Int->Option Int):Int×Int->Option Int
 | (c,a) =>
 if(decide (a < (b.length:Int))) then
  gd (ix a b.length/\(Lv (b.getD a.toNat (a6 y221)) c).isSome/\True)<|lt (vl (Lv (b.getD a.toNat (a6 y221)) c)) fun d =>
  if(decide (d<0)) then
   some (-1)
  else
   gd (b7 (a+1)/\True) <|
   e (d,a+1)
 else
  YJ c
def Lw(a:List Cf)(b:Int):Option Int :=
 gd (b7 (b-(a.length:Int))/\True) <|
 if(decide (b-(a.length:Int)<0)) then
  some (-1)
 else
  lp (K0D a) ((b-(a.length:Int),0))
def k81:Ct:=b9 81 [.dat y221.sl,.dat i64] (fun x=>Lw x.1 x.2.1) (fun r:Int=>I r) (fun _=>())
theorem YK:Ok prog k81:=by
 refine c8 [.tmp 4] func81 ?_;intro y ⟨a,g,_⟩ r H Q hn hr;have:=hz (tc YI tn);refine iA [0,1]<|iB [0,1] H fun H=>vQ<|iA [0,1,11]<|cD H (fun H=>iA [4]<|a7<|fR<|hr H) fun H=>vK<|fQ<|jN r (fun(d:Int)=>Z [p 1 (I d)] []) (YJ) (fun d H=>?_) (fun _ i k e=>?_)
 ·refine iA [4]<|a7<|hr H
 refine iA [0,1,5]<|vB<|lX (fun((b,c):Int×Int)=>Z [p 0 (L y221 a),p 1 (I b),p 5 (I c)] []) ((g-(a.length:Int),0)) H fun _ l j h f ⟨b,c⟩ H=>vQ<|iA [0,1,5,15]<|cD H (fun H=>?_) (fun H=>?_)
 ·refine vK<|fQ<|vQ<|vB<|iD YI [0,1,5] H fun _ H=>iA [0,1,5,25]<|cD H (fun H=>iA [4]<|a7<|c9<|fR<|f<|c9<|e<|hr H) fun H=>vK<|fK<|fQ<|jB [0,1,5] H fun H=>j H
 exact vE<|fE<|h<|fX rfl<|i H
def YL:Int->Option Int
 | a =>
 some a
def K0E(b:List ByteArray)(e:Int×Int->Option Int):Int×Int->Option Int
 | (c,a) =>
 if(decide (a < (b.length:Int))) then
  gd (ix a b.length/\b7 (c-(↑(ByteArray.size (b.getD a.toNat (a6 Ty.str))):Int))/\True)<|lt (c-(↑(ByteArray.size (b.getD a.toNat (a6 Ty.str))):Int)) fun d =>
  if(decide (d<0)) then
   some (-1)
  else
   gd (b7 (a+1)/\True) <|
   e (d,a+1)
 else
  YL c
def Lx(a:List ByteArray)(b:Int):Option Int :=
 gd (b7 (b-(a.length:Int))/\True) <|
 if(decide (b-(a.length:Int)<0)) then
  some (-1)
 else
  lp (K0E a) ((b-(a.length:Int),0))
def k80:Ct:=b9 80 [.dat Ty.str.sl,.dat i64] (fun x=>Lx x.1 x.2.1) (fun r:Int=>I r) (fun _=>())
theorem YM:Ok prog k80:=by
 refine c8 [.tmp 4] func80 ?_;intro y ⟨a,i,_⟩ r H Q hn hr;refine iA [0,1]<|iB [0,1] H fun H=>vQ<|iA [0,1,11]<|cD H (fun H=>iA [4]<|a7<|fR<|hr H) fun H=>vK<|fQ<|jN r (fun(d:Int)=>Z [p 1 (I d)] []) (YL) (fun d H=>?_) (fun _ f l g=>?_)
 ·refine iA [4]<|a7<|hr H
 refine iA [0,1,5]<|vB<|lX (fun((c,b):Int×Int)=>Z [p 0 (L Ty.str a),p 1 (I c),p 5 (I b)] []) ((i-(a.length:Int),0)) H fun _ m k j h ⟨c,b⟩ H=>vQ<|iA [0,1,5,15]<|cD H (fun H=>?_) (fun H=>?_)
 ·refine vK<|fQ<|vQ<|vB<|qD (fun e=>Z [p 0 (L Ty.str a),p 1 (I e),p 5 (I b)] []) H fun e H=>iA [0,1,5,26]<|cD H (fun H=>iA [4]<|a7<|c9<|fR<|h<|c9<|g<|hr H) fun H=>vK<|fK<|fQ<|jB [0,1,5] H fun H=>k H
 exact vE<|fE<|j<|fX rfl<|f H
def Ly(a:Cg)(b:Int):Option Int :=
 gd (b7 (b-(a.1.size:Int))/\True) <|
 if(decide (b-(a.1.size:Int)<0)) then
  some (-1)
 else
  gd ((P0 a.2.2 (b-(a.1.size:Int))).isSome/\True)<|lt (vl (P0 a.2.2 (b-(a.1.size:Int)))) fun c =>
  if(decide (c<0)) then
   some (-1)
  else
   some c
def T0U:Ct:=b9 135 [.agg y218,.dat i64] (fun x=>Ly x.1 x.2.1) (fun r:Int=>I r) (fun _=>())
theorem YN:Ok prog T0U:=by
 refine c8 [.tmp 4] func135 ?_;intro y ⟨_,_,_⟩ r H Q hn hr;have:=hz (tc AS tn);refine iA [1,2]<|iB [1,2] H fun H=>vQ<|iA [1,2,11]<|cD H (fun H=>iA [4]<|a7<|fR<|hr H) fun H=>vK<|fQ<|iD AS [1] H fun _ H=>vQ<|iA [1,17]<|cD H (fun H=>iA [4]<|a7<|fR<|hr H) fun H=>vK<|fQ<|iA [4]<|a7<|hr H
def YO:Int->Option Int
 | a =>
 some a
def K0F(b:List Cg)(e:Int×Int->Option Int):Int×Int->Option Int
 | (c,a) =>
 if(decide (a < (b.length:Int))) then
  gd (ix a b.length/\(Ly (b.getD a.toNat (a6 y218)) c).isSome/\True)<|lt (vl (Ly (b.getD a.toNat (a6 y218)) c)) fun d =>
  if(decide (d<0)) then
   some (-1)
  else
   gd (b7 (a+1)/\True) <|
   e (d,a+1)
 else
  YO c
def Lz(a:List Cg)(b:Int):Option Int :=
 gd (b7 (b-(a.length:Int))/\True) <|
 if(decide (b-(a.length:Int)<0)) then
  some (-1)
 else
  lp (K0F a) ((b-(a.length:Int),0))
def k79:Ct:=b9 79 [.dat y218.sl,.dat i64] (fun x=>Lz x.1 x.2.1) (fun r:Int=>I r) (fun _=>())
theorem YP:Ok prog k79:=by
 refine c8 [.tmp 4] func79 ?_;intro y ⟨a,g,_⟩ r H Q hn hr;have:=hz (tc YN tn);refine iA [0,1]<|iB [0,1] H fun H=>vQ<|iA [0,1,11]<|cD H (fun H=>iA [4]<|a7<|fR<|hr H) fun H=>vK<|fQ<|jN r (fun(d:Int)=>Z [p 1 (I d)] []) (YO) (fun d H=>?_) (fun _ i k e=>?_)
 ·refine iA [4]<|a7<|hr H
 refine iA [0,1,5]<|vB<|lX (fun((b,c):Int×Int)=>Z [p 0 (L y218 a),p 1 (I b),p 5 (I c)] []) ((g-(a.length:Int),0)) H fun _ l j h f ⟨b,c⟩ H=>vQ<|iA [0,1,5,15]<|cD H (fun H=>?_) (fun H=>?_)
 ·refine vK<|fQ<|vQ<|vB<|iD YN [0,1,5] H fun _ H=>iA [0,1,5,25]<|cD H (fun H=>iA [4]<|a7<|c9<|fR<|f<|c9<|e<|hr H) fun H=>vK<|fK<|fQ<|jB [0,1,5] H fun H=>j H
 exact vE<|fE<|h<|fX rfl<|i H
def LA(a:LB)(e:Int):Option Int :=
 gd ((Lz a.1 e).isSome/\True)<|lt (vl (Lz a.1 e)) fun c =>
 if(decide (c<0)) then
  some (-1)
 else
  gd ((Lx a.2.1 c).isSome/\True)<|lt (vl (Lx a.2.1 c)) fun b =>
  if(decide (b<0)) then
   some (-1)
  else
   gd ((Lw a.2.2 b).isSome/\True)<|lt (vl (Lw a.2.2 b)) fun d =>
   if(decide (d<0)) then
    some (-1)
   else
    some d
def k36:Ct:=b9 36 [.agg Ch,.dat i64] (fun x=>LA x.1 x.2.1) (fun r:Int=>I r) (fun _=>())
theorem YQ:Ok prog k36:=by
 refine c8 [.tmp 4] func36 ?_;intro y ⟨_,_,_⟩ r H Q hn hr;have:=hz (tc YK (tc YM (tc YP tn)));refine iA [1,2]<|iD YP [1,2] H fun _ H=>vQ<|iA [1,2,10]<|cD H (fun H=>iA [4]<|a7<|fR<|hr H) fun H=>vK<|fQ<|iD YM [1,2] H fun _ H=>vQ<|iA [1,2,16]<|cD H (fun H=>iA [4]<|a7<|fR<|hr H) fun H=>vK<|fQ<|iD YK [1] H fun _ H=>vQ<|iA [1,22]<|cD H (fun H=>iA [4]<|a7<|fR<|hr H) fun H=>vK<|fQ<|iA [4]<|a7<|hr H
def LC(a:Bw)(e:Int):Option Int :=
 gd ((P0 a.1 e).isSome/\True)<|lt (vl (P0 a.1 e)) fun c =>
 if(decide (c<0)) then
  some (-1)
 else
  gd ((P0 a.2.1 c).isSome/\True)<|lt (vl (P0 a.2.1 c)) fun b =>
  if(decide (b<0)) then
   some (-1)
  else
   gd ((P0 a.2.2 b).isSome/\True)<|lt (vl (P0 a.2.2 b)) fun d =>
   if(decide (d<0)) then
    some (-1)
   else
    some d
def R0P:Ct:=b9 269 [.agg y342,.dat i64] (fun x=>LC x.1 x.2.1) (fun r:Int=>I r) (fun _=>())
theorem YR:Ok prog R0P:=by
 refine c8 [.tmp 4] func269 ?_;intro y ⟨_,_,_⟩ r H Q hn hr;have:=hz (tc AS tn);refine iA [1,2]<|iD AS [1,2] H fun _ H=>vQ<|iA [1,2,10]<|cD H (fun H=>iA [4]<|a7<|fR<|hr H) fun H=>vK<|fQ<|iD AS [1,2] H fun _ H=>vQ<|iA [1,2,16]<|cD H (fun H=>iA [4]<|a7<|fR<|hr H) fun H=>vK<|fQ<|iD AS [1] H fun _ H=>vQ<|iA [1,22]<|cD H (fun H=>iA [4]<|a7<|fR<|hr H) fun H=>vK<|fQ<|iA [4]<|a7<|hr H
def YS:Int->Option Int
 | a =>
 some a
def G0V(b:List Bw)(e:Int×Int->Option Int):Int×Int->Option Int
 | (c,a) =>
 if(decide (a < (b.length:Int))) then
  gd (ix a b.length/\(LC (b.getD a.toNat (a6 y342)) c).isSome/\True)<|lt (vl (LC (b.getD a.toNat (a6 y342)) c)) fun d =>
  if(decide (d<0)) then
   some (-1)
  else
   gd (b7 (a+1)/\True) <|
   e (d,a+1)
 else
  YS c
def Hk(a:List Bw)(b:Int):Option Int :=
 gd (b7 (b-(a.length:Int))/\True) <|
 if(decide (b-(a.length:Int)<0)) then
  some (-1)
 else
  lp (G0V a) ((b-(a.length:Int),0))
def S0c:Ct:=b9 251 [.dat y342.sl,.dat i64] (fun x=>Hk x.1 x.2.1) (fun r:Int=>I r) (fun _=>())
theorem Tx:Ok prog S0c:=by
 refine c8 [.tmp 4] func251 ?_;intro y ⟨a,g,_⟩ r H Q hn hr;have:=hz (tc YR tn);refine iA [0,1]<|iB [0,1] H fun H=>vQ<|iA [0,1,11]<|cD H (fun H=>iA [4]<|a7<|fR<|hr H) fun H=>vK<|fQ<|jN r (fun(d:Int)=>Z [p 1 (I d)] []) (YS) (fun d H=>?_) (fun _ i k e=>?_)
 ·refine iA [4]<|a7<|hr H
 refine iA [0,1,5]<|vB<|lX (fun((b,c):Int×Int)=>Z [p 0 (L y342 a),p 1 (I b),p 5 (I c)] []) ((g-(a.length:Int),0)) H fun _ l j h f ⟨b,c⟩ H=>vQ<|iA [0,1,5,15]<|cD H (fun H=>?_) (fun H=>?_)
 ·refine vK<|fQ<|vQ<|vB<|iD YR [0,1,5] H fun _ H=>iA [0,1,5,25]<|cD H (fun H=>iA [4]<|a7<|c9<|fR<|f<|c9<|e<|hr H) fun H=>vK<|fK<|fQ<|jB [0,1,5] H fun H=>j H
 exact vE<|fE<|h<|fX rfl<|i H
def LD(a:Ci)(c:Int):Option Int :=
 gd ((Hk a.2.2.2.2.1 c).isSome/\True)<|lt (vl (Hk a.2.2.2.2.1 c)) fun b =>
 if(decide (b<0)) then
  some (-1)
 else
  gd ((Hk a.2.2.2.2.2 b).isSome/\True)<|lt (vl (Hk a.2.2.2.2.2 b)) fun d =>
  if(decide (d<0)) then
   some (-1)
  else
   some d
def S0t:Ct:=b9 224 [.agg y300,.dat i64] (fun x=>LD x.1 x.2.1) (fun r:Int=>I r) (fun _=>())
theorem YT:Ok prog S0t:=by
 refine c8 [.tmp 4] func224 ?_;intro y ⟨_,_,_⟩ r H Q hn hr;have:=hz (tc Tx tn);refine iA [1,2]<|iD Tx [1,2] H fun _ H=>vQ<|iA [1,2,10]<|cD H (fun H=>iA [4]<|a7<|fR<|hr H) fun H=>vK<|fQ<|iD Tx [1] H fun _ H=>vQ<|iA [1,16]<|cD H (fun H=>iA [4]<|a7<|fR<|hr H) fun H=>vK<|fQ<|iA [4]<|a7<|hr H
def YU:Int->Option Int
 | a =>
 some a
def H0x(b:List Ci)(e:Int×Int->Option Int):Int×Int->Option Int
 | (c,a) =>
 if(decide (a < (b.length:Int))) then
  gd (ix a b.length/\(LD (b.getD a.toNat (a6 y300)) c).isSome/\True)<|lt (vl (LD (b.getD a.toNat (a6 y300)) c)) fun d =>
  if(decide (d<0)) then
   some (-1)
  else
   gd (b7 (a+1)/\True) <|
   e (d,a+1)
 else
  YU c
def LF(a:List Ci)(b:Int):Option Int :=
 gd (b7 (b-(a.length:Int))/\True) <|
 if(decide (b-(a.length:Int)<0)) then
  some (-1)
 else
  lp (H0x a) ((b-(a.length:Int),0))
def T0d:Ct:=b9 183 [.dat y300.sl,.dat i64] (fun x=>LF x.1 x.2.1) (fun r:Int=>I r) (fun _=>())
theorem YV:Ok prog T0d:=by
 refine c8 [.tmp 4] func183 ?_;intro y ⟨a,g,_⟩ r H Q hn hr;have:=hz (tc YT tn);refine iA [0,1]<|iB [0,1] H fun H=>vQ<|iA [0,1,11]<|cD H (fun H=>iA [4]<|a7<|fR<|hr H) fun H=>vK<|fQ<|jN r (fun(d:Int)=>Z [p 1 (I d)] []) (YU) (fun d H=>?_) (fun _ i k e=>?_)
 ·refine iA [4]<|a7<|hr H
 refine iA [0,1,5]<|vB<|lX (fun((b,c):Int×Int)=>Z [p 0 (L y300 a),p 1 (I b),p 5 (I c)] []) ((g-(a.length:Int),0)) H fun _ l j h f ⟨b,c⟩ H=>vQ<|iA [0,1,5,15]<|cD H (fun H=>?_) (fun H=>?_)
 ·refine vK<|fQ<|vQ<|vB<|iD YT [0,1,5] H fun _ H=>iA [0,1,5,25]<|cD H (fun H=>iA [4]<|a7<|c9<|fR<|f<|c9<|e<|hr H) fun H=>vK<|fK<|fQ<|jB [0,1,5] H fun H=>j H
 exact vE<|fE<|h<|fX rfl<|i H
def LG(a:Cj)(b:Int):Option Int :=
 gd (b7 (b-(a.1.size:Int))/\True) <|
 if(decide (b-(a.1.size:Int)<0)) then
  some (-1)
 else
  some (b-(a.1.size:Int))
def S0u:Ct:=b9 223 [.agg y296,.dat i64] (fun x=>LG x.1 x.2.1) (fun r:Int=>I r) (fun _=>())
theorem YW:Ok prog S0u:=by
 refine c8 [.tmp 4] func223 ?_;intro y ⟨_,_,_⟩ r H Q hn hr;refine iA [1,2]<|iB [1] H fun H=>vQ<|iA [1,11]<|cD H (fun H=>iA [4]<|a7<|fR<|hr H) fun H=>vK<|fQ<|iA [4]<|a7<|hr H
def YX:Int->Option Int
 | a =>
 some a
def H0z(b:List Cj)(e:Int×Int->Option Int):Int×Int->Option Int
 | (c,a) =>
 if(decide (a < (b.length:Int))) then
  gd (ix a b.length/\(LG (b.getD a.toNat (a6 y296)) c).isSome/\True)<|lt (vl (LG (b.getD a.toNat (a6 y296)) c)) fun d =>
  if(decide (d<0)) then
   some (-1)
  else
   gd (b7 (a+1)/\True) <|
   e (d,a+1)
 else
  YX c
def LH(a:List Cj)(b:Int):Option Int :=
 gd (b7 (b-(a.length:Int))/\True) <|
 if(decide (b-(a.length:Int)<0)) then
  some (-1)
 else
  lp (H0z a) ((b-(a.length:Int),0))
def T0e:Ct:=b9 182 [.dat y296.sl,.dat i64] (fun x=>LH x.1 x.2.1) (fun r:Int=>I r) (fun _=>())
theorem YY:Ok prog T0e:=by
 refine c8 [.tmp 4] func182 ?_;intro y ⟨a,g,_⟩ r H Q hn hr;have:=hz (tc YW tn);refine iA [0,1]<|iB [0,1] H fun H=>vQ<|iA [0,1,11]<|cD H (fun H=>iA [4]<|a7<|fR<|hr H) fun H=>vK<|fQ<|jN r (fun(d:Int)=>Z [p 1 (I d)] []) (YX) (fun d H=>?_) (fun _ i k e=>?_)
 ·refine iA [4]<|a7<|hr H
 refine iA [0,1,5]<|vB<|lX (fun((b,c):Int×Int)=>Z [p 0 (L y296 a),p 1 (I b),p 5 (I c)] []) ((g-(a.length:Int),0)) H fun _ l j h f ⟨b,c⟩ H=>vQ<|iA [0,1,5,15]<|cD H (fun H=>?_) (fun H=>?_)
 ·refine vK<|fQ<|vQ<|vB<|iD YW [0,1,5] H fun _ H=>iA [0,1,5,25]<|cD H (fun H=>iA [4]<|a7<|c9<|fR<|f<|c9<|e<|hr H) fun H=>vK<|fK<|fQ<|jB [0,1,5] H fun H=>j H
 exact vE<|fE<|h<|fX rfl<|i H
def LI(a:Z8)(b:Int):Option Int :=
 gd (b7 (b-(a.1.size:Int))/\True) <|
 if(decide (b-(a.1.size:Int)<0)) then
  some (-1)
 else
  gd ((LH a.2.2.1 (b-(a.1.size:Int))).isSome/\True)<|lt (vl (LH a.2.2.1 (b-(a.1.size:Int)))) fun d =>
  if(decide (d<0)) then
   some (-1)
  else
   gd ((LF a.2.2.2.1 d).isSome/\True)<|lt (vl (LF a.2.2.2.1 d)) fun c =>
   if(decide (c<0)) then
    some (-1)
   else
    gd ((P0 a.2.2.2.2.1 c).isSome/\True)<|lt (vl (P0 a.2.2.2.2.1 c)) fun e =>
    if(decide (e<0)) then
     some (-1)
    else
     some e
def T0V:Ct:=b9 134 [.agg y216,.dat i64] (fun x=>LI x.1 x.2.1) (fun r:Int=>I r) (fun _=>())
theorem YZ:Ok prog T0V:=by
 refine c8 [.tmp 4] func134 ?_;intro y ⟨_,_,_⟩ r H Q hn hr;have:=hz (tc AS (tc YV (tc YY tn)));refine iA [1,2]<|iB [1,2] H fun H=>vQ<|iA [1,2,11]<|cD H (fun H=>iA [4]<|a7<|fR<|hr H) fun H=>vK<|fQ<|iD YY [1,2] H fun _ H=>vQ<|iA [1,2,17]<|cD H (fun H=>iA [4]<|a7<|fR<|hr H) fun H=>vK<|fQ<|iD YV [1,2] H fun _ H=>vQ<|iA [1,2,23]<|cD H (fun H=>iA [4]<|a7<|fR<|hr H) fun H=>vK<|fQ<|iD AS [1] H fun _ H=>vQ<|iA [1,29]<|cD H (fun H=>iA [4]<|a7<|fR<|hr H) fun H=>vK<|fQ<|iA [4]<|a7<|hr H
def Za:Int->Option Int
 | a =>
 some a
def K0G(b:List Z8)(e:Int×Int->Option Int):Int×Int->Option Int
 | (c,a) =>
 if(decide (a < (b.length:Int))) then
  gd (ix a b.length/\(LI (b.getD a.toNat (a6 y216)) c).isSome/\True)<|lt (vl (LI (b.getD a.toNat (a6 y216)) c)) fun d =>
  if(decide (d<0)) then
   some (-1)
  else
   gd (b7 (a+1)/\True) <|
   e (d,a+1)
 else
  Za c
def LJ(a:List Z8)(b:Int):Option Int :=
 gd (b7 (b-(a.length:Int))/\True) <|
 if(decide (b-(a.length:Int)<0)) then
  some (-1)
 else
  lp (K0G a) ((b-(a.length:Int),0))
def k78:Ct:=b9 78 [.dat y216.sl,.dat i64] (fun x=>LJ x.1 x.2.1) (fun r:Int=>I r) (fun _=>())
theorem Zb:Ok prog k78:=by
 refine c8 [.tmp 4] func78 ?_;intro y ⟨a,g,_⟩ r H Q hn hr;have:=hz (tc YZ tn);refine iA [0,1]<|iB [0,1] H fun H=>vQ<|iA [0,1,11]<|cD H (fun H=>iA [4]<|a7<|fR<|hr H) fun H=>vK<|fQ<|jN r (fun(d:Int)=>Z [p 1 (I d)] []) (Za) (fun d H=>?_) (fun _ i k e=>?_)
 ·refine iA [4]<|a7<|hr H
 refine iA [0,1,5]<|vB<|lX (fun((b,c):Int×Int)=>Z [p 0 (L y216 a),p 1 (I b),p 5 (I c)] []) ((g-(a.length:Int),0)) H fun _ l j h f ⟨b,c⟩ H=>vQ<|iA [0,1,5,15]<|cD H (fun H=>?_) (fun H=>?_)
 ·refine vK<|fQ<|vQ<|vB<|iD YZ [0,1,5] H fun _ H=>iA [0,1,5,25]<|cD H (fun H=>iA [4]<|a7<|c9<|fR<|f<|c9<|e<|hr H) fun H=>vK<|fK<|fQ<|jB [0,1,5] H fun H=>j H
 exact vE<|fE<|h<|fX rfl<|i H
def LK(b:List Z8)(c:Int):Option Int :=
 gd ((LJ b c).isSome/\True)<|lt (vl (LJ b c)) fun a =>
 if(decide (a<0)) then
  some (-1)
 else
  some a
def k35:Ct:=b9 35 [.agg y216.sl,.dat i64] (fun x=>LK x.1 x.2.1) (fun r:Int=>I r) (fun _=>())
theorem Zc:Ok prog k35:=by
 refine c8 [.tmp 4] func35 ?_;intro y ⟨_,_,_⟩ r H Q hn hr;have:=hz (tc Zb tn);refine iA [1,2]<|iD Zb [1] H fun _ H=>vQ<|iA [1,10]<|cD H (fun H=>iA [4]<|a7<|fR<|hr H) fun H=>vK<|fQ<|iA [4]<|a7<|hr H
def u7(a:Ck)(e:Int):Option Int :=
 gd ((LK a.1 e).isSome/\True)<|lt (vl (LK a.1 e)) fun c =>
 if(decide (c<0)) then
  some (-1)
 else
  gd ((LA a.2.1 c).isSome/\True)<|lt (vl (LA a.2.1 c)) fun b =>
  if(decide (b<0)) then
   some (-1)
  else
   gd ((Lu a.2.2 b).isSome/\True)<|lt (vl (Lu a.2.2 b)) fun d =>
   if(decide (d<0)) then
    some (-1)
   else
    some d
def k7:Ct:=b9 7 [.agg T3,.dat i64] (fun x=>u7 x.1 x.2.1) (fun r:Int=>I r) (fun _=>())
theorem o7:Ok prog k7:=by
 refine c8 [.tmp 4] func7 ?_;intro y ⟨_,_,_⟩ r H Q hn hr;have:=hz (tc YH (tc YQ (tc Zc tn)));refine iA [1,2]<|iD Zc [1,2] H fun _ H=>vQ<|iA [1,2,10]<|cD H (fun H=>iA [4]<|a7<|fR<|hr H) fun H=>vK<|fQ<|iD YQ [1,2] H fun _ H=>vQ<|iA [1,2,16]<|cD H (fun H=>iA [4]<|a7<|fR<|hr H) fun H=>vK<|fQ<|iD YH [1] H fun _ H=>vQ<|iA [1,22]<|cD H (fun H=>iA [4]<|a7<|fR<|hr H) fun H=>vK<|fQ<|iA [4]<|a7<|hr H
def u8(a:Cm)(b:Int):Option Int :=
 gd (b7 (b-(a.1.size:Int))/\True) <|
 if(decide (b-(a.1.size:Int)<0)) then
  some (-1)
 else
  some (b-(a.1.size:Int))
def k8:Ct:=b9 8 [.agg T4,.dat i64] (fun x=>u8 x.1 x.2.1) (fun r:Int=>I r) (fun _=>())
theorem o8:Ok prog k8:=by
 refine c8 [.tmp 4] func8 ?_;intro y ⟨_,_,_⟩ r H Q hn hr;refine iA [1,2]<|iB [1] H fun H=>vQ<|iA [1,11]<|cD H (fun H=>iA [4]<|a7<|fR<|hr H) fun H=>vK<|fQ<|iA [4]<|a7<|hr H
def u9(a:List AT)(b:Int):Option Int :=
 gd (b7 (b-(a.length:Int))/\True) <|
 if(decide (b-(a.length:Int)<0)) then
  some (-1)
 else
  some (b-(a.length:Int))
def k9:Ct:=b9 9 [.dat y106.sl,.dat i64] (fun x=>u9 x.1 x.2.1) (fun r:Int=>I r) (fun _=>())
theorem o9:Ok prog k9:=by
 refine c8 [.tmp 4] func9 ?_;intro y ⟨_,_,_⟩ r H Q hn hr;refine iA [0,1]<|iB [1] H fun H=>vQ<|iA [1,10]<|cD H (fun H=>iA [4]<|a7<|fR<|hr H) fun H=>vK<|fQ<|iA [4]<|a7<|hr H
def LL(a:List Dg)(b:Int):Option Int :=
 gd (b7 (b-(a.length:Int))/\True) <|
 if(decide (b-(a.length:Int)<0)) then
  some (-1)
 else
  some (b-(a.length:Int))
def k39:Ct:=b9 39 [.dat y104.sl,.dat i64] (fun x=>LL x.1 x.2.1) (fun r:Int=>I r) (fun _=>())
theorem Tz:Ok prog k39:=by
 refine c8 [.tmp 4] func39 ?_;intro y ⟨_,_,_⟩ r H Q hn hr;refine iA [0,1]<|iB [1] H fun H=>vQ<|iA [1,10]<|cD H (fun H=>iA [4]<|a7<|fR<|hr H) fun H=>vK<|fQ<|iA [4]<|a7<|hr H
def TA(a:List Bool)(b:Int):Option Int :=
 gd (b7 (b-(a.length:Int))/\True) <|
 if(decide (b-(a.length:Int)<0)) then
  some (-1)
 else
  some (b-(a.length:Int))
def k38:Ct:=b9 38 [.dat Ty.bool.sl,.dat i64] (fun x=>TA x.1 x.2.1) (fun r:Int=>I r) (fun _=>())
theorem Zd:Ok prog k38:=by
 refine c8 [.tmp 4] func38 ?_;intro y ⟨_,_,_⟩ r H Q hn hr;refine iA [0,1]<|iB [1] H fun H=>vQ<|iA [1,10]<|cD H (fun H=>iA [4]<|a7<|fR<|hr H) fun H=>vK<|fQ<|iA [4]<|a7<|hr H
def LM(a:LN)(e:Int):Option Int :=
 gd ((TA a.1 e).isSome/\True)<|lt (vl (TA a.1 e)) fun c =>
 if(decide (c<0)) then
  some (-1)
 else
  gd ((LL a.2.1 c).isSome/\True)<|lt (vl (LL a.2.1 c)) fun b =>
  if(decide (b<0)) then
   some (-1)
  else
   gd ((LL a.2.2 b).isSome/\True)<|lt (vl (LL a.2.2 b)) fun d =>
   if(decide (d<0)) then
    some (-1)
   else
    some d
def TB:Ct:=b9 10 [.agg FQ,.dat i64] (fun x=>LM x.1 x.2.1) (fun r:Int=>I r) (fun _=>())
theorem Pt:Ok prog TB:=by
 refine c8 [.tmp 4] func10 ?_;intro y ⟨_,_,_⟩ r H Q hn hr;have:=hz (tc Tz (tc Zd tn));refine iA [1,2]<|iD Zd [1,2] H fun _ H=>vQ<|iA [1,2,10]<|cD H (fun H=>iA [4]<|a7<|fR<|hr H) fun H=>vK<|fQ<|iD Tz [1,2] H fun _ H=>vQ<|iA [1,2,16]<|cD H (fun H=>iA [4]<|a7<|fR<|hr H) fun H=>vK<|fQ<|iD Tz [1] H fun _ H=>vQ<|iA [1,22]<|cD H (fun H=>iA [4]<|a7<|fR<|hr H) fun H=>vK<|fQ<|iA [4]<|a7<|hr H
def Cn(a:l9)(b:Int):Option Int :=
 if(b==0) then
  some a.1
 else
  some a.2
def k91:Ct:=b9 91 [.agg y73,.dat i64] (fun x=>Cn x.1 x.2.1) (fun r:Int=>I r) (fun _=>())
theorem TC:Ok prog k91:=by
 refine c8 [.tmp 4] func91 ?_;intro y ⟨_,_,_⟩ r H Q hn hr;refine iA [1,2]<|vQ<|iA [2,6]<|cD H (fun H=>iA [4]<|a7<|fR<|hr H) fun H=>vK<|fQ<|iA [4]<|a7<|hr H
def X5(b:Int)(a:Int)(c:Int):Option Int :=
 gd (0<a/\True) <|
 gd (0<a/\True) <|
 if(decide (b.tmod a<0)&&c==0) then
  gd (b7 (b.tdiv a-1)/\True) <|
  some (b.tdiv a-1)
 else
  if(decide (0<b.tmod a)&&c==1) then
   gd (b7 (b.tdiv a+1)/\True) <|
   some (b.tdiv a+1)
  else
   some (b.tdiv a)
def S0V:Ct:=b9 191 [.dat i64,.dat i64,.dat i64] (fun x=>X5 x.1 x.2.1 x.2.2.1) (fun r:Int=>I r) (fun _=>())
theorem FR:Ok prog S0V:=by
 refine c8 [.tmp 6] func191 ?_;intro y ⟨_,_,_,_⟩ r H Q hn hr;refine iA [0,1,2]<|iB [0,1,2,7] H fun H=>iB [2,7,8] H fun H=>vQ<|iA [2,7,8,20]<|cD H (fun H=>iB [6] H fun H=>a7<|fR<|hr H) fun H=>vK<|fQ<|vQ<|iA [7,28]<|cD H (fun H=>iB [6] H fun H=>a7<|fR<|hr H) fun H=>vK<|fQ<|iA [6]<|a7<|hr H
def TD:Int->Option Int
 | a =>
 some a
def LO(b:Int)(c:Int):Int->Option Int
 | a =>
 gd (((b==1)=true/\True->b7 (a*a))/\True) <|
 if(b==1&&decide (a*a<c)) then
  gd (b7 (a+1)/\True) <|
  TD (a+1)
 else
  TD a
def Pu(d:Int)(e:Int)(c:Int×Int->Option Int):Int×Int->Option Int
 | (a,b) =>
 if(decide (a<b)) then
  gd (b7 (a+b)/\b7 (a+b+(1:Int))/\(0:Int) < (2:Int)/\True) <|
  gd (b7 ((a+b+1).tdiv 2*(a+b+1).tdiv 2)/\True) <|
  if(decide ((a+b+1).tdiv 2*(a+b+1).tdiv 2<=d)) then
   c (((a+b+1).tdiv 2,b))
  else
   gd (b7 ((a+b+1).tdiv 2-1)/\True) <|
   c ((a,(a+b+1).tdiv 2-1))
 else
  LO e d a
def Dh(a:Int)(b:Int):Option Int :=
 lp (Pu a b) (0,2000000000)
def S0o:Ct:=b9 229 [.dat i64,.dat i64] (fun x=>Dh x.1 x.2.1) (fun r:Int=>I r) (fun _=>())
theorem Q0o:Ok prog S0o:=by
 refine c8 [.tmp 4] func229 ?_;intro y ⟨a,b,_⟩ r H Q hn hr;refine iA [0,1]<|iA [0,1,5,6]<|jN r (fun(f:Int)=>Z [p 0 (J a),p 1 (J b),p 5 (I f)] []) (LO b a) (fun f H=>?_) (fun _ j m l=>?_)
 ·refine jN r (fun(c:Int)=>Z [p 5 (I c)] []) (TD) (fun c H=>?_) (fun _ d k q=>?_)
  ·refine iA [4]<|a7<|hr H
  refine iB [5,32] H fun H=>cD H (fun H=>jB [5] H fun H=>d H) fun H=>vK<|d H
 refine vB<|lX (fun((g,e):Int×Int)=>Z [p 0 (J a),p 1 (J b),p 5 (I g),p 6 (I e)] []) (0,2000000000) H fun _ o h i n ⟨g,e⟩ H=>vQ<|iA [0,1,5,6,10]<|cD H (fun H=>?_) (fun H=>?_)
 ·refine vK<|fQ<|vB<|iB [0,1,5,6,7] H fun H=>iB [0,1,5,6,7,20] H fun H=>cD H (fun H=>jA [0,1,5,6]<|fK<|h H) fun H=>jB [0,1,5,6] H fun H=>fK<|h H
 exact vE<|fE<|i<|fX rfl<|j H
def Hl(c:List l5)(b:q9)(a:F3):Option Int :=
 if(decide (a.1<0)) then
  some 0
 else
  gd (ix a.1 b.1.length/\ix (b.1.getD a.1.toNat (a6 y155)).2.1 c.length/\ix a.2.1 (c.getD (b.1.getD a.1.toNat (a6 y155)).2.1.toNat (a6 y153)).2.2.1.length/\True)<|lt ((c.getD (b.1.getD a.1.toNat (a6 y155)).2.1.toNat (a6 y153)).2.2.1.getD a.2.1.toNat (a6 y293)) fun d =>
  some d.2.2.1
def R0X:Ct:=b9 256 [.agg y153.sl,.agg y53,.agg C9] (fun x=>Hl x.1 x.2.1 x.2.2.1) (fun r:Int=>I r) (fun _=>())
theorem Q0g:Ok prog R0X:=by
 refine c8 [.tmp 6] func256 ?_;intro y ⟨c,d,b,_⟩ r H Q hn hr;refine iA [3,4,5]<|vQ<|iA [3,4,5,9]<|cD H (fun H=>iA [6]<|a7<|fR<|hr H) fun H=>vK<|fQ<|qD (fun a=>Z [p 6 (J a.2.2.1)] [(5,K 226 C9 b),(4,K 53 y53 d),(3,bx 49 [L y153 c])]) H fun a H=>a7<|hr H
def Ze:List F3->Option (List F3)
 | a =>
 some a
def Zf(b:q9)(e:Int×List F3->Option (List F3)):Int×List F3->Option (List F3)
 | (a,c) =>
 if(decide (a < (b.2.2.length:Int))) then
  gd (ix a b.2.2.length/\ix a b.2.2.length/\(c.length+[(-1,a,(b.2.2.getD a.toNat (a6 y231)).2.2,(b.2.2.getD a.toNat (a6 y231)).2.1==1)].length<=9223372036854775807/\(c.length+[(-1,a,(b.2.2.getD a.toNat (a6 y231)).2.2,(b.2.2.getD a.toNat (a6 y231)).2.1==1)].length)*32<=140737488355328)/\True)<|lt ((c++[(-1,a,(b.2.2.getD a.toNat (a6 y231)).2.2,(b.2.2.getD a.toNat (a6 y231)).2.1==1)],[(-1,a,(b.2.2.getD a.toNat (a6 y231)).2.2,(b.2.2.getD a.toNat (a6 y231)).2.1==1)])) fun(d,_) =>
  gd (b7 (a+1)/\True) <|
  e (a+1,d)
 else
  Ze c
def LP(b:q9):List F3->Option (List F3)
 | a =>
 lp (Zf b) (0,a)
def TE(b:Int)(c:Int×List F3->Option (List F3)):List F3->Option (List F3)
 | a =>
 gd (b7 (b+1)/\True) <|
 c (b+1,a)
def Zg(d:Int)(b:H2)(g:Int×List F3->Option (List F3))(f:Int×List F3->Option (List F3)):Int×List F3->Option (List F3)
 | (a,c) =>
 if(decide (a < (b.2.2.length:Int))) then
  gd (ix a b.2.2.length/\b7 ((b.2.2.length:Int)-1)/\(c.length+[(d,a,b.2.2.getD a.toNat 0,a==(b.2.2.length:Int)-1)].length<=9223372036854775807/\(c.length+[(d,a,b.2.2.getD a.toNat 0,a==(b.2.2.length:Int)-1)].length)*32<=140737488355328)/\True)<|lt ((c++[(d,a,b.2.2.getD a.toNat 0,a==(b.2.2.length:Int)-1)],[(d,a,b.2.2.getD a.toNat 0,a==(b.2.2.length:Int)-1)])) fun(e,_) =>
  gd (b7 (a+1)/\True) <|
  f (a+1,e)
 else
  TE d g c
def Zh(a:q9)(e:Int×List F3->Option (List F3)):Int×List F3->Option (List F3)
 | (b,d) =>
 if(decide (b < (a.1.length:Int))) then
  gd (ix b a.1.length/\True)<|lt (a.1.getD b.toNat (a6 y155)) fun c =>
  lp (Zg b c e) (0,d)
 else
  LP a d
def M7(a:q9):Option (List F3) :=
 lp (Zh a) (0,[])
def U0f:Ct:=b9 118 [.agg y53] (fun x=>M7 x.1) (fun r:List F3=>AV.ow 226 true C9 r) (fun _=>())
theorem Bx:Ok prog U0f:=by
 refine c8 [.tmp 2] func118 ?_;intro y ⟨a,_⟩ r H Q hn hr;refine iA [1]<|iA [1,3]<|jN r (fun(f:List F3)=>Z [p 1 (R 1),p 3 (O 8)] [(8,A 226 C9 f 0),(1,K 53 y53 a)]) (LP a) (fun f H=>?_) (fun _ x Y t0=>?_)
 ·refine jN r (fun(n:List F3)=>Z [p 3 (O 8)] [(8,A 226 C9 n 0)]) (Ze) (fun n H=>?_) (fun _ E X T=>?_)
  ·refine iA [2]<|a7<|hr H
  refine iA [1,3,7]<|vB<|lX (fun((c,g):Int×List F3)=>Z [p 1 (R 1),p 3 (O 8),p 7 (I c)] [(8,A 226 C9 g 0),(1,K 53 y53 a)]) (0,f) H fun _ P t v t5 ⟨c,g⟩ H=>vQ<|iA [1,3,7,47]<|cD H (fun H=>?_) (fun H=>?_)
  ·refine vK<|fQ<|vQ<|vB<|zD (fun(m,l)=>Z [p 1 (R 1),p 3 (AV.os 8 1),p 7 (I c)] [(8,A 226 C9 m 1),(66,A 226 C9 l 0),(1,K 53 y53 a)]) H fun⟨m,l⟩ H =>
    fK<|fQ <|
    jB [1,3,7] H fun H =>
    t H
  exact vE<|fE<|v<|fX rfl<|E H
 refine iA [1,3,4]<|vB<|lX (fun((d,o):Int×List F3)=>Z [p 1 (R 1),p 3 (O 8),p 4 (I d)] [(8,A 226 C9 o 0),(1,K 53 y53 a)]) (0,[]) H fun _ F s w t1 ⟨d,o⟩ H=>vQ<|iA [1,3,4,13]<|cD H (fun H=>?_) (fun H=>?_)
 ·refine vK<|fQ<|jN r (fun(k:List F3)=>Z [p 1 (R 1),p 3 (O 8),p 4 (I d)] [(8,A 226 C9 k 0),(1,K 53 y53 a)]) (TE d F) (fun k H=>?_) (fun _ u G V=>?_)
  ·refine jB [1,3,4] H fun H=>s H
  refine vB<|qD (fun b=>Z [p 1 (R 1),p 3 (O 8),p 4 (I d),p 5 (L i64 b.2.2)] [(8,A 226 C9 o 0),(1,K 53 y53 a)]) H fun b H=>iA [1,3,4,5,6]<|vB<|lX (fun((e,i):Int×List F3)=>Z [p 1 (R 1),p 3 (O 8),p 4 (I d),p 5 (L i64 b.2.2),p 6 (I e)] [(8,A 226 C9 i 0),(1,K 53 y53 a)]) (0,o) H fun _ W q z t3 ⟨e,i⟩ H=>vQ<|iA [1,3,4,5,6,25]<|cD H (fun H=>?_) (fun H=>?_)
  ·refine vK<|fQ<|vQ<|vB<|zD (fun(j,h)=>Z [p 1 (R 1),p 3 (AV.os 8 1),p 4 (I d),p 5 (L i64 b.2.2),p 6 (I e)] [(8,A 226 C9 j 1),(41,A 226 C9 h 0),(1,K 53 y53 a)]) H fun⟨j,h⟩ H =>
    fK<|fQ <|
    jB [1,3,4,5,6] H fun H =>
    q H
  exact vE<|fE<|z<|fX rfl<|fK<|u H
 exact vE<|fE<|w<|fX rfl<|x H
def Zi:List Int->Option (List Int)
 | a =>
 some a
def Pv(a:Int)(b:Int×List Int->Option (List Int)):List Int->Option (List Int)
 | c =>
 gd (b7 (a+1)/\True) <|
 b (a+1,c)
def Zj(b:List F3)(d:Int)(e:Int×List Int->Option (List Int)):Int×List Int->Option (List Int)
 | (a,c) =>
 if(decide (a < (b.length:Int))) then
  gd (ix a b.length/\a.toNat<b.length/\(((b.getD a.toNat (a6 C9)).2.2.1==d)=true/\True->ix a b.length)/\(((b.getD a.toNat (a6 C9)).2.2.1==d)=true/\True->a.toNat<b.length)/\True) <|
  if((b.getD a.toNat (a6 C9)).2.2.1==d&&!(b.getD a.toNat (a6 C9)).2.2.2) then
   gd ((c.length+[a].length<=9223372036854775807/\(c.length+[a].length)*8<=140737488355328)/\True) <|
   Pv a e (c++[a])
  else
   Pv a e c
 else
  Zi c
def By(a:q9)(c:Int):Option (List Int) :=
 gd ((M7 a).isSome/\True)<|lt (vl (M7 a)) fun b =>
 lp (Zj b c) (0,[])
def k89:Ct:=b9 89 [.agg y53,.dat i64] (fun x=>By x.1 x.2.1) (fun r:List Int=>AV.ow 2 true i64 r) (fun _=>())
theorem Js:Ok prog k89:=by
 refine c8 [.tmp 4] func89 ?_;intro y ⟨_,g,_⟩ r H Q hn hr;have:=hz (tc Bx tn);refine iA [1,2]<|iA [1,2,5]<|iD Bx [1,5,6] H fun f H=>jN r (fun(d:List Int)=>Z [p 5 (O 8)] [(8,A 2 i64 d 0)]) (Zi) (fun d H=>?_) (fun _ j n m=>?_)
 ·refine iA [4]<|a7<|hr H
 refine iA [1,5,6,7]<|vB<|lX (fun((a,b):Int×List Int)=>Z [p 1 (J g),p 5 (O 8),p 6 (O 10),p 7 (I a)] [(10,A 226 C9 f 0),(8,A 2 i64 b 0)]) (0,[]) H fun _ h k i o ⟨a,b⟩ H=>vQ<|iA [1,5,6,7,14]<|cD H (fun H=>?_) (fun H=>?_)
 ·refine vK<|fQ<|jN r (fun(e:List Int)=>Z [p 1 (J g),p 5 (O 8),p 6 (O 10),p 7 (I a)] [(8,A 2 i64 e 0),(10,A 226 C9 f 0)]) (Pv a h) (fun e H=>?_) (fun _ c l q=>?_)
  ·refine jB [1,5,6,7] H fun H=>k H
  refine vB<|iB [1,5,6,7,31] H fun H=>cD H (fun H=>jB [1,5,6,7] H fun H=>fK<|c H) fun H=>vK<|fK<|c H
 exact vE<|fE<|i<|fX rfl<|j H
def Pw(a:List Int):Option (List Int) :=
 gd ((0+a.length<=9223372036854775807/\(0+a.length)*8<=140737488355328)/\True) <|
 some ([]++a)
def R0Y:Ct:=b9 255 [.dat i64.sl] (fun x=>Pw x.1) (fun r:List Int=>AV.ow 2 true i64 r) (fun _=>())
theorem Zk:Ok prog R0Y:=by
 refine c8 [.tmp 2] func255 ?_;intro y ⟨_,_⟩ r H Q hn hr;refine iA [0]<|iB [2] H fun H=>a7<|hr H
def TF:List Int->Option (List Int)
 | a =>
 some a
def Jt(c:D0)(e:Int×List Int->Option (List Int)):Int×List Int->Option (List Int)
 | (a,b) =>
 if(decide (0<a)) then
  gd (ix a c.1.length/\ix (c.1.getD a.toNat 0) b.length/\Int.toNat (c.1.getD a.toNat 0)<b.length/\ix a b.length/\a.toNat<b.length/\b7 (b.getD (Int.toNat (c.1.getD a.toNat 0)) 0+b.getD a.toNat 0)/\ix (c.1.getD a.toNat 0) b.length/\Int.toNat (c.1.getD a.toNat 0)<b.length/\True)<|lt (b.set (Int.toNat (c.1.getD a.toNat 0)) (b.getD (Int.toNat (c.1.getD a.toNat 0)) 0+b.getD a.toNat 0)) fun d =>
  gd (b7 (a-1)/\True) <|
  e (a-1,d)
 else
  TF b
def Px(b:D0):List Int->Option (List Int)
 | a =>
 gd (b7 ((a.length:Int)-1)/\True) <|
 lp (Jt b) (((a.length:Int)-1,a))
def Zl(d:j0)(f:List F3)(c:List Int)(b:D0)(h:Int×List Int->Option (List Int)):Int×List Int->Option (List Int)
 | (a,e) =>
 if(decide (a < (c.length:Int))) then
  gd (ix a b.2.2.2.length/\ix (b.2.2.2.getD a.toNat 0) e.length/\Int.toNat (b.2.2.2.getD a.toNat 0)<e.length/\ix a c.length/\a.toNat<c.length/\ix (c.getD a.toNat 0) f.length/\Int.toNat (c.getD a.toNat 0)<f.length/\(Hl d.1 d.2.1 (f.getD (Int.toNat (c.getD a.toNat 0)) (a6 C9))).isSome/\b7 (e.getD (Int.toNat (b.2.2.2.getD a.toNat 0)) 0+vl (Hl d.1 d.2.1 (f.getD (Int.toNat (c.getD a.toNat 0)) (a6 C9))))/\ix (b.2.2.2.getD a.toNat 0) e.length/\Int.toNat (b.2.2.2.getD a.toNat 0)<e.length/\True)<|lt ((vl (Hl d.1 d.2.1 (f.getD (Int.toNat (c.getD a.toNat 0)) (a6 C9))),e.set (Int.toNat (b.2.2.2.getD a.toNat 0)) (e.getD (Int.toNat (b.2.2.2.getD a.toNat 0)) 0+vl (Hl d.1 d.2.1 (f.getD (Int.toNat (c.getD a.toNat 0)) (a6 C9)))))) fun(_,g) =>
  gd (b7 (a+1)/\True) <|
  h (a+1,g)
 else
  Px b e
def AU(a:j0)(b:Int):Option (List Int) :=
 gd (ix b a.2.2.length/\True)<|lt (a.2.2.getD b.toNat (a6 y172)) fun c =>
 gd ((Pw c.2.2.1).isSome/\True)<|lt (vl (Pw c.2.2.1)) fun d =>
 gd ((M7 a.2.1).isSome/\True)<|lt (vl (M7 a.2.1)) fun e =>
 gd ((By a.2.1 b).isSome/\True)<|lt (vl (By a.2.1 b)) fun f =>
 lp (Zl a e f c) (0,d)
def S0r:Ct:=b9 226 [.agg j3,.dat i64] (fun x=>AU x.1 x.2.1) (fun r:List Int=>AV.ow 2 true i64 r) (fun _=>())
theorem TH:Ok prog S0r:=by
 refine c8 [.tmp 4] func226 ?_;intro y ⟨g,s,_⟩ r H Q hn hr;have:=hz (tc Q0g (tc Js (tc Bx (tc Zk tn))));refine iA [1,2]<|qD (fun b=>Z [p 1 (J s),p 2 (R 2),p 5 (R 5)] [(5,K 172 y172 b),(2,K 56 j3 g)]) H fun b H=>iD Zk [1,2,5,6] H fun w H=>iD Bx [1,2,5,6,7] H fun k H=>iD Js [2,5,6,7,8] H fun j H=>jN r (fun(a:List Int)=>Z [p 5 (R 5),p 6 (O 18)] [(18,A 2 i64 a 0),(5,K 172 y172 b)]) (Px b) (fun a H=>?_) (fun _ t F T=>?_)
 ·refine jN r (fun(e:List Int)=>Z [p 6 (O 18)] [(18,A 2 i64 e 0)]) (TF) (fun e H=>?_) (fun _ q x z=>?_)
  ·refine iA [4]<|a7<|hr H
  refine iB [5,6,10] H fun H=>vB<|lX (fun((c,f):Int×List Int)=>Z [p 5 (R 5),p 6 (O 18),p 10 (I c)] [(18,A 2 i64 f 0),(5,K 172 y172 b)]) (((a.length:Int)-1,a)) H fun _ E m v P ⟨c,f⟩ H=>vQ<|iA [5,6,10,58]<|cD H (fun H=>vK<|fQ<|vQ<|vB<|zD (fun d=>Z [p 5 (R 5),p 6 (O 18),p 10 (I c)] [(18,A 2 i64 d 0),(5,K 172 y172 b)]) H fun d H=>fK<|fQ<|jB [5,6,10] H fun H=>m H) fun H=>vE<|fE<|v<|fX rfl<|q H
 refine iA [2,5,6,7,8,9]<|vB<|lX (fun((h,i):Int×List Int)=>Z [p 2 (R 2),p 5 (R 5),p 6 (O 18),p 7 (O 21),p 8 (O 25),p 9 (I h)] [(25,A 2 i64 j 0),(21,A 226 C9 k 0),(18,A 2 i64 i 0),(5,K 172 y172 b),(2,K 56 j3 g)]) (0,w) H fun _ V o u G ⟨h,i⟩ H=>vQ<|iA [2,5,6,7,8,9,29]<|cD H (fun H=>?_) (fun H=>?_)
 ·refine vK<|fQ<|vQ<|vB<|zD (fun(n,l)=>Z [p 2 (R 2),p 5 (R 5),p 6 (O 18),p 7 (O 21),p 8 (O 25),p 9 (I h)] [(18,A 2 i64 l 0),(25,A 2 i64 j 0),(21,A 226 C9 k 0),(5,K 172 y172 b),(2,K 56 j3 g)]) H fun⟨n,l⟩ H =>
   fK<|fQ <|
   jB [2,5,6,7,8,9] H fun H =>
   o H
 exact vE<|fE<|u<|fX rfl<|t H
def Zm:List Int->Option (List Int)
 | a =>
 some a
def TJ(b:D0)(d:List Int)(f:Int×List Int->Option (List Int)):Int×List Int->Option (List Int)
 | (a,c) =>
 if(decide (a < (d.length:Int))) then
  gd (ix a b.1.length/\ix (b.1.getD a.toNat 0) c.length/\Int.toNat (b.1.getD a.toNat 0)<c.length/\ix a b.2.1.length/\ix a d.length/\a.toNat<d.length/\b7 (b.2.1.getD a.toNat 0*d.getD a.toNat 0)/\b7 (c.getD (Int.toNat (b.1.getD a.toNat 0)) 0+b.2.1.getD a.toNat 0*d.getD a.toNat 0)/\(c.length+[c.getD (Int.toNat (b.1.getD a.toNat 0)) 0+b.2.1.getD a.toNat 0*d.getD a.toNat 0].length<=9223372036854775807/\(c.length+[c.getD (Int.toNat (b.1.getD a.toNat 0)) 0+b.2.1.getD a.toNat 0*d.getD a.toNat 0].length)*8<=140737488355328)/\True)<|lt ((c++[c.getD (Int.toNat (b.1.getD a.toNat 0)) 0+b.2.1.getD a.toNat 0*d.getD a.toNat 0],[c.getD (Int.toNat (b.1.getD a.toNat 0)) 0+b.2.1.getD a.toNat 0*d.getD a.toNat 0])) fun(e,_) =>
  gd (b7 (a+1)/\True) <|
  f (a+1,e)
 else
  Zm c
def Di(a:j0)(b:Int):Option (List Int) :=
 gd (ix b a.2.2.length/\True)<|lt (a.2.2.getD b.toNat (a6 y172)) fun c =>
 gd ((AU a b).isSome/\True)<|lt (vl (AU a b)) fun d =>
 lp (TJ c d) (1,[0])
def S0p:Ct:=b9 228 [.agg j3,.dat i64] (fun x=>Di x.1 x.2.1) (fun r:List Int=>AV.ow 2 true i64 r) (fun _=>())
theorem TK:Ok prog S0p:=by
 refine c8 [.tmp 4] func228 ?_;intro y ⟨h,i,_⟩ r H Q hn hr;have:=hz (tc TH tn);refine iA [1,2]<|qD (fun a=>Z [p 1 (J i),p 2 (R 2),p 5 (R 5)] [(5,K 172 y172 a),(2,K 56 j3 h)]) H fun a H=>iD TH [5,6] H fun d H=>iA [5,6,7]<|jN r (fun(g:List Int)=>Z [p 7 (O 17)] [(17,A 2 i64 g 0)]) (Zm) (fun g H=>?_) (fun _ k n m=>?_)
 ·refine iA [4]<|a7<|hr H
 refine iA [5,6,7,8]<|vB<|lX (fun((b,c):Int×List Int)=>Z [p 5 (R 5),p 6 (O 16),p 7 (O 17),p 8 (I b)] [(17,A 2 i64 c 0),(16,A 2 i64 d 0),(5,K 172 y172 a)]) (1,[0]) H fun _ q l j o ⟨b,c⟩ H=>vQ<|iA [5,6,7,8,21]<|cD H (fun H=>?_) (fun H=>?_)
 ·refine vK<|fQ<|vQ<|vB<|zD (fun(f,e)=>Z [p 5 (R 5),p 6 (O 16),p 7 (AV.os 17 1),p 8 (I b)] [(17,A 2 i64 f 1),(44,A 2 i64 e 0),(16,A 2 i64 d 0),(5,K 172 y172 a)]) H fun⟨f,e⟩ H =>
   fK<|fQ <|
   jB [5,6,7,8] H fun H =>
   l H
 exact vE<|fE<|j<|fX rfl<|k H
def LQ(c:j0)(d:Int)(f:Int)(b:Int)(e:Int):Option Int :=
 gd ((Di c d).isSome/\ix d c.2.2.length/\ix f (c.2.2.getD d.toNat (a6 y172)).2.2.2.length/\ix ((c.2.2.getD d.toNat (a6 y172)).2.2.2.getD f.toNat 0) (vl (Di c d)).length/\Int.toNat ((c.2.2.getD d.toNat (a6 y172)).2.2.2.getD f.toNat 0) < (vl (Di c d)).length/\True)<|lt ((vl (Di c d),(vl (Di c d)).getD (Int.toNat ((c.2.2.getD d.toNat (a6 y172)).2.2.2.getD f.toNat 0)) 0)) fun(_,a) =>
 gd (b7 (1000000*b)/\b7 (1000000*b*b)/\b7 (4*a)/\b7 (4*a*a)/\b7 (1000000*b*b+4*a*a)/\(Dh (1000000*b*b+4*a*a) e).isSome/\(X5 (vl (Dh (1000000*b*b+4*a*a) e)) 1000 e).isSome/\True)<|lt (vl (X5 (vl (Dh (1000000*b*b+4*a*a) e)) 1000 e)) fun g =>
 some g
def S0T:Ct:=b9 193 [.agg j3,.dat i64,.dat i64,.dat i64,.dat i64] (fun x=>LQ x.1 x.2.1 x.2.2.1 x.2.2.2.1 x.2.2.2.2.1) (fun r:Int=>I r) (fun _=>())
theorem Zn:Ok prog S0T:=by
 refine c8 [.tmp 10] func193 ?_;intro y ⟨d,_,_,e,c,_⟩ r H Q hn hr;have:=hz (tc FR (tc Q0o (tc TK tn)));refine iA [1,2,3,4,5]<|qD (fun(b,a)=>Z [p 3 (J e),p 4 (J c),p 11 (I a)] [(14,A 2 i64 b 0),(5,K 56 j3 d)]) H fun⟨b,a⟩ H =>
  iD FR [10] H fun _ H =>
  a7<|hr H
def Co(a:j0)(b:j2):Option Int :=
 gd ((M7 a.2.1).isSome/\(0:Int) < (2:Int)/\ix (b.2.1.tdiv (2:Int)) (vl (M7 a.2.1)).length/\(b.2.1.tdiv (2:Int)).toNat < (vl (M7 a.2.1)).length/\True)<|lt ((vl (M7 a.2.1),(vl (M7 a.2.1)).getD (b.2.1.tdiv 2).toNat (a6 C9))) fun(_,c) =>
 some c.2.2.1
def S0W:Ct:=b9 190 [.agg j3,.agg y138] (fun x=>Co x.1 x.2.1) (fun r:Int=>I r) (fun _=>())
theorem Zo:Ok prog S0W:=by
 refine c8 [.tmp 4] func190 ?_;intro y ⟨c,d,_⟩ r H Q hn hr;have:=hz (tc Bx tn);refine iA [2,3]<|qD (fun(a,b)=>Z [p 4 (I b.2.2.1)] [(7,A 226 C9 a 0),(3,K 138 y138 d),(2,K 56 j3 c)]) H fun⟨a,b⟩ H =>
  a7<|hr H
def Zp:Unit->Option (Int×Int×Int)
 | _ =>
 some (((0:Int),(1:Int),(0:Int)))
def DU(b:List Int)(c:Int)(d:Int->Option (Int×Int×Int)):Int->Option (Int×Int×Int)
 | a =>
 if(decide (0<=a)) then
  gd (ix a b.length/\True) <|
  if(c==b.getD a.toNat 0) then
   some ((a,(1:Int),(0:Int)))
  else
   gd (ix a b.length/\True) <|
   if(decide (b.getD a.toNat 0<c)) then
    gd (b7 (a+1)/\ix (a+1) b.length/\b7 (b.getD (a+1).toNat 0-c)/\ix a b.length/\b7 (c-b.getD a.toNat 0)/\True) <|
    some ((a,b.getD (a+1).toNat 0-c,c-b.getD a.toNat 0))
   else
    gd (b7 (a-1)/\True) <|
    d (a-1)
 else
  Zp ()
def DV(a:List Int)(c:Int):Option (Int×Int×Int) :=
 gd (ix 0 a.length/\True) <|
 gd (b7 ((a.length:Int)-1)/\ix ((a.length:Int)-1) a.length/\True)<|lt (min (max c (a.getD (Int.toNat (0:Int)) (0:Int))) (a.getD ((a.length:Int)-(1:Int)).toNat (0:Int))) fun b =>
 gd (b7 ((a.length:Int)-1)/\True) <|
 lp (DU a b) ((a.length:Int)-1)
def S0q:Ct:=b9 227 [.dat i64.sl,.dat i64] (fun x=>DV x.1 x.2.1) (fun r:Int×Int×Int=>AV.tup [I r.1,I r.2.1,I r.2.2]) (fun _=>())
theorem TL:Ok prog S0q:=by
 refine c8 [.tmp 4,.tmp 5,.tmp 6] func227 ?_;intro y ⟨a,_,_⟩ r H Q hn hr;refine iA [0,1]<|iA [0,1,7]<|iB [0,1,7] H fun H=>qD (fun b=>Z [p 0 (L i64 a),p 1 (I b),p 7 (I (a.length:Int))] []) H fun b H=>jN r (fun(_:Unit)=>Z [] []) (Zp) (fun _ H=>?_) (fun _ g i d=>?_)
 ·refine iA [4,5,6]<|a7<|hr H
 refine iB [0,1,8] H fun H=>vB<|lX (fun(c:Int)=>Z [p 0 (L i64 a),p 1 (I b),p 8 (I c)] []) ((a.length:Int)-1) H fun _ j h f e c H=>vQ<|iA [0,1,8,26]<|cD H (fun H=>?_) (fun H=>?_)
 ·refine vK<|fQ<|vQ<|vB<|vQ<|iB [0,1,8,34] H fun H=>cD H (fun H=>iA [4,5,6]<|a7<|fR<|c9<|fR<|e<|c9<|d<|hr H) fun H=>vK<|fQ<|iB [0,1,8,41] H fun H=>cD H (fun H=>iB [4,5,6] H fun H=>a7<|c9<|fR<|e<|c9<|d<|hr H) fun H=>vK<|fK<|fQ<|jB [0,1,8] H fun H=>h H
 exact vE<|fE<|f<|fX rfl<|g H
def Py(b:Int×Int×Int)(a:Int×Int×Int)(e:Int):Int->Option Int
 | c =>
 gd (b7 (b.2.1+b.2.2)/\b7 (a.2.1+a.2.2)/\b7 ((b.2.1+b.2.2)*(a.2.1+a.2.2))/\(X5 c ((b.2.1+b.2.2)*(a.2.1+a.2.2)) e).isSome/\True)<|lt (vl (X5 c ((b.2.1+b.2.2)*(a.2.1+a.2.2)) e)) fun d =>
 some d
def TM(a:Int)(c:Int×Int->Option Int):Int->Option Int
 | b =>
 gd (b7 (a+1)/\True) <|
 c (b,a+1)
def Ju(a:Int)(c:Int×Int->Option Int):Int->Option Int
 | b =>
 gd (b7 (a+1)/\True) <|
 c (b,a+1)
def DW(b:Int)(f:Int)(c:q5)(e:Int×Int×Int)(a:Int)(g:Int×Int×Int)(i:Int×Int->Option Int):Int->Option Int
 | d =>
 if(decide (0<d)) then
  gd (b7 (e.1+a)/\b7 ((e.1+a)*(c.2.1.length:Int))/\b7 ((e.1+a)*(c.2.1.length:Int)+g.1)/\b7 ((e.1+a)*(c.2.1.length:Int)+g.1+b)/\ix ((e.1+a)*(c.2.1.length:Int)+g.1+b) c.2.2.length/\b7 (d*c.2.2.getD ((e.1+a)*(c.2.1.length:Int)+g.1+b).toNat 0)/\b7 (f+d*c.2.2.getD ((e.1+a)*(c.2.1.length:Int)+g.1+b).toNat 0)/\True)<|lt (f+d*c.2.2.getD ((e.1+a)*(c.2.1.length:Int)+g.1+b).toNat 0) fun h =>
  Ju b i h
 else
  Ju b i f
def LR(b:Int)(e:Int)(g:q5)(h:Int×Int×Int)(d:Int)(c:Int×Int×Int)(f:Int×Int->Option Int):Int->Option Int
 | a =>
 if(b==0) then
  gd (b7 (a*c.2.1)/\True) <|
  DW b e g h d c f (a*c.2.1)
 else
  gd (b7 (a*c.2.2)/\True) <|
  DW b e g h d c f (a*c.2.2)
def Hm(f:q5)(d:Int×Int×Int)(a:Int)(g:Int×Int×Int)(h:Int×Int->Option Int)(e:Int×Int->Option Int):Int×Int->Option Int
 | (c,b) =>
 if(decide (b<2)) then
  if(a==1) then
   LR b c f d a g e d.2.2
  else
   LR b c f d a g e d.2.1
 else
  TM a h c
def Jv(e:q5)(d:Int×Int×Int)(c:Int×Int×Int)(g:Int)(f:Int×Int->Option Int):Int×Int->Option Int
 | (b,a) =>
 if(decide (a<2)) then
  lp (Hm e d a c f) (b,0)
 else
  Py d c g b
def Cp(a:q5)(c:Int)(b:Int)(f:Int):Option Int :=
 gd ((DV a.1 c).isSome/\True)<|lt (vl (DV a.1 c)) fun e =>
 gd ((DV a.2.1 b).isSome/\True)<|lt (vl (DV a.2.1 b)) fun d =>
 lp (Jv a e d f) (0,0)
def S0Y:Ct:=b9 188 [.agg y269,.dat i64,.dat i64,.dat i64] (fun x=>Cp x.1 x.2.1 x.2.2.1 x.2.2.2.1) (fun r:Int=>I r) (fun _=>())
theorem Pz:Ok prog S0Y:=by
 refine c8 [.tmp 8] func188 ?_;intro y ⟨e,_,_,g,_⟩ r H Q hn hr;have:=hz (tc FR (tc TL tn));refine iA [1,2,3,4]<|iD TL [2,3,4,9,10,11] H fun b H=>iD TL [3,4,9,10,11,12,13,14] H fun a H=>iA [3,4,9,10,11,12,13,14,15]<|iA [3,4,9,10,11,12,13,14,15,16]<|jN r (fun(k:Int)=>Z [p 3 (J g),p 10 (I b.2.1),p 11 (I b.2.2),p 13 (I a.2.1),p 14 (I a.2.2),p 16 (I k)] []) (Py b a g) (fun k H=>?_) (fun _ E W t0=>?_)
 ·refine iD FR [8] H fun _ H=>a7<|hr H
 refine iA [3,4,9,10,11,12,13,14,15,16,17]<|vB<|lX (fun((h,c):Int×Int)=>Z (G2 g b.1 b.2.1 b.2.2 a.1 a.2.1 a.2.2 (e.2.1.length:Int) h [p 17 (I c)]) [(4,K 269 y269 e)]) (0,0) H fun _ w v z t1 ⟨h,c⟩ H=>vQ<|iA [3,4,9,10,11,12,13,14,15,16,17,40]<|cD H (fun H=>?_) (fun H=>?_)
 ·refine vK<|fQ<|jN r (fun(n:Int)=>Z (G2 g b.1 b.2.1 b.2.2 a.1 a.2.1 a.2.2 (e.2.1.length:Int) n [p 17 (I c)]) [(4,K 269 y269 e)]) (TM c w) (fun n H=>?_) (fun _ x G T=>?_)
  ·refine jB [3,4,9,10,11,12,13,14,15,16,17] H fun H=>v H
  refine vB<|iA [3,4,9,10,11,12,13,14,15,16,17,18]<|vB<|lX (fun((f,d):Int×Int)=>Z (G2 g b.1 b.2.1 b.2.2 a.1 a.2.1 a.2.2 (e.2.1.length:Int) f [p 17 (I c),p 18 (I d)]) [(4,K 269 y269 e)]) (h,0) H fun _ o u F t3 ⟨f,d⟩ H=>vQ<|iA [3,4,9,10,11,12,13,14,15,16,17,18,44]<|cD H (fun H=>?_) (fun H=>?_)
  ·refine vK<|fQ<|jN r (fun(l:Int)=>Z (G2 g b.1 b.2.1 b.2.2 a.1 a.2.1 a.2.2 (e.2.1.length:Int) l [p 17 (I c),p 18 (I d)]) [(4,K 269 y269 e)]) (Ju d o) (fun l H=>?_) (fun _ t V P=>?_)
   ·refine jB [3,4,9,10,11,12,13,14,15,16,17,18] H fun H=>u H
   refine vB<|iA [3,4,9,10,11,12,13,14,15,16,17,18,19]<|jN r (fun(j:Int)=>Z (G2 g b.1 b.2.1 b.2.2 a.1 a.2.1 a.2.2 (e.2.1.length:Int) f [p 17 (I c),p 18 (I d),p 19 (I j)]) [(4,K 269 y269 e)]) (LR d f e b c a o) (fun j H=>?_) (fun _ s e5 X=>?_)
   ·refine jN r (fun(i:Int)=>Z (G2 g b.1 b.2.1 b.2.2 a.1 a.2.1 a.2.2 (e.2.1.length:Int) f [p 17 (I c),p 18 (I d),p 19 (I i)]) [(4,K 269 y269 e)]) (DW d f e b c a o) (fun i H=>?_) (fun _ q e6 Y=>?_)
    ·refine iA [3,4,9,10,11,12,13,14,15,16,17,18,19,60]<|cD H (fun H=>zD (fun m=>Z (G2 g b.1 b.2.1 b.2.2 a.1 a.2.1 a.2.2 (e.2.1.length:Int) m [p 17 (I c),p 18 (I d)]) [(4,K 269 y269 e)]) H fun m H=>fK<|t H) fun H=>vK<|fK<|t H
    refine iA [3,4,9,10,11,12,13,14,15,16,17,18,19,52]<|cD H (fun H=>jB [3,4,9,10,11,12,13,14,15,16,17,18,19] H fun H=>q H) fun H=>jB [3,4,9,10,11,12,13,14,15,16,17,18,19] H fun H=>q H
   refine iA [3,4,9,10,11,12,13,14,15,16,17,18,19,49]<|cD H (fun H=>jA [3,4,9,10,11,12,13,14,15,16,17,18,19]<|s H) fun H=>vK<|s H
  exact vE<|fE<|F<|fX rfl<|fK<|x H
 exact vE<|fE<|z<|fX rfl<|E H
def Hn(a:j0)(c:j2):Option (A6×Int) :=
 gd ((M7 a.2.1).isSome/\(0:Int) < (2:Int)/\ix (c.2.1.tdiv (2:Int)) (vl (M7 a.2.1)).length/\(c.2.1.tdiv (2:Int)).toNat < (vl (M7 a.2.1)).length/\True)<|lt ((vl (M7 a.2.1),(vl (M7 a.2.1)).getD (c.2.1.tdiv 2).toNat (a6 C9))) fun(_,b) =>
 gd (ix b.1 a.2.1.1.length/\ix (a.2.1.1.getD b.1.toNat (a6 y155)).2.1 a.1.length/\ix c.2.2.2 (a.1.getD (a.2.1.1.getD b.1.toNat (a6 y155)).2.1.toNat (a6 y153)).2.2.2.1.length/\(AU a b.2.2.1).isSome/\ix (0:Int) (vl (AU a b.2.2.1)).length/\Int.toNat (0:Int) < (vl (AU a b.2.2.1)).length/\True)<|lt ((vl (AU a b.2.2.1),(a.1.getD (a.2.1.1.getD b.1.toNat (a6 y155)).2.1.toNat (a6 y153)).2.2.2.1.getD c.2.2.2.toNat (a6 y158))) fun(d,e) =>
 some ((e,d.getD (Int.toNat (0:Int)) (0:Int)))
def S0Z:Ct:=b9 187 [.agg j3,.agg y138] (fun x=>Hn x.1 x.2.1) (fun r:A6×Int=>AV.tup [AV.agg [I r.1.1,I r.1.2.1,I r.1.2.2.1,I r.1.2.2.2.1,L y269 r.1.2.2.2.2.1,L y269 r.1.2.2.2.2.2],I r.2]) (fun _=>())
theorem PA:Ok prog S0Z:=by
 refine c8 [.cell 4 158,.tmp 5] func187 ?_;intro y ⟨d,e,_⟩ r H Q hn hr;have:=hz (tc TH (tc Bx tn));refine iA [2,3,4]<|qD (fun(c,a)=>Z (Bv [p 4 (R 4),p 6 (R 6)]) [(6,bx 226 (A7 true C9 a)),(9,A 226 C9 c 0),(4,bx 158 [I 0,I 0,I 0,I 0,nil,nil]),(3,K 138 y138 e),(2,K 56 j3 d)]) H fun⟨c,a⟩ H =>
  qD (fun(b,f)=>Z [p 4 (R 4),p 5 (I (b.getD (Int.toNat (0:Int)) (0:Int)))] [(4,K 158 y158 f),(36,A 2 i64 b 0),(6,bx 226 (A7 true C9 a)),(9,A 226 C9 c 0),(3,K 138 y138 e),(2,K 56 j3 d)]) H fun⟨b,f⟩ H =>
  a7<|hr H
def Bz(b:j0)(a:j2)(d:Int)(e:Int):Option Int :=
 if(a.2.2.1==1) then
  gd ((Hn b a).isSome/\True)<|lt (vl (Hn b a)) fun c =>
  gd ((0:Int) < (2:Int)/\ix (a.2.1.tmod (2:Int)) c.1.2.2.2.2.2.length/\(Cp (c.1.2.2.2.2.2.getD (a.2.1.tmod (2:Int)).toNat (a6 y269)) d c.2 e).isSome/\True)<|lt (vl (Cp (c.1.2.2.2.2.2.getD (a.2.1.tmod 2).toNat (a6 y269)) d c.2 e)) fun f =>
  some f
 else
  gd ((Co b a).isSome/\(LQ b (vl (Co b a)) a.2.2.2 d e).isSome/\True)<|lt (vl (LQ b (vl (Co b a)) a.2.2.2 d e)) fun g =>
  some (min 1000000 g)
def T0M:Ct:=b9 143 [.agg j3,.agg y138,.dat i64,.dat i64] (fun x=>Bz x.1 x.2.1 x.2.2.1 x.2.2.2.1) (fun r:Int=>I r) (fun _=>())
theorem TN:Ok prog T0M:=by
 refine c8 [.tmp 8] func143 ?_;intro y ⟨_,_,_,_,_⟩ r H Q hn hr;have:=hz (tc Zn (tc Zo (tc Pz (tc PA tn))));refine iA [2,3,4,5]<|vQ<|iA [2,3,4,5,13]<|cD H (fun H=>iD PA [2,3,5,9,10] H fun _ H=>iD Pz [8] H fun _ H=>a7<|fR<|hr H) fun H=>vK<|fQ<|iD Zn [8] H fun _ H=>a7<|hr H
def Ho(a:p8)(c:Int)(b:Int):Option Int :=
 if(c==1) then
  if(b==0) then
   some a.2.1
  else
   some a.2.2.1
 else
  if(b==0) then
   some a.2.2.2.1
  else
   some a.2.2.2.2
def S0U:Ct:=b9 192 [.agg q4,.dat i64,.dat i64] (fun x=>Ho x.1 x.2.1 x.2.2.1) (fun r:Int=>I r) (fun _=>())
theorem Q0B:Ok prog S0U:=by
 refine c8 [.tmp 6] func192 ?_;intro y ⟨_,_,_,_⟩ r H Q hn hr;refine iA [1,2,3]<|vQ<|iA [2,3,8]<|cD H (fun H=>?_) (fun H=>?_)
 ·refine vQ<|iA [3,10]<|cD H (fun H=>iA [6]<|a7<|fR<|fR<|hr H) fun H=>vK<|fQ<|iA [6]<|a7<|fR<|hr H
 refine vK<|fQ<|vQ<|iA [3,16]<|cD H (fun H=>iA [6]<|a7<|fR<|hr H) fun H=>vK<|fQ<|iA [6]<|a7<|hr H
def Zq:List Int->Option (List Int)
 | a =>
 some a
def Zr(d:List Int)(a:j0)(c:Int)(e:Int)(h:Int×List Int->Option (List Int)):Int×List Int->Option (List Int)
 | (b,f) =>
 gd (ix c a.2.2.length/\True) <|
 if(decide (b < (↑(a.2.2.getD c.toNat (a6 y172)).2.2.2.length:Int))) then
  gd (ix c a.2.2.length/\ix b (a.2.2.getD c.toNat (a6 y172)).2.2.2.length/\ix ((a.2.2.getD c.toNat (a6 y172)).2.2.2.getD b.toNat 0) d.length/\Int.toNat ((a.2.2.getD c.toNat (a6 y172)).2.2.2.getD b.toNat 0)<d.length/\(X5 (d.getD (Int.toNat ((a.2.2.getD c.toNat (a6 y172)).2.2.2.getD b.toNat 0)) 0) 1000 e).isSome/\(f.length+[vl (X5 (d.getD (Int.toNat ((a.2.2.getD c.toNat (a6 y172)).2.2.2.getD b.toNat 0)) 0) 1000 e)].length<=9223372036854775807/\(f.length+[vl (X5 (d.getD (Int.toNat ((a.2.2.getD c.toNat (a6 y172)).2.2.2.getD b.toNat 0)) 0) 1000 e)].length)*8<=140737488355328)/\True)<|lt (vl (X5 (d.getD (Int.toNat ((a.2.2.getD c.toNat (a6 y172)).2.2.2.getD b.toNat 0)) 0) 1000 e)) fun g =>
  gd (b7 (b+1)/\True) <|
  h (b+1,f++[g])
 else
  Zq f
def Hp(a:j0)(b:Int)(d:Int):Option (List Int) :=
 gd ((Di a b).isSome/\True)<|lt (vl (Di a b)) fun c =>
 lp (Zr c a b d) (0,[])
def S0X:Ct:=b9 189 [.agg j3,.dat i64,.dat i64] (fun x=>Hp x.1 x.2.1 x.2.2.1) (fun r:List Int=>AV.ow 2 true i64 r) (fun _=>())
theorem Zs:Ok prog S0X:=by
 refine c8 [.tmp 6] func189 ?_;intro y ⟨e,g,d,_⟩ r H Q hn hr;have:=hz (tc FR (tc TK tn));refine iA [1,2,3]<|iD TK [1,2,3,7] H fun f H=>iA [1,2,3,7,8]<|jN r (fun(b:List Int)=>Z [p 8 (O 13)] [(13,A 2 i64 b 0)]) (Zq) (fun b H=>?_) (fun _ i l k=>?_)
 ·refine iA [6]<|a7<|hr H
 refine iA [1,2,3,7,8,9]<|vB<|lX (fun((c,a):Int×List Int)=>Z [p 1 (J g),p 2 (J d),p 3 (R 3),p 7 (O 12),p 8 (O 13),p 9 (I c)] [(13,A 2 i64 a 0),(12,A 2 i64 f 0),(3,K 56 j3 e)]) (0,[]) H fun _ n j h m ⟨c,a⟩ H=>vQ<|iB [1,2,3,7,8,9,22] H fun H=>cD H (fun H=>vK<|fQ<|vQ<|vB<|jD FR [1,2,3,7,8,9] H fun _ H=>fK<|fQ<|jB [1,2,3,7,8,9] H fun H=>j H) fun H=>vE<|fE<|h<|fX rfl<|i H
def Jw(c:p8)(b:j2)(a:Int):Int->Option Int
 | d =>
 gd ((Ho c b.2.2.1 a).isSome/\b7 (d*vl (Ho c b.2.2.1 a))/\(X5 (d*vl (Ho c b.2.2.1 a)) 1000 a).isSome/\True)<|lt (vl (X5 (d*vl (Ho c b.2.2.1 a)) 1000 a)) fun e =>
 some e
def BA(b:j0)(e:p8)(a:j2)(f:Int)(c:Int):Option Int :=
 if(a.2.2.1==1) then
  gd ((Hn b a).isSome/\True)<|lt (vl (Hn b a)) fun d =>
  gd ((0:Int) < (2:Int)/\ix (a.2.1.tmod (2:Int)) d.1.2.2.2.2.1.length/\(Cp (d.1.2.2.2.2.1.getD (a.2.1.tmod (2:Int)).toNat (a6 y269)) f d.2 c).isSome/\True)<|lt (vl (Cp (d.1.2.2.2.2.1.getD (a.2.1.tmod 2).toNat (a6 y269)) f d.2 c)) fun g =>
  Jw e a c g
 else
  gd ((Co b a).isSome/\(Hp b (vl (Co b a)) c).isSome/\ix a.2.2.2 (vl (Hp b (vl (Co b a)) c)).length/\a.2.2.2.toNat < (vl (Hp b (vl (Co b a)) c)).length/\True)<|lt (vl (Hp b (vl (Co b a)) c)) fun h =>
  Jw e a c (h.getD a.2.2.2.toNat 0)
def T0N:Ct:=b9 142 [.agg j3,.agg q4,.agg y138,.dat i64,.dat i64] (fun x=>BA x.1 x.2.1 x.2.2.1 x.2.2.2.1 x.2.2.2.2.1) (fun r:Int=>I r) (fun _=>())
theorem TO:Ok prog T0N:=by
 refine c8 [.tmp 10] func142 ?_;intro y ⟨_,c,a,_,b,_⟩ r H Q hn hr;have:=hz (tc FR (tc Q0B (tc Zs (tc Zo (tc Pz (tc PA tn))))));refine iA [3,4,5,6,7]<|iA [3,4,5,6,7]<|jN r (fun(e:Int)=>Z [p 4 (J b),p 6 (R 6),p 7 (R 7),p 11 (I e)] [(7,K 138 y138 a),(6,K 58 q4 c)]) (Jw c a b) (fun e H=>?_) (fun _ d g f=>?_)
 ·refine iD FR [10] H fun _ H=>a7<|hr H
 refine iA [3,4,5,6,7,16]<|cD H (fun H=>iD PA [3,4,6,7,12,13] H fun _ H=>jD Pz [4,6,7,11] H fun _ H=>d H) fun H=>jD Zs [4,6,7,11] H fun _ H=>d H
def FT(b:j0)(d:p8)(a:j2)(c:l9):Option (l9×l9) :=
 gd ((BA b d a c.1 0).isSome/\(BA b d a c.1 1).isSome/\True)<|lt ((vl (BA b d a c.1 0),vl (BA b d a c.1 1))) fun(j,f) =>
 gd ((Bz b a c.1 0).isSome/\(Bz b a c.1 1).isSome/\True)<|lt ((vl (Bz b a c.1 0),vl (Bz b a c.1 1))) fun(g,l) =>
 gd ((BA b d a c.2 0).isSome/\True)<|lt (vl (BA b d a c.2 0)) fun h =>
 gd ((BA b d a c.2 1).isSome/\True)<|lt (vl (BA b d a c.2 1)) fun e =>
 gd ((Bz b a c.2 0).isSome/\True)<|lt (vl (Bz b a c.2 0)) fun i =>
 gd ((Bz b a c.2 1).isSome/\True)<|lt (vl (Bz b a c.2 1)) fun k =>
 some (((min j h,max f e),min g i,max l k))
def k92:Ct:=b9 92 [.agg j3,.agg q4,.agg y138,.agg y73] (fun x=>FT x.1 x.2.1 x.2.2.1 x.2.2.2.1) (fun r:l9×l9=>AV.tup [AV.agg [I r.1.1,I r.1.2],AV.agg [I r.2.1,I r.2.2]]) (fun _=>())
theorem PB:Ok prog k92:=by
 refine c8 [.cell 8 73,.cell 9 73] func92 ?_;intro y ⟨d,f,c,h,_⟩ r H Q hn hr;have:=hz (tc TN (tc TO tn));refine iA [4,5,6,7,8,9]<|qD (fun(b,a)=>Z [p 4 (R 4),p 5 (R 5),p 6 (R 6),p 7 (R 7),p 8 (R 8),p 9 (R 9),p 10 (R 10)] [(10,bx 73 [I b,I a]),(9,bx 73 [I 0,I 0]),(8,bx 73 [I 0,I 0]),(7,K 73 y73 h),(6,K 138 y138 c),(5,K 58 q4 f),(4,K 56 j3 d)]) H fun⟨b,a⟩ H =>
  qD (fun(e,g)=>Z [p 4 (R 4),p 5 (R 5),p 6 (R 6),p 7 (R 7),p 8 (R 8),p 9 (R 9),p 10 (R 10),p 11 (R 11)] [(11,bx 73 [I e,I g]),(10,bx 73 [I b,I a]),(9,bx 73 [I 0,I 0]),(8,bx 73 [I 0,I 0]),(7,K 73 y73 h),(6,K 138 y138 c),(5,K 58 q4 f),(4,K 56 j3 d)]) H fun⟨e,g⟩ H =>
  iD TO [4,5,6,7,8,9,10,11] H fun _ H =>
  iD TO [4,6,7,8,9,10,11] H fun _ H =>
  iD TN [4,6,7,8,9,10,11] H fun _ H =>
  iD TN [8,9,10,11] H fun _ H =>
  iA [8,9] <|
  a7<|hr H
def q7(a:Int)(c:Int)(b:Int):Option Bool :=
 some (decide (c<=a)&&decide (a<=b))
def k59:Ct:=b9 59 [.dat i64,.dat i64,.dat i64] (fun x=>q7 x.1 x.2.1 x.2.2.1) (fun r:Bool=>B r) (fun _=>())
theorem AW:Ok prog k59:=by
 refine c8 [.tmp 6] func59 ?_;intro y ⟨_,_,_,_⟩ r H Q hn hr;refine iA [0,1,2]<|iA [6]<|a7<|hr H
def M0(a:j0):Option Int :=
 gd ((M7 a.2.1).isSome/\b7 (2*(↑(vl (M7 a.2.1)).length:Int))/\True)<|lt (vl (M7 a.2.1)) fun b =>
 some (2*(b.length:Int))
def k60:Ct:=b9 60 [.agg j3] (fun x=>M0 x.1) (fun r:Int=>I r) (fun _=>())
theorem Hq:Ok prog k60:=by
 refine c8 [.tmp 2] func60 ?_;intro y ⟨_,_⟩ r H Q hn hr;have:=hz (tc Bx tn);refine iA [1]<|iD Bx [2] H fun _ H=>a7<|hr H
def Zt:Unit->Option (Int×Int)
 | _ =>
 some (((0:Int),(5:Int)))
def TP(a:Int)(b:Int->Option (Int×Int)):Unit->Option (Int×Int)
 | _ =>
 gd (b7 (a+1)/\True) <|
 b (a+1)
def K0O(n:Int)(b:B8)(e:Int)(k:j0)(m:p8)(i:List Bool)(l:Int)(f:List j2)(j:Int->Option (Int×Int)):Int->Option (Int×Int)
 | c =>
 if(decide (c < (f.length:Int))) then
  gd (ix c f.length/\True)<|lt (f.getD c.toNat (a6 y138)) fun a =>
  gd (ix c i.length/\((!i.getD c.toNat false||a.2.1 != l)=false/\True->ix a.1 b.1.length)/\True) <|
  if(!i.getD c.toNat false||a.2.1 != l||!b.1.getD a.1.toNat false) then
   TP c j ()
  else
   gd (ix a.1 b.2.2.length/\(FT k m a (b.2.2.getD a.1.toNat (a6 y73))).isSome/\True)<|lt (vl (FT k m a (b.2.2.getD a.1.toNat (a6 y73)))) fun d =>
   gd (ix a.1 b.2.1.length/\(Cn (b.2.1.getD a.1.toNat (a6 y73)) e).isSome/\(Cn d.1 e).isSome/\b7 (vl (Cn (b.2.1.getD a.1.toNat (a6 y73)) e)+vl (Cn d.1 e))/\True)<|lt ((vl (Cn (b.2.1.getD a.1.toNat (a6 y73)) e),vl (Cn d.1 e))) fun(g,h) =>
   if(g+h==n) then
    some ((c,(0:Int)))
   else
    TP c j ()
 else
  Zt ()
def Zu(f:Int)(e:B8)(c:Int)(b:j0)(g:p8)(h:List Bool)(d:Int)(a:List j2):Unit->Option (Int×Int)
 | _ =>
 lp (K0O f e c b g h d a) 0
def K0P(b:List l7)(c:Int)(e:Int)(d:Int)(h:B8)(g:j0)(j:p8)(l:List Bool)(f:List j2)(i:Int->Option (Int×Int)):Int->Option (Int×Int)
 | a =>
 if(decide (a < (b.length:Int))) then
  gd (ix a b.length/\(((b.getD a.toNat (a6 y75)).1==c)=true/\True->ix a b.length)/\(((b.getD a.toNat (a6 y75)).1==c)=true/\True->(Cn (b.getD a.toNat (a6 y75)).2.1 d).isSome)/\True)<|lt (vl (Cn (b.getD a.toNat (a6 y75)).2.1 d)) fun k =>
  if((b.getD a.toNat (a6 y75)).1==c&&k==e) then
   some (((-1:Int),(0:Int)))
  else
   gd (b7 (a+1)/\True) <|
   i (a+1)
 else
  Zu e h d g j l c f ()
def TQ(b:j0)(h:p8)(e:List j2)(i:List Bool)(f:List l7)(c:B8)(a:Int)(d:Int):Option (Int×Int) :=
 gd ((M0 b).isSome/\b7 (vl (M0 b)-1)/\(q7 a 0 (vl (M0 b)-1)).isSome/\((!vl (q7 a 0 (vl (M0 b)-1)))=false/\True->ix a c.1.length)/\True) <|
 if(!vl (q7 a 0 (vl (M0 b)-1))||!c.1.getD a.toNat false) then
  some (((0:Int),(4:Int)))
 else
  gd (ix a c.2.1.length/\(Cn (c.2.1.getD a.toNat (a6 y73)) d).isSome/\True)<|lt (vl (Cn (c.2.1.getD a.toNat (a6 y73)) d)) fun g =>
  lp (K0P f a g d c b h i e) 0
def k43:Ct:=b9 43 [.agg j3,.agg q4,.dat y138.sl,.dat Ty.bool.sl,.dat y75.sl,.agg y65,.dat i64,.dat i64] (fun x=>TQ x.1 x.2.1 x.2.2.1 x.2.2.2.1 x.2.2.2.2.1 x.2.2.2.2.2.1 x.2.2.2.2.2.2.1 x.2.2.2.2.2.2.2.1) (fun r:Int×Int=>AV.tup [I r.1,I r.2]) (fun _=>())
theorem o43:Ok prog k43:=by
 refine c8 [.tmp 16,.tmp 17] func43 ?_;intro y ⟨b,e,c,f,s,h,d,g,_⟩ r H Q hn hr;have:=hz (tc TC (tc PB (tc AW (tc Hq tn))));refine iA [2,3,4,6,7,8,9,13]<|vQ<|iB [2,3,4,6,7,8,9,13,37] H fun H=>cD H (fun H=>iA [16,17]<|a7<|fR<|hr H) fun H=>vK<|fQ<|iD TC [2,3,4,6,7,8,9,13,18] H fun a H=>jN r (fun(_:Unit)=>Z (G4 c f [p 6 (J d),p 7 (J g),p 8 (R 8),p 9 (R 9),p 13 (R 13),p 18 (I a)]) (Jr h e b)) (Zu a h g b e f d c) (fun _ H=>?_) (fun _ F X T=>?_)
 ·refine jN r (fun(_:Unit)=>Z [] []) (Zt) (fun _ H=>?_) (fun _ x V u=>?_)
  ·refine iA [16,17]<|a7<|hr H
  refine iA [2,3,6,7,8,9,13,18,20]<|vB<|lX (fun(i:Int)=>Z (G4 c f [p 6 (J d),p 7 (J g),p 8 (R 8),p 9 (R 9),p 13 (R 13),p 18 (I a),p 20 (I i)]) (Jr h e b)) 0 H fun _ w q P E i H=>vQ<|iA [2,3,6,7,8,9,13,18,20,72]<|cD H (fun H=>?_) (fun H=>?_)
  ·refine vK<|fQ<|jN r (fun(_:Unit)=>Z (G4 c f [p 6 (J d),p 7 (J g),p 8 (R 8),p 9 (R 9),p 13 (R 13),p 18 (I a),p 20 (I i)]) (Jr h e b)) (TP i w) (fun _ H=>?_) (fun _ o W t=>?_)
   ·refine jB [2,3,6,7,8,9,13,18,20] H fun H=>q H
   refine vB<|qD (fun m=>Z (G4 c f [p 6 (J d),p 7 (J g),p 8 (R 8),p 9 (R 9),p 13 (R 13),p 18 (I a),p 20 (I i),p 21 (R 21)]) ((21,K 138 y138 m)::Jr h e b)) H fun m H=>vQ<|iB [2,3,6,7,8,9,13,18,20,21,98] H fun H=>cD H (fun H=>vE<|fE<|fX rfl<|o H) fun H=>vK<|fQ<|iD PB [2,3,6,7,8,9,13,18,20,21,22] H fun j H=>qD (fun(l,k)=>Z (G4 c f [p 6 (J d),p 7 (J g),p 8 (R 8),p 9 (R 9),p 13 (R 13),p 18 (I a),p 20 (I i),p 125 (B (l+k==a))]) ((23,bx 73 (A7 true y73 j.2))::(22,bx 73 (A7 true y73 j.1))::(21,K 138 y138 m)::Jr h e b)) H fun⟨l,k⟩ H =>
    cD H (fun H=>iA [16,17]<|a7<|c9<|t<|E<|c9<|u<|hr H) fun H=>vK<|fK<|o H
  exact vE<|fE<|P<|fX rfl<|x H
 refine iA [2,3,4,6,7,8,9,13,18,19]<|vB<|lX (fun(n:Int)=>Z (G4 c f [p 4 (L y75 s),p 6 (J d),p 7 (J g),p 8 (R 8),p 9 (R 9),p 13 (R 13),p 18 (I a),p 19 (I n)]) (Jr h e b)) 0 H fun _ Y v G z n H=>vQ<|iA [2,3,4,6,7,8,9,13,18,19,48]<|cD H (fun H=>?_) (fun H=>?_)
 ·refine vK<|fQ<|vQ<|vB<|iD TC [2,3,4,6,7,8,9,13,18,19,68] H fun _ H=>cD H (fun H=>iA [16,17]<|a7<|c9<|fR<|z<|c9<|T<|hr H) fun H=>vK<|fK<|fQ<|jB [2,3,4,6,7,8,9,13,18,19] H fun H=>v H
 exact vE<|fE<|G<|fX rfl<|F H
def Zv:Unit->Option Bool
 | _ =>
 some false
def Zw(b:List Int)(d:Int)(c:Int->Option Bool):Int->Option Bool
 | a =>
 if(decide (a < (b.length:Int))) then
  gd (ix a b.length/\True) <|
  if(b.getD a.toNat 0==d) then
   some true
  else
   gd (b7 (a+1)/\True) <|
   c (a+1)
 else
  Zv ()
def Jx(a:List Int)(b:Int):Option Bool :=
 lp (Zw a b) 0
def k93:Ct:=b9 93 [.dat i64.sl,.dat i64] (fun x=>Jx x.1 x.2.1) (fun r:Bool=>B r) (fun _=>())
theorem o93:Ok prog k93:=by
 refine c8 [.tmp 4] func93 ?_;intro y ⟨b,e,_⟩ r H Q hn hr;refine iA [0,1]<|jN r (fun(_:Unit)=>Z [] []) (Zv) (fun _ H=>?_) (fun _ g i c=>?_)
 ·refine iA [4]<|a7<|hr H
 refine iA [0,1,5]<|vB<|lX (fun(a:Int)=>Z [p 0 (L i64 b),p 1 (J e),p 5 (I a)] []) 0 H fun _ j h f d a H=>vQ<|iA [0,1,5,9]<|cD H (fun H=>?_) (fun H=>?_)
 ·refine vK<|fQ<|vQ<|vB<|iB [0,1,5,17] H fun H=>cD H (fun H=>iA [4]<|a7<|c9<|fR<|d<|c9<|c<|hr H) fun H=>vK<|fK<|fQ<|jB [0,1,5] H fun H=>h H
 exact vE<|fE<|f<|fX rfl<|g H
def Zx:List Bool->Option (List Bool)
 | a =>
 some a
def Zy(c:List Int)(e:List j2)(d:Int×List Bool->Option (List Bool)):Int×List Bool->Option (List Bool)
 | (a,b) =>
 if(decide (a < (e.length:Int))) then
  gd ((Jx c a).isSome/\(b.length+[!vl (Jx c a)].length<=9223372036854775807/\(b.length+[!vl (Jx c a)].length)*1<=140737488355328)/\True) <|
  gd (b7 (a+1)/\True) <|
  d ((a+1,b++[!vl (Jx c a)]))
 else
  Zx b
def T5(a:List j2)(b:List Int):Option (List Bool) :=
 lp (Zy b a) (0,[])
def k44:Ct:=b9 44 [.dat y138.sl,.dat i64.sl] (fun x=>T5 x.1 x.2.1) (fun r:List Bool=>AV.ow 4 true Ty.bool r) (fun _=>())
theorem PC:Ok prog k44:=by
 refine c8 [.tmp 4] func44 ?_;intro y ⟨d,e,_⟩ r H Q hn hr;have:=hz (tc o93 tn);refine iA [0,1]<|iA [0,1,5]<|jN r (fun(b:List Bool)=>Z [p 5 (O 7)] [(7,A 4 Ty.bool b 0)]) (Zx) (fun b H=>?_) (fun _ g j i=>?_)
 ·refine iA [4]<|a7<|hr H
 refine iA [0,1,5,6]<|vB<|lX (fun((c,a):Int×List Bool)=>Z [p 0 (L y138 d),p 1 (L i64 e),p 5 (O 7),p 6 (I c)] [(7,A 4 Ty.bool a 0)]) (0,[]) H fun _ l h f k ⟨c,a⟩ H=>vQ<|iA [0,1,5,6,11]<|cD H (fun H=>vK<|fQ<|vQ<|vB<|jB [0,1,5,6] H fun H=>fK<|fQ<|jB [0,1,5,6] H fun H=>h H) fun H=>vE<|fE<|f<|fX rfl<|g H
def FU(e:List j2)(b:Int)(a:Int)(d:Int)(c:Int)(g:Int)(f:Int):Option (List j2) :=
 gd (b7 (2*b)/\b7 (2*b+d)/\b7 (2*a)/\b7 (2*a+c)/\(e.length+[(2*b+d,2*a+c,g,f)].length<=9223372036854775807/\(e.length+[(2*b+d,2*a+c,g,f)].length)*32<=140737488355328)/\True) <|
 some (e++[(2*b+d,2*a+c,g,f)])
def k90:Ct:=b9 90 [.os 138 y138,.dat i64,.dat i64,.dat i64,.dat i64,.dat i64,.dat i64] (fun x=>FU x.1 x.2.1 x.2.2.1 x.2.2.2.1 x.2.2.2.2.1 x.2.2.2.2.2.1 x.2.2.2.2.2.2.1) (fun r:List j2=>AV.ow 138 true y138 r) (fun _=>())
theorem LS:Ok prog k90:=by
 refine c8 [.tmp 14] func90 ?_;intro y ⟨_,_,_,_,_,_,_,_⟩ r H Q hn hr;refine iA [0,1,2,3,4,5,6]<|iB [14] H fun H=>a7<|hr H
def Zz:Unit->Option Int
 | _ =>
 some (-1)
def ZA(b:List F3)(c:Int)(d:Int->Option Int):Int->Option Int
 | a =>
 if(decide (a < (b.length:Int))) then
  gd (ix a b.length/\a.toNat<b.length/\(((b.getD a.toNat (a6 C9)).2.2.1==c)=true/\True->ix a b.length)/\(((b.getD a.toNat (a6 C9)).2.2.1==c)=true/\True->a.toNat<b.length)/\True) <|
  if((b.getD a.toNat (a6 C9)).2.2.1==c&&(b.getD a.toNat (a6 C9)).2.2.2) then
   some a
  else
   gd (b7 (a+1)/\True) <|
   d (a+1)
 else
  Zz ()
def LU(a:q9)(c:Int):Option Int :=
 gd ((M7 a).isSome/\True)<|lt (vl (M7 a)) fun b =>
 lp (ZA b c) 0
def k88:Ct:=b9 88 [.agg y53,.dat i64] (fun x=>LU x.1 x.2.1) (fun r:Int=>I r) (fun _=>())
theorem ZB:Ok prog k88:=by
 refine c8 [.tmp 4] func88 ?_;intro y ⟨_,e,_⟩ r H Q hn hr;have:=hz (tc Bx tn);refine iA [1,2]<|iD Bx [1,5] H fun c H=>jN r (fun(_:Unit)=>Z [] []) (Zz) (fun _ H=>?_) (fun _ g i b=>?_)
 ·refine iA [4]<|a7<|hr H
 refine iA [1,5,6]<|vB<|lX (fun(a:Int)=>Z [p 1 (J e),p 5 (O 8),p 6 (I a)] [(8,A 226 C9 c 0)]) 0 H fun _ j h f d a H=>vQ<|iA [1,5,6,12]<|cD H (fun H=>?_) (fun H=>?_)
 ·refine vK<|fQ<|vQ<|vB<|iB [1,5,6,28] H fun H=>cD H (fun H=>iA [4]<|a7<|c9<|fR<|d<|c9<|b<|hr H) fun H=>vK<|fK<|fQ<|jB [1,5,6] H fun H=>h H
 exact vE<|fE<|f<|fX rfl<|g H
def ZC:List j2->Option (List j2)
 | a =>
 some a
def TR(b:Int)(c:Int×List j2->Option (List j2)):List j2->Option (List j2)
 | a =>
 gd (b7 (b+1)/\True) <|
 c (b+1,a)
def PD(a:Int)(c:Int×List j2->Option (List j2)):List j2->Option (List j2)
 | b =>
 gd (b7 (a+1)/\True) <|
 c (a+1,b)
def FV(a:Int)(b:List j2)(e:Int)(i:Int)(h:Int)(g:Int)(f:Int×List j2->Option (List j2)):Bool->Option (List j2)
 | c =>
 if c then
  gd ((FU b e i h a 1 g).isSome/\True)<|lt (vl (FU b e i h a 1 g)) fun d =>
  PD a f d
 else
  PD a f b
def TS(e:Int)(h:Int)(c:Int)(g:Int)(d:A6)(i:Int×List j2->Option (List j2))(f:Int×List j2->Option (List j2)):Int×List j2->Option (List j2)
 | (a,b) =>
 if(decide (a<=1)) then
  if(d.1==1) then
   FV a b e h c g f (d.2.2.2.1==3||(d.2.2.2.1==1)==(c==a))
  else
   if(d.1==2) then
    FV a b e h c g f (c==0)
   else
    if(d.1==3) then
     FV a b e h c g f (c==1)
    else
     FV a b e h c g f false
 else
  TR c i b
def PE(c:Int)(g:Int)(d:Int)(f:A6)(e:Int×List j2->Option (List j2)):Int×List j2->Option (List j2)
 | (b,a) =>
 if(decide (b<=1)) then
  lp (TS c g b d f e) (0,a)
 else
  ZC a
def Hr(c:List j2)(d:A6)(a:Int)(e:Int)(b:Int):Option (List j2) :=
 lp (PE a e b d) (0,c)
def k86:Ct:=b9 86 [.os 138 y138,.agg y158,.dat i64,.dat i64,.dat i64] (fun x=>Hr x.1 x.2.1 x.2.2.1 x.2.2.2.1 x.2.2.2.2.1) (fun r:List j2=>AV.ow 138 true y138 r) (fun _=>())
theorem ZD:Ok prog k86:=by
 refine c8 [.tmp 10] func86 ?_;intro y ⟨s,k,f,g,e,_⟩ r H Q hn hr;have:=hz (tc LS tn);refine iA [0,2,3,4,6]<|jN r (fun(i:List j2)=>Z [p 0 (O 500000)] [(500000,A 138 y138 i 0)]) (ZC) (fun i H=>?_) (fun _ w T t0=>?_)
 ·refine iA [10]<|a7<|hr H
 refine iA [0,2,3,4,6,11]<|vB<|lX (fun((c,d):Int×List j2)=>Z (Lr f g e c []) [(6,K 158 y158 k),(500000,A 138 y138 d 0)]) (0,s) H fun _ z t v W ⟨c,d⟩ H=>vQ<|iA [0,2,3,4,6,11,15]<|cD H (fun H=>?_) (fun H=>?_)
 ·refine vK<|fQ<|jN r (fun(j:List j2)=>Z (Lr f g e c []) [(6,K 158 y158 k),(500000,A 138 y138 j 0)]) (TR c z) (fun j H=>?_) (fun _ u E G=>?_)
  ·refine jB [0,2,3,4,6,11] H fun H=>t H
  refine vB<|iA [0,2,3,4,6,11,12]<|vB<|lX (fun((a,b):Int×List j2)=>Z (Lr f g e c [p 12 (I a)]) [(6,K 158 y158 k),(500000,A 138 y138 b 0)]) (0,d) H fun _ n q x Y ⟨a,b⟩ H=>vQ<|iA [0,2,3,4,6,11,12,19]<|cD H (fun H=>?_) (fun H=>?_)
  ·refine vK<|fQ<|jN r (fun(l:List j2)=>Z (Lr f g e c [p 12 (I a)]) [(500000,A 138 y138 l 0),(6,K 158 y158 k)]) (PD a n) (fun l H=>?_) (fun _ o P F=>?_)
   ·refine jB [0,2,3,4,6,11,12] H fun H=>q H
   refine vB<|iA [0,2,3,4,6,11,12,13]<|jN r (fun(h:Bool)=>Z (Lr f g e c [p 12 (I a),p 13 (B h)]) [(6,K 158 y158 k),(500000,A 138 y138 b 0)]) (FV a b f g c e n) (fun h H=>?_) (fun _ m X V=>?_)
   ·refine iA [0,2,3,4,6,11,12,46]<|cD H (fun H=>jD LS [0,2,3,4,6,11,12] H fun _ H=>fK<|o H) fun H=>vK<|fK<|o H
   refine iA [0,2,3,4,6,11,12,13,23]<|vB<|iA [0,2,3,4,6,11,12,13,23,24]<|cD H (fun H=>jA [0,2,3,4,6,11,12,13]<|fK<|m H) fun H=>iA [0,2,3,4,6,11,12,13,23,38]<|cD H (fun H=>jA [0,2,3,4,6,11,12,13]<|fK<|m H) fun H=>iA [0,2,3,4,6,11,12,13,42]<|cD H (fun H=>jA [0,2,3,4,6,11,12,13]<|fK<|m H) fun H=>vK<|fK<|m H
  exact vE<|fE<|x<|fX rfl<|fK<|u H
 exact vE<|fE<|v<|fX rfl<|w H
def ZE:Unit->Option Int
 | _ =>
 some (-1)
def ZF(b:List F3)(c:Int)(d:Int)(e:Int->Option Int):Int->Option Int
 | a =>
 if(decide (a < (b.length:Int))) then
  gd (ix a b.length/\a.toNat<b.length/\(((b.getD a.toNat (a6 C9)).1==c)=true/\True->ix a b.length)/\(((b.getD a.toNat (a6 C9)).1==c)=true/\True->a.toNat<b.length)/\True) <|
  if((b.getD a.toNat (a6 C9)).1==c&&(b.getD a.toNat (a6 C9)).2.1==d) then
   some a
  else
   gd (b7 (a+1)/\True) <|
   e (a+1)
 else
  ZE ()
def Z9(a:q9)(d:Int)(c:Int):Option Int :=
 gd ((M7 a).isSome/\True)<|lt (vl (M7 a)) fun b =>
 lp (ZF b d c) 0
def k87:Ct:=b9 87 [.agg y53,.dat i64,.dat i64] (fun x=>Z9 x.1 x.2.1 x.2.2.1) (fun r:Int=>I r) (fun _=>())
theorem o87:Ok prog k87:=by
 refine c8 [.tmp 6] func87 ?_;intro y ⟨_,f,b,_⟩ r H Q hn hr;have:=hz (tc Bx tn);refine iA [1,2,3]<|iD Bx [1,2,7] H fun d H=>jN r (fun(_:Unit)=>Z [] []) (ZE) (fun _ H=>?_) (fun _ h j c=>?_)
 ·refine iA [6]<|a7<|hr H
 refine iA [1,2,7,8]<|vB<|lX (fun(a:Int)=>Z [p 1 (J f),p 2 (J b),p 7 (O 10),p 8 (I a)] [(10,A 226 C9 d 0)]) 0 H fun _ k i g e a H=>vQ<|iA [1,2,7,8,14]<|cD H (fun H=>?_) (fun H=>?_)
 ·refine vK<|fQ<|vQ<|vB<|iB [1,2,7,8,32] H fun H=>cD H (fun H=>iA [6]<|a7<|c9<|fR<|e<|c9<|c<|hr H) fun H=>vK<|fK<|fQ<|jB [1,2,7,8] H fun H=>i H
 exact vE<|fE<|g<|fX rfl<|h H
def ZG:List j2->Option (List j2)
 | a =>
 some a
def TT(a:Int)(c:Int×List j2->Option (List j2)):List j2->Option (List j2)
 | b =>
 gd (b7 (a+1)/\True) <|
 c (a+1,b)
def ZH(c:Int)(b:List Int)(g:Int)(i:Int×List j2->Option (List j2))(h:Int×List j2->Option (List j2)):Int×List j2->Option (List j2)
 | (a,d) =>
 if(decide (a < (b.length:Int))) then
  gd (ix a b.length/\a.toNat<b.length/\(FU d c (b.getD a.toNat 0) 0 0 2 a).isSome/\True)<|lt (vl (FU d c (b.getD a.toNat 0) 0 0 2 a)) fun e =>
  gd (ix a b.length/\a.toNat<b.length/\(FU e c (b.getD a.toNat 0) 1 1 2 a).isSome/\True)<|lt (vl (FU e c (b.getD a.toNat 0) 1 1 2 a)) fun f =>
  gd (b7 (a+1)/\True) <|
  h (a+1,f)
 else
  TT g i d
def ZI(c:j0)(f:Int×List j2->Option (List j2)):Int×List j2->Option (List j2)
 | (a,b) =>
 if(decide (a < (c.2.1.2.1.length:Int))) then
  gd ((LU c.2.1 a).isSome/\True)<|lt (vl (LU c.2.1 a)) fun e =>
  gd ((By c.2.1 a).isSome/\True)<|lt (vl (By c.2.1 a)) fun d =>
  lp (ZH e d a f) (0,b)
 else
  ZG b
def PF(b:j0):List j2->Option (List j2)
 | a =>
 lp (ZI b) (0,a)
def TU(b:Int)(c:Int×List j2->Option (List j2)):List j2->Option (List j2)
 | a =>
 gd (b7 (b+1)/\True) <|
 c (b+1,a)
def LV(a:Int)(c:Int×List j2->Option (List j2)):List j2->Option (List j2)
 | b =>
 gd (b7 (a+1)/\True) <|
 c (a+1,b)
def ZJ(b:l5)(e:j0)(d:Int)(h:Int×List j2->Option (List j2))(g:Int×List j2->Option (List j2)):Int×List j2->Option (List j2)
 | (a,c) =>
 if(decide (a < (b.2.2.2.1.length:Int))) then
  gd (ix a b.2.2.2.1.length/\True) <|
  if(decide ((b.2.2.2.1.getD a.toNat (a6 y158)).1<=3)) then
   gd (ix a b.2.2.2.1.length/\ix a b.2.2.2.1.length/\(Z9 e.2.1 d (b.2.2.2.1.getD a.toNat (a6 y158)).2.1).isSome/\ix a b.2.2.2.1.length/\(Z9 e.2.1 d (b.2.2.2.1.getD a.toNat (a6 y158)).2.2.1).isSome/\(Hr c (b.2.2.2.1.getD a.toNat (a6 y158)) (vl (Z9 e.2.1 d (b.2.2.2.1.getD a.toNat (a6 y158)).2.1)) (vl (Z9 e.2.1 d (b.2.2.2.1.getD a.toNat (a6 y158)).2.2.1)) a).isSome/\True)<|lt (vl (Hr c (b.2.2.2.1.getD a.toNat (a6 y158)) (vl (Z9 e.2.1 d (b.2.2.2.1.getD a.toNat (a6 y158)).2.1)) (vl (Z9 e.2.1 d (b.2.2.2.1.getD a.toNat (a6 y158)).2.2.1)) a)) fun f =>
   LV a g f
  else
   LV a g c
 else
  TU d h c
def ZK(a:j0)(e:Int×List j2->Option (List j2)):Int×List j2->Option (List j2)
 | (b,d) =>
 if(decide (b < (a.2.1.1.length:Int))) then
  gd (ix b a.2.1.1.length/\ix (a.2.1.1.getD b.toNat (a6 y155)).2.1 a.1.length/\True)<|lt (a.1.getD (a.2.1.1.getD b.toNat (a6 y155)).2.1.toNat (a6 y153)) fun c =>
  lp (ZJ c a b e) (0,d)
 else
  PF a d
def AA(a:j0):Option (List j2) :=
 lp (ZK a) (0,[])
def k42:Ct:=b9 42 [.agg j3] (fun x=>AA x.1) (fun r:List j2=>AV.ow 138 true y138 r) (fun _=>())
theorem Dj:Ok prog k42:=by
 refine c8 [.tmp 2] func42 ?_;intro y ⟨a,_⟩ r H Q hn hr;have:=hz (tc LS (tc Js (tc ZB (tc ZD (tc o87 tn)))));refine iA [1]<|iA [1,3]<|iA [1,3,4]<|jN r (fun(g:List j2)=>Z [p 3 (O 12),p 4 (R 4)] [(4,K 53 y53 a.2.1),(12,A 138 y138 g 0)]) (PF a) (fun g H=>?_) (fun _ T e0 t0=>?_)
 ·refine jN r (fun(m:List j2)=>Z [p 3 (O 12)] [(12,A 138 y138 m 0)]) (ZG) (fun m H=>?_) (fun _ V e5 t5=>?_)
  ·refine iA [2]<|a7<|hr H
  refine iA [3,4,8]<|vB<|lX (fun((b,f):Int×List j2)=>Z [p 3 (O 12),p 4 (R 4),p 8 (I b)] [(4,K 53 y53 a.2.1),(12,A 138 y138 f 0)]) (0,g) H fun _ F w x t6 ⟨b,f⟩ H=>vQ<|iA [3,4,8,73]<|cD H (fun H=>?_) (fun H=>?_)
  ·refine vK<|fQ<|jN r (fun(l:List j2)=>Z [p 3 (O 12),p 4 (R 4),p 8 (I b)] [(4,K 53 y53 a.2.1),(12,A 138 y138 l 0)]) (TT b F) (fun l H=>?_) (fun _ v e7 t7=>?_)
   ·refine jB [3,4,8] H fun H=>w H
   refine vB<|iD ZB [3,4,8,9] H fun s H=>iD Js [3,4,8,9,10] H fun q H=>iA [3,4,8,9,10,11]<|vB<|lX (fun((i,j):Int×List j2)=>Z [p 3 (O 12),p 4 (R 4),p 8 (I b),p 9 (I s),p 10 (O 81),p 11 (I i)] [(81,A 2 i64 q 0),(4,K 53 y53 a.2.1),(12,A 138 y138 j 0)]) (0,f) H fun _ g8 b8 Y t8 ⟨i,j⟩ H=>vQ<|iA [3,4,8,9,10,11,85]<|cD H (fun H=>vK<|fQ<|vQ<|vB<|iD LS [3,4,8,9,10,11] H fun _ H=>jD LS [3,4,8,9,10,11] H fun _ H=>fK<|fQ<|jB [3,4,8,9,10,11] H fun H=>b8 H) fun H=>vE<|fE<|Y<|fX rfl<|fK<|v H
  exact vE<|fE<|x<|fX rfl<|V H
 refine iA [1,3,4,5]<|vB<|lX (fun((e,o):Int×List j2)=>Z (Ls e []) [(4,K 53 y53 a.2.1),(12,A 138 y138 o 0),(1,K 56 j3 a)]) (0,[]) H fun _ X z P t1 ⟨e,o⟩ H=>vQ<|iA [1,3,4,5,19]<|cD H (fun H=>?_) (fun H=>?_)
 ·refine vK<|fQ<|jN r (fun(n:List j2)=>Z (Ls e []) [(4,K 53 y53 a.2.1),(12,A 138 y138 n 0),(1,K 56 j3 a)]) (TU e X) (fun n H=>?_) (fun _ G e2 t2=>?_)
  ·refine jB [1,3,4,5] H fun H=>z H
  refine vB<|qD (fun c=>Z (Ls e [p 6 (L y158 c.2.2.2.1)]) [(4,K 53 y53 a.2.1),(12,A 138 y138 o 0),(1,K 56 j3 a)]) H fun c H=>iA [1,3,4,5,6,7]<|vB<|lX (fun((d,k):Int×List j2)=>Z (Ls e [p 6 (L y158 c.2.2.2.1),p 7 (I d)]) [(4,K 53 y53 a.2.1),(12,A 138 y138 k 0),(1,K 56 j3 a)]) (0,o) H fun _ E u W t3 ⟨d,k⟩ H=>vQ<|iA [1,3,4,5,6,7,37]<|cD H (fun H=>?_) (fun H=>?_)
  ·refine vK<|fQ<|jN r (fun(h:List j2)=>Z (Ls e [p 6 (L y158 c.2.2.2.1),p 7 (I d)]) [(12,A 138 y138 h 0),(4,K 53 y53 a.2.1),(1,K 56 j3 a)]) (LV d E) (fun h H=>?_) (fun _ t e4 t4=>?_)
   ·refine jB [1,3,4,5,6,7] H fun H=>u H
   refine vB<|iB [1,3,4,5,6,7,45] H fun H=>cD H (fun H=>jD ZD [1,3,4,5,6,7] H fun _ H=>fK<|t H) fun H=>vK<|fK<|t H
  exact vE<|fE<|W<|fX rfl<|fK<|G H
 exact vE<|fE<|P<|fX rfl<|T H
def TV(a:Int):Option Bool :=
 some (a==0||a==1)
def k41:Ct:=b9 41 [.dat i64] (fun x=>TV x.1) (fun r:Bool=>B r) (fun _=>())
theorem o41:Ok prog k41:=by
 refine c8 [.tmp 2] func41 ?_;intro y ⟨_,_⟩ r H Q hn hr;refine iA [0]<|iA [2]<|a7<|hr H
def ZL:List Int->Option (List Int×Bool)
 | a =>
 some (a,true)
def Jy(c:List Bool)(b:List Int)(d:Int)(e:List Bool×List Int->Option (List Int×Bool)):Int->Option (List Int×Bool)
 | a =>
 if(a==d) then
  some ([],false)
 else
  gd (ix a c.length/\a.toNat<c.length/\True) <|
  gd ((b.length+[a].length<=9223372036854775807/\(b.length+[a].length)*8<=140737488355328)/\True) <|
  e (c.set a.toNat true,b++[a])
def ZM(d:List Bool)(f:List Int)(c:Int)(b:List Bool)(g:List Bool×List Int->Option (List Int×Bool))(e:Int->Option (List Int×Bool)):Int->Option (List Int×Bool)
 | a =>
 gd ((decide (a<c)=true/\True->ix a d.length)/\(decide (a<c)=true/\True->a.toNat<d.length)/\(d.getD a.toNat false=false/\decide (a<c)=true/\True->ix a b.length)/\(d.getD a.toNat false=false/\decide (a<c)=true/\True->a.toNat<b.length)/\True) <|
 if(decide (a<c)&&(d.getD a.toNat false||b.getD a.toNat false)) then
  gd (b7 (a+1)/\True) <|
  e (a+1)
 else
  Jy d f c g a
def LW(e:List Bool)(c:List Int)(b:Int)(d:List Bool×List Int->Option (List Int×Bool)):List Bool->Option (List Int×Bool)
 | a =>
 lp (ZM e c b a d) 0
def TW(a:Int)(c:Int×List Bool->Option (List Int×Bool)):List Bool->Option (List Int×Bool)
 | b =>
 gd (b7 (a+1)/\True) <|
 c (a+1,b)
def ZN(c:List j2)(d:List Bool)(e:List Bool)(i:List Int)(h:Int)(g:List Bool×List Int->Option (List Int×Bool))(f:Int×List Bool->Option (List Int×Bool)):Int×List Bool->Option (List Int×Bool)
 | (a,b) =>
 if(decide (a < (c.length:Int))) then
  gd (ix a d.length/\(d.getD a.toNat false=true/\True->ix a c.length)/\(d.getD a.toNat false=true/\True->ix (c.getD a.toNat (a6 y138)).1 e.length)/\(d.getD a.toNat false=true/\True->(c.getD a.toNat (a6 y138)).1.toNat<e.length)/\True) <|
  if(d.getD a.toNat false&&!e.getD (c.getD a.toNat (a6 y138)).1.toNat false) then
   gd (ix a c.length/\ix (c.getD a.toNat (a6 y138)).2.1 b.length/\(c.getD a.toNat (a6 y138)).2.1.toNat<b.length/\True) <|
   TW a f (b.set (c.getD a.toNat (a6 y138)).2.1.toNat true)
  else
   TW a f b
 else
  LW e i h g b
def ZO(f:List j2)(c:List Bool)(a:Int)(d:List Bool×List Int->Option (List Int×Bool)):List Bool×List Int->Option (List Int×Bool)
 | (e,b) =>
 if(decide ((b.length:Int)<a)) then
  gd ((0<=a/\a=a/\a.toNat*1<=281474976710656/\a<=9223372036854775807)/\True) <|
  lp (ZN f c e b a d) (0,List.replicate a.toNat false)
 else
  ZL b
def LX(a:Int)(c:List j2)(b:List Bool):Option (List Int×Bool) :=
 gd ((0<=a/\a=a/\a.toNat*1<=281474976710656/\a<=9223372036854775807)/\True) <|
 lp (ZO c b a) (List.replicate a.toNat false,[])
def T0f:Ct:=b9 178 [.dat i64,.dat y138.sl,.dat Ty.bool.sl] (fun x=>LX x.1 x.2.1 x.2.2.1) (fun r:List Int×Bool=>AV.tup [AV.ow 2 true i64 r.1,B r.2]) (fun _=>())
theorem Q0F:Ok prog T0f:=by
 refine c8 [.tmp 6,.tmp 7] func178 ?_;intro y ⟨a,g,f,_⟩ r H Q hn hr;refine iA [0,1,2]<|iA [0,1,2,8]<|iB [0,1,2,8,9] H fun H=>jN r (fun(l:List Int)=>Z [p 8 (O 13)] [(13,A 2 i64 l 0)]) (ZL) (fun l H=>?_) (fun _ x X F=>?_)
 ·refine iA [6,7]<|a7<|hr H
 refine vB<|lX (fun((b,c):List Bool×List Int)=>Z (G6 a g f []) [(15,A 4 Ty.bool b 0),(13,A 2 i64 c 0)]) (List.replicate a.toNat false,[]) H fun _ n s w v ⟨b,c⟩ H=>vQ<|iA [0,1,2,8,9,19]<|cD H (fun H=>?_) (fun H=>?_)
 ·refine vK<|fQ<|vB<|iB [0,1,2,8,9,10] H fun H=>jN r (fun(e:List Bool)=>Z (G6 a g f [p 10 (O 21)]) [(21,A 4 Ty.bool e 0),(15,A 4 Ty.bool b 0),(13,A 2 i64 c 0)]) (LW b c a n) (fun e H=>?_) (fun _ u P V=>?_)
  ·refine iA [0,1,2,8,9,10,12]<|jN r (fun(k:Int)=>Z (G6 a g f [p 12 (I k)]) [(15,A 4 Ty.bool b 0),(13,A 2 i64 c 0)]) (Jy b c a n) (fun k H=>?_) (fun _ z e5 Y=>?_)
   ·refine vQ<|iA [0,1,2,8,9,12,69]<|cD H (fun H=>iA [6,7]<|a7<|fR<|c9<|v<|c9<|F<|hr H) fun H=>vK<|fQ<|iB [0,1,2,8,9,12] H fun H=>jB [0,1,2,8,9] H fun H=>fK<|s H
   refine vB<|lX (fun(h:Int)=>Z (G6 a g f [p 10 (O 21),p 12 (I h)]) [(21,A 4 Ty.bool e 0),(15,A 4 Ty.bool b 0),(13,A 2 i64 c 0)]) 0 H fun _ g6 q G t6 h H=>vQ<|iB [0,1,2,8,9,10,12,64] H fun H=>cD H (fun H=>vK<|fQ<|vB<|jB [0,1,2,8,9,10,12] H fun H=>fK<|q H) fun H=>vE<|fE<|G<|fX rfl<|z H
  refine iA [0,1,2,8,9,10,11]<|vB<|lX (fun((d,j):Int×List Bool)=>Z (G6 a g f [p 10 (O 21),p 11 (I d)]) [(21,A 4 Ty.bool j 0),(15,A 4 Ty.bool b 0),(13,A 2 i64 c 0)]) (0,List.replicate a.toNat false) H fun _ t o E t3 ⟨d,j⟩ H=>vQ<|iA [0,1,2,8,9,10,11,25]<|cD H (fun H=>?_) (fun H=>?_)
  ·refine vK<|fQ<|jN r (fun(i:List Bool)=>Z (G6 a g f [p 10 (O 21),p 11 (I d)]) [(21,A 4 Ty.bool i 0),(15,A 4 Ty.bool b 0),(13,A 2 i64 c 0)]) (TW d t) (fun i H=>?_) (fun _ m W T=>?_)
   ·refine jB [0,1,2,8,9,10,11] H fun H=>o H
   refine vB<|iB [0,1,2,8,9,10,11,42] H fun H=>cD H (fun H=>jB [0,1,2,8,9,10,11] H fun H=>fK<|m H) fun H=>vK<|fK<|m H
  exact vE<|fE<|E<|fX rfl<|u H
 exact vE<|fE<|w<|fX rfl<|x H
def ZP:Unit->Option Bool
 | _ =>
 some true
def ZQ(b:List Int)(c:Int)(d:Int->Option Bool):Int->Option Bool
 | a =>
 if(decide (a < (b.length:Int))) then
  gd (ix a b.length/\b7 (c-1)/\(q7 (b.getD a.toNat 0) 0 (c-1)).isSome/\(decide (0<a)=true/\(!vl (q7 (b.getD a.toNat 0) 0 (c-1)))=false/\True->b7 (a-1))/\(decide (0<a)=true/\(!vl (q7 (b.getD a.toNat 0) 0 (c-1)))=false/\True->ix (a-1) b.length)/\(decide (0<a)=true/\(!vl (q7 (b.getD a.toNat 0) 0 (c-1)))=false/\True->ix a b.length)/\True) <|
  if(!vl (q7 (b.getD a.toNat 0) 0 (c-1))||decide (0<a)&&decide (b.getD a.toNat 0<=b.getD (a-1).toNat 0)) then
   some false
  else
   gd (b7 (a+1)/\True) <|
   d (a+1)
 else
  ZP ()
def PG(a:List Int)(b:Int):Option Bool :=
 lp (ZQ a b) 0
def T0g:Ct:=b9 177 [.dat i64.sl,.dat i64] (fun x=>PG x.1 x.2.1) (fun r:Bool=>B r) (fun _=>())
theorem Q0G:Ok prog T0g:=by
 refine c8 [.tmp 4] func177 ?_;intro y ⟨b,e,_⟩ r H Q hn hr;have:=hz (tc AW tn);refine iA [0,1]<|jN r (fun(_:Unit)=>Z [] []) (ZP) (fun _ H=>?_) (fun _ g i c=>?_)
 ·refine iA [4]<|a7<|hr H
 refine iA [0,1,5]<|vB<|lX (fun(a:Int)=>Z [p 0 (L i64 b),p 1 (J e),p 5 (I a)] []) 0 H fun _ j h f d a H=>vQ<|iA [0,1,5,9]<|cD H (fun H=>?_) (fun H=>?_)
 ·refine vK<|fQ<|vQ<|vB<|iB [0,1,5,35] H fun H=>cD H (fun H=>iA [4]<|a7<|c9<|fR<|d<|c9<|c<|hr H) fun H=>vK<|fK<|fQ<|jB [0,1,5] H fun H=>h H
 exact vE<|fE<|f<|fX rfl<|g H
def ZR:Unit->Option Bool
 | _ =>
 some true
def ZS(a:D0)(c:Int->Option Bool):Int->Option Bool
 | b =>
 if(decide (b < (a.2.2.2.length:Int))) then
  gd (ix b a.2.2.2.length/\b7 ((a.1.length:Int)-1)/\(q7 (a.2.2.2.getD b.toNat 0) 0 ((a.1.length:Int)-1)).isSome/\True) <|
  if(!vl (q7 (a.2.2.2.getD b.toNat 0) 0 ((a.1.length:Int)-1))) then
   some false
  else
   gd (b7 (b+1)/\True) <|
   c (b+1)
 else
  ZR ()
def PH(a:D0):Unit->Option Bool
 | _ =>
 lp (ZS a) 0
def ZT(b:D0)(c:Int->Option Bool):Int->Option Bool
 | a =>
 if(decide (a < (b.1.length:Int))) then
  gd (ix a b.2.2.1.length/\(q7 (b.2.2.1.getD a.toNat 0) 0 500).isSome/\((!vl (q7 (b.2.2.1.getD a.toNat 0) 0 500))=false/\True->ix a b.2.1.length)/\((!vl (q7 (b.2.2.1.getD a.toNat 0) 0 500))=false/\True->(q7 (b.2.1.getD a.toNat 0) 0 1000).isSome)/\True) <|
  if(!vl (q7 (b.2.2.1.getD a.toNat 0) 0 500)||!vl (q7 (b.2.1.getD a.toNat 0) 0 1000)) then
   some false
  else
   gd (((a==0)=true/\True->ix a b.1.length)/\((b.1.getD a.toNat 0 != -1)=false/\(a==0)=true/\True->ix a b.2.1.length)/\(decide (0<a)=true/\(a==0&&(b.1.getD a.toNat 0 != -1||b.2.1.getD a.toNat 0 != 0))=false/\True->ix a b.1.length)/\(decide (0<a)=true/\(a==0&&(b.1.getD a.toNat 0 != -1||b.2.1.getD a.toNat 0 != 0))=false/\True->b7 (a-1))/\(decide (0<a)=true/\(a==0&&(b.1.getD a.toNat 0 != -1||b.2.1.getD a.toNat 0 != 0))=false/\True->(q7 (b.1.getD a.toNat 0) 0 (a-1)).isSome)/\True) <|
   if(a==0&&(b.1.getD a.toNat 0 != -1||b.2.1.getD a.toNat 0 != 0)||decide (0<a)&&!vl (q7 (b.1.getD a.toNat 0) 0 (a-1))) then
    some false
   else
    gd (b7 (a+1)/\True) <|
    c (a+1)
 else
  PH b ()
def LY(a:D0)(b:Int):Option Bool :=
 if(decide ((a.1.length:Int)<1)||decide (8 < (a.1.length:Int))||(a.2.1.length:Int) != (a.1.length:Int)||(a.2.2.1.length:Int) != (a.1.length:Int)||(a.2.2.2.length:Int) != b) then
  some false
 else
  lp (ZT a) 0
def T0Q:Ct:=b9 139 [.agg y172,.dat i64] (fun x=>LY x.1 x.2.1) (fun r:Bool=>B r) (fun _=>())
theorem Q0W:Ok prog T0Q:=by
 refine c8 [.tmp 4] func139 ?_;intro y ⟨a,_,_⟩ r H Q hn hr;have:=hz (tc AW tn);refine iA [1,2]<|iA [1,2,5]<|vQ<|iA [2,5,37]<|cD H (fun H=>iA [4]<|a7<|fR<|hr H) fun H=>vK<|fQ<|jN r (fun(_:Unit)=>Z [p 2 (R 2),p 5 (I (a.1.length:Int))] [(2,K 172 y172 a)]) (PH a) (fun _ H=>?_) (fun _ l q c=>?_)
 ·refine jN r (fun(_:Unit)=>Z [] []) (ZR) (fun _ H=>?_) (fun _ h n i=>?_)
  ·refine iA [4]<|a7<|hr H
  refine iA [2,5,7]<|vB<|lX (fun(b:Int)=>Z [p 2 (R 2),p 5 (I (a.1.length:Int)),p 7 (I b)] [(2,K 172 y172 a)]) 0 H fun _ o g f j b H=>vQ<|iA [2,5,7,96]<|cD H (fun H=>?_) (fun H=>?_)
  ·refine vK<|fQ<|vQ<|vB<|iB [2,5,7,107] H fun H=>cD H (fun H=>iA [4]<|a7<|c9<|fR<|j<|c9<|i<|hr H) fun H=>vK<|fK<|fQ<|jB [2,5,7] H fun H=>g H
  exact vE<|fE<|f<|fX rfl<|h H
 refine iA [2,5,6]<|vB<|lX (fun(d:Int)=>Z [p 2 (R 2),p 5 (I (a.1.length:Int)),p 6 (I d)] [(2,K 172 y172 a)]) 0 H fun _ s m k e d H=>vQ<|iA [2,5,6,40]<|cD H (fun H=>?_) (fun H=>?_)
 ·refine vK<|fQ<|vQ<|vB<|vQ<|iB [2,5,6,58] H fun H=>cD H (fun H=>iA [4]<|a7<|fR<|c9<|fR<|e<|c9<|c<|hr H) fun H=>vK<|fQ<|iB [2,5,6,91] H fun H=>cD H (fun H=>iA [4]<|a7<|c9<|fR<|e<|c9<|c<|hr H) fun H=>vK<|fK<|fQ<|jB [2,5,6] H fun H=>m H
 exact vE<|fE<|k<|fX rfl<|l H
def PI(a:ByteArray):Unit->Option Bool
 | _ =>
 some (decide (1<=(a.size:Int))&&decide ((a.size:Int)<=8))
def ZU(b:ByteArray)(c:Int->Option Bool):Int->Option Bool
 | a =>
 if(decide (a < (b.size:Int))) then
  gd (ix a b.size/\(decide (97<=H9 b a.toNat)=true/\True->ix a b.size)/\True) <|
  gd (ix a b.size/\(decide (48<=H9 b a.toNat)=true/\True->ix a b.size)/\True) <|
  if(!(decide (97<=H9 b a.toNat)&&decide (H9 b a.toNat<=122))&&!(decide (48<=H9 b a.toNat)&&decide (H9 b a.toNat<=57)&&decide (0<a))) then
   some false
  else
   gd (b7 (a+1)/\True) <|
   c (a+1)
 else
  PI b ()
def AB(a:ByteArray):Option Bool :=
 lp (ZU a) 0
def T0P:Ct:=b9 140 [.dat Ty.str] (fun x=>AB x.1) (fun r:Bool=>B r) (fun _=>())
theorem PJ:Ok prog T0P:=by
 refine c8 [.tmp 2] func140 ?_;intro y ⟨a,_⟩ r H Q hn hr;refine iA [0]<|jN r (fun(_:Unit)=>Z [p 0 (U a)] []) (PI a) (fun _ H=>?_) (fun _ f h c=>?_)
 ·refine iA [2]<|a7<|hr H
 refine iA [0,3]<|vB<|lX (fun(b:Int)=>Z [p 0 (U a),p 3 (I b)] []) 0 H fun _ i g e d b H=>vQ<|iA [0,3,9]<|cD H (fun H=>?_) (fun H=>?_)
 ·refine vK<|fQ<|vQ<|vB<|iB [0,3,4] H fun H=>iB [0,3,4,5] H fun H=>iA [0,3,41]<|cD H (fun H=>iA [2]<|a7<|c9<|fR<|d<|c9<|c<|hr H) fun H=>vK<|fK<|fQ<|jB [0,3] H fun H=>g H
 exact vE<|fE<|e<|fX rfl<|f H
def ZV:Unit->Option Bool
 | _ =>
 some true
def TX(a:Int)(b:Int->Option Bool):Unit->Option Bool
 | _ =>
 gd (b7 (a+1)/\True) <|
 b (a+1)
def ZW(b:List ByteArray)(c:Int)(e:Int->Option Bool)(d:Int->Option Bool):Int->Option Bool
 | a =>
 if(decide (a<c)) then
  gd (ix a b.length/\ix c b.length/\True) <|
  if(decide (b.getD a.toNat (a6 Ty.str)=b.getD c.toNat (a6 Ty.str))) then
   some false
  else
   gd (b7 (a+1)/\True) <|
   d (a+1)
 else
  TX c e ()
def ZX(a:List ByteArray)(c:Int->Option Bool):Int->Option Bool
 | b =>
 if(decide (b < (a.length:Int))) then
  gd (ix b a.length/\(AB (a.getD b.toNat (a6 Ty.str))).isSome/\True) <|
  if(!vl (AB (a.getD b.toNat (a6 Ty.str)))) then
   some false
  else
   lp (ZW a b c) 0
 else
  ZV ()
def Cq(a:List ByteArray):Option Bool :=
 lp (ZX a) 0
def T0a:Ct:=b9 186 [.dat Ty.str.sl] (fun x=>Cq x.1) (fun r:Bool=>B r) (fun _=>())
theorem Q0C:Ok prog T0a:=by
 refine c8 [.tmp 2] func186 ?_;intro y ⟨b,_⟩ r H Q hn hr;have:=hz (tc PJ tn);refine iA [0]<|jN r (fun(_:Unit)=>Z [] []) (ZV) (fun _ H=>?_) (fun _ m s e=>?_)
 ·refine iA [2]<|a7<|hr H
 refine iA [0,3]<|vB<|lX (fun(a:Int)=>Z [p 0 (L Ty.str b),p 3 (I a)] []) 0 H fun _ j n l f a H=>vQ<|iA [0,3,8]<|cD H (fun H=>?_) (fun H=>?_)
 ·refine vK<|fQ<|jN r (fun(_:Unit)=>Z [p 0 (L Ty.str b),p 3 (I a)] []) (TX a j) (fun _ H=>?_) (fun _ i o c=>?_)
  ·refine jB [0,3] H fun H=>n H
  refine vB<|vQ<|iB [0,3,16] H fun H=>cD H (fun H=>iA [2]<|a7<|fR<|c9<|c<|f<|c9<|e<|hr H) fun H=>vK<|fQ<|iA [0,3,4]<|vB<|lX (fun(d:Int)=>Z [p 0 (L Ty.str b),p 3 (I a),p 4 (I d)] []) 0 H fun _ q h g k d H=>vQ<|iA [0,3,4,19]<|cD H (fun H=>?_) (fun H=>?_)
  ·refine vK<|fQ<|vQ<|vB<|iB [0,3,4,30] H fun H=>cD H (fun H=>iA [2]<|a7<|c9<|fR<|k<|c9<|c9<|c<|f<|c9<|e<|hr H) fun H=>vK<|fK<|fQ<|jB [0,3,4] H fun H=>h H
  exact vE<|fE<|g<|fX rfl<|fK<|i H
 exact vE<|fE<|l<|fX rfl<|m H
def ZY:Unit->Option Bool
 | _ =>
 some true
def ZZ(a:q9)(c:Int->Option Bool):Int->Option Bool
 | b =>
 if(decide (b < (a.2.2.length:Int))) then
  gd (ix b a.2.2.length/\(q7 (a.2.2.getD b.toNat (a6 y231)).2.1 1 2).isSome/\((!vl (q7 (a.2.2.getD b.toNat (a6 y231)).2.1 1 2))=false/\True->ix b a.2.2.length)/\((!vl (q7 (a.2.2.getD b.toNat (a6 y231)).2.1 1 2))=false/\True->b7 ((a.2.1.length:Int)-1))/\((!vl (q7 (a.2.2.getD b.toNat (a6 y231)).2.1 1 2))=false/\True->(q7 (a.2.2.getD b.toNat (a6 y231)).2.2 0 ((a.2.1.length:Int)-1)).isSome)/\True) <|
  if(!vl (q7 (a.2.2.getD b.toNat (a6 y231)).2.1 1 2)||!vl (q7 (a.2.2.getD b.toNat (a6 y231)).2.2 0 ((a.2.1.length:Int)-1))) then
   some false
  else
   gd (b7 (b+1)/\True) <|
   c (b+1)
 else
  ZY ()
def PK(a:q9):Unit->Option Bool
 | _ =>
 lp (ZZ a) 0
def A0I(a:Int)(b:Int->Option Bool):Unit->Option Bool
 | _ =>
 gd (b7 (a+1)/\True) <|
 b (a+1)
def A0F(b:H2)(c:q9)(e:Int)(f:Int->Option Bool)(d:Int->Option Bool):Int->Option Bool
 | a =>
 if(decide (a < (b.2.2.length:Int))) then
  gd (ix a b.2.2.length/\b7 ((c.2.1.length:Int)-1)/\(q7 (b.2.2.getD a.toNat 0) 0 ((c.2.1.length:Int)-1)).isSome/\True) <|
  if(!vl (q7 (b.2.2.getD a.toNat 0) 0 ((c.2.1.length:Int)-1))) then
   some false
  else
   gd (b7 (a+1)/\True) <|
   d (a+1)
 else
  A0I e f ()
def A0G(c:q9)(b:List l5)(e:Int->Option Bool):Int->Option Bool
 | d =>
 if(decide (d < (c.1.length:Int))) then
  gd (ix d c.1.length/\True)<|lt (c.1.getD d.toNat (a6 y155)) fun a =>
  gd (b7 ((b.length:Int)-1)/\(q7 a.2.1 0 ((b.length:Int)-1)).isSome/\((!vl (q7 a.2.1 0 ((b.length:Int)-1)))=false/\True->ix a.2.1 b.length)/\True) <|
  if(!vl (q7 a.2.1 0 ((b.length:Int)-1))||(a.2.2.length:Int) != (↑(b.getD a.2.1.toNat (a6 y153)).2.2.1.length:Int)) then
   some false
  else
   lp (A0F a c d e) 0
 else
  PK c ()
def PL(a:List l5)(b:q9):Option Bool :=
 lp (A0G b a) 0
def T0b:Ct:=b9 185 [.agg y153.sl,.agg y53] (fun x=>PL x.1 x.2.1) (fun r:Bool=>B r) (fun _=>())
theorem Q0D:Ok prog T0b:=by
 refine c8 [.tmp 4] func185 ?_;intro y ⟨c,a,_⟩ r H Q hn hr;have:=hz (tc AW tn);refine iA [2,3]<|iA [2,3,5]<|jN r (fun(_:Unit)=>Z [p 3 (R 3),p 5 (I (a.2.1.length:Int))] [(3,K 53 y53 a)]) (PK a) (fun _ H=>?_) (fun _ u P i=>?_)
 ·refine jN r (fun(_:Unit)=>Z [] []) (ZY) (fun _ H=>?_) (fun _ w G k=>?_)
  ·refine iA [4]<|a7<|hr H
  refine iA [3,5,9]<|vB<|lX (fun(e:Int)=>Z [p 3 (R 3),p 5 (I (a.2.1.length:Int)),p 9 (I e)] [(3,K 53 y53 a)]) 0 H fun _ E m q n e H=>vQ<|iA [3,5,9,67]<|cD H (fun H=>?_) (fun H=>?_)
  ·refine vK<|fQ<|vQ<|vB<|iB [3,5,9,89] H fun H=>cD H (fun H=>iA [4]<|a7<|c9<|fR<|n<|c9<|k<|hr H) fun H=>vK<|fK<|fQ<|jB [3,5,9] H fun H=>m H
  exact vE<|fE<|q<|fX rfl<|w H
 refine iA [2,3,5,6]<|vB<|lX (fun(b:Int)=>Z (Bv [p 5 (I (a.2.1.length:Int)),p 6 (I b)]) (Hi a c)) 0 H fun _ x l t h b H=>vQ<|iA [2,3,5,6,17]<|cD H (fun H=>?_) (fun H=>?_)
 ·refine vK<|fQ<|jN r (fun(_:Unit)=>Z (Bv [p 5 (I (a.2.1.length:Int)),p 6 (I b)]) (Hi a c)) (A0I b x) (fun _ H=>?_) (fun _ o z f=>?_)
  ·refine jB [2,3,5,6] H fun H=>l H
  refine vB<|qD (fun d=>Z (Bv [p 5 (I (a.2.1.length:Int)),p 6 (I b),p 7 (R 7)]) ((7,K 155 y155 d)::Hi a c)) H fun d H=>vQ<|iB [2,3,5,6,7,46] H fun H=>cD H (fun H=>iA [4]<|a7<|fR<|c9<|f<|h<|c9<|i<|hr H) fun H=>vK<|fQ<|iA [2,3,5,6,7,8]<|vB<|lX (fun(g:Int)=>Z (Bv [p 5 (I (a.2.1.length:Int)),p 6 (I b),p 7 (R 7),p 8 (I g)]) ((7,K 155 y155 d)::Hi a c)) 0 H fun _ F j v s g H=>vQ<|iA [2,3,5,6,7,8,51]<|cD H (fun H=>?_) (fun H=>?_)
  ·refine vK<|fQ<|vQ<|vB<|iB [2,3,5,6,7,8,62] H fun H=>cD H (fun H=>iA [4]<|a7<|c9<|fR<|s<|c9<|c9<|f<|h<|c9<|i<|hr H) fun H=>vK<|fK<|fQ<|jB [2,3,5,6,7,8] H fun H=>j H
  exact vE<|fE<|v<|fX rfl<|fK<|o H
 exact vE<|fE<|t<|fX rfl<|u H
def z0V:List Int->Option (List Int)
 | a =>
 some a
def z0U(b:l5)(d:Int×List Int->Option (List Int)):Int×List Int->Option (List Int)
 | (a,c) =>
 if(decide (a < (b.2.2.2.1.length:Int))) then
  gd (ix a b.2.2.2.1.length/\ix (b.2.2.2.1.getD a.toNat (a6 y158)).1 c.length/\(b.2.2.2.1.getD a.toNat (a6 y158)).1.toNat<c.length/\b7 (c.getD (b.2.2.2.1.getD a.toNat (a6 y158)).1.toNat 0+1)/\ix (b.2.2.2.1.getD a.toNat (a6 y158)).1 c.length/\(b.2.2.2.1.getD a.toNat (a6 y158)).1.toNat<c.length/\True)<|lt (c.set (b.2.2.2.1.getD a.toNat (a6 y158)).1.toNat (c.getD (b.2.2.2.1.getD a.toNat (a6 y158)).1.toNat 0+1)) fun e =>
  gd (b7 (a+1)/\True) <|
  d (a+1,e)
 else
  z0V c
def LZ(a:l5):Option (List Int) :=
 gd (((0:Int)<=(6:Int)/\(6:Int)=(6:Int)/\Int.toNat (6:Int)*8<=281474976710656/\(6:Int)<=(9223372036854775807:Int))/\True) <|
 lp (z0U a) ((0,List.replicate (Int.toNat (6:Int)) (0:Int)))
def R0Z:Ct:=b9 254 [.agg y153] (fun x=>LZ x.1) (fun r:List Int=>AV.ow 2 true i64 r) (fun _=>())
theorem N0g:Ok prog R0Z:=by
 refine c8 [.tmp 2] func254 ?_;intro y ⟨b,_⟩ r H Q hn hr;refine iA [1]<|iB [1,3] H fun H=>jN r (fun(d:List Int)=>Z [p 3 (O 5)] [(5,A 2 i64 d 0)]) (z0V) (fun d H=>?_) (fun _ f j i=>?_)
 ·refine iA [2]<|a7<|hr H
 refine iA [1,3,4]<|vB<|lX (fun((a,c):Int×List Int)=>Z [p 1 (R 1),p 3 (O 5),p 4 (I a)] [(5,A 2 i64 c 0),(1,K 153 y153 b)]) ((0,List.replicate (Int.toNat (6:Int)) (0:Int))) H fun _ l h g k ⟨a,c⟩ H=>vQ<|iA [1,3,4,10]<|cD H (fun H=>vK<|fQ<|vQ<|vB<|zD (fun e=>Z [p 1 (R 1),p 3 (O 5),p 4 (I a)] [(5,A 2 i64 e 0),(1,K 153 y153 b)]) H fun e H=>fK<|fQ<|jB [1,3,4] H fun H=>h H) fun H=>vE<|fE<|g<|fX rfl<|f H
def PM(a:List Int):Unit->Option Bool
 | _ =>
 some (decide (1<=(a.length:Int))&&decide ((a.length:Int)<=4))
def z0H(b:List Int)(c:Int->Option Bool):Int->Option Bool
 | a =>
 if(decide (a < (b.length:Int))) then
  gd (ix a b.length/\(q7 (b.getD a.toNat 0) 0 100000).isSome/\(decide (0<a)=true/\(!vl (q7 (b.getD a.toNat 0) 0 100000))=false/\True->b7 (a-1))/\(decide (0<a)=true/\(!vl (q7 (b.getD a.toNat 0) 0 100000))=false/\True->ix (a-1) b.length)/\(decide (0<a)=true/\(!vl (q7 (b.getD a.toNat 0) 0 100000))=false/\True->ix a b.length)/\True) <|
  if(!vl (q7 (b.getD a.toNat 0) 0 100000)||decide (0<a)&&decide (b.getD a.toNat 0<=b.getD (a-1).toNat 0)) then
   some false
  else
   gd (b7 (a+1)/\True) <|
   c (a+1)
 else
  PM b ()
def DX(a:List Int):Option Bool :=
 lp (z0H a) 0
def R0r:Ct:=b9 303 [.dat i64.sl] (fun x=>DX x.1) (fun r:Bool=>B r) (fun _=>())
theorem P0N:Ok prog R0r:=by
 refine c8 [.tmp 2] func303 ?_;intro y ⟨a,_⟩ r H Q hn hr;have:=hz (tc AW tn);refine iA [0]<|jN r (fun(_:Unit)=>Z [p 0 (L i64 a)] []) (PM a) (fun _ H=>?_) (fun _ f h c=>?_)
 ·refine iA [2]<|a7<|hr H
 refine iA [0,3]<|vB<|lX (fun(b:Int)=>Z [p 0 (L i64 a),p 3 (I b)] []) 0 H fun _ i g e d b H=>vQ<|iA [0,3,7]<|cD H (fun H=>?_) (fun H=>?_)
 ·refine vK<|fQ<|vQ<|vB<|iB [0,3,31] H fun H=>cD H (fun H=>iA [2]<|a7<|c9<|fR<|d<|c9<|c<|hr H) fun H=>vK<|fK<|fQ<|jB [0,3] H fun H=>g H
 exact vE<|fE<|e<|fX rfl<|f H
def z0K:Unit->Option Bool
 | _ =>
 some true
def z0J(b:q5)(c:Int->Option Bool):Int->Option Bool
 | a =>
 if(decide (a < (b.2.2.length:Int))) then
  gd (ix a b.2.2.length/\(q7 (b.2.2.getD a.toNat 0) (-1000000) 1000000).isSome/\True) <|
  if(!vl (q7 (b.2.2.getD a.toNat 0) (-1000000) 1000000)) then
   some false
  else
   gd (b7 (a+1)/\True) <|
   c (a+1)
 else
  z0K ()
def Ma(a:q5):Option Bool :=
 gd ((DX a.1).isSome/\((!vl (DX a.1))=false/\True->(DX a.2.1).isSome)/\((!vl (DX a.1)||!vl (DX a.2.1))=false/\True->b7 ((a.1.length:Int)*(a.2.1.length:Int)))/\True) <|
 if(!vl (DX a.1)||!vl (DX a.2.1)||(a.2.2.length:Int) != (a.1.length:Int)*(a.2.1.length:Int)) then
  some false
 else
  lp (z0J a) 0
def R0w:Ct:=b9 296 [.agg y269] (fun x=>Ma x.1) (fun r:Bool=>B r) (fun _=>())
theorem P0P:Ok prog R0w:=by
 refine c8 [.tmp 2] func296 ?_;intro y ⟨b,_⟩ r H Q hn hr;have:=hz (tc AW (tc P0N tn));refine iA [1]<|vQ<|iB [1,26] H fun H=>cD H (fun H=>iA [2]<|a7<|fR<|hr H) fun H=>vK<|fQ<|jN r (fun(_:Unit)=>Z [] []) (z0K) (fun _ H=>?_) (fun _ f h c=>?_)
 ·refine iA [2]<|a7<|hr H
 refine iA [1,3]<|vB<|lX (fun(a:Int)=>Z (G8 a []) [(1,K 269 y269 b)]) 0 H fun _ i g e d a H=>vQ<|iA [1,3,31]<|cD H (fun H=>?_) (fun H=>?_)
 ·refine vK<|fQ<|vQ<|vB<|iB [1,3,40] H fun H=>cD H (fun H=>iA [2]<|a7<|c9<|fR<|d<|c9<|c<|hr H) fun H=>vK<|fK<|fQ<|jB [1,3] H fun H=>g H
 exact vE<|fE<|e<|fX rfl<|f H
def z0L:Int×Int->Option (l9×Int)
 | (b,a) =>
 some (((b,a),(0:Int)))
def TY(b:q5)(e:Int×Int×Int->Option (l9×Int)):Int×Int×Int->Option (l9×Int)
 | (a,d,c) =>
 if(decide (a < (b.2.2.length:Int))) then
  gd (ix a b.2.2.length/\True) <|
  gd (ix a b.2.2.length/\True) <|
  gd (b7 (a+1)/\True) <|
  e ((a+1,min d (b.2.2.getD a.toNat 0),max c (b.2.2.getD a.toNat 0)))
 else
  z0L (d,c)
def Mb(a:q5):Option (l9×Int) :=
 gd ((Ma a).isSome/\True) <|
 if(!vl (Ma a)) then
  some ((((0:Int),(0:Int)),(1:Int)))
 else
  gd (ix 0 a.2.2.length/\ix 0 a.2.2.length/\True) <|
  lp (TY a) ((1,a.2.2.getD (Int.toNat (0:Int)) (0:Int),a.2.2.getD (Int.toNat (0:Int)) (0:Int)))
def R0D:Ct:=b9 285 [.agg y269] (fun x=>Mb x.1) (fun r:l9×Int=>AV.tup [AV.agg [I r.1.1,I r.1.2],I r.2]) (fun _=>())
theorem N0b:Ok prog R0D:=by
 refine c8 [.cell 2 73,.tmp 3] func285 ?_;intro y ⟨a,_⟩ r H Q hn hr;have:=hz (tc P0P tn);refine iA [1,2]<|vQ<|iB [1,2,8] H fun H=>cD H (fun H=>iA [2,3]<|a7<|fR<|hr H) fun H=>vK<|fQ<|iB [1,2,4] H fun H=>jN r (fun((c,f):Int×Int)=>Z [p 2 (R 2),p 4 (R 4)] [(4,bx 73 [J c,J f]),(2,bx 73 [I 0,I 0])]) (z0L) (fun⟨c,f⟩ H=>?_) (fun _ h k j=>?_)
 ·refine iA [2,3]<|a7<|hr H
 refine iA [1,2,4,5]<|vB<|lX (fun((d,b,e):Int×Int×Int)=>Z [p 1 (R 1),p 2 (R 2),p 4 (R 4),p 5 (I d)] [(4,bx 73 [J b,J e]),(2,bx 73 [I 0,I 0]),(1,K 269 y269 a)]) ((1,a.2.2.getD (Int.toNat (0:Int)) (0:Int),a.2.2.getD (Int.toNat (0:Int)) (0:Int))) H fun _ m i g l ⟨d,b,e⟩ H=>vQ<|iA [1,2,4,5,23]<|cD H (fun H=>vK<|fQ<|vQ<|vB<|iB [1,2,4,5] H fun H=>jB [1,2,4,5] H fun H=>fK<|fQ<|jB [1,2,4,5] H fun H=>i H) fun H=>vE<|fE<|g<|fX rfl<|h H
def z0N:Unit->Option Bool
 | _ =>
 some true
def TZ(e:Bool)(b:List q5)(d:Int->Option Bool):Int->Option Bool
 | a =>
 if(decide (a<2)) then
  gd (ix a b.length/\(Mb (b.getD a.toNat (a6 y269))).isSome/\True)<|lt (vl (Mb (b.getD a.toNat (a6 y269)))) fun c =>
  if(c.2 != 0||e&&decide (c.1.1<0)) then
   some false
  else
   gd (b7 (a+1)/\True) <|
   d (a+1)
 else
  z0N ()
def Aa(a:List q5)(b:Bool):Option Bool :=
 if((a.length:Int) != 2) then
  some false
 else
  lp (TZ b a) 0
def R0O:Ct:=b9 270 [.dat y269.sl,.dat Ty.bool] (fun x=>Aa x.1 x.2.1) (fun r:Bool=>B r) (fun _=>())
theorem Q0a:Ok prog R0O:=by
 refine c8 [.tmp 4] func270 ?_;intro y ⟨b,e,_⟩ r H Q hn hr;have:=hz (tc N0b tn);refine iA [0,1]<|vQ<|iA [0,1,10]<|cD H (fun H=>iA [4]<|a7<|fR<|hr H) fun H=>vK<|fQ<|jN r (fun(_:Unit)=>Z [] []) (z0N) (fun _ H=>?_) (fun _ g i c=>?_)
 ·refine iA [4]<|a7<|hr H
 refine iA [0,1,5]<|vB<|lX (fun(a:Int)=>Z [p 0 (L y269 b),p 1 (C e),p 5 (I a)] []) 0 H fun _ j h f d a H=>vQ<|iA [0,1,5,12]<|cD H (fun H=>?_) (fun H=>?_)
 ·refine vK<|fQ<|vQ<|vB<|iD N0b [0,1,5,6,7] H fun _ H=>iA [0,1,5,32]<|cD H (fun H=>iA [4]<|a7<|c9<|fR<|d<|c9<|c<|hr H) fun H=>vK<|fK<|fQ<|jB [0,1,5] H fun H=>h H
 exact vE<|fE<|f<|fX rfl<|g H
def Mc(c:F8)(a:A6)(b:l5):Bool->Option Bool
 | d =>
 if d then
  gd (((c.2.2.2&&decide (a.2.2.1 < (b.2.2.1.length:Int)-1))=true/\True->ix a.2.2.1 b.2.2.1.length)/\((c.2.2.2&&decide (a.2.2.1 < (b.2.2.1.length:Int)-1)&&!(b.2.2.1.getD a.2.2.1.toNat (a6 y293)).2.2.2&&a.2.2.2.1==0)=true/\True->(Aa a.2.2.2.2.1 false).isSome)/\True) <|
  some (c.2.2.2&&decide (a.2.2.1 < (b.2.2.1.length:Int)-1)&&!(b.2.2.1.getD a.2.2.1.toNat (a6 y293)).2.2.2&&a.2.2.2.1==0&&vl (Aa a.2.2.2.2.1 false)&&(a.2.2.2.2.2.length:Int)==0)
 else
  some false
def Md(b:F8)(a:A6)(c:l5):Bool->Option Bool
 | d =>
 if d then
  gd (((b.2.2.2&&a.2.2.1==(c.2.2.1.length:Int)-1&&a.2.2.2.1==0)=true/\True->(Aa a.2.2.2.2.1 true).isSome)/\((b.2.2.2&&a.2.2.1==(c.2.2.1.length:Int)-1&&a.2.2.2.1==0&&vl (Aa a.2.2.2.2.1 true))=true/\True->(Aa a.2.2.2.2.2 true).isSome)/\True) <|
  some (b.2.2.2&&a.2.2.1==(c.2.2.1.length:Int)-1&&a.2.2.2.1==0&&vl (Aa a.2.2.2.2.1 true)&&vl (Aa a.2.2.2.2.2 true))
 else
  if(a.1==4) then
   Mc b a c (a.1==4)
  else
   Mc b a c (a.1==5)
def Me(b:l5)(a:A6):Option Bool :=
 gd (b7 ((b.2.2.1.length:Int)-1)/\True) <|
 gd (b7 ((b.2.2.1.length:Int)-1-1)/\(q7 a.2.1 0 ((b.2.2.1.length:Int)-1-1)).isSome/\((!vl (q7 a.2.1 0 ((b.2.2.1.length:Int)-1-1)))=false/\True->(q7 a.2.2.1 0 ((b.2.2.1.length:Int)-1)).isSome)/\True) <|
 if(!vl (q7 a.2.1 0 ((b.2.2.1.length:Int)-1-1))||!vl (q7 a.2.2.1 0 ((b.2.2.1.length:Int)-1))) then
  some false
 else
  gd (ix a.2.1 b.2.2.1.length/\True)<|lt (b.2.2.1.getD a.2.1.toNat (a6 y293)) fun c =>
  if(a.1==1) then
   gd (((!c.2.2.2&&a.2.2.1==(b.2.2.1.length:Int)-1)=true/\True->(q7 a.2.2.2.1 1 3).isSome)/\((!c.2.2.2&&a.2.2.1==(b.2.2.1.length:Int)-1&&vl (q7 a.2.2.2.1 1 3))=true/\True->(Aa a.2.2.2.2.1 true).isSome)/\((!c.2.2.2&&a.2.2.1==(b.2.2.1.length:Int)-1&&vl (q7 a.2.2.2.1 1 3)&&vl (Aa a.2.2.2.2.1 true))=true/\True->(Aa a.2.2.2.2.2 true).isSome)/\True) <|
   some (!c.2.2.2&&a.2.2.1==(b.2.2.1.length:Int)-1&&vl (q7 a.2.2.2.1 1 3)&&vl (Aa a.2.2.2.2.1 true)&&vl (Aa a.2.2.2.2.2 true))
  else
   if(a.1==2) then
    Md c a b (a.1==2)
   else
    Md c a b (a.1==3)
def S0a:Ct:=b9 253 [.agg y153,.agg y158] (fun x=>Me x.1 x.2.1) (fun r:Bool=>B r) (fun _=>())
theorem Q0h:Ok prog S0a:=by
 refine c8 [.tmp 4] func253 ?_;intro y ⟨a,b,_⟩ r H Q hn hr;have:=hz (tc Q0a (tc AW tn));refine iA [2,3]<|iB [2,3,5] H fun H=>vQ<|iB [2,3,5,23] H fun H=>cD H (fun H=>iA [4]<|a7<|fR<|hr H) fun H=>vK<|fQ<|qD (fun c=>Z (Bv [p 5 (I ((a.2.2.1.length:Int)-1)),p 6 (C c.2.2.2)]) [(3,K 158 y158 b),(2,K 153 y153 a)]) H fun c H=>vQ<|iA [2,3,5,6,32]<|vB<|iA [2,3,5,6,32,33]<|cD H (fun H=>iB [4] H fun H=>a7<|c9<|fR<|hr H) fun H=>jN r (fun(e:Bool)=>Z (Bv [p 5 (I ((a.2.2.1.length:Int)-1)),p 6 (C c.2.2.2),p 32 (J b.1),p 58 (B e)]) [(3,K 158 y158 b),(2,K 153 y153 a)]) (Md c b a) (fun e H=>?_) (fun _ d i h=>?_)
 ·refine cD H (fun H=>iB [4] H fun H=>a7<|c9<|fR<|hr H) fun H=>jN r (fun(f:Bool)=>Z (Bv [p 5 (I ((a.2.2.1.length:Int)-1)),p 6 (C c.2.2.2),p 83 (B f)]) [(3,K 158 y158 b),(2,K 153 y153 a)]) (Mc c b a) (fun f H=>?_) (fun _ g k j=>?_)
  ·refine cD H (fun H=>iB [4] H fun H=>a7<|c9<|fR<|hr H) fun H=>vK<|fK<|fQ<|iA [4]<|a7<|hr H
  refine iA [2,3,5,6,32,83]<|cD H (fun H=>vK<|g H) fun H=>jA [2,3,5,6,83]<|g H
 refine iA [2,3,5,6,32,58]<|cD H (fun H=>vK<|d H) fun H=>jA [2,3,5,6,32,58]<|d H
def Ua:Int->Option (Int×Bool)
 | a =>
 some (a,true)
def PN(a:Int)(c:Int×Int->Option (Int×Bool)):Int->Option (Int×Bool)
 | b =>
 gd (b7 (a+1)/\True) <|
 c (b,a+1)
def PO(c:Int)(d:Int)(a:F8)(b:l5)(e:Int×Int->Option (Int×Bool)):Unit->Option (Int×Bool)
 | _ =>
 gd ((AB a.1).isSome/\((!vl (AB a.1))=false/\True->(q7 a.2.2.1 0 500).isSome)/\True) <|
 if(!vl (AB a.1)||!vl (q7 a.2.2.1 0 500)) then
  some (((0:Int),false))
 else
  gd (b7 ((b.2.2.1.length:Int)-1)/\((c==(b.2.2.1.length:Int)-1&&(a.2.1 != 2||a.2.2.1 != 0||a.2.2.2))=false/\True->b7 ((b.2.2.1.length:Int)-1))/\True) <|
  if(c==(b.2.2.1.length:Int)-1&&(a.2.1 != 2||a.2.2.1 != 0||a.2.2.2)||decide (c < (b.2.2.1.length:Int)-1)&&a.2.1 != 1) then
   some (((0:Int),false))
  else
   if a.2.2.2 then
    gd (b7 (d+1)/\True) <|
    PN c e (d+1)
   else
    PN c e d
def z0W(b:l5)(c:F8)(d:Int)(g:Int)(f:Int×Int->Option (Int×Bool))(e:Int->Option (Int×Bool)):Int->Option (Int×Bool)
 | a =>
 if(decide (a<d)) then
  gd (ix a b.2.2.1.length/\True) <|
  if(decide ((b.2.2.1.getD a.toNat (a6 y293)).1=c.1)) then
   some (((0:Int),false))
  else
   gd (b7 (a+1)/\True) <|
   e (a+1)
 else
  PO d g c b f ()
def z0X(a:l5)(e:Int×Int->Option (Int×Bool)):Int×Int->Option (Int×Bool)
 | (c,b) =>
 if(decide (b < (a.2.2.1.length:Int))) then
  gd (ix b a.2.2.1.length/\True)<|lt (a.2.2.1.getD b.toNat (a6 y293)) fun d =>
  lp (z0W a d b c e) 0
 else
  Ua c
def Mf(a:l5):Option (Int×Bool) :=
 if(decide ((a.2.2.1.length:Int)<2)||decide (5 < (a.2.2.1.length:Int))) then
  some (((0:Int),false))
 else
  lp (z0X a) (0,0)
def S0b:Ct:=b9 252 [.agg y153] (fun x=>Mf x.1) (fun r:Int×Bool=>AV.tup [I r.1,B r.2]) (fun _=>())
theorem N0h:Ok prog S0b:=by
 refine c8 [.tmp 2,.tmp 3] func252 ?_;intro y ⟨a,_⟩ r H Q hn hr;have:=hz (tc AW (tc PJ tn));refine iA [1]<|iA [1,4]<|vQ<|iA [1,4,17]<|cD H (fun H=>iA [2,3]<|a7<|fR<|hr H) fun H=>vK<|fQ<|iA [1,4,5]<|jN r (fun(i:Int)=>Z [p 5 (I i)] []) (Ua) (fun i H=>?_) (fun _ u w g=>?_)
 ·refine iA [2,3]<|a7<|hr H
 refine iA [1,4,5,6]<|vB<|lX (fun((c,b):Int×Int)=>Z [p 1 (R 1),p 4 (I (a.2.2.1.length:Int)),p 5 (I c),p 6 (I b)] [(1,K 153 y153 a)]) (0,0) H fun _ l n t f ⟨c,b⟩ H=>vQ<|iA [1,4,5,6,20]<|cD H (fun H=>?_) (fun H=>?_)
 ·refine vK<|fQ<|jN r (fun(j:Int)=>Z [p 1 (R 1),p 4 (I (a.2.2.1.length:Int)),p 5 (I j),p 6 (I b)] [(1,K 153 y153 a)]) (PN b l) (fun j H=>?_) (fun _ k v e=>?_)
  ·refine jB [1,4,5,6] H fun H=>n H
  refine vB<|qD (fun d=>Z [p 1 (R 1),p 4 (I (a.2.2.1.length:Int)),p 5 (I c),p 6 (I b),p 7 (R 7)] [(7,K 293 y293 d),(1,K 153 y153 a)]) H fun d H=>jN r (fun(_:Unit)=>Z [p 1 (R 1),p 4 (I (a.2.2.1.length:Int)),p 5 (I c),p 6 (I b),p 7 (R 7)] [(7,K 293 y293 d),(1,K 153 y153 a)]) (PO b c d a l) (fun _ H=>?_) (fun _ n3 z s=>?_)
  ·refine vQ<|iB [1,4,5,6,7,51] H fun H=>cD H (fun H=>iA [2,3]<|a7<|fR<|c9<|e<|f<|c9<|g<|hr H) fun H=>vK<|fQ<|vQ<|iB [1,4,5,6,7,80] H fun H=>cD H (fun H=>iA [2,3]<|a7<|fR<|c9<|e<|f<|c9<|g<|hr H) fun H=>vK<|fQ<|iA [1,4,5,6,82]<|cD H (fun H=>jB [1,4,5,6] H fun H=>fK<|k H) fun H=>vK<|fK<|k H
  refine iA [1,4,5,6,7,8]<|vB<|lX (fun(h:Int)=>Z [p 1 (R 1),p 4 (I (a.2.2.1.length:Int)),p 5 (I c),p 6 (I b),p 7 (R 7),p 8 (I h)] [(7,K 293 y293 d),(1,K 153 y153 a)]) 0 H fun _ x q o m h H=>vQ<|iA [1,4,5,6,7,8,30]<|cD H (fun H=>?_) (fun H=>?_)
  ·refine vK<|fQ<|vQ<|vB<|iB [1,4,5,6,7,8,41] H fun H=>cD H (fun H=>iA [2,3]<|a7<|c9<|fR<|m<|c9<|s<|c9<|e<|f<|c9<|g<|hr H) fun H=>vK<|fK<|fQ<|jB [1,4,5,6,7,8] H fun H=>q H
  exact vE<|fE<|o<|fX rfl<|n3 H
 exact vE<|fE<|t<|fX rfl<|u H
def A0j:Unit->Option Bool
 | _ =>
 some false
def Mg(b:Int×Bool)(a:l5):Unit->Option Bool
 | _ =>
 gd (((b.1==(0:Int))=true/\True->b7 ((a.2.2.1.length:Int)-(1:Int)))/\((b.1==(0:Int))=true/\True->(0:Int)<=(a.2.2.1.length:Int)-(1:Int)/\(a.2.2.1.length:Int)-(1:Int)<=(18446744073709551615:Int))/\((b.1==(0:Int))=true/\True->((0:Int)<=(a.2.2.1.length:Int)-(1:Int)/\(a.2.2.1.length:Int)-(1:Int)<=(62:Int))/\b7 ((1:Int)*(2:Int) ^ ((a.2.2.1.length:Int)-(1:Int)).toNat))/\True) <|
 some (b.1==(0:Int)&&(a.2.2.2.2.1.length:Int)==(1:Int)*(2:c7 i64) ^ ((a.2.2.1.length:Int)-(1:Int)).toNat)
def A0g(b:l5)(c:Int×Bool)(d:Int->Option Bool):Int->Option Bool
 | a =>
 if(decide (a < (b.2.2.2.2.1.length:Int))) then
  gd (ix a b.2.2.2.2.1.length/\(q7 (b.2.2.2.2.1.getD a.toNat 0) 0 1).isSome/\True) <|
  if(!vl (q7 (b.2.2.2.2.1.getD a.toNat 0) 0 1)) then
   some false
  else
   gd (b7 (a+1)/\True) <|
   d (a+1)
 else
  Mg c b ()
def PQ(c:l5)(b:Int×Bool):Unit->Option Bool
 | _ =>
 gd ((LZ c).isSome/\True)<|lt (vl (LZ c)) fun a =>
 if(c.2.1==1) then
  lp (A0g c b) 0
 else
  if(c.2.1==2) then
   gd (((b.1==(1:Int))=true/\True->ix (1:Int) a.length)/\((b.1==(1:Int))=true/\True->Int.toNat (1:Int)<a.length)/\((b.1==(1:Int)&&a.getD (Int.toNat (1:Int)) (0:Int)==(0:Int))=true/\True->ix (2:Int) a.length)/\((b.1==(1:Int)&&a.getD (Int.toNat (1:Int)) (0:Int)==(0:Int))=true/\True->Int.toNat (2:Int)<a.length)/\((b.1==(1:Int)&&a.getD (Int.toNat (1:Int)) (0:Int)==(0:Int))=true/\True->ix (3:Int) a.length)/\((b.1==(1:Int)&&a.getD (Int.toNat (1:Int)) (0:Int)==(0:Int))=true/\True->Int.toNat (3:Int)<a.length)/\True) <|
   some (b.1==(1:Int)&&a.getD (Int.toNat (1:Int)) (0:Int)==(0:Int)&&!decide ((0:Int)<a.getD (Int.toNat (2:Int)) (0:Int))==decide ((0:Int)<a.getD (Int.toNat (3:Int)) (0:Int))&&(c.2.2.2.2.1.length:Int)==(0:Int))
  else
   if(c.2.1==3) then
    gd (((b.1==(1:Int))=true/\True->ix (1:Int) a.length)/\((b.1==(1:Int))=true/\True->Int.toNat (1:Int)<a.length)/\((b.1==(1:Int)&&decide ((0:Int)<a.getD (Int.toNat (1:Int)) (0:Int)))=true/\True->ix (2:Int) a.length)/\((b.1==(1:Int)&&decide ((0:Int)<a.getD (Int.toNat (1:Int)) (0:Int)))=true/\True->Int.toNat (2:Int)<a.length)/\((b.1==(1:Int)&&decide ((0:Int)<a.getD (Int.toNat (1:Int)) (0:Int))&&decide ((0:Int)<a.getD (Int.toNat (2:Int)) (0:Int)))=true/\True->ix (3:Int) a.length)/\((b.1==(1:Int)&&decide ((0:Int)<a.getD (Int.toNat (1:Int)) (0:Int))&&decide ((0:Int)<a.getD (Int.toNat (2:Int)) (0:Int)))=true/\True->Int.toNat (3:Int)<a.length)/\True) <|
    some (b.1==(1:Int)&&decide ((0:Int)<a.getD (Int.toNat (1:Int)) (0:Int))&&decide ((0:Int)<a.getD (Int.toNat (2:Int)) (0:Int))&&a.getD (Int.toNat (3:Int)) (0:Int)==(0:Int)&&(c.2.2.2.2.1.length:Int)==(0:Int))
   else
    A0j ()
def A0k(a:Int)(b:Int->Option Bool):Unit->Option Bool
 | _ =>
 gd (b7 (a+1)/\True) <|
 b (a+1)
def A0h(b:l5)(c:A6)(d:Int)(f:Int->Option Bool)(e:Int->Option Bool):Int->Option Bool
 | a =>
 if(decide (a<d)) then
  gd (ix a b.2.2.2.1.length/\(((b.2.2.2.1.getD a.toNat (a6 y158)).1==c.1)=true/\True->ix a b.2.2.2.1.length)/\(((b.2.2.2.1.getD a.toNat (a6 y158)).1==c.1&&(b.2.2.2.1.getD a.toNat (a6 y158)).2.1==c.2.1)=true/\True->ix a b.2.2.2.1.length)/\True) <|
  if((b.2.2.2.1.getD a.toNat (a6 y158)).1==c.1&&(b.2.2.2.1.getD a.toNat (a6 y158)).2.1==c.2.1&&(b.2.2.2.1.getD a.toNat (a6 y158)).2.2.1==c.2.2.1) then
   some false
  else
   gd (b7 (a+1)/\True) <|
   e (a+1)
 else
  A0k d f ()
def A0i(a:l5)(d:Int×Bool)(e:Int->Option Bool):Int->Option Bool
 | b =>
 if(decide (b < (a.2.2.2.1.length:Int))) then
  gd (ix b a.2.2.2.1.length/\True)<|lt (a.2.2.2.1.getD b.toNat (a6 y158)) fun c =>
  gd ((Me a c).isSome/\True) <|
  if(!vl (Me a c)) then
   some false
  else
   lp (A0h a c b e) 0
 else
  PQ a d ()
def Mh(a:l5):Option Bool :=
 gd ((Mf a).isSome/\True)<|lt (vl (Mf a)) fun b =>
 gd (((!b.2)=false/\True->(AB a.1).isSome)/\((!b.2||!vl (AB a.1)||decide (8 < (a.2.2.2.1.length:Int)))=false/\True->(q7 a.2.2.2.2.2.1 0 100000).isSome)/\((!b.2||!vl (AB a.1)||decide (8 < (a.2.2.2.1.length:Int))||!vl (q7 a.2.2.2.2.2.1 0 100000))=false/\True->(q7 a.2.2.2.2.2.2 0 100000).isSome)/\True) <|
 if(!b.2||!vl (AB a.1)||decide (8 < (a.2.2.2.1.length:Int))||!vl (q7 a.2.2.2.2.2.1 0 100000)||!vl (q7 a.2.2.2.2.2.2 0 100000)) then
  some false
 else
  lp (A0i a b) 0
def S0s:Ct:=b9 225 [.agg y153] (fun x=>Mh x.1) (fun r:Bool=>B r) (fun _=>())
theorem Q0p:Ok prog S0s:=by
 refine c8 [.tmp 2] func225 ?_;intro y ⟨a,_⟩ r H Q hn hr;have:=hz (tc AW (tc N0g (tc Q0h (tc PJ (tc N0h tn)))));refine iA [1]<|iD N0h [1,3,4] H fun b H=>vQ<|iB [1,3,40] H fun H=>cD H (fun H=>iA [2]<|a7<|fR<|hr H) fun H=>vK<|fQ<|jN r (fun(_:Unit)=>Z (G8 b.1 []) [(1,K 153 y153 a)]) (PQ a b) (fun _ H=>?_) (fun _ v T j=>?_)
 ·refine iD N0g [1,3,8] H fun _ H=>jN r (fun(_:Unit)=>Z [] []) (A0j) (fun _ H=>?_) (fun _ z P d=>?_)
  ·refine iA [2]<|a7<|hr H
  refine iA [1,3,8,96]<|vB<|iA [1,3,8,96,97]<|cD H (fun H=>?_) (fun H=>?_)
  ·refine jN r (fun(_:Unit)=>Z (G8 b.1 []) [(1,K 153 y153 a)]) (Mg b a) (fun _ H=>?_) (fun _ w W o=>?_)
   ·refine iB [2] H fun H=>a7<|c9<|d<|hr H
   refine iA [1,3,9]<|vB<|lX (fun(h:Int)=>Z (G8 b.1 [p 9 (I h)]) [(1,K 153 y153 a)]) 0 H fun _ V l E q h H=>vQ<|iA [1,3,9,103]<|cD H (fun H=>?_) (fun H=>?_)
   ·refine vK<|fQ<|vQ<|vB<|iB [1,3,9,112] H fun H=>cD H (fun H=>iA [2]<|a7<|c9<|fR<|q<|c9<|o<|c9<|d<|hr H) fun H=>vK<|fK<|fQ<|jB [1,3,9] H fun H=>l H
   exact vE<|fE<|E<|fX rfl<|w H
  refine iA [1,3,8,96,127]<|cD H (fun H=>iB [2] H fun H=>a7<|c9<|d<|hr H) fun H=>iA [1,3,8,154]<|cD H (fun H=>iB [2] H fun H=>a7<|c9<|d<|hr H) fun H=>vK<|fK<|z H
 refine iA [1,3,5]<|vB<|lX (fun(c:Int)=>Z (G8 b.1 [p 5 (I c)]) [(1,K 153 y153 a)]) 0 H fun _ n m u i c H=>vQ<|iA [1,3,5,45]<|cD H (fun H=>?_) (fun H=>?_)
 ·refine vK<|fQ<|jN r (fun(_:Unit)=>Z (G8 b.1 [p 5 (I c)]) [(1,K 153 y153 a)]) (A0k c n) (fun _ H=>?_) (fun _ s F g=>?_)
  ·refine jB [1,3,5] H fun H=>m H
  refine vB<|qD (fun e=>Z (G8 b.1 [p 5 (I c),p 6 (R 6)]) [(6,K 158 y158 e),(1,K 153 y153 a)]) H fun e H=>vQ<|iB [1,3,5,6,56] H fun H=>cD H (fun H=>iA [2]<|a7<|fR<|c9<|g<|i<|c9<|j<|hr H) fun H=>vK<|fQ<|iA [1,3,5,6,7]<|vB<|lX (fun(f:Int)=>Z (G8 b.1 [p 5 (I c),p 6 (R 6),p 7 (I f)]) [(6,K 158 y158 e),(1,K 153 y153 a)]) 0 H fun _ G k x t f H=>vQ<|iA [1,3,5,6,7,59]<|cD H (fun H=>?_) (fun H=>?_)
  ·refine vK<|fQ<|vQ<|vB<|iB [1,3,5,6,7,92] H fun H=>cD H (fun H=>iA [2]<|a7<|c9<|fR<|t<|c9<|c9<|g<|i<|c9<|j<|hr H) fun H=>vK<|fK<|fQ<|jB [1,3,5,6,7] H fun H=>k H
  exact vE<|fE<|x<|fX rfl<|fK<|s H
 exact vE<|fE<|u<|fX rfl<|v H
def PR(a:List l5):Unit->Option Bool
 | _ =>
 some (decide ((a.length:Int)<=8))
def A0L(a:Int)(b:Int->Option Bool):Unit->Option Bool
 | _ =>
 gd (b7 (a+1)/\True) <|
 b (a+1)
def A0J(b:List l5)(c:Int)(e:Int->Option Bool)(d:Int->Option Bool):Int->Option Bool
 | a =>
 if(decide (a<c)) then
  gd (ix a b.length/\ix c b.length/\True) <|
  if(decide ((b.getD a.toNat (a6 y153)).1=(b.getD c.toNat (a6 y153)).1)) then
   some false
  else
   gd (b7 (a+1)/\True) <|
   d (a+1)
 else
  A0L c e ()
def A0K(a:List l5)(c:Int->Option Bool):Int->Option Bool
 | b =>
 if(decide (b < (a.length:Int))) then
  gd (ix b a.length/\(Mh (a.getD b.toNat (a6 y153))).isSome/\True) <|
  if(!vl (Mh (a.getD b.toNat (a6 y153)))) then
   some false
  else
   lp (A0J a b c) 0
 else
  PR a ()
def Mi(a:List l5):Option Bool :=
 lp (A0K a) 0
def T0c:Ct:=b9 184 [.agg y153.sl] (fun x=>Mi x.1) (fun r:Bool=>B r) (fun _=>())
theorem Q0E:Ok prog T0c:=by
 refine c8 [.tmp 2] func184 ?_;intro y ⟨a,_⟩ r H Q hn hr;have:=hz (tc Q0p tn);refine iA [1]<|jN r (fun(_:Unit)=>Z [p 1 (R 1)] [(1,bx 49 [L y153 a])]) (PR a) (fun _ H=>?_) (fun _ m s e=>?_)
 ·refine iA [2]<|a7<|hr H
 refine iA [1,3]<|vB<|lX (fun(b:Int)=>Z (G8 b []) [(1,bx 49 [L y153 a])]) 0 H fun _ j n l f b H=>vQ<|iA [1,3,9]<|cD H (fun H=>?_) (fun H=>?_)
 ·refine vK<|fQ<|jN r (fun(_:Unit)=>Z (G8 b []) [(1,bx 49 [L y153 a])]) (A0L b j) (fun _ H=>?_) (fun _ i o c=>?_)
  ·refine jB [1,3] H fun H=>n H
  refine vB<|vQ<|iB [1,3,18] H fun H=>cD H (fun H=>iA [2]<|a7<|fR<|c9<|c<|f<|c9<|e<|hr H) fun H=>vK<|fQ<|iA [1,3,4]<|vB<|lX (fun(d:Int)=>Z (G8 b [p 4 (I d)]) [(1,bx 49 [L y153 a])]) 0 H fun _ q h g k d H=>vQ<|iA [1,3,4,21]<|cD H (fun H=>?_) (fun H=>?_)
  ·refine vK<|fQ<|vQ<|vB<|iB [1,3,4,36] H fun H=>cD H (fun H=>iA [2]<|a7<|c9<|fR<|k<|c9<|c9<|c<|f<|c9<|e<|hr H) fun H=>vK<|fK<|fQ<|jB [1,3,4] H fun H=>h H
  exact vE<|fE<|g<|fX rfl<|fK<|i H
 exact vE<|fE<|l<|fX rfl<|m H
def B0r:Unit->Option Bool
 | _ =>
 some true
def u0n(b:List Int)(c:Int->Option Bool):Int->Option Bool
 | a =>
 if(decide (a < (b.length:Int))) then
  gd (ix a b.length/\a.toNat<b.length/\True) <|
  if(b.getD a.toNat 0 != 1) then
   some false
  else
   gd (b7 (a+1)/\True) <|
   c (a+1)
 else
  B0r ()
def Mj:List Int->Option Bool
 | a =>
 lp (u0n a) 0
def PS(a:Int)(c:Int×List Int->Option Bool):List Int->Option Bool
 | b =>
 gd (b7 (a+1)/\True) <|
 c (a+1,b)
def B0o(c:q9)(e:Int×List Int->Option Bool):Int×List Int->Option Bool
 | (a,b) =>
 if(decide (a < (c.2.2.length:Int))) then
  gd (ix a c.2.2.length/\True) <|
  if((c.2.2.getD a.toNat (a6 y231)).2.1==1) then
   gd (ix a c.2.2.length/\ix (c.2.2.getD a.toNat (a6 y231)).2.2 b.length/\(c.2.2.getD a.toNat (a6 y231)).2.2.toNat<b.length/\b7 (b.getD (c.2.2.getD a.toNat (a6 y231)).2.2.toNat 0+1)/\ix (c.2.2.getD a.toNat (a6 y231)).2.2 b.length/\(c.2.2.getD a.toNat (a6 y231)).2.2.toNat<b.length/\True)<|lt (b.set (c.2.2.getD a.toNat (a6 y231)).2.2.toNat (b.getD (c.2.2.getD a.toNat (a6 y231)).2.2.toNat 0+1)) fun d =>
   PS a e d
  else
   PS a e b
 else
  Mj b
def Mm(b:q9):List Int->Option Bool
 | a =>
 lp (B0o b) (0,a)
def Ub(d:q9)(f:Int×List Int->Option Bool):Int×List Int->Option Bool
 | (c,b) =>
 if(decide (c < (d.1.length:Int))) then
  gd (ix c d.1.length/\True)<|lt (d.1.getD c.toNat (a6 y155)) fun a =>
  gd (b7 ((a.2.2.length:Int)-1)/\ix ((a.2.2.length:Int)-1) a.2.2.length/\ix (a.2.2.getD ((a.2.2.length:Int)-1).toNat 0) b.length/\Int.toNat (a.2.2.getD ((a.2.2.length:Int)-1).toNat 0)<b.length/\b7 (b.getD (Int.toNat (a.2.2.getD ((a.2.2.length:Int)-1).toNat 0)) 0+1)/\ix (a.2.2.getD ((a.2.2.length:Int)-1).toNat 0) b.length/\Int.toNat (a.2.2.getD ((a.2.2.length:Int)-1).toNat 0)<b.length/\True)<|lt (b.set (Int.toNat (a.2.2.getD ((a.2.2.length:Int)-1).toNat 0)) (b.getD (Int.toNat (a.2.2.getD ((a.2.2.length:Int)-1).toNat 0)) 0+1)) fun e =>
  gd (b7 (c+1)/\True) <|
  f (c+1,e)
 else
  Mm d b
def Mn(a:q9)(b:List ByteArray):List ByteArray->Option Bool
 | c =>
 gd ((Cq b).isSome/\((!vl (Cq b))=false/\True->(Cq c).isSome)/\((!vl (Cq b)||!vl (Cq c))=false/\True->(Cq a.2.1).isSome)/\True) <|
 if(!vl (Cq b)||!vl (Cq c)||!vl (Cq a.2.1)) then
  some false
 else
  gd ((0<=(a.2.1.length:Int)/\(a.2.1.length:Int)=(a.2.1.length:Int)/\(a.2.1.length:Int).toNat*8<=281474976710656/\(a.2.1.length:Int)<=9223372036854775807)/\True) <|
  lp (Ub a) ((0,List.replicate (a.2.1.length:Int).toNat 0))
def B0p(b:q9)(e:List ByteArray)(d:Int×List ByteArray->Option Bool):Int×List ByteArray->Option Bool
 | (a,c) =>
 if(decide (a < (b.2.2.length:Int))) then
  gd (ix a b.2.2.length/\(c.length+[(b.2.2.getD a.toNat (a6 y231)).1].length<=9223372036854775807/\(c.length+[(b.2.2.getD a.toNat (a6 y231)).1].length)*16<=140737488355328)/\True) <|
  gd (b7 (a+1)/\True) <|
  d ((a+1,c++[(b.2.2.getD a.toNat (a6 y231)).1]))
 else
  Mn b e c
def Mo(a:q9):List ByteArray->Option Bool
 | b =>
 lp (B0p a b) (0,[])
def B0q(b:q9)(d:Int×List ByteArray->Option Bool):Int×List ByteArray->Option Bool
 | (a,c) =>
 if(decide (a < (b.1.length:Int))) then
  gd (ix a b.1.length/\(c.length+[(b.1.getD a.toNat (a6 y155)).1].length<=9223372036854775807/\(c.length+[(b.1.getD a.toNat (a6 y155)).1].length)*16<=140737488355328)/\True) <|
  gd (b7 (a+1)/\True) <|
  d ((a+1,c++[(b.1.getD a.toNat (a6 y155)).1]))
 else
  Mo b c
def Mp(b:List l5)(a:q9):Option Bool :=
 gd ((Mi b).isSome/\((!vl (Mi b)||decide (14 < (a.1.length:Int))||decide (30 < (a.2.1.length:Int))||decide (8 < (a.2.2.length:Int)))=false/\True->(PL b a).isSome)/\True) <|
 if(!vl (Mi b)||decide (14 < (a.1.length:Int))||decide (30 < (a.2.1.length:Int))||decide (8 < (a.2.2.length:Int))||!vl (PL b a)) then
  some false
 else
  lp (B0q a) (0,[])
def T0R:Ct:=b9 138 [.agg y153.sl,.agg y53] (fun x=>Mp x.1 x.2.1) (fun r:Bool=>B r) (fun _=>())
theorem Q0X:Ok prog T0R:=by
 refine c8 [.tmp 4] func138 ?_;intro y ⟨_,a,_⟩ r H Q hn hr;have:=hz (tc Q0C (tc Q0D (tc Q0E tn)));refine iA [2,3]<|vQ<|iB [3,40] H fun H=>cD H (fun H=>iA [4]<|a7<|fR<|hr H) fun H=>vK<|fQ<|iA [3,5]<|jN r (fun(g:List ByteArray)=>Z [p 3 (R 3),p 5 (O 41)] [(41,A 9 Ty.str g 0),(3,K 53 y53 a)]) (Mo a) (fun g H=>?_) (fun _ n0 e0 t0=>?_)
 ·refine iA [3,5,7]<|jN r (fun(t:List ByteArray)=>Z [p 3 (R 3),p 5 (O 41),p 7 (O 58)] [(58,A 9 Ty.str t 0),(41,A 9 Ty.str g 0),(3,K 53 y53 a)]) (Mn a g) (fun t H=>?_) (fun _ W e2 t2=>?_)
  ·refine vQ<|iB [3,88] H fun H=>cD H (fun H=>iA [4]<|a7<|fR<|hr H) fun H=>vK<|fQ<|iB [3,9] H fun H=>jN r (fun(e:List Int)=>Z [p 3 (R 3),p 9 (O 92)] (Hj e a)) (Mm a) (fun e H=>?_) (fun _ n4 e4 t4=>?_)
   ·refine jN r (fun(d:List Int)=>Z [p 9 (O 92)] [(92,A 2 i64 d 0)]) (Mj) (fun d H=>?_) (fun _ X e6 t6=>?_)
    ·refine jN r (fun(_:Unit)=>Z [] []) (B0r) (fun _ H=>?_) (fun _ G e9 t9=>?_)
     ·refine iA [4]<|a7<|hr H
     refine iA [9,13]<|vB<|lX (fun(f:Int)=>Z [p 9 (O 92),p 13 (I f)] [(92,A 2 i64 d 0)]) 0 H fun _ F q o n f H=>vQ<|iA [9,13,145]<|cD H (fun H=>?_) (fun H=>?_)
     ·refine vK<|fQ<|vQ<|vB<|iB [9,13,152] H fun H=>cD H (fun H=>iA [4]<|a7<|c9<|fR<|n<|c9<|t9<|hr H) fun H=>vK<|fK<|fQ<|jB [9,13] H fun H=>q H
     exact vE<|fE<|o<|fX rfl<|G H
    refine iA [3,9,12]<|vB<|lX (fun((b,i):Int×List Int)=>Z [p 3 (R 3),p 9 (O 92),p 12 (I b)] (Hj i a)) (0,e) H fun _ P T Y t7 ⟨b,i⟩ H=>vQ<|iA [3,9,12,121]<|cD H (fun H=>?_) (fun H=>?_)
    ·refine vK<|fQ<|jN r (fun(j:List Int)=>Z [p 3 (R 3),p 9 (O 92),p 12 (I b)] (Hj j a)) (PS b P) (fun j H=>?_) (fun _ u e8 t8=>?_)
     ·refine jB [3,9,12] H fun H=>T H
     refine vB<|iB [3,9,12,130] H fun H=>cD H (fun H=>zD (fun k=>Z [p 3 (R 3),p 9 (O 92),p 12 (I b)] (Hj k a)) H fun k H=>fK<|u H) fun H=>vK<|fK<|u H
    exact vE<|fE<|Y<|fX rfl<|X H
   refine iA [3,9,10]<|vB<|lX (fun((m,c):Int×List Int)=>Z [p 3 (R 3),p 9 (O 92),p 10 (I m)] (Hj c a)) ((0,List.replicate (a.2.1.length:Int).toNat 0)) H fun _ g5 V e5 t5 ⟨m,c⟩ H=>vQ<|iA [3,9,10,97]<|cD H (fun H=>vK<|fQ<|vQ<|vB<|qD (fun l=>Z [p 3 (R 3),p 9 (O 92),p 10 (I m),p 11 (L i64 l.2.2)] (Hj c a)) H fun l H=>zD (fun h=>Z [p 3 (R 3),p 9 (O 92),p 10 (I m)] (Hj h a)) H fun h H=>fK<|fQ<|jB [3,9,10] H fun H=>V H) fun H=>vE<|fE<|e5<|fX rfl<|n4 H
  refine iA [3,5,7,8]<|vB<|lX (fun((v,s):Int×List ByteArray)=>Z [p 3 (R 3),p 5 (O 41),p 7 (O 58),p 8 (I v)] [(58,A 9 Ty.str s 0),(41,A 9 Ty.str g 0),(3,K 53 y53 a)]) (0,[]) H fun _ g3 z e3 t3 ⟨v,s⟩ H=>vQ<|iA [3,5,7,8,63]<|cD H (fun H=>vK<|fQ<|vQ<|vB<|jB [3,5,7,8] H fun H=>fK<|fQ<|jB [3,5,7,8] H fun H=>z H) fun H=>vE<|fE<|e3<|fX rfl<|W H
 refine iA [3,5,6]<|vB<|lX (fun((w,x):Int×List ByteArray)=>Z [p 3 (R 3),p 5 (O 41),p 6 (I w)] [(41,A 9 Ty.str x 0),(3,K 53 y53 a)]) (0,[]) H fun _ g1 E e1 t1 ⟨w,x⟩ H=>vQ<|iA [3,5,6,46]<|cD H (fun H=>vK<|fQ<|vQ<|vB<|jB [3,5,6] H fun H=>fK<|fQ<|jB [3,5,6] H fun H=>E H) fun H=>vE<|fE<|e1<|fX rfl<|n0 H
def G0b:Unit->Option Bool
 | _ =>
 some true
def G0a(b:j0)(c:Int->Option Bool):Int->Option Bool
 | a =>
 if(decide (a < (b.2.2.length:Int))) then
  gd (ix a b.2.2.length/\(By b.2.1 a).isSome/\(LY (b.2.2.getD a.toNat (a6 y172)) (↑(vl (By b.2.1 a)).length:Int)).isSome/\True)<|lt (vl (By b.2.1 a)) fun d =>
  if(!vl (LY (b.2.2.getD a.toNat (a6 y172)) (d.length:Int))) then
   some false
  else
   gd (b7 (a+1)/\True) <|
   c (a+1)
 else
  G0b ()
def AX(a:j0):Option Bool :=
 gd ((Mp a.1 a.2.1).isSome/\True) <|
 if(!vl (Mp a.1 a.2.1)||(a.2.2.length:Int) != (a.2.1.2.1.length:Int)) then
  some false
 else
  lp (G0a a) 0
def k83:Ct:=b9 83 [.agg j3] (fun x=>AX x.1) (fun r:Bool=>B r) (fun _=>())
theorem Uc:Ok prog k83:=by
 refine c8 [.tmp 2] func83 ?_;intro y ⟨b,_⟩ r H Q hn hr;have:=hz (tc Q0W (tc Js (tc Q0X tn)));refine iA [1]<|vQ<|iB [1,19] H fun H=>cD H (fun H=>iA [2]<|a7<|fR<|hr H) fun H=>vK<|fQ<|jN r (fun(_:Unit)=>Z [] []) (G0b) (fun _ H=>?_) (fun _ f h c=>?_)
 ·refine iA [2]<|a7<|hr H
 refine iA [1,3]<|vB<|lX (fun(a:Int)=>Z (G8 a []) [(1,K 56 j3 b)]) 0 H fun _ i g e d a H=>vQ<|iA [1,3,24]<|cD H (fun H=>?_) (fun H=>?_)
 ·refine vK<|fQ<|vQ<|vB<|iD Js [1,3,38] H fun _ H=>cD H (fun H=>iA [2]<|a7<|c9<|fR<|d<|c9<|c<|hr H) fun H=>vK<|fK<|fQ<|jB [1,3] H fun H=>g H
 exact vE<|fE<|e<|fX rfl<|f H
def FW(a:j0)(b:List Int):Option Int :=
 gd ((AX a).isSome/\True) <|
 if(!vl (AX a)) then
  some 1
 else
  gd ((AA a).isSome/\(PG b (↑(vl (AA a)).length:Int)).isSome/\True)<|lt (vl (AA a)) fun c =>
  if(!vl (PG b (c.length:Int))) then
   some 2
  else
   some 0
def U0a:Ct:=b9 124 [.agg j3,.dat i64.sl] (fun x=>FW x.1 x.2.1) (fun r:Int=>I r) (fun _=>())
theorem PT:Ok prog U0a:=by
 refine c8 [.tmp 4] func124 ?_;intro y ⟨_,_,_⟩ r H Q hn hr;have:=hz (tc Q0G (tc Dj (tc Uc tn)));refine iA [1,2]<|vQ<|iB [1,2,7] H fun H=>cD H (fun H=>iA [4]<|a7<|fR<|hr H) fun H=>vK<|fQ<|vQ<|iD Dj [13] H fun _ H=>cD H (fun H=>iA [4]<|a7<|fR<|hr H) fun H=>vK<|fQ<|iA [4]<|a7<|hr H
def Mq(a:j0)(c:List Int):Option (List Int×Int) :=
 gd ((FW a c).isSome/\True)<|lt (vl (FW a c)) fun e =>
 if(e != 0) then
  some ([],e)
 else
  gd ((AA a).isSome/\True)<|lt (vl (AA a)) fun b =>
  gd ((M0 a).isSome/\(T5 b c).isSome/\(LX (vl (M0 a)) b (vl (T5 b c))).isSome/\True)<|lt ((vl (LX (vl (M0 a)) b (vl (T5 b c))),vl (T5 b c))) fun(d,_) =>
  if(!d.2) then
   some (([],(7:Int)))
  else
   some ((d.1,(0:Int)))
def T0Y:Ct:=b9 126 [.agg j3,.dat i64.sl] (fun x=>Mq x.1 x.2.1) (fun r:List Int×Int=>AV.tup [AV.ow 2 true i64 r.1,I r.2]) (fun _=>())
theorem N0S:Ok prog T0Y:=by
 refine c8 [.tmp 4,.tmp 5] func126 ?_;intro y ⟨c,_,_⟩ r H Q hn hr;have:=hz (tc Q0F (tc PC (tc Hq (tc Dj (tc PT tn)))));refine iA [1,2]<|vQ<|iD PT [1,2,6] H fun _ H=>iA [1,2,6,14]<|cD H (fun H=>iA [4,5]<|a7<|fR<|hr H) fun H=>vK<|fQ<|iD Dj [1,2,7] H fun d H=>qD (fun(a,b)=>Z [p 8 (O 26),p 9 (B a.2)] [(26,A 2 i64 a.1 0),(25,A 4 Ty.bool b 0),(18,A 138 y138 d 0),(2,K 56 j3 c)]) H fun⟨a,b⟩ H =>
  vQ <|
  iA [8,30] <|
  cD H (fun H=>iA [4,5]<|a7<|fR<|hr H) fun H=>vK<|fQ<|iA [4,5]<|a7<|hr H
def Dk(a:l9):Option Bool :=
 some (decide (0<=a.1)&&decide (a.1<=a.2)&&decide (a.2<=1000000))
def T0O:Ct:=b9 141 [.agg y73] (fun x=>Dk x.1) (fun r:Bool=>B r) (fun _=>())
theorem N0M:Ok prog T0O:=by
 refine c8 [.tmp 2] func141 ?_;intro y ⟨_,_⟩ r H Q hn hr;refine iA [1]<|iA [2]<|a7<|hr H
def T6(a:l9):Option Bool :=
 gd ((q7 a.1 (-1000000000) 1000000000).isSome/\(vl (q7 a.1 (-1000000000) 1000000000)=true/\True->(q7 a.2 (-1000000000) 1000000000).isSome)/\True) <|
 some (vl (q7 a.1 (-1000000000) 1000000000)&&vl (q7 a.2 (-1000000000) 1000000000)&&decide (a.1<=a.2))
def k62:Ct:=b9 62 [.agg y73] (fun x=>T6 x.1) (fun r:Bool=>B r) (fun _=>())
theorem PU:Ok prog k62:=by
 refine c8 [.tmp 2] func62 ?_;intro y ⟨_,_⟩ r H Q hn hr;have:=hz (tc AW tn);refine iA [1]<|iB [2] H fun H=>a7<|hr H
def B0t:Unit->Option Bool
 | _ =>
 some true
def B0s(b:List l7)(c:Int)(d:Int->Option Bool):Int->Option Bool
 | a =>
 if(decide (a < (b.length:Int))) then
  gd (ix a b.length/\b7 (c-1)/\(q7 (b.getD a.toNat (a6 y75)).1 0 (c-1)).isSome/\(decide (0<a)=true/\(!vl (q7 (b.getD a.toNat (a6 y75)).1 0 (c-1)))=false/\True->b7 (a-1))/\(decide (0<a)=true/\(!vl (q7 (b.getD a.toNat (a6 y75)).1 0 (c-1)))=false/\True->ix (a-1) b.length)/\(decide (0<a)=true/\(!vl (q7 (b.getD a.toNat (a6 y75)).1 0 (c-1)))=false/\True->ix a b.length)/\((!vl (q7 (b.getD a.toNat (a6 y75)).1 0 (c-1))||decide (0<a)&&decide ((b.getD a.toNat (a6 y75)).1<=(b.getD (a-1).toNat (a6 y75)).1))=false/\True->ix a b.length)/\((!vl (q7 (b.getD a.toNat (a6 y75)).1 0 (c-1))||decide (0<a)&&decide ((b.getD a.toNat (a6 y75)).1<=(b.getD (a-1).toNat (a6 y75)).1))=false/\True->(T6 (b.getD a.toNat (a6 y75)).2.1).isSome)/\((!vl (q7 (b.getD a.toNat (a6 y75)).1 0 (c-1))||decide (0<a)&&decide ((b.getD a.toNat (a6 y75)).1<=(b.getD (a-1).toNat (a6 y75)).1)||!vl (T6 (b.getD a.toNat (a6 y75)).2.1))=false/\True->ix a b.length)/\((!vl (q7 (b.getD a.toNat (a6 y75)).1 0 (c-1))||decide (0<a)&&decide ((b.getD a.toNat (a6 y75)).1<=(b.getD (a-1).toNat (a6 y75)).1)||!vl (T6 (b.getD a.toNat (a6 y75)).2.1))=false/\True->(Dk (b.getD a.toNat (a6 y75)).2.2).isSome)/\True) <|
  if(!vl (q7 (b.getD a.toNat (a6 y75)).1 0 (c-1))||decide (0<a)&&decide ((b.getD a.toNat (a6 y75)).1<=(b.getD (a-1).toNat (a6 y75)).1)||!vl (T6 (b.getD a.toNat (a6 y75)).2.1)||!vl (Dk (b.getD a.toNat (a6 y75)).2.2)) then
   some false
  else
   gd (b7 (a+1)/\True) <|
   d (a+1)
 else
  B0t ()
def Mr(a:j0)(c:List l7):Option Bool :=
 gd ((M0 a).isSome/\True)<|lt (vl (M0 a)) fun b =>
 lp (B0s c b) 0
def T0Z:Ct:=b9 125 [.agg j3,.dat y75.sl] (fun x=>Mr x.1 x.2.1) (fun r:Bool=>B r) (fun _=>())
theorem Q0Y:Ok prog T0Z:=by
 refine c8 [.tmp 4] func125 ?_;intro y ⟨_,e,_⟩ r H Q hn hr;have:=hz (tc N0M (tc PU (tc AW (tc Hq tn))));refine iA [1,2]<|iD Hq [1,5] H fun c H=>jN r (fun(_:Unit)=>Z [] []) (B0t) (fun _ H=>?_) (fun _ g i b=>?_)
 ·refine iA [4]<|a7<|hr H
 refine iA [1,5,6]<|vB<|lX (fun(a:Int)=>Z [p 1 (L y75 e),p 5 (I c),p 6 (I a)] []) 0 H fun _ j h f d a H=>vQ<|iA [1,5,6,12]<|cD H (fun H=>?_) (fun H=>?_)
 ·refine vK<|fQ<|vQ<|vB<|iB [1,5,6,59] H fun H=>cD H (fun H=>iA [4]<|a7<|c9<|fR<|d<|c9<|b<|hr H) fun H=>vK<|fK<|fQ<|jB [1,5,6] H fun H=>h H
 exact vE<|fE<|f<|fX rfl<|g H
def Ms(a:p8):Unit->Option Bool
 | _ =>
 gd ((AB a.1).isSome/\True) <|
 some (vl (AB a.1)&&decide (a.2.1<=a.2.2.1)&&decide (a.2.2.2.1<=a.2.2.2.2))
def PV(b:List Int)(c:p8)(d:Int->Option Bool):Int->Option Bool
 | a =>
 if(decide (a < (b.length:Int))) then
  gd (ix a b.length/\a.toNat<b.length/\(q7 (b.getD a.toNat 0) 100 5000).isSome/\True) <|
  if(!vl (q7 (b.getD a.toNat 0) 100 5000)) then
   some false
  else
   gd (b7 (a+1)/\True) <|
   d (a+1)
 else
  Ms c ()
def DY(a:p8):Option Bool :=
 lt ([a.2.1,a.2.2.1,a.2.2.2.1,a.2.2.2.2]) fun b =>
 lp (PV b a) 0
def k84:Ct:=b9 84 [.agg q4] (fun x=>DY x.1) (fun r:Bool=>B r) (fun _=>())
theorem o84:Ok prog k84:=by
 refine c8 [.tmp 2] func84 ?_;intro y ⟨a,_⟩ r H Q hn hr;have:=hz (tc PJ (tc AW tn));refine iA [1]<|qC (fun b=>Z [p 1 (R 1),p 3 (O 13)] [(13,A 2 i64 b 0),(1,K 58 q4 a)]) H fun b H=>jN r (fun(_:Unit)=>Z [p 1 (R 1)] [(1,K 58 q4 a)]) (Ms a) (fun _ H=>?_) (fun _ g i d=>?_)
 ·refine iB [2] H fun H=>a7<|hr H
 refine iA [1,3,4]<|vB<|lX (fun(c:Int)=>Z [p 1 (R 1),p 3 (O 13),p 4 (I c)] [(13,A 2 i64 b 0),(1,K 58 q4 a)]) 0 H fun _ j h f e c H=>vQ<|iA [1,3,4,17]<|cD H (fun H=>?_) (fun H=>?_)
 ·refine vK<|fQ<|vQ<|vB<|iB [1,3,4,25] H fun H=>cD H (fun H=>iA [2]<|a7<|c9<|fR<|e<|c9<|d<|hr H) fun H=>vK<|fK<|fQ<|jB [1,3,4] H fun H=>h H
 exact vE<|fE<|f<|fX rfl<|g H
def Hs(a:j0)(c:p8)(b:List Int)(d:List l7):Option (List Int×Int) :=
 gd ((AX a).isSome/\((!vl (AX a))=false/\True->(DY c).isSome)/\True) <|
 if(!vl (AX a)||!vl (DY c)) then
  some (([],(1:Int)))
 else
  gd ((FW a b).isSome/\((vl (FW a b) != 0)=false/\True->(Mr a d).isSome)/\True)<|lt (vl (FW a b)) fun f =>
  if(f != 0||!vl (Mr a d)) then
   some (([],(2:Int)))
  else
   gd ((Mq a b).isSome/\True)<|lt (vl (Mq a b)) fun e =>
   some e
def k67:Ct:=b9 67 [.agg j3,.agg q4,.dat i64.sl,.dat y75.sl] (fun x=>Hs x.1 x.2.1 x.2.2.1 x.2.2.2.1) (fun r:List Int×Int=>AV.tup [AV.ow 2 true i64 r.1,I r.2]) (fun _=>())
theorem PW:Ok prog k67:=by
 refine c8 [.tmp 8,.tmp 9] func67 ?_;intro y ⟨_,_,_,_,_⟩ r H Q hn hr;have:=hz (tc N0S (tc Q0Y (tc PT (tc o84 (tc Uc tn)))));refine iA [2,3,4,5]<|vQ<|iB [2,3,4,17] H fun H=>cD H (fun H=>iA [8,9]<|a7<|fR<|hr H) fun H=>vK<|fQ<|vQ<|iD PT [2,4,28] H fun _ H=>cD H (fun H=>iA [8,9]<|a7<|fR<|hr H) fun H=>vK<|fQ<|iD N0S [8,9] H fun _ H=>a7<|hr H
def F0Z:Unit->Option Bool
 | _ =>
 some true
def K0C(b:B8)(c:Int->Option Bool):Int->Option Bool
 | a =>
 if(decide (a < (b.1.length:Int))) then
  gd (ix a b.2.1.length/\(T6 (b.2.1.getD a.toNat (a6 y73))).isSome/\((!vl (T6 (b.2.1.getD a.toNat (a6 y73))))=false/\True->ix a b.2.2.length)/\((!vl (T6 (b.2.1.getD a.toNat (a6 y73))))=false/\True->(Dk (b.2.2.getD a.toNat (a6 y73))).isSome)/\((!vl (T6 (b.2.1.getD a.toNat (a6 y73)))||!vl (Dk (b.2.2.getD a.toNat (a6 y73))))=false/\True->ix a b.1.length)/\((!b.1.getD a.toNat false)=true/\(!vl (T6 (b.2.1.getD a.toNat (a6 y73)))||!vl (Dk (b.2.2.getD a.toNat (a6 y73))))=false/\True->ix a b.2.1.length)/\((!((b.2.1.getD a.toNat (a6 y73)).1==0&&((b.2.1.getD a.toNat (a6 y73)).2==0&&true)))=false/\(!b.1.getD a.toNat false)=true/\(!vl (T6 (b.2.1.getD a.toNat (a6 y73)))||!vl (Dk (b.2.2.getD a.toNat (a6 y73))))=false/\True->ix a b.2.2.length)/\True)<|lt (!vl (T6 (b.2.1.getD a.toNat (a6 y73)))||!vl (Dk (b.2.2.getD a.toNat (a6 y73)))||!b.1.getD a.toNat false&&(!((b.2.1.getD a.toNat (a6 y73)).1==0&&((b.2.1.getD a.toNat (a6 y73)).2==0&&true))||!((b.2.2.getD a.toNat (a6 y73)).1==0&&((b.2.2.getD a.toNat (a6 y73)).2==0&&true)))) fun d =>
  if d then
   some false
  else
   gd (b7 (a+1)/\True) <|
   c (a+1)
 else
  F0Z ()
def Ud(b:Int)(a:B8):Option Bool :=
 if((a.1.length:Int) != b||(a.2.1.length:Int) != b||(a.2.2.length:Int) != b) then
  some false
 else
  lp (K0C a) 0
def k85:Ct:=b9 85 [.dat i64,.agg y65] (fun x=>Ud x.1 x.2.1) (fun r:Bool=>B r) (fun _=>())
theorem o85:Ok prog k85:=by
 refine c8 [.tmp 4] func85 ?_;intro y ⟨_,c,_⟩ r H Q hn hr;have:=hz (tc N0M (tc PU tn));refine iA [0,3]<|vQ<|iA [3,24]<|cD H (fun H=>iA [4]<|a7<|fR<|hr H) fun H=>vK<|fQ<|jN r (fun(_:Unit)=>Z [] []) (F0Z) (fun _ H=>?_) (fun _ g i d=>?_)
 ·refine iA [4]<|a7<|hr H
 refine iA [3,5]<|vB<|lX (fun(a:Int)=>Z [p 3 (R 3),p 5 (I a)] [(3,K 65 y65 c)]) 0 H fun _ j h f e a H=>vQ<|iA [3,5,29]<|cD H (fun H=>?_) (fun H=>?_)
 ·refine vK<|fQ<|vQ<|vB<|qD (fun b=>Z [p 3 (R 3),p 5 (I a),p 73 (B b)] [(3,K 65 y65 c)]) H fun b H=>cD H (fun H=>iA [4]<|a7<|c9<|fR<|e<|c9<|d<|hr H) fun H=>vK<|fK<|fQ<|jB [3,5] H fun H=>h H
 exact vE<|fE<|f<|fX rfl<|g H
def Mt(a:j0)(b:p8)(c:List Int)(e:List l7)(d:B8):Option Int :=
 gd ((AX a).isSome/\((!vl (AX a))=false/\True->(DY b).isSome)/\((!vl (AX a)||!vl (DY b))=false/\True->(M0 a).isSome)/\((!vl (AX a)||!vl (DY b))=false/\True->(Ud (vl (M0 a)) d).isSome)/\True) <|
 if(!vl (AX a)||!vl (DY b)||!vl (Ud (vl (M0 a)) d)) then
  some 1
 else
  gd ((Hs a b c e).isSome/\True)<|lt (vl (Hs a b c e)) fun f =>
  some f.2
def k40:Ct:=b9 40 [.agg j3,.agg q4,.dat i64.sl,.dat y75.sl,.agg y65] (fun x=>Mt x.1 x.2.1 x.2.2.1 x.2.2.2.1 x.2.2.2.2.1) (fun r:Int=>I r) (fun _=>())
theorem PX:Ok prog k40:=by
 refine c8 [.tmp 10] func40 ?_;intro y ⟨_,_,_,_,_,_⟩ r H Q hn hr;have:=hz (tc PW (tc o85 (tc Hq (tc o84 (tc Uc tn)))));refine iA [2,3,5,6,9]<|vQ<|iB [2,3,5,6,27] H fun H=>cD H (fun H=>iA [10]<|a7<|fR<|hr H) fun H=>vK<|fQ<|iD PW [12] H fun _ H=>iA [10]<|a7<|hr H
def Ue(b:j0)(f:p8)(a:List Int)(g:List l7)(d:B8)(h:Int)(e:Int):Option (Int×Int) :=
 gd ((Mt b f a g d).isSome/\True)<|lt (vl (Mt b f a g d)) fun i =>
 if(i != 0) then
  some (((0:Int),i))
 else
  gd ((TV e).isSome/\True) <|
  if(!vl (TV e)) then
   some (((0:Int),(2:Int)))
  else
   gd ((AA b).isSome/\True)<|lt (vl (AA b)) fun c =>
   gd ((T5 c a).isSome/\(TQ b f c (vl (T5 c a)) g d h e).isSome/\True)<|lt ((vl (TQ b f c (vl (T5 c a)) g d h e),vl (T5 c a))) fun(j,_) =>
   some j
def k11:Ct:=b9 11 [.agg j3,.agg q4,.dat i64.sl,.dat y75.sl,.agg y65,.dat i64,.dat i64] (fun x=>Ue x.1 x.2.1 x.2.2.1 x.2.2.2.1 x.2.2.2.2.1 x.2.2.2.2.2.1 x.2.2.2.2.2.2.1) (fun r:Int×Int=>AV.tup [I r.1,I r.2]) (fun _=>())
theorem o11:Ok prog k11:=by
 refine c8 [.tmp 14,.tmp 15] func11 ?_;intro y ⟨d,f,_,_,c,_,_,_⟩ r H Q hn hr;have:=hz (tc o43 (tc PC (tc Dj (tc o41 (tc PX tn)))));refine iA [2,3,5,6,7,8,11]<|vQ<|iD PX [2,3,5,6,7,8,11,16] H fun _ H=>iA [2,3,5,6,7,8,11,16,25]<|cD H (fun H=>iA [14,15]<|a7<|fR<|hr H) fun H=>vK<|fQ<|vQ<|iB [2,3,5,6,7,8,11,29] H fun H=>cD H (fun H=>iA [14,15]<|a7<|fR<|hr H) fun H=>vK<|fQ<|iD Dj [2,3,5,6,7,8,11,17] H fun e H=>qD (fun(a,b)=>Z [p 14 (I a.1),p 15 (I a.2)] [(37,A 4 Ty.bool b 0),(31,A 138 y138 e 0),(11,K 65 y65 c),(8,K 58 q4 f),(7,K 56 j3 d)]) H fun⟨a,b⟩ H =>
  a7<|hr H
def H0J:List Int->Option (List Int)
 | a =>
 some a
def L0c(c:List Int)(d:Int×List Int->Option (List Int)):Int×List Int->Option (List Int)
 | (a,b) =>
 if(decide (a < (c.length:Int))) then
  gd (ix a c.length/\ix a b.length/\a.toNat<b.length/\True) <|
  gd (b7 (a+1)/\True) <|
  d ((a+1,b.set a.toNat (c.getD a.toNat 0)))
 else
  H0J b
def F1(a:List Int):Option (List Int) :=
 gd ((0<=(a.length:Int)/\(a.length:Int)=(a.length:Int)/\(a.length:Int).toNat*8<=281474976710656/\(a.length:Int)<=9223372036854775807)/\True) <|
 lp (L0c a) ((0,List.replicate (a.length:Int).toNat 0))
def k14:Ct:=b9 14 [.dat i64.sl] (fun x=>F1 x.1) (fun r:List Int=>AV.ow 2 true i64 r) (fun _=>())
theorem J7:Ok prog k14:=by
 refine c8 [.tmp 2] func14 ?_;intro y ⟨b,_⟩ r H Q hn hr;refine iA [0]<|iB [0,3] H fun H=>jN r (fun(a:List Int)=>Z [p 3 (O 7)] [(7,A 2 i64 a 0)]) (H0J) (fun a H=>?_) (fun _ f i h=>?_)
 ·refine iA [2]<|a7<|hr H
 refine iA [0,3,4]<|vB<|lX (fun((c,d):Int×List Int)=>Z [p 0 (L i64 b),p 3 (O 7),p 4 (I c)] [(7,A 2 i64 d 0)]) ((0,List.replicate (b.length:Int).toNat 0)) H fun _ k g e j ⟨c,d⟩ H=>vQ<|iA [0,3,4,11]<|cD H (fun H=>vK<|fQ<|vQ<|vB<|jB [0,3,4] H fun H=>fK<|fQ<|jB [0,3,4] H fun H=>g H) fun H=>vE<|fE<|e<|fX rfl<|f H
def Jz(a:Ce):Option D0 :=
 gd ((F1 a.1).isSome/\True)<|lt (vl (F1 a.1)) fun d =>
 gd ((F1 a.2.1).isSome/\True)<|lt (vl (F1 a.2.1)) fun b =>
 gd ((F1 a.2.2.1).isSome/\True)<|lt (vl (F1 a.2.2.1)) fun c =>
 gd ((F1 a.2.2.2).isSome/\True)<|lt (vl (F1 a.2.2.2)) fun e =>
 some (d,b,c,e)
def k98:Ct:=b9 98 [.agg y146] (fun x=>Jz x.1) (fun r:D0=>AV.agg [AV.ow 2 true i64 r.1,AV.ow 2 true i64 r.2.1,AV.ow 2 true i64 r.2.2.1,AV.ow 2 true i64 r.2.2.2]) (fun _=>())
theorem o98:Ok prog k98:=by
 refine c8 [.cell 2 172] func98 ?_;intro y ⟨_,_⟩ r H Q hn hr;have:=hz (tc J7 tn);refine iA [1,2]<|iA [1,2,3]<|iD J7 [1,2,3] H fun _ H=>iD J7 [1,2,3] H fun _ H=>iD J7 [1,2,3] H fun _ H=>iD J7 [2,3] H fun _ H=>iA [2]<|a7<|hr H
def R0m:Ct:=b9 98 [.agg y146] (fun x=>Jz x.1) (fun r=>frz ((fun r:D0=>AV.agg [AV.ow 2 true i64 r.1,AV.ow 2 true i64 r.2.1,AV.ow 2 true i64 r.2.2.1,AV.ow 2 true i64 r.2.2.2]) r)) (fun _=>())
theorem P0L:Ok prog R0m:=JA o98
def G0x:List D0->Option (List D0)
 | a =>
 some a
def K0N(b:List Ce)(e:Int×List D0->Option (List D0)):Int×List D0->Option (List D0)
 | (a,c) =>
 if(decide (a < (b.length:Int))) then
  gd (ix a b.length/\(Jz (b.getD a.toNat (a6 y146))).isSome/\ix a c.length/\a.toNat<c.length/\True)<|lt (vl (Jz (b.getD a.toNat (a6 y146)))) fun d =>
  gd (b7 (a+1)/\True) <|
  e (a+1,c.set a.toNat d)
 else
  G0x c
def Mu(a:List Ce):Option (List D0) :=
 gd ((0<=(a.length:Int)/\(a.length:Int)=(a.length:Int)/\(a.length:Int).toNat*96<=281474976710656/\(a.length:Int)<=9223372036854775807)/\True) <|
 lp (K0N a) ((0,List.replicate (a.length:Int).toNat ([],[],[],[])))
def k47:Ct:=b9 47 [.dat y146.sl] (fun x=>Mu x.1) (fun r:List D0=>AV.ow 172 true y172 r) (fun _=>())
theorem o47:Ok prog k47:=by
 refine c8 [.tmp 2] func47 ?_;intro y ⟨c,_⟩ r H Q hn hr;have:=hz (tc P0L tn);refine iA [0]<|iB [0,3] H fun H=>jN r (fun(d:List D0)=>Z [p 3 (O 7)] [(7,A 172 y172 d 0)]) (G0x) (fun d H=>?_) (fun _ g j i=>?_)
 ·refine iA [2]<|a7<|hr H
 refine iA [0,3,4]<|vB<|lX (fun((a,b):Int×List D0)=>Z [p 0 (L y146 c),p 3 (O 7),p 4 (I a)] [(7,A 172 y172 b 0)]) ((0,List.replicate (c.length:Int).toNat ([],[],[],[]))) H fun _ l h f k ⟨a,b⟩ H=>vQ<|iA [0,3,4,11]<|cD H (fun H=>vK<|fQ<|vQ<|vB<|zD (fun e=>Z [p 0 (L y146 c),p 3 (O 7),p 4 (I a)] [(7,A 172 y172 (b.set a.toNat e) 0)]) H fun e H=>fK<|fQ<|jB [0,3,4] H fun H=>h H) fun H=>vE<|fE<|f<|fX rfl<|g H
def Mv(a:Cf):Option K1 :=
 some a
def T0J:Ct:=b9 146 [.agg y221] (fun x=>Mv x.1) (fun r:K1=>AV.agg [S r.1,I r.2.1,I r.2.2]) (fun _=>())
theorem N0L:Ok prog T0J:=by
 refine c8 [.cell 2 231] func146 ?_;intro y ⟨_,_⟩ r H Q hn hr;refine iA [1,2]<|iA [1,2,3]<|iA [1,2,3]<|iA [1,2,3]<|iA [2,3]<|iA [2]<|a7<|hr H
def F0M:List K1->Option (List K1)
 | a =>
 some a
def K0y(b:List Cf)(e:Int×List K1->Option (List K1)):Int×List K1->Option (List K1)
 | (a,c) =>
 if(decide (a < (b.length:Int))) then
  gd (ix a b.length/\(Mv (b.getD a.toNat (a6 y221))).isSome/\ix a c.length/\a.toNat<c.length/\True)<|lt (vl (Mv (b.getD a.toNat (a6 y221)))) fun d =>
  gd (b7 (a+1)/\True) <|
  e (a+1,c.set a.toNat d)
 else
  F0M c
def Mw(a:List Cf):Option (List K1) :=
 gd ((0<=(a.length:Int)/\(a.length:Int)=(a.length:Int)/\(a.length:Int).toNat*32<=281474976710656/\(a.length:Int)<=9223372036854775807)/\True)<|lt (List.replicate (a.length:Int).toNat (ByteArray.mk #[],(0:Int),(0:Int))) fun b =>
 lp (K0y a) (0,b)
def k97:Ct:=b9 97 [.dat y221.sl] (fun x=>Mw x.1) (fun r:List K1=>AV.ow 231 true y231 r) (fun _=>())
theorem o97:Ok prog k97:=by
 refine c8 [.tmp 2] func97 ?_;intro y ⟨c,_⟩ r H Q hn hr;have:=hz (tc N0L tn);refine iA [0]<|qD (fun a=>Z [p 0 (L y221 c),p 3 (O 7)] [(7,A 231 y231 a 0)]) H fun a H=>jN r (fun(d:List K1)=>Z [p 3 (O 7)] [(7,A 231 y231 d 0)]) (F0M) (fun d H=>?_) (fun _ g j i=>?_)
 ·refine iA [2]<|a7<|hr H
 refine iA [0,3,4]<|vB<|lX (fun((e,b):Int×List K1)=>Z [p 0 (L y221 c),p 3 (O 7),p 4 (I e)] [(7,A 231 y231 b 0)]) (0,a) H fun _ l h f k ⟨e,b⟩ H=>vQ<|iA [0,3,4,11]<|cD H (fun H=>vK<|fQ<|vQ<|vB<|jD N0L [0,3,4] H fun _ H=>fK<|fQ<|jB [0,3,4] H fun H=>h H) fun H=>vE<|fE<|f<|fX rfl<|g H
def F0N:List ByteArray->Option (List ByteArray)
 | a =>
 some a
def K0z(c:List ByteArray)(d:Int×List ByteArray->Option (List ByteArray)):Int×List ByteArray->Option (List ByteArray)
 | (a,b) =>
 if(decide (a < (c.length:Int))) then
  gd (ix a c.length/\ix a b.length/\a.toNat<b.length/\True) <|
  gd (b7 (a+1)/\True) <|
  d ((a+1,b.set a.toNat (c.getD a.toNat (a6 Ty.str))))
 else
  F0N b
def Mx(a:List ByteArray):Option (List ByteArray) :=
 gd ((0<=(a.length:Int)/\(a.length:Int)=(a.length:Int)/\(a.length:Int).toNat*16<=281474976710656/\(a.length:Int)<=9223372036854775807)/\True) <|
 lp (K0z a) ((0,List.replicate (a.length:Int).toNat (ByteArray.mk #[])))
def k96:Ct:=b9 96 [.dat Ty.str.sl] (fun x=>Mx x.1) (fun r:List ByteArray=>AV.ow 9 true Ty.str r) (fun _=>())
theorem o96:Ok prog k96:=by
 refine c8 [.tmp 2] func96 ?_;intro y ⟨b,_⟩ r H Q hn hr;refine iA [0]<|iB [0,3] H fun H=>jN r (fun(a:List ByteArray)=>Z [p 3 (O 7)] [(7,A 9 Ty.str a 0)]) (F0N) (fun a H=>?_) (fun _ f i h=>?_)
 ·refine iA [2]<|a7<|hr H
 refine iA [0,3,4]<|vB<|lX (fun((c,d):Int×List ByteArray)=>Z [p 0 (L Ty.str b),p 3 (O 7),p 4 (I c)] [(7,A 9 Ty.str d 0)]) ((0,List.replicate (b.length:Int).toNat (ByteArray.mk #[]))) H fun _ k g e j ⟨c,d⟩ H=>vQ<|iA [0,3,4,11]<|cD H (fun H=>vK<|fQ<|vQ<|vB<|jB [0,3,4] H fun H=>fK<|fQ<|jB [0,3,4] H fun H=>g H) fun H=>vE<|fE<|e<|fX rfl<|f H
def JB(a:Cg):Option H2 :=
 gd ((F1 a.2.2).isSome/\True)<|lt (vl (F1 a.2.2)) fun b =>
 some (a.1,a.2.1,b)
def T0K:Ct:=b9 145 [.agg y218] (fun x=>JB x.1) (fun r:H2=>AV.agg [S r.1,I r.2.1,AV.ow 2 true i64 r.2.2]) (fun _=>())
theorem Q0U:Ok prog T0K:=by
 refine c8 [.cell 2 155] func145 ?_;intro y ⟨_,_⟩ r H Q hn hr;have:=hz (tc J7 tn);refine iA [1,2]<|iA [1,2,3]<|iA [1,2,3]<|iA [1,2,3]<|iD J7 [2,3] H fun _ H=>iA [2]<|a7<|hr H
def M0g:Ct:=b9 145 [.agg y218] (fun x=>JB x.1) (fun r=>frz ((fun r:H2=>AV.agg [S r.1,I r.2.1,AV.ow 2 true i64 r.2.2]) r)) (fun _=>())
theorem L0R:Ok prog M0g:=JA Q0U
def F0O:List H2->Option (List H2)
 | a =>
 some a
def K0A(b:List Cg)(e:Int×List H2->Option (List H2)):Int×List H2->Option (List H2)
 | (a,c) =>
 if(decide (a < (b.length:Int))) then
  gd (ix a b.length/\(JB (b.getD a.toNat (a6 y218))).isSome/\ix a c.length/\a.toNat<c.length/\True)<|lt (vl (JB (b.getD a.toNat (a6 y218)))) fun d =>
  gd (b7 (a+1)/\True) <|
  e (a+1,c.set a.toNat d)
 else
  F0O c
def My(a:List Cg):Option (List H2) :=
 gd ((0<=(a.length:Int)/\(a.length:Int)=(a.length:Int)/\(a.length:Int).toNat*48<=281474976710656/\(a.length:Int)<=9223372036854775807)/\True)<|lt (List.replicate (a.length:Int).toNat (ByteArray.mk #[],(0:Int),[])) fun b =>
 lp (K0A a) (0,b)
def k95:Ct:=b9 95 [.dat y218.sl] (fun x=>My x.1) (fun r:List H2=>AV.ow 155 true y155 r) (fun _=>())
theorem o95:Ok prog k95:=by
 refine c8 [.tmp 2] func95 ?_;intro y ⟨c,_⟩ r H Q hn hr;have:=hz (tc L0R tn);refine iA [0]<|qD (fun d=>Z [p 0 (L y218 c),p 3 (O 7)] [(7,A 155 y155 d 0)]) H fun d H=>jN r (fun(e:List H2)=>Z [p 3 (O 7)] [(7,A 155 y155 e 0)]) (F0O) (fun e H=>?_) (fun _ h k j=>?_)
 ·refine iA [2]<|a7<|hr H
 refine iA [0,3,4]<|vB<|lX (fun((a,b):Int×List H2)=>Z [p 0 (L y218 c),p 3 (O 7),p 4 (I a)] [(7,A 155 y155 b 0)]) (0,d) H fun _ m i g l ⟨a,b⟩ H=>vQ<|iA [0,3,4,11]<|cD H (fun H=>vK<|fQ<|vQ<|vB<|zD (fun f=>Z [p 0 (L y218 c),p 3 (O 7),p 4 (I a)] [(7,A 155 y155 (b.set a.toNat f) 0)]) H fun f H=>fK<|fQ<|jB [0,3,4] H fun H=>i H) fun H=>vE<|fE<|g<|fX rfl<|h H
def Mz(a:LB):Option q9 :=
 gd ((My a.1).isSome/\True)<|lt (vl (My a.1)) fun b =>
 gd ((Mx a.2.1).isSome/\True)<|lt (vl (Mx a.2.1)) fun c =>
 gd ((Mw a.2.2).isSome/\True)<|lt (vl (Mw a.2.2)) fun d =>
 some (b,c,d)
def k46:Ct:=b9 46 [.agg Ch] (fun x=>Mz x.1) (fun r:q9=>AV.agg [AV.ow 155 true y155 r.1,AV.ow 9 true Ty.str r.2.1,AV.ow 231 true y231 r.2.2]) (fun _=>())
theorem o46:Ok prog k46:=by
 refine c8 [.cell 2 53] func46 ?_;intro y ⟨_,_⟩ r H Q hn hr;have:=hz (tc o97 (tc o96 (tc o95 tn)));refine iA [1,2]<|iA [1,2,3]<|iD o95 [1,2,3] H fun _ H=>iD o96 [1,2,3] H fun _ H=>iD o97 [2,3] H fun _ H=>iA [2]<|a7<|hr H
def JC(a:Bw):Option q5 :=
 gd ((F1 a.1).isSome/\True)<|lt (vl (F1 a.1)) fun b =>
 gd ((F1 a.2.1).isSome/\True)<|lt (vl (F1 a.2.1)) fun c =>
 gd ((F1 a.2.2).isSome/\True)<|lt (vl (F1 a.2.2)) fun d =>
 some (b,c,d)
def R0N:Ct:=b9 271 [.agg y342] (fun x=>JC x.1) (fun r:q5=>AV.agg [AV.ow 2 true i64 r.1,AV.ow 2 true i64 r.2.1,AV.ow 2 true i64 r.2.2]) (fun _=>())
theorem P0Z:Ok prog R0N:=by
 refine c8 [.cell 2 269] func271 ?_;intro y ⟨_,_⟩ r H Q hn hr;have:=hz (tc J7 tn);refine iA [1,2]<|iA [1,2,3]<|iD J7 [1,2,3] H fun _ H=>iD J7 [1,2,3] H fun _ H=>iD J7 [2,3] H fun _ H=>iA [2]<|a7<|hr H
def M0d:Ct:=b9 271 [.agg y342] (fun x=>JC x.1) (fun r=>frz ((fun r:q5=>AV.agg [AV.ow 2 true i64 r.1,AV.ow 2 true i64 r.2.1,AV.ow 2 true i64 r.2.2]) r)) (fun _=>())
theorem L0C:Ok prog M0d:=JA P0Z
def z0T:List q5->Option (List q5)
 | a =>
 some a
def G0R(b:List Bw)(e:Int×List q5->Option (List q5)):Int×List q5->Option (List q5)
 | (a,c) =>
 if(decide (a < (b.length:Int))) then
  gd (ix a b.length/\(JC (b.getD a.toNat (a6 y342))).isSome/\ix a c.length/\a.toNat<c.length/\True)<|lt (vl (JC (b.getD a.toNat (a6 y342)))) fun d =>
  gd (b7 (a+1)/\True) <|
  e (a+1,c.set a.toNat d)
 else
  z0T c
def Ht(a:List Bw):Option (List q5) :=
 gd ((0<=(a.length:Int)/\(a.length:Int)=(a.length:Int)/\(a.length:Int).toNat*72<=281474976710656/\(a.length:Int)<=9223372036854775807)/\True) <|
 lp (G0R a) ((0,List.replicate (a.length:Int).toNat ([],[],[])))
def R0W:Ct:=b9 257 [.dat y342.sl] (fun x=>Ht x.1) (fun r:List q5=>AV.ow 269 true y269 r) (fun _=>())
theorem Uf:Ok prog R0W:=by
 refine c8 [.tmp 2] func257 ?_;intro y ⟨c,_⟩ r H Q hn hr;have:=hz (tc L0C tn);refine iA [0]<|iB [0,3] H fun H=>jN r (fun(d:List q5)=>Z [p 3 (O 7)] [(7,A 269 y269 d 0)]) (z0T) (fun d H=>?_) (fun _ g j i=>?_)
 ·refine iA [2]<|a7<|hr H
 refine iA [0,3,4]<|vB<|lX (fun((a,b):Int×List q5)=>Z [p 0 (L y342 c),p 3 (O 7),p 4 (I a)] [(7,A 269 y269 b 0)]) ((0,List.replicate (c.length:Int).toNat ([],[],[]))) H fun _ l h f k ⟨a,b⟩ H=>vQ<|iA [0,3,4,11]<|cD H (fun H=>vK<|fQ<|vQ<|vB<|zD (fun e=>Z [p 0 (L y342 c),p 3 (O 7),p 4 (I a)] [(7,A 269 y269 (b.set a.toNat e) 0)]) H fun e H=>fK<|fQ<|jB [0,3,4] H fun H=>h H) fun H=>vE<|fE<|f<|fX rfl<|g H
def JD(a:Ci):Option A6 :=
 gd ((Ht a.2.2.2.2.1).isSome/\True)<|lt (vl (Ht a.2.2.2.2.1)) fun b =>
 gd ((Ht a.2.2.2.2.2).isSome/\True)<|lt (vl (Ht a.2.2.2.2.2)) fun c =>
 some (a.1,a.2.1,a.2.2.1,a.2.2.2.1,b,c)
def S0m:Ct:=b9 231 [.agg y300] (fun x=>JD x.1) (fun r:A6=>AV.agg [I r.1,I r.2.1,I r.2.2.1,I r.2.2.2.1,AV.ow 269 true y269 r.2.2.2.2.1,AV.ow 269 true y269 r.2.2.2.2.2]) (fun _=>())
theorem Q0n:Ok prog S0m:=by
 refine c8 [.cell 2 158] func231 ?_;intro y ⟨_,_⟩ r H Q hn hr;have:=hz (tc Uf tn);refine iA [1,2]<|iA [1,2,3]<|iA [1,2,3]<|iA [1,2,3]<|iA [1,2,3]<|iA [1,2,3]<|iD Uf [1,2,3] H fun _ H=>iD Uf [2,3] H fun _ H=>iA [2]<|a7<|hr H
def M0e:Ct:=b9 231 [.agg y300] (fun x=>JD x.1) (fun r=>frz ((fun r:A6=>AV.agg [I r.1,I r.2.1,I r.2.2.1,I r.2.2.2.1,AV.ow 269 true y269 r.2.2.2.2.1,AV.ow 269 true y269 r.2.2.2.2.2]) r)) (fun _=>())
theorem L0I:Ok prog M0e:=JA Q0n
def A0x:List A6->Option (List A6)
 | a =>
 some a
def H0r(b:List Ci)(e:Int×List A6->Option (List A6)):Int×List A6->Option (List A6)
 | (a,c) =>
 if(decide (a < (b.length:Int))) then
  gd (ix a b.length/\(JD (b.getD a.toNat (a6 y300))).isSome/\ix a c.length/\a.toNat<c.length/\True)<|lt (vl (JD (b.getD a.toNat (a6 y300)))) fun d =>
  gd (b7 (a+1)/\True) <|
  e (a+1,c.set a.toNat d)
 else
  A0x c
def MA(a:List Ci):Option (List A6) :=
 gd ((0<=(a.length:Int)/\(a.length:Int)=(a.length:Int)/\(a.length:Int).toNat*80<=281474976710656/\(a.length:Int)<=9223372036854775807)/\True)<|lt (List.replicate (a.length:Int).toNat ((0:Int),(0:Int),(0:Int),(0:Int),[],[])) fun b =>
 lp (H0r a) (0,b)
def S0R:Ct:=b9 195 [.dat y300.sl] (fun x=>MA x.1) (fun r:List A6=>AV.ow 158 true y158 r) (fun _=>())
theorem N0v:Ok prog S0R:=by
 refine c8 [.tmp 2] func195 ?_;intro y ⟨c,_⟩ r H Q hn hr;have:=hz (tc L0I tn);refine iA [0]<|qD (fun d=>Z [p 0 (L y300 c),p 3 (O 7)] [(7,A 158 y158 d 0)]) H fun d H=>jN r (fun(e:List A6)=>Z [p 3 (O 7)] [(7,A 158 y158 e 0)]) (A0x) (fun e H=>?_) (fun _ h k j=>?_)
 ·refine iA [2]<|a7<|hr H
 refine iA [0,3,4]<|vB<|lX (fun((a,b):Int×List A6)=>Z [p 0 (L y300 c),p 3 (O 7),p 4 (I a)] [(7,A 158 y158 b 0)]) (0,d) H fun _ m i g l ⟨a,b⟩ H=>vQ<|iA [0,3,4,11]<|cD H (fun H=>vK<|fQ<|vQ<|vB<|zD (fun f=>Z [p 0 (L y300 c),p 3 (O 7),p 4 (I a)] [(7,A 158 y158 (b.set a.toNat f) 0)]) H fun f H=>fK<|fQ<|jB [0,3,4] H fun H=>i H) fun H=>vE<|fE<|g<|fX rfl<|h H
def MB(a:Cj):Option F8 :=
 some a
def S0n:Ct:=b9 230 [.agg y296] (fun x=>MB x.1) (fun r:F8=>AV.agg [S r.1,I r.2.1,I r.2.2.1,B r.2.2.2]) (fun _=>())
theorem N0j:Ok prog S0n:=by
 refine c8 [.cell 2 293] func230 ?_;intro y ⟨_,_⟩ r H Q hn hr;refine iA [1,2]<|iA [1,2,3]<|iA [1,2,3]<|iA [1,2,3]<|iA [1,2,3]<|iA [2,3]<|iA [2]<|a7<|hr H
def A0y:List F8->Option (List F8)
 | a =>
 some a
def H0t(b:List Cj)(e:Int×List F8->Option (List F8)):Int×List F8->Option (List F8)
 | (a,c) =>
 if(decide (a < (b.length:Int))) then
  gd (ix a b.length/\(MB (b.getD a.toNat (a6 y296))).isSome/\ix a c.length/\a.toNat<c.length/\True)<|lt (vl (MB (b.getD a.toNat (a6 y296)))) fun d =>
  gd (b7 (a+1)/\True) <|
  e (a+1,c.set a.toNat d)
 else
  A0y c
def MC(a:List Cj):Option (List F8) :=
 gd ((0<=(a.length:Int)/\(a.length:Int)=(a.length:Int)/\(a.length:Int).toNat*40<=281474976710656/\(a.length:Int)<=9223372036854775807)/\True)<|lt (List.replicate (a.length:Int).toNat (ByteArray.mk #[],(0:Int),(0:Int),false)) fun b =>
 lp (H0t a) (0,b)
def S0S:Ct:=b9 194 [.dat y296.sl] (fun x=>MC x.1) (fun r:List F8=>AV.ow 293 true y293 r) (fun _=>())
theorem N0w:Ok prog S0S:=by
 refine c8 [.tmp 2] func194 ?_;intro y ⟨c,_⟩ r H Q hn hr;have:=hz (tc N0j tn);refine iA [0]<|qD (fun a=>Z [p 0 (L y296 c),p 3 (O 7)] [(7,A 293 y293 a 0)]) H fun a H=>jN r (fun(d:List F8)=>Z [p 3 (O 7)] [(7,A 293 y293 d 0)]) (A0y) (fun d H=>?_) (fun _ g j i=>?_)
 ·refine iA [2]<|a7<|hr H
 refine iA [0,3,4]<|vB<|lX (fun((e,b):Int×List F8)=>Z [p 0 (L y296 c),p 3 (O 7),p 4 (I e)] [(7,A 293 y293 b 0)]) (0,a) H fun _ l h f k ⟨e,b⟩ H=>vQ<|iA [0,3,4,11]<|cD H (fun H=>vK<|fQ<|vQ<|vB<|jD N0j [0,3,4] H fun _ H=>fK<|fQ<|jB [0,3,4] H fun H=>h H) fun H=>vE<|fE<|f<|fX rfl<|g H
def JE(a:Z8):Option l5 :=
 gd ((MC a.2.2.1).isSome/\True)<|lt (vl (MC a.2.2.1)) fun b =>
 gd ((MA a.2.2.2.1).isSome/\True)<|lt (vl (MA a.2.2.2.1)) fun c =>
 gd ((F1 a.2.2.2.2.1).isSome/\True)<|lt (vl (F1 a.2.2.2.2.1)) fun d =>
 some (a.1,a.2.1,b,c,d,a.2.2.2.2.2)
def T0L:Ct:=b9 144 [.agg y216] (fun x=>JE x.1) (fun r:l5=>AV.agg [S r.1,I r.2.1,AV.ow 293 true y293 r.2.2.1,AV.ow 158 true y158 r.2.2.2.1,AV.ow 2 true i64 r.2.2.2.2.1,I r.2.2.2.2.2.1,I r.2.2.2.2.2.2]) (fun _=>())
theorem Q0V:Ok prog T0L:=by
 refine c8 [.cell 2 153] func144 ?_;intro y ⟨_,_⟩ r H Q hn hr;have:=hz (tc J7 (tc N0v (tc N0w tn)));refine iA [1,2]<|iA [1,2,3]<|iA [1,2,3]<|iA [1,2,3]<|iD N0w [1,2,3] H fun _ H=>iD N0v [1,2,3] H fun _ H=>iD J7 [1,2,3] H fun _ H=>iA [1,2,3]<|iA [2,3]<|iA [2] ?_
 exact a7<|hr H
def M0h:Ct:=b9 144 [.agg y216] (fun x=>JE x.1) (fun r=>frz ((fun r:l5=>AV.agg [S r.1,I r.2.1,AV.ow 293 true y293 r.2.2.1,AV.ow 158 true y158 r.2.2.2.1,AV.ow 2 true i64 r.2.2.2.2.1,I r.2.2.2.2.2.1,I r.2.2.2.2.2.2]) r)) (fun _=>())
theorem L0S:Ok prog M0h:=JA Q0V
def F0P:List l5->Option (List l5)
 | a =>
 some a
def K0B(b:List Z8)(e:Int×List l5->Option (List l5)):Int×List l5->Option (List l5)
 | (a,c) =>
 if(decide (a < (b.length:Int))) then
  gd (ix a b.length/\(JE (b.getD a.toNat (a6 y216))).isSome/\ix a c.length/\a.toNat<c.length/\True)<|lt (vl (JE (b.getD a.toNat (a6 y216)))) fun d =>
  gd (b7 (a+1)/\True) <|
  e (a+1,c.set a.toNat d)
 else
  F0P c
def MD(a:List Z8):Option (List l5) :=
 gd ((0<=(a.length:Int)/\(a.length:Int)=(a.length:Int)/\(a.length:Int).toNat*112<=281474976710656/\(a.length:Int)<=9223372036854775807)/\True)<|lt (List.replicate (a.length:Int).toNat (ByteArray.mk #[],(0:Int),[],[],[],(0:Int),(0:Int))) fun b =>
 lp (K0B a) (0,b)
def k94:Ct:=b9 94 [.dat y216.sl] (fun x=>MD x.1) (fun r:List l5=>AV.ow 153 true y153 r) (fun _=>())
theorem o94:Ok prog k94:=by
 refine c8 [.tmp 2] func94 ?_;intro y ⟨c,_⟩ r H Q hn hr;have:=hz (tc L0S tn);refine iA [0]<|qD (fun d=>Z [p 0 (L y216 c),p 3 (O 7)] [(7,A 153 y153 d 0)]) H fun d H=>jN r (fun(e:List l5)=>Z [p 3 (O 7)] [(7,A 153 y153 e 0)]) (F0P) (fun e H=>?_) (fun _ h k j=>?_)
 ·refine iA [2]<|a7<|hr H
 refine iA [0,3,4]<|vB<|lX (fun((a,b):Int×List l5)=>Z [p 0 (L y216 c),p 3 (O 7),p 4 (I a)] [(7,A 153 y153 b 0)]) (0,d) H fun _ m i g l ⟨a,b⟩ H=>vQ<|iA [0,3,4,11]<|cD H (fun H=>vK<|fQ<|vQ<|vB<|zD (fun f=>Z [p 0 (L y216 c),p 3 (O 7),p 4 (I a)] [(7,A 153 y153 (b.set a.toNat f) 0)]) H fun f H=>fK<|fQ<|jB [0,3,4] H fun H=>i H) fun H=>vE<|fE<|g<|fX rfl<|h H
def ME(a:List Z8):Option (List l5) :=
 gd ((MD a).isSome/\True)<|lt (vl (MD a)) fun b =>
 some b
def Dl:Ct:=b9 45 [.agg y216.sl] (fun x=>ME x.1) (fun r:List l5=>AV.agg [AV.ow 153 true y153 r]) (fun _=>())
theorem o45:Ok prog Dl:=by
 refine c8 [.cell 2 49] func45 ?_;intro y ⟨_,_⟩ r H Q hn hr;have:=hz (tc o94 tn);refine iA [1,2]<|iA [1,2,3]<|iD o94 [2,3] H fun _ H=>iA [2]<|a7<|hr H
def N0(a:Ck):Option j0 :=
 gd ((ME a.1).isSome/\True)<|lt (vl (ME a.1)) fun b =>
 gd ((Mz a.2.1).isSome/\True)<|lt (vl (Mz a.2.1)) fun c =>
 gd ((Mu a.2.2).isSome/\True)<|lt (vl (Mu a.2.2)) fun d =>
 some (b,c,d)
def k12:Ct:=b9 12 [.agg T3] (fun x=>N0 x.1) (fun r:j0=>AV.agg [AV.ow 153 true y153 r.1,AV.ow 155 true y155 r.2.1.1,AV.ow 9 true Ty.str r.2.1.2.1,AV.ow 231 true y231 r.2.1.2.2,AV.ow 172 true y172 r.2.2]) (fun _=>())
theorem Hu:Ok prog k12:=by
 refine c8 [.cell 2 56] func12 ?_;intro y ⟨_,_⟩ r H Q hn hr;have:=hz (tc o47 (tc o46 (tc o45 tn)));refine iA [1,2]<|iA [1,2,3]<|iD o45 [1,2,3] H fun _ H=>iD o46 [1,2,3] H fun _ H=>iD o47 [2,3] H fun _ H=>iA [2]<|a7<|hr H
def V5(a:Cm):Option p8 :=
 some a
def k13:Ct:=b9 13 [.agg T4] (fun x=>V5 x.1) (fun r:p8=>AV.agg [S r.1,I r.2.1,I r.2.2.1,I r.2.2.2.1,I r.2.2.2.2]) (fun _=>())
theorem Ug:Ok prog k13:=by
 refine c8 [.cell 2 58] func13 ?_;intro y ⟨_,_⟩ r H Q hn hr;refine iA [1,2]<|iA [1,2,3]<|iA [1,2,3]<|iA [1,2,3]<|iA [1,2,3]<|iA [1,2,3]<|iA [2,3]<|iA [2]<|a7<|hr H
def DZ(a:Dg):Option l9 :=
 some a
def k99:Ct:=b9 99 [.agg y104] (fun x=>DZ x.1) (fun r:l9=>AV.agg [I r.1,I r.2]) (fun _=>())
theorem MF:Ok prog k99:=by
 refine c8 [.cell 2 73] func99 ?_;intro y ⟨_,_⟩ r H Q hn hr;refine iA [1,2]<|iA [1,2,3]<|iA [1,2,3]<|iA [2,3]<|iA [2]<|a7<|hr H
def MG(a:AT):Option l7 :=
 gd ((DZ a.2.1).isSome/\True)<|lt (vl (DZ a.2.1)) fun b =>
 gd ((DZ a.2.2).isSome/\True)<|lt (vl (DZ a.2.2)) fun c =>
 some (a.1,b,c)
def k48:Ct:=b9 48 [.agg y106] (fun x=>MG x.1) (fun r:l7=>AV.agg (Q2 r)) (fun _=>())
theorem o48:Ok prog k48:=by
 refine c8 [.cell 2 75] func48 ?_;intro y ⟨_,_⟩ r H Q hn hr;have:=hz (tc MF tn);refine iA [1,2]<|iA [1,2,3]<|iA [1,2,3]<|iD MF [1,2,3] H fun _ H=>iD MF [2,3] H fun _ H=>iA [2]<|a7<|hr H
def H0H:List l7->Option (List l7)
 | a =>
 some a
def L0b(b:List AT)(e:Int×List l7->Option (List l7)):Int×List l7->Option (List l7)
 | (a,c) =>
 if(decide (a < (b.length:Int))) then
  gd (ix a b.length/\(MG (b.getD a.toNat (a6 y106))).isSome/\ix a c.length/\a.toNat<c.length/\True)<|lt (vl (MG (b.getD a.toNat (a6 y106)))) fun d =>
  gd (b7 (a+1)/\True) <|
  e (a+1,c.set a.toNat d)
 else
  H0H c
def N9(a:List AT):Option (List l7) :=
 gd ((0<=(a.length:Int)/\(a.length:Int)=(a.length:Int)/\(a.length:Int).toNat*40<=281474976710656/\(a.length:Int)<=9223372036854775807)/\True)<|lt (List.replicate (a.length:Int).toNat ((0:Int),((0:Int),(0:Int)),(0:Int),(0:Int))) fun b =>
 lp (L0b a) (0,b)
def k15:Ct:=b9 15 [.dat y106.sl] (fun x=>N9 x.1) (fun r:List l7=>AV.ow 75 true y75 r) (fun _=>())
theorem T7:Ok prog k15:=by
 refine c8 [.tmp 2] func15 ?_;intro y ⟨c,_⟩ r H Q hn hr;have:=hz (tc o48 tn);refine iA [0]<|qD (fun a=>Z [p 0 (L y106 c),p 3 (O 7)] [(7,A 75 y75 a 0)]) H fun a H=>jN r (fun(d:List l7)=>Z [p 3 (O 7)] [(7,A 75 y75 d 0)]) (H0H) (fun d H=>?_) (fun _ g j i=>?_)
 ·refine iA [2]<|a7<|hr H
 refine iA [0,3,4]<|vB<|lX (fun((e,b):Int×List l7)=>Z [p 0 (L y106 c),p 3 (O 7),p 4 (I e)] [(7,A 75 y75 b 0)]) (0,a) H fun _ l h f k ⟨e,b⟩ H=>vQ<|iA [0,3,4,11]<|cD H (fun H=>vK<|fQ<|vQ<|vB<|jD o48 [0,3,4] H fun _ H=>fK<|fQ<|jB [0,3,4] H fun H=>h H) fun H=>vE<|fE<|f<|fX rfl<|g H
def G0v:List l9->Option (List l9)
 | a =>
 some a
def K0L(b:List Dg)(e:Int×List l9->Option (List l9)):Int×List l9->Option (List l9)
 | (a,c) =>
 if(decide (a < (b.length:Int))) then
  gd (ix a b.length/\(DZ (b.getD a.toNat (a6 y104))).isSome/\ix a c.length/\a.toNat<c.length/\True)<|lt (vl (DZ (b.getD a.toNat (a6 y104)))) fun d =>
  gd (b7 (a+1)/\True) <|
  e (a+1,c.set a.toNat d)
 else
  G0v c
def Hv(a:List Dg):Option (List l9) :=
 gd ((0<=(a.length:Int)/\(a.length:Int)=(a.length:Int)/\(a.length:Int).toNat*16<=281474976710656/\(a.length:Int)<=9223372036854775807)/\True)<|lt (List.replicate (a.length:Int).toNat ((0:Int),(0:Int))) fun b =>
 lp (K0L a) (0,b)
def k50:Ct:=b9 50 [.dat y104.sl] (fun x=>Hv x.1) (fun r:List l9=>AV.ow 73 true y73 r) (fun _=>())
theorem Uh:Ok prog k50:=by
 refine c8 [.tmp 2] func50 ?_;intro y ⟨c,_⟩ r H Q hn hr;have:=hz (tc MF tn);refine iA [0]<|qD (fun a=>Z [p 0 (L y104 c),p 3 (O 7)] [(7,A 73 y73 a 0)]) H fun a H=>jN r (fun(d:List l9)=>Z [p 3 (O 7)] [(7,A 73 y73 d 0)]) (G0v) (fun d H=>?_) (fun _ g j i=>?_)
 ·refine iA [2]<|a7<|hr H
 refine iA [0,3,4]<|vB<|lX (fun((e,b):Int×List l9)=>Z [p 0 (L y104 c),p 3 (O 7),p 4 (I e)] [(7,A 73 y73 b 0)]) (0,a) H fun _ l h f k ⟨e,b⟩ H=>vQ<|iA [0,3,4,11]<|cD H (fun H=>vK<|fQ<|vQ<|vB<|jD MF [0,3,4] H fun _ H=>fK<|fQ<|jB [0,3,4] H fun H=>h H) fun H=>vE<|fE<|f<|fX rfl<|g H
def G0w:List Bool->Option (List Bool)
 | a =>
 some a
def K0M(c:List Bool)(d:Int×List Bool->Option (List Bool)):Int×List Bool->Option (List Bool)
 | (a,b) =>
 if(decide (a < (c.length:Int))) then
  gd (ix a c.length/\ix a b.length/\a.toNat<b.length/\True) <|
  gd (b7 (a+1)/\True) <|
  d ((a+1,b.set a.toNat (c.getD a.toNat false)))
 else
  G0w b
def MH(a:List Bool):Option (List Bool) :=
 gd ((0<=(a.length:Int)/\(a.length:Int)=(a.length:Int)/\(a.length:Int).toNat*1<=281474976710656/\(a.length:Int)<=9223372036854775807)/\True) <|
 lp (K0M a) ((0,List.replicate (a.length:Int).toNat false))
def k49:Ct:=b9 49 [.dat Ty.bool.sl] (fun x=>MH x.1) (fun r:List Bool=>AV.ow 4 true Ty.bool r) (fun _=>())
theorem o49:Ok prog k49:=by
 refine c8 [.tmp 2] func49 ?_;intro y ⟨b,_⟩ r H Q hn hr;refine iA [0]<|iB [0,3] H fun H=>jN r (fun(a:List Bool)=>Z [p 3 (O 7)] [(7,A 4 Ty.bool a 0)]) (G0w) (fun a H=>?_) (fun _ f i h=>?_)
 ·refine iA [2]<|a7<|hr H
 refine iA [0,3,4]<|vB<|lX (fun((c,d):Int×List Bool)=>Z [p 0 (L Ty.bool b),p 3 (O 7),p 4 (I c)] [(7,A 4 Ty.bool d 0)]) ((0,List.replicate (b.length:Int).toNat false)) H fun _ k g e j ⟨c,d⟩ H=>vQ<|iA [0,3,4,11]<|cD H (fun H=>vK<|fQ<|vQ<|vB<|jB [0,3,4] H fun H=>fK<|fQ<|jB [0,3,4] H fun H=>g H) fun H=>vE<|fE<|e<|fX rfl<|f H
def u16(a:LN):Option B8 :=
 gd ((MH a.1).isSome/\True)<|lt (vl (MH a.1)) fun b =>
 gd ((Hv a.2.1).isSome/\True)<|lt (vl (Hv a.2.1)) fun c =>
 gd ((Hv a.2.2).isSome/\True)<|lt (vl (Hv a.2.2)) fun d =>
 some (b,c,d)
def k16:Ct:=b9 16 [.agg FQ] (fun x=>u16 x.1) (fun r:B8=>AV.agg [AV.ow 4 true Ty.bool r.1,AV.ow 73 true y73 r.2.1,AV.ow 73 true y73 r.2.2]) (fun _=>())
theorem JF:Ok prog k16:=by
 refine c8 [.cell 2 65] func16 ?_;intro y ⟨_,_⟩ r H Q hn hr;have:=hz (tc Uh (tc o49 tn));refine iA [1,2]<|iA [1,2,3]<|iD o49 [1,2,3] H fun _ H=>iD Uh [1,2,3] H fun _ H=>iD Uh [2,3] H fun _ H=>iA [2]<|a7<|hr H
def H0o:Unit->Option Bool
 | _ =>
 some true
def K0X(b:List Int)(c:List Int)(d:Int->Option Bool):Int->Option Bool
 | a =>
 if(decide (a < (b.length:Int))) then
  gd (ix a b.length/\ix a c.length/\True) <|
  if(b.getD a.toNat 0 != c.getD a.toNat 0) then
   some false
  else
   gd (b7 (a+1)/\True) <|
   d (a+1)
 else
  H0o ()
def L6(a:List Int)(b:List Int):Option Bool :=
 if((a.length:Int) != (b.length:Int)) then
  some false
 else
  lp (K0X a b) 0
def k19:Ct:=b9 19 [.dat i64.sl,.dat i64.sl] (fun x=>L6 x.1 x.2.1) (fun r:Bool=>B r) (fun _=>())
theorem Hw:Ok prog k19:=by
 refine c8 [.tmp 4] func19 ?_;intro y ⟨b,e,_⟩ r H Q hn hr;refine iA [0,1]<|vQ<|iA [0,1,10]<|cD H (fun H=>iA [4]<|a7<|fR<|hr H) fun H=>vK<|fQ<|jN r (fun(_:Unit)=>Z [] []) (H0o) (fun _ H=>?_) (fun _ g i c=>?_)
 ·refine iA [4]<|a7<|hr H
 refine iA [0,1,5]<|vB<|lX (fun(a:Int)=>Z [p 0 (L i64 b),p 1 (L i64 e),p 5 (I a)] []) 0 H fun _ j h f d a H=>vQ<|iA [0,1,5,14]<|cD H (fun H=>?_) (fun H=>?_)
 ·refine vK<|fQ<|vQ<|vB<|iB [0,1,5,25] H fun H=>cD H (fun H=>iA [4]<|a7<|c9<|fR<|d<|c9<|c<|hr H) fun H=>vK<|fK<|fQ<|jB [0,1,5] H fun H=>h H
 exact vE<|fE<|f<|fX rfl<|g H
def MI(a:D0)(b:D0):Option Bool :=
 gd ((L6 a.1 b.1).isSome/\True) <|
 if(!vl (L6 a.1 b.1)) then
  some false
 else
  gd ((L6 a.2.1 b.2.1).isSome/\True) <|
  if(!vl (L6 a.2.1 b.2.1)) then
   some false
  else
   gd ((L6 a.2.2.1 b.2.2.1).isSome/\True) <|
   if(!vl (L6 a.2.2.1 b.2.2.1)) then
    some false
   else
    gd ((L6 a.2.2.2 b.2.2.2).isSome/\True) <|
    if(!vl (L6 a.2.2.2 b.2.2.2)) then
     some false
    else
     some true
def U0g:Ct:=b9 117 [.agg y172,.agg y172] (fun x=>MI x.1 x.2.1) (fun r:Bool=>B r) (fun _=>())
theorem R0a:Ok prog U0g:=by
 refine c8 [.tmp 4] func117 ?_;intro y ⟨_,_,_⟩ r H Q hn hr;have:=hz (tc Hw tn);refine iA [2,3]<|vQ<|iB [2,3,10] H fun H=>cD H (fun H=>iA [4]<|a7<|fR<|hr H) fun H=>vK<|fQ<|vQ<|iB [2,3,16] H fun H=>cD H (fun H=>iA [4]<|a7<|fR<|hr H) fun H=>vK<|fQ<|vQ<|iB [2,3,22] H fun H=>cD H (fun H=>iA [4]<|a7<|fR<|hr H) fun H=>vK<|fQ<|vQ<|iB [28] H fun H=>cD H (fun H=>iA [4]<|a7<|fR<|hr H) fun H=>vK<|fQ<|iA [4]<|a7<|hr H
def G0t:Unit->Option Bool
 | _ =>
 some true
def K0J(b:List D0)(c:List D0)(d:Int->Option Bool):Int->Option Bool
 | a =>
 if(decide (a < (b.length:Int))) then
  gd (ix a b.length/\ix a c.length/\(MI (b.getD a.toNat (a6 y172)) (c.getD a.toNat (a6 y172))).isSome/\True) <|
  if(!vl (MI (b.getD a.toNat (a6 y172)) (c.getD a.toNat (a6 y172)))) then
   some false
  else
   gd (b7 (a+1)/\True) <|
   d (a+1)
 else
  G0t ()
def MJ(a:List D0)(b:List D0):Option Bool :=
 if((a.length:Int) != (b.length:Int)) then
  some false
 else
  lp (K0J a b) 0
def k56:Ct:=b9 56 [.dat y172.sl,.dat y172.sl] (fun x=>MJ x.1 x.2.1) (fun r:Bool=>B r) (fun _=>())
theorem o56:Ok prog k56:=by
 refine c8 [.tmp 4] func56 ?_;intro y ⟨b,e,_⟩ r H Q hn hr;have:=hz (tc R0a tn);refine iA [0,1]<|vQ<|iA [0,1,10]<|cD H (fun H=>iA [4]<|a7<|fR<|hr H) fun H=>vK<|fQ<|jN r (fun(_:Unit)=>Z [] []) (G0t) (fun _ H=>?_) (fun _ g i c=>?_)
 ·refine iA [4]<|a7<|hr H
 refine iA [0,1,5]<|vB<|lX (fun(a:Int)=>Z [p 0 (L y172 b),p 1 (L y172 e),p 5 (I a)] []) 0 H fun _ j h f d a H=>vQ<|iA [0,1,5,14]<|cD H (fun H=>?_) (fun H=>?_)
 ·refine vK<|fQ<|vQ<|vB<|iB [0,1,5,26] H fun H=>cD H (fun H=>iA [4]<|a7<|c9<|fR<|d<|c9<|c<|hr H) fun H=>vK<|fK<|fQ<|jB [0,1,5] H fun H=>h H
 exact vE<|fE<|f<|fX rfl<|g H
def MK(a:K1)(b:K1):Option Bool :=
 if(!decide (a.1=b.1)) then
  some false
 else
  if(a.2.1 != b.2.1) then
   some false
  else
   if(a.2.2 != b.2.2) then
    some false
   else
    some true
def T0j:Ct:=b9 174 [.agg y231,.agg y231] (fun x=>MK x.1 x.2.1) (fun r:Bool=>B r) (fun _=>())
theorem Q0I:Ok prog T0j:=by
 refine c8 [.tmp 4] func174 ?_;intro y ⟨_,_,_⟩ r H Q hn hr;refine iA [2,3]<|vQ<|iA [2,3,9]<|cD H (fun H=>iA [4]<|a7<|fR<|hr H) fun H=>vK<|fQ<|vQ<|iA [2,3,14]<|cD H (fun H=>iA [4]<|a7<|fR<|hr H) fun H=>vK<|fQ<|vQ<|iA [19]<|cD H (fun H=>iA [4]<|a7<|fR<|hr H) fun H=>vK<|fQ<|iA [4]<|a7<|hr H
def B0B:Unit->Option Bool
 | _ =>
 some true
def H0Y(b:List K1)(c:List K1)(d:Int->Option Bool):Int->Option Bool
 | a =>
 if(decide (a < (b.length:Int))) then
  gd (ix a b.length/\ix a c.length/\(MK (b.getD a.toNat (a6 y231)) (c.getD a.toNat (a6 y231))).isSome/\True) <|
  if(!vl (MK (b.getD a.toNat (a6 y231)) (c.getD a.toNat (a6 y231)))) then
   some false
  else
   gd (b7 (a+1)/\True) <|
   d (a+1)
 else
  B0B ()
def ML(a:List K1)(b:List K1):Option Bool :=
 if((a.length:Int) != (b.length:Int)) then
  some false
 else
  lp (H0Y a b) 0
def U0h:Ct:=b9 116 [.dat y231.sl,.dat y231.sl] (fun x=>ML x.1 x.2.1) (fun r:Bool=>B r) (fun _=>())
theorem R0b:Ok prog U0h:=by
 refine c8 [.tmp 4] func116 ?_;intro y ⟨b,e,_⟩ r H Q hn hr;have:=hz (tc Q0I tn);refine iA [0,1]<|vQ<|iA [0,1,10]<|cD H (fun H=>iA [4]<|a7<|fR<|hr H) fun H=>vK<|fQ<|jN r (fun(_:Unit)=>Z [] []) (B0B) (fun _ H=>?_) (fun _ g i c=>?_)
 ·refine iA [4]<|a7<|hr H
 refine iA [0,1,5]<|vB<|lX (fun(a:Int)=>Z [p 0 (L y231 b),p 1 (L y231 e),p 5 (I a)] []) 0 H fun _ j h f d a H=>vQ<|iA [0,1,5,14]<|cD H (fun H=>?_) (fun H=>?_)
 ·refine vK<|fQ<|vQ<|vB<|iB [0,1,5,26] H fun H=>cD H (fun H=>iA [4]<|a7<|c9<|fR<|d<|c9<|c<|hr H) fun H=>vK<|fK<|fQ<|jB [0,1,5] H fun H=>h H
 exact vE<|fE<|f<|fX rfl<|g H
def B0C:Unit->Option Bool
 | _ =>
 some true
def I0a(b:List ByteArray)(c:List ByteArray)(d:Int->Option Bool):Int->Option Bool
 | a =>
 if(decide (a < (b.length:Int))) then
  gd (ix a b.length/\ix a c.length/\True) <|
  if(!decide (b.getD a.toNat (a6 Ty.str)=c.getD a.toNat (a6 Ty.str))) then
   some false
  else
   gd (b7 (a+1)/\True) <|
   d (a+1)
 else
  B0C ()
def MM(a:List ByteArray)(b:List ByteArray):Option Bool :=
 if((a.length:Int) != (b.length:Int)) then
  some false
 else
  lp (I0a a b) 0
def U0i:Ct:=b9 115 [.dat Ty.str.sl,.dat Ty.str.sl] (fun x=>MM x.1 x.2.1) (fun r:Bool=>B r) (fun _=>())
theorem R0c:Ok prog U0i:=by
 refine c8 [.tmp 4] func115 ?_;intro y ⟨b,e,_⟩ r H Q hn hr;refine iA [0,1]<|vQ<|iA [0,1,10]<|cD H (fun H=>iA [4]<|a7<|fR<|hr H) fun H=>vK<|fQ<|jN r (fun(_:Unit)=>Z [] []) (B0C) (fun _ H=>?_) (fun _ g i c=>?_)
 ·refine iA [4]<|a7<|hr H
 refine iA [0,1,5]<|vB<|lX (fun(a:Int)=>Z [p 0 (L Ty.str b),p 1 (L Ty.str e),p 5 (I a)] []) 0 H fun _ j h f d a H=>vQ<|iA [0,1,5,14]<|cD H (fun H=>?_) (fun H=>?_)
 ·refine vK<|fQ<|vQ<|vB<|iB [0,1,5,25] H fun H=>cD H (fun H=>iA [4]<|a7<|c9<|fR<|d<|c9<|c<|hr H) fun H=>vK<|fK<|fQ<|jB [0,1,5] H fun H=>h H
 exact vE<|fE<|f<|fX rfl<|g H
end Go.Proofs.YtechodbafnmddaaGreatDoor
end
