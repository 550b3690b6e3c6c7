/- Functions of this program as plain functions of data, and that they are so: printed by program. -/
import Derived.Test.YtechodbafnmddaaGreatDoorXD
import Derived.Test.YtechodbafnmddaaGreatDoorXF
import Derived.Test.YtechodbafnmddaaGreatDoorTY
import Derived.Test.YtechodbafnmddaaGreatDoorLB
section
namespace Go.Proofs.YtechodbafnmddaaGreatDoor
open Go Go.Proofs Go.Proofs.Sv Go.Proofs.Xv Go.Proofs.Xl Go.RowKit
open Tryz
instance:HG Tryz.prog Γ:=⟨Bh⟩
abbrev bx(T:TypeId)(c:List AV):Ob:=.box T c
abbrev b8:Ty:=.int .u8
abbrev Q0(x:c7 (.sl y153)×(c7 (.sl y155)×c7 (.sl Ty.str)×c7 (.sl y231))×c7 (.sl y172)):List AV:=[L y153 x.1,L y155 x.2.1.1,L Ty.str x.2.1.2.1,L y231 x.2.1.2.2,L y172 x.2.2,AV.os 18 0,AV.os 38 0,nil,nil,nil]
abbrev Q1(x:c7 (.sl y153)×(c7 (.sl y155)×c7 (.sl Ty.str)×c7 (.sl y231))×c7 (.sl y172)):List AV:=[L y153 x.1,L y155 x.2.1.1,L Ty.str x.2.1.2.1,L y231 x.2.1.2.2,L y172 x.2.2,AV.os 18 0,AV.os 38 0,AV.os 102 0,AV.os 114 0,nil]
abbrev Q2(x:Int×(Int×Int)×Int×Int):List AV:=[I x.1,I x.2.1.1,I x.2.1.2,I x.2.2.1,I x.2.2.2]
abbrev W0(y0:Int)(y1:Int)(y2:Int)(y3:Int)(y4:Int)(y5:c7 y65)(y6:c7 u5)(y7:c7 j7):List (Nat×Ob):=[(17,bx 75 [J y0,J y1,J y2,J y3,J y4]),(15,bx 75 [I 0,I 0,I 0,I 0,I 0]),(12,K 65 y65 y5),(8,K 58 u5 y6),(7,K 56 j7 y7)]
abbrev W1(y0:List (c7 y235))(y1:c7 j7)(y2:List (c7 y138)):List (Nat×Ob):=[(18,A 235 y235 y0 0),(1,K 56 j7 y1),(38,A 138 y138 y2 0)]
abbrev G2(y0:Int)(y1:Int)(y2:Int)(y3:Int)(y4:Int)(y5:Int)(y6:Int)(y7:Int)(y8:Int)(t:List (Nat×Sl)):List (Nat×Sl):=p 3 (J y0) :: p 4 (R 4) :: p 9 (I y1) :: p 10 (I y2) :: p 11 (I y3) :: p 12 (I y4) :: p 13 (I y5) :: p 14 (I y6) :: p 15 (I y7) :: p 16 (I y8) :: t
abbrev G3(t:List (Nat×Sl)):List (Nat×Sl):=p 1 (R 1) :: p 3 (R 20) :: p 7 (O 50) :: t
abbrev W4(y0:c7 y65)(y1:c7 u5):List (Nat×Ob):=[(11,bx 75 [I 0,I 0,I 0,I 0,I 0]),(8,K 65 y65 y0),(6,K 58 u5 y1)]
abbrev G5(y0:List (c7 y138))(y1:List (c7 Ty.bool))(y2:Int)(t:List (Nat×Sl)):List (Nat×Sl):=p 2 (L y138 y0) :: p 3 (L Ty.bool y1) :: p 6 (J y2) :: p 7 (R 7) :: p 8 (R 8) :: p 12 (R 12) :: p 15 (R 15) :: t
abbrev G6(y0:Int)(y1:List (c7 y138))(y2:List (c7 Ty.bool))(t:List (Nat×Sl)):List (Nat×Sl):=p 0 (J y0) :: p 1 (L y138 y1) :: p 2 (L Ty.bool y2) :: p 8 (O 13) :: p 9 (O 15) :: t
abbrev G7(y0:Int)(y1:Int)(y2:Int)(y3:Int)(t:List (Nat×Sl)):List (Nat×Sl):=p 3 (J y0) :: p 4 (R 4) :: p 10 (I y1) :: p 11 (O 29) :: p 12 (I y2) :: p 13 (I y3) :: t
abbrev G8(y0:Int)(t:List (Nat×Sl)):List (Nat×Sl):=p 1 (R 1) :: p 3 (I y0) :: t
abbrev W9(y0:c7 y189.pt)(y1:List (c7 Ty.bool)):List (Nat×Ob):=[(17,bx 126 [D y189.pt y0,AV.os 15 0]),(15,A 4 Ty.bool y1 0)]
abbrev MA(y0:c7 y126.pt)(t:List (Nat×Sl)):List (Nat×Sl):=p 0 (D y126.pt y0) :: p 6 (R 6) :: p 8 (R 8) :: p 11 (R 11) :: p 12 (R 12) :: p 13 (R 13) :: t
abbrev Gx(y0:List (c7 M8))(y1:List (c7 M8))(y2:c7 y269):List (Nat×Ob):=[(29,A 322 M8 y0 0),(22,A 322 M8 y1 0),(4,K 269 y269 y2)]
abbrev Y1(t:List (Nat×Sl)):List (Nat×Sl):=p 2 (R 2) :: p 3 (R 3) :: t
abbrev DN(y0:c7 y53)(y1:List (c7 y153)):List (Nat×Ob):=[(3,K 53 y53 y0),(2,bx 49 [L y153 y1])]
abbrev IA(y0:Int)(y1:Int)(y2:Int)(y3:Int)(t:List (Nat×Sl)):List (Nat×Sl):=p 0 (O 500000) :: p 2 (J y0) :: p 3 (J y1) :: p 4 (J y2) :: p 6 (R 6) :: p 11 (I y3) :: t
abbrev BT(t:List (Nat×Sl)):List (Nat×Sl):=p 1 (R 1) :: p 3 (O 20) :: t
abbrev IB(y0:Int)(t:List (Nat×Sl)):List (Nat×Sl):=p 1 (R 1) :: p 3 (O 12) :: p 4 (R 4) :: p 5 (I y0) :: t
abbrev DO(y0:List (c7 i64))(y1:c7 y53):List (Nat×Ob):=[(92,A 2 i64 y0 0),(3,K 53 y53 y1)]
def I7(b:List Int)(a:Int):Option Int :=
 gd (b7 (a-(b.length:Int))/\True) <|
 if(decide (a-(b.length:Int)<0)) then
  some (-1)
 else
  some (a-(b.length:Int))
def Q0z:Ct:=b9 137 [.dat i64.sl,.dat i64] (fun x=>I7 x.1 x.2.1) (fun r:Int=>I r) (fun _=>())
theorem V4:Ok prog Q0z:=by
 refine c8 [.tmp 4] func137 ?_;intro y ⟨_,_,_⟩ r H Q hn hr;refine iA [0,1]<|iB [1] H fun H=>vQ<|iA [1,10]<|cD H (fun H=>iA [4]<|a7<|fR<|hr H) fun H=>vK<|fQ<|iA [4]<|a7<|hr H
def IC(a:Aq)(e:Int):Option Int :=
 gd ((I7 a.1 e).isSome/\True)<|lt (vl (I7 a.1 e)) fun d =>
 if(decide (d<0)) then
  some (-1)
 else
  gd ((I7 a.2.1 d).isSome/\True)<|lt (vl (I7 a.2.1 d)) fun c =>
  if(decide (c<0)) then
   some (-1)
  else
   gd ((I7 a.2.2.1 c).isSome/\True)<|lt (vl (I7 a.2.2.1 c)) fun b =>
   if(decide (b<0)) then
    some (-1)
   else
    gd ((I7 a.2.2.2 b).isSome/\True)<|lt (vl (I7 a.2.2.2 b)) fun f =>
    if(decide (f<0)) then
     some (-1)
    else
     some f
def k82:Ct:=b9 82 [.agg y146,.dat i64] (fun x=>IC x.1 x.2.1) (fun r:Int=>I r) (fun _=>())
theorem Va:Ok prog k82:=by
 refine c8 [.tmp 4] func82 ?_;intro y ⟨_,_,_⟩ r H Q hn hr;have:=hz (tc V4 tn);refine iA [1,2]<|iD V4 [1,2] H fun _ H=>vQ<|iA [1,2,10]<|cD H (fun H=>iA [4]<|a7<|fR<|hr H) fun H=>vK<|fQ<|iD V4 [1,2] H fun _ H=>vQ<|iA [1,2,16]<|cD H (fun H=>iA [4]<|a7<|fR<|hr H) fun H=>vK<|fQ<|iD V4 [1,2] H fun _ H=>vQ<|iA [1,2,22]<|cD H (fun H=>iA [4]<|a7<|fR<|hr H) fun H=>vK<|fQ<|iD V4 [1] H fun _ H=>vQ<|iA [1,28]<|cD H (fun H=>iA [4]<|a7<|fR<|hr H) fun H=>vK<|fQ<|iA [4]<|a7<|hr H
def Vb:Int->Option Int
 | a =>
 some a
def H0B(b:List Aq)(e:Int×Int->Option Int):Int×Int->Option Int
 | (c,a) =>
 if(decide (a < (b.length:Int))) then
  gd (ix a b.length/\(IC (b.getD a.toNat (a6 y146)) c).isSome/\True)<|lt (vl (IC (b.getD a.toNat (a6 y146)) c)) fun d =>
  if(decide (d<0)) then
   some (-1)
  else
   gd (b7 (a+1)/\True) <|
   e (d,a+1)
 else
  Vb c
def ID(a:List Aq)(b:Int):Option Int :=
 gd (b7 (b-(a.length:Int))/\True) <|
 if(decide (b-(a.length:Int)<0)) then
  some (-1)
 else
  lp (H0B a) ((b-(a.length:Int),0))
def k37:Ct:=b9 37 [.dat y146.sl,.dat i64] (fun x=>ID x.1 x.2.1) (fun r:Int=>I r) (fun _=>())
theorem Vc:Ok prog k37:=by
 refine c8 [.tmp 4] func37 ?_;intro y ⟨d,h,_⟩ r H Q hn hr;have:=hz (tc Va tn);refine iA [0,1]<|iB [0,1] H fun H=>vQ<|iA [0,1,11]<|cD H (fun H=>iA [4]<|a7<|fR<|hr H) fun H=>vK<|fQ<|jN r (fun(b:Int)=>Z [p 1 (I b)] []) (Vb) (fun b H=>?_) (fun _ e l j=>?_)
 ·refine iA [4]<|a7<|hr H
 refine iA [0,1,5]<|vB<|lX (fun((c,a):Int×Int)=>Z [p 0 (L y146 d),p 1 (I c),p 5 (I a)] []) ((h-(d.length:Int),0)) H fun _ k i f g ⟨c,a⟩ H=>vQ<|iA [0,1,5,15]<|cD H (fun H=>?_) (fun H=>?_)
 ·refine vK<|fQ<|vQ<|vB<|iD Va [0,1,5] H fun _ H=>iA [0,1,5,25]<|cD H (fun H=>iA [4]<|a7<|h9<|fR<|g<|h9<|j<|hr H) fun H=>vK<|fK<|fQ<|jB [0,1,5] H fun H=>i H
 exact vE<|fE<|f<|fX rfl<|e H
def IE(b:Ar)(a:Int):Option Int :=
 gd (b7 (a-(b.1.size:Int))/\True) <|
 if(decide (a-(b.1.size:Int)<0)) then
  some (-1)
 else
  some (a-(b.1.size:Int))
def Q0A:Ct:=b9 136 [.agg y221,.dat i64] (fun x=>IE x.1 x.2.1) (fun r:Int=>I r) (fun _=>())
theorem Vd:Ok prog Q0A:=by
 refine c8 [.tmp 4] func136 ?_;intro y ⟨_,_,_⟩ r H Q hn hr;refine iA [1,2]<|iB [1] H fun H=>vQ<|iA [1,11]<|cD H (fun H=>iA [4]<|a7<|fR<|hr H) fun H=>vK<|fQ<|iA [4]<|a7<|hr H
def Ve:Int->Option Int
 | a =>
 some a
def H0r(b:List Ar)(e:Int×Int->Option Int):Int×Int->Option Int
 | (c,a) =>
 if(decide (a < (b.length:Int))) then
  gd (ix a b.length/\(IE (b.getD a.toNat (a6 y221)) c).isSome/\True)<|lt (vl (IE (b.getD a.toNat (a6 y221)) c)) fun d =>
  if(decide (d<0)) then
   some (-1)
  else
   gd (b7 (a+1)/\True) <|
   e (d,a+1)
 else
  Ve c
def IF(a:List Ar)(b:Int):Option Int :=
 gd (b7 (b-(a.length:Int))/\True) <|
 if(decide (b-(a.length:Int)<0)) then
  some (-1)
 else
  lp (H0r a) ((b-(a.length:Int),0))
def k81:Ct:=b9 81 [.dat y221.sl,.dat i64] (fun x=>IF x.1 x.2.1) (fun r:Int=>I r) (fun _=>())
theorem Vf:Ok prog k81:=by
 refine c8 [.tmp 4] func81 ?_;intro y ⟨d,h,_⟩ r H Q hn hr;have:=hz (tc Vd tn);refine iA [0,1]<|iB [0,1] H fun H=>vQ<|iA [0,1,11]<|cD H (fun H=>iA [4]<|a7<|fR<|hr H) fun H=>vK<|fQ<|jN r (fun(b:Int)=>Z [p 1 (I b)] []) (Ve) (fun b H=>?_) (fun _ e l j=>?_)
 ·refine iA [4]<|a7<|hr H
 refine iA [0,1,5]<|vB<|lX (fun((c,a):Int×Int)=>Z [p 0 (L y221 d),p 1 (I c),p 5 (I a)] []) ((h-(d.length:Int),0)) H fun _ k i f g ⟨c,a⟩ H=>vQ<|iA [0,1,5,15]<|cD H (fun H=>?_) (fun H=>?_)
 ·refine vK<|fQ<|vQ<|vB<|iD Vd [0,1,5] H fun _ H=>iA [0,1,5,25]<|cD H (fun H=>iA [4]<|a7<|h9<|fR<|g<|h9<|j<|hr H) fun H=>vK<|fK<|fQ<|jB [0,1,5] H fun H=>i H
 exact vE<|fE<|f<|fX rfl<|e H
def Vg:Int->Option Int
 | a =>
 some a
def H0s(b:List ByteArray)(e:Int×Int->Option Int):Int×Int->Option Int
 | (c,a) =>
 if(decide (a < (b.length:Int))) then
  gd (ix a b.length/\b7 (c-(↑(ByteArray.size (b.getD a.toNat (a6 Ty.str))):Int))/\True)<|lt (c-(↑(ByteArray.size (b.getD a.toNat (a6 Ty.str))):Int)) fun d =>
  if(decide (d<0)) then
   some (-1)
  else
   gd (b7 (a+1)/\True) <|
   e (d,a+1)
 else
  Vg c
def IG(a:List ByteArray)(b:Int):Option Int :=
 gd (b7 (b-(a.length:Int))/\True) <|
 if(decide (b-(a.length:Int)<0)) then
  some (-1)
 else
  lp (H0s a) ((b-(a.length:Int),0))
def k80:Ct:=b9 80 [.dat Ty.str.sl,.dat i64] (fun x=>IG x.1 x.2.1) (fun r:Int=>I r) (fun _=>())
theorem Vh:Ok prog k80:=by
 refine c8 [.tmp 4] func80 ?_;intro y ⟨b,i,_⟩ r H Q hn hr;refine iA [0,1]<|iB [0,1] H fun H=>vQ<|iA [0,1,11]<|cD H (fun H=>iA [4]<|a7<|fR<|hr H) fun H=>vK<|fQ<|jN r (fun(c:Int)=>Z [p 1 (I c)] []) (Vg) (fun c H=>?_) (fun _ f m k=>?_)
 ·refine iA [4]<|a7<|hr H
 refine iA [0,1,5]<|vB<|lX (fun((d,a):Int×Int)=>Z [p 0 (L Ty.str b),p 1 (I d),p 5 (I a)] []) ((i-(b.length:Int),0)) H fun _ l j g h ⟨d,a⟩ H=>vQ<|iA [0,1,5,15]<|cD H (fun H=>?_) (fun H=>?_)
 ·refine vK<|fQ<|vQ<|vB<|qD (fun e=>Z [p 0 (L Ty.str b),p 1 (I e),p 5 (I a)] []) H fun e H=>iA [0,1,5,26]<|cD H (fun H=>iA [4]<|a7<|h9<|fR<|h<|h9<|k<|hr H) fun H=>vK<|fK<|fQ<|jB [0,1,5] H fun H=>j H
 exact vE<|fE<|g<|fX rfl<|f H
def IH(a:As)(b:Int):Option Int :=
 gd (b7 (b-(a.1.size:Int))/\True) <|
 if(decide (b-(a.1.size:Int)<0)) then
  some (-1)
 else
  gd ((I7 a.2.2 (b-(a.1.size:Int))).isSome/\True)<|lt (vl (I7 a.2.2 (b-(a.1.size:Int)))) fun c =>
  if(decide (c<0)) then
   some (-1)
  else
   some c
def Q0B:Ct:=b9 135 [.agg y218,.dat i64] (fun x=>IH x.1 x.2.1) (fun r:Int=>I r) (fun _=>())
theorem Vi:Ok prog Q0B:=by
 refine c8 [.tmp 4] func135 ?_;intro y ⟨_,_,_⟩ r H Q hn hr;have:=hz (tc V4 tn);refine iA [1,2]<|iB [1,2] H fun H=>vQ<|iA [1,2,11]<|cD H (fun H=>iA [4]<|a7<|fR<|hr H) fun H=>vK<|fQ<|iD V4 [1] H fun _ H=>vQ<|iA [1,17]<|cD H (fun H=>iA [4]<|a7<|fR<|hr H) fun H=>vK<|fQ<|iA [4]<|a7<|hr H
def Vj:Int->Option Int
 | a =>
 some a
def H0t(b:List As)(e:Int×Int->Option Int):Int×Int->Option Int
 | (c,a) =>
 if(decide (a < (b.length:Int))) then
  gd (ix a b.length/\(IH (b.getD a.toNat (a6 y218)) c).isSome/\True)<|lt (vl (IH (b.getD a.toNat (a6 y218)) c)) fun d =>
  if(decide (d<0)) then
   some (-1)
  else
   gd (b7 (a+1)/\True) <|
   e (d,a+1)
 else
  Vj c
def II(a:List As)(b:Int):Option Int :=
 gd (b7 (b-(a.length:Int))/\True) <|
 if(decide (b-(a.length:Int)<0)) then
  some (-1)
 else
  lp (H0t a) ((b-(a.length:Int),0))
def k79:Ct:=b9 79 [.dat y218.sl,.dat i64] (fun x=>II x.1 x.2.1) (fun r:Int=>I r) (fun _=>())
theorem Vk:Ok prog k79:=by
 refine c8 [.tmp 4] func79 ?_;intro y ⟨d,h,_⟩ r H Q hn hr;have:=hz (tc Vi tn);refine iA [0,1]<|iB [0,1] H fun H=>vQ<|iA [0,1,11]<|cD H (fun H=>iA [4]<|a7<|fR<|hr H) fun H=>vK<|fQ<|jN r (fun(b:Int)=>Z [p 1 (I b)] []) (Vj) (fun b H=>?_) (fun _ e l j=>?_)
 ·refine iA [4]<|a7<|hr H
 refine iA [0,1,5]<|vB<|lX (fun((c,a):Int×Int)=>Z [p 0 (L y218 d),p 1 (I c),p 5 (I a)] []) ((h-(d.length:Int),0)) H fun _ k i f g ⟨c,a⟩ H=>vQ<|iA [0,1,5,15]<|cD H (fun H=>?_) (fun H=>?_)
 ·refine vK<|fQ<|vQ<|vB<|iD Vi [0,1,5] H fun _ H=>iA [0,1,5,25]<|cD H (fun H=>iA [4]<|a7<|h9<|fR<|g<|h9<|j<|hr H) fun H=>vK<|fK<|fQ<|jB [0,1,5] H fun H=>i H
 exact vE<|fE<|f<|fX rfl<|e H
def IJ(a:IK)(e:Int):Option Int :=
 gd ((II a.1 e).isSome/\True)<|lt (vl (II a.1 e)) fun c =>
 if(decide (c<0)) then
  some (-1)
 else
  gd ((IG a.2.1 c).isSome/\True)<|lt (vl (IG a.2.1 c)) fun b =>
  if(decide (b<0)) then
   some (-1)
  else
   gd ((IF a.2.2 b).isSome/\True)<|lt (vl (IF a.2.2 b)) fun d =>
   if(decide (d<0)) then
    some (-1)
   else
    some d
def k36:Ct:=b9 36 [.agg BU,.dat i64] (fun x=>IJ x.1 x.2.1) (fun r:Int=>I r) (fun _=>())
theorem Vl:Ok prog k36:=by
 refine c8 [.tmp 4] func36 ?_;intro y ⟨_,_,_⟩ r H Q hn hr;have:=hz (tc Vf (tc Vh (tc Vk tn)));refine iA [1,2]<|iD Vk [1,2] H fun _ H=>vQ<|iA [1,2,10]<|cD H (fun H=>iA [4]<|a7<|fR<|hr H) fun H=>vK<|fQ<|iD Vh [1,2] H fun _ H=>vQ<|iA [1,2,16]<|cD H (fun H=>iA [4]<|a7<|fR<|hr H) fun H=>vK<|fQ<|iD Vf [1] H fun _ H=>vQ<|iA [1,22]<|cD H (fun H=>iA [4]<|a7<|fR<|hr H) fun H=>vK<|fQ<|iA [4]<|a7<|hr H
def IL(a:Y2)(e:Int):Option Int :=
 gd ((I7 a.1 e).isSome/\True)<|lt (vl (I7 a.1 e)) fun c =>
 if(decide (c<0)) then
  some (-1)
 else
  gd ((I7 a.2.1 c).isSome/\True)<|lt (vl (I7 a.2.1 c)) fun b =>
  if(decide (b<0)) then
   some (-1)
  else
   gd ((I7 a.2.2 b).isSome/\True)<|lt (vl (I7 a.2.2 b)) fun d =>
   if(decide (d<0)) then
    some (-1)
   else
    some d
def O0w:Ct:=b9 269 [.agg y342,.dat i64] (fun x=>IL x.1 x.2.1) (fun r:Int=>I r) (fun _=>())
theorem Vm:Ok prog O0w:=by
 refine c8 [.tmp 4] func269 ?_;intro y ⟨_,_,_⟩ r H Q hn hr;have:=hz (tc V4 tn);refine iA [1,2]<|iD V4 [1,2] H fun _ H=>vQ<|iA [1,2,10]<|cD H (fun H=>iA [4]<|a7<|fR<|hr H) fun H=>vK<|fQ<|iD V4 [1,2] H fun _ H=>vQ<|iA [1,2,16]<|cD H (fun H=>iA [4]<|a7<|fR<|hr H) fun H=>vK<|fQ<|iD V4 [1] H fun _ H=>vQ<|iA [1,22]<|cD H (fun H=>iA [4]<|a7<|fR<|hr H) fun H=>vK<|fQ<|iA [4]<|a7<|hr H
def Vn:Int->Option Int
 | a =>
 some a
def D0P(b:List Y2)(e:Int×Int->Option Int):Int×Int->Option Int
 | (c,a) =>
 if(decide (a < (b.length:Int))) then
  gd (ix a b.length/\(IL (b.getD a.toNat (a6 y342)) c).isSome/\True)<|lt (vl (IL (b.getD a.toNat (a6 y342)) c)) fun d =>
  if(decide (d<0)) then
   some (-1)
  else
   gd (b7 (a+1)/\True) <|
   e (d,a+1)
 else
  Vn c
def DP(a:List Y2)(b:Int):Option Int :=
 gd (b7 (b-(a.length:Int))/\True) <|
 if(decide (b-(a.length:Int)<0)) then
  some (-1)
 else
  lp (D0P a) ((b-(a.length:Int),0))
def O0J:Ct:=b9 251 [.dat y342.sl,.dat i64] (fun x=>DP x.1 x.2.1) (fun r:Int=>I r) (fun _=>())
theorem Qf:Ok prog O0J:=by
 refine c8 [.tmp 4] func251 ?_;intro y ⟨d,h,_⟩ r H Q hn hr;have:=hz (tc Vm tn);refine iA [0,1]<|iB [0,1] H fun H=>vQ<|iA [0,1,11]<|cD H (fun H=>iA [4]<|a7<|fR<|hr H) fun H=>vK<|fQ<|jN r (fun(b:Int)=>Z [p 1 (I b)] []) (Vn) (fun b H=>?_) (fun _ e l j=>?_)
 ·refine iA [4]<|a7<|hr H
 refine iA [0,1,5]<|vB<|lX (fun((c,a):Int×Int)=>Z [p 0 (L y342 d),p 1 (I c),p 5 (I a)] []) ((h-(d.length:Int),0)) H fun _ k i f g ⟨c,a⟩ H=>vQ<|iA [0,1,5,15]<|cD H (fun H=>?_) (fun H=>?_)
 ·refine vK<|fQ<|vQ<|vB<|iD Vm [0,1,5] H fun _ H=>iA [0,1,5,25]<|cD H (fun H=>iA [4]<|a7<|h9<|fR<|g<|h9<|j<|hr H) fun H=>vK<|fK<|fQ<|jB [0,1,5] H fun H=>i H
 exact vE<|fE<|f<|fX rfl<|e H
def IM(a:Au)(d:Int):Option Int :=
 gd ((DP a.2.2.2.2.1 d).isSome/\True)<|lt (vl (DP a.2.2.2.2.1 d)) fun b =>
 if(decide (b<0)) then
  some (-1)
 else
  gd ((DP a.2.2.2.2.2 b).isSome/\True)<|lt (vl (DP a.2.2.2.2.2 b)) fun c =>
  if(decide (c<0)) then
   some (-1)
  else
   some c
def P0a:Ct:=b9 224 [.agg y300,.dat i64] (fun x=>IM x.1 x.2.1) (fun r:Int=>I r) (fun _=>())
theorem Vo:Ok prog P0a:=by
 refine c8 [.tmp 4] func224 ?_;intro y ⟨_,_,_⟩ r H Q hn hr;have:=hz (tc Qf tn);refine iA [1,2]<|iD Qf [1,2] H fun _ H=>vQ<|iA [1,2,10]<|cD H (fun H=>iA [4]<|a7<|fR<|hr H) fun H=>vK<|fQ<|iD Qf [1] H fun _ H=>vQ<|iA [1,16]<|cD H (fun H=>iA [4]<|a7<|fR<|hr H) fun H=>vK<|fQ<|iA [4]<|a7<|hr H
def Vp:Int->Option Int
 | a =>
 some a
def E0r(b:List Au)(e:Int×Int->Option Int):Int×Int->Option Int
 | (c,a) =>
 if(decide (a < (b.length:Int))) then
  gd (ix a b.length/\(IM (b.getD a.toNat (a6 y300)) c).isSome/\True)<|lt (vl (IM (b.getD a.toNat (a6 y300)) c)) fun d =>
  if(decide (d<0)) then
   some (-1)
  else
   gd (b7 (a+1)/\True) <|
   e (d,a+1)
 else
  Vp c
def IN(a:List Au)(b:Int):Option Int :=
 gd (b7 (b-(a.length:Int))/\True) <|
 if(decide (b-(a.length:Int)<0)) then
  some (-1)
 else
  lp (E0r a) ((b-(a.length:Int),0))
def P0K:Ct:=b9 183 [.dat y300.sl,.dat i64] (fun x=>IN x.1 x.2.1) (fun r:Int=>I r) (fun _=>())
theorem Vq:Ok prog P0K:=by
 refine c8 [.tmp 4] func183 ?_;intro y ⟨d,h,_⟩ r H Q hn hr;have:=hz (tc Vo tn);refine iA [0,1]<|iB [0,1] H fun H=>vQ<|iA [0,1,11]<|cD H (fun H=>iA [4]<|a7<|fR<|hr H) fun H=>vK<|fQ<|jN r (fun(b:Int)=>Z [p 1 (I b)] []) (Vp) (fun b H=>?_) (fun _ e l j=>?_)
 ·refine iA [4]<|a7<|hr H
 refine iA [0,1,5]<|vB<|lX (fun((c,a):Int×Int)=>Z [p 0 (L y300 d),p 1 (I c),p 5 (I a)] []) ((h-(d.length:Int),0)) H fun _ k i f g ⟨c,a⟩ H=>vQ<|iA [0,1,5,15]<|cD H (fun H=>?_) (fun H=>?_)
 ·refine vK<|fQ<|vQ<|vB<|iD Vo [0,1,5] H fun _ H=>iA [0,1,5,25]<|cD H (fun H=>iA [4]<|a7<|h9<|fR<|g<|h9<|j<|hr H) fun H=>vK<|fK<|fQ<|jB [0,1,5] H fun H=>i H
 exact vE<|fE<|f<|fX rfl<|e H
def IP(b:Av)(a:Int):Option Int :=
 gd (b7 (a-(b.1.size:Int))/\True) <|
 if(decide (a-(b.1.size:Int)<0)) then
  some (-1)
 else
  some (a-(b.1.size:Int))
def P0b:Ct:=b9 223 [.agg y296,.dat i64] (fun x=>IP x.1 x.2.1) (fun r:Int=>I r) (fun _=>())
theorem Vr:Ok prog P0b:=by
 refine c8 [.tmp 4] func223 ?_;intro y ⟨_,_,_⟩ r H Q hn hr;refine iA [1,2]<|iB [1] H fun H=>vQ<|iA [1,11]<|cD H (fun H=>iA [4]<|a7<|fR<|hr H) fun H=>vK<|fQ<|iA [4]<|a7<|hr H
def Vs:Int->Option Int
 | a =>
 some a
def E0t(b:List Av)(e:Int×Int->Option Int):Int×Int->Option Int
 | (c,a) =>
 if(decide (a < (b.length:Int))) then
  gd (ix a b.length/\(IP (b.getD a.toNat (a6 y296)) c).isSome/\True)<|lt (vl (IP (b.getD a.toNat (a6 y296)) c)) fun d =>
  if(decide (d<0)) then
   some (-1)
  else
   gd (b7 (a+1)/\True) <|
   e (d,a+1)
 else
  Vs c
def IQ(a:List Av)(b:Int):Option Int :=
 gd (b7 (b-(a.length:Int))/\True) <|
 if(decide (b-(a.length:Int)<0)) then
  some (-1)
 else
  lp (E0t a) ((b-(a.length:Int),0))
def P0L:Ct:=b9 182 [.dat y296.sl,.dat i64] (fun x=>IQ x.1 x.2.1) (fun r:Int=>I r) (fun _=>())
theorem Vt:Ok prog P0L:=by
 refine c8 [.tmp 4] func182 ?_;intro y ⟨d,h,_⟩ r H Q hn hr;have:=hz (tc Vr tn);refine iA [0,1]<|iB [0,1] H fun H=>vQ<|iA [0,1,11]<|cD H (fun H=>iA [4]<|a7<|fR<|hr H) fun H=>vK<|fQ<|jN r (fun(b:Int)=>Z [p 1 (I b)] []) (Vs) (fun b H=>?_) (fun _ e l j=>?_)
 ·refine iA [4]<|a7<|hr H
 refine iA [0,1,5]<|vB<|lX (fun((c,a):Int×Int)=>Z [p 0 (L y296 d),p 1 (I c),p 5 (I a)] []) ((h-(d.length:Int),0)) H fun _ k i f g ⟨c,a⟩ H=>vQ<|iA [0,1,5,15]<|cD H (fun H=>?_) (fun H=>?_)
 ·refine vK<|fQ<|vQ<|vB<|iD Vr [0,1,5] H fun _ H=>iA [0,1,5,25]<|cD H (fun H=>iA [4]<|a7<|h9<|fR<|g<|h9<|j<|hr H) fun H=>vK<|fK<|fQ<|jB [0,1,5] H fun H=>i H
 exact vE<|fE<|f<|fX rfl<|e H
def IS(a:Q3)(b:Int):Option Int :=
 gd (b7 (b-(a.1.size:Int))/\True) <|
 if(decide (b-(a.1.size:Int)<0)) then
  some (-1)
 else
  gd ((IQ a.2.2.1 (b-(a.1.size:Int))).isSome/\True)<|lt (vl (IQ a.2.2.1 (b-(a.1.size:Int)))) fun d =>
  if(decide (d<0)) then
   some (-1)
  else
   gd ((IN a.2.2.2.1 d).isSome/\True)<|lt (vl (IN a.2.2.2.1 d)) fun c =>
   if(decide (c<0)) then
    some (-1)
   else
    gd ((I7 a.2.2.2.2.1 c).isSome/\True)<|lt (vl (I7 a.2.2.2.2.1 c)) fun e =>
    if(decide (e<0)) then
     some (-1)
    else
     some e
def Q0C:Ct:=b9 134 [.agg y216,.dat i64] (fun x=>IS x.1 x.2.1) (fun r:Int=>I r) (fun _=>())
theorem Vu:Ok prog Q0C:=by
 refine c8 [.tmp 4] func134 ?_;intro y ⟨_,_,_⟩ r H Q hn hr;have:=hz (tc V4 (tc Vq (tc Vt tn)));refine iA [1,2]<|iB [1,2] H fun H=>vQ<|iA [1,2,11]<|cD H (fun H=>iA [4]<|a7<|fR<|hr H) fun H=>vK<|fQ<|iD Vt [1,2] H fun _ H=>vQ<|iA [1,2,17]<|cD H (fun H=>iA [4]<|a7<|fR<|hr H) fun H=>vK<|fQ<|iD Vq [1,2] H fun _ H=>vQ<|iA [1,2,23]<|cD H (fun H=>iA [4]<|a7<|fR<|hr H) fun H=>vK<|fQ<|iD V4 [1] H fun _ H=>vQ<|iA [1,29]<|cD H (fun H=>iA [4]<|a7<|fR<|hr H) fun H=>vK<|fQ<|iA [4]<|a7<|hr H
def Vv:Int->Option Int
 | a =>
 some a
def H0u(b:List Q3)(e:Int×Int->Option Int):Int×Int->Option Int
 | (c,a) =>
 if(decide (a < (b.length:Int))) then
  gd (ix a b.length/\(IS (b.getD a.toNat (a6 y216)) c).isSome/\True)<|lt (vl (IS (b.getD a.toNat (a6 y216)) c)) fun d =>
  if(decide (d<0)) then
   some (-1)
  else
   gd (b7 (a+1)/\True) <|
   e (d,a+1)
 else
  Vv c
def IT(a:List Q3)(b:Int):Option Int :=
 gd (b7 (b-(a.length:Int))/\True) <|
 if(decide (b-(a.length:Int)<0)) then
  some (-1)
 else
  lp (H0u a) ((b-(a.length:Int),0))
def k78:Ct:=b9 78 [.dat y216.sl,.dat i64] (fun x=>IT x.1 x.2.1) (fun r:Int=>I r) (fun _=>())
theorem Vw:Ok prog k78:=by
 refine c8 [.tmp 4] func78 ?_;intro y ⟨d,h,_⟩ r H Q hn hr;have:=hz (tc Vu tn);refine iA [0,1]<|iB [0,1] H fun H=>vQ<|iA [0,1,11]<|cD H (fun H=>iA [4]<|a7<|fR<|hr H) fun H=>vK<|fQ<|jN r (fun(b:Int)=>Z [p 1 (I b)] []) (Vv) (fun b H=>?_) (fun _ e l j=>?_)
 ·refine iA [4]<|a7<|hr H
 refine iA [0,1,5]<|vB<|lX (fun((c,a):Int×Int)=>Z [p 0 (L y216 d),p 1 (I c),p 5 (I a)] []) ((h-(d.length:Int),0)) H fun _ k i f g ⟨c,a⟩ H=>vQ<|iA [0,1,5,15]<|cD H (fun H=>?_) (fun H=>?_)
 ·refine vK<|fQ<|vQ<|vB<|iD Vu [0,1,5] H fun _ H=>iA [0,1,5,25]<|cD H (fun H=>iA [4]<|a7<|h9<|fR<|g<|h9<|j<|hr H) fun H=>vK<|fK<|fQ<|jB [0,1,5] H fun H=>i H
 exact vE<|fE<|f<|fX rfl<|e H
def IU(b:List Q3)(c:Int):Option Int :=
 gd ((IT b c).isSome/\True)<|lt (vl (IT b c)) fun a =>
 if(decide (a<0)) then
  some (-1)
 else
  some a
def k35:Ct:=b9 35 [.agg y216.sl,.dat i64] (fun x=>IU x.1 x.2.1) (fun r:Int=>I r) (fun _=>())
theorem Vx:Ok prog k35:=by
 refine c8 [.tmp 4] func35 ?_;intro y ⟨_,_,_⟩ r H Q hn hr;have:=hz (tc Vw tn);refine iA [1,2]<|iD Vw [1] H fun _ H=>vQ<|iA [1,10]<|cD H (fun H=>iA [4]<|a7<|fR<|hr H) fun H=>vK<|fQ<|iA [4]<|a7<|hr H
def u7(a:Gy)(e:Int):Option Int :=
 gd ((IU a.1 e).isSome/\True)<|lt (vl (IU a.1 e)) fun c =>
 if(decide (c<0)) then
  some (-1)
 else
  gd ((IJ a.2.1 c).isSome/\True)<|lt (vl (IJ a.2.1 c)) fun b =>
  if(decide (b<0)) then
   some (-1)
  else
   gd ((ID a.2.2 b).isSome/\True)<|lt (vl (ID a.2.2 b)) fun d =>
   if(decide (d<0)) then
    some (-1)
   else
    some d
def k7:Ct:=b9 7 [.agg T7,.dat i64] (fun x=>u7 x.1 x.2.1) (fun r:Int=>I r) (fun _=>())
theorem o7:Ok prog k7:=by
 refine c8 [.tmp 4] func7 ?_;intro y ⟨_,_,_⟩ r H Q hn hr;have:=hz (tc Vc (tc Vl (tc Vx tn)));refine iA [1,2]<|iD Vx [1,2] H fun _ H=>vQ<|iA [1,2,10]<|cD H (fun H=>iA [4]<|a7<|fR<|hr H) fun H=>vK<|fQ<|iD Vl [1,2] H fun _ H=>vQ<|iA [1,2,16]<|cD H (fun H=>iA [4]<|a7<|fR<|hr H) fun H=>vK<|fQ<|iD Vc [1] H fun _ H=>vQ<|iA [1,22]<|cD H (fun H=>iA [4]<|a7<|fR<|hr H) fun H=>vK<|fQ<|iA [4]<|a7<|hr H
def u8(b:Gz)(a:Int):Option Int :=
 gd (b7 (a-(b.1.size:Int))/\True) <|
 if(decide (a-(b.1.size:Int)<0)) then
  some (-1)
 else
  some (a-(b.1.size:Int))
def k8:Ct:=b9 8 [.agg V5,.dat i64] (fun x=>u8 x.1 x.2.1) (fun r:Int=>I r) (fun _=>())
theorem o8:Ok prog k8:=by
 refine c8 [.tmp 4] func8 ?_;intro y ⟨_,_,_⟩ r H Q hn hr;refine iA [1,2]<|iB [1] H fun H=>vQ<|iA [1,11]<|cD H (fun H=>iA [4]<|a7<|fR<|hr H) fun H=>vK<|fQ<|iA [4]<|a7<|hr H
def u9(b:List BV)(a:Int):Option Int :=
 gd (b7 (a-(b.length:Int))/\True) <|
 if(decide (a-(b.length:Int)<0)) then
  some (-1)
 else
  some (a-(b.length:Int))
def k9:Ct:=b9 9 [.dat y106.sl,.dat i64] (fun x=>u9 x.1 x.2.1) (fun r:Int=>I r) (fun _=>())
theorem o9:Ok prog k9:=by
 refine c8 [.tmp 4] func9 ?_;intro y ⟨_,_,_⟩ r H Q hn hr;refine iA [0,1]<|iB [1] H fun H=>vQ<|iA [1,10]<|cD H (fun H=>iA [4]<|a7<|fR<|hr H) fun H=>vK<|fQ<|iA [4]<|a7<|hr H
def DQ(b:List Aw)(a:Int):Option Int :=
 gd (b7 (a-(b.length:Int))/\True) <|
 if(decide (a-(b.length:Int)<0)) then
  some (-1)
 else
  some (a-(b.length:Int))
def k39:Ct:=b9 39 [.dat y104.sl,.dat i64] (fun x=>DQ x.1 x.2.1) (fun r:Int=>I r) (fun _=>())
theorem Qg:Ok prog k39:=by
 refine c8 [.tmp 4] func39 ?_;intro y ⟨_,_,_⟩ r H Q hn hr;refine iA [0,1]<|iB [1] H fun H=>vQ<|iA [1,10]<|cD H (fun H=>iA [4]<|a7<|fR<|hr H) fun H=>vK<|fQ<|iA [4]<|a7<|hr H
def IV(b:List Bool)(a:Int):Option Int :=
 gd (b7 (a-(b.length:Int))/\True) <|
 if(decide (a-(b.length:Int)<0)) then
  some (-1)
 else
  some (a-(b.length:Int))
def k38:Ct:=b9 38 [.dat Ty.bool.sl,.dat i64] (fun x=>IV x.1 x.2.1) (fun r:Int=>I r) (fun _=>())
theorem Vy:Ok prog k38:=by
 refine c8 [.tmp 4] func38 ?_;intro y ⟨_,_,_⟩ r H Q hn hr;refine iA [0,1]<|iB [1] H fun H=>vQ<|iA [1,10]<|cD H (fun H=>iA [4]<|a7<|fR<|hr H) fun H=>vK<|fQ<|iA [4]<|a7<|hr H
def IW(a:GA)(e:Int):Option Int :=
 gd ((IV a.1 e).isSome/\True)<|lt (vl (IV a.1 e)) fun c =>
 if(decide (c<0)) then
  some (-1)
 else
  gd ((DQ a.2.1 c).isSome/\True)<|lt (vl (DQ a.2.1 c)) fun b =>
  if(decide (b<0)) then
   some (-1)
  else
   gd ((DQ a.2.2 b).isSome/\True)<|lt (vl (DQ a.2.2 b)) fun d =>
   if(decide (d<0)) then
    some (-1)
   else
    some d
def Qh:Ct:=b9 10 [.agg Y3,.dat i64] (fun x=>IW x.1 x.2.1) (fun r:Int=>I r) (fun _=>())
theorem Vz:Ok prog Qh:=by
 refine c8 [.tmp 4] func10 ?_;intro y ⟨_,_,_⟩ r H Q hn hr;have:=hz (tc Qg (tc Vy tn));refine iA [1,2]<|iD Vy [1,2] H fun _ H=>vQ<|iA [1,2,10]<|cD H (fun H=>iA [4]<|a7<|fR<|hr H) fun H=>vK<|fQ<|iD Qg [1,2] H fun _ H=>vQ<|iA [1,2,16]<|cD H (fun H=>iA [4]<|a7<|fR<|hr H) fun H=>vK<|fQ<|iD Qg [1] H fun _ H=>vQ<|iA [1,22]<|cD H (fun H=>iA [4]<|a7<|fR<|hr H) fun H=>vK<|fQ<|iA [4]<|a7<|hr H
def O2(b:Int)(a:Int)(c:Int):Option Int :=
 gd (0<a/\True) <|
 gd (0<a/\True) <|
 if(decide (b.tmod a<0)&&c==0) then
  gd (b7 (b.tdiv a-1)/\True) <|
  some (b.tdiv a-1)
 else
  if(decide (0<b.tmod a)&&c==1) then
   gd (b7 (b.tdiv a+1)/\True) <|
   some (b.tdiv a+1)
  else
   some (b.tdiv a)
def P0C:Ct:=b9 191 [.dat i64,.dat i64,.dat i64] (fun x=>O2 x.1 x.2.1 x.2.2.1) (fun r:Int=>I r) (fun _=>())
theorem CP:Ok prog P0C:=by
 refine c8 [.tmp 6] func191 ?_;intro y ⟨_,_,_,_⟩ r H Q hn hr;refine iA [0,1,2]<|iB [0,1,2,7] H fun H=>iB [2,7,8] H fun H=>vQ<|iA [2,7,8,20]<|cD H (fun H=>iB [6] H fun H=>a7<|fR<|hr H) fun H=>vK<|fQ<|vQ<|iA [7,28]<|cD H (fun H=>iB [6] H fun H=>a7<|fR<|hr H) fun H=>vK<|fQ<|iA [6]<|a7<|hr H
def Qi:Int->Option Int
 | a =>
 some a
def IX(b:Int)(c:Int):Int->Option Int
 | a =>
 gd (((b==1)=true/\True->b7 (a*a))/\True) <|
 if(b==1&&decide (a*a<c)) then
  gd (b7 (a+1)/\True) <|
  Qi (a+1)
 else
  Qi a
def MB(d:Int)(e:Int)(c:Int×Int->Option Int):Int×Int->Option Int
 | (a,b) =>
 if(decide (a<b)) then
  gd (b7 (a+b)/\b7 (a+b+(1:Int))/\(0:Int) < (2:Int)/\True) <|
  gd (b7 ((a+b+1).tdiv 2*(a+b+1).tdiv 2)/\True) <|
  if(decide ((a+b+1).tdiv 2*(a+b+1).tdiv 2<=d)) then
   c (((a+b+1).tdiv 2,b))
  else
   gd (b7 ((a+b+1).tdiv 2-1)/\True) <|
   c ((a,(a+b+1).tdiv 2-1))
 else
  IX e d a
def Bi(b:Int)(a:Int):Option Int :=
 lp (MB b a) (0,2000000000)
def O0V:Ct:=b9 229 [.dat i64,.dat i64] (fun x=>Bi x.1 x.2.1) (fun r:Int=>I r) (fun _=>())
theorem M0W:Ok prog O0V:=by
 refine c8 [.tmp 4] func229 ?_;intro y ⟨b,a,_⟩ r H Q hn hr;refine iA [0,1]<|iA [0,1,5,6]<|jN r (fun(c:Int)=>Z [p 0 (J b),p 1 (J a),p 5 (I c)] []) (IX a b) (fun c H=>?_) (fun _ i m q=>?_)
 ·refine jN r (fun(f:Int)=>Z [p 5 (I f)] []) (Qi) (fun f H=>?_) (fun _ g n o=>?_)
  ·refine iA [4]<|a7<|hr H
  refine iB [5,32] H fun H=>cD H (fun H=>jB [5] H fun H=>g H) fun H=>vK<|g H
 refine vB<|lX (fun((h,e):Int×Int)=>Z [p 0 (J b),p 1 (J a),p 5 (I h),p 6 (I e)] []) (0,2000000000) H fun _ l d j k ⟨h,e⟩ H=>vQ<|iA [0,1,5,6,10]<|cD H (fun H=>?_) (fun H=>?_)
 ·refine vK<|fQ<|vB<|iB [0,1,5,6,7] H fun H=>iB [0,1,5,6,7,20] H fun H=>cD H (fun H=>jA [0,1,5,6]<|fK<|d H) fun H=>jB [0,1,5,6] H fun H=>fK<|d H
 exact vE<|fE<|j<|fX rfl<|i H
def DR(c:List k6)(b:m6)(a:z6):Option Int :=
 if(decide (a.1<0)) then
  some 0
 else
  gd (ix a.1 b.1.length/\ix (b.1.getD a.1.toNat (a6 y155)).2.1 c.length/\ix a.2.1 (c.getD (b.1.getD a.1.toNat (a6 y155)).2.1.toNat (a6 y153)).2.2.1.length/\True)<|lt ((c.getD (b.1.getD a.1.toNat (a6 y155)).2.1.toNat (a6 y153)).2.2.1.getD a.2.1.toNat (a6 y293)) fun d =>
  some d.2.2.1
def O0E:Ct:=b9 256 [.agg y153.sl,.agg y53,.agg w8] (fun x=>DR x.1 x.2.1 x.2.2.1) (fun r:Int=>I r) (fun _=>())
theorem M0O:Ok prog O0E:=by
 refine c8 [.tmp 6] func256 ?_;intro y ⟨c,d,b,_⟩ r H Q hn hr;refine iA [3,4,5]<|vQ<|iA [3,4,5,9]<|cD H (fun H=>iA [6]<|a7<|fR<|hr H) fun H=>vK<|fQ<|qD (fun a=>Z [p 6 (J a.2.2.1)] [(5,K 226 w8 b),(4,K 53 y53 d),(3,bx 49 [L y153 c])]) H fun a H=>a7<|hr H
def VA:List z6->Option (List z6)
 | a =>
 some a
def VB(b:m6)(e:Int×List z6->Option (List z6)):Int×List z6->Option (List z6)
 | (a,c) =>
 if(decide (a < (b.2.2.length:Int))) then
  gd (ix a b.2.2.length/\ix a b.2.2.length/\(c.length+[(-1,a,(b.2.2.getD a.toNat (a6 y231)).2.2,(b.2.2.getD a.toNat (a6 y231)).2.1==1)].length<=9223372036854775807/\(c.length+[(-1,a,(b.2.2.getD a.toNat (a6 y231)).2.2,(b.2.2.getD a.toNat (a6 y231)).2.1==1)].length)*32<=140737488355328)/\True)<|lt ((c++[(-1,a,(b.2.2.getD a.toNat (a6 y231)).2.2,(b.2.2.getD a.toNat (a6 y231)).2.1==1)],[(-1,a,(b.2.2.getD a.toNat (a6 y231)).2.2,(b.2.2.getD a.toNat (a6 y231)).2.1==1)])) fun(d,_) =>
  gd (b7 (a+1)/\True) <|
  e (a+1,d)
 else
  VA c
def IY(b:m6):List z6->Option (List z6)
 | a =>
 lp (VB b) (0,a)
def Qj(b:Int)(c:Int×List z6->Option (List z6)):List z6->Option (List z6)
 | a =>
 gd (b7 (b+1)/\True) <|
 c (b+1,a)
def VC(d:Int)(b:A9)(f:Int×List z6->Option (List z6))(g:Int×List z6->Option (List z6)):Int×List z6->Option (List z6)
 | (a,c) =>
 if(decide (a < (b.2.2.length:Int))) then
  gd (ix a b.2.2.length/\b7 ((b.2.2.length:Int)-1)/\(c.length+[(d,a,b.2.2.getD a.toNat 0,a==(b.2.2.length:Int)-1)].length<=9223372036854775807/\(c.length+[(d,a,b.2.2.getD a.toNat 0,a==(b.2.2.length:Int)-1)].length)*32<=140737488355328)/\True)<|lt ((c++[(d,a,b.2.2.getD a.toNat 0,a==(b.2.2.length:Int)-1)],[(d,a,b.2.2.getD a.toNat 0,a==(b.2.2.length:Int)-1)])) fun(e,_) =>
  gd (b7 (a+1)/\True) <|
  g (a+1,e)
 else
  Qj d f c
def VD(b:m6)(e:Int×List z6->Option (List z6)):Int×List z6->Option (List z6)
 | (a,d) =>
 if(decide (a < (b.1.length:Int))) then
  gd (ix a b.1.length/\True)<|lt (b.1.getD a.toNat (a6 y155)) fun c =>
  lp (VC a c e) (0,d)
 else
  IY b d
def G9(a:m6):Option (List z6) :=
 lp (VD a) (0,[])
def Q0K:Ct:=b9 118 [.agg y53] (fun x=>G9 x.1) (fun r:List z6=>AV.ow 226 true w8 r) (fun _=>())
theorem Y4:Ok prog Q0K:=by
 refine c8 [.tmp 2] func118 ?_;intro y ⟨a,_⟩ r H Q hn hr;refine iA [1]<|iA [1,3]<|jN r (fun(e:List z6)=>Z [p 1 (R 1),p 3 (O 8)] [(8,A 226 w8 e 0),(1,K 53 y53 a)]) (IY a) (fun e H=>?_) (fun _ q T t0=>?_)
 ·refine jN r (fun(j:List z6)=>Z [p 3 (O 8)] [(8,A 226 w8 j 0)]) (VA) (fun j H=>?_) (fun _ t G W=>?_)
  ·refine iA [2]<|a7<|hr H
  refine iA [1,3,7]<|vB<|lX (fun((c,n):Int×List z6)=>Z [p 1 (R 1),p 3 (O 8),p 7 (I c)] [(8,A 226 w8 n 0),(1,K 53 y53 a)]) (0,e) H fun _ V v x t5 ⟨c,n⟩ H=>vQ<|iA [1,3,7,47]<|cD H (fun H=>?_) (fun H=>?_)
  ·refine vK<|fQ<|vQ<|vB<|zD (fun(i,h)=>Z [p 1 (R 1),p 3 (AV.os 8 1),p 7 (I c)] [(8,A 226 w8 i 1),(66,A 226 w8 h 0),(1,K 53 y53 a)]) H fun⟨i,h⟩ H =>
    fK<|fQ <|
    jB [1,3,7] H fun H =>
    v H
  exact vE<|fE<|x<|fX rfl<|t H
 refine iA [1,3,4]<|vB<|lX (fun((d,o):Int×List z6)=>Z [p 1 (R 1),p 3 (O 8),p 4 (I d)] [(8,A 226 w8 o 0),(1,K 53 y53 a)]) (0,[]) H fun _ z E s P ⟨d,o⟩ H=>vQ<|iA [1,3,4,13]<|cD H (fun H=>?_) (fun H=>?_)
 ·refine vK<|fQ<|jN r (fun(k:List z6)=>Z [p 1 (R 1),p 3 (O 8),p 4 (I d)] [(8,A 226 w8 k 0),(1,K 53 y53 a)]) (Qj d z) (fun k H=>?_) (fun _ F e2 X=>?_)
  ·refine jB [1,3,4] H fun H=>E H
  refine vB<|qD (fun b=>Z [p 1 (R 1),p 3 (O 8),p 4 (I d),p 5 (L i64 b.2.2)] [(8,A 226 w8 o 0),(1,K 53 y53 a)]) H fun b H=>iA [1,3,4,5,6]<|vB<|lX (fun((f,g):Int×List z6)=>Z [p 1 (R 1),p 3 (O 8),p 4 (I d),p 5 (L i64 b.2.2),p 6 (I f)] [(8,A 226 w8 g 0),(1,K 53 y53 a)]) (0,o) H fun _ g3 w u Y ⟨f,g⟩ H=>vQ<|iA [1,3,4,5,6,25]<|cD H (fun H=>?_) (fun H=>?_)
  ·refine vK<|fQ<|vQ<|vB<|zD (fun(l,m)=>Z [p 1 (R 1),p 3 (AV.os 8 1),p 4 (I d),p 5 (L i64 b.2.2),p 6 (I f)] [(8,A 226 w8 l 1),(41,A 226 w8 m 0),(1,K 53 y53 a)]) H fun⟨l,m⟩ H =>
    fK<|fQ <|
    jB [1,3,4,5,6] H fun H =>
    w H
  exact vE<|fE<|u<|fX rfl<|fK<|F H
 exact vE<|fE<|s<|fX rfl<|q H
def VE:List Int->Option (List Int)
 | a =>
 some a
def MC(a:Int)(c:Int×List Int->Option (List Int)):List Int->Option (List Int)
 | b =>
 gd (b7 (a+1)/\True) <|
 c (a+1,b)
def VF(b:List z6)(d:Int)(e:Int×List Int->Option (List Int)):Int×List Int->Option (List Int)
 | (a,c) =>
 if(decide (a < (b.length:Int))) then
  gd (ix a b.length/\a.toNat<b.length/\(((b.getD a.toNat (a6 w8)).2.2.1==d)=true/\True->ix a b.length)/\(((b.getD a.toNat (a6 w8)).2.2.1==d)=true/\True->a.toNat<b.length)/\True) <|
  if((b.getD a.toNat (a6 w8)).2.2.1==d&&!(b.getD a.toNat (a6 w8)).2.2.2) then
   gd ((c.length+[a].length<=9223372036854775807/\(c.length+[a].length)*8<=140737488355328)/\True) <|
   MC a e (c++[a])
  else
   MC a e c
 else
  VE c
def Y5(a:m6)(c:Int):Option (List Int) :=
 gd ((G9 a).isSome/\True)<|lt (vl (G9 a)) fun b =>
 lp (VF b c) (0,[])
def k89:Ct:=b9 89 [.agg y53,.dat i64] (fun x=>Y5 x.1 x.2.1) (fun r:List Int=>AV.ow 2 true i64 r) (fun _=>())
theorem GB:Ok prog k89:=by
 refine c8 [.tmp 4] func89 ?_;intro y ⟨_,d,_⟩ r H Q hn hr;have:=hz (tc Y4 tn);refine iA [1,2]<|iA [1,2,5]<|iD Y4 [1,5,6] H fun g H=>jN r (fun(c:List Int)=>Z [p 5 (O 8)] [(8,A 2 i64 c 0)]) (VE) (fun c H=>?_) (fun _ h m q=>?_)
 ·refine iA [4]<|a7<|hr H
 refine iA [1,5,6,7]<|vB<|lX (fun((a,e):Int×List Int)=>Z [p 1 (J d),p 5 (O 8),p 6 (O 10),p 7 (I a)] [(10,A 226 w8 g 0),(8,A 2 i64 e 0)]) (0,[]) H fun _ j k i l ⟨a,e⟩ H=>vQ<|iA [1,5,6,7,14]<|cD H (fun H=>?_) (fun H=>?_)
 ·refine vK<|fQ<|jN r (fun(b:List Int)=>Z [p 1 (J d),p 5 (O 8),p 6 (O 10),p 7 (I a)] [(8,A 2 i64 b 0),(10,A 226 w8 g 0)]) (MC a j) (fun b H=>?_) (fun _ f n o=>?_)
  ·refine jB [1,5,6,7] H fun H=>k H
  refine vB<|iB [1,5,6,7,31] H fun H=>cD H (fun H=>jB [1,5,6,7] H fun H=>fK<|f H) fun H=>vK<|fK<|f H
 exact vE<|fE<|i<|fX rfl<|h H
def MD(a:List Int):Option (List Int) :=
 gd ((0+a.length<=9223372036854775807/\(0+a.length)*8<=140737488355328)/\True) <|
 some ([]++a)
def O0F:Ct:=b9 255 [.dat i64.sl] (fun x=>MD x.1) (fun r:List Int=>AV.ow 2 true i64 r) (fun _=>())
theorem VG:Ok prog O0F:=by
 refine c8 [.tmp 2] func255 ?_;intro y ⟨_,_⟩ r H Q hn hr;refine iA [0]<|iB [2] H fun H=>a7<|hr H
def Qk:List Int->Option (List Int)
 | a =>
 some a
def GC(c:w9)(e:Int×List Int->Option (List Int)):Int×List Int->Option (List Int)
 | (a,b) =>
 if(decide (0<a)) then
  gd (ix a c.1.length/\ix (c.1.getD a.toNat 0) b.length/\Int.toNat (c.1.getD a.toNat 0)<b.length/\ix a b.length/\a.toNat<b.length/\b7 (b.getD (Int.toNat (c.1.getD a.toNat 0)) 0+b.getD a.toNat 0)/\ix (c.1.getD a.toNat 0) b.length/\Int.toNat (c.1.getD a.toNat 0)<b.length/\True)<|lt (b.set (Int.toNat (c.1.getD a.toNat 0)) (b.getD (Int.toNat (c.1.getD a.toNat 0)) 0+b.getD a.toNat 0)) fun d =>
  gd (b7 (a-1)/\True) <|
  e (a-1,d)
 else
  Qk b
def ME(b:w9):List Int->Option (List Int)
 | a =>
 gd (b7 ((a.length:Int)-1)/\True) <|
 lp (GC b) (((a.length:Int)-1,a))
def VH(e:j0)(f:List z6)(b:List Int)(c:w9)(h:Int×List Int->Option (List Int)):Int×List Int->Option (List Int)
 | (a,d) =>
 if(decide (a < (b.length:Int))) then
  gd (ix a c.2.2.2.length/\ix (c.2.2.2.getD a.toNat 0) d.length/\Int.toNat (c.2.2.2.getD a.toNat 0)<d.length/\ix a b.length/\a.toNat<b.length/\ix (b.getD a.toNat 0) f.length/\Int.toNat (b.getD a.toNat 0)<f.length/\(DR e.1 e.2.1 (f.getD (Int.toNat (b.getD a.toNat 0)) (a6 w8))).isSome/\b7 (d.getD (Int.toNat (c.2.2.2.getD a.toNat 0)) 0+vl (DR e.1 e.2.1 (f.getD (Int.toNat (b.getD a.toNat 0)) (a6 w8))))/\ix (c.2.2.2.getD a.toNat 0) d.length/\Int.toNat (c.2.2.2.getD a.toNat 0)<d.length/\True)<|lt ((vl (DR e.1 e.2.1 (f.getD (Int.toNat (b.getD a.toNat 0)) (a6 w8))),d.set (Int.toNat (c.2.2.2.getD a.toNat 0)) (d.getD (Int.toNat (c.2.2.2.getD a.toNat 0)) 0+vl (DR e.1 e.2.1 (f.getD (Int.toNat (b.getD a.toNat 0)) (a6 w8)))))) fun(_,g) =>
  gd (b7 (a+1)/\True) <|
  h (a+1,g)
 else
  ME c d
def V6(a:j0)(b:Int):Option (List Int) :=
 gd (ix b a.2.2.length/\True)<|lt (a.2.2.getD b.toNat (a6 y172)) fun c =>
 gd ((MD c.2.2.1).isSome/\True)<|lt (vl (MD c.2.2.1)) fun e =>
 gd ((G9 a.2.1).isSome/\True)<|lt (vl (G9 a.2.1)) fun d =>
 gd ((Y5 a.2.1 b).isSome/\True)<|lt (vl (Y5 a.2.1 b)) fun f =>
 lp (VH a d f c) (0,e)
def O0Y:Ct:=b9 226 [.agg j7,.dat i64] (fun x=>V6 x.1 x.2.1) (fun r:List Int=>AV.ow 2 true i64 r) (fun _=>())
theorem Ql:Ok prog O0Y:=by
 refine c8 [.tmp 4] func226 ?_;intro y ⟨g,u,_⟩ r H Q hn hr;have:=hz (tc M0O (tc GB (tc Y4 (tc VG tn))));refine iA [1,2]<|qD (fun b=>Z [p 1 (J u),p 2 (R 2),p 5 (R 5)] [(5,K 172 y172 b),(2,K 56 j7 g)]) H fun b H=>iD VG [1,2,5,6] H fun q H=>iD Y4 [1,2,5,6,7] H fun j H=>iD GB [2,5,6,7,8] H fun l H=>jN r (fun(a:List Int)=>Z [p 5 (R 5),p 6 (O 18)] [(18,A 2 i64 a 0),(5,K 172 y172 b)]) (ME b) (fun a H=>?_) (fun _ m E x=>?_)
 ·refine jN r (fun(d:List Int)=>Z [p 6 (O 18)] [(18,A 2 i64 d 0)]) (Qk) (fun d H=>?_) (fun _ w P F=>?_)
  ·refine iA [4]<|a7<|hr H
  refine iB [5,6,10] H fun H=>vB<|lX (fun((c,e):Int×List Int)=>Z [p 5 (R 5),p 6 (O 18),p 10 (I c)] [(18,A 2 i64 e 0),(5,K 172 y172 b)]) (((a.length:Int)-1,a)) H fun _ T t s G ⟨c,e⟩ H=>vQ<|iA [5,6,10,58]<|cD H (fun H=>vK<|fQ<|vQ<|vB<|zD (fun f=>Z [p 5 (R 5),p 6 (O 18),p 10 (I c)] [(18,A 2 i64 f 0),(5,K 172 y172 b)]) H fun f H=>fK<|fQ<|jB [5,6,10] H fun H=>t H) fun H=>vE<|fE<|s<|fX rfl<|w H
 refine iA [2,5,6,7,8,9]<|vB<|lX (fun((h,k):Int×List Int)=>Z [p 2 (R 2),p 5 (R 5),p 6 (O 18),p 7 (O 21),p 8 (O 25),p 9 (I h)] [(25,A 2 i64 l 0),(21,A 226 w8 j 0),(18,A 2 i64 k 0),(5,K 172 y172 b),(2,K 56 j7 g)]) (0,q) H fun _ V v n z ⟨h,k⟩ H=>vQ<|iA [2,5,6,7,8,9,29]<|cD H (fun H=>?_) (fun H=>?_)
 ·refine vK<|fQ<|vQ<|vB<|zD (fun(o,i)=>Z [p 2 (R 2),p 5 (R 5),p 6 (O 18),p 7 (O 21),p 8 (O 25),p 9 (I h)] [(18,A 2 i64 i 0),(25,A 2 i64 l 0),(21,A 226 w8 j 0),(5,K 172 y172 b),(2,K 56 j7 g)]) H fun⟨o,i⟩ H =>
   fK<|fQ <|
   jB [2,5,6,7,8,9] H fun H =>
   v H
 exact vE<|fE<|n<|fX rfl<|m H
def VI:List Int->Option (List Int)
 | a =>
 some a
def Qm(b:w9)(d:List Int)(e:Int×List Int->Option (List Int)):Int×List Int->Option (List Int)
 | (a,c) =>
 if(decide (a < (d.length:Int))) then
  gd (ix a b.1.length/\ix (b.1.getD a.toNat 0) c.length/\Int.toNat (b.1.getD a.toNat 0)<c.length/\ix a b.2.1.length/\ix a d.length/\a.toNat<d.length/\b7 (b.2.1.getD a.toNat 0*d.getD a.toNat 0)/\b7 (c.getD (Int.toNat (b.1.getD a.toNat 0)) 0+b.2.1.getD a.toNat 0*d.getD a.toNat 0)/\(c.length+[c.getD (Int.toNat (b.1.getD a.toNat 0)) 0+b.2.1.getD a.toNat 0*d.getD a.toNat 0].length<=9223372036854775807/\(c.length+[c.getD (Int.toNat (b.1.getD a.toNat 0)) 0+b.2.1.getD a.toNat 0*d.getD a.toNat 0].length)*8<=140737488355328)/\True)<|lt ((c++[c.getD (Int.toNat (b.1.getD a.toNat 0)) 0+b.2.1.getD a.toNat 0*d.getD a.toNat 0],[c.getD (Int.toNat (b.1.getD a.toNat 0)) 0+b.2.1.getD a.toNat 0*d.getD a.toNat 0])) fun(f,_) =>
  gd (b7 (a+1)/\True) <|
  e (a+1,f)
 else
  VI c
def Bj(a:j0)(b:Int):Option (List Int) :=
 gd (ix b a.2.2.length/\True)<|lt (a.2.2.getD b.toNat (a6 y172)) fun d =>
 gd ((V6 a b).isSome/\True)<|lt (vl (V6 a b)) fun c =>
 lp (Qm d c) (1,[0])
def O0W:Ct:=b9 228 [.agg j7,.dat i64] (fun x=>Bj x.1 x.2.1) (fun r:List Int=>AV.ow 2 true i64 r) (fun _=>())
theorem Qn:Ok prog O0W:=by
 refine c8 [.tmp 4] func228 ?_;intro y ⟨l,j,_⟩ r H Q hn hr;have:=hz (tc Ql tn);refine iA [1,2]<|qD (fun a=>Z [p 1 (J j),p 2 (R 2),p 5 (R 5)] [(5,K 172 y172 a),(2,K 56 j7 l)]) H fun a H=>iD Ql [5,6] H fun d H=>iA [5,6,7]<|jN r (fun(c:List Int)=>Z [p 7 (O 17)] [(17,A 2 i64 c 0)]) (VI) (fun c H=>?_) (fun _ h o q=>?_)
 ·refine iA [4]<|a7<|hr H
 refine iA [5,6,7,8]<|vB<|lX (fun((b,g):Int×List Int)=>Z [p 5 (R 5),p 6 (O 16),p 7 (O 17),p 8 (I b)] [(17,A 2 i64 g 0),(16,A 2 i64 d 0),(5,K 172 y172 a)]) (1,[0]) H fun _ n k i m ⟨b,g⟩ H=>vQ<|iA [5,6,7,8,21]<|cD H (fun H=>?_) (fun H=>?_)
 ·refine vK<|fQ<|vQ<|vB<|zD (fun(e,f)=>Z [p 5 (R 5),p 6 (O 16),p 7 (AV.os 17 1),p 8 (I b)] [(17,A 2 i64 e 1),(44,A 2 i64 f 0),(16,A 2 i64 d 0),(5,K 172 y172 a)]) H fun⟨e,f⟩ H =>
   fK<|fQ <|
   jB [5,6,7,8] H fun H =>
   k H
 exact vE<|fE<|i<|fX rfl<|h H
def IZ(d:j0)(c:Int)(f:Int)(a:Int)(e:Int):Option Int :=
 gd ((Bj d c).isSome/\ix c d.2.2.length/\ix f (d.2.2.getD c.toNat (a6 y172)).2.2.2.length/\ix ((d.2.2.getD c.toNat (a6 y172)).2.2.2.getD f.toNat 0) (vl (Bj d c)).length/\Int.toNat ((d.2.2.getD c.toNat (a6 y172)).2.2.2.getD f.toNat 0) < (vl (Bj d c)).length/\True)<|lt ((vl (Bj d c),(vl (Bj d c)).getD (Int.toNat ((d.2.2.getD c.toNat (a6 y172)).2.2.2.getD f.toNat 0)) 0)) fun(_,b) =>
 gd (b7 (1000000*a)/\b7 (1000000*a*a)/\b7 (4*b)/\b7 (4*b*b)/\b7 (1000000*a*a+4*b*b)/\(Bi (1000000*a*a+4*b*b) e).isSome/\(O2 (vl (Bi (1000000*a*a+4*b*b) e)) 1000 e).isSome/\True)<|lt (vl (O2 (vl (Bi (1000000*a*a+4*b*b) e)) 1000 e)) fun g =>
 some g
def P0A:Ct:=b9 193 [.agg j7,.dat i64,.dat i64,.dat i64,.dat i64] (fun x=>IZ x.1 x.2.1 x.2.2.1 x.2.2.2.1 x.2.2.2.2.1) (fun r:Int=>I r) (fun _=>())
theorem VJ:Ok prog P0A:=by
 refine c8 [.tmp 10] func193 ?_;intro y ⟨e,_,_,c,d,_⟩ r H Q hn hr;have:=hz (tc CP (tc M0W (tc Qn tn)));refine iA [1,2,3,4,5]<|qD (fun(b,a)=>Z [p 3 (J c),p 4 (J d),p 11 (I a)] [(14,A 2 i64 b 0),(5,K 56 j7 e)]) H fun⟨b,a⟩ H =>
  iD CP [10] H fun _ H =>
  a7<|hr H
def Ax(a:j0)(b:j2):Option Int :=
 gd ((G9 a.2.1).isSome/\(0:Int) < (2:Int)/\ix (b.2.1.tdiv (2:Int)) (vl (G9 a.2.1)).length/\(b.2.1.tdiv (2:Int)).toNat < (vl (G9 a.2.1)).length/\True)<|lt ((vl (G9 a.2.1),(vl (G9 a.2.1)).getD (b.2.1.tdiv 2).toNat (a6 w8))) fun(_,c) =>
 some c.2.2.1
def P0D:Ct:=b9 190 [.agg j7,.agg y138] (fun x=>Ax x.1 x.2.1) (fun r:Int=>I r) (fun _=>())
theorem VK:Ok prog P0D:=by
 refine c8 [.tmp 4] func190 ?_;intro y ⟨c,d,_⟩ r H Q hn hr;have:=hz (tc Y4 tn);refine iA [2,3]<|qD (fun(b,a)=>Z [p 4 (I a.2.2.1)] [(7,A 226 w8 b 0),(3,K 138 y138 d),(2,K 56 j7 c)]) H fun⟨b,a⟩ H =>
  a7<|hr H
def VL:Unit->Option (Int×Int×Int)
 | _ =>
 some (((0:Int),(1:Int),(0:Int)))
def BW(b:List Int)(c:Int)(d:Int->Option (Int×Int×Int)):Int->Option (Int×Int×Int)
 | a =>
 if(decide (0<=a)) then
  gd (ix a b.length/\True) <|
  if(c==b.getD a.toNat 0) then
   some ((a,(1:Int),(0:Int)))
  else
   gd (ix a b.length/\True) <|
   if(decide (b.getD a.toNat 0<c)) then
    gd (b7 (a+1)/\ix (a+1) b.length/\b7 (b.getD (a+1).toNat 0-c)/\ix a b.length/\b7 (c-b.getD a.toNat 0)/\True) <|
    some ((a,b.getD (a+1).toNat 0-c,c-b.getD a.toNat 0))
   else
    gd (b7 (a-1)/\True) <|
    d (a-1)
 else
  VL ()
def BX(a:List Int)(c:Int):Option (Int×Int×Int) :=
 gd (ix 0 a.length/\True) <|
 gd (b7 ((a.length:Int)-1)/\ix ((a.length:Int)-1) a.length/\True)<|lt (min (max c (a.getD (Int.toNat (0:Int)) (0:Int))) (a.getD ((a.length:Int)-(1:Int)).toNat (0:Int))) fun b =>
 gd (b7 ((a.length:Int)-1)/\True) <|
 lp (BW a b) ((a.length:Int)-1)
def O0X:Ct:=b9 227 [.dat i64.sl,.dat i64] (fun x=>BX x.1 x.2.1) (fun r:Int×Int×Int=>AV.tup [I r.1,I r.2.1,I r.2.2]) (fun _=>())
theorem Qo:Ok prog O0X:=by
 refine c8 [.tmp 4,.tmp 5,.tmp 6] func227 ?_;intro y ⟨a,_,_⟩ r H Q hn hr;refine iA [0,1]<|iA [0,1,7]<|iB [0,1,7] H fun H=>qD (fun b=>Z [p 0 (L i64 a),p 1 (I b),p 7 (I (a.length:Int))] []) H fun b H=>jN r (fun(_:Unit)=>Z [] []) (VL) (fun _ H=>?_) (fun _ f j e=>?_)
 ·refine iA [4,5,6]<|a7<|hr H
 refine iB [0,1,8] H fun H=>vB<|lX (fun(d:Int)=>Z [p 0 (L i64 a),p 1 (I b),p 8 (I d)] []) ((a.length:Int)-1) H fun _ i h g c d H=>vQ<|iA [0,1,8,26]<|cD H (fun H=>?_) (fun H=>?_)
 ·refine vK<|fQ<|vQ<|vB<|vQ<|iB [0,1,8,34] H fun H=>cD H (fun H=>iA [4,5,6]<|a7<|fR<|h9<|fR<|c<|h9<|e<|hr H) fun H=>vK<|fQ<|iB [0,1,8,41] H fun H=>cD H (fun H=>iB [4,5,6] H fun H=>a7<|h9<|fR<|c<|h9<|e<|hr H) fun H=>vK<|fK<|fQ<|jB [0,1,8] H fun H=>h H
 exact vE<|fE<|g<|fX rfl<|f H
def MF(b:Int×Int×Int)(a:Int×Int×Int)(e:Int):Int->Option Int
 | c =>
 gd (b7 (b.2.1+b.2.2)/\b7 (a.2.1+a.2.2)/\b7 ((b.2.1+b.2.2)*(a.2.1+a.2.2))/\(O2 c ((b.2.1+b.2.2)*(a.2.1+a.2.2)) e).isSome/\True)<|lt (vl (O2 c ((b.2.1+b.2.2)*(a.2.1+a.2.2)) e)) fun d =>
 some d
def Qp(a:Int)(c:Int×Int->Option Int):Int->Option Int
 | b =>
 gd (b7 (a+1)/\True) <|
 c (b,a+1)
def GD(a:Int)(c:Int×Int->Option Int):Int->Option Int
 | b =>
 gd (b7 (a+1)/\True) <|
 c (b,a+1)
def BY(b:Int)(f:Int)(c:m4)(e:Int×Int×Int)(a:Int)(g:Int×Int×Int)(i:Int×Int->Option Int):Int->Option Int
 | d =>
 if(decide (0<d)) then
  gd (b7 (e.1+a)/\b7 ((e.1+a)*(c.2.1.length:Int))/\b7 ((e.1+a)*(c.2.1.length:Int)+g.1)/\b7 ((e.1+a)*(c.2.1.length:Int)+g.1+b)/\ix ((e.1+a)*(c.2.1.length:Int)+g.1+b) c.2.2.length/\b7 (d*c.2.2.getD ((e.1+a)*(c.2.1.length:Int)+g.1+b).toNat 0)/\b7 (f+d*c.2.2.getD ((e.1+a)*(c.2.1.length:Int)+g.1+b).toNat 0)/\True)<|lt (f+d*c.2.2.getD ((e.1+a)*(c.2.1.length:Int)+g.1+b).toNat 0) fun h =>
  GD b i h
 else
  GD b i f
def Ja(b:Int)(d:Int)(h:m4)(f:Int×Int×Int)(e:Int)(c:Int×Int×Int)(g:Int×Int->Option Int):Int->Option Int
 | a =>
 if(b==0) then
  gd (b7 (a*c.2.1)/\True) <|
  BY b d h f e c g (a*c.2.1)
 else
  gd (b7 (a*c.2.2)/\True) <|
  BY b d h f e c g (a*c.2.2)
def DS(g:m4)(d:Int×Int×Int)(a:Int)(e:Int×Int×Int)(h:Int×Int->Option Int)(f:Int×Int->Option Int):Int×Int->Option Int
 | (c,b) =>
 if(decide (b<2)) then
  if(a==1) then
   Ja b c g d a e f d.2.2
  else
   Ja b c g d a e f d.2.1
 else
  Qp a h c
def GF(g:m4)(d:Int×Int×Int)(c:Int×Int×Int)(e:Int)(f:Int×Int->Option Int):Int×Int->Option Int
 | (a,b) =>
 if(decide (b<2)) then
  lp (DS g d b c f) (a,0)
 else
  MF d c e a
def Ay(a:m4)(b:Int)(c:Int)(d:Int):Option Int :=
 gd ((BX a.1 b).isSome/\True)<|lt (vl (BX a.1 b)) fun f =>
 gd ((BX a.2.1 c).isSome/\True)<|lt (vl (BX a.2.1 c)) fun e =>
 lp (GF a f e d) (0,0)
def P0F:Ct:=b9 188 [.agg y269,.dat i64,.dat i64,.dat i64] (fun x=>Ay x.1 x.2.1 x.2.2.1 x.2.2.2.1) (fun r:Int=>I r) (fun _=>())
theorem MG:Ok prog P0F:=by
 refine c8 [.tmp 8] func188 ?_;intro y ⟨e,_,_,g,_⟩ r H Q hn hr;have:=hz (tc CP (tc Qo tn));refine iA [1,2,3,4]<|iD Qo [2,3,4,9,10,11] H fun b H=>iD Qo [3,4,9,10,11,12,13,14] H fun a H=>iA [3,4,9,10,11,12,13,14,15]<|iA [3,4,9,10,11,12,13,14,15,16]<|jN r (fun(l:Int)=>Z [p 3 (J g),p 10 (I b.2.1),p 11 (I b.2.2),p 13 (I a.2.1),p 14 (I a.2.2),p 16 (I l)] []) (MF b a g) (fun l H=>?_) (fun _ u V P=>?_)
 ·refine iD CP [8] H fun _ H=>a7<|hr H
 refine iA [3,4,9,10,11,12,13,14,15,16,17]<|vB<|lX (fun((h,c):Int×Int)=>Z (G2 g b.1 b.2.1 b.2.2 a.1 a.2.1 a.2.2 (e.2.1.length:Int) h [p 17 (I c)]) [(4,K 269 y269 e)]) (0,0) H fun _ z E v T ⟨h,c⟩ H=>vQ<|iA [3,4,9,10,11,12,13,14,15,16,17,40]<|cD H (fun H=>?_) (fun H=>?_)
 ·refine vK<|fQ<|jN r (fun(m:Int)=>Z (G2 g b.1 b.2.1 b.2.2 a.1 a.2.1 a.2.2 (e.2.1.length:Int) m [p 17 (I c)]) [(4,K 269 y269 e)]) (Qp c z) (fun m H=>?_) (fun _ F e2 Y=>?_)
  ·refine jB [3,4,9,10,11,12,13,14,15,16,17] H fun H=>E H
  refine vB<|iA [3,4,9,10,11,12,13,14,15,16,17,18]<|vB<|lX (fun((f,d):Int×Int)=>Z (G2 g b.1 b.2.1 b.2.2 a.1 a.2.1 a.2.2 (e.2.1.length:Int) f [p 17 (I c),p 18 (I d)]) [(4,K 269 y269 e)]) (h,0) H fun _ o x w t3 ⟨f,d⟩ H=>vQ<|iA [3,4,9,10,11,12,13,14,15,16,17,18,44]<|cD H (fun H=>?_) (fun H=>?_)
  ·refine vK<|fQ<|jN r (fun(j:Int)=>Z (G2 g b.1 b.2.1 b.2.2 a.1 a.2.1 a.2.2 (e.2.1.length:Int) j [p 17 (I c),p 18 (I d)]) [(4,K 269 y269 e)]) (GD d o) (fun j H=>?_) (fun _ q G X=>?_)
   ·refine jB [3,4,9,10,11,12,13,14,15,16,17,18] H fun H=>x H
   refine vB<|iA [3,4,9,10,11,12,13,14,15,16,17,18,19]<|jN r (fun(i:Int)=>Z (G2 g b.1 b.2.1 b.2.2 a.1 a.2.1 a.2.2 (e.2.1.length:Int) f [p 17 (I c),p 18 (I d),p 19 (I i)]) [(4,K 269 y269 e)]) (Ja d f e b c a o) (fun i H=>?_) (fun _ t e5 t5=>?_)
   ·refine jN r (fun(n:Int)=>Z (G2 g b.1 b.2.1 b.2.2 a.1 a.2.1 a.2.2 (e.2.1.length:Int) f [p 17 (I c),p 18 (I d),p 19 (I n)]) [(4,K 269 y269 e)]) (BY d f e b c a o) (fun n H=>?_) (fun _ s W t6=>?_)
    ·refine iA [3,4,9,10,11,12,13,14,15,16,17,18,19,60]<|cD H (fun H=>zD (fun k=>Z (G2 g b.1 b.2.1 b.2.2 a.1 a.2.1 a.2.2 (e.2.1.length:Int) k [p 17 (I c),p 18 (I d)]) [(4,K 269 y269 e)]) H fun k H=>fK<|q H) fun H=>vK<|fK<|q H
    refine iA [3,4,9,10,11,12,13,14,15,16,17,18,19,52]<|cD H (fun H=>jB [3,4,9,10,11,12,13,14,15,16,17,18,19] H fun H=>s H) fun H=>jB [3,4,9,10,11,12,13,14,15,16,17,18,19] H fun H=>s H
   refine iA [3,4,9,10,11,12,13,14,15,16,17,18,19,49]<|cD H (fun H=>jA [3,4,9,10,11,12,13,14,15,16,17,18,19]<|t H) fun H=>vK<|t H
  exact vE<|fE<|w<|fX rfl<|fK<|F H
 exact vE<|fE<|v<|fX rfl<|u H
def DT(a:j0)(c:j2):Option (r7×Int) :=
 gd ((G9 a.2.1).isSome/\(0:Int) < (2:Int)/\ix (c.2.1.tdiv (2:Int)) (vl (G9 a.2.1)).length/\(c.2.1.tdiv (2:Int)).toNat < (vl (G9 a.2.1)).length/\True)<|lt ((vl (G9 a.2.1),(vl (G9 a.2.1)).getD (c.2.1.tdiv 2).toNat (a6 w8))) fun(_,b) =>
 gd (ix b.1 a.2.1.1.length/\ix (a.2.1.1.getD b.1.toNat (a6 y155)).2.1 a.1.length/\ix c.2.2.2 (a.1.getD (a.2.1.1.getD b.1.toNat (a6 y155)).2.1.toNat (a6 y153)).2.2.2.1.length/\(V6 a b.2.2.1).isSome/\ix (0:Int) (vl (V6 a b.2.2.1)).length/\Int.toNat (0:Int) < (vl (V6 a b.2.2.1)).length/\True)<|lt ((vl (V6 a b.2.2.1),(a.1.getD (a.2.1.1.getD b.1.toNat (a6 y155)).2.1.toNat (a6 y153)).2.2.2.1.getD c.2.2.2.toNat (a6 y158))) fun(d,e) =>
 some ((e,d.getD (Int.toNat (0:Int)) (0:Int)))
def P0G:Ct:=b9 187 [.agg j7,.agg y138] (fun x=>DT x.1 x.2.1) (fun r:r7×Int=>AV.tup [AV.agg [I r.1.1,I r.1.2.1,I r.1.2.2.1,I r.1.2.2.2.1,L y269 r.1.2.2.2.2.1,L y269 r.1.2.2.2.2.2],I r.2]) (fun _=>())
theorem MH:Ok prog P0G:=by
 refine c8 [.cell 4 158,.tmp 5] func187 ?_;intro y ⟨f,d,_⟩ r H Q hn hr;have:=hz (tc Ql (tc Y4 tn));refine iA [2,3,4]<|qD (fun(c,b)=>Z (Y1 [p 4 (R 4),p 6 (R 6)]) [(6,bx 226 (s5 true w8 b)),(9,A 226 w8 c 0),(4,bx 158 [I 0,I 0,I 0,I 0,nil,nil]),(3,K 138 y138 d),(2,K 56 j7 f)]) H fun⟨c,b⟩ H =>
  qD (fun(a,e)=>Z [p 4 (R 4),p 5 (I (a.getD (Int.toNat (0:Int)) (0:Int)))] [(4,K 158 y158 e),(36,A 2 i64 a 0),(6,bx 226 (s5 true w8 b)),(9,A 226 w8 c 0),(3,K 138 y138 d),(2,K 56 j7 f)]) H fun⟨a,e⟩ H =>
  a7<|hr H
def Y6(b:j0)(a:j2)(e:Int)(d:Int):Option Int :=
 if(a.2.2.1==1) then
  gd ((DT b a).isSome/\True)<|lt (vl (DT b a)) fun c =>
  gd ((0:Int) < (2:Int)/\ix (a.2.1.tmod (2:Int)) c.1.2.2.2.2.2.length/\(Ay (c.1.2.2.2.2.2.getD (a.2.1.tmod (2:Int)).toNat (a6 y269)) e c.2 d).isSome/\True)<|lt (vl (Ay (c.1.2.2.2.2.2.getD (a.2.1.tmod 2).toNat (a6 y269)) e c.2 d)) fun g =>
  some g
 else
  gd ((Ax b a).isSome/\(IZ b (vl (Ax b a)) a.2.2.2 e d).isSome/\True)<|lt (vl (IZ b (vl (Ax b a)) a.2.2.2 e d)) fun f =>
  some (min 1000000 f)
def Q0t:Ct:=b9 143 [.agg j7,.agg y138,.dat i64,.dat i64] (fun x=>Y6 x.1 x.2.1 x.2.2.1 x.2.2.2.1) (fun r:Int=>I r) (fun _=>())
theorem Qq:Ok prog Q0t:=by
 refine c8 [.tmp 8] func143 ?_;intro y ⟨_,_,_,_,_⟩ r H Q hn hr;have:=hz (tc VJ (tc VK (tc MG (tc MH tn))));refine iA [2,3,4,5]<|vQ<|iA [2,3,4,5,13]<|cD H (fun H=>iD MH [2,3,5,9,10] H fun _ H=>iD MG [8] H fun _ H=>a7<|fR<|hr H) fun H=>vK<|fQ<|iD VJ [8] H fun _ H=>a7<|hr H
def DU(a:p7)(c:Int)(b:Int):Option Int :=
 if(c==1) then
  if(b==0) then
   some a.2.1
  else
   some a.2.2.1
 else
  if(b==0) then
   some a.2.2.2.1
  else
   some a.2.2.2.2
def P0B:Ct:=b9 192 [.agg u5,.dat i64,.dat i64] (fun x=>DU x.1 x.2.1 x.2.2.1) (fun r:Int=>I r) (fun _=>())
theorem N0j:Ok prog P0B:=by
 refine c8 [.tmp 6] func192 ?_;intro y ⟨_,_,_,_⟩ r H Q hn hr;refine iA [1,2,3]<|vQ<|iA [2,3,8]<|cD H (fun H=>?_) (fun H=>?_)
 ·refine vQ<|iA [3,10]<|cD H (fun H=>iA [6]<|a7<|fR<|fR<|hr H) fun H=>vK<|fQ<|iA [6]<|a7<|fR<|hr H
 refine vK<|fQ<|vQ<|iA [3,16]<|cD H (fun H=>iA [6]<|a7<|fR<|hr H) fun H=>vK<|fQ<|iA [6]<|a7<|hr H
def VM:List Int->Option (List Int)
 | a =>
 some a
def VN(d:List Int)(c:j0)(b:Int)(e:Int)(h:Int×List Int->Option (List Int)):Int×List Int->Option (List Int)
 | (a,f) =>
 gd (ix b c.2.2.length/\True) <|
 if(decide (a < (↑(c.2.2.getD b.toNat (a6 y172)).2.2.2.length:Int))) then
  gd (ix b c.2.2.length/\ix a (c.2.2.getD b.toNat (a6 y172)).2.2.2.length/\ix ((c.2.2.getD b.toNat (a6 y172)).2.2.2.getD a.toNat 0) d.length/\Int.toNat ((c.2.2.getD b.toNat (a6 y172)).2.2.2.getD a.toNat 0)<d.length/\(O2 (d.getD (Int.toNat ((c.2.2.getD b.toNat (a6 y172)).2.2.2.getD a.toNat 0)) 0) 1000 e).isSome/\(f.length+[vl (O2 (d.getD (Int.toNat ((c.2.2.getD b.toNat (a6 y172)).2.2.2.getD a.toNat 0)) 0) 1000 e)].length<=9223372036854775807/\(f.length+[vl (O2 (d.getD (Int.toNat ((c.2.2.getD b.toNat (a6 y172)).2.2.2.getD a.toNat 0)) 0) 1000 e)].length)*8<=140737488355328)/\True)<|lt (vl (O2 (d.getD (Int.toNat ((c.2.2.getD b.toNat (a6 y172)).2.2.2.getD a.toNat 0)) 0) 1000 e)) fun g =>
  gd (b7 (a+1)/\True) <|
  h (a+1,f++[g])
 else
  VM f
def DV(a:j0)(b:Int)(c:Int):Option (List Int) :=
 gd ((Bj a b).isSome/\True)<|lt (vl (Bj a b)) fun d =>
 lp (VN d a b c) (0,[])
def P0E:Ct:=b9 189 [.agg j7,.dat i64,.dat i64] (fun x=>DV x.1 x.2.1 x.2.2.1) (fun r:List Int=>AV.ow 2 true i64 r) (fun _=>())
theorem VP:Ok prog P0E:=by
 refine c8 [.tmp 6] func189 ?_;intro y ⟨j,f,h,_⟩ r H Q hn hr;have:=hz (tc CP (tc Qn tn));refine iA [1,2,3]<|iD Qn [1,2,3,7] H fun i H=>iA [1,2,3,7,8]<|jN r (fun(c:List Int)=>Z [p 8 (O 13)] [(13,A 2 i64 c 0)]) (VM) (fun c H=>?_) (fun _ d m n=>?_)
 ·refine iA [6]<|a7<|hr H
 refine iA [1,2,3,7,8,9]<|vB<|lX (fun((a,b):Int×List Int)=>Z [p 1 (J f),p 2 (J h),p 3 (R 3),p 7 (O 12),p 8 (O 13),p 9 (I a)] [(13,A 2 i64 b 0),(12,A 2 i64 i 0),(3,K 56 j7 j)]) (0,[]) H fun _ l g e k ⟨a,b⟩ H=>vQ<|iB [1,2,3,7,8,9,22] H fun H=>cD H (fun H=>vK<|fQ<|vQ<|vB<|jD CP [1,2,3,7,8,9] H fun _ H=>fK<|fQ<|jB [1,2,3,7,8,9] H fun H=>g H) fun H=>vE<|fE<|e<|fX rfl<|d H
def GG(b:p7)(c:j2)(a:Int):Int->Option Int
 | d =>
 gd ((DU b c.2.2.1 a).isSome/\b7 (d*vl (DU b c.2.2.1 a))/\(O2 (d*vl (DU b c.2.2.1 a)) 1000 a).isSome/\True)<|lt (vl (O2 (d*vl (DU b c.2.2.1 a)) 1000 a)) fun e =>
 some e
def Y7(b:j0)(f:p7)(a:j2)(e:Int)(c:Int):Option Int :=
 if(a.2.2.1==1) then
  gd ((DT b a).isSome/\True)<|lt (vl (DT b a)) fun d =>
  gd ((0:Int) < (2:Int)/\ix (a.2.1.tmod (2:Int)) d.1.2.2.2.2.1.length/\(Ay (d.1.2.2.2.2.1.getD (a.2.1.tmod (2:Int)).toNat (a6 y269)) e d.2 c).isSome/\True)<|lt (vl (Ay (d.1.2.2.2.2.1.getD (a.2.1.tmod 2).toNat (a6 y269)) e d.2 c)) fun h =>
  GG f a c h
 else
  gd ((Ax b a).isSome/\(DV b (vl (Ax b a)) c).isSome/\ix a.2.2.2 (vl (DV b (vl (Ax b a)) c)).length/\a.2.2.2.toNat < (vl (DV b (vl (Ax b a)) c)).length/\True)<|lt (vl (DV b (vl (Ax b a)) c)) fun g =>
  GG f a c (g.getD a.2.2.2.toNat 0)
def Q0u:Ct:=b9 142 [.agg j7,.agg u5,.agg y138,.dat i64,.dat i64] (fun x=>Y7 x.1 x.2.1 x.2.2.1 x.2.2.2.1 x.2.2.2.2.1) (fun r:Int=>I r) (fun _=>())
theorem Qr:Ok prog Q0u:=by
 refine c8 [.tmp 10] func142 ?_;intro y ⟨_,c,d,_,b,_⟩ r H Q hn hr;have:=hz (tc CP (tc N0j (tc VP (tc VK (tc MG (tc MH tn))))));refine iA [3,4,5,6,7]<|iA [3,4,5,6,7]<|jN r (fun(e:Int)=>Z [p 4 (J b),p 6 (R 6),p 7 (R 7),p 11 (I e)] [(7,K 138 y138 d),(6,K 58 u5 c)]) (GG c d b) (fun e H=>?_) (fun _ a f g=>?_)
 ·refine iD CP [10] H fun _ H=>a7<|hr H
 refine iA [3,4,5,6,7,16]<|cD H (fun H=>iD MH [3,4,6,7,12,13] H fun _ H=>jD MG [4,6,7,11] H fun _ H=>a H) fun H=>jD VP [4,6,7,11] H fun _ H=>a H
def GH(c:j0)(d:p7)(b:j2)(a:q7):Option (q7×q7) :=
 gd ((Y7 c d b a.1 0).isSome/\(Y7 c d b a.1 1).isSome/\True)<|lt ((vl (Y7 c d b a.1 0),vl (Y7 c d b a.1 1))) fun(l,h) =>
 gd ((Y6 c b a.1 0).isSome/\(Y6 c b a.1 1).isSome/\True)<|lt ((vl (Y6 c b a.1 0),vl (Y6 c b a.1 1))) fun(e,j) =>
 gd ((Y7 c d b a.2 0).isSome/\True)<|lt (vl (Y7 c d b a.2 0)) fun f =>
 gd ((Y7 c d b a.2 1).isSome/\True)<|lt (vl (Y7 c d b a.2 1)) fun k =>
 gd ((Y6 c b a.2 0).isSome/\True)<|lt (vl (Y6 c b a.2 0)) fun i =>
 gd ((Y6 c b a.2 1).isSome/\True)<|lt (vl (Y6 c b a.2 1)) fun g =>
 some (((min l f,max h k),min e i,max j g))
def k92:Ct:=b9 92 [.agg j7,.agg u5,.agg y138,.agg y73] (fun x=>GH x.1 x.2.1 x.2.2.1 x.2.2.2.1) (fun r:q7×q7=>AV.tup [AV.agg [I r.1.1,I r.1.2],AV.agg [I r.2.1,I r.2.2]]) (fun _=>())
theorem VQ:Ok prog k92:=by
 refine c8 [.cell 8 73,.cell 9 73] func92 ?_;intro y ⟨h,e,f,d,_⟩ r H Q hn hr;have:=hz (tc Qq (tc Qr tn));refine iA [4,5,6,7,8,9]<|qD (fun(b,a)=>Z [p 4 (R 4),p 5 (R 5),p 6 (R 6),p 7 (R 7),p 8 (R 8),p 9 (R 9),p 10 (R 10)] [(10,bx 73 [I b,I a]),(9,bx 73 [I 0,I 0]),(8,bx 73 [I 0,I 0]),(7,K 73 y73 d),(6,K 138 y138 f),(5,K 58 u5 e),(4,K 56 j7 h)]) H fun⟨b,a⟩ H =>
  qD (fun(c,g)=>Z [p 4 (R 4),p 5 (R 5),p 6 (R 6),p 7 (R 7),p 8 (R 8),p 9 (R 9),p 10 (R 10),p 11 (R 11)] [(11,bx 73 [I c,I g]),(10,bx 73 [I b,I a]),(9,bx 73 [I 0,I 0]),(8,bx 73 [I 0,I 0]),(7,K 73 y73 d),(6,K 138 y138 f),(5,K 58 u5 e),(4,K 56 j7 h)]) H fun⟨c,g⟩ H =>
  iD Qr [4,5,6,7,8,9,10,11] H fun _ H =>
  iD Qr [4,6,7,8,9,10,11] H fun _ H =>
  iD Qq [4,6,7,8,9,10,11] H fun _ H =>
  iD Qq [8,9,10,11] H fun _ H =>
  iA [8,9] <|
  a7<|hr H
def m7(a:Int)(b:Int)(c:Int):Option Bool :=
 some (decide (b<=a)&&decide (a<=c))
def k59:Ct:=b9 59 [.dat i64,.dat i64,.dat i64] (fun x=>m7 x.1 x.2.1 x.2.2.1) (fun r:Bool=>B r) (fun _=>())
theorem Y8:Ok prog k59:=by
 refine c8 [.tmp 6] func59 ?_;intro y ⟨_,_,_,_⟩ r H Q hn hr;refine iA [0,1,2]<|iA [6]<|a7<|hr H
def L5(a:j0):Option Int :=
 gd ((G9 a.2.1).isSome/\b7 (2*(↑(vl (G9 a.2.1)).length:Int))/\True)<|lt (vl (G9 a.2.1)) fun b =>
 some (2*(b.length:Int))
def k60:Ct:=b9 60 [.agg j7] (fun x=>L5 x.1) (fun r:Int=>I r) (fun _=>())
theorem Jb:Ok prog k60:=by
 refine c8 [.tmp 2] func60 ?_;intro y ⟨_,_⟩ r H Q hn hr;have:=hz (tc Y4 tn);refine iA [1]<|iD Y4 [2] H fun _ H=>a7<|hr H
def VR:Unit->Option Bool
 | _ =>
 some false
def VS(b:List Int)(d:Int)(c:Int->Option Bool):Int->Option Bool
 | a =>
 if(decide (a < (b.length:Int))) then
  gd (ix a b.length/\True) <|
  if(b.getD a.toNat 0==d) then
   some true
  else
   gd (b7 (a+1)/\True) <|
   c (a+1)
 else
  VR ()
def GI(b:List Int)(a:Int):Option Bool :=
 lp (VS b a) 0
def k93:Ct:=b9 93 [.dat i64.sl,.dat i64] (fun x=>GI x.1 x.2.1) (fun r:Bool=>B r) (fun _=>())
theorem o93:Ok prog k93:=by
 refine c8 [.tmp 4] func93 ?_;intro y ⟨h,e,_⟩ r H Q hn hr;refine iA [0,1]<|jN r (fun(_:Unit)=>Z [] []) (VR) (fun _ H=>?_) (fun _ b j g=>?_)
 ·refine iA [4]<|a7<|hr H
 refine iA [0,1,5]<|vB<|lX (fun(a:Int)=>Z [p 0 (L i64 h),p 1 (J e),p 5 (I a)] []) 0 H fun _ i f c d a H=>vQ<|iA [0,1,5,9]<|cD H (fun H=>?_) (fun H=>?_)
 ·refine vK<|fQ<|vQ<|vB<|iB [0,1,5,17] H fun H=>cD H (fun H=>iA [4]<|a7<|h9<|fR<|d<|h9<|g<|hr H) fun H=>vK<|fK<|fQ<|jB [0,1,5] H fun H=>f H
 exact vE<|fE<|c<|fX rfl<|b H
def VT:List Bool->Option (List Bool)
 | a =>
 some a
def VU(b:List Int)(e:List j2)(d:Int×List Bool->Option (List Bool)):Int×List Bool->Option (List Bool)
 | (a,c) =>
 if(decide (a < (e.length:Int))) then
  gd ((GI b a).isSome/\(c.length+[!vl (GI b a)].length<=9223372036854775807/\(c.length+[!vl (GI b a)].length)*1<=140737488355328)/\True) <|
  gd (b7 (a+1)/\True) <|
  d ((a+1,c++[!vl (GI b a)]))
 else
  VT c
def Bk(b:List j2)(a:List Int):Option (List Bool) :=
 lp (VU a b) (0,[])
def k44:Ct:=b9 44 [.dat y138.sl,.dat i64.sl] (fun x=>Bk x.1 x.2.1) (fun r:List Bool=>AV.ow 4 true Ty.bool r) (fun _=>())
theorem VV:Ok prog k44:=by
 refine c8 [.tmp 4] func44 ?_;intro y ⟨h,f,_⟩ r H Q hn hr;have:=hz (tc o93 tn);refine iA [0,1]<|iA [0,1,5]<|jN r (fun(a:List Bool)=>Z [p 5 (O 7)] [(7,A 4 Ty.bool a 0)]) (VT) (fun a H=>?_) (fun _ d k l=>?_)
 ·refine iA [4]<|a7<|hr H
 refine iA [0,1,5,6]<|vB<|lX (fun((c,b):Int×List Bool)=>Z [p 0 (L y138 h),p 1 (L i64 f),p 5 (O 7),p 6 (I c)] [(7,A 4 Ty.bool b 0)]) (0,[]) H fun _ j g e i ⟨c,b⟩ H=>vQ<|iA [0,1,5,6,11]<|cD H (fun H=>vK<|fQ<|vQ<|vB<|jB [0,1,5,6] H fun H=>fK<|fQ<|jB [0,1,5,6] H fun H=>g H) fun H=>vE<|fE<|e<|fX rfl<|d H
def CQ(g:List j2)(a:Int)(b:Int)(c:Int)(d:Int)(f:Int)(e:Int):Option (List j2) :=
 gd (b7 (2*a)/\b7 (2*a+c)/\b7 (2*b)/\b7 (2*b+d)/\(g.length+[(2*a+c,2*b+d,f,e)].length<=9223372036854775807/\(g.length+[(2*a+c,2*b+d,f,e)].length)*32<=140737488355328)/\True) <|
 some (g++[(2*a+c,2*b+d,f,e)])
def k90:Ct:=b9 90 [.os 138 y138,.dat i64,.dat i64,.dat i64,.dat i64,.dat i64,.dat i64] (fun x=>CQ x.1 x.2.1 x.2.2.1 x.2.2.2.1 x.2.2.2.2.1 x.2.2.2.2.2.1 x.2.2.2.2.2.2.1) (fun r:List j2=>AV.ow 138 true y138 r) (fun _=>())
theorem Jc:Ok prog k90:=by
 refine c8 [.tmp 14] func90 ?_;intro y ⟨_,_,_,_,_,_,_,_⟩ r H Q hn hr;refine iA [0,1,2,3,4,5,6]<|iB [14] H fun H=>a7<|hr H
def VW:Unit->Option Int
 | _ =>
 some (-1)
def VY(b:List z6)(c:Int)(d:Int->Option Int):Int->Option Int
 | a =>
 if(decide (a < (b.length:Int))) then
  gd (ix a b.length/\a.toNat<b.length/\(((b.getD a.toNat (a6 w8)).2.2.1==c)=true/\True->ix a b.length)/\(((b.getD a.toNat (a6 w8)).2.2.1==c)=true/\True->a.toNat<b.length)/\True) <|
  if((b.getD a.toNat (a6 w8)).2.2.1==c&&(b.getD a.toNat (a6 w8)).2.2.2) then
   some a
  else
   gd (b7 (a+1)/\True) <|
   d (a+1)
 else
  VW ()
def Jd(a:m6)(c:Int):Option Int :=
 gd ((G9 a).isSome/\True)<|lt (vl (G9 a)) fun b =>
 lp (VY b c) 0
def k88:Ct:=b9 88 [.agg y53,.dat i64] (fun x=>Jd x.1 x.2.1) (fun r:Int=>I r) (fun _=>())
theorem VZ:Ok prog k88:=by
 refine c8 [.tmp 4] func88 ?_;intro y ⟨_,e,_⟩ r H Q hn hr;have:=hz (tc Y4 tn);refine iA [1,2]<|iD Y4 [1,5] H fun h H=>jN r (fun(_:Unit)=>Z [] []) (VW) (fun _ H=>?_) (fun _ b j g=>?_)
 ·refine iA [4]<|a7<|hr H
 refine iA [1,5,6]<|vB<|lX (fun(a:Int)=>Z [p 1 (J e),p 5 (O 8),p 6 (I a)] [(8,A 226 w8 h 0)]) 0 H fun _ i f c d a H=>vQ<|iA [1,5,6,12]<|cD H (fun H=>?_) (fun H=>?_)
 ·refine vK<|fQ<|vQ<|vB<|iB [1,5,6,28] H fun H=>cD H (fun H=>iA [4]<|a7<|h9<|fR<|d<|h9<|g<|hr H) fun H=>vK<|fK<|fQ<|jB [1,5,6] H fun H=>f H
 exact vE<|fE<|c<|fX rfl<|b H
def Wa:List j2->Option (List j2)
 | a =>
 some a
def Qs(b:Int)(c:Int×List j2->Option (List j2)):List j2->Option (List j2)
 | a =>
 gd (b7 (b+1)/\True) <|
 c (b+1,a)
def MI(a:Int)(c:Int×List j2->Option (List j2)):List j2->Option (List j2)
 | b =>
 gd (b7 (a+1)/\True) <|
 c (a+1,b)
def CR(a:Int)(b:List j2)(h:Int)(e:Int)(f:Int)(g:Int)(i:Int×List j2->Option (List j2)):Bool->Option (List j2)
 | d =>
 if d then
  gd ((CQ b h e f a 1 g).isSome/\True)<|lt (vl (CQ b h e f a 1 g)) fun c =>
  MI a i c
 else
  MI a i b
def Qt(g:Int)(e:Int)(c:Int)(f:Int)(d:r7)(i:Int×List j2->Option (List j2))(h:Int×List j2->Option (List j2)):Int×List j2->Option (List j2)
 | (a,b) =>
 if(decide (a<=1)) then
  if(d.1==1) then
   CR a b g e c f h (d.2.2.2.1==3||(d.2.2.2.1==1)==(c==a))
  else
   if(d.1==2) then
    CR a b g e c f h (c==0)
   else
    if(d.1==3) then
     CR a b g e c f h (c==1)
    else
     CR a b g e c f h false
 else
  Qs c i b
def MJ(g:Int)(c:Int)(d:Int)(f:r7)(e:Int×List j2->Option (List j2)):Int×List j2->Option (List j2)
 | (b,a) =>
 if(decide (b<=1)) then
  lp (Qt g c b d f e) (0,a)
 else
  Wa a
def DW(e:List j2)(c:r7)(d:Int)(a:Int)(b:Int):Option (List j2) :=
 lp (MJ d a b c) (0,e)
def k86:Ct:=b9 86 [.os 138 y138,.agg y158,.dat i64,.dat i64,.dat i64] (fun x=>DW x.1 x.2.1 x.2.2.1 x.2.2.2.1 x.2.2.2.2.1) (fun r:List j2=>AV.ow 138 true y138 r) (fun _=>())
theorem Wb:Ok prog k86:=by
 refine c8 [.tmp 10] func86 ?_;intro y ⟨u,l,e,f,g,_⟩ r H Q hn hr;have:=hz (tc Jc tn);refine iA [0,2,3,4,6]<|jN r (fun(h:List j2)=>Z [p 0 (O 500000)] [(500000,A 138 y138 h 0)]) (Wa) (fun h H=>?_) (fun _ q P F=>?_)
 ·refine iA [10]<|a7<|hr H
 refine iA [0,2,3,4,6,11]<|vB<|lX (fun((c,d):Int×List j2)=>Z (IA e f g c []) [(6,K 158 y158 l),(500000,A 138 y138 d 0)]) (0,u) H fun _ w x s G ⟨c,d⟩ H=>vQ<|iA [0,2,3,4,6,11,15]<|cD H (fun H=>?_) (fun H=>?_)
 ·refine vK<|fQ<|jN r (fun(i:List j2)=>Z (IA e f g c []) [(6,K 158 y158 l),(500000,A 138 y138 i 0)]) (Qs c w) (fun i H=>?_) (fun _ z X V=>?_)
  ·refine jB [0,2,3,4,6,11] H fun H=>x H
  refine vB<|iA [0,2,3,4,6,11,12]<|vB<|lX (fun((a,b):Int×List j2)=>Z (IA e f g c [p 12 (I a)]) [(6,K 158 y158 l),(500000,A 138 y138 b 0)]) (0,d) H fun _ o v t W ⟨a,b⟩ H=>vQ<|iA [0,2,3,4,6,11,12,19]<|cD H (fun H=>?_) (fun H=>?_)
  ·refine vK<|fQ<|jN r (fun(j:List j2)=>Z (IA e f g c [p 12 (I a)]) [(500000,A 138 y138 j 0),(6,K 158 y158 l)]) (MI a o) (fun j H=>?_) (fun _ n E T=>?_)
   ·refine jB [0,2,3,4,6,11,12] H fun H=>v H
   refine vB<|iA [0,2,3,4,6,11,12,13]<|jN r (fun(k:Bool)=>Z (IA e f g c [p 12 (I a),p 13 (B k)]) [(6,K 158 y158 l),(500000,A 138 y138 b 0)]) (CR a b e f c g o) (fun k H=>?_) (fun _ m Y t5=>?_)
   ·refine iA [0,2,3,4,6,11,12,46]<|cD H (fun H=>jD Jc [0,2,3,4,6,11,12] H fun _ H=>fK<|n H) fun H=>vK<|fK<|n H
   refine iA [0,2,3,4,6,11,12,13,23]<|vB<|iA [0,2,3,4,6,11,12,13,23,24]<|cD H (fun H=>jA [0,2,3,4,6,11,12,13]<|fK<|m H) fun H=>iA [0,2,3,4,6,11,12,13,23,38]<|cD H (fun H=>jA [0,2,3,4,6,11,12,13]<|fK<|m H) fun H=>iA [0,2,3,4,6,11,12,13,42]<|cD H (fun H=>jA [0,2,3,4,6,11,12,13]<|fK<|m H) fun H=>vK<|fK<|m H
  exact vE<|fE<|t<|fX rfl<|fK<|z H
 exact vE<|fE<|s<|fX rfl<|q H
def Wc:Unit->Option Int
 | _ =>
 some (-1)
def Wd(b:List z6)(c:Int)(e:Int)(d:Int->Option Int):Int->Option Int
 | a =>
 if(decide (a < (b.length:Int))) then
  gd (ix a b.length/\a.toNat<b.length/\(((b.getD a.toNat (a6 w8)).1==c)=true/\True->ix a b.length)/\(((b.getD a.toNat (a6 w8)).1==c)=true/\True->a.toNat<b.length)/\True) <|
  if((b.getD a.toNat (a6 w8)).1==c&&(b.getD a.toNat (a6 w8)).2.1==e) then
   some a
  else
   gd (b7 (a+1)/\True) <|
   d (a+1)
 else
  Wc ()
def Q4(a:m6)(d:Int)(b:Int):Option Int :=
 gd ((G9 a).isSome/\True)<|lt (vl (G9 a)) fun c =>
 lp (Wd c d b) 0
def k87:Ct:=b9 87 [.agg y53,.dat i64,.dat i64] (fun x=>Q4 x.1 x.2.1 x.2.2.1) (fun r:Int=>I r) (fun _=>())
theorem o87:Ok prog k87:=by
 refine c8 [.tmp 6] func87 ?_;intro y ⟨_,e,g,_⟩ r H Q hn hr;have:=hz (tc Y4 tn);refine iA [1,2,3]<|iD Y4 [1,2,7] H fun i H=>jN r (fun(_:Unit)=>Z [] []) (Wc) (fun _ H=>?_) (fun _ b k h=>?_)
 ·refine iA [6]<|a7<|hr H
 refine iA [1,2,7,8]<|vB<|lX (fun(a:Int)=>Z [p 1 (J e),p 2 (J g),p 7 (O 10),p 8 (I a)] [(10,A 226 w8 i 0)]) 0 H fun _ j f c d a H=>vQ<|iA [1,2,7,8,14]<|cD H (fun H=>?_) (fun H=>?_)
 ·refine vK<|fQ<|vQ<|vB<|iB [1,2,7,8,32] H fun H=>cD H (fun H=>iA [6]<|a7<|h9<|fR<|d<|h9<|h<|hr H) fun H=>vK<|fK<|fQ<|jB [1,2,7,8] H fun H=>f H
 exact vE<|fE<|c<|fX rfl<|b H
def We:List j2->Option (List j2)
 | a =>
 some a
def Qu(a:Int)(c:Int×List j2->Option (List j2)):List j2->Option (List j2)
 | b =>
 gd (b7 (a+1)/\True) <|
 c (a+1,b)
def Wf(c:Int)(b:List Int)(g:Int)(h:Int×List j2->Option (List j2))(i:Int×List j2->Option (List j2)):Int×List j2->Option (List j2)
 | (a,d) =>
 if(decide (a < (b.length:Int))) then
  gd (ix a b.length/\a.toNat<b.length/\(CQ d c (b.getD a.toNat 0) 0 0 2 a).isSome/\True)<|lt (vl (CQ d c (b.getD a.toNat 0) 0 0 2 a)) fun e =>
  gd (ix a b.length/\a.toNat<b.length/\(CQ e c (b.getD a.toNat 0) 1 1 2 a).isSome/\True)<|lt (vl (CQ e c (b.getD a.toNat 0) 1 1 2 a)) fun f =>
  gd (b7 (a+1)/\True) <|
  i (a+1,f)
 else
  Qu g h d
def Wg(c:j0)(f:Int×List j2->Option (List j2)):Int×List j2->Option (List j2)
 | (a,b) =>
 if(decide (a < (c.2.1.2.1.length:Int))) then
  gd ((Jd c.2.1 a).isSome/\True)<|lt (vl (Jd c.2.1 a)) fun d =>
  gd ((Y5 c.2.1 a).isSome/\True)<|lt (vl (Y5 c.2.1 a)) fun e =>
  lp (Wf d e a f) (0,b)
 else
  We b
def MK(b:j0):List j2->Option (List j2)
 | a =>
 lp (Wg b) (0,a)
def Qv(b:Int)(c:Int×List j2->Option (List j2)):List j2->Option (List j2)
 | a =>
 gd (b7 (b+1)/\True) <|
 c (b+1,a)
def Je(a:Int)(c:Int×List j2->Option (List j2)):List j2->Option (List j2)
 | b =>
 gd (b7 (a+1)/\True) <|
 c (a+1,b)
def Wh(b:k6)(e:j0)(d:Int)(h:Int×List j2->Option (List j2))(g:Int×List j2->Option (List j2)):Int×List j2->Option (List j2)
 | (a,c) =>
 if(decide (a < (b.2.2.2.1.length:Int))) then
  gd (ix a b.2.2.2.1.length/\True) <|
  if(decide ((b.2.2.2.1.getD a.toNat (a6 y158)).1<=3)) then
   gd (ix a b.2.2.2.1.length/\ix a b.2.2.2.1.length/\(Q4 e.2.1 d (b.2.2.2.1.getD a.toNat (a6 y158)).2.1).isSome/\ix a b.2.2.2.1.length/\(Q4 e.2.1 d (b.2.2.2.1.getD a.toNat (a6 y158)).2.2.1).isSome/\(DW c (b.2.2.2.1.getD a.toNat (a6 y158)) (vl (Q4 e.2.1 d (b.2.2.2.1.getD a.toNat (a6 y158)).2.1)) (vl (Q4 e.2.1 d (b.2.2.2.1.getD a.toNat (a6 y158)).2.2.1)) a).isSome/\True)<|lt (vl (DW c (b.2.2.2.1.getD a.toNat (a6 y158)) (vl (Q4 e.2.1 d (b.2.2.2.1.getD a.toNat (a6 y158)).2.1)) (vl (Q4 e.2.1 d (b.2.2.2.1.getD a.toNat (a6 y158)).2.2.1)) a)) fun f =>
   Je a g f
  else
   Je a g c
 else
  Qv d h c
def Wi(a:j0)(e:Int×List j2->Option (List j2)):Int×List j2->Option (List j2)
 | (b,d) =>
 if(decide (b < (a.2.1.1.length:Int))) then
  gd (ix b a.2.1.1.length/\ix (a.2.1.1.getD b.toNat (a6 y155)).2.1 a.1.length/\True)<|lt (a.1.getD (a.2.1.1.getD b.toNat (a6 y155)).2.1.toNat (a6 y153)) fun c =>
  lp (Wh c a b e) (0,d)
 else
  MK a d
def Bl(a:j0):Option (List j2) :=
 lp (Wi a) (0,[])
def k42:Ct:=b9 42 [.agg j7] (fun x=>Bl x.1) (fun r:List j2=>AV.ow 138 true y138 r) (fun _=>())
theorem GJ:Ok prog k42:=by
 refine c8 [.tmp 2] func42 ?_;intro y ⟨a,_⟩ r H Q hn hr;have:=hz (tc Jc (tc GB (tc VZ (tc Wb (tc o87 tn)))));refine iA [1]<|iA [1,3]<|iA [1,3,4]<|jN r (fun(f:List j2)=>Z [p 3 (O 12),p 4 (R 4)] [(4,K 53 y53 a.2.1),(12,A 138 y138 f 0)]) (MK a) (fun f H=>?_) (fun _ u e0 t0=>?_)
 ·refine jN r (fun(l:List j2)=>Z [p 3 (O 12)] [(12,A 138 y138 l 0)]) (We) (fun l H=>?_) (fun _ X e5 t5=>?_)
  ·refine iA [2]<|a7<|hr H
  refine iA [3,4,8]<|vB<|lX (fun((b,g):Int×List j2)=>Z [p 3 (O 12),p 4 (R 4),p 8 (I b)] [(4,K 53 y53 a.2.1),(12,A 138 y138 g 0)]) (0,f) H fun _ E x w t6 ⟨b,g⟩ H=>vQ<|iA [3,4,8,73]<|cD H (fun H=>?_) (fun H=>?_)
  ·refine vK<|fQ<|jN r (fun(i:List j2)=>Z [p 3 (O 12),p 4 (R 4),p 8 (I b)] [(4,K 53 y53 a.2.1),(12,A 138 y138 i 0)]) (Qu b E) (fun i H=>?_) (fun _ F e7 t7=>?_)
   ·refine jB [3,4,8] H fun H=>x H
   refine vB<|iD VZ [3,4,8,9] H fun s H=>iD GB [3,4,8,9,10] H fun q H=>iA [3,4,8,9,10,11]<|vB<|lX (fun((j,n):Int×List j2)=>Z [p 3 (O 12),p 4 (R 4),p 8 (I b),p 9 (I s),p 10 (O 81),p 11 (I j)] [(81,A 2 i64 q 0),(4,K 53 y53 a.2.1),(12,A 138 y138 n 0)]) (0,g) H fun _ g8 b8 P t8 ⟨j,n⟩ H=>vQ<|iA [3,4,8,9,10,11,85]<|cD H (fun H=>vK<|fQ<|vQ<|vB<|iD Jc [3,4,8,9,10,11] H fun _ H=>jD Jc [3,4,8,9,10,11] H fun _ H=>fK<|fQ<|jB [3,4,8,9,10,11] H fun H=>b8 H) fun H=>vE<|fE<|P<|fX rfl<|fK<|F H
  exact vE<|fE<|w<|fX rfl<|X H
 refine iA [1,3,4,5]<|vB<|lX (fun((e,o):Int×List j2)=>Z (IB e []) [(4,K 53 y53 a.2.1),(12,A 138 y138 o 0),(1,K 56 j7 a)]) (0,[]) H fun _ V W v t1 ⟨e,o⟩ H=>vQ<|iA [1,3,4,5,19]<|cD H (fun H=>?_) (fun H=>?_)
 ·refine vK<|fQ<|jN r (fun(k:List j2)=>Z (IB e []) [(4,K 53 y53 a.2.1),(12,A 138 y138 k 0),(1,K 56 j7 a)]) (Qv e V) (fun k H=>?_) (fun _ Y e2 t2=>?_)
  ·refine jB [1,3,4,5] H fun H=>W H
  refine vB<|qD (fun c=>Z (IB e [p 6 (L y158 c.2.2.2.1)]) [(4,K 53 y53 a.2.1),(12,A 138 y138 o 0),(1,K 56 j7 a)]) H fun c H=>iA [1,3,4,5,6,7]<|vB<|lX (fun((d,h):Int×List j2)=>Z (IB e [p 6 (L y158 c.2.2.2.1),p 7 (I d)]) [(4,K 53 y53 a.2.1),(12,A 138 y138 h 0),(1,K 56 j7 a)]) (0,o) H fun _ T G z t3 ⟨d,h⟩ H=>vQ<|iA [1,3,4,5,6,7,37]<|cD H (fun H=>?_) (fun H=>?_)
  ·refine vK<|fQ<|jN r (fun(m:List j2)=>Z (IB e [p 6 (L y158 c.2.2.2.1),p 7 (I d)]) [(12,A 138 y138 m 0),(4,K 53 y53 a.2.1),(1,K 56 j7 a)]) (Je d T) (fun m H=>?_) (fun _ t e4 t4=>?_)
   ·refine jB [1,3,4,5,6,7] H fun H=>G H
   refine vB<|iB [1,3,4,5,6,7,45] H fun H=>cD H (fun H=>jD Wb [1,3,4,5,6,7] H fun _ H=>fK<|t H) fun H=>vK<|fK<|t H
  exact vE<|fE<|z<|fX rfl<|fK<|Y H
 exact vE<|fE<|v<|fX rfl<|u H
def Wj:List Int->Option (List Int×Bool)
 | a =>
 some (a,true)
def GK(c:List Bool)(b:List Int)(e:Int)(d:List Bool×List Int->Option (List Int×Bool)):Int->Option (List Int×Bool)
 | a =>
 if(a==e) then
  some ([],false)
 else
  gd (ix a c.length/\a.toNat<c.length/\True) <|
  gd ((b.length+[a].length<=9223372036854775807/\(b.length+[a].length)*8<=140737488355328)/\True) <|
  d (c.set a.toNat true,b++[a])
def Wk(c:List Bool)(f:List Int)(d:Int)(b:List Bool)(g:List Bool×List Int->Option (List Int×Bool))(e:Int->Option (List Int×Bool)):Int->Option (List Int×Bool)
 | a =>
 gd ((decide (a<d)=true/\True->ix a c.length)/\(decide (a<d)=true/\True->a.toNat<c.length)/\(c.getD a.toNat false=false/\decide (a<d)=true/\True->ix a b.length)/\(c.getD a.toNat false=false/\decide (a<d)=true/\True->a.toNat<b.length)/\True) <|
 if(decide (a<d)&&(c.getD a.toNat false||b.getD a.toNat false)) then
  gd (b7 (a+1)/\True) <|
  e (a+1)
 else
  GK c f d g a
def Jf(d:List Bool)(b:List Int)(e:Int)(c:List Bool×List Int->Option (List Int×Bool)):List Bool->Option (List Int×Bool)
 | a =>
 lp (Wk d b e a c) 0
def Qw(a:Int)(c:Int×List Bool->Option (List Int×Bool)):List Bool->Option (List Int×Bool)
 | b =>
 gd (b7 (a+1)/\True) <|
 c (a+1,b)
def Wl(c:List j2)(d:List Bool)(e:List Bool)(g:List Int)(i:Int)(h:List Bool×List Int->Option (List Int×Bool))(f:Int×List Bool->Option (List Int×Bool)):Int×List Bool->Option (List Int×Bool)
 | (a,b) =>
 if(decide (a < (c.length:Int))) then
  gd (ix a d.length/\(d.getD a.toNat false=true/\True->ix a c.length)/\(d.getD a.toNat false=true/\True->ix (c.getD a.toNat (a6 y138)).1 e.length)/\(d.getD a.toNat false=true/\True->(c.getD a.toNat (a6 y138)).1.toNat<e.length)/\True) <|
  if(d.getD a.toNat false&&!e.getD (c.getD a.toNat (a6 y138)).1.toNat false) then
   gd (ix a c.length/\ix (c.getD a.toNat (a6 y138)).2.1 b.length/\(c.getD a.toNat (a6 y138)).2.1.toNat<b.length/\True) <|
   Qw a f (b.set (c.getD a.toNat (a6 y138)).2.1.toNat true)
  else
   Qw a f b
 else
  Jf e g i h b
def Wm(d:List j2)(f:List Bool)(a:Int)(c:List Bool×List Int->Option (List Int×Bool)):List Bool×List Int->Option (List Int×Bool)
 | (e,b) =>
 if(decide ((b.length:Int)<a)) then
  gd ((0<=a/\a=a/\a.toNat*1<=281474976710656/\a<=9223372036854775807)/\True) <|
  lp (Wl d f e b a c) (0,List.replicate a.toNat false)
 else
  Wj b
def Jg(a:Int)(b:List j2)(c:List Bool):Option (List Int×Bool) :=
 gd ((0<=a/\a=a/\a.toNat*1<=281474976710656/\a<=9223372036854775807)/\True) <|
 lp (Wm b c a) (List.replicate a.toNat false,[])
def P0M:Ct:=b9 178 [.dat i64,.dat y138.sl,.dat Ty.bool.sl] (fun x=>Jg x.1 x.2.1 x.2.2.1) (fun r:List Int×Bool=>AV.tup [AV.ow 2 true i64 r.1,B r.2]) (fun _=>())
theorem N0n:Ok prog P0M:=by
 refine c8 [.tmp 6,.tmp 7] func178 ?_;intro y ⟨a,g,f,_⟩ r H Q hn hr;refine iA [0,1,2]<|iA [0,1,2,8]<|iB [0,1,2,8,9] H fun H=>jN r (fun(i:List Int)=>Z [p 8 (O 13)] [(13,A 2 i64 i 0)]) (Wj) (fun i H=>?_) (fun _ q T o=>?_)
 ·refine iA [6,7]<|a7<|hr H
 refine vB<|lX (fun((d,b):List Bool×List Int)=>Z (G6 a g f []) [(15,A 4 Ty.bool d 0),(13,A 2 i64 b 0)]) (List.replicate a.toNat false,[]) H fun _ n E s t ⟨d,b⟩ H=>vQ<|iA [0,1,2,8,9,19]<|cD H (fun H=>?_) (fun H=>?_)
 ·refine vK<|fQ<|vB<|iB [0,1,2,8,9,10] H fun H=>jN r (fun(e:List Bool)=>Z (G6 a g f [p 10 (O 21)]) [(21,A 4 Ty.bool e 0),(15,A 4 Ty.bool d 0),(13,A 2 i64 b 0)]) (Jf d b a n) (fun e H=>?_) (fun _ G e2 W=>?_)
  ·refine iA [0,1,2,8,9,10,12]<|jN r (fun(h:Int)=>Z (G6 a g f [p 12 (I h)]) [(15,A 4 Ty.bool d 0),(13,A 2 i64 b 0)]) (GK d b a n) (fun h H=>?_) (fun _ F e5 t5=>?_)
   ·refine vQ<|iA [0,1,2,8,9,12,69]<|cD H (fun H=>iA [6,7]<|a7<|fR<|h9<|t<|h9<|o<|hr H) fun H=>vK<|fQ<|iB [0,1,2,8,9,12] H fun H=>jB [0,1,2,8,9] H fun H=>fK<|E H
   refine vB<|lX (fun(j:Int)=>Z (G6 a g f [p 10 (O 21),p 12 (I j)]) [(21,A 4 Ty.bool e 0),(15,A 4 Ty.bool d 0),(13,A 2 i64 b 0)]) 0 H fun _ Y v u X j H=>vQ<|iB [0,1,2,8,9,10,12,64] H fun H=>cD H (fun H=>vK<|fQ<|vB<|jB [0,1,2,8,9,10,12] H fun H=>fK<|v H) fun H=>vE<|fE<|u<|fX rfl<|F H
  refine iA [0,1,2,8,9,10,11]<|vB<|lX (fun((c,k):Int×List Bool)=>Z (G6 a g f [p 10 (O 21),p 11 (I c)]) [(21,A 4 Ty.bool k 0),(15,A 4 Ty.bool d 0),(13,A 2 i64 b 0)]) (0,List.replicate a.toNat false) H fun _ z x w t3 ⟨c,k⟩ H=>vQ<|iA [0,1,2,8,9,10,11,25]<|cD H (fun H=>?_) (fun H=>?_)
  ·refine vK<|fQ<|jN r (fun(l:List Bool)=>Z (G6 a g f [p 10 (O 21),p 11 (I c)]) [(21,A 4 Ty.bool l 0),(15,A 4 Ty.bool d 0),(13,A 2 i64 b 0)]) (Qw c z) (fun l H=>?_) (fun _ m P V=>?_)
   ·refine jB [0,1,2,8,9,10,11] H fun H=>x H
   refine vB<|iB [0,1,2,8,9,10,11,42] H fun H=>cD H (fun H=>jB [0,1,2,8,9,10,11] H fun H=>fK<|m H) fun H=>vK<|fK<|m H
  exact vE<|fE<|w<|fX rfl<|G H
 exact vE<|fE<|s<|fX rfl<|q H
def Wn:Unit->Option Bool
 | _ =>
 some true
def Wo(b:List Int)(c:Int)(d:Int->Option Bool):Int->Option Bool
 | a =>
 if(decide (a < (b.length:Int))) then
  gd (ix a b.length/\b7 (c-1)/\(m7 (b.getD a.toNat 0) 0 (c-1)).isSome/\(decide (0<a)=true/\(!vl (m7 (b.getD a.toNat 0) 0 (c-1)))=false/\True->b7 (a-1))/\(decide (0<a)=true/\(!vl (m7 (b.getD a.toNat 0) 0 (c-1)))=false/\True->ix (a-1) b.length)/\(decide (0<a)=true/\(!vl (m7 (b.getD a.toNat 0) 0 (c-1)))=false/\True->ix a b.length)/\True) <|
  if(!vl (m7 (b.getD a.toNat 0) 0 (c-1))||decide (0<a)&&decide (b.getD a.toNat 0<=b.getD (a-1).toNat 0)) then
   some false
  else
   gd (b7 (a+1)/\True) <|
   d (a+1)
 else
  Wn ()
def ML(b:List Int)(a:Int):Option Bool :=
 lp (Wo b a) 0
def P0N:Ct:=b9 177 [.dat i64.sl,.dat i64] (fun x=>ML x.1 x.2.1) (fun r:Bool=>B r) (fun _=>())
theorem N0o:Ok prog P0N:=by
 refine c8 [.tmp 4] func177 ?_;intro y ⟨h,e,_⟩ r H Q hn hr;have:=hz (tc Y8 tn);refine iA [0,1]<|jN r (fun(_:Unit)=>Z [] []) (Wn) (fun _ H=>?_) (fun _ b j g=>?_)
 ·refine iA [4]<|a7<|hr H
 refine iA [0,1,5]<|vB<|lX (fun(a:Int)=>Z [p 0 (L i64 h),p 1 (J e),p 5 (I a)] []) 0 H fun _ i f c d a H=>vQ<|iA [0,1,5,9]<|cD H (fun H=>?_) (fun H=>?_)
 ·refine vK<|fQ<|vQ<|vB<|iB [0,1,5,35] H fun H=>cD H (fun H=>iA [4]<|a7<|h9<|fR<|d<|h9<|g<|hr H) fun H=>vK<|fK<|fQ<|jB [0,1,5] H fun H=>f H
 exact vE<|fE<|c<|fX rfl<|b H
def Wp:Unit->Option Bool
 | _ =>
 some true
def Wq(a:w9)(c:Int->Option Bool):Int->Option Bool
 | b =>
 if(decide (b < (a.2.2.2.length:Int))) then
  gd (ix b a.2.2.2.length/\b7 ((a.1.length:Int)-1)/\(m7 (a.2.2.2.getD b.toNat 0) 0 ((a.1.length:Int)-1)).isSome/\True) <|
  if(!vl (m7 (a.2.2.2.getD b.toNat 0) 0 ((a.1.length:Int)-1))) then
   some false
  else
   gd (b7 (b+1)/\True) <|
   c (b+1)
 else
  Wp ()
def MM(a:w9):Unit->Option Bool
 | _ =>
 lp (Wq a) 0
def Ws(b:w9)(c:Int->Option Bool):Int->Option Bool
 | a =>
 if(decide (a < (b.1.length:Int))) then
  gd (ix a b.2.2.1.length/\(m7 (b.2.2.1.getD a.toNat 0) 0 500).isSome/\((!vl (m7 (b.2.2.1.getD a.toNat 0) 0 500))=false/\True->ix a b.2.1.length)/\((!vl (m7 (b.2.2.1.getD a.toNat 0) 0 500))=false/\True->(m7 (b.2.1.getD a.toNat 0) 0 1000).isSome)/\True) <|
  if(!vl (m7 (b.2.2.1.getD a.toNat 0) 0 500)||!vl (m7 (b.2.1.getD a.toNat 0) 0 1000)) then
   some false
  else
   gd (((a==0)=true/\True->ix a b.1.length)/\((b.1.getD a.toNat 0 != -1)=false/\(a==0)=true/\True->ix a b.2.1.length)/\(decide (0<a)=true/\(a==0&&(b.1.getD a.toNat 0 != -1||b.2.1.getD a.toNat 0 != 0))=false/\True->ix a b.1.length)/\(decide (0<a)=true/\(a==0&&(b.1.getD a.toNat 0 != -1||b.2.1.getD a.toNat 0 != 0))=false/\True->b7 (a-1))/\(decide (0<a)=true/\(a==0&&(b.1.getD a.toNat 0 != -1||b.2.1.getD a.toNat 0 != 0))=false/\True->(m7 (b.1.getD a.toNat 0) 0 (a-1)).isSome)/\True) <|
   if(a==0&&(b.1.getD a.toNat 0 != -1||b.2.1.getD a.toNat 0 != 0)||decide (0<a)&&!vl (m7 (b.1.getD a.toNat 0) 0 (a-1))) then
    some false
   else
    gd (b7 (a+1)/\True) <|
    c (a+1)
 else
  MM b ()
def Jh(a:w9)(b:Int):Option Bool :=
 if(decide ((a.1.length:Int)<1)||decide (8 < (a.1.length:Int))||(a.2.1.length:Int) != (a.1.length:Int)||(a.2.2.1.length:Int) != (a.1.length:Int)||(a.2.2.2.length:Int) != b) then
  some false
 else
  lp (Ws a) 0
def Q0x:Ct:=b9 139 [.agg y172,.dat i64] (fun x=>Jh x.1 x.2.1) (fun r:Bool=>B r) (fun _=>())
theorem N0E:Ok prog Q0x:=by
 refine c8 [.tmp 4] func139 ?_;intro y ⟨a,_,_⟩ r H Q hn hr;have:=hz (tc Y8 tn);refine iA [1,2]<|iA [1,2,5]<|vQ<|iA [2,5,37]<|cD H (fun H=>iA [4]<|a7<|fR<|hr H) fun H=>vK<|fQ<|jN r (fun(_:Unit)=>Z [p 2 (R 2),p 5 (I (a.1.length:Int))] [(2,K 172 y172 a)]) (MM a) (fun _ H=>?_) (fun _ g o e=>?_)
 ·refine jN r (fun(_:Unit)=>Z [] []) (Wp) (fun _ H=>?_) (fun _ m q k=>?_)
  ·refine iA [4]<|a7<|hr H
  refine iA [2,5,7]<|vB<|lX (fun(c:Int)=>Z [p 2 (R 2),p 5 (I (a.1.length:Int)),p 7 (I c)] [(2,K 172 y172 a)]) 0 H fun _ s h l f c H=>vQ<|iA [2,5,7,96]<|cD H (fun H=>?_) (fun H=>?_)
  ·refine vK<|fQ<|vQ<|vB<|iB [2,5,7,107] H fun H=>cD H (fun H=>iA [4]<|a7<|h9<|fR<|f<|h9<|k<|hr H) fun H=>vK<|fK<|fQ<|jB [2,5,7] H fun H=>h H
  exact vE<|fE<|l<|fX rfl<|m H
 refine iA [2,5,6]<|vB<|lX (fun(d:Int)=>Z [p 2 (R 2),p 5 (I (a.1.length:Int)),p 6 (I d)] [(2,K 172 y172 a)]) 0 H fun _ n j i b d H=>vQ<|iA [2,5,6,40]<|cD H (fun H=>?_) (fun H=>?_)
 ·refine vK<|fQ<|vQ<|vB<|vQ<|iB [2,5,6,58] H fun H=>cD H (fun H=>iA [4]<|a7<|fR<|h9<|fR<|b<|h9<|e<|hr H) fun H=>vK<|fQ<|iB [2,5,6,91] H fun H=>cD H (fun H=>iA [4]<|a7<|h9<|fR<|b<|h9<|e<|hr H) fun H=>vK<|fK<|fQ<|jB [2,5,6] H fun H=>j H
 exact vE<|fE<|i<|fX rfl<|g H
def MN(a:ByteArray):Unit->Option Bool
 | _ =>
 some (decide (1<=(a.size:Int))&&decide ((a.size:Int)<=8))
def Wt(b:ByteArray)(c:Int->Option Bool):Int->Option Bool
 | a =>
 if(decide (a < (b.size:Int))) then
  gd (ix a b.size/\(decide (97<=B3 b a.toNat)=true/\True->ix a b.size)/\True) <|
  gd (ix a b.size/\(decide (48<=B3 b a.toNat)=true/\True->ix a b.size)/\True) <|
  if(!(decide (97<=B3 b a.toNat)&&decide (B3 b a.toNat<=122))&&!(decide (48<=B3 b a.toNat)&&decide (B3 b a.toNat<=57)&&decide (0<a))) then
   some false
  else
   gd (b7 (a+1)/\True) <|
   c (a+1)
 else
  MN b ()
def T8(a:ByteArray):Option Bool :=
 lp (Wt a) 0
def Q0w:Ct:=b9 140 [.dat Ty.str] (fun x=>T8 x.1) (fun r:Bool=>B r) (fun _=>())
theorem MO:Ok prog Q0w:=by
 refine c8 [.tmp 2] func140 ?_;intro y ⟨a,_⟩ r H Q hn hr;refine iA [0]<|jN r (fun(_:Unit)=>Z [p 0 (U a)] []) (MN a) (fun _ H=>?_) (fun _ c i g=>?_)
 ·refine iA [2]<|a7<|hr H
 refine iA [0,3]<|vB<|lX (fun(b:Int)=>Z [p 0 (U a),p 3 (I b)] []) 0 H fun _ h f d e b H=>vQ<|iA [0,3,9]<|cD H (fun H=>?_) (fun H=>?_)
 ·refine vK<|fQ<|vQ<|vB<|iB [0,3,4] H fun H=>iB [0,3,4,5] H fun H=>iA [0,3,41]<|cD H (fun H=>iA [2]<|a7<|h9<|fR<|e<|h9<|g<|hr H) fun H=>vK<|fK<|fQ<|jB [0,3] H fun H=>f H
 exact vE<|fE<|d<|fX rfl<|c H
def Wu:Unit->Option Bool
 | _ =>
 some true
def Qx(a:Int)(b:Int->Option Bool):Unit->Option Bool
 | _ =>
 gd (b7 (a+1)/\True) <|
 b (a+1)
def Wv(c:List ByteArray)(b:Int)(d:Int->Option Bool)(e:Int->Option Bool):Int->Option Bool
 | a =>
 if(decide (a<b)) then
  gd (ix a c.length/\ix b c.length/\True) <|
  if(decide (c.getD a.toNat (a6 Ty.str)=c.getD b.toNat (a6 Ty.str))) then
   some false
  else
   gd (b7 (a+1)/\True) <|
   e (a+1)
 else
  Qx b d ()
def Ww(b:List ByteArray)(c:Int->Option Bool):Int->Option Bool
 | a =>
 if(decide (a < (b.length:Int))) then
  gd (ix a b.length/\(T8 (b.getD a.toNat (a6 Ty.str))).isSome/\True) <|
  if(!vl (T8 (b.getD a.toNat (a6 Ty.str)))) then
   some false
  else
   lp (Wv b a c) 0
 else
  Wu ()
def Az(a:List ByteArray):Option Bool :=
 lp (Ww a) 0
def P0H:Ct:=b9 186 [.dat Ty.str.sl] (fun x=>Az x.1) (fun r:Bool=>B r) (fun _=>())
theorem N0k:Ok prog P0H:=by
 refine c8 [.tmp 2] func186 ?_;intro y ⟨b,_⟩ r H Q hn hr;have:=hz (tc MO tn);refine iA [0]<|jN r (fun(_:Unit)=>Z [] []) (Wu) (fun _ H=>?_) (fun _ h o f=>?_)
 ·refine iA [2]<|a7<|hr H
 refine iA [0,3]<|vB<|lX (fun(a:Int)=>Z [p 0 (L Ty.str b),p 3 (I a)] []) 0 H fun _ k l j d a H=>vQ<|iA [0,3,8]<|cD H (fun H=>?_) (fun H=>?_)
 ·refine vK<|fQ<|jN r (fun(_:Unit)=>Z [p 0 (L Ty.str b),p 3 (I a)] []) (Qx a k) (fun _ H=>?_) (fun _ n q e=>?_)
  ·refine jB [0,3] H fun H=>l H
  refine vB<|vQ<|iB [0,3,16] H fun H=>cD H (fun H=>iA [2]<|a7<|fR<|h9<|e<|d<|h9<|f<|hr H) fun H=>vK<|fQ<|iA [0,3,4]<|vB<|lX (fun(c:Int)=>Z [p 0 (L Ty.str b),p 3 (I a),p 4 (I c)] []) 0 H fun _ s i m g c H=>vQ<|iA [0,3,4,19]<|cD H (fun H=>?_) (fun H=>?_)
  ·refine vK<|fQ<|vQ<|vB<|iB [0,3,4,30] H fun H=>cD H (fun H=>iA [2]<|a7<|h9<|fR<|g<|h9<|h9<|e<|d<|h9<|f<|hr H) fun H=>vK<|fK<|fQ<|jB [0,3,4] H fun H=>i H
  exact vE<|fE<|m<|fX rfl<|fK<|n H
 exact vE<|fE<|j<|fX rfl<|h H
def Wx:Unit->Option Bool
 | _ =>
 some true
def Wy(a:m6)(c:Int->Option Bool):Int->Option Bool
 | b =>
 if(decide (b < (a.2.2.length:Int))) then
  gd (ix b a.2.2.length/\(m7 (a.2.2.getD b.toNat (a6 y231)).2.1 1 2).isSome/\((!vl (m7 (a.2.2.getD b.toNat (a6 y231)).2.1 1 2))=false/\True->ix b a.2.2.length)/\((!vl (m7 (a.2.2.getD b.toNat (a6 y231)).2.1 1 2))=false/\True->b7 ((a.2.1.length:Int)-1))/\((!vl (m7 (a.2.2.getD b.toNat (a6 y231)).2.1 1 2))=false/\True->(m7 (a.2.2.getD b.toNat (a6 y231)).2.2 0 ((a.2.1.length:Int)-1)).isSome)/\True) <|
  if(!vl (m7 (a.2.2.getD b.toNat (a6 y231)).2.1 1 2)||!vl (m7 (a.2.2.getD b.toNat (a6 y231)).2.2 0 ((a.2.1.length:Int)-1))) then
   some false
  else
   gd (b7 (b+1)/\True) <|
   c (b+1)
 else
  Wx ()
def MP(a:m6):Unit->Option Bool
 | _ =>
 lp (Wy a) 0
def Wz(a:Int)(b:Int->Option Bool):Unit->Option Bool
 | _ =>
 gd (b7 (a+1)/\True) <|
 b (a+1)
def WA(b:A9)(c:m6)(d:Int)(e:Int->Option Bool)(f:Int->Option Bool):Int->Option Bool
 | a =>
 if(decide (a < (b.2.2.length:Int))) then
  gd (ix a b.2.2.length/\b7 ((c.2.1.length:Int)-1)/\(m7 (b.2.2.getD a.toNat 0) 0 ((c.2.1.length:Int)-1)).isSome/\True) <|
  if(!vl (m7 (b.2.2.getD a.toNat 0) 0 ((c.2.1.length:Int)-1))) then
   some false
  else
   gd (b7 (a+1)/\True) <|
   f (a+1)
 else
  Wz d e ()
def WB(c:m6)(b:List k6)(e:Int->Option Bool):Int->Option Bool
 | d =>
 if(decide (d < (c.1.length:Int))) then
  gd (ix d c.1.length/\True)<|lt (c.1.getD d.toNat (a6 y155)) fun a =>
  gd (b7 ((b.length:Int)-1)/\(m7 a.2.1 0 ((b.length:Int)-1)).isSome/\((!vl (m7 a.2.1 0 ((b.length:Int)-1)))=false/\True->ix a.2.1 b.length)/\True) <|
  if(!vl (m7 a.2.1 0 ((b.length:Int)-1))||(a.2.2.length:Int) != (↑(b.getD a.2.1.toNat (a6 y153)).2.2.1.length:Int)) then
   some false
  else
   lp (WA a c d e) 0
 else
  MP c ()
def MQ(b:List k6)(a:m6):Option Bool :=
 lp (WB a b) 0
def P0I:Ct:=b9 185 [.agg y153.sl,.agg y53] (fun x=>MQ x.1 x.2.1) (fun r:Bool=>B r) (fun _=>())
theorem N0l:Ok prog P0I:=by
 refine c8 [.tmp 4] func185 ?_;intro y ⟨c,a,_⟩ r H Q hn hr;have:=hz (tc Y8 tn);refine iA [2,3]<|iA [2,3,5]<|jN r (fun(_:Unit)=>Z [p 3 (R 3),p 5 (I (a.2.1.length:Int))] [(3,K 53 y53 a)]) (MP a) (fun _ H=>?_) (fun _ j E i=>?_)
 ·refine jN r (fun(_:Unit)=>Z [] []) (Wx) (fun _ H=>?_) (fun _ m z n=>?_)
  ·refine iA [4]<|a7<|hr H
  refine iA [3,5,9]<|vB<|lX (fun(h:Int)=>Z [p 3 (R 3),p 5 (I (a.2.1.length:Int)),p 9 (I h)] [(3,K 53 y53 a)]) 0 H fun _ F q u l h H=>vQ<|iA [3,5,9,67]<|cD H (fun H=>?_) (fun H=>?_)
  ·refine vK<|fQ<|vQ<|vB<|iB [3,5,9,89] H fun H=>cD H (fun H=>iA [4]<|a7<|h9<|fR<|l<|h9<|n<|hr H) fun H=>vK<|fK<|fQ<|jB [3,5,9] H fun H=>q H
  exact vE<|fE<|u<|fX rfl<|m H
 refine iA [2,3,5,6]<|vB<|lX (fun(b:Int)=>Z (Y1 [p 5 (I (a.2.1.length:Int)),p 6 (I b)]) (DN a c)) 0 H fun _ v w k e b H=>vQ<|iA [2,3,5,6,17]<|cD H (fun H=>?_) (fun H=>?_)
 ·refine vK<|fQ<|jN r (fun(_:Unit)=>Z (Y1 [p 5 (I (a.2.1.length:Int)),p 6 (I b)]) (DN a c)) (Wz b v) (fun _ H=>?_) (fun _ x G g=>?_)
  ·refine jB [2,3,5,6] H fun H=>w H
  refine vB<|qD (fun d=>Z (Y1 [p 5 (I (a.2.1.length:Int)),p 6 (I b),p 7 (R 7)]) ((7,K 155 y155 d)::DN a c)) H fun d H=>vQ<|iB [2,3,5,6,7,46] H fun H=>cD H (fun H=>iA [4]<|a7<|fR<|h9<|g<|e<|h9<|i<|hr H) fun H=>vK<|fQ<|iA [2,3,5,6,7,8]<|vB<|lX (fun(f:Int)=>Z (Y1 [p 5 (I (a.2.1.length:Int)),p 6 (I b),p 7 (R 7),p 8 (I f)]) ((7,K 155 y155 d)::DN a c)) 0 H fun _ P t o s f H=>vQ<|iA [2,3,5,6,7,8,51]<|cD H (fun H=>?_) (fun H=>?_)
  ·refine vK<|fQ<|vQ<|vB<|iB [2,3,5,6,7,8,62] H fun H=>cD H (fun H=>iA [4]<|a7<|h9<|fR<|s<|h9<|h9<|g<|e<|h9<|i<|hr H) fun H=>vK<|fK<|fQ<|jB [2,3,5,6,7,8] H fun H=>t H
  exact vE<|fE<|o<|fX rfl<|fK<|x H
 exact vE<|fE<|k<|fX rfl<|j H
def WC:List Int->Option (List Int)
 | a =>
 some a
def WD(b:k6)(d:Int×List Int->Option (List Int)):Int×List Int->Option (List Int)
 | (a,c) =>
 if(decide (a < (b.2.2.2.1.length:Int))) then
  gd (ix a b.2.2.2.1.length/\ix (b.2.2.2.1.getD a.toNat (a6 y158)).1 c.length/\(b.2.2.2.1.getD a.toNat (a6 y158)).1.toNat<c.length/\b7 (c.getD (b.2.2.2.1.getD a.toNat (a6 y158)).1.toNat 0+1)/\ix (b.2.2.2.1.getD a.toNat (a6 y158)).1 c.length/\(b.2.2.2.1.getD a.toNat (a6 y158)).1.toNat<c.length/\True)<|lt (c.set (b.2.2.2.1.getD a.toNat (a6 y158)).1.toNat (c.getD (b.2.2.2.1.getD a.toNat (a6 y158)).1.toNat 0+1)) fun e =>
  gd (b7 (a+1)/\True) <|
  d (a+1,e)
 else
  WC c
def Ji(a:k6):Option (List Int) :=
 gd (((0:Int)<=(6:Int)/\(6:Int)=(6:Int)/\Int.toNat (6:Int)*8<=281474976710656/\(6:Int)<=(9223372036854775807:Int))/\True) <|
 lp (WD a) ((0,List.replicate (Int.toNat (6:Int)) (0:Int)))
def O0G:Ct:=b9 254 [.agg y153] (fun x=>Ji x.1) (fun r:List Int=>AV.ow 2 true i64 r) (fun _=>())
theorem WG:Ok prog O0G:=by
 refine c8 [.tmp 2] func254 ?_;intro y ⟨e,_⟩ r H Q hn hr;refine iA [1]<|iB [1,3] H fun H=>jN r (fun(c:List Int)=>Z [p 3 (O 5)] [(5,A 2 i64 c 0)]) (WC) (fun c H=>?_) (fun _ f k l=>?_)
 ·refine iA [2]<|a7<|hr H
 refine iA [1,3,4]<|vB<|lX (fun((a,b):Int×List Int)=>Z [p 1 (R 1),p 3 (O 5),p 4 (I a)] [(5,A 2 i64 b 0),(1,K 153 y153 e)]) ((0,List.replicate (Int.toNat (6:Int)) (0:Int))) H fun _ j h g i ⟨a,b⟩ H=>vQ<|iA [1,3,4,10]<|cD H (fun H=>vK<|fQ<|vQ<|vB<|zD (fun d=>Z [p 1 (R 1),p 3 (O 5),p 4 (I a)] [(5,A 2 i64 d 0),(1,K 153 y153 e)]) H fun d H=>fK<|fQ<|jB [1,3,4] H fun H=>h H) fun H=>vE<|fE<|g<|fX rfl<|f H
def MR(a:List Int):Unit->Option Bool
 | _ =>
 some (decide (1<=(a.length:Int))&&decide ((a.length:Int)<=4))
def WH(b:List Int)(c:Int->Option Bool):Int->Option Bool
 | a =>
 if(decide (a < (b.length:Int))) then
  gd (ix a b.length/\(m7 (b.getD a.toNat 0) 0 100000).isSome/\(decide (0<a)=true/\(!vl (m7 (b.getD a.toNat 0) 0 100000))=false/\True->b7 (a-1))/\(decide (0<a)=true/\(!vl (m7 (b.getD a.toNat 0) 0 100000))=false/\True->ix (a-1) b.length)/\(decide (0<a)=true/\(!vl (m7 (b.getD a.toNat 0) 0 100000))=false/\True->ix a b.length)/\True) <|
  if(!vl (m7 (b.getD a.toNat 0) 0 100000)||decide (0<a)&&decide (b.getD a.toNat 0<=b.getD (a-1).toNat 0)) then
   some false
  else
   gd (b7 (a+1)/\True) <|
   c (a+1)
 else
  MR b ()
def BZ(a:List Int):Option Bool :=
 lp (WH a) 0
def N0Y:Ct:=b9 303 [.dat i64.sl] (fun x=>BZ x.1) (fun r:Bool=>B r) (fun _=>())
theorem M0v:Ok prog N0Y:=by
 refine c8 [.tmp 2] func303 ?_;intro y ⟨a,_⟩ r H Q hn hr;have:=hz (tc Y8 tn);refine iA [0]<|jN r (fun(_:Unit)=>Z [p 0 (L i64 a)] []) (MR a) (fun _ H=>?_) (fun _ c i g=>?_)
 ·refine iA [2]<|a7<|hr H
 refine iA [0,3]<|vB<|lX (fun(b:Int)=>Z [p 0 (L i64 a),p 3 (I b)] []) 0 H fun _ h f d e b H=>vQ<|iA [0,3,7]<|cD H (fun H=>?_) (fun H=>?_)
 ·refine vK<|fQ<|vQ<|vB<|iB [0,3,31] H fun H=>cD H (fun H=>iA [2]<|a7<|h9<|fR<|e<|h9<|g<|hr H) fun H=>vK<|fK<|fQ<|jB [0,3] H fun H=>f H
 exact vE<|fE<|d<|fX rfl<|c H
def WI:Unit->Option Bool
 | _ =>
 some true
def WJ(b:m4)(c:Int->Option Bool):Int->Option Bool
 | a =>
 if(decide (a < (b.2.2.length:Int))) then
  gd (ix a b.2.2.length/\(m7 (b.2.2.getD a.toNat 0) (-1000000) 1000000).isSome/\True) <|
  if(!vl (m7 (b.2.2.getD a.toNat 0) (-1000000) 1000000)) then
   some false
  else
   gd (b7 (a+1)/\True) <|
   c (a+1)
 else
  WI ()
def Jj(a:m4):Option Bool :=
 gd ((BZ a.1).isSome/\((!vl (BZ a.1))=false/\True->(BZ a.2.1).isSome)/\((!vl (BZ a.1)||!vl (BZ a.2.1))=false/\True->b7 ((a.1.length:Int)*(a.2.1.length:Int)))/\True) <|
 if(!vl (BZ a.1)||!vl (BZ a.2.1)||(a.2.2.length:Int) != (a.1.length:Int)*(a.2.1.length:Int)) then
  some false
 else
  lp (WJ a) 0
def O0d:Ct:=b9 296 [.agg y269] (fun x=>Jj x.1) (fun r:Bool=>B r) (fun _=>())
theorem M0x:Ok prog O0d:=by
 refine c8 [.tmp 2] func296 ?_;intro y ⟨g,_⟩ r H Q hn hr;have:=hz (tc Y8 (tc M0v tn));refine iA [1]<|vQ<|iB [1,26] H fun H=>cD H (fun H=>iA [2]<|a7<|fR<|hr H) fun H=>vK<|fQ<|jN r (fun(_:Unit)=>Z [] []) (WI) (fun _ H=>?_) (fun _ b i f=>?_)
 ·refine iA [2]<|a7<|hr H
 refine iA [1,3]<|vB<|lX (fun(a:Int)=>Z (G8 a []) [(1,K 269 y269 g)]) 0 H fun _ h e c d a H=>vQ<|iA [1,3,31]<|cD H (fun H=>?_) (fun H=>?_)
 ·refine vK<|fQ<|vQ<|vB<|iB [1,3,40] H fun H=>cD H (fun H=>iA [2]<|a7<|h9<|fR<|d<|h9<|f<|hr H) fun H=>vK<|fK<|fQ<|jB [1,3] H fun H=>e H
 exact vE<|fE<|c<|fX rfl<|b H
def WK:Int×Int->Option (q7×Int)
 | (b,a) =>
 some (((b,a),(0:Int)))
def Qy(b:m4)(e:Int×Int×Int->Option (q7×Int)):Int×Int×Int->Option (q7×Int)
 | (a,d,c) =>
 if(decide (a < (b.2.2.length:Int))) then
  gd (ix a b.2.2.length/\True) <|
  gd (ix a b.2.2.length/\True) <|
  gd (b7 (a+1)/\True) <|
  e ((a+1,min d (b.2.2.getD a.toNat 0),max c (b.2.2.getD a.toNat 0)))
 else
  WK (d,c)
def Jk(a:m4):Option (q7×Int) :=
 gd ((Jj a).isSome/\True) <|
 if(!vl (Jj a)) then
  some ((((0:Int),(0:Int)),(1:Int)))
 else
  gd (ix 0 a.2.2.length/\ix 0 a.2.2.length/\True) <|
  lp (Qy a) ((1,a.2.2.getD (Int.toNat (0:Int)) (0:Int),a.2.2.getD (Int.toNat (0:Int)) (0:Int)))
def O0k:Ct:=b9 285 [.agg y269] (fun x=>Jk x.1) (fun r:q7×Int=>AV.tup [AV.agg [I r.1.1,I r.1.2],I r.2]) (fun _=>())
theorem WL:Ok prog O0k:=by
 refine c8 [.cell 2 73,.tmp 3] func285 ?_;intro y ⟨a,_⟩ r H Q hn hr;have:=hz (tc M0x tn);refine iA [1,2]<|vQ<|iB [1,2,8] H fun H=>cD H (fun H=>iA [2,3]<|a7<|fR<|hr H) fun H=>vK<|fQ<|iB [1,2,4] H fun H=>jN r (fun((f,d):Int×Int)=>Z [p 2 (R 2),p 4 (R 4)] [(4,bx 73 [J f,J d]),(2,bx 73 [I 0,I 0])]) (WK) (fun⟨f,d⟩ H=>?_) (fun _ g l m=>?_)
 ·refine iA [2,3]<|a7<|hr H
 refine iA [1,2,4,5]<|vB<|lX (fun((b,e,c):Int×Int×Int)=>Z [p 1 (R 1),p 2 (R 2),p 4 (R 4),p 5 (I b)] [(4,bx 73 [J e,J c]),(2,bx 73 [I 0,I 0]),(1,K 269 y269 a)]) ((1,a.2.2.getD (Int.toNat (0:Int)) (0:Int),a.2.2.getD (Int.toNat (0:Int)) (0:Int))) H fun _ k i h j ⟨b,e,c⟩ H=>vQ<|iA [1,2,4,5,23]<|cD H (fun H=>vK<|fQ<|vQ<|vB<|iB [1,2,4,5] H fun H=>jB [1,2,4,5] H fun H=>fK<|fQ<|jB [1,2,4,5] H fun H=>i H) fun H=>vE<|fE<|h<|fX rfl<|g H
def WM:Unit->Option Bool
 | _ =>
 some true
def Qz(e:Bool)(b:List m4)(d:Int->Option Bool):Int->Option Bool
 | a =>
 if(decide (a<2)) then
  gd (ix a b.length/\(Jk (b.getD a.toNat (a6 y269))).isSome/\True)<|lt (vl (Jk (b.getD a.toNat (a6 y269)))) fun c =>
  if(c.2 != 0||e&&decide (c.1.1<0)) then
   some false
  else
   gd (b7 (a+1)/\True) <|
   d (a+1)
 else
  WM ()
def Q5(a:List m4)(b:Bool):Option Bool :=
 if((a.length:Int) != 2) then
  some false
 else
  lp (Qz b a) 0
def O0v:Ct:=b9 270 [.dat y269.sl,.dat Ty.bool] (fun x=>Q5 x.1 x.2.1) (fun r:Bool=>B r) (fun _=>())
theorem M0I:Ok prog O0v:=by
 refine c8 [.tmp 4] func270 ?_;intro y ⟨h,e,_⟩ r H Q hn hr;have:=hz (tc WL tn);refine iA [0,1]<|vQ<|iA [0,1,10]<|cD H (fun H=>iA [4]<|a7<|fR<|hr H) fun H=>vK<|fQ<|jN r (fun(_:Unit)=>Z [] []) (WM) (fun _ H=>?_) (fun _ b j g=>?_)
 ·refine iA [4]<|a7<|hr H
 refine iA [0,1,5]<|vB<|lX (fun(a:Int)=>Z [p 0 (L y269 h),p 1 (C e),p 5 (I a)] []) 0 H fun _ i f c d a H=>vQ<|iA [0,1,5,12]<|cD H (fun H=>?_) (fun H=>?_)
 ·refine vK<|fQ<|vQ<|vB<|iD WL [0,1,5,6,7] H fun _ H=>iA [0,1,5,32]<|cD H (fun H=>iA [4]<|a7<|h9<|fR<|d<|h9<|g<|hr H) fun H=>vK<|fK<|fQ<|jB [0,1,5] H fun H=>f H
 exact vE<|fE<|c<|fX rfl<|b H
def Jl(c:A6)(a:r7)(b:k6):Bool->Option Bool
 | d =>
 if d then
  gd (((c.2.2.2&&decide (a.2.2.1 < (b.2.2.1.length:Int)-1))=true/\True->ix a.2.2.1 b.2.2.1.length)/\((c.2.2.2&&decide (a.2.2.1 < (b.2.2.1.length:Int)-1)&&!(b.2.2.1.getD a.2.2.1.toNat (a6 y293)).2.2.2&&a.2.2.2.1==0)=true/\True->(Q5 a.2.2.2.2.1 false).isSome)/\True) <|
  some (c.2.2.2&&decide (a.2.2.1 < (b.2.2.1.length:Int)-1)&&!(b.2.2.1.getD a.2.2.1.toNat (a6 y293)).2.2.2&&a.2.2.2.1==0&&vl (Q5 a.2.2.2.2.1 false)&&(a.2.2.2.2.2.length:Int)==0)
 else
  some false
def Jm(b:A6)(a:r7)(c:k6):Bool->Option Bool
 | d =>
 if d then
  gd (((b.2.2.2&&a.2.2.1==(c.2.2.1.length:Int)-1&&a.2.2.2.1==0)=true/\True->(Q5 a.2.2.2.2.1 true).isSome)/\((b.2.2.2&&a.2.2.1==(c.2.2.1.length:Int)-1&&a.2.2.2.1==0&&vl (Q5 a.2.2.2.2.1 true))=true/\True->(Q5 a.2.2.2.2.2 true).isSome)/\True) <|
  some (b.2.2.2&&a.2.2.1==(c.2.2.1.length:Int)-1&&a.2.2.2.1==0&&vl (Q5 a.2.2.2.2.1 true)&&vl (Q5 a.2.2.2.2.2 true))
 else
  if(a.1==4) then
   Jl b a c (a.1==4)
  else
   Jl b a c (a.1==5)
def Jn(b:k6)(a:r7):Option Bool :=
 gd (b7 ((b.2.2.1.length:Int)-1)/\True) <|
 gd (b7 ((b.2.2.1.length:Int)-1-1)/\(m7 a.2.1 0 ((b.2.2.1.length:Int)-1-1)).isSome/\((!vl (m7 a.2.1 0 ((b.2.2.1.length:Int)-1-1)))=false/\True->(m7 a.2.2.1 0 ((b.2.2.1.length:Int)-1)).isSome)/\True) <|
 if(!vl (m7 a.2.1 0 ((b.2.2.1.length:Int)-1-1))||!vl (m7 a.2.2.1 0 ((b.2.2.1.length:Int)-1))) then
  some false
 else
  gd (ix a.2.1 b.2.2.1.length/\True)<|lt (b.2.2.1.getD a.2.1.toNat (a6 y293)) fun c =>
  if(a.1==1) then
   gd (((!c.2.2.2&&a.2.2.1==(b.2.2.1.length:Int)-1)=true/\True->(m7 a.2.2.2.1 1 3).isSome)/\((!c.2.2.2&&a.2.2.1==(b.2.2.1.length:Int)-1&&vl (m7 a.2.2.2.1 1 3))=true/\True->(Q5 a.2.2.2.2.1 true).isSome)/\((!c.2.2.2&&a.2.2.1==(b.2.2.1.length:Int)-1&&vl (m7 a.2.2.2.1 1 3)&&vl (Q5 a.2.2.2.2.1 true))=true/\True->(Q5 a.2.2.2.2.2 true).isSome)/\True) <|
   some (!c.2.2.2&&a.2.2.1==(b.2.2.1.length:Int)-1&&vl (m7 a.2.2.2.1 1 3)&&vl (Q5 a.2.2.2.2.1 true)&&vl (Q5 a.2.2.2.2.2 true))
  else
   if(a.1==2) then
    Jm c a b (a.1==2)
   else
    Jm c a b (a.1==3)
def O0H:Ct:=b9 253 [.agg y153,.agg y158] (fun x=>Jn x.1 x.2.1) (fun r:Bool=>B r) (fun _=>())
theorem M0P:Ok prog O0H:=by
 refine c8 [.tmp 4] func253 ?_;intro y ⟨a,b,_⟩ r H Q hn hr;have:=hz (tc M0I (tc Y8 tn));refine iA [2,3]<|iB [2,3,5] H fun H=>vQ<|iB [2,3,5,23] H fun H=>cD H (fun H=>iA [4]<|a7<|fR<|hr H) fun H=>vK<|fQ<|qD (fun c=>Z (Y1 [p 5 (I ((a.2.2.1.length:Int)-1)),p 6 (C c.2.2.2)]) [(3,K 158 y158 b),(2,K 153 y153 a)]) H fun c H=>vQ<|iA [2,3,5,6,32]<|vB<|iA [2,3,5,6,32,33]<|cD H (fun H=>iB [4] H fun H=>a7<|h9<|fR<|hr H) fun H=>jN r (fun(f:Bool)=>Z (Y1 [p 5 (I ((a.2.2.1.length:Int)-1)),p 6 (C c.2.2.2),p 32 (J b.1),p 58 (B f)]) [(3,K 158 y158 b),(2,K 153 y153 a)]) (Jm c b a) (fun f H=>?_) (fun _ e j k=>?_)
 ·refine cD H (fun H=>iB [4] H fun H=>a7<|h9<|fR<|hr H) fun H=>jN r (fun(d:Bool)=>Z (Y1 [p 5 (I ((a.2.2.1.length:Int)-1)),p 6 (C c.2.2.2),p 83 (B d)]) [(3,K 158 y158 b),(2,K 153 y153 a)]) (Jl c b a) (fun d H=>?_) (fun _ g h i=>?_)
  ·refine cD H (fun H=>iB [4] H fun H=>a7<|h9<|fR<|hr H) fun H=>vK<|fK<|fQ<|iA [4]<|a7<|hr H
  refine iA [2,3,5,6,32,83]<|cD H (fun H=>vK<|g H) fun H=>jA [2,3,5,6,83]<|g H
 refine iA [2,3,5,6,32,58]<|cD H (fun H=>vK<|e H) fun H=>jA [2,3,5,6,32,58]<|e H
def QA:Int->Option (Int×Bool)
 | a =>
 some (a,true)
def MS(a:Int)(b:Int×Int->Option (Int×Bool)):Int->Option (Int×Bool)
 | c =>
 gd (b7 (a+1)/\True) <|
 b (c,a+1)
def MT(b:Int)(d:Int)(a:A6)(c:k6)(e:Int×Int->Option (Int×Bool)):Unit->Option (Int×Bool)
 | _ =>
 gd ((T8 a.1).isSome/\((!vl (T8 a.1))=false/\True->(m7 a.2.2.1 0 500).isSome)/\True) <|
 if(!vl (T8 a.1)||!vl (m7 a.2.2.1 0 500)) then
  some (((0:Int),false))
 else
  gd (b7 ((c.2.2.1.length:Int)-1)/\((b==(c.2.2.1.length:Int)-1&&(a.2.1 != 2||a.2.2.1 != 0||a.2.2.2))=false/\True->b7 ((c.2.2.1.length:Int)-1))/\True) <|
  if(b==(c.2.2.1.length:Int)-1&&(a.2.1 != 2||a.2.2.1 != 0||a.2.2.2)||decide (b < (c.2.2.1.length:Int)-1)&&a.2.1 != 1) then
   some (((0:Int),false))
  else
   if a.2.2.2 then
    gd (b7 (d+1)/\True) <|
    MS b e (d+1)
   else
    MS b e d
def WN(b:k6)(d:A6)(c:Int)(g:Int)(f:Int×Int->Option (Int×Bool))(e:Int->Option (Int×Bool)):Int->Option (Int×Bool)
 | a =>
 if(decide (a<c)) then
  gd (ix a b.2.2.1.length/\True) <|
  if(decide ((b.2.2.1.getD a.toNat (a6 y293)).1=d.1)) then
   some (((0:Int),false))
  else
   gd (b7 (a+1)/\True) <|
   e (a+1)
 else
  MT c g d b f ()
def WO(b:k6)(d:Int×Int->Option (Int×Bool)):Int×Int->Option (Int×Bool)
 | (c,a) =>
 if(decide (a < (b.2.2.1.length:Int))) then
  gd (ix a b.2.2.1.length/\True)<|lt (b.2.2.1.getD a.toNat (a6 y293)) fun e =>
  lp (WN b e a c d) 0
 else
  QA c
def Jo(a:k6):Option (Int×Bool) :=
 if(decide ((a.2.2.1.length:Int)<2)||decide (5 < (a.2.2.1.length:Int))) then
  some (((0:Int),false))
 else
  lp (WO a) (0,0)
def O0I:Ct:=b9 252 [.agg y153] (fun x=>Jo x.1) (fun r:Int×Bool=>AV.tup [I r.1,B r.2]) (fun _=>())
theorem WQ:Ok prog O0I:=by
 refine c8 [.tmp 2,.tmp 3] func252 ?_;intro y ⟨a,_⟩ r H Q hn hr;have:=hz (tc Y8 (tc MO tn));refine iA [1]<|iA [1,4]<|vQ<|iA [1,4,17]<|cD H (fun H=>iA [2,3]<|a7<|fR<|hr H) fun H=>vK<|fQ<|iA [1,4,5]<|jN r (fun(i:Int)=>Z [p 5 (I i)] []) (QA) (fun i H=>?_) (fun _ n v g=>?_)
 ·refine iA [2,3]<|a7<|hr H
 refine iA [1,4,5,6]<|vB<|lX (fun((c,b):Int×Int)=>Z [p 1 (R 1),p 4 (I (a.2.2.1.length:Int)),p 5 (I c),p 6 (I b)] [(1,K 153 y153 a)]) (0,0) H fun _ k u o e ⟨c,b⟩ H=>vQ<|iA [1,4,5,6,20]<|cD H (fun H=>?_) (fun H=>?_)
 ·refine vK<|fQ<|jN r (fun(j:Int)=>Z [p 1 (R 1),p 4 (I (a.2.2.1.length:Int)),p 5 (I j),p 6 (I b)] [(1,K 153 y153 a)]) (MS b k) (fun j H=>?_) (fun _ h x f=>?_)
  ·refine jB [1,4,5,6] H fun H=>u H
  refine vB<|qD (fun d=>Z [p 1 (R 1),p 4 (I (a.2.2.1.length:Int)),p 5 (I c),p 6 (I b),p 7 (R 7)] [(7,K 293 y293 d),(1,K 153 y153 a)]) H fun d H=>jN r (fun(_:Unit)=>Z [p 1 (R 1),p 4 (I (a.2.2.1.length:Int)),p 5 (I c),p 6 (I b),p 7 (R 7)] [(7,K 293 y293 d),(1,K 153 y153 a)]) (MT b c d a k) (fun _ H=>?_) (fun _ n3 w t=>?_)
  ·refine vQ<|iB [1,4,5,6,7,51] H fun H=>cD H (fun H=>iA [2,3]<|a7<|fR<|h9<|f<|e<|h9<|g<|hr H) fun H=>vK<|fQ<|vQ<|iB [1,4,5,6,7,80] H fun H=>cD H (fun H=>iA [2,3]<|a7<|fR<|h9<|f<|e<|h9<|g<|hr H) fun H=>vK<|fQ<|iA [1,4,5,6,82]<|cD H (fun H=>jB [1,4,5,6] H fun H=>fK<|h H) fun H=>vK<|fK<|h H
  refine iA [1,4,5,6,7,8]<|vB<|lX (fun(l:Int)=>Z [p 1 (R 1),p 4 (I (a.2.2.1.length:Int)),p 5 (I c),p 6 (I b),p 7 (R 7),p 8 (I l)] [(7,K 293 y293 d),(1,K 153 y153 a)]) 0 H fun _ z q m s l H=>vQ<|iA [1,4,5,6,7,8,30]<|cD H (fun H=>?_) (fun H=>?_)
  ·refine vK<|fQ<|vQ<|vB<|iB [1,4,5,6,7,8,41] H fun H=>cD H (fun H=>iA [2,3]<|a7<|h9<|fR<|s<|h9<|t<|h9<|f<|e<|h9<|g<|hr H) fun H=>vK<|fK<|fQ<|jB [1,4,5,6,7,8] H fun H=>q H
  exact vE<|fE<|m<|fX rfl<|n3 H
 exact vE<|fE<|o<|fX rfl<|n H
def WR:Unit->Option Bool
 | _ =>
 some false
def Jp(b:Int×Bool)(a:k6):Unit->Option Bool
 | _ =>
 gd (((b.1==(0:Int))=true/\True->b7 ((a.2.2.1.length:Int)-(1:Int)))/\((b.1==(0:Int))=true/\True->(0:Int)<=(a.2.2.1.length:Int)-(1:Int)/\(a.2.2.1.length:Int)-(1:Int)<=(18446744073709551615:Int))/\((b.1==(0:Int))=true/\True->((0:Int)<=(a.2.2.1.length:Int)-(1:Int)/\(a.2.2.1.length:Int)-(1:Int)<=(62:Int))/\b7 ((1:Int)*(2:Int) ^ ((a.2.2.1.length:Int)-(1:Int)).toNat))/\True) <|
 some (b.1==(0:Int)&&(a.2.2.2.2.1.length:Int)==(1:Int)*(2:c7 i64) ^ ((a.2.2.1.length:Int)-(1:Int)).toNat)
def WS(b:k6)(d:Int×Bool)(c:Int->Option Bool):Int->Option Bool
 | a =>
 if(decide (a < (b.2.2.2.2.1.length:Int))) then
  gd (ix a b.2.2.2.2.1.length/\(m7 (b.2.2.2.2.1.getD a.toNat 0) 0 1).isSome/\True) <|
  if(!vl (m7 (b.2.2.2.2.1.getD a.toNat 0) 0 1)) then
   some false
  else
   gd (b7 (a+1)/\True) <|
   c (a+1)
 else
  Jp d b ()
def MU(c:k6)(b:Int×Bool):Unit->Option Bool
 | _ =>
 gd ((Ji c).isSome/\True)<|lt (vl (Ji c)) fun a =>
 if(c.2.1==1) then
  lp (WS c b) 0
 else
  if(c.2.1==2) then
   gd (((b.1==(1:Int))=true/\True->ix (1:Int) a.length)/\((b.1==(1:Int))=true/\True->Int.toNat (1:Int)<a.length)/\((b.1==(1:Int)&&a.getD (Int.toNat (1:Int)) (0:Int)==(0:Int))=true/\True->ix (2:Int) a.length)/\((b.1==(1:Int)&&a.getD (Int.toNat (1:Int)) (0:Int)==(0:Int))=true/\True->Int.toNat (2:Int)<a.length)/\((b.1==(1:Int)&&a.getD (Int.toNat (1:Int)) (0:Int)==(0:Int))=true/\True->ix (3:Int) a.length)/\((b.1==(1:Int)&&a.getD (Int.toNat (1:Int)) (0:Int)==(0:Int))=true/\True->Int.toNat (3:Int)<a.length)/\True) <|
   some (b.1==(1:Int)&&a.getD (Int.toNat (1:Int)) (0:Int)==(0:Int)&&!decide ((0:Int)<a.getD (Int.toNat (2:Int)) (0:Int))==decide ((0:Int)<a.getD (Int.toNat (3:Int)) (0:Int))&&(c.2.2.2.2.1.length:Int)==(0:Int))
  else
   if(c.2.1==3) then
    gd (((b.1==(1:Int))=true/\True->ix (1:Int) a.length)/\((b.1==(1:Int))=true/\True->Int.toNat (1:Int)<a.length)/\((b.1==(1:Int)&&decide ((0:Int)<a.getD (Int.toNat (1:Int)) (0:Int)))=true/\True->ix (2:Int) a.length)/\((b.1==(1:Int)&&decide ((0:Int)<a.getD (Int.toNat (1:Int)) (0:Int)))=true/\True->Int.toNat (2:Int)<a.length)/\((b.1==(1:Int)&&decide ((0:Int)<a.getD (Int.toNat (1:Int)) (0:Int))&&decide ((0:Int)<a.getD (Int.toNat (2:Int)) (0:Int)))=true/\True->ix (3:Int) a.length)/\((b.1==(1:Int)&&decide ((0:Int)<a.getD (Int.toNat (1:Int)) (0:Int))&&decide ((0:Int)<a.getD (Int.toNat (2:Int)) (0:Int)))=true/\True->Int.toNat (3:Int)<a.length)/\True) <|
    some (b.1==(1:Int)&&decide ((0:Int)<a.getD (Int.toNat (1:Int)) (0:Int))&&decide ((0:Int)<a.getD (Int.toNat (2:Int)) (0:Int))&&a.getD (Int.toNat (3:Int)) (0:Int)==(0:Int)&&(c.2.2.2.2.1.length:Int)==(0:Int))
   else
    WR ()
def WT(a:Int)(b:Int->Option Bool):Unit->Option Bool
 | _ =>
 gd (b7 (a+1)/\True) <|
 b (a+1)
def WU(b:k6)(c:r7)(d:Int)(e:Int->Option Bool)(f:Int->Option Bool):Int->Option Bool
 | a =>
 if(decide (a<d)) then
  gd (ix a b.2.2.2.1.length/\(((b.2.2.2.1.getD a.toNat (a6 y158)).1==c.1)=true/\True->ix a b.2.2.2.1.length)/\(((b.2.2.2.1.getD a.toNat (a6 y158)).1==c.1&&(b.2.2.2.1.getD a.toNat (a6 y158)).2.1==c.2.1)=true/\True->ix a b.2.2.2.1.length)/\True) <|
  if((b.2.2.2.1.getD a.toNat (a6 y158)).1==c.1&&(b.2.2.2.1.getD a.toNat (a6 y158)).2.1==c.2.1&&(b.2.2.2.1.getD a.toNat (a6 y158)).2.2.1==c.2.2.1) then
   some false
  else
   gd (b7 (a+1)/\True) <|
   f (a+1)
 else
  WT d e ()
def WV(a:k6)(e:Int×Bool)(d:Int->Option Bool):Int->Option Bool
 | b =>
 if(decide (b < (a.2.2.2.1.length:Int))) then
  gd (ix b a.2.2.2.1.length/\True)<|lt (a.2.2.2.1.getD b.toNat (a6 y158)) fun c =>
  gd ((Jn a c).isSome/\True) <|
  if(!vl (Jn a c)) then
   some false
  else
   lp (WU a c b d) 0
 else
  MU a e ()
def Jq(a:k6):Option Bool :=
 gd ((Jo a).isSome/\True)<|lt (vl (Jo a)) fun b =>
 gd (((!b.2)=false/\True->(T8 a.1).isSome)/\((!b.2||!vl (T8 a.1)||decide (8 < (a.2.2.2.1.length:Int)))=false/\True->(m7 a.2.2.2.2.2.1 0 100000).isSome)/\((!b.2||!vl (T8 a.1)||decide (8 < (a.2.2.2.1.length:Int))||!vl (m7 a.2.2.2.2.2.1 0 100000))=false/\True->(m7 a.2.2.2.2.2.2 0 100000).isSome)/\True) <|
 if(!b.2||!vl (T8 a.1)||decide (8 < (a.2.2.2.1.length:Int))||!vl (m7 a.2.2.2.2.2.1 0 100000)||!vl (m7 a.2.2.2.2.2.2 0 100000)) then
  some false
 else
  lp (WV a b) 0
def O0Z:Ct:=b9 225 [.agg y153] (fun x=>Jq x.1) (fun r:Bool=>B r) (fun _=>())
theorem M0X:Ok prog O0Z:=by
 refine c8 [.tmp 2] func225 ?_;intro y ⟨b,_⟩ r H Q hn hr;have:=hz (tc Y8 (tc WG (tc M0P (tc MO (tc WQ tn)))));refine iA [1]<|iD WQ [1,3,4] H fun a H=>vQ<|iB [1,3,40] H fun H=>cD H (fun H=>iA [2]<|a7<|fR<|hr H) fun H=>vK<|fQ<|jN r (fun(_:Unit)=>Z (G8 a.1 []) [(1,K 153 y153 b)]) (MU b a) (fun _ H=>?_) (fun _ k G j=>?_)
 ·refine iD WG [1,3,8] H fun _ H=>jN r (fun(_:Unit)=>Z [] []) (WR) (fun _ H=>?_) (fun _ n F d=>?_)
  ·refine iA [2]<|a7<|hr H
  refine iA [1,3,8,96]<|vB<|iA [1,3,8,96,97]<|cD H (fun H=>?_) (fun H=>?_)
  ·refine jN r (fun(_:Unit)=>Z (G8 a.1 []) [(1,K 153 y153 b)]) (Jp a b) (fun _ H=>?_) (fun _ z W E=>?_)
   ·refine iB [2] H fun H=>a7<|h9<|d<|hr H
   refine iA [1,3,9]<|vB<|lX (fun(h:Int)=>Z (G8 a.1 [p 9 (I h)]) [(1,K 153 y153 b)]) 0 H fun _ P q o t h H=>vQ<|iA [1,3,9,103]<|cD H (fun H=>?_) (fun H=>?_)
   ·refine vK<|fQ<|vQ<|vB<|iB [1,3,9,112] H fun H=>cD H (fun H=>iA [2]<|a7<|h9<|fR<|t<|h9<|E<|h9<|d<|hr H) fun H=>vK<|fK<|fQ<|jB [1,3,9] H fun H=>q H
   exact vE<|fE<|o<|fX rfl<|z H
  refine iA [1,3,8,96,127]<|cD H (fun H=>iB [2] H fun H=>a7<|h9<|d<|hr H) fun H=>iA [1,3,8,154]<|cD H (fun H=>iB [2] H fun H=>a7<|h9<|d<|hr H) fun H=>vK<|fK<|n H
 refine iA [1,3,5]<|vB<|lX (fun(c:Int)=>Z (G8 a.1 [p 5 (I c)]) [(1,K 153 y153 b)]) 0 H fun _ w x l f c H=>vQ<|iA [1,3,5,45]<|cD H (fun H=>?_) (fun H=>?_)
 ·refine vK<|fQ<|jN r (fun(_:Unit)=>Z (G8 a.1 [p 5 (I c)]) [(1,K 153 y153 b)]) (WT c w) (fun _ H=>?_) (fun _ m T g=>?_)
  ·refine jB [1,3,5] H fun H=>x H
  refine vB<|qD (fun e=>Z (G8 a.1 [p 5 (I c),p 6 (R 6)]) [(6,K 158 y158 e),(1,K 153 y153 b)]) H fun e H=>vQ<|iB [1,3,5,6,56] H fun H=>cD H (fun H=>iA [2]<|a7<|fR<|h9<|g<|f<|h9<|j<|hr H) fun H=>vK<|fQ<|iA [1,3,5,6,7]<|vB<|lX (fun(i:Int)=>Z (G8 a.1 [p 5 (I c),p 6 (R 6),p 7 (I i)]) [(6,K 158 y158 e),(1,K 153 y153 b)]) 0 H fun _ V v s u i H=>vQ<|iA [1,3,5,6,7,59]<|cD H (fun H=>?_) (fun H=>?_)
  ·refine vK<|fQ<|vQ<|vB<|iB [1,3,5,6,7,92] H fun H=>cD H (fun H=>iA [2]<|a7<|h9<|fR<|u<|h9<|h9<|g<|f<|h9<|j<|hr H) fun H=>vK<|fK<|fQ<|jB [1,3,5,6,7] H fun H=>v H
  exact vE<|fE<|s<|fX rfl<|fK<|m H
 exact vE<|fE<|l<|fX rfl<|k H
def MV(a:List k6):Unit->Option Bool
 | _ =>
 some (decide ((a.length:Int)<=8))
def WW(a:Int)(b:Int->Option Bool):Unit->Option Bool
 | _ =>
 gd (b7 (a+1)/\True) <|
 b (a+1)
def WX(c:List k6)(b:Int)(d:Int->Option Bool)(e:Int->Option Bool):Int->Option Bool
 | a =>
 if(decide (a<b)) then
  gd (ix a c.length/\ix b c.length/\True) <|
  if(decide ((c.getD a.toNat (a6 y153)).1=(c.getD b.toNat (a6 y153)).1)) then
   some false
  else
   gd (b7 (a+1)/\True) <|
   e (a+1)
 else
  WW b d ()
def WY(a:List k6)(c:Int->Option Bool):Int->Option Bool
 | b =>
 if(decide (b < (a.length:Int))) then
  gd (ix b a.length/\(Jq (a.getD b.toNat (a6 y153))).isSome/\True) <|
  if(!vl (Jq (a.getD b.toNat (a6 y153)))) then
   some false
  else
   lp (WX a b c) 0
 else
  MV a ()
def Jr(a:List k6):Option Bool :=
 lp (WY a) 0
def P0J:Ct:=b9 184 [.agg y153.sl] (fun x=>Jr x.1) (fun r:Bool=>B r) (fun _=>())
theorem N0m:Ok prog P0J:=by
 refine c8 [.tmp 2] func184 ?_;intro y ⟨b,_⟩ r H Q hn hr;have:=hz (tc M0X tn);refine iA [1]<|jN r (fun(_:Unit)=>Z [p 1 (R 1)] [(1,bx 49 [L y153 b])]) (MV b) (fun _ H=>?_) (fun _ h o f=>?_)
 ·refine iA [2]<|a7<|hr H
 refine iA [1,3]<|vB<|lX (fun(a:Int)=>Z (G8 a []) [(1,bx 49 [L y153 b])]) 0 H fun _ k l j d a H=>vQ<|iA [1,3,9]<|cD H (fun H=>?_) (fun H=>?_)
 ·refine vK<|fQ<|jN r (fun(_:Unit)=>Z (G8 a []) [(1,bx 49 [L y153 b])]) (WW a k) (fun _ H=>?_) (fun _ n q e=>?_)
  ·refine jB [1,3] H fun H=>l H
  refine vB<|vQ<|iB [1,3,18] H fun H=>cD H (fun H=>iA [2]<|a7<|fR<|h9<|e<|d<|h9<|f<|hr H) fun H=>vK<|fQ<|iA [1,3,4]<|vB<|lX (fun(c:Int)=>Z (G8 a [p 4 (I c)]) [(1,bx 49 [L y153 b])]) 0 H fun _ s i m g c H=>vQ<|iA [1,3,4,21]<|cD H (fun H=>?_) (fun H=>?_)
  ·refine vK<|fQ<|vQ<|vB<|iB [1,3,4,36] H fun H=>cD H (fun H=>iA [2]<|a7<|h9<|fR<|g<|h9<|h9<|e<|d<|h9<|f<|hr H) fun H=>vK<|fK<|fQ<|jB [1,3,4] H fun H=>i H
  exact vE<|fE<|m<|fX rfl<|fK<|n H
 exact vE<|fE<|j<|fX rfl<|h H
def WZ:Unit->Option Bool
 | _ =>
 some true
def Xa(b:List Int)(c:Int->Option Bool):Int->Option Bool
 | a =>
 if(decide (a < (b.length:Int))) then
  gd (ix a b.length/\a.toNat<b.length/\True) <|
  if(b.getD a.toNat 0 != 1) then
   some false
  else
   gd (b7 (a+1)/\True) <|
   c (a+1)
 else
  WZ ()
def Js:List Int->Option Bool
 | a =>
 lp (Xa a) 0
def MW(a:Int)(c:Int×List Int->Option Bool):List Int->Option Bool
 | b =>
 gd (b7 (a+1)/\True) <|
 c (a+1,b)
def Xb(c:m6)(e:Int×List Int->Option Bool):Int×List Int->Option Bool
 | (a,b) =>
 if(decide (a < (c.2.2.length:Int))) then
  gd (ix a c.2.2.length/\True) <|
  if((c.2.2.getD a.toNat (a6 y231)).2.1==1) then
   gd (ix a c.2.2.length/\ix (c.2.2.getD a.toNat (a6 y231)).2.2 b.length/\(c.2.2.getD a.toNat (a6 y231)).2.2.toNat<b.length/\b7 (b.getD (c.2.2.getD a.toNat (a6 y231)).2.2.toNat 0+1)/\ix (c.2.2.getD a.toNat (a6 y231)).2.2 b.length/\(c.2.2.getD a.toNat (a6 y231)).2.2.toNat<b.length/\True)<|lt (b.set (c.2.2.getD a.toNat (a6 y231)).2.2.toNat (b.getD (c.2.2.getD a.toNat (a6 y231)).2.2.toNat 0+1)) fun d =>
   MW a e d
  else
   MW a e b
 else
  Js b
def Jt(b:m6):List Int->Option Bool
 | a =>
 lp (Xb b) (0,a)
def QB(d:m6)(f:Int×List Int->Option Bool):Int×List Int->Option Bool
 | (c,b) =>
 if(decide (c < (d.1.length:Int))) then
  gd (ix c d.1.length/\True)<|lt (d.1.getD c.toNat (a6 y155)) fun a =>
  gd (b7 ((a.2.2.length:Int)-1)/\ix ((a.2.2.length:Int)-1) a.2.2.length/\ix (a.2.2.getD ((a.2.2.length:Int)-1).toNat 0) b.length/\Int.toNat (a.2.2.getD ((a.2.2.length:Int)-1).toNat 0)<b.length/\b7 (b.getD (Int.toNat (a.2.2.getD ((a.2.2.length:Int)-1).toNat 0)) 0+1)/\ix (a.2.2.getD ((a.2.2.length:Int)-1).toNat 0) b.length/\Int.toNat (a.2.2.getD ((a.2.2.length:Int)-1).toNat 0)<b.length/\True)<|lt (b.set (Int.toNat (a.2.2.getD ((a.2.2.length:Int)-1).toNat 0)) (b.getD (Int.toNat (a.2.2.getD ((a.2.2.length:Int)-1).toNat 0)) 0+1)) fun e =>
  gd (b7 (c+1)/\True) <|
  f (c+1,e)
 else
  Jt d b
def Ju(a:m6)(b:List ByteArray):List ByteArray->Option Bool
 | c =>
 gd ((Az b).isSome/\((!vl (Az b))=false/\True->(Az c).isSome)/\((!vl (Az b)||!vl (Az c))=false/\True->(Az a.2.1).isSome)/\True) <|
 if(!vl (Az b)||!vl (Az c)||!vl (Az a.2.1)) then
  some false
 else
  gd ((0<=(a.2.1.length:Int)/\(a.2.1.length:Int)=(a.2.1.length:Int)/\(a.2.1.length:Int).toNat*8<=281474976710656/\(a.2.1.length:Int)<=9223372036854775807)/\True) <|
  lp (QB a) ((0,List.replicate (a.2.1.length:Int).toNat 0))
def Xc(b:m6)(d:List ByteArray)(e:Int×List ByteArray->Option Bool):Int×List ByteArray->Option Bool
 | (a,c) =>
 if(decide (a < (b.2.2.length:Int))) then
  gd (ix a b.2.2.length/\(c.length+[(b.2.2.getD a.toNat (a6 y231)).1].length<=9223372036854775807/\(c.length+[(b.2.2.getD a.toNat (a6 y231)).1].length)*16<=140737488355328)/\True) <|
  gd (b7 (a+1)/\True) <|
  e ((a+1,c++[(b.2.2.getD a.toNat (a6 y231)).1]))
 else
  Ju b d c
def Jv(b:m6):List ByteArray->Option Bool
 | a =>
 lp (Xc b a) (0,[])
def Xe(b:m6)(d:Int×List ByteArray->Option Bool):Int×List ByteArray->Option Bool
 | (a,c) =>
 if(decide (a < (b.1.length:Int))) then
  gd (ix a b.1.length/\(c.length+[(b.1.getD a.toNat (a6 y155)).1].length<=9223372036854775807/\(c.length+[(b.1.getD a.toNat (a6 y155)).1].length)*16<=140737488355328)/\True) <|
  gd (b7 (a+1)/\True) <|
  d ((a+1,c++[(b.1.getD a.toNat (a6 y155)).1]))
 else
  Jv b c
def Jw(b:List k6)(a:m6):Option Bool :=
 gd ((Jr b).isSome/\((!vl (Jr b)||decide (14 < (a.1.length:Int))||decide (30 < (a.2.1.length:Int))||decide (8 < (a.2.2.length:Int)))=false/\True->(MQ b a).isSome)/\True) <|
 if(!vl (Jr b)||decide (14 < (a.1.length:Int))||decide (30 < (a.2.1.length:Int))||decide (8 < (a.2.2.length:Int))||!vl (MQ b a)) then
  some false
 else
  lp (Xe a) (0,[])
def Q0y:Ct:=b9 138 [.agg y153.sl,.agg y53] (fun x=>Jw x.1 x.2.1) (fun r:Bool=>B r) (fun _=>())
theorem N0F:Ok prog Q0y:=by
 refine c8 [.tmp 4] func138 ?_;intro y ⟨_,a,_⟩ r H Q hn hr;have:=hz (tc N0k (tc N0l (tc N0m tn)));refine iA [2,3]<|vQ<|iB [3,40] H fun H=>cD H (fun H=>iA [4]<|a7<|fR<|hr H) fun H=>vK<|fQ<|iA [3,5]<|jN r (fun(h:List ByteArray)=>Z [p 3 (R 3),p 5 (O 41)] [(41,A 9 Ty.str h 0),(3,K 53 y53 a)]) (Jv a) (fun h H=>?_) (fun _ E e0 t0=>?_)
 ·refine iA [3,5,7]<|jN r (fun(w:List ByteArray)=>Z [p 3 (R 3),p 5 (O 41),p 7 (O 58)] [(58,A 9 Ty.str w 0),(41,A 9 Ty.str h 0),(3,K 53 y53 a)]) (Ju a h) (fun w H=>?_) (fun _ G e2 t2=>?_)
  ·refine vQ<|iB [3,88] H fun H=>cD H (fun H=>iA [4]<|a7<|fR<|hr H) fun H=>vK<|fQ<|iB [3,9] H fun H=>jN r (fun(d:List Int)=>Z [p 3 (R 3),p 9 (O 92)] (DO d a)) (Jt a) (fun d H=>?_) (fun _ T e4 t4=>?_)
   ·refine jN r (fun(c:List Int)=>Z [p 9 (O 92)] [(92,A 2 i64 c 0)]) (Js) (fun c H=>?_) (fun _ Y e6 t6=>?_)
    ·refine jN r (fun(_:Unit)=>Z [] []) (WZ) (fun _ H=>?_) (fun _ n9 e9 P=>?_)
     ·refine iA [4]<|a7<|hr H
     refine iA [9,13]<|vB<|lX (fun(f:Int)=>Z [p 9 (O 92),p 13 (I f)] [(92,A 2 i64 c 0)]) 0 H fun _ W q o n f H=>vQ<|iA [9,13,145]<|cD H (fun H=>?_) (fun H=>?_)
     ·refine vK<|fQ<|vQ<|vB<|iB [9,13,152] H fun H=>cD H (fun H=>iA [4]<|a7<|h9<|fR<|n<|h9<|P<|hr H) fun H=>vK<|fK<|fQ<|jB [9,13] H fun H=>q H
     exact vE<|fE<|o<|fX rfl<|n9 H
    refine iA [3,9,12]<|vB<|lX (fun((b,k):Int×List Int)=>Z [p 3 (R 3),p 9 (O 92),p 12 (I b)] (DO k a)) (0,d) H fun _ g7 z e7 t7 ⟨b,k⟩ H=>vQ<|iA [3,9,12,121]<|cD H (fun H=>?_) (fun H=>?_)
    ·refine vK<|fQ<|jN r (fun(j:List Int)=>Z [p 3 (R 3),p 9 (O 92),p 12 (I b)] (DO j a)) (MW b g7) (fun j H=>?_) (fun _ t e8 t8=>?_)
     ·refine jB [3,9,12] H fun H=>z H
     refine vB<|iB [3,9,12,130] H fun H=>cD H (fun H=>zD (fun l=>Z [p 3 (R 3),p 9 (O 92),p 12 (I b)] (DO l a)) H fun l H=>fK<|t H) fun H=>vK<|fK<|t H
    exact vE<|fE<|e7<|fX rfl<|Y H
   refine iA [3,9,10]<|vB<|lX (fun((m,e):Int×List Int)=>Z [p 3 (R 3),p 9 (O 92),p 10 (I m)] (DO e a)) ((0,List.replicate (a.2.1.length:Int).toNat 0)) H fun _ g5 X e5 t5 ⟨m,e⟩ H=>vQ<|iA [3,9,10,97]<|cD H (fun H=>vK<|fQ<|vQ<|vB<|qD (fun g=>Z [p 3 (R 3),p 9 (O 92),p 10 (I m),p 11 (L i64 g.2.2)] (DO e a)) H fun g H=>zD (fun i=>Z [p 3 (R 3),p 9 (O 92),p 10 (I m)] (DO i a)) H fun i H=>fK<|fQ<|jB [3,9,10] H fun H=>X H) fun H=>vE<|fE<|e5<|fX rfl<|T H
  refine iA [3,5,7,8]<|vB<|lX (fun((s,x):Int×List ByteArray)=>Z [p 3 (R 3),p 5 (O 41),p 7 (O 58),p 8 (I s)] [(58,A 9 Ty.str x 0),(41,A 9 Ty.str h 0),(3,K 53 y53 a)]) (0,[]) H fun _ g3 b3 V t3 ⟨s,x⟩ H=>vQ<|iA [3,5,7,8,63]<|cD H (fun H=>vK<|fQ<|vQ<|vB<|jB [3,5,7,8] H fun H=>fK<|fQ<|jB [3,5,7,8] H fun H=>b3 H) fun H=>vE<|fE<|V<|fX rfl<|G H
 refine iA [3,5,6]<|vB<|lX (fun((v,u):Int×List ByteArray)=>Z [p 3 (R 3),p 5 (O 41),p 6 (I v)] [(41,A 9 Ty.str u 0),(3,K 53 y53 a)]) (0,[]) H fun _ g1 b1 F t1 ⟨v,u⟩ H=>vQ<|iA [3,5,6,46]<|cD H (fun H=>vK<|fQ<|vQ<|vB<|jB [3,5,6] H fun H=>fK<|fQ<|jB [3,5,6] H fun H=>b1 H) fun H=>vE<|fE<|F<|fX rfl<|E H
def Xf:Unit->Option Bool
 | _ =>
 some true
def Xg(b:j0)(d:Int->Option Bool):Int->Option Bool
 | a =>
 if(decide (a < (b.2.2.length:Int))) then
  gd (ix a b.2.2.length/\(Y5 b.2.1 a).isSome/\(Jh (b.2.2.getD a.toNat (a6 y172)) (↑(vl (Y5 b.2.1 a)).length:Int)).isSome/\True)<|lt (vl (Y5 b.2.1 a)) fun c =>
  if(!vl (Jh (b.2.2.getD a.toNat (a6 y172)) (c.length:Int))) then
   some false
  else
   gd (b7 (a+1)/\True) <|
   d (a+1)
 else
  Xf ()
def V7(a:j0):Option Bool :=
 gd ((Jw a.1 a.2.1).isSome/\True) <|
 if(!vl (Jw a.1 a.2.1)||(a.2.2.length:Int) != (a.2.1.2.1.length:Int)) then
  some false
 else
  lp (Xg a) 0
def k83:Ct:=b9 83 [.agg j7] (fun x=>V7 x.1) (fun r:Bool=>B r) (fun _=>())
theorem QC:Ok prog k83:=by
 refine c8 [.tmp 2] func83 ?_;intro y ⟨g,_⟩ r H Q hn hr;have:=hz (tc N0E (tc GB (tc N0F tn)));refine iA [1]<|vQ<|iB [1,19] H fun H=>cD H (fun H=>iA [2]<|a7<|fR<|hr H) fun H=>vK<|fQ<|jN r (fun(_:Unit)=>Z [] []) (Xf) (fun _ H=>?_) (fun _ b i f=>?_)
 ·refine iA [2]<|a7<|hr H
 refine iA [1,3]<|vB<|lX (fun(a:Int)=>Z (G8 a []) [(1,K 56 j7 g)]) 0 H fun _ h e c d a H=>vQ<|iA [1,3,24]<|cD H (fun H=>?_) (fun H=>?_)
 ·refine vK<|fQ<|vQ<|vB<|iD GB [1,3,38] H fun _ H=>cD H (fun H=>iA [2]<|a7<|h9<|fR<|d<|h9<|f<|hr H) fun H=>vK<|fK<|fQ<|jB [1,3] H fun H=>e H
 exact vE<|fE<|c<|fX rfl<|b H
def CS(a:j0)(b:List Int):Option Int :=
 gd ((V7 a).isSome/\True) <|
 if(!vl (V7 a)) then
  some 1
 else
  gd ((Bl a).isSome/\(ML b (↑(vl (Bl a)).length:Int)).isSome/\True)<|lt (vl (Bl a)) fun c =>
  if(!vl (ML b (c.length:Int))) then
   some 2
  else
   some 0
def Q0F:Ct:=b9 124 [.agg j7,.dat i64.sl] (fun x=>CS x.1 x.2.1) (fun r:Int=>I r) (fun _=>())
theorem MX:Ok prog Q0F:=by
 refine c8 [.tmp 4] func124 ?_;intro y ⟨_,_,_⟩ r H Q hn hr;have:=hz (tc N0o (tc GJ (tc QC tn)));refine iA [1,2]<|vQ<|iB [1,2,7] H fun H=>cD H (fun H=>iA [4]<|a7<|fR<|hr H) fun H=>vK<|fQ<|vQ<|iD GJ [13] H fun _ H=>cD H (fun H=>iA [4]<|a7<|fR<|hr H) fun H=>vK<|fQ<|iA [4]<|a7<|hr H
def Jx(a:j0)(b:List Int):Option (List Int×Int) :=
 gd ((CS a b).isSome/\True)<|lt (vl (CS a b)) fun e =>
 if(e != 0) then
  some ([],e)
 else
  gd ((Bl a).isSome/\True)<|lt (vl (Bl a)) fun c =>
  gd ((L5 a).isSome/\(Bk c b).isSome/\(Jg (vl (L5 a)) c (vl (Bk c b))).isSome/\True)<|lt ((vl (Jg (vl (L5 a)) c (vl (Bk c b))),vl (Bk c b))) fun(d,_) =>
  if(!d.2) then
   some (([],(7:Int)))
  else
   some ((d.1,(0:Int)))
def Q0D:Ct:=b9 126 [.agg j7,.dat i64.sl] (fun x=>Jx x.1 x.2.1) (fun r:List Int×Int=>AV.tup [AV.ow 2 true i64 r.1,I r.2]) (fun _=>())
theorem Xh:Ok prog Q0D:=by
 refine c8 [.tmp 4,.tmp 5] func126 ?_;intro y ⟨d,_,_⟩ r H Q hn hr;have:=hz (tc N0n (tc VV (tc Jb (tc GJ (tc MX tn)))));refine iA [1,2]<|vQ<|iD MX [1,2,6] H fun _ H=>iA [1,2,6,14]<|cD H (fun H=>iA [4,5]<|a7<|fR<|hr H) fun H=>vK<|fQ<|iD GJ [1,2,7] H fun c H=>qD (fun(a,b)=>Z [p 8 (O 26),p 9 (B a.2)] [(26,A 2 i64 a.1 0),(25,A 4 Ty.bool b 0),(18,A 138 y138 c 0),(2,K 56 j7 d)]) H fun⟨a,b⟩ H =>
  vQ <|
  iA [8,30] <|
  cD H (fun H=>iA [4,5]<|a7<|fR<|hr H) fun H=>vK<|fQ<|iA [4,5]<|a7<|hr H
def Bm(a:q7):Option Bool :=
 some (decide (0<=a.1)&&decide (a.1<=a.2)&&decide (a.2<=1000000))
def Q0v:Ct:=b9 141 [.agg y73] (fun x=>Bm x.1) (fun r:Bool=>B r) (fun _=>())
theorem Xi:Ok prog Q0v:=by
 refine c8 [.tmp 2] func141 ?_;intro y ⟨_,_⟩ r H Q hn hr;refine iA [1]<|iA [2]<|a7<|hr H
def O3(a:q7):Option Bool :=
 gd ((m7 a.1 (-1000000000) 1000000000).isSome/\(vl (m7 a.1 (-1000000000) 1000000000)=true/\True->(m7 a.2 (-1000000000) 1000000000).isSome)/\True) <|
 some (vl (m7 a.1 (-1000000000) 1000000000)&&vl (m7 a.2 (-1000000000) 1000000000)&&decide (a.1<=a.2))
def k62:Ct:=b9 62 [.agg y73] (fun x=>O3 x.1) (fun r:Bool=>B r) (fun _=>())
theorem QD:Ok prog k62:=by
 refine c8 [.tmp 2] func62 ?_;intro y ⟨_,_⟩ r H Q hn hr;have:=hz (tc Y8 tn);refine iA [1]<|iB [2] H fun H=>a7<|hr H
def Xj:Unit->Option Bool
 | _ =>
 some true
def Xk(b:List l6)(c:Int)(d:Int->Option Bool):Int->Option Bool
 | a =>
 if(decide (a < (b.length:Int))) then
  gd (ix a b.length/\b7 (c-1)/\(m7 (b.getD a.toNat (a6 y75)).1 0 (c-1)).isSome/\(decide (0<a)=true/\(!vl (m7 (b.getD a.toNat (a6 y75)).1 0 (c-1)))=false/\True->b7 (a-1))/\(decide (0<a)=true/\(!vl (m7 (b.getD a.toNat (a6 y75)).1 0 (c-1)))=false/\True->ix (a-1) b.length)/\(decide (0<a)=true/\(!vl (m7 (b.getD a.toNat (a6 y75)).1 0 (c-1)))=false/\True->ix a b.length)/\((!vl (m7 (b.getD a.toNat (a6 y75)).1 0 (c-1))||decide (0<a)&&decide ((b.getD a.toNat (a6 y75)).1<=(b.getD (a-1).toNat (a6 y75)).1))=false/\True->ix a b.length)/\((!vl (m7 (b.getD a.toNat (a6 y75)).1 0 (c-1))||decide (0<a)&&decide ((b.getD a.toNat (a6 y75)).1<=(b.getD (a-1).toNat (a6 y75)).1))=false/\True->(O3 (b.getD a.toNat (a6 y75)).2.1).isSome)/\((!vl (m7 (b.getD a.toNat (a6 y75)).1 0 (c-1))||decide (0<a)&&decide ((b.getD a.toNat (a6 y75)).1<=(b.getD (a-1).toNat (a6 y75)).1)||!vl (O3 (b.getD a.toNat (a6 y75)).2.1))=false/\True->ix a b.length)/\((!vl (m7 (b.getD a.toNat (a6 y75)).1 0 (c-1))||decide (0<a)&&decide ((b.getD a.toNat (a6 y75)).1<=(b.getD (a-1).toNat (a6 y75)).1)||!vl (O3 (b.getD a.toNat (a6 y75)).2.1))=false/\True->(Bm (b.getD a.toNat (a6 y75)).2.2).isSome)/\True) <|
  if(!vl (m7 (b.getD a.toNat (a6 y75)).1 0 (c-1))||decide (0<a)&&decide ((b.getD a.toNat (a6 y75)).1<=(b.getD (a-1).toNat (a6 y75)).1)||!vl (O3 (b.getD a.toNat (a6 y75)).2.1)||!vl (Bm (b.getD a.toNat (a6 y75)).2.2)) then
   some false
  else
   gd (b7 (a+1)/\True) <|
   d (a+1)
 else
  Xj ()
def Jy(a:j0)(c:List l6):Option Bool :=
 gd ((L5 a).isSome/\True)<|lt (vl (L5 a)) fun b =>
 lp (Xk c b) 0
def Q0E:Ct:=b9 125 [.agg j7,.dat y75.sl] (fun x=>Jy x.1 x.2.1) (fun r:Bool=>B r) (fun _=>())
theorem N0G:Ok prog Q0E:=by
 refine c8 [.tmp 4] func125 ?_;intro y ⟨_,e,_⟩ r H Q hn hr;have:=hz (tc Xi (tc QD (tc Y8 (tc Jb tn))));refine iA [1,2]<|iD Jb [1,5] H fun h H=>jN r (fun(_:Unit)=>Z [] []) (Xj) (fun _ H=>?_) (fun _ b j g=>?_)
 ·refine iA [4]<|a7<|hr H
 refine iA [1,5,6]<|vB<|lX (fun(a:Int)=>Z [p 1 (L y75 e),p 5 (I h),p 6 (I a)] []) 0 H fun _ i f c d a H=>vQ<|iA [1,5,6,12]<|cD H (fun H=>?_) (fun H=>?_)
 ·refine vK<|fQ<|vQ<|vB<|iB [1,5,6,59] H fun H=>cD H (fun H=>iA [4]<|a7<|h9<|fR<|d<|h9<|g<|hr H) fun H=>vK<|fK<|fQ<|jB [1,5,6] H fun H=>f H
 exact vE<|fE<|c<|fX rfl<|b H
def Jz(a:p7):Unit->Option Bool
 | _ =>
 gd ((T8 a.1).isSome/\True) <|
 some (vl (T8 a.1)&&decide (a.2.1<=a.2.2.1)&&decide (a.2.2.2.1<=a.2.2.2.2))
def MY(b:List Int)(d:p7)(c:Int->Option Bool):Int->Option Bool
 | a =>
 if(decide (a < (b.length:Int))) then
  gd (ix a b.length/\a.toNat<b.length/\(m7 (b.getD a.toNat 0) 100 5000).isSome/\True) <|
  if(!vl (m7 (b.getD a.toNat 0) 100 5000)) then
   some false
  else
   gd (b7 (a+1)/\True) <|
   c (a+1)
 else
  Jz d ()
def Ca(a:p7):Option Bool :=
 lt ([a.2.1,a.2.2.1,a.2.2.2.1,a.2.2.2.2]) fun b =>
 lp (MY b a) 0
def k84:Ct:=b9 84 [.agg u5] (fun x=>Ca x.1) (fun r:Bool=>B r) (fun _=>())
theorem Xm:Ok prog k84:=by
 refine c8 [.tmp 2] func84 ?_;intro y ⟨a,_⟩ r H Q hn hr;have:=hz (tc MO (tc Y8 tn));refine iA [1]<|qC (fun b=>Z [p 1 (R 1),p 3 (O 13)] [(13,A 2 i64 b 0),(1,K 58 u5 a)]) H fun b H=>jN r (fun(_:Unit)=>Z [p 1 (R 1)] [(1,K 58 u5 a)]) (Jz a) (fun _ H=>?_) (fun _ d j h=>?_)
 ·refine iB [2] H fun H=>a7<|hr H
 refine iA [1,3,4]<|vB<|lX (fun(c:Int)=>Z [p 1 (R 1),p 3 (O 13),p 4 (I c)] [(13,A 2 i64 b 0),(1,K 58 u5 a)]) 0 H fun _ i g e f c H=>vQ<|iA [1,3,4,17]<|cD H (fun H=>?_) (fun H=>?_)
 ·refine vK<|fQ<|vQ<|vB<|iB [1,3,4,25] H fun H=>cD H (fun H=>iA [2]<|a7<|h9<|fR<|f<|h9<|h<|hr H) fun H=>vK<|fK<|fQ<|jB [1,3,4] H fun H=>g H
 exact vE<|fE<|e<|fX rfl<|d H
def JA(a:j0)(d:p7)(b:List Int)(c:List l6):Option (List Int×Int) :=
 gd ((V7 a).isSome/\((!vl (V7 a))=false/\True->(Ca d).isSome)/\True) <|
 if(!vl (V7 a)||!vl (Ca d)) then
  some (([],(1:Int)))
 else
  gd ((CS a b).isSome/\((vl (CS a b) != 0)=false/\True->(Jy a c).isSome)/\True)<|lt (vl (CS a b)) fun f =>
  if(f != 0||!vl (Jy a c)) then
   some (([],(2:Int)))
  else
   gd ((Jx a b).isSome/\True)<|lt (vl (Jx a b)) fun e =>
   some e
def k67:Ct:=b9 67 [.agg j7,.agg u5,.dat i64.sl,.dat y75.sl] (fun x=>JA x.1 x.2.1 x.2.2.1 x.2.2.2.1) (fun r:List Int×Int=>AV.tup [AV.ow 2 true i64 r.1,I r.2]) (fun _=>())
theorem Xn:Ok prog k67:=by
 refine c8 [.tmp 8,.tmp 9] func67 ?_;intro y ⟨_,_,_,_,_⟩ r H Q hn hr;have:=hz (tc Xh (tc N0G (tc MX (tc Xm (tc QC tn)))));refine iA [2,3,4,5]<|vQ<|iB [2,3,4,17] H fun H=>cD H (fun H=>iA [8,9]<|a7<|fR<|hr H) fun H=>vK<|fQ<|vQ<|iD MX [2,4,28] H fun _ H=>cD H (fun H=>iA [8,9]<|a7<|fR<|hr H) fun H=>vK<|fQ<|iD Xh [8,9] H fun _ H=>a7<|hr H
def Xo:Unit->Option Bool
 | _ =>
 some true
def Xp(b:A0)(d:Int->Option Bool):Int->Option Bool
 | a =>
 if(decide (a < (b.1.length:Int))) then
  gd (ix a b.2.1.length/\(O3 (b.2.1.getD a.toNat (a6 y73))).isSome/\((!vl (O3 (b.2.1.getD a.toNat (a6 y73))))=false/\True->ix a b.2.2.length)/\((!vl (O3 (b.2.1.getD a.toNat (a6 y73))))=false/\True->(Bm (b.2.2.getD a.toNat (a6 y73))).isSome)/\((!vl (O3 (b.2.1.getD a.toNat (a6 y73)))||!vl (Bm (b.2.2.getD a.toNat (a6 y73))))=false/\True->ix a b.1.length)/\((!b.1.getD a.toNat false)=true/\(!vl (O3 (b.2.1.getD a.toNat (a6 y73)))||!vl (Bm (b.2.2.getD a.toNat (a6 y73))))=false/\True->ix a b.2.1.length)/\((!((b.2.1.getD a.toNat (a6 y73)).1==0&&((b.2.1.getD a.toNat (a6 y73)).2==0&&true)))=false/\(!b.1.getD a.toNat false)=true/\(!vl (O3 (b.2.1.getD a.toNat (a6 y73)))||!vl (Bm (b.2.2.getD a.toNat (a6 y73))))=false/\True->ix a b.2.2.length)/\True)<|lt (!vl (O3 (b.2.1.getD a.toNat (a6 y73)))||!vl (Bm (b.2.2.getD a.toNat (a6 y73)))||!b.1.getD a.toNat false&&(!((b.2.1.getD a.toNat (a6 y73)).1==0&&((b.2.1.getD a.toNat (a6 y73)).2==0&&true))||!((b.2.2.getD a.toNat (a6 y73)).1==0&&((b.2.2.getD a.toNat (a6 y73)).2==0&&true)))) fun c =>
  if c then
   some false
  else
   gd (b7 (a+1)/\True) <|
   d (a+1)
 else
  Xo ()
def JB(b:Int)(a:A0):Option Bool :=
 if((a.1.length:Int) != b||(a.2.1.length:Int) != b||(a.2.2.length:Int) != b) then
  some false
 else
  lp (Xp a) 0
def k85:Ct:=b9 85 [.dat i64,.agg y65] (fun x=>JB x.1 x.2.1) (fun r:Bool=>B r) (fun _=>())
theorem o85:Ok prog k85:=by
 refine c8 [.tmp 4] func85 ?_;intro y ⟨_,c,_⟩ r H Q hn hr;have:=hz (tc Xi (tc QD tn));refine iA [0,3]<|vQ<|iA [3,24]<|cD H (fun H=>iA [4]<|a7<|fR<|hr H) fun H=>vK<|fQ<|jN r (fun(_:Unit)=>Z [] []) (Xo) (fun _ H=>?_) (fun _ d j h=>?_)
 ·refine iA [4]<|a7<|hr H
 refine iA [3,5]<|vB<|lX (fun(a:Int)=>Z [p 3 (R 3),p 5 (I a)] [(3,K 65 y65 c)]) 0 H fun _ i g e f a H=>vQ<|iA [3,5,29]<|cD H (fun H=>?_) (fun H=>?_)
 ·refine vK<|fQ<|vQ<|vB<|qD (fun b=>Z [p 3 (R 3),p 5 (I a),p 73 (B b)] [(3,K 65 y65 c)]) H fun b H=>cD H (fun H=>iA [4]<|a7<|h9<|fR<|f<|h9<|h<|hr H) fun H=>vK<|fK<|fQ<|jB [3,5] H fun H=>g H
 exact vE<|fE<|e<|fX rfl<|d H
def JC(a:j0)(b:p7)(e:List Int)(c:List l6)(d:A0):Option Int :=
 gd ((V7 a).isSome/\((!vl (V7 a))=false/\True->(Ca b).isSome)/\((!vl (V7 a)||!vl (Ca b))=false/\True->(L5 a).isSome)/\((!vl (V7 a)||!vl (Ca b))=false/\True->(JB (vl (L5 a)) d).isSome)/\True) <|
 if(!vl (V7 a)||!vl (Ca b)||!vl (JB (vl (L5 a)) d)) then
  some 1
 else
  gd ((JA a b e c).isSome/\True)<|lt (vl (JA a b e c)) fun f =>
  some f.2
def k40:Ct:=b9 40 [.agg j7,.agg u5,.dat i64.sl,.dat y75.sl,.agg y65] (fun x=>JC x.1 x.2.1 x.2.2.1 x.2.2.2.1 x.2.2.2.2.1) (fun r:Int=>I r) (fun _=>())
theorem Xq:Ok prog k40:=by
 refine c8 [.tmp 10] func40 ?_;intro y ⟨_,_,_,_,_,_⟩ r H Q hn hr;have:=hz (tc Xn (tc o85 (tc Jb (tc Xm (tc QC tn)))));refine iA [2,3,5,6,9]<|vQ<|iB [2,3,5,6,27] H fun H=>cD H (fun H=>iA [10]<|a7<|fR<|hr H) fun H=>vK<|fQ<|iD Xn [12] H fun _ H=>iA [10]<|a7<|hr H
def Xr:List Int->Option (List Int)
 | a =>
 some a
def H0N(c:List Int)(d:Int×List Int->Option (List Int)):Int×List Int->Option (List Int)
 | (a,b) =>
 if(decide (a < (c.length:Int))) then
  gd (ix a c.length/\ix a b.length/\a.toNat<b.length/\True) <|
  gd (b7 (a+1)/\True) <|
  d ((a+1,b.set a.toNat (c.getD a.toNat 0)))
 else
  Xr b
def C3(a:List Int):Option (List Int) :=
 gd ((0<=(a.length:Int)/\(a.length:Int)=(a.length:Int)/\(a.length:Int).toNat*8<=281474976710656/\(a.length:Int)<=9223372036854775807)/\True) <|
 lp (H0N a) ((0,List.replicate (a.length:Int).toNat 0))
def k14:Ct:=b9 14 [.dat i64.sl] (fun x=>C3 x.1) (fun r:List Int=>AV.ow 2 true i64 r) (fun _=>())
theorem O4:Ok prog k14:=by
 refine c8 [.tmp 2] func14 ?_;intro y ⟨d,_⟩ r H Q hn hr;refine iA [0]<|iB [0,3] H fun H=>jN r (fun(c:List Int)=>Z [p 3 (O 7)] [(7,A 2 i64 c 0)]) (Xr) (fun c H=>?_) (fun _ e j k=>?_)
 ·refine iA [2]<|a7<|hr H
 refine iA [0,3,4]<|vB<|lX (fun((b,a):Int×List Int)=>Z [p 0 (L i64 d),p 3 (O 7),p 4 (I b)] [(7,A 2 i64 a 0)]) ((0,List.replicate (d.length:Int).toNat 0)) H fun _ i g f h ⟨b,a⟩ H=>vQ<|iA [0,3,4,11]<|cD H (fun H=>vK<|fQ<|vQ<|vB<|jB [0,3,4] H fun H=>fK<|fQ<|jB [0,3,4] H fun H=>g H) fun H=>vE<|fE<|f<|fX rfl<|e H
def GL(a:Aq):Option w9 :=
 gd ((C3 a.1).isSome/\True)<|lt (vl (C3 a.1)) fun e =>
 gd ((C3 a.2.1).isSome/\True)<|lt (vl (C3 a.2.1)) fun c =>
 gd ((C3 a.2.2.1).isSome/\True)<|lt (vl (C3 a.2.2.1)) fun b =>
 gd ((C3 a.2.2.2).isSome/\True)<|lt (vl (C3 a.2.2.2)) fun d =>
 some (e,c,b,d)
def k98:Ct:=b9 98 [.agg y146] (fun x=>GL x.1) (fun r:w9=>AV.agg [AV.ow 2 true i64 r.1,AV.ow 2 true i64 r.2.1,AV.ow 2 true i64 r.2.2.1,AV.ow 2 true i64 r.2.2.2]) (fun _=>())
theorem o98:Ok prog k98:=by
 refine c8 [.cell 2 172] func98 ?_;intro y ⟨_,_⟩ r H Q hn hr;have:=hz (tc O4 tn);refine iA [1,2]<|iA [1,2,3]<|iD O4 [1,2,3] H fun _ H=>iD O4 [1,2,3] H fun _ H=>iD O4 [1,2,3] H fun _ H=>iD O4 [2,3] H fun _ H=>iA [2]<|a7<|hr H
def N0U:Ct:=b9 98 [.agg y146] (fun x=>GL x.1) (fun r=>frz ((fun r:w9=>AV.agg [AV.ow 2 true i64 r.1,AV.ow 2 true i64 r.2.1,AV.ow 2 true i64 r.2.2.1,AV.ow 2 true i64 r.2.2.2]) r)) (fun _=>())
theorem M0r:Ok prog N0U:=GM o98
def Xs:List w9->Option (List w9)
 | a =>
 some a
def H0A(c:List Aq)(e:Int×List w9->Option (List w9)):Int×List w9->Option (List w9)
 | (a,b) =>
 if(decide (a < (c.length:Int))) then
  gd (ix a c.length/\(GL (c.getD a.toNat (a6 y146))).isSome/\ix a b.length/\a.toNat<b.length/\True)<|lt (vl (GL (c.getD a.toNat (a6 y146)))) fun d =>
  gd (b7 (a+1)/\True) <|
  e (a+1,b.set a.toNat d)
 else
  Xs b
def JD(a:List Aq):Option (List w9) :=
 gd ((0<=(a.length:Int)/\(a.length:Int)=(a.length:Int)/\(a.length:Int).toNat*96<=281474976710656/\(a.length:Int)<=9223372036854775807)/\True) <|
 lp (H0A a) ((0,List.replicate (a.length:Int).toNat ([],[],[],[])))
def k47:Ct:=b9 47 [.dat y146.sl] (fun x=>JD x.1) (fun r:List w9=>AV.ow 172 true y172 r) (fun _=>())
theorem Xt:Ok prog k47:=by
 refine c8 [.tmp 2] func47 ?_;intro y ⟨c,_⟩ r H Q hn hr;have:=hz (tc M0r tn);refine iA [0]<|iB [0,3] H fun H=>jN r (fun(e:List w9)=>Z [p 3 (O 7)] [(7,A 172 y172 e 0)]) (Xs) (fun e H=>?_) (fun _ f k l=>?_)
 ·refine iA [2]<|a7<|hr H
 refine iA [0,3,4]<|vB<|lX (fun((a,b):Int×List w9)=>Z [p 0 (L y146 c),p 3 (O 7),p 4 (I a)] [(7,A 172 y172 b 0)]) ((0,List.replicate (c.length:Int).toNat ([],[],[],[]))) H fun _ j h g i ⟨a,b⟩ H=>vQ<|iA [0,3,4,11]<|cD H (fun H=>vK<|fQ<|vQ<|vB<|zD (fun d=>Z [p 0 (L y146 c),p 3 (O 7),p 4 (I a)] [(7,A 172 y172 (b.set a.toNat d) 0)]) H fun d H=>fK<|fQ<|jB [0,3,4] H fun H=>h H) fun H=>vE<|fE<|g<|fX rfl<|f H
def JE(a:Ar):Option D3 :=
 some a
def Q0q:Ct:=b9 146 [.agg y221] (fun x=>JE x.1) (fun r:D3=>AV.agg [S r.1,I r.2.1,I r.2.2]) (fun _=>())
theorem Xu:Ok prog Q0q:=by
 refine c8 [.cell 2 231] func146 ?_;intro y ⟨_,_⟩ r H Q hn hr;refine iA [1,2]<|iA [1,2,3]<|iA [1,2,3]<|iA [1,2,3]<|iA [2,3]<|iA [2]<|a7<|hr H
def Xw:List D3->Option (List D3)
 | a =>
 some a
def H0n(c:List Ar)(e:Int×List D3->Option (List D3)):Int×List D3->Option (List D3)
 | (a,b) =>
 if(decide (a < (c.length:Int))) then
  gd (ix a c.length/\(JE (c.getD a.toNat (a6 y221))).isSome/\ix a b.length/\a.toNat<b.length/\True)<|lt (vl (JE (c.getD a.toNat (a6 y221)))) fun d =>
  gd (b7 (a+1)/\True) <|
  e (a+1,b.set a.toNat d)
 else
  Xw b
def JF(a:List Ar):Option (List D3) :=
 gd ((0<=(a.length:Int)/\(a.length:Int)=(a.length:Int)/\(a.length:Int).toNat*32<=281474976710656/\(a.length:Int)<=9223372036854775807)/\True)<|lt (List.replicate (a.length:Int).toNat (ByteArray.mk #[],(0:Int),(0:Int))) fun b =>
 lp (H0n a) (0,b)
def k97:Ct:=b9 97 [.dat y221.sl] (fun x=>JF x.1) (fun r:List D3=>AV.ow 231 true y231 r) (fun _=>())
theorem Xx:Ok prog k97:=by
 refine c8 [.tmp 2] func97 ?_;intro y ⟨e,_⟩ r H Q hn hr;have:=hz (tc Xu tn);refine iA [0]<|qD (fun a=>Z [p 0 (L y221 e),p 3 (O 7)] [(7,A 231 y231 a 0)]) H fun a H=>jN r (fun(d:List D3)=>Z [p 3 (O 7)] [(7,A 231 y231 d 0)]) (Xw) (fun d H=>?_) (fun _ f k l=>?_)
 ·refine iA [2]<|a7<|hr H
 refine iA [0,3,4]<|vB<|lX (fun((b,c):Int×List D3)=>Z [p 0 (L y221 e),p 3 (O 7),p 4 (I b)] [(7,A 231 y231 c 0)]) (0,a) H fun _ j h g i ⟨b,c⟩ H=>vQ<|iA [0,3,4,11]<|cD H (fun H=>vK<|fQ<|vQ<|vB<|jD Xu [0,3,4] H fun _ H=>fK<|fQ<|jB [0,3,4] H fun H=>h H) fun H=>vE<|fE<|g<|fX rfl<|f H
def Xy:List ByteArray->Option (List ByteArray)
 | a =>
 some a
def H0o(c:List ByteArray)(d:Int×List ByteArray->Option (List ByteArray)):Int×List ByteArray->Option (List ByteArray)
 | (a,b) =>
 if(decide (a < (c.length:Int))) then
  gd (ix a c.length/\ix a b.length/\a.toNat<b.length/\True) <|
  gd (b7 (a+1)/\True) <|
  d ((a+1,b.set a.toNat (c.getD a.toNat (a6 Ty.str))))
 else
  Xy b
def JG(a:List ByteArray):Option (List ByteArray) :=
 gd ((0<=(a.length:Int)/\(a.length:Int)=(a.length:Int)/\(a.length:Int).toNat*16<=281474976710656/\(a.length:Int)<=9223372036854775807)/\True) <|
 lp (H0o a) ((0,List.replicate (a.length:Int).toNat (ByteArray.mk #[])))
def k96:Ct:=b9 96 [.dat Ty.str.sl] (fun x=>JG x.1) (fun r:List ByteArray=>AV.ow 9 true Ty.str r) (fun _=>())
theorem Xz:Ok prog k96:=by
 refine c8 [.tmp 2] func96 ?_;intro y ⟨d,_⟩ r H Q hn hr;refine iA [0]<|iB [0,3] H fun H=>jN r (fun(c:List ByteArray)=>Z [p 3 (O 7)] [(7,A 9 Ty.str c 0)]) (Xy) (fun c H=>?_) (fun _ e j k=>?_)
 ·refine iA [2]<|a7<|hr H
 refine iA [0,3,4]<|vB<|lX (fun((b,a):Int×List ByteArray)=>Z [p 0 (L Ty.str d),p 3 (O 7),p 4 (I b)] [(7,A 9 Ty.str a 0)]) ((0,List.replicate (d.length:Int).toNat (ByteArray.mk #[]))) H fun _ i g f h ⟨b,a⟩ H=>vQ<|iA [0,3,4,11]<|cD H (fun H=>vK<|fQ<|vQ<|vB<|jB [0,3,4] H fun H=>fK<|fQ<|jB [0,3,4] H fun H=>g H) fun H=>vE<|fE<|f<|fX rfl<|e H
def GN(a:As):Option A9 :=
 gd ((C3 a.2.2).isSome/\True)<|lt (vl (C3 a.2.2)) fun b =>
 some (a.1,a.2.1,b)
def Q0r:Ct:=b9 145 [.agg y218] (fun x=>GN x.1) (fun r:A9=>AV.agg [S r.1,I r.2.1,AV.ow 2 true i64 r.2.2]) (fun _=>())
theorem N0C:Ok prog Q0r:=by
 refine c8 [.cell 2 155] func145 ?_;intro y ⟨_,_⟩ r H Q hn hr;have:=hz (tc O4 tn);refine iA [1,2]<|iA [1,2,3]<|iA [1,2,3]<|iA [1,2,3]<|iD O4 [2,3] H fun _ H=>iA [2]<|a7<|hr H
def I0O:Ct:=b9 145 [.agg y218] (fun x=>GN x.1) (fun r=>frz ((fun r:A9=>AV.agg [S r.1,I r.2.1,AV.ow 2 true i64 r.2.2]) r)) (fun _=>())
theorem I0z:Ok prog I0O:=GM N0C
def XA:List A9->Option (List A9)
 | a =>
 some a
def H0p(c:List As)(e:Int×List A9->Option (List A9)):Int×List A9->Option (List A9)
 | (a,b) =>
 if(decide (a < (c.length:Int))) then
  gd (ix a c.length/\(GN (c.getD a.toNat (a6 y218))).isSome/\ix a b.length/\a.toNat<b.length/\True)<|lt (vl (GN (c.getD a.toNat (a6 y218)))) fun d =>
  gd (b7 (a+1)/\True) <|
  e (a+1,b.set a.toNat d)
 else
  XA b
def JH(a:List As):Option (List A9) :=
 gd ((0<=(a.length:Int)/\(a.length:Int)=(a.length:Int)/\(a.length:Int).toNat*48<=281474976710656/\(a.length:Int)<=9223372036854775807)/\True)<|lt (List.replicate (a.length:Int).toNat (ByteArray.mk #[],(0:Int),[])) fun b =>
 lp (H0p a) (0,b)
def k95:Ct:=b9 95 [.dat y218.sl] (fun x=>JH x.1) (fun r:List A9=>AV.ow 155 true y155 r) (fun _=>())
theorem XB:Ok prog k95:=by
 refine c8 [.tmp 2] func95 ?_;intro y ⟨d,_⟩ r H Q hn hr;have:=hz (tc I0z tn);refine iA [0]<|qD (fun c=>Z [p 0 (L y218 d),p 3 (O 7)] [(7,A 155 y155 c 0)]) H fun c H=>jN r (fun(f:List A9)=>Z [p 3 (O 7)] [(7,A 155 y155 f 0)]) (XA) (fun f H=>?_) (fun _ g l m=>?_)
 ·refine iA [2]<|a7<|hr H
 refine iA [0,3,4]<|vB<|lX (fun((a,b):Int×List A9)=>Z [p 0 (L y218 d),p 3 (O 7),p 4 (I a)] [(7,A 155 y155 b 0)]) (0,c) H fun _ k i h j ⟨a,b⟩ H=>vQ<|iA [0,3,4,11]<|cD H (fun H=>vK<|fQ<|vQ<|vB<|zD (fun e=>Z [p 0 (L y218 d),p 3 (O 7),p 4 (I a)] [(7,A 155 y155 (b.set a.toNat e) 0)]) H fun e H=>fK<|fQ<|jB [0,3,4] H fun H=>i H) fun H=>vE<|fE<|h<|fX rfl<|g H
def JI(a:IK):Option m6 :=
 gd ((JH a.1).isSome/\True)<|lt (vl (JH a.1)) fun d =>
 gd ((JG a.2.1).isSome/\True)<|lt (vl (JG a.2.1)) fun b =>
 gd ((JF a.2.2).isSome/\True)<|lt (vl (JF a.2.2)) fun c =>
 some (d,b,c)
def k46:Ct:=b9 46 [.agg BU] (fun x=>JI x.1) (fun r:m6=>AV.agg [AV.ow 155 true y155 r.1,AV.ow 9 true Ty.str r.2.1,AV.ow 231 true y231 r.2.2]) (fun _=>())
theorem XC:Ok prog k46:=by
 refine c8 [.cell 2 53] func46 ?_;intro y ⟨_,_⟩ r H Q hn hr;have:=hz (tc Xx (tc Xz (tc XB tn)));refine iA [1,2]<|iA [1,2,3]<|iD XB [1,2,3] H fun _ H=>iD Xz [1,2,3] H fun _ H=>iD Xx [2,3] H fun _ H=>iA [2]<|a7<|hr H
def GO(a:Y2):Option m4 :=
 gd ((C3 a.1).isSome/\True)<|lt (vl (C3 a.1)) fun d =>
 gd ((C3 a.2.1).isSome/\True)<|lt (vl (C3 a.2.1)) fun b =>
 gd ((C3 a.2.2).isSome/\True)<|lt (vl (C3 a.2.2)) fun c =>
 some (d,b,c)
def O0u:Ct:=b9 271 [.agg y342] (fun x=>GO x.1) (fun r:m4=>AV.agg [AV.ow 2 true i64 r.1,AV.ow 2 true i64 r.2.1,AV.ow 2 true i64 r.2.2]) (fun _=>())
theorem M0H:Ok prog O0u:=by
 refine c8 [.cell 2 269] func271 ?_;intro y ⟨_,_⟩ r H Q hn hr;have:=hz (tc O4 tn);refine iA [1,2]<|iA [1,2,3]<|iD O4 [1,2,3] H fun _ H=>iD O4 [1,2,3] H fun _ H=>iD O4 [2,3] H fun _ H=>iA [2]<|a7<|hr H
def I0L:Ct:=b9 271 [.agg y342] (fun x=>GO x.1) (fun r=>frz ((fun r:m4=>AV.agg [AV.ow 2 true i64 r.1,AV.ow 2 true i64 r.2.1,AV.ow 2 true i64 r.2.2]) r)) (fun _=>())
theorem I0k:Ok prog I0L:=GM M0H
def XD:List m4->Option (List m4)
 | a =>
 some a
def D0L(c:List Y2)(e:Int×List m4->Option (List m4)):Int×List m4->Option (List m4)
 | (a,b) =>
 if(decide (a < (c.length:Int))) then
  gd (ix a c.length/\(GO (c.getD a.toNat (a6 y342))).isSome/\ix a b.length/\a.toNat<b.length/\True)<|lt (vl (GO (c.getD a.toNat (a6 y342)))) fun d =>
  gd (b7 (a+1)/\True) <|
  e (a+1,b.set a.toNat d)
 else
  XD b
def DX(a:List Y2):Option (List m4) :=
 gd ((0<=(a.length:Int)/\(a.length:Int)=(a.length:Int)/\(a.length:Int).toNat*72<=281474976710656/\(a.length:Int)<=9223372036854775807)/\True) <|
 lp (D0L a) ((0,List.replicate (a.length:Int).toNat ([],[],[])))
def O0D:Ct:=b9 257 [.dat y342.sl] (fun x=>DX x.1) (fun r:List m4=>AV.ow 269 true y269 r) (fun _=>())
theorem QE:Ok prog O0D:=by
 refine c8 [.tmp 2] func257 ?_;intro y ⟨c,_⟩ r H Q hn hr;have:=hz (tc I0k tn);refine iA [0]<|iB [0,3] H fun H=>jN r (fun(e:List m4)=>Z [p 3 (O 7)] [(7,A 269 y269 e 0)]) (XD) (fun e H=>?_) (fun _ f k l=>?_)
 ·refine iA [2]<|a7<|hr H
 refine iA [0,3,4]<|vB<|lX (fun((a,b):Int×List m4)=>Z [p 0 (L y342 c),p 3 (O 7),p 4 (I a)] [(7,A 269 y269 b 0)]) ((0,List.replicate (c.length:Int).toNat ([],[],[]))) H fun _ j h g i ⟨a,b⟩ H=>vQ<|iA [0,3,4,11]<|cD H (fun H=>vK<|fQ<|vQ<|vB<|zD (fun d=>Z [p 0 (L y342 c),p 3 (O 7),p 4 (I a)] [(7,A 269 y269 (b.set a.toNat d) 0)]) H fun d H=>fK<|fQ<|jB [0,3,4] H fun H=>h H) fun H=>vE<|fE<|g<|fX rfl<|f H
def GP(a:Au):Option r7 :=
 gd ((DX a.2.2.2.2.1).isSome/\True)<|lt (vl (DX a.2.2.2.2.1)) fun c =>
 gd ((DX a.2.2.2.2.2).isSome/\True)<|lt (vl (DX a.2.2.2.2.2)) fun b =>
 some (a.1,a.2.1,a.2.2.1,a.2.2.2.1,c,b)
def O0T:Ct:=b9 231 [.agg y300] (fun x=>GP x.1) (fun r:r7=>AV.agg [I r.1,I r.2.1,I r.2.2.1,I r.2.2.2.1,AV.ow 269 true y269 r.2.2.2.2.1,AV.ow 269 true y269 r.2.2.2.2.2]) (fun _=>())
theorem M0V:Ok prog O0T:=by
 refine c8 [.cell 2 158] func231 ?_;intro y ⟨_,_⟩ r H Q hn hr;have:=hz (tc QE tn);refine iA [1,2]<|iA [1,2,3]<|iA [1,2,3]<|iA [1,2,3]<|iA [1,2,3]<|iA [1,2,3]<|iD QE [1,2,3] H fun _ H=>iD QE [2,3] H fun _ H=>iA [2]<|a7<|hr H
def I0M:Ct:=b9 231 [.agg y300] (fun x=>GP x.1) (fun r=>frz ((fun r:r7=>AV.agg [I r.1,I r.2.1,I r.2.2.1,I r.2.2.2.1,AV.ow 269 true y269 r.2.2.2.2.1,AV.ow 269 true y269 r.2.2.2.2.2]) r)) (fun _=>())
theorem I0q:Ok prog I0M:=GM M0V
def XE:List r7->Option (List r7)
 | a =>
 some a
def E0l(c:List Au)(e:Int×List r7->Option (List r7)):Int×List r7->Option (List r7)
 | (a,b) =>
 if(decide (a < (c.length:Int))) then
  gd (ix a c.length/\(GP (c.getD a.toNat (a6 y300))).isSome/\ix a b.length/\a.toNat<b.length/\True)<|lt (vl (GP (c.getD a.toNat (a6 y300)))) fun d =>
  gd (b7 (a+1)/\True) <|
  e (a+1,b.set a.toNat d)
 else
  XE b
def JJ(a:List Au):Option (List r7) :=
 gd ((0<=(a.length:Int)/\(a.length:Int)=(a.length:Int)/\(a.length:Int).toNat*80<=281474976710656/\(a.length:Int)<=9223372036854775807)/\True)<|lt (List.replicate (a.length:Int).toNat ((0:Int),(0:Int),(0:Int),(0:Int),[],[])) fun b =>
 lp (E0l a) (0,b)
def P0y:Ct:=b9 195 [.dat y300.sl] (fun x=>JJ x.1) (fun r:List r7=>AV.ow 158 true y158 r) (fun _=>())
theorem XF:Ok prog P0y:=by
 refine c8 [.tmp 2] func195 ?_;intro y ⟨d,_⟩ r H Q hn hr;have:=hz (tc I0q tn);refine iA [0]<|qD (fun c=>Z [p 0 (L y300 d),p 3 (O 7)] [(7,A 158 y158 c 0)]) H fun c H=>jN r (fun(f:List r7)=>Z [p 3 (O 7)] [(7,A 158 y158 f 0)]) (XE) (fun f H=>?_) (fun _ g l m=>?_)
 ·refine iA [2]<|a7<|hr H
 refine iA [0,3,4]<|vB<|lX (fun((a,b):Int×List r7)=>Z [p 0 (L y300 d),p 3 (O 7),p 4 (I a)] [(7,A 158 y158 b 0)]) (0,c) H fun _ k i h j ⟨a,b⟩ H=>vQ<|iA [0,3,4,11]<|cD H (fun H=>vK<|fQ<|vQ<|vB<|zD (fun e=>Z [p 0 (L y300 d),p 3 (O 7),p 4 (I a)] [(7,A 158 y158 (b.set a.toNat e) 0)]) H fun e H=>fK<|fQ<|jB [0,3,4] H fun H=>i H) fun H=>vE<|fE<|h<|fX rfl<|g H
def JK(a:Av):Option A6 :=
 some a
def O0U:Ct:=b9 230 [.agg y296] (fun x=>JK x.1) (fun r:A6=>AV.agg [S r.1,I r.2.1,I r.2.2.1,B r.2.2.2]) (fun _=>())
theorem XG:Ok prog O0U:=by
 refine c8 [.cell 2 293] func230 ?_;intro y ⟨_,_⟩ r H Q hn hr;refine iA [1,2]<|iA [1,2,3]<|iA [1,2,3]<|iA [1,2,3]<|iA [1,2,3]<|iA [2,3]<|iA [2]<|a7<|hr H
def XH:List A6->Option (List A6)
 | a =>
 some a
def E0n(c:List Av)(e:Int×List A6->Option (List A6)):Int×List A6->Option (List A6)
 | (a,b) =>
 if(decide (a < (c.length:Int))) then
  gd (ix a c.length/\(JK (c.getD a.toNat (a6 y296))).isSome/\ix a b.length/\a.toNat<b.length/\True)<|lt (vl (JK (c.getD a.toNat (a6 y296)))) fun d =>
  gd (b7 (a+1)/\True) <|
  e (a+1,b.set a.toNat d)
 else
  XH b
def JL(a:List Av):Option (List A6) :=
 gd ((0<=(a.length:Int)/\(a.length:Int)=(a.length:Int)/\(a.length:Int).toNat*40<=281474976710656/\(a.length:Int)<=9223372036854775807)/\True)<|lt (List.replicate (a.length:Int).toNat (ByteArray.mk #[],(0:Int),(0:Int),false)) fun b =>
 lp (E0n a) (0,b)
def P0z:Ct:=b9 194 [.dat y296.sl] (fun x=>JL x.1) (fun r:List A6=>AV.ow 293 true y293 r) (fun _=>())
theorem XI:Ok prog P0z:=by
 refine c8 [.tmp 2] func194 ?_;intro y ⟨e,_⟩ r H Q hn hr;have:=hz (tc XG tn);refine iA [0]<|qD (fun a=>Z [p 0 (L y296 e),p 3 (O 7)] [(7,A 293 y293 a 0)]) H fun a H=>jN r (fun(d:List A6)=>Z [p 3 (O 7)] [(7,A 293 y293 d 0)]) (XH) (fun d H=>?_) (fun _ f k l=>?_)
 ·refine iA [2]<|a7<|hr H
 refine iA [0,3,4]<|vB<|lX (fun((b,c):Int×List A6)=>Z [p 0 (L y296 e),p 3 (O 7),p 4 (I b)] [(7,A 293 y293 c 0)]) (0,a) H fun _ j h g i ⟨b,c⟩ H=>vQ<|iA [0,3,4,11]<|cD H (fun H=>vK<|fQ<|vQ<|vB<|jD XG [0,3,4] H fun _ H=>fK<|fQ<|jB [0,3,4] H fun H=>h H) fun H=>vE<|fE<|g<|fX rfl<|f H
def GQ(a:Q3):Option k6 :=
 gd ((JL a.2.2.1).isSome/\True)<|lt (vl (JL a.2.2.1)) fun d =>
 gd ((JJ a.2.2.2.1).isSome/\True)<|lt (vl (JJ a.2.2.2.1)) fun b =>
 gd ((C3 a.2.2.2.2.1).isSome/\True)<|lt (vl (C3 a.2.2.2.2.1)) fun c =>
 some (a.1,a.2.1,d,b,c,a.2.2.2.2.2)
def Q0s:Ct:=b9 144 [.agg y216] (fun x=>GQ x.1) (fun r:k6=>AV.agg [S r.1,I r.2.1,AV.ow 293 true y293 r.2.2.1,AV.ow 158 true y158 r.2.2.2.1,AV.ow 2 true i64 r.2.2.2.2.1,I r.2.2.2.2.2.1,I r.2.2.2.2.2.2]) (fun _=>())
theorem N0D:Ok prog Q0s:=by
 refine c8 [.cell 2 153] func144 ?_;intro y ⟨_,_⟩ r H Q hn hr;have:=hz (tc O4 (tc XF (tc XI tn)));refine iA [1,2]<|iA [1,2,3]<|iA [1,2,3]<|iA [1,2,3]<|iD XI [1,2,3] H fun _ H=>iD XF [1,2,3] H fun _ H=>iD O4 [1,2,3] H fun _ H=>iA [1,2,3]<|iA [2,3]<|iA [2] ?_
 exact a7<|hr H
def I0P:Ct:=b9 144 [.agg y216] (fun x=>GQ x.1) (fun r=>frz ((fun r:k6=>AV.agg [S r.1,I r.2.1,AV.ow 293 true y293 r.2.2.1,AV.ow 158 true y158 r.2.2.2.1,AV.ow 2 true i64 r.2.2.2.2.1,I r.2.2.2.2.2.1,I r.2.2.2.2.2.2]) r)) (fun _=>())
theorem I0A:Ok prog I0P:=GM N0D
def XJ:List k6->Option (List k6)
 | a =>
 some a
def H0q(c:List Q3)(e:Int×List k6->Option (List k6)):Int×List k6->Option (List k6)
 | (a,b) =>
 if(decide (a < (c.length:Int))) then
  gd (ix a c.length/\(GQ (c.getD a.toNat (a6 y216))).isSome/\ix a b.length/\a.toNat<b.length/\True)<|lt (vl (GQ (c.getD a.toNat (a6 y216)))) fun d =>
  gd (b7 (a+1)/\True) <|
  e (a+1,b.set a.toNat d)
 else
  XJ b
def JM(a:List Q3):Option (List k6) :=
 gd ((0<=(a.length:Int)/\(a.length:Int)=(a.length:Int)/\(a.length:Int).toNat*112<=281474976710656/\(a.length:Int)<=9223372036854775807)/\True)<|lt (List.replicate (a.length:Int).toNat (ByteArray.mk #[],(0:Int),[],[],[],(0:Int),(0:Int))) fun b =>
 lp (H0q a) (0,b)
def k94:Ct:=b9 94 [.dat y216.sl] (fun x=>JM x.1) (fun r:List k6=>AV.ow 153 true y153 r) (fun _=>())
theorem XK:Ok prog k94:=by
 refine c8 [.tmp 2] func94 ?_;intro y ⟨d,_⟩ r H Q hn hr;have:=hz (tc I0A tn);refine iA [0]<|qD (fun c=>Z [p 0 (L y216 d),p 3 (O 7)] [(7,A 153 y153 c 0)]) H fun c H=>jN r (fun(f:List k6)=>Z [p 3 (O 7)] [(7,A 153 y153 f 0)]) (XJ) (fun f H=>?_) (fun _ g l m=>?_)
 ·refine iA [2]<|a7<|hr H
 refine iA [0,3,4]<|vB<|lX (fun((a,b):Int×List k6)=>Z [p 0 (L y216 d),p 3 (O 7),p 4 (I a)] [(7,A 153 y153 b 0)]) (0,c) H fun _ k i h j ⟨a,b⟩ H=>vQ<|iA [0,3,4,11]<|cD H (fun H=>vK<|fQ<|vQ<|vB<|zD (fun e=>Z [p 0 (L y216 d),p 3 (O 7),p 4 (I a)] [(7,A 153 y153 (b.set a.toNat e) 0)]) H fun e H=>fK<|fQ<|jB [0,3,4] H fun H=>i H) fun H=>vE<|fE<|h<|fX rfl<|g H
def JN(a:List Q3):Option (List k6) :=
 gd ((JM a).isSome/\True)<|lt (vl (JM a)) fun b =>
 some b
def Bn:Ct:=b9 45 [.agg y216.sl] (fun x=>JN x.1) (fun r:List k6=>AV.agg [AV.ow 153 true y153 r]) (fun _=>())
theorem XL:Ok prog Bn:=by
 refine c8 [.cell 2 49] func45 ?_;intro y ⟨_,_⟩ r H Q hn hr;have:=hz (tc XK tn);refine iA [1,2]<|iA [1,2,3]<|iD XK [2,3] H fun _ H=>iA [2]<|a7<|hr H
def Y9(a:Gy):Option j0 :=
 gd ((JN a.1).isSome/\True)<|lt (vl (JN a.1)) fun d =>
 gd ((JI a.2.1).isSome/\True)<|lt (vl (JI a.2.1)) fun b =>
 gd ((JD a.2.2).isSome/\True)<|lt (vl (JD a.2.2)) fun c =>
 some (d,b,c)
def k12:Ct:=b9 12 [.agg T7] (fun x=>Y9 x.1) (fun r:j0=>AV.agg [AV.ow 153 true y153 r.1,AV.ow 155 true y155 r.2.1.1,AV.ow 9 true Ty.str r.2.1.2.1,AV.ow 231 true y231 r.2.1.2.2,AV.ow 172 true y172 r.2.2]) (fun _=>())
theorem QF:Ok prog k12:=by
 refine c8 [.cell 2 56] func12 ?_;intro y ⟨_,_⟩ r H Q hn hr;have:=hz (tc Xt (tc XC (tc XL tn)));refine iA [1,2]<|iA [1,2,3]<|iD XL [1,2,3] H fun _ H=>iD XC [1,2,3] H fun _ H=>iD Xt [2,3] H fun _ H=>iA [2]<|a7<|hr H
def Cb(a:Gz):Option p7 :=
 some a
def k13:Ct:=b9 13 [.agg V5] (fun x=>Cb x.1) (fun r:p7=>AV.agg [S r.1,I r.2.1,I r.2.2.1,I r.2.2.2.1,I r.2.2.2.2]) (fun _=>())
theorem o13:Ok prog k13:=by
 refine c8 [.cell 2 58] func13 ?_;intro y ⟨_,_⟩ r H Q hn hr;refine iA [1,2]<|iA [1,2,3]<|iA [1,2,3]<|iA [1,2,3]<|iA [1,2,3]<|iA [1,2,3]<|iA [2,3]<|iA [2]<|a7<|hr H
def Cc(a:Aw):Option q7 :=
 some a
def k99:Ct:=b9 99 [.agg y104] (fun x=>Cc x.1) (fun r:q7=>AV.agg [I r.1,I r.2]) (fun _=>())
theorem JO:Ok prog k99:=by
 refine c8 [.cell 2 73] func99 ?_;intro y ⟨_,_⟩ r H Q hn hr;refine iA [1,2]<|iA [1,2,3]<|iA [1,2,3]<|iA [2,3]<|iA [2]<|a7<|hr H
def JP(a:BV):Option l6 :=
 gd ((Cc a.2.1).isSome/\True)<|lt (vl (Cc a.2.1)) fun c =>
 gd ((Cc a.2.2).isSome/\True)<|lt (vl (Cc a.2.2)) fun b =>
 some (a.1,c,b)
def k48:Ct:=b9 48 [.agg y106] (fun x=>JP x.1) (fun r:l6=>AV.agg (Q2 r)) (fun _=>())
theorem XM:Ok prog k48:=by
 refine c8 [.cell 2 75] func48 ?_;intro y ⟨_,_⟩ r H Q hn hr;have:=hz (tc JO tn);refine iA [1,2]<|iA [1,2,3]<|iA [1,2,3]<|iD JO [1,2,3] H fun _ H=>iD JO [2,3] H fun _ H=>iA [2]<|a7<|hr H
def XN:List l6->Option (List l6)
 | a =>
 some a
def H0M(c:List BV)(e:Int×List l6->Option (List l6)):Int×List l6->Option (List l6)
 | (a,b) =>
 if(decide (a < (c.length:Int))) then
  gd (ix a c.length/\(JP (c.getD a.toNat (a6 y106))).isSome/\ix a b.length/\a.toNat<b.length/\True)<|lt (vl (JP (c.getD a.toNat (a6 y106)))) fun d =>
  gd (b7 (a+1)/\True) <|
  e (a+1,b.set a.toNat d)
 else
  XN b
def Z0(a:List BV):Option (List l6) :=
 gd ((0<=(a.length:Int)/\(a.length:Int)=(a.length:Int)/\(a.length:Int).toNat*40<=281474976710656/\(a.length:Int)<=9223372036854775807)/\True)<|lt (List.replicate (a.length:Int).toNat ((0:Int),((0:Int),(0:Int)),(0:Int),(0:Int))) fun b =>
 lp (H0M a) (0,b)
def k15:Ct:=b9 15 [.dat y106.sl] (fun x=>Z0 x.1) (fun r:List l6=>AV.ow 75 true y75 r) (fun _=>())
theorem QG:Ok prog k15:=by
 refine c8 [.tmp 2] func15 ?_;intro y ⟨e,_⟩ r H Q hn hr;have:=hz (tc XM tn);refine iA [0]<|qD (fun a=>Z [p 0 (L y106 e),p 3 (O 7)] [(7,A 75 y75 a 0)]) H fun a H=>jN r (fun(d:List l6)=>Z [p 3 (O 7)] [(7,A 75 y75 d 0)]) (XN) (fun d H=>?_) (fun _ f k l=>?_)
 ·refine iA [2]<|a7<|hr H
 refine iA [0,3,4]<|vB<|lX (fun((b,c):Int×List l6)=>Z [p 0 (L y106 e),p 3 (O 7),p 4 (I b)] [(7,A 75 y75 c 0)]) (0,a) H fun _ j h g i ⟨b,c⟩ H=>vQ<|iA [0,3,4,11]<|cD H (fun H=>vK<|fQ<|vQ<|vB<|jD XM [0,3,4] H fun _ H=>fK<|fQ<|jB [0,3,4] H fun H=>h H) fun H=>vE<|fE<|g<|fX rfl<|f H
def XO:List q7->Option (List q7)
 | a =>
 some a
def H0y(c:List Aw)(e:Int×List q7->Option (List q7)):Int×List q7->Option (List q7)
 | (a,b) =>
 if(decide (a < (c.length:Int))) then
  gd (ix a c.length/\(Cc (c.getD a.toNat (a6 y104))).isSome/\ix a b.length/\a.toNat<b.length/\True)<|lt (vl (Cc (c.getD a.toNat (a6 y104)))) fun d =>
  gd (b7 (a+1)/\True) <|
  e (a+1,b.set a.toNat d)
 else
  XO b
def DY(a:List Aw):Option (List q7) :=
 gd ((0<=(a.length:Int)/\(a.length:Int)=(a.length:Int)/\(a.length:Int).toNat*16<=281474976710656/\(a.length:Int)<=9223372036854775807)/\True)<|lt (List.replicate (a.length:Int).toNat ((0:Int),(0:Int))) fun b =>
 lp (H0y a) (0,b)
def k50:Ct:=b9 50 [.dat y104.sl] (fun x=>DY x.1) (fun r:List q7=>AV.ow 73 true y73 r) (fun _=>())
theorem QH:Ok prog k50:=by
 refine c8 [.tmp 2] func50 ?_;intro y ⟨e,_⟩ r H Q hn hr;have:=hz (tc JO tn);refine iA [0]<|qD (fun a=>Z [p 0 (L y104 e),p 3 (O 7)] [(7,A 73 y73 a 0)]) H fun a H=>jN r (fun(d:List q7)=>Z [p 3 (O 7)] [(7,A 73 y73 d 0)]) (XO) (fun d H=>?_) (fun _ f k l=>?_)
 ·refine iA [2]<|a7<|hr H
 refine iA [0,3,4]<|vB<|lX (fun((b,c):Int×List q7)=>Z [p 0 (L y104 e),p 3 (O 7),p 4 (I b)] [(7,A 73 y73 c 0)]) (0,a) H fun _ j h g i ⟨b,c⟩ H=>vQ<|iA [0,3,4,11]<|cD H (fun H=>vK<|fQ<|vQ<|vB<|jD JO [0,3,4] H fun _ H=>fK<|fQ<|jB [0,3,4] H fun H=>h H) fun H=>vE<|fE<|g<|fX rfl<|f H
def XP:List Bool->Option (List Bool)
 | a =>
 some a
def H0z(c:List Bool)(d:Int×List Bool->Option (List Bool)):Int×List Bool->Option (List Bool)
 | (a,b) =>
 if(decide (a < (c.length:Int))) then
  gd (ix a c.length/\ix a b.length/\a.toNat<b.length/\True) <|
  gd (b7 (a+1)/\True) <|
  d ((a+1,b.set a.toNat (c.getD a.toNat false)))
 else
  XP b
def JQ(a:List Bool):Option (List Bool) :=
 gd ((0<=(a.length:Int)/\(a.length:Int)=(a.length:Int)/\(a.length:Int).toNat*1<=281474976710656/\(a.length:Int)<=9223372036854775807)/\True) <|
 lp (H0z a) ((0,List.replicate (a.length:Int).toNat false))
def k49:Ct:=b9 49 [.dat Ty.bool.sl] (fun x=>JQ x.1) (fun r:List Bool=>AV.ow 4 true Ty.bool r) (fun _=>())
theorem XQ:Ok prog k49:=by
 refine c8 [.tmp 2] func49 ?_;intro y ⟨d,_⟩ r H Q hn hr;refine iA [0]<|iB [0,3] H fun H=>jN r (fun(c:List Bool)=>Z [p 3 (O 7)] [(7,A 4 Ty.bool c 0)]) (XP) (fun c H=>?_) (fun _ e j k=>?_)
 ·refine iA [2]<|a7<|hr H
 refine iA [0,3,4]<|vB<|lX (fun((b,a):Int×List Bool)=>Z [p 0 (L Ty.bool d),p 3 (O 7),p 4 (I b)] [(7,A 4 Ty.bool a 0)]) ((0,List.replicate (d.length:Int).toNat false)) H fun _ i g f h ⟨b,a⟩ H=>vQ<|iA [0,3,4,11]<|cD H (fun H=>vK<|fQ<|vQ<|vB<|jB [0,3,4] H fun H=>fK<|fQ<|jB [0,3,4] H fun H=>g H) fun H=>vE<|fE<|f<|fX rfl<|e H
def u16(a:GA):Option A0 :=
 gd ((JQ a.1).isSome/\True)<|lt (vl (JQ a.1)) fun d =>
 gd ((DY a.2.1).isSome/\True)<|lt (vl (DY a.2.1)) fun b =>
 gd ((DY a.2.2).isSome/\True)<|lt (vl (DY a.2.2)) fun c =>
 some (d,b,c)
def k16:Ct:=b9 16 [.agg Y3] (fun x=>u16 x.1) (fun r:A0=>AV.agg [AV.ow 4 true Ty.bool r.1,AV.ow 73 true y73 r.2.1,AV.ow 73 true y73 r.2.2]) (fun _=>())
theorem QJ:Ok prog k16:=by
 refine c8 [.cell 2 65] func16 ?_;intro y ⟨_,_⟩ r H Q hn hr;have:=hz (tc QH (tc XQ tn));refine iA [1,2]<|iA [1,2,3]<|iD XQ [1,2,3] H fun _ H=>iD QH [1,2,3] H fun _ H=>iD QH [2,3] H fun _ H=>iA [2]<|a7<|hr H
def XR:Unit->Option Bool
 | _ =>
 some true
def H0I(b:List Int)(c:List Int)(d:Int->Option Bool):Int->Option Bool
 | a =>
 if(decide (a < (b.length:Int))) then
  gd (ix a b.length/\ix a c.length/\True) <|
  if(b.getD a.toNat 0 != c.getD a.toNat 0) then
   some false
  else
   gd (b7 (a+1)/\True) <|
   d (a+1)
 else
  XR ()
def H3(b:List Int)(a:List Int):Option Bool :=
 if((b.length:Int) != (a.length:Int)) then
  some false
 else
  lp (H0I b a) 0
def k19:Ct:=b9 19 [.dat i64.sl,.dat i64.sl] (fun x=>H3 x.1 x.2.1) (fun r:Bool=>B r) (fun _=>())
theorem JR:Ok prog k19:=by
 refine c8 [.tmp 4] func19 ?_;intro y ⟨h,e,_⟩ r H Q hn hr;refine iA [0,1]<|vQ<|iA [0,1,10]<|cD H (fun H=>iA [4]<|a7<|fR<|hr H) fun H=>vK<|fQ<|jN r (fun(_:Unit)=>Z [] []) (XR) (fun _ H=>?_) (fun _ b j g=>?_)
 ·refine iA [4]<|a7<|hr H
 refine iA [0,1,5]<|vB<|lX (fun(a:Int)=>Z [p 0 (L i64 h),p 1 (L i64 e),p 5 (I a)] []) 0 H fun _ i f c d a H=>vQ<|iA [0,1,5,14]<|cD H (fun H=>?_) (fun H=>?_)
 ·refine vK<|fQ<|vQ<|vB<|iB [0,1,5,25] H fun H=>cD H (fun H=>iA [4]<|a7<|h9<|fR<|d<|h9<|g<|hr H) fun H=>vK<|fK<|fQ<|jB [0,1,5] H fun H=>f H
 exact vE<|fE<|c<|fX rfl<|b H
def JS(b:w9)(a:w9):Option Bool :=
 gd ((H3 b.1 a.1).isSome/\True) <|
 if(!vl (H3 b.1 a.1)) then
  some false
 else
  gd ((H3 b.2.1 a.2.1).isSome/\True) <|
  if(!vl (H3 b.2.1 a.2.1)) then
   some false
  else
   gd ((H3 b.2.2.1 a.2.2.1).isSome/\True) <|
   if(!vl (H3 b.2.2.1 a.2.2.1)) then
    some false
   else
    gd ((H3 b.2.2.2 a.2.2.2).isSome/\True) <|
    if(!vl (H3 b.2.2.2 a.2.2.2)) then
     some false
    else
     some true
def Q0L:Ct:=b9 117 [.agg y172,.agg y172] (fun x=>JS x.1 x.2.1) (fun r:Bool=>B r) (fun _=>())
theorem N0I:Ok prog Q0L:=by
 refine c8 [.tmp 4] func117 ?_;intro y ⟨_,_,_⟩ r H Q hn hr;have:=hz (tc JR tn);refine iA [2,3]<|vQ<|iB [2,3,10] H fun H=>cD H (fun H=>iA [4]<|a7<|fR<|hr H) fun H=>vK<|fQ<|vQ<|iB [2,3,16] H fun H=>cD H (fun H=>iA [4]<|a7<|fR<|hr H) fun H=>vK<|fQ<|vQ<|iB [2,3,22] H fun H=>cD H (fun H=>iA [4]<|a7<|fR<|hr H) fun H=>vK<|fQ<|vQ<|iB [28] H fun H=>cD H (fun H=>iA [4]<|a7<|fR<|hr H) fun H=>vK<|fQ<|iA [4]<|a7<|hr H
def XS:Unit->Option Bool
 | _ =>
 some true
def H0x(b:List w9)(c:List w9)(d:Int->Option Bool):Int->Option Bool
 | a =>
 if(decide (a < (b.length:Int))) then
  gd (ix a b.length/\ix a c.length/\(JS (b.getD a.toNat (a6 y172)) (c.getD a.toNat (a6 y172))).isSome/\True) <|
  if(!vl (JS (b.getD a.toNat (a6 y172)) (c.getD a.toNat (a6 y172)))) then
   some false
  else
   gd (b7 (a+1)/\True) <|
   d (a+1)
 else
  XS ()
def JT(b:List w9)(a:List w9):Option Bool :=
 if((b.length:Int) != (a.length:Int)) then
  some false
 else
  lp (H0x b a) 0
def k56:Ct:=b9 56 [.dat y172.sl,.dat y172.sl] (fun x=>JT x.1 x.2.1) (fun r:Bool=>B r) (fun _=>())
theorem o56:Ok prog k56:=by
 refine c8 [.tmp 4] func56 ?_;intro y ⟨h,e,_⟩ r H Q hn hr;have:=hz (tc N0I tn);refine iA [0,1]<|vQ<|iA [0,1,10]<|cD H (fun H=>iA [4]<|a7<|fR<|hr H) fun H=>vK<|fQ<|jN r (fun(_:Unit)=>Z [] []) (XS) (fun _ H=>?_) (fun _ b j g=>?_)
 ·refine iA [4]<|a7<|hr H
 refine iA [0,1,5]<|vB<|lX (fun(a:Int)=>Z [p 0 (L y172 h),p 1 (L y172 e),p 5 (I a)] []) 0 H fun _ i f c d a H=>vQ<|iA [0,1,5,14]<|cD H (fun H=>?_) (fun H=>?_)
 ·refine vK<|fQ<|vQ<|vB<|iB [0,1,5,26] H fun H=>cD H (fun H=>iA [4]<|a7<|h9<|fR<|d<|h9<|g<|hr H) fun H=>vK<|fK<|fQ<|jB [0,1,5] H fun H=>f H
 exact vE<|fE<|c<|fX rfl<|b H
def JU(b:D3)(a:D3):Option Bool :=
 if(!decide (b.1=a.1)) then
  some false
 else
  if(b.2.1 != a.2.1) then
   some false
  else
   if(b.2.2 != a.2.2) then
    some false
   else
    some true
def P0Q:Ct:=b9 174 [.agg y231,.agg y231] (fun x=>JU x.1 x.2.1) (fun r:Bool=>B r) (fun _=>())
theorem N0q:Ok prog P0Q:=by
 refine c8 [.tmp 4] func174 ?_;intro y ⟨_,_,_⟩ r H Q hn hr;refine iA [2,3]<|vQ<|iA [2,3,9]<|cD H (fun H=>iA [4]<|a7<|fR<|hr H) fun H=>vK<|fQ<|vQ<|iA [2,3,14]<|cD H (fun H=>iA [4]<|a7<|fR<|hr H) fun H=>vK<|fQ<|vQ<|iA [19]<|cD H (fun H=>iA [4]<|a7<|fR<|hr H) fun H=>vK<|fQ<|iA [4]<|a7<|hr H
def XT:Unit->Option Bool
 | _ =>
 some true
def E0O(b:List D3)(c:List D3)(d:Int->Option Bool):Int->Option Bool
 | a =>
 if(decide (a < (b.length:Int))) then
  gd (ix a b.length/\ix a c.length/\(JU (b.getD a.toNat (a6 y231)) (c.getD a.toNat (a6 y231))).isSome/\True) <|
  if(!vl (JU (b.getD a.toNat (a6 y231)) (c.getD a.toNat (a6 y231)))) then
   some false
  else
   gd (b7 (a+1)/\True) <|
   d (a+1)
 else
  XT ()
def JV(b:List D3)(a:List D3):Option Bool :=
 if((b.length:Int) != (a.length:Int)) then
  some false
 else
  lp (E0O b a) 0
def Q0M:Ct:=b9 116 [.dat y231.sl,.dat y231.sl] (fun x=>JV x.1 x.2.1) (fun r:Bool=>B r) (fun _=>())
theorem N0J:Ok prog Q0M:=by
 refine c8 [.tmp 4] func116 ?_;intro y ⟨h,e,_⟩ r H Q hn hr;have:=hz (tc N0q tn);refine iA [0,1]<|vQ<|iA [0,1,10]<|cD H (fun H=>iA [4]<|a7<|fR<|hr H) fun H=>vK<|fQ<|jN r (fun(_:Unit)=>Z [] []) (XT) (fun _ H=>?_) (fun _ b j g=>?_)
 ·refine iA [4]<|a7<|hr H
 refine iA [0,1,5]<|vB<|lX (fun(a:Int)=>Z [p 0 (L y231 h),p 1 (L y231 e),p 5 (I a)] []) 0 H fun _ i f c d a H=>vQ<|iA [0,1,5,14]<|cD H (fun H=>?_) (fun H=>?_)
 ·refine vK<|fQ<|vQ<|vB<|iB [0,1,5,26] H fun H=>cD H (fun H=>iA [4]<|a7<|h9<|fR<|d<|h9<|g<|hr H) fun H=>vK<|fK<|fQ<|jB [0,1,5] H fun H=>f H
 exact vE<|fE<|c<|fX rfl<|b H
def XU:Unit->Option Bool
 | _ =>
 some true
def E0Q(b:List ByteArray)(c:List ByteArray)(d:Int->Option Bool):Int->Option Bool
 | a =>
 if(decide (a < (b.length:Int))) then
  gd (ix a b.length/\ix a c.length/\True) <|
  if(!decide (b.getD a.toNat (a6 Ty.str)=c.getD a.toNat (a6 Ty.str))) then
   some false
  else
   gd (b7 (a+1)/\True) <|
   d (a+1)
 else
  XU ()
def JW(b:List ByteArray)(a:List ByteArray):Option Bool :=
 if((b.length:Int) != (a.length:Int)) then
  some false
 else
  lp (E0Q b a) 0
def Q0N:Ct:=b9 115 [.dat Ty.str.sl,.dat Ty.str.sl] (fun x=>JW x.1 x.2.1) (fun r:Bool=>B r) (fun _=>())
theorem N0K:Ok prog Q0N:=by
 refine c8 [.tmp 4] func115 ?_;intro y ⟨h,e,_⟩ r H Q hn hr;refine iA [0,1]<|vQ<|iA [0,1,10]<|cD H (fun H=>iA [4]<|a7<|fR<|hr H) fun H=>vK<|fQ<|jN r (fun(_:Unit)=>Z [] []) (XU) (fun _ H=>?_) (fun _ b j g=>?_)
 ·refine iA [4]<|a7<|hr H
 refine iA [0,1,5]<|vB<|lX (fun(a:Int)=>Z [p 0 (L Ty.str h),p 1 (L Ty.str e),p 5 (I a)] []) 0 H fun _ i f c d a H=>vQ<|iA [0,1,5,14]<|cD H (fun H=>?_) (fun H=>?_)
 ·refine vK<|fQ<|vQ<|vB<|iB [0,1,5,25] H fun H=>cD H (fun H=>iA [4]<|a7<|h9<|fR<|d<|h9<|g<|hr H) fun H=>vK<|fK<|fQ<|jB [0,1,5] H fun H=>f H
 exact vE<|fE<|c<|fX rfl<|b H
def JX(b:A9)(a:A9):Option Bool :=
 if(!decide (b.1=a.1)) then
  some false
 else
  if(b.2.1 != a.2.1) then
   some false
  else
   gd ((H3 b.2.2 a.2.2).isSome/\True) <|
   if(!vl (H3 b.2.2 a.2.2)) then
    some false
   else
    some true
def P0R:Ct:=b9 173 [.agg y155,.agg y155] (fun x=>JX x.1 x.2.1) (fun r:Bool=>B r) (fun _=>())
theorem N0r:Ok prog P0R:=by
 refine c8 [.tmp 4] func173 ?_;intro y ⟨_,_,_⟩ r H Q hn hr;have:=hz (tc JR tn);refine iA [2,3]<|vQ<|iA [2,3,9]<|cD H (fun H=>iA [4]<|a7<|fR<|hr H) fun H=>vK<|fQ<|vQ<|iA [2,3,14]<|cD H (fun H=>iA [4]<|a7<|fR<|hr H) fun H=>vK<|fQ<|vQ<|iB [20] H fun H=>cD H (fun H=>iA [4]<|a7<|fR<|hr H) fun H=>vK<|fQ<|iA [4]<|a7<|hr H
def XV:Unit->Option Bool
 | _ =>
 some true
def E0S(b:List A9)(c:List A9)(d:Int->Option Bool):Int->Option Bool
 | a =>
 if(decide (a < (b.length:Int))) then
  gd (ix a b.length/\ix a c.length/\(JX (b.getD a.toNat (a6 y155)) (c.getD a.toNat (a6 y155))).isSome/\True) <|
  if(!vl (JX (b.getD a.toNat (a6 y155)) (c.getD a.toNat (a6 y155)))) then
   some false
  else
   gd (b7 (a+1)/\True) <|
   d (a+1)
 else
  XV ()
def JY(b:List A9)(a:List A9):Option Bool :=
 if((b.length:Int) != (a.length:Int)) then
  some false
 else
  lp (E0S b a) 0
def Q0O:Ct:=b9 114 [.dat y155.sl,.dat y155.sl] (fun x=>JY x.1 x.2.1) (fun r:Bool=>B r) (fun _=>())
theorem N0L:Ok prog Q0O:=by
 refine c8 [.tmp 4] func114 ?_;intro y ⟨h,e,_⟩ r H Q hn hr;have:=hz (tc N0r tn);refine iA [0,1]<|vQ<|iA [0,1,10]<|cD H (fun H=>iA [4]<|a7<|fR<|hr H) fun H=>vK<|fQ<|jN r (fun(_:Unit)=>Z [] []) (XV) (fun _ H=>?_) (fun _ b j g=>?_)
 ·refine iA [4]<|a7<|hr H
 refine iA [0,1,5]<|vB<|lX (fun(a:Int)=>Z [p 0 (L y155 h),p 1 (L y155 e),p 5 (I a)] []) 0 H fun _ i f c d a H=>vQ<|iA [0,1,5,14]<|cD H (fun H=>?_) (fun H=>?_)
 ·refine vK<|fQ<|vQ<|vB<|iB [0,1,5,26] H fun H=>cD H (fun H=>iA [4]<|a7<|h9<|fR<|d<|h9<|g<|hr H) fun H=>vK<|fK<|fQ<|jB [0,1,5] H fun H=>f H
 exact vE<|fE<|c<|fX rfl<|b H
def JZ(b:m6)(a:m6):Option Bool :=
 gd ((JY b.1 a.1).isSome/\True) <|
 if(!vl (JY b.1 a.1)) then
  some false
 else
  gd ((JW b.2.1 a.2.1).isSome/\True) <|
  if(!vl (JW b.2.1 a.2.1)) then
   some false
  else
   gd ((JV b.2.2 a.2.2).isSome/\True) <|
   if(!vl (JV b.2.2 a.2.2)) then
    some false
   else
    some true
def k55:Ct:=b9 55 [.agg y53,.agg y53] (fun x=>JZ x.1 x.2.1) (fun r:Bool=>B r) (fun _=>())
theorem o55:Ok prog k55:=by
 refine c8 [.tmp 4] func55 ?_;intro y ⟨_,_,_⟩ r H Q hn hr;have:=hz (tc N0J (tc N0K (tc N0L tn)));refine iA [2,3]<|vQ<|iB [2,3,10] H fun H=>cD H (fun H=>iA [4]<|a7<|fR<|hr H) fun H=>vK<|fQ<|vQ<|iB [2,3,16] H fun H=>cD H (fun H=>iA [4]<|a7<|fR<|hr H) fun H=>vK<|fQ<|vQ<|iB [22] H fun H=>cD H (fun H=>iA [4]<|a7<|fR<|hr H) fun H=>vK<|fQ<|iA [4]<|a7<|hr H
def Kb(b:m4)(a:m4):Option Bool :=
 gd ((H3 b.1 a.1).isSome/\True) <|
 if(!vl (H3 b.1 a.1)) then
  some false
 else
  gd ((H3 b.2.1 a.2.1).isSome/\True) <|
  if(!vl (H3 b.2.1 a.2.1)) then
   some false
  else
   gd ((H3 b.2.2 a.2.2).isSome/\True) <|
   if(!vl (H3 b.2.2 a.2.2)) then
    some false
   else
    some true
def O0l:Ct:=b9 284 [.agg y269,.agg y269] (fun x=>Kb x.1 x.2.1) (fun r:Bool=>B r) (fun _=>())
theorem M0C:Ok prog O0l:=by
 refine c8 [.tmp 4] func284 ?_;intro y ⟨_,_,_⟩ r H Q hn hr;have:=hz (tc JR tn);refine iA [2,3]<|vQ<|iB [2,3,10] H fun H=>cD H (fun H=>iA [4]<|a7<|fR<|hr H) fun H=>vK<|fQ<|vQ<|iB [2,3,16] H fun H=>cD H (fun H=>iA [4]<|a7<|fR<|hr H) fun H=>vK<|fQ<|vQ<|iB [22] H fun H=>cD H (fun H=>iA [4]<|a7<|fR<|hr H) fun H=>vK<|fQ<|iA [4]<|a7<|hr H
def XW:Unit->Option Bool
 | _ =>
 some true
def D0J(b:List m4)(c:List m4)(d:Int->Option Bool):Int->Option Bool
 | a =>
 if(decide (a < (b.length:Int))) then
  gd (ix a b.length/\ix a c.length/\(Kb (b.getD a.toNat (a6 y269)) (c.getD a.toNat (a6 y269))).isSome/\True) <|
  if(!vl (Kb (b.getD a.toNat (a6 y269)) (c.getD a.toNat (a6 y269)))) then
   some false
  else
   gd (b7 (a+1)/\True) <|
   d (a+1)
 else
  XW ()
def DZ(b:List m4)(a:List m4):Option Bool :=
 if((b.length:Int) != (a.length:Int)) then
  some false
 else
  lp (D0J b a) 0
def O0x:Ct:=b9 268 [.dat y269.sl,.dat y269.sl] (fun x=>DZ x.1 x.2.1) (fun r:Bool=>B r) (fun _=>())
theorem M0J:Ok prog O0x:=by
 refine c8 [.tmp 4] func268 ?_;intro y ⟨h,e,_⟩ r H Q hn hr;have:=hz (tc M0C tn);refine iA [0,1]<|vQ<|iA [0,1,10]<|cD H (fun H=>iA [4]<|a7<|fR<|hr H) fun H=>vK<|fQ<|jN r (fun(_:Unit)=>Z [] []) (XW) (fun _ H=>?_) (fun _ b j g=>?_)
 ·refine iA [4]<|a7<|hr H
 refine iA [0,1,5]<|vB<|lX (fun(a:Int)=>Z [p 0 (L y269 h),p 1 (L y269 e),p 5 (I a)] []) 0 H fun _ i f c d a H=>vQ<|iA [0,1,5,14]<|cD H (fun H=>?_) (fun H=>?_)
 ·refine vK<|fQ<|vQ<|vB<|iB [0,1,5,26] H fun H=>cD H (fun H=>iA [4]<|a7<|h9<|fR<|d<|h9<|g<|hr H) fun H=>vK<|fK<|fQ<|jB [0,1,5] H fun H=>f H
 exact vE<|fE<|c<|fX rfl<|b H
def Kc(b:r7)(a:r7):Option Bool :=
 if(b.1 != a.1) then
  some false
 else
  if(b.2.1 != a.2.1) then
   some false
  else
   if(b.2.2.1 != a.2.2.1) then
    some false
   else
    if(b.2.2.2.1 != a.2.2.2.1) then
     some false
    else
     gd ((DZ b.2.2.2.2.1 a.2.2.2.2.1).isSome/\True) <|
     if(!vl (DZ b.2.2.2.2.1 a.2.2.2.2.1)) then
      some false
     else
      gd ((DZ b.2.2.2.2.2 a.2.2.2.2.2).isSome/\True) <|
      if(!vl (DZ b.2.2.2.2.2 a.2.2.2.2.2)) then
       some false
      else
       some true
def O0K:Ct:=b9 250 [.agg y158,.agg y158] (fun x=>Kc x.1 x.2.1) (fun r:Bool=>B r) (fun _=>())
theorem M0Q:Ok prog O0K:=by
 refine c8 [.tmp 4] func250 ?_;intro y ⟨_,_,_⟩ r H Q hn hr;have:=hz (tc M0J tn);refine iA [2,3]<|vQ<|iA [2,3,9]<|cD H (fun H=>iA [4]<|a7<|fR<|hr H) fun H=>vK<|fQ<|vQ<|iA [2,3,14]<|cD H (fun H=>iA [4]<|a7<|fR<|hr H) fun H=>vK<|fQ<|vQ<|iA [2,3,19]<|cD H (fun H=>iA [4]<|a7<|fR<|hr H) fun H=>vK<|fQ<|vQ<|iA [2,3,24]<|cD H (fun H=>iA [4]<|a7<|fR<|hr H) fun H=>vK<|fQ<|vQ<|iB [2,3,30] H fun H=>cD H (fun H=>iA [4]<|a7<|fR<|hr H) fun H=>vK<|fQ<|vQ<|iB [36] H fun H=>cD H (fun H=>iA [4]<|a7<|fR<|hr H) fun H=>vK<|fQ<|iA [4]<|a7<|hr H
end Go.Proofs.YtechodbafnmddaaGreatDoor
end
