/- Functions of this program as plain functions of data, and that they are so: printed by program. -/
import Derived.Test.YtechodbafnmddaaGreatDoorXD
import Derived.Test.YtechodbafnmddaaGreatDoorXF
import Derived.Test.YtechodbafnmddaaGreatDoorTY
import Derived.Test.YtechodbafnmddaaGreatDoorLB
section
namespace Go.Proofs.YtechodbafnmddaaGreatDoor
open Go Go.Proofs Go.Proofs.Sv Go.Proofs.Xv Go.Proofs.Xl Go.RowKit
open Tryz
instance:HG Tryz.prog Γ:=⟨Fo⟩
abbrev bx(T:TypeId)(c:List AV):Ob:=.box T c
abbrev b8:Ty:=.int .u8
abbrev Q0(x:c9 (.sl y153)×(c9 (.sl y155)×c9 (.sl Ty.str)×c9 (.sl y231))×c9 (.sl y172)):List AV:=[L y153 x.1,L y155 x.2.1.1,L Ty.str x.2.1.2.1,L y231 x.2.1.2.2,L y172 x.2.2,AV.os 18 0,AV.os 38 0,nil,nil,nil]
abbrev Q1(x:c9 (.sl y153)×(c9 (.sl y155)×c9 (.sl Ty.str)×c9 (.sl y231))×c9 (.sl y172)):List AV:=[L y153 x.1,L y155 x.2.1.1,L Ty.str x.2.1.2.1,L y231 x.2.1.2.2,L y172 x.2.2,AV.os 18 0,AV.os 38 0,AV.os 102 0,AV.os 114 0,nil]
abbrev W0(y0:List (c9 y235))(y1:c9 j6)(y2:List (c9 y138)):List (Nat×Ob):=[(18,A 235 y235 y0 0),(1,K 56 j6 y1),(38,A 138 y138 y2 0)]
abbrev G1(y0:Int)(y1:Int)(y2:Int)(y3:Int)(y4:Int)(y5:Int)(y6:Int)(y7:Int)(y8:Int)(t:List (Nat×Sl)):List (Nat×Sl):=p 3 (J y0) :: p 4 (R 4) :: p 9 (I y1) :: p 10 (I y2) :: p 11 (I y3) :: p 12 (I y4) :: p 13 (I y5) :: p 14 (I y6) :: p 15 (I y7) :: p 16 (I y8) :: t
abbrev G2(t:List (Nat×Sl)):List (Nat×Sl):=p 1 (R 1) :: p 3 (R 20) :: p 7 (O 50) :: t
abbrev G3(y0:List (c9 y138))(y1:List (c9 Ty.bool))(y2:Int)(y3:Int)(y4:Int)(t:List (Nat×Sl)):List (Nat×Sl):=p 2 (L y138 y0) :: p 3 (L Ty.bool y1) :: p 6 (J y2) :: p 7 (J y3) :: p 8 (R 8) :: p 9 (R 9) :: p 13 (R 13) :: p 18 (I y4) :: t
abbrev G4(y0:Int)(y1:List (c9 y138))(y2:List (c9 Ty.bool))(t:List (Nat×Sl)):List (Nat×Sl):=p 0 (J y0) :: p 1 (L y138 y1) :: p 2 (L Ty.bool y2) :: p 8 (O 13) :: p 9 (O 15) :: t
abbrev G5(y0:Int)(y1:Int)(y2:Int)(y3:Int)(t:List (Nat×Sl)):List (Nat×Sl):=p 3 (J y0) :: p 4 (R 4) :: p 10 (I y1) :: p 11 (O 29) :: p 12 (I y2) :: p 13 (I y3) :: t
abbrev G6(y0:Int)(t:List (Nat×Sl)):List (Nat×Sl):=p 1 (R 1) :: p 3 (I y0) :: t
abbrev W7(y0:c9 y189.pt)(y1:List (c9 Ty.bool)):List (Nat×Ob):=[(17,bx 126 [D y189.pt y0,AV.os 15 0]),(15,A 4 Ty.bool y1 0)]
abbrev W8(y0:List (c9 S9))(y1:List (c9 S9))(y2:c9 y269):List (Nat×Ob):=[(29,A 322 S9 y0 0),(22,A 322 S9 y1 0),(4,K 269 y269 y2)]
abbrev G9(y0:List (c9 y75))(y1:Int)(t:List (Nat×Sl)):List (Nat×Sl):=p 3 (L y75 y0) :: p 6 (J y1) :: p 7 (R 7) :: p 8 (R 8) :: p 11 (R 11) :: p 17 (O 38) :: p 18 (O 41) :: t
abbrev AW(t:List (Nat×Sl)):List (Nat×Sl):=p 2 (R 2) :: p 3 (R 3) :: t
abbrev Gp(y0:c9 y53)(y1:List (c9 y153)):List (Nat×Ob):=[(3,K 53 y53 y0),(2,bx 49 [L y153 y1])]
abbrev Kj(y0:Int)(y1:Int)(y2:Int)(y3:Int)(t:List (Nat×Sl)):List (Nat×Sl):=p 0 (O 500000) :: p 2 (J y0) :: p 3 (J y1) :: p 4 (J y2) :: p 6 (R 6) :: p 11 (I y3) :: t
abbrev Ig(y0:c9 y65)(y1:c9 A0)(y2:c9 j6):List (Nat×Ob):=[(13,K 65 y65 y0),(9,K 58 A0 y1),(8,K 56 j6 y2)]
abbrev Dl(t:List (Nat×Sl)):List (Nat×Sl):=p 1 (R 1) :: p 3 (O 20) :: t
abbrev Kk(y0:Int)(t:List (Nat×Sl)):List (Nat×Sl):=p 1 (R 1) :: p 3 (O 12) :: p 4 (R 4) :: p 5 (I y0) :: t
abbrev Oj(y0:List (c9 Ty.bool))(y1:List (c9 y138))(y2:c9 y65)(y3:c9 A0)(y4:c9 j6):List (Nat×Ob):=[(41,A 4 Ty.bool y0 0),(38,A 138 y138 y1 0),(11,K 65 y65 y2),(8,K 58 A0 y3),(7,K 56 j6 y4)]
abbrev Gq(y0:List (c9 i64))(y1:c9 y53):List (Nat×Ob):=[(92,A 2 i64 y0 0),(3,K 53 y53 y1)]
def O3(b:List Int)(a:Int):Option Int :=
 gd (b9 (a-(b.length:Int))/\True) <|
 if(decide (a-(b.length:Int)<0)) then
  some (-1)
 else
  some (a-(b.length:Int))
def S0y:Ct:=c7 137 [.dat i64.sl,.dat i64] (fun x=>O3 x.1 x.2.1) (fun r:Int=>I r) (fun _=>())
theorem Aq:Ok prog S0y:=by
 refine c8 [.tmp 4] func137 ?_;intro y ⟨_,_,_⟩ r H Q hn hr;refine iA [0,1]<|iB [1] H fun H=>vQ<|iA [1,10]<|cD H (fun H=>iA [4]<|a8<|fR<|hr H) fun H=>vK<|fQ<|iA [4]<|a8<|hr H
def Kl(a:BH)(f:Int):Option Int :=
 gd ((O3 a.1 f).isSome/\True)<|lt (vl (O3 a.1 f)) fun b =>
 if(decide (b<0)) then
  some (-1)
 else
  gd ((O3 a.2.1 b).isSome/\True)<|lt (vl (O3 a.2.1 b)) fun c =>
  if(decide (c<0)) then
   some (-1)
  else
   gd ((O3 a.2.2.1 c).isSome/\True)<|lt (vl (O3 a.2.2.1 c)) fun d =>
   if(decide (d<0)) then
    some (-1)
   else
    gd ((O3 a.2.2.2 d).isSome/\True)<|lt (vl (O3 a.2.2.2 d)) fun e =>
    if(decide (e<0)) then
     some (-1)
    else
     some e
def k82:Ct:=c7 82 [.agg y146,.dat i64] (fun x=>Kl x.1 x.2.1) (fun r:Int=>I r) (fun _=>())
theorem WX:Ok prog k82:=by
 refine c8 [.tmp 4] func82 ?_;intro y ⟨_,_,_⟩ r H Q hn hr;have:=hz (tc Aq tn);refine iA [1,2]<|iD Aq [1,2] H fun _ H=>vQ<|iA [1,2,10]<|cD H (fun H=>iA [4]<|a8<|fR<|hr H) fun H=>vK<|fQ<|iD Aq [1,2] H fun _ H=>vQ<|iA [1,2,16]<|cD H (fun H=>iA [4]<|a8<|fR<|hr H) fun H=>vK<|fQ<|iD Aq [1,2] H fun _ H=>vQ<|iA [1,2,22]<|cD H (fun H=>iA [4]<|a8<|fR<|hr H) fun H=>vK<|fQ<|iD Aq [1] H fun _ H=>vQ<|iA [1,28]<|cD H (fun H=>iA [4]<|a8<|fR<|hr H) fun H=>vK<|fQ<|iA [4]<|a8<|hr H
def WY:Int->Option Int
 | a =>
 some a
def J0t(b:List BH)(e:Int×Int->Option Int):Int×Int->Option Int
 | (c,a) =>
 if(decide (a < (b.length:Int))) then
  gd (ix a b.length/\(Kl (b.getD a.toNat (a7 y146)) c).isSome/\True)<|lt (vl (Kl (b.getD a.toNat (a7 y146)) c)) fun d =>
  if(decide (d<0)) then
   some (-1)
  else
   gd (b9 (a+1)/\True) <|
   e (d,a+1)
 else
  WY c
def Km(a:List BH)(b:Int):Option Int :=
 gd (b9 (b-(a.length:Int))/\True) <|
 if(decide (b-(a.length:Int)<0)) then
  some (-1)
 else
  lp (J0t a) ((b-(a.length:Int),0))
def k37:Ct:=c7 37 [.dat y146.sl,.dat i64] (fun x=>Km x.1 x.2.1) (fun r:Int=>I r) (fun _=>())
theorem WZ:Ok prog k37:=by
 refine c8 [.tmp 4] func37 ?_;intro y ⟨a,h,_⟩ r H Q hn hr;have:=hz (tc WX tn);refine iA [0,1]<|iB [0,1] H fun H=>vQ<|iA [0,1,11]<|cD H (fun H=>iA [4]<|a8<|fR<|hr H) fun H=>vK<|fQ<|jN r (fun(b:Int)=>Z [p 1 (I b)] []) (WY) (fun b H=>?_) (fun _ g l f=>?_)
 ·refine iA [4]<|a8<|hr H
 refine iA [0,1,5]<|vB<|lX (fun((c,d):Int×Int)=>Z [p 0 (L y146 a),p 1 (I c),p 5 (I d)] []) ((h-(a.length:Int),0)) H fun _ k i e j ⟨c,d⟩ H=>vQ<|iA [0,1,5,15]<|cD H (fun H=>?_) (fun H=>?_)
 ·refine vK<|fQ<|vQ<|vB<|iD WX [0,1,5] H fun _ H=>iA [0,1,5,25]<|cD H (fun H=>iA [4]<|a8<|j0<|fR<|j<|j0<|f<|hr H) fun H=>vK<|fK<|fQ<|jB [0,1,5] H fun H=>i H
 exact vE<|fE<|e<|fX rfl<|g H
def Kn(b:BI)(a:Int):Option Int :=
 gd (b9 (a-(b.1.size:Int))/\True) <|
 if(decide (a-(b.1.size:Int)<0)) then
  some (-1)
 else
  some (a-(b.1.size:Int))
def S0z:Ct:=c7 136 [.agg y221,.dat i64] (fun x=>Kn x.1 x.2.1) (fun r:Int=>I r) (fun _=>())
theorem Xa:Ok prog S0z:=by
 refine c8 [.tmp 4] func136 ?_;intro y ⟨_,_,_⟩ r H Q hn hr;refine iA [1,2]<|iB [1] H fun H=>vQ<|iA [1,11]<|cD H (fun H=>iA [4]<|a8<|fR<|hr H) fun H=>vK<|fQ<|iA [4]<|a8<|hr H
def Xb:Int->Option Int
 | a =>
 some a
def J0j(b:List BI)(e:Int×Int->Option Int):Int×Int->Option Int
 | (c,a) =>
 if(decide (a < (b.length:Int))) then
  gd (ix a b.length/\(Kn (b.getD a.toNat (a7 y221)) c).isSome/\True)<|lt (vl (Kn (b.getD a.toNat (a7 y221)) c)) fun d =>
  if(decide (d<0)) then
   some (-1)
  else
   gd (b9 (a+1)/\True) <|
   e (d,a+1)
 else
  Xb c
def Ko(a:List BI)(b:Int):Option Int :=
 gd (b9 (b-(a.length:Int))/\True) <|
 if(decide (b-(a.length:Int)<0)) then
  some (-1)
 else
  lp (J0j a) ((b-(a.length:Int),0))
def k81:Ct:=c7 81 [.dat y221.sl,.dat i64] (fun x=>Ko x.1 x.2.1) (fun r:Int=>I r) (fun _=>())
theorem Xc:Ok prog k81:=by
 refine c8 [.tmp 4] func81 ?_;intro y ⟨a,h,_⟩ r H Q hn hr;have:=hz (tc Xa tn);refine iA [0,1]<|iB [0,1] H fun H=>vQ<|iA [0,1,11]<|cD H (fun H=>iA [4]<|a8<|fR<|hr H) fun H=>vK<|fQ<|jN r (fun(b:Int)=>Z [p 1 (I b)] []) (Xb) (fun b H=>?_) (fun _ g l f=>?_)
 ·refine iA [4]<|a8<|hr H
 refine iA [0,1,5]<|vB<|lX (fun((c,d):Int×Int)=>Z [p 0 (L y221 a),p 1 (I c),p 5 (I d)] []) ((h-(a.length:Int),0)) H fun _ k i e j ⟨c,d⟩ H=>vQ<|iA [0,1,5,15]<|cD H (fun H=>?_) (fun H=>?_)
 ·refine vK<|fQ<|vQ<|vB<|iD Xa [0,1,5] H fun _ H=>iA [0,1,5,25]<|cD H (fun H=>iA [4]<|a8<|j0<|fR<|j<|j0<|f<|hr H) fun H=>vK<|fK<|fQ<|jB [0,1,5] H fun H=>i H
 exact vE<|fE<|e<|fX rfl<|g H
def Xe:Int->Option Int
 | a =>
 some a
def J0k(b:List ByteArray)(e:Int×Int->Option Int):Int×Int->Option Int
 | (c,a) =>
 if(decide (a < (b.length:Int))) then
  gd (ix a b.length/\b9 (c-(↑(ByteArray.size (b.getD a.toNat (a7 Ty.str))):Int))/\True)<|lt (c-(↑(ByteArray.size (b.getD a.toNat (a7 Ty.str))):Int)) fun d =>
  if(decide (d<0)) then
   some (-1)
  else
   gd (b9 (a+1)/\True) <|
   e (d,a+1)
 else
  Xe c
def Kp(a:List ByteArray)(b:Int):Option Int :=
 gd (b9 (b-(a.length:Int))/\True) <|
 if(decide (b-(a.length:Int)<0)) then
  some (-1)
 else
  lp (J0k a) ((b-(a.length:Int),0))
def k80:Ct:=c7 80 [.dat Ty.str.sl,.dat i64] (fun x=>Kp x.1 x.2.1) (fun r:Int=>I r) (fun _=>())
theorem Xf:Ok prog k80:=by
 refine c8 [.tmp 4] func80 ?_;intro y ⟨a,i,_⟩ r H Q hn hr;refine iA [0,1]<|iB [0,1] H fun H=>vQ<|iA [0,1,11]<|cD H (fun H=>iA [4]<|a8<|fR<|hr H) fun H=>vK<|fQ<|jN r (fun(d:Int)=>Z [p 1 (I d)] []) (Xe) (fun d H=>?_) (fun _ h m g=>?_)
 ·refine iA [4]<|a8<|hr H
 refine iA [0,1,5]<|vB<|lX (fun((e,b):Int×Int)=>Z [p 0 (L Ty.str a),p 1 (I e),p 5 (I b)] []) ((i-(a.length:Int),0)) H fun _ l j f k ⟨e,b⟩ H=>vQ<|iA [0,1,5,15]<|cD H (fun H=>?_) (fun H=>?_)
 ·refine vK<|fQ<|vQ<|vB<|qD (fun c=>Z [p 0 (L Ty.str a),p 1 (I c),p 5 (I b)] []) H fun c H=>iA [0,1,5,26]<|cD H (fun H=>iA [4]<|a8<|j0<|fR<|k<|j0<|g<|hr H) fun H=>vK<|fK<|fQ<|jB [0,1,5] H fun H=>j H
 exact vE<|fE<|f<|fX rfl<|h H
def Kq(a:BJ)(b:Int):Option Int :=
 gd (b9 (b-(a.1.size:Int))/\True) <|
 if(decide (b-(a.1.size:Int)<0)) then
  some (-1)
 else
  gd ((O3 a.2.2 (b-(a.1.size:Int))).isSome/\True)<|lt (vl (O3 a.2.2 (b-(a.1.size:Int)))) fun c =>
  if(decide (c<0)) then
   some (-1)
  else
   some c
def S0A:Ct:=c7 135 [.agg y218,.dat i64] (fun x=>Kq x.1 x.2.1) (fun r:Int=>I r) (fun _=>())
theorem Xg:Ok prog S0A:=by
 refine c8 [.tmp 4] func135 ?_;intro y ⟨_,_,_⟩ r H Q hn hr;have:=hz (tc Aq tn);refine iA [1,2]<|iB [1,2] H fun H=>vQ<|iA [1,2,11]<|cD H (fun H=>iA [4]<|a8<|fR<|hr H) fun H=>vK<|fQ<|iD Aq [1] H fun _ H=>vQ<|iA [1,17]<|cD H (fun H=>iA [4]<|a8<|fR<|hr H) fun H=>vK<|fQ<|iA [4]<|a8<|hr H
def Xh:Int->Option Int
 | a =>
 some a
def J0l(b:List BJ)(e:Int×Int->Option Int):Int×Int->Option Int
 | (c,a) =>
 if(decide (a < (b.length:Int))) then
  gd (ix a b.length/\(Kq (b.getD a.toNat (a7 y218)) c).isSome/\True)<|lt (vl (Kq (b.getD a.toNat (a7 y218)) c)) fun d =>
  if(decide (d<0)) then
   some (-1)
  else
   gd (b9 (a+1)/\True) <|
   e (d,a+1)
 else
  Xh c
def Kr(a:List BJ)(b:Int):Option Int :=
 gd (b9 (b-(a.length:Int))/\True) <|
 if(decide (b-(a.length:Int)<0)) then
  some (-1)
 else
  lp (J0l a) ((b-(a.length:Int),0))
def k79:Ct:=c7 79 [.dat y218.sl,.dat i64] (fun x=>Kr x.1 x.2.1) (fun r:Int=>I r) (fun _=>())
theorem Xi:Ok prog k79:=by
 refine c8 [.tmp 4] func79 ?_;intro y ⟨a,h,_⟩ r H Q hn hr;have:=hz (tc Xg tn);refine iA [0,1]<|iB [0,1] H fun H=>vQ<|iA [0,1,11]<|cD H (fun H=>iA [4]<|a8<|fR<|hr H) fun H=>vK<|fQ<|jN r (fun(b:Int)=>Z [p 1 (I b)] []) (Xh) (fun b H=>?_) (fun _ g l f=>?_)
 ·refine iA [4]<|a8<|hr H
 refine iA [0,1,5]<|vB<|lX (fun((c,d):Int×Int)=>Z [p 0 (L y218 a),p 1 (I c),p 5 (I d)] []) ((h-(a.length:Int),0)) H fun _ k i e j ⟨c,d⟩ H=>vQ<|iA [0,1,5,15]<|cD H (fun H=>?_) (fun H=>?_)
 ·refine vK<|fQ<|vQ<|vB<|iD Xg [0,1,5] H fun _ H=>iA [0,1,5,25]<|cD H (fun H=>iA [4]<|a8<|j0<|fR<|j<|j0<|f<|hr H) fun H=>vK<|fK<|fQ<|jB [0,1,5] H fun H=>i H
 exact vE<|fE<|e<|fX rfl<|g H
def Ks(a:Kt)(d:Int):Option Int :=
 gd ((Kr a.1 d).isSome/\True)<|lt (vl (Kr a.1 d)) fun b =>
 if(decide (b<0)) then
  some (-1)
 else
  gd ((Kp a.2.1 b).isSome/\True)<|lt (vl (Kp a.2.1 b)) fun c =>
  if(decide (c<0)) then
   some (-1)
  else
   gd ((Ko a.2.2 c).isSome/\True)<|lt (vl (Ko a.2.2 c)) fun e =>
   if(decide (e<0)) then
    some (-1)
   else
    some e
def k36:Ct:=c7 36 [.agg BK,.dat i64] (fun x=>Ks x.1 x.2.1) (fun r:Int=>I r) (fun _=>())
theorem Xj:Ok prog k36:=by
 refine c8 [.tmp 4] func36 ?_;intro y ⟨_,_,_⟩ r H Q hn hr;have:=hz (tc Xc (tc Xf (tc Xi tn)));refine iA [1,2]<|iD Xi [1,2] H fun _ H=>vQ<|iA [1,2,10]<|cD H (fun H=>iA [4]<|a8<|fR<|hr H) fun H=>vK<|fQ<|iD Xf [1,2] H fun _ H=>vQ<|iA [1,2,16]<|cD H (fun H=>iA [4]<|a8<|fR<|hr H) fun H=>vK<|fQ<|iD Xc [1] H fun _ H=>vQ<|iA [1,22]<|cD H (fun H=>iA [4]<|a8<|fR<|hr H) fun H=>vK<|fQ<|iA [4]<|a8<|hr H
def Ku(a:AX)(d:Int):Option Int :=
 gd ((O3 a.1 d).isSome/\True)<|lt (vl (O3 a.1 d)) fun b =>
 if(decide (b<0)) then
  some (-1)
 else
  gd ((O3 a.2.1 b).isSome/\True)<|lt (vl (O3 a.2.1 b)) fun c =>
  if(decide (c<0)) then
   some (-1)
  else
   gd ((O3 a.2.2 c).isSome/\True)<|lt (vl (O3 a.2.2 c)) fun e =>
   if(decide (e<0)) then
    some (-1)
   else
    some e
def Q0w:Ct:=c7 269 [.agg y342,.dat i64] (fun x=>Ku x.1 x.2.1) (fun r:Int=>I r) (fun _=>())
theorem Xk:Ok prog Q0w:=by
 refine c8 [.tmp 4] func269 ?_;intro y ⟨_,_,_⟩ r H Q hn hr;have:=hz (tc Aq tn);refine iA [1,2]<|iD Aq [1,2] H fun _ H=>vQ<|iA [1,2,10]<|cD H (fun H=>iA [4]<|a8<|fR<|hr H) fun H=>vK<|fQ<|iD Aq [1,2] H fun _ H=>vQ<|iA [1,2,16]<|cD H (fun H=>iA [4]<|a8<|fR<|hr H) fun H=>vK<|fQ<|iD Aq [1] H fun _ H=>vQ<|iA [1,22]<|cD H (fun H=>iA [4]<|a8<|fR<|hr H) fun H=>vK<|fQ<|iA [4]<|a8<|hr H
def Xm:Int->Option Int
 | a =>
 some a
def F0G(b:List AX)(e:Int×Int->Option Int):Int×Int->Option Int
 | (c,a) =>
 if(decide (a < (b.length:Int))) then
  gd (ix a b.length/\(Ku (b.getD a.toNat (a7 y342)) c).isSome/\True)<|lt (vl (Ku (b.getD a.toNat (a7 y342)) c)) fun d =>
  if(decide (d<0)) then
   some (-1)
  else
   gd (b9 (a+1)/\True) <|
   e (d,a+1)
 else
  Xm c
def Gr(a:List AX)(b:Int):Option Int :=
 gd (b9 (b-(a.length:Int))/\True) <|
 if(decide (b-(a.length:Int)<0)) then
  some (-1)
 else
  lp (F0G a) ((b-(a.length:Int),0))
def Q0J:Ct:=c7 251 [.dat y342.sl,.dat i64] (fun x=>Gr x.1 x.2.1) (fun r:Int=>I r) (fun _=>())
theorem Sd:Ok prog Q0J:=by
 refine c8 [.tmp 4] func251 ?_;intro y ⟨a,h,_⟩ r H Q hn hr;have:=hz (tc Xk tn);refine iA [0,1]<|iB [0,1] H fun H=>vQ<|iA [0,1,11]<|cD H (fun H=>iA [4]<|a8<|fR<|hr H) fun H=>vK<|fQ<|jN r (fun(b:Int)=>Z [p 1 (I b)] []) (Xm) (fun b H=>?_) (fun _ g l f=>?_)
 ·refine iA [4]<|a8<|hr H
 refine iA [0,1,5]<|vB<|lX (fun((c,d):Int×Int)=>Z [p 0 (L y342 a),p 1 (I c),p 5 (I d)] []) ((h-(a.length:Int),0)) H fun _ k i e j ⟨c,d⟩ H=>vQ<|iA [0,1,5,15]<|cD H (fun H=>?_) (fun H=>?_)
 ·refine vK<|fQ<|vQ<|vB<|iD Xk [0,1,5] H fun _ H=>iA [0,1,5,25]<|cD H (fun H=>iA [4]<|a8<|j0<|fR<|j<|j0<|f<|hr H) fun H=>vK<|fK<|fQ<|jB [0,1,5] H fun H=>i H
 exact vE<|fE<|e<|fX rfl<|g H
def Kv(a:BL)(c:Int):Option Int :=
 gd ((Gr a.2.2.2.2.1 c).isSome/\True)<|lt (vl (Gr a.2.2.2.2.1 c)) fun b =>
 if(decide (b<0)) then
  some (-1)
 else
  gd ((Gr a.2.2.2.2.2 b).isSome/\True)<|lt (vl (Gr a.2.2.2.2.2 b)) fun d =>
  if(decide (d<0)) then
   some (-1)
  else
   some d
def R0a:Ct:=c7 224 [.agg y300,.dat i64] (fun x=>Kv x.1 x.2.1) (fun r:Int=>I r) (fun _=>())
theorem Xn:Ok prog R0a:=by
 refine c8 [.tmp 4] func224 ?_;intro y ⟨_,_,_⟩ r H Q hn hr;have:=hz (tc Sd tn);refine iA [1,2]<|iD Sd [1,2] H fun _ H=>vQ<|iA [1,2,10]<|cD H (fun H=>iA [4]<|a8<|fR<|hr H) fun H=>vK<|fQ<|iD Sd [1] H fun _ H=>vQ<|iA [1,16]<|cD H (fun H=>iA [4]<|a8<|fR<|hr H) fun H=>vK<|fQ<|iA [4]<|a8<|hr H
def Xo:Int->Option Int
 | a =>
 some a
def G0i(b:List BL)(e:Int×Int->Option Int):Int×Int->Option Int
 | (c,a) =>
 if(decide (a < (b.length:Int))) then
  gd (ix a b.length/\(Kv (b.getD a.toNat (a7 y300)) c).isSome/\True)<|lt (vl (Kv (b.getD a.toNat (a7 y300)) c)) fun d =>
  if(decide (d<0)) then
   some (-1)
  else
   gd (b9 (a+1)/\True) <|
   e (d,a+1)
 else
  Xo c
def Kw(a:List BL)(b:Int):Option Int :=
 gd (b9 (b-(a.length:Int))/\True) <|
 if(decide (b-(a.length:Int)<0)) then
  some (-1)
 else
  lp (G0i a) ((b-(a.length:Int),0))
def R0K:Ct:=c7 183 [.dat y300.sl,.dat i64] (fun x=>Kw x.1 x.2.1) (fun r:Int=>I r) (fun _=>())
theorem Xp:Ok prog R0K:=by
 refine c8 [.tmp 4] func183 ?_;intro y ⟨a,h,_⟩ r H Q hn hr;have:=hz (tc Xn tn);refine iA [0,1]<|iB [0,1] H fun H=>vQ<|iA [0,1,11]<|cD H (fun H=>iA [4]<|a8<|fR<|hr H) fun H=>vK<|fQ<|jN r (fun(b:Int)=>Z [p 1 (I b)] []) (Xo) (fun b H=>?_) (fun _ g l f=>?_)
 ·refine iA [4]<|a8<|hr H
 refine iA [0,1,5]<|vB<|lX (fun((c,d):Int×Int)=>Z [p 0 (L y300 a),p 1 (I c),p 5 (I d)] []) ((h-(a.length:Int),0)) H fun _ k i e j ⟨c,d⟩ H=>vQ<|iA [0,1,5,15]<|cD H (fun H=>?_) (fun H=>?_)
 ·refine vK<|fQ<|vQ<|vB<|iD Xn [0,1,5] H fun _ H=>iA [0,1,5,25]<|cD H (fun H=>iA [4]<|a8<|j0<|fR<|j<|j0<|f<|hr H) fun H=>vK<|fK<|fQ<|jB [0,1,5] H fun H=>i H
 exact vE<|fE<|e<|fX rfl<|g H
def Kx(b:BM)(a:Int):Option Int :=
 gd (b9 (a-(b.1.size:Int))/\True) <|
 if(decide (a-(b.1.size:Int)<0)) then
  some (-1)
 else
  some (a-(b.1.size:Int))
def R0b:Ct:=c7 223 [.agg y296,.dat i64] (fun x=>Kx x.1 x.2.1) (fun r:Int=>I r) (fun _=>())
theorem Xq:Ok prog R0b:=by
 refine c8 [.tmp 4] func223 ?_;intro y ⟨_,_,_⟩ r H Q hn hr;refine iA [1,2]<|iB [1] H fun H=>vQ<|iA [1,11]<|cD H (fun H=>iA [4]<|a8<|fR<|hr H) fun H=>vK<|fQ<|iA [4]<|a8<|hr H
def Xr:Int->Option Int
 | a =>
 some a
def G0k(b:List BM)(e:Int×Int->Option Int):Int×Int->Option Int
 | (c,a) =>
 if(decide (a < (b.length:Int))) then
  gd (ix a b.length/\(Kx (b.getD a.toNat (a7 y296)) c).isSome/\True)<|lt (vl (Kx (b.getD a.toNat (a7 y296)) c)) fun d =>
  if(decide (d<0)) then
   some (-1)
  else
   gd (b9 (a+1)/\True) <|
   e (d,a+1)
 else
  Xr c
def Ky(a:List BM)(b:Int):Option Int :=
 gd (b9 (b-(a.length:Int))/\True) <|
 if(decide (b-(a.length:Int)<0)) then
  some (-1)
 else
  lp (G0k a) ((b-(a.length:Int),0))
def R0L:Ct:=c7 182 [.dat y296.sl,.dat i64] (fun x=>Ky x.1 x.2.1) (fun r:Int=>I r) (fun _=>())
theorem Xs:Ok prog R0L:=by
 refine c8 [.tmp 4] func182 ?_;intro y ⟨a,h,_⟩ r H Q hn hr;have:=hz (tc Xq tn);refine iA [0,1]<|iB [0,1] H fun H=>vQ<|iA [0,1,11]<|cD H (fun H=>iA [4]<|a8<|fR<|hr H) fun H=>vK<|fQ<|jN r (fun(b:Int)=>Z [p 1 (I b)] []) (Xr) (fun b H=>?_) (fun _ g l f=>?_)
 ·refine iA [4]<|a8<|hr H
 refine iA [0,1,5]<|vB<|lX (fun((c,d):Int×Int)=>Z [p 0 (L y296 a),p 1 (I c),p 5 (I d)] []) ((h-(a.length:Int),0)) H fun _ k i e j ⟨c,d⟩ H=>vQ<|iA [0,1,5,15]<|cD H (fun H=>?_) (fun H=>?_)
 ·refine vK<|fQ<|vQ<|vB<|iD Xq [0,1,5] H fun _ H=>iA [0,1,5,25]<|cD H (fun H=>iA [4]<|a8<|j0<|fR<|j<|j0<|f<|hr H) fun H=>vK<|fK<|fQ<|jB [0,1,5] H fun H=>i H
 exact vE<|fE<|e<|fX rfl<|g H
def Kz(a:X5)(b:Int):Option Int :=
 gd (b9 (b-(a.1.size:Int))/\True) <|
 if(decide (b-(a.1.size:Int)<0)) then
  some (-1)
 else
  gd ((Ky a.2.2.1 (b-(a.1.size:Int))).isSome/\True)<|lt (vl (Ky a.2.2.1 (b-(a.1.size:Int)))) fun c =>
  if(decide (c<0)) then
   some (-1)
  else
   gd ((Kw a.2.2.2.1 c).isSome/\True)<|lt (vl (Kw a.2.2.2.1 c)) fun d =>
   if(decide (d<0)) then
    some (-1)
   else
    gd ((O3 a.2.2.2.2.1 d).isSome/\True)<|lt (vl (O3 a.2.2.2.2.1 d)) fun e =>
    if(decide (e<0)) then
     some (-1)
    else
     some e
def S0B:Ct:=c7 134 [.agg y216,.dat i64] (fun x=>Kz x.1 x.2.1) (fun r:Int=>I r) (fun _=>())
theorem Xt:Ok prog S0B:=by
 refine c8 [.tmp 4] func134 ?_;intro y ⟨_,_,_⟩ r H Q hn hr;have:=hz (tc Aq (tc Xp (tc Xs tn)));refine iA [1,2]<|iB [1,2] H fun H=>vQ<|iA [1,2,11]<|cD H (fun H=>iA [4]<|a8<|fR<|hr H) fun H=>vK<|fQ<|iD Xs [1,2] H fun _ H=>vQ<|iA [1,2,17]<|cD H (fun H=>iA [4]<|a8<|fR<|hr H) fun H=>vK<|fQ<|iD Xp [1,2] H fun _ H=>vQ<|iA [1,2,23]<|cD H (fun H=>iA [4]<|a8<|fR<|hr H) fun H=>vK<|fQ<|iD Aq [1] H fun _ H=>vQ<|iA [1,29]<|cD H (fun H=>iA [4]<|a8<|fR<|hr H) fun H=>vK<|fQ<|iA [4]<|a8<|hr H
def Xu:Int->Option Int
 | a =>
 some a
def J0m(b:List X5)(e:Int×Int->Option Int):Int×Int->Option Int
 | (c,a) =>
 if(decide (a < (b.length:Int))) then
  gd (ix a b.length/\(Kz (b.getD a.toNat (a7 y216)) c).isSome/\True)<|lt (vl (Kz (b.getD a.toNat (a7 y216)) c)) fun d =>
  if(decide (d<0)) then
   some (-1)
  else
   gd (b9 (a+1)/\True) <|
   e (d,a+1)
 else
  Xu c
def KA(a:List X5)(b:Int):Option Int :=
 gd (b9 (b-(a.length:Int))/\True) <|
 if(decide (b-(a.length:Int)<0)) then
  some (-1)
 else
  lp (J0m a) ((b-(a.length:Int),0))
def k78:Ct:=c7 78 [.dat y216.sl,.dat i64] (fun x=>KA x.1 x.2.1) (fun r:Int=>I r) (fun _=>())
theorem Xw:Ok prog k78:=by
 refine c8 [.tmp 4] func78 ?_;intro y ⟨a,h,_⟩ r H Q hn hr;have:=hz (tc Xt tn);refine iA [0,1]<|iB [0,1] H fun H=>vQ<|iA [0,1,11]<|cD H (fun H=>iA [4]<|a8<|fR<|hr H) fun H=>vK<|fQ<|jN r (fun(b:Int)=>Z [p 1 (I b)] []) (Xu) (fun b H=>?_) (fun _ g l f=>?_)
 ·refine iA [4]<|a8<|hr H
 refine iA [0,1,5]<|vB<|lX (fun((c,d):Int×Int)=>Z [p 0 (L y216 a),p 1 (I c),p 5 (I d)] []) ((h-(a.length:Int),0)) H fun _ k i e j ⟨c,d⟩ H=>vQ<|iA [0,1,5,15]<|cD H (fun H=>?_) (fun H=>?_)
 ·refine vK<|fQ<|vQ<|vB<|iD Xt [0,1,5] H fun _ H=>iA [0,1,5,25]<|cD H (fun H=>iA [4]<|a8<|j0<|fR<|j<|j0<|f<|hr H) fun H=>vK<|fK<|fQ<|jB [0,1,5] H fun H=>i H
 exact vE<|fE<|e<|fX rfl<|g H
def KB(c:List X5)(b:Int):Option Int :=
 gd ((KA c b).isSome/\True)<|lt (vl (KA c b)) fun a =>
 if(decide (a<0)) then
  some (-1)
 else
  some a
def k35:Ct:=c7 35 [.agg y216.sl,.dat i64] (fun x=>KB x.1 x.2.1) (fun r:Int=>I r) (fun _=>())
theorem Xx:Ok prog k35:=by
 refine c8 [.tmp 4] func35 ?_;intro y ⟨_,_,_⟩ r H Q hn hr;have:=hz (tc Xw tn);refine iA [1,2]<|iD Xw [1] H fun _ H=>vQ<|iA [1,10]<|cD H (fun H=>iA [4]<|a8<|fR<|hr H) fun H=>vK<|fQ<|iA [4]<|a8<|hr H
def u7(a:Dm)(d:Int):Option Int :=
 gd ((KB a.1 d).isSome/\True)<|lt (vl (KB a.1 d)) fun b =>
 if(decide (b<0)) then
  some (-1)
 else
  gd ((Ks a.2.1 b).isSome/\True)<|lt (vl (Ks a.2.1 b)) fun c =>
  if(decide (c<0)) then
   some (-1)
  else
   gd ((Km a.2.2 c).isSome/\True)<|lt (vl (Km a.2.2 c)) fun e =>
   if(decide (e<0)) then
    some (-1)
   else
    some e
def k7:Ct:=c7 7 [.agg Z7,.dat i64] (fun x=>u7 x.1 x.2.1) (fun r:Int=>I r) (fun _=>())
theorem o7:Ok prog k7:=by
 refine c8 [.tmp 4] func7 ?_;intro y ⟨_,_,_⟩ r H Q hn hr;have:=hz (tc WZ (tc Xj (tc Xx tn)));refine iA [1,2]<|iD Xx [1,2] H fun _ H=>vQ<|iA [1,2,10]<|cD H (fun H=>iA [4]<|a8<|fR<|hr H) fun H=>vK<|fQ<|iD Xj [1,2] H fun _ H=>vQ<|iA [1,2,16]<|cD H (fun H=>iA [4]<|a8<|fR<|hr H) fun H=>vK<|fQ<|iD WZ [1] H fun _ H=>vQ<|iA [1,22]<|cD H (fun H=>iA [4]<|a8<|fR<|hr H) fun H=>vK<|fQ<|iA [4]<|a8<|hr H
def u8(b:Dn)(a:Int):Option Int :=
 gd (b9 (a-(b.1.size:Int))/\True) <|
 if(decide (a-(b.1.size:Int)<0)) then
  some (-1)
 else
  some (a-(b.1.size:Int))
def k8:Ct:=c7 8 [.agg Z8,.dat i64] (fun x=>u8 x.1 x.2.1) (fun r:Int=>I r) (fun _=>())
theorem o8:Ok prog k8:=by
 refine c8 [.tmp 4] func8 ?_;intro y ⟨_,_,_⟩ r H Q hn hr;refine iA [1,2]<|iB [1] H fun H=>vQ<|iA [1,11]<|cD H (fun H=>iA [4]<|a8<|fR<|hr H) fun H=>vK<|fQ<|iA [4]<|a8<|hr H
def u9(b:List BN)(a:Int):Option Int :=
 gd (b9 (a-(b.length:Int))/\True) <|
 if(decide (a-(b.length:Int)<0)) then
  some (-1)
 else
  some (a-(b.length:Int))
def k9:Ct:=c7 9 [.dat y106.sl,.dat i64] (fun x=>u9 x.1 x.2.1) (fun r:Int=>I r) (fun _=>())
theorem o9:Ok prog k9:=by
 refine c8 [.tmp 4] func9 ?_;intro y ⟨_,_,_⟩ r H Q hn hr;refine iA [0,1]<|iB [1] H fun H=>vQ<|iA [1,10]<|cD H (fun H=>iA [4]<|a8<|fR<|hr H) fun H=>vK<|fQ<|iA [4]<|a8<|hr H
def Gs(b:List BO)(a:Int):Option Int :=
 gd (b9 (a-(b.length:Int))/\True) <|
 if(decide (a-(b.length:Int)<0)) then
  some (-1)
 else
  some (a-(b.length:Int))
def k39:Ct:=c7 39 [.dat y104.sl,.dat i64] (fun x=>Gs x.1 x.2.1) (fun r:Int=>I r) (fun _=>())
theorem Se:Ok prog k39:=by
 refine c8 [.tmp 4] func39 ?_;intro y ⟨_,_,_⟩ r H Q hn hr;refine iA [0,1]<|iB [1] H fun H=>vQ<|iA [1,10]<|cD H (fun H=>iA [4]<|a8<|fR<|hr H) fun H=>vK<|fQ<|iA [4]<|a8<|hr H
def KC(b:List Bool)(a:Int):Option Int :=
 gd (b9 (a-(b.length:Int))/\True) <|
 if(decide (a-(b.length:Int)<0)) then
  some (-1)
 else
  some (a-(b.length:Int))
def k38:Ct:=c7 38 [.dat Ty.bool.sl,.dat i64] (fun x=>KC x.1 x.2.1) (fun r:Int=>I r) (fun _=>())
theorem Xy:Ok prog k38:=by
 refine c8 [.tmp 4] func38 ?_;intro y ⟨_,_,_⟩ r H Q hn hr;refine iA [0,1]<|iB [1] H fun H=>vQ<|iA [1,10]<|cD H (fun H=>iA [4]<|a8<|fR<|hr H) fun H=>vK<|fQ<|iA [4]<|a8<|hr H
def Ol(a:Dp)(d:Int):Option Int :=
 gd ((KC a.1 d).isSome/\True)<|lt (vl (KC a.1 d)) fun b =>
 if(decide (b<0)) then
  some (-1)
 else
  gd ((Gs a.2.1 b).isSome/\True)<|lt (vl (Gs a.2.1 b)) fun c =>
  if(decide (c<0)) then
   some (-1)
  else
   gd ((Gs a.2.2 c).isSome/\True)<|lt (vl (Gs a.2.2 c)) fun e =>
   if(decide (e<0)) then
    some (-1)
   else
    some e
def Sf:Ct:=c7 10 [.agg AY,.dat i64] (fun x=>Ol x.1 x.2.1) (fun r:Int=>I r) (fun _=>())
theorem o10:Ok prog Sf:=by
 refine c8 [.tmp 4] func10 ?_;intro y ⟨_,_,_⟩ r H Q hn hr;have:=hz (tc Se (tc Xy tn));refine iA [1,2]<|iD Xy [1,2] H fun _ H=>vQ<|iA [1,2,10]<|cD H (fun H=>iA [4]<|a8<|fR<|hr H) fun H=>vK<|fQ<|iD Se [1,2] H fun _ H=>vQ<|iA [1,2,16]<|cD H (fun H=>iA [4]<|a8<|fR<|hr H) fun H=>vK<|fQ<|iD Se [1] H fun _ H=>vQ<|iA [1,22]<|cD H (fun H=>iA [4]<|a8<|fR<|hr H) fun H=>vK<|fQ<|iA [4]<|a8<|hr H
def Ar(a:B0)(b:Int):Option Int :=
 if(b==0) then
  some a.1
 else
  some a.2
def k91:Ct:=c7 91 [.agg y73,.dat i64] (fun x=>Ar x.1 x.2.1) (fun r:Int=>I r) (fun _=>())
theorem Sg:Ok prog k91:=by
 refine c8 [.tmp 4] func91 ?_;intro y ⟨_,_,_⟩ r H Q hn hr;refine iA [1,2]<|vQ<|iA [2,6]<|cD H (fun H=>iA [4]<|a8<|fR<|hr H) fun H=>vK<|fQ<|iA [4]<|a8<|hr H
def U9(b:Int)(a:Int)(c:Int):Option Int :=
 gd (0<a/\True) <|
 gd (0<a/\True) <|
 if(decide (b.tmod a<0)&&c==0) then
  gd (b9 (b.tdiv a-1)/\True) <|
  some (b.tdiv a-1)
 else
  if(decide (0<b.tmod a)&&c==1) then
   gd (b9 (b.tdiv a+1)/\True) <|
   some (b.tdiv a+1)
  else
   some (b.tdiv a)
def R0C:Ct:=c7 191 [.dat i64,.dat i64,.dat i64] (fun x=>U9 x.1 x.2.1 x.2.2.1) (fun r:Int=>I r) (fun _=>())
theorem Fp:Ok prog R0C:=by
 refine c8 [.tmp 6] func191 ?_;intro y ⟨_,_,_,_⟩ r H Q hn hr;refine iA [0,1,2]<|iB [0,1,2,7] H fun H=>iB [2,7,8] H fun H=>vQ<|iA [2,7,8,20]<|cD H (fun H=>iB [6] H fun H=>a8<|fR<|hr H) fun H=>vK<|fQ<|vQ<|iA [7,28]<|cD H (fun H=>iB [6] H fun H=>a8<|fR<|hr H) fun H=>vK<|fQ<|iA [6]<|a8<|hr H
def Si:Int->Option Int
 | a =>
 some a
def KD(b:Int)(c:Int):Int->Option Int
 | a =>
 gd (((b==1)=true/\True->b9 (a*a))/\True) <|
 if(b==1&&decide (a*a<c)) then
  gd (b9 (a+1)/\True) <|
  Si (a+1)
 else
  Si a
def Om(d:Int)(e:Int)(c:Int×Int->Option Int):Int×Int->Option Int
 | (a,b) =>
 if(decide (a<b)) then
  gd (b9 (a+b)/\b9 (a+b+(1:Int))/\(0:Int) < (2:Int)/\True) <|
  gd (b9 ((a+b+1).tdiv 2*(a+b+1).tdiv 2)/\True) <|
  if(decide ((a+b+1).tdiv 2*(a+b+1).tdiv 2<=d)) then
   c (((a+b+1).tdiv 2,b))
  else
   gd (b9 ((a+b+1).tdiv 2-1)/\True) <|
   c ((a,(a+b+1).tdiv 2-1))
 else
  KD e d a
def CC(b:Int)(a:Int):Option Int :=
 lp (Om b a) (0,2000000000)
def Q0V:Ct:=c7 229 [.dat i64,.dat i64] (fun x=>CC x.1 x.2.1) (fun r:Int=>I r) (fun _=>())
theorem O0P:Ok prog Q0V:=by
 refine c8 [.tmp 4] func229 ?_;intro y ⟨a,b,_⟩ r H Q hn hr;refine iA [0,1]<|iA [0,1,5,6]<|jN r (fun(h:Int)=>Z [p 0 (J a),p 1 (J b),p 5 (I h)] []) (KD b a) (fun h H=>?_) (fun _ j n l=>?_)
 ·refine jN r (fun(d:Int)=>Z [p 5 (I d)] []) (Si) (fun d H=>?_) (fun _ c q o=>?_)
  ·refine iA [4]<|a8<|hr H
  refine iB [5,32] H fun H=>cD H (fun H=>jB [5] H fun H=>c H) fun H=>vK<|c H
 refine vB<|lX (fun((e,f):Int×Int)=>Z [p 0 (J a),p 1 (J b),p 5 (I e),p 6 (I f)] []) (0,2000000000) H fun _ k g i m ⟨e,f⟩ H=>vQ<|iA [0,1,5,6,10]<|cD H (fun H=>?_) (fun H=>?_)
 ·refine vK<|fQ<|vB<|iB [0,1,5,6,7] H fun H=>iB [0,1,5,6,7,20] H fun H=>cD H (fun H=>jA [0,1,5,6]<|fK<|g H) fun H=>jB [0,1,5,6] H fun H=>fK<|g H
 exact vE<|fE<|i<|fX rfl<|j H
def Gt(c:List l6)(b:p9)(a:D5):Option Int :=
 if(decide (a.1<0)) then
  some 0
 else
  gd (ix a.1 b.1.length/\ix (b.1.getD a.1.toNat (a7 y155)).2.1 c.length/\ix a.2.1 (c.getD (b.1.getD a.1.toNat (a7 y155)).2.1.toNat (a7 y153)).2.2.1.length/\True)<|lt ((c.getD (b.1.getD a.1.toNat (a7 y155)).2.1.toNat (a7 y153)).2.2.1.getD a.2.1.toNat (a7 y293)) fun d =>
  some d.2.2.1
def Q0E:Ct:=c7 256 [.agg y153.sl,.agg y53,.agg C1] (fun x=>Gt x.1 x.2.1 x.2.2.1) (fun r:Int=>I r) (fun _=>())
theorem O0H:Ok prog Q0E:=by
 refine c8 [.tmp 6] func256 ?_;intro y ⟨d,b,c,_⟩ r H Q hn hr;refine iA [3,4,5]<|vQ<|iA [3,4,5,9]<|cD H (fun H=>iA [6]<|a8<|fR<|hr H) fun H=>vK<|fQ<|qD (fun a=>Z [p 6 (J a.2.2.1)] [(5,K 226 C1 c),(4,K 53 y53 b),(3,bx 49 [L y153 d])]) H fun a H=>a8<|hr H
def Xz:List D5->Option (List D5)
 | a =>
 some a
def XA(b:p9)(e:Int×List D5->Option (List D5)):Int×List D5->Option (List D5)
 | (a,c) =>
 if(decide (a < (b.2.2.length:Int))) then
  gd (ix a b.2.2.length/\ix a b.2.2.length/\(c.length+[(-1,a,(b.2.2.getD a.toNat (a7 y231)).2.2,(b.2.2.getD a.toNat (a7 y231)).2.1==1)].length<=9223372036854775807/\(c.length+[(-1,a,(b.2.2.getD a.toNat (a7 y231)).2.2,(b.2.2.getD a.toNat (a7 y231)).2.1==1)].length)*32<=140737488355328)/\True)<|lt ((c++[(-1,a,(b.2.2.getD a.toNat (a7 y231)).2.2,(b.2.2.getD a.toNat (a7 y231)).2.1==1)],[(-1,a,(b.2.2.getD a.toNat (a7 y231)).2.2,(b.2.2.getD a.toNat (a7 y231)).2.1==1)])) fun(d,_) =>
  gd (b9 (a+1)/\True) <|
  e (a+1,d)
 else
  Xz c
def KE(b:p9):List D5->Option (List D5)
 | a =>
 lp (XA b) (0,a)
def Sj(b:Int)(c:Int×List D5->Option (List D5)):List D5->Option (List D5)
 | a =>
 gd (b9 (b+1)/\True) <|
 c (b+1,a)
def XB(d:Int)(b:F7)(f:Int×List D5->Option (List D5))(g:Int×List D5->Option (List D5)):Int×List D5->Option (List D5)
 | (a,c) =>
 if(decide (a < (b.2.2.length:Int))) then
  gd (ix a b.2.2.length/\b9 ((b.2.2.length:Int)-1)/\(c.length+[(d,a,b.2.2.getD a.toNat 0,a==(b.2.2.length:Int)-1)].length<=9223372036854775807/\(c.length+[(d,a,b.2.2.getD a.toNat 0,a==(b.2.2.length:Int)-1)].length)*32<=140737488355328)/\True)<|lt ((c++[(d,a,b.2.2.getD a.toNat 0,a==(b.2.2.length:Int)-1)],[(d,a,b.2.2.getD a.toNat 0,a==(b.2.2.length:Int)-1)])) fun(e,_) =>
  gd (b9 (a+1)/\True) <|
  g (a+1,e)
 else
  Sj d f c
def XC(a:p9)(e:Int×List D5->Option (List D5)):Int×List D5->Option (List D5)
 | (b,d) =>
 if(decide (b < (a.1.length:Int))) then
  gd (ix b a.1.length/\True)<|lt (a.1.getD b.toNat (a7 y155)) fun c =>
  lp (XB b c e) (0,d)
 else
  KE a d
def M0(a:p9):Option (List D5) :=
 lp (XC a) (0,[])
def S0I:Ct:=c7 118 [.agg y53] (fun x=>M0 x.1) (fun r:List D5=>AV.ow 226 true C1 r) (fun _=>())
theorem AZ:Ok prog S0I:=by
 refine c8 [.tmp 2] func118 ?_;intro y ⟨a,_⟩ r H Q hn hr;refine iA [1]<|iA [1,3]<|jN r (fun(d:List D5)=>Z [p 1 (R 1),p 3 (O 8)] [(8,A 226 C1 d 0),(1,K 53 y53 a)]) (KE a) (fun d H=>?_) (fun _ q T Y=>?_)
 ·refine jN r (fun(j:List D5)=>Z [p 3 (O 8)] [(8,A 226 C1 j 0)]) (Xz) (fun j H=>?_) (fun _ s e4 t4=>?_)
  ·refine iA [2]<|a8<|hr H
  refine iA [1,3,7]<|vB<|lX (fun((c,m):Int×List D5)=>Z [p 1 (R 1),p 3 (O 8),p 7 (I c)] [(8,A 226 C1 m 0),(1,K 53 y53 a)]) (0,d) H fun _ X t u G ⟨c,m⟩ H=>vQ<|iA [1,3,7,47]<|cD H (fun H=>?_) (fun H=>?_)
  ·refine vK<|fQ<|vQ<|vB<|zD (fun(k,l)=>Z [p 1 (R 1),p 3 (AV.os 8 1),p 7 (I c)] [(8,A 226 C1 k 1),(66,A 226 C1 l 0),(1,K 53 y53 a)]) H fun⟨k,l⟩ H =>
    fK<|fQ <|
    jB [1,3,7] H fun H =>
    t H
  exact vE<|fE<|u<|fX rfl<|s H
 refine iA [1,3,4]<|vB<|lX (fun((e,o):Int×List D5)=>Z [p 1 (R 1),p 3 (O 8),p 4 (I e)] [(8,A 226 C1 o 0),(1,K 53 y53 a)]) (0,[]) H fun _ w F z P ⟨e,o⟩ H=>vQ<|iA [1,3,4,13]<|cD H (fun H=>?_) (fun H=>?_)
 ·refine vK<|fQ<|jN r (fun(i:List D5)=>Z [p 1 (R 1),p 3 (O 8),p 4 (I e)] [(8,A 226 C1 i 0),(1,K 53 y53 a)]) (Sj e w) (fun i H=>?_) (fun _ x W t2=>?_)
  ·refine jB [1,3,4] H fun H=>F H
  refine vB<|qD (fun b=>Z [p 1 (R 1),p 3 (O 8),p 4 (I e),p 5 (L i64 b.2.2)] [(8,A 226 C1 o 0),(1,K 53 y53 a)]) H fun b H=>iA [1,3,4,5,6]<|vB<|lX (fun((f,h):Int×List D5)=>Z [p 1 (R 1),p 3 (O 8),p 4 (I e),p 5 (L i64 b.2.2),p 6 (I f)] [(8,A 226 C1 h 0),(1,K 53 y53 a)]) (0,o) H fun _ V v E t3 ⟨f,h⟩ H=>vQ<|iA [1,3,4,5,6,25]<|cD H (fun H=>?_) (fun H=>?_)
  ·refine vK<|fQ<|vQ<|vB<|zD (fun(n,g)=>Z [p 1 (R 1),p 3 (AV.os 8 1),p 4 (I e),p 5 (L i64 b.2.2),p 6 (I f)] [(8,A 226 C1 n 1),(41,A 226 C1 g 0),(1,K 53 y53 a)]) H fun⟨n,g⟩ H =>
    fK<|fQ <|
    jB [1,3,4,5,6] H fun H =>
    v H
  exact vE<|fE<|E<|fX rfl<|fK<|x H
 exact vE<|fE<|z<|fX rfl<|q H
def XD:List Int->Option (List Int)
 | a =>
 some a
def On(a:Int)(c:Int×List Int->Option (List Int)):List Int->Option (List Int)
 | b =>
 gd (b9 (a+1)/\True) <|
 c (a+1,b)
def XE(b:List D5)(d:Int)(e:Int×List Int->Option (List Int)):Int×List Int->Option (List Int)
 | (a,c) =>
 if(decide (a < (b.length:Int))) then
  gd (ix a b.length/\a.toNat<b.length/\(((b.getD a.toNat (a7 C1)).2.2.1==d)=true/\True->ix a b.length)/\(((b.getD a.toNat (a7 C1)).2.2.1==d)=true/\True->a.toNat<b.length)/\True) <|
  if((b.getD a.toNat (a7 C1)).2.2.1==d&&!(b.getD a.toNat (a7 C1)).2.2.2) then
   gd ((c.length+[a].length<=9223372036854775807/\(c.length+[a].length)*8<=140737488355328)/\True) <|
   On a e (c++[a])
  else
   On a e c
 else
  XD c
def Ba(a:p9)(c:Int):Option (List Int) :=
 gd ((M0 a).isSome/\True)<|lt (vl (M0 a)) fun b =>
 lp (XE b c) (0,[])
def k89:Ct:=c7 89 [.agg y53,.dat i64] (fun x=>Ba x.1 x.2.1) (fun r:List Int=>AV.ow 2 true i64 r) (fun _=>())
theorem Ih:Ok prog k89:=by
 refine c8 [.tmp 4] func89 ?_;intro y ⟨_,g,_⟩ r H Q hn hr;have:=hz (tc AZ tn);refine iA [1,2]<|iA [1,2,5]<|iD AZ [1,5,6] H fun e H=>jN r (fun(b:List Int)=>Z [p 5 (O 8)] [(8,A 2 i64 b 0)]) (XD) (fun b H=>?_) (fun _ j n l=>?_)
 ·refine iA [4]<|a8<|hr H
 refine iA [1,5,6,7]<|vB<|lX (fun((a,d):Int×List Int)=>Z [p 1 (J g),p 5 (O 8),p 6 (O 10),p 7 (I a)] [(10,A 226 C1 e 0),(8,A 2 i64 d 0)]) (0,[]) H fun _ h k i m ⟨a,d⟩ H=>vQ<|iA [1,5,6,7,14]<|cD H (fun H=>?_) (fun H=>?_)
 ·refine vK<|fQ<|jN r (fun(f:List Int)=>Z [p 1 (J g),p 5 (O 8),p 6 (O 10),p 7 (I a)] [(8,A 2 i64 f 0),(10,A 226 C1 e 0)]) (On a h) (fun f H=>?_) (fun _ c q o=>?_)
  ·refine jB [1,5,6,7] H fun H=>k H
  refine vB<|iB [1,5,6,7,31] H fun H=>cD H (fun H=>jB [1,5,6,7] H fun H=>fK<|c H) fun H=>vK<|fK<|c H
 exact vE<|fE<|i<|fX rfl<|j H
def Oo(a:List Int):Option (List Int) :=
 gd ((0+a.length<=9223372036854775807/\(0+a.length)*8<=140737488355328)/\True) <|
 some ([]++a)
def Q0F:Ct:=c7 255 [.dat i64.sl] (fun x=>Oo x.1) (fun r:List Int=>AV.ow 2 true i64 r) (fun _=>())
theorem XF:Ok prog Q0F:=by
 refine c8 [.tmp 2] func255 ?_;intro y ⟨_,_⟩ r H Q hn hr;refine iA [0]<|iB [2] H fun H=>a8<|hr H
def Sk:List Int->Option (List Int)
 | a =>
 some a
def Ii(c:C3)(e:Int×List Int->Option (List Int)):Int×List Int->Option (List Int)
 | (a,b) =>
 if(decide (0<a)) then
  gd (ix a c.1.length/\ix (c.1.getD a.toNat 0) b.length/\Int.toNat (c.1.getD a.toNat 0)<b.length/\ix a b.length/\a.toNat<b.length/\b9 (b.getD (Int.toNat (c.1.getD a.toNat 0)) 0+b.getD a.toNat 0)/\ix (c.1.getD a.toNat 0) b.length/\Int.toNat (c.1.getD a.toNat 0)<b.length/\True)<|lt (b.set (Int.toNat (c.1.getD a.toNat 0)) (b.getD (Int.toNat (c.1.getD a.toNat 0)) 0+b.getD a.toNat 0)) fun d =>
  gd (b9 (a-1)/\True) <|
  e (a-1,d)
 else
  Sk b
def Oq(b:C3):List Int->Option (List Int)
 | a =>
 gd (b9 ((a.length:Int)-1)/\True) <|
 lp (Ii b) (((a.length:Int)-1,a))
def XG(d:j1)(f:List D5)(b:List Int)(c:C3)(g:Int×List Int->Option (List Int)):Int×List Int->Option (List Int)
 | (a,e) =>
 if(decide (a < (b.length:Int))) then
  gd (ix a c.2.2.2.length/\ix (c.2.2.2.getD a.toNat 0) e.length/\Int.toNat (c.2.2.2.getD a.toNat 0)<e.length/\ix a b.length/\a.toNat<b.length/\ix (b.getD a.toNat 0) f.length/\Int.toNat (b.getD a.toNat 0)<f.length/\(Gt d.1 d.2.1 (f.getD (Int.toNat (b.getD a.toNat 0)) (a7 C1))).isSome/\b9 (e.getD (Int.toNat (c.2.2.2.getD a.toNat 0)) 0+vl (Gt d.1 d.2.1 (f.getD (Int.toNat (b.getD a.toNat 0)) (a7 C1))))/\ix (c.2.2.2.getD a.toNat 0) e.length/\Int.toNat (c.2.2.2.getD a.toNat 0)<e.length/\True)<|lt ((vl (Gt d.1 d.2.1 (f.getD (Int.toNat (b.getD a.toNat 0)) (a7 C1))),e.set (Int.toNat (c.2.2.2.getD a.toNat 0)) (e.getD (Int.toNat (c.2.2.2.getD a.toNat 0)) 0+vl (Gt d.1 d.2.1 (f.getD (Int.toNat (b.getD a.toNat 0)) (a7 C1)))))) fun(_,h) =>
  gd (b9 (a+1)/\True) <|
  g (a+1,h)
 else
  Oq c e
def As(a:j1)(b:Int):Option (List Int) :=
 gd (ix b a.2.2.length/\True)<|lt (a.2.2.getD b.toNat (a7 y172)) fun c =>
 gd ((Oo c.2.2.1).isSome/\True)<|lt (vl (Oo c.2.2.1)) fun e =>
 gd ((M0 a.2.1).isSome/\True)<|lt (vl (M0 a.2.1)) fun f =>
 gd ((Ba a.2.1 b).isSome/\True)<|lt (vl (Ba a.2.1 b)) fun d =>
 lp (XG a f d c) (0,e)
def Q0Y:Ct:=c7 226 [.agg j6,.dat i64] (fun x=>As x.1 x.2.1) (fun r:List Int=>AV.ow 2 true i64 r) (fun _=>())
theorem Sm:Ok prog Q0Y:=by
 refine c8 [.tmp 4] func226 ?_;intro y ⟨g,v,_⟩ r H Q hn hr;have:=hz (tc O0H (tc Ih (tc AZ (tc XF tn))));refine iA [1,2]<|qD (fun b=>Z [p 1 (J v),p 2 (R 2),p 5 (R 5)] [(5,K 172 y172 b),(2,K 56 j6 g)]) H fun b H=>iD XF [1,2,5,6] H fun n H=>iD AZ [1,2,5,6,7] H fun l H=>iD Ih [2,5,6,7,8] H fun k H=>jN r (fun(a:List Int)=>Z [p 5 (R 5),p 6 (O 18)] [(18,A 2 i64 a 0),(5,K 172 y172 b)]) (Oq b) (fun a H=>?_) (fun _ m z G=>?_)
 ·refine jN r (fun(e:List Int)=>Z [p 6 (O 18)] [(18,A 2 i64 e 0)]) (Sk) (fun e H=>?_) (fun _ q F P=>?_)
  ·refine iA [4]<|a8<|hr H
  refine iB [5,6,10] H fun H=>vB<|lX (fun((c,f):Int×List Int)=>Z [p 5 (R 5),p 6 (O 18),p 10 (I c)] [(18,A 2 i64 f 0),(5,K 172 y172 b)]) (((a.length:Int)-1,a)) H fun _ E o t V ⟨c,f⟩ H=>vQ<|iA [5,6,10,58]<|cD H (fun H=>vK<|fQ<|vQ<|vB<|zD (fun d=>Z [p 5 (R 5),p 6 (O 18),p 10 (I c)] [(18,A 2 i64 d 0),(5,K 172 y172 b)]) H fun d H=>fK<|fQ<|jB [5,6,10] H fun H=>o H) fun H=>vE<|fE<|t<|fX rfl<|q H
 refine iA [2,5,6,7,8,9]<|vB<|lX (fun((h,i):Int×List Int)=>Z [p 2 (R 2),p 5 (R 5),p 6 (O 18),p 7 (O 21),p 8 (O 25),p 9 (I h)] [(25,A 2 i64 k 0),(21,A 226 C1 l 0),(18,A 2 i64 i 0),(5,K 172 y172 b),(2,K 56 j6 g)]) (0,n) H fun _ T w s x ⟨h,i⟩ H=>vQ<|iA [2,5,6,7,8,9,29]<|cD H (fun H=>?_) (fun H=>?_)
 ·refine vK<|fQ<|vQ<|vB<|zD (fun(u,j)=>Z [p 2 (R 2),p 5 (R 5),p 6 (O 18),p 7 (O 21),p 8 (O 25),p 9 (I h)] [(18,A 2 i64 j 0),(25,A 2 i64 k 0),(21,A 226 C1 l 0),(5,K 172 y172 b),(2,K 56 j6 g)]) H fun⟨u,j⟩ H =>
   fK<|fQ <|
   jB [2,5,6,7,8,9] H fun H =>
   w H
 exact vE<|fE<|s<|fX rfl<|m H
def XH:List Int->Option (List Int)
 | a =>
 some a
def Sn(b:C3)(d:List Int)(e:Int×List Int->Option (List Int)):Int×List Int->Option (List Int)
 | (a,c) =>
 if(decide (a < (d.length:Int))) then
  gd (ix a b.1.length/\ix (b.1.getD a.toNat 0) c.length/\Int.toNat (b.1.getD a.toNat 0)<c.length/\ix a b.2.1.length/\ix a d.length/\a.toNat<d.length/\b9 (b.2.1.getD a.toNat 0*d.getD a.toNat 0)/\b9 (c.getD (Int.toNat (b.1.getD a.toNat 0)) 0+b.2.1.getD a.toNat 0*d.getD a.toNat 0)/\(c.length+[c.getD (Int.toNat (b.1.getD a.toNat 0)) 0+b.2.1.getD a.toNat 0*d.getD a.toNat 0].length<=9223372036854775807/\(c.length+[c.getD (Int.toNat (b.1.getD a.toNat 0)) 0+b.2.1.getD a.toNat 0*d.getD a.toNat 0].length)*8<=140737488355328)/\True)<|lt ((c++[c.getD (Int.toNat (b.1.getD a.toNat 0)) 0+b.2.1.getD a.toNat 0*d.getD a.toNat 0],[c.getD (Int.toNat (b.1.getD a.toNat 0)) 0+b.2.1.getD a.toNat 0*d.getD a.toNat 0])) fun(f,_) =>
  gd (b9 (a+1)/\True) <|
  e (a+1,f)
 else
  XH c
def CD(b:j1)(a:Int):Option (List Int) :=
 gd (ix a b.2.2.length/\True)<|lt (b.2.2.getD a.toNat (a7 y172)) fun c =>
 gd ((As b a).isSome/\True)<|lt (vl (As b a)) fun d =>
 lp (Sn c d) (1,[0])
def Q0W:Ct:=c7 228 [.agg j6,.dat i64] (fun x=>CD x.1 x.2.1) (fun r:List Int=>AV.ow 2 true i64 r) (fun _=>())
theorem So:Ok prog Q0W:=by
 refine c8 [.tmp 4] func228 ?_;intro y ⟨j,k,_⟩ r H Q hn hr;have:=hz (tc Sm tn);refine iA [1,2]<|qD (fun a=>Z [p 1 (J k),p 2 (R 2),p 5 (R 5)] [(5,K 172 y172 a),(2,K 56 j6 j)]) H fun a H=>iD Sm [5,6] H fun f H=>iA [5,6,7]<|jN r (fun(e:List Int)=>Z [p 7 (O 17)] [(17,A 2 i64 e 0)]) (XH) (fun e H=>?_) (fun _ i q n=>?_)
 ·refine iA [4]<|a8<|hr H
 refine iA [5,6,7,8]<|vB<|lX (fun((b,c):Int×List Int)=>Z [p 5 (R 5),p 6 (O 16),p 7 (O 17),p 8 (I b)] [(17,A 2 i64 c 0),(16,A 2 i64 f 0),(5,K 172 y172 a)]) (1,[0]) H fun _ m l h o ⟨b,c⟩ H=>vQ<|iA [5,6,7,8,21]<|cD H (fun H=>?_) (fun H=>?_)
 ·refine vK<|fQ<|vQ<|vB<|zD (fun(d,g)=>Z [p 5 (R 5),p 6 (O 16),p 7 (AV.os 17 1),p 8 (I b)] [(17,A 2 i64 d 1),(44,A 2 i64 g 0),(16,A 2 i64 f 0),(5,K 172 y172 a)]) H fun⟨d,g⟩ H =>
   fK<|fQ <|
   jB [5,6,7,8] H fun H =>
   l H
 exact vE<|fE<|h<|fX rfl<|i H
def KF(c:j1)(d:Int)(f:Int)(b:Int)(e:Int):Option Int :=
 gd ((CD c d).isSome/\ix d c.2.2.length/\ix f (c.2.2.getD d.toNat (a7 y172)).2.2.2.length/\ix ((c.2.2.getD d.toNat (a7 y172)).2.2.2.getD f.toNat 0) (vl (CD c d)).length/\Int.toNat ((c.2.2.getD d.toNat (a7 y172)).2.2.2.getD f.toNat 0) < (vl (CD c d)).length/\True)<|lt ((vl (CD c d),(vl (CD c d)).getD (Int.toNat ((c.2.2.getD d.toNat (a7 y172)).2.2.2.getD f.toNat 0)) 0)) fun(_,a) =>
 gd (b9 (1000000*b)/\b9 (1000000*b*b)/\b9 (4*a)/\b9 (4*a*a)/\b9 (1000000*b*b+4*a*a)/\(CC (1000000*b*b+4*a*a) e).isSome/\(U9 (vl (CC (1000000*b*b+4*a*a) e)) 1000 e).isSome/\True)<|lt (vl (U9 (vl (CC (1000000*b*b+4*a*a) e)) 1000 e)) fun g =>
 some g
def R0A:Ct:=c7 193 [.agg j6,.dat i64,.dat i64,.dat i64,.dat i64] (fun x=>KF x.1 x.2.1 x.2.2.1 x.2.2.2.1 x.2.2.2.2.1) (fun r:Int=>I r) (fun _=>())
theorem XI:Ok prog R0A:=by
 refine c8 [.tmp 10] func193 ?_;intro y ⟨d,_,_,e,c,_⟩ r H Q hn hr;have:=hz (tc Fp (tc O0P (tc So tn)));refine iA [1,2,3,4,5]<|qD (fun(a,b)=>Z [p 3 (J e),p 4 (J c),p 11 (I b)] [(14,A 2 i64 a 0),(5,K 56 j6 d)]) H fun⟨a,b⟩ H =>
  iD Fp [10] H fun _ H =>
  a8<|hr H
def BP(a:j1)(b:j5):Option Int :=
 gd ((M0 a.2.1).isSome/\(0:Int) < (2:Int)/\ix (b.2.1.tdiv (2:Int)) (vl (M0 a.2.1)).length/\(b.2.1.tdiv (2:Int)).toNat < (vl (M0 a.2.1)).length/\True)<|lt ((vl (M0 a.2.1),(vl (M0 a.2.1)).getD (b.2.1.tdiv 2).toNat (a7 C1))) fun(_,c) =>
 some c.2.2.1
def R0D:Ct:=c7 190 [.agg j6,.agg y138] (fun x=>BP x.1 x.2.1) (fun r:Int=>I r) (fun _=>())
theorem XJ:Ok prog R0D:=by
 refine c8 [.tmp 4] func190 ?_;intro y ⟨d,c,_⟩ r H Q hn hr;have:=hz (tc AZ tn);refine iA [2,3]<|qD (fun(a,b)=>Z [p 4 (I b.2.2.1)] [(7,A 226 C1 a 0),(3,K 138 y138 c),(2,K 56 j6 d)]) H fun⟨a,b⟩ H =>
  a8<|hr H
def XK:Unit->Option (Int×Int×Int)
 | _ =>
 some (((0:Int),(1:Int),(0:Int)))
def Dq(b:List Int)(c:Int)(d:Int->Option (Int×Int×Int)):Int->Option (Int×Int×Int)
 | a =>
 if(decide (0<=a)) then
  gd (ix a b.length/\True) <|
  if(c==b.getD a.toNat 0) then
   some ((a,(1:Int),(0:Int)))
  else
   gd (ix a b.length/\True) <|
   if(decide (b.getD a.toNat 0<c)) then
    gd (b9 (a+1)/\ix (a+1) b.length/\b9 (b.getD (a+1).toNat 0-c)/\ix a b.length/\b9 (c-b.getD a.toNat 0)/\True) <|
    some ((a,b.getD (a+1).toNat 0-c,c-b.getD a.toNat 0))
   else
    gd (b9 (a-1)/\True) <|
    d (a-1)
 else
  XK ()
def Dr(a:List Int)(c:Int):Option (Int×Int×Int) :=
 gd (ix 0 a.length/\True) <|
 gd (b9 ((a.length:Int)-1)/\ix ((a.length:Int)-1) a.length/\True)<|lt (min (max c (a.getD (Int.toNat (0:Int)) (0:Int))) (a.getD ((a.length:Int)-(1:Int)).toNat (0:Int))) fun b =>
 gd (b9 ((a.length:Int)-1)/\True) <|
 lp (Dq a b) ((a.length:Int)-1)
def Q0X:Ct:=c7 227 [.dat i64.sl,.dat i64] (fun x=>Dr x.1 x.2.1) (fun r:Int×Int×Int=>AV.tup [I r.1,I r.2.1,I r.2.2]) (fun _=>())
theorem Sq:Ok prog Q0X:=by
 refine c8 [.tmp 4,.tmp 5,.tmp 6] func227 ?_;intro y ⟨a,_,_⟩ r H Q hn hr;refine iA [0,1]<|iA [0,1,7]<|iB [0,1,7] H fun H=>qD (fun b=>Z [p 0 (L i64 a),p 1 (I b),p 7 (I (a.length:Int))] []) H fun b H=>jN r (fun(_:Unit)=>Z [] []) (XK) (fun _ H=>?_) (fun _ g j c=>?_)
 ·refine iA [4,5,6]<|a8<|hr H
 refine iB [0,1,8] H fun H=>vB<|lX (fun(d:Int)=>Z [p 0 (L i64 a),p 1 (I b),p 8 (I d)] []) ((a.length:Int)-1) H fun _ i h f e d H=>vQ<|iA [0,1,8,26]<|cD H (fun H=>?_) (fun H=>?_)
 ·refine vK<|fQ<|vQ<|vB<|vQ<|iB [0,1,8,34] H fun H=>cD H (fun H=>iA [4,5,6]<|a8<|fR<|j0<|fR<|e<|j0<|c<|hr H) fun H=>vK<|fQ<|iB [0,1,8,41] H fun H=>cD H (fun H=>iB [4,5,6] H fun H=>a8<|j0<|fR<|e<|j0<|c<|hr H) fun H=>vK<|fK<|fQ<|jB [0,1,8] H fun H=>h H
 exact vE<|fE<|f<|fX rfl<|g H
def Ot(a:Int×Int×Int)(b:Int×Int×Int)(e:Int):Int->Option Int
 | c =>
 gd (b9 (a.2.1+a.2.2)/\b9 (b.2.1+b.2.2)/\b9 ((a.2.1+a.2.2)*(b.2.1+b.2.2))/\(U9 c ((a.2.1+a.2.2)*(b.2.1+b.2.2)) e).isSome/\True)<|lt (vl (U9 c ((a.2.1+a.2.2)*(b.2.1+b.2.2)) e)) fun d =>
 some d
def Sr(a:Int)(c:Int×Int->Option Int):Int->Option Int
 | b =>
 gd (b9 (a+1)/\True) <|
 c (b,a+1)
def Ij(a:Int)(c:Int×Int->Option Int):Int->Option Int
 | b =>
 gd (b9 (a+1)/\True) <|
 c (b,a+1)
def Ds(b:Int)(f:Int)(c:o5)(e:Int×Int×Int)(a:Int)(g:Int×Int×Int)(i:Int×Int->Option Int):Int->Option Int
 | d =>
 if(decide (0<d)) then
  gd (b9 (e.1+a)/\b9 ((e.1+a)*(c.2.1.length:Int))/\b9 ((e.1+a)*(c.2.1.length:Int)+g.1)/\b9 ((e.1+a)*(c.2.1.length:Int)+g.1+b)/\ix ((e.1+a)*(c.2.1.length:Int)+g.1+b) c.2.2.length/\b9 (d*c.2.2.getD ((e.1+a)*(c.2.1.length:Int)+g.1+b).toNat 0)/\b9 (f+d*c.2.2.getD ((e.1+a)*(c.2.1.length:Int)+g.1+b).toNat 0)/\True)<|lt (f+d*c.2.2.getD ((e.1+a)*(c.2.1.length:Int)+g.1+b).toNat 0) fun h =>
  Ij b i h
 else
  Ij b i f
def KG(b:Int)(d:Int)(f:o5)(g:Int×Int×Int)(e:Int)(c:Int×Int×Int)(h:Int×Int->Option Int):Int->Option Int
 | a =>
 if(b==0) then
  gd (b9 (a*c.2.1)/\True) <|
  Ds b d f g e c h (a*c.2.1)
 else
  gd (b9 (a*c.2.2)/\True) <|
  Ds b d f g e c h (a*c.2.2)
def Gu(e:o5)(d:Int×Int×Int)(a:Int)(f:Int×Int×Int)(h:Int×Int->Option Int)(g:Int×Int->Option Int):Int×Int->Option Int
 | (b,c) =>
 if(decide (c<2)) then
  if(a==1) then
   KG c b e d a f g d.2.2
  else
   KG c b e d a f g d.2.1
 else
  Sr a h b
def Ik(f:o5)(c:Int×Int×Int)(d:Int×Int×Int)(g:Int)(e:Int×Int->Option Int):Int×Int->Option Int
 | (b,a) =>
 if(decide (a<2)) then
  lp (Gu f c a d e) (b,0)
 else
  Ot c d g b
def BQ(a:o5)(b:Int)(c:Int)(f:Int):Option Int :=
 gd ((Dr a.1 b).isSome/\True)<|lt (vl (Dr a.1 b)) fun d =>
 gd ((Dr a.2.1 c).isSome/\True)<|lt (vl (Dr a.2.1 c)) fun e =>
 lp (Ik a d e f) (0,0)
def R0F:Ct:=c7 188 [.agg y269,.dat i64,.dat i64,.dat i64] (fun x=>BQ x.1 x.2.1 x.2.2.1 x.2.2.2.1) (fun r:Int=>I r) (fun _=>())
theorem Ou:Ok prog R0F:=by
 refine c8 [.tmp 8] func188 ?_;intro y ⟨e,_,_,g,_⟩ r H Q hn hr;have:=hz (tc Fp (tc Sq tn));refine iA [1,2,3,4]<|iD Sq [2,3,4,9,10,11] H fun b H=>iD Sq [3,4,9,10,11,12,13,14] H fun a H=>iA [3,4,9,10,11,12,13,14,15]<|iA [3,4,9,10,11,12,13,14,15,16]<|jN r (fun(n:Int)=>Z [p 3 (J g),p 10 (I b.2.1),p 11 (I b.2.2),p 13 (I a.2.1),p 14 (I a.2.2),p 16 (I n)] []) (Ot b a g) (fun n H=>?_) (fun _ u V X=>?_)
 ·refine iD Fp [8] H fun _ H=>a8<|hr H
 refine iA [3,4,9,10,11,12,13,14,15,16,17]<|vB<|lX (fun((h,c):Int×Int)=>Z (G1 g b.1 b.2.1 b.2.2 a.1 a.2.1 a.2.2 (e.2.1.length:Int) h [p 17 (I c)]) [(4,K 269 y269 e)]) (0,0) H fun _ w F z P ⟨h,c⟩ H=>vQ<|iA [3,4,9,10,11,12,13,14,15,16,17,40]<|cD H (fun H=>?_) (fun H=>?_)
 ·refine vK<|fQ<|jN r (fun(j:Int)=>Z (G1 g b.1 b.2.1 b.2.2 a.1 a.2.1 a.2.2 (e.2.1.length:Int) j [p 17 (I c)]) [(4,K 269 y269 e)]) (Sr c w) (fun j H=>?_) (fun _ x W t2=>?_)
  ·refine jB [3,4,9,10,11,12,13,14,15,16,17] H fun H=>F H
  refine vB<|iA [3,4,9,10,11,12,13,14,15,16,17,18]<|vB<|lX (fun((f,d):Int×Int)=>Z (G1 g b.1 b.2.1 b.2.2 a.1 a.2.1 a.2.2 (e.2.1.length:Int) f [p 17 (I c),p 18 (I d)]) [(4,K 269 y269 e)]) (h,0) H fun _ o v E t3 ⟨f,d⟩ H=>vQ<|iA [3,4,9,10,11,12,13,14,15,16,17,18,44]<|cD H (fun H=>?_) (fun H=>?_)
  ·refine vK<|fQ<|jN r (fun(l:Int)=>Z (G1 g b.1 b.2.1 b.2.2 a.1 a.2.1 a.2.2 (e.2.1.length:Int) l [p 17 (I c),p 18 (I d)]) [(4,K 269 y269 e)]) (Ij d o) (fun l H=>?_) (fun _ q e4 t4=>?_)
   ·refine jB [3,4,9,10,11,12,13,14,15,16,17,18] H fun H=>v H
   refine vB<|iA [3,4,9,10,11,12,13,14,15,16,17,18,19]<|jN r (fun(i:Int)=>Z (G1 g b.1 b.2.1 b.2.2 a.1 a.2.1 a.2.2 (e.2.1.length:Int) f [p 17 (I c),p 18 (I d),p 19 (I i)]) [(4,K 269 y269 e)]) (KG d f e b c a o) (fun i H=>?_) (fun _ s Y G=>?_)
   ·refine jN r (fun(m:Int)=>Z (G1 g b.1 b.2.1 b.2.2 a.1 a.2.1 a.2.2 (e.2.1.length:Int) f [p 17 (I c),p 18 (I d),p 19 (I m)]) [(4,K 269 y269 e)]) (Ds d f e b c a o) (fun m H=>?_) (fun _ t e6 T=>?_)
    ·refine iA [3,4,9,10,11,12,13,14,15,16,17,18,19,60]<|cD H (fun H=>zD (fun k=>Z (G1 g b.1 b.2.1 b.2.2 a.1 a.2.1 a.2.2 (e.2.1.length:Int) k [p 17 (I c),p 18 (I d)]) [(4,K 269 y269 e)]) H fun k H=>fK<|q H) fun H=>vK<|fK<|q H
    refine iA [3,4,9,10,11,12,13,14,15,16,17,18,19,52]<|cD H (fun H=>jB [3,4,9,10,11,12,13,14,15,16,17,18,19] H fun H=>t H) fun H=>jB [3,4,9,10,11,12,13,14,15,16,17,18,19] H fun H=>t H
   refine iA [3,4,9,10,11,12,13,14,15,16,17,18,19,49]<|cD H (fun H=>jA [3,4,9,10,11,12,13,14,15,16,17,18,19]<|s H) fun H=>vK<|s H
  exact vE<|fE<|E<|fX rfl<|fK<|x H
 exact vE<|fE<|z<|fX rfl<|u H
def Gv(a:j1)(c:j5):Option (A6×Int) :=
 gd ((M0 a.2.1).isSome/\(0:Int) < (2:Int)/\ix (c.2.1.tdiv (2:Int)) (vl (M0 a.2.1)).length/\(c.2.1.tdiv (2:Int)).toNat < (vl (M0 a.2.1)).length/\True)<|lt ((vl (M0 a.2.1),(vl (M0 a.2.1)).getD (c.2.1.tdiv 2).toNat (a7 C1))) fun(_,b) =>
 gd (ix b.1 a.2.1.1.length/\ix (a.2.1.1.getD b.1.toNat (a7 y155)).2.1 a.1.length/\ix c.2.2.2 (a.1.getD (a.2.1.1.getD b.1.toNat (a7 y155)).2.1.toNat (a7 y153)).2.2.2.1.length/\(As a b.2.2.1).isSome/\ix (0:Int) (vl (As a b.2.2.1)).length/\Int.toNat (0:Int) < (vl (As a b.2.2.1)).length/\True)<|lt ((vl (As a b.2.2.1),(a.1.getD (a.2.1.1.getD b.1.toNat (a7 y155)).2.1.toNat (a7 y153)).2.2.2.1.getD c.2.2.2.toNat (a7 y158))) fun(e,d) =>
 some ((d,e.getD (Int.toNat (0:Int)) (0:Int)))
def R0G:Ct:=c7 187 [.agg j6,.agg y138] (fun x=>Gv x.1 x.2.1) (fun r:A6×Int=>AV.tup [AV.agg [I r.1.1,I r.1.2.1,I r.1.2.2.1,I r.1.2.2.2.1,L y269 r.1.2.2.2.2.1,L y269 r.1.2.2.2.2.2],I r.2]) (fun _=>())
theorem Ov:Ok prog R0G:=by
 refine c8 [.cell 4 158,.tmp 5] func187 ?_;intro y ⟨d,f,_⟩ r H Q hn hr;have:=hz (tc Sm (tc AZ tn));refine iA [2,3,4]<|qD (fun(a,b)=>Z (AW [p 4 (R 4),p 6 (R 6)]) [(6,bx 226 (F2 true C1 b)),(9,A 226 C1 a 0),(4,bx 158 [I 0,I 0,I 0,I 0,nil,nil]),(3,K 138 y138 f),(2,K 56 j6 d)]) H fun⟨a,b⟩ H =>
  qD (fun(c,e)=>Z [p 4 (R 4),p 5 (I (c.getD (Int.toNat (0:Int)) (0:Int)))] [(4,K 158 y158 e),(36,A 2 i64 c 0),(6,bx 226 (F2 true C1 b)),(9,A 226 C1 a 0),(3,K 138 y138 f),(2,K 56 j6 d)]) H fun⟨c,e⟩ H =>
  a8<|hr H
def Bb(b:j1)(a:j5)(d:Int)(e:Int):Option Int :=
 if(a.2.2.1==1) then
  gd ((Gv b a).isSome/\True)<|lt (vl (Gv b a)) fun c =>
  gd ((0:Int) < (2:Int)/\ix (a.2.1.tmod (2:Int)) c.1.2.2.2.2.2.length/\(BQ (c.1.2.2.2.2.2.getD (a.2.1.tmod (2:Int)).toNat (a7 y269)) d c.2 e).isSome/\True)<|lt (vl (BQ (c.1.2.2.2.2.2.getD (a.2.1.tmod 2).toNat (a7 y269)) d c.2 e)) fun f =>
  some f
 else
  gd ((BP b a).isSome/\(KF b (vl (BP b a)) a.2.2.2 d e).isSome/\True)<|lt (vl (KF b (vl (BP b a)) a.2.2.2 d e)) fun g =>
  some (min 1000000 g)
def S0s:Ct:=c7 143 [.agg j6,.agg y138,.dat i64,.dat i64] (fun x=>Bb x.1 x.2.1 x.2.2.1 x.2.2.2.1) (fun r:Int=>I r) (fun _=>())
theorem Ss:Ok prog S0s:=by
 refine c8 [.tmp 8] func143 ?_;intro y ⟨_,_,_,_,_⟩ r H Q hn hr;have:=hz (tc XI (tc XJ (tc Ou (tc Ov tn))));refine iA [2,3,4,5]<|vQ<|iA [2,3,4,5,13]<|cD H (fun H=>iD Ov [2,3,5,9,10] H fun _ H=>iD Ou [8] H fun _ H=>a8<|fR<|hr H) fun H=>vK<|fQ<|iD XI [8] H fun _ H=>a8<|hr H
def Gw(a:r5)(c:Int)(b:Int):Option Int :=
 if(c==1) then
  if(b==0) then
   some a.2.1
  else
   some a.2.2.1
 else
  if(b==0) then
   some a.2.2.2.1
  else
   some a.2.2.2.2
def R0B:Ct:=c7 192 [.agg A0,.dat i64,.dat i64] (fun x=>Gw x.1 x.2.1 x.2.2.1) (fun r:Int=>I r) (fun _=>())
theorem P0c:Ok prog R0B:=by
 refine c8 [.tmp 6] func192 ?_;intro y ⟨_,_,_,_⟩ r H Q hn hr;refine iA [1,2,3]<|vQ<|iA [2,3,8]<|cD H (fun H=>?_) (fun H=>?_)
 ·refine vQ<|iA [3,10]<|cD H (fun H=>iA [6]<|a8<|fR<|fR<|hr H) fun H=>vK<|fQ<|iA [6]<|a8<|fR<|hr H
 refine vK<|fQ<|vQ<|iA [3,16]<|cD H (fun H=>iA [6]<|a8<|fR<|hr H) fun H=>vK<|fQ<|iA [6]<|a8<|hr H
def XL:List Int->Option (List Int)
 | a =>
 some a
def XM(d:List Int)(a:j1)(b:Int)(f:Int)(g:Int×List Int->Option (List Int)):Int×List Int->Option (List Int)
 | (c,e) =>
 gd (ix b a.2.2.length/\True) <|
 if(decide (c < (↑(a.2.2.getD b.toNat (a7 y172)).2.2.2.length:Int))) then
  gd (ix b a.2.2.length/\ix c (a.2.2.getD b.toNat (a7 y172)).2.2.2.length/\ix ((a.2.2.getD b.toNat (a7 y172)).2.2.2.getD c.toNat 0) d.length/\Int.toNat ((a.2.2.getD b.toNat (a7 y172)).2.2.2.getD c.toNat 0)<d.length/\(U9 (d.getD (Int.toNat ((a.2.2.getD b.toNat (a7 y172)).2.2.2.getD c.toNat 0)) 0) 1000 f).isSome/\(e.length+[vl (U9 (d.getD (Int.toNat ((a.2.2.getD b.toNat (a7 y172)).2.2.2.getD c.toNat 0)) 0) 1000 f)].length<=9223372036854775807/\(e.length+[vl (U9 (d.getD (Int.toNat ((a.2.2.getD b.toNat (a7 y172)).2.2.2.getD c.toNat 0)) 0) 1000 f)].length)*8<=140737488355328)/\True)<|lt (vl (U9 (d.getD (Int.toNat ((a.2.2.getD b.toNat (a7 y172)).2.2.2.getD c.toNat 0)) 0) 1000 f)) fun h =>
  gd (b9 (c+1)/\True) <|
  g (c+1,e++[h])
 else
  XL e
def Gx(b:j1)(a:Int)(d:Int):Option (List Int) :=
 gd ((CD b a).isSome/\True)<|lt (vl (CD b a)) fun c =>
 lp (XM c b a d) (0,[])
def R0E:Ct:=c7 189 [.agg j6,.dat i64,.dat i64] (fun x=>Gx x.1 x.2.1 x.2.2.1) (fun r:List Int=>AV.ow 2 true i64 r) (fun _=>())
theorem XN:Ok prog R0E:=by
 refine c8 [.tmp 6] func189 ?_;intro y ⟨f,h,j,_⟩ r H Q hn hr;have:=hz (tc Fp (tc So tn));refine iA [1,2,3]<|iD So [1,2,3,7] H fun g H=>iA [1,2,3,7,8]<|jN r (fun(a:List Int)=>Z [p 8 (O 13)] [(13,A 2 i64 a 0)]) (XL) (fun a H=>?_) (fun _ e n l=>?_)
 ·refine iA [6]<|a8<|hr H
 refine iA [1,2,3,7,8,9]<|vB<|lX (fun((c,b):Int×List Int)=>Z [p 1 (J h),p 2 (J j),p 3 (R 3),p 7 (O 12),p 8 (O 13),p 9 (I c)] [(13,A 2 i64 b 0),(12,A 2 i64 g 0),(3,K 56 j6 f)]) (0,[]) H fun _ k i d m ⟨c,b⟩ H=>vQ<|iB [1,2,3,7,8,9,22] H fun H=>cD H (fun H=>vK<|fQ<|vQ<|vB<|jD Fp [1,2,3,7,8,9] H fun _ H=>fK<|fQ<|jB [1,2,3,7,8,9] H fun H=>i H) fun H=>vE<|fE<|d<|fX rfl<|e H
def Il(b:r5)(c:j5)(a:Int):Int->Option Int
 | d =>
 gd ((Gw b c.2.2.1 a).isSome/\b9 (d*vl (Gw b c.2.2.1 a))/\(U9 (d*vl (Gw b c.2.2.1 a)) 1000 a).isSome/\True)<|lt (vl (U9 (d*vl (Gw b c.2.2.1 a)) 1000 a)) fun e =>
 some e
def Bc(b:j1)(e:r5)(a:j5)(f:Int)(c:Int):Option Int :=
 if(a.2.2.1==1) then
  gd ((Gv b a).isSome/\True)<|lt (vl (Gv b a)) fun d =>
  gd ((0:Int) < (2:Int)/\ix (a.2.1.tmod (2:Int)) d.1.2.2.2.2.1.length/\(BQ (d.1.2.2.2.2.1.getD (a.2.1.tmod (2:Int)).toNat (a7 y269)) f d.2 c).isSome/\True)<|lt (vl (BQ (d.1.2.2.2.2.1.getD (a.2.1.tmod 2).toNat (a7 y269)) f d.2 c)) fun g =>
  Il e a c g
 else
  gd ((BP b a).isSome/\(Gx b (vl (BP b a)) c).isSome/\ix a.2.2.2 (vl (Gx b (vl (BP b a)) c)).length/\a.2.2.2.toNat < (vl (Gx b (vl (BP b a)) c)).length/\True)<|lt (vl (Gx b (vl (BP b a)) c)) fun h =>
  Il e a c (h.getD a.2.2.2.toNat 0)
def S0t:Ct:=c7 142 [.agg j6,.agg A0,.agg y138,.dat i64,.dat i64] (fun x=>Bc x.1 x.2.1 x.2.2.1 x.2.2.2.1 x.2.2.2.2.1) (fun r:Int=>I r) (fun _=>())
theorem Su:Ok prog S0t:=by
 refine c8 [.tmp 10] func142 ?_;intro y ⟨_,d,e,_,a,_⟩ r H Q hn hr;have:=hz (tc Fp (tc P0c (tc XN (tc XJ (tc Ou (tc Ov tn))))));refine iA [3,4,5,6,7]<|iA [3,4,5,6,7]<|jN r (fun(c:Int)=>Z [p 4 (J a),p 6 (R 6),p 7 (R 7),p 11 (I c)] [(7,K 138 y138 e),(6,K 58 A0 d)]) (Il d e a) (fun c H=>?_) (fun _ b g f=>?_)
 ·refine iD Fp [10] H fun _ H=>a8<|hr H
 refine iA [3,4,5,6,7,16]<|cD H (fun H=>iD Ov [3,4,6,7,12,13] H fun _ H=>jD Ou [4,6,7,11] H fun _ H=>b H) fun H=>jD XN [4,6,7,11] H fun _ H=>b H
def Im(a:j1)(d:r5)(b:j5)(c:B0):Option (B0×B0) :=
 gd ((Bc a d b c.1 0).isSome/\(Bc a d b c.1 1).isSome/\True)<|lt ((vl (Bc a d b c.1 0),vl (Bc a d b c.1 1))) fun(h,j) =>
 gd ((Bb a b c.1 0).isSome/\(Bb a b c.1 1).isSome/\True)<|lt ((vl (Bb a b c.1 0),vl (Bb a b c.1 1))) fun(l,g) =>
 gd ((Bc a d b c.2 0).isSome/\True)<|lt (vl (Bc a d b c.2 0)) fun i =>
 gd ((Bc a d b c.2 1).isSome/\True)<|lt (vl (Bc a d b c.2 1)) fun e =>
 gd ((Bb a b c.2 0).isSome/\True)<|lt (vl (Bb a b c.2 0)) fun f =>
 gd ((Bb a b c.2 1).isSome/\True)<|lt (vl (Bb a b c.2 1)) fun k =>
 some (((min h i,max j e),min l f,max g k))
def k92:Ct:=c7 92 [.agg j6,.agg A0,.agg y138,.agg y73] (fun x=>Im x.1 x.2.1 x.2.2.1 x.2.2.2.1) (fun r:B0×B0=>AV.tup [AV.agg [I r.1.1,I r.1.2],AV.agg [I r.2.1,I r.2.2]]) (fun _=>())
theorem XO:Ok prog k92:=by
 refine c8 [.cell 8 73,.cell 9 73] func92 ?_;intro y ⟨c,e,f,h,_⟩ r H Q hn hr;have:=hz (tc Ss (tc Su tn));refine iA [4,5,6,7,8,9]<|qD (fun(a,b)=>Z [p 4 (R 4),p 5 (R 5),p 6 (R 6),p 7 (R 7),p 8 (R 8),p 9 (R 9),p 10 (R 10)] [(10,bx 73 [I a,I b]),(9,bx 73 [I 0,I 0]),(8,bx 73 [I 0,I 0]),(7,K 73 y73 h),(6,K 138 y138 f),(5,K 58 A0 e),(4,K 56 j6 c)]) H fun⟨a,b⟩ H =>
  qD (fun(g,d)=>Z [p 4 (R 4),p 5 (R 5),p 6 (R 6),p 7 (R 7),p 8 (R 8),p 9 (R 9),p 10 (R 10),p 11 (R 11)] [(11,bx 73 [I g,I d]),(10,bx 73 [I a,I b]),(9,bx 73 [I 0,I 0]),(8,bx 73 [I 0,I 0]),(7,K 73 y73 h),(6,K 138 y138 f),(5,K 58 A0 e),(4,K 56 j6 c)]) H fun⟨g,d⟩ H =>
  iD Su [4,5,6,7,8,9,10,11] H fun _ H =>
  iD Su [4,6,7,8,9,10,11] H fun _ H =>
  iD Ss [4,6,7,8,9,10,11] H fun _ H =>
  iD Ss [8,9,10,11] H fun _ H =>
  iA [8,9] <|
  a8<|hr H
def o6(a:Int)(b:Int)(c:Int):Option Bool :=
 some (decide (b<=a)&&decide (a<=c))
def k59:Ct:=c7 59 [.dat i64,.dat i64,.dat i64] (fun x=>o6 x.1 x.2.1 x.2.2.1) (fun r:Bool=>B r) (fun _=>())
theorem Bd:Ok prog k59:=by
 refine c8 [.tmp 6] func59 ?_;intro y ⟨_,_,_,_⟩ r H Q hn hr;refine iA [0,1,2]<|iA [6]<|a8<|hr H
def Q2(a:j1):Option Int :=
 gd ((M0 a.2.1).isSome/\b9 (2*(↑(vl (M0 a.2.1)).length:Int))/\True)<|lt (vl (M0 a.2.1)) fun b =>
 some (2*(b.length:Int))
def k60:Ct:=c7 60 [.agg j6] (fun x=>Q2 x.1) (fun r:Int=>I r) (fun _=>())
theorem KH:Ok prog k60:=by
 refine c8 [.tmp 2] func60 ?_;intro y ⟨_,_⟩ r H Q hn hr;have:=hz (tc AZ tn);refine iA [1]<|iD AZ [2] H fun _ H=>a8<|hr H
def XP:Unit->Option (Int×Int)
 | _ =>
 some (((0:Int),(5:Int)))
def Ow(a:Int)(b:Int->Option (Int×Int)):Unit->Option (Int×Int)
 | _ =>
 gd (b9 (a+1)/\True) <|
 b (a+1)
def Ox(n:Int)(c:C0)(e:Int)(j:j1)(k:r5)(h:List Bool)(l:Int)(i:List j5)(m:Int->Option (Int×Int)):Int->Option (Int×Int)
 | b =>
 if(decide (b < (i.length:Int))) then
  gd (ix b i.length/\True)<|lt (i.getD b.toNat (a7 y138)) fun a =>
  gd (ix b h.length/\((!h.getD b.toNat false||a.2.1 != l)=false/\True->ix a.1 c.1.length)/\True) <|
  if(!h.getD b.toNat false||a.2.1 != l||!c.1.getD a.1.toNat false) then
   Ow b m ()
  else
   gd (ix a.1 c.2.2.length/\(Im j k a (c.2.2.getD a.1.toNat (a7 y73))).isSome/\True)<|lt (vl (Im j k a (c.2.2.getD a.1.toNat (a7 y73)))) fun d =>
   gd (ix a.1 c.2.1.length/\(Ar (c.2.1.getD a.1.toNat (a7 y73)) e).isSome/\(Ar d.1 e).isSome/\b9 (vl (Ar (c.2.1.getD a.1.toNat (a7 y73)) e)+vl (Ar d.1 e))/\True)<|lt ((vl (Ar (c.2.1.getD a.1.toNat (a7 y73)) e),vl (Ar d.1 e))) fun(g,f) =>
   if(g+f==n) then
    some ((b,(0:Int)))
   else
    Ow b m ()
 else
  XP ()
def Oy(c:Int)(d:C0)(f:Int)(b:j1)(e:r5)(a:List Bool)(g:Int)(h:List j5):Unit->Option (Int×Int)
 | _ =>
 lp (Ox c d f b e a g h) 0
def Oz(b:List r8)(c:Int)(e:Int)(d:Int)(j:C0)(h:j1)(k:r5)(g:List Bool)(l:List j5)(f:Int->Option (Int×Int)):Int->Option (Int×Int)
 | a =>
 if(decide (a < (b.length:Int))) then
  gd (ix a b.length/\(((b.getD a.toNat (a7 y75)).1==c)=true/\True->ix a b.length)/\(((b.getD a.toNat (a7 y75)).1==c)=true/\True->(Ar (b.getD a.toNat (a7 y75)).2.1 d).isSome)/\True)<|lt (vl (Ar (b.getD a.toNat (a7 y75)).2.1 d)) fun i =>
  if((b.getD a.toNat (a7 y75)).1==c&&i==e) then
   some (((-1:Int),(0:Int)))
  else
   gd (b9 (a+1)/\True) <|
   f (a+1)
 else
  Oy e j d h k g c l ()
def Dt(b:j1)(g:r5)(h:List j5)(i:List Bool)(e:List r8)(c:C0)(a:Int)(d:Int):Option (Int×Int) :=
 gd ((Q2 b).isSome/\b9 (vl (Q2 b)-1)/\(o6 a 0 (vl (Q2 b)-1)).isSome/\((!vl (o6 a 0 (vl (Q2 b)-1)))=false/\True->ix a c.1.length)/\True) <|
 if(!vl (o6 a 0 (vl (Q2 b)-1))||!c.1.getD a.toNat false) then
  some (((0:Int),(4:Int)))
 else
  gd (ix a c.2.1.length/\(Ar (c.2.1.getD a.toNat (a7 y73)) d).isSome/\True)<|lt (vl (Ar (c.2.1.getD a.toNat (a7 y73)) d)) fun f =>
  lp (Oz e a f d c b g i h) 0
def k43:Ct:=c7 43 [.agg j6,.agg A0,.dat y138.sl,.dat Ty.bool.sl,.dat y75.sl,.agg y65,.dat i64,.dat i64] (fun x=>Dt x.1 x.2.1 x.2.2.1 x.2.2.2.1 x.2.2.2.2.1 x.2.2.2.2.2.1 x.2.2.2.2.2.2.1 x.2.2.2.2.2.2.2.1) (fun r:Int×Int=>AV.tup [I r.1,I r.2]) (fun _=>())
theorem XQ:Ok prog k43:=by
 refine c8 [.tmp 16,.tmp 17] func43 ?_;intro y ⟨c,g,h,e,q,f,b,d,_⟩ r H Q hn hr;have:=hz (tc Sg (tc XO (tc Bd (tc KH tn))));refine iA [2,3,4,6,7,8,9,13]<|vQ<|iB [2,3,4,6,7,8,9,13,37] H fun H=>cD H (fun H=>iA [16,17]<|a8<|fR<|hr H) fun H=>vK<|fQ<|iD Sg [2,3,4,6,7,8,9,13,18] H fun a H=>jN r (fun(_:Unit)=>Z (G3 h e b d a []) (Ig f g c)) (Oy a f d c g e b h) (fun _ H=>?_) (fun _ s V v=>?_)
 ·refine jN r (fun(_:Unit)=>Z [] []) (XP) (fun _ H=>?_) (fun _ E W x=>?_)
  ·refine iA [16,17]<|a8<|hr H
  refine iA [2,3,6,7,8,9,13,18,20]<|vB<|lX (fun(i:Int)=>Z (G3 h e b d a [p 20 (I i)]) (Ig f g c)) 0 H fun _ u w P F i H=>vQ<|iA [2,3,6,7,8,9,13,18,20,72]<|cD H (fun H=>?_) (fun H=>?_)
  ·refine vK<|fQ<|jN r (fun(_:Unit)=>Z (G3 h e b d a [p 20 (I i)]) (Ig f g c)) (Ow i u) (fun _ H=>?_) (fun _ n Y z=>?_)
   ·refine jB [2,3,6,7,8,9,13,18,20] H fun H=>w H
   refine vB<|qD (fun m=>Z (G3 h e b d a [p 20 (I i),p 21 (R 21)]) ((21,K 138 y138 m)::Ig f g c)) H fun m H=>vQ<|iB [2,3,6,7,8,9,13,18,20,21,98] H fun H=>cD H (fun H=>vE<|fE<|fX rfl<|n H) fun H=>vK<|fQ<|iD XO [2,3,6,7,8,9,13,18,20,21,22] H fun k H=>qD (fun(l,j)=>Z (G3 h e b d a [p 20 (I i),p 125 (B (l+j==a))]) ((23,bx 73 (F2 true y73 k.2))::(22,bx 73 (F2 true y73 k.1))::(21,K 138 y138 m)::Ig f g c)) H fun⟨l,j⟩ H =>
    cD H (fun H=>iA [16,17]<|a8<|j0<|z<|F<|j0<|x<|hr H) fun H=>vK<|fK<|n H
  exact vE<|fE<|P<|fX rfl<|E H
 refine iA [2,3,4,6,7,8,9,13,18,19]<|vB<|lX (fun(o:Int)=>Z [p 2 (L y138 h),p 3 (L Ty.bool e),p 4 (L y75 q),p 6 (J b),p 7 (J d),p 8 (R 8),p 9 (R 9),p 13 (R 13),p 18 (I a),p 19 (I o)] (Ig f g c)) 0 H fun _ X T G t o H=>vQ<|iA [2,3,4,6,7,8,9,13,18,19,48]<|cD H (fun H=>?_) (fun H=>?_)
 ·refine vK<|fQ<|vQ<|vB<|iD Sg [2,3,4,6,7,8,9,13,18,19,68] H fun _ H=>cD H (fun H=>iA [16,17]<|a8<|j0<|fR<|t<|j0<|v<|hr H) fun H=>vK<|fK<|fQ<|jB [2,3,4,6,7,8,9,13,18,19] H fun H=>T H
 exact vE<|fE<|G<|fX rfl<|s H
def XR:Unit->Option Bool
 | _ =>
 some false
def XS(b:List Int)(d:Int)(c:Int->Option Bool):Int->Option Bool
 | a =>
 if(decide (a < (b.length:Int))) then
  gd (ix a b.length/\True) <|
  if(b.getD a.toNat 0==d) then
   some true
  else
   gd (b9 (a+1)/\True) <|
   c (a+1)
 else
  XR ()
def Io(b:List Int)(a:Int):Option Bool :=
 lp (XS b a) 0
def k93:Ct:=c7 93 [.dat i64.sl,.dat i64] (fun x=>Io x.1 x.2.1) (fun r:Bool=>B r) (fun _=>())
theorem o93:Ok prog k93:=by
 refine c8 [.tmp 4] func93 ?_;intro y ⟨e,f,_⟩ r H Q hn hr;refine iA [0,1]<|jN r (fun(_:Unit)=>Z [] []) (XR) (fun _ H=>?_) (fun _ d j c=>?_)
 ·refine iA [4]<|a8<|hr H
 refine iA [0,1,5]<|vB<|lX (fun(a:Int)=>Z [p 0 (L i64 e),p 1 (J f),p 5 (I a)] []) 0 H fun _ i g b h a H=>vQ<|iA [0,1,5,9]<|cD H (fun H=>?_) (fun H=>?_)
 ·refine vK<|fQ<|vQ<|vB<|iB [0,1,5,17] H fun H=>cD H (fun H=>iA [4]<|a8<|j0<|fR<|h<|j0<|c<|hr H) fun H=>vK<|fK<|fQ<|jB [0,1,5] H fun H=>g H
 exact vE<|fE<|b<|fX rfl<|d H
def XT:List Bool->Option (List Bool)
 | a =>
 some a
def XU(b:List Int)(e:List j5)(d:Int×List Bool->Option (List Bool)):Int×List Bool->Option (List Bool)
 | (a,c) =>
 if(decide (a < (e.length:Int))) then
  gd ((Io b a).isSome/\(c.length+[!vl (Io b a)].length<=9223372036854775807/\(c.length+[!vl (Io b a)].length)*1<=140737488355328)/\True) <|
  gd (b9 (a+1)/\True) <|
  d ((a+1,c++[!vl (Io b a)]))
 else
  XT c
def Be(b:List j5)(a:List Int):Option (List Bool) :=
 lp (XU a b) (0,[])
def k44:Ct:=c7 44 [.dat y138.sl,.dat i64.sl] (fun x=>Be x.1 x.2.1) (fun r:List Bool=>AV.ow 4 true Ty.bool r) (fun _=>())
theorem Sw:Ok prog k44:=by
 refine c8 [.tmp 4] func44 ?_;intro y ⟨f,g,_⟩ r H Q hn hr;have:=hz (tc o93 tn);refine iA [0,1]<|iA [0,1,5]<|jN r (fun(c:List Bool)=>Z [p 5 (O 7)] [(7,A 4 Ty.bool c 0)]) (XT) (fun c H=>?_) (fun _ e l j=>?_)
 ·refine iA [4]<|a8<|hr H
 refine iA [0,1,5,6]<|vB<|lX (fun((a,b):Int×List Bool)=>Z [p 0 (L y138 f),p 1 (L i64 g),p 5 (O 7),p 6 (I a)] [(7,A 4 Ty.bool b 0)]) (0,[]) H fun _ i h d k ⟨a,b⟩ H=>vQ<|iA [0,1,5,6,11]<|cD H (fun H=>vK<|fQ<|vQ<|vB<|jB [0,1,5,6] H fun H=>fK<|fQ<|jB [0,1,5,6] H fun H=>h H) fun H=>vE<|fE<|d<|fX rfl<|e H
def Fq(e:List j5)(a:Int)(b:Int)(d:Int)(c:Int)(f:Int)(g:Int):Option (List j5) :=
 gd (b9 (2*a)/\b9 (2*a+d)/\b9 (2*b)/\b9 (2*b+c)/\(e.length+[(2*a+d,2*b+c,f,g)].length<=9223372036854775807/\(e.length+[(2*a+d,2*b+c,f,g)].length)*32<=140737488355328)/\True) <|
 some (e++[(2*a+d,2*b+c,f,g)])
def k90:Ct:=c7 90 [.os 138 y138,.dat i64,.dat i64,.dat i64,.dat i64,.dat i64,.dat i64] (fun x=>Fq x.1 x.2.1 x.2.2.1 x.2.2.2.1 x.2.2.2.2.1 x.2.2.2.2.2.1 x.2.2.2.2.2.2.1) (fun r:List j5=>AV.ow 138 true y138 r) (fun _=>())
theorem KI:Ok prog k90:=by
 refine c8 [.tmp 14] func90 ?_;intro y ⟨_,_,_,_,_,_,_,_⟩ r H Q hn hr;refine iA [0,1,2,3,4,5,6]<|iB [14] H fun H=>a8<|hr H
def XV:Unit->Option Int
 | _ =>
 some (-1)
def XW(b:List D5)(c:Int)(d:Int->Option Int):Int->Option Int
 | a =>
 if(decide (a < (b.length:Int))) then
  gd (ix a b.length/\a.toNat<b.length/\(((b.getD a.toNat (a7 C1)).2.2.1==c)=true/\True->ix a b.length)/\(((b.getD a.toNat (a7 C1)).2.2.1==c)=true/\True->a.toNat<b.length)/\True) <|
  if((b.getD a.toNat (a7 C1)).2.2.1==c&&(b.getD a.toNat (a7 C1)).2.2.2) then
   some a
  else
   gd (b9 (a+1)/\True) <|
   d (a+1)
 else
  XV ()
def KJ(a:p9)(c:Int):Option Int :=
 gd ((M0 a).isSome/\True)<|lt (vl (M0 a)) fun b =>
 lp (XW b c) 0
def k88:Ct:=c7 88 [.agg y53,.dat i64] (fun x=>KJ x.1 x.2.1) (fun r:Int=>I r) (fun _=>())
theorem XX:Ok prog k88:=by
 refine c8 [.tmp 4] func88 ?_;intro y ⟨_,f,_⟩ r H Q hn hr;have:=hz (tc AZ tn);refine iA [1,2]<|iD AZ [1,5] H fun e H=>jN r (fun(_:Unit)=>Z [] []) (XV) (fun _ H=>?_) (fun _ d j c=>?_)
 ·refine iA [4]<|a8<|hr H
 refine iA [1,5,6]<|vB<|lX (fun(a:Int)=>Z [p 1 (J f),p 5 (O 8),p 6 (I a)] [(8,A 226 C1 e 0)]) 0 H fun _ i g b h a H=>vQ<|iA [1,5,6,12]<|cD H (fun H=>?_) (fun H=>?_)
 ·refine vK<|fQ<|vQ<|vB<|iB [1,5,6,28] H fun H=>cD H (fun H=>iA [4]<|a8<|j0<|fR<|h<|j0<|c<|hr H) fun H=>vK<|fK<|fQ<|jB [1,5,6] H fun H=>g H
 exact vE<|fE<|b<|fX rfl<|d H
def XY:List j5->Option (List j5)
 | a =>
 some a
def Sx(b:Int)(c:Int×List j5->Option (List j5)):List j5->Option (List j5)
 | a =>
 gd (b9 (b+1)/\True) <|
 c (b+1,a)
def OA(a:Int)(c:Int×List j5->Option (List j5)):List j5->Option (List j5)
 | b =>
 gd (b9 (a+1)/\True) <|
 c (a+1,b)
def Fs(a:Int)(b:List j5)(i:Int)(f:Int)(g:Int)(e:Int)(h:Int×List j5->Option (List j5)):Bool->Option (List j5)
 | d =>
 if d then
  gd ((Fq b i f g a 1 e).isSome/\True)<|lt (vl (Fq b i f g a 1 e)) fun c =>
  OA a h c
 else
  OA a h b
def Sy(h:Int)(f:Int)(c:Int)(e:Int)(d:A6)(i:Int×List j5->Option (List j5))(g:Int×List j5->Option (List j5)):Int×List j5->Option (List j5)
 | (a,b) =>
 if(decide (a<=1)) then
  if(d.1==1) then
   Fs a b h f c e g (d.2.2.2.1==3||(d.2.2.2.1==1)==(c==a))
  else
   if(d.1==2) then
    Fs a b h f c e g (c==0)
   else
    if(d.1==3) then
     Fs a b h f c e g (c==1)
    else
     Fs a b h f c e g false
 else
  Sx c i b
def OB(g:Int)(e:Int)(d:Int)(f:A6)(c:Int×List j5->Option (List j5)):Int×List j5->Option (List j5)
 | (b,a) =>
 if(decide (b<=1)) then
  lp (Sy g e b d f c) (0,a)
 else
  XY a
def Gy(b:List j5)(c:A6)(d:Int)(e:Int)(a:Int):Option (List j5) :=
 lp (OB d e a c) (0,b)
def k86:Ct:=c7 86 [.os 138 y138,.agg y158,.dat i64,.dat i64,.dat i64] (fun x=>Gy x.1 x.2.1 x.2.2.1 x.2.2.2.1 x.2.2.2.2.1) (fun r:List j5=>AV.ow 138 true y138 r) (fun _=>())
theorem XZ:Ok prog k86:=by
 refine c8 [.tmp 10] func86 ?_;intro y ⟨s,k,g,f,e,_⟩ r H Q hn hr;have:=hz (tc KI tn);refine iA [0,2,3,4,6]<|jN r (fun(l:List j5)=>Z [p 0 (O 500000)] [(500000,A 138 y138 l 0)]) (XY) (fun l H=>?_) (fun _ q G T=>?_)
 ·refine iA [10]<|a8<|hr H
 refine iA [0,2,3,4,6,11]<|vB<|lX (fun((c,d):Int×List j5)=>Z (Kj g f e c []) [(6,K 158 y158 k),(500000,A 138 y138 d 0)]) (0,s) H fun _ u z w F ⟨c,d⟩ H=>vQ<|iA [0,2,3,4,6,11,15]<|cD H (fun H=>?_) (fun H=>?_)
 ·refine vK<|fQ<|jN r (fun(i:List j5)=>Z (Kj g f e c []) [(6,K 158 y158 k),(500000,A 138 y138 i 0)]) (Sx c u) (fun i H=>?_) (fun _ v P W=>?_)
  ·refine jB [0,2,3,4,6,11] H fun H=>z H
  refine vB<|iA [0,2,3,4,6,11,12]<|vB<|lX (fun((a,b):Int×List j5)=>Z (Kj g f e c [p 12 (I a)]) [(6,K 158 y158 k),(500000,A 138 y138 b 0)]) (0,d) H fun _ o t x Y ⟨a,b⟩ H=>vQ<|iA [0,2,3,4,6,11,12,19]<|cD H (fun H=>?_) (fun H=>?_)
  ·refine vK<|fQ<|jN r (fun(j:List j5)=>Z (Kj g f e c [p 12 (I a)]) [(500000,A 138 y138 j 0),(6,K 158 y158 k)]) (OA a o) (fun j H=>?_) (fun _ n e4 X=>?_)
   ·refine jB [0,2,3,4,6,11,12] H fun H=>t H
   refine vB<|iA [0,2,3,4,6,11,12,13]<|jN r (fun(h:Bool)=>Z (Kj g f e c [p 12 (I a),p 13 (B h)]) [(6,K 158 y158 k),(500000,A 138 y138 b 0)]) (Fs a b g f c e o) (fun h H=>?_) (fun _ m V E=>?_)
   ·refine iA [0,2,3,4,6,11,12,46]<|cD H (fun H=>jD KI [0,2,3,4,6,11,12] H fun _ H=>fK<|n H) fun H=>vK<|fK<|n H
   refine iA [0,2,3,4,6,11,12,13,23]<|vB<|iA [0,2,3,4,6,11,12,13,23,24]<|cD H (fun H=>jA [0,2,3,4,6,11,12,13]<|fK<|m H) fun H=>iA [0,2,3,4,6,11,12,13,23,38]<|cD H (fun H=>jA [0,2,3,4,6,11,12,13]<|fK<|m H) fun H=>iA [0,2,3,4,6,11,12,13,42]<|cD H (fun H=>jA [0,2,3,4,6,11,12,13]<|fK<|m H) fun H=>vK<|fK<|m H
  exact vE<|fE<|x<|fX rfl<|fK<|v H
 exact vE<|fE<|w<|fX rfl<|q H
def Ya:Unit->Option Int
 | _ =>
 some (-1)
def Yb(b:List D5)(c:Int)(e:Int)(d:Int->Option Int):Int->Option Int
 | a =>
 if(decide (a < (b.length:Int))) then
  gd (ix a b.length/\a.toNat<b.length/\(((b.getD a.toNat (a7 C1)).1==c)=true/\True->ix a b.length)/\(((b.getD a.toNat (a7 C1)).1==c)=true/\True->a.toNat<b.length)/\True) <|
  if((b.getD a.toNat (a7 C1)).1==c&&(b.getD a.toNat (a7 C1)).2.1==e) then
   some a
  else
   gd (b9 (a+1)/\True) <|
   d (a+1)
 else
  Ya ()
def X6(a:p9)(b:Int)(d:Int):Option Int :=
 gd ((M0 a).isSome/\True)<|lt (vl (M0 a)) fun c =>
 lp (Yb c b d) 0
def k87:Ct:=c7 87 [.agg y53,.dat i64,.dat i64] (fun x=>X6 x.1 x.2.1 x.2.2.1) (fun r:Int=>I r) (fun _=>())
theorem o87:Ok prog k87:=by
 refine c8 [.tmp 6] func87 ?_;intro y ⟨_,f,i,_⟩ r H Q hn hr;have:=hz (tc AZ tn);refine iA [1,2,3]<|iD AZ [1,2,7] H fun e H=>jN r (fun(_:Unit)=>Z [] []) (Ya) (fun _ H=>?_) (fun _ d k c=>?_)
 ·refine iA [6]<|a8<|hr H
 refine iA [1,2,7,8]<|vB<|lX (fun(a:Int)=>Z [p 1 (J f),p 2 (J i),p 7 (O 10),p 8 (I a)] [(10,A 226 C1 e 0)]) 0 H fun _ j g b h a H=>vQ<|iA [1,2,7,8,14]<|cD H (fun H=>?_) (fun H=>?_)
 ·refine vK<|fQ<|vQ<|vB<|iB [1,2,7,8,32] H fun H=>cD H (fun H=>iA [6]<|a8<|j0<|fR<|h<|j0<|c<|hr H) fun H=>vK<|fK<|fQ<|jB [1,2,7,8] H fun H=>g H
 exact vE<|fE<|b<|fX rfl<|d H
def Yc:List j5->Option (List j5)
 | a =>
 some a
def Sz(a:Int)(c:Int×List j5->Option (List j5)):List j5->Option (List j5)
 | b =>
 gd (b9 (a+1)/\True) <|
 c (a+1,b)
def Yd(c:Int)(b:List Int)(f:Int)(h:Int×List j5->Option (List j5))(i:Int×List j5->Option (List j5)):Int×List j5->Option (List j5)
 | (a,d) =>
 if(decide (a < (b.length:Int))) then
  gd (ix a b.length/\a.toNat<b.length/\(Fq d c (b.getD a.toNat 0) 0 0 2 a).isSome/\True)<|lt (vl (Fq d c (b.getD a.toNat 0) 0 0 2 a)) fun e =>
  gd (ix a b.length/\a.toNat<b.length/\(Fq e c (b.getD a.toNat 0) 1 1 2 a).isSome/\True)<|lt (vl (Fq e c (b.getD a.toNat 0) 1 1 2 a)) fun g =>
  gd (b9 (a+1)/\True) <|
  i (a+1,g)
 else
  Sz f h d
def Ye(c:j1)(f:Int×List j5->Option (List j5)):Int×List j5->Option (List j5)
 | (a,b) =>
 if(decide (a < (c.2.1.2.1.length:Int))) then
  gd ((KJ c.2.1 a).isSome/\True)<|lt (vl (KJ c.2.1 a)) fun e =>
  gd ((Ba c.2.1 a).isSome/\True)<|lt (vl (Ba c.2.1 a)) fun d =>
  lp (Yd e d a f) (0,b)
 else
  Yc b
def OC(b:j1):List j5->Option (List j5)
 | a =>
 lp (Ye b) (0,a)
def SA(b:Int)(c:Int×List j5->Option (List j5)):List j5->Option (List j5)
 | a =>
 gd (b9 (b+1)/\True) <|
 c (b+1,a)
def KK(a:Int)(c:Int×List j5->Option (List j5)):List j5->Option (List j5)
 | b =>
 gd (b9 (a+1)/\True) <|
 c (a+1,b)
def Yf(b:l6)(e:j1)(d:Int)(h:Int×List j5->Option (List j5))(g:Int×List j5->Option (List j5)):Int×List j5->Option (List j5)
 | (a,c) =>
 if(decide (a < (b.2.2.2.1.length:Int))) then
  gd (ix a b.2.2.2.1.length/\True) <|
  if(decide ((b.2.2.2.1.getD a.toNat (a7 y158)).1<=3)) then
   gd (ix a b.2.2.2.1.length/\ix a b.2.2.2.1.length/\(X6 e.2.1 d (b.2.2.2.1.getD a.toNat (a7 y158)).2.1).isSome/\ix a b.2.2.2.1.length/\(X6 e.2.1 d (b.2.2.2.1.getD a.toNat (a7 y158)).2.2.1).isSome/\(Gy c (b.2.2.2.1.getD a.toNat (a7 y158)) (vl (X6 e.2.1 d (b.2.2.2.1.getD a.toNat (a7 y158)).2.1)) (vl (X6 e.2.1 d (b.2.2.2.1.getD a.toNat (a7 y158)).2.2.1)) a).isSome/\True)<|lt (vl (Gy c (b.2.2.2.1.getD a.toNat (a7 y158)) (vl (X6 e.2.1 d (b.2.2.2.1.getD a.toNat (a7 y158)).2.1)) (vl (X6 e.2.1 d (b.2.2.2.1.getD a.toNat (a7 y158)).2.2.1)) a)) fun f =>
   KK a g f
  else
   KK a g c
 else
  SA d h c
def Yg(a:j1)(e:Int×List j5->Option (List j5)):Int×List j5->Option (List j5)
 | (b,d) =>
 if(decide (b < (a.2.1.1.length:Int))) then
  gd (ix b a.2.1.1.length/\ix (a.2.1.1.getD b.toNat (a7 y155)).2.1 a.1.length/\True)<|lt (a.1.getD (a.2.1.1.getD b.toNat (a7 y155)).2.1.toNat (a7 y153)) fun c =>
  lp (Yf c a b e) (0,d)
 else
  OC a d
def Bf(a:j1):Option (List j5) :=
 lp (Yg a) (0,[])
def k42:Ct:=c7 42 [.agg j6] (fun x=>Bf x.1) (fun r:List j5=>AV.ow 138 true y138 r) (fun _=>())
theorem Ip:Ok prog k42:=by
 refine c8 [.tmp 2] func42 ?_;intro y ⟨a,_⟩ r H Q hn hr;have:=hz (tc KI (tc Ih (tc XX (tc XZ (tc o87 tn)))));refine iA [1]<|iA [1,3]<|iA [1,3,4]<|jN r (fun(f:List j5)=>Z [p 3 (O 12),p 4 (R 4)] [(4,K 53 y53 a.2.1),(12,A 138 y138 f 0)]) (OC a) (fun f H=>?_) (fun _ u e0 t0=>?_)
 ·refine jN r (fun(l:List j5)=>Z [p 3 (O 12)] [(12,A 138 y138 l 0)]) (Yc) (fun l H=>?_) (fun _ P e5 t5=>?_)
  ·refine iA [2]<|a8<|hr H
  refine iA [3,4,8]<|vB<|lX (fun((b,e):Int×List j5)=>Z [p 3 (O 12),p 4 (R 4),p 8 (I b)] [(4,K 53 y53 a.2.1),(12,A 138 y138 e 0)]) (0,f) H fun _ w W z t6 ⟨b,e⟩ H=>vQ<|iA [3,4,8,73]<|cD H (fun H=>?_) (fun H=>?_)
  ·refine vK<|fQ<|jN r (fun(m:List j5)=>Z [p 3 (O 12),p 4 (R 4),p 8 (I b)] [(4,K 53 y53 a.2.1),(12,A 138 y138 m 0)]) (Sz b w) (fun m H=>?_) (fun _ G e7 t7=>?_)
   ·refine jB [3,4,8] H fun H=>W H
   refine vB<|iD XX [3,4,8,9] H fun s H=>iD Ih [3,4,8,9,10] H fun q H=>iA [3,4,8,9,10,11]<|vB<|lX (fun((n,j):Int×List j5)=>Z [p 3 (O 12),p 4 (R 4),p 8 (I b),p 9 (I s),p 10 (O 81),p 11 (I n)] [(81,A 2 i64 q 0),(4,K 53 y53 a.2.1),(12,A 138 y138 j 0)]) (0,e) H fun _ g8 b8 T t8 ⟨n,j⟩ H=>vQ<|iA [3,4,8,9,10,11,85]<|cD H (fun H=>vK<|fQ<|vQ<|vB<|iD KI [3,4,8,9,10,11] H fun _ H=>jD KI [3,4,8,9,10,11] H fun _ H=>fK<|fQ<|jB [3,4,8,9,10,11] H fun H=>b8 H) fun H=>vE<|fE<|T<|fX rfl<|fK<|G H
  exact vE<|fE<|z<|fX rfl<|P H
 refine iA [1,3,4,5]<|vB<|lX (fun((g,o):Int×List j5)=>Z (Kk g []) [(4,K 53 y53 a.2.1),(12,A 138 y138 o 0),(1,K 56 j6 a)]) (0,[]) H fun _ E Y V t1 ⟨g,o⟩ H=>vQ<|iA [1,3,4,5,19]<|cD H (fun H=>?_) (fun H=>?_)
 ·refine vK<|fQ<|jN r (fun(k:List j5)=>Z (Kk g []) [(4,K 53 y53 a.2.1),(12,A 138 y138 k 0),(1,K 56 j6 a)]) (SA g E) (fun k H=>?_) (fun _ F e2 t2=>?_)
  ·refine jB [1,3,4,5] H fun H=>Y H
  refine vB<|qD (fun c=>Z (Kk g [p 6 (L y158 c.2.2.2.1)]) [(4,K 53 y53 a.2.1),(12,A 138 y138 o 0),(1,K 56 j6 a)]) H fun c H=>iA [1,3,4,5,6,7]<|vB<|lX (fun((d,i):Int×List j5)=>Z (Kk g [p 6 (L y158 c.2.2.2.1),p 7 (I d)]) [(4,K 53 y53 a.2.1),(12,A 138 y138 i 0),(1,K 56 j6 a)]) (0,o) H fun _ v x X t3 ⟨d,i⟩ H=>vQ<|iA [1,3,4,5,6,7,37]<|cD H (fun H=>?_) (fun H=>?_)
  ·refine vK<|fQ<|jN r (fun(h:List j5)=>Z (Kk g [p 6 (L y158 c.2.2.2.1),p 7 (I d)]) [(12,A 138 y138 h 0),(4,K 53 y53 a.2.1),(1,K 56 j6 a)]) (KK d v) (fun h H=>?_) (fun _ t e4 t4=>?_)
   ·refine jB [1,3,4,5,6,7] H fun H=>x H
   refine vB<|iB [1,3,4,5,6,7,45] H fun H=>cD H (fun H=>jD XZ [1,3,4,5,6,7] H fun _ H=>fK<|t H) fun H=>vK<|fK<|t H
  exact vE<|fE<|X<|fX rfl<|fK<|F H
 exact vE<|fE<|V<|fX rfl<|u H
def KL(a:Int):Option Bool :=
 some (a==0||a==1)
def k41:Ct:=c7 41 [.dat i64] (fun x=>KL x.1) (fun r:Bool=>B r) (fun _=>())
theorem o41:Ok prog k41:=by
 refine c8 [.tmp 2] func41 ?_;intro y ⟨_,_⟩ r H Q hn hr;refine iA [0]<|iA [2]<|a8<|hr H
def Yh:List Int->Option (List Int×Bool)
 | a =>
 some (a,true)
def Iq(c:List Bool)(b:List Int)(e:Int)(d:List Bool×List Int->Option (List Int×Bool)):Int->Option (List Int×Bool)
 | a =>
 if(a==e) then
  some ([],false)
 else
  gd (ix a c.length/\a.toNat<c.length/\True) <|
  gd ((b.length+[a].length<=9223372036854775807/\(b.length+[a].length)*8<=140737488355328)/\True) <|
  d (c.set a.toNat true,b++[a])
def Yi(d:List Bool)(f:List Int)(c:Int)(b:List Bool)(e:List Bool×List Int->Option (List Int×Bool))(g:Int->Option (List Int×Bool)):Int->Option (List Int×Bool)
 | a =>
 gd ((decide (a<c)=true/\True->ix a d.length)/\(decide (a<c)=true/\True->a.toNat<d.length)/\(d.getD a.toNat false=false/\decide (a<c)=true/\True->ix a b.length)/\(d.getD a.toNat false=false/\decide (a<c)=true/\True->a.toNat<b.length)/\True) <|
 if(decide (a<c)&&(d.getD a.toNat false||b.getD a.toNat false)) then
  gd (b9 (a+1)/\True) <|
  g (a+1)
 else
  Iq d f c e a
def KM(e:List Bool)(c:List Int)(d:Int)(b:List Bool×List Int->Option (List Int×Bool)):List Bool->Option (List Int×Bool)
 | a =>
 lp (Yi e c d a b) 0
def SB(a:Int)(c:Int×List Bool->Option (List Int×Bool)):List Bool->Option (List Int×Bool)
 | b =>
 gd (b9 (a+1)/\True) <|
 c (a+1,b)
def Yj(c:List j5)(d:List Bool)(e:List Bool)(h:List Int)(i:Int)(g:List Bool×List Int->Option (List Int×Bool))(f:Int×List Bool->Option (List Int×Bool)):Int×List Bool->Option (List Int×Bool)
 | (a,b) =>
 if(decide (a < (c.length:Int))) then
  gd (ix a d.length/\(d.getD a.toNat false=true/\True->ix a c.length)/\(d.getD a.toNat false=true/\True->ix (c.getD a.toNat (a7 y138)).1 e.length)/\(d.getD a.toNat false=true/\True->(c.getD a.toNat (a7 y138)).1.toNat<e.length)/\True) <|
  if(d.getD a.toNat false&&!e.getD (c.getD a.toNat (a7 y138)).1.toNat false) then
   gd (ix a c.length/\ix (c.getD a.toNat (a7 y138)).2.1 b.length/\(c.getD a.toNat (a7 y138)).2.1.toNat<b.length/\True) <|
   SB a f (b.set (c.getD a.toNat (a7 y138)).2.1.toNat true)
  else
   SB a f b
 else
  KM e h i g b
def Yk(e:List j5)(f:List Bool)(a:Int)(c:List Bool×List Int->Option (List Int×Bool)):List Bool×List Int->Option (List Int×Bool)
 | (d,b) =>
 if(decide ((b.length:Int)<a)) then
  gd ((0<=a/\a=a/\a.toNat*1<=281474976710656/\a<=9223372036854775807)/\True) <|
  lp (Yj e f d b a c) (0,List.replicate a.toNat false)
 else
  Yh b
def KN(a:Int)(b:List j5)(c:List Bool):Option (List Int×Bool) :=
 gd ((0<=a/\a=a/\a.toNat*1<=281474976710656/\a<=9223372036854775807)/\True) <|
 lp (Yk b c a) (List.replicate a.toNat false,[])
def R0M:Ct:=c7 178 [.dat i64,.dat y138.sl,.dat Ty.bool.sl] (fun x=>KN x.1 x.2.1 x.2.2.1) (fun r:List Int×Bool=>AV.tup [AV.ow 2 true i64 r.1,B r.2]) (fun _=>())
theorem P0g:Ok prog R0M:=by
 refine c8 [.tmp 6,.tmp 7] func178 ?_;intro y ⟨a,f,g,_⟩ r H Q hn hr;refine iA [0,1,2]<|iA [0,1,2,8]<|iB [0,1,2,8,9] H fun H=>jN r (fun(k:List Int)=>Z [p 8 (O 13)] [(13,A 2 i64 k 0)]) (Yh) (fun k H=>?_) (fun _ o V t=>?_)
 ·refine iA [6,7]<|a8<|hr H
 refine vB<|lX (fun((d,c):List Bool×List Int)=>Z (G4 a f g []) [(15,A 4 Ty.bool d 0),(13,A 2 i64 c 0)]) (List.replicate a.toNat false,[]) H fun _ n G z q ⟨d,c⟩ H=>vQ<|iA [0,1,2,8,9,19]<|cD H (fun H=>?_) (fun H=>?_)
 ·refine vK<|fQ<|vB<|iB [0,1,2,8,9,10] H fun H=>jN r (fun(e:List Bool)=>Z (G4 a f g [p 10 (O 21)]) [(21,A 4 Ty.bool e 0),(15,A 4 Ty.bool d 0),(13,A 2 i64 c 0)]) (KM d c a n) (fun e H=>?_) (fun _ w W t2=>?_)
  ·refine iA [0,1,2,8,9,10,12]<|jN r (fun(j:Int)=>Z (G4 a f g [p 12 (I j)]) [(15,A 4 Ty.bool d 0),(13,A 2 i64 c 0)]) (Iq d c a n) (fun j H=>?_) (fun _ x Y P=>?_)
   ·refine vQ<|iA [0,1,2,8,9,12,69]<|cD H (fun H=>iA [6,7]<|a8<|fR<|j0<|q<|j0<|t<|hr H) fun H=>vK<|fQ<|iB [0,1,2,8,9,12] H fun H=>jB [0,1,2,8,9] H fun H=>fK<|G H
   refine vB<|lX (fun(h:Int)=>Z (G4 a f g [p 10 (O 21),p 12 (I h)]) [(21,A 4 Ty.bool e 0),(15,A 4 Ty.bool d 0),(13,A 2 i64 c 0)]) 0 H fun _ X E v T h H=>vQ<|iB [0,1,2,8,9,10,12,64] H fun H=>cD H (fun H=>vK<|fQ<|vB<|jB [0,1,2,8,9,10,12] H fun H=>fK<|E H) fun H=>vE<|fE<|v<|fX rfl<|x H
  refine iA [0,1,2,8,9,10,11]<|vB<|lX (fun((b,l):Int×List Bool)=>Z (G4 a f g [p 10 (O 21),p 11 (I b)]) [(21,A 4 Ty.bool l 0),(15,A 4 Ty.bool d 0),(13,A 2 i64 c 0)]) (0,List.replicate a.toNat false) H fun _ s u F t3 ⟨b,l⟩ H=>vQ<|iA [0,1,2,8,9,10,11,25]<|cD H (fun H=>?_) (fun H=>?_)
  ·refine vK<|fQ<|jN r (fun(i:List Bool)=>Z (G4 a f g [p 10 (O 21),p 11 (I b)]) [(21,A 4 Ty.bool i 0),(15,A 4 Ty.bool d 0),(13,A 2 i64 c 0)]) (SB b s) (fun i H=>?_) (fun _ m e4 t4=>?_)
   ·refine jB [0,1,2,8,9,10,11] H fun H=>u H
   refine vB<|iB [0,1,2,8,9,10,11,42] H fun H=>cD H (fun H=>jB [0,1,2,8,9,10,11] H fun H=>fK<|m H) fun H=>vK<|fK<|m H
  exact vE<|fE<|F<|fX rfl<|w H
 exact vE<|fE<|z<|fX rfl<|o H
def Yl:Unit->Option Bool
 | _ =>
 some true
def Ym(b:List Int)(c:Int)(d:Int->Option Bool):Int->Option Bool
 | a =>
 if(decide (a < (b.length:Int))) then
  gd (ix a b.length/\b9 (c-1)/\(o6 (b.getD a.toNat 0) 0 (c-1)).isSome/\(decide (0<a)=true/\(!vl (o6 (b.getD a.toNat 0) 0 (c-1)))=false/\True->b9 (a-1))/\(decide (0<a)=true/\(!vl (o6 (b.getD a.toNat 0) 0 (c-1)))=false/\True->ix (a-1) b.length)/\(decide (0<a)=true/\(!vl (o6 (b.getD a.toNat 0) 0 (c-1)))=false/\True->ix a b.length)/\True) <|
  if(!vl (o6 (b.getD a.toNat 0) 0 (c-1))||decide (0<a)&&decide (b.getD a.toNat 0<=b.getD (a-1).toNat 0)) then
   some false
  else
   gd (b9 (a+1)/\True) <|
   d (a+1)
 else
  Yl ()
def OD(b:List Int)(a:Int):Option Bool :=
 lp (Ym b a) 0
def R0N:Ct:=c7 177 [.dat i64.sl,.dat i64] (fun x=>OD x.1 x.2.1) (fun r:Bool=>B r) (fun _=>())
theorem P0h:Ok prog R0N:=by
 refine c8 [.tmp 4] func177 ?_;intro y ⟨e,f,_⟩ r H Q hn hr;have:=hz (tc Bd tn);refine iA [0,1]<|jN r (fun(_:Unit)=>Z [] []) (Yl) (fun _ H=>?_) (fun _ d j c=>?_)
 ·refine iA [4]<|a8<|hr H
 refine iA [0,1,5]<|vB<|lX (fun(a:Int)=>Z [p 0 (L i64 e),p 1 (J f),p 5 (I a)] []) 0 H fun _ i g b h a H=>vQ<|iA [0,1,5,9]<|cD H (fun H=>?_) (fun H=>?_)
 ·refine vK<|fQ<|vQ<|vB<|iB [0,1,5,35] H fun H=>cD H (fun H=>iA [4]<|a8<|j0<|fR<|h<|j0<|c<|hr H) fun H=>vK<|fK<|fQ<|jB [0,1,5] H fun H=>g H
 exact vE<|fE<|b<|fX rfl<|d H
def Yn:Unit->Option Bool
 | _ =>
 some true
def Yo(a:C3)(c:Int->Option Bool):Int->Option Bool
 | b =>
 if(decide (b < (a.2.2.2.length:Int))) then
  gd (ix b a.2.2.2.length/\b9 ((a.1.length:Int)-1)/\(o6 (a.2.2.2.getD b.toNat 0) 0 ((a.1.length:Int)-1)).isSome/\True) <|
  if(!vl (o6 (a.2.2.2.getD b.toNat 0) 0 ((a.1.length:Int)-1))) then
   some false
  else
   gd (b9 (b+1)/\True) <|
   c (b+1)
 else
  Yn ()
def OE(a:C3):Unit->Option Bool
 | _ =>
 lp (Yo a) 0
def Yp(b:C3)(c:Int->Option Bool):Int->Option Bool
 | a =>
 if(decide (a < (b.1.length:Int))) then
  gd (ix a b.2.2.1.length/\(o6 (b.2.2.1.getD a.toNat 0) 0 500).isSome/\((!vl (o6 (b.2.2.1.getD a.toNat 0) 0 500))=false/\True->ix a b.2.1.length)/\((!vl (o6 (b.2.2.1.getD a.toNat 0) 0 500))=false/\True->(o6 (b.2.1.getD a.toNat 0) 0 1000).isSome)/\True) <|
  if(!vl (o6 (b.2.2.1.getD a.toNat 0) 0 500)||!vl (o6 (b.2.1.getD a.toNat 0) 0 1000)) then
   some false
  else
   gd (((a==0)=true/\True->ix a b.1.length)/\((b.1.getD a.toNat 0 != -1)=false/\(a==0)=true/\True->ix a b.2.1.length)/\(decide (0<a)=true/\(a==0&&(b.1.getD a.toNat 0 != -1||b.2.1.getD a.toNat 0 != 0))=false/\True->ix a b.1.length)/\(decide (0<a)=true/\(a==0&&(b.1.getD a.toNat 0 != -1||b.2.1.getD a.toNat 0 != 0))=false/\True->b9 (a-1))/\(decide (0<a)=true/\(a==0&&(b.1.getD a.toNat 0 != -1||b.2.1.getD a.toNat 0 != 0))=false/\True->(o6 (b.1.getD a.toNat 0) 0 (a-1)).isSome)/\True) <|
   if(a==0&&(b.1.getD a.toNat 0 != -1||b.2.1.getD a.toNat 0 != 0)||decide (0<a)&&!vl (o6 (b.1.getD a.toNat 0) 0 (a-1))) then
    some false
   else
    gd (b9 (a+1)/\True) <|
    c (a+1)
 else
  OE b ()
def KO(a:C3)(b:Int):Option Bool :=
 if(decide ((a.1.length:Int)<1)||decide (8 < (a.1.length:Int))||(a.2.1.length:Int) != (a.1.length:Int)||(a.2.2.1.length:Int) != (a.1.length:Int)||(a.2.2.2.length:Int) != b) then
  some false
 else
  lp (Yp a) 0
def S0w:Ct:=c7 139 [.agg y172,.dat i64] (fun x=>KO x.1 x.2.1) (fun r:Bool=>B r) (fun _=>())
theorem P0w:Ok prog S0w:=by
 refine c8 [.tmp 4] func139 ?_;intro y ⟨a,_,_⟩ r H Q hn hr;have:=hz (tc Bd tn);refine iA [1,2]<|iA [1,2,5]<|vQ<|iA [2,5,37]<|cD H (fun H=>iA [4]<|a8<|fR<|hr H) fun H=>vK<|fQ<|jN r (fun(_:Unit)=>Z [p 2 (R 2),p 5 (I (a.1.length:Int))] [(2,K 172 y172 a)]) (OE a) (fun _ H=>?_) (fun _ h o b=>?_)
 ·refine jN r (fun(_:Unit)=>Z [] []) (Yn) (fun _ H=>?_) (fun _ g s m=>?_)
  ·refine iA [4]<|a8<|hr H
  refine iA [2,5,7]<|vB<|lX (fun(d:Int)=>Z [p 2 (R 2),p 5 (I (a.1.length:Int)),p 7 (I d)] [(2,K 172 y172 a)]) 0 H fun _ q l i k d H=>vQ<|iA [2,5,7,96]<|cD H (fun H=>?_) (fun H=>?_)
  ·refine vK<|fQ<|vQ<|vB<|iB [2,5,7,107] H fun H=>cD H (fun H=>iA [4]<|a8<|j0<|fR<|k<|j0<|m<|hr H) fun H=>vK<|fK<|fQ<|jB [2,5,7] H fun H=>l H
  exact vE<|fE<|i<|fX rfl<|g H
 refine iA [2,5,6]<|vB<|lX (fun(c:Int)=>Z [p 2 (R 2),p 5 (I (a.1.length:Int)),p 6 (I c)] [(2,K 172 y172 a)]) 0 H fun _ n j f e c H=>vQ<|iA [2,5,6,40]<|cD H (fun H=>?_) (fun H=>?_)
 ·refine vK<|fQ<|vQ<|vB<|vQ<|iB [2,5,6,58] H fun H=>cD H (fun H=>iA [4]<|a8<|fR<|j0<|fR<|e<|j0<|b<|hr H) fun H=>vK<|fQ<|iB [2,5,6,91] H fun H=>cD H (fun H=>iA [4]<|a8<|j0<|fR<|e<|j0<|b<|hr H) fun H=>vK<|fK<|fQ<|jB [2,5,6] H fun H=>j H
 exact vE<|fE<|f<|fX rfl<|h H
def OF(a:ByteArray):Unit->Option Bool
 | _ =>
 some (decide (1<=(a.size:Int))&&decide ((a.size:Int)<=8))
def Yq(b:ByteArray)(c:Int->Option Bool):Int->Option Bool
 | a =>
 if(decide (a < (b.size:Int))) then
  gd (ix a b.size/\(decide (97<=F8 b a.toNat)=true/\True->ix a b.size)/\True) <|
  gd (ix a b.size/\(decide (48<=F8 b a.toNat)=true/\True->ix a b.size)/\True) <|
  if(!(decide (97<=F8 b a.toNat)&&decide (F8 b a.toNat<=122))&&!(decide (48<=F8 b a.toNat)&&decide (F8 b a.toNat<=57)&&decide (0<a))) then
   some false
  else
   gd (b9 (a+1)/\True) <|
   c (a+1)
 else
  OF b ()
def Z9(a:ByteArray):Option Bool :=
 lp (Yq a) 0
def S0v:Ct:=c7 140 [.dat Ty.str] (fun x=>Z9 x.1) (fun r:Bool=>B r) (fun _=>())
theorem OG:Ok prog S0v:=by
 refine c8 [.tmp 2] func140 ?_;intro y ⟨a,_⟩ r H Q hn hr;refine iA [0]<|jN r (fun(_:Unit)=>Z [p 0 (U a)] []) (OF a) (fun _ H=>?_) (fun _ e i d=>?_)
 ·refine iA [2]<|a8<|hr H
 refine iA [0,3]<|vB<|lX (fun(b:Int)=>Z [p 0 (U a),p 3 (I b)] []) 0 H fun _ h f c g b H=>vQ<|iA [0,3,9]<|cD H (fun H=>?_) (fun H=>?_)
 ·refine vK<|fQ<|vQ<|vB<|iB [0,3,4] H fun H=>iB [0,3,4,5] H fun H=>iA [0,3,41]<|cD H (fun H=>iA [2]<|a8<|j0<|fR<|g<|j0<|d<|hr H) fun H=>vK<|fK<|fQ<|jB [0,3] H fun H=>f H
 exact vE<|fE<|c<|fX rfl<|e H
def Yr:Unit->Option Bool
 | _ =>
 some true
def SC(a:Int)(b:Int->Option Bool):Unit->Option Bool
 | _ =>
 gd (b9 (a+1)/\True) <|
 b (a+1)
def Ys(b:List ByteArray)(c:Int)(d:Int->Option Bool)(e:Int->Option Bool):Int->Option Bool
 | a =>
 if(decide (a<c)) then
  gd (ix a b.length/\ix c b.length/\True) <|
  if(decide (b.getD a.toNat (a7 Ty.str)=b.getD c.toNat (a7 Ty.str))) then
   some false
  else
   gd (b9 (a+1)/\True) <|
   e (a+1)
 else
  SC c d ()
def Yt(b:List ByteArray)(c:Int->Option Bool):Int->Option Bool
 | a =>
 if(decide (a < (b.length:Int))) then
  gd (ix a b.length/\(Z9 (b.getD a.toNat (a7 Ty.str))).isSome/\True) <|
  if(!vl (Z9 (b.getD a.toNat (a7 Ty.str)))) then
   some false
  else
   lp (Ys b a c) 0
 else
  Yr ()
def BR(a:List ByteArray):Option Bool :=
 lp (Yt a) 0
def R0H:Ct:=c7 186 [.dat Ty.str.sl] (fun x=>BR x.1) (fun r:Bool=>B r) (fun _=>())
theorem P0d:Ok prog R0H:=by
 refine c8 [.tmp 2] func186 ?_;intro y ⟨b,_⟩ r H Q hn hr;have:=hz (tc OG tn);refine iA [0]<|jN r (fun(_:Unit)=>Z [] []) (Yr) (fun _ H=>?_) (fun _ j o c=>?_)
 ·refine iA [2]<|a8<|hr H
 refine iA [0,3]<|vB<|lX (fun(a:Int)=>Z [p 0 (L Ty.str b),p 3 (I a)] []) 0 H fun _ g l h d a H=>vQ<|iA [0,3,8]<|cD H (fun H=>?_) (fun H=>?_)
 ·refine vK<|fQ<|jN r (fun(_:Unit)=>Z [p 0 (L Ty.str b),p 3 (I a)] []) (SC a g) (fun _ H=>?_) (fun _ i s f=>?_)
  ·refine jB [0,3] H fun H=>l H
  refine vB<|vQ<|iB [0,3,16] H fun H=>cD H (fun H=>iA [2]<|a8<|fR<|j0<|f<|d<|j0<|c<|hr H) fun H=>vK<|fQ<|iA [0,3,4]<|vB<|lX (fun(e:Int)=>Z [p 0 (L Ty.str b),p 3 (I a),p 4 (I e)] []) 0 H fun _ q n k m e H=>vQ<|iA [0,3,4,19]<|cD H (fun H=>?_) (fun H=>?_)
  ·refine vK<|fQ<|vQ<|vB<|iB [0,3,4,30] H fun H=>cD H (fun H=>iA [2]<|a8<|j0<|fR<|m<|j0<|j0<|f<|d<|j0<|c<|hr H) fun H=>vK<|fK<|fQ<|jB [0,3,4] H fun H=>n H
  exact vE<|fE<|k<|fX rfl<|fK<|i H
 exact vE<|fE<|h<|fX rfl<|j H
def Yu:Unit->Option Bool
 | _ =>
 some true
def Yv(a:p9)(c:Int->Option Bool):Int->Option Bool
 | b =>
 if(decide (b < (a.2.2.length:Int))) then
  gd (ix b a.2.2.length/\(o6 (a.2.2.getD b.toNat (a7 y231)).2.1 1 2).isSome/\((!vl (o6 (a.2.2.getD b.toNat (a7 y231)).2.1 1 2))=false/\True->ix b a.2.2.length)/\((!vl (o6 (a.2.2.getD b.toNat (a7 y231)).2.1 1 2))=false/\True->b9 ((a.2.1.length:Int)-1))/\((!vl (o6 (a.2.2.getD b.toNat (a7 y231)).2.1 1 2))=false/\True->(o6 (a.2.2.getD b.toNat (a7 y231)).2.2 0 ((a.2.1.length:Int)-1)).isSome)/\True) <|
  if(!vl (o6 (a.2.2.getD b.toNat (a7 y231)).2.1 1 2)||!vl (o6 (a.2.2.getD b.toNat (a7 y231)).2.2 0 ((a.2.1.length:Int)-1))) then
   some false
  else
   gd (b9 (b+1)/\True) <|
   c (b+1)
 else
  Yu ()
def OH(a:p9):Unit->Option Bool
 | _ =>
 lp (Yv a) 0
def Yw(a:Int)(b:Int->Option Bool):Unit->Option Bool
 | _ =>
 gd (b9 (a+1)/\True) <|
 b (a+1)
def Yx(b:F7)(c:p9)(f:Int)(d:Int->Option Bool)(e:Int->Option Bool):Int->Option Bool
 | a =>
 if(decide (a < (b.2.2.length:Int))) then
  gd (ix a b.2.2.length/\b9 ((c.2.1.length:Int)-1)/\(o6 (b.2.2.getD a.toNat 0) 0 ((c.2.1.length:Int)-1)).isSome/\True) <|
  if(!vl (o6 (b.2.2.getD a.toNat 0) 0 ((c.2.1.length:Int)-1))) then
   some false
  else
   gd (b9 (a+1)/\True) <|
   e (a+1)
 else
  Yw f d ()
def Yy(c:p9)(b:List l6)(e:Int->Option Bool):Int->Option Bool
 | d =>
 if(decide (d < (c.1.length:Int))) then
  gd (ix d c.1.length/\True)<|lt (c.1.getD d.toNat (a7 y155)) fun a =>
  gd (b9 ((b.length:Int)-1)/\(o6 a.2.1 0 ((b.length:Int)-1)).isSome/\((!vl (o6 a.2.1 0 ((b.length:Int)-1)))=false/\True->ix a.2.1 b.length)/\True) <|
  if(!vl (o6 a.2.1 0 ((b.length:Int)-1))||(a.2.2.length:Int) != (↑(b.getD a.2.1.toNat (a7 y153)).2.2.1.length:Int)) then
   some false
  else
   lp (Yx a c d e) 0
 else
  OH c ()
def OI(b:List l6)(a:p9):Option Bool :=
 lp (Yy a b) 0
def R0I:Ct:=c7 185 [.agg y153.sl,.agg y53] (fun x=>OI x.1 x.2.1) (fun r:Bool=>B r) (fun _=>())
theorem P0e:Ok prog R0I:=by
 refine c8 [.tmp 4] func185 ?_;intro y ⟨c,a,_⟩ r H Q hn hr;have:=hz (tc Bd tn);refine iA [2,3]<|iA [2,3,5]<|jN r (fun(_:Unit)=>Z [p 3 (R 3),p 5 (I (a.2.1.length:Int))] [(3,K 53 y53 a)]) (OH a) (fun _ H=>?_) (fun _ j z f=>?_)
 ·refine jN r (fun(_:Unit)=>Z [] []) (Yu) (fun _ H=>?_) (fun _ l P q=>?_)
  ·refine iA [4]<|a8<|hr H
  refine iA [3,5,9]<|vB<|lX (fun(i:Int)=>Z [p 3 (R 3),p 5 (I (a.2.1.length:Int)),p 9 (I i)] [(3,K 53 y53 a)]) 0 H fun _ G m n k i H=>vQ<|iA [3,5,9,67]<|cD H (fun H=>?_) (fun H=>?_)
  ·refine vK<|fQ<|vQ<|vB<|iB [3,5,9,89] H fun H=>cD H (fun H=>iA [4]<|a8<|j0<|fR<|k<|j0<|q<|hr H) fun H=>vK<|fK<|fQ<|jB [3,5,9] H fun H=>m H
  exact vE<|fE<|n<|fX rfl<|l H
 refine iA [2,3,5,6]<|vB<|lX (fun(b:Int)=>Z (AW [p 5 (I (a.2.1.length:Int)),p 6 (I b)]) (Gp a c)) 0 H fun _ s x v e b H=>vQ<|iA [2,3,5,6,17]<|cD H (fun H=>?_) (fun H=>?_)
 ·refine vK<|fQ<|jN r (fun(_:Unit)=>Z (AW [p 5 (I (a.2.1.length:Int)),p 6 (I b)]) (Gp a c)) (Yw b s) (fun _ H=>?_) (fun _ t F h=>?_)
  ·refine jB [2,3,5,6] H fun H=>x H
  refine vB<|qD (fun d=>Z (AW [p 5 (I (a.2.1.length:Int)),p 6 (I b),p 7 (R 7)]) ((7,K 155 y155 d)::Gp a c)) H fun d H=>vQ<|iB [2,3,5,6,7,46] H fun H=>cD H (fun H=>iA [4]<|a8<|fR<|j0<|h<|e<|j0<|f<|hr H) fun H=>vK<|fQ<|iA [2,3,5,6,7,8]<|vB<|lX (fun(g:Int)=>Z (AW [p 5 (I (a.2.1.length:Int)),p 6 (I b),p 7 (R 7),p 8 (I g)]) ((7,K 155 y155 d)::Gp a c)) 0 H fun _ E o w u g H=>vQ<|iA [2,3,5,6,7,8,51]<|cD H (fun H=>?_) (fun H=>?_)
  ·refine vK<|fQ<|vQ<|vB<|iB [2,3,5,6,7,8,62] H fun H=>cD H (fun H=>iA [4]<|a8<|j0<|fR<|u<|j0<|j0<|h<|e<|j0<|f<|hr H) fun H=>vK<|fK<|fQ<|jB [2,3,5,6,7,8] H fun H=>o H
  exact vE<|fE<|w<|fX rfl<|fK<|t H
 exact vE<|fE<|v<|fX rfl<|j H
def Yz:List Int->Option (List Int)
 | a =>
 some a
def YA(b:l6)(d:Int×List Int->Option (List Int)):Int×List Int->Option (List Int)
 | (a,c) =>
 if(decide (a < (b.2.2.2.1.length:Int))) then
  gd (ix a b.2.2.2.1.length/\ix (b.2.2.2.1.getD a.toNat (a7 y158)).1 c.length/\(b.2.2.2.1.getD a.toNat (a7 y158)).1.toNat<c.length/\b9 (c.getD (b.2.2.2.1.getD a.toNat (a7 y158)).1.toNat 0+1)/\ix (b.2.2.2.1.getD a.toNat (a7 y158)).1 c.length/\(b.2.2.2.1.getD a.toNat (a7 y158)).1.toNat<c.length/\True)<|lt (c.set (b.2.2.2.1.getD a.toNat (a7 y158)).1.toNat (c.getD (b.2.2.2.1.getD a.toNat (a7 y158)).1.toNat 0+1)) fun e =>
  gd (b9 (a+1)/\True) <|
  d (a+1,e)
 else
  Yz c
def KP(a:l6):Option (List Int) :=
 gd (((0:Int)<=(6:Int)/\(6:Int)=(6:Int)/\Int.toNat (6:Int)*8<=281474976710656/\(6:Int)<=(9223372036854775807:Int))/\True) <|
 lp (YA a) ((0,List.replicate (Int.toNat (6:Int)) (0:Int)))
def Q0G:Ct:=c7 254 [.agg y153] (fun x=>KP x.1) (fun r:List Int=>AV.ow 2 true i64 r) (fun _=>())
theorem YB:Ok prog Q0G:=by
 refine c8 [.tmp 2] func254 ?_;intro y ⟨b,_⟩ r H Q hn hr;refine iA [1]<|iB [1,3] H fun H=>jN r (fun(d:List Int)=>Z [p 3 (O 5)] [(5,A 2 i64 d 0)]) (Yz) (fun d H=>?_) (fun _ g l j=>?_)
 ·refine iA [2]<|a8<|hr H
 refine iA [1,3,4]<|vB<|lX (fun((a,e):Int×List Int)=>Z [p 1 (R 1),p 3 (O 5),p 4 (I a)] [(5,A 2 i64 e 0),(1,K 153 y153 b)]) ((0,List.replicate (Int.toNat (6:Int)) (0:Int))) H fun _ i h f k ⟨a,e⟩ H=>vQ<|iA [1,3,4,10]<|cD H (fun H=>vK<|fQ<|vQ<|vB<|zD (fun c=>Z [p 1 (R 1),p 3 (O 5),p 4 (I a)] [(5,A 2 i64 c 0),(1,K 153 y153 b)]) H fun c H=>fK<|fQ<|jB [1,3,4] H fun H=>h H) fun H=>vE<|fE<|f<|fX rfl<|g H
def OJ(a:List Int):Unit->Option Bool
 | _ =>
 some (decide (1<=(a.length:Int))&&decide ((a.length:Int)<=4))
def YC(b:List Int)(c:Int->Option Bool):Int->Option Bool
 | a =>
 if(decide (a < (b.length:Int))) then
  gd (ix a b.length/\(o6 (b.getD a.toNat 0) 0 100000).isSome/\(decide (0<a)=true/\(!vl (o6 (b.getD a.toNat 0) 0 100000))=false/\True->b9 (a-1))/\(decide (0<a)=true/\(!vl (o6 (b.getD a.toNat 0) 0 100000))=false/\True->ix (a-1) b.length)/\(decide (0<a)=true/\(!vl (o6 (b.getD a.toNat 0) 0 100000))=false/\True->ix a b.length)/\True) <|
  if(!vl (o6 (b.getD a.toNat 0) 0 100000)||decide (0<a)&&decide (b.getD a.toNat 0<=b.getD (a-1).toNat 0)) then
   some false
  else
   gd (b9 (a+1)/\True) <|
   c (a+1)
 else
  OJ b ()
def Du(a:List Int):Option Bool :=
 lp (YC a) 0
def P0Y:Ct:=c7 303 [.dat i64.sl] (fun x=>Du x.1) (fun r:Bool=>B r) (fun _=>())
theorem O0o:Ok prog P0Y:=by
 refine c8 [.tmp 2] func303 ?_;intro y ⟨a,_⟩ r H Q hn hr;have:=hz (tc Bd tn);refine iA [0]<|jN r (fun(_:Unit)=>Z [p 0 (L i64 a)] []) (OJ a) (fun _ H=>?_) (fun _ e i d=>?_)
 ·refine iA [2]<|a8<|hr H
 refine iA [0,3]<|vB<|lX (fun(b:Int)=>Z [p 0 (L i64 a),p 3 (I b)] []) 0 H fun _ h f c g b H=>vQ<|iA [0,3,7]<|cD H (fun H=>?_) (fun H=>?_)
 ·refine vK<|fQ<|vQ<|vB<|iB [0,3,31] H fun H=>cD H (fun H=>iA [2]<|a8<|j0<|fR<|g<|j0<|d<|hr H) fun H=>vK<|fK<|fQ<|jB [0,3] H fun H=>f H
 exact vE<|fE<|c<|fX rfl<|e H
def YD:Unit->Option Bool
 | _ =>
 some true
def YE(b:o5)(c:Int->Option Bool):Int->Option Bool
 | a =>
 if(decide (a < (b.2.2.length:Int))) then
  gd (ix a b.2.2.length/\(o6 (b.2.2.getD a.toNat 0) (-1000000) 1000000).isSome/\True) <|
  if(!vl (o6 (b.2.2.getD a.toNat 0) (-1000000) 1000000)) then
   some false
  else
   gd (b9 (a+1)/\True) <|
   c (a+1)
 else
  YD ()
def KQ(a:o5):Option Bool :=
 gd ((Du a.1).isSome/\((!vl (Du a.1))=false/\True->(Du a.2.1).isSome)/\((!vl (Du a.1)||!vl (Du a.2.1))=false/\True->b9 ((a.1.length:Int)*(a.2.1.length:Int)))/\True) <|
 if(!vl (Du a.1)||!vl (Du a.2.1)||(a.2.2.length:Int) != (a.1.length:Int)*(a.2.1.length:Int)) then
  some false
 else
  lp (YE a) 0
def Q0d:Ct:=c7 296 [.agg y269] (fun x=>KQ x.1) (fun r:Bool=>B r) (fun _=>())
theorem O0q:Ok prog Q0d:=by
 refine c8 [.tmp 2] func296 ?_;intro y ⟨e,_⟩ r H Q hn hr;have:=hz (tc Bd (tc O0o tn));refine iA [1]<|vQ<|iB [1,26] H fun H=>cD H (fun H=>iA [2]<|a8<|fR<|hr H) fun H=>vK<|fQ<|jN r (fun(_:Unit)=>Z [] []) (YD) (fun _ H=>?_) (fun _ d i c=>?_)
 ·refine iA [2]<|a8<|hr H
 refine iA [1,3]<|vB<|lX (fun(a:Int)=>Z (G6 a []) [(1,K 269 y269 e)]) 0 H fun _ h f b g a H=>vQ<|iA [1,3,31]<|cD H (fun H=>?_) (fun H=>?_)
 ·refine vK<|fQ<|vQ<|vB<|iB [1,3,40] H fun H=>cD H (fun H=>iA [2]<|a8<|j0<|fR<|g<|j0<|c<|hr H) fun H=>vK<|fK<|fQ<|jB [1,3] H fun H=>f H
 exact vE<|fE<|b<|fX rfl<|d H
def YF:Int×Int->Option (B0×Int)
 | (a,b) =>
 some (((a,b),(0:Int)))
def SD(b:o5)(e:Int×Int×Int->Option (B0×Int)):Int×Int×Int->Option (B0×Int)
 | (a,c,d) =>
 if(decide (a < (b.2.2.length:Int))) then
  gd (ix a b.2.2.length/\True) <|
  gd (ix a b.2.2.length/\True) <|
  gd (b9 (a+1)/\True) <|
  e ((a+1,min c (b.2.2.getD a.toNat 0),max d (b.2.2.getD a.toNat 0)))
 else
  YF (c,d)
def KS(a:o5):Option (B0×Int) :=
 gd ((KQ a).isSome/\True) <|
 if(!vl (KQ a)) then
  some ((((0:Int),(0:Int)),(1:Int)))
 else
  gd (ix 0 a.2.2.length/\ix 0 a.2.2.length/\True) <|
  lp (SD a) ((1,a.2.2.getD (Int.toNat (0:Int)) (0:Int),a.2.2.getD (Int.toNat (0:Int)) (0:Int)))
def Q0k:Ct:=c7 285 [.agg y269] (fun x=>KS x.1) (fun r:B0×Int=>AV.tup [AV.agg [I r.1.1,I r.1.2],I r.2]) (fun _=>())
theorem YG:Ok prog Q0k:=by
 refine c8 [.cell 2 73,.tmp 3] func285 ?_;intro y ⟨a,_⟩ r H Q hn hr;have:=hz (tc O0q tn);refine iA [1,2]<|vQ<|iB [1,2,8] H fun H=>cD H (fun H=>iA [2,3]<|a8<|fR<|hr H) fun H=>vK<|fQ<|iB [1,2,4] H fun H=>jN r (fun((b,c):Int×Int)=>Z [p 2 (R 2),p 4 (R 4)] [(4,bx 73 [J b,J c]),(2,bx 73 [I 0,I 0])]) (YF) (fun⟨b,c⟩ H=>?_) (fun _ h m k=>?_)
 ·refine iA [2,3]<|a8<|hr H
 refine iA [1,2,4,5]<|vB<|lX (fun((f,d,e):Int×Int×Int)=>Z [p 1 (R 1),p 2 (R 2),p 4 (R 4),p 5 (I f)] [(4,bx 73 [J d,J e]),(2,bx 73 [I 0,I 0]),(1,K 269 y269 a)]) ((1,a.2.2.getD (Int.toNat (0:Int)) (0:Int),a.2.2.getD (Int.toNat (0:Int)) (0:Int))) H fun _ j i g l ⟨f,d,e⟩ H=>vQ<|iA [1,2,4,5,23]<|cD H (fun H=>vK<|fQ<|vQ<|vB<|iB [1,2,4,5] H fun H=>jB [1,2,4,5] H fun H=>fK<|fQ<|jB [1,2,4,5] H fun H=>i H) fun H=>vE<|fE<|g<|fX rfl<|h H
def YH:Unit->Option Bool
 | _ =>
 some true
def SE(e:Bool)(b:List o5)(d:Int->Option Bool):Int->Option Bool
 | a =>
 if(decide (a<2)) then
  gd (ix a b.length/\(KS (b.getD a.toNat (a7 y269))).isSome/\True)<|lt (vl (KS (b.getD a.toNat (a7 y269)))) fun c =>
  if(c.2 != 0||e&&decide (c.1.1<0)) then
   some false
  else
   gd (b9 (a+1)/\True) <|
   d (a+1)
 else
  YH ()
def X7(a:List o5)(b:Bool):Option Bool :=
 if((a.length:Int) != 2) then
  some false
 else
  lp (SE b a) 0
def Q0v:Ct:=c7 270 [.dat y269.sl,.dat Ty.bool] (fun x=>X7 x.1 x.2.1) (fun r:Bool=>B r) (fun _=>())
theorem O0B:Ok prog Q0v:=by
 refine c8 [.tmp 4] func270 ?_;intro y ⟨e,f,_⟩ r H Q hn hr;have:=hz (tc YG tn);refine iA [0,1]<|vQ<|iA [0,1,10]<|cD H (fun H=>iA [4]<|a8<|fR<|hr H) fun H=>vK<|fQ<|jN r (fun(_:Unit)=>Z [] []) (YH) (fun _ H=>?_) (fun _ d j c=>?_)
 ·refine iA [4]<|a8<|hr H
 refine iA [0,1,5]<|vB<|lX (fun(a:Int)=>Z [p 0 (L y269 e),p 1 (C f),p 5 (I a)] []) 0 H fun _ i g b h a H=>vQ<|iA [0,1,5,12]<|cD H (fun H=>?_) (fun H=>?_)
 ·refine vK<|fQ<|vQ<|vB<|iD YG [0,1,5,6,7] H fun _ H=>iA [0,1,5,32]<|cD H (fun H=>iA [4]<|a8<|j0<|fR<|h<|j0<|c<|hr H) fun H=>vK<|fK<|fQ<|jB [0,1,5] H fun H=>g H
 exact vE<|fE<|b<|fX rfl<|d H
def KT(c:F3)(a:A6)(b:l6):Bool->Option Bool
 | d =>
 if d then
  gd (((c.2.2.2&&decide (a.2.2.1 < (b.2.2.1.length:Int)-1))=true/\True->ix a.2.2.1 b.2.2.1.length)/\((c.2.2.2&&decide (a.2.2.1 < (b.2.2.1.length:Int)-1)&&!(b.2.2.1.getD a.2.2.1.toNat (a7 y293)).2.2.2&&a.2.2.2.1==0)=true/\True->(X7 a.2.2.2.2.1 false).isSome)/\True) <|
  some (c.2.2.2&&decide (a.2.2.1 < (b.2.2.1.length:Int)-1)&&!(b.2.2.1.getD a.2.2.1.toNat (a7 y293)).2.2.2&&a.2.2.2.1==0&&vl (X7 a.2.2.2.2.1 false)&&(a.2.2.2.2.2.length:Int)==0)
 else
  some false
def KU(b:F3)(a:A6)(c:l6):Bool->Option Bool
 | d =>
 if d then
  gd (((b.2.2.2&&a.2.2.1==(c.2.2.1.length:Int)-1&&a.2.2.2.1==0)=true/\True->(X7 a.2.2.2.2.1 true).isSome)/\((b.2.2.2&&a.2.2.1==(c.2.2.1.length:Int)-1&&a.2.2.2.1==0&&vl (X7 a.2.2.2.2.1 true))=true/\True->(X7 a.2.2.2.2.2 true).isSome)/\True) <|
  some (b.2.2.2&&a.2.2.1==(c.2.2.1.length:Int)-1&&a.2.2.2.1==0&&vl (X7 a.2.2.2.2.1 true)&&vl (X7 a.2.2.2.2.2 true))
 else
  if(a.1==4) then
   KT b a c (a.1==4)
  else
   KT b a c (a.1==5)
def KV(b:l6)(a:A6):Option Bool :=
 gd (b9 ((b.2.2.1.length:Int)-1)/\True) <|
 gd (b9 ((b.2.2.1.length:Int)-1-1)/\(o6 a.2.1 0 ((b.2.2.1.length:Int)-1-1)).isSome/\((!vl (o6 a.2.1 0 ((b.2.2.1.length:Int)-1-1)))=false/\True->(o6 a.2.2.1 0 ((b.2.2.1.length:Int)-1)).isSome)/\True) <|
 if(!vl (o6 a.2.1 0 ((b.2.2.1.length:Int)-1-1))||!vl (o6 a.2.2.1 0 ((b.2.2.1.length:Int)-1))) then
  some false
 else
  gd (ix a.2.1 b.2.2.1.length/\True)<|lt (b.2.2.1.getD a.2.1.toNat (a7 y293)) fun c =>
  if(a.1==1) then
   gd (((!c.2.2.2&&a.2.2.1==(b.2.2.1.length:Int)-1)=true/\True->(o6 a.2.2.2.1 1 3).isSome)/\((!c.2.2.2&&a.2.2.1==(b.2.2.1.length:Int)-1&&vl (o6 a.2.2.2.1 1 3))=true/\True->(X7 a.2.2.2.2.1 true).isSome)/\((!c.2.2.2&&a.2.2.1==(b.2.2.1.length:Int)-1&&vl (o6 a.2.2.2.1 1 3)&&vl (X7 a.2.2.2.2.1 true))=true/\True->(X7 a.2.2.2.2.2 true).isSome)/\True) <|
   some (!c.2.2.2&&a.2.2.1==(b.2.2.1.length:Int)-1&&vl (o6 a.2.2.2.1 1 3)&&vl (X7 a.2.2.2.2.1 true)&&vl (X7 a.2.2.2.2.2 true))
  else
   if(a.1==2) then
    KU c a b (a.1==2)
   else
    KU c a b (a.1==3)
def Q0H:Ct:=c7 253 [.agg y153,.agg y158] (fun x=>KV x.1 x.2.1) (fun r:Bool=>B r) (fun _=>())
theorem O0I:Ok prog Q0H:=by
 refine c8 [.tmp 4] func253 ?_;intro y ⟨a,c,_⟩ r H Q hn hr;have:=hz (tc O0B (tc Bd tn));refine iA [2,3]<|iB [2,3,5] H fun H=>vQ<|iB [2,3,5,23] H fun H=>cD H (fun H=>iA [4]<|a8<|fR<|hr H) fun H=>vK<|fQ<|qD (fun b=>Z (AW [p 5 (I ((a.2.2.1.length:Int)-1)),p 6 (C b.2.2.2)]) [(3,K 158 y158 c),(2,K 153 y153 a)]) H fun b H=>vQ<|iA [2,3,5,6,32]<|vB<|iA [2,3,5,6,32,33]<|cD H (fun H=>iB [4] H fun H=>a8<|j0<|fR<|hr H) fun H=>jN r (fun(f:Bool)=>Z (AW [p 5 (I ((a.2.2.1.length:Int)-1)),p 6 (C b.2.2.2),p 32 (J c.1),p 58 (B f)]) [(3,K 158 y158 c),(2,K 153 y153 a)]) (KU b c a) (fun f H=>?_) (fun _ e k i=>?_)
 ·refine cD H (fun H=>iB [4] H fun H=>a8<|j0<|fR<|hr H) fun H=>jN r (fun(g:Bool)=>Z (AW [p 5 (I ((a.2.2.1.length:Int)-1)),p 6 (C b.2.2.2),p 83 (B g)]) [(3,K 158 y158 c),(2,K 153 y153 a)]) (KT b c a) (fun g H=>?_) (fun _ d h j=>?_)
  ·refine cD H (fun H=>iB [4] H fun H=>a8<|j0<|fR<|hr H) fun H=>vK<|fK<|fQ<|iA [4]<|a8<|hr H
  refine iA [2,3,5,6,32,83]<|cD H (fun H=>vK<|d H) fun H=>jA [2,3,5,6,83]<|d H
 refine iA [2,3,5,6,32,58]<|cD H (fun H=>vK<|e H) fun H=>jA [2,3,5,6,32,58]<|e H
def SF:Int->Option (Int×Bool)
 | a =>
 some (a,true)
def OK(a:Int)(b:Int×Int->Option (Int×Bool)):Int->Option (Int×Bool)
 | c =>
 gd (b9 (a+1)/\True) <|
 b (c,a+1)
def OL(c:Int)(d:Int)(a:F3)(b:l6)(e:Int×Int->Option (Int×Bool)):Unit->Option (Int×Bool)
 | _ =>
 gd ((Z9 a.1).isSome/\((!vl (Z9 a.1))=false/\True->(o6 a.2.2.1 0 500).isSome)/\True) <|
 if(!vl (Z9 a.1)||!vl (o6 a.2.2.1 0 500)) then
  some (((0:Int),false))
 else
  gd (b9 ((b.2.2.1.length:Int)-1)/\((c==(b.2.2.1.length:Int)-1&&(a.2.1 != 2||a.2.2.1 != 0||a.2.2.2))=false/\True->b9 ((b.2.2.1.length:Int)-1))/\True) <|
  if(c==(b.2.2.1.length:Int)-1&&(a.2.1 != 2||a.2.2.1 != 0||a.2.2.2)||decide (c < (b.2.2.1.length:Int)-1)&&a.2.1 != 1) then
   some (((0:Int),false))
  else
   if a.2.2.2 then
    gd (b9 (d+1)/\True) <|
    OK c e (d+1)
   else
    OK c e d
def YI(b:l6)(c:F3)(d:Int)(f:Int)(e:Int×Int->Option (Int×Bool))(g:Int->Option (Int×Bool)):Int->Option (Int×Bool)
 | a =>
 if(decide (a<d)) then
  gd (ix a b.2.2.1.length/\True) <|
  if(decide ((b.2.2.1.getD a.toNat (a7 y293)).1=c.1)) then
   some (((0:Int),false))
  else
   gd (b9 (a+1)/\True) <|
   g (a+1)
 else
  OL d f c b e ()
def YJ(a:l6)(d:Int×Int->Option (Int×Bool)):Int×Int->Option (Int×Bool)
 | (c,b) =>
 if(decide (b < (a.2.2.1.length:Int))) then
  gd (ix b a.2.2.1.length/\True)<|lt (a.2.2.1.getD b.toNat (a7 y293)) fun e =>
  lp (YI a e b c d) 0
 else
  SF c
def KX(a:l6):Option (Int×Bool) :=
 if(decide ((a.2.2.1.length:Int)<2)||decide (5 < (a.2.2.1.length:Int))) then
  some (((0:Int),false))
 else
  lp (YJ a) (0,0)
def Q0I:Ct:=c7 252 [.agg y153] (fun x=>KX x.1) (fun r:Int×Bool=>AV.tup [I r.1,B r.2]) (fun _=>())
theorem YK:Ok prog Q0I:=by
 refine c8 [.tmp 2,.tmp 3] func252 ?_;intro y ⟨a,_⟩ r H Q hn hr;have:=hz (tc Bd (tc OG tn));refine iA [1]<|iA [1,4]<|vQ<|iA [1,4,17]<|cD H (fun H=>iA [2,3]<|a8<|fR<|hr H) fun H=>vK<|fQ<|iA [1,4,5]<|jN r (fun(l:Int)=>Z [p 5 (I l)] []) (SF) (fun l H=>?_) (fun _ m v f=>?_)
 ·refine iA [2,3]<|a8<|hr H
 refine iA [1,4,5,6]<|vB<|lX (fun((c,b):Int×Int)=>Z [p 1 (R 1),p 4 (I (a.2.2.1.length:Int)),p 5 (I c),p 6 (I b)] [(1,K 153 y153 a)]) (0,0) H fun _ j t q e ⟨c,b⟩ H=>vQ<|iA [1,4,5,6,20]<|cD H (fun H=>?_) (fun H=>?_)
 ·refine vK<|fQ<|jN r (fun(h:Int)=>Z [p 1 (R 1),p 4 (I (a.2.2.1.length:Int)),p 5 (I h),p 6 (I b)] [(1,K 153 y153 a)]) (OK b j) (fun h H=>?_) (fun _ k w g=>?_)
  ·refine jB [1,4,5,6] H fun H=>t H
  refine vB<|qD (fun d=>Z [p 1 (R 1),p 4 (I (a.2.2.1.length:Int)),p 5 (I c),p 6 (I b),p 7 (R 7)] [(7,K 293 y293 d),(1,K 153 y153 a)]) H fun d H=>jN r (fun(_:Unit)=>Z [p 1 (R 1),p 4 (I (a.2.2.1.length:Int)),p 5 (I c),p 6 (I b),p 7 (R 7)] [(7,K 293 y293 d),(1,K 153 y153 a)]) (OL b c d a j) (fun _ H=>?_) (fun _ n3 z o=>?_)
  ·refine vQ<|iB [1,4,5,6,7,51] H fun H=>cD H (fun H=>iA [2,3]<|a8<|fR<|j0<|g<|e<|j0<|f<|hr H) fun H=>vK<|fQ<|vQ<|iB [1,4,5,6,7,80] H fun H=>cD H (fun H=>iA [2,3]<|a8<|fR<|j0<|g<|e<|j0<|f<|hr H) fun H=>vK<|fQ<|iA [1,4,5,6,82]<|cD H (fun H=>jB [1,4,5,6] H fun H=>fK<|k H) fun H=>vK<|fK<|k H
  refine iA [1,4,5,6,7,8]<|vB<|lX (fun(i:Int)=>Z [p 1 (R 1),p 4 (I (a.2.2.1.length:Int)),p 5 (I c),p 6 (I b),p 7 (R 7),p 8 (I i)] [(7,K 293 y293 d),(1,K 153 y153 a)]) 0 H fun _ x u s n i H=>vQ<|iA [1,4,5,6,7,8,30]<|cD H (fun H=>?_) (fun H=>?_)
  ·refine vK<|fQ<|vQ<|vB<|iB [1,4,5,6,7,8,41] H fun H=>cD H (fun H=>iA [2,3]<|a8<|j0<|fR<|n<|j0<|o<|j0<|g<|e<|j0<|f<|hr H) fun H=>vK<|fK<|fQ<|jB [1,4,5,6,7,8] H fun H=>u H
  exact vE<|fE<|s<|fX rfl<|n3 H
 exact vE<|fE<|q<|fX rfl<|m H
def YL:Unit->Option Bool
 | _ =>
 some false
def KY(b:Int×Bool)(a:l6):Unit->Option Bool
 | _ =>
 gd (((b.1==(0:Int))=true/\True->b9 ((a.2.2.1.length:Int)-(1:Int)))/\((b.1==(0:Int))=true/\True->(0:Int)<=(a.2.2.1.length:Int)-(1:Int)/\(a.2.2.1.length:Int)-(1:Int)<=(18446744073709551615:Int))/\((b.1==(0:Int))=true/\True->((0:Int)<=(a.2.2.1.length:Int)-(1:Int)/\(a.2.2.1.length:Int)-(1:Int)<=(62:Int))/\b9 ((1:Int)*(2:Int) ^ ((a.2.2.1.length:Int)-(1:Int)).toNat))/\True) <|
 some (b.1==(0:Int)&&(a.2.2.2.2.1.length:Int)==(1:Int)*(2:c9 i64) ^ ((a.2.2.1.length:Int)-(1:Int)).toNat)
def YM(b:l6)(c:Int×Bool)(d:Int->Option Bool):Int->Option Bool
 | a =>
 if(decide (a < (b.2.2.2.2.1.length:Int))) then
  gd (ix a b.2.2.2.2.1.length/\(o6 (b.2.2.2.2.1.getD a.toNat 0) 0 1).isSome/\True) <|
  if(!vl (o6 (b.2.2.2.2.1.getD a.toNat 0) 0 1)) then
   some false
  else
   gd (b9 (a+1)/\True) <|
   d (a+1)
 else
  KY c b ()
def OM(c:l6)(b:Int×Bool):Unit->Option Bool
 | _ =>
 gd ((KP c).isSome/\True)<|lt (vl (KP c)) fun a =>
 if(c.2.1==1) then
  lp (YM c b) 0
 else
  if(c.2.1==2) then
   gd (((b.1==(1:Int))=true/\True->ix (1:Int) a.length)/\((b.1==(1:Int))=true/\True->Int.toNat (1:Int)<a.length)/\((b.1==(1:Int)&&a.getD (Int.toNat (1:Int)) (0:Int)==(0:Int))=true/\True->ix (2:Int) a.length)/\((b.1==(1:Int)&&a.getD (Int.toNat (1:Int)) (0:Int)==(0:Int))=true/\True->Int.toNat (2:Int)<a.length)/\((b.1==(1:Int)&&a.getD (Int.toNat (1:Int)) (0:Int)==(0:Int))=true/\True->ix (3:Int) a.length)/\((b.1==(1:Int)&&a.getD (Int.toNat (1:Int)) (0:Int)==(0:Int))=true/\True->Int.toNat (3:Int)<a.length)/\True) <|
   some (b.1==(1:Int)&&a.getD (Int.toNat (1:Int)) (0:Int)==(0:Int)&&!decide ((0:Int)<a.getD (Int.toNat (2:Int)) (0:Int))==decide ((0:Int)<a.getD (Int.toNat (3:Int)) (0:Int))&&(c.2.2.2.2.1.length:Int)==(0:Int))
  else
   if(c.2.1==3) then
    gd (((b.1==(1:Int))=true/\True->ix (1:Int) a.length)/\((b.1==(1:Int))=true/\True->Int.toNat (1:Int)<a.length)/\((b.1==(1:Int)&&decide ((0:Int)<a.getD (Int.toNat (1:Int)) (0:Int)))=true/\True->ix (2:Int) a.length)/\((b.1==(1:Int)&&decide ((0:Int)<a.getD (Int.toNat (1:Int)) (0:Int)))=true/\True->Int.toNat (2:Int)<a.length)/\((b.1==(1:Int)&&decide ((0:Int)<a.getD (Int.toNat (1:Int)) (0:Int))&&decide ((0:Int)<a.getD (Int.toNat (2:Int)) (0:Int)))=true/\True->ix (3:Int) a.length)/\((b.1==(1:Int)&&decide ((0:Int)<a.getD (Int.toNat (1:Int)) (0:Int))&&decide ((0:Int)<a.getD (Int.toNat (2:Int)) (0:Int)))=true/\True->Int.toNat (3:Int)<a.length)/\True) <|
    some (b.1==(1:Int)&&decide ((0:Int)<a.getD (Int.toNat (1:Int)) (0:Int))&&decide ((0:Int)<a.getD (Int.toNat (2:Int)) (0:Int))&&a.getD (Int.toNat (3:Int)) (0:Int)==(0:Int)&&(c.2.2.2.2.1.length:Int)==(0:Int))
   else
    YL ()
def YN(a:Int)(b:Int->Option Bool):Unit->Option Bool
 | _ =>
 gd (b9 (a+1)/\True) <|
 b (a+1)
def YO(b:l6)(c:A6)(d:Int)(e:Int->Option Bool)(f:Int->Option Bool):Int->Option Bool
 | a =>
 if(decide (a<d)) then
  gd (ix a b.2.2.2.1.length/\(((b.2.2.2.1.getD a.toNat (a7 y158)).1==c.1)=true/\True->ix a b.2.2.2.1.length)/\(((b.2.2.2.1.getD a.toNat (a7 y158)).1==c.1&&(b.2.2.2.1.getD a.toNat (a7 y158)).2.1==c.2.1)=true/\True->ix a b.2.2.2.1.length)/\True) <|
  if((b.2.2.2.1.getD a.toNat (a7 y158)).1==c.1&&(b.2.2.2.1.getD a.toNat (a7 y158)).2.1==c.2.1&&(b.2.2.2.1.getD a.toNat (a7 y158)).2.2.1==c.2.2.1) then
   some false
  else
   gd (b9 (a+1)/\True) <|
   f (a+1)
 else
  YN d e ()
def YP(a:l6)(e:Int×Bool)(d:Int->Option Bool):Int->Option Bool
 | b =>
 if(decide (b < (a.2.2.2.1.length:Int))) then
  gd (ix b a.2.2.2.1.length/\True)<|lt (a.2.2.2.1.getD b.toNat (a7 y158)) fun c =>
  gd ((KV a c).isSome/\True) <|
  if(!vl (KV a c)) then
   some false
  else
   lp (YO a c b d) 0
 else
  OM a e ()
def KZ(a:l6):Option Bool :=
 gd ((KX a).isSome/\True)<|lt (vl (KX a)) fun b =>
 gd (((!b.2)=false/\True->(Z9 a.1).isSome)/\((!b.2||!vl (Z9 a.1)||decide (8 < (a.2.2.2.1.length:Int)))=false/\True->(o6 a.2.2.2.2.2.1 0 100000).isSome)/\((!b.2||!vl (Z9 a.1)||decide (8 < (a.2.2.2.1.length:Int))||!vl (o6 a.2.2.2.2.2.1 0 100000))=false/\True->(o6 a.2.2.2.2.2.2 0 100000).isSome)/\True) <|
 if(!b.2||!vl (Z9 a.1)||decide (8 < (a.2.2.2.1.length:Int))||!vl (o6 a.2.2.2.2.2.1 0 100000)||!vl (o6 a.2.2.2.2.2.2 0 100000)) then
  some false
 else
  lp (YP a b) 0
def Q0Z:Ct:=c7 225 [.agg y153] (fun x=>KZ x.1) (fun r:Bool=>B r) (fun _=>())
theorem O0Q:Ok prog Q0Z:=by
 refine c8 [.tmp 2] func225 ?_;intro y ⟨a,_⟩ r H Q hn hr;have:=hz (tc Bd (tc YB (tc O0I (tc OG (tc YK tn)))));refine iA [1]<|iD YK [1,3,4] H fun b H=>vQ<|iB [1,3,40] H fun H=>cD H (fun H=>iA [2]<|a8<|fR<|hr H) fun H=>vK<|fQ<|jN r (fun(_:Unit)=>Z (G6 b.1 []) [(1,K 153 y153 a)]) (OM a b) (fun _ H=>?_) (fun _ k F h=>?_)
 ·refine iD YB [1,3,8] H fun _ H=>jN r (fun(_:Unit)=>Z [] []) (YL) (fun _ H=>?_) (fun _ n W d=>?_)
  ·refine iA [2]<|a8<|hr H
  refine iA [1,3,8,96]<|vB<|iA [1,3,8,96,97]<|cD H (fun H=>?_) (fun H=>?_)
  ·refine jN r (fun(_:Unit)=>Z (G6 b.1 []) [(1,K 153 y153 a)]) (KY b a) (fun _ H=>?_) (fun _ v V l=>?_)
   ·refine iB [2] H fun H=>a8<|j0<|d<|hr H
   refine iA [1,3,9]<|vB<|lX (fun(f:Int)=>Z (G6 b.1 [p 9 (I f)]) [(1,K 153 y153 a)]) 0 H fun _ T x q m f H=>vQ<|iA [1,3,9,103]<|cD H (fun H=>?_) (fun H=>?_)
   ·refine vK<|fQ<|vQ<|vB<|iB [1,3,9,112] H fun H=>cD H (fun H=>iA [2]<|a8<|j0<|fR<|m<|j0<|l<|j0<|d<|hr H) fun H=>vK<|fK<|fQ<|jB [1,3,9] H fun H=>x H
   exact vE<|fE<|q<|fX rfl<|v H
  refine iA [1,3,8,96,127]<|cD H (fun H=>iB [2] H fun H=>a8<|j0<|d<|hr H) fun H=>iA [1,3,8,154]<|cD H (fun H=>iB [2] H fun H=>a8<|j0<|d<|hr H) fun H=>vK<|fK<|n H
 refine iA [1,3,5]<|vB<|lX (fun(c:Int)=>Z (G6 b.1 [p 5 (I c)]) [(1,K 153 y153 a)]) 0 H fun _ s E w g c H=>vQ<|iA [1,3,5,45]<|cD H (fun H=>?_) (fun H=>?_)
 ·refine vK<|fQ<|jN r (fun(_:Unit)=>Z (G6 b.1 [p 5 (I c)]) [(1,K 153 y153 a)]) (YN c s) (fun _ H=>?_) (fun _ t P i=>?_)
  ·refine jB [1,3,5] H fun H=>E H
  refine vB<|qD (fun e=>Z (G6 b.1 [p 5 (I c),p 6 (R 6)]) [(6,K 158 y158 e),(1,K 153 y153 a)]) H fun e H=>vQ<|iB [1,3,5,6,56] H fun H=>cD H (fun H=>iA [2]<|a8<|fR<|j0<|i<|g<|j0<|h<|hr H) fun H=>vK<|fQ<|iA [1,3,5,6,7]<|vB<|lX (fun(j:Int)=>Z (G6 b.1 [p 5 (I c),p 6 (R 6),p 7 (I j)]) [(6,K 158 y158 e),(1,K 153 y153 a)]) 0 H fun _ G o z u j H=>vQ<|iA [1,3,5,6,7,59]<|cD H (fun H=>?_) (fun H=>?_)
  ·refine vK<|fQ<|vQ<|vB<|iB [1,3,5,6,7,92] H fun H=>cD H (fun H=>iA [2]<|a8<|j0<|fR<|u<|j0<|j0<|i<|g<|j0<|h<|hr H) fun H=>vK<|fK<|fQ<|jB [1,3,5,6,7] H fun H=>o H
  exact vE<|fE<|z<|fX rfl<|fK<|t H
 exact vE<|fE<|w<|fX rfl<|k H
def ON(a:List l6):Unit->Option Bool
 | _ =>
 some (decide ((a.length:Int)<=8))
def YQ(a:Int)(b:Int->Option Bool):Unit->Option Bool
 | _ =>
 gd (b9 (a+1)/\True) <|
 b (a+1)
def YR(b:List l6)(c:Int)(d:Int->Option Bool)(e:Int->Option Bool):Int->Option Bool
 | a =>
 if(decide (a<c)) then
  gd (ix a b.length/\ix c b.length/\True) <|
  if(decide ((b.getD a.toNat (a7 y153)).1=(b.getD c.toNat (a7 y153)).1)) then
   some false
  else
   gd (b9 (a+1)/\True) <|
   e (a+1)
 else
  YQ c d ()
def YS(a:List l6)(c:Int->Option Bool):Int->Option Bool
 | b =>
 if(decide (b < (a.length:Int))) then
  gd (ix b a.length/\(KZ (a.getD b.toNat (a7 y153))).isSome/\True) <|
  if(!vl (KZ (a.getD b.toNat (a7 y153)))) then
   some false
  else
   lp (YR a b c) 0
 else
  ON a ()
def La(a:List l6):Option Bool :=
 lp (YS a) 0
def R0J:Ct:=c7 184 [.agg y153.sl] (fun x=>La x.1) (fun r:Bool=>B r) (fun _=>())
theorem P0f:Ok prog R0J:=by
 refine c8 [.tmp 2] func184 ?_;intro y ⟨a,_⟩ r H Q hn hr;have:=hz (tc O0Q tn);refine iA [1]<|jN r (fun(_:Unit)=>Z [p 1 (R 1)] [(1,bx 49 [L y153 a])]) (ON a) (fun _ H=>?_) (fun _ j o c=>?_)
 ·refine iA [2]<|a8<|hr H
 refine iA [1,3]<|vB<|lX (fun(b:Int)=>Z (G6 b []) [(1,bx 49 [L y153 a])]) 0 H fun _ g l h d b H=>vQ<|iA [1,3,9]<|cD H (fun H=>?_) (fun H=>?_)
 ·refine vK<|fQ<|jN r (fun(_:Unit)=>Z (G6 b []) [(1,bx 49 [L y153 a])]) (YQ b g) (fun _ H=>?_) (fun _ i s f=>?_)
  ·refine jB [1,3] H fun H=>l H
  refine vB<|vQ<|iB [1,3,18] H fun H=>cD H (fun H=>iA [2]<|a8<|fR<|j0<|f<|d<|j0<|c<|hr H) fun H=>vK<|fQ<|iA [1,3,4]<|vB<|lX (fun(e:Int)=>Z (G6 b [p 4 (I e)]) [(1,bx 49 [L y153 a])]) 0 H fun _ q n k m e H=>vQ<|iA [1,3,4,21]<|cD H (fun H=>?_) (fun H=>?_)
  ·refine vK<|fQ<|vQ<|vB<|iB [1,3,4,36] H fun H=>cD H (fun H=>iA [2]<|a8<|j0<|fR<|m<|j0<|j0<|f<|d<|j0<|c<|hr H) fun H=>vK<|fK<|fQ<|jB [1,3,4] H fun H=>n H
  exact vE<|fE<|k<|fX rfl<|fK<|i H
 exact vE<|fE<|h<|fX rfl<|j H
def YT:Unit->Option Bool
 | _ =>
 some true
def YU(b:List Int)(c:Int->Option Bool):Int->Option Bool
 | a =>
 if(decide (a < (b.length:Int))) then
  gd (ix a b.length/\a.toNat<b.length/\True) <|
  if(b.getD a.toNat 0 != 1) then
   some false
  else
   gd (b9 (a+1)/\True) <|
   c (a+1)
 else
  YT ()
def Lb:List Int->Option Bool
 | a =>
 lp (YU a) 0
def OO(a:Int)(c:Int×List Int->Option Bool):List Int->Option Bool
 | b =>
 gd (b9 (a+1)/\True) <|
 c (a+1,b)
def YV(c:p9)(e:Int×List Int->Option Bool):Int×List Int->Option Bool
 | (a,b) =>
 if(decide (a < (c.2.2.length:Int))) then
  gd (ix a c.2.2.length/\True) <|
  if((c.2.2.getD a.toNat (a7 y231)).2.1==1) then
   gd (ix a c.2.2.length/\ix (c.2.2.getD a.toNat (a7 y231)).2.2 b.length/\(c.2.2.getD a.toNat (a7 y231)).2.2.toNat<b.length/\b9 (b.getD (c.2.2.getD a.toNat (a7 y231)).2.2.toNat 0+1)/\ix (c.2.2.getD a.toNat (a7 y231)).2.2 b.length/\(c.2.2.getD a.toNat (a7 y231)).2.2.toNat<b.length/\True)<|lt (b.set (c.2.2.getD a.toNat (a7 y231)).2.2.toNat (b.getD (c.2.2.getD a.toNat (a7 y231)).2.2.toNat 0+1)) fun d =>
   OO a e d
  else
   OO a e b
 else
  Lb b
def Lc(b:p9):List Int->Option Bool
 | a =>
 lp (YV b) (0,a)
def SG(d:p9)(f:Int×List Int->Option Bool):Int×List Int->Option Bool
 | (c,b) =>
 if(decide (c < (d.1.length:Int))) then
  gd (ix c d.1.length/\True)<|lt (d.1.getD c.toNat (a7 y155)) fun a =>
  gd (b9 ((a.2.2.length:Int)-1)/\ix ((a.2.2.length:Int)-1) a.2.2.length/\ix (a.2.2.getD ((a.2.2.length:Int)-1).toNat 0) b.length/\Int.toNat (a.2.2.getD ((a.2.2.length:Int)-1).toNat 0)<b.length/\b9 (b.getD (Int.toNat (a.2.2.getD ((a.2.2.length:Int)-1).toNat 0)) 0+1)/\ix (a.2.2.getD ((a.2.2.length:Int)-1).toNat 0) b.length/\Int.toNat (a.2.2.getD ((a.2.2.length:Int)-1).toNat 0)<b.length/\True)<|lt (b.set (Int.toNat (a.2.2.getD ((a.2.2.length:Int)-1).toNat 0)) (b.getD (Int.toNat (a.2.2.getD ((a.2.2.length:Int)-1).toNat 0)) 0+1)) fun e =>
  gd (b9 (c+1)/\True) <|
  f (c+1,e)
 else
  Lc d b
def Ld(a:p9)(b:List ByteArray):List ByteArray->Option Bool
 | c =>
 gd ((BR b).isSome/\((!vl (BR b))=false/\True->(BR c).isSome)/\((!vl (BR b)||!vl (BR c))=false/\True->(BR a.2.1).isSome)/\True) <|
 if(!vl (BR b)||!vl (BR c)||!vl (BR a.2.1)) then
  some false
 else
  gd ((0<=(a.2.1.length:Int)/\(a.2.1.length:Int)=(a.2.1.length:Int)/\(a.2.1.length:Int).toNat*8<=281474976710656/\(a.2.1.length:Int)<=9223372036854775807)/\True) <|
  lp (SG a) ((0,List.replicate (a.2.1.length:Int).toNat 0))
def YW(b:p9)(e:List ByteArray)(d:Int×List ByteArray->Option Bool):Int×List ByteArray->Option Bool
 | (a,c) =>
 if(decide (a < (b.2.2.length:Int))) then
  gd (ix a b.2.2.length/\(c.length+[(b.2.2.getD a.toNat (a7 y231)).1].length<=9223372036854775807/\(c.length+[(b.2.2.getD a.toNat (a7 y231)).1].length)*16<=140737488355328)/\True) <|
  gd (b9 (a+1)/\True) <|
  d ((a+1,c++[(b.2.2.getD a.toNat (a7 y231)).1]))
 else
  Ld b e c
def Le(b:p9):List ByteArray->Option Bool
 | a =>
 lp (YW b a) (0,[])
def YX(b:p9)(d:Int×List ByteArray->Option Bool):Int×List ByteArray->Option Bool
 | (a,c) =>
 if(decide (a < (b.1.length:Int))) then
  gd (ix a b.1.length/\(c.length+[(b.1.getD a.toNat (a7 y155)).1].length<=9223372036854775807/\(c.length+[(b.1.getD a.toNat (a7 y155)).1].length)*16<=140737488355328)/\True) <|
  gd (b9 (a+1)/\True) <|
  d ((a+1,c++[(b.1.getD a.toNat (a7 y155)).1]))
 else
  Le b c
def Lf(b:List l6)(a:p9):Option Bool :=
 gd ((La b).isSome/\((!vl (La b)||decide (14 < (a.1.length:Int))||decide (30 < (a.2.1.length:Int))||decide (8 < (a.2.2.length:Int)))=false/\True->(OI b a).isSome)/\True) <|
 if(!vl (La b)||decide (14 < (a.1.length:Int))||decide (30 < (a.2.1.length:Int))||decide (8 < (a.2.2.length:Int))||!vl (OI b a)) then
  some false
 else
  lp (YX a) (0,[])
def S0x:Ct:=c7 138 [.agg y153.sl,.agg y53] (fun x=>Lf x.1 x.2.1) (fun r:Bool=>B r) (fun _=>())
theorem P0x:Ok prog S0x:=by
 refine c8 [.tmp 4] func138 ?_;intro y ⟨_,a,_⟩ r H Q hn hr;have:=hz (tc P0d (tc P0e (tc P0f tn)));refine iA [2,3]<|vQ<|iB [3,40] H fun H=>cD H (fun H=>iA [4]<|a8<|fR<|hr H) fun H=>vK<|fQ<|iA [3,5]<|jN r (fun(l:List ByteArray)=>Z [p 3 (R 3),p 5 (O 41)] [(41,A 9 Ty.str l 0),(3,K 53 y53 a)]) (Le a) (fun l H=>?_) (fun _ z e0 t0=>?_)
 ·refine iA [3,5,7]<|jN r (fun(u:List ByteArray)=>Z [p 3 (R 3),p 5 (O 41),p 7 (O 58)] [(58,A 9 Ty.str u 0),(41,A 9 Ty.str l 0),(3,K 53 y53 a)]) (Ld a l) (fun u H=>?_) (fun _ W e2 t2=>?_)
  ·refine vQ<|iB [3,88] H fun H=>cD H (fun H=>iA [4]<|a8<|fR<|hr H) fun H=>vK<|fQ<|iB [3,9] H fun H=>jN r (fun(c:List Int)=>Z [p 3 (R 3),p 9 (O 92)] (Gq c a)) (Lc a) (fun c H=>?_) (fun _ E e4 t4=>?_)
   ·refine jN r (fun(e:List Int)=>Z [p 9 (O 92)] [(92,A 2 i64 e 0)]) (Lb) (fun e H=>?_) (fun _ n6 e6 t6=>?_)
    ·refine jN r (fun(_:Unit)=>Z [] []) (YT) (fun _ H=>?_) (fun _ G e9 T=>?_)
     ·refine iA [4]<|a8<|hr H
     refine iA [9,13]<|vB<|lX (fun(g:Int)=>Z [p 9 (O 92),p 13 (I g)] [(92,A 2 i64 e 0)]) 0 H fun _ X q o n g H=>vQ<|iA [9,13,145]<|cD H (fun H=>?_) (fun H=>?_)
     ·refine vK<|fQ<|vQ<|vB<|iB [9,13,152] H fun H=>cD H (fun H=>iA [4]<|a8<|j0<|fR<|n<|j0<|T<|hr H) fun H=>vK<|fK<|fQ<|jB [9,13] H fun H=>q H
     exact vE<|fE<|o<|fX rfl<|G H
    refine iA [3,9,12]<|vB<|lX (fun((b,h):Int×List Int)=>Z [p 3 (R 3),p 9 (O 92),p 12 (I b)] (Gq h a)) (0,c) H fun _ g7 Y e7 t7 ⟨b,h⟩ H=>vQ<|iA [3,9,12,121]<|cD H (fun H=>?_) (fun H=>?_)
    ·refine vK<|fQ<|jN r (fun(i:List Int)=>Z [p 3 (R 3),p 9 (O 92),p 12 (I b)] (Gq i a)) (OO b g7) (fun i H=>?_) (fun _ t e8 t8=>?_)
     ·refine jB [3,9,12] H fun H=>Y H
     refine vB<|iB [3,9,12,130] H fun H=>cD H (fun H=>zD (fun j=>Z [p 3 (R 3),p 9 (O 92),p 12 (I b)] (Gq j a)) H fun j H=>fK<|t H) fun H=>vK<|fK<|t H
    exact vE<|fE<|e7<|fX rfl<|n6 H
   refine iA [3,9,10]<|vB<|lX (fun((m,d):Int×List Int)=>Z [p 3 (R 3),p 9 (O 92),p 10 (I m)] (Gq d a)) ((0,List.replicate (a.2.1.length:Int).toNat 0)) H fun _ g5 F P t5 ⟨m,d⟩ H=>vQ<|iA [3,9,10,97]<|cD H (fun H=>vK<|fQ<|vQ<|vB<|qD (fun k=>Z [p 3 (R 3),p 9 (O 92),p 10 (I m),p 11 (L i64 k.2.2)] (Gq d a)) H fun k H=>zD (fun f=>Z [p 3 (R 3),p 9 (O 92),p 10 (I m)] (Gq f a)) H fun f H=>fK<|fQ<|jB [3,9,10] H fun H=>F H) fun H=>vE<|fE<|P<|fX rfl<|E H
  refine iA [3,5,7,8]<|vB<|lX (fun((v,x):Int×List ByteArray)=>Z [p 3 (R 3),p 5 (O 41),p 7 (O 58),p 8 (I v)] [(58,A 9 Ty.str x 0),(41,A 9 Ty.str l 0),(3,K 53 y53 a)]) (0,[]) H fun _ g3 V e3 t3 ⟨v,x⟩ H=>vQ<|iA [3,5,7,8,63]<|cD H (fun H=>vK<|fQ<|vQ<|vB<|jB [3,5,7,8] H fun H=>fK<|fQ<|jB [3,5,7,8] H fun H=>V H) fun H=>vE<|fE<|e3<|fX rfl<|W H
 refine iA [3,5,6]<|vB<|lX (fun((w,s):Int×List ByteArray)=>Z [p 3 (R 3),p 5 (O 41),p 6 (I w)] [(41,A 9 Ty.str s 0),(3,K 53 y53 a)]) (0,[]) H fun _ g1 b1 e1 t1 ⟨w,s⟩ H=>vQ<|iA [3,5,6,46]<|cD H (fun H=>vK<|fQ<|vQ<|vB<|jB [3,5,6] H fun H=>fK<|fQ<|jB [3,5,6] H fun H=>b1 H) fun H=>vE<|fE<|e1<|fX rfl<|z H
def YY:Unit->Option Bool
 | _ =>
 some true
def YZ(b:j1)(c:Int->Option Bool):Int->Option Bool
 | a =>
 if(decide (a < (b.2.2.length:Int))) then
  gd (ix a b.2.2.length/\(Ba b.2.1 a).isSome/\(KO (b.2.2.getD a.toNat (a7 y172)) (↑(vl (Ba b.2.1 a)).length:Int)).isSome/\True)<|lt (vl (Ba b.2.1 a)) fun d =>
  if(!vl (KO (b.2.2.getD a.toNat (a7 y172)) (d.length:Int))) then
   some false
  else
   gd (b9 (a+1)/\True) <|
   c (a+1)
 else
  YY ()
def Au(a:j1):Option Bool :=
 gd ((Lf a.1 a.2.1).isSome/\True) <|
 if(!vl (Lf a.1 a.2.1)||(a.2.2.length:Int) != (a.2.1.2.1.length:Int)) then
  some false
 else
  lp (YZ a) 0
def k83:Ct:=c7 83 [.agg j6] (fun x=>Au x.1) (fun r:Bool=>B r) (fun _=>())
theorem SI:Ok prog k83:=by
 refine c8 [.tmp 2] func83 ?_;intro y ⟨e,_⟩ r H Q hn hr;have:=hz (tc P0w (tc Ih (tc P0x tn)));refine iA [1]<|vQ<|iB [1,19] H fun H=>cD H (fun H=>iA [2]<|a8<|fR<|hr H) fun H=>vK<|fQ<|jN r (fun(_:Unit)=>Z [] []) (YY) (fun _ H=>?_) (fun _ d i c=>?_)
 ·refine iA [2]<|a8<|hr H
 refine iA [1,3]<|vB<|lX (fun(a:Int)=>Z (G6 a []) [(1,K 56 j6 e)]) 0 H fun _ h f b g a H=>vQ<|iA [1,3,24]<|cD H (fun H=>?_) (fun H=>?_)
 ·refine vK<|fQ<|vQ<|vB<|iD Ih [1,3,38] H fun _ H=>cD H (fun H=>iA [2]<|a8<|j0<|fR<|g<|j0<|c<|hr H) fun H=>vK<|fK<|fQ<|jB [1,3] H fun H=>f H
 exact vE<|fE<|b<|fX rfl<|d H
def Ft(a:j1)(b:List Int):Option Int :=
 gd ((Au a).isSome/\True) <|
 if(!vl (Au a)) then
  some 1
 else
  gd ((Bf a).isSome/\(OD b (↑(vl (Bf a)).length:Int)).isSome/\True)<|lt (vl (Bf a)) fun c =>
  if(!vl (OD b (c.length:Int))) then
   some 2
  else
   some 0
def S0E:Ct:=c7 124 [.agg j6,.dat i64.sl] (fun x=>Ft x.1 x.2.1) (fun r:Int=>I r) (fun _=>())
theorem OP:Ok prog S0E:=by
 refine c8 [.tmp 4] func124 ?_;intro y ⟨_,_,_⟩ r H Q hn hr;have:=hz (tc P0h (tc Ip (tc SI tn)));refine iA [1,2]<|vQ<|iB [1,2,7] H fun H=>cD H (fun H=>iA [4]<|a8<|fR<|hr H) fun H=>vK<|fQ<|vQ<|iD Ip [13] H fun _ H=>cD H (fun H=>iA [4]<|a8<|fR<|hr H) fun H=>vK<|fQ<|iA [4]<|a8<|hr H
def Lg(a:j1)(b:List Int):Option (List Int×Int) :=
 gd ((Ft a b).isSome/\True)<|lt (vl (Ft a b)) fun d =>
 if(d != 0) then
  some ([],d)
 else
  gd ((Bf a).isSome/\True)<|lt (vl (Bf a)) fun c =>
  gd ((Q2 a).isSome/\(Be c b).isSome/\(KN (vl (Q2 a)) c (vl (Be c b))).isSome/\True)<|lt ((vl (KN (vl (Q2 a)) c (vl (Be c b))),vl (Be c b))) fun(e,_) =>
  if(!e.2) then
   some (([],(7:Int)))
  else
   some ((e.1,(0:Int)))
def S0C:Ct:=c7 126 [.agg j6,.dat i64.sl] (fun x=>Lg x.1 x.2.1) (fun r:List Int×Int=>AV.tup [AV.ow 2 true i64 r.1,I r.2]) (fun _=>())
theorem Za:Ok prog S0C:=by
 refine c8 [.tmp 4,.tmp 5] func126 ?_;intro y ⟨d,_,_⟩ r H Q hn hr;have:=hz (tc P0g (tc Sw (tc KH (tc Ip (tc OP tn)))));refine iA [1,2]<|vQ<|iD OP [1,2,6] H fun _ H=>iA [1,2,6,14]<|cD H (fun H=>iA [4,5]<|a8<|fR<|hr H) fun H=>vK<|fQ<|iD Ip [1,2,7] H fun c H=>qD (fun(a,b)=>Z [p 8 (O 26),p 9 (B a.2)] [(26,A 2 i64 a.1 0),(25,A 4 Ty.bool b 0),(18,A 138 y138 c 0),(2,K 56 j6 d)]) H fun⟨a,b⟩ H =>
  vQ <|
  iA [8,30] <|
  cD H (fun H=>iA [4,5]<|a8<|fR<|hr H) fun H=>vK<|fQ<|iA [4,5]<|a8<|hr H
def CE(a:B0):Option Bool :=
 some (decide (0<=a.1)&&decide (a.1<=a.2)&&decide (a.2<=1000000))
def S0u:Ct:=c7 141 [.agg y73] (fun x=>CE x.1) (fun r:Bool=>B r) (fun _=>())
theorem Zb:Ok prog S0u:=by
 refine c8 [.tmp 2] func141 ?_;intro y ⟨_,_⟩ r H Q hn hr;refine iA [1]<|iA [2]<|a8<|hr H
def Aa(a:B0):Option Bool :=
 gd ((o6 a.1 (-1000000000) 1000000000).isSome/\(vl (o6 a.1 (-1000000000) 1000000000)=true/\True->(o6 a.2 (-1000000000) 1000000000).isSome)/\True) <|
 some (vl (o6 a.1 (-1000000000) 1000000000)&&vl (o6 a.2 (-1000000000) 1000000000)&&decide (a.1<=a.2))
def k62:Ct:=c7 62 [.agg y73] (fun x=>Aa x.1) (fun r:Bool=>B r) (fun _=>())
theorem Zc:Ok prog k62:=by
 refine c8 [.tmp 2] func62 ?_;intro y ⟨_,_⟩ r H Q hn hr;have:=hz (tc Bd tn);refine iA [1]<|iB [2] H fun H=>a8<|hr H
def Zd:Unit->Option Bool
 | _ =>
 some true
def Ze(b:List r8)(c:Int)(d:Int->Option Bool):Int->Option Bool
 | a =>
 if(decide (a < (b.length:Int))) then
  gd (ix a b.length/\b9 (c-1)/\(o6 (b.getD a.toNat (a7 y75)).1 0 (c-1)).isSome/\(decide (0<a)=true/\(!vl (o6 (b.getD a.toNat (a7 y75)).1 0 (c-1)))=false/\True->b9 (a-1))/\(decide (0<a)=true/\(!vl (o6 (b.getD a.toNat (a7 y75)).1 0 (c-1)))=false/\True->ix (a-1) b.length)/\(decide (0<a)=true/\(!vl (o6 (b.getD a.toNat (a7 y75)).1 0 (c-1)))=false/\True->ix a b.length)/\((!vl (o6 (b.getD a.toNat (a7 y75)).1 0 (c-1))||decide (0<a)&&decide ((b.getD a.toNat (a7 y75)).1<=(b.getD (a-1).toNat (a7 y75)).1))=false/\True->ix a b.length)/\((!vl (o6 (b.getD a.toNat (a7 y75)).1 0 (c-1))||decide (0<a)&&decide ((b.getD a.toNat (a7 y75)).1<=(b.getD (a-1).toNat (a7 y75)).1))=false/\True->(Aa (b.getD a.toNat (a7 y75)).2.1).isSome)/\((!vl (o6 (b.getD a.toNat (a7 y75)).1 0 (c-1))||decide (0<a)&&decide ((b.getD a.toNat (a7 y75)).1<=(b.getD (a-1).toNat (a7 y75)).1)||!vl (Aa (b.getD a.toNat (a7 y75)).2.1))=false/\True->ix a b.length)/\((!vl (o6 (b.getD a.toNat (a7 y75)).1 0 (c-1))||decide (0<a)&&decide ((b.getD a.toNat (a7 y75)).1<=(b.getD (a-1).toNat (a7 y75)).1)||!vl (Aa (b.getD a.toNat (a7 y75)).2.1))=false/\True->(CE (b.getD a.toNat (a7 y75)).2.2).isSome)/\True) <|
  if(!vl (o6 (b.getD a.toNat (a7 y75)).1 0 (c-1))||decide (0<a)&&decide ((b.getD a.toNat (a7 y75)).1<=(b.getD (a-1).toNat (a7 y75)).1)||!vl (Aa (b.getD a.toNat (a7 y75)).2.1)||!vl (CE (b.getD a.toNat (a7 y75)).2.2)) then
   some false
  else
   gd (b9 (a+1)/\True) <|
   d (a+1)
 else
  Zd ()
def Lh(a:j1)(c:List r8):Option Bool :=
 gd ((Q2 a).isSome/\True)<|lt (vl (Q2 a)) fun b =>
 lp (Ze c b) 0
def S0D:Ct:=c7 125 [.agg j6,.dat y75.sl] (fun x=>Lh x.1 x.2.1) (fun r:Bool=>B r) (fun _=>())
theorem P0y:Ok prog S0D:=by
 refine c8 [.tmp 4] func125 ?_;intro y ⟨_,f,_⟩ r H Q hn hr;have:=hz (tc Zb (tc Zc (tc Bd (tc KH tn))));refine iA [1,2]<|iD KH [1,5] H fun e H=>jN r (fun(_:Unit)=>Z [] []) (Zd) (fun _ H=>?_) (fun _ d j c=>?_)
 ·refine iA [4]<|a8<|hr H
 refine iA [1,5,6]<|vB<|lX (fun(a:Int)=>Z [p 1 (L y75 f),p 5 (I e),p 6 (I a)] []) 0 H fun _ i g b h a H=>vQ<|iA [1,5,6,12]<|cD H (fun H=>?_) (fun H=>?_)
 ·refine vK<|fQ<|vQ<|vB<|iB [1,5,6,59] H fun H=>cD H (fun H=>iA [4]<|a8<|j0<|fR<|h<|j0<|c<|hr H) fun H=>vK<|fK<|fQ<|jB [1,5,6] H fun H=>g H
 exact vE<|fE<|b<|fX rfl<|d H
def Li(a:r5):Unit->Option Bool
 | _ =>
 gd ((Z9 a.1).isSome/\True) <|
 some (vl (Z9 a.1)&&decide (a.2.1<=a.2.2.1)&&decide (a.2.2.2.1<=a.2.2.2.2))
def OQ(b:List Int)(d:r5)(c:Int->Option Bool):Int->Option Bool
 | a =>
 if(decide (a < (b.length:Int))) then
  gd (ix a b.length/\a.toNat<b.length/\(o6 (b.getD a.toNat 0) 100 5000).isSome/\True) <|
  if(!vl (o6 (b.getD a.toNat 0) 100 5000)) then
   some false
  else
   gd (b9 (a+1)/\True) <|
   c (a+1)
 else
  Li d ()
def Dv(a:r5):Option Bool :=
 lt ([a.2.1,a.2.2.1,a.2.2.2.1,a.2.2.2.2]) fun b =>
 lp (OQ b a) 0
def k84:Ct:=c7 84 [.agg A0] (fun x=>Dv x.1) (fun r:Bool=>B r) (fun _=>())
theorem Zf:Ok prog k84:=by
 refine c8 [.tmp 2] func84 ?_;intro y ⟨a,_⟩ r H Q hn hr;have:=hz (tc OG (tc Bd tn));refine iA [1]<|qC (fun b=>Z [p 1 (R 1),p 3 (O 13)] [(13,A 2 i64 b 0),(1,K 58 A0 a)]) H fun b H=>jN r (fun(_:Unit)=>Z [p 1 (R 1)] [(1,K 58 A0 a)]) (Li a) (fun _ H=>?_) (fun _ f j e=>?_)
 ·refine iB [2] H fun H=>a8<|hr H
 refine iA [1,3,4]<|vB<|lX (fun(c:Int)=>Z [p 1 (R 1),p 3 (O 13),p 4 (I c)] [(13,A 2 i64 b 0),(1,K 58 A0 a)]) 0 H fun _ i g d h c H=>vQ<|iA [1,3,4,17]<|cD H (fun H=>?_) (fun H=>?_)
 ·refine vK<|fQ<|vQ<|vB<|iB [1,3,4,25] H fun H=>cD H (fun H=>iA [2]<|a8<|j0<|fR<|h<|j0<|e<|hr H) fun H=>vK<|fK<|fQ<|jB [1,3,4] H fun H=>g H
 exact vE<|fE<|d<|fX rfl<|f H
def Lj(a:j1)(c:r5)(b:List Int)(d:List r8):Option (List Int×Int) :=
 gd ((Au a).isSome/\((!vl (Au a))=false/\True->(Dv c).isSome)/\True) <|
 if(!vl (Au a)||!vl (Dv c)) then
  some (([],(1:Int)))
 else
  gd ((Ft a b).isSome/\((vl (Ft a b) != 0)=false/\True->(Lh a d).isSome)/\True)<|lt (vl (Ft a b)) fun e =>
  if(e != 0||!vl (Lh a d)) then
   some (([],(2:Int)))
  else
   gd ((Lg a b).isSome/\True)<|lt (vl (Lg a b)) fun f =>
   some f
def k67:Ct:=c7 67 [.agg j6,.agg A0,.dat i64.sl,.dat y75.sl] (fun x=>Lj x.1 x.2.1 x.2.2.1 x.2.2.2.1) (fun r:List Int×Int=>AV.tup [AV.ow 2 true i64 r.1,I r.2]) (fun _=>())
theorem Zg:Ok prog k67:=by
 refine c8 [.tmp 8,.tmp 9] func67 ?_;intro y ⟨_,_,_,_,_⟩ r H Q hn hr;have:=hz (tc Za (tc P0y (tc OP (tc Zf (tc SI tn)))));refine iA [2,3,4,5]<|vQ<|iB [2,3,4,17] H fun H=>cD H (fun H=>iA [8,9]<|a8<|fR<|hr H) fun H=>vK<|fQ<|vQ<|iD OP [2,4,28] H fun _ H=>cD H (fun H=>iA [8,9]<|a8<|fR<|hr H) fun H=>vK<|fQ<|iD Za [8,9] H fun _ H=>a8<|hr H
def Zh:Unit->Option Bool
 | _ =>
 some true
def Zi(b:C0)(c:Int->Option Bool):Int->Option Bool
 | a =>
 if(decide (a < (b.1.length:Int))) then
  gd (ix a b.2.1.length/\(Aa (b.2.1.getD a.toNat (a7 y73))).isSome/\((!vl (Aa (b.2.1.getD a.toNat (a7 y73))))=false/\True->ix a b.2.2.length)/\((!vl (Aa (b.2.1.getD a.toNat (a7 y73))))=false/\True->(CE (b.2.2.getD a.toNat (a7 y73))).isSome)/\((!vl (Aa (b.2.1.getD a.toNat (a7 y73)))||!vl (CE (b.2.2.getD a.toNat (a7 y73))))=false/\True->ix a b.1.length)/\((!b.1.getD a.toNat false)=true/\(!vl (Aa (b.2.1.getD a.toNat (a7 y73)))||!vl (CE (b.2.2.getD a.toNat (a7 y73))))=false/\True->ix a b.2.1.length)/\((!((b.2.1.getD a.toNat (a7 y73)).1==0&&((b.2.1.getD a.toNat (a7 y73)).2==0&&true)))=false/\(!b.1.getD a.toNat false)=true/\(!vl (Aa (b.2.1.getD a.toNat (a7 y73)))||!vl (CE (b.2.2.getD a.toNat (a7 y73))))=false/\True->ix a b.2.2.length)/\True)<|lt (!vl (Aa (b.2.1.getD a.toNat (a7 y73)))||!vl (CE (b.2.2.getD a.toNat (a7 y73)))||!b.1.getD a.toNat false&&(!((b.2.1.getD a.toNat (a7 y73)).1==0&&((b.2.1.getD a.toNat (a7 y73)).2==0&&true))||!((b.2.2.getD a.toNat (a7 y73)).1==0&&((b.2.2.getD a.toNat (a7 y73)).2==0&&true)))) fun d =>
  if d then
   some false
  else
   gd (b9 (a+1)/\True) <|
   c (a+1)
 else
  Zh ()
def Lk(b:Int)(a:C0):Option Bool :=
 if((a.1.length:Int) != b||(a.2.1.length:Int) != b||(a.2.2.length:Int) != b) then
  some false
 else
  lp (Zi a) 0
def k85:Ct:=c7 85 [.dat i64,.agg y65] (fun x=>Lk x.1 x.2.1) (fun r:Bool=>B r) (fun _=>())
theorem o85:Ok prog k85:=by
 refine c8 [.tmp 4] func85 ?_;intro y ⟨_,b,_⟩ r H Q hn hr;have:=hz (tc Zb (tc Zc tn));refine iA [0,3]<|vQ<|iA [3,24]<|cD H (fun H=>iA [4]<|a8<|fR<|hr H) fun H=>vK<|fQ<|jN r (fun(_:Unit)=>Z [] []) (Zh) (fun _ H=>?_) (fun _ f j e=>?_)
 ·refine iA [4]<|a8<|hr H
 refine iA [3,5]<|vB<|lX (fun(a:Int)=>Z [p 3 (R 3),p 5 (I a)] [(3,K 65 y65 b)]) 0 H fun _ i g d h a H=>vQ<|iA [3,5,29]<|cD H (fun H=>?_) (fun H=>?_)
 ·refine vK<|fQ<|vQ<|vB<|qD (fun c=>Z [p 3 (R 3),p 5 (I a),p 73 (B c)] [(3,K 65 y65 b)]) H fun c H=>cD H (fun H=>iA [4]<|a8<|j0<|fR<|h<|j0<|e<|hr H) fun H=>vK<|fK<|fQ<|jB [3,5] H fun H=>g H
 exact vE<|fE<|d<|fX rfl<|f H
def Gz(a:j1)(b:r5)(d:List Int)(e:List r8)(c:C0):Option Int :=
 gd ((Au a).isSome/\((!vl (Au a))=false/\True->(Dv b).isSome)/\((!vl (Au a)||!vl (Dv b))=false/\True->(Q2 a).isSome)/\((!vl (Au a)||!vl (Dv b))=false/\True->(Lk (vl (Q2 a)) c).isSome)/\True) <|
 if(!vl (Au a)||!vl (Dv b)||!vl (Lk (vl (Q2 a)) c)) then
  some 1
 else
  gd ((Lj a b d e).isSome/\True)<|lt (vl (Lj a b d e)) fun f =>
  some f.2
def k40:Ct:=c7 40 [.agg j6,.agg A0,.dat i64.sl,.dat y75.sl,.agg y65] (fun x=>Gz x.1 x.2.1 x.2.2.1 x.2.2.2.1 x.2.2.2.2.1) (fun r:Int=>I r) (fun _=>())
theorem Zj:Ok prog k40:=by
 refine c8 [.tmp 10] func40 ?_;intro y ⟨_,_,_,_,_,_⟩ r H Q hn hr;have:=hz (tc Zg (tc o85 (tc KH (tc Zf (tc SI tn)))));refine iA [2,3,5,6,9]<|vQ<|iB [2,3,5,6,27] H fun H=>cD H (fun H=>iA [10]<|a8<|fR<|hr H) fun H=>vK<|fQ<|iD Zg [12] H fun _ H=>iA [10]<|a8<|hr H
def Zk(a:j1)(e:r5)(c:List Int)(g:List r8)(d:C0)(i:Int)(f:Int):Option (Int×Int) :=
 gd ((Gz a e c g d).isSome/\True)<|lt (vl (Gz a e c g d)) fun h =>
 if(h != 0) then
  some (((0:Int),h))
 else
  gd ((KL f).isSome/\True) <|
  if(!vl (KL f)) then
   some (((0:Int),(2:Int)))
  else
   gd ((Bf a).isSome/\True)<|lt (vl (Bf a)) fun b =>
   gd ((Be b c).isSome/\(Dt a e b (vl (Be b c)) g d i f).isSome/\True)<|lt ((vl (Dt a e b (vl (Be b c)) g d i f),vl (Be b c))) fun(j,_) =>
   some j
def Zl:List Int->Option (List Int)
 | a =>
 some a
def J0F(c:List Int)(d:Int×List Int->Option (List Int)):Int×List Int->Option (List Int)
 | (a,b) =>
 if(decide (a < (c.length:Int))) then
  gd (ix a c.length/\ix a b.length/\a.toNat<b.length/\True) <|
  gd (b9 (a+1)/\True) <|
  d ((a+1,b.set a.toNat (c.getD a.toNat 0)))
 else
  Zl b
def N5(a:List Int):Option (List Int) :=
 gd ((0<=(a.length:Int)/\(a.length:Int)=(a.length:Int)/\(a.length:Int).toNat*8<=281474976710656/\(a.length:Int)<=9223372036854775807)/\True) <|
 lp (J0F a) ((0,List.replicate (a.length:Int).toNat 0))
def k14:Ct:=c7 14 [.dat i64.sl] (fun x=>N5 x.1) (fun r:List Int=>AV.ow 2 true i64 r) (fun _=>())
theorem T3:Ok prog k14:=by
 refine c8 [.tmp 2] func14 ?_;intro y ⟨a,_⟩ r H Q hn hr;refine iA [0]<|iB [0,3] H fun H=>jN r (fun(b:List Int)=>Z [p 3 (O 7)] [(7,A 2 i64 b 0)]) (Zl) (fun b H=>?_) (fun _ f k i=>?_)
 ·refine iA [2]<|a8<|hr H
 refine iA [0,3,4]<|vB<|lX (fun((c,d):Int×List Int)=>Z [p 0 (L i64 a),p 3 (O 7),p 4 (I c)] [(7,A 2 i64 d 0)]) ((0,List.replicate (a.length:Int).toNat 0)) H fun _ h g e j ⟨c,d⟩ H=>vQ<|iA [0,3,4,11]<|cD H (fun H=>vK<|fQ<|vQ<|vB<|jB [0,3,4] H fun H=>fK<|fQ<|jB [0,3,4] H fun H=>g H) fun H=>vE<|fE<|e<|fX rfl<|f H
def Ir(a:BH):Option C3 :=
 gd ((N5 a.1).isSome/\True)<|lt (vl (N5 a.1)) fun c =>
 gd ((N5 a.2.1).isSome/\True)<|lt (vl (N5 a.2.1)) fun d =>
 gd ((N5 a.2.2.1).isSome/\True)<|lt (vl (N5 a.2.2.1)) fun e =>
 gd ((N5 a.2.2.2).isSome/\True)<|lt (vl (N5 a.2.2.2)) fun b =>
 some (c,d,e,b)
def k98:Ct:=c7 98 [.agg y146] (fun x=>Ir x.1) (fun r:C3=>AV.agg [AV.ow 2 true i64 r.1,AV.ow 2 true i64 r.2.1,AV.ow 2 true i64 r.2.2.1,AV.ow 2 true i64 r.2.2.2]) (fun _=>())
theorem o98:Ok prog k98:=by
 refine c8 [.cell 2 172] func98 ?_;intro y ⟨_,_⟩ r H Q hn hr;have:=hz (tc T3 tn);refine iA [1,2]<|iA [1,2,3]<|iD T3 [1,2,3] H fun _ H=>iD T3 [1,2,3] H fun _ H=>iD T3 [1,2,3] H fun _ H=>iD T3 [2,3] H fun _ H=>iA [2]<|a8<|hr H
def P0S:Ct:=c7 98 [.agg y146] (fun x=>Ir x.1) (fun r=>frz ((fun r:C3=>AV.agg [AV.ow 2 true i64 r.1,AV.ow 2 true i64 r.2.1,AV.ow 2 true i64 r.2.2.1,AV.ow 2 true i64 r.2.2.2]) r)) (fun _=>())
theorem O0i:Ok prog P0S:=Is o98
def Zm:List C3->Option (List C3)
 | a =>
 some a
def J0s(b:List BH)(d:Int×List C3->Option (List C3)):Int×List C3->Option (List C3)
 | (a,c) =>
 if(decide (a < (b.length:Int))) then
  gd (ix a b.length/\(Ir (b.getD a.toNat (a7 y146))).isSome/\ix a c.length/\a.toNat<c.length/\True)<|lt (vl (Ir (b.getD a.toNat (a7 y146)))) fun e =>
  gd (b9 (a+1)/\True) <|
  d (a+1,c.set a.toNat e)
 else
  Zm c
def Ll(a:List BH):Option (List C3) :=
 gd ((0<=(a.length:Int)/\(a.length:Int)=(a.length:Int)/\(a.length:Int).toNat*96<=281474976710656/\(a.length:Int)<=9223372036854775807)/\True) <|
 lp (J0s a) ((0,List.replicate (a.length:Int).toNat ([],[],[],[])))
def k47:Ct:=c7 47 [.dat y146.sl] (fun x=>Ll x.1) (fun r:List C3=>AV.ow 172 true y172 r) (fun _=>())
theorem Zn:Ok prog k47:=by
 refine c8 [.tmp 2] func47 ?_;intro y ⟨b,_⟩ r H Q hn hr;have:=hz (tc O0i tn);refine iA [0]<|iB [0,3] H fun H=>jN r (fun(d:List C3)=>Z [p 3 (O 7)] [(7,A 172 y172 d 0)]) (Zm) (fun d H=>?_) (fun _ g l j=>?_)
 ·refine iA [2]<|a8<|hr H
 refine iA [0,3,4]<|vB<|lX (fun((a,c):Int×List C3)=>Z [p 0 (L y146 b),p 3 (O 7),p 4 (I a)] [(7,A 172 y172 c 0)]) ((0,List.replicate (b.length:Int).toNat ([],[],[],[]))) H fun _ i h f k ⟨a,c⟩ H=>vQ<|iA [0,3,4,11]<|cD H (fun H=>vK<|fQ<|vQ<|vB<|zD (fun e=>Z [p 0 (L y146 b),p 3 (O 7),p 4 (I a)] [(7,A 172 y172 (c.set a.toNat e) 0)]) H fun e H=>fK<|fQ<|jB [0,3,4] H fun H=>h H) fun H=>vE<|fE<|f<|fX rfl<|g H
def Lm(a:BI):Option J3 :=
 some a
def S0p:Ct:=c7 146 [.agg y221] (fun x=>Lm x.1) (fun r:J3=>AV.agg [S r.1,I r.2.1,I r.2.2]) (fun _=>())
theorem Zo:Ok prog S0p:=by
 refine c8 [.cell 2 231] func146 ?_;intro y ⟨_,_⟩ r H Q hn hr;refine iA [1,2]<|iA [1,2,3]<|iA [1,2,3]<|iA [1,2,3]<|iA [2,3]<|iA [2]<|a8<|hr H
def Zp:List J3->Option (List J3)
 | a =>
 some a
def J0f(b:List BI)(d:Int×List J3->Option (List J3)):Int×List J3->Option (List J3)
 | (a,c) =>
 if(decide (a < (b.length:Int))) then
  gd (ix a b.length/\(Lm (b.getD a.toNat (a7 y221))).isSome/\ix a c.length/\a.toNat<c.length/\True)<|lt (vl (Lm (b.getD a.toNat (a7 y221)))) fun e =>
  gd (b9 (a+1)/\True) <|
  d (a+1,c.set a.toNat e)
 else
  Zp c
def Ln(a:List BI):Option (List J3) :=
 gd ((0<=(a.length:Int)/\(a.length:Int)=(a.length:Int)/\(a.length:Int).toNat*32<=281474976710656/\(a.length:Int)<=9223372036854775807)/\True)<|lt (List.replicate (a.length:Int).toNat (ByteArray.mk #[],(0:Int),(0:Int))) fun b =>
 lp (J0f a) (0,b)
def k97:Ct:=c7 97 [.dat y221.sl] (fun x=>Ln x.1) (fun r:List J3=>AV.ow 231 true y231 r) (fun _=>())
theorem Zq:Ok prog k97:=by
 refine c8 [.tmp 2] func97 ?_;intro y ⟨c,_⟩ r H Q hn hr;have:=hz (tc Zo tn);refine iA [0]<|qD (fun a=>Z [p 0 (L y221 c),p 3 (O 7)] [(7,A 231 y231 a 0)]) H fun a H=>jN r (fun(b:List J3)=>Z [p 3 (O 7)] [(7,A 231 y231 b 0)]) (Zp) (fun b H=>?_) (fun _ g l j=>?_)
 ·refine iA [2]<|a8<|hr H
 refine iA [0,3,4]<|vB<|lX (fun((e,d):Int×List J3)=>Z [p 0 (L y221 c),p 3 (O 7),p 4 (I e)] [(7,A 231 y231 d 0)]) (0,a) H fun _ i h f k ⟨e,d⟩ H=>vQ<|iA [0,3,4,11]<|cD H (fun H=>vK<|fQ<|vQ<|vB<|jD Zo [0,3,4] H fun _ H=>fK<|fQ<|jB [0,3,4] H fun H=>h H) fun H=>vE<|fE<|f<|fX rfl<|g H
def Zr:List ByteArray->Option (List ByteArray)
 | a =>
 some a
def J0g(c:List ByteArray)(d:Int×List ByteArray->Option (List ByteArray)):Int×List ByteArray->Option (List ByteArray)
 | (a,b) =>
 if(decide (a < (c.length:Int))) then
  gd (ix a c.length/\ix a b.length/\a.toNat<b.length/\True) <|
  gd (b9 (a+1)/\True) <|
  d ((a+1,b.set a.toNat (c.getD a.toNat (a7 Ty.str))))
 else
  Zr b
def Lo(a:List ByteArray):Option (List ByteArray) :=
 gd ((0<=(a.length:Int)/\(a.length:Int)=(a.length:Int)/\(a.length:Int).toNat*16<=281474976710656/\(a.length:Int)<=9223372036854775807)/\True) <|
 lp (J0g a) ((0,List.replicate (a.length:Int).toNat (ByteArray.mk #[])))
def k96:Ct:=c7 96 [.dat Ty.str.sl] (fun x=>Lo x.1) (fun r:List ByteArray=>AV.ow 9 true Ty.str r) (fun _=>())
theorem Zs:Ok prog k96:=by
 refine c8 [.tmp 2] func96 ?_;intro y ⟨a,_⟩ r H Q hn hr;refine iA [0]<|iB [0,3] H fun H=>jN r (fun(b:List ByteArray)=>Z [p 3 (O 7)] [(7,A 9 Ty.str b 0)]) (Zr) (fun b H=>?_) (fun _ f k i=>?_)
 ·refine iA [2]<|a8<|hr H
 refine iA [0,3,4]<|vB<|lX (fun((c,d):Int×List ByteArray)=>Z [p 0 (L Ty.str a),p 3 (O 7),p 4 (I c)] [(7,A 9 Ty.str d 0)]) ((0,List.replicate (a.length:Int).toNat (ByteArray.mk #[]))) H fun _ h g e j ⟨c,d⟩ H=>vQ<|iA [0,3,4,11]<|cD H (fun H=>vK<|fQ<|vQ<|vB<|jB [0,3,4] H fun H=>fK<|fQ<|jB [0,3,4] H fun H=>g H) fun H=>vE<|fE<|e<|fX rfl<|f H
def It(a:BJ):Option F7 :=
 gd ((N5 a.2.2).isSome/\True)<|lt (vl (N5 a.2.2)) fun b =>
 some (a.1,a.2.1,b)
def S0q:Ct:=c7 145 [.agg y218] (fun x=>It x.1) (fun r:F7=>AV.agg [S r.1,I r.2.1,AV.ow 2 true i64 r.2.2]) (fun _=>())
theorem P0u:Ok prog S0q:=by
 refine c8 [.cell 2 155] func145 ?_;intro y ⟨_,_⟩ r H Q hn hr;have:=hz (tc T3 tn);refine iA [1,2]<|iA [1,2,3]<|iA [1,2,3]<|iA [1,2,3]<|iD T3 [2,3] H fun _ H=>iA [2]<|a8<|hr H
def K0G:Ct:=c7 145 [.agg y218] (fun x=>It x.1) (fun r=>frz ((fun r:F7=>AV.agg [S r.1,I r.2.1,AV.ow 2 true i64 r.2.2]) r)) (fun _=>())
theorem K0t:Ok prog K0G:=Is P0u
def Zt:List F7->Option (List F7)
 | a =>
 some a
def J0h(b:List BJ)(d:Int×List F7->Option (List F7)):Int×List F7->Option (List F7)
 | (a,c) =>
 if(decide (a < (b.length:Int))) then
  gd (ix a b.length/\(It (b.getD a.toNat (a7 y218))).isSome/\ix a c.length/\a.toNat<c.length/\True)<|lt (vl (It (b.getD a.toNat (a7 y218)))) fun e =>
  gd (b9 (a+1)/\True) <|
  d (a+1,c.set a.toNat e)
 else
  Zt c
def Lp(a:List BJ):Option (List F7) :=
 gd ((0<=(a.length:Int)/\(a.length:Int)=(a.length:Int)/\(a.length:Int).toNat*48<=281474976710656/\(a.length:Int)<=9223372036854775807)/\True)<|lt (List.replicate (a.length:Int).toNat (ByteArray.mk #[],(0:Int),[])) fun b =>
 lp (J0h a) (0,b)
def k95:Ct:=c7 95 [.dat y218.sl] (fun x=>Lp x.1) (fun r:List F7=>AV.ow 155 true y155 r) (fun _=>())
theorem Zu:Ok prog k95:=by
 refine c8 [.tmp 2] func95 ?_;intro y ⟨b,_⟩ r H Q hn hr;have:=hz (tc K0t tn);refine iA [0]<|qD (fun d=>Z [p 0 (L y218 b),p 3 (O 7)] [(7,A 155 y155 d 0)]) H fun d H=>jN r (fun(e:List F7)=>Z [p 3 (O 7)] [(7,A 155 y155 e 0)]) (Zt) (fun e H=>?_) (fun _ h m k=>?_)
 ·refine iA [2]<|a8<|hr H
 refine iA [0,3,4]<|vB<|lX (fun((a,c):Int×List F7)=>Z [p 0 (L y218 b),p 3 (O 7),p 4 (I a)] [(7,A 155 y155 c 0)]) (0,d) H fun _ j i g l ⟨a,c⟩ H=>vQ<|iA [0,3,4,11]<|cD H (fun H=>vK<|fQ<|vQ<|vB<|zD (fun f=>Z [p 0 (L y218 b),p 3 (O 7),p 4 (I a)] [(7,A 155 y155 (c.set a.toNat f) 0)]) H fun f H=>fK<|fQ<|jB [0,3,4] H fun H=>i H) fun H=>vE<|fE<|g<|fX rfl<|h H
def Lq(a:Kt):Option p9 :=
 gd ((Lp a.1).isSome/\True)<|lt (vl (Lp a.1)) fun c =>
 gd ((Lo a.2.1).isSome/\True)<|lt (vl (Lo a.2.1)) fun d =>
 gd ((Ln a.2.2).isSome/\True)<|lt (vl (Ln a.2.2)) fun b =>
 some (c,d,b)
def k46:Ct:=c7 46 [.agg BK] (fun x=>Lq x.1) (fun r:p9=>AV.agg [AV.ow 155 true y155 r.1,AV.ow 9 true Ty.str r.2.1,AV.ow 231 true y231 r.2.2]) (fun _=>())
theorem Zv:Ok prog k46:=by
 refine c8 [.cell 2 53] func46 ?_;intro y ⟨_,_⟩ r H Q hn hr;have:=hz (tc Zq (tc Zs (tc Zu tn)));refine iA [1,2]<|iA [1,2,3]<|iD Zu [1,2,3] H fun _ H=>iD Zs [1,2,3] H fun _ H=>iD Zq [2,3] H fun _ H=>iA [2]<|a8<|hr H
def Iu(a:AX):Option o5 :=
 gd ((N5 a.1).isSome/\True)<|lt (vl (N5 a.1)) fun c =>
 gd ((N5 a.2.1).isSome/\True)<|lt (vl (N5 a.2.1)) fun d =>
 gd ((N5 a.2.2).isSome/\True)<|lt (vl (N5 a.2.2)) fun b =>
 some (c,d,b)
def Q0u:Ct:=c7 271 [.agg y342] (fun x=>Iu x.1) (fun r:o5=>AV.agg [AV.ow 2 true i64 r.1,AV.ow 2 true i64 r.2.1,AV.ow 2 true i64 r.2.2]) (fun _=>())
theorem O0A:Ok prog Q0u:=by
 refine c8 [.cell 2 269] func271 ?_;intro y ⟨_,_⟩ r H Q hn hr;have:=hz (tc T3 tn);refine iA [1,2]<|iA [1,2,3]<|iD T3 [1,2,3] H fun _ H=>iD T3 [1,2,3] H fun _ H=>iD T3 [2,3] H fun _ H=>iA [2]<|a8<|hr H
def K0D:Ct:=c7 271 [.agg y342] (fun x=>Iu x.1) (fun r=>frz ((fun r:o5=>AV.agg [AV.ow 2 true i64 r.1,AV.ow 2 true i64 r.2.1,AV.ow 2 true i64 r.2.2]) r)) (fun _=>())
theorem K0e:Ok prog K0D:=Is O0A
def Zw:List o5->Option (List o5)
 | a =>
 some a
def F0C(b:List AX)(d:Int×List o5->Option (List o5)):Int×List o5->Option (List o5)
 | (a,c) =>
 if(decide (a < (b.length:Int))) then
  gd (ix a b.length/\(Iu (b.getD a.toNat (a7 y342))).isSome/\ix a c.length/\a.toNat<c.length/\True)<|lt (vl (Iu (b.getD a.toNat (a7 y342)))) fun e =>
  gd (b9 (a+1)/\True) <|
  d (a+1,c.set a.toNat e)
 else
  Zw c
def GA(a:List AX):Option (List o5) :=
 gd ((0<=(a.length:Int)/\(a.length:Int)=(a.length:Int)/\(a.length:Int).toNat*72<=281474976710656/\(a.length:Int)<=9223372036854775807)/\True) <|
 lp (F0C a) ((0,List.replicate (a.length:Int).toNat ([],[],[])))
def Q0D:Ct:=c7 257 [.dat y342.sl] (fun x=>GA x.1) (fun r:List o5=>AV.ow 269 true y269 r) (fun _=>())
theorem SJ:Ok prog Q0D:=by
 refine c8 [.tmp 2] func257 ?_;intro y ⟨b,_⟩ r H Q hn hr;have:=hz (tc K0e tn);refine iA [0]<|iB [0,3] H fun H=>jN r (fun(d:List o5)=>Z [p 3 (O 7)] [(7,A 269 y269 d 0)]) (Zw) (fun d H=>?_) (fun _ g l j=>?_)
 ·refine iA [2]<|a8<|hr H
 refine iA [0,3,4]<|vB<|lX (fun((a,c):Int×List o5)=>Z [p 0 (L y342 b),p 3 (O 7),p 4 (I a)] [(7,A 269 y269 c 0)]) ((0,List.replicate (b.length:Int).toNat ([],[],[]))) H fun _ i h f k ⟨a,c⟩ H=>vQ<|iA [0,3,4,11]<|cD H (fun H=>vK<|fQ<|vQ<|vB<|zD (fun e=>Z [p 0 (L y342 b),p 3 (O 7),p 4 (I a)] [(7,A 269 y269 (c.set a.toNat e) 0)]) H fun e H=>fK<|fQ<|jB [0,3,4] H fun H=>h H) fun H=>vE<|fE<|f<|fX rfl<|g H
def Iv(a:BL):Option A6 :=
 gd ((GA a.2.2.2.2.1).isSome/\True)<|lt (vl (GA a.2.2.2.2.1)) fun b =>
 gd ((GA a.2.2.2.2.2).isSome/\True)<|lt (vl (GA a.2.2.2.2.2)) fun c =>
 some (a.1,a.2.1,a.2.2.1,a.2.2.2.1,b,c)
def Q0T:Ct:=c7 231 [.agg y300] (fun x=>Iv x.1) (fun r:A6=>AV.agg [I r.1,I r.2.1,I r.2.2.1,I r.2.2.2.1,AV.ow 269 true y269 r.2.2.2.2.1,AV.ow 269 true y269 r.2.2.2.2.2]) (fun _=>())
theorem O0O:Ok prog Q0T:=by
 refine c8 [.cell 2 158] func231 ?_;intro y ⟨_,_⟩ r H Q hn hr;have:=hz (tc SJ tn);refine iA [1,2]<|iA [1,2,3]<|iA [1,2,3]<|iA [1,2,3]<|iA [1,2,3]<|iA [1,2,3]<|iD SJ [1,2,3] H fun _ H=>iD SJ [2,3] H fun _ H=>iA [2]<|a8<|hr H
def K0E:Ct:=c7 231 [.agg y300] (fun x=>Iv x.1) (fun r=>frz ((fun r:A6=>AV.agg [I r.1,I r.2.1,I r.2.2.1,I r.2.2.2.1,AV.ow 269 true y269 r.2.2.2.2.1,AV.ow 269 true y269 r.2.2.2.2.2]) r)) (fun _=>())
theorem K0k:Ok prog K0E:=Is O0O
def Zx:List A6->Option (List A6)
 | a =>
 some a
def G0c(b:List BL)(d:Int×List A6->Option (List A6)):Int×List A6->Option (List A6)
 | (a,c) =>
 if(decide (a < (b.length:Int))) then
  gd (ix a b.length/\(Iv (b.getD a.toNat (a7 y300))).isSome/\ix a c.length/\a.toNat<c.length/\True)<|lt (vl (Iv (b.getD a.toNat (a7 y300)))) fun e =>
  gd (b9 (a+1)/\True) <|
  d (a+1,c.set a.toNat e)
 else
  Zx c
def Lr(a:List BL):Option (List A6) :=
 gd ((0<=(a.length:Int)/\(a.length:Int)=(a.length:Int)/\(a.length:Int).toNat*80<=281474976710656/\(a.length:Int)<=9223372036854775807)/\True)<|lt (List.replicate (a.length:Int).toNat ((0:Int),(0:Int),(0:Int),(0:Int),[],[])) fun b =>
 lp (G0c a) (0,b)
def R0y:Ct:=c7 195 [.dat y300.sl] (fun x=>Lr x.1) (fun r:List A6=>AV.ow 158 true y158 r) (fun _=>())
theorem Zy:Ok prog R0y:=by
 refine c8 [.tmp 2] func195 ?_;intro y ⟨b,_⟩ r H Q hn hr;have:=hz (tc K0k tn);refine iA [0]<|qD (fun d=>Z [p 0 (L y300 b),p 3 (O 7)] [(7,A 158 y158 d 0)]) H fun d H=>jN r (fun(e:List A6)=>Z [p 3 (O 7)] [(7,A 158 y158 e 0)]) (Zx) (fun e H=>?_) (fun _ h m k=>?_)
 ·refine iA [2]<|a8<|hr H
 refine iA [0,3,4]<|vB<|lX (fun((a,c):Int×List A6)=>Z [p 0 (L y300 b),p 3 (O 7),p 4 (I a)] [(7,A 158 y158 c 0)]) (0,d) H fun _ j i g l ⟨a,c⟩ H=>vQ<|iA [0,3,4,11]<|cD H (fun H=>vK<|fQ<|vQ<|vB<|zD (fun f=>Z [p 0 (L y300 b),p 3 (O 7),p 4 (I a)] [(7,A 158 y158 (c.set a.toNat f) 0)]) H fun f H=>fK<|fQ<|jB [0,3,4] H fun H=>i H) fun H=>vE<|fE<|g<|fX rfl<|h H
def Ls(a:BM):Option F3 :=
 some a
def Q0U:Ct:=c7 230 [.agg y296] (fun x=>Ls x.1) (fun r:F3=>AV.agg [S r.1,I r.2.1,I r.2.2.1,B r.2.2.2]) (fun _=>())
theorem Zz:Ok prog Q0U:=by
 refine c8 [.cell 2 293] func230 ?_;intro y ⟨_,_⟩ r H Q hn hr;refine iA [1,2]<|iA [1,2,3]<|iA [1,2,3]<|iA [1,2,3]<|iA [1,2,3]<|iA [2,3]<|iA [2]<|a8<|hr H
def ZA:List F3->Option (List F3)
 | a =>
 some a
def G0e(b:List BM)(d:Int×List F3->Option (List F3)):Int×List F3->Option (List F3)
 | (a,c) =>
 if(decide (a < (b.length:Int))) then
  gd (ix a b.length/\(Ls (b.getD a.toNat (a7 y296))).isSome/\ix a c.length/\a.toNat<c.length/\True)<|lt (vl (Ls (b.getD a.toNat (a7 y296)))) fun e =>
  gd (b9 (a+1)/\True) <|
  d (a+1,c.set a.toNat e)
 else
  ZA c
def Lt(a:List BM):Option (List F3) :=
 gd ((0<=(a.length:Int)/\(a.length:Int)=(a.length:Int)/\(a.length:Int).toNat*40<=281474976710656/\(a.length:Int)<=9223372036854775807)/\True)<|lt (List.replicate (a.length:Int).toNat (ByteArray.mk #[],(0:Int),(0:Int),false)) fun b =>
 lp (G0e a) (0,b)
def R0z:Ct:=c7 194 [.dat y296.sl] (fun x=>Lt x.1) (fun r:List F3=>AV.ow 293 true y293 r) (fun _=>())
theorem ZB:Ok prog R0z:=by
 refine c8 [.tmp 2] func194 ?_;intro y ⟨c,_⟩ r H Q hn hr;have:=hz (tc Zz tn);refine iA [0]<|qD (fun a=>Z [p 0 (L y296 c),p 3 (O 7)] [(7,A 293 y293 a 0)]) H fun a H=>jN r (fun(b:List F3)=>Z [p 3 (O 7)] [(7,A 293 y293 b 0)]) (ZA) (fun b H=>?_) (fun _ g l j=>?_)
 ·refine iA [2]<|a8<|hr H
 refine iA [0,3,4]<|vB<|lX (fun((e,d):Int×List F3)=>Z [p 0 (L y296 c),p 3 (O 7),p 4 (I e)] [(7,A 293 y293 d 0)]) (0,a) H fun _ i h f k ⟨e,d⟩ H=>vQ<|iA [0,3,4,11]<|cD H (fun H=>vK<|fQ<|vQ<|vB<|jD Zz [0,3,4] H fun _ H=>fK<|fQ<|jB [0,3,4] H fun H=>h H) fun H=>vE<|fE<|f<|fX rfl<|g H
def Iw(a:X5):Option l6 :=
 gd ((Lt a.2.2.1).isSome/\True)<|lt (vl (Lt a.2.2.1)) fun c =>
 gd ((Lr a.2.2.2.1).isSome/\True)<|lt (vl (Lr a.2.2.2.1)) fun d =>
 gd ((N5 a.2.2.2.2.1).isSome/\True)<|lt (vl (N5 a.2.2.2.2.1)) fun b =>
 some (a.1,a.2.1,c,d,b,a.2.2.2.2.2)
def S0r:Ct:=c7 144 [.agg y216] (fun x=>Iw x.1) (fun r:l6=>AV.agg [S r.1,I r.2.1,AV.ow 293 true y293 r.2.2.1,AV.ow 158 true y158 r.2.2.2.1,AV.ow 2 true i64 r.2.2.2.2.1,I r.2.2.2.2.2.1,I r.2.2.2.2.2.2]) (fun _=>())
theorem P0v:Ok prog S0r:=by
 refine c8 [.cell 2 153] func144 ?_;intro y ⟨_,_⟩ r H Q hn hr;have:=hz (tc T3 (tc Zy (tc ZB tn)));refine iA [1,2]<|iA [1,2,3]<|iA [1,2,3]<|iA [1,2,3]<|iD ZB [1,2,3] H fun _ H=>iD Zy [1,2,3] H fun _ H=>iD T3 [1,2,3] H fun _ H=>iA [1,2,3]<|iA [2,3]<|iA [2] ?_
 exact a8<|hr H
def K0H:Ct:=c7 144 [.agg y216] (fun x=>Iw x.1) (fun r=>frz ((fun r:l6=>AV.agg [S r.1,I r.2.1,AV.ow 293 true y293 r.2.2.1,AV.ow 158 true y158 r.2.2.2.1,AV.ow 2 true i64 r.2.2.2.2.1,I r.2.2.2.2.2.1,I r.2.2.2.2.2.2]) r)) (fun _=>())
theorem K0u:Ok prog K0H:=Is P0v
def ZC:List l6->Option (List l6)
 | a =>
 some a
def J0i(b:List X5)(d:Int×List l6->Option (List l6)):Int×List l6->Option (List l6)
 | (a,c) =>
 if(decide (a < (b.length:Int))) then
  gd (ix a b.length/\(Iw (b.getD a.toNat (a7 y216))).isSome/\ix a c.length/\a.toNat<c.length/\True)<|lt (vl (Iw (b.getD a.toNat (a7 y216)))) fun e =>
  gd (b9 (a+1)/\True) <|
  d (a+1,c.set a.toNat e)
 else
  ZC c
def Lu(a:List X5):Option (List l6) :=
 gd ((0<=(a.length:Int)/\(a.length:Int)=(a.length:Int)/\(a.length:Int).toNat*112<=281474976710656/\(a.length:Int)<=9223372036854775807)/\True)<|lt (List.replicate (a.length:Int).toNat (ByteArray.mk #[],(0:Int),[],[],[],(0:Int),(0:Int))) fun b =>
 lp (J0i a) (0,b)
def k94:Ct:=c7 94 [.dat y216.sl] (fun x=>Lu x.1) (fun r:List l6=>AV.ow 153 true y153 r) (fun _=>())
theorem ZD:Ok prog k94:=by
 refine c8 [.tmp 2] func94 ?_;intro y ⟨b,_⟩ r H Q hn hr;have:=hz (tc K0u tn);refine iA [0]<|qD (fun d=>Z [p 0 (L y216 b),p 3 (O 7)] [(7,A 153 y153 d 0)]) H fun d H=>jN r (fun(e:List l6)=>Z [p 3 (O 7)] [(7,A 153 y153 e 0)]) (ZC) (fun e H=>?_) (fun _ h m k=>?_)
 ·refine iA [2]<|a8<|hr H
 refine iA [0,3,4]<|vB<|lX (fun((a,c):Int×List l6)=>Z [p 0 (L y216 b),p 3 (O 7),p 4 (I a)] [(7,A 153 y153 c 0)]) (0,d) H fun _ j i g l ⟨a,c⟩ H=>vQ<|iA [0,3,4,11]<|cD H (fun H=>vK<|fQ<|vQ<|vB<|zD (fun f=>Z [p 0 (L y216 b),p 3 (O 7),p 4 (I a)] [(7,A 153 y153 (c.set a.toNat f) 0)]) H fun f H=>fK<|fQ<|jB [0,3,4] H fun H=>i H) fun H=>vE<|fE<|g<|fX rfl<|h H
def Lv(a:List X5):Option (List l6) :=
 gd ((Lu a).isSome/\True)<|lt (vl (Lu a)) fun b =>
 some b
def CF:Ct:=c7 45 [.agg y216.sl] (fun x=>Lv x.1) (fun r:List l6=>AV.agg [AV.ow 153 true y153 r]) (fun _=>())
theorem ZE:Ok prog CF:=by
 refine c8 [.cell 2 49] func45 ?_;intro y ⟨_,_⟩ r H Q hn hr;have:=hz (tc ZD tn);refine iA [1,2]<|iA [1,2,3]<|iD ZD [2,3] H fun _ H=>iA [2]<|a8<|hr H
def Lw(a:Dm):Option j1 :=
 gd ((Lv a.1).isSome/\True)<|lt (vl (Lv a.1)) fun c =>
 gd ((Lq a.2.1).isSome/\True)<|lt (vl (Lq a.2.1)) fun d =>
 gd ((Ll a.2.2).isSome/\True)<|lt (vl (Ll a.2.2)) fun b =>
 some (c,d,b)
def k12:Ct:=c7 12 [.agg Z7] (fun x=>Lw x.1) (fun r:j1=>AV.agg [AV.ow 153 true y153 r.1,AV.ow 155 true y155 r.2.1.1,AV.ow 9 true Ty.str r.2.1.2.1,AV.ow 231 true y231 r.2.1.2.2,AV.ow 172 true y172 r.2.2]) (fun _=>())
theorem o12:Ok prog k12:=by
 refine c8 [.cell 2 56] func12 ?_;intro y ⟨_,_⟩ r H Q hn hr;have:=hz (tc Zn (tc Zv (tc ZE tn)));refine iA [1,2]<|iA [1,2,3]<|iD ZE [1,2,3] H fun _ H=>iD Zv [1,2,3] H fun _ H=>iD Zn [2,3] H fun _ H=>iA [2]<|a8<|hr H
def Lx(a:Dn):Option r5 :=
 some a
def k13:Ct:=c7 13 [.agg Z8] (fun x=>Lx x.1) (fun r:r5=>AV.agg [S r.1,I r.2.1,I r.2.2.1,I r.2.2.2.1,I r.2.2.2.2]) (fun _=>())
theorem o13:Ok prog k13:=by
 refine c8 [.cell 2 58] func13 ?_;intro y ⟨_,_⟩ r H Q hn hr;refine iA [1,2]<|iA [1,2,3]<|iA [1,2,3]<|iA [1,2,3]<|iA [1,2,3]<|iA [1,2,3]<|iA [2,3]<|iA [2]<|a8<|hr H
def Dw(a:BO):Option B0 :=
 some a
def k99:Ct:=c7 99 [.agg y104] (fun x=>Dw x.1) (fun r:B0=>AV.agg [I r.1,I r.2]) (fun _=>())
theorem Ly:Ok prog k99:=by
 refine c8 [.cell 2 73] func99 ?_;intro y ⟨_,_⟩ r H Q hn hr;refine iA [1,2]<|iA [1,2,3]<|iA [1,2,3]<|iA [2,3]<|iA [2]<|a8<|hr H
def Lz(a:BN):Option r8 :=
 gd ((Dw a.2.1).isSome/\True)<|lt (vl (Dw a.2.1)) fun b =>
 gd ((Dw a.2.2).isSome/\True)<|lt (vl (Dw a.2.2)) fun c =>
 some (a.1,b,c)
def k48:Ct:=c7 48 [.agg y106] (fun x=>Lz x.1) (fun r:r8=>AV.agg [I r.1,I r.2.1.1,I r.2.1.2,I r.2.2.1,I r.2.2.2]) (fun _=>())
theorem ZF:Ok prog k48:=by
 refine c8 [.cell 2 75] func48 ?_;intro y ⟨_,_⟩ r H Q hn hr;have:=hz (tc Ly tn);refine iA [1,2]<|iA [1,2,3]<|iA [1,2,3]<|iD Ly [1,2,3] H fun _ H=>iD Ly [2,3] H fun _ H=>iA [2]<|a8<|hr H
def ZG:List r8->Option (List r8)
 | a =>
 some a
def J0E(b:List BN)(d:Int×List r8->Option (List r8)):Int×List r8->Option (List r8)
 | (a,c) =>
 if(decide (a < (b.length:Int))) then
  gd (ix a b.length/\(Lz (b.getD a.toNat (a7 y106))).isSome/\ix a c.length/\a.toNat<c.length/\True)<|lt (vl (Lz (b.getD a.toNat (a7 y106)))) fun e =>
  gd (b9 (a+1)/\True) <|
  d (a+1,c.set a.toNat e)
 else
  ZG c
def OR(a:List BN):Option (List r8) :=
 gd ((0<=(a.length:Int)/\(a.length:Int)=(a.length:Int)/\(a.length:Int).toNat*40<=281474976710656/\(a.length:Int)<=9223372036854775807)/\True)<|lt (List.replicate (a.length:Int).toNat ((0:Int),((0:Int),(0:Int)),(0:Int),(0:Int))) fun b =>
 lp (J0E a) (0,b)
def k15:Ct:=c7 15 [.dat y106.sl] (fun x=>OR x.1) (fun r:List r8=>AV.ow 75 true y75 r) (fun _=>())
theorem OS:Ok prog k15:=by
 refine c8 [.tmp 2] func15 ?_;intro y ⟨c,_⟩ r H Q hn hr;have:=hz (tc ZF tn);refine iA [0]<|qD (fun a=>Z [p 0 (L y106 c),p 3 (O 7)] [(7,A 75 y75 a 0)]) H fun a H=>jN r (fun(b:List r8)=>Z [p 3 (O 7)] [(7,A 75 y75 b 0)]) (ZG) (fun b H=>?_) (fun _ g l j=>?_)
 ·refine iA [2]<|a8<|hr H
 refine iA [0,3,4]<|vB<|lX (fun((e,d):Int×List r8)=>Z [p 0 (L y106 c),p 3 (O 7),p 4 (I e)] [(7,A 75 y75 d 0)]) (0,a) H fun _ i h f k ⟨e,d⟩ H=>vQ<|iA [0,3,4,11]<|cD H (fun H=>vK<|fQ<|vQ<|vB<|jD ZF [0,3,4] H fun _ H=>fK<|fQ<|jB [0,3,4] H fun H=>h H) fun H=>vE<|fE<|f<|fX rfl<|g H
def ZH:List B0->Option (List B0)
 | a =>
 some a
def J0q(b:List BO)(d:Int×List B0->Option (List B0)):Int×List B0->Option (List B0)
 | (a,c) =>
 if(decide (a < (b.length:Int))) then
  gd (ix a b.length/\(Dw (b.getD a.toNat (a7 y104))).isSome/\ix a c.length/\a.toNat<c.length/\True)<|lt (vl (Dw (b.getD a.toNat (a7 y104)))) fun e =>
  gd (b9 (a+1)/\True) <|
  d (a+1,c.set a.toNat e)
 else
  ZH c
def GB(a:List BO):Option (List B0) :=
 gd ((0<=(a.length:Int)/\(a.length:Int)=(a.length:Int)/\(a.length:Int).toNat*16<=281474976710656/\(a.length:Int)<=9223372036854775807)/\True)<|lt (List.replicate (a.length:Int).toNat ((0:Int),(0:Int))) fun b =>
 lp (J0q a) (0,b)
def k50:Ct:=c7 50 [.dat y104.sl] (fun x=>GB x.1) (fun r:List B0=>AV.ow 73 true y73 r) (fun _=>())
theorem SK:Ok prog k50:=by
 refine c8 [.tmp 2] func50 ?_;intro y ⟨c,_⟩ r H Q hn hr;have:=hz (tc Ly tn);refine iA [0]<|qD (fun a=>Z [p 0 (L y104 c),p 3 (O 7)] [(7,A 73 y73 a 0)]) H fun a H=>jN r (fun(b:List B0)=>Z [p 3 (O 7)] [(7,A 73 y73 b 0)]) (ZH) (fun b H=>?_) (fun _ g l j=>?_)
 ·refine iA [2]<|a8<|hr H
 refine iA [0,3,4]<|vB<|lX (fun((e,d):Int×List B0)=>Z [p 0 (L y104 c),p 3 (O 7),p 4 (I e)] [(7,A 73 y73 d 0)]) (0,a) H fun _ i h f k ⟨e,d⟩ H=>vQ<|iA [0,3,4,11]<|cD H (fun H=>vK<|fQ<|vQ<|vB<|jD Ly [0,3,4] H fun _ H=>fK<|fQ<|jB [0,3,4] H fun H=>h H) fun H=>vE<|fE<|f<|fX rfl<|g H
def ZI:List Bool->Option (List Bool)
 | a =>
 some a
def J0r(c:List Bool)(d:Int×List Bool->Option (List Bool)):Int×List Bool->Option (List Bool)
 | (a,b) =>
 if(decide (a < (c.length:Int))) then
  gd (ix a c.length/\ix a b.length/\a.toNat<b.length/\True) <|
  gd (b9 (a+1)/\True) <|
  d ((a+1,b.set a.toNat (c.getD a.toNat false)))
 else
  ZI b
def LA(a:List Bool):Option (List Bool) :=
 gd ((0<=(a.length:Int)/\(a.length:Int)=(a.length:Int)/\(a.length:Int).toNat*1<=281474976710656/\(a.length:Int)<=9223372036854775807)/\True) <|
 lp (J0r a) ((0,List.replicate (a.length:Int).toNat false))
def k49:Ct:=c7 49 [.dat Ty.bool.sl] (fun x=>LA x.1) (fun r:List Bool=>AV.ow 4 true Ty.bool r) (fun _=>())
theorem ZJ:Ok prog k49:=by
 refine c8 [.tmp 2] func49 ?_;intro y ⟨a,_⟩ r H Q hn hr;refine iA [0]<|iB [0,3] H fun H=>jN r (fun(b:List Bool)=>Z [p 3 (O 7)] [(7,A 4 Ty.bool b 0)]) (ZI) (fun b H=>?_) (fun _ f k i=>?_)
 ·refine iA [2]<|a8<|hr H
 refine iA [0,3,4]<|vB<|lX (fun((c,d):Int×List Bool)=>Z [p 0 (L Ty.bool a),p 3 (O 7),p 4 (I c)] [(7,A 4 Ty.bool d 0)]) ((0,List.replicate (a.length:Int).toNat false)) H fun _ h g e j ⟨c,d⟩ H=>vQ<|iA [0,3,4,11]<|cD H (fun H=>vK<|fQ<|vQ<|vB<|jB [0,3,4] H fun H=>fK<|fQ<|jB [0,3,4] H fun H=>g H) fun H=>vE<|fE<|e<|fX rfl<|f H
def u16(a:Dp):Option C0 :=
 gd ((LA a.1).isSome/\True)<|lt (vl (LA a.1)) fun c =>
 gd ((GB a.2.1).isSome/\True)<|lt (vl (GB a.2.1)) fun d =>
 gd ((GB a.2.2).isSome/\True)<|lt (vl (GB a.2.2)) fun b =>
 some (c,d,b)
def k16:Ct:=c7 16 [.agg AY] (fun x=>u16 x.1) (fun r:C0=>AV.agg [AV.ow 4 true Ty.bool r.1,AV.ow 73 true y73 r.2.1,AV.ow 73 true y73 r.2.2]) (fun _=>())
theorem o16:Ok prog k16:=by
 refine c8 [.cell 2 65] func16 ?_;intro y ⟨_,_⟩ r H Q hn hr;have:=hz (tc SK (tc ZJ tn));refine iA [1,2]<|iA [1,2,3]<|iD ZJ [1,2,3] H fun _ H=>iD SK [1,2,3] H fun _ H=>iD SK [2,3] H fun _ H=>iA [2]<|a8<|hr H
def ZK:Unit->Option Bool
 | _ =>
 some true
def J0A(b:List Int)(c:List Int)(d:Int->Option Bool):Int->Option Bool
 | a =>
 if(decide (a < (b.length:Int))) then
  gd (ix a b.length/\ix a c.length/\True) <|
  if(b.getD a.toNat 0 != c.getD a.toNat 0) then
   some false
  else
   gd (b9 (a+1)/\True) <|
   d (a+1)
 else
  ZK ()
def M6(b:List Int)(a:List Int):Option Bool :=
 if((b.length:Int) != (a.length:Int)) then
  some false
 else
  lp (J0A b a) 0
def k19:Ct:=c7 19 [.dat i64.sl,.dat i64.sl] (fun x=>M6 x.1 x.2.1) (fun r:Bool=>B r) (fun _=>())
theorem Fu:Ok prog k19:=by
 refine c8 [.tmp 4] func19 ?_;intro y ⟨e,f,_⟩ r H Q hn hr;refine iA [0,1]<|vQ<|iA [0,1,10]<|cD H (fun H=>iA [4]<|a8<|fR<|hr H) fun H=>vK<|fQ<|jN r (fun(_:Unit)=>Z [] []) (ZK) (fun _ H=>?_) (fun _ d j c=>?_)
 ·refine iA [4]<|a8<|hr H
 refine iA [0,1,5]<|vB<|lX (fun(a:Int)=>Z [p 0 (L i64 e),p 1 (L i64 f),p 5 (I a)] []) 0 H fun _ i g b h a H=>vQ<|iA [0,1,5,14]<|cD H (fun H=>?_) (fun H=>?_)
 ·refine vK<|fQ<|vQ<|vB<|iB [0,1,5,25] H fun H=>cD H (fun H=>iA [4]<|a8<|j0<|fR<|h<|j0<|c<|hr H) fun H=>vK<|fK<|fQ<|jB [0,1,5] H fun H=>g H
 exact vE<|fE<|b<|fX rfl<|d H
def LB(b:C3)(a:C3):Option Bool :=
 gd ((M6 b.1 a.1).isSome/\True) <|
 if(!vl (M6 b.1 a.1)) then
  some false
 else
  gd ((M6 b.2.1 a.2.1).isSome/\True) <|
  if(!vl (M6 b.2.1 a.2.1)) then
   some false
  else
   gd ((M6 b.2.2.1 a.2.2.1).isSome/\True) <|
   if(!vl (M6 b.2.2.1 a.2.2.1)) then
    some false
   else
    gd ((M6 b.2.2.2 a.2.2.2).isSome/\True) <|
    if(!vl (M6 b.2.2.2 a.2.2.2)) then
     some false
    else
     some true
def S0J:Ct:=c7 117 [.agg y172,.agg y172] (fun x=>LB x.1 x.2.1) (fun r:Bool=>B r) (fun _=>())
theorem P0A:Ok prog S0J:=by
 refine c8 [.tmp 4] func117 ?_;intro y ⟨_,_,_⟩ r H Q hn hr;have:=hz (tc Fu tn);refine iA [2,3]<|vQ<|iB [2,3,10] H fun H=>cD H (fun H=>iA [4]<|a8<|fR<|hr H) fun H=>vK<|fQ<|vQ<|iB [2,3,16] H fun H=>cD H (fun H=>iA [4]<|a8<|fR<|hr H) fun H=>vK<|fQ<|vQ<|iB [2,3,22] H fun H=>cD H (fun H=>iA [4]<|a8<|fR<|hr H) fun H=>vK<|fQ<|vQ<|iB [28] H fun H=>cD H (fun H=>iA [4]<|a8<|fR<|hr H) fun H=>vK<|fQ<|iA [4]<|a8<|hr H
def ZL:Unit->Option Bool
 | _ =>
 some true
def J0p(b:List C3)(c:List C3)(d:Int->Option Bool):Int->Option Bool
 | a =>
 if(decide (a < (b.length:Int))) then
  gd (ix a b.length/\ix a c.length/\(LB (b.getD a.toNat (a7 y172)) (c.getD a.toNat (a7 y172))).isSome/\True) <|
  if(!vl (LB (b.getD a.toNat (a7 y172)) (c.getD a.toNat (a7 y172)))) then
   some false
  else
   gd (b9 (a+1)/\True) <|
   d (a+1)
 else
  ZL ()
def LC(b:List C3)(a:List C3):Option Bool :=
 if((b.length:Int) != (a.length:Int)) then
  some false
 else
  lp (J0p b a) 0
def k56:Ct:=c7 56 [.dat y172.sl,.dat y172.sl] (fun x=>LC x.1 x.2.1) (fun r:Bool=>B r) (fun _=>())
theorem o56:Ok prog k56:=by
 refine c8 [.tmp 4] func56 ?_;intro y ⟨e,f,_⟩ r H Q hn hr;have:=hz (tc P0A tn);refine iA [0,1]<|vQ<|iA [0,1,10]<|cD H (fun H=>iA [4]<|a8<|fR<|hr H) fun H=>vK<|fQ<|jN r (fun(_:Unit)=>Z [] []) (ZL) (fun _ H=>?_) (fun _ d j c=>?_)
 ·refine iA [4]<|a8<|hr H
 refine iA [0,1,5]<|vB<|lX (fun(a:Int)=>Z [p 0 (L y172 e),p 1 (L y172 f),p 5 (I a)] []) 0 H fun _ i g b h a H=>vQ<|iA [0,1,5,14]<|cD H (fun H=>?_) (fun H=>?_)
 ·refine vK<|fQ<|vQ<|vB<|iB [0,1,5,26] H fun H=>cD H (fun H=>iA [4]<|a8<|j0<|fR<|h<|j0<|c<|hr H) fun H=>vK<|fK<|fQ<|jB [0,1,5] H fun H=>g H
 exact vE<|fE<|b<|fX rfl<|d H
def LD(b:J3)(a:J3):Option Bool :=
 if(!decide (b.1=a.1)) then
  some false
 else
  if(b.2.1 != a.2.1) then
   some false
  else
   if(b.2.2 != a.2.2) then
    some false
   else
    some true
def R0P:Ct:=c7 174 [.agg y231,.agg y231] (fun x=>LD x.1 x.2.1) (fun r:Bool=>B r) (fun _=>())
theorem P0i:Ok prog R0P:=by
 refine c8 [.tmp 4] func174 ?_;intro y ⟨_,_,_⟩ r H Q hn hr;refine iA [2,3]<|vQ<|iA [2,3,9]<|cD H (fun H=>iA [4]<|a8<|fR<|hr H) fun H=>vK<|fQ<|vQ<|iA [2,3,14]<|cD H (fun H=>iA [4]<|a8<|fR<|hr H) fun H=>vK<|fQ<|vQ<|iA [19]<|cD H (fun H=>iA [4]<|a8<|fR<|hr H) fun H=>vK<|fQ<|iA [4]<|a8<|hr H
def ZM:Unit->Option Bool
 | _ =>
 some true
def G0D(b:List J3)(c:List J3)(d:Int->Option Bool):Int->Option Bool
 | a =>
 if(decide (a < (b.length:Int))) then
  gd (ix a b.length/\ix a c.length/\(LD (b.getD a.toNat (a7 y231)) (c.getD a.toNat (a7 y231))).isSome/\True) <|
  if(!vl (LD (b.getD a.toNat (a7 y231)) (c.getD a.toNat (a7 y231)))) then
   some false
  else
   gd (b9 (a+1)/\True) <|
   d (a+1)
 else
  ZM ()
def LF(b:List J3)(a:List J3):Option Bool :=
 if((b.length:Int) != (a.length:Int)) then
  some false
 else
  lp (G0D b a) 0
def S0K:Ct:=c7 116 [.dat y231.sl,.dat y231.sl] (fun x=>LF x.1 x.2.1) (fun r:Bool=>B r) (fun _=>())
theorem P0B:Ok prog S0K:=by
 refine c8 [.tmp 4] func116 ?_;intro y ⟨e,f,_⟩ r H Q hn hr;have:=hz (tc P0i tn);refine iA [0,1]<|vQ<|iA [0,1,10]<|cD H (fun H=>iA [4]<|a8<|fR<|hr H) fun H=>vK<|fQ<|jN r (fun(_:Unit)=>Z [] []) (ZM) (fun _ H=>?_) (fun _ d j c=>?_)
 ·refine iA [4]<|a8<|hr H
 refine iA [0,1,5]<|vB<|lX (fun(a:Int)=>Z [p 0 (L y231 e),p 1 (L y231 f),p 5 (I a)] []) 0 H fun _ i g b h a H=>vQ<|iA [0,1,5,14]<|cD H (fun H=>?_) (fun H=>?_)
 ·refine vK<|fQ<|vQ<|vB<|iB [0,1,5,26] H fun H=>cD H (fun H=>iA [4]<|a8<|j0<|fR<|h<|j0<|c<|hr H) fun H=>vK<|fK<|fQ<|jB [0,1,5] H fun H=>g H
 exact vE<|fE<|b<|fX rfl<|d H
def ZN:Unit->Option Bool
 | _ =>
 some true
def G0F(b:List ByteArray)(c:List ByteArray)(d:Int->Option Bool):Int->Option Bool
 | a =>
 if(decide (a < (b.length:Int))) then
  gd (ix a b.length/\ix a c.length/\True) <|
  if(!decide (b.getD a.toNat (a7 Ty.str)=c.getD a.toNat (a7 Ty.str))) then
   some false
  else
   gd (b9 (a+1)/\True) <|
   d (a+1)
 else
  ZN ()
def LG(b:List ByteArray)(a:List ByteArray):Option Bool :=
 if((b.length:Int) != (a.length:Int)) then
  some false
 else
  lp (G0F b a) 0
def S0L:Ct:=c7 115 [.dat Ty.str.sl,.dat Ty.str.sl] (fun x=>LG x.1 x.2.1) (fun r:Bool=>B r) (fun _=>())
theorem P0C:Ok prog S0L:=by
 refine c8 [.tmp 4] func115 ?_;intro y ⟨e,f,_⟩ r H Q hn hr;refine iA [0,1]<|vQ<|iA [0,1,10]<|cD H (fun H=>iA [4]<|a8<|fR<|hr H) fun H=>vK<|fQ<|jN r (fun(_:Unit)=>Z [] []) (ZN) (fun _ H=>?_) (fun _ d j c=>?_)
 ·refine iA [4]<|a8<|hr H
 refine iA [0,1,5]<|vB<|lX (fun(a:Int)=>Z [p 0 (L Ty.str e),p 1 (L Ty.str f),p 5 (I a)] []) 0 H fun _ i g b h a H=>vQ<|iA [0,1,5,14]<|cD H (fun H=>?_) (fun H=>?_)
 ·refine vK<|fQ<|vQ<|vB<|iB [0,1,5,25] H fun H=>cD H (fun H=>iA [4]<|a8<|j0<|fR<|h<|j0<|c<|hr H) fun H=>vK<|fK<|fQ<|jB [0,1,5] H fun H=>g H
 exact vE<|fE<|b<|fX rfl<|d H
def LH(b:F7)(a:F7):Option Bool :=
 if(!decide (b.1=a.1)) then
  some false
 else
  if(b.2.1 != a.2.1) then
   some false
  else
   gd ((M6 b.2.2 a.2.2).isSome/\True) <|
   if(!vl (M6 b.2.2 a.2.2)) then
    some false
   else
    some true
def R0Q:Ct:=c7 173 [.agg y155,.agg y155] (fun x=>LH x.1 x.2.1) (fun r:Bool=>B r) (fun _=>())
theorem P0j:Ok prog R0Q:=by
 refine c8 [.tmp 4] func173 ?_;intro y ⟨_,_,_⟩ r H Q hn hr;have:=hz (tc Fu tn);refine iA [2,3]<|vQ<|iA [2,3,9]<|cD H (fun H=>iA [4]<|a8<|fR<|hr H) fun H=>vK<|fQ<|vQ<|iA [2,3,14]<|cD H (fun H=>iA [4]<|a8<|fR<|hr H) fun H=>vK<|fQ<|vQ<|iB [20] H fun H=>cD H (fun H=>iA [4]<|a8<|fR<|hr H) fun H=>vK<|fQ<|iA [4]<|a8<|hr H
end Go.Proofs.YtechodbafnmddaaGreatDoor
end
