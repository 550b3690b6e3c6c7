/- Functions of this program as plain functions of data, and that they are so: printed by program. -/
import Derived.Test.YtechodbafnmddaaGreatDoorXD
import Derived.Test.YtechodbafnmddaaGreatDoorXF
import Derived.Test.YtechodbafnmddaaGreatDoorTY
import Derived.Test.YtechodbafnmddaaGreatDoorLB
section
namespace Go.Proofs.YtechodbafnmddaaGreatDoor
open Go Go.Proofs Go.Proofs.Sv Go.Proofs.Xv Go.Proofs.Xl Go.RowKit
open Tryz
instance:HG Tryz.prog Γ:=⟨Dt⟩
abbrev bx(T:TypeId)(c:List AV):Ob:=.box T c
abbrev b8:Ty:=.int .u8
abbrev Q0(x:j2 (.sl y153)×(j2 (.sl y155)×j2 (.sl Ty.str)×j2 (.sl y231))×j2 (.sl y172)):List AV:=[L y153 x.1,L y155 x.2.1.1,L Ty.str x.2.1.2.1,L y231 x.2.1.2.2,L y172 x.2.2,AV.os 18 0,AV.os 38 0,nil,nil,nil]
abbrev Q1(x:j2 (.sl y153)×(j2 (.sl y155)×j2 (.sl Ty.str)×j2 (.sl y231))×j2 (.sl y172)):List AV:=[L y153 x.1,L y155 x.2.1.1,L Ty.str x.2.1.2.1,L y231 x.2.1.2.2,L y172 x.2.2,AV.os 18 0,AV.os 38 0,AV.os 102 0,AV.os 114 0,nil]
abbrev W0(y0:List (j2 y235))(y1:j2 l5)(y2:List (j2 y138)):List (Nat×Ob):=[(18,A 235 y235 y0 0),(1,K 56 l5 y1),(38,A 138 y138 y2 0)]
abbrev G1(y0:Int)(y1:Int)(y2:Int)(y3:Int)(y4:Int)(y5:Int)(y6:Int)(y7:Int)(y8:Int)(t:List (Nat×Sl)):List (Nat×Sl):=p 3 (J y0) :: p 4 (R 4) :: p 9 (I y1) :: p 10 (I y2) :: p 11 (I y3) :: p 12 (I y4) :: p 13 (I y5) :: p 14 (I y6) :: p 15 (I y7) :: p 16 (I y8) :: t
abbrev G2(t:List (Nat×Sl)):List (Nat×Sl):=p 1 (R 1) :: p 3 (R 20) :: p 7 (O 50) :: t
abbrev G3(y0:List (j2 y138))(y1:List (j2 Ty.bool))(y2:Int)(y3:Int)(y4:Int)(t:List (Nat×Sl)):List (Nat×Sl):=p 2 (L y138 y0) :: p 3 (L Ty.bool y1) :: p 6 (J y2) :: p 7 (J y3) :: p 8 (R 8) :: p 9 (R 9) :: p 13 (R 13) :: p 18 (I y4) :: t
abbrev G4(y0:Int)(y1:List (j2 y138))(y2:List (j2 Ty.bool))(t:List (Nat×Sl)):List (Nat×Sl):=p 0 (J y0) :: p 1 (L y138 y1) :: p 2 (L Ty.bool y2) :: p 8 (O 13) :: p 9 (O 15) :: t
abbrev G5(y0:Int)(y1:Int)(y2:Int)(y3:Int)(t:List (Nat×Sl)):List (Nat×Sl):=p 3 (J y0) :: p 4 (R 4) :: p 10 (I y1) :: p 11 (O 29) :: p 12 (I y2) :: p 13 (I y3) :: t
abbrev G6(y0:Int)(t:List (Nat×Sl)):List (Nat×Sl):=p 1 (R 1) :: p 3 (I y0) :: t
abbrev W7(y0:j2 y189.pt)(y1:List (j2 Ty.bool)):List (Nat×Ob):=[(17,bx 126 [D y189.pt y0,AV.os 15 0]),(15,A 4 Ty.bool y1 0)]
abbrev W8(y0:List (j2 M1))(y1:List (j2 M1))(y2:j2 y269):List (Nat×Ob):=[(29,A 322 M1 y0 0),(22,A 322 M1 y1 0),(4,K 269 y269 y2)]
abbrev G9(t:List (Nat×Sl)):List (Nat×Sl):=p 2 (R 2) :: p 3 (R 3) :: t
abbrev Du(y0:j2 y53)(y1:List (j2 y153)):List (Nat×Ob):=[(3,K 53 y53 y0),(2,bx 49 [L y153 y1])]
abbrev Ia(y0:Int)(y1:Int)(y2:Int)(y3:Int)(t:List (Nat×Sl)):List (Nat×Sl):=p 0 (O 500000) :: p 2 (J y0) :: p 3 (J y1) :: p 4 (J y2) :: p 6 (R 6) :: p 11 (I y3) :: t
abbrev Ge(y0:j2 y65)(y1:j2 u4)(y2:j2 l5):List (Nat×Ob):=[(13,K 65 y65 y0),(9,K 58 u4 y1),(8,K 56 l5 y2)]
abbrev BD(t:List (Nat×Sl)):List (Nat×Sl):=p 1 (R 1) :: p 3 (O 20) :: t
abbrev Ib(y0:Int)(t:List (Nat×Sl)):List (Nat×Sl):=p 1 (R 1) :: p 3 (O 12) :: p 4 (R 4) :: p 5 (I y0) :: t
abbrev Dv(y0:List (j2 i64))(y1:j2 y53):List (Nat×Ob):=[(92,A 2 i64 y0 0),(3,K 53 y53 y1)]
def I4(a:List Int)(b:Int):Option Int :=
 gd (c7 (b-(a.length:Int))/\True) <|
 if(decide (b-(a.length:Int)<0)) then
  some (-1)
 else
  some (b-(a.length:Int))
def P0N:Ct:=c8 137 [.dat i64.sl,.dat i64] (fun x=>I4 x.1 x.2.1) (fun r:Int=>I r) (fun _=>())
theorem U0:Ok prog P0N:=by
 refine c9 [.tmp 4] func137 ?_;intro y ⟨_,_,_⟩ r H Q hn hr;refine iA [0,1]<|iB [1] H fun H=>vQ<|iA [1,10]<|cD H (fun H=>iA [4]<|a8<|fR<|hr H) fun H=>vK<|fQ<|iA [4]<|a8<|hr H
def Ic(a:Ab)(f:Int):Option Int :=
 gd ((I4 a.1 f).isSome/\True)<|lt (vl (I4 a.1 f)) fun d =>
 if(decide (d<0)) then
  some (-1)
 else
  gd ((I4 a.2.1 d).isSome/\True)<|lt (vl (I4 a.2.1 d)) fun b =>
  if(decide (b<0)) then
   some (-1)
  else
   gd ((I4 a.2.2.1 b).isSome/\True)<|lt (vl (I4 a.2.2.1 b)) fun c =>
   if(decide (c<0)) then
    some (-1)
   else
    gd ((I4 a.2.2.2 c).isSome/\True)<|lt (vl (I4 a.2.2.2 c)) fun e =>
    if(decide (e<0)) then
     some (-1)
    else
     some e
def k82:Ct:=c8 82 [.agg y146,.dat i64] (fun x=>Ic x.1 x.2.1) (fun r:Int=>I r) (fun _=>())
theorem Uj:Ok prog k82:=by
 refine c9 [.tmp 4] func82 ?_;intro y ⟨_,_,_⟩ r H Q hn hr;have:=hz (tc U0 tn);refine iA [1,2]<|iD U0 [1,2] H fun _ H=>vQ<|iA [1,2,10]<|cD H (fun H=>iA [4]<|a8<|fR<|hr H) fun H=>vK<|fQ<|iD U0 [1,2] H fun _ H=>vQ<|iA [1,2,16]<|cD H (fun H=>iA [4]<|a8<|fR<|hr H) fun H=>vK<|fQ<|iD U0 [1,2] H fun _ H=>vQ<|iA [1,2,22]<|cD H (fun H=>iA [4]<|a8<|fR<|hr H) fun H=>vK<|fQ<|iD U0 [1] H fun _ H=>vQ<|iA [1,28]<|cD H (fun H=>iA [4]<|a8<|fR<|hr H) fun H=>vK<|fQ<|iA [4]<|a8<|hr H
def Uk:Int->Option Int
 | a =>
 some a
def G0V(b:List Ab)(e:Int×Int->Option Int):Int×Int->Option Int
 | (c,a) =>
 if(decide (a < (b.length:Int))) then
  gd (ix a b.length/\(Ic (b.getD a.toNat (a7 y146)) c).isSome/\True)<|lt (vl (Ic (b.getD a.toNat (a7 y146)) c)) fun d =>
  if(decide (d<0)) then
   some (-1)
  else
   gd (c7 (a+1)/\True) <|
   e (d,a+1)
 else
  Uk c
def Ie(a:List Ab)(b:Int):Option Int :=
 gd (c7 (b-(a.length:Int))/\True) <|
 if(decide (b-(a.length:Int)<0)) then
  some (-1)
 else
  lp (G0V a) ((b-(a.length:Int),0))
def k37:Ct:=c8 37 [.dat y146.sl,.dat i64] (fun x=>Ie x.1 x.2.1) (fun r:Int=>I r) (fun _=>())
theorem Um:Ok prog k37:=by
 refine c9 [.tmp 4] func37 ?_;intro y ⟨c,j,_⟩ r H Q hn hr;have:=hz (tc Uj tn);refine iA [0,1]<|iB [0,1] H fun H=>vQ<|iA [0,1,11]<|cD H (fun H=>iA [4]<|a8<|fR<|hr H) fun H=>vK<|fQ<|jN r (fun(d:Int)=>Z [p 1 (I d)] []) (Uk) (fun d H=>?_) (fun _ f l h=>?_)
 ·refine iA [4]<|a8<|hr H
 refine iA [0,1,5]<|vB<|lX (fun((a,b):Int×Int)=>Z [p 0 (L y146 c),p 1 (I a),p 5 (I b)] []) ((j-(c.length:Int),0)) H fun _ k g i e ⟨a,b⟩ H=>vQ<|iA [0,1,5,15]<|cD H (fun H=>?_) (fun H=>?_)
 ·refine vK<|fQ<|vQ<|vB<|iD Uj [0,1,5] H fun _ H=>iA [0,1,5,25]<|cD H (fun H=>iA [4]<|a8<|h9<|fR<|e<|h9<|h<|hr H) fun H=>vK<|fK<|fQ<|jB [0,1,5] H fun H=>g H
 exact vE<|fE<|i<|fX rfl<|f H
def Ig(a:Ac)(b:Int):Option Int :=
 gd (c7 (b-(a.1.size:Int))/\True) <|
 if(decide (b-(a.1.size:Int)<0)) then
  some (-1)
 else
  some (b-(a.1.size:Int))
def P0O:Ct:=c8 136 [.agg y221,.dat i64] (fun x=>Ig x.1 x.2.1) (fun r:Int=>I r) (fun _=>())
theorem Un:Ok prog P0O:=by
 refine c9 [.tmp 4] func136 ?_;intro y ⟨_,_,_⟩ r H Q hn hr;refine iA [1,2]<|iB [1] H fun H=>vQ<|iA [1,11]<|cD H (fun H=>iA [4]<|a8<|fR<|hr H) fun H=>vK<|fQ<|iA [4]<|a8<|hr H
def Uo:Int->Option Int
 | a =>
 some a
def G0L(b:List Ac)(e:Int×Int->Option Int):Int×Int->Option Int
 | (c,a) =>
 if(decide (a < (b.length:Int))) then
  gd (ix a b.length/\(Ig (b.getD a.toNat (a7 y221)) c).isSome/\True)<|lt (vl (Ig (b.getD a.toNat (a7 y221)) c)) fun d =>
  if(decide (d<0)) then
   some (-1)
  else
   gd (c7 (a+1)/\True) <|
   e (d,a+1)
 else
  Uo c
def Ih(a:List Ac)(b:Int):Option Int :=
 gd (c7 (b-(a.length:Int))/\True) <|
 if(decide (b-(a.length:Int)<0)) then
  some (-1)
 else
  lp (G0L a) ((b-(a.length:Int),0))
def k81:Ct:=c8 81 [.dat y221.sl,.dat i64] (fun x=>Ih x.1 x.2.1) (fun r:Int=>I r) (fun _=>())
theorem Up:Ok prog k81:=by
 refine c9 [.tmp 4] func81 ?_;intro y ⟨c,j,_⟩ r H Q hn hr;have:=hz (tc Un tn);refine iA [0,1]<|iB [0,1] H fun H=>vQ<|iA [0,1,11]<|cD H (fun H=>iA [4]<|a8<|fR<|hr H) fun H=>vK<|fQ<|jN r (fun(d:Int)=>Z [p 1 (I d)] []) (Uo) (fun d H=>?_) (fun _ f l h=>?_)
 ·refine iA [4]<|a8<|hr H
 refine iA [0,1,5]<|vB<|lX (fun((a,b):Int×Int)=>Z [p 0 (L y221 c),p 1 (I a),p 5 (I b)] []) ((j-(c.length:Int),0)) H fun _ k g i e ⟨a,b⟩ H=>vQ<|iA [0,1,5,15]<|cD H (fun H=>?_) (fun H=>?_)
 ·refine vK<|fQ<|vQ<|vB<|iD Un [0,1,5] H fun _ H=>iA [0,1,5,25]<|cD H (fun H=>iA [4]<|a8<|h9<|fR<|e<|h9<|h<|hr H) fun H=>vK<|fK<|fQ<|jB [0,1,5] H fun H=>g H
 exact vE<|fE<|i<|fX rfl<|f H
def Uq:Int->Option Int
 | a =>
 some a
def G0M(b:List ByteArray)(e:Int×Int->Option Int):Int×Int->Option Int
 | (c,a) =>
 if(decide (a < (b.length:Int))) then
  gd (ix a b.length/\c7 (c-(↑(ByteArray.size (b.getD a.toNat (a7 Ty.str))):Int))/\True)<|lt (c-(↑(ByteArray.size (b.getD a.toNat (a7 Ty.str))):Int)) fun d =>
  if(decide (d<0)) then
   some (-1)
  else
   gd (c7 (a+1)/\True) <|
   e (d,a+1)
 else
  Uq c
def Ii(a:List ByteArray)(b:Int):Option Int :=
 gd (c7 (b-(a.length:Int))/\True) <|
 if(decide (b-(a.length:Int)<0)) then
  some (-1)
 else
  lp (G0M a) ((b-(a.length:Int),0))
def k80:Ct:=c8 80 [.dat Ty.str.sl,.dat i64] (fun x=>Ii x.1 x.2.1) (fun r:Int=>I r) (fun _=>())
theorem Ur:Ok prog k80:=by
 refine c9 [.tmp 4] func80 ?_;intro y ⟨b,k,_⟩ r H Q hn hr;refine iA [0,1]<|iB [0,1] H fun H=>vQ<|iA [0,1,11]<|cD H (fun H=>iA [4]<|a8<|fR<|hr H) fun H=>vK<|fQ<|jN r (fun(d:Int)=>Z [p 1 (I d)] []) (Uq) (fun d H=>?_) (fun _ g m i=>?_)
 ·refine iA [4]<|a8<|hr H
 refine iA [0,1,5]<|vB<|lX (fun((c,a):Int×Int)=>Z [p 0 (L Ty.str b),p 1 (I c),p 5 (I a)] []) ((k-(b.length:Int),0)) H fun _ l h j f ⟨c,a⟩ H=>vQ<|iA [0,1,5,15]<|cD H (fun H=>?_) (fun H=>?_)
 ·refine vK<|fQ<|vQ<|vB<|qD (fun e=>Z [p 0 (L Ty.str b),p 1 (I e),p 5 (I a)] []) H fun e H=>iA [0,1,5,26]<|cD H (fun H=>iA [4]<|a8<|h9<|fR<|f<|h9<|i<|hr H) fun H=>vK<|fK<|fQ<|jB [0,1,5] H fun H=>h H
 exact vE<|fE<|j<|fX rfl<|g H
def Ij(a:Ad)(b:Int):Option Int :=
 gd (c7 (b-(a.1.size:Int))/\True) <|
 if(decide (b-(a.1.size:Int)<0)) then
  some (-1)
 else
  gd ((I4 a.2.2 (b-(a.1.size:Int))).isSome/\True)<|lt (vl (I4 a.2.2 (b-(a.1.size:Int)))) fun c =>
  if(decide (c<0)) then
   some (-1)
  else
   some c
def P0P:Ct:=c8 135 [.agg y218,.dat i64] (fun x=>Ij x.1 x.2.1) (fun r:Int=>I r) (fun _=>())
theorem Ut:Ok prog P0P:=by
 refine c9 [.tmp 4] func135 ?_;intro y ⟨_,_,_⟩ r H Q hn hr;have:=hz (tc U0 tn);refine iA [1,2]<|iB [1,2] H fun H=>vQ<|iA [1,2,11]<|cD H (fun H=>iA [4]<|a8<|fR<|hr H) fun H=>vK<|fQ<|iD U0 [1] H fun _ H=>vQ<|iA [1,17]<|cD H (fun H=>iA [4]<|a8<|fR<|hr H) fun H=>vK<|fQ<|iA [4]<|a8<|hr H
def Uu:Int->Option Int
 | a =>
 some a
def G0N(b:List Ad)(e:Int×Int->Option Int):Int×Int->Option Int
 | (c,a) =>
 if(decide (a < (b.length:Int))) then
  gd (ix a b.length/\(Ij (b.getD a.toNat (a7 y218)) c).isSome/\True)<|lt (vl (Ij (b.getD a.toNat (a7 y218)) c)) fun d =>
  if(decide (d<0)) then
   some (-1)
  else
   gd (c7 (a+1)/\True) <|
   e (d,a+1)
 else
  Uu c
def Ik(a:List Ad)(b:Int):Option Int :=
 gd (c7 (b-(a.length:Int))/\True) <|
 if(decide (b-(a.length:Int)<0)) then
  some (-1)
 else
  lp (G0N a) ((b-(a.length:Int),0))
def k79:Ct:=c8 79 [.dat y218.sl,.dat i64] (fun x=>Ik x.1 x.2.1) (fun r:Int=>I r) (fun _=>())
theorem Uv:Ok prog k79:=by
 refine c9 [.tmp 4] func79 ?_;intro y ⟨c,j,_⟩ r H Q hn hr;have:=hz (tc Ut tn);refine iA [0,1]<|iB [0,1] H fun H=>vQ<|iA [0,1,11]<|cD H (fun H=>iA [4]<|a8<|fR<|hr H) fun H=>vK<|fQ<|jN r (fun(d:Int)=>Z [p 1 (I d)] []) (Uu) (fun d H=>?_) (fun _ f l h=>?_)
 ·refine iA [4]<|a8<|hr H
 refine iA [0,1,5]<|vB<|lX (fun((a,b):Int×Int)=>Z [p 0 (L y218 c),p 1 (I a),p 5 (I b)] []) ((j-(c.length:Int),0)) H fun _ k g i e ⟨a,b⟩ H=>vQ<|iA [0,1,5,15]<|cD H (fun H=>?_) (fun H=>?_)
 ·refine vK<|fQ<|vQ<|vB<|iD Ut [0,1,5] H fun _ H=>iA [0,1,5,25]<|cD H (fun H=>iA [4]<|a8<|h9<|fR<|e<|h9<|h<|hr H) fun H=>vK<|fK<|fQ<|jB [0,1,5] H fun H=>g H
 exact vE<|fE<|i<|fX rfl<|f H
def Il(a:Im)(e:Int):Option Int :=
 gd ((Ik a.1 e).isSome/\True)<|lt (vl (Ik a.1 e)) fun c =>
 if(decide (c<0)) then
  some (-1)
 else
  gd ((Ii a.2.1 c).isSome/\True)<|lt (vl (Ii a.2.1 c)) fun b =>
  if(decide (b<0)) then
   some (-1)
  else
   gd ((Ih a.2.2 b).isSome/\True)<|lt (vl (Ih a.2.2 b)) fun d =>
   if(decide (d<0)) then
    some (-1)
   else
    some d
def k36:Ct:=c8 36 [.agg BE,.dat i64] (fun x=>Il x.1 x.2.1) (fun r:Int=>I r) (fun _=>())
theorem Uw:Ok prog k36:=by
 refine c9 [.tmp 4] func36 ?_;intro y ⟨_,_,_⟩ r H Q hn hr;have:=hz (tc Up (tc Ur (tc Uv tn)));refine iA [1,2]<|iD Uv [1,2] H fun _ H=>vQ<|iA [1,2,10]<|cD H (fun H=>iA [4]<|a8<|fR<|hr H) fun H=>vK<|fQ<|iD Ur [1,2] H fun _ H=>vQ<|iA [1,2,16]<|cD H (fun H=>iA [4]<|a8<|fR<|hr H) fun H=>vK<|fQ<|iD Up [1] H fun _ H=>vQ<|iA [1,22]<|cD H (fun H=>iA [4]<|a8<|fR<|hr H) fun H=>vK<|fQ<|iA [4]<|a8<|hr H
def Io(a:W9)(e:Int):Option Int :=
 gd ((I4 a.1 e).isSome/\True)<|lt (vl (I4 a.1 e)) fun c =>
 if(decide (c<0)) then
  some (-1)
 else
  gd ((I4 a.2.1 c).isSome/\True)<|lt (vl (I4 a.2.1 c)) fun b =>
  if(decide (b<0)) then
   some (-1)
  else
   gd ((I4 a.2.2 b).isSome/\True)<|lt (vl (I4 a.2.2 b)) fun d =>
   if(decide (d<0)) then
    some (-1)
   else
    some d
def N0L:Ct:=c8 269 [.agg y342,.dat i64] (fun x=>Io x.1 x.2.1) (fun r:Int=>I r) (fun _=>())
theorem Ux:Ok prog N0L:=by
 refine c9 [.tmp 4] func269 ?_;intro y ⟨_,_,_⟩ r H Q hn hr;have:=hz (tc U0 tn);refine iA [1,2]<|iD U0 [1,2] H fun _ H=>vQ<|iA [1,2,10]<|cD H (fun H=>iA [4]<|a8<|fR<|hr H) fun H=>vK<|fQ<|iD U0 [1,2] H fun _ H=>vQ<|iA [1,2,16]<|cD H (fun H=>iA [4]<|a8<|fR<|hr H) fun H=>vK<|fQ<|iD U0 [1] H fun _ H=>vQ<|iA [1,22]<|cD H (fun H=>iA [4]<|a8<|fR<|hr H) fun H=>vK<|fQ<|iA [4]<|a8<|hr H
def Uy:Int->Option Int
 | a =>
 some a
def D0l(b:List W9)(e:Int×Int->Option Int):Int×Int->Option Int
 | (c,a) =>
 if(decide (a < (b.length:Int))) then
  gd (ix a b.length/\(Io (b.getD a.toNat (a7 y342)) c).isSome/\True)<|lt (vl (Io (b.getD a.toNat (a7 y342)) c)) fun d =>
  if(decide (d<0)) then
   some (-1)
  else
   gd (c7 (a+1)/\True) <|
   e (d,a+1)
 else
  Uy c
def Dw(a:List W9)(b:Int):Option Int :=
 gd (c7 (b-(a.length:Int))/\True) <|
 if(decide (b-(a.length:Int)<0)) then
  some (-1)
 else
  lp (D0l a) ((b-(a.length:Int),0))
def N0Y:Ct:=c8 251 [.dat y342.sl,.dat i64] (fun x=>Dw x.1 x.2.1) (fun r:Int=>I r) (fun _=>())
theorem Pz:Ok prog N0Y:=by
 refine c9 [.tmp 4] func251 ?_;intro y ⟨c,j,_⟩ r H Q hn hr;have:=hz (tc Ux tn);refine iA [0,1]<|iB [0,1] H fun H=>vQ<|iA [0,1,11]<|cD H (fun H=>iA [4]<|a8<|fR<|hr H) fun H=>vK<|fQ<|jN r (fun(d:Int)=>Z [p 1 (I d)] []) (Uy) (fun d H=>?_) (fun _ f l h=>?_)
 ·refine iA [4]<|a8<|hr H
 refine iA [0,1,5]<|vB<|lX (fun((a,b):Int×Int)=>Z [p 0 (L y342 c),p 1 (I a),p 5 (I b)] []) ((j-(c.length:Int),0)) H fun _ k g i e ⟨a,b⟩ H=>vQ<|iA [0,1,5,15]<|cD H (fun H=>?_) (fun H=>?_)
 ·refine vK<|fQ<|vQ<|vB<|iD Ux [0,1,5] H fun _ H=>iA [0,1,5,25]<|cD H (fun H=>iA [4]<|a8<|h9<|fR<|e<|h9<|h<|hr H) fun H=>vK<|fK<|fQ<|jB [0,1,5] H fun H=>g H
 exact vE<|fE<|i<|fX rfl<|f H
def Ip(a:Ae)(d:Int):Option Int :=
 gd ((Dw a.2.2.2.2.1 d).isSome/\True)<|lt (vl (Dw a.2.2.2.2.1 d)) fun b =>
 if(decide (b<0)) then
  some (-1)
 else
  gd ((Dw a.2.2.2.2.2 b).isSome/\True)<|lt (vl (Dw a.2.2.2.2.2 b)) fun c =>
  if(decide (c<0)) then
   some (-1)
  else
   some c
def O0p:Ct:=c8 224 [.agg y300,.dat i64] (fun x=>Ip x.1 x.2.1) (fun r:Int=>I r) (fun _=>())
theorem Uz:Ok prog O0p:=by
 refine c9 [.tmp 4] func224 ?_;intro y ⟨_,_,_⟩ r H Q hn hr;have:=hz (tc Pz tn);refine iA [1,2]<|iD Pz [1,2] H fun _ H=>vQ<|iA [1,2,10]<|cD H (fun H=>iA [4]<|a8<|fR<|hr H) fun H=>vK<|fQ<|iD Pz [1] H fun _ H=>vQ<|iA [1,16]<|cD H (fun H=>iA [4]<|a8<|fR<|hr H) fun H=>vK<|fQ<|iA [4]<|a8<|hr H
def UA:Int->Option Int
 | a =>
 some a
def D0N(b:List Ae)(e:Int×Int->Option Int):Int×Int->Option Int
 | (c,a) =>
 if(decide (a < (b.length:Int))) then
  gd (ix a b.length/\(Ip (b.getD a.toNat (a7 y300)) c).isSome/\True)<|lt (vl (Ip (b.getD a.toNat (a7 y300)) c)) fun d =>
  if(decide (d<0)) then
   some (-1)
  else
   gd (c7 (a+1)/\True) <|
   e (d,a+1)
 else
  UA c
def Iq(a:List Ae)(b:Int):Option Int :=
 gd (c7 (b-(a.length:Int))/\True) <|
 if(decide (b-(a.length:Int)<0)) then
  some (-1)
 else
  lp (D0N a) ((b-(a.length:Int),0))
def O0Z:Ct:=c8 183 [.dat y300.sl,.dat i64] (fun x=>Iq x.1 x.2.1) (fun r:Int=>I r) (fun _=>())
theorem UB:Ok prog O0Z:=by
 refine c9 [.tmp 4] func183 ?_;intro y ⟨c,j,_⟩ r H Q hn hr;have:=hz (tc Uz tn);refine iA [0,1]<|iB [0,1] H fun H=>vQ<|iA [0,1,11]<|cD H (fun H=>iA [4]<|a8<|fR<|hr H) fun H=>vK<|fQ<|jN r (fun(d:Int)=>Z [p 1 (I d)] []) (UA) (fun d H=>?_) (fun _ f l h=>?_)
 ·refine iA [4]<|a8<|hr H
 refine iA [0,1,5]<|vB<|lX (fun((a,b):Int×Int)=>Z [p 0 (L y300 c),p 1 (I a),p 5 (I b)] []) ((j-(c.length:Int),0)) H fun _ k g i e ⟨a,b⟩ H=>vQ<|iA [0,1,5,15]<|cD H (fun H=>?_) (fun H=>?_)
 ·refine vK<|fQ<|vQ<|vB<|iD Uz [0,1,5] H fun _ H=>iA [0,1,5,25]<|cD H (fun H=>iA [4]<|a8<|h9<|fR<|e<|h9<|h<|hr H) fun H=>vK<|fK<|fQ<|jB [0,1,5] H fun H=>g H
 exact vE<|fE<|i<|fX rfl<|f H
def Ir(a:Af)(b:Int):Option Int :=
 gd (c7 (b-(a.1.size:Int))/\True) <|
 if(decide (b-(a.1.size:Int)<0)) then
  some (-1)
 else
  some (b-(a.1.size:Int))
def O0q:Ct:=c8 223 [.agg y296,.dat i64] (fun x=>Ir x.1 x.2.1) (fun r:Int=>I r) (fun _=>())
theorem UC:Ok prog O0q:=by
 refine c9 [.tmp 4] func223 ?_;intro y ⟨_,_,_⟩ r H Q hn hr;refine iA [1,2]<|iB [1] H fun H=>vQ<|iA [1,11]<|cD H (fun H=>iA [4]<|a8<|fR<|hr H) fun H=>vK<|fQ<|iA [4]<|a8<|hr H
def UD:Int->Option Int
 | a =>
 some a
def D0P(b:List Af)(e:Int×Int->Option Int):Int×Int->Option Int
 | (c,a) =>
 if(decide (a < (b.length:Int))) then
  gd (ix a b.length/\(Ir (b.getD a.toNat (a7 y296)) c).isSome/\True)<|lt (vl (Ir (b.getD a.toNat (a7 y296)) c)) fun d =>
  if(decide (d<0)) then
   some (-1)
  else
   gd (c7 (a+1)/\True) <|
   e (d,a+1)
 else
  UD c
def Is(a:List Af)(b:Int):Option Int :=
 gd (c7 (b-(a.length:Int))/\True) <|
 if(decide (b-(a.length:Int)<0)) then
  some (-1)
 else
  lp (D0P a) ((b-(a.length:Int),0))
def P0a:Ct:=c8 182 [.dat y296.sl,.dat i64] (fun x=>Is x.1 x.2.1) (fun r:Int=>I r) (fun _=>())
theorem UE:Ok prog P0a:=by
 refine c9 [.tmp 4] func182 ?_;intro y ⟨c,j,_⟩ r H Q hn hr;have:=hz (tc UC tn);refine iA [0,1]<|iB [0,1] H fun H=>vQ<|iA [0,1,11]<|cD H (fun H=>iA [4]<|a8<|fR<|hr H) fun H=>vK<|fQ<|jN r (fun(d:Int)=>Z [p 1 (I d)] []) (UD) (fun d H=>?_) (fun _ f l h=>?_)
 ·refine iA [4]<|a8<|hr H
 refine iA [0,1,5]<|vB<|lX (fun((a,b):Int×Int)=>Z [p 0 (L y296 c),p 1 (I a),p 5 (I b)] []) ((j-(c.length:Int),0)) H fun _ k g i e ⟨a,b⟩ H=>vQ<|iA [0,1,5,15]<|cD H (fun H=>?_) (fun H=>?_)
 ·refine vK<|fQ<|vQ<|vB<|iD UC [0,1,5] H fun _ H=>iA [0,1,5,25]<|cD H (fun H=>iA [4]<|a8<|h9<|fR<|e<|h9<|h<|hr H) fun H=>vK<|fK<|fQ<|jB [0,1,5] H fun H=>g H
 exact vE<|fE<|i<|fX rfl<|f H
def It(a:P2)(b:Int):Option Int :=
 gd (c7 (b-(a.1.size:Int))/\True) <|
 if(decide (b-(a.1.size:Int)<0)) then
  some (-1)
 else
  gd ((Is a.2.2.1 (b-(a.1.size:Int))).isSome/\True)<|lt (vl (Is a.2.2.1 (b-(a.1.size:Int)))) fun d =>
  if(decide (d<0)) then
   some (-1)
  else
   gd ((Iq a.2.2.2.1 d).isSome/\True)<|lt (vl (Iq a.2.2.2.1 d)) fun c =>
   if(decide (c<0)) then
    some (-1)
   else
    gd ((I4 a.2.2.2.2.1 c).isSome/\True)<|lt (vl (I4 a.2.2.2.2.1 c)) fun e =>
    if(decide (e<0)) then
     some (-1)
    else
     some e
def P0Q:Ct:=c8 134 [.agg y216,.dat i64] (fun x=>It x.1 x.2.1) (fun r:Int=>I r) (fun _=>())
theorem UG:Ok prog P0Q:=by
 refine c9 [.tmp 4] func134 ?_;intro y ⟨_,_,_⟩ r H Q hn hr;have:=hz (tc U0 (tc UB (tc UE tn)));refine iA [1,2]<|iB [1,2] H fun H=>vQ<|iA [1,2,11]<|cD H (fun H=>iA [4]<|a8<|fR<|hr H) fun H=>vK<|fQ<|iD UE [1,2] H fun _ H=>vQ<|iA [1,2,17]<|cD H (fun H=>iA [4]<|a8<|fR<|hr H) fun H=>vK<|fQ<|iD UB [1,2] H fun _ H=>vQ<|iA [1,2,23]<|cD H (fun H=>iA [4]<|a8<|fR<|hr H) fun H=>vK<|fQ<|iD U0 [1] H fun _ H=>vQ<|iA [1,29]<|cD H (fun H=>iA [4]<|a8<|fR<|hr H) fun H=>vK<|fQ<|iA [4]<|a8<|hr H
def UH:Int->Option Int
 | a =>
 some a
def G0O(b:List P2)(e:Int×Int->Option Int):Int×Int->Option Int
 | (c,a) =>
 if(decide (a < (b.length:Int))) then
  gd (ix a b.length/\(It (b.getD a.toNat (a7 y216)) c).isSome/\True)<|lt (vl (It (b.getD a.toNat (a7 y216)) c)) fun d =>
  if(decide (d<0)) then
   some (-1)
  else
   gd (c7 (a+1)/\True) <|
   e (d,a+1)
 else
  UH c
def Iu(a:List P2)(b:Int):Option Int :=
 gd (c7 (b-(a.length:Int))/\True) <|
 if(decide (b-(a.length:Int)<0)) then
  some (-1)
 else
  lp (G0O a) ((b-(a.length:Int),0))
def k78:Ct:=c8 78 [.dat y216.sl,.dat i64] (fun x=>Iu x.1 x.2.1) (fun r:Int=>I r) (fun _=>())
theorem UI:Ok prog k78:=by
 refine c9 [.tmp 4] func78 ?_;intro y ⟨c,j,_⟩ r H Q hn hr;have:=hz (tc UG tn);refine iA [0,1]<|iB [0,1] H fun H=>vQ<|iA [0,1,11]<|cD H (fun H=>iA [4]<|a8<|fR<|hr H) fun H=>vK<|fQ<|jN r (fun(d:Int)=>Z [p 1 (I d)] []) (UH) (fun d H=>?_) (fun _ f l h=>?_)
 ·refine iA [4]<|a8<|hr H
 refine iA [0,1,5]<|vB<|lX (fun((a,b):Int×Int)=>Z [p 0 (L y216 c),p 1 (I a),p 5 (I b)] []) ((j-(c.length:Int),0)) H fun _ k g i e ⟨a,b⟩ H=>vQ<|iA [0,1,5,15]<|cD H (fun H=>?_) (fun H=>?_)
 ·refine vK<|fQ<|vQ<|vB<|iD UG [0,1,5] H fun _ H=>iA [0,1,5,25]<|cD H (fun H=>iA [4]<|a8<|h9<|fR<|e<|h9<|h<|hr H) fun H=>vK<|fK<|fQ<|jB [0,1,5] H fun H=>g H
 exact vE<|fE<|i<|fX rfl<|f H
def Iv(b:List P2)(c:Int):Option Int :=
 gd ((Iu b c).isSome/\True)<|lt (vl (Iu b c)) fun a =>
 if(decide (a<0)) then
  some (-1)
 else
  some a
def k35:Ct:=c8 35 [.agg y216.sl,.dat i64] (fun x=>Iv x.1 x.2.1) (fun r:Int=>I r) (fun _=>())
theorem UJ:Ok prog k35:=by
 refine c9 [.tmp 4] func35 ?_;intro y ⟨_,_,_⟩ r H Q hn hr;have:=hz (tc UI tn);refine iA [1,2]<|iD UI [1] H fun _ H=>vQ<|iA [1,10]<|cD H (fun H=>iA [4]<|a8<|fR<|hr H) fun H=>vK<|fQ<|iA [4]<|a8<|hr H
def u7(a:Gf)(e:Int):Option Int :=
 gd ((Iv a.1 e).isSome/\True)<|lt (vl (Iv a.1 e)) fun c =>
 if(decide (c<0)) then
  some (-1)
 else
  gd ((Il a.2.1 c).isSome/\True)<|lt (vl (Il a.2.1 c)) fun b =>
  if(decide (b<0)) then
   some (-1)
  else
   gd ((Ie a.2.2 b).isSome/\True)<|lt (vl (Ie a.2.2 b)) fun d =>
   if(decide (d<0)) then
    some (-1)
   else
    some d
def k7:Ct:=c8 7 [.agg R6,.dat i64] (fun x=>u7 x.1 x.2.1) (fun r:Int=>I r) (fun _=>())
theorem o7:Ok prog k7:=by
 refine c9 [.tmp 4] func7 ?_;intro y ⟨_,_,_⟩ r H Q hn hr;have:=hz (tc Um (tc Uw (tc UJ tn)));refine iA [1,2]<|iD UJ [1,2] H fun _ H=>vQ<|iA [1,2,10]<|cD H (fun H=>iA [4]<|a8<|fR<|hr H) fun H=>vK<|fQ<|iD Uw [1,2] H fun _ H=>vQ<|iA [1,2,16]<|cD H (fun H=>iA [4]<|a8<|fR<|hr H) fun H=>vK<|fQ<|iD Um [1] H fun _ H=>vQ<|iA [1,22]<|cD H (fun H=>iA [4]<|a8<|fR<|hr H) fun H=>vK<|fQ<|iA [4]<|a8<|hr H
def u8(a:Gg)(b:Int):Option Int :=
 gd (c7 (b-(a.1.size:Int))/\True) <|
 if(decide (b-(a.1.size:Int)<0)) then
  some (-1)
 else
  some (b-(a.1.size:Int))
def k8:Ct:=c8 8 [.agg U1,.dat i64] (fun x=>u8 x.1 x.2.1) (fun r:Int=>I r) (fun _=>())
theorem o8:Ok prog k8:=by
 refine c9 [.tmp 4] func8 ?_;intro y ⟨_,_,_⟩ r H Q hn hr;refine iA [1,2]<|iB [1] H fun H=>vQ<|iA [1,11]<|cD H (fun H=>iA [4]<|a8<|fR<|hr H) fun H=>vK<|fQ<|iA [4]<|a8<|hr H
def u9(a:List BF)(b:Int):Option Int :=
 gd (c7 (b-(a.length:Int))/\True) <|
 if(decide (b-(a.length:Int)<0)) then
  some (-1)
 else
  some (b-(a.length:Int))
def k9:Ct:=c8 9 [.dat y106.sl,.dat i64] (fun x=>u9 x.1 x.2.1) (fun r:Int=>I r) (fun _=>())
theorem o9:Ok prog k9:=by
 refine c9 [.tmp 4] func9 ?_;intro y ⟨_,_,_⟩ r H Q hn hr;refine iA [0,1]<|iB [1] H fun H=>vQ<|iA [1,10]<|cD H (fun H=>iA [4]<|a8<|fR<|hr H) fun H=>vK<|fQ<|iA [4]<|a8<|hr H
def Dx(a:List Ag)(b:Int):Option Int :=
 gd (c7 (b-(a.length:Int))/\True) <|
 if(decide (b-(a.length:Int)<0)) then
  some (-1)
 else
  some (b-(a.length:Int))
def k39:Ct:=c8 39 [.dat y104.sl,.dat i64] (fun x=>Dx x.1 x.2.1) (fun r:Int=>I r) (fun _=>())
theorem PA:Ok prog k39:=by
 refine c9 [.tmp 4] func39 ?_;intro y ⟨_,_,_⟩ r H Q hn hr;refine iA [0,1]<|iB [1] H fun H=>vQ<|iA [1,10]<|cD H (fun H=>iA [4]<|a8<|fR<|hr H) fun H=>vK<|fQ<|iA [4]<|a8<|hr H
def Iw(a:List Bool)(b:Int):Option Int :=
 gd (c7 (b-(a.length:Int))/\True) <|
 if(decide (b-(a.length:Int)<0)) then
  some (-1)
 else
  some (b-(a.length:Int))
def k38:Ct:=c8 38 [.dat Ty.bool.sl,.dat i64] (fun x=>Iw x.1 x.2.1) (fun r:Int=>I r) (fun _=>())
theorem UK:Ok prog k38:=by
 refine c9 [.tmp 4] func38 ?_;intro y ⟨_,_,_⟩ r H Q hn hr;refine iA [0,1]<|iB [1] H fun H=>vQ<|iA [1,10]<|cD H (fun H=>iA [4]<|a8<|fR<|hr H) fun H=>vK<|fQ<|iA [4]<|a8<|hr H
def Ix(a:Gi)(e:Int):Option Int :=
 gd ((Iw a.1 e).isSome/\True)<|lt (vl (Iw a.1 e)) fun c =>
 if(decide (c<0)) then
  some (-1)
 else
  gd ((Dx a.2.1 c).isSome/\True)<|lt (vl (Dx a.2.1 c)) fun b =>
  if(decide (b<0)) then
   some (-1)
  else
   gd ((Dx a.2.2 b).isSome/\True)<|lt (vl (Dx a.2.2 b)) fun d =>
   if(decide (d<0)) then
    some (-1)
   else
    some d
def PB:Ct:=c8 10 [.agg X0,.dat i64] (fun x=>Ix x.1 x.2.1) (fun r:Int=>I r) (fun _=>())
theorem UL:Ok prog PB:=by
 refine c9 [.tmp 4] func10 ?_;intro y ⟨_,_,_⟩ r H Q hn hr;have:=hz (tc PA (tc UK tn));refine iA [1,2]<|iD UK [1,2] H fun _ H=>vQ<|iA [1,2,10]<|cD H (fun H=>iA [4]<|a8<|fR<|hr H) fun H=>vK<|fQ<|iD PA [1,2] H fun _ H=>vQ<|iA [1,2,16]<|cD H (fun H=>iA [4]<|a8<|fR<|hr H) fun H=>vK<|fQ<|iD PA [1] H fun _ H=>vQ<|iA [1,22]<|cD H (fun H=>iA [4]<|a8<|fR<|hr H) fun H=>vK<|fQ<|iA [4]<|a8<|hr H
def U2(a:s7)(b:Int):Option Int :=
 if(b==0) then
  some a.1
 else
  some a.2
def k91:Ct:=c8 91 [.agg y73,.dat i64] (fun x=>U2 x.1 x.2.1) (fun r:Int=>I r) (fun _=>())
theorem PC:Ok prog k91:=by
 refine c9 [.tmp 4] func91 ?_;intro y ⟨_,_,_⟩ r H Q hn hr;refine iA [1,2]<|vQ<|iA [2,6]<|cD H (fun H=>iA [4]<|a8<|fR<|hr H) fun H=>vK<|fQ<|iA [4]<|a8<|hr H
def N5(b:Int)(a:Int)(c:Int):Option Int :=
 gd (0<a/\True) <|
 gd (0<a/\True) <|
 if(decide (b.tmod a<0)&&c==0) then
  gd (c7 (b.tdiv a-1)/\True) <|
  some (b.tdiv a-1)
 else
  if(decide (0<b.tmod a)&&c==1) then
   gd (c7 (b.tdiv a+1)/\True) <|
   some (b.tdiv a+1)
  else
   some (b.tdiv a)
def O0R:Ct:=c8 191 [.dat i64,.dat i64,.dat i64] (fun x=>N5 x.1 x.2.1 x.2.2.1) (fun r:Int=>I r) (fun _=>())
theorem Cy:Ok prog O0R:=by
 refine c9 [.tmp 6] func191 ?_;intro y ⟨_,_,_,_⟩ r H Q hn hr;refine iA [0,1,2]<|iB [0,1,2,7] H fun H=>iB [2,7,8] H fun H=>vQ<|iA [2,7,8,20]<|cD H (fun H=>iB [6] H fun H=>a8<|fR<|hr H) fun H=>vK<|fQ<|vQ<|iA [7,28]<|cD H (fun H=>iB [6] H fun H=>a8<|fR<|hr H) fun H=>vK<|fQ<|iA [6]<|a8<|hr H
def PD:Int->Option Int
 | a =>
 some a
def Iy(b:Int)(c:Int):Int->Option Int
 | a =>
 gd (((b==1)=true/\True->c7 (a*a))/\True) <|
 if(b==1&&decide (a*a<c)) then
  gd (c7 (a+1)/\True) <|
  PD (a+1)
 else
  PD a
def LW(c:Int)(e:Int)(d:Int×Int->Option Int):Int×Int->Option Int
 | (a,b) =>
 if(decide (a<b)) then
  gd (c7 (a+b)/\c7 (a+b+(1:Int))/\(0:Int) < (2:Int)/\True) <|
  gd (c7 ((a+b+1).tdiv 2*(a+b+1).tdiv 2)/\True) <|
  if(decide ((a+b+1).tdiv 2*(a+b+1).tdiv 2<=c)) then
   d (((a+b+1).tdiv 2,b))
  else
   gd (c7 ((a+b+1).tdiv 2-1)/\True) <|
   d ((a,(a+b+1).tdiv 2-1))
 else
  Iy e c a
def AQ(a:Int)(b:Int):Option Int :=
 lp (LW a b) (0,2000000000)
def O0k:Ct:=c8 229 [.dat i64,.dat i64] (fun x=>AQ x.1 x.2.1) (fun r:Int=>I r) (fun _=>())
theorem M0n:Ok prog O0k:=by
 refine c9 [.tmp 4] func229 ?_;intro y ⟨a,b,_⟩ r H Q hn hr;refine iA [0,1]<|iA [0,1,5,6]<|jN r (fun(d:Int)=>Z [p 0 (J a),p 1 (J b),p 5 (I d)] []) (Iy b a) (fun d H=>?_) (fun _ i m o=>?_)
 ·refine jN r (fun(g:Int)=>Z [p 5 (I g)] []) (PD) (fun g H=>?_) (fun _ e q n=>?_)
  ·refine iA [4]<|a8<|hr H
  refine iB [5,32] H fun H=>cD H (fun H=>jB [5] H fun H=>e H) fun H=>vK<|e H
 refine vB<|lX (fun((h,c):Int×Int)=>Z [p 0 (J a),p 1 (J b),p 5 (I h),p 6 (I c)] []) (0,2000000000) H fun _ l f j k ⟨h,c⟩ H=>vQ<|iA [0,1,5,6,10]<|cD H (fun H=>?_) (fun H=>?_)
 ·refine vK<|fQ<|vB<|iB [0,1,5,6,7] H fun H=>iB [0,1,5,6,7,20] H fun H=>cD H (fun H=>jA [0,1,5,6]<|fK<|f H) fun H=>jB [0,1,5,6] H fun H=>fK<|f H
 exact vE<|fE<|j<|fX rfl<|i H
def Dy(c:List l6)(b:m7)(a:x9):Option Int :=
 if(decide (a.1<0)) then
  some 0
 else
  gd (ix a.1 b.1.length/\ix (b.1.getD a.1.toNat (a7 y155)).2.1 c.length/\ix a.2.1 (c.getD (b.1.getD a.1.toNat (a7 y155)).2.1.toNat (a7 y153)).2.2.1.length/\True)<|lt ((c.getD (b.1.getD a.1.toNat (a7 y155)).2.1.toNat (a7 y153)).2.2.1.getD a.2.1.toNat (a7 y293)) fun d =>
  some d.2.2.1
def N0T:Ct:=c8 256 [.agg y153.sl,.agg y53,.agg w6] (fun x=>Dy x.1 x.2.1 x.2.2.1) (fun r:Int=>I r) (fun _=>())
theorem M0f:Ok prog N0T:=by
 refine c9 [.tmp 6] func256 ?_;intro y ⟨b,c,d,_⟩ r H Q hn hr;refine iA [3,4,5]<|vQ<|iA [3,4,5,9]<|cD H (fun H=>iA [6]<|a8<|fR<|hr H) fun H=>vK<|fQ<|qD (fun a=>Z [p 6 (J a.2.2.1)] [(5,K 226 w6 d),(4,K 53 y53 c),(3,bx 49 [L y153 b])]) H fun a H=>a8<|hr H
def UM:List x9->Option (List x9)
 | a =>
 some a
def UN(b:m7)(e:Int×List x9->Option (List x9)):Int×List x9->Option (List x9)
 | (a,c) =>
 if(decide (a < (b.2.2.length:Int))) then
  gd (ix a b.2.2.length/\ix a b.2.2.length/\(c.length+[(-1,a,(b.2.2.getD a.toNat (a7 y231)).2.2,(b.2.2.getD a.toNat (a7 y231)).2.1==1)].length<=9223372036854775807/\(c.length+[(-1,a,(b.2.2.getD a.toNat (a7 y231)).2.2,(b.2.2.getD a.toNat (a7 y231)).2.1==1)].length)*32<=140737488355328)/\True)<|lt ((c++[(-1,a,(b.2.2.getD a.toNat (a7 y231)).2.2,(b.2.2.getD a.toNat (a7 y231)).2.1==1)],[(-1,a,(b.2.2.getD a.toNat (a7 y231)).2.2,(b.2.2.getD a.toNat (a7 y231)).2.1==1)])) fun(d,_) =>
  gd (c7 (a+1)/\True) <|
  e (a+1,d)
 else
  UM c
def Iz(b:m7):List x9->Option (List x9)
 | a =>
 lp (UN b) (0,a)
def PE(b:Int)(c:Int×List x9->Option (List x9)):List x9->Option (List x9)
 | a =>
 gd (c7 (b+1)/\True) <|
 c (b+1,a)
def UO(d:Int)(b:B0)(f:Int×List x9->Option (List x9))(g:Int×List x9->Option (List x9)):Int×List x9->Option (List x9)
 | (a,c) =>
 if(decide (a < (b.2.2.length:Int))) then
  gd (ix a b.2.2.length/\c7 ((b.2.2.length:Int)-1)/\(c.length+[(d,a,b.2.2.getD a.toNat 0,a==(b.2.2.length:Int)-1)].length<=9223372036854775807/\(c.length+[(d,a,b.2.2.getD a.toNat 0,a==(b.2.2.length:Int)-1)].length)*32<=140737488355328)/\True)<|lt ((c++[(d,a,b.2.2.getD a.toNat 0,a==(b.2.2.length:Int)-1)],[(d,a,b.2.2.getD a.toNat 0,a==(b.2.2.length:Int)-1)])) fun(e,_) =>
  gd (c7 (a+1)/\True) <|
  g (a+1,e)
 else
  PE d f c
def UP(a:m7)(e:Int×List x9->Option (List x9)):Int×List x9->Option (List x9)
 | (b,d) =>
 if(decide (b < (a.1.length:Int))) then
  gd (ix b a.1.length/\True)<|lt (a.1.getD b.toNat (a7 y155)) fun c =>
  lp (UO b c e) (0,d)
 else
  Iz a d
def F9(a:m7):Option (List x9) :=
 lp (UP a) (0,[])
def P0X:Ct:=c8 118 [.agg y53] (fun x=>F9 x.1) (fun r:List x9=>AV.ow 226 true w6 r) (fun _=>())
theorem X1:Ok prog P0X:=by
 refine c9 [.tmp 2] func118 ?_;intro y ⟨a,_⟩ r H Q hn hr;refine iA [1]<|iA [1,3]<|jN r (fun(d:List x9)=>Z [p 1 (R 1),p 3 (O 8)] [(8,A 226 w6 d 0),(1,K 53 y53 a)]) (Iz a) (fun d H=>?_) (fun _ t W t0=>?_)
 ·refine jN r (fun(g:List x9)=>Z [p 3 (O 8)] [(8,A 226 w6 g 0)]) (UM) (fun g H=>?_) (fun _ q V X=>?_)
  ·refine iA [2]<|a8<|hr H
  refine iA [1,3,7]<|vB<|lX (fun((e,j):Int×List x9)=>Z [p 1 (R 1),p 3 (O 8),p 7 (I e)] [(8,A 226 w6 j 0),(1,K 53 y53 a)]) (0,d) H fun _ G z E t5 ⟨e,j⟩ H=>vQ<|iA [1,3,7,47]<|cD H (fun H=>?_) (fun H=>?_)
  ·refine vK<|fQ<|vQ<|vB<|zD (fun(l,i)=>Z [p 1 (R 1),p 3 (AV.os 8 1),p 7 (I e)] [(8,A 226 w6 l 1),(66,A 226 w6 i 0),(1,K 53 y53 a)]) H fun⟨l,i⟩ H =>
    fK<|fQ <|
    jB [1,3,7] H fun H =>
    z H
  exact vE<|fE<|E<|fX rfl<|q H
 refine iA [1,3,4]<|vB<|lX (fun((f,o):Int×List x9)=>Z [p 1 (R 1),p 3 (O 8),p 4 (I f)] [(8,A 226 w6 o 0),(1,K 53 y53 a)]) (0,[]) H fun _ v w F P ⟨f,o⟩ H=>vQ<|iA [1,3,4,13]<|cD H (fun H=>?_) (fun H=>?_)
 ·refine vK<|fQ<|jN r (fun(k:List x9)=>Z [p 1 (R 1),p 3 (O 8),p 4 (I f)] [(8,A 226 w6 k 0),(1,K 53 y53 a)]) (PE f v) (fun k H=>?_) (fun _ s e2 Y=>?_)
  ·refine jB [1,3,4] H fun H=>w H
  refine vB<|qD (fun b=>Z [p 1 (R 1),p 3 (O 8),p 4 (I f),p 5 (L i64 b.2.2)] [(8,A 226 w6 o 0),(1,K 53 y53 a)]) H fun b H=>iA [1,3,4,5,6]<|vB<|lX (fun((c,n):Int×List x9)=>Z [p 1 (R 1),p 3 (O 8),p 4 (I f),p 5 (L i64 b.2.2),p 6 (I c)] [(8,A 226 w6 n 0),(1,K 53 y53 a)]) (0,o) H fun _ g3 u x T ⟨c,n⟩ H=>vQ<|iA [1,3,4,5,6,25]<|cD H (fun H=>?_) (fun H=>?_)
  ·refine vK<|fQ<|vQ<|vB<|zD (fun(h,m)=>Z [p 1 (R 1),p 3 (AV.os 8 1),p 4 (I f),p 5 (L i64 b.2.2),p 6 (I c)] [(8,A 226 w6 h 1),(41,A 226 w6 m 0),(1,K 53 y53 a)]) H fun⟨h,m⟩ H =>
    fK<|fQ <|
    jB [1,3,4,5,6] H fun H =>
    u H
  exact vE<|fE<|x<|fX rfl<|fK<|s H
 exact vE<|fE<|F<|fX rfl<|t H
def UQ:List Int->Option (List Int)
 | a =>
 some a
def LX(a:Int)(c:Int×List Int->Option (List Int)):List Int->Option (List Int)
 | b =>
 gd (c7 (a+1)/\True) <|
 c (a+1,b)
def UR(b:List x9)(d:Int)(e:Int×List Int->Option (List Int)):Int×List Int->Option (List Int)
 | (a,c) =>
 if(decide (a < (b.length:Int))) then
  gd (ix a b.length/\a.toNat<b.length/\(((b.getD a.toNat (a7 w6)).2.2.1==d)=true/\True->ix a b.length)/\(((b.getD a.toNat (a7 w6)).2.2.1==d)=true/\True->a.toNat<b.length)/\True) <|
  if((b.getD a.toNat (a7 w6)).2.2.1==d&&!(b.getD a.toNat (a7 w6)).2.2.2) then
   gd ((c.length+[a].length<=9223372036854775807/\(c.length+[a].length)*8<=140737488355328)/\True) <|
   LX a e (c++[a])
  else
   LX a e c
 else
  UQ c
def X2(a:m7)(c:Int):Option (List Int) :=
 gd ((F9 a).isSome/\True)<|lt (vl (F9 a)) fun b =>
 lp (UR b c) (0,[])
def k89:Ct:=c8 89 [.agg y53,.dat i64] (fun x=>X2 x.1 x.2.1) (fun r:List Int=>AV.ow 2 true i64 r) (fun _=>())
theorem Gj:Ok prog k89:=by
 refine c9 [.tmp 4] func89 ?_;intro y ⟨_,g,_⟩ r H Q hn hr;have:=hz (tc X1 tn);refine iA [1,2]<|iA [1,2,5]<|iD X1 [1,5,6] H fun f H=>jN r (fun(b:List Int)=>Z [p 5 (O 8)] [(8,A 2 i64 b 0)]) (UQ) (fun b H=>?_) (fun _ h m o=>?_)
 ·refine iA [4]<|a8<|hr H
 refine iA [1,5,6,7]<|vB<|lX (fun((a,e):Int×List Int)=>Z [p 1 (J g),p 5 (O 8),p 6 (O 10),p 7 (I a)] [(10,A 226 w6 f 0),(8,A 2 i64 e 0)]) (0,[]) H fun _ i j k l ⟨a,e⟩ H=>vQ<|iA [1,5,6,7,14]<|cD H (fun H=>?_) (fun H=>?_)
 ·refine vK<|fQ<|jN r (fun(d:List Int)=>Z [p 1 (J g),p 5 (O 8),p 6 (O 10),p 7 (I a)] [(8,A 2 i64 d 0),(10,A 226 w6 f 0)]) (LX a i) (fun d H=>?_) (fun _ c q n=>?_)
  ·refine jB [1,5,6,7] H fun H=>j H
  refine vB<|iB [1,5,6,7,31] H fun H=>cD H (fun H=>jB [1,5,6,7] H fun H=>fK<|c H) fun H=>vK<|fK<|c H
 exact vE<|fE<|k<|fX rfl<|h H
def LY(a:List Int):Option (List Int) :=
 gd ((0+a.length<=9223372036854775807/\(0+a.length)*8<=140737488355328)/\True) <|
 some ([]++a)
def N0U:Ct:=c8 255 [.dat i64.sl] (fun x=>LY x.1) (fun r:List Int=>AV.ow 2 true i64 r) (fun _=>())
theorem US:Ok prog N0U:=by
 refine c9 [.tmp 2] func255 ?_;intro y ⟨_,_⟩ r H Q hn hr;refine iA [0]<|iB [2] H fun H=>a8<|hr H
def PF:List Int->Option (List Int)
 | a =>
 some a
def Gk(c:w7)(e:Int×List Int->Option (List Int)):Int×List Int->Option (List Int)
 | (a,b) =>
 if(decide (0<a)) then
  gd (ix a c.1.length/\ix (c.1.getD a.toNat 0) b.length/\Int.toNat (c.1.getD a.toNat 0)<b.length/\ix a b.length/\a.toNat<b.length/\c7 (b.getD (Int.toNat (c.1.getD a.toNat 0)) 0+b.getD a.toNat 0)/\ix (c.1.getD a.toNat 0) b.length/\Int.toNat (c.1.getD a.toNat 0)<b.length/\True)<|lt (b.set (Int.toNat (c.1.getD a.toNat 0)) (b.getD (Int.toNat (c.1.getD a.toNat 0)) 0+b.getD a.toNat 0)) fun d =>
  gd (c7 (a-1)/\True) <|
  e (a-1,d)
 else
  PF b
def LZ(b:w7):List Int->Option (List Int)
 | a =>
 gd (c7 ((a.length:Int)-1)/\True) <|
 lp (Gk b) (((a.length:Int)-1,a))
def UT(d:j1)(f:List x9)(b:List Int)(c:w7)(g:Int×List Int->Option (List Int)):Int×List Int->Option (List Int)
 | (a,e) =>
 if(decide (a < (b.length:Int))) then
  gd (ix a c.2.2.2.length/\ix (c.2.2.2.getD a.toNat 0) e.length/\Int.toNat (c.2.2.2.getD a.toNat 0)<e.length/\ix a b.length/\a.toNat<b.length/\ix (b.getD a.toNat 0) f.length/\Int.toNat (b.getD a.toNat 0)<f.length/\(Dy d.1 d.2.1 (f.getD (Int.toNat (b.getD a.toNat 0)) (a7 w6))).isSome/\c7 (e.getD (Int.toNat (c.2.2.2.getD a.toNat 0)) 0+vl (Dy d.1 d.2.1 (f.getD (Int.toNat (b.getD a.toNat 0)) (a7 w6))))/\ix (c.2.2.2.getD a.toNat 0) e.length/\Int.toNat (c.2.2.2.getD a.toNat 0)<e.length/\True)<|lt ((vl (Dy d.1 d.2.1 (f.getD (Int.toNat (b.getD a.toNat 0)) (a7 w6))),e.set (Int.toNat (c.2.2.2.getD a.toNat 0)) (e.getD (Int.toNat (c.2.2.2.getD a.toNat 0)) 0+vl (Dy d.1 d.2.1 (f.getD (Int.toNat (b.getD a.toNat 0)) (a7 w6)))))) fun(_,h) =>
  gd (c7 (a+1)/\True) <|
  g (a+1,h)
 else
  LZ c e
def U3(a:j1)(b:Int):Option (List Int) :=
 gd (ix b a.2.2.length/\True)<|lt (a.2.2.getD b.toNat (a7 y172)) fun c =>
 gd ((LY c.2.2.1).isSome/\True)<|lt (vl (LY c.2.2.1)) fun d =>
 gd ((F9 a.2.1).isSome/\True)<|lt (vl (F9 a.2.1)) fun e =>
 gd ((X2 a.2.1 b).isSome/\True)<|lt (vl (X2 a.2.1 b)) fun f =>
 lp (UT a e f c) (0,d)
def O0n:Ct:=c8 226 [.agg l5,.dat i64] (fun x=>U3 x.1 x.2.1) (fun r:List Int=>AV.ow 2 true i64 r) (fun _=>())
theorem PG:Ok prog O0n:=by
 refine c9 [.tmp 4] func226 ?_;intro y ⟨g,q,_⟩ r H Q hn hr;have:=hz (tc M0f (tc Gj (tc X1 (tc US tn))));refine iA [1,2]<|qD (fun b=>Z [p 1 (J q),p 2 (R 2),p 5 (R 5)] [(5,K 172 y172 b),(2,K 56 l5 g)]) H fun b H=>iD US [1,2,5,6] H fun s H=>iD X1 [1,2,5,6,7] H fun k H=>iD Gj [2,5,6,7,8] H fun i H=>jN r (fun(a:List Int)=>Z [p 5 (R 5),p 6 (O 18)] [(18,A 2 i64 a 0),(5,K 172 y172 b)]) (LZ b) (fun a H=>?_) (fun _ n E G=>?_)
 ·refine jN r (fun(d:List Int)=>Z [p 6 (O 18)] [(18,A 2 i64 d 0)]) (PF) (fun d H=>?_) (fun _ m P F=>?_)
  ·refine iA [4]<|a8<|hr H
  refine iB [5,6,10] H fun H=>vB<|lX (fun((c,e):Int×List Int)=>Z [p 5 (R 5),p 6 (O 18),p 10 (I c)] [(18,A 2 i64 e 0),(5,K 172 y172 b)]) (((a.length:Int)-1,a)) H fun _ V o u z ⟨c,e⟩ H=>vQ<|iA [5,6,10,58]<|cD H (fun H=>vK<|fQ<|vQ<|vB<|zD (fun f=>Z [p 5 (R 5),p 6 (O 18),p 10 (I c)] [(18,A 2 i64 f 0),(5,K 172 y172 b)]) H fun f H=>fK<|fQ<|jB [5,6,10] H fun H=>o H) fun H=>vE<|fE<|u<|fX rfl<|m H
 refine iA [2,5,6,7,8,9]<|vB<|lX (fun((h,l):Int×List Int)=>Z [p 2 (R 2),p 5 (R 5),p 6 (O 18),p 7 (O 21),p 8 (O 25),p 9 (I h)] [(25,A 2 i64 i 0),(21,A 226 w6 k 0),(18,A 2 i64 l 0),(5,K 172 y172 b),(2,K 56 l5 g)]) (0,s) H fun _ T t w x ⟨h,l⟩ H=>vQ<|iA [2,5,6,7,8,9,29]<|cD H (fun H=>?_) (fun H=>?_)
 ·refine vK<|fQ<|vQ<|vB<|zD (fun(v,j)=>Z [p 2 (R 2),p 5 (R 5),p 6 (O 18),p 7 (O 21),p 8 (O 25),p 9 (I h)] [(18,A 2 i64 j 0),(25,A 2 i64 i 0),(21,A 226 w6 k 0),(5,K 172 y172 b),(2,K 56 l5 g)]) H fun⟨v,j⟩ H =>
   fK<|fQ <|
   jB [2,5,6,7,8,9] H fun H =>
   t H
 exact vE<|fE<|w<|fX rfl<|n H
def UU:List Int->Option (List Int)
 | a =>
 some a
def PH(b:w7)(d:List Int)(e:Int×List Int->Option (List Int)):Int×List Int->Option (List Int)
 | (a,c) =>
 if(decide (a < (d.length:Int))) then
  gd (ix a b.1.length/\ix (b.1.getD a.toNat 0) c.length/\Int.toNat (b.1.getD a.toNat 0)<c.length/\ix a b.2.1.length/\ix a d.length/\a.toNat<d.length/\c7 (b.2.1.getD a.toNat 0*d.getD a.toNat 0)/\c7 (c.getD (Int.toNat (b.1.getD a.toNat 0)) 0+b.2.1.getD a.toNat 0*d.getD a.toNat 0)/\(c.length+[c.getD (Int.toNat (b.1.getD a.toNat 0)) 0+b.2.1.getD a.toNat 0*d.getD a.toNat 0].length<=9223372036854775807/\(c.length+[c.getD (Int.toNat (b.1.getD a.toNat 0)) 0+b.2.1.getD a.toNat 0*d.getD a.toNat 0].length)*8<=140737488355328)/\True)<|lt ((c++[c.getD (Int.toNat (b.1.getD a.toNat 0)) 0+b.2.1.getD a.toNat 0*d.getD a.toNat 0],[c.getD (Int.toNat (b.1.getD a.toNat 0)) 0+b.2.1.getD a.toNat 0*d.getD a.toNat 0])) fun(f,_) =>
  gd (c7 (a+1)/\True) <|
  e (a+1,f)
 else
  UU c
def AR(a:j1)(b:Int):Option (List Int) :=
 gd (ix b a.2.2.length/\True)<|lt (a.2.2.getD b.toNat (a7 y172)) fun d =>
 gd ((U3 a b).isSome/\True)<|lt (vl (U3 a b)) fun c =>
 lp (PH d c) (1,[0])
def O0l:Ct:=c8 228 [.agg l5,.dat i64] (fun x=>AR x.1 x.2.1) (fun r:List Int=>AV.ow 2 true i64 r) (fun _=>())
theorem PJ:Ok prog O0l:=by
 refine c9 [.tmp 4] func228 ?_;intro y ⟨i,l,_⟩ r H Q hn hr;have:=hz (tc PG tn);refine iA [1,2]<|qD (fun a=>Z [p 1 (J l),p 2 (R 2),p 5 (R 5)] [(5,K 172 y172 a),(2,K 56 l5 i)]) H fun a H=>iD PG [5,6] H fun c H=>iA [5,6,7]<|jN r (fun(f:List Int)=>Z [p 7 (O 17)] [(17,A 2 i64 f 0)]) (UU) (fun f H=>?_) (fun _ h o q=>?_)
 ·refine iA [4]<|a8<|hr H
 refine iA [5,6,7,8]<|vB<|lX (fun((b,d):Int×List Int)=>Z [p 5 (R 5),p 6 (O 16),p 7 (O 17),p 8 (I b)] [(17,A 2 i64 d 0),(16,A 2 i64 c 0),(5,K 172 y172 a)]) (1,[0]) H fun _ n j k m ⟨b,d⟩ H=>vQ<|iA [5,6,7,8,21]<|cD H (fun H=>?_) (fun H=>?_)
 ·refine vK<|fQ<|vQ<|vB<|zD (fun(g,e)=>Z [p 5 (R 5),p 6 (O 16),p 7 (AV.os 17 1),p 8 (I b)] [(17,A 2 i64 g 1),(44,A 2 i64 e 0),(16,A 2 i64 c 0),(5,K 172 y172 a)]) H fun⟨g,e⟩ H =>
   fK<|fQ <|
   jB [5,6,7,8] H fun H =>
   j H
 exact vE<|fE<|k<|fX rfl<|h H
def IA(c:j1)(d:Int)(f:Int)(b:Int)(e:Int):Option Int :=
 gd ((AR c d).isSome/\ix d c.2.2.length/\ix f (c.2.2.getD d.toNat (a7 y172)).2.2.2.length/\ix ((c.2.2.getD d.toNat (a7 y172)).2.2.2.getD f.toNat 0) (vl (AR c d)).length/\Int.toNat ((c.2.2.getD d.toNat (a7 y172)).2.2.2.getD f.toNat 0) < (vl (AR c d)).length/\True)<|lt ((vl (AR c d),(vl (AR c d)).getD (Int.toNat ((c.2.2.getD d.toNat (a7 y172)).2.2.2.getD f.toNat 0)) 0)) fun(_,a) =>
 gd (c7 (1000000*b)/\c7 (1000000*b*b)/\c7 (4*a)/\c7 (4*a*a)/\c7 (1000000*b*b+4*a*a)/\(AQ (1000000*b*b+4*a*a) e).isSome/\(N5 (vl (AQ (1000000*b*b+4*a*a) e)) 1000 e).isSome/\True)<|lt (vl (N5 (vl (AQ (1000000*b*b+4*a*a) e)) 1000 e)) fun g =>
 some g
def O0P:Ct:=c8 193 [.agg l5,.dat i64,.dat i64,.dat i64,.dat i64] (fun x=>IA x.1 x.2.1 x.2.2.1 x.2.2.2.1 x.2.2.2.2.1) (fun r:Int=>I r) (fun _=>())
theorem UW:Ok prog O0P:=by
 refine c9 [.tmp 10] func193 ?_;intro y ⟨c,_,_,e,d,_⟩ r H Q hn hr;have:=hz (tc Cy (tc M0n (tc PJ tn)));refine iA [1,2,3,4,5]<|qD (fun(b,a)=>Z [p 3 (J e),p 4 (J d),p 11 (I a)] [(14,A 2 i64 b 0),(5,K 56 l5 c)]) H fun⟨b,a⟩ H =>
  iD Cy [10] H fun _ H =>
  a8<|hr H
def Ah(a:j1)(b:j6):Option Int :=
 gd ((F9 a.2.1).isSome/\(0:Int) < (2:Int)/\ix (b.2.1.tdiv (2:Int)) (vl (F9 a.2.1)).length/\(b.2.1.tdiv (2:Int)).toNat < (vl (F9 a.2.1)).length/\True)<|lt ((vl (F9 a.2.1),(vl (F9 a.2.1)).getD (b.2.1.tdiv 2).toNat (a7 w6))) fun(_,c) =>
 some c.2.2.1
def O0S:Ct:=c8 190 [.agg l5,.agg y138] (fun x=>Ah x.1 x.2.1) (fun r:Int=>I r) (fun _=>())
theorem UX:Ok prog O0S:=by
 refine c9 [.tmp 4] func190 ?_;intro y ⟨c,d,_⟩ r H Q hn hr;have:=hz (tc X1 tn);refine iA [2,3]<|qD (fun(b,a)=>Z [p 4 (I a.2.2.1)] [(7,A 226 w6 b 0),(3,K 138 y138 d),(2,K 56 l5 c)]) H fun⟨b,a⟩ H =>
  a8<|hr H
def UY:Unit->Option (Int×Int×Int)
 | _ =>
 some (((0:Int),(1:Int),(0:Int)))
def BG(b:List Int)(c:Int)(d:Int->Option (Int×Int×Int)):Int->Option (Int×Int×Int)
 | a =>
 if(decide (0<=a)) then
  gd (ix a b.length/\True) <|
  if(c==b.getD a.toNat 0) then
   some ((a,(1:Int),(0:Int)))
  else
   gd (ix a b.length/\True) <|
   if(decide (b.getD a.toNat 0<c)) then
    gd (c7 (a+1)/\ix (a+1) b.length/\c7 (b.getD (a+1).toNat 0-c)/\ix a b.length/\c7 (c-b.getD a.toNat 0)/\True) <|
    some ((a,b.getD (a+1).toNat 0-c,c-b.getD a.toNat 0))
   else
    gd (c7 (a-1)/\True) <|
    d (a-1)
 else
  UY ()
def BH(a:List Int)(c:Int):Option (Int×Int×Int) :=
 gd (ix 0 a.length/\True) <|
 gd (c7 ((a.length:Int)-1)/\ix ((a.length:Int)-1) a.length/\True)<|lt (min (max c (a.getD (Int.toNat (0:Int)) (0:Int))) (a.getD ((a.length:Int)-(1:Int)).toNat (0:Int))) fun b =>
 gd (c7 ((a.length:Int)-1)/\True) <|
 lp (BG a b) ((a.length:Int)-1)
def O0m:Ct:=c8 227 [.dat i64.sl,.dat i64] (fun x=>BH x.1 x.2.1) (fun r:Int×Int×Int=>AV.tup [I r.1,I r.2.1,I r.2.2]) (fun _=>())
theorem PK:Ok prog O0m:=by
 refine c9 [.tmp 4,.tmp 5,.tmp 6] func227 ?_;intro y ⟨a,_,_⟩ r H Q hn hr;refine iA [0,1]<|iA [0,1,7]<|iB [0,1,7] H fun H=>qD (fun b=>Z [p 0 (L i64 a),p 1 (I b),p 7 (I (a.length:Int))] []) H fun b H=>jN r (fun(_:Unit)=>Z [] []) (UY) (fun _ H=>?_) (fun _ f j e=>?_)
 ·refine iA [4,5,6]<|a8<|hr H
 refine iB [0,1,8] H fun H=>vB<|lX (fun(c:Int)=>Z [p 0 (L i64 a),p 1 (I b),p 8 (I c)] []) ((a.length:Int)-1) H fun _ i g h d c H=>vQ<|iA [0,1,8,26]<|cD H (fun H=>?_) (fun H=>?_)
 ·refine vK<|fQ<|vQ<|vB<|vQ<|iB [0,1,8,34] H fun H=>cD H (fun H=>iA [4,5,6]<|a8<|fR<|h9<|fR<|d<|h9<|e<|hr H) fun H=>vK<|fQ<|iB [0,1,8,41] H fun H=>cD H (fun H=>iB [4,5,6] H fun H=>a8<|h9<|fR<|d<|h9<|e<|hr H) fun H=>vK<|fK<|fQ<|jB [0,1,8] H fun H=>g H
 exact vE<|fE<|h<|fX rfl<|f H
def Ma(b:Int×Int×Int)(a:Int×Int×Int)(e:Int):Int->Option Int
 | c =>
 gd (c7 (b.2.1+b.2.2)/\c7 (a.2.1+a.2.2)/\c7 ((b.2.1+b.2.2)*(a.2.1+a.2.2))/\(N5 c ((b.2.1+b.2.2)*(a.2.1+a.2.2)) e).isSome/\True)<|lt (vl (N5 c ((b.2.1+b.2.2)*(a.2.1+a.2.2)) e)) fun d =>
 some d
def PL(a:Int)(c:Int×Int->Option Int):Int->Option Int
 | b =>
 gd (c7 (a+1)/\True) <|
 c (b,a+1)
def Gl(a:Int)(c:Int×Int->Option Int):Int->Option Int
 | b =>
 gd (c7 (a+1)/\True) <|
 c (b,a+1)
def BI(b:Int)(f:Int)(c:m0)(e:Int×Int×Int)(a:Int)(g:Int×Int×Int)(i:Int×Int->Option Int):Int->Option Int
 | d =>
 if(decide (0<d)) then
  gd (c7 (e.1+a)/\c7 ((e.1+a)*(c.2.1.length:Int))/\c7 ((e.1+a)*(c.2.1.length:Int)+g.1)/\c7 ((e.1+a)*(c.2.1.length:Int)+g.1+b)/\ix ((e.1+a)*(c.2.1.length:Int)+g.1+b) c.2.2.length/\c7 (d*c.2.2.getD ((e.1+a)*(c.2.1.length:Int)+g.1+b).toNat 0)/\c7 (f+d*c.2.2.getD ((e.1+a)*(c.2.1.length:Int)+g.1+b).toNat 0)/\True)<|lt (f+d*c.2.2.getD ((e.1+a)*(c.2.1.length:Int)+g.1+b).toNat 0) fun h =>
  Gl b i h
 else
  Gl b i f
def IB(b:Int)(d:Int)(f:m0)(h:Int×Int×Int)(e:Int)(c:Int×Int×Int)(g:Int×Int->Option Int):Int->Option Int
 | a =>
 if(b==0) then
  gd (c7 (a*c.2.1)/\True) <|
  BI b d f h e c g (a*c.2.1)
 else
  gd (c7 (a*c.2.2)/\True) <|
  BI b d f h e c g (a*c.2.2)
def Dz(f:m0)(d:Int×Int×Int)(a:Int)(e:Int×Int×Int)(h:Int×Int->Option Int)(g:Int×Int->Option Int):Int×Int->Option Int
 | (b,c) =>
 if(decide (c<2)) then
  if(a==1) then
   IB c b f d a e g d.2.2
  else
   IB c b f d a e g d.2.1
 else
  PL a h b
def Gm(e:m0)(d:Int×Int×Int)(c:Int×Int×Int)(g:Int)(f:Int×Int->Option Int):Int×Int->Option Int
 | (a,b) =>
 if(decide (b<2)) then
  lp (Dz e d b c f) (a,0)
 else
  Ma d c g a
def Ai(a:m0)(c:Int)(b:Int)(e:Int):Option Int :=
 gd ((BH a.1 c).isSome/\True)<|lt (vl (BH a.1 c)) fun f =>
 gd ((BH a.2.1 b).isSome/\True)<|lt (vl (BH a.2.1 b)) fun d =>
 lp (Gm a f d e) (0,0)
def O0U:Ct:=c8 188 [.agg y269,.dat i64,.dat i64,.dat i64] (fun x=>Ai x.1 x.2.1 x.2.2.1 x.2.2.2.1) (fun r:Int=>I r) (fun _=>())
theorem Mb:Ok prog O0U:=by
 refine c9 [.tmp 8] func188 ?_;intro y ⟨e,_,_,g,_⟩ r H Q hn hr;have:=hz (tc Cy (tc PK tn));refine iA [1,2,3,4]<|iD PK [2,3,4,9,10,11] H fun a H=>iD PK [3,4,9,10,11,12,13,14] H fun b H=>iA [3,4,9,10,11,12,13,14,15]<|iA [3,4,9,10,11,12,13,14,15,16]<|jN r (fun(l:Int)=>Z [p 3 (J g),p 10 (I a.2.1),p 11 (I a.2.2),p 13 (I b.2.1),p 14 (I b.2.2),p 16 (I l)] []) (Ma a b g) (fun l H=>?_) (fun _ v W t0=>?_)
 ·refine iD Cy [8] H fun _ H=>a8<|hr H
 refine iA [3,4,9,10,11,12,13,14,15,16,17]<|vB<|lX (fun((h,c):Int×Int)=>Z (G1 g a.1 a.2.1 a.2.2 b.1 b.2.1 b.2.2 (e.2.1.length:Int) h [p 17 (I c)]) [(4,K 269 y269 e)]) (0,0) H fun _ x z F G ⟨h,c⟩ H=>vQ<|iA [3,4,9,10,11,12,13,14,15,16,17,40]<|cD H (fun H=>?_) (fun H=>?_)
 ·refine vK<|fQ<|jN r (fun(i:Int)=>Z (G1 g a.1 a.2.1 a.2.2 b.1 b.2.1 b.2.2 (e.2.1.length:Int) i [p 17 (I c)]) [(4,K 269 y269 e)]) (PL c x) (fun i H=>?_) (fun _ u e2 X=>?_)
  ·refine jB [3,4,9,10,11,12,13,14,15,16,17] H fun H=>z H
  refine vB<|iA [3,4,9,10,11,12,13,14,15,16,17,18]<|vB<|lX (fun((f,d):Int×Int)=>Z (G1 g a.1 a.2.1 a.2.2 b.1 b.2.1 b.2.2 (e.2.1.length:Int) f [p 17 (I c),p 18 (I d)]) [(4,K 269 y269 e)]) (h,0) H fun _ o w E T ⟨f,d⟩ H=>vQ<|iA [3,4,9,10,11,12,13,14,15,16,17,18,44]<|cD H (fun H=>?_) (fun H=>?_)
  ·refine vK<|fQ<|jN r (fun(j:Int)=>Z (G1 g a.1 a.2.1 a.2.2 b.1 b.2.1 b.2.2 (e.2.1.length:Int) j [p 17 (I c),p 18 (I d)]) [(4,K 269 y269 e)]) (Gl d o) (fun j H=>?_) (fun _ q V Y=>?_)
   ·refine jB [3,4,9,10,11,12,13,14,15,16,17,18] H fun H=>w H
   refine vB<|iA [3,4,9,10,11,12,13,14,15,16,17,18,19]<|jN r (fun(k:Int)=>Z (G1 g a.1 a.2.1 a.2.2 b.1 b.2.1 b.2.2 (e.2.1.length:Int) f [p 17 (I c),p 18 (I d),p 19 (I k)]) [(4,K 269 y269 e)]) (IB d f e a c b o) (fun k H=>?_) (fun _ t e5 t5=>?_)
   ·refine jN r (fun(m:Int)=>Z (G1 g a.1 a.2.1 a.2.2 b.1 b.2.1 b.2.2 (e.2.1.length:Int) f [p 17 (I c),p 18 (I d),p 19 (I m)]) [(4,K 269 y269 e)]) (BI d f e a c b o) (fun m H=>?_) (fun _ s P t6=>?_)
    ·refine iA [3,4,9,10,11,12,13,14,15,16,17,18,19,60]<|cD H (fun H=>zD (fun n=>Z (G1 g a.1 a.2.1 a.2.2 b.1 b.2.1 b.2.2 (e.2.1.length:Int) n [p 17 (I c),p 18 (I d)]) [(4,K 269 y269 e)]) H fun n H=>fK<|q H) fun H=>vK<|fK<|q H
    refine iA [3,4,9,10,11,12,13,14,15,16,17,18,19,52]<|cD H (fun H=>jB [3,4,9,10,11,12,13,14,15,16,17,18,19] H fun H=>s H) fun H=>jB [3,4,9,10,11,12,13,14,15,16,17,18,19] H fun H=>s H
   refine iA [3,4,9,10,11,12,13,14,15,16,17,18,19,49]<|cD H (fun H=>jA [3,4,9,10,11,12,13,14,15,16,17,18,19]<|t H) fun H=>vK<|t H
  exact vE<|fE<|E<|fX rfl<|fK<|u H
 exact vE<|fE<|F<|fX rfl<|v H
def DA(a:j1)(c:j6):Option (r9×Int) :=
 gd ((F9 a.2.1).isSome/\(0:Int) < (2:Int)/\ix (c.2.1.tdiv (2:Int)) (vl (F9 a.2.1)).length/\(c.2.1.tdiv (2:Int)).toNat < (vl (F9 a.2.1)).length/\True)<|lt ((vl (F9 a.2.1),(vl (F9 a.2.1)).getD (c.2.1.tdiv 2).toNat (a7 w6))) fun(_,b) =>
 gd (ix b.1 a.2.1.1.length/\ix (a.2.1.1.getD b.1.toNat (a7 y155)).2.1 a.1.length/\ix c.2.2.2 (a.1.getD (a.2.1.1.getD b.1.toNat (a7 y155)).2.1.toNat (a7 y153)).2.2.2.1.length/\(U3 a b.2.2.1).isSome/\ix (0:Int) (vl (U3 a b.2.2.1)).length/\Int.toNat (0:Int) < (vl (U3 a b.2.2.1)).length/\True)<|lt ((vl (U3 a b.2.2.1),(a.1.getD (a.2.1.1.getD b.1.toNat (a7 y155)).2.1.toNat (a7 y153)).2.2.2.1.getD c.2.2.2.toNat (a7 y158))) fun(d,e) =>
 some ((e,d.getD (Int.toNat (0:Int)) (0:Int)))
def O0V:Ct:=c8 187 [.agg l5,.agg y138] (fun x=>DA x.1 x.2.1) (fun r:r9×Int=>AV.tup [AV.agg [I r.1.1,I r.1.2.1,I r.1.2.2.1,I r.1.2.2.2.1,L y269 r.1.2.2.2.2.1,L y269 r.1.2.2.2.2.2],I r.2]) (fun _=>())
theorem Mc:Ok prog O0V:=by
 refine c9 [.cell 4 158,.tmp 5] func187 ?_;intro y ⟨d,f,_⟩ r H Q hn hr;have:=hz (tc PG (tc X1 tn));refine iA [2,3,4]<|qD (fun(c,a)=>Z (G9 [p 4 (R 4),p 6 (R 6)]) [(6,bx 226 (A6 true w6 a)),(9,A 226 w6 c 0),(4,bx 158 [I 0,I 0,I 0,I 0,nil,nil]),(3,K 138 y138 f),(2,K 56 l5 d)]) H fun⟨c,a⟩ H =>
  qD (fun(b,e)=>Z [p 4 (R 4),p 5 (I (b.getD (Int.toNat (0:Int)) (0:Int)))] [(4,K 158 y158 e),(36,A 2 i64 b 0),(6,bx 226 (A6 true w6 a)),(9,A 226 w6 c 0),(3,K 138 y138 f),(2,K 56 l5 d)]) H fun⟨b,e⟩ H =>
  a8<|hr H
def X3(b:j1)(a:j6)(d:Int)(e:Int):Option Int :=
 if(a.2.2.1==1) then
  gd ((DA b a).isSome/\True)<|lt (vl (DA b a)) fun c =>
  gd ((0:Int) < (2:Int)/\ix (a.2.1.tmod (2:Int)) c.1.2.2.2.2.2.length/\(Ai (c.1.2.2.2.2.2.getD (a.2.1.tmod (2:Int)).toNat (a7 y269)) d c.2 e).isSome/\True)<|lt (vl (Ai (c.1.2.2.2.2.2.getD (a.2.1.tmod 2).toNat (a7 y269)) d c.2 e)) fun f =>
  some f
 else
  gd ((Ah b a).isSome/\(IA b (vl (Ah b a)) a.2.2.2 d e).isSome/\True)<|lt (vl (IA b (vl (Ah b a)) a.2.2.2 d e)) fun g =>
  some (min 1000000 g)
def P0H:Ct:=c8 143 [.agg l5,.agg y138,.dat i64,.dat i64] (fun x=>X3 x.1 x.2.1 x.2.2.1 x.2.2.2.1) (fun r:Int=>I r) (fun _=>())
theorem PM:Ok prog P0H:=by
 refine c9 [.tmp 8] func143 ?_;intro y ⟨_,_,_,_,_⟩ r H Q hn hr;have:=hz (tc UW (tc UX (tc Mb (tc Mc tn))));refine iA [2,3,4,5]<|vQ<|iA [2,3,4,5,13]<|cD H (fun H=>iD Mc [2,3,5,9,10] H fun _ H=>iD Mb [8] H fun _ H=>a8<|fR<|hr H) fun H=>vK<|fQ<|iD UW [8] H fun _ H=>a8<|hr H
def DB(a:q9)(c:Int)(b:Int):Option Int :=
 if(c==1) then
  if(b==0) then
   some a.2.1
  else
   some a.2.2.1
 else
  if(b==0) then
   some a.2.2.2.1
  else
   some a.2.2.2.2
def O0Q:Ct:=c8 192 [.agg u4,.dat i64,.dat i64] (fun x=>DB x.1 x.2.1 x.2.2.1) (fun r:Int=>I r) (fun _=>())
theorem M0A:Ok prog O0Q:=by
 refine c9 [.tmp 6] func192 ?_;intro y ⟨_,_,_,_⟩ r H Q hn hr;refine iA [1,2,3]<|vQ<|iA [2,3,8]<|cD H (fun H=>?_) (fun H=>?_)
 ·refine vQ<|iA [3,10]<|cD H (fun H=>iA [6]<|a8<|fR<|fR<|hr H) fun H=>vK<|fQ<|iA [6]<|a8<|fR<|hr H
 refine vK<|fQ<|vQ<|iA [3,16]<|cD H (fun H=>iA [6]<|a8<|fR<|hr H) fun H=>vK<|fQ<|iA [6]<|a8<|hr H
def UZ:List Int->Option (List Int)
 | a =>
 some a
def Va(d:List Int)(b:j1)(c:Int)(e:Int)(h:Int×List Int->Option (List Int)):Int×List Int->Option (List Int)
 | (a,f) =>
 gd (ix c b.2.2.length/\True) <|
 if(decide (a < (↑(b.2.2.getD c.toNat (a7 y172)).2.2.2.length:Int))) then
  gd (ix c b.2.2.length/\ix a (b.2.2.getD c.toNat (a7 y172)).2.2.2.length/\ix ((b.2.2.getD c.toNat (a7 y172)).2.2.2.getD a.toNat 0) d.length/\Int.toNat ((b.2.2.getD c.toNat (a7 y172)).2.2.2.getD a.toNat 0)<d.length/\(N5 (d.getD (Int.toNat ((b.2.2.getD c.toNat (a7 y172)).2.2.2.getD a.toNat 0)) 0) 1000 e).isSome/\(f.length+[vl (N5 (d.getD (Int.toNat ((b.2.2.getD c.toNat (a7 y172)).2.2.2.getD a.toNat 0)) 0) 1000 e)].length<=9223372036854775807/\(f.length+[vl (N5 (d.getD (Int.toNat ((b.2.2.getD c.toNat (a7 y172)).2.2.2.getD a.toNat 0)) 0) 1000 e)].length)*8<=140737488355328)/\True)<|lt (vl (N5 (d.getD (Int.toNat ((b.2.2.getD c.toNat (a7 y172)).2.2.2.getD a.toNat 0)) 0) 1000 e)) fun g =>
  gd (c7 (a+1)/\True) <|
  h (a+1,f++[g])
 else
  UZ f
def DC(a:j1)(b:Int)(d:Int):Option (List Int) :=
 gd ((AR a b).isSome/\True)<|lt (vl (AR a b)) fun c =>
 lp (Va c a b d) (0,[])
def O0T:Ct:=c8 189 [.agg l5,.dat i64,.dat i64] (fun x=>DC x.1 x.2.1 x.2.2.1) (fun r:List Int=>AV.ow 2 true i64 r) (fun _=>())
theorem Vb:Ok prog O0T:=by
 refine c9 [.tmp 6] func189 ?_;intro y ⟨f,j,e,_⟩ r H Q hn hr;have:=hz (tc Cy (tc PJ tn));refine iA [1,2,3]<|iD PJ [1,2,3,7] H fun h H=>iA [1,2,3,7,8]<|jN r (fun(a:List Int)=>Z [p 8 (O 13)] [(13,A 2 i64 a 0)]) (UZ) (fun a H=>?_) (fun _ d m n=>?_)
 ·refine iA [6]<|a8<|hr H
 refine iA [1,2,3,7,8,9]<|vB<|lX (fun((b,c):Int×List Int)=>Z [p 1 (J j),p 2 (J e),p 3 (R 3),p 7 (O 12),p 8 (O 13),p 9 (I b)] [(13,A 2 i64 c 0),(12,A 2 i64 h 0),(3,K 56 l5 f)]) (0,[]) H fun _ l g i k ⟨b,c⟩ H=>vQ<|iB [1,2,3,7,8,9,22] H fun H=>cD H (fun H=>vK<|fQ<|vQ<|vB<|jD Cy [1,2,3,7,8,9] H fun _ H=>fK<|fQ<|jB [1,2,3,7,8,9] H fun H=>g H) fun H=>vE<|fE<|i<|fX rfl<|d H
def Gn(c:q9)(b:j6)(a:Int):Int->Option Int
 | d =>
 gd ((DB c b.2.2.1 a).isSome/\c7 (d*vl (DB c b.2.2.1 a))/\(N5 (d*vl (DB c b.2.2.1 a)) 1000 a).isSome/\True)<|lt (vl (N5 (d*vl (DB c b.2.2.1 a)) 1000 a)) fun e =>
 some e
def X4(b:j1)(f:q9)(a:j6)(e:Int)(c:Int):Option Int :=
 if(a.2.2.1==1) then
  gd ((DA b a).isSome/\True)<|lt (vl (DA b a)) fun d =>
  gd ((0:Int) < (2:Int)/\ix (a.2.1.tmod (2:Int)) d.1.2.2.2.2.1.length/\(Ai (d.1.2.2.2.2.1.getD (a.2.1.tmod (2:Int)).toNat (a7 y269)) e d.2 c).isSome/\True)<|lt (vl (Ai (d.1.2.2.2.2.1.getD (a.2.1.tmod 2).toNat (a7 y269)) e d.2 c)) fun g =>
  Gn f a c g
 else
  gd ((Ah b a).isSome/\(DC b (vl (Ah b a)) c).isSome/\ix a.2.2.2 (vl (DC b (vl (Ah b a)) c)).length/\a.2.2.2.toNat < (vl (DC b (vl (Ah b a)) c)).length/\True)<|lt (vl (DC b (vl (Ah b a)) c)) fun h =>
  Gn f a c (h.getD a.2.2.2.toNat 0)
def P0I:Ct:=c8 142 [.agg l5,.agg u4,.agg y138,.dat i64,.dat i64] (fun x=>X4 x.1 x.2.1 x.2.2.1 x.2.2.2.1 x.2.2.2.2.1) (fun r:Int=>I r) (fun _=>())
theorem PN:Ok prog P0I:=by
 refine c9 [.tmp 10] func142 ?_;intro y ⟨_,e,a,_,c,_⟩ r H Q hn hr;have:=hz (tc Cy (tc M0A (tc Vb (tc UX (tc Mb (tc Mc tn))))));refine iA [3,4,5,6,7]<|iA [3,4,5,6,7]<|jN r (fun(d:Int)=>Z [p 4 (J c),p 6 (R 6),p 7 (R 7),p 11 (I d)] [(7,K 138 y138 a),(6,K 58 u4 e)]) (Gn e a c) (fun d H=>?_) (fun _ b f g=>?_)
 ·refine iD Cy [10] H fun _ H=>a8<|hr H
 refine iA [3,4,5,6,7,16]<|cD H (fun H=>iD Mc [3,4,6,7,12,13] H fun _ H=>jD Mb [4,6,7,11] H fun _ H=>b H) fun H=>jD Vb [4,6,7,11] H fun _ H=>b H
def Gp(b:j1)(d:q9)(a:j6)(c:s7):Option (s7×s7) :=
 gd ((X4 b d a c.1 0).isSome/\(X4 b d a c.1 1).isSome/\True)<|lt ((vl (X4 b d a c.1 0),vl (X4 b d a c.1 1))) fun(k,e) =>
 gd ((X3 b a c.1 0).isSome/\(X3 b a c.1 1).isSome/\True)<|lt ((vl (X3 b a c.1 0),vl (X3 b a c.1 1))) fun(g,i) =>
 gd ((X4 b d a c.2 0).isSome/\True)<|lt (vl (X4 b d a c.2 0)) fun h =>
 gd ((X4 b d a c.2 1).isSome/\True)<|lt (vl (X4 b d a c.2 1)) fun f =>
 gd ((X3 b a c.2 0).isSome/\True)<|lt (vl (X3 b a c.2 0)) fun l =>
 gd ((X3 b a c.2 1).isSome/\True)<|lt (vl (X3 b a c.2 1)) fun j =>
 some (((min k h,max e f),min g l,max i j))
def k92:Ct:=c8 92 [.agg l5,.agg u4,.agg y138,.agg y73] (fun x=>Gp x.1 x.2.1 x.2.2.1 x.2.2.2.1) (fun r:s7×s7=>AV.tup [AV.agg [I r.1.1,I r.1.2],AV.agg [I r.2.1,I r.2.2]]) (fun _=>())
theorem Vc:Ok prog k92:=by
 refine c9 [.cell 8 73,.cell 9 73] func92 ?_;intro y ⟨e,h,d,g,_⟩ r H Q hn hr;have:=hz (tc PM (tc PN tn));refine iA [4,5,6,7,8,9]<|qD (fun(b,a)=>Z [p 4 (R 4),p 5 (R 5),p 6 (R 6),p 7 (R 7),p 8 (R 8),p 9 (R 9),p 10 (R 10)] [(10,bx 73 [I b,I a]),(9,bx 73 [I 0,I 0]),(8,bx 73 [I 0,I 0]),(7,K 73 y73 g),(6,K 138 y138 d),(5,K 58 u4 h),(4,K 56 l5 e)]) H fun⟨b,a⟩ H =>
  qD (fun(c,f)=>Z [p 4 (R 4),p 5 (R 5),p 6 (R 6),p 7 (R 7),p 8 (R 8),p 9 (R 9),p 10 (R 10),p 11 (R 11)] [(11,bx 73 [I c,I f]),(10,bx 73 [I b,I a]),(9,bx 73 [I 0,I 0]),(8,bx 73 [I 0,I 0]),(7,K 73 y73 g),(6,K 138 y138 d),(5,K 58 u4 h),(4,K 56 l5 e)]) H fun⟨c,f⟩ H =>
  iD PN [4,5,6,7,8,9,10,11] H fun _ H =>
  iD PN [4,6,7,8,9,10,11] H fun _ H =>
  iD PM [4,6,7,8,9,10,11] H fun _ H =>
  iD PM [8,9,10,11] H fun _ H =>
  iA [8,9] <|
  a8<|hr H
def m3(a:Int)(b:Int)(c:Int):Option Bool :=
 some (decide (b<=a)&&decide (a<=c))
def k59:Ct:=c8 59 [.dat i64,.dat i64,.dat i64] (fun x=>m3 x.1 x.2.1 x.2.2.1) (fun r:Bool=>B r) (fun _=>())
theorem X5:Ok prog k59:=by
 refine c9 [.tmp 6] func59 ?_;intro y ⟨_,_,_,_⟩ r H Q hn hr;refine iA [0,1,2]<|iA [6]<|a8<|hr H
def K1(a:j1):Option Int :=
 gd ((F9 a.2.1).isSome/\c7 (2*(↑(vl (F9 a.2.1)).length:Int))/\True)<|lt (vl (F9 a.2.1)) fun b =>
 some (2*(b.length:Int))
def k60:Ct:=c8 60 [.agg l5] (fun x=>K1 x.1) (fun r:Int=>I r) (fun _=>())
theorem IC:Ok prog k60:=by
 refine c9 [.tmp 2] func60 ?_;intro y ⟨_,_⟩ r H Q hn hr;have:=hz (tc X1 tn);refine iA [1]<|iD X1 [2] H fun _ H=>a8<|hr H
def Vd:Unit->Option (Int×Int)
 | _ =>
 some (((0:Int),(5:Int)))
def Md(a:Int)(b:Int->Option (Int×Int)):Unit->Option (Int×Int)
 | _ =>
 gd (c7 (a+1)/\True) <|
 b (a+1)
def Me(n:Int)(c:A3)(e:Int)(j:j1)(m:q9)(i:List Bool)(l:Int)(g:List j6)(k:Int->Option (Int×Int)):Int->Option (Int×Int)
 | b =>
 if(decide (b < (g.length:Int))) then
  gd (ix b g.length/\True)<|lt (g.getD b.toNat (a7 y138)) fun a =>
  gd (ix b i.length/\((!i.getD b.toNat false||a.2.1 != l)=false/\True->ix a.1 c.1.length)/\True) <|
  if(!i.getD b.toNat false||a.2.1 != l||!c.1.getD a.1.toNat false) then
   Md b k ()
  else
   gd (ix a.1 c.2.2.length/\(Gp j m a (c.2.2.getD a.1.toNat (a7 y73))).isSome/\True)<|lt (vl (Gp j m a (c.2.2.getD a.1.toNat (a7 y73)))) fun d =>
   gd (ix a.1 c.2.1.length/\(U2 (c.2.1.getD a.1.toNat (a7 y73)) e).isSome/\(U2 d.1 e).isSome/\c7 (vl (U2 (c.2.1.getD a.1.toNat (a7 y73)) e)+vl (U2 d.1 e))/\True)<|lt ((vl (U2 (c.2.1.getD a.1.toNat (a7 y73)) e),vl (U2 d.1 e))) fun(h,f) =>
   if(h+f==n) then
    some ((b,(0:Int)))
   else
    Md b k ()
 else
  Vd ()
def Mf(e:Int)(f:A3)(a:Int)(c:j1)(h:q9)(d:List Bool)(g:Int)(b:List j6):Unit->Option (Int×Int)
 | _ =>
 lp (Me e f a c h d g b) 0
def Mg(b:List r4)(c:Int)(e:Int)(d:Int)(k:A3)(g:j1)(l:q9)(j:List Bool)(f:List j6)(h:Int->Option (Int×Int)):Int->Option (Int×Int)
 | a =>
 if(decide (a < (b.length:Int))) then
  gd (ix a b.length/\(((b.getD a.toNat (a7 y75)).1==c)=true/\True->ix a b.length)/\(((b.getD a.toNat (a7 y75)).1==c)=true/\True->(U2 (b.getD a.toNat (a7 y75)).2.1 d).isSome)/\True)<|lt (vl (U2 (b.getD a.toNat (a7 y75)).2.1 d)) fun i =>
  if((b.getD a.toNat (a7 y75)).1==c&&i==e) then
   some (((-1:Int),(0:Int)))
  else
   gd (c7 (a+1)/\True) <|
   h (a+1)
 else
  Mf e k d g l j c f ()
def Cz(b:j1)(i:q9)(e:List j6)(g:List Bool)(f:List r4)(c:A3)(a:Int)(d:Int):Option (Int×Int) :=
 gd ((K1 b).isSome/\c7 (vl (K1 b)-1)/\(m3 a 0 (vl (K1 b)-1)).isSome/\((!vl (m3 a 0 (vl (K1 b)-1)))=false/\True->ix a c.1.length)/\True) <|
 if(!vl (m3 a 0 (vl (K1 b)-1))||!c.1.getD a.toNat false) then
  some (((0:Int),(4:Int)))
 else
  gd (ix a c.2.1.length/\(U2 (c.2.1.getD a.toNat (a7 y73)) d).isSome/\True)<|lt (vl (U2 (c.2.1.getD a.toNat (a7 y73)) d)) fun h =>
  lp (Mg f a h d c b i g e) 0
def k43:Ct:=c8 43 [.agg l5,.agg u4,.dat y138.sl,.dat Ty.bool.sl,.dat y75.sl,.agg y65,.dat i64,.dat i64] (fun x=>Cz x.1 x.2.1 x.2.2.1 x.2.2.2.1 x.2.2.2.2.1 x.2.2.2.2.2.1 x.2.2.2.2.2.2.1 x.2.2.2.2.2.2.2.1) (fun r:Int×Int=>AV.tup [I r.1,I r.2]) (fun _=>())
theorem o43:Ok prog k43:=by
 refine c9 [.tmp 16,.tmp 17] func43 ?_;intro y ⟨b,f,h,c,u,d,e,g,_⟩ r H Q hn hr;have:=hz (tc PC (tc Vc (tc X5 (tc IC tn))));refine iA [2,3,4,6,7,8,9,13]<|vQ<|iB [2,3,4,6,7,8,9,13,37] H fun H=>cD H (fun H=>iA [16,17]<|a8<|fR<|hr H) fun H=>vK<|fQ<|iD PC [2,3,4,6,7,8,9,13,18] H fun a H=>jN r (fun(_:Unit)=>Z (G3 h c e g a []) (Ge d f b)) (Mf a d g b f c e h) (fun _ H=>?_) (fun _ t W E=>?_)
 ·refine jN r (fun(_:Unit)=>Z [] []) (Vd) (fun _ H=>?_) (fun _ s X x=>?_)
  ·refine iA [16,17]<|a8<|hr H
  refine iA [2,3,6,7,8,9,13,18,20]<|vB<|lX (fun(i:Int)=>Z (G3 h c e g a [p 20 (I i)]) (Ge d f b)) 0 H fun _ P v G w i H=>vQ<|iA [2,3,6,7,8,9,13,18,20,72]<|cD H (fun H=>?_) (fun H=>?_)
  ·refine vK<|fQ<|jN r (fun(_:Unit)=>Z (G3 h c e g a [p 20 (I i)]) (Ge d f b)) (Md i P) (fun _ H=>?_) (fun _ n V z=>?_)
   ·refine jB [2,3,6,7,8,9,13,18,20] H fun H=>v H
   refine vB<|qD (fun m=>Z (G3 h c e g a [p 20 (I i),p 21 (R 21)]) ((21,K 138 y138 m)::Ge d f b)) H fun m H=>vQ<|iB [2,3,6,7,8,9,13,18,20,21,98] H fun H=>cD H (fun H=>vE<|fE<|fX rfl<|n H) fun H=>vK<|fQ<|iD Vc [2,3,6,7,8,9,13,18,20,21,22] H fun j H=>qD (fun(k,l)=>Z (G3 h c e g a [p 20 (I i),p 125 (B (k+l==a))]) ((23,bx 73 (A6 true y73 j.2))::(22,bx 73 (A6 true y73 j.1))::(21,K 138 y138 m)::Ge d f b)) H fun⟨k,l⟩ H =>
    cD H (fun H=>iA [16,17]<|a8<|h9<|z<|w<|h9<|x<|hr H) fun H=>vK<|fK<|n H
  exact vE<|fE<|G<|fX rfl<|s H
 refine iA [2,3,4,6,7,8,9,13,18,19]<|vB<|lX (fun(o:Int)=>Z [p 2 (L y138 h),p 3 (L Ty.bool c),p 4 (L y75 u),p 6 (J e),p 7 (J g),p 8 (R 8),p 9 (R 9),p 13 (R 13),p 18 (I a),p 19 (I o)] (Ge d f b)) 0 H fun _ Y F T q o H=>vQ<|iA [2,3,4,6,7,8,9,13,18,19,48]<|cD H (fun H=>?_) (fun H=>?_)
 ·refine vK<|fQ<|vQ<|vB<|iD PC [2,3,4,6,7,8,9,13,18,19,68] H fun _ H=>cD H (fun H=>iA [16,17]<|a8<|h9<|fR<|q<|h9<|E<|hr H) fun H=>vK<|fK<|fQ<|jB [2,3,4,6,7,8,9,13,18,19] H fun H=>F H
 exact vE<|fE<|T<|fX rfl<|t H
def Ve:Unit->Option Bool
 | _ =>
 some false
def Vf(b:List Int)(d:Int)(c:Int->Option Bool):Int->Option Bool
 | a =>
 if(decide (a < (b.length:Int))) then
  gd (ix a b.length/\True) <|
  if(b.getD a.toNat 0==d) then
   some true
  else
   gd (c7 (a+1)/\True) <|
   c (a+1)
 else
  Ve ()
def Gq(a:List Int)(b:Int):Option Bool :=
 lp (Vf a b) 0
def k93:Ct:=c8 93 [.dat i64.sl,.dat i64] (fun x=>Gq x.1 x.2.1) (fun r:Bool=>B r) (fun _=>())
theorem o93:Ok prog k93:=by
 refine c9 [.tmp 4] func93 ?_;intro y ⟨d,h,_⟩ r H Q hn hr;refine iA [0,1]<|jN r (fun(_:Unit)=>Z [] []) (Ve) (fun _ H=>?_) (fun _ c j f=>?_)
 ·refine iA [4]<|a8<|hr H
 refine iA [0,1,5]<|vB<|lX (fun(a:Int)=>Z [p 0 (L i64 d),p 1 (J h),p 5 (I a)] []) 0 H fun _ i e g b a H=>vQ<|iA [0,1,5,9]<|cD H (fun H=>?_) (fun H=>?_)
 ·refine vK<|fQ<|vQ<|vB<|iB [0,1,5,17] H fun H=>cD H (fun H=>iA [4]<|a8<|h9<|fR<|b<|h9<|f<|hr H) fun H=>vK<|fK<|fQ<|jB [0,1,5] H fun H=>e H
 exact vE<|fE<|g<|fX rfl<|c H
def Vg:List Bool->Option (List Bool)
 | a =>
 some a
def Vh(c:List Int)(d:List j6)(e:Int×List Bool->Option (List Bool)):Int×List Bool->Option (List Bool)
 | (a,b) =>
 if(decide (a < (d.length:Int))) then
  gd ((Gq c a).isSome/\(b.length+[!vl (Gq c a)].length<=9223372036854775807/\(b.length+[!vl (Gq c a)].length)*1<=140737488355328)/\True) <|
  gd (c7 (a+1)/\True) <|
  e ((a+1,b++[!vl (Gq c a)]))
 else
  Vg b
def AS(a:List j6)(b:List Int):Option (List Bool) :=
 lp (Vh b a) (0,[])
def k44:Ct:=c8 44 [.dat y138.sl,.dat i64.sl] (fun x=>AS x.1 x.2.1) (fun r:List Bool=>AV.ow 4 true Ty.bool r) (fun _=>())
theorem Vi:Ok prog k44:=by
 refine c9 [.tmp 4] func44 ?_;intro y ⟨e,h,_⟩ r H Q hn hr;have:=hz (tc o93 tn);refine iA [0,1]<|iA [0,1,5]<|jN r (fun(b:List Bool)=>Z [p 5 (O 7)] [(7,A 4 Ty.bool b 0)]) (Vg) (fun b H=>?_) (fun _ d k l=>?_)
 ·refine iA [4]<|a8<|hr H
 refine iA [0,1,5,6]<|vB<|lX (fun((c,a):Int×List Bool)=>Z [p 0 (L y138 e),p 1 (L i64 h),p 5 (O 7),p 6 (I c)] [(7,A 4 Ty.bool a 0)]) (0,[]) H fun _ j f g i ⟨c,a⟩ H=>vQ<|iA [0,1,5,6,11]<|cD H (fun H=>vK<|fQ<|vQ<|vB<|jB [0,1,5,6] H fun H=>fK<|fQ<|jB [0,1,5,6] H fun H=>f H) fun H=>vE<|fE<|g<|fX rfl<|d H
def CA(e:List j6)(b:Int)(a:Int)(d:Int)(c:Int)(f:Int)(g:Int):Option (List j6) :=
 gd (c7 (2*b)/\c7 (2*b+d)/\c7 (2*a)/\c7 (2*a+c)/\(e.length+[(2*b+d,2*a+c,f,g)].length<=9223372036854775807/\(e.length+[(2*b+d,2*a+c,f,g)].length)*32<=140737488355328)/\True) <|
 some (e++[(2*b+d,2*a+c,f,g)])
def k90:Ct:=c8 90 [.os 138 y138,.dat i64,.dat i64,.dat i64,.dat i64,.dat i64,.dat i64] (fun x=>CA x.1 x.2.1 x.2.2.1 x.2.2.2.1 x.2.2.2.2.1 x.2.2.2.2.2.1 x.2.2.2.2.2.2.1) (fun r:List j6=>AV.ow 138 true y138 r) (fun _=>())
theorem ID:Ok prog k90:=by
 refine c9 [.tmp 14] func90 ?_;intro y ⟨_,_,_,_,_,_,_,_⟩ r H Q hn hr;refine iA [0,1,2,3,4,5,6]<|iB [14] H fun H=>a8<|hr H
def Vj:Unit->Option Int
 | _ =>
 some (-1)
def Vk(b:List x9)(c:Int)(d:Int->Option Int):Int->Option Int
 | a =>
 if(decide (a < (b.length:Int))) then
  gd (ix a b.length/\a.toNat<b.length/\(((b.getD a.toNat (a7 w6)).2.2.1==c)=true/\True->ix a b.length)/\(((b.getD a.toNat (a7 w6)).2.2.1==c)=true/\True->a.toNat<b.length)/\True) <|
  if((b.getD a.toNat (a7 w6)).2.2.1==c&&(b.getD a.toNat (a7 w6)).2.2.2) then
   some a
  else
   gd (c7 (a+1)/\True) <|
   d (a+1)
 else
  Vj ()
def IE(a:m7)(c:Int):Option Int :=
 gd ((F9 a).isSome/\True)<|lt (vl (F9 a)) fun b =>
 lp (Vk b c) 0
def k88:Ct:=c8 88 [.agg y53,.dat i64] (fun x=>IE x.1 x.2.1) (fun r:Int=>I r) (fun _=>())
theorem Vl:Ok prog k88:=by
 refine c9 [.tmp 4] func88 ?_;intro y ⟨_,h,_⟩ r H Q hn hr;have:=hz (tc X1 tn);refine iA [1,2]<|iD X1 [1,5] H fun f H=>jN r (fun(_:Unit)=>Z [] []) (Vj) (fun _ H=>?_) (fun _ c j e=>?_)
 ·refine iA [4]<|a8<|hr H
 refine iA [1,5,6]<|vB<|lX (fun(a:Int)=>Z [p 1 (J h),p 5 (O 8),p 6 (I a)] [(8,A 226 w6 f 0)]) 0 H fun _ i d g b a H=>vQ<|iA [1,5,6,12]<|cD H (fun H=>?_) (fun H=>?_)
 ·refine vK<|fQ<|vQ<|vB<|iB [1,5,6,28] H fun H=>cD H (fun H=>iA [4]<|a8<|h9<|fR<|b<|h9<|e<|hr H) fun H=>vK<|fK<|fQ<|jB [1,5,6] H fun H=>d H
 exact vE<|fE<|g<|fX rfl<|c H
def Vm:List j6->Option (List j6)
 | a =>
 some a
def PO(b:Int)(c:Int×List j6->Option (List j6)):List j6->Option (List j6)
 | a =>
 gd (c7 (b+1)/\True) <|
 c (b+1,a)
def Mh(a:Int)(c:Int×List j6->Option (List j6)):List j6->Option (List j6)
 | b =>
 gd (c7 (a+1)/\True) <|
 c (a+1,b)
def CB(a:Int)(b:List j6)(e:Int)(g:Int)(h:Int)(f:Int)(i:Int×List j6->Option (List j6)):Bool->Option (List j6)
 | c =>
 if c then
  gd ((CA b e g h a 1 f).isSome/\True)<|lt (vl (CA b e g h a 1 f)) fun d =>
  Mh a i d
 else
  Mh a i b
def PQ(e:Int)(g:Int)(c:Int)(f:Int)(d:r9)(i:Int×List j6->Option (List j6))(h:Int×List j6->Option (List j6)):Int×List j6->Option (List j6)
 | (a,b) =>
 if(decide (a<=1)) then
  if(d.1==1) then
   CB a b e g c f h (d.2.2.2.1==3||(d.2.2.2.1==1)==(c==a))
  else
   if(d.1==2) then
    CB a b e g c f h (c==0)
   else
    if(d.1==3) then
     CB a b e g c f h (c==1)
    else
     CB a b e g c f h false
 else
  PO c i b
def Mi(c:Int)(f:Int)(e:Int)(g:r9)(d:Int×List j6->Option (List j6)):Int×List j6->Option (List j6)
 | (b,a) =>
 if(decide (b<=1)) then
  lp (PQ c f b e g d) (0,a)
 else
  Vm a
def DD(b:List j6)(e:r9)(a:Int)(d:Int)(c:Int):Option (List j6) :=
 lp (Mi a d c e) (0,b)
def k86:Ct:=c8 86 [.os 138 y138,.agg y158,.dat i64,.dat i64,.dat i64] (fun x=>DD x.1 x.2.1 x.2.2.1 x.2.2.2.1 x.2.2.2.2.1) (fun r:List j6=>AV.ow 138 true y138 r) (fun _=>())
theorem Vn:Ok prog k86:=by
 refine c9 [.tmp 10] func86 ?_;intro y ⟨t,j,g,f,e,_⟩ r H Q hn hr;have:=hz (tc ID tn);refine iA [0,2,3,4,6]<|jN r (fun(k:List j6)=>Z [p 0 (O 500000)] [(500000,A 138 y138 k 0)]) (Vm) (fun k H=>?_) (fun _ s P W=>?_)
 ·refine iA [10]<|a8<|hr H
 refine iA [0,2,3,4,6,11]<|vB<|lX (fun((c,d):Int×List j6)=>Z (Ia g f e c []) [(6,K 158 y158 j),(500000,A 138 y138 d 0)]) (0,t) H fun _ v w z E ⟨c,d⟩ H=>vQ<|iA [0,2,3,4,6,11,15]<|cD H (fun H=>?_) (fun H=>?_)
 ·refine vK<|fQ<|jN r (fun(h:List j6)=>Z (Ia g f e c []) [(6,K 158 y158 j),(500000,A 138 y138 h 0)]) (PO c v) (fun h H=>?_) (fun _ q Y T=>?_)
  ·refine jB [0,2,3,4,6,11] H fun H=>w H
  refine vB<|iA [0,2,3,4,6,11,12]<|vB<|lX (fun((a,b):Int×List j6)=>Z (Ia g f e c [p 12 (I a)]) [(6,K 158 y158 j),(500000,A 138 y138 b 0)]) (0,d) H fun _ o u x F ⟨a,b⟩ H=>vQ<|iA [0,2,3,4,6,11,12,19]<|cD H (fun H=>?_) (fun H=>?_)
  ·refine vK<|fQ<|jN r (fun(i:List j6)=>Z (Ia g f e c [p 12 (I a)]) [(500000,A 138 y138 i 0),(6,K 158 y158 j)]) (Mh a o) (fun i H=>?_) (fun _ n G V=>?_)
   ·refine jB [0,2,3,4,6,11,12] H fun H=>u H
   refine vB<|iA [0,2,3,4,6,11,12,13]<|jN r (fun(l:Bool)=>Z (Ia g f e c [p 12 (I a),p 13 (B l)]) [(6,K 158 y158 j),(500000,A 138 y138 b 0)]) (CB a b g f c e o) (fun l H=>?_) (fun _ m e5 X=>?_)
   ·refine iA [0,2,3,4,6,11,12,46]<|cD H (fun H=>jD ID [0,2,3,4,6,11,12] H fun _ H=>fK<|n H) fun H=>vK<|fK<|n H
   refine iA [0,2,3,4,6,11,12,13,23]<|vB<|iA [0,2,3,4,6,11,12,13,23,24]<|cD H (fun H=>jA [0,2,3,4,6,11,12,13]<|fK<|m H) fun H=>iA [0,2,3,4,6,11,12,13,23,38]<|cD H (fun H=>jA [0,2,3,4,6,11,12,13]<|fK<|m H) fun H=>iA [0,2,3,4,6,11,12,13,42]<|cD H (fun H=>jA [0,2,3,4,6,11,12,13]<|fK<|m H) fun H=>vK<|fK<|m H
  exact vE<|fE<|x<|fX rfl<|fK<|q H
 exact vE<|fE<|z<|fX rfl<|s H
def Vo:Unit->Option Int
 | _ =>
 some (-1)
def Vp(b:List x9)(c:Int)(d:Int)(e:Int->Option Int):Int->Option Int
 | a =>
 if(decide (a < (b.length:Int))) then
  gd (ix a b.length/\a.toNat<b.length/\(((b.getD a.toNat (a7 w6)).1==c)=true/\True->ix a b.length)/\(((b.getD a.toNat (a7 w6)).1==c)=true/\True->a.toNat<b.length)/\True) <|
  if((b.getD a.toNat (a7 w6)).1==c&&(b.getD a.toNat (a7 w6)).2.1==d) then
   some a
  else
   gd (c7 (a+1)/\True) <|
   e (a+1)
 else
  Vo ()
def P3(a:m7)(c:Int)(d:Int):Option Int :=
 gd ((F9 a).isSome/\True)<|lt (vl (F9 a)) fun b =>
 lp (Vp b c d) 0
def k87:Ct:=c8 87 [.agg y53,.dat i64,.dat i64] (fun x=>P3 x.1 x.2.1 x.2.2.1) (fun r:Int=>I r) (fun _=>())
theorem o87:Ok prog k87:=by
 refine c9 [.tmp 6] func87 ?_;intro y ⟨_,i,c,_⟩ r H Q hn hr;have:=hz (tc X1 tn);refine iA [1,2,3]<|iD X1 [1,2,7] H fun g H=>jN r (fun(_:Unit)=>Z [] []) (Vo) (fun _ H=>?_) (fun _ d k f=>?_)
 ·refine iA [6]<|a8<|hr H
 refine iA [1,2,7,8]<|vB<|lX (fun(a:Int)=>Z [p 1 (J i),p 2 (J c),p 7 (O 10),p 8 (I a)] [(10,A 226 w6 g 0)]) 0 H fun _ j e h b a H=>vQ<|iA [1,2,7,8,14]<|cD H (fun H=>?_) (fun H=>?_)
 ·refine vK<|fQ<|vQ<|vB<|iB [1,2,7,8,32] H fun H=>cD H (fun H=>iA [6]<|a8<|h9<|fR<|b<|h9<|f<|hr H) fun H=>vK<|fK<|fQ<|jB [1,2,7,8] H fun H=>e H
 exact vE<|fE<|h<|fX rfl<|d H
def Vq:List j6->Option (List j6)
 | a =>
 some a
def PR(a:Int)(c:Int×List j6->Option (List j6)):List j6->Option (List j6)
 | b =>
 gd (c7 (a+1)/\True) <|
 c (a+1,b)
def Vr(c:Int)(b:List Int)(f:Int)(h:Int×List j6->Option (List j6))(i:Int×List j6->Option (List j6)):Int×List j6->Option (List j6)
 | (a,d) =>
 if(decide (a < (b.length:Int))) then
  gd (ix a b.length/\a.toNat<b.length/\(CA d c (b.getD a.toNat 0) 0 0 2 a).isSome/\True)<|lt (vl (CA d c (b.getD a.toNat 0) 0 0 2 a)) fun e =>
  gd (ix a b.length/\a.toNat<b.length/\(CA e c (b.getD a.toNat 0) 1 1 2 a).isSome/\True)<|lt (vl (CA e c (b.getD a.toNat 0) 1 1 2 a)) fun g =>
  gd (c7 (a+1)/\True) <|
  i (a+1,g)
 else
  PR f h d
def Vs(b:j1)(f:Int×List j6->Option (List j6)):Int×List j6->Option (List j6)
 | (a,c) =>
 if(decide (a < (b.2.1.2.1.length:Int))) then
  gd ((IE b.2.1 a).isSome/\True)<|lt (vl (IE b.2.1 a)) fun d =>
  gd ((X2 b.2.1 a).isSome/\True)<|lt (vl (X2 b.2.1 a)) fun e =>
  lp (Vr d e a f) (0,c)
 else
  Vq c
def Mj(b:j1):List j6->Option (List j6)
 | a =>
 lp (Vs b) (0,a)
def PS(b:Int)(c:Int×List j6->Option (List j6)):List j6->Option (List j6)
 | a =>
 gd (c7 (b+1)/\True) <|
 c (b+1,a)
def IF(a:Int)(c:Int×List j6->Option (List j6)):List j6->Option (List j6)
 | b =>
 gd (c7 (a+1)/\True) <|
 c (a+1,b)
def Vt(b:l6)(e:j1)(d:Int)(h:Int×List j6->Option (List j6))(g:Int×List j6->Option (List j6)):Int×List j6->Option (List j6)
 | (a,c) =>
 if(decide (a < (b.2.2.2.1.length:Int))) then
  gd (ix a b.2.2.2.1.length/\True) <|
  if(decide ((b.2.2.2.1.getD a.toNat (a7 y158)).1<=3)) then
   gd (ix a b.2.2.2.1.length/\ix a b.2.2.2.1.length/\(P3 e.2.1 d (b.2.2.2.1.getD a.toNat (a7 y158)).2.1).isSome/\ix a b.2.2.2.1.length/\(P3 e.2.1 d (b.2.2.2.1.getD a.toNat (a7 y158)).2.2.1).isSome/\(DD c (b.2.2.2.1.getD a.toNat (a7 y158)) (vl (P3 e.2.1 d (b.2.2.2.1.getD a.toNat (a7 y158)).2.1)) (vl (P3 e.2.1 d (b.2.2.2.1.getD a.toNat (a7 y158)).2.2.1)) a).isSome/\True)<|lt (vl (DD c (b.2.2.2.1.getD a.toNat (a7 y158)) (vl (P3 e.2.1 d (b.2.2.2.1.getD a.toNat (a7 y158)).2.1)) (vl (P3 e.2.1 d (b.2.2.2.1.getD a.toNat (a7 y158)).2.2.1)) a)) fun f =>
   IF a g f
  else
   IF a g c
 else
  PS d h c
def Vu(a:j1)(e:Int×List j6->Option (List j6)):Int×List j6->Option (List j6)
 | (b,d) =>
 if(decide (b < (a.2.1.1.length:Int))) then
  gd (ix b a.2.1.1.length/\ix (a.2.1.1.getD b.toNat (a7 y155)).2.1 a.1.length/\True)<|lt (a.1.getD (a.2.1.1.getD b.toNat (a7 y155)).2.1.toNat (a7 y153)) fun c =>
  lp (Vt c a b e) (0,d)
 else
  Mj a d
def AT(a:j1):Option (List j6) :=
 lp (Vu a) (0,[])
def k42:Ct:=c8 42 [.agg l5] (fun x=>AT x.1) (fun r:List j6=>AV.ow 138 true y138 r) (fun _=>())
theorem Gr:Ok prog k42:=by
 refine c9 [.tmp 2] func42 ?_;intro y ⟨a,_⟩ r H Q hn hr;have:=hz (tc ID (tc Gj (tc Vl (tc Vn (tc o87 tn)))));refine iA [1]<|iA [1,3]<|iA [1,3,4]<|jN r (fun(e:List j6)=>Z [p 3 (O 12),p 4 (R 4)] [(4,K 53 y53 a.2.1),(12,A 138 y138 e 0)]) (Mj a) (fun e H=>?_) (fun _ v e0 t0=>?_)
 ·refine jN r (fun(h:List j6)=>Z [p 3 (O 12)] [(12,A 138 y138 h 0)]) (Vq) (fun h H=>?_) (fun _ z e5 t5=>?_)
  ·refine iA [2]<|a8<|hr H
  refine iA [3,4,8]<|vB<|lX (fun((b,f):Int×List j6)=>Z [p 3 (O 12),p 4 (R 4),p 8 (I b)] [(4,K 53 y53 a.2.1),(12,A 138 y138 f 0)]) (0,e) H fun _ F W w t6 ⟨b,f⟩ H=>vQ<|iA [3,4,8,73]<|cD H (fun H=>?_) (fun H=>?_)
  ·refine vK<|fQ<|jN r (fun(l:List j6)=>Z [p 3 (O 12),p 4 (R 4),p 8 (I b)] [(4,K 53 y53 a.2.1),(12,A 138 y138 l 0)]) (PR b F) (fun l H=>?_) (fun _ E e7 t7=>?_)
   ·refine jB [3,4,8] H fun H=>W H
   refine vB<|iD Vl [3,4,8,9] H fun s H=>iD Gj [3,4,8,9,10] H fun q H=>iA [3,4,8,9,10,11]<|vB<|lX (fun((i,j):Int×List j6)=>Z [p 3 (O 12),p 4 (R 4),p 8 (I b),p 9 (I s),p 10 (O 81),p 11 (I i)] [(81,A 2 i64 q 0),(4,K 53 y53 a.2.1),(12,A 138 y138 j 0)]) (0,f) H fun _ g8 b8 X t8 ⟨i,j⟩ H=>vQ<|iA [3,4,8,9,10,11,85]<|cD H (fun H=>vK<|fQ<|vQ<|vB<|iD ID [3,4,8,9,10,11] H fun _ H=>jD ID [3,4,8,9,10,11] H fun _ H=>fK<|fQ<|jB [3,4,8,9,10,11] H fun H=>b8 H) fun H=>vE<|fE<|X<|fX rfl<|fK<|E H
  exact vE<|fE<|w<|fX rfl<|z H
 refine iA [1,3,4,5]<|vB<|lX (fun((g,o):Int×List j6)=>Z (Ib g []) [(4,K 53 y53 a.2.1),(12,A 138 y138 o 0),(1,K 56 l5 a)]) (0,[]) H fun _ G P Y t1 ⟨g,o⟩ H=>vQ<|iA [1,3,4,5,19]<|cD H (fun H=>?_) (fun H=>?_)
 ·refine vK<|fQ<|jN r (fun(k:List j6)=>Z (Ib g []) [(4,K 53 y53 a.2.1),(12,A 138 y138 k 0),(1,K 56 l5 a)]) (PS g G) (fun k H=>?_) (fun _ u e2 t2=>?_)
  ·refine jB [1,3,4,5] H fun H=>P H
  refine vB<|qD (fun d=>Z (Ib g [p 6 (L y158 d.2.2.2.1)]) [(4,K 53 y53 a.2.1),(12,A 138 y138 o 0),(1,K 56 l5 a)]) H fun d H=>iA [1,3,4,5,6,7]<|vB<|lX (fun((c,n):Int×List j6)=>Z (Ib g [p 6 (L y158 d.2.2.2.1),p 7 (I c)]) [(4,K 53 y53 a.2.1),(12,A 138 y138 n 0),(1,K 56 l5 a)]) (0,o) H fun _ V x T t3 ⟨c,n⟩ H=>vQ<|iA [1,3,4,5,6,7,37]<|cD H (fun H=>?_) (fun H=>?_)
  ·refine vK<|fQ<|jN r (fun(m:List j6)=>Z (Ib g [p 6 (L y158 d.2.2.2.1),p 7 (I c)]) [(12,A 138 y138 m 0),(4,K 53 y53 a.2.1),(1,K 56 l5 a)]) (IF c V) (fun m H=>?_) (fun _ t e4 t4=>?_)
   ·refine jB [1,3,4,5,6,7] H fun H=>x H
   refine vB<|iB [1,3,4,5,6,7,45] H fun H=>cD H (fun H=>jD Vn [1,3,4,5,6,7] H fun _ H=>fK<|t H) fun H=>vK<|fK<|t H
  exact vE<|fE<|T<|fX rfl<|fK<|u H
 exact vE<|fE<|Y<|fX rfl<|v H
def PT(a:Int):Option Bool :=
 some (a==0||a==1)
def k41:Ct:=c8 41 [.dat i64] (fun x=>PT x.1) (fun r:Bool=>B r) (fun _=>())
theorem o41:Ok prog k41:=by
 refine c9 [.tmp 2] func41 ?_;intro y ⟨_,_⟩ r H Q hn hr;refine iA [0]<|iA [2]<|a8<|hr H
def Vv:List Int->Option (List Int×Bool)
 | a =>
 some (a,true)
def Gs(b:List Bool)(c:List Int)(d:Int)(e:List Bool×List Int->Option (List Int×Bool)):Int->Option (List Int×Bool)
 | a =>
 if(a==d) then
  some ([],false)
 else
  gd (ix a b.length/\a.toNat<b.length/\True) <|
  gd ((c.length+[a].length<=9223372036854775807/\(c.length+[a].length)*8<=140737488355328)/\True) <|
  e (b.set a.toNat true,c++[a])
def Vw(d:List Bool)(g:List Int)(c:Int)(b:List Bool)(f:List Bool×List Int->Option (List Int×Bool))(e:Int->Option (List Int×Bool)):Int->Option (List Int×Bool)
 | a =>
 gd ((decide (a<c)=true/\True->ix a d.length)/\(decide (a<c)=true/\True->a.toNat<d.length)/\(d.getD a.toNat false=false/\decide (a<c)=true/\True->ix a b.length)/\(d.getD a.toNat false=false/\decide (a<c)=true/\True->a.toNat<b.length)/\True) <|
 if(decide (a<c)&&(d.getD a.toNat false||b.getD a.toNat false)) then
  gd (c7 (a+1)/\True) <|
  e (a+1)
 else
  Gs d g c f a
def IG(d:List Bool)(e:List Int)(b:Int)(c:List Bool×List Int->Option (List Int×Bool)):List Bool->Option (List Int×Bool)
 | a =>
 lp (Vw d e b a c) 0
def PU(a:Int)(c:Int×List Bool->Option (List Int×Bool)):List Bool->Option (List Int×Bool)
 | b =>
 gd (c7 (a+1)/\True) <|
 c (a+1,b)
def Vx(c:List j6)(d:List Bool)(e:List Bool)(i:List Int)(g:Int)(h:List Bool×List Int->Option (List Int×Bool))(f:Int×List Bool->Option (List Int×Bool)):Int×List Bool->Option (List Int×Bool)
 | (a,b) =>
 if(decide (a < (c.length:Int))) then
  gd (ix a d.length/\(d.getD a.toNat false=true/\True->ix a c.length)/\(d.getD a.toNat false=true/\True->ix (c.getD a.toNat (a7 y138)).1 e.length)/\(d.getD a.toNat false=true/\True->(c.getD a.toNat (a7 y138)).1.toNat<e.length)/\True) <|
  if(d.getD a.toNat false&&!e.getD (c.getD a.toNat (a7 y138)).1.toNat false) then
   gd (ix a c.length/\ix (c.getD a.toNat (a7 y138)).2.1 b.length/\(c.getD a.toNat (a7 y138)).2.1.toNat<b.length/\True) <|
   PU a f (b.set (c.getD a.toNat (a7 y138)).2.1.toNat true)
  else
   PU a f b
 else
  IG e i g h b
def Vy(f:List j6)(c:List Bool)(a:Int)(d:List Bool×List Int->Option (List Int×Bool)):List Bool×List Int->Option (List Int×Bool)
 | (e,b) =>
 if(decide ((b.length:Int)<a)) then
  gd ((0<=a/\a=a/\a.toNat*1<=281474976710656/\a<=9223372036854775807)/\True) <|
  lp (Vx f c e b a d) (0,List.replicate a.toNat false)
 else
  Vv b
def IH(a:Int)(b:List j6)(c:List Bool):Option (List Int×Bool) :=
 gd ((0<=a/\a=a/\a.toNat*1<=281474976710656/\a<=9223372036854775807)/\True) <|
 lp (Vy b c a) (List.replicate a.toNat false,[])
def P0b:Ct:=c8 178 [.dat i64,.dat y138.sl,.dat Ty.bool.sl] (fun x=>IH x.1 x.2.1 x.2.2.1) (fun r:List Int×Bool=>AV.tup [AV.ow 2 true i64 r.1,B r.2]) (fun _=>())
theorem M0E:Ok prog P0b:=by
 refine c9 [.tmp 6,.tmp 7] func178 ?_;intro y ⟨a,f,g,_⟩ r H Q hn hr;refine iA [0,1,2]<|iA [0,1,2,8]<|iB [0,1,2,8,9] H fun H=>jN r (fun(i:List Int)=>Z [p 8 (O 13)] [(13,A 2 i64 i 0)]) (Vv) (fun i H=>?_) (fun _ s V w=>?_)
 ·refine iA [6,7]<|a8<|hr H
 refine vB<|lX (fun((d,b):List Bool×List Int)=>Z (G4 a f g []) [(15,A 4 Ty.bool d 0),(13,A 2 i64 b 0)]) (List.replicate a.toNat false,[]) H fun _ n x G o ⟨d,b⟩ H=>vQ<|iA [0,1,2,8,9,19]<|cD H (fun H=>?_) (fun H=>?_)
 ·refine vK<|fQ<|vB<|iB [0,1,2,8,9,10] H fun H=>jN r (fun(e:List Bool)=>Z (G4 a f g [p 10 (O 21)]) [(21,A 4 Ty.bool e 0),(15,A 4 Ty.bool d 0),(13,A 2 i64 b 0)]) (IG d b a n) (fun e H=>?_) (fun _ q e2 W=>?_)
  ·refine iA [0,1,2,8,9,10,12]<|jN r (fun(j:Int)=>Z (G4 a f g [p 12 (I j)]) [(15,A 4 Ty.bool d 0),(13,A 2 i64 b 0)]) (Gs d b a n) (fun j H=>?_) (fun _ v e5 Y=>?_)
   ·refine vQ<|iA [0,1,2,8,9,12,69]<|cD H (fun H=>iA [6,7]<|a8<|fR<|h9<|o<|h9<|w<|hr H) fun H=>vK<|fQ<|iB [0,1,2,8,9,12] H fun H=>jB [0,1,2,8,9] H fun H=>fK<|x H
   refine vB<|lX (fun(k:Int)=>Z (G4 a f g [p 10 (O 21),p 12 (I k)]) [(21,A 4 Ty.bool e 0),(15,A 4 Ty.bool d 0),(13,A 2 i64 b 0)]) 0 H fun _ g6 F t t6 k H=>vQ<|iB [0,1,2,8,9,10,12,64] H fun H=>cD H (fun H=>vK<|fQ<|vB<|jB [0,1,2,8,9,10,12] H fun H=>fK<|F H) fun H=>vE<|fE<|t<|fX rfl<|v H
  refine iA [0,1,2,8,9,10,11]<|vB<|lX (fun((c,h):Int×List Bool)=>Z (G4 a f g [p 10 (O 21),p 11 (I c)]) [(21,A 4 Ty.bool h 0),(15,A 4 Ty.bool d 0),(13,A 2 i64 b 0)]) (0,List.replicate a.toNat false) H fun _ E u z P ⟨c,h⟩ H=>vQ<|iA [0,1,2,8,9,10,11,25]<|cD H (fun H=>?_) (fun H=>?_)
  ·refine vK<|fQ<|jN r (fun(l:List Bool)=>Z (G4 a f g [p 10 (O 21),p 11 (I c)]) [(21,A 4 Ty.bool l 0),(15,A 4 Ty.bool d 0),(13,A 2 i64 b 0)]) (PU c E) (fun l H=>?_) (fun _ m T X=>?_)
   ·refine jB [0,1,2,8,9,10,11] H fun H=>u H
   refine vB<|iB [0,1,2,8,9,10,11,42] H fun H=>cD H (fun H=>jB [0,1,2,8,9,10,11] H fun H=>fK<|m H) fun H=>vK<|fK<|m H
  exact vE<|fE<|z<|fX rfl<|q H
 exact vE<|fE<|G<|fX rfl<|s H
def Vz:Unit->Option Bool
 | _ =>
 some true
def VA(b:List Int)(c:Int)(d:Int->Option Bool):Int->Option Bool
 | a =>
 if(decide (a < (b.length:Int))) then
  gd (ix a b.length/\c7 (c-1)/\(m3 (b.getD a.toNat 0) 0 (c-1)).isSome/\(decide (0<a)=true/\(!vl (m3 (b.getD a.toNat 0) 0 (c-1)))=false/\True->c7 (a-1))/\(decide (0<a)=true/\(!vl (m3 (b.getD a.toNat 0) 0 (c-1)))=false/\True->ix (a-1) b.length)/\(decide (0<a)=true/\(!vl (m3 (b.getD a.toNat 0) 0 (c-1)))=false/\True->ix a b.length)/\True) <|
  if(!vl (m3 (b.getD a.toNat 0) 0 (c-1))||decide (0<a)&&decide (b.getD a.toNat 0<=b.getD (a-1).toNat 0)) then
   some false
  else
   gd (c7 (a+1)/\True) <|
   d (a+1)
 else
  Vz ()
def Mm(a:List Int)(b:Int):Option Bool :=
 lp (VA a b) 0
def P0c:Ct:=c8 177 [.dat i64.sl,.dat i64] (fun x=>Mm x.1 x.2.1) (fun r:Bool=>B r) (fun _=>())
theorem M0F:Ok prog P0c:=by
 refine c9 [.tmp 4] func177 ?_;intro y ⟨d,h,_⟩ r H Q hn hr;have:=hz (tc X5 tn);refine iA [0,1]<|jN r (fun(_:Unit)=>Z [] []) (Vz) (fun _ H=>?_) (fun _ c j f=>?_)
 ·refine iA [4]<|a8<|hr H
 refine iA [0,1,5]<|vB<|lX (fun(a:Int)=>Z [p 0 (L i64 d),p 1 (J h),p 5 (I a)] []) 0 H fun _ i e g b a H=>vQ<|iA [0,1,5,9]<|cD H (fun H=>?_) (fun H=>?_)
 ·refine vK<|fQ<|vQ<|vB<|iB [0,1,5,35] H fun H=>cD H (fun H=>iA [4]<|a8<|h9<|fR<|b<|h9<|f<|hr H) fun H=>vK<|fK<|fQ<|jB [0,1,5] H fun H=>e H
 exact vE<|fE<|g<|fX rfl<|c H
def VB:Unit->Option Bool
 | _ =>
 some true
def VC(a:w7)(c:Int->Option Bool):Int->Option Bool
 | b =>
 if(decide (b < (a.2.2.2.length:Int))) then
  gd (ix b a.2.2.2.length/\c7 ((a.1.length:Int)-1)/\(m3 (a.2.2.2.getD b.toNat 0) 0 ((a.1.length:Int)-1)).isSome/\True) <|
  if(!vl (m3 (a.2.2.2.getD b.toNat 0) 0 ((a.1.length:Int)-1))) then
   some false
  else
   gd (c7 (b+1)/\True) <|
   c (b+1)
 else
  VB ()
def Mn(a:w7):Unit->Option Bool
 | _ =>
 lp (VC a) 0
def VD(b:w7)(c:Int->Option Bool):Int->Option Bool
 | a =>
 if(decide (a < (b.1.length:Int))) then
  gd (ix a b.2.2.1.length/\(m3 (b.2.2.1.getD a.toNat 0) 0 500).isSome/\((!vl (m3 (b.2.2.1.getD a.toNat 0) 0 500))=false/\True->ix a b.2.1.length)/\((!vl (m3 (b.2.2.1.getD a.toNat 0) 0 500))=false/\True->(m3 (b.2.1.getD a.toNat 0) 0 1000).isSome)/\True) <|
  if(!vl (m3 (b.2.2.1.getD a.toNat 0) 0 500)||!vl (m3 (b.2.1.getD a.toNat 0) 0 1000)) then
   some false
  else
   gd (((a==0)=true/\True->ix a b.1.length)/\((b.1.getD a.toNat 0 != -1)=false/\(a==0)=true/\True->ix a b.2.1.length)/\(decide (0<a)=true/\(a==0&&(b.1.getD a.toNat 0 != -1||b.2.1.getD a.toNat 0 != 0))=false/\True->ix a b.1.length)/\(decide (0<a)=true/\(a==0&&(b.1.getD a.toNat 0 != -1||b.2.1.getD a.toNat 0 != 0))=false/\True->c7 (a-1))/\(decide (0<a)=true/\(a==0&&(b.1.getD a.toNat 0 != -1||b.2.1.getD a.toNat 0 != 0))=false/\True->(m3 (b.1.getD a.toNat 0) 0 (a-1)).isSome)/\True) <|
   if(a==0&&(b.1.getD a.toNat 0 != -1||b.2.1.getD a.toNat 0 != 0)||decide (0<a)&&!vl (m3 (b.1.getD a.toNat 0) 0 (a-1))) then
    some false
   else
    gd (c7 (a+1)/\True) <|
    c (a+1)
 else
  Mn b ()
def II(a:w7)(b:Int):Option Bool :=
 if(decide ((a.1.length:Int)<1)||decide (8 < (a.1.length:Int))||(a.2.1.length:Int) != (a.1.length:Int)||(a.2.2.1.length:Int) != (a.1.length:Int)||(a.2.2.2.length:Int) != b) then
  some false
 else
  lp (VD a) 0
def P0L:Ct:=c8 139 [.agg y172,.dat i64] (fun x=>II x.1 x.2.1) (fun r:Bool=>B r) (fun _=>())
theorem M0U:Ok prog P0L:=by
 refine c9 [.tmp 4] func139 ?_;intro y ⟨a,_,_⟩ r H Q hn hr;have:=hz (tc X5 tn);refine iA [1,2]<|iA [1,2,5]<|vQ<|iA [2,5,37]<|cD H (fun H=>iA [4]<|a8<|fR<|hr H) fun H=>vK<|fQ<|jN r (fun(_:Unit)=>Z [p 2 (R 2),p 5 (I (a.1.length:Int))] [(2,K 172 y172 a)]) (Mn a) (fun _ H=>?_) (fun _ h o d=>?_)
 ·refine jN r (fun(_:Unit)=>Z [] []) (VB) (fun _ H=>?_) (fun _ i s l=>?_)
  ·refine iA [4]<|a8<|hr H
  refine iA [2,5,7]<|vB<|lX (fun(b:Int)=>Z [p 2 (R 2),p 5 (I (a.1.length:Int)),p 7 (I b)] [(2,K 172 y172 a)]) 0 H fun _ q f k g b H=>vQ<|iA [2,5,7,96]<|cD H (fun H=>?_) (fun H=>?_)
  ·refine vK<|fQ<|vQ<|vB<|iB [2,5,7,107] H fun H=>cD H (fun H=>iA [4]<|a8<|h9<|fR<|g<|h9<|l<|hr H) fun H=>vK<|fK<|fQ<|jB [2,5,7] H fun H=>f H
  exact vE<|fE<|k<|fX rfl<|i H
 refine iA [2,5,6]<|vB<|lX (fun(e:Int)=>Z [p 2 (R 2),p 5 (I (a.1.length:Int)),p 6 (I e)] [(2,K 172 y172 a)]) 0 H fun _ n j m c e H=>vQ<|iA [2,5,6,40]<|cD H (fun H=>?_) (fun H=>?_)
 ·refine vK<|fQ<|vQ<|vB<|vQ<|iB [2,5,6,58] H fun H=>cD H (fun H=>iA [4]<|a8<|fR<|h9<|fR<|c<|h9<|d<|hr H) fun H=>vK<|fQ<|iB [2,5,6,91] H fun H=>cD H (fun H=>iA [4]<|a8<|h9<|fR<|c<|h9<|d<|hr H) fun H=>vK<|fK<|fQ<|jB [2,5,6] H fun H=>j H
 exact vE<|fE<|m<|fX rfl<|h H
def Mo(a:ByteArray):Unit->Option Bool
 | _ =>
 some (decide (1<=(a.size:Int))&&decide ((a.size:Int)<=8))
def VE(b:ByteArray)(c:Int->Option Bool):Int->Option Bool
 | a =>
 if(decide (a < (b.size:Int))) then
  gd (ix a b.size/\(decide (97<=B1 b a.toNat)=true/\True->ix a b.size)/\True) <|
  gd (ix a b.size/\(decide (48<=B1 b a.toNat)=true/\True->ix a b.size)/\True) <|
  if(!(decide (97<=B1 b a.toNat)&&decide (B1 b a.toNat<=122))&&!(decide (48<=B1 b a.toNat)&&decide (B1 b a.toNat<=57)&&decide (0<a))) then
   some false
  else
   gd (c7 (a+1)/\True) <|
   c (a+1)
 else
  Mo b ()
def R7(a:ByteArray):Option Bool :=
 lp (VE a) 0
def P0K:Ct:=c8 140 [.dat Ty.str] (fun x=>R7 x.1) (fun r:Bool=>B r) (fun _=>())
theorem Mp:Ok prog P0K:=by
 refine c9 [.tmp 2] func140 ?_;intro y ⟨a,_⟩ r H Q hn hr;refine iA [0]<|jN r (fun(_:Unit)=>Z [p 0 (U a)] []) (Mo a) (fun _ H=>?_) (fun _ d i f=>?_)
 ·refine iA [2]<|a8<|hr H
 refine iA [0,3]<|vB<|lX (fun(b:Int)=>Z [p 0 (U a),p 3 (I b)] []) 0 H fun _ h e g c b H=>vQ<|iA [0,3,9]<|cD H (fun H=>?_) (fun H=>?_)
 ·refine vK<|fQ<|vQ<|vB<|iB [0,3,4] H fun H=>iB [0,3,4,5] H fun H=>iA [0,3,41]<|cD H (fun H=>iA [2]<|a8<|h9<|fR<|c<|h9<|f<|hr H) fun H=>vK<|fK<|fQ<|jB [0,3] H fun H=>e H
 exact vE<|fE<|g<|fX rfl<|d H
def VF:Unit->Option Bool
 | _ =>
 some true
def PV(a:Int)(b:Int->Option Bool):Unit->Option Bool
 | _ =>
 gd (c7 (a+1)/\True) <|
 b (a+1)
def VG(c:List ByteArray)(b:Int)(d:Int->Option Bool)(e:Int->Option Bool):Int->Option Bool
 | a =>
 if(decide (a<b)) then
  gd (ix a c.length/\ix b c.length/\True) <|
  if(decide (c.getD a.toNat (a7 Ty.str)=c.getD b.toNat (a7 Ty.str))) then
   some false
  else
   gd (c7 (a+1)/\True) <|
   e (a+1)
 else
  PV b d ()
def VH(b:List ByteArray)(c:Int->Option Bool):Int->Option Bool
 | a =>
 if(decide (a < (b.length:Int))) then
  gd (ix a b.length/\(R7 (b.getD a.toNat (a7 Ty.str))).isSome/\True) <|
  if(!vl (R7 (b.getD a.toNat (a7 Ty.str)))) then
   some false
  else
   lp (VG b a c) 0
 else
  VF ()
def Aj(a:List ByteArray):Option Bool :=
 lp (VH a) 0
def O0W:Ct:=c8 186 [.dat Ty.str.sl] (fun x=>Aj x.1) (fun r:Bool=>B r) (fun _=>())
theorem M0B:Ok prog O0W:=by
 refine c9 [.tmp 2] func186 ?_;intro y ⟨b,_⟩ r H Q hn hr;have:=hz (tc Mp tn);refine iA [0]<|jN r (fun(_:Unit)=>Z [] []) (VF) (fun _ H=>?_) (fun _ i o f=>?_)
 ·refine iA [2]<|a8<|hr H
 refine iA [0,3]<|vB<|lX (fun(a:Int)=>Z [p 0 (L Ty.str b),p 3 (I a)] []) 0 H fun _ k l n d a H=>vQ<|iA [0,3,8]<|cD H (fun H=>?_) (fun H=>?_)
 ·refine vK<|fQ<|jN r (fun(_:Unit)=>Z [p 0 (L Ty.str b),p 3 (I a)] []) (PV a k) (fun _ H=>?_) (fun _ j s e=>?_)
  ·refine jB [0,3] H fun H=>l H
  refine vB<|vQ<|iB [0,3,16] H fun H=>cD H (fun H=>iA [2]<|a8<|fR<|h9<|e<|d<|h9<|f<|hr H) fun H=>vK<|fQ<|iA [0,3,4]<|vB<|lX (fun(c:Int)=>Z [p 0 (L Ty.str b),p 3 (I a),p 4 (I c)] []) 0 H fun _ q g m h c H=>vQ<|iA [0,3,4,19]<|cD H (fun H=>?_) (fun H=>?_)
  ·refine vK<|fQ<|vQ<|vB<|iB [0,3,4,30] H fun H=>cD H (fun H=>iA [2]<|a8<|h9<|fR<|h<|h9<|h9<|e<|d<|h9<|f<|hr H) fun H=>vK<|fK<|fQ<|jB [0,3,4] H fun H=>g H
  exact vE<|fE<|m<|fX rfl<|fK<|j H
 exact vE<|fE<|n<|fX rfl<|i H
def VI:Unit->Option Bool
 | _ =>
 some true
def VJ(a:m7)(c:Int->Option Bool):Int->Option Bool
 | b =>
 if(decide (b < (a.2.2.length:Int))) then
  gd (ix b a.2.2.length/\(m3 (a.2.2.getD b.toNat (a7 y231)).2.1 1 2).isSome/\((!vl (m3 (a.2.2.getD b.toNat (a7 y231)).2.1 1 2))=false/\True->ix b a.2.2.length)/\((!vl (m3 (a.2.2.getD b.toNat (a7 y231)).2.1 1 2))=false/\True->c7 ((a.2.1.length:Int)-1))/\((!vl (m3 (a.2.2.getD b.toNat (a7 y231)).2.1 1 2))=false/\True->(m3 (a.2.2.getD b.toNat (a7 y231)).2.2 0 ((a.2.1.length:Int)-1)).isSome)/\True) <|
  if(!vl (m3 (a.2.2.getD b.toNat (a7 y231)).2.1 1 2)||!vl (m3 (a.2.2.getD b.toNat (a7 y231)).2.2 0 ((a.2.1.length:Int)-1))) then
   some false
  else
   gd (c7 (b+1)/\True) <|
   c (b+1)
 else
  VI ()
def Mq(a:m7):Unit->Option Bool
 | _ =>
 lp (VJ a) 0
def VK(a:Int)(b:Int->Option Bool):Unit->Option Bool
 | _ =>
 gd (c7 (a+1)/\True) <|
 b (a+1)
def VL(b:B0)(c:m7)(d:Int)(e:Int->Option Bool)(f:Int->Option Bool):Int->Option Bool
 | a =>
 if(decide (a < (b.2.2.length:Int))) then
  gd (ix a b.2.2.length/\c7 ((c.2.1.length:Int)-1)/\(m3 (b.2.2.getD a.toNat 0) 0 ((c.2.1.length:Int)-1)).isSome/\True) <|
  if(!vl (m3 (b.2.2.getD a.toNat 0) 0 ((c.2.1.length:Int)-1))) then
   some false
  else
   gd (c7 (a+1)/\True) <|
   f (a+1)
 else
  VK d e ()
def VM(c:m7)(b:List l6)(e:Int->Option Bool):Int->Option Bool
 | d =>
 if(decide (d < (c.1.length:Int))) then
  gd (ix d c.1.length/\True)<|lt (c.1.getD d.toNat (a7 y155)) fun a =>
  gd (c7 ((b.length:Int)-1)/\(m3 a.2.1 0 ((b.length:Int)-1)).isSome/\((!vl (m3 a.2.1 0 ((b.length:Int)-1)))=false/\True->ix a.2.1 b.length)/\True) <|
  if(!vl (m3 a.2.1 0 ((b.length:Int)-1))||(a.2.2.length:Int) != (↑(b.getD a.2.1.toNat (a7 y153)).2.2.1.length:Int)) then
   some false
  else
   lp (VL a c d e) 0
 else
  Mq c ()
def Mr(a:List l6)(b:m7):Option Bool :=
 lp (VM b a) 0
def O0X:Ct:=c8 185 [.agg y153.sl,.agg y53] (fun x=>Mr x.1 x.2.1) (fun r:Bool=>B r) (fun _=>())
theorem M0C:Ok prog O0X:=by
 refine c9 [.tmp 4] func185 ?_;intro y ⟨c,a,_⟩ r H Q hn hr;have:=hz (tc X5 tn);refine iA [2,3]<|iA [2,3,5]<|jN r (fun(_:Unit)=>Z [p 3 (R 3),p 5 (I (a.2.1.length:Int))] [(3,K 53 y53 a)]) (Mq a) (fun _ H=>?_) (fun _ l F h=>?_)
 ·refine jN r (fun(_:Unit)=>Z [] []) (VI) (fun _ H=>?_) (fun _ j E o=>?_)
  ·refine iA [4]<|a8<|hr H
  refine iA [3,5,9]<|vB<|lX (fun(i:Int)=>Z [p 3 (R 3),p 5 (I (a.2.1.length:Int)),p 9 (I i)] [(3,K 53 y53 a)]) 0 H fun _ z v w q i H=>vQ<|iA [3,5,9,67]<|cD H (fun H=>?_) (fun H=>?_)
  ·refine vK<|fQ<|vQ<|vB<|iB [3,5,9,89] H fun H=>cD H (fun H=>iA [4]<|a8<|h9<|fR<|q<|h9<|o<|hr H) fun H=>vK<|fK<|fQ<|jB [3,5,9] H fun H=>v H
  exact vE<|fE<|w<|fX rfl<|j H
 refine iA [2,3,5,6]<|vB<|lX (fun(b:Int)=>Z (G9 [p 5 (I (a.2.1.length:Int)),p 6 (I b)]) (Du a c)) 0 H fun _ s t x e b H=>vQ<|iA [2,3,5,6,17]<|cD H (fun H=>?_) (fun H=>?_)
 ·refine vK<|fQ<|jN r (fun(_:Unit)=>Z (G9 [p 5 (I (a.2.1.length:Int)),p 6 (I b)]) (Du a c)) (VK b s) (fun _ H=>?_) (fun _ k G g=>?_)
  ·refine jB [2,3,5,6] H fun H=>t H
  refine vB<|qD (fun d=>Z (G9 [p 5 (I (a.2.1.length:Int)),p 6 (I b),p 7 (R 7)]) ((7,K 155 y155 d)::Du a c)) H fun d H=>vQ<|iB [2,3,5,6,7,46] H fun H=>cD H (fun H=>iA [4]<|a8<|fR<|h9<|g<|e<|h9<|h<|hr H) fun H=>vK<|fQ<|iA [2,3,5,6,7,8]<|vB<|lX (fun(f:Int)=>Z (G9 [p 5 (I (a.2.1.length:Int)),p 6 (I b),p 7 (R 7),p 8 (I f)]) ((7,K 155 y155 d)::Du a c)) 0 H fun _ P m u n f H=>vQ<|iA [2,3,5,6,7,8,51]<|cD H (fun H=>?_) (fun H=>?_)
  ·refine vK<|fQ<|vQ<|vB<|iB [2,3,5,6,7,8,62] H fun H=>cD H (fun H=>iA [4]<|a8<|h9<|fR<|n<|h9<|h9<|g<|e<|h9<|h<|hr H) fun H=>vK<|fK<|fQ<|jB [2,3,5,6,7,8] H fun H=>m H
  exact vE<|fE<|u<|fX rfl<|fK<|k H
 exact vE<|fE<|x<|fX rfl<|l H
def VN:List Int->Option (List Int)
 | a =>
 some a
def VP(b:l6)(d:Int×List Int->Option (List Int)):Int×List Int->Option (List Int)
 | (a,c) =>
 if(decide (a < (b.2.2.2.1.length:Int))) then
  gd (ix a b.2.2.2.1.length/\ix (b.2.2.2.1.getD a.toNat (a7 y158)).1 c.length/\(b.2.2.2.1.getD a.toNat (a7 y158)).1.toNat<c.length/\c7 (c.getD (b.2.2.2.1.getD a.toNat (a7 y158)).1.toNat 0+1)/\ix (b.2.2.2.1.getD a.toNat (a7 y158)).1 c.length/\(b.2.2.2.1.getD a.toNat (a7 y158)).1.toNat<c.length/\True)<|lt (c.set (b.2.2.2.1.getD a.toNat (a7 y158)).1.toNat (c.getD (b.2.2.2.1.getD a.toNat (a7 y158)).1.toNat 0+1)) fun e =>
  gd (c7 (a+1)/\True) <|
  d (a+1,e)
 else
  VN c
def IJ(a:l6):Option (List Int) :=
 gd (((0:Int)<=(6:Int)/\(6:Int)=(6:Int)/\Int.toNat (6:Int)*8<=281474976710656/\(6:Int)<=(9223372036854775807:Int))/\True) <|
 lp (VP a) ((0,List.replicate (Int.toNat (6:Int)) (0:Int)))
def N0V:Ct:=c8 254 [.agg y153] (fun x=>IJ x.1) (fun r:List Int=>AV.ow 2 true i64 r) (fun _=>())
theorem VQ:Ok prog N0V:=by
 refine c9 [.tmp 2] func254 ?_;intro y ⟨c,_⟩ r H Q hn hr;refine iA [1]<|iB [1,3] H fun H=>jN r (fun(d:List Int)=>Z [p 3 (O 5)] [(5,A 2 i64 d 0)]) (VN) (fun d H=>?_) (fun _ f k l=>?_)
 ·refine iA [2]<|a8<|hr H
 refine iA [1,3,4]<|vB<|lX (fun((a,b):Int×List Int)=>Z [p 1 (R 1),p 3 (O 5),p 4 (I a)] [(5,A 2 i64 b 0),(1,K 153 y153 c)]) ((0,List.replicate (Int.toNat (6:Int)) (0:Int))) H fun _ j g h i ⟨a,b⟩ H=>vQ<|iA [1,3,4,10]<|cD H (fun H=>vK<|fQ<|vQ<|vB<|zD (fun e=>Z [p 1 (R 1),p 3 (O 5),p 4 (I a)] [(5,A 2 i64 e 0),(1,K 153 y153 c)]) H fun e H=>fK<|fQ<|jB [1,3,4] H fun H=>g H) fun H=>vE<|fE<|h<|fX rfl<|f H
def Ms(a:List Int):Unit->Option Bool
 | _ =>
 some (decide (1<=(a.length:Int))&&decide ((a.length:Int)<=4))
def VR(b:List Int)(c:Int->Option Bool):Int->Option Bool
 | a =>
 if(decide (a < (b.length:Int))) then
  gd (ix a b.length/\(m3 (b.getD a.toNat 0) 0 100000).isSome/\(decide (0<a)=true/\(!vl (m3 (b.getD a.toNat 0) 0 100000))=false/\True->c7 (a-1))/\(decide (0<a)=true/\(!vl (m3 (b.getD a.toNat 0) 0 100000))=false/\True->ix (a-1) b.length)/\(decide (0<a)=true/\(!vl (m3 (b.getD a.toNat 0) 0 100000))=false/\True->ix a b.length)/\True) <|
  if(!vl (m3 (b.getD a.toNat 0) 0 100000)||decide (0<a)&&decide (b.getD a.toNat 0<=b.getD (a-1).toNat 0)) then
   some false
  else
   gd (c7 (a+1)/\True) <|
   c (a+1)
 else
  Ms b ()
def BJ(a:List Int):Option Bool :=
 lp (VR a) 0
def N0n:Ct:=c8 303 [.dat i64.sl] (fun x=>BJ x.1) (fun r:Bool=>B r) (fun _=>())
theorem L0M:Ok prog N0n:=by
 refine c9 [.tmp 2] func303 ?_;intro y ⟨a,_⟩ r H Q hn hr;have:=hz (tc X5 tn);refine iA [0]<|jN r (fun(_:Unit)=>Z [p 0 (L i64 a)] []) (Ms a) (fun _ H=>?_) (fun _ d i f=>?_)
 ·refine iA [2]<|a8<|hr H
 refine iA [0,3]<|vB<|lX (fun(b:Int)=>Z [p 0 (L i64 a),p 3 (I b)] []) 0 H fun _ h e g c b H=>vQ<|iA [0,3,7]<|cD H (fun H=>?_) (fun H=>?_)
 ·refine vK<|fQ<|vQ<|vB<|iB [0,3,31] H fun H=>cD H (fun H=>iA [2]<|a8<|h9<|fR<|c<|h9<|f<|hr H) fun H=>vK<|fK<|fQ<|jB [0,3] H fun H=>e H
 exact vE<|fE<|g<|fX rfl<|d H
def VS:Unit->Option Bool
 | _ =>
 some true
def VT(b:m0)(c:Int->Option Bool):Int->Option Bool
 | a =>
 if(decide (a < (b.2.2.length:Int))) then
  gd (ix a b.2.2.length/\(m3 (b.2.2.getD a.toNat 0) (-1000000) 1000000).isSome/\True) <|
  if(!vl (m3 (b.2.2.getD a.toNat 0) (-1000000) 1000000)) then
   some false
  else
   gd (c7 (a+1)/\True) <|
   c (a+1)
 else
  VS ()
def IK(a:m0):Option Bool :=
 gd ((BJ a.1).isSome/\((!vl (BJ a.1))=false/\True->(BJ a.2.1).isSome)/\((!vl (BJ a.1)||!vl (BJ a.2.1))=false/\True->c7 ((a.1.length:Int)*(a.2.1.length:Int)))/\True) <|
 if(!vl (BJ a.1)||!vl (BJ a.2.1)||(a.2.2.length:Int) != (a.1.length:Int)*(a.2.1.length:Int)) then
  some false
 else
  lp (VT a) 0
def N0s:Ct:=c8 296 [.agg y269] (fun x=>IK x.1) (fun r:Bool=>B r) (fun _=>())
theorem L0O:Ok prog N0s:=by
 refine c9 [.tmp 2] func296 ?_;intro y ⟨d,_⟩ r H Q hn hr;have:=hz (tc X5 (tc L0M tn));refine iA [1]<|vQ<|iB [1,26] H fun H=>cD H (fun H=>iA [2]<|a8<|fR<|hr H) fun H=>vK<|fQ<|jN r (fun(_:Unit)=>Z [] []) (VS) (fun _ H=>?_) (fun _ c i f=>?_)
 ·refine iA [2]<|a8<|hr H
 refine iA [1,3]<|vB<|lX (fun(a:Int)=>Z (G6 a []) [(1,K 269 y269 d)]) 0 H fun _ h e g b a H=>vQ<|iA [1,3,31]<|cD H (fun H=>?_) (fun H=>?_)
 ·refine vK<|fQ<|vQ<|vB<|iB [1,3,40] H fun H=>cD H (fun H=>iA [2]<|a8<|h9<|fR<|b<|h9<|f<|hr H) fun H=>vK<|fK<|fQ<|jB [1,3] H fun H=>e H
 exact vE<|fE<|g<|fX rfl<|c H
def VU:Int×Int->Option (s7×Int)
 | (b,a) =>
 some (((b,a),(0:Int)))
def PW(b:m0)(e:Int×Int×Int->Option (s7×Int)):Int×Int×Int->Option (s7×Int)
 | (a,d,c) =>
 if(decide (a < (b.2.2.length:Int))) then
  gd (ix a b.2.2.length/\True) <|
  gd (ix a b.2.2.length/\True) <|
  gd (c7 (a+1)/\True) <|
  e ((a+1,min d (b.2.2.getD a.toNat 0),max c (b.2.2.getD a.toNat 0)))
 else
  VU (d,c)
def IL(a:m0):Option (s7×Int) :=
 gd ((IK a).isSome/\True) <|
 if(!vl (IK a)) then
  some ((((0:Int),(0:Int)),(1:Int)))
 else
  gd (ix 0 a.2.2.length/\ix 0 a.2.2.length/\True) <|
  lp (PW a) ((1,a.2.2.getD (Int.toNat (0:Int)) (0:Int),a.2.2.getD (Int.toNat (0:Int)) (0:Int)))
def N0z:Ct:=c8 285 [.agg y269] (fun x=>IL x.1) (fun r:s7×Int=>AV.tup [AV.agg [I r.1.1,I r.1.2],I r.2]) (fun _=>())
theorem VV:Ok prog N0z:=by
 refine c9 [.cell 2 73,.tmp 3] func285 ?_;intro y ⟨a,_⟩ r H Q hn hr;have:=hz (tc L0O tn);refine iA [1,2]<|vQ<|iB [1,2,8] H fun H=>cD H (fun H=>iA [2,3]<|a8<|fR<|hr H) fun H=>vK<|fQ<|iB [1,2,4] H fun H=>jN r (fun((b,d):Int×Int)=>Z [p 2 (R 2),p 4 (R 4)] [(4,bx 73 [J b,J d]),(2,bx 73 [I 0,I 0])]) (VU) (fun⟨b,d⟩ H=>?_) (fun _ g l m=>?_)
 ·refine iA [2,3]<|a8<|hr H
 refine iA [1,2,4,5]<|vB<|lX (fun((c,f,e):Int×Int×Int)=>Z [p 1 (R 1),p 2 (R 2),p 4 (R 4),p 5 (I c)] [(4,bx 73 [J f,J e]),(2,bx 73 [I 0,I 0]),(1,K 269 y269 a)]) ((1,a.2.2.getD (Int.toNat (0:Int)) (0:Int),a.2.2.getD (Int.toNat (0:Int)) (0:Int))) H fun _ k h i j ⟨c,f,e⟩ H=>vQ<|iA [1,2,4,5,23]<|cD H (fun H=>vK<|fQ<|vQ<|vB<|iB [1,2,4,5] H fun H=>jB [1,2,4,5] H fun H=>fK<|fQ<|jB [1,2,4,5] H fun H=>h H) fun H=>vE<|fE<|i<|fX rfl<|g H
def VW:Unit->Option Bool
 | _ =>
 some true
def PX(e:Bool)(b:List m0)(d:Int->Option Bool):Int->Option Bool
 | a =>
 if(decide (a<2)) then
  gd (ix a b.length/\(IL (b.getD a.toNat (a7 y269))).isSome/\True)<|lt (vl (IL (b.getD a.toNat (a7 y269)))) fun c =>
  if(c.2 != 0||e&&decide (c.1.1<0)) then
   some false
  else
   gd (c7 (a+1)/\True) <|
   d (a+1)
 else
  VW ()
def P4(a:List m0)(b:Bool):Option Bool :=
 if((a.length:Int) != 2) then
  some false
 else
  lp (PX b a) 0
def N0K:Ct:=c8 270 [.dat y269.sl,.dat Ty.bool] (fun x=>P4 x.1 x.2.1) (fun r:Bool=>B r) (fun _=>())
theorem L0Z:Ok prog N0K:=by
 refine c9 [.tmp 4] func270 ?_;intro y ⟨d,h,_⟩ r H Q hn hr;have:=hz (tc VV tn);refine iA [0,1]<|vQ<|iA [0,1,10]<|cD H (fun H=>iA [4]<|a8<|fR<|hr H) fun H=>vK<|fQ<|jN r (fun(_:Unit)=>Z [] []) (VW) (fun _ H=>?_) (fun _ c j f=>?_)
 ·refine iA [4]<|a8<|hr H
 refine iA [0,1,5]<|vB<|lX (fun(a:Int)=>Z [p 0 (L y269 d),p 1 (C h),p 5 (I a)] []) 0 H fun _ i e g b a H=>vQ<|iA [0,1,5,12]<|cD H (fun H=>?_) (fun H=>?_)
 ·refine vK<|fQ<|vQ<|vB<|iD VV [0,1,5,6,7] H fun _ H=>iA [0,1,5,32]<|cD H (fun H=>iA [4]<|a8<|h9<|fR<|b<|h9<|f<|hr H) fun H=>vK<|fK<|fQ<|jB [0,1,5] H fun H=>e H
 exact vE<|fE<|g<|fX rfl<|c H
def IM(c:A7)(a:r9)(b:l6):Bool->Option Bool
 | d =>
 if d then
  gd (((c.2.2.2&&decide (a.2.2.1 < (b.2.2.1.length:Int)-1))=true/\True->ix a.2.2.1 b.2.2.1.length)/\((c.2.2.2&&decide (a.2.2.1 < (b.2.2.1.length:Int)-1)&&!(b.2.2.1.getD a.2.2.1.toNat (a7 y293)).2.2.2&&a.2.2.2.1==0)=true/\True->(P4 a.2.2.2.2.1 false).isSome)/\True) <|
  some (c.2.2.2&&decide (a.2.2.1 < (b.2.2.1.length:Int)-1)&&!(b.2.2.1.getD a.2.2.1.toNat (a7 y293)).2.2.2&&a.2.2.2.1==0&&vl (P4 a.2.2.2.2.1 false)&&(a.2.2.2.2.2.length:Int)==0)
 else
  some false
def IN(b:A7)(a:r9)(c:l6):Bool->Option Bool
 | d =>
 if d then
  gd (((b.2.2.2&&a.2.2.1==(c.2.2.1.length:Int)-1&&a.2.2.2.1==0)=true/\True->(P4 a.2.2.2.2.1 true).isSome)/\((b.2.2.2&&a.2.2.1==(c.2.2.1.length:Int)-1&&a.2.2.2.1==0&&vl (P4 a.2.2.2.2.1 true))=true/\True->(P4 a.2.2.2.2.2 true).isSome)/\True) <|
  some (b.2.2.2&&a.2.2.1==(c.2.2.1.length:Int)-1&&a.2.2.2.1==0&&vl (P4 a.2.2.2.2.1 true)&&vl (P4 a.2.2.2.2.2 true))
 else
  if(a.1==4) then
   IM b a c (a.1==4)
  else
   IM b a c (a.1==5)
def IP(b:l6)(a:r9):Option Bool :=
 gd (c7 ((b.2.2.1.length:Int)-1)/\True) <|
 gd (c7 ((b.2.2.1.length:Int)-1-1)/\(m3 a.2.1 0 ((b.2.2.1.length:Int)-1-1)).isSome/\((!vl (m3 a.2.1 0 ((b.2.2.1.length:Int)-1-1)))=false/\True->(m3 a.2.2.1 0 ((b.2.2.1.length:Int)-1)).isSome)/\True) <|
 if(!vl (m3 a.2.1 0 ((b.2.2.1.length:Int)-1-1))||!vl (m3 a.2.2.1 0 ((b.2.2.1.length:Int)-1))) then
  some false
 else
  gd (ix a.2.1 b.2.2.1.length/\True)<|lt (b.2.2.1.getD a.2.1.toNat (a7 y293)) fun c =>
  if(a.1==1) then
   gd (((!c.2.2.2&&a.2.2.1==(b.2.2.1.length:Int)-1)=true/\True->(m3 a.2.2.2.1 1 3).isSome)/\((!c.2.2.2&&a.2.2.1==(b.2.2.1.length:Int)-1&&vl (m3 a.2.2.2.1 1 3))=true/\True->(P4 a.2.2.2.2.1 true).isSome)/\((!c.2.2.2&&a.2.2.1==(b.2.2.1.length:Int)-1&&vl (m3 a.2.2.2.1 1 3)&&vl (P4 a.2.2.2.2.1 true))=true/\True->(P4 a.2.2.2.2.2 true).isSome)/\True) <|
   some (!c.2.2.2&&a.2.2.1==(b.2.2.1.length:Int)-1&&vl (m3 a.2.2.2.1 1 3)&&vl (P4 a.2.2.2.2.1 true)&&vl (P4 a.2.2.2.2.2 true))
  else
   if(a.1==2) then
    IN c a b (a.1==2)
   else
    IN c a b (a.1==3)
def N0W:Ct:=c8 253 [.agg y153,.agg y158] (fun x=>IP x.1 x.2.1) (fun r:Bool=>B r) (fun _=>())
theorem M0g:Ok prog N0W:=by
 refine c9 [.tmp 4] func253 ?_;intro y ⟨a,c,_⟩ r H Q hn hr;have:=hz (tc L0Z (tc X5 tn));refine iA [2,3]<|iB [2,3,5] H fun H=>vQ<|iB [2,3,5,23] H fun H=>cD H (fun H=>iA [4]<|a8<|fR<|hr H) fun H=>vK<|fQ<|qD (fun b=>Z (G9 [p 5 (I ((a.2.2.1.length:Int)-1)),p 6 (C b.2.2.2)]) [(3,K 158 y158 c),(2,K 153 y153 a)]) H fun b H=>vQ<|iA [2,3,5,6,32]<|vB<|iA [2,3,5,6,32,33]<|cD H (fun H=>iB [4] H fun H=>a8<|h9<|fR<|hr H) fun H=>jN r (fun(d:Bool)=>Z (G9 [p 5 (I ((a.2.2.1.length:Int)-1)),p 6 (C b.2.2.2),p 32 (J c.1),p 58 (B d)]) [(3,K 158 y158 c),(2,K 153 y153 a)]) (IN b c a) (fun d H=>?_) (fun _ f i j=>?_)
 ·refine cD H (fun H=>iB [4] H fun H=>a8<|h9<|fR<|hr H) fun H=>jN r (fun(e:Bool)=>Z (G9 [p 5 (I ((a.2.2.1.length:Int)-1)),p 6 (C b.2.2.2),p 83 (B e)]) [(3,K 158 y158 c),(2,K 153 y153 a)]) (IM b c a) (fun e H=>?_) (fun _ g k h=>?_)
  ·refine cD H (fun H=>iB [4] H fun H=>a8<|h9<|fR<|hr H) fun H=>vK<|fK<|fQ<|iA [4]<|a8<|hr H
  refine iA [2,3,5,6,32,83]<|cD H (fun H=>vK<|g H) fun H=>jA [2,3,5,6,83]<|g H
 refine iA [2,3,5,6,32,58]<|cD H (fun H=>vK<|f H) fun H=>jA [2,3,5,6,32,58]<|f H
def PY:Int->Option (Int×Bool)
 | a =>
 some (a,true)
def Mt(a:Int)(c:Int×Int->Option (Int×Bool)):Int->Option (Int×Bool)
 | b =>
 gd (c7 (a+1)/\True) <|
 c (b,a+1)
def Mu(c:Int)(d:Int)(a:A7)(b:l6)(e:Int×Int->Option (Int×Bool)):Unit->Option (Int×Bool)
 | _ =>
 gd ((R7 a.1).isSome/\((!vl (R7 a.1))=false/\True->(m3 a.2.2.1 0 500).isSome)/\True) <|
 if(!vl (R7 a.1)||!vl (m3 a.2.2.1 0 500)) then
  some (((0:Int),false))
 else
  gd (c7 ((b.2.2.1.length:Int)-1)/\((c==(b.2.2.1.length:Int)-1&&(a.2.1 != 2||a.2.2.1 != 0||a.2.2.2))=false/\True->c7 ((b.2.2.1.length:Int)-1))/\True) <|
  if(c==(b.2.2.1.length:Int)-1&&(a.2.1 != 2||a.2.2.1 != 0||a.2.2.2)||decide (c < (b.2.2.1.length:Int)-1)&&a.2.1 != 1) then
   some (((0:Int),false))
  else
   if a.2.2.2 then
    gd (c7 (d+1)/\True) <|
    Mt c e (d+1)
   else
    Mt c e d
def VY(b:l6)(c:A7)(d:Int)(g:Int)(f:Int×Int->Option (Int×Bool))(e:Int->Option (Int×Bool)):Int->Option (Int×Bool)
 | a =>
 if(decide (a<d)) then
  gd (ix a b.2.2.1.length/\True) <|
  if(decide ((b.2.2.1.getD a.toNat (a7 y293)).1=c.1)) then
   some (((0:Int),false))
  else
   gd (c7 (a+1)/\True) <|
   e (a+1)
 else
  Mu d g c b f ()
def VZ(a:l6)(e:Int×Int->Option (Int×Bool)):Int×Int->Option (Int×Bool)
 | (c,b) =>
 if(decide (b < (a.2.2.1.length:Int))) then
  gd (ix b a.2.2.1.length/\True)<|lt (a.2.2.1.getD b.toNat (a7 y293)) fun d =>
  lp (VY a d b c e) 0
 else
  PY c
def IQ(a:l6):Option (Int×Bool) :=
 if(decide ((a.2.2.1.length:Int)<2)||decide (5 < (a.2.2.1.length:Int))) then
  some (((0:Int),false))
 else
  lp (VZ a) (0,0)
def N0X:Ct:=c8 252 [.agg y153] (fun x=>IQ x.1) (fun r:Int×Bool=>AV.tup [I r.1,B r.2]) (fun _=>())
theorem Wa:Ok prog N0X:=by
 refine c9 [.tmp 2,.tmp 3] func252 ?_;intro y ⟨a,_⟩ r H Q hn hr;have:=hz (tc X5 (tc Mp tn));refine iA [1]<|iA [1,4]<|vQ<|iA [1,4,17]<|cD H (fun H=>iA [2,3]<|a8<|fR<|hr H) fun H=>vK<|fQ<|iA [1,4,5]<|jN r (fun(l:Int)=>Z [p 5 (I l)] []) (PY) (fun l H=>?_) (fun _ m v g=>?_)
 ·refine iA [2,3]<|a8<|hr H
 refine iA [1,4,5,6]<|vB<|lX (fun((c,b):Int×Int)=>Z [p 1 (R 1),p 4 (I (a.2.2.1.length:Int)),p 5 (I c),p 6 (I b)] [(1,K 153 y153 a)]) (0,0) H fun _ i t u e ⟨c,b⟩ H=>vQ<|iA [1,4,5,6,20]<|cD H (fun H=>?_) (fun H=>?_)
 ·refine vK<|fQ<|jN r (fun(k:Int)=>Z [p 1 (R 1),p 4 (I (a.2.2.1.length:Int)),p 5 (I k),p 6 (I b)] [(1,K 153 y153 a)]) (Mt b i) (fun k H=>?_) (fun _ h w f=>?_)
  ·refine jB [1,4,5,6] H fun H=>t H
  refine vB<|qD (fun d=>Z [p 1 (R 1),p 4 (I (a.2.2.1.length:Int)),p 5 (I c),p 6 (I b),p 7 (R 7)] [(7,K 293 y293 d),(1,K 153 y153 a)]) H fun d H=>jN r (fun(_:Unit)=>Z [p 1 (R 1),p 4 (I (a.2.2.1.length:Int)),p 5 (I c),p 6 (I b),p 7 (R 7)] [(7,K 293 y293 d),(1,K 153 y153 a)]) (Mu b c d a i) (fun _ H=>?_) (fun _ n3 z n=>?_)
  ·refine vQ<|iB [1,4,5,6,7,51] H fun H=>cD H (fun H=>iA [2,3]<|a8<|fR<|h9<|f<|e<|h9<|g<|hr H) fun H=>vK<|fQ<|vQ<|iB [1,4,5,6,7,80] H fun H=>cD H (fun H=>iA [2,3]<|a8<|fR<|h9<|f<|e<|h9<|g<|hr H) fun H=>vK<|fQ<|iA [1,4,5,6,82]<|cD H (fun H=>jB [1,4,5,6] H fun H=>fK<|h H) fun H=>vK<|fK<|h H
  refine iA [1,4,5,6,7,8]<|vB<|lX (fun(j:Int)=>Z [p 1 (R 1),p 4 (I (a.2.2.1.length:Int)),p 5 (I c),p 6 (I b),p 7 (R 7),p 8 (I j)] [(7,K 293 y293 d),(1,K 153 y153 a)]) 0 H fun _ x s o q j H=>vQ<|iA [1,4,5,6,7,8,30]<|cD H (fun H=>?_) (fun H=>?_)
  ·refine vK<|fQ<|vQ<|vB<|iB [1,4,5,6,7,8,41] H fun H=>cD H (fun H=>iA [2,3]<|a8<|h9<|fR<|q<|h9<|n<|h9<|f<|e<|h9<|g<|hr H) fun H=>vK<|fK<|fQ<|jB [1,4,5,6,7,8] H fun H=>s H
  exact vE<|fE<|o<|fX rfl<|n3 H
 exact vE<|fE<|u<|fX rfl<|m H
def Wb:Unit->Option Bool
 | _ =>
 some false
def IS(b:Int×Bool)(a:l6):Unit->Option Bool
 | _ =>
 gd (((b.1==(0:Int))=true/\True->c7 ((a.2.2.1.length:Int)-(1:Int)))/\((b.1==(0:Int))=true/\True->(0:Int)<=(a.2.2.1.length:Int)-(1:Int)/\(a.2.2.1.length:Int)-(1:Int)<=(18446744073709551615:Int))/\((b.1==(0:Int))=true/\True->((0:Int)<=(a.2.2.1.length:Int)-(1:Int)/\(a.2.2.1.length:Int)-(1:Int)<=(62:Int))/\c7 ((1:Int)*(2:Int) ^ ((a.2.2.1.length:Int)-(1:Int)).toNat))/\True) <|
 some (b.1==(0:Int)&&(a.2.2.2.2.1.length:Int)==(1:Int)*(2:j2 i64) ^ ((a.2.2.1.length:Int)-(1:Int)).toNat)
def Wc(b:l6)(c:Int×Bool)(d:Int->Option Bool):Int->Option Bool
 | a =>
 if(decide (a < (b.2.2.2.2.1.length:Int))) then
  gd (ix a b.2.2.2.2.1.length/\(m3 (b.2.2.2.2.1.getD a.toNat 0) 0 1).isSome/\True) <|
  if(!vl (m3 (b.2.2.2.2.1.getD a.toNat 0) 0 1)) then
   some false
  else
   gd (c7 (a+1)/\True) <|
   d (a+1)
 else
  IS c b ()
def Mv(c:l6)(b:Int×Bool):Unit->Option Bool
 | _ =>
 gd ((IJ c).isSome/\True)<|lt (vl (IJ c)) fun a =>
 if(c.2.1==1) then
  lp (Wc c b) 0
 else
  if(c.2.1==2) then
   gd (((b.1==(1:Int))=true/\True->ix (1:Int) a.length)/\((b.1==(1:Int))=true/\True->Int.toNat (1:Int)<a.length)/\((b.1==(1:Int)&&a.getD (Int.toNat (1:Int)) (0:Int)==(0:Int))=true/\True->ix (2:Int) a.length)/\((b.1==(1:Int)&&a.getD (Int.toNat (1:Int)) (0:Int)==(0:Int))=true/\True->Int.toNat (2:Int)<a.length)/\((b.1==(1:Int)&&a.getD (Int.toNat (1:Int)) (0:Int)==(0:Int))=true/\True->ix (3:Int) a.length)/\((b.1==(1:Int)&&a.getD (Int.toNat (1:Int)) (0:Int)==(0:Int))=true/\True->Int.toNat (3:Int)<a.length)/\True) <|
   some (b.1==(1:Int)&&a.getD (Int.toNat (1:Int)) (0:Int)==(0:Int)&&!decide ((0:Int)<a.getD (Int.toNat (2:Int)) (0:Int))==decide ((0:Int)<a.getD (Int.toNat (3:Int)) (0:Int))&&(c.2.2.2.2.1.length:Int)==(0:Int))
  else
   if(c.2.1==3) then
    gd (((b.1==(1:Int))=true/\True->ix (1:Int) a.length)/\((b.1==(1:Int))=true/\True->Int.toNat (1:Int)<a.length)/\((b.1==(1:Int)&&decide ((0:Int)<a.getD (Int.toNat (1:Int)) (0:Int)))=true/\True->ix (2:Int) a.length)/\((b.1==(1:Int)&&decide ((0:Int)<a.getD (Int.toNat (1:Int)) (0:Int)))=true/\True->Int.toNat (2:Int)<a.length)/\((b.1==(1:Int)&&decide ((0:Int)<a.getD (Int.toNat (1:Int)) (0:Int))&&decide ((0:Int)<a.getD (Int.toNat (2:Int)) (0:Int)))=true/\True->ix (3:Int) a.length)/\((b.1==(1:Int)&&decide ((0:Int)<a.getD (Int.toNat (1:Int)) (0:Int))&&decide ((0:Int)<a.getD (Int.toNat (2:Int)) (0:Int)))=true/\True->Int.toNat (3:Int)<a.length)/\True) <|
    some (b.1==(1:Int)&&decide ((0:Int)<a.getD (Int.toNat (1:Int)) (0:Int))&&decide ((0:Int)<a.getD (Int.toNat (2:Int)) (0:Int))&&a.getD (Int.toNat (3:Int)) (0:Int)==(0:Int)&&(c.2.2.2.2.1.length:Int)==(0:Int))
   else
    Wb ()
def Wd(a:Int)(b:Int->Option Bool):Unit->Option Bool
 | _ =>
 gd (c7 (a+1)/\True) <|
 b (a+1)
def We(b:l6)(c:r9)(d:Int)(e:Int->Option Bool)(f:Int->Option Bool):Int->Option Bool
 | a =>
 if(decide (a<d)) then
  gd (ix a b.2.2.2.1.length/\(((b.2.2.2.1.getD a.toNat (a7 y158)).1==c.1)=true/\True->ix a b.2.2.2.1.length)/\(((b.2.2.2.1.getD a.toNat (a7 y158)).1==c.1&&(b.2.2.2.1.getD a.toNat (a7 y158)).2.1==c.2.1)=true/\True->ix a b.2.2.2.1.length)/\True) <|
  if((b.2.2.2.1.getD a.toNat (a7 y158)).1==c.1&&(b.2.2.2.1.getD a.toNat (a7 y158)).2.1==c.2.1&&(b.2.2.2.1.getD a.toNat (a7 y158)).2.2.1==c.2.2.1) then
   some false
  else
   gd (c7 (a+1)/\True) <|
   f (a+1)
 else
  Wd d e ()
def Wf(a:l6)(e:Int×Bool)(d:Int->Option Bool):Int->Option Bool
 | b =>
 if(decide (b < (a.2.2.2.1.length:Int))) then
  gd (ix b a.2.2.2.1.length/\True)<|lt (a.2.2.2.1.getD b.toNat (a7 y158)) fun c =>
  gd ((IP a c).isSome/\True) <|
  if(!vl (IP a c)) then
   some false
  else
   lp (We a c b d) 0
 else
  Mv a e ()
def IT(a:l6):Option Bool :=
 gd ((IQ a).isSome/\True)<|lt (vl (IQ a)) fun b =>
 gd (((!b.2)=false/\True->(R7 a.1).isSome)/\((!b.2||!vl (R7 a.1)||decide (8 < (a.2.2.2.1.length:Int)))=false/\True->(m3 a.2.2.2.2.2.1 0 100000).isSome)/\((!b.2||!vl (R7 a.1)||decide (8 < (a.2.2.2.1.length:Int))||!vl (m3 a.2.2.2.2.2.1 0 100000))=false/\True->(m3 a.2.2.2.2.2.2 0 100000).isSome)/\True) <|
 if(!b.2||!vl (R7 a.1)||decide (8 < (a.2.2.2.1.length:Int))||!vl (m3 a.2.2.2.2.2.1 0 100000)||!vl (m3 a.2.2.2.2.2.2 0 100000)) then
  some false
 else
  lp (Wf a b) 0
def O0o:Ct:=c8 225 [.agg y153] (fun x=>IT x.1) (fun r:Bool=>B r) (fun _=>())
theorem M0o:Ok prog O0o:=by
 refine c9 [.tmp 2] func225 ?_;intro y ⟨a,_⟩ r H Q hn hr;have:=hz (tc X5 (tc VQ (tc M0g (tc Mp (tc Wa tn)))));refine iA [1]<|iD Wa [1,3,4] H fun b H=>vQ<|iB [1,3,40] H fun H=>cD H (fun H=>iA [2]<|a8<|fR<|hr H) fun H=>vK<|fQ<|jN r (fun(_:Unit)=>Z (G6 b.1 []) [(1,K 153 y153 a)]) (Mv a b) (fun _ H=>?_) (fun _ m G h=>?_)
 ·refine iD VQ [1,3,8] H fun _ H=>jN r (fun(_:Unit)=>Z [] []) (Wb) (fun _ H=>?_) (fun _ k F d=>?_)
  ·refine iA [2]<|a8<|hr H
  refine iA [1,3,8,96]<|vB<|iA [1,3,8,96,97]<|cD H (fun H=>?_) (fun H=>?_)
  ·refine jN r (fun(_:Unit)=>Z (G6 b.1 []) [(1,K 153 y153 a)]) (IS b a) (fun _ H=>?_) (fun _ s W t=>?_)
   ·refine iB [2] H fun H=>a8<|h9<|d<|hr H
   refine iA [1,3,9]<|vB<|lX (fun(j:Int)=>Z (G6 b.1 [p 9 (I j)]) [(1,K 153 y153 a)]) 0 H fun _ T z n x j H=>vQ<|iA [1,3,9,103]<|cD H (fun H=>?_) (fun H=>?_)
   ·refine vK<|fQ<|vQ<|vB<|iB [1,3,9,112] H fun H=>cD H (fun H=>iA [2]<|a8<|h9<|fR<|x<|h9<|t<|h9<|d<|hr H) fun H=>vK<|fK<|fQ<|jB [1,3,9] H fun H=>z H
   exact vE<|fE<|n<|fX rfl<|s H
  refine iA [1,3,8,96,127]<|cD H (fun H=>iB [2] H fun H=>a8<|h9<|d<|hr H) fun H=>iA [1,3,8,154]<|cD H (fun H=>iB [2] H fun H=>a8<|h9<|d<|hr H) fun H=>vK<|fK<|k H
 refine iA [1,3,5]<|vB<|lX (fun(c:Int)=>Z (G6 b.1 [p 5 (I c)]) [(1,K 153 y153 a)]) 0 H fun _ u v E f c H=>vQ<|iA [1,3,5,45]<|cD H (fun H=>?_) (fun H=>?_)
 ·refine vK<|fQ<|jN r (fun(_:Unit)=>Z (G6 b.1 [p 5 (I c)]) [(1,K 153 y153 a)]) (Wd c u) (fun _ H=>?_) (fun _ l P g=>?_)
  ·refine jB [1,3,5] H fun H=>v H
  refine vB<|qD (fun e=>Z (G6 b.1 [p 5 (I c),p 6 (R 6)]) [(6,K 158 y158 e),(1,K 153 y153 a)]) H fun e H=>vQ<|iB [1,3,5,6,56] H fun H=>cD H (fun H=>iA [2]<|a8<|fR<|h9<|g<|f<|h9<|h<|hr H) fun H=>vK<|fQ<|iA [1,3,5,6,7]<|vB<|lX (fun(i:Int)=>Z (G6 b.1 [p 5 (I c),p 6 (R 6),p 7 (I i)]) [(6,K 158 y158 e),(1,K 153 y153 a)]) 0 H fun _ V o w q i H=>vQ<|iA [1,3,5,6,7,59]<|cD H (fun H=>?_) (fun H=>?_)
  ·refine vK<|fQ<|vQ<|vB<|iB [1,3,5,6,7,92] H fun H=>cD H (fun H=>iA [2]<|a8<|h9<|fR<|q<|h9<|h9<|g<|f<|h9<|h<|hr H) fun H=>vK<|fK<|fQ<|jB [1,3,5,6,7] H fun H=>o H
  exact vE<|fE<|w<|fX rfl<|fK<|l H
 exact vE<|fE<|E<|fX rfl<|m H
def Mw(a:List l6):Unit->Option Bool
 | _ =>
 some (decide ((a.length:Int)<=8))
def Wg(a:Int)(b:Int->Option Bool):Unit->Option Bool
 | _ =>
 gd (c7 (a+1)/\True) <|
 b (a+1)
def Wh(c:List l6)(b:Int)(d:Int->Option Bool)(e:Int->Option Bool):Int->Option Bool
 | a =>
 if(decide (a<b)) then
  gd (ix a c.length/\ix b c.length/\True) <|
  if(decide ((c.getD a.toNat (a7 y153)).1=(c.getD b.toNat (a7 y153)).1)) then
   some false
  else
   gd (c7 (a+1)/\True) <|
   e (a+1)
 else
  Wg b d ()
def Wi(a:List l6)(c:Int->Option Bool):Int->Option Bool
 | b =>
 if(decide (b < (a.length:Int))) then
  gd (ix b a.length/\(IT (a.getD b.toNat (a7 y153))).isSome/\True) <|
  if(!vl (IT (a.getD b.toNat (a7 y153)))) then
   some false
  else
   lp (Wh a b c) 0
 else
  Mw a ()
def IU(a:List l6):Option Bool :=
 lp (Wi a) 0
def O0Y:Ct:=c8 184 [.agg y153.sl] (fun x=>IU x.1) (fun r:Bool=>B r) (fun _=>())
theorem M0D:Ok prog O0Y:=by
 refine c9 [.tmp 2] func184 ?_;intro y ⟨b,_⟩ r H Q hn hr;have:=hz (tc M0o tn);refine iA [1]<|jN r (fun(_:Unit)=>Z [p 1 (R 1)] [(1,bx 49 [L y153 b])]) (Mw b) (fun _ H=>?_) (fun _ i o f=>?_)
 ·refine iA [2]<|a8<|hr H
 refine iA [1,3]<|vB<|lX (fun(a:Int)=>Z (G6 a []) [(1,bx 49 [L y153 b])]) 0 H fun _ k l n d a H=>vQ<|iA [1,3,9]<|cD H (fun H=>?_) (fun H=>?_)
 ·refine vK<|fQ<|jN r (fun(_:Unit)=>Z (G6 a []) [(1,bx 49 [L y153 b])]) (Wg a k) (fun _ H=>?_) (fun _ j s e=>?_)
  ·refine jB [1,3] H fun H=>l H
  refine vB<|vQ<|iB [1,3,18] H fun H=>cD H (fun H=>iA [2]<|a8<|fR<|h9<|e<|d<|h9<|f<|hr H) fun H=>vK<|fQ<|iA [1,3,4]<|vB<|lX (fun(c:Int)=>Z (G6 a [p 4 (I c)]) [(1,bx 49 [L y153 b])]) 0 H fun _ q g m h c H=>vQ<|iA [1,3,4,21]<|cD H (fun H=>?_) (fun H=>?_)
  ·refine vK<|fQ<|vQ<|vB<|iB [1,3,4,36] H fun H=>cD H (fun H=>iA [2]<|a8<|h9<|fR<|h<|h9<|h9<|e<|d<|h9<|f<|hr H) fun H=>vK<|fK<|fQ<|jB [1,3,4] H fun H=>g H
  exact vE<|fE<|m<|fX rfl<|fK<|j H
 exact vE<|fE<|n<|fX rfl<|i H
def Wj:Unit->Option Bool
 | _ =>
 some true
def Wk(b:List Int)(c:Int->Option Bool):Int->Option Bool
 | a =>
 if(decide (a < (b.length:Int))) then
  gd (ix a b.length/\a.toNat<b.length/\True) <|
  if(b.getD a.toNat 0 != 1) then
   some false
  else
   gd (c7 (a+1)/\True) <|
   c (a+1)
 else
  Wj ()
def IV:List Int->Option Bool
 | a =>
 lp (Wk a) 0
def Mx(a:Int)(c:Int×List Int->Option Bool):List Int->Option Bool
 | b =>
 gd (c7 (a+1)/\True) <|
 c (a+1,b)
def Wl(c:m7)(e:Int×List Int->Option Bool):Int×List Int->Option Bool
 | (a,b) =>
 if(decide (a < (c.2.2.length:Int))) then
  gd (ix a c.2.2.length/\True) <|
  if((c.2.2.getD a.toNat (a7 y231)).2.1==1) then
   gd (ix a c.2.2.length/\ix (c.2.2.getD a.toNat (a7 y231)).2.2 b.length/\(c.2.2.getD a.toNat (a7 y231)).2.2.toNat<b.length/\c7 (b.getD (c.2.2.getD a.toNat (a7 y231)).2.2.toNat 0+1)/\ix (c.2.2.getD a.toNat (a7 y231)).2.2 b.length/\(c.2.2.getD a.toNat (a7 y231)).2.2.toNat<b.length/\True)<|lt (b.set (c.2.2.getD a.toNat (a7 y231)).2.2.toNat (b.getD (c.2.2.getD a.toNat (a7 y231)).2.2.toNat 0+1)) fun d =>
   Mx a e d
  else
   Mx a e b
 else
  IV b
def IW(b:m7):List Int->Option Bool
 | a =>
 lp (Wl b) (0,a)
def PZ(d:m7)(f:Int×List Int->Option Bool):Int×List Int->Option Bool
 | (c,b) =>
 if(decide (c < (d.1.length:Int))) then
  gd (ix c d.1.length/\True)<|lt (d.1.getD c.toNat (a7 y155)) fun a =>
  gd (c7 ((a.2.2.length:Int)-1)/\ix ((a.2.2.length:Int)-1) a.2.2.length/\ix (a.2.2.getD ((a.2.2.length:Int)-1).toNat 0) b.length/\Int.toNat (a.2.2.getD ((a.2.2.length:Int)-1).toNat 0)<b.length/\c7 (b.getD (Int.toNat (a.2.2.getD ((a.2.2.length:Int)-1).toNat 0)) 0+1)/\ix (a.2.2.getD ((a.2.2.length:Int)-1).toNat 0) b.length/\Int.toNat (a.2.2.getD ((a.2.2.length:Int)-1).toNat 0)<b.length/\True)<|lt (b.set (Int.toNat (a.2.2.getD ((a.2.2.length:Int)-1).toNat 0)) (b.getD (Int.toNat (a.2.2.getD ((a.2.2.length:Int)-1).toNat 0)) 0+1)) fun e =>
  gd (c7 (c+1)/\True) <|
  f (c+1,e)
 else
  IW d b
def IX(a:m7)(b:List ByteArray):List ByteArray->Option Bool
 | c =>
 gd ((Aj b).isSome/\((!vl (Aj b))=false/\True->(Aj c).isSome)/\((!vl (Aj b)||!vl (Aj c))=false/\True->(Aj a.2.1).isSome)/\True) <|
 if(!vl (Aj b)||!vl (Aj c)||!vl (Aj a.2.1)) then
  some false
 else
  gd ((0<=(a.2.1.length:Int)/\(a.2.1.length:Int)=(a.2.1.length:Int)/\(a.2.1.length:Int).toNat*8<=281474976710656/\(a.2.1.length:Int)<=9223372036854775807)/\True) <|
  lp (PZ a) ((0,List.replicate (a.2.1.length:Int).toNat 0))
def Wm(b:m7)(d:List ByteArray)(e:Int×List ByteArray->Option Bool):Int×List ByteArray->Option Bool
 | (a,c) =>
 if(decide (a < (b.2.2.length:Int))) then
  gd (ix a b.2.2.length/\(c.length+[(b.2.2.getD a.toNat (a7 y231)).1].length<=9223372036854775807/\(c.length+[(b.2.2.getD a.toNat (a7 y231)).1].length)*16<=140737488355328)/\True) <|
  gd (c7 (a+1)/\True) <|
  e ((a+1,c++[(b.2.2.getD a.toNat (a7 y231)).1]))
 else
  IX b d c
def IY(b:m7):List ByteArray->Option Bool
 | a =>
 lp (Wm b a) (0,[])
def Wn(b:m7)(d:Int×List ByteArray->Option Bool):Int×List ByteArray->Option Bool
 | (a,c) =>
 if(decide (a < (b.1.length:Int))) then
  gd (ix a b.1.length/\(c.length+[(b.1.getD a.toNat (a7 y155)).1].length<=9223372036854775807/\(c.length+[(b.1.getD a.toNat (a7 y155)).1].length)*16<=140737488355328)/\True) <|
  gd (c7 (a+1)/\True) <|
  d ((a+1,c++[(b.1.getD a.toNat (a7 y155)).1]))
 else
  IY b c
def IZ(b:List l6)(a:m7):Option Bool :=
 gd ((IU b).isSome/\((!vl (IU b)||decide (14 < (a.1.length:Int))||decide (30 < (a.2.1.length:Int))||decide (8 < (a.2.2.length:Int)))=false/\True->(Mr b a).isSome)/\True) <|
 if(!vl (IU b)||decide (14 < (a.1.length:Int))||decide (30 < (a.2.1.length:Int))||decide (8 < (a.2.2.length:Int))||!vl (Mr b a)) then
  some false
 else
  lp (Wn a) (0,[])
def P0M:Ct:=c8 138 [.agg y153.sl,.agg y53] (fun x=>IZ x.1 x.2.1) (fun r:Bool=>B r) (fun _=>())
theorem M0V:Ok prog P0M:=by
 refine c9 [.tmp 4] func138 ?_;intro y ⟨_,a,_⟩ r H Q hn hr;have:=hz (tc M0B (tc M0C (tc M0D tn)));refine iA [2,3]<|vQ<|iB [3,40] H fun H=>cD H (fun H=>iA [4]<|a8<|fR<|hr H) fun H=>vK<|fQ<|iA [3,5]<|jN r (fun(l:List ByteArray)=>Z [p 3 (R 3),p 5 (O 41)] [(41,A 9 Ty.str l 0),(3,K 53 y53 a)]) (IY a) (fun l H=>?_) (fun _ E e0 t0=>?_)
 ·refine iA [3,5,7]<|jN r (fun(x:List ByteArray)=>Z [p 3 (R 3),p 5 (O 41),p 7 (O 58)] [(58,A 9 Ty.str x 0),(41,A 9 Ty.str l 0),(3,K 53 y53 a)]) (IX a l) (fun x H=>?_) (fun _ F e2 t2=>?_)
  ·refine vQ<|iB [3,88] H fun H=>cD H (fun H=>iA [4]<|a8<|fR<|hr H) fun H=>vK<|fQ<|iB [3,9] H fun H=>jN r (fun(c:List Int)=>Z [p 3 (R 3),p 9 (O 92)] (Dv c a)) (IW a) (fun c H=>?_) (fun _ z e4 t4=>?_)
   ·refine jN r (fun(e:List Int)=>Z [p 9 (O 92)] [(92,A 2 i64 e 0)]) (IV) (fun e H=>?_) (fun _ G e6 t6=>?_)
    ·refine jN r (fun(_:Unit)=>Z [] []) (Wj) (fun _ H=>?_) (fun _ X e9 V=>?_)
     ·refine iA [4]<|a8<|hr H
     refine iA [9,13]<|vB<|lX (fun(h:Int)=>Z [p 9 (O 92),p 13 (I h)] [(92,A 2 i64 e 0)]) 0 H fun _ W o n q h H=>vQ<|iA [9,13,145]<|cD H (fun H=>?_) (fun H=>?_)
     ·refine vK<|fQ<|vQ<|vB<|iB [9,13,152] H fun H=>cD H (fun H=>iA [4]<|a8<|h9<|fR<|q<|h9<|V<|hr H) fun H=>vK<|fK<|fQ<|jB [9,13] H fun H=>o H
     exact vE<|fE<|n<|fX rfl<|X H
    refine iA [3,9,12]<|vB<|lX (fun((b,j):Int×List Int)=>Z [p 3 (R 3),p 9 (O 92),p 12 (I b)] (Dv j a)) (0,c) H fun _ P b7 Y t7 ⟨b,j⟩ H=>vQ<|iA [3,9,12,121]<|cD H (fun H=>?_) (fun H=>?_)
    ·refine vK<|fQ<|jN r (fun(f:List Int)=>Z [p 3 (R 3),p 9 (O 92),p 12 (I b)] (Dv f a)) (Mx b P) (fun f H=>?_) (fun _ s e8 t8=>?_)
     ·refine jB [3,9,12] H fun H=>b7 H
     refine vB<|iB [3,9,12,130] H fun H=>cD H (fun H=>zD (fun g=>Z [p 3 (R 3),p 9 (O 92),p 12 (I b)] (Dv g a)) H fun g H=>fK<|s H) fun H=>vK<|fK<|s H
    exact vE<|fE<|Y<|fX rfl<|G H
   refine iA [3,9,10]<|vB<|lX (fun((m,d):Int×List Int)=>Z [p 3 (R 3),p 9 (O 92),p 10 (I m)] (Dv d a)) ((0,List.replicate (a.2.1.length:Int).toNat 0)) H fun _ g5 b5 e5 t5 ⟨m,d⟩ H=>vQ<|iA [3,9,10,97]<|cD H (fun H=>vK<|fQ<|vQ<|vB<|qD (fun i=>Z [p 3 (R 3),p 9 (O 92),p 10 (I m),p 11 (L i64 i.2.2)] (Dv d a)) H fun i H=>zD (fun k=>Z [p 3 (R 3),p 9 (O 92),p 10 (I m)] (Dv k a)) H fun k H=>fK<|fQ<|jB [3,9,10] H fun H=>b5 H) fun H=>vE<|fE<|e5<|fX rfl<|z H
  refine iA [3,5,7,8]<|vB<|lX (fun((t,w):Int×List ByteArray)=>Z [p 3 (R 3),p 5 (O 41),p 7 (O 58),p 8 (I t)] [(58,A 9 Ty.str w 0),(41,A 9 Ty.str l 0),(3,K 53 y53 a)]) (0,[]) H fun _ g3 T e3 t3 ⟨t,w⟩ H=>vQ<|iA [3,5,7,8,63]<|cD H (fun H=>vK<|fQ<|vQ<|vB<|jB [3,5,7,8] H fun H=>fK<|fQ<|jB [3,5,7,8] H fun H=>T H) fun H=>vE<|fE<|e3<|fX rfl<|F H
 refine iA [3,5,6]<|vB<|lX (fun((u,v):Int×List ByteArray)=>Z [p 3 (R 3),p 5 (O 41),p 6 (I u)] [(41,A 9 Ty.str v 0),(3,K 53 y53 a)]) (0,[]) H fun _ g1 b1 e1 t1 ⟨u,v⟩ H=>vQ<|iA [3,5,6,46]<|cD H (fun H=>vK<|fQ<|vQ<|vB<|jB [3,5,6] H fun H=>fK<|fQ<|jB [3,5,6] H fun H=>b1 H) fun H=>vE<|fE<|e1<|fX rfl<|E H
def Wo:Unit->Option Bool
 | _ =>
 some true
def Wp(b:j1)(c:Int->Option Bool):Int->Option Bool
 | a =>
 if(decide (a < (b.2.2.length:Int))) then
  gd (ix a b.2.2.length/\(X2 b.2.1 a).isSome/\(II (b.2.2.getD a.toNat (a7 y172)) (↑(vl (X2 b.2.1 a)).length:Int)).isSome/\True)<|lt (vl (X2 b.2.1 a)) fun d =>
  if(!vl (II (b.2.2.getD a.toNat (a7 y172)) (d.length:Int))) then
   some false
  else
   gd (c7 (a+1)/\True) <|
   c (a+1)
 else
  Wo ()
def U4(a:j1):Option Bool :=
 gd ((IZ a.1 a.2.1).isSome/\True) <|
 if(!vl (IZ a.1 a.2.1)||(a.2.2.length:Int) != (a.2.1.2.1.length:Int)) then
  some false
 else
  lp (Wp a) 0
def k83:Ct:=c8 83 [.agg l5] (fun x=>U4 x.1) (fun r:Bool=>B r) (fun _=>())
theorem Qa:Ok prog k83:=by
 refine c9 [.tmp 2] func83 ?_;intro y ⟨d,_⟩ r H Q hn hr;have:=hz (tc M0U (tc Gj (tc M0V tn)));refine iA [1]<|vQ<|iB [1,19] H fun H=>cD H (fun H=>iA [2]<|a8<|fR<|hr H) fun H=>vK<|fQ<|jN r (fun(_:Unit)=>Z [] []) (Wo) (fun _ H=>?_) (fun _ c i f=>?_)
 ·refine iA [2]<|a8<|hr H
 refine iA [1,3]<|vB<|lX (fun(a:Int)=>Z (G6 a []) [(1,K 56 l5 d)]) 0 H fun _ h e g b a H=>vQ<|iA [1,3,24]<|cD H (fun H=>?_) (fun H=>?_)
 ·refine vK<|fQ<|vQ<|vB<|iD Gj [1,3,38] H fun _ H=>cD H (fun H=>iA [2]<|a8<|h9<|fR<|b<|h9<|f<|hr H) fun H=>vK<|fK<|fQ<|jB [1,3] H fun H=>e H
 exact vE<|fE<|g<|fX rfl<|c H
def CC(a:j1)(b:List Int):Option Int :=
 gd ((U4 a).isSome/\True) <|
 if(!vl (U4 a)) then
  some 1
 else
  gd ((AT a).isSome/\(Mm b (↑(vl (AT a)).length:Int)).isSome/\True)<|lt (vl (AT a)) fun c =>
  if(!vl (Mm b (c.length:Int))) then
   some 2
  else
   some 0
def P0T:Ct:=c8 124 [.agg l5,.dat i64.sl] (fun x=>CC x.1 x.2.1) (fun r:Int=>I r) (fun _=>())
theorem My:Ok prog P0T:=by
 refine c9 [.tmp 4] func124 ?_;intro y ⟨_,_,_⟩ r H Q hn hr;have:=hz (tc M0F (tc Gr (tc Qa tn)));refine iA [1,2]<|vQ<|iB [1,2,7] H fun H=>cD H (fun H=>iA [4]<|a8<|fR<|hr H) fun H=>vK<|fQ<|vQ<|iD Gr [13] H fun _ H=>cD H (fun H=>iA [4]<|a8<|fR<|hr H) fun H=>vK<|fQ<|iA [4]<|a8<|hr H
def Ja(a:j1)(c:List Int):Option (List Int×Int) :=
 gd ((CC a c).isSome/\True)<|lt (vl (CC a c)) fun e =>
 if(e != 0) then
  some ([],e)
 else
  gd ((AT a).isSome/\True)<|lt (vl (AT a)) fun b =>
  gd ((K1 a).isSome/\(AS b c).isSome/\(IH (vl (K1 a)) b (vl (AS b c))).isSome/\True)<|lt ((vl (IH (vl (K1 a)) b (vl (AS b c))),vl (AS b c))) fun(d,_) =>
  if(!d.2) then
   some (([],(7:Int)))
  else
   some ((d.1,(0:Int)))
def P0R:Ct:=c8 126 [.agg l5,.dat i64.sl] (fun x=>Ja x.1 x.2.1) (fun r:List Int×Int=>AV.tup [AV.ow 2 true i64 r.1,I r.2]) (fun _=>())
theorem Wq:Ok prog P0R:=by
 refine c9 [.tmp 4,.tmp 5] func126 ?_;intro y ⟨d,_,_⟩ r H Q hn hr;have:=hz (tc M0E (tc Vi (tc IC (tc Gr (tc My tn)))));refine iA [1,2]<|vQ<|iD My [1,2,6] H fun _ H=>iA [1,2,6,14]<|cD H (fun H=>iA [4,5]<|a8<|fR<|hr H) fun H=>vK<|fQ<|iD Gr [1,2,7] H fun c H=>qD (fun(a,b)=>Z [p 8 (O 26),p 9 (B a.2)] [(26,A 2 i64 a.1 0),(25,A 4 Ty.bool b 0),(18,A 138 y138 c 0),(2,K 56 l5 d)]) H fun⟨a,b⟩ H =>
  vQ <|
  iA [8,30] <|
  cD H (fun H=>iA [4,5]<|a8<|fR<|hr H) fun H=>vK<|fQ<|iA [4,5]<|a8<|hr H
def AU(a:s7):Option Bool :=
 some (decide (0<=a.1)&&decide (a.1<=a.2)&&decide (a.2<=1000000))
def P0J:Ct:=c8 141 [.agg y73] (fun x=>AU x.1) (fun r:Bool=>B r) (fun _=>())
theorem Ws:Ok prog P0J:=by
 refine c9 [.tmp 2] func141 ?_;intro y ⟨_,_⟩ r H Q hn hr;refine iA [1]<|iA [2]<|a8<|hr H
def R8(a:s7):Option Bool :=
 gd ((m3 a.1 (-1000000000) 1000000000).isSome/\(vl (m3 a.1 (-1000000000) 1000000000)=true/\True->(m3 a.2 (-1000000000) 1000000000).isSome)/\True) <|
 some (vl (m3 a.1 (-1000000000) 1000000000)&&vl (m3 a.2 (-1000000000) 1000000000)&&decide (a.1<=a.2))
def k62:Ct:=c8 62 [.agg y73] (fun x=>R8 x.1) (fun r:Bool=>B r) (fun _=>())
theorem Wt:Ok prog k62:=by
 refine c9 [.tmp 2] func62 ?_;intro y ⟨_,_⟩ r H Q hn hr;have:=hz (tc X5 tn);refine iA [1]<|iB [2] H fun H=>a8<|hr H
def Wu:Unit->Option Bool
 | _ =>
 some true
def Wv(b:List r4)(c:Int)(d:Int->Option Bool):Int->Option Bool
 | a =>
 if(decide (a < (b.length:Int))) then
  gd (ix a b.length/\c7 (c-1)/\(m3 (b.getD a.toNat (a7 y75)).1 0 (c-1)).isSome/\(decide (0<a)=true/\(!vl (m3 (b.getD a.toNat (a7 y75)).1 0 (c-1)))=false/\True->c7 (a-1))/\(decide (0<a)=true/\(!vl (m3 (b.getD a.toNat (a7 y75)).1 0 (c-1)))=false/\True->ix (a-1) b.length)/\(decide (0<a)=true/\(!vl (m3 (b.getD a.toNat (a7 y75)).1 0 (c-1)))=false/\True->ix a b.length)/\((!vl (m3 (b.getD a.toNat (a7 y75)).1 0 (c-1))||decide (0<a)&&decide ((b.getD a.toNat (a7 y75)).1<=(b.getD (a-1).toNat (a7 y75)).1))=false/\True->ix a b.length)/\((!vl (m3 (b.getD a.toNat (a7 y75)).1 0 (c-1))||decide (0<a)&&decide ((b.getD a.toNat (a7 y75)).1<=(b.getD (a-1).toNat (a7 y75)).1))=false/\True->(R8 (b.getD a.toNat (a7 y75)).2.1).isSome)/\((!vl (m3 (b.getD a.toNat (a7 y75)).1 0 (c-1))||decide (0<a)&&decide ((b.getD a.toNat (a7 y75)).1<=(b.getD (a-1).toNat (a7 y75)).1)||!vl (R8 (b.getD a.toNat (a7 y75)).2.1))=false/\True->ix a b.length)/\((!vl (m3 (b.getD a.toNat (a7 y75)).1 0 (c-1))||decide (0<a)&&decide ((b.getD a.toNat (a7 y75)).1<=(b.getD (a-1).toNat (a7 y75)).1)||!vl (R8 (b.getD a.toNat (a7 y75)).2.1))=false/\True->(AU (b.getD a.toNat (a7 y75)).2.2).isSome)/\True) <|
  if(!vl (m3 (b.getD a.toNat (a7 y75)).1 0 (c-1))||decide (0<a)&&decide ((b.getD a.toNat (a7 y75)).1<=(b.getD (a-1).toNat (a7 y75)).1)||!vl (R8 (b.getD a.toNat (a7 y75)).2.1)||!vl (AU (b.getD a.toNat (a7 y75)).2.2)) then
   some false
  else
   gd (c7 (a+1)/\True) <|
   d (a+1)
 else
  Wu ()
def Jb(a:j1)(c:List r4):Option Bool :=
 gd ((K1 a).isSome/\True)<|lt (vl (K1 a)) fun b =>
 lp (Wv c b) 0
def P0S:Ct:=c8 125 [.agg l5,.dat y75.sl] (fun x=>Jb x.1 x.2.1) (fun r:Bool=>B r) (fun _=>())
theorem M0W:Ok prog P0S:=by
 refine c9 [.tmp 4] func125 ?_;intro y ⟨_,h,_⟩ r H Q hn hr;have:=hz (tc Ws (tc Wt (tc X5 (tc IC tn))));refine iA [1,2]<|iD IC [1,5] H fun f H=>jN r (fun(_:Unit)=>Z [] []) (Wu) (fun _ H=>?_) (fun _ c j e=>?_)
 ·refine iA [4]<|a8<|hr H
 refine iA [1,5,6]<|vB<|lX (fun(a:Int)=>Z [p 1 (L y75 h),p 5 (I f),p 6 (I a)] []) 0 H fun _ i d g b a H=>vQ<|iA [1,5,6,12]<|cD H (fun H=>?_) (fun H=>?_)
 ·refine vK<|fQ<|vQ<|vB<|iB [1,5,6,59] H fun H=>cD H (fun H=>iA [4]<|a8<|h9<|fR<|b<|h9<|e<|hr H) fun H=>vK<|fK<|fQ<|jB [1,5,6] H fun H=>d H
 exact vE<|fE<|g<|fX rfl<|c H
def Jc(a:q9):Unit->Option Bool
 | _ =>
 gd ((R7 a.1).isSome/\True) <|
 some (vl (R7 a.1)&&decide (a.2.1<=a.2.2.1)&&decide (a.2.2.2.1<=a.2.2.2.2))
def Mz(b:List Int)(c:q9)(d:Int->Option Bool):Int->Option Bool
 | a =>
 if(decide (a < (b.length:Int))) then
  gd (ix a b.length/\a.toNat<b.length/\(m3 (b.getD a.toNat 0) 100 5000).isSome/\True) <|
  if(!vl (m3 (b.getD a.toNat 0) 100 5000)) then
   some false
  else
   gd (c7 (a+1)/\True) <|
   d (a+1)
 else
  Jc c ()
def BK(a:q9):Option Bool :=
 lt ([a.2.1,a.2.2.1,a.2.2.2.1,a.2.2.2.2]) fun b =>
 lp (Mz b a) 0
def k84:Ct:=c8 84 [.agg u4] (fun x=>BK x.1) (fun r:Bool=>B r) (fun _=>())
theorem Ww:Ok prog k84:=by
 refine c9 [.tmp 2] func84 ?_;intro y ⟨a,_⟩ r H Q hn hr;have:=hz (tc Mp (tc X5 tn));refine iA [1]<|qC (fun b=>Z [p 1 (R 1),p 3 (O 13)] [(13,A 2 i64 b 0),(1,K 58 u4 a)]) H fun b H=>jN r (fun(_:Unit)=>Z [p 1 (R 1)] [(1,K 58 u4 a)]) (Jc a) (fun _ H=>?_) (fun _ e j g=>?_)
 ·refine iB [2] H fun H=>a8<|hr H
 refine iA [1,3,4]<|vB<|lX (fun(c:Int)=>Z [p 1 (R 1),p 3 (O 13),p 4 (I c)] [(13,A 2 i64 b 0),(1,K 58 u4 a)]) 0 H fun _ i f h d c H=>vQ<|iA [1,3,4,17]<|cD H (fun H=>?_) (fun H=>?_)
 ·refine vK<|fQ<|vQ<|vB<|iB [1,3,4,25] H fun H=>cD H (fun H=>iA [2]<|a8<|h9<|fR<|d<|h9<|g<|hr H) fun H=>vK<|fK<|fQ<|jB [1,3,4] H fun H=>f H
 exact vE<|fE<|h<|fX rfl<|e H
def Jd(a:j1)(d:q9)(b:List Int)(c:List r4):Option (List Int×Int) :=
 gd ((U4 a).isSome/\((!vl (U4 a))=false/\True->(BK d).isSome)/\True) <|
 if(!vl (U4 a)||!vl (BK d)) then
  some (([],(1:Int)))
 else
  gd ((CC a b).isSome/\((vl (CC a b) != 0)=false/\True->(Jb a c).isSome)/\True)<|lt (vl (CC a b)) fun f =>
  if(f != 0||!vl (Jb a c)) then
   some (([],(2:Int)))
  else
   gd ((Ja a b).isSome/\True)<|lt (vl (Ja a b)) fun e =>
   some e
def k67:Ct:=c8 67 [.agg l5,.agg u4,.dat i64.sl,.dat y75.sl] (fun x=>Jd x.1 x.2.1 x.2.2.1 x.2.2.2.1) (fun r:List Int×Int=>AV.tup [AV.ow 2 true i64 r.1,I r.2]) (fun _=>())
theorem Wx:Ok prog k67:=by
 refine c9 [.tmp 8,.tmp 9] func67 ?_;intro y ⟨_,_,_,_,_⟩ r H Q hn hr;have:=hz (tc Wq (tc M0W (tc My (tc Ww (tc Qa tn)))));refine iA [2,3,4,5]<|vQ<|iB [2,3,4,17] H fun H=>cD H (fun H=>iA [8,9]<|a8<|fR<|hr H) fun H=>vK<|fQ<|vQ<|iD My [2,4,28] H fun _ H=>cD H (fun H=>iA [8,9]<|a8<|fR<|hr H) fun H=>vK<|fQ<|iD Wq [8,9] H fun _ H=>a8<|hr H
def Wy:Unit->Option Bool
 | _ =>
 some true
def Wz(b:A3)(c:Int->Option Bool):Int->Option Bool
 | a =>
 if(decide (a < (b.1.length:Int))) then
  gd (ix a b.2.1.length/\(R8 (b.2.1.getD a.toNat (a7 y73))).isSome/\((!vl (R8 (b.2.1.getD a.toNat (a7 y73))))=false/\True->ix a b.2.2.length)/\((!vl (R8 (b.2.1.getD a.toNat (a7 y73))))=false/\True->(AU (b.2.2.getD a.toNat (a7 y73))).isSome)/\((!vl (R8 (b.2.1.getD a.toNat (a7 y73)))||!vl (AU (b.2.2.getD a.toNat (a7 y73))))=false/\True->ix a b.1.length)/\((!b.1.getD a.toNat false)=true/\(!vl (R8 (b.2.1.getD a.toNat (a7 y73)))||!vl (AU (b.2.2.getD a.toNat (a7 y73))))=false/\True->ix a b.2.1.length)/\((!((b.2.1.getD a.toNat (a7 y73)).1==0&&((b.2.1.getD a.toNat (a7 y73)).2==0&&true)))=false/\(!b.1.getD a.toNat false)=true/\(!vl (R8 (b.2.1.getD a.toNat (a7 y73)))||!vl (AU (b.2.2.getD a.toNat (a7 y73))))=false/\True->ix a b.2.2.length)/\True)<|lt (!vl (R8 (b.2.1.getD a.toNat (a7 y73)))||!vl (AU (b.2.2.getD a.toNat (a7 y73)))||!b.1.getD a.toNat false&&(!((b.2.1.getD a.toNat (a7 y73)).1==0&&((b.2.1.getD a.toNat (a7 y73)).2==0&&true))||!((b.2.2.getD a.toNat (a7 y73)).1==0&&((b.2.2.getD a.toNat (a7 y73)).2==0&&true)))) fun d =>
  if d then
   some false
  else
   gd (c7 (a+1)/\True) <|
   c (a+1)
 else
  Wy ()
def Je(b:Int)(a:A3):Option Bool :=
 if((a.1.length:Int) != b||(a.2.1.length:Int) != b||(a.2.2.length:Int) != b) then
  some false
 else
  lp (Wz a) 0
def k85:Ct:=c8 85 [.dat i64,.agg y65] (fun x=>Je x.1 x.2.1) (fun r:Bool=>B r) (fun _=>())
theorem o85:Ok prog k85:=by
 refine c9 [.tmp 4] func85 ?_;intro y ⟨_,c,_⟩ r H Q hn hr;have:=hz (tc Ws (tc Wt tn));refine iA [0,3]<|vQ<|iA [3,24]<|cD H (fun H=>iA [4]<|a8<|fR<|hr H) fun H=>vK<|fQ<|jN r (fun(_:Unit)=>Z [] []) (Wy) (fun _ H=>?_) (fun _ e j g=>?_)
 ·refine iA [4]<|a8<|hr H
 refine iA [3,5]<|vB<|lX (fun(a:Int)=>Z [p 3 (R 3),p 5 (I a)] [(3,K 65 y65 c)]) 0 H fun _ i f h d a H=>vQ<|iA [3,5,29]<|cD H (fun H=>?_) (fun H=>?_)
 ·refine vK<|fQ<|vQ<|vB<|qD (fun b=>Z [p 3 (R 3),p 5 (I a),p 73 (B b)] [(3,K 65 y65 c)]) H fun b H=>cD H (fun H=>iA [4]<|a8<|h9<|fR<|d<|h9<|g<|hr H) fun H=>vK<|fK<|fQ<|jB [3,5] H fun H=>f H
 exact vE<|fE<|h<|fX rfl<|e H
def Jf(a:j1)(b:q9)(c:List Int)(e:List r4)(d:A3):Option Int :=
 gd ((U4 a).isSome/\((!vl (U4 a))=false/\True->(BK b).isSome)/\((!vl (U4 a)||!vl (BK b))=false/\True->(K1 a).isSome)/\((!vl (U4 a)||!vl (BK b))=false/\True->(Je (vl (K1 a)) d).isSome)/\True) <|
 if(!vl (U4 a)||!vl (BK b)||!vl (Je (vl (K1 a)) d)) then
  some 1
 else
  gd ((Jd a b c e).isSome/\True)<|lt (vl (Jd a b c e)) fun f =>
  some f.2
def k40:Ct:=c8 40 [.agg l5,.agg u4,.dat i64.sl,.dat y75.sl,.agg y65] (fun x=>Jf x.1 x.2.1 x.2.2.1 x.2.2.2.1 x.2.2.2.2.1) (fun r:Int=>I r) (fun _=>())
theorem WA:Ok prog k40:=by
 refine c9 [.tmp 10] func40 ?_;intro y ⟨_,_,_,_,_,_⟩ r H Q hn hr;have:=hz (tc Wx (tc o85 (tc IC (tc Ww (tc Qa tn)))));refine iA [2,3,5,6,9]<|vQ<|iB [2,3,5,6,27] H fun H=>cD H (fun H=>iA [10]<|a8<|fR<|hr H) fun H=>vK<|fQ<|iD Wx [12] H fun _ H=>iA [10]<|a8<|hr H
def Jg(c:j1)(g:q9)(b:List Int)(e:List r4)(d:A3)(i:Int)(f:Int):Option (Int×Int) :=
 gd ((Jf c g b e d).isSome/\True)<|lt (vl (Jf c g b e d)) fun h =>
 if(h != 0) then
  some (((0:Int),h))
 else
  gd ((PT f).isSome/\True) <|
  if(!vl (PT f)) then
   some (((0:Int),(2:Int)))
  else
   gd ((AT c).isSome/\True)<|lt (vl (AT c)) fun a =>
   gd ((AS a b).isSome/\(Cz c g a (vl (AS a b)) e d i f).isSome/\True)<|lt ((vl (Cz c g a (vl (AS a b)) e d i f),vl (AS a b))) fun(j,_) =>
   some j
def k11:Ct:=c8 11 [.agg l5,.agg u4,.dat i64.sl,.dat y75.sl,.agg y65,.dat i64,.dat i64] (fun x=>Jg x.1 x.2.1 x.2.2.1 x.2.2.2.1 x.2.2.2.2.1 x.2.2.2.2.2.1 x.2.2.2.2.2.2.1) (fun r:Int×Int=>AV.tup [I r.1,I r.2]) (fun _=>())
theorem o11:Ok prog k11:=by
 refine c9 [.tmp 14,.tmp 15] func11 ?_;intro y ⟨d,f,_,_,e,_,_,_⟩ r H Q hn hr;have:=hz (tc o43 (tc Vi (tc Gr (tc o41 (tc WA tn)))));refine iA [2,3,5,6,7,8,11]<|vQ<|iD WA [2,3,5,6,7,8,11,16] H fun _ H=>iA [2,3,5,6,7,8,11,16,25]<|cD H (fun H=>iA [14,15]<|a8<|fR<|hr H) fun H=>vK<|fQ<|vQ<|iB [2,3,5,6,7,8,11,29] H fun H=>cD H (fun H=>iA [14,15]<|a8<|fR<|hr H) fun H=>vK<|fQ<|iD Gr [2,3,5,6,7,8,11,17] H fun c H=>qD (fun(a,b)=>Z [p 14 (I a.1),p 15 (I a.2)] [(37,A 4 Ty.bool b 0),(31,A 138 y138 c 0),(11,K 65 y65 e),(8,K 58 u4 f),(7,K 56 l5 d)]) H fun⟨a,b⟩ H =>
  a8<|hr H
def WB:List Int->Option (List Int)
 | a =>
 some a
def H0h(c:List Int)(d:Int×List Int->Option (List Int)):Int×List Int->Option (List Int)
 | (a,b) =>
 if(decide (a < (c.length:Int))) then
  gd (ix a c.length/\ix a b.length/\a.toNat<b.length/\True) <|
  gd (c7 (a+1)/\True) <|
  d ((a+1,b.set a.toNat (c.getD a.toNat 0)))
 else
  WB b
def C4(a:List Int):Option (List Int) :=
 gd ((0<=(a.length:Int)/\(a.length:Int)=(a.length:Int)/\(a.length:Int).toNat*8<=281474976710656/\(a.length:Int)<=9223372036854775807)/\True) <|
 lp (H0h a) ((0,List.replicate (a.length:Int).toNat 0))
def k14:Ct:=c8 14 [.dat i64.sl] (fun x=>C4 x.1) (fun r:List Int=>AV.ow 2 true i64 r) (fun _=>())
theorem N6:Ok prog k14:=by
 refine c9 [.tmp 2] func14 ?_;intro y ⟨c,_⟩ r H Q hn hr;refine iA [0]<|iB [0,3] H fun H=>jN r (fun(d:List Int)=>Z [p 3 (O 7)] [(7,A 2 i64 d 0)]) (WB) (fun d H=>?_) (fun _ e j k=>?_)
 ·refine iA [2]<|a8<|hr H
 refine iA [0,3,4]<|vB<|lX (fun((a,b):Int×List Int)=>Z [p 0 (L i64 c),p 3 (O 7),p 4 (I a)] [(7,A 2 i64 b 0)]) ((0,List.replicate (c.length:Int).toNat 0)) H fun _ i f g h ⟨a,b⟩ H=>vQ<|iA [0,3,4,11]<|cD H (fun H=>vK<|fQ<|vQ<|vB<|jB [0,3,4] H fun H=>fK<|fQ<|jB [0,3,4] H fun H=>f H) fun H=>vE<|fE<|g<|fX rfl<|e H
def Gt(a:Ab):Option w7 :=
 gd ((C4 a.1).isSome/\True)<|lt (vl (C4 a.1)) fun e =>
 gd ((C4 a.2.1).isSome/\True)<|lt (vl (C4 a.2.1)) fun b =>
 gd ((C4 a.2.2.1).isSome/\True)<|lt (vl (C4 a.2.2.1)) fun c =>
 gd ((C4 a.2.2.2).isSome/\True)<|lt (vl (C4 a.2.2.2)) fun d =>
 some (e,b,c,d)
def k98:Ct:=c8 98 [.agg y146] (fun x=>Gt x.1) (fun r:w7=>AV.agg [AV.ow 2 true i64 r.1,AV.ow 2 true i64 r.2.1,AV.ow 2 true i64 r.2.2.1,AV.ow 2 true i64 r.2.2.2]) (fun _=>())
theorem o98:Ok prog k98:=by
 refine c9 [.cell 2 172] func98 ?_;intro y ⟨_,_⟩ r H Q hn hr;have:=hz (tc N6 tn);refine iA [1,2]<|iA [1,2,3]<|iD N6 [1,2,3] H fun _ H=>iD N6 [1,2,3] H fun _ H=>iD N6 [1,2,3] H fun _ H=>iD N6 [2,3] H fun _ H=>iA [2]<|a8<|hr H
def N0j:Ct:=c8 98 [.agg y146] (fun x=>Gt x.1) (fun r=>frz ((fun r:w7=>AV.agg [AV.ow 2 true i64 r.1,AV.ow 2 true i64 r.2.1,AV.ow 2 true i64 r.2.2.1,AV.ow 2 true i64 r.2.2.2]) r)) (fun _=>())
theorem L0I:Ok prog N0j:=Gu o98
def WC:List w7->Option (List w7)
 | a =>
 some a
def G0U(b:List Ab)(e:Int×List w7->Option (List w7)):Int×List w7->Option (List w7)
 | (a,c) =>
 if(decide (a < (b.length:Int))) then
  gd (ix a b.length/\(Gt (b.getD a.toNat (a7 y146))).isSome/\ix a c.length/\a.toNat<c.length/\True)<|lt (vl (Gt (b.getD a.toNat (a7 y146)))) fun d =>
  gd (c7 (a+1)/\True) <|
  e (a+1,c.set a.toNat d)
 else
  WC c
def Jh(a:List Ab):Option (List w7) :=
 gd ((0<=(a.length:Int)/\(a.length:Int)=(a.length:Int)/\(a.length:Int).toNat*96<=281474976710656/\(a.length:Int)<=9223372036854775807)/\True) <|
 lp (G0U a) ((0,List.replicate (a.length:Int).toNat ([],[],[],[])))
def k47:Ct:=c8 47 [.dat y146.sl] (fun x=>Jh x.1) (fun r:List w7=>AV.ow 172 true y172 r) (fun _=>())
theorem WD:Ok prog k47:=by
 refine c9 [.tmp 2] func47 ?_;intro y ⟨b,_⟩ r H Q hn hr;have:=hz (tc L0I tn);refine iA [0]<|iB [0,3] H fun H=>jN r (fun(d:List w7)=>Z [p 3 (O 7)] [(7,A 172 y172 d 0)]) (WC) (fun d H=>?_) (fun _ f k l=>?_)
 ·refine iA [2]<|a8<|hr H
 refine iA [0,3,4]<|vB<|lX (fun((a,c):Int×List w7)=>Z [p 0 (L y146 b),p 3 (O 7),p 4 (I a)] [(7,A 172 y172 c 0)]) ((0,List.replicate (b.length:Int).toNat ([],[],[],[]))) H fun _ j g h i ⟨a,c⟩ H=>vQ<|iA [0,3,4,11]<|cD H (fun H=>vK<|fQ<|vQ<|vB<|zD (fun e=>Z [p 0 (L y146 b),p 3 (O 7),p 4 (I a)] [(7,A 172 y172 (c.set a.toNat e) 0)]) H fun e H=>fK<|fQ<|jB [0,3,4] H fun H=>g H) fun H=>vE<|fE<|h<|fX rfl<|f H
def Ji(a:Ac):Option D2 :=
 some a
def P0E:Ct:=c8 146 [.agg y221] (fun x=>Ji x.1) (fun r:D2=>AV.agg [S r.1,I r.2.1,I r.2.2]) (fun _=>())
theorem WG:Ok prog P0E:=by
 refine c9 [.cell 2 231] func146 ?_;intro y ⟨_,_⟩ r H Q hn hr;refine iA [1,2]<|iA [1,2,3]<|iA [1,2,3]<|iA [1,2,3]<|iA [2,3]<|iA [2]<|a8<|hr H
def WH:List D2->Option (List D2)
 | a =>
 some a
def G0H(b:List Ac)(e:Int×List D2->Option (List D2)):Int×List D2->Option (List D2)
 | (a,c) =>
 if(decide (a < (b.length:Int))) then
  gd (ix a b.length/\(Ji (b.getD a.toNat (a7 y221))).isSome/\ix a c.length/\a.toNat<c.length/\True)<|lt (vl (Ji (b.getD a.toNat (a7 y221)))) fun d =>
  gd (c7 (a+1)/\True) <|
  e (a+1,c.set a.toNat d)
 else
  WH c
def Jj(a:List Ac):Option (List D2) :=
 gd ((0<=(a.length:Int)/\(a.length:Int)=(a.length:Int)/\(a.length:Int).toNat*32<=281474976710656/\(a.length:Int)<=9223372036854775807)/\True)<|lt (List.replicate (a.length:Int).toNat (ByteArray.mk #[],(0:Int),(0:Int))) fun b =>
 lp (G0H a) (0,b)
def k97:Ct:=c8 97 [.dat y221.sl] (fun x=>Jj x.1) (fun r:List D2=>AV.ow 231 true y231 r) (fun _=>())
theorem WI:Ok prog k97:=by
 refine c9 [.tmp 2] func97 ?_;intro y ⟨d,_⟩ r H Q hn hr;have:=hz (tc WG tn);refine iA [0]<|qD (fun a=>Z [p 0 (L y221 d),p 3 (O 7)] [(7,A 231 y231 a 0)]) H fun a H=>jN r (fun(b:List D2)=>Z [p 3 (O 7)] [(7,A 231 y231 b 0)]) (WH) (fun b H=>?_) (fun _ f k l=>?_)
 ·refine iA [2]<|a8<|hr H
 refine iA [0,3,4]<|vB<|lX (fun((c,e):Int×List D2)=>Z [p 0 (L y221 d),p 3 (O 7),p 4 (I c)] [(7,A 231 y231 e 0)]) (0,a) H fun _ j g h i ⟨c,e⟩ H=>vQ<|iA [0,3,4,11]<|cD H (fun H=>vK<|fQ<|vQ<|vB<|jD WG [0,3,4] H fun _ H=>fK<|fQ<|jB [0,3,4] H fun H=>g H) fun H=>vE<|fE<|h<|fX rfl<|f H
def WJ:List ByteArray->Option (List ByteArray)
 | a =>
 some a
def G0I(c:List ByteArray)(d:Int×List ByteArray->Option (List ByteArray)):Int×List ByteArray->Option (List ByteArray)
 | (a,b) =>
 if(decide (a < (c.length:Int))) then
  gd (ix a c.length/\ix a b.length/\a.toNat<b.length/\True) <|
  gd (c7 (a+1)/\True) <|
  d ((a+1,b.set a.toNat (c.getD a.toNat (a7 Ty.str))))
 else
  WJ b
def Jk(a:List ByteArray):Option (List ByteArray) :=
 gd ((0<=(a.length:Int)/\(a.length:Int)=(a.length:Int)/\(a.length:Int).toNat*16<=281474976710656/\(a.length:Int)<=9223372036854775807)/\True) <|
 lp (G0I a) ((0,List.replicate (a.length:Int).toNat (ByteArray.mk #[])))
def k96:Ct:=c8 96 [.dat Ty.str.sl] (fun x=>Jk x.1) (fun r:List ByteArray=>AV.ow 9 true Ty.str r) (fun _=>())
theorem WK:Ok prog k96:=by
 refine c9 [.tmp 2] func96 ?_;intro y ⟨c,_⟩ r H Q hn hr;refine iA [0]<|iB [0,3] H fun H=>jN r (fun(d:List ByteArray)=>Z [p 3 (O 7)] [(7,A 9 Ty.str d 0)]) (WJ) (fun d H=>?_) (fun _ e j k=>?_)
 ·refine iA [2]<|a8<|hr H
 refine iA [0,3,4]<|vB<|lX (fun((a,b):Int×List ByteArray)=>Z [p 0 (L Ty.str c),p 3 (O 7),p 4 (I a)] [(7,A 9 Ty.str b 0)]) ((0,List.replicate (c.length:Int).toNat (ByteArray.mk #[]))) H fun _ i f g h ⟨a,b⟩ H=>vQ<|iA [0,3,4,11]<|cD H (fun H=>vK<|fQ<|vQ<|vB<|jB [0,3,4] H fun H=>fK<|fQ<|jB [0,3,4] H fun H=>f H) fun H=>vE<|fE<|g<|fX rfl<|e H
def Gv(a:Ad):Option B0 :=
 gd ((C4 a.2.2).isSome/\True)<|lt (vl (C4 a.2.2)) fun b =>
 some (a.1,a.2.1,b)
def P0F:Ct:=c8 145 [.agg y218] (fun x=>Gv x.1) (fun r:B0=>AV.agg [S r.1,I r.2.1,AV.ow 2 true i64 r.2.2]) (fun _=>())
theorem M0S:Ok prog P0F:=by
 refine c9 [.cell 2 155] func145 ?_;intro y ⟨_,_⟩ r H Q hn hr;have:=hz (tc N6 tn);refine iA [1,2]<|iA [1,2,3]<|iA [1,2,3]<|iA [1,2,3]<|iD N6 [2,3] H fun _ H=>iA [2]<|a8<|hr H
def I0i:Ct:=c8 145 [.agg y218] (fun x=>Gv x.1) (fun r=>frz ((fun r:B0=>AV.agg [S r.1,I r.2.1,AV.ow 2 true i64 r.2.2]) r)) (fun _=>())
theorem H0U:Ok prog I0i:=Gu M0S
def WL:List B0->Option (List B0)
 | a =>
 some a
def G0J(b:List Ad)(e:Int×List B0->Option (List B0)):Int×List B0->Option (List B0)
 | (a,c) =>
 if(decide (a < (b.length:Int))) then
  gd (ix a b.length/\(Gv (b.getD a.toNat (a7 y218))).isSome/\ix a c.length/\a.toNat<c.length/\True)<|lt (vl (Gv (b.getD a.toNat (a7 y218)))) fun d =>
  gd (c7 (a+1)/\True) <|
  e (a+1,c.set a.toNat d)
 else
  WL c
def Jl(a:List Ad):Option (List B0) :=
 gd ((0<=(a.length:Int)/\(a.length:Int)=(a.length:Int)/\(a.length:Int).toNat*48<=281474976710656/\(a.length:Int)<=9223372036854775807)/\True)<|lt (List.replicate (a.length:Int).toNat (ByteArray.mk #[],(0:Int),[])) fun b =>
 lp (G0J a) (0,b)
def k95:Ct:=c8 95 [.dat y218.sl] (fun x=>Jl x.1) (fun r:List B0=>AV.ow 155 true y155 r) (fun _=>())
theorem WM:Ok prog k95:=by
 refine c9 [.tmp 2] func95 ?_;intro y ⟨b,_⟩ r H Q hn hr;have:=hz (tc H0U tn);refine iA [0]<|qD (fun d=>Z [p 0 (L y218 b),p 3 (O 7)] [(7,A 155 y155 d 0)]) H fun d H=>jN r (fun(e:List B0)=>Z [p 3 (O 7)] [(7,A 155 y155 e 0)]) (WL) (fun e H=>?_) (fun _ g l m=>?_)
 ·refine iA [2]<|a8<|hr H
 refine iA [0,3,4]<|vB<|lX (fun((a,c):Int×List B0)=>Z [p 0 (L y218 b),p 3 (O 7),p 4 (I a)] [(7,A 155 y155 c 0)]) (0,d) H fun _ k h i j ⟨a,c⟩ H=>vQ<|iA [0,3,4,11]<|cD H (fun H=>vK<|fQ<|vQ<|vB<|zD (fun f=>Z [p 0 (L y218 b),p 3 (O 7),p 4 (I a)] [(7,A 155 y155 (c.set a.toNat f) 0)]) H fun f H=>fK<|fQ<|jB [0,3,4] H fun H=>h H) fun H=>vE<|fE<|i<|fX rfl<|g H
def Jm(a:Im):Option m7 :=
 gd ((Jl a.1).isSome/\True)<|lt (vl (Jl a.1)) fun c =>
 gd ((Jk a.2.1).isSome/\True)<|lt (vl (Jk a.2.1)) fun b =>
 gd ((Jj a.2.2).isSome/\True)<|lt (vl (Jj a.2.2)) fun d =>
 some (c,b,d)
def k46:Ct:=c8 46 [.agg BE] (fun x=>Jm x.1) (fun r:m7=>AV.agg [AV.ow 155 true y155 r.1,AV.ow 9 true Ty.str r.2.1,AV.ow 231 true y231 r.2.2]) (fun _=>())
theorem WN:Ok prog k46:=by
 refine c9 [.cell 2 53] func46 ?_;intro y ⟨_,_⟩ r H Q hn hr;have:=hz (tc WI (tc WK (tc WM tn)));refine iA [1,2]<|iA [1,2,3]<|iD WM [1,2,3] H fun _ H=>iD WK [1,2,3] H fun _ H=>iD WI [2,3] H fun _ H=>iA [2]<|a8<|hr H
def Gw(a:W9):Option m0 :=
 gd ((C4 a.1).isSome/\True)<|lt (vl (C4 a.1)) fun c =>
 gd ((C4 a.2.1).isSome/\True)<|lt (vl (C4 a.2.1)) fun b =>
 gd ((C4 a.2.2).isSome/\True)<|lt (vl (C4 a.2.2)) fun d =>
 some (c,b,d)
def N0J:Ct:=c8 271 [.agg y342] (fun x=>Gw x.1) (fun r:m0=>AV.agg [AV.ow 2 true i64 r.1,AV.ow 2 true i64 r.2.1,AV.ow 2 true i64 r.2.2]) (fun _=>())
theorem L0Y:Ok prog N0J:=by
 refine c9 [.cell 2 269] func271 ?_;intro y ⟨_,_⟩ r H Q hn hr;have:=hz (tc N6 tn);refine iA [1,2]<|iA [1,2,3]<|iD N6 [1,2,3] H fun _ H=>iD N6 [1,2,3] H fun _ H=>iD N6 [2,3] H fun _ H=>iA [2]<|a8<|hr H
def I0f:Ct:=c8 271 [.agg y342] (fun x=>Gw x.1) (fun r=>frz ((fun r:m0=>AV.agg [AV.ow 2 true i64 r.1,AV.ow 2 true i64 r.2.1,AV.ow 2 true i64 r.2.2]) r)) (fun _=>())
theorem H0F:Ok prog I0f:=Gu L0Y
def WO:List m0->Option (List m0)
 | a =>
 some a
def D0h(b:List W9)(e:Int×List m0->Option (List m0)):Int×List m0->Option (List m0)
 | (a,c) =>
 if(decide (a < (b.length:Int))) then
  gd (ix a b.length/\(Gw (b.getD a.toNat (a7 y342))).isSome/\ix a c.length/\a.toNat<c.length/\True)<|lt (vl (Gw (b.getD a.toNat (a7 y342)))) fun d =>
  gd (c7 (a+1)/\True) <|
  e (a+1,c.set a.toNat d)
 else
  WO c
def DE(a:List W9):Option (List m0) :=
 gd ((0<=(a.length:Int)/\(a.length:Int)=(a.length:Int)/\(a.length:Int).toNat*72<=281474976710656/\(a.length:Int)<=9223372036854775807)/\True) <|
 lp (D0h a) ((0,List.replicate (a.length:Int).toNat ([],[],[])))
def N0S:Ct:=c8 257 [.dat y342.sl] (fun x=>DE x.1) (fun r:List m0=>AV.ow 269 true y269 r) (fun _=>())
theorem Qb:Ok prog N0S:=by
 refine c9 [.tmp 2] func257 ?_;intro y ⟨b,_⟩ r H Q hn hr;have:=hz (tc H0F tn);refine iA [0]<|iB [0,3] H fun H=>jN r (fun(d:List m0)=>Z [p 3 (O 7)] [(7,A 269 y269 d 0)]) (WO) (fun d H=>?_) (fun _ f k l=>?_)
 ·refine iA [2]<|a8<|hr H
 refine iA [0,3,4]<|vB<|lX (fun((a,c):Int×List m0)=>Z [p 0 (L y342 b),p 3 (O 7),p 4 (I a)] [(7,A 269 y269 c 0)]) ((0,List.replicate (b.length:Int).toNat ([],[],[]))) H fun _ j g h i ⟨a,c⟩ H=>vQ<|iA [0,3,4,11]<|cD H (fun H=>vK<|fQ<|vQ<|vB<|zD (fun e=>Z [p 0 (L y342 b),p 3 (O 7),p 4 (I a)] [(7,A 269 y269 (c.set a.toNat e) 0)]) H fun e H=>fK<|fQ<|jB [0,3,4] H fun H=>g H) fun H=>vE<|fE<|h<|fX rfl<|f H
def Gx(a:Ae):Option r9 :=
 gd ((DE a.2.2.2.2.1).isSome/\True)<|lt (vl (DE a.2.2.2.2.1)) fun c =>
 gd ((DE a.2.2.2.2.2).isSome/\True)<|lt (vl (DE a.2.2.2.2.2)) fun b =>
 some (a.1,a.2.1,a.2.2.1,a.2.2.2.1,c,b)
def O0i:Ct:=c8 231 [.agg y300] (fun x=>Gx x.1) (fun r:r9=>AV.agg [I r.1,I r.2.1,I r.2.2.1,I r.2.2.2.1,AV.ow 269 true y269 r.2.2.2.2.1,AV.ow 269 true y269 r.2.2.2.2.2]) (fun _=>())
theorem M0m:Ok prog O0i:=by
 refine c9 [.cell 2 158] func231 ?_;intro y ⟨_,_⟩ r H Q hn hr;have:=hz (tc Qb tn);refine iA [1,2]<|iA [1,2,3]<|iA [1,2,3]<|iA [1,2,3]<|iA [1,2,3]<|iA [1,2,3]<|iD Qb [1,2,3] H fun _ H=>iD Qb [2,3] H fun _ H=>iA [2]<|a8<|hr H
def I0g:Ct:=c8 231 [.agg y300] (fun x=>Gx x.1) (fun r=>frz ((fun r:r9=>AV.agg [I r.1,I r.2.1,I r.2.2.1,I r.2.2.2.1,AV.ow 269 true y269 r.2.2.2.2.1,AV.ow 269 true y269 r.2.2.2.2.2]) r)) (fun _=>())
theorem H0L:Ok prog I0g:=Gu M0m
def WQ:List r9->Option (List r9)
 | a =>
 some a
def D0H(b:List Ae)(e:Int×List r9->Option (List r9)):Int×List r9->Option (List r9)
 | (a,c) =>
 if(decide (a < (b.length:Int))) then
  gd (ix a b.length/\(Gx (b.getD a.toNat (a7 y300))).isSome/\ix a c.length/\a.toNat<c.length/\True)<|lt (vl (Gx (b.getD a.toNat (a7 y300)))) fun d =>
  gd (c7 (a+1)/\True) <|
  e (a+1,c.set a.toNat d)
 else
  WQ c
def Jn(a:List Ae):Option (List r9) :=
 gd ((0<=(a.length:Int)/\(a.length:Int)=(a.length:Int)/\(a.length:Int).toNat*80<=281474976710656/\(a.length:Int)<=9223372036854775807)/\True)<|lt (List.replicate (a.length:Int).toNat ((0:Int),(0:Int),(0:Int),(0:Int),[],[])) fun b =>
 lp (D0H a) (0,b)
def O0N:Ct:=c8 195 [.dat y300.sl] (fun x=>Jn x.1) (fun r:List r9=>AV.ow 158 true y158 r) (fun _=>())
theorem WR:Ok prog O0N:=by
 refine c9 [.tmp 2] func195 ?_;intro y ⟨b,_⟩ r H Q hn hr;have:=hz (tc H0L tn);refine iA [0]<|qD (fun d=>Z [p 0 (L y300 b),p 3 (O 7)] [(7,A 158 y158 d 0)]) H fun d H=>jN r (fun(e:List r9)=>Z [p 3 (O 7)] [(7,A 158 y158 e 0)]) (WQ) (fun e H=>?_) (fun _ g l m=>?_)
 ·refine iA [2]<|a8<|hr H
 refine iA [0,3,4]<|vB<|lX (fun((a,c):Int×List r9)=>Z [p 0 (L y300 b),p 3 (O 7),p 4 (I a)] [(7,A 158 y158 c 0)]) (0,d) H fun _ k h i j ⟨a,c⟩ H=>vQ<|iA [0,3,4,11]<|cD H (fun H=>vK<|fQ<|vQ<|vB<|zD (fun f=>Z [p 0 (L y300 b),p 3 (O 7),p 4 (I a)] [(7,A 158 y158 (c.set a.toNat f) 0)]) H fun f H=>fK<|fQ<|jB [0,3,4] H fun H=>h H) fun H=>vE<|fE<|i<|fX rfl<|g H
def Jo(a:Af):Option A7 :=
 some a
def O0j:Ct:=c8 230 [.agg y296] (fun x=>Jo x.1) (fun r:A7=>AV.agg [S r.1,I r.2.1,I r.2.2.1,B r.2.2.2]) (fun _=>())
theorem WS:Ok prog O0j:=by
 refine c9 [.cell 2 293] func230 ?_;intro y ⟨_,_⟩ r H Q hn hr;refine iA [1,2]<|iA [1,2,3]<|iA [1,2,3]<|iA [1,2,3]<|iA [1,2,3]<|iA [2,3]<|iA [2]<|a8<|hr H
def WT:List A7->Option (List A7)
 | a =>
 some a
def D0J(b:List Af)(e:Int×List A7->Option (List A7)):Int×List A7->Option (List A7)
 | (a,c) =>
 if(decide (a < (b.length:Int))) then
  gd (ix a b.length/\(Jo (b.getD a.toNat (a7 y296))).isSome/\ix a c.length/\a.toNat<c.length/\True)<|lt (vl (Jo (b.getD a.toNat (a7 y296)))) fun d =>
  gd (c7 (a+1)/\True) <|
  e (a+1,c.set a.toNat d)
 else
  WT c
def Jp(a:List Af):Option (List A7) :=
 gd ((0<=(a.length:Int)/\(a.length:Int)=(a.length:Int)/\(a.length:Int).toNat*40<=281474976710656/\(a.length:Int)<=9223372036854775807)/\True)<|lt (List.replicate (a.length:Int).toNat (ByteArray.mk #[],(0:Int),(0:Int),false)) fun b =>
 lp (D0J a) (0,b)
def O0O:Ct:=c8 194 [.dat y296.sl] (fun x=>Jp x.1) (fun r:List A7=>AV.ow 293 true y293 r) (fun _=>())
theorem WU:Ok prog O0O:=by
 refine c9 [.tmp 2] func194 ?_;intro y ⟨d,_⟩ r H Q hn hr;have:=hz (tc WS tn);refine iA [0]<|qD (fun a=>Z [p 0 (L y296 d),p 3 (O 7)] [(7,A 293 y293 a 0)]) H fun a H=>jN r (fun(b:List A7)=>Z [p 3 (O 7)] [(7,A 293 y293 b 0)]) (WT) (fun b H=>?_) (fun _ f k l=>?_)
 ·refine iA [2]<|a8<|hr H
 refine iA [0,3,4]<|vB<|lX (fun((c,e):Int×List A7)=>Z [p 0 (L y296 d),p 3 (O 7),p 4 (I c)] [(7,A 293 y293 e 0)]) (0,a) H fun _ j g h i ⟨c,e⟩ H=>vQ<|iA [0,3,4,11]<|cD H (fun H=>vK<|fQ<|vQ<|vB<|jD WS [0,3,4] H fun _ H=>fK<|fQ<|jB [0,3,4] H fun H=>g H) fun H=>vE<|fE<|h<|fX rfl<|f H
def Gy(a:P2):Option l6 :=
 gd ((Jp a.2.2.1).isSome/\True)<|lt (vl (Jp a.2.2.1)) fun c =>
 gd ((Jn a.2.2.2.1).isSome/\True)<|lt (vl (Jn a.2.2.2.1)) fun b =>
 gd ((C4 a.2.2.2.2.1).isSome/\True)<|lt (vl (C4 a.2.2.2.2.1)) fun d =>
 some (a.1,a.2.1,c,b,d,a.2.2.2.2.2)
def P0G:Ct:=c8 144 [.agg y216] (fun x=>Gy x.1) (fun r:l6=>AV.agg [S r.1,I r.2.1,AV.ow 293 true y293 r.2.2.1,AV.ow 158 true y158 r.2.2.2.1,AV.ow 2 true i64 r.2.2.2.2.1,I r.2.2.2.2.2.1,I r.2.2.2.2.2.2]) (fun _=>())
theorem M0T:Ok prog P0G:=by
 refine c9 [.cell 2 153] func144 ?_;intro y ⟨_,_⟩ r H Q hn hr;have:=hz (tc N6 (tc WR (tc WU tn)));refine iA [1,2]<|iA [1,2,3]<|iA [1,2,3]<|iA [1,2,3]<|iD WU [1,2,3] H fun _ H=>iD WR [1,2,3] H fun _ H=>iD N6 [1,2,3] H fun _ H=>iA [1,2,3]<|iA [2,3]<|iA [2] ?_
 exact a8<|hr H
def I0j:Ct:=c8 144 [.agg y216] (fun x=>Gy x.1) (fun r=>frz ((fun r:l6=>AV.agg [S r.1,I r.2.1,AV.ow 293 true y293 r.2.2.1,AV.ow 158 true y158 r.2.2.2.1,AV.ow 2 true i64 r.2.2.2.2.1,I r.2.2.2.2.2.1,I r.2.2.2.2.2.2]) r)) (fun _=>())
theorem H0V:Ok prog I0j:=Gu M0T
def WV:List l6->Option (List l6)
 | a =>
 some a
def G0K(b:List P2)(e:Int×List l6->Option (List l6)):Int×List l6->Option (List l6)
 | (a,c) =>
 if(decide (a < (b.length:Int))) then
  gd (ix a b.length/\(Gy (b.getD a.toNat (a7 y216))).isSome/\ix a c.length/\a.toNat<c.length/\True)<|lt (vl (Gy (b.getD a.toNat (a7 y216)))) fun d =>
  gd (c7 (a+1)/\True) <|
  e (a+1,c.set a.toNat d)
 else
  WV c
def Jq(a:List P2):Option (List l6) :=
 gd ((0<=(a.length:Int)/\(a.length:Int)=(a.length:Int)/\(a.length:Int).toNat*112<=281474976710656/\(a.length:Int)<=9223372036854775807)/\True)<|lt (List.replicate (a.length:Int).toNat (ByteArray.mk #[],(0:Int),[],[],[],(0:Int),(0:Int))) fun b =>
 lp (G0K a) (0,b)
def k94:Ct:=c8 94 [.dat y216.sl] (fun x=>Jq x.1) (fun r:List l6=>AV.ow 153 true y153 r) (fun _=>())
theorem WW:Ok prog k94:=by
 refine c9 [.tmp 2] func94 ?_;intro y ⟨b,_⟩ r H Q hn hr;have:=hz (tc H0V tn);refine iA [0]<|qD (fun d=>Z [p 0 (L y216 b),p 3 (O 7)] [(7,A 153 y153 d 0)]) H fun d H=>jN r (fun(e:List l6)=>Z [p 3 (O 7)] [(7,A 153 y153 e 0)]) (WV) (fun e H=>?_) (fun _ g l m=>?_)
 ·refine iA [2]<|a8<|hr H
 refine iA [0,3,4]<|vB<|lX (fun((a,c):Int×List l6)=>Z [p 0 (L y216 b),p 3 (O 7),p 4 (I a)] [(7,A 153 y153 c 0)]) (0,d) H fun _ k h i j ⟨a,c⟩ H=>vQ<|iA [0,3,4,11]<|cD H (fun H=>vK<|fQ<|vQ<|vB<|zD (fun f=>Z [p 0 (L y216 b),p 3 (O 7),p 4 (I a)] [(7,A 153 y153 (c.set a.toNat f) 0)]) H fun f H=>fK<|fQ<|jB [0,3,4] H fun H=>h H) fun H=>vE<|fE<|i<|fX rfl<|g H
def Jr(a:List P2):Option (List l6) :=
 gd ((Jq a).isSome/\True)<|lt (vl (Jq a)) fun b =>
 some b
def AW:Ct:=c8 45 [.agg y216.sl] (fun x=>Jr x.1) (fun r:List l6=>AV.agg [AV.ow 153 true y153 r]) (fun _=>())
theorem WX:Ok prog AW:=by
 refine c9 [.cell 2 49] func45 ?_;intro y ⟨_,_⟩ r H Q hn hr;have:=hz (tc WW tn);refine iA [1,2]<|iA [1,2,3]<|iD WW [2,3] H fun _ H=>iA [2]<|a8<|hr H
def X6(a:Gf):Option j1 :=
 gd ((Jr a.1).isSome/\True)<|lt (vl (Jr a.1)) fun c =>
 gd ((Jm a.2.1).isSome/\True)<|lt (vl (Jm a.2.1)) fun b =>
 gd ((Jh a.2.2).isSome/\True)<|lt (vl (Jh a.2.2)) fun d =>
 some (c,b,d)
def k12:Ct:=c8 12 [.agg R6] (fun x=>X6 x.1) (fun r:j1=>AV.agg [AV.ow 153 true y153 r.1,AV.ow 155 true y155 r.2.1.1,AV.ow 9 true Ty.str r.2.1.2.1,AV.ow 231 true y231 r.2.1.2.2,AV.ow 172 true y172 r.2.2]) (fun _=>())
theorem Qc:Ok prog k12:=by
 refine c9 [.cell 2 56] func12 ?_;intro y ⟨_,_⟩ r H Q hn hr;have:=hz (tc WD (tc WN (tc WX tn)));refine iA [1,2]<|iA [1,2,3]<|iD WX [1,2,3] H fun _ H=>iD WN [1,2,3] H fun _ H=>iD WD [2,3] H fun _ H=>iA [2]<|a8<|hr H
def BL(a:Gg):Option q9 :=
 some a
def k13:Ct:=c8 13 [.agg U1] (fun x=>BL x.1) (fun r:q9=>AV.agg [S r.1,I r.2.1,I r.2.2.1,I r.2.2.2.1,I r.2.2.2.2]) (fun _=>())
theorem o13:Ok prog k13:=by
 refine c9 [.cell 2 58] func13 ?_;intro y ⟨_,_⟩ r H Q hn hr;refine iA [1,2]<|iA [1,2,3]<|iA [1,2,3]<|iA [1,2,3]<|iA [1,2,3]<|iA [1,2,3]<|iA [2,3]<|iA [2]<|a8<|hr H
def BM(a:Ag):Option s7 :=
 some a
def k99:Ct:=c8 99 [.agg y104] (fun x=>BM x.1) (fun r:s7=>AV.agg [I r.1,I r.2]) (fun _=>())
theorem Js:Ok prog k99:=by
 refine c9 [.cell 2 73] func99 ?_;intro y ⟨_,_⟩ r H Q hn hr;refine iA [1,2]<|iA [1,2,3]<|iA [1,2,3]<|iA [2,3]<|iA [2]<|a8<|hr H
def Jt(a:BF):Option r4 :=
 gd ((BM a.2.1).isSome/\True)<|lt (vl (BM a.2.1)) fun c =>
 gd ((BM a.2.2).isSome/\True)<|lt (vl (BM a.2.2)) fun b =>
 some (a.1,c,b)
def k48:Ct:=c8 48 [.agg y106] (fun x=>Jt x.1) (fun r:r4=>AV.agg [I r.1,I r.2.1.1,I r.2.1.2,I r.2.2.1,I r.2.2.2]) (fun _=>())
theorem WY:Ok prog k48:=by
 refine c9 [.cell 2 75] func48 ?_;intro y ⟨_,_⟩ r H Q hn hr;have:=hz (tc Js tn);refine iA [1,2]<|iA [1,2,3]<|iA [1,2,3]<|iD Js [1,2,3] H fun _ H=>iD Js [2,3] H fun _ H=>iA [2]<|a8<|hr H
def WZ:List r4->Option (List r4)
 | a =>
 some a
def H0g(b:List BF)(e:Int×List r4->Option (List r4)):Int×List r4->Option (List r4)
 | (a,c) =>
 if(decide (a < (b.length:Int))) then
  gd (ix a b.length/\(Jt (b.getD a.toNat (a7 y106))).isSome/\ix a c.length/\a.toNat<c.length/\True)<|lt (vl (Jt (b.getD a.toNat (a7 y106)))) fun d =>
  gd (c7 (a+1)/\True) <|
  e (a+1,c.set a.toNat d)
 else
  WZ c
def X7(a:List BF):Option (List r4) :=
 gd ((0<=(a.length:Int)/\(a.length:Int)=(a.length:Int)/\(a.length:Int).toNat*40<=281474976710656/\(a.length:Int)<=9223372036854775807)/\True)<|lt (List.replicate (a.length:Int).toNat ((0:Int),((0:Int),(0:Int)),(0:Int),(0:Int))) fun b =>
 lp (H0g a) (0,b)
def k15:Ct:=c8 15 [.dat y106.sl] (fun x=>X7 x.1) (fun r:List r4=>AV.ow 75 true y75 r) (fun _=>())
theorem Qd:Ok prog k15:=by
 refine c9 [.tmp 2] func15 ?_;intro y ⟨d,_⟩ r H Q hn hr;have:=hz (tc WY tn);refine iA [0]<|qD (fun a=>Z [p 0 (L y106 d),p 3 (O 7)] [(7,A 75 y75 a 0)]) H fun a H=>jN r (fun(b:List r4)=>Z [p 3 (O 7)] [(7,A 75 y75 b 0)]) (WZ) (fun b H=>?_) (fun _ f k l=>?_)
 ·refine iA [2]<|a8<|hr H
 refine iA [0,3,4]<|vB<|lX (fun((c,e):Int×List r4)=>Z [p 0 (L y106 d),p 3 (O 7),p 4 (I c)] [(7,A 75 y75 e 0)]) (0,a) H fun _ j g h i ⟨c,e⟩ H=>vQ<|iA [0,3,4,11]<|cD H (fun H=>vK<|fQ<|vQ<|vB<|jD WY [0,3,4] H fun _ H=>fK<|fQ<|jB [0,3,4] H fun H=>g H) fun H=>vE<|fE<|h<|fX rfl<|f H
def Xa:List s7->Option (List s7)
 | a =>
 some a
def G0S(b:List Ag)(e:Int×List s7->Option (List s7)):Int×List s7->Option (List s7)
 | (a,c) =>
 if(decide (a < (b.length:Int))) then
  gd (ix a b.length/\(BM (b.getD a.toNat (a7 y104))).isSome/\ix a c.length/\a.toNat<c.length/\True)<|lt (vl (BM (b.getD a.toNat (a7 y104)))) fun d =>
  gd (c7 (a+1)/\True) <|
  e (a+1,c.set a.toNat d)
 else
  Xa c
def DG(a:List Ag):Option (List s7) :=
 gd ((0<=(a.length:Int)/\(a.length:Int)=(a.length:Int)/\(a.length:Int).toNat*16<=281474976710656/\(a.length:Int)<=9223372036854775807)/\True)<|lt (List.replicate (a.length:Int).toNat ((0:Int),(0:Int))) fun b =>
 lp (G0S a) (0,b)
def k50:Ct:=c8 50 [.dat y104.sl] (fun x=>DG x.1) (fun r:List s7=>AV.ow 73 true y73 r) (fun _=>())
theorem Qe:Ok prog k50:=by
 refine c9 [.tmp 2] func50 ?_;intro y ⟨d,_⟩ r H Q hn hr;have:=hz (tc Js tn);refine iA [0]<|qD (fun a=>Z [p 0 (L y104 d),p 3 (O 7)] [(7,A 73 y73 a 0)]) H fun a H=>jN r (fun(b:List s7)=>Z [p 3 (O 7)] [(7,A 73 y73 b 0)]) (Xa) (fun b H=>?_) (fun _ f k l=>?_)
 ·refine iA [2]<|a8<|hr H
 refine iA [0,3,4]<|vB<|lX (fun((c,e):Int×List s7)=>Z [p 0 (L y104 d),p 3 (O 7),p 4 (I c)] [(7,A 73 y73 e 0)]) (0,a) H fun _ j g h i ⟨c,e⟩ H=>vQ<|iA [0,3,4,11]<|cD H (fun H=>vK<|fQ<|vQ<|vB<|jD Js [0,3,4] H fun _ H=>fK<|fQ<|jB [0,3,4] H fun H=>g H) fun H=>vE<|fE<|h<|fX rfl<|f H
def Xb:List Bool->Option (List Bool)
 | a =>
 some a
def G0T(c:List Bool)(d:Int×List Bool->Option (List Bool)):Int×List Bool->Option (List Bool)
 | (a,b) =>
 if(decide (a < (c.length:Int))) then
  gd (ix a c.length/\ix a b.length/\a.toNat<b.length/\True) <|
  gd (c7 (a+1)/\True) <|
  d ((a+1,b.set a.toNat (c.getD a.toNat false)))
 else
  Xb b
def Ju(a:List Bool):Option (List Bool) :=
 gd ((0<=(a.length:Int)/\(a.length:Int)=(a.length:Int)/\(a.length:Int).toNat*1<=281474976710656/\(a.length:Int)<=9223372036854775807)/\True) <|
 lp (G0T a) ((0,List.replicate (a.length:Int).toNat false))
def k49:Ct:=c8 49 [.dat Ty.bool.sl] (fun x=>Ju x.1) (fun r:List Bool=>AV.ow 4 true Ty.bool r) (fun _=>())
theorem Xc:Ok prog k49:=by
 refine c9 [.tmp 2] func49 ?_;intro y ⟨c,_⟩ r H Q hn hr;refine iA [0]<|iB [0,3] H fun H=>jN r (fun(d:List Bool)=>Z [p 3 (O 7)] [(7,A 4 Ty.bool d 0)]) (Xb) (fun d H=>?_) (fun _ e j k=>?_)
 ·refine iA [2]<|a8<|hr H
 refine iA [0,3,4]<|vB<|lX (fun((a,b):Int×List Bool)=>Z [p 0 (L Ty.bool c),p 3 (O 7),p 4 (I a)] [(7,A 4 Ty.bool b 0)]) ((0,List.replicate (c.length:Int).toNat false)) H fun _ i f g h ⟨a,b⟩ H=>vQ<|iA [0,3,4,11]<|cD H (fun H=>vK<|fQ<|vQ<|vB<|jB [0,3,4] H fun H=>fK<|fQ<|jB [0,3,4] H fun H=>f H) fun H=>vE<|fE<|g<|fX rfl<|e H
def u16(a:Gi):Option A3 :=
 gd ((Ju a.1).isSome/\True)<|lt (vl (Ju a.1)) fun c =>
 gd ((DG a.2.1).isSome/\True)<|lt (vl (DG a.2.1)) fun b =>
 gd ((DG a.2.2).isSome/\True)<|lt (vl (DG a.2.2)) fun d =>
 some (c,b,d)
def k16:Ct:=c8 16 [.agg X0] (fun x=>u16 x.1) (fun r:A3=>AV.agg [AV.ow 4 true Ty.bool r.1,AV.ow 73 true y73 r.2.1,AV.ow 73 true y73 r.2.2]) (fun _=>())
theorem Qf:Ok prog k16:=by
 refine c9 [.cell 2 65] func16 ?_;intro y ⟨_,_⟩ r H Q hn hr;have:=hz (tc Qe (tc Xc tn));refine iA [1,2]<|iA [1,2,3]<|iD Xc [1,2,3] H fun _ H=>iD Qe [1,2,3] H fun _ H=>iD Qe [2,3] H fun _ H=>iA [2]<|a8<|hr H
def Xe:Unit->Option Bool
 | _ =>
 some true
def H0c(b:List Int)(c:List Int)(d:Int->Option Bool):Int->Option Bool
 | a =>
 if(decide (a < (b.length:Int))) then
  gd (ix a b.length/\ix a c.length/\True) <|
  if(b.getD a.toNat 0 != c.getD a.toNat 0) then
   some false
  else
   gd (c7 (a+1)/\True) <|
   d (a+1)
 else
  Xe ()
def G7(a:List Int)(b:List Int):Option Bool :=
 if((a.length:Int) != (b.length:Int)) then
  some false
 else
  lp (H0c a b) 0
def k19:Ct:=c8 19 [.dat i64.sl,.dat i64.sl] (fun x=>G7 x.1 x.2.1) (fun r:Bool=>B r) (fun _=>())
theorem Jv:Ok prog k19:=by
 refine c9 [.tmp 4] func19 ?_;intro y ⟨d,h,_⟩ r H Q hn hr;refine iA [0,1]<|vQ<|iA [0,1,10]<|cD H (fun H=>iA [4]<|a8<|fR<|hr H) fun H=>vK<|fQ<|jN r (fun(_:Unit)=>Z [] []) (Xe) (fun _ H=>?_) (fun _ c j f=>?_)
 ·refine iA [4]<|a8<|hr H
 refine iA [0,1,5]<|vB<|lX (fun(a:Int)=>Z [p 0 (L i64 d),p 1 (L i64 h),p 5 (I a)] []) 0 H fun _ i e g b a H=>vQ<|iA [0,1,5,14]<|cD H (fun H=>?_) (fun H=>?_)
 ·refine vK<|fQ<|vQ<|vB<|iB [0,1,5,25] H fun H=>cD H (fun H=>iA [4]<|a8<|h9<|fR<|b<|h9<|f<|hr H) fun H=>vK<|fK<|fQ<|jB [0,1,5] H fun H=>e H
 exact vE<|fE<|g<|fX rfl<|c H
def Jw(a:w7)(b:w7):Option Bool :=
 gd ((G7 a.1 b.1).isSome/\True) <|
 if(!vl (G7 a.1 b.1)) then
  some false
 else
  gd ((G7 a.2.1 b.2.1).isSome/\True) <|
  if(!vl (G7 a.2.1 b.2.1)) then
   some false
  else
   gd ((G7 a.2.2.1 b.2.2.1).isSome/\True) <|
   if(!vl (G7 a.2.2.1 b.2.2.1)) then
    some false
   else
    gd ((G7 a.2.2.2 b.2.2.2).isSome/\True) <|
    if(!vl (G7 a.2.2.2 b.2.2.2)) then
     some false
    else
     some true
def P0Y:Ct:=c8 117 [.agg y172,.agg y172] (fun x=>Jw x.1 x.2.1) (fun r:Bool=>B r) (fun _=>())
theorem M0Y:Ok prog P0Y:=by
 refine c9 [.tmp 4] func117 ?_;intro y ⟨_,_,_⟩ r H Q hn hr;have:=hz (tc Jv tn);refine iA [2,3]<|vQ<|iB [2,3,10] H fun H=>cD H (fun H=>iA [4]<|a8<|fR<|hr H) fun H=>vK<|fQ<|vQ<|iB [2,3,16] H fun H=>cD H (fun H=>iA [4]<|a8<|fR<|hr H) fun H=>vK<|fQ<|vQ<|iB [2,3,22] H fun H=>cD H (fun H=>iA [4]<|a8<|fR<|hr H) fun H=>vK<|fQ<|vQ<|iB [28] H fun H=>cD H (fun H=>iA [4]<|a8<|fR<|hr H) fun H=>vK<|fQ<|iA [4]<|a8<|hr H
def Xf:Unit->Option Bool
 | _ =>
 some true
def G0R(b:List w7)(c:List w7)(d:Int->Option Bool):Int->Option Bool
 | a =>
 if(decide (a < (b.length:Int))) then
  gd (ix a b.length/\ix a c.length/\(Jw (b.getD a.toNat (a7 y172)) (c.getD a.toNat (a7 y172))).isSome/\True) <|
  if(!vl (Jw (b.getD a.toNat (a7 y172)) (c.getD a.toNat (a7 y172)))) then
   some false
  else
   gd (c7 (a+1)/\True) <|
   d (a+1)
 else
  Xf ()
def Jx(a:List w7)(b:List w7):Option Bool :=
 if((a.length:Int) != (b.length:Int)) then
  some false
 else
  lp (G0R a b) 0
def k56:Ct:=c8 56 [.dat y172.sl,.dat y172.sl] (fun x=>Jx x.1 x.2.1) (fun r:Bool=>B r) (fun _=>())
theorem o56:Ok prog k56:=by
 refine c9 [.tmp 4] func56 ?_;intro y ⟨d,h,_⟩ r H Q hn hr;have:=hz (tc M0Y tn);refine iA [0,1]<|vQ<|iA [0,1,10]<|cD H (fun H=>iA [4]<|a8<|fR<|hr H) fun H=>vK<|fQ<|jN r (fun(_:Unit)=>Z [] []) (Xf) (fun _ H=>?_) (fun _ c j f=>?_)
 ·refine iA [4]<|a8<|hr H
 refine iA [0,1,5]<|vB<|lX (fun(a:Int)=>Z [p 0 (L y172 d),p 1 (L y172 h),p 5 (I a)] []) 0 H fun _ i e g b a H=>vQ<|iA [0,1,5,14]<|cD H (fun H=>?_) (fun H=>?_)
 ·refine vK<|fQ<|vQ<|vB<|iB [0,1,5,26] H fun H=>cD H (fun H=>iA [4]<|a8<|h9<|fR<|b<|h9<|f<|hr H) fun H=>vK<|fK<|fQ<|jB [0,1,5] H fun H=>e H
 exact vE<|fE<|g<|fX rfl<|c H
def Jy(a:D2)(b:D2):Option Bool :=
 if(!decide (a.1=b.1)) then
  some false
 else
  if(a.2.1 != b.2.1) then
   some false
  else
   if(a.2.2 != b.2.2) then
    some false
   else
    some true
def P0e:Ct:=c8 174 [.agg y231,.agg y231] (fun x=>Jy x.1 x.2.1) (fun r:Bool=>B r) (fun _=>())
theorem M0G:Ok prog P0e:=by
 refine c9 [.tmp 4] func174 ?_;intro y ⟨_,_,_⟩ r H Q hn hr;refine iA [2,3]<|vQ<|iA [2,3,9]<|cD H (fun H=>iA [4]<|a8<|fR<|hr H) fun H=>vK<|fQ<|vQ<|iA [2,3,14]<|cD H (fun H=>iA [4]<|a8<|fR<|hr H) fun H=>vK<|fQ<|vQ<|iA [19]<|cD H (fun H=>iA [4]<|a8<|fR<|hr H) fun H=>vK<|fQ<|iA [4]<|a8<|hr H
def Xg:Unit->Option Bool
 | _ =>
 some true
def E0i(b:List D2)(c:List D2)(d:Int->Option Bool):Int->Option Bool
 | a =>
 if(decide (a < (b.length:Int))) then
  gd (ix a b.length/\ix a c.length/\(Jy (b.getD a.toNat (a7 y231)) (c.getD a.toNat (a7 y231))).isSome/\True) <|
  if(!vl (Jy (b.getD a.toNat (a7 y231)) (c.getD a.toNat (a7 y231)))) then
   some false
  else
   gd (c7 (a+1)/\True) <|
   d (a+1)
 else
  Xg ()
def Jz(a:List D2)(b:List D2):Option Bool :=
 if((a.length:Int) != (b.length:Int)) then
  some false
 else
  lp (E0i a b) 0
def P0Z:Ct:=c8 116 [.dat y231.sl,.dat y231.sl] (fun x=>Jz x.1 x.2.1) (fun r:Bool=>B r) (fun _=>())
theorem M0Z:Ok prog P0Z:=by
 refine c9 [.tmp 4] func116 ?_;intro y ⟨d,h,_⟩ r H Q hn hr;have:=hz (tc M0G tn);refine iA [0,1]<|vQ<|iA [0,1,10]<|cD H (fun H=>iA [4]<|a8<|fR<|hr H) fun H=>vK<|fQ<|jN r (fun(_:Unit)=>Z [] []) (Xg) (fun _ H=>?_) (fun _ c j f=>?_)
 ·refine iA [4]<|a8<|hr H
 refine iA [0,1,5]<|vB<|lX (fun(a:Int)=>Z [p 0 (L y231 d),p 1 (L y231 h),p 5 (I a)] []) 0 H fun _ i e g b a H=>vQ<|iA [0,1,5,14]<|cD H (fun H=>?_) (fun H=>?_)
 ·refine vK<|fQ<|vQ<|vB<|iB [0,1,5,26] H fun H=>cD H (fun H=>iA [4]<|a8<|h9<|fR<|b<|h9<|f<|hr H) fun H=>vK<|fK<|fQ<|jB [0,1,5] H fun H=>e H
 exact vE<|fE<|g<|fX rfl<|c H
def Xh:Unit->Option Bool
 | _ =>
 some true
def E0k(b:List ByteArray)(c:List ByteArray)(d:Int->Option Bool):Int->Option Bool
 | a =>
 if(decide (a < (b.length:Int))) then
  gd (ix a b.length/\ix a c.length/\True) <|
  if(!decide (b.getD a.toNat (a7 Ty.str)=c.getD a.toNat (a7 Ty.str))) then
   some false
  else
   gd (c7 (a+1)/\True) <|
   d (a+1)
 else
  Xh ()
def JA(a:List ByteArray)(b:List ByteArray):Option Bool :=
 if((a.length:Int) != (b.length:Int)) then
  some false
 else
  lp (E0k a b) 0
def Q0a:Ct:=c8 115 [.dat Ty.str.sl,.dat Ty.str.sl] (fun x=>JA x.1 x.2.1) (fun r:Bool=>B r) (fun _=>())
theorem N0a:Ok prog Q0a:=by
 refine c9 [.tmp 4] func115 ?_;intro y ⟨d,h,_⟩ r H Q hn hr;refine iA [0,1]<|vQ<|iA [0,1,10]<|cD H (fun H=>iA [4]<|a8<|fR<|hr H) fun H=>vK<|fQ<|jN r (fun(_:Unit)=>Z [] []) (Xh) (fun _ H=>?_) (fun _ c j f=>?_)
 ·refine iA [4]<|a8<|hr H
 refine iA [0,1,5]<|vB<|lX (fun(a:Int)=>Z [p 0 (L Ty.str d),p 1 (L Ty.str h),p 5 (I a)] []) 0 H fun _ i e g b a H=>vQ<|iA [0,1,5,14]<|cD H (fun H=>?_) (fun H=>?_)
 ·refine vK<|fQ<|vQ<|vB<|iB [0,1,5,25] H fun H=>cD H (fun H=>iA [4]<|a8<|h9<|fR<|b<|h9<|f<|hr H) fun H=>vK<|fK<|fQ<|jB [0,1,5] H fun H=>e H
 exact vE<|fE<|g<|fX rfl<|c H
end Go.Proofs.YtechodbafnmddaaGreatDoor
end
