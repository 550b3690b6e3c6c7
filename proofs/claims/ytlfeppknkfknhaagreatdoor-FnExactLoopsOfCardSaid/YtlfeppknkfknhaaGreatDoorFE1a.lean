/- Functions of this program as plain functions of data, and that they are so: printed by program. -/
import Derived.Test.YtlfeppknkfknhaaGreatDoorXD
import Derived.Test.YtlfeppknkfknhaaGreatDoorXF
import Derived.Test.YtlfeppknkfknhaaGreatDoorTY
import Derived.Test.YtlfeppknkfknhaaGreatDoorLB
section
namespace Go.Proofs.YtlfeppknkfknhaaGreatDoor
open Go Go.Proofs Go.Proofs.Sv Go.Proofs.Xv Go.Proofs.Xl Go.RowKit
open Tryz
instance:HG Tryz.prog Γ:=⟨tok⟩
abbrev bx(T:TypeId)(c:List AV):Ob:=.box T c
abbrev b8:Ty:=.int .u8
abbrev Q0(x:den (.sl y92)×(den (.sl y94)×den (.sl Ty.str)×den (.sl y149))×den (.sl y111)):List AV:=[L y92 x.1,L y94 x.2.1.1,L Ty.str x.2.1.2.1,L y149 x.2.1.2.2,L y111 x.2.2,AV.os 18 0,AV.os 38 0,nil,nil,nil]
abbrev Q1(x:den (.sl y92)×(den (.sl y94)×den (.sl Ty.str)×den (.sl y149))×den (.sl y111)):List AV:=[L y92 x.1,L y94 x.2.1.1,L Ty.str x.2.1.2.1,L y149 x.2.1.2.2,L y111 x.2.2,AV.os 18 0,AV.os 38 0,AV.os 102 0,AV.os 114 0,nil]
abbrev W0(y0:List (den y156))(y1:den y47)(y2:List (den y148)):List (Nat×Ob):=[(18,A 156 y156 y0 0),(1,K 47 y47 y1),(38,A 148 y148 y2 0)]
abbrev G1(t:List (Nat×Sl)):List (Nat×Sl):=p 1 (R 1) :: p 3 (R 20) :: p 7 (O 50) :: t
abbrev G2(y0:Int)(y1:List (den y148))(y2:List (den Ty.bool))(y3:Int)(t:List (Nat×Sl)):List (Nat×Sl):=p 0 (J y0) :: p 1 (L y148 y1) :: p 2 (L Ty.bool y2) :: p 7 (O 14) :: p 8 (O 16) :: p 9 (I y3) :: t
abbrev G3(y0:Int)(t:List (Nat×Sl)):List (Nat×Sl):=p 1 (R 1) :: p 3 (I y0) :: t
abbrev W4(y0:den y158.pt)(y1:List (den Ty.bool)):List (Nat×Ob):=[(17,bx 119 [D y158.pt y0,AV.os 15 0]),(15,A 4 Ty.bool y1 0)]
abbrev W5(y0:den y44)(y1:List (den y92)):List (Nat×Ob):=[(3,K 44 y44 y0),(2,bx 40 [L y92 y1])]
abbrev G6(y0:Int)(y1:Int)(y2:Int)(y3:Int)(t:List (Nat×Sl)):List (Nat×Sl):=p 0 (O 500000) :: p 2 (J y0) :: p 3 (J y1) :: p 4 (J y2) :: p 6 (R 6) :: p 11 (I y3) :: t
abbrev G7(t:List (Nat×Sl)):List (Nat×Sl):=p 2 (R 2) :: p 3 (R 3) :: t
abbrev G8(t:List (Nat×Sl)):List (Nat×Sl):=p 1 (R 1) :: p 3 (O 20) :: t
abbrev W9(y0:List (den Ty.bool))(y1:List (den i64.sl)):List (Nat×Ob):=[(16,A 4 Ty.bool y0 0),(14,A 33 i64.sl y1 0)]
abbrev G10(y0:Int)(t:List (Nat×Sl)):List (Nat×Sl):=p 1 (R 1) :: p 3 (O 12) :: p 4 (R 4) :: p 5 (I y0) :: t
abbrev G11(y0:List (den y148))(y1:List (den Ty.bool))(y2:Bool)(y3:Bool)(t:List (Nat×Sl)):List (Nat×Sl):=p 1 (L y148 y0) :: p 2 (L Ty.bool y1) :: p 4 (C y2) :: p 11 (O 17) :: p 12 (B y3) :: t
abbrev W12(y0:List (den i64))(y1:den y44):List (Nat×Ob):=[(92,A 2 i64 y0 0),(3,K 44 y44 y1)]
def u77(a0:List Int)(a1:Int):Option Int :=
 gd (in64 (a1-(a0.length:Int))/\True) <|
 if(decide (a1-(a0.length:Int)<0)) then
  some (-1)
 else
  some (a1-(a0.length:Int))
def k77:Ct:=lct 77 [.dat i64.sl,.dat i64] (fun x=>u77 x.1 x.2.1) (fun r:Int=>I r) (fun _=>())
theorem o77:Ok prog k77:=by
 refine okM [.tmp 4] func77 ?_;intro y ⟨_,_,_⟩ r H Q hn hr;refine iA [0,1]<|iB [1] H fun H=>vQ<|iA [1,10]<|cD H (fun H=>iA [4]<|vTT<|fR<|hr H) fun H=>vK<|fQ<|iA [4]<|vTT<|hr H
def u40(a0:Y86)(a1:Int):Option Int :=
 gd ((u77 a0.1 a1).isSome/\True)<|lt (vl (u77 a0.1 a1)) fun v0 =>
 if(decide (v0<0)) then
  some (-1)
 else
  gd ((u77 a0.2.1 v0).isSome/\True)<|lt (vl (u77 a0.2.1 v0)) fun v1 =>
  if(decide (v1<0)) then
   some (-1)
  else
   gd ((u77 a0.2.2.1 v1).isSome/\True)<|lt (vl (u77 a0.2.2.1 v1)) fun v2 =>
   if(decide (v2<0)) then
    some (-1)
   else
    gd ((u77 a0.2.2.2 v2).isSome/\True)<|lt (vl (u77 a0.2.2.2 v2)) fun v3 =>
    if(decide (v3<0)) then
     some (-1)
    else
     some v3
def k40:Ct:=lct 40 [.agg y86,.dat i64] (fun x=>u40 x.1 x.2.1) (fun r:Int=>I r) (fun _=>())
theorem o40:Ok prog k40:=by
 refine okM [.tmp 4] func40 ?_;intro y ⟨_,_,_⟩ r H Q hn hr;have:=hz (tc o77 tn);refine iA [1,2]<|iD o77 [1,2] H fun _ H=>vQ<|iA [1,2,10]<|cD H (fun H=>iA [4]<|vTT<|fR<|hr H) fun H=>vK<|fQ<|iD o77 [1,2] H fun _ H=>vQ<|iA [1,2,16]<|cD H (fun H=>iA [4]<|vTT<|fR<|hr H) fun H=>vK<|fQ<|iD o77 [1,2] H fun _ H=>vQ<|iA [1,2,22]<|cD H (fun H=>iA [4]<|vTT<|fR<|hr H) fun H=>vK<|fQ<|iD o77 [1] H fun _ H=>vQ<|iA [1,28]<|cD H (fun H=>iA [4]<|vTT<|fR<|hr H) fun H=>vK<|fQ<|iA [4]<|vTT<|hr H
def u18J0:Int->Option Int
 | v4 =>
 some v4
def u18L1(a0:List Y86)(g1:Int×Int->Option Int):Int×Int->Option Int
 | (v1,v2) =>
 if(decide (v2 < (a0.length:Int))) then
  gd (ix v2 a0.length/\(u40 (a0.getD v2.toNat (dflt y86)) v1).isSome/\True)<|lt (vl (u40 (a0.getD v2.toNat (dflt y86)) v1)) fun v3 =>
  if(decide (v3<0)) then
   some (-1)
  else
   gd (in64 (v2+1)/\True) <|
   g1 (v3,v2+1)
 else
  u18J0 v1
def u18(a0:List Y86)(a1:Int):Option Int :=
 gd (in64 (a1-(a0.length:Int))/\True) <|
 if(decide (a1-(a0.length:Int)<0)) then
  some (-1)
 else
  lp (u18L1 a0) ((a1-(a0.length:Int),0))
def k18:Ct:=lct 18 [.dat y86.sl,.dat i64] (fun x=>u18 x.1 x.2.1) (fun r:Int=>I r) (fun _=>())
theorem o18:Ok prog k18:=by
 refine okM [.tmp 4] func18 ?_;intro y ⟨a0,a1,_⟩ r H Q hn hr;have:=hz (tc o40 tn);refine iA [0,1]<|iB [0,1] H fun H=>vQ<|iA [0,1,11]<|cD H (fun H=>iA [4]<|vTT<|fR<|hr H) fun H=>vK<|fQ<|jN r (fun(v4:Int)=>Z [p 1 (I v4)] []) (u18J0) (fun v4 H=>?_) (fun _ n0 e0 t0=>?_)
 ·refine iA [4]<|vTT<|hr H
 refine iA [0,1,5]<|vB<|lX (fun((v1,v2):Int×Int)=>Z [p 0 (L y86 a0),p 1 (I v1),p 5 (I v2)] []) ((a1-(a0.length:Int),0)) H fun _ g1 b1 e1 t1 ⟨v1,v2⟩ H=>vQ<|iA [0,1,5,15]<|cD H (fun H=>?_) (fun H=>?_)
 ·refine vK<|fQ<|vQ<|vB<|iD o40 [0,1,5] H fun _ H=>iA [0,1,5,25]<|cD H (fun H=>iA [4]<|vTT<|fDD<|fR<|t1<|fDD<|t0<|hr H) fun H=>vK<|fK<|fQ<|jB [0,1,5] H fun H=>b1 H
 exact vE<|fE<|e1<|fX rfl<|n0 H
def u76(a0:Y141)(a1:Int):Option Int :=
 gd (in64 (a1-(a0.1.size:Int))/\True) <|
 if(decide (a1-(a0.1.size:Int)<0)) then
  some (-1)
 else
  some (a1-(a0.1.size:Int))
def k76:Ct:=lct 76 [.agg y141,.dat i64] (fun x=>u76 x.1 x.2.1) (fun r:Int=>I r) (fun _=>())
theorem o76:Ok prog k76:=by
 refine okM [.tmp 4] func76 ?_;intro y ⟨_,_,_⟩ r H Q hn hr;refine iA [1,2]<|iB [1] H fun H=>vQ<|iA [1,11]<|cD H (fun H=>iA [4]<|vTT<|fR<|hr H) fun H=>vK<|fQ<|iA [4]<|vTT<|hr H
def u39J0:Int->Option Int
 | v4 =>
 some v4
def u39L1(a0:List Y141)(g1:Int×Int->Option Int):Int×Int->Option Int
 | (v1,v2) =>
 if(decide (v2 < (a0.length:Int))) then
  gd (ix v2 a0.length/\(u76 (a0.getD v2.toNat (dflt y141)) v1).isSome/\True)<|lt (vl (u76 (a0.getD v2.toNat (dflt y141)) v1)) fun v3 =>
  if(decide (v3<0)) then
   some (-1)
  else
   gd (in64 (v2+1)/\True) <|
   g1 (v3,v2+1)
 else
  u39J0 v1
def u39(a0:List Y141)(a1:Int):Option Int :=
 gd (in64 (a1-(a0.length:Int))/\True) <|
 if(decide (a1-(a0.length:Int)<0)) then
  some (-1)
 else
  lp (u39L1 a0) ((a1-(a0.length:Int),0))
def k39:Ct:=lct 39 [.dat y141.sl,.dat i64] (fun x=>u39 x.1 x.2.1) (fun r:Int=>I r) (fun _=>())
theorem o39:Ok prog k39:=by
 refine okM [.tmp 4] func39 ?_;intro y ⟨a0,a1,_⟩ r H Q hn hr;have:=hz (tc o76 tn);refine iA [0,1]<|iB [0,1] H fun H=>vQ<|iA [0,1,11]<|cD H (fun H=>iA [4]<|vTT<|fR<|hr H) fun H=>vK<|fQ<|jN r (fun(v4:Int)=>Z [p 1 (I v4)] []) (u39J0) (fun v4 H=>?_) (fun _ n0 e0 t0=>?_)
 ·refine iA [4]<|vTT<|hr H
 refine iA [0,1,5]<|vB<|lX (fun((v1,v2):Int×Int)=>Z [p 0 (L y141 a0),p 1 (I v1),p 5 (I v2)] []) ((a1-(a0.length:Int),0)) H fun _ g1 b1 e1 t1 ⟨v1,v2⟩ H=>vQ<|iA [0,1,5,15]<|cD H (fun H=>?_) (fun H=>?_)
 ·refine vK<|fQ<|vQ<|vB<|iD o76 [0,1,5] H fun _ H=>iA [0,1,5,25]<|cD H (fun H=>iA [4]<|vTT<|fDD<|fR<|t1<|fDD<|t0<|hr H) fun H=>vK<|fK<|fQ<|jB [0,1,5] H fun H=>b1 H
 exact vE<|fE<|e1<|fX rfl<|n0 H
def u38J0:Int->Option Int
 | v4 =>
 some v4
def u38L1(a0:List ByteArray)(g1:Int×Int->Option Int):Int×Int->Option Int
 | (v1,v2) =>
 if(decide (v2 < (a0.length:Int))) then
  gd (ix v2 a0.length/\in64 (v1-(↑(ByteArray.size (a0.getD v2.toNat (dflt Ty.str))):Int))/\True)<|lt (v1-(↑(ByteArray.size (a0.getD v2.toNat (dflt Ty.str))):Int)) fun v3 =>
  if(decide (v3<0)) then
   some (-1)
  else
   gd (in64 (v2+1)/\True) <|
   g1 (v3,v2+1)
 else
  u38J0 v1
def u38(a0:List ByteArray)(a1:Int):Option Int :=
 gd (in64 (a1-(a0.length:Int))/\True) <|
 if(decide (a1-(a0.length:Int)<0)) then
  some (-1)
 else
  lp (u38L1 a0) ((a1-(a0.length:Int),0))
def k38:Ct:=lct 38 [.dat Ty.str.sl,.dat i64] (fun x=>u38 x.1 x.2.1) (fun r:Int=>I r) (fun _=>())
theorem o38:Ok prog k38:=by
 refine okM [.tmp 4] func38 ?_;intro y ⟨a0,a1,_⟩ r H Q hn hr;refine iA [0,1]<|iB [0,1] H fun H=>vQ<|iA [0,1,11]<|cD H (fun H=>iA [4]<|vTT<|fR<|hr H) fun H=>vK<|fQ<|jN r (fun(v4:Int)=>Z [p 1 (I v4)] []) (u38J0) (fun v4 H=>?_) (fun _ n0 e0 t0=>?_)
 ·refine iA [4]<|vTT<|hr H
 refine iA [0,1,5]<|vB<|lX (fun((v1,v2):Int×Int)=>Z [p 0 (L Ty.str a0),p 1 (I v1),p 5 (I v2)] []) ((a1-(a0.length:Int),0)) H fun _ g1 b1 e1 t1 ⟨v1,v2⟩ H=>vQ<|iA [0,1,5,15]<|cD H (fun H=>?_) (fun H=>?_)
 ·refine vK<|fQ<|vQ<|vB<|qD (fun v3=>Z [p 0 (L Ty.str a0),p 1 (I v3),p 5 (I v2)] []) H fun v3 H=>iA [0,1,5,26]<|cD H (fun H=>iA [4]<|vTT<|fDD<|fR<|t1<|fDD<|t0<|hr H) fun H=>vK<|fK<|fQ<|jB [0,1,5] H fun H=>b1 H
 exact vE<|fE<|e1<|fX rfl<|n0 H
def u75(a0:Y138)(a1:Int):Option Int :=
 gd (in64 (a1-(a0.1.size:Int))/\True) <|
 if(decide (a1-(a0.1.size:Int)<0)) then
  some (-1)
 else
  gd ((u77 a0.2.2 (a1-(a0.1.size:Int))).isSome/\True)<|lt (vl (u77 a0.2.2 (a1-(a0.1.size:Int)))) fun v0 =>
  if(decide (v0<0)) then
   some (-1)
  else
   some v0
def k75:Ct:=lct 75 [.agg y138,.dat i64] (fun x=>u75 x.1 x.2.1) (fun r:Int=>I r) (fun _=>())
theorem o75:Ok prog k75:=by
 refine okM [.tmp 4] func75 ?_;intro y ⟨_,_,_⟩ r H Q hn hr;have:=hz (tc o77 tn);refine iA [1,2]<|iB [1,2] H fun H=>vQ<|iA [1,2,11]<|cD H (fun H=>iA [4]<|vTT<|fR<|hr H) fun H=>vK<|fQ<|iD o77 [1] H fun _ H=>vQ<|iA [1,17]<|cD H (fun H=>iA [4]<|vTT<|fR<|hr H) fun H=>vK<|fQ<|iA [4]<|vTT<|hr H
def u37J0:Int->Option Int
 | v4 =>
 some v4
def u37L1(a0:List Y138)(g1:Int×Int->Option Int):Int×Int->Option Int
 | (v1,v2) =>
 if(decide (v2 < (a0.length:Int))) then
  gd (ix v2 a0.length/\(u75 (a0.getD v2.toNat (dflt y138)) v1).isSome/\True)<|lt (vl (u75 (a0.getD v2.toNat (dflt y138)) v1)) fun v3 =>
  if(decide (v3<0)) then
   some (-1)
  else
   gd (in64 (v2+1)/\True) <|
   g1 (v3,v2+1)
 else
  u37J0 v1
def u37(a0:List Y138)(a1:Int):Option Int :=
 gd (in64 (a1-(a0.length:Int))/\True) <|
 if(decide (a1-(a0.length:Int)<0)) then
  some (-1)
 else
  lp (u37L1 a0) ((a1-(a0.length:Int),0))
def k37:Ct:=lct 37 [.dat y138.sl,.dat i64] (fun x=>u37 x.1 x.2.1) (fun r:Int=>I r) (fun _=>())
theorem o37:Ok prog k37:=by
 refine okM [.tmp 4] func37 ?_;intro y ⟨a0,a1,_⟩ r H Q hn hr;have:=hz (tc o75 tn);refine iA [0,1]<|iB [0,1] H fun H=>vQ<|iA [0,1,11]<|cD H (fun H=>iA [4]<|vTT<|fR<|hr H) fun H=>vK<|fQ<|jN r (fun(v4:Int)=>Z [p 1 (I v4)] []) (u37J0) (fun v4 H=>?_) (fun _ n0 e0 t0=>?_)
 ·refine iA [4]<|vTT<|hr H
 refine iA [0,1,5]<|vB<|lX (fun((v1,v2):Int×Int)=>Z [p 0 (L y138 a0),p 1 (I v1),p 5 (I v2)] []) ((a1-(a0.length:Int),0)) H fun _ g1 b1 e1 t1 ⟨v1,v2⟩ H=>vQ<|iA [0,1,5,15]<|cD H (fun H=>?_) (fun H=>?_)
 ·refine vK<|fQ<|vQ<|vB<|iD o75 [0,1,5] H fun _ H=>iA [0,1,5,25]<|cD H (fun H=>iA [4]<|vTT<|fDD<|fR<|t1<|fDD<|t0<|hr H) fun H=>vK<|fK<|fQ<|jB [0,1,5] H fun H=>b1 H
 exact vE<|fE<|e1<|fX rfl<|n0 H
def u17(a0:Y29)(a1:Int):Option Int :=
 gd ((u37 a0.1 a1).isSome/\True)<|lt (vl (u37 a0.1 a1)) fun v0 =>
 if(decide (v0<0)) then
  some (-1)
 else
  gd ((u38 a0.2.1 v0).isSome/\True)<|lt (vl (u38 a0.2.1 v0)) fun v1 =>
  if(decide (v1<0)) then
   some (-1)
  else
   gd ((u39 a0.2.2 v1).isSome/\True)<|lt (vl (u39 a0.2.2 v1)) fun v2 =>
   if(decide (v2<0)) then
    some (-1)
   else
    some v2
def k17:Ct:=lct 17 [.agg y29,.dat i64] (fun x=>u17 x.1 x.2.1) (fun r:Int=>I r) (fun _=>())
theorem o17:Ok prog k17:=by
 refine okM [.tmp 4] func17 ?_;intro y ⟨_,_,_⟩ r H Q hn hr;have:=hz (tc o39 (tc o38 (tc o37 tn)));refine iA [1,2]<|iD o37 [1,2] H fun _ H=>vQ<|iA [1,2,10]<|cD H (fun H=>iA [4]<|vTT<|fR<|hr H) fun H=>vK<|fQ<|iD o38 [1,2] H fun _ H=>vQ<|iA [1,2,16]<|cD H (fun H=>iA [4]<|vTT<|fR<|hr H) fun H=>vK<|fQ<|iD o39 [1] H fun _ H=>vQ<|iA [1,22]<|cD H (fun H=>iA [4]<|vTT<|fR<|hr H) fun H=>vK<|fQ<|iA [4]<|vTT<|hr H
def u154(a0:Y225)(a1:Int):Option Int :=
 gd ((u77 a0.1 a1).isSome/\True)<|lt (vl (u77 a0.1 a1)) fun v0 =>
 if(decide (v0<0)) then
  some (-1)
 else
  gd ((u77 a0.2.1 v0).isSome/\True)<|lt (vl (u77 a0.2.1 v0)) fun v1 =>
  if(decide (v1<0)) then
   some (-1)
  else
   gd ((u77 a0.2.2 v1).isSome/\True)<|lt (vl (u77 a0.2.2 v1)) fun v2 =>
   if(decide (v2<0)) then
    some (-1)
   else
    some v2
def k154:Ct:=lct 154 [.agg y225,.dat i64] (fun x=>u154 x.1 x.2.1) (fun r:Int=>I r) (fun _=>())
theorem o154:Ok prog k154:=by
 refine okM [.tmp 4] func154 ?_;intro y ⟨_,_,_⟩ r H Q hn hr;have:=hz (tc o77 tn);refine iA [1,2]<|iD o77 [1,2] H fun _ H=>vQ<|iA [1,2,10]<|cD H (fun H=>iA [4]<|vTT<|fR<|hr H) fun H=>vK<|fQ<|iD o77 [1,2] H fun _ H=>vQ<|iA [1,2,16]<|cD H (fun H=>iA [4]<|vTT<|fR<|hr H) fun H=>vK<|fQ<|iD o77 [1] H fun _ H=>vQ<|iA [1,22]<|cD H (fun H=>iA [4]<|vTT<|fR<|hr H) fun H=>vK<|fQ<|iA [4]<|vTT<|hr H
def u143J0:Int->Option Int
 | v4 =>
 some v4
def u143L1(a0:List Y225)(g1:Int×Int->Option Int):Int×Int->Option Int
 | (v1,v2) =>
 if(decide (v2 < (a0.length:Int))) then
  gd (ix v2 a0.length/\(u154 (a0.getD v2.toNat (dflt y225)) v1).isSome/\True)<|lt (vl (u154 (a0.getD v2.toNat (dflt y225)) v1)) fun v3 =>
  if(decide (v3<0)) then
   some (-1)
  else
   gd (in64 (v2+1)/\True) <|
   g1 (v3,v2+1)
 else
  u143J0 v1
def u143(a0:List Y225)(a1:Int):Option Int :=
 gd (in64 (a1-(a0.length:Int))/\True) <|
 if(decide (a1-(a0.length:Int)<0)) then
  some (-1)
 else
  lp (u143L1 a0) ((a1-(a0.length:Int),0))
def k143:Ct:=lct 143 [.dat y225.sl,.dat i64] (fun x=>u143 x.1 x.2.1) (fun r:Int=>I r) (fun _=>())
theorem o143:Ok prog k143:=by
 refine okM [.tmp 4] func143 ?_;intro y ⟨a0,a1,_⟩ r H Q hn hr;have:=hz (tc o154 tn);refine iA [0,1]<|iB [0,1] H fun H=>vQ<|iA [0,1,11]<|cD H (fun H=>iA [4]<|vTT<|fR<|hr H) fun H=>vK<|fQ<|jN r (fun(v4:Int)=>Z [p 1 (I v4)] []) (u143J0) (fun v4 H=>?_) (fun _ n0 e0 t0=>?_)
 ·refine iA [4]<|vTT<|hr H
 refine iA [0,1,5]<|vB<|lX (fun((v1,v2):Int×Int)=>Z [p 0 (L y225 a0),p 1 (I v1),p 5 (I v2)] []) ((a1-(a0.length:Int),0)) H fun _ g1 b1 e1 t1 ⟨v1,v2⟩ H=>vQ<|iA [0,1,5,15]<|cD H (fun H=>?_) (fun H=>?_)
 ·refine vK<|fQ<|vQ<|vB<|iD o154 [0,1,5] H fun _ H=>iA [0,1,5,25]<|cD H (fun H=>iA [4]<|vTT<|fDD<|fR<|t1<|fDD<|t0<|hr H) fun H=>vK<|fK<|fQ<|jB [0,1,5] H fun H=>b1 H
 exact vE<|fE<|e1<|fX rfl<|n0 H
def u129(a0:Y201)(a1:Int):Option Int :=
 gd ((u143 a0.2.2.2.2.1 a1).isSome/\True)<|lt (vl (u143 a0.2.2.2.2.1 a1)) fun v0 =>
 if(decide (v0<0)) then
  some (-1)
 else
  gd ((u143 a0.2.2.2.2.2 v0).isSome/\True)<|lt (vl (u143 a0.2.2.2.2.2 v0)) fun v1 =>
  if(decide (v1<0)) then
   some (-1)
  else
   some v1
def k129:Ct:=lct 129 [.agg y201,.dat i64] (fun x=>u129 x.1 x.2.1) (fun r:Int=>I r) (fun _=>())
theorem o129:Ok prog k129:=by
 refine okM [.tmp 4] func129 ?_;intro y ⟨_,_,_⟩ r H Q hn hr;have:=hz (tc o143 tn);refine iA [1,2]<|iD o143 [1,2] H fun _ H=>vQ<|iA [1,2,10]<|cD H (fun H=>iA [4]<|vTT<|fR<|hr H) fun H=>vK<|fQ<|iD o143 [1] H fun _ H=>vQ<|iA [1,16]<|cD H (fun H=>iA [4]<|vTT<|fR<|hr H) fun H=>vK<|fQ<|iA [4]<|vTT<|hr H
def u105J0:Int->Option Int
 | v4 =>
 some v4
def u105L1(a0:List Y201)(g1:Int×Int->Option Int):Int×Int->Option Int
 | (v1,v2) =>
 if(decide (v2 < (a0.length:Int))) then
  gd (ix v2 a0.length/\(u129 (a0.getD v2.toNat (dflt y201)) v1).isSome/\True)<|lt (vl (u129 (a0.getD v2.toNat (dflt y201)) v1)) fun v3 =>
  if(decide (v3<0)) then
   some (-1)
  else
   gd (in64 (v2+1)/\True) <|
   g1 (v3,v2+1)
 else
  u105J0 v1
def u105(a0:List Y201)(a1:Int):Option Int :=
 gd (in64 (a1-(a0.length:Int))/\True) <|
 if(decide (a1-(a0.length:Int)<0)) then
  some (-1)
 else
  lp (u105L1 a0) ((a1-(a0.length:Int),0))
def k105:Ct:=lct 105 [.dat y201.sl,.dat i64] (fun x=>u105 x.1 x.2.1) (fun r:Int=>I r) (fun _=>())
theorem o105:Ok prog k105:=by
 refine okM [.tmp 4] func105 ?_;intro y ⟨a0,a1,_⟩ r H Q hn hr;have:=hz (tc o129 tn);refine iA [0,1]<|iB [0,1] H fun H=>vQ<|iA [0,1,11]<|cD H (fun H=>iA [4]<|vTT<|fR<|hr H) fun H=>vK<|fQ<|jN r (fun(v4:Int)=>Z [p 1 (I v4)] []) (u105J0) (fun v4 H=>?_) (fun _ n0 e0 t0=>?_)
 ·refine iA [4]<|vTT<|hr H
 refine iA [0,1,5]<|vB<|lX (fun((v1,v2):Int×Int)=>Z [p 0 (L y201 a0),p 1 (I v1),p 5 (I v2)] []) ((a1-(a0.length:Int),0)) H fun _ g1 b1 e1 t1 ⟨v1,v2⟩ H=>vQ<|iA [0,1,5,15]<|cD H (fun H=>?_) (fun H=>?_)
 ·refine vK<|fQ<|vQ<|vB<|iD o129 [0,1,5] H fun _ H=>iA [0,1,5,25]<|cD H (fun H=>iA [4]<|vTT<|fDD<|fR<|t1<|fDD<|t0<|hr H) fun H=>vK<|fK<|fQ<|jB [0,1,5] H fun H=>b1 H
 exact vE<|fE<|e1<|fX rfl<|n0 H
def u128(a0:Y197)(a1:Int):Option Int :=
 gd (in64 (a1-(a0.1.size:Int))/\True) <|
 if(decide (a1-(a0.1.size:Int)<0)) then
  some (-1)
 else
  some (a1-(a0.1.size:Int))
def k128:Ct:=lct 128 [.agg y197,.dat i64] (fun x=>u128 x.1 x.2.1) (fun r:Int=>I r) (fun _=>())
theorem o128:Ok prog k128:=by
 refine okM [.tmp 4] func128 ?_;intro y ⟨_,_,_⟩ r H Q hn hr;refine iA [1,2]<|iB [1] H fun H=>vQ<|iA [1,11]<|cD H (fun H=>iA [4]<|vTT<|fR<|hr H) fun H=>vK<|fQ<|iA [4]<|vTT<|hr H
def u104J0:Int->Option Int
 | v4 =>
 some v4
def u104L1(a0:List Y197)(g1:Int×Int->Option Int):Int×Int->Option Int
 | (v1,v2) =>
 if(decide (v2 < (a0.length:Int))) then
  gd (ix v2 a0.length/\(u128 (a0.getD v2.toNat (dflt y197)) v1).isSome/\True)<|lt (vl (u128 (a0.getD v2.toNat (dflt y197)) v1)) fun v3 =>
  if(decide (v3<0)) then
   some (-1)
  else
   gd (in64 (v2+1)/\True) <|
   g1 (v3,v2+1)
 else
  u104J0 v1
def u104(a0:List Y197)(a1:Int):Option Int :=
 gd (in64 (a1-(a0.length:Int))/\True) <|
 if(decide (a1-(a0.length:Int)<0)) then
  some (-1)
 else
  lp (u104L1 a0) ((a1-(a0.length:Int),0))
def k104:Ct:=lct 104 [.dat y197.sl,.dat i64] (fun x=>u104 x.1 x.2.1) (fun r:Int=>I r) (fun _=>())
theorem o104:Ok prog k104:=by
 refine okM [.tmp 4] func104 ?_;intro y ⟨a0,a1,_⟩ r H Q hn hr;have:=hz (tc o128 tn);refine iA [0,1]<|iB [0,1] H fun H=>vQ<|iA [0,1,11]<|cD H (fun H=>iA [4]<|vTT<|fR<|hr H) fun H=>vK<|fQ<|jN r (fun(v4:Int)=>Z [p 1 (I v4)] []) (u104J0) (fun v4 H=>?_) (fun _ n0 e0 t0=>?_)
 ·refine iA [4]<|vTT<|hr H
 refine iA [0,1,5]<|vB<|lX (fun((v1,v2):Int×Int)=>Z [p 0 (L y197 a0),p 1 (I v1),p 5 (I v2)] []) ((a1-(a0.length:Int),0)) H fun _ g1 b1 e1 t1 ⟨v1,v2⟩ H=>vQ<|iA [0,1,5,15]<|cD H (fun H=>?_) (fun H=>?_)
 ·refine vK<|fQ<|vQ<|vB<|iD o128 [0,1,5] H fun _ H=>iA [0,1,5,25]<|cD H (fun H=>iA [4]<|vTT<|fDD<|fR<|t1<|fDD<|t0<|hr H) fun H=>vK<|fK<|fQ<|jB [0,1,5] H fun H=>b1 H
 exact vE<|fE<|e1<|fX rfl<|n0 H
def u74(a0:Y136)(a1:Int):Option Int :=
 gd (in64 (a1-(a0.1.size:Int))/\True) <|
 if(decide (a1-(a0.1.size:Int)<0)) then
  some (-1)
 else
  gd ((u104 a0.2.2.1 (a1-(a0.1.size:Int))).isSome/\True)<|lt (vl (u104 a0.2.2.1 (a1-(a0.1.size:Int)))) fun v0 =>
  if(decide (v0<0)) then
   some (-1)
  else
   gd ((u105 a0.2.2.2.1 v0).isSome/\True)<|lt (vl (u105 a0.2.2.2.1 v0)) fun v1 =>
   if(decide (v1<0)) then
    some (-1)
   else
    gd ((u77 a0.2.2.2.2.1 v1).isSome/\True)<|lt (vl (u77 a0.2.2.2.2.1 v1)) fun v2 =>
    if(decide (v2<0)) then
     some (-1)
    else
     some v2
def k74:Ct:=lct 74 [.agg y136,.dat i64] (fun x=>u74 x.1 x.2.1) (fun r:Int=>I r) (fun _=>())
theorem o74:Ok prog k74:=by
 refine okM [.tmp 4] func74 ?_;intro y ⟨_,_,_⟩ r H Q hn hr;have:=hz (tc o77 (tc o105 (tc o104 tn)));refine iA [1,2]<|iB [1,2] H fun H=>vQ<|iA [1,2,11]<|cD H (fun H=>iA [4]<|vTT<|fR<|hr H) fun H=>vK<|fQ<|iD o104 [1,2] H fun _ H=>vQ<|iA [1,2,17]<|cD H (fun H=>iA [4]<|vTT<|fR<|hr H) fun H=>vK<|fQ<|iD o105 [1,2] H fun _ H=>vQ<|iA [1,2,23]<|cD H (fun H=>iA [4]<|vTT<|fR<|hr H) fun H=>vK<|fQ<|iD o77 [1] H fun _ H=>vQ<|iA [1,29]<|cD H (fun H=>iA [4]<|vTT<|fR<|hr H) fun H=>vK<|fQ<|iA [4]<|vTT<|hr H
def u36J0:Int->Option Int
 | v4 =>
 some v4
def u36L1(a0:List Y136)(g1:Int×Int->Option Int):Int×Int->Option Int
 | (v1,v2) =>
 if(decide (v2 < (a0.length:Int))) then
  gd (ix v2 a0.length/\(u74 (a0.getD v2.toNat (dflt y136)) v1).isSome/\True)<|lt (vl (u74 (a0.getD v2.toNat (dflt y136)) v1)) fun v3 =>
  if(decide (v3<0)) then
   some (-1)
  else
   gd (in64 (v2+1)/\True) <|
   g1 (v3,v2+1)
 else
  u36J0 v1
def u36(a0:List Y136)(a1:Int):Option Int :=
 gd (in64 (a1-(a0.length:Int))/\True) <|
 if(decide (a1-(a0.length:Int)<0)) then
  some (-1)
 else
  lp (u36L1 a0) ((a1-(a0.length:Int),0))
def k36:Ct:=lct 36 [.dat y136.sl,.dat i64] (fun x=>u36 x.1 x.2.1) (fun r:Int=>I r) (fun _=>())
theorem o36:Ok prog k36:=by
 refine okM [.tmp 4] func36 ?_;intro y ⟨a0,a1,_⟩ r H Q hn hr;have:=hz (tc o74 tn);refine iA [0,1]<|iB [0,1] H fun H=>vQ<|iA [0,1,11]<|cD H (fun H=>iA [4]<|vTT<|fR<|hr H) fun H=>vK<|fQ<|jN r (fun(v4:Int)=>Z [p 1 (I v4)] []) (u36J0) (fun v4 H=>?_) (fun _ n0 e0 t0=>?_)
 ·refine iA [4]<|vTT<|hr H
 refine iA [0,1,5]<|vB<|lX (fun((v1,v2):Int×Int)=>Z [p 0 (L y136 a0),p 1 (I v1),p 5 (I v2)] []) ((a1-(a0.length:Int),0)) H fun _ g1 b1 e1 t1 ⟨v1,v2⟩ H=>vQ<|iA [0,1,5,15]<|cD H (fun H=>?_) (fun H=>?_)
 ·refine vK<|fQ<|vQ<|vB<|iD o74 [0,1,5] H fun _ H=>iA [0,1,5,25]<|cD H (fun H=>iA [4]<|vTT<|fDD<|fR<|t1<|fDD<|t0<|hr H) fun H=>vK<|fK<|fQ<|jB [0,1,5] H fun H=>b1 H
 exact vE<|fE<|e1<|fX rfl<|n0 H
def u16(a0:List Y136)(a1:Int):Option Int :=
 gd ((u36 a0 a1).isSome/\True)<|lt (vl (u36 a0 a1)) fun v0 =>
 if(decide (v0<0)) then
  some (-1)
 else
  some v0
def k16:Ct:=lct 16 [.agg y136.sl,.dat i64] (fun x=>u16 x.1 x.2.1) (fun r:Int=>I r) (fun _=>())
theorem o16:Ok prog k16:=by
 refine okM [.tmp 4] func16 ?_;intro y ⟨_,_,_⟩ r H Q hn hr;have:=hz (tc o36 tn);refine iA [1,2]<|iD o36 [1] H fun _ H=>vQ<|iA [1,10]<|cD H (fun H=>iA [4]<|vTT<|fR<|hr H) fun H=>vK<|fQ<|iA [4]<|vTT<|hr H
def u4(a0:Y32)(a1:Int):Option Int :=
 gd ((u16 a0.1 a1).isSome/\True)<|lt (vl (u16 a0.1 a1)) fun v0 =>
 if(decide (v0<0)) then
  some (-1)
 else
  gd ((u17 a0.2.1 v0).isSome/\True)<|lt (vl (u17 a0.2.1 v0)) fun v1 =>
  if(decide (v1<0)) then
   some (-1)
  else
   gd ((u18 a0.2.2 v1).isSome/\True)<|lt (vl (u18 a0.2.2 v1)) fun v2 =>
   if(decide (v2<0)) then
    some (-1)
   else
    some v2
def k4:Ct:=lct 4 [.agg y32,.dat i64] (fun x=>u4 x.1 x.2.1) (fun r:Int=>I r) (fun _=>())
theorem o4:Ok prog k4:=by
 refine okM [.tmp 4] func4 ?_;intro y ⟨_,_,_⟩ r H Q hn hr;have:=hz (tc o18 (tc o17 (tc o16 tn)));refine iA [1,2]<|iD o16 [1,2] H fun _ H=>vQ<|iA [1,2,10]<|cD H (fun H=>iA [4]<|vTT<|fR<|hr H) fun H=>vK<|fQ<|iD o17 [1,2] H fun _ H=>vQ<|iA [1,2,16]<|cD H (fun H=>iA [4]<|vTT<|fR<|hr H) fun H=>vK<|fQ<|iD o18 [1] H fun _ H=>vQ<|iA [1,22]<|cD H (fun H=>iA [4]<|vTT<|fR<|hr H) fun H=>vK<|fQ<|iA [4]<|vTT<|hr H
def u49J0:Unit->Option Bool
 | _ =>
 some false
def u49L1(a1:List Bool)(a0:List Y148)(a2:Int)(g1:Int->Option Bool):Int->Option Bool
 | v0 =>
 if(decide (v0 < (a0.length:Int))) then
  gd (ix v0 a1.length/\(a1.getD v0.toNat false=true/\True->ix v0 a0.length)/\((a1.getD v0.toNat false&&(a0.getD v0.toNat (dflt y148)).1==a2)=true/\True->ix v0 a0.length)/\True) <|
  if(a1.getD v0.toNat false&&(a0.getD v0.toNat (dflt y148)).1==a2&&(a0.getD v0.toNat (dflt y148)).2.1==a2) then
   some true
  else
   gd (in64 (v0+1)/\True) <|
   g1 (v0+1)
 else
  u49J0 ()
def u49(a0:List Y148)(a1:List Bool)(a2:Int):Option Bool :=
 lp (u49L1 a1 a0 a2) 0
def k49:Ct:=lct 49 [.dat y148.sl,.dat Ty.bool.sl,.dat i64] (fun x=>u49 x.1 x.2.1 x.2.2.1) (fun r:Bool=>B r) (fun _=>())
theorem o49:Ok prog k49:=by
 refine okM [.tmp 6] func49 ?_;intro y ⟨a0,a1,a2,_⟩ r H Q hn hr;refine iA [0,1,2]<|jN r (fun(_:Unit)=>Z [] []) (u49J0) (fun _ H=>?_) (fun _ n0 e0 t0=>?_)
 ·refine iA [6]<|vTT<|hr H
 refine iA [0,1,2,7]<|vB<|lX (fun(v0:Int)=>Z [p 0 (L y148 a0),p 1 (L Ty.bool a1),p 2 (J a2),p 7 (I v0)] []) 0 H fun _ g1 b1 e1 t1 v0 H=>vQ<|iA [0,1,2,7,11]<|cD H (fun H=>?_) (fun H=>?_)
 ·refine vK<|fQ<|vQ<|vB<|iB [0,1,2,7,35] H fun H=>cD H (fun H=>iA [6]<|vTT<|fDD<|fR<|t1<|fDD<|t0<|hr H) fun H=>vK<|fK<|fQ<|jB [0,1,2,7] H fun H=>b1 H
 exact vE<|fE<|e1<|fX rfl<|n0 H
def u48J0:List Bool->Option (List Bool)
 | v29 =>
 some v29
def u48J3(v22:Int)(g2:Bool×Int×List Bool->Option (List Bool)):List Bool×Bool->Option (List Bool)
 | (v27,v28) =>
 gd (in64 (v22+1)/\True) <|
 g2 (v28,v22+1,v27)
def u48J4(v22:Int)(v23:List Bool)(v21:Bool)(a2:List Bool)(g2:Bool×Int×List Bool->Option (List Bool)):Int×Int->Option (List Bool)
 | (v25,v26) =>
 gd (ix v22 a2.length/\(a2.getD v22.toNat false=true/\True->ix v25 v23.length)/\(a2.getD v22.toNat false=true/\True->v25.toNat<v23.length)/\((a2.getD v22.toNat false&&v23.getD v25.toNat false)=true/\True->ix v26 v23.length)/\((a2.getD v22.toNat false&&v23.getD v25.toNat false)=true/\True->v26.toNat<v23.length)/\True) <|
 if(a2.getD v22.toNat false&&v23.getD v25.toNat false&&!v23.getD v26.toNat false) then
  gd (ix v26 v23.length/\v26.toNat<v23.length/\True) <|
  u48J3 v22 g2 (v23.set v26.toNat true,true)
 else
  u48J3 v22 g2 (v23,v21)
def u48L2(a2:List Bool)(a4:Bool)(a1:List Y148)(g1:Bool×List Bool->Option (List Bool))(g2:Bool×Int×List Bool->Option (List Bool)):Bool×Int×List Bool->Option (List Bool)
 | (v21,v22,v23) =>
 if(decide (v22 < (a1.length:Int))) then
  gd (ix v22 a1.length/\ix v22 a1.length/\True)<|lt (a1.getD v22.toNat (dflt y148)) fun v24 =>
  if(!a4) then
   u48J4 v22 v23 v21 a2 g2 (v24.2.1,v24.1)
  else
   u48J4 v22 v23 v21 a2 g2 (v24.1,v24.2.1)
 else
  g1 (v21,v23)
def u48L1(a2:List Bool)(a4:Bool)(a1:List Y148)(g1:Bool×List Bool->Option (List Bool)):Bool×List Bool->Option (List Bool)
 | (v14,v15) =>
 if v14 then
  lp (u48L2 a2 a4 a1 g1) (false,0,v15)
 else
  u48J0 v15
def u48(a0:Int)(a1:List Y148)(a2:List Bool)(a3:Int)(a4:Bool):Option (List Bool) :=
 gd ((0<=a0/\a0=a0/\a0.toNat*1<=281474976710656/\a0<=9223372036854775807)/\True) <|
 gd (ix a3 (List.replicate a0.toNat false).length/\a3.toNat < (List.replicate a0.toNat false).length/\True) <|
 lp (u48L1 a2 a4 a1) ((true,(List.replicate a0.toNat false).set a3.toNat true))
def k48:Ct:=lct 48 [.dat i64,.dat y148.sl,.dat Ty.bool.sl,.dat i64,.dat Ty.bool] (fun x=>u48 x.1 x.2.1 x.2.2.1 x.2.2.2.1 x.2.2.2.2.1) (fun r:List Bool=>AV.ow 4 true Ty.bool r) (fun _=>())
theorem o48:Ok prog k48:=by
 refine okM [.tmp 10] func48 ?_;intro y ⟨a0,a1,a2,a3,a4,_⟩ r H Q hn hr;refine iA [0,1,2,3,4]<|iB [1,2,3,4,11] H fun H=>iB [1,2,4,11] H fun H=>jN r (fun(v29:List Bool)=>Z [p 11 (O 17)] [(17,A 4 Ty.bool v29 0)]) (u48J0) (fun v29 H=>?_) (fun _ n0 e0 t0=>?_)
 ·refine iA [10]<|vTT<|hr H
 refine iA [1,2,4,11,12]<|vB<|lX (fun((v14,v15):Bool×List Bool)=>Z (G11 a1 a2 a4 v14 []) [(17,A 4 Ty.bool v15 0)]) ((true,(List.replicate a0.toNat false).set a3.toNat true)) H fun _ g1 b1 e1 t1 ⟨v14,v15⟩ H=>vQ<|iA [1,2,4,11,21]<|cD H (fun H=>?_) (fun H=>?_)
 ·refine vK<|fQ<|vB<|iA [1,2,4,11,12]<|iA [1,2,4,11,12,13]<|vB<|lX (fun((v21,v22,v23):Bool×Int×List Bool)=>Z (G11 a1 a2 a4 v21 [p 13 (I v22)]) [(17,A 4 Ty.bool v23 0)]) (false,0,v15) H fun _ g2 b2 e2 t2 ⟨v21,v22,v23⟩ H=>vQ<|iA [1,2,4,11,12,13,25]<|cD H (fun H=>?_) (fun H=>?_)
  ·refine vK<|fQ<|jN r (fun((v27,v28):List Bool×Bool)=>Z (G11 a1 a2 a4 v28 [p 13 (I v22)]) [(17,A 4 Ty.bool v27 0)]) (u48J3 v22 g2) (fun⟨v27,v28⟩ H=>?_) (fun _ n3 e3 t3=>?_)
   ·refine jB [1,2,4,11,12,13] H fun H=>b2 H
   refine vB<|qD (fun v24=>Z (G11 a1 a2 a4 v21 [p 13 (I v22),p 14 (J v24.1),p 15 (J v24.2.1)]) [(17,A 4 Ty.bool v23 0)]) H fun v24 H=>jN r (fun((v25,v26):Int×Int)=>Z (G11 a1 a2 a4 v21 [p 13 (I v22),p 14 (J v25),p 15 (J v26)]) [(17,A 4 Ty.bool v23 0)]) (u48J4 v22 v23 v21 a2 g2) (fun⟨v25,v26⟩ H=>?_) (fun _ n4 e4 t4=>?_)
   ·refine iB [1,2,4,11,12,13,15,58] H fun H=>cD H (fun H=>iB [1,2,4,11,13] H fun H=>jA [1,2,4,11,12,13]<|fK<|n3 H) fun H=>vK<|fK<|n3 H
   refine iA [1,2,4,11,12,13,14,15,39]<|cD H (fun H=>jA [1,2,4,11,12,13,14,15]<|n4 H) fun H=>vK<|n4 H
  exact vE<|fE<|e2<|fX rfl<|fK<|b1 H
 exact vE<|fE<|e1<|fX rfl<|n0 H
def u21J0:List (List Int)->Option (List (List Int))
 | v30 =>
 some v30
def u21J2(v14:Int)(g1:Int×List Bool×List (List Int)->Option (List (List Int))):List Bool×List (List Int)->Option (List (List Int))
 | (v28,v29) =>
 gd (in64 (v14+1)/\True) <|
 g1 (v14+1,v28,v29)
def u21J3(v14:Int)(v16:List (List Int))(a1:List Y148)(a2:List Bool)(g1:Int×List Bool×List (List Int)->Option (List (List Int))):List Int×List Bool->Option (List (List Int))
 | (v26,v27) =>
 gd ((decide (1 < (v26.length:Int))=false/\True->(u49 a1 a2 v14).isSome)/\True) <|
 if(decide (1 < (v26.length:Int))||vl (u49 a1 a2 v14)) then
  gd ((v16.length+[v26].length<=9223372036854775807/\(v16.length+[v26].length)*24<=140737488355328)/\True) <|
  u21J2 v14 g1 (v27,v16++[v26])
 else
  u21J2 v14 g1 (v27,v16)
def u21J5(v21:Int)(g4:Int×List Int×List Bool->Option (List (List Int))):List Bool×List Int->Option (List (List Int))
 | (v24,v25) =>
 gd (in64 (v21+1)/\True) <|
 g4 (v21+1,v25,v24)
def u21L4(v18:List Bool)(v17:List Bool)(v14:Int)(v16:List (List Int))(a1:List Y148)(a2:List Bool)(a0:Int)(g1:Int×List Bool×List (List Int)->Option (List (List Int)))(g4:Int×List Int×List Bool->Option (List (List Int))):Int×List Int×List Bool->Option (List (List Int))
 | (v21,v22,v23) =>
 if(decide (v21<a0)) then
  gd (ix v21 v18.length/\v21.toNat<v18.length/\(v18.getD v21.toNat false=true/\True->ix v21 v17.length)/\(v18.getD v21.toNat false=true/\True->v21.toNat<v17.length)/\True) <|
  if(v18.getD v21.toNat false&&v17.getD v21.toNat false) then
   gd ((v22.length+[v21].length<=9223372036854775807/\(v22.length+[v21].length)*8<=140737488355328)/\True) <|
   gd (ix v21 v23.length/\v21.toNat<v23.length/\True) <|
   u21J5 v21 g4 (v23.set v21.toNat true,v22++[v21])
  else
   u21J5 v21 g4 (v23,v22)
 else
  u21J3 v14 v16 a1 a2 g1 (v22,v23)
def u21L1(a1:List Y148)(a2:List Bool)(a0:Int)(g1:Int×List Bool×List (List Int)->Option (List (List Int))):Int×List Bool×List (List Int)->Option (List (List Int))
 | (v14,v15,v16) =>
 if(decide (v14<a0)) then
  gd (ix v14 v15.length/\v14.toNat<v15.length/\True) <|
  if(v15.getD v14.toNat false) then
   u21J2 v14 g1 (v15,v16)
  else
   gd ((u48 a0 a1 a2 v14 true).isSome/\(u48 a0 a1 a2 v14 false).isSome/\True)<|lt ((vl (u48 a0 a1 a2 v14 false),vl (u48 a0 a1 a2 v14 true))) fun(v17,v18) =>
   lp (u21L4 v18 v17 v14 v16 a1 a2 a0 g1) (0,[],v15)
 else
  u21J0 v16
def u21(a0:Int)(a1:List Y148)(a2:List Bool):Option (List (List Int)) :=
 gd ((0<=a0/\a0=a0/\a0.toNat*1<=281474976710656/\a0<=9223372036854775807)/\True) <|
 lp (u21L1 a1 a2 a0) (0,List.replicate a0.toNat false,[])
def k21:Ct:=lct 21 [.dat i64,.dat y148.sl,.dat Ty.bool.sl] (fun x=>u21 x.1 x.2.1 x.2.2.1) (fun r:List (List Int)=>AV.ow 33 true i64.sl r) (fun _=>())
theorem o21:Ok prog k21:=by
 refine okM [.tmp 6] func21 ?_;intro y ⟨a0,a1,a2,_⟩ r H Q hn hr;have:=hz (tc o49 (tc o48 tn));refine iA [0,1,2]<|iA [0,1,2,7]<|iB [0,1,2,7,8] H fun H=>jN r (fun(v30:List (List Int))=>Z [p 7 (O 14)] [(14,A 33 i64.sl v30 0)]) (u21J0) (fun v30 H=>?_) (fun _ n0 e0 t0=>?_)
 ·refine iA [6]<|vTT<|hr H
 refine iA [0,1,2,7,8,9]<|vB<|lX (fun((v14,v15,v16):Int×List Bool×List (List Int))=>Z (G2 a0 a1 a2 v14 []) (W9 v15 v16)) (0,List.replicate a0.toNat false,[]) H fun _ g1 b1 e1 t1 ⟨v14,v15,v16⟩ H=>vQ<|iA [0,1,2,7,8,9,19]<|cD H (fun H=>?_) (fun H=>?_)
 ·refine vK<|fQ<|jN r (fun((v28,v29):List Bool×List (List Int))=>Z (G2 a0 a1 a2 v14 []) (W9 v28 v29)) (u21J2 v14 g1) (fun⟨v28,v29⟩ H=>?_) (fun _ n2 e2 t2=>?_)
  ·refine jB [0,1,2,7,8,9] H fun H=>b1 H
  refine vB<|vQ<|iB [0,1,2,7,8,9,25] H fun H=>cD H (fun H=>vE<|fE<|fX rfl<|n2 H) fun H=>vK<|fQ<|qD (fun(v17,v18)=>Z (G2 a0 a1 a2 v14 [p 10 (O 30),p 11 (O 35)]) ((35,A 4 Ty.bool v17 0)::(30,A 4 Ty.bool v18 0)::W9 v15 v16)) H fun w H=>?_
  obtain⟨v17,v18⟩:=w;refine iA [0,1,2,7,8,9,10,11,12]<|jN r (fun((v26,v27):List Int×List Bool)=>Z (G2 a0 a1 a2 v14 [p 12 (O 36)]) ((36,A 2 i64 v26 0)::W9 v27 v16)) (u21J3 v14 v16 a1 a2 g1) (fun⟨v26,v27⟩ H=>?_) (fun _ n3 e3 t3=>?_)
  ·refine iB [0,1,2,7,8,9,12,67] H fun H=>cD H (fun H=>fZ 36 (Z (G2 a0 a1 a2 v14 [p 12 (M i64 v26),p 67 (B (decide (1 < (v26.length:Int))||vl (u49 a1 a2 v14)))]) (W9 v27 v16))<|jB [0,1,2,7,8,9] H fun H=>fK<|n2 H) fun H=>vK<|fK<|n2 H
  refine iA [0,1,2,7,8,9,10,11,12,13]<|vB<|lX (fun((v21,v22,v23):Int×List Int×List Bool)=>Z (G2 a0 a1 a2 v14 [p 10 (O 30),p 11 (O 35),p 12 (O 36),p 13 (I v21)]) ((36,A 2 i64 v22 0)::(35,A 4 Ty.bool v17 0)::(30,A 4 Ty.bool v18 0)::W9 v23 v16)) (0,[],v15) H fun _ g4 b4 e4 t4 ⟨v21,v22,v23⟩ H=>vQ<|iA [0,1,2,7,8,9,10,11,12,13,39]<|cD H (fun H=>?_) (fun H=>?_)
  ·refine vK<|fQ<|jN r (fun((v24,v25):List Bool×List Int)=>Z (G2 a0 a1 a2 v14 [p 10 (O 30),p 11 (O 35),p 12 (O 36),p 13 (I v21)]) [(16,A 4 Ty.bool v24 0),(36,A 2 i64 v25 0),(35,A 4 Ty.bool v17 0),(30,A 4 Ty.bool v18 0),(14,A 33 i64.sl v16 0)]) (u21J5 v21 g4) (fun⟨v24,v25⟩ H=>?_) (fun _ n5 e5 t5=>?_)
   ·refine jB [0,1,2,7,8,9,10,11,12,13] H fun H=>b4 H
   refine vB<|iB [0,1,2,7,8,9,10,11,12,13,51] H fun H=>cD H (fun H=>iB [0,1,2,7,8,9,10,11,12,13] H fun H=>jB [0,1,2,7,8,9,10,11,12,13] H fun H=>fK<|n5 H) fun H=>vK<|fK<|n5 H
  exact vE<|fE<|e4<|fX rfl<|n3 H
 exact vE<|fE<|e1<|fX rfl<|n0 H
def u51J0:Unit->Option Bool
 | _ =>
 some false
def u51L1(a0:List Int)(a1:Int)(g1:Int->Option Bool):Int->Option Bool
 | v0 =>
 if(decide (v0 < (a0.length:Int))) then
  gd (ix v0 a0.length/\True) <|
  if(a0.getD v0.toNat 0==a1) then
   some true
  else
   gd (in64 (v0+1)/\True) <|
   g1 (v0+1)
 else
  u51J0 ()
def u51(a0:List Int)(a1:Int):Option Bool :=
 lp (u51L1 a0 a1) 0
def k51:Ct:=lct 51 [.dat i64.sl,.dat i64] (fun x=>u51 x.1 x.2.1) (fun r:Bool=>B r) (fun _=>())
theorem o51:Ok prog k51:=by
 refine okM [.tmp 4] func51 ?_;intro y ⟨a0,a1,_⟩ r H Q hn hr;refine iA [0,1]<|jN r (fun(_:Unit)=>Z [] []) (u51J0) (fun _ H=>?_) (fun _ n0 e0 t0=>?_)
 ·refine iA [4]<|vTT<|hr H
 refine iA [0,1,5]<|vB<|lX (fun(v0:Int)=>Z [p 0 (L i64 a0),p 1 (J a1),p 5 (I v0)] []) 0 H fun _ g1 b1 e1 t1 v0 H=>vQ<|iA [0,1,5,9]<|cD H (fun H=>?_) (fun H=>?_)
 ·refine vK<|fQ<|vQ<|vB<|iB [0,1,5,17] H fun H=>cD H (fun H=>iA [4]<|vTT<|fDD<|fR<|t1<|fDD<|t0<|hr H) fun H=>vK<|fK<|fQ<|jB [0,1,5] H fun H=>b1 H
 exact vE<|fE<|e1<|fX rfl<|n0 H
def u23J0:List Bool->Option (List Bool)
 | v2 =>
 some v2
def u23L1(a1:List Int)(a0:List Y148)(g1:Int×List Bool->Option (List Bool)):Int×List Bool->Option (List Bool)
 | (v0,v1) =>
 if(decide (v0 < (a0.length:Int))) then
  gd ((u51 a1 v0).isSome/\(v1.length+[!vl (u51 a1 v0)].length<=9223372036854775807/\(v1.length+[!vl (u51 a1 v0)].length)*1<=140737488355328)/\True) <|
  gd (in64 (v0+1)/\True) <|
  g1 ((v0+1,v1++[!vl (u51 a1 v0)]))
 else
  u23J0 v1
def u23(a0:List Y148)(a1:List Int):Option (List Bool) :=
 lp (u23L1 a1 a0) (0,[])
def k23:Ct:=lct 23 [.dat y148.sl,.dat i64.sl] (fun x=>u23 x.1 x.2.1) (fun r:List Bool=>AV.ow 4 true Ty.bool r) (fun _=>())
theorem o23:Ok prog k23:=by
 refine okM [.tmp 4] func23 ?_;intro y ⟨a0,a1,_⟩ r H Q hn hr;have:=hz (tc o51 tn);refine iA [0,1]<|iA [0,1,5]<|jN r (fun(v2:List Bool)=>Z [p 5 (O 7)] [(7,A 4 Ty.bool v2 0)]) (u23J0) (fun v2 H=>?_) (fun _ n0 e0 t0=>?_)
 ·refine iA [4]<|vTT<|hr H
 refine iA [0,1,5,6]<|vB<|lX (fun((v0,v1):Int×List Bool)=>Z [p 0 (L y148 a0),p 1 (L i64 a1),p 5 (O 7),p 6 (I v0)] [(7,A 4 Ty.bool v1 0)]) (0,[]) H fun _ g1 b1 e1 t1 ⟨v0,v1⟩ H=>vQ<|iA [0,1,5,6,11]<|cD H (fun H=>vK<|fQ<|vQ<|vB<|jB [0,1,5,6] H fun H=>fK<|fQ<|jB [0,1,5,6] H fun H=>b1 H) fun H=>vE<|fE<|e1<|fX rfl<|n0 H
def u50J4:List Y146->Option (List Y146)
 | v25 =>
 some v25
def u50L5(a0:Y44)(g5:Int×List Y146->Option (List Y146)):Int×List Y146->Option (List Y146)
 | (v21,v22) =>
 if(decide (v21 < (a0.2.2.length:Int))) then
  gd (ix v21 a0.2.2.length/\ix v21 a0.2.2.length/\(v22.length+[(-1,v21,(a0.2.2.getD v21.toNat (dflt y149)).2.2,(a0.2.2.getD v21.toNat (dflt y149)).2.1==1)].length<=9223372036854775807/\(v22.length+[(-1,v21,(a0.2.2.getD v21.toNat (dflt y149)).2.2,(a0.2.2.getD v21.toNat (dflt y149)).2.1==1)].length)*32<=140737488355328)/\True)<|lt ((v22++[(-1,v21,(a0.2.2.getD v21.toNat (dflt y149)).2.2,(a0.2.2.getD v21.toNat (dflt y149)).2.1==1)],[(-1,v21,(a0.2.2.getD v21.toNat (dflt y149)).2.2,(a0.2.2.getD v21.toNat (dflt y149)).2.1==1)])) fun(v23,_) =>
  gd (in64 (v21+1)/\True) <|
  g5 (v21+1,v23)
 else
  u50J4 v22
def u50J0(a0:Y44):List Y146->Option (List Y146)
 | v18 =>
 lp (u50L5 a0) (0,v18)
def u50J2(v8:Int)(g1:Int×List Y146->Option (List Y146)):List Y146->Option (List Y146)
 | v17 =>
 gd (in64 (v8+1)/\True) <|
 g1 (v8+1,v17)
def u50L3(v8:Int)(v10:Y94)(g1:Int×List Y146->Option (List Y146))(g3:Int×List Y146->Option (List Y146)):Int×List Y146->Option (List Y146)
 | (v13,v14) =>
 if(decide (v13 < (v10.2.2.length:Int))) then
  gd (ix v13 v10.2.2.length/\in64 ((v10.2.2.length:Int)-1)/\(v14.length+[(v8,v13,v10.2.2.getD v13.toNat 0,v13==(v10.2.2.length:Int)-1)].length<=9223372036854775807/\(v14.length+[(v8,v13,v10.2.2.getD v13.toNat 0,v13==(v10.2.2.length:Int)-1)].length)*32<=140737488355328)/\True)<|lt ((v14++[(v8,v13,v10.2.2.getD v13.toNat 0,v13==(v10.2.2.length:Int)-1)],[(v8,v13,v10.2.2.getD v13.toNat 0,v13==(v10.2.2.length:Int)-1)])) fun(v15,_) =>
  gd (in64 (v13+1)/\True) <|
  g3 (v13+1,v15)
 else
  u50J2 v8 g1 v14
def u50L1(a0:Y44)(g1:Int×List Y146->Option (List Y146)):Int×List Y146->Option (List Y146)
 | (v8,v9) =>
 if(decide (v8 < (a0.1.length:Int))) then
  gd (ix v8 a0.1.length/\True)<|lt (a0.1.getD v8.toNat (dflt y94)) fun v10 =>
  lp (u50L3 v8 v10 g1) (0,v9)
 else
  u50J0 a0 v9
def u50(a0:Y44):Option (List Y146) :=
 lp (u50L1 a0) (0,[])
def k50:Ct:=lct 50 [.agg y44] (fun x=>u50 x.1) (fun r:List Y146=>AV.ow 146 true y146 r) (fun _=>())
theorem o50:Ok prog k50:=by
 refine okM [.tmp 2] func50 ?_;intro y ⟨a0,_⟩ r H Q hn hr;refine iA [1]<|iA [1,3]<|jN r (fun(v18:List Y146)=>Z [p 1 (R 1),p 3 (O 8)] [(8,A 146 y146 v18 0),(1,K 44 y44 a0)]) (u50J0 a0) (fun v18 H=>?_) (fun _ n0 e0 t0=>?_)
 ·refine jN r (fun(v25:List Y146)=>Z [p 3 (O 8)] [(8,A 146 y146 v25 0)]) (u50J4) (fun v25 H=>?_) (fun _ n4 e4 t4=>?_)
  ·refine iA [2]<|vTT<|hr H
  refine iA [1,3,7]<|vB<|lX (fun((v21,v22):Int×List Y146)=>Z [p 1 (R 1),p 3 (O 8),p 7 (I v21)] [(8,A 146 y146 v22 0),(1,K 44 y44 a0)]) (0,v18) H fun _ g5 b5 e5 t5 ⟨v21,v22⟩ H=>vQ<|iA [1,3,7,47]<|cD H (fun H=>?_) (fun H=>?_)
  ·refine vK<|fQ<|vQ<|vB<|zD (fun(v23,v24)=>Z [p 1 (R 1),p 3 (AV.os 8 1),p 7 (I v21)] [(8,A 146 y146 v23 1),(66,A 146 y146 v24 0),(1,K 44 y44 a0)]) H fun⟨v23,v24⟩ H =>
    fK<|fQ <|
    jB [1,3,7] H fun H =>
    b5 H
  exact vE<|fE<|e5<|fX rfl<|n4 H
 refine iA [1,3,4]<|vB<|lX (fun((v8,v9):Int×List Y146)=>Z [p 1 (R 1),p 3 (O 8),p 4 (I v8)] [(8,A 146 y146 v9 0),(1,K 44 y44 a0)]) (0,[]) H fun _ g1 b1 e1 t1 ⟨v8,v9⟩ H=>vQ<|iA [1,3,4,13]<|cD H (fun H=>?_) (fun H=>?_)
 ·refine vK<|fQ<|jN r (fun(v17:List Y146)=>Z [p 1 (R 1),p 3 (O 8),p 4 (I v8)] [(8,A 146 y146 v17 0),(1,K 44 y44 a0)]) (u50J2 v8 g1) (fun v17 H=>?_) (fun _ n2 e2 t2=>?_)
  ·refine jB [1,3,4] H fun H=>b1 H
  refine vB<|qD (fun v10=>Z [p 1 (R 1),p 3 (O 8),p 4 (I v8),p 5 (L i64 v10.2.2)] [(8,A 146 y146 v9 0),(1,K 44 y44 a0)]) H fun v10 H=>iA [1,3,4,5,6]<|vB<|lX (fun((v13,v14):Int×List Y146)=>Z [p 1 (R 1),p 3 (O 8),p 4 (I v8),p 5 (L i64 v10.2.2),p 6 (I v13)] [(8,A 146 y146 v14 0),(1,K 44 y44 a0)]) (0,v9) H fun _ g3 b3 e3 t3 ⟨v13,v14⟩ H=>vQ<|iA [1,3,4,5,6,25]<|cD H (fun H=>?_) (fun H=>?_)
  ·refine vK<|fQ<|vQ<|vB<|zD (fun(v15,v16)=>Z [p 1 (R 1),p 3 (AV.os 8 1),p 4 (I v8),p 5 (L i64 v10.2.2),p 6 (I v13)] [(8,A 146 y146 v15 1),(41,A 146 y146 v16 0),(1,K 44 y44 a0)]) H fun⟨v15,v16⟩ H =>
    fK<|fQ <|
    jB [1,3,4,5,6] H fun H =>
    b3 H
  exact vE<|fE<|e3<|fX rfl<|fK<|n2 H
 exact vE<|fE<|e1<|fX rfl<|n0 H
def u22(a0:Y47):Option Int :=
 gd ((u50 a0.2.1).isSome/\in64 (2*(↑(vl (u50 a0.2.1)).length:Int))/\True)<|lt (vl (u50 a0.2.1)) fun v0 =>
 some (2*(v0.length:Int))
def k22:Ct:=lct 22 [.agg y47] (fun x=>u22 x.1) (fun r:Int=>I r) (fun _=>())
theorem o22:Ok prog k22:=by
 refine okM [.tmp 2] func22 ?_;intro y ⟨_,_⟩ r H Q hn hr;have:=hz (tc o50 tn);refine iA [1]<|iD o50 [2] H fun _ H=>vTT<|hr H
def u47(a0:List Y148)(a1:Int)(a2:Int)(a3:Int)(a4:Int)(a5:Int)(a6:Int):Option (List Y148) :=
 gd (in64 (2*a1)/\in64 (2*a1+a3)/\in64 (2*a2)/\in64 (2*a2+a4)/\(a0.length+[(2*a1+a3,2*a2+a4,a5,a6)].length<=9223372036854775807/\(a0.length+[(2*a1+a3,2*a2+a4,a5,a6)].length)*32<=140737488355328)/\True) <|
 some (a0++[(2*a1+a3,2*a2+a4,a5,a6)])
def k47:Ct:=lct 47 [.os 148 y148,.dat i64,.dat i64,.dat i64,.dat i64,.dat i64,.dat i64] (fun x=>u47 x.1 x.2.1 x.2.2.1 x.2.2.2.1 x.2.2.2.2.1 x.2.2.2.2.2.1 x.2.2.2.2.2.2.1) (fun r:List Y148=>AV.ow 148 true y148 r) (fun _=>())
theorem o47:Ok prog k47:=by
 refine okM [.tmp 14] func47 ?_;intro y ⟨_,_,_,_,_,_,_,_⟩ r H Q hn hr;refine iA [0,1,2,3,4,5,6]<|iB [14] H fun H=>vTT<|hr H
def u46J0:List Int->Option (List Int)
 | v5 =>
 some v5
def u46J2(v2:Int)(g1:Int×List Int->Option (List Int)):List Int->Option (List Int)
 | v4 =>
 gd (in64 (v2+1)/\True) <|
 g1 (v2+1,v4)
def u46L1(v0:List Y146)(a1:Int)(g1:Int×List Int->Option (List Int)):Int×List Int->Option (List Int)
 | (v2,v3) =>
 if(decide (v2 < (v0.length:Int))) then
  gd (ix v2 v0.length/\v2.toNat<v0.length/\(((v0.getD v2.toNat (dflt y146)).2.2.1==a1)=true/\True->ix v2 v0.length)/\(((v0.getD v2.toNat (dflt y146)).2.2.1==a1)=true/\True->v2.toNat<v0.length)/\True) <|
  if((v0.getD v2.toNat (dflt y146)).2.2.1==a1&&!(v0.getD v2.toNat (dflt y146)).2.2.2) then
   gd ((v3.length+[v2].length<=9223372036854775807/\(v3.length+[v2].length)*8<=140737488355328)/\True) <|
   u46J2 v2 g1 (v3++[v2])
  else
   u46J2 v2 g1 v3
 else
  u46J0 v3
def u46(a0:Y44)(a1:Int):Option (List Int) :=
 gd ((u50 a0).isSome/\True)<|lt (vl (u50 a0)) fun v0 =>
 lp (u46L1 v0 a1) (0,[])
def k46:Ct:=lct 46 [.agg y44,.dat i64] (fun x=>u46 x.1 x.2.1) (fun r:List Int=>AV.ow 2 true i64 r) (fun _=>())
theorem o46:Ok prog k46:=by
 refine okM [.tmp 4] func46 ?_;intro y ⟨_,a1,_⟩ r H Q hn hr;have:=hz (tc o50 tn);refine iA [1,2]<|iA [1,2,5]<|iD o50 [1,5,6] H fun v0 H=>jN r (fun(v5:List Int)=>Z [p 5 (O 8)] [(8,A 2 i64 v5 0)]) (u46J0) (fun v5 H=>?_) (fun _ n0 e0 t0=>?_)
 ·refine iA [4]<|vTT<|hr H
 refine iA [1,5,6,7]<|vB<|lX (fun((v2,v3):Int×List Int)=>Z [p 1 (J a1),p 5 (O 8),p 6 (O 10),p 7 (I v2)] [(10,A 146 y146 v0 0),(8,A 2 i64 v3 0)]) (0,[]) H fun _ g1 b1 e1 t1 ⟨v2,v3⟩ H=>vQ<|iA [1,5,6,7,14]<|cD H (fun H=>?_) (fun H=>?_)
 ·refine vK<|fQ<|jN r (fun(v4:List Int)=>Z [p 1 (J a1),p 5 (O 8),p 6 (O 10),p 7 (I v2)] [(8,A 2 i64 v4 0),(10,A 146 y146 v0 0)]) (u46J2 v2 g1) (fun v4 H=>?_) (fun _ n2 e2 t2=>?_)
  ·refine jB [1,5,6,7] H fun H=>b1 H
  refine vB<|iB [1,5,6,7,31] H fun H=>cD H (fun H=>jB [1,5,6,7] H fun H=>fK<|n2 H) fun H=>vK<|fK<|n2 H
 exact vE<|fE<|e1<|fX rfl<|n0 H
def u45J0:Unit->Option Int
 | _ =>
 some (-1)
def u45L1(v0:List Y146)(a1:Int)(g1:Int->Option Int):Int->Option Int
 | v1 =>
 if(decide (v1 < (v0.length:Int))) then
  gd (ix v1 v0.length/\v1.toNat<v0.length/\(((v0.getD v1.toNat (dflt y146)).2.2.1==a1)=true/\True->ix v1 v0.length)/\(((v0.getD v1.toNat (dflt y146)).2.2.1==a1)=true/\True->v1.toNat<v0.length)/\True) <|
  if((v0.getD v1.toNat (dflt y146)).2.2.1==a1&&(v0.getD v1.toNat (dflt y146)).2.2.2) then
   some v1
  else
   gd (in64 (v1+1)/\True) <|
   g1 (v1+1)
 else
  u45J0 ()
def u45(a0:Y44)(a1:Int):Option Int :=
 gd ((u50 a0).isSome/\True)<|lt (vl (u50 a0)) fun v0 =>
 lp (u45L1 v0 a1) 0
def k45:Ct:=lct 45 [.agg y44,.dat i64] (fun x=>u45 x.1 x.2.1) (fun r:Int=>I r) (fun _=>())
theorem o45:Ok prog k45:=by
 refine okM [.tmp 4] func45 ?_;intro y ⟨_,a1,_⟩ r H Q hn hr;have:=hz (tc o50 tn);refine iA [1,2]<|iD o50 [1,5] H fun v0 H=>jN r (fun(_:Unit)=>Z [] []) (u45J0) (fun _ H=>?_) (fun _ n0 e0 t0=>?_)
 ·refine iA [4]<|vTT<|hr H
 refine iA [1,5,6]<|vB<|lX (fun(v1:Int)=>Z [p 1 (J a1),p 5 (O 8),p 6 (I v1)] [(8,A 146 y146 v0 0)]) 0 H fun _ g1 b1 e1 t1 v1 H=>vQ<|iA [1,5,6,12]<|cD H (fun H=>?_) (fun H=>?_)
 ·refine vK<|fQ<|vQ<|vB<|iB [1,5,6,28] H fun H=>cD H (fun H=>iA [4]<|vTT<|fDD<|fR<|t1<|fDD<|t0<|hr H) fun H=>vK<|fK<|fQ<|jB [1,5,6] H fun H=>b1 H
 exact vE<|fE<|e1<|fX rfl<|n0 H
def u43J0:List Y148->Option (List Y148)
 | v20 =>
 some v20
def u43J2(v9:Int)(g1:Int×List Y148->Option (List Y148)):List Y148->Option (List Y148)
 | v19 =>
 gd (in64 (v9+1)/\True) <|
 g1 (v9+1,v19)
def u43J4(v14:Int)(g3:Int×List Y148->Option (List Y148)):List Y148->Option (List Y148)
 | v18 =>
 gd (in64 (v14+1)/\True) <|
 g3 (v14+1,v18)
def u43J5(v14:Int)(v15:List Y148)(a2:Int)(a3:Int)(v9:Int)(a4:Int)(g3:Int×List Y148->Option (List Y148)):Bool->Option (List Y148)
 | v16 =>
 if v16 then
  gd ((u47 v15 a2 a3 v9 v14 1 a4).isSome/\True)<|lt (vl (u47 v15 a2 a3 v9 v14 1 a4)) fun v17 =>
  u43J4 v14 g3 v17
 else
  u43J4 v14 g3 v15
def u43L3(a2:Int)(a3:Int)(v9:Int)(a4:Int)(a1:Y97)(g1:Int×List Y148->Option (List Y148))(g3:Int×List Y148->Option (List Y148)):Int×List Y148->Option (List Y148)
 | (v14,v15) =>
 if(decide (v14<=1)) then
  if(a1.1==1) then
   u43J5 v14 v15 a2 a3 v9 a4 g3 (a1.2.2.2.1==3||(a1.2.2.2.1==1)==(v9==v14))
  else
   if(a1.1==2) then
    u43J5 v14 v15 a2 a3 v9 a4 g3 (v9==0)
   else
    if(a1.1==3) then
     u43J5 v14 v15 a2 a3 v9 a4 g3 (v9==1)
    else
     u43J5 v14 v15 a2 a3 v9 a4 g3 false
 else
  u43J2 v9 g1 v15
def u43L1(a2:Int)(a3:Int)(a4:Int)(a1:Y97)(g1:Int×List Y148->Option (List Y148)):Int×List Y148->Option (List Y148)
 | (v9,v10) =>
 if(decide (v9<=1)) then
  lp (u43L3 a2 a3 v9 a4 a1 g1) (0,v10)
 else
  u43J0 v10
def u43(a0:List Y148)(a1:Y97)(a2:Int)(a3:Int)(a4:Int):Option (List Y148) :=
 lp (u43L1 a2 a3 a4 a1) (0,a0)
def k43:Ct:=lct 43 [.os 148 y148,.agg y97,.dat i64,.dat i64,.dat i64] (fun x=>u43 x.1 x.2.1 x.2.2.1 x.2.2.2.1 x.2.2.2.2.1) (fun r:List Y148=>AV.ow 148 true y148 r) (fun _=>())
theorem o43:Ok prog k43:=by
 refine okM [.tmp 10] func43 ?_;intro y ⟨a0,a1,a2,a3,a4,_⟩ r H Q hn hr;have:=hz (tc o47 tn);refine iA [0,2,3,4,6]<|jN r (fun(v20:List Y148)=>Z [p 0 (O 500000)] [(500000,A 148 y148 v20 0)]) (u43J0) (fun v20 H=>?_) (fun _ n0 e0 t0=>?_)
 ·refine iA [10]<|vTT<|hr H
 refine iA [0,2,3,4,6,11]<|vB<|lX (fun((v9,v10):Int×List Y148)=>Z (G6 a2 a3 a4 v9 []) [(6,K 97 y97 a1),(500000,A 148 y148 v10 0)]) (0,a0) H fun _ g1 b1 e1 t1 ⟨v9,v10⟩ H=>vQ<|iA [0,2,3,4,6,11,15]<|cD H (fun H=>?_) (fun H=>?_)
 ·refine vK<|fQ<|jN r (fun(v19:List Y148)=>Z (G6 a2 a3 a4 v9 []) [(6,K 97 y97 a1),(500000,A 148 y148 v19 0)]) (u43J2 v9 g1) (fun v19 H=>?_) (fun _ n2 e2 t2=>?_)
  ·refine jB [0,2,3,4,6,11] H fun H=>b1 H
  refine vB<|iA [0,2,3,4,6,11,12]<|vB<|lX (fun((v14,v15):Int×List Y148)=>Z (G6 a2 a3 a4 v9 [p 12 (I v14)]) [(6,K 97 y97 a1),(500000,A 148 y148 v15 0)]) (0,v10) H fun _ g3 b3 e3 t3 ⟨v14,v15⟩ H=>vQ<|iA [0,2,3,4,6,11,12,19]<|cD H (fun H=>?_) (fun H=>?_)
  ·refine vK<|fQ<|jN r (fun(v18:List Y148)=>Z (G6 a2 a3 a4 v9 [p 12 (I v14)]) [(500000,A 148 y148 v18 0),(6,K 97 y97 a1)]) (u43J4 v14 g3) (fun v18 H=>?_) (fun _ n4 e4 t4=>?_)
   ·refine jB [0,2,3,4,6,11,12] H fun H=>b3 H
   refine vB<|iA [0,2,3,4,6,11,12,13]<|jN r (fun(v16:Bool)=>Z (G6 a2 a3 a4 v9 [p 12 (I v14),p 13 (B v16)]) [(6,K 97 y97 a1),(500000,A 148 y148 v15 0)]) (u43J5 v14 v15 a2 a3 v9 a4 g3) (fun v16 H=>?_) (fun _ n5 e5 t5=>?_)
   ·refine iA [0,2,3,4,6,11,12,46]<|cD H (fun H=>jD o47 [0,2,3,4,6,11,12] H fun _ H=>fK<|n4 H) fun H=>vK<|fK<|n4 H
   refine iA [0,2,3,4,6,11,12,13,23]<|vB<|iA [0,2,3,4,6,11,12,13,23,24]<|cD H (fun H=>jA [0,2,3,4,6,11,12,13]<|fK<|n5 H) fun H=>iA [0,2,3,4,6,11,12,13,23,38]<|cD H (fun H=>jA [0,2,3,4,6,11,12,13]<|fK<|n5 H) fun H=>iA [0,2,3,4,6,11,12,13,42]<|cD H (fun H=>jA [0,2,3,4,6,11,12,13]<|fK<|n5 H) fun H=>vK<|fK<|n5 H
  exact vE<|fE<|e3<|fX rfl<|fK<|n2 H
 exact vE<|fE<|e1<|fX rfl<|n0 H
def u44J0:Unit->Option Int
 | _ =>
 some (-1)
def u44L1(v0:List Y146)(a1:Int)(a2:Int)(g1:Int->Option Int):Int->Option Int
 | v1 =>
 if(decide (v1 < (v0.length:Int))) then
  gd (ix v1 v0.length/\v1.toNat<v0.length/\(((v0.getD v1.toNat (dflt y146)).1==a1)=true/\True->ix v1 v0.length)/\(((v0.getD v1.toNat (dflt y146)).1==a1)=true/\True->v1.toNat<v0.length)/\True) <|
  if((v0.getD v1.toNat (dflt y146)).1==a1&&(v0.getD v1.toNat (dflt y146)).2.1==a2) then
   some v1
  else
   gd (in64 (v1+1)/\True) <|
   g1 (v1+1)
 else
  u44J0 ()
def u44(a0:Y44)(a1:Int)(a2:Int):Option Int :=
 gd ((u50 a0).isSome/\True)<|lt (vl (u50 a0)) fun v0 =>
 lp (u44L1 v0 a1 a2) 0
def k44:Ct:=lct 44 [.agg y44,.dat i64,.dat i64] (fun x=>u44 x.1 x.2.1 x.2.2.1) (fun r:Int=>I r) (fun _=>())
theorem o44:Ok prog k44:=by
 refine okM [.tmp 6] func44 ?_;intro y ⟨_,a1,a2,_⟩ r H Q hn hr;have:=hz (tc o50 tn);refine iA [1,2,3]<|iD o50 [1,2,7] H fun v0 H=>jN r (fun(_:Unit)=>Z [] []) (u44J0) (fun _ H=>?_) (fun _ n0 e0 t0=>?_)
 ·refine iA [6]<|vTT<|hr H
 refine iA [1,2,7,8]<|vB<|lX (fun(v1:Int)=>Z [p 1 (J a1),p 2 (J a2),p 7 (O 10),p 8 (I v1)] [(10,A 146 y146 v0 0)]) 0 H fun _ g1 b1 e1 t1 v1 H=>vQ<|iA [1,2,7,8,14]<|cD H (fun H=>?_) (fun H=>?_)
 ·refine vK<|fQ<|vQ<|vB<|iB [1,2,7,8,32] H fun H=>cD H (fun H=>iA [6]<|vTT<|fDD<|fR<|t1<|fDD<|t0<|hr H) fun H=>vK<|fK<|fQ<|jB [1,2,7,8] H fun H=>b1 H
 exact vE<|fE<|e1<|fX rfl<|n0 H
def u20J5:List Y148->Option (List Y148)
 | v39 =>
 some v39
def u20J7(v28:Int)(g6:Int×List Y148->Option (List Y148)):List Y148->Option (List Y148)
 | v38 =>
 gd (in64 (v28+1)/\True) <|
 g6 (v28+1,v38)
def u20L8(v30:Int)(v31:List Int)(v28:Int)(g6:Int×List Y148->Option (List Y148))(g8:Int×List Y148->Option (List Y148)):Int×List Y148->Option (List Y148)
 | (v34,v35) =>
 if(decide (v34 < (v31.length:Int))) then
  gd (ix v34 v31.length/\v34.toNat<v31.length/\(u47 v35 v30 (v31.getD v34.toNat 0) 0 0 2 v34).isSome/\True)<|lt (vl (u47 v35 v30 (v31.getD v34.toNat 0) 0 0 2 v34)) fun v36 =>
  gd (ix v34 v31.length/\v34.toNat<v31.length/\(u47 v36 v30 (v31.getD v34.toNat 0) 1 1 2 v34).isSome/\True)<|lt (vl (u47 v36 v30 (v31.getD v34.toNat 0) 1 1 2 v34)) fun v37 =>
  gd (in64 (v34+1)/\True) <|
  g8 (v34+1,v37)
 else
  u20J7 v28 g6 v35
def u20L6(a0:Y47)(g6:Int×List Y148->Option (List Y148)):Int×List Y148->Option (List Y148)
 | (v28,v29) =>
 if(decide (v28 < (a0.2.1.2.1.length:Int))) then
  gd ((u45 a0.2.1 v28).isSome/\True)<|lt (vl (u45 a0.2.1 v28)) fun v30 =>
  gd ((u46 a0.2.1 v28).isSome/\True)<|lt (vl (u46 a0.2.1 v28)) fun v31 =>
  lp (u20L8 v30 v31 v28 g6) (0,v29)
 else
  u20J5 v29
def u20J0(a0:Y47):List Y148->Option (List Y148)
 | v18 =>
 lp (u20L6 a0) (0,v18)
def u20J2(v8:Int)(g1:Int×List Y148->Option (List Y148)):List Y148->Option (List Y148)
 | v17 =>
 gd (in64 (v8+1)/\True) <|
 g1 (v8+1,v17)
def u20J4(v13:Int)(g3:Int×List Y148->Option (List Y148)):List Y148->Option (List Y148)
 | v16 =>
 gd (in64 (v13+1)/\True) <|
 g3 (v13+1,v16)
def u20L3(v10:Y92)(a0:Y47)(v8:Int)(g1:Int×List Y148->Option (List Y148))(g3:Int×List Y148->Option (List Y148)):Int×List Y148->Option (List Y148)
 | (v13,v14) =>
 if(decide (v13 < (v10.2.2.2.1.length:Int))) then
  gd (ix v13 v10.2.2.2.1.length/\True) <|
  if(decide ((v10.2.2.2.1.getD v13.toNat (dflt y97)).1<=3)) then
   gd (ix v13 v10.2.2.2.1.length/\ix v13 v10.2.2.2.1.length/\(u44 a0.2.1 v8 (v10.2.2.2.1.getD v13.toNat (dflt y97)).2.1).isSome/\ix v13 v10.2.2.2.1.length/\(u44 a0.2.1 v8 (v10.2.2.2.1.getD v13.toNat (dflt y97)).2.2.1).isSome/\(u43 v14 (v10.2.2.2.1.getD v13.toNat (dflt y97)) (vl (u44 a0.2.1 v8 (v10.2.2.2.1.getD v13.toNat (dflt y97)).2.1)) (vl (u44 a0.2.1 v8 (v10.2.2.2.1.getD v13.toNat (dflt y97)).2.2.1)) v13).isSome/\True)<|lt (vl (u43 v14 (v10.2.2.2.1.getD v13.toNat (dflt y97)) (vl (u44 a0.2.1 v8 (v10.2.2.2.1.getD v13.toNat (dflt y97)).2.1)) (vl (u44 a0.2.1 v8 (v10.2.2.2.1.getD v13.toNat (dflt y97)).2.2.1)) v13)) fun v15 =>
   u20J4 v13 g3 v15
  else
   u20J4 v13 g3 v14
 else
  u20J2 v8 g1 v14
def u20L1(a0:Y47)(g1:Int×List Y148->Option (List Y148)):Int×List Y148->Option (List Y148)
 | (v8,v9) =>
 if(decide (v8 < (a0.2.1.1.length:Int))) then
  gd (ix v8 a0.2.1.1.length/\ix (a0.2.1.1.getD v8.toNat (dflt y94)).2.1 a0.1.length/\True)<|lt (a0.1.getD (a0.2.1.1.getD v8.toNat (dflt y94)).2.1.toNat (dflt y92)) fun v10 =>
  lp (u20L3 v10 a0 v8 g1) (0,v9)
 else
  u20J0 a0 v9
def u20(a0:Y47):Option (List Y148) :=
 lp (u20L1 a0) (0,[])
def k20:Ct:=lct 20 [.agg y47] (fun x=>u20 x.1) (fun r:List Y148=>AV.ow 148 true y148 r) (fun _=>())
theorem o20:Ok prog k20:=by
 refine okM [.tmp 2] func20 ?_;intro y ⟨a0,_⟩ r H Q hn hr;have:=hz (tc o47 (tc o46 (tc o45 (tc o43 (tc o44 tn)))));refine iA [1]<|iA [1,3]<|iA [1,3,4]<|jN r (fun(v18:List Y148)=>Z [p 3 (O 12),p 4 (R 4)] [(4,K 44 y44 a0.2.1),(12,A 148 y148 v18 0)]) (u20J0 a0) (fun v18 H=>?_) (fun _ n0 e0 t0=>?_)
 ·refine jN r (fun(v39:List Y148)=>Z [p 3 (O 12)] [(12,A 148 y148 v39 0)]) (u20J5) (fun v39 H=>?_) (fun _ n5 e5 t5=>?_)
  ·refine iA [2]<|vTT<|hr H
  refine iA [3,4,8]<|vB<|lX (fun((v28,v29):Int×List Y148)=>Z [p 3 (O 12),p 4 (R 4),p 8 (I v28)] [(4,K 44 y44 a0.2.1),(12,A 148 y148 v29 0)]) (0,v18) H fun _ g6 b6 e6 t6 ⟨v28,v29⟩ H=>vQ<|iA [3,4,8,73]<|cD H (fun H=>?_) (fun H=>?_)
  ·refine vK<|fQ<|jN r (fun(v38:List Y148)=>Z [p 3 (O 12),p 4 (R 4),p 8 (I v28)] [(4,K 44 y44 a0.2.1),(12,A 148 y148 v38 0)]) (u20J7 v28 g6) (fun v38 H=>?_) (fun _ n7 e7 t7=>?_)
   ·refine jB [3,4,8] H fun H=>b6 H
   refine vB<|iD o45 [3,4,8,9] H fun v30 H=>iD o46 [3,4,8,9,10] H fun v31 H=>iA [3,4,8,9,10,11]<|vB<|lX (fun((v34,v35):Int×List Y148)=>Z [p 3 (O 12),p 4 (R 4),p 8 (I v28),p 9 (I v30),p 10 (O 81),p 11 (I v34)] [(81,A 2 i64 v31 0),(4,K 44 y44 a0.2.1),(12,A 148 y148 v35 0)]) (0,v29) H fun _ g8 b8 e8 t8 ⟨v34,v35⟩ H=>vQ<|iA [3,4,8,9,10,11,85]<|cD H (fun H=>vK<|fQ<|vQ<|vB<|iD o47 [3,4,8,9,10,11] H fun _ H=>jD o47 [3,4,8,9,10,11] H fun _ H=>fK<|fQ<|jB [3,4,8,9,10,11] H fun H=>b8 H) fun H=>vE<|fE<|e8<|fX rfl<|fK<|n7 H
  exact vE<|fE<|e6<|fX rfl<|n5 H
 refine iA [1,3,4,5]<|vB<|lX (fun((v8,v9):Int×List Y148)=>Z (G10 v8 []) [(4,K 44 y44 a0.2.1),(12,A 148 y148 v9 0),(1,K 47 y47 a0)]) (0,[]) H fun _ g1 b1 e1 t1 ⟨v8,v9⟩ H=>vQ<|iA [1,3,4,5,19]<|cD H (fun H=>?_) (fun H=>?_)
 ·refine vK<|fQ<|jN r (fun(v17:List Y148)=>Z (G10 v8 []) [(4,K 44 y44 a0.2.1),(12,A 148 y148 v17 0),(1,K 47 y47 a0)]) (u20J2 v8 g1) (fun v17 H=>?_) (fun _ n2 e2 t2=>?_)
  ·refine jB [1,3,4,5] H fun H=>b1 H
  refine vB<|qD (fun v10=>Z (G10 v8 [p 6 (L y97 v10.2.2.2.1)]) [(4,K 44 y44 a0.2.1),(12,A 148 y148 v9 0),(1,K 47 y47 a0)]) H fun v10 H=>iA [1,3,4,5,6,7]<|vB<|lX (fun((v13,v14):Int×List Y148)=>Z (G10 v8 [p 6 (L y97 v10.2.2.2.1),p 7 (I v13)]) [(4,K 44 y44 a0.2.1),(12,A 148 y148 v14 0),(1,K 47 y47 a0)]) (0,v9) H fun _ g3 b3 e3 t3 ⟨v13,v14⟩ H=>vQ<|iA [1,3,4,5,6,7,37]<|cD H (fun H=>?_) (fun H=>?_)
  ·refine vK<|fQ<|jN r (fun(v16:List Y148)=>Z (G10 v8 [p 6 (L y97 v10.2.2.2.1),p 7 (I v13)]) [(12,A 148 y148 v16 0),(4,K 44 y44 a0.2.1),(1,K 47 y47 a0)]) (u20J4 v13 g3) (fun v16 H=>?_) (fun _ n4 e4 t4=>?_)
   ·refine jB [1,3,4,5,6,7] H fun H=>b3 H
   refine vB<|iB [1,3,4,5,6,7,45] H fun H=>cD H (fun H=>jD o43 [1,3,4,5,6,7] H fun _ H=>fK<|n4 H) fun H=>vK<|fK<|n4 H
  exact vE<|fE<|e3<|fX rfl<|fK<|n2 H
 exact vE<|fE<|e1<|fX rfl<|n0 H
def u80(a0:Int)(a1:Int)(a2:Int):Option Bool :=
 some (decide (a1<=a0)&&decide (a0<=a2))
def k80:Ct:=lct 80 [.dat i64,.dat i64,.dat i64] (fun x=>u80 x.1 x.2.1 x.2.2.1) (fun r:Bool=>B r) (fun _=>())
theorem o80:Ok prog k80:=by
 refine okM [.tmp 6] func80 ?_;intro y ⟨_,_,_,_⟩ r H Q hn hr;refine iA [0,1,2]<|iA [6]<|vTT<|hr H
def u42J0:Unit->Option Bool
 | _ =>
 some true
def u42L1(a0:List Int)(a1:Int)(g1:Int->Option Bool):Int->Option Bool
 | v0 =>
 if(decide (v0 < (a0.length:Int))) then
  gd (ix v0 a0.length/\in64 (a1-1)/\(u80 (a0.getD v0.toNat 0) 0 (a1-1)).isSome/\(decide (0<v0)=true/\(!vl (u80 (a0.getD v0.toNat 0) 0 (a1-1)))=false/\True->in64 (v0-1))/\(decide (0<v0)=true/\(!vl (u80 (a0.getD v0.toNat 0) 0 (a1-1)))=false/\True->ix (v0-1) a0.length)/\(decide (0<v0)=true/\(!vl (u80 (a0.getD v0.toNat 0) 0 (a1-1)))=false/\True->ix v0 a0.length)/\True) <|
  if(!vl (u80 (a0.getD v0.toNat 0) 0 (a1-1))||decide (0<v0)&&decide (a0.getD v0.toNat 0<=a0.getD (v0-1).toNat 0)) then
   some false
  else
   gd (in64 (v0+1)/\True) <|
   g1 (v0+1)
 else
  u42J0 ()
def u42(a0:List Int)(a1:Int):Option Bool :=
 lp (u42L1 a0 a1) 0
def k42:Ct:=lct 42 [.dat i64.sl,.dat i64] (fun x=>u42 x.1 x.2.1) (fun r:Bool=>B r) (fun _=>())
theorem o42:Ok prog k42:=by
 refine okM [.tmp 4] func42 ?_;intro y ⟨a0,a1,_⟩ r H Q hn hr;have:=hz (tc o80 tn);refine iA [0,1]<|jN r (fun(_:Unit)=>Z [] []) (u42J0) (fun _ H=>?_) (fun _ n0 e0 t0=>?_)
 ·refine iA [4]<|vTT<|hr H
 refine iA [0,1,5]<|vB<|lX (fun(v0:Int)=>Z [p 0 (L i64 a0),p 1 (J a1),p 5 (I v0)] []) 0 H fun _ g1 b1 e1 t1 v0 H=>vQ<|iA [0,1,5,9]<|cD H (fun H=>?_) (fun H=>?_)
 ·refine vK<|fQ<|vQ<|vB<|iB [0,1,5,35] H fun H=>cD H (fun H=>iA [4]<|vTT<|fDD<|fR<|t1<|fDD<|t0<|hr H) fun H=>vK<|fK<|fQ<|jB [0,1,5] H fun H=>b1 H
 exact vE<|fE<|e1<|fX rfl<|n0 H
def u79J2:Unit->Option Bool
 | _ =>
 some true
def u79L3(a0:Y111)(g3:Int->Option Bool):Int->Option Bool
 | v1 =>
 if(decide (v1 < (a0.2.2.2.length:Int))) then
  gd (ix v1 a0.2.2.2.length/\in64 ((a0.1.length:Int)-1)/\(u80 (a0.2.2.2.getD v1.toNat 0) 0 ((a0.1.length:Int)-1)).isSome/\True) <|
  if(!vl (u80 (a0.2.2.2.getD v1.toNat 0) 0 ((a0.1.length:Int)-1))) then
   some false
  else
   gd (in64 (v1+1)/\True) <|
   g3 (v1+1)
 else
  u79J2 ()
def u79J0(a0:Y111):Unit->Option Bool
 | _ =>
 lp (u79L3 a0) 0
def u79L1(a0:Y111)(g1:Int->Option Bool):Int->Option Bool
 | v0 =>
 if(decide (v0 < (a0.1.length:Int))) then
  gd (ix v0 a0.2.2.1.length/\(u80 (a0.2.2.1.getD v0.toNat 0) 0 500).isSome/\((!vl (u80 (a0.2.2.1.getD v0.toNat 0) 0 500))=false/\True->ix v0 a0.2.1.length)/\((!vl (u80 (a0.2.2.1.getD v0.toNat 0) 0 500))=false/\True->(u80 (a0.2.1.getD v0.toNat 0) 0 1000).isSome)/\True) <|
  if(!vl (u80 (a0.2.2.1.getD v0.toNat 0) 0 500)||!vl (u80 (a0.2.1.getD v0.toNat 0) 0 1000)) then
   some false
  else
   gd (((v0==0)=true/\True->ix v0 a0.1.length)/\((a0.1.getD v0.toNat 0 != -1)=false/\(v0==0)=true/\True->ix v0 a0.2.1.length)/\(decide (0<v0)=true/\(v0==0&&(a0.1.getD v0.toNat 0 != -1||a0.2.1.getD v0.toNat 0 != 0))=false/\True->ix v0 a0.1.length)/\(decide (0<v0)=true/\(v0==0&&(a0.1.getD v0.toNat 0 != -1||a0.2.1.getD v0.toNat 0 != 0))=false/\True->in64 (v0-1))/\(decide (0<v0)=true/\(v0==0&&(a0.1.getD v0.toNat 0 != -1||a0.2.1.getD v0.toNat 0 != 0))=false/\True->(u80 (a0.1.getD v0.toNat 0) 0 (v0-1)).isSome)/\True) <|
   if(v0==0&&(a0.1.getD v0.toNat 0 != -1||a0.2.1.getD v0.toNat 0 != 0)||decide (0<v0)&&!vl (u80 (a0.1.getD v0.toNat 0) 0 (v0-1))) then
    some false
   else
    gd (in64 (v0+1)/\True) <|
    g1 (v0+1)
 else
  u79J0 a0 ()
def u79(a0:Y111)(a1:Int):Option Bool :=
 if(decide ((a0.1.length:Int)<1)||decide (8 < (a0.1.length:Int))||(a0.2.1.length:Int) != (a0.1.length:Int)||(a0.2.2.1.length:Int) != (a0.1.length:Int)||(a0.2.2.2.length:Int) != a1) then
  some false
 else
  lp (u79L1 a0) 0
def k79:Ct:=lct 79 [.agg y111,.dat i64] (fun x=>u79 x.1 x.2.1) (fun r:Bool=>B r) (fun _=>())
theorem o79:Ok prog k79:=by
 refine okM [.tmp 4] func79 ?_;intro y ⟨a0,_,_⟩ r H Q hn hr;have:=hz (tc o80 tn);refine iA [1,2]<|iA [1,2,5]<|vQ<|iA [2,5,37]<|cD H (fun H=>iA [4]<|vTT<|fR<|hr H) fun H=>vK<|fQ<|jN r (fun(_:Unit)=>Z [p 2 (R 2),p 5 (I (a0.1.length:Int))] [(2,K 111 y111 a0)]) (u79J0 a0) (fun _ H=>?_) (fun _ n0 e0 t0=>?_)
 ·refine jN r (fun(_:Unit)=>Z [] []) (u79J2) (fun _ H=>?_) (fun _ n2 e2 t2=>?_)
  ·refine iA [4]<|vTT<|hr H
  refine iA [2,5,7]<|vB<|lX (fun(v1:Int)=>Z [p 2 (R 2),p 5 (I (a0.1.length:Int)),p 7 (I v1)] [(2,K 111 y111 a0)]) 0 H fun _ g3 b3 e3 t3 v1 H=>vQ<|iA [2,5,7,96]<|cD H (fun H=>?_) (fun H=>?_)
  ·refine vK<|fQ<|vQ<|vB<|iB [2,5,7,107] H fun H=>cD H (fun H=>iA [4]<|vTT<|fDD<|fR<|t3<|fDD<|t2<|hr H) fun H=>vK<|fK<|fQ<|jB [2,5,7] H fun H=>b3 H
  exact vE<|fE<|e3<|fX rfl<|n2 H
 refine iA [2,5,6]<|vB<|lX (fun(v0:Int)=>Z [p 2 (R 2),p 5 (I (a0.1.length:Int)),p 6 (I v0)] [(2,K 111 y111 a0)]) 0 H fun _ g1 b1 e1 t1 v0 H=>vQ<|iA [2,5,6,40]<|cD H (fun H=>?_) (fun H=>?_)
 ·refine vK<|fQ<|vQ<|vB<|vQ<|iB [2,5,6,58] H fun H=>cD H (fun H=>iA [4]<|vTT<|fR<|fDD<|fR<|t1<|fDD<|t0<|hr H) fun H=>vK<|fQ<|iB [2,5,6,91] H fun H=>cD H (fun H=>iA [4]<|vTT<|fDD<|fR<|t1<|fDD<|t0<|hr H) fun H=>vK<|fK<|fQ<|jB [2,5,6] H fun H=>b1 H
 exact vE<|fE<|e1<|fX rfl<|n0 H
def u131J0(a0:ByteArray):Unit->Option Bool
 | _ =>
 some (decide (1<=(a0.size:Int))&&decide ((a0.size:Int)<=8))
def u131L1(a0:ByteArray)(g1:Int->Option Bool):Int->Option Bool
 | v0 =>
 if(decide (v0 < (a0.size:Int))) then
  gd (ix v0 a0.size/\(decide (97<=byteAt a0 v0.toNat)=true/\True->ix v0 a0.size)/\True) <|
  gd (ix v0 a0.size/\(decide (48<=byteAt a0 v0.toNat)=true/\True->ix v0 a0.size)/\True) <|
  if(!(decide (97<=byteAt a0 v0.toNat)&&decide (byteAt a0 v0.toNat<=122))&&!(decide (48<=byteAt a0 v0.toNat)&&decide (byteAt a0 v0.toNat<=57)&&decide (0<v0))) then
   some false
  else
   gd (in64 (v0+1)/\True) <|
   g1 (v0+1)
 else
  u131J0 a0 ()
def u131(a0:ByteArray):Option Bool :=
 lp (u131L1 a0) 0
def k131:Ct:=lct 131 [.dat Ty.str] (fun x=>u131 x.1) (fun r:Bool=>B r) (fun _=>())
theorem o131:Ok prog k131:=by
 refine okM [.tmp 2] func131 ?_;intro y ⟨a0,_⟩ r H Q hn hr;refine iA [0]<|jN r (fun(_:Unit)=>Z [p 0 (U a0)] []) (u131J0 a0) (fun _ H=>?_) (fun _ n0 e0 t0=>?_)
 ·refine iA [2]<|vTT<|hr H
 refine iA [0,3]<|vB<|lX (fun(v0:Int)=>Z [p 0 (U a0),p 3 (I v0)] []) 0 H fun _ g1 b1 e1 t1 v0 H=>vQ<|iA [0,3,9]<|cD H (fun H=>?_) (fun H=>?_)
 ·refine vK<|fQ<|vQ<|vB<|iB [0,3,4] H fun H=>iB [0,3,4,5] H fun H=>iA [0,3,41]<|cD H (fun H=>iA [2]<|vTT<|fDD<|fR<|t1<|fDD<|t0<|hr H) fun H=>vK<|fK<|fQ<|jB [0,3] H fun H=>b1 H
 exact vE<|fE<|e1<|fX rfl<|n0 H
def u108J0:Unit->Option Bool
 | _ =>
 some true
def u108J2(v1:Int)(g1:Int->Option Bool):Unit->Option Bool
 | _ =>
 gd (in64 (v1+1)/\True) <|
 g1 (v1+1)
def u108L3(a0:List ByteArray)(v1:Int)(g1:Int->Option Bool)(g3:Int->Option Bool):Int->Option Bool
 | v2 =>
 if(decide (v2<v1)) then
  gd (ix v2 a0.length/\ix v1 a0.length/\True) <|
  if(decide (a0.getD v2.toNat (dflt Ty.str)=a0.getD v1.toNat (dflt Ty.str))) then
   some false
  else
   gd (in64 (v2+1)/\True) <|
   g3 (v2+1)
 else
  u108J2 v1 g1 ()
def u108L1(a0:List ByteArray)(g1:Int->Option Bool):Int->Option Bool
 | v1 =>
 if(decide (v1 < (a0.length:Int))) then
  gd (ix v1 a0.length/\(u131 (a0.getD v1.toNat (dflt Ty.str))).isSome/\True) <|
  if(!vl (u131 (a0.getD v1.toNat (dflt Ty.str)))) then
   some false
  else
   lp (u108L3 a0 v1 g1) 0
 else
  u108J0 ()
def u108(a0:List ByteArray):Option Bool :=
 lp (u108L1 a0) 0
def k108:Ct:=lct 108 [.dat Ty.str.sl] (fun x=>u108 x.1) (fun r:Bool=>B r) (fun _=>())
theorem o108:Ok prog k108:=by
 refine okM [.tmp 2] func108 ?_;intro y ⟨a0,_⟩ r H Q hn hr;have:=hz (tc o131 tn);refine iA [0]<|jN r (fun(_:Unit)=>Z [] []) (u108J0) (fun _ H=>?_) (fun _ n0 e0 t0=>?_)
 ·refine iA [2]<|vTT<|hr H
 refine iA [0,3]<|vB<|lX (fun(v1:Int)=>Z [p 0 (L Ty.str a0),p 3 (I v1)] []) 0 H fun _ g1 b1 e1 t1 v1 H=>vQ<|iA [0,3,8]<|cD H (fun H=>?_) (fun H=>?_)
 ·refine vK<|fQ<|jN r (fun(_:Unit)=>Z [p 0 (L Ty.str a0),p 3 (I v1)] []) (u108J2 v1 g1) (fun _ H=>?_) (fun _ n2 e2 t2=>?_)
  ·refine jB [0,3] H fun H=>b1 H
  refine vB<|vQ<|iB [0,3,16] H fun H=>cD H (fun H=>iA [2]<|vTT<|fR<|fDD<|t2<|t1<|fDD<|t0<|hr H) fun H=>vK<|fQ<|iA [0,3,4]<|vB<|lX (fun(v2:Int)=>Z [p 0 (L Ty.str a0),p 3 (I v1),p 4 (I v2)] []) 0 H fun _ g3 b3 e3 t3 v2 H=>vQ<|iA [0,3,4,19]<|cD H (fun H=>?_) (fun H=>?_)
  ·refine vK<|fQ<|vQ<|vB<|iB [0,3,4,30] H fun H=>cD H (fun H=>iA [2]<|vTT<|fDD<|fR<|t3<|fDD<|fDD<|t2<|t1<|fDD<|t0<|hr H) fun H=>vK<|fK<|fQ<|jB [0,3,4] H fun H=>b3 H
  exact vE<|fE<|e3<|fX rfl<|fK<|n2 H
 exact vE<|fE<|e1<|fX rfl<|n0 H
def u107J4:Unit->Option Bool
 | _ =>
 some true
def u107L5(a1:Y44)(g5:Int->Option Bool):Int->Option Bool
 | v5 =>
 if(decide (v5 < (a1.2.2.length:Int))) then
  gd (ix v5 a1.2.2.length/\(u80 (a1.2.2.getD v5.toNat (dflt y149)).2.1 1 2).isSome/\((!vl (u80 (a1.2.2.getD v5.toNat (dflt y149)).2.1 1 2))=false/\True->ix v5 a1.2.2.length)/\((!vl (u80 (a1.2.2.getD v5.toNat (dflt y149)).2.1 1 2))=false/\True->in64 ((a1.2.1.length:Int)-1))/\((!vl (u80 (a1.2.2.getD v5.toNat (dflt y149)).2.1 1 2))=false/\True->(u80 (a1.2.2.getD v5.toNat (dflt y149)).2.2 0 ((a1.2.1.length:Int)-1)).isSome)/\True) <|
  if(!vl (u80 (a1.2.2.getD v5.toNat (dflt y149)).2.1 1 2)||!vl (u80 (a1.2.2.getD v5.toNat (dflt y149)).2.2 0 ((a1.2.1.length:Int)-1))) then
   some false
  else
   gd (in64 (v5+1)/\True) <|
   g5 (v5+1)
 else
  u107J4 ()
def u107J0(a1:Y44):Unit->Option Bool
 | _ =>
 lp (u107L5 a1) 0
def u107J2(v2:Int)(g1:Int->Option Bool):Unit->Option Bool
 | _ =>
 gd (in64 (v2+1)/\True) <|
 g1 (v2+1)
def u107L3(v3:Y94)(a1:Y44)(v2:Int)(g1:Int->Option Bool)(g3:Int->Option Bool):Int->Option Bool
 | v4 =>
 if(decide (v4 < (v3.2.2.length:Int))) then
  gd (ix v4 v3.2.2.length/\in64 ((a1.2.1.length:Int)-1)/\(u80 (v3.2.2.getD v4.toNat 0) 0 ((a1.2.1.length:Int)-1)).isSome/\True) <|
  if(!vl (u80 (v3.2.2.getD v4.toNat 0) 0 ((a1.2.1.length:Int)-1))) then
   some false
  else
   gd (in64 (v4+1)/\True) <|
   g3 (v4+1)
 else
  u107J2 v2 g1 ()
def u107L1(a1:Y44)(a0:List Y92)(g1:Int->Option Bool):Int->Option Bool
 | v2 =>
 if(decide (v2 < (a1.1.length:Int))) then
  gd (ix v2 a1.1.length/\True)<|lt (a1.1.getD v2.toNat (dflt y94)) fun v3 =>
  gd (in64 ((a0.length:Int)-1)/\(u80 v3.2.1 0 ((a0.length:Int)-1)).isSome/\((!vl (u80 v3.2.1 0 ((a0.length:Int)-1)))=false/\True->ix v3.2.1 a0.length)/\True) <|
  if(!vl (u80 v3.2.1 0 ((a0.length:Int)-1))||(v3.2.2.length:Int) != (↑(a0.getD v3.2.1.toNat (dflt y92)).2.2.1.length:Int)) then
   some false
  else
   lp (u107L3 v3 a1 v2 g1) 0
 else
  u107J0 a1 ()
def u107(a0:List Y92)(a1:Y44):Option Bool :=
 lp (u107L1 a1 a0) 0
def k107:Ct:=lct 107 [.agg y92.sl,.agg y44] (fun x=>u107 x.1 x.2.1) (fun r:Bool=>B r) (fun _=>())
theorem o107:Ok prog k107:=by
 refine okM [.tmp 4] func107 ?_;intro y ⟨a0,a1,_⟩ r H Q hn hr;have:=hz (tc o80 tn);refine iA [2,3]<|iA [2,3,5]<|jN r (fun(_:Unit)=>Z [p 3 (R 3),p 5 (I (a1.2.1.length:Int))] [(3,K 44 y44 a1)]) (u107J0 a1) (fun _ H=>?_) (fun _ n0 e0 t0=>?_)
 ·refine jN r (fun(_:Unit)=>Z [] []) (u107J4) (fun _ H=>?_) (fun _ n4 e4 t4=>?_)
  ·refine iA [4]<|vTT<|hr H
  refine iA [3,5,9]<|vB<|lX (fun(v5:Int)=>Z [p 3 (R 3),p 5 (I (a1.2.1.length:Int)),p 9 (I v5)] [(3,K 44 y44 a1)]) 0 H fun _ g5 b5 e5 t5 v5 H=>vQ<|iA [3,5,9,67]<|cD H (fun H=>?_) (fun H=>?_)
  ·refine vK<|fQ<|vQ<|vB<|iB [3,5,9,89] H fun H=>cD H (fun H=>iA [4]<|vTT<|fDD<|fR<|t5<|fDD<|t4<|hr H) fun H=>vK<|fK<|fQ<|jB [3,5,9] H fun H=>b5 H
  exact vE<|fE<|e5<|fX rfl<|n4 H
 refine iA [2,3,5,6]<|vB<|lX (fun(v2:Int)=>Z (G7 [p 5 (I (a1.2.1.length:Int)),p 6 (I v2)]) (W5 a1 a0)) 0 H fun _ g1 b1 e1 t1 v2 H=>vQ<|iA [2,3,5,6,17]<|cD H (fun H=>?_) (fun H=>?_)
 ·refine vK<|fQ<|jN r (fun(_:Unit)=>Z (G7 [p 5 (I (a1.2.1.length:Int)),p 6 (I v2)]) (W5 a1 a0)) (u107J2 v2 g1) (fun _ H=>?_) (fun _ n2 e2 t2=>?_)
  ·refine jB [2,3,5,6] H fun H=>b1 H
  refine vB<|qD (fun v3=>Z (G7 [p 5 (I (a1.2.1.length:Int)),p 6 (I v2),p 7 (R 7)]) ((7,K 94 y94 v3)::W5 a1 a0)) H fun v3 H=>vQ<|iB [2,3,5,6,7,46] H fun H=>cD H (fun H=>iA [4]<|vTT<|fR<|fDD<|t2<|t1<|fDD<|t0<|hr H) fun H=>vK<|fQ<|iA [2,3,5,6,7,8]<|vB<|lX (fun(v4:Int)=>Z (G7 [p 5 (I (a1.2.1.length:Int)),p 6 (I v2),p 7 (R 7),p 8 (I v4)]) ((7,K 94 y94 v3)::W5 a1 a0)) 0 H fun _ g3 b3 e3 t3 v4 H=>vQ<|iA [2,3,5,6,7,8,51]<|cD H (fun H=>?_) (fun H=>?_)
  ·refine vK<|fQ<|vQ<|vB<|iB [2,3,5,6,7,8,62] H fun H=>cD H (fun H=>iA [4]<|vTT<|fDD<|fR<|t3<|fDD<|fDD<|t2<|t1<|fDD<|t0<|hr H) fun H=>vK<|fK<|fQ<|jB [2,3,5,6,7,8] H fun H=>b3 H
  exact vE<|fE<|e3<|fX rfl<|fK<|n2 H
 exact vE<|fE<|e1<|fX rfl<|n0 H
def u146J0:List Int->Option (List Int)
 | v4 =>
 some v4
def u146L1(a0:Y92)(g1:Int×List Int->Option (List Int)):Int×List Int->Option (List Int)
 | (v1,v2) =>
 if(decide (v1 < (a0.2.2.2.1.length:Int))) then
  gd (ix v1 a0.2.2.2.1.length/\ix (a0.2.2.2.1.getD v1.toNat (dflt y97)).1 v2.length/\(a0.2.2.2.1.getD v1.toNat (dflt y97)).1.toNat<v2.length/\in64 (v2.getD (a0.2.2.2.1.getD v1.toNat (dflt y97)).1.toNat 0+1)/\ix (a0.2.2.2.1.getD v1.toNat (dflt y97)).1 v2.length/\(a0.2.2.2.1.getD v1.toNat (dflt y97)).1.toNat<v2.length/\True)<|lt (v2.set (a0.2.2.2.1.getD v1.toNat (dflt y97)).1.toNat (v2.getD (a0.2.2.2.1.getD v1.toNat (dflt y97)).1.toNat 0+1)) fun v3 =>
  gd (in64 (v1+1)/\True) <|
  g1 (v1+1,v3)
 else
  u146J0 v2
def u146(a0:Y92):Option (List Int) :=
 gd (((0:Int)<=(6:Int)/\(6:Int)=(6:Int)/\Int.toNat (6:Int)*8<=281474976710656/\(6:Int)<=(9223372036854775807:Int))/\True) <|
 lp (u146L1 a0) ((0,List.replicate (Int.toNat (6:Int)) (0:Int)))
def k146:Ct:=lct 146 [.agg y92] (fun x=>u146 x.1) (fun r:List Int=>AV.ow 2 true i64 r) (fun _=>())
theorem o146:Ok prog k146:=by
 refine okM [.tmp 2] func146 ?_;intro y ⟨a0,_⟩ r H Q hn hr;refine iA [1]<|iB [1,3] H fun H=>jN r (fun(v4:List Int)=>Z [p 3 (O 5)] [(5,A 2 i64 v4 0)]) (u146J0) (fun v4 H=>?_) (fun _ n0 e0 t0=>?_)
 ·refine iA [2]<|vTT<|hr H
 refine iA [1,3,4]<|vB<|lX (fun((v1,v2):Int×List Int)=>Z [p 1 (R 1),p 3 (O 5),p 4 (I v1)] [(5,A 2 i64 v2 0),(1,K 92 y92 a0)]) ((0,List.replicate (Int.toNat (6:Int)) (0:Int))) H fun _ g1 b1 e1 t1 ⟨v1,v2⟩ H=>vQ<|iA [1,3,4,10]<|cD H (fun H=>vK<|fQ<|vQ<|vB<|zD (fun v3=>Z [p 1 (R 1),p 3 (O 5),p 4 (I v1)] [(5,A 2 i64 v3 0),(1,K 92 y92 a0)]) H fun v3 H=>fK<|fQ<|jB [1,3,4] H fun H=>b1 H) fun H=>vE<|fE<|e1<|fX rfl<|n0 H
def u194J0(a0:List Int):Unit->Option Bool
 | _ =>
 some (decide (1<=(a0.length:Int))&&decide ((a0.length:Int)<=4))
def u194L1(a0:List Int)(g1:Int->Option Bool):Int->Option Bool
 | v0 =>
 if(decide (v0 < (a0.length:Int))) then
  gd (ix v0 a0.length/\(u80 (a0.getD v0.toNat 0) 0 100000).isSome/\(decide (0<v0)=true/\(!vl (u80 (a0.getD v0.toNat 0) 0 100000))=false/\True->in64 (v0-1))/\(decide (0<v0)=true/\(!vl (u80 (a0.getD v0.toNat 0) 0 100000))=false/\True->ix (v0-1) a0.length)/\(decide (0<v0)=true/\(!vl (u80 (a0.getD v0.toNat 0) 0 100000))=false/\True->ix v0 a0.length)/\True) <|
  if(!vl (u80 (a0.getD v0.toNat 0) 0 100000)||decide (0<v0)&&decide (a0.getD v0.toNat 0<=a0.getD (v0-1).toNat 0)) then
   some false
  else
   gd (in64 (v0+1)/\True) <|
   g1 (v0+1)
 else
  u194J0 a0 ()
def u194(a0:List Int):Option Bool :=
 lp (u194L1 a0) 0
def k194:Ct:=lct 194 [.dat i64.sl] (fun x=>u194 x.1) (fun r:Bool=>B r) (fun _=>())
theorem o194:Ok prog k194:=by
 refine okM [.tmp 2] func194 ?_;intro y ⟨a0,_⟩ r H Q hn hr;have:=hz (tc o80 tn);refine iA [0]<|jN r (fun(_:Unit)=>Z [p 0 (L i64 a0)] []) (u194J0 a0) (fun _ H=>?_) (fun _ n0 e0 t0=>?_)
 ·refine iA [2]<|vTT<|hr H
 refine iA [0,3]<|vB<|lX (fun(v0:Int)=>Z [p 0 (L i64 a0),p 3 (I v0)] []) 0 H fun _ g1 b1 e1 t1 v0 H=>vQ<|iA [0,3,7]<|cD H (fun H=>?_) (fun H=>?_)
 ·refine vK<|fQ<|vQ<|vB<|iB [0,3,31] H fun H=>cD H (fun H=>iA [2]<|vTT<|fDD<|fR<|t1<|fDD<|t0<|hr H) fun H=>vK<|fK<|fQ<|jB [0,3] H fun H=>b1 H
 exact vE<|fE<|e1<|fX rfl<|n0 H
def u182J0:Unit->Option Bool
 | _ =>
 some true
def u182L1(a0:Y213)(g1:Int->Option Bool):Int->Option Bool
 | v0 =>
 if(decide (v0 < (a0.2.2.length:Int))) then
  gd (ix v0 a0.2.2.length/\(u80 (a0.2.2.getD v0.toNat 0) (-1000000) 1000000).isSome/\True) <|
  if(!vl (u80 (a0.2.2.getD v0.toNat 0) (-1000000) 1000000)) then
   some false
  else
   gd (in64 (v0+1)/\True) <|
   g1 (v0+1)
 else
  u182J0 ()
def u182(a0:Y213):Option Bool :=
 gd ((u194 a0.1).isSome/\((!vl (u194 a0.1))=false/\True->(u194 a0.2.1).isSome)/\((!vl (u194 a0.1)||!vl (u194 a0.2.1))=false/\True->in64 ((a0.1.length:Int)*(a0.2.1.length:Int)))/\True) <|
 if(!vl (u194 a0.1)||!vl (u194 a0.2.1)||(a0.2.2.length:Int) != (a0.1.length:Int)*(a0.2.1.length:Int)) then
  some false
 else
  lp (u182L1 a0) 0
def k182:Ct:=lct 182 [.agg y213] (fun x=>u182 x.1) (fun r:Bool=>B r) (fun _=>())
theorem o182:Ok prog k182:=by
 refine okM [.tmp 2] func182 ?_;intro y ⟨a0,_⟩ r H Q hn hr;have:=hz (tc o80 (tc o194 tn));refine iA [1]<|vQ<|iB [1,26] H fun H=>cD H (fun H=>iA [2]<|vTT<|fR<|hr H) fun H=>vK<|fQ<|jN r (fun(_:Unit)=>Z [] []) (u182J0) (fun _ H=>?_) (fun _ n0 e0 t0=>?_)
 ·refine iA [2]<|vTT<|hr H
 refine iA [1,3]<|vB<|lX (fun(v0:Int)=>Z (G3 v0 []) [(1,K 213 y213 a0)]) 0 H fun _ g1 b1 e1 t1 v0 H=>vQ<|iA [1,3,31]<|cD H (fun H=>?_) (fun H=>?_)
 ·refine vK<|fQ<|vQ<|vB<|iB [1,3,40] H fun H=>cD H (fun H=>iA [2]<|vTT<|fDD<|fR<|t1<|fDD<|t0<|hr H) fun H=>vK<|fK<|fQ<|jB [1,3] H fun H=>b1 H
 exact vE<|fE<|e1<|fX rfl<|n0 H
def u167J0:Int×Int->Option (Y236×Int)
 | (v5,v6) =>
 some (((v5,v6),(0:Int)))
def u167L1(a0:Y213)(g1:Int×Int×Int->Option (Y236×Int)):Int×Int×Int->Option (Y236×Int)
 | (v2,v3,v4) =>
 if(decide (v2 < (a0.2.2.length:Int))) then
  gd (ix v2 a0.2.2.length/\True) <|
  gd (ix v2 a0.2.2.length/\True) <|
  gd (in64 (v2+1)/\True) <|
  g1 ((v2+1,min v3 (a0.2.2.getD v2.toNat 0),max v4 (a0.2.2.getD v2.toNat 0)))
 else
  u167J0 (v3,v4)
def u167(a0:Y213):Option (Y236×Int) :=
 gd ((u182 a0).isSome/\True) <|
 if(!vl (u182 a0)) then
  some ((((0:Int),(0:Int)),(1:Int)))
 else
  gd (ix 0 a0.2.2.length/\ix 0 a0.2.2.length/\True) <|
  lp (u167L1 a0) ((1,a0.2.2.getD (Int.toNat (0:Int)) (0:Int),a0.2.2.getD (Int.toNat (0:Int)) (0:Int)))
def k167:Ct:=lct 167 [.agg y213] (fun x=>u167 x.1) (fun r:Y236×Int=>AV.tup [AV.agg [I r.1.1,I r.1.2],I r.2]) (fun _=>())
theorem o167:Ok prog k167:=by
 refine okM [.cell 2 236,.tmp 3] func167 ?_;intro y ⟨a0,_⟩ r H Q hn hr;have:=hz (tc o182 tn);refine iA [1,2]<|vQ<|iB [1,2,8] H fun H=>cD H (fun H=>iA [2,3]<|vTT<|fR<|hr H) fun H=>vK<|fQ<|iB [1,2,4] H fun H=>jN r (fun((v5,v6):Int×Int)=>Z [p 2 (R 2),p 4 (R 4)] [(4,bx 236 [J v5,J v6]),(2,bx 236 [I 0,I 0])]) (u167J0) (fun⟨v5,v6⟩ H=>?_) (fun _ n0 e0 t0=>?_)
 ·refine iA [2,3]<|vTT<|hr H
 refine iA [1,2,4,5]<|vB<|lX (fun((v2,v3,v4):Int×Int×Int)=>Z [p 1 (R 1),p 2 (R 2),p 4 (R 4),p 5 (I v2)] [(4,bx 236 [J v3,J v4]),(2,bx 236 [I 0,I 0]),(1,K 213 y213 a0)]) ((1,a0.2.2.getD (Int.toNat (0:Int)) (0:Int),a0.2.2.getD (Int.toNat (0:Int)) (0:Int))) H fun _ g1 b1 e1 t1 ⟨v2,v3,v4⟩ H=>vQ<|iA [1,2,4,5,23]<|cD H (fun H=>vK<|fQ<|vQ<|vB<|iB [1,2,4,5] H fun H=>jB [1,2,4,5] H fun H=>fK<|fQ<|jB [1,2,4,5] H fun H=>b1 H) fun H=>vE<|fE<|e1<|fX rfl<|n0 H
def u155J0:Unit->Option Bool
 | _ =>
 some true
def u155L1(a1:Bool)(a0:List Y213)(g1:Int->Option Bool):Int->Option Bool
 | v1 =>
 if(decide (v1<2)) then
  gd (ix v1 a0.length/\(u167 (a0.getD v1.toNat (dflt y213))).isSome/\True)<|lt (vl (u167 (a0.getD v1.toNat (dflt y213)))) fun v2 =>
  if(v2.2 != 0||a1&&decide (v2.1.1<0)) then
   some false
  else
   gd (in64 (v1+1)/\True) <|
   g1 (v1+1)
 else
  u155J0 ()
def u155(a0:List Y213)(a1:Bool):Option Bool :=
 if((a0.length:Int) != 2) then
  some false
 else
  lp (u155L1 a1 a0) 0
def k155:Ct:=lct 155 [.dat y213.sl,.dat Ty.bool] (fun x=>u155 x.1 x.2.1) (fun r:Bool=>B r) (fun _=>())
theorem o155:Ok prog k155:=by
 refine okM [.tmp 4] func155 ?_;intro y ⟨a0,a1,_⟩ r H Q hn hr;have:=hz (tc o167 tn);refine iA [0,1]<|vQ<|iA [0,1,10]<|cD H (fun H=>iA [4]<|vTT<|fR<|hr H) fun H=>vK<|fQ<|jN r (fun(_:Unit)=>Z [] []) (u155J0) (fun _ H=>?_) (fun _ n0 e0 t0=>?_)
 ·refine iA [4]<|vTT<|hr H
 refine iA [0,1,5]<|vB<|lX (fun(v1:Int)=>Z [p 0 (L y213 a0),p 1 (C a1),p 5 (I v1)] []) 0 H fun _ g1 b1 e1 t1 v1 H=>vQ<|iA [0,1,5,12]<|cD H (fun H=>?_) (fun H=>?_)
 ·refine vK<|fQ<|vQ<|vB<|iD o167 [0,1,5,6,7] H fun _ H=>iA [0,1,5,32]<|cD H (fun H=>iA [4]<|vTT<|fDD<|fR<|t1<|fDD<|t0<|hr H) fun H=>vK<|fK<|fQ<|jB [0,1,5] H fun H=>b1 H
 exact vE<|fE<|e1<|fX rfl<|n0 H
def u145J1(v0:Y194)(a1:Y97)(a0:Y92):Bool->Option Bool
 | v2 =>
 if v2 then
  gd (((v0.2.2.2&&decide (a1.2.2.1 < (a0.2.2.1.length:Int)-1))=true/\True->ix a1.2.2.1 a0.2.2.1.length)/\((v0.2.2.2&&decide (a1.2.2.1 < (a0.2.2.1.length:Int)-1)&&!(a0.2.2.1.getD a1.2.2.1.toNat (dflt y194)).2.2.2&&a1.2.2.2.1==0)=true/\True->(u155 a1.2.2.2.2.1 false).isSome)/\True) <|
  some (v0.2.2.2&&decide (a1.2.2.1 < (a0.2.2.1.length:Int)-1)&&!(a0.2.2.1.getD a1.2.2.1.toNat (dflt y194)).2.2.2&&a1.2.2.2.1==0&&vl (u155 a1.2.2.2.2.1 false)&&(a1.2.2.2.2.2.length:Int)==0)
 else
  some false
def u145J0(v0:Y194)(a1:Y97)(a0:Y92):Bool->Option Bool
 | v1 =>
 if v1 then
  gd (((v0.2.2.2&&a1.2.2.1==(a0.2.2.1.length:Int)-1&&a1.2.2.2.1==0)=true/\True->(u155 a1.2.2.2.2.1 true).isSome)/\((v0.2.2.2&&a1.2.2.1==(a0.2.2.1.length:Int)-1&&a1.2.2.2.1==0&&vl (u155 a1.2.2.2.2.1 true))=true/\True->(u155 a1.2.2.2.2.2 true).isSome)/\True) <|
  some (v0.2.2.2&&a1.2.2.1==(a0.2.2.1.length:Int)-1&&a1.2.2.2.1==0&&vl (u155 a1.2.2.2.2.1 true)&&vl (u155 a1.2.2.2.2.2 true))
 else
  if(a1.1==4) then
   u145J1 v0 a1 a0 (a1.1==4)
  else
   u145J1 v0 a1 a0 (a1.1==5)
def u145(a0:Y92)(a1:Y97):Option Bool :=
 gd (in64 ((a0.2.2.1.length:Int)-1)/\True) <|
 gd (in64 ((a0.2.2.1.length:Int)-1-1)/\(u80 a1.2.1 0 ((a0.2.2.1.length:Int)-1-1)).isSome/\((!vl (u80 a1.2.1 0 ((a0.2.2.1.length:Int)-1-1)))=false/\True->(u80 a1.2.2.1 0 ((a0.2.2.1.length:Int)-1)).isSome)/\True) <|
 if(!vl (u80 a1.2.1 0 ((a0.2.2.1.length:Int)-1-1))||!vl (u80 a1.2.2.1 0 ((a0.2.2.1.length:Int)-1))) then
  some false
 else
  gd (ix a1.2.1 a0.2.2.1.length/\True)<|lt (a0.2.2.1.getD a1.2.1.toNat (dflt y194)) fun v0 =>
  if(a1.1==1) then
   gd (((!v0.2.2.2&&a1.2.2.1==(a0.2.2.1.length:Int)-1)=true/\True->(u80 a1.2.2.2.1 1 3).isSome)/\((!v0.2.2.2&&a1.2.2.1==(a0.2.2.1.length:Int)-1&&vl (u80 a1.2.2.2.1 1 3))=true/\True->(u155 a1.2.2.2.2.1 true).isSome)/\((!v0.2.2.2&&a1.2.2.1==(a0.2.2.1.length:Int)-1&&vl (u80 a1.2.2.2.1 1 3)&&vl (u155 a1.2.2.2.2.1 true))=true/\True->(u155 a1.2.2.2.2.2 true).isSome)/\True) <|
   some (!v0.2.2.2&&a1.2.2.1==(a0.2.2.1.length:Int)-1&&vl (u80 a1.2.2.2.1 1 3)&&vl (u155 a1.2.2.2.2.1 true)&&vl (u155 a1.2.2.2.2.2 true))
  else
   if(a1.1==2) then
    u145J0 v0 a1 a0 (a1.1==2)
   else
    u145J0 v0 a1 a0 (a1.1==3)
def k145:Ct:=lct 145 [.agg y92,.agg y97] (fun x=>u145 x.1 x.2.1) (fun r:Bool=>B r) (fun _=>())
theorem o145:Ok prog k145:=by
 refine okM [.tmp 4] func145 ?_;intro y ⟨a0,a1,_⟩ r H Q hn hr;have:=hz (tc o155 (tc o80 tn));refine iA [2,3]<|iB [2,3,5] H fun H=>vQ<|iB [2,3,5,23] H fun H=>cD H (fun H=>iA [4]<|vTT<|fR<|hr H) fun H=>vK<|fQ<|qD (fun v0=>Z (G7 [p 5 (I ((a0.2.2.1.length:Int)-1)),p 6 (C v0.2.2.2)]) [(3,K 97 y97 a1),(2,K 92 y92 a0)]) H fun v0 H=>vQ<|iA [2,3,5,6,32]<|vB<|iA [2,3,5,6,32,33]<|cD H (fun H=>iB [4] H fun H=>vTT<|fDD<|fR<|hr H) fun H=>jN r (fun(v1:Bool)=>Z (G7 [p 5 (I ((a0.2.2.1.length:Int)-1)),p 6 (C v0.2.2.2),p 32 (J a1.1),p 58 (B v1)]) [(3,K 97 y97 a1),(2,K 92 y92 a0)]) (u145J0 v0 a1 a0) (fun v1 H=>?_) (fun _ n0 e0 t0=>?_)
 ·refine cD H (fun H=>iB [4] H fun H=>vTT<|fDD<|fR<|hr H) fun H=>jN r (fun(v2:Bool)=>Z (G7 [p 5 (I ((a0.2.2.1.length:Int)-1)),p 6 (C v0.2.2.2),p 83 (B v2)]) [(3,K 97 y97 a1),(2,K 92 y92 a0)]) (u145J1 v0 a1 a0) (fun v2 H=>?_) (fun _ n1 e1 t1=>?_)
  ·refine cD H (fun H=>iB [4] H fun H=>vTT<|fDD<|fR<|hr H) fun H=>vK<|fK<|fQ<|iA [4]<|vTT<|hr H
  refine iA [2,3,5,6,32,83]<|cD H (fun H=>vK<|n1 H) fun H=>jA [2,3,5,6,83]<|n1 H
 refine iA [2,3,5,6,32,58]<|cD H (fun H=>vK<|n0 H) fun H=>jA [2,3,5,6,32,58]<|n0 H
def u144J0:Int->Option (Int×Bool)
 | v8 =>
 some (v8,true)
def u144J2(v4:Int)(g1:Int×Int->Option (Int×Bool)):Int->Option (Int×Bool)
 | v7 =>
 gd (in64 (v4+1)/\True) <|
 g1 (v7,v4+1)
def u144J3(v4:Int)(v3:Int)(v5:Y194)(a0:Y92)(g1:Int×Int->Option (Int×Bool)):Unit->Option (Int×Bool)
 | _ =>
 gd ((u131 v5.1).isSome/\((!vl (u131 v5.1))=false/\True->(u80 v5.2.2.1 0 500).isSome)/\True) <|
 if(!vl (u131 v5.1)||!vl (u80 v5.2.2.1 0 500)) then
  some (((0:Int),false))
 else
  gd (in64 ((a0.2.2.1.length:Int)-1)/\((v4==(a0.2.2.1.length:Int)-1&&(v5.2.1 != 2||v5.2.2.1 != 0||v5.2.2.2))=false/\True->in64 ((a0.2.2.1.length:Int)-1))/\True) <|
  if(v4==(a0.2.2.1.length:Int)-1&&(v5.2.1 != 2||v5.2.2.1 != 0||v5.2.2.2)||decide (v4 < (a0.2.2.1.length:Int)-1)&&v5.2.1 != 1) then
   some (((0:Int),false))
  else
   if v5.2.2.2 then
    gd (in64 (v3+1)/\True) <|
    u144J2 v4 g1 (v3+1)
   else
    u144J2 v4 g1 v3
def u144L4(a0:Y92)(v5:Y194)(v4:Int)(v3:Int)(g1:Int×Int->Option (Int×Bool))(g4:Int->Option (Int×Bool)):Int->Option (Int×Bool)
 | v6 =>
 if(decide (v6<v4)) then
  gd (ix v6 a0.2.2.1.length/\True) <|
  if(decide ((a0.2.2.1.getD v6.toNat (dflt y194)).1=v5.1)) then
   some (((0:Int),false))
  else
   gd (in64 (v6+1)/\True) <|
   g4 (v6+1)
 else
  u144J3 v4 v3 v5 a0 g1 ()
def u144L1(a0:Y92)(g1:Int×Int->Option (Int×Bool)):Int×Int->Option (Int×Bool)
 | (v3,v4) =>
 if(decide (v4 < (a0.2.2.1.length:Int))) then
  gd (ix v4 a0.2.2.1.length/\True)<|lt (a0.2.2.1.getD v4.toNat (dflt y194)) fun v5 =>
  lp (u144L4 a0 v5 v4 v3 g1) 0
 else
  u144J0 v3
def u144(a0:Y92):Option (Int×Bool) :=
 if(decide ((a0.2.2.1.length:Int)<2)||decide (5 < (a0.2.2.1.length:Int))) then
  some (((0:Int),false))
 else
  lp (u144L1 a0) (0,0)
def k144:Ct:=lct 144 [.agg y92] (fun x=>u144 x.1) (fun r:Int×Bool=>AV.tup [I r.1,B r.2]) (fun _=>())
theorem o144:Ok prog k144:=by
 refine okM [.tmp 2,.tmp 3] func144 ?_;intro y ⟨a0,_⟩ r H Q hn hr;have:=hz (tc o80 (tc o131 tn));refine iA [1]<|iA [1,4]<|vQ<|iA [1,4,17]<|cD H (fun H=>iA [2,3]<|vTT<|fR<|hr H) fun H=>vK<|fQ<|iA [1,4,5]<|jN r (fun(v8:Int)=>Z [p 5 (I v8)] []) (u144J0) (fun v8 H=>?_) (fun _ n0 e0 t0=>?_)
 ·refine iA [2,3]<|vTT<|hr H
 refine iA [1,4,5,6]<|vB<|lX (fun((v3,v4):Int×Int)=>Z [p 1 (R 1),p 4 (I (a0.2.2.1.length:Int)),p 5 (I v3),p 6 (I v4)] [(1,K 92 y92 a0)]) (0,0) H fun _ g1 b1 e1 t1 ⟨v3,v4⟩ H=>vQ<|iA [1,4,5,6,20]<|cD H (fun H=>?_) (fun H=>?_)
 ·refine vK<|fQ<|jN r (fun(v7:Int)=>Z [p 1 (R 1),p 4 (I (a0.2.2.1.length:Int)),p 5 (I v7),p 6 (I v4)] [(1,K 92 y92 a0)]) (u144J2 v4 g1) (fun v7 H=>?_) (fun _ n2 e2 t2=>?_)
  ·refine jB [1,4,5,6] H fun H=>b1 H
  refine vB<|qD (fun v5=>Z [p 1 (R 1),p 4 (I (a0.2.2.1.length:Int)),p 5 (I v3),p 6 (I v4),p 7 (R 7)] [(7,K 194 y194 v5),(1,K 92 y92 a0)]) H fun v5 H=>jN r (fun(_:Unit)=>Z [p 1 (R 1),p 4 (I (a0.2.2.1.length:Int)),p 5 (I v3),p 6 (I v4),p 7 (R 7)] [(7,K 194 y194 v5),(1,K 92 y92 a0)]) (u144J3 v4 v3 v5 a0 g1) (fun _ H=>?_) (fun _ n3 e3 t3=>?_)
  ·refine vQ<|iB [1,4,5,6,7,51] H fun H=>cD H (fun H=>iA [2,3]<|vTT<|fR<|fDD<|t2<|t1<|fDD<|t0<|hr H) fun H=>vK<|fQ<|vQ<|iB [1,4,5,6,7,80] H fun H=>cD H (fun H=>iA [2,3]<|vTT<|fR<|fDD<|t2<|t1<|fDD<|t0<|hr H) fun H=>vK<|fQ<|iA [1,4,5,6,82]<|cD H (fun H=>jB [1,4,5,6] H fun H=>fK<|n2 H) fun H=>vK<|fK<|n2 H
  refine iA [1,4,5,6,7,8]<|vB<|lX (fun(v6:Int)=>Z [p 1 (R 1),p 4 (I (a0.2.2.1.length:Int)),p 5 (I v3),p 6 (I v4),p 7 (R 7),p 8 (I v6)] [(7,K 194 y194 v5),(1,K 92 y92 a0)]) 0 H fun _ g4 b4 e4 t4 v6 H=>vQ<|iA [1,4,5,6,7,8,30]<|cD H (fun H=>?_) (fun H=>?_)
  ·refine vK<|fQ<|vQ<|vB<|iB [1,4,5,6,7,8,41] H fun H=>cD H (fun H=>iA [2,3]<|vTT<|fDD<|fR<|t4<|fDD<|t3<|fDD<|t2<|t1<|fDD<|t0<|hr H) fun H=>vK<|fK<|fQ<|jB [1,4,5,6,7,8] H fun H=>b4 H
  exact vE<|fE<|e4<|fX rfl<|n3 H
 exact vE<|fE<|e1<|fX rfl<|n0 H
def u130J4:Unit->Option Bool
 | _ =>
 some false
def u130J5(v0:Int×Bool)(a0:Y92):Unit->Option Bool
 | _ =>
 gd (((v0.1==(0:Int))=true/\True->in64 ((a0.2.2.1.length:Int)-(1:Int)))/\((v0.1==(0:Int))=true/\True->(0:Int)<=(a0.2.2.1.length:Int)-(1:Int)/\(a0.2.2.1.length:Int)-(1:Int)<=(18446744073709551615:Int))/\((v0.1==(0:Int))=true/\True->((0:Int)<=(a0.2.2.1.length:Int)-(1:Int)/\(a0.2.2.1.length:Int)-(1:Int)<=(62:Int))/\in64 ((1:Int)*(2:Int) ^ ((a0.2.2.1.length:Int)-(1:Int)).toNat))/\True) <|
 some (v0.1==(0:Int)&&(a0.2.2.2.2.1.length:Int)==(1:Int)*(2:den i64) ^ ((a0.2.2.1.length:Int)-(1:Int)).toNat)
def u130L6(a0:Y92)(v0:Int×Bool)(g6:Int->Option Bool):Int->Option Bool
 | v7 =>
 if(decide (v7 < (a0.2.2.2.2.1.length:Int))) then
  gd (ix v7 a0.2.2.2.2.1.length/\(u80 (a0.2.2.2.2.1.getD v7.toNat 0) 0 1).isSome/\True) <|
  if(!vl (u80 (a0.2.2.2.2.1.getD v7.toNat 0) 0 1)) then
   some false
  else
   gd (in64 (v7+1)/\True) <|
   g6 (v7+1)
 else
  u130J5 v0 a0 ()
def u130J0(a0:Y92)(v0:Int×Bool):Unit->Option Bool
 | _ =>
 gd ((u146 a0).isSome/\True)<|lt (vl (u146 a0)) fun v6 =>
 if(a0.2.1==1) then
  lp (u130L6 a0 v0) 0
 else
  if(a0.2.1==2) then
   gd (((v0.1==(1:Int))=true/\True->ix (1:Int) v6.length)/\((v0.1==(1:Int))=true/\True->Int.toNat (1:Int)<v6.length)/\((v0.1==(1:Int)&&v6.getD (Int.toNat (1:Int)) (0:Int)==(0:Int))=true/\True->ix (2:Int) v6.length)/\((v0.1==(1:Int)&&v6.getD (Int.toNat (1:Int)) (0:Int)==(0:Int))=true/\True->Int.toNat (2:Int)<v6.length)/\((v0.1==(1:Int)&&v6.getD (Int.toNat (1:Int)) (0:Int)==(0:Int))=true/\True->ix (3:Int) v6.length)/\((v0.1==(1:Int)&&v6.getD (Int.toNat (1:Int)) (0:Int)==(0:Int))=true/\True->Int.toNat (3:Int)<v6.length)/\True) <|
   some (v0.1==(1:Int)&&v6.getD (Int.toNat (1:Int)) (0:Int)==(0:Int)&&!decide ((0:Int)<v6.getD (Int.toNat (2:Int)) (0:Int))==decide ((0:Int)<v6.getD (Int.toNat (3:Int)) (0:Int))&&(a0.2.2.2.2.1.length:Int)==(0:Int))
  else
   if(a0.2.1==3) then
    gd (((v0.1==(1:Int))=true/\True->ix (1:Int) v6.length)/\((v0.1==(1:Int))=true/\True->Int.toNat (1:Int)<v6.length)/\((v0.1==(1:Int)&&decide ((0:Int)<v6.getD (Int.toNat (1:Int)) (0:Int)))=true/\True->ix (2:Int) v6.length)/\((v0.1==(1:Int)&&decide ((0:Int)<v6.getD (Int.toNat (1:Int)) (0:Int)))=true/\True->Int.toNat (2:Int)<v6.length)/\((v0.1==(1:Int)&&decide ((0:Int)<v6.getD (Int.toNat (1:Int)) (0:Int))&&decide ((0:Int)<v6.getD (Int.toNat (2:Int)) (0:Int)))=true/\True->ix (3:Int) v6.length)/\((v0.1==(1:Int)&&decide ((0:Int)<v6.getD (Int.toNat (1:Int)) (0:Int))&&decide ((0:Int)<v6.getD (Int.toNat (2:Int)) (0:Int)))=true/\True->Int.toNat (3:Int)<v6.length)/\True) <|
    some (v0.1==(1:Int)&&decide ((0:Int)<v6.getD (Int.toNat (1:Int)) (0:Int))&&decide ((0:Int)<v6.getD (Int.toNat (2:Int)) (0:Int))&&v6.getD (Int.toNat (3:Int)) (0:Int)==(0:Int)&&(a0.2.2.2.2.1.length:Int)==(0:Int))
   else
    u130J4 ()
def u130J2(v3:Int)(g1:Int->Option Bool):Unit->Option Bool
 | _ =>
 gd (in64 (v3+1)/\True) <|
 g1 (v3+1)
def u130L3(a0:Y92)(v4:Y97)(v3:Int)(g1:Int->Option Bool)(g3:Int->Option Bool):Int->Option Bool
 | v5 =>
 if(decide (v5<v3)) then
  gd (ix v5 a0.2.2.2.1.length/\(((a0.2.2.2.1.getD v5.toNat (dflt y97)).1==v4.1)=true/\True->ix v5 a0.2.2.2.1.length)/\(((a0.2.2.2.1.getD v5.toNat (dflt y97)).1==v4.1&&(a0.2.2.2.1.getD v5.toNat (dflt y97)).2.1==v4.2.1)=true/\True->ix v5 a0.2.2.2.1.length)/\True) <|
  if((a0.2.2.2.1.getD v5.toNat (dflt y97)).1==v4.1&&(a0.2.2.2.1.getD v5.toNat (dflt y97)).2.1==v4.2.1&&(a0.2.2.2.1.getD v5.toNat (dflt y97)).2.2.1==v4.2.2.1) then
   some false
  else
   gd (in64 (v5+1)/\True) <|
   g3 (v5+1)
 else
  u130J2 v3 g1 ()
def u130L1(a0:Y92)(v0:Int×Bool)(g1:Int->Option Bool):Int->Option Bool
 | v3 =>
 if(decide (v3 < (a0.2.2.2.1.length:Int))) then
  gd (ix v3 a0.2.2.2.1.length/\True)<|lt (a0.2.2.2.1.getD v3.toNat (dflt y97)) fun v4 =>
  gd ((u145 a0 v4).isSome/\True) <|
  if(!vl (u145 a0 v4)) then
   some false
  else
   lp (u130L3 a0 v4 v3 g1) 0
 else
  u130J0 a0 v0 ()
def u130(a0:Y92):Option Bool :=
 gd ((u144 a0).isSome/\True)<|lt (vl (u144 a0)) fun v0 =>
 gd (((!v0.2)=false/\True->(u131 a0.1).isSome)/\((!v0.2||!vl (u131 a0.1)||decide (8 < (a0.2.2.2.1.length:Int)))=false/\True->(u80 a0.2.2.2.2.2.1 0 100000).isSome)/\((!v0.2||!vl (u131 a0.1)||decide (8 < (a0.2.2.2.1.length:Int))||!vl (u80 a0.2.2.2.2.2.1 0 100000))=false/\True->(u80 a0.2.2.2.2.2.2 0 100000).isSome)/\True) <|
 if(!v0.2||!vl (u131 a0.1)||decide (8 < (a0.2.2.2.1.length:Int))||!vl (u80 a0.2.2.2.2.2.1 0 100000)||!vl (u80 a0.2.2.2.2.2.2 0 100000)) then
  some false
 else
  lp (u130L1 a0 v0) 0
def k130:Ct:=lct 130 [.agg y92] (fun x=>u130 x.1) (fun r:Bool=>B r) (fun _=>())
theorem o130:Ok prog k130:=by
 refine okM [.tmp 2] func130 ?_;intro y ⟨a0,_⟩ r H Q hn hr;have:=hz (tc o80 (tc o146 (tc o145 (tc o131 (tc o144 tn)))));refine iA [1]<|iD o144 [1,3,4] H fun v0 H=>vQ<|iB [1,3,40] H fun H=>cD H (fun H=>iA [2]<|vTT<|fR<|hr H) fun H=>vK<|fQ<|jN r (fun(_:Unit)=>Z (G3 v0.1 []) [(1,K 92 y92 a0)]) (u130J0 a0 v0) (fun _ H=>?_) (fun _ n0 e0 t0=>?_)
 ·refine iD o146 [1,3,8] H fun _ H=>jN r (fun(_:Unit)=>Z [] []) (u130J4) (fun _ H=>?_) (fun _ n4 e4 t4=>?_)
  ·refine iA [2]<|vTT<|hr H
  refine iA [1,3,8,96]<|vB<|iA [1,3,8,96,97]<|cD H (fun H=>?_) (fun H=>?_)
  ·refine jN r (fun(_:Unit)=>Z (G3 v0.1 []) [(1,K 92 y92 a0)]) (u130J5 v0 a0) (fun _ H=>?_) (fun _ n5 e5 t5=>?_)
   ·refine iB [2] H fun H=>vTT<|fDD<|t4<|hr H
   refine iA [1,3,9]<|vB<|lX (fun(v7:Int)=>Z (G3 v0.1 [p 9 (I v7)]) [(1,K 92 y92 a0)]) 0 H fun _ g6 b6 e6 t6 v7 H=>vQ<|iA [1,3,9,103]<|cD H (fun H=>?_) (fun H=>?_)
   ·refine vK<|fQ<|vQ<|vB<|iB [1,3,9,112] H fun H=>cD H (fun H=>iA [2]<|vTT<|fDD<|fR<|t6<|fDD<|t5<|fDD<|t4<|hr H) fun H=>vK<|fK<|fQ<|jB [1,3,9] H fun H=>b6 H
   exact vE<|fE<|e6<|fX rfl<|n5 H
  refine iA [1,3,8,96,127]<|cD H (fun H=>iB [2] H fun H=>vTT<|fDD<|t4<|hr H) fun H=>iA [1,3,8,154]<|cD H (fun H=>iB [2] H fun H=>vTT<|fDD<|t4<|hr H) fun H=>vK<|fK<|n4 H
 refine iA [1,3,5]<|vB<|lX (fun(v3:Int)=>Z (G3 v0.1 [p 5 (I v3)]) [(1,K 92 y92 a0)]) 0 H fun _ g1 b1 e1 t1 v3 H=>vQ<|iA [1,3,5,45]<|cD H (fun H=>?_) (fun H=>?_)
 ·refine vK<|fQ<|jN r (fun(_:Unit)=>Z (G3 v0.1 [p 5 (I v3)]) [(1,K 92 y92 a0)]) (u130J2 v3 g1) (fun _ H=>?_) (fun _ n2 e2 t2=>?_)
  ·refine jB [1,3,5] H fun H=>b1 H
  refine vB<|qD (fun v4=>Z (G3 v0.1 [p 5 (I v3),p 6 (R 6)]) [(6,K 97 y97 v4),(1,K 92 y92 a0)]) H fun v4 H=>vQ<|iB [1,3,5,6,56] H fun H=>cD H (fun H=>iA [2]<|vTT<|fR<|fDD<|t2<|t1<|fDD<|t0<|hr H) fun H=>vK<|fQ<|iA [1,3,5,6,7]<|vB<|lX (fun(v5:Int)=>Z (G3 v0.1 [p 5 (I v3),p 6 (R 6),p 7 (I v5)]) [(6,K 97 y97 v4),(1,K 92 y92 a0)]) 0 H fun _ g3 b3 e3 t3 v5 H=>vQ<|iA [1,3,5,6,7,59]<|cD H (fun H=>?_) (fun H=>?_)
  ·refine vK<|fQ<|vQ<|vB<|iB [1,3,5,6,7,92] H fun H=>cD H (fun H=>iA [2]<|vTT<|fDD<|fR<|t3<|fDD<|fDD<|t2<|t1<|fDD<|t0<|hr H) fun H=>vK<|fK<|fQ<|jB [1,3,5,6,7] H fun H=>b3 H
  exact vE<|fE<|e3<|fX rfl<|fK<|n2 H
 exact vE<|fE<|e1<|fX rfl<|n0 H
def u106J0(a0:List Y92):Unit->Option Bool
 | _ =>
 some (decide ((a0.length:Int)<=8))
def u106J2(v1:Int)(g1:Int->Option Bool):Unit->Option Bool
 | _ =>
 gd (in64 (v1+1)/\True) <|
 g1 (v1+1)
def u106L3(a0:List Y92)(v1:Int)(g1:Int->Option Bool)(g3:Int->Option Bool):Int->Option Bool
 | v2 =>
 if(decide (v2<v1)) then
  gd (ix v2 a0.length/\ix v1 a0.length/\True) <|
  if(decide ((a0.getD v2.toNat (dflt y92)).1=(a0.getD v1.toNat (dflt y92)).1)) then
   some false
  else
   gd (in64 (v2+1)/\True) <|
   g3 (v2+1)
 else
  u106J2 v1 g1 ()
def u106L1(a0:List Y92)(g1:Int->Option Bool):Int->Option Bool
 | v1 =>
 if(decide (v1 < (a0.length:Int))) then
  gd (ix v1 a0.length/\(u130 (a0.getD v1.toNat (dflt y92))).isSome/\True) <|
  if(!vl (u130 (a0.getD v1.toNat (dflt y92)))) then
   some false
  else
   lp (u106L3 a0 v1 g1) 0
 else
  u106J0 a0 ()
def u106(a0:List Y92):Option Bool :=
 lp (u106L1 a0) 0
def k106:Ct:=lct 106 [.agg y92.sl] (fun x=>u106 x.1) (fun r:Bool=>B r) (fun _=>())
theorem o106:Ok prog k106:=by
 refine okM [.tmp 2] func106 ?_;intro y ⟨a0,_⟩ r H Q hn hr;have:=hz (tc o130 tn);refine iA [1]<|jN r (fun(_:Unit)=>Z [p 1 (R 1)] [(1,bx 40 [L y92 a0])]) (u106J0 a0) (fun _ H=>?_) (fun _ n0 e0 t0=>?_)
 ·refine iA [2]<|vTT<|hr H
 refine iA [1,3]<|vB<|lX (fun(v1:Int)=>Z (G3 v1 []) [(1,bx 40 [L y92 a0])]) 0 H fun _ g1 b1 e1 t1 v1 H=>vQ<|iA [1,3,9]<|cD H (fun H=>?_) (fun H=>?_)
 ·refine vK<|fQ<|jN r (fun(_:Unit)=>Z (G3 v1 []) [(1,bx 40 [L y92 a0])]) (u106J2 v1 g1) (fun _ H=>?_) (fun _ n2 e2 t2=>?_)
  ·refine jB [1,3] H fun H=>b1 H
  refine vB<|vQ<|iB [1,3,18] H fun H=>cD H (fun H=>iA [2]<|vTT<|fR<|fDD<|t2<|t1<|fDD<|t0<|hr H) fun H=>vK<|fQ<|iA [1,3,4]<|vB<|lX (fun(v2:Int)=>Z (G3 v1 [p 4 (I v2)]) [(1,bx 40 [L y92 a0])]) 0 H fun _ g3 b3 e3 t3 v2 H=>vQ<|iA [1,3,4,21]<|cD H (fun H=>?_) (fun H=>?_)
  ·refine vK<|fQ<|vQ<|vB<|iB [1,3,4,36] H fun H=>cD H (fun H=>iA [2]<|vTT<|fDD<|fR<|t3<|fDD<|fDD<|t2<|t1<|fDD<|t0<|hr H) fun H=>vK<|fK<|fQ<|jB [1,3,4] H fun H=>b3 H
  exact vE<|fE<|e3<|fX rfl<|fK<|n2 H
 exact vE<|fE<|e1<|fX rfl<|n0 H
def u78J9:Unit->Option Bool
 | _ =>
 some true
def u78L10(v20:List Int)(g10:Int->Option Bool):Int->Option Bool
 | v21 =>
 if(decide (v21 < (v20.length:Int))) then
  gd (ix v21 v20.length/\v21.toNat<v20.length/\True) <|
  if(v20.getD v21.toNat 0 != 1) then
   some false
  else
   gd (in64 (v21+1)/\True) <|
   g10 (v21+1)
 else
  u78J9 ()
def u78J6:List Int->Option Bool
 | v20 =>
 lp (u78L10 v20) 0
def u78J8(v16:Int)(g7:Int×List Int->Option Bool):List Int->Option Bool
 | v19 =>
 gd (in64 (v16+1)/\True) <|
 g7 (v16+1,v19)
def u78L7(a1:Y44)(g7:Int×List Int->Option Bool):Int×List Int->Option Bool
 | (v16,v17) =>
 if(decide (v16 < (a1.2.2.length:Int))) then
  gd (ix v16 a1.2.2.length/\True) <|
  if((a1.2.2.getD v16.toNat (dflt y149)).2.1==1) then
   gd (ix v16 a1.2.2.length/\ix (a1.2.2.getD v16.toNat (dflt y149)).2.2 v17.length/\(a1.2.2.getD v16.toNat (dflt y149)).2.2.toNat<v17.length/\in64 (v17.getD (a1.2.2.getD v16.toNat (dflt y149)).2.2.toNat 0+1)/\ix (a1.2.2.getD v16.toNat (dflt y149)).2.2 v17.length/\(a1.2.2.getD v16.toNat (dflt y149)).2.2.toNat<v17.length/\True)<|lt (v17.set (a1.2.2.getD v16.toNat (dflt y149)).2.2.toNat (v17.getD (a1.2.2.getD v16.toNat (dflt y149)).2.2.toNat 0+1)) fun v18 =>
   u78J8 v16 g7 v18
  else
   u78J8 v16 g7 v17
 else
  u78J6 v17
def u78J4(a1:Y44):List Int->Option Bool
 | v13 =>
 lp (u78L7 a1) (0,v13)
def u78L5(a1:Y44)(g5:Int×List Int->Option Bool):Int×List Int->Option Bool
 | (v9,v10) =>
 if(decide (v9 < (a1.1.length:Int))) then
  gd (ix v9 a1.1.length/\True)<|lt (a1.1.getD v9.toNat (dflt y94)) fun v11 =>
  gd (in64 ((v11.2.2.length:Int)-1)/\ix ((v11.2.2.length:Int)-1) v11.2.2.length/\ix (v11.2.2.getD ((v11.2.2.length:Int)-1).toNat 0) v10.length/\Int.toNat (v11.2.2.getD ((v11.2.2.length:Int)-1).toNat 0)<v10.length/\in64 (v10.getD (Int.toNat (v11.2.2.getD ((v11.2.2.length:Int)-1).toNat 0)) 0+1)/\ix (v11.2.2.getD ((v11.2.2.length:Int)-1).toNat 0) v10.length/\Int.toNat (v11.2.2.getD ((v11.2.2.length:Int)-1).toNat 0)<v10.length/\True)<|lt (v10.set (Int.toNat (v11.2.2.getD ((v11.2.2.length:Int)-1).toNat 0)) (v10.getD (Int.toNat (v11.2.2.getD ((v11.2.2.length:Int)-1).toNat 0)) 0+1)) fun v12 =>
  gd (in64 (v9+1)/\True) <|
  g5 (v9+1,v12)
 else
  u78J4 a1 v10
def u78J2(a1:Y44)(v2:List ByteArray):List ByteArray->Option Bool
 | v6 =>
 gd ((u108 v2).isSome/\((!vl (u108 v2))=false/\True->(u108 v6).isSome)/\((!vl (u108 v2)||!vl (u108 v6))=false/\True->(u108 a1.2.1).isSome)/\True) <|
 if(!vl (u108 v2)||!vl (u108 v6)||!vl (u108 a1.2.1)) then
  some false
 else
  gd ((0<=(a1.2.1.length:Int)/\(a1.2.1.length:Int)=(a1.2.1.length:Int)/\(a1.2.1.length:Int).toNat*8<=281474976710656/\(a1.2.1.length:Int)<=9223372036854775807)/\True) <|
  lp (u78L5 a1) ((0,List.replicate (a1.2.1.length:Int).toNat 0))
def u78L3(a1:Y44)(v2:List ByteArray)(g3:Int×List ByteArray->Option Bool):Int×List ByteArray->Option Bool
 | (v4,v5) =>
 if(decide (v4 < (a1.2.2.length:Int))) then
  gd (ix v4 a1.2.2.length/\(v5.length+[(a1.2.2.getD v4.toNat (dflt y149)).1].length<=9223372036854775807/\(v5.length+[(a1.2.2.getD v4.toNat (dflt y149)).1].length)*16<=140737488355328)/\True) <|
  gd (in64 (v4+1)/\True) <|
  g3 ((v4+1,v5++[(a1.2.2.getD v4.toNat (dflt y149)).1]))
 else
  u78J2 a1 v2 v5
def u78J0(a1:Y44):List ByteArray->Option Bool
 | v2 =>
 lp (u78L3 a1 v2) (0,[])
def u78L1(a1:Y44)(g1:Int×List ByteArray->Option Bool):Int×List ByteArray->Option Bool
 | (v0,v1) =>
 if(decide (v0 < (a1.1.length:Int))) then
  gd (ix v0 a1.1.length/\(v1.length+[(a1.1.getD v0.toNat (dflt y94)).1].length<=9223372036854775807/\(v1.length+[(a1.1.getD v0.toNat (dflt y94)).1].length)*16<=140737488355328)/\True) <|
  gd (in64 (v0+1)/\True) <|
  g1 ((v0+1,v1++[(a1.1.getD v0.toNat (dflt y94)).1]))
 else
  u78J0 a1 v1
def u78(a0:List Y92)(a1:Y44):Option Bool :=
 gd ((u106 a0).isSome/\((!vl (u106 a0)||decide (14 < (a1.1.length:Int))||decide (30 < (a1.2.1.length:Int))||decide (8 < (a1.2.2.length:Int)))=false/\True->(u107 a0 a1).isSome)/\True) <|
 if(!vl (u106 a0)||decide (14 < (a1.1.length:Int))||decide (30 < (a1.2.1.length:Int))||decide (8 < (a1.2.2.length:Int))||!vl (u107 a0 a1)) then
  some false
 else
  lp (u78L1 a1) (0,[])
def k78:Ct:=lct 78 [.agg y92.sl,.agg y44] (fun x=>u78 x.1 x.2.1) (fun r:Bool=>B r) (fun _=>())
theorem o78:Ok prog k78:=by
 refine okM [.tmp 4] func78 ?_;intro y ⟨_,a1,_⟩ r H Q hn hr;have:=hz (tc o108 (tc o107 (tc o106 tn)));refine iA [2,3]<|vQ<|iB [3,40] H fun H=>cD H (fun H=>iA [4]<|vTT<|fR<|hr H) fun H=>vK<|fQ<|iA [3,5]<|jN r (fun(v2:List ByteArray)=>Z [p 3 (R 3),p 5 (O 41)] [(41,A 9 Ty.str v2 0),(3,K 44 y44 a1)]) (u78J0 a1) (fun v2 H=>?_) (fun _ n0 e0 t0=>?_)
 ·refine iA [3,5,7]<|jN r (fun(v6:List ByteArray)=>Z [p 3 (R 3),p 5 (O 41),p 7 (O 58)] [(58,A 9 Ty.str v6 0),(41,A 9 Ty.str v2 0),(3,K 44 y44 a1)]) (u78J2 a1 v2) (fun v6 H=>?_) (fun _ n2 e2 t2=>?_)
  ·refine vQ<|iB [3,88] H fun H=>cD H (fun H=>iA [4]<|vTT<|fR<|hr H) fun H=>vK<|fQ<|iB [3,9] H fun H=>jN r (fun(v13:List Int)=>Z [p 3 (R 3),p 9 (O 92)] (W12 v13 a1)) (u78J4 a1) (fun v13 H=>?_) (fun _ n4 e4 t4=>?_)
   ·refine jN r (fun(v20:List Int)=>Z [p 9 (O 92)] [(92,A 2 i64 v20 0)]) (u78J6) (fun v20 H=>?_) (fun _ n6 e6 t6=>?_)
    ·refine jN r (fun(_:Unit)=>Z [] []) (u78J9) (fun _ H=>?_) (fun _ n9 e9 t9=>?_)
     ·refine iA [4]<|vTT<|hr H
     refine iA [9,13]<|vB<|lX (fun(v21:Int)=>Z [p 9 (O 92),p 13 (I v21)] [(92,A 2 i64 v20 0)]) 0 H fun _ g10 b10 e10 t10 v21 H=>vQ<|iA [9,13,145]<|cD H (fun H=>?_) (fun H=>?_)
     ·refine vK<|fQ<|vQ<|vB<|iB [9,13,152] H fun H=>cD H (fun H=>iA [4]<|vTT<|fDD<|fR<|t10<|fDD<|t9<|hr H) fun H=>vK<|fK<|fQ<|jB [9,13] H fun H=>b10 H
     exact vE<|fE<|e10<|fX rfl<|n9 H
    refine iA [3,9,12]<|vB<|lX (fun((v16,v17):Int×List Int)=>Z [p 3 (R 3),p 9 (O 92),p 12 (I v16)] (W12 v17 a1)) (0,v13) H fun _ g7 b7 e7 t7 ⟨v16,v17⟩ H=>vQ<|iA [3,9,12,121]<|cD H (fun H=>?_) (fun H=>?_)
    ·refine vK<|fQ<|jN r (fun(v19:List Int)=>Z [p 3 (R 3),p 9 (O 92),p 12 (I v16)] (W12 v19 a1)) (u78J8 v16 g7) (fun v19 H=>?_) (fun _ n8 e8 t8=>?_)
     ·refine jB [3,9,12] H fun H=>b7 H
     refine vB<|iB [3,9,12,130] H fun H=>cD H (fun H=>zD (fun v18=>Z [p 3 (R 3),p 9 (O 92),p 12 (I v16)] (W12 v18 a1)) H fun v18 H=>fK<|n8 H) fun H=>vK<|fK<|n8 H
    exact vE<|fE<|e7<|fX rfl<|n6 H
   refine iA [3,9,10]<|vB<|lX (fun((v9,v10):Int×List Int)=>Z [p 3 (R 3),p 9 (O 92),p 10 (I v9)] (W12 v10 a1)) ((0,List.replicate (a1.2.1.length:Int).toNat 0)) H fun _ g5 b5 e5 t5 ⟨v9,v10⟩ H=>vQ<|iA [3,9,10,97]<|cD H (fun H=>vK<|fQ<|vQ<|vB<|qD (fun v11=>Z [p 3 (R 3),p 9 (O 92),p 10 (I v9),p 11 (L i64 v11.2.2)] (W12 v10 a1)) H fun v11 H=>zD (fun v12=>Z [p 3 (R 3),p 9 (O 92),p 10 (I v9)] (W12 v12 a1)) H fun v12 H=>fK<|fQ<|jB [3,9,10] H fun H=>b5 H) fun H=>vE<|fE<|e5<|fX rfl<|n4 H
  refine iA [3,5,7,8]<|vB<|lX (fun((v4,v5):Int×List ByteArray)=>Z [p 3 (R 3),p 5 (O 41),p 7 (O 58),p 8 (I v4)] [(58,A 9 Ty.str v5 0),(41,A 9 Ty.str v2 0),(3,K 44 y44 a1)]) (0,[]) H fun _ g3 b3 e3 t3 ⟨v4,v5⟩ H=>vQ<|iA [3,5,7,8,63]<|cD H (fun H=>vK<|fQ<|vQ<|vB<|jB [3,5,7,8] H fun H=>fK<|fQ<|jB [3,5,7,8] H fun H=>b3 H) fun H=>vE<|fE<|e3<|fX rfl<|n2 H
 refine iA [3,5,6]<|vB<|lX (fun((v0,v1):Int×List ByteArray)=>Z [p 3 (R 3),p 5 (O 41),p 6 (I v0)] [(41,A 9 Ty.str v1 0),(3,K 44 y44 a1)]) (0,[]) H fun _ g1 b1 e1 t1 ⟨v0,v1⟩ H=>vQ<|iA [3,5,6,46]<|cD H (fun H=>vK<|fQ<|vQ<|vB<|jB [3,5,6] H fun H=>fK<|fQ<|jB [3,5,6] H fun H=>b1 H) fun H=>vE<|fE<|e1<|fX rfl<|n0 H
def u41J0:Unit->Option Bool
 | _ =>
 some true
def u41L1(a0:Y47)(g1:Int->Option Bool):Int->Option Bool
 | v1 =>
 if(decide (v1 < (a0.2.2.length:Int))) then
  gd (ix v1 a0.2.2.length/\(u46 a0.2.1 v1).isSome/\(u79 (a0.2.2.getD v1.toNat (dflt y111)) (↑(vl (u46 a0.2.1 v1)).length:Int)).isSome/\True)<|lt (vl (u46 a0.2.1 v1)) fun v2 =>
  if(!vl (u79 (a0.2.2.getD v1.toNat (dflt y111)) (v2.length:Int))) then
   some false
  else
   gd (in64 (v1+1)/\True) <|
   g1 (v1+1)
 else
  u41J0 ()
def u41(a0:Y47):Option Bool :=
 gd ((u78 a0.1 a0.2.1).isSome/\True) <|
 if(!vl (u78 a0.1 a0.2.1)||(a0.2.2.length:Int) != (a0.2.1.2.1.length:Int)) then
  some false
 else
  lp (u41L1 a0) 0
def k41:Ct:=lct 41 [.agg y47] (fun x=>u41 x.1) (fun r:Bool=>B r) (fun _=>())
theorem o41:Ok prog k41:=by
 refine okM [.tmp 2] func41 ?_;intro y ⟨a0,_⟩ r H Q hn hr;have:=hz (tc o79 (tc o46 (tc o78 tn)));refine iA [1]<|vQ<|iB [1,19] H fun H=>cD H (fun H=>iA [2]<|vTT<|fR<|hr H) fun H=>vK<|fQ<|jN r (fun(_:Unit)=>Z [] []) (u41J0) (fun _ H=>?_) (fun _ n0 e0 t0=>?_)
 ·refine iA [2]<|vTT<|hr H
 refine iA [1,3]<|vB<|lX (fun(v1:Int)=>Z (G3 v1 []) [(1,K 47 y47 a0)]) 0 H fun _ g1 b1 e1 t1 v1 H=>vQ<|iA [1,3,24]<|cD H (fun H=>?_) (fun H=>?_)
 ·refine vK<|fQ<|vQ<|vB<|iD o46 [1,3,38] H fun _ H=>cD H (fun H=>iA [2]<|vTT<|fDD<|fR<|t1<|fDD<|t0<|hr H) fun H=>vK<|fK<|fQ<|jB [1,3] H fun H=>b1 H
 exact vE<|fE<|e1<|fX rfl<|n0 H
def u19(a0:Y47)(a1:List Int):Option Int :=
 gd ((u41 a0).isSome/\True) <|
 if(!vl (u41 a0)) then
  some 1
 else
  gd ((u20 a0).isSome/\(u42 a1 (↑(vl (u20 a0)).length:Int)).isSome/\True)<|lt (vl (u20 a0)) fun v0 =>
  if(!vl (u42 a1 (v0.length:Int))) then
   some 2
  else
   some 0
def k19:Ct:=lct 19 [.agg y47,.dat i64.sl] (fun x=>u19 x.1 x.2.1) (fun r:Int=>I r) (fun _=>())
theorem o19:Ok prog k19:=by
 refine okM [.tmp 4] func19 ?_;intro y ⟨_,_,_⟩ r H Q hn hr;have:=hz (tc o42 (tc o20 (tc o41 tn)));refine iA [1,2]<|vQ<|iB [1,2,7] H fun H=>cD H (fun H=>iA [4]<|vTT<|fR<|hr H) fun H=>vK<|fQ<|vQ<|iD o20 [13] H fun _ H=>cD H (fun H=>iA [4]<|vTT<|fR<|hr H) fun H=>vK<|fQ<|iA [4]<|vTT<|hr H
def u5(a0:Y47)(a1:List Int):Option (List (List Int)×Int) :=
 gd ((u19 a0 a1).isSome/\True)<|lt (vl (u19 a0 a1)) fun v0 =>
 if(v0 != 0) then
  some ([],v0)
 else
  gd ((u20 a0).isSome/\True)<|lt (vl (u20 a0)) fun v1 =>
  gd ((u22 a0).isSome/\(u23 v1 a1).isSome/\(u21 (vl (u22 a0)) v1 (vl (u23 v1 a1))).isSome/\True)<|lt ((vl (u21 (vl (u22 a0)) v1 (vl (u23 v1 a1))),vl (u23 v1 a1))) fun(v2,_) =>
  some ((v2,(0:Int)))
def k5:Ct:=lct 5 [.agg y47,.dat i64.sl] (fun x=>u5 x.1 x.2.1) (fun r:List (List Int)×Int=>AV.tup [AV.ow 33 true i64.sl r.1,I r.2]) (fun _=>())
theorem o5:Ok prog k5:=by
 refine okM [.tmp 4,.tmp 5] func5 ?_;intro y ⟨a0,_,_⟩ r H Q hn hr;have:=hz (tc o21 (tc o23 (tc o22 (tc o20 (tc o19 tn)))));refine iA [1,2]<|vQ<|iD o19 [1,2,6] H fun _ H=>iA [1,2,6,12]<|cD H (fun H=>iA [4,5]<|vTT<|fR<|hr H) fun H=>vK<|fQ<|iD o20 [1,2,7] H fun v1 H=>qD (fun(v2,v3)=>Z [p 4 (O 23),p 5 (I 0)] [(23,A 33 i64.sl v2 0),(22,A 4 Ty.bool v3 0),(16,A 148 y148 v1 0),(2,K 47 y47 a0)]) H fun⟨v2,v3⟩ H =>
  vTT<|hr H
def u7J0:List Int->Option (List Int)
 | v3 =>
 some v3
def u7L1(a0:List Int)(g1:Int×List Int->Option (List Int)):Int×List Int->Option (List Int)
 | (v1,v2) =>
 if(decide (v1 < (a0.length:Int))) then
  gd (ix v1 a0.length/\ix v1 v2.length/\v1.toNat<v2.length/\True) <|
  gd (in64 (v1+1)/\True) <|
  g1 ((v1+1,v2.set v1.toNat (a0.getD v1.toNat 0)))
 else
  u7J0 v2
def u7(a0:List Int):Option (List Int) :=
 gd ((0<=(a0.length:Int)/\(a0.length:Int)=(a0.length:Int)/\(a0.length:Int).toNat*8<=281474976710656/\(a0.length:Int)<=9223372036854775807)/\True) <|
 lp (u7L1 a0) ((0,List.replicate (a0.length:Int).toNat 0))
def k7:Ct:=lct 7 [.dat i64.sl] (fun x=>u7 x.1) (fun r:List Int=>AV.ow 2 true i64 r) (fun _=>())
theorem o7:Ok prog k7:=by
 refine okM [.tmp 2] func7 ?_;intro y ⟨a0,_⟩ r H Q hn hr;refine iA [0]<|iB [0,3] H fun H=>jN r (fun(v3:List Int)=>Z [p 3 (O 7)] [(7,A 2 i64 v3 0)]) (u7J0) (fun v3 H=>?_) (fun _ n0 e0 t0=>?_)
 ·refine iA [2]<|vTT<|hr H
 refine iA [0,3,4]<|vB<|lX (fun((v1,v2):Int×List Int)=>Z [p 0 (L i64 a0),p 3 (O 7),p 4 (I v1)] [(7,A 2 i64 v2 0)]) ((0,List.replicate (a0.length:Int).toNat 0)) H fun _ g1 b1 e1 t1 ⟨v1,v2⟩ H=>vQ<|iA [0,3,4,11]<|cD H (fun H=>vK<|fQ<|vQ<|vB<|jB [0,3,4] H fun H=>fK<|fQ<|jB [0,3,4] H fun H=>b1 H) fun H=>vE<|fE<|e1<|fX rfl<|n0 H
def u56(a0:Y86):Option Y111 :=
 gd ((u7 a0.1).isSome/\True)<|lt (vl (u7 a0.1)) fun v0 =>
 gd ((u7 a0.2.1).isSome/\True)<|lt (vl (u7 a0.2.1)) fun v1 =>
 gd ((u7 a0.2.2.1).isSome/\True)<|lt (vl (u7 a0.2.2.1)) fun v2 =>
 gd ((u7 a0.2.2.2).isSome/\True)<|lt (vl (u7 a0.2.2.2)) fun v3 =>
 some (v0,v1,v2,v3)
def k56:Ct:=lct 56 [.agg y86] (fun x=>u56 x.1) (fun r:Y111=>AV.agg [AV.ow 2 true i64 r.1,AV.ow 2 true i64 r.2.1,AV.ow 2 true i64 r.2.2.1,AV.ow 2 true i64 r.2.2.2]) (fun _=>())
theorem o56:Ok prog k56:=by
 refine okM [.cell 2 111] func56 ?_;intro y ⟨_,_⟩ r H Q hn hr;have:=hz (tc o7 tn);refine iA [1,2]<|iA [1,2,3]<|iD o7 [1,2,3] H fun _ H=>iD o7 [1,2,3] H fun _ H=>iD o7 [1,2,3] H fun _ H=>iD o7 [2,3] H fun _ H=>iA [2]<|vTT<|hr H
def k56d:Ct:=lct 56 [.agg y86] (fun x=>u56 x.1) (fun r=>frz ((fun r:Y111=>AV.agg [AV.ow 2 true i64 r.1,AV.ow 2 true i64 r.2.1,AV.ow 2 true i64 r.2.2.1,AV.ow 2 true i64 r.2.2.2]) r)) (fun _=>())
theorem o56d:Ok prog k56d:=ok_frz o56
def u26J0:List Y111->Option (List Y111)
 | v5 =>
 some v5
def u26L1(a0:List Y86)(g1:Int×List Y111->Option (List Y111)):Int×List Y111->Option (List Y111)
 | (v2,v3) =>
 if(decide (v2 < (a0.length:Int))) then
  gd (ix v2 a0.length/\(u56 (a0.getD v2.toNat (dflt y86))).isSome/\ix v2 v3.length/\v2.toNat<v3.length/\True)<|lt (vl (u56 (a0.getD v2.toNat (dflt y86)))) fun v4 =>
  gd (in64 (v2+1)/\True) <|
  g1 (v2+1,v3.set v2.toNat v4)
 else
  u26J0 v3
def u26(a0:List Y86):Option (List Y111) :=
 gd ((0<=(a0.length:Int)/\(a0.length:Int)=(a0.length:Int)/\(a0.length:Int).toNat*96<=281474976710656/\(a0.length:Int)<=9223372036854775807)/\True) <|
 lp (u26L1 a0) ((0,List.replicate (a0.length:Int).toNat ([],[],[],[])))
def k26:Ct:=lct 26 [.dat y86.sl] (fun x=>u26 x.1) (fun r:List Y111=>AV.ow 111 true y111 r) (fun _=>())
theorem o26:Ok prog k26:=by
 refine okM [.tmp 2] func26 ?_;intro y ⟨a0,_⟩ r H Q hn hr;have:=hz (tc o56d tn);refine iA [0]<|iB [0,3] H fun H=>jN r (fun(v5:List Y111)=>Z [p 3 (O 7)] [(7,A 111 y111 v5 0)]) (u26J0) (fun v5 H=>?_) (fun _ n0 e0 t0=>?_)
 ·refine iA [2]<|vTT<|hr H
 refine iA [0,3,4]<|vB<|lX (fun((v2,v3):Int×List Y111)=>Z [p 0 (L y86 a0),p 3 (O 7),p 4 (I v2)] [(7,A 111 y111 v3 0)]) ((0,List.replicate (a0.length:Int).toNat ([],[],[],[]))) H fun _ g1 b1 e1 t1 ⟨v2,v3⟩ H=>vQ<|iA [0,3,4,11]<|cD H (fun H=>vK<|fQ<|vQ<|vB<|zD (fun v4=>Z [p 0 (L y86 a0),p 3 (O 7),p 4 (I v2)] [(7,A 111 y111 (v3.set v2.toNat v4) 0)]) H fun v4 H=>fK<|fQ<|jB [0,3,4] H fun H=>b1 H) fun H=>vE<|fE<|e1<|fX rfl<|n0 H
def u83(a0:Y141):Option Y149 :=
 some a0
def k83:Ct:=lct 83 [.agg y141] (fun x=>u83 x.1) (fun r:Y149=>AV.agg [S r.1,I r.2.1,I r.2.2]) (fun _=>())
theorem o83:Ok prog k83:=by
 refine okM [.cell 2 149] func83 ?_;intro y ⟨_,_⟩ r H Q hn hr;refine iA [1,2]<|iA [1,2,3]<|iA [1,2,3]<|iA [1,2,3]<|iA [2,3]<|iA [2]<|vTT<|hr H
def u55J0:List Y149->Option (List Y149)
 | v5 =>
 some v5
def u55L1(a0:List Y141)(g1:Int×List Y149->Option (List Y149)):Int×List Y149->Option (List Y149)
 | (v2,v3) =>
 if(decide (v2 < (a0.length:Int))) then
  gd (ix v2 a0.length/\(u83 (a0.getD v2.toNat (dflt y141))).isSome/\ix v2 v3.length/\v2.toNat<v3.length/\True)<|lt (vl (u83 (a0.getD v2.toNat (dflt y141)))) fun v4 =>
  gd (in64 (v2+1)/\True) <|
  g1 (v2+1,v3.set v2.toNat v4)
 else
  u55J0 v3
def u55(a0:List Y141):Option (List Y149) :=
 gd ((0<=(a0.length:Int)/\(a0.length:Int)=(a0.length:Int)/\(a0.length:Int).toNat*32<=281474976710656/\(a0.length:Int)<=9223372036854775807)/\True)<|lt (List.replicate (a0.length:Int).toNat (ByteArray.mk #[],(0:Int),(0:Int))) fun v0 =>
 lp (u55L1 a0) (0,v0)
def k55:Ct:=lct 55 [.dat y141.sl] (fun x=>u55 x.1) (fun r:List Y149=>AV.ow 149 true y149 r) (fun _=>())
theorem o55:Ok prog k55:=by
 refine okM [.tmp 2] func55 ?_;intro y ⟨a0,_⟩ r H Q hn hr;have:=hz (tc o83 tn);refine iA [0]<|qD (fun v0=>Z [p 0 (L y141 a0),p 3 (O 7)] [(7,A 149 y149 v0 0)]) H fun v0 H=>jN r (fun(v5:List Y149)=>Z [p 3 (O 7)] [(7,A 149 y149 v5 0)]) (u55J0) (fun v5 H=>?_) (fun _ n0 e0 t0=>?_)
 ·refine iA [2]<|vTT<|hr H
 refine iA [0,3,4]<|vB<|lX (fun((v2,v3):Int×List Y149)=>Z [p 0 (L y141 a0),p 3 (O 7),p 4 (I v2)] [(7,A 149 y149 v3 0)]) (0,v0) H fun _ g1 b1 e1 t1 ⟨v2,v3⟩ H=>vQ<|iA [0,3,4,11]<|cD H (fun H=>vK<|fQ<|vQ<|vB<|jD o83 [0,3,4] H fun _ H=>fK<|fQ<|jB [0,3,4] H fun H=>b1 H) fun H=>vE<|fE<|e1<|fX rfl<|n0 H
def u54J0:List ByteArray->Option (List ByteArray)
 | v3 =>
 some v3
def u54L1(a0:List ByteArray)(g1:Int×List ByteArray->Option (List ByteArray)):Int×List ByteArray->Option (List ByteArray)
 | (v1,v2) =>
 if(decide (v1 < (a0.length:Int))) then
  gd (ix v1 a0.length/\ix v1 v2.length/\v1.toNat<v2.length/\True) <|
  gd (in64 (v1+1)/\True) <|
  g1 ((v1+1,v2.set v1.toNat (a0.getD v1.toNat (dflt Ty.str))))
 else
  u54J0 v2
def u54(a0:List ByteArray):Option (List ByteArray) :=
 gd ((0<=(a0.length:Int)/\(a0.length:Int)=(a0.length:Int)/\(a0.length:Int).toNat*16<=281474976710656/\(a0.length:Int)<=9223372036854775807)/\True) <|
 lp (u54L1 a0) ((0,List.replicate (a0.length:Int).toNat (ByteArray.mk #[])))
def k54:Ct:=lct 54 [.dat Ty.str.sl] (fun x=>u54 x.1) (fun r:List ByteArray=>AV.ow 9 true Ty.str r) (fun _=>())
theorem o54:Ok prog k54:=by
 refine okM [.tmp 2] func54 ?_;intro y ⟨a0,_⟩ r H Q hn hr;refine iA [0]<|iB [0,3] H fun H=>jN r (fun(v3:List ByteArray)=>Z [p 3 (O 7)] [(7,A 9 Ty.str v3 0)]) (u54J0) (fun v3 H=>?_) (fun _ n0 e0 t0=>?_)
 ·refine iA [2]<|vTT<|hr H
 refine iA [0,3,4]<|vB<|lX (fun((v1,v2):Int×List ByteArray)=>Z [p 0 (L Ty.str a0),p 3 (O 7),p 4 (I v1)] [(7,A 9 Ty.str v2 0)]) ((0,List.replicate (a0.length:Int).toNat (ByteArray.mk #[]))) H fun _ g1 b1 e1 t1 ⟨v1,v2⟩ H=>vQ<|iA [0,3,4,11]<|cD H (fun H=>vK<|fQ<|vQ<|vB<|jB [0,3,4] H fun H=>fK<|fQ<|jB [0,3,4] H fun H=>b1 H) fun H=>vE<|fE<|e1<|fX rfl<|n0 H
def u82(a0:Y138):Option Y94 :=
 gd ((u7 a0.2.2).isSome/\True)<|lt (vl (u7 a0.2.2)) fun v0 =>
 some (a0.1,a0.2.1,v0)
def k82:Ct:=lct 82 [.agg y138] (fun x=>u82 x.1) (fun r:Y94=>AV.agg [S r.1,I r.2.1,AV.ow 2 true i64 r.2.2]) (fun _=>())
theorem o82:Ok prog k82:=by
 refine okM [.cell 2 94] func82 ?_;intro y ⟨_,_⟩ r H Q hn hr;have:=hz (tc o7 tn);refine iA [1,2]<|iA [1,2,3]<|iA [1,2,3]<|iA [1,2,3]<|iD o7 [2,3] H fun _ H=>iA [2]<|vTT<|hr H
def k82d:Ct:=lct 82 [.agg y138] (fun x=>u82 x.1) (fun r=>frz ((fun r:Y94=>AV.agg [S r.1,I r.2.1,AV.ow 2 true i64 r.2.2]) r)) (fun _=>())
theorem o82d:Ok prog k82d:=ok_frz o82
def u53J0:List Y94->Option (List Y94)
 | v5 =>
 some v5
def u53L1(a0:List Y138)(g1:Int×List Y94->Option (List Y94)):Int×List Y94->Option (List Y94)
 | (v2,v3) =>
 if(decide (v2 < (a0.length:Int))) then
  gd (ix v2 a0.length/\(u82 (a0.getD v2.toNat (dflt y138))).isSome/\ix v2 v3.length/\v2.toNat<v3.length/\True)<|lt (vl (u82 (a0.getD v2.toNat (dflt y138)))) fun v4 =>
  gd (in64 (v2+1)/\True) <|
  g1 (v2+1,v3.set v2.toNat v4)
 else
  u53J0 v3
def u53(a0:List Y138):Option (List Y94) :=
 gd ((0<=(a0.length:Int)/\(a0.length:Int)=(a0.length:Int)/\(a0.length:Int).toNat*48<=281474976710656/\(a0.length:Int)<=9223372036854775807)/\True)<|lt (List.replicate (a0.length:Int).toNat (ByteArray.mk #[],(0:Int),[])) fun v0 =>
 lp (u53L1 a0) (0,v0)
def k53:Ct:=lct 53 [.dat y138.sl] (fun x=>u53 x.1) (fun r:List Y94=>AV.ow 94 true y94 r) (fun _=>())
theorem o53:Ok prog k53:=by
 refine okM [.tmp 2] func53 ?_;intro y ⟨a0,_⟩ r H Q hn hr;have:=hz (tc o82d tn);refine iA [0]<|qD (fun v0=>Z [p 0 (L y138 a0),p 3 (O 7)] [(7,A 94 y94 v0 0)]) H fun v0 H=>jN r (fun(v5:List Y94)=>Z [p 3 (O 7)] [(7,A 94 y94 v5 0)]) (u53J0) (fun v5 H=>?_) (fun _ n0 e0 t0=>?_)
 ·refine iA [2]<|vTT<|hr H
 refine iA [0,3,4]<|vB<|lX (fun((v2,v3):Int×List Y94)=>Z [p 0 (L y138 a0),p 3 (O 7),p 4 (I v2)] [(7,A 94 y94 v3 0)]) (0,v0) H fun _ g1 b1 e1 t1 ⟨v2,v3⟩ H=>vQ<|iA [0,3,4,11]<|cD H (fun H=>vK<|fQ<|vQ<|vB<|zD (fun v4=>Z [p 0 (L y138 a0),p 3 (O 7),p 4 (I v2)] [(7,A 94 y94 (v3.set v2.toNat v4) 0)]) H fun v4 H=>fK<|fQ<|jB [0,3,4] H fun H=>b1 H) fun H=>vE<|fE<|e1<|fX rfl<|n0 H
def u25(a0:Y29):Option Y44 :=
 gd ((u53 a0.1).isSome/\True)<|lt (vl (u53 a0.1)) fun v0 =>
 gd ((u54 a0.2.1).isSome/\True)<|lt (vl (u54 a0.2.1)) fun v1 =>
 gd ((u55 a0.2.2).isSome/\True)<|lt (vl (u55 a0.2.2)) fun v2 =>
 some (v0,v1,v2)
def k25:Ct:=lct 25 [.agg y29] (fun x=>u25 x.1) (fun r:Y44=>AV.agg [AV.ow 94 true y94 r.1,AV.ow 9 true Ty.str r.2.1,AV.ow 149 true y149 r.2.2]) (fun _=>())
theorem o25:Ok prog k25:=by
 refine okM [.cell 2 44] func25 ?_;intro y ⟨_,_⟩ r H Q hn hr;have:=hz (tc o55 (tc o54 (tc o53 tn)));refine iA [1,2]<|iA [1,2,3]<|iD o53 [1,2,3] H fun _ H=>iD o54 [1,2,3] H fun _ H=>iD o55 [2,3] H fun _ H=>iA [2]<|vTT<|hr H
def u156(a0:Y225):Option Y213 :=
 gd ((u7 a0.1).isSome/\True)<|lt (vl (u7 a0.1)) fun v0 =>
 gd ((u7 a0.2.1).isSome/\True)<|lt (vl (u7 a0.2.1)) fun v1 =>
 gd ((u7 a0.2.2).isSome/\True)<|lt (vl (u7 a0.2.2)) fun v2 =>
 some (v0,v1,v2)
def k156:Ct:=lct 156 [.agg y225] (fun x=>u156 x.1) (fun r:Y213=>AV.agg [AV.ow 2 true i64 r.1,AV.ow 2 true i64 r.2.1,AV.ow 2 true i64 r.2.2]) (fun _=>())
theorem o156:Ok prog k156:=by
 refine okM [.cell 2 213] func156 ?_;intro y ⟨_,_⟩ r H Q hn hr;have:=hz (tc o7 tn);refine iA [1,2]<|iA [1,2,3]<|iD o7 [1,2,3] H fun _ H=>iD o7 [1,2,3] H fun _ H=>iD o7 [2,3] H fun _ H=>iA [2]<|vTT<|hr H
def k156d:Ct:=lct 156 [.agg y225] (fun x=>u156 x.1) (fun r=>frz ((fun r:Y213=>AV.agg [AV.ow 2 true i64 r.1,AV.ow 2 true i64 r.2.1,AV.ow 2 true i64 r.2.2]) r)) (fun _=>())
theorem o156d:Ok prog k156d:=ok_frz o156
def u147J0:List Y213->Option (List Y213)
 | v5 =>
 some v5
def u147L1(a0:List Y225)(g1:Int×List Y213->Option (List Y213)):Int×List Y213->Option (List Y213)
 | (v2,v3) =>
 if(decide (v2 < (a0.length:Int))) then
  gd (ix v2 a0.length/\(u156 (a0.getD v2.toNat (dflt y225))).isSome/\ix v2 v3.length/\v2.toNat<v3.length/\True)<|lt (vl (u156 (a0.getD v2.toNat (dflt y225)))) fun v4 =>
  gd (in64 (v2+1)/\True) <|
  g1 (v2+1,v3.set v2.toNat v4)
 else
  u147J0 v3
def u147(a0:List Y225):Option (List Y213) :=
 gd ((0<=(a0.length:Int)/\(a0.length:Int)=(a0.length:Int)/\(a0.length:Int).toNat*72<=281474976710656/\(a0.length:Int)<=9223372036854775807)/\True) <|
 lp (u147L1 a0) ((0,List.replicate (a0.length:Int).toNat ([],[],[])))
def k147:Ct:=lct 147 [.dat y225.sl] (fun x=>u147 x.1) (fun r:List Y213=>AV.ow 213 true y213 r) (fun _=>())
theorem o147:Ok prog k147:=by
 refine okM [.tmp 2] func147 ?_;intro y ⟨a0,_⟩ r H Q hn hr;have:=hz (tc o156d tn);refine iA [0]<|iB [0,3] H fun H=>jN r (fun(v5:List Y213)=>Z [p 3 (O 7)] [(7,A 213 y213 v5 0)]) (u147J0) (fun v5 H=>?_) (fun _ n0 e0 t0=>?_)
 ·refine iA [2]<|vTT<|hr H
 refine iA [0,3,4]<|vB<|lX (fun((v2,v3):Int×List Y213)=>Z [p 0 (L y225 a0),p 3 (O 7),p 4 (I v2)] [(7,A 213 y213 v3 0)]) ((0,List.replicate (a0.length:Int).toNat ([],[],[]))) H fun _ g1 b1 e1 t1 ⟨v2,v3⟩ H=>vQ<|iA [0,3,4,11]<|cD H (fun H=>vK<|fQ<|vQ<|vB<|zD (fun v4=>Z [p 0 (L y225 a0),p 3 (O 7),p 4 (I v2)] [(7,A 213 y213 (v3.set v2.toNat v4) 0)]) H fun v4 H=>fK<|fQ<|jB [0,3,4] H fun H=>b1 H) fun H=>vE<|fE<|e1<|fX rfl<|n0 H
def u133(a0:Y201):Option Y97 :=
 gd ((u147 a0.2.2.2.2.1).isSome/\True)<|lt (vl (u147 a0.2.2.2.2.1)) fun v0 =>
 gd ((u147 a0.2.2.2.2.2).isSome/\True)<|lt (vl (u147 a0.2.2.2.2.2)) fun v1 =>
 some (a0.1,a0.2.1,a0.2.2.1,a0.2.2.2.1,v0,v1)
def k133:Ct:=lct 133 [.agg y201] (fun x=>u133 x.1) (fun r:Y97=>AV.agg [I r.1,I r.2.1,I r.2.2.1,I r.2.2.2.1,AV.ow 213 true y213 r.2.2.2.2.1,AV.ow 213 true y213 r.2.2.2.2.2]) (fun _=>())
theorem o133:Ok prog k133:=by
 refine okM [.cell 2 97] func133 ?_;intro y ⟨_,_⟩ r H Q hn hr;have:=hz (tc o147 tn);refine iA [1,2]<|iA [1,2,3]<|iA [1,2,3]<|iA [1,2,3]<|iA [1,2,3]<|iA [1,2,3]<|iD o147 [1,2,3] H fun _ H=>iD o147 [2,3] H fun _ H=>iA [2]<|vTT<|hr H
def k133d:Ct:=lct 133 [.agg y201] (fun x=>u133 x.1) (fun r=>frz ((fun r:Y97=>AV.agg [I r.1,I r.2.1,I r.2.2.1,I r.2.2.2.1,AV.ow 213 true y213 r.2.2.2.2.1,AV.ow 213 true y213 r.2.2.2.2.2]) r)) (fun _=>())
theorem o133d:Ok prog k133d:=ok_frz o133
def u110J0:List Y97->Option (List Y97)
 | v5 =>
 some v5
def u110L1(a0:List Y201)(g1:Int×List Y97->Option (List Y97)):Int×List Y97->Option (List Y97)
 | (v2,v3) =>
 if(decide (v2 < (a0.length:Int))) then
  gd (ix v2 a0.length/\(u133 (a0.getD v2.toNat (dflt y201))).isSome/\ix v2 v3.length/\v2.toNat<v3.length/\True)<|lt (vl (u133 (a0.getD v2.toNat (dflt y201)))) fun v4 =>
  gd (in64 (v2+1)/\True) <|
  g1 (v2+1,v3.set v2.toNat v4)
 else
  u110J0 v3
def u110(a0:List Y201):Option (List Y97) :=
 gd ((0<=(a0.length:Int)/\(a0.length:Int)=(a0.length:Int)/\(a0.length:Int).toNat*80<=281474976710656/\(a0.length:Int)<=9223372036854775807)/\True)<|lt (List.replicate (a0.length:Int).toNat ((0:Int),(0:Int),(0:Int),(0:Int),[],[])) fun v0 =>
 lp (u110L1 a0) (0,v0)
def k110:Ct:=lct 110 [.dat y201.sl] (fun x=>u110 x.1) (fun r:List Y97=>AV.ow 97 true y97 r) (fun _=>())
theorem o110:Ok prog k110:=by
 refine okM [.tmp 2] func110 ?_;intro y ⟨a0,_⟩ r H Q hn hr;have:=hz (tc o133d tn);refine iA [0]<|qD (fun v0=>Z [p 0 (L y201 a0),p 3 (O 7)] [(7,A 97 y97 v0 0)]) H fun v0 H=>jN r (fun(v5:List Y97)=>Z [p 3 (O 7)] [(7,A 97 y97 v5 0)]) (u110J0) (fun v5 H=>?_) (fun _ n0 e0 t0=>?_)
 ·refine iA [2]<|vTT<|hr H
 refine iA [0,3,4]<|vB<|lX (fun((v2,v3):Int×List Y97)=>Z [p 0 (L y201 a0),p 3 (O 7),p 4 (I v2)] [(7,A 97 y97 v3 0)]) (0,v0) H fun _ g1 b1 e1 t1 ⟨v2,v3⟩ H=>vQ<|iA [0,3,4,11]<|cD H (fun H=>vK<|fQ<|vQ<|vB<|zD (fun v4=>Z [p 0 (L y201 a0),p 3 (O 7),p 4 (I v2)] [(7,A 97 y97 (v3.set v2.toNat v4) 0)]) H fun v4 H=>fK<|fQ<|jB [0,3,4] H fun H=>b1 H) fun H=>vE<|fE<|e1<|fX rfl<|n0 H
def u132(a0:Y197):Option Y194 :=
 some a0
def k132:Ct:=lct 132 [.agg y197] (fun x=>u132 x.1) (fun r:Y194=>AV.agg [S r.1,I r.2.1,I r.2.2.1,B r.2.2.2]) (fun _=>())
theorem o132:Ok prog k132:=by
 refine okM [.cell 2 194] func132 ?_;intro y ⟨_,_⟩ r H Q hn hr;refine iA [1,2]<|iA [1,2,3]<|iA [1,2,3]<|iA [1,2,3]<|iA [1,2,3]<|iA [2,3]<|iA [2]<|vTT<|hr H
def u109J0:List Y194->Option (List Y194)
 | v5 =>
 some v5
def u109L1(a0:List Y197)(g1:Int×List Y194->Option (List Y194)):Int×List Y194->Option (List Y194)
 | (v2,v3) =>
 if(decide (v2 < (a0.length:Int))) then
  gd (ix v2 a0.length/\(u132 (a0.getD v2.toNat (dflt y197))).isSome/\ix v2 v3.length/\v2.toNat<v3.length/\True)<|lt (vl (u132 (a0.getD v2.toNat (dflt y197)))) fun v4 =>
  gd (in64 (v2+1)/\True) <|
  g1 (v2+1,v3.set v2.toNat v4)
 else
  u109J0 v3
def u109(a0:List Y197):Option (List Y194) :=
 gd ((0<=(a0.length:Int)/\(a0.length:Int)=(a0.length:Int)/\(a0.length:Int).toNat*40<=281474976710656/\(a0.length:Int)<=9223372036854775807)/\True)<|lt (List.replicate (a0.length:Int).toNat (ByteArray.mk #[],(0:Int),(0:Int),false)) fun v0 =>
 lp (u109L1 a0) (0,v0)
def k109:Ct:=lct 109 [.dat y197.sl] (fun x=>u109 x.1) (fun r:List Y194=>AV.ow 194 true y194 r) (fun _=>())
theorem o109:Ok prog k109:=by
 refine okM [.tmp 2] func109 ?_;intro y ⟨a0,_⟩ r H Q hn hr;have:=hz (tc o132 tn);refine iA [0]<|qD (fun v0=>Z [p 0 (L y197 a0),p 3 (O 7)] [(7,A 194 y194 v0 0)]) H fun v0 H=>jN r (fun(v5:List Y194)=>Z [p 3 (O 7)] [(7,A 194 y194 v5 0)]) (u109J0) (fun v5 H=>?_) (fun _ n0 e0 t0=>?_)
 ·refine iA [2]<|vTT<|hr H
 refine iA [0,3,4]<|vB<|lX (fun((v2,v3):Int×List Y194)=>Z [p 0 (L y197 a0),p 3 (O 7),p 4 (I v2)] [(7,A 194 y194 v3 0)]) (0,v0) H fun _ g1 b1 e1 t1 ⟨v2,v3⟩ H=>vQ<|iA [0,3,4,11]<|cD H (fun H=>vK<|fQ<|vQ<|vB<|jD o132 [0,3,4] H fun _ H=>fK<|fQ<|jB [0,3,4] H fun H=>b1 H) fun H=>vE<|fE<|e1<|fX rfl<|n0 H
def u81(a0:Y136):Option Y92 :=
 gd ((u109 a0.2.2.1).isSome/\True)<|lt (vl (u109 a0.2.2.1)) fun v0 =>
 gd ((u110 a0.2.2.2.1).isSome/\True)<|lt (vl (u110 a0.2.2.2.1)) fun v1 =>
 gd ((u7 a0.2.2.2.2.1).isSome/\True)<|lt (vl (u7 a0.2.2.2.2.1)) fun v2 =>
 some (a0.1,a0.2.1,v0,v1,v2,a0.2.2.2.2.2)
def k81:Ct:=lct 81 [.agg y136] (fun x=>u81 x.1) (fun r:Y92=>AV.agg [S r.1,I r.2.1,AV.ow 194 true y194 r.2.2.1,AV.ow 97 true y97 r.2.2.2.1,AV.ow 2 true i64 r.2.2.2.2.1,I r.2.2.2.2.2.1,I r.2.2.2.2.2.2]) (fun _=>())
theorem o81:Ok prog k81:=by
 refine okM [.cell 2 92] func81 ?_;intro y ⟨_,_⟩ r H Q hn hr;have:=hz (tc o7 (tc o110 (tc o109 tn)));refine iA [1,2]<|iA [1,2,3]<|iA [1,2,3]<|iA [1,2,3]<|iD o109 [1,2,3] H fun _ H=>iD o110 [1,2,3] H fun _ H=>iD o7 [1,2,3] H fun _ H=>iA [1,2,3]<|iA [2,3]<|iA [2] ?_
 exact vTT<|hr H
def k81d:Ct:=lct 81 [.agg y136] (fun x=>u81 x.1) (fun r=>frz ((fun r:Y92=>AV.agg [S r.1,I r.2.1,AV.ow 194 true y194 r.2.2.1,AV.ow 97 true y97 r.2.2.2.1,AV.ow 2 true i64 r.2.2.2.2.1,I r.2.2.2.2.2.1,I r.2.2.2.2.2.2]) r)) (fun _=>())
theorem o81d:Ok prog k81d:=ok_frz o81
def u52J0:List Y92->Option (List Y92)
 | v5 =>
 some v5
def u52L1(a0:List Y136)(g1:Int×List Y92->Option (List Y92)):Int×List Y92->Option (List Y92)
 | (v2,v3) =>
 if(decide (v2 < (a0.length:Int))) then
  gd (ix v2 a0.length/\(u81 (a0.getD v2.toNat (dflt y136))).isSome/\ix v2 v3.length/\v2.toNat<v3.length/\True)<|lt (vl (u81 (a0.getD v2.toNat (dflt y136)))) fun v4 =>
  gd (in64 (v2+1)/\True) <|
  g1 (v2+1,v3.set v2.toNat v4)
 else
  u52J0 v3
def u52(a0:List Y136):Option (List Y92) :=
 gd ((0<=(a0.length:Int)/\(a0.length:Int)=(a0.length:Int)/\(a0.length:Int).toNat*112<=281474976710656/\(a0.length:Int)<=9223372036854775807)/\True)<|lt (List.replicate (a0.length:Int).toNat (ByteArray.mk #[],(0:Int),[],[],[],(0:Int),(0:Int))) fun v0 =>
 lp (u52L1 a0) (0,v0)
def k52:Ct:=lct 52 [.dat y136.sl] (fun x=>u52 x.1) (fun r:List Y92=>AV.ow 92 true y92 r) (fun _=>())
theorem o52:Ok prog k52:=by
 refine okM [.tmp 2] func52 ?_;intro y ⟨a0,_⟩ r H Q hn hr;have:=hz (tc o81d tn);refine iA [0]<|qD (fun v0=>Z [p 0 (L y136 a0),p 3 (O 7)] [(7,A 92 y92 v0 0)]) H fun v0 H=>jN r (fun(v5:List Y92)=>Z [p 3 (O 7)] [(7,A 92 y92 v5 0)]) (u52J0) (fun v5 H=>?_) (fun _ n0 e0 t0=>?_)
 ·refine iA [2]<|vTT<|hr H
 refine iA [0,3,4]<|vB<|lX (fun((v2,v3):Int×List Y92)=>Z [p 0 (L y136 a0),p 3 (O 7),p 4 (I v2)] [(7,A 92 y92 v3 0)]) (0,v0) H fun _ g1 b1 e1 t1 ⟨v2,v3⟩ H=>vQ<|iA [0,3,4,11]<|cD H (fun H=>vK<|fQ<|vQ<|vB<|zD (fun v4=>Z [p 0 (L y136 a0),p 3 (O 7),p 4 (I v2)] [(7,A 92 y92 (v3.set v2.toNat v4) 0)]) H fun v4 H=>fK<|fQ<|jB [0,3,4] H fun H=>b1 H) fun H=>vE<|fE<|e1<|fX rfl<|n0 H
def u24(a0:List Y136):Option (List Y92) :=
 gd ((u52 a0).isSome/\True)<|lt (vl (u52 a0)) fun v0 =>
 some v0
def k24:Ct:=lct 24 [.agg y136.sl] (fun x=>u24 x.1) (fun r:List Y92=>AV.agg [AV.ow 92 true y92 r]) (fun _=>())
theorem o24:Ok prog k24:=by
 refine okM [.cell 2 40] func24 ?_;intro y ⟨_,_⟩ r H Q hn hr;have:=hz (tc o52 tn);refine iA [1,2]<|iA [1,2,3]<|iD o52 [2,3] H fun _ H=>iA [2]<|vTT<|hr H
def u6(a0:Y32):Option Y47 :=
 gd ((u24 a0.1).isSome/\True)<|lt (vl (u24 a0.1)) fun v0 =>
 gd ((u25 a0.2.1).isSome/\True)<|lt (vl (u25 a0.2.1)) fun v1 =>
 gd ((u26 a0.2.2).isSome/\True)<|lt (vl (u26 a0.2.2)) fun v2 =>
 some (v0,v1,v2)
def k6:Ct:=lct 6 [.agg y32] (fun x=>u6 x.1) (fun r:Y47=>AV.agg [AV.ow 92 true y92 r.1,AV.ow 94 true y94 r.2.1.1,AV.ow 9 true Ty.str r.2.1.2.1,AV.ow 149 true y149 r.2.1.2.2,AV.ow 111 true y111 r.2.2]) (fun _=>())
theorem o6:Ok prog k6:=by
 refine okM [.cell 2 47] func6 ?_;intro y ⟨_,_⟩ r H Q hn hr;have:=hz (tc o26 (tc o25 (tc o24 tn)));refine iA [1,2]<|iA [1,2,3]<|iD o24 [1,2,3] H fun _ H=>iD o25 [1,2,3] H fun _ H=>iD o26 [2,3] H fun _ H=>iA [2]<|vTT<|hr H
def u97(a0:Y148)(a1:Int):Option Bool :=
 some (a0.1==a1&&a0.2.1==a1)
def k97:Ct:=lct 97 [.agg y148,.dat (.pt i64)] (fun x=>u97 x.1 x.2.1) (fun r:Bool=>B r) (fun _=>())
theorem o97:Ok prog k97:=by
 refine okM [.tmp 3] func97 ?_;intro y ⟨_,_,_⟩ r H Q hn hr;refine iA [1,2]<|iA [3]<|vTT<|hr H
def u96c97J0:List Int->Option (List Int)
 | v6 =>
 some v6
def u96c97J2(v3:Int)(g1:List Int×Int->Option (List Int)):List Int->Option (List Int)
 | v5 =>
 gd (in64 (v3+1)/\True) <|
 g1 (v5,v3+1)
def u96c97L1(a0:Y119)(a1:Int)(g1:List Int×Int->Option (List Int)):List Int×Int->Option (List Int)
 | (v2,v3) =>
 if(decide (v3 < (a0.1.2.2.1.length:Int))) then
  gd (ix v3 a0.1.2.2.1.length/\True)<|lt (a0.1.2.2.1.getD v3.toNat (dflt y148)) fun v4 =>
  gd (ix v3 a0.2.length/\(a0.2.getD v3.toNat false=true/\True->(u97 v4 a1).isSome)/\True) <|
  if(a0.2.getD v3.toNat false&&vl (u97 v4 a1)) then
   gd ((v2.length+[v3].length<=9223372036854775807/\(v2.length+[v3].length)*8<=140737488355328)/\True) <|
   u96c97J2 v3 g1 (v2++[v3])
  else
   u96c97J2 v3 g1 v2
 else
  u96c97J0 v2
def u96c97(a0:Y119)(a1:Int):Option (List Int) :=
 lp (u96c97L1 a0 a1) ([],0)
def k96c97:Ct:=lct 96 [.dat y119.pt,.fn 97 (.pt i64)] (fun x=>u96c97 x.1 x.2.1) (fun r:List Int=>AV.ow 2 true i64 r) (fun _=>())
theorem o96c97:Ok prog k96c97:=by
 refine okM [.tmp 4] func96 ?_;intro y ⟨a0,a1,_⟩ r H Q hn hr;have:=hz (tc o97 tn);refine iA [0,1]<|iA [0,1,5]<|jN r (fun(v6:List Int)=>Z [p 5 (O 36)] [(36,A 2 i64 v6 0)]) (u96c97J0) (fun v6 H=>?_) (fun _ n0 e0 t0=>?_)
 ·refine iA [4]<|vTT<|hr H
 refine iA [0,1,5,14,15,16]<|vB<|lX (fun((v2,v3):List Int×Int)=>Z [p 0 (D y119.pt a0),p 1 (AV.fn 97 [D i64.pt a1]),p 5 (O 36),p 14 (L y148 a0.1.2.2.1),p 15 (I (a0.1.2.2.1.length:Int)),p 16 (I v3)] [(36,A 2 i64 v2 0)]) ([],0) H fun _ g1 b1 e1 t1 ⟨v2,v3⟩ H=>iA [0,1,5,14,15,16,17]<|vQ<|cD H (fun H=>?_) (fun H=>?_)
 ·refine vK<|fQ<|jN r (fun(v5:List Int)=>Z [p 0 (D y119.pt a0),p 1 (AV.fn 97 [D i64.pt a1]),p 5 (O 36),p 14 (L y148 a0.1.2.2.1),p 15 (I (a0.1.2.2.1.length:Int)),p 16 (I v3)] [(36,A 2 i64 v5 0)]) (u96c97J2 v3 g1) (fun v5 H=>?_) (fun _ n2 e2 t2=>?_)
  ·refine jB [0,1,5,14,15,16] H fun H=>b1 H
  refine vB<|qD (fun v4=>Z [p 0 (D y119.pt a0),p 1 (AV.fn 97 [D i64.pt a1]),p 5 (O 36),p 6 (I v3),p 7 (R 7),p 14 (L y148 a0.1.2.2.1),p 15 (I (a0.1.2.2.1.length:Int)),p 16 (I v3)] [(7,K 148 y148 v4),(36,A 2 i64 v2 0)]) H fun v4 H=>iB [0,1,5,6,14,15,16,32] H fun H=>cD H (fun H=>jB [0,1,5,14,15,16] H fun H=>fK<|n2 H) fun H=>vK<|fK<|n2 H
 exact vE<|fE<|e1<|fX rfl<|n0 H
def u64(a0:Y119)(a1:Int):Option Bool :=
 gd ((u96c97 a0 a1).isSome/\True)<|lt (vl (u96c97 a0 a1)) fun v0 =>
 some (decide (0 < (v0.length:Int)))
def k64:Ct:=lct 64 [.dat y119.pt,.dat i64] (fun x=>u64 x.1 x.2.1) (fun r:Bool=>B r) (fun _=>())
theorem o64:Ok prog k64:=by
 refine okM [.tmp 4] func64 ?_;intro y ⟨_,_,_⟩ r H Q hn hr;have:=hz (tc o96c97 (tc o97 tn));refine iA [0,3]<|iD o96c97 [4] H fun _ H=>vTT<|hr H
def u63(a0:Y148):Option (Int×Int) :=
 some (a0.1,a0.2.1)
def k63:Ct:=lct 63 [.agg y148] (fun x=>u63 x.1) (fun r:Int×Int=>AV.tup [I r.1,I r.2]) (fun _=>())
theorem o63:Ok prog k63:=by
 refine okM [.tmp 2,.tmp 3] func63 ?_;intro y ⟨_,_⟩ r H Q hn hr;refine iA [1]<|iA [2,3]<|vTT<|hr H
def u94(a0:List Y156):Option Int :=
 some (a0.length:Int)
def k94:Ct:=lct 94 [.dat y156.sl] (fun x=>u94 x.1) (fun r:Int=>I r) (fun _=>())
theorem o94:Ok prog k94:=by
 refine okM [.tmp 2] func94 ?_;intro y ⟨_,_⟩ r H Q hn hr;refine iA [0]<|iA [2]<|vTT<|hr H
def u61(a0:Y158):Option Int :=
 gd ((u94 a0.2.1).isSome/\in64 (2*vl (u94 a0.2.1))/\True)<|lt (vl (u94 a0.2.1)) fun v0 =>
 some (2*v0)
def k61:Ct:=lct 61 [.dat y158.pt] (fun x=>u61 x.1) (fun r:Int=>I r) (fun _=>())
theorem o61:Ok prog k61:=by
 refine okM [.tmp 2] func61 ?_;intro y ⟨_,_⟩ r H Q hn hr;have:=hz (tc o94 tn);refine iA [0]<|iD o94 [2] H fun _ H=>vTT<|hr H
def u62c63J3:List Bool->Option (List Bool)
 | v21 =>
 some v21
def u62c63L4(v10:List (List Int))(g4:List Int×List Bool->Option (List Bool)):List Int×List Bool->Option (List Bool)
 | (v17,v18) =>
 if(decide (0 < (v17.length:Int))) then
  gd (ix (0:Int) v17.length/\Int.toNat (0:Int)<v17.length/\True) <|
  gd (((0:Int)<=(1:Int)/\(1:Int)<=(v17.length:Int)/\(v17.length:Int)<=(v17.length:Int))/\True) <|
  gd (ix (v17.getD (Int.toNat (0:Int)) (0:Int)) v18.length/\Int.toNat (v17.getD (Int.toNat (0:Int)) (0:Int))<v18.length/\True) <|
  if(!v18.getD (Int.toNat (v17.getD (Int.toNat (0:Int)) (0:Int))) false) then
   gd (ix (v17.getD (Int.toNat (0:Int)) (0:Int)) v18.length/\Int.toNat (v17.getD (Int.toNat (0:Int)) (0:Int))<v18.length/\True)<|lt (v18.set (Int.toNat (v17.getD (Int.toNat (0:Int)) (0:Int))) true) fun v19 =>
   gd (ix (v17.getD (Int.toNat (0:Int)) (0:Int)) v10.length/\((List.drop (Int.toNat (1:Int)) v17).length+List.length (v10.getD (Int.toNat (v17.getD (Int.toNat (0:Int)) (0:Int))) [])<=9223372036854775807/\((List.drop (Int.toNat (1:Int)) v17).length+List.length (v10.getD (Int.toNat (v17.getD (Int.toNat (0:Int)) (0:Int))) []))*8<=140737488355328)/\True)<|lt (List.drop (Int.toNat (1:Int)) v17++v10.getD (Int.toNat (v17.getD (Int.toNat (0:Int)) (0:Int))) []) fun v20 =>
   g4 (v20,v19)
  else
   g4 ((List.drop (Int.toNat (1:Int)) v17,v18))
 else
  u62c63J3 v18
def u62c63J0(a1:List Int)(a0:Y119):List (List Int)->Option (List Bool)
 | v10 =>
 gd ((u61 a0.1).isSome/\(0<=vl (u61 a0.1)/\vl (u61 a0.1)=vl (u61 a0.1)/\(vl (u61 a0.1)).toNat*1<=281474976710656/\vl (u61 a0.1)<=9223372036854775807)/\True)<|lt (vl (u61 a0.1)) fun v11 =>
 gd ((u95 a1).isSome/\True)<|lt (vl (u95 a1)) fun v12 =>
 lp (u62c63L4 v10) (v12,List.replicate v11.toNat false)
def u62c63J2(v5:Int)(g1:Int×List (List Int)->Option (List Bool)):List (List Int)->Option (List Bool)
 | v9 =>
 gd (in64 (v5+1)/\True) <|
 g1 (v5+1,v9)
def u62c63L1(a0:Y119)(a1:List Int)(g1:Int×List (List Int)->Option (List Bool)):Int×List (List Int)->Option (List Bool)
 | (v5,v6) =>
 if(decide (v5 < (a0.1.2.2.1.length:Int))) then
  gd (ix v5 a0.1.2.2.1.length/\True)<|lt (a0.1.2.2.1.getD v5.toNat (dflt y148)) fun v7 =>
  gd ((u63 v7).isSome/\True)<|lt (vl (u63 v7)) fun v8 =>
  gd (ix v5 a0.2.length/\True) <|
  if(a0.2.getD v5.toNat false) then
   gd (ix v8.1 v6.length/\v8.1.toNat<v6.length/\((v6.getD v8.1.toNat []).length+[v8.2].length<=9223372036854775807/\((v6.getD v8.1.toNat []).length+[v8.2].length)*8<=140737488355328)/\ix v8.1 v6.length/\(v8.1.toNat<v6.length/\v8.1.toNat=v8.1.toNat)/\True) <|
   u62c63J2 v5 g1 (v6.set v8.1.toNat (v6.getD v8.1.toNat []++[v8.2]))
  else
   u62c63J2 v5 g1 v6
 else
  u62c63J0 a1 a0 v6
def u62c63(a0:Y119)(a1:List Int):Option (List Bool) :=
 gd ((u61 a0.1).isSome/\(0<=vl (u61 a0.1)/\vl (u61 a0.1)=vl (u61 a0.1)/\(vl (u61 a0.1)).toNat*24<=281474976710656/\vl (u61 a0.1)<=9223372036854775807)/\True)<|lt (vl (u61 a0.1)) fun v0 =>
 lp (u62c63L1 a0 a1) (0,List.replicate v0.toNat [])
def k62c63:Ct:=lct 62 [.dat y119.pt,.dat i64.sl,.nof 63] (fun x=>u62c63 x.1 x.2.1) (fun r:List Bool=>AV.ow 4 true Ty.bool r) (fun _=>())
theorem o62c63:Ok prog k62c63:=by
 refine okM [.tmp 6] func62 ?_;intro y ⟨a0,a1,_,_⟩ r H Q hn hr;have:=hz (tc o95 (tc o61 (tc o63 tn)));refine iA [0,1,2]<|iD o61 [0,1,2,7] H fun v0 H=>jN r (fun(v10:List (List Int))=>Z [p 0 (D y119.pt a0),p 1 (L i64 a1),p 7 (AV.og 20)] [(20,Ob.grd 33 2 true i64 v10 none)]) (u62c63J0 a1 a0) (fun v10 H=>?_) (fun _ n0 e0 t0=>?_)
 ·refine iD o61 [1,7,12] H fun v11 H=>iD o95 [7,12,13] H fun v12 H=>jN r (fun(v21:List Bool)=>Z [p 12 (O 63)] [(63,A 4 Ty.bool v21 0)]) (u62c63J3) (fun v21 H=>?_) (fun _ n3 e3 t3=>?_)
  ·refine iA [6]<|vTT<|hr H
  refine vB<|fZ 20 (Z [p 7 (M i64.sl v10),p 12 (O 63),p 13 (O 65)] [(65,A 2 i64 v12 0),(63,A 4 Ty.bool (List.replicate v11.toNat false) 0)])<|lX (fun((v17,v18):List Int×List Bool)=>Z [p 7 (M i64.sl v10),p 12 (O 63),p 13 (O 65)] [(65,A 2 i64 v17 0),(63,A 4 Ty.bool v18 0)]) (v12,List.replicate v11.toNat false) H fun _ g4 b4 e4 t4 ⟨v17,v18⟩ H=>vQ<|iA [7,12,13,68]<|cD H (fun H=>?_) (fun H=>?_)
  ·refine vK<|fQ<|vB<|iB [7,12,13,14] H fun H=>iB [7,12,13,14] H fun H=>iB [7,12,13,14,78] H fun H=>cD H (fun H=>qD (fun v19=>Z [p 7 (M i64.sl v10),p 12 (O 63),p 13 (AV.os 65 1),p 14 (I (v17.getD (Int.toNat (0:Int)) (0:Int)))] [(63,A 4 Ty.bool v19 0),(65,A 2 i64 (List.drop (Int.toNat (1:Int)) v17) 1)]) H fun v19 H=>zD (fun v20=>Z [p 7 (M i64.sl v10),p 12 (O 63),p 13 (AV.os 65 2)] [(65,A 2 i64 v20 2),(63,A 4 Ty.bool v19 0)]) H fun v20 H=>fK<|b4 H) fun H=>vK<|fK<|b4 H
  exact vE<|fE<|e4<|fX rfl<|n3 H
 refine iA [0,1,2,7,27,28,29]<|vB<|lX (fun((v5,v6):Int×List (List Int))=>Z [p 0 (D y119.pt a0),p 1 (L i64 a1),p 2 (AV.fn 63 []),p 7 (AV.og 20),p 27 (L y148 a0.1.2.2.1),p 28 (I (a0.1.2.2.1.length:Int)),p 29 (I v5)] [(20,Ob.grd 33 2 true i64 v6 none)]) (0,List.replicate v0.toNat []) H fun _ g1 b1 e1 t1 ⟨v5,v6⟩ H=>iA [0,1,2,7,27,28,29,30]<|vQ<|cD H (fun H=>?_) (fun H=>?_)
 ·refine vK<|fQ<|jN r (fun(v9:List (List Int))=>Z [p 0 (D y119.pt a0),p 1 (L i64 a1),p 2 (AV.fn 63 []),p 7 (AV.og 20),p 27 (L y148 a0.1.2.2.1),p 28 (I (a0.1.2.2.1.length:Int)),p 29 (I v5)] [(20,Ob.grd 33 2 true i64 v9 none)]) (u62c63J2 v5 g1) (fun v9 H=>?_) (fun _ n2 e2 t2=>?_)
  ·refine jB [0,1,2,7,27,28,29] H fun H=>b1 H
  refine vB<|qD (fun v7=>Z [p 0 (D y119.pt a0),p 1 (L i64 a1),p 2 (AV.fn 63 []),p 7 (AV.og 20),p 8 (I v5),p 9 (R 9),p 27 (L y148 a0.1.2.2.1),p 28 (I (a0.1.2.2.1.length:Int)),p 29 (I v5)] [(9,K 148 y148 v7),(20,Ob.grd 33 2 true i64 v6 none)]) H fun v7 H=>iD o63 [0,1,2,7,8,10,11,27,28,29] H fun _ H=>iB [0,1,2,7,10,11,27,28,29,46] H fun H=>cD H (fun H=>jB [0,1,2,7,27,28,29] H fun H=>fK<|n2 H) fun H=>vK<|fK<|n2 H
 exact vE<|fE<|e1<|fX rfl<|n0 H
def k62c63d:Ct:=lct 62 [.dat y119.pt,.dat i64.sl,.nof 63] (fun x=>u62c63 x.1 x.2.1) (fun r=>frz ((fun r:List Bool=>AV.ow 4 true Ty.bool r) r)) (fun _=>())
theorem o62c63d:Ok prog k62c63d:=ok_frz o62c63
def u28J2:List (List Int)->Option (List (List Int))
 | v31 =>
 some v31
def u28J4(v18:Int)(g3:List (List Int)×Int×List Bool->Option (List (List Int))):List Bool×List (List Int)->Option (List (List Int))
 | (v29,v30) =>
 gd (in64 (v18+1)/\True) <|
 g3 (v30,v18+1,v29)
def u28J8(v18:Int)(v17:List (List Int))(v24:List Int)(g3:List (List Int)×Int×List Bool->Option (List (List Int))):List Bool->Option (List (List Int))
 | v28 =>
 gd ((v17.length+[v24].length<=9223372036854775807/\(v17.length+[v24].length)*24<=140737488355328)/\True) <|
 u28J4 v18 g3 (v28,v17++[v24])
def u28L9(v24:List Int)(v18:Int)(v17:List (List Int))(g3:List (List Int)×Int×List Bool->Option (List (List Int)))(g9:Int×List Bool->Option (List (List Int))):Int×List Bool->Option (List (List Int))
 | (v26,v27) =>
 if(decide (v26 < (v24.length:Int))) then
  gd (ix v26 v24.length/\v26.toNat<v24.length/\True) <|
  gd (ix (v24.getD v26.toNat 0) v27.length/\Int.toNat (v24.getD v26.toNat 0)<v27.length/\True) <|
  gd (in64 (v26+1)/\True) <|
  g9 ((v26+1,v27.set (Int.toNat (v24.getD v26.toNat 0)) true))
 else
  u28J8 v18 v17 v24 g3 v27
def u28J5(v18:Int)(v19:List Bool)(v17:List (List Int))(a0:Y119)(g3:List (List Int)×Int×List Bool->Option (List (List Int))):List Int->Option (List (List Int))
 | v24 =>
 gd ((decide ((v24.length:Int)<2)=true/\True->(u64 a0 v18).isSome)/\True) <|
 if(decide ((v24.length:Int)<2)&&!vl (u64 a0 v18)) then
  u28J4 v18 g3 (v19,v17)
 else
  lp (u28L9 v24 v18 v17 g3) (0,v19)
def u28J7(v22:Int)(g6:List Int×Int->Option (List (List Int))):List Int->Option (List (List Int))
 | v23 =>
 gd (in64 (v22+1)/\True) <|
 g6 (v23,v22+1)
def u28L6(v5:List (List Bool))(v18:Int)(v19:List Bool)(v17:List (List Int))(a0:Y119)(v0:Int)(g3:List (List Int)×Int×List Bool->Option (List (List Int)))(g6:List Int×Int->Option (List (List Int))):List Int×Int->Option (List (List Int))
 | (v21,v22) =>
 if(decide (v22<v0)) then
  gd (ix v18 v5.length/\v18.toNat<v5.length/\ix v22 (List.length (v5.getD v18.toNat []))/\(List.getD (v5.getD v18.toNat []) v22.toNat false=true/\True->ix v22 v5.length)/\(List.getD (v5.getD v18.toNat []) v22.toNat false=true/\True->v22.toNat<v5.length)/\(List.getD (v5.getD v18.toNat []) v22.toNat false=true/\True->ix v18 (List.length (v5.getD v22.toNat [])))/\True) <|
  if(List.getD (v5.getD v18.toNat []) v22.toNat false&&List.getD (v5.getD v22.toNat []) v18.toNat false) then
   gd ((v21.length+[v22].length<=9223372036854775807/\(v21.length+[v22].length)*8<=140737488355328)/\True) <|
   u28J7 v22 g6 (v21++[v22])
  else
   u28J7 v22 g6 v21
 else
  u28J5 v18 v19 v17 a0 g3 v21
def u28L3(v5:List (List Bool))(a0:Y119)(v0:Int)(g3:List (List Int)×Int×List Bool->Option (List (List Int))):List (List Int)×Int×List Bool->Option (List (List Int))
 | (v17,v18,v19) =>
 if(decide (v18<v0)) then
  gd (ix v18 v19.length/\v18.toNat<v19.length/\True) <|
  if(v19.getD v18.toNat false) then
   u28J4 v18 g3 (v19,v17)
  else
   lp (u28L6 v5 v18 v19 v17 a0 v0 g3) ([],0)
 else
  u28J2 v17
def u28J0(a0:Y119)(v0:Int):List (List Bool)->Option (List (List Int))
 | v5 =>
 gd ((0<=v0/\v0=v0/\v0.toNat*1<=281474976710656/\v0<=9223372036854775807)/\True) <|
 lp (u28L3 v5 a0 v0) ([],0,List.replicate v0.toNat false)
def u28L1(a0:Y119)(v0:Int)(g1:List (List Bool)×Int->Option (List (List Int))):List (List Bool)×Int->Option (List (List Int))
 | (v2,v3) =>
 if(decide (v3<v0)) then
  gd ((u62c63 a0 [v3]).isSome/\(v2.length+[vl (u62c63 a0 [v3])].length<=9223372036854775807/\(v2.length+[vl (u62c63 a0 [v3])].length)*24<=140737488355328)/\True)<|lt (vl (u62c63 a0 [v3])) fun v4 =>
  gd (in64 (v3+1)/\True) <|
  g1 (v2++[v4],v3+1)
 else
  u28J0 a0 v0 v2
def u28(a0:Y119):Option (List (List Int)) :=
 gd ((u61 a0.1).isSome/\True)<|lt (vl (u61 a0.1)) fun v0 =>
 lp (u28L1 a0 v0) ([],0)
def u60J2(a0:Y158):List Bool->Option Y119
 | v8 =>
 some (a0,v8)
def u60L3(a1:List Int)(a0:Y158)(g3:Int×List Bool->Option Y119):Int×List Bool->Option Y119
 | (v6,v7) =>
 if(decide (v6 < (a1.length:Int))) then
  gd (ix v6 a1.length/\True) <|
  gd (ix (a1.getD v6.toNat 0) v7.length/\Int.toNat (a1.getD v6.toNat 0)<v7.length/\True) <|
  gd (in64 (v6+1)/\True) <|
  g3 ((v6+1,v7.set (Int.toNat (a1.getD v6.toNat 0)) false))
 else
  u60J2 a0 v7
def u60J0(a1:List Int)(a0:Y158):List Bool->Option Y119
 | v4 =>
 lp (u60L3 a1 a0) (0,v4)
def u60L1(a1:List Int)(a0:Y158)(v0:Int)(g1:Int×List Bool->Option Y119):Int×List Bool->Option Y119
 | (v2,v3) =>
 if(decide (v2<v0)) then
  gd (ix v2 v3.length/\v2.toNat<v3.length/\True) <|
  gd (in64 (v2+1)/\True) <|
  g1 (v2+1,v3.set v2.toNat true)
 else
  u60J0 a1 a0 v3
def u60(a0:Y158)(a1:List Int):Option Y119 :=
 gd ((0<=(a0.2.2.1.length:Int)/\(a0.2.2.1.length:Int)=(a0.2.2.1.length:Int)/\(a0.2.2.1.length:Int).toNat*1<=281474976710656/\(a0.2.2.1.length:Int)<=9223372036854775807)/\True) <|
 lt ((↑(List.replicate (a0.2.2.1.length:Int).toNat false).length:Int)) fun v0 =>
 lp (u60L1 a1 a0 v0) ((0,List.replicate (a0.2.2.1.length:Int).toNat false))
def k60:Ct:=lct 60 [.dat y158.pt,.dat i64.sl] (fun x=>u60 x.1 x.2.1) (fun r:Y119=>D y119.pt r) (fun _=>())
theorem o60:Ok prog k60:=by
 refine okM [.tmp 4] func60 ?_;intro y ⟨a0,a1,_⟩ r H Q hn hr;refine iA [0,1]<|iB [1,5] H fun H=>jN r (fun(v4:List Bool)=>Z [p 1 (L i64 a1),p 5 (R 17)] (W4 a0 v4)) (u60J0 a1 a0) (fun v4 H=>?_) (fun _ n0 e0 t0=>?_)
 ·refine jN r (fun(v8:List Bool)=>Z [p 5 (R 17)] (W4 a0 v8)) (u60J2 a0) (fun v8 H=>?_) (fun _ n2 e2 t2=>?_)
  ·refine iA [4]<|vTT<|hr H
  refine iA [5,33,34,35]<|vB<|lX (fun((v6,v7):Int×List Bool)=>Z [p 5 (R 17),p 33 (L i64 a1),p 34 (I (a1.length:Int)),p 35 (I v6)] (W4 a0 v7)) (0,v4) H fun _ g3 b3 e3 t3 ⟨v6,v7⟩ H=>iA [5,33,34,35,36]<|vQ<|cD H (fun H=>vK<|fQ<|vQ<|vB<|iB [5,8,33,34,35] H fun H=>jB [5,33,34,35] H fun H=>fK<|fQ<|jB [5,33,34,35] H fun H=>b3 H) fun H=>vE<|fE<|e3<|fX rfl<|n2 H
 refine qC (fun v0=>Z [p 1 (L i64 a1),p 5 (R 17),p 22 (I v0),p 23 (I 0)] (W4 a0 (List.replicate (a0.2.2.1.length:Int).toNat false))) H fun v0 H=>vB<|lX (fun((v2,v3):Int×List Bool)=>Z [p 1 (L i64 a1),p 5 (R 17),p 22 (I v0),p 23 (I v2)] (W4 a0 v3)) ((0,List.replicate (a0.2.2.1.length:Int).toNat false)) H fun _ g1 b1 e1 t1 ⟨v2,v3⟩ H=>iA [1,5,22,23,24]<|vQ<|cD H (fun H=>vK<|fQ<|vQ<|vB<|iA [1,5,6,22,23]<|jB [1,5,22,23] H fun H=>fK<|fQ<|jB [1,5,22,23] H fun H=>b1 H) fun H=>vE<|fE<|e1<|fX rfl<|n0 H
def u93J0:Unit->Option Bool
 | _ =>
 some true
def u93L1(a0:List Int)(g1:Int->Option Bool):Int->Option Bool
 | v0 =>
 if(decide (v0 < (a0.length:Int))) then
  gd (in64 (v0-1)/\ix (v0-1) a0.length/\ix v0 a0.length/\True) <|
  if(decide (a0.getD v0.toNat 0<=a0.getD (v0-1).toNat 0)) then
   some false
  else
   gd (in64 (v0+1)/\True) <|
   g1 (v0+1)
 else
  u93J0 ()
def u93(a0:List Int):Option Bool :=
 lp (u93L1 a0) 1
def k93:Ct:=lct 93 [.dat i64.sl] (fun x=>u93 x.1) (fun r:Bool=>B r) (fun _=>())
theorem o93:Ok prog k93:=by
 refine okM [.tmp 2] func93 ?_;intro y ⟨a0,_⟩ r H Q hn hr;refine iA [0]<|jN r (fun(_:Unit)=>Z [] []) (u93J0) (fun _ H=>?_) (fun _ n0 e0 t0=>?_)
 ·refine iA [2]<|vTT<|hr H
 refine iA [0,3]<|vB<|lX (fun(v0:Int)=>Z [p 0 (L i64 a0),p 3 (I v0)] []) 1 H fun _ g1 b1 e1 t1 v0 H=>vQ<|iA [0,3,7]<|cD H (fun H=>?_) (fun H=>?_)
 ·refine vK<|fQ<|vQ<|vB<|iB [0,3,19] H fun H=>cD H (fun H=>iA [2]<|vTT<|fDD<|fR<|t1<|fDD<|t0<|hr H) fun H=>vK<|fK<|fQ<|jB [0,3] H fun H=>b1 H
 exact vE<|fE<|e1<|fX rfl<|n0 H
def u117(a0:Int)(a1:Int)(a2:Int):Option Bool :=
 some (decide (a1<=a0)&&decide (a0<=a2))
def k117:Ct:=lct 117 [.dat i64,.dat i64,.dat i64] (fun x=>u117 x.1 x.2.1 x.2.2.1) (fun r:Bool=>B r) (fun _=>())
theorem o117:Ok prog k117:=by
 refine okM [.tmp 6] func117 ?_;intro y ⟨_,_,_,_⟩ r H Q hn hr;refine iA [0,1,2]<|iA [6]<|vTT<|hr H
def u124(a0:Int)(a1:Int)(a2:Int):Option Bool :=
 gd ((u117 a0 a1 a2).isSome/\True) <|
 some (!vl (u117 a0 a1 a2))
def k124:Ct:=lct 124 [.dat i64,.dat (.pt i64),.dat (.pt i64)] (fun x=>u124 x.1 x.2.1 x.2.2.1) (fun r:Bool=>B r) (fun _=>())
theorem o124:Ok prog k124:=by
 refine okM [.tmp 4] func124 ?_;intro y ⟨_,_,_,_⟩ r H Q hn hr;have:=hz (tc o117 tn);refine iA [0,1,2]<|iB [4] H fun H=>vTT<|hr H
def u140c124J0:Unit->Option Int
 | _ =>
 some (-1)
def u140c124L1(a0:List Int)(a1:Int×Int)(g1:Int->Option Int):Int->Option Int
 | v0 =>
 if(decide (v0 < (a0.length:Int))) then
  gd (ix v0 a0.length/\(u124 (a0.getD v0.toNat 0) a1.1 a1.2).isSome/\True) <|
  if(vl (u124 (a0.getD v0.toNat 0) a1.1 a1.2)) then
   some v0
  else
   gd (in64 (v0+1)/\True) <|
   g1 (v0+1)
 else
  u140c124J0 ()
def u140c124(a0:List Int)(a1:Int×Int):Option Int :=
 lp (u140c124L1 a0 a1) 0
def k140c124:Ct:=lct 140 [.dat i64.sl,.fn 124 (.pr i64.pt i64.pt)] (fun x=>u140c124 x.1 x.2.1) (fun r:Int=>I r) (fun _=>())
theorem o140c124:Ok prog k140c124:=by
 refine okM [.tmp 4] func140 ?_;intro y ⟨a0,a1,_⟩ r H Q hn hr;have:=hz (tc o124 tn);refine iA [0,1]<|jN r (fun(_:Unit)=>Z [] []) (u140c124J0) (fun _ H=>?_) (fun _ n0 e0 t0=>?_)
 ·refine iA [4]<|vTT<|hr H
 refine iA [0,1,7,8]<|vB<|lX (fun(v0:Int)=>Z [p 0 (L i64 a0),p 1 (AV.fn 124 [D i64.pt a1.1,D i64.pt a1.2]),p 7 (I (a0.length:Int)),p 8 (I v0)] []) 0 H fun _ g1 b1 e1 t1 v0 H=>iA [0,1,7,8,9]<|vQ<|cD H (fun H=>?_) (fun H=>?_)
 ·refine vK<|fQ<|vQ<|vB<|iA [0,1,5,7,8]<|iB [0,1,5,7,8,16] H fun H=>cD H (fun H=>iA [4]<|vTT<|fDD<|fR<|t1<|fDD<|t0<|hr H) fun H=>vK<|fK<|fQ<|jB [0,1,7,8] H fun H=>b1 H
 exact vE<|fE<|e1<|fX rfl<|n0 H
def u123c124(a0:List Int)(a1:Int×Int):Option Bool :=
 gd ((u140c124 a0 a1).isSome/\True)<|lt (vl (u140c124 a0 a1)) fun v0 =>
 some (decide (0<=v0))
def k123c124:Ct:=lct 123 [.dat i64.sl,.fn 124 (.pr (.pt i64) (.pt i64))] (fun x=>u123c124 x.1 x.2.1) (fun r:Bool=>B r) (fun _=>())
theorem o123c124:Ok prog k123c124:=by
 refine okM [.tmp 4] func123 ?_;intro y ⟨_,_,_⟩ r H Q hn hr;have:=hz (tc o140c124 (tc o124 tn));refine iA [0,1]<|iD o140c124 [4] H fun _ H=>vTT<|hr H
def u91(a0:List Int)(a1:Int)(a2:Int):Option Bool :=
 gd ((u123c124 a0 (a1,a2)).isSome/\True) <|
 some (!vl (u123c124 a0 (a1,a2)))
def k91:Ct:=lct 91 [.dat i64.sl,.dat i64,.dat i64] (fun x=>u91 x.1 x.2.1 x.2.2.1) (fun r:Bool=>B r) (fun _=>())
theorem o91:Ok prog k91:=by
 refine okM [.tmp 6] func91 ?_;intro y ⟨_,_,_,_⟩ r H Q hn hr;have:=hz (tc o123c124 (tc o124 tn));refine iA [0,4,5]<|iB [6] H fun H=>vTT<|hr H
def u92(a0:List Y148):Option Int :=
 some (a0.length:Int)
def k92:Ct:=lct 92 [.dat y148.sl] (fun x=>u92 x.1) (fun r:Int=>I r) (fun _=>())
theorem o92:Ok prog k92:=by
 refine okM [.tmp 2] func92 ?_;intro y ⟨_,_⟩ r H Q hn hr;refine iA [0]<|iA [2]<|vTT<|hr H
def u59(a0:Y158)(a1:List Int):Option Bool :=
 gd ((u92 a0.2.2.1).isSome/\in64 (vl (u92 a0.2.2.1)-1)/\(u91 a1 0 (vl (u92 a0.2.2.1)-1)).isSome/\(vl (u91 a1 0 (vl (u92 a0.2.2.1)-1))=true/\True->(u93 a1).isSome)/\True) <|
 some (vl (u91 a1 0 (vl (u92 a0.2.2.1)-1))&&vl (u93 a1))
def k59:Ct:=lct 59 [.dat y158.pt,.dat i64.sl] (fun x=>u59 x.1 x.2.1) (fun r:Bool=>B r) (fun _=>())
theorem o59:Ok prog k59:=by
 refine okM [.tmp 4] func59 ?_;intro y ⟨_,_,_⟩ r H Q hn hr;have:=hz (tc o93 (tc o91 (tc o92 tn)));refine iA [0,1]<|iB [4] H fun H=>vTT<|hr H
def u121(a0:Y44)(a1:List Y92)(a2:Y156):Option Int :=
 if(decide (a2.1<0)) then
  some 0
 else
  gd (ix a2.1 a0.1.length/\ix (a0.1.getD a2.1.toNat (dflt y94)).2.1 a1.length/\ix a2.2.1 (a1.getD (a0.1.getD a2.1.toNat (dflt y94)).2.1.toNat (dflt y92)).2.2.1.length/\True)<|lt ((a1.getD (a0.1.getD a2.1.toNat (dflt y94)).2.1.toNat (dflt y92)).2.2.1.getD a2.2.1.toNat (dflt y194)) fun v0 =>
  some v0.2.2.1
def k121:Ct:=lct 121 [.agg y44,.agg y92.sl,.agg y156] (fun x=>u121 x.1 x.2.1 x.2.2.1) (fun r:Int=>I r) (fun _=>())
theorem o121:Ok prog k121:=by
 refine okM [.tmp 6] func121 ?_;intro y ⟨a0,a1,a2,_⟩ r H Q hn hr;refine iA [3,4,5]<|vQ<|iA [3,4,5,9]<|cD H (fun H=>iA [6]<|vTT<|fR<|hr H) fun H=>vK<|fQ<|qD (fun v0=>Z [p 6 (J v0.2.2.1)] [(5,K 156 y156 a2),(4,bx 40 [L y92 a1]),(3,K 44 y44 a0)]) H fun v0 H=>vTT<|hr H
def u85J4:List Y156->Option (List Y156)
 | v24 =>
 some v24
def u85L5(a0:Y44)(g5:Int×List Y156->Option (List Y156)):Int×List Y156->Option (List Y156)
 | (v21,v22) =>
 if(decide (v21 < (a0.2.2.length:Int))) then
  gd (ix v21 a0.2.2.length/\True)<|lt (a0.2.2.getD v21.toNat (dflt y149)) fun v23 =>
  gd ((v22.length+[(-1,v21,v23.2.2,v23.2.1==1)].length<=9223372036854775807/\(v22.length+[(-1,v21,v23.2.2,v23.2.1==1)].length)*32<=140737488355328)/\True) <|
  gd (in64 (v21+1)/\True) <|
  g5 ((v21+1,v22++[(-1,v21,v23.2.2,v23.2.1==1)]))
 else
  u85J4 v22
def u85J0(a0:Y44):List Y156->Option (List Y156)
 | v17 =>
 lp (u85L5 a0) (0,v17)
def u85J2(v8:Int)(g1:List Y156×Int->Option (List Y156)):List Y156->Option (List Y156)
 | v16 =>
 gd (in64 (v8+1)/\True) <|
 g1 (v16,v8+1)
def u85L3(v8:Int)(v9:Y94)(g1:List Y156×Int->Option (List Y156))(g3:Int×List Y156->Option (List Y156)):Int×List Y156->Option (List Y156)
 | (v12,v13) =>
 if(decide (v12 < (v9.2.2.length:Int))) then
  gd (ix v12 v9.2.2.length/\True) <|
  gd (in64 ((v9.2.2.length:Int)-1)/\(v13.length+[(v8,v12,v9.2.2.getD v12.toNat 0,v12==(v9.2.2.length:Int)-1)].length<=9223372036854775807/\(v13.length+[(v8,v12,v9.2.2.getD v12.toNat 0,v12==(v9.2.2.length:Int)-1)].length)*32<=140737488355328)/\True)<|lt ((v13++[(v8,v12,v9.2.2.getD v12.toNat 0,v12==(v9.2.2.length:Int)-1)],[(v8,v12,v9.2.2.getD v12.toNat 0,v12==(v9.2.2.length:Int)-1)])) fun(v14,_) =>
  gd (in64 (v12+1)/\True) <|
  g3 (v12+1,v14)
 else
  u85J2 v8 g1 v13
def u85L1(a0:Y44)(g1:List Y156×Int->Option (List Y156)):List Y156×Int->Option (List Y156)
 | (v7,v8) =>
 if(decide (v8 < (a0.1.length:Int))) then
  gd (ix v8 a0.1.length/\True)<|lt (a0.1.getD v8.toNat (dflt y94)) fun v9 =>
  lp (u85L3 v8 v9 g1) (0,v7)
 else
  u85J0 a0 v7
def u85(a0:Y44):Option (List Y156) :=
 lp (u85L1 a0) ([],0)
def k85:Ct:=lct 85 [.agg y44] (fun x=>u85 x.1) (fun r:List Y156=>AV.ow 156 true y156 r) (fun _=>())
theorem o85:Ok prog k85:=by
 refine okM [.tmp 2] func85 ?_;intro y ⟨a0,_⟩ r H Q hn hr;refine iA [1]<|iA [1,3]<|jN r (fun(v17:List Y156)=>Z [p 1 (R 1),p 3 (O 38)] [(1,K 44 y44 a0),(38,A 156 y156 v17 0)]) (u85J0 a0) (fun v17 H=>?_) (fun _ n0 e0 t0=>?_)
 ·refine jN r (fun(v24:List Y156)=>Z [p 3 (O 38)] [(38,A 156 y156 v24 0)]) (u85J4) (fun v24 H=>?_) (fun _ n4 e4 t4=>?_)
  ·refine iA [2]<|vTT<|hr H
  refine iA [3,42,43,44]<|vB<|lX (fun((v21,v22):Int×List Y156)=>Z [p 3 (O 38),p 42 (L y149 a0.2.2),p 43 (I (a0.2.2.length:Int)),p 44 (I v21)] [(38,A 156 y156 v22 0)]) (0,v17) H fun _ g5 b5 e5 t5 ⟨v21,v22⟩ H=>iA [3,42,43,44,45]<|vQ<|cD H (fun H=>vK<|fQ<|vQ<|vB<|qD (fun v23=>Z [p 3 (O 38),p 8 (I v21),p 9 (R 9),p 42 (L y149 a0.2.2),p 43 (I (a0.2.2.length:Int)),p 44 (I v21)] [(9,K 149 y149 v23),(38,A 156 y156 v22 0)]) H fun v23 H=>jB [3,42,43,44] H fun H=>fK<|fQ<|jB [3,42,43,44] H fun H=>b5 H) fun H=>vE<|fE<|e5<|fX rfl<|n4 H
 refine iA [1,3,11,12,13]<|vB<|lX (fun((v7,v8):List Y156×Int)=>Z [p 1 (R 1),p 3 (O 38),p 11 (L y94 a0.1),p 12 (I (a0.1.length:Int)),p 13 (I v8)] [(1,K 44 y44 a0),(38,A 156 y156 v7 0)]) ([],0) H fun _ g1 b1 e1 t1 ⟨v7,v8⟩ H=>iA [1,3,11,12,13,14]<|vQ<|cD H (fun H=>?_) (fun H=>?_)
 ·refine vK<|fQ<|jN r (fun(v16:List Y156)=>Z [p 1 (R 1),p 3 (O 38),p 11 (L y94 a0.1),p 12 (I (a0.1.length:Int)),p 13 (I v8)] [(1,K 44 y44 a0),(38,A 156 y156 v16 0)]) (u85J2 v8 g1) (fun v16 H=>?_) (fun _ n2 e2 t2=>?_)
  ·refine jB [1,3,11,12,13] H fun H=>b1 H
  refine vB<|qD (fun v9=>Z [p 1 (R 1),p 3 (O 38),p 4 (I v8),p 5 (R 5),p 11 (L y94 a0.1),p 12 (I (a0.1.length:Int)),p 13 (I v8)] [(5,K 94 y94 v9),(1,K 44 y44 a0),(38,A 156 y156 v7 0)]) H fun v9 H=>iA [1,3,4,5,11,12,13,19,20,21]<|vB<|lX (fun((v12,v13):Int×List Y156)=>Z [p 1 (R 1),p 3 (O 38),p 4 (I v8),p 5 (R 5),p 11 (L y94 a0.1),p 12 (I (a0.1.length:Int)),p 13 (I v8),p 19 (L i64 v9.2.2),p 20 (I (v9.2.2.length:Int)),p 21 (I v12)] [(5,K 94 y94 v9),(1,K 44 y44 a0),(38,A 156 y156 v13 0)]) (0,v7) H fun _ g3 b3 e3 t3 ⟨v12,v13⟩ H=>iA [1,3,4,5,11,12,13,19,20,21,22]<|vQ<|cD H (fun H=>?_) (fun H=>?_)
  ·refine vK<|fQ<|vQ<|vB<|iB [1,3,4,5,6,7,11,12,13,19,20,21] H fun H=>zD (fun(v14,v15)=>Z [p 1 (R 1),p 3 (AV.os 38 1),p 4 (I v8),p 5 (R 5),p 11 (L y94 a0.1),p 12 (I (a0.1.length:Int)),p 13 (I v8),p 19 (L i64 v9.2.2),p 20 (I (v9.2.2.length:Int)),p 21 (I v12)] [(38,A 156 y156 v14 1),(37,A 156 y156 v15 0),(5,K 94 y94 v9),(1,K 44 y44 a0)]) H fun⟨v14,v15⟩ H =>
    fK<|fQ <|
    jB [1,3,4,5,11,12,13,19,20,21] H fun H =>
    b3 H
  exact vE<|fE<|e3<|fX rfl<|fK<|n2 H
 exact vE<|fE<|e1<|fX rfl<|n0 H
def u120J0:List Int->Option (List Int)
 | v7 =>
 some v7
def u120J2(v4:Int)(g1:List Int×Int->Option (List Int)):List Int->Option (List Int)
 | v6 =>
 gd (in64 (v4+1)/\True) <|
 g1 (v6,v4+1)
def u120L1(a1:Int)(v0:List Y156)(g1:List Int×Int->Option (List Int)):List Int×Int->Option (List Int)
 | (v3,v4) =>
 if(decide (v4 < (v0.length:Int))) then
  gd (ix v4 v0.length/\v4.toNat<v0.length/\True)<|lt (v0.getD v4.toNat (dflt y156)) fun v5 =>
  if(v5.2.2.1==a1&&!v5.2.2.2) then
   gd ((v3.length+[v4].length<=9223372036854775807/\(v3.length+[v4].length)*8<=140737488355328)/\True) <|
   u120J2 v4 g1 (v3++[v4])
  else
   u120J2 v4 g1 v3
 else
  u120J0 v3
def u120(a0:Y44)(a1:Int):Option (List Int) :=
 gd ((u85 a0).isSome/\True)<|lt (vl (u85 a0)) fun v0 =>
 lp (u120L1 a1 v0) ([],0)
def k120:Ct:=lct 120 [.agg y44,.dat i64] (fun x=>u120 x.1 x.2.1) (fun r:List Int=>AV.ow 2 true i64 r) (fun _=>())
theorem o120:Ok prog k120:=by
 refine okM [.tmp 4] func120 ?_;intro y ⟨_,a1,_⟩ r H Q hn hr;have:=hz (tc o85 tn);refine iA [1,2]<|iA [1,2,5]<|jN r (fun(v7:List Int)=>Z [p 5 (O 28)] [(28,A 2 i64 v7 0)]) (u120J0) (fun v7 H=>?_) (fun _ n0 e0 t0=>?_)
 ·refine iA [4]<|vTT<|hr H
 refine iD o85 [1,5,9,10,11] H fun v0 H=>vB<|lX (fun((v3,v4):List Int×Int)=>Z [p 1 (J a1),p 5 (O 28),p 9 (O 9),p 10 (I (v0.length:Int)),p 11 (I v4)] [(9,A 156 y156 v0 0),(28,A 2 i64 v3 0)]) ([],0) H fun _ g1 b1 e1 t1 ⟨v3,v4⟩ H=>iA [1,5,9,10,11,12]<|vQ<|cD H (fun H=>?_) (fun H=>?_)
 ·refine vK<|fQ<|jN r (fun(v6:List Int)=>Z [p 1 (J a1),p 5 (O 28),p 9 (O 9),p 10 (I (v0.length:Int)),p 11 (I v4)] [(28,A 2 i64 v6 0),(9,A 156 y156 v0 0)]) (u120J2 v4 g1) (fun v6 H=>?_) (fun _ n2 e2 t2=>?_)
  ·refine jB [1,5,9,10,11] H fun H=>b1 H
  refine vB<|qD (fun v5=>Z [p 1 (J a1),p 5 (O 28),p 6 (I v4),p 7 (R 7),p 9 (O 9),p 10 (I (v0.length:Int)),p 11 (I v4)] [(7,bx 156 (cellsD true y156 v5)),(9,A 156 y156 v0 0),(28,A 2 i64 v3 0)]) H fun v5 H=>iA [1,5,6,9,10,11,24]<|cD H (fun H=>jB [1,5,9,10,11] H fun H=>fK<|n2 H) fun H=>vK<|fK<|n2 H
 exact vE<|fE<|e1<|fX rfl<|n0 H
def u89J2:List Int->Option (List Int)
 | v15 =>
 some v15
def u89L3(v0:Y111)(g3:Int×List Int->Option (List Int)):Int×List Int->Option (List Int)
 | (v12,v13) =>
 if(decide (0<v12)) then
  gd (ix v12 v0.1.length/\ix (v0.1.getD v12.toNat 0) v13.length/\Int.toNat (v0.1.getD v12.toNat 0)<v13.length/\ix v12 v13.length/\v12.toNat<v13.length/\in64 (v13.getD (Int.toNat (v0.1.getD v12.toNat 0)) 0+v13.getD v12.toNat 0)/\ix (v0.1.getD v12.toNat 0) v13.length/\Int.toNat (v0.1.getD v12.toNat 0)<v13.length/\True)<|lt (v13.set (Int.toNat (v0.1.getD v12.toNat 0)) (v13.getD (Int.toNat (v0.1.getD v12.toNat 0)) 0+v13.getD v12.toNat 0)) fun v14 =>
  gd (in64 (v12-1)/\True) <|
  g3 (v12-1,v14)
 else
  u89J2 v13
def u89J0(v0:Y111):List Int->Option (List Int)
 | v10 =>
 gd (in64 ((v10.length:Int)-1)/\True) <|
 lp (u89L3 v0) (((v10.length:Int)-1,v10))
def u89L1(a0:Y47)(v2:List Y156)(v3:List Int)(v0:Y111)(g1:Int×List Int->Option (List Int)):Int×List Int->Option (List Int)
 | (v6,v7) =>
 if(decide (v6 < (v3.length:Int))) then
  gd (ix v6 v3.length/\v6.toNat<v3.length/\True) <|
  gd (ix v6 v0.2.2.2.length/\ix (v0.2.2.2.getD v6.toNat 0) v7.length/\Int.toNat (v0.2.2.2.getD v6.toNat 0)<v7.length/\ix (v3.getD v6.toNat 0) v2.length/\Int.toNat (v3.getD v6.toNat 0)<v2.length/\(u121 a0.2.1 a0.1 (v2.getD (Int.toNat (v3.getD v6.toNat 0)) (dflt y156))).isSome/\in64 (v7.getD (Int.toNat (v0.2.2.2.getD v6.toNat 0)) 0+vl (u121 a0.2.1 a0.1 (v2.getD (Int.toNat (v3.getD v6.toNat 0)) (dflt y156))))/\ix (v0.2.2.2.getD v6.toNat 0) v7.length/\Int.toNat (v0.2.2.2.getD v6.toNat 0)<v7.length/\True)<|lt ((vl (u121 a0.2.1 a0.1 (v2.getD (Int.toNat (v3.getD v6.toNat 0)) (dflt y156))),v7.set (Int.toNat (v0.2.2.2.getD v6.toNat 0)) (v7.getD (Int.toNat (v0.2.2.2.getD v6.toNat 0)) 0+vl (u121 a0.2.1 a0.1 (v2.getD (Int.toNat (v3.getD v6.toNat 0)) (dflt y156)))))) fun(_,v9) =>
  gd (in64 (v6+1)/\True) <|
  g1 (v6+1,v9)
 else
  u89J0 v0 v7
def u89(a0:Y47)(a1:Int):Option (List Int) :=
 gd (ix a1 a0.2.2.length/\True)<|lt (a0.2.2.getD a1.toNat (dflt y111)) fun v0 =>
 gd ((u95 v0.2.2.1).isSome/\True)<|lt (vl (u95 v0.2.2.1)) fun v1 =>
 gd ((u85 a0.2.1).isSome/\True)<|lt (vl (u85 a0.2.1)) fun v2 =>
 gd ((u120 a0.2.1 a1).isSome/\True)<|lt (vl (u120 a0.2.1 a1)) fun v3 =>
 lp (u89L1 a0 v2 v3 v0) (0,v1)
def k89:Ct:=lct 89 [.agg y47,.dat i64] (fun x=>u89 x.1 x.2.1) (fun r:List Int=>AV.ow 2 true i64 r) (fun _=>())
theorem o89:Ok prog k89:=by
 refine okM [.tmp 4] func89 ?_;intro y ⟨a0,a1,_⟩ r H Q hn hr;have:=hz (tc o121 (tc o120 (tc o85 (tc o95 tn))));refine iA [1,2]<|qD (fun v0=>Z [p 1 (J a1),p 2 (R 2),p 5 (R 5)] [(5,K 111 y111 v0),(2,K 47 y47 a0)]) H fun v0 H=>iD o95 [1,2,5,6] H fun v1 H=>iD o85 [1,2,5,6,7] H fun v2 H=>jN r (fun(v10:List Int)=>Z [p 5 (R 5),p 6 (O 18)] [(18,A 2 i64 v10 0),(5,K 111 y111 v0)]) (u89J0 v0) (fun v10 H=>?_) (fun _ n0 e0 t0=>?_)
 ·refine jN r (fun(v15:List Int)=>Z [p 6 (O 18)] [(18,A 2 i64 v15 0)]) (u89J2) (fun v15 H=>?_) (fun _ n2 e2 t2=>?_)
  ·refine iA [4]<|vTT<|hr H
  refine iB [5,6,10] H fun H=>vB<|lX (fun((v12,v13):Int×List Int)=>Z [p 5 (R 5),p 6 (O 18),p 10 (I v12)] [(18,A 2 i64 v13 0),(5,K 111 y111 v0)]) (((v10.length:Int)-1,v10)) H fun _ g3 b3 e3 t3 ⟨v12,v13⟩ H=>vQ<|iA [5,6,10,56]<|cD H (fun H=>vK<|fQ<|vQ<|vB<|zD (fun v14=>Z [p 5 (R 5),p 6 (O 18),p 10 (I v12)] [(18,A 2 i64 v14 0),(5,K 111 y111 v0)]) H fun v14 H=>fK<|fQ<|jB [5,6,10] H fun H=>b3 H) fun H=>vE<|fE<|e3<|fX rfl<|n2 H
 refine iD o120 [2,5,6,7,25,26,27] H fun v3 H=>vB<|lX (fun((v6,v7):Int×List Int)=>Z [p 2 (R 2),p 5 (R 5),p 6 (O 18),p 7 (O 21),p 25 (O 25),p 26 (I (v3.length:Int)),p 27 (I v6)] [(25,A 2 i64 v3 0),(21,A 156 y156 v2 0),(18,A 2 i64 v7 0),(5,K 111 y111 v0),(2,K 47 y47 a0)]) (0,v1) H fun _ g1 b1 e1 t1 ⟨v6,v7⟩ H=>iA [2,5,6,7,25,26,27,28]<|vQ<|cD H (fun H=>?_) (fun H=>?_)
 ·refine vK<|fQ<|vQ<|vB<|iB [2,5,6,7,8,9,25,26,27] H fun H=>zD (fun(v8,v9)=>Z [p 2 (R 2),p 5 (R 5),p 6 (O 18),p 7 (O 21),p 25 (O 25),p 26 (I (v3.length:Int)),p 27 (I v6)] [(18,A 2 i64 v9 0),(25,A 2 i64 v3 0),(21,A 156 y156 v2 0),(5,K 111 y111 v0),(2,K 47 y47 a0)]) H fun⟨v8,v9⟩ H =>
   fK<|fQ <|
   jB [2,5,6,7,25,26,27] H fun H =>
   b1 H
 exact vE<|fE<|e1<|fX rfl<|n0 H
def u122J0:List Int->Option (List Int)
 | v6 =>
 some v6
def u122L1(v1:Y111)(v0:List Int)(g1:Int×List Int->Option (List Int)):Int×List Int->Option (List Int)
 | (v3,v4) =>
 if(decide (v3 < (v4.length:Int))) then
  gd (ix v3 v1.1.length/\ix (v1.1.getD v3.toNat 0) v4.length/\Int.toNat (v1.1.getD v3.toNat 0)<v4.length/\ix v3 v1.2.1.length/\ix v3 v0.length/\v3.toNat<v0.length/\in64 (v1.2.1.getD v3.toNat 0*v0.getD v3.toNat 0)/\in64 (v4.getD (Int.toNat (v1.1.getD v3.toNat 0)) 0+v1.2.1.getD v3.toNat 0*v0.getD v3.toNat 0)/\ix v3 v4.length/\v3.toNat<v4.length/\True)<|lt (v4.set v3.toNat (v4.getD (Int.toNat (v1.1.getD v3.toNat 0)) 0+v1.2.1.getD v3.toNat 0*v0.getD v3.toNat 0)) fun v5 =>
  gd (in64 (v3+1)/\True) <|
  g1 (v3+1,v5)
 else
  u122J0 v4
def u122(a0:Y47)(a1:Int):Option (List Int) :=
 gd (ix a1 a0.2.2.length/\(u89 a0 a1).isSome/\True)<|lt ((vl (u89 a0 a1),a0.2.2.getD a1.toNat (dflt y111))) fun(v0,v1) =>
 gd ((0<=(v0.length:Int)/\(v0.length:Int)=(v0.length:Int)/\(v0.length:Int).toNat*8<=281474976710656/\(v0.length:Int)<=9223372036854775807)/\True) <|
 lp (u122L1 v1 v0) ((1,List.replicate (v0.length:Int).toNat 0))
def k122:Ct:=lct 122 [.agg y47,.dat i64] (fun x=>u122 x.1 x.2.1) (fun r:List Int=>AV.ow 2 true i64 r) (fun _=>())
theorem o122:Ok prog k122:=by
 refine okM [.tmp 4] func122 ?_;intro y ⟨a0,_,_⟩ r H Q hn hr;have:=hz (tc o89 tn);refine iA [1,2]<|qD (fun(v0,v1)=>Z [p 5 (R 5),p 6 (O 16)] [(5,K 111 y111 v1),(16,A 2 i64 v0 0),(2,K 47 y47 a0)]) H fun w H=>?_
 obtain⟨v0,v1⟩:=w;refine iB [5,6,7] H fun H=>jN r (fun(v6:List Int)=>Z [p 7 (O 19)] [(19,A 2 i64 v6 0)]) (u122J0) (fun v6 H=>?_) (fun _ n0 e0 t0=>?_)
 ·refine iA [4]<|vTT<|hr H
 refine iA [5,6,7,8]<|vB<|lX (fun((v3,v4):Int×List Int)=>Z [p 5 (R 5),p 6 (O 16),p 7 (O 19),p 8 (I v3)] [(19,A 2 i64 v4 0),(5,K 111 y111 v1),(16,A 2 i64 v0 0)]) ((1,List.replicate (v0.length:Int).toNat 0)) H fun _ g1 b1 e1 t1 ⟨v3,v4⟩ H=>vQ<|iA [5,6,7,8,23]<|cD H (fun H=>vK<|fQ<|vQ<|vB<|zD (fun v5=>Z [p 5 (R 5),p 6 (O 16),p 7 (O 19),p 8 (I v3)] [(19,A 2 i64 v5 0),(5,K 111 y111 v1),(16,A 2 i64 v0 0)]) H fun v5 H=>fK<|fQ<|jB [5,6,7,8] H fun H=>b1 H) fun H=>vE<|fE<|e1<|fX rfl<|n0 H
def u90J0:List Int->Option (List Int)
 | v6 =>
 some v6
def u90L1(v0:List Int)(v1:Y111)(g1:List Int×Int->Option (List Int)):List Int×Int->Option (List Int)
 | (v3,v4) =>
 if(decide (v4 < (v1.2.2.2.length:Int))) then
  gd (ix v4 v1.2.2.2.length/\True) <|
  gd (ix (v1.2.2.2.getD v4.toNat 0) v0.length/\Int.toNat (v1.2.2.2.getD v4.toNat 0)<v0.length/\(v3.length+[v0.getD (Int.toNat (v1.2.2.2.getD v4.toNat 0)) 0].length<=9223372036854775807/\(v3.length+[v0.getD (Int.toNat (v1.2.2.2.getD v4.toNat 0)) 0].length)*8<=140737488355328)/\True)<|lt (v3++[v0.getD (Int.toNat (v1.2.2.2.getD v4.toNat 0)) 0]) fun v5 =>
  gd (in64 (v4+1)/\True) <|
  g1 (v5,v4+1)
 else
  u90J0 v3
def u90(a0:Y47)(a1:Int):Option (List Int) :=
 gd ((u122 a0 a1).isSome/\True)<|lt (vl (u122 a0 a1)) fun v0 =>
 gd (ix a1 a0.2.2.length/\True)<|lt (a0.2.2.getD a1.toNat (dflt y111)) fun v1 =>
 lp (u90L1 v0 v1) ([],0)
def k90:Ct:=lct 90 [.agg y47,.dat i64] (fun x=>u90 x.1 x.2.1) (fun r:List Int=>AV.ow 2 true i64 r) (fun _=>())
theorem o90:Ok prog k90:=by
 refine okM [.tmp 4] func90 ?_;intro y ⟨a0,_,_⟩ r H Q hn hr;have:=hz (tc o122 tn);refine iA [1,2]<|iD o122 [1,2,5] H fun v0 H=>iA [1,2,5,6]<|jN r (fun(v6:List Int)=>Z [p 6 (O 29)] [(29,A 2 i64 v6 0)]) (u90J0) (fun v6 H=>?_) (fun _ n0 e0 t0=>?_)
 ·refine iA [4]<|vTT<|hr H
 refine qD (fun v1=>Z [p 5 (O 11),p 6 (nil),p 17 (L i64 v1.2.2.2),p 18 (I (v1.2.2.2.length:Int)),p 19 (I 0)] [(11,A 2 i64 v0 0),(2,K 47 y47 a0)]) H fun v1 H=>vB<|lX (fun((v3,v4):List Int×Int)=>Z [p 5 (O 11),p 6 (O 29),p 17 (L i64 v1.2.2.2),p 18 (I (v1.2.2.2.length:Int)),p 19 (I v4)] [(11,A 2 i64 v0 0),(29,A 2 i64 v3 0)]) ([],0) H fun _ g1 b1 e1 t1 ⟨v3,v4⟩ H=>iA [5,6,17,18,19,20]<|vQ<|cD H (fun H=>vK<|fQ<|vQ<|vB<|iB [5,6,8,17,18,19] H fun H=>zD (fun v5=>Z [p 5 (O 11),p 6 (AV.os 29 1),p 17 (L i64 v1.2.2.2),p 18 (I (v1.2.2.2.length:Int)),p 19 (I v4)] [(29,A 2 i64 v5 1),(28,A 2 i64 [v0.getD (Int.toNat (v1.2.2.2.getD v4.toNat 0)) 0] 0),(11,A 2 i64 v0 0)]) H fun v5 H=>fK<|fQ<|jB [5,6,17,18,19] H fun H=>b1 H) fun H=>vE<|fE<|e1<|fX rfl<|n0 H
def k90d:Ct:=lct 90 [.agg y47,.dat i64] (fun x=>u90 x.1 x.2.1) (fun r=>frz ((fun r:List Int=>AV.ow 2 true i64 r) r)) (fun _=>())
theorem o90d:Ok prog k90d:=ok_frz o90
def u88(a0:List Int):Option Int :=
 some (a0.length:Int)
def k88:Ct:=lct 88 [.dat i64.sl] (fun x=>u88 x.1) (fun r:Int=>I r) (fun _=>())
theorem o88:Ok prog k88:=by
 refine okM [.tmp 2] func88 ?_;intro y ⟨_,_⟩ r H Q hn hr;refine iA [0]<|iA [2]<|vTT<|hr H
def u119(a0:Y97):Option (List (Int×Int)) :=
 if(a0.1==2) then
  some ([((0:Int),(0:Int)),((0:Int),(1:Int))])
 else
  if(a0.1==3) then
   some ([((1:Int),(0:Int)),((1:Int),(1:Int))])
  else
   if(a0.1 != 1) then
    some []
   else
    if(a0.2.2.2.1==1) then
     some ([((0:Int),(0:Int)),((1:Int),(1:Int))])
    else
     if(a0.2.2.2.1==2) then
      some ([((0:Int),(1:Int)),((1:Int),(0:Int))])
     else
      lt ([((0:Int),(0:Int)),((0:Int),(1:Int)),((1:Int),(0:Int)),((1:Int),(1:Int))]) fun v0 =>
      some v0
def k119:Ct:=lct 119 [.agg y97] (fun x=>u119 x.1) (fun r:List (Int×Int)=>AV.ow 187 true (i64.pr i64) r) (fun _=>())
theorem o119:Ok prog k119:=by
 refine okM [.tmp 2] func119 ?_;intro y ⟨a0,_⟩ r H Q hn hr;refine iA [1]<|iA [1,3]<|iA [1,3,4]<|vQ<|vB<|iA [1,3,4,11]<|cD H (fun H=>iA [2]<|vTT<|fDD<|fR<|hr H) fun H=>iA [1,3,4,18]<|cD H (fun H=>iA [2]<|vTT<|fDD<|fR<|hr H) fun H=>iA [1,3,4,25]<|cD H (fun H=>iA [2]<|vTT<|fDD<|fR<|hr H) fun H=>iA [1,3,4,29]<|cD H (fun H=>iA [2]<|vTT<|fDD<|fR<|hr H) fun H=>iA [4,34]<|cD H (fun H=>iA [2]<|vTT<|fDD<|fR<|hr H) fun H=>vK<|fK<|fQ<|qC (fun v0=>Z [p 2 (O 43)] [(43,A 187 (i64.pr i64) v0 0),(10,A 187 (i64.pr i64) [((0:Int),(1:Int)),((1:Int),(0:Int))] 0),(7,A 187 (i64.pr i64) [((0:Int),(0:Int)),((1:Int),(1:Int))] 0),(1,K 97 y97 a0)]) H fun v0 H=>vTT<|hr H
def u87J0:List Y148->Option (List Y148)
 | v24 =>
 some v24
def u87J2(v12:Int)(g1:List Y148×Int->Option (List Y148)):List Y148->Option (List Y148)
 | v23 =>
 gd (in64 (v12+1)/\True) <|
 g1 (v23,v12+1)
def u87L3(a2:Int)(v13:Y97)(v12:Int)(v14:List (Int×Int))(g1:List Y148×Int->Option (List Y148))(g3:Int×List Y148->Option (List Y148)):Int×List Y148->Option (List Y148)
 | (v18,v19) =>
 if(decide (v18 < (v14.length:Int))) then
  gd (ix v18 v14.length/\v18.toNat<v14.length/\True)<|lt (v14.getD v18.toNat (dflt (i64.pr i64))) fun v20 =>
  gd (in64 (a2+v13.2.1)/\in64 ((2:Int)*(a2+v13.2.1))/\ix (0:Int) 2/\in64 ((2:Int)*(a2+v13.2.1)+v20.1)/\in64 (a2+v13.2.2.1)/\in64 ((2:Int)*(a2+v13.2.2.1))/\ix (1:Int) 2/\in64 ((2:Int)*(a2+v13.2.2.1)+v20.2)/\(v19.length+[((2:Int)*(a2+v13.2.1)+v20.1,(2:Int)*(a2+v13.2.2.1)+v20.2,(1:Int),v12)].length<=9223372036854775807/\(v19.length+[((2:Int)*(a2+v13.2.1)+v20.1,(2:Int)*(a2+v13.2.2.1)+v20.2,(1:Int),v12)].length)*32<=140737488355328)/\True)<|lt ((v19++[((2:Int)*(a2+v13.2.1)+v20.1,(2:Int)*(a2+v13.2.2.1)+v20.2,(1:Int),v12)],[((2:Int)*(a2+v13.2.1)+v20.1,(2:Int)*(a2+v13.2.2.1)+v20.2,(1:Int),v12)])) fun(v21,_) =>
  gd (in64 (v18+1)/\True) <|
  g3 (v18+1,v21)
 else
  u87J2 v12 g1 v19
def u87L1(a2:Int)(v0:Y92)(g1:List Y148×Int->Option (List Y148)):List Y148×Int->Option (List Y148)
 | (v11,v12) =>
 if(decide (v12 < (v0.2.2.2.1.length:Int))) then
  gd (ix v12 v0.2.2.2.1.length/\True)<|lt (v0.2.2.2.1.getD v12.toNat (dflt y97)) fun v13 =>
  gd ((u119 v13).isSome/\True)<|lt (vl (u119 v13)) fun v14 =>
  lp (u87L3 a2 v13 v12 v14 g1) (0,v11)
 else
  u87J0 v11
def u87(a0:Y47)(a1:Y94)(a2:Int):Option (List Y148) :=
 gd (ix a1.2.1 a0.1.length/\True)<|lt (a0.1.getD a1.2.1.toNat (dflt y92)) fun v0 =>
 lp (u87L1 a2 v0) ([],0)
def k87:Ct:=lct 87 [.agg y47,.agg y94,.dat i64] (fun x=>u87 x.1 x.2.1 x.2.2.1) (fun r:List Y148=>AV.ow 148 true y148 r) (fun _=>())
theorem o87:Ok prog k87:=by
 refine okM [.tmp 6] func87 ?_;intro y ⟨a0,a1,a2,_⟩ r H Q hn hr;have:=hz (tc o119 tn);refine iA [2,3,4]<|iA [2,3,4,7]<|jN r (fun(v24:List Y148)=>Z [p 7 (O 53)] [(53,A 148 y148 v24 0)]) (u87J0) (fun v24 H=>?_) (fun _ n0 e0 t0=>?_)
 ·refine iA [6]<|vTT<|hr H
 refine qD (fun v0=>Z [p 2 (J a2),p 7 (nil),p 19 (L y97 v0.2.2.2.1),p 20 (I (v0.2.2.2.1.length:Int)),p 21 (I 0)] [(4,K 94 y94 a1),(3,K 47 y47 a0)]) H fun v0 H=>vB<|lX (fun((v11,v12):List Y148×Int)=>Z [p 2 (J a2),p 7 (O 53),p 19 (L y97 v0.2.2.2.1),p 20 (I (v0.2.2.2.1.length:Int)),p 21 (I v12)] [(53,A 148 y148 v11 0)]) ([],0) H fun _ g1 b1 e1 t1 ⟨v11,v12⟩ H=>iA [2,7,19,20,21,22]<|vQ<|cD H (fun H=>?_) (fun H=>?_)
 ·refine vK<|fQ<|jN r (fun(v23:List Y148)=>Z [p 2 (J a2),p 7 (O 53),p 19 (L y97 v0.2.2.2.1),p 20 (I (v0.2.2.2.1.length:Int)),p 21 (I v12)] [(53,A 148 y148 v23 0)]) (u87J2 v12 g1) (fun v23 H=>?_) (fun _ n2 e2 t2=>?_)
  ·refine jB [2,7,19,20,21] H fun H=>b1 H
  refine vB<|qD (fun v13=>Z [p 2 (J a2),p 7 (O 53),p 8 (I v12),p 9 (R 9),p 19 (L y97 v0.2.2.2.1),p 20 (I (v0.2.2.2.1.length:Int)),p 21 (I v12)] [(9,K 97 y97 v13),(53,A 148 y148 v11 0)]) H fun v13 H=>iD o119 [2,7,8,9,19,20,21,27,28,29] H fun v14 H=>vB<|lX (fun((v18,v19):Int×List Y148)=>Z [p 2 (J a2),p 7 (O 53),p 8 (I v12),p 9 (R 9),p 19 (L y97 v0.2.2.2.1),p 20 (I (v0.2.2.2.1.length:Int)),p 21 (I v12),p 27 (O 27),p 28 (I (v14.length:Int)),p 29 (I v18)] [(27,A 187 (i64.pr i64) v14 0),(9,K 97 y97 v13),(53,A 148 y148 v19 0)]) (0,v11) H fun _ g3 b3 e3 t3 ⟨v18,v19⟩ H=>iA [2,7,8,9,19,20,21,27,28,29,30]<|vQ<|cD H (fun H=>?_) (fun H=>?_)
  ·refine vK<|fQ<|vQ<|vB<|qD (fun v20=>Z [p 2 (J a2),p 7 (O 53),p 8 (I v12),p 9 (R 9),p 11 (R 11),p 19 (L y97 v0.2.2.2.1),p 20 (I (v0.2.2.2.1.length:Int)),p 21 (I v12),p 27 (O 27),p 28 (I (v14.length:Int)),p 29 (I v18)] [(11,bx 187 (cellsD true (i64.pr i64) v20)),(27,A 187 (i64.pr i64) v14 0),(9,K 97 y97 v13),(53,A 148 y148 v19 0)]) H fun v20 H=>zD (fun(v21,v22)=>Z [p 2 (J a2),p 7 (AV.os 53 1),p 8 (I v12),p 9 (R 9),p 19 (L y97 v0.2.2.2.1),p 20 (I (v0.2.2.2.1.length:Int)),p 21 (I v12),p 27 (O 27),p 28 (I (v14.length:Int)),p 29 (I v18)] [(53,A 148 y148 v21 1),(52,A 148 y148 v22 0),(11,bx 187 (cellsD true (i64.pr i64) v20)),(27,A 187 (i64.pr i64) v14 0),(9,K 97 y97 v13)]) H fun⟨v21,v22⟩ H =>
    fK<|fQ <|
    jB [2,7,8,9,19,20,21,27,28,29] H fun H =>
    b3 H
  exact vE<|fE<|e3<|fX rfl<|fK<|n2 H
 exact vE<|fE<|e1<|fX rfl<|n0 H
end Go.Proofs.YtlfeppknkfknhaaGreatDoor
end
