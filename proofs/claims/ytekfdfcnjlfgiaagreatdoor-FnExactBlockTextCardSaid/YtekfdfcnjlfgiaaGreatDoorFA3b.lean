/- Functions of this program as plain functions of data, and that they are so: printed by program. -/
import Derived.Test.YtekfdfcnjlfgiaaGreatDoorFA3a
section
namespace Go.Proofs.YtekfdfcnjlfgiaaGreatDoor
open Go Go.Proofs Go.Proofs.Sv Go.Proofs.Xv Go.Proofs.Xl Go.RowKit
open Tryz
def u73(a0:Y132)(a1:Int):Option Int :=
 gd (in64 (a1-(a0.1.size:Int))/\True) <|
 if(decide (a1-(a0.1.size:Int)<0)) then
  some (-1)
 else
  some (a1-(a0.1.size:Int))
def k73:Ct:=lct 73 [.agg y132,.dat i64] (fun x=>u73 x.1 x.2.1) (fun r:Int=>I r) (fun _=>())
theorem o73:Ok prog k73:=by
 refine okM [.tmp 4] func73 ?_;intro y ⟨_,_,_⟩ r H Q hn hr;refine iA [1,2]<|iB [1] H fun H=>vQ<|iA [1,11]<|cD H (fun H=>iA [4]<|vTT<|fR<|hr H) fun H=>vK<|fQ<|iA [4]<|vTT<|hr H
def u42J0:Int->Option Int
 | v4 =>
 some v4
def u42L1(a0:List Y132)(g1:Int×Int->Option Int):Int×Int->Option Int
 | (v1,v2) =>
 if(decide (v2 < (a0.length:Int))) then
  gd (ix v2 a0.length/\(u73 (a0.getD v2.toNat (dflt y132)) v1).isSome/\True)<|lt (vl (u73 (a0.getD v2.toNat (dflt y132)) v1)) fun v3 =>
  if(decide (v3<0)) then
   some (-1)
  else
   gd (in64 (v2+1)/\True) <|
   g1 (v3,v2+1)
 else
  u42J0 v1
def u42(a0:List Y132)(a1:Int):Option Int :=
 gd (in64 (a1-(a0.length:Int))/\True) <|
 if(decide (a1-(a0.length:Int)<0)) then
  some (-1)
 else
  lp (u42L1 a0) ((a1-(a0.length:Int),0))
def k42:Ct:=lct 42 [.dat y132.sl,.dat i64] (fun x=>u42 x.1 x.2.1) (fun r:Int=>I r) (fun _=>())
theorem o42:Ok prog k42:=by
 refine okM [.tmp 4] func42 ?_;intro y ⟨a0,a1,_⟩ r H Q hn hr;have:=hz (tc o73 tn);refine iA [0,1]<|iB [0,1] H fun H=>vQ<|iA [0,1,11]<|cD H (fun H=>iA [4]<|vTT<|fR<|hr H) fun H=>vK<|fQ<|jN r (fun(v4:Int)=>Z [p 1 (I v4)] []) (u42J0) (fun v4 H=>?_) (fun _ n0 e0 t0=>?_)
 ·refine iA [4]<|vTT<|hr H
 refine iA [0,1,5]<|vB<|lX (fun((v1,v2):Int×Int)=>Z [p 0 (L y132 a0),p 1 (I v1),p 5 (I v2)] []) ((a1-(a0.length:Int),0)) H fun _ g1 b1 e1 t1 ⟨v1,v2⟩ H=>vQ<|iA [0,1,5,15]<|cD H (fun H=>?_) (fun H=>?_)
 ·refine vK<|fQ<|vQ<|vB<|iD o73 [0,1,5] H fun _ H=>iA [0,1,5,25]<|cD H (fun H=>iA [4]<|vTT<|fDD<|fR<|t1<|fDD<|t0<|hr H) fun H=>vK<|fK<|fQ<|jB [0,1,5] H fun H=>b1 H
 exact vE<|fE<|e1<|fX rfl<|n0 H
def u41J0:Int->Option Int
 | v4 =>
 some v4
def u41L1(a0:List ByteArray)(g1:Int×Int->Option Int):Int×Int->Option Int
 | (v1,v2) =>
 if(decide (v2 < (a0.length:Int))) then
  gd (ix v2 a0.length/\in64 (v1-(↑(ByteArray.size (a0.getD v2.toNat (dflt Ty.str))):Int))/\True)<|lt (v1-(↑(ByteArray.size (a0.getD v2.toNat (dflt Ty.str))):Int)) fun v3 =>
  if(decide (v3<0)) then
   some (-1)
  else
   gd (in64 (v2+1)/\True) <|
   g1 (v3,v2+1)
 else
  u41J0 v1
def u41(a0:List ByteArray)(a1:Int):Option Int :=
 gd (in64 (a1-(a0.length:Int))/\True) <|
 if(decide (a1-(a0.length:Int)<0)) then
  some (-1)
 else
  lp (u41L1 a0) ((a1-(a0.length:Int),0))
def k41:Ct:=lct 41 [.dat Ty.str.sl,.dat i64] (fun x=>u41 x.1 x.2.1) (fun r:Int=>I r) (fun _=>())
theorem o41:Ok prog k41:=by
 refine okM [.tmp 4] func41 ?_;intro y ⟨a0,a1,_⟩ r H Q hn hr;refine iA [0,1]<|iB [0,1] H fun H=>vQ<|iA [0,1,11]<|cD H (fun H=>iA [4]<|vTT<|fR<|hr H) fun H=>vK<|fQ<|jN r (fun(v4:Int)=>Z [p 1 (I v4)] []) (u41J0) (fun v4 H=>?_) (fun _ n0 e0 t0=>?_)
 ·refine iA [4]<|vTT<|hr H
 refine iA [0,1,5]<|vB<|lX (fun((v1,v2):Int×Int)=>Z [p 0 (L Ty.str a0),p 1 (I v1),p 5 (I v2)] []) ((a1-(a0.length:Int),0)) H fun _ g1 b1 e1 t1 ⟨v1,v2⟩ H=>vQ<|iA [0,1,5,15]<|cD H (fun H=>?_) (fun H=>?_)
 ·refine vK<|fQ<|vQ<|vB<|qD (fun v3=>Z [p 0 (L Ty.str a0),p 1 (I v3),p 5 (I v2)] []) H fun v3 H=>iA [0,1,5,26]<|cD H (fun H=>iA [4]<|vTT<|fDD<|fR<|t1<|fDD<|t0<|hr H) fun H=>vK<|fK<|fQ<|jB [0,1,5] H fun H=>b1 H
 exact vE<|fE<|e1<|fX rfl<|n0 H
def u72(a0:Y130)(a1:Int):Option Int :=
 gd (in64 (a1-(a0.1.size:Int))/\True) <|
 if(decide (a1-(a0.1.size:Int)<0)) then
  some (-1)
 else
  gd ((u60 a0.2.2 (a1-(a0.1.size:Int))).isSome/\True)<|lt (vl (u60 a0.2.2 (a1-(a0.1.size:Int)))) fun v0 =>
  if(decide (v0<0)) then
   some (-1)
  else
   some v0
def k72:Ct:=lct 72 [.agg y130,.dat i64] (fun x=>u72 x.1 x.2.1) (fun r:Int=>I r) (fun _=>())
theorem o72:Ok prog k72:=by
 refine okM [.tmp 4] func72 ?_;intro y ⟨_,_,_⟩ r H Q hn hr;have:=hz (tc o60 tn);refine iA [1,2]<|iB [1,2] H fun H=>vQ<|iA [1,2,11]<|cD H (fun H=>iA [4]<|vTT<|fR<|hr H) fun H=>vK<|fQ<|iD o60 [1] H fun _ H=>vQ<|iA [1,17]<|cD H (fun H=>iA [4]<|vTT<|fR<|hr H) fun H=>vK<|fQ<|iA [4]<|vTT<|hr H
def u40J0:Int->Option Int
 | v4 =>
 some v4
def u40L1(a0:List Y130)(g1:Int×Int->Option Int):Int×Int->Option Int
 | (v1,v2) =>
 if(decide (v2 < (a0.length:Int))) then
  gd (ix v2 a0.length/\(u72 (a0.getD v2.toNat (dflt y130)) v1).isSome/\True)<|lt (vl (u72 (a0.getD v2.toNat (dflt y130)) v1)) fun v3 =>
  if(decide (v3<0)) then
   some (-1)
  else
   gd (in64 (v2+1)/\True) <|
   g1 (v3,v2+1)
 else
  u40J0 v1
def u40(a0:List Y130)(a1:Int):Option Int :=
 gd (in64 (a1-(a0.length:Int))/\True) <|
 if(decide (a1-(a0.length:Int)<0)) then
  some (-1)
 else
  lp (u40L1 a0) ((a1-(a0.length:Int),0))
def k40:Ct:=lct 40 [.dat y130.sl,.dat i64] (fun x=>u40 x.1 x.2.1) (fun r:Int=>I r) (fun _=>())
theorem o40:Ok prog k40:=by
 refine okM [.tmp 4] func40 ?_;intro y ⟨a0,a1,_⟩ r H Q hn hr;have:=hz (tc o72 tn);refine iA [0,1]<|iB [0,1] H fun H=>vQ<|iA [0,1,11]<|cD H (fun H=>iA [4]<|vTT<|fR<|hr H) fun H=>vK<|fQ<|jN r (fun(v4:Int)=>Z [p 1 (I v4)] []) (u40J0) (fun v4 H=>?_) (fun _ n0 e0 t0=>?_)
 ·refine iA [4]<|vTT<|hr H
 refine iA [0,1,5]<|vB<|lX (fun((v1,v2):Int×Int)=>Z [p 0 (L y130 a0),p 1 (I v1),p 5 (I v2)] []) ((a1-(a0.length:Int),0)) H fun _ g1 b1 e1 t1 ⟨v1,v2⟩ H=>vQ<|iA [0,1,5,15]<|cD H (fun H=>?_) (fun H=>?_)
 ·refine vK<|fQ<|vQ<|vB<|iD o72 [0,1,5] H fun _ H=>iA [0,1,5,25]<|cD H (fun H=>iA [4]<|vTT<|fDD<|fR<|t1<|fDD<|t0<|hr H) fun H=>vK<|fK<|fQ<|jB [0,1,5] H fun H=>b1 H
 exact vE<|fE<|e1<|fX rfl<|n0 H
def u16(a0:Y29)(a1:Int):Option Int :=
 gd ((u40 a0.1 a1).isSome/\True)<|lt (vl (u40 a0.1 a1)) fun v0 =>
 if(decide (v0<0)) then
  some (-1)
 else
  gd ((u41 a0.2.1 v0).isSome/\True)<|lt (vl (u41 a0.2.1 v0)) fun v1 =>
  if(decide (v1<0)) then
   some (-1)
  else
   gd ((u42 a0.2.2 v1).isSome/\True)<|lt (vl (u42 a0.2.2 v1)) fun v2 =>
   if(decide (v2<0)) then
    some (-1)
   else
    some v2
def k16:Ct:=lct 16 [.agg y29,.dat i64] (fun x=>u16 x.1 x.2.1) (fun r:Int=>I r) (fun _=>())
theorem o16:Ok prog k16:=by
 refine okM [.tmp 4] func16 ?_;intro y ⟨_,_,_⟩ r H Q hn hr;have:=hz (tc o42 (tc o41 (tc o40 tn)));refine iA [1,2]<|iD o40 [1,2] H fun _ H=>vQ<|iA [1,2,10]<|cD H (fun H=>iA [4]<|vTT<|fR<|hr H) fun H=>vK<|fQ<|iD o41 [1,2] H fun _ H=>vQ<|iA [1,2,16]<|cD H (fun H=>iA [4]<|vTT<|fR<|hr H) fun H=>vK<|fQ<|iD o42 [1] H fun _ H=>vQ<|iA [1,22]<|cD H (fun H=>iA [4]<|vTT<|fR<|hr H) fun H=>vK<|fQ<|iA [4]<|vTT<|hr H
def u191(a0:Y242)(a1:Int):Option Int :=
 gd ((u60 a0.1 a1).isSome/\True)<|lt (vl (u60 a0.1 a1)) fun v0 =>
 if(decide (v0<0)) then
  some (-1)
 else
  gd ((u60 a0.2.1 v0).isSome/\True)<|lt (vl (u60 a0.2.1 v0)) fun v1 =>
  if(decide (v1<0)) then
   some (-1)
  else
   gd ((u60 a0.2.2 v1).isSome/\True)<|lt (vl (u60 a0.2.2 v1)) fun v2 =>
   if(decide (v2<0)) then
    some (-1)
   else
    some v2
def k191:Ct:=lct 191 [.agg y242,.dat i64] (fun x=>u191 x.1 x.2.1) (fun r:Int=>I r) (fun _=>())
theorem o191:Ok prog k191:=by
 refine okM [.tmp 4] func191 ?_;intro y ⟨_,_,_⟩ r H Q hn hr;have:=hz (tc o60 tn);refine iA [1,2]<|iD o60 [1,2] H fun _ H=>vQ<|iA [1,2,10]<|cD H (fun H=>iA [4]<|vTT<|fR<|hr H) fun H=>vK<|fQ<|iD o60 [1,2] H fun _ H=>vQ<|iA [1,2,16]<|cD H (fun H=>iA [4]<|vTT<|fR<|hr H) fun H=>vK<|fQ<|iD o60 [1] H fun _ H=>vQ<|iA [1,22]<|cD H (fun H=>iA [4]<|vTT<|fR<|hr H) fun H=>vK<|fQ<|iA [4]<|vTT<|hr H
def u165J0:Int->Option Int
 | v4 =>
 some v4
def u165L1(a0:List Y242)(g1:Int×Int->Option Int):Int×Int->Option Int
 | (v1,v2) =>
 if(decide (v2 < (a0.length:Int))) then
  gd (ix v2 a0.length/\(u191 (a0.getD v2.toNat (dflt y242)) v1).isSome/\True)<|lt (vl (u191 (a0.getD v2.toNat (dflt y242)) v1)) fun v3 =>
  if(decide (v3<0)) then
   some (-1)
  else
   gd (in64 (v2+1)/\True) <|
   g1 (v3,v2+1)
 else
  u165J0 v1
def u165(a0:List Y242)(a1:Int):Option Int :=
 gd (in64 (a1-(a0.length:Int))/\True) <|
 if(decide (a1-(a0.length:Int)<0)) then
  some (-1)
 else
  lp (u165L1 a0) ((a1-(a0.length:Int),0))
def k165:Ct:=lct 165 [.dat y242.sl,.dat i64] (fun x=>u165 x.1 x.2.1) (fun r:Int=>I r) (fun _=>())
theorem o165:Ok prog k165:=by
 refine okM [.tmp 4] func165 ?_;intro y ⟨a0,a1,_⟩ r H Q hn hr;have:=hz (tc o191 tn);refine iA [0,1]<|iB [0,1] H fun H=>vQ<|iA [0,1,11]<|cD H (fun H=>iA [4]<|vTT<|fR<|hr H) fun H=>vK<|fQ<|jN r (fun(v4:Int)=>Z [p 1 (I v4)] []) (u165J0) (fun v4 H=>?_) (fun _ n0 e0 t0=>?_)
 ·refine iA [4]<|vTT<|hr H
 refine iA [0,1,5]<|vB<|lX (fun((v1,v2):Int×Int)=>Z [p 0 (L y242 a0),p 1 (I v1),p 5 (I v2)] []) ((a1-(a0.length:Int),0)) H fun _ g1 b1 e1 t1 ⟨v1,v2⟩ H=>vQ<|iA [0,1,5,15]<|cD H (fun H=>?_) (fun H=>?_)
 ·refine vK<|fQ<|vQ<|vB<|iD o191 [0,1,5] H fun _ H=>iA [0,1,5,25]<|cD H (fun H=>iA [4]<|vTT<|fDD<|fR<|t1<|fDD<|t0<|hr H) fun H=>vK<|fK<|fQ<|jB [0,1,5] H fun H=>b1 H
 exact vE<|fE<|e1<|fX rfl<|n0 H
def u138(a0:Y186)(a1:Int):Option Int :=
 gd ((u165 a0.2.2.2.2.1 a1).isSome/\True)<|lt (vl (u165 a0.2.2.2.2.1 a1)) fun v0 =>
 if(decide (v0<0)) then
  some (-1)
 else
  gd ((u165 a0.2.2.2.2.2 v0).isSome/\True)<|lt (vl (u165 a0.2.2.2.2.2 v0)) fun v1 =>
  if(decide (v1<0)) then
   some (-1)
  else
   some v1
def k138:Ct:=lct 138 [.agg y186,.dat i64] (fun x=>u138 x.1 x.2.1) (fun r:Int=>I r) (fun _=>())
theorem o138:Ok prog k138:=by
 refine okM [.tmp 4] func138 ?_;intro y ⟨_,_,_⟩ r H Q hn hr;have:=hz (tc o165 tn);refine iA [1,2]<|iD o165 [1,2] H fun _ H=>vQ<|iA [1,2,10]<|cD H (fun H=>iA [4]<|vTT<|fR<|hr H) fun H=>vK<|fQ<|iD o165 [1] H fun _ H=>vQ<|iA [1,16]<|cD H (fun H=>iA [4]<|vTT<|fR<|hr H) fun H=>vK<|fQ<|iA [4]<|vTT<|hr H
def u108J0:Int->Option Int
 | v4 =>
 some v4
def u108L1(a0:List Y186)(g1:Int×Int->Option Int):Int×Int->Option Int
 | (v1,v2) =>
 if(decide (v2 < (a0.length:Int))) then
  gd (ix v2 a0.length/\(u138 (a0.getD v2.toNat (dflt y186)) v1).isSome/\True)<|lt (vl (u138 (a0.getD v2.toNat (dflt y186)) v1)) fun v3 =>
  if(decide (v3<0)) then
   some (-1)
  else
   gd (in64 (v2+1)/\True) <|
   g1 (v3,v2+1)
 else
  u108J0 v1
def u108(a0:List Y186)(a1:Int):Option Int :=
 gd (in64 (a1-(a0.length:Int))/\True) <|
 if(decide (a1-(a0.length:Int)<0)) then
  some (-1)
 else
  lp (u108L1 a0) ((a1-(a0.length:Int),0))
def k108:Ct:=lct 108 [.dat y186.sl,.dat i64] (fun x=>u108 x.1 x.2.1) (fun r:Int=>I r) (fun _=>())
theorem o108:Ok prog k108:=by
 refine okM [.tmp 4] func108 ?_;intro y ⟨a0,a1,_⟩ r H Q hn hr;have:=hz (tc o138 tn);refine iA [0,1]<|iB [0,1] H fun H=>vQ<|iA [0,1,11]<|cD H (fun H=>iA [4]<|vTT<|fR<|hr H) fun H=>vK<|fQ<|jN r (fun(v4:Int)=>Z [p 1 (I v4)] []) (u108J0) (fun v4 H=>?_) (fun _ n0 e0 t0=>?_)
 ·refine iA [4]<|vTT<|hr H
 refine iA [0,1,5]<|vB<|lX (fun((v1,v2):Int×Int)=>Z [p 0 (L y186 a0),p 1 (I v1),p 5 (I v2)] []) ((a1-(a0.length:Int),0)) H fun _ g1 b1 e1 t1 ⟨v1,v2⟩ H=>vQ<|iA [0,1,5,15]<|cD H (fun H=>?_) (fun H=>?_)
 ·refine vK<|fQ<|vQ<|vB<|iD o138 [0,1,5] H fun _ H=>iA [0,1,5,25]<|cD H (fun H=>iA [4]<|vTT<|fDD<|fR<|t1<|fDD<|t0<|hr H) fun H=>vK<|fK<|fQ<|jB [0,1,5] H fun H=>b1 H
 exact vE<|fE<|e1<|fX rfl<|n0 H
def u137(a0:Y182)(a1:Int):Option Int :=
 gd (in64 (a1-(a0.1.size:Int))/\True) <|
 if(decide (a1-(a0.1.size:Int)<0)) then
  some (-1)
 else
  some (a1-(a0.1.size:Int))
def k137:Ct:=lct 137 [.agg y182,.dat i64] (fun x=>u137 x.1 x.2.1) (fun r:Int=>I r) (fun _=>())
theorem o137:Ok prog k137:=by
 refine okM [.tmp 4] func137 ?_;intro y ⟨_,_,_⟩ r H Q hn hr;refine iA [1,2]<|iB [1] H fun H=>vQ<|iA [1,11]<|cD H (fun H=>iA [4]<|vTT<|fR<|hr H) fun H=>vK<|fQ<|iA [4]<|vTT<|hr H
def u107J0:Int->Option Int
 | v4 =>
 some v4
def u107L1(a0:List Y182)(g1:Int×Int->Option Int):Int×Int->Option Int
 | (v1,v2) =>
 if(decide (v2 < (a0.length:Int))) then
  gd (ix v2 a0.length/\(u137 (a0.getD v2.toNat (dflt y182)) v1).isSome/\True)<|lt (vl (u137 (a0.getD v2.toNat (dflt y182)) v1)) fun v3 =>
  if(decide (v3<0)) then
   some (-1)
  else
   gd (in64 (v2+1)/\True) <|
   g1 (v3,v2+1)
 else
  u107J0 v1
def u107(a0:List Y182)(a1:Int):Option Int :=
 gd (in64 (a1-(a0.length:Int))/\True) <|
 if(decide (a1-(a0.length:Int)<0)) then
  some (-1)
 else
  lp (u107L1 a0) ((a1-(a0.length:Int),0))
def k107:Ct:=lct 107 [.dat y182.sl,.dat i64] (fun x=>u107 x.1 x.2.1) (fun r:Int=>I r) (fun _=>())
theorem o107:Ok prog k107:=by
 refine okM [.tmp 4] func107 ?_;intro y ⟨a0,a1,_⟩ r H Q hn hr;have:=hz (tc o137 tn);refine iA [0,1]<|iB [0,1] H fun H=>vQ<|iA [0,1,11]<|cD H (fun H=>iA [4]<|vTT<|fR<|hr H) fun H=>vK<|fQ<|jN r (fun(v4:Int)=>Z [p 1 (I v4)] []) (u107J0) (fun v4 H=>?_) (fun _ n0 e0 t0=>?_)
 ·refine iA [4]<|vTT<|hr H
 refine iA [0,1,5]<|vB<|lX (fun((v1,v2):Int×Int)=>Z [p 0 (L y182 a0),p 1 (I v1),p 5 (I v2)] []) ((a1-(a0.length:Int),0)) H fun _ g1 b1 e1 t1 ⟨v1,v2⟩ H=>vQ<|iA [0,1,5,15]<|cD H (fun H=>?_) (fun H=>?_)
 ·refine vK<|fQ<|vQ<|vB<|iD o137 [0,1,5] H fun _ H=>iA [0,1,5,25]<|cD H (fun H=>iA [4]<|vTT<|fDD<|fR<|t1<|fDD<|t0<|hr H) fun H=>vK<|fK<|fQ<|jB [0,1,5] H fun H=>b1 H
 exact vE<|fE<|e1<|fX rfl<|n0 H
def u71(a0:Y128)(a1:Int):Option Int :=
 gd (in64 (a1-(a0.1.size:Int))/\True) <|
 if(decide (a1-(a0.1.size:Int)<0)) then
  some (-1)
 else
  gd ((u107 a0.2.2.1 (a1-(a0.1.size:Int))).isSome/\True)<|lt (vl (u107 a0.2.2.1 (a1-(a0.1.size:Int)))) fun v0 =>
  if(decide (v0<0)) then
   some (-1)
  else
   gd ((u108 a0.2.2.2.1 v0).isSome/\True)<|lt (vl (u108 a0.2.2.2.1 v0)) fun v1 =>
   if(decide (v1<0)) then
    some (-1)
   else
    gd ((u60 a0.2.2.2.2.1 v1).isSome/\True)<|lt (vl (u60 a0.2.2.2.2.1 v1)) fun v2 =>
    if(decide (v2<0)) then
     some (-1)
    else
     some v2
def k71:Ct:=lct 71 [.agg y128,.dat i64] (fun x=>u71 x.1 x.2.1) (fun r:Int=>I r) (fun _=>())
theorem o71:Ok prog k71:=by
 refine okM [.tmp 4] func71 ?_;intro y ⟨_,_,_⟩ r H Q hn hr;have:=hz (tc o60 (tc o108 (tc o107 tn)));refine iA [1,2]<|iB [1,2] H fun H=>vQ<|iA [1,2,11]<|cD H (fun H=>iA [4]<|vTT<|fR<|hr H) fun H=>vK<|fQ<|iD o107 [1,2] H fun _ H=>vQ<|iA [1,2,17]<|cD H (fun H=>iA [4]<|vTT<|fR<|hr H) fun H=>vK<|fQ<|iD o108 [1,2] H fun _ H=>vQ<|iA [1,2,23]<|cD H (fun H=>iA [4]<|vTT<|fR<|hr H) fun H=>vK<|fQ<|iD o60 [1] H fun _ H=>vQ<|iA [1,29]<|cD H (fun H=>iA [4]<|vTT<|fR<|hr H) fun H=>vK<|fQ<|iA [4]<|vTT<|hr H
def u39J0:Int->Option Int
 | v4 =>
 some v4
def u39L1(a0:List Y128)(g1:Int×Int->Option Int):Int×Int->Option Int
 | (v1,v2) =>
 if(decide (v2 < (a0.length:Int))) then
  gd (ix v2 a0.length/\(u71 (a0.getD v2.toNat (dflt y128)) v1).isSome/\True)<|lt (vl (u71 (a0.getD v2.toNat (dflt y128)) v1)) fun v3 =>
  if(decide (v3<0)) then
   some (-1)
  else
   gd (in64 (v2+1)/\True) <|
   g1 (v3,v2+1)
 else
  u39J0 v1
def u39(a0:List Y128)(a1:Int):Option Int :=
 gd (in64 (a1-(a0.length:Int))/\True) <|
 if(decide (a1-(a0.length:Int)<0)) then
  some (-1)
 else
  lp (u39L1 a0) ((a1-(a0.length:Int),0))
def k39:Ct:=lct 39 [.dat y128.sl,.dat i64] (fun x=>u39 x.1 x.2.1) (fun r:Int=>I r) (fun _=>())
theorem o39:Ok prog k39:=by
 refine okM [.tmp 4] func39 ?_;intro y ⟨a0,a1,_⟩ r H Q hn hr;have:=hz (tc o71 tn);refine iA [0,1]<|iB [0,1] H fun H=>vQ<|iA [0,1,11]<|cD H (fun H=>iA [4]<|vTT<|fR<|hr H) fun H=>vK<|fQ<|jN r (fun(v4:Int)=>Z [p 1 (I v4)] []) (u39J0) (fun v4 H=>?_) (fun _ n0 e0 t0=>?_)
 ·refine iA [4]<|vTT<|hr H
 refine iA [0,1,5]<|vB<|lX (fun((v1,v2):Int×Int)=>Z [p 0 (L y128 a0),p 1 (I v1),p 5 (I v2)] []) ((a1-(a0.length:Int),0)) H fun _ g1 b1 e1 t1 ⟨v1,v2⟩ H=>vQ<|iA [0,1,5,15]<|cD H (fun H=>?_) (fun H=>?_)
 ·refine vK<|fQ<|vQ<|vB<|iD o71 [0,1,5] H fun _ H=>iA [0,1,5,25]<|cD H (fun H=>iA [4]<|vTT<|fDD<|fR<|t1<|fDD<|t0<|hr H) fun H=>vK<|fK<|fQ<|jB [0,1,5] H fun H=>b1 H
 exact vE<|fE<|e1<|fX rfl<|n0 H
def u15(a0:List Y128)(a1:Int):Option Int :=
 gd ((u39 a0 a1).isSome/\True)<|lt (vl (u39 a0 a1)) fun v0 =>
 if(decide (v0<0)) then
  some (-1)
 else
  some v0
def k15:Ct:=lct 15 [.agg y128.sl,.dat i64] (fun x=>u15 x.1 x.2.1) (fun r:Int=>I r) (fun _=>())
theorem o15:Ok prog k15:=by
 refine okM [.tmp 4] func15 ?_;intro y ⟨_,_,_⟩ r H Q hn hr;have:=hz (tc o39 tn);refine iA [1,2]<|iD o39 [1] H fun _ H=>vQ<|iA [1,10]<|cD H (fun H=>iA [4]<|vTT<|fR<|hr H) fun H=>vK<|fQ<|iA [4]<|vTT<|hr H
def u5(a0:Y32)(a1:Int):Option Int :=
 gd ((u15 a0.1 a1).isSome/\True)<|lt (vl (u15 a0.1 a1)) fun v0 =>
 if(decide (v0<0)) then
  some (-1)
 else
  gd ((u16 a0.2.1 v0).isSome/\True)<|lt (vl (u16 a0.2.1 v0)) fun v1 =>
  if(decide (v1<0)) then
   some (-1)
  else
   gd ((u17 a0.2.2 v1).isSome/\True)<|lt (vl (u17 a0.2.2 v1)) fun v2 =>
   if(decide (v2<0)) then
    some (-1)
   else
    some v2
def k5:Ct:=lct 5 [.agg y32,.dat i64] (fun x=>u5 x.1 x.2.1) (fun r:Int=>I r) (fun _=>())
theorem o5:Ok prog k5:=by
 refine okM [.tmp 4] func5 ?_;intro y ⟨_,_,_⟩ r H Q hn hr;have:=hz (tc o17 (tc o16 (tc o15 tn)));refine iA [1,2]<|iD o15 [1,2] H fun _ H=>vQ<|iA [1,2,10]<|cD H (fun H=>iA [4]<|vTT<|fR<|hr H) fun H=>vK<|fQ<|iD o16 [1,2] H fun _ H=>vQ<|iA [1,2,16]<|cD H (fun H=>iA [4]<|vTT<|fR<|hr H) fun H=>vK<|fQ<|iD o17 [1] H fun _ H=>vQ<|iA [1,22]<|cD H (fun H=>iA [4]<|vTT<|fR<|hr H) fun H=>vK<|fQ<|iA [4]<|vTT<|hr H
def u3(a0:Y32):Option Bool :=
 gd ((u5 a0 1048576).isSome/\True)<|lt (vl (u5 a0 1048576)) fun v0 =>
 if(decide (v0<0)) then
  some true
 else
  gd ((u7 a0).isSome/\(u6 (vl (u7 a0))).isSome/\True)<|lt ((vl (u6 (vl (u7 a0))),vl (u7 a0))) fun(v1,_) =>
  gd ((u7 a0).isSome/\True)<|lt (vl (u7 a0)) fun v3 =>
  gd ((u8 v3).isSome/\True)<|lt (vl (u8 v3)) fun v4 =>
  if(!decide (v4=v1)) then
   some false
  else
   gd ((u7 a0).isSome/\(u9 v3 (vl (u7 a0))).isSome/\True)<|lt (vl (u7 a0)) fun v5 =>
   if(!vl (u9 v3 v5)) then
    some false
   else
    some true
def k3:Ct:=lct 3 [.agg y32] (fun x=>u3 x.1) (fun r:Bool=>B r) (fun _=>())
theorem o3:Ok prog k3:=by
 refine okM [.tmp 2] func3 ?_;intro y ⟨a0,_⟩ r H Q hn hr;have:=hz (tc o9 (tc o7 (tc o8 (tc o6 (tc o5 tn)))));refine iA [1]<|iA [1,3]<|iD o5 [1,3] H fun _ H=>vQ<|iA [1,11]<|cD H (fun H=>iA [2]<|vTT<|fR<|hr H) fun H=>vK<|fQ<|qD (fun(v1,v2)=>Z [p 1 (R 1),p 4 (S v1)] [(4013,A 55 y55 v2.2.2 0),(3013,A 114 y114 v2.2.1.2.2 0),(2013,A 9 Ty.str v2.2.1.2.1 0),(1013,A 112 y112 v2.2.1.1 0),(13,A 82 y82 v2.1 0),(1,K 32 y32 a0)]) H fun⟨v1,v2⟩ H =>
  iD o7 [1,4,5] H fun _ H =>
  iD o8 [1,4,5,6] H fun _ H =>
  vQ <|
  iA [1,5,21] <|
  cD H (fun H=>iA [2]<|vTT<|fR<|hr H) fun H=>vK<|fQ<|vQ<|iD o7 [26] H fun _ H=>cD H (fun H=>iA [2]<|vTT<|fR<|hr H) fun H=>vK<|fQ<|iA [2]<|vTT<|hr H
end Go.Proofs.YtekfdfcnjlfgiaaGreatDoor
end
