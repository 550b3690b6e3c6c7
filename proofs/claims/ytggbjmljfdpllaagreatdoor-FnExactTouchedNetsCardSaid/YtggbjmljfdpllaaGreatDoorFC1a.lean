/- Functions of this program as plain functions of data, and that they are so: printed by program. -/
import Derived.Test.YtggbjmljfdpllaaGreatDoorXD
import Derived.Test.YtggbjmljfdpllaaGreatDoorXF
import Derived.Test.YtggbjmljfdpllaaGreatDoorTY
import Derived.Test.YtggbjmljfdpllaaGreatDoorLB
section
namespace Go.Proofs.YtggbjmljfdpllaaGreatDoor
open Go Go.Proofs Go.Proofs.Sv Go.Proofs.Xv Go.Proofs.Xl Go.RowKit
open Tryz
instance:HG Tryz.prog Γ:=⟨tok⟩
abbrev bx(T:TypeId)(c:List AV):Ob:=.box T c
abbrev b8:Ty:=.int .u8
abbrev G0(t:List (Nat×Sl)):List (Nat×Sl):=p 2 (R 2) :: p 3 (R 3) :: t
abbrev G1(y0:Int)(t:List (Nat×Sl)):List (Nat×Sl):=p 1 (R 1) :: p 3 (I y0) :: t
abbrev W2(y0:den y48)(y1:List (den y134)):List (Nat×Ob):=[(3,K 48 y48 y0),(2,bx 44 [L y134 y1])]
abbrev W3(y0:den y48)(y1:den y51)(y2:den y55):List (Nat×Ob):=[(5,K 48 y48 y0),(3,K 51 y51 y1),(2,K 55 y55 y2)]
abbrev G4(t:List (Nat×Sl)):List (Nat×Sl):=p 1 (R 1) :: p 3 (O 20) :: t
abbrev W5(y0:List (den i64))(y1:den y48):List (Nat×Ob):=[(92,A 2 i64 y0 0),(3,K 48 y48 y1)]
def u42(a0:List Int)(a1:Int):Option Int :=
 gd (in64 (a1-(a0.length:Int))/\True) <|
 if(decide (a1-(a0.length:Int)<0)) then
  some (-1)
 else
  some (a1-(a0.length:Int))
def k42:Ct:=lct 42 [.dat i64.sl,.dat i64] (fun x=>u42 x.1 x.2.1) (fun r:Int=>I r) (fun _=>())
theorem o42:Ok prog k42:=by
 refine okM [.tmp 4] func42 ?_;intro y ⟨_,_,_⟩ r H Q hn hr;refine iA [0,1]<|iB [1] H fun H=>vQ<|iA [1,10]<|cD H (fun H=>iA [4]<|vTT<|fR<|hr H) fun H=>vK<|fQ<|iA [4]<|vTT<|hr H
def u20(a0:Y35)(a1:Int):Option Int :=
 gd ((u42 a0.1 a1).isSome/\True)<|lt (vl (u42 a0.1 a1)) fun v0 =>
 if(decide (v0<0)) then
  some (-1)
 else
  gd ((u42 a0.2.1 v0).isSome/\True)<|lt (vl (u42 a0.2.1 v0)) fun v1 =>
  if(decide (v1<0)) then
   some (-1)
  else
   gd ((u42 a0.2.2.1 v1).isSome/\True)<|lt (vl (u42 a0.2.2.1 v1)) fun v2 =>
   if(decide (v2<0)) then
    some (-1)
   else
    gd ((u42 a0.2.2.2 v2).isSome/\True)<|lt (vl (u42 a0.2.2.2 v2)) fun v3 =>
    if(decide (v3<0)) then
     some (-1)
    else
     some v3
def k20:Ct:=lct 20 [.agg y35,.dat i64] (fun x=>u20 x.1 x.2.1) (fun r:Int=>I r) (fun _=>())
theorem o20:Ok prog k20:=by
 refine okM [.tmp 4] func20 ?_;intro y ⟨_,_,_⟩ r H Q hn hr;have:=hz (tc o42 tn);refine iA [1,2]<|iD o42 [1,2] H fun _ H=>vQ<|iA [1,2,10]<|cD H (fun H=>iA [4]<|vTT<|fR<|hr H) fun H=>vK<|fQ<|iD o42 [1,2] H fun _ H=>vQ<|iA [1,2,16]<|cD H (fun H=>iA [4]<|vTT<|fR<|hr H) fun H=>vK<|fQ<|iD o42 [1,2] H fun _ H=>vQ<|iA [1,2,22]<|cD H (fun H=>iA [4]<|vTT<|fR<|hr H) fun H=>vK<|fQ<|iD o42 [1] H fun _ H=>vQ<|iA [1,28]<|cD H (fun H=>iA [4]<|vTT<|fR<|hr H) fun H=>vK<|fQ<|iA [4]<|vTT<|hr H
def u19J0:Int->Option Int
 | v4 =>
 some v4
def u19L1(a0:List Y35)(g1:Int×Int->Option Int):Int×Int->Option Int
 | (v1,v2) =>
 if(decide (v2 < (a0.length:Int))) then
  gd (ix v2 a0.length/\(u20 (a0.getD v2.toNat (dflt y35)) v1).isSome/\True)<|lt (vl (u20 (a0.getD v2.toNat (dflt y35)) v1)) fun v3 =>
  if(decide (v3<0)) then
   some (-1)
  else
   gd (in64 (v2+1)/\True) <|
   g1 (v3,v2+1)
 else
  u19J0 v1
def u19(a0:List Y35)(a1:Int):Option Int :=
 gd (in64 (a1-(a0.length:Int))/\True) <|
 if(decide (a1-(a0.length:Int)<0)) then
  some (-1)
 else
  lp (u19L1 a0) ((a1-(a0.length:Int),0))
def k19:Ct:=lct 19 [.dat y35.sl,.dat i64] (fun x=>u19 x.1 x.2.1) (fun r:Int=>I r) (fun _=>())
theorem o19:Ok prog k19:=by
 refine okM [.tmp 4] func19 ?_;intro y ⟨a0,a1,_⟩ r H Q hn hr;have:=hz (tc o20 tn);refine iA [0,1]<|iB [0,1] H fun H=>vQ<|iA [0,1,11]<|cD H (fun H=>iA [4]<|vTT<|fR<|hr H) fun H=>vK<|fQ<|jN r (fun(v4:Int)=>Z [p 1 (I v4)] []) (u19J0) (fun v4 H=>?_) (fun _ n0 e0 t0=>?_)
 ·refine iA [4]<|vTT<|hr H
 refine iA [0,1,5]<|vB<|lX (fun((v1,v2):Int×Int)=>Z [p 0 (L y35 a0),p 1 (I v1),p 5 (I v2)] []) ((a1-(a0.length:Int),0)) H fun _ g1 b1 e1 t1 ⟨v1,v2⟩ H=>vQ<|iA [0,1,5,15]<|cD H (fun H=>?_) (fun H=>?_)
 ·refine vK<|fQ<|vQ<|vB<|iD o20 [0,1,5] H fun _ H=>iA [0,1,5,25]<|cD H (fun H=>iA [4]<|vTT<|fDD<|fR<|t1<|fDD<|t0<|hr H) fun H=>vK<|fK<|fQ<|jB [0,1,5] H fun H=>b1 H
 exact vE<|fE<|e1<|fX rfl<|n0 H
def u70(a0:Y125)(a1:Int):Option Int :=
 gd (in64 (a1-(a0.1.size:Int))/\True) <|
 if(decide (a1-(a0.1.size:Int)<0)) then
  some (-1)
 else
  some (a1-(a0.1.size:Int))
def k70:Ct:=lct 70 [.agg y125,.dat i64] (fun x=>u70 x.1 x.2.1) (fun r:Int=>I r) (fun _=>())
theorem o70:Ok prog k70:=by
 refine okM [.tmp 4] func70 ?_;intro y ⟨_,_,_⟩ r H Q hn hr;refine iA [1,2]<|iB [1] H fun H=>vQ<|iA [1,11]<|cD H (fun H=>iA [4]<|vTT<|fR<|hr H) fun H=>vK<|fQ<|iA [4]<|vTT<|hr H
def u41J0:Int->Option Int
 | v4 =>
 some v4
def u41L1(a0:List Y125)(g1:Int×Int->Option Int):Int×Int->Option Int
 | (v1,v2) =>
 if(decide (v2 < (a0.length:Int))) then
  gd (ix v2 a0.length/\(u70 (a0.getD v2.toNat (dflt y125)) v1).isSome/\True)<|lt (vl (u70 (a0.getD v2.toNat (dflt y125)) v1)) fun v3 =>
  if(decide (v3<0)) then
   some (-1)
  else
   gd (in64 (v2+1)/\True) <|
   g1 (v3,v2+1)
 else
  u41J0 v1
def u41(a0:List Y125)(a1:Int):Option Int :=
 gd (in64 (a1-(a0.length:Int))/\True) <|
 if(decide (a1-(a0.length:Int)<0)) then
  some (-1)
 else
  lp (u41L1 a0) ((a1-(a0.length:Int),0))
def k41:Ct:=lct 41 [.dat y125.sl,.dat i64] (fun x=>u41 x.1 x.2.1) (fun r:Int=>I r) (fun _=>())
theorem o41:Ok prog k41:=by
 refine okM [.tmp 4] func41 ?_;intro y ⟨a0,a1,_⟩ r H Q hn hr;have:=hz (tc o70 tn);refine iA [0,1]<|iB [0,1] H fun H=>vQ<|iA [0,1,11]<|cD H (fun H=>iA [4]<|vTT<|fR<|hr H) fun H=>vK<|fQ<|jN r (fun(v4:Int)=>Z [p 1 (I v4)] []) (u41J0) (fun v4 H=>?_) (fun _ n0 e0 t0=>?_)
 ·refine iA [4]<|vTT<|hr H
 refine iA [0,1,5]<|vB<|lX (fun((v1,v2):Int×Int)=>Z [p 0 (L y125 a0),p 1 (I v1),p 5 (I v2)] []) ((a1-(a0.length:Int),0)) H fun _ g1 b1 e1 t1 ⟨v1,v2⟩ H=>vQ<|iA [0,1,5,15]<|cD H (fun H=>?_) (fun H=>?_)
 ·refine vK<|fQ<|vQ<|vB<|iD o70 [0,1,5] H fun _ H=>iA [0,1,5,25]<|cD H (fun H=>iA [4]<|vTT<|fDD<|fR<|t1<|fDD<|t0<|hr H) fun H=>vK<|fK<|fQ<|jB [0,1,5] H fun H=>b1 H
 exact vE<|fE<|e1<|fX rfl<|n0 H
def u40J0:Int->Option Int
 | v4 =>
 some v4
def u40L1(a0:List ByteArray)(g1:Int×Int->Option Int):Int×Int->Option Int
 | (v1,v2) =>
 if(decide (v2 < (a0.length:Int))) then
  gd (ix v2 a0.length/\in64 (v1-(↑(ByteArray.size (a0.getD v2.toNat (dflt Ty.str))):Int))/\True)<|lt (v1-(↑(ByteArray.size (a0.getD v2.toNat (dflt Ty.str))):Int)) fun v3 =>
  if(decide (v3<0)) then
   some (-1)
  else
   gd (in64 (v2+1)/\True) <|
   g1 (v3,v2+1)
 else
  u40J0 v1
def u40(a0:List ByteArray)(a1:Int):Option Int :=
 gd (in64 (a1-(a0.length:Int))/\True) <|
 if(decide (a1-(a0.length:Int)<0)) then
  some (-1)
 else
  lp (u40L1 a0) ((a1-(a0.length:Int),0))
def k40:Ct:=lct 40 [.dat Ty.str.sl,.dat i64] (fun x=>u40 x.1 x.2.1) (fun r:Int=>I r) (fun _=>())
theorem o40:Ok prog k40:=by
 refine okM [.tmp 4] func40 ?_;intro y ⟨a0,a1,_⟩ r H Q hn hr;refine iA [0,1]<|iB [0,1] H fun H=>vQ<|iA [0,1,11]<|cD H (fun H=>iA [4]<|vTT<|fR<|hr H) fun H=>vK<|fQ<|jN r (fun(v4:Int)=>Z [p 1 (I v4)] []) (u40J0) (fun v4 H=>?_) (fun _ n0 e0 t0=>?_)
 ·refine iA [4]<|vTT<|hr H
 refine iA [0,1,5]<|vB<|lX (fun((v1,v2):Int×Int)=>Z [p 0 (L Ty.str a0),p 1 (I v1),p 5 (I v2)] []) ((a1-(a0.length:Int),0)) H fun _ g1 b1 e1 t1 ⟨v1,v2⟩ H=>vQ<|iA [0,1,5,15]<|cD H (fun H=>?_) (fun H=>?_)
 ·refine vK<|fQ<|vQ<|vB<|qD (fun v3=>Z [p 0 (L Ty.str a0),p 1 (I v3),p 5 (I v2)] []) H fun v3 H=>iA [0,1,5,26]<|cD H (fun H=>iA [4]<|vTT<|fDD<|fR<|t1<|fDD<|t0<|hr H) fun H=>vK<|fK<|fQ<|jB [0,1,5] H fun H=>b1 H
 exact vE<|fE<|e1<|fX rfl<|n0 H
def u69(a0:Y122)(a1:Int):Option Int :=
 gd (in64 (a1-(a0.1.size:Int))/\True) <|
 if(decide (a1-(a0.1.size:Int)<0)) then
  some (-1)
 else
  gd ((u42 a0.2.2 (a1-(a0.1.size:Int))).isSome/\True)<|lt (vl (u42 a0.2.2 (a1-(a0.1.size:Int)))) fun v0 =>
  if(decide (v0<0)) then
   some (-1)
  else
   some v0
def k69:Ct:=lct 69 [.agg y122,.dat i64] (fun x=>u69 x.1 x.2.1) (fun r:Int=>I r) (fun _=>())
theorem o69:Ok prog k69:=by
 refine okM [.tmp 4] func69 ?_;intro y ⟨_,_,_⟩ r H Q hn hr;have:=hz (tc o42 tn);refine iA [1,2]<|iB [1,2] H fun H=>vQ<|iA [1,2,11]<|cD H (fun H=>iA [4]<|vTT<|fR<|hr H) fun H=>vK<|fQ<|iD o42 [1] H fun _ H=>vQ<|iA [1,17]<|cD H (fun H=>iA [4]<|vTT<|fR<|hr H) fun H=>vK<|fQ<|iA [4]<|vTT<|hr H
def u39J0:Int->Option Int
 | v4 =>
 some v4
def u39L1(a0:List Y122)(g1:Int×Int->Option Int):Int×Int->Option Int
 | (v1,v2) =>
 if(decide (v2 < (a0.length:Int))) then
  gd (ix v2 a0.length/\(u69 (a0.getD v2.toNat (dflt y122)) v1).isSome/\True)<|lt (vl (u69 (a0.getD v2.toNat (dflt y122)) v1)) fun v3 =>
  if(decide (v3<0)) then
   some (-1)
  else
   gd (in64 (v2+1)/\True) <|
   g1 (v3,v2+1)
 else
  u39J0 v1
def u39(a0:List Y122)(a1:Int):Option Int :=
 gd (in64 (a1-(a0.length:Int))/\True) <|
 if(decide (a1-(a0.length:Int)<0)) then
  some (-1)
 else
  lp (u39L1 a0) ((a1-(a0.length:Int),0))
def k39:Ct:=lct 39 [.dat y122.sl,.dat i64] (fun x=>u39 x.1 x.2.1) (fun r:Int=>I r) (fun _=>())
theorem o39:Ok prog k39:=by
 refine okM [.tmp 4] func39 ?_;intro y ⟨a0,a1,_⟩ r H Q hn hr;have:=hz (tc o69 tn);refine iA [0,1]<|iB [0,1] H fun H=>vQ<|iA [0,1,11]<|cD H (fun H=>iA [4]<|vTT<|fR<|hr H) fun H=>vK<|fQ<|jN r (fun(v4:Int)=>Z [p 1 (I v4)] []) (u39J0) (fun v4 H=>?_) (fun _ n0 e0 t0=>?_)
 ·refine iA [4]<|vTT<|hr H
 refine iA [0,1,5]<|vB<|lX (fun((v1,v2):Int×Int)=>Z [p 0 (L y122 a0),p 1 (I v1),p 5 (I v2)] []) ((a1-(a0.length:Int),0)) H fun _ g1 b1 e1 t1 ⟨v1,v2⟩ H=>vQ<|iA [0,1,5,15]<|cD H (fun H=>?_) (fun H=>?_)
 ·refine vK<|fQ<|vQ<|vB<|iD o69 [0,1,5] H fun _ H=>iA [0,1,5,25]<|cD H (fun H=>iA [4]<|vTT<|fDD<|fR<|t1<|fDD<|t0<|hr H) fun H=>vK<|fK<|fQ<|jB [0,1,5] H fun H=>b1 H
 exact vE<|fE<|e1<|fX rfl<|n0 H
def u18(a0:Y29)(a1:Int):Option Int :=
 gd ((u39 a0.1 a1).isSome/\True)<|lt (vl (u39 a0.1 a1)) fun v0 =>
 if(decide (v0<0)) then
  some (-1)
 else
  gd ((u40 a0.2.1 v0).isSome/\True)<|lt (vl (u40 a0.2.1 v0)) fun v1 =>
  if(decide (v1<0)) then
   some (-1)
  else
   gd ((u41 a0.2.2 v1).isSome/\True)<|lt (vl (u41 a0.2.2 v1)) fun v2 =>
   if(decide (v2<0)) then
    some (-1)
   else
    some v2
def k18:Ct:=lct 18 [.agg y29,.dat i64] (fun x=>u18 x.1 x.2.1) (fun r:Int=>I r) (fun _=>())
theorem o18:Ok prog k18:=by
 refine okM [.tmp 4] func18 ?_;intro y ⟨_,_,_⟩ r H Q hn hr;have:=hz (tc o41 (tc o40 (tc o39 tn)));refine iA [1,2]<|iD o39 [1,2] H fun _ H=>vQ<|iA [1,2,10]<|cD H (fun H=>iA [4]<|vTT<|fR<|hr H) fun H=>vK<|fQ<|iD o40 [1,2] H fun _ H=>vQ<|iA [1,2,16]<|cD H (fun H=>iA [4]<|vTT<|fR<|hr H) fun H=>vK<|fQ<|iD o41 [1] H fun _ H=>vQ<|iA [1,22]<|cD H (fun H=>iA [4]<|vTT<|fR<|hr H) fun H=>vK<|fQ<|iA [4]<|vTT<|hr H
def u187(a0:Y238)(a1:Int):Option Int :=
 gd ((u42 a0.1 a1).isSome/\True)<|lt (vl (u42 a0.1 a1)) fun v0 =>
 if(decide (v0<0)) then
  some (-1)
 else
  gd ((u42 a0.2.1 v0).isSome/\True)<|lt (vl (u42 a0.2.1 v0)) fun v1 =>
  if(decide (v1<0)) then
   some (-1)
  else
   gd ((u42 a0.2.2 v1).isSome/\True)<|lt (vl (u42 a0.2.2 v1)) fun v2 =>
   if(decide (v2<0)) then
    some (-1)
   else
    some v2
def k187:Ct:=lct 187 [.agg y238,.dat i64] (fun x=>u187 x.1 x.2.1) (fun r:Int=>I r) (fun _=>())
theorem o187:Ok prog k187:=by
 refine okM [.tmp 4] func187 ?_;intro y ⟨_,_,_⟩ r H Q hn hr;have:=hz (tc o42 tn);refine iA [1,2]<|iD o42 [1,2] H fun _ H=>vQ<|iA [1,2,10]<|cD H (fun H=>iA [4]<|vTT<|fR<|hr H) fun H=>vK<|fQ<|iD o42 [1,2] H fun _ H=>vQ<|iA [1,2,16]<|cD H (fun H=>iA [4]<|vTT<|fR<|hr H) fun H=>vK<|fQ<|iD o42 [1] H fun _ H=>vQ<|iA [1,22]<|cD H (fun H=>iA [4]<|vTT<|fR<|hr H) fun H=>vK<|fQ<|iA [4]<|vTT<|hr H
def u166J0:Int->Option Int
 | v4 =>
 some v4
def u166L1(a0:List Y238)(g1:Int×Int->Option Int):Int×Int->Option Int
 | (v1,v2) =>
 if(decide (v2 < (a0.length:Int))) then
  gd (ix v2 a0.length/\(u187 (a0.getD v2.toNat (dflt y238)) v1).isSome/\True)<|lt (vl (u187 (a0.getD v2.toNat (dflt y238)) v1)) fun v3 =>
  if(decide (v3<0)) then
   some (-1)
  else
   gd (in64 (v2+1)/\True) <|
   g1 (v3,v2+1)
 else
  u166J0 v1
def u166(a0:List Y238)(a1:Int):Option Int :=
 gd (in64 (a1-(a0.length:Int))/\True) <|
 if(decide (a1-(a0.length:Int)<0)) then
  some (-1)
 else
  lp (u166L1 a0) ((a1-(a0.length:Int),0))
def k166:Ct:=lct 166 [.dat y238.sl,.dat i64] (fun x=>u166 x.1 x.2.1) (fun r:Int=>I r) (fun _=>())
theorem o166:Ok prog k166:=by
 refine okM [.tmp 4] func166 ?_;intro y ⟨a0,a1,_⟩ r H Q hn hr;have:=hz (tc o187 tn);refine iA [0,1]<|iB [0,1] H fun H=>vQ<|iA [0,1,11]<|cD H (fun H=>iA [4]<|vTT<|fR<|hr H) fun H=>vK<|fQ<|jN r (fun(v4:Int)=>Z [p 1 (I v4)] []) (u166J0) (fun v4 H=>?_) (fun _ n0 e0 t0=>?_)
 ·refine iA [4]<|vTT<|hr H
 refine iA [0,1,5]<|vB<|lX (fun((v1,v2):Int×Int)=>Z [p 0 (L y238 a0),p 1 (I v1),p 5 (I v2)] []) ((a1-(a0.length:Int),0)) H fun _ g1 b1 e1 t1 ⟨v1,v2⟩ H=>vQ<|iA [0,1,5,15]<|cD H (fun H=>?_) (fun H=>?_)
 ·refine vK<|fQ<|vQ<|vB<|iD o187 [0,1,5] H fun _ H=>iA [0,1,5,25]<|cD H (fun H=>iA [4]<|vTT<|fDD<|fR<|t1<|fDD<|t0<|hr H) fun H=>vK<|fK<|fQ<|jB [0,1,5] H fun H=>b1 H
 exact vE<|fE<|e1<|fX rfl<|n0 H
def u140(a0:Y197)(a1:Int):Option Int :=
 gd ((u166 a0.2.2.2.2.1 a1).isSome/\True)<|lt (vl (u166 a0.2.2.2.2.1 a1)) fun v0 =>
 if(decide (v0<0)) then
  some (-1)
 else
  gd ((u166 a0.2.2.2.2.2 v0).isSome/\True)<|lt (vl (u166 a0.2.2.2.2.2 v0)) fun v1 =>
  if(decide (v1<0)) then
   some (-1)
  else
   some v1
def k140:Ct:=lct 140 [.agg y197,.dat i64] (fun x=>u140 x.1 x.2.1) (fun r:Int=>I r) (fun _=>())
theorem o140:Ok prog k140:=by
 refine okM [.tmp 4] func140 ?_;intro y ⟨_,_,_⟩ r H Q hn hr;have:=hz (tc o166 tn);refine iA [1,2]<|iD o166 [1,2] H fun _ H=>vQ<|iA [1,2,10]<|cD H (fun H=>iA [4]<|vTT<|fR<|hr H) fun H=>vK<|fQ<|iD o166 [1] H fun _ H=>vQ<|iA [1,16]<|cD H (fun H=>iA [4]<|vTT<|fR<|hr H) fun H=>vK<|fQ<|iA [4]<|vTT<|hr H
def u97J0:Int->Option Int
 | v4 =>
 some v4
def u97L1(a0:List Y197)(g1:Int×Int->Option Int):Int×Int->Option Int
 | (v1,v2) =>
 if(decide (v2 < (a0.length:Int))) then
  gd (ix v2 a0.length/\(u140 (a0.getD v2.toNat (dflt y197)) v1).isSome/\True)<|lt (vl (u140 (a0.getD v2.toNat (dflt y197)) v1)) fun v3 =>
  if(decide (v3<0)) then
   some (-1)
  else
   gd (in64 (v2+1)/\True) <|
   g1 (v3,v2+1)
 else
  u97J0 v1
def u97(a0:List Y197)(a1:Int):Option Int :=
 gd (in64 (a1-(a0.length:Int))/\True) <|
 if(decide (a1-(a0.length:Int)<0)) then
  some (-1)
 else
  lp (u97L1 a0) ((a1-(a0.length:Int),0))
def k97:Ct:=lct 97 [.dat y197.sl,.dat i64] (fun x=>u97 x.1 x.2.1) (fun r:Int=>I r) (fun _=>())
theorem o97:Ok prog k97:=by
 refine okM [.tmp 4] func97 ?_;intro y ⟨a0,a1,_⟩ r H Q hn hr;have:=hz (tc o140 tn);refine iA [0,1]<|iB [0,1] H fun H=>vQ<|iA [0,1,11]<|cD H (fun H=>iA [4]<|vTT<|fR<|hr H) fun H=>vK<|fQ<|jN r (fun(v4:Int)=>Z [p 1 (I v4)] []) (u97J0) (fun v4 H=>?_) (fun _ n0 e0 t0=>?_)
 ·refine iA [4]<|vTT<|hr H
 refine iA [0,1,5]<|vB<|lX (fun((v1,v2):Int×Int)=>Z [p 0 (L y197 a0),p 1 (I v1),p 5 (I v2)] []) ((a1-(a0.length:Int),0)) H fun _ g1 b1 e1 t1 ⟨v1,v2⟩ H=>vQ<|iA [0,1,5,15]<|cD H (fun H=>?_) (fun H=>?_)
 ·refine vK<|fQ<|vQ<|vB<|iD o140 [0,1,5] H fun _ H=>iA [0,1,5,25]<|cD H (fun H=>iA [4]<|vTT<|fDD<|fR<|t1<|fDD<|t0<|hr H) fun H=>vK<|fK<|fQ<|jB [0,1,5] H fun H=>b1 H
 exact vE<|fE<|e1<|fX rfl<|n0 H
def u139(a0:Y193)(a1:Int):Option Int :=
 gd (in64 (a1-(a0.1.size:Int))/\True) <|
 if(decide (a1-(a0.1.size:Int)<0)) then
  some (-1)
 else
  some (a1-(a0.1.size:Int))
def k139:Ct:=lct 139 [.agg y193,.dat i64] (fun x=>u139 x.1 x.2.1) (fun r:Int=>I r) (fun _=>())
theorem o139:Ok prog k139:=by
 refine okM [.tmp 4] func139 ?_;intro y ⟨_,_,_⟩ r H Q hn hr;refine iA [1,2]<|iB [1] H fun H=>vQ<|iA [1,11]<|cD H (fun H=>iA [4]<|vTT<|fR<|hr H) fun H=>vK<|fQ<|iA [4]<|vTT<|hr H
def u96J0:Int->Option Int
 | v4 =>
 some v4
def u96L1(a0:List Y193)(g1:Int×Int->Option Int):Int×Int->Option Int
 | (v1,v2) =>
 if(decide (v2 < (a0.length:Int))) then
  gd (ix v2 a0.length/\(u139 (a0.getD v2.toNat (dflt y193)) v1).isSome/\True)<|lt (vl (u139 (a0.getD v2.toNat (dflt y193)) v1)) fun v3 =>
  if(decide (v3<0)) then
   some (-1)
  else
   gd (in64 (v2+1)/\True) <|
   g1 (v3,v2+1)
 else
  u96J0 v1
def u96(a0:List Y193)(a1:Int):Option Int :=
 gd (in64 (a1-(a0.length:Int))/\True) <|
 if(decide (a1-(a0.length:Int)<0)) then
  some (-1)
 else
  lp (u96L1 a0) ((a1-(a0.length:Int),0))
def k96:Ct:=lct 96 [.dat y193.sl,.dat i64] (fun x=>u96 x.1 x.2.1) (fun r:Int=>I r) (fun _=>())
theorem o96:Ok prog k96:=by
 refine okM [.tmp 4] func96 ?_;intro y ⟨a0,a1,_⟩ r H Q hn hr;have:=hz (tc o139 tn);refine iA [0,1]<|iB [0,1] H fun H=>vQ<|iA [0,1,11]<|cD H (fun H=>iA [4]<|vTT<|fR<|hr H) fun H=>vK<|fQ<|jN r (fun(v4:Int)=>Z [p 1 (I v4)] []) (u96J0) (fun v4 H=>?_) (fun _ n0 e0 t0=>?_)
 ·refine iA [4]<|vTT<|hr H
 refine iA [0,1,5]<|vB<|lX (fun((v1,v2):Int×Int)=>Z [p 0 (L y193 a0),p 1 (I v1),p 5 (I v2)] []) ((a1-(a0.length:Int),0)) H fun _ g1 b1 e1 t1 ⟨v1,v2⟩ H=>vQ<|iA [0,1,5,15]<|cD H (fun H=>?_) (fun H=>?_)
 ·refine vK<|fQ<|vQ<|vB<|iD o139 [0,1,5] H fun _ H=>iA [0,1,5,25]<|cD H (fun H=>iA [4]<|vTT<|fDD<|fR<|t1<|fDD<|t0<|hr H) fun H=>vK<|fK<|fQ<|jB [0,1,5] H fun H=>b1 H
 exact vE<|fE<|e1<|fX rfl<|n0 H
def u68(a0:Y120)(a1:Int):Option Int :=
 gd (in64 (a1-(a0.1.size:Int))/\True) <|
 if(decide (a1-(a0.1.size:Int)<0)) then
  some (-1)
 else
  gd ((u96 a0.2.2.1 (a1-(a0.1.size:Int))).isSome/\True)<|lt (vl (u96 a0.2.2.1 (a1-(a0.1.size:Int)))) fun v0 =>
  if(decide (v0<0)) then
   some (-1)
  else
   gd ((u97 a0.2.2.2.1 v0).isSome/\True)<|lt (vl (u97 a0.2.2.2.1 v0)) fun v1 =>
   if(decide (v1<0)) then
    some (-1)
   else
    gd ((u42 a0.2.2.2.2.1 v1).isSome/\True)<|lt (vl (u42 a0.2.2.2.2.1 v1)) fun v2 =>
    if(decide (v2<0)) then
     some (-1)
    else
     some v2
def k68:Ct:=lct 68 [.agg y120,.dat i64] (fun x=>u68 x.1 x.2.1) (fun r:Int=>I r) (fun _=>())
theorem o68:Ok prog k68:=by
 refine okM [.tmp 4] func68 ?_;intro y ⟨_,_,_⟩ r H Q hn hr;have:=hz (tc o42 (tc o97 (tc o96 tn)));refine iA [1,2]<|iB [1,2] H fun H=>vQ<|iA [1,2,11]<|cD H (fun H=>iA [4]<|vTT<|fR<|hr H) fun H=>vK<|fQ<|iD o96 [1,2] H fun _ H=>vQ<|iA [1,2,17]<|cD H (fun H=>iA [4]<|vTT<|fR<|hr H) fun H=>vK<|fQ<|iD o97 [1,2] H fun _ H=>vQ<|iA [1,2,23]<|cD H (fun H=>iA [4]<|vTT<|fR<|hr H) fun H=>vK<|fQ<|iD o42 [1] H fun _ H=>vQ<|iA [1,29]<|cD H (fun H=>iA [4]<|vTT<|fR<|hr H) fun H=>vK<|fQ<|iA [4]<|vTT<|hr H
def u38J0:Int->Option Int
 | v4 =>
 some v4
def u38L1(a0:List Y120)(g1:Int×Int->Option Int):Int×Int->Option Int
 | (v1,v2) =>
 if(decide (v2 < (a0.length:Int))) then
  gd (ix v2 a0.length/\(u68 (a0.getD v2.toNat (dflt y120)) v1).isSome/\True)<|lt (vl (u68 (a0.getD v2.toNat (dflt y120)) v1)) fun v3 =>
  if(decide (v3<0)) then
   some (-1)
  else
   gd (in64 (v2+1)/\True) <|
   g1 (v3,v2+1)
 else
  u38J0 v1
def u38(a0:List Y120)(a1:Int):Option Int :=
 gd (in64 (a1-(a0.length:Int))/\True) <|
 if(decide (a1-(a0.length:Int)<0)) then
  some (-1)
 else
  lp (u38L1 a0) ((a1-(a0.length:Int),0))
def k38:Ct:=lct 38 [.dat y120.sl,.dat i64] (fun x=>u38 x.1 x.2.1) (fun r:Int=>I r) (fun _=>())
theorem o38:Ok prog k38:=by
 refine okM [.tmp 4] func38 ?_;intro y ⟨a0,a1,_⟩ r H Q hn hr;have:=hz (tc o68 tn);refine iA [0,1]<|iB [0,1] H fun H=>vQ<|iA [0,1,11]<|cD H (fun H=>iA [4]<|vTT<|fR<|hr H) fun H=>vK<|fQ<|jN r (fun(v4:Int)=>Z [p 1 (I v4)] []) (u38J0) (fun v4 H=>?_) (fun _ n0 e0 t0=>?_)
 ·refine iA [4]<|vTT<|hr H
 refine iA [0,1,5]<|vB<|lX (fun((v1,v2):Int×Int)=>Z [p 0 (L y120 a0),p 1 (I v1),p 5 (I v2)] []) ((a1-(a0.length:Int),0)) H fun _ g1 b1 e1 t1 ⟨v1,v2⟩ H=>vQ<|iA [0,1,5,15]<|cD H (fun H=>?_) (fun H=>?_)
 ·refine vK<|fQ<|vQ<|vB<|iD o68 [0,1,5] H fun _ H=>iA [0,1,5,25]<|cD H (fun H=>iA [4]<|vTT<|fDD<|fR<|t1<|fDD<|t0<|hr H) fun H=>vK<|fK<|fQ<|jB [0,1,5] H fun H=>b1 H
 exact vE<|fE<|e1<|fX rfl<|n0 H
def u17(a0:List Y120)(a1:Int):Option Int :=
 gd ((u38 a0 a1).isSome/\True)<|lt (vl (u38 a0 a1)) fun v0 =>
 if(decide (v0<0)) then
  some (-1)
 else
  some v0
def k17:Ct:=lct 17 [.agg y120.sl,.dat i64] (fun x=>u17 x.1 x.2.1) (fun r:Int=>I r) (fun _=>())
theorem o17:Ok prog k17:=by
 refine okM [.tmp 4] func17 ?_;intro y ⟨_,_,_⟩ r H Q hn hr;have:=hz (tc o38 tn);refine iA [1,2]<|iD o38 [1] H fun _ H=>vQ<|iA [1,10]<|cD H (fun H=>iA [4]<|vTT<|fR<|hr H) fun H=>vK<|fQ<|iA [4]<|vTT<|hr H
def u4(a0:Y32)(a1:Int):Option Int :=
 gd ((u17 a0.1 a1).isSome/\True)<|lt (vl (u17 a0.1 a1)) fun v0 =>
 if(decide (v0<0)) then
  some (-1)
 else
  gd ((u18 a0.2.1 v0).isSome/\True)<|lt (vl (u18 a0.2.1 v0)) fun v1 =>
  if(decide (v1<0)) then
   some (-1)
  else
   gd ((u19 a0.2.2 v1).isSome/\True)<|lt (vl (u19 a0.2.2 v1)) fun v2 =>
   if(decide (v2<0)) then
    some (-1)
   else
    some v2
def k4:Ct:=lct 4 [.agg y32,.dat i64] (fun x=>u4 x.1 x.2.1) (fun r:Int=>I r) (fun _=>())
theorem o4:Ok prog k4:=by
 refine okM [.tmp 4] func4 ?_;intro y ⟨_,_,_⟩ r H Q hn hr;have:=hz (tc o19 (tc o18 (tc o17 tn)));refine iA [1,2]<|iD o17 [1,2] H fun _ H=>vQ<|iA [1,2,10]<|cD H (fun H=>iA [4]<|vTT<|fR<|hr H) fun H=>vK<|fQ<|iD o18 [1,2] H fun _ H=>vQ<|iA [1,2,16]<|cD H (fun H=>iA [4]<|vTT<|fR<|hr H) fun H=>vK<|fQ<|iD o19 [1] H fun _ H=>vQ<|iA [1,22]<|cD H (fun H=>iA [4]<|vTT<|fR<|hr H) fun H=>vK<|fQ<|iA [4]<|vTT<|hr H
def u5(a0:Y37)(a1:Int):Option Int :=
 gd (in64 (a1-(a0.2.2.2.2.2.1.size:Int))/\True) <|
 if(decide (a1-(a0.2.2.2.2.2.1.size:Int)<0)) then
  some (-1)
 else
  gd ((u20 a0.2.2.2.2.2.2 (a1-(a0.2.2.2.2.2.1.size:Int))).isSome/\True)<|lt (vl (u20 a0.2.2.2.2.2.2 (a1-(a0.2.2.2.2.2.1.size:Int)))) fun v0 =>
  if(decide (v0<0)) then
   some (-1)
  else
   some v0
def k5:Ct:=lct 5 [.agg y37,.dat i64] (fun x=>u5 x.1 x.2.1) (fun r:Int=>I r) (fun _=>())
theorem o5:Ok prog k5:=by
 refine okM [.tmp 4] func5 ?_;intro y ⟨_,_,_⟩ r H Q hn hr;have:=hz (tc o20 tn);refine iA [1,2]<|iB [1,2] H fun H=>vQ<|iA [1,2,11]<|cD H (fun H=>iA [4]<|vTT<|fR<|hr H) fun H=>vK<|fQ<|iD o20 [1] H fun _ H=>vQ<|iA [1,17]<|cD H (fun H=>iA [4]<|vTT<|fR<|hr H) fun H=>vK<|fQ<|iA [4]<|vTT<|hr H
def u23J0:Unit->Option Bool
 | _ =>
 some false
def u23L1(a0:List Int)(a1:Int)(g1:Int->Option Bool):Int->Option Bool
 | v0 =>
 if(decide (v0 < (a0.length:Int))) then
  gd (ix v0 a0.length/\True) <|
  if(a0.getD v0.toNat 0==a1) then
   some true
  else
   gd (in64 (v0+1)/\True) <|
   g1 (v0+1)
 else
  u23J0 ()
def u23(a0:List Int)(a1:Int):Option Bool :=
 lp (u23L1 a0 a1) 0
def k23:Ct:=lct 23 [.dat i64.sl,.dat i64] (fun x=>u23 x.1 x.2.1) (fun r:Bool=>B r) (fun _=>())
theorem o23:Ok prog k23:=by
 refine okM [.tmp 4] func23 ?_;intro y ⟨a0,a1,_⟩ r H Q hn hr;refine iA [0,1]<|jN r (fun(_:Unit)=>Z [] []) (u23J0) (fun _ H=>?_) (fun _ n0 e0 t0=>?_)
 ·refine iA [4]<|vTT<|hr H
 refine iA [0,1,5]<|vB<|lX (fun(v0:Int)=>Z [p 0 (L i64 a0),p 1 (J a1),p 5 (I v0)] []) 0 H fun _ g1 b1 e1 t1 v0 H=>vQ<|iA [0,1,5,9]<|cD H (fun H=>?_) (fun H=>?_)
 ·refine vK<|fQ<|vQ<|vB<|iB [0,1,5,17] H fun H=>cD H (fun H=>iA [4]<|vTT<|fDD<|fR<|t1<|fDD<|t0<|hr H) fun H=>vK<|fK<|fQ<|jB [0,1,5] H fun H=>b1 H
 exact vE<|fE<|e1<|fX rfl<|n0 H
def u47J4:List Y96->Option (List Y96)
 | v25 =>
 some v25
def u47L5(a0:Y48)(g5:Int×List Y96->Option (List Y96)):Int×List Y96->Option (List Y96)
 | (v21,v22) =>
 if(decide (v21 < (a0.2.2.length:Int))) then
  gd (ix v21 a0.2.2.length/\ix v21 a0.2.2.length/\(v22.length+[(-1,v21,(a0.2.2.getD v21.toNat (dflt y138)).2.2,(a0.2.2.getD v21.toNat (dflt y138)).2.1==1)].length<=9223372036854775807/\(v22.length+[(-1,v21,(a0.2.2.getD v21.toNat (dflt y138)).2.2,(a0.2.2.getD v21.toNat (dflt y138)).2.1==1)].length)*32<=140737488355328)/\True)<|lt ((v22++[(-1,v21,(a0.2.2.getD v21.toNat (dflt y138)).2.2,(a0.2.2.getD v21.toNat (dflt y138)).2.1==1)],[(-1,v21,(a0.2.2.getD v21.toNat (dflt y138)).2.2,(a0.2.2.getD v21.toNat (dflt y138)).2.1==1)])) fun(v23,_) =>
  gd (in64 (v21+1)/\True) <|
  g5 (v21+1,v23)
 else
  u47J4 v22
def u47J0(a0:Y48):List Y96->Option (List Y96)
 | v18 =>
 lp (u47L5 a0) (0,v18)
def u47J2(v8:Int)(g1:Int×List Y96->Option (List Y96)):List Y96->Option (List Y96)
 | v17 =>
 gd (in64 (v8+1)/\True) <|
 g1 (v8+1,v17)
def u47L3(v8:Int)(v10:Y94)(g1:Int×List Y96->Option (List Y96))(g3:Int×List Y96->Option (List Y96)):Int×List Y96->Option (List Y96)
 | (v13,v14) =>
 if(decide (v13 < (v10.2.2.length:Int))) then
  gd (ix v13 v10.2.2.length/\in64 ((v10.2.2.length:Int)-1)/\(v14.length+[(v8,v13,v10.2.2.getD v13.toNat 0,v13==(v10.2.2.length:Int)-1)].length<=9223372036854775807/\(v14.length+[(v8,v13,v10.2.2.getD v13.toNat 0,v13==(v10.2.2.length:Int)-1)].length)*32<=140737488355328)/\True)<|lt ((v14++[(v8,v13,v10.2.2.getD v13.toNat 0,v13==(v10.2.2.length:Int)-1)],[(v8,v13,v10.2.2.getD v13.toNat 0,v13==(v10.2.2.length:Int)-1)])) fun(v15,_) =>
  gd (in64 (v13+1)/\True) <|
  g3 (v13+1,v15)
 else
  u47J2 v8 g1 v14
def u47L1(a0:Y48)(g1:Int×List Y96->Option (List Y96)):Int×List Y96->Option (List Y96)
 | (v8,v9) =>
 if(decide (v8 < (a0.1.length:Int))) then
  gd (ix v8 a0.1.length/\True)<|lt (a0.1.getD v8.toNat (dflt y94)) fun v10 =>
  lp (u47L3 v8 v10 g1) (0,v9)
 else
  u47J0 a0 v9
def u47(a0:Y48):Option (List Y96) :=
 lp (u47L1 a0) (0,[])
def k47:Ct:=lct 47 [.agg y48] (fun x=>u47 x.1) (fun r:List Y96=>AV.ow 96 true y96 r) (fun _=>())
theorem o47:Ok prog k47:=by
 refine okM [.tmp 2] func47 ?_;intro y ⟨a0,_⟩ r H Q hn hr;refine iA [1]<|iA [1,3]<|jN r (fun(v18:List Y96)=>Z [p 1 (R 1),p 3 (O 8)] [(8,A 96 y96 v18 0),(1,K 48 y48 a0)]) (u47J0 a0) (fun v18 H=>?_) (fun _ n0 e0 t0=>?_)
 ·refine jN r (fun(v25:List Y96)=>Z [p 3 (O 8)] [(8,A 96 y96 v25 0)]) (u47J4) (fun v25 H=>?_) (fun _ n4 e4 t4=>?_)
  ·refine iA [2]<|vTT<|hr H
  refine iA [1,3,7]<|vB<|lX (fun((v21,v22):Int×List Y96)=>Z [p 1 (R 1),p 3 (O 8),p 7 (I v21)] [(8,A 96 y96 v22 0),(1,K 48 y48 a0)]) (0,v18) H fun _ g5 b5 e5 t5 ⟨v21,v22⟩ H=>vQ<|iA [1,3,7,47]<|cD H (fun H=>?_) (fun H=>?_)
  ·refine vK<|fQ<|vQ<|vB<|zD (fun(v23,v24)=>Z [p 1 (R 1),p 3 (AV.os 8 1),p 7 (I v21)] [(8,A 96 y96 v23 1),(66,A 96 y96 v24 0),(1,K 48 y48 a0)]) H fun⟨v23,v24⟩ H =>
    fK<|fQ <|
    jB [1,3,7] H fun H =>
    b5 H
  exact vE<|fE<|e5<|fX rfl<|n4 H
 refine iA [1,3,4]<|vB<|lX (fun((v8,v9):Int×List Y96)=>Z [p 1 (R 1),p 3 (O 8),p 4 (I v8)] [(8,A 96 y96 v9 0),(1,K 48 y48 a0)]) (0,[]) H fun _ g1 b1 e1 t1 ⟨v8,v9⟩ H=>vQ<|iA [1,3,4,13]<|cD H (fun H=>?_) (fun H=>?_)
 ·refine vK<|fQ<|jN r (fun(v17:List Y96)=>Z [p 1 (R 1),p 3 (O 8),p 4 (I v8)] [(8,A 96 y96 v17 0),(1,K 48 y48 a0)]) (u47J2 v8 g1) (fun v17 H=>?_) (fun _ n2 e2 t2=>?_)
  ·refine jB [1,3,4] H fun H=>b1 H
  refine vB<|qD (fun v10=>Z [p 1 (R 1),p 3 (O 8),p 4 (I v8),p 5 (L i64 v10.2.2)] [(8,A 96 y96 v9 0),(1,K 48 y48 a0)]) H fun v10 H=>iA [1,3,4,5,6]<|vB<|lX (fun((v13,v14):Int×List Y96)=>Z [p 1 (R 1),p 3 (O 8),p 4 (I v8),p 5 (L i64 v10.2.2),p 6 (I v13)] [(8,A 96 y96 v14 0),(1,K 48 y48 a0)]) (0,v9) H fun _ g3 b3 e3 t3 ⟨v13,v14⟩ H=>vQ<|iA [1,3,4,5,6,25]<|cD H (fun H=>?_) (fun H=>?_)
  ·refine vK<|fQ<|vQ<|vB<|zD (fun(v15,v16)=>Z [p 1 (R 1),p 3 (AV.os 8 1),p 4 (I v8),p 5 (L i64 v10.2.2),p 6 (I v13)] [(8,A 96 y96 v15 1),(41,A 96 y96 v16 0),(1,K 48 y48 a0)]) H fun⟨v15,v16⟩ H =>
    fK<|fQ <|
    jB [1,3,4,5,6] H fun H =>
    b3 H
  exact vE<|fE<|e3<|fX rfl<|fK<|n2 H
 exact vE<|fE<|e1<|fX rfl<|n0 H
def u22(a0:Y51)(a1:Y55):Option (List Int) :=
 gd ((u47 a0.2.1).isSome/\True)<|lt (vl (u47 a0.2.1)) fun v0 =>
 if(a1.1==1) then
  gd (ix a1.2.1 v0.length/\a1.2.1.toNat<v0.length/\ix (v0.getD a1.2.1.toNat (dflt y96)).1 a0.2.1.1.length/\True)<|lt (a0.2.1.1.getD (v0.getD a1.2.1.toNat (dflt y96)).1.toNat (dflt y94)) fun v1 =>
  some v1.2.2
 else
  if(a1.1==2) then
   gd (ix a1.2.1 v0.length/\a1.2.1.toNat<v0.length/\True)<|lt ([(v0.getD a1.2.1.toNat (dflt y96)).2.2.1,(a0.2.2.length:Int)]) fun v2 =>
   some v2
  else
   if(a1.1==3) then
    gd (in64 ((a0.2.1.1.length:Int)-1)/\ix ((a0.2.1.1.length:Int)-1) a0.2.1.1.length/\ix 0 (a0.2.1.1.getD ((a0.2.1.1.length:Int)-1).toNat (dflt y94)).2.2.length/\True)<|lt ([(a0.2.1.1.getD ((a0.2.1.1.length:Int)-(1:Int)).toNat (dflt y94)).2.2.getD (Int.toNat (0:Int)) (0:Int)]) fun v3 =>
    some v3
   else
    if(a1.1==4) then
     gd (ix a1.2.1 v0.length/\a1.2.1.toNat<v0.length/\True)<|lt ([(v0.getD a1.2.1.toNat (dflt y96)).2.2.1,a1.2.2.2.1]) fun v4 =>
     some v4
    else
     some [a1.2.2.2.1]
def k22:Ct:=lct 22 [.agg y51,.agg y55] (fun x=>u22 x.1 x.2.1) (fun r:List Int=>L i64 r) (fun _=>())
theorem o22:Ok prog k22:=by
 refine okM [.tmp 4] func22 ?_;intro y ⟨a0,a1,_⟩ r H Q hn hr;have:=hz (tc o47 tn);refine iA [2,3]<|iD o47 [2,3,5] H fun v0 H=>vQ<|iA [2,3,5,10]<|vB<|iA [2,3,5,10,11]<|cD H (fun H=>qD (fun v1=>Z [p 4 (L i64 v1.2.2)] [(8,A 96 y96 v0 0),(3,K 55 y55 a1),(2,K 51 y51 a0)]) H fun v1 H=>vTT<|fDD<|fR<|hr H) fun H=>iA [2,3,5,10,25]<|cD H (fun H=>qD (fun v2=>Z [p 4 (O 36)] [(36,A 2 i64 v2 0),(8,A 96 y96 v0 0),(3,K 55 y55 a1),(2,K 51 y51 a0)]) H fun v2 H=>vTT<|fDD<|fR<|hr H) fun H=>iA [2,3,5,10,37]<|cD H (fun H=>qD (fun v3=>Z [p 4 (O 52)] [(52,A 2 i64 v3 0),(8,A 96 y96 v0 0),(3,K 55 y55 a1),(2,K 51 y51 a0)]) H fun v3 H=>vTT<|fDD<|fR<|hr H) fun H=>iA [3,5,53]<|cD H (fun H=>qD (fun v4=>Z [p 4 (O 63)] [(63,A 2 i64 v4 0),(8,A 96 y96 v0 0),(3,K 55 y55 a1),(2,K 51 y51 a0)]) H fun v4 H=>vTT<|fDD<|fR<|hr H) fun H=>vK<|fK<|fQ<|iA [4]<|vTT<|hr H
def u74(a0:Int)(a1:Int)(a2:Int):Option Bool :=
 some (decide (a1<=a0)&&decide (a0<=a2))
def k74:Ct:=lct 74 [.dat i64,.dat i64,.dat i64] (fun x=>u74 x.1 x.2.1 x.2.2.1) (fun r:Bool=>B r) (fun _=>())
theorem o74:Ok prog k74:=by
 refine okM [.tmp 6] func74 ?_;intro y ⟨_,_,_,_⟩ r H Q hn hr;refine iA [0,1,2]<|iA [6]<|vTT<|hr H
def u72J2:Unit->Option Bool
 | _ =>
 some true
def u72L3(a0:Y53)(g3:Int->Option Bool):Int->Option Bool
 | v1 =>
 if(decide (v1 < (a0.2.2.2.length:Int))) then
  gd (ix v1 a0.2.2.2.length/\in64 ((a0.1.length:Int)-1)/\(u74 (a0.2.2.2.getD v1.toNat 0) 0 ((a0.1.length:Int)-1)).isSome/\True) <|
  if(!vl (u74 (a0.2.2.2.getD v1.toNat 0) 0 ((a0.1.length:Int)-1))) then
   some false
  else
   gd (in64 (v1+1)/\True) <|
   g3 (v1+1)
 else
  u72J2 ()
def u72J0(a0:Y53):Unit->Option Bool
 | _ =>
 lp (u72L3 a0) 0
def u72L1(a0:Y53)(g1:Int->Option Bool):Int->Option Bool
 | v0 =>
 if(decide (v0 < (a0.1.length:Int))) then
  gd (ix v0 a0.2.2.1.length/\(u74 (a0.2.2.1.getD v0.toNat 0) 0 500).isSome/\((!vl (u74 (a0.2.2.1.getD v0.toNat 0) 0 500))=false/\True->ix v0 a0.2.1.length)/\((!vl (u74 (a0.2.2.1.getD v0.toNat 0) 0 500))=false/\True->(u74 (a0.2.1.getD v0.toNat 0) 0 1000).isSome)/\True) <|
  if(!vl (u74 (a0.2.2.1.getD v0.toNat 0) 0 500)||!vl (u74 (a0.2.1.getD v0.toNat 0) 0 1000)) then
   some false
  else
   gd (((v0==0)=true/\True->ix v0 a0.1.length)/\((a0.1.getD v0.toNat 0 != -1)=false/\(v0==0)=true/\True->ix v0 a0.2.1.length)/\(decide (0<v0)=true/\(v0==0&&(a0.1.getD v0.toNat 0 != -1||a0.2.1.getD v0.toNat 0 != 0))=false/\True->ix v0 a0.1.length)/\(decide (0<v0)=true/\(v0==0&&(a0.1.getD v0.toNat 0 != -1||a0.2.1.getD v0.toNat 0 != 0))=false/\True->in64 (v0-1))/\(decide (0<v0)=true/\(v0==0&&(a0.1.getD v0.toNat 0 != -1||a0.2.1.getD v0.toNat 0 != 0))=false/\True->(u74 (a0.1.getD v0.toNat 0) 0 (v0-1)).isSome)/\True) <|
   if(v0==0&&(a0.1.getD v0.toNat 0 != -1||a0.2.1.getD v0.toNat 0 != 0)||decide (0<v0)&&!vl (u74 (a0.1.getD v0.toNat 0) 0 (v0-1))) then
    some false
   else
    gd (in64 (v0+1)/\True) <|
    g1 (v0+1)
 else
  u72J0 a0 ()
def u72(a0:Y53)(a1:Int):Option Bool :=
 if(decide ((a0.1.length:Int)<1)||decide (8 < (a0.1.length:Int))||(a0.2.1.length:Int) != (a0.1.length:Int)||(a0.2.2.1.length:Int) != (a0.1.length:Int)||(a0.2.2.2.length:Int) != a1) then
  some false
 else
  lp (u72L1 a0) 0
def k72:Ct:=lct 72 [.agg y53,.dat i64] (fun x=>u72 x.1 x.2.1) (fun r:Bool=>B r) (fun _=>())
theorem o72:Ok prog k72:=by
 refine okM [.tmp 4] func72 ?_;intro y ⟨a0,_,_⟩ r H Q hn hr;have:=hz (tc o74 tn);refine iA [1,2]<|iA [1,2,5]<|vQ<|iA [2,5,37]<|cD H (fun H=>iA [4]<|vTT<|fR<|hr H) fun H=>vK<|fQ<|jN r (fun(_:Unit)=>Z [p 2 (R 2),p 5 (I (a0.1.length:Int))] [(2,K 53 y53 a0)]) (u72J0 a0) (fun _ H=>?_) (fun _ n0 e0 t0=>?_)
 ·refine jN r (fun(_:Unit)=>Z [] []) (u72J2) (fun _ H=>?_) (fun _ n2 e2 t2=>?_)
  ·refine iA [4]<|vTT<|hr H
  refine iA [2,5,7]<|vB<|lX (fun(v1:Int)=>Z [p 2 (R 2),p 5 (I (a0.1.length:Int)),p 7 (I v1)] [(2,K 53 y53 a0)]) 0 H fun _ g3 b3 e3 t3 v1 H=>vQ<|iA [2,5,7,96]<|cD H (fun H=>?_) (fun H=>?_)
  ·refine vK<|fQ<|vQ<|vB<|iB [2,5,7,107] H fun H=>cD H (fun H=>iA [4]<|vTT<|fDD<|fR<|t3<|fDD<|t2<|hr H) fun H=>vK<|fK<|fQ<|jB [2,5,7] H fun H=>b3 H
  exact vE<|fE<|e3<|fX rfl<|n2 H
 refine iA [2,5,6]<|vB<|lX (fun(v0:Int)=>Z [p 2 (R 2),p 5 (I (a0.1.length:Int)),p 6 (I v0)] [(2,K 53 y53 a0)]) 0 H fun _ g1 b1 e1 t1 v0 H=>vQ<|iA [2,5,6,40]<|cD H (fun H=>?_) (fun H=>?_)
 ·refine vK<|fQ<|vQ<|vB<|vQ<|iB [2,5,6,58] H fun H=>cD H (fun H=>iA [4]<|vTT<|fR<|fDD<|fR<|t1<|fDD<|t0<|hr H) fun H=>vK<|fQ<|iB [2,5,6,91] H fun H=>cD H (fun H=>iA [4]<|vTT<|fDD<|fR<|t1<|fDD<|t0<|hr H) fun H=>vK<|fK<|fQ<|jB [2,5,6] H fun H=>b1 H
 exact vE<|fE<|e1<|fX rfl<|n0 H
def u73J0:List Int->Option (List Int)
 | v5 =>
 some v5
def u73J2(v2:Int)(g1:Int×List Int->Option (List Int)):List Int->Option (List Int)
 | v4 =>
 gd (in64 (v2+1)/\True) <|
 g1 (v2+1,v4)
def u73L1(v0:List Y96)(a1:Int)(g1:Int×List Int->Option (List Int)):Int×List Int->Option (List Int)
 | (v2,v3) =>
 if(decide (v2 < (v0.length:Int))) then
  gd (ix v2 v0.length/\v2.toNat<v0.length/\(((v0.getD v2.toNat (dflt y96)).2.2.1==a1)=true/\True->ix v2 v0.length)/\(((v0.getD v2.toNat (dflt y96)).2.2.1==a1)=true/\True->v2.toNat<v0.length)/\True) <|
  if((v0.getD v2.toNat (dflt y96)).2.2.1==a1&&!(v0.getD v2.toNat (dflt y96)).2.2.2) then
   gd ((v3.length+[v2].length<=9223372036854775807/\(v3.length+[v2].length)*8<=140737488355328)/\True) <|
   u73J2 v2 g1 (v3++[v2])
  else
   u73J2 v2 g1 v3
 else
  u73J0 v3
def u73(a0:Y48)(a1:Int):Option (List Int) :=
 gd ((u47 a0).isSome/\True)<|lt (vl (u47 a0)) fun v0 =>
 lp (u73L1 v0 a1) (0,[])
def k73:Ct:=lct 73 [.agg y48,.dat i64] (fun x=>u73 x.1 x.2.1) (fun r:List Int=>AV.ow 2 true i64 r) (fun _=>())
theorem o73:Ok prog k73:=by
 refine okM [.tmp 4] func73 ?_;intro y ⟨_,a1,_⟩ r H Q hn hr;have:=hz (tc o47 tn);refine iA [1,2]<|iA [1,2,5]<|iD o47 [1,5,6] H fun v0 H=>jN r (fun(v5:List Int)=>Z [p 5 (O 8)] [(8,A 2 i64 v5 0)]) (u73J0) (fun v5 H=>?_) (fun _ n0 e0 t0=>?_)
 ·refine iA [4]<|vTT<|hr H
 refine iA [1,5,6,7]<|vB<|lX (fun((v2,v3):Int×List Int)=>Z [p 1 (J a1),p 5 (O 8),p 6 (O 10),p 7 (I v2)] [(10,A 96 y96 v0 0),(8,A 2 i64 v3 0)]) (0,[]) H fun _ g1 b1 e1 t1 ⟨v2,v3⟩ H=>vQ<|iA [1,5,6,7,14]<|cD H (fun H=>?_) (fun H=>?_)
 ·refine vK<|fQ<|jN r (fun(v4:List Int)=>Z [p 1 (J a1),p 5 (O 8),p 6 (O 10),p 7 (I v2)] [(8,A 2 i64 v4 0),(10,A 96 y96 v0 0)]) (u73J2 v2 g1) (fun v4 H=>?_) (fun _ n2 e2 t2=>?_)
  ·refine jB [1,5,6,7] H fun H=>b1 H
  refine vB<|iB [1,5,6,7,31] H fun H=>cD H (fun H=>jB [1,5,6,7] H fun H=>fK<|n2 H) fun H=>vK<|fK<|n2 H
 exact vE<|fE<|e1<|fX rfl<|n0 H
def u102(a0:Y53):Option Bool :=
 gd ((((a0.1.length:Int)==1)=true/\True->ix 0 a0.2.2.1.length)/\True) <|
 some ((a0.1.length:Int)==(1:Int)&&a0.2.2.1.getD (Int.toNat (0:Int)) (0:Int)==(0:Int))
def k102:Ct:=lct 102 [.agg y53] (fun x=>u102 x.1) (fun r:Bool=>B r) (fun _=>())
theorem o102:Ok prog k102:=by
 refine okM [.tmp 2] func102 ?_;intro y ⟨_,_⟩ r H Q hn hr;refine iA [1]<|iB [2] H fun H=>vTT<|hr H
def u76(a0:Y134):Option Bool :=
 some (a0.2.1==1&&(a0.2.2.1.length:Int)==2)
def k76:Ct:=lct 76 [.agg y134] (fun x=>u76 x.1) (fun r:Bool=>B r) (fun _=>())
theorem o76:Ok prog k76:=by
 refine okM [.tmp 2] func76 ?_;intro y ⟨_,_⟩ r H Q hn hr;refine iA [1]<|iA [2]<|vTT<|hr H
def u80(a0:Y51):Option Bool :=
 gd (in64 ((a0.2.1.1.length:Int)-1)/\True) <|
 gd (in64 ((a0.2.2.length:Int)-1)/\True) <|
 if(decide ((a0.2.1.1.length:Int)-1<0)) then
  some false
 else
  gd (ix ((a0.2.1.1.length:Int)-1) a0.2.1.1.length/\True)<|lt (a0.2.1.1.getD ((a0.2.1.1.length:Int)-1).toNat (dflt y94)) fun v0 =>
  gd (ix v0.2.1 a0.1.length/\(u76 (a0.1.getD v0.2.1.toNat (dflt y134))).isSome/\((!vl (u76 (a0.1.getD v0.2.1.toNat (dflt y134))))=false/\True->ix (1:Int) v0.2.2.length)/\((!vl (u76 (a0.1.getD v0.2.1.toNat (dflt y134)))||v0.2.2.getD (Int.toNat (1:Int)) (0:Int) != (a0.2.2.length:Int)-(1:Int))=false/\True->ix ((a0.2.2.length:Int)-(1:Int)) a0.2.1.2.1.length)/\((!vl (u76 (a0.1.getD v0.2.1.toNat (dflt y134)))||v0.2.2.getD (Int.toNat (1:Int)) (0:Int) != (a0.2.2.length:Int)-(1:Int)||!decide (a0.2.1.2.1.getD ((a0.2.2.length:Int)-(1:Int)).toNat (dflt Ty.str)=v0.1))=false/\True->ix (0:Int) v0.2.2.length)/\True)<|lt (!vl (u76 (a0.1.getD v0.2.1.toNat (dflt y134)))||v0.2.2.getD (Int.toNat (1:Int)) (0:Int) != (a0.2.2.length:Int)-(1:Int)||!decide (a0.2.1.2.1.getD ((a0.2.2.length:Int)-(1:Int)).toNat (dflt Ty.str)=v0.1)||v0.2.2.getD (Int.toNat (0:Int)) (0:Int)==(a0.2.2.length:Int)-(1:Int)) fun v1 =>
  if v1 then
   some false
  else
   gd ((u73 a0.2.1 ((a0.2.2.length:Int)-1)).isSome/\(((↑(vl (u73 a0.2.1 ((a0.2.2.length:Int)-1))).length:Int)==1)=true/\True->ix ((a0.2.2.length:Int)-1) a0.2.2.length)/\(((↑(vl (u73 a0.2.1 ((a0.2.2.length:Int)-1))).length:Int)==1)=true/\True->(u102 (a0.2.2.getD ((a0.2.2.length:Int)-1).toNat (dflt y53))).isSome)/\True)<|lt (vl (u73 a0.2.1 ((a0.2.2.length:Int)-1))) fun v2 =>
   some ((v2.length:Int)==1&&vl (u102 (a0.2.2.getD ((a0.2.2.length:Int)-1).toNat (dflt y53))))
def k80:Ct:=lct 80 [.agg y51] (fun x=>u80 x.1) (fun r:Bool=>B r) (fun _=>())
theorem o80:Ok prog k80:=by
 refine okM [.tmp 2] func80 ?_;intro y ⟨a0,_⟩ r H Q hn hr;have:=hz (tc o102 (tc o73 (tc o76 tn)));refine iA [1]<|iB [1,3] H fun H=>iB [1,3,4] H fun H=>vQ<|iA [1,3,4,16]<|cD H (fun H=>iA [2]<|vTT<|fR<|hr H) fun H=>vK<|fQ<|qD (fun v0=>Z [p 1 (R 1),p 4 (I ((a0.2.2.length:Int)-1)),p 5 (R 5)] [(5,K 94 y94 v0),(1,K 51 y51 a0)]) H fun v0 H=>vQ<|qD (fun v1=>Z [p 1 (R 1),p 4 (I ((a0.2.2.length:Int)-1)),p 58 (B v1)] [(5,K 94 y94 v0),(1,K 51 y51 a0)]) H fun v1 H=>cD H (fun H=>iA [2]<|vTT<|fR<|hr H) fun H=>vK<|fQ<|iD o73 [2] H fun _ H=>vTT<|hr H
def u101J0:Unit->Option Int
 | _ =>
 some (-1)
def u101L1(a0:List ByteArray)(a1:ByteArray)(g1:Int->Option Int):Int->Option Int
 | v0 =>
 if(decide (v0 < (a0.length:Int))) then
  gd (ix v0 a0.length/\True) <|
  if(decide (a0.getD v0.toNat (dflt Ty.str)=a1)) then
   some v0
  else
   gd (in64 (v0+1)/\True) <|
   g1 (v0+1)
 else
  u101J0 ()
def u101(a0:List ByteArray)(a1:ByteArray):Option Int :=
 lp (u101L1 a0 a1) 0
def k101:Ct:=lct 101 [.dat Ty.str.sl,.dat Ty.str] (fun x=>u101 x.1 x.2.1) (fun r:Int=>I r) (fun _=>())
theorem o101:Ok prog k101:=by
 refine okM [.tmp 4] func101 ?_;intro y ⟨a0,a1,_⟩ r H Q hn hr;refine iA [0,1]<|jN r (fun(_:Unit)=>Z [] []) (u101J0) (fun _ H=>?_) (fun _ n0 e0 t0=>?_)
 ·refine iA [4]<|vTT<|hr H
 refine iA [0,1,5]<|vB<|lX (fun(v0:Int)=>Z [p 0 (L Ty.str a0),p 1 (U a1),p 5 (I v0)] []) 0 H fun _ g1 b1 e1 t1 v0 H=>vQ<|iA [0,1,5,9]<|cD H (fun H=>?_) (fun H=>?_)
 ·refine vK<|fQ<|vQ<|vB<|iB [0,1,5,17] H fun H=>cD H (fun H=>iA [4]<|vTT<|fDD<|fR<|t1<|fDD<|t0<|hr H) fun H=>vK<|fK<|fQ<|jB [0,1,5] H fun H=>b1 H
 exact vE<|fE<|e1<|fX rfl<|n0 H
def u79(a0:Y48)(a1:ByteArray):Option Int :=
 gd ((u101 a0.2.1 a1).isSome/\True)<|lt (vl (u101 a0.2.1 a1)) fun v0 =>
 some v0
def k79:Ct:=lct 79 [.agg y48,.dat Ty.str] (fun x=>u79 x.1 x.2.1) (fun r:Int=>I r) (fun _=>())
theorem o79:Ok prog k79:=by
 refine okM [.tmp 4] func79 ?_;intro y ⟨_,_,_⟩ r H Q hn hr;have:=hz (tc o101 tn);refine iA [1,2]<|iD o101 [4] H fun _ H=>vTT<|hr H
def u78J0:Unit->Option Int
 | _ =>
 some (-1)
def u78L1(a0:Y48)(a1:ByteArray)(g1:Int->Option Int):Int->Option Int
 | v0 =>
 if(decide (v0 < (a0.1.length:Int))) then
  gd (ix v0 a0.1.length/\True) <|
  if(decide ((a0.1.getD v0.toNat (dflt y94)).1=a1)) then
   some v0
  else
   gd (in64 (v0+1)/\True) <|
   g1 (v0+1)
 else
  u78J0 ()
def u78(a0:Y48)(a1:ByteArray):Option Int :=
 lp (u78L1 a0 a1) 0
def k78:Ct:=lct 78 [.agg y48,.dat Ty.str] (fun x=>u78 x.1 x.2.1) (fun r:Int=>I r) (fun _=>())
theorem o78:Ok prog k78:=by
 refine okM [.tmp 4] func78 ?_;intro y ⟨a0,a1,_⟩ r H Q hn hr;refine iA [1,2]<|jN r (fun(_:Unit)=>Z [] []) (u78J0) (fun _ H=>?_) (fun _ n0 e0 t0=>?_)
 ·refine iA [4]<|vTT<|hr H
 refine iA [1,2,5]<|vB<|lX (fun(v0:Int)=>Z [p 1 (U a1),p 2 (R 2),p 5 (I v0)] [(2,K 48 y48 a0)]) 0 H fun _ g1 b1 e1 t1 v0 H=>vQ<|iA [1,2,5,10]<|cD H (fun H=>?_) (fun H=>?_)
 ·refine vK<|fQ<|vQ<|vB<|iB [1,2,5,20] H fun H=>cD H (fun H=>iA [4]<|vTT<|fDD<|fR<|t1<|fDD<|t0<|hr H) fun H=>vK<|fK<|fQ<|jB [1,2,5] H fun H=>b1 H
 exact vE<|fE<|e1<|fX rfl<|n0 H
def u77J0(a0:ByteArray):Unit->Option Bool
 | _ =>
 some (decide (1<=(a0.size:Int))&&decide ((a0.size:Int)<=8))
def u77L1(a0:ByteArray)(g1:Int->Option Bool):Int->Option Bool
 | v0 =>
 if(decide (v0 < (a0.size:Int))) then
  gd (ix v0 a0.size/\(decide (97<=byteAt a0 v0.toNat)=true/\True->ix v0 a0.size)/\True) <|
  gd (ix v0 a0.size/\(decide (48<=byteAt a0 v0.toNat)=true/\True->ix v0 a0.size)/\True) <|
  if(!(decide (97<=byteAt a0 v0.toNat)&&decide (byteAt a0 v0.toNat<=122))&&!(decide (48<=byteAt a0 v0.toNat)&&decide (byteAt a0 v0.toNat<=57)&&decide (0<v0))) then
   some false
  else
   gd (in64 (v0+1)/\True) <|
   g1 (v0+1)
 else
  u77J0 a0 ()
def u77(a0:ByteArray):Option Bool :=
 lp (u77L1 a0) 0
def k77:Ct:=lct 77 [.dat Ty.str] (fun x=>u77 x.1) (fun r:Bool=>B r) (fun _=>())
theorem o77:Ok prog k77:=by
 refine okM [.tmp 2] func77 ?_;intro y ⟨a0,_⟩ r H Q hn hr;refine iA [0]<|jN r (fun(_:Unit)=>Z [p 0 (U a0)] []) (u77J0 a0) (fun _ H=>?_) (fun _ n0 e0 t0=>?_)
 ·refine iA [2]<|vTT<|hr H
 refine iA [0,3]<|vB<|lX (fun(v0:Int)=>Z [p 0 (U a0),p 3 (I v0)] []) 0 H fun _ g1 b1 e1 t1 v0 H=>vQ<|iA [0,3,9]<|cD H (fun H=>?_) (fun H=>?_)
 ·refine vK<|fQ<|vQ<|vB<|iB [0,3,4] H fun H=>iB [0,3,4,5] H fun H=>iA [0,3,41]<|cD H (fun H=>iA [2]<|vTT<|fDD<|fR<|t1<|fDD<|t0<|hr H) fun H=>vK<|fK<|fQ<|jB [0,3] H fun H=>b1 H
 exact vE<|fE<|e1<|fX rfl<|n0 H
def u75J0:Unit->Option Bool
 | _ =>
 some true
def u75L1(a0:Y134)(a1:Y134)(g1:Int->Option Bool):Int->Option Bool
 | v0 =>
 if(decide (v0 < (a0.2.2.1.length:Int))) then
  gd (ix v0 a0.2.2.1.length/\ix v0 a1.2.2.1.length/\True) <|
  if(!(a0.2.2.1.getD v0.toNat (dflt y155)).2.2.2==(a1.2.2.1.getD v0.toNat (dflt y155)).2.2.2) then
   some false
  else
   gd (in64 (v0+1)/\True) <|
   g1 (v0+1)
 else
  u75J0 ()
def u75(a0:Y134)(a1:Y134):Option Bool :=
 if(a0.2.1 != a1.2.1||(a0.2.2.1.length:Int) != (a1.2.2.1.length:Int)) then
  some false
 else
  lp (u75L1 a0 a1) 0
def k75:Ct:=lct 75 [.agg y134,.agg y134] (fun x=>u75 x.1 x.2.1) (fun r:Bool=>B r) (fun _=>())
theorem o75:Ok prog k75:=by
 refine okM [.tmp 4] func75 ?_;intro y ⟨a0,a1,_⟩ r H Q hn hr;refine iA [2,3]<|vQ<|iA [2,3,19]<|cD H (fun H=>iA [4]<|vTT<|fR<|hr H) fun H=>vK<|fQ<|jN r (fun(_:Unit)=>Z [] []) (u75J0) (fun _ H=>?_) (fun _ n0 e0 t0=>?_)
 ·refine iA [4]<|vTT<|hr H
 refine iA [2,3,5]<|vB<|lX (fun(v0:Int)=>Z (G0 [p 5 (I v0)]) [(3,K 134 y134 a1),(2,K 134 y134 a0)]) 0 H fun _ g1 b1 e1 t1 v0 H=>vQ<|iA [2,3,5,24]<|cD H (fun H=>?_) (fun H=>?_)
 ·refine vK<|fQ<|vQ<|vB<|iB [2,3,5,39] H fun H=>cD H (fun H=>iA [4]<|vTT<|fDD<|fR<|t1<|fDD<|t0<|hr H) fun H=>vK<|fK<|fQ<|jB [2,3,5] H fun H=>b1 H
 exact vE<|fE<|e1<|fX rfl<|n0 H
def u46(a0:Y51)(a1:Y55):Option Bool :=
 gd ((u47 a0.2.1).isSome/\True)<|lt (vl (u47 a0.2.1)) fun v0 =>
 if(a1.1==1) then
  gd (ix a1.2.1 v0.length/\a1.2.1.toNat<v0.length/\True)<|lt (v0.getD a1.2.1.toNat (dflt y96)) fun v1 =>
  gd (((decide (0<=v1.1)&&v1.2.2.2)=true/\True->ix v1.1 a0.2.1.1.length)/\((decide (0<=v1.1)&&v1.2.2.2)=true/\True->ix (a0.2.1.1.getD v1.1.toNat (dflt y94)).2.1 a0.1.length)/\((decide (0<=v1.1)&&v1.2.2.2)=true/\True->ix a1.2.2.1 a0.1.length)/\((decide (0<=v1.1)&&v1.2.2.2)=true/\True->(u75 (a0.1.getD (a0.2.1.1.getD v1.1.toNat (dflt y94)).2.1.toNat (dflt y134)) (a0.1.getD a1.2.2.1.toNat (dflt y134))).isSome)/\True) <|
  some (decide (0<=v1.1)&&v1.2.2.2&&vl (u75 (a0.1.getD (a0.2.1.1.getD v1.1.toNat (dflt y94)).2.1.toNat (dflt y134)) (a0.1.getD a1.2.2.1.toNat (dflt y134))))
 else
  if(a1.1==2) then
   gd (ix a1.2.1 v0.length/\a1.2.1.toNat<v0.length/\((!(v0.getD a1.2.1.toNat (dflt y96)).2.2.2)=true/\True->ix a1.2.2.1 a0.1.length)/\((!(v0.getD a1.2.1.toNat (dflt y96)).2.2.2)=true/\True->(u76 (a0.1.getD a1.2.2.1.toNat (dflt y134))).isSome)/\((!(v0.getD a1.2.1.toNat (dflt y96)).2.2.2&&vl (u76 (a0.1.getD a1.2.2.1.toNat (dflt y134))))=true/\True->(u77 a1.2.2.2.2.2.1).isSome)/\((!(v0.getD a1.2.1.toNat (dflt y96)).2.2.2&&vl (u76 (a0.1.getD a1.2.2.1.toNat (dflt y134)))&&vl (u77 a1.2.2.2.2.2.1))=true/\True->(u78 a0.2.1 a1.2.2.2.2.2.1).isSome)/\((!(v0.getD a1.2.1.toNat (dflt y96)).2.2.2&&vl (u76 (a0.1.getD a1.2.2.1.toNat (dflt y134)))&&vl (u77 a1.2.2.2.2.2.1)&&decide (vl (u78 a0.2.1 a1.2.2.2.2.2.1)<0))=true/\True->(u79 a0.2.1 a1.2.2.2.2.2.1).isSome)/\True)<|lt ((vl (u78 a0.2.1 a1.2.2.2.2.2.1),vl (u79 a0.2.1 a1.2.2.2.2.2.1))) fun(v2,v3) =>
   some (!(v0.getD a1.2.1.toNat (dflt y96)).2.2.2&&vl (u76 (a0.1.getD a1.2.2.1.toNat (dflt y134)))&&vl (u77 a1.2.2.2.2.2.1)&&decide (v2<0)&&decide (v3<0))
  else
   if(a1.1==3) then
    gd ((u80 a0).isSome/\True) <|
    some (vl (u80 a0))
   else
    if(a1.1==4) then
     gd (ix a1.2.1 v0.length/\a1.2.1.toNat<v0.length/\((!(v0.getD a1.2.1.toNat (dflt y96)).2.2.2)=true/\True->ix a1.2.1 v0.length)/\((!(v0.getD a1.2.1.toNat (dflt y96)).2.2.2)=true/\True->a1.2.1.toNat<v0.length)/\True) <|
     some (!(v0.getD a1.2.1.toNat (dflt y96)).2.2.2&&(v0.getD a1.2.1.toNat (dflt y96)).2.2.1 != a1.2.2.2.1)
    else
     gd ((u73 a0.2.1 a1.2.2.2.1).isSome/\(u72 a1.2.2.2.2.2.2 (↑(vl (u73 a0.2.1 a1.2.2.2.1)).length:Int)).isSome/\True)<|lt (vl (u73 a0.2.1 a1.2.2.2.1)) fun v4 =>
     some (vl (u72 a1.2.2.2.2.2.2 (v4.length:Int)))
def k46:Ct:=lct 46 [.agg y51,.agg y55] (fun x=>u46 x.1 x.2.1) (fun r:Bool=>B r) (fun _=>())
theorem o46:Ok prog k46:=by
 refine okM [.tmp 4] func46 ?_;intro y ⟨a0,a1,_⟩ r H Q hn hr;have:=hz (tc o72 (tc o73 (tc o80 (tc o79 (tc o78 (tc o77 (tc o76 (tc o75 (tc o47 tn)))))))));refine iA [2,3]<|iD o47 [2,3,5] H fun v0 H=>vQ<|iA [2,3,5,11]<|vB<|iA [2,3,5,11,12]<|cD H (fun H=>qD (fun v1=>Z (G0 [p 6 (R 6)]) [(6,bx 96 (cellsD true y96 v1)),(9,A 96 y96 v0 0),(3,K 55 y55 a1),(2,K 51 y51 a0)]) H fun v1 H=>iB [4] H fun H=>vTT<|fDD<|fR<|hr H) fun H=>iA [2,3,5,11,49]<|cD H (fun H=>?_) (fun H=>?_)
 ·refine qD (fun(v2,v3)=>Z [p 4 (B (!(v0.getD a1.2.1.toNat (dflt y96)).2.2.2&&vl (u76 (a0.1.getD a1.2.2.1.toNat (dflt y134)))&&vl (u77 a1.2.2.2.2.2.1)&&decide (v2<0)&&decide (v3<0)))] [(9,A 96 y96 v0 0),(3,K 55 y55 a1),(2,K 51 y51 a0)]) H fun⟨v2,v3⟩ H =>
   vTT<|fDD<|fR<|hr H
 refine iA [2,3,5,11,89]<|cD H (fun H=>iB [4] H fun H=>vTT<|fDD<|fR<|hr H) fun H=>iA [2,3,5,93]<|cD H (fun H=>iB [4] H fun H=>vTT<|fDD<|fR<|hr H) fun H=>vK<|fK<|fQ<|iD o73 [4] H fun _ H=>vTT<|hr H
def u45J0(a1:Y55)(v0:List Y96)(a0:Y51):Bool->Option Bool
 | v1 =>
 if v1 then
  gd (in64 ((v0.length:Int)-1)/\(u74 a1.2.1 0 ((v0.length:Int)-1)).isSome/\(vl (u74 a1.2.1 0 ((v0.length:Int)-1))=true/\True->in64 ((a0.1.length:Int)-1))/\(vl (u74 a1.2.1 0 ((v0.length:Int)-1))=true/\True->(u74 a1.2.2.1 0 ((a0.1.length:Int)-1)).isSome)/\True) <|
  some (vl (u74 a1.2.1 0 ((v0.length:Int)-1))&&vl (u74 a1.2.2.1 0 ((a0.1.length:Int)-1)))
 else
  if(a1.1==4) then
   gd (in64 ((v0.length:Int)-1)/\(u74 a1.2.1 0 ((v0.length:Int)-1)).isSome/\(vl (u74 a1.2.1 0 ((v0.length:Int)-1))=true/\True->in64 ((a0.2.2.length:Int)-1))/\(vl (u74 a1.2.1 0 ((v0.length:Int)-1))=true/\True->(u74 a1.2.2.2.1 0 ((a0.2.2.length:Int)-1)).isSome)/\((vl (u74 a1.2.1 0 ((v0.length:Int)-1))&&vl (u74 a1.2.2.2.1 0 ((a0.2.2.length:Int)-1)))=true/\True->ix a1.2.2.2.1 a0.2.2.length)/\((vl (u74 a1.2.1 0 ((v0.length:Int)-1))&&vl (u74 a1.2.2.2.1 0 ((a0.2.2.length:Int)-1)))=true/\True->in64 ((↑(a0.2.2.getD a1.2.2.2.1.toNat (dflt y53)).1.length:Int)-1))/\((vl (u74 a1.2.1 0 ((v0.length:Int)-1))&&vl (u74 a1.2.2.2.1 0 ((a0.2.2.length:Int)-1)))=true/\True->(u74 a1.2.2.2.2.1 0 ((↑(a0.2.2.getD a1.2.2.2.1.toNat (dflt y53)).1.length:Int)-1)).isSome)/\True) <|
   some (vl (u74 a1.2.1 0 ((v0.length:Int)-1))&&vl (u74 a1.2.2.2.1 0 ((a0.2.2.length:Int)-1))&&vl (u74 a1.2.2.2.2.1 0 ((↑(a0.2.2.getD a1.2.2.2.1.toNat (dflt y53)).1.length:Int)-1)))
  else
   if(a1.1==5) then
    gd (in64 ((a0.2.2.length:Int)-1)/\(u74 a1.2.2.2.1 0 ((a0.2.2.length:Int)-1)).isSome/\True) <|
    some (vl (u74 a1.2.2.2.1 0 ((a0.2.2.length:Int)-1)))
   else
    some true
def u45(a0:Y51)(a1:Y55):Option Bool :=
 gd ((u47 a0.2.1).isSome/\True)<|lt (vl (u47 a0.2.1)) fun v0 =>
 if(a1.1==1) then
  u45J0 a1 v0 a0 (a1.1==1)
 else
  u45J0 a1 v0 a0 (a1.1==2)
def k45:Ct:=lct 45 [.agg y51,.agg y55] (fun x=>u45 x.1 x.2.1) (fun r:Bool=>B r) (fun _=>())
theorem o45:Ok prog k45:=by
 refine okM [.tmp 4] func45 ?_;intro y ⟨a0,a1,_⟩ r H Q hn hr;have:=hz (tc o74 (tc o47 tn));refine iA [2,3]<|iD o47 [2,3,5] H fun v0 H=>iA [2,3,5,6]<|iA [2,3,5,6,7]<|vQ<|iA [2,3,5,6,7,20]<|vB<|jN r (fun(v1:Bool)=>Z (G0 [p 5 (I (v0.length:Int)),p 6 (I (a0.1.length:Int)),p 7 (I (a0.2.2.length:Int)),p 20 (J a1.1),p 21 (B v1)]) [(3,K 55 y55 a1),(2,K 51 y51 a0)]) (u45J0 a1 v0 a0) (fun v1 H=>?_) (fun _ n0 e0 t0=>?_)
 ·refine cD H (fun H=>iB [4] H fun H=>vTT<|fDD<|fR<|hr H) fun H=>iA [2,3,5,7,20,36]<|cD H (fun H=>iB [4] H fun H=>vTT<|fDD<|fR<|hr H) fun H=>iA [3,7,64]<|cD H (fun H=>iB [4] H fun H=>vTT<|fDD<|fR<|hr H) fun H=>vK<|fK<|fQ<|iA [4]<|vTT<|hr H
 refine iA [2,3,5,6,7,20,21]<|cD H (fun H=>vK<|n0 H) fun H=>jA [2,3,5,6,7,20,21]<|n0 H
def u44(a0:Y55):Option Bool :=
 gd (in64 ((a0.2.2.2.2.2.2.1.length:Int)+(a0.2.2.2.2.2.2.2.1.length:Int))/\in64 ((a0.2.2.2.2.2.2.1.length:Int)+(a0.2.2.2.2.2.2.2.1.length:Int)+(a0.2.2.2.2.2.2.2.2.1.length:Int))/\in64 ((a0.2.2.2.2.2.2.1.length:Int)+(a0.2.2.2.2.2.2.2.1.length:Int)+(a0.2.2.2.2.2.2.2.2.1.length:Int)+(a0.2.2.2.2.2.2.2.2.2.length:Int))/\True) <|
 if(a0.1==1) then
  lt (a0.2.2.2.1==0&&a0.2.2.2.2.1==0&&decide (a0.2.2.2.2.2.1=ByteArray.mk #[])&&(a0.2.2.2.2.2.2.1.length:Int)+(a0.2.2.2.2.2.2.2.1.length:Int)+(a0.2.2.2.2.2.2.2.2.1.length:Int)+(a0.2.2.2.2.2.2.2.2.2.length:Int)==0) fun v0 =>
  some v0
 else
  if(a0.1==2) then
   some (a0.2.2.2.1==0&&a0.2.2.2.2.1==0&&(a0.2.2.2.2.2.2.1.length:Int)+(a0.2.2.2.2.2.2.2.1.length:Int)+(a0.2.2.2.2.2.2.2.2.1.length:Int)+(a0.2.2.2.2.2.2.2.2.2.length:Int)==0)
  else
   if(a0.1==3) then
    lt (a0.2.1==0&&a0.2.2.1==0&&a0.2.2.2.1==0&&a0.2.2.2.2.1==0&&decide (a0.2.2.2.2.2.1=ByteArray.mk #[])&&(a0.2.2.2.2.2.2.1.length:Int)+(a0.2.2.2.2.2.2.2.1.length:Int)+(a0.2.2.2.2.2.2.2.2.1.length:Int)+(a0.2.2.2.2.2.2.2.2.2.length:Int)==0) fun v1 =>
    some v1
   else
    if(a0.1==4) then
     some (a0.2.2.1==0&&decide (a0.2.2.2.2.2.1=ByteArray.mk #[])&&(a0.2.2.2.2.2.2.1.length:Int)+(a0.2.2.2.2.2.2.2.1.length:Int)+(a0.2.2.2.2.2.2.2.2.1.length:Int)+(a0.2.2.2.2.2.2.2.2.2.length:Int)==0)
    else
     if(a0.1==5) then
      some (a0.2.1==0&&a0.2.2.1==0&&a0.2.2.2.2.1==0&&decide (a0.2.2.2.2.2.1=ByteArray.mk #[]))
     else
      some false
def k44:Ct:=lct 44 [.agg y55] (fun x=>u44 x.1) (fun r:Bool=>B r) (fun _=>())
theorem o44:Ok prog k44:=by
 refine okM [.tmp 2] func44 ?_;intro y ⟨a0,_⟩ r H Q hn hr;refine iA [1]<|iB [1,3] H fun H=>vQ<|iA [1,3,25]<|vB<|iA [1,3,25,26]<|cD H (fun H=>qC (fun v0=>Z [p 2 (B v0)] [(1,K 55 y55 a0)]) H fun v0 H=>vTT<|fDD<|fR<|hr H) fun H=>iA [1,3,25,44]<|cD H (fun H=>iA [2]<|vTT<|fDD<|fR<|hr H) fun H=>iA [1,3,25,57]<|cD H (fun H=>qC (fun v1=>Z [p 2 (B v1)] [(1,K 55 y55 a0)]) H fun v1 H=>vTT<|fDD<|fR<|hr H) fun H=>iA [1,3,25,85]<|cD H (fun H=>iA [2]<|vTT<|fDD<|fR<|hr H) fun H=>iA [1,98]<|cD H (fun H=>iA [2]<|vTT<|fDD<|fR<|hr H) fun H=>vK<|fK<|fQ<|iA [2]<|vTT<|hr H
def u100J0:Unit->Option Bool
 | _ =>
 some true
def u100J2(v1:Int)(g1:Int->Option Bool):Unit->Option Bool
 | _ =>
 gd (in64 (v1+1)/\True) <|
 g1 (v1+1)
def u100L3(a0:List ByteArray)(v1:Int)(g1:Int->Option Bool)(g3:Int->Option Bool):Int->Option Bool
 | v2 =>
 if(decide (v2<v1)) then
  gd (ix v2 a0.length/\ix v1 a0.length/\True) <|
  if(decide (a0.getD v2.toNat (dflt Ty.str)=a0.getD v1.toNat (dflt Ty.str))) then
   some false
  else
   gd (in64 (v2+1)/\True) <|
   g3 (v2+1)
 else
  u100J2 v1 g1 ()
def u100L1(a0:List ByteArray)(g1:Int->Option Bool):Int->Option Bool
 | v1 =>
 if(decide (v1 < (a0.length:Int))) then
  gd (ix v1 a0.length/\(u77 (a0.getD v1.toNat (dflt Ty.str))).isSome/\True) <|
  if(!vl (u77 (a0.getD v1.toNat (dflt Ty.str)))) then
   some false
  else
   lp (u100L3 a0 v1 g1) 0
 else
  u100J0 ()
def u100(a0:List ByteArray):Option Bool :=
 lp (u100L1 a0) 0
def k100:Ct:=lct 100 [.dat Ty.str.sl] (fun x=>u100 x.1) (fun r:Bool=>B r) (fun _=>())
theorem o100:Ok prog k100:=by
 refine okM [.tmp 2] func100 ?_;intro y ⟨a0,_⟩ r H Q hn hr;have:=hz (tc o77 tn);refine iA [0]<|jN r (fun(_:Unit)=>Z [] []) (u100J0) (fun _ H=>?_) (fun _ n0 e0 t0=>?_)
 ·refine iA [2]<|vTT<|hr H
 refine iA [0,3]<|vB<|lX (fun(v1:Int)=>Z [p 0 (L Ty.str a0),p 3 (I v1)] []) 0 H fun _ g1 b1 e1 t1 v1 H=>vQ<|iA [0,3,8]<|cD H (fun H=>?_) (fun H=>?_)
 ·refine vK<|fQ<|jN r (fun(_:Unit)=>Z [p 0 (L Ty.str a0),p 3 (I v1)] []) (u100J2 v1 g1) (fun _ H=>?_) (fun _ n2 e2 t2=>?_)
  ·refine jB [0,3] H fun H=>b1 H
  refine vB<|vQ<|iB [0,3,16] H fun H=>cD H (fun H=>iA [2]<|vTT<|fR<|fDD<|t2<|t1<|fDD<|t0<|hr H) fun H=>vK<|fQ<|iA [0,3,4]<|vB<|lX (fun(v2:Int)=>Z [p 0 (L Ty.str a0),p 3 (I v1),p 4 (I v2)] []) 0 H fun _ g3 b3 e3 t3 v2 H=>vQ<|iA [0,3,4,19]<|cD H (fun H=>?_) (fun H=>?_)
  ·refine vK<|fQ<|vQ<|vB<|iB [0,3,4,30] H fun H=>cD H (fun H=>iA [2]<|vTT<|fDD<|fR<|t3<|fDD<|fDD<|t2<|t1<|fDD<|t0<|hr H) fun H=>vK<|fK<|fQ<|jB [0,3,4] H fun H=>b3 H
  exact vE<|fE<|e3<|fX rfl<|fK<|n2 H
 exact vE<|fE<|e1<|fX rfl<|n0 H
def u99J4:Unit->Option Bool
 | _ =>
 some true
def u99L5(a1:Y48)(g5:Int->Option Bool):Int->Option Bool
 | v5 =>
 if(decide (v5 < (a1.2.2.length:Int))) then
  gd (ix v5 a1.2.2.length/\(u74 (a1.2.2.getD v5.toNat (dflt y138)).2.1 1 2).isSome/\((!vl (u74 (a1.2.2.getD v5.toNat (dflt y138)).2.1 1 2))=false/\True->ix v5 a1.2.2.length)/\((!vl (u74 (a1.2.2.getD v5.toNat (dflt y138)).2.1 1 2))=false/\True->in64 ((a1.2.1.length:Int)-1))/\((!vl (u74 (a1.2.2.getD v5.toNat (dflt y138)).2.1 1 2))=false/\True->(u74 (a1.2.2.getD v5.toNat (dflt y138)).2.2 0 ((a1.2.1.length:Int)-1)).isSome)/\True) <|
  if(!vl (u74 (a1.2.2.getD v5.toNat (dflt y138)).2.1 1 2)||!vl (u74 (a1.2.2.getD v5.toNat (dflt y138)).2.2 0 ((a1.2.1.length:Int)-1))) then
   some false
  else
   gd (in64 (v5+1)/\True) <|
   g5 (v5+1)
 else
  u99J4 ()
def u99J0(a1:Y48):Unit->Option Bool
 | _ =>
 lp (u99L5 a1) 0
def u99J2(v2:Int)(g1:Int->Option Bool):Unit->Option Bool
 | _ =>
 gd (in64 (v2+1)/\True) <|
 g1 (v2+1)
def u99L3(v3:Y94)(a1:Y48)(v2:Int)(g1:Int->Option Bool)(g3:Int->Option Bool):Int->Option Bool
 | v4 =>
 if(decide (v4 < (v3.2.2.length:Int))) then
  gd (ix v4 v3.2.2.length/\in64 ((a1.2.1.length:Int)-1)/\(u74 (v3.2.2.getD v4.toNat 0) 0 ((a1.2.1.length:Int)-1)).isSome/\True) <|
  if(!vl (u74 (v3.2.2.getD v4.toNat 0) 0 ((a1.2.1.length:Int)-1))) then
   some false
  else
   gd (in64 (v4+1)/\True) <|
   g3 (v4+1)
 else
  u99J2 v2 g1 ()
def u99L1(a1:Y48)(a0:List Y134)(g1:Int->Option Bool):Int->Option Bool
 | v2 =>
 if(decide (v2 < (a1.1.length:Int))) then
  gd (ix v2 a1.1.length/\True)<|lt (a1.1.getD v2.toNat (dflt y94)) fun v3 =>
  gd (in64 ((a0.length:Int)-1)/\(u74 v3.2.1 0 ((a0.length:Int)-1)).isSome/\((!vl (u74 v3.2.1 0 ((a0.length:Int)-1)))=false/\True->ix v3.2.1 a0.length)/\True) <|
  if(!vl (u74 v3.2.1 0 ((a0.length:Int)-1))||(v3.2.2.length:Int) != (↑(a0.getD v3.2.1.toNat (dflt y134)).2.2.1.length:Int)) then
   some false
  else
   lp (u99L3 v3 a1 v2 g1) 0
 else
  u99J0 a1 ()
def u99(a0:List Y134)(a1:Y48):Option Bool :=
 lp (u99L1 a1 a0) 0
def k99:Ct:=lct 99 [.agg y134.sl,.agg y48] (fun x=>u99 x.1 x.2.1) (fun r:Bool=>B r) (fun _=>())
theorem o99:Ok prog k99:=by
 refine okM [.tmp 4] func99 ?_;intro y ⟨a0,a1,_⟩ r H Q hn hr;have:=hz (tc o74 tn);refine iA [2,3]<|iA [2,3,5]<|jN r (fun(_:Unit)=>Z [p 3 (R 3),p 5 (I (a1.2.1.length:Int))] [(3,K 48 y48 a1)]) (u99J0 a1) (fun _ H=>?_) (fun _ n0 e0 t0=>?_)
 ·refine jN r (fun(_:Unit)=>Z [] []) (u99J4) (fun _ H=>?_) (fun _ n4 e4 t4=>?_)
  ·refine iA [4]<|vTT<|hr H
  refine iA [3,5,9]<|vB<|lX (fun(v5:Int)=>Z [p 3 (R 3),p 5 (I (a1.2.1.length:Int)),p 9 (I v5)] [(3,K 48 y48 a1)]) 0 H fun _ g5 b5 e5 t5 v5 H=>vQ<|iA [3,5,9,67]<|cD H (fun H=>?_) (fun H=>?_)
  ·refine vK<|fQ<|vQ<|vB<|iB [3,5,9,89] H fun H=>cD H (fun H=>iA [4]<|vTT<|fDD<|fR<|t5<|fDD<|t4<|hr H) fun H=>vK<|fK<|fQ<|jB [3,5,9] H fun H=>b5 H
  exact vE<|fE<|e5<|fX rfl<|n4 H
 refine iA [2,3,5,6]<|vB<|lX (fun(v2:Int)=>Z (G0 [p 5 (I (a1.2.1.length:Int)),p 6 (I v2)]) (W2 a1 a0)) 0 H fun _ g1 b1 e1 t1 v2 H=>vQ<|iA [2,3,5,6,17]<|cD H (fun H=>?_) (fun H=>?_)
 ·refine vK<|fQ<|jN r (fun(_:Unit)=>Z (G0 [p 5 (I (a1.2.1.length:Int)),p 6 (I v2)]) (W2 a1 a0)) (u99J2 v2 g1) (fun _ H=>?_) (fun _ n2 e2 t2=>?_)
  ·refine jB [2,3,5,6] H fun H=>b1 H
  refine vB<|qD (fun v3=>Z (G0 [p 5 (I (a1.2.1.length:Int)),p 6 (I v2),p 7 (R 7)]) ((7,K 94 y94 v3)::W2 a1 a0)) H fun v3 H=>vQ<|iB [2,3,5,6,7,46] H fun H=>cD H (fun H=>iA [4]<|vTT<|fR<|fDD<|t2<|t1<|fDD<|t0<|hr H) fun H=>vK<|fQ<|iA [2,3,5,6,7,8]<|vB<|lX (fun(v4:Int)=>Z (G0 [p 5 (I (a1.2.1.length:Int)),p 6 (I v2),p 7 (R 7),p 8 (I v4)]) ((7,K 94 y94 v3)::W2 a1 a0)) 0 H fun _ g3 b3 e3 t3 v4 H=>vQ<|iA [2,3,5,6,7,8,51]<|cD H (fun H=>?_) (fun H=>?_)
  ·refine vK<|fQ<|vQ<|vB<|iB [2,3,5,6,7,8,62] H fun H=>cD H (fun H=>iA [4]<|vTT<|fDD<|fR<|t3<|fDD<|fDD<|t2<|t1<|fDD<|t0<|hr H) fun H=>vK<|fK<|fQ<|jB [2,3,5,6,7,8] H fun H=>b3 H
  exact vE<|fE<|e3<|fX rfl<|fK<|n2 H
 exact vE<|fE<|e1<|fX rfl<|n0 H
def u169J0:List Int->Option (List Int)
 | v4 =>
 some v4
def u169L1(a0:Y134)(g1:Int×List Int->Option (List Int)):Int×List Int->Option (List Int)
 | (v1,v2) =>
 if(decide (v1 < (a0.2.2.2.1.length:Int))) then
  gd (ix v1 a0.2.2.2.1.length/\ix (a0.2.2.2.1.getD v1.toNat (dflt y190)).1 v2.length/\(a0.2.2.2.1.getD v1.toNat (dflt y190)).1.toNat<v2.length/\in64 (v2.getD (a0.2.2.2.1.getD v1.toNat (dflt y190)).1.toNat 0+1)/\ix (a0.2.2.2.1.getD v1.toNat (dflt y190)).1 v2.length/\(a0.2.2.2.1.getD v1.toNat (dflt y190)).1.toNat<v2.length/\True)<|lt (v2.set (a0.2.2.2.1.getD v1.toNat (dflt y190)).1.toNat (v2.getD (a0.2.2.2.1.getD v1.toNat (dflt y190)).1.toNat 0+1)) fun v3 =>
  gd (in64 (v1+1)/\True) <|
  g1 (v1+1,v3)
 else
  u169J0 v2
def u169(a0:Y134):Option (List Int) :=
 gd (((0:Int)<=(6:Int)/\(6:Int)=(6:Int)/\Int.toNat (6:Int)*8<=281474976710656/\(6:Int)<=(9223372036854775807:Int))/\True) <|
 lp (u169L1 a0) ((0,List.replicate (Int.toNat (6:Int)) (0:Int)))
def k169:Ct:=lct 169 [.agg y134] (fun x=>u169 x.1) (fun r:List Int=>AV.ow 2 true i64 r) (fun _=>())
theorem o169:Ok prog k169:=by
 refine okM [.tmp 2] func169 ?_;intro y ⟨a0,_⟩ r H Q hn hr;refine iA [1]<|iB [1,3] H fun H=>jN r (fun(v4:List Int)=>Z [p 3 (O 5)] [(5,A 2 i64 v4 0)]) (u169J0) (fun v4 H=>?_) (fun _ n0 e0 t0=>?_)
 ·refine iA [2]<|vTT<|hr H
 refine iA [1,3,4]<|vB<|lX (fun((v1,v2):Int×List Int)=>Z [p 1 (R 1),p 3 (O 5),p 4 (I v1)] [(5,A 2 i64 v2 0),(1,K 134 y134 a0)]) ((0,List.replicate (Int.toNat (6:Int)) (0:Int))) H fun _ g1 b1 e1 t1 ⟨v1,v2⟩ H=>vQ<|iA [1,3,4,10]<|cD H (fun H=>vK<|fQ<|vQ<|vB<|zD (fun v3=>Z [p 1 (R 1),p 3 (O 5),p 4 (I v1)] [(5,A 2 i64 v3 0),(1,K 134 y134 a0)]) H fun v3 H=>fK<|fQ<|jB [1,3,4] H fun H=>b1 H) fun H=>vE<|fE<|e1<|fX rfl<|n0 H
def u222J0(a0:List Int):Unit->Option Bool
 | _ =>
 some (decide (1<=(a0.length:Int))&&decide ((a0.length:Int)<=4))
def u222L1(a0:List Int)(g1:Int->Option Bool):Int->Option Bool
 | v0 =>
 if(decide (v0 < (a0.length:Int))) then
  gd (ix v0 a0.length/\(u74 (a0.getD v0.toNat 0) 0 100000).isSome/\(decide (0<v0)=true/\(!vl (u74 (a0.getD v0.toNat 0) 0 100000))=false/\True->in64 (v0-1))/\(decide (0<v0)=true/\(!vl (u74 (a0.getD v0.toNat 0) 0 100000))=false/\True->ix (v0-1) a0.length)/\(decide (0<v0)=true/\(!vl (u74 (a0.getD v0.toNat 0) 0 100000))=false/\True->ix v0 a0.length)/\True) <|
  if(!vl (u74 (a0.getD v0.toNat 0) 0 100000)||decide (0<v0)&&decide (a0.getD v0.toNat 0<=a0.getD (v0-1).toNat 0)) then
   some false
  else
   gd (in64 (v0+1)/\True) <|
   g1 (v0+1)
 else
  u222J0 a0 ()
def u222(a0:List Int):Option Bool :=
 lp (u222L1 a0) 0
def k222:Ct:=lct 222 [.dat i64.sl] (fun x=>u222 x.1) (fun r:Bool=>B r) (fun _=>())
theorem o222:Ok prog k222:=by
 refine okM [.tmp 2] func222 ?_;intro y ⟨a0,_⟩ r H Q hn hr;have:=hz (tc o74 tn);refine iA [0]<|jN r (fun(_:Unit)=>Z [p 0 (L i64 a0)] []) (u222J0 a0) (fun _ H=>?_) (fun _ n0 e0 t0=>?_)
 ·refine iA [2]<|vTT<|hr H
 refine iA [0,3]<|vB<|lX (fun(v0:Int)=>Z [p 0 (L i64 a0),p 3 (I v0)] []) 0 H fun _ g1 b1 e1 t1 v0 H=>vQ<|iA [0,3,7]<|cD H (fun H=>?_) (fun H=>?_)
 ·refine vK<|fQ<|vQ<|vB<|iB [0,3,31] H fun H=>cD H (fun H=>iA [2]<|vTT<|fDD<|fR<|t1<|fDD<|t0<|hr H) fun H=>vK<|fK<|fQ<|jB [0,3] H fun H=>b1 H
 exact vE<|fE<|e1<|fX rfl<|n0 H
def u212J0:Unit->Option Bool
 | _ =>
 some true
def u212L1(a0:Y217)(g1:Int->Option Bool):Int->Option Bool
 | v0 =>
 if(decide (v0 < (a0.2.2.length:Int))) then
  gd (ix v0 a0.2.2.length/\(u74 (a0.2.2.getD v0.toNat 0) (-1000000) 1000000).isSome/\True) <|
  if(!vl (u74 (a0.2.2.getD v0.toNat 0) (-1000000) 1000000)) then
   some false
  else
   gd (in64 (v0+1)/\True) <|
   g1 (v0+1)
 else
  u212J0 ()
def u212(a0:Y217):Option Bool :=
 gd ((u222 a0.1).isSome/\((!vl (u222 a0.1))=false/\True->(u222 a0.2.1).isSome)/\((!vl (u222 a0.1)||!vl (u222 a0.2.1))=false/\True->in64 ((a0.1.length:Int)*(a0.2.1.length:Int)))/\True) <|
 if(!vl (u222 a0.1)||!vl (u222 a0.2.1)||(a0.2.2.length:Int) != (a0.1.length:Int)*(a0.2.1.length:Int)) then
  some false
 else
  lp (u212L1 a0) 0
def k212:Ct:=lct 212 [.agg y217] (fun x=>u212 x.1) (fun r:Bool=>B r) (fun _=>())
theorem o212:Ok prog k212:=by
 refine okM [.tmp 2] func212 ?_;intro y ⟨a0,_⟩ r H Q hn hr;have:=hz (tc o74 (tc o222 tn));refine iA [1]<|vQ<|iB [1,26] H fun H=>cD H (fun H=>iA [2]<|vTT<|fR<|hr H) fun H=>vK<|fQ<|jN r (fun(_:Unit)=>Z [] []) (u212J0) (fun _ H=>?_) (fun _ n0 e0 t0=>?_)
 ·refine iA [2]<|vTT<|hr H
 refine iA [1,3]<|vB<|lX (fun(v0:Int)=>Z (G1 v0 []) [(1,K 217 y217 a0)]) 0 H fun _ g1 b1 e1 t1 v0 H=>vQ<|iA [1,3,31]<|cD H (fun H=>?_) (fun H=>?_)
 ·refine vK<|fQ<|vQ<|vB<|iB [1,3,40] H fun H=>cD H (fun H=>iA [2]<|vTT<|fDD<|fR<|t1<|fDD<|t0<|hr H) fun H=>vK<|fK<|fQ<|jB [1,3] H fun H=>b1 H
 exact vE<|fE<|e1<|fX rfl<|n0 H
def u202J0:Int×Int->Option (Y251×Int)
 | (v5,v6) =>
 some (((v5,v6),(0:Int)))
def u202L1(a0:Y217)(g1:Int×Int×Int->Option (Y251×Int)):Int×Int×Int->Option (Y251×Int)
 | (v2,v3,v4) =>
 if(decide (v2 < (a0.2.2.length:Int))) then
  gd (ix v2 a0.2.2.length/\True) <|
  gd (ix v2 a0.2.2.length/\True) <|
  gd (in64 (v2+1)/\True) <|
  g1 ((v2+1,min v3 (a0.2.2.getD v2.toNat 0),max v4 (a0.2.2.getD v2.toNat 0)))
 else
  u202J0 (v3,v4)
def u202(a0:Y217):Option (Y251×Int) :=
 gd ((u212 a0).isSome/\True) <|
 if(!vl (u212 a0)) then
  some ((((0:Int),(0:Int)),(1:Int)))
 else
  gd (ix 0 a0.2.2.length/\ix 0 a0.2.2.length/\True) <|
  lp (u202L1 a0) ((1,a0.2.2.getD (Int.toNat (0:Int)) (0:Int),a0.2.2.getD (Int.toNat (0:Int)) (0:Int)))
def k202:Ct:=lct 202 [.agg y217] (fun x=>u202 x.1) (fun r:Y251×Int=>AV.tup [AV.agg [I r.1.1,I r.1.2],I r.2]) (fun _=>())
theorem o202:Ok prog k202:=by
 refine okM [.cell 2 251,.tmp 3] func202 ?_;intro y ⟨a0,_⟩ r H Q hn hr;have:=hz (tc o212 tn);refine iA [1,2]<|vQ<|iB [1,2,8] H fun H=>cD H (fun H=>iA [2,3]<|vTT<|fR<|hr H) fun H=>vK<|fQ<|iB [1,2,4] H fun H=>jN r (fun((v5,v6):Int×Int)=>Z [p 2 (R 2),p 4 (R 4)] [(4,bx 251 [J v5,J v6]),(2,bx 251 [I 0,I 0])]) (u202J0) (fun⟨v5,v6⟩ H=>?_) (fun _ n0 e0 t0=>?_)
 ·refine iA [2,3]<|vTT<|hr H
 refine iA [1,2,4,5]<|vB<|lX (fun((v2,v3,v4):Int×Int×Int)=>Z [p 1 (R 1),p 2 (R 2),p 4 (R 4),p 5 (I v2)] [(4,bx 251 [J v3,J v4]),(2,bx 251 [I 0,I 0]),(1,K 217 y217 a0)]) ((1,a0.2.2.getD (Int.toNat (0:Int)) (0:Int),a0.2.2.getD (Int.toNat (0:Int)) (0:Int))) H fun _ g1 b1 e1 t1 ⟨v2,v3,v4⟩ H=>vQ<|iA [1,2,4,5,23]<|cD H (fun H=>vK<|fQ<|vQ<|vB<|iB [1,2,4,5] H fun H=>jB [1,2,4,5] H fun H=>fK<|fQ<|jB [1,2,4,5] H fun H=>b1 H) fun H=>vE<|fE<|e1<|fX rfl<|n0 H
def u188J0:Unit->Option Bool
 | _ =>
 some true
def u188L1(a1:Bool)(a0:List Y217)(g1:Int->Option Bool):Int->Option Bool
 | v1 =>
 if(decide (v1<2)) then
  gd (ix v1 a0.length/\(u202 (a0.getD v1.toNat (dflt y217))).isSome/\True)<|lt (vl (u202 (a0.getD v1.toNat (dflt y217)))) fun v2 =>
  if(v2.2 != 0||a1&&decide (v2.1.1<0)) then
   some false
  else
   gd (in64 (v1+1)/\True) <|
   g1 (v1+1)
 else
  u188J0 ()
def u188(a0:List Y217)(a1:Bool):Option Bool :=
 if((a0.length:Int) != 2) then
  some false
 else
  lp (u188L1 a1 a0) 0
def k188:Ct:=lct 188 [.dat y217.sl,.dat Ty.bool] (fun x=>u188 x.1 x.2.1) (fun r:Bool=>B r) (fun _=>())
theorem o188:Ok prog k188:=by
 refine okM [.tmp 4] func188 ?_;intro y ⟨a0,a1,_⟩ r H Q hn hr;have:=hz (tc o202 tn);refine iA [0,1]<|vQ<|iA [0,1,10]<|cD H (fun H=>iA [4]<|vTT<|fR<|hr H) fun H=>vK<|fQ<|jN r (fun(_:Unit)=>Z [] []) (u188J0) (fun _ H=>?_) (fun _ n0 e0 t0=>?_)
 ·refine iA [4]<|vTT<|hr H
 refine iA [0,1,5]<|vB<|lX (fun(v1:Int)=>Z [p 0 (L y217 a0),p 1 (C a1),p 5 (I v1)] []) 0 H fun _ g1 b1 e1 t1 v1 H=>vQ<|iA [0,1,5,12]<|cD H (fun H=>?_) (fun H=>?_)
 ·refine vK<|fQ<|vQ<|vB<|iD o202 [0,1,5,6,7] H fun _ H=>iA [0,1,5,32]<|cD H (fun H=>iA [4]<|vTT<|fDD<|fR<|t1<|fDD<|t0<|hr H) fun H=>vK<|fK<|fQ<|jB [0,1,5] H fun H=>b1 H
 exact vE<|fE<|e1<|fX rfl<|n0 H
def u168J1(v0:Y155)(a1:Y190)(a0:Y134):Bool->Option Bool
 | v2 =>
 if v2 then
  gd (((v0.2.2.2&&decide (a1.2.2.1 < (a0.2.2.1.length:Int)-1))=true/\True->ix a1.2.2.1 a0.2.2.1.length)/\((v0.2.2.2&&decide (a1.2.2.1 < (a0.2.2.1.length:Int)-1)&&!(a0.2.2.1.getD a1.2.2.1.toNat (dflt y155)).2.2.2&&a1.2.2.2.1==0)=true/\True->(u188 a1.2.2.2.2.1 false).isSome)/\True) <|
  some (v0.2.2.2&&decide (a1.2.2.1 < (a0.2.2.1.length:Int)-1)&&!(a0.2.2.1.getD a1.2.2.1.toNat (dflt y155)).2.2.2&&a1.2.2.2.1==0&&vl (u188 a1.2.2.2.2.1 false)&&(a1.2.2.2.2.2.length:Int)==0)
 else
  some false
def u168J0(v0:Y155)(a1:Y190)(a0:Y134):Bool->Option Bool
 | v1 =>
 if v1 then
  gd (((v0.2.2.2&&a1.2.2.1==(a0.2.2.1.length:Int)-1&&a1.2.2.2.1==0)=true/\True->(u188 a1.2.2.2.2.1 true).isSome)/\((v0.2.2.2&&a1.2.2.1==(a0.2.2.1.length:Int)-1&&a1.2.2.2.1==0&&vl (u188 a1.2.2.2.2.1 true))=true/\True->(u188 a1.2.2.2.2.2 true).isSome)/\True) <|
  some (v0.2.2.2&&a1.2.2.1==(a0.2.2.1.length:Int)-1&&a1.2.2.2.1==0&&vl (u188 a1.2.2.2.2.1 true)&&vl (u188 a1.2.2.2.2.2 true))
 else
  if(a1.1==4) then
   u168J1 v0 a1 a0 (a1.1==4)
  else
   u168J1 v0 a1 a0 (a1.1==5)
def u168(a0:Y134)(a1:Y190):Option Bool :=
 gd (in64 ((a0.2.2.1.length:Int)-1)/\True) <|
 gd (in64 ((a0.2.2.1.length:Int)-1-1)/\(u74 a1.2.1 0 ((a0.2.2.1.length:Int)-1-1)).isSome/\((!vl (u74 a1.2.1 0 ((a0.2.2.1.length:Int)-1-1)))=false/\True->(u74 a1.2.2.1 0 ((a0.2.2.1.length:Int)-1)).isSome)/\True) <|
 if(!vl (u74 a1.2.1 0 ((a0.2.2.1.length:Int)-1-1))||!vl (u74 a1.2.2.1 0 ((a0.2.2.1.length:Int)-1))) then
  some false
 else
  gd (ix a1.2.1 a0.2.2.1.length/\True)<|lt (a0.2.2.1.getD a1.2.1.toNat (dflt y155)) fun v0 =>
  if(a1.1==1) then
   gd (((!v0.2.2.2&&a1.2.2.1==(a0.2.2.1.length:Int)-1)=true/\True->(u74 a1.2.2.2.1 1 3).isSome)/\((!v0.2.2.2&&a1.2.2.1==(a0.2.2.1.length:Int)-1&&vl (u74 a1.2.2.2.1 1 3))=true/\True->(u188 a1.2.2.2.2.1 true).isSome)/\((!v0.2.2.2&&a1.2.2.1==(a0.2.2.1.length:Int)-1&&vl (u74 a1.2.2.2.1 1 3)&&vl (u188 a1.2.2.2.2.1 true))=true/\True->(u188 a1.2.2.2.2.2 true).isSome)/\True) <|
   some (!v0.2.2.2&&a1.2.2.1==(a0.2.2.1.length:Int)-1&&vl (u74 a1.2.2.2.1 1 3)&&vl (u188 a1.2.2.2.2.1 true)&&vl (u188 a1.2.2.2.2.2 true))
  else
   if(a1.1==2) then
    u168J0 v0 a1 a0 (a1.1==2)
   else
    u168J0 v0 a1 a0 (a1.1==3)
def k168:Ct:=lct 168 [.agg y134,.agg y190] (fun x=>u168 x.1 x.2.1) (fun r:Bool=>B r) (fun _=>())
theorem o168:Ok prog k168:=by
 refine okM [.tmp 4] func168 ?_;intro y ⟨a0,a1,_⟩ r H Q hn hr;have:=hz (tc o188 (tc o74 tn));refine iA [2,3]<|iB [2,3,5] H fun H=>vQ<|iB [2,3,5,23] H fun H=>cD H (fun H=>iA [4]<|vTT<|fR<|hr H) fun H=>vK<|fQ<|qD (fun v0=>Z (G0 [p 5 (I ((a0.2.2.1.length:Int)-1)),p 6 (C v0.2.2.2)]) [(3,K 190 y190 a1),(2,K 134 y134 a0)]) H fun v0 H=>vQ<|iA [2,3,5,6,32]<|vB<|iA [2,3,5,6,32,33]<|cD H (fun H=>iB [4] H fun H=>vTT<|fDD<|fR<|hr H) fun H=>jN r (fun(v1:Bool)=>Z (G0 [p 5 (I ((a0.2.2.1.length:Int)-1)),p 6 (C v0.2.2.2),p 32 (J a1.1),p 58 (B v1)]) [(3,K 190 y190 a1),(2,K 134 y134 a0)]) (u168J0 v0 a1 a0) (fun v1 H=>?_) (fun _ n0 e0 t0=>?_)
 ·refine cD H (fun H=>iB [4] H fun H=>vTT<|fDD<|fR<|hr H) fun H=>jN r (fun(v2:Bool)=>Z (G0 [p 5 (I ((a0.2.2.1.length:Int)-1)),p 6 (C v0.2.2.2),p 83 (B v2)]) [(3,K 190 y190 a1),(2,K 134 y134 a0)]) (u168J1 v0 a1 a0) (fun v2 H=>?_) (fun _ n1 e1 t1=>?_)
  ·refine cD H (fun H=>iB [4] H fun H=>vTT<|fDD<|fR<|hr H) fun H=>vK<|fK<|fQ<|iA [4]<|vTT<|hr H
  refine iA [2,3,5,6,32,83]<|cD H (fun H=>vK<|n1 H) fun H=>jA [2,3,5,6,83]<|n1 H
 refine iA [2,3,5,6,32,58]<|cD H (fun H=>vK<|n0 H) fun H=>jA [2,3,5,6,32,58]<|n0 H
def u167J0:Int->Option (Int×Bool)
 | v8 =>
 some (v8,true)
def u167J2(v4:Int)(g1:Int×Int->Option (Int×Bool)):Int->Option (Int×Bool)
 | v7 =>
 gd (in64 (v4+1)/\True) <|
 g1 (v7,v4+1)
def u167J3(v4:Int)(v3:Int)(v5:Y155)(a0:Y134)(g1:Int×Int->Option (Int×Bool)):Unit->Option (Int×Bool)
 | _ =>
 gd ((u77 v5.1).isSome/\((!vl (u77 v5.1))=false/\True->(u74 v5.2.2.1 0 500).isSome)/\True) <|
 if(!vl (u77 v5.1)||!vl (u74 v5.2.2.1 0 500)) then
  some (((0:Int),false))
 else
  gd (in64 ((a0.2.2.1.length:Int)-1)/\((v4==(a0.2.2.1.length:Int)-1&&(v5.2.1 != 2||v5.2.2.1 != 0||v5.2.2.2))=false/\True->in64 ((a0.2.2.1.length:Int)-1))/\True) <|
  if(v4==(a0.2.2.1.length:Int)-1&&(v5.2.1 != 2||v5.2.2.1 != 0||v5.2.2.2)||decide (v4 < (a0.2.2.1.length:Int)-1)&&v5.2.1 != 1) then
   some (((0:Int),false))
  else
   if v5.2.2.2 then
    gd (in64 (v3+1)/\True) <|
    u167J2 v4 g1 (v3+1)
   else
    u167J2 v4 g1 v3
def u167L4(a0:Y134)(v5:Y155)(v4:Int)(v3:Int)(g1:Int×Int->Option (Int×Bool))(g4:Int->Option (Int×Bool)):Int->Option (Int×Bool)
 | v6 =>
 if(decide (v6<v4)) then
  gd (ix v6 a0.2.2.1.length/\True) <|
  if(decide ((a0.2.2.1.getD v6.toNat (dflt y155)).1=v5.1)) then
   some (((0:Int),false))
  else
   gd (in64 (v6+1)/\True) <|
   g4 (v6+1)
 else
  u167J3 v4 v3 v5 a0 g1 ()
def u167L1(a0:Y134)(g1:Int×Int->Option (Int×Bool)):Int×Int->Option (Int×Bool)
 | (v3,v4) =>
 if(decide (v4 < (a0.2.2.1.length:Int))) then
  gd (ix v4 a0.2.2.1.length/\True)<|lt (a0.2.2.1.getD v4.toNat (dflt y155)) fun v5 =>
  lp (u167L4 a0 v5 v4 v3 g1) 0
 else
  u167J0 v3
def u167(a0:Y134):Option (Int×Bool) :=
 if(decide ((a0.2.2.1.length:Int)<2)||decide (5 < (a0.2.2.1.length:Int))) then
  some (((0:Int),false))
 else
  lp (u167L1 a0) (0,0)
def k167:Ct:=lct 167 [.agg y134] (fun x=>u167 x.1) (fun r:Int×Bool=>AV.tup [I r.1,B r.2]) (fun _=>())
theorem o167:Ok prog k167:=by
 refine okM [.tmp 2,.tmp 3] func167 ?_;intro y ⟨a0,_⟩ r H Q hn hr;have:=hz (tc o74 (tc o77 tn));refine iA [1]<|iA [1,4]<|vQ<|iA [1,4,17]<|cD H (fun H=>iA [2,3]<|vTT<|fR<|hr H) fun H=>vK<|fQ<|iA [1,4,5]<|jN r (fun(v8:Int)=>Z [p 5 (I v8)] []) (u167J0) (fun v8 H=>?_) (fun _ n0 e0 t0=>?_)
 ·refine iA [2,3]<|vTT<|hr H
 refine iA [1,4,5,6]<|vB<|lX (fun((v3,v4):Int×Int)=>Z [p 1 (R 1),p 4 (I (a0.2.2.1.length:Int)),p 5 (I v3),p 6 (I v4)] [(1,K 134 y134 a0)]) (0,0) H fun _ g1 b1 e1 t1 ⟨v3,v4⟩ H=>vQ<|iA [1,4,5,6,20]<|cD H (fun H=>?_) (fun H=>?_)
 ·refine vK<|fQ<|jN r (fun(v7:Int)=>Z [p 1 (R 1),p 4 (I (a0.2.2.1.length:Int)),p 5 (I v7),p 6 (I v4)] [(1,K 134 y134 a0)]) (u167J2 v4 g1) (fun v7 H=>?_) (fun _ n2 e2 t2=>?_)
  ·refine jB [1,4,5,6] H fun H=>b1 H
  refine vB<|qD (fun v5=>Z [p 1 (R 1),p 4 (I (a0.2.2.1.length:Int)),p 5 (I v3),p 6 (I v4),p 7 (R 7)] [(7,K 155 y155 v5),(1,K 134 y134 a0)]) H fun v5 H=>jN r (fun(_:Unit)=>Z [p 1 (R 1),p 4 (I (a0.2.2.1.length:Int)),p 5 (I v3),p 6 (I v4),p 7 (R 7)] [(7,K 155 y155 v5),(1,K 134 y134 a0)]) (u167J3 v4 v3 v5 a0 g1) (fun _ H=>?_) (fun _ n3 e3 t3=>?_)
  ·refine vQ<|iB [1,4,5,6,7,51] H fun H=>cD H (fun H=>iA [2,3]<|vTT<|fR<|fDD<|t2<|t1<|fDD<|t0<|hr H) fun H=>vK<|fQ<|vQ<|iB [1,4,5,6,7,80] H fun H=>cD H (fun H=>iA [2,3]<|vTT<|fR<|fDD<|t2<|t1<|fDD<|t0<|hr H) fun H=>vK<|fQ<|iA [1,4,5,6,82]<|cD H (fun H=>jB [1,4,5,6] H fun H=>fK<|n2 H) fun H=>vK<|fK<|n2 H
  refine iA [1,4,5,6,7,8]<|vB<|lX (fun(v6:Int)=>Z [p 1 (R 1),p 4 (I (a0.2.2.1.length:Int)),p 5 (I v3),p 6 (I v4),p 7 (R 7),p 8 (I v6)] [(7,K 155 y155 v5),(1,K 134 y134 a0)]) 0 H fun _ g4 b4 e4 t4 v6 H=>vQ<|iA [1,4,5,6,7,8,30]<|cD H (fun H=>?_) (fun H=>?_)
  ·refine vK<|fQ<|vQ<|vB<|iB [1,4,5,6,7,8,41] H fun H=>cD H (fun H=>iA [2,3]<|vTT<|fDD<|fR<|t4<|fDD<|t3<|fDD<|t2<|t1<|fDD<|t0<|hr H) fun H=>vK<|fK<|fQ<|jB [1,4,5,6,7,8] H fun H=>b4 H
  exact vE<|fE<|e4<|fX rfl<|n3 H
 exact vE<|fE<|e1<|fX rfl<|n0 H
def u141J4:Unit->Option Bool
 | _ =>
 some false
def u141J5(v0:Int×Bool)(a0:Y134):Unit->Option Bool
 | _ =>
 gd (((v0.1==(0:Int))=true/\True->in64 ((a0.2.2.1.length:Int)-(1:Int)))/\((v0.1==(0:Int))=true/\True->(0:Int)<=(a0.2.2.1.length:Int)-(1:Int)/\(a0.2.2.1.length:Int)-(1:Int)<=(18446744073709551615:Int))/\((v0.1==(0:Int))=true/\True->((0:Int)<=(a0.2.2.1.length:Int)-(1:Int)/\(a0.2.2.1.length:Int)-(1:Int)<=(62:Int))/\in64 ((1:Int)*(2:Int) ^ ((a0.2.2.1.length:Int)-(1:Int)).toNat))/\True) <|
 some (v0.1==(0:Int)&&(a0.2.2.2.2.1.length:Int)==(1:Int)*(2:den i64) ^ ((a0.2.2.1.length:Int)-(1:Int)).toNat)
def u141L6(a0:Y134)(v0:Int×Bool)(g6:Int->Option Bool):Int->Option Bool
 | v7 =>
 if(decide (v7 < (a0.2.2.2.2.1.length:Int))) then
  gd (ix v7 a0.2.2.2.2.1.length/\(u74 (a0.2.2.2.2.1.getD v7.toNat 0) 0 1).isSome/\True) <|
  if(!vl (u74 (a0.2.2.2.2.1.getD v7.toNat 0) 0 1)) then
   some false
  else
   gd (in64 (v7+1)/\True) <|
   g6 (v7+1)
 else
  u141J5 v0 a0 ()
def u141J0(a0:Y134)(v0:Int×Bool):Unit->Option Bool
 | _ =>
 gd ((u169 a0).isSome/\True)<|lt (vl (u169 a0)) fun v6 =>
 if(a0.2.1==1) then
  lp (u141L6 a0 v0) 0
 else
  if(a0.2.1==2) then
   gd (((v0.1==(1:Int))=true/\True->ix (1:Int) v6.length)/\((v0.1==(1:Int))=true/\True->Int.toNat (1:Int)<v6.length)/\((v0.1==(1:Int)&&v6.getD (Int.toNat (1:Int)) (0:Int)==(0:Int))=true/\True->ix (2:Int) v6.length)/\((v0.1==(1:Int)&&v6.getD (Int.toNat (1:Int)) (0:Int)==(0:Int))=true/\True->Int.toNat (2:Int)<v6.length)/\((v0.1==(1:Int)&&v6.getD (Int.toNat (1:Int)) (0:Int)==(0:Int))=true/\True->ix (3:Int) v6.length)/\((v0.1==(1:Int)&&v6.getD (Int.toNat (1:Int)) (0:Int)==(0:Int))=true/\True->Int.toNat (3:Int)<v6.length)/\True) <|
   some (v0.1==(1:Int)&&v6.getD (Int.toNat (1:Int)) (0:Int)==(0:Int)&&!decide ((0:Int)<v6.getD (Int.toNat (2:Int)) (0:Int))==decide ((0:Int)<v6.getD (Int.toNat (3:Int)) (0:Int))&&(a0.2.2.2.2.1.length:Int)==(0:Int))
  else
   if(a0.2.1==3) then
    gd (((v0.1==(1:Int))=true/\True->ix (1:Int) v6.length)/\((v0.1==(1:Int))=true/\True->Int.toNat (1:Int)<v6.length)/\((v0.1==(1:Int)&&decide ((0:Int)<v6.getD (Int.toNat (1:Int)) (0:Int)))=true/\True->ix (2:Int) v6.length)/\((v0.1==(1:Int)&&decide ((0:Int)<v6.getD (Int.toNat (1:Int)) (0:Int)))=true/\True->Int.toNat (2:Int)<v6.length)/\((v0.1==(1:Int)&&decide ((0:Int)<v6.getD (Int.toNat (1:Int)) (0:Int))&&decide ((0:Int)<v6.getD (Int.toNat (2:Int)) (0:Int)))=true/\True->ix (3:Int) v6.length)/\((v0.1==(1:Int)&&decide ((0:Int)<v6.getD (Int.toNat (1:Int)) (0:Int))&&decide ((0:Int)<v6.getD (Int.toNat (2:Int)) (0:Int)))=true/\True->Int.toNat (3:Int)<v6.length)/\True) <|
    some (v0.1==(1:Int)&&decide ((0:Int)<v6.getD (Int.toNat (1:Int)) (0:Int))&&decide ((0:Int)<v6.getD (Int.toNat (2:Int)) (0:Int))&&v6.getD (Int.toNat (3:Int)) (0:Int)==(0:Int)&&(a0.2.2.2.2.1.length:Int)==(0:Int))
   else
    u141J4 ()
def u141J2(v3:Int)(g1:Int->Option Bool):Unit->Option Bool
 | _ =>
 gd (in64 (v3+1)/\True) <|
 g1 (v3+1)
def u141L3(a0:Y134)(v4:Y190)(v3:Int)(g1:Int->Option Bool)(g3:Int->Option Bool):Int->Option Bool
 | v5 =>
 if(decide (v5<v3)) then
  gd (ix v5 a0.2.2.2.1.length/\(((a0.2.2.2.1.getD v5.toNat (dflt y190)).1==v4.1)=true/\True->ix v5 a0.2.2.2.1.length)/\(((a0.2.2.2.1.getD v5.toNat (dflt y190)).1==v4.1&&(a0.2.2.2.1.getD v5.toNat (dflt y190)).2.1==v4.2.1)=true/\True->ix v5 a0.2.2.2.1.length)/\True) <|
  if((a0.2.2.2.1.getD v5.toNat (dflt y190)).1==v4.1&&(a0.2.2.2.1.getD v5.toNat (dflt y190)).2.1==v4.2.1&&(a0.2.2.2.1.getD v5.toNat (dflt y190)).2.2.1==v4.2.2.1) then
   some false
  else
   gd (in64 (v5+1)/\True) <|
   g3 (v5+1)
 else
  u141J2 v3 g1 ()
def u141L1(a0:Y134)(v0:Int×Bool)(g1:Int->Option Bool):Int->Option Bool
 | v3 =>
 if(decide (v3 < (a0.2.2.2.1.length:Int))) then
  gd (ix v3 a0.2.2.2.1.length/\True)<|lt (a0.2.2.2.1.getD v3.toNat (dflt y190)) fun v4 =>
  gd ((u168 a0 v4).isSome/\True) <|
  if(!vl (u168 a0 v4)) then
   some false
  else
   lp (u141L3 a0 v4 v3 g1) 0
 else
  u141J0 a0 v0 ()
def u141(a0:Y134):Option Bool :=
 gd ((u167 a0).isSome/\True)<|lt (vl (u167 a0)) fun v0 =>
 gd (((!v0.2)=false/\True->(u77 a0.1).isSome)/\((!v0.2||!vl (u77 a0.1)||decide (8 < (a0.2.2.2.1.length:Int)))=false/\True->(u74 a0.2.2.2.2.2.1 0 100000).isSome)/\((!v0.2||!vl (u77 a0.1)||decide (8 < (a0.2.2.2.1.length:Int))||!vl (u74 a0.2.2.2.2.2.1 0 100000))=false/\True->(u74 a0.2.2.2.2.2.2 0 100000).isSome)/\True) <|
 if(!v0.2||!vl (u77 a0.1)||decide (8 < (a0.2.2.2.1.length:Int))||!vl (u74 a0.2.2.2.2.2.1 0 100000)||!vl (u74 a0.2.2.2.2.2.2 0 100000)) then
  some false
 else
  lp (u141L1 a0 v0) 0
def k141:Ct:=lct 141 [.agg y134] (fun x=>u141 x.1) (fun r:Bool=>B r) (fun _=>())
theorem o141:Ok prog k141:=by
 refine okM [.tmp 2] func141 ?_;intro y ⟨a0,_⟩ r H Q hn hr;have:=hz (tc o74 (tc o169 (tc o168 (tc o77 (tc o167 tn)))));refine iA [1]<|iD o167 [1,3,4] H fun v0 H=>vQ<|iB [1,3,40] H fun H=>cD H (fun H=>iA [2]<|vTT<|fR<|hr H) fun H=>vK<|fQ<|jN r (fun(_:Unit)=>Z (G1 v0.1 []) [(1,K 134 y134 a0)]) (u141J0 a0 v0) (fun _ H=>?_) (fun _ n0 e0 t0=>?_)
 ·refine iD o169 [1,3,8] H fun _ H=>jN r (fun(_:Unit)=>Z [] []) (u141J4) (fun _ H=>?_) (fun _ n4 e4 t4=>?_)
  ·refine iA [2]<|vTT<|hr H
  refine iA [1,3,8,96]<|vB<|iA [1,3,8,96,97]<|cD H (fun H=>?_) (fun H=>?_)
  ·refine jN r (fun(_:Unit)=>Z (G1 v0.1 []) [(1,K 134 y134 a0)]) (u141J5 v0 a0) (fun _ H=>?_) (fun _ n5 e5 t5=>?_)
   ·refine iB [2] H fun H=>vTT<|fDD<|t4<|hr H
   refine iA [1,3,9]<|vB<|lX (fun(v7:Int)=>Z (G1 v0.1 [p 9 (I v7)]) [(1,K 134 y134 a0)]) 0 H fun _ g6 b6 e6 t6 v7 H=>vQ<|iA [1,3,9,103]<|cD H (fun H=>?_) (fun H=>?_)
   ·refine vK<|fQ<|vQ<|vB<|iB [1,3,9,112] H fun H=>cD H (fun H=>iA [2]<|vTT<|fDD<|fR<|t6<|fDD<|t5<|fDD<|t4<|hr H) fun H=>vK<|fK<|fQ<|jB [1,3,9] H fun H=>b6 H
   exact vE<|fE<|e6<|fX rfl<|n5 H
  refine iA [1,3,8,96,127]<|cD H (fun H=>iB [2] H fun H=>vTT<|fDD<|t4<|hr H) fun H=>iA [1,3,8,154]<|cD H (fun H=>iB [2] H fun H=>vTT<|fDD<|t4<|hr H) fun H=>vK<|fK<|n4 H
 refine iA [1,3,5]<|vB<|lX (fun(v3:Int)=>Z (G1 v0.1 [p 5 (I v3)]) [(1,K 134 y134 a0)]) 0 H fun _ g1 b1 e1 t1 v3 H=>vQ<|iA [1,3,5,45]<|cD H (fun H=>?_) (fun H=>?_)
 ·refine vK<|fQ<|jN r (fun(_:Unit)=>Z (G1 v0.1 [p 5 (I v3)]) [(1,K 134 y134 a0)]) (u141J2 v3 g1) (fun _ H=>?_) (fun _ n2 e2 t2=>?_)
  ·refine jB [1,3,5] H fun H=>b1 H
  refine vB<|qD (fun v4=>Z (G1 v0.1 [p 5 (I v3),p 6 (R 6)]) [(6,K 190 y190 v4),(1,K 134 y134 a0)]) H fun v4 H=>vQ<|iB [1,3,5,6,56] H fun H=>cD H (fun H=>iA [2]<|vTT<|fR<|fDD<|t2<|t1<|fDD<|t0<|hr H) fun H=>vK<|fQ<|iA [1,3,5,6,7]<|vB<|lX (fun(v5:Int)=>Z (G1 v0.1 [p 5 (I v3),p 6 (R 6),p 7 (I v5)]) [(6,K 190 y190 v4),(1,K 134 y134 a0)]) 0 H fun _ g3 b3 e3 t3 v5 H=>vQ<|iA [1,3,5,6,7,59]<|cD H (fun H=>?_) (fun H=>?_)
  ·refine vK<|fQ<|vQ<|vB<|iB [1,3,5,6,7,92] H fun H=>cD H (fun H=>iA [2]<|vTT<|fDD<|fR<|t3<|fDD<|fDD<|t2<|t1<|fDD<|t0<|hr H) fun H=>vK<|fK<|fQ<|jB [1,3,5,6,7] H fun H=>b3 H
  exact vE<|fE<|e3<|fX rfl<|fK<|n2 H
 exact vE<|fE<|e1<|fX rfl<|n0 H
def u98J0(a0:List Y134):Unit->Option Bool
 | _ =>
 some (decide ((a0.length:Int)<=8))
def u98J2(v1:Int)(g1:Int->Option Bool):Unit->Option Bool
 | _ =>
 gd (in64 (v1+1)/\True) <|
 g1 (v1+1)
def u98L3(a0:List Y134)(v1:Int)(g1:Int->Option Bool)(g3:Int->Option Bool):Int->Option Bool
 | v2 =>
 if(decide (v2<v1)) then
  gd (ix v2 a0.length/\ix v1 a0.length/\True) <|
  if(decide ((a0.getD v2.toNat (dflt y134)).1=(a0.getD v1.toNat (dflt y134)).1)) then
   some false
  else
   gd (in64 (v2+1)/\True) <|
   g3 (v2+1)
 else
  u98J2 v1 g1 ()
def u98L1(a0:List Y134)(g1:Int->Option Bool):Int->Option Bool
 | v1 =>
 if(decide (v1 < (a0.length:Int))) then
  gd (ix v1 a0.length/\(u141 (a0.getD v1.toNat (dflt y134))).isSome/\True) <|
  if(!vl (u141 (a0.getD v1.toNat (dflt y134)))) then
   some false
  else
   lp (u98L3 a0 v1 g1) 0
 else
  u98J0 a0 ()
def u98(a0:List Y134):Option Bool :=
 lp (u98L1 a0) 0
def k98:Ct:=lct 98 [.agg y134.sl] (fun x=>u98 x.1) (fun r:Bool=>B r) (fun _=>())
theorem o98:Ok prog k98:=by
 refine okM [.tmp 2] func98 ?_;intro y ⟨a0,_⟩ r H Q hn hr;have:=hz (tc o141 tn);refine iA [1]<|jN r (fun(_:Unit)=>Z [p 1 (R 1)] [(1,bx 44 [L y134 a0])]) (u98J0 a0) (fun _ H=>?_) (fun _ n0 e0 t0=>?_)
 ·refine iA [2]<|vTT<|hr H
 refine iA [1,3]<|vB<|lX (fun(v1:Int)=>Z (G1 v1 []) [(1,bx 44 [L y134 a0])]) 0 H fun _ g1 b1 e1 t1 v1 H=>vQ<|iA [1,3,9]<|cD H (fun H=>?_) (fun H=>?_)
 ·refine vK<|fQ<|jN r (fun(_:Unit)=>Z (G1 v1 []) [(1,bx 44 [L y134 a0])]) (u98J2 v1 g1) (fun _ H=>?_) (fun _ n2 e2 t2=>?_)
  ·refine jB [1,3] H fun H=>b1 H
  refine vB<|vQ<|iB [1,3,18] H fun H=>cD H (fun H=>iA [2]<|vTT<|fR<|fDD<|t2<|t1<|fDD<|t0<|hr H) fun H=>vK<|fQ<|iA [1,3,4]<|vB<|lX (fun(v2:Int)=>Z (G1 v1 [p 4 (I v2)]) [(1,bx 44 [L y134 a0])]) 0 H fun _ g3 b3 e3 t3 v2 H=>vQ<|iA [1,3,4,21]<|cD H (fun H=>?_) (fun H=>?_)
  ·refine vK<|fQ<|vQ<|vB<|iB [1,3,4,36] H fun H=>cD H (fun H=>iA [2]<|vTT<|fDD<|fR<|t3<|fDD<|fDD<|t2<|t1<|fDD<|t0<|hr H) fun H=>vK<|fK<|fQ<|jB [1,3,4] H fun H=>b3 H
  exact vE<|fE<|e3<|fX rfl<|fK<|n2 H
 exact vE<|fE<|e1<|fX rfl<|n0 H
def u71J9:Unit->Option Bool
 | _ =>
 some true
def u71L10(v20:List Int)(g10:Int->Option Bool):Int->Option Bool
 | v21 =>
 if(decide (v21 < (v20.length:Int))) then
  gd (ix v21 v20.length/\v21.toNat<v20.length/\True) <|
  if(v20.getD v21.toNat 0 != 1) then
   some false
  else
   gd (in64 (v21+1)/\True) <|
   g10 (v21+1)
 else
  u71J9 ()
def u71J6:List Int->Option Bool
 | v20 =>
 lp (u71L10 v20) 0
def u71J8(v16:Int)(g7:Int×List Int->Option Bool):List Int->Option Bool
 | v19 =>
 gd (in64 (v16+1)/\True) <|
 g7 (v16+1,v19)
def u71L7(a1:Y48)(g7:Int×List Int->Option Bool):Int×List Int->Option Bool
 | (v16,v17) =>
 if(decide (v16 < (a1.2.2.length:Int))) then
  gd (ix v16 a1.2.2.length/\True) <|
  if((a1.2.2.getD v16.toNat (dflt y138)).2.1==1) then
   gd (ix v16 a1.2.2.length/\ix (a1.2.2.getD v16.toNat (dflt y138)).2.2 v17.length/\(a1.2.2.getD v16.toNat (dflt y138)).2.2.toNat<v17.length/\in64 (v17.getD (a1.2.2.getD v16.toNat (dflt y138)).2.2.toNat 0+1)/\ix (a1.2.2.getD v16.toNat (dflt y138)).2.2 v17.length/\(a1.2.2.getD v16.toNat (dflt y138)).2.2.toNat<v17.length/\True)<|lt (v17.set (a1.2.2.getD v16.toNat (dflt y138)).2.2.toNat (v17.getD (a1.2.2.getD v16.toNat (dflt y138)).2.2.toNat 0+1)) fun v18 =>
   u71J8 v16 g7 v18
  else
   u71J8 v16 g7 v17
 else
  u71J6 v17
def u71J4(a1:Y48):List Int->Option Bool
 | v13 =>
 lp (u71L7 a1) (0,v13)
def u71L5(a1:Y48)(g5:Int×List Int->Option Bool):Int×List Int->Option Bool
 | (v9,v10) =>
 if(decide (v9 < (a1.1.length:Int))) then
  gd (ix v9 a1.1.length/\True)<|lt (a1.1.getD v9.toNat (dflt y94)) fun v11 =>
  gd (in64 ((v11.2.2.length:Int)-1)/\ix ((v11.2.2.length:Int)-1) v11.2.2.length/\ix (v11.2.2.getD ((v11.2.2.length:Int)-1).toNat 0) v10.length/\Int.toNat (v11.2.2.getD ((v11.2.2.length:Int)-1).toNat 0)<v10.length/\in64 (v10.getD (Int.toNat (v11.2.2.getD ((v11.2.2.length:Int)-1).toNat 0)) 0+1)/\ix (v11.2.2.getD ((v11.2.2.length:Int)-1).toNat 0) v10.length/\Int.toNat (v11.2.2.getD ((v11.2.2.length:Int)-1).toNat 0)<v10.length/\True)<|lt (v10.set (Int.toNat (v11.2.2.getD ((v11.2.2.length:Int)-1).toNat 0)) (v10.getD (Int.toNat (v11.2.2.getD ((v11.2.2.length:Int)-1).toNat 0)) 0+1)) fun v12 =>
  gd (in64 (v9+1)/\True) <|
  g5 (v9+1,v12)
 else
  u71J4 a1 v10
def u71J2(a1:Y48)(v2:List ByteArray):List ByteArray->Option Bool
 | v6 =>
 gd ((u100 v2).isSome/\((!vl (u100 v2))=false/\True->(u100 v6).isSome)/\((!vl (u100 v2)||!vl (u100 v6))=false/\True->(u100 a1.2.1).isSome)/\True) <|
 if(!vl (u100 v2)||!vl (u100 v6)||!vl (u100 a1.2.1)) then
  some false
 else
  gd ((0<=(a1.2.1.length:Int)/\(a1.2.1.length:Int)=(a1.2.1.length:Int)/\(a1.2.1.length:Int).toNat*8<=281474976710656/\(a1.2.1.length:Int)<=9223372036854775807)/\True) <|
  lp (u71L5 a1) ((0,List.replicate (a1.2.1.length:Int).toNat 0))
def u71L3(a1:Y48)(v2:List ByteArray)(g3:Int×List ByteArray->Option Bool):Int×List ByteArray->Option Bool
 | (v4,v5) =>
 if(decide (v4 < (a1.2.2.length:Int))) then
  gd (ix v4 a1.2.2.length/\(v5.length+[(a1.2.2.getD v4.toNat (dflt y138)).1].length<=9223372036854775807/\(v5.length+[(a1.2.2.getD v4.toNat (dflt y138)).1].length)*16<=140737488355328)/\True) <|
  gd (in64 (v4+1)/\True) <|
  g3 ((v4+1,v5++[(a1.2.2.getD v4.toNat (dflt y138)).1]))
 else
  u71J2 a1 v2 v5
def u71J0(a1:Y48):List ByteArray->Option Bool
 | v2 =>
 lp (u71L3 a1 v2) (0,[])
def u71L1(a1:Y48)(g1:Int×List ByteArray->Option Bool):Int×List ByteArray->Option Bool
 | (v0,v1) =>
 if(decide (v0 < (a1.1.length:Int))) then
  gd (ix v0 a1.1.length/\(v1.length+[(a1.1.getD v0.toNat (dflt y94)).1].length<=9223372036854775807/\(v1.length+[(a1.1.getD v0.toNat (dflt y94)).1].length)*16<=140737488355328)/\True) <|
  gd (in64 (v0+1)/\True) <|
  g1 ((v0+1,v1++[(a1.1.getD v0.toNat (dflt y94)).1]))
 else
  u71J0 a1 v1
def u71(a0:List Y134)(a1:Y48):Option Bool :=
 gd ((u98 a0).isSome/\((!vl (u98 a0)||decide (14 < (a1.1.length:Int))||decide (30 < (a1.2.1.length:Int))||decide (8 < (a1.2.2.length:Int)))=false/\True->(u99 a0 a1).isSome)/\True) <|
 if(!vl (u98 a0)||decide (14 < (a1.1.length:Int))||decide (30 < (a1.2.1.length:Int))||decide (8 < (a1.2.2.length:Int))||!vl (u99 a0 a1)) then
  some false
 else
  lp (u71L1 a1) (0,[])
def k71:Ct:=lct 71 [.agg y134.sl,.agg y48] (fun x=>u71 x.1 x.2.1) (fun r:Bool=>B r) (fun _=>())
theorem o71:Ok prog k71:=by
 refine okM [.tmp 4] func71 ?_;intro y ⟨_,a1,_⟩ r H Q hn hr;have:=hz (tc o100 (tc o99 (tc o98 tn)));refine iA [2,3]<|vQ<|iB [3,40] H fun H=>cD H (fun H=>iA [4]<|vTT<|fR<|hr H) fun H=>vK<|fQ<|iA [3,5]<|jN r (fun(v2:List ByteArray)=>Z [p 3 (R 3),p 5 (O 41)] [(41,A 9 Ty.str v2 0),(3,K 48 y48 a1)]) (u71J0 a1) (fun v2 H=>?_) (fun _ n0 e0 t0=>?_)
 ·refine iA [3,5,7]<|jN r (fun(v6:List ByteArray)=>Z [p 3 (R 3),p 5 (O 41),p 7 (O 58)] [(58,A 9 Ty.str v6 0),(41,A 9 Ty.str v2 0),(3,K 48 y48 a1)]) (u71J2 a1 v2) (fun v6 H=>?_) (fun _ n2 e2 t2=>?_)
  ·refine vQ<|iB [3,88] H fun H=>cD H (fun H=>iA [4]<|vTT<|fR<|hr H) fun H=>vK<|fQ<|iB [3,9] H fun H=>jN r (fun(v13:List Int)=>Z [p 3 (R 3),p 9 (O 92)] (W5 v13 a1)) (u71J4 a1) (fun v13 H=>?_) (fun _ n4 e4 t4=>?_)
   ·refine jN r (fun(v20:List Int)=>Z [p 9 (O 92)] [(92,A 2 i64 v20 0)]) (u71J6) (fun v20 H=>?_) (fun _ n6 e6 t6=>?_)
    ·refine jN r (fun(_:Unit)=>Z [] []) (u71J9) (fun _ H=>?_) (fun _ n9 e9 t9=>?_)
     ·refine iA [4]<|vTT<|hr H
     refine iA [9,13]<|vB<|lX (fun(v21:Int)=>Z [p 9 (O 92),p 13 (I v21)] [(92,A 2 i64 v20 0)]) 0 H fun _ g10 b10 e10 t10 v21 H=>vQ<|iA [9,13,145]<|cD H (fun H=>?_) (fun H=>?_)
     ·refine vK<|fQ<|vQ<|vB<|iB [9,13,152] H fun H=>cD H (fun H=>iA [4]<|vTT<|fDD<|fR<|t10<|fDD<|t9<|hr H) fun H=>vK<|fK<|fQ<|jB [9,13] H fun H=>b10 H
     exact vE<|fE<|e10<|fX rfl<|n9 H
    refine iA [3,9,12]<|vB<|lX (fun((v16,v17):Int×List Int)=>Z [p 3 (R 3),p 9 (O 92),p 12 (I v16)] (W5 v17 a1)) (0,v13) H fun _ g7 b7 e7 t7 ⟨v16,v17⟩ H=>vQ<|iA [3,9,12,121]<|cD H (fun H=>?_) (fun H=>?_)
    ·refine vK<|fQ<|jN r (fun(v19:List Int)=>Z [p 3 (R 3),p 9 (O 92),p 12 (I v16)] (W5 v19 a1)) (u71J8 v16 g7) (fun v19 H=>?_) (fun _ n8 e8 t8=>?_)
     ·refine jB [3,9,12] H fun H=>b7 H
     refine vB<|iB [3,9,12,130] H fun H=>cD H (fun H=>zD (fun v18=>Z [p 3 (R 3),p 9 (O 92),p 12 (I v16)] (W5 v18 a1)) H fun v18 H=>fK<|n8 H) fun H=>vK<|fK<|n8 H
    exact vE<|fE<|e7<|fX rfl<|n6 H
   refine iA [3,9,10]<|vB<|lX (fun((v9,v10):Int×List Int)=>Z [p 3 (R 3),p 9 (O 92),p 10 (I v9)] (W5 v10 a1)) ((0,List.replicate (a1.2.1.length:Int).toNat 0)) H fun _ g5 b5 e5 t5 ⟨v9,v10⟩ H=>vQ<|iA [3,9,10,97]<|cD H (fun H=>vK<|fQ<|vQ<|vB<|qD (fun v11=>Z [p 3 (R 3),p 9 (O 92),p 10 (I v9),p 11 (L i64 v11.2.2)] (W5 v10 a1)) H fun v11 H=>zD (fun v12=>Z [p 3 (R 3),p 9 (O 92),p 10 (I v9)] (W5 v12 a1)) H fun v12 H=>fK<|fQ<|jB [3,9,10] H fun H=>b5 H) fun H=>vE<|fE<|e5<|fX rfl<|n4 H
  refine iA [3,5,7,8]<|vB<|lX (fun((v4,v5):Int×List ByteArray)=>Z [p 3 (R 3),p 5 (O 41),p 7 (O 58),p 8 (I v4)] [(58,A 9 Ty.str v5 0),(41,A 9 Ty.str v2 0),(3,K 48 y48 a1)]) (0,[]) H fun _ g3 b3 e3 t3 ⟨v4,v5⟩ H=>vQ<|iA [3,5,7,8,63]<|cD H (fun H=>vK<|fQ<|vQ<|vB<|jB [3,5,7,8] H fun H=>fK<|fQ<|jB [3,5,7,8] H fun H=>b3 H) fun H=>vE<|fE<|e3<|fX rfl<|n2 H
 refine iA [3,5,6]<|vB<|lX (fun((v0,v1):Int×List ByteArray)=>Z [p 3 (R 3),p 5 (O 41),p 6 (I v0)] [(41,A 9 Ty.str v1 0),(3,K 48 y48 a1)]) (0,[]) H fun _ g1 b1 e1 t1 ⟨v0,v1⟩ H=>vQ<|iA [3,5,6,46]<|cD H (fun H=>vK<|fQ<|vQ<|vB<|jB [3,5,6] H fun H=>fK<|fQ<|jB [3,5,6] H fun H=>b1 H) fun H=>vE<|fE<|e1<|fX rfl<|n0 H
def u43J0:Unit->Option Bool
 | _ =>
 some true
def u43L1(a0:Y51)(g1:Int->Option Bool):Int->Option Bool
 | v1 =>
 if(decide (v1 < (a0.2.2.length:Int))) then
  gd (ix v1 a0.2.2.length/\(u73 a0.2.1 v1).isSome/\(u72 (a0.2.2.getD v1.toNat (dflt y53)) (↑(vl (u73 a0.2.1 v1)).length:Int)).isSome/\True)<|lt (vl (u73 a0.2.1 v1)) fun v2 =>
  if(!vl (u72 (a0.2.2.getD v1.toNat (dflt y53)) (v2.length:Int))) then
   some false
  else
   gd (in64 (v1+1)/\True) <|
   g1 (v1+1)
 else
  u43J0 ()
def u43(a0:Y51):Option Bool :=
 gd ((u71 a0.1 a0.2.1).isSome/\True) <|
 if(!vl (u71 a0.1 a0.2.1)||(a0.2.2.length:Int) != (a0.2.1.2.1.length:Int)) then
  some false
 else
  lp (u43L1 a0) 0
def k43:Ct:=lct 43 [.agg y51] (fun x=>u43 x.1) (fun r:Bool=>B r) (fun _=>())
theorem o43:Ok prog k43:=by
 refine okM [.tmp 2] func43 ?_;intro y ⟨a0,_⟩ r H Q hn hr;have:=hz (tc o72 (tc o73 (tc o71 tn)));refine iA [1]<|vQ<|iB [1,19] H fun H=>cD H (fun H=>iA [2]<|vTT<|fR<|hr H) fun H=>vK<|fQ<|jN r (fun(_:Unit)=>Z [] []) (u43J0) (fun _ H=>?_) (fun _ n0 e0 t0=>?_)
 ·refine iA [2]<|vTT<|hr H
 refine iA [1,3]<|vB<|lX (fun(v1:Int)=>Z (G1 v1 []) [(1,K 51 y51 a0)]) 0 H fun _ g1 b1 e1 t1 v1 H=>vQ<|iA [1,3,24]<|cD H (fun H=>?_) (fun H=>?_)
 ·refine vK<|fQ<|vQ<|vB<|iD o73 [1,3,38] H fun _ H=>cD H (fun H=>iA [2]<|vTT<|fDD<|fR<|t1<|fDD<|t0<|hr H) fun H=>vK<|fK<|fQ<|jB [1,3] H fun H=>b1 H
 exact vE<|fE<|e1<|fX rfl<|n0 H
def u21(a0:Y51)(a1:Y55):Option Int :=
 gd ((u43 a0).isSome/\True) <|
 if(!vl (u43 a0)) then
  some 1
 else
  gd ((u44 a1).isSome/\((!vl (u44 a1))=false/\True->(u45 a0 a1).isSome)/\True) <|
  if(!vl (u44 a1)||!vl (u45 a0 a1)) then
   some 2
  else
   gd ((u46 a0 a1).isSome/\True) <|
   if(!vl (u46 a0 a1)) then
    some 5
   else
    if(a1.1==2&&((a0.2.1.1.length:Int)==14||(a0.2.2.length:Int)==30)) then
     some 3
    else
     some 0
def k21:Ct:=lct 21 [.agg y51,.agg y55] (fun x=>u21 x.1 x.2.1) (fun r:Int=>I r) (fun _=>())
theorem o21:Ok prog k21:=by
 refine okM [.tmp 4] func21 ?_;intro y ⟨_,_,_⟩ r H Q hn hr;have:=hz (tc o46 (tc o45 (tc o44 (tc o43 tn))));refine iA [2,3]<|vQ<|vB<|iB [2,3,5] H fun H=>cD H (fun H=>iA [4]<|vTT<|fDD<|fR<|hr H) fun H=>iB [2,3,9] H fun H=>cD H (fun H=>iA [4]<|vTT<|fDD<|fR<|hr H) fun H=>iB [2,3,19] H fun H=>cD H (fun H=>iA [4]<|vTT<|fDD<|fR<|hr H) fun H=>iA [24]<|cD H (fun H=>iA [4]<|vTT<|fDD<|fR<|hr H) fun H=>vK<|fK<|fQ<|iA [4]<|vTT<|hr H
def u6J0:List Int->Option (List Int×Int)
 | v6 =>
 some ((v6,(0:Int)))
def u6J2(v3:Int)(g1:Int×List Int->Option (List Int×Int)):List Int->Option (List Int×Int)
 | v5 =>
 gd (in64 (v3+1)/\True) <|
 g1 (v3+1,v5)
def u6L1(v1:List Int)(a0:Y51)(g1:Int×List Int->Option (List Int×Int)):Int×List Int->Option (List Int×Int)
 | (v3,v4) =>
 if(decide (v3<=(a0.2.2.length:Int))) then
  gd ((u23 v1 v3).isSome/\True) <|
  if(vl (u23 v1 v3)) then
   gd ((v4.length+[v3].length<=9223372036854775807/\(v4.length+[v3].length)*8<=140737488355328)/\True) <|
   u6J2 v3 g1 (v4++[v3])
  else
   u6J2 v3 g1 v4
 else
  u6J0 v4
def u6(a0:Y51)(a1:Y55):Option (List Int×Int) :=
 gd ((u21 a0 a1).isSome/\True)<|lt (vl (u21 a0 a1)) fun v0 =>
 if(v0 != 0) then
  some ([],v0)
 else
  gd ((u22 a0 a1).isSome/\True)<|lt (vl (u22 a0 a1)) fun v1 =>
  lp (u6L1 v1 a0) (0,[])
def k6:Ct:=lct 6 [.agg y51,.agg y55] (fun x=>u6 x.1 x.2.1) (fun r:List Int×Int=>AV.tup [AV.ow 2 true i64 r.1,I r.2]) (fun _=>())
theorem o6:Ok prog k6:=by
 refine okM [.tmp 4,.tmp 5] func6 ?_;intro y ⟨a0,_,_⟩ r H Q hn hr;have:=hz (tc o23 (tc o22 (tc o21 tn)));refine iA [2,3]<|iD o21 [2,3,6] H fun _ H=>vQ<|iA [2,3,6,14]<|cD H (fun H=>iA [4,5]<|vTT<|fR<|hr H) fun H=>vK<|fQ<|iD o22 [2,7] H fun v1 H=>iA [2,7,8]<|jN r (fun(v6:List Int)=>Z [p 8 (O 19)] [(19,A 2 i64 v6 0)]) (u6J0) (fun v6 H=>?_) (fun _ n0 e0 t0=>?_)
 ·refine iA [4,5]<|vTT<|hr H
 refine iA [2,7,8,9]<|vB<|lX (fun((v3,v4):Int×List Int)=>Z [p 2 (R 2),p 7 (L i64 v1),p 8 (O 19),p 9 (I v3)] [(19,A 2 i64 v4 0),(2,K 51 y51 a0)]) (0,[]) H fun _ g1 b1 e1 t1 ⟨v3,v4⟩ H=>vQ<|iA [2,7,8,9,24]<|cD H (fun H=>?_) (fun H=>?_)
 ·refine vK<|fQ<|jN r (fun(v5:List Int)=>Z [p 2 (R 2),p 7 (L i64 v1),p 8 (O 19),p 9 (I v3)] [(19,A 2 i64 v5 0),(2,K 51 y51 a0)]) (u6J2 v3 g1) (fun v5 H=>?_) (fun _ n2 e2 t2=>?_)
  ·refine jB [2,7,8,9] H fun H=>b1 H
  refine vB<|iB [2,7,8,9,29] H fun H=>cD H (fun H=>jB [2,7,8,9] H fun H=>fK<|n2 H) fun H=>vK<|fK<|n2 H
 exact vE<|fE<|e1<|fX rfl<|n0 H
def u52J0:List Int->Option (List Int)
 | v3 =>
 some v3
def u52L1(a0:List Int)(g1:Int×List Int->Option (List Int)):Int×List Int->Option (List Int)
 | (v1,v2) =>
 if(decide (v1 < (a0.length:Int))) then
  gd (ix v1 a0.length/\ix v1 v2.length/\v1.toNat<v2.length/\True) <|
  gd (in64 (v1+1)/\True) <|
  g1 ((v1+1,v2.set v1.toNat (a0.getD v1.toNat 0)))
 else
  u52J0 v2
def u52(a0:List Int):Option (List Int) :=
 gd ((0<=(a0.length:Int)/\(a0.length:Int)=(a0.length:Int)/\(a0.length:Int).toNat*8<=281474976710656/\(a0.length:Int)<=9223372036854775807)/\True) <|
 lp (u52L1 a0) ((0,List.replicate (a0.length:Int).toNat 0))
def k52:Ct:=lct 52 [.dat i64.sl] (fun x=>u52 x.1) (fun r:List Int=>AV.ow 2 true i64 r) (fun _=>())
theorem o52:Ok prog k52:=by
 refine okM [.tmp 2] func52 ?_;intro y ⟨a0,_⟩ r H Q hn hr;refine iA [0]<|iB [0,3] H fun H=>jN r (fun(v3:List Int)=>Z [p 3 (O 7)] [(7,A 2 i64 v3 0)]) (u52J0) (fun v3 H=>?_) (fun _ n0 e0 t0=>?_)
 ·refine iA [2]<|vTT<|hr H
 refine iA [0,3,4]<|vB<|lX (fun((v1,v2):Int×List Int)=>Z [p 0 (L i64 a0),p 3 (O 7),p 4 (I v1)] [(7,A 2 i64 v2 0)]) ((0,List.replicate (a0.length:Int).toNat 0)) H fun _ g1 b1 e1 t1 ⟨v1,v2⟩ H=>vQ<|iA [0,3,4,11]<|cD H (fun H=>vK<|fQ<|vQ<|vB<|jB [0,3,4] H fun H=>fK<|fQ<|jB [0,3,4] H fun H=>b1 H) fun H=>vE<|fE<|e1<|fX rfl<|n0 H
def u27(a0:Y35):Option Y53 :=
 gd ((u52 a0.1).isSome/\True)<|lt (vl (u52 a0.1)) fun v0 =>
 gd ((u52 a0.2.1).isSome/\True)<|lt (vl (u52 a0.2.1)) fun v1 =>
 gd ((u52 a0.2.2.1).isSome/\True)<|lt (vl (u52 a0.2.2.1)) fun v2 =>
 gd ((u52 a0.2.2.2).isSome/\True)<|lt (vl (u52 a0.2.2.2)) fun v3 =>
 some (v0,v1,v2,v3)
def k27:Ct:=lct 27 [.agg y35] (fun x=>u27 x.1) (fun r:Y53=>AV.agg [AV.ow 2 true i64 r.1,AV.ow 2 true i64 r.2.1,AV.ow 2 true i64 r.2.2.1,AV.ow 2 true i64 r.2.2.2]) (fun _=>())
theorem o27:Ok prog k27:=by
 refine okM [.cell 2 53] func27 ?_;intro y ⟨_,_⟩ r H Q hn hr;have:=hz (tc o52 tn);refine iA [1,2]<|iA [1,2,3]<|iD o52 [1,2,3] H fun _ H=>iD o52 [1,2,3] H fun _ H=>iD o52 [1,2,3] H fun _ H=>iD o52 [2,3] H fun _ H=>iA [2]<|vTT<|hr H
def k27d:Ct:=lct 27 [.agg y35] (fun x=>u27 x.1) (fun r=>frz ((fun r:Y53=>AV.agg [AV.ow 2 true i64 r.1,AV.ow 2 true i64 r.2.1,AV.ow 2 true i64 r.2.2.1,AV.ow 2 true i64 r.2.2.2]) r)) (fun _=>())
theorem o27d:Ok prog k27d:=ok_frz o27
def u26J0:List Y53->Option (List Y53)
 | v5 =>
 some v5
def u26L1(a0:List Y35)(g1:Int×List Y53->Option (List Y53)):Int×List Y53->Option (List Y53)
 | (v2,v3) =>
 if(decide (v2 < (a0.length:Int))) then
  gd (ix v2 a0.length/\(u27 (a0.getD v2.toNat (dflt y35))).isSome/\ix v2 v3.length/\v2.toNat<v3.length/\True)<|lt (vl (u27 (a0.getD v2.toNat (dflt y35)))) fun v4 =>
  gd (in64 (v2+1)/\True) <|
  g1 (v2+1,v3.set v2.toNat v4)
 else
  u26J0 v3
def u26(a0:List Y35):Option (List Y53) :=
 gd ((0<=(a0.length:Int)/\(a0.length:Int)=(a0.length:Int)/\(a0.length:Int).toNat*96<=281474976710656/\(a0.length:Int)<=9223372036854775807)/\True) <|
 lp (u26L1 a0) ((0,List.replicate (a0.length:Int).toNat ([],[],[],[])))
def k26:Ct:=lct 26 [.dat y35.sl] (fun x=>u26 x.1) (fun r:List Y53=>AV.ow 53 true y53 r) (fun _=>())
theorem o26:Ok prog k26:=by
 refine okM [.tmp 2] func26 ?_;intro y ⟨a0,_⟩ r H Q hn hr;have:=hz (tc o27d tn);refine iA [0]<|iB [0,3] H fun H=>jN r (fun(v5:List Y53)=>Z [p 3 (O 7)] [(7,A 53 y53 v5 0)]) (u26J0) (fun v5 H=>?_) (fun _ n0 e0 t0=>?_)
 ·refine iA [2]<|vTT<|hr H
 refine iA [0,3,4]<|vB<|lX (fun((v2,v3):Int×List Y53)=>Z [p 0 (L y35 a0),p 3 (O 7),p 4 (I v2)] [(7,A 53 y53 v3 0)]) ((0,List.replicate (a0.length:Int).toNat ([],[],[],[]))) H fun _ g1 b1 e1 t1 ⟨v2,v3⟩ H=>vQ<|iA [0,3,4,11]<|cD H (fun H=>vK<|fQ<|vQ<|vB<|zD (fun v4=>Z [p 0 (L y35 a0),p 3 (O 7),p 4 (I v2)] [(7,A 53 y53 (v3.set v2.toNat v4) 0)]) H fun v4 H=>fK<|fQ<|jB [0,3,4] H fun H=>b1 H) fun H=>vE<|fE<|e1<|fX rfl<|n0 H
def u83(a0:Y125):Option Y138 :=
 some a0
def k83:Ct:=lct 83 [.agg y125] (fun x=>u83 x.1) (fun r:Y138=>AV.agg [S r.1,I r.2.1,I r.2.2]) (fun _=>())
theorem o83:Ok prog k83:=by
 refine okM [.cell 2 138] func83 ?_;intro y ⟨_,_⟩ r H Q hn hr;refine iA [1,2]<|iA [1,2,3]<|iA [1,2,3]<|iA [1,2,3]<|iA [2,3]<|iA [2]<|vTT<|hr H
def u51J0:List Y138->Option (List Y138)
 | v5 =>
 some v5
def u51L1(a0:List Y125)(g1:Int×List Y138->Option (List Y138)):Int×List Y138->Option (List Y138)
 | (v2,v3) =>
 if(decide (v2 < (a0.length:Int))) then
  gd (ix v2 a0.length/\(u83 (a0.getD v2.toNat (dflt y125))).isSome/\ix v2 v3.length/\v2.toNat<v3.length/\True)<|lt (vl (u83 (a0.getD v2.toNat (dflt y125)))) fun v4 =>
  gd (in64 (v2+1)/\True) <|
  g1 (v2+1,v3.set v2.toNat v4)
 else
  u51J0 v3
def u51(a0:List Y125):Option (List Y138) :=
 gd ((0<=(a0.length:Int)/\(a0.length:Int)=(a0.length:Int)/\(a0.length:Int).toNat*32<=281474976710656/\(a0.length:Int)<=9223372036854775807)/\True)<|lt (List.replicate (a0.length:Int).toNat (ByteArray.mk #[],(0:Int),(0:Int))) fun v0 =>
 lp (u51L1 a0) (0,v0)
def k51:Ct:=lct 51 [.dat y125.sl] (fun x=>u51 x.1) (fun r:List Y138=>AV.ow 138 true y138 r) (fun _=>())
theorem o51:Ok prog k51:=by
 refine okM [.tmp 2] func51 ?_;intro y ⟨a0,_⟩ r H Q hn hr;have:=hz (tc o83 tn);refine iA [0]<|qD (fun v0=>Z [p 0 (L y125 a0),p 3 (O 7)] [(7,A 138 y138 v0 0)]) H fun v0 H=>jN r (fun(v5:List Y138)=>Z [p 3 (O 7)] [(7,A 138 y138 v5 0)]) (u51J0) (fun v5 H=>?_) (fun _ n0 e0 t0=>?_)
 ·refine iA [2]<|vTT<|hr H
 refine iA [0,3,4]<|vB<|lX (fun((v2,v3):Int×List Y138)=>Z [p 0 (L y125 a0),p 3 (O 7),p 4 (I v2)] [(7,A 138 y138 v3 0)]) (0,v0) H fun _ g1 b1 e1 t1 ⟨v2,v3⟩ H=>vQ<|iA [0,3,4,11]<|cD H (fun H=>vK<|fQ<|vQ<|vB<|jD o83 [0,3,4] H fun _ H=>fK<|fQ<|jB [0,3,4] H fun H=>b1 H) fun H=>vE<|fE<|e1<|fX rfl<|n0 H
def u50J0:List ByteArray->Option (List ByteArray)
 | v3 =>
 some v3
def u50L1(a0:List ByteArray)(g1:Int×List ByteArray->Option (List ByteArray)):Int×List ByteArray->Option (List ByteArray)
 | (v1,v2) =>
 if(decide (v1 < (a0.length:Int))) then
  gd (ix v1 a0.length/\ix v1 v2.length/\v1.toNat<v2.length/\True) <|
  gd (in64 (v1+1)/\True) <|
  g1 ((v1+1,v2.set v1.toNat (a0.getD v1.toNat (dflt Ty.str))))
 else
  u50J0 v2
def u50(a0:List ByteArray):Option (List ByteArray) :=
 gd ((0<=(a0.length:Int)/\(a0.length:Int)=(a0.length:Int)/\(a0.length:Int).toNat*16<=281474976710656/\(a0.length:Int)<=9223372036854775807)/\True) <|
 lp (u50L1 a0) ((0,List.replicate (a0.length:Int).toNat (ByteArray.mk #[])))
def k50:Ct:=lct 50 [.dat Ty.str.sl] (fun x=>u50 x.1) (fun r:List ByteArray=>AV.ow 9 true Ty.str r) (fun _=>())
theorem o50:Ok prog k50:=by
 refine okM [.tmp 2] func50 ?_;intro y ⟨a0,_⟩ r H Q hn hr;refine iA [0]<|iB [0,3] H fun H=>jN r (fun(v3:List ByteArray)=>Z [p 3 (O 7)] [(7,A 9 Ty.str v3 0)]) (u50J0) (fun v3 H=>?_) (fun _ n0 e0 t0=>?_)
 ·refine iA [2]<|vTT<|hr H
 refine iA [0,3,4]<|vB<|lX (fun((v1,v2):Int×List ByteArray)=>Z [p 0 (L Ty.str a0),p 3 (O 7),p 4 (I v1)] [(7,A 9 Ty.str v2 0)]) ((0,List.replicate (a0.length:Int).toNat (ByteArray.mk #[]))) H fun _ g1 b1 e1 t1 ⟨v1,v2⟩ H=>vQ<|iA [0,3,4,11]<|cD H (fun H=>vK<|fQ<|vQ<|vB<|jB [0,3,4] H fun H=>fK<|fQ<|jB [0,3,4] H fun H=>b1 H) fun H=>vE<|fE<|e1<|fX rfl<|n0 H
def u82(a0:Y122):Option Y94 :=
 gd ((u52 a0.2.2).isSome/\True)<|lt (vl (u52 a0.2.2)) fun v0 =>
 some (a0.1,a0.2.1,v0)
def k82:Ct:=lct 82 [.agg y122] (fun x=>u82 x.1) (fun r:Y94=>AV.agg [S r.1,I r.2.1,AV.ow 2 true i64 r.2.2]) (fun _=>())
theorem o82:Ok prog k82:=by
 refine okM [.cell 2 94] func82 ?_;intro y ⟨_,_⟩ r H Q hn hr;have:=hz (tc o52 tn);refine iA [1,2]<|iA [1,2,3]<|iA [1,2,3]<|iA [1,2,3]<|iD o52 [2,3] H fun _ H=>iA [2]<|vTT<|hr H
def k82d:Ct:=lct 82 [.agg y122] (fun x=>u82 x.1) (fun r=>frz ((fun r:Y94=>AV.agg [S r.1,I r.2.1,AV.ow 2 true i64 r.2.2]) r)) (fun _=>())
theorem o82d:Ok prog k82d:=ok_frz o82
def u49J0:List Y94->Option (List Y94)
 | v5 =>
 some v5
def u49L1(a0:List Y122)(g1:Int×List Y94->Option (List Y94)):Int×List Y94->Option (List Y94)
 | (v2,v3) =>
 if(decide (v2 < (a0.length:Int))) then
  gd (ix v2 a0.length/\(u82 (a0.getD v2.toNat (dflt y122))).isSome/\ix v2 v3.length/\v2.toNat<v3.length/\True)<|lt (vl (u82 (a0.getD v2.toNat (dflt y122)))) fun v4 =>
  gd (in64 (v2+1)/\True) <|
  g1 (v2+1,v3.set v2.toNat v4)
 else
  u49J0 v3
def u49(a0:List Y122):Option (List Y94) :=
 gd ((0<=(a0.length:Int)/\(a0.length:Int)=(a0.length:Int)/\(a0.length:Int).toNat*48<=281474976710656/\(a0.length:Int)<=9223372036854775807)/\True)<|lt (List.replicate (a0.length:Int).toNat (ByteArray.mk #[],(0:Int),[])) fun v0 =>
 lp (u49L1 a0) (0,v0)
def k49:Ct:=lct 49 [.dat y122.sl] (fun x=>u49 x.1) (fun r:List Y94=>AV.ow 94 true y94 r) (fun _=>())
theorem o49:Ok prog k49:=by
 refine okM [.tmp 2] func49 ?_;intro y ⟨a0,_⟩ r H Q hn hr;have:=hz (tc o82d tn);refine iA [0]<|qD (fun v0=>Z [p 0 (L y122 a0),p 3 (O 7)] [(7,A 94 y94 v0 0)]) H fun v0 H=>jN r (fun(v5:List Y94)=>Z [p 3 (O 7)] [(7,A 94 y94 v5 0)]) (u49J0) (fun v5 H=>?_) (fun _ n0 e0 t0=>?_)
 ·refine iA [2]<|vTT<|hr H
 refine iA [0,3,4]<|vB<|lX (fun((v2,v3):Int×List Y94)=>Z [p 0 (L y122 a0),p 3 (O 7),p 4 (I v2)] [(7,A 94 y94 v3 0)]) (0,v0) H fun _ g1 b1 e1 t1 ⟨v2,v3⟩ H=>vQ<|iA [0,3,4,11]<|cD H (fun H=>vK<|fQ<|vQ<|vB<|zD (fun v4=>Z [p 0 (L y122 a0),p 3 (O 7),p 4 (I v2)] [(7,A 94 y94 (v3.set v2.toNat v4) 0)]) H fun v4 H=>fK<|fQ<|jB [0,3,4] H fun H=>b1 H) fun H=>vE<|fE<|e1<|fX rfl<|n0 H
def u25(a0:Y29):Option Y48 :=
 gd ((u49 a0.1).isSome/\True)<|lt (vl (u49 a0.1)) fun v0 =>
 gd ((u50 a0.2.1).isSome/\True)<|lt (vl (u50 a0.2.1)) fun v1 =>
 gd ((u51 a0.2.2).isSome/\True)<|lt (vl (u51 a0.2.2)) fun v2 =>
 some (v0,v1,v2)
def k25:Ct:=lct 25 [.agg y29] (fun x=>u25 x.1) (fun r:Y48=>AV.agg [AV.ow 94 true y94 r.1,AV.ow 9 true Ty.str r.2.1,AV.ow 138 true y138 r.2.2]) (fun _=>())
theorem o25:Ok prog k25:=by
 refine okM [.cell 2 48] func25 ?_;intro y ⟨_,_⟩ r H Q hn hr;have:=hz (tc o51 (tc o50 (tc o49 tn)));refine iA [1,2]<|iA [1,2,3]<|iD o49 [1,2,3] H fun _ H=>iD o50 [1,2,3] H fun _ H=>iD o51 [2,3] H fun _ H=>iA [2]<|vTT<|hr H
def u189(a0:Y238):Option Y217 :=
 gd ((u52 a0.1).isSome/\True)<|lt (vl (u52 a0.1)) fun v0 =>
 gd ((u52 a0.2.1).isSome/\True)<|lt (vl (u52 a0.2.1)) fun v1 =>
 gd ((u52 a0.2.2).isSome/\True)<|lt (vl (u52 a0.2.2)) fun v2 =>
 some (v0,v1,v2)
def k189:Ct:=lct 189 [.agg y238] (fun x=>u189 x.1) (fun r:Y217=>AV.agg [AV.ow 2 true i64 r.1,AV.ow 2 true i64 r.2.1,AV.ow 2 true i64 r.2.2]) (fun _=>())
theorem o189:Ok prog k189:=by
 refine okM [.cell 2 217] func189 ?_;intro y ⟨_,_⟩ r H Q hn hr;have:=hz (tc o52 tn);refine iA [1,2]<|iA [1,2,3]<|iD o52 [1,2,3] H fun _ H=>iD o52 [1,2,3] H fun _ H=>iD o52 [2,3] H fun _ H=>iA [2]<|vTT<|hr H
def k189d:Ct:=lct 189 [.agg y238] (fun x=>u189 x.1) (fun r=>frz ((fun r:Y217=>AV.agg [AV.ow 2 true i64 r.1,AV.ow 2 true i64 r.2.1,AV.ow 2 true i64 r.2.2]) r)) (fun _=>())
theorem o189d:Ok prog k189d:=ok_frz o189
def u170J0:List Y217->Option (List Y217)
 | v5 =>
 some v5
def u170L1(a0:List Y238)(g1:Int×List Y217->Option (List Y217)):Int×List Y217->Option (List Y217)
 | (v2,v3) =>
 if(decide (v2 < (a0.length:Int))) then
  gd (ix v2 a0.length/\(u189 (a0.getD v2.toNat (dflt y238))).isSome/\ix v2 v3.length/\v2.toNat<v3.length/\True)<|lt (vl (u189 (a0.getD v2.toNat (dflt y238)))) fun v4 =>
  gd (in64 (v2+1)/\True) <|
  g1 (v2+1,v3.set v2.toNat v4)
 else
  u170J0 v3
def u170(a0:List Y238):Option (List Y217) :=
 gd ((0<=(a0.length:Int)/\(a0.length:Int)=(a0.length:Int)/\(a0.length:Int).toNat*72<=281474976710656/\(a0.length:Int)<=9223372036854775807)/\True) <|
 lp (u170L1 a0) ((0,List.replicate (a0.length:Int).toNat ([],[],[])))
def k170:Ct:=lct 170 [.dat y238.sl] (fun x=>u170 x.1) (fun r:List Y217=>AV.ow 217 true y217 r) (fun _=>())
theorem o170:Ok prog k170:=by
 refine okM [.tmp 2] func170 ?_;intro y ⟨a0,_⟩ r H Q hn hr;have:=hz (tc o189d tn);refine iA [0]<|iB [0,3] H fun H=>jN r (fun(v5:List Y217)=>Z [p 3 (O 7)] [(7,A 217 y217 v5 0)]) (u170J0) (fun v5 H=>?_) (fun _ n0 e0 t0=>?_)
 ·refine iA [2]<|vTT<|hr H
 refine iA [0,3,4]<|vB<|lX (fun((v2,v3):Int×List Y217)=>Z [p 0 (L y238 a0),p 3 (O 7),p 4 (I v2)] [(7,A 217 y217 v3 0)]) ((0,List.replicate (a0.length:Int).toNat ([],[],[]))) H fun _ g1 b1 e1 t1 ⟨v2,v3⟩ H=>vQ<|iA [0,3,4,11]<|cD H (fun H=>vK<|fQ<|vQ<|vB<|zD (fun v4=>Z [p 0 (L y238 a0),p 3 (O 7),p 4 (I v2)] [(7,A 217 y217 (v3.set v2.toNat v4) 0)]) H fun v4 H=>fK<|fQ<|jB [0,3,4] H fun H=>b1 H) fun H=>vE<|fE<|e1<|fX rfl<|n0 H
def u143(a0:Y197):Option Y190 :=
 gd ((u170 a0.2.2.2.2.1).isSome/\True)<|lt (vl (u170 a0.2.2.2.2.1)) fun v0 =>
 gd ((u170 a0.2.2.2.2.2).isSome/\True)<|lt (vl (u170 a0.2.2.2.2.2)) fun v1 =>
 some (a0.1,a0.2.1,a0.2.2.1,a0.2.2.2.1,v0,v1)
def k143:Ct:=lct 143 [.agg y197] (fun x=>u143 x.1) (fun r:Y190=>AV.agg [I r.1,I r.2.1,I r.2.2.1,I r.2.2.2.1,AV.ow 217 true y217 r.2.2.2.2.1,AV.ow 217 true y217 r.2.2.2.2.2]) (fun _=>())
theorem o143:Ok prog k143:=by
 refine okM [.cell 2 190] func143 ?_;intro y ⟨_,_⟩ r H Q hn hr;have:=hz (tc o170 tn);refine iA [1,2]<|iA [1,2,3]<|iA [1,2,3]<|iA [1,2,3]<|iA [1,2,3]<|iA [1,2,3]<|iD o170 [1,2,3] H fun _ H=>iD o170 [2,3] H fun _ H=>iA [2]<|vTT<|hr H
def k143d:Ct:=lct 143 [.agg y197] (fun x=>u143 x.1) (fun r=>frz ((fun r:Y190=>AV.agg [I r.1,I r.2.1,I r.2.2.1,I r.2.2.2.1,AV.ow 217 true y217 r.2.2.2.2.1,AV.ow 217 true y217 r.2.2.2.2.2]) r)) (fun _=>())
theorem o143d:Ok prog k143d:=ok_frz o143
def u104J0:List Y190->Option (List Y190)
 | v5 =>
 some v5
def u104L1(a0:List Y197)(g1:Int×List Y190->Option (List Y190)):Int×List Y190->Option (List Y190)
 | (v2,v3) =>
 if(decide (v2 < (a0.length:Int))) then
  gd (ix v2 a0.length/\(u143 (a0.getD v2.toNat (dflt y197))).isSome/\ix v2 v3.length/\v2.toNat<v3.length/\True)<|lt (vl (u143 (a0.getD v2.toNat (dflt y197)))) fun v4 =>
  gd (in64 (v2+1)/\True) <|
  g1 (v2+1,v3.set v2.toNat v4)
 else
  u104J0 v3
def u104(a0:List Y197):Option (List Y190) :=
 gd ((0<=(a0.length:Int)/\(a0.length:Int)=(a0.length:Int)/\(a0.length:Int).toNat*80<=281474976710656/\(a0.length:Int)<=9223372036854775807)/\True)<|lt (List.replicate (a0.length:Int).toNat ((0:Int),(0:Int),(0:Int),(0:Int),[],[])) fun v0 =>
 lp (u104L1 a0) (0,v0)
def k104:Ct:=lct 104 [.dat y197.sl] (fun x=>u104 x.1) (fun r:List Y190=>AV.ow 190 true y190 r) (fun _=>())
theorem o104:Ok prog k104:=by
 refine okM [.tmp 2] func104 ?_;intro y ⟨a0,_⟩ r H Q hn hr;have:=hz (tc o143d tn);refine iA [0]<|qD (fun v0=>Z [p 0 (L y197 a0),p 3 (O 7)] [(7,A 190 y190 v0 0)]) H fun v0 H=>jN r (fun(v5:List Y190)=>Z [p 3 (O 7)] [(7,A 190 y190 v5 0)]) (u104J0) (fun v5 H=>?_) (fun _ n0 e0 t0=>?_)
 ·refine iA [2]<|vTT<|hr H
 refine iA [0,3,4]<|vB<|lX (fun((v2,v3):Int×List Y190)=>Z [p 0 (L y197 a0),p 3 (O 7),p 4 (I v2)] [(7,A 190 y190 v3 0)]) (0,v0) H fun _ g1 b1 e1 t1 ⟨v2,v3⟩ H=>vQ<|iA [0,3,4,11]<|cD H (fun H=>vK<|fQ<|vQ<|vB<|zD (fun v4=>Z [p 0 (L y197 a0),p 3 (O 7),p 4 (I v2)] [(7,A 190 y190 (v3.set v2.toNat v4) 0)]) H fun v4 H=>fK<|fQ<|jB [0,3,4] H fun H=>b1 H) fun H=>vE<|fE<|e1<|fX rfl<|n0 H
def u142(a0:Y193):Option Y155 :=
 some a0
def k142:Ct:=lct 142 [.agg y193] (fun x=>u142 x.1) (fun r:Y155=>AV.agg [S r.1,I r.2.1,I r.2.2.1,B r.2.2.2]) (fun _=>())
theorem o142:Ok prog k142:=by
 refine okM [.cell 2 155] func142 ?_;intro y ⟨_,_⟩ r H Q hn hr;refine iA [1,2]<|iA [1,2,3]<|iA [1,2,3]<|iA [1,2,3]<|iA [1,2,3]<|iA [2,3]<|iA [2]<|vTT<|hr H
def u103J0:List Y155->Option (List Y155)
 | v5 =>
 some v5
def u103L1(a0:List Y193)(g1:Int×List Y155->Option (List Y155)):Int×List Y155->Option (List Y155)
 | (v2,v3) =>
 if(decide (v2 < (a0.length:Int))) then
  gd (ix v2 a0.length/\(u142 (a0.getD v2.toNat (dflt y193))).isSome/\ix v2 v3.length/\v2.toNat<v3.length/\True)<|lt (vl (u142 (a0.getD v2.toNat (dflt y193)))) fun v4 =>
  gd (in64 (v2+1)/\True) <|
  g1 (v2+1,v3.set v2.toNat v4)
 else
  u103J0 v3
def u103(a0:List Y193):Option (List Y155) :=
 gd ((0<=(a0.length:Int)/\(a0.length:Int)=(a0.length:Int)/\(a0.length:Int).toNat*40<=281474976710656/\(a0.length:Int)<=9223372036854775807)/\True)<|lt (List.replicate (a0.length:Int).toNat (ByteArray.mk #[],(0:Int),(0:Int),false)) fun v0 =>
 lp (u103L1 a0) (0,v0)
def k103:Ct:=lct 103 [.dat y193.sl] (fun x=>u103 x.1) (fun r:List Y155=>AV.ow 155 true y155 r) (fun _=>())
theorem o103:Ok prog k103:=by
 refine okM [.tmp 2] func103 ?_;intro y ⟨a0,_⟩ r H Q hn hr;have:=hz (tc o142 tn);refine iA [0]<|qD (fun v0=>Z [p 0 (L y193 a0),p 3 (O 7)] [(7,A 155 y155 v0 0)]) H fun v0 H=>jN r (fun(v5:List Y155)=>Z [p 3 (O 7)] [(7,A 155 y155 v5 0)]) (u103J0) (fun v5 H=>?_) (fun _ n0 e0 t0=>?_)
 ·refine iA [2]<|vTT<|hr H
 refine iA [0,3,4]<|vB<|lX (fun((v2,v3):Int×List Y155)=>Z [p 0 (L y193 a0),p 3 (O 7),p 4 (I v2)] [(7,A 155 y155 v3 0)]) (0,v0) H fun _ g1 b1 e1 t1 ⟨v2,v3⟩ H=>vQ<|iA [0,3,4,11]<|cD H (fun H=>vK<|fQ<|vQ<|vB<|jD o142 [0,3,4] H fun _ H=>fK<|fQ<|jB [0,3,4] H fun H=>b1 H) fun H=>vE<|fE<|e1<|fX rfl<|n0 H
def u81(a0:Y120):Option Y134 :=
 gd ((u103 a0.2.2.1).isSome/\True)<|lt (vl (u103 a0.2.2.1)) fun v0 =>
 gd ((u104 a0.2.2.2.1).isSome/\True)<|lt (vl (u104 a0.2.2.2.1)) fun v1 =>
 gd ((u52 a0.2.2.2.2.1).isSome/\True)<|lt (vl (u52 a0.2.2.2.2.1)) fun v2 =>
 some (a0.1,a0.2.1,v0,v1,v2,a0.2.2.2.2.2)
def k81:Ct:=lct 81 [.agg y120] (fun x=>u81 x.1) (fun r:Y134=>AV.agg [S r.1,I r.2.1,AV.ow 155 true y155 r.2.2.1,AV.ow 190 true y190 r.2.2.2.1,AV.ow 2 true i64 r.2.2.2.2.1,I r.2.2.2.2.2.1,I r.2.2.2.2.2.2]) (fun _=>())
theorem o81:Ok prog k81:=by
 refine okM [.cell 2 134] func81 ?_;intro y ⟨_,_⟩ r H Q hn hr;have:=hz (tc o52 (tc o104 (tc o103 tn)));refine iA [1,2]<|iA [1,2,3]<|iA [1,2,3]<|iA [1,2,3]<|iD o103 [1,2,3] H fun _ H=>iD o104 [1,2,3] H fun _ H=>iD o52 [1,2,3] H fun _ H=>iA [1,2,3]<|iA [2,3]<|iA [2] ?_
 exact vTT<|hr H
def k81d:Ct:=lct 81 [.agg y120] (fun x=>u81 x.1) (fun r=>frz ((fun r:Y134=>AV.agg [S r.1,I r.2.1,AV.ow 155 true y155 r.2.2.1,AV.ow 190 true y190 r.2.2.2.1,AV.ow 2 true i64 r.2.2.2.2.1,I r.2.2.2.2.2.1,I r.2.2.2.2.2.2]) r)) (fun _=>())
theorem o81d:Ok prog k81d:=ok_frz o81
def u48J0:List Y134->Option (List Y134)
 | v5 =>
 some v5
def u48L1(a0:List Y120)(g1:Int×List Y134->Option (List Y134)):Int×List Y134->Option (List Y134)
 | (v2,v3) =>
 if(decide (v2 < (a0.length:Int))) then
  gd (ix v2 a0.length/\(u81 (a0.getD v2.toNat (dflt y120))).isSome/\ix v2 v3.length/\v2.toNat<v3.length/\True)<|lt (vl (u81 (a0.getD v2.toNat (dflt y120)))) fun v4 =>
  gd (in64 (v2+1)/\True) <|
  g1 (v2+1,v3.set v2.toNat v4)
 else
  u48J0 v3
def u48(a0:List Y120):Option (List Y134) :=
 gd ((0<=(a0.length:Int)/\(a0.length:Int)=(a0.length:Int)/\(a0.length:Int).toNat*112<=281474976710656/\(a0.length:Int)<=9223372036854775807)/\True)<|lt (List.replicate (a0.length:Int).toNat (ByteArray.mk #[],(0:Int),[],[],[],(0:Int),(0:Int))) fun v0 =>
 lp (u48L1 a0) (0,v0)
def k48:Ct:=lct 48 [.dat y120.sl] (fun x=>u48 x.1) (fun r:List Y134=>AV.ow 134 true y134 r) (fun _=>())
theorem o48:Ok prog k48:=by
 refine okM [.tmp 2] func48 ?_;intro y ⟨a0,_⟩ r H Q hn hr;have:=hz (tc o81d tn);refine iA [0]<|qD (fun v0=>Z [p 0 (L y120 a0),p 3 (O 7)] [(7,A 134 y134 v0 0)]) H fun v0 H=>jN r (fun(v5:List Y134)=>Z [p 3 (O 7)] [(7,A 134 y134 v5 0)]) (u48J0) (fun v5 H=>?_) (fun _ n0 e0 t0=>?_)
 ·refine iA [2]<|vTT<|hr H
 refine iA [0,3,4]<|vB<|lX (fun((v2,v3):Int×List Y134)=>Z [p 0 (L y120 a0),p 3 (O 7),p 4 (I v2)] [(7,A 134 y134 v3 0)]) (0,v0) H fun _ g1 b1 e1 t1 ⟨v2,v3⟩ H=>vQ<|iA [0,3,4,11]<|cD H (fun H=>vK<|fQ<|vQ<|vB<|zD (fun v4=>Z [p 0 (L y120 a0),p 3 (O 7),p 4 (I v2)] [(7,A 134 y134 (v3.set v2.toNat v4) 0)]) H fun v4 H=>fK<|fQ<|jB [0,3,4] H fun H=>b1 H) fun H=>vE<|fE<|e1<|fX rfl<|n0 H
def u24(a0:List Y120):Option (List Y134) :=
 gd ((u48 a0).isSome/\True)<|lt (vl (u48 a0)) fun v0 =>
 some v0
def k24:Ct:=lct 24 [.agg y120.sl] (fun x=>u24 x.1) (fun r:List Y134=>AV.agg [AV.ow 134 true y134 r]) (fun _=>())
theorem o24:Ok prog k24:=by
 refine okM [.cell 2 44] func24 ?_;intro y ⟨_,_⟩ r H Q hn hr;have:=hz (tc o48 tn);refine iA [1,2]<|iA [1,2,3]<|iD o48 [2,3] H fun _ H=>iA [2]<|vTT<|hr H
def u7(a0:Y32):Option Y51 :=
 gd ((u24 a0.1).isSome/\True)<|lt (vl (u24 a0.1)) fun v0 =>
 gd ((u25 a0.2.1).isSome/\True)<|lt (vl (u25 a0.2.1)) fun v1 =>
 gd ((u26 a0.2.2).isSome/\True)<|lt (vl (u26 a0.2.2)) fun v2 =>
 some (v0,v1,v2)
def k7:Ct:=lct 7 [.agg y32] (fun x=>u7 x.1) (fun r:Y51=>AV.agg [AV.ow 134 true y134 r.1,AV.ow 94 true y94 r.2.1.1,AV.ow 9 true Ty.str r.2.1.2.1,AV.ow 138 true y138 r.2.1.2.2,AV.ow 53 true y53 r.2.2]) (fun _=>())
theorem o7:Ok prog k7:=by
 refine okM [.cell 2 51] func7 ?_;intro y ⟨_,_⟩ r H Q hn hr;have:=hz (tc o26 (tc o25 (tc o24 tn)));refine iA [1,2]<|iA [1,2,3]<|iD o24 [1,2,3] H fun _ H=>iD o25 [1,2,3] H fun _ H=>iD o26 [2,3] H fun _ H=>iA [2]<|vTT<|hr H
def u8(a0:Y37):Option Y55 :=
 gd ((u27 a0.2.2.2.2.2.2).isSome/\True)<|lt (vl (u27 a0.2.2.2.2.2.2)) fun v0 =>
 some (a0.1,a0.2.1,a0.2.2.1,a0.2.2.2.1,a0.2.2.2.2.1,a0.2.2.2.2.2.1,v0)
def k8:Ct:=lct 8 [.agg y37] (fun x=>u8 x.1) (fun r:Y55=>AV.agg [I r.1,I r.2.1,I r.2.2.1,I r.2.2.2.1,I r.2.2.2.2.1,S r.2.2.2.2.2.1,AV.ow 2 true i64 r.2.2.2.2.2.2.1,AV.ow 2 true i64 r.2.2.2.2.2.2.2.1,AV.ow 2 true i64 r.2.2.2.2.2.2.2.2.1,AV.ow 2 true i64 r.2.2.2.2.2.2.2.2.2]) (fun _=>())
theorem o8:Ok prog k8:=by
 refine okM [.cell 2 55] func8 ?_;intro y ⟨_,_⟩ r H Q hn hr;have:=hz (tc o27 tn);refine iA [1,2]<|iA [1,2,3]<|iA [1,2,3]<|iA [1,2,3]<|iA [1,2,3]<|iA [1,2,3]<|iA [1,2,3]<|iA [1,2,3]<|iD o27 [2,3] H fun _ H=>iA [2] ?_
 exact vTT<|hr H
def u56J4:List Y104->Option (List Y104)
 | v24 =>
 some v24
def u56L5(a0:Y48)(g5:Int×List Y104->Option (List Y104)):Int×List Y104->Option (List Y104)
 | (v21,v22) =>
 if(decide (v21 < (a0.2.2.length:Int))) then
  gd (ix v21 a0.2.2.length/\True)<|lt (a0.2.2.getD v21.toNat (dflt y138)) fun v23 =>
  gd ((v22.length+[(-1,v21,v23.2.2,v23.2.1==1)].length<=9223372036854775807/\(v22.length+[(-1,v21,v23.2.2,v23.2.1==1)].length)*32<=140737488355328)/\True) <|
  gd (in64 (v21+1)/\True) <|
  g5 ((v21+1,v22++[(-1,v21,v23.2.2,v23.2.1==1)]))
 else
  u56J4 v22
def u56J0(a0:Y48):List Y104->Option (List Y104)
 | v17 =>
 lp (u56L5 a0) (0,v17)
def u56J2(v8:Int)(g1:List Y104×Int->Option (List Y104)):List Y104->Option (List Y104)
 | v16 =>
 gd (in64 (v8+1)/\True) <|
 g1 (v16,v8+1)
def u56L3(v8:Int)(v9:Y94)(g1:List Y104×Int->Option (List Y104))(g3:Int×List Y104->Option (List Y104)):Int×List Y104->Option (List Y104)
 | (v12,v13) =>
 if(decide (v12 < (v9.2.2.length:Int))) then
  gd (ix v12 v9.2.2.length/\True) <|
  gd (in64 ((v9.2.2.length:Int)-1)/\(v13.length+[(v8,v12,v9.2.2.getD v12.toNat 0,v12==(v9.2.2.length:Int)-1)].length<=9223372036854775807/\(v13.length+[(v8,v12,v9.2.2.getD v12.toNat 0,v12==(v9.2.2.length:Int)-1)].length)*32<=140737488355328)/\True)<|lt ((v13++[(v8,v12,v9.2.2.getD v12.toNat 0,v12==(v9.2.2.length:Int)-1)],[(v8,v12,v9.2.2.getD v12.toNat 0,v12==(v9.2.2.length:Int)-1)])) fun(v14,_) =>
  gd (in64 (v12+1)/\True) <|
  g3 (v12+1,v14)
 else
  u56J2 v8 g1 v13
def u56L1(a0:Y48)(g1:List Y104×Int->Option (List Y104)):List Y104×Int->Option (List Y104)
 | (v7,v8) =>
 if(decide (v8 < (a0.1.length:Int))) then
  gd (ix v8 a0.1.length/\True)<|lt (a0.1.getD v8.toNat (dflt y94)) fun v9 =>
  lp (u56L3 v8 v9 g1) (0,v7)
 else
  u56J0 a0 v7
def u56(a0:Y48):Option (List Y104) :=
 lp (u56L1 a0) ([],0)
def k56:Ct:=lct 56 [.agg y48] (fun x=>u56 x.1) (fun r:List Y104=>AV.ow 104 true y104 r) (fun _=>())
theorem o56:Ok prog k56:=by
 refine okM [.tmp 2] func56 ?_;intro y ⟨a0,_⟩ r H Q hn hr;refine iA [1]<|iA [1,3]<|jN r (fun(v17:List Y104)=>Z [p 1 (R 1),p 3 (O 38)] [(1,K 48 y48 a0),(38,A 104 y104 v17 0)]) (u56J0 a0) (fun v17 H=>?_) (fun _ n0 e0 t0=>?_)
 ·refine jN r (fun(v24:List Y104)=>Z [p 3 (O 38)] [(38,A 104 y104 v24 0)]) (u56J4) (fun v24 H=>?_) (fun _ n4 e4 t4=>?_)
  ·refine iA [2]<|vTT<|hr H
  refine iA [3,42,43,44]<|vB<|lX (fun((v21,v22):Int×List Y104)=>Z [p 3 (O 38),p 42 (L y138 a0.2.2),p 43 (I (a0.2.2.length:Int)),p 44 (I v21)] [(38,A 104 y104 v22 0)]) (0,v17) H fun _ g5 b5 e5 t5 ⟨v21,v22⟩ H=>iA [3,42,43,44,45]<|vQ<|cD H (fun H=>vK<|fQ<|vQ<|vB<|qD (fun v23=>Z [p 3 (O 38),p 8 (I v21),p 9 (R 9),p 42 (L y138 a0.2.2),p 43 (I (a0.2.2.length:Int)),p 44 (I v21)] [(9,K 138 y138 v23),(38,A 104 y104 v22 0)]) H fun v23 H=>jB [3,42,43,44] H fun H=>fK<|fQ<|jB [3,42,43,44] H fun H=>b5 H) fun H=>vE<|fE<|e5<|fX rfl<|n4 H
 refine iA [1,3,11,12,13]<|vB<|lX (fun((v7,v8):List Y104×Int)=>Z [p 1 (R 1),p 3 (O 38),p 11 (L y94 a0.1),p 12 (I (a0.1.length:Int)),p 13 (I v8)] [(1,K 48 y48 a0),(38,A 104 y104 v7 0)]) ([],0) H fun _ g1 b1 e1 t1 ⟨v7,v8⟩ H=>iA [1,3,11,12,13,14]<|vQ<|cD H (fun H=>?_) (fun H=>?_)
 ·refine vK<|fQ<|jN r (fun(v16:List Y104)=>Z [p 1 (R 1),p 3 (O 38),p 11 (L y94 a0.1),p 12 (I (a0.1.length:Int)),p 13 (I v8)] [(1,K 48 y48 a0),(38,A 104 y104 v16 0)]) (u56J2 v8 g1) (fun v16 H=>?_) (fun _ n2 e2 t2=>?_)
  ·refine jB [1,3,11,12,13] H fun H=>b1 H
  refine vB<|qD (fun v9=>Z [p 1 (R 1),p 3 (O 38),p 4 (I v8),p 5 (R 5),p 11 (L y94 a0.1),p 12 (I (a0.1.length:Int)),p 13 (I v8)] [(5,K 94 y94 v9),(1,K 48 y48 a0),(38,A 104 y104 v7 0)]) H fun v9 H=>iA [1,3,4,5,11,12,13,19,20,21]<|vB<|lX (fun((v12,v13):Int×List Y104)=>Z [p 1 (R 1),p 3 (O 38),p 4 (I v8),p 5 (R 5),p 11 (L y94 a0.1),p 12 (I (a0.1.length:Int)),p 13 (I v8),p 19 (L i64 v9.2.2),p 20 (I (v9.2.2.length:Int)),p 21 (I v12)] [(5,K 94 y94 v9),(1,K 48 y48 a0),(38,A 104 y104 v13 0)]) (0,v7) H fun _ g3 b3 e3 t3 ⟨v12,v13⟩ H=>iA [1,3,4,5,11,12,13,19,20,21,22]<|vQ<|cD H (fun H=>?_) (fun H=>?_)
  ·refine vK<|fQ<|vQ<|vB<|iB [1,3,4,5,6,7,11,12,13,19,20,21] H fun H=>zD (fun(v14,v15)=>Z [p 1 (R 1),p 3 (AV.os 38 1),p 4 (I v8),p 5 (R 5),p 11 (L y94 a0.1),p 12 (I (a0.1.length:Int)),p 13 (I v8),p 19 (L i64 v9.2.2),p 20 (I (v9.2.2.length:Int)),p 21 (I v12)] [(38,A 104 y104 v14 1),(37,A 104 y104 v15 0),(5,K 94 y94 v9),(1,K 48 y48 a0)]) H fun⟨v14,v15⟩ H =>
    fK<|fQ <|
    jB [1,3,4,5,11,12,13,19,20,21] H fun H =>
    b3 H
  exact vE<|fE<|e3<|fX rfl<|fK<|n2 H
 exact vE<|fE<|e1<|fX rfl<|n0 H
def u57(a0:List ByteArray):Option Int :=
 some (a0.length:Int)
def k57:Ct:=lct 57 [.dat Ty.str.sl] (fun x=>u57 x.1) (fun r:Int=>I r) (fun _=>())
theorem o57:Ok prog k57:=by
 refine okM [.tmp 2] func57 ?_;intro y ⟨_,_⟩ r H Q hn hr;refine iA [0]<|iA [2]<|vTT<|hr H
def u112(a0:Int)(a1:Int)(a2:Int):Option Bool :=
 some (decide (a1<=a0)&&decide (a0<=a2))
def k112:Ct:=lct 112 [.dat i64,.dat i64,.dat i64] (fun x=>u112 x.1 x.2.1 x.2.2.1) (fun r:Bool=>B r) (fun _=>())
theorem o112:Ok prog k112:=by
 refine okM [.tmp 6] func112 ?_;intro y ⟨_,_,_,_⟩ r H Q hn hr;refine iA [0,1,2]<|iA [6]<|vTT<|hr H
def u149(a0:Int)(a1:Int)(a2:Int):Option Bool :=
 gd ((u112 a0 a1 a2).isSome/\True) <|
 some (!vl (u112 a0 a1 a2))
def k149:Ct:=lct 149 [.dat i64,.dat (.pt i64),.dat (.pt i64)] (fun x=>u149 x.1 x.2.1 x.2.2.1) (fun r:Bool=>B r) (fun _=>())
theorem o149:Ok prog k149:=by
 refine okM [.tmp 4] func149 ?_;intro y ⟨_,_,_,_⟩ r H Q hn hr;have:=hz (tc o112 tn);refine iA [0,1,2]<|iB [4] H fun H=>vTT<|hr H
def u175c149J0:Unit->Option Int
 | _ =>
 some (-1)
def u175c149L1(a0:List Int)(a1:Int×Int)(g1:Int->Option Int):Int->Option Int
 | v0 =>
 if(decide (v0 < (a0.length:Int))) then
  gd (ix v0 a0.length/\(u149 (a0.getD v0.toNat 0) a1.1 a1.2).isSome/\True) <|
  if(vl (u149 (a0.getD v0.toNat 0) a1.1 a1.2)) then
   some v0
  else
   gd (in64 (v0+1)/\True) <|
   g1 (v0+1)
 else
  u175c149J0 ()
def u175c149(a0:List Int)(a1:Int×Int):Option Int :=
 lp (u175c149L1 a0 a1) 0
def k175c149:Ct:=lct 175 [.dat i64.sl,.fn 149 (.pr i64.pt i64.pt)] (fun x=>u175c149 x.1 x.2.1) (fun r:Int=>I r) (fun _=>())
theorem o175c149:Ok prog k175c149:=by
 refine okM [.tmp 4] func175 ?_;intro y ⟨a0,a1,_⟩ r H Q hn hr;have:=hz (tc o149 tn);refine iA [0,1]<|jN r (fun(_:Unit)=>Z [] []) (u175c149J0) (fun _ H=>?_) (fun _ n0 e0 t0=>?_)
 ·refine iA [4]<|vTT<|hr H
 refine iA [0,1,7,8]<|vB<|lX (fun(v0:Int)=>Z [p 0 (L i64 a0),p 1 (AV.fn 149 [D i64.pt a1.1,D i64.pt a1.2]),p 7 (I (a0.length:Int)),p 8 (I v0)] []) 0 H fun _ g1 b1 e1 t1 v0 H=>iA [0,1,7,8,9]<|vQ<|cD H (fun H=>?_) (fun H=>?_)
 ·refine vK<|fQ<|vQ<|vB<|iA [0,1,5,7,8]<|iB [0,1,5,7,8,16] H fun H=>cD H (fun H=>iA [4]<|vTT<|fDD<|fR<|t1<|fDD<|t0<|hr H) fun H=>vK<|fK<|fQ<|jB [0,1,7,8] H fun H=>b1 H
 exact vE<|fE<|e1<|fX rfl<|n0 H
def u146c149(a0:List Int)(a1:Int×Int):Option Bool :=
 gd ((u175c149 a0 a1).isSome/\True)<|lt (vl (u175c149 a0 a1)) fun v0 =>
 some (decide (0<=v0))
def k146c149:Ct:=lct 146 [.dat i64.sl,.fn 149 (.pr (.pt i64) (.pt i64))] (fun x=>u146c149 x.1 x.2.1) (fun r:Bool=>B r) (fun _=>())
theorem o146c149:Ok prog k146c149:=by
 refine okM [.tmp 4] func146 ?_;intro y ⟨_,_,_⟩ r H Q hn hr;have:=hz (tc o175c149 (tc o149 tn));refine iA [0,1]<|iD o175c149 [4] H fun _ H=>vTT<|hr H
def u114(a0:List Int)(a1:Int)(a2:Int):Option Bool :=
 gd ((u146c149 a0 (a1,a2)).isSome/\True) <|
 some (!vl (u146c149 a0 (a1,a2)))
def k114:Ct:=lct 114 [.dat i64.sl,.dat i64,.dat i64] (fun x=>u114 x.1 x.2.1 x.2.2.1) (fun r:Bool=>B r) (fun _=>())
theorem o114:Ok prog k114:=by
 refine okM [.tmp 6] func114 ?_;intro y ⟨_,_,_,_⟩ r H Q hn hr;have:=hz (tc o146c149 (tc o149 tn));refine iA [0,4,5]<|iB [6] H fun H=>vTT<|hr H
def u111(a0:List Int):Option Int :=
 some (a0.length:Int)
def k111:Ct:=lct 111 [.dat i64.sl] (fun x=>u111 x.1) (fun r:Int=>I r) (fun _=>())
theorem o111:Ok prog k111:=by
 refine okM [.tmp 2] func111 ?_;intro y ⟨_,_⟩ r H Q hn hr;refine iA [0]<|iA [2]<|vTT<|hr H
def u113J0:Unit->Option Bool
 | _ =>
 some true
def u113L1(a0:Y53)(g1:Int->Option Bool):Int->Option Bool
 | v0 =>
 if(decide (v0 < (a0.1.length:Int))) then
  gd (ix v0 a0.1.length/\True) <|
  gd (((a0.1.getD v0.toNat (0:Int) != (-1:Int))=false/\(v0==(0:Int))=true/\True->ix (0:Int) a0.2.1.length)/\(decide ((0:Int)<v0)=true/\(v0==(0:Int)&&(a0.1.getD v0.toNat (0:Int) != (-1:Int)||a0.2.1.getD (Int.toNat (0:Int)) (0:Int) != (0:Int)))=false/\True->in64 (v0-(1:Int)))/\(decide ((0:Int)<v0)=true/\(v0==(0:Int)&&(a0.1.getD v0.toNat (0:Int) != (-1:Int)||a0.2.1.getD (Int.toNat (0:Int)) (0:Int) != (0:Int)))=false/\True->(u112 (a0.1.getD v0.toNat (0:Int)) (0:Int) (v0-(1:Int))).isSome)/\True) <|
  if(v0==(0:Int)&&(a0.1.getD v0.toNat (0:Int) != (-1:Int)||a0.2.1.getD (Int.toNat (0:Int)) (0:Int) != (0:Int))||decide ((0:Int)<v0)&&!vl (u112 (a0.1.getD v0.toNat (0:Int)) (0:Int) (v0-(1:Int)))) then
   some false
  else
   gd (in64 (v0+1)/\True) <|
   g1 (v0+1)
 else
  u113J0 ()
def u113(a0:Y53):Option Bool :=
 lp (u113L1 a0) 0
def k113:Ct:=lct 113 [.agg y53] (fun x=>u113 x.1) (fun r:Bool=>B r) (fun _=>())
theorem o113:Ok prog k113:=by
 refine okM [.tmp 2] func113 ?_;intro y ⟨a0,_⟩ r H Q hn hr;have:=hz (tc o112 tn);refine iA [1]<|jN r (fun(_:Unit)=>Z [] []) (u113J0) (fun _ H=>?_) (fun _ n0 e0 t0=>?_)
 ·refine iA [2]<|vTT<|hr H
 refine iA [1,6,7,8]<|vB<|lX (fun(v0:Int)=>Z [p 1 (R 1),p 6 (L i64 a0.1),p 7 (I (a0.1.length:Int)),p 8 (I v0)] [(1,K 53 y53 a0)]) 0 H fun _ g1 b1 e1 t1 v0 H=>iA [1,6,7,8,9]<|vQ<|cD H (fun H=>?_) (fun H=>?_)
 ·refine vK<|fQ<|vQ<|vB<|iB [1,3,4,6,7,8] H fun H=>iB [1,6,7,8,36] H fun H=>cD H (fun H=>iA [2]<|vTT<|fDD<|fR<|t1<|fDD<|t0<|hr H) fun H=>vK<|fK<|fQ<|jB [1,6,7,8] H fun H=>b1 H
 exact vE<|fE<|e1<|fX rfl<|n0 H
def u85(a0:Y53)(a1:Int):Option Bool :=
 gd ((u111 a0.1).isSome/\True)<|lt (vl (u111 a0.1)) fun v0 =>
 gd ((u112 v0 1 8).isSome/\(vl (u112 v0 1 8)=true/\True->(u111 a0.2.1).isSome)/\((vl (u112 v0 1 8)&&vl (u111 a0.2.1)==v0)=true/\True->(u111 a0.2.2.1).isSome)/\((vl (u112 v0 1 8)&&vl (u111 a0.2.1)==v0&&vl (u111 a0.2.2.1)==v0)=true/\True->(u113 a0).isSome)/\((vl (u112 v0 1 8)&&vl (u111 a0.2.1)==v0&&vl (u111 a0.2.2.1)==v0&&vl (u113 a0))=true/\True->(u114 a0.2.1 0 1000).isSome)/\((vl (u112 v0 1 8)&&vl (u111 a0.2.1)==v0&&vl (u111 a0.2.2.1)==v0&&vl (u113 a0)&&vl (u114 a0.2.1 0 1000))=true/\True->(u114 a0.2.2.1 0 500).isSome)/\((vl (u112 v0 1 8)&&vl (u111 a0.2.1)==v0&&vl (u111 a0.2.2.1)==v0&&vl (u113 a0)&&vl (u114 a0.2.1 0 1000)&&vl (u114 a0.2.2.1 0 500))=true/\True->(u111 a0.2.2.2).isSome)/\((vl (u112 v0 1 8)&&vl (u111 a0.2.1)==v0&&vl (u111 a0.2.2.1)==v0&&vl (u113 a0)&&vl (u114 a0.2.1 0 1000)&&vl (u114 a0.2.2.1 0 500)&&vl (u111 a0.2.2.2)==a1)=true/\True->in64 (v0-1))/\((vl (u112 v0 1 8)&&vl (u111 a0.2.1)==v0&&vl (u111 a0.2.2.1)==v0&&vl (u113 a0)&&vl (u114 a0.2.1 0 1000)&&vl (u114 a0.2.2.1 0 500)&&vl (u111 a0.2.2.2)==a1)=true/\True->(u114 a0.2.2.2 0 (v0-1)).isSome)/\True)<|lt ((vl (u111 a0.2.1),vl (u111 a0.2.2.1),vl (u111 a0.2.2.2))) fun(v1,v2,v3) =>
 some (vl (u112 v0 1 8)&&v1==v0&&v2==v0&&vl (u113 a0)&&vl (u114 a0.2.1 0 1000)&&vl (u114 a0.2.2.1 0 500)&&v3==a1&&vl (u114 a0.2.2.2 0 (v0-1)))
def k85:Ct:=lct 85 [.agg y53,.dat i64] (fun x=>u85 x.1 x.2.1) (fun r:Bool=>B r) (fun _=>())
theorem o85:Ok prog k85:=by
 refine okM [.tmp 4] func85 ?_;intro y ⟨a0,a1,_⟩ r H Q hn hr;have:=hz (tc o114 (tc o111 (tc o113 (tc o112 tn))));refine iA [1,2]<|iD o111 [1,2,5] H fun v0 H=>qD (fun(v1,v2,v3)=>Z [p 4 (B (vl (u112 v0 1 8)&&v1==v0&&v2==v0&&vl (u113 a0)&&vl (u114 a0.2.1 0 1000)&&vl (u114 a0.2.2.1 0 500)&&v3==a1&&vl (u114 a0.2.2.2 0 (v0-1))))] [(2,K 53 y53 a0)]) H fun⟨v1,v2,v3⟩ H =>
  vTT<|hr H
def u120(a0:Y134):Option Bool :=
 some (a0.2.1==1&&(a0.2.2.1.length:Int)==2)
def k120:Ct:=lct 120 [.agg y134] (fun x=>u120 x.1) (fun r:Bool=>B r) (fun _=>())
theorem o120:Ok prog k120:=by
 refine okM [.tmp 2] func120 ?_;intro y ⟨_,_⟩ r H Q hn hr;refine iA [1]<|iA [2]<|vTT<|hr H
def u124(a0:Y51):Option Bool :=
 if((a0.2.1.1.length:Int)==0) then
  some false
 else
  gd (in64 ((a0.2.1.1.length:Int)-1)/\ix ((a0.2.1.1.length:Int)-1) a0.2.1.1.length/\True)<|lt (a0.2.1.1.getD ((a0.2.1.1.length:Int)-1).toNat (dflt y94)) fun v0 =>
  gd ((u57 a0.2.1.2.1).isSome/\in64 (vl (u57 a0.2.1.2.1)-1)/\True)<|lt (vl (u57 a0.2.1.2.1)) fun v1 =>
  gd (ix v0.2.1 a0.1.length/\(u120 (a0.1.getD v0.2.1.toNat (dflt y134))).isSome/\((!vl (u120 (a0.1.getD v0.2.1.toNat (dflt y134))))=false/\True->ix (1:Int) v0.2.2.length)/\((!vl (u120 (a0.1.getD v0.2.1.toNat (dflt y134)))||v0.2.2.getD (Int.toNat (1:Int)) (0:Int) != v1-(1:Int))=false/\True->ix (0:Int) v0.2.2.length)/\((!vl (u120 (a0.1.getD v0.2.1.toNat (dflt y134)))||v0.2.2.getD (Int.toNat (1:Int)) (0:Int) != v1-(1:Int)||v0.2.2.getD (Int.toNat (0:Int)) (0:Int)==v1-(1:Int))=false/\True->ix (v1-(1:Int)) a0.2.1.2.1.length)/\True) <|
  if(!vl (u120 (a0.1.getD v0.2.1.toNat (dflt y134)))||v0.2.2.getD (Int.toNat (1:Int)) (0:Int) != v1-(1:Int)||v0.2.2.getD (Int.toNat (0:Int)) (0:Int)==v1-(1:Int)||!decide (a0.2.1.2.1.getD (v1-(1:Int)).toNat (dflt Ty.str)=v0.1)) then
   some false
  else
   gd (ix (v1-1) a0.2.2.length/\True)<|lt (a0.2.2.getD (v1-1).toNat (dflt y53)) fun v2 =>
   gd ((((v2.2.2.2.length:Int)==1&&(v2.1.length:Int)==1)=true/\True->ix 0 v2.2.2.1.length)/\True) <|
   some ((v2.2.2.2.length:Int)==(1:Int)&&(v2.1.length:Int)==(1:Int)&&v2.2.2.1.getD (Int.toNat (0:Int)) (0:Int)==(0:Int))
def k124:Ct:=lct 124 [.agg y51] (fun x=>u124 x.1) (fun r:Bool=>B r) (fun _=>())
theorem o124:Ok prog k124:=by
 refine okM [.tmp 2] func124 ?_;intro y ⟨a0,_⟩ r H Q hn hr;have:=hz (tc o120 (tc o57 tn));refine iA [1]<|iA [1,3]<|vQ<|iA [1,3,12]<|cD H (fun H=>iA [2]<|vTT<|fR<|hr H) fun H=>vK<|fQ<|qD (fun v0=>Z [p 1 (R 1),p 3 (R 3),p 4 (R 4)] [(4,K 94 y94 v0),(3,K 48 y48 a0.2.1),(1,K 51 y51 a0)]) H fun v0 H=>iD o57 [1,3,4,5] H fun _ H=>vQ<|iB [1,5,59] H fun H=>cD H (fun H=>iA [2]<|vTT<|fR<|hr H) fun H=>vK<|fQ<|qD (fun v2=>Z [p 6 (R 6)] [(6,K 53 y53 v2),(4,K 94 y94 v0),(3,K 48 y48 a0.2.1),(1,K 51 y51 a0)]) H fun v2 H=>iB [2] H fun H=>vTT<|hr H
def u157J0:Unit->Option Int
 | _ =>
 some (-1)
def u157L1(a1:ByteArray)(a0:List ByteArray)(g1:Int->Option Int):Int->Option Int
 | v0 =>
 if(decide (v0 < (a0.length:Int))) then
  gd (ix v0 a0.length/\True) <|
  if(decide (a1=a0.getD v0.toNat (dflt Ty.str))) then
   some v0
  else
   gd (in64 (v0+1)/\True) <|
   g1 (v0+1)
 else
  u157J0 ()
def u157(a0:List ByteArray)(a1:ByteArray):Option Int :=
 lp (u157L1 a1 a0) 0
def k157:Ct:=lct 157 [.dat Ty.str.sl,.dat Ty.str] (fun x=>u157 x.1 x.2.1) (fun r:Int=>I r) (fun _=>())
theorem o157:Ok prog k157:=by
 refine okM [.tmp 4] func157 ?_;intro y ⟨a0,a1,_⟩ r H Q hn hr;refine iA [0,1]<|jN r (fun(_:Unit)=>Z [] []) (u157J0) (fun _ H=>?_) (fun _ n0 e0 t0=>?_)
 ·refine iA [4]<|vTT<|hr H
 refine iA [0,1,7,8]<|vB<|lX (fun(v0:Int)=>Z [p 0 (L Ty.str a0),p 1 (U a1),p 7 (I (a0.length:Int)),p 8 (I v0)] []) 0 H fun _ g1 b1 e1 t1 v0 H=>iA [0,1,7,8,9]<|vQ<|cD H (fun H=>?_) (fun H=>?_)
 ·refine vK<|fQ<|vQ<|vB<|iA [0,1,5,7,8]<|iB [0,1,5,7,8,16] H fun H=>cD H (fun H=>iA [4]<|vTT<|fDD<|fR<|t1<|fDD<|t0<|hr H) fun H=>vK<|fK<|fQ<|jB [0,1,7,8] H fun H=>b1 H
 exact vE<|fE<|e1<|fX rfl<|n0 H
def u123(a0:Y48)(a1:ByteArray):Option Int :=
 gd ((u157 a0.2.1 a1).isSome/\True)<|lt (vl (u157 a0.2.1 a1)) fun v0 =>
 some v0
def k123:Ct:=lct 123 [.agg y48,.dat Ty.str] (fun x=>u123 x.1 x.2.1) (fun r:Int=>I r) (fun _=>())
theorem o123:Ok prog k123:=by
 refine okM [.tmp 4] func123 ?_;intro y ⟨_,_,_⟩ r H Q hn hr;have:=hz (tc o157 tn);refine iA [1,2]<|iD o157 [4] H fun _ H=>vTT<|hr H
def u156(a0:Y94)(a1:ByteArray):Option Bool :=
 some (decide (a0.1=a1))
def k156:Ct:=lct 156 [.agg y94,.dat (.pt Ty.str)] (fun x=>u156 x.1 x.2.1) (fun r:Bool=>B r) (fun _=>())
theorem o156:Ok prog k156:=by
 refine okM [.tmp 3] func156 ?_;intro y ⟨_,_,_⟩ r H Q hn hr;refine iA [1,2]<|iA [3]<|vTT<|hr H
def u155c156J0:Unit->Option Int
 | _ =>
 some (-1)
def u155c156L1(a0:List Y94)(a1:ByteArray)(g1:Int->Option Int):Int->Option Int
 | v0 =>
 if(decide (v0 < (a0.length:Int))) then
  gd (ix v0 a0.length/\(u156 (a0.getD v0.toNat (dflt y94)) a1).isSome/\True) <|
  if(vl (u156 (a0.getD v0.toNat (dflt y94)) a1)) then
   some v0
  else
   gd (in64 (v0+1)/\True) <|
   g1 (v0+1)
 else
  u155c156J0 ()
def u155c156(a0:List Y94)(a1:ByteArray):Option Int :=
 lp (u155c156L1 a0 a1) 0
def k155c156:Ct:=lct 155 [.dat y94.sl,.fn 156 (.pt Ty.str)] (fun x=>u155c156 x.1 x.2.1) (fun r:Int=>I r) (fun _=>())
theorem o155c156:Ok prog k155c156:=by
 refine okM [.tmp 4] func155 ?_;intro y ⟨a0,a1,_⟩ r H Q hn hr;have:=hz (tc o156 tn);refine iA [0,1]<|jN r (fun(_:Unit)=>Z [] []) (u155c156J0) (fun _ H=>?_) (fun _ n0 e0 t0=>?_)
 ·refine iA [4]<|vTT<|hr H
 refine iA [0,1,7,8]<|vB<|lX (fun(v0:Int)=>Z [p 0 (L y94 a0),p 1 (AV.fn 156 [D Ty.str.pt a1]),p 7 (I (a0.length:Int)),p 8 (I v0)] []) 0 H fun _ g1 b1 e1 t1 v0 H=>iA [0,1,7,8,9]<|vQ<|cD H (fun H=>?_) (fun H=>?_)
 ·refine vK<|fQ<|vQ<|vB<|iA [0,1,5,7,8]<|iB [0,1,5,7,8,16] H fun H=>cD H (fun H=>iA [4]<|vTT<|fDD<|fR<|t1<|fDD<|t0<|hr H) fun H=>vK<|fK<|fQ<|jB [0,1,7,8] H fun H=>b1 H
 exact vE<|fE<|e1<|fX rfl<|n0 H
def u122(a0:Y48)(a1:ByteArray):Option Int :=
 gd ((u155c156 a0.1 a1).isSome/\True)<|lt (vl (u155c156 a0.1 a1)) fun v0 =>
 some v0
def k122:Ct:=lct 122 [.agg y48,.dat Ty.str] (fun x=>u122 x.1 x.2.1) (fun r:Int=>I r) (fun _=>())
theorem o122:Ok prog k122:=by
 refine okM [.tmp 4] func122 ?_;intro y ⟨_,_,_⟩ r H Q hn hr;have:=hz (tc o155c156 (tc o156 tn));refine iA [2,3]<|iD o155c156 [4] H fun _ H=>vTT<|hr H
def u121(a0:ByteArray):Option Bool :=
 gd ((u112 (a0.size:Int) (1:Int) (8:Int)).isSome/\(vl (u112 (a0.size:Int) (1:Int) (8:Int))=true/\True->(u153 a0 (ByteArray.mk #[(97:UInt8),(98:UInt8),(99:UInt8),(100:UInt8),(101:UInt8),(102:UInt8),(103:UInt8),(104:UInt8),(105:UInt8),(106:UInt8),(107:UInt8),(108:UInt8),(109:UInt8),(110:UInt8),(111:UInt8),(112:UInt8),(113:UInt8),(114:UInt8),(115:UInt8),(116:UInt8),(117:UInt8),(118:UInt8),(119:UInt8),(120:UInt8),(121:UInt8),(122:UInt8),(48:UInt8),(49:UInt8),(50:UInt8),(51:UInt8),(52:UInt8),(53:UInt8),(54:UInt8),(55:UInt8),(56:UInt8),(57:UInt8)])).isSome)/\((vl (u112 (a0.size:Int) (1:Int) (8:Int))&&decide (vl (u153 a0 (ByteArray.mk #[(97:UInt8),(98:UInt8),(99:UInt8),(100:UInt8),(101:UInt8),(102:UInt8),(103:UInt8),(104:UInt8),(105:UInt8),(106:UInt8),(107:UInt8),(108:UInt8),(109:UInt8),(110:UInt8),(111:UInt8),(112:UInt8),(113:UInt8),(114:UInt8),(115:UInt8),(116:UInt8),(117:UInt8),(118:UInt8),(119:UInt8),(120:UInt8),(121:UInt8),(122:UInt8),(48:UInt8),(49:UInt8),(50:UInt8),(51:UInt8),(52:UInt8),(53:UInt8),(54:UInt8),(55:UInt8),(56:UInt8),(57:UInt8)]))=ByteArray.mk #[]))=true/\True->ix (0:Int) a0.size)/\((vl (u112 (a0.size:Int) (1:Int) (8:Int))&&decide (vl (u153 a0 (ByteArray.mk #[(97:UInt8),(98:UInt8),(99:UInt8),(100:UInt8),(101:UInt8),(102:UInt8),(103:UInt8),(104:UInt8),(105:UInt8),(106:UInt8),(107:UInt8),(108:UInt8),(109:UInt8),(110:UInt8),(111:UInt8),(112:UInt8),(113:UInt8),(114:UInt8),(115:UInt8),(116:UInt8),(117:UInt8),(118:UInt8),(119:UInt8),(120:UInt8),(121:UInt8),(122:UInt8),(48:UInt8),(49:UInt8),(50:UInt8),(51:UInt8),(52:UInt8),(53:UInt8),(54:UInt8),(55:UInt8),(56:UInt8),(57:UInt8)]))=ByteArray.mk #[]))=true/\True->(u154 (ByteArray.mk #[(97:UInt8),(98:UInt8),(99:UInt8),(100:UInt8),(101:UInt8),(102:UInt8),(103:UInt8),(104:UInt8),(105:UInt8),(106:UInt8),(107:UInt8),(108:UInt8),(109:UInt8),(110:UInt8),(111:UInt8),(112:UInt8),(113:UInt8),(114:UInt8),(115:UInt8),(116:UInt8),(117:UInt8),(118:UInt8),(119:UInt8),(120:UInt8),(121:UInt8),(122:UInt8)]) (byteAt a0 (Int.toNat (0:Int)))).isSome)/\True)<|lt ((vl (u153 a0 (ByteArray.mk #[97,98,99,100,101,102,103,104,105,106,107,108,109,110,111,112,113,114,115,116,117,118,119,120,121,122,48,49,50,51,52,53,54,55,56,57])),vl (u154 (ByteArray.mk #[(97:UInt8),(98:UInt8),(99:UInt8),(100:UInt8),(101:UInt8),(102:UInt8),(103:UInt8),(104:UInt8),(105:UInt8),(106:UInt8),(107:UInt8),(108:UInt8),(109:UInt8),(110:UInt8),(111:UInt8),(112:UInt8),(113:UInt8),(114:UInt8),(115:UInt8),(116:UInt8),(117:UInt8),(118:UInt8),(119:UInt8),(120:UInt8),(121:UInt8),(122:UInt8)]) (byteAt a0 (Int.toNat (0:Int)))))) fun(v0,v1) =>
 some (vl (u112 (a0.size:Int) 1 8)&&decide (v0=ByteArray.mk #[])&&decide (0<=v1))
def k121:Ct:=lct 121 [.dat Ty.str] (fun x=>u121 x.1) (fun r:Bool=>B r) (fun _=>())
theorem o121:Ok prog k121:=by
 refine okM [.tmp 2] func121 ?_;intro y ⟨a0,_⟩ r H Q hn hr;have:=hz (tc o154 (tc o153 (tc o112 tn)));refine iA [0]<|qD (fun(v0,v1)=>Z [p 2 (B (vl (u112 (a0.size:Int) 1 8)&&decide (v0=ByteArray.mk #[])&&decide (0<=v1)))] []) H fun⟨v0,v1⟩ H =>
  vTT<|hr H
def u152(a0:Y155)(a1:Y155):Option Bool :=
 some (a0.2.2.2==a1.2.2.2)
def k152:Ct:=lct 152 [.agg y155,.agg y155] (fun x=>u152 x.1 x.2.1) (fun r:Bool=>B r) (fun _=>())
theorem o152:Ok prog k152:=by
 refine okM [.tmp 4] func152 ?_;intro y ⟨_,_,_⟩ r H Q hn hr;refine iA [2,3]<|iA [4]<|vTT<|hr H
def u151c152J0:Unit->Option Bool
 | _ =>
 some true
def u151c152L1(a1:List Y155)(a0:List Y155)(g1:Int->Option Bool):Int->Option Bool
 | v2 =>
 if(decide (v2 < (a0.length:Int))) then
  gd (ix v2 a0.length/\True)<|lt (a0.getD v2.toNat (dflt y155)) fun v3 =>
  gd (ix v2 a1.length/\True)<|lt (a1.getD v2.toNat (dflt y155)) fun v4 =>
  gd ((u152 v3 v4).isSome/\True) <|
  if(!vl (u152 v3 v4)) then
   some false
  else
   gd (in64 (v2+1)/\True) <|
   g1 (v2+1)
 else
  u151c152J0 ()
def u151c152(a0:List Y155)(a1:List Y155):Option Bool :=
 if((a0.length:Int) != (a1.length:Int)) then
  some false
 else
  lp (u151c152L1 a1 a0) 0
def k151c152:Ct:=lct 151 [.dat y155.sl,.dat y155.sl,.nof 152] (fun x=>u151c152 x.1 x.2.1) (fun r:Bool=>B r) (fun _=>())
theorem o151c152:Ok prog k151c152:=by
 refine okM [.tmp 6] func151 ?_;intro y ⟨a0,a1,_,_⟩ r H Q hn hr;have:=hz (tc o152 tn);refine iA [0,1,2]<|vQ<|iA [0,1,2,14]<|cD H (fun H=>iA [6]<|vTT<|fR<|hr H) fun H=>vK<|fQ<|jN r (fun(_:Unit)=>Z [] []) (u151c152J0) (fun _ H=>?_) (fun _ n0 e0 t0=>?_)
 ·refine iA [6]<|vTT<|hr H
 refine iA [1,2,15,16,17]<|vB<|lX (fun(v2:Int)=>Z [p 1 (L y155 a1),p 2 (AV.fn 152 []),p 15 (L y155 a0),p 16 (I (a0.length:Int)),p 17 (I v2)] []) 0 H fun _ g1 b1 e1 t1 v2 H=>iA [1,2,15,16,17,18]<|vQ<|cD H (fun H=>?_) (fun H=>?_)
 ·refine vK<|fQ<|vQ<|vB<|qD (fun v3=>Z [p 1 (L y155 a1),p 2 (AV.fn 152 []),p 7 (I v2),p 8 (R 8),p 15 (L y155 a0),p 16 (I (a0.length:Int)),p 17 (I v2)] [(8,K 155 y155 v3)]) H fun v3 H=>qD (fun v4=>Z [p 1 (L y155 a1),p 2 (AV.fn 152 []),p 8 (R 8),p 9 (R 9),p 15 (L y155 a0),p 16 (I (a0.length:Int)),p 17 (I v2)] [(9,K 155 y155 v4),(8,K 155 y155 v3)]) H fun v4 H=>iB [1,2,15,16,17,30] H fun H=>cD H (fun H=>iA [6]<|vTT<|fDD<|fR<|t1<|fDD<|t0<|hr H) fun H=>vK<|fK<|fQ<|jB [1,2,15,16,17] H fun H=>b1 H
 exact vE<|fE<|e1<|fX rfl<|n0 H
def u119(a0:Y134)(a1:Y134):Option Bool :=
 gd (((a0.2.1==a1.2.1)=true/\True->(u151c152 a0.2.2.1 a1.2.2.1).isSome)/\True) <|
 some (a0.2.1==a1.2.1&&vl (u151c152 a0.2.2.1 a1.2.2.1))
def k119:Ct:=lct 119 [.agg y134,.agg y134] (fun x=>u119 x.1 x.2.1) (fun r:Bool=>B r) (fun _=>())
theorem o119:Ok prog k119:=by
 refine okM [.tmp 4] func119 ?_;intro y ⟨_,_,_⟩ r H Q hn hr;have:=hz (tc o152 (tc o151c152 tn));refine iA [2,3]<|iB [4] H fun H=>vTT<|hr H
def u87(a0:Y55)(a1:Y51):Option Bool :=
 gd ((u56 a1.2.1).isSome/\True)<|lt (vl (u56 a1.2.1)) fun v0 =>
 if(a0.1==1) then
  gd (ix a0.2.1 v0.length/\a0.2.1.toNat<v0.length/\True)<|lt (v0.getD a0.2.1.toNat (dflt y104)) fun v1 =>
  gd (((decide (0<=v1.1)&&v1.2.2.2)=true/\True->ix v1.1 a1.2.1.1.length)/\((decide (0<=v1.1)&&v1.2.2.2)=true/\True->ix (a1.2.1.1.getD v1.1.toNat (dflt y94)).2.1 a1.1.length)/\((decide (0<=v1.1)&&v1.2.2.2)=true/\True->ix a0.2.2.1 a1.1.length)/\((decide (0<=v1.1)&&v1.2.2.2)=true/\True->(u119 (a1.1.getD (a1.2.1.1.getD v1.1.toNat (dflt y94)).2.1.toNat (dflt y134)) (a1.1.getD a0.2.2.1.toNat (dflt y134))).isSome)/\True) <|
  some (decide (0<=v1.1)&&v1.2.2.2&&vl (u119 (a1.1.getD (a1.2.1.1.getD v1.1.toNat (dflt y94)).2.1.toNat (dflt y134)) (a1.1.getD a0.2.2.1.toNat (dflt y134))))
 else
  if(a0.1==2) then
   gd (ix a0.2.1 v0.length/\a0.2.1.toNat<v0.length/\((!(v0.getD a0.2.1.toNat (dflt y104)).2.2.2)=true/\True->ix a0.2.2.1 a1.1.length)/\((!(v0.getD a0.2.1.toNat (dflt y104)).2.2.2)=true/\True->(u120 (a1.1.getD a0.2.2.1.toNat (dflt y134))).isSome)/\((!(v0.getD a0.2.1.toNat (dflt y104)).2.2.2&&vl (u120 (a1.1.getD a0.2.2.1.toNat (dflt y134))))=true/\True->(u121 a0.2.2.2.2.2.1).isSome)/\((!(v0.getD a0.2.1.toNat (dflt y104)).2.2.2&&vl (u120 (a1.1.getD a0.2.2.1.toNat (dflt y134)))&&vl (u121 a0.2.2.2.2.2.1))=true/\True->(u122 a1.2.1 a0.2.2.2.2.2.1).isSome)/\((!(v0.getD a0.2.1.toNat (dflt y104)).2.2.2&&vl (u120 (a1.1.getD a0.2.2.1.toNat (dflt y134)))&&vl (u121 a0.2.2.2.2.2.1)&&decide (vl (u122 a1.2.1 a0.2.2.2.2.2.1)<0))=true/\True->(u123 a1.2.1 a0.2.2.2.2.2.1).isSome)/\True)<|lt ((vl (u122 a1.2.1 a0.2.2.2.2.2.1),vl (u123 a1.2.1 a0.2.2.2.2.2.1))) fun(v2,v3) =>
   some (!(v0.getD a0.2.1.toNat (dflt y104)).2.2.2&&vl (u120 (a1.1.getD a0.2.2.1.toNat (dflt y134)))&&vl (u121 a0.2.2.2.2.2.1)&&decide (v2<0)&&decide (v3<0))
  else
   if(a0.1==3) then
    gd ((u124 a1).isSome/\True) <|
    some (vl (u124 a1))
   else
    if(a0.1==4) then
     gd (ix a0.2.1 v0.length/\a0.2.1.toNat<v0.length/\((!(v0.getD a0.2.1.toNat (dflt y104)).2.2.2)=true/\True->ix a0.2.1 v0.length)/\((!(v0.getD a0.2.1.toNat (dflt y104)).2.2.2)=true/\True->a0.2.1.toNat<v0.length)/\True) <|
     some (!(v0.getD a0.2.1.toNat (dflt y104)).2.2.2&&(v0.getD a0.2.1.toNat (dflt y104)).2.2.1 != a0.2.2.2.1)
    else
     gd (ix a0.2.2.2.1 a1.2.2.length/\(u111 (a1.2.2.getD a0.2.2.2.1.toNat (dflt y53)).2.2.2).isSome/\(u85 a0.2.2.2.2.2.2 (vl (u111 (a1.2.2.getD a0.2.2.2.1.toNat (dflt y53)).2.2.2))).isSome/\True) <|
     some (vl (u85 a0.2.2.2.2.2.2 (vl (u111 (a1.2.2.getD a0.2.2.2.1.toNat (dflt y53)).2.2.2))))
def k87:Ct:=lct 87 [.agg y55,.agg y51] (fun x=>u87 x.1 x.2.1) (fun r:Bool=>B r) (fun _=>())
theorem o87:Ok prog k87:=by
 refine okM [.tmp 4] func87 ?_;intro y ⟨a0,a1,_⟩ r H Q hn hr;have:=hz (tc o85 (tc o111 (tc o124 (tc o123 (tc o122 (tc o121 (tc o120 (tc o119 (tc o56 tn)))))))));refine iA [2,3]<|iA [2,3,5]<|iD o56 [2,3,5,6] H fun v0 H=>vQ<|iA [2,3,5,6,13]<|vB<|iA [2,3,5,6,13,14]<|cD H (fun H=>qD (fun v1=>Z (G0 [p 5 (R 5),p 7 (R 7)]) ((7,bx 104 (cellsD true y104 v1))::(11,A 104 y104 v0 0)::W3 a1.2.1 a1 a0)) H fun v1 H=>iB [4] H fun H=>vTT<|fDD<|fR<|hr H) fun H=>iA [2,3,5,6,13,50]<|cD H (fun H=>?_) (fun H=>?_)
 ·refine qD (fun(v2,v3)=>Z [p 4 (B (!(v0.getD a0.2.1.toNat (dflt y104)).2.2.2&&vl (u120 (a1.1.getD a0.2.2.1.toNat (dflt y134)))&&vl (u121 a0.2.2.2.2.2.1)&&decide (v2<0)&&decide (v3<0)))] ((11,A 104 y104 v0 0)::W3 a1.2.1 a1 a0)) H fun⟨v2,v3⟩ H =>
   vTT<|fDD<|fR<|hr H
 refine iA [2,3,6,13,88]<|cD H (fun H=>iB [4] H fun H=>vTT<|fDD<|fR<|hr H) fun H=>iA [2,3,6,92]<|cD H (fun H=>iB [4] H fun H=>vTT<|fDD<|fR<|hr H) fun H=>vK<|fK<|fQ<|iB [4] H fun H=>vTT<|hr H
def u108(a0:Y48)(a1:Int):Option Bool :=
 gd ((u57 a0.2.1).isSome/\in64 (vl (u57 a0.2.1)-1)/\(u112 a1 0 (vl (u57 a0.2.1)-1)).isSome/\True) <|
 some (vl (u112 a1 0 (vl (u57 a0.2.1)-1)))
def k108:Ct:=lct 108 [.agg y48,.dat i64] (fun x=>u108 x.1 x.2.1) (fun r:Bool=>B r) (fun _=>())
theorem o108:Ok prog k108:=by
 refine okM [.tmp 4] func108 ?_;intro y ⟨_,_,_⟩ r H Q hn hr;have:=hz (tc o112 (tc o57 tn));refine iA [1,2]<|iB [4] H fun H=>vTT<|hr H
def u118(a0:List Y134):Option Int :=
 some (a0.length:Int)
def k118:Ct:=lct 118 [.dat y134.sl] (fun x=>u118 x.1) (fun r:Int=>I r) (fun _=>())
theorem o118:Ok prog k118:=by
 refine okM [.tmp 2] func118 ?_;intro y ⟨_,_⟩ r H Q hn hr;refine iA [0]<|iA [2]<|vTT<|hr H
def u117(a0:List Y104):Option Int :=
 some (a0.length:Int)
def k117:Ct:=lct 117 [.dat y104.sl] (fun x=>u117 x.1) (fun r:Int=>I r) (fun _=>())
theorem o117:Ok prog k117:=by
 refine okM [.tmp 2] func117 ?_;intro y ⟨_,_⟩ r H Q hn hr;refine iA [0]<|iA [2]<|vTT<|hr H
def u176J0:Unit->Option Bool
 | _ =>
 some true
def u176L1(a0:List Int)(a1:List Int)(g1:Int->Option Bool):Int->Option Bool
 | v0 =>
 if(decide (v0 < (a0.length:Int))) then
  gd (ix v0 a0.length/\ix v0 a1.length/\True) <|
  if(a0.getD v0.toNat 0 != a1.getD v0.toNat 0) then
   some false
  else
   gd (in64 (v0+1)/\True) <|
   g1 (v0+1)
 else
  u176J0 ()
def u176(a0:List Int)(a1:List Int):Option Bool :=
 if((a0.length:Int) != (a1.length:Int)) then
  some false
 else
  lp (u176L1 a0 a1) 0
def k176:Ct:=lct 176 [.dat i64.sl,.dat i64.sl] (fun x=>u176 x.1 x.2.1) (fun r:Bool=>B r) (fun _=>())
theorem o176:Ok prog k176:=by
 refine okM [.tmp 4] func176 ?_;intro y ⟨a0,a1,_⟩ r H Q hn hr;refine iA [0,1]<|vQ<|iA [0,1,10]<|cD H (fun H=>iA [4]<|vTT<|fR<|hr H) fun H=>vK<|fQ<|jN r (fun(_:Unit)=>Z [] []) (u176J0) (fun _ H=>?_) (fun _ n0 e0 t0=>?_)
 ·refine iA [4]<|vTT<|hr H
 refine iA [0,1,12,13]<|vB<|lX (fun(v0:Int)=>Z [p 0 (L i64 a0),p 1 (L i64 a1),p 12 (I (a0.length:Int)),p 13 (I v0)] []) 0 H fun _ g1 b1 e1 t1 v0 H=>iA [0,1,12,13,14]<|vQ<|cD H (fun H=>?_) (fun H=>?_)
 ·refine vK<|fQ<|vQ<|vB<|iA [0,1,5,12,13]<|iB [0,1,12,13,24] H fun H=>cD H (fun H=>iA [4]<|vTT<|fDD<|fR<|t1<|fDD<|t0<|hr H) fun H=>vK<|fK<|fQ<|jB [0,1,12,13] H fun H=>b1 H
 exact vE<|fE<|e1<|fX rfl<|n0 H
def u150(a0:Y53)(a1:Y53):Option Bool :=
 gd ((u176 a0.1 a1.1).isSome/\(vl (u176 a0.1 a1.1)=true/\True->(u176 a0.2.1 a1.2.1).isSome)/\((vl (u176 a0.1 a1.1)&&vl (u176 a0.2.1 a1.2.1))=true/\True->(u176 a0.2.2.1 a1.2.2.1).isSome)/\((vl (u176 a0.1 a1.1)&&vl (u176 a0.2.1 a1.2.1)&&vl (u176 a0.2.2.1 a1.2.2.1))=true/\True->(u176 a0.2.2.2 a1.2.2.2).isSome)/\True) <|
 some (vl (u176 a0.1 a1.1)&&vl (u176 a0.2.1 a1.2.1)&&vl (u176 a0.2.2.1 a1.2.2.1)&&vl (u176 a0.2.2.2 a1.2.2.2))
def k150:Ct:=lct 150 [.agg y53,.agg y53] (fun x=>u150 x.1 x.2.1) (fun r:Bool=>B r) (fun _=>())
theorem o150:Ok prog k150:=by
 refine okM [.tmp 4] func150 ?_;intro y ⟨_,_,_⟩ r H Q hn hr;have:=hz (tc o176 tn);refine iA [2,3]<|iB [4] H fun H=>vTT<|hr H
def u115(a0:Y55)(a1:Y55):Option Bool :=
 gd (((a0.1==a1.1&&a0.2.1==a1.2.1&&a0.2.2.1==a1.2.2.1&&a0.2.2.2.1==a1.2.2.2.1&&a0.2.2.2.2.1==a1.2.2.2.2.1&&decide (a0.2.2.2.2.2.1=a1.2.2.2.2.2.1))=true/\True->(u150 a0.2.2.2.2.2.2 a1.2.2.2.2.2.2).isSome)/\True)<|lt (a0.1==a1.1&&a0.2.1==a1.2.1&&a0.2.2.1==a1.2.2.1&&a0.2.2.2.1==a1.2.2.2.1&&a0.2.2.2.2.1==a1.2.2.2.2.1&&decide (a0.2.2.2.2.2.1=a1.2.2.2.2.2.1)&&vl (u150 a0.2.2.2.2.2.2 a1.2.2.2.2.2.2)) fun v0 =>
 some v0
def k115:Ct:=lct 115 [.agg y55,.agg y55] (fun x=>u115 x.1 x.2.1) (fun r:Bool=>B r) (fun _=>())
theorem o115:Ok prog k115:=by
 refine okM [.tmp 4] func115 ?_;intro y ⟨a0,a1,_⟩ r H Q hn hr;have:=hz (tc o150 tn);refine iA [2,3]<|qD (fun v0=>Z [p 4 (B v0)] [(3,K 55 y55 a1),(2,K 55 y55 a0)]) H fun v0 H=>vTT<|hr H
def u116(a0:Y55):Option Y55 :=
 if(a0.1==1) then
  some ((a0.1,a0.2.1,a0.2.2.1,(0:Int),(0:Int),ByteArray.mk #[],[],[],[],[]))
 else
  if(a0.1==2) then
   some ((a0.1,a0.2.1,a0.2.2.1,(0:Int),(0:Int),a0.2.2.2.2.2.1,[],[],[],[]))
  else
   if(a0.1==4) then
    some ((a0.1,a0.2.1,(0:Int),a0.2.2.2.1,a0.2.2.2.2.1,ByteArray.mk #[],[],[],[],[]))
   else
    if(a0.1==5) then
     some ((a0.1,(0:Int),(0:Int),a0.2.2.2.1,(0:Int),ByteArray.mk #[],a0.2.2.2.2.2.2))
    else
     some ((a0.1,(0:Int),(0:Int),(0:Int),(0:Int),ByteArray.mk #[],[],[],[],[]))
def k116:Ct:=lct 116 [.agg y55] (fun x=>u116 x.1) (fun r:Y55=>AV.agg [I r.1,I r.2.1,I r.2.2.1,I r.2.2.2.1,I r.2.2.2.2.1,S r.2.2.2.2.2.1,L i64 r.2.2.2.2.2.2.1,L i64 r.2.2.2.2.2.2.2.1,L i64 r.2.2.2.2.2.2.2.2.1,L i64 r.2.2.2.2.2.2.2.2.2]) (fun _=>())
theorem o116:Ok prog k116:=by
 refine okM [.cell 2 55] func116 ?_;intro y ⟨_,_⟩ r H Q hn hr;refine iA [1,2]<|vQ<|iA [1,2,4]<|vB<|iA [1,2,4,5]<|cD H (fun H=>iA [2]<|vTT<|fDD<|fR<|hr H) fun H=>iA [1,2,4,14]<|cD H (fun H=>iA [2]<|vTT<|fDD<|fR<|hr H) fun H=>iA [1,2,4,25]<|cD H (fun H=>iA [2]<|vTT<|fDD<|fR<|hr H) fun H=>iA [1,2,36]<|cD H (fun H=>iA [2]<|vTT<|fDD<|fR<|hr H) fun H=>vK<|fK<|fQ<|iA [2]<|vTT<|hr H
def u86J0(a0:Y55)(v0:List Y104)(a1:Y51):Bool->Option Bool
 | v1 =>
 if v1 then
  gd ((vl (u112 a0.2.1 0 (vl (u117 v0)-1))=true/\True->(u118 a1.1).isSome)/\(vl (u112 a0.2.1 0 (vl (u117 v0)-1))=true/\True->in64 (vl (u118 a1.1)-1))/\(vl (u112 a0.2.1 0 (vl (u117 v0)-1))=true/\True->(u112 a0.2.2.1 0 (vl (u118 a1.1)-1)).isSome)/\True) <|
  some (vl (u112 a0.2.1 0 (vl (u117 v0)-1))&&vl (u112 a0.2.2.1 0 (vl (u118 a1.1)-1)))
 else
  if(a0.1==4) then
   gd ((vl (u112 a0.2.1 0 (vl (u117 v0)-1))=true/\True->(u108 a1.2.1 a0.2.2.2.1).isSome)/\((vl (u112 a0.2.1 0 (vl (u117 v0)-1))&&vl (u108 a1.2.1 a0.2.2.2.1))=true/\True->ix a0.2.2.2.1 a1.2.2.length)/\((vl (u112 a0.2.1 0 (vl (u117 v0)-1))&&vl (u108 a1.2.1 a0.2.2.2.1))=true/\True->(u111 (a1.2.2.getD a0.2.2.2.1.toNat (dflt y53)).1).isSome)/\((vl (u112 a0.2.1 0 (vl (u117 v0)-1))&&vl (u108 a1.2.1 a0.2.2.2.1))=true/\True->in64 (vl (u111 (a1.2.2.getD a0.2.2.2.1.toNat (dflt y53)).1)-1))/\((vl (u112 a0.2.1 0 (vl (u117 v0)-1))&&vl (u108 a1.2.1 a0.2.2.2.1))=true/\True->(u112 a0.2.2.2.2.1 0 (vl (u111 (a1.2.2.getD a0.2.2.2.1.toNat (dflt y53)).1)-1)).isSome)/\True) <|
   some (vl (u112 a0.2.1 0 (vl (u117 v0)-1))&&vl (u108 a1.2.1 a0.2.2.2.1)&&vl (u112 a0.2.2.2.2.1 0 (vl (u111 (a1.2.2.getD a0.2.2.2.1.toNat (dflt y53)).1)-1)))
  else
   if(a0.1==5) then
    gd ((u108 a1.2.1 a0.2.2.2.1).isSome/\True) <|
    some (vl (u108 a1.2.1 a0.2.2.2.1))
   else
    some true
def u86(a0:Y55)(a1:Y51):Option Bool :=
 gd ((u112 a0.1 1 5).isSome/\((!vl (u112 a0.1 1 5))=false/\True->(u116 a0).isSome)/\((!vl (u112 a0.1 1 5))=false/\True->(u115 a0 (vl (u116 a0))).isSome)/\True) <|
 if(!vl (u112 a0.1 1 5)||!vl (u115 a0 (vl (u116 a0)))) then
  some false
 else
  gd ((u56 a1.2.1).isSome/\(u117 (vl (u56 a1.2.1))).isSome/\in64 (vl (u117 (vl (u56 a1.2.1)))-1)/\(u112 a0.2.1 0 (vl (u117 (vl (u56 a1.2.1)))-1)).isSome/\True)<|lt (vl (u56 a1.2.1)) fun v0 =>
  if(a0.1==1) then
   u86J0 a0 v0 a1 (a0.1==1)
  else
   u86J0 a0 v0 a1 (a0.1==2)
def k86:Ct:=lct 86 [.agg y55,.agg y51] (fun x=>u86 x.1 x.2.1) (fun r:Bool=>B r) (fun _=>())
theorem o86:Ok prog k86:=by
 refine okM [.tmp 4] func86 ?_;intro y ⟨a0,a1,_⟩ r H Q hn hr;have:=hz (tc o108 (tc o112 (tc o111 (tc o118 (tc o117 (tc o56 (tc o115 (tc o116 tn))))))));refine iA [2,3]<|vQ<|iB [2,3,16] H fun H=>cD H (fun H=>iA [4]<|vTT<|fR<|hr H) fun H=>vK<|fQ<|iD o56 [2,3,5] H fun v0 H=>vQ<|iA [2,3,5,26]<|vB<|jN r (fun(v1:Bool)=>Z (G0 [p 5 (B (vl (u112 a0.2.1 0 (vl (u117 v0)-1)))),p 26 (J a0.1),p 27 (B v1)]) [(3,K 51 y51 a1),(2,K 55 y55 a0)]) (u86J0 a0 v0 a1) (fun v1 H=>?_) (fun _ n0 e0 t0=>?_)
 ·refine cD H (fun H=>iB [4] H fun H=>vTT<|fDD<|fR<|hr H) fun H=>iA [2,3,5,26,41]<|cD H (fun H=>iB [4] H fun H=>vTT<|fDD<|fR<|hr H) fun H=>iA [2,3,65]<|cD H (fun H=>iB [4] H fun H=>vTT<|fDD<|fR<|hr H) fun H=>vK<|fK<|fQ<|iA [4]<|vTT<|hr H
 refine iA [2,3,5,26,27]<|cD H (fun H=>vK<|n0 H) fun H=>jA [2,3,5,26,27]<|n0 H
def u54(a0:Y55)(a1:Y51):Option Int :=
 gd ((u86 a0 a1).isSome/\True) <|
 if(!vl (u86 a0 a1)) then
  some 2
 else
  gd ((u87 a0 a1).isSome/\True) <|
  if(!vl (u87 a0 a1)) then
   some 5
  else
   if(a0.1==2&&((a1.2.1.1.length:Int)==14||(a1.2.1.2.1.length:Int)==30)) then
    some 3
   else
    some 0
def k54:Ct:=lct 54 [.agg y55,.agg y51] (fun x=>u54 x.1 x.2.1) (fun r:Int=>I r) (fun _=>())
theorem o54:Ok prog k54:=by
 refine okM [.tmp 4] func54 ?_;intro y ⟨_,_,_⟩ r H Q hn hr;have:=hz (tc o87 (tc o86 tn));refine iA [2,3]<|vQ<|vB<|iB [2,3,5] H fun H=>cD H (fun H=>iA [4]<|vTT<|fDD<|fR<|hr H) fun H=>iB [2,3,10] H fun H=>cD H (fun H=>iA [4]<|vTT<|fDD<|fR<|hr H) fun H=>iA [15]<|cD H (fun H=>iA [4]<|vTT<|fDD<|fR<|hr H) fun H=>vK<|fK<|fQ<|iA [4]<|vTT<|hr H
def u110(a0:Int):Option Bool :=
 some (a0 != 1)
def k110:Ct:=lct 110 [.dat i64] (fun x=>u110 x.1) (fun r:Bool=>B r) (fun _=>())
theorem o110:Ok prog k110:=by
 refine okM [.tmp 2] func110 ?_;intro y ⟨_,_⟩ r H Q hn hr;refine iA [0]<|iA [2]<|vTT<|hr H
def u147(a0:Int)(a1:Y48):Option Bool :=
 gd ((u108 a1 a0).isSome/\True) <|
 some (!vl (u108 a1 a0))
def k147:Ct:=lct 147 [.dat i64,.dat (.pt y48)] (fun x=>u147 x.1 x.2.1) (fun r:Bool=>B r) (fun _=>())
theorem o147:Ok prog k147:=by
 refine okM [.tmp 3] func147 ?_;intro y ⟨_,_,_⟩ r H Q hn hr;have:=hz (tc o108 tn);refine iA [0,1]<|iB [3] H fun H=>vTT<|hr H
def u175c147J0:Unit->Option Int
 | _ =>
 some (-1)
def u175c147L1(a0:List Int)(a1:Y48)(g1:Int->Option Int):Int->Option Int
 | v0 =>
 if(decide (v0 < (a0.length:Int))) then
  gd (ix v0 a0.length/\(u147 (a0.getD v0.toNat 0) a1).isSome/\True) <|
  if(vl (u147 (a0.getD v0.toNat 0) a1)) then
   some v0
  else
   gd (in64 (v0+1)/\True) <|
   g1 (v0+1)
 else
  u175c147J0 ()
def u175c147(a0:List Int)(a1:Y48):Option Int :=
 lp (u175c147L1 a0 a1) 0
def k175c147:Ct:=lct 175 [.dat i64.sl,.fn 147 y48.pt] (fun x=>u175c147 x.1 x.2.1) (fun r:Int=>I r) (fun _=>())
theorem o175c147:Ok prog k175c147:=by
 refine okM [.tmp 4] func175 ?_;intro y ⟨a0,a1,_⟩ r H Q hn hr;have:=hz (tc o147 tn);refine iA [0,1]<|jN r (fun(_:Unit)=>Z [] []) (u175c147J0) (fun _ H=>?_) (fun _ n0 e0 t0=>?_)
 ·refine iA [4]<|vTT<|hr H
 refine iA [0,1,7,8]<|vB<|lX (fun(v0:Int)=>Z [p 0 (L i64 a0),p 1 (AV.fn 147 [D y48.pt a1]),p 7 (I (a0.length:Int)),p 8 (I v0)] []) 0 H fun _ g1 b1 e1 t1 v0 H=>iA [0,1,7,8,9]<|vQ<|cD H (fun H=>?_) (fun H=>?_)
 ·refine vK<|fQ<|vQ<|vB<|iA [0,1,5,7,8]<|iB [0,1,5,7,8,16] H fun H=>cD H (fun H=>iA [4]<|vTT<|fDD<|fR<|t1<|fDD<|t0<|hr H) fun H=>vK<|fK<|fQ<|jB [0,1,7,8] H fun H=>b1 H
 exact vE<|fE<|e1<|fX rfl<|n0 H
def u146c147(a0:List Int)(a1:Y48):Option Bool :=
 gd ((u175c147 a0 a1).isSome/\True)<|lt (vl (u175c147 a0 a1)) fun v0 =>
 some (decide (0<=v0))
def k146c147:Ct:=lct 146 [.dat i64.sl,.fn 147 (.pt y48)] (fun x=>u146c147 x.1 x.2.1) (fun r:Bool=>B r) (fun _=>())
theorem o146c147:Ok prog k146c147:=by
 refine okM [.tmp 4] func146 ?_;intro y ⟨_,_,_⟩ r H Q hn hr;have:=hz (tc o175c149 (tc o175c147 (tc o147 tn)));refine iA [0,1]<|iD o175c147 [4] H fun _ H=>vTT<|hr H
def u107(a0:Y48)(a1:List Y134)(a2:Y94):Option Bool :=
 gd ((u118 a1).isSome/\in64 (vl (u118 a1)-1)/\(u112 a2.2.1 0 (vl (u118 a1)-1)).isSome/\(vl (u112 a2.2.1 0 (vl (u118 a1)-1))=true/\True->ix a2.2.1 a1.length)/\((vl (u112 a2.2.1 0 (vl (u118 a1)-1))&&(a2.2.2.length:Int)==(↑(a1.getD a2.2.1.toNat (dflt y134)).2.2.1.length:Int))=true/\True->(u146c147 a2.2.2 a0).isSome)/\True) <|
 some (vl (u112 a2.2.1 0 (vl (u118 a1)-1))&&(a2.2.2.length:Int)==(↑(a1.getD a2.2.1.toNat (dflt y134)).2.2.1.length:Int)&&!vl (u146c147 a2.2.2 a0))
def k107:Ct:=lct 107 [.agg y48,.agg y134.sl,.agg y94] (fun x=>u107 x.1 x.2.1 x.2.2.1) (fun r:Bool=>B r) (fun _=>())
theorem o107:Ok prog k107:=by
 refine okM [.tmp 6] func107 ?_;intro y ⟨_,_,_,_⟩ r H Q hn hr;have:=hz (tc o146c149 (tc o146c147 (tc o147 (tc o112 (tc o118 tn)))));refine iA [3,4,5]<|iB [6] H fun H=>vTT<|hr H
def u174(a0:List ByteArray)(a1:ByteArray):Option Bool :=
 gd ((u157 a0 a1).isSome/\True)<|lt (vl (u157 a0 a1)) fun v0 =>
 some (decide (0<=v0))
def k174:Ct:=lct 174 [.dat Ty.str.sl,.dat Ty.str] (fun x=>u174 x.1 x.2.1) (fun r:Bool=>B r) (fun _=>())
theorem o174:Ok prog k174:=by
 refine okM [.tmp 4] func174 ?_;intro y ⟨_,_,_⟩ r H Q hn hr;have:=hz (tc o157 tn);refine iA [0,1]<|iD o157 [4] H fun _ H=>vTT<|hr H
def u145J0:Unit->Option Bool
 | _ =>
 some true
def u145L1(a0:List ByteArray)(g1:Int->Option Bool):Int->Option Bool
 | v0 =>
 if(decide (v0 < (a0.length:Int))) then
  gd (ix v0 a0.length/\True) <|
  gd ((u121 (a0.getD v0.toNat (dflt Ty.str))).isSome/\((!vl (u121 (a0.getD v0.toNat (dflt Ty.str))))=false/\True->(0:Int)<=(0:Int)/\(0:Int)<=v0/\v0<=(a0.length:Int))/\((!vl (u121 (a0.getD v0.toNat (dflt Ty.str))))=false/\True->(u174 (List.take v0.toNat a0) (a0.getD v0.toNat (dflt Ty.str))).isSome)/\True) <|
  if(!vl (u121 (a0.getD v0.toNat (dflt Ty.str)))||vl (u174 (List.take v0.toNat a0) (a0.getD v0.toNat (dflt Ty.str)))) then
   some false
  else
   gd (in64 (v0+1)/\True) <|
   g1 (v0+1)
 else
  u145J0 ()
def u145(a0:List ByteArray):Option Bool :=
 lp (u145L1 a0) 0
def k145:Ct:=lct 145 [.dat Ty.str.sl] (fun x=>u145 x.1) (fun r:Bool=>B r) (fun _=>())
theorem o145:Ok prog k145:=by
 refine okM [.tmp 2] func145 ?_;intro y ⟨a0,_⟩ r H Q hn hr;have:=hz (tc o174 (tc o121 tn));refine iA [0]<|jN r (fun(_:Unit)=>Z [] []) (u145J0) (fun _ H=>?_) (fun _ n0 e0 t0=>?_)
 ·refine iA [2]<|vTT<|hr H
 refine iA [0,5,6,7]<|vB<|lX (fun(v0:Int)=>Z [p 0 (L Ty.str a0),p 5 (L Ty.str a0),p 6 (I (a0.length:Int)),p 7 (I v0)] []) 0 H fun _ g1 b1 e1 t1 v0 H=>iA [0,5,6,7,8]<|vQ<|cD H (fun H=>?_) (fun H=>?_)
 ·refine vK<|fQ<|vQ<|vB<|iB [0,3,4,5,6,7] H fun H=>iB [0,5,6,7,21] H fun H=>cD H (fun H=>iA [2]<|vTT<|fDD<|fR<|t1<|fDD<|t0<|hr H) fun H=>vK<|fK<|fQ<|jB [0,5,6,7] H fun H=>b1 H
 exact vE<|fE<|e1<|fX rfl<|n0 H
def u106J2(v4:List ByteArray)(a0:Y48):List ByteArray->Option Bool
 | v9 =>
 gd (((decide ((v4.length:Int)<=14)&&decide ((a0.2.1.length:Int)<=30)&&decide ((v9.length:Int)<=8))=true/\True->(u145 v4).isSome)/\((decide ((v4.length:Int)<=14)&&decide ((a0.2.1.length:Int)<=30)&&decide ((v9.length:Int)<=8)&&vl (u145 v4))=true/\True->(u145 a0.2.1).isSome)/\((decide ((v4.length:Int)<=14)&&decide ((a0.2.1.length:Int)<=30)&&decide ((v9.length:Int)<=8)&&vl (u145 v4)&&vl (u145 a0.2.1))=true/\True->(u145 v9).isSome)/\True) <|
 some (decide ((v4.length:Int)<=14)&&decide ((a0.2.1.length:Int)<=30)&&decide ((v9.length:Int)<=8)&&vl (u145 v4)&&vl (u145 a0.2.1)&&vl (u145 v9))
def u106L3(a0:Y48)(v4:List ByteArray)(g3:List ByteArray×Int->Option Bool):List ByteArray×Int->Option Bool
 | (v6,v7) =>
 if(decide (v7 < (a0.2.2.length:Int))) then
  gd (ix v7 a0.2.2.length/\True)<|lt (a0.2.2.getD v7.toNat (dflt y138)) fun v8 =>
  gd ((v6.length+[v8.1].length<=9223372036854775807/\(v6.length+[v8.1].length)*16<=140737488355328)/\True) <|
  gd (in64 (v7+1)/\True) <|
  g3 (v6++[v8.1],v7+1)
 else
  u106J2 v4 a0 v6
def u106J0(a0:Y48):List ByteArray->Option Bool
 | v4 =>
 lp (u106L3 a0 v4) ([],0)
def u106L1(a0:Y48)(g1:List ByteArray×Int->Option Bool):List ByteArray×Int->Option Bool
 | (v1,v2) =>
 if(decide (v2 < (a0.1.length:Int))) then
  gd (ix v2 a0.1.length/\True)<|lt (a0.1.getD v2.toNat (dflt y94)) fun v3 =>
  gd ((v1.length+[v3.1].length<=9223372036854775807/\(v1.length+[v3.1].length)*16<=140737488355328)/\True) <|
  gd (in64 (v2+1)/\True) <|
  g1 (v1++[v3.1],v2+1)
 else
  u106J0 a0 v1
def u106(a0:Y48):Option Bool :=
 lp (u106L1 a0) ([],0)
def k106:Ct:=lct 106 [.agg y48] (fun x=>u106 x.1) (fun r:Bool=>B r) (fun _=>())
theorem o106:Ok prog k106:=by
 refine okM [.tmp 2] func106 ?_;intro y ⟨a0,_⟩ r H Q hn hr;have:=hz (tc o145 tn);refine iA [1]<|iA [1,3,4]<|jN r (fun(v4:List ByteArray)=>Z (G4 [p 4 (nil)]) [(1,K 48 y48 a0),(20,A 9 Ty.str v4 0)]) (u106J0 a0) (fun v4 H=>?_) (fun _ n0 e0 t0=>?_)
 ·refine jN r (fun(v9:List ByteArray)=>Z (G4 [p 4 (O 33)]) [(1,K 48 y48 a0),(20,A 9 Ty.str v4 0),(33,A 9 Ty.str v9 0)]) (u106J2 v4 a0) (fun v9 H=>?_) (fun _ n2 e2 t2=>?_)
  ·refine iB [2] H fun H=>vTT<|hr H
  refine iA [1,3,4,23,24,25]<|vB<|lX (fun((v6,v7):List ByteArray×Int)=>Z (G4 [p 4 (O 33),p 23 (L y138 a0.2.2),p 24 (I (a0.2.2.length:Int)),p 25 (I v7)]) [(1,K 48 y48 a0),(20,A 9 Ty.str v4 0),(33,A 9 Ty.str v6 0)]) ([],0) H fun _ g3 b3 e3 t3 ⟨v6,v7⟩ H=>iA [1,3,4,23,24,25,26]<|vQ<|cD H (fun H=>vK<|fQ<|vQ<|vB<|qD (fun v8=>Z (G4 [p 4 (O 33),p 8 (R 8),p 23 (L y138 a0.2.2),p 24 (I (a0.2.2.length:Int)),p 25 (I v7)]) [(8,K 138 y138 v8),(1,K 48 y48 a0),(20,A 9 Ty.str v4 0),(33,A 9 Ty.str v6 0)]) H fun v8 H=>jB [1,3,4,23,24,25] H fun H=>fK<|fQ<|jB [1,3,4,23,24,25] H fun H=>b3 H) fun H=>vE<|fE<|e3<|fX rfl<|n2 H
 refine iA [1,3,4,10,11,12]<|vB<|lX (fun((v1,v2):List ByteArray×Int)=>Z (G4 [p 4 (nil),p 10 (L y94 a0.1),p 11 (I (a0.1.length:Int)),p 12 (I v2)]) [(1,K 48 y48 a0),(20,A 9 Ty.str v1 0)]) ([],0) H fun _ g1 b1 e1 t1 ⟨v1,v2⟩ H=>iA [1,3,4,10,11,12,13]<|vQ<|cD H (fun H=>vK<|fQ<|vQ<|vB<|qD (fun v3=>Z (G4 [p 4 (nil),p 6 (R 6),p 10 (L y94 a0.1),p 11 (I (a0.1.length:Int)),p 12 (I v2)]) [(6,K 94 y94 v3),(1,K 48 y48 a0),(20,A 9 Ty.str v1 0)]) H fun v3 H=>jB [1,3,4,10,11,12] H fun H=>fK<|fQ<|jB [1,3,4,10,11,12] H fun H=>b1 H) fun H=>vE<|fE<|e1<|fX rfl<|n0 H
def u208(a0:Y190)(a1:Int):Option Bool :=
 some (a0.1==a1)
def k208:Ct:=lct 208 [.agg y190,.dat (.pt i64)] (fun x=>u208 x.1 x.2.1) (fun r:Bool=>B r) (fun _=>())
theorem o208:Ok prog k208:=by
 refine okM [.tmp 3] func208 ?_;intro y ⟨_,_,_⟩ r H Q hn hr;refine iA [1,2]<|iA [3]<|vTT<|hr H
def u207c208J0:Unit->Option Int
 | _ =>
 some (-1)
def u207c208L1(a0:List Y190)(a1:Int)(g1:Int->Option Int):Int->Option Int
 | v0 =>
 if(decide (v0 < (a0.length:Int))) then
  gd (ix v0 a0.length/\(u208 (a0.getD v0.toNat (dflt y190)) a1).isSome/\True) <|
  if(vl (u208 (a0.getD v0.toNat (dflt y190)) a1)) then
   some v0
  else
   gd (in64 (v0+1)/\True) <|
   g1 (v0+1)
 else
  u207c208J0 ()
def u207c208(a0:List Y190)(a1:Int):Option Int :=
 lp (u207c208L1 a0 a1) 0
def k207c208:Ct:=lct 207 [.dat y190.sl,.fn 208 i64.pt] (fun x=>u207c208 x.1 x.2.1) (fun r:Int=>I r) (fun _=>())
theorem o207c208:Ok prog k207c208:=by
 refine okM [.tmp 4] func207 ?_;intro y ⟨a0,a1,_⟩ r H Q hn hr;have:=hz (tc o208 tn);refine iA [0,1]<|jN r (fun(_:Unit)=>Z [] []) (u207c208J0) (fun _ H=>?_) (fun _ n0 e0 t0=>?_)
 ·refine iA [4]<|vTT<|hr H
 refine iA [0,1,7,8]<|vB<|lX (fun(v0:Int)=>Z [p 0 (L y190 a0),p 1 (AV.fn 208 [D i64.pt a1]),p 7 (I (a0.length:Int)),p 8 (I v0)] []) 0 H fun _ g1 b1 e1 t1 v0 H=>iA [0,1,7,8,9]<|vQ<|cD H (fun H=>?_) (fun H=>?_)
 ·refine vK<|fQ<|vQ<|vB<|iA [0,1,5,7,8]<|iB [0,1,5,7,8,16] H fun H=>cD H (fun H=>iA [4]<|vTT<|fDD<|fR<|t1<|fDD<|t0<|hr H) fun H=>vK<|fK<|fQ<|jB [0,1,7,8] H fun H=>b1 H
 exact vE<|fE<|e1<|fX rfl<|n0 H
def u192c208(a0:List Y190)(a1:Int):Option Bool :=
 gd ((u207c208 a0 a1).isSome/\True)<|lt (vl (u207c208 a0 a1)) fun v0 =>
 some (decide (0<=v0))
def k192c208:Ct:=lct 192 [.dat y190.sl,.fn 208 (.pt i64)] (fun x=>u192c208 x.1 x.2.1) (fun r:Bool=>B r) (fun _=>())
theorem o192c208:Ok prog k192c208:=by
 refine okM [.tmp 4] func192 ?_;intro y ⟨_,_,_⟩ r H Q hn hr;have:=hz (tc o207c208 (tc o208 tn));refine iA [0,1]<|iD o207c208 [4] H fun _ H=>vTT<|hr H
def u195(a0:Y134)(a1:Int):Option Bool :=
 gd ((u192c208 a0.2.2.2.1 a1).isSome/\True) <|
 some (vl (u192c208 a0.2.2.2.1 a1))
def k195:Ct:=lct 195 [.agg y134,.dat i64] (fun x=>u195 x.1 x.2.1) (fun r:Bool=>B r) (fun _=>())
theorem o195:Ok prog k195:=by
 refine okM [.tmp 4] func195 ?_;intro y ⟨_,_,_⟩ r H Q hn hr;have:=hz (tc o192c208 (tc o208 tn));refine iA [2,3]<|iB [4] H fun H=>vTT<|hr H
def u190(a0:List Y155):Option Int :=
 some (a0.length:Int)
def k190:Ct:=lct 190 [.dat y155.sl] (fun x=>u190 x.1) (fun r:Int=>I r) (fun _=>())
theorem o190:Ok prog k190:=by
 refine okM [.tmp 2] func190 ?_;intro y ⟨_,_⟩ r H Q hn hr;refine iA [0]<|iA [2]<|vTT<|hr H
def u194(a0:Y134):Option Int :=
 gd ((u190 a0.2.2.1).isSome/\in64 (vl (u190 a0.2.2.1)-1)/\True)<|lt (vl (u190 a0.2.2.1)) fun v0 =>
 some (v0-1)
def k194:Ct:=lct 194 [.agg y134] (fun x=>u194 x.1) (fun r:Int=>I r) (fun _=>())
theorem o194:Ok prog k194:=by
 refine okM [.tmp 2] func194 ?_;intro y ⟨_,_⟩ r H Q hn hr;have:=hz (tc o190 tn);refine iA [1]<|iD o190 [2] H fun _ H=>vTT<|hr H
def u173J0(a0:Y134):Int->Option Bool
 | v6 =>
 if(a0.2.1==1) then
  gd (((v6==(0:Int))=true/\True->(u194 a0).isSome)/\((v6==(0:Int))=true/\True->((0:Int)<=vl (u194 a0)/\vl (u194 a0)<=(62:Int))/\in64 ((1:Int)*(2:Int) ^ (vl (u194 a0)).toNat))/\((v6==(0:Int)&&(a0.2.2.2.2.1.length:Int)==(1:Int)*(2:den i64) ^ (vl (u194 a0)).toNat)=true/\True->(u114 a0.2.2.2.2.1 (0:Int) (1:Int)).isSome)/\True)<|lt (vl (u194 a0)) fun v7 =>
  some (v6==(0:Int)&&(a0.2.2.2.2.1.length:Int)==(1:Int)*(2:den i64) ^ v7.toNat&&vl (u114 a0.2.2.2.2.1 (0:Int) (1:Int)))
 else
  if(a0.2.1==2) then
   gd (((v6==1&&(a0.2.2.2.2.1.length:Int)==0)=true/\True->(u195 a0 1).isSome)/\((v6==1&&(a0.2.2.2.2.1.length:Int)==0&&!vl (u195 a0 1))=true/\True->(u195 a0 2).isSome)/\((v6==1&&(a0.2.2.2.2.1.length:Int)==0&&!vl (u195 a0 1))=true/\True->(u195 a0 3).isSome)/\True) <|
   some (v6==1&&(a0.2.2.2.2.1.length:Int)==0&&!vl (u195 a0 1)&&!vl (u195 a0 2)==vl (u195 a0 3))
  else
   if(a0.2.1==3) then
    gd (((v6==1&&(a0.2.2.2.2.1.length:Int)==0)=true/\True->(u195 a0 1).isSome)/\((v6==1&&(a0.2.2.2.2.1.length:Int)==0&&vl (u195 a0 1))=true/\True->(u195 a0 2).isSome)/\((v6==1&&(a0.2.2.2.2.1.length:Int)==0&&vl (u195 a0 1)&&vl (u195 a0 2))=true/\True->(u195 a0 3).isSome)/\True) <|
    some (v6==1&&(a0.2.2.2.2.1.length:Int)==0&&vl (u195 a0 1)&&vl (u195 a0 2)&&!vl (u195 a0 3))
   else
    some false
def u173J2(v3:Int)(g1:Int×Int->Option Bool):Int->Option Bool
 | v5 =>
 gd (in64 (v3+1)/\True) <|
 g1 (v5,v3+1)
def u173L1(a0:Y134)(g1:Int×Int->Option Bool):Int×Int->Option Bool
 | (v2,v3) =>
 if(decide (v3 < (a0.2.2.1.length:Int))) then
  gd (ix v3 a0.2.2.1.length/\True)<|lt (a0.2.2.1.getD v3.toNat (dflt y155)) fun v4 =>
  if v4.2.2.2 then
   gd (in64 (v2+1)/\True) <|
   u173J2 v3 g1 (v2+1)
  else
   u173J2 v3 g1 v2
 else
  u173J0 a0 v2
def u173(a0:Y134):Option Bool :=
 lp (u173L1 a0) (0,0)
def k173:Ct:=lct 173 [.agg y134] (fun x=>u173 x.1) (fun r:Bool=>B r) (fun _=>())
theorem o173:Ok prog k173:=by
 refine okM [.tmp 2] func173 ?_;intro y ⟨a0,_⟩ r H Q hn hr;have:=hz (tc o195 (tc o114 (tc o194 tn)));refine iA [1]<|iA [1,3]<|jN r (fun(v6:Int)=>Z (G1 v6 []) [(1,K 134 y134 a0)]) (u173J0 a0) (fun v6 H=>?_) (fun _ n0 e0 t0=>?_)
 ·refine vQ<|iA [1,3,19]<|vB<|iA [1,3,19,20]<|cD H (fun H=>iD o194 [2] H fun _ H=>vTT<|fDD<|fR<|hr H) fun H=>iA [1,3,19,38]<|cD H (fun H=>iB [2] H fun H=>vTT<|fDD<|fR<|hr H) fun H=>iA [1,3,60]<|cD H (fun H=>iB [2] H fun H=>vTT<|fDD<|fR<|hr H) fun H=>vK<|fK<|fQ<|iA [2]<|vTT<|hr H
 refine iA [1,3,7,8,9]<|vB<|lX (fun((v2,v3):Int×Int)=>Z (G1 v2 [p 7 (L y155 a0.2.2.1),p 8 (I (a0.2.2.1.length:Int)),p 9 (I v3)]) [(1,K 134 y134 a0)]) (0,0) H fun _ g1 b1 e1 t1 ⟨v2,v3⟩ H=>iA [1,3,7,8,9,10]<|vQ<|cD H (fun H=>?_) (fun H=>?_)
 ·refine vK<|fQ<|jN r (fun(v5:Int)=>Z (G1 v5 [p 7 (L y155 a0.2.2.1),p 8 (I (a0.2.2.1.length:Int)),p 9 (I v3)]) [(1,K 134 y134 a0)]) (u173J2 v3 g1) (fun v5 H=>?_) (fun _ n2 e2 t2=>?_)
  ·refine jB [1,3,7,8,9] H fun H=>b1 H
  refine vB<|qD (fun v4=>Z (G1 v2 [p 5 (R 5),p 7 (L y155 a0.2.2.1),p 8 (I (a0.2.2.1.length:Int)),p 9 (I v3)]) [(5,K 155 y155 v4),(1,K 134 y134 a0)]) H fun v4 H=>iA [1,3,7,8,9,14]<|cD H (fun H=>jB [1,3,7,8,9] H fun H=>fK<|n2 H) fun H=>vK<|fK<|n2 H
 exact vE<|fE<|e1<|fX rfl<|n0 H
def u206(a0:Y134)(a1:Int):Option Bool :=
 gd ((u194 a0).isSome/\in64 (vl (u194 a0)-1)/\(u112 a1 0 (vl (u194 a0)-1)).isSome/\True) <|
 some (vl (u112 a1 0 (vl (u194 a0)-1)))
def k206:Ct:=lct 206 [.agg y134,.dat i64] (fun x=>u206 x.1 x.2.1) (fun r:Bool=>B r) (fun _=>())
theorem o206:Ok prog k206:=by
 refine okM [.tmp 4] func206 ?_;intro y ⟨_,_,_⟩ r H Q hn hr;have:=hz (tc o112 (tc o194 tn));refine iA [1,2]<|iB [4] H fun H=>vTT<|hr H
def u216J1:Int->Option Int
 | v3 =>
 some v3
def u216L2(a0:List Int)(g2:Int×Int->Option Int):Int×Int->Option Int
 | (v1,v2) =>
 if(decide (v2 < (a0.length:Int))) then
  gd (ix v2 a0.length/\True) <|
  gd (in64 (v2+1)/\True) <|
  g2 ((min v1 (a0.getD v2.toNat 0),v2+1))
 else
  u216J1 v1
def u216J0(a0:List Int):Unit->Option Int
 | _ =>
 gd (ix 0 a0.length/\True) <|
 lp (u216L2 a0) ((a0.getD (Int.toNat (0:Int)) (0:Int),1))
def u216(a0:List Int):Option Int :=
 if(decide ((a0.length:Int)<1)) then
  none
 else
  u216J0 a0 ()
def k216:Ct:=lct 216 [.dat i64.sl] (fun x=>u216 x.1) (fun r:Int=>I r) (fun _=>())
theorem o216:Ok prog k216:=by
 refine okM [.tmp 2] func216 ?_;intro y ⟨a0,_⟩ r H Q hn hr;refine iA [0]<|jN r (fun(_:Unit)=>Z [p 0 (L i64 a0)] []) (u216J0 a0) (fun _ H=>?_) (fun _ n0 e0 t0=>?_)
 ·refine iB [0,3] H fun H=>jN r (fun(v3:Int)=>Z [p 3 (J v3)] []) (u216J1) (fun v3 H=>?_) (fun _ n1 e1 t1=>?_)
  ·refine iA [2]<|vTT<|hr H
  refine iA [0,3,4]<|vB<|lX (fun((v1,v2):Int×Int)=>Z [p 0 (L i64 a0),p 3 (J v1),p 4 (I v2)] []) ((a0.getD (Int.toNat (0:Int)) (0:Int),1)) H fun _ g2 b2 e2 t2 ⟨v1,v2⟩ H=>vQ<|iA [0,3,4,15]<|cD H (fun H=>vK<|fQ<|vQ<|vB<|jB [0,3,4] H fun H=>fK<|fQ<|jB [0,3,4] H fun H=>b2 H) fun H=>vE<|fE<|e2<|fX rfl<|n1 H
 refine iA [0,7]<|cD H (fun H=>dead H) fun H=>vK<|n0 H
def u225J0:Unit->Option Bool
 | _ =>
 some true
def u225L1(a0:List Int)(g1:Int->Option Bool):Int->Option Bool
 | v0 =>
 if(decide (v0 < (a0.length:Int))) then
  gd (in64 (v0-1)/\ix (v0-1) a0.length/\ix v0 a0.length/\True) <|
  if(decide (a0.getD v0.toNat 0<=a0.getD (v0-1).toNat 0)) then
   some false
  else
   gd (in64 (v0+1)/\True) <|
   g1 (v0+1)
 else
  u225J0 ()
def u225(a0:List Int):Option Bool :=
 lp (u225L1 a0) 1
def k225:Ct:=lct 225 [.dat i64.sl] (fun x=>u225 x.1) (fun r:Bool=>B r) (fun _=>())
theorem o225:Ok prog k225:=by
 refine okM [.tmp 2] func225 ?_;intro y ⟨a0,_⟩ r H Q hn hr;refine iA [0]<|jN r (fun(_:Unit)=>Z [] []) (u225J0) (fun _ H=>?_) (fun _ n0 e0 t0=>?_)
 ·refine iA [2]<|vTT<|hr H
 refine iA [0,3]<|vB<|lX (fun(v0:Int)=>Z [p 0 (L i64 a0),p 3 (I v0)] []) 1 H fun _ g1 b1 e1 t1 v0 H=>vQ<|iA [0,3,7]<|cD H (fun H=>?_) (fun H=>?_)
 ·refine vK<|fQ<|vQ<|vB<|iB [0,3,19] H fun H=>cD H (fun H=>iA [2]<|vTT<|fDD<|fR<|t1<|fDD<|t0<|hr H) fun H=>vK<|fK<|fQ<|jB [0,3] H fun H=>b1 H
 exact vE<|fE<|e1<|fX rfl<|n0 H
def u224(a0:List Int):Option Bool :=
 gd ((u111 a0).isSome/\(u112 (vl (u111 a0)) 1 4).isSome/\(vl (u112 (vl (u111 a0)) 1 4)=true/\True->(u114 a0 0 100000).isSome)/\((vl (u112 (vl (u111 a0)) 1 4)&&vl (u114 a0 0 100000))=true/\True->(u225 a0).isSome)/\True) <|
 some (vl (u112 (vl (u111 a0)) 1 4)&&vl (u114 a0 0 100000)&&vl (u225 a0))
def k224:Ct:=lct 224 [.dat i64.sl] (fun x=>u224 x.1) (fun r:Bool=>B r) (fun _=>())
theorem o224:Ok prog k224:=by
 refine okM [.tmp 2] func224 ?_;intro y ⟨_,_⟩ r H Q hn hr;have:=hz (tc o225 (tc o114 (tc o112 (tc o111 tn))));refine iA [0]<|iB [2] H fun H=>vTT<|hr H
def u215(a0:Y217):Option Bool :=
 gd ((u224 a0.1).isSome/\(vl (u224 a0.1)=true/\True->(u224 a0.2.1).isSome)/\((vl (u224 a0.1)&&vl (u224 a0.2.1))=true/\True->in64 ((a0.1.length:Int)*(a0.2.1.length:Int)))/\((vl (u224 a0.1)&&vl (u224 a0.2.1)&&(a0.2.2.length:Int)==(a0.1.length:Int)*(a0.2.1.length:Int))=true/\True->(u114 a0.2.2 (-1000000) 1000000).isSome)/\True) <|
 some (vl (u224 a0.1)&&vl (u224 a0.2.1)&&(a0.2.2.length:Int)==(a0.1.length:Int)*(a0.2.1.length:Int)&&vl (u114 a0.2.2 (-1000000) 1000000))
def k215:Ct:=lct 215 [.agg y217] (fun x=>u215 x.1) (fun r:Bool=>B r) (fun _=>())
theorem o215:Ok prog k215:=by
 refine okM [.tmp 2] func215 ?_;intro y ⟨_,_⟩ r H Q hn hr;have:=hz (tc o114 (tc o224 tn));refine iA [1]<|iB [2] H fun H=>vTT<|hr H
def u214(a0:Y217)(a1:Bool):Option Bool :=
 gd ((u215 a0).isSome/\(a1=true/\(!vl (u215 a0))=false/\True->(u216 a0.2.2).isSome)/\True)<|lt (vl (u216 a0.2.2)) fun v0 =>
 some (!vl (u215 a0)||a1&&decide (v0<0))
def k214:Ct:=lct 214 [.agg y217,.dat (.pt Ty.bool)] (fun x=>u214 x.1 x.2.1) (fun r:Bool=>B r) (fun _=>())
theorem o214:Ok prog k214:=by
 refine okM [.tmp 3] func214 ?_;intro y ⟨_,_,_⟩ r H Q hn hr;have:=hz (tc o216 (tc o215 tn));refine iA [1,2]<|iD o216 [3] H fun _ H=>vTT<|hr H
def u223c214J0:Unit->Option Int
 | _ =>
 some (-1)
def u223c214L1(a0:List Y217)(a1:Bool)(g1:Int->Option Int):Int->Option Int
 | v0 =>
 if(decide (v0 < (a0.length:Int))) then
  gd (ix v0 a0.length/\(u214 (a0.getD v0.toNat (dflt y217)) a1).isSome/\True) <|
  if(vl (u214 (a0.getD v0.toNat (dflt y217)) a1)) then
   some v0
  else
   gd (in64 (v0+1)/\True) <|
   g1 (v0+1)
 else
  u223c214J0 ()
def u223c214(a0:List Y217)(a1:Bool):Option Int :=
 lp (u223c214L1 a0 a1) 0
def k223c214:Ct:=lct 223 [.dat y217.sl,.fn 214 Ty.bool.pt] (fun x=>u223c214 x.1 x.2.1) (fun r:Int=>I r) (fun _=>())
theorem o223c214:Ok prog k223c214:=by
 refine okM [.tmp 4] func223 ?_;intro y ⟨a0,a1,_⟩ r H Q hn hr;have:=hz (tc o214 tn);refine iA [0,1]<|jN r (fun(_:Unit)=>Z [] []) (u223c214J0) (fun _ H=>?_) (fun _ n0 e0 t0=>?_)
 ·refine iA [4]<|vTT<|hr H
 refine iA [0,1,7,8]<|vB<|lX (fun(v0:Int)=>Z [p 0 (L y217 a0),p 1 (AV.fn 214 [D Ty.bool.pt a1]),p 7 (I (a0.length:Int)),p 8 (I v0)] []) 0 H fun _ g1 b1 e1 t1 v0 H=>iA [0,1,7,8,9]<|vQ<|cD H (fun H=>?_) (fun H=>?_)
 ·refine vK<|fQ<|vQ<|vB<|iA [0,1,5,7,8]<|iB [0,1,5,7,8,16] H fun H=>cD H (fun H=>iA [4]<|vTT<|fDD<|fR<|t1<|fDD<|t0<|hr H) fun H=>vK<|fK<|fQ<|jB [0,1,7,8] H fun H=>b1 H
 exact vE<|fE<|e1<|fX rfl<|n0 H
def u213c214(a0:List Y217)(a1:Bool):Option Bool :=
 gd ((u223c214 a0 a1).isSome/\True)<|lt (vl (u223c214 a0 a1)) fun v0 =>
 some (decide (0<=v0))
def k213c214:Ct:=lct 213 [.dat y217.sl,.fn 214 (.pt Ty.bool)] (fun x=>u213c214 x.1 x.2.1) (fun r:Bool=>B r) (fun _=>())
theorem o213c214:Ok prog k213c214:=by
 refine okM [.tmp 4] func213 ?_;intro y ⟨_,_,_⟩ r H Q hn hr;have:=hz (tc o223c214 (tc o214 tn));refine iA [0,1]<|iD o223c214 [4] H fun _ H=>vTT<|hr H
def u204(a0:List Y217)(a1:Bool):Option Bool :=
 gd ((((a0.length:Int)==2)=true/\True->(u213c214 a0 a1).isSome)/\True) <|
 some ((a0.length:Int)==2&&!vl (u213c214 a0 a1))
def k204:Ct:=lct 204 [.dat y217.sl,.dat Ty.bool] (fun x=>u204 x.1 x.2.1) (fun r:Bool=>B r) (fun _=>())
theorem o204:Ok prog k204:=by
 refine okM [.tmp 4] func204 ?_;intro y ⟨_,_,_⟩ r H Q hn hr;have:=hz (tc o213c214 (tc o214 tn));refine iA [0,3]<|iB [4] H fun H=>vTT<|hr H
def u218(a0:Y155):Option Bool :=
 some a0.2.2.2
def k218:Ct:=lct 218 [.agg y155] (fun x=>u218 x.1) (fun r:Bool=>B r) (fun _=>())
theorem o218:Ok prog k218:=by
 refine okM [.tmp 2] func218 ?_;intro y ⟨_,_⟩ r H Q hn hr;refine iA [1]<|iA [2]<|vTT<|hr H
def u217c218J0:Unit->Option Int
 | _ =>
 some (-1)
def u217c218L1(a0:List Y155)(g1:Int->Option Int):Int->Option Int
 | v0 =>
 if(decide (v0 < (a0.length:Int))) then
  gd (ix v0 a0.length/\(u218 (a0.getD v0.toNat (dflt y155))).isSome/\True) <|
  if(vl (u218 (a0.getD v0.toNat (dflt y155)))) then
   some v0
  else
   gd (in64 (v0+1)/\True) <|
   g1 (v0+1)
 else
  u217c218J0 ()
def u217c218(a0:List Y155):Option Int :=
 lp (u217c218L1 a0) 0
def k217c218:Ct:=lct 217 [.dat y155.sl,.nof 218] (fun x=>u217c218 x.1) (fun r:Int=>I r) (fun _=>())
theorem o217c218:Ok prog k217c218:=by
 refine okM [.tmp 4] func217 ?_;intro y ⟨a0,_,_⟩ r H Q hn hr;have:=hz (tc o218 tn);refine iA [0,1]<|jN r (fun(_:Unit)=>Z [] []) (u217c218J0) (fun _ H=>?_) (fun _ n0 e0 t0=>?_)
 ·refine iA [4]<|vTT<|hr H
 refine iA [0,1,7,8]<|vB<|lX (fun(v0:Int)=>Z [p 0 (L y155 a0),p 1 (AV.fn 218 []),p 7 (I (a0.length:Int)),p 8 (I v0)] []) 0 H fun _ g1 b1 e1 t1 v0 H=>iA [0,1,7,8,9]<|vQ<|cD H (fun H=>?_) (fun H=>?_)
 ·refine vK<|fQ<|vQ<|vB<|iA [0,1,5,7,8]<|iB [0,1,5,7,8,16] H fun H=>cD H (fun H=>iA [4]<|vTT<|fDD<|fR<|t1<|fDD<|t0<|hr H) fun H=>vK<|fK<|fQ<|jB [0,1,7,8] H fun H=>b1 H
 exact vE<|fE<|e1<|fX rfl<|n0 H
def u205(a0:Y134):Option Int :=
 gd ((u217c218 a0.2.2.1).isSome/\True)<|lt (vl (u217c218 a0.2.2.1)) fun v0 =>
 some v0
def k205:Ct:=lct 205 [.agg y134] (fun x=>u205 x.1) (fun r:Int=>I r) (fun _=>())
theorem o205:Ok prog k205:=by
 refine okM [.tmp 2] func205 ?_;intro y ⟨_,_⟩ r H Q hn hr;have:=hz (tc o218 (tc o217c218 tn));refine iA [1]<|iD o217c218 [2] H fun _ H=>vTT<|hr H
def u203(a0:Int):Option Bool :=
 some (a0==4||a0==5)
def k203:Ct:=lct 203 [.dat i64] (fun x=>u203 x.1) (fun r:Bool=>B r) (fun _=>())
theorem o203:Ok prog k203:=by
 refine okM [.tmp 2] func203 ?_;intro y ⟨_,_⟩ r H Q hn hr;refine iA [0]<|iA [2]<|vTT<|hr H
def u191J0(a0:Y134)(a1:Y190):Bool->Option Bool
 | v2 =>
 if v2 then
  gd (ix a1.2.1 a0.2.2.1.length/\True) <|
  some ((a0.2.2.1.getD a1.2.1.toNat (dflt y155)).2.2.2&&a1.2.2.2.1==0)
 else
  some false
def u191(a0:Y134)(a1:Y190):Option Bool :=
 gd ((u203 a1.1).isSome/\True) <|
 if(vl (u203 a1.1)) then
  gd (((a1.2.2.2.1==0&&(a1.2.2.2.2.2.length:Int)==0)=true/\True->(u204 a1.2.2.2.2.1 false).isSome)/\((a1.2.2.2.1==0&&(a1.2.2.2.2.2.length:Int)==0&&vl (u204 a1.2.2.2.2.1 false))=true/\True->(u205 a0).isSome)/\((a1.2.2.2.1==0&&(a1.2.2.2.2.2.length:Int)==0&&vl (u204 a1.2.2.2.2.1 false)&&a1.2.1==vl (u205 a0)&&decide (0<=a1.2.1))=true/\True->(u206 a0 a1.2.2.1).isSome)/\True)<|lt (vl (u205 a0)) fun v0 =>
  some (a1.2.2.2.1==0&&(a1.2.2.2.2.2.length:Int)==0&&vl (u204 a1.2.2.2.2.1 false)&&a1.2.1==v0&&decide (0<=a1.2.1)&&vl (u206 a0 a1.2.2.1)&&a1.2.2.1 != a1.2.1)
 else
  gd ((u204 a1.2.2.2.2.1 true).isSome/\((!vl (u204 a1.2.2.2.2.1 true))=false/\True->(u204 a1.2.2.2.2.2 true).isSome)/\((!vl (u204 a1.2.2.2.2.1 true)||!vl (u204 a1.2.2.2.2.2 true))=false/\True->(u194 a0).isSome)/\((!vl (u204 a1.2.2.2.2.1 true)||!vl (u204 a1.2.2.2.2.2 true)||a1.2.2.1 != vl (u194 a0))=false/\True->(u206 a0 a1.2.1).isSome)/\True)<|lt (vl (u194 a0)) fun v1 =>
  if(!vl (u204 a1.2.2.2.2.1 true)||!vl (u204 a1.2.2.2.2.2 true)||a1.2.2.1 != v1||!vl (u206 a0 a1.2.1)) then
   some false
  else
   if(a1.1==1) then
    gd (ix a1.2.1 a0.2.2.1.length/\((!(a0.2.2.1.getD a1.2.1.toNat (dflt y155)).2.2.2)=true/\True->(u112 a1.2.2.2.1 1 3).isSome)/\True) <|
    some (!(a0.2.2.1.getD a1.2.1.toNat (dflt y155)).2.2.2&&vl (u112 a1.2.2.2.1 1 3))
   else
    if(a1.1==2) then
     u191J0 a0 a1 (a1.1==2)
    else
     u191J0 a0 a1 (a1.1==3)
def k191:Ct:=lct 191 [.agg y134,.agg y190] (fun x=>u191 x.1 x.2.1) (fun r:Bool=>B r) (fun _=>())
theorem o191:Ok prog k191:=by
 refine okM [.tmp 4] func191 ?_;intro y ⟨a0,a1,_⟩ r H Q hn hr;have:=hz (tc o112 (tc o206 (tc o194 (tc o204 (tc o205 (tc o203 tn))))));refine iA [2,3]<|vQ<|iB [2,3,7] H fun H=>cD H (fun H=>iD o205 [4] H fun _ H=>vTT<|fR<|hr H) fun H=>vK<|fQ<|vQ<|iD o194 [2,3,70] H fun _ H=>cD H (fun H=>iA [4]<|vTT<|fR<|hr H) fun H=>vK<|fQ<|vQ<|iA [2,3,72]<|vB<|iA [2,3,72,73]<|cD H (fun H=>iB [4] H fun H=>vTT<|fDD<|fR<|hr H) fun H=>jN r (fun(v2:Bool)=>Z (G0 [p 88 (B v2)]) [(3,K 190 y190 a1),(2,K 134 y134 a0)]) (u191J0 a0 a1) (fun v2 H=>?_) (fun _ n0 e0 t0=>?_)
 ·refine cD H (fun H=>iB [4] H fun H=>vTT<|fDD<|fR<|hr H) fun H=>vK<|fK<|fQ<|iA [4]<|vTT<|hr H
 refine iA [2,3,72,88]<|cD H (fun H=>vK<|n0 H) fun H=>jA [2,3,88]<|n0 H
def u193(a0:Y190)(a1:Y190):Option Bool :=
 some (a0.1==a1.1&&a0.2.1==a1.2.1&&a0.2.2.1==a1.2.2.1)
def k193:Ct:=lct 193 [.agg y190,.dat (.pt y190)] (fun x=>u193 x.1 x.2.1) (fun r:Bool=>B r) (fun _=>())
theorem o193:Ok prog k193:=by
 refine okM [.tmp 3] func193 ?_;intro y ⟨_,_,_⟩ r H Q hn hr;refine iA [1,2]<|iA [3]<|vTT<|hr H
def u207c193J0:Unit->Option Int
 | _ =>
 some (-1)
def u207c193L1(a0:List Y190)(a1:Y190)(g1:Int->Option Int):Int->Option Int
 | v0 =>
 if(decide (v0 < (a0.length:Int))) then
  gd (ix v0 a0.length/\(u193 (a0.getD v0.toNat (dflt y190)) a1).isSome/\True) <|
  if(vl (u193 (a0.getD v0.toNat (dflt y190)) a1)) then
   some v0
  else
   gd (in64 (v0+1)/\True) <|
   g1 (v0+1)
 else
  u207c193J0 ()
def u207c193(a0:List Y190)(a1:Y190):Option Int :=
 lp (u207c193L1 a0 a1) 0
def k207c193:Ct:=lct 207 [.dat y190.sl,.fn 193 y190.pt] (fun x=>u207c193 x.1 x.2.1) (fun r:Int=>I r) (fun _=>())
theorem o207c193:Ok prog k207c193:=by
 refine okM [.tmp 4] func207 ?_;intro y ⟨a0,a1,_⟩ r H Q hn hr;have:=hz (tc o193 tn);refine iA [0,1]<|jN r (fun(_:Unit)=>Z [] []) (u207c193J0) (fun _ H=>?_) (fun _ n0 e0 t0=>?_)
 ·refine iA [4]<|vTT<|hr H
 refine iA [0,1,7,8]<|vB<|lX (fun(v0:Int)=>Z [p 0 (L y190 a0),p 1 (AV.fn 193 [D y190.pt a1]),p 7 (I (a0.length:Int)),p 8 (I v0)] []) 0 H fun _ g1 b1 e1 t1 v0 H=>iA [0,1,7,8,9]<|vQ<|cD H (fun H=>?_) (fun H=>?_)
 ·refine vK<|fQ<|vQ<|vB<|iA [0,1,5,7,8]<|iB [0,1,5,7,8,16] H fun H=>cD H (fun H=>iA [4]<|vTT<|fDD<|fR<|t1<|fDD<|t0<|hr H) fun H=>vK<|fK<|fQ<|jB [0,1,7,8] H fun H=>b1 H
 exact vE<|fE<|e1<|fX rfl<|n0 H
def u192c193(a0:List Y190)(a1:Y190):Option Bool :=
 gd ((u207c193 a0 a1).isSome/\True)<|lt (vl (u207c193 a0 a1)) fun v0 =>
 some (decide (0<=v0))
def k192c193:Ct:=lct 192 [.dat y190.sl,.fn 193 (.pt y190)] (fun x=>u192c193 x.1 x.2.1) (fun r:Bool=>B r) (fun _=>())
theorem o192c193:Ok prog k192c193:=by
 refine okM [.tmp 4] func192 ?_;intro y ⟨_,_,_⟩ r H Q hn hr;have:=hz (tc o207c208 (tc o207c193 (tc o193 tn)));refine iA [0,1]<|iD o207c193 [4] H fun _ H=>vTT<|hr H
end Go.Proofs.YtggbjmljfdpllaaGreatDoor
end
