/- Functions of this program as plain functions of data, and that they are so: printed by program. -/
import Derived.Test.YtfggbbnnalflhaaGreatDoorXD
import Derived.Test.YtfggbbnnalflhaaGreatDoorXF
import Derived.Test.YtfggbbnnalflhaaGreatDoorTY
import Derived.Test.YtfggbbnnalflhaaGreatDoorLB
section
namespace Go.Proofs.YtfggbbnnalflhaaGreatDoor
open Go Go.Proofs Go.Proofs.Sv Go.Proofs.Xv Go.Proofs.Xl Go.RowKit
open Tryz
instance:HG Tryz.prog Γ:=⟨tok⟩
abbrev bx(T:TypeId)(c:List AV):Ob:=.box T c
abbrev b8:Ty:=.int .u8
abbrev Q60(x1:Int)(x2:Int)(x3:Int)(x4:Int)(x5:Int)(x6:ByteArray):List AV:=[I x1,I x2,I x3,I x4,I x5,S x6,nil,nil,nil,nil]
abbrev G0(t:List (Nat×Sl)):List (Nat×Sl):=p 2 (R 2) :: p 3 (R 3) :: t
abbrev W1(y0:den y50):List (Nat×Ob):=[(4,bx 38 (Q60 0 0 0 0 0 (ByteArray.mk #[]))),(2,K 50 y50 y0)]
abbrev G2(y0:Int)(t:List (Nat×Sl)):List (Nat×Sl):=p 1 (R 1) :: p 3 (I y0) :: t
abbrev W3(y0:den y47)(y1:List (den y115)):List (Nat×Ob):=[(3,K 47 y47 y0),(2,bx 43 [L y115 y1])]
abbrev W4(y0:List (den Ty.str))(y1:List (den y111))(y2:den y38)(y3:den y50):List (Nat×Ob):=[(14,A 9 Ty.str y0 0),(13,A 111 y111 y1 0),(3,K 38 y38 y2),(2,K 50 y50 y3)]
abbrev G5(t:List (Nat×Sl)):List (Nat×Sl):=p 1 (R 1) :: p 3 (O 20) :: t
abbrev W6(y0:List (den i64))(y1:den y47):List (Nat×Ob):=[(92,A 2 i64 y0 0),(3,K 47 y47 y1)]
def u114(a0:List Int)(a1:Int):Option Int :=
 gd (in64 (a1-(a0.length:Int))/\True) <|
 if(decide (a1-(a0.length:Int)<0)) then
  some (-1)
 else
  some (a1-(a0.length:Int))
def k114:Ct:=lct 114 [.dat i64.sl,.dat i64] (fun x=>u114 x.1 x.2.1) (fun r:Int=>I r) (fun _=>())
theorem o114:Ok prog k114:=by
 refine okM [.tmp 4] func114 ?_;intro y ⟨_,_,_⟩ r H Q hn hr;refine iA [0,1]<|iB [1] H fun H=>vQ<|iA [1,10]<|cD H (fun H=>iA [4]<|vTT<|fR<|hr H) fun H=>vK<|fQ<|iA [4]<|vTT<|hr H
def u54(a0:Y94)(a1:Int):Option Int :=
 gd ((u114 a0.1 a1).isSome/\True)<|lt (vl (u114 a0.1 a1)) fun v0 =>
 if(decide (v0<0)) then
  some (-1)
 else
  gd ((u114 a0.2.1 v0).isSome/\True)<|lt (vl (u114 a0.2.1 v0)) fun v1 =>
  if(decide (v1<0)) then
   some (-1)
  else
   gd ((u114 a0.2.2.1 v1).isSome/\True)<|lt (vl (u114 a0.2.2.1 v1)) fun v2 =>
   if(decide (v2<0)) then
    some (-1)
   else
    gd ((u114 a0.2.2.2 v2).isSome/\True)<|lt (vl (u114 a0.2.2.2 v2)) fun v3 =>
    if(decide (v3<0)) then
     some (-1)
    else
     some v3
def k54:Ct:=lct 54 [.agg y94,.dat i64] (fun x=>u54 x.1 x.2.1) (fun r:Int=>I r) (fun _=>())
theorem o54:Ok prog k54:=by
 refine okM [.tmp 4] func54 ?_;intro y ⟨_,_,_⟩ r H Q hn hr;have:=hz (tc o114 tn);refine iA [1,2]<|iD o114 [1,2] H fun _ H=>vQ<|iA [1,2,10]<|cD H (fun H=>iA [4]<|vTT<|fR<|hr H) fun H=>vK<|fQ<|iD o114 [1,2] H fun _ H=>vQ<|iA [1,2,16]<|cD H (fun H=>iA [4]<|vTT<|fR<|hr H) fun H=>vK<|fQ<|iD o114 [1,2] H fun _ H=>vQ<|iA [1,2,22]<|cD H (fun H=>iA [4]<|vTT<|fR<|hr H) fun H=>vK<|fQ<|iD o114 [1] H fun _ H=>vQ<|iA [1,28]<|cD H (fun H=>iA [4]<|vTT<|fR<|hr H) fun H=>vK<|fQ<|iA [4]<|vTT<|hr H
def u21J0:Int->Option Int
 | v4 =>
 some v4
def u21L1(a0:List Y94)(g1:Int×Int->Option Int):Int×Int->Option Int
 | (v1,v2) =>
 if(decide (v2 < (a0.length:Int))) then
  gd (ix v2 a0.length/\(u54 (a0.getD v2.toNat (dflt y94)) v1).isSome/\True)<|lt (vl (u54 (a0.getD v2.toNat (dflt y94)) v1)) fun v3 =>
  if(decide (v3<0)) then
   some (-1)
  else
   gd (in64 (v2+1)/\True) <|
   g1 (v3,v2+1)
 else
  u21J0 v1
def u21(a0:List Y94)(a1:Int):Option Int :=
 gd (in64 (a1-(a0.length:Int))/\True) <|
 if(decide (a1-(a0.length:Int)<0)) then
  some (-1)
 else
  lp (u21L1 a0) ((a1-(a0.length:Int),0))
def k21:Ct:=lct 21 [.dat y94.sl,.dat i64] (fun x=>u21 x.1 x.2.1) (fun r:Int=>I r) (fun _=>())
theorem o21:Ok prog k21:=by
 refine okM [.tmp 4] func21 ?_;intro y ⟨a0,a1,_⟩ r H Q hn hr;have:=hz (tc o54 tn);refine iA [0,1]<|iB [0,1] H fun H=>vQ<|iA [0,1,11]<|cD H (fun H=>iA [4]<|vTT<|fR<|hr H) fun H=>vK<|fQ<|jN r (fun(v4:Int)=>Z [p 1 (I v4)] []) (u21J0) (fun v4 H=>?_) (fun _ n0 e0 t0=>?_)
 ·refine iA [4]<|vTT<|hr H
 refine iA [0,1,5]<|vB<|lX (fun((v1,v2):Int×Int)=>Z [p 0 (L y94 a0),p 1 (I v1),p 5 (I v2)] []) ((a1-(a0.length:Int),0)) H fun _ g1 b1 e1 t1 ⟨v1,v2⟩ H=>vQ<|iA [0,1,5,15]<|cD H (fun H=>?_) (fun H=>?_)
 ·refine vK<|fQ<|vQ<|vB<|iD o54 [0,1,5] H fun _ H=>iA [0,1,5,25]<|cD H (fun H=>iA [4]<|vTT<|fDD<|fR<|t1<|fDD<|t0<|hr H) fun H=>vK<|fK<|fQ<|jB [0,1,5] H fun H=>b1 H
 exact vE<|fE<|e1<|fX rfl<|n0 H
def u113(a0:Y164)(a1:Int):Option Int :=
 gd (in64 (a1-(a0.1.size:Int))/\True) <|
 if(decide (a1-(a0.1.size:Int)<0)) then
  some (-1)
 else
  some (a1-(a0.1.size:Int))
def k113:Ct:=lct 113 [.agg y164,.dat i64] (fun x=>u113 x.1 x.2.1) (fun r:Int=>I r) (fun _=>())
theorem o113:Ok prog k113:=by
 refine okM [.tmp 4] func113 ?_;intro y ⟨_,_,_⟩ r H Q hn hr;refine iA [1,2]<|iB [1] H fun H=>vQ<|iA [1,11]<|cD H (fun H=>iA [4]<|vTT<|fR<|hr H) fun H=>vK<|fQ<|iA [4]<|vTT<|hr H
def u53J0:Int->Option Int
 | v4 =>
 some v4
def u53L1(a0:List Y164)(g1:Int×Int->Option Int):Int×Int->Option Int
 | (v1,v2) =>
 if(decide (v2 < (a0.length:Int))) then
  gd (ix v2 a0.length/\(u113 (a0.getD v2.toNat (dflt y164)) v1).isSome/\True)<|lt (vl (u113 (a0.getD v2.toNat (dflt y164)) v1)) fun v3 =>
  if(decide (v3<0)) then
   some (-1)
  else
   gd (in64 (v2+1)/\True) <|
   g1 (v3,v2+1)
 else
  u53J0 v1
def u53(a0:List Y164)(a1:Int):Option Int :=
 gd (in64 (a1-(a0.length:Int))/\True) <|
 if(decide (a1-(a0.length:Int)<0)) then
  some (-1)
 else
  lp (u53L1 a0) ((a1-(a0.length:Int),0))
def k53:Ct:=lct 53 [.dat y164.sl,.dat i64] (fun x=>u53 x.1 x.2.1) (fun r:Int=>I r) (fun _=>())
theorem o53:Ok prog k53:=by
 refine okM [.tmp 4] func53 ?_;intro y ⟨a0,a1,_⟩ r H Q hn hr;have:=hz (tc o113 tn);refine iA [0,1]<|iB [0,1] H fun H=>vQ<|iA [0,1,11]<|cD H (fun H=>iA [4]<|vTT<|fR<|hr H) fun H=>vK<|fQ<|jN r (fun(v4:Int)=>Z [p 1 (I v4)] []) (u53J0) (fun v4 H=>?_) (fun _ n0 e0 t0=>?_)
 ·refine iA [4]<|vTT<|hr H
 refine iA [0,1,5]<|vB<|lX (fun((v1,v2):Int×Int)=>Z [p 0 (L y164 a0),p 1 (I v1),p 5 (I v2)] []) ((a1-(a0.length:Int),0)) H fun _ g1 b1 e1 t1 ⟨v1,v2⟩ H=>vQ<|iA [0,1,5,15]<|cD H (fun H=>?_) (fun H=>?_)
 ·refine vK<|fQ<|vQ<|vB<|iD o113 [0,1,5] H fun _ H=>iA [0,1,5,25]<|cD H (fun H=>iA [4]<|vTT<|fDD<|fR<|t1<|fDD<|t0<|hr H) fun H=>vK<|fK<|fQ<|jB [0,1,5] H fun H=>b1 H
 exact vE<|fE<|e1<|fX rfl<|n0 H
def u52J0:Int->Option Int
 | v4 =>
 some v4
def u52L1(a0:List ByteArray)(g1:Int×Int->Option Int):Int×Int->Option Int
 | (v1,v2) =>
 if(decide (v2 < (a0.length:Int))) then
  gd (ix v2 a0.length/\in64 (v1-(↑(ByteArray.size (a0.getD v2.toNat (dflt Ty.str))):Int))/\True)<|lt (v1-(↑(ByteArray.size (a0.getD v2.toNat (dflt Ty.str))):Int)) fun v3 =>
  if(decide (v3<0)) then
   some (-1)
  else
   gd (in64 (v2+1)/\True) <|
   g1 (v3,v2+1)
 else
  u52J0 v1
def u52(a0:List ByteArray)(a1:Int):Option Int :=
 gd (in64 (a1-(a0.length:Int))/\True) <|
 if(decide (a1-(a0.length:Int)<0)) then
  some (-1)
 else
  lp (u52L1 a0) ((a1-(a0.length:Int),0))
def k52:Ct:=lct 52 [.dat Ty.str.sl,.dat i64] (fun x=>u52 x.1 x.2.1) (fun r:Int=>I r) (fun _=>())
theorem o52:Ok prog k52:=by
 refine okM [.tmp 4] func52 ?_;intro y ⟨a0,a1,_⟩ r H Q hn hr;refine iA [0,1]<|iB [0,1] H fun H=>vQ<|iA [0,1,11]<|cD H (fun H=>iA [4]<|vTT<|fR<|hr H) fun H=>vK<|fQ<|jN r (fun(v4:Int)=>Z [p 1 (I v4)] []) (u52J0) (fun v4 H=>?_) (fun _ n0 e0 t0=>?_)
 ·refine iA [4]<|vTT<|hr H
 refine iA [0,1,5]<|vB<|lX (fun((v1,v2):Int×Int)=>Z [p 0 (L Ty.str a0),p 1 (I v1),p 5 (I v2)] []) ((a1-(a0.length:Int),0)) H fun _ g1 b1 e1 t1 ⟨v1,v2⟩ H=>vQ<|iA [0,1,5,15]<|cD H (fun H=>?_) (fun H=>?_)
 ·refine vK<|fQ<|vQ<|vB<|qD (fun v3=>Z [p 0 (L Ty.str a0),p 1 (I v3),p 5 (I v2)] []) H fun v3 H=>iA [0,1,5,26]<|cD H (fun H=>iA [4]<|vTT<|fDD<|fR<|t1<|fDD<|t0<|hr H) fun H=>vK<|fK<|fQ<|jB [0,1,5] H fun H=>b1 H
 exact vE<|fE<|e1<|fX rfl<|n0 H
def u112(a0:Y161)(a1:Int):Option Int :=
 gd (in64 (a1-(a0.1.size:Int))/\True) <|
 if(decide (a1-(a0.1.size:Int)<0)) then
  some (-1)
 else
  gd ((u114 a0.2.2 (a1-(a0.1.size:Int))).isSome/\True)<|lt (vl (u114 a0.2.2 (a1-(a0.1.size:Int)))) fun v0 =>
  if(decide (v0<0)) then
   some (-1)
  else
   some v0
def k112:Ct:=lct 112 [.agg y161,.dat i64] (fun x=>u112 x.1 x.2.1) (fun r:Int=>I r) (fun _=>())
theorem o112:Ok prog k112:=by
 refine okM [.tmp 4] func112 ?_;intro y ⟨_,_,_⟩ r H Q hn hr;have:=hz (tc o114 tn);refine iA [1,2]<|iB [1,2] H fun H=>vQ<|iA [1,2,11]<|cD H (fun H=>iA [4]<|vTT<|fR<|hr H) fun H=>vK<|fQ<|iD o114 [1] H fun _ H=>vQ<|iA [1,17]<|cD H (fun H=>iA [4]<|vTT<|fR<|hr H) fun H=>vK<|fQ<|iA [4]<|vTT<|hr H
def u51J0:Int->Option Int
 | v4 =>
 some v4
def u51L1(a0:List Y161)(g1:Int×Int->Option Int):Int×Int->Option Int
 | (v1,v2) =>
 if(decide (v2 < (a0.length:Int))) then
  gd (ix v2 a0.length/\(u112 (a0.getD v2.toNat (dflt y161)) v1).isSome/\True)<|lt (vl (u112 (a0.getD v2.toNat (dflt y161)) v1)) fun v3 =>
  if(decide (v3<0)) then
   some (-1)
  else
   gd (in64 (v2+1)/\True) <|
   g1 (v3,v2+1)
 else
  u51J0 v1
def u51(a0:List Y161)(a1:Int):Option Int :=
 gd (in64 (a1-(a0.length:Int))/\True) <|
 if(decide (a1-(a0.length:Int)<0)) then
  some (-1)
 else
  lp (u51L1 a0) ((a1-(a0.length:Int),0))
def k51:Ct:=lct 51 [.dat y161.sl,.dat i64] (fun x=>u51 x.1 x.2.1) (fun r:Int=>I r) (fun _=>())
theorem o51:Ok prog k51:=by
 refine okM [.tmp 4] func51 ?_;intro y ⟨a0,a1,_⟩ r H Q hn hr;have:=hz (tc o112 tn);refine iA [0,1]<|iB [0,1] H fun H=>vQ<|iA [0,1,11]<|cD H (fun H=>iA [4]<|vTT<|fR<|hr H) fun H=>vK<|fQ<|jN r (fun(v4:Int)=>Z [p 1 (I v4)] []) (u51J0) (fun v4 H=>?_) (fun _ n0 e0 t0=>?_)
 ·refine iA [4]<|vTT<|hr H
 refine iA [0,1,5]<|vB<|lX (fun((v1,v2):Int×Int)=>Z [p 0 (L y161 a0),p 1 (I v1),p 5 (I v2)] []) ((a1-(a0.length:Int),0)) H fun _ g1 b1 e1 t1 ⟨v1,v2⟩ H=>vQ<|iA [0,1,5,15]<|cD H (fun H=>?_) (fun H=>?_)
 ·refine vK<|fQ<|vQ<|vB<|iD o112 [0,1,5] H fun _ H=>iA [0,1,5,25]<|cD H (fun H=>iA [4]<|vTT<|fDD<|fR<|t1<|fDD<|t0<|hr H) fun H=>vK<|fK<|fQ<|jB [0,1,5] H fun H=>b1 H
 exact vE<|fE<|e1<|fX rfl<|n0 H
def u20(a0:Y29)(a1:Int):Option Int :=
 gd ((u51 a0.1 a1).isSome/\True)<|lt (vl (u51 a0.1 a1)) fun v0 =>
 if(decide (v0<0)) then
  some (-1)
 else
  gd ((u52 a0.2.1 v0).isSome/\True)<|lt (vl (u52 a0.2.1 v0)) fun v1 =>
  if(decide (v1<0)) then
   some (-1)
  else
   gd ((u53 a0.2.2 v1).isSome/\True)<|lt (vl (u53 a0.2.2 v1)) fun v2 =>
   if(decide (v2<0)) then
    some (-1)
   else
    some v2
def k20:Ct:=lct 20 [.agg y29,.dat i64] (fun x=>u20 x.1 x.2.1) (fun r:Int=>I r) (fun _=>())
theorem o20:Ok prog k20:=by
 refine okM [.tmp 4] func20 ?_;intro y ⟨_,_,_⟩ r H Q hn hr;have:=hz (tc o53 (tc o52 (tc o51 tn)));refine iA [1,2]<|iD o51 [1,2] H fun _ H=>vQ<|iA [1,2,10]<|cD H (fun H=>iA [4]<|vTT<|fR<|hr H) fun H=>vK<|fQ<|iD o52 [1,2] H fun _ H=>vQ<|iA [1,2,16]<|cD H (fun H=>iA [4]<|vTT<|fR<|hr H) fun H=>vK<|fQ<|iD o53 [1] H fun _ H=>vQ<|iA [1,22]<|cD H (fun H=>iA [4]<|vTT<|fR<|hr H) fun H=>vK<|fQ<|iA [4]<|vTT<|hr H
def u285(a0:Y331)(a1:Int):Option Int :=
 gd ((u114 a0.1 a1).isSome/\True)<|lt (vl (u114 a0.1 a1)) fun v0 =>
 if(decide (v0<0)) then
  some (-1)
 else
  gd ((u114 a0.2.1 v0).isSome/\True)<|lt (vl (u114 a0.2.1 v0)) fun v1 =>
  if(decide (v1<0)) then
   some (-1)
  else
   gd ((u114 a0.2.2 v1).isSome/\True)<|lt (vl (u114 a0.2.2 v1)) fun v2 =>
   if(decide (v2<0)) then
    some (-1)
   else
    some v2
def k285:Ct:=lct 285 [.agg y331,.dat i64] (fun x=>u285 x.1 x.2.1) (fun r:Int=>I r) (fun _=>())
theorem o285:Ok prog k285:=by
 refine okM [.tmp 4] func285 ?_;intro y ⟨_,_,_⟩ r H Q hn hr;have:=hz (tc o114 tn);refine iA [1,2]<|iD o114 [1,2] H fun _ H=>vQ<|iA [1,2,10]<|cD H (fun H=>iA [4]<|vTT<|fR<|hr H) fun H=>vK<|fQ<|iD o114 [1,2] H fun _ H=>vQ<|iA [1,2,16]<|cD H (fun H=>iA [4]<|vTT<|fR<|hr H) fun H=>vK<|fQ<|iD o114 [1] H fun _ H=>vQ<|iA [1,22]<|cD H (fun H=>iA [4]<|vTT<|fR<|hr H) fun H=>vK<|fQ<|iA [4]<|vTT<|hr H
def u255J0:Int->Option Int
 | v4 =>
 some v4
def u255L1(a0:List Y331)(g1:Int×Int->Option Int):Int×Int->Option Int
 | (v1,v2) =>
 if(decide (v2 < (a0.length:Int))) then
  gd (ix v2 a0.length/\(u285 (a0.getD v2.toNat (dflt y331)) v1).isSome/\True)<|lt (vl (u285 (a0.getD v2.toNat (dflt y331)) v1)) fun v3 =>
  if(decide (v3<0)) then
   some (-1)
  else
   gd (in64 (v2+1)/\True) <|
   g1 (v3,v2+1)
 else
  u255J0 v1
def u255(a0:List Y331)(a1:Int):Option Int :=
 gd (in64 (a1-(a0.length:Int))/\True) <|
 if(decide (a1-(a0.length:Int)<0)) then
  some (-1)
 else
  lp (u255L1 a0) ((a1-(a0.length:Int),0))
def k255:Ct:=lct 255 [.dat y331.sl,.dat i64] (fun x=>u255 x.1 x.2.1) (fun r:Int=>I r) (fun _=>())
theorem o255:Ok prog k255:=by
 refine okM [.tmp 4] func255 ?_;intro y ⟨a0,a1,_⟩ r H Q hn hr;have:=hz (tc o285 tn);refine iA [0,1]<|iB [0,1] H fun H=>vQ<|iA [0,1,11]<|cD H (fun H=>iA [4]<|vTT<|fR<|hr H) fun H=>vK<|fQ<|jN r (fun(v4:Int)=>Z [p 1 (I v4)] []) (u255J0) (fun v4 H=>?_) (fun _ n0 e0 t0=>?_)
 ·refine iA [4]<|vTT<|hr H
 refine iA [0,1,5]<|vB<|lX (fun((v1,v2):Int×Int)=>Z [p 0 (L y331 a0),p 1 (I v1),p 5 (I v2)] []) ((a1-(a0.length:Int),0)) H fun _ g1 b1 e1 t1 ⟨v1,v2⟩ H=>vQ<|iA [0,1,5,15]<|cD H (fun H=>?_) (fun H=>?_)
 ·refine vK<|fQ<|vQ<|vB<|iD o285 [0,1,5] H fun _ H=>iA [0,1,5,25]<|cD H (fun H=>iA [4]<|vTT<|fDD<|fR<|t1<|fDD<|t0<|hr H) fun H=>vK<|fK<|fQ<|jB [0,1,5] H fun H=>b1 H
 exact vE<|fE<|e1<|fX rfl<|n0 H
def u210(a0:Y257)(a1:Int):Option Int :=
 gd ((u255 a0.2.2.2.2.1 a1).isSome/\True)<|lt (vl (u255 a0.2.2.2.2.1 a1)) fun v0 =>
 if(decide (v0<0)) then
  some (-1)
 else
  gd ((u255 a0.2.2.2.2.2 v0).isSome/\True)<|lt (vl (u255 a0.2.2.2.2.2 v0)) fun v1 =>
  if(decide (v1<0)) then
   some (-1)
  else
   some v1
def k210:Ct:=lct 210 [.agg y257,.dat i64] (fun x=>u210 x.1 x.2.1) (fun r:Int=>I r) (fun _=>())
theorem o210:Ok prog k210:=by
 refine okM [.tmp 4] func210 ?_;intro y ⟨_,_,_⟩ r H Q hn hr;have:=hz (tc o255 tn);refine iA [1,2]<|iD o255 [1,2] H fun _ H=>vQ<|iA [1,2,10]<|cD H (fun H=>iA [4]<|vTT<|fR<|hr H) fun H=>vK<|fQ<|iD o255 [1] H fun _ H=>vQ<|iA [1,16]<|cD H (fun H=>iA [4]<|vTT<|fR<|hr H) fun H=>vK<|fQ<|iA [4]<|vTT<|hr H
def u171J0:Int->Option Int
 | v4 =>
 some v4
def u171L1(a0:List Y257)(g1:Int×Int->Option Int):Int×Int->Option Int
 | (v1,v2) =>
 if(decide (v2 < (a0.length:Int))) then
  gd (ix v2 a0.length/\(u210 (a0.getD v2.toNat (dflt y257)) v1).isSome/\True)<|lt (vl (u210 (a0.getD v2.toNat (dflt y257)) v1)) fun v3 =>
  if(decide (v3<0)) then
   some (-1)
  else
   gd (in64 (v2+1)/\True) <|
   g1 (v3,v2+1)
 else
  u171J0 v1
def u171(a0:List Y257)(a1:Int):Option Int :=
 gd (in64 (a1-(a0.length:Int))/\True) <|
 if(decide (a1-(a0.length:Int)<0)) then
  some (-1)
 else
  lp (u171L1 a0) ((a1-(a0.length:Int),0))
def k171:Ct:=lct 171 [.dat y257.sl,.dat i64] (fun x=>u171 x.1 x.2.1) (fun r:Int=>I r) (fun _=>())
theorem o171:Ok prog k171:=by
 refine okM [.tmp 4] func171 ?_;intro y ⟨a0,a1,_⟩ r H Q hn hr;have:=hz (tc o210 tn);refine iA [0,1]<|iB [0,1] H fun H=>vQ<|iA [0,1,11]<|cD H (fun H=>iA [4]<|vTT<|fR<|hr H) fun H=>vK<|fQ<|jN r (fun(v4:Int)=>Z [p 1 (I v4)] []) (u171J0) (fun v4 H=>?_) (fun _ n0 e0 t0=>?_)
 ·refine iA [4]<|vTT<|hr H
 refine iA [0,1,5]<|vB<|lX (fun((v1,v2):Int×Int)=>Z [p 0 (L y257 a0),p 1 (I v1),p 5 (I v2)] []) ((a1-(a0.length:Int),0)) H fun _ g1 b1 e1 t1 ⟨v1,v2⟩ H=>vQ<|iA [0,1,5,15]<|cD H (fun H=>?_) (fun H=>?_)
 ·refine vK<|fQ<|vQ<|vB<|iD o210 [0,1,5] H fun _ H=>iA [0,1,5,25]<|cD H (fun H=>iA [4]<|vTT<|fDD<|fR<|t1<|fDD<|t0<|hr H) fun H=>vK<|fK<|fQ<|jB [0,1,5] H fun H=>b1 H
 exact vE<|fE<|e1<|fX rfl<|n0 H
def u209(a0:Y253)(a1:Int):Option Int :=
 gd (in64 (a1-(a0.1.size:Int))/\True) <|
 if(decide (a1-(a0.1.size:Int)<0)) then
  some (-1)
 else
  some (a1-(a0.1.size:Int))
def k209:Ct:=lct 209 [.agg y253,.dat i64] (fun x=>u209 x.1 x.2.1) (fun r:Int=>I r) (fun _=>())
theorem o209:Ok prog k209:=by
 refine okM [.tmp 4] func209 ?_;intro y ⟨_,_,_⟩ r H Q hn hr;refine iA [1,2]<|iB [1] H fun H=>vQ<|iA [1,11]<|cD H (fun H=>iA [4]<|vTT<|fR<|hr H) fun H=>vK<|fQ<|iA [4]<|vTT<|hr H
def u170J0:Int->Option Int
 | v4 =>
 some v4
def u170L1(a0:List Y253)(g1:Int×Int->Option Int):Int×Int->Option Int
 | (v1,v2) =>
 if(decide (v2 < (a0.length:Int))) then
  gd (ix v2 a0.length/\(u209 (a0.getD v2.toNat (dflt y253)) v1).isSome/\True)<|lt (vl (u209 (a0.getD v2.toNat (dflt y253)) v1)) fun v3 =>
  if(decide (v3<0)) then
   some (-1)
  else
   gd (in64 (v2+1)/\True) <|
   g1 (v3,v2+1)
 else
  u170J0 v1
def u170(a0:List Y253)(a1:Int):Option Int :=
 gd (in64 (a1-(a0.length:Int))/\True) <|
 if(decide (a1-(a0.length:Int)<0)) then
  some (-1)
 else
  lp (u170L1 a0) ((a1-(a0.length:Int),0))
def k170:Ct:=lct 170 [.dat y253.sl,.dat i64] (fun x=>u170 x.1 x.2.1) (fun r:Int=>I r) (fun _=>())
theorem o170:Ok prog k170:=by
 refine okM [.tmp 4] func170 ?_;intro y ⟨a0,a1,_⟩ r H Q hn hr;have:=hz (tc o209 tn);refine iA [0,1]<|iB [0,1] H fun H=>vQ<|iA [0,1,11]<|cD H (fun H=>iA [4]<|vTT<|fR<|hr H) fun H=>vK<|fQ<|jN r (fun(v4:Int)=>Z [p 1 (I v4)] []) (u170J0) (fun v4 H=>?_) (fun _ n0 e0 t0=>?_)
 ·refine iA [4]<|vTT<|hr H
 refine iA [0,1,5]<|vB<|lX (fun((v1,v2):Int×Int)=>Z [p 0 (L y253 a0),p 1 (I v1),p 5 (I v2)] []) ((a1-(a0.length:Int),0)) H fun _ g1 b1 e1 t1 ⟨v1,v2⟩ H=>vQ<|iA [0,1,5,15]<|cD H (fun H=>?_) (fun H=>?_)
 ·refine vK<|fQ<|vQ<|vB<|iD o209 [0,1,5] H fun _ H=>iA [0,1,5,25]<|cD H (fun H=>iA [4]<|vTT<|fDD<|fR<|t1<|fDD<|t0<|hr H) fun H=>vK<|fK<|fQ<|jB [0,1,5] H fun H=>b1 H
 exact vE<|fE<|e1<|fX rfl<|n0 H
def u111(a0:Y159)(a1:Int):Option Int :=
 gd (in64 (a1-(a0.1.size:Int))/\True) <|
 if(decide (a1-(a0.1.size:Int)<0)) then
  some (-1)
 else
  gd ((u170 a0.2.2.1 (a1-(a0.1.size:Int))).isSome/\True)<|lt (vl (u170 a0.2.2.1 (a1-(a0.1.size:Int)))) fun v0 =>
  if(decide (v0<0)) then
   some (-1)
  else
   gd ((u171 a0.2.2.2.1 v0).isSome/\True)<|lt (vl (u171 a0.2.2.2.1 v0)) fun v1 =>
   if(decide (v1<0)) then
    some (-1)
   else
    gd ((u114 a0.2.2.2.2.1 v1).isSome/\True)<|lt (vl (u114 a0.2.2.2.2.1 v1)) fun v2 =>
    if(decide (v2<0)) then
     some (-1)
    else
     some v2
def k111:Ct:=lct 111 [.agg y159,.dat i64] (fun x=>u111 x.1 x.2.1) (fun r:Int=>I r) (fun _=>())
theorem o111:Ok prog k111:=by
 refine okM [.tmp 4] func111 ?_;intro y ⟨_,_,_⟩ r H Q hn hr;have:=hz (tc o114 (tc o171 (tc o170 tn)));refine iA [1,2]<|iB [1,2] H fun H=>vQ<|iA [1,2,11]<|cD H (fun H=>iA [4]<|vTT<|fR<|hr H) fun H=>vK<|fQ<|iD o170 [1,2] H fun _ H=>vQ<|iA [1,2,17]<|cD H (fun H=>iA [4]<|vTT<|fR<|hr H) fun H=>vK<|fQ<|iD o171 [1,2] H fun _ H=>vQ<|iA [1,2,23]<|cD H (fun H=>iA [4]<|vTT<|fR<|hr H) fun H=>vK<|fQ<|iD o114 [1] H fun _ H=>vQ<|iA [1,29]<|cD H (fun H=>iA [4]<|vTT<|fR<|hr H) fun H=>vK<|fQ<|iA [4]<|vTT<|hr H
def u50J0:Int->Option Int
 | v4 =>
 some v4
def u50L1(a0:List Y159)(g1:Int×Int->Option Int):Int×Int->Option Int
 | (v1,v2) =>
 if(decide (v2 < (a0.length:Int))) then
  gd (ix v2 a0.length/\(u111 (a0.getD v2.toNat (dflt y159)) v1).isSome/\True)<|lt (vl (u111 (a0.getD v2.toNat (dflt y159)) v1)) fun v3 =>
  if(decide (v3<0)) then
   some (-1)
  else
   gd (in64 (v2+1)/\True) <|
   g1 (v3,v2+1)
 else
  u50J0 v1
def u50(a0:List Y159)(a1:Int):Option Int :=
 gd (in64 (a1-(a0.length:Int))/\True) <|
 if(decide (a1-(a0.length:Int)<0)) then
  some (-1)
 else
  lp (u50L1 a0) ((a1-(a0.length:Int),0))
def k50:Ct:=lct 50 [.dat y159.sl,.dat i64] (fun x=>u50 x.1 x.2.1) (fun r:Int=>I r) (fun _=>())
theorem o50:Ok prog k50:=by
 refine okM [.tmp 4] func50 ?_;intro y ⟨a0,a1,_⟩ r H Q hn hr;have:=hz (tc o111 tn);refine iA [0,1]<|iB [0,1] H fun H=>vQ<|iA [0,1,11]<|cD H (fun H=>iA [4]<|vTT<|fR<|hr H) fun H=>vK<|fQ<|jN r (fun(v4:Int)=>Z [p 1 (I v4)] []) (u50J0) (fun v4 H=>?_) (fun _ n0 e0 t0=>?_)
 ·refine iA [4]<|vTT<|hr H
 refine iA [0,1,5]<|vB<|lX (fun((v1,v2):Int×Int)=>Z [p 0 (L y159 a0),p 1 (I v1),p 5 (I v2)] []) ((a1-(a0.length:Int),0)) H fun _ g1 b1 e1 t1 ⟨v1,v2⟩ H=>vQ<|iA [0,1,5,15]<|cD H (fun H=>?_) (fun H=>?_)
 ·refine vK<|fQ<|vQ<|vB<|iD o111 [0,1,5] H fun _ H=>iA [0,1,5,25]<|cD H (fun H=>iA [4]<|vTT<|fDD<|fR<|t1<|fDD<|t0<|hr H) fun H=>vK<|fK<|fQ<|jB [0,1,5] H fun H=>b1 H
 exact vE<|fE<|e1<|fX rfl<|n0 H
def u19(a0:List Y159)(a1:Int):Option Int :=
 gd ((u50 a0 a1).isSome/\True)<|lt (vl (u50 a0 a1)) fun v0 =>
 if(decide (v0<0)) then
  some (-1)
 else
  some v0
def k19:Ct:=lct 19 [.agg y159.sl,.dat i64] (fun x=>u19 x.1 x.2.1) (fun r:Int=>I r) (fun _=>())
theorem o19:Ok prog k19:=by
 refine okM [.tmp 4] func19 ?_;intro y ⟨_,_,_⟩ r H Q hn hr;have:=hz (tc o50 tn);refine iA [1,2]<|iD o50 [1] H fun _ H=>vQ<|iA [1,10]<|cD H (fun H=>iA [4]<|vTT<|fR<|hr H) fun H=>vK<|fQ<|iA [4]<|vTT<|hr H
def u5(a0:Y32)(a1:Int):Option Int :=
 gd ((u19 a0.1 a1).isSome/\True)<|lt (vl (u19 a0.1 a1)) fun v0 =>
 if(decide (v0<0)) then
  some (-1)
 else
  gd ((u20 a0.2.1 v0).isSome/\True)<|lt (vl (u20 a0.2.1 v0)) fun v1 =>
  if(decide (v1<0)) then
   some (-1)
  else
   gd ((u21 a0.2.2 v1).isSome/\True)<|lt (vl (u21 a0.2.2 v1)) fun v2 =>
   if(decide (v2<0)) then
    some (-1)
   else
    some v2
def k5:Ct:=lct 5 [.agg y32,.dat i64] (fun x=>u5 x.1 x.2.1) (fun r:Int=>I r) (fun _=>())
theorem o5:Ok prog k5:=by
 refine okM [.tmp 4] func5 ?_;intro y ⟨_,_,_⟩ r H Q hn hr;have:=hz (tc o21 (tc o20 (tc o19 tn)));refine iA [1,2]<|iD o19 [1,2] H fun _ H=>vQ<|iA [1,2,10]<|cD H (fun H=>iA [4]<|vTT<|fR<|hr H) fun H=>vK<|fQ<|iD o20 [1,2] H fun _ H=>vQ<|iA [1,2,16]<|cD H (fun H=>iA [4]<|vTT<|fR<|hr H) fun H=>vK<|fQ<|iD o21 [1] H fun _ H=>vQ<|iA [1,22]<|cD H (fun H=>iA [4]<|vTT<|fR<|hr H) fun H=>vK<|fQ<|iA [4]<|vTT<|hr H
def u119J0:ByteArray->Option ByteArray
 | v6 =>
 some v6
def u119J2(v3:Int)(a0:List Int)(g1:ByteArray×Int->Option ByteArray):ByteArray->Option ByteArray
 | v4 =>
 gd (ix v3 a0.length/\(u67 (a0.getD v3.toNat 0)).isSome/\v4.size+(vl (u67 (a0.getD v3.toNat 0))).size<=9223372036854775807/\True)<|lt (vl (u67 (a0.getD v3.toNat 0))) fun v5 =>
 gd (in64 (v3+1)/\True) <|
 g1 (v4++v5,v3+1)
def u119L1(a0:List Int)(g1:ByteArray×Int->Option ByteArray):ByteArray×Int->Option ByteArray
 | (v2,v3) =>
 if(decide (v3 < (a0.length:Int))) then
  if(decide (0<v3)) then
   gd (v2.size+(ByteArray.mk #[44]).size<=9223372036854775807/\True) <|
   u119J2 v3 a0 g1 (v2++ByteArray.mk #[44])
  else
   u119J2 v3 a0 g1 v2
 else
  u119J0 v2
def u119(a0:List Int):Option ByteArray :=
 lp (u119L1 a0) (ByteArray.mk #[],0)
def k119:Ct:=lct 119 [.dat i64.sl] (fun x=>u119 x.1) (fun r:ByteArray=>S r) (fun _=>())
theorem o119:Ok prog k119:=by
 refine okM [.tmp 2] func119 ?_;intro y ⟨a0,_⟩ r H Q hn hr;have:=hz (tc o67 tn);refine iA [0]<|iA [0,3]<|jN r (fun(v6:ByteArray)=>Z [p 3 (S v6)] []) (u119J0) (fun v6 H=>?_) (fun _ n0 e0 t0=>?_)
 ·refine iA [2]<|vTT<|hr H
 refine iA [0,3,4]<|vB<|lX (fun((v2,v3):ByteArray×Int)=>Z [p 0 (L i64 a0),p 3 (S v2),p 4 (I v3)] []) (ByteArray.mk #[],0) H fun _ g1 b1 e1 t1 ⟨v2,v3⟩ H=>vQ<|iA [0,3,4,8]<|cD H (fun H=>?_) (fun H=>?_)
 ·refine vK<|fQ<|vQ<|vB<|jN r (fun(v4:ByteArray)=>Z [p 0 (L i64 a0),p 3 (S v4),p 4 (I v3)] []) (u119J2 v3 a0 g1) (fun v4 H=>?_) (fun _ n2 e2 t2=>?_)
  ·refine jD o67 [0,3,4] H fun _ H=>fK<|fQ<|jB [0,3,4] H fun H=>b1 H
  refine iA [0,3,4,12]<|cD H (fun H=>jB [0,3,4] H fun H=>n2 H) fun H=>vK<|n2 H
 exact vE<|fE<|e1<|fX rfl<|n0 H
def u105(a0:Int)(a1:Int)(a2:Int):Option Bool :=
 some (decide (a1<=a0)&&decide (a0<=a2))
def k105:Ct:=lct 105 [.dat i64,.dat i64,.dat i64] (fun x=>u105 x.1 x.2.1 x.2.2.1) (fun r:Bool=>B r) (fun _=>())
theorem o105:Ok prog k105:=by
 refine okM [.tmp 6] func105 ?_;intro y ⟨_,_,_,_⟩ r H Q hn hr;refine iA [0,1,2]<|iA [6]<|vTT<|hr H
def u56J2:Unit->Option Bool
 | _ =>
 some true
def u56L3(a0:Y36)(g3:Int->Option Bool):Int->Option Bool
 | v1 =>
 if(decide (v1 < (a0.2.2.2.length:Int))) then
  gd (ix v1 a0.2.2.2.length/\in64 ((a0.1.length:Int)-1)/\(u105 (a0.2.2.2.getD v1.toNat 0) 0 ((a0.1.length:Int)-1)).isSome/\True) <|
  if(!vl (u105 (a0.2.2.2.getD v1.toNat 0) 0 ((a0.1.length:Int)-1))) then
   some false
  else
   gd (in64 (v1+1)/\True) <|
   g3 (v1+1)
 else
  u56J2 ()
def u56J0(a0:Y36):Unit->Option Bool
 | _ =>
 lp (u56L3 a0) 0
def u56L1(a0:Y36)(g1:Int->Option Bool):Int->Option Bool
 | v0 =>
 if(decide (v0 < (a0.1.length:Int))) then
  gd (ix v0 a0.2.2.1.length/\(u105 (a0.2.2.1.getD v0.toNat 0) 0 500).isSome/\((!vl (u105 (a0.2.2.1.getD v0.toNat 0) 0 500))=false/\True->ix v0 a0.2.1.length)/\((!vl (u105 (a0.2.2.1.getD v0.toNat 0) 0 500))=false/\True->(u105 (a0.2.1.getD v0.toNat 0) 0 1000).isSome)/\True) <|
  if(!vl (u105 (a0.2.2.1.getD v0.toNat 0) 0 500)||!vl (u105 (a0.2.1.getD v0.toNat 0) 0 1000)) then
   some false
  else
   gd (((v0==0)=true/\True->ix v0 a0.1.length)/\((a0.1.getD v0.toNat 0 != -1)=false/\(v0==0)=true/\True->ix v0 a0.2.1.length)/\(decide (0<v0)=true/\(v0==0&&(a0.1.getD v0.toNat 0 != -1||a0.2.1.getD v0.toNat 0 != 0))=false/\True->ix v0 a0.1.length)/\(decide (0<v0)=true/\(v0==0&&(a0.1.getD v0.toNat 0 != -1||a0.2.1.getD v0.toNat 0 != 0))=false/\True->in64 (v0-1))/\(decide (0<v0)=true/\(v0==0&&(a0.1.getD v0.toNat 0 != -1||a0.2.1.getD v0.toNat 0 != 0))=false/\True->(u105 (a0.1.getD v0.toNat 0) 0 (v0-1)).isSome)/\True) <|
   if(v0==0&&(a0.1.getD v0.toNat 0 != -1||a0.2.1.getD v0.toNat 0 != 0)||decide (0<v0)&&!vl (u105 (a0.1.getD v0.toNat 0) 0 (v0-1))) then
    some false
   else
    gd (in64 (v0+1)/\True) <|
    g1 (v0+1)
 else
  u56J0 a0 ()
def u56(a0:Y36)(a1:Int):Option Bool :=
 if(decide ((a0.1.length:Int)<1)||decide (8 < (a0.1.length:Int))||(a0.2.1.length:Int) != (a0.1.length:Int)||(a0.2.2.1.length:Int) != (a0.1.length:Int)||(a0.2.2.2.length:Int) != a1) then
  some false
 else
  lp (u56L1 a0) 0
def k56:Ct:=lct 56 [.agg y36,.dat i64] (fun x=>u56 x.1 x.2.1) (fun r:Bool=>B r) (fun _=>())
theorem o56:Ok prog k56:=by
 refine okM [.tmp 4] func56 ?_;intro y ⟨a0,_,_⟩ r H Q hn hr;have:=hz (tc o105 tn);refine iA [1,2]<|iA [1,2,5]<|vQ<|iA [2,5,37]<|cD H (fun H=>iA [4]<|vTT<|fR<|hr H) fun H=>vK<|fQ<|jN r (fun(_:Unit)=>Z [p 2 (R 2),p 5 (I (a0.1.length:Int))] [(2,K 36 y36 a0)]) (u56J0 a0) (fun _ H=>?_) (fun _ n0 e0 t0=>?_)
 ·refine jN r (fun(_:Unit)=>Z [] []) (u56J2) (fun _ H=>?_) (fun _ n2 e2 t2=>?_)
  ·refine iA [4]<|vTT<|hr H
  refine iA [2,5,7]<|vB<|lX (fun(v1:Int)=>Z [p 2 (R 2),p 5 (I (a0.1.length:Int)),p 7 (I v1)] [(2,K 36 y36 a0)]) 0 H fun _ g3 b3 e3 t3 v1 H=>vQ<|iA [2,5,7,96]<|cD H (fun H=>?_) (fun H=>?_)
  ·refine vK<|fQ<|vQ<|vB<|iB [2,5,7,107] H fun H=>cD H (fun H=>iA [4]<|vTT<|fDD<|fR<|t3<|fDD<|t2<|hr H) fun H=>vK<|fK<|fQ<|jB [2,5,7] H fun H=>b3 H
  exact vE<|fE<|e3<|fX rfl<|n2 H
 refine iA [2,5,6]<|vB<|lX (fun(v0:Int)=>Z [p 2 (R 2),p 5 (I (a0.1.length:Int)),p 6 (I v0)] [(2,K 36 y36 a0)]) 0 H fun _ g1 b1 e1 t1 v0 H=>vQ<|iA [2,5,6,40]<|cD H (fun H=>?_) (fun H=>?_)
 ·refine vK<|fQ<|vQ<|vB<|vQ<|iB [2,5,6,58] H fun H=>cD H (fun H=>iA [4]<|vTT<|fR<|fDD<|fR<|t1<|fDD<|t0<|hr H) fun H=>vK<|fQ<|iB [2,5,6,91] H fun H=>cD H (fun H=>iA [4]<|vTT<|fDD<|fR<|t1<|fDD<|t0<|hr H) fun H=>vK<|fK<|fQ<|jB [2,5,6] H fun H=>b1 H
 exact vE<|fE<|e1<|fX rfl<|n0 H
def u68(a0:Y36)(a1:Int):Option ByteArray :=
 gd ((u56 a0 a1).isSome/\True) <|
 if(!vl (u56 a0 a1)) then
  some (ByteArray.mk #[])
 else
  gd ((u119 a0.1).isSome/\(vl (u119 a0.1)).size+(ByteArray.mk #[124]).size<=9223372036854775807/\(u119 a0.2.1).isSome/\(vl (u119 a0.1)++ByteArray.mk #[124]).size+(vl (u119 a0.2.1)).size<=9223372036854775807/\(vl (u119 a0.1)++ByteArray.mk #[124]++vl (u119 a0.2.1)).size+(ByteArray.mk #[124]).size<=9223372036854775807/\(u119 a0.2.2.1).isSome/\(vl (u119 a0.1)++ByteArray.mk #[124]++vl (u119 a0.2.1)++ByteArray.mk #[124]).size+(vl (u119 a0.2.2.1)).size<=9223372036854775807/\(vl (u119 a0.1)++ByteArray.mk #[124]++vl (u119 a0.2.1)++ByteArray.mk #[124]++vl (u119 a0.2.2.1)).size+(ByteArray.mk #[124]).size<=9223372036854775807/\(u119 a0.2.2.2).isSome/\(vl (u119 a0.1)++ByteArray.mk #[124]++vl (u119 a0.2.1)++ByteArray.mk #[124]++vl (u119 a0.2.2.1)++ByteArray.mk #[124]).size+(vl (u119 a0.2.2.2)).size<=9223372036854775807/\True)<|lt ((vl (u119 a0.1),vl (u119 a0.2.1),vl (u119 a0.2.2.1),vl (u119 a0.2.2.2),vl (u119 a0.1)++ByteArray.mk #[124]++vl (u119 a0.2.1)++ByteArray.mk #[124]++vl (u119 a0.2.2.1)++ByteArray.mk #[124]++vl (u119 a0.2.2.2))) fun(_,_,_,_,v4) =>
  some v4
def k68:Ct:=lct 68 [.agg y36,.dat i64] (fun x=>u68 x.1 x.2.1) (fun r:ByteArray=>S r) (fun _=>())
theorem o68:Ok prog k68:=by
 refine okM [.tmp 4] func68 ?_;intro y ⟨a0,_,_⟩ r H Q hn hr;have:=hz (tc o119 (tc o56 tn));refine iA [1,2]<|vQ<|iB [2,8] H fun H=>cD H (fun H=>iA [4]<|vTT<|fR<|hr H) fun H=>vK<|fQ<|qD (fun(v0,v1,v2,v3,v4)=>Z [p 4 (S v4)] [(2,K 36 y36 a0)]) H fun⟨v0,v1,v2,v3,v4⟩ H =>
  vTT<|hr H
def u66(a0:List Y115)(a1:Y47)(a2:Y111):Option ByteArray :=
 if(decide (a2.1<0)) then
  gd (ix a2.2.1 a1.2.2.length/\True)<|lt (a1.2.2.getD a2.2.1.toNat (dflt y166)) fun v0 =>
  some v0.1
 else
  gd (ix a2.1 a1.1.length/\True)<|lt (a1.1.getD a2.1.toNat (dflt y152)) fun v1 =>
  gd (v1.1.size+(ByteArray.mk #[47]).size<=9223372036854775807/\ix v1.2.1 a0.length/\ix a2.2.1 (a0.getD v1.2.1.toNat (dflt y115)).2.2.1.length/\(v1.1++ByteArray.mk #[47]).size+((a0.getD v1.2.1.toNat (dflt y115)).2.2.1.getD a2.2.1.toNat (dflt y170)).1.size<=9223372036854775807/\True)<|lt (v1.1++ByteArray.mk #[47]++((a0.getD v1.2.1.toNat (dflt y115)).2.2.1.getD a2.2.1.toNat (dflt y170)).1) fun v2 =>
  some v2
def k66:Ct:=lct 66 [.agg y115.sl,.agg y47,.agg y111] (fun x=>u66 x.1 x.2.1 x.2.2.1) (fun r:ByteArray=>S r) (fun _=>())
theorem o66:Ok prog k66:=by
 refine okM [.tmp 6] func66 ?_;intro y ⟨a0,a1,a2,_⟩ r H Q hn hr;refine iA [3,4,5]<|vQ<|iA [3,4,5,10]<|cD H (fun H=>qD (fun v0=>Z [p 6 (U v0.1)] [(5,K 111 y111 a2),(4,K 47 y47 a1),(3,bx 43 [L y115 a0])]) H fun v0 H=>vTT<|fR<|hr H) fun H=>vK<|fQ<|qD (fun v1=>Z [p 3 (R 3),p 5 (R 5),p 7 (R 7)] [(7,K 152 y152 v1),(5,K 111 y111 a2),(4,K 47 y47 a1),(3,bx 43 [L y115 a0])]) H fun v1 H=>qD (fun v2=>Z [p 6 (S v2)] [(7,K 152 y152 v1),(5,K 111 y111 a2),(4,K 47 y47 a1),(3,bx 43 [L y115 a0])]) H fun v2 H=>vTT<|hr H
def u59:Option (List ByteArray) :=
 lt ([ByteArray.mk #[115,119,97,112],ByteArray.mk #[98,117,102,102,101,114],ByteArray.mk #[117,110,98,117,102,102,101,114],ByteArray.mk #[109,111,118,101],ByteArray.mk #[119,105,114,101]]) fun v0 =>
 some v0
def k59:Ct:=lct 59 [] (fun x=>u59) (fun r:List ByteArray=>AV.ow 9 true Ty.str r) (fun _=>())
theorem o59:Ok prog k59:=by
 refine okM [.tmp 0] func59 ?_;intro y _ r H Q hn hr;refine iA []<|qC (fun v0=>Z [p 0 (O 1)] [(1,A 9 Ty.str v0 0)]) H fun v0 H=>vTT<|hr H
def u65J4:List Y111->Option (List Y111)
 | v25 =>
 some v25
def u65L5(a0:Y47)(g5:Int×List Y111->Option (List Y111)):Int×List Y111->Option (List Y111)
 | (v21,v22) =>
 if(decide (v21 < (a0.2.2.length:Int))) then
  gd (ix v21 a0.2.2.length/\ix v21 a0.2.2.length/\(v22.length+[(-1,v21,(a0.2.2.getD v21.toNat (dflt y166)).2.2,(a0.2.2.getD v21.toNat (dflt y166)).2.1==1)].length<=9223372036854775807/\(v22.length+[(-1,v21,(a0.2.2.getD v21.toNat (dflt y166)).2.2,(a0.2.2.getD v21.toNat (dflt y166)).2.1==1)].length)*32<=140737488355328)/\True)<|lt ((v22++[(-1,v21,(a0.2.2.getD v21.toNat (dflt y166)).2.2,(a0.2.2.getD v21.toNat (dflt y166)).2.1==1)],[(-1,v21,(a0.2.2.getD v21.toNat (dflt y166)).2.2,(a0.2.2.getD v21.toNat (dflt y166)).2.1==1)])) fun(v23,_) =>
  gd (in64 (v21+1)/\True) <|
  g5 (v21+1,v23)
 else
  u65J4 v22
def u65J0(a0:Y47):List Y111->Option (List Y111)
 | v18 =>
 lp (u65L5 a0) (0,v18)
def u65J2(v8:Int)(g1:Int×List Y111->Option (List Y111)):List Y111->Option (List Y111)
 | v17 =>
 gd (in64 (v8+1)/\True) <|
 g1 (v8+1,v17)
def u65L3(v8:Int)(v10:Y152)(g1:Int×List Y111->Option (List Y111))(g3:Int×List Y111->Option (List Y111)):Int×List Y111->Option (List Y111)
 | (v13,v14) =>
 if(decide (v13 < (v10.2.2.length:Int))) then
  gd (ix v13 v10.2.2.length/\in64 ((v10.2.2.length:Int)-1)/\(v14.length+[(v8,v13,v10.2.2.getD v13.toNat 0,v13==(v10.2.2.length:Int)-1)].length<=9223372036854775807/\(v14.length+[(v8,v13,v10.2.2.getD v13.toNat 0,v13==(v10.2.2.length:Int)-1)].length)*32<=140737488355328)/\True)<|lt ((v14++[(v8,v13,v10.2.2.getD v13.toNat 0,v13==(v10.2.2.length:Int)-1)],[(v8,v13,v10.2.2.getD v13.toNat 0,v13==(v10.2.2.length:Int)-1)])) fun(v15,_) =>
  gd (in64 (v13+1)/\True) <|
  g3 (v13+1,v15)
 else
  u65J2 v8 g1 v14
def u65L1(a0:Y47)(g1:Int×List Y111->Option (List Y111)):Int×List Y111->Option (List Y111)
 | (v8,v9) =>
 if(decide (v8 < (a0.1.length:Int))) then
  gd (ix v8 a0.1.length/\True)<|lt (a0.1.getD v8.toNat (dflt y152)) fun v10 =>
  lp (u65L3 v8 v10 g1) (0,v9)
 else
  u65J0 a0 v9
def u65(a0:Y47):Option (List Y111) :=
 lp (u65L1 a0) (0,[])
def k65:Ct:=lct 65 [.agg y47] (fun x=>u65 x.1) (fun r:List Y111=>AV.ow 111 true y111 r) (fun _=>())
theorem o65:Ok prog k65:=by
 refine okM [.tmp 2] func65 ?_;intro y ⟨a0,_⟩ r H Q hn hr;refine iA [1]<|iA [1,3]<|jN r (fun(v18:List Y111)=>Z [p 1 (R 1),p 3 (O 8)] [(8,A 111 y111 v18 0),(1,K 47 y47 a0)]) (u65J0 a0) (fun v18 H=>?_) (fun _ n0 e0 t0=>?_)
 ·refine jN r (fun(v25:List Y111)=>Z [p 3 (O 8)] [(8,A 111 y111 v25 0)]) (u65J4) (fun v25 H=>?_) (fun _ n4 e4 t4=>?_)
  ·refine iA [2]<|vTT<|hr H
  refine iA [1,3,7]<|vB<|lX (fun((v21,v22):Int×List Y111)=>Z [p 1 (R 1),p 3 (O 8),p 7 (I v21)] [(8,A 111 y111 v22 0),(1,K 47 y47 a0)]) (0,v18) H fun _ g5 b5 e5 t5 ⟨v21,v22⟩ H=>vQ<|iA [1,3,7,47]<|cD H (fun H=>?_) (fun H=>?_)
  ·refine vK<|fQ<|vQ<|vB<|zD (fun(v23,v24)=>Z [p 1 (R 1),p 3 (AV.os 8 1),p 7 (I v21)] [(8,A 111 y111 v23 1),(66,A 111 y111 v24 0),(1,K 47 y47 a0)]) H fun⟨v23,v24⟩ H =>
    fK<|fQ <|
    jB [1,3,7] H fun H =>
    b5 H
  exact vE<|fE<|e5<|fX rfl<|n4 H
 refine iA [1,3,4]<|vB<|lX (fun((v8,v9):Int×List Y111)=>Z [p 1 (R 1),p 3 (O 8),p 4 (I v8)] [(8,A 111 y111 v9 0),(1,K 47 y47 a0)]) (0,[]) H fun _ g1 b1 e1 t1 ⟨v8,v9⟩ H=>vQ<|iA [1,3,4,13]<|cD H (fun H=>?_) (fun H=>?_)
 ·refine vK<|fQ<|jN r (fun(v17:List Y111)=>Z [p 1 (R 1),p 3 (O 8),p 4 (I v8)] [(8,A 111 y111 v17 0),(1,K 47 y47 a0)]) (u65J2 v8 g1) (fun v17 H=>?_) (fun _ n2 e2 t2=>?_)
  ·refine jB [1,3,4] H fun H=>b1 H
  refine vB<|qD (fun v10=>Z [p 1 (R 1),p 3 (O 8),p 4 (I v8),p 5 (L i64 v10.2.2)] [(8,A 111 y111 v9 0),(1,K 47 y47 a0)]) H fun v10 H=>iA [1,3,4,5,6]<|vB<|lX (fun((v13,v14):Int×List Y111)=>Z [p 1 (R 1),p 3 (O 8),p 4 (I v8),p 5 (L i64 v10.2.2),p 6 (I v13)] [(8,A 111 y111 v14 0),(1,K 47 y47 a0)]) (0,v9) H fun _ g3 b3 e3 t3 ⟨v13,v14⟩ H=>vQ<|iA [1,3,4,5,6,25]<|cD H (fun H=>?_) (fun H=>?_)
  ·refine vK<|fQ<|vQ<|vB<|zD (fun(v15,v16)=>Z [p 1 (R 1),p 3 (AV.os 8 1),p 4 (I v8),p 5 (L i64 v10.2.2),p 6 (I v13)] [(8,A 111 y111 v15 1),(41,A 111 y111 v16 0),(1,K 47 y47 a0)]) H fun⟨v15,v16⟩ H =>
    fK<|fQ <|
    jB [1,3,4,5,6] H fun H =>
    b3 H
  exact vE<|fE<|e3<|fX rfl<|fK<|n2 H
 exact vE<|fE<|e1<|fX rfl<|n0 H
def u57J0:List Int->Option (List Int)
 | v5 =>
 some v5
def u57J2(v2:Int)(g1:Int×List Int->Option (List Int)):List Int->Option (List Int)
 | v4 =>
 gd (in64 (v2+1)/\True) <|
 g1 (v2+1,v4)
def u57L1(v0:List Y111)(a1:Int)(g1:Int×List Int->Option (List Int)):Int×List Int->Option (List Int)
 | (v2,v3) =>
 if(decide (v2 < (v0.length:Int))) then
  gd (ix v2 v0.length/\v2.toNat<v0.length/\(((v0.getD v2.toNat (dflt y111)).2.2.1==a1)=true/\True->ix v2 v0.length)/\(((v0.getD v2.toNat (dflt y111)).2.2.1==a1)=true/\True->v2.toNat<v0.length)/\True) <|
  if((v0.getD v2.toNat (dflt y111)).2.2.1==a1&&!(v0.getD v2.toNat (dflt y111)).2.2.2) then
   gd ((v3.length+[v2].length<=9223372036854775807/\(v3.length+[v2].length)*8<=140737488355328)/\True) <|
   u57J2 v2 g1 (v3++[v2])
  else
   u57J2 v2 g1 v3
 else
  u57J0 v3
def u57(a0:Y47)(a1:Int):Option (List Int) :=
 gd ((u65 a0).isSome/\True)<|lt (vl (u65 a0)) fun v0 =>
 lp (u57L1 v0 a1) (0,[])
def k57:Ct:=lct 57 [.agg y47,.dat i64] (fun x=>u57 x.1 x.2.1) (fun r:List Int=>AV.ow 2 true i64 r) (fun _=>())
theorem o57:Ok prog k57:=by
 refine okM [.tmp 4] func57 ?_;intro y ⟨_,a1,_⟩ r H Q hn hr;have:=hz (tc o65 tn);refine iA [1,2]<|iA [1,2,5]<|iD o65 [1,5,6] H fun v0 H=>jN r (fun(v5:List Int)=>Z [p 5 (O 8)] [(8,A 2 i64 v5 0)]) (u57J0) (fun v5 H=>?_) (fun _ n0 e0 t0=>?_)
 ·refine iA [4]<|vTT<|hr H
 refine iA [1,5,6,7]<|vB<|lX (fun((v2,v3):Int×List Int)=>Z [p 1 (J a1),p 5 (O 8),p 6 (O 10),p 7 (I v2)] [(10,A 111 y111 v0 0),(8,A 2 i64 v3 0)]) (0,[]) H fun _ g1 b1 e1 t1 ⟨v2,v3⟩ H=>vQ<|iA [1,5,6,7,14]<|cD H (fun H=>?_) (fun H=>?_)
 ·refine vK<|fQ<|jN r (fun(v4:List Int)=>Z [p 1 (J a1),p 5 (O 8),p 6 (O 10),p 7 (I v2)] [(8,A 2 i64 v4 0),(10,A 111 y111 v0 0)]) (u57J2 v2 g1) (fun v4 H=>?_) (fun _ n2 e2 t2=>?_)
  ·refine jB [1,5,6,7] H fun H=>b1 H
  refine vB<|iB [1,5,6,7,31] H fun H=>cD H (fun H=>jB [1,5,6,7] H fun H=>fK<|n2 H) fun H=>vK<|fK<|n2 H
 exact vE<|fE<|e1<|fX rfl<|n0 H
def u169(a0:Y36):Option Bool :=
 gd ((((a0.1.length:Int)==1)=true/\True->ix 0 a0.2.2.1.length)/\True) <|
 some ((a0.1.length:Int)==(1:Int)&&a0.2.2.1.getD (Int.toNat (0:Int)) (0:Int)==(0:Int))
def k169:Ct:=lct 169 [.agg y36] (fun x=>u169 x.1) (fun r:Bool=>B r) (fun _=>())
theorem o169:Ok prog k169:=by
 refine okM [.tmp 2] func169 ?_;intro y ⟨_,_⟩ r H Q hn hr;refine iA [1]<|iB [2] H fun H=>vTT<|hr H
def u107(a0:Y115):Option Bool :=
 some (a0.2.1==1&&(a0.2.2.1.length:Int)==2)
def k107:Ct:=lct 107 [.agg y115] (fun x=>u107 x.1) (fun r:Bool=>B r) (fun _=>())
theorem o107:Ok prog k107:=by
 refine okM [.tmp 2] func107 ?_;intro y ⟨_,_⟩ r H Q hn hr;refine iA [1]<|iA [2]<|vTT<|hr H
def u110(a0:Y50):Option Bool :=
 gd (in64 ((a0.2.1.1.length:Int)-1)/\True) <|
 gd (in64 ((a0.2.2.length:Int)-1)/\True) <|
 if(decide ((a0.2.1.1.length:Int)-1<0)) then
  some false
 else
  gd (ix ((a0.2.1.1.length:Int)-1) a0.2.1.1.length/\True)<|lt (a0.2.1.1.getD ((a0.2.1.1.length:Int)-1).toNat (dflt y152)) fun v0 =>
  gd (ix v0.2.1 a0.1.length/\(u107 (a0.1.getD v0.2.1.toNat (dflt y115))).isSome/\((!vl (u107 (a0.1.getD v0.2.1.toNat (dflt y115))))=false/\True->ix (1:Int) v0.2.2.length)/\((!vl (u107 (a0.1.getD v0.2.1.toNat (dflt y115)))||v0.2.2.getD (Int.toNat (1:Int)) (0:Int) != (a0.2.2.length:Int)-(1:Int))=false/\True->ix ((a0.2.2.length:Int)-(1:Int)) a0.2.1.2.1.length)/\((!vl (u107 (a0.1.getD v0.2.1.toNat (dflt y115)))||v0.2.2.getD (Int.toNat (1:Int)) (0:Int) != (a0.2.2.length:Int)-(1:Int)||!decide (a0.2.1.2.1.getD ((a0.2.2.length:Int)-(1:Int)).toNat (dflt Ty.str)=v0.1))=false/\True->ix (0:Int) v0.2.2.length)/\True)<|lt (!vl (u107 (a0.1.getD v0.2.1.toNat (dflt y115)))||v0.2.2.getD (Int.toNat (1:Int)) (0:Int) != (a0.2.2.length:Int)-(1:Int)||!decide (a0.2.1.2.1.getD ((a0.2.2.length:Int)-(1:Int)).toNat (dflt Ty.str)=v0.1)||v0.2.2.getD (Int.toNat (0:Int)) (0:Int)==(a0.2.2.length:Int)-(1:Int)) fun v1 =>
  if v1 then
   some false
  else
   gd ((u57 a0.2.1 ((a0.2.2.length:Int)-1)).isSome/\(((↑(vl (u57 a0.2.1 ((a0.2.2.length:Int)-1))).length:Int)==1)=true/\True->ix ((a0.2.2.length:Int)-1) a0.2.2.length)/\(((↑(vl (u57 a0.2.1 ((a0.2.2.length:Int)-1))).length:Int)==1)=true/\True->(u169 (a0.2.2.getD ((a0.2.2.length:Int)-1).toNat (dflt y36))).isSome)/\True)<|lt (vl (u57 a0.2.1 ((a0.2.2.length:Int)-1))) fun v2 =>
   some ((v2.length:Int)==1&&vl (u169 (a0.2.2.getD ((a0.2.2.length:Int)-1).toNat (dflt y36))))
def k110:Ct:=lct 110 [.agg y50] (fun x=>u110 x.1) (fun r:Bool=>B r) (fun _=>())
theorem o110:Ok prog k110:=by
 refine okM [.tmp 2] func110 ?_;intro y ⟨a0,_⟩ r H Q hn hr;have:=hz (tc o169 (tc o57 (tc o107 tn)));refine iA [1]<|iB [1,3] H fun H=>iB [1,3,4] H fun H=>vQ<|iA [1,3,4,16]<|cD H (fun H=>iA [2]<|vTT<|fR<|hr H) fun H=>vK<|fQ<|qD (fun v0=>Z [p 1 (R 1),p 4 (I ((a0.2.2.length:Int)-1)),p 5 (R 5)] [(5,K 152 y152 v0),(1,K 50 y50 a0)]) H fun v0 H=>vQ<|qD (fun v1=>Z [p 1 (R 1),p 4 (I ((a0.2.2.length:Int)-1)),p 58 (B v1)] [(5,K 152 y152 v0),(1,K 50 y50 a0)]) H fun v1 H=>cD H (fun H=>iA [2]<|vTT<|fR<|hr H) fun H=>vK<|fQ<|iD o57 [2] H fun _ H=>vTT<|hr H
def u58J0:Unit->Option Int
 | _ =>
 some (-1)
def u58L1(a0:List ByteArray)(a1:ByteArray)(g1:Int->Option Int):Int->Option Int
 | v0 =>
 if(decide (v0 < (a0.length:Int))) then
  gd (ix v0 a0.length/\True) <|
  if(decide (a0.getD v0.toNat (dflt Ty.str)=a1)) then
   some v0
  else
   gd (in64 (v0+1)/\True) <|
   g1 (v0+1)
 else
  u58J0 ()
def u58(a0:List ByteArray)(a1:ByteArray):Option Int :=
 lp (u58L1 a0 a1) 0
def k58:Ct:=lct 58 [.dat Ty.str.sl,.dat Ty.str] (fun x=>u58 x.1 x.2.1) (fun r:Int=>I r) (fun _=>())
theorem o58:Ok prog k58:=by
 refine okM [.tmp 4] func58 ?_;intro y ⟨a0,a1,_⟩ r H Q hn hr;refine iA [0,1]<|jN r (fun(_:Unit)=>Z [] []) (u58J0) (fun _ H=>?_) (fun _ n0 e0 t0=>?_)
 ·refine iA [4]<|vTT<|hr H
 refine iA [0,1,5]<|vB<|lX (fun(v0:Int)=>Z [p 0 (L Ty.str a0),p 1 (U a1),p 5 (I v0)] []) 0 H fun _ g1 b1 e1 t1 v0 H=>vQ<|iA [0,1,5,9]<|cD H (fun H=>?_) (fun H=>?_)
 ·refine vK<|fQ<|vQ<|vB<|iB [0,1,5,17] H fun H=>cD H (fun H=>iA [4]<|vTT<|fDD<|fR<|t1<|fDD<|t0<|hr H) fun H=>vK<|fK<|fQ<|jB [0,1,5] H fun H=>b1 H
 exact vE<|fE<|e1<|fX rfl<|n0 H
def u62(a0:Y47)(a1:ByteArray):Option Int :=
 gd ((u58 a0.2.1 a1).isSome/\True)<|lt (vl (u58 a0.2.1 a1)) fun v0 =>
 some v0
def k62:Ct:=lct 62 [.agg y47,.dat Ty.str] (fun x=>u62 x.1 x.2.1) (fun r:Int=>I r) (fun _=>())
theorem o62:Ok prog k62:=by
 refine okM [.tmp 4] func62 ?_;intro y ⟨_,_,_⟩ r H Q hn hr;have:=hz (tc o58 tn);refine iA [1,2]<|iD o58 [4] H fun _ H=>vTT<|hr H
def u109J0:Unit->Option Int
 | _ =>
 some (-1)
def u109L1(a0:Y47)(a1:ByteArray)(g1:Int->Option Int):Int->Option Int
 | v0 =>
 if(decide (v0 < (a0.1.length:Int))) then
  gd (ix v0 a0.1.length/\True) <|
  if(decide ((a0.1.getD v0.toNat (dflt y152)).1=a1)) then
   some v0
  else
   gd (in64 (v0+1)/\True) <|
   g1 (v0+1)
 else
  u109J0 ()
def u109(a0:Y47)(a1:ByteArray):Option Int :=
 lp (u109L1 a0 a1) 0
def k109:Ct:=lct 109 [.agg y47,.dat Ty.str] (fun x=>u109 x.1 x.2.1) (fun r:Int=>I r) (fun _=>())
theorem o109:Ok prog k109:=by
 refine okM [.tmp 4] func109 ?_;intro y ⟨a0,a1,_⟩ r H Q hn hr;refine iA [1,2]<|jN r (fun(_:Unit)=>Z [] []) (u109J0) (fun _ H=>?_) (fun _ n0 e0 t0=>?_)
 ·refine iA [4]<|vTT<|hr H
 refine iA [1,2,5]<|vB<|lX (fun(v0:Int)=>Z [p 1 (U a1),p 2 (R 2),p 5 (I v0)] [(2,K 47 y47 a0)]) 0 H fun _ g1 b1 e1 t1 v0 H=>vQ<|iA [1,2,5,10]<|cD H (fun H=>?_) (fun H=>?_)
 ·refine vK<|fQ<|vQ<|vB<|iB [1,2,5,20] H fun H=>cD H (fun H=>iA [4]<|vTT<|fDD<|fR<|t1<|fDD<|t0<|hr H) fun H=>vK<|fK<|fQ<|jB [1,2,5] H fun H=>b1 H
 exact vE<|fE<|e1<|fX rfl<|n0 H
def u108J0(a0:ByteArray):Unit->Option Bool
 | _ =>
 some (decide (1<=(a0.size:Int))&&decide ((a0.size:Int)<=8))
def u108L1(a0:ByteArray)(g1:Int->Option Bool):Int->Option Bool
 | v0 =>
 if(decide (v0 < (a0.size:Int))) then
  gd (ix v0 a0.size/\(decide (97<=byteAt a0 v0.toNat)=true/\True->ix v0 a0.size)/\True) <|
  gd (ix v0 a0.size/\(decide (48<=byteAt a0 v0.toNat)=true/\True->ix v0 a0.size)/\True) <|
  if(!(decide (97<=byteAt a0 v0.toNat)&&decide (byteAt a0 v0.toNat<=122))&&!(decide (48<=byteAt a0 v0.toNat)&&decide (byteAt a0 v0.toNat<=57)&&decide (0<v0))) then
   some false
  else
   gd (in64 (v0+1)/\True) <|
   g1 (v0+1)
 else
  u108J0 a0 ()
def u108(a0:ByteArray):Option Bool :=
 lp (u108L1 a0) 0
def k108:Ct:=lct 108 [.dat Ty.str] (fun x=>u108 x.1) (fun r:Bool=>B r) (fun _=>())
theorem o108:Ok prog k108:=by
 refine okM [.tmp 2] func108 ?_;intro y ⟨a0,_⟩ r H Q hn hr;refine iA [0]<|jN r (fun(_:Unit)=>Z [p 0 (U a0)] []) (u108J0 a0) (fun _ H=>?_) (fun _ n0 e0 t0=>?_)
 ·refine iA [2]<|vTT<|hr H
 refine iA [0,3]<|vB<|lX (fun(v0:Int)=>Z [p 0 (U a0),p 3 (I v0)] []) 0 H fun _ g1 b1 e1 t1 v0 H=>vQ<|iA [0,3,9]<|cD H (fun H=>?_) (fun H=>?_)
 ·refine vK<|fQ<|vQ<|vB<|iB [0,3,4] H fun H=>iB [0,3,4,5] H fun H=>iA [0,3,41]<|cD H (fun H=>iA [2]<|vTT<|fDD<|fR<|t1<|fDD<|t0<|hr H) fun H=>vK<|fK<|fQ<|jB [0,3] H fun H=>b1 H
 exact vE<|fE<|e1<|fX rfl<|n0 H
def u106J0:Unit->Option Bool
 | _ =>
 some true
def u106L1(a0:Y115)(a1:Y115)(g1:Int->Option Bool):Int->Option Bool
 | v0 =>
 if(decide (v0 < (a0.2.2.1.length:Int))) then
  gd (ix v0 a0.2.2.1.length/\ix v0 a1.2.2.1.length/\True) <|
  if(!(a0.2.2.1.getD v0.toNat (dflt y170)).2.2.2==(a1.2.2.1.getD v0.toNat (dflt y170)).2.2.2) then
   some false
  else
   gd (in64 (v0+1)/\True) <|
   g1 (v0+1)
 else
  u106J0 ()
def u106(a0:Y115)(a1:Y115):Option Bool :=
 if(a0.2.1 != a1.2.1||(a0.2.2.1.length:Int) != (a1.2.2.1.length:Int)) then
  some false
 else
  lp (u106L1 a0 a1) 0
def k106:Ct:=lct 106 [.agg y115,.agg y115] (fun x=>u106 x.1 x.2.1) (fun r:Bool=>B r) (fun _=>())
theorem o106:Ok prog k106:=by
 refine okM [.tmp 4] func106 ?_;intro y ⟨a0,a1,_⟩ r H Q hn hr;refine iA [2,3]<|vQ<|iA [2,3,19]<|cD H (fun H=>iA [4]<|vTT<|fR<|hr H) fun H=>vK<|fQ<|jN r (fun(_:Unit)=>Z [] []) (u106J0) (fun _ H=>?_) (fun _ n0 e0 t0=>?_)
 ·refine iA [4]<|vTT<|hr H
 refine iA [2,3,5]<|vB<|lX (fun(v0:Int)=>Z (G0 [p 5 (I v0)]) [(3,K 115 y115 a1),(2,K 115 y115 a0)]) 0 H fun _ g1 b1 e1 t1 v0 H=>vQ<|iA [2,3,5,24]<|cD H (fun H=>?_) (fun H=>?_)
 ·refine vK<|fQ<|vQ<|vB<|iB [2,3,5,39] H fun H=>cD H (fun H=>iA [4]<|vTT<|fDD<|fR<|t1<|fDD<|t0<|hr H) fun H=>vK<|fK<|fQ<|jB [2,3,5] H fun H=>b1 H
 exact vE<|fE<|e1<|fX rfl<|n0 H
def u48(a0:Y50)(a1:Y38):Option Bool :=
 gd ((u65 a0.2.1).isSome/\True)<|lt (vl (u65 a0.2.1)) fun v0 =>
 if(a1.1==1) then
  gd (ix a1.2.1 v0.length/\a1.2.1.toNat<v0.length/\True)<|lt (v0.getD a1.2.1.toNat (dflt y111)) fun v1 =>
  gd (((decide (0<=v1.1)&&v1.2.2.2)=true/\True->ix v1.1 a0.2.1.1.length)/\((decide (0<=v1.1)&&v1.2.2.2)=true/\True->ix (a0.2.1.1.getD v1.1.toNat (dflt y152)).2.1 a0.1.length)/\((decide (0<=v1.1)&&v1.2.2.2)=true/\True->ix a1.2.2.1 a0.1.length)/\((decide (0<=v1.1)&&v1.2.2.2)=true/\True->(u106 (a0.1.getD (a0.2.1.1.getD v1.1.toNat (dflt y152)).2.1.toNat (dflt y115)) (a0.1.getD a1.2.2.1.toNat (dflt y115))).isSome)/\True) <|
  some (decide (0<=v1.1)&&v1.2.2.2&&vl (u106 (a0.1.getD (a0.2.1.1.getD v1.1.toNat (dflt y152)).2.1.toNat (dflt y115)) (a0.1.getD a1.2.2.1.toNat (dflt y115))))
 else
  if(a1.1==2) then
   gd (ix a1.2.1 v0.length/\a1.2.1.toNat<v0.length/\((!(v0.getD a1.2.1.toNat (dflt y111)).2.2.2)=true/\True->ix a1.2.2.1 a0.1.length)/\((!(v0.getD a1.2.1.toNat (dflt y111)).2.2.2)=true/\True->(u107 (a0.1.getD a1.2.2.1.toNat (dflt y115))).isSome)/\((!(v0.getD a1.2.1.toNat (dflt y111)).2.2.2&&vl (u107 (a0.1.getD a1.2.2.1.toNat (dflt y115))))=true/\True->(u108 a1.2.2.2.2.2.1).isSome)/\((!(v0.getD a1.2.1.toNat (dflt y111)).2.2.2&&vl (u107 (a0.1.getD a1.2.2.1.toNat (dflt y115)))&&vl (u108 a1.2.2.2.2.2.1))=true/\True->(u109 a0.2.1 a1.2.2.2.2.2.1).isSome)/\((!(v0.getD a1.2.1.toNat (dflt y111)).2.2.2&&vl (u107 (a0.1.getD a1.2.2.1.toNat (dflt y115)))&&vl (u108 a1.2.2.2.2.2.1)&&decide (vl (u109 a0.2.1 a1.2.2.2.2.2.1)<0))=true/\True->(u62 a0.2.1 a1.2.2.2.2.2.1).isSome)/\True)<|lt ((vl (u109 a0.2.1 a1.2.2.2.2.2.1),vl (u62 a0.2.1 a1.2.2.2.2.2.1))) fun(v2,v3) =>
   some (!(v0.getD a1.2.1.toNat (dflt y111)).2.2.2&&vl (u107 (a0.1.getD a1.2.2.1.toNat (dflt y115)))&&vl (u108 a1.2.2.2.2.2.1)&&decide (v2<0)&&decide (v3<0))
  else
   if(a1.1==3) then
    gd ((u110 a0).isSome/\True) <|
    some (vl (u110 a0))
   else
    if(a1.1==4) then
     gd (ix a1.2.1 v0.length/\a1.2.1.toNat<v0.length/\((!(v0.getD a1.2.1.toNat (dflt y111)).2.2.2)=true/\True->ix a1.2.1 v0.length)/\((!(v0.getD a1.2.1.toNat (dflt y111)).2.2.2)=true/\True->a1.2.1.toNat<v0.length)/\True) <|
     some (!(v0.getD a1.2.1.toNat (dflt y111)).2.2.2&&(v0.getD a1.2.1.toNat (dflt y111)).2.2.1 != a1.2.2.2.1)
    else
     gd ((u57 a0.2.1 a1.2.2.2.1).isSome/\(u56 a1.2.2.2.2.2.2 (↑(vl (u57 a0.2.1 a1.2.2.2.1)).length:Int)).isSome/\True)<|lt (vl (u57 a0.2.1 a1.2.2.2.1)) fun v4 =>
     some (vl (u56 a1.2.2.2.2.2.2 (v4.length:Int)))
def k48:Ct:=lct 48 [.agg y50,.agg y38] (fun x=>u48 x.1 x.2.1) (fun r:Bool=>B r) (fun _=>())
theorem o48:Ok prog k48:=by
 refine okM [.tmp 4] func48 ?_;intro y ⟨a0,a1,_⟩ r H Q hn hr;have:=hz (tc o56 (tc o57 (tc o110 (tc o62 (tc o109 (tc o108 (tc o107 (tc o106 (tc o65 tn)))))))));refine iA [2,3]<|iD o65 [2,3,5] H fun v0 H=>vQ<|iA [2,3,5,11]<|vB<|iA [2,3,5,11,12]<|cD H (fun H=>qD (fun v1=>Z (G0 [p 6 (R 6)]) [(6,bx 111 (cellsD true y111 v1)),(9,A 111 y111 v0 0),(3,K 38 y38 a1),(2,K 50 y50 a0)]) H fun v1 H=>iB [4] H fun H=>vTT<|fDD<|fR<|hr H) fun H=>iA [2,3,5,11,49]<|cD H (fun H=>?_) (fun H=>?_)
 ·refine qD (fun(v2,v3)=>Z [p 4 (B (!(v0.getD a1.2.1.toNat (dflt y111)).2.2.2&&vl (u107 (a0.1.getD a1.2.2.1.toNat (dflt y115)))&&vl (u108 a1.2.2.2.2.2.1)&&decide (v2<0)&&decide (v3<0)))] [(9,A 111 y111 v0 0),(3,K 38 y38 a1),(2,K 50 y50 a0)]) H fun⟨v2,v3⟩ H =>
   vTT<|fDD<|fR<|hr H
 refine iA [2,3,5,11,89]<|cD H (fun H=>iB [4] H fun H=>vTT<|fDD<|fR<|hr H) fun H=>iA [2,3,5,93]<|cD H (fun H=>iB [4] H fun H=>vTT<|fDD<|fR<|hr H) fun H=>vK<|fK<|fQ<|iD o57 [4] H fun _ H=>vTT<|hr H
def u47J0(a1:Y38)(v0:List Y111)(a0:Y50):Bool->Option Bool
 | v1 =>
 if v1 then
  gd (in64 ((v0.length:Int)-1)/\(u105 a1.2.1 0 ((v0.length:Int)-1)).isSome/\(vl (u105 a1.2.1 0 ((v0.length:Int)-1))=true/\True->in64 ((a0.1.length:Int)-1))/\(vl (u105 a1.2.1 0 ((v0.length:Int)-1))=true/\True->(u105 a1.2.2.1 0 ((a0.1.length:Int)-1)).isSome)/\True) <|
  some (vl (u105 a1.2.1 0 ((v0.length:Int)-1))&&vl (u105 a1.2.2.1 0 ((a0.1.length:Int)-1)))
 else
  if(a1.1==4) then
   gd (in64 ((v0.length:Int)-1)/\(u105 a1.2.1 0 ((v0.length:Int)-1)).isSome/\(vl (u105 a1.2.1 0 ((v0.length:Int)-1))=true/\True->in64 ((a0.2.2.length:Int)-1))/\(vl (u105 a1.2.1 0 ((v0.length:Int)-1))=true/\True->(u105 a1.2.2.2.1 0 ((a0.2.2.length:Int)-1)).isSome)/\((vl (u105 a1.2.1 0 ((v0.length:Int)-1))&&vl (u105 a1.2.2.2.1 0 ((a0.2.2.length:Int)-1)))=true/\True->ix a1.2.2.2.1 a0.2.2.length)/\((vl (u105 a1.2.1 0 ((v0.length:Int)-1))&&vl (u105 a1.2.2.2.1 0 ((a0.2.2.length:Int)-1)))=true/\True->in64 ((↑(a0.2.2.getD a1.2.2.2.1.toNat (dflt y36)).1.length:Int)-1))/\((vl (u105 a1.2.1 0 ((v0.length:Int)-1))&&vl (u105 a1.2.2.2.1 0 ((a0.2.2.length:Int)-1)))=true/\True->(u105 a1.2.2.2.2.1 0 ((↑(a0.2.2.getD a1.2.2.2.1.toNat (dflt y36)).1.length:Int)-1)).isSome)/\True) <|
   some (vl (u105 a1.2.1 0 ((v0.length:Int)-1))&&vl (u105 a1.2.2.2.1 0 ((a0.2.2.length:Int)-1))&&vl (u105 a1.2.2.2.2.1 0 ((↑(a0.2.2.getD a1.2.2.2.1.toNat (dflt y36)).1.length:Int)-1)))
  else
   if(a1.1==5) then
    gd (in64 ((a0.2.2.length:Int)-1)/\(u105 a1.2.2.2.1 0 ((a0.2.2.length:Int)-1)).isSome/\True) <|
    some (vl (u105 a1.2.2.2.1 0 ((a0.2.2.length:Int)-1)))
   else
    some true
def u47(a0:Y50)(a1:Y38):Option Bool :=
 gd ((u65 a0.2.1).isSome/\True)<|lt (vl (u65 a0.2.1)) fun v0 =>
 if(a1.1==1) then
  u47J0 a1 v0 a0 (a1.1==1)
 else
  u47J0 a1 v0 a0 (a1.1==2)
def k47:Ct:=lct 47 [.agg y50,.agg y38] (fun x=>u47 x.1 x.2.1) (fun r:Bool=>B r) (fun _=>())
theorem o47:Ok prog k47:=by
 refine okM [.tmp 4] func47 ?_;intro y ⟨a0,a1,_⟩ r H Q hn hr;have:=hz (tc o105 (tc o65 tn));refine iA [2,3]<|iD o65 [2,3,5] H fun v0 H=>iA [2,3,5,6]<|iA [2,3,5,6,7]<|vQ<|iA [2,3,5,6,7,20]<|vB<|jN r (fun(v1:Bool)=>Z (G0 [p 5 (I (v0.length:Int)),p 6 (I (a0.1.length:Int)),p 7 (I (a0.2.2.length:Int)),p 20 (J a1.1),p 21 (B v1)]) [(3,K 38 y38 a1),(2,K 50 y50 a0)]) (u47J0 a1 v0 a0) (fun v1 H=>?_) (fun _ n0 e0 t0=>?_)
 ·refine cD H (fun H=>iB [4] H fun H=>vTT<|fDD<|fR<|hr H) fun H=>iA [2,3,5,7,20,36]<|cD H (fun H=>iB [4] H fun H=>vTT<|fDD<|fR<|hr H) fun H=>iA [3,7,64]<|cD H (fun H=>iB [4] H fun H=>vTT<|fDD<|fR<|hr H) fun H=>vK<|fK<|fQ<|iA [4]<|vTT<|hr H
 refine iA [2,3,5,6,7,20,21]<|cD H (fun H=>vK<|n0 H) fun H=>jA [2,3,5,6,7,20,21]<|n0 H
def u46(a0:Y38):Option Bool :=
 gd (in64 ((a0.2.2.2.2.2.2.1.length:Int)+(a0.2.2.2.2.2.2.2.1.length:Int))/\in64 ((a0.2.2.2.2.2.2.1.length:Int)+(a0.2.2.2.2.2.2.2.1.length:Int)+(a0.2.2.2.2.2.2.2.2.1.length:Int))/\in64 ((a0.2.2.2.2.2.2.1.length:Int)+(a0.2.2.2.2.2.2.2.1.length:Int)+(a0.2.2.2.2.2.2.2.2.1.length:Int)+(a0.2.2.2.2.2.2.2.2.2.length:Int))/\True) <|
 if(a0.1==1) then
  lt (a0.2.2.2.1==0&&a0.2.2.2.2.1==0&&decide (a0.2.2.2.2.2.1=ByteArray.mk #[])&&(a0.2.2.2.2.2.2.1.length:Int)+(a0.2.2.2.2.2.2.2.1.length:Int)+(a0.2.2.2.2.2.2.2.2.1.length:Int)+(a0.2.2.2.2.2.2.2.2.2.length:Int)==0) fun v0 =>
  some v0
 else
  if(a0.1==2) then
   some (a0.2.2.2.1==0&&a0.2.2.2.2.1==0&&(a0.2.2.2.2.2.2.1.length:Int)+(a0.2.2.2.2.2.2.2.1.length:Int)+(a0.2.2.2.2.2.2.2.2.1.length:Int)+(a0.2.2.2.2.2.2.2.2.2.length:Int)==0)
  else
   if(a0.1==3) then
    lt (a0.2.1==0&&a0.2.2.1==0&&a0.2.2.2.1==0&&a0.2.2.2.2.1==0&&decide (a0.2.2.2.2.2.1=ByteArray.mk #[])&&(a0.2.2.2.2.2.2.1.length:Int)+(a0.2.2.2.2.2.2.2.1.length:Int)+(a0.2.2.2.2.2.2.2.2.1.length:Int)+(a0.2.2.2.2.2.2.2.2.2.length:Int)==0) fun v1 =>
    some v1
   else
    if(a0.1==4) then
     some (a0.2.2.1==0&&decide (a0.2.2.2.2.2.1=ByteArray.mk #[])&&(a0.2.2.2.2.2.2.1.length:Int)+(a0.2.2.2.2.2.2.2.1.length:Int)+(a0.2.2.2.2.2.2.2.2.1.length:Int)+(a0.2.2.2.2.2.2.2.2.2.length:Int)==0)
    else
     if(a0.1==5) then
      some (a0.2.1==0&&a0.2.2.1==0&&a0.2.2.2.2.1==0&&decide (a0.2.2.2.2.2.1=ByteArray.mk #[]))
     else
      some false
def k46:Ct:=lct 46 [.agg y38] (fun x=>u46 x.1) (fun r:Bool=>B r) (fun _=>())
theorem o46:Ok prog k46:=by
 refine okM [.tmp 2] func46 ?_;intro y ⟨a0,_⟩ r H Q hn hr;refine iA [1]<|iB [1,3] H fun H=>vQ<|iA [1,3,25]<|vB<|iA [1,3,25,26]<|cD H (fun H=>qC (fun v0=>Z [p 2 (B v0)] [(1,K 38 y38 a0)]) H fun v0 H=>vTT<|fDD<|fR<|hr H) fun H=>iA [1,3,25,44]<|cD H (fun H=>iA [2]<|vTT<|fDD<|fR<|hr H) fun H=>iA [1,3,25,57]<|cD H (fun H=>qC (fun v1=>Z [p 2 (B v1)] [(1,K 38 y38 a0)]) H fun v1 H=>vTT<|fDD<|fR<|hr H) fun H=>iA [1,3,25,85]<|cD H (fun H=>iA [2]<|vTT<|fDD<|fR<|hr H) fun H=>iA [1,98]<|cD H (fun H=>iA [2]<|vTT<|fDD<|fR<|hr H) fun H=>vK<|fK<|fQ<|iA [2]<|vTT<|hr H
def u117J0:Unit->Option Bool
 | _ =>
 some true
def u117J2(v1:Int)(g1:Int->Option Bool):Unit->Option Bool
 | _ =>
 gd (in64 (v1+1)/\True) <|
 g1 (v1+1)
def u117L3(a0:List ByteArray)(v1:Int)(g1:Int->Option Bool)(g3:Int->Option Bool):Int->Option Bool
 | v2 =>
 if(decide (v2<v1)) then
  gd (ix v2 a0.length/\ix v1 a0.length/\True) <|
  if(decide (a0.getD v2.toNat (dflt Ty.str)=a0.getD v1.toNat (dflt Ty.str))) then
   some false
  else
   gd (in64 (v2+1)/\True) <|
   g3 (v2+1)
 else
  u117J2 v1 g1 ()
def u117L1(a0:List ByteArray)(g1:Int->Option Bool):Int->Option Bool
 | v1 =>
 if(decide (v1 < (a0.length:Int))) then
  gd (ix v1 a0.length/\(u108 (a0.getD v1.toNat (dflt Ty.str))).isSome/\True) <|
  if(!vl (u108 (a0.getD v1.toNat (dflt Ty.str)))) then
   some false
  else
   lp (u117L3 a0 v1 g1) 0
 else
  u117J0 ()
def u117(a0:List ByteArray):Option Bool :=
 lp (u117L1 a0) 0
def k117:Ct:=lct 117 [.dat Ty.str.sl] (fun x=>u117 x.1) (fun r:Bool=>B r) (fun _=>())
theorem o117:Ok prog k117:=by
 refine okM [.tmp 2] func117 ?_;intro y ⟨a0,_⟩ r H Q hn hr;have:=hz (tc o108 tn);refine iA [0]<|jN r (fun(_:Unit)=>Z [] []) (u117J0) (fun _ H=>?_) (fun _ n0 e0 t0=>?_)
 ·refine iA [2]<|vTT<|hr H
 refine iA [0,3]<|vB<|lX (fun(v1:Int)=>Z [p 0 (L Ty.str a0),p 3 (I v1)] []) 0 H fun _ g1 b1 e1 t1 v1 H=>vQ<|iA [0,3,8]<|cD H (fun H=>?_) (fun H=>?_)
 ·refine vK<|fQ<|jN r (fun(_:Unit)=>Z [p 0 (L Ty.str a0),p 3 (I v1)] []) (u117J2 v1 g1) (fun _ H=>?_) (fun _ n2 e2 t2=>?_)
  ·refine jB [0,3] H fun H=>b1 H
  refine vB<|vQ<|iB [0,3,16] H fun H=>cD H (fun H=>iA [2]<|vTT<|fR<|fDD<|t2<|t1<|fDD<|t0<|hr H) fun H=>vK<|fQ<|iA [0,3,4]<|vB<|lX (fun(v2:Int)=>Z [p 0 (L Ty.str a0),p 3 (I v1),p 4 (I v2)] []) 0 H fun _ g3 b3 e3 t3 v2 H=>vQ<|iA [0,3,4,19]<|cD H (fun H=>?_) (fun H=>?_)
  ·refine vK<|fQ<|vQ<|vB<|iB [0,3,4,30] H fun H=>cD H (fun H=>iA [2]<|vTT<|fDD<|fR<|t3<|fDD<|fDD<|t2<|t1<|fDD<|t0<|hr H) fun H=>vK<|fK<|fQ<|jB [0,3,4] H fun H=>b3 H
  exact vE<|fE<|e3<|fX rfl<|fK<|n2 H
 exact vE<|fE<|e1<|fX rfl<|n0 H
def u116J4:Unit->Option Bool
 | _ =>
 some true
def u116L5(a1:Y47)(g5:Int->Option Bool):Int->Option Bool
 | v5 =>
 if(decide (v5 < (a1.2.2.length:Int))) then
  gd (ix v5 a1.2.2.length/\(u105 (a1.2.2.getD v5.toNat (dflt y166)).2.1 1 2).isSome/\((!vl (u105 (a1.2.2.getD v5.toNat (dflt y166)).2.1 1 2))=false/\True->ix v5 a1.2.2.length)/\((!vl (u105 (a1.2.2.getD v5.toNat (dflt y166)).2.1 1 2))=false/\True->in64 ((a1.2.1.length:Int)-1))/\((!vl (u105 (a1.2.2.getD v5.toNat (dflt y166)).2.1 1 2))=false/\True->(u105 (a1.2.2.getD v5.toNat (dflt y166)).2.2 0 ((a1.2.1.length:Int)-1)).isSome)/\True) <|
  if(!vl (u105 (a1.2.2.getD v5.toNat (dflt y166)).2.1 1 2)||!vl (u105 (a1.2.2.getD v5.toNat (dflt y166)).2.2 0 ((a1.2.1.length:Int)-1))) then
   some false
  else
   gd (in64 (v5+1)/\True) <|
   g5 (v5+1)
 else
  u116J4 ()
def u116J0(a1:Y47):Unit->Option Bool
 | _ =>
 lp (u116L5 a1) 0
def u116J2(v2:Int)(g1:Int->Option Bool):Unit->Option Bool
 | _ =>
 gd (in64 (v2+1)/\True) <|
 g1 (v2+1)
def u116L3(v3:Y152)(a1:Y47)(v2:Int)(g1:Int->Option Bool)(g3:Int->Option Bool):Int->Option Bool
 | v4 =>
 if(decide (v4 < (v3.2.2.length:Int))) then
  gd (ix v4 v3.2.2.length/\in64 ((a1.2.1.length:Int)-1)/\(u105 (v3.2.2.getD v4.toNat 0) 0 ((a1.2.1.length:Int)-1)).isSome/\True) <|
  if(!vl (u105 (v3.2.2.getD v4.toNat 0) 0 ((a1.2.1.length:Int)-1))) then
   some false
  else
   gd (in64 (v4+1)/\True) <|
   g3 (v4+1)
 else
  u116J2 v2 g1 ()
def u116L1(a1:Y47)(a0:List Y115)(g1:Int->Option Bool):Int->Option Bool
 | v2 =>
 if(decide (v2 < (a1.1.length:Int))) then
  gd (ix v2 a1.1.length/\True)<|lt (a1.1.getD v2.toNat (dflt y152)) fun v3 =>
  gd (in64 ((a0.length:Int)-1)/\(u105 v3.2.1 0 ((a0.length:Int)-1)).isSome/\((!vl (u105 v3.2.1 0 ((a0.length:Int)-1)))=false/\True->ix v3.2.1 a0.length)/\True) <|
  if(!vl (u105 v3.2.1 0 ((a0.length:Int)-1))||(v3.2.2.length:Int) != (↑(a0.getD v3.2.1.toNat (dflt y115)).2.2.1.length:Int)) then
   some false
  else
   lp (u116L3 v3 a1 v2 g1) 0
 else
  u116J0 a1 ()
def u116(a0:List Y115)(a1:Y47):Option Bool :=
 lp (u116L1 a1 a0) 0
def k116:Ct:=lct 116 [.agg y115.sl,.agg y47] (fun x=>u116 x.1 x.2.1) (fun r:Bool=>B r) (fun _=>())
theorem o116:Ok prog k116:=by
 refine okM [.tmp 4] func116 ?_;intro y ⟨a0,a1,_⟩ r H Q hn hr;have:=hz (tc o105 tn);refine iA [2,3]<|iA [2,3,5]<|jN r (fun(_:Unit)=>Z [p 3 (R 3),p 5 (I (a1.2.1.length:Int))] [(3,K 47 y47 a1)]) (u116J0 a1) (fun _ H=>?_) (fun _ n0 e0 t0=>?_)
 ·refine jN r (fun(_:Unit)=>Z [] []) (u116J4) (fun _ H=>?_) (fun _ n4 e4 t4=>?_)
  ·refine iA [4]<|vTT<|hr H
  refine iA [3,5,9]<|vB<|lX (fun(v5:Int)=>Z [p 3 (R 3),p 5 (I (a1.2.1.length:Int)),p 9 (I v5)] [(3,K 47 y47 a1)]) 0 H fun _ g5 b5 e5 t5 v5 H=>vQ<|iA [3,5,9,67]<|cD H (fun H=>?_) (fun H=>?_)
  ·refine vK<|fQ<|vQ<|vB<|iB [3,5,9,89] H fun H=>cD H (fun H=>iA [4]<|vTT<|fDD<|fR<|t5<|fDD<|t4<|hr H) fun H=>vK<|fK<|fQ<|jB [3,5,9] H fun H=>b5 H
  exact vE<|fE<|e5<|fX rfl<|n4 H
 refine iA [2,3,5,6]<|vB<|lX (fun(v2:Int)=>Z (G0 [p 5 (I (a1.2.1.length:Int)),p 6 (I v2)]) (W3 a1 a0)) 0 H fun _ g1 b1 e1 t1 v2 H=>vQ<|iA [2,3,5,6,17]<|cD H (fun H=>?_) (fun H=>?_)
 ·refine vK<|fQ<|jN r (fun(_:Unit)=>Z (G0 [p 5 (I (a1.2.1.length:Int)),p 6 (I v2)]) (W3 a1 a0)) (u116J2 v2 g1) (fun _ H=>?_) (fun _ n2 e2 t2=>?_)
  ·refine jB [2,3,5,6] H fun H=>b1 H
  refine vB<|qD (fun v3=>Z (G0 [p 5 (I (a1.2.1.length:Int)),p 6 (I v2),p 7 (R 7)]) ((7,K 152 y152 v3)::W3 a1 a0)) H fun v3 H=>vQ<|iB [2,3,5,6,7,46] H fun H=>cD H (fun H=>iA [4]<|vTT<|fR<|fDD<|t2<|t1<|fDD<|t0<|hr H) fun H=>vK<|fQ<|iA [2,3,5,6,7,8]<|vB<|lX (fun(v4:Int)=>Z (G0 [p 5 (I (a1.2.1.length:Int)),p 6 (I v2),p 7 (R 7),p 8 (I v4)]) ((7,K 152 y152 v3)::W3 a1 a0)) 0 H fun _ g3 b3 e3 t3 v4 H=>vQ<|iA [2,3,5,6,7,8,51]<|cD H (fun H=>?_) (fun H=>?_)
  ·refine vK<|fQ<|vQ<|vB<|iB [2,3,5,6,7,8,62] H fun H=>cD H (fun H=>iA [4]<|vTT<|fDD<|fR<|t3<|fDD<|fDD<|t2<|t1<|fDD<|t0<|hr H) fun H=>vK<|fK<|fQ<|jB [2,3,5,6,7,8] H fun H=>b3 H
  exact vE<|fE<|e3<|fX rfl<|fK<|n2 H
 exact vE<|fE<|e1<|fX rfl<|n0 H
def u213J0:List Int->Option (List Int)
 | v4 =>
 some v4
def u213L1(a0:Y115)(g1:Int×List Int->Option (List Int)):Int×List Int->Option (List Int)
 | (v1,v2) =>
 if(decide (v1 < (a0.2.2.2.1.length:Int))) then
  gd (ix v1 a0.2.2.2.1.length/\ix (a0.2.2.2.1.getD v1.toNat (dflt y243)).1 v2.length/\(a0.2.2.2.1.getD v1.toNat (dflt y243)).1.toNat<v2.length/\in64 (v2.getD (a0.2.2.2.1.getD v1.toNat (dflt y243)).1.toNat 0+1)/\ix (a0.2.2.2.1.getD v1.toNat (dflt y243)).1 v2.length/\(a0.2.2.2.1.getD v1.toNat (dflt y243)).1.toNat<v2.length/\True)<|lt (v2.set (a0.2.2.2.1.getD v1.toNat (dflt y243)).1.toNat (v2.getD (a0.2.2.2.1.getD v1.toNat (dflt y243)).1.toNat 0+1)) fun v3 =>
  gd (in64 (v1+1)/\True) <|
  g1 (v1+1,v3)
 else
  u213J0 v2
def u213(a0:Y115):Option (List Int) :=
 gd (((0:Int)<=(6:Int)/\(6:Int)=(6:Int)/\Int.toNat (6:Int)*8<=281474976710656/\(6:Int)<=(9223372036854775807:Int))/\True) <|
 lp (u213L1 a0) ((0,List.replicate (Int.toNat (6:Int)) (0:Int)))
def k213:Ct:=lct 213 [.agg y115] (fun x=>u213 x.1) (fun r:List Int=>AV.ow 2 true i64 r) (fun _=>())
theorem o213:Ok prog k213:=by
 refine okM [.tmp 2] func213 ?_;intro y ⟨a0,_⟩ r H Q hn hr;refine iA [1]<|iB [1,3] H fun H=>jN r (fun(v4:List Int)=>Z [p 3 (O 5)] [(5,A 2 i64 v4 0)]) (u213J0) (fun v4 H=>?_) (fun _ n0 e0 t0=>?_)
 ·refine iA [2]<|vTT<|hr H
 refine iA [1,3,4]<|vB<|lX (fun((v1,v2):Int×List Int)=>Z [p 1 (R 1),p 3 (O 5),p 4 (I v1)] [(5,A 2 i64 v2 0),(1,K 115 y115 a0)]) ((0,List.replicate (Int.toNat (6:Int)) (0:Int))) H fun _ g1 b1 e1 t1 ⟨v1,v2⟩ H=>vQ<|iA [1,3,4,10]<|cD H (fun H=>vK<|fQ<|vQ<|vB<|zD (fun v3=>Z [p 1 (R 1),p 3 (O 5),p 4 (I v1)] [(5,A 2 i64 v3 0),(1,K 115 y115 a0)]) H fun v3 H=>fK<|fQ<|jB [1,3,4] H fun H=>b1 H) fun H=>vE<|fE<|e1<|fX rfl<|n0 H
def u311J0(a0:List Int):Unit->Option Bool
 | _ =>
 some (decide (1<=(a0.length:Int))&&decide ((a0.length:Int)<=4))
def u311L1(a0:List Int)(g1:Int->Option Bool):Int->Option Bool
 | v0 =>
 if(decide (v0 < (a0.length:Int))) then
  gd (ix v0 a0.length/\(u105 (a0.getD v0.toNat 0) 0 100000).isSome/\(decide (0<v0)=true/\(!vl (u105 (a0.getD v0.toNat 0) 0 100000))=false/\True->in64 (v0-1))/\(decide (0<v0)=true/\(!vl (u105 (a0.getD v0.toNat 0) 0 100000))=false/\True->ix (v0-1) a0.length)/\(decide (0<v0)=true/\(!vl (u105 (a0.getD v0.toNat 0) 0 100000))=false/\True->ix v0 a0.length)/\True) <|
  if(!vl (u105 (a0.getD v0.toNat 0) 0 100000)||decide (0<v0)&&decide (a0.getD v0.toNat 0<=a0.getD (v0-1).toNat 0)) then
   some false
  else
   gd (in64 (v0+1)/\True) <|
   g1 (v0+1)
 else
  u311J0 a0 ()
def u311(a0:List Int):Option Bool :=
 lp (u311L1 a0) 0
def k311:Ct:=lct 311 [.dat i64.sl] (fun x=>u311 x.1) (fun r:Bool=>B r) (fun _=>())
theorem o311:Ok prog k311:=by
 refine okM [.tmp 2] func311 ?_;intro y ⟨a0,_⟩ r H Q hn hr;have:=hz (tc o105 tn);refine iA [0]<|jN r (fun(_:Unit)=>Z [p 0 (L i64 a0)] []) (u311J0 a0) (fun _ H=>?_) (fun _ n0 e0 t0=>?_)
 ·refine iA [2]<|vTT<|hr H
 refine iA [0,3]<|vB<|lX (fun(v0:Int)=>Z [p 0 (L i64 a0),p 3 (I v0)] []) 0 H fun _ g1 b1 e1 t1 v0 H=>vQ<|iA [0,3,7]<|cD H (fun H=>?_) (fun H=>?_)
 ·refine vK<|fQ<|vQ<|vB<|iB [0,3,31] H fun H=>cD H (fun H=>iA [2]<|vTT<|fDD<|fR<|t1<|fDD<|t0<|hr H) fun H=>vK<|fK<|fQ<|jB [0,3] H fun H=>b1 H
 exact vE<|fE<|e1<|fX rfl<|n0 H
def u302J0:Unit->Option Bool
 | _ =>
 some true
def u302L1(a0:Y291)(g1:Int->Option Bool):Int->Option Bool
 | v0 =>
 if(decide (v0 < (a0.2.2.length:Int))) then
  gd (ix v0 a0.2.2.length/\(u105 (a0.2.2.getD v0.toNat 0) (-1000000) 1000000).isSome/\True) <|
  if(!vl (u105 (a0.2.2.getD v0.toNat 0) (-1000000) 1000000)) then
   some false
  else
   gd (in64 (v0+1)/\True) <|
   g1 (v0+1)
 else
  u302J0 ()
def u302(a0:Y291):Option Bool :=
 gd ((u311 a0.1).isSome/\((!vl (u311 a0.1))=false/\True->(u311 a0.2.1).isSome)/\((!vl (u311 a0.1)||!vl (u311 a0.2.1))=false/\True->in64 ((a0.1.length:Int)*(a0.2.1.length:Int)))/\True) <|
 if(!vl (u311 a0.1)||!vl (u311 a0.2.1)||(a0.2.2.length:Int) != (a0.1.length:Int)*(a0.2.1.length:Int)) then
  some false
 else
  lp (u302L1 a0) 0
def k302:Ct:=lct 302 [.agg y291] (fun x=>u302 x.1) (fun r:Bool=>B r) (fun _=>())
theorem o302:Ok prog k302:=by
 refine okM [.tmp 2] func302 ?_;intro y ⟨a0,_⟩ r H Q hn hr;have:=hz (tc o105 (tc o311 tn));refine iA [1]<|vQ<|iB [1,26] H fun H=>cD H (fun H=>iA [2]<|vTT<|fR<|hr H) fun H=>vK<|fQ<|jN r (fun(_:Unit)=>Z [] []) (u302J0) (fun _ H=>?_) (fun _ n0 e0 t0=>?_)
 ·refine iA [2]<|vTT<|hr H
 refine iA [1,3]<|vB<|lX (fun(v0:Int)=>Z (G2 v0 []) [(1,K 291 y291 a0)]) 0 H fun _ g1 b1 e1 t1 v0 H=>vQ<|iA [1,3,31]<|cD H (fun H=>?_) (fun H=>?_)
 ·refine vK<|fQ<|vQ<|vB<|iB [1,3,40] H fun H=>cD H (fun H=>iA [2]<|vTT<|fDD<|fR<|t1<|fDD<|t0<|hr H) fun H=>vK<|fK<|fQ<|jB [1,3] H fun H=>b1 H
 exact vE<|fE<|e1<|fX rfl<|n0 H
def u286J0:Int×Int->Option (Y333×Int)
 | (v5,v6) =>
 some (((v5,v6),(0:Int)))
def u286L1(a0:Y291)(g1:Int×Int×Int->Option (Y333×Int)):Int×Int×Int->Option (Y333×Int)
 | (v2,v3,v4) =>
 if(decide (v2 < (a0.2.2.length:Int))) then
  gd (ix v2 a0.2.2.length/\True) <|
  gd (ix v2 a0.2.2.length/\True) <|
  gd (in64 (v2+1)/\True) <|
  g1 ((v2+1,min v3 (a0.2.2.getD v2.toNat 0),max v4 (a0.2.2.getD v2.toNat 0)))
 else
  u286J0 (v3,v4)
def u286(a0:Y291):Option (Y333×Int) :=
 gd ((u302 a0).isSome/\True) <|
 if(!vl (u302 a0)) then
  some ((((0:Int),(0:Int)),(1:Int)))
 else
  gd (ix 0 a0.2.2.length/\ix 0 a0.2.2.length/\True) <|
  lp (u286L1 a0) ((1,a0.2.2.getD (Int.toNat (0:Int)) (0:Int),a0.2.2.getD (Int.toNat (0:Int)) (0:Int)))
def k286:Ct:=lct 286 [.agg y291] (fun x=>u286 x.1) (fun r:Y333×Int=>AV.tup [AV.agg [I r.1.1,I r.1.2],I r.2]) (fun _=>())
theorem o286:Ok prog k286:=by
 refine okM [.cell 2 333,.tmp 3] func286 ?_;intro y ⟨a0,_⟩ r H Q hn hr;have:=hz (tc o302 tn);refine iA [1,2]<|vQ<|iB [1,2,8] H fun H=>cD H (fun H=>iA [2,3]<|vTT<|fR<|hr H) fun H=>vK<|fQ<|iB [1,2,4] H fun H=>jN r (fun((v5,v6):Int×Int)=>Z [p 2 (R 2),p 4 (R 4)] [(4,bx 333 [J v5,J v6]),(2,bx 333 [I 0,I 0])]) (u286J0) (fun⟨v5,v6⟩ H=>?_) (fun _ n0 e0 t0=>?_)
 ·refine iA [2,3]<|vTT<|hr H
 refine iA [1,2,4,5]<|vB<|lX (fun((v2,v3,v4):Int×Int×Int)=>Z [p 1 (R 1),p 2 (R 2),p 4 (R 4),p 5 (I v2)] [(4,bx 333 [J v3,J v4]),(2,bx 333 [I 0,I 0]),(1,K 291 y291 a0)]) ((1,a0.2.2.getD (Int.toNat (0:Int)) (0:Int),a0.2.2.getD (Int.toNat (0:Int)) (0:Int))) H fun _ g1 b1 e1 t1 ⟨v2,v3,v4⟩ H=>vQ<|iA [1,2,4,5,23]<|cD H (fun H=>vK<|fQ<|vQ<|vB<|iB [1,2,4,5] H fun H=>jB [1,2,4,5] H fun H=>fK<|fQ<|jB [1,2,4,5] H fun H=>b1 H) fun H=>vE<|fE<|e1<|fX rfl<|n0 H
def u256J0:Unit->Option Bool
 | _ =>
 some true
def u256L1(a1:Bool)(a0:List Y291)(g1:Int->Option Bool):Int->Option Bool
 | v1 =>
 if(decide (v1<2)) then
  gd (ix v1 a0.length/\(u286 (a0.getD v1.toNat (dflt y291))).isSome/\True)<|lt (vl (u286 (a0.getD v1.toNat (dflt y291)))) fun v2 =>
  if(v2.2 != 0||a1&&decide (v2.1.1<0)) then
   some false
  else
   gd (in64 (v1+1)/\True) <|
   g1 (v1+1)
 else
  u256J0 ()
def u256(a0:List Y291)(a1:Bool):Option Bool :=
 if((a0.length:Int) != 2) then
  some false
 else
  lp (u256L1 a1 a0) 0
def k256:Ct:=lct 256 [.dat y291.sl,.dat Ty.bool] (fun x=>u256 x.1 x.2.1) (fun r:Bool=>B r) (fun _=>())
theorem o256:Ok prog k256:=by
 refine okM [.tmp 4] func256 ?_;intro y ⟨a0,a1,_⟩ r H Q hn hr;have:=hz (tc o286 tn);refine iA [0,1]<|vQ<|iA [0,1,10]<|cD H (fun H=>iA [4]<|vTT<|fR<|hr H) fun H=>vK<|fQ<|jN r (fun(_:Unit)=>Z [] []) (u256J0) (fun _ H=>?_) (fun _ n0 e0 t0=>?_)
 ·refine iA [4]<|vTT<|hr H
 refine iA [0,1,5]<|vB<|lX (fun(v1:Int)=>Z [p 0 (L y291 a0),p 1 (C a1),p 5 (I v1)] []) 0 H fun _ g1 b1 e1 t1 v1 H=>vQ<|iA [0,1,5,12]<|cD H (fun H=>?_) (fun H=>?_)
 ·refine vK<|fQ<|vQ<|vB<|iD o286 [0,1,5,6,7] H fun _ H=>iA [0,1,5,32]<|cD H (fun H=>iA [4]<|vTT<|fDD<|fR<|t1<|fDD<|t0<|hr H) fun H=>vK<|fK<|fQ<|jB [0,1,5] H fun H=>b1 H
 exact vE<|fE<|e1<|fX rfl<|n0 H
def u212J1(v0:Y170)(a1:Y243)(a0:Y115):Bool->Option Bool
 | v2 =>
 if v2 then
  gd (((v0.2.2.2&&decide (a1.2.2.1 < (a0.2.2.1.length:Int)-1))=true/\True->ix a1.2.2.1 a0.2.2.1.length)/\((v0.2.2.2&&decide (a1.2.2.1 < (a0.2.2.1.length:Int)-1)&&!(a0.2.2.1.getD a1.2.2.1.toNat (dflt y170)).2.2.2&&a1.2.2.2.1==0)=true/\True->(u256 a1.2.2.2.2.1 false).isSome)/\True) <|
  some (v0.2.2.2&&decide (a1.2.2.1 < (a0.2.2.1.length:Int)-1)&&!(a0.2.2.1.getD a1.2.2.1.toNat (dflt y170)).2.2.2&&a1.2.2.2.1==0&&vl (u256 a1.2.2.2.2.1 false)&&(a1.2.2.2.2.2.length:Int)==0)
 else
  some false
def u212J0(v0:Y170)(a1:Y243)(a0:Y115):Bool->Option Bool
 | v1 =>
 if v1 then
  gd (((v0.2.2.2&&a1.2.2.1==(a0.2.2.1.length:Int)-1&&a1.2.2.2.1==0)=true/\True->(u256 a1.2.2.2.2.1 true).isSome)/\((v0.2.2.2&&a1.2.2.1==(a0.2.2.1.length:Int)-1&&a1.2.2.2.1==0&&vl (u256 a1.2.2.2.2.1 true))=true/\True->(u256 a1.2.2.2.2.2 true).isSome)/\True) <|
  some (v0.2.2.2&&a1.2.2.1==(a0.2.2.1.length:Int)-1&&a1.2.2.2.1==0&&vl (u256 a1.2.2.2.2.1 true)&&vl (u256 a1.2.2.2.2.2 true))
 else
  if(a1.1==4) then
   u212J1 v0 a1 a0 (a1.1==4)
  else
   u212J1 v0 a1 a0 (a1.1==5)
def u212(a0:Y115)(a1:Y243):Option Bool :=
 gd (in64 ((a0.2.2.1.length:Int)-1)/\True) <|
 gd (in64 ((a0.2.2.1.length:Int)-1-1)/\(u105 a1.2.1 0 ((a0.2.2.1.length:Int)-1-1)).isSome/\((!vl (u105 a1.2.1 0 ((a0.2.2.1.length:Int)-1-1)))=false/\True->(u105 a1.2.2.1 0 ((a0.2.2.1.length:Int)-1)).isSome)/\True) <|
 if(!vl (u105 a1.2.1 0 ((a0.2.2.1.length:Int)-1-1))||!vl (u105 a1.2.2.1 0 ((a0.2.2.1.length:Int)-1))) then
  some false
 else
  gd (ix a1.2.1 a0.2.2.1.length/\True)<|lt (a0.2.2.1.getD a1.2.1.toNat (dflt y170)) fun v0 =>
  if(a1.1==1) then
   gd (((!v0.2.2.2&&a1.2.2.1==(a0.2.2.1.length:Int)-1)=true/\True->(u105 a1.2.2.2.1 1 3).isSome)/\((!v0.2.2.2&&a1.2.2.1==(a0.2.2.1.length:Int)-1&&vl (u105 a1.2.2.2.1 1 3))=true/\True->(u256 a1.2.2.2.2.1 true).isSome)/\((!v0.2.2.2&&a1.2.2.1==(a0.2.2.1.length:Int)-1&&vl (u105 a1.2.2.2.1 1 3)&&vl (u256 a1.2.2.2.2.1 true))=true/\True->(u256 a1.2.2.2.2.2 true).isSome)/\True) <|
   some (!v0.2.2.2&&a1.2.2.1==(a0.2.2.1.length:Int)-1&&vl (u105 a1.2.2.2.1 1 3)&&vl (u256 a1.2.2.2.2.1 true)&&vl (u256 a1.2.2.2.2.2 true))
  else
   if(a1.1==2) then
    u212J0 v0 a1 a0 (a1.1==2)
   else
    u212J0 v0 a1 a0 (a1.1==3)
def k212:Ct:=lct 212 [.agg y115,.agg y243] (fun x=>u212 x.1 x.2.1) (fun r:Bool=>B r) (fun _=>())
theorem o212:Ok prog k212:=by
 refine okM [.tmp 4] func212 ?_;intro y ⟨a0,a1,_⟩ r H Q hn hr;have:=hz (tc o256 (tc o105 tn));refine iA [2,3]<|iB [2,3,5] H fun H=>vQ<|iB [2,3,5,23] H fun H=>cD H (fun H=>iA [4]<|vTT<|fR<|hr H) fun H=>vK<|fQ<|qD (fun v0=>Z (G0 [p 5 (I ((a0.2.2.1.length:Int)-1)),p 6 (C v0.2.2.2)]) [(3,K 243 y243 a1),(2,K 115 y115 a0)]) H fun v0 H=>vQ<|iA [2,3,5,6,32]<|vB<|iA [2,3,5,6,32,33]<|cD H (fun H=>iB [4] H fun H=>vTT<|fDD<|fR<|hr H) fun H=>jN r (fun(v1:Bool)=>Z (G0 [p 5 (I ((a0.2.2.1.length:Int)-1)),p 6 (C v0.2.2.2),p 32 (J a1.1),p 58 (B v1)]) [(3,K 243 y243 a1),(2,K 115 y115 a0)]) (u212J0 v0 a1 a0) (fun v1 H=>?_) (fun _ n0 e0 t0=>?_)
 ·refine cD H (fun H=>iB [4] H fun H=>vTT<|fDD<|fR<|hr H) fun H=>jN r (fun(v2:Bool)=>Z (G0 [p 5 (I ((a0.2.2.1.length:Int)-1)),p 6 (C v0.2.2.2),p 83 (B v2)]) [(3,K 243 y243 a1),(2,K 115 y115 a0)]) (u212J1 v0 a1 a0) (fun v2 H=>?_) (fun _ n1 e1 t1=>?_)
  ·refine cD H (fun H=>iB [4] H fun H=>vTT<|fDD<|fR<|hr H) fun H=>vK<|fK<|fQ<|iA [4]<|vTT<|hr H
  refine iA [2,3,5,6,32,83]<|cD H (fun H=>vK<|n1 H) fun H=>jA [2,3,5,6,83]<|n1 H
 refine iA [2,3,5,6,32,58]<|cD H (fun H=>vK<|n0 H) fun H=>jA [2,3,5,6,32,58]<|n0 H
def u211J0:Int->Option (Int×Bool)
 | v8 =>
 some (v8,true)
def u211J2(v4:Int)(g1:Int×Int->Option (Int×Bool)):Int->Option (Int×Bool)
 | v7 =>
 gd (in64 (v4+1)/\True) <|
 g1 (v7,v4+1)
def u211J3(v4:Int)(v3:Int)(v5:Y170)(a0:Y115)(g1:Int×Int->Option (Int×Bool)):Unit->Option (Int×Bool)
 | _ =>
 gd ((u108 v5.1).isSome/\((!vl (u108 v5.1))=false/\True->(u105 v5.2.2.1 0 500).isSome)/\True) <|
 if(!vl (u108 v5.1)||!vl (u105 v5.2.2.1 0 500)) then
  some (((0:Int),false))
 else
  gd (in64 ((a0.2.2.1.length:Int)-1)/\((v4==(a0.2.2.1.length:Int)-1&&(v5.2.1 != 2||v5.2.2.1 != 0||v5.2.2.2))=false/\True->in64 ((a0.2.2.1.length:Int)-1))/\True) <|
  if(v4==(a0.2.2.1.length:Int)-1&&(v5.2.1 != 2||v5.2.2.1 != 0||v5.2.2.2)||decide (v4 < (a0.2.2.1.length:Int)-1)&&v5.2.1 != 1) then
   some (((0:Int),false))
  else
   if v5.2.2.2 then
    gd (in64 (v3+1)/\True) <|
    u211J2 v4 g1 (v3+1)
   else
    u211J2 v4 g1 v3
def u211L4(a0:Y115)(v5:Y170)(v4:Int)(v3:Int)(g1:Int×Int->Option (Int×Bool))(g4:Int->Option (Int×Bool)):Int->Option (Int×Bool)
 | v6 =>
 if(decide (v6<v4)) then
  gd (ix v6 a0.2.2.1.length/\True) <|
  if(decide ((a0.2.2.1.getD v6.toNat (dflt y170)).1=v5.1)) then
   some (((0:Int),false))
  else
   gd (in64 (v6+1)/\True) <|
   g4 (v6+1)
 else
  u211J3 v4 v3 v5 a0 g1 ()
def u211L1(a0:Y115)(g1:Int×Int->Option (Int×Bool)):Int×Int->Option (Int×Bool)
 | (v3,v4) =>
 if(decide (v4 < (a0.2.2.1.length:Int))) then
  gd (ix v4 a0.2.2.1.length/\True)<|lt (a0.2.2.1.getD v4.toNat (dflt y170)) fun v5 =>
  lp (u211L4 a0 v5 v4 v3 g1) 0
 else
  u211J0 v3
def u211(a0:Y115):Option (Int×Bool) :=
 if(decide ((a0.2.2.1.length:Int)<2)||decide (5 < (a0.2.2.1.length:Int))) then
  some (((0:Int),false))
 else
  lp (u211L1 a0) (0,0)
def k211:Ct:=lct 211 [.agg y115] (fun x=>u211 x.1) (fun r:Int×Bool=>AV.tup [I r.1,B r.2]) (fun _=>())
theorem o211:Ok prog k211:=by
 refine okM [.tmp 2,.tmp 3] func211 ?_;intro y ⟨a0,_⟩ r H Q hn hr;have:=hz (tc o105 (tc o108 tn));refine iA [1]<|iA [1,4]<|vQ<|iA [1,4,17]<|cD H (fun H=>iA [2,3]<|vTT<|fR<|hr H) fun H=>vK<|fQ<|iA [1,4,5]<|jN r (fun(v8:Int)=>Z [p 5 (I v8)] []) (u211J0) (fun v8 H=>?_) (fun _ n0 e0 t0=>?_)
 ·refine iA [2,3]<|vTT<|hr H
 refine iA [1,4,5,6]<|vB<|lX (fun((v3,v4):Int×Int)=>Z [p 1 (R 1),p 4 (I (a0.2.2.1.length:Int)),p 5 (I v3),p 6 (I v4)] [(1,K 115 y115 a0)]) (0,0) H fun _ g1 b1 e1 t1 ⟨v3,v4⟩ H=>vQ<|iA [1,4,5,6,20]<|cD H (fun H=>?_) (fun H=>?_)
 ·refine vK<|fQ<|jN r (fun(v7:Int)=>Z [p 1 (R 1),p 4 (I (a0.2.2.1.length:Int)),p 5 (I v7),p 6 (I v4)] [(1,K 115 y115 a0)]) (u211J2 v4 g1) (fun v7 H=>?_) (fun _ n2 e2 t2=>?_)
  ·refine jB [1,4,5,6] H fun H=>b1 H
  refine vB<|qD (fun v5=>Z [p 1 (R 1),p 4 (I (a0.2.2.1.length:Int)),p 5 (I v3),p 6 (I v4),p 7 (R 7)] [(7,K 170 y170 v5),(1,K 115 y115 a0)]) H fun v5 H=>jN r (fun(_:Unit)=>Z [p 1 (R 1),p 4 (I (a0.2.2.1.length:Int)),p 5 (I v3),p 6 (I v4),p 7 (R 7)] [(7,K 170 y170 v5),(1,K 115 y115 a0)]) (u211J3 v4 v3 v5 a0 g1) (fun _ H=>?_) (fun _ n3 e3 t3=>?_)
  ·refine vQ<|iB [1,4,5,6,7,51] H fun H=>cD H (fun H=>iA [2,3]<|vTT<|fR<|fDD<|t2<|t1<|fDD<|t0<|hr H) fun H=>vK<|fQ<|vQ<|iB [1,4,5,6,7,80] H fun H=>cD H (fun H=>iA [2,3]<|vTT<|fR<|fDD<|t2<|t1<|fDD<|t0<|hr H) fun H=>vK<|fQ<|iA [1,4,5,6,82]<|cD H (fun H=>jB [1,4,5,6] H fun H=>fK<|n2 H) fun H=>vK<|fK<|n2 H
  refine iA [1,4,5,6,7,8]<|vB<|lX (fun(v6:Int)=>Z [p 1 (R 1),p 4 (I (a0.2.2.1.length:Int)),p 5 (I v3),p 6 (I v4),p 7 (R 7),p 8 (I v6)] [(7,K 170 y170 v5),(1,K 115 y115 a0)]) 0 H fun _ g4 b4 e4 t4 v6 H=>vQ<|iA [1,4,5,6,7,8,30]<|cD H (fun H=>?_) (fun H=>?_)
  ·refine vK<|fQ<|vQ<|vB<|iB [1,4,5,6,7,8,41] H fun H=>cD H (fun H=>iA [2,3]<|vTT<|fDD<|fR<|t4<|fDD<|t3<|fDD<|t2<|t1<|fDD<|t0<|hr H) fun H=>vK<|fK<|fQ<|jB [1,4,5,6,7,8] H fun H=>b4 H
  exact vE<|fE<|e4<|fX rfl<|n3 H
 exact vE<|fE<|e1<|fX rfl<|n0 H
def u172J4:Unit->Option Bool
 | _ =>
 some false
def u172J5(v0:Int×Bool)(a0:Y115):Unit->Option Bool
 | _ =>
 gd (((v0.1==(0:Int))=true/\True->in64 ((a0.2.2.1.length:Int)-(1:Int)))/\((v0.1==(0:Int))=true/\True->(0:Int)<=(a0.2.2.1.length:Int)-(1:Int)/\(a0.2.2.1.length:Int)-(1:Int)<=(18446744073709551615:Int))/\((v0.1==(0:Int))=true/\True->((0:Int)<=(a0.2.2.1.length:Int)-(1:Int)/\(a0.2.2.1.length:Int)-(1:Int)<=(62:Int))/\in64 ((1:Int)*(2:Int) ^ ((a0.2.2.1.length:Int)-(1:Int)).toNat))/\True) <|
 some (v0.1==(0:Int)&&(a0.2.2.2.2.1.length:Int)==(1:Int)*(2:den i64) ^ ((a0.2.2.1.length:Int)-(1:Int)).toNat)
def u172L6(a0:Y115)(v0:Int×Bool)(g6:Int->Option Bool):Int->Option Bool
 | v7 =>
 if(decide (v7 < (a0.2.2.2.2.1.length:Int))) then
  gd (ix v7 a0.2.2.2.2.1.length/\(u105 (a0.2.2.2.2.1.getD v7.toNat 0) 0 1).isSome/\True) <|
  if(!vl (u105 (a0.2.2.2.2.1.getD v7.toNat 0) 0 1)) then
   some false
  else
   gd (in64 (v7+1)/\True) <|
   g6 (v7+1)
 else
  u172J5 v0 a0 ()
def u172J0(a0:Y115)(v0:Int×Bool):Unit->Option Bool
 | _ =>
 gd ((u213 a0).isSome/\True)<|lt (vl (u213 a0)) fun v6 =>
 if(a0.2.1==1) then
  lp (u172L6 a0 v0) 0
 else
  if(a0.2.1==2) then
   gd (((v0.1==(1:Int))=true/\True->ix (1:Int) v6.length)/\((v0.1==(1:Int))=true/\True->Int.toNat (1:Int)<v6.length)/\((v0.1==(1:Int)&&v6.getD (Int.toNat (1:Int)) (0:Int)==(0:Int))=true/\True->ix (2:Int) v6.length)/\((v0.1==(1:Int)&&v6.getD (Int.toNat (1:Int)) (0:Int)==(0:Int))=true/\True->Int.toNat (2:Int)<v6.length)/\((v0.1==(1:Int)&&v6.getD (Int.toNat (1:Int)) (0:Int)==(0:Int))=true/\True->ix (3:Int) v6.length)/\((v0.1==(1:Int)&&v6.getD (Int.toNat (1:Int)) (0:Int)==(0:Int))=true/\True->Int.toNat (3:Int)<v6.length)/\True) <|
   some (v0.1==(1:Int)&&v6.getD (Int.toNat (1:Int)) (0:Int)==(0:Int)&&!decide ((0:Int)<v6.getD (Int.toNat (2:Int)) (0:Int))==decide ((0:Int)<v6.getD (Int.toNat (3:Int)) (0:Int))&&(a0.2.2.2.2.1.length:Int)==(0:Int))
  else
   if(a0.2.1==3) then
    gd (((v0.1==(1:Int))=true/\True->ix (1:Int) v6.length)/\((v0.1==(1:Int))=true/\True->Int.toNat (1:Int)<v6.length)/\((v0.1==(1:Int)&&decide ((0:Int)<v6.getD (Int.toNat (1:Int)) (0:Int)))=true/\True->ix (2:Int) v6.length)/\((v0.1==(1:Int)&&decide ((0:Int)<v6.getD (Int.toNat (1:Int)) (0:Int)))=true/\True->Int.toNat (2:Int)<v6.length)/\((v0.1==(1:Int)&&decide ((0:Int)<v6.getD (Int.toNat (1:Int)) (0:Int))&&decide ((0:Int)<v6.getD (Int.toNat (2:Int)) (0:Int)))=true/\True->ix (3:Int) v6.length)/\((v0.1==(1:Int)&&decide ((0:Int)<v6.getD (Int.toNat (1:Int)) (0:Int))&&decide ((0:Int)<v6.getD (Int.toNat (2:Int)) (0:Int)))=true/\True->Int.toNat (3:Int)<v6.length)/\True) <|
    some (v0.1==(1:Int)&&decide ((0:Int)<v6.getD (Int.toNat (1:Int)) (0:Int))&&decide ((0:Int)<v6.getD (Int.toNat (2:Int)) (0:Int))&&v6.getD (Int.toNat (3:Int)) (0:Int)==(0:Int)&&(a0.2.2.2.2.1.length:Int)==(0:Int))
   else
    u172J4 ()
def u172J2(v3:Int)(g1:Int->Option Bool):Unit->Option Bool
 | _ =>
 gd (in64 (v3+1)/\True) <|
 g1 (v3+1)
def u172L3(a0:Y115)(v4:Y243)(v3:Int)(g1:Int->Option Bool)(g3:Int->Option Bool):Int->Option Bool
 | v5 =>
 if(decide (v5<v3)) then
  gd (ix v5 a0.2.2.2.1.length/\(((a0.2.2.2.1.getD v5.toNat (dflt y243)).1==v4.1)=true/\True->ix v5 a0.2.2.2.1.length)/\(((a0.2.2.2.1.getD v5.toNat (dflt y243)).1==v4.1&&(a0.2.2.2.1.getD v5.toNat (dflt y243)).2.1==v4.2.1)=true/\True->ix v5 a0.2.2.2.1.length)/\True) <|
  if((a0.2.2.2.1.getD v5.toNat (dflt y243)).1==v4.1&&(a0.2.2.2.1.getD v5.toNat (dflt y243)).2.1==v4.2.1&&(a0.2.2.2.1.getD v5.toNat (dflt y243)).2.2.1==v4.2.2.1) then
   some false
  else
   gd (in64 (v5+1)/\True) <|
   g3 (v5+1)
 else
  u172J2 v3 g1 ()
def u172L1(a0:Y115)(v0:Int×Bool)(g1:Int->Option Bool):Int->Option Bool
 | v3 =>
 if(decide (v3 < (a0.2.2.2.1.length:Int))) then
  gd (ix v3 a0.2.2.2.1.length/\True)<|lt (a0.2.2.2.1.getD v3.toNat (dflt y243)) fun v4 =>
  gd ((u212 a0 v4).isSome/\True) <|
  if(!vl (u212 a0 v4)) then
   some false
  else
   lp (u172L3 a0 v4 v3 g1) 0
 else
  u172J0 a0 v0 ()
def u172(a0:Y115):Option Bool :=
 gd ((u211 a0).isSome/\True)<|lt (vl (u211 a0)) fun v0 =>
 gd (((!v0.2)=false/\True->(u108 a0.1).isSome)/\((!v0.2||!vl (u108 a0.1)||decide (8 < (a0.2.2.2.1.length:Int)))=false/\True->(u105 a0.2.2.2.2.2.1 0 100000).isSome)/\((!v0.2||!vl (u108 a0.1)||decide (8 < (a0.2.2.2.1.length:Int))||!vl (u105 a0.2.2.2.2.2.1 0 100000))=false/\True->(u105 a0.2.2.2.2.2.2 0 100000).isSome)/\True) <|
 if(!v0.2||!vl (u108 a0.1)||decide (8 < (a0.2.2.2.1.length:Int))||!vl (u105 a0.2.2.2.2.2.1 0 100000)||!vl (u105 a0.2.2.2.2.2.2 0 100000)) then
  some false
 else
  lp (u172L1 a0 v0) 0
def k172:Ct:=lct 172 [.agg y115] (fun x=>u172 x.1) (fun r:Bool=>B r) (fun _=>())
theorem o172:Ok prog k172:=by
 refine okM [.tmp 2] func172 ?_;intro y ⟨a0,_⟩ r H Q hn hr;have:=hz (tc o105 (tc o213 (tc o212 (tc o108 (tc o211 tn)))));refine iA [1]<|iD o211 [1,3,4] H fun v0 H=>vQ<|iB [1,3,40] H fun H=>cD H (fun H=>iA [2]<|vTT<|fR<|hr H) fun H=>vK<|fQ<|jN r (fun(_:Unit)=>Z (G2 v0.1 []) [(1,K 115 y115 a0)]) (u172J0 a0 v0) (fun _ H=>?_) (fun _ n0 e0 t0=>?_)
 ·refine iD o213 [1,3,8] H fun _ H=>jN r (fun(_:Unit)=>Z [] []) (u172J4) (fun _ H=>?_) (fun _ n4 e4 t4=>?_)
  ·refine iA [2]<|vTT<|hr H
  refine iA [1,3,8,96]<|vB<|iA [1,3,8,96,97]<|cD H (fun H=>?_) (fun H=>?_)
  ·refine jN r (fun(_:Unit)=>Z (G2 v0.1 []) [(1,K 115 y115 a0)]) (u172J5 v0 a0) (fun _ H=>?_) (fun _ n5 e5 t5=>?_)
   ·refine iB [2] H fun H=>vTT<|fDD<|t4<|hr H
   refine iA [1,3,9]<|vB<|lX (fun(v7:Int)=>Z (G2 v0.1 [p 9 (I v7)]) [(1,K 115 y115 a0)]) 0 H fun _ g6 b6 e6 t6 v7 H=>vQ<|iA [1,3,9,103]<|cD H (fun H=>?_) (fun H=>?_)
   ·refine vK<|fQ<|vQ<|vB<|iB [1,3,9,112] H fun H=>cD H (fun H=>iA [2]<|vTT<|fDD<|fR<|t6<|fDD<|t5<|fDD<|t4<|hr H) fun H=>vK<|fK<|fQ<|jB [1,3,9] H fun H=>b6 H
   exact vE<|fE<|e6<|fX rfl<|n5 H
  refine iA [1,3,8,96,127]<|cD H (fun H=>iB [2] H fun H=>vTT<|fDD<|t4<|hr H) fun H=>iA [1,3,8,154]<|cD H (fun H=>iB [2] H fun H=>vTT<|fDD<|t4<|hr H) fun H=>vK<|fK<|n4 H
 refine iA [1,3,5]<|vB<|lX (fun(v3:Int)=>Z (G2 v0.1 [p 5 (I v3)]) [(1,K 115 y115 a0)]) 0 H fun _ g1 b1 e1 t1 v3 H=>vQ<|iA [1,3,5,45]<|cD H (fun H=>?_) (fun H=>?_)
 ·refine vK<|fQ<|jN r (fun(_:Unit)=>Z (G2 v0.1 [p 5 (I v3)]) [(1,K 115 y115 a0)]) (u172J2 v3 g1) (fun _ H=>?_) (fun _ n2 e2 t2=>?_)
  ·refine jB [1,3,5] H fun H=>b1 H
  refine vB<|qD (fun v4=>Z (G2 v0.1 [p 5 (I v3),p 6 (R 6)]) [(6,K 243 y243 v4),(1,K 115 y115 a0)]) H fun v4 H=>vQ<|iB [1,3,5,6,56] H fun H=>cD H (fun H=>iA [2]<|vTT<|fR<|fDD<|t2<|t1<|fDD<|t0<|hr H) fun H=>vK<|fQ<|iA [1,3,5,6,7]<|vB<|lX (fun(v5:Int)=>Z (G2 v0.1 [p 5 (I v3),p 6 (R 6),p 7 (I v5)]) [(6,K 243 y243 v4),(1,K 115 y115 a0)]) 0 H fun _ g3 b3 e3 t3 v5 H=>vQ<|iA [1,3,5,6,7,59]<|cD H (fun H=>?_) (fun H=>?_)
  ·refine vK<|fQ<|vQ<|vB<|iB [1,3,5,6,7,92] H fun H=>cD H (fun H=>iA [2]<|vTT<|fDD<|fR<|t3<|fDD<|fDD<|t2<|t1<|fDD<|t0<|hr H) fun H=>vK<|fK<|fQ<|jB [1,3,5,6,7] H fun H=>b3 H
  exact vE<|fE<|e3<|fX rfl<|fK<|n2 H
 exact vE<|fE<|e1<|fX rfl<|n0 H
def u115J0(a0:List Y115):Unit->Option Bool
 | _ =>
 some (decide ((a0.length:Int)<=8))
def u115J2(v1:Int)(g1:Int->Option Bool):Unit->Option Bool
 | _ =>
 gd (in64 (v1+1)/\True) <|
 g1 (v1+1)
def u115L3(a0:List Y115)(v1:Int)(g1:Int->Option Bool)(g3:Int->Option Bool):Int->Option Bool
 | v2 =>
 if(decide (v2<v1)) then
  gd (ix v2 a0.length/\ix v1 a0.length/\True) <|
  if(decide ((a0.getD v2.toNat (dflt y115)).1=(a0.getD v1.toNat (dflt y115)).1)) then
   some false
  else
   gd (in64 (v2+1)/\True) <|
   g3 (v2+1)
 else
  u115J2 v1 g1 ()
def u115L1(a0:List Y115)(g1:Int->Option Bool):Int->Option Bool
 | v1 =>
 if(decide (v1 < (a0.length:Int))) then
  gd (ix v1 a0.length/\(u172 (a0.getD v1.toNat (dflt y115))).isSome/\True) <|
  if(!vl (u172 (a0.getD v1.toNat (dflt y115)))) then
   some false
  else
   lp (u115L3 a0 v1 g1) 0
 else
  u115J0 a0 ()
def u115(a0:List Y115):Option Bool :=
 lp (u115L1 a0) 0
def k115:Ct:=lct 115 [.agg y115.sl] (fun x=>u115 x.1) (fun r:Bool=>B r) (fun _=>())
theorem o115:Ok prog k115:=by
 refine okM [.tmp 2] func115 ?_;intro y ⟨a0,_⟩ r H Q hn hr;have:=hz (tc o172 tn);refine iA [1]<|jN r (fun(_:Unit)=>Z [p 1 (R 1)] [(1,bx 43 [L y115 a0])]) (u115J0 a0) (fun _ H=>?_) (fun _ n0 e0 t0=>?_)
 ·refine iA [2]<|vTT<|hr H
 refine iA [1,3]<|vB<|lX (fun(v1:Int)=>Z (G2 v1 []) [(1,bx 43 [L y115 a0])]) 0 H fun _ g1 b1 e1 t1 v1 H=>vQ<|iA [1,3,9]<|cD H (fun H=>?_) (fun H=>?_)
 ·refine vK<|fQ<|jN r (fun(_:Unit)=>Z (G2 v1 []) [(1,bx 43 [L y115 a0])]) (u115J2 v1 g1) (fun _ H=>?_) (fun _ n2 e2 t2=>?_)
  ·refine jB [1,3] H fun H=>b1 H
  refine vB<|vQ<|iB [1,3,18] H fun H=>cD H (fun H=>iA [2]<|vTT<|fR<|fDD<|t2<|t1<|fDD<|t0<|hr H) fun H=>vK<|fQ<|iA [1,3,4]<|vB<|lX (fun(v2:Int)=>Z (G2 v1 [p 4 (I v2)]) [(1,bx 43 [L y115 a0])]) 0 H fun _ g3 b3 e3 t3 v2 H=>vQ<|iA [1,3,4,21]<|cD H (fun H=>?_) (fun H=>?_)
  ·refine vK<|fQ<|vQ<|vB<|iB [1,3,4,36] H fun H=>cD H (fun H=>iA [2]<|vTT<|fDD<|fR<|t3<|fDD<|fDD<|t2<|t1<|fDD<|t0<|hr H) fun H=>vK<|fK<|fQ<|jB [1,3,4] H fun H=>b3 H
  exact vE<|fE<|e3<|fX rfl<|fK<|n2 H
 exact vE<|fE<|e1<|fX rfl<|n0 H
def u55J9:Unit->Option Bool
 | _ =>
 some true
def u55L10(v20:List Int)(g10:Int->Option Bool):Int->Option Bool
 | v21 =>
 if(decide (v21 < (v20.length:Int))) then
  gd (ix v21 v20.length/\v21.toNat<v20.length/\True) <|
  if(v20.getD v21.toNat 0 != 1) then
   some false
  else
   gd (in64 (v21+1)/\True) <|
   g10 (v21+1)
 else
  u55J9 ()
def u55J6:List Int->Option Bool
 | v20 =>
 lp (u55L10 v20) 0
def u55J8(v16:Int)(g7:Int×List Int->Option Bool):List Int->Option Bool
 | v19 =>
 gd (in64 (v16+1)/\True) <|
 g7 (v16+1,v19)
def u55L7(a1:Y47)(g7:Int×List Int->Option Bool):Int×List Int->Option Bool
 | (v16,v17) =>
 if(decide (v16 < (a1.2.2.length:Int))) then
  gd (ix v16 a1.2.2.length/\True) <|
  if((a1.2.2.getD v16.toNat (dflt y166)).2.1==1) then
   gd (ix v16 a1.2.2.length/\ix (a1.2.2.getD v16.toNat (dflt y166)).2.2 v17.length/\(a1.2.2.getD v16.toNat (dflt y166)).2.2.toNat<v17.length/\in64 (v17.getD (a1.2.2.getD v16.toNat (dflt y166)).2.2.toNat 0+1)/\ix (a1.2.2.getD v16.toNat (dflt y166)).2.2 v17.length/\(a1.2.2.getD v16.toNat (dflt y166)).2.2.toNat<v17.length/\True)<|lt (v17.set (a1.2.2.getD v16.toNat (dflt y166)).2.2.toNat (v17.getD (a1.2.2.getD v16.toNat (dflt y166)).2.2.toNat 0+1)) fun v18 =>
   u55J8 v16 g7 v18
  else
   u55J8 v16 g7 v17
 else
  u55J6 v17
def u55J4(a1:Y47):List Int->Option Bool
 | v13 =>
 lp (u55L7 a1) (0,v13)
def u55L5(a1:Y47)(g5:Int×List Int->Option Bool):Int×List Int->Option Bool
 | (v9,v10) =>
 if(decide (v9 < (a1.1.length:Int))) then
  gd (ix v9 a1.1.length/\True)<|lt (a1.1.getD v9.toNat (dflt y152)) fun v11 =>
  gd (in64 ((v11.2.2.length:Int)-1)/\ix ((v11.2.2.length:Int)-1) v11.2.2.length/\ix (v11.2.2.getD ((v11.2.2.length:Int)-1).toNat 0) v10.length/\Int.toNat (v11.2.2.getD ((v11.2.2.length:Int)-1).toNat 0)<v10.length/\in64 (v10.getD (Int.toNat (v11.2.2.getD ((v11.2.2.length:Int)-1).toNat 0)) 0+1)/\ix (v11.2.2.getD ((v11.2.2.length:Int)-1).toNat 0) v10.length/\Int.toNat (v11.2.2.getD ((v11.2.2.length:Int)-1).toNat 0)<v10.length/\True)<|lt (v10.set (Int.toNat (v11.2.2.getD ((v11.2.2.length:Int)-1).toNat 0)) (v10.getD (Int.toNat (v11.2.2.getD ((v11.2.2.length:Int)-1).toNat 0)) 0+1)) fun v12 =>
  gd (in64 (v9+1)/\True) <|
  g5 (v9+1,v12)
 else
  u55J4 a1 v10
def u55J2(a1:Y47)(v2:List ByteArray):List ByteArray->Option Bool
 | v6 =>
 gd ((u117 v2).isSome/\((!vl (u117 v2))=false/\True->(u117 v6).isSome)/\((!vl (u117 v2)||!vl (u117 v6))=false/\True->(u117 a1.2.1).isSome)/\True) <|
 if(!vl (u117 v2)||!vl (u117 v6)||!vl (u117 a1.2.1)) then
  some false
 else
  gd ((0<=(a1.2.1.length:Int)/\(a1.2.1.length:Int)=(a1.2.1.length:Int)/\(a1.2.1.length:Int).toNat*8<=281474976710656/\(a1.2.1.length:Int)<=9223372036854775807)/\True) <|
  lp (u55L5 a1) ((0,List.replicate (a1.2.1.length:Int).toNat 0))
def u55L3(a1:Y47)(v2:List ByteArray)(g3:Int×List ByteArray->Option Bool):Int×List ByteArray->Option Bool
 | (v4,v5) =>
 if(decide (v4 < (a1.2.2.length:Int))) then
  gd (ix v4 a1.2.2.length/\(v5.length+[(a1.2.2.getD v4.toNat (dflt y166)).1].length<=9223372036854775807/\(v5.length+[(a1.2.2.getD v4.toNat (dflt y166)).1].length)*16<=140737488355328)/\True) <|
  gd (in64 (v4+1)/\True) <|
  g3 ((v4+1,v5++[(a1.2.2.getD v4.toNat (dflt y166)).1]))
 else
  u55J2 a1 v2 v5
def u55J0(a1:Y47):List ByteArray->Option Bool
 | v2 =>
 lp (u55L3 a1 v2) (0,[])
def u55L1(a1:Y47)(g1:Int×List ByteArray->Option Bool):Int×List ByteArray->Option Bool
 | (v0,v1) =>
 if(decide (v0 < (a1.1.length:Int))) then
  gd (ix v0 a1.1.length/\(v1.length+[(a1.1.getD v0.toNat (dflt y152)).1].length<=9223372036854775807/\(v1.length+[(a1.1.getD v0.toNat (dflt y152)).1].length)*16<=140737488355328)/\True) <|
  gd (in64 (v0+1)/\True) <|
  g1 ((v0+1,v1++[(a1.1.getD v0.toNat (dflt y152)).1]))
 else
  u55J0 a1 v1
def u55(a0:List Y115)(a1:Y47):Option Bool :=
 gd ((u115 a0).isSome/\((!vl (u115 a0)||decide (14 < (a1.1.length:Int))||decide (30 < (a1.2.1.length:Int))||decide (8 < (a1.2.2.length:Int)))=false/\True->(u116 a0 a1).isSome)/\True) <|
 if(!vl (u115 a0)||decide (14 < (a1.1.length:Int))||decide (30 < (a1.2.1.length:Int))||decide (8 < (a1.2.2.length:Int))||!vl (u116 a0 a1)) then
  some false
 else
  lp (u55L1 a1) (0,[])
def k55:Ct:=lct 55 [.agg y115.sl,.agg y47] (fun x=>u55 x.1 x.2.1) (fun r:Bool=>B r) (fun _=>())
theorem o55:Ok prog k55:=by
 refine okM [.tmp 4] func55 ?_;intro y ⟨_,a1,_⟩ r H Q hn hr;have:=hz (tc o117 (tc o116 (tc o115 tn)));refine iA [2,3]<|vQ<|iB [3,40] H fun H=>cD H (fun H=>iA [4]<|vTT<|fR<|hr H) fun H=>vK<|fQ<|iA [3,5]<|jN r (fun(v2:List ByteArray)=>Z [p 3 (R 3),p 5 (O 41)] [(41,A 9 Ty.str v2 0),(3,K 47 y47 a1)]) (u55J0 a1) (fun v2 H=>?_) (fun _ n0 e0 t0=>?_)
 ·refine iA [3,5,7]<|jN r (fun(v6:List ByteArray)=>Z [p 3 (R 3),p 5 (O 41),p 7 (O 58)] [(58,A 9 Ty.str v6 0),(41,A 9 Ty.str v2 0),(3,K 47 y47 a1)]) (u55J2 a1 v2) (fun v6 H=>?_) (fun _ n2 e2 t2=>?_)
  ·refine vQ<|iB [3,88] H fun H=>cD H (fun H=>iA [4]<|vTT<|fR<|hr H) fun H=>vK<|fQ<|iB [3,9] H fun H=>jN r (fun(v13:List Int)=>Z [p 3 (R 3),p 9 (O 92)] (W6 v13 a1)) (u55J4 a1) (fun v13 H=>?_) (fun _ n4 e4 t4=>?_)
   ·refine jN r (fun(v20:List Int)=>Z [p 9 (O 92)] [(92,A 2 i64 v20 0)]) (u55J6) (fun v20 H=>?_) (fun _ n6 e6 t6=>?_)
    ·refine jN r (fun(_:Unit)=>Z [] []) (u55J9) (fun _ H=>?_) (fun _ n9 e9 t9=>?_)
     ·refine iA [4]<|vTT<|hr H
     refine iA [9,13]<|vB<|lX (fun(v21:Int)=>Z [p 9 (O 92),p 13 (I v21)] [(92,A 2 i64 v20 0)]) 0 H fun _ g10 b10 e10 t10 v21 H=>vQ<|iA [9,13,145]<|cD H (fun H=>?_) (fun H=>?_)
     ·refine vK<|fQ<|vQ<|vB<|iB [9,13,152] H fun H=>cD H (fun H=>iA [4]<|vTT<|fDD<|fR<|t10<|fDD<|t9<|hr H) fun H=>vK<|fK<|fQ<|jB [9,13] H fun H=>b10 H
     exact vE<|fE<|e10<|fX rfl<|n9 H
    refine iA [3,9,12]<|vB<|lX (fun((v16,v17):Int×List Int)=>Z [p 3 (R 3),p 9 (O 92),p 12 (I v16)] (W6 v17 a1)) (0,v13) H fun _ g7 b7 e7 t7 ⟨v16,v17⟩ H=>vQ<|iA [3,9,12,121]<|cD H (fun H=>?_) (fun H=>?_)
    ·refine vK<|fQ<|jN r (fun(v19:List Int)=>Z [p 3 (R 3),p 9 (O 92),p 12 (I v16)] (W6 v19 a1)) (u55J8 v16 g7) (fun v19 H=>?_) (fun _ n8 e8 t8=>?_)
     ·refine jB [3,9,12] H fun H=>b7 H
     refine vB<|iB [3,9,12,130] H fun H=>cD H (fun H=>zD (fun v18=>Z [p 3 (R 3),p 9 (O 92),p 12 (I v16)] (W6 v18 a1)) H fun v18 H=>fK<|n8 H) fun H=>vK<|fK<|n8 H
    exact vE<|fE<|e7<|fX rfl<|n6 H
   refine iA [3,9,10]<|vB<|lX (fun((v9,v10):Int×List Int)=>Z [p 3 (R 3),p 9 (O 92),p 10 (I v9)] (W6 v10 a1)) ((0,List.replicate (a1.2.1.length:Int).toNat 0)) H fun _ g5 b5 e5 t5 ⟨v9,v10⟩ H=>vQ<|iA [3,9,10,97]<|cD H (fun H=>vK<|fQ<|vQ<|vB<|qD (fun v11=>Z [p 3 (R 3),p 9 (O 92),p 10 (I v9),p 11 (L i64 v11.2.2)] (W6 v10 a1)) H fun v11 H=>zD (fun v12=>Z [p 3 (R 3),p 9 (O 92),p 10 (I v9)] (W6 v12 a1)) H fun v12 H=>fK<|fQ<|jB [3,9,10] H fun H=>b5 H) fun H=>vE<|fE<|e5<|fX rfl<|n4 H
  refine iA [3,5,7,8]<|vB<|lX (fun((v4,v5):Int×List ByteArray)=>Z [p 3 (R 3),p 5 (O 41),p 7 (O 58),p 8 (I v4)] [(58,A 9 Ty.str v5 0),(41,A 9 Ty.str v2 0),(3,K 47 y47 a1)]) (0,[]) H fun _ g3 b3 e3 t3 ⟨v4,v5⟩ H=>vQ<|iA [3,5,7,8,63]<|cD H (fun H=>vK<|fQ<|vQ<|vB<|jB [3,5,7,8] H fun H=>fK<|fQ<|jB [3,5,7,8] H fun H=>b3 H) fun H=>vE<|fE<|e3<|fX rfl<|n2 H
 refine iA [3,5,6]<|vB<|lX (fun((v0,v1):Int×List ByteArray)=>Z [p 3 (R 3),p 5 (O 41),p 6 (I v0)] [(41,A 9 Ty.str v1 0),(3,K 47 y47 a1)]) (0,[]) H fun _ g1 b1 e1 t1 ⟨v0,v1⟩ H=>vQ<|iA [3,5,6,46]<|cD H (fun H=>vK<|fQ<|vQ<|vB<|jB [3,5,6] H fun H=>fK<|fQ<|jB [3,5,6] H fun H=>b1 H) fun H=>vE<|fE<|e1<|fX rfl<|n0 H
def u22J0:Unit->Option Bool
 | _ =>
 some true
def u22L1(a0:Y50)(g1:Int->Option Bool):Int->Option Bool
 | v1 =>
 if(decide (v1 < (a0.2.2.length:Int))) then
  gd (ix v1 a0.2.2.length/\(u57 a0.2.1 v1).isSome/\(u56 (a0.2.2.getD v1.toNat (dflt y36)) (↑(vl (u57 a0.2.1 v1)).length:Int)).isSome/\True)<|lt (vl (u57 a0.2.1 v1)) fun v2 =>
  if(!vl (u56 (a0.2.2.getD v1.toNat (dflt y36)) (v2.length:Int))) then
   some false
  else
   gd (in64 (v1+1)/\True) <|
   g1 (v1+1)
 else
  u22J0 ()
def u22(a0:Y50):Option Bool :=
 gd ((u55 a0.1 a0.2.1).isSome/\True) <|
 if(!vl (u55 a0.1 a0.2.1)||(a0.2.2.length:Int) != (a0.2.1.2.1.length:Int)) then
  some false
 else
  lp (u22L1 a0) 0
def k22:Ct:=lct 22 [.agg y50] (fun x=>u22 x.1) (fun r:Bool=>B r) (fun _=>())
theorem o22:Ok prog k22:=by
 refine okM [.tmp 2] func22 ?_;intro y ⟨a0,_⟩ r H Q hn hr;have:=hz (tc o56 (tc o57 (tc o55 tn)));refine iA [1]<|vQ<|iB [1,19] H fun H=>cD H (fun H=>iA [2]<|vTT<|fR<|hr H) fun H=>vK<|fQ<|jN r (fun(_:Unit)=>Z [] []) (u22J0) (fun _ H=>?_) (fun _ n0 e0 t0=>?_)
 ·refine iA [2]<|vTT<|hr H
 refine iA [1,3]<|vB<|lX (fun(v1:Int)=>Z (G2 v1 []) [(1,K 50 y50 a0)]) 0 H fun _ g1 b1 e1 t1 v1 H=>vQ<|iA [1,3,24]<|cD H (fun H=>?_) (fun H=>?_)
 ·refine vK<|fQ<|vQ<|vB<|iD o57 [1,3,38] H fun _ H=>cD H (fun H=>iA [2]<|vTT<|fDD<|fR<|t1<|fDD<|t0<|hr H) fun H=>vK<|fK<|fQ<|jB [1,3] H fun H=>b1 H
 exact vE<|fE<|e1<|fX rfl<|n0 H
def u17(a0:Y50)(a1:Y38):Option Int :=
 gd ((u22 a0).isSome/\True) <|
 if(!vl (u22 a0)) then
  some 1
 else
  gd ((u46 a1).isSome/\((!vl (u46 a1))=false/\True->(u47 a0 a1).isSome)/\True) <|
  if(!vl (u46 a1)||!vl (u47 a0 a1)) then
   some 2
  else
   gd ((u48 a0 a1).isSome/\True) <|
   if(!vl (u48 a0 a1)) then
    some 5
   else
    if(a1.1==2&&((a0.2.1.1.length:Int)==14||(a0.2.2.length:Int)==30)) then
     some 3
    else
     some 0
def k17:Ct:=lct 17 [.agg y50,.agg y38] (fun x=>u17 x.1 x.2.1) (fun r:Int=>I r) (fun _=>())
theorem o17:Ok prog k17:=by
 refine okM [.tmp 4] func17 ?_;intro y ⟨_,_,_⟩ r H Q hn hr;have:=hz (tc o48 (tc o47 (tc o46 (tc o22 tn))));refine iA [2,3]<|vQ<|vB<|iB [2,3,5] H fun H=>cD H (fun H=>iA [4]<|vTT<|fDD<|fR<|hr H) fun H=>iB [2,3,9] H fun H=>cD H (fun H=>iA [4]<|vTT<|fDD<|fR<|hr H) fun H=>iB [2,3,19] H fun H=>cD H (fun H=>iA [4]<|vTT<|fDD<|fR<|hr H) fun H=>iA [24]<|cD H (fun H=>iA [4]<|vTT<|fDD<|fR<|hr H) fun H=>vK<|fK<|fQ<|iA [4]<|vTT<|hr H
def u25(a0:Y50)(a1:Y38):Option ByteArray :=
 gd ((u17 a0 a1).isSome/\True)<|lt (vl (u17 a0 a1)) fun v0 =>
 if(v0 != 0) then
  some (ByteArray.mk #[])
 else
  gd ((u65 a0.2.1).isSome/\True)<|lt (vl (u65 a0.2.1)) fun v1 =>
  gd (u59.isSome/\in64 (a1.1-1)/\ix (a1.1-1) (vl u59).length/\(a1.1-1).toNat < (vl u59).length/\True)<|lt (vl u59) fun v2 =>
  if(a1.1==1) then
   gd (ByteArray.size (v2.getD (a1.1-1).toNat (dflt Ty.str))+(ByteArray.mk #[32]).size<=9223372036854775807/\ix a1.2.1 v1.length/\a1.2.1.toNat<v1.length/\(u66 a0.1 a0.2.1 (v1.getD a1.2.1.toNat (dflt y111))).isSome/\(v2.getD (a1.1-1).toNat (dflt Ty.str)++ByteArray.mk #[32]).size+(vl (u66 a0.1 a0.2.1 (v1.getD a1.2.1.toNat (dflt y111)))).size<=9223372036854775807/\(v2.getD (a1.1-1).toNat (dflt Ty.str)++ByteArray.mk #[32]++vl (u66 a0.1 a0.2.1 (v1.getD a1.2.1.toNat (dflt y111)))).size+(ByteArray.mk #[32]).size<=9223372036854775807/\ix a1.2.2.1 a0.1.length/\(v2.getD (a1.1-1).toNat (dflt Ty.str)++ByteArray.mk #[32]++vl (u66 a0.1 a0.2.1 (v1.getD a1.2.1.toNat (dflt y111)))++ByteArray.mk #[32]).size+(a0.1.getD a1.2.2.1.toNat (dflt y115)).1.size<=9223372036854775807/\True)<|lt ((vl (u66 a0.1 a0.2.1 (v1.getD a1.2.1.toNat (dflt y111))),v2.getD (a1.1-1).toNat (dflt Ty.str)++ByteArray.mk #[32]++vl (u66 a0.1 a0.2.1 (v1.getD a1.2.1.toNat (dflt y111)))++ByteArray.mk #[32]++(a0.1.getD a1.2.2.1.toNat (dflt y115)).1)) fun(_,v4) =>
   some v4
  else
   if(a1.1==2) then
    gd (ByteArray.size (v2.getD (a1.1-1).toNat (dflt Ty.str))+(ByteArray.mk #[32]).size<=9223372036854775807/\ix a1.2.1 v1.length/\a1.2.1.toNat<v1.length/\(u66 a0.1 a0.2.1 (v1.getD a1.2.1.toNat (dflt y111))).isSome/\(v2.getD (a1.1-1).toNat (dflt Ty.str)++ByteArray.mk #[32]).size+(vl (u66 a0.1 a0.2.1 (v1.getD a1.2.1.toNat (dflt y111)))).size<=9223372036854775807/\(v2.getD (a1.1-1).toNat (dflt Ty.str)++ByteArray.mk #[32]++vl (u66 a0.1 a0.2.1 (v1.getD a1.2.1.toNat (dflt y111)))).size+(ByteArray.mk #[32]).size<=9223372036854775807/\ix a1.2.2.1 a0.1.length/\(v2.getD (a1.1-1).toNat (dflt Ty.str)++ByteArray.mk #[32]++vl (u66 a0.1 a0.2.1 (v1.getD a1.2.1.toNat (dflt y111)))++ByteArray.mk #[32]).size+(a0.1.getD a1.2.2.1.toNat (dflt y115)).1.size<=9223372036854775807/\(v2.getD (a1.1-1).toNat (dflt Ty.str)++ByteArray.mk #[32]++vl (u66 a0.1 a0.2.1 (v1.getD a1.2.1.toNat (dflt y111)))++ByteArray.mk #[32]++(a0.1.getD a1.2.2.1.toNat (dflt y115)).1).size+(ByteArray.mk #[32]).size<=9223372036854775807/\(v2.getD (a1.1-1).toNat (dflt Ty.str)++ByteArray.mk #[32]++vl (u66 a0.1 a0.2.1 (v1.getD a1.2.1.toNat (dflt y111)))++ByteArray.mk #[32]++(a0.1.getD a1.2.2.1.toNat (dflt y115)).1++ByteArray.mk #[32]).size+a1.2.2.2.2.2.1.size<=9223372036854775807/\True)<|lt ((vl (u66 a0.1 a0.2.1 (v1.getD a1.2.1.toNat (dflt y111))),v2.getD (a1.1-1).toNat (dflt Ty.str)++ByteArray.mk #[32]++vl (u66 a0.1 a0.2.1 (v1.getD a1.2.1.toNat (dflt y111)))++ByteArray.mk #[32]++(a0.1.getD a1.2.2.1.toNat (dflt y115)).1++ByteArray.mk #[32]++a1.2.2.2.2.2.1)) fun(_,v6) =>
    some v6
   else
    if(a1.1==4) then
     gd (ByteArray.size (v2.getD (a1.1-1).toNat (dflt Ty.str))+(ByteArray.mk #[32]).size<=9223372036854775807/\ix a1.2.1 v1.length/\a1.2.1.toNat<v1.length/\(u66 a0.1 a0.2.1 (v1.getD a1.2.1.toNat (dflt y111))).isSome/\(v2.getD (a1.1-1).toNat (dflt Ty.str)++ByteArray.mk #[32]).size+(vl (u66 a0.1 a0.2.1 (v1.getD a1.2.1.toNat (dflt y111)))).size<=9223372036854775807/\(v2.getD (a1.1-1).toNat (dflt Ty.str)++ByteArray.mk #[32]++vl (u66 a0.1 a0.2.1 (v1.getD a1.2.1.toNat (dflt y111)))).size+(ByteArray.mk #[32]).size<=9223372036854775807/\ix a1.2.2.2.1 a0.2.1.2.1.length/\(v2.getD (a1.1-1).toNat (dflt Ty.str)++ByteArray.mk #[32]++vl (u66 a0.1 a0.2.1 (v1.getD a1.2.1.toNat (dflt y111)))++ByteArray.mk #[32]).size+ByteArray.size (a0.2.1.2.1.getD a1.2.2.2.1.toNat (dflt Ty.str))<=9223372036854775807/\(v2.getD (a1.1-1).toNat (dflt Ty.str)++ByteArray.mk #[32]++vl (u66 a0.1 a0.2.1 (v1.getD a1.2.1.toNat (dflt y111)))++ByteArray.mk #[32]++a0.2.1.2.1.getD a1.2.2.2.1.toNat (dflt Ty.str)).size+(ByteArray.mk #[32]).size<=9223372036854775807/\(u67 a1.2.2.2.2.1).isSome/\(v2.getD (a1.1-1).toNat (dflt Ty.str)++ByteArray.mk #[32]++vl (u66 a0.1 a0.2.1 (v1.getD a1.2.1.toNat (dflt y111)))++ByteArray.mk #[32]++a0.2.1.2.1.getD a1.2.2.2.1.toNat (dflt Ty.str)++ByteArray.mk #[32]).size+(vl (u67 a1.2.2.2.2.1)).size<=9223372036854775807/\True)<|lt ((vl (u66 a0.1 a0.2.1 (v1.getD a1.2.1.toNat (dflt y111))),vl (u67 a1.2.2.2.2.1),v2.getD (a1.1-1).toNat (dflt Ty.str)++ByteArray.mk #[32]++vl (u66 a0.1 a0.2.1 (v1.getD a1.2.1.toNat (dflt y111)))++ByteArray.mk #[32]++a0.2.1.2.1.getD a1.2.2.2.1.toNat (dflt Ty.str)++ByteArray.mk #[32]++vl (u67 a1.2.2.2.2.1))) fun(_,_,v9) =>
     some v9
    else
     if(a1.1==5) then
      gd (ByteArray.size (v2.getD (a1.1-1).toNat (dflt Ty.str))+(ByteArray.mk #[32]).size<=9223372036854775807/\ix a1.2.2.2.1 a0.2.1.2.1.length/\(v2.getD (a1.1-1).toNat (dflt Ty.str)++ByteArray.mk #[32]).size+ByteArray.size (a0.2.1.2.1.getD a1.2.2.2.1.toNat (dflt Ty.str))<=9223372036854775807/\(v2.getD (a1.1-1).toNat (dflt Ty.str)++ByteArray.mk #[32]++a0.2.1.2.1.getD a1.2.2.2.1.toNat (dflt Ty.str)).size+(ByteArray.mk #[32]).size<=9223372036854775807/\(u68 a1.2.2.2.2.2.2 (a1.2.2.2.2.2.2.2.2.2.length:Int)).isSome/\(v2.getD (a1.1-1).toNat (dflt Ty.str)++ByteArray.mk #[32]++a0.2.1.2.1.getD a1.2.2.2.1.toNat (dflt Ty.str)++ByteArray.mk #[32]).size+(vl (u68 a1.2.2.2.2.2.2 (a1.2.2.2.2.2.2.2.2.2.length:Int))).size<=9223372036854775807/\True)<|lt ((vl (u68 a1.2.2.2.2.2.2 (a1.2.2.2.2.2.2.2.2.2.length:Int)),v2.getD (a1.1-1).toNat (dflt Ty.str)++ByteArray.mk #[32]++a0.2.1.2.1.getD a1.2.2.2.1.toNat (dflt Ty.str)++ByteArray.mk #[32]++vl (u68 a1.2.2.2.2.2.2 (a1.2.2.2.2.2.2.2.2.2.length:Int)))) fun(_,v11) =>
      some v11
     else
      some (v2.getD (a1.1-1).toNat (dflt Ty.str))
def k25:Ct:=lct 25 [.agg y50,.agg y38] (fun x=>u25 x.1 x.2.1) (fun r:ByteArray=>S r) (fun _=>())
theorem o25:Ok prog k25:=by
 refine okM [.tmp 4] func25 ?_;intro y ⟨a0,a1,_⟩ r H Q hn hr;have:=hz (tc o68 (tc o67 (tc o66 (tc o59 (tc o65 (tc o17 tn))))));refine iA [2,3]<|vQ<|iD o17 [2,3,10] H fun _ H=>cD H (fun H=>iA [4]<|vTT<|fR<|hr H) fun H=>vK<|fQ<|iD o65 [2,3,5] H fun v1 H=>qD (fun v2=>Z (G0 [p 5 (O 13),p 6 (S (v2.getD (a1.1-1).toNat (dflt Ty.str)))]) (W4 v2 v1 a1 a0)) H fun v2 H=>vQ<|iA [2,3,5,6,21]<|vB<|iA [2,3,5,6,21,22]<|cD H (fun H=>?_) (fun H=>?_)
 ·refine qD (fun(v3,v4)=>Z [p 4 (S v4)] (W4 v2 v1 a1 a0)) H fun⟨v3,v4⟩ H =>
   vTT<|fDD<|fR<|hr H
 refine iA [2,3,5,6,21,47]<|cD H (fun H=>?_) (fun H=>?_)
 ·refine qD (fun(v5,v6)=>Z [p 4 (S v6)] (W4 v2 v1 a1 a0)) H fun⟨v5,v6⟩ H =>
   vTT<|fDD<|fR<|hr H
 refine iA [2,3,5,6,21,76]<|cD H (fun H=>?_) (fun H=>?_)
 ·refine qD (fun(v7,v8,v9)=>Z [p 4 (S v9)] (W4 v2 v1 a1 a0)) H fun⟨v7,v8,v9⟩ H =>
   vTT<|fDD<|fR<|hr H
 refine iA [2,3,6,105]<|cD H (fun H=>?_) (fun H=>?_)
 ·refine qD (fun(v10,v11)=>Z [p 4 (S v11)] (W4 v2 v1 a1 a0)) H fun⟨v10,v11⟩ H =>
   vTT<|fDD<|fR<|hr H
 refine vK<|fK<|fQ<|iA [4]<|vTT<|hr H
def u63J3(a0:ByteArray):Int->Option (Int×Bool)
 | v5 =>
 gd ((u67 v5).isSome/\True)<|lt (vl (u67 v5)) fun v6 =>
 some ((v5,decide (v6=a0)))
def u63J1(a0:ByteArray)(v0:ByteArray):Int->Option (Int×Bool)
 | v4 =>
 if(decide ((v0.size:Int) < (a0.size:Int))) then
  gd (in64 (-v4)/\True) <|
  u63J3 a0 (-v4)
 else
  u63J3 a0 v4
def u63L2(v0:ByteArray)(a0:ByteArray)(g2:Int×Int->Option (Int×Bool)):Int×Int->Option (Int×Bool)
 | (v2,v3) =>
 if(decide (v3 < (v0.size:Int))) then
  gd (ix v3 v0.size/\(decide (byteAt v0 v3.toNat<48)=false/\True->ix v3 v0.size)/\True) <|
  if(decide (byteAt v0 v3.toNat<48)||decide (57<byteAt v0 v3.toNat)) then
   some (((0:Int),false))
  else
   gd (in64 (10*v2)/\ix v3 v0.size/\(0<=byteAt v0 v3.toNat-48/\byteAt v0 v3.toNat-48<=255)/\True/\in64 (10*v2+(byteAt v0 v3.toNat-48))/\True) <|
   gd (in64 (v3+1)/\True) <|
   g2 ((10*v2+(byteAt v0 v3.toNat-48),v3+1))
 else
  u63J1 a0 v0 v2
def u63J0(a0:ByteArray):ByteArray->Option (Int×Bool)
 | v0 =>
 if(decide ((v0.size:Int)<1)||decide (12 < (v0.size:Int))) then
  some (((0:Int),false))
 else
  lp (u63L2 v0 a0) (0,0)
def u63(a0:ByteArray):Option (Int×Bool) :=
 gd ((decide (0 < (a0.size:Int))=true/\True->ix 0 a0.size)/\True) <|
 if(decide ((0:Int) < (a0.size:Int))&&byteAt a0 (Int.toNat (0:Int))==(45:Int)) then
  gd (((0:Int)<=(1:Int)/\(1:Int)<=(a0.size:Int)/\(a0.size:Int)<=(a0.size:Int))/\True) <|
  u63J0 a0 (a0.extract (Int.toNat (1:Int)) a0.size)
 else
  u63J0 a0 a0
def k63:Ct:=lct 63 [.dat Ty.str] (fun x=>u63 x.1) (fun r:Int×Bool=>AV.tup [I r.1,B r.2]) (fun _=>())
theorem o63:Ok prog k63:=by
 refine okM [.tmp 2,.tmp 3] func63 ?_;intro y ⟨a0,_⟩ r H Q hn hr;have:=hz (tc o67 tn);refine iA [0]<|iA [0,4]<|jN r (fun(v0:ByteArray)=>Z [p 0 (U a0),p 4 (U v0)] []) (u63J0 a0) (fun v0 H=>?_) (fun _ n0 e0 t0=>?_)
 ·refine vQ<|iA [0,4,25]<|cD H (fun H=>iA [2,3]<|vTT<|fR<|hr H) fun H=>vK<|fQ<|iA [0,4,5]<|jN r (fun(v4:Int)=>Z [p 0 (U a0),p 4 (U v0),p 5 (I v4)] []) (u63J1 a0 v0) (fun v4 H=>?_) (fun _ n1 e1 t1=>?_)
  ·refine jN r (fun(v5:Int)=>Z [p 0 (U a0),p 5 (I v5)] []) (u63J3 a0) (fun v5 H=>?_) (fun _ n3 e3 t3=>?_)
   ·refine iD o67 [2,3] H fun _ H=>vTT<|hr H
   refine iA [0,5,54]<|cD H (fun H=>jB [0,5] H fun H=>n3 H) fun H=>vK<|n3 H
  refine iA [0,4,5,6]<|vB<|lX (fun((v2,v3):Int×Int)=>Z [p 0 (U a0),p 4 (U v0),p 5 (I v2),p 6 (I v3)] []) (0,0) H fun _ g2 b2 e2 t2 ⟨v2,v3⟩ H=>vQ<|iA [0,4,5,6,29]<|cD H (fun H=>?_) (fun H=>?_)
  ·refine vK<|fQ<|vQ<|vB<|vQ<|iB [0,4,5,6,41] H fun H=>cD H (fun H=>iA [2,3]<|vTT<|fR<|fDD<|fR<|t2<|fDD<|t1<|hr H) fun H=>vK<|fQ<|jB [0,4,5,6] H fun H=>fK<|fQ<|jB [0,4,5,6] H fun H=>b2 H
  exact vE<|fE<|e2<|fX rfl<|n1 H
 refine iB [0,4,15] H fun H=>cD H (fun H=>jB [0,4] H fun H=>n0 H) fun H=>vK<|n0 H
def u24J0:List ByteArray->Option (List ByteArray)
 | v8 =>
 some v8
def u24J2(v4:Int)(g1:Int×Int×List ByteArray->Option (List ByteArray)):Int×List ByteArray->Option (List ByteArray)
 | (v6,v7) =>
 gd (in64 (v4+1)/\True) <|
 g1 (v6,v4+1,v7)
def u24L1(a0:ByteArray)(a1:Int)(g1:Int×Int×List ByteArray->Option (List ByteArray)):Int×Int×List ByteArray->Option (List ByteArray)
 | (v3,v4,v5) =>
 if(decide (v4<=(a0.size:Int))) then
  gd (((v4==(a0.size:Int))=false/\True->ix v4 a0.size)/\True) <|
  if(v4==(a0.size:Int)||byteAt a0 v4.toNat==a1) then
   gd ((0<=v3/\v3<=v4/\v4<=(a0.size:Int))/\(v5.length+[a0.extract v3.toNat v4.toNat].length<=9223372036854775807/\(v5.length+[a0.extract v3.toNat v4.toNat].length)*16<=140737488355328)/\True) <|
   gd (in64 (v4+1)/\True) <|
   u24J2 v4 g1 (v4+1,v5++[a0.extract v3.toNat v4.toNat])
  else
   u24J2 v4 g1 (v3,v5)
 else
  u24J0 v5
def u24(a0:ByteArray)(a1:Int):Option (List ByteArray) :=
 lp (u24L1 a0 a1) (0,0,[])
def k24:Ct:=lct 24 [.dat Ty.str,.dat b8] (fun x=>u24 x.1 x.2.1) (fun r:List ByteArray=>AV.ow 9 true Ty.str r) (fun _=>())
theorem o24:Ok prog k24:=by
 refine okM [.tmp 4] func24 ?_;intro y ⟨a0,a1,_⟩ r H Q hn hr;refine iA [0,1]<|iA [0,1,5]<|iA [0,1,5,6]<|jN r (fun(v8:List ByteArray)=>Z [p 5 (O 8)] [(8,A 9 Ty.str v8 0)]) (u24J0) (fun v8 H=>?_) (fun _ n0 e0 t0=>?_)
 ·refine iA [4]<|vTT<|hr H
 refine iA [0,1,5,6,7]<|vB<|lX (fun((v3,v4,v5):Int×Int×List ByteArray)=>Z [p 0 (U a0),p 1 (D b8 a1),p 5 (O 8),p 6 (I v3),p 7 (I v4)] [(8,A 9 Ty.str v5 0)]) (0,0,[]) H fun _ g1 b1 e1 t1 ⟨v3,v4,v5⟩ H=>vQ<|iA [0,1,5,6,7,12]<|cD H (fun H=>?_) (fun H=>?_)
 ·refine vK<|fQ<|jN r (fun((v6,v7):Int×List ByteArray)=>Z [p 0 (U a0),p 1 (D b8 a1),p 5 (O 8),p 6 (I v6),p 7 (I v4)] [(8,A 9 Ty.str v7 0)]) (u24J2 v4 g1) (fun⟨v6,v7⟩ H=>?_) (fun _ n2 e2 t2=>?_)
  ·refine jB [0,1,5,6,7] H fun H=>b1 H
  refine vB<|iB [0,1,5,6,7,25] H fun H=>cD H (fun H=>iB [0,1,5,7] H fun H=>jB [0,1,5,6,7] H fun H=>fK<|n2 H) fun H=>vK<|fK<|n2 H
 exact vE<|fE<|e1<|fX rfl<|n0 H
def u118J0:List Int->Option (List Int)
 | v7 =>
 some v7
def u118J2(v3:Int)(g1:Int×List Int->Option (List Int)):List Int->Option (List Int)
 | v6 =>
 gd (in64 (v3+1)/\True) <|
 g1 (v3+1,v6)
def u118L1(v0:List ByteArray)(g1:Int×List Int->Option (List Int)):Int×List Int->Option (List Int)
 | (v3,v4) =>
 if(decide (v3 < (v0.length:Int))) then
  gd (ix v3 v0.length/\v3.toNat<v0.length/\(u63 (v0.getD v3.toNat (dflt Ty.str))).isSome/\True)<|lt (vl (u63 (v0.getD v3.toNat (dflt Ty.str)))) fun v5 =>
  if v5.2 then
   gd ((v4.length+[v5.1].length<=9223372036854775807/\(v4.length+[v5.1].length)*8<=140737488355328)/\True) <|
   u118J2 v3 g1 (v4++[v5.1])
  else
   u118J2 v3 g1 v4
 else
  u118J0 v4
def u118(a0:ByteArray):Option (List Int) :=
 gd ((u24 a0 44).isSome/\True)<|lt (vl (u24 a0 44)) fun v0 =>
 lp (u118L1 v0) (0,[])
def k118:Ct:=lct 118 [.dat Ty.str] (fun x=>u118 x.1) (fun r:List Int=>AV.ow 2 true i64 r) (fun _=>())
theorem o118:Ok prog k118:=by
 refine okM [.tmp 2] func118 ?_;intro y ⟨_,_⟩ r H Q hn hr;have:=hz (tc o63 (tc o24 tn));refine iA [0]<|iA [0,3]<|iD o24 [3,4] H fun v0 H=>jN r (fun(v7:List Int)=>Z [p 3 (O 8)] [(8,A 2 i64 v7 0)]) (u118J0) (fun v7 H=>?_) (fun _ n0 e0 t0=>?_)
 ·refine iA [2]<|vTT<|hr H
 refine iA [3,4,5]<|vB<|lX (fun((v3,v4):Int×List Int)=>Z [p 3 (O 8),p 4 (O 10),p 5 (I v3)] [(10,A 9 Ty.str v0 0),(8,A 2 i64 v4 0)]) (0,[]) H fun _ g1 b1 e1 t1 ⟨v3,v4⟩ H=>vQ<|iA [3,4,5,14]<|cD H (fun H=>?_) (fun H=>?_)
 ·refine vK<|fQ<|jN r (fun(v6:List Int)=>Z [p 3 (O 8),p 4 (O 10),p 5 (I v3)] [(8,A 2 i64 v6 0),(10,A 9 Ty.str v0 0)]) (u118J2 v3 g1) (fun v6 H=>?_) (fun _ n2 e2 t2=>?_)
  ·refine jB [3,4,5] H fun H=>b1 H
  refine vB<|iD o63 [3,4,5,6,7] H fun _ H=>iA [3,4,5,6,25]<|cD H (fun H=>jB [3,4,5] H fun H=>fK<|n2 H) fun H=>vK<|fK<|n2 H
 exact vE<|fE<|e1<|fX rfl<|n0 H
def u64(a0:ByteArray)(a1:Int):Option (Y36×Bool) :=
 gd ((u24 a0 124).isSome/\True)<|lt (vl (u24 a0 124)) fun v0 =>
 if((v0.length:Int) != 4) then
  some ((([],[],[],[]),false))
 else
  gd (ix (0:Int) v0.length/\Int.toNat (0:Int)<v0.length/\(u118 (v0.getD (Int.toNat (0:Int)) (dflt Ty.str))).isSome/\ix (1:Int) v0.length/\Int.toNat (1:Int)<v0.length/\(u118 (v0.getD (Int.toNat (1:Int)) (dflt Ty.str))).isSome/\ix (2:Int) v0.length/\Int.toNat (2:Int)<v0.length/\(u118 (v0.getD (Int.toNat (2:Int)) (dflt Ty.str))).isSome/\ix (3:Int) v0.length/\Int.toNat (3:Int)<v0.length/\(u118 (v0.getD (Int.toNat (3:Int)) (dflt Ty.str))).isSome/\True)<|lt ((vl (u118 (v0.getD (Int.toNat (3:Int)) (dflt Ty.str))),vl (u118 (v0.getD (Int.toNat (2:Int)) (dflt Ty.str))),vl (u118 (v0.getD (Int.toNat (1:Int)) (dflt Ty.str))),vl (u118 (v0.getD (Int.toNat (0:Int)) (dflt Ty.str))))) fun(v1,v2,v3,v4) =>
  gd ((u68 (v4,v3,v2,v1) a1).isSome/\True)<|lt (vl (u68 (v4,v3,v2,v1) a1)) fun v5 =>
  if(!decide (v5=a0)||decide (a0=ByteArray.mk #[])) then
   some ((([],[],[],[]),false))
  else
   some (((v4,v3,v2,v1),true))
def k64:Ct:=lct 64 [.dat Ty.str,.dat i64] (fun x=>u64 x.1 x.2.1) (fun r:Y36×Bool=>AV.tup [AV.agg [AV.ow 2 true i64 r.1.1,AV.ow 2 true i64 r.1.2.1,AV.ow 2 true i64 r.1.2.2.1,AV.ow 2 true i64 r.1.2.2.2],B r.2]) (fun _=>())
theorem o64:Ok prog k64:=by
 refine okM [.cell 4 36,.tmp 5] func64 ?_;intro y ⟨a0,a1,_⟩ r H Q hn hr;have:=hz (tc o68 (tc o118 (tc o24 tn)));refine iA [0,1,4]<|iD o24 [0,1,4,6] H fun v0 H=>vQ<|iA [0,1,4,6,12]<|cD H (fun H=>iA [4,5]<|vTT<|fR<|hr H) fun H=>vK<|fQ<|qD (fun(v1,v2,v3,v4)=>Z [p 0 (U a0),p 1 (J a1),p 4 (R 4),p 7 (R 7)] [(7,bx 36 [AV.os 17 0,AV.os 21 0,AV.os 25 0,AV.os 29 0]),(29,A 2 i64 v1 0),(25,A 2 i64 v2 0),(21,A 2 i64 v3 0),(17,A 2 i64 v4 0),(9,A 9 Ty.str v0 0),(4,bx 36 [nil,nil,nil,nil])]) H fun⟨v1,v2,v3,v4⟩ H =>
  vQ <|
  iD o68 [4,7,39] H fun _ H =>
  cD H (fun H=>iA [4,5]<|vTT<|fR<|hr H) fun H=>vK<|fQ<|iA [4,5]<|vTT<|hr H
def u60J0:Unit->Option Int
 | _ =>
 some (-1)
def u60L1(a2:ByteArray)(a0:List Y115)(a1:Y47)(v0:List Y111)(g1:Int->Option Int):Int->Option Int
 | v2 =>
 if(decide (v2 < (v0.length:Int))) then
  gd (ix v2 v0.length/\v2.toNat<v0.length/\(u66 a0 a1 (v0.getD v2.toNat (dflt y111))).isSome/\True)<|lt (vl (u66 a0 a1 (v0.getD v2.toNat (dflt y111)))) fun v3 =>
  if(decide (v3=a2)) then
   some v2
  else
   gd (in64 (v2+1)/\True) <|
   g1 (v2+1)
 else
  u60J0 ()
def u60(a0:List Y115)(a1:Y47)(a2:ByteArray):Option Int :=
 gd ((u55 a0 a1).isSome/\True) <|
 if(!vl (u55 a0 a1)) then
  some (-1)
 else
  gd ((u65 a1).isSome/\True)<|lt (vl (u65 a1)) fun v0 =>
  lp (u60L1 a2 a0 a1 v0) 0
def k60:Ct:=lct 60 [.agg y115.sl,.agg y47,.dat Ty.str] (fun x=>u60 x.1 x.2.1 x.2.2.1) (fun r:Int=>I r) (fun _=>())
theorem o60:Ok prog k60:=by
 refine okM [.tmp 6] func60 ?_;intro y ⟨a0,a1,a2,_⟩ r H Q hn hr;have:=hz (tc o66 (tc o65 (tc o55 tn)));refine iA [2,3,4]<|vQ<|iB [2,3,4,12] H fun H=>cD H (fun H=>iA [6]<|vTT<|fR<|hr H) fun H=>vK<|fQ<|iD o65 [2,3,4,7] H fun v0 H=>jN r (fun(_:Unit)=>Z [] []) (u60J0) (fun _ H=>?_) (fun _ n0 e0 t0=>?_)
 ·refine iA [6]<|vTT<|hr H
 refine iA [2,3,4,7,8]<|vB<|lX (fun(v2:Int)=>Z [p 2 (U a2),p 3 (R 3),p 4 (R 4),p 7 (O 14),p 8 (I v2)] [(14,A 111 y111 v0 0),(4,K 47 y47 a1),(3,bx 43 [L y115 a0])]) 0 H fun _ g1 b1 e1 t1 v2 H=>vQ<|iA [2,3,4,7,8,18]<|cD H (fun H=>?_) (fun H=>?_)
 ·refine vK<|fQ<|vQ<|vB<|iD o66 [2,3,4,7,8,29] H fun _ H=>cD H (fun H=>iA [6]<|vTT<|fDD<|fR<|t1<|fDD<|t0<|hr H) fun H=>vK<|fK<|fQ<|jB [2,3,4,7,8] H fun H=>b1 H
 exact vE<|fE<|e1<|fX rfl<|n0 H
def u61J0:Unit->Option Int
 | _ =>
 some (-1)
def u61L1(a0:List Y115)(a1:ByteArray)(g1:Int->Option Int):Int->Option Int
 | v0 =>
 if(decide (v0 < (a0.length:Int))) then
  gd (ix v0 a0.length/\True) <|
  if(decide ((a0.getD v0.toNat (dflt y115)).1=a1)) then
   some v0
  else
   gd (in64 (v0+1)/\True) <|
   g1 (v0+1)
 else
  u61J0 ()
def u61(a0:List Y115)(a1:ByteArray):Option Int :=
 lp (u61L1 a0 a1) 0
def k61:Ct:=lct 61 [.agg y115.sl,.dat Ty.str] (fun x=>u61 x.1 x.2.1) (fun r:Int=>I r) (fun _=>())
theorem o61:Ok prog k61:=by
 refine okM [.tmp 4] func61 ?_;intro y ⟨a0,a1,_⟩ r H Q hn hr;refine iA [1,2]<|jN r (fun(_:Unit)=>Z [] []) (u61J0) (fun _ H=>?_) (fun _ n0 e0 t0=>?_)
 ·refine iA [4]<|vTT<|hr H
 refine iA [1,2,5]<|vB<|lX (fun(v0:Int)=>Z [p 1 (U a1),p 2 (R 2),p 5 (I v0)] [(2,bx 43 [L y115 a0])]) 0 H fun _ g1 b1 e1 t1 v0 H=>vQ<|iA [1,2,5,10]<|cD H (fun H=>?_) (fun H=>?_)
 ·refine vK<|fQ<|vQ<|vB<|iB [1,2,5,20] H fun H=>cD H (fun H=>iA [4]<|vTT<|fDD<|fR<|t1<|fDD<|t0<|hr H) fun H=>vK<|fK<|fQ<|jB [1,2,5] H fun H=>b1 H
 exact vE<|fE<|e1<|fX rfl<|n0 H
def u23J0(v0:Int):Int×Int×ByteArray×Int×Int×List Int×List Int×List Int×List Int->Option Y38
 | (v12,v13,v14,v15,v16,v17,v18,v19,v20) =>
 some (1+v0,v12,v13,v15,v16,v14,v17,v18,v19,v20)
def u23J1(v0:Int)(v2:List ByteArray)(a0:Y50):Bool->Option Y38
 | v3 =>
 if v3 then
  gd (ix (1:Int) v2.length/\Int.toNat (1:Int)<v2.length/\(u60 a0.1 a0.2.1 (v2.getD (Int.toNat (1:Int)) (dflt Ty.str))).isSome/\True)<|lt (vl (u60 a0.1 a0.2.1 (v2.getD (Int.toNat (1:Int)) (dflt Ty.str)))) fun v4 =>
  gd (ix (2:Int) v2.length/\Int.toNat (2:Int)<v2.length/\(u61 a0.1 (v2.getD (Int.toNat (2:Int)) (dflt Ty.str))).isSome/\True)<|lt (vl (u61 a0.1 (v2.getD (Int.toNat (2:Int)) (dflt Ty.str)))) fun v5 =>
  if(1+v0==2) then
   gd (ix (3:Int) v2.length/\Int.toNat (3:Int)<v2.length/\True) <|
   u23J0 v0 ((v4,v5,v2.getD (Int.toNat (3:Int)) (dflt Ty.str),0,0,[],[],[],[]))
  else
   u23J0 v0 (v4,v5,ByteArray.mk #[],0,0,[],[],[],[])
 else
  if(1+v0==4) then
   gd (ix (1:Int) v2.length/\Int.toNat (1:Int)<v2.length/\(u60 a0.1 a0.2.1 (v2.getD (Int.toNat (1:Int)) (dflt Ty.str))).isSome/\True)<|lt (vl (u60 a0.1 a0.2.1 (v2.getD (Int.toNat (1:Int)) (dflt Ty.str)))) fun v6 =>
   gd (ix (2:Int) v2.length/\Int.toNat (2:Int)<v2.length/\(u62 a0.2.1 (v2.getD (Int.toNat (2:Int)) (dflt Ty.str))).isSome/\True)<|lt (vl (u62 a0.2.1 (v2.getD (Int.toNat (2:Int)) (dflt Ty.str)))) fun v7 =>
   gd (ix (3:Int) v2.length/\Int.toNat (3:Int)<v2.length/\(u63 (v2.getD (Int.toNat (3:Int)) (dflt Ty.str))).isSome/\True)<|lt (vl (u63 (v2.getD (Int.toNat (3:Int)) (dflt Ty.str)))) fun v8 =>
   u23J0 v0 (v6,0,ByteArray.mk #[],v7,v8.1,[],[],[],[])
  else
   if(1+v0==5) then
    gd (ix (1:Int) v2.length/\Int.toNat (1:Int)<v2.length/\(u62 a0.2.1 (v2.getD (Int.toNat (1:Int)) (dflt Ty.str))).isSome/\True)<|lt (vl (u62 a0.2.1 (v2.getD (Int.toNat (1:Int)) (dflt Ty.str)))) fun v9 =>
    gd (ix (2:Int) v2.length/\Int.toNat (2:Int)<v2.length/\(u57 a0.2.1 v9).isSome/\(u64 (v2.getD (Int.toNat (2:Int)) (dflt Ty.str)) (↑(vl (u57 a0.2.1 v9)).length:Int)).isSome/\True)<|lt ((vl (u64 (v2.getD (Int.toNat (2:Int)) (dflt Ty.str)) (↑(vl (u57 a0.2.1 v9)).length:Int)),vl (u57 a0.2.1 v9))) fun(v10,_) =>
    u23J0 v0 (0,0,ByteArray.mk #[],v9,0,v10.1.1,v10.1.2.1,v10.1.2.2.1,v10.1.2.2.2)
   else
    u23J0 v0 (0,0,ByteArray.mk #[],0,0,[],[],[],[])
def u23(a0:Y50)(a1:List ByteArray):Option Y38 :=
 gd (u59.isSome/\ix (0:Int) a1.length/\(u58 (vl u59) (a1.getD (Int.toNat (0:Int)) (dflt Ty.str))).isSome/\in64 ((1:Int)+vl (u58 (vl u59) (a1.getD (Int.toNat (0:Int)) (dflt Ty.str))))/\True)<|lt ((vl (u58 (vl u59) (a1.getD (Int.toNat (0:Int)) (dflt Ty.str))),vl u59)) fun(v0,_) =>
 gd ((0+a1.length<=9223372036854775807/\(0+a1.length)*16<=140737488355328)/\(([]++a1).length+[ByteArray.mk #[],ByteArray.mk #[],ByteArray.mk #[]].length<=9223372036854775807/\(([]++a1).length+[ByteArray.mk #[],ByteArray.mk #[],ByteArray.mk #[]].length)*16<=140737488355328)/\True)<|lt ([]++a1++[ByteArray.mk #[],ByteArray.mk #[],ByteArray.mk #[]]) fun v2 =>
 if(1+v0==1) then
  u23J1 v0 v2 a0 (1+v0==1)
 else
  u23J1 v0 v2 a0 (1+v0==2)
def k23:Ct:=lct 23 [.agg y50,.dat Ty.str.sl] (fun x=>u23 x.1 x.2.1) (fun r:Y38=>AV.agg [I r.1,I r.2.1,I r.2.2.1,I r.2.2.2.1,I r.2.2.2.2.1,S r.2.2.2.2.2.1,AV.ow 2 true i64 r.2.2.2.2.2.2.1,AV.ow 2 true i64 r.2.2.2.2.2.2.2.1,AV.ow 2 true i64 r.2.2.2.2.2.2.2.2.1,AV.ow 2 true i64 r.2.2.2.2.2.2.2.2.2]) (fun _=>())
theorem o23:Ok prog k23:=by
 refine okM [.cell 4 38] func23 ?_;intro y ⟨a0,a1,_⟩ r H Q hn hr;have:=hz (tc o64 (tc o57 (tc o62 (tc o63 (tc o60 (tc o61 (tc o58 (tc o59 tn))))))));refine iA [1,2,4]<|qD (fun(v0,v1)=>Z [p 1 (L Ty.str a1),p 2 (R 2),p 4 (R 4),p 5 (R 5)] ((5,bx 38 (Q60 (1+v0) 0 0 0 0 (ByteArray.mk #[])))::(6,A 9 Ty.str v1 0)::W1 a0)) H fun⟨v0,v1⟩ H =>
  qD (fun v2=>Z [p 1 (AV.os 13 2),p 2 (R 2),p 4 (R 4),p 5 (R 5)] ((13,A 9 Ty.str v2 2)::(16,A 9 Ty.str [ByteArray.mk #[],ByteArray.mk #[],ByteArray.mk #[]] 0)::(5,bx 38 (Q60 (1+v0) 0 0 0 0 (ByteArray.mk #[])))::(6,A 9 Ty.str v1 0)::W1 a0)) H fun v2 H =>
  jN r (fun((v12,v13,v14,v15,v16,v17,v18,v19,v20):Int×Int×ByteArray×Int×Int×List Int×List Int×List Int×List Int)=>Z [p 4 (R 4),p 5 (R 5)] [(5,bx 38 [I (1+v0),I v12,I v13,I v15,I v16,S v14,AV.os 91 0,AV.os 1091 0,AV.os 2091 0,AV.os 3091 0]),(4,bx 38 (Q60 0 0 0 0 0 (ByteArray.mk #[]))),(91,A 2 i64 v17 0),(1091,A 2 i64 v18 0),(2091,A 2 i64 v19 0),(3091,A 2 i64 v20 0)]) (u23J0 v0) (fun⟨v12,v13,v14,v15,v16,v17,v18,v19,v20⟩ H=>?_) (fun _ n0 e0 t0=>?_)
 ·refine iA [4]<|vTT<|hr H
 refine iA [1,2,4,5,19]<|vB<|jN r (fun(v3:Bool)=>Z [p 1 (O 13),p 2 (R 2),p 4 (R 4),p 5 (R 5),p 19 (I (1+v0)),p 20 (B v3)] ((13,A 9 Ty.str v2 0)::(5,bx 38 (Q60 (1+v0) 0 0 0 0 (ByteArray.mk #[])))::W1 a0)) (u23J1 v0 v2 a0) (fun v3 H=>?_) (fun _ n1 e1 t1=>?_)
 ·refine cD H (fun H=>?_) (fun H=>?_)
  ·refine iD o60 [1,2,4,5] H fun _ H=>iD o61 [1,4,5] H fun _ H=>iA [1,4,5,41]<|cD H (fun H=>jB [4,5] H fun H=>fK<|n0 H) fun H=>vK<|fK<|n0 H
  refine iA [1,2,4,5,19,46]<|cD H (fun H=>iD o60 [1,2,4,5] H fun _ H=>iD o62 [1,4,5] H fun _ H=>jD o63 [4,5] H fun _ H=>fK<|n0 H) fun H=>iA [1,2,4,5,72]<|cD H (fun H=>?_) (fun H=>?_)
  ·refine iD o62 [1,2,4,5] H fun v9 H=>zD (fun(v10,v11)=>Z [p 4 (R 4),p 5 (R 5)] ((5,bx 38 [I (1+v0),I 0,I 0,I v9,I 0,S (ByteArray.mk #[]),AV.os 91 0,AV.os 1091 0,AV.os 2091 0,AV.os 3091 0])::(3091,A 2 i64 v10.1.2.2.2 0)::(2091,A 2 i64 v10.1.2.2.1 0)::(1091,A 2 i64 v10.1.2.1 0)::(91,A 2 i64 v10.1.1 0)::(89,A 2 i64 v11 0)::(13,A 9 Ty.str v2 0)::W1 a0)) H fun⟨v10,v11⟩ H =>
    fK<|n0 H
  exact vK<|fK<|n0 H
 refine iA [1,2,4,5,19,20]<|cD H (fun H=>vK<|n1 H) fun H=>jA [1,2,4,5,19,20]<|n1 H
def u6(a0:Y50)(a1:ByteArray):Option (Y38×Int) :=
 gd ((u22 a0).isSome/\True) <|
 if(!vl (u22 a0)) then
  some ((((0:Int),(0:Int),(0:Int),(0:Int),(0:Int),ByteArray.mk #[],[],[],[],[]),(1:Int)))
 else
  gd ((u24 a1 32).isSome/\(u23 a0 (vl (u24 a1 32))).isSome/\True)<|lt ((vl (u23 a0 (vl (u24 a1 32))),vl (u24 a1 32))) fun(v0,_) =>
  gd ((decide (a1=ByteArray.mk #[])=false/\True->(u25 a0 v0).isSome)/\True)<|lt (vl (u25 a0 v0)) fun v2 =>
  if(decide (a1=ByteArray.mk #[])||!decide (v2=a1)) then
   some ((((0:Int),(0:Int),(0:Int),(0:Int),(0:Int),ByteArray.mk #[],[],[],[],[]),(6:Int)))
  else
   some ((v0,(0:Int)))
def k6:Ct:=lct 6 [.agg y50,.dat Ty.str] (fun x=>u6 x.1 x.2.1) (fun r:Y38×Int=>AV.tup [AV.agg [I r.1.1,I r.1.2.1,I r.1.2.2.1,I r.1.2.2.2.1,I r.1.2.2.2.2.1,S r.1.2.2.2.2.2.1,AV.ow 2 true i64 r.1.2.2.2.2.2.2.1,AV.ow 2 true i64 r.1.2.2.2.2.2.2.2.1,AV.ow 2 true i64 r.1.2.2.2.2.2.2.2.2.1,AV.ow 2 true i64 r.1.2.2.2.2.2.2.2.2.2],I r.2]) (fun _=>())
theorem o6:Ok prog k6:=by
 refine okM [.cell 4 38,.tmp 5] func6 ?_;intro y ⟨a0,a1,_⟩ r H Q hn hr;have:=hz (tc o25 (tc o23 (tc o24 (tc o22 tn))));refine iA [1,2,4]<|vQ<|iB [1,2,4,9] H fun H=>cD H (fun H=>iA [4,5]<|vTT<|fR<|hr H) fun H=>vK<|fQ<|qD (fun(v0,v1)=>Z [p 1 (U a1),p 2 (R 2),p 4 (R 4),p 6 (R 6)] ((6,bx 38 [I v0.1,I v0.2.1,I v0.2.2.1,I v0.2.2.2.1,I v0.2.2.2.2.1,S v0.2.2.2.2.2.1,AV.os 14 0,AV.os 1014 0,AV.os 2014 0,AV.os 3014 0])::(3014,A 2 i64 v0.2.2.2.2.2.2.2.2.2 0)::(2014,A 2 i64 v0.2.2.2.2.2.2.2.2.1 0)::(1014,A 2 i64 v0.2.2.2.2.2.2.2.1 0)::(14,A 2 i64 v0.2.2.2.2.2.2.1 0)::(13,A 9 Ty.str v1 0)::W1 a0)) H fun⟨v0,v1⟩ H =>
  vQ <|
  iD o25 [4,6,23] H fun _ H =>
  cD H (fun H=>iA [4,5]<|vTT<|fR<|hr H) fun H=>vK<|fQ<|iA [4,5]<|vTT<|hr H
def u123J0:List Int->Option (List Int)
 | v3 =>
 some v3
def u123L1(a0:List Int)(g1:Int×List Int->Option (List Int)):Int×List Int->Option (List Int)
 | (v1,v2) =>
 if(decide (v1 < (a0.length:Int))) then
  gd (ix v1 a0.length/\ix v1 v2.length/\v1.toNat<v2.length/\True) <|
  gd (in64 (v1+1)/\True) <|
  g1 ((v1+1,v2.set v1.toNat (a0.getD v1.toNat 0)))
 else
  u123J0 v2
def u123(a0:List Int):Option (List Int) :=
 gd ((0<=(a0.length:Int)/\(a0.length:Int)=(a0.length:Int)/\(a0.length:Int).toNat*8<=281474976710656/\(a0.length:Int)<=9223372036854775807)/\True) <|
 lp (u123L1 a0) ((0,List.replicate (a0.length:Int).toNat 0))
def k123:Ct:=lct 123 [.dat i64.sl] (fun x=>u123 x.1) (fun r:List Int=>AV.ow 2 true i64 r) (fun _=>())
theorem o123:Ok prog k123:=by
 refine okM [.tmp 2] func123 ?_;intro y ⟨a0,_⟩ r H Q hn hr;refine iA [0]<|iB [0,3] H fun H=>jN r (fun(v3:List Int)=>Z [p 3 (O 7)] [(7,A 2 i64 v3 0)]) (u123J0) (fun v3 H=>?_) (fun _ n0 e0 t0=>?_)
 ·refine iA [2]<|vTT<|hr H
 refine iA [0,3,4]<|vB<|lX (fun((v1,v2):Int×List Int)=>Z [p 0 (L i64 a0),p 3 (O 7),p 4 (I v1)] [(7,A 2 i64 v2 0)]) ((0,List.replicate (a0.length:Int).toNat 0)) H fun _ g1 b1 e1 t1 ⟨v1,v2⟩ H=>vQ<|iA [0,3,4,11]<|cD H (fun H=>vK<|fQ<|vQ<|vB<|jB [0,3,4] H fun H=>fK<|fQ<|jB [0,3,4] H fun H=>b1 H) fun H=>vE<|fE<|e1<|fX rfl<|n0 H
def u73(a0:Y94):Option Y36 :=
 gd ((u123 a0.1).isSome/\True)<|lt (vl (u123 a0.1)) fun v0 =>
 gd ((u123 a0.2.1).isSome/\True)<|lt (vl (u123 a0.2.1)) fun v1 =>
 gd ((u123 a0.2.2.1).isSome/\True)<|lt (vl (u123 a0.2.2.1)) fun v2 =>
 gd ((u123 a0.2.2.2).isSome/\True)<|lt (vl (u123 a0.2.2.2)) fun v3 =>
 some (v0,v1,v2,v3)
def k73:Ct:=lct 73 [.agg y94] (fun x=>u73 x.1) (fun r:Y36=>AV.agg [AV.ow 2 true i64 r.1,AV.ow 2 true i64 r.2.1,AV.ow 2 true i64 r.2.2.1,AV.ow 2 true i64 r.2.2.2]) (fun _=>())
theorem o73:Ok prog k73:=by
 refine okM [.cell 2 36] func73 ?_;intro y ⟨_,_⟩ r H Q hn hr;have:=hz (tc o123 tn);refine iA [1,2]<|iA [1,2,3]<|iD o123 [1,2,3] H fun _ H=>iD o123 [1,2,3] H fun _ H=>iD o123 [1,2,3] H fun _ H=>iD o123 [2,3] H fun _ H=>iA [2]<|vTT<|hr H
def k73d:Ct:=lct 73 [.agg y94] (fun x=>u73 x.1) (fun r=>frz ((fun r:Y36=>AV.agg [AV.ow 2 true i64 r.1,AV.ow 2 true i64 r.2.1,AV.ow 2 true i64 r.2.2.1,AV.ow 2 true i64 r.2.2.2]) r)) (fun _=>())
theorem o73d:Ok prog k73d:=ok_frz o73
def u28J0:List Y36->Option (List Y36)
 | v5 =>
 some v5
def u28L1(a0:List Y94)(g1:Int×List Y36->Option (List Y36)):Int×List Y36->Option (List Y36)
 | (v2,v3) =>
 if(decide (v2 < (a0.length:Int))) then
  gd (ix v2 a0.length/\(u73 (a0.getD v2.toNat (dflt y94))).isSome/\ix v2 v3.length/\v2.toNat<v3.length/\True)<|lt (vl (u73 (a0.getD v2.toNat (dflt y94)))) fun v4 =>
  gd (in64 (v2+1)/\True) <|
  g1 (v2+1,v3.set v2.toNat v4)
 else
  u28J0 v3
def u28(a0:List Y94):Option (List Y36) :=
 gd ((0<=(a0.length:Int)/\(a0.length:Int)=(a0.length:Int)/\(a0.length:Int).toNat*96<=281474976710656/\(a0.length:Int)<=9223372036854775807)/\True) <|
 lp (u28L1 a0) ((0,List.replicate (a0.length:Int).toNat ([],[],[],[])))
def k28:Ct:=lct 28 [.dat y94.sl] (fun x=>u28 x.1) (fun r:List Y36=>AV.ow 36 true y36 r) (fun _=>())
theorem o28:Ok prog k28:=by
 refine okM [.tmp 2] func28 ?_;intro y ⟨a0,_⟩ r H Q hn hr;have:=hz (tc o73d tn);refine iA [0]<|iB [0,3] H fun H=>jN r (fun(v5:List Y36)=>Z [p 3 (O 7)] [(7,A 36 y36 v5 0)]) (u28J0) (fun v5 H=>?_) (fun _ n0 e0 t0=>?_)
 ·refine iA [2]<|vTT<|hr H
 refine iA [0,3,4]<|vB<|lX (fun((v2,v3):Int×List Y36)=>Z [p 0 (L y94 a0),p 3 (O 7),p 4 (I v2)] [(7,A 36 y36 v3 0)]) ((0,List.replicate (a0.length:Int).toNat ([],[],[],[]))) H fun _ g1 b1 e1 t1 ⟨v2,v3⟩ H=>vQ<|iA [0,3,4,11]<|cD H (fun H=>vK<|fQ<|vQ<|vB<|zD (fun v4=>Z [p 0 (L y94 a0),p 3 (O 7),p 4 (I v2)] [(7,A 36 y36 (v3.set v2.toNat v4) 0)]) H fun v4 H=>fK<|fQ<|jB [0,3,4] H fun H=>b1 H) fun H=>vE<|fE<|e1<|fX rfl<|n0 H
def u122(a0:Y164):Option Y166 :=
 some a0
def k122:Ct:=lct 122 [.agg y164] (fun x=>u122 x.1) (fun r:Y166=>AV.agg [S r.1,I r.2.1,I r.2.2]) (fun _=>())
theorem o122:Ok prog k122:=by
 refine okM [.cell 2 166] func122 ?_;intro y ⟨_,_⟩ r H Q hn hr;refine iA [1,2]<|iA [1,2,3]<|iA [1,2,3]<|iA [1,2,3]<|iA [2,3]<|iA [2]<|vTT<|hr H
def u72J0:List Y166->Option (List Y166)
 | v5 =>
 some v5
def u72L1(a0:List Y164)(g1:Int×List Y166->Option (List Y166)):Int×List Y166->Option (List Y166)
 | (v2,v3) =>
 if(decide (v2 < (a0.length:Int))) then
  gd (ix v2 a0.length/\(u122 (a0.getD v2.toNat (dflt y164))).isSome/\ix v2 v3.length/\v2.toNat<v3.length/\True)<|lt (vl (u122 (a0.getD v2.toNat (dflt y164)))) fun v4 =>
  gd (in64 (v2+1)/\True) <|
  g1 (v2+1,v3.set v2.toNat v4)
 else
  u72J0 v3
def u72(a0:List Y164):Option (List Y166) :=
 gd ((0<=(a0.length:Int)/\(a0.length:Int)=(a0.length:Int)/\(a0.length:Int).toNat*32<=281474976710656/\(a0.length:Int)<=9223372036854775807)/\True)<|lt (List.replicate (a0.length:Int).toNat (ByteArray.mk #[],(0:Int),(0:Int))) fun v0 =>
 lp (u72L1 a0) (0,v0)
def k72:Ct:=lct 72 [.dat y164.sl] (fun x=>u72 x.1) (fun r:List Y166=>AV.ow 166 true y166 r) (fun _=>())
theorem o72:Ok prog k72:=by
 refine okM [.tmp 2] func72 ?_;intro y ⟨a0,_⟩ r H Q hn hr;have:=hz (tc o122 tn);refine iA [0]<|qD (fun v0=>Z [p 0 (L y164 a0),p 3 (O 7)] [(7,A 166 y166 v0 0)]) H fun v0 H=>jN r (fun(v5:List Y166)=>Z [p 3 (O 7)] [(7,A 166 y166 v5 0)]) (u72J0) (fun v5 H=>?_) (fun _ n0 e0 t0=>?_)
 ·refine iA [2]<|vTT<|hr H
 refine iA [0,3,4]<|vB<|lX (fun((v2,v3):Int×List Y166)=>Z [p 0 (L y164 a0),p 3 (O 7),p 4 (I v2)] [(7,A 166 y166 v3 0)]) (0,v0) H fun _ g1 b1 e1 t1 ⟨v2,v3⟩ H=>vQ<|iA [0,3,4,11]<|cD H (fun H=>vK<|fQ<|vQ<|vB<|jD o122 [0,3,4] H fun _ H=>fK<|fQ<|jB [0,3,4] H fun H=>b1 H) fun H=>vE<|fE<|e1<|fX rfl<|n0 H
def u71J0:List ByteArray->Option (List ByteArray)
 | v3 =>
 some v3
def u71L1(a0:List ByteArray)(g1:Int×List ByteArray->Option (List ByteArray)):Int×List ByteArray->Option (List ByteArray)
 | (v1,v2) =>
 if(decide (v1 < (a0.length:Int))) then
  gd (ix v1 a0.length/\ix v1 v2.length/\v1.toNat<v2.length/\True) <|
  gd (in64 (v1+1)/\True) <|
  g1 ((v1+1,v2.set v1.toNat (a0.getD v1.toNat (dflt Ty.str))))
 else
  u71J0 v2
def u71(a0:List ByteArray):Option (List ByteArray) :=
 gd ((0<=(a0.length:Int)/\(a0.length:Int)=(a0.length:Int)/\(a0.length:Int).toNat*16<=281474976710656/\(a0.length:Int)<=9223372036854775807)/\True) <|
 lp (u71L1 a0) ((0,List.replicate (a0.length:Int).toNat (ByteArray.mk #[])))
def k71:Ct:=lct 71 [.dat Ty.str.sl] (fun x=>u71 x.1) (fun r:List ByteArray=>AV.ow 9 true Ty.str r) (fun _=>())
theorem o71:Ok prog k71:=by
 refine okM [.tmp 2] func71 ?_;intro y ⟨a0,_⟩ r H Q hn hr;refine iA [0]<|iB [0,3] H fun H=>jN r (fun(v3:List ByteArray)=>Z [p 3 (O 7)] [(7,A 9 Ty.str v3 0)]) (u71J0) (fun v3 H=>?_) (fun _ n0 e0 t0=>?_)
 ·refine iA [2]<|vTT<|hr H
 refine iA [0,3,4]<|vB<|lX (fun((v1,v2):Int×List ByteArray)=>Z [p 0 (L Ty.str a0),p 3 (O 7),p 4 (I v1)] [(7,A 9 Ty.str v2 0)]) ((0,List.replicate (a0.length:Int).toNat (ByteArray.mk #[]))) H fun _ g1 b1 e1 t1 ⟨v1,v2⟩ H=>vQ<|iA [0,3,4,11]<|cD H (fun H=>vK<|fQ<|vQ<|vB<|jB [0,3,4] H fun H=>fK<|fQ<|jB [0,3,4] H fun H=>b1 H) fun H=>vE<|fE<|e1<|fX rfl<|n0 H
def u121(a0:Y161):Option Y152 :=
 gd ((u123 a0.2.2).isSome/\True)<|lt (vl (u123 a0.2.2)) fun v0 =>
 some (a0.1,a0.2.1,v0)
def k121:Ct:=lct 121 [.agg y161] (fun x=>u121 x.1) (fun r:Y152=>AV.agg [S r.1,I r.2.1,AV.ow 2 true i64 r.2.2]) (fun _=>())
theorem o121:Ok prog k121:=by
 refine okM [.cell 2 152] func121 ?_;intro y ⟨_,_⟩ r H Q hn hr;have:=hz (tc o123 tn);refine iA [1,2]<|iA [1,2,3]<|iA [1,2,3]<|iA [1,2,3]<|iD o123 [2,3] H fun _ H=>iA [2]<|vTT<|hr H
def k121d:Ct:=lct 121 [.agg y161] (fun x=>u121 x.1) (fun r=>frz ((fun r:Y152=>AV.agg [S r.1,I r.2.1,AV.ow 2 true i64 r.2.2]) r)) (fun _=>())
theorem o121d:Ok prog k121d:=ok_frz o121
def u70J0:List Y152->Option (List Y152)
 | v5 =>
 some v5
def u70L1(a0:List Y161)(g1:Int×List Y152->Option (List Y152)):Int×List Y152->Option (List Y152)
 | (v2,v3) =>
 if(decide (v2 < (a0.length:Int))) then
  gd (ix v2 a0.length/\(u121 (a0.getD v2.toNat (dflt y161))).isSome/\ix v2 v3.length/\v2.toNat<v3.length/\True)<|lt (vl (u121 (a0.getD v2.toNat (dflt y161)))) fun v4 =>
  gd (in64 (v2+1)/\True) <|
  g1 (v2+1,v3.set v2.toNat v4)
 else
  u70J0 v3
def u70(a0:List Y161):Option (List Y152) :=
 gd ((0<=(a0.length:Int)/\(a0.length:Int)=(a0.length:Int)/\(a0.length:Int).toNat*48<=281474976710656/\(a0.length:Int)<=9223372036854775807)/\True)<|lt (List.replicate (a0.length:Int).toNat (ByteArray.mk #[],(0:Int),[])) fun v0 =>
 lp (u70L1 a0) (0,v0)
def k70:Ct:=lct 70 [.dat y161.sl] (fun x=>u70 x.1) (fun r:List Y152=>AV.ow 152 true y152 r) (fun _=>())
theorem o70:Ok prog k70:=by
 refine okM [.tmp 2] func70 ?_;intro y ⟨a0,_⟩ r H Q hn hr;have:=hz (tc o121d tn);refine iA [0]<|qD (fun v0=>Z [p 0 (L y161 a0),p 3 (O 7)] [(7,A 152 y152 v0 0)]) H fun v0 H=>jN r (fun(v5:List Y152)=>Z [p 3 (O 7)] [(7,A 152 y152 v5 0)]) (u70J0) (fun v5 H=>?_) (fun _ n0 e0 t0=>?_)
 ·refine iA [2]<|vTT<|hr H
 refine iA [0,3,4]<|vB<|lX (fun((v2,v3):Int×List Y152)=>Z [p 0 (L y161 a0),p 3 (O 7),p 4 (I v2)] [(7,A 152 y152 v3 0)]) (0,v0) H fun _ g1 b1 e1 t1 ⟨v2,v3⟩ H=>vQ<|iA [0,3,4,11]<|cD H (fun H=>vK<|fQ<|vQ<|vB<|zD (fun v4=>Z [p 0 (L y161 a0),p 3 (O 7),p 4 (I v2)] [(7,A 152 y152 (v3.set v2.toNat v4) 0)]) H fun v4 H=>fK<|fQ<|jB [0,3,4] H fun H=>b1 H) fun H=>vE<|fE<|e1<|fX rfl<|n0 H
def u27(a0:Y29):Option Y47 :=
 gd ((u70 a0.1).isSome/\True)<|lt (vl (u70 a0.1)) fun v0 =>
 gd ((u71 a0.2.1).isSome/\True)<|lt (vl (u71 a0.2.1)) fun v1 =>
 gd ((u72 a0.2.2).isSome/\True)<|lt (vl (u72 a0.2.2)) fun v2 =>
 some (v0,v1,v2)
def k27:Ct:=lct 27 [.agg y29] (fun x=>u27 x.1) (fun r:Y47=>AV.agg [AV.ow 152 true y152 r.1,AV.ow 9 true Ty.str r.2.1,AV.ow 166 true y166 r.2.2]) (fun _=>())
theorem o27:Ok prog k27:=by
 refine okM [.cell 2 47] func27 ?_;intro y ⟨_,_⟩ r H Q hn hr;have:=hz (tc o72 (tc o71 (tc o70 tn)));refine iA [1,2]<|iA [1,2,3]<|iD o70 [1,2,3] H fun _ H=>iD o71 [1,2,3] H fun _ H=>iD o72 [2,3] H fun _ H=>iA [2]<|vTT<|hr H
def u287(a0:Y331):Option Y291 :=
 gd ((u123 a0.1).isSome/\True)<|lt (vl (u123 a0.1)) fun v0 =>
 gd ((u123 a0.2.1).isSome/\True)<|lt (vl (u123 a0.2.1)) fun v1 =>
 gd ((u123 a0.2.2).isSome/\True)<|lt (vl (u123 a0.2.2)) fun v2 =>
 some (v0,v1,v2)
def k287:Ct:=lct 287 [.agg y331] (fun x=>u287 x.1) (fun r:Y291=>AV.agg [AV.ow 2 true i64 r.1,AV.ow 2 true i64 r.2.1,AV.ow 2 true i64 r.2.2]) (fun _=>())
theorem o287:Ok prog k287:=by
 refine okM [.cell 2 291] func287 ?_;intro y ⟨_,_⟩ r H Q hn hr;have:=hz (tc o123 tn);refine iA [1,2]<|iA [1,2,3]<|iD o123 [1,2,3] H fun _ H=>iD o123 [1,2,3] H fun _ H=>iD o123 [2,3] H fun _ H=>iA [2]<|vTT<|hr H
def k287d:Ct:=lct 287 [.agg y331] (fun x=>u287 x.1) (fun r=>frz ((fun r:Y291=>AV.agg [AV.ow 2 true i64 r.1,AV.ow 2 true i64 r.2.1,AV.ow 2 true i64 r.2.2]) r)) (fun _=>())
theorem o287d:Ok prog k287d:=ok_frz o287
def u257J0:List Y291->Option (List Y291)
 | v5 =>
 some v5
def u257L1(a0:List Y331)(g1:Int×List Y291->Option (List Y291)):Int×List Y291->Option (List Y291)
 | (v2,v3) =>
 if(decide (v2 < (a0.length:Int))) then
  gd (ix v2 a0.length/\(u287 (a0.getD v2.toNat (dflt y331))).isSome/\ix v2 v3.length/\v2.toNat<v3.length/\True)<|lt (vl (u287 (a0.getD v2.toNat (dflt y331)))) fun v4 =>
  gd (in64 (v2+1)/\True) <|
  g1 (v2+1,v3.set v2.toNat v4)
 else
  u257J0 v3
def u257(a0:List Y331):Option (List Y291) :=
 gd ((0<=(a0.length:Int)/\(a0.length:Int)=(a0.length:Int)/\(a0.length:Int).toNat*72<=281474976710656/\(a0.length:Int)<=9223372036854775807)/\True) <|
 lp (u257L1 a0) ((0,List.replicate (a0.length:Int).toNat ([],[],[])))
def k257:Ct:=lct 257 [.dat y331.sl] (fun x=>u257 x.1) (fun r:List Y291=>AV.ow 291 true y291 r) (fun _=>())
theorem o257:Ok prog k257:=by
 refine okM [.tmp 2] func257 ?_;intro y ⟨a0,_⟩ r H Q hn hr;have:=hz (tc o287d tn);refine iA [0]<|iB [0,3] H fun H=>jN r (fun(v5:List Y291)=>Z [p 3 (O 7)] [(7,A 291 y291 v5 0)]) (u257J0) (fun v5 H=>?_) (fun _ n0 e0 t0=>?_)
 ·refine iA [2]<|vTT<|hr H
 refine iA [0,3,4]<|vB<|lX (fun((v2,v3):Int×List Y291)=>Z [p 0 (L y331 a0),p 3 (O 7),p 4 (I v2)] [(7,A 291 y291 v3 0)]) ((0,List.replicate (a0.length:Int).toNat ([],[],[]))) H fun _ g1 b1 e1 t1 ⟨v2,v3⟩ H=>vQ<|iA [0,3,4,11]<|cD H (fun H=>vK<|fQ<|vQ<|vB<|zD (fun v4=>Z [p 0 (L y331 a0),p 3 (O 7),p 4 (I v2)] [(7,A 291 y291 (v3.set v2.toNat v4) 0)]) H fun v4 H=>fK<|fQ<|jB [0,3,4] H fun H=>b1 H) fun H=>vE<|fE<|e1<|fX rfl<|n0 H
def u215(a0:Y257):Option Y243 :=
 gd ((u257 a0.2.2.2.2.1).isSome/\True)<|lt (vl (u257 a0.2.2.2.2.1)) fun v0 =>
 gd ((u257 a0.2.2.2.2.2).isSome/\True)<|lt (vl (u257 a0.2.2.2.2.2)) fun v1 =>
 some (a0.1,a0.2.1,a0.2.2.1,a0.2.2.2.1,v0,v1)
def k215:Ct:=lct 215 [.agg y257] (fun x=>u215 x.1) (fun r:Y243=>AV.agg [I r.1,I r.2.1,I r.2.2.1,I r.2.2.2.1,AV.ow 291 true y291 r.2.2.2.2.1,AV.ow 291 true y291 r.2.2.2.2.2]) (fun _=>())
theorem o215:Ok prog k215:=by
 refine okM [.cell 2 243] func215 ?_;intro y ⟨_,_⟩ r H Q hn hr;have:=hz (tc o257 tn);refine iA [1,2]<|iA [1,2,3]<|iA [1,2,3]<|iA [1,2,3]<|iA [1,2,3]<|iA [1,2,3]<|iD o257 [1,2,3] H fun _ H=>iD o257 [2,3] H fun _ H=>iA [2]<|vTT<|hr H
def k215d:Ct:=lct 215 [.agg y257] (fun x=>u215 x.1) (fun r=>frz ((fun r:Y243=>AV.agg [I r.1,I r.2.1,I r.2.2.1,I r.2.2.2.1,AV.ow 291 true y291 r.2.2.2.2.1,AV.ow 291 true y291 r.2.2.2.2.2]) r)) (fun _=>())
theorem o215d:Ok prog k215d:=ok_frz o215
def u174J0:List Y243->Option (List Y243)
 | v5 =>
 some v5
def u174L1(a0:List Y257)(g1:Int×List Y243->Option (List Y243)):Int×List Y243->Option (List Y243)
 | (v2,v3) =>
 if(decide (v2 < (a0.length:Int))) then
  gd (ix v2 a0.length/\(u215 (a0.getD v2.toNat (dflt y257))).isSome/\ix v2 v3.length/\v2.toNat<v3.length/\True)<|lt (vl (u215 (a0.getD v2.toNat (dflt y257)))) fun v4 =>
  gd (in64 (v2+1)/\True) <|
  g1 (v2+1,v3.set v2.toNat v4)
 else
  u174J0 v3
def u174(a0:List Y257):Option (List Y243) :=
 gd ((0<=(a0.length:Int)/\(a0.length:Int)=(a0.length:Int)/\(a0.length:Int).toNat*80<=281474976710656/\(a0.length:Int)<=9223372036854775807)/\True)<|lt (List.replicate (a0.length:Int).toNat ((0:Int),(0:Int),(0:Int),(0:Int),[],[])) fun v0 =>
 lp (u174L1 a0) (0,v0)
def k174:Ct:=lct 174 [.dat y257.sl] (fun x=>u174 x.1) (fun r:List Y243=>AV.ow 243 true y243 r) (fun _=>())
theorem o174:Ok prog k174:=by
 refine okM [.tmp 2] func174 ?_;intro y ⟨a0,_⟩ r H Q hn hr;have:=hz (tc o215d tn);refine iA [0]<|qD (fun v0=>Z [p 0 (L y257 a0),p 3 (O 7)] [(7,A 243 y243 v0 0)]) H fun v0 H=>jN r (fun(v5:List Y243)=>Z [p 3 (O 7)] [(7,A 243 y243 v5 0)]) (u174J0) (fun v5 H=>?_) (fun _ n0 e0 t0=>?_)
 ·refine iA [2]<|vTT<|hr H
 refine iA [0,3,4]<|vB<|lX (fun((v2,v3):Int×List Y243)=>Z [p 0 (L y257 a0),p 3 (O 7),p 4 (I v2)] [(7,A 243 y243 v3 0)]) (0,v0) H fun _ g1 b1 e1 t1 ⟨v2,v3⟩ H=>vQ<|iA [0,3,4,11]<|cD H (fun H=>vK<|fQ<|vQ<|vB<|zD (fun v4=>Z [p 0 (L y257 a0),p 3 (O 7),p 4 (I v2)] [(7,A 243 y243 (v3.set v2.toNat v4) 0)]) H fun v4 H=>fK<|fQ<|jB [0,3,4] H fun H=>b1 H) fun H=>vE<|fE<|e1<|fX rfl<|n0 H
def u214(a0:Y253):Option Y170 :=
 some a0
def k214:Ct:=lct 214 [.agg y253] (fun x=>u214 x.1) (fun r:Y170=>AV.agg [S r.1,I r.2.1,I r.2.2.1,B r.2.2.2]) (fun _=>())
theorem o214:Ok prog k214:=by
 refine okM [.cell 2 170] func214 ?_;intro y ⟨_,_⟩ r H Q hn hr;refine iA [1,2]<|iA [1,2,3]<|iA [1,2,3]<|iA [1,2,3]<|iA [1,2,3]<|iA [2,3]<|iA [2]<|vTT<|hr H
def u173J0:List Y170->Option (List Y170)
 | v5 =>
 some v5
def u173L1(a0:List Y253)(g1:Int×List Y170->Option (List Y170)):Int×List Y170->Option (List Y170)
 | (v2,v3) =>
 if(decide (v2 < (a0.length:Int))) then
  gd (ix v2 a0.length/\(u214 (a0.getD v2.toNat (dflt y253))).isSome/\ix v2 v3.length/\v2.toNat<v3.length/\True)<|lt (vl (u214 (a0.getD v2.toNat (dflt y253)))) fun v4 =>
  gd (in64 (v2+1)/\True) <|
  g1 (v2+1,v3.set v2.toNat v4)
 else
  u173J0 v3
def u173(a0:List Y253):Option (List Y170) :=
 gd ((0<=(a0.length:Int)/\(a0.length:Int)=(a0.length:Int)/\(a0.length:Int).toNat*40<=281474976710656/\(a0.length:Int)<=9223372036854775807)/\True)<|lt (List.replicate (a0.length:Int).toNat (ByteArray.mk #[],(0:Int),(0:Int),false)) fun v0 =>
 lp (u173L1 a0) (0,v0)
def k173:Ct:=lct 173 [.dat y253.sl] (fun x=>u173 x.1) (fun r:List Y170=>AV.ow 170 true y170 r) (fun _=>())
theorem o173:Ok prog k173:=by
 refine okM [.tmp 2] func173 ?_;intro y ⟨a0,_⟩ r H Q hn hr;have:=hz (tc o214 tn);refine iA [0]<|qD (fun v0=>Z [p 0 (L y253 a0),p 3 (O 7)] [(7,A 170 y170 v0 0)]) H fun v0 H=>jN r (fun(v5:List Y170)=>Z [p 3 (O 7)] [(7,A 170 y170 v5 0)]) (u173J0) (fun v5 H=>?_) (fun _ n0 e0 t0=>?_)
 ·refine iA [2]<|vTT<|hr H
 refine iA [0,3,4]<|vB<|lX (fun((v2,v3):Int×List Y170)=>Z [p 0 (L y253 a0),p 3 (O 7),p 4 (I v2)] [(7,A 170 y170 v3 0)]) (0,v0) H fun _ g1 b1 e1 t1 ⟨v2,v3⟩ H=>vQ<|iA [0,3,4,11]<|cD H (fun H=>vK<|fQ<|vQ<|vB<|jD o214 [0,3,4] H fun _ H=>fK<|fQ<|jB [0,3,4] H fun H=>b1 H) fun H=>vE<|fE<|e1<|fX rfl<|n0 H
def u120(a0:Y159):Option Y115 :=
 gd ((u173 a0.2.2.1).isSome/\True)<|lt (vl (u173 a0.2.2.1)) fun v0 =>
 gd ((u174 a0.2.2.2.1).isSome/\True)<|lt (vl (u174 a0.2.2.2.1)) fun v1 =>
 gd ((u123 a0.2.2.2.2.1).isSome/\True)<|lt (vl (u123 a0.2.2.2.2.1)) fun v2 =>
 some (a0.1,a0.2.1,v0,v1,v2,a0.2.2.2.2.2)
def k120:Ct:=lct 120 [.agg y159] (fun x=>u120 x.1) (fun r:Y115=>AV.agg [S r.1,I r.2.1,AV.ow 170 true y170 r.2.2.1,AV.ow 243 true y243 r.2.2.2.1,AV.ow 2 true i64 r.2.2.2.2.1,I r.2.2.2.2.2.1,I r.2.2.2.2.2.2]) (fun _=>())
theorem o120:Ok prog k120:=by
 refine okM [.cell 2 115] func120 ?_;intro y ⟨_,_⟩ r H Q hn hr;have:=hz (tc o123 (tc o174 (tc o173 tn)));refine iA [1,2]<|iA [1,2,3]<|iA [1,2,3]<|iA [1,2,3]<|iD o173 [1,2,3] H fun _ H=>iD o174 [1,2,3] H fun _ H=>iD o123 [1,2,3] H fun _ H=>iA [1,2,3]<|iA [2,3]<|iA [2] ?_
 exact vTT<|hr H
def k120d:Ct:=lct 120 [.agg y159] (fun x=>u120 x.1) (fun r=>frz ((fun r:Y115=>AV.agg [S r.1,I r.2.1,AV.ow 170 true y170 r.2.2.1,AV.ow 243 true y243 r.2.2.2.1,AV.ow 2 true i64 r.2.2.2.2.1,I r.2.2.2.2.2.1,I r.2.2.2.2.2.2]) r)) (fun _=>())
theorem o120d:Ok prog k120d:=ok_frz o120
def u69J0:List Y115->Option (List Y115)
 | v5 =>
 some v5
def u69L1(a0:List Y159)(g1:Int×List Y115->Option (List Y115)):Int×List Y115->Option (List Y115)
 | (v2,v3) =>
 if(decide (v2 < (a0.length:Int))) then
  gd (ix v2 a0.length/\(u120 (a0.getD v2.toNat (dflt y159))).isSome/\ix v2 v3.length/\v2.toNat<v3.length/\True)<|lt (vl (u120 (a0.getD v2.toNat (dflt y159)))) fun v4 =>
  gd (in64 (v2+1)/\True) <|
  g1 (v2+1,v3.set v2.toNat v4)
 else
  u69J0 v3
def u69(a0:List Y159):Option (List Y115) :=
 gd ((0<=(a0.length:Int)/\(a0.length:Int)=(a0.length:Int)/\(a0.length:Int).toNat*112<=281474976710656/\(a0.length:Int)<=9223372036854775807)/\True)<|lt (List.replicate (a0.length:Int).toNat (ByteArray.mk #[],(0:Int),[],[],[],(0:Int),(0:Int))) fun v0 =>
 lp (u69L1 a0) (0,v0)
def k69:Ct:=lct 69 [.dat y159.sl] (fun x=>u69 x.1) (fun r:List Y115=>AV.ow 115 true y115 r) (fun _=>())
theorem o69:Ok prog k69:=by
 refine okM [.tmp 2] func69 ?_;intro y ⟨a0,_⟩ r H Q hn hr;have:=hz (tc o120d tn);refine iA [0]<|qD (fun v0=>Z [p 0 (L y159 a0),p 3 (O 7)] [(7,A 115 y115 v0 0)]) H fun v0 H=>jN r (fun(v5:List Y115)=>Z [p 3 (O 7)] [(7,A 115 y115 v5 0)]) (u69J0) (fun v5 H=>?_) (fun _ n0 e0 t0=>?_)
 ·refine iA [2]<|vTT<|hr H
 refine iA [0,3,4]<|vB<|lX (fun((v2,v3):Int×List Y115)=>Z [p 0 (L y159 a0),p 3 (O 7),p 4 (I v2)] [(7,A 115 y115 v3 0)]) (0,v0) H fun _ g1 b1 e1 t1 ⟨v2,v3⟩ H=>vQ<|iA [0,3,4,11]<|cD H (fun H=>vK<|fQ<|vQ<|vB<|zD (fun v4=>Z [p 0 (L y159 a0),p 3 (O 7),p 4 (I v2)] [(7,A 115 y115 (v3.set v2.toNat v4) 0)]) H fun v4 H=>fK<|fQ<|jB [0,3,4] H fun H=>b1 H) fun H=>vE<|fE<|e1<|fX rfl<|n0 H
def u26(a0:List Y159):Option (List Y115) :=
 gd ((u69 a0).isSome/\True)<|lt (vl (u69 a0)) fun v0 =>
 some v0
def k26:Ct:=lct 26 [.agg y159.sl] (fun x=>u26 x.1) (fun r:List Y115=>AV.agg [AV.ow 115 true y115 r]) (fun _=>())
theorem o26:Ok prog k26:=by
 refine okM [.cell 2 43] func26 ?_;intro y ⟨_,_⟩ r H Q hn hr;have:=hz (tc o69 tn);refine iA [1,2]<|iA [1,2,3]<|iD o69 [2,3] H fun _ H=>iA [2]<|vTT<|hr H
def u7(a0:Y32):Option Y50 :=
 gd ((u26 a0.1).isSome/\True)<|lt (vl (u26 a0.1)) fun v0 =>
 gd ((u27 a0.2.1).isSome/\True)<|lt (vl (u27 a0.2.1)) fun v1 =>
 gd ((u28 a0.2.2).isSome/\True)<|lt (vl (u28 a0.2.2)) fun v2 =>
 some (v0,v1,v2)
def k7:Ct:=lct 7 [.agg y32] (fun x=>u7 x.1) (fun r:Y50=>AV.agg [AV.ow 115 true y115 r.1,AV.ow 152 true y152 r.2.1.1,AV.ow 9 true Ty.str r.2.1.2.1,AV.ow 166 true y166 r.2.1.2.2,AV.ow 36 true y36 r.2.2]) (fun _=>())
theorem o7:Ok prog k7:=by
 refine okM [.cell 2 50] func7 ?_;intro y ⟨_,_⟩ r H Q hn hr;have:=hz (tc o28 (tc o27 (tc o26 tn)));refine iA [1,2]<|iA [1,2,3]<|iD o26 [1,2,3] H fun _ H=>iD o27 [1,2,3] H fun _ H=>iD o28 [2,3] H fun _ H=>iA [2]<|vTT<|hr H
def u90J0:Unit->Option Bool
 | _ =>
 some true
def u90L1(a0:List Int)(a1:List Int)(g1:Int->Option Bool):Int->Option Bool
 | v0 =>
 if(decide (v0 < (a0.length:Int))) then
  gd (ix v0 a0.length/\ix v0 a1.length/\True) <|
  if(a0.getD v0.toNat 0 != a1.getD v0.toNat 0) then
   some false
  else
   gd (in64 (v0+1)/\True) <|
   g1 (v0+1)
 else
  u90J0 ()
def u90(a0:List Int)(a1:List Int):Option Bool :=
 if((a0.length:Int) != (a1.length:Int)) then
  some false
 else
  lp (u90L1 a0 a1) 0
def k90:Ct:=lct 90 [.dat i64.sl,.dat i64.sl] (fun x=>u90 x.1 x.2.1) (fun r:Bool=>B r) (fun _=>())
theorem o90:Ok prog k90:=by
 refine okM [.tmp 4] func90 ?_;intro y ⟨a0,a1,_⟩ r H Q hn hr;refine iA [0,1]<|vQ<|iA [0,1,10]<|cD H (fun H=>iA [4]<|vTT<|fR<|hr H) fun H=>vK<|fQ<|jN r (fun(_:Unit)=>Z [] []) (u90J0) (fun _ H=>?_) (fun _ n0 e0 t0=>?_)
 ·refine iA [4]<|vTT<|hr H
 refine iA [0,1,5]<|vB<|lX (fun(v0:Int)=>Z [p 0 (L i64 a0),p 1 (L i64 a1),p 5 (I v0)] []) 0 H fun _ g1 b1 e1 t1 v0 H=>vQ<|iA [0,1,5,14]<|cD H (fun H=>?_) (fun H=>?_)
 ·refine vK<|fQ<|vQ<|vB<|iB [0,1,5,25] H fun H=>cD H (fun H=>iA [4]<|vTT<|fDD<|fR<|t1<|fDD<|t0<|hr H) fun H=>vK<|fK<|fQ<|jB [0,1,5] H fun H=>b1 H
 exact vE<|fE<|e1<|fX rfl<|n0 H
def u34(a0:Y36)(a1:Y36):Option Bool :=
 gd ((u90 a0.1 a1.1).isSome/\True) <|
 if(!vl (u90 a0.1 a1.1)) then
  some false
 else
  gd ((u90 a0.2.1 a1.2.1).isSome/\True) <|
  if(!vl (u90 a0.2.1 a1.2.1)) then
   some false
  else
   gd ((u90 a0.2.2.1 a1.2.2.1).isSome/\True) <|
   if(!vl (u90 a0.2.2.1 a1.2.2.1)) then
    some false
   else
    gd ((u90 a0.2.2.2 a1.2.2.2).isSome/\True) <|
    if(!vl (u90 a0.2.2.2 a1.2.2.2)) then
     some false
    else
     some true
def k34:Ct:=lct 34 [.agg y36,.agg y36] (fun x=>u34 x.1 x.2.1) (fun r:Bool=>B r) (fun _=>())
theorem o34:Ok prog k34:=by
 refine okM [.tmp 4] func34 ?_;intro y ⟨_,_,_⟩ r H Q hn hr;have:=hz (tc o90 tn);refine iA [2,3]<|vQ<|iB [2,3,10] H fun H=>cD H (fun H=>iA [4]<|vTT<|fR<|hr H) fun H=>vK<|fQ<|vQ<|iB [2,3,16] H fun H=>cD H (fun H=>iA [4]<|vTT<|fR<|hr H) fun H=>vK<|fQ<|vQ<|iB [2,3,22] H fun H=>cD H (fun H=>iA [4]<|vTT<|fR<|hr H) fun H=>vK<|fQ<|vQ<|iB [28] H fun H=>cD H (fun H=>iA [4]<|vTT<|fR<|hr H) fun H=>vK<|fQ<|iA [4]<|vTT<|hr H
def u9(a0:Y38)(a1:Y38):Option Bool :=
 if(a0.1 != a1.1) then
  some false
 else
  if(a0.2.1 != a1.2.1) then
   some false
  else
   if(a0.2.2.1 != a1.2.2.1) then
    some false
   else
    if(a0.2.2.2.1 != a1.2.2.2.1) then
     some false
    else
     if(a0.2.2.2.2.1 != a1.2.2.2.2.1) then
      some false
     else
      if(!decide (a0.2.2.2.2.2.1=a1.2.2.2.2.2.1)) then
       some false
      else
       gd ((u34 a0.2.2.2.2.2.2 a1.2.2.2.2.2.2).isSome/\True) <|
       if(!vl (u34 a0.2.2.2.2.2.2 a1.2.2.2.2.2.2)) then
        some false
       else
        some true
def k9:Ct:=lct 9 [.agg y38,.agg y38] (fun x=>u9 x.1 x.2.1) (fun r:Bool=>B r) (fun _=>())
theorem o9:Ok prog k9:=by
 refine okM [.tmp 4] func9 ?_;intro y ⟨_,_,_⟩ r H Q hn hr;have:=hz (tc o34 tn);refine iA [2,3]<|vQ<|iA [2,3,9]<|cD H (fun H=>iA [4]<|vTT<|fR<|hr H) fun H=>vK<|fQ<|vQ<|iA [2,3,14]<|cD H (fun H=>iA [4]<|vTT<|fR<|hr H) fun H=>vK<|fQ<|vQ<|iA [2,3,19]<|cD H (fun H=>iA [4]<|vTT<|fR<|hr H) fun H=>vK<|fQ<|vQ<|iA [2,3,24]<|cD H (fun H=>iA [4]<|vTT<|fR<|hr H) fun H=>vK<|fQ<|vQ<|iA [2,3,29]<|cD H (fun H=>iA [4]<|vTT<|fR<|hr H) fun H=>vK<|fQ<|vQ<|iA [2,3,34]<|cD H (fun H=>iA [4]<|vTT<|fR<|hr H) fun H=>vK<|fQ<|vQ<|iB [40] H fun H=>cD H (fun H=>iA [4]<|vTT<|fR<|hr H) fun H=>vK<|fQ<|iA [4]<|vTT<|hr H
def u37J0:Unit->Option Bool
 | _ =>
 some true
def u37L1(a0:List Y36)(a1:List Y36)(g1:Int->Option Bool):Int->Option Bool
 | v0 =>
 if(decide (v0 < (a0.length:Int))) then
  gd (ix v0 a0.length/\ix v0 a1.length/\(u34 (a0.getD v0.toNat (dflt y36)) (a1.getD v0.toNat (dflt y36))).isSome/\True) <|
  if(!vl (u34 (a0.getD v0.toNat (dflt y36)) (a1.getD v0.toNat (dflt y36)))) then
   some false
  else
   gd (in64 (v0+1)/\True) <|
   g1 (v0+1)
 else
  u37J0 ()
def u37(a0:List Y36)(a1:List Y36):Option Bool :=
 if((a0.length:Int) != (a1.length:Int)) then
  some false
 else
  lp (u37L1 a0 a1) 0
def k37:Ct:=lct 37 [.dat y36.sl,.dat y36.sl] (fun x=>u37 x.1 x.2.1) (fun r:Bool=>B r) (fun _=>())
theorem o37:Ok prog k37:=by
 refine okM [.tmp 4] func37 ?_;intro y ⟨a0,a1,_⟩ r H Q hn hr;have:=hz (tc o34 tn);refine iA [0,1]<|vQ<|iA [0,1,10]<|cD H (fun H=>iA [4]<|vTT<|fR<|hr H) fun H=>vK<|fQ<|jN r (fun(_:Unit)=>Z [] []) (u37J0) (fun _ H=>?_) (fun _ n0 e0 t0=>?_)
 ·refine iA [4]<|vTT<|hr H
 refine iA [0,1,5]<|vB<|lX (fun(v0:Int)=>Z [p 0 (L y36 a0),p 1 (L y36 a1),p 5 (I v0)] []) 0 H fun _ g1 b1 e1 t1 v0 H=>vQ<|iA [0,1,5,14]<|cD H (fun H=>?_) (fun H=>?_)
 ·refine vK<|fQ<|vQ<|vB<|iB [0,1,5,26] H fun H=>cD H (fun H=>iA [4]<|vTT<|fDD<|fR<|t1<|fDD<|t0<|hr H) fun H=>vK<|fK<|fQ<|jB [0,1,5] H fun H=>b1 H
 exact vE<|fE<|e1<|fX rfl<|n0 H
def u157(a0:Y166)(a1:Y166):Option Bool :=
 if(!decide (a0.1=a1.1)) then
  some false
 else
  if(a0.2.1 != a1.2.1) then
   some false
  else
   if(a0.2.2 != a1.2.2) then
    some false
   else
    some true
def k157:Ct:=lct 157 [.agg y166,.agg y166] (fun x=>u157 x.1 x.2.1) (fun r:Bool=>B r) (fun _=>())
theorem o157:Ok prog k157:=by
 refine okM [.tmp 4] func157 ?_;intro y ⟨_,_,_⟩ r H Q hn hr;refine iA [2,3]<|vQ<|iA [2,3,9]<|cD H (fun H=>iA [4]<|vTT<|fR<|hr H) fun H=>vK<|fQ<|vQ<|iA [2,3,14]<|cD H (fun H=>iA [4]<|vTT<|fR<|hr H) fun H=>vK<|fQ<|vQ<|iA [19]<|cD H (fun H=>iA [4]<|vTT<|fR<|hr H) fun H=>vK<|fQ<|iA [4]<|vTT<|hr H
def u94J0:Unit->Option Bool
 | _ =>
 some true
def u94L1(a0:List Y166)(a1:List Y166)(g1:Int->Option Bool):Int->Option Bool
 | v0 =>
 if(decide (v0 < (a0.length:Int))) then
  gd (ix v0 a0.length/\ix v0 a1.length/\(u157 (a0.getD v0.toNat (dflt y166)) (a1.getD v0.toNat (dflt y166))).isSome/\True) <|
  if(!vl (u157 (a0.getD v0.toNat (dflt y166)) (a1.getD v0.toNat (dflt y166)))) then
   some false
  else
   gd (in64 (v0+1)/\True) <|
   g1 (v0+1)
 else
  u94J0 ()
def u94(a0:List Y166)(a1:List Y166):Option Bool :=
 if((a0.length:Int) != (a1.length:Int)) then
  some false
 else
  lp (u94L1 a0 a1) 0
def k94:Ct:=lct 94 [.dat y166.sl,.dat y166.sl] (fun x=>u94 x.1 x.2.1) (fun r:Bool=>B r) (fun _=>())
theorem o94:Ok prog k94:=by
 refine okM [.tmp 4] func94 ?_;intro y ⟨a0,a1,_⟩ r H Q hn hr;have:=hz (tc o157 tn);refine iA [0,1]<|vQ<|iA [0,1,10]<|cD H (fun H=>iA [4]<|vTT<|fR<|hr H) fun H=>vK<|fQ<|jN r (fun(_:Unit)=>Z [] []) (u94J0) (fun _ H=>?_) (fun _ n0 e0 t0=>?_)
 ·refine iA [4]<|vTT<|hr H
 refine iA [0,1,5]<|vB<|lX (fun(v0:Int)=>Z [p 0 (L y166 a0),p 1 (L y166 a1),p 5 (I v0)] []) 0 H fun _ g1 b1 e1 t1 v0 H=>vQ<|iA [0,1,5,14]<|cD H (fun H=>?_) (fun H=>?_)
 ·refine vK<|fQ<|vQ<|vB<|iB [0,1,5,26] H fun H=>cD H (fun H=>iA [4]<|vTT<|fDD<|fR<|t1<|fDD<|t0<|hr H) fun H=>vK<|fK<|fQ<|jB [0,1,5] H fun H=>b1 H
 exact vE<|fE<|e1<|fX rfl<|n0 H
def u93J0:Unit->Option Bool
 | _ =>
 some true
def u93L1(a0:List ByteArray)(a1:List ByteArray)(g1:Int->Option Bool):Int->Option Bool
 | v0 =>
 if(decide (v0 < (a0.length:Int))) then
  gd (ix v0 a0.length/\ix v0 a1.length/\True) <|
  if(!decide (a0.getD v0.toNat (dflt Ty.str)=a1.getD v0.toNat (dflt Ty.str))) then
   some false
  else
   gd (in64 (v0+1)/\True) <|
   g1 (v0+1)
 else
  u93J0 ()
def u93(a0:List ByteArray)(a1:List ByteArray):Option Bool :=
 if((a0.length:Int) != (a1.length:Int)) then
  some false
 else
  lp (u93L1 a0 a1) 0
def k93:Ct:=lct 93 [.dat Ty.str.sl,.dat Ty.str.sl] (fun x=>u93 x.1 x.2.1) (fun r:Bool=>B r) (fun _=>())
theorem o93:Ok prog k93:=by
 refine okM [.tmp 4] func93 ?_;intro y ⟨a0,a1,_⟩ r H Q hn hr;refine iA [0,1]<|vQ<|iA [0,1,10]<|cD H (fun H=>iA [4]<|vTT<|fR<|hr H) fun H=>vK<|fQ<|jN r (fun(_:Unit)=>Z [] []) (u93J0) (fun _ H=>?_) (fun _ n0 e0 t0=>?_)
 ·refine iA [4]<|vTT<|hr H
 refine iA [0,1,5]<|vB<|lX (fun(v0:Int)=>Z [p 0 (L Ty.str a0),p 1 (L Ty.str a1),p 5 (I v0)] []) 0 H fun _ g1 b1 e1 t1 v0 H=>vQ<|iA [0,1,5,14]<|cD H (fun H=>?_) (fun H=>?_)
 ·refine vK<|fQ<|vQ<|vB<|iB [0,1,5,25] H fun H=>cD H (fun H=>iA [4]<|vTT<|fDD<|fR<|t1<|fDD<|t0<|hr H) fun H=>vK<|fK<|fQ<|jB [0,1,5] H fun H=>b1 H
 exact vE<|fE<|e1<|fX rfl<|n0 H
def u156(a0:Y152)(a1:Y152):Option Bool :=
 if(!decide (a0.1=a1.1)) then
  some false
 else
  if(a0.2.1 != a1.2.1) then
   some false
  else
   gd ((u90 a0.2.2 a1.2.2).isSome/\True) <|
   if(!vl (u90 a0.2.2 a1.2.2)) then
    some false
   else
    some true
def k156:Ct:=lct 156 [.agg y152,.agg y152] (fun x=>u156 x.1 x.2.1) (fun r:Bool=>B r) (fun _=>())
theorem o156:Ok prog k156:=by
 refine okM [.tmp 4] func156 ?_;intro y ⟨_,_,_⟩ r H Q hn hr;have:=hz (tc o90 tn);refine iA [2,3]<|vQ<|iA [2,3,9]<|cD H (fun H=>iA [4]<|vTT<|fR<|hr H) fun H=>vK<|fQ<|vQ<|iA [2,3,14]<|cD H (fun H=>iA [4]<|vTT<|fR<|hr H) fun H=>vK<|fQ<|vQ<|iB [20] H fun H=>cD H (fun H=>iA [4]<|vTT<|fR<|hr H) fun H=>vK<|fQ<|iA [4]<|vTT<|hr H
def u92J0:Unit->Option Bool
 | _ =>
 some true
def u92L1(a0:List Y152)(a1:List Y152)(g1:Int->Option Bool):Int->Option Bool
 | v0 =>
 if(decide (v0 < (a0.length:Int))) then
  gd (ix v0 a0.length/\ix v0 a1.length/\(u156 (a0.getD v0.toNat (dflt y152)) (a1.getD v0.toNat (dflt y152))).isSome/\True) <|
  if(!vl (u156 (a0.getD v0.toNat (dflt y152)) (a1.getD v0.toNat (dflt y152)))) then
   some false
  else
   gd (in64 (v0+1)/\True) <|
   g1 (v0+1)
 else
  u92J0 ()
def u92(a0:List Y152)(a1:List Y152):Option Bool :=
 if((a0.length:Int) != (a1.length:Int)) then
  some false
 else
  lp (u92L1 a0 a1) 0
def k92:Ct:=lct 92 [.dat y152.sl,.dat y152.sl] (fun x=>u92 x.1 x.2.1) (fun r:Bool=>B r) (fun _=>())
theorem o92:Ok prog k92:=by
 refine okM [.tmp 4] func92 ?_;intro y ⟨a0,a1,_⟩ r H Q hn hr;have:=hz (tc o156 tn);refine iA [0,1]<|vQ<|iA [0,1,10]<|cD H (fun H=>iA [4]<|vTT<|fR<|hr H) fun H=>vK<|fQ<|jN r (fun(_:Unit)=>Z [] []) (u92J0) (fun _ H=>?_) (fun _ n0 e0 t0=>?_)
 ·refine iA [4]<|vTT<|hr H
 refine iA [0,1,5]<|vB<|lX (fun(v0:Int)=>Z [p 0 (L y152 a0),p 1 (L y152 a1),p 5 (I v0)] []) 0 H fun _ g1 b1 e1 t1 v0 H=>vQ<|iA [0,1,5,14]<|cD H (fun H=>?_) (fun H=>?_)
 ·refine vK<|fQ<|vQ<|vB<|iB [0,1,5,26] H fun H=>cD H (fun H=>iA [4]<|vTT<|fDD<|fR<|t1<|fDD<|t0<|hr H) fun H=>vK<|fK<|fQ<|jB [0,1,5] H fun H=>b1 H
 exact vE<|fE<|e1<|fX rfl<|n0 H
def u36(a0:Y47)(a1:Y47):Option Bool :=
 gd ((u92 a0.1 a1.1).isSome/\True) <|
 if(!vl (u92 a0.1 a1.1)) then
  some false
 else
  gd ((u93 a0.2.1 a1.2.1).isSome/\True) <|
  if(!vl (u93 a0.2.1 a1.2.1)) then
   some false
  else
   gd ((u94 a0.2.2 a1.2.2).isSome/\True) <|
   if(!vl (u94 a0.2.2 a1.2.2)) then
    some false
   else
    some true
def k36:Ct:=lct 36 [.agg y47,.agg y47] (fun x=>u36 x.1 x.2.1) (fun r:Bool=>B r) (fun _=>())
theorem o36:Ok prog k36:=by
 refine okM [.tmp 4] func36 ?_;intro y ⟨_,_,_⟩ r H Q hn hr;have:=hz (tc o94 (tc o93 (tc o92 tn)));refine iA [2,3]<|vQ<|iB [2,3,10] H fun H=>cD H (fun H=>iA [4]<|vTT<|fR<|hr H) fun H=>vK<|fQ<|vQ<|iB [2,3,16] H fun H=>cD H (fun H=>iA [4]<|vTT<|fR<|hr H) fun H=>vK<|fQ<|vQ<|iB [22] H fun H=>cD H (fun H=>iA [4]<|vTT<|fR<|hr H) fun H=>vK<|fQ<|iA [4]<|vTT<|hr H
def u299(a0:Y291)(a1:Y291):Option Bool :=
 gd ((u90 a0.1 a1.1).isSome/\True) <|
 if(!vl (u90 a0.1 a1.1)) then
  some false
 else
  gd ((u90 a0.2.1 a1.2.1).isSome/\True) <|
  if(!vl (u90 a0.2.1 a1.2.1)) then
   some false
  else
   gd ((u90 a0.2.2 a1.2.2).isSome/\True) <|
   if(!vl (u90 a0.2.2 a1.2.2)) then
    some false
   else
    some true
def k299:Ct:=lct 299 [.agg y291,.agg y291] (fun x=>u299 x.1 x.2.1) (fun r:Bool=>B r) (fun _=>())
theorem o299:Ok prog k299:=by
 refine okM [.tmp 4] func299 ?_;intro y ⟨_,_,_⟩ r H Q hn hr;have:=hz (tc o90 tn);refine iA [2,3]<|vQ<|iB [2,3,10] H fun H=>cD H (fun H=>iA [4]<|vTT<|fR<|hr H) fun H=>vK<|fQ<|vQ<|iB [2,3,16] H fun H=>cD H (fun H=>iA [4]<|vTT<|fR<|hr H) fun H=>vK<|fQ<|vQ<|iB [22] H fun H=>cD H (fun H=>iA [4]<|vTT<|fR<|hr H) fun H=>vK<|fQ<|iA [4]<|vTT<|hr H
def u281J0:Unit->Option Bool
 | _ =>
 some true
def u281L1(a0:List Y291)(a1:List Y291)(g1:Int->Option Bool):Int->Option Bool
 | v0 =>
 if(decide (v0 < (a0.length:Int))) then
  gd (ix v0 a0.length/\ix v0 a1.length/\(u299 (a0.getD v0.toNat (dflt y291)) (a1.getD v0.toNat (dflt y291))).isSome/\True) <|
  if(!vl (u299 (a0.getD v0.toNat (dflt y291)) (a1.getD v0.toNat (dflt y291)))) then
   some false
  else
   gd (in64 (v0+1)/\True) <|
   g1 (v0+1)
 else
  u281J0 ()
def u281(a0:List Y291)(a1:List Y291):Option Bool :=
 if((a0.length:Int) != (a1.length:Int)) then
  some false
 else
  lp (u281L1 a0 a1) 0
def k281:Ct:=lct 281 [.dat y291.sl,.dat y291.sl] (fun x=>u281 x.1 x.2.1) (fun r:Bool=>B r) (fun _=>())
theorem o281:Ok prog k281:=by
 refine okM [.tmp 4] func281 ?_;intro y ⟨a0,a1,_⟩ r H Q hn hr;have:=hz (tc o299 tn);refine iA [0,1]<|vQ<|iA [0,1,10]<|cD H (fun H=>iA [4]<|vTT<|fR<|hr H) fun H=>vK<|fQ<|jN r (fun(_:Unit)=>Z [] []) (u281J0) (fun _ H=>?_) (fun _ n0 e0 t0=>?_)
 ·refine iA [4]<|vTT<|hr H
 refine iA [0,1,5]<|vB<|lX (fun(v0:Int)=>Z [p 0 (L y291 a0),p 1 (L y291 a1),p 5 (I v0)] []) 0 H fun _ g1 b1 e1 t1 v0 H=>vQ<|iA [0,1,5,14]<|cD H (fun H=>?_) (fun H=>?_)
 ·refine vK<|fQ<|vQ<|vB<|iB [0,1,5,26] H fun H=>cD H (fun H=>iA [4]<|vTT<|fDD<|fR<|t1<|fDD<|t0<|hr H) fun H=>vK<|fK<|fQ<|jB [0,1,5] H fun H=>b1 H
 exact vE<|fE<|e1<|fX rfl<|n0 H
def u246(a0:Y243)(a1:Y243):Option Bool :=
 if(a0.1 != a1.1) then
  some false
 else
  if(a0.2.1 != a1.2.1) then
   some false
  else
   if(a0.2.2.1 != a1.2.2.1) then
    some false
   else
    if(a0.2.2.2.1 != a1.2.2.2.1) then
     some false
    else
     gd ((u281 a0.2.2.2.2.1 a1.2.2.2.2.1).isSome/\True) <|
     if(!vl (u281 a0.2.2.2.2.1 a1.2.2.2.2.1)) then
      some false
     else
      gd ((u281 a0.2.2.2.2.2 a1.2.2.2.2.2).isSome/\True) <|
      if(!vl (u281 a0.2.2.2.2.2 a1.2.2.2.2.2)) then
       some false
      else
       some true
def k246:Ct:=lct 246 [.agg y243,.agg y243] (fun x=>u246 x.1 x.2.1) (fun r:Bool=>B r) (fun _=>())
theorem o246:Ok prog k246:=by
 refine okM [.tmp 4] func246 ?_;intro y ⟨_,_,_⟩ r H Q hn hr;have:=hz (tc o281 tn);refine iA [2,3]<|vQ<|iA [2,3,9]<|cD H (fun H=>iA [4]<|vTT<|fR<|hr H) fun H=>vK<|fQ<|vQ<|iA [2,3,14]<|cD H (fun H=>iA [4]<|vTT<|fR<|hr H) fun H=>vK<|fQ<|vQ<|iA [2,3,19]<|cD H (fun H=>iA [4]<|vTT<|fR<|hr H) fun H=>vK<|fQ<|vQ<|iA [2,3,24]<|cD H (fun H=>iA [4]<|vTT<|fR<|hr H) fun H=>vK<|fQ<|vQ<|iB [2,3,30] H fun H=>cD H (fun H=>iA [4]<|vTT<|fR<|hr H) fun H=>vK<|fQ<|vQ<|iB [36] H fun H=>cD H (fun H=>iA [4]<|vTT<|fR<|hr H) fun H=>vK<|fQ<|iA [4]<|vTT<|hr H
def u200J0:Unit->Option Bool
 | _ =>
 some true
def u200L1(a0:List Y243)(a1:List Y243)(g1:Int->Option Bool):Int->Option Bool
 | v0 =>
 if(decide (v0 < (a0.length:Int))) then
  gd (ix v0 a0.length/\ix v0 a1.length/\(u246 (a0.getD v0.toNat (dflt y243)) (a1.getD v0.toNat (dflt y243))).isSome/\True) <|
  if(!vl (u246 (a0.getD v0.toNat (dflt y243)) (a1.getD v0.toNat (dflt y243)))) then
   some false
  else
   gd (in64 (v0+1)/\True) <|
   g1 (v0+1)
 else
  u200J0 ()
def u200(a0:List Y243)(a1:List Y243):Option Bool :=
 if((a0.length:Int) != (a1.length:Int)) then
  some false
 else
  lp (u200L1 a0 a1) 0
def k200:Ct:=lct 200 [.dat y243.sl,.dat y243.sl] (fun x=>u200 x.1 x.2.1) (fun r:Bool=>B r) (fun _=>())
theorem o200:Ok prog k200:=by
 refine okM [.tmp 4] func200 ?_;intro y ⟨a0,a1,_⟩ r H Q hn hr;have:=hz (tc o246 tn);refine iA [0,1]<|vQ<|iA [0,1,10]<|cD H (fun H=>iA [4]<|vTT<|fR<|hr H) fun H=>vK<|fQ<|jN r (fun(_:Unit)=>Z [] []) (u200J0) (fun _ H=>?_) (fun _ n0 e0 t0=>?_)
 ·refine iA [4]<|vTT<|hr H
 refine iA [0,1,5]<|vB<|lX (fun(v0:Int)=>Z [p 0 (L y243 a0),p 1 (L y243 a1),p 5 (I v0)] []) 0 H fun _ g1 b1 e1 t1 v0 H=>vQ<|iA [0,1,5,14]<|cD H (fun H=>?_) (fun H=>?_)
 ·refine vK<|fQ<|vQ<|vB<|iB [0,1,5,26] H fun H=>cD H (fun H=>iA [4]<|vTT<|fDD<|fR<|t1<|fDD<|t0<|hr H) fun H=>vK<|fK<|fQ<|jB [0,1,5] H fun H=>b1 H
 exact vE<|fE<|e1<|fX rfl<|n0 H
def u245(a0:Y170)(a1:Y170):Option Bool :=
 if(!decide (a0.1=a1.1)) then
  some false
 else
  if(a0.2.1 != a1.2.1) then
   some false
  else
   if(a0.2.2.1 != a1.2.2.1) then
    some false
   else
    if(!a0.2.2.2==a1.2.2.2) then
     some false
    else
     some true
def k245:Ct:=lct 245 [.agg y170,.agg y170] (fun x=>u245 x.1 x.2.1) (fun r:Bool=>B r) (fun _=>())
theorem o245:Ok prog k245:=by
 refine okM [.tmp 4] func245 ?_;intro y ⟨_,_,_⟩ r H Q hn hr;refine iA [2,3]<|vQ<|iA [2,3,9]<|cD H (fun H=>iA [4]<|vTT<|fR<|hr H) fun H=>vK<|fQ<|vQ<|iA [2,3,14]<|cD H (fun H=>iA [4]<|vTT<|fR<|hr H) fun H=>vK<|fQ<|vQ<|iA [2,3,19]<|cD H (fun H=>iA [4]<|vTT<|fR<|hr H) fun H=>vK<|fQ<|vQ<|iA [24]<|cD H (fun H=>iA [4]<|vTT<|fR<|hr H) fun H=>vK<|fQ<|iA [4]<|vTT<|hr H
def u199J0:Unit->Option Bool
 | _ =>
 some true
def u199L1(a0:List Y170)(a1:List Y170)(g1:Int->Option Bool):Int->Option Bool
 | v0 =>
 if(decide (v0 < (a0.length:Int))) then
  gd (ix v0 a0.length/\ix v0 a1.length/\(u245 (a0.getD v0.toNat (dflt y170)) (a1.getD v0.toNat (dflt y170))).isSome/\True) <|
  if(!vl (u245 (a0.getD v0.toNat (dflt y170)) (a1.getD v0.toNat (dflt y170)))) then
   some false
  else
   gd (in64 (v0+1)/\True) <|
   g1 (v0+1)
 else
  u199J0 ()
def u199(a0:List Y170)(a1:List Y170):Option Bool :=
 if((a0.length:Int) != (a1.length:Int)) then
  some false
 else
  lp (u199L1 a0 a1) 0
def k199:Ct:=lct 199 [.dat y170.sl,.dat y170.sl] (fun x=>u199 x.1 x.2.1) (fun r:Bool=>B r) (fun _=>())
theorem o199:Ok prog k199:=by
 refine okM [.tmp 4] func199 ?_;intro y ⟨a0,a1,_⟩ r H Q hn hr;have:=hz (tc o245 tn);refine iA [0,1]<|vQ<|iA [0,1,10]<|cD H (fun H=>iA [4]<|vTT<|fR<|hr H) fun H=>vK<|fQ<|jN r (fun(_:Unit)=>Z [] []) (u199J0) (fun _ H=>?_) (fun _ n0 e0 t0=>?_)
 ·refine iA [4]<|vTT<|hr H
 refine iA [0,1,5]<|vB<|lX (fun(v0:Int)=>Z [p 0 (L y170 a0),p 1 (L y170 a1),p 5 (I v0)] []) 0 H fun _ g1 b1 e1 t1 v0 H=>vQ<|iA [0,1,5,14]<|cD H (fun H=>?_) (fun H=>?_)
 ·refine vK<|fQ<|vQ<|vB<|iB [0,1,5,26] H fun H=>cD H (fun H=>iA [4]<|vTT<|fDD<|fR<|t1<|fDD<|t0<|hr H) fun H=>vK<|fK<|fQ<|jB [0,1,5] H fun H=>b1 H
 exact vE<|fE<|e1<|fX rfl<|n0 H
def u155(a0:Y115)(a1:Y115):Option Bool :=
 if(!decide (a0.1=a1.1)) then
  some false
 else
  if(a0.2.1 != a1.2.1) then
   some false
  else
   gd ((u199 a0.2.2.1 a1.2.2.1).isSome/\True) <|
   if(!vl (u199 a0.2.2.1 a1.2.2.1)) then
    some false
   else
    gd ((u200 a0.2.2.2.1 a1.2.2.2.1).isSome/\True) <|
    if(!vl (u200 a0.2.2.2.1 a1.2.2.2.1)) then
     some false
    else
     gd ((u90 a0.2.2.2.2.1 a1.2.2.2.2.1).isSome/\True) <|
     if(!vl (u90 a0.2.2.2.2.1 a1.2.2.2.2.1)) then
      some false
     else
      if(a0.2.2.2.2.2.1 != a1.2.2.2.2.2.1) then
       some false
      else
       if(a0.2.2.2.2.2.2 != a1.2.2.2.2.2.2) then
        some false
       else
        some true
def k155:Ct:=lct 155 [.agg y115,.agg y115] (fun x=>u155 x.1 x.2.1) (fun r:Bool=>B r) (fun _=>())
theorem o155:Ok prog k155:=by
 refine okM [.tmp 4] func155 ?_;intro y ⟨_,_,_⟩ r H Q hn hr;have:=hz (tc o90 (tc o200 (tc o199 tn)));refine iA [2,3]<|vQ<|iA [2,3,9]<|cD H (fun H=>iA [4]<|vTT<|fR<|hr H) fun H=>vK<|fQ<|vQ<|iA [2,3,14]<|cD H (fun H=>iA [4]<|vTT<|fR<|hr H) fun H=>vK<|fQ<|vQ<|iB [2,3,20] H fun H=>cD H (fun H=>iA [4]<|vTT<|fR<|hr H) fun H=>vK<|fQ<|vQ<|iB [2,3,26] H fun H=>cD H (fun H=>iA [4]<|vTT<|fR<|hr H) fun H=>vK<|fQ<|vQ<|iB [2,3,32] H fun H=>cD H (fun H=>iA [4]<|vTT<|fR<|hr H) fun H=>vK<|fQ<|vQ<|iA [2,3,37]<|cD H (fun H=>iA [4]<|vTT<|fR<|hr H) fun H=>vK<|fQ<|vQ<|iA [42]<|cD H (fun H=>iA [4]<|vTT<|fR<|hr H) fun H=>vK<|fQ<|iA [4]<|vTT<|hr H
def u91J0:Unit->Option Bool
 | _ =>
 some true
def u91L1(a0:List Y115)(a1:List Y115)(g1:Int->Option Bool):Int->Option Bool
 | v0 =>
 if(decide (v0 < (a0.length:Int))) then
  gd (ix v0 a0.length/\ix v0 a1.length/\(u155 (a0.getD v0.toNat (dflt y115)) (a1.getD v0.toNat (dflt y115))).isSome/\True) <|
  if(!vl (u155 (a0.getD v0.toNat (dflt y115)) (a1.getD v0.toNat (dflt y115)))) then
   some false
  else
   gd (in64 (v0+1)/\True) <|
   g1 (v0+1)
 else
  u91J0 ()
def u91(a0:List Y115)(a1:List Y115):Option Bool :=
 if((a0.length:Int) != (a1.length:Int)) then
  some false
 else
  lp (u91L1 a0 a1) 0
def k91:Ct:=lct 91 [.dat y115.sl,.dat y115.sl] (fun x=>u91 x.1 x.2.1) (fun r:Bool=>B r) (fun _=>())
theorem o91:Ok prog k91:=by
 refine okM [.tmp 4] func91 ?_;intro y ⟨a0,a1,_⟩ r H Q hn hr;have:=hz (tc o155 tn);refine iA [0,1]<|vQ<|iA [0,1,10]<|cD H (fun H=>iA [4]<|vTT<|fR<|hr H) fun H=>vK<|fQ<|jN r (fun(_:Unit)=>Z [] []) (u91J0) (fun _ H=>?_) (fun _ n0 e0 t0=>?_)
 ·refine iA [4]<|vTT<|hr H
 refine iA [0,1,5]<|vB<|lX (fun(v0:Int)=>Z [p 0 (L y115 a0),p 1 (L y115 a1),p 5 (I v0)] []) 0 H fun _ g1 b1 e1 t1 v0 H=>vQ<|iA [0,1,5,14]<|cD H (fun H=>?_) (fun H=>?_)
 ·refine vK<|fQ<|vQ<|vB<|iB [0,1,5,26] H fun H=>cD H (fun H=>iA [4]<|vTT<|fDD<|fR<|t1<|fDD<|t0<|hr H) fun H=>vK<|fK<|fQ<|jB [0,1,5] H fun H=>b1 H
 exact vE<|fE<|e1<|fX rfl<|n0 H
def u35(a0:List Y115)(a1:List Y115):Option Bool :=
 gd ((u91 a0 a1).isSome/\True) <|
 if(!vl (u91 a0 a1)) then
  some false
 else
  some true
def k35:Ct:=lct 35 [.agg y115.sl,.agg y115.sl] (fun x=>u35 x.1 x.2.1) (fun r:Bool=>B r) (fun _=>())
theorem o35:Ok prog k35:=by
 refine okM [.tmp 4] func35 ?_;intro y ⟨_,_,_⟩ r H Q hn hr;have:=hz (tc o91 tn);refine iA [2,3]<|vQ<|iB [10] H fun H=>cD H (fun H=>iA [4]<|vTT<|fR<|hr H) fun H=>vK<|fQ<|iA [4]<|vTT<|hr H
def u10(a0:Y50)(a1:Y50):Option Bool :=
 gd ((u35 a0.1 a1.1).isSome/\True) <|
 if(!vl (u35 a0.1 a1.1)) then
  some false
 else
  gd ((u36 a0.2.1 a1.2.1).isSome/\True) <|
  if(!vl (u36 a0.2.1 a1.2.1)) then
   some false
  else
   gd ((u37 a0.2.2 a1.2.2).isSome/\True) <|
   if(!vl (u37 a0.2.2 a1.2.2)) then
    some false
   else
    some true
def k10:Ct:=lct 10 [.agg y50,.agg y50] (fun x=>u10 x.1 x.2.1) (fun r:Bool=>B r) (fun _=>())
theorem o10:Ok prog k10:=by
 refine okM [.tmp 4] func10 ?_;intro y ⟨_,_,_⟩ r H Q hn hr;have:=hz (tc o37 (tc o36 (tc o35 tn)));refine iA [2,3]<|vQ<|iB [2,3,10] H fun H=>cD H (fun H=>iA [4]<|vTT<|fR<|hr H) fun H=>vK<|fQ<|vQ<|iB [2,3,16] H fun H=>cD H (fun H=>iA [4]<|vTT<|fR<|hr H) fun H=>vK<|fQ<|vQ<|iB [22] H fun H=>cD H (fun H=>iA [4]<|vTT<|fR<|hr H) fun H=>vK<|fQ<|iA [4]<|vTT<|hr H
def u100J0:Int->Option Int
 | v2 =>
 some v2
def u100L1(a0:List Int)(g1:Int×Int->Option Int):Int×Int->Option Int
 | (v0,v1) =>
 if(decide (v1 < (a0.length:Int))) then
  gd (ix v1 a0.length/\True) <|
  if(a0.getD v1.toNat 0 != v0) then
   some (-1)
  else
   gd (in64 (v0+1)/\True) <|
   gd (in64 (v1+1)/\True) <|
   g1 (v0+1,v1+1)
 else
  u100J0 v0
def u100(a0:List Int)(a1:Int):Option Int :=
 lp (u100L1 a0) (a1,0)
def k100:Ct:=lct 100 [.dat i64.sl,.dat i64] (fun x=>u100 x.1 x.2.1) (fun r:Int=>I r) (fun _=>())
theorem o100:Ok prog k100:=by
 refine okM [.tmp 4] func100 ?_;intro y ⟨a0,a1,_⟩ r H Q hn hr;refine iA [0,1]<|jN r (fun(v2:Int)=>Z [p 1 (J v2)] []) (u100J0) (fun v2 H=>?_) (fun _ n0 e0 t0=>?_)
 ·refine iA [4]<|vTT<|hr H
 refine iA [0,1,5]<|vB<|lX (fun((v0,v1):Int×Int)=>Z [p 0 (L i64 a0),p 1 (J v0),p 5 (I v1)] []) (a1,0) H fun _ g1 b1 e1 t1 ⟨v0,v1⟩ H=>vQ<|iA [0,1,5,9]<|cD H (fun H=>?_) (fun H=>?_)
 ·refine vK<|fQ<|vQ<|vB<|vQ<|iB [0,1,5,17] H fun H=>cD H (fun H=>iA [4]<|vTT<|fR<|fDD<|fR<|t1<|fDD<|t0<|hr H) fun H=>vK<|fQ<|jB [0,1,5] H fun H=>fK<|fQ<|jB [0,1,5] H fun H=>b1 H
 exact vE<|fE<|e1<|fX rfl<|n0 H
def u42(a0:Y36)(a1:Int):Option Int :=
 gd ((u100 a0.1 a1).isSome/\True)<|lt (vl (u100 a0.1 a1)) fun v0 =>
 if(decide (v0<0)) then
  some (-1)
 else
  gd ((u100 a0.2.1 v0).isSome/\True)<|lt (vl (u100 a0.2.1 v0)) fun v1 =>
  if(decide (v1<0)) then
   some (-1)
  else
   gd ((u100 a0.2.2.1 v1).isSome/\True)<|lt (vl (u100 a0.2.2.1 v1)) fun v2 =>
   if(decide (v2<0)) then
    some (-1)
   else
    gd ((u100 a0.2.2.2 v2).isSome/\True)<|lt (vl (u100 a0.2.2.2 v2)) fun v3 =>
    if(decide (v3<0)) then
     some (-1)
    else
     some v3
def k42:Ct:=lct 42 [.agg y36,.dat i64] (fun x=>u42 x.1 x.2.1) (fun r:Int=>I r) (fun _=>())
theorem o42:Ok prog k42:=by
 refine okM [.tmp 4] func42 ?_;intro y ⟨_,_,_⟩ r H Q hn hr;have:=hz (tc o100 tn);refine iA [1,2]<|iD o100 [1,2] H fun _ H=>vQ<|iA [1,2,10]<|cD H (fun H=>iA [4]<|vTT<|fR<|hr H) fun H=>vK<|fQ<|iD o100 [1,2] H fun _ H=>vQ<|iA [1,2,16]<|cD H (fun H=>iA [4]<|vTT<|fR<|hr H) fun H=>vK<|fQ<|iD o100 [1,2] H fun _ H=>vQ<|iA [1,2,22]<|cD H (fun H=>iA [4]<|vTT<|fR<|hr H) fun H=>vK<|fQ<|iD o100 [1] H fun _ H=>vQ<|iA [1,28]<|cD H (fun H=>iA [4]<|vTT<|fR<|hr H) fun H=>vK<|fQ<|iA [4]<|vTT<|hr H
def u13(a0:Y38)(a1:Int):Option Int :=
 gd ((u42 a0.2.2.2.2.2.2 a1).isSome/\True)<|lt (vl (u42 a0.2.2.2.2.2.2 a1)) fun v0 =>
 if(decide (v0<0)) then
  some (-1)
 else
  some v0
def k13:Ct:=lct 13 [.agg y38,.dat i64] (fun x=>u13 x.1 x.2.1) (fun r:Int=>I r) (fun _=>())
theorem o13:Ok prog k13:=by
 refine okM [.tmp 4] func13 ?_;intro y ⟨_,_,_⟩ r H Q hn hr;have:=hz (tc o42 tn);refine iA [1,2]<|iD o42 [1] H fun _ H=>vQ<|iA [1,10]<|cD H (fun H=>iA [4]<|vTT<|fR<|hr H) fun H=>vK<|fQ<|iA [4]<|vTT<|hr H
def u88(a0:Int):Option ByteArray :=
 gd ((u152 a0 10).isSome/\True)<|lt (vl (u152 a0 10)) fun v0 =>
 some v0
def k88:Ct:=lct 88 [.dat i64] (fun x=>u88 x.1) (fun r:ByteArray=>S r) (fun _=>())
theorem o88:Ok prog k88:=by
 refine okM [.tmp 2] func88 ?_;intro y ⟨_,_⟩ r H Q hn hr;have:=hz (tc o152 tn);refine iA [0]<|iD o152 [2] H fun _ H=>vTT<|hr H
def u154J0(a1:ByteArray):List ByteArray->Option ByteArray
 | v5 =>
 gd ((u153 v5 a1).isSome/\True)<|lt (vl (u153 v5 a1)) fun v6 =>
 some v6
def u154L1(a0:List Int)(a1:ByteArray)(g1:Int×List ByteArray->Option ByteArray):Int×List ByteArray->Option ByteArray
 | (v2,v3) =>
 if(decide (v2 < (a0.length:Int))) then
  gd (ix v2 a0.length/\True) <|
  gd ((u88 (a0.getD v2.toNat 0)).isSome/\ix v2 v3.length/\v2.toNat<v3.length/\True)<|lt (vl (u88 (a0.getD v2.toNat 0))) fun v4 =>
  gd (in64 (v2+1)/\True) <|
  g1 (v2+1,v3.set v2.toNat v4)
 else
  u154J0 a1 v3
def u154(a0:List Int)(a1:ByteArray):Option ByteArray :=
 gd ((0<=(a0.length:Int)/\(a0.length:Int)=(a0.length:Int)/\(a0.length:Int).toNat*16<=281474976710656/\(a0.length:Int)<=9223372036854775807)/\True) <|
 lp (u154L1 a0 a1) ((0,List.replicate (a0.length:Int).toNat (ByteArray.mk #[])))
def k154:Ct:=lct 154 [.dat i64.sl,.dat Ty.str] (fun x=>u154 x.1 x.2.1) (fun r:ByteArray=>S r) (fun _=>())
theorem o154:Ok prog k154:=by
 refine okM [.tmp 4] func154 ?_;intro y ⟨a0,a1,_⟩ r H Q hn hr;have:=hz (tc o153 (tc o88 tn));refine iA [0,1]<|iB [0,1,5] H fun H=>jN r (fun(v5:List ByteArray)=>Z [p 1 (U a1),p 5 (O 10)] [(10,A 9 Ty.str v5 0)]) (u154J0 a1) (fun v5 H=>?_) (fun _ n0 e0 t0=>?_)
 ·refine iD o153 [4] H fun _ H=>vTT<|hr H
 refine iA [1,5,11,12,13]<|vB<|lX (fun((v2,v3):Int×List ByteArray)=>Z [p 1 (U a1),p 5 (O 10),p 11 (L i64 a0),p 12 (I (a0.length:Int)),p 13 (I v2)] [(10,A 9 Ty.str v3 0)]) ((0,List.replicate (a0.length:Int).toNat (ByteArray.mk #[]))) H fun _ g1 b1 e1 t1 ⟨v2,v3⟩ H=>iA [1,5,11,12,13,14]<|vQ<|cD H (fun H=>vK<|fQ<|vQ<|vB<|iB [1,5,6,7,11,12,13] H fun H=>jD o88 [1,5,11,12,13] H fun _ H=>fK<|fQ<|jB [1,5,11,12,13] H fun H=>b1 H) fun H=>vE<|fE<|e1<|fX rfl<|n0 H
def u89(a0:Y36):Option ByteArray :=
 gd ((u154 a0.1 (ByteArray.mk #[44])).isSome/\(u154 a0.2.1 (ByteArray.mk #[44])).isSome/\(u154 a0.2.2.1 (ByteArray.mk #[44])).isSome/\(u154 a0.2.2.2 (ByteArray.mk #[44])).isSome/\(u153 [vl (u154 a0.1 (ByteArray.mk #[44])),vl (u154 a0.2.1 (ByteArray.mk #[44])),vl (u154 a0.2.2.1 (ByteArray.mk #[44])),vl (u154 a0.2.2.2 (ByteArray.mk #[44]))] (ByteArray.mk #[124])).isSome/\True)<|lt ((vl (u153 [vl (u154 a0.1 (ByteArray.mk #[44])),vl (u154 a0.2.1 (ByteArray.mk #[44])),vl (u154 a0.2.2.1 (ByteArray.mk #[44])),vl (u154 a0.2.2.2 (ByteArray.mk #[44]))] (ByteArray.mk #[124])),vl (u154 a0.1 (ByteArray.mk #[44])),vl (u154 a0.2.1 (ByteArray.mk #[44])),vl (u154 a0.2.2.1 (ByteArray.mk #[44])),vl (u154 a0.2.2.2 (ByteArray.mk #[44])))) fun(v0,_,_,_,_) =>
 some v0
def k89:Ct:=lct 89 [.agg y36] (fun x=>u89 x.1) (fun r:ByteArray=>S r) (fun _=>())
theorem o89:Ok prog k89:=by
 refine okM [.tmp 2] func89 ?_;intro y ⟨a0,_⟩ r H Q hn hr;have:=hz (tc o153 (tc o154 tn));refine iA [1]<|qD (fun(v0,v1,v2,v3,v4)=>Z [p 2 (S v0)] [(15,A 9 Ty.str [v1,v2,v3,v4] 0),(1,K 36 y36 a0)]) H fun⟨v0,v1,v2,v3,v4⟩ H =>
  vTT<|hr H
def u87(a0:Y47)(a1:List Y115)(a2:Y126):Option ByteArray :=
 if(decide (a2.1<0)) then
  gd (ix a2.2.1 a0.2.2.length/\True)<|lt (a0.2.2.getD a2.2.1.toNat (dflt y166)) fun v0 =>
  some v0.1
 else
  gd (ix a2.1 a0.1.length/\True)<|lt (a0.1.getD a2.1.toNat (dflt y152)) fun v1 =>
  gd (v1.1.size+(ByteArray.mk #[47]).size<=9223372036854775807/\ix v1.2.1 a1.length/\ix a2.2.1 (a1.getD v1.2.1.toNat (dflt y115)).2.2.1.length/\(v1.1++ByteArray.mk #[47]).size+((a1.getD v1.2.1.toNat (dflt y115)).2.2.1.getD a2.2.1.toNat (dflt y170)).1.size<=9223372036854775807/\True)<|lt (v1.1++ByteArray.mk #[47]++((a1.getD v1.2.1.toNat (dflt y115)).2.2.1.getD a2.2.1.toNat (dflt y170)).1) fun v2 =>
  some v2
def k87:Ct:=lct 87 [.agg y47,.agg y115.sl,.agg y126] (fun x=>u87 x.1 x.2.1 x.2.2.1) (fun r:ByteArray=>S r) (fun _=>())
theorem o87:Ok prog k87:=by
 refine okM [.tmp 6] func87 ?_;intro y ⟨a0,a1,a2,_⟩ r H Q hn hr;refine iA [3,4,5]<|vQ<|iA [3,4,5,10]<|cD H (fun H=>qD (fun v0=>Z [p 6 (U v0.1)] [(5,K 126 y126 a2),(4,bx 43 [L y115 a1]),(3,K 47 y47 a0)]) H fun v0 H=>vTT<|fR<|hr H) fun H=>vK<|fQ<|qD (fun v1=>Z [p 4 (R 4),p 5 (R 5),p 7 (R 7)] [(7,K 152 y152 v1),(5,K 126 y126 a2),(4,bx 43 [L y115 a1]),(3,K 47 y47 a0)]) H fun v1 H=>qD (fun v2=>Z [p 6 (S v2)] [(7,K 152 y152 v1),(5,K 126 y126 a2),(4,bx 43 [L y115 a1]),(3,K 47 y47 a0)]) H fun v2 H=>vTT<|hr H
def u75J4:List Y126->Option (List Y126)
 | v24 =>
 some v24
def u75L5(a0:Y47)(g5:Int×List Y126->Option (List Y126)):Int×List Y126->Option (List Y126)
 | (v21,v22) =>
 if(decide (v21 < (a0.2.2.length:Int))) then
  gd (ix v21 a0.2.2.length/\True)<|lt (a0.2.2.getD v21.toNat (dflt y166)) fun v23 =>
  gd ((v22.length+[(-1,v21,v23.2.2,v23.2.1==1)].length<=9223372036854775807/\(v22.length+[(-1,v21,v23.2.2,v23.2.1==1)].length)*32<=140737488355328)/\True) <|
  gd (in64 (v21+1)/\True) <|
  g5 ((v21+1,v22++[(-1,v21,v23.2.2,v23.2.1==1)]))
 else
  u75J4 v22
def u75J0(a0:Y47):List Y126->Option (List Y126)
 | v17 =>
 lp (u75L5 a0) (0,v17)
def u75J2(v8:Int)(g1:List Y126×Int->Option (List Y126)):List Y126->Option (List Y126)
 | v16 =>
 gd (in64 (v8+1)/\True) <|
 g1 (v16,v8+1)
def u75L3(v8:Int)(v9:Y152)(g1:List Y126×Int->Option (List Y126))(g3:Int×List Y126->Option (List Y126)):Int×List Y126->Option (List Y126)
 | (v12,v13) =>
 if(decide (v12 < (v9.2.2.length:Int))) then
  gd (ix v12 v9.2.2.length/\True) <|
  gd (in64 ((v9.2.2.length:Int)-1)/\(v13.length+[(v8,v12,v9.2.2.getD v12.toNat 0,v12==(v9.2.2.length:Int)-1)].length<=9223372036854775807/\(v13.length+[(v8,v12,v9.2.2.getD v12.toNat 0,v12==(v9.2.2.length:Int)-1)].length)*32<=140737488355328)/\True)<|lt ((v13++[(v8,v12,v9.2.2.getD v12.toNat 0,v12==(v9.2.2.length:Int)-1)],[(v8,v12,v9.2.2.getD v12.toNat 0,v12==(v9.2.2.length:Int)-1)])) fun(v14,_) =>
  gd (in64 (v12+1)/\True) <|
  g3 (v12+1,v14)
 else
  u75J2 v8 g1 v13
def u75L1(a0:Y47)(g1:List Y126×Int->Option (List Y126)):List Y126×Int->Option (List Y126)
 | (v7,v8) =>
 if(decide (v8 < (a0.1.length:Int))) then
  gd (ix v8 a0.1.length/\True)<|lt (a0.1.getD v8.toNat (dflt y152)) fun v9 =>
  lp (u75L3 v8 v9 g1) (0,v7)
 else
  u75J0 a0 v7
def u75(a0:Y47):Option (List Y126) :=
 lp (u75L1 a0) ([],0)
def k75:Ct:=lct 75 [.agg y47] (fun x=>u75 x.1) (fun r:List Y126=>AV.ow 126 true y126 r) (fun _=>())
theorem o75:Ok prog k75:=by
 refine okM [.tmp 2] func75 ?_;intro y ⟨a0,_⟩ r H Q hn hr;refine iA [1]<|iA [1,3]<|jN r (fun(v17:List Y126)=>Z [p 1 (R 1),p 3 (O 38)] [(1,K 47 y47 a0),(38,A 126 y126 v17 0)]) (u75J0 a0) (fun v17 H=>?_) (fun _ n0 e0 t0=>?_)
 ·refine jN r (fun(v24:List Y126)=>Z [p 3 (O 38)] [(38,A 126 y126 v24 0)]) (u75J4) (fun v24 H=>?_) (fun _ n4 e4 t4=>?_)
  ·refine iA [2]<|vTT<|hr H
  refine iA [3,42,43,44]<|vB<|lX (fun((v21,v22):Int×List Y126)=>Z [p 3 (O 38),p 42 (L y166 a0.2.2),p 43 (I (a0.2.2.length:Int)),p 44 (I v21)] [(38,A 126 y126 v22 0)]) (0,v17) H fun _ g5 b5 e5 t5 ⟨v21,v22⟩ H=>iA [3,42,43,44,45]<|vQ<|cD H (fun H=>vK<|fQ<|vQ<|vB<|qD (fun v23=>Z [p 3 (O 38),p 8 (I v21),p 9 (R 9),p 42 (L y166 a0.2.2),p 43 (I (a0.2.2.length:Int)),p 44 (I v21)] [(9,K 166 y166 v23),(38,A 126 y126 v22 0)]) H fun v23 H=>jB [3,42,43,44] H fun H=>fK<|fQ<|jB [3,42,43,44] H fun H=>b5 H) fun H=>vE<|fE<|e5<|fX rfl<|n4 H
 refine iA [1,3,11,12,13]<|vB<|lX (fun((v7,v8):List Y126×Int)=>Z [p 1 (R 1),p 3 (O 38),p 11 (L y152 a0.1),p 12 (I (a0.1.length:Int)),p 13 (I v8)] [(1,K 47 y47 a0),(38,A 126 y126 v7 0)]) ([],0) H fun _ g1 b1 e1 t1 ⟨v7,v8⟩ H=>iA [1,3,11,12,13,14]<|vQ<|cD H (fun H=>?_) (fun H=>?_)
 ·refine vK<|fQ<|jN r (fun(v16:List Y126)=>Z [p 1 (R 1),p 3 (O 38),p 11 (L y152 a0.1),p 12 (I (a0.1.length:Int)),p 13 (I v8)] [(1,K 47 y47 a0),(38,A 126 y126 v16 0)]) (u75J2 v8 g1) (fun v16 H=>?_) (fun _ n2 e2 t2=>?_)
  ·refine jB [1,3,11,12,13] H fun H=>b1 H
  refine vB<|qD (fun v9=>Z [p 1 (R 1),p 3 (O 38),p 4 (I v8),p 5 (R 5),p 11 (L y152 a0.1),p 12 (I (a0.1.length:Int)),p 13 (I v8)] [(5,K 152 y152 v9),(1,K 47 y47 a0),(38,A 126 y126 v7 0)]) H fun v9 H=>iA [1,3,4,5,11,12,13,19,20,21]<|vB<|lX (fun((v12,v13):Int×List Y126)=>Z [p 1 (R 1),p 3 (O 38),p 4 (I v8),p 5 (R 5),p 11 (L y152 a0.1),p 12 (I (a0.1.length:Int)),p 13 (I v8),p 19 (L i64 v9.2.2),p 20 (I (v9.2.2.length:Int)),p 21 (I v12)] [(5,K 152 y152 v9),(1,K 47 y47 a0),(38,A 126 y126 v13 0)]) (0,v7) H fun _ g3 b3 e3 t3 ⟨v12,v13⟩ H=>iA [1,3,4,5,11,12,13,19,20,21,22]<|vQ<|cD H (fun H=>?_) (fun H=>?_)
  ·refine vK<|fQ<|vQ<|vB<|iB [1,3,4,5,6,7,11,12,13,19,20,21] H fun H=>zD (fun(v14,v15)=>Z [p 1 (R 1),p 3 (AV.os 38 1),p 4 (I v8),p 5 (R 5),p 11 (L y152 a0.1),p 12 (I (a0.1.length:Int)),p 13 (I v8),p 19 (L i64 v9.2.2),p 20 (I (v9.2.2.length:Int)),p 21 (I v12)] [(38,A 126 y126 v14 1),(37,A 126 y126 v15 0),(5,K 152 y152 v9),(1,K 47 y47 a0)]) H fun⟨v14,v15⟩ H =>
    fK<|fQ <|
    jB [1,3,4,5,11,12,13,19,20,21] H fun H =>
    b3 H
  exact vE<|fE<|e3<|fX rfl<|fK<|n2 H
 exact vE<|fE<|e1<|fX rfl<|n0 H
def u86(a0:Y50)(a1:Y38):Option ByteArray :=
 gd ((u75 a0.2.1).isSome/\ix a1.2.1 (vl (u75 a0.2.1)).length/\a1.2.1.toNat < (vl (u75 a0.2.1)).length/\(u87 a0.2.1 a0.1 ((vl (u75 a0.2.1)).getD a1.2.1.toNat (dflt y126))).isSome/\True)<|lt ((vl (u87 a0.2.1 a0.1 ((vl (u75 a0.2.1)).getD a1.2.1.toNat (dflt y126))),vl (u75 a0.2.1))) fun(v0,_) =>
 some v0
def k86:Ct:=lct 86 [.dat (.pt y50),.dat (.pt y38)] (fun x=>u86 x.1 x.2.1) (fun r:ByteArray=>S r) (fun _=>())
theorem o86:Ok prog k86:=by
 refine okM [.tmp 2] func86 ?_;intro y ⟨_,_,_⟩ r H Q hn hr;have:=hz (tc o87 (tc o75 tn));refine iA [0,1]<|qD (fun(v0,v1)=>Z [p 2 (S v0)] [(9,A 126 y126 v1 0)]) H fun⟨v0,v1⟩ H =>
  vTT<|hr H
end Go.Proofs.YtfggbbnnalflhaaGreatDoor
end
