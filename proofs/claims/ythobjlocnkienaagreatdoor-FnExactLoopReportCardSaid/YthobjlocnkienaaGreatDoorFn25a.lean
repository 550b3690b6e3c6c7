/- Functions of this program as plain functions of data, and that they are so: printed by program. -/
import Derived.Test.YthobjlocnkienaaGreatDoorXE
import Derived.Test.YthobjlocnkienaaGreatDoorXF
import Derived.Test.YthobjlocnkienaaGreatDoorTY
import Derived.Test.YthobjlocnkienaaGreatDoorLB
section
namespace Go.Proofs.YthobjlocnkienaaGreatDoor
open Go Go.Proofs Go.Proofs.Sv Go.Proofs.Xv Go.Proofs.Xl Go.RowKit
open Tryz
instance:HG Tryz.prog Γ:=⟨tok⟩
def u134(a0:List Int)(a1:Int):Option (Int) :=
 gd (in64 (a1-(a0.length:Int))/\True) <|
 if(decide (a1-(a0.length:Int)<0))=true then
  some (-1)
 else
  some (a1-(a0.length:Int))
def k134:Ct:=lct 134 [.dat i64.sl,.dat i64] (fun x=>u134 x.1 x.2.1) (fun r:Int=>I r) (fun _=>())
theorem o134:Ok prog k134:=by
 refine okL [.tmp 4] func134 ntmps134 results134 ?_;intro y ⟨a0,a1,_⟩ r H Q hn hr;have:HT _ _:=⟨@tn prog⟩;refine qA (Z [p 0 (L i64 a0),p 1 (J a1)] [])<|qB (Z [p 1 (I (a1-(a0.length:Int)))] []) H fun H=>vQ<|qA (Z [p 1 (I (a1-(a0.length:Int))),p 10 (B (decide (a1-(a0.length:Int)<0)))] [])<|cD H (fun H=>?_) (fun H=>?_)
 ·refine qA (Z [p 4 (I (-1))] [])<|vTT<|fR<|hr H
 refine vK<|fQ<|qA (Z [p 4 (I (a1-(a0.length:Int)))] [])<|vTT<|hr H
def u77(a0:Y120)(a1:Int):Option (Int) :=
 gd ((u134 a0.1 a1).isSome=true/\True)<|lt (vl (u134 a0.1 a1)) fun v0 =>
 if(decide (v0<0))=true then
  some (-1)
 else
  gd ((u134 a0.2.1 v0).isSome=true/\True)<|lt (vl (u134 a0.2.1 v0)) fun v1 =>
  if(decide (v1<0))=true then
   some (-1)
  else
   gd ((u134 a0.2.2.1 v1).isSome=true/\True)<|lt (vl (u134 a0.2.2.1 v1)) fun v2 =>
   if(decide (v2<0))=true then
    some (-1)
   else
    gd ((u134 a0.2.2.2 v2).isSome=true/\True)<|lt (vl (u134 a0.2.2.2 v2)) fun v3 =>
    if(decide (v3<0))=true then
     some (-1)
    else
     some v3
def k77:Ct:=lct 77 [.agg y120,.dat i64] (fun x=>u77 x.1 x.2.1) (fun r:Int=>I r) (fun _=>())
theorem o77:Ok prog k77:=by
 refine okL [.tmp 4] func77 ntmps77 results77 ?_;intro y ⟨a0,a1,_⟩ r H Q hn hr;have:HT _ _:=⟨tc o134 tn⟩;refine qA (Z [p 1 (J a1),p 2 (R 2)] [(2,K 120 y120 a0)])<|qD (fun v0=>Z [p 1 (I v0),p 2 (R 2)] [(2,K 120 y120 a0)]) H fun v0 H=>vQ<|qA (Z [p 1 (I v0),p 2 (R 2),p 10 (B (decide (v0<0)))] [(2,K 120 y120 a0)])<|cD H (fun H=>?_) (fun H=>?_)
 ·refine qA (Z [p 4 (I (-1))] [(2,K 120 y120 a0)])<|vTT<|fR<|hr H
 refine vK<|fQ<|qD (fun v1=>Z [p 1 (I v1),p 2 (R 2)] [(2,K 120 y120 a0)]) H fun v1 H=>vQ<|qA (Z [p 1 (I v1),p 2 (R 2),p 16 (B (decide (v1<0)))] [(2,K 120 y120 a0)])<|cD H (fun H=>?_) (fun H=>?_)
 ·refine qA (Z [p 4 (I (-1))] [(2,K 120 y120 a0)])<|vTT<|fR<|hr H
 refine vK<|fQ<|qD (fun v2=>Z [p 1 (I v2),p 2 (R 2)] [(2,K 120 y120 a0)]) H fun v2 H=>vQ<|qA (Z [p 1 (I v2),p 2 (R 2),p 22 (B (decide (v2<0)))] [(2,K 120 y120 a0)])<|cD H (fun H=>?_) (fun H=>?_)
 ·refine qA (Z [p 4 (I (-1))] [(2,K 120 y120 a0)])<|vTT<|fR<|hr H
 refine vK<|fQ<|qD (fun v3=>Z [p 1 (I v3)] [(2,K 120 y120 a0)]) H fun v3 H=>vQ<|qA (Z [p 1 (I v3),p 28 (B (decide (v3<0)))] [(2,K 120 y120 a0)])<|cD H (fun H=>?_) (fun H=>?_)
 ·refine qA (Z [p 4 (I (-1))] [(2,K 120 y120 a0)])<|vTT<|fR<|hr H
 refine vK<|fQ<|qA (Z [p 4 (I v3)] [(2,K 120 y120 a0)])<|vTT<|hr H
def u37J0:Int->Option (Int)
 | v4 =>
 some v4
def u37L1(a0:List Y120)(g1:Int×Int->Option (Int)):Int×Int->Option (Int)
 | (v1,v2) =>
 if(decide (v2 < (a0.length:Int)))=true then
  gd (ix v2 a0.length/\(u77 (a0.getD v2.toNat (dflt y120)) v1).isSome=true/\True)<|lt (vl (u77 (a0.getD v2.toNat (dflt y120)) v1)) fun v3 =>
  if(decide (v3<0))=true then
   some (-1)
  else
   gd (in64 (v2+1)/\True) <|
   g1 (v3,v2+1)
 else
  u37J0 v1
def u37(a0:List Y120)(a1:Int):Option (Int) :=
 gd (in64 (a1-(a0.length:Int))/\True) <|
 if(decide (a1-(a0.length:Int)<0))=true then
  some (-1)
 else
  lp (u37L1 a0) ((a1-(a0.length:Int),0))
def k37:Ct:=lct 37 [.dat y120.sl,.dat i64] (fun x=>u37 x.1 x.2.1) (fun r:Int=>I r) (fun _=>())
theorem o37:Ok prog k37:=by
 refine okL [.tmp 4] func37 ntmps37 results37 ?_;intro y ⟨a0,a1,_⟩ r H Q hn hr;have:HT _ _:=⟨tc o77 tn⟩;refine qA (Z [p 0 (L y120 a0),p 1 (J a1)] [])<|qB (Z [p 0 (L y120 a0),p 1 (I (a1-(a0.length:Int)))] []) H fun H=>vQ<|qA (Z [p 0 (L y120 a0),p 1 (I (a1-(a0.length:Int))),p 11 (B (decide (a1-(a0.length:Int)<0)))] [])<|cD H (fun H=>?_) (fun H=>?_)
 ·refine qA (Z [p 4 (I (-1))] [])<|vTT<|fR<|hr H
 refine vK<|fQ<|jN r (fun(v4:Int)=>Z [p 1 (I v4)] []) (u37J0) (fun v4 H=>?_) (fun _ n0 e0 t0=>?_)
 ·refine qA (Z [p 4 (I v4)] [])<|vTT<|hr H
 refine qA (Z [p 0 (L y120 a0),p 1 (I (a1-(a0.length:Int))),p 5 (I 0)] [])<|vB<|lX (fun((v1,v2):Int×Int)=>Z [p 0 (L y120 a0),p 1 (I v1),p 5 (I v2)] []) ((a1-(a0.length:Int),0)) H fun _ g1 b1 e1 t1 ⟨v1,v2⟩ H=>vQ<|qA (Z [p 0 (L y120 a0),p 1 (I v1),p 5 (I v2),p 15 (B (decide (v2 < (a0.length:Int))))] [])<|cD H (fun H=>?_) (fun H=>?_)
 ·refine vK<|fQ<|vQ<|vB<|qD (fun v3=>Z [p 0 (L y120 a0),p 1 (I v3),p 5 (I v2)] []) H fun v3 H=>qA (Z [p 0 (L y120 a0),p 1 (I v3),p 5 (I v2),p 25 (B (decide (v3<0)))] [])<|cD H (fun H=>?_) (fun H=>?_)
  ·refine qA (Z [p 4 (I (-1))] [])<|vTT<|fDD<|fR<|t1<|fDD<|t0<|hr H
  refine vK<|fK<|fQ<|zB (Z [p 0 (L y120 a0),p 1 (I v3),p 5 (I (v2+1))] []) H fun H=>b1 H
 exact vE<|fE<|e1<|fX rfl<|n0 H
def u133(a0:Y187)(a1:Int):Option (Int) :=
 gd (in64 (a1-(a0.1.size:Int))/\True) <|
 if(decide (a1-(a0.1.size:Int)<0))=true then
  some (-1)
 else
  some (a1-(a0.1.size:Int))
def k133:Ct:=lct 133 [.agg y187,.dat i64] (fun x=>u133 x.1 x.2.1) (fun r:Int=>I r) (fun _=>())
theorem o133:Ok prog k133:=by
 refine okL [.tmp 4] func133 ntmps133 results133 ?_;intro y ⟨a0,a1,_⟩ r H Q hn hr;have:HT _ _:=⟨@tn prog⟩;refine qA (Z [p 1 (J a1),p 2 (R 2)] [(2,K 187 y187 a0)])<|qB (Z [p 1 (I (a1-(a0.1.size:Int)))] [(2,K 187 y187 a0)]) H fun H=>vQ<|qA (Z [p 1 (I (a1-(a0.1.size:Int))),p 11 (B (decide (a1-(a0.1.size:Int)<0)))] [(2,K 187 y187 a0)])<|cD H (fun H=>?_) (fun H=>?_)
 ·refine qA (Z [p 4 (I (-1))] [(2,K 187 y187 a0)])<|vTT<|fR<|hr H
 refine vK<|fQ<|qA (Z [p 4 (I (a1-(a0.1.size:Int)))] [(2,K 187 y187 a0)])<|vTT<|hr H
def u76J0:Int->Option (Int)
 | v4 =>
 some v4
def u76L1(a0:List Y187)(g1:Int×Int->Option (Int)):Int×Int->Option (Int)
 | (v1,v2) =>
 if(decide (v2 < (a0.length:Int)))=true then
  gd (ix v2 a0.length/\(u133 (a0.getD v2.toNat (dflt y187)) v1).isSome=true/\True)<|lt (vl (u133 (a0.getD v2.toNat (dflt y187)) v1)) fun v3 =>
  if(decide (v3<0))=true then
   some (-1)
  else
   gd (in64 (v2+1)/\True) <|
   g1 (v3,v2+1)
 else
  u76J0 v1
def u76(a0:List Y187)(a1:Int):Option (Int) :=
 gd (in64 (a1-(a0.length:Int))/\True) <|
 if(decide (a1-(a0.length:Int)<0))=true then
  some (-1)
 else
  lp (u76L1 a0) ((a1-(a0.length:Int),0))
def k76:Ct:=lct 76 [.dat y187.sl,.dat i64] (fun x=>u76 x.1 x.2.1) (fun r:Int=>I r) (fun _=>())
theorem o76:Ok prog k76:=by
 refine okL [.tmp 4] func76 ntmps76 results76 ?_;intro y ⟨a0,a1,_⟩ r H Q hn hr;have:HT _ _:=⟨tc o133 tn⟩;refine qA (Z [p 0 (L y187 a0),p 1 (J a1)] [])<|qB (Z [p 0 (L y187 a0),p 1 (I (a1-(a0.length:Int)))] []) H fun H=>vQ<|qA (Z [p 0 (L y187 a0),p 1 (I (a1-(a0.length:Int))),p 11 (B (decide (a1-(a0.length:Int)<0)))] [])<|cD H (fun H=>?_) (fun H=>?_)
 ·refine qA (Z [p 4 (I (-1))] [])<|vTT<|fR<|hr H
 refine vK<|fQ<|jN r (fun(v4:Int)=>Z [p 1 (I v4)] []) (u76J0) (fun v4 H=>?_) (fun _ n0 e0 t0=>?_)
 ·refine qA (Z [p 4 (I v4)] [])<|vTT<|hr H
 refine qA (Z [p 0 (L y187 a0),p 1 (I (a1-(a0.length:Int))),p 5 (I 0)] [])<|vB<|lX (fun((v1,v2):Int×Int)=>Z [p 0 (L y187 a0),p 1 (I v1),p 5 (I v2)] []) ((a1-(a0.length:Int),0)) H fun _ g1 b1 e1 t1 ⟨v1,v2⟩ H=>vQ<|qA (Z [p 0 (L y187 a0),p 1 (I v1),p 5 (I v2),p 15 (B (decide (v2 < (a0.length:Int))))] [])<|cD H (fun H=>?_) (fun H=>?_)
 ·refine vK<|fQ<|vQ<|vB<|qD (fun v3=>Z [p 0 (L y187 a0),p 1 (I v3),p 5 (I v2)] []) H fun v3 H=>qA (Z [p 0 (L y187 a0),p 1 (I v3),p 5 (I v2),p 25 (B (decide (v3<0)))] [])<|cD H (fun H=>?_) (fun H=>?_)
  ·refine qA (Z [p 4 (I (-1))] [])<|vTT<|fDD<|fR<|t1<|fDD<|t0<|hr H
  refine vK<|fK<|fQ<|zB (Z [p 0 (L y187 a0),p 1 (I v3),p 5 (I (v2+1))] []) H fun H=>b1 H
 exact vE<|fE<|e1<|fX rfl<|n0 H
def u75J0:Int->Option (Int)
 | v4 =>
 some v4
def u75L1(a0:List ByteArray)(g1:Int×Int->Option (Int)):Int×Int->Option (Int)
 | (v1,v2) =>
 if(decide (v2 < (a0.length:Int)))=true then
  gd (ix v2 a0.length/\in64 (v1-(↑(ByteArray.size (a0.getD v2.toNat (dflt Ty.str))):Int))/\True)<|lt (v1-(↑(ByteArray.size (a0.getD v2.toNat (dflt Ty.str))):Int)) fun v3 =>
  if(decide (v3<0))=true then
   some (-1)
  else
   gd (in64 (v2+1)/\True) <|
   g1 (v3,v2+1)
 else
  u75J0 v1
def u75(a0:List ByteArray)(a1:Int):Option (Int) :=
 gd (in64 (a1-(a0.length:Int))/\True) <|
 if(decide (a1-(a0.length:Int)<0))=true then
  some (-1)
 else
  lp (u75L1 a0) ((a1-(a0.length:Int),0))
def k75:Ct:=lct 75 [.dat Ty.str.sl,.dat i64] (fun x=>u75 x.1 x.2.1) (fun r:Int=>I r) (fun _=>())
theorem o75:Ok prog k75:=by
 refine okL [.tmp 4] func75 ntmps75 results75 ?_;intro y ⟨a0,a1,_⟩ r H Q hn hr;have:HT _ _:=⟨@tn prog⟩;refine qA (Z [p 0 (L Ty.str a0),p 1 (J a1)] [])<|qB (Z [p 0 (L Ty.str a0),p 1 (I (a1-(a0.length:Int)))] []) H fun H=>vQ<|qA (Z [p 0 (L Ty.str a0),p 1 (I (a1-(a0.length:Int))),p 11 (B (decide (a1-(a0.length:Int)<0)))] [])<|cD H (fun H=>?_) (fun H=>?_)
 ·refine qA (Z [p 4 (I (-1))] [])<|vTT<|fR<|hr H
 refine vK<|fQ<|jN r (fun(v4:Int)=>Z [p 1 (I v4)] []) (u75J0) (fun v4 H=>?_) (fun _ n0 e0 t0=>?_)
 ·refine qA (Z [p 4 (I v4)] [])<|vTT<|hr H
 refine qA (Z [p 0 (L Ty.str a0),p 1 (I (a1-(a0.length:Int))),p 5 (I 0)] [])<|vB<|lX (fun((v1,v2):Int×Int)=>Z [p 0 (L Ty.str a0),p 1 (I v1),p 5 (I v2)] []) ((a1-(a0.length:Int),0)) H fun _ g1 b1 e1 t1 ⟨v1,v2⟩ H=>vQ<|qA (Z [p 0 (L Ty.str a0),p 1 (I v1),p 5 (I v2),p 15 (B (decide (v2 < (a0.length:Int))))] [])<|cD H (fun H=>?_) (fun H=>?_)
 ·refine vK<|fQ<|vQ<|vB<|qD (fun v3=>Z [p 0 (L Ty.str a0),p 1 (I v3),p 5 (I v2)] []) H fun v3 H=>qA (Z [p 0 (L Ty.str a0),p 1 (I v3),p 5 (I v2),p 26 (B (decide (v3<0)))] [])<|cD H (fun H=>?_) (fun H=>?_)
  ·refine qA (Z [p 4 (I (-1))] [])<|vTT<|fDD<|fR<|t1<|fDD<|t0<|hr H
  refine vK<|fK<|fQ<|zB (Z [p 0 (L Ty.str a0),p 1 (I v3),p 5 (I (v2+1))] []) H fun H=>b1 H
 exact vE<|fE<|e1<|fX rfl<|n0 H
def u132(a0:Y184)(a1:Int):Option (Int) :=
 gd (in64 (a1-(a0.1.size:Int))/\True) <|
 if(decide (a1-(a0.1.size:Int)<0))=true then
  some (-1)
 else
  gd ((u134 a0.2.2 (a1-(a0.1.size:Int))).isSome=true/\True)<|lt (vl (u134 a0.2.2 (a1-(a0.1.size:Int)))) fun v0 =>
  if(decide (v0<0))=true then
   some (-1)
  else
   some v0
def k132:Ct:=lct 132 [.agg y184,.dat i64] (fun x=>u132 x.1 x.2.1) (fun r:Int=>I r) (fun _=>())
theorem o132:Ok prog k132:=by
 refine okL [.tmp 4] func132 ntmps132 results132 ?_;intro y ⟨a0,a1,_⟩ r H Q hn hr;have:HT _ _:=⟨tc o134 tn⟩;refine qA (Z [p 1 (J a1),p 2 (R 2)] [(2,K 184 y184 a0)])<|qB (Z [p 1 (I (a1-(a0.1.size:Int))),p 2 (R 2)] [(2,K 184 y184 a0)]) H fun H=>vQ<|qA (Z [p 1 (I (a1-(a0.1.size:Int))),p 2 (R 2),p 11 (B (decide (a1-(a0.1.size:Int)<0)))] [(2,K 184 y184 a0)])<|cD H (fun H=>?_) (fun H=>?_)
 ·refine qA (Z [p 4 (I (-1))] [(2,K 184 y184 a0)])<|vTT<|fR<|hr H
 refine vK<|fQ<|qD (fun v0=>Z [p 1 (I v0)] [(2,K 184 y184 a0)]) H fun v0 H=>vQ<|qA (Z [p 1 (I v0),p 17 (B (decide (v0<0)))] [(2,K 184 y184 a0)])<|cD H (fun H=>?_) (fun H=>?_)
 ·refine qA (Z [p 4 (I (-1))] [(2,K 184 y184 a0)])<|vTT<|fR<|hr H
 refine vK<|fQ<|qA (Z [p 4 (I v0)] [(2,K 184 y184 a0)])<|vTT<|hr H
def u74J0:Int->Option (Int)
 | v4 =>
 some v4
def u74L1(a0:List Y184)(g1:Int×Int->Option (Int)):Int×Int->Option (Int)
 | (v1,v2) =>
 if(decide (v2 < (a0.length:Int)))=true then
  gd (ix v2 a0.length/\(u132 (a0.getD v2.toNat (dflt y184)) v1).isSome=true/\True)<|lt (vl (u132 (a0.getD v2.toNat (dflt y184)) v1)) fun v3 =>
  if(decide (v3<0))=true then
   some (-1)
  else
   gd (in64 (v2+1)/\True) <|
   g1 (v3,v2+1)
 else
  u74J0 v1
def u74(a0:List Y184)(a1:Int):Option (Int) :=
 gd (in64 (a1-(a0.length:Int))/\True) <|
 if(decide (a1-(a0.length:Int)<0))=true then
  some (-1)
 else
  lp (u74L1 a0) ((a1-(a0.length:Int),0))
def k74:Ct:=lct 74 [.dat y184.sl,.dat i64] (fun x=>u74 x.1 x.2.1) (fun r:Int=>I r) (fun _=>())
theorem o74:Ok prog k74:=by
 refine okL [.tmp 4] func74 ntmps74 results74 ?_;intro y ⟨a0,a1,_⟩ r H Q hn hr;have:HT _ _:=⟨tc o132 tn⟩;refine qA (Z [p 0 (L y184 a0),p 1 (J a1)] [])<|qB (Z [p 0 (L y184 a0),p 1 (I (a1-(a0.length:Int)))] []) H fun H=>vQ<|qA (Z [p 0 (L y184 a0),p 1 (I (a1-(a0.length:Int))),p 11 (B (decide (a1-(a0.length:Int)<0)))] [])<|cD H (fun H=>?_) (fun H=>?_)
 ·refine qA (Z [p 4 (I (-1))] [])<|vTT<|fR<|hr H
 refine vK<|fQ<|jN r (fun(v4:Int)=>Z [p 1 (I v4)] []) (u74J0) (fun v4 H=>?_) (fun _ n0 e0 t0=>?_)
 ·refine qA (Z [p 4 (I v4)] [])<|vTT<|hr H
 refine qA (Z [p 0 (L y184 a0),p 1 (I (a1-(a0.length:Int))),p 5 (I 0)] [])<|vB<|lX (fun((v1,v2):Int×Int)=>Z [p 0 (L y184 a0),p 1 (I v1),p 5 (I v2)] []) ((a1-(a0.length:Int),0)) H fun _ g1 b1 e1 t1 ⟨v1,v2⟩ H=>vQ<|qA (Z [p 0 (L y184 a0),p 1 (I v1),p 5 (I v2),p 15 (B (decide (v2 < (a0.length:Int))))] [])<|cD H (fun H=>?_) (fun H=>?_)
 ·refine vK<|fQ<|vQ<|vB<|qD (fun v3=>Z [p 0 (L y184 a0),p 1 (I v3),p 5 (I v2)] []) H fun v3 H=>qA (Z [p 0 (L y184 a0),p 1 (I v3),p 5 (I v2),p 25 (B (decide (v3<0)))] [])<|cD H (fun H=>?_) (fun H=>?_)
  ·refine qA (Z [p 4 (I (-1))] [])<|vTT<|fDD<|fR<|t1<|fDD<|t0<|hr H
  refine vK<|fK<|fQ<|zB (Z [p 0 (L y184 a0),p 1 (I v3),p 5 (I (v2+1))] []) H fun H=>b1 H
 exact vE<|fE<|e1<|fX rfl<|n0 H
def u36(a0:Y29)(a1:Int):Option (Int) :=
 gd ((u74 a0.1 a1).isSome=true/\True)<|lt (vl (u74 a0.1 a1)) fun v0 =>
 if(decide (v0<0))=true then
  some (-1)
 else
  gd ((u75 a0.2.1 v0).isSome=true/\True)<|lt (vl (u75 a0.2.1 v0)) fun v1 =>
  if(decide (v1<0))=true then
   some (-1)
  else
   gd ((u76 a0.2.2 v1).isSome=true/\True)<|lt (vl (u76 a0.2.2 v1)) fun v2 =>
   if(decide (v2<0))=true then
    some (-1)
   else
    some v2
def k36:Ct:=lct 36 [.agg y29,.dat i64] (fun x=>u36 x.1 x.2.1) (fun r:Int=>I r) (fun _=>())
theorem o36:Ok prog k36:=by
 refine okL [.tmp 4] func36 ntmps36 results36 ?_;intro y ⟨a0,a1,_⟩ r H Q hn hr;have:HT _ _:=⟨tc o76 (tc o75 (tc o74 tn))⟩;refine qA (Z [p 1 (J a1),p 2 (R 2)] [(2,K 29 y29 a0)])<|qD (fun v0=>Z [p 1 (I v0),p 2 (R 2)] [(2,K 29 y29 a0)]) H fun v0 H=>vQ<|qA (Z [p 1 (I v0),p 2 (R 2),p 10 (B (decide (v0<0)))] [(2,K 29 y29 a0)])<|cD H (fun H=>?_) (fun H=>?_)
 ·refine qA (Z [p 4 (I (-1))] [(2,K 29 y29 a0)])<|vTT<|fR<|hr H
 refine vK<|fQ<|qD (fun v1=>Z [p 1 (I v1),p 2 (R 2)] [(2,K 29 y29 a0)]) H fun v1 H=>vQ<|qA (Z [p 1 (I v1),p 2 (R 2),p 16 (B (decide (v1<0)))] [(2,K 29 y29 a0)])<|cD H (fun H=>?_) (fun H=>?_)
 ·refine qA (Z [p 4 (I (-1))] [(2,K 29 y29 a0)])<|vTT<|fR<|hr H
 refine vK<|fQ<|qD (fun v2=>Z [p 1 (I v2)] [(2,K 29 y29 a0)]) H fun v2 H=>vQ<|qA (Z [p 1 (I v2),p 22 (B (decide (v2<0)))] [(2,K 29 y29 a0)])<|cD H (fun H=>?_) (fun H=>?_)
 ·refine qA (Z [p 4 (I (-1))] [(2,K 29 y29 a0)])<|vTT<|fR<|hr H
 refine vK<|fQ<|qA (Z [p 4 (I v2)] [(2,K 29 y29 a0)])<|vTT<|hr H
def u237(a0:Y288)(a1:Int):Option (Int) :=
 gd ((u134 a0.1 a1).isSome=true/\True)<|lt (vl (u134 a0.1 a1)) fun v0 =>
 if(decide (v0<0))=true then
  some (-1)
 else
  gd ((u134 a0.2.1 v0).isSome=true/\True)<|lt (vl (u134 a0.2.1 v0)) fun v1 =>
  if(decide (v1<0))=true then
   some (-1)
  else
   gd ((u134 a0.2.2 v1).isSome=true/\True)<|lt (vl (u134 a0.2.2 v1)) fun v2 =>
   if(decide (v2<0))=true then
    some (-1)
   else
    some v2
def k237:Ct:=lct 237 [.agg y288,.dat i64] (fun x=>u237 x.1 x.2.1) (fun r:Int=>I r) (fun _=>())
theorem o237:Ok prog k237:=by
 refine okL [.tmp 4] func237 ntmps237 results237 ?_;intro y ⟨a0,a1,_⟩ r H Q hn hr;have:HT _ _:=⟨tc o134 tn⟩;refine qA (Z [p 1 (J a1),p 2 (R 2)] [(2,K 288 y288 a0)])<|qD (fun v0=>Z [p 1 (I v0),p 2 (R 2)] [(2,K 288 y288 a0)]) H fun v0 H=>vQ<|qA (Z [p 1 (I v0),p 2 (R 2),p 10 (B (decide (v0<0)))] [(2,K 288 y288 a0)])<|cD H (fun H=>?_) (fun H=>?_)
 ·refine qA (Z [p 4 (I (-1))] [(2,K 288 y288 a0)])<|vTT<|fR<|hr H
 refine vK<|fQ<|qD (fun v1=>Z [p 1 (I v1),p 2 (R 2)] [(2,K 288 y288 a0)]) H fun v1 H=>vQ<|qA (Z [p 1 (I v1),p 2 (R 2),p 16 (B (decide (v1<0)))] [(2,K 288 y288 a0)])<|cD H (fun H=>?_) (fun H=>?_)
 ·refine qA (Z [p 4 (I (-1))] [(2,K 288 y288 a0)])<|vTT<|fR<|hr H
 refine vK<|fQ<|qD (fun v2=>Z [p 1 (I v2)] [(2,K 288 y288 a0)]) H fun v2 H=>vQ<|qA (Z [p 1 (I v2),p 22 (B (decide (v2<0)))] [(2,K 288 y288 a0)])<|cD H (fun H=>?_) (fun H=>?_)
 ·refine qA (Z [p 4 (I (-1))] [(2,K 288 y288 a0)])<|vTT<|fR<|hr H
 refine vK<|fQ<|qA (Z [p 4 (I v2)] [(2,K 288 y288 a0)])<|vTT<|hr H
def u223J0:Int->Option (Int)
 | v4 =>
 some v4
def u223L1(a0:List Y288)(g1:Int×Int->Option (Int)):Int×Int->Option (Int)
 | (v1,v2) =>
 if(decide (v2 < (a0.length:Int)))=true then
  gd (ix v2 a0.length/\(u237 (a0.getD v2.toNat (dflt y288)) v1).isSome=true/\True)<|lt (vl (u237 (a0.getD v2.toNat (dflt y288)) v1)) fun v3 =>
  if(decide (v3<0))=true then
   some (-1)
  else
   gd (in64 (v2+1)/\True) <|
   g1 (v3,v2+1)
 else
  u223J0 v1
def u223(a0:List Y288)(a1:Int):Option (Int) :=
 gd (in64 (a1-(a0.length:Int))/\True) <|
 if(decide (a1-(a0.length:Int)<0))=true then
  some (-1)
 else
  lp (u223L1 a0) ((a1-(a0.length:Int),0))
def k223:Ct:=lct 223 [.dat y288.sl,.dat i64] (fun x=>u223 x.1 x.2.1) (fun r:Int=>I r) (fun _=>())
theorem o223:Ok prog k223:=by
 refine okL [.tmp 4] func223 ntmps223 results223 ?_;intro y ⟨a0,a1,_⟩ r H Q hn hr;have:HT _ _:=⟨tc o237 tn⟩;refine qA (Z [p 0 (L y288 a0),p 1 (J a1)] [])<|qB (Z [p 0 (L y288 a0),p 1 (I (a1-(a0.length:Int)))] []) H fun H=>vQ<|qA (Z [p 0 (L y288 a0),p 1 (I (a1-(a0.length:Int))),p 11 (B (decide (a1-(a0.length:Int)<0)))] [])<|cD H (fun H=>?_) (fun H=>?_)
 ·refine qA (Z [p 4 (I (-1))] [])<|vTT<|fR<|hr H
 refine vK<|fQ<|jN r (fun(v4:Int)=>Z [p 1 (I v4)] []) (u223J0) (fun v4 H=>?_) (fun _ n0 e0 t0=>?_)
 ·refine qA (Z [p 4 (I v4)] [])<|vTT<|hr H
 refine qA (Z [p 0 (L y288 a0),p 1 (I (a1-(a0.length:Int))),p 5 (I 0)] [])<|vB<|lX (fun((v1,v2):Int×Int)=>Z [p 0 (L y288 a0),p 1 (I v1),p 5 (I v2)] []) ((a1-(a0.length:Int),0)) H fun _ g1 b1 e1 t1 ⟨v1,v2⟩ H=>vQ<|qA (Z [p 0 (L y288 a0),p 1 (I v1),p 5 (I v2),p 15 (B (decide (v2 < (a0.length:Int))))] [])<|cD H (fun H=>?_) (fun H=>?_)
 ·refine vK<|fQ<|vQ<|vB<|qD (fun v3=>Z [p 0 (L y288 a0),p 1 (I v3),p 5 (I v2)] []) H fun v3 H=>qA (Z [p 0 (L y288 a0),p 1 (I v3),p 5 (I v2),p 25 (B (decide (v3<0)))] [])<|cD H (fun H=>?_) (fun H=>?_)
  ·refine qA (Z [p 4 (I (-1))] [])<|vTT<|fDD<|fR<|t1<|fDD<|t0<|hr H
  refine vK<|fK<|fQ<|zB (Z [p 0 (L y288 a0),p 1 (I v3),p 5 (I (v2+1))] []) H fun H=>b1 H
 exact vE<|fE<|e1<|fX rfl<|n0 H
def u203(a0:Y255)(a1:Int):Option (Int) :=
 gd ((u223 a0.2.2.2.2.1 a1).isSome=true/\True)<|lt (vl (u223 a0.2.2.2.2.1 a1)) fun v0 =>
 if(decide (v0<0))=true then
  some (-1)
 else
  gd ((u223 a0.2.2.2.2.2 v0).isSome=true/\True)<|lt (vl (u223 a0.2.2.2.2.2 v0)) fun v1 =>
  if(decide (v1<0))=true then
   some (-1)
  else
   some v1
def k203:Ct:=lct 203 [.agg y255,.dat i64] (fun x=>u203 x.1 x.2.1) (fun r:Int=>I r) (fun _=>())
theorem o203:Ok prog k203:=by
 refine okL [.tmp 4] func203 ntmps203 results203 ?_;intro y ⟨a0,a1,_⟩ r H Q hn hr;have:HT _ _:=⟨tc o223 tn⟩;refine qA (Z [p 1 (J a1),p 2 (R 2)] [(2,K 255 y255 a0)])<|qD (fun v0=>Z [p 1 (I v0),p 2 (R 2)] [(2,K 255 y255 a0)]) H fun v0 H=>vQ<|qA (Z [p 1 (I v0),p 2 (R 2),p 10 (B (decide (v0<0)))] [(2,K 255 y255 a0)])<|cD H (fun H=>?_) (fun H=>?_)
 ·refine qA (Z [p 4 (I (-1))] [(2,K 255 y255 a0)])<|vTT<|fR<|hr H
 refine vK<|fQ<|qD (fun v1=>Z [p 1 (I v1)] [(2,K 255 y255 a0)]) H fun v1 H=>vQ<|qA (Z [p 1 (I v1),p 16 (B (decide (v1<0)))] [(2,K 255 y255 a0)])<|cD H (fun H=>?_) (fun H=>?_)
 ·refine qA (Z [p 4 (I (-1))] [(2,K 255 y255 a0)])<|vTT<|fR<|hr H
 refine vK<|fQ<|qA (Z [p 4 (I v1)] [(2,K 255 y255 a0)])<|vTT<|hr H
def u174J0:Int->Option (Int)
 | v4 =>
 some v4
def u174L1(a0:List Y255)(g1:Int×Int->Option (Int)):Int×Int->Option (Int)
 | (v1,v2) =>
 if(decide (v2 < (a0.length:Int)))=true then
  gd (ix v2 a0.length/\(u203 (a0.getD v2.toNat (dflt y255)) v1).isSome=true/\True)<|lt (vl (u203 (a0.getD v2.toNat (dflt y255)) v1)) fun v3 =>
  if(decide (v3<0))=true then
   some (-1)
  else
   gd (in64 (v2+1)/\True) <|
   g1 (v3,v2+1)
 else
  u174J0 v1
def u174(a0:List Y255)(a1:Int):Option (Int) :=
 gd (in64 (a1-(a0.length:Int))/\True) <|
 if(decide (a1-(a0.length:Int)<0))=true then
  some (-1)
 else
  lp (u174L1 a0) ((a1-(a0.length:Int),0))
def k174:Ct:=lct 174 [.dat y255.sl,.dat i64] (fun x=>u174 x.1 x.2.1) (fun r:Int=>I r) (fun _=>())
theorem o174:Ok prog k174:=by
 refine okL [.tmp 4] func174 ntmps174 results174 ?_;intro y ⟨a0,a1,_⟩ r H Q hn hr;have:HT _ _:=⟨tc o203 tn⟩;refine qA (Z [p 0 (L y255 a0),p 1 (J a1)] [])<|qB (Z [p 0 (L y255 a0),p 1 (I (a1-(a0.length:Int)))] []) H fun H=>vQ<|qA (Z [p 0 (L y255 a0),p 1 (I (a1-(a0.length:Int))),p 11 (B (decide (a1-(a0.length:Int)<0)))] [])<|cD H (fun H=>?_) (fun H=>?_)
 ·refine qA (Z [p 4 (I (-1))] [])<|vTT<|fR<|hr H
 refine vK<|fQ<|jN r (fun(v4:Int)=>Z [p 1 (I v4)] []) (u174J0) (fun v4 H=>?_) (fun _ n0 e0 t0=>?_)
 ·refine qA (Z [p 4 (I v4)] [])<|vTT<|hr H
 refine qA (Z [p 0 (L y255 a0),p 1 (I (a1-(a0.length:Int))),p 5 (I 0)] [])<|vB<|lX (fun((v1,v2):Int×Int)=>Z [p 0 (L y255 a0),p 1 (I v1),p 5 (I v2)] []) ((a1-(a0.length:Int),0)) H fun _ g1 b1 e1 t1 ⟨v1,v2⟩ H=>vQ<|qA (Z [p 0 (L y255 a0),p 1 (I v1),p 5 (I v2),p 15 (B (decide (v2 < (a0.length:Int))))] [])<|cD H (fun H=>?_) (fun H=>?_)
 ·refine vK<|fQ<|vQ<|vB<|qD (fun v3=>Z [p 0 (L y255 a0),p 1 (I v3),p 5 (I v2)] []) H fun v3 H=>qA (Z [p 0 (L y255 a0),p 1 (I v3),p 5 (I v2),p 25 (B (decide (v3<0)))] [])<|cD H (fun H=>?_) (fun H=>?_)
  ·refine qA (Z [p 4 (I (-1))] [])<|vTT<|fDD<|fR<|t1<|fDD<|t0<|hr H
  refine vK<|fK<|fQ<|zB (Z [p 0 (L y255 a0),p 1 (I v3),p 5 (I (v2+1))] []) H fun H=>b1 H
 exact vE<|fE<|e1<|fX rfl<|n0 H
def u202(a0:Y251)(a1:Int):Option (Int) :=
 gd (in64 (a1-(a0.1.size:Int))/\True) <|
 if(decide (a1-(a0.1.size:Int)<0))=true then
  some (-1)
 else
  some (a1-(a0.1.size:Int))
def k202:Ct:=lct 202 [.agg y251,.dat i64] (fun x=>u202 x.1 x.2.1) (fun r:Int=>I r) (fun _=>())
theorem o202:Ok prog k202:=by
 refine okL [.tmp 4] func202 ntmps202 results202 ?_;intro y ⟨a0,a1,_⟩ r H Q hn hr;have:HT _ _:=⟨@tn prog⟩;refine qA (Z [p 1 (J a1),p 2 (R 2)] [(2,K 251 y251 a0)])<|qB (Z [p 1 (I (a1-(a0.1.size:Int)))] [(2,K 251 y251 a0)]) H fun H=>vQ<|qA (Z [p 1 (I (a1-(a0.1.size:Int))),p 11 (B (decide (a1-(a0.1.size:Int)<0)))] [(2,K 251 y251 a0)])<|cD H (fun H=>?_) (fun H=>?_)
 ·refine qA (Z [p 4 (I (-1))] [(2,K 251 y251 a0)])<|vTT<|fR<|hr H
 refine vK<|fQ<|qA (Z [p 4 (I (a1-(a0.1.size:Int)))] [(2,K 251 y251 a0)])<|vTT<|hr H
def u173J0:Int->Option (Int)
 | v4 =>
 some v4
def u173L1(a0:List Y251)(g1:Int×Int->Option (Int)):Int×Int->Option (Int)
 | (v1,v2) =>
 if(decide (v2 < (a0.length:Int)))=true then
  gd (ix v2 a0.length/\(u202 (a0.getD v2.toNat (dflt y251)) v1).isSome=true/\True)<|lt (vl (u202 (a0.getD v2.toNat (dflt y251)) v1)) fun v3 =>
  if(decide (v3<0))=true then
   some (-1)
  else
   gd (in64 (v2+1)/\True) <|
   g1 (v3,v2+1)
 else
  u173J0 v1
def u173(a0:List Y251)(a1:Int):Option (Int) :=
 gd (in64 (a1-(a0.length:Int))/\True) <|
 if(decide (a1-(a0.length:Int)<0))=true then
  some (-1)
 else
  lp (u173L1 a0) ((a1-(a0.length:Int),0))
def k173:Ct:=lct 173 [.dat y251.sl,.dat i64] (fun x=>u173 x.1 x.2.1) (fun r:Int=>I r) (fun _=>())
theorem o173:Ok prog k173:=by
 refine okL [.tmp 4] func173 ntmps173 results173 ?_;intro y ⟨a0,a1,_⟩ r H Q hn hr;have:HT _ _:=⟨tc o202 tn⟩;refine qA (Z [p 0 (L y251 a0),p 1 (J a1)] [])<|qB (Z [p 0 (L y251 a0),p 1 (I (a1-(a0.length:Int)))] []) H fun H=>vQ<|qA (Z [p 0 (L y251 a0),p 1 (I (a1-(a0.length:Int))),p 11 (B (decide (a1-(a0.length:Int)<0)))] [])<|cD H (fun H=>?_) (fun H=>?_)
 ·refine qA (Z [p 4 (I (-1))] [])<|vTT<|fR<|hr H
 refine vK<|fQ<|jN r (fun(v4:Int)=>Z [p 1 (I v4)] []) (u173J0) (fun v4 H=>?_) (fun _ n0 e0 t0=>?_)
 ·refine qA (Z [p 4 (I v4)] [])<|vTT<|hr H
 refine qA (Z [p 0 (L y251 a0),p 1 (I (a1-(a0.length:Int))),p 5 (I 0)] [])<|vB<|lX (fun((v1,v2):Int×Int)=>Z [p 0 (L y251 a0),p 1 (I v1),p 5 (I v2)] []) ((a1-(a0.length:Int),0)) H fun _ g1 b1 e1 t1 ⟨v1,v2⟩ H=>vQ<|qA (Z [p 0 (L y251 a0),p 1 (I v1),p 5 (I v2),p 15 (B (decide (v2 < (a0.length:Int))))] [])<|cD H (fun H=>?_) (fun H=>?_)
 ·refine vK<|fQ<|vQ<|vB<|qD (fun v3=>Z [p 0 (L y251 a0),p 1 (I v3),p 5 (I v2)] []) H fun v3 H=>qA (Z [p 0 (L y251 a0),p 1 (I v3),p 5 (I v2),p 25 (B (decide (v3<0)))] [])<|cD H (fun H=>?_) (fun H=>?_)
  ·refine qA (Z [p 4 (I (-1))] [])<|vTT<|fDD<|fR<|t1<|fDD<|t0<|hr H
  refine vK<|fK<|fQ<|zB (Z [p 0 (L y251 a0),p 1 (I v3),p 5 (I (v2+1))] []) H fun H=>b1 H
 exact vE<|fE<|e1<|fX rfl<|n0 H
def u131(a0:Y182)(a1:Int):Option (Int) :=
 gd (in64 (a1-(a0.1.size:Int))/\True) <|
 if(decide (a1-(a0.1.size:Int)<0))=true then
  some (-1)
 else
  gd ((u173 a0.2.2.1 (a1-(a0.1.size:Int))).isSome=true/\True)<|lt (vl (u173 a0.2.2.1 (a1-(a0.1.size:Int)))) fun v0 =>
  if(decide (v0<0))=true then
   some (-1)
  else
   gd ((u174 a0.2.2.2.1 v0).isSome=true/\True)<|lt (vl (u174 a0.2.2.2.1 v0)) fun v1 =>
   if(decide (v1<0))=true then
    some (-1)
   else
    gd ((u134 a0.2.2.2.2.1 v1).isSome=true/\True)<|lt (vl (u134 a0.2.2.2.2.1 v1)) fun v2 =>
    if(decide (v2<0))=true then
     some (-1)
    else
     some v2
def k131:Ct:=lct 131 [.agg y182,.dat i64] (fun x=>u131 x.1 x.2.1) (fun r:Int=>I r) (fun _=>())
theorem o131:Ok prog k131:=by
 refine okL [.tmp 4] func131 ntmps131 results131 ?_;intro y ⟨a0,a1,_⟩ r H Q hn hr;have:HT _ _:=⟨tc o134 (tc o174 (tc o173 tn))⟩;refine qA (Z [p 1 (J a1),p 2 (R 2)] [(2,K 182 y182 a0)])<|qB (Z [p 1 (I (a1-(a0.1.size:Int))),p 2 (R 2)] [(2,K 182 y182 a0)]) H fun H=>vQ<|qA (Z [p 1 (I (a1-(a0.1.size:Int))),p 2 (R 2),p 11 (B (decide (a1-(a0.1.size:Int)<0)))] [(2,K 182 y182 a0)])<|cD H (fun H=>?_) (fun H=>?_)
 ·refine qA (Z [p 4 (I (-1))] [(2,K 182 y182 a0)])<|vTT<|fR<|hr H
 refine vK<|fQ<|qD (fun v0=>Z [p 1 (I v0),p 2 (R 2)] [(2,K 182 y182 a0)]) H fun v0 H=>vQ<|qA (Z [p 1 (I v0),p 2 (R 2),p 17 (B (decide (v0<0)))] [(2,K 182 y182 a0)])<|cD H (fun H=>?_) (fun H=>?_)
 ·refine qA (Z [p 4 (I (-1))] [(2,K 182 y182 a0)])<|vTT<|fR<|hr H
 refine vK<|fQ<|qD (fun v1=>Z [p 1 (I v1),p 2 (R 2)] [(2,K 182 y182 a0)]) H fun v1 H=>vQ<|qA (Z [p 1 (I v1),p 2 (R 2),p 23 (B (decide (v1<0)))] [(2,K 182 y182 a0)])<|cD H (fun H=>?_) (fun H=>?_)
 ·refine qA (Z [p 4 (I (-1))] [(2,K 182 y182 a0)])<|vTT<|fR<|hr H
 refine vK<|fQ<|qD (fun v2=>Z [p 1 (I v2)] [(2,K 182 y182 a0)]) H fun v2 H=>vQ<|qA (Z [p 1 (I v2),p 29 (B (decide (v2<0)))] [(2,K 182 y182 a0)])<|cD H (fun H=>?_) (fun H=>?_)
 ·refine qA (Z [p 4 (I (-1))] [(2,K 182 y182 a0)])<|vTT<|fR<|hr H
 refine vK<|fQ<|qA (Z [p 4 (I v2)] [(2,K 182 y182 a0)])<|vTT<|hr H
def u73J0:Int->Option (Int)
 | v4 =>
 some v4
def u73L1(a0:List Y182)(g1:Int×Int->Option (Int)):Int×Int->Option (Int)
 | (v1,v2) =>
 if(decide (v2 < (a0.length:Int)))=true then
  gd (ix v2 a0.length/\(u131 (a0.getD v2.toNat (dflt y182)) v1).isSome=true/\True)<|lt (vl (u131 (a0.getD v2.toNat (dflt y182)) v1)) fun v3 =>
  if(decide (v3<0))=true then
   some (-1)
  else
   gd (in64 (v2+1)/\True) <|
   g1 (v3,v2+1)
 else
  u73J0 v1
def u73(a0:List Y182)(a1:Int):Option (Int) :=
 gd (in64 (a1-(a0.length:Int))/\True) <|
 if(decide (a1-(a0.length:Int)<0))=true then
  some (-1)
 else
  lp (u73L1 a0) ((a1-(a0.length:Int),0))
def k73:Ct:=lct 73 [.dat y182.sl,.dat i64] (fun x=>u73 x.1 x.2.1) (fun r:Int=>I r) (fun _=>())
theorem o73:Ok prog k73:=by
 refine okL [.tmp 4] func73 ntmps73 results73 ?_;intro y ⟨a0,a1,_⟩ r H Q hn hr;have:HT _ _:=⟨tc o131 tn⟩;refine qA (Z [p 0 (L y182 a0),p 1 (J a1)] [])<|qB (Z [p 0 (L y182 a0),p 1 (I (a1-(a0.length:Int)))] []) H fun H=>vQ<|qA (Z [p 0 (L y182 a0),p 1 (I (a1-(a0.length:Int))),p 11 (B (decide (a1-(a0.length:Int)<0)))] [])<|cD H (fun H=>?_) (fun H=>?_)
 ·refine qA (Z [p 4 (I (-1))] [])<|vTT<|fR<|hr H
 refine vK<|fQ<|jN r (fun(v4:Int)=>Z [p 1 (I v4)] []) (u73J0) (fun v4 H=>?_) (fun _ n0 e0 t0=>?_)
 ·refine qA (Z [p 4 (I v4)] [])<|vTT<|hr H
 refine qA (Z [p 0 (L y182 a0),p 1 (I (a1-(a0.length:Int))),p 5 (I 0)] [])<|vB<|lX (fun((v1,v2):Int×Int)=>Z [p 0 (L y182 a0),p 1 (I v1),p 5 (I v2)] []) ((a1-(a0.length:Int),0)) H fun _ g1 b1 e1 t1 ⟨v1,v2⟩ H=>vQ<|qA (Z [p 0 (L y182 a0),p 1 (I v1),p 5 (I v2),p 15 (B (decide (v2 < (a0.length:Int))))] [])<|cD H (fun H=>?_) (fun H=>?_)
 ·refine vK<|fQ<|vQ<|vB<|qD (fun v3=>Z [p 0 (L y182 a0),p 1 (I v3),p 5 (I v2)] []) H fun v3 H=>qA (Z [p 0 (L y182 a0),p 1 (I v3),p 5 (I v2),p 25 (B (decide (v3<0)))] [])<|cD H (fun H=>?_) (fun H=>?_)
  ·refine qA (Z [p 4 (I (-1))] [])<|vTT<|fDD<|fR<|t1<|fDD<|t0<|hr H
  refine vK<|fK<|fQ<|zB (Z [p 0 (L y182 a0),p 1 (I v3),p 5 (I (v2+1))] []) H fun H=>b1 H
 exact vE<|fE<|e1<|fX rfl<|n0 H
def u35(a0:List Y182)(a1:Int):Option (Int) :=
 gd ((u73 a0 a1).isSome=true/\True)<|lt (vl (u73 a0 a1)) fun v0 =>
 if(decide (v0<0))=true then
  some (-1)
 else
  some v0
def k35:Ct:=lct 35 [.agg y182.sl,.dat i64] (fun x=>u35 x.1 x.2.1) (fun r:Int=>I r) (fun _=>())
theorem o35:Ok prog k35:=by
 refine okL [.tmp 4] func35 ntmps35 results35 ?_;intro y ⟨a0,a1,_⟩ r H Q hn hr;have:HT _ _:=⟨tc o73 tn⟩;refine qA (Z [p 1 (J a1),p 2 (R 2)] [(2,Ob.box 24 [L y182 a0])])<|qD (fun v0=>Z [p 1 (I v0)] [(2,Ob.box 24 [L y182 a0])]) H fun v0 H=>vQ<|qA (Z [p 1 (I v0),p 10 (B (decide (v0<0)))] [(2,Ob.box 24 [L y182 a0])])<|cD H (fun H=>?_) (fun H=>?_)
 ·refine qA (Z [p 4 (I (-1))] [(2,Ob.box 24 [L y182 a0])])<|vTT<|fR<|hr H
 refine vK<|fQ<|qA (Z [p 4 (I v0)] [(2,Ob.box 24 [L y182 a0])])<|vTT<|hr H
def u10(a0:Y32)(a1:Int):Option (Int) :=
 gd ((u35 a0.1 a1).isSome=true/\True)<|lt (vl (u35 a0.1 a1)) fun v0 =>
 if(decide (v0<0))=true then
  some (-1)
 else
  gd ((u36 a0.2.1 v0).isSome=true/\True)<|lt (vl (u36 a0.2.1 v0)) fun v1 =>
  if(decide (v1<0))=true then
   some (-1)
  else
   gd ((u37 a0.2.2 v1).isSome=true/\True)<|lt (vl (u37 a0.2.2 v1)) fun v2 =>
   if(decide (v2<0))=true then
    some (-1)
   else
    some v2
def k10:Ct:=lct 10 [.agg y32,.dat i64] (fun x=>u10 x.1 x.2.1) (fun r:Int=>I r) (fun _=>())
theorem o10:Ok prog k10:=by
 refine okL [.tmp 4] func10 ntmps10 results10 ?_;intro y ⟨a0,a1,_⟩ r H Q hn hr;have:HT _ _:=⟨tc o37 (tc o36 (tc o35 tn))⟩;refine qA (Z [p 1 (J a1),p 2 (R 2)] [(2,K 32 y32 a0)])<|qD (fun v0=>Z [p 1 (I v0),p 2 (R 2)] [(2,K 32 y32 a0)]) H fun v0 H=>vQ<|qA (Z [p 1 (I v0),p 2 (R 2),p 10 (B (decide (v0<0)))] [(2,K 32 y32 a0)])<|cD H (fun H=>?_) (fun H=>?_)
 ·refine qA (Z [p 4 (I (-1))] [(2,K 32 y32 a0)])<|vTT<|fR<|hr H
 refine vK<|fQ<|qD (fun v1=>Z [p 1 (I v1),p 2 (R 2)] [(2,K 32 y32 a0)]) H fun v1 H=>vQ<|qA (Z [p 1 (I v1),p 2 (R 2),p 16 (B (decide (v1<0)))] [(2,K 32 y32 a0)])<|cD H (fun H=>?_) (fun H=>?_)
 ·refine qA (Z [p 4 (I (-1))] [(2,K 32 y32 a0)])<|vTT<|fR<|hr H
 refine vK<|fQ<|qD (fun v2=>Z [p 1 (I v2)] [(2,K 32 y32 a0)]) H fun v2 H=>vQ<|qA (Z [p 1 (I v2),p 22 (B (decide (v2<0)))] [(2,K 32 y32 a0)])<|cD H (fun H=>?_) (fun H=>?_)
 ·refine qA (Z [p 4 (I (-1))] [(2,K 32 y32 a0)])<|vTT<|fR<|hr H
 refine vK<|fQ<|qA (Z [p 4 (I v2)] [(2,K 32 y32 a0)])<|vTT<|hr H
def u79J0:List Bool->Option (List Bool)
 | v29 =>
 some v29
def u79J3(v22:Int)(g2:Bool×Int×List Bool->Option (List Bool)):List Bool×Bool->Option (List Bool)
 | (v27,v28) =>
 gd (in64 (v22+1)/\True) <|
 g2 (v28,v22+1,v27)
def u79J4(v22:Int)(v23:List Bool)(v21:Bool)(a2:List Bool)(g2:Bool×Int×List Bool->Option (List Bool)):Int×Int->Option (List Bool)
 | (v25,v26) =>
 gd (ix v22 a2.length/\(a2.getD v22.toNat false=true/\True->ix v25 v23.length)/\(a2.getD v22.toNat false=true/\True->v25.toNat<v23.length)/\((a2.getD v22.toNat false&&v23.getD v25.toNat false)=true/\True->ix v26 v23.length)/\((a2.getD v22.toNat false&&v23.getD v25.toNat false)=true/\True->v26.toNat<v23.length)/\True) <|
 if(a2.getD v22.toNat false&&v23.getD v25.toNat false&&!v23.getD v26.toNat false)=true then
  gd (ix v26 v23.length/\v26.toNat<v23.length/\True) <|
  u79J3 v22 g2 (v23.set v26.toNat true,true)
 else
  u79J3 v22 g2 (v23,v21)
def u79L2(a2:List Bool)(a4:Bool)(a1:List Y107)(g1:Bool×List Bool->Option (List Bool))(g2:Bool×Int×List Bool->Option (List Bool)):Bool×Int×List Bool->Option (List Bool)
 | (v21,v22,v23) =>
 if(decide (v22 < (a1.length:Int)))=true then
  gd (ix v22 a1.length/\ix v22 a1.length/\True)<|lt (a1.getD v22.toNat (dflt y107)) fun v24 =>
  if(!a4)=true then
   u79J4 v22 v23 v21 a2 g2 (v24.2.1,v24.1)
  else
   u79J4 v22 v23 v21 a2 g2 (v24.1,v24.2.1)
 else
  g1 (v21,v23)
def u79L1(a2:List Bool)(a4:Bool)(a1:List Y107)(g1:Bool×List Bool->Option (List Bool)):Bool×List Bool->Option (List Bool)
 | (v14,v15) =>
 if v14=true then
  lp (u79L2 a2 a4 a1 g1) (false,0,v15)
 else
  u79J0 v15
def u79(a0:Int)(a1:List Y107)(a2:List Bool)(a3:Int)(a4:Bool):Option (List Bool) :=
 gd ((0<=a0/\a0=a0/\a0.toNat*1<=281474976710656/\a0<=9223372036854775807)/\True) <|
 gd (ix a3 (List.replicate a0.toNat false).length/\a3.toNat < (List.replicate a0.toNat false).length/\True) <|
 lp (u79L1 a2 a4 a1) ((true,(List.replicate a0.toNat false).set a3.toNat true))
def k79:Ct:=lct 79 [.dat i64,.dat y107.sl,.dat Ty.bool.sl,.dat i64,.dat Ty.bool] (fun x=>u79 x.1 x.2.1 x.2.2.1 x.2.2.2.1 x.2.2.2.2.1) (fun r:List Bool=>AV.ow 4 true Ty.bool r) (fun _=>())
theorem o79:Ok prog k79:=by
 refine okL [.tmp 10] func79 ntmps79 results79 ?_;intro y ⟨a0,a1,a2,a3,a4,_⟩ r H Q hn hr;have:HT _ _:=⟨@tn prog⟩;refine qA (Z [p 0 (J a0),p 1 (L y107 a1),p 2 (L Ty.bool a2),p 3 (J a3),p 4 (C a4)] [])<|qB (Z [p 1 (L y107 a1),p 2 (L Ty.bool a2),p 3 (J a3),p 4 (C a4),p 11 (O 17)] [(17,A 4 Ty.bool (List.replicate a0.toNat false) 0)]) H fun H=>qB (Z [p 1 (L y107 a1),p 2 (L Ty.bool a2),p 4 (C a4),p 11 (O 17)] [(17,A 4 Ty.bool ((List.replicate a0.toNat false).set a3.toNat true) 0)]) H fun H=>jN r (fun(v29:List Bool)=>Z [p 11 (O 17)] [(17,A 4 Ty.bool v29 0)]) (u79J0) (fun v29 H=>?_) (fun _ n0 e0 t0=>?_)
 ·refine qA (Z [p 10 (O 17)] [(17,A 4 Ty.bool v29 0)])<|vTT<|hr H
 refine qA (Z [p 1 (L y107 a1),p 2 (L Ty.bool a2),p 4 (C a4),p 11 (O 17),p 12 (B true)] [(17,A 4 Ty.bool ((List.replicate a0.toNat false).set a3.toNat true) 0)])<|vB<|lX (fun((v14,v15):Bool×List Bool)=>Z [p 1 (L y107 a1),p 2 (L Ty.bool a2),p 4 (C a4),p 11 (O 17),p 12 (B v14)] [(17,A 4 Ty.bool v15 0)]) ((true,(List.replicate a0.toNat false).set a3.toNat true)) H fun _ g1 b1 e1 t1 ⟨v14,v15⟩ H=>vQ<|qA (Z [p 1 (L y107 a1),p 2 (L Ty.bool a2),p 4 (C a4),p 11 (O 17),p 21 (B v14)] [(17,A 4 Ty.bool v15 0)])<|cD H (fun H=>?_) (fun H=>?_)
 ·refine vK<|fQ<|vB<|qA (Z [p 1 (L y107 a1),p 2 (L Ty.bool a2),p 4 (C a4),p 11 (O 17),p 12 (B false)] [(17,A 4 Ty.bool v15 0)])<|qA (Z [p 1 (L y107 a1),p 2 (L Ty.bool a2),p 4 (C a4),p 11 (O 17),p 12 (B false),p 13 (I 0)] [(17,A 4 Ty.bool v15 0)])<|vB<|lX (fun((v21,v22,v23):Bool×Int×List Bool)=>Z [p 1 (L y107 a1),p 2 (L Ty.bool a2),p 4 (C a4),p 11 (O 17),p 12 (B v21),p 13 (I v22)] [(17,A 4 Ty.bool v23 0)]) (false,0,v15) H fun _ g2 b2 e2 t2 ⟨v21,v22,v23⟩ H=>vQ<|qA (Z [p 1 (L y107 a1),p 2 (L Ty.bool a2),p 4 (C a4),p 11 (O 17),p 12 (B v21),p 13 (I v22),p 25 (B (decide (v22 < (a1.length:Int))))] [(17,A 4 Ty.bool v23 0)])<|cD H (fun H=>?_) (fun H=>?_)
  ·refine vK<|fQ<|jN r (fun((v27,v28):List Bool×Bool)=>Z [p 1 (L y107 a1),p 2 (L Ty.bool a2),p 4 (C a4),p 11 (O 17),p 12 (B v28),p 13 (I v22)] [(17,A 4 Ty.bool v27 0)]) (u79J3 v22 g2) (fun⟨v27,v28⟩ H=>?_) (fun _ n3 e3 t3=>?_)
   ·refine zB (Z [p 1 (L y107 a1),p 2 (L Ty.bool a2),p 4 (C a4),p 11 (O 17),p 12 (B v28),p 13 (I (v22+1))] [(17,A 4 Ty.bool v27 0)]) H fun H=>b2 H
   refine vB<|qD (fun v24=>Z [p 1 (L y107 a1),p 2 (L Ty.bool a2),p 4 (C a4),p 11 (O 17),p 12 (B v21),p 13 (I v22),p 14 (J v24.1),p 15 (J v24.2.1)] [(17,A 4 Ty.bool v23 0)]) H fun v24 H=>jN r (fun((v25,v26):Int×Int)=>Z [p 1 (L y107 a1),p 2 (L Ty.bool a2),p 4 (C a4),p 11 (O 17),p 12 (B v21),p 13 (I v22),p 14 (J v25),p 15 (J v26)] [(17,A 4 Ty.bool v23 0)]) (u79J4 v22 v23 v21 a2 g2) (fun⟨v25,v26⟩ H=>?_) (fun _ n4 e4 t4=>?_)
   ·refine qB (Z [p 1 (L y107 a1),p 2 (L Ty.bool a2),p 4 (C a4),p 11 (O 17),p 12 (B v21),p 13 (I v22),p 15 (J v26),p 58 (B (a2.getD v22.toNat false&&v23.getD v25.toNat false&&!v23.getD v26.toNat false))] [(17,A 4 Ty.bool v23 0)]) H fun H=>cD H (fun H=>?_) (fun H=>?_)
    ·refine qB (Z [p 1 (L y107 a1),p 2 (L Ty.bool a2),p 4 (C a4),p 11 (O 17),p 13 (I v22)] [(17,A 4 Ty.bool (v23.set v26.toNat true) 0)]) H fun H=>zA (Z [p 1 (L y107 a1),p 2 (L Ty.bool a2),p 4 (C a4),p 11 (O 17),p 12 (B true),p 13 (I v22)] [(17,A 4 Ty.bool (v23.set v26.toNat true) 0)])<|fK<|n3 H
    exact vK<|fK<|n3 H
   refine qA (Z [p 1 (L y107 a1),p 2 (L Ty.bool a2),p 4 (C a4),p 11 (O 17),p 12 (B v21),p 13 (I v22),p 14 (J v24.1),p 15 (J v24.2.1),p 39 (B !a4)] [(17,A 4 Ty.bool v23 0)])<|cD H (fun H=>?_) (fun H=>?_)
   ·refine zA (Z [p 1 (L y107 a1),p 2 (L Ty.bool a2),p 4 (C a4),p 11 (O 17),p 12 (B v21),p 13 (I v22),p 14 (J v24.2.1),p 15 (J v24.1)] [(17,A 4 Ty.bool v23 0)])<|n4 H
   exact vK<|n4 H
  exact vE<|fE<|e2<|fX rfl<|fK<|b1 H
 exact vE<|fE<|e1<|fX rfl<|n0 H
def u110J0:Unit->Option (Bool)
 | _ =>
 some false
def u110L1(a0:List Int)(a1:Int)(g1:Int->Option (Bool)):Int->Option (Bool)
 | v0 =>
 if(decide (v0 < (a0.length:Int)))=true then
  gd (ix v0 a0.length/\True) <|
  if(a0.getD v0.toNat 0==a1)=true then
   some true
  else
   gd (in64 (v0+1)/\True) <|
   g1 (v0+1)
 else
  u110J0 ()
def u110(a0:List Int)(a1:Int):Option (Bool) :=
 lp (u110L1 a0 a1) 0
def k110:Ct:=lct 110 [.dat i64.sl,.dat i64] (fun x=>u110 x.1 x.2.1) (fun r:Bool=>B r) (fun _=>())
theorem o110:Ok prog k110:=by
 refine okL [.tmp 4] func110 ntmps110 results110 ?_;intro y ⟨a0,a1,_⟩ r H Q hn hr;have:HT _ _:=⟨@tn prog⟩;refine qA (Z [p 0 (L i64 a0),p 1 (J a1)] [])<|jN r (fun(_:Unit)=>Z [] []) (u110J0) (fun _ H=>?_) (fun _ n0 e0 t0=>?_)
 ·refine qA (Z [p 4 (B false)] [])<|vTT<|hr H
 refine qA (Z [p 0 (L i64 a0),p 1 (J a1),p 5 (I 0)] [])<|vB<|lX (fun(v0:Int)=>Z [p 0 (L i64 a0),p 1 (J a1),p 5 (I v0)] []) 0 H fun _ g1 b1 e1 t1 v0 H=>vQ<|qA (Z [p 0 (L i64 a0),p 1 (J a1),p 5 (I v0),p 9 (B (decide (v0 < (a0.length:Int))))] [])<|cD H (fun H=>?_) (fun H=>?_)
 ·refine vK<|fQ<|vQ<|vB<|qB (Z [p 0 (L i64 a0),p 1 (J a1),p 5 (I v0),p 17 (B (a0.getD v0.toNat 0==a1))] []) H fun H=>cD H (fun H=>?_) (fun H=>?_)
  ·refine qA (Z [p 4 (B true)] [])<|vTT<|fDD<|fR<|t1<|fDD<|t0<|hr H
  refine vK<|fK<|fQ<|zB (Z [p 0 (L i64 a0),p 1 (J a1),p 5 (I (v0+1))] []) H fun H=>b1 H
 exact vE<|fE<|e1<|fX rfl<|n0 H
def u62J0:List Bool->Option (List Bool)
 | v2 =>
 some v2
def u62L1(a1:List Int)(a0:List Y107)(g1:Int×List Bool->Option (List Bool)):Int×List Bool->Option (List Bool)
 | (v0,v1) =>
 if(decide (v0 < (a0.length:Int)))=true then
  gd ((u110 a1 v0).isSome=true/\(v1.length+[!vl (u110 a1 v0)].length<=9223372036854775807/\(v1.length+[!vl (u110 a1 v0)].length)*1<=140737488355328)/\True) <|
  gd (in64 (v0+1)/\True) <|
  g1 ((v0+1,v1++[!vl (u110 a1 v0)]))
 else
  u62J0 v1
def u62(a0:List Y107)(a1:List Int):Option (List Bool) :=
 lp (u62L1 a1 a0) (0,[])
def k62:Ct:=lct 62 [.dat y107.sl,.dat i64.sl] (fun x=>u62 x.1 x.2.1) (fun r:List Bool=>AV.ow 4 true Ty.bool r) (fun _=>())
theorem o62:Ok prog k62:=by
 refine okL [.tmp 4] func62 ntmps62 results62 ?_;intro y ⟨a0,a1,_⟩ r H Q hn hr;have:HT _ _:=⟨tc o110 tn⟩;refine qA (Z [p 0 (L y107 a0),p 1 (L i64 a1)] [])<|qA (Z [p 0 (L y107 a0),p 1 (L i64 a1),p 5 (O 7)] [(7,A 4 Ty.bool [] 0)])<|jN r (fun(v2:List Bool)=>Z [p 5 (O 7)] [(7,A 4 Ty.bool v2 0)]) (u62J0) (fun v2 H=>?_) (fun _ n0 e0 t0=>?_)
 ·refine qA (Z [p 4 (O 7)] [(7,A 4 Ty.bool v2 0)])<|vTT<|hr H
 refine qA (Z [p 0 (L y107 a0),p 1 (L i64 a1),p 5 (O 7),p 6 (I 0)] [(7,A 4 Ty.bool [] 0)])<|vB<|lX (fun((v0,v1):Int×List Bool)=>Z [p 0 (L y107 a0),p 1 (L i64 a1),p 5 (O 7),p 6 (I v0)] [(7,A 4 Ty.bool v1 0)]) (0,[]) H fun _ g1 b1 e1 t1 ⟨v0,v1⟩ H=>vQ<|qA (Z [p 0 (L y107 a0),p 1 (L i64 a1),p 5 (O 7),p 6 (I v0),p 11 (B (decide (v0 < (a0.length:Int))))] [(7,A 4 Ty.bool v1 0)])<|cD H (fun H=>?_) (fun H=>?_)
 ·refine vK<|fQ<|vQ<|vB<|zB (Z [p 0 (L y107 a0),p 1 (L i64 a1),p 5 (AV.os 7 1),p 6 (I v0)] [(7,A 4 Ty.bool (v1++[!vl (u110 a1 v0)]) 1),(19,A 4 Ty.bool [!vl (u110 a1 v0)] 0)]) H fun H=>fK<|fQ<|zB (Z [p 0 (L y107 a0),p 1 (L i64 a1),p 5 (AV.os 7 1),p 6 (I (v0+1))] [(7,A 4 Ty.bool (v1++[!vl (u110 a1 v0)]) 1),(19,A 4 Ty.bool [!vl (u110 a1 v0)] 0)]) H fun H=>b1 H
 exact vE<|fE<|e1<|fX rfl<|n0 H
def u109J4:List Y204->Option (List Y204)
 | v25 =>
 some v25
def u109L5(a0:Y43)(g5:Int×List Y204->Option (List Y204)):Int×List Y204->Option (List Y204)
 | (v21,v22) =>
 if(decide (v21 < (a0.2.2.length:Int)))=true then
  gd (ix v21 a0.2.2.length/\ix v21 a0.2.2.length/\(v22.length+[(-1,v21,(a0.2.2.getD v21.toNat (dflt y190)).2.2,(a0.2.2.getD v21.toNat (dflt y190)).2.1==1)].length<=9223372036854775807/\(v22.length+[(-1,v21,(a0.2.2.getD v21.toNat (dflt y190)).2.2,(a0.2.2.getD v21.toNat (dflt y190)).2.1==1)].length)*32<=140737488355328)/\True)<|lt ((v22++[(-1,v21,(a0.2.2.getD v21.toNat (dflt y190)).2.2,(a0.2.2.getD v21.toNat (dflt y190)).2.1==1)],[(-1,v21,(a0.2.2.getD v21.toNat (dflt y190)).2.2,(a0.2.2.getD v21.toNat (dflt y190)).2.1==1)])) fun(v23,v24) =>
  gd (in64 (v21+1)/\True) <|
  g5 (v21+1,v23)
 else
  u109J4 v22
def u109J0(a0:Y43):List Y204->Option (List Y204)
 | v18 =>
 lp (u109L5 a0) (0,v18)
def u109J2(v8:Int)(g1:Int×List Y204->Option (List Y204)):List Y204->Option (List Y204)
 | v17 =>
 gd (in64 (v8+1)/\True) <|
 g1 (v8+1,v17)
def u109L3(v8:Int)(v10:Y150)(g1:Int×List Y204->Option (List Y204))(g3:Int×List Y204->Option (List Y204)):Int×List Y204->Option (List Y204)
 | (v13,v14) =>
 if(decide (v13 < (v10.2.2.length:Int)))=true then
  gd (ix v13 v10.2.2.length/\in64 ((v10.2.2.length:Int)-1)/\(v14.length+[(v8,v13,v10.2.2.getD v13.toNat 0,v13==(v10.2.2.length:Int)-1)].length<=9223372036854775807/\(v14.length+[(v8,v13,v10.2.2.getD v13.toNat 0,v13==(v10.2.2.length:Int)-1)].length)*32<=140737488355328)/\True)<|lt ((v14++[(v8,v13,v10.2.2.getD v13.toNat 0,v13==(v10.2.2.length:Int)-1)],[(v8,v13,v10.2.2.getD v13.toNat 0,v13==(v10.2.2.length:Int)-1)])) fun(v15,v16) =>
  gd (in64 (v13+1)/\True) <|
  g3 (v13+1,v15)
 else
  u109J2 v8 g1 v14
def u109L1(a0:Y43)(g1:Int×List Y204->Option (List Y204)):Int×List Y204->Option (List Y204)
 | (v8,v9) =>
 if(decide (v8 < (a0.1.length:Int)))=true then
  gd (ix v8 a0.1.length/\True)<|lt (a0.1.getD v8.toNat (dflt y150)) fun v10 =>
  lp (u109L3 v8 v10 g1) (0,v9)
 else
  u109J0 a0 v9
def u109(a0:Y43):Option (List Y204) :=
 lp (u109L1 a0) (0,[])
def k109:Ct:=lct 109 [.agg y43] (fun x=>u109 x.1) (fun r:List Y204=>AV.ow 204 true y204 r) (fun _=>())
theorem o109:Ok prog k109:=by
 refine okL [.tmp 2] func109 ntmps109 results109 ?_;intro y ⟨a0,_⟩ r H Q hn hr;have:HT _ _:=⟨@tn prog⟩;refine qA (Z [p 1 (R 1)] [(1,K 43 y43 a0)])<|qA (Z [p 1 (R 1),p 3 (O 8)] [(8,A 204 y204 [] 0),(1,K 43 y43 a0)])<|jN r (fun(v18:List Y204)=>Z [p 1 (R 1),p 3 (O 8)] [(8,A 204 y204 v18 0),(1,K 43 y43 a0)]) (u109J0 a0) (fun v18 H=>?_) (fun _ n0 e0 t0=>?_)
 ·refine jN r (fun(v25:List Y204)=>Z [p 3 (O 8)] [(8,A 204 y204 v25 0)]) (u109J4) (fun v25 H=>?_) (fun _ n4 e4 t4=>?_)
  ·refine qA (Z [p 2 (O 8)] [(8,A 204 y204 v25 0)])<|vTT<|hr H
  refine qA (Z [p 1 (R 1),p 3 (O 8),p 7 (I 0)] [(8,A 204 y204 v18 0),(1,K 43 y43 a0)])<|vB<|lX (fun((v21,v22):Int×List Y204)=>Z [p 1 (R 1),p 3 (O 8),p 7 (I v21)] [(8,A 204 y204 v22 0),(1,K 43 y43 a0)]) (0,v18) H fun _ g5 b5 e5 t5 ⟨v21,v22⟩ H=>vQ<|qA (Z [p 1 (R 1),p 3 (O 8),p 7 (I v21),p 47 (B (decide (v21 < (a0.2.2.length:Int))))] [(8,A 204 y204 v22 0),(1,K 43 y43 a0)])<|cD H (fun H=>?_) (fun H=>?_)
  ·refine vK<|fQ<|vQ<|vB<|zD (fun(v23,v24)=>Z [p 1 (R 1),p 3 (AV.os 8 1),p 7 (I v21)] [(8,A 204 y204 v23 1),(66,A 204 y204 v24 0),(1,K 43 y43 a0)]) H fun⟨v23,v24⟩ H =>
    fK<|fQ <|
    zB (Z [p 1 (R 1),p 3 (AV.os 8 1),p 7 (I (v21+1))] [(8,A 204 y204 v23 1),(66,A 204 y204 v24 0),(1,K 43 y43 a0)]) H fun H =>
    b5 H
  exact vE<|fE<|e5<|fX rfl<|n4 H
 refine qA (Z [p 1 (R 1),p 3 (O 8),p 4 (I 0)] [(8,A 204 y204 [] 0),(1,K 43 y43 a0)])<|vB<|lX (fun((v8,v9):Int×List Y204)=>Z [p 1 (R 1),p 3 (O 8),p 4 (I v8)] [(8,A 204 y204 v9 0),(1,K 43 y43 a0)]) (0,[]) H fun _ g1 b1 e1 t1 ⟨v8,v9⟩ H=>vQ<|qA (Z [p 1 (R 1),p 3 (O 8),p 4 (I v8),p 13 (B (decide (v8 < (a0.1.length:Int))))] [(8,A 204 y204 v9 0),(1,K 43 y43 a0)])<|cD H (fun H=>?_) (fun H=>?_)
 ·refine vK<|fQ<|jN r (fun(v17:List Y204)=>Z [p 1 (R 1),p 3 (O 8),p 4 (I v8)] [(8,A 204 y204 v17 0),(1,K 43 y43 a0)]) (u109J2 v8 g1) (fun v17 H=>?_) (fun _ n2 e2 t2=>?_)
  ·refine zB (Z [p 1 (R 1),p 3 (O 8),p 4 (I (v8+1))] [(8,A 204 y204 v17 0),(1,K 43 y43 a0)]) H fun H=>b1 H
  refine vB<|qD (fun v10=>Z [p 1 (R 1),p 3 (O 8),p 4 (I v8),p 5 (L i64 v10.2.2)] [(8,A 204 y204 v9 0),(1,K 43 y43 a0)]) H fun v10 H=>qA (Z [p 1 (R 1),p 3 (O 8),p 4 (I v8),p 5 (L i64 v10.2.2),p 6 (I 0)] [(8,A 204 y204 v9 0),(1,K 43 y43 a0)])<|vB<|lX (fun((v13,v14):Int×List Y204)=>Z [p 1 (R 1),p 3 (O 8),p 4 (I v8),p 5 (L i64 v10.2.2),p 6 (I v13)] [(8,A 204 y204 v14 0),(1,K 43 y43 a0)]) (0,v9) H fun _ g3 b3 e3 t3 ⟨v13,v14⟩ H=>vQ<|qA (Z [p 1 (R 1),p 3 (O 8),p 4 (I v8),p 5 (L i64 v10.2.2),p 6 (I v13),p 25 (B (decide (v13 < (v10.2.2.length:Int))))] [(8,A 204 y204 v14 0),(1,K 43 y43 a0)])<|cD H (fun H=>?_) (fun H=>?_)
  ·refine vK<|fQ<|vQ<|vB<|zD (fun(v15,v16)=>Z [p 1 (R 1),p 3 (AV.os 8 1),p 4 (I v8),p 5 (L i64 v10.2.2),p 6 (I v13)] [(8,A 204 y204 v15 1),(41,A 204 y204 v16 0),(1,K 43 y43 a0)]) H fun⟨v15,v16⟩ H =>
    fK<|fQ <|
    zB (Z [p 1 (R 1),p 3 (AV.os 8 1),p 4 (I v8),p 5 (L i64 v10.2.2),p 6 (I (v13+1))] [(8,A 204 y204 v15 1),(41,A 204 y204 v16 0),(1,K 43 y43 a0)]) H fun H =>
    b3 H
  exact vE<|fE<|e3<|fX rfl<|fK<|n2 H
 exact vE<|fE<|e1<|fX rfl<|n0 H
def u61(a0:Y46):Option (Int) :=
 gd ((u109 a0.2.1).isSome=true/\in64 (2*(↑(vl (u109 a0.2.1)).length:Int))/\True)<|lt (vl (u109 a0.2.1)) fun v0 =>
 some (2*(v0.length:Int))
def k61:Ct:=lct 61 [.agg y46] (fun x=>u61 x.1) (fun r:Int=>I r) (fun _=>())
theorem o61:Ok prog k61:=by
 refine okL [.tmp 2] func61 ntmps61 results61 ?_;intro y ⟨a0,_⟩ r H Q hn hr;have:HT _ _:=⟨tc o109 tn⟩;refine qA (Z [p 1 (R 1)] [(1,K 46 y46 a0)])<|qD (fun v0=>Z [p 2 (I (2*(v0.length:Int)))] [(5,A 204 y204 v0 0),(1,K 46 y46 a0)]) H fun v0 H=>vTT<|hr H
def u107(a0:List Y107)(a1:Int)(a2:Int)(a3:Int)(a4:Int)(a5:Int)(a6:Int):Option (List Y107) :=
 gd (in64 (2*a1)/\in64 (2*a1+a3)/\in64 (2*a2)/\in64 (2*a2+a4)/\(a0.length+[(2*a1+a3,2*a2+a4,a5,a6)].length<=9223372036854775807/\(a0.length+[(2*a1+a3,2*a2+a4,a5,a6)].length)*32<=140737488355328)/\True) <|
 some (a0++[(2*a1+a3,2*a2+a4,a5,a6)])
def k107:Ct:=lct 107 [.os 107 y107,.dat i64,.dat i64,.dat i64,.dat i64,.dat i64,.dat i64] (fun x=>u107 x.1 x.2.1 x.2.2.1 x.2.2.2.1 x.2.2.2.2.1 x.2.2.2.2.2.1 x.2.2.2.2.2.2.1) (fun r:List Y107=>AV.ow 107 true y107 r) (fun _=>())
theorem o107:Ok prog k107:=by
 refine okL [.tmp 14] func107 ntmps107 results107 ?_;intro y ⟨a0,a1,a2,a3,a4,a5,a6,_⟩ r H Q hn hr;have:HT _ _:=⟨@tn prog⟩;refine qA (Z [p 0 (O 500000),p 1 (J a1),p 2 (J a2),p 3 (J a3),p 4 (J a4),p 5 (J a5),p 6 (J a6)] [(500000,A 107 y107 a0 0)])<|qB (Z [p 14 (AV.os 500000 1)] [(500000,A 107 y107 (a0++[(2*a1+a3,2*a2+a4,a5,a6)]) 1),(27,A 107 y107 [(2*a1+a3,2*a2+a4,a5,a6)] 0)]) H fun H=>vTT<|hr H
def u106J0:List Int->Option (List Int)
 | v5 =>
 some v5
def u106J2(v2:Int)(g1:Int×List Int->Option (List Int)):List Int->Option (List Int)
 | v4 =>
 gd (in64 (v2+1)/\True) <|
 g1 (v2+1,v4)
def u106L1(v0:List Y204)(a1:Int)(g1:Int×List Int->Option (List Int)):Int×List Int->Option (List Int)
 | (v2,v3) =>
 if(decide (v2 < (v0.length:Int)))=true then
  gd (ix v2 v0.length/\v2.toNat<v0.length/\(((v0.getD v2.toNat (dflt y204)).2.2.1==a1)=true/\True->ix v2 v0.length)/\(((v0.getD v2.toNat (dflt y204)).2.2.1==a1)=true/\True->v2.toNat<v0.length)/\True) <|
  if((v0.getD v2.toNat (dflt y204)).2.2.1==a1&&!(v0.getD v2.toNat (dflt y204)).2.2.2)=true then
   gd ((v3.length+[v2].length<=9223372036854775807/\(v3.length+[v2].length)*8<=140737488355328)/\True) <|
   u106J2 v2 g1 (v3++[v2])
  else
   u106J2 v2 g1 v3
 else
  u106J0 v3
def u106(a0:Y43)(a1:Int):Option (List Int) :=
 gd ((u109 a0).isSome=true/\True)<|lt (vl (u109 a0)) fun v0 =>
 lp (u106L1 v0 a1) (0,[])
def k106:Ct:=lct 106 [.agg y43,.dat i64] (fun x=>u106 x.1 x.2.1) (fun r:List Int=>AV.ow 2 true i64 r) (fun _=>())
theorem o106:Ok prog k106:=by
 refine okL [.tmp 4] func106 ntmps106 results106 ?_;intro y ⟨a0,a1,_⟩ r H Q hn hr;have:HT _ _:=⟨tc o109 tn⟩;refine qA (Z [p 1 (J a1),p 2 (R 2)] [(2,K 43 y43 a0)])<|qA (Z [p 1 (J a1),p 2 (R 2),p 5 (O 8)] [(8,A 2 i64 [] 0),(2,K 43 y43 a0)])<|qD (fun v0=>Z [p 1 (J a1),p 5 (O 8),p 6 (O 10)] [(10,A 204 y204 v0 0),(8,A 2 i64 [] 0),(2,K 43 y43 a0)]) H fun v0 H=>jN r (fun(v5:List Int)=>Z [p 5 (O 8)] [(8,A 2 i64 v5 0)]) (u106J0) (fun v5 H=>?_) (fun _ n0 e0 t0=>?_)
 ·refine qA (Z [p 4 (O 8)] [(8,A 2 i64 v5 0)])<|vTT<|hr H
 refine qA (Z [p 1 (J a1),p 5 (O 8),p 6 (O 10),p 7 (I 0)] [(10,A 204 y204 v0 0),(8,A 2 i64 [] 0),(2,K 43 y43 a0)])<|vB<|lX (fun((v2,v3):Int×List Int)=>Z [p 1 (J a1),p 5 (O 8),p 6 (O 10),p 7 (I v2)] [(10,A 204 y204 v0 0),(8,A 2 i64 v3 0)]) (0,[]) H fun _ g1 b1 e1 t1 ⟨v2,v3⟩ H=>vQ<|qA (Z [p 1 (J a1),p 5 (O 8),p 6 (O 10),p 7 (I v2),p 14 (B (decide (v2 < (v0.length:Int))))] [(10,A 204 y204 v0 0),(8,A 2 i64 v3 0)])<|cD H (fun H=>?_) (fun H=>?_)
 ·refine vK<|fQ<|jN r (fun(v4:List Int)=>Z [p 1 (J a1),p 5 (O 8),p 6 (O 10),p 7 (I v2)] [(8,A 2 i64 v4 0),(10,A 204 y204 v0 0)]) (u106J2 v2 g1) (fun v4 H=>?_) (fun _ n2 e2 t2=>?_)
  ·refine zB (Z [p 1 (J a1),p 5 (O 8),p 6 (O 10),p 7 (I (v2+1))] [(8,A 2 i64 v4 0),(10,A 204 y204 v0 0)]) H fun H=>b1 H
  refine vB<|qB (Z [p 1 (J a1),p 5 (O 8),p 6 (O 10),p 7 (I v2),p 31 (B ((v0.getD v2.toNat (dflt y204)).2.2.1==a1&&!(v0.getD v2.toNat (dflt y204)).2.2.2))] [(10,A 204 y204 v0 0),(8,A 2 i64 v3 0)]) H fun H=>cD H (fun H=>?_) (fun H=>?_)
  ·refine zB (Z [p 1 (J a1),p 5 (AV.os 8 1),p 6 (O 10),p 7 (I v2)] [(8,A 2 i64 (v3++[v2]) 1),(34,A 2 i64 [v2] 0),(10,A 204 y204 v0 0)]) H fun H=>fK<|n2 H
  exact vK<|fK<|n2 H
 exact vE<|fE<|e1<|fX rfl<|n0 H
def u105J0:Unit->Option (Int)
 | _ =>
 some (-1)
def u105L1(v0:List Y204)(a1:Int)(g1:Int->Option (Int)):Int->Option (Int)
 | v1 =>
 if(decide (v1 < (v0.length:Int)))=true then
  gd (ix v1 v0.length/\v1.toNat<v0.length/\(((v0.getD v1.toNat (dflt y204)).2.2.1==a1)=true/\True->ix v1 v0.length)/\(((v0.getD v1.toNat (dflt y204)).2.2.1==a1)=true/\True->v1.toNat<v0.length)/\True) <|
  if((v0.getD v1.toNat (dflt y204)).2.2.1==a1&&(v0.getD v1.toNat (dflt y204)).2.2.2)=true then
   some v1
  else
   gd (in64 (v1+1)/\True) <|
   g1 (v1+1)
 else
  u105J0 ()
def u105(a0:Y43)(a1:Int):Option (Int) :=
 gd ((u109 a0).isSome=true/\True)<|lt (vl (u109 a0)) fun v0 =>
 lp (u105L1 v0 a1) 0
def k105:Ct:=lct 105 [.agg y43,.dat i64] (fun x=>u105 x.1 x.2.1) (fun r:Int=>I r) (fun _=>())
theorem o105:Ok prog k105:=by
 refine okL [.tmp 4] func105 ntmps105 results105 ?_;intro y ⟨a0,a1,_⟩ r H Q hn hr;have:HT _ _:=⟨tc o109 tn⟩;refine qA (Z [p 1 (J a1),p 2 (R 2)] [(2,K 43 y43 a0)])<|qD (fun v0=>Z [p 1 (J a1),p 5 (O 8)] [(8,A 204 y204 v0 0),(2,K 43 y43 a0)]) H fun v0 H=>jN r (fun(_:Unit)=>Z [] []) (u105J0) (fun _ H=>?_) (fun _ n0 e0 t0=>?_)
 ·refine qA (Z [p 4 (I (-1))] [])<|vTT<|hr H
 refine qA (Z [p 1 (J a1),p 5 (O 8),p 6 (I 0)] [(8,A 204 y204 v0 0),(2,K 43 y43 a0)])<|vB<|lX (fun(v1:Int)=>Z [p 1 (J a1),p 5 (O 8),p 6 (I v1)] [(8,A 204 y204 v0 0)]) 0 H fun _ g1 b1 e1 t1 v1 H=>vQ<|qA (Z [p 1 (J a1),p 5 (O 8),p 6 (I v1),p 12 (B (decide (v1 < (v0.length:Int))))] [(8,A 204 y204 v0 0)])<|cD H (fun H=>?_) (fun H=>?_)
 ·refine vK<|fQ<|vQ<|vB<|qB (Z [p 1 (J a1),p 5 (O 8),p 6 (I v1),p 28 (B ((v0.getD v1.toNat (dflt y204)).2.2.1==a1&&(v0.getD v1.toNat (dflt y204)).2.2.2))] [(8,A 204 y204 v0 0)]) H fun H=>cD H (fun H=>?_) (fun H=>?_)
  ·refine qA (Z [p 4 (I v1)] [(8,A 204 y204 v0 0)])<|vTT<|fDD<|fR<|t1<|fDD<|t0<|hr H
  refine vK<|fK<|fQ<|zB (Z [p 1 (J a1),p 5 (O 8),p 6 (I (v1+1))] [(8,A 204 y204 v0 0)]) H fun H=>b1 H
 exact vE<|fE<|e1<|fX rfl<|n0 H
def u103J0:List Y107->Option (List Y107)
 | v20 =>
 some v20
def u103J2(v9:Int)(g1:Int×List Y107->Option (List Y107)):List Y107->Option (List Y107)
 | v19 =>
 gd (in64 (v9+1)/\True) <|
 g1 (v9+1,v19)
def u103J4(v14:Int)(g3:Int×List Y107->Option (List Y107)):List Y107->Option (List Y107)
 | v18 =>
 gd (in64 (v14+1)/\True) <|
 g3 (v14+1,v18)
def u103J5(v14:Int)(v15:List Y107)(a2:Int)(a3:Int)(v9:Int)(a4:Int)(g3:Int×List Y107->Option (List Y107)):Bool->Option (List Y107)
 | v16 =>
 if v16=true then
  gd ((u107 v15 a2 a3 v9 v14 1 a4).isSome=true/\True)<|lt (vl (u107 v15 a2 a3 v9 v14 1 a4)) fun v17 =>
  u103J4 v14 g3 v17
 else
  u103J4 v14 g3 v15
def u103L3(a2:Int)(a3:Int)(v9:Int)(a4:Int)(a1:Y153)(g1:Int×List Y107->Option (List Y107))(g3:Int×List Y107->Option (List Y107)):Int×List Y107->Option (List Y107)
 | (v14,v15) =>
 if(decide (v14<=1))=true then
  if(a1.1==1)=true then
   u103J5 v14 v15 a2 a3 v9 a4 g3 (a1.2.2.2.1==3||(a1.2.2.2.1==1)==(v9==v14))
  else
   if(a1.1==2)=true then
    u103J5 v14 v15 a2 a3 v9 a4 g3 (v9==0)
   else
    if(a1.1==3)=true then
     u103J5 v14 v15 a2 a3 v9 a4 g3 (v9==1)
    else
     u103J5 v14 v15 a2 a3 v9 a4 g3 false
 else
  u103J2 v9 g1 v15
def u103L1(a2:Int)(a3:Int)(a4:Int)(a1:Y153)(g1:Int×List Y107->Option (List Y107)):Int×List Y107->Option (List Y107)
 | (v9,v10) =>
 if(decide (v9<=1))=true then
  lp (u103L3 a2 a3 v9 a4 a1 g1) (0,v10)
 else
  u103J0 v10
def u103(a0:List Y107)(a1:Y153)(a2:Int)(a3:Int)(a4:Int):Option (List Y107) :=
 lp (u103L1 a2 a3 a4 a1) (0,a0)
def k103:Ct:=lct 103 [.os 107 y107,.agg y153,.dat i64,.dat i64,.dat i64] (fun x=>u103 x.1 x.2.1 x.2.2.1 x.2.2.2.1 x.2.2.2.2.1) (fun r:List Y107=>AV.ow 107 true y107 r) (fun _=>())
theorem o103:Ok prog k103:=by
 refine okL [.tmp 10] func103 ntmps103 results103 ?_;intro y ⟨a0,a1,a2,a3,a4,_⟩ r H Q hn hr;have:HT _ _:=⟨tc o107 tn⟩;refine qA (Z [p 0 (O 500000),p 2 (J a2),p 3 (J a3),p 4 (J a4),p 6 (R 6)] [(6,K 153 y153 a1),(500000,A 107 y107 a0 0)])<|jN r (fun(v20:List Y107)=>Z [p 0 (O 500000)] [(500000,A 107 y107 v20 0)]) (u103J0) (fun v20 H=>?_) (fun _ n0 e0 t0=>?_)
 ·refine qA (Z [p 10 (O 500000)] [(500000,A 107 y107 v20 0)])<|vTT<|hr H
 refine qA (Z [p 0 (O 500000),p 2 (J a2),p 3 (J a3),p 4 (J a4),p 6 (R 6),p 11 (I 0)] [(6,K 153 y153 a1),(500000,A 107 y107 a0 0)])<|vB<|lX (fun((v9,v10):Int×List Y107)=>Z [p 0 (O 500000),p 2 (J a2),p 3 (J a3),p 4 (J a4),p 6 (R 6),p 11 (I v9)] [(6,K 153 y153 a1),(500000,A 107 y107 v10 0)]) (0,a0) H fun _ g1 b1 e1 t1 ⟨v9,v10⟩ H=>vQ<|qA (Z [p 0 (O 500000),p 2 (J a2),p 3 (J a3),p 4 (J a4),p 6 (R 6),p 11 (I v9),p 15 (B (decide (v9<=1)))] [(6,K 153 y153 a1),(500000,A 107 y107 v10 0)])<|cD H (fun H=>?_) (fun H=>?_)
 ·refine vK<|fQ<|jN r (fun(v19:List Y107)=>Z [p 0 (O 500000),p 2 (J a2),p 3 (J a3),p 4 (J a4),p 6 (R 6),p 11 (I v9)] [(6,K 153 y153 a1),(500000,A 107 y107 v19 0)]) (u103J2 v9 g1) (fun v19 H=>?_) (fun _ n2 e2 t2=>?_)
  ·refine zB (Z [p 0 (O 500000),p 2 (J a2),p 3 (J a3),p 4 (J a4),p 6 (R 6),p 11 (I (v9+1))] [(6,K 153 y153 a1),(500000,A 107 y107 v19 0)]) H fun H=>b1 H
  refine vB<|qA (Z [p 0 (O 500000),p 2 (J a2),p 3 (J a3),p 4 (J a4),p 6 (R 6),p 11 (I v9),p 12 (I 0)] [(6,K 153 y153 a1),(500000,A 107 y107 v10 0)])<|vB<|lX (fun((v14,v15):Int×List Y107)=>Z [p 0 (O 500000),p 2 (J a2),p 3 (J a3),p 4 (J a4),p 6 (R 6),p 11 (I v9),p 12 (I v14)] [(6,K 153 y153 a1),(500000,A 107 y107 v15 0)]) (0,v10) H fun _ g3 b3 e3 t3 ⟨v14,v15⟩ H=>vQ<|qA (Z [p 0 (O 500000),p 2 (J a2),p 3 (J a3),p 4 (J a4),p 6 (R 6),p 11 (I v9),p 12 (I v14),p 19 (B (decide (v14<=1)))] [(6,K 153 y153 a1),(500000,A 107 y107 v15 0)])<|cD H (fun H=>?_) (fun H=>?_)
  ·refine vK<|fQ<|jN r (fun(v18:List Y107)=>Z [p 0 (O 500000),p 2 (J a2),p 3 (J a3),p 4 (J a4),p 6 (R 6),p 11 (I v9),p 12 (I v14)] [(500000,A 107 y107 v18 0),(6,K 153 y153 a1)]) (u103J4 v14 g3) (fun v18 H=>?_) (fun _ n4 e4 t4=>?_)
   ·refine zB (Z [p 0 (O 500000),p 2 (J a2),p 3 (J a3),p 4 (J a4),p 6 (R 6),p 11 (I v9),p 12 (I (v14+1))] [(500000,A 107 y107 v18 0),(6,K 153 y153 a1)]) H fun H=>b3 H
   refine vB<|qA (Z [p 0 (O 500000),p 2 (J a2),p 3 (J a3),p 4 (J a4),p 6 (R 6),p 11 (I v9),p 12 (I v14),p 13 (B false)] [(6,K 153 y153 a1),(500000,A 107 y107 v15 0)])<|jN r (fun(v16:Bool)=>Z [p 0 (O 500000),p 2 (J a2),p 3 (J a3),p 4 (J a4),p 6 (R 6),p 11 (I v9),p 12 (I v14),p 13 (B v16)] [(6,K 153 y153 a1),(500000,A 107 y107 v15 0)]) (u103J5 v14 v15 a2 a3 v9 a4 g3) (fun v16 H=>?_) (fun _ n5 e5 t5=>?_)
   ·refine qA (Z [p 0 (O 500000),p 2 (J a2),p 3 (J a3),p 4 (J a4),p 6 (R 6),p 11 (I v9),p 12 (I v14),p 46 (B v16)] [(6,K 153 y153 a1),(500000,A 107 y107 v15 0)])<|cD H (fun H=>?_) (fun H=>?_)
    ·refine zD (fun v17=>Z [p 0 (AV.os 500000 1),p 2 (J a2),p 3 (J a3),p 4 (J a4),p 6 (R 6),p 11 (I v9),p 12 (I v14)] [(500000,A 107 y107 v17 1),(6,K 153 y153 a1)]) H fun v17 H=>fK<|n4 H
    exact vK<|fK<|n4 H
   refine qA (Z [p 0 (O 500000),p 2 (J a2),p 3 (J a3),p 4 (J a4),p 6 (R 6),p 11 (I v9),p 12 (I v14),p 13 (B false),p 23 (J a1.1)] [(6,K 153 y153 a1),(500000,A 107 y107 v15 0)])<|vB<|qA (Z [p 0 (O 500000),p 2 (J a2),p 3 (J a3),p 4 (J a4),p 6 (R 6),p 11 (I v9),p 12 (I v14),p 13 (B false),p 23 (J a1.1),p 24 (B (a1.1==1))] [(6,K 153 y153 a1),(500000,A 107 y107 v15 0)])<|cD H (fun H=>?_) (fun H=>?_)
   ·refine zA (Z [p 0 (O 500000),p 2 (J a2),p 3 (J a3),p 4 (J a4),p 6 (R 6),p 11 (I v9),p 12 (I v14),p 13 (B (a1.2.2.2.1==3||(a1.2.2.2.1==1)==(v9==v14)))] [(6,K 153 y153 a1),(500000,A 107 y107 v15 0)])<|fK<|n5 H
   refine qA (Z [p 0 (O 500000),p 2 (J a2),p 3 (J a3),p 4 (J a4),p 6 (R 6),p 11 (I v9),p 12 (I v14),p 13 (B false),p 23 (J a1.1),p 38 (B (a1.1==2))] [(6,K 153 y153 a1),(500000,A 107 y107 v15 0)])<|cD H (fun H=>?_) (fun H=>?_)
   ·refine zA (Z [p 0 (O 500000),p 2 (J a2),p 3 (J a3),p 4 (J a4),p 6 (R 6),p 11 (I v9),p 12 (I v14),p 13 (B (v9==0))] [(6,K 153 y153 a1),(500000,A 107 y107 v15 0)])<|fK<|n5 H
   refine qA (Z [p 0 (O 500000),p 2 (J a2),p 3 (J a3),p 4 (J a4),p 6 (R 6),p 11 (I v9),p 12 (I v14),p 13 (B false),p 42 (B (a1.1==3))] [(6,K 153 y153 a1),(500000,A 107 y107 v15 0)])<|cD H (fun H=>?_) (fun H=>?_)
   ·refine zA (Z [p 0 (O 500000),p 2 (J a2),p 3 (J a3),p 4 (J a4),p 6 (R 6),p 11 (I v9),p 12 (I v14),p 13 (B (v9==1))] [(6,K 153 y153 a1),(500000,A 107 y107 v15 0)])<|fK<|n5 H
   exact vK<|fK<|n5 H
  exact vE<|fE<|e3<|fX rfl<|fK<|n2 H
 exact vE<|fE<|e1<|fX rfl<|n0 H
def u104J0:Unit->Option (Int)
 | _ =>
 some (-1)
def u104L1(v0:List Y204)(a1:Int)(a2:Int)(g1:Int->Option (Int)):Int->Option (Int)
 | v1 =>
 if(decide (v1 < (v0.length:Int)))=true then
  gd (ix v1 v0.length/\v1.toNat<v0.length/\(((v0.getD v1.toNat (dflt y204)).1==a1)=true/\True->ix v1 v0.length)/\(((v0.getD v1.toNat (dflt y204)).1==a1)=true/\True->v1.toNat<v0.length)/\True) <|
  if((v0.getD v1.toNat (dflt y204)).1==a1&&(v0.getD v1.toNat (dflt y204)).2.1==a2)=true then
   some v1
  else
   gd (in64 (v1+1)/\True) <|
   g1 (v1+1)
 else
  u104J0 ()
def u104(a0:Y43)(a1:Int)(a2:Int):Option (Int) :=
 gd ((u109 a0).isSome=true/\True)<|lt (vl (u109 a0)) fun v0 =>
 lp (u104L1 v0 a1 a2) 0
def k104:Ct:=lct 104 [.agg y43,.dat i64,.dat i64] (fun x=>u104 x.1 x.2.1 x.2.2.1) (fun r:Int=>I r) (fun _=>())
theorem o104:Ok prog k104:=by
 refine okL [.tmp 6] func104 ntmps104 results104 ?_;intro y ⟨a0,a1,a2,_⟩ r H Q hn hr;have:HT _ _:=⟨tc o109 tn⟩;refine qA (Z [p 1 (J a1),p 2 (J a2),p 3 (R 3)] [(3,K 43 y43 a0)])<|qD (fun v0=>Z [p 1 (J a1),p 2 (J a2),p 7 (O 10)] [(10,A 204 y204 v0 0),(3,K 43 y43 a0)]) H fun v0 H=>jN r (fun(_:Unit)=>Z [] []) (u104J0) (fun _ H=>?_) (fun _ n0 e0 t0=>?_)
 ·refine qA (Z [p 6 (I (-1))] [])<|vTT<|hr H
 refine qA (Z [p 1 (J a1),p 2 (J a2),p 7 (O 10),p 8 (I 0)] [(10,A 204 y204 v0 0),(3,K 43 y43 a0)])<|vB<|lX (fun(v1:Int)=>Z [p 1 (J a1),p 2 (J a2),p 7 (O 10),p 8 (I v1)] [(10,A 204 y204 v0 0)]) 0 H fun _ g1 b1 e1 t1 v1 H=>vQ<|qA (Z [p 1 (J a1),p 2 (J a2),p 7 (O 10),p 8 (I v1),p 14 (B (decide (v1 < (v0.length:Int))))] [(10,A 204 y204 v0 0)])<|cD H (fun H=>?_) (fun H=>?_)
 ·refine vK<|fQ<|vQ<|vB<|qB (Z [p 1 (J a1),p 2 (J a2),p 7 (O 10),p 8 (I v1),p 32 (B ((v0.getD v1.toNat (dflt y204)).1==a1&&(v0.getD v1.toNat (dflt y204)).2.1==a2))] [(10,A 204 y204 v0 0)]) H fun H=>cD H (fun H=>?_) (fun H=>?_)
  ·refine qA (Z [p 6 (I v1)] [(10,A 204 y204 v0 0)])<|vTT<|fDD<|fR<|t1<|fDD<|t0<|hr H
  refine vK<|fK<|fQ<|zB (Z [p 1 (J a1),p 2 (J a2),p 7 (O 10),p 8 (I (v1+1))] [(10,A 204 y204 v0 0)]) H fun H=>b1 H
 exact vE<|fE<|e1<|fX rfl<|n0 H
def u59J5:List Y107->Option (List Y107)
 | v39 =>
 some v39
def u59J7(v28:Int)(g6:Int×List Y107->Option (List Y107)):List Y107->Option (List Y107)
 | v38 =>
 gd (in64 (v28+1)/\True) <|
 g6 (v28+1,v38)
def u59L8(v30:Int)(v31:List Int)(v28:Int)(g6:Int×List Y107->Option (List Y107))(g8:Int×List Y107->Option (List Y107)):Int×List Y107->Option (List Y107)
 | (v34,v35) =>
 if(decide (v34 < (v31.length:Int)))=true then
  gd (ix v34 v31.length/\v34.toNat<v31.length/\(u107 v35 v30 (v31.getD v34.toNat 0) 0 0 2 v34).isSome=true/\True)<|lt (vl (u107 v35 v30 (v31.getD v34.toNat 0) 0 0 2 v34)) fun v36 =>
  gd (ix v34 v31.length/\v34.toNat<v31.length/\(u107 v36 v30 (v31.getD v34.toNat 0) 1 1 2 v34).isSome=true/\True)<|lt (vl (u107 v36 v30 (v31.getD v34.toNat 0) 1 1 2 v34)) fun v37 =>
  gd (in64 (v34+1)/\True) <|
  g8 (v34+1,v37)
 else
  u59J7 v28 g6 v35
def u59L6(a0:Y46)(g6:Int×List Y107->Option (List Y107)):Int×List Y107->Option (List Y107)
 | (v28,v29) =>
 if(decide (v28 < (a0.2.1.2.1.length:Int)))=true then
  gd ((u105 a0.2.1 v28).isSome=true/\True)<|lt (vl (u105 a0.2.1 v28)) fun v30 =>
  gd ((u106 a0.2.1 v28).isSome=true/\True)<|lt (vl (u106 a0.2.1 v28)) fun v31 =>
  lp (u59L8 v30 v31 v28 g6) (0,v29)
 else
  u59J5 v29
def u59J0(a0:Y46):List Y107->Option (List Y107)
 | v18 =>
 lp (u59L6 a0) (0,v18)
def u59J2(v8:Int)(g1:Int×List Y107->Option (List Y107)):List Y107->Option (List Y107)
 | v17 =>
 gd (in64 (v8+1)/\True) <|
 g1 (v8+1,v17)
def u59J4(v13:Int)(g3:Int×List Y107->Option (List Y107)):List Y107->Option (List Y107)
 | v16 =>
 gd (in64 (v13+1)/\True) <|
 g3 (v13+1,v16)
def u59L3(v10:Y148)(a0:Y46)(v8:Int)(g1:Int×List Y107->Option (List Y107))(g3:Int×List Y107->Option (List Y107)):Int×List Y107->Option (List Y107)
 | (v13,v14) =>
 if(decide (v13 < (v10.2.2.2.1.length:Int)))=true then
  gd (ix v13 v10.2.2.2.1.length/\True) <|
  if(decide ((v10.2.2.2.1.getD v13.toNat (dflt y153)).1<=3))=true then
   gd (ix v13 v10.2.2.2.1.length/\ix v13 v10.2.2.2.1.length/\(u104 a0.2.1 v8 (v10.2.2.2.1.getD v13.toNat (dflt y153)).2.1).isSome=true/\ix v13 v10.2.2.2.1.length/\(u104 a0.2.1 v8 (v10.2.2.2.1.getD v13.toNat (dflt y153)).2.2.1).isSome=true/\(u103 v14 (v10.2.2.2.1.getD v13.toNat (dflt y153)) (vl (u104 a0.2.1 v8 (v10.2.2.2.1.getD v13.toNat (dflt y153)).2.1)) (vl (u104 a0.2.1 v8 (v10.2.2.2.1.getD v13.toNat (dflt y153)).2.2.1)) v13).isSome=true/\True)<|lt (vl (u103 v14 (v10.2.2.2.1.getD v13.toNat (dflt y153)) (vl (u104 a0.2.1 v8 (v10.2.2.2.1.getD v13.toNat (dflt y153)).2.1)) (vl (u104 a0.2.1 v8 (v10.2.2.2.1.getD v13.toNat (dflt y153)).2.2.1)) v13)) fun v15 =>
   u59J4 v13 g3 v15
  else
   u59J4 v13 g3 v14
 else
  u59J2 v8 g1 v14
def u59L1(a0:Y46)(g1:Int×List Y107->Option (List Y107)):Int×List Y107->Option (List Y107)
 | (v8,v9) =>
 if(decide (v8 < (a0.2.1.1.length:Int)))=true then
  gd (ix v8 a0.2.1.1.length/\ix (a0.2.1.1.getD v8.toNat (dflt y150)).2.1 a0.1.length/\True)<|lt (a0.1.getD (a0.2.1.1.getD v8.toNat (dflt y150)).2.1.toNat (dflt y148)) fun v10 =>
  lp (u59L3 v10 a0 v8 g1) (0,v9)
 else
  u59J0 a0 v9
def u59(a0:Y46):Option (List Y107) :=
 lp (u59L1 a0) (0,[])
def k59:Ct:=lct 59 [.agg y46] (fun x=>u59 x.1) (fun r:List Y107=>AV.ow 107 true y107 r) (fun _=>())
theorem o59:Ok prog k59:=by
 refine okL [.tmp 2] func59 ntmps59 results59 ?_;intro y ⟨a0,_⟩ r H Q hn hr;have:HT _ _:=⟨tc o107 (tc o106 (tc o105 (tc o103 (tc o104 tn))))⟩;refine qA (Z [p 1 (R 1)] [(1,K 46 y46 a0)])<|qA (Z [p 1 (R 1),p 3 (O 12)] [(12,A 107 y107 [] 0),(1,K 46 y46 a0)])<|qA (Z [p 1 (R 1),p 3 (O 12),p 4 (R 4)] [(4,K 43 y43 a0.2.1),(12,A 107 y107 [] 0),(1,K 46 y46 a0)])<|jN r (fun(v18:List Y107)=>Z [p 3 (O 12),p 4 (R 4)] [(4,K 43 y43 a0.2.1),(12,A 107 y107 v18 0)]) (u59J0 a0) (fun v18 H=>?_) (fun _ n0 e0 t0=>?_)
 ·refine jN r (fun(v39:List Y107)=>Z [p 3 (O 12)] [(12,A 107 y107 v39 0)]) (u59J5) (fun v39 H=>?_) (fun _ n5 e5 t5=>?_)
  ·refine qA (Z [p 2 (O 12)] [(12,A 107 y107 v39 0)])<|vTT<|hr H
  refine qA (Z [p 3 (O 12),p 4 (R 4),p 8 (I 0)] [(4,K 43 y43 a0.2.1),(12,A 107 y107 v18 0)])<|vB<|lX (fun((v28,v29):Int×List Y107)=>Z [p 3 (O 12),p 4 (R 4),p 8 (I v28)] [(4,K 43 y43 a0.2.1),(12,A 107 y107 v29 0)]) (0,v18) H fun _ g6 b6 e6 t6 ⟨v28,v29⟩ H=>vQ<|qA (Z [p 3 (O 12),p 4 (R 4),p 8 (I v28),p 73 (B (decide (v28 < (a0.2.1.2.1.length:Int))))] [(4,K 43 y43 a0.2.1),(12,A 107 y107 v29 0)])<|cD H (fun H=>?_) (fun H=>?_)
  ·refine vK<|fQ<|jN r (fun(v38:List Y107)=>Z [p 3 (O 12),p 4 (R 4),p 8 (I v28)] [(4,K 43 y43 a0.2.1),(12,A 107 y107 v38 0)]) (u59J7 v28 g6) (fun v38 H=>?_) (fun _ n7 e7 t7=>?_)
   ·refine zB (Z [p 3 (O 12),p 4 (R 4),p 8 (I (v28+1))] [(4,K 43 y43 a0.2.1),(12,A 107 y107 v38 0)]) H fun H=>b6 H
   refine vB<|qD (fun v30=>Z [p 3 (O 12),p 4 (R 4),p 8 (I v28),p 9 (I v30)] [(4,K 43 y43 a0.2.1),(12,A 107 y107 v29 0)]) H fun v30 H=>qD (fun v31=>Z [p 3 (O 12),p 4 (R 4),p 8 (I v28),p 9 (I v30),p 10 (O 81)] [(81,A 2 i64 v31 0),(4,K 43 y43 a0.2.1),(12,A 107 y107 v29 0)]) H fun v31 H=>qA (Z [p 3 (O 12),p 4 (R 4),p 8 (I v28),p 9 (I v30),p 10 (O 81),p 11 (I 0)] [(81,A 2 i64 v31 0),(4,K 43 y43 a0.2.1),(12,A 107 y107 v29 0)])<|vB<|lX (fun((v34,v35):Int×List Y107)=>Z [p 3 (O 12),p 4 (R 4),p 8 (I v28),p 9 (I v30),p 10 (O 81),p 11 (I v34)] [(81,A 2 i64 v31 0),(4,K 43 y43 a0.2.1),(12,A 107 y107 v35 0)]) (0,v29) H fun _ g8 b8 e8 t8 ⟨v34,v35⟩ H=>vQ<|qA (Z [p 3 (O 12),p 4 (R 4),p 8 (I v28),p 9 (I v30),p 10 (O 81),p 11 (I v34),p 85 (B (decide (v34 < (v31.length:Int))))] [(81,A 2 i64 v31 0),(4,K 43 y43 a0.2.1),(12,A 107 y107 v35 0)])<|cD H (fun H=>?_) (fun H=>?_)
   ·refine vK<|fQ<|vQ<|vB<|qD (fun v36=>Z [p 3 (AV.os 12 1),p 4 (R 4),p 8 (I v28),p 9 (I v30),p 10 (O 81),p 11 (I v34)] [(12,A 107 y107 v36 1),(81,A 2 i64 v31 0),(4,K 43 y43 a0.2.1)]) H fun v36 H=>zD (fun v37=>Z [p 3 (AV.os 12 2),p 4 (R 4),p 8 (I v28),p 9 (I v30),p 10 (O 81),p 11 (I v34)] [(12,A 107 y107 v37 2),(81,A 2 i64 v31 0),(4,K 43 y43 a0.2.1)]) H fun v37 H=>fK<|fQ<|zB (Z [p 3 (AV.os 12 2),p 4 (R 4),p 8 (I v28),p 9 (I v30),p 10 (O 81),p 11 (I (v34+1))] [(12,A 107 y107 v37 2),(81,A 2 i64 v31 0),(4,K 43 y43 a0.2.1)]) H fun H=>b8 H
   exact vE<|fE<|e8<|fX rfl<|fK<|n7 H
  exact vE<|fE<|e6<|fX rfl<|n5 H
 refine qA (Z [p 1 (R 1),p 3 (O 12),p 4 (R 4),p 5 (I 0)] [(4,K 43 y43 a0.2.1),(12,A 107 y107 [] 0),(1,K 46 y46 a0)])<|vB<|lX (fun((v8,v9):Int×List Y107)=>Z [p 1 (R 1),p 3 (O 12),p 4 (R 4),p 5 (I v8)] [(4,K 43 y43 a0.2.1),(12,A 107 y107 v9 0),(1,K 46 y46 a0)]) (0,[]) H fun _ g1 b1 e1 t1 ⟨v8,v9⟩ H=>vQ<|qA (Z [p 1 (R 1),p 3 (O 12),p 4 (R 4),p 5 (I v8),p 19 (B (decide (v8 < (a0.2.1.1.length:Int))))] [(4,K 43 y43 a0.2.1),(12,A 107 y107 v9 0),(1,K 46 y46 a0)])<|cD H (fun H=>?_) (fun H=>?_)
 ·refine vK<|fQ<|jN r (fun(v17:List Y107)=>Z [p 1 (R 1),p 3 (O 12),p 4 (R 4),p 5 (I v8)] [(4,K 43 y43 a0.2.1),(12,A 107 y107 v17 0),(1,K 46 y46 a0)]) (u59J2 v8 g1) (fun v17 H=>?_) (fun _ n2 e2 t2=>?_)
  ·refine zB (Z [p 1 (R 1),p 3 (O 12),p 4 (R 4),p 5 (I (v8+1))] [(4,K 43 y43 a0.2.1),(12,A 107 y107 v17 0),(1,K 46 y46 a0)]) H fun H=>b1 H
  refine vB<|qD (fun v10=>Z [p 1 (R 1),p 3 (O 12),p 4 (R 4),p 5 (I v8),p 6 (L y153 v10.2.2.2.1)] [(4,K 43 y43 a0.2.1),(12,A 107 y107 v9 0),(1,K 46 y46 a0)]) H fun v10 H=>qA (Z [p 1 (R 1),p 3 (O 12),p 4 (R 4),p 5 (I v8),p 6 (L y153 v10.2.2.2.1),p 7 (I 0)] [(4,K 43 y43 a0.2.1),(12,A 107 y107 v9 0),(1,K 46 y46 a0)])<|vB<|lX (fun((v13,v14):Int×List Y107)=>Z [p 1 (R 1),p 3 (O 12),p 4 (R 4),p 5 (I v8),p 6 (L y153 v10.2.2.2.1),p 7 (I v13)] [(4,K 43 y43 a0.2.1),(12,A 107 y107 v14 0),(1,K 46 y46 a0)]) (0,v9) H fun _ g3 b3 e3 t3 ⟨v13,v14⟩ H=>vQ<|qA (Z [p 1 (R 1),p 3 (O 12),p 4 (R 4),p 5 (I v8),p 6 (L y153 v10.2.2.2.1),p 7 (I v13),p 37 (B (decide (v13 < (v10.2.2.2.1.length:Int))))] [(4,K 43 y43 a0.2.1),(12,A 107 y107 v14 0),(1,K 46 y46 a0)])<|cD H (fun H=>?_) (fun H=>?_)
  ·refine vK<|fQ<|jN r (fun(v16:List Y107)=>Z [p 1 (R 1),p 3 (O 12),p 4 (R 4),p 5 (I v8),p 6 (L y153 v10.2.2.2.1),p 7 (I v13)] [(12,A 107 y107 v16 0),(4,K 43 y43 a0.2.1),(1,K 46 y46 a0)]) (u59J4 v13 g3) (fun v16 H=>?_) (fun _ n4 e4 t4=>?_)
   ·refine zB (Z [p 1 (R 1),p 3 (O 12),p 4 (R 4),p 5 (I v8),p 6 (L y153 v10.2.2.2.1),p 7 (I (v13+1))] [(12,A 107 y107 v16 0),(4,K 43 y43 a0.2.1),(1,K 46 y46 a0)]) H fun H=>b3 H
   refine vB<|qB (Z [p 1 (R 1),p 3 (O 12),p 4 (R 4),p 5 (I v8),p 6 (L y153 v10.2.2.2.1),p 7 (I v13),p 45 (B (decide ((v10.2.2.2.1.getD v13.toNat (dflt y153)).1<=3)))] [(4,K 43 y43 a0.2.1),(12,A 107 y107 v14 0),(1,K 46 y46 a0)]) H fun H=>cD H (fun H=>?_) (fun H=>?_)
   ·refine zD (fun v15=>Z [p 1 (R 1),p 3 (AV.os 12 1),p 4 (R 4),p 5 (I v8),p 6 (L y153 v10.2.2.2.1),p 7 (I v13)] [(12,A 107 y107 v15 1),(4,K 43 y43 a0.2.1),(1,K 46 y46 a0)]) H fun v15 H=>fK<|n4 H
   exact vK<|fK<|n4 H
  exact vE<|fE<|e3<|fX rfl<|fK<|n2 H
 exact vE<|fE<|e1<|fX rfl<|n0 H
def u102(a0:Int)(a1:Int)(a2:Int):Option (Bool) :=
 some (decide (a1<=a0)&&decide (a0<=a2))
def k102:Ct:=lct 102 [.dat i64,.dat i64,.dat i64] (fun x=>u102 x.1 x.2.1 x.2.2.1) (fun r:Bool=>B r) (fun _=>())
theorem o102:Ok prog k102:=by
 refine okL [.tmp 6] func102 ntmps102 results102 ?_;intro y ⟨a0,a1,a2,_⟩ r H Q hn hr;have:HT _ _:=⟨@tn prog⟩;refine qA (Z [p 0 (J a0),p 1 (J a1),p 2 (J a2)] [])<|qA (Z [p 6 (B (decide (a1<=a0)&&decide (a0<=a2)))] [])<|vTT<|hr H
def u117J2:Unit->Option (Bool)
 | _ =>
 some true
def u117L3(a0:Y126)(g3:Int->Option (Bool)):Int->Option (Bool)
 | v1 =>
 if(decide (v1 < (a0.2.2.2.length:Int)))=true then
  gd (ix v1 a0.2.2.2.length/\in64 ((a0.1.length:Int)-1)/\(u102 (a0.2.2.2.getD v1.toNat 0) 0 ((a0.1.length:Int)-1)).isSome=true/\True) <|
  if(!vl (u102 (a0.2.2.2.getD v1.toNat 0) 0 ((a0.1.length:Int)-1)))=true then
   some false
  else
   gd (in64 (v1+1)/\True) <|
   g3 (v1+1)
 else
  u117J2 ()
def u117J0(a0:Y126):Unit->Option (Bool)
 | _ =>
 lp (u117L3 a0) 0
def u117L1(a0:Y126)(g1:Int->Option (Bool)):Int->Option (Bool)
 | v0 =>
 if(decide (v0 < (a0.1.length:Int)))=true then
  gd (ix v0 a0.2.2.1.length/\(u102 (a0.2.2.1.getD v0.toNat 0) 0 500).isSome=true/\((!vl (u102 (a0.2.2.1.getD v0.toNat 0) 0 500))=false/\True->ix v0 a0.2.1.length)/\((!vl (u102 (a0.2.2.1.getD v0.toNat 0) 0 500))=false/\True->(u102 (a0.2.1.getD v0.toNat 0) 0 1000).isSome=true)/\True) <|
  if(!vl (u102 (a0.2.2.1.getD v0.toNat 0) 0 500)||!vl (u102 (a0.2.1.getD v0.toNat 0) 0 1000))=true then
   some false
  else
   gd (((v0==0)=true/\True->ix v0 a0.1.length)/\((a0.1.getD v0.toNat 0 != -1)=false/\(v0==0)=true/\True->ix v0 a0.2.1.length)/\(decide (0<v0)=true/\(v0==0&&(a0.1.getD v0.toNat 0 != -1||a0.2.1.getD v0.toNat 0 != 0))=false/\True->ix v0 a0.1.length)/\(decide (0<v0)=true/\(v0==0&&(a0.1.getD v0.toNat 0 != -1||a0.2.1.getD v0.toNat 0 != 0))=false/\True->in64 (v0-1))/\(decide (0<v0)=true/\(v0==0&&(a0.1.getD v0.toNat 0 != -1||a0.2.1.getD v0.toNat 0 != 0))=false/\True->(u102 (a0.1.getD v0.toNat 0) 0 (v0-1)).isSome=true)/\True) <|
   if(v0==0&&(a0.1.getD v0.toNat 0 != -1||a0.2.1.getD v0.toNat 0 != 0)||decide (0<v0)&&!vl (u102 (a0.1.getD v0.toNat 0) 0 (v0-1)))=true then
    some false
   else
    gd (in64 (v0+1)/\True) <|
    g1 (v0+1)
 else
  u117J0 a0 ()
def u117(a0:Y126)(a1:Int):Option (Bool) :=
 if(decide ((a0.1.length:Int)<1)||decide (8 < (a0.1.length:Int))||(a0.2.1.length:Int) != (a0.1.length:Int)||(a0.2.2.1.length:Int) != (a0.1.length:Int)||(a0.2.2.2.length:Int) != a1)=true then
  some false
 else
  lp (u117L1 a0) 0
def k117:Ct:=lct 117 [.agg y126,.dat i64] (fun x=>u117 x.1 x.2.1) (fun r:Bool=>B r) (fun _=>())
theorem o117:Ok prog k117:=by
 refine okL [.tmp 4] func117 ntmps117 results117 ?_;intro y ⟨a0,a1,_⟩ r H Q hn hr;have:HT _ _:=⟨tc o102 tn⟩;refine qA (Z [p 1 (J a1),p 2 (R 2)] [(2,K 126 y126 a0)])<|qA (Z [p 1 (J a1),p 2 (R 2),p 5 (I (a0.1.length:Int))] [(2,K 126 y126 a0)])<|vQ<|qA (Z [p 2 (R 2),p 5 (I (a0.1.length:Int)),p 37 (B (decide ((a0.1.length:Int)<1)||decide (8 < (a0.1.length:Int))||(a0.2.1.length:Int) != (a0.1.length:Int)||(a0.2.2.1.length:Int) != (a0.1.length:Int)||(a0.2.2.2.length:Int) != a1))] [(2,K 126 y126 a0)])<|cD H (fun H=>?_) (fun H=>?_)
 ·refine qA (Z [p 4 (B false)] [(2,K 126 y126 a0)])<|vTT<|fR<|hr H
 refine vK<|fQ<|jN r (fun(_:Unit)=>Z [p 2 (R 2),p 5 (I (a0.1.length:Int))] [(2,K 126 y126 a0)]) (u117J0 a0) (fun _ H=>?_) (fun _ n0 e0 t0=>?_)
 ·refine jN r (fun(_:Unit)=>Z [] []) (u117J2) (fun _ H=>?_) (fun _ n2 e2 t2=>?_)
  ·refine qA (Z [p 4 (B true)] [])<|vTT<|hr H
  refine qA (Z [p 2 (R 2),p 5 (I (a0.1.length:Int)),p 7 (I 0)] [(2,K 126 y126 a0)])<|vB<|lX (fun(v1:Int)=>Z [p 2 (R 2),p 5 (I (a0.1.length:Int)),p 7 (I v1)] [(2,K 126 y126 a0)]) 0 H fun _ g3 b3 e3 t3 v1 H=>vQ<|qA (Z [p 2 (R 2),p 5 (I (a0.1.length:Int)),p 7 (I v1),p 96 (B (decide (v1 < (a0.2.2.2.length:Int))))] [(2,K 126 y126 a0)])<|cD H (fun H=>?_) (fun H=>?_)
  ·refine vK<|fQ<|vQ<|vB<|qB (Z [p 2 (R 2),p 5 (I (a0.1.length:Int)),p 7 (I v1),p 107 (B !vl (u102 (a0.2.2.2.getD v1.toNat 0) 0 ((a0.1.length:Int)-1)))] [(2,K 126 y126 a0)]) H fun H=>cD H (fun H=>?_) (fun H=>?_)
   ·refine qA (Z [p 4 (B false)] [(2,K 126 y126 a0)])<|vTT<|fDD<|fR<|t3<|fDD<|t2<|hr H
   refine vK<|fK<|fQ<|zB (Z [p 2 (R 2),p 5 (I (a0.1.length:Int)),p 7 (I (v1+1))] [(2,K 126 y126 a0)]) H fun H=>b3 H
  exact vE<|fE<|e3<|fX rfl<|n2 H
 refine qA (Z [p 2 (R 2),p 5 (I (a0.1.length:Int)),p 6 (I 0)] [(2,K 126 y126 a0)])<|vB<|lX (fun(v0:Int)=>Z [p 2 (R 2),p 5 (I (a0.1.length:Int)),p 6 (I v0)] [(2,K 126 y126 a0)]) 0 H fun _ g1 b1 e1 t1 v0 H=>vQ<|qA (Z [p 2 (R 2),p 5 (I (a0.1.length:Int)),p 6 (I v0),p 40 (B (decide (v0 < (a0.1.length:Int))))] [(2,K 126 y126 a0)])<|cD H (fun H=>?_) (fun H=>?_)
 ·refine vK<|fQ<|vQ<|vB<|vQ<|qB (Z [p 2 (R 2),p 5 (I (a0.1.length:Int)),p 6 (I v0),p 58 (B (!vl (u102 (a0.2.2.1.getD v0.toNat 0) 0 500)||!vl (u102 (a0.2.1.getD v0.toNat 0) 0 1000)))] [(2,K 126 y126 a0)]) H fun H=>cD H (fun H=>?_) (fun H=>?_)
  ·refine qA (Z [p 4 (B false)] [(2,K 126 y126 a0)])<|vTT<|fR<|fDD<|fR<|t1<|fDD<|t0<|hr H
  refine vK<|fQ<|qB (Z [p 2 (R 2),p 5 (I (a0.1.length:Int)),p 6 (I v0),p 91 (B (v0==0&&(a0.1.getD v0.toNat 0 != -1||a0.2.1.getD v0.toNat 0 != 0)||decide (0<v0)&&!vl (u102 (a0.1.getD v0.toNat 0) 0 (v0-1))))] [(2,K 126 y126 a0)]) H fun H=>cD H (fun H=>?_) (fun H=>?_)
  ·refine qA (Z [p 4 (B false)] [(2,K 126 y126 a0)])<|vTT<|fDD<|fR<|t1<|fDD<|t0<|hr H
  refine vK<|fK<|fQ<|zB (Z [p 2 (R 2),p 5 (I (a0.1.length:Int)),p 6 (I (v0+1))] [(2,K 126 y126 a0)]) H fun H=>b1 H
 exact vE<|fE<|e1<|fX rfl<|n0 H
def u184J0(a0:ByteArray):Unit->Option (Bool)
 | _ =>
 some (decide (1<=(a0.size:Int))&&decide ((a0.size:Int)<=8))
def u184L1(a0:ByteArray)(g1:Int->Option (Bool)):Int->Option (Bool)
 | v0 =>
 if(decide (v0 < (a0.size:Int)))=true then
  gd (ix v0 a0.size/\(decide (97<=byteAt a0 v0.toNat)=true/\True->ix v0 a0.size)/\True) <|
  gd (ix v0 a0.size/\(decide (48<=byteAt a0 v0.toNat)=true/\True->ix v0 a0.size)/\True) <|
  if(!(decide (97<=byteAt a0 v0.toNat)&&decide (byteAt a0 v0.toNat<=122))&&!(decide (48<=byteAt a0 v0.toNat)&&decide (byteAt a0 v0.toNat<=57)&&decide (0<v0)))=true then
   some false
  else
   gd (in64 (v0+1)/\True) <|
   g1 (v0+1)
 else
  u184J0 a0 ()
def u184(a0:ByteArray):Option (Bool) :=
 lp (u184L1 a0) 0
def k184:Ct:=lct 184 [.dat Ty.str] (fun x=>u184 x.1) (fun r:Bool=>B r) (fun _=>())
theorem o184:Ok prog k184:=by
 refine okL [.tmp 2] func184 ntmps184 results184 ?_;intro y ⟨a0,_⟩ r H Q hn hr;have:HT _ _:=⟨@tn prog⟩;refine qA (Z [p 0 (U a0)] [])<|jN r (fun(_:Unit)=>Z [p 0 (U a0)] []) (u184J0 a0) (fun _ H=>?_) (fun _ n0 e0 t0=>?_)
 ·refine qA (Z [p 2 (B (decide (1<=(a0.size:Int))&&decide ((a0.size:Int)<=8)))] [])<|vTT<|hr H
 refine qA (Z [p 0 (U a0),p 3 (I 0)] [])<|vB<|lX (fun(v0:Int)=>Z [p 0 (U a0),p 3 (I v0)] []) 0 H fun _ g1 b1 e1 t1 v0 H=>vQ<|qA (Z [p 0 (U a0),p 3 (I v0),p 9 (B (decide (v0 < (a0.size:Int))))] [])<|cD H (fun H=>?_) (fun H=>?_)
 ·refine vK<|fQ<|vQ<|vB<|qB (Z [p 0 (U a0),p 3 (I v0),p 4 (B (decide (97<=byteAt a0 v0.toNat)&&decide (byteAt a0 v0.toNat<=122)))] []) H fun H=>qB (Z [p 0 (U a0),p 3 (I v0),p 4 (B (decide (97<=byteAt a0 v0.toNat)&&decide (byteAt a0 v0.toNat<=122))),p 5 (B (decide (48<=byteAt a0 v0.toNat)&&decide (byteAt a0 v0.toNat<=57)))] []) H fun H=>qA (Z [p 0 (U a0),p 3 (I v0),p 41 (B (!(decide (97<=byteAt a0 v0.toNat)&&decide (byteAt a0 v0.toNat<=122))&&!(decide (48<=byteAt a0 v0.toNat)&&decide (byteAt a0 v0.toNat<=57)&&decide (0<v0))))] [])<|cD H (fun H=>?_) (fun H=>?_)
  ·refine qA (Z [p 2 (B false)] [])<|vTT<|fDD<|fR<|t1<|fDD<|t0<|hr H
  refine vK<|fK<|fQ<|zB (Z [p 0 (U a0),p 3 (I (v0+1))] []) H fun H=>b1 H
 exact vE<|fE<|e1<|fX rfl<|n0 H
def u156J0:Unit->Option (Bool)
 | _ =>
 some true
def u156J2(v1:Int)(g1:Int->Option (Bool)):Unit->Option (Bool)
 | _ =>
 gd (in64 (v1+1)/\True) <|
 g1 (v1+1)
def u156L3(a0:List ByteArray)(v1:Int)(g1:Int->Option (Bool))(g3:Int->Option (Bool)):Int->Option (Bool)
 | v2 =>
 if(decide (v2<v1))=true then
  gd (ix v2 a0.length/\ix v1 a0.length/\True) <|
  if(decide (a0.getD v2.toNat (dflt Ty.str)=a0.getD v1.toNat (dflt Ty.str)))=true then
   some false
  else
   gd (in64 (v2+1)/\True) <|
   g3 (v2+1)
 else
  u156J2 v1 g1 ()
def u156L1(a0:List ByteArray)(g1:Int->Option (Bool)):Int->Option (Bool)
 | v1 =>
 if(decide (v1 < (a0.length:Int)))=true then
  gd (ix v1 a0.length/\(u184 (a0.getD v1.toNat (dflt Ty.str))).isSome=true/\True) <|
  if(!vl (u184 (a0.getD v1.toNat (dflt Ty.str))))=true then
   some false
  else
   lp (u156L3 a0 v1 g1) 0
 else
  u156J0 ()
def u156(a0:List ByteArray):Option (Bool) :=
 lp (u156L1 a0) 0
def k156:Ct:=lct 156 [.dat Ty.str.sl] (fun x=>u156 x.1) (fun r:Bool=>B r) (fun _=>())
theorem o156:Ok prog k156:=by
 refine okL [.tmp 2] func156 ntmps156 results156 ?_;intro y ⟨a0,_⟩ r H Q hn hr;have:HT _ _:=⟨tc o184 tn⟩;refine qA (Z [p 0 (L Ty.str a0)] [])<|jN r (fun(_:Unit)=>Z [] []) (u156J0) (fun _ H=>?_) (fun _ n0 e0 t0=>?_)
 ·refine qA (Z [p 2 (B true)] [])<|vTT<|hr H
 refine qA (Z [p 0 (L Ty.str a0),p 3 (I 0)] [])<|vB<|lX (fun(v1:Int)=>Z [p 0 (L Ty.str a0),p 3 (I v1)] []) 0 H fun _ g1 b1 e1 t1 v1 H=>vQ<|qA (Z [p 0 (L Ty.str a0),p 3 (I v1),p 8 (B (decide (v1 < (a0.length:Int))))] [])<|cD H (fun H=>?_) (fun H=>?_)
 ·refine vK<|fQ<|jN r (fun(_:Unit)=>Z [p 0 (L Ty.str a0),p 3 (I v1)] []) (u156J2 v1 g1) (fun _ H=>?_) (fun _ n2 e2 t2=>?_)
  ·refine zB (Z [p 0 (L Ty.str a0),p 3 (I (v1+1))] []) H fun H=>b1 H
  refine vB<|vQ<|qB (Z [p 0 (L Ty.str a0),p 3 (I v1),p 16 (B !vl (u184 (a0.getD v1.toNat (dflt Ty.str))))] []) H fun H=>cD H (fun H=>?_) (fun H=>?_)
  ·refine qA (Z [p 2 (B false)] [])<|vTT<|fR<|fDD<|t2<|t1<|fDD<|t0<|hr H
  refine vK<|fQ<|qA (Z [p 0 (L Ty.str a0),p 3 (I v1),p 4 (I 0)] [])<|vB<|lX (fun(v2:Int)=>Z [p 0 (L Ty.str a0),p 3 (I v1),p 4 (I v2)] []) 0 H fun _ g3 b3 e3 t3 v2 H=>vQ<|qA (Z [p 0 (L Ty.str a0),p 3 (I v1),p 4 (I v2),p 19 (B (decide (v2<v1)))] [])<|cD H (fun H=>?_) (fun H=>?_)
  ·refine vK<|fQ<|vQ<|vB<|qB (Z [p 0 (L Ty.str a0),p 3 (I v1),p 4 (I v2),p 30 (B (decide (a0.getD v2.toNat (dflt Ty.str)=a0.getD v1.toNat (dflt Ty.str))))] []) H fun H=>cD H (fun H=>?_) (fun H=>?_)
   ·refine qA (Z [p 2 (B false)] [])<|vTT<|fDD<|fR<|t3<|fDD<|fDD<|t2<|t1<|fDD<|t0<|hr H
   refine vK<|fK<|fQ<|zB (Z [p 0 (L Ty.str a0),p 3 (I v1),p 4 (I (v2+1))] []) H fun H=>b3 H
  exact vE<|fE<|e3<|fX rfl<|fK<|n2 H
 exact vE<|fE<|e1<|fX rfl<|n0 H
def u155J4:Unit->Option (Bool)
 | _ =>
 some true
def u155L5(a1:Y43)(g5:Int->Option (Bool)):Int->Option (Bool)
 | v5 =>
 if(decide (v5 < (a1.2.2.length:Int)))=true then
  gd (ix v5 a1.2.2.length/\(u102 (a1.2.2.getD v5.toNat (dflt y190)).2.1 1 2).isSome=true/\((!vl (u102 (a1.2.2.getD v5.toNat (dflt y190)).2.1 1 2))=false/\True->ix v5 a1.2.2.length)/\((!vl (u102 (a1.2.2.getD v5.toNat (dflt y190)).2.1 1 2))=false/\True->in64 ((a1.2.1.length:Int)-1))/\((!vl (u102 (a1.2.2.getD v5.toNat (dflt y190)).2.1 1 2))=false/\True->(u102 (a1.2.2.getD v5.toNat (dflt y190)).2.2 0 ((a1.2.1.length:Int)-1)).isSome=true)/\True) <|
  if(!vl (u102 (a1.2.2.getD v5.toNat (dflt y190)).2.1 1 2)||!vl (u102 (a1.2.2.getD v5.toNat (dflt y190)).2.2 0 ((a1.2.1.length:Int)-1)))=true then
   some false
  else
   gd (in64 (v5+1)/\True) <|
   g5 (v5+1)
 else
  u155J4 ()
def u155J0(a1:Y43):Unit->Option (Bool)
 | _ =>
 lp (u155L5 a1) 0
def u155J2(v2:Int)(g1:Int->Option (Bool)):Unit->Option (Bool)
 | _ =>
 gd (in64 (v2+1)/\True) <|
 g1 (v2+1)
def u155L3(v3:Y150)(a1:Y43)(v2:Int)(g1:Int->Option (Bool))(g3:Int->Option (Bool)):Int->Option (Bool)
 | v4 =>
 if(decide (v4 < (v3.2.2.length:Int)))=true then
  gd (ix v4 v3.2.2.length/\in64 ((a1.2.1.length:Int)-1)/\(u102 (v3.2.2.getD v4.toNat 0) 0 ((a1.2.1.length:Int)-1)).isSome=true/\True) <|
  if(!vl (u102 (v3.2.2.getD v4.toNat 0) 0 ((a1.2.1.length:Int)-1)))=true then
   some false
  else
   gd (in64 (v4+1)/\True) <|
   g3 (v4+1)
 else
  u155J2 v2 g1 ()
def u155L1(a1:Y43)(a0:List Y148)(g1:Int->Option (Bool)):Int->Option (Bool)
 | v2 =>
 if(decide (v2 < (a1.1.length:Int)))=true then
  gd (ix v2 a1.1.length/\True)<|lt (a1.1.getD v2.toNat (dflt y150)) fun v3 =>
  gd (in64 ((a0.length:Int)-1)/\(u102 v3.2.1 0 ((a0.length:Int)-1)).isSome=true/\((!vl (u102 v3.2.1 0 ((a0.length:Int)-1)))=false/\True->ix v3.2.1 a0.length)/\True) <|
  if(!vl (u102 v3.2.1 0 ((a0.length:Int)-1))||(v3.2.2.length:Int) != (↑(a0.getD v3.2.1.toNat (dflt y148)).2.2.1.length:Int))=true then
   some false
  else
   lp (u155L3 v3 a1 v2 g1) 0
 else
  u155J0 a1 ()
def u155(a0:List Y148)(a1:Y43):Option (Bool) :=
 lp (u155L1 a1 a0) 0
def k155:Ct:=lct 155 [.agg y148.sl,.agg y43] (fun x=>u155 x.1 x.2.1) (fun r:Bool=>B r) (fun _=>())
theorem o155:Ok prog k155:=by
 refine okL [.tmp 4] func155 ntmps155 results155 ?_;intro y ⟨a0,a1,_⟩ r H Q hn hr;have:HT _ _:=⟨tc o102 tn⟩;refine qA (Z [p 2 (R 2),p 3 (R 3)] [(3,K 43 y43 a1),(2,Ob.box 39 [L y148 a0])])<|qA (Z [p 2 (R 2),p 3 (R 3),p 5 (I (a1.2.1.length:Int))] [(3,K 43 y43 a1),(2,Ob.box 39 [L y148 a0])])<|jN r (fun(_:Unit)=>Z [p 3 (R 3),p 5 (I (a1.2.1.length:Int))] [(3,K 43 y43 a1)]) (u155J0 a1) (fun _ H=>?_) (fun _ n0 e0 t0=>?_)
 ·refine jN r (fun(_:Unit)=>Z [] []) (u155J4) (fun _ H=>?_) (fun _ n4 e4 t4=>?_)
  ·refine qA (Z [p 4 (B true)] [])<|vTT<|hr H
  refine qA (Z [p 3 (R 3),p 5 (I (a1.2.1.length:Int)),p 9 (I 0)] [(3,K 43 y43 a1)])<|vB<|lX (fun(v5:Int)=>Z [p 3 (R 3),p 5 (I (a1.2.1.length:Int)),p 9 (I v5)] [(3,K 43 y43 a1)]) 0 H fun _ g5 b5 e5 t5 v5 H=>vQ<|qA (Z [p 3 (R 3),p 5 (I (a1.2.1.length:Int)),p 9 (I v5),p 67 (B (decide (v5 < (a1.2.2.length:Int))))] [(3,K 43 y43 a1)])<|cD H (fun H=>?_) (fun H=>?_)
  ·refine vK<|fQ<|vQ<|vB<|qB (Z [p 3 (R 3),p 5 (I (a1.2.1.length:Int)),p 9 (I v5),p 89 (B (!vl (u102 (a1.2.2.getD v5.toNat (dflt y190)).2.1 1 2)||!vl (u102 (a1.2.2.getD v5.toNat (dflt y190)).2.2 0 ((a1.2.1.length:Int)-1))))] [(3,K 43 y43 a1)]) H fun H=>cD H (fun H=>?_) (fun H=>?_)
   ·refine qA (Z [p 4 (B false)] [(3,K 43 y43 a1)])<|vTT<|fDD<|fR<|t5<|fDD<|t4<|hr H
   refine vK<|fK<|fQ<|zB (Z [p 3 (R 3),p 5 (I (a1.2.1.length:Int)),p 9 (I (v5+1))] [(3,K 43 y43 a1)]) H fun H=>b5 H
  exact vE<|fE<|e5<|fX rfl<|n4 H
 refine qA (Z [p 2 (R 2),p 3 (R 3),p 5 (I (a1.2.1.length:Int)),p 6 (I 0)] [(3,K 43 y43 a1),(2,Ob.box 39 [L y148 a0])])<|vB<|lX (fun(v2:Int)=>Z [p 2 (R 2),p 3 (R 3),p 5 (I (a1.2.1.length:Int)),p 6 (I v2)] [(3,K 43 y43 a1),(2,Ob.box 39 [L y148 a0])]) 0 H fun _ g1 b1 e1 t1 v2 H=>vQ<|qA (Z [p 2 (R 2),p 3 (R 3),p 5 (I (a1.2.1.length:Int)),p 6 (I v2),p 17 (B (decide (v2 < (a1.1.length:Int))))] [(3,K 43 y43 a1),(2,Ob.box 39 [L y148 a0])])<|cD H (fun H=>?_) (fun H=>?_)
 ·refine vK<|fQ<|jN r (fun(_:Unit)=>Z [p 2 (R 2),p 3 (R 3),p 5 (I (a1.2.1.length:Int)),p 6 (I v2)] [(3,K 43 y43 a1),(2,Ob.box 39 [L y148 a0])]) (u155J2 v2 g1) (fun _ H=>?_) (fun _ n2 e2 t2=>?_)
  ·refine zB (Z [p 2 (R 2),p 3 (R 3),p 5 (I (a1.2.1.length:Int)),p 6 (I (v2+1))] [(3,K 43 y43 a1),(2,Ob.box 39 [L y148 a0])]) H fun H=>b1 H
  refine vB<|qD (fun v3=>Z [p 2 (R 2),p 3 (R 3),p 5 (I (a1.2.1.length:Int)),p 6 (I v2),p 7 (R 7)] [(7,K 150 y150 v3),(3,K 43 y43 a1),(2,Ob.box 39 [L y148 a0])]) H fun v3 H=>vQ<|qB (Z [p 2 (R 2),p 3 (R 3),p 5 (I (a1.2.1.length:Int)),p 6 (I v2),p 7 (R 7),p 46 (B (!vl (u102 v3.2.1 0 ((a0.length:Int)-1))||(v3.2.2.length:Int) != (↑(a0.getD v3.2.1.toNat (dflt y148)).2.2.1.length:Int)))] [(7,K 150 y150 v3),(3,K 43 y43 a1),(2,Ob.box 39 [L y148 a0])]) H fun H=>cD H (fun H=>?_) (fun H=>?_)
  ·refine qA (Z [p 4 (B false)] [(7,K 150 y150 v3),(3,K 43 y43 a1),(2,Ob.box 39 [L y148 a0])])<|vTT<|fR<|fDD<|t2<|t1<|fDD<|t0<|hr H
  refine vK<|fQ<|qA (Z [p 2 (R 2),p 3 (R 3),p 5 (I (a1.2.1.length:Int)),p 6 (I v2),p 7 (R 7),p 8 (I 0)] [(7,K 150 y150 v3),(3,K 43 y43 a1),(2,Ob.box 39 [L y148 a0])])<|vB<|lX (fun(v4:Int)=>Z [p 2 (R 2),p 3 (R 3),p 5 (I (a1.2.1.length:Int)),p 6 (I v2),p 7 (R 7),p 8 (I v4)] [(7,K 150 y150 v3),(3,K 43 y43 a1),(2,Ob.box 39 [L y148 a0])]) 0 H fun _ g3 b3 e3 t3 v4 H=>vQ<|qA (Z [p 2 (R 2),p 3 (R 3),p 5 (I (a1.2.1.length:Int)),p 6 (I v2),p 7 (R 7),p 8 (I v4),p 51 (B (decide (v4 < (v3.2.2.length:Int))))] [(7,K 150 y150 v3),(3,K 43 y43 a1),(2,Ob.box 39 [L y148 a0])])<|cD H (fun H=>?_) (fun H=>?_)
  ·refine vK<|fQ<|vQ<|vB<|qB (Z [p 2 (R 2),p 3 (R 3),p 5 (I (a1.2.1.length:Int)),p 6 (I v2),p 7 (R 7),p 8 (I v4),p 62 (B !vl (u102 (v3.2.2.getD v4.toNat 0) 0 ((a1.2.1.length:Int)-1)))] [(7,K 150 y150 v3),(3,K 43 y43 a1),(2,Ob.box 39 [L y148 a0])]) H fun H=>cD H (fun H=>?_) (fun H=>?_)
   ·refine qA (Z [p 4 (B false)] [(7,K 150 y150 v3),(3,K 43 y43 a1),(2,Ob.box 39 [L y148 a0])])<|vTT<|fDD<|fR<|t3<|fDD<|fDD<|t2<|t1<|fDD<|t0<|hr H
   refine vK<|fK<|fQ<|zB (Z [p 2 (R 2),p 3 (R 3),p 5 (I (a1.2.1.length:Int)),p 6 (I v2),p 7 (R 7),p 8 (I (v4+1))] [(7,K 150 y150 v3),(3,K 43 y43 a1),(2,Ob.box 39 [L y148 a0])]) H fun H=>b3 H
  exact vE<|fE<|e3<|fX rfl<|fK<|n2 H
 exact vE<|fE<|e1<|fX rfl<|n0 H
def u211J0:List Int->Option (List Int)
 | v4 =>
 some v4
def u211L1(a0:Y148)(g1:Int×List Int->Option (List Int)):Int×List Int->Option (List Int)
 | (v1,v2) =>
 if(decide (v1 < (a0.2.2.2.1.length:Int)))=true then
  gd (ix v1 a0.2.2.2.1.length/\ix (a0.2.2.2.1.getD v1.toNat (dflt y153)).1 v2.length/\(a0.2.2.2.1.getD v1.toNat (dflt y153)).1.toNat<v2.length/\in64 (v2.getD (a0.2.2.2.1.getD v1.toNat (dflt y153)).1.toNat 0+1)/\ix (a0.2.2.2.1.getD v1.toNat (dflt y153)).1 v2.length/\(a0.2.2.2.1.getD v1.toNat (dflt y153)).1.toNat<v2.length/\True)<|lt (v2.set (a0.2.2.2.1.getD v1.toNat (dflt y153)).1.toNat (v2.getD (a0.2.2.2.1.getD v1.toNat (dflt y153)).1.toNat 0+1)) fun v3 =>
  gd (in64 (v1+1)/\True) <|
  g1 (v1+1,v3)
 else
  u211J0 v2
def u211(a0:Y148):Option (List Int) :=
 gd (((0:Int)<=(6:Int)/\(6:Int)=(6:Int)/\Int.toNat (6:Int)*8<=281474976710656/\(6:Int)<=(9223372036854775807:Int))/\True) <|
 lp (u211L1 a0) ((0,List.replicate (Int.toNat (6:Int)) (0:Int)))
def k211:Ct:=lct 211 [.agg y148] (fun x=>u211 x.1) (fun r:List Int=>AV.ow 2 true i64 r) (fun _=>())
theorem o211:Ok prog k211:=by
 refine okL [.tmp 2] func211 ntmps211 results211 ?_;intro y ⟨a0,_⟩ r H Q hn hr;have:HT _ _:=⟨@tn prog⟩;refine qA (Z [p 1 (R 1)] [(1,K 148 y148 a0)])<|qB (Z [p 1 (R 1),p 3 (O 5)] [(5,A 2 i64 (List.replicate (Int.toNat (6:Int)) (0:Int)) 0),(1,K 148 y148 a0)]) H fun H=>jN r (fun(v4:List Int)=>Z [p 3 (O 5)] [(5,A 2 i64 v4 0)]) (u211J0) (fun v4 H=>?_) (fun _ n0 e0 t0=>?_)
 ·refine qA (Z [p 2 (O 5)] [(5,A 2 i64 v4 0)])<|vTT<|hr H
 refine qA (Z [p 1 (R 1),p 3 (O 5),p 4 (I (0:Int))] [(5,A 2 i64 (List.replicate (Int.toNat (6:Int)) (0:Int)) 0),(1,K 148 y148 a0)])<|vB<|lX (fun((v1,v2):Int×List Int)=>Z [p 1 (R 1),p 3 (O 5),p 4 (I v1)] [(5,A 2 i64 v2 0),(1,K 148 y148 a0)]) ((0,List.replicate (Int.toNat (6:Int)) (0:Int))) H fun _ g1 b1 e1 t1 ⟨v1,v2⟩ H=>vQ<|qA (Z [p 1 (R 1),p 3 (O 5),p 4 (I v1),p 10 (B (decide (v1 < (a0.2.2.2.1.length:Int))))] [(5,A 2 i64 v2 0),(1,K 148 y148 a0)])<|cD H (fun H=>?_) (fun H=>?_)
 ·refine vK<|fQ<|vQ<|vB<|zD (fun v3=>Z [p 1 (R 1),p 3 (O 5),p 4 (I v1)] [(5,A 2 i64 v3 0),(1,K 148 y148 a0)]) H fun v3 H=>fK<|fQ<|zB (Z [p 1 (R 1),p 3 (O 5),p 4 (I (v1+1))] [(5,A 2 i64 v3 0),(1,K 148 y148 a0)]) H fun H=>b1 H
 exact vE<|fE<|e1<|fX rfl<|n0 H
def u267J0(a0:List Int):Unit->Option (Bool)
 | _ =>
 some (decide (1<=(a0.length:Int))&&decide ((a0.length:Int)<=4))
def u267L1(a0:List Int)(g1:Int->Option (Bool)):Int->Option (Bool)
 | v0 =>
 if(decide (v0 < (a0.length:Int)))=true then
  gd (ix v0 a0.length/\(u102 (a0.getD v0.toNat 0) 0 100000).isSome=true/\(decide (0<v0)=true/\(!vl (u102 (a0.getD v0.toNat 0) 0 100000))=false/\True->in64 (v0-1))/\(decide (0<v0)=true/\(!vl (u102 (a0.getD v0.toNat 0) 0 100000))=false/\True->ix (v0-1) a0.length)/\(decide (0<v0)=true/\(!vl (u102 (a0.getD v0.toNat 0) 0 100000))=false/\True->ix v0 a0.length)/\True) <|
  if(!vl (u102 (a0.getD v0.toNat 0) 0 100000)||decide (0<v0)&&decide (a0.getD v0.toNat 0<=a0.getD (v0-1).toNat 0))=true then
   some false
  else
   gd (in64 (v0+1)/\True) <|
   g1 (v0+1)
 else
  u267J0 a0 ()
def u267(a0:List Int):Option (Bool) :=
 lp (u267L1 a0) 0
def k267:Ct:=lct 267 [.dat i64.sl] (fun x=>u267 x.1) (fun r:Bool=>B r) (fun _=>())
theorem o267:Ok prog k267:=by
 refine okL [.tmp 2] func267 ntmps267 results267 ?_;intro y ⟨a0,_⟩ r H Q hn hr;have:HT _ _:=⟨tc o102 tn⟩;refine qA (Z [p 0 (L i64 a0)] [])<|jN r (fun(_:Unit)=>Z [p 0 (L i64 a0)] []) (u267J0 a0) (fun _ H=>?_) (fun _ n0 e0 t0=>?_)
 ·refine qA (Z [p 2 (B (decide (1<=(a0.length:Int))&&decide ((a0.length:Int)<=4)))] [])<|vTT<|hr H
 refine qA (Z [p 0 (L i64 a0),p 3 (I 0)] [])<|vB<|lX (fun(v0:Int)=>Z [p 0 (L i64 a0),p 3 (I v0)] []) 0 H fun _ g1 b1 e1 t1 v0 H=>vQ<|qA (Z [p 0 (L i64 a0),p 3 (I v0),p 7 (B (decide (v0 < (a0.length:Int))))] [])<|cD H (fun H=>?_) (fun H=>?_)
 ·refine vK<|fQ<|vQ<|vB<|qB (Z [p 0 (L i64 a0),p 3 (I v0),p 31 (B (!vl (u102 (a0.getD v0.toNat 0) 0 100000)||decide (0<v0)&&decide (a0.getD v0.toNat 0<=a0.getD (v0-1).toNat 0)))] []) H fun H=>cD H (fun H=>?_) (fun H=>?_)
  ·refine qA (Z [p 2 (B false)] [])<|vTT<|fDD<|fR<|t1<|fDD<|t0<|hr H
  refine vK<|fK<|fQ<|zB (Z [p 0 (L i64 a0),p 3 (I (v0+1))] []) H fun H=>b1 H
 exact vE<|fE<|e1<|fX rfl<|n0 H
def u255J0:Unit->Option (Bool)
 | _ =>
 some true
def u255L1(a0:Y261)(g1:Int->Option (Bool)):Int->Option (Bool)
 | v0 =>
 if(decide (v0 < (a0.2.2.length:Int)))=true then
  gd (ix v0 a0.2.2.length/\(u102 (a0.2.2.getD v0.toNat 0) (-1000000) 1000000).isSome=true/\True) <|
  if(!vl (u102 (a0.2.2.getD v0.toNat 0) (-1000000) 1000000))=true then
   some false
  else
   gd (in64 (v0+1)/\True) <|
   g1 (v0+1)
 else
  u255J0 ()
def u255(a0:Y261):Option (Bool) :=
 gd ((u267 a0.1).isSome=true/\((!vl (u267 a0.1))=false/\True->(u267 a0.2.1).isSome=true)/\((!vl (u267 a0.1)||!vl (u267 a0.2.1))=false/\True->in64 ((a0.1.length:Int)*(a0.2.1.length:Int)))/\True) <|
 if(!vl (u267 a0.1)||!vl (u267 a0.2.1)||(a0.2.2.length:Int) != (a0.1.length:Int)*(a0.2.1.length:Int))=true then
  some false
 else
  lp (u255L1 a0) 0
def k255:Ct:=lct 255 [.agg y261] (fun x=>u255 x.1) (fun r:Bool=>B r) (fun _=>())
theorem o255:Ok prog k255:=by
 refine okL [.tmp 2] func255 ntmps255 results255 ?_;intro y ⟨a0,_⟩ r H Q hn hr;have:HT _ _:=⟨tc o102 (tc o267 tn)⟩;refine qA (Z [p 1 (R 1)] [(1,K 261 y261 a0)])<|vQ<|qB (Z [p 1 (R 1),p 26 (B (!vl (u267 a0.1)||!vl (u267 a0.2.1)||(a0.2.2.length:Int) != (a0.1.length:Int)*(a0.2.1.length:Int)))] [(1,K 261 y261 a0)]) H fun H=>cD H (fun H=>?_) (fun H=>?_)
 ·refine qA (Z [p 2 (B false)] [(1,K 261 y261 a0)])<|vTT<|fR<|hr H
 refine vK<|fQ<|jN r (fun(_:Unit)=>Z [] []) (u255J0) (fun _ H=>?_) (fun _ n0 e0 t0=>?_)
 ·refine qA (Z [p 2 (B true)] [])<|vTT<|hr H
 refine qA (Z [p 1 (R 1),p 3 (I 0)] [(1,K 261 y261 a0)])<|vB<|lX (fun(v0:Int)=>Z [p 1 (R 1),p 3 (I v0)] [(1,K 261 y261 a0)]) 0 H fun _ g1 b1 e1 t1 v0 H=>vQ<|qA (Z [p 1 (R 1),p 3 (I v0),p 31 (B (decide (v0 < (a0.2.2.length:Int))))] [(1,K 261 y261 a0)])<|cD H (fun H=>?_) (fun H=>?_)
 ·refine vK<|fQ<|vQ<|vB<|qB (Z [p 1 (R 1),p 3 (I v0),p 40 (B !vl (u102 (a0.2.2.getD v0.toNat 0) (-1000000) 1000000))] [(1,K 261 y261 a0)]) H fun H=>cD H (fun H=>?_) (fun H=>?_)
  ·refine qA (Z [p 2 (B false)] [(1,K 261 y261 a0)])<|vTT<|fDD<|fR<|t1<|fDD<|t0<|hr H
  refine vK<|fK<|fQ<|zB (Z [p 1 (R 1),p 3 (I (v0+1))] [(1,K 261 y261 a0)]) H fun H=>b1 H
 exact vE<|fE<|e1<|fX rfl<|n0 H
def u240J0:Int×Int->Option (Y292×Int)
 | (v5,v6) =>
 some (((v5,v6),(0:Int)))
def u240L1(a0:Y261)(g1:Int×Int×Int->Option (Y292×Int)):Int×Int×Int->Option (Y292×Int)
 | (v2,v3,v4) =>
 if(decide (v2 < (a0.2.2.length:Int)))=true then
  gd (ix v2 a0.2.2.length/\True) <|
  gd (ix v2 a0.2.2.length/\True) <|
  gd (in64 (v2+1)/\True) <|
  g1 ((v2+1,min v3 (a0.2.2.getD v2.toNat 0),max v4 (a0.2.2.getD v2.toNat 0)))
 else
  u240J0 (v3,v4)
def u240(a0:Y261):Option (Y292×Int) :=
 gd ((u255 a0).isSome=true/\True) <|
 if(!vl (u255 a0))=true then
  some ((((0:Int),(0:Int)),(1:Int)))
 else
  gd (ix 0 a0.2.2.length/\ix 0 a0.2.2.length/\True) <|
  lp (u240L1 a0) ((1,a0.2.2.getD (Int.toNat (0:Int)) (0:Int),a0.2.2.getD (Int.toNat (0:Int)) (0:Int)))
def k240:Ct:=lct 240 [.agg y261] (fun x=>u240 x.1) (fun r:Y292×Int=>AV.tup [AV.agg [I r.1.1,I r.1.2],I r.2]) (fun _=>())
theorem o240:Ok prog k240:=by
 refine okL [.cell 2 292,.tmp 3] func240 ntmps240 results240 ?_;intro y ⟨a0,_⟩ r H Q hn hr;have:HT _ _:=⟨tc o255 tn⟩;refine qA (Z [p 1 (R 1),p 2 (R 2)] [(2,Ob.box 292 [I 0,I 0]),(1,K 261 y261 a0)])<|vQ<|qB (Z [p 1 (R 1),p 2 (R 2),p 8 (B !vl (u255 a0))] [(2,Ob.box 292 [I 0,I 0]),(1,K 261 y261 a0)]) H fun H=>cD H (fun H=>?_) (fun H=>?_)
 ·refine qA (Z [p 2 (R 2),p 3 (I 1)] [(2,Ob.box 292 [I 0,I 0]),(1,K 261 y261 a0)])<|vTT<|fR<|hr H
 refine vK<|fQ<|qB (Z [p 1 (R 1),p 2 (R 2),p 4 (R 4)] [(4,Ob.box 292 [J (a0.2.2.getD (Int.toNat (0:Int)) (0:Int)),J (a0.2.2.getD (Int.toNat (0:Int)) (0:Int))]),(2,Ob.box 292 [I (0:Int),I (0:Int)]),(1,K 261 y261 a0)]) H fun H=>jN r (fun((v5,v6):Int×Int)=>Z [p 2 (R 2),p 4 (R 4)] [(4,Ob.box 292 [J v5,J v6]),(2,Ob.box 292 [I 0,I 0])]) (u240J0) (fun⟨v5,v6⟩ H=>?_) (fun _ n0 e0 t0=>?_)
 ·refine qA (Z [p 2 (R 2),p 3 (I 0)] [(2,Ob.box 292 [J v5,J v6]),(4,Ob.box 292 [J v5,J v6])])<|vTT<|hr H
 refine qA (Z [p 1 (R 1),p 2 (R 2),p 4 (R 4),p 5 (I (1:Int))] [(4,Ob.box 292 [J (a0.2.2.getD (Int.toNat (0:Int)) (0:Int)),J (a0.2.2.getD (Int.toNat (0:Int)) (0:Int))]),(2,Ob.box 292 [I (0:Int),I (0:Int)]),(1,K 261 y261 a0)])<|vB<|lX (fun((v2,v3,v4):Int×Int×Int)=>Z [p 1 (R 1),p 2 (R 2),p 4 (R 4),p 5 (I v2)] [(4,Ob.box 292 [J v3,J v4]),(2,Ob.box 292 [I 0,I 0]),(1,K 261 y261 a0)]) ((1,a0.2.2.getD (Int.toNat (0:Int)) (0:Int),a0.2.2.getD (Int.toNat (0:Int)) (0:Int))) H fun _ g1 b1 e1 t1 ⟨v2,v3,v4⟩ H=>vQ<|qA (Z [p 1 (R 1),p 2 (R 2),p 4 (R 4),p 5 (I v2),p 23 (B (decide (v2 < (a0.2.2.length:Int))))] [(4,Ob.box 292 [J v3,J v4]),(2,Ob.box 292 [I 0,I 0]),(1,K 261 y261 a0)])<|cD H (fun H=>?_) (fun H=>?_)
 ·refine vK<|fQ<|vQ<|vB<|qB (Z [p 1 (R 1),p 2 (R 2),p 4 (R 4),p 5 (I v2)] [(4,Ob.box 292 [I (min v3 (a0.2.2.getD v2.toNat 0)),J v4]),(2,Ob.box 292 [I 0,I 0]),(1,K 261 y261 a0)]) H fun H=>zB (Z [p 1 (R 1),p 2 (R 2),p 4 (R 4),p 5 (I v2)] [(4,Ob.box 292 [I (min v3 (a0.2.2.getD v2.toNat 0)),I (max v4 (a0.2.2.getD v2.toNat 0))]),(2,Ob.box 292 [I 0,I 0]),(1,K 261 y261 a0)]) H fun H=>fK<|fQ<|zB (Z [p 1 (R 1),p 2 (R 2),p 4 (R 4),p 5 (I (v2+1))] [(4,Ob.box 292 [I (min v3 (a0.2.2.getD v2.toNat 0)),I (max v4 (a0.2.2.getD v2.toNat 0))]),(2,Ob.box 292 [I 0,I 0]),(1,K 261 y261 a0)]) H fun H=>b1 H
 exact vE<|fE<|e1<|fX rfl<|n0 H
def u226J0:Unit->Option (Bool)
 | _ =>
 some true
def u226L1(a1:Bool)(a0:List Y261)(g1:Int->Option (Bool)):Int->Option (Bool)
 | v1 =>
 if(decide (v1<2))=true then
  gd (ix v1 a0.length/\(u240 (a0.getD v1.toNat (dflt y261))).isSome=true/\True)<|lt (vl (u240 (a0.getD v1.toNat (dflt y261)))) fun v2 =>
  if(v2.2 != 0||a1&&decide (v2.1.1<0))=true then
   some false
  else
   gd (in64 (v1+1)/\True) <|
   g1 (v1+1)
 else
  u226J0 ()
def u226(a0:List Y261)(a1:Bool):Option (Bool) :=
 if((a0.length:Int) != 2)=true then
  some false
 else
  lp (u226L1 a1 a0) 0
def k226:Ct:=lct 226 [.dat y261.sl,.dat Ty.bool] (fun x=>u226 x.1 x.2.1) (fun r:Bool=>B r) (fun _=>())
theorem o226:Ok prog k226:=by
 refine okL [.tmp 4] func226 ntmps226 results226 ?_;intro y ⟨a0,a1,_⟩ r H Q hn hr;have:HT _ _:=⟨tc o240 tn⟩;refine qA (Z [p 0 (L y261 a0),p 1 (C a1)] [])<|vQ<|qA (Z [p 0 (L y261 a0),p 1 (C a1),p 10 (B ((a0.length:Int) != 2))] [])<|cD H (fun H=>?_) (fun H=>?_)
 ·refine qA (Z [p 4 (B false)] [])<|vTT<|fR<|hr H
 refine vK<|fQ<|jN r (fun(_:Unit)=>Z [] []) (u226J0) (fun _ H=>?_) (fun _ n0 e0 t0=>?_)
 ·refine qA (Z [p 4 (B true)] [])<|vTT<|hr H
 refine qA (Z [p 0 (L y261 a0),p 1 (C a1),p 5 (I 0)] [])<|vB<|lX (fun(v1:Int)=>Z [p 0 (L y261 a0),p 1 (C a1),p 5 (I v1)] []) 0 H fun _ g1 b1 e1 t1 v1 H=>vQ<|qA (Z [p 0 (L y261 a0),p 1 (C a1),p 5 (I v1),p 12 (B (decide (v1<2)))] [])<|cD H (fun H=>?_) (fun H=>?_)
 ·refine vK<|fQ<|vQ<|vB<|qD (fun v2=>Z [p 0 (L y261 a0),p 1 (C a1),p 5 (I v1),p 6 (R 6),p 7 (I v2.2)] [(6,Ob.box 292 (cellsD true y292 v2.1))]) H fun v2 H=>qA (Z [p 0 (L y261 a0),p 1 (C a1),p 5 (I v1),p 32 (B (v2.2 != 0||a1&&decide (v2.1.1<0)))] [(6,Ob.box 292 (cellsD true y292 v2.1))])<|cD H (fun H=>?_) (fun H=>?_)
  ·refine qA (Z [p 4 (B false)] [(6,Ob.box 292 (cellsD true y292 v2.1))])<|vTT<|fDD<|fR<|t1<|fDD<|t0<|hr H
  refine vK<|fK<|fQ<|zB (Z [p 0 (L y261 a0),p 1 (C a1),p 5 (I (v1+1))] [(6,Ob.box 292 (cellsD true y292 v2.1))]) H fun H=>b1 H
 exact vE<|fE<|e1<|fX rfl<|n0 H
def u210J1(v0:Y222)(a1:Y153)(a0:Y148):Bool->Option (Bool)
 | v2 =>
 if v2=true then
  gd (((v0.2.2.2&&decide (a1.2.2.1 < (a0.2.2.1.length:Int)-1))=true/\True->ix a1.2.2.1 a0.2.2.1.length)/\((v0.2.2.2&&decide (a1.2.2.1 < (a0.2.2.1.length:Int)-1)&&!(a0.2.2.1.getD a1.2.2.1.toNat (dflt y222)).2.2.2&&a1.2.2.2.1==0)=true/\True->(u226 a1.2.2.2.2.1 false).isSome=true)/\True) <|
  some (v0.2.2.2&&decide (a1.2.2.1 < (a0.2.2.1.length:Int)-1)&&!(a0.2.2.1.getD a1.2.2.1.toNat (dflt y222)).2.2.2&&a1.2.2.2.1==0&&vl (u226 a1.2.2.2.2.1 false)&&(a1.2.2.2.2.2.length:Int)==0)
 else
  some false
def u210J0(v0:Y222)(a1:Y153)(a0:Y148):Bool->Option (Bool)
 | v1 =>
 if v1=true then
  gd (((v0.2.2.2&&a1.2.2.1==(a0.2.2.1.length:Int)-1&&a1.2.2.2.1==0)=true/\True->(u226 a1.2.2.2.2.1 true).isSome=true)/\((v0.2.2.2&&a1.2.2.1==(a0.2.2.1.length:Int)-1&&a1.2.2.2.1==0&&vl (u226 a1.2.2.2.2.1 true))=true/\True->(u226 a1.2.2.2.2.2 true).isSome=true)/\True) <|
  some (v0.2.2.2&&a1.2.2.1==(a0.2.2.1.length:Int)-1&&a1.2.2.2.1==0&&vl (u226 a1.2.2.2.2.1 true)&&vl (u226 a1.2.2.2.2.2 true))
 else
  if(a1.1==4)=true then
   u210J1 v0 a1 a0 (a1.1==4)
  else
   u210J1 v0 a1 a0 (a1.1==5)
def u210(a0:Y148)(a1:Y153):Option (Bool) :=
 gd (in64 ((a0.2.2.1.length:Int)-1)/\True) <|
 gd (in64 ((a0.2.2.1.length:Int)-1-1)/\(u102 a1.2.1 0 ((a0.2.2.1.length:Int)-1-1)).isSome=true/\((!vl (u102 a1.2.1 0 ((a0.2.2.1.length:Int)-1-1)))=false/\True->(u102 a1.2.2.1 0 ((a0.2.2.1.length:Int)-1)).isSome=true)/\True) <|
 if(!vl (u102 a1.2.1 0 ((a0.2.2.1.length:Int)-1-1))||!vl (u102 a1.2.2.1 0 ((a0.2.2.1.length:Int)-1)))=true then
  some false
 else
  gd (ix a1.2.1 a0.2.2.1.length/\True)<|lt (a0.2.2.1.getD a1.2.1.toNat (dflt y222)) fun v0 =>
  if(a1.1==1)=true then
   gd (((!v0.2.2.2&&a1.2.2.1==(a0.2.2.1.length:Int)-1)=true/\True->(u102 a1.2.2.2.1 1 3).isSome=true)/\((!v0.2.2.2&&a1.2.2.1==(a0.2.2.1.length:Int)-1&&vl (u102 a1.2.2.2.1 1 3))=true/\True->(u226 a1.2.2.2.2.1 true).isSome=true)/\((!v0.2.2.2&&a1.2.2.1==(a0.2.2.1.length:Int)-1&&vl (u102 a1.2.2.2.1 1 3)&&vl (u226 a1.2.2.2.2.1 true))=true/\True->(u226 a1.2.2.2.2.2 true).isSome=true)/\True) <|
   some (!v0.2.2.2&&a1.2.2.1==(a0.2.2.1.length:Int)-1&&vl (u102 a1.2.2.2.1 1 3)&&vl (u226 a1.2.2.2.2.1 true)&&vl (u226 a1.2.2.2.2.2 true))
  else
   if(a1.1==2)=true then
    u210J0 v0 a1 a0 (a1.1==2)
   else
    u210J0 v0 a1 a0 (a1.1==3)
def k210:Ct:=lct 210 [.agg y148,.agg y153] (fun x=>u210 x.1 x.2.1) (fun r:Bool=>B r) (fun _=>())
theorem o210:Ok prog k210:=by
 refine okL [.tmp 4] func210 ntmps210 results210 ?_;intro y ⟨a0,a1,_⟩ r H Q hn hr;have:HT _ _:=⟨tc o226 (tc o102 tn)⟩;refine qA (Z [p 2 (R 2),p 3 (R 3)] [(3,K 153 y153 a1),(2,K 148 y148 a0)])<|qB (Z [p 2 (R 2),p 3 (R 3),p 5 (I ((a0.2.2.1.length:Int)-1))] [(3,K 153 y153 a1),(2,K 148 y148 a0)]) H fun H=>vQ<|qB (Z [p 2 (R 2),p 3 (R 3),p 5 (I ((a0.2.2.1.length:Int)-1)),p 23 (B (!vl (u102 a1.2.1 0 ((a0.2.2.1.length:Int)-1-1))||!vl (u102 a1.2.2.1 0 ((a0.2.2.1.length:Int)-1))))] [(3,K 153 y153 a1),(2,K 148 y148 a0)]) H fun H=>cD H (fun H=>?_) (fun H=>?_)
 ·refine qA (Z [p 4 (B false)] [(3,K 153 y153 a1),(2,K 148 y148 a0)])<|vTT<|fR<|hr H
 refine vK<|fQ<|qD (fun v0=>Z [p 2 (R 2),p 3 (R 3),p 5 (I ((a0.2.2.1.length:Int)-1)),p 6 (C v0.2.2.2)] [(3,K 153 y153 a1),(2,K 148 y148 a0)]) H fun v0 H=>vQ<|qA (Z [p 2 (R 2),p 3 (R 3),p 5 (I ((a0.2.2.1.length:Int)-1)),p 6 (C v0.2.2.2),p 32 (J a1.1)] [(3,K 153 y153 a1),(2,K 148 y148 a0)])<|vB<|qA (Z [p 2 (R 2),p 3 (R 3),p 5 (I ((a0.2.2.1.length:Int)-1)),p 6 (C v0.2.2.2),p 32 (J a1.1),p 33 (B (a1.1==1))] [(3,K 153 y153 a1),(2,K 148 y148 a0)])<|cD H (fun H=>?_) (fun H=>?_)
 ·refine qB (Z [p 4 (B (!v0.2.2.2&&a1.2.2.1==(a0.2.2.1.length:Int)-1&&vl (u102 a1.2.2.2.1 1 3)&&vl (u226 a1.2.2.2.2.1 true)&&vl (u226 a1.2.2.2.2.2 true)))] [(3,K 153 y153 a1),(2,K 148 y148 a0)]) H fun H=>vTT<|fDD<|fR<|hr H
 refine jN r (fun(v1:Bool)=>Z [p 2 (R 2),p 3 (R 3),p 5 (I ((a0.2.2.1.length:Int)-1)),p 6 (C v0.2.2.2),p 32 (J a1.1),p 58 (B v1)] [(3,K 153 y153 a1),(2,K 148 y148 a0)]) (u210J0 v0 a1 a0) (fun v1 H=>?_) (fun _ n0 e0 t0=>?_)
 ·refine cD H (fun H=>?_) (fun H=>?_)
  ·refine qB (Z [p 4 (B (v0.2.2.2&&a1.2.2.1==(a0.2.2.1.length:Int)-1&&a1.2.2.2.1==0&&vl (u226 a1.2.2.2.2.1 true)&&vl (u226 a1.2.2.2.2.2 true)))] [(3,K 153 y153 a1),(2,K 148 y148 a0)]) H fun H=>vTT<|fDD<|fR<|hr H
  refine jN r (fun(v2:Bool)=>Z [p 2 (R 2),p 3 (R 3),p 5 (I ((a0.2.2.1.length:Int)-1)),p 6 (C v0.2.2.2),p 83 (B v2)] [(3,K 153 y153 a1),(2,K 148 y148 a0)]) (u210J1 v0 a1 a0) (fun v2 H=>?_) (fun _ n1 e1 t1=>?_)
  ·refine cD H (fun H=>?_) (fun H=>?_)
   ·refine qB (Z [p 4 (B (v0.2.2.2&&decide (a1.2.2.1 < (a0.2.2.1.length:Int)-1)&&!(a0.2.2.1.getD a1.2.2.1.toNat (dflt y222)).2.2.2&&a1.2.2.2.1==0&&vl (u226 a1.2.2.2.2.1 false)&&(a1.2.2.2.2.2.length:Int)==0))] [(3,K 153 y153 a1),(2,K 148 y148 a0)]) H fun H=>vTT<|fDD<|fR<|hr H
   refine vK<|fK<|fQ<|qA (Z [p 4 (B false)] [(3,K 153 y153 a1),(2,K 148 y148 a0)])<|vTT<|hr H
  refine qA (Z [p 2 (R 2),p 3 (R 3),p 5 (I ((a0.2.2.1.length:Int)-1)),p 6 (C v0.2.2.2),p 32 (J a1.1),p 83 (B (a1.1==4))] [(3,K 153 y153 a1),(2,K 148 y148 a0)])<|cD H (fun H=>?_) (fun H=>?_)
  ·exact vK<|n1 H
  refine zA (Z [p 2 (R 2),p 3 (R 3),p 5 (I ((a0.2.2.1.length:Int)-1)),p 6 (C v0.2.2.2),p 83 (B (a1.1==5))] [(3,K 153 y153 a1),(2,K 148 y148 a0)])<|n1 H
 refine qA (Z [p 2 (R 2),p 3 (R 3),p 5 (I ((a0.2.2.1.length:Int)-1)),p 6 (C v0.2.2.2),p 32 (J a1.1),p 58 (B (a1.1==2))] [(3,K 153 y153 a1),(2,K 148 y148 a0)])<|cD H (fun H=>?_) (fun H=>?_)
 ·exact vK<|n0 H
 refine zA (Z [p 2 (R 2),p 3 (R 3),p 5 (I ((a0.2.2.1.length:Int)-1)),p 6 (C v0.2.2.2),p 32 (J a1.1),p 58 (B (a1.1==3))] [(3,K 153 y153 a1),(2,K 148 y148 a0)])<|n0 H
def u209J0:Int->Option (Int×Bool)
 | v8 =>
 some (v8,true)
def u209J2(v4:Int)(g1:Int×Int->Option (Int×Bool)):Int->Option (Int×Bool)
 | v7 =>
 gd (in64 (v4+1)/\True) <|
 g1 (v7,v4+1)
def u209J3(v4:Int)(v3:Int)(v5:Y222)(a0:Y148)(g1:Int×Int->Option (Int×Bool)):Unit->Option (Int×Bool)
 | _ =>
 gd ((u184 v5.1).isSome=true/\((!vl (u184 v5.1))=false/\True->(u102 v5.2.2.1 0 500).isSome=true)/\True) <|
 if(!vl (u184 v5.1)||!vl (u102 v5.2.2.1 0 500))=true then
  some (((0:Int),false))
 else
  gd (in64 ((a0.2.2.1.length:Int)-1)/\((v4==(a0.2.2.1.length:Int)-1&&(v5.2.1 != 2||v5.2.2.1 != 0||v5.2.2.2))=false/\True->in64 ((a0.2.2.1.length:Int)-1))/\True) <|
  if(v4==(a0.2.2.1.length:Int)-1&&(v5.2.1 != 2||v5.2.2.1 != 0||v5.2.2.2)||decide (v4 < (a0.2.2.1.length:Int)-1)&&v5.2.1 != 1)=true then
   some (((0:Int),false))
  else
   if v5.2.2.2=true then
    gd (in64 (v3+1)/\True) <|
    u209J2 v4 g1 (v3+1)
   else
    u209J2 v4 g1 v3
def u209L4(a0:Y148)(v5:Y222)(v4:Int)(v3:Int)(g1:Int×Int->Option (Int×Bool))(g4:Int->Option (Int×Bool)):Int->Option (Int×Bool)
 | v6 =>
 if(decide (v6<v4))=true then
  gd (ix v6 a0.2.2.1.length/\True) <|
  if(decide ((a0.2.2.1.getD v6.toNat (dflt y222)).1=v5.1))=true then
   some (((0:Int),false))
  else
   gd (in64 (v6+1)/\True) <|
   g4 (v6+1)
 else
  u209J3 v4 v3 v5 a0 g1 ()
def u209L1(a0:Y148)(g1:Int×Int->Option (Int×Bool)):Int×Int->Option (Int×Bool)
 | (v3,v4) =>
 if(decide (v4 < (a0.2.2.1.length:Int)))=true then
  gd (ix v4 a0.2.2.1.length/\True)<|lt (a0.2.2.1.getD v4.toNat (dflt y222)) fun v5 =>
  lp (u209L4 a0 v5 v4 v3 g1) 0
 else
  u209J0 v3
def u209(a0:Y148):Option (Int×Bool) :=
 if(decide ((a0.2.2.1.length:Int)<2)||decide (5 < (a0.2.2.1.length:Int)))=true then
  some (((0:Int),false))
 else
  lp (u209L1 a0) (0,0)
def k209:Ct:=lct 209 [.agg y148] (fun x=>u209 x.1) (fun r:Int×Bool=>AV.tup [I r.1,B r.2]) (fun _=>())
theorem o209:Ok prog k209:=by
 refine okL [.tmp 2,.tmp 3] func209 ntmps209 results209 ?_;intro y ⟨a0,_⟩ r H Q hn hr;have:HT _ _:=⟨tc o102 (tc o184 tn)⟩;refine qA (Z [p 1 (R 1)] [(1,K 148 y148 a0)])<|qA (Z [p 1 (R 1),p 4 (I (a0.2.2.1.length:Int))] [(1,K 148 y148 a0)])<|vQ<|qA (Z [p 1 (R 1),p 4 (I (a0.2.2.1.length:Int)),p 17 (B (decide ((a0.2.2.1.length:Int)<2)||decide (5 < (a0.2.2.1.length:Int))))] [(1,K 148 y148 a0)])<|cD H (fun H=>?_) (fun H=>?_)
 ·refine qA (Z [p 2 (I 0),p 3 (B false)] [(1,K 148 y148 a0)])<|vTT<|fR<|hr H
 refine vK<|fQ<|qA (Z [p 1 (R 1),p 4 (I (a0.2.2.1.length:Int)),p 5 (I 0)] [(1,K 148 y148 a0)])<|jN r (fun(v8:Int)=>Z [p 5 (I v8)] []) (u209J0) (fun v8 H=>?_) (fun _ n0 e0 t0=>?_)
 ·refine qA (Z [p 2 (I v8),p 3 (B true)] [])<|vTT<|hr H
 refine qA (Z [p 1 (R 1),p 4 (I (a0.2.2.1.length:Int)),p 5 (I 0),p 6 (I 0)] [(1,K 148 y148 a0)])<|vB<|lX (fun((v3,v4):Int×Int)=>Z [p 1 (R 1),p 4 (I (a0.2.2.1.length:Int)),p 5 (I v3),p 6 (I v4)] [(1,K 148 y148 a0)]) (0,0) H fun _ g1 b1 e1 t1 ⟨v3,v4⟩ H=>vQ<|qA (Z [p 1 (R 1),p 4 (I (a0.2.2.1.length:Int)),p 5 (I v3),p 6 (I v4),p 20 (B (decide (v4 < (a0.2.2.1.length:Int))))] [(1,K 148 y148 a0)])<|cD H (fun H=>?_) (fun H=>?_)
 ·refine vK<|fQ<|jN r (fun(v7:Int)=>Z [p 1 (R 1),p 4 (I (a0.2.2.1.length:Int)),p 5 (I v7),p 6 (I v4)] [(1,K 148 y148 a0)]) (u209J2 v4 g1) (fun v7 H=>?_) (fun _ n2 e2 t2=>?_)
  ·refine zB (Z [p 1 (R 1),p 4 (I (a0.2.2.1.length:Int)),p 5 (I v7),p 6 (I (v4+1))] [(1,K 148 y148 a0)]) H fun H=>b1 H
  refine vB<|qD (fun v5=>Z [p 1 (R 1),p 4 (I (a0.2.2.1.length:Int)),p 5 (I v3),p 6 (I v4),p 7 (R 7)] [(7,K 222 y222 v5),(1,K 148 y148 a0)]) H fun v5 H=>jN r (fun(_:Unit)=>Z [p 1 (R 1),p 4 (I (a0.2.2.1.length:Int)),p 5 (I v3),p 6 (I v4),p 7 (R 7)] [(7,K 222 y222 v5),(1,K 148 y148 a0)]) (u209J3 v4 v3 v5 a0 g1) (fun _ H=>?_) (fun _ n3 e3 t3=>?_)
  ·refine vQ<|qB (Z [p 1 (R 1),p 4 (I (a0.2.2.1.length:Int)),p 5 (I v3),p 6 (I v4),p 7 (R 7),p 51 (B (!vl (u184 v5.1)||!vl (u102 v5.2.2.1 0 500)))] [(7,K 222 y222 v5),(1,K 148 y148 a0)]) H fun H=>cD H (fun H=>?_) (fun H=>?_)
   ·refine qA (Z [p 2 (I 0),p 3 (B false)] [(7,K 222 y222 v5),(1,K 148 y148 a0)])<|vTT<|fR<|fDD<|t2<|t1<|fDD<|t0<|hr H
   refine vK<|fQ<|vQ<|qB (Z [p 1 (R 1),p 4 (I (a0.2.2.1.length:Int)),p 5 (I v3),p 6 (I v4),p 7 (R 7),p 80 (B (v4==(a0.2.2.1.length:Int)-1&&(v5.2.1 != 2||v5.2.2.1 != 0||v5.2.2.2)||decide (v4 < (a0.2.2.1.length:Int)-1)&&v5.2.1 != 1))] [(7,K 222 y222 v5),(1,K 148 y148 a0)]) H fun H=>cD H (fun H=>?_) (fun H=>?_)
   ·refine qA (Z [p 2 (I 0),p 3 (B false)] [(7,K 222 y222 v5),(1,K 148 y148 a0)])<|vTT<|fR<|fDD<|t2<|t1<|fDD<|t0<|hr H
   refine vK<|fQ<|qA (Z [p 1 (R 1),p 4 (I (a0.2.2.1.length:Int)),p 5 (I v3),p 6 (I v4),p 82 (C v5.2.2.2)] [(7,K 222 y222 v5),(1,K 148 y148 a0)])<|cD H (fun H=>?_) (fun H=>?_)
   ·refine zB (Z [p 1 (R 1),p 4 (I (a0.2.2.1.length:Int)),p 5 (I (v3+1)),p 6 (I v4)] [(7,K 222 y222 v5),(1,K 148 y148 a0)]) H fun H=>fK<|n2 H
   exact vK<|fK<|n2 H
  refine qA (Z [p 1 (R 1),p 4 (I (a0.2.2.1.length:Int)),p 5 (I v3),p 6 (I v4),p 7 (R 7),p 8 (I 0)] [(7,K 222 y222 v5),(1,K 148 y148 a0)])<|vB<|lX (fun(v6:Int)=>Z [p 1 (R 1),p 4 (I (a0.2.2.1.length:Int)),p 5 (I v3),p 6 (I v4),p 7 (R 7),p 8 (I v6)] [(7,K 222 y222 v5),(1,K 148 y148 a0)]) 0 H fun _ g4 b4 e4 t4 v6 H=>vQ<|qA (Z [p 1 (R 1),p 4 (I (a0.2.2.1.length:Int)),p 5 (I v3),p 6 (I v4),p 7 (R 7),p 8 (I v6),p 30 (B (decide (v6<v4)))] [(7,K 222 y222 v5),(1,K 148 y148 a0)])<|cD H (fun H=>?_) (fun H=>?_)
  ·refine vK<|fQ<|vQ<|vB<|qB (Z [p 1 (R 1),p 4 (I (a0.2.2.1.length:Int)),p 5 (I v3),p 6 (I v4),p 7 (R 7),p 8 (I v6),p 41 (B (decide ((a0.2.2.1.getD v6.toNat (dflt y222)).1=v5.1)))] [(7,K 222 y222 v5),(1,K 148 y148 a0)]) H fun H=>cD H (fun H=>?_) (fun H=>?_)
   ·refine qA (Z [p 2 (I 0),p 3 (B false)] [(7,K 222 y222 v5),(1,K 148 y148 a0)])<|vTT<|fDD<|fR<|t4<|fDD<|t3<|fDD<|t2<|t1<|fDD<|t0<|hr H
   refine vK<|fK<|fQ<|zB (Z [p 1 (R 1),p 4 (I (a0.2.2.1.length:Int)),p 5 (I v3),p 6 (I v4),p 7 (R 7),p 8 (I (v6+1))] [(7,K 222 y222 v5),(1,K 148 y148 a0)]) H fun H=>b4 H
  exact vE<|fE<|e4<|fX rfl<|n3 H
 exact vE<|fE<|e1<|fX rfl<|n0 H
def u183J4:Unit->Option (Bool)
 | _ =>
 some false
def u183J5(v0:Int×Bool)(a0:Y148):Unit->Option (Bool)
 | _ =>
 gd (((v0.1==0)=true/\True->in64 ((a0.2.2.1.length:Int)-1))/\((v0.1==0)=true/\True->0<=(a0.2.2.1.length:Int)-1/\(a0.2.2.1.length:Int)-1<=18446744073709551615)/\((v0.1==0)=true/\True->(0<=(a0.2.2.1.length:Int)-1/\(a0.2.2.1.length:Int)-1<=62)/\in64 (1*2 ^ ((a0.2.2.1.length:Int)-1).toNat))/\True) <|
 some (v0.1==0&&(a0.2.2.2.2.1.length:Int)==1*2 ^ ((a0.2.2.1.length:Int)-1).toNat)
def u183L6(a0:Y148)(v0:Int×Bool)(g6:Int->Option (Bool)):Int->Option (Bool)
 | v7 =>
 if(decide (v7 < (a0.2.2.2.2.1.length:Int)))=true then
  gd (ix v7 a0.2.2.2.2.1.length/\(u102 (a0.2.2.2.2.1.getD v7.toNat 0) 0 1).isSome=true/\True) <|
  if(!vl (u102 (a0.2.2.2.2.1.getD v7.toNat 0) 0 1))=true then
   some false
  else
   gd (in64 (v7+1)/\True) <|
   g6 (v7+1)
 else
  u183J5 v0 a0 ()
def u183J0(a0:Y148)(v0:Int×Bool):Unit->Option (Bool)
 | _ =>
 gd ((u211 a0).isSome=true/\True)<|lt (vl (u211 a0)) fun v6 =>
 if(a0.2.1==1)=true then
  lp (u183L6 a0 v0) 0
 else
  if(a0.2.1==2)=true then
   gd (((v0.1==(1:Int))=true/\True->ix (1:Int) v6.length)/\((v0.1==(1:Int))=true/\True->Int.toNat (1:Int)<v6.length)/\((v0.1==(1:Int)&&v6.getD (Int.toNat (1:Int)) (0:Int)==(0:Int))=true/\True->ix (2:Int) v6.length)/\((v0.1==(1:Int)&&v6.getD (Int.toNat (1:Int)) (0:Int)==(0:Int))=true/\True->Int.toNat (2:Int)<v6.length)/\((v0.1==(1:Int)&&v6.getD (Int.toNat (1:Int)) (0:Int)==(0:Int))=true/\True->ix (3:Int) v6.length)/\((v0.1==(1:Int)&&v6.getD (Int.toNat (1:Int)) (0:Int)==(0:Int))=true/\True->Int.toNat (3:Int)<v6.length)/\True) <|
   some (v0.1==(1:Int)&&v6.getD (Int.toNat (1:Int)) (0:Int)==(0:Int)&&!decide ((0:Int)<v6.getD (Int.toNat (2:Int)) (0:Int))==decide ((0:Int)<v6.getD (Int.toNat (3:Int)) (0:Int))&&(a0.2.2.2.2.1.length:Int)==(0:Int))
  else
   if(a0.2.1==3)=true then
    gd (((v0.1==(1:Int))=true/\True->ix (1:Int) v6.length)/\((v0.1==(1:Int))=true/\True->Int.toNat (1:Int)<v6.length)/\((v0.1==(1:Int)&&decide ((0:Int)<v6.getD (Int.toNat (1:Int)) (0:Int)))=true/\True->ix (2:Int) v6.length)/\((v0.1==(1:Int)&&decide ((0:Int)<v6.getD (Int.toNat (1:Int)) (0:Int)))=true/\True->Int.toNat (2:Int)<v6.length)/\((v0.1==(1:Int)&&decide ((0:Int)<v6.getD (Int.toNat (1:Int)) (0:Int))&&decide ((0:Int)<v6.getD (Int.toNat (2:Int)) (0:Int)))=true/\True->ix (3:Int) v6.length)/\((v0.1==(1:Int)&&decide ((0:Int)<v6.getD (Int.toNat (1:Int)) (0:Int))&&decide ((0:Int)<v6.getD (Int.toNat (2:Int)) (0:Int)))=true/\True->Int.toNat (3:Int)<v6.length)/\True) <|
    some (v0.1==(1:Int)&&decide ((0:Int)<v6.getD (Int.toNat (1:Int)) (0:Int))&&decide ((0:Int)<v6.getD (Int.toNat (2:Int)) (0:Int))&&v6.getD (Int.toNat (3:Int)) (0:Int)==(0:Int)&&(a0.2.2.2.2.1.length:Int)==(0:Int))
   else
    u183J4 ()
def u183J2(v3:Int)(g1:Int->Option (Bool)):Unit->Option (Bool)
 | _ =>
 gd (in64 (v3+1)/\True) <|
 g1 (v3+1)
def u183L3(a0:Y148)(v4:Y153)(v3:Int)(g1:Int->Option (Bool))(g3:Int->Option (Bool)):Int->Option (Bool)
 | v5 =>
 if(decide (v5<v3))=true then
  gd (ix v5 a0.2.2.2.1.length/\(((a0.2.2.2.1.getD v5.toNat (dflt y153)).1==v4.1)=true/\True->ix v5 a0.2.2.2.1.length)/\(((a0.2.2.2.1.getD v5.toNat (dflt y153)).1==v4.1&&(a0.2.2.2.1.getD v5.toNat (dflt y153)).2.1==v4.2.1)=true/\True->ix v5 a0.2.2.2.1.length)/\True) <|
  if((a0.2.2.2.1.getD v5.toNat (dflt y153)).1==v4.1&&(a0.2.2.2.1.getD v5.toNat (dflt y153)).2.1==v4.2.1&&(a0.2.2.2.1.getD v5.toNat (dflt y153)).2.2.1==v4.2.2.1)=true then
   some false
  else
   gd (in64 (v5+1)/\True) <|
   g3 (v5+1)
 else
  u183J2 v3 g1 ()
def u183L1(a0:Y148)(v0:Int×Bool)(g1:Int->Option (Bool)):Int->Option (Bool)
 | v3 =>
 if(decide (v3 < (a0.2.2.2.1.length:Int)))=true then
  gd (ix v3 a0.2.2.2.1.length/\True)<|lt (a0.2.2.2.1.getD v3.toNat (dflt y153)) fun v4 =>
  gd ((u210 a0 v4).isSome=true/\True) <|
  if(!vl (u210 a0 v4))=true then
   some false
  else
   lp (u183L3 a0 v4 v3 g1) 0
 else
  u183J0 a0 v0 ()
def u183(a0:Y148):Option (Bool) :=
 gd ((u209 a0).isSome=true/\True)<|lt (vl (u209 a0)) fun v0 =>
 gd (((!v0.2)=false/\True->(u184 a0.1).isSome=true)/\((!v0.2||!vl (u184 a0.1)||decide (8 < (a0.2.2.2.1.length:Int)))=false/\True->(u102 a0.2.2.2.2.2.1 0 100000).isSome=true)/\((!v0.2||!vl (u184 a0.1)||decide (8 < (a0.2.2.2.1.length:Int))||!vl (u102 a0.2.2.2.2.2.1 0 100000))=false/\True->(u102 a0.2.2.2.2.2.2 0 100000).isSome=true)/\True) <|
 if(!v0.2||!vl (u184 a0.1)||decide (8 < (a0.2.2.2.1.length:Int))||!vl (u102 a0.2.2.2.2.2.1 0 100000)||!vl (u102 a0.2.2.2.2.2.2 0 100000))=true then
  some false
 else
  lp (u183L1 a0 v0) 0
def k183:Ct:=lct 183 [.agg y148] (fun x=>u183 x.1) (fun r:Bool=>B r) (fun _=>())
theorem o183:Ok prog k183:=by
 refine okL [.tmp 2] func183 ntmps183 results183 ?_;intro y ⟨a0,_⟩ r H Q hn hr;have:HT _ _:=⟨tc o102 (tc o211 (tc o210 (tc o184 (tc o209 tn))))⟩;refine qA (Z [p 1 (R 1)] [(1,K 148 y148 a0)])<|qD (fun v0=>Z [p 1 (R 1),p 3 (I v0.1),p 4 (B v0.2)] [(1,K 148 y148 a0)]) H fun v0 H=>vQ<|qB (Z [p 1 (R 1),p 3 (I v0.1),p 40 (B (!v0.2||!vl (u184 a0.1)||decide (8 < (a0.2.2.2.1.length:Int))||!vl (u102 a0.2.2.2.2.2.1 0 100000)||!vl (u102 a0.2.2.2.2.2.2 0 100000)))] [(1,K 148 y148 a0)]) H fun H=>cD H (fun H=>?_) (fun H=>?_)
 ·refine qA (Z [p 2 (B false)] [(1,K 148 y148 a0)])<|vTT<|fR<|hr H
 refine vK<|fQ<|jN r (fun(_:Unit)=>Z [p 1 (R 1),p 3 (I v0.1)] [(1,K 148 y148 a0)]) (u183J0 a0 v0) (fun _ H=>?_) (fun _ n0 e0 t0=>?_)
 ·refine qD (fun v6=>Z [p 1 (R 1),p 3 (I v0.1),p 8 (O 94)] [(94,A 2 i64 v6 0),(1,K 148 y148 a0)]) H fun v6 H=>jN r (fun(_:Unit)=>Z [] []) (u183J4) (fun _ H=>?_) (fun _ n4 e4 t4=>?_)
  ·refine qA (Z [p 2 (B false)] [])<|vTT<|hr H
  refine qA (Z [p 1 (R 1),p 3 (I v0.1),p 8 (O 94),p 96 (J a0.2.1)] [(94,A 2 i64 v6 0),(1,K 148 y148 a0)])<|vB<|qA (Z [p 1 (R 1),p 3 (I v0.1),p 8 (O 94),p 96 (J a0.2.1),p 97 (B (a0.2.1==1))] [(94,A 2 i64 v6 0),(1,K 148 y148 a0)])<|cD H (fun H=>?_) (fun H=>?_)
  ·refine jN r (fun(_:Unit)=>Z [p 1 (R 1),p 3 (I v0.1)] [(1,K 148 y148 a0)]) (u183J5 v0 a0) (fun _ H=>?_) (fun _ n5 e5 t5=>?_)
   ·refine qB (Z [p 2 (B (v0.1==0&&(a0.2.2.2.2.1.length:Int)==1*2 ^ ((a0.2.2.1.length:Int)-1).toNat))] [(1,K 148 y148 a0)]) H fun H=>vTT<|fDD<|t4<|hr H
   refine qA (Z [p 1 (R 1),p 3 (I v0.1),p 9 (I 0)] [(94,A 2 i64 v6 0),(1,K 148 y148 a0)])<|vB<|lX (fun(v7:Int)=>Z [p 1 (R 1),p 3 (I v0.1),p 9 (I v7)] [(1,K 148 y148 a0)]) 0 H fun _ g6 b6 e6 t6 v7 H=>vQ<|qA (Z [p 1 (R 1),p 3 (I v0.1),p 9 (I v7),p 103 (B (decide (v7 < (a0.2.2.2.2.1.length:Int))))] [(1,K 148 y148 a0)])<|cD H (fun H=>?_) (fun H=>?_)
   ·refine vK<|fQ<|vQ<|vB<|qB (Z [p 1 (R 1),p 3 (I v0.1),p 9 (I v7),p 112 (B !vl (u102 (a0.2.2.2.2.1.getD v7.toNat 0) 0 1))] [(1,K 148 y148 a0)]) H fun H=>cD H (fun H=>?_) (fun H=>?_)
    ·refine qA (Z [p 2 (B false)] [(1,K 148 y148 a0)])<|vTT<|fDD<|fR<|t6<|fDD<|t5<|fDD<|t4<|hr H
    refine vK<|fK<|fQ<|zB (Z [p 1 (R 1),p 3 (I v0.1),p 9 (I (v7+1))] [(1,K 148 y148 a0)]) H fun H=>b6 H
   exact vE<|fE<|e6<|fX rfl<|n5 H
  refine qA (Z [p 1 (R 1),p 3 (I v0.1),p 8 (O 94),p 96 (J a0.2.1),p 127 (B (a0.2.1==2))] [(94,A 2 i64 v6 0),(1,K 148 y148 a0)])<|cD H (fun H=>?_) (fun H=>?_)
  ·refine qB (Z [p 2 (B (v0.1==(1:Int)&&v6.getD (Int.toNat (1:Int)) (0:Int)==(0:Int)&&!decide ((0:Int)<v6.getD (Int.toNat (2:Int)) (0:Int))==decide ((0:Int)<v6.getD (Int.toNat (3:Int)) (0:Int))&&(a0.2.2.2.2.1.length:Int)==(0:Int)))] [(94,A 2 i64 v6 0),(1,K 148 y148 a0)]) H fun H=>vTT<|fDD<|t4<|hr H
  refine qA (Z [p 1 (R 1),p 3 (I v0.1),p 8 (O 94),p 154 (B (a0.2.1==3))] [(94,A 2 i64 v6 0),(1,K 148 y148 a0)])<|cD H (fun H=>?_) (fun H=>?_)
  ·refine qB (Z [p 2 (B (v0.1==(1:Int)&&decide ((0:Int)<v6.getD (Int.toNat (1:Int)) (0:Int))&&decide ((0:Int)<v6.getD (Int.toNat (2:Int)) (0:Int))&&v6.getD (Int.toNat (3:Int)) (0:Int)==(0:Int)&&(a0.2.2.2.2.1.length:Int)==(0:Int)))] [(94,A 2 i64 v6 0),(1,K 148 y148 a0)]) H fun H=>vTT<|fDD<|t4<|hr H
  exact vK<|fK<|n4 H
 refine qA (Z [p 1 (R 1),p 3 (I v0.1),p 5 (I 0)] [(1,K 148 y148 a0)])<|vB<|lX (fun(v3:Int)=>Z [p 1 (R 1),p 3 (I v0.1),p 5 (I v3)] [(1,K 148 y148 a0)]) 0 H fun _ g1 b1 e1 t1 v3 H=>vQ<|qA (Z [p 1 (R 1),p 3 (I v0.1),p 5 (I v3),p 45 (B (decide (v3 < (a0.2.2.2.1.length:Int))))] [(1,K 148 y148 a0)])<|cD H (fun H=>?_) (fun H=>?_)
 ·refine vK<|fQ<|jN r (fun(_:Unit)=>Z [p 1 (R 1),p 3 (I v0.1),p 5 (I v3)] [(1,K 148 y148 a0)]) (u183J2 v3 g1) (fun _ H=>?_) (fun _ n2 e2 t2=>?_)
  ·refine zB (Z [p 1 (R 1),p 3 (I v0.1),p 5 (I (v3+1))] [(1,K 148 y148 a0)]) H fun H=>b1 H
  refine vB<|qD (fun v4=>Z [p 1 (R 1),p 3 (I v0.1),p 5 (I v3),p 6 (R 6)] [(6,K 153 y153 v4),(1,K 148 y148 a0)]) H fun v4 H=>vQ<|qB (Z [p 1 (R 1),p 3 (I v0.1),p 5 (I v3),p 6 (R 6),p 56 (B !vl (u210 a0 v4))] [(6,K 153 y153 v4),(1,K 148 y148 a0)]) H fun H=>cD H (fun H=>?_) (fun H=>?_)
  ·refine qA (Z [p 2 (B false)] [(6,K 153 y153 v4),(1,K 148 y148 a0)])<|vTT<|fR<|fDD<|t2<|t1<|fDD<|t0<|hr H
  refine vK<|fQ<|qA (Z [p 1 (R 1),p 3 (I v0.1),p 5 (I v3),p 6 (R 6),p 7 (I 0)] [(6,K 153 y153 v4),(1,K 148 y148 a0)])<|vB<|lX (fun(v5:Int)=>Z [p 1 (R 1),p 3 (I v0.1),p 5 (I v3),p 6 (R 6),p 7 (I v5)] [(6,K 153 y153 v4),(1,K 148 y148 a0)]) 0 H fun _ g3 b3 e3 t3 v5 H=>vQ<|qA (Z [p 1 (R 1),p 3 (I v0.1),p 5 (I v3),p 6 (R 6),p 7 (I v5),p 59 (B (decide (v5<v3)))] [(6,K 153 y153 v4),(1,K 148 y148 a0)])<|cD H (fun H=>?_) (fun H=>?_)
  ·refine vK<|fQ<|vQ<|vB<|qB (Z [p 1 (R 1),p 3 (I v0.1),p 5 (I v3),p 6 (R 6),p 7 (I v5),p 92 (B ((a0.2.2.2.1.getD v5.toNat (dflt y153)).1==v4.1&&(a0.2.2.2.1.getD v5.toNat (dflt y153)).2.1==v4.2.1&&(a0.2.2.2.1.getD v5.toNat (dflt y153)).2.2.1==v4.2.2.1))] [(6,K 153 y153 v4),(1,K 148 y148 a0)]) H fun H=>cD H (fun H=>?_) (fun H=>?_)
   ·refine qA (Z [p 2 (B false)] [(6,K 153 y153 v4),(1,K 148 y148 a0)])<|vTT<|fDD<|fR<|t3<|fDD<|fDD<|t2<|t1<|fDD<|t0<|hr H
   refine vK<|fK<|fQ<|zB (Z [p 1 (R 1),p 3 (I v0.1),p 5 (I v3),p 6 (R 6),p 7 (I (v5+1))] [(6,K 153 y153 v4),(1,K 148 y148 a0)]) H fun H=>b3 H
  exact vE<|fE<|e3<|fX rfl<|fK<|n2 H
 exact vE<|fE<|e1<|fX rfl<|n0 H
def u154J0(a0:List Y148):Unit->Option (Bool)
 | _ =>
 some (decide ((a0.length:Int)<=8))
def u154J2(v1:Int)(g1:Int->Option (Bool)):Unit->Option (Bool)
 | _ =>
 gd (in64 (v1+1)/\True) <|
 g1 (v1+1)
def u154L3(a0:List Y148)(v1:Int)(g1:Int->Option (Bool))(g3:Int->Option (Bool)):Int->Option (Bool)
 | v2 =>
 if(decide (v2<v1))=true then
  gd (ix v2 a0.length/\ix v1 a0.length/\True) <|
  if(decide ((a0.getD v2.toNat (dflt y148)).1=(a0.getD v1.toNat (dflt y148)).1))=true then
   some false
  else
   gd (in64 (v2+1)/\True) <|
   g3 (v2+1)
 else
  u154J2 v1 g1 ()
def u154L1(a0:List Y148)(g1:Int->Option (Bool)):Int->Option (Bool)
 | v1 =>
 if(decide (v1 < (a0.length:Int)))=true then
  gd (ix v1 a0.length/\(u183 (a0.getD v1.toNat (dflt y148))).isSome=true/\True) <|
  if(!vl (u183 (a0.getD v1.toNat (dflt y148))))=true then
   some false
  else
   lp (u154L3 a0 v1 g1) 0
 else
  u154J0 a0 ()
def u154(a0:List Y148):Option (Bool) :=
 lp (u154L1 a0) 0
def k154:Ct:=lct 154 [.agg y148.sl] (fun x=>u154 x.1) (fun r:Bool=>B r) (fun _=>())
theorem o154:Ok prog k154:=by
 refine okL [.tmp 2] func154 ntmps154 results154 ?_;intro y ⟨a0,_⟩ r H Q hn hr;have:HT _ _:=⟨tc o183 tn⟩;refine qA (Z [p 1 (R 1)] [(1,Ob.box 39 [L y148 a0])])<|jN r (fun(_:Unit)=>Z [p 1 (R 1)] [(1,Ob.box 39 [L y148 a0])]) (u154J0 a0) (fun _ H=>?_) (fun _ n0 e0 t0=>?_)
 ·refine qA (Z [p 2 (B (decide ((a0.length:Int)<=8)))] [(1,Ob.box 39 [L y148 a0])])<|vTT<|hr H
 refine qA (Z [p 1 (R 1),p 3 (I 0)] [(1,Ob.box 39 [L y148 a0])])<|vB<|lX (fun(v1:Int)=>Z [p 1 (R 1),p 3 (I v1)] [(1,Ob.box 39 [L y148 a0])]) 0 H fun _ g1 b1 e1 t1 v1 H=>vQ<|qA (Z [p 1 (R 1),p 3 (I v1),p 9 (B (decide (v1 < (a0.length:Int))))] [(1,Ob.box 39 [L y148 a0])])<|cD H (fun H=>?_) (fun H=>?_)
 ·refine vK<|fQ<|jN r (fun(_:Unit)=>Z [p 1 (R 1),p 3 (I v1)] [(1,Ob.box 39 [L y148 a0])]) (u154J2 v1 g1) (fun _ H=>?_) (fun _ n2 e2 t2=>?_)
  ·refine zB (Z [p 1 (R 1),p 3 (I (v1+1))] [(1,Ob.box 39 [L y148 a0])]) H fun H=>b1 H
  refine vB<|vQ<|qB (Z [p 1 (R 1),p 3 (I v1),p 18 (B !vl (u183 (a0.getD v1.toNat (dflt y148))))] [(1,Ob.box 39 [L y148 a0])]) H fun H=>cD H (fun H=>?_) (fun H=>?_)
  ·refine qA (Z [p 2 (B false)] [(1,Ob.box 39 [L y148 a0])])<|vTT<|fR<|fDD<|t2<|t1<|fDD<|t0<|hr H
  refine vK<|fQ<|qA (Z [p 1 (R 1),p 3 (I v1),p 4 (I 0)] [(1,Ob.box 39 [L y148 a0])])<|vB<|lX (fun(v2:Int)=>Z [p 1 (R 1),p 3 (I v1),p 4 (I v2)] [(1,Ob.box 39 [L y148 a0])]) 0 H fun _ g3 b3 e3 t3 v2 H=>vQ<|qA (Z [p 1 (R 1),p 3 (I v1),p 4 (I v2),p 21 (B (decide (v2<v1)))] [(1,Ob.box 39 [L y148 a0])])<|cD H (fun H=>?_) (fun H=>?_)
  ·refine vK<|fQ<|vQ<|vB<|qB (Z [p 1 (R 1),p 3 (I v1),p 4 (I v2),p 36 (B (decide ((a0.getD v2.toNat (dflt y148)).1=(a0.getD v1.toNat (dflt y148)).1)))] [(1,Ob.box 39 [L y148 a0])]) H fun H=>cD H (fun H=>?_) (fun H=>?_)
   ·refine qA (Z [p 2 (B false)] [(1,Ob.box 39 [L y148 a0])])<|vTT<|fDD<|fR<|t3<|fDD<|fDD<|t2<|t1<|fDD<|t0<|hr H
   refine vK<|fK<|fQ<|zB (Z [p 1 (R 1),p 3 (I v1),p 4 (I (v2+1))] [(1,Ob.box 39 [L y148 a0])]) H fun H=>b3 H
  exact vE<|fE<|e3<|fX rfl<|fK<|n2 H
 exact vE<|fE<|e1<|fX rfl<|n0 H
def u116J9:Unit->Option (Bool)
 | _ =>
 some true
def u116L10(v20:List Int)(g10:Int->Option (Bool)):Int->Option (Bool)
 | v21 =>
 if(decide (v21 < (v20.length:Int)))=true then
  gd (ix v21 v20.length/\v21.toNat<v20.length/\True) <|
  if(v20.getD v21.toNat 0 != 1)=true then
   some false
  else
   gd (in64 (v21+1)/\True) <|
   g10 (v21+1)
 else
  u116J9 ()
def u116J6:List Int->Option (Bool)
 | v20 =>
 lp (u116L10 v20) 0
def u116J8(v16:Int)(g7:Int×List Int->Option (Bool)):List Int->Option (Bool)
 | v19 =>
 gd (in64 (v16+1)/\True) <|
 g7 (v16+1,v19)
def u116L7(a1:Y43)(g7:Int×List Int->Option (Bool)):Int×List Int->Option (Bool)
 | (v16,v17) =>
 if(decide (v16 < (a1.2.2.length:Int)))=true then
  gd (ix v16 a1.2.2.length/\True) <|
  if((a1.2.2.getD v16.toNat (dflt y190)).2.1==1)=true then
   gd (ix v16 a1.2.2.length/\ix (a1.2.2.getD v16.toNat (dflt y190)).2.2 v17.length/\(a1.2.2.getD v16.toNat (dflt y190)).2.2.toNat<v17.length/\in64 (v17.getD (a1.2.2.getD v16.toNat (dflt y190)).2.2.toNat 0+1)/\ix (a1.2.2.getD v16.toNat (dflt y190)).2.2 v17.length/\(a1.2.2.getD v16.toNat (dflt y190)).2.2.toNat<v17.length/\True)<|lt (v17.set (a1.2.2.getD v16.toNat (dflt y190)).2.2.toNat (v17.getD (a1.2.2.getD v16.toNat (dflt y190)).2.2.toNat 0+1)) fun v18 =>
   u116J8 v16 g7 v18
  else
   u116J8 v16 g7 v17
 else
  u116J6 v17
def u116J4(a1:Y43):List Int->Option (Bool)
 | v13 =>
 lp (u116L7 a1) (0,v13)
def u116L5(a1:Y43)(g5:Int×List Int->Option (Bool)):Int×List Int->Option (Bool)
 | (v9,v10) =>
 if(decide (v9 < (a1.1.length:Int)))=true then
  gd (ix v9 a1.1.length/\True)<|lt (a1.1.getD v9.toNat (dflt y150)) fun v11 =>
  gd (in64 ((v11.2.2.length:Int)-1)/\ix ((v11.2.2.length:Int)-1) v11.2.2.length/\ix (v11.2.2.getD ((v11.2.2.length:Int)-1).toNat 0) v10.length/\Int.toNat (v11.2.2.getD ((v11.2.2.length:Int)-1).toNat 0)<v10.length/\in64 (v10.getD (Int.toNat (v11.2.2.getD ((v11.2.2.length:Int)-1).toNat 0)) 0+1)/\ix (v11.2.2.getD ((v11.2.2.length:Int)-1).toNat 0) v10.length/\Int.toNat (v11.2.2.getD ((v11.2.2.length:Int)-1).toNat 0)<v10.length/\True)<|lt (v10.set (Int.toNat (v11.2.2.getD ((v11.2.2.length:Int)-1).toNat 0)) (v10.getD (Int.toNat (v11.2.2.getD ((v11.2.2.length:Int)-1).toNat 0)) 0+1)) fun v12 =>
  gd (in64 (v9+1)/\True) <|
  g5 (v9+1,v12)
 else
  u116J4 a1 v10
def u116J2(a1:Y43)(v2:List ByteArray):List ByteArray->Option (Bool)
 | v6 =>
 gd ((u156 v2).isSome=true/\((!vl (u156 v2))=false/\True->(u156 v6).isSome=true)/\((!vl (u156 v2)||!vl (u156 v6))=false/\True->(u156 a1.2.1).isSome=true)/\True) <|
 if(!vl (u156 v2)||!vl (u156 v6)||!vl (u156 a1.2.1))=true then
  some false
 else
  gd ((0<=(a1.2.1.length:Int)/\(a1.2.1.length:Int)=(a1.2.1.length:Int)/\(a1.2.1.length:Int).toNat*8<=281474976710656/\(a1.2.1.length:Int)<=9223372036854775807)/\True) <|
  lp (u116L5 a1) ((0,List.replicate (a1.2.1.length:Int).toNat 0))
def u116L3(a1:Y43)(v2:List ByteArray)(g3:Int×List ByteArray->Option (Bool)):Int×List ByteArray->Option (Bool)
 | (v4,v5) =>
 if(decide (v4 < (a1.2.2.length:Int)))=true then
  gd (ix v4 a1.2.2.length/\(v5.length+[(a1.2.2.getD v4.toNat (dflt y190)).1].length<=9223372036854775807/\(v5.length+[(a1.2.2.getD v4.toNat (dflt y190)).1].length)*16<=140737488355328)/\True) <|
  gd (in64 (v4+1)/\True) <|
  g3 ((v4+1,v5++[(a1.2.2.getD v4.toNat (dflt y190)).1]))
 else
  u116J2 a1 v2 v5
def u116J0(a1:Y43):List ByteArray->Option (Bool)
 | v2 =>
 lp (u116L3 a1 v2) (0,[])
def u116L1(a1:Y43)(g1:Int×List ByteArray->Option (Bool)):Int×List ByteArray->Option (Bool)
 | (v0,v1) =>
 if(decide (v0 < (a1.1.length:Int)))=true then
  gd (ix v0 a1.1.length/\(v1.length+[(a1.1.getD v0.toNat (dflt y150)).1].length<=9223372036854775807/\(v1.length+[(a1.1.getD v0.toNat (dflt y150)).1].length)*16<=140737488355328)/\True) <|
  gd (in64 (v0+1)/\True) <|
  g1 ((v0+1,v1++[(a1.1.getD v0.toNat (dflt y150)).1]))
 else
  u116J0 a1 v1
def u116(a0:List Y148)(a1:Y43):Option (Bool) :=
 gd ((u154 a0).isSome=true/\((!vl (u154 a0)||decide (14 < (a1.1.length:Int))||decide (30 < (a1.2.1.length:Int))||decide (8 < (a1.2.2.length:Int)))=false/\True->(u155 a0 a1).isSome=true)/\True) <|
 if(!vl (u154 a0)||decide (14 < (a1.1.length:Int))||decide (30 < (a1.2.1.length:Int))||decide (8 < (a1.2.2.length:Int))||!vl (u155 a0 a1))=true then
  some false
 else
  lp (u116L1 a1) (0,[])
def k116:Ct:=lct 116 [.agg y148.sl,.agg y43] (fun x=>u116 x.1 x.2.1) (fun r:Bool=>B r) (fun _=>())
theorem o116:Ok prog k116:=by
 refine okL [.tmp 4] func116 ntmps116 results116 ?_;intro y ⟨a0,a1,_⟩ r H Q hn hr;have:HT _ _:=⟨tc o156 (tc o155 (tc o154 tn))⟩;refine qA (Z [p 2 (R 2),p 3 (R 3)] [(3,K 43 y43 a1),(2,Ob.box 39 [L y148 a0])])<|vQ<|qB (Z [p 3 (R 3),p 40 (B (!vl (u154 a0)||decide (14 < (a1.1.length:Int))||decide (30 < (a1.2.1.length:Int))||decide (8 < (a1.2.2.length:Int))||!vl (u155 a0 a1)))] [(3,K 43 y43 a1),(2,Ob.box 39 [L y148 a0])]) H fun H=>cD H (fun H=>?_) (fun H=>?_)
 ·refine qA (Z [p 4 (B false)] [(3,K 43 y43 a1),(2,Ob.box 39 [L y148 a0])])<|vTT<|fR<|hr H
 refine vK<|fQ<|qA (Z [p 3 (R 3),p 5 (O 41)] [(41,A 9 Ty.str [] 0),(3,K 43 y43 a1),(2,Ob.box 39 [L y148 a0])])<|jN r (fun(v2:List ByteArray)=>Z [p 3 (R 3),p 5 (O 41)] [(41,A 9 Ty.str v2 0),(3,K 43 y43 a1)]) (u116J0 a1) (fun v2 H=>?_) (fun _ n0 e0 t0=>?_)
 ·refine qA (Z [p 3 (R 3),p 5 (O 41),p 7 (O 58)] [(58,A 9 Ty.str [] 0),(41,A 9 Ty.str v2 0),(3,K 43 y43 a1)])<|jN r (fun(v6:List ByteArray)=>Z [p 3 (R 3),p 5 (O 41),p 7 (O 58)] [(58,A 9 Ty.str v6 0),(41,A 9 Ty.str v2 0),(3,K 43 y43 a1)]) (u116J2 a1 v2) (fun v6 H=>?_) (fun _ n2 e2 t2=>?_)
  ·refine vQ<|qB (Z [p 3 (R 3),p 88 (B (!vl (u156 v2)||!vl (u156 v6)||!vl (u156 a1.2.1)))] [(58,A 9 Ty.str v6 0),(41,A 9 Ty.str v2 0),(3,K 43 y43 a1)]) H fun H=>cD H (fun H=>?_) (fun H=>?_)
   ·refine qA (Z [p 4 (B false)] [(58,A 9 Ty.str v6 0),(41,A 9 Ty.str v2 0),(3,K 43 y43 a1)])<|vTT<|fR<|hr H
   refine vK<|fQ<|qB (Z [p 3 (R 3),p 9 (O 92)] [(92,A 2 i64 (List.replicate (a1.2.1.length:Int).toNat 0) 0),(58,A 9 Ty.str v6 0),(41,A 9 Ty.str v2 0),(3,K 43 y43 a1)]) H fun H=>jN r (fun(v13:List Int)=>Z [p 3 (R 3),p 9 (O 92)] [(92,A 2 i64 v13 0),(3,K 43 y43 a1)]) (u116J4 a1) (fun v13 H=>?_) (fun _ n4 e4 t4=>?_)
   ·refine jN r (fun(v20:List Int)=>Z [p 9 (O 92)] [(92,A 2 i64 v20 0)]) (u116J6) (fun v20 H=>?_) (fun _ n6 e6 t6=>?_)
    ·refine jN r (fun(_:Unit)=>Z [] []) (u116J9) (fun _ H=>?_) (fun _ n9 e9 t9=>?_)
     ·refine qA (Z [p 4 (B true)] [])<|vTT<|hr H
     refine qA (Z [p 9 (O 92),p 13 (I 0)] [(92,A 2 i64 v20 0)])<|vB<|lX (fun(v21:Int)=>Z [p 9 (O 92),p 13 (I v21)] [(92,A 2 i64 v20 0)]) 0 H fun _ g10 b10 e10 t10 v21 H=>vQ<|qA (Z [p 9 (O 92),p 13 (I v21),p 145 (B (decide (v21 < (v20.length:Int))))] [(92,A 2 i64 v20 0)])<|cD H (fun H=>?_) (fun H=>?_)
     ·refine vK<|fQ<|vQ<|vB<|qB (Z [p 9 (O 92),p 13 (I v21),p 152 (B (v20.getD v21.toNat 0 != 1))] [(92,A 2 i64 v20 0)]) H fun H=>cD H (fun H=>?_) (fun H=>?_)
      ·refine qA (Z [p 4 (B false)] [(92,A 2 i64 v20 0)])<|vTT<|fDD<|fR<|t10<|fDD<|t9<|hr H
      refine vK<|fK<|fQ<|zB (Z [p 9 (O 92),p 13 (I (v21+1))] [(92,A 2 i64 v20 0)]) H fun H=>b10 H
     exact vE<|fE<|e10<|fX rfl<|n9 H
    refine qA (Z [p 3 (R 3),p 9 (O 92),p 12 (I 0)] [(92,A 2 i64 v13 0),(3,K 43 y43 a1)])<|vB<|lX (fun((v16,v17):Int×List Int)=>Z [p 3 (R 3),p 9 (O 92),p 12 (I v16)] [(92,A 2 i64 v17 0),(3,K 43 y43 a1)]) (0,v13) H fun _ g7 b7 e7 t7 ⟨v16,v17⟩ H=>vQ<|qA (Z [p 3 (R 3),p 9 (O 92),p 12 (I v16),p 121 (B (decide (v16 < (a1.2.2.length:Int))))] [(92,A 2 i64 v17 0),(3,K 43 y43 a1)])<|cD H (fun H=>?_) (fun H=>?_)
    ·refine vK<|fQ<|jN r (fun(v19:List Int)=>Z [p 3 (R 3),p 9 (O 92),p 12 (I v16)] [(92,A 2 i64 v19 0),(3,K 43 y43 a1)]) (u116J8 v16 g7) (fun v19 H=>?_) (fun _ n8 e8 t8=>?_)
     ·refine zB (Z [p 3 (R 3),p 9 (O 92),p 12 (I (v16+1))] [(92,A 2 i64 v19 0),(3,K 43 y43 a1)]) H fun H=>b7 H
     refine vB<|qB (Z [p 3 (R 3),p 9 (O 92),p 12 (I v16),p 130 (B ((a1.2.2.getD v16.toNat (dflt y190)).2.1==1))] [(92,A 2 i64 v17 0),(3,K 43 y43 a1)]) H fun H=>cD H (fun H=>?_) (fun H=>?_)
     ·refine zD (fun v18=>Z [p 3 (R 3),p 9 (O 92),p 12 (I v16)] [(92,A 2 i64 v18 0),(3,K 43 y43 a1)]) H fun v18 H=>fK<|n8 H
     exact vK<|fK<|n8 H
    exact vE<|fE<|e7<|fX rfl<|n6 H
   refine qA (Z [p 3 (R 3),p 9 (O 92),p 10 (I 0)] [(92,A 2 i64 (List.replicate (a1.2.1.length:Int).toNat 0) 0),(58,A 9 Ty.str v6 0),(41,A 9 Ty.str v2 0),(3,K 43 y43 a1)])<|vB<|lX (fun((v9,v10):Int×List Int)=>Z [p 3 (R 3),p 9 (O 92),p 10 (I v9)] [(92,A 2 i64 v10 0),(3,K 43 y43 a1)]) ((0,List.replicate (a1.2.1.length:Int).toNat 0)) H fun _ g5 b5 e5 t5 ⟨v9,v10⟩ H=>vQ<|qA (Z [p 3 (R 3),p 9 (O 92),p 10 (I v9),p 97 (B (decide (v9 < (a1.1.length:Int))))] [(92,A 2 i64 v10 0),(3,K 43 y43 a1)])<|cD H (fun H=>?_) (fun H=>?_)
   ·refine vK<|fQ<|vQ<|vB<|qD (fun v11=>Z [p 3 (R 3),p 9 (O 92),p 10 (I v9),p 11 (L i64 v11.2.2)] [(92,A 2 i64 v10 0),(3,K 43 y43 a1)]) H fun v11 H=>zD (fun v12=>Z [p 3 (R 3),p 9 (O 92),p 10 (I v9)] [(92,A 2 i64 v12 0),(3,K 43 y43 a1)]) H fun v12 H=>fK<|fQ<|zB (Z [p 3 (R 3),p 9 (O 92),p 10 (I (v9+1))] [(92,A 2 i64 v12 0),(3,K 43 y43 a1)]) H fun H=>b5 H
   exact vE<|fE<|e5<|fX rfl<|n4 H
  refine qA (Z [p 3 (R 3),p 5 (O 41),p 7 (O 58),p 8 (I 0)] [(58,A 9 Ty.str [] 0),(41,A 9 Ty.str v2 0),(3,K 43 y43 a1)])<|vB<|lX (fun((v4,v5):Int×List ByteArray)=>Z [p 3 (R 3),p 5 (O 41),p 7 (O 58),p 8 (I v4)] [(58,A 9 Ty.str v5 0),(41,A 9 Ty.str v2 0),(3,K 43 y43 a1)]) (0,[]) H fun _ g3 b3 e3 t3 ⟨v4,v5⟩ H=>vQ<|qA (Z [p 3 (R 3),p 5 (O 41),p 7 (O 58),p 8 (I v4),p 63 (B (decide (v4 < (a1.2.2.length:Int))))] [(58,A 9 Ty.str v5 0),(41,A 9 Ty.str v2 0),(3,K 43 y43 a1)])<|cD H (fun H=>?_) (fun H=>?_)
  ·refine vK<|fQ<|vQ<|vB<|zB (Z [p 3 (R 3),p 5 (O 41),p 7 (AV.os 58 1),p 8 (I v4)] [(58,A 9 Ty.str (v5++[(a1.2.2.getD v4.toNat (dflt y190)).1]) 1),(73,A 9 Ty.str [(a1.2.2.getD v4.toNat (dflt y190)).1] 0),(41,A 9 Ty.str v2 0),(3,K 43 y43 a1)]) H fun H=>fK<|fQ<|zB (Z [p 3 (R 3),p 5 (O 41),p 7 (AV.os 58 1),p 8 (I (v4+1))] [(58,A 9 Ty.str (v5++[(a1.2.2.getD v4.toNat (dflt y190)).1]) 1),(73,A 9 Ty.str [(a1.2.2.getD v4.toNat (dflt y190)).1] 0),(41,A 9 Ty.str v2 0),(3,K 43 y43 a1)]) H fun H=>b3 H
  exact vE<|fE<|e3<|fX rfl<|n2 H
 refine qA (Z [p 3 (R 3),p 5 (O 41),p 6 (I 0)] [(41,A 9 Ty.str [] 0),(3,K 43 y43 a1),(2,Ob.box 39 [L y148 a0])])<|vB<|lX (fun((v0,v1):Int×List ByteArray)=>Z [p 3 (R 3),p 5 (O 41),p 6 (I v0)] [(41,A 9 Ty.str v1 0),(3,K 43 y43 a1)]) (0,[]) H fun _ g1 b1 e1 t1 ⟨v0,v1⟩ H=>vQ<|qA (Z [p 3 (R 3),p 5 (O 41),p 6 (I v0),p 46 (B (decide (v0 < (a1.1.length:Int))))] [(41,A 9 Ty.str v1 0),(3,K 43 y43 a1)])<|cD H (fun H=>?_) (fun H=>?_)
 ·refine vK<|fQ<|vQ<|vB<|zB (Z [p 3 (R 3),p 5 (AV.os 41 1),p 6 (I v0)] [(41,A 9 Ty.str (v1++[(a1.1.getD v0.toNat (dflt y150)).1]) 1),(56,A 9 Ty.str [(a1.1.getD v0.toNat (dflt y150)).1] 0),(3,K 43 y43 a1)]) H fun H=>fK<|fQ<|zB (Z [p 3 (R 3),p 5 (AV.os 41 1),p 6 (I (v0+1))] [(41,A 9 Ty.str (v1++[(a1.1.getD v0.toNat (dflt y150)).1]) 1),(56,A 9 Ty.str [(a1.1.getD v0.toNat (dflt y150)).1] 0),(3,K 43 y43 a1)]) H fun H=>b1 H
 exact vE<|fE<|e1<|fX rfl<|n0 H
def u66J0:Unit->Option (Bool)
 | _ =>
 some true
def u66L1(a0:Y46)(g1:Int->Option (Bool)):Int->Option (Bool)
 | v1 =>
 if(decide (v1 < (a0.2.2.length:Int)))=true then
  gd (ix v1 a0.2.2.length/\(u106 a0.2.1 v1).isSome=true/\(u117 (a0.2.2.getD v1.toNat (dflt y126)) (↑(vl (u106 a0.2.1 v1)).length:Int)).isSome=true/\True)<|lt (vl (u106 a0.2.1 v1)) fun v2 =>
  if(!vl (u117 (a0.2.2.getD v1.toNat (dflt y126)) (v2.length:Int)))=true then
   some false
  else
   gd (in64 (v1+1)/\True) <|
   g1 (v1+1)
 else
  u66J0 ()
def u66(a0:Y46):Option (Bool) :=
 gd ((u116 a0.1 a0.2.1).isSome=true/\True) <|
 if(!vl (u116 a0.1 a0.2.1)||(a0.2.2.length:Int) != (a0.2.1.2.1.length:Int))=true then
  some false
 else
  lp (u66L1 a0) 0
def k66:Ct:=lct 66 [.agg y46] (fun x=>u66 x.1) (fun r:Bool=>B r) (fun _=>())
theorem o66:Ok prog k66:=by
 refine okL [.tmp 2] func66 ntmps66 results66 ?_;intro y ⟨a0,_⟩ r H Q hn hr;have:HT _ _:=⟨tc o117 (tc o106 (tc o116 tn))⟩;refine qA (Z [p 1 (R 1)] [(1,K 46 y46 a0)])<|vQ<|qB (Z [p 1 (R 1),p 19 (B (!vl (u116 a0.1 a0.2.1)||(a0.2.2.length:Int) != (a0.2.1.2.1.length:Int)))] [(1,K 46 y46 a0)]) H fun H=>cD H (fun H=>?_) (fun H=>?_)
 ·refine qA (Z [p 2 (B false)] [(1,K 46 y46 a0)])<|vTT<|fR<|hr H
 refine vK<|fQ<|jN r (fun(_:Unit)=>Z [] []) (u66J0) (fun _ H=>?_) (fun _ n0 e0 t0=>?_)
 ·refine qA (Z [p 2 (B true)] [])<|vTT<|hr H
 refine qA (Z [p 1 (R 1),p 3 (I 0)] [(1,K 46 y46 a0)])<|vB<|lX (fun(v1:Int)=>Z [p 1 (R 1),p 3 (I v1)] [(1,K 46 y46 a0)]) 0 H fun _ g1 b1 e1 t1 v1 H=>vQ<|qA (Z [p 1 (R 1),p 3 (I v1),p 24 (B (decide (v1 < (a0.2.2.length:Int))))] [(1,K 46 y46 a0)])<|cD H (fun H=>?_) (fun H=>?_)
 ·refine vK<|fQ<|vQ<|vB<|qD (fun v2=>Z [p 1 (R 1),p 3 (I v1),p 38 (B !vl (u117 (a0.2.2.getD v1.toNat (dflt y126)) (v2.length:Int)))] [(35,A 2 i64 v2 0),(1,K 46 y46 a0)]) H fun v2 H=>cD H (fun H=>?_) (fun H=>?_)
  ·refine qA (Z [p 2 (B false)] [(35,A 2 i64 v2 0),(1,K 46 y46 a0)])<|vTT<|fDD<|fR<|t1<|fDD<|t0<|hr H
  refine vK<|fK<|fQ<|zB (Z [p 1 (R 1),p 3 (I (v1+1))] [(35,A 2 i64 v2 0),(1,K 46 y46 a0)]) H fun H=>b1 H
 exact vE<|fE<|e1<|fX rfl<|n0 H
def u13J0:List Int->Option (List Int)
 | v3 =>
 some v3
def u13L1(a0:List Int)(g1:Int×List Int->Option (List Int)):Int×List Int->Option (List Int)
 | (v1,v2) =>
 if(decide (v1 < (a0.length:Int)))=true then
  gd (ix v1 a0.length/\ix v1 v2.length/\v1.toNat<v2.length/\True) <|
  gd (in64 (v1+1)/\True) <|
  g1 ((v1+1,v2.set v1.toNat (a0.getD v1.toNat 0)))
 else
  u13J0 v2
def u13(a0:List Int):Option (List Int) :=
 gd ((0<=(a0.length:Int)/\(a0.length:Int)=(a0.length:Int)/\(a0.length:Int).toNat*8<=281474976710656/\(a0.length:Int)<=9223372036854775807)/\True) <|
 lp (u13L1 a0) ((0,List.replicate (a0.length:Int).toNat 0))
def k13:Ct:=lct 13 [.dat i64.sl] (fun x=>u13 x.1) (fun r:List Int=>AV.ow 2 true i64 r) (fun _=>())
theorem o13:Ok prog k13:=by
 refine okL [.tmp 2] func13 ntmps13 results13 ?_;intro y ⟨a0,_⟩ r H Q hn hr;have:HT _ _:=⟨@tn prog⟩;refine qA (Z [p 0 (L i64 a0)] [])<|qB (Z [p 0 (L i64 a0),p 3 (O 7)] [(7,A 2 i64 (List.replicate (a0.length:Int).toNat 0) 0)]) H fun H=>jN r (fun(v3:List Int)=>Z [p 3 (O 7)] [(7,A 2 i64 v3 0)]) (u13J0) (fun v3 H=>?_) (fun _ n0 e0 t0=>?_)
 ·refine qA (Z [p 2 (O 7)] [(7,A 2 i64 v3 0)])<|vTT<|hr H
 refine qA (Z [p 0 (L i64 a0),p 3 (O 7),p 4 (I 0)] [(7,A 2 i64 (List.replicate (a0.length:Int).toNat 0) 0)])<|vB<|lX (fun((v1,v2):Int×List Int)=>Z [p 0 (L i64 a0),p 3 (O 7),p 4 (I v1)] [(7,A 2 i64 v2 0)]) ((0,List.replicate (a0.length:Int).toNat 0)) H fun _ g1 b1 e1 t1 ⟨v1,v2⟩ H=>vQ<|qA (Z [p 0 (L i64 a0),p 3 (O 7),p 4 (I v1),p 11 (B (decide (v1 < (a0.length:Int))))] [(7,A 2 i64 v2 0)])<|cD H (fun H=>?_) (fun H=>?_)
 ·refine vK<|fQ<|vQ<|vB<|zB (Z [p 0 (L i64 a0),p 3 (O 7),p 4 (I v1)] [(7,A 2 i64 (v2.set v1.toNat (a0.getD v1.toNat 0)) 0)]) H fun H=>fK<|fQ<|zB (Z [p 0 (L i64 a0),p 3 (O 7),p 4 (I (v1+1))] [(7,A 2 i64 (v2.set v1.toNat (a0.getD v1.toNat 0)) 0)]) H fun H=>b1 H
 exact vE<|fE<|e1<|fX rfl<|n0 H
def u84(a0:Y120):Option (Y126) :=
 gd ((u13 a0.1).isSome=true/\True)<|lt (vl (u13 a0.1)) fun v0 =>
 gd ((u13 a0.2.1).isSome=true/\True)<|lt (vl (u13 a0.2.1)) fun v1 =>
 gd ((u13 a0.2.2.1).isSome=true/\True)<|lt (vl (u13 a0.2.2.1)) fun v2 =>
 gd ((u13 a0.2.2.2).isSome=true/\True)<|lt (vl (u13 a0.2.2.2)) fun v3 =>
 some (v0,v1,v2,v3)
def k84:Ct:=lct 84 [.agg y120] (fun x=>u84 x.1) (fun r:Y126=>AV.agg [AV.ow 2 true i64 r.1,AV.ow 2 true i64 r.2.1,AV.ow 2 true i64 r.2.2.1,AV.ow 2 true i64 r.2.2.2]) (fun _=>())
theorem o84:Ok prog k84:=by
 refine okL [.cell 2 126] func84 ntmps84 results84 ?_;intro y ⟨a0,_⟩ r H Q hn hr;have:HT _ _:=⟨tc o13 tn⟩;refine qA (Z [p 1 (R 1),p 2 (R 2)] [(2,Ob.box 126 [nil,nil,nil,nil]),(1,K 120 y120 a0)])<|qA (Z [p 1 (R 1),p 2 (R 2),p 3 (R 3)] [(3,Ob.box 126 [nil,nil,nil,nil]),(2,Ob.box 126 [nil,nil,nil,nil]),(1,K 120 y120 a0)])<|qD (fun v0=>Z [p 1 (R 1),p 2 (R 2),p 3 (R 3)] [(3,Ob.box 126 [AV.os 6 0,nil,nil,nil]),(6,A 2 i64 v0 0),(2,Ob.box 126 [nil,nil,nil,nil]),(1,K 120 y120 a0)]) H fun v0 H=>qD (fun v1=>Z [p 1 (R 1),p 2 (R 2),p 3 (R 3)] [(3,Ob.box 126 [AV.os 6 0,AV.os 10 0,nil,nil]),(10,A 2 i64 v1 0),(6,A 2 i64 v0 0),(2,Ob.box 126 [nil,nil,nil,nil]),(1,K 120 y120 a0)]) H fun v1 H=>qD (fun v2=>Z [p 1 (R 1),p 2 (R 2),p 3 (R 3)] [(3,Ob.box 126 [AV.os 6 0,AV.os 10 0,AV.os 14 0,nil]),(14,A 2 i64 v2 0),(10,A 2 i64 v1 0),(6,A 2 i64 v0 0),(2,Ob.box 126 [nil,nil,nil,nil]),(1,K 120 y120 a0)]) H fun v2 H=>qD (fun v3=>Z [p 2 (R 2),p 3 (R 3)] [(3,Ob.box 126 [AV.os 6 0,AV.os 10 0,AV.os 14 0,AV.os 18 0]),(18,A 2 i64 v3 0),(14,A 2 i64 v2 0),(10,A 2 i64 v1 0),(6,A 2 i64 v0 0),(2,Ob.box 126 [nil,nil,nil,nil]),(1,K 120 y120 a0)]) H fun v3 H=>qA (Z [p 2 (R 2)] [(2,Ob.box 126 [AV.os 6 0,AV.os 10 0,AV.os 14 0,AV.os 18 0]),(3,Ob.box 126 [AV.os 6 0,AV.os 10 0,AV.os 14 0,AV.os 18 0]),(18,A 2 i64 v3 0),(14,A 2 i64 v2 0),(10,A 2 i64 v1 0),(6,A 2 i64 v0 0),(1,K 120 y120 a0)])<|vTT<|hr H
def k84d:Ct:=lct 84 [.agg y120] (fun x=>u84 x.1) (fun r=>frz ((fun r:Y126=>AV.agg [AV.ow 2 true i64 r.1,AV.ow 2 true i64 r.2.1,AV.ow 2 true i64 r.2.2.1,AV.ow 2 true i64 r.2.2.2]) r)) (fun _=>())
theorem o84d:Ok prog k84d:=ok_frz o84
def u41J0:List Y126->Option (List Y126)
 | v5 =>
 some v5
def u41L1(a0:List Y120)(g1:Int×List Y126->Option (List Y126)):Int×List Y126->Option (List Y126)
 | (v2,v3) =>
 if(decide (v2 < (a0.length:Int)))=true then
  gd (ix v2 a0.length/\(u84 (a0.getD v2.toNat (dflt y120))).isSome=true/\ix v2 v3.length/\v2.toNat<v3.length/\True)<|lt (vl (u84 (a0.getD v2.toNat (dflt y120)))) fun v4 =>
  gd (in64 (v2+1)/\True) <|
  g1 (v2+1,v3.set v2.toNat v4)
 else
  u41J0 v3
def u41(a0:List Y120):Option (List Y126) :=
 gd ((0<=(a0.length:Int)/\(a0.length:Int)=(a0.length:Int)/\(a0.length:Int).toNat*96<=281474976710656/\(a0.length:Int)<=9223372036854775807)/\True) <|
 lp (u41L1 a0) ((0,List.replicate (a0.length:Int).toNat ([],[],[],[])))
def k41:Ct:=lct 41 [.dat y120.sl] (fun x=>u41 x.1) (fun r:List Y126=>AV.ow 126 true y126 r) (fun _=>())
theorem o41:Ok prog k41:=by
 refine okL [.tmp 2] func41 ntmps41 results41 ?_;intro y ⟨a0,_⟩ r H Q hn hr;have:HT _ _:=⟨tc o84d tn⟩;refine qA (Z [p 0 (L y120 a0)] [])<|qB (Z [p 0 (L y120 a0),p 3 (O 7)] [(7,A 126 y126 (List.replicate (a0.length:Int).toNat ([],[],[],[])) 0)]) H fun H=>jN r (fun(v5:List Y126)=>Z [p 3 (O 7)] [(7,A 126 y126 v5 0)]) (u41J0) (fun v5 H=>?_) (fun _ n0 e0 t0=>?_)
 ·refine qA (Z [p 2 (O 7)] [(7,A 126 y126 v5 0)])<|vTT<|hr H
 refine qA (Z [p 0 (L y120 a0),p 3 (O 7),p 4 (I 0)] [(7,A 126 y126 (List.replicate (a0.length:Int).toNat ([],[],[],[])) 0)])<|vB<|lX (fun((v2,v3):Int×List Y126)=>Z [p 0 (L y120 a0),p 3 (O 7),p 4 (I v2)] [(7,A 126 y126 v3 0)]) ((0,List.replicate (a0.length:Int).toNat ([],[],[],[]))) H fun _ g1 b1 e1 t1 ⟨v2,v3⟩ H=>vQ<|qA (Z [p 0 (L y120 a0),p 3 (O 7),p 4 (I v2),p 11 (B (decide (v2 < (a0.length:Int))))] [(7,A 126 y126 v3 0)])<|cD H (fun H=>?_) (fun H=>?_)
 ·refine vK<|fQ<|vQ<|vB<|zD (fun v4=>Z [p 0 (L y120 a0),p 3 (O 7),p 4 (I v2)] [(7,A 126 y126 (v3.set v2.toNat v4) 0)]) H fun v4 H=>fK<|fQ<|zB (Z [p 0 (L y120 a0),p 3 (O 7),p 4 (I (v2+1))] [(7,A 126 y126 (v3.set v2.toNat v4) 0)]) H fun H=>b1 H
 exact vE<|fE<|e1<|fX rfl<|n0 H
def u137(a0:Y187):Option (Y190) :=
 some a0
def k137:Ct:=lct 137 [.agg y187] (fun x=>u137 x.1) (fun r:Y190=>AV.agg [S r.1,I r.2.1,I r.2.2]) (fun _=>())
theorem o137:Ok prog k137:=by
 refine okL [.cell 2 190] func137 ntmps137 results137 ?_;intro y ⟨a0,_⟩ r H Q hn hr;have:HT _ _:=⟨@tn prog⟩;refine qA (Z [p 1 (R 1),p 2 (R 2)] [(2,Ob.box 190 [S (ByteArray.mk #[]),I 0,I 0]),(1,K 187 y187 a0)])<|qA (Z [p 1 (R 1),p 2 (R 2),p 3 (R 3)] [(3,Ob.box 190 [S (ByteArray.mk #[]),I 0,I 0]),(2,Ob.box 190 [S (ByteArray.mk #[]),I 0,I 0]),(1,K 187 y187 a0)])<|qA (Z [p 1 (R 1),p 2 (R 2),p 3 (R 3)] [(3,Ob.box 190 [U a0.1,I 0,I 0]),(2,Ob.box 190 [S (ByteArray.mk #[]),I 0,I 0]),(1,K 187 y187 a0)])<|qA (Z [p 1 (R 1),p 2 (R 2),p 3 (R 3)] [(3,Ob.box 190 [U a0.1,J a0.2.1,I 0]),(2,Ob.box 190 [S (ByteArray.mk #[]),I 0,I 0]),(1,K 187 y187 a0)])<|qA (Z [p 2 (R 2),p 3 (R 3)] [(3,K 190 y190 a0),(2,Ob.box 190 [S (ByteArray.mk #[]),I 0,I 0]),(1,K 187 y187 a0)])<|qA (Z [p 2 (R 2)] [(2,K 190 y190 a0),(3,K 190 y190 a0),(1,K 187 y187 a0)])<|vTT<|hr H
def u83J0:List Y190->Option (List Y190)
 | v5 =>
 some v5
def u83L1(a0:List Y187)(g1:Int×List Y190->Option (List Y190)):Int×List Y190->Option (List Y190)
 | (v2,v3) =>
 if(decide (v2 < (a0.length:Int)))=true then
  gd (ix v2 a0.length/\(u137 (a0.getD v2.toNat (dflt y187))).isSome=true/\ix v2 v3.length/\v2.toNat<v3.length/\True)<|lt (vl (u137 (a0.getD v2.toNat (dflt y187)))) fun v4 =>
  gd (in64 (v2+1)/\True) <|
  g1 (v2+1,v3.set v2.toNat v4)
 else
  u83J0 v3
def u83(a0:List Y187):Option (List Y190) :=
 gd ((0<=(a0.length:Int)/\(a0.length:Int)=(a0.length:Int)/\(a0.length:Int).toNat*32<=281474976710656/\(a0.length:Int)<=9223372036854775807)/\True)<|lt (List.replicate (a0.length:Int).toNat (ByteArray.mk #[],(0:Int),(0:Int))) fun v0 =>
 lp (u83L1 a0) (0,v0)
def k83:Ct:=lct 83 [.dat y187.sl] (fun x=>u83 x.1) (fun r:List Y190=>AV.ow 190 true y190 r) (fun _=>())
theorem o83:Ok prog k83:=by
 refine okL [.tmp 2] func83 ntmps83 results83 ?_;intro y ⟨a0,_⟩ r H Q hn hr;have:HT _ _:=⟨tc o137 tn⟩;refine qA (Z [p 0 (L y187 a0)] [])<|qD (fun v0=>Z [p 0 (L y187 a0),p 3 (O 7)] [(7,A 190 y190 v0 0)]) H fun v0 H=>jN r (fun(v5:List Y190)=>Z [p 3 (O 7)] [(7,A 190 y190 v5 0)]) (u83J0) (fun v5 H=>?_) (fun _ n0 e0 t0=>?_)
 ·refine qA (Z [p 2 (O 7)] [(7,A 190 y190 v5 0)])<|vTT<|hr H
 refine qA (Z [p 0 (L y187 a0),p 3 (O 7),p 4 (I 0)] [(7,A 190 y190 v0 0)])<|vB<|lX (fun((v2,v3):Int×List Y190)=>Z [p 0 (L y187 a0),p 3 (O 7),p 4 (I v2)] [(7,A 190 y190 v3 0)]) (0,v0) H fun _ g1 b1 e1 t1 ⟨v2,v3⟩ H=>vQ<|qA (Z [p 0 (L y187 a0),p 3 (O 7),p 4 (I v2),p 11 (B (decide (v2 < (a0.length:Int))))] [(7,A 190 y190 v3 0)])<|cD H (fun H=>?_) (fun H=>?_)
 ·refine vK<|fQ<|vQ<|vB<|zD (fun v4=>Z [p 0 (L y187 a0),p 3 (O 7),p 4 (I v2)] [(7,A 190 y190 (v3.set v2.toNat v4) 0)]) H fun v4 H=>fK<|fQ<|zB (Z [p 0 (L y187 a0),p 3 (O 7),p 4 (I (v2+1))] [(7,A 190 y190 (v3.set v2.toNat v4) 0)]) H fun H=>b1 H
 exact vE<|fE<|e1<|fX rfl<|n0 H
def u82J0:List ByteArray->Option (List ByteArray)
 | v3 =>
 some v3
def u82L1(a0:List ByteArray)(g1:Int×List ByteArray->Option (List ByteArray)):Int×List ByteArray->Option (List ByteArray)
 | (v1,v2) =>
 if(decide (v1 < (a0.length:Int)))=true then
  gd (ix v1 a0.length/\ix v1 v2.length/\v1.toNat<v2.length/\True) <|
  gd (in64 (v1+1)/\True) <|
  g1 ((v1+1,v2.set v1.toNat (a0.getD v1.toNat (dflt Ty.str))))
 else
  u82J0 v2
def u82(a0:List ByteArray):Option (List ByteArray) :=
 gd ((0<=(a0.length:Int)/\(a0.length:Int)=(a0.length:Int)/\(a0.length:Int).toNat*16<=281474976710656/\(a0.length:Int)<=9223372036854775807)/\True) <|
 lp (u82L1 a0) ((0,List.replicate (a0.length:Int).toNat (ByteArray.mk #[])))
def k82:Ct:=lct 82 [.dat Ty.str.sl] (fun x=>u82 x.1) (fun r:List ByteArray=>AV.ow 9 true Ty.str r) (fun _=>())
theorem o82:Ok prog k82:=by
 refine okL [.tmp 2] func82 ntmps82 results82 ?_;intro y ⟨a0,_⟩ r H Q hn hr;have:HT _ _:=⟨@tn prog⟩;refine qA (Z [p 0 (L Ty.str a0)] [])<|qB (Z [p 0 (L Ty.str a0),p 3 (O 7)] [(7,A 9 Ty.str (List.replicate (a0.length:Int).toNat (ByteArray.mk #[])) 0)]) H fun H=>jN r (fun(v3:List ByteArray)=>Z [p 3 (O 7)] [(7,A 9 Ty.str v3 0)]) (u82J0) (fun v3 H=>?_) (fun _ n0 e0 t0=>?_)
 ·refine qA (Z [p 2 (O 7)] [(7,A 9 Ty.str v3 0)])<|vTT<|hr H
 refine qA (Z [p 0 (L Ty.str a0),p 3 (O 7),p 4 (I 0)] [(7,A 9 Ty.str (List.replicate (a0.length:Int).toNat (ByteArray.mk #[])) 0)])<|vB<|lX (fun((v1,v2):Int×List ByteArray)=>Z [p 0 (L Ty.str a0),p 3 (O 7),p 4 (I v1)] [(7,A 9 Ty.str v2 0)]) ((0,List.replicate (a0.length:Int).toNat (ByteArray.mk #[]))) H fun _ g1 b1 e1 t1 ⟨v1,v2⟩ H=>vQ<|qA (Z [p 0 (L Ty.str a0),p 3 (O 7),p 4 (I v1),p 11 (B (decide (v1 < (a0.length:Int))))] [(7,A 9 Ty.str v2 0)])<|cD H (fun H=>?_) (fun H=>?_)
 ·refine vK<|fQ<|vQ<|vB<|zB (Z [p 0 (L Ty.str a0),p 3 (O 7),p 4 (I v1)] [(7,A 9 Ty.str (v2.set v1.toNat (a0.getD v1.toNat (dflt Ty.str))) 0)]) H fun H=>fK<|fQ<|zB (Z [p 0 (L Ty.str a0),p 3 (O 7),p 4 (I (v1+1))] [(7,A 9 Ty.str (v2.set v1.toNat (a0.getD v1.toNat (dflt Ty.str))) 0)]) H fun H=>b1 H
 exact vE<|fE<|e1<|fX rfl<|n0 H
def u136(a0:Y184):Option (Y150) :=
 gd ((u13 a0.2.2).isSome=true/\True)<|lt (vl (u13 a0.2.2)) fun v0 =>
 some (a0.1,a0.2.1,v0)
def k136:Ct:=lct 136 [.agg y184] (fun x=>u136 x.1) (fun r:Y150=>AV.agg [S r.1,I r.2.1,AV.ow 2 true i64 r.2.2]) (fun _=>())
theorem o136:Ok prog k136:=by
 refine okL [.cell 2 150] func136 ntmps136 results136 ?_;intro y ⟨a0,_⟩ r H Q hn hr;have:HT _ _:=⟨tc o13 tn⟩;refine qA (Z [p 1 (R 1),p 2 (R 2)] [(2,Ob.box 150 [S (ByteArray.mk #[]),I 0,nil]),(1,K 184 y184 a0)])<|qA (Z [p 1 (R 1),p 2 (R 2),p 3 (R 3)] [(3,Ob.box 150 [S (ByteArray.mk #[]),I 0,nil]),(2,Ob.box 150 [S (ByteArray.mk #[]),I 0,nil]),(1,K 184 y184 a0)])<|qA (Z [p 1 (R 1),p 2 (R 2),p 3 (R 3)] [(3,Ob.box 150 [U a0.1,I 0,nil]),(2,Ob.box 150 [S (ByteArray.mk #[]),I 0,nil]),(1,K 184 y184 a0)])<|qA (Z [p 1 (R 1),p 2 (R 2),p 3 (R 3)] [(3,Ob.box 150 [U a0.1,J a0.2.1,nil]),(2,Ob.box 150 [S (ByteArray.mk #[]),I 0,nil]),(1,K 184 y184 a0)])<|qD (fun v0=>Z [p 2 (R 2),p 3 (R 3)] [(3,Ob.box 150 [U a0.1,J a0.2.1,AV.os 12 0]),(12,A 2 i64 v0 0),(2,Ob.box 150 [S (ByteArray.mk #[]),I 0,nil]),(1,K 184 y184 a0)]) H fun v0 H=>qA (Z [p 2 (R 2)] [(2,Ob.box 150 [U a0.1,J a0.2.1,AV.os 12 0]),(3,Ob.box 150 [U a0.1,J a0.2.1,AV.os 12 0]),(12,A 2 i64 v0 0),(1,K 184 y184 a0)])<|vTT<|hr H
def k136d:Ct:=lct 136 [.agg y184] (fun x=>u136 x.1) (fun r=>frz ((fun r:Y150=>AV.agg [S r.1,I r.2.1,AV.ow 2 true i64 r.2.2]) r)) (fun _=>())
theorem o136d:Ok prog k136d:=ok_frz o136
def u81J0:List Y150->Option (List Y150)
 | v5 =>
 some v5
def u81L1(a0:List Y184)(g1:Int×List Y150->Option (List Y150)):Int×List Y150->Option (List Y150)
 | (v2,v3) =>
 if(decide (v2 < (a0.length:Int)))=true then
  gd (ix v2 a0.length/\(u136 (a0.getD v2.toNat (dflt y184))).isSome=true/\ix v2 v3.length/\v2.toNat<v3.length/\True)<|lt (vl (u136 (a0.getD v2.toNat (dflt y184)))) fun v4 =>
  gd (in64 (v2+1)/\True) <|
  g1 (v2+1,v3.set v2.toNat v4)
 else
  u81J0 v3
def u81(a0:List Y184):Option (List Y150) :=
 gd ((0<=(a0.length:Int)/\(a0.length:Int)=(a0.length:Int)/\(a0.length:Int).toNat*48<=281474976710656/\(a0.length:Int)<=9223372036854775807)/\True)<|lt (List.replicate (a0.length:Int).toNat (ByteArray.mk #[],(0:Int),[])) fun v0 =>
 lp (u81L1 a0) (0,v0)
def k81:Ct:=lct 81 [.dat y184.sl] (fun x=>u81 x.1) (fun r:List Y150=>AV.ow 150 true y150 r) (fun _=>())
theorem o81:Ok prog k81:=by
 refine okL [.tmp 2] func81 ntmps81 results81 ?_;intro y ⟨a0,_⟩ r H Q hn hr;have:HT _ _:=⟨tc o136d tn⟩;refine qA (Z [p 0 (L y184 a0)] [])<|qD (fun v0=>Z [p 0 (L y184 a0),p 3 (O 7)] [(7,A 150 y150 v0 0)]) H fun v0 H=>jN r (fun(v5:List Y150)=>Z [p 3 (O 7)] [(7,A 150 y150 v5 0)]) (u81J0) (fun v5 H=>?_) (fun _ n0 e0 t0=>?_)
 ·refine qA (Z [p 2 (O 7)] [(7,A 150 y150 v5 0)])<|vTT<|hr H
 refine qA (Z [p 0 (L y184 a0),p 3 (O 7),p 4 (I 0)] [(7,A 150 y150 v0 0)])<|vB<|lX (fun((v2,v3):Int×List Y150)=>Z [p 0 (L y184 a0),p 3 (O 7),p 4 (I v2)] [(7,A 150 y150 v3 0)]) (0,v0) H fun _ g1 b1 e1 t1 ⟨v2,v3⟩ H=>vQ<|qA (Z [p 0 (L y184 a0),p 3 (O 7),p 4 (I v2),p 11 (B (decide (v2 < (a0.length:Int))))] [(7,A 150 y150 v3 0)])<|cD H (fun H=>?_) (fun H=>?_)
 ·refine vK<|fQ<|vQ<|vB<|zD (fun v4=>Z [p 0 (L y184 a0),p 3 (O 7),p 4 (I v2)] [(7,A 150 y150 (v3.set v2.toNat v4) 0)]) H fun v4 H=>fK<|fQ<|zB (Z [p 0 (L y184 a0),p 3 (O 7),p 4 (I (v2+1))] [(7,A 150 y150 (v3.set v2.toNat v4) 0)]) H fun H=>b1 H
 exact vE<|fE<|e1<|fX rfl<|n0 H
end Go.Proofs.YthobjlocnkienaaGreatDoor
end
