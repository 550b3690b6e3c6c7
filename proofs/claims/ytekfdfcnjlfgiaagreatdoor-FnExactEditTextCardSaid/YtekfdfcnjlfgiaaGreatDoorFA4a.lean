/- Functions of this program as plain functions of data, and that they are so: printed by program. -/
import Derived.Test.YtekfdfcnjlfgiaaGreatDoorXD
import Derived.Test.YtekfdfcnjlfgiaaGreatDoorXF
import Derived.Test.YtekfdfcnjlfgiaaGreatDoorTY
import Derived.Test.YtekfdfcnjlfgiaaGreatDoorLB
section
namespace Go.Proofs.YtekfdfcnjlfgiaaGreatDoor
open Go Go.Proofs Go.Proofs.Sv Go.Proofs.Xv Go.Proofs.Xl Go.RowKit
open Tryz
instance:HG Tryz.prog Γ:=⟨tok⟩
abbrev bx(T:TypeId)(c:List AV):Ob:=.box T c
abbrev b8:Ty:=.int .u8
abbrev G0(t:List (Nat×Sl)):List (Nat×Sl):=p 2 (R 2) :: p 3 (R 3) :: t
abbrev G1(y0:Int)(t:List (Nat×Sl)):List (Nat×Sl):=p 1 (R 1) :: p 3 (I y0) :: t
abbrev W2(y0:den y41)(y1:List (den y82)):List (Nat×Ob):=[(3,K 41 y41 y0),(2,bx 37 [L y82 y1])]
abbrev W3(y0:List (den Ty.str))(y1:List (den y78))(y2:den y57)(y3:den y44):List (Nat×Ob):=[(14,A 9 Ty.str y0 0),(13,A 78 y78 y1 0),(3,K 57 y57 y2),(2,K 44 y44 y3)]
abbrev G4(t:List (Nat×Sl)):List (Nat×Sl):=p 1 (R 1) :: p 3 (O 20) :: t
abbrev W5(y0:List (den i64))(y1:den y41):List (Nat×Ob):=[(92,A 2 i64 y0 0),(3,K 41 y41 y1)]
def u70J0:Unit->Option Bool
 | _ =>
 some true
def u70L1(a0:List Int)(a1:List Int)(g1:Int->Option Bool):Int->Option Bool
 | v0 =>
 if(decide (v0 < (a0.length:Int))) then
  gd (ix v0 a0.length/\ix v0 a1.length/\True) <|
  if(a0.getD v0.toNat 0 != a1.getD v0.toNat 0) then
   some false
  else
   gd (in64 (v0+1)/\True) <|
   g1 (v0+1)
 else
  u70J0 ()
def u70(a0:List Int)(a1:List Int):Option Bool :=
 if((a0.length:Int) != (a1.length:Int)) then
  some false
 else
  lp (u70L1 a0 a1) 0
def k70:Ct:=lct 70 [.dat i64.sl,.dat i64.sl] (fun x=>u70 x.1 x.2.1) (fun r:Bool=>B r) (fun _=>())
theorem o70:Ok prog k70:=by
 refine okM [.tmp 4] func70 ?_;intro y ⟨a0,a1,_⟩ r H Q hn hr;refine iA [0,1]<|vQ<|iA [0,1,10]<|cD H (fun H=>iA [4]<|vTT<|fR<|hr H) fun H=>vK<|fQ<|jN r (fun(_:Unit)=>Z [] []) (u70J0) (fun _ H=>?_) (fun _ n0 e0 t0=>?_)
 ·refine iA [4]<|vTT<|hr H
 refine iA [0,1,5]<|vB<|lX (fun(v0:Int)=>Z [p 0 (L i64 a0),p 1 (L i64 a1),p 5 (I v0)] []) 0 H fun _ g1 b1 e1 t1 v0 H=>vQ<|iA [0,1,5,14]<|cD H (fun H=>?_) (fun H=>?_)
 ·refine vK<|fQ<|vQ<|vB<|iB [0,1,5,25] H fun H=>cD H (fun H=>iA [4]<|vTT<|fDD<|fR<|t1<|fDD<|t0<|hr H) fun H=>vK<|fK<|fQ<|jB [0,1,5] H fun H=>b1 H
 exact vE<|fE<|e1<|fX rfl<|n0 H
def u38(a0:Y55)(a1:Y55):Option Bool :=
 gd ((u70 a0.1 a1.1).isSome/\True) <|
 if(!vl (u70 a0.1 a1.1)) then
  some false
 else
  gd ((u70 a0.2.1 a1.2.1).isSome/\True) <|
  if(!vl (u70 a0.2.1 a1.2.1)) then
   some false
  else
   gd ((u70 a0.2.2.1 a1.2.2.1).isSome/\True) <|
   if(!vl (u70 a0.2.2.1 a1.2.2.1)) then
    some false
   else
    gd ((u70 a0.2.2.2 a1.2.2.2).isSome/\True) <|
    if(!vl (u70 a0.2.2.2 a1.2.2.2)) then
     some false
    else
     some true
def k38:Ct:=lct 38 [.agg y55,.agg y55] (fun x=>u38 x.1 x.2.1) (fun r:Bool=>B r) (fun _=>())
theorem o38:Ok prog k38:=by
 refine okM [.tmp 4] func38 ?_;intro y ⟨_,_,_⟩ r H Q hn hr;have:=hz (tc o70 tn);refine iA [2,3]<|vQ<|iB [2,3,10] H fun H=>cD H (fun H=>iA [4]<|vTT<|fR<|hr H) fun H=>vK<|fQ<|vQ<|iB [2,3,16] H fun H=>cD H (fun H=>iA [4]<|vTT<|fR<|hr H) fun H=>vK<|fQ<|vQ<|iB [2,3,22] H fun H=>cD H (fun H=>iA [4]<|vTT<|fR<|hr H) fun H=>vK<|fQ<|vQ<|iB [28] H fun H=>cD H (fun H=>iA [4]<|vTT<|fR<|hr H) fun H=>vK<|fQ<|iA [4]<|vTT<|hr H
def u27J0:Unit->Option Bool
 | _ =>
 some true
def u27L1(a0:List Y55)(a1:List Y55)(g1:Int->Option Bool):Int->Option Bool
 | v0 =>
 if(decide (v0 < (a0.length:Int))) then
  gd (ix v0 a0.length/\ix v0 a1.length/\(u38 (a0.getD v0.toNat (dflt y55)) (a1.getD v0.toNat (dflt y55))).isSome/\True) <|
  if(!vl (u38 (a0.getD v0.toNat (dflt y55)) (a1.getD v0.toNat (dflt y55)))) then
   some false
  else
   gd (in64 (v0+1)/\True) <|
   g1 (v0+1)
 else
  u27J0 ()
def u27(a0:List Y55)(a1:List Y55):Option Bool :=
 if((a0.length:Int) != (a1.length:Int)) then
  some false
 else
  lp (u27L1 a0 a1) 0
def k27:Ct:=lct 27 [.dat y55.sl,.dat y55.sl] (fun x=>u27 x.1 x.2.1) (fun r:Bool=>B r) (fun _=>())
theorem o27:Ok prog k27:=by
 refine okM [.tmp 4] func27 ?_;intro y ⟨a0,a1,_⟩ r H Q hn hr;have:=hz (tc o38 tn);refine iA [0,1]<|vQ<|iA [0,1,10]<|cD H (fun H=>iA [4]<|vTT<|fR<|hr H) fun H=>vK<|fQ<|jN r (fun(_:Unit)=>Z [] []) (u27J0) (fun _ H=>?_) (fun _ n0 e0 t0=>?_)
 ·refine iA [4]<|vTT<|hr H
 refine iA [0,1,5]<|vB<|lX (fun(v0:Int)=>Z [p 0 (L y55 a0),p 1 (L y55 a1),p 5 (I v0)] []) 0 H fun _ g1 b1 e1 t1 v0 H=>vQ<|iA [0,1,5,14]<|cD H (fun H=>?_) (fun H=>?_)
 ·refine vK<|fQ<|vQ<|vB<|iB [0,1,5,26] H fun H=>cD H (fun H=>iA [4]<|vTT<|fDD<|fR<|t1<|fDD<|t0<|hr H) fun H=>vK<|fK<|fQ<|jB [0,1,5] H fun H=>b1 H
 exact vE<|fE<|e1<|fX rfl<|n0 H
def u97(a0:Y114)(a1:Y114):Option Bool :=
 if(!decide (a0.1=a1.1)) then
  some false
 else
  if(a0.2.1 != a1.2.1) then
   some false
  else
   if(a0.2.2 != a1.2.2) then
    some false
   else
    some true
def k97:Ct:=lct 97 [.agg y114,.agg y114] (fun x=>u97 x.1 x.2.1) (fun r:Bool=>B r) (fun _=>())
theorem o97:Ok prog k97:=by
 refine okM [.tmp 4] func97 ?_;intro y ⟨_,_,_⟩ r H Q hn hr;refine iA [2,3]<|vQ<|iA [2,3,9]<|cD H (fun H=>iA [4]<|vTT<|fR<|hr H) fun H=>vK<|fQ<|vQ<|iA [2,3,14]<|cD H (fun H=>iA [4]<|vTT<|fR<|hr H) fun H=>vK<|fQ<|vQ<|iA [19]<|cD H (fun H=>iA [4]<|vTT<|fR<|hr H) fun H=>vK<|fQ<|iA [4]<|vTT<|hr H
def u59J0:Unit->Option Bool
 | _ =>
 some true
def u59L1(a0:List Y114)(a1:List Y114)(g1:Int->Option Bool):Int->Option Bool
 | v0 =>
 if(decide (v0 < (a0.length:Int))) then
  gd (ix v0 a0.length/\ix v0 a1.length/\(u97 (a0.getD v0.toNat (dflt y114)) (a1.getD v0.toNat (dflt y114))).isSome/\True) <|
  if(!vl (u97 (a0.getD v0.toNat (dflt y114)) (a1.getD v0.toNat (dflt y114)))) then
   some false
  else
   gd (in64 (v0+1)/\True) <|
   g1 (v0+1)
 else
  u59J0 ()
def u59(a0:List Y114)(a1:List Y114):Option Bool :=
 if((a0.length:Int) != (a1.length:Int)) then
  some false
 else
  lp (u59L1 a0 a1) 0
def k59:Ct:=lct 59 [.dat y114.sl,.dat y114.sl] (fun x=>u59 x.1 x.2.1) (fun r:Bool=>B r) (fun _=>())
theorem o59:Ok prog k59:=by
 refine okM [.tmp 4] func59 ?_;intro y ⟨a0,a1,_⟩ r H Q hn hr;have:=hz (tc o97 tn);refine iA [0,1]<|vQ<|iA [0,1,10]<|cD H (fun H=>iA [4]<|vTT<|fR<|hr H) fun H=>vK<|fQ<|jN r (fun(_:Unit)=>Z [] []) (u59J0) (fun _ H=>?_) (fun _ n0 e0 t0=>?_)
 ·refine iA [4]<|vTT<|hr H
 refine iA [0,1,5]<|vB<|lX (fun(v0:Int)=>Z [p 0 (L y114 a0),p 1 (L y114 a1),p 5 (I v0)] []) 0 H fun _ g1 b1 e1 t1 v0 H=>vQ<|iA [0,1,5,14]<|cD H (fun H=>?_) (fun H=>?_)
 ·refine vK<|fQ<|vQ<|vB<|iB [0,1,5,26] H fun H=>cD H (fun H=>iA [4]<|vTT<|fDD<|fR<|t1<|fDD<|t0<|hr H) fun H=>vK<|fK<|fQ<|jB [0,1,5] H fun H=>b1 H
 exact vE<|fE<|e1<|fX rfl<|n0 H
def u58J0:Unit->Option Bool
 | _ =>
 some true
def u58L1(a0:List ByteArray)(a1:List ByteArray)(g1:Int->Option Bool):Int->Option Bool
 | v0 =>
 if(decide (v0 < (a0.length:Int))) then
  gd (ix v0 a0.length/\ix v0 a1.length/\True) <|
  if(!decide (a0.getD v0.toNat (dflt Ty.str)=a1.getD v0.toNat (dflt Ty.str))) then
   some false
  else
   gd (in64 (v0+1)/\True) <|
   g1 (v0+1)
 else
  u58J0 ()
def u58(a0:List ByteArray)(a1:List ByteArray):Option Bool :=
 if((a0.length:Int) != (a1.length:Int)) then
  some false
 else
  lp (u58L1 a0 a1) 0
def k58:Ct:=lct 58 [.dat Ty.str.sl,.dat Ty.str.sl] (fun x=>u58 x.1 x.2.1) (fun r:Bool=>B r) (fun _=>())
theorem o58:Ok prog k58:=by
 refine okM [.tmp 4] func58 ?_;intro y ⟨a0,a1,_⟩ r H Q hn hr;refine iA [0,1]<|vQ<|iA [0,1,10]<|cD H (fun H=>iA [4]<|vTT<|fR<|hr H) fun H=>vK<|fQ<|jN r (fun(_:Unit)=>Z [] []) (u58J0) (fun _ H=>?_) (fun _ n0 e0 t0=>?_)
 ·refine iA [4]<|vTT<|hr H
 refine iA [0,1,5]<|vB<|lX (fun(v0:Int)=>Z [p 0 (L Ty.str a0),p 1 (L Ty.str a1),p 5 (I v0)] []) 0 H fun _ g1 b1 e1 t1 v0 H=>vQ<|iA [0,1,5,14]<|cD H (fun H=>?_) (fun H=>?_)
 ·refine vK<|fQ<|vQ<|vB<|iB [0,1,5,25] H fun H=>cD H (fun H=>iA [4]<|vTT<|fDD<|fR<|t1<|fDD<|t0<|hr H) fun H=>vK<|fK<|fQ<|jB [0,1,5] H fun H=>b1 H
 exact vE<|fE<|e1<|fX rfl<|n0 H
def u96(a0:Y112)(a1:Y112):Option Bool :=
 if(!decide (a0.1=a1.1)) then
  some false
 else
  if(a0.2.1 != a1.2.1) then
   some false
  else
   gd ((u70 a0.2.2 a1.2.2).isSome/\True) <|
   if(!vl (u70 a0.2.2 a1.2.2)) then
    some false
   else
    some true
def k96:Ct:=lct 96 [.agg y112,.agg y112] (fun x=>u96 x.1 x.2.1) (fun r:Bool=>B r) (fun _=>())
theorem o96:Ok prog k96:=by
 refine okM [.tmp 4] func96 ?_;intro y ⟨_,_,_⟩ r H Q hn hr;have:=hz (tc o70 tn);refine iA [2,3]<|vQ<|iA [2,3,9]<|cD H (fun H=>iA [4]<|vTT<|fR<|hr H) fun H=>vK<|fQ<|vQ<|iA [2,3,14]<|cD H (fun H=>iA [4]<|vTT<|fR<|hr H) fun H=>vK<|fQ<|vQ<|iB [20] H fun H=>cD H (fun H=>iA [4]<|vTT<|fR<|hr H) fun H=>vK<|fQ<|iA [4]<|vTT<|hr H
def u57J0:Unit->Option Bool
 | _ =>
 some true
def u57L1(a0:List Y112)(a1:List Y112)(g1:Int->Option Bool):Int->Option Bool
 | v0 =>
 if(decide (v0 < (a0.length:Int))) then
  gd (ix v0 a0.length/\ix v0 a1.length/\(u96 (a0.getD v0.toNat (dflt y112)) (a1.getD v0.toNat (dflt y112))).isSome/\True) <|
  if(!vl (u96 (a0.getD v0.toNat (dflt y112)) (a1.getD v0.toNat (dflt y112)))) then
   some false
  else
   gd (in64 (v0+1)/\True) <|
   g1 (v0+1)
 else
  u57J0 ()
def u57(a0:List Y112)(a1:List Y112):Option Bool :=
 if((a0.length:Int) != (a1.length:Int)) then
  some false
 else
  lp (u57L1 a0 a1) 0
def k57:Ct:=lct 57 [.dat y112.sl,.dat y112.sl] (fun x=>u57 x.1 x.2.1) (fun r:Bool=>B r) (fun _=>())
theorem o57:Ok prog k57:=by
 refine okM [.tmp 4] func57 ?_;intro y ⟨a0,a1,_⟩ r H Q hn hr;have:=hz (tc o96 tn);refine iA [0,1]<|vQ<|iA [0,1,10]<|cD H (fun H=>iA [4]<|vTT<|fR<|hr H) fun H=>vK<|fQ<|jN r (fun(_:Unit)=>Z [] []) (u57J0) (fun _ H=>?_) (fun _ n0 e0 t0=>?_)
 ·refine iA [4]<|vTT<|hr H
 refine iA [0,1,5]<|vB<|lX (fun(v0:Int)=>Z [p 0 (L y112 a0),p 1 (L y112 a1),p 5 (I v0)] []) 0 H fun _ g1 b1 e1 t1 v0 H=>vQ<|iA [0,1,5,14]<|cD H (fun H=>?_) (fun H=>?_)
 ·refine vK<|fQ<|vQ<|vB<|iB [0,1,5,26] H fun H=>cD H (fun H=>iA [4]<|vTT<|fDD<|fR<|t1<|fDD<|t0<|hr H) fun H=>vK<|fK<|fQ<|jB [0,1,5] H fun H=>b1 H
 exact vE<|fE<|e1<|fX rfl<|n0 H
def u26(a0:Y41)(a1:Y41):Option Bool :=
 gd ((u57 a0.1 a1.1).isSome/\True) <|
 if(!vl (u57 a0.1 a1.1)) then
  some false
 else
  gd ((u58 a0.2.1 a1.2.1).isSome/\True) <|
  if(!vl (u58 a0.2.1 a1.2.1)) then
   some false
  else
   gd ((u59 a0.2.2 a1.2.2).isSome/\True) <|
   if(!vl (u59 a0.2.2 a1.2.2)) then
    some false
   else
    some true
def k26:Ct:=lct 26 [.agg y41,.agg y41] (fun x=>u26 x.1 x.2.1) (fun r:Bool=>B r) (fun _=>())
theorem o26:Ok prog k26:=by
 refine okM [.tmp 4] func26 ?_;intro y ⟨_,_,_⟩ r H Q hn hr;have:=hz (tc o59 (tc o58 (tc o57 tn)));refine iA [2,3]<|vQ<|iB [2,3,10] H fun H=>cD H (fun H=>iA [4]<|vTT<|fR<|hr H) fun H=>vK<|fQ<|vQ<|iB [2,3,16] H fun H=>cD H (fun H=>iA [4]<|vTT<|fR<|hr H) fun H=>vK<|fQ<|vQ<|iB [22] H fun H=>cD H (fun H=>iA [4]<|vTT<|fR<|hr H) fun H=>vK<|fQ<|iA [4]<|vTT<|hr H
def u200(a0:Y247)(a1:Y247):Option Bool :=
 gd ((u70 a0.1 a1.1).isSome/\True) <|
 if(!vl (u70 a0.1 a1.1)) then
  some false
 else
  gd ((u70 a0.2.1 a1.2.1).isSome/\True) <|
  if(!vl (u70 a0.2.1 a1.2.1)) then
   some false
  else
   gd ((u70 a0.2.2 a1.2.2).isSome/\True) <|
   if(!vl (u70 a0.2.2 a1.2.2)) then
    some false
   else
    some true
def k200:Ct:=lct 200 [.agg y247,.agg y247] (fun x=>u200 x.1 x.2.1) (fun r:Bool=>B r) (fun _=>())
theorem o200:Ok prog k200:=by
 refine okM [.tmp 4] func200 ?_;intro y ⟨_,_,_⟩ r H Q hn hr;have:=hz (tc o70 tn);refine iA [2,3]<|vQ<|iB [2,3,10] H fun H=>cD H (fun H=>iA [4]<|vTT<|fR<|hr H) fun H=>vK<|fQ<|vQ<|iB [2,3,16] H fun H=>cD H (fun H=>iA [4]<|vTT<|fR<|hr H) fun H=>vK<|fQ<|vQ<|iB [22] H fun H=>cD H (fun H=>iA [4]<|vTT<|fR<|hr H) fun H=>vK<|fQ<|iA [4]<|vTT<|hr H
def u176J0:Unit->Option Bool
 | _ =>
 some true
def u176L1(a0:List Y247)(a1:List Y247)(g1:Int->Option Bool):Int->Option Bool
 | v0 =>
 if(decide (v0 < (a0.length:Int))) then
  gd (ix v0 a0.length/\ix v0 a1.length/\(u200 (a0.getD v0.toNat (dflt y247)) (a1.getD v0.toNat (dflt y247))).isSome/\True) <|
  if(!vl (u200 (a0.getD v0.toNat (dflt y247)) (a1.getD v0.toNat (dflt y247)))) then
   some false
  else
   gd (in64 (v0+1)/\True) <|
   g1 (v0+1)
 else
  u176J0 ()
def u176(a0:List Y247)(a1:List Y247):Option Bool :=
 if((a0.length:Int) != (a1.length:Int)) then
  some false
 else
  lp (u176L1 a0 a1) 0
def k176:Ct:=lct 176 [.dat y247.sl,.dat y247.sl] (fun x=>u176 x.1 x.2.1) (fun r:Bool=>B r) (fun _=>())
theorem o176:Ok prog k176:=by
 refine okM [.tmp 4] func176 ?_;intro y ⟨a0,a1,_⟩ r H Q hn hr;have:=hz (tc o200 tn);refine iA [0,1]<|vQ<|iA [0,1,10]<|cD H (fun H=>iA [4]<|vTT<|fR<|hr H) fun H=>vK<|fQ<|jN r (fun(_:Unit)=>Z [] []) (u176J0) (fun _ H=>?_) (fun _ n0 e0 t0=>?_)
 ·refine iA [4]<|vTT<|hr H
 refine iA [0,1,5]<|vB<|lX (fun(v0:Int)=>Z [p 0 (L y247 a0),p 1 (L y247 a1),p 5 (I v0)] []) 0 H fun _ g1 b1 e1 t1 v0 H=>vQ<|iA [0,1,5,14]<|cD H (fun H=>?_) (fun H=>?_)
 ·refine vK<|fQ<|vQ<|vB<|iB [0,1,5,26] H fun H=>cD H (fun H=>iA [4]<|vTT<|fDD<|fR<|t1<|fDD<|t0<|hr H) fun H=>vK<|fK<|fQ<|jB [0,1,5] H fun H=>b1 H
 exact vE<|fE<|e1<|fX rfl<|n0 H
def u152(a0:Y191)(a1:Y191):Option Bool :=
 if(a0.1 != a1.1) then
  some false
 else
  if(a0.2.1 != a1.2.1) then
   some false
  else
   if(a0.2.2.1 != a1.2.2.1) then
    some false
   else
    if(a0.2.2.2.1 != a1.2.2.2.1) then
     some false
    else
     gd ((u176 a0.2.2.2.2.1 a1.2.2.2.2.1).isSome/\True) <|
     if(!vl (u176 a0.2.2.2.2.1 a1.2.2.2.2.1)) then
      some false
     else
      gd ((u176 a0.2.2.2.2.2 a1.2.2.2.2.2).isSome/\True) <|
      if(!vl (u176 a0.2.2.2.2.2 a1.2.2.2.2.2)) then
       some false
      else
       some true
def k152:Ct:=lct 152 [.agg y191,.agg y191] (fun x=>u152 x.1 x.2.1) (fun r:Bool=>B r) (fun _=>())
theorem o152:Ok prog k152:=by
 refine okM [.tmp 4] func152 ?_;intro y ⟨_,_,_⟩ r H Q hn hr;have:=hz (tc o176 tn);refine iA [2,3]<|vQ<|iA [2,3,9]<|cD H (fun H=>iA [4]<|vTT<|fR<|hr H) fun H=>vK<|fQ<|vQ<|iA [2,3,14]<|cD H (fun H=>iA [4]<|vTT<|fR<|hr H) fun H=>vK<|fQ<|vQ<|iA [2,3,19]<|cD H (fun H=>iA [4]<|vTT<|fR<|hr H) fun H=>vK<|fQ<|vQ<|iA [2,3,24]<|cD H (fun H=>iA [4]<|vTT<|fR<|hr H) fun H=>vK<|fQ<|vQ<|iB [2,3,30] H fun H=>cD H (fun H=>iA [4]<|vTT<|fR<|hr H) fun H=>vK<|fQ<|vQ<|iB [36] H fun H=>cD H (fun H=>iA [4]<|vTT<|fR<|hr H) fun H=>vK<|fQ<|iA [4]<|vTT<|hr H
def u124J0:Unit->Option Bool
 | _ =>
 some true
def u124L1(a0:List Y191)(a1:List Y191)(g1:Int->Option Bool):Int->Option Bool
 | v0 =>
 if(decide (v0 < (a0.length:Int))) then
  gd (ix v0 a0.length/\ix v0 a1.length/\(u152 (a0.getD v0.toNat (dflt y191)) (a1.getD v0.toNat (dflt y191))).isSome/\True) <|
  if(!vl (u152 (a0.getD v0.toNat (dflt y191)) (a1.getD v0.toNat (dflt y191)))) then
   some false
  else
   gd (in64 (v0+1)/\True) <|
   g1 (v0+1)
 else
  u124J0 ()
def u124(a0:List Y191)(a1:List Y191):Option Bool :=
 if((a0.length:Int) != (a1.length:Int)) then
  some false
 else
  lp (u124L1 a0 a1) 0
def k124:Ct:=lct 124 [.dat y191.sl,.dat y191.sl] (fun x=>u124 x.1 x.2.1) (fun r:Bool=>B r) (fun _=>())
theorem o124:Ok prog k124:=by
 refine okM [.tmp 4] func124 ?_;intro y ⟨a0,a1,_⟩ r H Q hn hr;have:=hz (tc o152 tn);refine iA [0,1]<|vQ<|iA [0,1,10]<|cD H (fun H=>iA [4]<|vTT<|fR<|hr H) fun H=>vK<|fQ<|jN r (fun(_:Unit)=>Z [] []) (u124J0) (fun _ H=>?_) (fun _ n0 e0 t0=>?_)
 ·refine iA [4]<|vTT<|hr H
 refine iA [0,1,5]<|vB<|lX (fun(v0:Int)=>Z [p 0 (L y191 a0),p 1 (L y191 a1),p 5 (I v0)] []) 0 H fun _ g1 b1 e1 t1 v0 H=>vQ<|iA [0,1,5,14]<|cD H (fun H=>?_) (fun H=>?_)
 ·refine vK<|fQ<|vQ<|vB<|iB [0,1,5,26] H fun H=>cD H (fun H=>iA [4]<|vTT<|fDD<|fR<|t1<|fDD<|t0<|hr H) fun H=>vK<|fK<|fQ<|jB [0,1,5] H fun H=>b1 H
 exact vE<|fE<|e1<|fX rfl<|n0 H
def u151(a0:Y116)(a1:Y116):Option Bool :=
 if(!decide (a0.1=a1.1)) then
  some false
 else
  if(a0.2.1 != a1.2.1) then
   some false
  else
   if(a0.2.2.1 != a1.2.2.1) then
    some false
   else
    if(!a0.2.2.2==a1.2.2.2) then
     some false
    else
     some true
def k151:Ct:=lct 151 [.agg y116,.agg y116] (fun x=>u151 x.1 x.2.1) (fun r:Bool=>B r) (fun _=>())
theorem o151:Ok prog k151:=by
 refine okM [.tmp 4] func151 ?_;intro y ⟨_,_,_⟩ r H Q hn hr;refine iA [2,3]<|vQ<|iA [2,3,9]<|cD H (fun H=>iA [4]<|vTT<|fR<|hr H) fun H=>vK<|fQ<|vQ<|iA [2,3,14]<|cD H (fun H=>iA [4]<|vTT<|fR<|hr H) fun H=>vK<|fQ<|vQ<|iA [2,3,19]<|cD H (fun H=>iA [4]<|vTT<|fR<|hr H) fun H=>vK<|fQ<|vQ<|iA [24]<|cD H (fun H=>iA [4]<|vTT<|fR<|hr H) fun H=>vK<|fQ<|iA [4]<|vTT<|hr H
def u123J0:Unit->Option Bool
 | _ =>
 some true
def u123L1(a0:List Y116)(a1:List Y116)(g1:Int->Option Bool):Int->Option Bool
 | v0 =>
 if(decide (v0 < (a0.length:Int))) then
  gd (ix v0 a0.length/\ix v0 a1.length/\(u151 (a0.getD v0.toNat (dflt y116)) (a1.getD v0.toNat (dflt y116))).isSome/\True) <|
  if(!vl (u151 (a0.getD v0.toNat (dflt y116)) (a1.getD v0.toNat (dflt y116)))) then
   some false
  else
   gd (in64 (v0+1)/\True) <|
   g1 (v0+1)
 else
  u123J0 ()
def u123(a0:List Y116)(a1:List Y116):Option Bool :=
 if((a0.length:Int) != (a1.length:Int)) then
  some false
 else
  lp (u123L1 a0 a1) 0
def k123:Ct:=lct 123 [.dat y116.sl,.dat y116.sl] (fun x=>u123 x.1 x.2.1) (fun r:Bool=>B r) (fun _=>())
theorem o123:Ok prog k123:=by
 refine okM [.tmp 4] func123 ?_;intro y ⟨a0,a1,_⟩ r H Q hn hr;have:=hz (tc o151 tn);refine iA [0,1]<|vQ<|iA [0,1,10]<|cD H (fun H=>iA [4]<|vTT<|fR<|hr H) fun H=>vK<|fQ<|jN r (fun(_:Unit)=>Z [] []) (u123J0) (fun _ H=>?_) (fun _ n0 e0 t0=>?_)
 ·refine iA [4]<|vTT<|hr H
 refine iA [0,1,5]<|vB<|lX (fun(v0:Int)=>Z [p 0 (L y116 a0),p 1 (L y116 a1),p 5 (I v0)] []) 0 H fun _ g1 b1 e1 t1 v0 H=>vQ<|iA [0,1,5,14]<|cD H (fun H=>?_) (fun H=>?_)
 ·refine vK<|fQ<|vQ<|vB<|iB [0,1,5,26] H fun H=>cD H (fun H=>iA [4]<|vTT<|fDD<|fR<|t1<|fDD<|t0<|hr H) fun H=>vK<|fK<|fQ<|jB [0,1,5] H fun H=>b1 H
 exact vE<|fE<|e1<|fX rfl<|n0 H
def u95(a0:Y82)(a1:Y82):Option Bool :=
 if(!decide (a0.1=a1.1)) then
  some false
 else
  if(a0.2.1 != a1.2.1) then
   some false
  else
   gd ((u123 a0.2.2.1 a1.2.2.1).isSome/\True) <|
   if(!vl (u123 a0.2.2.1 a1.2.2.1)) then
    some false
   else
    gd ((u124 a0.2.2.2.1 a1.2.2.2.1).isSome/\True) <|
    if(!vl (u124 a0.2.2.2.1 a1.2.2.2.1)) then
     some false
    else
     gd ((u70 a0.2.2.2.2.1 a1.2.2.2.2.1).isSome/\True) <|
     if(!vl (u70 a0.2.2.2.2.1 a1.2.2.2.2.1)) then
      some false
     else
      if(a0.2.2.2.2.2.1 != a1.2.2.2.2.2.1) then
       some false
      else
       if(a0.2.2.2.2.2.2 != a1.2.2.2.2.2.2) then
        some false
       else
        some true
def k95:Ct:=lct 95 [.agg y82,.agg y82] (fun x=>u95 x.1 x.2.1) (fun r:Bool=>B r) (fun _=>())
theorem o95:Ok prog k95:=by
 refine okM [.tmp 4] func95 ?_;intro y ⟨_,_,_⟩ r H Q hn hr;have:=hz (tc o70 (tc o124 (tc o123 tn)));refine iA [2,3]<|vQ<|iA [2,3,9]<|cD H (fun H=>iA [4]<|vTT<|fR<|hr H) fun H=>vK<|fQ<|vQ<|iA [2,3,14]<|cD H (fun H=>iA [4]<|vTT<|fR<|hr H) fun H=>vK<|fQ<|vQ<|iB [2,3,20] H fun H=>cD H (fun H=>iA [4]<|vTT<|fR<|hr H) fun H=>vK<|fQ<|vQ<|iB [2,3,26] H fun H=>cD H (fun H=>iA [4]<|vTT<|fR<|hr H) fun H=>vK<|fQ<|vQ<|iB [2,3,32] H fun H=>cD H (fun H=>iA [4]<|vTT<|fR<|hr H) fun H=>vK<|fQ<|vQ<|iA [2,3,37]<|cD H (fun H=>iA [4]<|vTT<|fR<|hr H) fun H=>vK<|fQ<|vQ<|iA [42]<|cD H (fun H=>iA [4]<|vTT<|fR<|hr H) fun H=>vK<|fQ<|iA [4]<|vTT<|hr H
def u56J0:Unit->Option Bool
 | _ =>
 some true
def u56L1(a0:List Y82)(a1:List Y82)(g1:Int->Option Bool):Int->Option Bool
 | v0 =>
 if(decide (v0 < (a0.length:Int))) then
  gd (ix v0 a0.length/\ix v0 a1.length/\(u95 (a0.getD v0.toNat (dflt y82)) (a1.getD v0.toNat (dflt y82))).isSome/\True) <|
  if(!vl (u95 (a0.getD v0.toNat (dflt y82)) (a1.getD v0.toNat (dflt y82)))) then
   some false
  else
   gd (in64 (v0+1)/\True) <|
   g1 (v0+1)
 else
  u56J0 ()
def u56(a0:List Y82)(a1:List Y82):Option Bool :=
 if((a0.length:Int) != (a1.length:Int)) then
  some false
 else
  lp (u56L1 a0 a1) 0
def k56:Ct:=lct 56 [.dat y82.sl,.dat y82.sl] (fun x=>u56 x.1 x.2.1) (fun r:Bool=>B r) (fun _=>())
theorem o56:Ok prog k56:=by
 refine okM [.tmp 4] func56 ?_;intro y ⟨a0,a1,_⟩ r H Q hn hr;have:=hz (tc o95 tn);refine iA [0,1]<|vQ<|iA [0,1,10]<|cD H (fun H=>iA [4]<|vTT<|fR<|hr H) fun H=>vK<|fQ<|jN r (fun(_:Unit)=>Z [] []) (u56J0) (fun _ H=>?_) (fun _ n0 e0 t0=>?_)
 ·refine iA [4]<|vTT<|hr H
 refine iA [0,1,5]<|vB<|lX (fun(v0:Int)=>Z [p 0 (L y82 a0),p 1 (L y82 a1),p 5 (I v0)] []) 0 H fun _ g1 b1 e1 t1 v0 H=>vQ<|iA [0,1,5,14]<|cD H (fun H=>?_) (fun H=>?_)
 ·refine vK<|fQ<|vQ<|vB<|iB [0,1,5,26] H fun H=>cD H (fun H=>iA [4]<|vTT<|fDD<|fR<|t1<|fDD<|t0<|hr H) fun H=>vK<|fK<|fQ<|jB [0,1,5] H fun H=>b1 H
 exact vE<|fE<|e1<|fX rfl<|n0 H
def u25(a0:List Y82)(a1:List Y82):Option Bool :=
 gd ((u56 a0 a1).isSome/\True) <|
 if(!vl (u56 a0 a1)) then
  some false
 else
  some true
def k25:Ct:=lct 25 [.agg y82.sl,.agg y82.sl] (fun x=>u25 x.1 x.2.1) (fun r:Bool=>B r) (fun _=>())
theorem o25:Ok prog k25:=by
 refine okM [.tmp 4] func25 ?_;intro y ⟨_,_,_⟩ r H Q hn hr;have:=hz (tc o56 tn);refine iA [2,3]<|vQ<|iB [10] H fun H=>cD H (fun H=>iA [4]<|vTT<|fR<|hr H) fun H=>vK<|fQ<|iA [4]<|vTT<|hr H
def u9(a0:Y44)(a1:Y44):Option Bool :=
 gd ((u25 a0.1 a1.1).isSome/\True) <|
 if(!vl (u25 a0.1 a1.1)) then
  some false
 else
  gd ((u26 a0.2.1 a1.2.1).isSome/\True) <|
  if(!vl (u26 a0.2.1 a1.2.1)) then
   some false
  else
   gd ((u27 a0.2.2 a1.2.2).isSome/\True) <|
   if(!vl (u27 a0.2.2 a1.2.2)) then
    some false
   else
    some true
def k9:Ct:=lct 9 [.agg y44,.agg y44] (fun x=>u9 x.1 x.2.1) (fun r:Bool=>B r) (fun _=>())
theorem o9:Ok prog k9:=by
 refine okM [.tmp 4] func9 ?_;intro y ⟨_,_,_⟩ r H Q hn hr;have:=hz (tc o27 (tc o26 (tc o25 tn)));refine iA [2,3]<|vQ<|iB [2,3,10] H fun H=>cD H (fun H=>iA [4]<|vTT<|fR<|hr H) fun H=>vK<|fQ<|vQ<|iB [2,3,16] H fun H=>cD H (fun H=>iA [4]<|vTT<|fR<|hr H) fun H=>vK<|fQ<|vQ<|iB [22] H fun H=>cD H (fun H=>iA [4]<|vTT<|fR<|hr H) fun H=>vK<|fQ<|iA [4]<|vTT<|hr H
def u65J0:List Int->Option (List Int)
 | v3 =>
 some v3
def u65L1(a0:List Int)(g1:Int×List Int->Option (List Int)):Int×List Int->Option (List Int)
 | (v1,v2) =>
 if(decide (v1 < (a0.length:Int))) then
  gd (ix v1 a0.length/\ix v1 v2.length/\v1.toNat<v2.length/\True) <|
  gd (in64 (v1+1)/\True) <|
  g1 ((v1+1,v2.set v1.toNat (a0.getD v1.toNat 0)))
 else
  u65J0 v2
def u65(a0:List Int):Option (List Int) :=
 gd ((0<=(a0.length:Int)/\(a0.length:Int)=(a0.length:Int)/\(a0.length:Int).toNat*8<=281474976710656/\(a0.length:Int)<=9223372036854775807)/\True) <|
 lp (u65L1 a0) ((0,List.replicate (a0.length:Int).toNat 0))
def k65:Ct:=lct 65 [.dat i64.sl] (fun x=>u65 x.1) (fun r:List Int=>AV.ow 2 true i64 r) (fun _=>())
theorem o65:Ok prog k65:=by
 refine okM [.tmp 2] func65 ?_;intro y ⟨a0,_⟩ r H Q hn hr;refine iA [0]<|iB [0,3] H fun H=>jN r (fun(v3:List Int)=>Z [p 3 (O 7)] [(7,A 2 i64 v3 0)]) (u65J0) (fun v3 H=>?_) (fun _ n0 e0 t0=>?_)
 ·refine iA [2]<|vTT<|hr H
 refine iA [0,3,4]<|vB<|lX (fun((v1,v2):Int×List Int)=>Z [p 0 (L i64 a0),p 3 (O 7),p 4 (I v1)] [(7,A 2 i64 v2 0)]) ((0,List.replicate (a0.length:Int).toNat 0)) H fun _ g1 b1 e1 t1 ⟨v1,v2⟩ H=>vQ<|iA [0,3,4,11]<|cD H (fun H=>vK<|fQ<|vQ<|vB<|jB [0,3,4] H fun H=>fK<|fQ<|jB [0,3,4] H fun H=>b1 H) fun H=>vE<|fE<|e1<|fX rfl<|n0 H
def u35(a0:Y50):Option Y55 :=
 gd ((u65 a0.1).isSome/\True)<|lt (vl (u65 a0.1)) fun v0 =>
 gd ((u65 a0.2.1).isSome/\True)<|lt (vl (u65 a0.2.1)) fun v1 =>
 gd ((u65 a0.2.2.1).isSome/\True)<|lt (vl (u65 a0.2.2.1)) fun v2 =>
 gd ((u65 a0.2.2.2).isSome/\True)<|lt (vl (u65 a0.2.2.2)) fun v3 =>
 some (v0,v1,v2,v3)
def k35:Ct:=lct 35 [.agg y50] (fun x=>u35 x.1) (fun r:Y55=>AV.agg [AV.ow 2 true i64 r.1,AV.ow 2 true i64 r.2.1,AV.ow 2 true i64 r.2.2.1,AV.ow 2 true i64 r.2.2.2]) (fun _=>())
theorem o35:Ok prog k35:=by
 refine okM [.cell 2 55] func35 ?_;intro y ⟨_,_⟩ r H Q hn hr;have:=hz (tc o65 tn);refine iA [1,2]<|iA [1,2,3]<|iD o65 [1,2,3] H fun _ H=>iD o65 [1,2,3] H fun _ H=>iD o65 [1,2,3] H fun _ H=>iD o65 [2,3] H fun _ H=>iA [2]<|vTT<|hr H
def k35d:Ct:=lct 35 [.agg y50] (fun x=>u35 x.1) (fun r=>frz ((fun r:Y55=>AV.agg [AV.ow 2 true i64 r.1,AV.ow 2 true i64 r.2.1,AV.ow 2 true i64 r.2.2.1,AV.ow 2 true i64 r.2.2.2]) r)) (fun _=>())
theorem o35d:Ok prog k35d:=ok_frz o35
def u22J0:List Y55->Option (List Y55)
 | v5 =>
 some v5
def u22L1(a0:List Y50)(g1:Int×List Y55->Option (List Y55)):Int×List Y55->Option (List Y55)
 | (v2,v3) =>
 if(decide (v2 < (a0.length:Int))) then
  gd (ix v2 a0.length/\(u35 (a0.getD v2.toNat (dflt y50))).isSome/\ix v2 v3.length/\v2.toNat<v3.length/\True)<|lt (vl (u35 (a0.getD v2.toNat (dflt y50)))) fun v4 =>
  gd (in64 (v2+1)/\True) <|
  g1 (v2+1,v3.set v2.toNat v4)
 else
  u22J0 v3
def u22(a0:List Y50):Option (List Y55) :=
 gd ((0<=(a0.length:Int)/\(a0.length:Int)=(a0.length:Int)/\(a0.length:Int).toNat*96<=281474976710656/\(a0.length:Int)<=9223372036854775807)/\True) <|
 lp (u22L1 a0) ((0,List.replicate (a0.length:Int).toNat ([],[],[],[])))
def k22:Ct:=lct 22 [.dat y50.sl] (fun x=>u22 x.1) (fun r:List Y55=>AV.ow 55 true y55 r) (fun _=>())
theorem o22:Ok prog k22:=by
 refine okM [.tmp 2] func22 ?_;intro y ⟨a0,_⟩ r H Q hn hr;have:=hz (tc o35d tn);refine iA [0]<|iB [0,3] H fun H=>jN r (fun(v5:List Y55)=>Z [p 3 (O 7)] [(7,A 55 y55 v5 0)]) (u22J0) (fun v5 H=>?_) (fun _ n0 e0 t0=>?_)
 ·refine iA [2]<|vTT<|hr H
 refine iA [0,3,4]<|vB<|lX (fun((v2,v3):Int×List Y55)=>Z [p 0 (L y50 a0),p 3 (O 7),p 4 (I v2)] [(7,A 55 y55 v3 0)]) ((0,List.replicate (a0.length:Int).toNat ([],[],[],[]))) H fun _ g1 b1 e1 t1 ⟨v2,v3⟩ H=>vQ<|iA [0,3,4,11]<|cD H (fun H=>vK<|fQ<|vQ<|vB<|zD (fun v4=>Z [p 0 (L y50 a0),p 3 (O 7),p 4 (I v2)] [(7,A 55 y55 (v3.set v2.toNat v4) 0)]) H fun v4 H=>fK<|fQ<|jB [0,3,4] H fun H=>b1 H) fun H=>vE<|fE<|e1<|fX rfl<|n0 H
def u81(a0:Y132):Option Y114 :=
 some a0
def k81:Ct:=lct 81 [.agg y132] (fun x=>u81 x.1) (fun r:Y114=>AV.agg [S r.1,I r.2.1,I r.2.2]) (fun _=>())
theorem o81:Ok prog k81:=by
 refine okM [.cell 2 114] func81 ?_;intro y ⟨_,_⟩ r H Q hn hr;refine iA [1,2]<|iA [1,2,3]<|iA [1,2,3]<|iA [1,2,3]<|iA [2,3]<|iA [2]<|vTT<|hr H
def u50J0:List Y114->Option (List Y114)
 | v5 =>
 some v5
def u50L1(a0:List Y132)(g1:Int×List Y114->Option (List Y114)):Int×List Y114->Option (List Y114)
 | (v2,v3) =>
 if(decide (v2 < (a0.length:Int))) then
  gd (ix v2 a0.length/\(u81 (a0.getD v2.toNat (dflt y132))).isSome/\ix v2 v3.length/\v2.toNat<v3.length/\True)<|lt (vl (u81 (a0.getD v2.toNat (dflt y132)))) fun v4 =>
  gd (in64 (v2+1)/\True) <|
  g1 (v2+1,v3.set v2.toNat v4)
 else
  u50J0 v3
def u50(a0:List Y132):Option (List Y114) :=
 gd ((0<=(a0.length:Int)/\(a0.length:Int)=(a0.length:Int)/\(a0.length:Int).toNat*32<=281474976710656/\(a0.length:Int)<=9223372036854775807)/\True)<|lt (List.replicate (a0.length:Int).toNat (ByteArray.mk #[],(0:Int),(0:Int))) fun v0 =>
 lp (u50L1 a0) (0,v0)
def k50:Ct:=lct 50 [.dat y132.sl] (fun x=>u50 x.1) (fun r:List Y114=>AV.ow 114 true y114 r) (fun _=>())
theorem o50:Ok prog k50:=by
 refine okM [.tmp 2] func50 ?_;intro y ⟨a0,_⟩ r H Q hn hr;have:=hz (tc o81 tn);refine iA [0]<|qD (fun v0=>Z [p 0 (L y132 a0),p 3 (O 7)] [(7,A 114 y114 v0 0)]) H fun v0 H=>jN r (fun(v5:List Y114)=>Z [p 3 (O 7)] [(7,A 114 y114 v5 0)]) (u50J0) (fun v5 H=>?_) (fun _ n0 e0 t0=>?_)
 ·refine iA [2]<|vTT<|hr H
 refine iA [0,3,4]<|vB<|lX (fun((v2,v3):Int×List Y114)=>Z [p 0 (L y132 a0),p 3 (O 7),p 4 (I v2)] [(7,A 114 y114 v3 0)]) (0,v0) H fun _ g1 b1 e1 t1 ⟨v2,v3⟩ H=>vQ<|iA [0,3,4,11]<|cD H (fun H=>vK<|fQ<|vQ<|vB<|jD o81 [0,3,4] H fun _ H=>fK<|fQ<|jB [0,3,4] H fun H=>b1 H) fun H=>vE<|fE<|e1<|fX rfl<|n0 H
def u49J0:List ByteArray->Option (List ByteArray)
 | v3 =>
 some v3
def u49L1(a0:List ByteArray)(g1:Int×List ByteArray->Option (List ByteArray)):Int×List ByteArray->Option (List ByteArray)
 | (v1,v2) =>
 if(decide (v1 < (a0.length:Int))) then
  gd (ix v1 a0.length/\ix v1 v2.length/\v1.toNat<v2.length/\True) <|
  gd (in64 (v1+1)/\True) <|
  g1 ((v1+1,v2.set v1.toNat (a0.getD v1.toNat (dflt Ty.str))))
 else
  u49J0 v2
def u49(a0:List ByteArray):Option (List ByteArray) :=
 gd ((0<=(a0.length:Int)/\(a0.length:Int)=(a0.length:Int)/\(a0.length:Int).toNat*16<=281474976710656/\(a0.length:Int)<=9223372036854775807)/\True) <|
 lp (u49L1 a0) ((0,List.replicate (a0.length:Int).toNat (ByteArray.mk #[])))
def k49:Ct:=lct 49 [.dat Ty.str.sl] (fun x=>u49 x.1) (fun r:List ByteArray=>AV.ow 9 true Ty.str r) (fun _=>())
theorem o49:Ok prog k49:=by
 refine okM [.tmp 2] func49 ?_;intro y ⟨a0,_⟩ r H Q hn hr;refine iA [0]<|iB [0,3] H fun H=>jN r (fun(v3:List ByteArray)=>Z [p 3 (O 7)] [(7,A 9 Ty.str v3 0)]) (u49J0) (fun v3 H=>?_) (fun _ n0 e0 t0=>?_)
 ·refine iA [2]<|vTT<|hr H
 refine iA [0,3,4]<|vB<|lX (fun((v1,v2):Int×List ByteArray)=>Z [p 0 (L Ty.str a0),p 3 (O 7),p 4 (I v1)] [(7,A 9 Ty.str v2 0)]) ((0,List.replicate (a0.length:Int).toNat (ByteArray.mk #[]))) H fun _ g1 b1 e1 t1 ⟨v1,v2⟩ H=>vQ<|iA [0,3,4,11]<|cD H (fun H=>vK<|fQ<|vQ<|vB<|jB [0,3,4] H fun H=>fK<|fQ<|jB [0,3,4] H fun H=>b1 H) fun H=>vE<|fE<|e1<|fX rfl<|n0 H
def u80(a0:Y130):Option Y112 :=
 gd ((u65 a0.2.2).isSome/\True)<|lt (vl (u65 a0.2.2)) fun v0 =>
 some (a0.1,a0.2.1,v0)
def k80:Ct:=lct 80 [.agg y130] (fun x=>u80 x.1) (fun r:Y112=>AV.agg [S r.1,I r.2.1,AV.ow 2 true i64 r.2.2]) (fun _=>())
theorem o80:Ok prog k80:=by
 refine okM [.cell 2 112] func80 ?_;intro y ⟨_,_⟩ r H Q hn hr;have:=hz (tc o65 tn);refine iA [1,2]<|iA [1,2,3]<|iA [1,2,3]<|iA [1,2,3]<|iD o65 [2,3] H fun _ H=>iA [2]<|vTT<|hr H
def k80d:Ct:=lct 80 [.agg y130] (fun x=>u80 x.1) (fun r=>frz ((fun r:Y112=>AV.agg [S r.1,I r.2.1,AV.ow 2 true i64 r.2.2]) r)) (fun _=>())
theorem o80d:Ok prog k80d:=ok_frz o80
def u48J0:List Y112->Option (List Y112)
 | v5 =>
 some v5
def u48L1(a0:List Y130)(g1:Int×List Y112->Option (List Y112)):Int×List Y112->Option (List Y112)
 | (v2,v3) =>
 if(decide (v2 < (a0.length:Int))) then
  gd (ix v2 a0.length/\(u80 (a0.getD v2.toNat (dflt y130))).isSome/\ix v2 v3.length/\v2.toNat<v3.length/\True)<|lt (vl (u80 (a0.getD v2.toNat (dflt y130)))) fun v4 =>
  gd (in64 (v2+1)/\True) <|
  g1 (v2+1,v3.set v2.toNat v4)
 else
  u48J0 v3
def u48(a0:List Y130):Option (List Y112) :=
 gd ((0<=(a0.length:Int)/\(a0.length:Int)=(a0.length:Int)/\(a0.length:Int).toNat*48<=281474976710656/\(a0.length:Int)<=9223372036854775807)/\True)<|lt (List.replicate (a0.length:Int).toNat (ByteArray.mk #[],(0:Int),[])) fun v0 =>
 lp (u48L1 a0) (0,v0)
def k48:Ct:=lct 48 [.dat y130.sl] (fun x=>u48 x.1) (fun r:List Y112=>AV.ow 112 true y112 r) (fun _=>())
theorem o48:Ok prog k48:=by
 refine okM [.tmp 2] func48 ?_;intro y ⟨a0,_⟩ r H Q hn hr;have:=hz (tc o80d tn);refine iA [0]<|qD (fun v0=>Z [p 0 (L y130 a0),p 3 (O 7)] [(7,A 112 y112 v0 0)]) H fun v0 H=>jN r (fun(v5:List Y112)=>Z [p 3 (O 7)] [(7,A 112 y112 v5 0)]) (u48J0) (fun v5 H=>?_) (fun _ n0 e0 t0=>?_)
 ·refine iA [2]<|vTT<|hr H
 refine iA [0,3,4]<|vB<|lX (fun((v2,v3):Int×List Y112)=>Z [p 0 (L y130 a0),p 3 (O 7),p 4 (I v2)] [(7,A 112 y112 v3 0)]) (0,v0) H fun _ g1 b1 e1 t1 ⟨v2,v3⟩ H=>vQ<|iA [0,3,4,11]<|cD H (fun H=>vK<|fQ<|vQ<|vB<|zD (fun v4=>Z [p 0 (L y130 a0),p 3 (O 7),p 4 (I v2)] [(7,A 112 y112 (v3.set v2.toNat v4) 0)]) H fun v4 H=>fK<|fQ<|jB [0,3,4] H fun H=>b1 H) fun H=>vE<|fE<|e1<|fX rfl<|n0 H
def u21(a0:Y29):Option Y41 :=
 gd ((u48 a0.1).isSome/\True)<|lt (vl (u48 a0.1)) fun v0 =>
 gd ((u49 a0.2.1).isSome/\True)<|lt (vl (u49 a0.2.1)) fun v1 =>
 gd ((u50 a0.2.2).isSome/\True)<|lt (vl (u50 a0.2.2)) fun v2 =>
 some (v0,v1,v2)
def k21:Ct:=lct 21 [.agg y29] (fun x=>u21 x.1) (fun r:Y41=>AV.agg [AV.ow 112 true y112 r.1,AV.ow 9 true Ty.str r.2.1,AV.ow 114 true y114 r.2.2]) (fun _=>())
theorem o21:Ok prog k21:=by
 refine okM [.cell 2 41] func21 ?_;intro y ⟨_,_⟩ r H Q hn hr;have:=hz (tc o50 (tc o49 (tc o48 tn)));refine iA [1,2]<|iA [1,2,3]<|iD o48 [1,2,3] H fun _ H=>iD o49 [1,2,3] H fun _ H=>iD o50 [2,3] H fun _ H=>iA [2]<|vTT<|hr H
def u193(a0:Y242):Option Y247 :=
 gd ((u65 a0.1).isSome/\True)<|lt (vl (u65 a0.1)) fun v0 =>
 gd ((u65 a0.2.1).isSome/\True)<|lt (vl (u65 a0.2.1)) fun v1 =>
 gd ((u65 a0.2.2).isSome/\True)<|lt (vl (u65 a0.2.2)) fun v2 =>
 some (v0,v1,v2)
def k193:Ct:=lct 193 [.agg y242] (fun x=>u193 x.1) (fun r:Y247=>AV.agg [AV.ow 2 true i64 r.1,AV.ow 2 true i64 r.2.1,AV.ow 2 true i64 r.2.2]) (fun _=>())
theorem o193:Ok prog k193:=by
 refine okM [.cell 2 247] func193 ?_;intro y ⟨_,_⟩ r H Q hn hr;have:=hz (tc o65 tn);refine iA [1,2]<|iA [1,2,3]<|iD o65 [1,2,3] H fun _ H=>iD o65 [1,2,3] H fun _ H=>iD o65 [2,3] H fun _ H=>iA [2]<|vTT<|hr H
def k193d:Ct:=lct 193 [.agg y242] (fun x=>u193 x.1) (fun r=>frz ((fun r:Y247=>AV.agg [AV.ow 2 true i64 r.1,AV.ow 2 true i64 r.2.1,AV.ow 2 true i64 r.2.2]) r)) (fun _=>())
theorem o193d:Ok prog k193d:=ok_frz o193
def u167J0:List Y247->Option (List Y247)
 | v5 =>
 some v5
def u167L1(a0:List Y242)(g1:Int×List Y247->Option (List Y247)):Int×List Y247->Option (List Y247)
 | (v2,v3) =>
 if(decide (v2 < (a0.length:Int))) then
  gd (ix v2 a0.length/\(u193 (a0.getD v2.toNat (dflt y242))).isSome/\ix v2 v3.length/\v2.toNat<v3.length/\True)<|lt (vl (u193 (a0.getD v2.toNat (dflt y242)))) fun v4 =>
  gd (in64 (v2+1)/\True) <|
  g1 (v2+1,v3.set v2.toNat v4)
 else
  u167J0 v3
def u167(a0:List Y242):Option (List Y247) :=
 gd ((0<=(a0.length:Int)/\(a0.length:Int)=(a0.length:Int)/\(a0.length:Int).toNat*72<=281474976710656/\(a0.length:Int)<=9223372036854775807)/\True) <|
 lp (u167L1 a0) ((0,List.replicate (a0.length:Int).toNat ([],[],[])))
def k167:Ct:=lct 167 [.dat y242.sl] (fun x=>u167 x.1) (fun r:List Y247=>AV.ow 247 true y247 r) (fun _=>())
theorem o167:Ok prog k167:=by
 refine okM [.tmp 2] func167 ?_;intro y ⟨a0,_⟩ r H Q hn hr;have:=hz (tc o193d tn);refine iA [0]<|iB [0,3] H fun H=>jN r (fun(v5:List Y247)=>Z [p 3 (O 7)] [(7,A 247 y247 v5 0)]) (u167J0) (fun v5 H=>?_) (fun _ n0 e0 t0=>?_)
 ·refine iA [2]<|vTT<|hr H
 refine iA [0,3,4]<|vB<|lX (fun((v2,v3):Int×List Y247)=>Z [p 0 (L y242 a0),p 3 (O 7),p 4 (I v2)] [(7,A 247 y247 v3 0)]) ((0,List.replicate (a0.length:Int).toNat ([],[],[]))) H fun _ g1 b1 e1 t1 ⟨v2,v3⟩ H=>vQ<|iA [0,3,4,11]<|cD H (fun H=>vK<|fQ<|vQ<|vB<|zD (fun v4=>Z [p 0 (L y242 a0),p 3 (O 7),p 4 (I v2)] [(7,A 247 y247 (v3.set v2.toNat v4) 0)]) H fun v4 H=>fK<|fQ<|jB [0,3,4] H fun H=>b1 H) fun H=>vE<|fE<|e1<|fX rfl<|n0 H
def u143(a0:Y186):Option Y191 :=
 gd ((u167 a0.2.2.2.2.1).isSome/\True)<|lt (vl (u167 a0.2.2.2.2.1)) fun v0 =>
 gd ((u167 a0.2.2.2.2.2).isSome/\True)<|lt (vl (u167 a0.2.2.2.2.2)) fun v1 =>
 some (a0.1,a0.2.1,a0.2.2.1,a0.2.2.2.1,v0,v1)
def k143:Ct:=lct 143 [.agg y186] (fun x=>u143 x.1) (fun r:Y191=>AV.agg [I r.1,I r.2.1,I r.2.2.1,I r.2.2.2.1,AV.ow 247 true y247 r.2.2.2.2.1,AV.ow 247 true y247 r.2.2.2.2.2]) (fun _=>())
theorem o143:Ok prog k143:=by
 refine okM [.cell 2 191] func143 ?_;intro y ⟨_,_⟩ r H Q hn hr;have:=hz (tc o167 tn);refine iA [1,2]<|iA [1,2,3]<|iA [1,2,3]<|iA [1,2,3]<|iA [1,2,3]<|iA [1,2,3]<|iD o167 [1,2,3] H fun _ H=>iD o167 [2,3] H fun _ H=>iA [2]<|vTT<|hr H
def k143d:Ct:=lct 143 [.agg y186] (fun x=>u143 x.1) (fun r=>frz ((fun r:Y191=>AV.agg [I r.1,I r.2.1,I r.2.2.1,I r.2.2.2.1,AV.ow 247 true y247 r.2.2.2.2.1,AV.ow 247 true y247 r.2.2.2.2.2]) r)) (fun _=>())
theorem o143d:Ok prog k143d:=ok_frz o143
def u111J0:List Y191->Option (List Y191)
 | v5 =>
 some v5
def u111L1(a0:List Y186)(g1:Int×List Y191->Option (List Y191)):Int×List Y191->Option (List Y191)
 | (v2,v3) =>
 if(decide (v2 < (a0.length:Int))) then
  gd (ix v2 a0.length/\(u143 (a0.getD v2.toNat (dflt y186))).isSome/\ix v2 v3.length/\v2.toNat<v3.length/\True)<|lt (vl (u143 (a0.getD v2.toNat (dflt y186)))) fun v4 =>
  gd (in64 (v2+1)/\True) <|
  g1 (v2+1,v3.set v2.toNat v4)
 else
  u111J0 v3
def u111(a0:List Y186):Option (List Y191) :=
 gd ((0<=(a0.length:Int)/\(a0.length:Int)=(a0.length:Int)/\(a0.length:Int).toNat*80<=281474976710656/\(a0.length:Int)<=9223372036854775807)/\True)<|lt (List.replicate (a0.length:Int).toNat ((0:Int),(0:Int),(0:Int),(0:Int),[],[])) fun v0 =>
 lp (u111L1 a0) (0,v0)
def k111:Ct:=lct 111 [.dat y186.sl] (fun x=>u111 x.1) (fun r:List Y191=>AV.ow 191 true y191 r) (fun _=>())
theorem o111:Ok prog k111:=by
 refine okM [.tmp 2] func111 ?_;intro y ⟨a0,_⟩ r H Q hn hr;have:=hz (tc o143d tn);refine iA [0]<|qD (fun v0=>Z [p 0 (L y186 a0),p 3 (O 7)] [(7,A 191 y191 v0 0)]) H fun v0 H=>jN r (fun(v5:List Y191)=>Z [p 3 (O 7)] [(7,A 191 y191 v5 0)]) (u111J0) (fun v5 H=>?_) (fun _ n0 e0 t0=>?_)
 ·refine iA [2]<|vTT<|hr H
 refine iA [0,3,4]<|vB<|lX (fun((v2,v3):Int×List Y191)=>Z [p 0 (L y186 a0),p 3 (O 7),p 4 (I v2)] [(7,A 191 y191 v3 0)]) (0,v0) H fun _ g1 b1 e1 t1 ⟨v2,v3⟩ H=>vQ<|iA [0,3,4,11]<|cD H (fun H=>vK<|fQ<|vQ<|vB<|zD (fun v4=>Z [p 0 (L y186 a0),p 3 (O 7),p 4 (I v2)] [(7,A 191 y191 (v3.set v2.toNat v4) 0)]) H fun v4 H=>fK<|fQ<|jB [0,3,4] H fun H=>b1 H) fun H=>vE<|fE<|e1<|fX rfl<|n0 H
def u142(a0:Y182):Option Y116 :=
 some a0
def k142:Ct:=lct 142 [.agg y182] (fun x=>u142 x.1) (fun r:Y116=>AV.agg [S r.1,I r.2.1,I r.2.2.1,B r.2.2.2]) (fun _=>())
theorem o142:Ok prog k142:=by
 refine okM [.cell 2 116] func142 ?_;intro y ⟨_,_⟩ r H Q hn hr;refine iA [1,2]<|iA [1,2,3]<|iA [1,2,3]<|iA [1,2,3]<|iA [1,2,3]<|iA [2,3]<|iA [2]<|vTT<|hr H
def u110J0:List Y116->Option (List Y116)
 | v5 =>
 some v5
def u110L1(a0:List Y182)(g1:Int×List Y116->Option (List Y116)):Int×List Y116->Option (List Y116)
 | (v2,v3) =>
 if(decide (v2 < (a0.length:Int))) then
  gd (ix v2 a0.length/\(u142 (a0.getD v2.toNat (dflt y182))).isSome/\ix v2 v3.length/\v2.toNat<v3.length/\True)<|lt (vl (u142 (a0.getD v2.toNat (dflt y182)))) fun v4 =>
  gd (in64 (v2+1)/\True) <|
  g1 (v2+1,v3.set v2.toNat v4)
 else
  u110J0 v3
def u110(a0:List Y182):Option (List Y116) :=
 gd ((0<=(a0.length:Int)/\(a0.length:Int)=(a0.length:Int)/\(a0.length:Int).toNat*40<=281474976710656/\(a0.length:Int)<=9223372036854775807)/\True)<|lt (List.replicate (a0.length:Int).toNat (ByteArray.mk #[],(0:Int),(0:Int),false)) fun v0 =>
 lp (u110L1 a0) (0,v0)
def k110:Ct:=lct 110 [.dat y182.sl] (fun x=>u110 x.1) (fun r:List Y116=>AV.ow 116 true y116 r) (fun _=>())
theorem o110:Ok prog k110:=by
 refine okM [.tmp 2] func110 ?_;intro y ⟨a0,_⟩ r H Q hn hr;have:=hz (tc o142 tn);refine iA [0]<|qD (fun v0=>Z [p 0 (L y182 a0),p 3 (O 7)] [(7,A 116 y116 v0 0)]) H fun v0 H=>jN r (fun(v5:List Y116)=>Z [p 3 (O 7)] [(7,A 116 y116 v5 0)]) (u110J0) (fun v5 H=>?_) (fun _ n0 e0 t0=>?_)
 ·refine iA [2]<|vTT<|hr H
 refine iA [0,3,4]<|vB<|lX (fun((v2,v3):Int×List Y116)=>Z [p 0 (L y182 a0),p 3 (O 7),p 4 (I v2)] [(7,A 116 y116 v3 0)]) (0,v0) H fun _ g1 b1 e1 t1 ⟨v2,v3⟩ H=>vQ<|iA [0,3,4,11]<|cD H (fun H=>vK<|fQ<|vQ<|vB<|jD o142 [0,3,4] H fun _ H=>fK<|fQ<|jB [0,3,4] H fun H=>b1 H) fun H=>vE<|fE<|e1<|fX rfl<|n0 H
def u79(a0:Y128):Option Y82 :=
 gd ((u110 a0.2.2.1).isSome/\True)<|lt (vl (u110 a0.2.2.1)) fun v0 =>
 gd ((u111 a0.2.2.2.1).isSome/\True)<|lt (vl (u111 a0.2.2.2.1)) fun v1 =>
 gd ((u65 a0.2.2.2.2.1).isSome/\True)<|lt (vl (u65 a0.2.2.2.2.1)) fun v2 =>
 some (a0.1,a0.2.1,v0,v1,v2,a0.2.2.2.2.2)
def k79:Ct:=lct 79 [.agg y128] (fun x=>u79 x.1) (fun r:Y82=>AV.agg [S r.1,I r.2.1,AV.ow 116 true y116 r.2.2.1,AV.ow 191 true y191 r.2.2.2.1,AV.ow 2 true i64 r.2.2.2.2.1,I r.2.2.2.2.2.1,I r.2.2.2.2.2.2]) (fun _=>())
theorem o79:Ok prog k79:=by
 refine okM [.cell 2 82] func79 ?_;intro y ⟨_,_⟩ r H Q hn hr;have:=hz (tc o65 (tc o111 (tc o110 tn)));refine iA [1,2]<|iA [1,2,3]<|iA [1,2,3]<|iA [1,2,3]<|iD o110 [1,2,3] H fun _ H=>iD o111 [1,2,3] H fun _ H=>iD o65 [1,2,3] H fun _ H=>iA [1,2,3]<|iA [2,3]<|iA [2] ?_
 exact vTT<|hr H
def k79d:Ct:=lct 79 [.agg y128] (fun x=>u79 x.1) (fun r=>frz ((fun r:Y82=>AV.agg [S r.1,I r.2.1,AV.ow 116 true y116 r.2.2.1,AV.ow 191 true y191 r.2.2.2.1,AV.ow 2 true i64 r.2.2.2.2.1,I r.2.2.2.2.2.1,I r.2.2.2.2.2.2]) r)) (fun _=>())
theorem o79d:Ok prog k79d:=ok_frz o79
def u47J0:List Y82->Option (List Y82)
 | v5 =>
 some v5
def u47L1(a0:List Y128)(g1:Int×List Y82->Option (List Y82)):Int×List Y82->Option (List Y82)
 | (v2,v3) =>
 if(decide (v2 < (a0.length:Int))) then
  gd (ix v2 a0.length/\(u79 (a0.getD v2.toNat (dflt y128))).isSome/\ix v2 v3.length/\v2.toNat<v3.length/\True)<|lt (vl (u79 (a0.getD v2.toNat (dflt y128)))) fun v4 =>
  gd (in64 (v2+1)/\True) <|
  g1 (v2+1,v3.set v2.toNat v4)
 else
  u47J0 v3
def u47(a0:List Y128):Option (List Y82) :=
 gd ((0<=(a0.length:Int)/\(a0.length:Int)=(a0.length:Int)/\(a0.length:Int).toNat*112<=281474976710656/\(a0.length:Int)<=9223372036854775807)/\True)<|lt (List.replicate (a0.length:Int).toNat (ByteArray.mk #[],(0:Int),[],[],[],(0:Int),(0:Int))) fun v0 =>
 lp (u47L1 a0) (0,v0)
def k47:Ct:=lct 47 [.dat y128.sl] (fun x=>u47 x.1) (fun r:List Y82=>AV.ow 82 true y82 r) (fun _=>())
theorem o47:Ok prog k47:=by
 refine okM [.tmp 2] func47 ?_;intro y ⟨a0,_⟩ r H Q hn hr;have:=hz (tc o79d tn);refine iA [0]<|qD (fun v0=>Z [p 0 (L y128 a0),p 3 (O 7)] [(7,A 82 y82 v0 0)]) H fun v0 H=>jN r (fun(v5:List Y82)=>Z [p 3 (O 7)] [(7,A 82 y82 v5 0)]) (u47J0) (fun v5 H=>?_) (fun _ n0 e0 t0=>?_)
 ·refine iA [2]<|vTT<|hr H
 refine iA [0,3,4]<|vB<|lX (fun((v2,v3):Int×List Y82)=>Z [p 0 (L y128 a0),p 3 (O 7),p 4 (I v2)] [(7,A 82 y82 v3 0)]) (0,v0) H fun _ g1 b1 e1 t1 ⟨v2,v3⟩ H=>vQ<|iA [0,3,4,11]<|cD H (fun H=>vK<|fQ<|vQ<|vB<|zD (fun v4=>Z [p 0 (L y128 a0),p 3 (O 7),p 4 (I v2)] [(7,A 82 y82 (v3.set v2.toNat v4) 0)]) H fun v4 H=>fK<|fQ<|jB [0,3,4] H fun H=>b1 H) fun H=>vE<|fE<|e1<|fX rfl<|n0 H
def u20(a0:List Y128):Option (List Y82) :=
 gd ((u47 a0).isSome/\True)<|lt (vl (u47 a0)) fun v0 =>
 some v0
def k20:Ct:=lct 20 [.agg y128.sl] (fun x=>u20 x.1) (fun r:List Y82=>AV.agg [AV.ow 82 true y82 r]) (fun _=>())
theorem o20:Ok prog k20:=by
 refine okM [.cell 2 37] func20 ?_;intro y ⟨_,_⟩ r H Q hn hr;have:=hz (tc o47 tn);refine iA [1,2]<|iA [1,2,3]<|iD o47 [2,3] H fun _ H=>iA [2]<|vTT<|hr H
def u7(a0:Y32):Option Y44 :=
 gd ((u20 a0.1).isSome/\True)<|lt (vl (u20 a0.1)) fun v0 =>
 gd ((u21 a0.2.1).isSome/\True)<|lt (vl (u21 a0.2.1)) fun v1 =>
 gd ((u22 a0.2.2).isSome/\True)<|lt (vl (u22 a0.2.2)) fun v2 =>
 some (v0,v1,v2)
def k7:Ct:=lct 7 [.agg y32] (fun x=>u7 x.1) (fun r:Y44=>AV.agg [AV.ow 82 true y82 r.1,AV.ow 112 true y112 r.2.1.1,AV.ow 9 true Ty.str r.2.1.2.1,AV.ow 114 true y114 r.2.1.2.2,AV.ow 55 true y55 r.2.2]) (fun _=>())
theorem o7:Ok prog k7:=by
 refine okM [.cell 2 44] func7 ?_;intro y ⟨_,_⟩ r H Q hn hr;have:=hz (tc o22 (tc o21 (tc o20 tn)));refine iA [1,2]<|iA [1,2,3]<|iD o20 [1,2,3] H fun _ H=>iD o21 [1,2,3] H fun _ H=>iD o22 [2,3] H fun _ H=>iA [2]<|vTT<|hr H
def u69(a0:Int):Option ByteArray :=
 gd ((u106 a0 10).isSome/\True)<|lt (vl (u106 a0 10)) fun v0 =>
 some v0
def k69:Ct:=lct 69 [.dat i64] (fun x=>u69 x.1) (fun r:ByteArray=>S r) (fun _=>())
theorem o69:Ok prog k69:=by
 refine okM [.tmp 2] func69 ?_;intro y ⟨_,_⟩ r H Q hn hr;have:=hz (tc o106 tn);refine iA [0]<|iD o106 [2] H fun _ H=>vTT<|hr H
def u94J0(a1:ByteArray):List ByteArray->Option ByteArray
 | v5 =>
 gd ((u93 v5 a1).isSome/\True)<|lt (vl (u93 v5 a1)) fun v6 =>
 some v6
def u94L1(a0:List Int)(a1:ByteArray)(g1:Int×List ByteArray->Option ByteArray):Int×List ByteArray->Option ByteArray
 | (v2,v3) =>
 if(decide (v2 < (a0.length:Int))) then
  gd (ix v2 a0.length/\True) <|
  gd ((u69 (a0.getD v2.toNat 0)).isSome/\ix v2 v3.length/\v2.toNat<v3.length/\True)<|lt (vl (u69 (a0.getD v2.toNat 0))) fun v4 =>
  gd (in64 (v2+1)/\True) <|
  g1 (v2+1,v3.set v2.toNat v4)
 else
  u94J0 a1 v3
def u94(a0:List Int)(a1:ByteArray):Option ByteArray :=
 gd ((0<=(a0.length:Int)/\(a0.length:Int)=(a0.length:Int)/\(a0.length:Int).toNat*16<=281474976710656/\(a0.length:Int)<=9223372036854775807)/\True) <|
 lp (u94L1 a0 a1) ((0,List.replicate (a0.length:Int).toNat (ByteArray.mk #[])))
def k94:Ct:=lct 94 [.dat i64.sl,.dat Ty.str] (fun x=>u94 x.1 x.2.1) (fun r:ByteArray=>S r) (fun _=>())
theorem o94:Ok prog k94:=by
 refine okM [.tmp 4] func94 ?_;intro y ⟨a0,a1,_⟩ r H Q hn hr;have:=hz (tc o93 (tc o69 tn));refine iA [0,1]<|iB [0,1,5] H fun H=>jN r (fun(v5:List ByteArray)=>Z [p 1 (U a1),p 5 (O 10)] [(10,A 9 Ty.str v5 0)]) (u94J0 a1) (fun v5 H=>?_) (fun _ n0 e0 t0=>?_)
 ·refine iD o93 [4] H fun _ H=>vTT<|hr H
 refine iA [1,5,11,12,13]<|vB<|lX (fun((v2,v3):Int×List ByteArray)=>Z [p 1 (U a1),p 5 (O 10),p 11 (L i64 a0),p 12 (I (a0.length:Int)),p 13 (I v2)] [(10,A 9 Ty.str v3 0)]) ((0,List.replicate (a0.length:Int).toNat (ByteArray.mk #[]))) H fun _ g1 b1 e1 t1 ⟨v2,v3⟩ H=>iA [1,5,11,12,13,14]<|vQ<|cD H (fun H=>vK<|fQ<|vQ<|vB<|iB [1,5,6,7,11,12,13] H fun H=>jD o69 [1,5,11,12,13] H fun _ H=>fK<|fQ<|jB [1,5,11,12,13] H fun H=>b1 H) fun H=>vE<|fE<|e1<|fX rfl<|n0 H
def u55(a0:Y55):Option ByteArray :=
 gd ((u94 a0.1 (ByteArray.mk #[44])).isSome/\(u94 a0.2.1 (ByteArray.mk #[44])).isSome/\(u94 a0.2.2.1 (ByteArray.mk #[44])).isSome/\(u94 a0.2.2.2 (ByteArray.mk #[44])).isSome/\(u93 [vl (u94 a0.1 (ByteArray.mk #[44])),vl (u94 a0.2.1 (ByteArray.mk #[44])),vl (u94 a0.2.2.1 (ByteArray.mk #[44])),vl (u94 a0.2.2.2 (ByteArray.mk #[44]))] (ByteArray.mk #[124])).isSome/\True)<|lt ((vl (u93 [vl (u94 a0.1 (ByteArray.mk #[44])),vl (u94 a0.2.1 (ByteArray.mk #[44])),vl (u94 a0.2.2.1 (ByteArray.mk #[44])),vl (u94 a0.2.2.2 (ByteArray.mk #[44]))] (ByteArray.mk #[124])),vl (u94 a0.1 (ByteArray.mk #[44])),vl (u94 a0.2.1 (ByteArray.mk #[44])),vl (u94 a0.2.2.1 (ByteArray.mk #[44])),vl (u94 a0.2.2.2 (ByteArray.mk #[44])))) fun(v0,_,_,_,_) =>
 some v0
def k55:Ct:=lct 55 [.agg y55] (fun x=>u55 x.1) (fun r:ByteArray=>S r) (fun _=>())
theorem o55:Ok prog k55:=by
 refine okM [.tmp 2] func55 ?_;intro y ⟨a0,_⟩ r H Q hn hr;have:=hz (tc o93 (tc o94 tn));refine iA [1]<|qD (fun(v0,v1,v2,v3,v4)=>Z [p 2 (S v0)] [(15,A 9 Ty.str [v1,v2,v3,v4] 0),(1,K 55 y55 a0)]) H fun⟨v0,v1,v2,v3,v4⟩ H =>
  vTT<|hr H
def u89(a0:Int)(a1:Int)(a2:Int):Option Bool :=
 some (decide (a1<=a0)&&decide (a0<=a2))
def k89:Ct:=lct 89 [.dat i64,.dat i64,.dat i64] (fun x=>u89 x.1 x.2.1 x.2.2.1) (fun r:Bool=>B r) (fun _=>())
theorem o89:Ok prog k89:=by
 refine okM [.tmp 6] func89 ?_;intro y ⟨_,_,_,_⟩ r H Q hn hr;refine iA [0,1,2]<|iA [6]<|vTT<|hr H
def u119(a0:Int)(a1:Int)(a2:Int):Option Bool :=
 gd ((u89 a0 a1 a2).isSome/\True) <|
 some (!vl (u89 a0 a1 a2))
def k119:Ct:=lct 119 [.dat i64,.dat (.pt i64),.dat (.pt i64)] (fun x=>u119 x.1 x.2.1 x.2.2.1) (fun r:Bool=>B r) (fun _=>())
theorem o119:Ok prog k119:=by
 refine okM [.tmp 4] func119 ?_;intro y ⟨_,_,_,_⟩ r H Q hn hr;have:=hz (tc o89 tn);refine iA [0,1,2]<|iB [4] H fun H=>vTT<|hr H
def u148c119J0:Unit->Option Int
 | _ =>
 some (-1)
def u148c119L1(a0:List Int)(a1:Int×Int)(g1:Int->Option Int):Int->Option Int
 | v0 =>
 if(decide (v0 < (a0.length:Int))) then
  gd (ix v0 a0.length/\(u119 (a0.getD v0.toNat 0) a1.1 a1.2).isSome/\True) <|
  if(vl (u119 (a0.getD v0.toNat 0) a1.1 a1.2)) then
   some v0
  else
   gd (in64 (v0+1)/\True) <|
   g1 (v0+1)
 else
  u148c119J0 ()
def u148c119(a0:List Int)(a1:Int×Int):Option Int :=
 lp (u148c119L1 a0 a1) 0
def k148c119:Ct:=lct 148 [.dat i64.sl,.fn 119 (.pr i64.pt i64.pt)] (fun x=>u148c119 x.1 x.2.1) (fun r:Int=>I r) (fun _=>())
theorem o148c119:Ok prog k148c119:=by
 refine okM [.tmp 4] func148 ?_;intro y ⟨a0,a1,_⟩ r H Q hn hr;have:=hz (tc o119 tn);refine iA [0,1]<|jN r (fun(_:Unit)=>Z [] []) (u148c119J0) (fun _ H=>?_) (fun _ n0 e0 t0=>?_)
 ·refine iA [4]<|vTT<|hr H
 refine iA [0,1,7,8]<|vB<|lX (fun(v0:Int)=>Z [p 0 (L i64 a0),p 1 (AV.fn 119 [D i64.pt a1.1,D i64.pt a1.2]),p 7 (I (a0.length:Int)),p 8 (I v0)] []) 0 H fun _ g1 b1 e1 t1 v0 H=>iA [0,1,7,8,9]<|vQ<|cD H (fun H=>?_) (fun H=>?_)
 ·refine vK<|fQ<|vQ<|vB<|iA [0,1,5,7,8]<|iB [0,1,5,7,8,16] H fun H=>cD H (fun H=>iA [4]<|vTT<|fDD<|fR<|t1<|fDD<|t0<|hr H) fun H=>vK<|fK<|fQ<|jB [0,1,7,8] H fun H=>b1 H
 exact vE<|fE<|e1<|fX rfl<|n0 H
def u115c119(a0:List Int)(a1:Int×Int):Option Bool :=
 gd ((u148c119 a0 a1).isSome/\True)<|lt (vl (u148c119 a0 a1)) fun v0 =>
 some (decide (0<=v0))
def k115c119:Ct:=lct 115 [.dat i64.sl,.fn 119 (.pr (.pt i64) (.pt i64))] (fun x=>u115c119 x.1 x.2.1) (fun r:Bool=>B r) (fun _=>())
theorem o115c119:Ok prog k115c119:=by
 refine okM [.tmp 4] func115 ?_;intro y ⟨_,_,_⟩ r H Q hn hr;have:=hz (tc o148c119 (tc o119 tn));refine iA [0,1]<|iD o148c119 [4] H fun _ H=>vTT<|hr H
def u91(a0:List Int)(a1:Int)(a2:Int):Option Bool :=
 gd ((u115c119 a0 (a1,a2)).isSome/\True) <|
 some (!vl (u115c119 a0 (a1,a2)))
def k91:Ct:=lct 91 [.dat i64.sl,.dat i64,.dat i64] (fun x=>u91 x.1 x.2.1 x.2.2.1) (fun r:Bool=>B r) (fun _=>())
theorem o91:Ok prog k91:=by
 refine okM [.tmp 6] func91 ?_;intro y ⟨_,_,_,_⟩ r H Q hn hr;have:=hz (tc o115c119 (tc o119 tn));refine iA [0,4,5]<|iB [6] H fun H=>vTT<|hr H
def u88(a0:List Int):Option Int :=
 some (a0.length:Int)
def k88:Ct:=lct 88 [.dat i64.sl] (fun x=>u88 x.1) (fun r:Int=>I r) (fun _=>())
theorem o88:Ok prog k88:=by
 refine okM [.tmp 2] func88 ?_;intro y ⟨_,_⟩ r H Q hn hr;refine iA [0]<|iA [2]<|vTT<|hr H
def u90J0:Unit->Option Bool
 | _ =>
 some true
def u90L1(a0:Y55)(g1:Int->Option Bool):Int->Option Bool
 | v0 =>
 if(decide (v0 < (a0.1.length:Int))) then
  gd (ix v0 a0.1.length/\True) <|
  gd (((a0.1.getD v0.toNat (0:Int) != (-1:Int))=false/\(v0==(0:Int))=true/\True->ix (0:Int) a0.2.1.length)/\(decide ((0:Int)<v0)=true/\(v0==(0:Int)&&(a0.1.getD v0.toNat (0:Int) != (-1:Int)||a0.2.1.getD (Int.toNat (0:Int)) (0:Int) != (0:Int)))=false/\True->in64 (v0-(1:Int)))/\(decide ((0:Int)<v0)=true/\(v0==(0:Int)&&(a0.1.getD v0.toNat (0:Int) != (-1:Int)||a0.2.1.getD (Int.toNat (0:Int)) (0:Int) != (0:Int)))=false/\True->(u89 (a0.1.getD v0.toNat (0:Int)) (0:Int) (v0-(1:Int))).isSome)/\True) <|
  if(v0==(0:Int)&&(a0.1.getD v0.toNat (0:Int) != (-1:Int)||a0.2.1.getD (Int.toNat (0:Int)) (0:Int) != (0:Int))||decide ((0:Int)<v0)&&!vl (u89 (a0.1.getD v0.toNat (0:Int)) (0:Int) (v0-(1:Int)))) then
   some false
  else
   gd (in64 (v0+1)/\True) <|
   g1 (v0+1)
 else
  u90J0 ()
def u90(a0:Y55):Option Bool :=
 lp (u90L1 a0) 0
def k90:Ct:=lct 90 [.agg y55] (fun x=>u90 x.1) (fun r:Bool=>B r) (fun _=>())
theorem o90:Ok prog k90:=by
 refine okM [.tmp 2] func90 ?_;intro y ⟨a0,_⟩ r H Q hn hr;have:=hz (tc o89 tn);refine iA [1]<|jN r (fun(_:Unit)=>Z [] []) (u90J0) (fun _ H=>?_) (fun _ n0 e0 t0=>?_)
 ·refine iA [2]<|vTT<|hr H
 refine iA [1,6,7,8]<|vB<|lX (fun(v0:Int)=>Z [p 1 (R 1),p 6 (L i64 a0.1),p 7 (I (a0.1.length:Int)),p 8 (I v0)] [(1,K 55 y55 a0)]) 0 H fun _ g1 b1 e1 t1 v0 H=>iA [1,6,7,8,9]<|vQ<|cD H (fun H=>?_) (fun H=>?_)
 ·refine vK<|fQ<|vQ<|vB<|iB [1,3,4,6,7,8] H fun H=>iB [1,6,7,8,36] H fun H=>cD H (fun H=>iA [2]<|vTT<|fDD<|fR<|t1<|fDD<|t0<|hr H) fun H=>vK<|fK<|fQ<|jB [1,6,7,8] H fun H=>b1 H
 exact vE<|fE<|e1<|fX rfl<|n0 H
def u53(a0:Y55)(a1:Int):Option Bool :=
 gd ((u88 a0.1).isSome/\True)<|lt (vl (u88 a0.1)) fun v0 =>
 gd ((u89 v0 1 8).isSome/\(vl (u89 v0 1 8)=true/\True->(u88 a0.2.1).isSome)/\((vl (u89 v0 1 8)&&vl (u88 a0.2.1)==v0)=true/\True->(u88 a0.2.2.1).isSome)/\((vl (u89 v0 1 8)&&vl (u88 a0.2.1)==v0&&vl (u88 a0.2.2.1)==v0)=true/\True->(u90 a0).isSome)/\((vl (u89 v0 1 8)&&vl (u88 a0.2.1)==v0&&vl (u88 a0.2.2.1)==v0&&vl (u90 a0))=true/\True->(u91 a0.2.1 0 1000).isSome)/\((vl (u89 v0 1 8)&&vl (u88 a0.2.1)==v0&&vl (u88 a0.2.2.1)==v0&&vl (u90 a0)&&vl (u91 a0.2.1 0 1000))=true/\True->(u91 a0.2.2.1 0 500).isSome)/\((vl (u89 v0 1 8)&&vl (u88 a0.2.1)==v0&&vl (u88 a0.2.2.1)==v0&&vl (u90 a0)&&vl (u91 a0.2.1 0 1000)&&vl (u91 a0.2.2.1 0 500))=true/\True->(u88 a0.2.2.2).isSome)/\((vl (u89 v0 1 8)&&vl (u88 a0.2.1)==v0&&vl (u88 a0.2.2.1)==v0&&vl (u90 a0)&&vl (u91 a0.2.1 0 1000)&&vl (u91 a0.2.2.1 0 500)&&vl (u88 a0.2.2.2)==a1)=true/\True->in64 (v0-1))/\((vl (u89 v0 1 8)&&vl (u88 a0.2.1)==v0&&vl (u88 a0.2.2.1)==v0&&vl (u90 a0)&&vl (u91 a0.2.1 0 1000)&&vl (u91 a0.2.2.1 0 500)&&vl (u88 a0.2.2.2)==a1)=true/\True->(u91 a0.2.2.2 0 (v0-1)).isSome)/\True)<|lt ((vl (u88 a0.2.1),vl (u88 a0.2.2.1),vl (u88 a0.2.2.2))) fun(v1,v2,v3) =>
 some (vl (u89 v0 1 8)&&v1==v0&&v2==v0&&vl (u90 a0)&&vl (u91 a0.2.1 0 1000)&&vl (u91 a0.2.2.1 0 500)&&v3==a1&&vl (u91 a0.2.2.2 0 (v0-1)))
def k53:Ct:=lct 53 [.agg y55,.dat i64] (fun x=>u53 x.1 x.2.1) (fun r:Bool=>B r) (fun _=>())
theorem o53:Ok prog k53:=by
 refine okM [.tmp 4] func53 ?_;intro y ⟨a0,a1,_⟩ r H Q hn hr;have:=hz (tc o91 (tc o88 (tc o90 (tc o89 tn))));refine iA [1,2]<|iD o88 [1,2,5] H fun v0 H=>qD (fun(v1,v2,v3)=>Z [p 4 (B (vl (u89 v0 1 8)&&v1==v0&&v2==v0&&vl (u90 a0)&&vl (u91 a0.2.1 0 1000)&&vl (u91 a0.2.2.1 0 500)&&v3==a1&&vl (u91 a0.2.2.2 0 (v0-1))))] [(2,K 55 y55 a0)]) H fun⟨v1,v2,v3⟩ H =>
  vTT<|hr H
def u52J4:List Y102->Option (List Y102)
 | v24 =>
 some v24
def u52L5(a0:Y41)(g5:Int×List Y102->Option (List Y102)):Int×List Y102->Option (List Y102)
 | (v21,v22) =>
 if(decide (v21 < (a0.2.2.length:Int))) then
  gd (ix v21 a0.2.2.length/\True)<|lt (a0.2.2.getD v21.toNat (dflt y114)) fun v23 =>
  gd ((v22.length+[(-1,v21,v23.2.2,v23.2.1==1)].length<=9223372036854775807/\(v22.length+[(-1,v21,v23.2.2,v23.2.1==1)].length)*32<=140737488355328)/\True) <|
  gd (in64 (v21+1)/\True) <|
  g5 ((v21+1,v22++[(-1,v21,v23.2.2,v23.2.1==1)]))
 else
  u52J4 v22
def u52J0(a0:Y41):List Y102->Option (List Y102)
 | v17 =>
 lp (u52L5 a0) (0,v17)
def u52J2(v8:Int)(g1:List Y102×Int->Option (List Y102)):List Y102->Option (List Y102)
 | v16 =>
 gd (in64 (v8+1)/\True) <|
 g1 (v16,v8+1)
def u52L3(v8:Int)(v9:Y112)(g1:List Y102×Int->Option (List Y102))(g3:Int×List Y102->Option (List Y102)):Int×List Y102->Option (List Y102)
 | (v12,v13) =>
 if(decide (v12 < (v9.2.2.length:Int))) then
  gd (ix v12 v9.2.2.length/\True) <|
  gd (in64 ((v9.2.2.length:Int)-1)/\(v13.length+[(v8,v12,v9.2.2.getD v12.toNat 0,v12==(v9.2.2.length:Int)-1)].length<=9223372036854775807/\(v13.length+[(v8,v12,v9.2.2.getD v12.toNat 0,v12==(v9.2.2.length:Int)-1)].length)*32<=140737488355328)/\True)<|lt ((v13++[(v8,v12,v9.2.2.getD v12.toNat 0,v12==(v9.2.2.length:Int)-1)],[(v8,v12,v9.2.2.getD v12.toNat 0,v12==(v9.2.2.length:Int)-1)])) fun(v14,_) =>
  gd (in64 (v12+1)/\True) <|
  g3 (v12+1,v14)
 else
  u52J2 v8 g1 v13
def u52L1(a0:Y41)(g1:List Y102×Int->Option (List Y102)):List Y102×Int->Option (List Y102)
 | (v7,v8) =>
 if(decide (v8 < (a0.1.length:Int))) then
  gd (ix v8 a0.1.length/\True)<|lt (a0.1.getD v8.toNat (dflt y112)) fun v9 =>
  lp (u52L3 v8 v9 g1) (0,v7)
 else
  u52J0 a0 v7
def u52(a0:Y41):Option (List Y102) :=
 lp (u52L1 a0) ([],0)
def k52:Ct:=lct 52 [.agg y41] (fun x=>u52 x.1) (fun r:List Y102=>AV.ow 102 true y102 r) (fun _=>())
theorem o52:Ok prog k52:=by
 refine okM [.tmp 2] func52 ?_;intro y ⟨a0,_⟩ r H Q hn hr;refine iA [1]<|iA [1,3]<|jN r (fun(v17:List Y102)=>Z [p 1 (R 1),p 3 (O 38)] [(1,K 41 y41 a0),(38,A 102 y102 v17 0)]) (u52J0 a0) (fun v17 H=>?_) (fun _ n0 e0 t0=>?_)
 ·refine jN r (fun(v24:List Y102)=>Z [p 3 (O 38)] [(38,A 102 y102 v24 0)]) (u52J4) (fun v24 H=>?_) (fun _ n4 e4 t4=>?_)
  ·refine iA [2]<|vTT<|hr H
  refine iA [3,42,43,44]<|vB<|lX (fun((v21,v22):Int×List Y102)=>Z [p 3 (O 38),p 42 (L y114 a0.2.2),p 43 (I (a0.2.2.length:Int)),p 44 (I v21)] [(38,A 102 y102 v22 0)]) (0,v17) H fun _ g5 b5 e5 t5 ⟨v21,v22⟩ H=>iA [3,42,43,44,45]<|vQ<|cD H (fun H=>vK<|fQ<|vQ<|vB<|qD (fun v23=>Z [p 3 (O 38),p 8 (I v21),p 9 (R 9),p 42 (L y114 a0.2.2),p 43 (I (a0.2.2.length:Int)),p 44 (I v21)] [(9,K 114 y114 v23),(38,A 102 y102 v22 0)]) H fun v23 H=>jB [3,42,43,44] H fun H=>fK<|fQ<|jB [3,42,43,44] H fun H=>b5 H) fun H=>vE<|fE<|e5<|fX rfl<|n4 H
 refine iA [1,3,11,12,13]<|vB<|lX (fun((v7,v8):List Y102×Int)=>Z [p 1 (R 1),p 3 (O 38),p 11 (L y112 a0.1),p 12 (I (a0.1.length:Int)),p 13 (I v8)] [(1,K 41 y41 a0),(38,A 102 y102 v7 0)]) ([],0) H fun _ g1 b1 e1 t1 ⟨v7,v8⟩ H=>iA [1,3,11,12,13,14]<|vQ<|cD H (fun H=>?_) (fun H=>?_)
 ·refine vK<|fQ<|jN r (fun(v16:List Y102)=>Z [p 1 (R 1),p 3 (O 38),p 11 (L y112 a0.1),p 12 (I (a0.1.length:Int)),p 13 (I v8)] [(1,K 41 y41 a0),(38,A 102 y102 v16 0)]) (u52J2 v8 g1) (fun v16 H=>?_) (fun _ n2 e2 t2=>?_)
  ·refine jB [1,3,11,12,13] H fun H=>b1 H
  refine vB<|qD (fun v9=>Z [p 1 (R 1),p 3 (O 38),p 4 (I v8),p 5 (R 5),p 11 (L y112 a0.1),p 12 (I (a0.1.length:Int)),p 13 (I v8)] [(5,K 112 y112 v9),(1,K 41 y41 a0),(38,A 102 y102 v7 0)]) H fun v9 H=>iA [1,3,4,5,11,12,13,19,20,21]<|vB<|lX (fun((v12,v13):Int×List Y102)=>Z [p 1 (R 1),p 3 (O 38),p 4 (I v8),p 5 (R 5),p 11 (L y112 a0.1),p 12 (I (a0.1.length:Int)),p 13 (I v8),p 19 (L i64 v9.2.2),p 20 (I (v9.2.2.length:Int)),p 21 (I v12)] [(5,K 112 y112 v9),(1,K 41 y41 a0),(38,A 102 y102 v13 0)]) (0,v7) H fun _ g3 b3 e3 t3 ⟨v12,v13⟩ H=>iA [1,3,4,5,11,12,13,19,20,21,22]<|vQ<|cD H (fun H=>?_) (fun H=>?_)
  ·refine vK<|fQ<|vQ<|vB<|iB [1,3,4,5,6,7,11,12,13,19,20,21] H fun H=>zD (fun(v14,v15)=>Z [p 1 (R 1),p 3 (AV.os 38 1),p 4 (I v8),p 5 (R 5),p 11 (L y112 a0.1),p 12 (I (a0.1.length:Int)),p 13 (I v8),p 19 (L i64 v9.2.2),p 20 (I (v9.2.2.length:Int)),p 21 (I v12)] [(38,A 102 y102 v14 1),(37,A 102 y102 v15 0),(5,K 112 y112 v9),(1,K 41 y41 a0)]) H fun⟨v14,v15⟩ H =>
    fK<|fQ <|
    jB [1,3,4,5,11,12,13,19,20,21] H fun H =>
    b3 H
  exact vE<|fE<|e3<|fX rfl<|fK<|n2 H
 exact vE<|fE<|e1<|fX rfl<|n0 H
def u87(a0:Int):Option Bool :=
 some (a0 != 1)
def k87:Ct:=lct 87 [.dat i64] (fun x=>u87 x.1) (fun r:Bool=>B r) (fun _=>())
theorem o87:Ok prog k87:=by
 refine okM [.tmp 2] func87 ?_;intro y ⟨_,_⟩ r H Q hn hr;refine iA [0]<|iA [2]<|vTT<|hr H
def u117(a0:List ByteArray):Option Int :=
 some (a0.length:Int)
def k117:Ct:=lct 117 [.dat Ty.str.sl] (fun x=>u117 x.1) (fun r:Int=>I r) (fun _=>())
theorem o117:Ok prog k117:=by
 refine okM [.tmp 2] func117 ?_;intro y ⟨_,_⟩ r H Q hn hr;refine iA [0]<|iA [2]<|vTT<|hr H
def u85(a0:Y41)(a1:Int):Option Bool :=
 gd ((u117 a0.2.1).isSome/\in64 (vl (u117 a0.2.1)-1)/\(u89 a1 0 (vl (u117 a0.2.1)-1)).isSome/\True) <|
 some (vl (u89 a1 0 (vl (u117 a0.2.1)-1)))
def k85:Ct:=lct 85 [.agg y41,.dat i64] (fun x=>u85 x.1 x.2.1) (fun r:Bool=>B r) (fun _=>())
theorem o85:Ok prog k85:=by
 refine okM [.tmp 4] func85 ?_;intro y ⟨_,_,_⟩ r H Q hn hr;have:=hz (tc o89 (tc o117 tn));refine iA [1,2]<|iB [4] H fun H=>vTT<|hr H
def u114(a0:List Y82):Option Int :=
 some (a0.length:Int)
def k114:Ct:=lct 114 [.dat y82.sl] (fun x=>u114 x.1) (fun r:Int=>I r) (fun _=>())
theorem o114:Ok prog k114:=by
 refine okM [.tmp 2] func114 ?_;intro y ⟨_,_⟩ r H Q hn hr;refine iA [0]<|iA [2]<|vTT<|hr H
def u116(a0:Int)(a1:Y41):Option Bool :=
 gd ((u85 a1 a0).isSome/\True) <|
 some (!vl (u85 a1 a0))
def k116:Ct:=lct 116 [.dat i64,.dat (.pt y41)] (fun x=>u116 x.1 x.2.1) (fun r:Bool=>B r) (fun _=>())
theorem o116:Ok prog k116:=by
 refine okM [.tmp 3] func116 ?_;intro y ⟨_,_,_⟩ r H Q hn hr;have:=hz (tc o85 tn);refine iA [0,1]<|iB [3] H fun H=>vTT<|hr H
def u148c116J0:Unit->Option Int
 | _ =>
 some (-1)
def u148c116L1(a0:List Int)(a1:Y41)(g1:Int->Option Int):Int->Option Int
 | v0 =>
 if(decide (v0 < (a0.length:Int))) then
  gd (ix v0 a0.length/\(u116 (a0.getD v0.toNat 0) a1).isSome/\True) <|
  if(vl (u116 (a0.getD v0.toNat 0) a1)) then
   some v0
  else
   gd (in64 (v0+1)/\True) <|
   g1 (v0+1)
 else
  u148c116J0 ()
def u148c116(a0:List Int)(a1:Y41):Option Int :=
 lp (u148c116L1 a0 a1) 0
def k148c116:Ct:=lct 148 [.dat i64.sl,.fn 116 y41.pt] (fun x=>u148c116 x.1 x.2.1) (fun r:Int=>I r) (fun _=>())
theorem o148c116:Ok prog k148c116:=by
 refine okM [.tmp 4] func148 ?_;intro y ⟨a0,a1,_⟩ r H Q hn hr;have:=hz (tc o116 tn);refine iA [0,1]<|jN r (fun(_:Unit)=>Z [] []) (u148c116J0) (fun _ H=>?_) (fun _ n0 e0 t0=>?_)
 ·refine iA [4]<|vTT<|hr H
 refine iA [0,1,7,8]<|vB<|lX (fun(v0:Int)=>Z [p 0 (L i64 a0),p 1 (AV.fn 116 [D y41.pt a1]),p 7 (I (a0.length:Int)),p 8 (I v0)] []) 0 H fun _ g1 b1 e1 t1 v0 H=>iA [0,1,7,8,9]<|vQ<|cD H (fun H=>?_) (fun H=>?_)
 ·refine vK<|fQ<|vQ<|vB<|iA [0,1,5,7,8]<|iB [0,1,5,7,8,16] H fun H=>cD H (fun H=>iA [4]<|vTT<|fDD<|fR<|t1<|fDD<|t0<|hr H) fun H=>vK<|fK<|fQ<|jB [0,1,7,8] H fun H=>b1 H
 exact vE<|fE<|e1<|fX rfl<|n0 H
def u115c116(a0:List Int)(a1:Y41):Option Bool :=
 gd ((u148c116 a0 a1).isSome/\True)<|lt (vl (u148c116 a0 a1)) fun v0 =>
 some (decide (0<=v0))
def k115c116:Ct:=lct 115 [.dat i64.sl,.fn 116 (.pt y41)] (fun x=>u115c116 x.1 x.2.1) (fun r:Bool=>B r) (fun _=>())
theorem o115c116:Ok prog k115c116:=by
 refine okM [.tmp 4] func115 ?_;intro y ⟨_,_,_⟩ r H Q hn hr;have:=hz (tc o148c119 (tc o148c116 (tc o116 tn)));refine iA [0,1]<|iD o148c116 [4] H fun _ H=>vTT<|hr H
def u84(a0:Y41)(a1:List Y82)(a2:Y112):Option Bool :=
 gd ((u114 a1).isSome/\in64 (vl (u114 a1)-1)/\(u89 a2.2.1 0 (vl (u114 a1)-1)).isSome/\(vl (u89 a2.2.1 0 (vl (u114 a1)-1))=true/\True->ix a2.2.1 a1.length)/\((vl (u89 a2.2.1 0 (vl (u114 a1)-1))&&(a2.2.2.length:Int)==(↑(a1.getD a2.2.1.toNat (dflt y82)).2.2.1.length:Int))=true/\True->(u115c116 a2.2.2 a0).isSome)/\True) <|
 some (vl (u89 a2.2.1 0 (vl (u114 a1)-1))&&(a2.2.2.length:Int)==(↑(a1.getD a2.2.1.toNat (dflt y82)).2.2.1.length:Int)&&!vl (u115c116 a2.2.2 a0))
def k84:Ct:=lct 84 [.agg y41,.agg y82.sl,.agg y112] (fun x=>u84 x.1 x.2.1 x.2.2.1) (fun r:Bool=>B r) (fun _=>())
theorem o84:Ok prog k84:=by
 refine okM [.tmp 6] func84 ?_;intro y ⟨_,_,_,_⟩ r H Q hn hr;have:=hz (tc o115c119 (tc o115c116 (tc o116 (tc o89 (tc o114 tn)))));refine iA [3,4,5]<|iB [6] H fun H=>vTT<|hr H
def u160J0:Unit->Option Int
 | _ =>
 some (-1)
def u160L1(a1:ByteArray)(a0:List ByteArray)(g1:Int->Option Int):Int->Option Int
 | v0 =>
 if(decide (v0 < (a0.length:Int))) then
  gd (ix v0 a0.length/\True) <|
  if(decide (a1=a0.getD v0.toNat (dflt Ty.str))) then
   some v0
  else
   gd (in64 (v0+1)/\True) <|
   g1 (v0+1)
 else
  u160J0 ()
def u160(a0:List ByteArray)(a1:ByteArray):Option Int :=
 lp (u160L1 a1 a0) 0
def k160:Ct:=lct 160 [.dat Ty.str.sl,.dat Ty.str] (fun x=>u160 x.1 x.2.1) (fun r:Int=>I r) (fun _=>())
theorem o160:Ok prog k160:=by
 refine okM [.tmp 4] func160 ?_;intro y ⟨a0,a1,_⟩ r H Q hn hr;refine iA [0,1]<|jN r (fun(_:Unit)=>Z [] []) (u160J0) (fun _ H=>?_) (fun _ n0 e0 t0=>?_)
 ·refine iA [4]<|vTT<|hr H
 refine iA [0,1,7,8]<|vB<|lX (fun(v0:Int)=>Z [p 0 (L Ty.str a0),p 1 (U a1),p 7 (I (a0.length:Int)),p 8 (I v0)] []) 0 H fun _ g1 b1 e1 t1 v0 H=>iA [0,1,7,8,9]<|vQ<|cD H (fun H=>?_) (fun H=>?_)
 ·refine vK<|fQ<|vQ<|vB<|iA [0,1,5,7,8]<|iB [0,1,5,7,8,16] H fun H=>cD H (fun H=>iA [4]<|vTT<|fDD<|fR<|t1<|fDD<|t0<|hr H) fun H=>vK<|fK<|fQ<|jB [0,1,7,8] H fun H=>b1 H
 exact vE<|fE<|e1<|fX rfl<|n0 H
def u147(a0:List ByteArray)(a1:ByteArray):Option Bool :=
 gd ((u160 a0 a1).isSome/\True)<|lt (vl (u160 a0 a1)) fun v0 =>
 some (decide (0<=v0))
def k147:Ct:=lct 147 [.dat Ty.str.sl,.dat Ty.str] (fun x=>u147 x.1 x.2.1) (fun r:Bool=>B r) (fun _=>())
theorem o147:Ok prog k147:=by
 refine okM [.tmp 4] func147 ?_;intro y ⟨_,_,_⟩ r H Q hn hr;have:=hz (tc o160 tn);refine iA [0,1]<|iD o160 [4] H fun _ H=>vTT<|hr H
def u132(a0:ByteArray):Option Bool :=
 gd ((u89 (a0.size:Int) (1:Int) (8:Int)).isSome/\(vl (u89 (a0.size:Int) (1:Int) (8:Int))=true/\True->(u156 a0 (ByteArray.mk #[(97:UInt8),(98:UInt8),(99:UInt8),(100:UInt8),(101:UInt8),(102:UInt8),(103:UInt8),(104:UInt8),(105:UInt8),(106:UInt8),(107:UInt8),(108:UInt8),(109:UInt8),(110:UInt8),(111:UInt8),(112:UInt8),(113:UInt8),(114:UInt8),(115:UInt8),(116:UInt8),(117:UInt8),(118:UInt8),(119:UInt8),(120:UInt8),(121:UInt8),(122:UInt8),(48:UInt8),(49:UInt8),(50:UInt8),(51:UInt8),(52:UInt8),(53:UInt8),(54:UInt8),(55:UInt8),(56:UInt8),(57:UInt8)])).isSome)/\((vl (u89 (a0.size:Int) (1:Int) (8:Int))&&decide (vl (u156 a0 (ByteArray.mk #[(97:UInt8),(98:UInt8),(99:UInt8),(100:UInt8),(101:UInt8),(102:UInt8),(103:UInt8),(104:UInt8),(105:UInt8),(106:UInt8),(107:UInt8),(108:UInt8),(109:UInt8),(110:UInt8),(111:UInt8),(112:UInt8),(113:UInt8),(114:UInt8),(115:UInt8),(116:UInt8),(117:UInt8),(118:UInt8),(119:UInt8),(120:UInt8),(121:UInt8),(122:UInt8),(48:UInt8),(49:UInt8),(50:UInt8),(51:UInt8),(52:UInt8),(53:UInt8),(54:UInt8),(55:UInt8),(56:UInt8),(57:UInt8)]))=ByteArray.mk #[]))=true/\True->ix (0:Int) a0.size)/\((vl (u89 (a0.size:Int) (1:Int) (8:Int))&&decide (vl (u156 a0 (ByteArray.mk #[(97:UInt8),(98:UInt8),(99:UInt8),(100:UInt8),(101:UInt8),(102:UInt8),(103:UInt8),(104:UInt8),(105:UInt8),(106:UInt8),(107:UInt8),(108:UInt8),(109:UInt8),(110:UInt8),(111:UInt8),(112:UInt8),(113:UInt8),(114:UInt8),(115:UInt8),(116:UInt8),(117:UInt8),(118:UInt8),(119:UInt8),(120:UInt8),(121:UInt8),(122:UInt8),(48:UInt8),(49:UInt8),(50:UInt8),(51:UInt8),(52:UInt8),(53:UInt8),(54:UInt8),(55:UInt8),(56:UInt8),(57:UInt8)]))=ByteArray.mk #[]))=true/\True->(u157 (ByteArray.mk #[(97:UInt8),(98:UInt8),(99:UInt8),(100:UInt8),(101:UInt8),(102:UInt8),(103:UInt8),(104:UInt8),(105:UInt8),(106:UInt8),(107:UInt8),(108:UInt8),(109:UInt8),(110:UInt8),(111:UInt8),(112:UInt8),(113:UInt8),(114:UInt8),(115:UInt8),(116:UInt8),(117:UInt8),(118:UInt8),(119:UInt8),(120:UInt8),(121:UInt8),(122:UInt8)]) (byteAt a0 (Int.toNat (0:Int)))).isSome)/\True)<|lt ((vl (u156 a0 (ByteArray.mk #[97,98,99,100,101,102,103,104,105,106,107,108,109,110,111,112,113,114,115,116,117,118,119,120,121,122,48,49,50,51,52,53,54,55,56,57])),vl (u157 (ByteArray.mk #[(97:UInt8),(98:UInt8),(99:UInt8),(100:UInt8),(101:UInt8),(102:UInt8),(103:UInt8),(104:UInt8),(105:UInt8),(106:UInt8),(107:UInt8),(108:UInt8),(109:UInt8),(110:UInt8),(111:UInt8),(112:UInt8),(113:UInt8),(114:UInt8),(115:UInt8),(116:UInt8),(117:UInt8),(118:UInt8),(119:UInt8),(120:UInt8),(121:UInt8),(122:UInt8)]) (byteAt a0 (Int.toNat (0:Int)))))) fun(v0,v1) =>
 some (vl (u89 (a0.size:Int) 1 8)&&decide (v0=ByteArray.mk #[])&&decide (0<=v1))
def k132:Ct:=lct 132 [.dat Ty.str] (fun x=>u132 x.1) (fun r:Bool=>B r) (fun _=>())
theorem o132:Ok prog k132:=by
 refine okM [.tmp 2] func132 ?_;intro y ⟨a0,_⟩ r H Q hn hr;have:=hz (tc o157 (tc o156 (tc o89 tn)));refine iA [0]<|qD (fun(v0,v1)=>Z [p 2 (B (vl (u89 (a0.size:Int) 1 8)&&decide (v0=ByteArray.mk #[])&&decide (0<=v1)))] []) H fun⟨v0,v1⟩ H =>
  vTT<|hr H
def u113J0:Unit->Option Bool
 | _ =>
 some true
def u113L1(a0:List ByteArray)(g1:Int->Option Bool):Int->Option Bool
 | v0 =>
 if(decide (v0 < (a0.length:Int))) then
  gd (ix v0 a0.length/\True) <|
  gd ((u132 (a0.getD v0.toNat (dflt Ty.str))).isSome/\((!vl (u132 (a0.getD v0.toNat (dflt Ty.str))))=false/\True->(0:Int)<=(0:Int)/\(0:Int)<=v0/\v0<=(a0.length:Int))/\((!vl (u132 (a0.getD v0.toNat (dflt Ty.str))))=false/\True->(u147 (List.take v0.toNat a0) (a0.getD v0.toNat (dflt Ty.str))).isSome)/\True) <|
  if(!vl (u132 (a0.getD v0.toNat (dflt Ty.str)))||vl (u147 (List.take v0.toNat a0) (a0.getD v0.toNat (dflt Ty.str)))) then
   some false
  else
   gd (in64 (v0+1)/\True) <|
   g1 (v0+1)
 else
  u113J0 ()
def u113(a0:List ByteArray):Option Bool :=
 lp (u113L1 a0) 0
def k113:Ct:=lct 113 [.dat Ty.str.sl] (fun x=>u113 x.1) (fun r:Bool=>B r) (fun _=>())
theorem o113:Ok prog k113:=by
 refine okM [.tmp 2] func113 ?_;intro y ⟨a0,_⟩ r H Q hn hr;have:=hz (tc o147 (tc o132 tn));refine iA [0]<|jN r (fun(_:Unit)=>Z [] []) (u113J0) (fun _ H=>?_) (fun _ n0 e0 t0=>?_)
 ·refine iA [2]<|vTT<|hr H
 refine iA [0,5,6,7]<|vB<|lX (fun(v0:Int)=>Z [p 0 (L Ty.str a0),p 5 (L Ty.str a0),p 6 (I (a0.length:Int)),p 7 (I v0)] []) 0 H fun _ g1 b1 e1 t1 v0 H=>iA [0,5,6,7,8]<|vQ<|cD H (fun H=>?_) (fun H=>?_)
 ·refine vK<|fQ<|vQ<|vB<|iB [0,3,4,5,6,7] H fun H=>iB [0,5,6,7,21] H fun H=>cD H (fun H=>iA [2]<|vTT<|fDD<|fR<|t1<|fDD<|t0<|hr H) fun H=>vK<|fK<|fQ<|jB [0,5,6,7] H fun H=>b1 H
 exact vE<|fE<|e1<|fX rfl<|n0 H
def u83J2(v4:List ByteArray)(a0:Y41):List ByteArray->Option Bool
 | v9 =>
 gd (((decide ((v4.length:Int)<=14)&&decide ((a0.2.1.length:Int)<=30)&&decide ((v9.length:Int)<=8))=true/\True->(u113 v4).isSome)/\((decide ((v4.length:Int)<=14)&&decide ((a0.2.1.length:Int)<=30)&&decide ((v9.length:Int)<=8)&&vl (u113 v4))=true/\True->(u113 a0.2.1).isSome)/\((decide ((v4.length:Int)<=14)&&decide ((a0.2.1.length:Int)<=30)&&decide ((v9.length:Int)<=8)&&vl (u113 v4)&&vl (u113 a0.2.1))=true/\True->(u113 v9).isSome)/\True) <|
 some (decide ((v4.length:Int)<=14)&&decide ((a0.2.1.length:Int)<=30)&&decide ((v9.length:Int)<=8)&&vl (u113 v4)&&vl (u113 a0.2.1)&&vl (u113 v9))
def u83L3(a0:Y41)(v4:List ByteArray)(g3:List ByteArray×Int->Option Bool):List ByteArray×Int->Option Bool
 | (v6,v7) =>
 if(decide (v7 < (a0.2.2.length:Int))) then
  gd (ix v7 a0.2.2.length/\True)<|lt (a0.2.2.getD v7.toNat (dflt y114)) fun v8 =>
  gd ((v6.length+[v8.1].length<=9223372036854775807/\(v6.length+[v8.1].length)*16<=140737488355328)/\True) <|
  gd (in64 (v7+1)/\True) <|
  g3 (v6++[v8.1],v7+1)
 else
  u83J2 v4 a0 v6
def u83J0(a0:Y41):List ByteArray->Option Bool
 | v4 =>
 lp (u83L3 a0 v4) ([],0)
def u83L1(a0:Y41)(g1:List ByteArray×Int->Option Bool):List ByteArray×Int->Option Bool
 | (v1,v2) =>
 if(decide (v2 < (a0.1.length:Int))) then
  gd (ix v2 a0.1.length/\True)<|lt (a0.1.getD v2.toNat (dflt y112)) fun v3 =>
  gd ((v1.length+[v3.1].length<=9223372036854775807/\(v1.length+[v3.1].length)*16<=140737488355328)/\True) <|
  gd (in64 (v2+1)/\True) <|
  g1 (v1++[v3.1],v2+1)
 else
  u83J0 a0 v1
def u83(a0:Y41):Option Bool :=
 lp (u83L1 a0) ([],0)
def k83:Ct:=lct 83 [.agg y41] (fun x=>u83 x.1) (fun r:Bool=>B r) (fun _=>())
theorem o83:Ok prog k83:=by
 refine okM [.tmp 2] func83 ?_;intro y ⟨a0,_⟩ r H Q hn hr;have:=hz (tc o113 tn);refine iA [1]<|iA [1,3,4]<|jN r (fun(v4:List ByteArray)=>Z (G4 [p 4 (nil)]) [(1,K 41 y41 a0),(20,A 9 Ty.str v4 0)]) (u83J0 a0) (fun v4 H=>?_) (fun _ n0 e0 t0=>?_)
 ·refine jN r (fun(v9:List ByteArray)=>Z (G4 [p 4 (O 33)]) [(1,K 41 y41 a0),(20,A 9 Ty.str v4 0),(33,A 9 Ty.str v9 0)]) (u83J2 v4 a0) (fun v9 H=>?_) (fun _ n2 e2 t2=>?_)
  ·refine iB [2] H fun H=>vTT<|hr H
  refine iA [1,3,4,23,24,25]<|vB<|lX (fun((v6,v7):List ByteArray×Int)=>Z (G4 [p 4 (O 33),p 23 (L y114 a0.2.2),p 24 (I (a0.2.2.length:Int)),p 25 (I v7)]) [(1,K 41 y41 a0),(20,A 9 Ty.str v4 0),(33,A 9 Ty.str v6 0)]) ([],0) H fun _ g3 b3 e3 t3 ⟨v6,v7⟩ H=>iA [1,3,4,23,24,25,26]<|vQ<|cD H (fun H=>vK<|fQ<|vQ<|vB<|qD (fun v8=>Z (G4 [p 4 (O 33),p 8 (R 8),p 23 (L y114 a0.2.2),p 24 (I (a0.2.2.length:Int)),p 25 (I v7)]) [(8,K 114 y114 v8),(1,K 41 y41 a0),(20,A 9 Ty.str v4 0),(33,A 9 Ty.str v6 0)]) H fun v8 H=>jB [1,3,4,23,24,25] H fun H=>fK<|fQ<|jB [1,3,4,23,24,25] H fun H=>b3 H) fun H=>vE<|fE<|e3<|fX rfl<|n2 H
 refine iA [1,3,4,10,11,12]<|vB<|lX (fun((v1,v2):List ByteArray×Int)=>Z (G4 [p 4 (nil),p 10 (L y112 a0.1),p 11 (I (a0.1.length:Int)),p 12 (I v2)]) [(1,K 41 y41 a0),(20,A 9 Ty.str v1 0)]) ([],0) H fun _ g1 b1 e1 t1 ⟨v1,v2⟩ H=>iA [1,3,4,10,11,12,13]<|vQ<|cD H (fun H=>vK<|fQ<|vQ<|vB<|qD (fun v3=>Z (G4 [p 4 (nil),p 6 (R 6),p 10 (L y112 a0.1),p 11 (I (a0.1.length:Int)),p 12 (I v2)]) [(6,K 112 y112 v3),(1,K 41 y41 a0),(20,A 9 Ty.str v1 0)]) H fun v3 H=>jB [1,3,4,10,11,12] H fun H=>fK<|fQ<|jB [1,3,4,10,11,12] H fun H=>b1 H) fun H=>vE<|fE<|e1<|fX rfl<|n0 H
def u199(a0:Y191)(a1:Int):Option Bool :=
 some (a0.1==a1)
def k199:Ct:=lct 199 [.agg y191,.dat (.pt i64)] (fun x=>u199 x.1 x.2.1) (fun r:Bool=>B r) (fun _=>())
theorem o199:Ok prog k199:=by
 refine okM [.tmp 3] func199 ?_;intro y ⟨_,_,_⟩ r H Q hn hr;refine iA [1,2]<|iA [3]<|vTT<|hr H
def u198c199J0:Unit->Option Int
 | _ =>
 some (-1)
def u198c199L1(a0:List Y191)(a1:Int)(g1:Int->Option Int):Int->Option Int
 | v0 =>
 if(decide (v0 < (a0.length:Int))) then
  gd (ix v0 a0.length/\(u199 (a0.getD v0.toNat (dflt y191)) a1).isSome/\True) <|
  if(vl (u199 (a0.getD v0.toNat (dflt y191)) a1)) then
   some v0
  else
   gd (in64 (v0+1)/\True) <|
   g1 (v0+1)
 else
  u198c199J0 ()
def u198c199(a0:List Y191)(a1:Int):Option Int :=
 lp (u198c199L1 a0 a1) 0
def k198c199:Ct:=lct 198 [.dat y191.sl,.fn 199 i64.pt] (fun x=>u198c199 x.1 x.2.1) (fun r:Int=>I r) (fun _=>())
theorem o198c199:Ok prog k198c199:=by
 refine okM [.tmp 4] func198 ?_;intro y ⟨a0,a1,_⟩ r H Q hn hr;have:=hz (tc o199 tn);refine iA [0,1]<|jN r (fun(_:Unit)=>Z [] []) (u198c199J0) (fun _ H=>?_) (fun _ n0 e0 t0=>?_)
 ·refine iA [4]<|vTT<|hr H
 refine iA [0,1,7,8]<|vB<|lX (fun(v0:Int)=>Z [p 0 (L y191 a0),p 1 (AV.fn 199 [D i64.pt a1]),p 7 (I (a0.length:Int)),p 8 (I v0)] []) 0 H fun _ g1 b1 e1 t1 v0 H=>iA [0,1,7,8,9]<|vQ<|cD H (fun H=>?_) (fun H=>?_)
 ·refine vK<|fQ<|vQ<|vB<|iA [0,1,5,7,8]<|iB [0,1,5,7,8,16] H fun H=>cD H (fun H=>iA [4]<|vTT<|fDD<|fR<|t1<|fDD<|t0<|hr H) fun H=>vK<|fK<|fQ<|jB [0,1,7,8] H fun H=>b1 H
 exact vE<|fE<|e1<|fX rfl<|n0 H
def u170c199(a0:List Y191)(a1:Int):Option Bool :=
 gd ((u198c199 a0 a1).isSome/\True)<|lt (vl (u198c199 a0 a1)) fun v0 =>
 some (decide (0<=v0))
def k170c199:Ct:=lct 170 [.dat y191.sl,.fn 199 (.pt i64)] (fun x=>u170c199 x.1 x.2.1) (fun r:Bool=>B r) (fun _=>())
theorem o170c199:Ok prog k170c199:=by
 refine okM [.tmp 4] func170 ?_;intro y ⟨_,_,_⟩ r H Q hn hr;have:=hz (tc o198c199 (tc o199 tn));refine iA [0,1]<|iD o198c199 [4] H fun _ H=>vTT<|hr H
def u173(a0:Y82)(a1:Int):Option Bool :=
 gd ((u170c199 a0.2.2.2.1 a1).isSome/\True) <|
 some (vl (u170c199 a0.2.2.2.1 a1))
def k173:Ct:=lct 173 [.agg y82,.dat i64] (fun x=>u173 x.1 x.2.1) (fun r:Bool=>B r) (fun _=>())
theorem o173:Ok prog k173:=by
 refine okM [.tmp 4] func173 ?_;intro y ⟨_,_,_⟩ r H Q hn hr;have:=hz (tc o170c199 (tc o199 tn));refine iA [2,3]<|iB [4] H fun H=>vTT<|hr H
def u168(a0:List Y116):Option Int :=
 some (a0.length:Int)
def k168:Ct:=lct 168 [.dat y116.sl] (fun x=>u168 x.1) (fun r:Int=>I r) (fun _=>())
theorem o168:Ok prog k168:=by
 refine okM [.tmp 2] func168 ?_;intro y ⟨_,_⟩ r H Q hn hr;refine iA [0]<|iA [2]<|vTT<|hr H
def u172(a0:Y82):Option Int :=
 gd ((u168 a0.2.2.1).isSome/\in64 (vl (u168 a0.2.2.1)-1)/\True)<|lt (vl (u168 a0.2.2.1)) fun v0 =>
 some (v0-1)
def k172:Ct:=lct 172 [.agg y82] (fun x=>u172 x.1) (fun r:Int=>I r) (fun _=>())
theorem o172:Ok prog k172:=by
 refine okM [.tmp 2] func172 ?_;intro y ⟨_,_⟩ r H Q hn hr;have:=hz (tc o168 tn);refine iA [1]<|iD o168 [2] H fun _ H=>vTT<|hr H
def u146J0(a0:Y82):Int->Option Bool
 | v6 =>
 if(a0.2.1==1) then
  gd (((v6==(0:Int))=true/\True->(u172 a0).isSome)/\((v6==(0:Int))=true/\True->((0:Int)<=vl (u172 a0)/\vl (u172 a0)<=(62:Int))/\in64 ((1:Int)*(2:Int) ^ (vl (u172 a0)).toNat))/\((v6==(0:Int)&&(a0.2.2.2.2.1.length:Int)==(1:Int)*(2:den i64) ^ (vl (u172 a0)).toNat)=true/\True->(u91 a0.2.2.2.2.1 (0:Int) (1:Int)).isSome)/\True)<|lt (vl (u172 a0)) fun v7 =>
  some (v6==(0:Int)&&(a0.2.2.2.2.1.length:Int)==(1:Int)*(2:den i64) ^ v7.toNat&&vl (u91 a0.2.2.2.2.1 (0:Int) (1:Int)))
 else
  if(a0.2.1==2) then
   gd (((v6==1&&(a0.2.2.2.2.1.length:Int)==0)=true/\True->(u173 a0 1).isSome)/\((v6==1&&(a0.2.2.2.2.1.length:Int)==0&&!vl (u173 a0 1))=true/\True->(u173 a0 2).isSome)/\((v6==1&&(a0.2.2.2.2.1.length:Int)==0&&!vl (u173 a0 1))=true/\True->(u173 a0 3).isSome)/\True) <|
   some (v6==1&&(a0.2.2.2.2.1.length:Int)==0&&!vl (u173 a0 1)&&!vl (u173 a0 2)==vl (u173 a0 3))
  else
   if(a0.2.1==3) then
    gd (((v6==1&&(a0.2.2.2.2.1.length:Int)==0)=true/\True->(u173 a0 1).isSome)/\((v6==1&&(a0.2.2.2.2.1.length:Int)==0&&vl (u173 a0 1))=true/\True->(u173 a0 2).isSome)/\((v6==1&&(a0.2.2.2.2.1.length:Int)==0&&vl (u173 a0 1)&&vl (u173 a0 2))=true/\True->(u173 a0 3).isSome)/\True) <|
    some (v6==1&&(a0.2.2.2.2.1.length:Int)==0&&vl (u173 a0 1)&&vl (u173 a0 2)&&!vl (u173 a0 3))
   else
    some false
def u146J2(v3:Int)(g1:Int×Int->Option Bool):Int->Option Bool
 | v5 =>
 gd (in64 (v3+1)/\True) <|
 g1 (v5,v3+1)
def u146L1(a0:Y82)(g1:Int×Int->Option Bool):Int×Int->Option Bool
 | (v2,v3) =>
 if(decide (v3 < (a0.2.2.1.length:Int))) then
  gd (ix v3 a0.2.2.1.length/\True)<|lt (a0.2.2.1.getD v3.toNat (dflt y116)) fun v4 =>
  if v4.2.2.2 then
   gd (in64 (v2+1)/\True) <|
   u146J2 v3 g1 (v2+1)
  else
   u146J2 v3 g1 v2
 else
  u146J0 a0 v2
def u146(a0:Y82):Option Bool :=
 lp (u146L1 a0) (0,0)
def k146:Ct:=lct 146 [.agg y82] (fun x=>u146 x.1) (fun r:Bool=>B r) (fun _=>())
theorem o146:Ok prog k146:=by
 refine okM [.tmp 2] func146 ?_;intro y ⟨a0,_⟩ r H Q hn hr;have:=hz (tc o173 (tc o91 (tc o172 tn)));refine iA [1]<|iA [1,3]<|jN r (fun(v6:Int)=>Z (G1 v6 []) [(1,K 82 y82 a0)]) (u146J0 a0) (fun v6 H=>?_) (fun _ n0 e0 t0=>?_)
 ·refine vQ<|iA [1,3,19]<|vB<|iA [1,3,19,20]<|cD H (fun H=>iD o172 [2] H fun _ H=>vTT<|fDD<|fR<|hr H) fun H=>iA [1,3,19,38]<|cD H (fun H=>iB [2] H fun H=>vTT<|fDD<|fR<|hr H) fun H=>iA [1,3,60]<|cD H (fun H=>iB [2] H fun H=>vTT<|fDD<|fR<|hr H) fun H=>vK<|fK<|fQ<|iA [2]<|vTT<|hr H
 refine iA [1,3,7,8,9]<|vB<|lX (fun((v2,v3):Int×Int)=>Z (G1 v2 [p 7 (L y116 a0.2.2.1),p 8 (I (a0.2.2.1.length:Int)),p 9 (I v3)]) [(1,K 82 y82 a0)]) (0,0) H fun _ g1 b1 e1 t1 ⟨v2,v3⟩ H=>iA [1,3,7,8,9,10]<|vQ<|cD H (fun H=>?_) (fun H=>?_)
 ·refine vK<|fQ<|jN r (fun(v5:Int)=>Z (G1 v5 [p 7 (L y116 a0.2.2.1),p 8 (I (a0.2.2.1.length:Int)),p 9 (I v3)]) [(1,K 82 y82 a0)]) (u146J2 v3 g1) (fun v5 H=>?_) (fun _ n2 e2 t2=>?_)
  ·refine jB [1,3,7,8,9] H fun H=>b1 H
  refine vB<|qD (fun v4=>Z (G1 v2 [p 5 (R 5),p 7 (L y116 a0.2.2.1),p 8 (I (a0.2.2.1.length:Int)),p 9 (I v3)]) [(5,K 116 y116 v4),(1,K 82 y82 a0)]) H fun v4 H=>iA [1,3,7,8,9,14]<|cD H (fun H=>jB [1,3,7,8,9] H fun H=>fK<|n2 H) fun H=>vK<|fK<|n2 H
 exact vE<|fE<|e1<|fX rfl<|n0 H
def u197(a0:Y82)(a1:Int):Option Bool :=
 gd ((u172 a0).isSome/\in64 (vl (u172 a0)-1)/\(u89 a1 0 (vl (u172 a0)-1)).isSome/\True) <|
 some (vl (u89 a1 0 (vl (u172 a0)-1)))
def k197:Ct:=lct 197 [.agg y82,.dat i64] (fun x=>u197 x.1 x.2.1) (fun r:Bool=>B r) (fun _=>())
theorem o197:Ok prog k197:=by
 refine okM [.tmp 4] func197 ?_;intro y ⟨_,_,_⟩ r H Q hn hr;have:=hz (tc o89 (tc o172 tn));refine iA [1,2]<|iB [4] H fun H=>vTT<|hr H
def u212J1:Int->Option Int
 | v3 =>
 some v3
def u212L2(a0:List Int)(g2:Int×Int->Option Int):Int×Int->Option Int
 | (v1,v2) =>
 if(decide (v2 < (a0.length:Int))) then
  gd (ix v2 a0.length/\True) <|
  gd (in64 (v2+1)/\True) <|
  g2 ((min v1 (a0.getD v2.toNat 0),v2+1))
 else
  u212J1 v1
def u212J0(a0:List Int):Unit->Option Int
 | _ =>
 gd (ix 0 a0.length/\True) <|
 lp (u212L2 a0) ((a0.getD (Int.toNat (0:Int)) (0:Int),1))
def u212(a0:List Int):Option Int :=
 if(decide ((a0.length:Int)<1)) then
  none
 else
  u212J0 a0 ()
def k212:Ct:=lct 212 [.dat i64.sl] (fun x=>u212 x.1) (fun r:Int=>I r) (fun _=>())
theorem o212:Ok prog k212:=by
 refine okM [.tmp 2] func212 ?_;intro y ⟨a0,_⟩ r H Q hn hr;refine iA [0]<|jN r (fun(_:Unit)=>Z [p 0 (L i64 a0)] []) (u212J0 a0) (fun _ H=>?_) (fun _ n0 e0 t0=>?_)
 ·refine iB [0,3] H fun H=>jN r (fun(v3:Int)=>Z [p 3 (J v3)] []) (u212J1) (fun v3 H=>?_) (fun _ n1 e1 t1=>?_)
  ·refine iA [2]<|vTT<|hr H
  refine iA [0,3,4]<|vB<|lX (fun((v1,v2):Int×Int)=>Z [p 0 (L i64 a0),p 3 (J v1),p 4 (I v2)] []) ((a0.getD (Int.toNat (0:Int)) (0:Int),1)) H fun _ g2 b2 e2 t2 ⟨v1,v2⟩ H=>vQ<|iA [0,3,4,15]<|cD H (fun H=>vK<|fQ<|vQ<|vB<|jB [0,3,4] H fun H=>fK<|fQ<|jB [0,3,4] H fun H=>b2 H) fun H=>vE<|fE<|e2<|fX rfl<|n1 H
 refine iA [0,7]<|cD H (fun H=>dead H) fun H=>vK<|n0 H
def u224J0:Unit->Option Bool
 | _ =>
 some true
def u224L1(a0:List Int)(g1:Int->Option Bool):Int->Option Bool
 | v0 =>
 if(decide (v0 < (a0.length:Int))) then
  gd (in64 (v0-1)/\ix (v0-1) a0.length/\ix v0 a0.length/\True) <|
  if(decide (a0.getD v0.toNat 0<=a0.getD (v0-1).toNat 0)) then
   some false
  else
   gd (in64 (v0+1)/\True) <|
   g1 (v0+1)
 else
  u224J0 ()
def u224(a0:List Int):Option Bool :=
 lp (u224L1 a0) 1
def k224:Ct:=lct 224 [.dat i64.sl] (fun x=>u224 x.1) (fun r:Bool=>B r) (fun _=>())
theorem o224:Ok prog k224:=by
 refine okM [.tmp 2] func224 ?_;intro y ⟨a0,_⟩ r H Q hn hr;refine iA [0]<|jN r (fun(_:Unit)=>Z [] []) (u224J0) (fun _ H=>?_) (fun _ n0 e0 t0=>?_)
 ·refine iA [2]<|vTT<|hr H
 refine iA [0,3]<|vB<|lX (fun(v0:Int)=>Z [p 0 (L i64 a0),p 3 (I v0)] []) 1 H fun _ g1 b1 e1 t1 v0 H=>vQ<|iA [0,3,7]<|cD H (fun H=>?_) (fun H=>?_)
 ·refine vK<|fQ<|vQ<|vB<|iB [0,3,19] H fun H=>cD H (fun H=>iA [2]<|vTT<|fDD<|fR<|t1<|fDD<|t0<|hr H) fun H=>vK<|fK<|fQ<|jB [0,3] H fun H=>b1 H
 exact vE<|fE<|e1<|fX rfl<|n0 H
def u220(a0:List Int):Option Bool :=
 gd ((u88 a0).isSome/\(u89 (vl (u88 a0)) 1 4).isSome/\(vl (u89 (vl (u88 a0)) 1 4)=true/\True->(u91 a0 0 100000).isSome)/\((vl (u89 (vl (u88 a0)) 1 4)&&vl (u91 a0 0 100000))=true/\True->(u224 a0).isSome)/\True) <|
 some (vl (u89 (vl (u88 a0)) 1 4)&&vl (u91 a0 0 100000)&&vl (u224 a0))
def k220:Ct:=lct 220 [.dat i64.sl] (fun x=>u220 x.1) (fun r:Bool=>B r) (fun _=>())
theorem o220:Ok prog k220:=by
 refine okM [.tmp 2] func220 ?_;intro y ⟨_,_⟩ r H Q hn hr;have:=hz (tc o224 (tc o91 (tc o89 (tc o88 tn))));refine iA [0]<|iB [2] H fun H=>vTT<|hr H
def u211(a0:Y247):Option Bool :=
 gd ((u220 a0.1).isSome/\(vl (u220 a0.1)=true/\True->(u220 a0.2.1).isSome)/\((vl (u220 a0.1)&&vl (u220 a0.2.1))=true/\True->in64 ((a0.1.length:Int)*(a0.2.1.length:Int)))/\((vl (u220 a0.1)&&vl (u220 a0.2.1)&&(a0.2.2.length:Int)==(a0.1.length:Int)*(a0.2.1.length:Int))=true/\True->(u91 a0.2.2 (-1000000) 1000000).isSome)/\True) <|
 some (vl (u220 a0.1)&&vl (u220 a0.2.1)&&(a0.2.2.length:Int)==(a0.1.length:Int)*(a0.2.1.length:Int)&&vl (u91 a0.2.2 (-1000000) 1000000))
def k211:Ct:=lct 211 [.agg y247] (fun x=>u211 x.1) (fun r:Bool=>B r) (fun _=>())
theorem o211:Ok prog k211:=by
 refine okM [.tmp 2] func211 ?_;intro y ⟨_,_⟩ r H Q hn hr;have:=hz (tc o91 (tc o220 tn));refine iA [1]<|iB [2] H fun H=>vTT<|hr H
def u210(a0:Y247)(a1:Bool):Option Bool :=
 gd ((u211 a0).isSome/\(a1=true/\(!vl (u211 a0))=false/\True->(u212 a0.2.2).isSome)/\True)<|lt (vl (u212 a0.2.2)) fun v0 =>
 some (!vl (u211 a0)||a1&&decide (v0<0))
def k210:Ct:=lct 210 [.agg y247,.dat (.pt Ty.bool)] (fun x=>u210 x.1 x.2.1) (fun r:Bool=>B r) (fun _=>())
theorem o210:Ok prog k210:=by
 refine okM [.tmp 3] func210 ?_;intro y ⟨_,_,_⟩ r H Q hn hr;have:=hz (tc o212 (tc o211 tn));refine iA [1,2]<|iD o212 [3] H fun _ H=>vTT<|hr H
def u219c210J0:Unit->Option Int
 | _ =>
 some (-1)
def u219c210L1(a0:List Y247)(a1:Bool)(g1:Int->Option Int):Int->Option Int
 | v0 =>
 if(decide (v0 < (a0.length:Int))) then
  gd (ix v0 a0.length/\(u210 (a0.getD v0.toNat (dflt y247)) a1).isSome/\True) <|
  if(vl (u210 (a0.getD v0.toNat (dflt y247)) a1)) then
   some v0
  else
   gd (in64 (v0+1)/\True) <|
   g1 (v0+1)
 else
  u219c210J0 ()
def u219c210(a0:List Y247)(a1:Bool):Option Int :=
 lp (u219c210L1 a0 a1) 0
def k219c210:Ct:=lct 219 [.dat y247.sl,.fn 210 Ty.bool.pt] (fun x=>u219c210 x.1 x.2.1) (fun r:Int=>I r) (fun _=>())
theorem o219c210:Ok prog k219c210:=by
 refine okM [.tmp 4] func219 ?_;intro y ⟨a0,a1,_⟩ r H Q hn hr;have:=hz (tc o210 tn);refine iA [0,1]<|jN r (fun(_:Unit)=>Z [] []) (u219c210J0) (fun _ H=>?_) (fun _ n0 e0 t0=>?_)
 ·refine iA [4]<|vTT<|hr H
 refine iA [0,1,7,8]<|vB<|lX (fun(v0:Int)=>Z [p 0 (L y247 a0),p 1 (AV.fn 210 [D Ty.bool.pt a1]),p 7 (I (a0.length:Int)),p 8 (I v0)] []) 0 H fun _ g1 b1 e1 t1 v0 H=>iA [0,1,7,8,9]<|vQ<|cD H (fun H=>?_) (fun H=>?_)
 ·refine vK<|fQ<|vQ<|vB<|iA [0,1,5,7,8]<|iB [0,1,5,7,8,16] H fun H=>cD H (fun H=>iA [4]<|vTT<|fDD<|fR<|t1<|fDD<|t0<|hr H) fun H=>vK<|fK<|fQ<|jB [0,1,7,8] H fun H=>b1 H
 exact vE<|fE<|e1<|fX rfl<|n0 H
def u209c210(a0:List Y247)(a1:Bool):Option Bool :=
 gd ((u219c210 a0 a1).isSome/\True)<|lt (vl (u219c210 a0 a1)) fun v0 =>
 some (decide (0<=v0))
def k209c210:Ct:=lct 209 [.dat y247.sl,.fn 210 (.pt Ty.bool)] (fun x=>u209c210 x.1 x.2.1) (fun r:Bool=>B r) (fun _=>())
theorem o209c210:Ok prog k209c210:=by
 refine okM [.tmp 4] func209 ?_;intro y ⟨_,_,_⟩ r H Q hn hr;have:=hz (tc o219c210 (tc o210 tn));refine iA [0,1]<|iD o219c210 [4] H fun _ H=>vTT<|hr H
def u195(a0:List Y247)(a1:Bool):Option Bool :=
 gd ((((a0.length:Int)==2)=true/\True->(u209c210 a0 a1).isSome)/\True) <|
 some ((a0.length:Int)==2&&!vl (u209c210 a0 a1))
def k195:Ct:=lct 195 [.dat y247.sl,.dat Ty.bool] (fun x=>u195 x.1 x.2.1) (fun r:Bool=>B r) (fun _=>())
theorem o195:Ok prog k195:=by
 refine okM [.tmp 4] func195 ?_;intro y ⟨_,_,_⟩ r H Q hn hr;have:=hz (tc o209c210 (tc o210 tn));refine iA [0,3]<|iB [4] H fun H=>vTT<|hr H
def u214(a0:Y116):Option Bool :=
 some a0.2.2.2
def k214:Ct:=lct 214 [.agg y116] (fun x=>u214 x.1) (fun r:Bool=>B r) (fun _=>())
theorem o214:Ok prog k214:=by
 refine okM [.tmp 2] func214 ?_;intro y ⟨_,_⟩ r H Q hn hr;refine iA [1]<|iA [2]<|vTT<|hr H
def u213c214J0:Unit->Option Int
 | _ =>
 some (-1)
def u213c214L1(a0:List Y116)(g1:Int->Option Int):Int->Option Int
 | v0 =>
 if(decide (v0 < (a0.length:Int))) then
  gd (ix v0 a0.length/\(u214 (a0.getD v0.toNat (dflt y116))).isSome/\True) <|
  if(vl (u214 (a0.getD v0.toNat (dflt y116)))) then
   some v0
  else
   gd (in64 (v0+1)/\True) <|
   g1 (v0+1)
 else
  u213c214J0 ()
def u213c214(a0:List Y116):Option Int :=
 lp (u213c214L1 a0) 0
def k213c214:Ct:=lct 213 [.dat y116.sl,.nof 214] (fun x=>u213c214 x.1) (fun r:Int=>I r) (fun _=>())
theorem o213c214:Ok prog k213c214:=by
 refine okM [.tmp 4] func213 ?_;intro y ⟨a0,_,_⟩ r H Q hn hr;have:=hz (tc o214 tn);refine iA [0,1]<|jN r (fun(_:Unit)=>Z [] []) (u213c214J0) (fun _ H=>?_) (fun _ n0 e0 t0=>?_)
 ·refine iA [4]<|vTT<|hr H
 refine iA [0,1,7,8]<|vB<|lX (fun(v0:Int)=>Z [p 0 (L y116 a0),p 1 (AV.fn 214 []),p 7 (I (a0.length:Int)),p 8 (I v0)] []) 0 H fun _ g1 b1 e1 t1 v0 H=>iA [0,1,7,8,9]<|vQ<|cD H (fun H=>?_) (fun H=>?_)
 ·refine vK<|fQ<|vQ<|vB<|iA [0,1,5,7,8]<|iB [0,1,5,7,8,16] H fun H=>cD H (fun H=>iA [4]<|vTT<|fDD<|fR<|t1<|fDD<|t0<|hr H) fun H=>vK<|fK<|fQ<|jB [0,1,7,8] H fun H=>b1 H
 exact vE<|fE<|e1<|fX rfl<|n0 H
def u196(a0:Y82):Option Int :=
 gd ((u213c214 a0.2.2.1).isSome/\True)<|lt (vl (u213c214 a0.2.2.1)) fun v0 =>
 some v0
def k196:Ct:=lct 196 [.agg y82] (fun x=>u196 x.1) (fun r:Int=>I r) (fun _=>())
theorem o196:Ok prog k196:=by
 refine okM [.tmp 2] func196 ?_;intro y ⟨_,_⟩ r H Q hn hr;have:=hz (tc o214 (tc o213c214 tn));refine iA [1]<|iD o213c214 [2] H fun _ H=>vTT<|hr H
def u194(a0:Int):Option Bool :=
 some (a0==4||a0==5)
def k194:Ct:=lct 194 [.dat i64] (fun x=>u194 x.1) (fun r:Bool=>B r) (fun _=>())
theorem o194:Ok prog k194:=by
 refine okM [.tmp 2] func194 ?_;intro y ⟨_,_⟩ r H Q hn hr;refine iA [0]<|iA [2]<|vTT<|hr H
def u169J0(a0:Y82)(a1:Y191):Bool->Option Bool
 | v2 =>
 if v2 then
  gd (ix a1.2.1 a0.2.2.1.length/\True) <|
  some ((a0.2.2.1.getD a1.2.1.toNat (dflt y116)).2.2.2&&a1.2.2.2.1==0)
 else
  some false
def u169(a0:Y82)(a1:Y191):Option Bool :=
 gd ((u194 a1.1).isSome/\True) <|
 if(vl (u194 a1.1)) then
  gd (((a1.2.2.2.1==0&&(a1.2.2.2.2.2.length:Int)==0)=true/\True->(u195 a1.2.2.2.2.1 false).isSome)/\((a1.2.2.2.1==0&&(a1.2.2.2.2.2.length:Int)==0&&vl (u195 a1.2.2.2.2.1 false))=true/\True->(u196 a0).isSome)/\((a1.2.2.2.1==0&&(a1.2.2.2.2.2.length:Int)==0&&vl (u195 a1.2.2.2.2.1 false)&&a1.2.1==vl (u196 a0)&&decide (0<=a1.2.1))=true/\True->(u197 a0 a1.2.2.1).isSome)/\True)<|lt (vl (u196 a0)) fun v0 =>
  some (a1.2.2.2.1==0&&(a1.2.2.2.2.2.length:Int)==0&&vl (u195 a1.2.2.2.2.1 false)&&a1.2.1==v0&&decide (0<=a1.2.1)&&vl (u197 a0 a1.2.2.1)&&a1.2.2.1 != a1.2.1)
 else
  gd ((u195 a1.2.2.2.2.1 true).isSome/\((!vl (u195 a1.2.2.2.2.1 true))=false/\True->(u195 a1.2.2.2.2.2 true).isSome)/\((!vl (u195 a1.2.2.2.2.1 true)||!vl (u195 a1.2.2.2.2.2 true))=false/\True->(u172 a0).isSome)/\((!vl (u195 a1.2.2.2.2.1 true)||!vl (u195 a1.2.2.2.2.2 true)||a1.2.2.1 != vl (u172 a0))=false/\True->(u197 a0 a1.2.1).isSome)/\True)<|lt (vl (u172 a0)) fun v1 =>
  if(!vl (u195 a1.2.2.2.2.1 true)||!vl (u195 a1.2.2.2.2.2 true)||a1.2.2.1 != v1||!vl (u197 a0 a1.2.1)) then
   some false
  else
   if(a1.1==1) then
    gd (ix a1.2.1 a0.2.2.1.length/\((!(a0.2.2.1.getD a1.2.1.toNat (dflt y116)).2.2.2)=true/\True->(u89 a1.2.2.2.1 1 3).isSome)/\True) <|
    some (!(a0.2.2.1.getD a1.2.1.toNat (dflt y116)).2.2.2&&vl (u89 a1.2.2.2.1 1 3))
   else
    if(a1.1==2) then
     u169J0 a0 a1 (a1.1==2)
    else
     u169J0 a0 a1 (a1.1==3)
def k169:Ct:=lct 169 [.agg y82,.agg y191] (fun x=>u169 x.1 x.2.1) (fun r:Bool=>B r) (fun _=>())
theorem o169:Ok prog k169:=by
 refine okM [.tmp 4] func169 ?_;intro y ⟨a0,a1,_⟩ r H Q hn hr;have:=hz (tc o89 (tc o197 (tc o172 (tc o195 (tc o196 (tc o194 tn))))));refine iA [2,3]<|vQ<|iB [2,3,7] H fun H=>cD H (fun H=>iD o196 [4] H fun _ H=>vTT<|fR<|hr H) fun H=>vK<|fQ<|vQ<|iD o172 [2,3,70] H fun _ H=>cD H (fun H=>iA [4]<|vTT<|fR<|hr H) fun H=>vK<|fQ<|vQ<|iA [2,3,72]<|vB<|iA [2,3,72,73]<|cD H (fun H=>iB [4] H fun H=>vTT<|fDD<|fR<|hr H) fun H=>jN r (fun(v2:Bool)=>Z (G0 [p 88 (B v2)]) [(3,K 191 y191 a1),(2,K 82 y82 a0)]) (u169J0 a0 a1) (fun v2 H=>?_) (fun _ n0 e0 t0=>?_)
 ·refine cD H (fun H=>iB [4] H fun H=>vTT<|fDD<|fR<|hr H) fun H=>vK<|fK<|fQ<|iA [4]<|vTT<|hr H
 refine iA [2,3,72,88]<|cD H (fun H=>vK<|n0 H) fun H=>jA [2,3,88]<|n0 H
def u171(a0:Y191)(a1:Y191):Option Bool :=
 some (a0.1==a1.1&&a0.2.1==a1.2.1&&a0.2.2.1==a1.2.2.1)
def k171:Ct:=lct 171 [.agg y191,.dat (.pt y191)] (fun x=>u171 x.1 x.2.1) (fun r:Bool=>B r) (fun _=>())
theorem o171:Ok prog k171:=by
 refine okM [.tmp 3] func171 ?_;intro y ⟨_,_,_⟩ r H Q hn hr;refine iA [1,2]<|iA [3]<|vTT<|hr H
def u198c171J0:Unit->Option Int
 | _ =>
 some (-1)
def u198c171L1(a0:List Y191)(a1:Y191)(g1:Int->Option Int):Int->Option Int
 | v0 =>
 if(decide (v0 < (a0.length:Int))) then
  gd (ix v0 a0.length/\(u171 (a0.getD v0.toNat (dflt y191)) a1).isSome/\True) <|
  if(vl (u171 (a0.getD v0.toNat (dflt y191)) a1)) then
   some v0
  else
   gd (in64 (v0+1)/\True) <|
   g1 (v0+1)
 else
  u198c171J0 ()
def u198c171(a0:List Y191)(a1:Y191):Option Int :=
 lp (u198c171L1 a0 a1) 0
def k198c171:Ct:=lct 198 [.dat y191.sl,.fn 171 y191.pt] (fun x=>u198c171 x.1 x.2.1) (fun r:Int=>I r) (fun _=>())
theorem o198c171:Ok prog k198c171:=by
 refine okM [.tmp 4] func198 ?_;intro y ⟨a0,a1,_⟩ r H Q hn hr;have:=hz (tc o171 tn);refine iA [0,1]<|jN r (fun(_:Unit)=>Z [] []) (u198c171J0) (fun _ H=>?_) (fun _ n0 e0 t0=>?_)
 ·refine iA [4]<|vTT<|hr H
 refine iA [0,1,7,8]<|vB<|lX (fun(v0:Int)=>Z [p 0 (L y191 a0),p 1 (AV.fn 171 [D y191.pt a1]),p 7 (I (a0.length:Int)),p 8 (I v0)] []) 0 H fun _ g1 b1 e1 t1 v0 H=>iA [0,1,7,8,9]<|vQ<|cD H (fun H=>?_) (fun H=>?_)
 ·refine vK<|fQ<|vQ<|vB<|iA [0,1,5,7,8]<|iB [0,1,5,7,8,16] H fun H=>cD H (fun H=>iA [4]<|vTT<|fDD<|fR<|t1<|fDD<|t0<|hr H) fun H=>vK<|fK<|fQ<|jB [0,1,7,8] H fun H=>b1 H
 exact vE<|fE<|e1<|fX rfl<|n0 H
def u170c171(a0:List Y191)(a1:Y191):Option Bool :=
 gd ((u198c171 a0 a1).isSome/\True)<|lt (vl (u198c171 a0 a1)) fun v0 =>
 some (decide (0<=v0))
def k170c171:Ct:=lct 170 [.dat y191.sl,.fn 171 (.pt y191)] (fun x=>u170c171 x.1 x.2.1) (fun r:Bool=>B r) (fun _=>())
theorem o170c171:Ok prog k170c171:=by
 refine okM [.tmp 4] func170 ?_;intro y ⟨_,_,_⟩ r H Q hn hr;have:=hz (tc o198c199 (tc o198c171 (tc o171 tn)));refine iA [0,1]<|iD o198c171 [4] H fun _ H=>vTT<|hr H
def u145J0(a0:Y82):Unit->Option Bool
 | _ =>
 some (decide ((a0.2.2.2.1.length:Int)<=8))
def u145L1(a0:Y82)(g1:Int->Option Bool):Int->Option Bool
 | v1 =>
 if(decide (v1 < (a0.2.2.2.1.length:Int))) then
  gd (ix v1 a0.2.2.2.1.length/\True)<|lt (a0.2.2.2.1.getD v1.toNat (dflt y191)) fun v2 =>
  gd ((u169 a0 v2).isSome/\((!vl (u169 a0 v2))=false/\True->(0:Int)<=(0:Int)/\(0:Int)<=v1/\v1<=(a0.2.2.2.1.length:Int))/\((!vl (u169 a0 v2))=false/\True->(u170c171 (List.take v1.toNat a0.2.2.2.1) v2).isSome)/\True) <|
  if(!vl (u169 a0 v2)||vl (u170c171 (List.take v1.toNat a0.2.2.2.1) v2)) then
   some false
  else
   gd (in64 (v1+1)/\True) <|
   g1 (v1+1)
 else
  u145J0 a0 ()
def u145(a0:Y82):Option Bool :=
 lp (u145L1 a0) 0
def k145:Ct:=lct 145 [.agg y82] (fun x=>u145 x.1) (fun r:Bool=>B r) (fun _=>())
theorem o145:Ok prog k145:=by
 refine okM [.tmp 2] func145 ?_;intro y ⟨a0,_⟩ r H Q hn hr;have:=hz (tc o170c199 (tc o170c171 (tc o171 (tc o169 tn))));refine iA [1]<|jN r (fun(_:Unit)=>Z [p 1 (R 1)] [(1,K 82 y82 a0)]) (u145J0 a0) (fun _ H=>?_) (fun _ n0 e0 t0=>?_)
 ·refine iA [2]<|vTT<|hr H
 refine iA [1,6,7,8]<|vB<|lX (fun(v1:Int)=>Z [p 1 (R 1),p 6 (L y191 a0.2.2.2.1),p 7 (I (a0.2.2.2.1.length:Int)),p 8 (I v1)] [(1,K 82 y82 a0)]) 0 H fun _ g1 b1 e1 t1 v1 H=>iA [1,6,7,8,9]<|vQ<|cD H (fun H=>?_) (fun H=>?_)
 ·refine vK<|fQ<|vQ<|vB<|qD (fun v2=>Z (G1 v1 [p 4 (R 4),p 6 (L y191 a0.2.2.2.1),p 7 (I (a0.2.2.2.1.length:Int)),p 8 (I v1)]) [(4,K 191 y191 v2),(1,K 82 y82 a0)]) H fun v2 H=>iB [1,6,7,8,24] H fun H=>cD H (fun H=>iA [2]<|vTT<|fDD<|fR<|t1<|fDD<|t0<|hr H) fun H=>vK<|fK<|fQ<|jB [1,6,7,8] H fun H=>b1 H
 exact vE<|fE<|e1<|fX rfl<|n0 H
def u144J0(a0:List Y116):List ByteArray->Option Bool
 | v6 =>
 gd ((u168 a0).isSome/\(u89 (vl (u168 a0)) 2 5).isSome/\(vl (u89 (vl (u168 a0)) 2 5)=true/\True->(u113 v6).isSome)/\True) <|
 some (vl (u89 (vl (u168 a0)) 2 5)&&vl (u113 v6))
def u144J2(v3:Int)(g1:List ByteArray×Int->Option Bool):List ByteArray->Option Bool
 | v5 =>
 gd (in64 (v3+1)/\True) <|
 g1 (v5,v3+1)
def u144L1(a0:List Y116)(g1:List ByteArray×Int->Option Bool):List ByteArray×Int->Option Bool
 | (v2,v3) =>
 if(decide (v3 < (a0.length:Int))) then
  gd (ix v3 a0.length/\True)<|lt (a0.getD v3.toNat (dflt y116)) fun v4 =>
  gd ((v2.length+[v4.1].length<=9223372036854775807/\(v2.length+[v4.1].length)*16<=140737488355328)/\True) <|
  gd (in64 ((a0.length:Int)-1)/\True) <|
  if(v3==(a0.length:Int)-1) then
   if(v4.2.1 != 2||v4.2.2.1 != 0||v4.2.2.2) then
    some false
   else
    u144J2 v3 g1 (v2++[v4.1])
  else
   gd (((v4.2.1 != 1)=false/\True->(u89 v4.2.2.1 0 500).isSome)/\True) <|
   if(v4.2.1 != 1||!vl (u89 v4.2.2.1 0 500)) then
    some false
   else
    u144J2 v3 g1 (v2++[v4.1])
 else
  u144J0 a0 v2
def u144(a0:List Y116):Option Bool :=
 lp (u144L1 a0) ([],0)
def k144:Ct:=lct 144 [.dat y116.sl] (fun x=>u144 x.1) (fun r:Bool=>B r) (fun _=>())
theorem o144:Ok prog k144:=by
 refine okM [.tmp 2] func144 ?_;intro y ⟨a0,_⟩ r H Q hn hr;have:=hz (tc o113 (tc o89 (tc o168 tn)));refine iA [0]<|iA [0,3]<|jN r (fun(v6:List ByteArray)=>Z [p 0 (L y116 a0),p 3 (O 17)] [(17,A 9 Ty.str v6 0)]) (u144J0 a0) (fun v6 H=>?_) (fun _ n0 e0 t0=>?_)
 ·refine iB [2] H fun H=>vTT<|hr H
 refine iA [0,3,6,7,8]<|vB<|lX (fun((v2,v3):List ByteArray×Int)=>Z [p 0 (L y116 a0),p 3 (O 17),p 6 (L y116 a0),p 7 (I (a0.length:Int)),p 8 (I v3)] [(17,A 9 Ty.str v2 0)]) ([],0) H fun _ g1 b1 e1 t1 ⟨v2,v3⟩ H=>iA [0,3,6,7,8,9]<|vQ<|cD H (fun H=>?_) (fun H=>?_)
 ·refine vK<|fQ<|jN r (fun(v5:List ByteArray)=>Z [p 0 (L y116 a0),p 3 (O 17),p 6 (L y116 a0),p 7 (I (a0.length:Int)),p 8 (I v3)] [(17,A 9 Ty.str v5 0)]) (u144J2 v3 g1) (fun v5 H=>?_) (fun _ n2 e2 t2=>?_)
  ·refine jB [0,3,6,7,8] H fun H=>b1 H
  refine vB<|qD (fun v4=>Z [p 0 (L y116 a0),p 3 (O 17),p 4 (I v3),p 5 (R 5),p 6 (L y116 a0),p 7 (I (a0.length:Int)),p 8 (I v3)] [(5,K 116 y116 v4),(17,A 9 Ty.str v2 0)]) H fun v4 H=>iB [0,3,4,5,6,7,8] H fun H=>iB [0,3,5,6,7,8,22] H fun H=>cD H (fun H=>?_) (fun H=>?_)
  ·refine iA [0,3,6,7,8,34]<|cD H (fun H=>iA [2]<|vTT<|fDD<|t2<|t1<|fDD<|t0<|hr H) fun H=>vK<|fK<|n2 H
  refine iB [0,3,6,7,8,43] H fun H=>cD H (fun H=>iA [2]<|vTT<|fDD<|t2<|t1<|fDD<|t0<|hr H) fun H=>vK<|fK<|n2 H
 exact vE<|fE<|e1<|fX rfl<|n0 H
def u112(a0:Y82):Option Bool :=
 gd ((u132 a0.1).isSome/\(vl (u132 a0.1)=true/\True->(u144 a0.2.2.1).isSome)/\((vl (u132 a0.1)&&vl (u144 a0.2.2.1))=true/\True->(u145 a0).isSome)/\((vl (u132 a0.1)&&vl (u144 a0.2.2.1)&&vl (u145 a0))=true/\True->(u89 a0.2.2.2.2.2.1 0 100000).isSome)/\((vl (u132 a0.1)&&vl (u144 a0.2.2.1)&&vl (u145 a0)&&vl (u89 a0.2.2.2.2.2.1 0 100000))=true/\True->(u89 a0.2.2.2.2.2.2 0 100000).isSome)/\((vl (u132 a0.1)&&vl (u144 a0.2.2.1)&&vl (u145 a0)&&vl (u89 a0.2.2.2.2.2.1 0 100000)&&vl (u89 a0.2.2.2.2.2.2 0 100000))=true/\True->(u146 a0).isSome)/\True) <|
 some (vl (u132 a0.1)&&vl (u144 a0.2.2.1)&&vl (u145 a0)&&vl (u89 a0.2.2.2.2.2.1 0 100000)&&vl (u89 a0.2.2.2.2.2.2 0 100000)&&vl (u146 a0))
def k112:Ct:=lct 112 [.agg y82] (fun x=>u112 x.1) (fun r:Bool=>B r) (fun _=>())
theorem o112:Ok prog k112:=by
 refine okM [.tmp 2] func112 ?_;intro y ⟨_,_⟩ r H Q hn hr;have:=hz (tc o146 (tc o89 (tc o145 (tc o144 (tc o132 tn)))));refine iA [1]<|iB [2] H fun H=>vTT<|hr H
def u82J0(a0:List Y82):List ByteArray->Option Bool
 | v4 =>
 gd ((decide ((a0.length:Int)<=8)=true/\True->(u113 v4).isSome)/\True) <|
 some (decide ((a0.length:Int)<=8)&&vl (u113 v4))
def u82L1(a0:List Y82)(g1:List ByteArray×Int->Option Bool):List ByteArray×Int->Option Bool
 | (v1,v2) =>
 if(decide (v2 < (a0.length:Int))) then
  gd (ix v2 a0.length/\True)<|lt (a0.getD v2.toNat (dflt y82)) fun v3 =>
  gd ((u112 v3).isSome/\True) <|
  if(!vl (u112 v3)) then
   some false
  else
   gd ((v1.length+[v3.1].length<=9223372036854775807/\(v1.length+[v3.1].length)*16<=140737488355328)/\True) <|
   gd (in64 (v2+1)/\True) <|
   g1 (v1++[v3.1],v2+1)
 else
  u82J0 a0 v1
def u82(a0:List Y82):Option Bool :=
 lp (u82L1 a0) ([],0)
def k82:Ct:=lct 82 [.agg y82.sl] (fun x=>u82 x.1) (fun r:Bool=>B r) (fun _=>())
theorem o82:Ok prog k82:=by
 refine okM [.tmp 2] func82 ?_;intro y ⟨a0,_⟩ r H Q hn hr;have:=hz (tc o113 (tc o112 tn));refine iA [1]<|iA [1,3]<|jN r (fun(v4:List ByteArray)=>Z (G4 []) [(1,bx 37 [L y82 a0]),(20,A 9 Ty.str v4 0)]) (u82J0 a0) (fun v4 H=>?_) (fun _ n0 e0 t0=>?_)
 ·refine iB [2] H fun H=>vTT<|hr H
 refine iA [1,3,7,8,9]<|vB<|lX (fun((v1,v2):List ByteArray×Int)=>Z (G4 [p 7 (L y82 a0),p 8 (I (a0.length:Int)),p 9 (I v2)]) [(1,bx 37 [L y82 a0]),(20,A 9 Ty.str v1 0)]) ([],0) H fun _ g1 b1 e1 t1 ⟨v1,v2⟩ H=>iA [1,3,7,8,9,10]<|vQ<|cD H (fun H=>?_) (fun H=>?_)
 ·refine vK<|fQ<|vQ<|vB<|qD (fun v3=>Z (G4 [p 5 (R 5),p 7 (L y82 a0),p 8 (I (a0.length:Int)),p 9 (I v2)]) [(5,K 82 y82 v3),(1,bx 37 [L y82 a0]),(20,A 9 Ty.str v1 0)]) H fun v3 H=>vQ<|iB [1,3,5,7,8,9,15] H fun H=>cD H (fun H=>iA [2]<|vTT<|fR<|fDD<|fR<|t1<|fDD<|t0<|hr H) fun H=>vK<|fQ<|jB [1,3,7,8,9] H fun H=>fK<|fQ<|jB [1,3,7,8,9] H fun H=>b1 H
 exact vE<|fE<|e1<|fX rfl<|n0 H
def u118c87J0:Unit->Option Int
 | _ =>
 some (-1)
def u118c87L1(a0:List Int)(g1:Int->Option Int):Int->Option Int
 | v0 =>
 if(decide (v0 < (a0.length:Int))) then
  gd (ix v0 a0.length/\(u87 (a0.getD v0.toNat 0)).isSome/\True) <|
  if(vl (u87 (a0.getD v0.toNat 0))) then
   some v0
  else
   gd (in64 (v0+1)/\True) <|
   g1 (v0+1)
 else
  u118c87J0 ()
def u118c87(a0:List Int):Option Int :=
 lp (u118c87L1 a0) 0
def k118c87:Ct:=lct 118 [.dat i64.sl,.nof 87] (fun x=>u118c87 x.1) (fun r:Int=>I r) (fun _=>())
theorem o118c87:Ok prog k118c87:=by
 refine okM [.tmp 4] func118 ?_;intro y ⟨a0,_,_⟩ r H Q hn hr;have:=hz (tc o87 tn);refine iA [0,1]<|jN r (fun(_:Unit)=>Z [] []) (u118c87J0) (fun _ H=>?_) (fun _ n0 e0 t0=>?_)
 ·refine iA [4]<|vTT<|hr H
 refine iA [0,1,7,8]<|vB<|lX (fun(v0:Int)=>Z [p 0 (L i64 a0),p 1 (AV.fn 87 []),p 7 (I (a0.length:Int)),p 8 (I v0)] []) 0 H fun _ g1 b1 e1 t1 v0 H=>iA [0,1,7,8,9]<|vQ<|cD H (fun H=>?_) (fun H=>?_)
 ·refine vK<|fQ<|vQ<|vB<|iA [0,1,5,7,8]<|iB [0,1,5,7,8,16] H fun H=>cD H (fun H=>iA [4]<|vTT<|fDD<|fR<|t1<|fDD<|t0<|hr H) fun H=>vK<|fK<|fQ<|jB [0,1,7,8] H fun H=>b1 H
 exact vE<|fE<|e1<|fX rfl<|n0 H
def u86c87(a0:List Int):Option Bool :=
 gd ((u118c87 a0).isSome/\True)<|lt (vl (u118c87 a0)) fun v0 =>
 some (decide (0<=v0))
def k86c87:Ct:=lct 86 [.dat i64.sl,.nof 87] (fun x=>u86c87 x.1) (fun r:Bool=>B r) (fun _=>())
theorem o86c87:Ok prog k86c87:=by
 refine okM [.tmp 4] func86 ?_;intro y ⟨_,_,_⟩ r H Q hn hr;have:=hz (tc o118c87 (tc o87 tn));refine iA [0,1]<|iD o118c87 [4] H fun _ H=>vTT<|hr H
def u51J2:List Int->Option Bool
 | v13 =>
 gd ((u86c87 v13).isSome/\True) <|
 some (!vl (u86c87 v13))
def u51J4(v9:Int)(g3:Int×List Int->Option Bool):List Int->Option Bool
 | v12 =>
 gd (in64 (v9+1)/\True) <|
 g3 (v9+1,v12)
def u51L3(a1:Y41)(g3:Int×List Int->Option Bool):Int×List Int->Option Bool
 | (v9,v10) =>
 if(decide (v9 < (a1.2.2.length:Int))) then
  gd (ix v9 a1.2.2.length/\True)<|lt (a1.2.2.getD v9.toNat (dflt y114)) fun v11 =>
  gd (((v11.2.1 != 1&&v11.2.1 != 2)=false/\True->(u85 a1 v11.2.2).isSome)/\True) <|
  if(v11.2.1 != 1&&v11.2.1 != 2||!vl (u85 a1 v11.2.2)) then
   some false
  else
   if(v11.2.1==1) then
    gd (ix v11.2.2 v10.length/\v11.2.2.toNat<v10.length/\in64 (v10.getD v11.2.2.toNat 0+1)/\ix v11.2.2 v10.length/\v11.2.2.toNat<v10.length/\True) <|
    u51J4 v9 g3 (v10.set v11.2.2.toNat (v10.getD v11.2.2.toNat 0+1))
   else
    u51J4 v9 g3 v10
 else
  u51J2 v10
def u51J0(a1:Y41):List Int->Option Bool
 | v6 =>
 lp (u51L3 a1) (0,v6)
def u51L1(a1:Y41)(a0:List Y82)(g1:Int×List Int->Option Bool):Int×List Int->Option Bool
 | (v2,v3) =>
 if(decide (v2 < (a1.1.length:Int))) then
  gd (ix v2 a1.1.length/\True)<|lt (a1.1.getD v2.toNat (dflt y112)) fun v4 =>
  gd ((u84 a1 a0 v4).isSome/\True) <|
  if(!vl (u84 a1 a0 v4)) then
   some false
  else
   gd (in64 ((v4.2.2.length:Int)-1)/\ix ((v4.2.2.length:Int)-1) v4.2.2.length/\ix (v4.2.2.getD ((v4.2.2.length:Int)-1).toNat 0) v3.length/\Int.toNat (v4.2.2.getD ((v4.2.2.length:Int)-1).toNat 0)<v3.length/\in64 (v3.getD (Int.toNat (v4.2.2.getD ((v4.2.2.length:Int)-1).toNat 0)) 0+1)/\ix (v4.2.2.getD ((v4.2.2.length:Int)-1).toNat 0) v3.length/\Int.toNat (v4.2.2.getD ((v4.2.2.length:Int)-1).toNat 0)<v3.length/\True)<|lt (v3.set (Int.toNat (v4.2.2.getD ((v4.2.2.length:Int)-1).toNat 0)) (v3.getD (Int.toNat (v4.2.2.getD ((v4.2.2.length:Int)-1).toNat 0)) 0+1)) fun v5 =>
   gd (in64 (v2+1)/\True) <|
   g1 (v2+1,v5)
 else
  u51J0 a1 v3
def u51(a0:List Y82)(a1:Y41):Option Bool :=
 gd ((u82 a0).isSome/\((!vl (u82 a0))=false/\True->(u83 a1).isSome)/\True) <|
 if(!vl (u82 a0)||!vl (u83 a1)) then
  some false
 else
  gd ((0<=(a1.2.1.length:Int)/\(a1.2.1.length:Int)=(a1.2.1.length:Int)/\(a1.2.1.length:Int).toNat*8<=281474976710656/\(a1.2.1.length:Int)<=9223372036854775807)/\True) <|
  lp (u51L1 a1 a0) ((0,List.replicate (a1.2.1.length:Int).toNat 0))
def k51:Ct:=lct 51 [.agg y82.sl,.agg y41] (fun x=>u51 x.1 x.2.1) (fun r:Bool=>B r) (fun _=>())
theorem o51:Ok prog k51:=by
 refine okM [.tmp 4] func51 ?_;intro y ⟨a0,a1,_⟩ r H Q hn hr;have:=hz (tc o87 (tc o86c87 (tc o85 (tc o84 (tc o83 (tc o82 tn))))));refine iA [2,3]<|vQ<|iB [2,3,17] H fun H=>cD H (fun H=>iA [4]<|vTT<|fR<|hr H) fun H=>vK<|fQ<|iB [2,3,5] H fun H=>jN r (fun(v6:List Int)=>Z [p 3 (R 3),p 5 (O 21)] [(21,A 3 i64 v6 0),(3,K 41 y41 a1)]) (u51J0 a1) (fun v6 H=>?_) (fun _ n0 e0 t0=>?_)
 ·refine jN r (fun(v13:List Int)=>Z [p 5 (O 21)] [(21,A 3 i64 v13 0)]) (u51J2) (fun v13 H=>?_) (fun _ n2 e2 t2=>?_)
  ·refine iB [4] H fun H=>vTT<|hr H
  refine iA [3,5,49,50,51]<|vB<|lX (fun((v9,v10):Int×List Int)=>Z [p 3 (R 3),p 5 (O 21),p 49 (L y114 a1.2.2),p 50 (I (a1.2.2.length:Int)),p 51 (I v9)] [(21,A 3 i64 v10 0),(3,K 41 y41 a1)]) (0,v6) H fun _ g3 b3 e3 t3 ⟨v9,v10⟩ H=>iA [3,5,49,50,51,52]<|vQ<|cD H (fun H=>?_) (fun H=>?_)
  ·refine vK<|fQ<|jN r (fun(v12:List Int)=>Z [p 3 (R 3),p 5 (O 21),p 49 (L y114 a1.2.2),p 50 (I (a1.2.2.length:Int)),p 51 (I v9)] [(21,A 3 i64 v12 0),(3,K 41 y41 a1)]) (u51J4 v9 g3) (fun v12 H=>?_) (fun _ n4 e4 t4=>?_)
   ·refine jB [3,5,49,50,51] H fun H=>b3 H
   refine vB<|qD (fun v11=>Z [p 3 (R 3),p 5 (O 21),p 9 (R 9),p 49 (L y114 a1.2.2),p 50 (I (a1.2.2.length:Int)),p 51 (I v9)] [(9,K 114 y114 v11),(21,A 3 i64 v10 0),(3,K 41 y41 a1)]) H fun v11 H=>vQ<|iB [3,5,9,49,50,51,69] H fun H=>cD H (fun H=>iA [4]<|vTT<|fR<|fDD<|t4<|t3<|fDD<|t2<|hr H) fun H=>vK<|fQ<|iA [3,5,9,49,50,51,72]<|cD H (fun H=>jB [3,5,49,50,51] H fun H=>fK<|n4 H) fun H=>vK<|fK<|n4 H
  exact vE<|fE<|e3<|fX rfl<|n2 H
 refine iA [2,3,5,23,24,25]<|vB<|lX (fun((v2,v3):Int×List Int)=>Z (G0 [p 5 (O 21),p 23 (L y112 a1.1),p 24 (I (a1.1.length:Int)),p 25 (I v2)]) ((21,A 3 i64 v3 0)::W2 a1 a0)) ((0,List.replicate (a1.2.1.length:Int).toNat 0)) H fun _ g1 b1 e1 t1 ⟨v2,v3⟩ H=>iA [2,3,5,23,24,25,26]<|vQ<|cD H (fun H=>?_) (fun H=>?_)
 ·refine vK<|fQ<|vQ<|vB<|qD (fun v4=>Z (G0 [p 5 (O 21),p 7 (R 7),p 23 (L y112 a1.1),p 24 (I (a1.1.length:Int)),p 25 (I v2)]) ((7,K 112 y112 v4)::(21,A 3 i64 v3 0)::W2 a1 a0)) H fun v4 H=>vQ<|iB [2,3,5,7,23,24,25,33] H fun H=>cD H (fun H=>iA [4]<|vTT<|fR<|fDD<|fR<|t1<|fDD<|t0<|hr H) fun H=>vK<|fQ<|zD (fun v5=>Z (G0 [p 5 (O 21),p 23 (L y112 a1.1),p 24 (I (a1.1.length:Int)),p 25 (I v2)]) ((21,A 3 i64 v5 0)::(7,K 112 y112 v4)::W2 a1 a0)) H fun v5 H=>fK<|fQ<|jB [2,3,5,23,24,25] H fun H=>b1 H
 exact vE<|fE<|e1<|fX rfl<|n0 H
def u23J3:Unit->Option Bool
 | _ =>
 some true
def u23L4(v9:List Int)(a0:Y44)(g4:Int->Option Bool):Int->Option Bool
 | v11 =>
 if(decide (v11 < (a0.2.2.length:Int))) then
  gd (ix v11 a0.2.2.length/\True)<|lt (a0.2.2.getD v11.toNat (dflt y55)) fun v12 =>
  gd (ix v11 v9.length/\v11.toNat<v9.length/\(u53 v12 (v9.getD v11.toNat 0)).isSome/\True) <|
  if(!vl (u53 v12 (v9.getD v11.toNat 0))) then
   some false
  else
   gd (in64 (v11+1)/\True) <|
   g4 (v11+1)
 else
  u23J3 ()
def u23J0(a0:Y44):List Int->Option Bool
 | v9 =>
 lp (u23L4 v9 a0) 0
def u23J2(v4:Int)(g1:Int×List Int->Option Bool):List Int->Option Bool
 | v8 =>
 gd (in64 (v4+1)/\True) <|
 g1 (v4+1,v8)
def u23L1(v0:List Y102)(a0:Y44)(g1:Int×List Int->Option Bool):Int×List Int->Option Bool
 | (v4,v5) =>
 if(decide (v4 < (v0.length:Int))) then
  gd (ix v4 v0.length/\v4.toNat<v0.length/\True)<|lt (v0.getD v4.toNat (dflt y102)) fun v6 =>
  if(!v6.2.2.2) then
   gd (ix v6.2.2.1 v5.length/\v6.2.2.1.toNat<v5.length/\in64 (v5.getD v6.2.2.1.toNat 0+1)/\ix v6.2.2.1 v5.length/\v6.2.2.1.toNat<v5.length/\True)<|lt (v5.set v6.2.2.1.toNat (v5.getD v6.2.2.1.toNat 0+1)) fun v7 =>
   u23J2 v4 g1 v7
  else
   u23J2 v4 g1 v5
 else
  u23J0 a0 v5
def u23(a0:Y44):Option Bool :=
 gd ((u51 a0.1 a0.2.1).isSome/\True) <|
 if(!vl (u51 a0.1 a0.2.1)||(a0.2.2.length:Int) != (a0.2.1.2.1.length:Int)) then
  some false
 else
  gd ((0<=(a0.2.2.length:Int)/\(a0.2.2.length:Int)=(a0.2.2.length:Int)/\(a0.2.2.length:Int).toNat*8<=281474976710656/\(a0.2.2.length:Int)<=9223372036854775807)/\True) <|
  gd ((u52 a0.2.1).isSome/\True)<|lt (vl (u52 a0.2.1)) fun v0 =>
  lp (u23L1 v0 a0) ((0,List.replicate (a0.2.2.length:Int).toNat 0))
def k23:Ct:=lct 23 [.agg y44] (fun x=>u23 x.1) (fun r:Bool=>B r) (fun _=>())
theorem o23:Ok prog k23:=by
 refine okM [.tmp 2] func23 ?_;intro y ⟨a0,_⟩ r H Q hn hr;have:=hz (tc o53 (tc o52 (tc o51 tn)));refine iA [1]<|vQ<|iB [1,23] H fun H=>cD H (fun H=>iA [2]<|vTT<|fR<|hr H) fun H=>vK<|fQ<|iB [1,3] H fun H=>jN r (fun(v9:List Int)=>Z [p 1 (R 1),p 3 (O 27)] [(27,A 2 i64 v9 0),(1,K 44 y44 a0)]) (u23J0 a0) (fun v9 H=>?_) (fun _ n0 e0 t0=>?_)
 ·refine jN r (fun(_:Unit)=>Z [] []) (u23J3) (fun _ H=>?_) (fun _ n3 e3 t3=>?_)
  ·refine iA [2]<|vTT<|hr H
  refine iA [3,48,49,50]<|vB<|lX (fun(v11:Int)=>Z [p 3 (O 27),p 48 (L y55 a0.2.2),p 49 (I (a0.2.2.length:Int)),p 50 (I v11)] [(27,A 2 i64 v9 0)]) 0 H fun _ g4 b4 e4 t4 v11 H=>iA [3,48,49,50,51]<|vQ<|cD H (fun H=>?_) (fun H=>?_)
  ·refine vK<|fQ<|vQ<|vB<|qD (fun v12=>Z [p 3 (O 27),p 6 (I v11),p 7 (R 7),p 48 (L y55 a0.2.2),p 49 (I (a0.2.2.length:Int)),p 50 (I v11)] [(7,K 55 y55 v12),(27,A 2 i64 v9 0)]) H fun v12 H=>iB [3,48,49,50,61] H fun H=>cD H (fun H=>iA [2]<|vTT<|fDD<|fR<|t4<|fDD<|t3<|hr H) fun H=>vK<|fK<|fQ<|jB [3,48,49,50] H fun H=>b4 H
  exact vE<|fE<|e4<|fX rfl<|n3 H
 refine iD o52 [1,3,30,31,32] H fun v0 H=>vB<|lX (fun((v4,v5):Int×List Int)=>Z [p 1 (R 1),p 3 (O 27),p 30 (O 30),p 31 (I (v0.length:Int)),p 32 (I v4)] [(30,A 102 y102 v0 0),(27,A 2 i64 v5 0),(1,K 44 y44 a0)]) ((0,List.replicate (a0.2.2.length:Int).toNat 0)) H fun _ g1 b1 e1 t1 ⟨v4,v5⟩ H=>iA [1,3,30,31,32,33]<|vQ<|cD H (fun H=>?_) (fun H=>?_)
 ·refine vK<|fQ<|jN r (fun(v8:List Int)=>Z [p 1 (R 1),p 3 (O 27),p 30 (O 30),p 31 (I (v0.length:Int)),p 32 (I v4)] [(27,A 2 i64 v8 0),(30,A 102 y102 v0 0),(1,K 44 y44 a0)]) (u23J2 v4 g1) (fun v8 H=>?_) (fun _ n2 e2 t2=>?_)
  ·refine jB [1,3,30,31,32] H fun H=>b1 H
  refine vB<|qD (fun v6=>Z [p 1 (R 1),p 3 (O 27),p 5 (R 5),p 30 (O 30),p 31 (I (v0.length:Int)),p 32 (I v4)] [(5,bx 102 (cellsD true y102 v6)),(30,A 102 y102 v0 0),(27,A 2 i64 v5 0),(1,K 44 y44 a0)]) H fun v6 H=>iA [1,3,5,30,31,32,38]<|cD H (fun H=>zD (fun v7=>Z [p 1 (R 1),p 3 (O 27),p 30 (O 30),p 31 (I (v0.length:Int)),p 32 (I v4)] [(27,A 2 i64 v7 0),(5,bx 102 (cellsD true y102 v6)),(30,A 102 y102 v0 0),(1,K 44 y44 a0)]) H fun v7 H=>fK<|n2 H) fun H=>vK<|fK<|n2 H
 exact vE<|fE<|e1<|fX rfl<|n0 H
def u64J0:ByteArray->Option ByteArray
 | v6 =>
 some v6
def u64J2(v3:Int)(a0:List Int)(g1:ByteArray×Int->Option ByteArray):ByteArray->Option ByteArray
 | v4 =>
 gd (ix v3 a0.length/\(u33 (a0.getD v3.toNat 0)).isSome/\v4.size+(vl (u33 (a0.getD v3.toNat 0))).size<=9223372036854775807/\True)<|lt (vl (u33 (a0.getD v3.toNat 0))) fun v5 =>
 gd (in64 (v3+1)/\True) <|
 g1 (v4++v5,v3+1)
def u64L1(a0:List Int)(g1:ByteArray×Int->Option ByteArray):ByteArray×Int->Option ByteArray
 | (v2,v3) =>
 if(decide (v3 < (a0.length:Int))) then
  if(decide (0<v3)) then
   gd (v2.size+(ByteArray.mk #[44]).size<=9223372036854775807/\True) <|
   u64J2 v3 a0 g1 (v2++ByteArray.mk #[44])
  else
   u64J2 v3 a0 g1 v2
 else
  u64J0 v2
def u64(a0:List Int):Option ByteArray :=
 lp (u64L1 a0) (ByteArray.mk #[],0)
def k64:Ct:=lct 64 [.dat i64.sl] (fun x=>u64 x.1) (fun r:ByteArray=>S r) (fun _=>())
theorem o64:Ok prog k64:=by
 refine okM [.tmp 2] func64 ?_;intro y ⟨a0,_⟩ r H Q hn hr;have:=hz (tc o33 tn);refine iA [0]<|iA [0,3]<|jN r (fun(v6:ByteArray)=>Z [p 3 (S v6)] []) (u64J0) (fun v6 H=>?_) (fun _ n0 e0 t0=>?_)
 ·refine iA [2]<|vTT<|hr H
 refine iA [0,3,4]<|vB<|lX (fun((v2,v3):ByteArray×Int)=>Z [p 0 (L i64 a0),p 3 (S v2),p 4 (I v3)] []) (ByteArray.mk #[],0) H fun _ g1 b1 e1 t1 ⟨v2,v3⟩ H=>vQ<|iA [0,3,4,8]<|cD H (fun H=>?_) (fun H=>?_)
 ·refine vK<|fQ<|vQ<|vB<|jN r (fun(v4:ByteArray)=>Z [p 0 (L i64 a0),p 3 (S v4),p 4 (I v3)] []) (u64J2 v3 a0 g1) (fun v4 H=>?_) (fun _ n2 e2 t2=>?_)
  ·refine jD o33 [0,3,4] H fun _ H=>fK<|fQ<|jB [0,3,4] H fun H=>b1 H
  refine iA [0,3,4,12]<|cD H (fun H=>jB [0,3,4] H fun H=>n2 H) fun H=>vK<|n2 H
 exact vE<|fE<|e1<|fX rfl<|n0 H
def u77(a0:Int)(a1:Int)(a2:Int):Option Bool :=
 some (decide (a1<=a0)&&decide (a0<=a2))
def k77:Ct:=lct 77 [.dat i64,.dat i64,.dat i64] (fun x=>u77 x.1 x.2.1 x.2.2.1) (fun r:Bool=>B r) (fun _=>())
theorem o77:Ok prog k77:=by
 refine okM [.tmp 6] func77 ?_;intro y ⟨_,_,_,_⟩ r H Q hn hr;refine iA [0,1,2]<|iA [6]<|vTT<|hr H
def u44J2:Unit->Option Bool
 | _ =>
 some true
def u44L3(a0:Y55)(g3:Int->Option Bool):Int->Option Bool
 | v1 =>
 if(decide (v1 < (a0.2.2.2.length:Int))) then
  gd (ix v1 a0.2.2.2.length/\in64 ((a0.1.length:Int)-1)/\(u77 (a0.2.2.2.getD v1.toNat 0) 0 ((a0.1.length:Int)-1)).isSome/\True) <|
  if(!vl (u77 (a0.2.2.2.getD v1.toNat 0) 0 ((a0.1.length:Int)-1))) then
   some false
  else
   gd (in64 (v1+1)/\True) <|
   g3 (v1+1)
 else
  u44J2 ()
def u44J0(a0:Y55):Unit->Option Bool
 | _ =>
 lp (u44L3 a0) 0
def u44L1(a0:Y55)(g1:Int->Option Bool):Int->Option Bool
 | v0 =>
 if(decide (v0 < (a0.1.length:Int))) then
  gd (ix v0 a0.2.2.1.length/\(u77 (a0.2.2.1.getD v0.toNat 0) 0 500).isSome/\((!vl (u77 (a0.2.2.1.getD v0.toNat 0) 0 500))=false/\True->ix v0 a0.2.1.length)/\((!vl (u77 (a0.2.2.1.getD v0.toNat 0) 0 500))=false/\True->(u77 (a0.2.1.getD v0.toNat 0) 0 1000).isSome)/\True) <|
  if(!vl (u77 (a0.2.2.1.getD v0.toNat 0) 0 500)||!vl (u77 (a0.2.1.getD v0.toNat 0) 0 1000)) then
   some false
  else
   gd (((v0==0)=true/\True->ix v0 a0.1.length)/\((a0.1.getD v0.toNat 0 != -1)=false/\(v0==0)=true/\True->ix v0 a0.2.1.length)/\(decide (0<v0)=true/\(v0==0&&(a0.1.getD v0.toNat 0 != -1||a0.2.1.getD v0.toNat 0 != 0))=false/\True->ix v0 a0.1.length)/\(decide (0<v0)=true/\(v0==0&&(a0.1.getD v0.toNat 0 != -1||a0.2.1.getD v0.toNat 0 != 0))=false/\True->in64 (v0-1))/\(decide (0<v0)=true/\(v0==0&&(a0.1.getD v0.toNat 0 != -1||a0.2.1.getD v0.toNat 0 != 0))=false/\True->(u77 (a0.1.getD v0.toNat 0) 0 (v0-1)).isSome)/\True) <|
   if(v0==0&&(a0.1.getD v0.toNat 0 != -1||a0.2.1.getD v0.toNat 0 != 0)||decide (0<v0)&&!vl (u77 (a0.1.getD v0.toNat 0) 0 (v0-1))) then
    some false
   else
    gd (in64 (v0+1)/\True) <|
    g1 (v0+1)
 else
  u44J0 a0 ()
def u44(a0:Y55)(a1:Int):Option Bool :=
 if(decide ((a0.1.length:Int)<1)||decide (8 < (a0.1.length:Int))||(a0.2.1.length:Int) != (a0.1.length:Int)||(a0.2.2.1.length:Int) != (a0.1.length:Int)||(a0.2.2.2.length:Int) != a1) then
  some false
 else
  lp (u44L1 a0) 0
def k44:Ct:=lct 44 [.agg y55,.dat i64] (fun x=>u44 x.1 x.2.1) (fun r:Bool=>B r) (fun _=>())
theorem o44:Ok prog k44:=by
 refine okM [.tmp 4] func44 ?_;intro y ⟨a0,_,_⟩ r H Q hn hr;have:=hz (tc o77 tn);refine iA [1,2]<|iA [1,2,5]<|vQ<|iA [2,5,37]<|cD H (fun H=>iA [4]<|vTT<|fR<|hr H) fun H=>vK<|fQ<|jN r (fun(_:Unit)=>Z [p 2 (R 2),p 5 (I (a0.1.length:Int))] [(2,K 55 y55 a0)]) (u44J0 a0) (fun _ H=>?_) (fun _ n0 e0 t0=>?_)
 ·refine jN r (fun(_:Unit)=>Z [] []) (u44J2) (fun _ H=>?_) (fun _ n2 e2 t2=>?_)
  ·refine iA [4]<|vTT<|hr H
  refine iA [2,5,7]<|vB<|lX (fun(v1:Int)=>Z [p 2 (R 2),p 5 (I (a0.1.length:Int)),p 7 (I v1)] [(2,K 55 y55 a0)]) 0 H fun _ g3 b3 e3 t3 v1 H=>vQ<|iA [2,5,7,96]<|cD H (fun H=>?_) (fun H=>?_)
  ·refine vK<|fQ<|vQ<|vB<|iB [2,5,7,107] H fun H=>cD H (fun H=>iA [4]<|vTT<|fDD<|fR<|t3<|fDD<|t2<|hr H) fun H=>vK<|fK<|fQ<|jB [2,5,7] H fun H=>b3 H
  exact vE<|fE<|e3<|fX rfl<|n2 H
 refine iA [2,5,6]<|vB<|lX (fun(v0:Int)=>Z [p 2 (R 2),p 5 (I (a0.1.length:Int)),p 6 (I v0)] [(2,K 55 y55 a0)]) 0 H fun _ g1 b1 e1 t1 v0 H=>vQ<|iA [2,5,6,40]<|cD H (fun H=>?_) (fun H=>?_)
 ·refine vK<|fQ<|vQ<|vB<|vQ<|iB [2,5,6,58] H fun H=>cD H (fun H=>iA [4]<|vTT<|fR<|fDD<|fR<|t1<|fDD<|t0<|hr H) fun H=>vK<|fQ<|iB [2,5,6,91] H fun H=>cD H (fun H=>iA [4]<|vTT<|fDD<|fR<|t1<|fDD<|t0<|hr H) fun H=>vK<|fK<|fQ<|jB [2,5,6] H fun H=>b1 H
 exact vE<|fE<|e1<|fX rfl<|n0 H
def u34(a0:Y55)(a1:Int):Option ByteArray :=
 gd ((u44 a0 a1).isSome/\True) <|
 if(!vl (u44 a0 a1)) then
  some (ByteArray.mk #[])
 else
  gd ((u64 a0.1).isSome/\(vl (u64 a0.1)).size+(ByteArray.mk #[124]).size<=9223372036854775807/\(u64 a0.2.1).isSome/\(vl (u64 a0.1)++ByteArray.mk #[124]).size+(vl (u64 a0.2.1)).size<=9223372036854775807/\(vl (u64 a0.1)++ByteArray.mk #[124]++vl (u64 a0.2.1)).size+(ByteArray.mk #[124]).size<=9223372036854775807/\(u64 a0.2.2.1).isSome/\(vl (u64 a0.1)++ByteArray.mk #[124]++vl (u64 a0.2.1)++ByteArray.mk #[124]).size+(vl (u64 a0.2.2.1)).size<=9223372036854775807/\(vl (u64 a0.1)++ByteArray.mk #[124]++vl (u64 a0.2.1)++ByteArray.mk #[124]++vl (u64 a0.2.2.1)).size+(ByteArray.mk #[124]).size<=9223372036854775807/\(u64 a0.2.2.2).isSome/\(vl (u64 a0.1)++ByteArray.mk #[124]++vl (u64 a0.2.1)++ByteArray.mk #[124]++vl (u64 a0.2.2.1)++ByteArray.mk #[124]).size+(vl (u64 a0.2.2.2)).size<=9223372036854775807/\True)<|lt ((vl (u64 a0.1),vl (u64 a0.2.1),vl (u64 a0.2.2.1),vl (u64 a0.2.2.2),vl (u64 a0.1)++ByteArray.mk #[124]++vl (u64 a0.2.1)++ByteArray.mk #[124]++vl (u64 a0.2.2.1)++ByteArray.mk #[124]++vl (u64 a0.2.2.2))) fun(_,_,_,_,v4) =>
  some v4
def k34:Ct:=lct 34 [.agg y55,.dat i64] (fun x=>u34 x.1 x.2.1) (fun r:ByteArray=>S r) (fun _=>())
theorem o34:Ok prog k34:=by
 refine okM [.tmp 4] func34 ?_;intro y ⟨a0,_,_⟩ r H Q hn hr;have:=hz (tc o64 (tc o44 tn));refine iA [1,2]<|vQ<|iB [2,8] H fun H=>cD H (fun H=>iA [4]<|vTT<|fR<|hr H) fun H=>vK<|fQ<|qD (fun(v0,v1,v2,v3,v4)=>Z [p 4 (S v4)] [(2,K 55 y55 a0)]) H fun⟨v0,v1,v2,v3,v4⟩ H =>
  vTT<|hr H
def u30J4:List Y78->Option (List Y78)
 | v25 =>
 some v25
def u30L5(a0:Y41)(g5:Int×List Y78->Option (List Y78)):Int×List Y78->Option (List Y78)
 | (v21,v22) =>
 if(decide (v21 < (a0.2.2.length:Int))) then
  gd (ix v21 a0.2.2.length/\ix v21 a0.2.2.length/\(v22.length+[(-1,v21,(a0.2.2.getD v21.toNat (dflt y114)).2.2,(a0.2.2.getD v21.toNat (dflt y114)).2.1==1)].length<=9223372036854775807/\(v22.length+[(-1,v21,(a0.2.2.getD v21.toNat (dflt y114)).2.2,(a0.2.2.getD v21.toNat (dflt y114)).2.1==1)].length)*32<=140737488355328)/\True)<|lt ((v22++[(-1,v21,(a0.2.2.getD v21.toNat (dflt y114)).2.2,(a0.2.2.getD v21.toNat (dflt y114)).2.1==1)],[(-1,v21,(a0.2.2.getD v21.toNat (dflt y114)).2.2,(a0.2.2.getD v21.toNat (dflt y114)).2.1==1)])) fun(v23,_) =>
  gd (in64 (v21+1)/\True) <|
  g5 (v21+1,v23)
 else
  u30J4 v22
def u30J0(a0:Y41):List Y78->Option (List Y78)
 | v18 =>
 lp (u30L5 a0) (0,v18)
def u30J2(v8:Int)(g1:Int×List Y78->Option (List Y78)):List Y78->Option (List Y78)
 | v17 =>
 gd (in64 (v8+1)/\True) <|
 g1 (v8+1,v17)
def u30L3(v8:Int)(v10:Y112)(g1:Int×List Y78->Option (List Y78))(g3:Int×List Y78->Option (List Y78)):Int×List Y78->Option (List Y78)
 | (v13,v14) =>
 if(decide (v13 < (v10.2.2.length:Int))) then
  gd (ix v13 v10.2.2.length/\in64 ((v10.2.2.length:Int)-1)/\(v14.length+[(v8,v13,v10.2.2.getD v13.toNat 0,v13==(v10.2.2.length:Int)-1)].length<=9223372036854775807/\(v14.length+[(v8,v13,v10.2.2.getD v13.toNat 0,v13==(v10.2.2.length:Int)-1)].length)*32<=140737488355328)/\True)<|lt ((v14++[(v8,v13,v10.2.2.getD v13.toNat 0,v13==(v10.2.2.length:Int)-1)],[(v8,v13,v10.2.2.getD v13.toNat 0,v13==(v10.2.2.length:Int)-1)])) fun(v15,_) =>
  gd (in64 (v13+1)/\True) <|
  g3 (v13+1,v15)
 else
  u30J2 v8 g1 v14
def u30L1(a0:Y41)(g1:Int×List Y78->Option (List Y78)):Int×List Y78->Option (List Y78)
 | (v8,v9) =>
 if(decide (v8 < (a0.1.length:Int))) then
  gd (ix v8 a0.1.length/\True)<|lt (a0.1.getD v8.toNat (dflt y112)) fun v10 =>
  lp (u30L3 v8 v10 g1) (0,v9)
 else
  u30J0 a0 v9
def u30(a0:Y41):Option (List Y78) :=
 lp (u30L1 a0) (0,[])
def k30:Ct:=lct 30 [.agg y41] (fun x=>u30 x.1) (fun r:List Y78=>AV.ow 78 true y78 r) (fun _=>())
theorem o30:Ok prog k30:=by
 refine okM [.tmp 2] func30 ?_;intro y ⟨a0,_⟩ r H Q hn hr;refine iA [1]<|iA [1,3]<|jN r (fun(v18:List Y78)=>Z [p 1 (R 1),p 3 (O 8)] [(8,A 78 y78 v18 0),(1,K 41 y41 a0)]) (u30J0 a0) (fun v18 H=>?_) (fun _ n0 e0 t0=>?_)
 ·refine jN r (fun(v25:List Y78)=>Z [p 3 (O 8)] [(8,A 78 y78 v25 0)]) (u30J4) (fun v25 H=>?_) (fun _ n4 e4 t4=>?_)
  ·refine iA [2]<|vTT<|hr H
  refine iA [1,3,7]<|vB<|lX (fun((v21,v22):Int×List Y78)=>Z [p 1 (R 1),p 3 (O 8),p 7 (I v21)] [(8,A 78 y78 v22 0),(1,K 41 y41 a0)]) (0,v18) H fun _ g5 b5 e5 t5 ⟨v21,v22⟩ H=>vQ<|iA [1,3,7,47]<|cD H (fun H=>?_) (fun H=>?_)
  ·refine vK<|fQ<|vQ<|vB<|zD (fun(v23,v24)=>Z [p 1 (R 1),p 3 (AV.os 8 1),p 7 (I v21)] [(8,A 78 y78 v23 1),(66,A 78 y78 v24 0),(1,K 41 y41 a0)]) H fun⟨v23,v24⟩ H =>
    fK<|fQ <|
    jB [1,3,7] H fun H =>
    b5 H
  exact vE<|fE<|e5<|fX rfl<|n4 H
 refine iA [1,3,4]<|vB<|lX (fun((v8,v9):Int×List Y78)=>Z [p 1 (R 1),p 3 (O 8),p 4 (I v8)] [(8,A 78 y78 v9 0),(1,K 41 y41 a0)]) (0,[]) H fun _ g1 b1 e1 t1 ⟨v8,v9⟩ H=>vQ<|iA [1,3,4,13]<|cD H (fun H=>?_) (fun H=>?_)
 ·refine vK<|fQ<|jN r (fun(v17:List Y78)=>Z [p 1 (R 1),p 3 (O 8),p 4 (I v8)] [(8,A 78 y78 v17 0),(1,K 41 y41 a0)]) (u30J2 v8 g1) (fun v17 H=>?_) (fun _ n2 e2 t2=>?_)
  ·refine jB [1,3,4] H fun H=>b1 H
  refine vB<|qD (fun v10=>Z [p 1 (R 1),p 3 (O 8),p 4 (I v8),p 5 (L i64 v10.2.2)] [(8,A 78 y78 v9 0),(1,K 41 y41 a0)]) H fun v10 H=>iA [1,3,4,5,6]<|vB<|lX (fun((v13,v14):Int×List Y78)=>Z [p 1 (R 1),p 3 (O 8),p 4 (I v8),p 5 (L i64 v10.2.2),p 6 (I v13)] [(8,A 78 y78 v14 0),(1,K 41 y41 a0)]) (0,v9) H fun _ g3 b3 e3 t3 ⟨v13,v14⟩ H=>vQ<|iA [1,3,4,5,6,25]<|cD H (fun H=>?_) (fun H=>?_)
  ·refine vK<|fQ<|vQ<|vB<|zD (fun(v15,v16)=>Z [p 1 (R 1),p 3 (AV.os 8 1),p 4 (I v8),p 5 (L i64 v10.2.2),p 6 (I v13)] [(8,A 78 y78 v15 1),(41,A 78 y78 v16 0),(1,K 41 y41 a0)]) H fun⟨v15,v16⟩ H =>
    fK<|fQ <|
    jB [1,3,4,5,6] H fun H =>
    b3 H
  exact vE<|fE<|e3<|fX rfl<|fK<|n2 H
 exact vE<|fE<|e1<|fX rfl<|n0 H
def u45J0:List Int->Option (List Int)
 | v5 =>
 some v5
def u45J2(v2:Int)(g1:Int×List Int->Option (List Int)):List Int->Option (List Int)
 | v4 =>
 gd (in64 (v2+1)/\True) <|
 g1 (v2+1,v4)
def u45L1(v0:List Y78)(a1:Int)(g1:Int×List Int->Option (List Int)):Int×List Int->Option (List Int)
 | (v2,v3) =>
 if(decide (v2 < (v0.length:Int))) then
  gd (ix v2 v0.length/\v2.toNat<v0.length/\(((v0.getD v2.toNat (dflt y78)).2.2.1==a1)=true/\True->ix v2 v0.length)/\(((v0.getD v2.toNat (dflt y78)).2.2.1==a1)=true/\True->v2.toNat<v0.length)/\True) <|
  if((v0.getD v2.toNat (dflt y78)).2.2.1==a1&&!(v0.getD v2.toNat (dflt y78)).2.2.2) then
   gd ((v3.length+[v2].length<=9223372036854775807/\(v3.length+[v2].length)*8<=140737488355328)/\True) <|
   u45J2 v2 g1 (v3++[v2])
  else
   u45J2 v2 g1 v3
 else
  u45J0 v3
def u45(a0:Y41)(a1:Int):Option (List Int) :=
 gd ((u30 a0).isSome/\True)<|lt (vl (u30 a0)) fun v0 =>
 lp (u45L1 v0 a1) (0,[])
def k45:Ct:=lct 45 [.agg y41,.dat i64] (fun x=>u45 x.1 x.2.1) (fun r:List Int=>AV.ow 2 true i64 r) (fun _=>())
theorem o45:Ok prog k45:=by
 refine okM [.tmp 4] func45 ?_;intro y ⟨_,a1,_⟩ r H Q hn hr;have:=hz (tc o30 tn);refine iA [1,2]<|iA [1,2,5]<|iD o30 [1,5,6] H fun v0 H=>jN r (fun(v5:List Int)=>Z [p 5 (O 8)] [(8,A 2 i64 v5 0)]) (u45J0) (fun v5 H=>?_) (fun _ n0 e0 t0=>?_)
 ·refine iA [4]<|vTT<|hr H
 refine iA [1,5,6,7]<|vB<|lX (fun((v2,v3):Int×List Int)=>Z [p 1 (J a1),p 5 (O 8),p 6 (O 10),p 7 (I v2)] [(10,A 78 y78 v0 0),(8,A 2 i64 v3 0)]) (0,[]) H fun _ g1 b1 e1 t1 ⟨v2,v3⟩ H=>vQ<|iA [1,5,6,7,14]<|cD H (fun H=>?_) (fun H=>?_)
 ·refine vK<|fQ<|jN r (fun(v4:List Int)=>Z [p 1 (J a1),p 5 (O 8),p 6 (O 10),p 7 (I v2)] [(8,A 2 i64 v4 0),(10,A 78 y78 v0 0)]) (u45J2 v2 g1) (fun v4 H=>?_) (fun _ n2 e2 t2=>?_)
  ·refine jB [1,5,6,7] H fun H=>b1 H
  refine vB<|iB [1,5,6,7,31] H fun H=>cD H (fun H=>jB [1,5,6,7] H fun H=>fK<|n2 H) fun H=>vK<|fK<|n2 H
 exact vE<|fE<|e1<|fX rfl<|n0 H
def u100J0(a0:ByteArray):Unit->Option Bool
 | _ =>
 some (decide (1<=(a0.size:Int))&&decide ((a0.size:Int)<=8))
def u100L1(a0:ByteArray)(g1:Int->Option Bool):Int->Option Bool
 | v0 =>
 if(decide (v0 < (a0.size:Int))) then
  gd (ix v0 a0.size/\(decide (97<=byteAt a0 v0.toNat)=true/\True->ix v0 a0.size)/\True) <|
  gd (ix v0 a0.size/\(decide (48<=byteAt a0 v0.toNat)=true/\True->ix v0 a0.size)/\True) <|
  if(!(decide (97<=byteAt a0 v0.toNat)&&decide (byteAt a0 v0.toNat<=122))&&!(decide (48<=byteAt a0 v0.toNat)&&decide (byteAt a0 v0.toNat<=57)&&decide (0<v0))) then
   some false
  else
   gd (in64 (v0+1)/\True) <|
   g1 (v0+1)
 else
  u100J0 a0 ()
def u100(a0:ByteArray):Option Bool :=
 lp (u100L1 a0) 0
def k100:Ct:=lct 100 [.dat Ty.str] (fun x=>u100 x.1) (fun r:Bool=>B r) (fun _=>())
theorem o100:Ok prog k100:=by
 refine okM [.tmp 2] func100 ?_;intro y ⟨a0,_⟩ r H Q hn hr;refine iA [0]<|jN r (fun(_:Unit)=>Z [p 0 (U a0)] []) (u100J0 a0) (fun _ H=>?_) (fun _ n0 e0 t0=>?_)
 ·refine iA [2]<|vTT<|hr H
 refine iA [0,3]<|vB<|lX (fun(v0:Int)=>Z [p 0 (U a0),p 3 (I v0)] []) 0 H fun _ g1 b1 e1 t1 v0 H=>vQ<|iA [0,3,9]<|cD H (fun H=>?_) (fun H=>?_)
 ·refine vK<|fQ<|vQ<|vB<|iB [0,3,4] H fun H=>iB [0,3,4,5] H fun H=>iA [0,3,41]<|cD H (fun H=>iA [2]<|vTT<|fDD<|fR<|t1<|fDD<|t0<|hr H) fun H=>vK<|fK<|fQ<|jB [0,3] H fun H=>b1 H
 exact vE<|fE<|e1<|fX rfl<|n0 H
def u76J0:Unit->Option Bool
 | _ =>
 some true
def u76J2(v1:Int)(g1:Int->Option Bool):Unit->Option Bool
 | _ =>
 gd (in64 (v1+1)/\True) <|
 g1 (v1+1)
def u76L3(a0:List ByteArray)(v1:Int)(g1:Int->Option Bool)(g3:Int->Option Bool):Int->Option Bool
 | v2 =>
 if(decide (v2<v1)) then
  gd (ix v2 a0.length/\ix v1 a0.length/\True) <|
  if(decide (a0.getD v2.toNat (dflt Ty.str)=a0.getD v1.toNat (dflt Ty.str))) then
   some false
  else
   gd (in64 (v2+1)/\True) <|
   g3 (v2+1)
 else
  u76J2 v1 g1 ()
def u76L1(a0:List ByteArray)(g1:Int->Option Bool):Int->Option Bool
 | v1 =>
 if(decide (v1 < (a0.length:Int))) then
  gd (ix v1 a0.length/\(u100 (a0.getD v1.toNat (dflt Ty.str))).isSome/\True) <|
  if(!vl (u100 (a0.getD v1.toNat (dflt Ty.str)))) then
   some false
  else
   lp (u76L3 a0 v1 g1) 0
 else
  u76J0 ()
def u76(a0:List ByteArray):Option Bool :=
 lp (u76L1 a0) 0
def k76:Ct:=lct 76 [.dat Ty.str.sl] (fun x=>u76 x.1) (fun r:Bool=>B r) (fun _=>())
theorem o76:Ok prog k76:=by
 refine okM [.tmp 2] func76 ?_;intro y ⟨a0,_⟩ r H Q hn hr;have:=hz (tc o100 tn);refine iA [0]<|jN r (fun(_:Unit)=>Z [] []) (u76J0) (fun _ H=>?_) (fun _ n0 e0 t0=>?_)
 ·refine iA [2]<|vTT<|hr H
 refine iA [0,3]<|vB<|lX (fun(v1:Int)=>Z [p 0 (L Ty.str a0),p 3 (I v1)] []) 0 H fun _ g1 b1 e1 t1 v1 H=>vQ<|iA [0,3,8]<|cD H (fun H=>?_) (fun H=>?_)
 ·refine vK<|fQ<|jN r (fun(_:Unit)=>Z [p 0 (L Ty.str a0),p 3 (I v1)] []) (u76J2 v1 g1) (fun _ H=>?_) (fun _ n2 e2 t2=>?_)
  ·refine jB [0,3] H fun H=>b1 H
  refine vB<|vQ<|iB [0,3,16] H fun H=>cD H (fun H=>iA [2]<|vTT<|fR<|fDD<|t2<|t1<|fDD<|t0<|hr H) fun H=>vK<|fQ<|iA [0,3,4]<|vB<|lX (fun(v2:Int)=>Z [p 0 (L Ty.str a0),p 3 (I v1),p 4 (I v2)] []) 0 H fun _ g3 b3 e3 t3 v2 H=>vQ<|iA [0,3,4,19]<|cD H (fun H=>?_) (fun H=>?_)
  ·refine vK<|fQ<|vQ<|vB<|iB [0,3,4,30] H fun H=>cD H (fun H=>iA [2]<|vTT<|fDD<|fR<|t3<|fDD<|fDD<|t2<|t1<|fDD<|t0<|hr H) fun H=>vK<|fK<|fQ<|jB [0,3,4] H fun H=>b3 H
  exact vE<|fE<|e3<|fX rfl<|fK<|n2 H
 exact vE<|fE<|e1<|fX rfl<|n0 H
def u75J4:Unit->Option Bool
 | _ =>
 some true
def u75L5(a1:Y41)(g5:Int->Option Bool):Int->Option Bool
 | v5 =>
 if(decide (v5 < (a1.2.2.length:Int))) then
  gd (ix v5 a1.2.2.length/\(u77 (a1.2.2.getD v5.toNat (dflt y114)).2.1 1 2).isSome/\((!vl (u77 (a1.2.2.getD v5.toNat (dflt y114)).2.1 1 2))=false/\True->ix v5 a1.2.2.length)/\((!vl (u77 (a1.2.2.getD v5.toNat (dflt y114)).2.1 1 2))=false/\True->in64 ((a1.2.1.length:Int)-1))/\((!vl (u77 (a1.2.2.getD v5.toNat (dflt y114)).2.1 1 2))=false/\True->(u77 (a1.2.2.getD v5.toNat (dflt y114)).2.2 0 ((a1.2.1.length:Int)-1)).isSome)/\True) <|
  if(!vl (u77 (a1.2.2.getD v5.toNat (dflt y114)).2.1 1 2)||!vl (u77 (a1.2.2.getD v5.toNat (dflt y114)).2.2 0 ((a1.2.1.length:Int)-1))) then
   some false
  else
   gd (in64 (v5+1)/\True) <|
   g5 (v5+1)
 else
  u75J4 ()
def u75J0(a1:Y41):Unit->Option Bool
 | _ =>
 lp (u75L5 a1) 0
def u75J2(v2:Int)(g1:Int->Option Bool):Unit->Option Bool
 | _ =>
 gd (in64 (v2+1)/\True) <|
 g1 (v2+1)
def u75L3(v3:Y112)(a1:Y41)(v2:Int)(g1:Int->Option Bool)(g3:Int->Option Bool):Int->Option Bool
 | v4 =>
 if(decide (v4 < (v3.2.2.length:Int))) then
  gd (ix v4 v3.2.2.length/\in64 ((a1.2.1.length:Int)-1)/\(u77 (v3.2.2.getD v4.toNat 0) 0 ((a1.2.1.length:Int)-1)).isSome/\True) <|
  if(!vl (u77 (v3.2.2.getD v4.toNat 0) 0 ((a1.2.1.length:Int)-1))) then
   some false
  else
   gd (in64 (v4+1)/\True) <|
   g3 (v4+1)
 else
  u75J2 v2 g1 ()
def u75L1(a1:Y41)(a0:List Y82)(g1:Int->Option Bool):Int->Option Bool
 | v2 =>
 if(decide (v2 < (a1.1.length:Int))) then
  gd (ix v2 a1.1.length/\True)<|lt (a1.1.getD v2.toNat (dflt y112)) fun v3 =>
  gd (in64 ((a0.length:Int)-1)/\(u77 v3.2.1 0 ((a0.length:Int)-1)).isSome/\((!vl (u77 v3.2.1 0 ((a0.length:Int)-1)))=false/\True->ix v3.2.1 a0.length)/\True) <|
  if(!vl (u77 v3.2.1 0 ((a0.length:Int)-1))||(v3.2.2.length:Int) != (↑(a0.getD v3.2.1.toNat (dflt y82)).2.2.1.length:Int)) then
   some false
  else
   lp (u75L3 v3 a1 v2 g1) 0
 else
  u75J0 a1 ()
def u75(a0:List Y82)(a1:Y41):Option Bool :=
 lp (u75L1 a1 a0) 0
def k75:Ct:=lct 75 [.agg y82.sl,.agg y41] (fun x=>u75 x.1 x.2.1) (fun r:Bool=>B r) (fun _=>())
theorem o75:Ok prog k75:=by
 refine okM [.tmp 4] func75 ?_;intro y ⟨a0,a1,_⟩ r H Q hn hr;have:=hz (tc o77 tn);refine iA [2,3]<|iA [2,3,5]<|jN r (fun(_:Unit)=>Z [p 3 (R 3),p 5 (I (a1.2.1.length:Int))] [(3,K 41 y41 a1)]) (u75J0 a1) (fun _ H=>?_) (fun _ n0 e0 t0=>?_)
 ·refine jN r (fun(_:Unit)=>Z [] []) (u75J4) (fun _ H=>?_) (fun _ n4 e4 t4=>?_)
  ·refine iA [4]<|vTT<|hr H
  refine iA [3,5,9]<|vB<|lX (fun(v5:Int)=>Z [p 3 (R 3),p 5 (I (a1.2.1.length:Int)),p 9 (I v5)] [(3,K 41 y41 a1)]) 0 H fun _ g5 b5 e5 t5 v5 H=>vQ<|iA [3,5,9,67]<|cD H (fun H=>?_) (fun H=>?_)
  ·refine vK<|fQ<|vQ<|vB<|iB [3,5,9,89] H fun H=>cD H (fun H=>iA [4]<|vTT<|fDD<|fR<|t5<|fDD<|t4<|hr H) fun H=>vK<|fK<|fQ<|jB [3,5,9] H fun H=>b5 H
  exact vE<|fE<|e5<|fX rfl<|n4 H
 refine iA [2,3,5,6]<|vB<|lX (fun(v2:Int)=>Z (G0 [p 5 (I (a1.2.1.length:Int)),p 6 (I v2)]) (W2 a1 a0)) 0 H fun _ g1 b1 e1 t1 v2 H=>vQ<|iA [2,3,5,6,17]<|cD H (fun H=>?_) (fun H=>?_)
 ·refine vK<|fQ<|jN r (fun(_:Unit)=>Z (G0 [p 5 (I (a1.2.1.length:Int)),p 6 (I v2)]) (W2 a1 a0)) (u75J2 v2 g1) (fun _ H=>?_) (fun _ n2 e2 t2=>?_)
  ·refine jB [2,3,5,6] H fun H=>b1 H
  refine vB<|qD (fun v3=>Z (G0 [p 5 (I (a1.2.1.length:Int)),p 6 (I v2),p 7 (R 7)]) ((7,K 112 y112 v3)::W2 a1 a0)) H fun v3 H=>vQ<|iB [2,3,5,6,7,46] H fun H=>cD H (fun H=>iA [4]<|vTT<|fR<|fDD<|t2<|t1<|fDD<|t0<|hr H) fun H=>vK<|fQ<|iA [2,3,5,6,7,8]<|vB<|lX (fun(v4:Int)=>Z (G0 [p 5 (I (a1.2.1.length:Int)),p 6 (I v2),p 7 (R 7),p 8 (I v4)]) ((7,K 112 y112 v3)::W2 a1 a0)) 0 H fun _ g3 b3 e3 t3 v4 H=>vQ<|iA [2,3,5,6,7,8,51]<|cD H (fun H=>?_) (fun H=>?_)
  ·refine vK<|fQ<|vQ<|vB<|iB [2,3,5,6,7,8,62] H fun H=>cD H (fun H=>iA [4]<|vTT<|fDD<|fR<|t3<|fDD<|fDD<|t2<|t1<|fDD<|t0<|hr H) fun H=>vK<|fK<|fQ<|jB [2,3,5,6,7,8] H fun H=>b3 H
  exact vE<|fE<|e3<|fX rfl<|fK<|n2 H
 exact vE<|fE<|e1<|fX rfl<|n0 H
def u141J0:List Int->Option (List Int)
 | v4 =>
 some v4
def u141L1(a0:Y82)(g1:Int×List Int->Option (List Int)):Int×List Int->Option (List Int)
 | (v1,v2) =>
 if(decide (v1 < (a0.2.2.2.1.length:Int))) then
  gd (ix v1 a0.2.2.2.1.length/\ix (a0.2.2.2.1.getD v1.toNat (dflt y191)).1 v2.length/\(a0.2.2.2.1.getD v1.toNat (dflt y191)).1.toNat<v2.length/\in64 (v2.getD (a0.2.2.2.1.getD v1.toNat (dflt y191)).1.toNat 0+1)/\ix (a0.2.2.2.1.getD v1.toNat (dflt y191)).1 v2.length/\(a0.2.2.2.1.getD v1.toNat (dflt y191)).1.toNat<v2.length/\True)<|lt (v2.set (a0.2.2.2.1.getD v1.toNat (dflt y191)).1.toNat (v2.getD (a0.2.2.2.1.getD v1.toNat (dflt y191)).1.toNat 0+1)) fun v3 =>
  gd (in64 (v1+1)/\True) <|
  g1 (v1+1,v3)
 else
  u141J0 v2
def u141(a0:Y82):Option (List Int) :=
 gd (((0:Int)<=(6:Int)/\(6:Int)=(6:Int)/\Int.toNat (6:Int)*8<=281474976710656/\(6:Int)<=(9223372036854775807:Int))/\True) <|
 lp (u141L1 a0) ((0,List.replicate (Int.toNat (6:Int)) (0:Int)))
def k141:Ct:=lct 141 [.agg y82] (fun x=>u141 x.1) (fun r:List Int=>AV.ow 2 true i64 r) (fun _=>())
theorem o141:Ok prog k141:=by
 refine okM [.tmp 2] func141 ?_;intro y ⟨a0,_⟩ r H Q hn hr;refine iA [1]<|iB [1,3] H fun H=>jN r (fun(v4:List Int)=>Z [p 3 (O 5)] [(5,A 2 i64 v4 0)]) (u141J0) (fun v4 H=>?_) (fun _ n0 e0 t0=>?_)
 ·refine iA [2]<|vTT<|hr H
 refine iA [1,3,4]<|vB<|lX (fun((v1,v2):Int×List Int)=>Z [p 1 (R 1),p 3 (O 5),p 4 (I v1)] [(5,A 2 i64 v2 0),(1,K 82 y82 a0)]) ((0,List.replicate (Int.toNat (6:Int)) (0:Int))) H fun _ g1 b1 e1 t1 ⟨v1,v2⟩ H=>vQ<|iA [1,3,4,10]<|cD H (fun H=>vK<|fQ<|vQ<|vB<|zD (fun v3=>Z [p 1 (R 1),p 3 (O 5),p 4 (I v1)] [(5,A 2 i64 v3 0),(1,K 82 y82 a0)]) H fun v3 H=>fK<|fQ<|jB [1,3,4] H fun H=>b1 H) fun H=>vE<|fE<|e1<|fX rfl<|n0 H
def u218J0(a0:List Int):Unit->Option Bool
 | _ =>
 some (decide (1<=(a0.length:Int))&&decide ((a0.length:Int)<=4))
def u218L1(a0:List Int)(g1:Int->Option Bool):Int->Option Bool
 | v0 =>
 if(decide (v0 < (a0.length:Int))) then
  gd (ix v0 a0.length/\(u77 (a0.getD v0.toNat 0) 0 100000).isSome/\(decide (0<v0)=true/\(!vl (u77 (a0.getD v0.toNat 0) 0 100000))=false/\True->in64 (v0-1))/\(decide (0<v0)=true/\(!vl (u77 (a0.getD v0.toNat 0) 0 100000))=false/\True->ix (v0-1) a0.length)/\(decide (0<v0)=true/\(!vl (u77 (a0.getD v0.toNat 0) 0 100000))=false/\True->ix v0 a0.length)/\True) <|
  if(!vl (u77 (a0.getD v0.toNat 0) 0 100000)||decide (0<v0)&&decide (a0.getD v0.toNat 0<=a0.getD (v0-1).toNat 0)) then
   some false
  else
   gd (in64 (v0+1)/\True) <|
   g1 (v0+1)
 else
  u218J0 a0 ()
def u218(a0:List Int):Option Bool :=
 lp (u218L1 a0) 0
def k218:Ct:=lct 218 [.dat i64.sl] (fun x=>u218 x.1) (fun r:Bool=>B r) (fun _=>())
theorem o218:Ok prog k218:=by
 refine okM [.tmp 2] func218 ?_;intro y ⟨a0,_⟩ r H Q hn hr;have:=hz (tc o77 tn);refine iA [0]<|jN r (fun(_:Unit)=>Z [p 0 (L i64 a0)] []) (u218J0 a0) (fun _ H=>?_) (fun _ n0 e0 t0=>?_)
 ·refine iA [2]<|vTT<|hr H
 refine iA [0,3]<|vB<|lX (fun(v0:Int)=>Z [p 0 (L i64 a0),p 3 (I v0)] []) 0 H fun _ g1 b1 e1 t1 v0 H=>vQ<|iA [0,3,7]<|cD H (fun H=>?_) (fun H=>?_)
 ·refine vK<|fQ<|vQ<|vB<|iB [0,3,31] H fun H=>cD H (fun H=>iA [2]<|vTT<|fDD<|fR<|t1<|fDD<|t0<|hr H) fun H=>vK<|fK<|fQ<|jB [0,3] H fun H=>b1 H
 exact vE<|fE<|e1<|fX rfl<|n0 H
def u208J0:Unit->Option Bool
 | _ =>
 some true
def u208L1(a0:Y247)(g1:Int->Option Bool):Int->Option Bool
 | v0 =>
 if(decide (v0 < (a0.2.2.length:Int))) then
  gd (ix v0 a0.2.2.length/\(u77 (a0.2.2.getD v0.toNat 0) (-1000000) 1000000).isSome/\True) <|
  if(!vl (u77 (a0.2.2.getD v0.toNat 0) (-1000000) 1000000)) then
   some false
  else
   gd (in64 (v0+1)/\True) <|
   g1 (v0+1)
 else
  u208J0 ()
def u208(a0:Y247):Option Bool :=
 gd ((u218 a0.1).isSome/\((!vl (u218 a0.1))=false/\True->(u218 a0.2.1).isSome)/\((!vl (u218 a0.1)||!vl (u218 a0.2.1))=false/\True->in64 ((a0.1.length:Int)*(a0.2.1.length:Int)))/\True) <|
 if(!vl (u218 a0.1)||!vl (u218 a0.2.1)||(a0.2.2.length:Int) != (a0.1.length:Int)*(a0.2.1.length:Int)) then
  some false
 else
  lp (u208L1 a0) 0
def k208:Ct:=lct 208 [.agg y247] (fun x=>u208 x.1) (fun r:Bool=>B r) (fun _=>())
theorem o208:Ok prog k208:=by
 refine okM [.tmp 2] func208 ?_;intro y ⟨a0,_⟩ r H Q hn hr;have:=hz (tc o77 (tc o218 tn));refine iA [1]<|vQ<|iB [1,26] H fun H=>cD H (fun H=>iA [2]<|vTT<|fR<|hr H) fun H=>vK<|fQ<|jN r (fun(_:Unit)=>Z [] []) (u208J0) (fun _ H=>?_) (fun _ n0 e0 t0=>?_)
 ·refine iA [2]<|vTT<|hr H
 refine iA [1,3]<|vB<|lX (fun(v0:Int)=>Z (G1 v0 []) [(1,K 247 y247 a0)]) 0 H fun _ g1 b1 e1 t1 v0 H=>vQ<|iA [1,3,31]<|cD H (fun H=>?_) (fun H=>?_)
 ·refine vK<|fQ<|vQ<|vB<|iB [1,3,40] H fun H=>cD H (fun H=>iA [2]<|vTT<|fDD<|fR<|t1<|fDD<|t0<|hr H) fun H=>vK<|fK<|fQ<|jB [1,3] H fun H=>b1 H
 exact vE<|fE<|e1<|fX rfl<|n0 H
def u192J0:Int×Int->Option (Y244×Int)
 | (v5,v6) =>
 some (((v5,v6),(0:Int)))
def u192L1(a0:Y247)(g1:Int×Int×Int->Option (Y244×Int)):Int×Int×Int->Option (Y244×Int)
 | (v2,v3,v4) =>
 if(decide (v2 < (a0.2.2.length:Int))) then
  gd (ix v2 a0.2.2.length/\True) <|
  gd (ix v2 a0.2.2.length/\True) <|
  gd (in64 (v2+1)/\True) <|
  g1 ((v2+1,min v3 (a0.2.2.getD v2.toNat 0),max v4 (a0.2.2.getD v2.toNat 0)))
 else
  u192J0 (v3,v4)
def u192(a0:Y247):Option (Y244×Int) :=
 gd ((u208 a0).isSome/\True) <|
 if(!vl (u208 a0)) then
  some ((((0:Int),(0:Int)),(1:Int)))
 else
  gd (ix 0 a0.2.2.length/\ix 0 a0.2.2.length/\True) <|
  lp (u192L1 a0) ((1,a0.2.2.getD (Int.toNat (0:Int)) (0:Int),a0.2.2.getD (Int.toNat (0:Int)) (0:Int)))
def k192:Ct:=lct 192 [.agg y247] (fun x=>u192 x.1) (fun r:Y244×Int=>AV.tup [AV.agg [I r.1.1,I r.1.2],I r.2]) (fun _=>())
theorem o192:Ok prog k192:=by
 refine okM [.cell 2 244,.tmp 3] func192 ?_;intro y ⟨a0,_⟩ r H Q hn hr;have:=hz (tc o208 tn);refine iA [1,2]<|vQ<|iB [1,2,8] H fun H=>cD H (fun H=>iA [2,3]<|vTT<|fR<|hr H) fun H=>vK<|fQ<|iB [1,2,4] H fun H=>jN r (fun((v5,v6):Int×Int)=>Z [p 2 (R 2),p 4 (R 4)] [(4,bx 244 [J v5,J v6]),(2,bx 244 [I 0,I 0])]) (u192J0) (fun⟨v5,v6⟩ H=>?_) (fun _ n0 e0 t0=>?_)
 ·refine iA [2,3]<|vTT<|hr H
 refine iA [1,2,4,5]<|vB<|lX (fun((v2,v3,v4):Int×Int×Int)=>Z [p 1 (R 1),p 2 (R 2),p 4 (R 4),p 5 (I v2)] [(4,bx 244 [J v3,J v4]),(2,bx 244 [I 0,I 0]),(1,K 247 y247 a0)]) ((1,a0.2.2.getD (Int.toNat (0:Int)) (0:Int),a0.2.2.getD (Int.toNat (0:Int)) (0:Int))) H fun _ g1 b1 e1 t1 ⟨v2,v3,v4⟩ H=>vQ<|iA [1,2,4,5,23]<|cD H (fun H=>vK<|fQ<|vQ<|vB<|iB [1,2,4,5] H fun H=>jB [1,2,4,5] H fun H=>fK<|fQ<|jB [1,2,4,5] H fun H=>b1 H) fun H=>vE<|fE<|e1<|fX rfl<|n0 H
def u166J0:Unit->Option Bool
 | _ =>
 some true
def u166L1(a1:Bool)(a0:List Y247)(g1:Int->Option Bool):Int->Option Bool
 | v1 =>
 if(decide (v1<2)) then
  gd (ix v1 a0.length/\(u192 (a0.getD v1.toNat (dflt y247))).isSome/\True)<|lt (vl (u192 (a0.getD v1.toNat (dflt y247)))) fun v2 =>
  if(v2.2 != 0||a1&&decide (v2.1.1<0)) then
   some false
  else
   gd (in64 (v1+1)/\True) <|
   g1 (v1+1)
 else
  u166J0 ()
def u166(a0:List Y247)(a1:Bool):Option Bool :=
 if((a0.length:Int) != 2) then
  some false
 else
  lp (u166L1 a1 a0) 0
def k166:Ct:=lct 166 [.dat y247.sl,.dat Ty.bool] (fun x=>u166 x.1 x.2.1) (fun r:Bool=>B r) (fun _=>())
theorem o166:Ok prog k166:=by
 refine okM [.tmp 4] func166 ?_;intro y ⟨a0,a1,_⟩ r H Q hn hr;have:=hz (tc o192 tn);refine iA [0,1]<|vQ<|iA [0,1,10]<|cD H (fun H=>iA [4]<|vTT<|fR<|hr H) fun H=>vK<|fQ<|jN r (fun(_:Unit)=>Z [] []) (u166J0) (fun _ H=>?_) (fun _ n0 e0 t0=>?_)
 ·refine iA [4]<|vTT<|hr H
 refine iA [0,1,5]<|vB<|lX (fun(v1:Int)=>Z [p 0 (L y247 a0),p 1 (C a1),p 5 (I v1)] []) 0 H fun _ g1 b1 e1 t1 v1 H=>vQ<|iA [0,1,5,12]<|cD H (fun H=>?_) (fun H=>?_)
 ·refine vK<|fQ<|vQ<|vB<|iD o192 [0,1,5,6,7] H fun _ H=>iA [0,1,5,32]<|cD H (fun H=>iA [4]<|vTT<|fDD<|fR<|t1<|fDD<|t0<|hr H) fun H=>vK<|fK<|fQ<|jB [0,1,5] H fun H=>b1 H
 exact vE<|fE<|e1<|fX rfl<|n0 H
def u140J1(v0:Y116)(a1:Y191)(a0:Y82):Bool->Option Bool
 | v2 =>
 if v2 then
  gd (((v0.2.2.2&&decide (a1.2.2.1 < (a0.2.2.1.length:Int)-1))=true/\True->ix a1.2.2.1 a0.2.2.1.length)/\((v0.2.2.2&&decide (a1.2.2.1 < (a0.2.2.1.length:Int)-1)&&!(a0.2.2.1.getD a1.2.2.1.toNat (dflt y116)).2.2.2&&a1.2.2.2.1==0)=true/\True->(u166 a1.2.2.2.2.1 false).isSome)/\True) <|
  some (v0.2.2.2&&decide (a1.2.2.1 < (a0.2.2.1.length:Int)-1)&&!(a0.2.2.1.getD a1.2.2.1.toNat (dflt y116)).2.2.2&&a1.2.2.2.1==0&&vl (u166 a1.2.2.2.2.1 false)&&(a1.2.2.2.2.2.length:Int)==0)
 else
  some false
def u140J0(v0:Y116)(a1:Y191)(a0:Y82):Bool->Option Bool
 | v1 =>
 if v1 then
  gd (((v0.2.2.2&&a1.2.2.1==(a0.2.2.1.length:Int)-1&&a1.2.2.2.1==0)=true/\True->(u166 a1.2.2.2.2.1 true).isSome)/\((v0.2.2.2&&a1.2.2.1==(a0.2.2.1.length:Int)-1&&a1.2.2.2.1==0&&vl (u166 a1.2.2.2.2.1 true))=true/\True->(u166 a1.2.2.2.2.2 true).isSome)/\True) <|
  some (v0.2.2.2&&a1.2.2.1==(a0.2.2.1.length:Int)-1&&a1.2.2.2.1==0&&vl (u166 a1.2.2.2.2.1 true)&&vl (u166 a1.2.2.2.2.2 true))
 else
  if(a1.1==4) then
   u140J1 v0 a1 a0 (a1.1==4)
  else
   u140J1 v0 a1 a0 (a1.1==5)
def u140(a0:Y82)(a1:Y191):Option Bool :=
 gd (in64 ((a0.2.2.1.length:Int)-1)/\True) <|
 gd (in64 ((a0.2.2.1.length:Int)-1-1)/\(u77 a1.2.1 0 ((a0.2.2.1.length:Int)-1-1)).isSome/\((!vl (u77 a1.2.1 0 ((a0.2.2.1.length:Int)-1-1)))=false/\True->(u77 a1.2.2.1 0 ((a0.2.2.1.length:Int)-1)).isSome)/\True) <|
 if(!vl (u77 a1.2.1 0 ((a0.2.2.1.length:Int)-1-1))||!vl (u77 a1.2.2.1 0 ((a0.2.2.1.length:Int)-1))) then
  some false
 else
  gd (ix a1.2.1 a0.2.2.1.length/\True)<|lt (a0.2.2.1.getD a1.2.1.toNat (dflt y116)) fun v0 =>
  if(a1.1==1) then
   gd (((!v0.2.2.2&&a1.2.2.1==(a0.2.2.1.length:Int)-1)=true/\True->(u77 a1.2.2.2.1 1 3).isSome)/\((!v0.2.2.2&&a1.2.2.1==(a0.2.2.1.length:Int)-1&&vl (u77 a1.2.2.2.1 1 3))=true/\True->(u166 a1.2.2.2.2.1 true).isSome)/\((!v0.2.2.2&&a1.2.2.1==(a0.2.2.1.length:Int)-1&&vl (u77 a1.2.2.2.1 1 3)&&vl (u166 a1.2.2.2.2.1 true))=true/\True->(u166 a1.2.2.2.2.2 true).isSome)/\True) <|
   some (!v0.2.2.2&&a1.2.2.1==(a0.2.2.1.length:Int)-1&&vl (u77 a1.2.2.2.1 1 3)&&vl (u166 a1.2.2.2.2.1 true)&&vl (u166 a1.2.2.2.2.2 true))
  else
   if(a1.1==2) then
    u140J0 v0 a1 a0 (a1.1==2)
   else
    u140J0 v0 a1 a0 (a1.1==3)
def k140:Ct:=lct 140 [.agg y82,.agg y191] (fun x=>u140 x.1 x.2.1) (fun r:Bool=>B r) (fun _=>())
theorem o140:Ok prog k140:=by
 refine okM [.tmp 4] func140 ?_;intro y ⟨a0,a1,_⟩ r H Q hn hr;have:=hz (tc o166 (tc o77 tn));refine iA [2,3]<|iB [2,3,5] H fun H=>vQ<|iB [2,3,5,23] H fun H=>cD H (fun H=>iA [4]<|vTT<|fR<|hr H) fun H=>vK<|fQ<|qD (fun v0=>Z (G0 [p 5 (I ((a0.2.2.1.length:Int)-1)),p 6 (C v0.2.2.2)]) [(3,K 191 y191 a1),(2,K 82 y82 a0)]) H fun v0 H=>vQ<|iA [2,3,5,6,32]<|vB<|iA [2,3,5,6,32,33]<|cD H (fun H=>iB [4] H fun H=>vTT<|fDD<|fR<|hr H) fun H=>jN r (fun(v1:Bool)=>Z (G0 [p 5 (I ((a0.2.2.1.length:Int)-1)),p 6 (C v0.2.2.2),p 32 (J a1.1),p 58 (B v1)]) [(3,K 191 y191 a1),(2,K 82 y82 a0)]) (u140J0 v0 a1 a0) (fun v1 H=>?_) (fun _ n0 e0 t0=>?_)
 ·refine cD H (fun H=>iB [4] H fun H=>vTT<|fDD<|fR<|hr H) fun H=>jN r (fun(v2:Bool)=>Z (G0 [p 5 (I ((a0.2.2.1.length:Int)-1)),p 6 (C v0.2.2.2),p 83 (B v2)]) [(3,K 191 y191 a1),(2,K 82 y82 a0)]) (u140J1 v0 a1 a0) (fun v2 H=>?_) (fun _ n1 e1 t1=>?_)
  ·refine cD H (fun H=>iB [4] H fun H=>vTT<|fDD<|fR<|hr H) fun H=>vK<|fK<|fQ<|iA [4]<|vTT<|hr H
  refine iA [2,3,5,6,32,83]<|cD H (fun H=>vK<|n1 H) fun H=>jA [2,3,5,6,83]<|n1 H
 refine iA [2,3,5,6,32,58]<|cD H (fun H=>vK<|n0 H) fun H=>jA [2,3,5,6,32,58]<|n0 H
def u139J0:Int->Option (Int×Bool)
 | v8 =>
 some (v8,true)
def u139J2(v4:Int)(g1:Int×Int->Option (Int×Bool)):Int->Option (Int×Bool)
 | v7 =>
 gd (in64 (v4+1)/\True) <|
 g1 (v7,v4+1)
def u139J3(v4:Int)(v3:Int)(v5:Y116)(a0:Y82)(g1:Int×Int->Option (Int×Bool)):Unit->Option (Int×Bool)
 | _ =>
 gd ((u100 v5.1).isSome/\((!vl (u100 v5.1))=false/\True->(u77 v5.2.2.1 0 500).isSome)/\True) <|
 if(!vl (u100 v5.1)||!vl (u77 v5.2.2.1 0 500)) then
  some (((0:Int),false))
 else
  gd (in64 ((a0.2.2.1.length:Int)-1)/\((v4==(a0.2.2.1.length:Int)-1&&(v5.2.1 != 2||v5.2.2.1 != 0||v5.2.2.2))=false/\True->in64 ((a0.2.2.1.length:Int)-1))/\True) <|
  if(v4==(a0.2.2.1.length:Int)-1&&(v5.2.1 != 2||v5.2.2.1 != 0||v5.2.2.2)||decide (v4 < (a0.2.2.1.length:Int)-1)&&v5.2.1 != 1) then
   some (((0:Int),false))
  else
   if v5.2.2.2 then
    gd (in64 (v3+1)/\True) <|
    u139J2 v4 g1 (v3+1)
   else
    u139J2 v4 g1 v3
def u139L4(a0:Y82)(v5:Y116)(v4:Int)(v3:Int)(g1:Int×Int->Option (Int×Bool))(g4:Int->Option (Int×Bool)):Int->Option (Int×Bool)
 | v6 =>
 if(decide (v6<v4)) then
  gd (ix v6 a0.2.2.1.length/\True) <|
  if(decide ((a0.2.2.1.getD v6.toNat (dflt y116)).1=v5.1)) then
   some (((0:Int),false))
  else
   gd (in64 (v6+1)/\True) <|
   g4 (v6+1)
 else
  u139J3 v4 v3 v5 a0 g1 ()
def u139L1(a0:Y82)(g1:Int×Int->Option (Int×Bool)):Int×Int->Option (Int×Bool)
 | (v3,v4) =>
 if(decide (v4 < (a0.2.2.1.length:Int))) then
  gd (ix v4 a0.2.2.1.length/\True)<|lt (a0.2.2.1.getD v4.toNat (dflt y116)) fun v5 =>
  lp (u139L4 a0 v5 v4 v3 g1) 0
 else
  u139J0 v3
def u139(a0:Y82):Option (Int×Bool) :=
 if(decide ((a0.2.2.1.length:Int)<2)||decide (5 < (a0.2.2.1.length:Int))) then
  some (((0:Int),false))
 else
  lp (u139L1 a0) (0,0)
def k139:Ct:=lct 139 [.agg y82] (fun x=>u139 x.1) (fun r:Int×Bool=>AV.tup [I r.1,B r.2]) (fun _=>())
theorem o139:Ok prog k139:=by
 refine okM [.tmp 2,.tmp 3] func139 ?_;intro y ⟨a0,_⟩ r H Q hn hr;have:=hz (tc o77 (tc o100 tn));refine iA [1]<|iA [1,4]<|vQ<|iA [1,4,17]<|cD H (fun H=>iA [2,3]<|vTT<|fR<|hr H) fun H=>vK<|fQ<|iA [1,4,5]<|jN r (fun(v8:Int)=>Z [p 5 (I v8)] []) (u139J0) (fun v8 H=>?_) (fun _ n0 e0 t0=>?_)
 ·refine iA [2,3]<|vTT<|hr H
 refine iA [1,4,5,6]<|vB<|lX (fun((v3,v4):Int×Int)=>Z [p 1 (R 1),p 4 (I (a0.2.2.1.length:Int)),p 5 (I v3),p 6 (I v4)] [(1,K 82 y82 a0)]) (0,0) H fun _ g1 b1 e1 t1 ⟨v3,v4⟩ H=>vQ<|iA [1,4,5,6,20]<|cD H (fun H=>?_) (fun H=>?_)
 ·refine vK<|fQ<|jN r (fun(v7:Int)=>Z [p 1 (R 1),p 4 (I (a0.2.2.1.length:Int)),p 5 (I v7),p 6 (I v4)] [(1,K 82 y82 a0)]) (u139J2 v4 g1) (fun v7 H=>?_) (fun _ n2 e2 t2=>?_)
  ·refine jB [1,4,5,6] H fun H=>b1 H
  refine vB<|qD (fun v5=>Z [p 1 (R 1),p 4 (I (a0.2.2.1.length:Int)),p 5 (I v3),p 6 (I v4),p 7 (R 7)] [(7,K 116 y116 v5),(1,K 82 y82 a0)]) H fun v5 H=>jN r (fun(_:Unit)=>Z [p 1 (R 1),p 4 (I (a0.2.2.1.length:Int)),p 5 (I v3),p 6 (I v4),p 7 (R 7)] [(7,K 116 y116 v5),(1,K 82 y82 a0)]) (u139J3 v4 v3 v5 a0 g1) (fun _ H=>?_) (fun _ n3 e3 t3=>?_)
  ·refine vQ<|iB [1,4,5,6,7,51] H fun H=>cD H (fun H=>iA [2,3]<|vTT<|fR<|fDD<|t2<|t1<|fDD<|t0<|hr H) fun H=>vK<|fQ<|vQ<|iB [1,4,5,6,7,80] H fun H=>cD H (fun H=>iA [2,3]<|vTT<|fR<|fDD<|t2<|t1<|fDD<|t0<|hr H) fun H=>vK<|fQ<|iA [1,4,5,6,82]<|cD H (fun H=>jB [1,4,5,6] H fun H=>fK<|n2 H) fun H=>vK<|fK<|n2 H
  refine iA [1,4,5,6,7,8]<|vB<|lX (fun(v6:Int)=>Z [p 1 (R 1),p 4 (I (a0.2.2.1.length:Int)),p 5 (I v3),p 6 (I v4),p 7 (R 7),p 8 (I v6)] [(7,K 116 y116 v5),(1,K 82 y82 a0)]) 0 H fun _ g4 b4 e4 t4 v6 H=>vQ<|iA [1,4,5,6,7,8,30]<|cD H (fun H=>?_) (fun H=>?_)
  ·refine vK<|fQ<|vQ<|vB<|iB [1,4,5,6,7,8,41] H fun H=>cD H (fun H=>iA [2,3]<|vTT<|fDD<|fR<|t4<|fDD<|t3<|fDD<|t2<|t1<|fDD<|t0<|hr H) fun H=>vK<|fK<|fQ<|jB [1,4,5,6,7,8] H fun H=>b4 H
  exact vE<|fE<|e4<|fX rfl<|n3 H
 exact vE<|fE<|e1<|fX rfl<|n0 H
def u109J4:Unit->Option Bool
 | _ =>
 some false
def u109J5(v0:Int×Bool)(a0:Y82):Unit->Option Bool
 | _ =>
 gd (((v0.1==(0:Int))=true/\True->in64 ((a0.2.2.1.length:Int)-(1:Int)))/\((v0.1==(0:Int))=true/\True->(0:Int)<=(a0.2.2.1.length:Int)-(1:Int)/\(a0.2.2.1.length:Int)-(1:Int)<=(18446744073709551615:Int))/\((v0.1==(0:Int))=true/\True->((0:Int)<=(a0.2.2.1.length:Int)-(1:Int)/\(a0.2.2.1.length:Int)-(1:Int)<=(62:Int))/\in64 ((1:Int)*(2:Int) ^ ((a0.2.2.1.length:Int)-(1:Int)).toNat))/\True) <|
 some (v0.1==(0:Int)&&(a0.2.2.2.2.1.length:Int)==(1:Int)*(2:den i64) ^ ((a0.2.2.1.length:Int)-(1:Int)).toNat)
def u109L6(a0:Y82)(v0:Int×Bool)(g6:Int->Option Bool):Int->Option Bool
 | v7 =>
 if(decide (v7 < (a0.2.2.2.2.1.length:Int))) then
  gd (ix v7 a0.2.2.2.2.1.length/\(u77 (a0.2.2.2.2.1.getD v7.toNat 0) 0 1).isSome/\True) <|
  if(!vl (u77 (a0.2.2.2.2.1.getD v7.toNat 0) 0 1)) then
   some false
  else
   gd (in64 (v7+1)/\True) <|
   g6 (v7+1)
 else
  u109J5 v0 a0 ()
def u109J0(a0:Y82)(v0:Int×Bool):Unit->Option Bool
 | _ =>
 gd ((u141 a0).isSome/\True)<|lt (vl (u141 a0)) fun v6 =>
 if(a0.2.1==1) then
  lp (u109L6 a0 v0) 0
 else
  if(a0.2.1==2) then
   gd (((v0.1==(1:Int))=true/\True->ix (1:Int) v6.length)/\((v0.1==(1:Int))=true/\True->Int.toNat (1:Int)<v6.length)/\((v0.1==(1:Int)&&v6.getD (Int.toNat (1:Int)) (0:Int)==(0:Int))=true/\True->ix (2:Int) v6.length)/\((v0.1==(1:Int)&&v6.getD (Int.toNat (1:Int)) (0:Int)==(0:Int))=true/\True->Int.toNat (2:Int)<v6.length)/\((v0.1==(1:Int)&&v6.getD (Int.toNat (1:Int)) (0:Int)==(0:Int))=true/\True->ix (3:Int) v6.length)/\((v0.1==(1:Int)&&v6.getD (Int.toNat (1:Int)) (0:Int)==(0:Int))=true/\True->Int.toNat (3:Int)<v6.length)/\True) <|
   some (v0.1==(1:Int)&&v6.getD (Int.toNat (1:Int)) (0:Int)==(0:Int)&&!decide ((0:Int)<v6.getD (Int.toNat (2:Int)) (0:Int))==decide ((0:Int)<v6.getD (Int.toNat (3:Int)) (0:Int))&&(a0.2.2.2.2.1.length:Int)==(0:Int))
  else
   if(a0.2.1==3) then
    gd (((v0.1==(1:Int))=true/\True->ix (1:Int) v6.length)/\((v0.1==(1:Int))=true/\True->Int.toNat (1:Int)<v6.length)/\((v0.1==(1:Int)&&decide ((0:Int)<v6.getD (Int.toNat (1:Int)) (0:Int)))=true/\True->ix (2:Int) v6.length)/\((v0.1==(1:Int)&&decide ((0:Int)<v6.getD (Int.toNat (1:Int)) (0:Int)))=true/\True->Int.toNat (2:Int)<v6.length)/\((v0.1==(1:Int)&&decide ((0:Int)<v6.getD (Int.toNat (1:Int)) (0:Int))&&decide ((0:Int)<v6.getD (Int.toNat (2:Int)) (0:Int)))=true/\True->ix (3:Int) v6.length)/\((v0.1==(1:Int)&&decide ((0:Int)<v6.getD (Int.toNat (1:Int)) (0:Int))&&decide ((0:Int)<v6.getD (Int.toNat (2:Int)) (0:Int)))=true/\True->Int.toNat (3:Int)<v6.length)/\True) <|
    some (v0.1==(1:Int)&&decide ((0:Int)<v6.getD (Int.toNat (1:Int)) (0:Int))&&decide ((0:Int)<v6.getD (Int.toNat (2:Int)) (0:Int))&&v6.getD (Int.toNat (3:Int)) (0:Int)==(0:Int)&&(a0.2.2.2.2.1.length:Int)==(0:Int))
   else
    u109J4 ()
def u109J2(v3:Int)(g1:Int->Option Bool):Unit->Option Bool
 | _ =>
 gd (in64 (v3+1)/\True) <|
 g1 (v3+1)
def u109L3(a0:Y82)(v4:Y191)(v3:Int)(g1:Int->Option Bool)(g3:Int->Option Bool):Int->Option Bool
 | v5 =>
 if(decide (v5<v3)) then
  gd (ix v5 a0.2.2.2.1.length/\(((a0.2.2.2.1.getD v5.toNat (dflt y191)).1==v4.1)=true/\True->ix v5 a0.2.2.2.1.length)/\(((a0.2.2.2.1.getD v5.toNat (dflt y191)).1==v4.1&&(a0.2.2.2.1.getD v5.toNat (dflt y191)).2.1==v4.2.1)=true/\True->ix v5 a0.2.2.2.1.length)/\True) <|
  if((a0.2.2.2.1.getD v5.toNat (dflt y191)).1==v4.1&&(a0.2.2.2.1.getD v5.toNat (dflt y191)).2.1==v4.2.1&&(a0.2.2.2.1.getD v5.toNat (dflt y191)).2.2.1==v4.2.2.1) then
   some false
  else
   gd (in64 (v5+1)/\True) <|
   g3 (v5+1)
 else
  u109J2 v3 g1 ()
def u109L1(a0:Y82)(v0:Int×Bool)(g1:Int->Option Bool):Int->Option Bool
 | v3 =>
 if(decide (v3 < (a0.2.2.2.1.length:Int))) then
  gd (ix v3 a0.2.2.2.1.length/\True)<|lt (a0.2.2.2.1.getD v3.toNat (dflt y191)) fun v4 =>
  gd ((u140 a0 v4).isSome/\True) <|
  if(!vl (u140 a0 v4)) then
   some false
  else
   lp (u109L3 a0 v4 v3 g1) 0
 else
  u109J0 a0 v0 ()
def u109(a0:Y82):Option Bool :=
 gd ((u139 a0).isSome/\True)<|lt (vl (u139 a0)) fun v0 =>
 gd (((!v0.2)=false/\True->(u100 a0.1).isSome)/\((!v0.2||!vl (u100 a0.1)||decide (8 < (a0.2.2.2.1.length:Int)))=false/\True->(u77 a0.2.2.2.2.2.1 0 100000).isSome)/\((!v0.2||!vl (u100 a0.1)||decide (8 < (a0.2.2.2.1.length:Int))||!vl (u77 a0.2.2.2.2.2.1 0 100000))=false/\True->(u77 a0.2.2.2.2.2.2 0 100000).isSome)/\True) <|
 if(!v0.2||!vl (u100 a0.1)||decide (8 < (a0.2.2.2.1.length:Int))||!vl (u77 a0.2.2.2.2.2.1 0 100000)||!vl (u77 a0.2.2.2.2.2.2 0 100000)) then
  some false
 else
  lp (u109L1 a0 v0) 0
def k109:Ct:=lct 109 [.agg y82] (fun x=>u109 x.1) (fun r:Bool=>B r) (fun _=>())
theorem o109:Ok prog k109:=by
 refine okM [.tmp 2] func109 ?_;intro y ⟨a0,_⟩ r H Q hn hr;have:=hz (tc o77 (tc o141 (tc o140 (tc o100 (tc o139 tn)))));refine iA [1]<|iD o139 [1,3,4] H fun v0 H=>vQ<|iB [1,3,40] H fun H=>cD H (fun H=>iA [2]<|vTT<|fR<|hr H) fun H=>vK<|fQ<|jN r (fun(_:Unit)=>Z (G1 v0.1 []) [(1,K 82 y82 a0)]) (u109J0 a0 v0) (fun _ H=>?_) (fun _ n0 e0 t0=>?_)
 ·refine iD o141 [1,3,8] H fun _ H=>jN r (fun(_:Unit)=>Z [] []) (u109J4) (fun _ H=>?_) (fun _ n4 e4 t4=>?_)
  ·refine iA [2]<|vTT<|hr H
  refine iA [1,3,8,96]<|vB<|iA [1,3,8,96,97]<|cD H (fun H=>?_) (fun H=>?_)
  ·refine jN r (fun(_:Unit)=>Z (G1 v0.1 []) [(1,K 82 y82 a0)]) (u109J5 v0 a0) (fun _ H=>?_) (fun _ n5 e5 t5=>?_)
   ·refine iB [2] H fun H=>vTT<|fDD<|t4<|hr H
   refine iA [1,3,9]<|vB<|lX (fun(v7:Int)=>Z (G1 v0.1 [p 9 (I v7)]) [(1,K 82 y82 a0)]) 0 H fun _ g6 b6 e6 t6 v7 H=>vQ<|iA [1,3,9,103]<|cD H (fun H=>?_) (fun H=>?_)
   ·refine vK<|fQ<|vQ<|vB<|iB [1,3,9,112] H fun H=>cD H (fun H=>iA [2]<|vTT<|fDD<|fR<|t6<|fDD<|t5<|fDD<|t4<|hr H) fun H=>vK<|fK<|fQ<|jB [1,3,9] H fun H=>b6 H
   exact vE<|fE<|e6<|fX rfl<|n5 H
  refine iA [1,3,8,96,127]<|cD H (fun H=>iB [2] H fun H=>vTT<|fDD<|t4<|hr H) fun H=>iA [1,3,8,154]<|cD H (fun H=>iB [2] H fun H=>vTT<|fDD<|t4<|hr H) fun H=>vK<|fK<|n4 H
 refine iA [1,3,5]<|vB<|lX (fun(v3:Int)=>Z (G1 v0.1 [p 5 (I v3)]) [(1,K 82 y82 a0)]) 0 H fun _ g1 b1 e1 t1 v3 H=>vQ<|iA [1,3,5,45]<|cD H (fun H=>?_) (fun H=>?_)
 ·refine vK<|fQ<|jN r (fun(_:Unit)=>Z (G1 v0.1 [p 5 (I v3)]) [(1,K 82 y82 a0)]) (u109J2 v3 g1) (fun _ H=>?_) (fun _ n2 e2 t2=>?_)
  ·refine jB [1,3,5] H fun H=>b1 H
  refine vB<|qD (fun v4=>Z (G1 v0.1 [p 5 (I v3),p 6 (R 6)]) [(6,K 191 y191 v4),(1,K 82 y82 a0)]) H fun v4 H=>vQ<|iB [1,3,5,6,56] H fun H=>cD H (fun H=>iA [2]<|vTT<|fR<|fDD<|t2<|t1<|fDD<|t0<|hr H) fun H=>vK<|fQ<|iA [1,3,5,6,7]<|vB<|lX (fun(v5:Int)=>Z (G1 v0.1 [p 5 (I v3),p 6 (R 6),p 7 (I v5)]) [(6,K 191 y191 v4),(1,K 82 y82 a0)]) 0 H fun _ g3 b3 e3 t3 v5 H=>vQ<|iA [1,3,5,6,7,59]<|cD H (fun H=>?_) (fun H=>?_)
  ·refine vK<|fQ<|vQ<|vB<|iB [1,3,5,6,7,92] H fun H=>cD H (fun H=>iA [2]<|vTT<|fDD<|fR<|t3<|fDD<|fDD<|t2<|t1<|fDD<|t0<|hr H) fun H=>vK<|fK<|fQ<|jB [1,3,5,6,7] H fun H=>b3 H
  exact vE<|fE<|e3<|fX rfl<|fK<|n2 H
 exact vE<|fE<|e1<|fX rfl<|n0 H
def u74J0(a0:List Y82):Unit->Option Bool
 | _ =>
 some (decide ((a0.length:Int)<=8))
def u74J2(v1:Int)(g1:Int->Option Bool):Unit->Option Bool
 | _ =>
 gd (in64 (v1+1)/\True) <|
 g1 (v1+1)
def u74L3(a0:List Y82)(v1:Int)(g1:Int->Option Bool)(g3:Int->Option Bool):Int->Option Bool
 | v2 =>
 if(decide (v2<v1)) then
  gd (ix v2 a0.length/\ix v1 a0.length/\True) <|
  if(decide ((a0.getD v2.toNat (dflt y82)).1=(a0.getD v1.toNat (dflt y82)).1)) then
   some false
  else
   gd (in64 (v2+1)/\True) <|
   g3 (v2+1)
 else
  u74J2 v1 g1 ()
def u74L1(a0:List Y82)(g1:Int->Option Bool):Int->Option Bool
 | v1 =>
 if(decide (v1 < (a0.length:Int))) then
  gd (ix v1 a0.length/\(u109 (a0.getD v1.toNat (dflt y82))).isSome/\True) <|
  if(!vl (u109 (a0.getD v1.toNat (dflt y82)))) then
   some false
  else
   lp (u74L3 a0 v1 g1) 0
 else
  u74J0 a0 ()
def u74(a0:List Y82):Option Bool :=
 lp (u74L1 a0) 0
def k74:Ct:=lct 74 [.agg y82.sl] (fun x=>u74 x.1) (fun r:Bool=>B r) (fun _=>())
theorem o74:Ok prog k74:=by
 refine okM [.tmp 2] func74 ?_;intro y ⟨a0,_⟩ r H Q hn hr;have:=hz (tc o109 tn);refine iA [1]<|jN r (fun(_:Unit)=>Z [p 1 (R 1)] [(1,bx 37 [L y82 a0])]) (u74J0 a0) (fun _ H=>?_) (fun _ n0 e0 t0=>?_)
 ·refine iA [2]<|vTT<|hr H
 refine iA [1,3]<|vB<|lX (fun(v1:Int)=>Z (G1 v1 []) [(1,bx 37 [L y82 a0])]) 0 H fun _ g1 b1 e1 t1 v1 H=>vQ<|iA [1,3,9]<|cD H (fun H=>?_) (fun H=>?_)
 ·refine vK<|fQ<|jN r (fun(_:Unit)=>Z (G1 v1 []) [(1,bx 37 [L y82 a0])]) (u74J2 v1 g1) (fun _ H=>?_) (fun _ n2 e2 t2=>?_)
  ·refine jB [1,3] H fun H=>b1 H
  refine vB<|vQ<|iB [1,3,18] H fun H=>cD H (fun H=>iA [2]<|vTT<|fR<|fDD<|t2<|t1<|fDD<|t0<|hr H) fun H=>vK<|fQ<|iA [1,3,4]<|vB<|lX (fun(v2:Int)=>Z (G1 v1 [p 4 (I v2)]) [(1,bx 37 [L y82 a0])]) 0 H fun _ g3 b3 e3 t3 v2 H=>vQ<|iA [1,3,4,21]<|cD H (fun H=>?_) (fun H=>?_)
  ·refine vK<|fQ<|vQ<|vB<|iB [1,3,4,36] H fun H=>cD H (fun H=>iA [2]<|vTT<|fDD<|fR<|t3<|fDD<|fDD<|t2<|t1<|fDD<|t0<|hr H) fun H=>vK<|fK<|fQ<|jB [1,3,4] H fun H=>b3 H
  exact vE<|fE<|e3<|fX rfl<|fK<|n2 H
 exact vE<|fE<|e1<|fX rfl<|n0 H
def u43J9:Unit->Option Bool
 | _ =>
 some true
def u43L10(v20:List Int)(g10:Int->Option Bool):Int->Option Bool
 | v21 =>
 if(decide (v21 < (v20.length:Int))) then
  gd (ix v21 v20.length/\v21.toNat<v20.length/\True) <|
  if(v20.getD v21.toNat 0 != 1) then
   some false
  else
   gd (in64 (v21+1)/\True) <|
   g10 (v21+1)
 else
  u43J9 ()
def u43J6:List Int->Option Bool
 | v20 =>
 lp (u43L10 v20) 0
def u43J8(v16:Int)(g7:Int×List Int->Option Bool):List Int->Option Bool
 | v19 =>
 gd (in64 (v16+1)/\True) <|
 g7 (v16+1,v19)
def u43L7(a1:Y41)(g7:Int×List Int->Option Bool):Int×List Int->Option Bool
 | (v16,v17) =>
 if(decide (v16 < (a1.2.2.length:Int))) then
  gd (ix v16 a1.2.2.length/\True) <|
  if((a1.2.2.getD v16.toNat (dflt y114)).2.1==1) then
   gd (ix v16 a1.2.2.length/\ix (a1.2.2.getD v16.toNat (dflt y114)).2.2 v17.length/\(a1.2.2.getD v16.toNat (dflt y114)).2.2.toNat<v17.length/\in64 (v17.getD (a1.2.2.getD v16.toNat (dflt y114)).2.2.toNat 0+1)/\ix (a1.2.2.getD v16.toNat (dflt y114)).2.2 v17.length/\(a1.2.2.getD v16.toNat (dflt y114)).2.2.toNat<v17.length/\True)<|lt (v17.set (a1.2.2.getD v16.toNat (dflt y114)).2.2.toNat (v17.getD (a1.2.2.getD v16.toNat (dflt y114)).2.2.toNat 0+1)) fun v18 =>
   u43J8 v16 g7 v18
  else
   u43J8 v16 g7 v17
 else
  u43J6 v17
def u43J4(a1:Y41):List Int->Option Bool
 | v13 =>
 lp (u43L7 a1) (0,v13)
def u43L5(a1:Y41)(g5:Int×List Int->Option Bool):Int×List Int->Option Bool
 | (v9,v10) =>
 if(decide (v9 < (a1.1.length:Int))) then
  gd (ix v9 a1.1.length/\True)<|lt (a1.1.getD v9.toNat (dflt y112)) fun v11 =>
  gd (in64 ((v11.2.2.length:Int)-1)/\ix ((v11.2.2.length:Int)-1) v11.2.2.length/\ix (v11.2.2.getD ((v11.2.2.length:Int)-1).toNat 0) v10.length/\Int.toNat (v11.2.2.getD ((v11.2.2.length:Int)-1).toNat 0)<v10.length/\in64 (v10.getD (Int.toNat (v11.2.2.getD ((v11.2.2.length:Int)-1).toNat 0)) 0+1)/\ix (v11.2.2.getD ((v11.2.2.length:Int)-1).toNat 0) v10.length/\Int.toNat (v11.2.2.getD ((v11.2.2.length:Int)-1).toNat 0)<v10.length/\True)<|lt (v10.set (Int.toNat (v11.2.2.getD ((v11.2.2.length:Int)-1).toNat 0)) (v10.getD (Int.toNat (v11.2.2.getD ((v11.2.2.length:Int)-1).toNat 0)) 0+1)) fun v12 =>
  gd (in64 (v9+1)/\True) <|
  g5 (v9+1,v12)
 else
  u43J4 a1 v10
def u43J2(a1:Y41)(v2:List ByteArray):List ByteArray->Option Bool
 | v6 =>
 gd ((u76 v2).isSome/\((!vl (u76 v2))=false/\True->(u76 v6).isSome)/\((!vl (u76 v2)||!vl (u76 v6))=false/\True->(u76 a1.2.1).isSome)/\True) <|
 if(!vl (u76 v2)||!vl (u76 v6)||!vl (u76 a1.2.1)) then
  some false
 else
  gd ((0<=(a1.2.1.length:Int)/\(a1.2.1.length:Int)=(a1.2.1.length:Int)/\(a1.2.1.length:Int).toNat*8<=281474976710656/\(a1.2.1.length:Int)<=9223372036854775807)/\True) <|
  lp (u43L5 a1) ((0,List.replicate (a1.2.1.length:Int).toNat 0))
def u43L3(a1:Y41)(v2:List ByteArray)(g3:Int×List ByteArray->Option Bool):Int×List ByteArray->Option Bool
 | (v4,v5) =>
 if(decide (v4 < (a1.2.2.length:Int))) then
  gd (ix v4 a1.2.2.length/\(v5.length+[(a1.2.2.getD v4.toNat (dflt y114)).1].length<=9223372036854775807/\(v5.length+[(a1.2.2.getD v4.toNat (dflt y114)).1].length)*16<=140737488355328)/\True) <|
  gd (in64 (v4+1)/\True) <|
  g3 ((v4+1,v5++[(a1.2.2.getD v4.toNat (dflt y114)).1]))
 else
  u43J2 a1 v2 v5
def u43J0(a1:Y41):List ByteArray->Option Bool
 | v2 =>
 lp (u43L3 a1 v2) (0,[])
def u43L1(a1:Y41)(g1:Int×List ByteArray->Option Bool):Int×List ByteArray->Option Bool
 | (v0,v1) =>
 if(decide (v0 < (a1.1.length:Int))) then
  gd (ix v0 a1.1.length/\(v1.length+[(a1.1.getD v0.toNat (dflt y112)).1].length<=9223372036854775807/\(v1.length+[(a1.1.getD v0.toNat (dflt y112)).1].length)*16<=140737488355328)/\True) <|
  gd (in64 (v0+1)/\True) <|
  g1 ((v0+1,v1++[(a1.1.getD v0.toNat (dflt y112)).1]))
 else
  u43J0 a1 v1
def u43(a0:List Y82)(a1:Y41):Option Bool :=
 gd ((u74 a0).isSome/\((!vl (u74 a0)||decide (14 < (a1.1.length:Int))||decide (30 < (a1.2.1.length:Int))||decide (8 < (a1.2.2.length:Int)))=false/\True->(u75 a0 a1).isSome)/\True) <|
 if(!vl (u74 a0)||decide (14 < (a1.1.length:Int))||decide (30 < (a1.2.1.length:Int))||decide (8 < (a1.2.2.length:Int))||!vl (u75 a0 a1)) then
  some false
 else
  lp (u43L1 a1) (0,[])
def k43:Ct:=lct 43 [.agg y82.sl,.agg y41] (fun x=>u43 x.1 x.2.1) (fun r:Bool=>B r) (fun _=>())
theorem o43:Ok prog k43:=by
 refine okM [.tmp 4] func43 ?_;intro y ⟨_,a1,_⟩ r H Q hn hr;have:=hz (tc o76 (tc o75 (tc o74 tn)));refine iA [2,3]<|vQ<|iB [3,40] H fun H=>cD H (fun H=>iA [4]<|vTT<|fR<|hr H) fun H=>vK<|fQ<|iA [3,5]<|jN r (fun(v2:List ByteArray)=>Z [p 3 (R 3),p 5 (O 41)] [(41,A 9 Ty.str v2 0),(3,K 41 y41 a1)]) (u43J0 a1) (fun v2 H=>?_) (fun _ n0 e0 t0=>?_)
 ·refine iA [3,5,7]<|jN r (fun(v6:List ByteArray)=>Z [p 3 (R 3),p 5 (O 41),p 7 (O 58)] [(58,A 9 Ty.str v6 0),(41,A 9 Ty.str v2 0),(3,K 41 y41 a1)]) (u43J2 a1 v2) (fun v6 H=>?_) (fun _ n2 e2 t2=>?_)
  ·refine vQ<|iB [3,88] H fun H=>cD H (fun H=>iA [4]<|vTT<|fR<|hr H) fun H=>vK<|fQ<|iB [3,9] H fun H=>jN r (fun(v13:List Int)=>Z [p 3 (R 3),p 9 (O 92)] (W5 v13 a1)) (u43J4 a1) (fun v13 H=>?_) (fun _ n4 e4 t4=>?_)
   ·refine jN r (fun(v20:List Int)=>Z [p 9 (O 92)] [(92,A 2 i64 v20 0)]) (u43J6) (fun v20 H=>?_) (fun _ n6 e6 t6=>?_)
    ·refine jN r (fun(_:Unit)=>Z [] []) (u43J9) (fun _ H=>?_) (fun _ n9 e9 t9=>?_)
     ·refine iA [4]<|vTT<|hr H
     refine iA [9,13]<|vB<|lX (fun(v21:Int)=>Z [p 9 (O 92),p 13 (I v21)] [(92,A 2 i64 v20 0)]) 0 H fun _ g10 b10 e10 t10 v21 H=>vQ<|iA [9,13,145]<|cD H (fun H=>?_) (fun H=>?_)
     ·refine vK<|fQ<|vQ<|vB<|iB [9,13,152] H fun H=>cD H (fun H=>iA [4]<|vTT<|fDD<|fR<|t10<|fDD<|t9<|hr H) fun H=>vK<|fK<|fQ<|jB [9,13] H fun H=>b10 H
     exact vE<|fE<|e10<|fX rfl<|n9 H
    refine iA [3,9,12]<|vB<|lX (fun((v16,v17):Int×List Int)=>Z [p 3 (R 3),p 9 (O 92),p 12 (I v16)] (W5 v17 a1)) (0,v13) H fun _ g7 b7 e7 t7 ⟨v16,v17⟩ H=>vQ<|iA [3,9,12,121]<|cD H (fun H=>?_) (fun H=>?_)
    ·refine vK<|fQ<|jN r (fun(v19:List Int)=>Z [p 3 (R 3),p 9 (O 92),p 12 (I v16)] (W5 v19 a1)) (u43J8 v16 g7) (fun v19 H=>?_) (fun _ n8 e8 t8=>?_)
     ·refine jB [3,9,12] H fun H=>b7 H
     refine vB<|iB [3,9,12,130] H fun H=>cD H (fun H=>zD (fun v18=>Z [p 3 (R 3),p 9 (O 92),p 12 (I v16)] (W5 v18 a1)) H fun v18 H=>fK<|n8 H) fun H=>vK<|fK<|n8 H
    exact vE<|fE<|e7<|fX rfl<|n6 H
   refine iA [3,9,10]<|vB<|lX (fun((v9,v10):Int×List Int)=>Z [p 3 (R 3),p 9 (O 92),p 10 (I v9)] (W5 v10 a1)) ((0,List.replicate (a1.2.1.length:Int).toNat 0)) H fun _ g5 b5 e5 t5 ⟨v9,v10⟩ H=>vQ<|iA [3,9,10,97]<|cD H (fun H=>vK<|fQ<|vQ<|vB<|qD (fun v11=>Z [p 3 (R 3),p 9 (O 92),p 10 (I v9),p 11 (L i64 v11.2.2)] (W5 v10 a1)) H fun v11 H=>zD (fun v12=>Z [p 3 (R 3),p 9 (O 92),p 10 (I v9)] (W5 v12 a1)) H fun v12 H=>fK<|fQ<|jB [3,9,10] H fun H=>b5 H) fun H=>vE<|fE<|e5<|fX rfl<|n4 H
  refine iA [3,5,7,8]<|vB<|lX (fun((v4,v5):Int×List ByteArray)=>Z [p 3 (R 3),p 5 (O 41),p 7 (O 58),p 8 (I v4)] [(58,A 9 Ty.str v5 0),(41,A 9 Ty.str v2 0),(3,K 41 y41 a1)]) (0,[]) H fun _ g3 b3 e3 t3 ⟨v4,v5⟩ H=>vQ<|iA [3,5,7,8,63]<|cD H (fun H=>vK<|fQ<|vQ<|vB<|jB [3,5,7,8] H fun H=>fK<|fQ<|jB [3,5,7,8] H fun H=>b3 H) fun H=>vE<|fE<|e3<|fX rfl<|n2 H
 refine iA [3,5,6]<|vB<|lX (fun((v0,v1):Int×List ByteArray)=>Z [p 3 (R 3),p 5 (O 41),p 6 (I v0)] [(41,A 9 Ty.str v1 0),(3,K 41 y41 a1)]) (0,[]) H fun _ g1 b1 e1 t1 ⟨v0,v1⟩ H=>vQ<|iA [3,5,6,46]<|cD H (fun H=>vK<|fQ<|vQ<|vB<|jB [3,5,6] H fun H=>fK<|fQ<|jB [3,5,6] H fun H=>b1 H) fun H=>vE<|fE<|e1<|fX rfl<|n0 H
def u18J0:Unit->Option Bool
 | _ =>
 some true
def u18L1(a0:Y44)(g1:Int->Option Bool):Int->Option Bool
 | v1 =>
 if(decide (v1 < (a0.2.2.length:Int))) then
  gd (ix v1 a0.2.2.length/\(u45 a0.2.1 v1).isSome/\(u44 (a0.2.2.getD v1.toNat (dflt y55)) (↑(vl (u45 a0.2.1 v1)).length:Int)).isSome/\True)<|lt (vl (u45 a0.2.1 v1)) fun v2 =>
  if(!vl (u44 (a0.2.2.getD v1.toNat (dflt y55)) (v2.length:Int))) then
   some false
  else
   gd (in64 (v1+1)/\True) <|
   g1 (v1+1)
 else
  u18J0 ()
def u18(a0:Y44):Option Bool :=
 gd ((u43 a0.1 a0.2.1).isSome/\True) <|
 if(!vl (u43 a0.1 a0.2.1)||(a0.2.2.length:Int) != (a0.2.1.2.1.length:Int)) then
  some false
 else
  lp (u18L1 a0) 0
def k18:Ct:=lct 18 [.agg y44] (fun x=>u18 x.1) (fun r:Bool=>B r) (fun _=>())
theorem o18:Ok prog k18:=by
 refine okM [.tmp 2] func18 ?_;intro y ⟨a0,_⟩ r H Q hn hr;have:=hz (tc o44 (tc o45 (tc o43 tn)));refine iA [1]<|vQ<|iB [1,19] H fun H=>cD H (fun H=>iA [2]<|vTT<|fR<|hr H) fun H=>vK<|fQ<|jN r (fun(_:Unit)=>Z [] []) (u18J0) (fun _ H=>?_) (fun _ n0 e0 t0=>?_)
 ·refine iA [2]<|vTT<|hr H
 refine iA [1,3]<|vB<|lX (fun(v1:Int)=>Z (G1 v1 []) [(1,K 44 y44 a0)]) 0 H fun _ g1 b1 e1 t1 v1 H=>vQ<|iA [1,3,24]<|cD H (fun H=>?_) (fun H=>?_)
 ·refine vK<|fQ<|vQ<|vB<|iD o45 [1,3,38] H fun _ H=>cD H (fun H=>iA [2]<|vTT<|fDD<|fR<|t1<|fDD<|t0<|hr H) fun H=>vK<|fK<|fQ<|jB [1,3] H fun H=>b1 H
 exact vE<|fE<|e1<|fX rfl<|n0 H
def u60(a0:List Int)(a1:Int):Option Int :=
 gd (in64 (a1-(a0.length:Int))/\True) <|
 if(decide (a1-(a0.length:Int)<0)) then
  some (-1)
 else
  some (a1-(a0.length:Int))
def k60:Ct:=lct 60 [.dat i64.sl,.dat i64] (fun x=>u60 x.1 x.2.1) (fun r:Int=>I r) (fun _=>())
theorem o60:Ok prog k60:=by
 refine okM [.tmp 4] func60 ?_;intro y ⟨_,_,_⟩ r H Q hn hr;refine iA [0,1]<|iB [1] H fun H=>vQ<|iA [1,10]<|cD H (fun H=>iA [4]<|vTT<|fR<|hr H) fun H=>vK<|fQ<|iA [4]<|vTT<|hr H
def u28(a0:Y50)(a1:Int):Option Int :=
 gd ((u60 a0.1 a1).isSome/\True)<|lt (vl (u60 a0.1 a1)) fun v0 =>
 if(decide (v0<0)) then
  some (-1)
 else
  gd ((u60 a0.2.1 v0).isSome/\True)<|lt (vl (u60 a0.2.1 v0)) fun v1 =>
  if(decide (v1<0)) then
   some (-1)
  else
   gd ((u60 a0.2.2.1 v1).isSome/\True)<|lt (vl (u60 a0.2.2.1 v1)) fun v2 =>
   if(decide (v2<0)) then
    some (-1)
   else
    gd ((u60 a0.2.2.2 v2).isSome/\True)<|lt (vl (u60 a0.2.2.2 v2)) fun v3 =>
    if(decide (v3<0)) then
     some (-1)
    else
     some v3
def k28:Ct:=lct 28 [.agg y50,.dat i64] (fun x=>u28 x.1 x.2.1) (fun r:Int=>I r) (fun _=>())
theorem o28:Ok prog k28:=by
 refine okM [.tmp 4] func28 ?_;intro y ⟨_,_,_⟩ r H Q hn hr;have:=hz (tc o60 tn);refine iA [1,2]<|iD o60 [1,2] H fun _ H=>vQ<|iA [1,2,10]<|cD H (fun H=>iA [4]<|vTT<|fR<|hr H) fun H=>vK<|fQ<|iD o60 [1,2] H fun _ H=>vQ<|iA [1,2,16]<|cD H (fun H=>iA [4]<|vTT<|fR<|hr H) fun H=>vK<|fQ<|iD o60 [1,2] H fun _ H=>vQ<|iA [1,2,22]<|cD H (fun H=>iA [4]<|vTT<|fR<|hr H) fun H=>vK<|fQ<|iD o60 [1] H fun _ H=>vQ<|iA [1,28]<|cD H (fun H=>iA [4]<|vTT<|fR<|hr H) fun H=>vK<|fQ<|iA [4]<|vTT<|hr H
def u17J0:Int->Option Int
 | v4 =>
 some v4
def u17L1(a0:List Y50)(g1:Int×Int->Option Int):Int×Int->Option Int
 | (v1,v2) =>
 if(decide (v2 < (a0.length:Int))) then
  gd (ix v2 a0.length/\(u28 (a0.getD v2.toNat (dflt y50)) v1).isSome/\True)<|lt (vl (u28 (a0.getD v2.toNat (dflt y50)) v1)) fun v3 =>
  if(decide (v3<0)) then
   some (-1)
  else
   gd (in64 (v2+1)/\True) <|
   g1 (v3,v2+1)
 else
  u17J0 v1
def u17(a0:List Y50)(a1:Int):Option Int :=
 gd (in64 (a1-(a0.length:Int))/\True) <|
 if(decide (a1-(a0.length:Int)<0)) then
  some (-1)
 else
  lp (u17L1 a0) ((a1-(a0.length:Int),0))
def k17:Ct:=lct 17 [.dat y50.sl,.dat i64] (fun x=>u17 x.1 x.2.1) (fun r:Int=>I r) (fun _=>())
theorem o17:Ok prog k17:=by
 refine okM [.tmp 4] func17 ?_;intro y ⟨a0,a1,_⟩ r H Q hn hr;have:=hz (tc o28 tn);refine iA [0,1]<|iB [0,1] H fun H=>vQ<|iA [0,1,11]<|cD H (fun H=>iA [4]<|vTT<|fR<|hr H) fun H=>vK<|fQ<|jN r (fun(v4:Int)=>Z [p 1 (I v4)] []) (u17J0) (fun v4 H=>?_) (fun _ n0 e0 t0=>?_)
 ·refine iA [4]<|vTT<|hr H
 refine iA [0,1,5]<|vB<|lX (fun((v1,v2):Int×Int)=>Z [p 0 (L y50 a0),p 1 (I v1),p 5 (I v2)] []) ((a1-(a0.length:Int),0)) H fun _ g1 b1 e1 t1 ⟨v1,v2⟩ H=>vQ<|iA [0,1,5,15]<|cD H (fun H=>?_) (fun H=>?_)
 ·refine vK<|fQ<|vQ<|vB<|iD o28 [0,1,5] H fun _ H=>iA [0,1,5,25]<|cD H (fun H=>iA [4]<|vTT<|fDD<|fR<|t1<|fDD<|t0<|hr H) fun H=>vK<|fK<|fQ<|jB [0,1,5] H fun H=>b1 H
 exact vE<|fE<|e1<|fX rfl<|n0 H
def u73(a0:Y132)(a1:Int):Option Int :=
 gd (in64 (a1-(a0.1.size:Int))/\True) <|
 if(decide (a1-(a0.1.size:Int)<0)) then
  some (-1)
 else
  some (a1-(a0.1.size:Int))
def k73:Ct:=lct 73 [.agg y132,.dat i64] (fun x=>u73 x.1 x.2.1) (fun r:Int=>I r) (fun _=>())
theorem o73:Ok prog k73:=by
 refine okM [.tmp 4] func73 ?_;intro y ⟨_,_,_⟩ r H Q hn hr;refine iA [1,2]<|iB [1] H fun H=>vQ<|iA [1,11]<|cD H (fun H=>iA [4]<|vTT<|fR<|hr H) fun H=>vK<|fQ<|iA [4]<|vTT<|hr H
def u42J0:Int->Option Int
 | v4 =>
 some v4
def u42L1(a0:List Y132)(g1:Int×Int->Option Int):Int×Int->Option Int
 | (v1,v2) =>
 if(decide (v2 < (a0.length:Int))) then
  gd (ix v2 a0.length/\(u73 (a0.getD v2.toNat (dflt y132)) v1).isSome/\True)<|lt (vl (u73 (a0.getD v2.toNat (dflt y132)) v1)) fun v3 =>
  if(decide (v3<0)) then
   some (-1)
  else
   gd (in64 (v2+1)/\True) <|
   g1 (v3,v2+1)
 else
  u42J0 v1
def u42(a0:List Y132)(a1:Int):Option Int :=
 gd (in64 (a1-(a0.length:Int))/\True) <|
 if(decide (a1-(a0.length:Int)<0)) then
  some (-1)
 else
  lp (u42L1 a0) ((a1-(a0.length:Int),0))
def k42:Ct:=lct 42 [.dat y132.sl,.dat i64] (fun x=>u42 x.1 x.2.1) (fun r:Int=>I r) (fun _=>())
theorem o42:Ok prog k42:=by
 refine okM [.tmp 4] func42 ?_;intro y ⟨a0,a1,_⟩ r H Q hn hr;have:=hz (tc o73 tn);refine iA [0,1]<|iB [0,1] H fun H=>vQ<|iA [0,1,11]<|cD H (fun H=>iA [4]<|vTT<|fR<|hr H) fun H=>vK<|fQ<|jN r (fun(v4:Int)=>Z [p 1 (I v4)] []) (u42J0) (fun v4 H=>?_) (fun _ n0 e0 t0=>?_)
 ·refine iA [4]<|vTT<|hr H
 refine iA [0,1,5]<|vB<|lX (fun((v1,v2):Int×Int)=>Z [p 0 (L y132 a0),p 1 (I v1),p 5 (I v2)] []) ((a1-(a0.length:Int),0)) H fun _ g1 b1 e1 t1 ⟨v1,v2⟩ H=>vQ<|iA [0,1,5,15]<|cD H (fun H=>?_) (fun H=>?_)
 ·refine vK<|fQ<|vQ<|vB<|iD o73 [0,1,5] H fun _ H=>iA [0,1,5,25]<|cD H (fun H=>iA [4]<|vTT<|fDD<|fR<|t1<|fDD<|t0<|hr H) fun H=>vK<|fK<|fQ<|jB [0,1,5] H fun H=>b1 H
 exact vE<|fE<|e1<|fX rfl<|n0 H
def u41J0:Int->Option Int
 | v4 =>
 some v4
def u41L1(a0:List ByteArray)(g1:Int×Int->Option Int):Int×Int->Option Int
 | (v1,v2) =>
 if(decide (v2 < (a0.length:Int))) then
  gd (ix v2 a0.length/\in64 (v1-(↑(ByteArray.size (a0.getD v2.toNat (dflt Ty.str))):Int))/\True)<|lt (v1-(↑(ByteArray.size (a0.getD v2.toNat (dflt Ty.str))):Int)) fun v3 =>
  if(decide (v3<0)) then
   some (-1)
  else
   gd (in64 (v2+1)/\True) <|
   g1 (v3,v2+1)
 else
  u41J0 v1
def u41(a0:List ByteArray)(a1:Int):Option Int :=
 gd (in64 (a1-(a0.length:Int))/\True) <|
 if(decide (a1-(a0.length:Int)<0)) then
  some (-1)
 else
  lp (u41L1 a0) ((a1-(a0.length:Int),0))
def k41:Ct:=lct 41 [.dat Ty.str.sl,.dat i64] (fun x=>u41 x.1 x.2.1) (fun r:Int=>I r) (fun _=>())
theorem o41:Ok prog k41:=by
 refine okM [.tmp 4] func41 ?_;intro y ⟨a0,a1,_⟩ r H Q hn hr;refine iA [0,1]<|iB [0,1] H fun H=>vQ<|iA [0,1,11]<|cD H (fun H=>iA [4]<|vTT<|fR<|hr H) fun H=>vK<|fQ<|jN r (fun(v4:Int)=>Z [p 1 (I v4)] []) (u41J0) (fun v4 H=>?_) (fun _ n0 e0 t0=>?_)
 ·refine iA [4]<|vTT<|hr H
 refine iA [0,1,5]<|vB<|lX (fun((v1,v2):Int×Int)=>Z [p 0 (L Ty.str a0),p 1 (I v1),p 5 (I v2)] []) ((a1-(a0.length:Int),0)) H fun _ g1 b1 e1 t1 ⟨v1,v2⟩ H=>vQ<|iA [0,1,5,15]<|cD H (fun H=>?_) (fun H=>?_)
 ·refine vK<|fQ<|vQ<|vB<|qD (fun v3=>Z [p 0 (L Ty.str a0),p 1 (I v3),p 5 (I v2)] []) H fun v3 H=>iA [0,1,5,26]<|cD H (fun H=>iA [4]<|vTT<|fDD<|fR<|t1<|fDD<|t0<|hr H) fun H=>vK<|fK<|fQ<|jB [0,1,5] H fun H=>b1 H
 exact vE<|fE<|e1<|fX rfl<|n0 H
def u72(a0:Y130)(a1:Int):Option Int :=
 gd (in64 (a1-(a0.1.size:Int))/\True) <|
 if(decide (a1-(a0.1.size:Int)<0)) then
  some (-1)
 else
  gd ((u60 a0.2.2 (a1-(a0.1.size:Int))).isSome/\True)<|lt (vl (u60 a0.2.2 (a1-(a0.1.size:Int)))) fun v0 =>
  if(decide (v0<0)) then
   some (-1)
  else
   some v0
def k72:Ct:=lct 72 [.agg y130,.dat i64] (fun x=>u72 x.1 x.2.1) (fun r:Int=>I r) (fun _=>())
theorem o72:Ok prog k72:=by
 refine okM [.tmp 4] func72 ?_;intro y ⟨_,_,_⟩ r H Q hn hr;have:=hz (tc o60 tn);refine iA [1,2]<|iB [1,2] H fun H=>vQ<|iA [1,2,11]<|cD H (fun H=>iA [4]<|vTT<|fR<|hr H) fun H=>vK<|fQ<|iD o60 [1] H fun _ H=>vQ<|iA [1,17]<|cD H (fun H=>iA [4]<|vTT<|fR<|hr H) fun H=>vK<|fQ<|iA [4]<|vTT<|hr H
def u40J0:Int->Option Int
 | v4 =>
 some v4
def u40L1(a0:List Y130)(g1:Int×Int->Option Int):Int×Int->Option Int
 | (v1,v2) =>
 if(decide (v2 < (a0.length:Int))) then
  gd (ix v2 a0.length/\(u72 (a0.getD v2.toNat (dflt y130)) v1).isSome/\True)<|lt (vl (u72 (a0.getD v2.toNat (dflt y130)) v1)) fun v3 =>
  if(decide (v3<0)) then
   some (-1)
  else
   gd (in64 (v2+1)/\True) <|
   g1 (v3,v2+1)
 else
  u40J0 v1
def u40(a0:List Y130)(a1:Int):Option Int :=
 gd (in64 (a1-(a0.length:Int))/\True) <|
 if(decide (a1-(a0.length:Int)<0)) then
  some (-1)
 else
  lp (u40L1 a0) ((a1-(a0.length:Int),0))
def k40:Ct:=lct 40 [.dat y130.sl,.dat i64] (fun x=>u40 x.1 x.2.1) (fun r:Int=>I r) (fun _=>())
theorem o40:Ok prog k40:=by
 refine okM [.tmp 4] func40 ?_;intro y ⟨a0,a1,_⟩ r H Q hn hr;have:=hz (tc o72 tn);refine iA [0,1]<|iB [0,1] H fun H=>vQ<|iA [0,1,11]<|cD H (fun H=>iA [4]<|vTT<|fR<|hr H) fun H=>vK<|fQ<|jN r (fun(v4:Int)=>Z [p 1 (I v4)] []) (u40J0) (fun v4 H=>?_) (fun _ n0 e0 t0=>?_)
 ·refine iA [4]<|vTT<|hr H
 refine iA [0,1,5]<|vB<|lX (fun((v1,v2):Int×Int)=>Z [p 0 (L y130 a0),p 1 (I v1),p 5 (I v2)] []) ((a1-(a0.length:Int),0)) H fun _ g1 b1 e1 t1 ⟨v1,v2⟩ H=>vQ<|iA [0,1,5,15]<|cD H (fun H=>?_) (fun H=>?_)
 ·refine vK<|fQ<|vQ<|vB<|iD o72 [0,1,5] H fun _ H=>iA [0,1,5,25]<|cD H (fun H=>iA [4]<|vTT<|fDD<|fR<|t1<|fDD<|t0<|hr H) fun H=>vK<|fK<|fQ<|jB [0,1,5] H fun H=>b1 H
 exact vE<|fE<|e1<|fX rfl<|n0 H
def u16(a0:Y29)(a1:Int):Option Int :=
 gd ((u40 a0.1 a1).isSome/\True)<|lt (vl (u40 a0.1 a1)) fun v0 =>
 if(decide (v0<0)) then
  some (-1)
 else
  gd ((u41 a0.2.1 v0).isSome/\True)<|lt (vl (u41 a0.2.1 v0)) fun v1 =>
  if(decide (v1<0)) then
   some (-1)
  else
   gd ((u42 a0.2.2 v1).isSome/\True)<|lt (vl (u42 a0.2.2 v1)) fun v2 =>
   if(decide (v2<0)) then
    some (-1)
   else
    some v2
def k16:Ct:=lct 16 [.agg y29,.dat i64] (fun x=>u16 x.1 x.2.1) (fun r:Int=>I r) (fun _=>())
theorem o16:Ok prog k16:=by
 refine okM [.tmp 4] func16 ?_;intro y ⟨_,_,_⟩ r H Q hn hr;have:=hz (tc o42 (tc o41 (tc o40 tn)));refine iA [1,2]<|iD o40 [1,2] H fun _ H=>vQ<|iA [1,2,10]<|cD H (fun H=>iA [4]<|vTT<|fR<|hr H) fun H=>vK<|fQ<|iD o41 [1,2] H fun _ H=>vQ<|iA [1,2,16]<|cD H (fun H=>iA [4]<|vTT<|fR<|hr H) fun H=>vK<|fQ<|iD o42 [1] H fun _ H=>vQ<|iA [1,22]<|cD H (fun H=>iA [4]<|vTT<|fR<|hr H) fun H=>vK<|fQ<|iA [4]<|vTT<|hr H
def u191(a0:Y242)(a1:Int):Option Int :=
 gd ((u60 a0.1 a1).isSome/\True)<|lt (vl (u60 a0.1 a1)) fun v0 =>
 if(decide (v0<0)) then
  some (-1)
 else
  gd ((u60 a0.2.1 v0).isSome/\True)<|lt (vl (u60 a0.2.1 v0)) fun v1 =>
  if(decide (v1<0)) then
   some (-1)
  else
   gd ((u60 a0.2.2 v1).isSome/\True)<|lt (vl (u60 a0.2.2 v1)) fun v2 =>
   if(decide (v2<0)) then
    some (-1)
   else
    some v2
def k191:Ct:=lct 191 [.agg y242,.dat i64] (fun x=>u191 x.1 x.2.1) (fun r:Int=>I r) (fun _=>())
theorem o191:Ok prog k191:=by
 refine okM [.tmp 4] func191 ?_;intro y ⟨_,_,_⟩ r H Q hn hr;have:=hz (tc o60 tn);refine iA [1,2]<|iD o60 [1,2] H fun _ H=>vQ<|iA [1,2,10]<|cD H (fun H=>iA [4]<|vTT<|fR<|hr H) fun H=>vK<|fQ<|iD o60 [1,2] H fun _ H=>vQ<|iA [1,2,16]<|cD H (fun H=>iA [4]<|vTT<|fR<|hr H) fun H=>vK<|fQ<|iD o60 [1] H fun _ H=>vQ<|iA [1,22]<|cD H (fun H=>iA [4]<|vTT<|fR<|hr H) fun H=>vK<|fQ<|iA [4]<|vTT<|hr H
def u165J0:Int->Option Int
 | v4 =>
 some v4
def u165L1(a0:List Y242)(g1:Int×Int->Option Int):Int×Int->Option Int
 | (v1,v2) =>
 if(decide (v2 < (a0.length:Int))) then
  gd (ix v2 a0.length/\(u191 (a0.getD v2.toNat (dflt y242)) v1).isSome/\True)<|lt (vl (u191 (a0.getD v2.toNat (dflt y242)) v1)) fun v3 =>
  if(decide (v3<0)) then
   some (-1)
  else
   gd (in64 (v2+1)/\True) <|
   g1 (v3,v2+1)
 else
  u165J0 v1
def u165(a0:List Y242)(a1:Int):Option Int :=
 gd (in64 (a1-(a0.length:Int))/\True) <|
 if(decide (a1-(a0.length:Int)<0)) then
  some (-1)
 else
  lp (u165L1 a0) ((a1-(a0.length:Int),0))
def k165:Ct:=lct 165 [.dat y242.sl,.dat i64] (fun x=>u165 x.1 x.2.1) (fun r:Int=>I r) (fun _=>())
theorem o165:Ok prog k165:=by
 refine okM [.tmp 4] func165 ?_;intro y ⟨a0,a1,_⟩ r H Q hn hr;have:=hz (tc o191 tn);refine iA [0,1]<|iB [0,1] H fun H=>vQ<|iA [0,1,11]<|cD H (fun H=>iA [4]<|vTT<|fR<|hr H) fun H=>vK<|fQ<|jN r (fun(v4:Int)=>Z [p 1 (I v4)] []) (u165J0) (fun v4 H=>?_) (fun _ n0 e0 t0=>?_)
 ·refine iA [4]<|vTT<|hr H
 refine iA [0,1,5]<|vB<|lX (fun((v1,v2):Int×Int)=>Z [p 0 (L y242 a0),p 1 (I v1),p 5 (I v2)] []) ((a1-(a0.length:Int),0)) H fun _ g1 b1 e1 t1 ⟨v1,v2⟩ H=>vQ<|iA [0,1,5,15]<|cD H (fun H=>?_) (fun H=>?_)
 ·refine vK<|fQ<|vQ<|vB<|iD o191 [0,1,5] H fun _ H=>iA [0,1,5,25]<|cD H (fun H=>iA [4]<|vTT<|fDD<|fR<|t1<|fDD<|t0<|hr H) fun H=>vK<|fK<|fQ<|jB [0,1,5] H fun H=>b1 H
 exact vE<|fE<|e1<|fX rfl<|n0 H
def u138(a0:Y186)(a1:Int):Option Int :=
 gd ((u165 a0.2.2.2.2.1 a1).isSome/\True)<|lt (vl (u165 a0.2.2.2.2.1 a1)) fun v0 =>
 if(decide (v0<0)) then
  some (-1)
 else
  gd ((u165 a0.2.2.2.2.2 v0).isSome/\True)<|lt (vl (u165 a0.2.2.2.2.2 v0)) fun v1 =>
  if(decide (v1<0)) then
   some (-1)
  else
   some v1
def k138:Ct:=lct 138 [.agg y186,.dat i64] (fun x=>u138 x.1 x.2.1) (fun r:Int=>I r) (fun _=>())
theorem o138:Ok prog k138:=by
 refine okM [.tmp 4] func138 ?_;intro y ⟨_,_,_⟩ r H Q hn hr;have:=hz (tc o165 tn);refine iA [1,2]<|iD o165 [1,2] H fun _ H=>vQ<|iA [1,2,10]<|cD H (fun H=>iA [4]<|vTT<|fR<|hr H) fun H=>vK<|fQ<|iD o165 [1] H fun _ H=>vQ<|iA [1,16]<|cD H (fun H=>iA [4]<|vTT<|fR<|hr H) fun H=>vK<|fQ<|iA [4]<|vTT<|hr H
def u108J0:Int->Option Int
 | v4 =>
 some v4
def u108L1(a0:List Y186)(g1:Int×Int->Option Int):Int×Int->Option Int
 | (v1,v2) =>
 if(decide (v2 < (a0.length:Int))) then
  gd (ix v2 a0.length/\(u138 (a0.getD v2.toNat (dflt y186)) v1).isSome/\True)<|lt (vl (u138 (a0.getD v2.toNat (dflt y186)) v1)) fun v3 =>
  if(decide (v3<0)) then
   some (-1)
  else
   gd (in64 (v2+1)/\True) <|
   g1 (v3,v2+1)
 else
  u108J0 v1
def u108(a0:List Y186)(a1:Int):Option Int :=
 gd (in64 (a1-(a0.length:Int))/\True) <|
 if(decide (a1-(a0.length:Int)<0)) then
  some (-1)
 else
  lp (u108L1 a0) ((a1-(a0.length:Int),0))
def k108:Ct:=lct 108 [.dat y186.sl,.dat i64] (fun x=>u108 x.1 x.2.1) (fun r:Int=>I r) (fun _=>())
theorem o108:Ok prog k108:=by
 refine okM [.tmp 4] func108 ?_;intro y ⟨a0,a1,_⟩ r H Q hn hr;have:=hz (tc o138 tn);refine iA [0,1]<|iB [0,1] H fun H=>vQ<|iA [0,1,11]<|cD H (fun H=>iA [4]<|vTT<|fR<|hr H) fun H=>vK<|fQ<|jN r (fun(v4:Int)=>Z [p 1 (I v4)] []) (u108J0) (fun v4 H=>?_) (fun _ n0 e0 t0=>?_)
 ·refine iA [4]<|vTT<|hr H
 refine iA [0,1,5]<|vB<|lX (fun((v1,v2):Int×Int)=>Z [p 0 (L y186 a0),p 1 (I v1),p 5 (I v2)] []) ((a1-(a0.length:Int),0)) H fun _ g1 b1 e1 t1 ⟨v1,v2⟩ H=>vQ<|iA [0,1,5,15]<|cD H (fun H=>?_) (fun H=>?_)
 ·refine vK<|fQ<|vQ<|vB<|iD o138 [0,1,5] H fun _ H=>iA [0,1,5,25]<|cD H (fun H=>iA [4]<|vTT<|fDD<|fR<|t1<|fDD<|t0<|hr H) fun H=>vK<|fK<|fQ<|jB [0,1,5] H fun H=>b1 H
 exact vE<|fE<|e1<|fX rfl<|n0 H
def u137(a0:Y182)(a1:Int):Option Int :=
 gd (in64 (a1-(a0.1.size:Int))/\True) <|
 if(decide (a1-(a0.1.size:Int)<0)) then
  some (-1)
 else
  some (a1-(a0.1.size:Int))
def k137:Ct:=lct 137 [.agg y182,.dat i64] (fun x=>u137 x.1 x.2.1) (fun r:Int=>I r) (fun _=>())
theorem o137:Ok prog k137:=by
 refine okM [.tmp 4] func137 ?_;intro y ⟨_,_,_⟩ r H Q hn hr;refine iA [1,2]<|iB [1] H fun H=>vQ<|iA [1,11]<|cD H (fun H=>iA [4]<|vTT<|fR<|hr H) fun H=>vK<|fQ<|iA [4]<|vTT<|hr H
def u107J0:Int->Option Int
 | v4 =>
 some v4
def u107L1(a0:List Y182)(g1:Int×Int->Option Int):Int×Int->Option Int
 | (v1,v2) =>
 if(decide (v2 < (a0.length:Int))) then
  gd (ix v2 a0.length/\(u137 (a0.getD v2.toNat (dflt y182)) v1).isSome/\True)<|lt (vl (u137 (a0.getD v2.toNat (dflt y182)) v1)) fun v3 =>
  if(decide (v3<0)) then
   some (-1)
  else
   gd (in64 (v2+1)/\True) <|
   g1 (v3,v2+1)
 else
  u107J0 v1
def u107(a0:List Y182)(a1:Int):Option Int :=
 gd (in64 (a1-(a0.length:Int))/\True) <|
 if(decide (a1-(a0.length:Int)<0)) then
  some (-1)
 else
  lp (u107L1 a0) ((a1-(a0.length:Int),0))
def k107:Ct:=lct 107 [.dat y182.sl,.dat i64] (fun x=>u107 x.1 x.2.1) (fun r:Int=>I r) (fun _=>())
theorem o107:Ok prog k107:=by
 refine okM [.tmp 4] func107 ?_;intro y ⟨a0,a1,_⟩ r H Q hn hr;have:=hz (tc o137 tn);refine iA [0,1]<|iB [0,1] H fun H=>vQ<|iA [0,1,11]<|cD H (fun H=>iA [4]<|vTT<|fR<|hr H) fun H=>vK<|fQ<|jN r (fun(v4:Int)=>Z [p 1 (I v4)] []) (u107J0) (fun v4 H=>?_) (fun _ n0 e0 t0=>?_)
 ·refine iA [4]<|vTT<|hr H
 refine iA [0,1,5]<|vB<|lX (fun((v1,v2):Int×Int)=>Z [p 0 (L y182 a0),p 1 (I v1),p 5 (I v2)] []) ((a1-(a0.length:Int),0)) H fun _ g1 b1 e1 t1 ⟨v1,v2⟩ H=>vQ<|iA [0,1,5,15]<|cD H (fun H=>?_) (fun H=>?_)
 ·refine vK<|fQ<|vQ<|vB<|iD o137 [0,1,5] H fun _ H=>iA [0,1,5,25]<|cD H (fun H=>iA [4]<|vTT<|fDD<|fR<|t1<|fDD<|t0<|hr H) fun H=>vK<|fK<|fQ<|jB [0,1,5] H fun H=>b1 H
 exact vE<|fE<|e1<|fX rfl<|n0 H
def u71(a0:Y128)(a1:Int):Option Int :=
 gd (in64 (a1-(a0.1.size:Int))/\True) <|
 if(decide (a1-(a0.1.size:Int)<0)) then
  some (-1)
 else
  gd ((u107 a0.2.2.1 (a1-(a0.1.size:Int))).isSome/\True)<|lt (vl (u107 a0.2.2.1 (a1-(a0.1.size:Int)))) fun v0 =>
  if(decide (v0<0)) then
   some (-1)
  else
   gd ((u108 a0.2.2.2.1 v0).isSome/\True)<|lt (vl (u108 a0.2.2.2.1 v0)) fun v1 =>
   if(decide (v1<0)) then
    some (-1)
   else
    gd ((u60 a0.2.2.2.2.1 v1).isSome/\True)<|lt (vl (u60 a0.2.2.2.2.1 v1)) fun v2 =>
    if(decide (v2<0)) then
     some (-1)
    else
     some v2
def k71:Ct:=lct 71 [.agg y128,.dat i64] (fun x=>u71 x.1 x.2.1) (fun r:Int=>I r) (fun _=>())
theorem o71:Ok prog k71:=by
 refine okM [.tmp 4] func71 ?_;intro y ⟨_,_,_⟩ r H Q hn hr;have:=hz (tc o60 (tc o108 (tc o107 tn)));refine iA [1,2]<|iB [1,2] H fun H=>vQ<|iA [1,2,11]<|cD H (fun H=>iA [4]<|vTT<|fR<|hr H) fun H=>vK<|fQ<|iD o107 [1,2] H fun _ H=>vQ<|iA [1,2,17]<|cD H (fun H=>iA [4]<|vTT<|fR<|hr H) fun H=>vK<|fQ<|iD o108 [1,2] H fun _ H=>vQ<|iA [1,2,23]<|cD H (fun H=>iA [4]<|vTT<|fR<|hr H) fun H=>vK<|fQ<|iD o60 [1] H fun _ H=>vQ<|iA [1,29]<|cD H (fun H=>iA [4]<|vTT<|fR<|hr H) fun H=>vK<|fQ<|iA [4]<|vTT<|hr H
def u39J0:Int->Option Int
 | v4 =>
 some v4
def u39L1(a0:List Y128)(g1:Int×Int->Option Int):Int×Int->Option Int
 | (v1,v2) =>
 if(decide (v2 < (a0.length:Int))) then
  gd (ix v2 a0.length/\(u71 (a0.getD v2.toNat (dflt y128)) v1).isSome/\True)<|lt (vl (u71 (a0.getD v2.toNat (dflt y128)) v1)) fun v3 =>
  if(decide (v3<0)) then
   some (-1)
  else
   gd (in64 (v2+1)/\True) <|
   g1 (v3,v2+1)
 else
  u39J0 v1
def u39(a0:List Y128)(a1:Int):Option Int :=
 gd (in64 (a1-(a0.length:Int))/\True) <|
 if(decide (a1-(a0.length:Int)<0)) then
  some (-1)
 else
  lp (u39L1 a0) ((a1-(a0.length:Int),0))
def k39:Ct:=lct 39 [.dat y128.sl,.dat i64] (fun x=>u39 x.1 x.2.1) (fun r:Int=>I r) (fun _=>())
theorem o39:Ok prog k39:=by
 refine okM [.tmp 4] func39 ?_;intro y ⟨a0,a1,_⟩ r H Q hn hr;have:=hz (tc o71 tn);refine iA [0,1]<|iB [0,1] H fun H=>vQ<|iA [0,1,11]<|cD H (fun H=>iA [4]<|vTT<|fR<|hr H) fun H=>vK<|fQ<|jN r (fun(v4:Int)=>Z [p 1 (I v4)] []) (u39J0) (fun v4 H=>?_) (fun _ n0 e0 t0=>?_)
 ·refine iA [4]<|vTT<|hr H
 refine iA [0,1,5]<|vB<|lX (fun((v1,v2):Int×Int)=>Z [p 0 (L y128 a0),p 1 (I v1),p 5 (I v2)] []) ((a1-(a0.length:Int),0)) H fun _ g1 b1 e1 t1 ⟨v1,v2⟩ H=>vQ<|iA [0,1,5,15]<|cD H (fun H=>?_) (fun H=>?_)
 ·refine vK<|fQ<|vQ<|vB<|iD o71 [0,1,5] H fun _ H=>iA [0,1,5,25]<|cD H (fun H=>iA [4]<|vTT<|fDD<|fR<|t1<|fDD<|t0<|hr H) fun H=>vK<|fK<|fQ<|jB [0,1,5] H fun H=>b1 H
 exact vE<|fE<|e1<|fX rfl<|n0 H
def u15(a0:List Y128)(a1:Int):Option Int :=
 gd ((u39 a0 a1).isSome/\True)<|lt (vl (u39 a0 a1)) fun v0 =>
 if(decide (v0<0)) then
  some (-1)
 else
  some v0
def k15:Ct:=lct 15 [.agg y128.sl,.dat i64] (fun x=>u15 x.1 x.2.1) (fun r:Int=>I r) (fun _=>())
theorem o15:Ok prog k15:=by
 refine okM [.tmp 4] func15 ?_;intro y ⟨_,_,_⟩ r H Q hn hr;have:=hz (tc o39 tn);refine iA [1,2]<|iD o39 [1] H fun _ H=>vQ<|iA [1,10]<|cD H (fun H=>iA [4]<|vTT<|fR<|hr H) fun H=>vK<|fQ<|iA [4]<|vTT<|hr H
def u5(a0:Y32)(a1:Int):Option Int :=
 gd ((u15 a0.1 a1).isSome/\True)<|lt (vl (u15 a0.1 a1)) fun v0 =>
 if(decide (v0<0)) then
  some (-1)
 else
  gd ((u16 a0.2.1 v0).isSome/\True)<|lt (vl (u16 a0.2.1 v0)) fun v1 =>
  if(decide (v1<0)) then
   some (-1)
  else
   gd ((u17 a0.2.2 v1).isSome/\True)<|lt (vl (u17 a0.2.2 v1)) fun v2 =>
   if(decide (v2<0)) then
    some (-1)
   else
    some v2
def k5:Ct:=lct 5 [.agg y32,.dat i64] (fun x=>u5 x.1 x.2.1) (fun r:Int=>I r) (fun _=>())
theorem o5:Ok prog k5:=by
 refine okM [.tmp 4] func5 ?_;intro y ⟨_,_,_⟩ r H Q hn hr;have:=hz (tc o17 (tc o16 (tc o15 tn)));refine iA [1,2]<|iD o15 [1,2] H fun _ H=>vQ<|iA [1,2,10]<|cD H (fun H=>iA [4]<|vTT<|fR<|hr H) fun H=>vK<|fQ<|iD o16 [1,2] H fun _ H=>vQ<|iA [1,2,16]<|cD H (fun H=>iA [4]<|vTT<|fR<|hr H) fun H=>vK<|fQ<|iD o17 [1] H fun _ H=>vQ<|iA [1,22]<|cD H (fun H=>iA [4]<|vTT<|fR<|hr H) fun H=>vK<|fQ<|iA [4]<|vTT<|hr H
end Go.Proofs.YtekfdfcnjlfgiaaGreatDoor
end
